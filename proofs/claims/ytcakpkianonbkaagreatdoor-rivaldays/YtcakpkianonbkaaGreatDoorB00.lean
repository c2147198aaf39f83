/- Lemmas. No conditions. -/
import Derived.Conc.Own
import Derived.Orders
import Derived.KernelRfl
set_option linter.all false
theorem K1{α:Sort _}{a b:α}(h:a=b:=by kernel_rfl):a=b:=h
theorem O1{p:Prop}(h:p:=by omega):p:=h
theorem S1{p:Prop}(h:p:=by simp):p:=h
theorem T1{p:Prop}(h:p:=by trivial):p:=h
theorem D1{p:Prop}(h:p:=by decide):p:=h
theorem L1{p:Prop}(h:p:=by show _-_<_-_;omega):p:=h
theorem S2{p:Prop}(h:p:=by simp_all):p:=h
theorem S3{p:Prop}(h:p:=by simp;omega):p:=h
open List
namespace Go
abbrev Gr:=Goroutine
def Value.single:Value->Bool
 |.agg _|.tuple _=>false
 |_=>true
end Go
namespace Go.TM
inductive Qw where
 |obj (b:Nat) (o:Obj)
 |cell (b i:Nat) (v:Value) (T:TypeId) (n:Nat)
def Qw.blk:Qw->Nat
 |.obj b _=>b
 |.cell b _ _ _ _=>b
def Qw.ok(w:World):Qw->Prop
 |.obj b o=>w.heap[b]?=some o
 |.cell b i v T n=>∃c,w.heap[b]?=some (.cells c T (0,0))/\c.size=n/\c[i]?=some v
def Qw.apart:Qw->Qw->Prop
 |.cell b i _ _ _,.cell c j _ _ _=>b≠c\/i≠j
 |r,s=>r.blk≠s.blk
structure Qa(T:Type) where
 I:Nat->Option Obj
 M:List Qw
 tok:T
variable{T:Type}
structure Qa.ok(U:Qa T)(w:World):Prop where
 imm:∀b o,U.I b=some o->w.heap[b]?=some o
 held:∀r∈U.M,r.ok w
 apart:U.M.Pairwise Qw.apart
 sep:∀r∈U.M,U.I r.blk=none
def Qa.canW(U:Qa T):Loc->Prop
 |.cell a=>(∃c t fr,Qw.obj a.block (.cells c t fr)∈U.M/\a.off<c.size)\/(∃v t n,Qw.cell a.block a.off v t n∈U.M)
 |.obj b=>∃o,Qw.obj b o∈U.M
 |_=>False
def Qa.canR(U:Qa T):Loc->Prop
 |.cell a=>U.canW (.cell a)\/∃c t fr,U.I a.block=some (.cells c t fr)/\a.off<c.size
 |.obj b=>U.canW (.obj b)\/∃o,U.I b=some o
 |_=>False
def Loc.new(w:World):Loc->Prop
 |.cell a=>w.heap.size<=a.block
 |.obj b=>w.heap.size<=b
 |_=>False
def Mark.still:Mark->Bool
 |.acquire _|.release _|.releaseMerge _|.disable|.enable|.read _|.write _=>false
 |_=>true
def JZ(U:Qa T)(w:World)(e:Event):Prop:=
 match e.loc with
 |.cell a=>e.sync=false/\(if e.write then U.canW (.cell a)\/Loc.new w (.cell a)else U.canR (.cell a)\/Loc.new w (.cell a))
 |.obj b=>e.sync=false/\(if e.write then U.canW (.obj b)\/Loc.new w (.obj b)else U.canR (.obj b)\/Loc.new w (.obj b))
 |.mark m=>Mark.still m=true
 |_=>False
def WD(o b:Os):Prop:=∃d:Nat,b={ o with wall:=o.wall+d,mono:=o.mono+d }
def WD.refl(o:Os):WD o o:=⟨0,rfl⟩
def WD.trans{a b c:Os}(h:WD a b)(k:WD b c):WD a c:=by
 obtain⟨d,rfl⟩:=h;obtain⟨e,rfl⟩:=k;exact⟨d+e,by simp[Nat.add_assoc]⟩
structure ZV(U:Qa T)(w w':World)(U':Qa T):Prop where
 os:WD w.os w'.os
 tape:w'.tape=w.tape
 output:w'.output=w.output
 size:w.heap.size<=w'.heap.size
 cells:∀b c t fr,w.heap[b]?=some (.cells c t fr)->∃c' fr',w'.heap[b]?=some (.cells c' t fr')/\c'.size=c.size/\(∀i,¬U.canW (.cell ⟨b,i,none⟩)->c'[i]?=c[i]?)/\(fr'=fr\/(U.canW (.obj b)/\∀i,i<c.size->U.canW (.cell ⟨b,i,none⟩)))
 objs:∀b o,w.heap[b]?=some o->(∀c t fr,o≠.cells c t fr)->¬U.canW (.obj b)->w'.heap[b]?=some o
 cw:∀l,U'.canW l->U.canW l\/Loc.new w l
 cr:∀l,U'.canR l->U.canR l\/Loc.new w l
def ZV.refl(U:Qa T)(w:World):ZV U w w U:=
 ⟨.refl _,rfl,rfl,Nat.le_refl _,λ _ c _ fr h=>⟨c,fr,h,rfl,λ _ _=>rfl,.inl rfl⟩,λ _ _ h _ _=>h,λ _ h=>.inl h,λ _ h=>.inl h⟩
def Loc.new_mono{w w':World}(h:w.heap.size<=w'.heap.size){l:Loc}(b:Loc.new w' l):Loc.new w l:=by
 cases l <;> simp_all[Loc.new] <;> omega
def Fu{w:World}{b:Nat}{o:Obj}(h:w.heap[b]?=some o)(i:Nat):¬Loc.new w (.cell ⟨b,i,none⟩):=by
 have:=(Array.getElem?_eq_some_iff.1 h).1;simp[Loc.new];omega
def FD{w:World}{b:Nat}{o:Obj}(h:w.heap[b]?=some o):¬Loc.new w (.obj b):=by
 have:=(Array.getElem?_eq_some_iff.1 h).1;simp[Loc.new];omega
def ZV.trans{U Z U2:Qa T}{w L M:World}(h:ZV U w L Z)(k:ZV Z L M U2):ZV U w M U2:=by
 refine⟨h.os.trans k.os,k.tape.trans h.tape,k.output.trans h.output,Nat.le_trans h.size k.size,?_,?_,?_,?_⟩
 .intro b c t fr hb;obtain⟨P,S,F,E,G,H⟩:=h.cells b c t fr hb;obtain⟨Q,V,W,K,X,I⟩:=k.cells b P t S F;refine⟨Q,V,W,K.trans E,λ i N=>?_,?_⟩
  .rw[X i λ e=>?_,G i N];rcases h.cw _ e with e|e
   .exact N e
   .exact Fu hb i e
  .rcases I with rfl|⟨ho,N⟩
   .exact H
   .refine .inr ⟨?_,λ i Y=>?_⟩
    .rcases h.cw _ ho with e|e
     .exact e
     .exact absurd e (FD hb)
    .rcases h.cw _ (N i (by rw[E];exact Y))with e|e
     .exact e
     .exact absurd e (Fu hb i)
 .intro b o hb hne e;have F:=h.objs b o hb hne e;refine k.objs b o F hne λ B=>?_;rcases h.cw _ B with B|B
  .exact e B
  .exact FD hb B
 .intro l z;rcases k.cw l z with z|z
  .exact h.cw l z
  .exact .inr (Loc.new_mono h.size z)
 .intro l z;rcases k.cr l z with z|z
  .exact h.cr l z
  .exact .inr (Loc.new_mono h.size z)
def JZ.of{U G:Qa T}{w F:World}(h:ZV U w F G){e:Event}(B:JZ G F e):JZ U w e:=by
 obtain⟨loc,wr,H⟩:=e;cases loc with
 |cell a=>
  simp only[JZ]at B ⊢;refine⟨B.1,?_⟩;have z:=B.2;split at z <;> rename_i E <;> simp only[E,if_true,if_false,Bool.false_eq_true]
  .rcases z with z|z
   .exact h.cw _ z
   .exact .inr (Loc.new_mono h.size z)
  .rcases z with z|z
   .exact h.cr _ z
   .exact .inr (Loc.new_mono h.size z)
 |obj b=>
  simp only[JZ]at B ⊢;refine⟨B.1,?_⟩;have z:=B.2;split at z <;> rename_i E <;> simp only[E,if_true,if_false,Bool.false_eq_true]
  .rcases z with z|z
   .exact h.cw _ z
   .exact .inr (Loc.new_mono h.size z)
  .rcases z with z|z
   .exact h.cr _ z
   .exact .inr (Loc.new_mono h.size z)
 |output=>exact B
 |goroutines=>exact B
 |mark m=>exact B
def Qa.sees(U:Qa T)(a:Addr)(v:Value):Prop:=
 a.spot=none/\((∃c t fr,(U.I a.block=some (.cells c t fr)\/Qw.obj a.block (.cells c t fr)∈U.M)/\c[a.off]?=some v)\/(∃t n,Qw.cell a.block a.off v t n∈U.M))
def Qa.has(U:Qa T)(b:Nat)(o:Obj):Prop:=U.I b=some o\/Qw.obj b o∈U.M
inductive H3(a:Addr)(v:Value):List Qw->List Qw->Prop
 |obj {c t M}:a.spot=none->a.off<c.size->H3 a v (.obj a.block (.cells c t (0,0))::M) (.obj a.block (.cells (c.setIfInBounds a.off v) t (0,0))::M)
 |cell {u t n M}:a.spot=none->H3 a v (.cell a.block a.off u t n::M) (.cell a.block a.off v t n::M)
 |there {r M M'}:H3 a v M M'->H3 a v (r::M) (r::M')
inductive J7(b:Nat)(o':Obj):Obj->List Qw->List Qw->Prop
 |here {o M}:J7 b o' o (.obj b o::M) (.obj b o'::M)
 |there {o r M M'}:J7 b o' o M M'->J7 b o' o (r::M) (r::M')
def Obj.shapeOf:Obj->Option (TypeId×Nat)
 |.cells c t _=>some (t,c.size)
 |_=>none
def Obj.isCells:Obj->Bool
 |.cells ..=>true
 |_=>false
def Qa.put(U:Qa T)(b:Nat)(o:Obj):Qa T:={ U with M:=.obj b o::U.M }
def Qa.free(U:Qa T)(b:Nat):Prop:=U.I b=none/\∀r∈U.M,r.blk≠b
def Qr(P:Program){α:Type}:Sem α->(α->Qa T->Prop)->Qa T->Prop
 |.pure a,Q,U=>Q a U
 |.load m a k,Q,U=>m=.plain/\∃v,U.sees a v/\Qr P (k v) Q U
 |.store m a v k,Q,U=>m=.plain/\v.single=true/\∃M',H3 a v U.M M'/\Qr P k Q { U with M:=M' }
 |.new o k,Q,U=>∀b,U.free b->Qr P (k b) Q (U.put b o)
 |.shape r k,Q,U=>∃o,U.has r o/\Qr P (k (Obj.shapeOf o)) Q U
 |.freeze a n k,Q,U=>n≠0/\∃c t M',U.M=.obj a.block (.cells c t (0,0))::M'/\Qr P k Q { U with M:=.obj a.block (.cells c t (a.off,a.off+n))::M' }
 |.frozen a k,Q,U=>∃c t,U.has a.block (.cells c t (0,0))/\Qr P (k false) Q U
 |.getObj r k,Q,U=>∃o,U.has r o/\Obj.isCells o=false/\o.isChan=false/\Qr P (k o) Q U
 |.setObj r o k,Q,U=>∃e M',J7 r o e U.M M'/\Obj.isCells e=false/\Obj.isCells o=false/\o.isChan=false/\Qr P k Q { U with M:=M' }
 |.choose q k,Q,U=>if q.forced then Qr P (k 0) Q U else ∀t,Qr P (k (q.cut t)) Q U
 |.sys _ _,_,_=>False
 |.program k,Q,U=>Qr P (k P) Q U
 |.mark m k,Q,U=>Mark.still m=true/\Qr P k Q U
 |.halt _,_,_=>False
def Qa.sees_cell{U:Qa T}{w:World}(h:U.ok w){a:Addr}{v:Value}(E:U.sees a v):w.cell? a=some v/\U.canR (.cell a):=by
 obtain⟨e,⟨c,t,fr,b,z⟩|⟨t,n,B⟩⟩:=E
 .have hlt:a.off<c.size:=(Array.getElem?_eq_some_iff.1 z).1;rcases b with b|b
  .exact⟨by simp[World.cell?,h.imm _ _ b,e,z],.inr ⟨c,t,fr,b,hlt⟩⟩
  .have:=h.held _ b;simp only[Qw.ok]at this;exact⟨by simp[World.cell?,this,e,z],.inl (.inl ⟨c,t,fr,b,hlt⟩)⟩
 .obtain⟨c,b,_,z⟩:=h.held _ B;exact⟨by simp[World.cell?,b,e,z],.inl (.inr ⟨v,t,n,B⟩)⟩
def Qa.has_heap{U:Qa T}{w:World}(h:U.ok w){b:Nat}{o:Obj}(e:U.has b o):w.heap[b]?=some o:=by
 rcases e with e|e
 .exact h.imm _ _ e
 .exact h.held _ e
def RR(w:World)(a:Addr)(v:Value)(c:Array Value)(t:TypeId)(fr:Nat×Nat)(b:a.spot=none)(h:w.heap[a.block]?=some (.cells c t fr)) :
  (w.setCell a v).heap[a.block]?=some (.cells (c.setIfInBounds a.off v) t fr):=by
 simp[World.setCell,Array.getElem?_modify,h,b]
def W4(w:World)(a:Addr)(v:Value){b:Nat}(h:b≠a.block):(w.setCell a v).heap[b]?=w.heap[b]?:=by
 simp only[World.setCell,Array.getElem?_modify];rw[if_neg (λ e=>h e.symm)]
def RS(w:World)(a:Addr)(v:Value):(w.setCell a v).heap.size=w.heap.size:=by simp[World.setCell]
inductive WL(a:Addr)(v:Value):Qw->Qw->Prop
 |obj {b c t}:b=a.block->a.spot=none->a.off<c.size->WL a v (.obj b (.cells c t (0,0))) (.obj b (.cells (c.setIfInBounds a.off v) t (0,0)))
 |cell {b i u t n}:b=a.block->i=a.off->a.spot=none->WL a v (.cell b i u t n) (.cell b i v t n)
def H3.split{a:Addr}{v:Value}{M M':List Qw}(h:H3 a v M M'):∃M₁ r e M₂,M=M₁++r::M₂/\M'=M₁++e::M₂/\WL a v r e:=by
 induction h with
 |obj b w=>exact⟨[],_,_,_,rfl,rfl,.obj rfl b w⟩
 |cell b=>exact⟨[],_,_,_,rfl,rfl,.cell rfl rfl b⟩
 |there _ B=>obtain⟨M₁,r,e,M₂,rfl,rfl,z⟩:=B;exact⟨_::M₁,r,e,M₂,rfl,rfl,z⟩
def J7.split{b:Nat}{e o:Obj}{M M':List Qw}(h:J7 b e o M M'):∃M₁ M₂,M=M₁++.obj b o::M₂/\M'=M₁++.obj b e::M₂:=by
 induction h with
 |here=>exact⟨[],_,rfl,rfl⟩
 |there _ w=>obtain⟨M₁,M₂,rfl,rfl⟩:=w;exact⟨_::M₁,M₂,rfl,rfl⟩
def WL.blk{a:Addr}{v:Value}{r s:Qw}(h:WL a v r s):s.blk=r.blk:=by cases h <;> rfl
def WL.blk'{a:Addr}{v:Value}{r s:Qw}(h:WL a v r s):r.blk=a.block:=by cases h <;> simp_all[Qw.blk]
def WL.apart{a:Addr}{v:Value}{r s:Qw}(h:WL a v r s)(x:Qw):s.apart x↔r.apart x:=by
 cases h <;> cases x <;> simp[Qw.apart,Qw.blk]
def Qw.apart_symm{r s:Qw}(h:r.apart s):s.apart r:=by
 cases r <;> cases s <;> simp_all[Qw.apart,Qw.blk,eq_comm]
def WL.apart'{a:Addr}{v:Value}{r s:Qw}(h:WL a v r s)(x:Qw):x.apart s↔x.apart r:=
 ⟨λ k=>Qw.apart_symm ((h.apart x).1 (Qw.apart_symm k)),λ k=>Qw.apart_symm ((h.apart x).2 (Qw.apart_symm k))⟩
def Qw.lets:Qw->Loc->Prop
 |.obj b (.cells c _ _),.cell a=>a.block=b/\a.off<c.size
 |.cell b i _ _ _,.cell a=>a.block=b/\a.off=i
 |.obj b _,.obj e=>e=b
 |_,_=>False
def Q8{U:Qa T}{l:Loc}:U.canW l↔∃r∈U.M,r.lets l:=by
 cases l with
 |cell a=>
  simp only[Qa.canW];constructor
  .rintro(⟨c,t,fr,hm,e⟩|⟨v,t,n,hm⟩)
   .exact⟨_,hm,rfl,e⟩
   .exact⟨_,hm,rfl,rfl⟩
  .rintro⟨r,hr,hl⟩;cases r with
   |obj b o=>
    cases o <;> simp only[Qw.lets]at hl;obtain⟨rfl,e⟩:=hl;exact .inl ⟨_,_,_,hr,e⟩
   |cell b i v t n=>
    simp only[Qw.lets]at hl;obtain⟨rfl,rfl⟩:=hl;exact .inr ⟨_,_,_,hr⟩
 |obj b=>
  simp only[Qa.canW];constructor
  .rintro⟨o,h⟩;exact⟨_,h,by cases o <;> rfl⟩
  .rintro⟨r,hr,hl⟩;cases r with
   |obj w o=>refine⟨o,?_⟩;cases o <;> (simp only[Qw.lets]at hl;exact hl▸hr)
   |cell w i v t n=>exact hl.elim
 |output=>simp[Qa.canW];intro r _ h;cases r with|obj b o=>cases o <;> exact h|cell=>exact h
 |goroutines=>simp[Qa.canW];intro r _ h;cases r with|obj b o=>cases o <;> exact h|cell=>exact h
 |mark _=>simp[Qa.canW];intro r _ h;cases r with|obj b o=>cases o <;> exact h|cell=>exact h
def WL.lets{a:Addr}{v:Value}{r s:Qw}(h:WL a v r s)(l:Loc):s.lets l↔r.lets l:=by
 cases h <;> cases l <;> simp[Qw.lets]
def WL.canAt{a:Addr}{v:Value}{r s:Qw}(h:WL a v r s):r.lets (.cell a):=by
 cases h <;> simp_all[Qw.lets]
def Qz{U:Qa T}{l:Loc}:U.canR l↔(∃r∈U.M,r.lets l)\/(match l with|.cell a=>∃c t fr,U.I a.block=some (.cells c t fr)/\a.off<c.size|.obj b=>∃o,U.I b=some o|_=>False):=by
 have:=Q8 (U:=U) (l:=l);cases l <;> simp only[Qa.canR,<- this] <;> simp[Qa.canW]
def gB{U:Qa T}{w:World}(h:U.ok w){a:Addr}{v:Value}{M':List Qw}(hu:H3 a v U.M M') :
  (∃u,w.cell? a=some u)/\w.frozen? a=false/\U.canW (.cell a)/\Qa.ok { U with M:=M' } (w.setCell a v)/\ZV U w (w.setCell a v) { U with M:=M' }:=by
 obtain⟨M₁,r,r',M₂,S,rfl,G⟩:=hu.split;have X:r∈U.M:=by rw[S];simp
 have aa:U.canW (.cell a):=Q8.2 ⟨r,X,G.canAt⟩;have N:=h.held r X;have Y:a.spot=none:=by cases G <;> assumption
 obtain⟨c,t,K,Q⟩:∃c t,w.heap[a.block]?=some (.cells c t (0,0))/\a.off<c.size:=by
  cases G with
  |obj e _ Q=>subst e;exact⟨_,_,N,Q⟩
  |cell e e' _=>subst e;subst e';obtain⟨c,K,_,hc⟩:=N;exact⟨c,_,K,(Array.getElem?_eq_some_iff.1 hc).1⟩
 have H:=RR w a v c t (0,0) Y K
 have L:∀l,(∃s∈M₁++r'::M₂,s.lets l)↔∃s∈U.M,s.lets l:=by
  intro l;rw[S];simp only[mem_append,mem_cons];constructor
  .rintro⟨s,B|rfl|B,hl'⟩
   .exact⟨s,.inl B,hl'⟩
   .exact⟨r,.inr (.inl rfl),(G.lets l).1 hl'⟩
   .exact⟨s,.inr (.inr B),hl'⟩
  .rintro⟨s,B|rfl|B,hl'⟩
   .exact⟨s,.inl B,hl'⟩
   .exact⟨r',.inr (.inl rfl),(G.lets l).2 hl'⟩
   .exact⟨s,.inr (.inr B),hl'⟩
 have z:=h.apart;rw[S]at z;refine⟨⟨c[a.off],by simp[World.cell?,K,Y,Q]⟩,by simp[World.frozen?,K],aa,⟨?_,?_,?_,?_⟩,?_⟩
 .intro b o hI
  have E:b≠a.block:=by
   intro e;have:=h.sep r X;rw[G.blk',<- e,hI]at this;cases this
  rw[W4 _ _ _ E];exact h.imm b o hI
 .intro s B;simp only[mem_append,mem_cons]at B
  have P:∀s,s∈U.M->r.apart s->s.ok (w.setCell a v):=by
   intro s B z;have W:=h.held s B;cases s with
   |obj b o=>
    have E:b≠a.block:=by
     cases G <;> simp_all[Qw.apart,Qw.blk] <;> exact λ e=>z e.symm
    simp only[Qw.ok]at W ⊢;rw[W4 _ _ _ E];exact W
   |cell b i u t' n=>
    obtain⟨Z,F,hn,V⟩:=W;by_cases E:b=a.block
    .subst E;cases G with
     |obj e _ _=>exact absurd e.symm (by simpa[Qw.apart,Qw.blk]using λ e=>z e.symm)
     |cell e e' _=>
      have hi:i≠a.off:=by
       simp[Qw.apart]at z;rcases z with z|z
       .exact absurd e z
       .exact λ x=>z (e'.trans x.symm)
      rw[K]at F;cases F;refine⟨c.setIfInBounds a.off v,H,by simpa using hn,?_⟩;rw[Array.getElem?_setIfInBounds_ne (λ x=>hi x.symm)];exact V
    .exact⟨Z,by rw[W4 _ _ _ E];exact F,hn,V⟩
  rw[pairwise_append,pairwise_cons]at z;rcases B with B|rfl|B
  .exact P s (by rw[S];simp[B]) (Qw.apart_symm (z.2.2 s B r S1))
  .cases G with
   |obj e _ _=>subst e;simp only[Qw.ok]at N ⊢;rw[N]at K;cases K;exact H
   |cell e e' _=>
    subst e;subst e';obtain⟨Z,F,hn,V⟩:=N;rw[K]at F;cases F;exact⟨_,H,by simpa using hn,by rw[Array.getElem?_setIfInBounds_self_of_lt Q]⟩
  .exact P s (by rw[S];simp[B]) (z.2.1.1 s B)
 .show Pairwise Qw.apart (M₁++r'::M₂);rw[pairwise_append,pairwise_cons]at z ⊢;refine⟨z.1,⟨λ s B=>(G.apart s).2 (z.2.1.1 s B),z.2.1.2⟩,λ s B x hx=>?_⟩;rcases mem_cons.1 hx with rfl|hx
  .exact(G.apart' s).2 (z.2.2 s B r S1)
  .exact z.2.2 s B x (by simp[hx])
 .intro s B;show U.I s.blk=none;simp only[mem_append,mem_cons]at B;rcases B with B|rfl|B
  .exact h.sep s (by rw[S];simp[B])
  .rw[G.blk];exact h.sep r X
  .exact h.sep s (by rw[S];simp[B])
 .refine⟨.refl _,rfl,rfl,by rw[RS];exact Nat.le_refl _,?_,?_,?_,?_⟩
  .intro b Z t' fr F;by_cases E:b=a.block
   .subst E;rw[K]at F;cases F;refine⟨_,_,H,S1,λ i hi=>?_,.inl rfl⟩;rw[Array.getElem?_setIfInBounds_ne];rintro rfl;refine hi (Q8.2 ⟨r,X,?_⟩);have:=G.canAt;cases G <;> simp_all[Qw.lets]
   .exact⟨Z,fr,by rw[W4 _ _ _ E];exact F,rfl,λ _ _=>rfl,.inl rfl⟩
  .intro b o ho E _;by_cases e:b=a.block
   .subst e;rw[K]at ho;cases ho;exact absurd rfl (E _ _ _)
   .rw[W4 _ _ _ e];exact ho
  .intro l hl';rw[Q8]at hl' ⊢;exact .inl ((L l).1 hl')
  .intro l hl';rw[Qz]at hl' ⊢;exact .inl (hl'.imp (L l).1 id)
def World.plus(w:World)(o:Obj):World:={ w with heap:=w.heap.push o }
def d_{U:Qa T}{w:World}(h:U.ok w)(o:Obj) :
  U.free w.heap.size/\Qa.ok (U.put w.heap.size o) (World.plus w o)/\ZV U w (World.plus w o) (U.put w.heap.size o):=by
 have B:∀b,b<w.heap.size->(World.plus w o).heap[b]?=w.heap[b]?:=λ b G=>by
  simp only[World.plus,Array.getElem?_push];rw[if_neg O1]
 have H:∀r∈U.M,r.blk<w.heap.size:=by
  intro r z;have:=h.held r z;cases r with
  |obj b o=>exact(Array.getElem?_eq_some_iff.1 this).1
  |cell b i v t n=>obtain⟨c,G,_⟩:=this;exact(Array.getElem?_eq_some_iff.1 G).1
 have E:U.free w.heap.size:=by
  refine⟨?_,λ r z e=>by have:=H r z;omega⟩;cases e:U.I w.heap.size with
  |none=>rfl
  |some x=>have:=(Array.getElem?_eq_some_iff.1 (h.imm _ _ e)).1;omega
 have L:∀b K,U.I b=some K->b<w.heap.size:=λ b K e=>(Array.getElem?_eq_some_iff.1 (h.imm _ _ e)).1;refine⟨E,⟨λ b K e=>by rw[B _ (L b K e)];exact h.imm b K e,?_,?_,?_⟩,?_⟩
 .intro r z;rcases mem_cons.1 z with rfl|z
  .simp[Qw.ok,World.plus]
  .have:=h.held r z;cases r with
   |obj b K=>exact(B b (H _ z)).trans this
   |cell b i v t n=>obtain⟨c,G,x⟩:=this;exact⟨c,(B b (H _ z)).trans G,x⟩
 .refine pairwise_cons.2 ⟨λ r z=>?_,h.apart⟩;have:=H r z;cases r <;> simp_all[Qw.apart,Qw.blk] <;> omega
 .intro r z;rcases mem_cons.1 z with rfl|z
  .exact E.1
  .exact h.sep r z
 .refine⟨.refl _,rfl,rfl,by simp[World.plus],?_,?_,?_,?_⟩
  .intro b c t fr G;exact⟨c,fr,by rw[B _ (Array.getElem?_eq_some_iff.1 G).1];exact G,rfl,λ _ _=>rfl,.inl rfl⟩
  .intro b K G _ _;rw[B _ (Array.getElem?_eq_some_iff.1 G).1];exact G
  .intro l F;rw[Q8]at F ⊢;obtain⟨r,z,F⟩:=F;rcases mem_cons.1 z with rfl|z
   .refine .inr ?_;cases l <;> cases o <;> simp_all[Qw.lets,Loc.new]
   .exact .inl ⟨r,z,F⟩
  .intro l F;rw[Qz]at F ⊢;rcases F with⟨r,z,F⟩|F
   .rcases mem_cons.1 z with rfl|z
    .refine .inr ?_;cases l <;> cases o <;> simp_all[Qw.lets,Loc.new]
    .exact .inl (.inl ⟨r,z,F⟩)
   .exact .inl (.inr F)
def k_{U:Qa T}{w:World}(h:U.ok w){b:Nat}{F o:Obj}{M':List Qw}(hu:J7 b F o U.M M')(h1:Obj.isCells o=false)(h2:Obj.isCells F=false) :
  w.heap[b]?=some o/\U.canW (.obj b)/\Qa.ok { U with M:=M' } { w with heap:=w.heap.setIfInBounds b F }/\ZV U w { w with heap:=w.heap.setIfInBounds b F } { U with M:=M' }:=by
 obtain⟨M₁,M₂,P,rfl⟩:=hu.split;have X:Qw.obj b o∈U.M:=by rw[P];simp
 have Z:w.heap[b]?=some o:=h.held _ X;have ab:=(Array.getElem?_eq_some_iff.1 Z).1;have S:U.canW (.obj b):=⟨o,X⟩;have z:=h.apart;rw[P]at z
 have E:∀x,x≠b->(w.heap.setIfInBounds b F)[x]?=w.heap[x]?:=λ x W=>by
  rw[Array.getElem?_setIfInBounds_ne (λ e=>W e.symm)]
 have K:∀l,(Qw.obj b F).lets l↔(Qw.obj b o).lets l:=by
  intro l;cases o <;> cases F <;> simp_all[Obj.isCells] <;> cases l <;> simp[Qw.lets]
 have N:∀l,(∃s∈M₁++Qw.obj b F::M₂,s.lets l)↔∃s∈U.M,s.lets l:=by
  intro l;rw[P];simp only[mem_append,mem_cons];constructor
  .rintro⟨s,B|rfl|B,hl'⟩
   .exact⟨s,.inl B,hl'⟩
   .exact⟨_,.inr (.inl rfl),(K l).1 hl'⟩
   .exact⟨s,.inr (.inr B),hl'⟩
  .rintro⟨s,B|rfl|B,hl'⟩
   .exact⟨s,.inl B,hl'⟩
   .exact⟨_,.inr (.inl rfl),(K l).2 hl'⟩
   .exact⟨s,.inr (.inr B),hl'⟩
 have Q:∀x,(Qw.obj b F).apart x↔(Qw.obj b o).apart x:=λ x=>by cases x <;> simp[Qw.apart,Qw.blk]
 refine⟨Z,S,⟨?_,?_,?_,?_⟩,?_⟩
 .intro x ox hI;have G:x≠b:=by rintro rfl;have:=h.sep _ X;simp only[Qw.blk]at this;rw[hI]at this;cases this
  show(w.heap.setIfInBounds b F)[x]?=_;rw[E x G];exact h.imm x ox hI
 .intro s B
  have L:∀s,s∈U.M->(Qw.obj b o).apart s->s.ok { w with heap:=w.heap.setIfInBounds b F }:=by
   intro s B z;have V:=h.held s B;cases s with
   |obj x ox=>
    have G:x≠b:=by simp[Qw.apart,Qw.blk]at z;exact λ e=>z e.symm
    show(w.heap.setIfInBounds b F)[x]?=_;rw[E x G];exact V
   |cell x i u t n=>
    have G:x≠b:=by simp[Qw.apart,Qw.blk]at z;exact λ e=>z e.symm
    obtain⟨Y,H,hn,aa⟩:=V;exact⟨Y,(E x G).trans H,hn,aa⟩
  simp only[mem_append,mem_cons]at B;rw[pairwise_append,pairwise_cons]at z;rcases B with B|rfl|B
  .exact L s (by rw[P];simp[B]) (Qw.apart_symm (z.2.2 s B _ S1))
  .show(w.heap.setIfInBounds b F)[b]?=_;rw[Array.getElem?_setIfInBounds_self_of_lt ab]
  .exact L s (by rw[P];simp[B]) (z.2.1.1 s B)
 .show Pairwise Qw.apart (M₁++Qw.obj b F::M₂);rw[pairwise_append,pairwise_cons]at z ⊢;refine⟨z.1,⟨λ s B=>(Q s).2 (z.2.1.1 s B),z.2.1.2⟩,λ s B x W=>?_⟩;rcases mem_cons.1 W with rfl|W
  .exact Qw.apart_symm ((Q s).2 (Qw.apart_symm (z.2.2 s B _ S1)))
  .exact z.2.2 s B x (by simp[W])
 .intro s B;show U.I s.blk=none;simp only[mem_append,mem_cons]at B;rcases B with B|rfl|B
  .exact h.sep s (by rw[P];simp[B])
  .exact(h.sep _ X:U.I b=none)
  .exact h.sep s (by rw[P];simp[B])
 .refine⟨.refl _,rfl,rfl,S1,?_,?_,?_,?_⟩
  .intro x Y t' fr H;by_cases e:x=b
   .subst e;rw[Z]at H;cases H;simp[Obj.isCells]at h1
   .exact⟨Y,fr,(E x e).trans H,rfl,λ _ _=>rfl,.inl rfl⟩
  .intro x ox ho G hw;by_cases e:x=b
   .subst e;exact absurd S hw
   .exact(E x e).trans ho
  .intro l hl';rw[Q8]at hl' ⊢;exact .inl ((N l).1 hl')
  .intro l hl';rw[Qz]at hl' ⊢;exact .inl (hl'.imp (N l).1 id)
def IL(w:World)(a:Addr)(n:Nat)(b:n≠0)(c:Array Value)(t:TypeId)(h:w.heap[a.block]?=some (.cells c t (0,0))):(w.freeze a n).heap[a.block]?=some (.cells c t (a.off,a.off+n)):=by
 simp[World.freeze,b,Array.getElem?_modify,h]
def PA(w:World)(a:Addr)(n:Nat){b:Nat}(h:b≠a.block):(w.freeze a n).heap[b]?=w.heap[b]?:=by
 unfold World.freeze;split
 .rfl
 .simp only[Array.getElem?_modify];rw[if_neg (λ e=>h e.symm)]
def A_(w:World)(a:Addr)(n:Nat):(w.freeze a n).heap.size=w.heap.size:=by unfold World.freeze;split <;> simp
def TT(w:World)(a:Addr)(n:Nat):(w.freeze a n).os=w.os/\(w.freeze a n).tape=w.tape/\(w.freeze a n).output=w.output:=by unfold World.freeze;split <;> exact⟨rfl,rfl,rfl⟩
def kZ{U:Qa T}{w:World}(h:U.ok w){a:Addr}{n:Nat}(S:n≠0){c:Array Value}{t:TypeId}{M':List Qw}(H:U.M=.obj a.block (.cells c t (0,0))::M') :
  Qa.ok { U with M:=.obj a.block (.cells c t (a.off,a.off+n))::M' } (w.freeze a n)/\ZV U w (w.freeze a n) { U with M:=.obj a.block (.cells c t (a.off,a.off+n))::M' }:=by
 have K:Qw.obj a.block (.cells c t (0,0))∈U.M:=by rw[H];simp
 have N:w.heap[a.block]?=some (.cells c t (0,0)):=h.held _ K;have F:=h.apart;rw[H,pairwise_cons]at F;have B:∀l,(Qw.obj a.block (.cells c t (a.off,a.off+n))).lets l↔(Qw.obj a.block (.cells c t (0,0))).lets l:=λ l=>by cases l <;> rfl
 have E:∀l,(∃s∈Qw.obj a.block (.cells c t (a.off,a.off+n))::M',s.lets l)↔∃s∈U.M,s.lets l:=by
  intro l;rw[H];constructor
  .rintro⟨s,z,hl⟩;rcases mem_cons.1 z with rfl|z
   .exact⟨_,mem_cons_self ..,(B l).1 hl⟩
   .exact⟨s,mem_cons_of_mem _ z,hl⟩
  .rintro⟨s,z,hl⟩;rcases mem_cons.1 z with rfl|z
   .exact⟨_,mem_cons_self ..,(B l).2 hl⟩
   .exact⟨s,mem_cons_of_mem _ z,hl⟩
 have ne:∀r∈M',r.blk≠a.block:=λ r G e=>by
  have:=F.1 r G;cases r <;> simp_all[Qw.apart,Qw.blk]
 refine⟨⟨λ b o Q=>?_,λ s z=>?_,?_,λ s z=>?_⟩,?_⟩
 .have:b≠a.block:=by rintro rfl;have:=h.sep _ K;simp only[Qw.blk]at this;rw[Q]at this;cases this
  rw[PA _ _ _ this];exact h.imm b o Q
 .rcases mem_cons.1 z with rfl|z
  .exact IL w a n S c t N
  .have hne:=ne s z;have L:=h.held s (by rw[H];simp[z]);cases s with
   |obj b o=>exact(PA w a n hne).trans L
   |cell b i v t n'=>obtain⟨P,V,W⟩:=L;exact⟨P,(PA w a n hne).trans V,W⟩
 .show Pairwise Qw.apart (_::M');rw[pairwise_cons];refine⟨λ r G=>?_,F.2⟩;have:=ne r G;cases r <;> simp_all[Qw.apart,Qw.blk] <;> exact λ e=>this e.symm
 .rcases mem_cons.1 z with rfl|z
  .exact(h.sep _ K:U.I a.block=none)
  .exact h.sep s (by rw[H];simp[z])
 .refine⟨by rw[(TT w a n).1];exact .refl _,(TT w a n).2.1,(TT w a n).2.2,by rw[A_];exact Nat.le_refl _,?_,?_,?_,?_⟩
  .intro b P t' fr hb';by_cases e:b=a.block
   .subst e;rw[N]at hb';cases hb';exact⟨c,_,IL w a n S c t N,rfl,λ _ _=>rfl,.inr ⟨Q8.2 ⟨_,K,rfl⟩,λ i X=>Q8.2 ⟨_,K,rfl,X⟩⟩⟩
   .exact⟨P,fr,by rw[PA _ _ _ e];exact hb',rfl,λ _ _=>rfl,.inl rfl⟩
  .intro b o ho hne _;by_cases e:b=a.block
   .subst e;rw[N]at ho;cases ho;exact absurd rfl (hne _ _ _)
   .rw[PA _ _ _ e];exact ho
  .intro l hl;rw[Q8]at hl ⊢;exact .inl ((E l).1 hl)
  .intro l hl;rw[Qz]at hl ⊢;exact .inl (hl.imp (E l).1 id)
def ES{U:Qa T}{w:World}(h:U.ok w)(d:Nat):U.ok { w with drawn:=d }:=⟨h.imm,h.held,h.apart,h.sep⟩
def TE(U:Qa T)(w:World)(d:Nat):ZV U w { w with drawn:=d } U:=
 ⟨.refl _,rfl,rfl,Nat.le_refl _,λ _ c _ fr h=>⟨c,fr,h,rfl,λ _ _=>rfl,.inl rfl⟩,λ _ _ h _ _=>h,λ _ h=>.inl h,λ _ h=>.inl h⟩
def H5(w:World)(e:Event):Prop:=
 match e.loc with
 |.cell a=>a.block<w.heap.size
 |.obj b=>b<w.heap.size
 |_=>True
def H5.mono{w w':World}{e:Event}(h:H5 w e)(b:w.heap.size<=w'.heap.size):H5 w' e:=by
 obtain⟨loc,wr,z⟩:=e;cases loc <;> simp only[H5]at h ⊢ <;> omega
def MZ{w:World}{a:Addr}{v:Value}(h:w.cell? a=some v):a.block<w.heap.size:=by
 apply Classical.byContradiction;intro b;have:w.heap[a.block]?=none:=Array.getElem?_eq_none (Nat.le_of_not_lt b);simp[World.cell?,this]at h
def Qr.sound{P:Program}{α:Type}(s:Sem α):∀{Q:α->Qa T->Prop}{U:Qa T}{w:World}{es₀:Array Event},Qr P s Q U->U.ok w ->
  ∃a w' es U',s.runT P w es₀=(.ok a w',es₀++es)/\(∀e∈es,JZ U w e/\H5 w' e)/\ZV U w w' U'/\U'.ok w'/\Q a U'/\U'.tok=U.tok:=by
 induction s with
 |pure a=>exact λ{Q U w es₀}h ok=>⟨a,w,#[],U,by simp[Sem.runT],S1,.refl _ _,ok,h,rfl⟩
 |load m a k K=>
  intro Q U w es₀ h ok;obtain⟨rfl,v,hs,h⟩:=h;obtain⟨W,hr⟩:=Qa.sees_cell ok hs;obtain⟨x,w',es,U',b,z,F,B,H⟩:=K v (es₀:=es₀.push ⟨.cell a,false,false⟩) h ok;refine⟨x,w',#[⟨.cell a,false,false⟩]++es,U',?_,?_,F,B,H⟩
  .simp only[Sem.runT,W];rw[show(Mode.plain==Mode.atomic)=false from rfl,b];simp
  .intro e E;rcases Array.mem_append.1 E with E|E
   .simp at E;subst E;exact⟨⟨rfl,.inl hr⟩,Nat.lt_of_lt_of_le (MZ W) F.size⟩
   .exact z e E
 |store m a v k K=>
  intro Q U w es₀ h ok;obtain⟨rfl,hv,M',hu,h⟩:=h;obtain⟨⟨u,W⟩,X,S,I,G⟩:=gB ok hu;obtain⟨x,w',es,U',b,z,F,B,H⟩:=K (es₀:=es₀.push ⟨.cell a,true,false⟩) h I;refine⟨x,w',#[⟨.cell a,true,false⟩]++es,U',?_,?_,G.trans F,B,H⟩
  .have:Sem.runT P (.store .plain a v k) w es₀=k.runT P (w.setCell a v) (es₀.push ⟨.cell a,true,false⟩):=by
    cases v <;> first|(simp[Value.single]at hv;done)|(simp only[Sem.runT,W,X];rfl)
   rw[this,b];simp
  .intro e E;rcases Array.mem_append.1 E with E|E
   .simp at E;subst E;exact⟨⟨rfl,.inl S⟩,Nat.lt_of_lt_of_le (MZ W) (G.trans F).size⟩
   .exact⟨JZ.of G (z e E).1,(z e E).2⟩
 |new o k K=>
  intro Q U w es₀ h ok;obtain⟨X,I,G⟩:=d_ ok o;obtain⟨x,w',es,U',b,z,F,B,H⟩:=K w.heap.size (es₀:=es₀) (h _ X) I;exact⟨x,w',es,U',b,λ e E=>⟨JZ.of G (z e E).1,(z e E).2⟩,G.trans F,B,H⟩
 |shape r k K=>
  intro Q U w es₀ h ok;obtain⟨o,M,h⟩:=h;have L:=Qa.has_heap ok M
  have Z:w.shape? r=Obj.shapeOf o:=by
   simp only[World.shape?,L];cases o <;> rfl
  obtain⟨x,w',es,U',b,z,F,B,H⟩:=K _ (es₀:=es₀) h ok;exact⟨x,w',es,U',by simp only[Sem.runT];rw[Z];exact b,z,F,B,H⟩
 |freeze a n k K=>
  intro Q U w es₀ h ok;obtain⟨hn,c,t,M',hM,h⟩:=h;obtain⟨I,G⟩:=kZ ok hn hM;obtain⟨x,w',es,U',b,z,F,B,H⟩:=K (es₀:=es₀) h I;exact⟨x,w',es,U',by simpa only[Sem.runT]using b,λ e E=>⟨JZ.of G (z e E).1,(z e E).2⟩,G.trans F,B,H⟩
 |frozen a k K=>
  intro Q U w es₀ h ok;obtain⟨c,t,L,h⟩:=h;have L:=Qa.has_heap ok L;obtain⟨x,w',es,U',b,z,F,B,H⟩:=K false (es₀:=es₀) h ok;have Y:w.frozen? a=false:=by simp[World.frozen?,L]
  exact⟨x,w',es,U',by simp only[Sem.runT,Y];exact b,z,F,B,H⟩
 |getObj r k K=>
  intro Q U w es₀ h ok;obtain⟨o,M,W,N,h⟩:=h;have L:=Qa.has_heap ok M;obtain⟨x,w',es,U',b,z,F,B,H⟩:=K o (es₀:=es₀.push ⟨.obj r,false,false⟩) h ok;refine⟨x,w',#[⟨.obj r,false,false⟩]++es,U',?_,?_,F,B,H⟩
  .have:Sem.runT P (.getObj r k) w es₀=(k o).runT P w (es₀.push ⟨.obj r,false,o.isChan⟩):=by
    simp only[Sem.runT,L];cases o <;> simp_all[Obj.isCells]
   rw[this,N,b];simp
  .intro e E;rcases Array.mem_append.1 E with E|E
   .simp at E;subst E;refine⟨⟨rfl,.inl ?_⟩,Nat.lt_of_lt_of_le (Array.getElem?_eq_some_iff.1 L).1 F.size⟩;rcases M with M|M
    .exact .inr ⟨o,M⟩
    .exact .inl ⟨o,M⟩
   .exact z e E
 |setObj r o k K=>
  intro Q U w es₀ h ok;obtain⟨o0,M',hu,h1,h2,N,h⟩:=h;obtain⟨L,S,I,G⟩:=k_ ok hu h1 h2;obtain⟨x,w',es,U',b,z,F,B,H⟩:=K (es₀:=es₀.push ⟨.obj r,true,false⟩) h I;refine⟨x,w',#[⟨.obj r,true,false⟩]++es,U',?_,?_,G.trans F,B,H⟩
  .have:Sem.runT P (.setObj r o k) w es₀=k.runT P { w with heap:=w.heap.setIfInBounds r o } (es₀.push ⟨.obj r,true,o.isChan⟩):=by
    simp only[Sem.runT,L];cases o0 <;> simp_all[Obj.isCells]
   rw[this,N,b];simp
  .intro e E;rcases Array.mem_append.1 E with E|E
   .simp at E;subst E;exact⟨⟨rfl,.inl S⟩,Nat.lt_of_lt_of_le (Array.getElem?_eq_some_iff.1 L).1 (G.trans F).size⟩
   .exact⟨JZ.of G (z e E).1,(z e E).2⟩
 |choose q k K=>
  intro Q U w es₀ h ok;simp only[Qr]at h;by_cases H:q.forced=true
  .rw[if_pos H]at h;obtain⟨x,w',es,U',b,z,F,B,V⟩:=K 0 (es₀:=es₀) h ok;exact⟨x,w',es,U',by simp only[Sem.runT,H,if_true];exact b,z,F,B,V⟩
  .rw[if_neg H]at h;obtain⟨x,w',es,U',b,z,F,B,V⟩:=K _ (es₀:=es₀) (h (w.tape w.drawn q)) (ES ok (w.drawn+1));exact⟨x,w',es,U',by simp only[Sem.runT,H];exact b,λ e E=>⟨JZ.of (TE U w _) (z e E).1,(z e E).2⟩,(TE U w _).trans F,B,V⟩
 |sys c k K=>exact λ{Q U w es₀}h ok=>h.elim
 |program k K=>
  intro Q U w es₀ h ok;obtain⟨x,w',es,U',b,z,F,B,H⟩:=K P (es₀:=es₀) h ok;exact⟨x,w',es,U',by simpa only[Sem.runT]using b,z,F,B,H⟩
 |mark m k K=>
  intro Q U w es₀ h ok;obtain⟨hm,h⟩:=h;obtain⟨x,w',es,U',b,z,F,B,H⟩:=K (es₀:=es₀.push ⟨.mark m,false,true⟩) h ok;refine⟨x,w',#[⟨.mark m,false,true⟩]++es,U',?_,?_,F,B,H⟩
  .simp only[Sem.runT];rw[b];simp
  .intro e E;rcases Array.mem_append.1 E with E|E
   .simp at E;subst E;exact⟨hm,trivial⟩
   .exact z e E
 |halt h=>exact λ{Q U w es₀}h ok=>h.elim
def Qr.mono{P:Program}{α:Type}(s:Sem α):∀{Q z:α->Qa T->Prop}{U:Qa T},Qr P s Q U->(∀a U,Q a U->z a U)->Qr P s z U:=by
 induction s with
 |pure a=>exact λ h q=>q _ _ h
 |load m a k w=>exact λ⟨e,v,I,h⟩q=>⟨e,v,I,w v h q⟩
 |store m a v k w=>exact λ⟨e,e',M',K,h⟩q=>⟨e,e',M',K,w h q⟩
 |new o k w=>exact λ h q b B=>w b (h b B) q
 |shape r k w=>exact λ⟨o,H,h⟩q=>⟨o,H,w _ h q⟩
 |freeze a n k w=>exact λ⟨x,c,t,M',F,h⟩q=>⟨x,c,t,M',F,w h q⟩
 |frozen a k w=>exact λ⟨c,t,B,h⟩q=>⟨c,t,B,w _ h q⟩
 |getObj r k w=>exact λ⟨o,a,b,c,h⟩q=>⟨o,a,b,c,w _ h q⟩
 |setObj r o k w=>exact λ⟨L,M',a,b,c,d,h⟩q=>⟨L,M',a,b,c,d,w h q⟩
 |choose q k w=>
  intro Q z U h E;simp only[Qr]at h ⊢;split <;> rename_i G <;> simp only[G,if_true,if_false,Bool.false_eq_true]at h
  .exact w 0 h E
  .exact λ t=>w _ (h t) E
 |sys c k w=>exact λ h _=>h
 |program k w=>exact λ h q=>w _ h q
 |mark m k w=>exact λ⟨a,h⟩q=>⟨a,w h q⟩
 |halt h=>exact λ h _=>h
def TN{P:Program}{α β:Type}(s:Sem α)(f:α->Sem β):∀{Q:β->Qa T->Prop}{U:Qa T},Qr P (s.bind f) Q U↔Qr P s (λ a U=>Qr P (f a) Q U) U:=by
 induction s with
 |pure a=>exact λ{_ _}=>Iff.rfl
 |load m a k b=>intro Q U;simp only[Sem.bind,Qr,b]
 |store m a v k b=>intro Q U;simp only[Sem.bind,Qr,b]
 |new o k b=>intro Q U;simp only[Sem.bind,Qr,b]
 |shape r k b=>intro Q U;simp only[Sem.bind,Qr,b]
 |freeze a n k b=>intro Q U;simp only[Sem.bind,Qr,b]
 |frozen a k b=>intro Q U;simp only[Sem.bind,Qr,b]
 |getObj r k b=>intro Q U;simp only[Sem.bind,Qr,b]
 |setObj r o k b=>intro Q U;simp only[Sem.bind,Qr,b]
 |choose q k b=>intro Q U;simp only[Sem.bind,Qr,b]
 |sys c k b=>intro Q U;simp only[Sem.bind,Qr]
 |program k b=>intro Q U;simp only[Sem.bind,Qr,b]
 |mark m k b=>intro Q U;simp only[Sem.bind,Qr,b]
 |halt h=>intro Q U;simp only[Sem.bind,Qr]
end Go.TM
namespace Go.TM
variable{T:Type}{P:Program}
structure Sys(P:Program)(T:Type) where
 syn:(Bool->Gr->Qa T->Prop)->Bool->Gr->Qa T->Prop
 mono:∀{X Y:Bool->Gr->Qa T->Prop},(∀m g U,X m g U->Y m g U)->∀m g U,syn X m g U->syn Y m g U
def Qx(U U':Qa T):Prop:=U'.tok=U.tok/\∀w,U.ok w->U'.ok w/\(∀l,U'.canW l->U.canW l)/\(∀l,U'.canR l->U.canR l)
def Qx.refl(U:Qa T):Qx U U:=⟨rfl,λ _ h=>⟨h,λ _ h=>h,λ _ h=>h⟩⟩
def Qx.trans{U e z:Qa T}(h:Qx U e)(k:Qx e z):Qx U z:=
 ⟨k.1.trans h.1,λ w ok=>let ⟨a,b,c⟩:=h.2 w ok;let ⟨a',b',c'⟩:=k.2 w a;⟨a',λ l x=>b l (b' l x),λ l x=>c l (c' l x)⟩⟩
abbrev QJ(T:Type):=Bool->Gr->Qa T->Prop
def Pb(P:Program)(X:QJ T)(m:Bool)(g:Gr)(U:Qa T):Prop:=
 g.status=.running/\∀w,U.ok w->∃g' w' es U',stepG P m g w=.go g' w' es/\(∀e∈es,JZ U w e/\H5 w' e)/\ZV U w w' U'/\U'.ok w'/\U'.tok=U.tok/\X m g' U'
def FJ(S:Sys P T)(Stop:QJ T)(X:QJ T)(m:Bool)(g:Gr)(U:Qa T):Prop:=
 ∃b,Qx U b/\(Stop m g b\/Pb P X m g b\/S.syn X m g b)
def J(S:Sys P T)(Stop:QJ T)(m:Bool)(g:Gr)(U:Qa T):Prop:=
 ∀X:QJ T,(∀m g U,FJ S Stop X m g U->X m g U)->X m g U
def Pb.mono{X Y:QJ T}(h:∀m g U,X m g U->Y m g U){m:Bool}{g:Gr}{U:Qa T}(k:Pb P X m g U):Pb P Y m g U:=
 ⟨k.1,λ w ok=>let ⟨g',w',es,U',a,b,c,d,e,f⟩:=k.2 w ok;⟨g',w',es,U',a,b,c,d,e,h _ _ _ f⟩⟩
def FJ.mono{S:Sys P T}{Stop X Y:QJ T}(h:∀m g U,X m g U->Y m g U){m:Bool}{g:Gr}{U:Qa T}(k:FJ S Stop X m g U):FJ S Stop Y m g U:=by
 obtain⟨b,e,k|k|k⟩:=k
 .exact⟨b,e,.inl k⟩
 .exact⟨b,e,.inr (.inl (k.mono h))⟩
 .exact⟨b,e,.inr (.inr (S.mono h _ _ _ k))⟩
variable{S:Sys P T}{Stop:QJ T}{m:Bool}
def J.fold{g:Gr}{U:Qa T}(h:FJ S Stop (J S Stop) m g U):J S Stop m g U:=
 λ X b=>b _ _ _ (h.mono λ _ _ _ k=>k X b)
def J.ind{X:QJ T}(b:∀m g U,FJ S Stop (λ m g U=>X m g U/\J S Stop m g U) m g U->X m g U){g:Gr}{U:Qa T}(h:J S Stop m g U):X m g U:=
 (h (λ m g U=>X m g U/\J S Stop m g U) λ m g U k=>⟨b m g U k,J.fold (k.mono λ _ _ _ x=>x.2)⟩).1
def J.unfold{g:Gr}{U:Qa T}(h:J S Stop m g U):FJ S Stop (J S Stop) m g U:=
 J.ind (X:=FJ S Stop (J S Stop)) (λ _ _ _ k=>k.mono λ _ _ _ x=>x.2) h
def J.stop{g:Gr}{U:Qa T}(h:Stop m g U):J S Stop m g U:=.fold ⟨U,.refl _,.inl h⟩
def J.priv{g:Gr}{U:Qa T}(h:Pb P (J S Stop) m g U):J S Stop m g U:=.fold ⟨U,.refl _,.inr (.inl h)⟩
def J.syn{g:Gr}{U:Qa T}(h:S.syn (J S Stop) m g U):J S Stop m g U:=.fold ⟨U,.refl _,.inr (.inr h)⟩
def J.still{g g':Gr}{U:Qa T}(b:g.status=.running)(h:∀w,stepG P m g w=.go g' w)(k:J S Stop m g' U):J S Stop m g U:=
 .priv ⟨b,λ w ok=>⟨g',w,#[],U,h w,S1,.refl _ _,ok,rfl,k⟩⟩
def Jq(P:Program)(fn:FuncId)(es:Array Event):∀e∈seen P fn es,e∈es:=by
 dsimp only[seen]
 rw[<- Array.foldl_toList]
 have key:∀(l:List Event)(x:Bool×Array Event),(∀e∈x.2,e∈es)->(∀e∈l,e∈es) ->
   ∀e∈(l.foldl (λ(x:Bool×Array Event)e=>match e.loc with|.mark (.extern f)=>((P.funcs[f]?).any (·.norace),x.2)|_=>(x.1,if x.1&&!e.sync then x.2 else x.2.push e)) x).2,e∈es:=by
  intro l
  induction l with
  |nil=>exact λ x h _=>h
  |cons a l z=>
   intro x h w;simp only[foldl_cons];refine z _ ?_ λ e b=>w e (mem_cons_of_mem _ b);split
   .exact h
   .dsimp only
    split
    .exact h
    .intro e b;rcases Array.mem_push.1 b with b|rfl
     .exact h e b
     .exact w _ (mem_cons_self ..)
 exact key es.toList _ S1 S1
def J.sem{α:Type}{g:Gr}{U:Qa T}(s:Sem α){Q:α->Qa T->Prop}(N:g.status=.running)(h:Qr P s Q U)
  (z:∀w x w' es,s.runT P w #[]=(.ok x w',es)->(∃U',Q x U')->∃g' b,stepG P m g w=.go g' w' b/\(∀e∈b,e∈es)/\(∀U',Q x U'->J S Stop m g' U')):J S Stop m g U:=by
 refine .priv ⟨N,λ w ok=>?_⟩;obtain⟨x,w',es,U',M,E,K,F,H,V⟩:=Qr.sound s (es₀:=#[]) h ok;obtain⟨g',b,G,B,L⟩:=z w x w' es (by simpa using M) ⟨U',H⟩;exact⟨g',w',b,U',G,λ e I=>E e (B e I),K,F,V,L U' H⟩
def fr(b:Frame)(a:Act)(todo:List Item):Frame:={ b with tmps:=a.tmps,todo:=todo,defers:=a.defers,mode:=.run }
def R(b:Frame)(a:Act)(todo:List Item)(cs:List Frame):Gr:={ frame:=fr b a todo,callers:=cs,status:=.running,dying:=none }
def Rf(f:Frame)(cs:List Frame):Gr:={ frame:=f,callers:=cs,status:=.running,dying:=none }
def O4(b:Frame)(a:Act)(todo:List Item):(fr b a todo).eval=a.eval:=by funext x;cases x <;> rfl
section moves
variable{b:Frame}{a:Act}{k:List Item}{cs:List Frame}{w:World}
def dx:stepG P m (R b a (.code .skip::k) cs) w=.go (R b a k cs) w:=by simp[R,stepG,stepG.exec,fr]
def ue{l:Nat}:stepG P m (R b a (.code (.label l)::k) cs) w=.go (R b a k cs) w:=by simp[R,stepG,stepG.exec,fr]
def pd{id:Nat}:stepG P m (R b a (.inBlock id::k) cs) w=.go (R b a k cs) w:=by simp[R,stepG,stepG.exec,fr]
def pe{c:Code}:stepG P m (R b a (.inScope c::k) cs) w=.go (R b a k cs) w:=by simp[R,stepG,stepG.exec,fr]
def ew{x y:Code}:stepG P m (R b a (.code (.seq x y)::k) cs) w=.go (R b a (.code x::.code y::k) cs) w:=by simp[R,stepG,stepG.exec,fr]
def uN{c:Operand}{x y:Code}{t:Bool}(h:a.eval c=.bool t) :
  stepG P m (R b a (.code (.cond c x y)::k) cs) w=.go (R b a (.code (if t then x else y)::k) cs) w:=by
 have e:(fr b a (.code (.cond c x y)::k)).eval c=.bool t:=by rw[O4];exact h
 simp only[fr]at e;simp[R,stepG,stepG.exec,fr,e]
def ud{id:Nat}{c:Code}:stepG P m (R b a (.code (.block id c)::k) cs) w=.go (R b a (.code c::.inBlock id::k) cs) w:=by simp[R,stepG,stepG.exec,fr]
def uQ{c:Code}:stepG P m (R b a (.code (.loop c)::k) cs) w=.go (R b a (.code c::.inLoop c::k) cs) w:=by simp[R,stepG,stepG.exec,fr]
def yg{c:Code}:stepG P m (R b a (.inLoop c::k) cs) w=.go (R b a (.code c::.inLoop c::k) cs) w:=by simp[R,stepG,stepG.exec,fr]
def uf{c:Code}:stepG P m (R b a (.code (.scope c)::k) cs) w=.go (R b a (.code c::.inScope c::k) cs) w:=by simp[R,stepG,stepG.exec,fr]
def uP{id:Nat}{k':List Item}(h:exitTo id k=some k'):stepG P m (R b a (.code (.exit id)::k) cs) w=.go (R b a k' cs) w:=by simp[R,stepG,stepG.exec,fr,h]
def yh{id:Nat}{ops:Array Oper}:stepG P m (R b a (.code (.region id ops false)::k) cs) w=.go (R b a (.inRegion ops (range ops.size)::k) cs) w:=by simp[R,stepG,stepG.exec,fr]
def jb{ops:Array Oper}:stepG P m (R b a (.inRegion ops []::k) cs) w=.go (R b a k cs) w:=by simp[R,stepG,stepG.exec,fr]
def Bf{ops:Array Oper}{i:Nat}{rest:List Nat}{o:Oper}(h:ops[i]?=some o)(z:Region.wanted o (yielded ops a.tmps)=false) :
  stepG P m (R b a (.inRegion ops (i::rest)::k) cs) w=.go (R b (a.put o.dst undef) (.inRegion ops rest::k) cs) w:=by
 cases e:o.dst <;> simp[R,stepG,stepG.exec,fr,h,z,Frame.finish,Act.put,e]
def dw{ops:Array Oper}{i:Nat}{rest:List Nat}{o:Oper}(B:ops[i]?=some o)(E:Region.wanted o (yielded ops a.tmps)=true)
  (e:b.roundOf=none\/∀c,o.op≠.defer c) :
  stepG P m (R b a (.inRegion ops (i::rest)::k) cs) w=stepG.apply P true (fr b a (.inRegion ops (i::rest)::k)) cs none (execOp a.eval o) w:=by
 have h:=O4 b a (.inRegion ops (i::rest)::k);simp only[fr]at h;rcases e with e|e
 .rw[e]at h;simp[R,stepG,stepG.exec,stepG.oper,Frame.oper?,fr,B,E,e];rw[h]
 .simp only[R,stepG,stepG.exec,stepG.oper,Frame.oper?,fr,B,Option.map_some,E,Option.getD_some,if_true,h];cases F:b.roundOf with
  |none=>simp
  |some l=>cases z:o.op <;> first|rfl|exact absurd z (e _)
def GD{ops:Array Oper}{i:Nat}{rest:List Nat}{o:Oper}(e:ops[i]?=some o)(v:Value) :
  (fr b a (.inRegion ops (i::rest)::k)).finish v=fr b (a.put o.dst v) (.inRegion ops rest::k):=by
 cases h:o.dst <;> simp[Frame.finish,fr,Act.put,e,h]
end moves
inductive Ex where
 |normal
 |exit (id:Nat)
 |ret
def XP(S:Sys P T)(Stop:QJ T)(m:Bool)(b:Frame)(cs:List Frame)(e:Option Code)(a:Act)(U:Qa T):Prop:=
 match b.roundOf with
 |none=>(e=none\/e=some .ret)/\∀todo,J S Stop m (Rf { fr b a todo with mode:=.returning } cs) U
 |some l=>∃c rest,cs=c::rest/\Qr P (Instr.endRound l e) (λ v U'=>J S Stop m (Rf (c.finish v) rest) U') U
def XO(S:Sys P T)(Stop:QJ T)(m:Bool)(b:Frame)(k:List Item)(cs:List Frame):Ex->Act->Qa T->Prop
 |.normal,a,U=>J S Stop m (R b a k cs) U
 |.exit id,a,U=>(∃k',exitTo id k=some k'/\J S Stop m (R b a k' cs) U)\/(exitTo id k=none/\XP S Stop m b cs (some (.exit id)) a U)
 |.ret,a,U=>XP S Stop m b cs (some .ret) a U
def Fr(fn:FuncId)(ro:Option Nat)(b:Frame):Prop:=b.fn=fn/\b.roundOf=ro/\b.kind≠.early/\(ro.isSome->b.kind=.normal)
def Zv(S:Sys P T)(fn:FuncId)(ro:Option Nat)(c:Code)(Q:Ex->Act->Qa T->Prop)(a:Act)(U:Qa T):Prop:=
 ∀(Stop:QJ T)(m:Bool)(b:Frame)(k:List Item)(cs:List Frame),Fr fn ro b->(∀e a' U',Q e a' U'->XO S Stop m b k cs e a' U')->J S Stop m (R b a (.code c::k) cs) U
def QU(S:Sys P T)(fn:FuncId)(ro:Option Nat)(ops:Array Oper)(todo:List Nat)(Q:Ex->Act->Qa T->Prop)(a:Act)(U:Qa T):Prop:=
 ∀(Stop:QJ T)(m:Bool)(b:Frame)(k:List Item)(cs:List Frame),Fr fn ro b->(∀e a' U',Q e a' U'->XO S Stop m b k cs e a' U')->J S Stop m (R b a (.inRegion ops todo::k) cs) U
def Qb(S:Sys P T)(f:FuncId)(args:Array Value)(Q:Value->Qa T->Prop)(U:Qa T):Prop:=
 ∀(Stop:QJ T)(m:Bool)(c:Frame)(cs:List Frame),(∀v U',Q v U'->J S Stop m (Rf (c.finish v) cs) U')->J S Stop m (Rf (Frame.enter P f args .normal) (c::cs)) U
def WE(S:Sys P T)(l:Nat)(f:FuncId)(tmps:Array Value)(assign body:Code)(Q:Value->Qa T->Prop)(U:Qa T):Prop:=
 ∀(Stop:QJ T)(m:Bool)(c:Frame)(cs:List Frame),(∀v U',Q v U'->J S Stop m (Rf (c.finish v) cs) U')->J S Stop m (Rf (Frame.round l f tmps assign body .normal) (c::cs)) U
def XO.push{b:Frame}{x:Item}{k:List Item}{cs:List Frame}{e:Ex}{a:Act}{U:Qa T}(z:∀id k,exitTo id (x::k)=exitTo id k)(w:e≠.normal)
  (h:XO S Stop m b k cs e a U):XO S Stop m b (x::k) cs e a U:=by
 cases e with
 |normal=>exact absurd rfl w
 |exit id=>simpa only[XO,z]using h
 |ret=>exact h
section rules
variable{fn:FuncId}{ro:Option Nat}{Q:Ex->Act->Qa T->Prop}{a:Act}{U:Qa T}
def Zv.mono{c:Code}{w:Ex->Act->Qa T->Prop}(h:Zv S fn ro c Q a U)(E:∀e a U,Q e a U->w e a U):Zv S fn ro c w a U:=
 λ Stop m b k cs z B=>h Stop m b k cs z λ e a' U' q=>B e a' U' (E e a' U' q)
def Qb.mono{f:FuncId}{args:Array Value}{R R':Value->Qa T->Prop}(h:Qb S f args R U)(b:∀v U,R v U->R' v U):Qb S f args R' U:=
 λ Stop m c cs k=>h Stop m c cs λ v U' r=>k v U' (b v U' r)
def WE.mono{l:Nat}{f:FuncId}{tmps:Array Value}{as b:Code}{R R':Value->Qa T->Prop}(h:WE S l f tmps as b R U)(e:∀v U,R v U->R' v U):WE S l f tmps as b R' U:=
 λ Stop m c cs k=>h Stop m c cs λ v U' r=>k v U' (e v U' r)
def J.shift{g:Gr}{U U':Qa T}(w:Qx U U')(h:J S Stop m g U'):J S Stop m g U:=by
 obtain⟨b,e,h⟩:=h.unfold;exact .fold ⟨b,w.trans e,h⟩
def sI{c:Code}{U':Qa T}(z:Qx U U')(h:Zv S fn ro c Q a U'):Zv S fn ro c Q a U:=λ Stop m b k cs e w=>.shift z (h Stop m b k cs e w)
def GJ{ops:Array Oper}{todo:List Nat}{U':Qa T}(z:Qx U U')(h:QU S fn ro ops todo Q a U'):QU S fn ro ops todo Q a U:=λ Stop m b k cs e w=>.shift z (h Stop m b k cs e w)
def Qb.shift{f:FuncId}{args:Array Value}{R:Value->Qa T->Prop}{U':Qa T}(b:Qx U U')(h:Qb S f args R U'):Qb S f args R U:=λ Stop m c cs k=>.shift b (h Stop m c cs k)
def WE.shift{l:Nat}{f:FuncId}{tmps:Array Value}{as b:Code}{R:Value->Qa T->Prop}{U':Qa T}(e:Qx U U')(h:WE S l f tmps as b R U'):WE S l f tmps as b R U:=λ Stop m c cs k=>.shift e (h Stop m c cs k)
def Qb.post{f:FuncId}{args:Array Value}{R R':Value->Qa T->Prop}(h:Qb S f args R U)(b:∀v U,R v U->∃U',Qx U U'/\R' v U'):Qb S f args R' U:=
 λ Stop m c cs k=>h Stop m c cs λ v U' r=>let ⟨_,hs,r'⟩:=b v U' r;.shift hs (k v _ r')
def ut(h:Q .normal a U):Zv S fn ro .skip Q a U:=λ _ _ _ _ _ _ b=>.still rfl (λ _=>dx) (b _ _ _ h)
def sF{l:Nat}(h:Q .normal a U):Zv S fn ro (.label l) Q a U:=λ _ _ _ _ _ _ b=>.still rfl (λ _=>ue) (b _ _ _ h)
def dX{x y:Code}(h:Zv S fn ro x (λ e a' U'=>match e with|.normal=>Zv S fn ro y Q a' U'|e=>Q e a' U') a U):Zv S fn ro (.seq x y) Q a U:=by
 intro Stop m b k cs z w;refine .still rfl (λ _=>ew) (h Stop m b (.code y::k) cs z λ e a' U' q=>?_);cases e with
 |normal=>exact q Stop m b k cs z w
 |exit id=>exact(w _ _ _ q).push (λ _ _=>rfl) S1
 |ret=>exact(w _ _ _ q).push (x:=.code y) (λ _ _=>rfl) S1
def us{c:Operand}{x y:Code}(t:Bool)(w:a.eval c=.bool t)(h:Zv S fn ro (if t then x else y) Q a U):Zv S fn ro (.cond c x y) Q a U:=
 λ Stop m b k cs e z=>.still rfl (λ _=>uN w) (h Stop m b k cs e z)
def sE{id:Nat}{c:Code}(h:Zv S fn ro c (λ e a' U'=>match e with|.normal=>Q .normal a' U'|.exit w=>if w=id then Q .normal a' U' else Q (.exit w) a' U'|.ret=>Q .ret a' U') a U) :
  Zv S fn ro (.block id c) Q a U:=by
 intro Stop m b k cs F B;refine .still rfl (λ _=>ud) (h Stop m b (.inBlock id::k) cs F λ e a' U' q=>?_);cases e with
 |normal=>exact .still rfl (λ _=>pd) (B _ _ _ q)
 |exit w=>
  by_cases z:w=id
  .simp only[z,if_true]at q;exact .inl ⟨k,by simp[exitTo,z],B _ _ _ q⟩
  .simp only[z,if_false]at q;have E:(id==w)=false:=by simp;exact λ h=>z h.symm
   simpa only[XO,exitTo,E,Bool.false_eq_true,if_false]using B _ _ _ q
 |ret=>exact B _ _ _ q
def sH{c:Code}(h:Zv S fn ro c Q a U):Zv S fn ro (.scope c) Q a U:=by
 intro Stop m b k cs z w;refine .still rfl (λ _=>uf) (h Stop m b (.inScope c::k) cs z λ e a' U' q=>?_);cases e with
 |normal=>exact .still rfl (λ _=>pe) (w _ _ _ q)
 |exit id=>exact(w _ _ _ q).push (λ _ _=>rfl) S1
 |ret=>exact(w _ _ _ q).push (x:=.inScope c) (λ _ _=>rfl) S1
def N2{id:Nat}(h:Q (.exit id) a U):Zv S fn ro (.exit id) Q a U:=by
 intro Stop m b k cs F G;rcases G _ _ _ h with⟨k',B,I⟩|⟨B,z⟩
 .exact .still rfl (λ _=>uP B) I
 .cases hro:b.roundOf with
  |none=>simp only[XP,hro]at z;simp at z
  |some l=>
   simp only[XP,hro]at z;obtain⟨c,rest,rfl,L⟩:=z;have E:b.kind=.normal:=F.2.2.2 (by rw[<- F.2.1,hro];rfl);refine .sem _ rfl L λ w x w' es e _=>⟨Rf (c.finish x) rest,seen P b.fn es,?_,Jq P _ es,λ _ h=>h⟩;obtain⟨K,H⟩:Sem.run P (Instr.endRound l (some (.exit id))) w=.ok x w'/\Sem.events P (Instr.endRound l (some (.exit id))) w #[]=es:=by simpa using e
   simp[R,stepG,stepG.exec,fr,hro,B,K,H,doReturn,E,GStep.after,Rf]
def Nu(h:Q .ret a U):Zv S fn ro .ret Q a U:=by
 intro Stop m b k cs F G;have B:=G _ _ _ h;cases e:b.roundOf with
 |none=>
  simp only[XO,XP,e]at B;refine .still rfl (λ w=>?_) (B.2 (.code .ret::k));simp[R,Rf,stepG,stepG.exec,fr,e]
 |some l=>
  simp only[XO,XP,e]at B;obtain⟨c,rest,rfl,K⟩:=B;have E:b.kind=.normal:=F.2.2.2 (by rw[<- F.2.1,e];rfl);refine .sem _ rfl K λ w x w' es z _=>⟨Rf (c.finish x) rest,seen P b.fn es,?_,Jq P _ es,λ _ h=>h⟩;obtain⟨I,H⟩:Sem.run P (Instr.endRound l (some .ret)) w=.ok x w'/\Sem.events P (Instr.endRound l (some .ret)) w #[]=es:=by simpa using z
  simp[R,stepG,stepG.exec,fr,e,I,H,doReturn,E,GStep.after,Rf]
def Mz{id:Nat}{ops:Array Oper}(h:QU S fn ro ops (range ops.size) Q a U):Zv S fn ro (.region id ops false) Q a U:=
 λ Stop m b k cs e w=>.still rfl (λ _=>yh) (h Stop m b k cs e w)
def NB{ops:Array Oper}(h:Q .normal a U):QU S fn ro ops [] Q a U:=λ _ _ _ _ _ _ b=>.still rfl (λ _=>jb) (b _ _ _ h)
def Ol(S:Sys P T)(ro:Option Nat)(o:Oper)(a:Act)(K:Act->Qa T->Prop):Next->Qa T->Prop
 |.value v,U=>K (a.put o.dst v) U
 |.skip,U=>K (a.put o.dst undef) U
 |.defer d,U=>ro=none/\K ({ a with defers:=d::a.defers }.put o.dst undef) U
 |.enter f args,U=>Qb S f args (λ v U'=>K (a.put o.dst v) U') U
 |.round l f tmps assign body,U=>WE S l f tmps assign body (λ v U'=>K (a.put o.dst v) U') U
 |_,_=>False
def Gt(S:Sys P T)(ro:Option Nat)(o:Oper)(a:Act)(K:Act->Qa T->Prop)(U:Qa T):Prop:=Qr P (execOp a.eval o) (Ol S ro o a K) U
def Hm{ops:Array Oper}{i:Nat}{rest:List Nat}{o:Oper}(E:ops[i]?=some o)(L:Region.wanted o (yielded ops a.tmps)=true)(I:ro=none\/∀c,o.op≠.defer c)
  (h:Gt S ro o a (QU S fn ro ops rest Q) U):QU S fn ro ops (i::rest) Q a U:=by
 intro Stop m b k cs B F;have z:(b.kind==CallKind.early)=false:=by simpa using B.2.2.1
 have G:b.roundOf=none\/∀c,o.op≠.defer c:=by rw[B.2.1];exact I
 refine .sem _ rfl h λ w x w' es e H=>?_;rw[dw E L G];have M:(execOp a.eval o).run P w=.ok x w':=by have:=Sem.runT_fst P (execOp a.eval o) w #[];rw[e]at this;exact this.symm
 cases x with
 |value v=>
  refine⟨R b (a.put o.dst v) (.inRegion ops rest::k) cs,seen P b.fn es,?_,Jq P _ es,λ U' q=>q Stop m b k cs B F⟩;have:=GD (b:=b) (a:=a) (k:=k) (rest:=rest) E v;simp only[stepG.apply,if_true,e];simp[fr,z,GStep.after,R]at this ⊢;exact this
 |skip=>
  refine⟨R b (a.put o.dst undef) (.inRegion ops rest::k) cs,seen P b.fn es,?_,Jq P _ es,λ U' q=>q Stop m b k cs B F⟩;have:=GD (b:=b) (a:=a) (k:=k) (rest:=rest) E undef;simp only[stepG.apply,if_true,e];simp[fr,z,GStep.after,R]at this ⊢;exact this
 |defer d=>
  refine⟨R b ({ a with defers:=d::a.defers }.put o.dst undef) (.inRegion ops rest::k) cs,seen P b.fn es,?_,Jq P _ es,λ U' q=>q.2 Stop m b k cs B F⟩;have:=GD (b:=b) (a:={ a with defers:=d::a.defers }) (k:=k) (rest:=rest) E undef;simp only[stepG.apply,if_true,e];simp[fr,z,GStep.after,R]at this ⊢;exact this
 |enter f args=>
  refine⟨Rf (Frame.enter P f args .normal) (fr b a (.inRegion ops (i::rest)::k)::cs),seen P b.fn es,?_,Jq P _ es,λ U' q=>?_⟩
  .simp only[stepG.apply,if_true,e];simp[fr,z,GStep.after,Rf]
  .refine q Stop m _ cs λ v U'' q'=>?_;have:=q' Stop m b k cs B F;rw[GD E];exact this
 |round l f tmps assign body=>
  refine⟨Rf (Frame.round l f tmps assign body .normal) (fr b a (.inRegion ops (i::rest)::k)::cs),seen P b.fn es,?_,Jq P _ es,λ U' q=>?_⟩
  .simp only[stepG.apply,if_true,e];simp[fr,z,GStep.after,Rf]
  .refine q Stop m _ cs λ v U'' q'=>?_;have:=q' Stop m b k cs B F;rw[GD E];exact this
 |_=>obtain⟨_,K⟩:=H;exact K.elim
def PG{ops:Array Oper}{i:Nat}{rest:List Nat}{o:Oper}(z:ops[i]?=some o)(B:Region.wanted o (yielded ops a.tmps)=false)
  (h:QU S fn ro ops rest Q (a.put o.dst undef) U):QU S fn ro ops (i::rest) Q a U:=
 λ Stop m b k cs e w=>.still rfl (λ _=>Bf z B) (h Stop m b k cs e w)
def QU.mono{ops:Array Oper}{todo:List Nat}{w:Ex->Act->Qa T->Prop}(h:QU S fn ro ops todo Q a U)(E:∀e a U,Q e a U->w e a U):QU S fn ro ops todo w a U:=
 λ Stop m b k cs z B=>h Stop m b k cs z λ e a' U' q=>B e a' U' (E e a' U' q)
end rules
def JF(I:Nat->Option Obj)(b:Nat)(o:Obj):Nat->Option Obj:=λ x=>if x=b then some o else I x
def K_{M M':List Qw}(h:∀r,r∈M'->r∈M){l:Loc}:(∃r∈M',r.lets l)->∃r∈M,r.lets l:=λ⟨r,e,b⟩=>⟨r,h r e,b⟩
def Md{U:Qa T}{M':List Qw}(h:∃M₀,Perm U.M (M'++M₀)):Qx U { U with M:=M' }:=by
 obtain⟨M₀,B⟩:=h;have b:∀r,r∈M'->r∈U.M:=λ r z=>B.mem_iff.2 (mem_append_left _ z);refine⟨rfl,λ w ok=>⟨⟨ok.imm,λ r z=>ok.held r (b r z),?_,λ r z=>ok.sep r (b r z)⟩,λ l e=>?_,λ l e=>?_⟩⟩
 .have:=(B.pairwise_iff (λ{x y}h=>Qw.apart_symm h)).1 ok.apart;exact(pairwise_append.1 this).1
 .rw[Q8]at e ⊢;exact K_ b e
 .rw[Qz]at e ⊢;exact e.imp (K_ b) id
def Wi{U:Qa T}{b:Nat}{o:Obj}{M':List Qw}(h:Perm U.M (.obj b o::M')):Qx U { U with I:=JF U.I b o,M:=M' }:=by
 have z:∀r,r∈M'->r∈U.M:=λ r G=>h.mem_iff.2 (mem_cons_of_mem _ G);have L:Qw.obj b o∈U.M:=h.mem_iff.2 (mem_cons_self ..);refine⟨rfl,λ w ok=>?_⟩;have F:=(h.pairwise_iff (λ{x y}h=>Qw.apart_symm h)).1 ok.apart;rw[pairwise_cons]at F;refine⟨⟨?_,λ r G=>ok.held r (z r G),F.2,?_⟩,λ l B=>?_,λ l B=>?_⟩
 .intro x P E;simp only[JF]at E;split at E
  .rename_i e;cases E;subst e;exact ok.held _ L
  .exact ok.imm x P E
 .intro r G
  have N:r.blk≠b:=by
   have:=F.1 r G;cases r <;> simp_all[Qw.apart,Qw.blk] <;> exact λ e=>this e.symm
  simp only[JF,if_neg N];exact ok.sep r (z r G)
 .rw[Q8]at B ⊢;exact K_ z B
 .rw[Qz]at B ⊢;rcases B with B|B
  .exact .inl (K_ z B)
  .cases l with
   |cell a=>
    obtain⟨c,t,f,K,H⟩:=B;simp only[JF]at K;split at K
    .rename_i e;cases K;exact .inl ⟨_,L,e,H⟩
    .exact .inr ⟨c,t,f,K,H⟩
   |obj x=>
    obtain⟨P,E⟩:=B;simp only[JF]at E;split at E
    .rename_i e;cases E;exact .inl ⟨_,L,by cases o <;> simp[Qw.lets,e]⟩
    .exact .inr ⟨P,E⟩
   |output=>exact B.elim
   |goroutines=>exact B.elim
   |mark _=>exact B.elim
end Go.TM
namespace Go.TM
variable{T:Type}{P:Program}{S:Sys P T}{fn:FuncId}{ro:Option Nat}
structure Qa.le(U U':Qa T):Prop where
 imm:∀b o,U.I b=some o->U'.I b=some o
 own:U'.M=U.M
 tok:U'.tok=U.tok
def Qa.le.refl(U:Qa T):U.le U:=⟨λ _ _ h=>h,rfl,rfl⟩
def Qa.le.trans{a b c:Qa T}(h:a.le b)(k:b.le c):a.le c:=⟨λ x o e=>k.imm x o (h.imm x o e),k.own.trans h.own,k.tok.trans h.tok⟩
def uO{m:Bool}{b:Frame}{a:Act}{k:List Item}{cs:List Frame}{w:World}{id:Nat}{ops:Array Oper} :
  stepG P m (R b a (.code (.region id ops true)::k) cs) w =
   .go (R b a (.inRegion ops (Region.schedule (P.follows .mixedOrders) ops (w.tape w.drawn (.order b.fn id)))::k) cs) { w with drawn:=w.drawn+1 }:=by
 simp[R,stepG,stepG.exec,fr,choose,Sem.run,Question.forced,Question.cut]
def N1{Q:Ex->Act->Qa T->Prop}{a:Act}{U:Qa T}{id:Nat}{ops:Array Oper}(h:∀t,QU S fn ro ops (Region.schedule (P.follows .mixedOrders) ops t) Q a U) :
  Zv S fn ro (.region id ops true) Q a U:=by
 intro Stop m b k cs e z;refine .priv ⟨rfl,λ w ok=>⟨_,_,#[],U,uO,S1,TE U w _,ES ok _,rfl,h _ Stop m b k cs e z⟩⟩
def ZI(S:Sys P T)(K:Value->Qa T->Prop):Next->Qa T->Prop
 |.value v,U=>K v U
 |.skip,U=>K undef U
 |.enter f args,U=>Qb S f args K U
 |.round l f tmps assign body,U=>WE S l f tmps assign body K U
 |_,_=>False
def QL(S:Sys P T)(o:Oper)(a:Act)(K:Value->Qa T->Prop)(U:Qa T):Prop:=Qr P (execOp a.eval o) (ZI S K) U
def QL.mono{o:Oper}{a:Act}{K w:Value->Qa T->Prop}{U:Qa T}(h:QL S o a K U)(e:∀v U,K v U->w v U):QL S o a w U:=
 Qr.mono _ h λ n U b=>by
  cases n <;> first|exact e _ _ b|exact Qb.mono b e|exact WE.mono b e|exact b
def QL.opV{o:Oper}{a:Act}{K:Act->Qa T->Prop}{U:Qa T}(h:QL S o a (λ v U=>K (a.put o.dst v) U) U):Gt S ro o a K U:=
 Qr.mono _ h λ n U b=>by cases n <;> first|exact b|exact b.elim
def XX(F:Qa T->Prop):Prop:=∀U U',F U->U.le U'->F U'
inductive ZX(S:Sys P T)(ops:Array Oper)(rl:List Nat)(B:Nat->Nat->Prop)(late:Nat->Bool)(G:Qa T->Prop)(U:Qa T)(Fin:Act->Qa T->Prop):List Nat->(Qa T->Prop)->Act->Prop
 |nil {C a}:(∀U',U.le U'->C U'->Fin a U')->ZX S ops rl B late G U Fin [] C a
 |un {i rest C a o}:i∉rl->ops[i]?=some o->Region.wanted o (yielded ops a.tmps)=false->ZX S ops rl B late G U Fin rest C (a.put o.dst undef)->ZX S ops rl B late G U Fin (i::rest) C a
 |det {i rest C a o} (v:Value):i∉rl->ops[i]?=some o->Region.wanted o (yielded ops a.tmps)=true ->
   (∀U',U.le U'->C U'->QL S o a (λ v' U2=>v'=v/\∃U1,Qx U2 U1/\U'.le U1) U') ->
   (late i=true->∀U',G U'->QL S o a (λ v' U2=>v'=v/\∃U1,Qx U2 U1/\U'.le U1) U') ->
   ZX S ops rl B late G U Fin rest C (a.put o.dst v)->ZX S ops rl B late G U Fin (i::rest) C a
 |rel {i rest C a o} (F:Value->Qa T->Prop):i∈rl->(∀v,XX (F v))->ops[i]?=some o->Region.wanted o (yielded ops a.tmps)=true ->
   (∀U',U.le U'->C U'->QL S o a (λ v' U2=>∃U1,Qx U2 U1/\F v' U1/\U'.le U1) U') ->
   (∀v,(∃U',U.le U'/\C U'/\F v U')->ZX S ops rl B late G U Fin rest (λ U'=>C U'/\F v U') (a.put o.dst v))->ZX S ops rl B late G U Fin (i::rest) C a
 |last {i C a o}:i∈rl->XX G->(∀j,late j=false->B j i)->ops[i]?=some o->Region.wanted o (yielded ops a.tmps)=true ->
   (∀U',U.le U'->C U'->QL S o a (λ v' U2=>v'=undef/\∃U1,Qx U2 U1/\G U1) U')->((∃U',U.le U'/\C U')->∀U',G U'->Fin (a.put o.dst undef) U')->ZX S ops rl B late G U Fin [i] C a
def W3(ops:Array Oper)(i:Nat):List Nat:=((ops[i]?).map λ o=>(o.after.toList.filter (Region.binds .any)).map (·.on)).getD []
inductive JC(ops:Array Oper):Nat->Nat->Prop
 |edge {i j}:j∈W3 ops i->JC ops j i
 |trans {i j k}:JC ops k j->j∈W3 ops i->JC ops k i
def Xa(ops:Array Oper):Nat->List Nat
 |0=>[]
 |n+1=>let acc:=Xa ops n;acc++[(W3 ops n).foldl (λ s j=>s||| 2^j||| acc.getD j 0) 0]
def K4(ops:Array Oper):∀n,(Xa ops n).length=n
 |0=>rfl
 |n+1=>by simp[Xa,K4 ops n]
def Lm(acc:List Nat)(j:Nat):∀(l:List Nat)(s:Nat),(l.foldl (λ s j=>s||| 2^j||| acc.getD j 0) s).testBit j=true->s.testBit j=true\/∃k∈l,k=j\/(acc.getD k 0).testBit j=true
 |[],s,h=>.inl h
 |k::l,s,h=>by
  simp only[foldl_cons]at h;rcases Lm acc j l _ h with h|⟨x,b,h⟩
  .simp only[Nat.testBit_or,Bool.or_eq_true]at h;rcases h with(h|h)|h
   .exact .inl h
   .refine .inr ⟨k,mem_cons_self ..,.inl ?_⟩;rw[Nat.testBit_two_pow]at h;exact of_decide_eq_true h
   .exact .inr ⟨k,mem_cons_self ..,.inr h⟩
  .exact .inr ⟨x,mem_cons_of_mem _ b,h⟩
def Wx(ops:Array Oper):∀n i j,((Xa ops n).getD i 0).testBit j=true->JC ops j i:=by
 intro n
 induction n with
 |zero=>intro i j h;simp[Xa]at h
 |succ n w=>
  intro i j h;simp only[Xa]at h;by_cases z:i<n
  .rw[getD_eq_getElem?_getD,getElem?_append_left (by rw[K4];exact z),<- getD_eq_getElem?_getD]at h;exact w i j h
  .rw[getD_eq_getElem?_getD,getElem?_append_right (by rw[K4];omega),K4,<- getD_eq_getElem?_getD]at h;by_cases e:i=n
   .subst e;simp only[Nat.sub_self,getD_cons_zero]at h;rcases Lm _ j _ 0 h with h|⟨k,b,rfl|h⟩
    .simp at h
    .exact .edge b
    .exact .trans (w k j h) b
   .have:i-n=(i-n-1)+1:=O1
    rw[this]at h;simp at h
def WH(ops:Array Oper)(i:Nat):Option Tmp:=(ops[i]?).bind (·.dst)
def looks(ops:Array Oper)(i:Nat):List Tmp:=((ops[i]?).map (Oper.looksAt ops)).getD []
def VC(ops:Array Oper)(rl qs ts:List Nat):Bool:=
 let n:=ops.size
 let b:=Xa ops n
 let bf (j i:Nat):Bool:=(b.getD i 0).testBit j
 let all:=qs++ts
 (range n).all (λ i=>all.contains i)&&(decide all.Nodup&&all.all (λ i=>decide (i<n))) &&
 (ops.toList.all λ o=>!(o.op matches .select ..)) &&
 (range n).all (λ i=>(range n).all λ j=>i==j|| (match WH ops i with|some d=>WH ops j != some d|none=>true)) &&
 qs.all (λ i=>(range n).all λ j=>i==j|| (match WH ops j with|some d=>!(looks ops i).contains d|| bf j i|| bf i j|none=>true)) &&
 (range all.length).all (λ p=>(W3 ops (all.getD p 0)).all λ j=>(all.take p).contains j) &&
 (range qs.length).all (λ p=>!rl.contains (qs.getD p 0)|| ((all.drop (p+1)).all λ j=>bf (qs.getD p 0) j)) &&
 (range ts.length).all (λ p=>(qs++ts.take p).all λ j=>bf j (ts.getD p 0))
structure Jy(ops:Array Oper)(rl qs ts:List Nat):Prop where
 mem:∀i,i<ops.size↔i∈qs++ts
 nodup:(qs++ts).Nodup
 nosel:∀(i:Nat)o,ops[i]?=some o->∀cs b,o.op≠.select cs b
 once:∀i j d,WH ops i=some d->WH ops j=some d->i=j
 look:∀i,i∈qs->∀j d,i≠j->WH ops j=some d->d∈looks ops i->JC ops j i\/JC ops i j
 order:∀p i,(qs++ts)[p]?=some i->∀j∈W3 ops i,j∈(qs++ts).take p
 behind:∀p i,qs[p]?=some i->i∈rl->∀j∈(qs++ts).drop (p+1),JC ops i j
 tail:∀p i,ts[p]?=some i->∀j∈qs++ts.take p,JC ops j i
def D9{ops:Array Oper}{i:Nat}{d:Tmp}(h:WH ops i=some d):i<ops.size:=by
 simp only[WH]at h;cases b:ops[i]? with
 |none=>simp[b]at h
 |some o=>exact(Array.getElem?_eq_some_iff.1 b).1
def Lh{ops:Array Oper}{rl qs ts:List Nat}(h:VC ops rl qs ts=true):Jy ops rl qs ts:=by
 simp only[VC,Bool.and_eq_true]at h;obtain⟨⟨⟨⟨⟨⟨⟨H,G⟩,I⟩,K⟩,L⟩,M⟩,N⟩,P⟩:=h
 have B:∀i,i<ops.size->i∈qs++ts:=λ i z=>by
  have:=all_eq_true.1 H i (mem_range.2 z);simpa using this
 obtain⟨F,E⟩:(qs++ts).Nodup/\∀i∈qs++ts,i<ops.size:=by
  exact⟨of_decide_eq_true G.1,λ i z=>of_decide_eq_true (all_eq_true.1 G.2 i z)⟩
 refine⟨λ i=>⟨B i,E i⟩,F,?_,?_,?_,?_,?_,?_⟩
 .intro i o ho cs b e;have:=all_eq_true.1 I o (Array.mem_toList_iff.2 (Array.mem_of_getElem? ho));simp[e]at this
 .intro i j d z hj;have:=all_eq_true.1 (all_eq_true.1 K i (mem_range.2 (D9 z))) j (mem_range.2 (D9 hj));simp only[z,hj,Bool.or_eq_true,beq_iff_eq]at this;rcases this with h|h
  .exact h
  .simp at h
 .intro i z j d hne hj hd;have:=all_eq_true.1 (all_eq_true.1 L i z) j (mem_range.2 (D9 hj));simp only[hj,Bool.or_eq_true,beq_iff_eq]at this;rcases this with h|(h|h)|h
  .exact absurd h hne
  .simp[hd]at h
  .exact .inl (Wx _ _ _ _ h)
  .exact .inr (Wx _ _ _ _ h)
 .intro p i hp j hj;have w:=(List.getElem?_eq_some_iff.1 hp).1;have:=all_eq_true.1 M p (mem_range.2 w);rw[getD_eq_getElem?_getD,hp,Option.getD_some]at this;simpa using all_eq_true.1 this j hj
 .intro p i hp hr j hj;have w:=(List.getElem?_eq_some_iff.1 hp).1;have:=all_eq_true.1 N p (mem_range.2 w);rw[getD_eq_getElem?_getD,hp,Option.getD_some]at this;simp only[Bool.or_eq_true]at this;rcases this with h|h
  .simp[hr]at h
  .exact Wx _ _ _ _ (all_eq_true.1 h j hj)
 .intro p i hp j hj;have w:=(List.getElem?_eq_some_iff.1 hp).1;have:=all_eq_true.1 P p (mem_range.2 w);have e:ts.getD p 0=i:=by rw[getD_eq_getElem?_getD,hp];rfl
  rw[e]at this;exact Wx _ _ _ _ (all_eq_true.1 this j hj)
def J9{ops:Array Oper}{listed:Array Bool}{i:Nat}:i∈Region.ready .any ops listed↔i<ops.size/\listed.getD i true=false/\∀j∈W3 ops i,listed.getD j false=true:=by
 simp only[Region.ready,mem_filter,mem_range,Bool.and_eq_true,Bool.not_eq_true'];constructor
 .rintro⟨hi,h1,h2⟩;refine⟨hi,h1,λ j z=>?_⟩;obtain⟨o,b⟩:∃o,ops[i]?=some o:=⟨ops[i],by simp[hi]⟩;simp only[b,Option.map_some,Option.getD_some]at h2;simp only[W3,b,Option.map_some,Option.getD_some,mem_map,mem_filter,Array.mem_toList_iff]at z;obtain⟨e,⟨w,h⟩,rfl⟩:=z;have:=(Array.all_eq_true'.1 h2) e w;simpa[h]using this
 .rintro⟨hi,h1,h2⟩;refine⟨hi,h1,?_⟩;obtain⟨o,b⟩:∃o,ops[i]?=some o:=⟨ops[i],by simp[hi]⟩;simp only[b,Option.map_some,Option.getD_some];rw[Array.all_eq_true'];intro e w;by_cases h:Region.binds .any e=true
  .have:=h2 e.on (by simp only[W3,b,Option.map_some,Option.getD_some,mem_map,mem_filter,Array.mem_toList_iff];exact⟨e,⟨w,h⟩,rfl⟩);rw[this];simp
  .simp[h]
structure Jn(ops:Array Oper)(val:Nat->Value)(D:Nat->Prop)(a_0 a:Act):Prop where
 defers:a.defers=a_0.defers
 size:a.tmps.size=a_0.tmps.size
 wr:∀(s:Nat)(j:Nat),WH ops j=some s->D j->s<a_0.tmps.size->a.tmps[s]?=some (val j)
 not:∀s:Nat,(∀j,WH ops j=some s->¬D j)->a.tmps[s]?=a_0.tmps[s]?
def Jn.put{ops:Array Oper}{rl qs ts:List Nat}(F:Jy ops rl qs ts){val:Nat->Value}{D:Nat->Prop}{a_0 a:Act}(h:Jn ops val D a_0 a){i:Nat}{o:Oper}(G:ops[i]?=some o) :
  Jn ops val (λ j=>D j\/j=i) a_0 (a.put o.dst (val i)):=by
 have E:WH ops i=o.dst:=by simp[WH,G]
 cases B:o.dst with
 |none=>
  rw[B]at E;refine⟨h.defers,h.size,λ s j b w z=>?_,λ s z=>h.not s λ j b w=>z j b (.inl w)⟩;rcases w with w|rfl
  .exact h.wr s j b w z
  .rw[E]at b;cases b
 |some d=>
  rw[B]at E;refine⟨h.defers,by simp[Act.put,h.size],λ s j b w z=>?_,λ s z=>?_⟩
  .by_cases e:d=s
   .subst e;obtain rfl:=F.once _ _ _ b E;simp only[Act.put];rw[Array.getElem?_setIfInBounds_self_of_lt (by rw[h.size];exact z)]
   .rcases w with w|rfl
    .simp only[Act.put];rw[Array.getElem?_setIfInBounds_ne e];exact h.wr s j b w z
    .rw[E]at b;cases b;exact absurd rfl e
  .have e:d≠s:=λ e=>z i (e▸E) (.inr rfl);simp only[Act.put];rw[Array.getElem?_setIfInBounds_ne e];exact h.not s λ j b w=>z j b (.inl w)
def Jn.val{ops:Array Oper}{val b:Nat->Value}{D:Nat->Prop}{a_0 a:Act}(h:Jn ops val D a_0 a)(B:∀j,D j->b j=val j):Jn ops b D a_0 a:=
 ⟨h.defers,h.size,λ s j w e z=>by rw[B j e];exact h.wr s j w e z,h.not⟩
def Jn.slot{ops:Array Oper}{val:Nat->Value}{D E:Nat->Prop}{a_0 a a':Act}(h:Jn ops val D a_0 a)(z:Jn ops val E a_0 a'){s:Nat}(F:∀j,WH ops j=some s->(D j↔E j)):a.tmps[s]?=a'.tmps[s]?:=by
 by_cases B:∃j,WH ops j=some s/\D j
 .obtain⟨j,b,e⟩:=B;by_cases w:s<a_0.tmps.size
  .rw[h.wr s j b e w,z.wr s j b ((F j b).1 e) w]
  .rw[Array.getElem?_eq_none (by rw[h.size];omega),Array.getElem?_eq_none (by rw[z.size];omega)]
 .rw[h.not s λ j b e=>B ⟨j,b,e⟩,z.not s λ j b e=>B ⟨j,b,(F j b).2 e⟩]
def Vz{ops:Array Oper}{a a':Act}{i:Nat}{o:Oper}(F:ops[i]?=some o)(e:∀cs b,o.op≠.select cs b)(h:∀s∈looks ops i,a.tmps[s]?=a'.tmps[s]?) :
  execOp a.eval o=execOp a'.eval o/\Region.wanted o (yielded ops a.tmps)=Region.wanted o (yielded ops a'.tmps):=by
 have E:looks ops i=Oper.looksAt ops o:=by simp[looks,F]
 rw[E]at h;constructor
 .refine execOp_congr o e λ x G=>?_;cases x with
  |tmp t=>
   have:=h t (by simp only[Oper.looksAt,mem_append,mem_filterMap,Array.mem_toList_iff];exact .inl ⟨.tmp t,G,rfl⟩);simp only[Act.eval,Array.getD_eq_getD_getElem?,this]
  |_=>rfl
 .unfold Region.wanted;cases z:o.guard with
  |none=>rfl
  |some p=>
   obtain⟨j,w⟩:=p;simp only[]
   have:yielded ops a.tmps j=yielded ops a'.tmps j:=by
    unfold yielded;cases B:(ops[j]?).bind (·.dst)with
    |none=>rfl
    |some t=>
     have:=h t (by simp only[Oper.looksAt,z,mem_append];exact .inr (by simp[B]));simp only[Option.bind_some,this]
   rw[this]
section sound
variable{ops:Array Oper}{rl qs ts:List Nat}
def Li(listed:Array Bool)(i:Nat):Prop:=listed.getD i false=true
def VQ{listed:Array Bool}{i j:Nat}(h:i<listed.size):Li (listed.setIfInBounds i true) j↔Li listed j\/j=i:=by
 simp only[Li,Array.getD_eq_getD_getElem?,Array.getElem?_setIfInBounds];by_cases e:i=j
 .subst e;simp[h]
 .have:¬j=i:=λ x=>e x.symm;simp[e,this]
def IG(z:Jy ops rl qs ts){i j:Nat}(h:JC ops j i):∀p,(qs++ts)[p]?=some i->j∈(qs++ts).take p:=by
 induction h with
 |edge e=>exact λ p w=>z.order p _ w _ e
 |trans _ e B=>
  intro p w;have:=z.order p _ w _ e;obtain⟨p',b⟩:=mem_iff_getElem?.1 this;rw[getElem?_take]at b;split at b
  .have h2:=B p' b;have:(qs++ts).take p' ⊆ (qs++ts).take p:=take_subset_take_left _ O1;exact this h2
  .cases b
def FT{listed:Array Bool}(down:∀i,Li listed i->∀j∈W3 ops i,Li listed j){i j:Nat}(h:JC ops j i):Li listed i->Li listed j:=by
 induction h with
 |edge b=>exact λ e=>down _ e _ b
 |trans _ b w=>exact λ e=>w (down _ e _ b)
def Wg{listed:Array Bool}(down:∀i,Li listed i->∀j∈W3 ops i,Li listed j){i j:Nat}(h:JC ops j i)(e:∀j∈W3 ops i,Li listed j):Li listed j:=by
 cases h with
 |edge b=>exact e _ b
 |trans h b=>exact FT down h (e _ b)
def G9(e:Jy ops rl qs ts){p p' i:Nat}(h:(qs++ts)[p]?=some i)(b:(qs++ts)[p']?=some i):p=p':=by
 have w:=(List.getElem?_eq_some_iff.1 h).1;have z:=(List.getElem?_eq_some_iff.1 b).1;exact(getElem?_inj w e.nodup).1 (h.trans b.symm)
structure Inv(S:Sys P T)(ops:Array Oper)(rl qs:List Nat)(late:Nat->Bool)(G:Qa T->Prop)(U₀:Qa T)(a_0:Act)(Fin:Act->Qa T->Prop)(listed:Array Bool)(ac:Act)(U:Qa T)
  (pre L:List Nat) (C:Qa T->Prop) (av:Act) (val:Nat->Value):Prop where
 split:qs=pre++L
 der:ZX S ops rl (JC ops) late G U₀ Fin L C av
 mono:XX C
 base:U₀.le U
 c:C U
 av:Jn ops val (·∈pre) a_0 av
 ac:Jn ops val (Li listed) a_0 ac
 sub:∀i,Li listed i->i∈pre
 size:listed.size=ops.size
 down:∀i,Li listed i->∀j∈W3 ops i,Li listed j
 rels:∀i∈pre,i∈rl->Li listed i
 pend:∀i∈pre,¬Li listed i->∃o ai p,qs[p]?=some i/\ops[i]?=some o/\Jn ops val (·∈qs.take p) a_0 ai /\
  ((Region.wanted o (yielded ops ai.tmps)=false/\val i=undef) \/
   (Region.wanted o (yielded ops ai.tmps)=true/\(∀U',U.le U'->QL S o ai (λ v' U2=>v'=val i/\∃U1,Qx U2 U1/\U'.le U1) U')/\(late i=true->∀U',G U'->QL S o ai (λ v' U2=>v'=val i/\∃U1,Qx U2 U1/\U'.le U1) U')))
variable{late:Nat->Bool}{G:Qa T->Prop}{U₀:Qa T}{a_0:Act}{Fin:Act->Qa T->Prop}{listed:Array Bool}{ac av:Act}{U:Qa T}{pre L:List Nat}{C:Qa T->Prop}{val:Nat->Value}
def ZW(val:Nat->Value)(i:Nat)(v:Value):Nat->Value:=λ j=>if j=i then v else val j
def HM{val:Nat->Value}{i j:Nat}{v:Value}(h:j≠i):ZW val i v j=val j:=by simp[ZW,h]
def G6(val:Nat->Value)(i:Nat)(v:Value):ZW val i v i=v:=by simp[ZW]
def Vx(b:Jy ops rl qs ts){x:Nat}{rest:List Nat}(h:qs=pre++x::rest):x∉pre:=by
 intro e;have:=(nodup_append.1 b.nodup).1;rw[h]at this;exact(nodup_append.1 this).2.2 x e x (mem_cons_self ..) rfl
def Xo{x:Nat}{rest:List Nat}(h:qs=pre++x::rest):qs.take pre.length=pre/\qs[pre.length]?=some x:=by
 subst h;exact⟨S1,S1⟩
def WY{p i:Nat}(b:qs[p]?=some i):(qs++ts)[p]?=some i:=by
 rw[getElem?_append_left (List.getElem?_eq_some_iff.1 b).1];exact b
def Inv.note(I:Jy ops rl qs ts){x:Nat}{rest:List Nat}(h:Inv S ops rl qs late G U₀ a_0 Fin listed ac U pre (x::rest) C av val)(v:Value) :
  Jn ops (ZW val x v) (·∈pre) a_0 av/\Jn ops (ZW val x v) (Li listed) a_0 ac /\
  (∀i∈pre,¬Li listed i->∃o w p,qs[p]?=some i/\ops[i]?=some o/\Jn ops (ZW val x v) (·∈qs.take p) a_0 w /\
   ((Region.wanted o (yielded ops w.tmps)=false/\ZW val x v i=undef) \/
    (Region.wanted o (yielded ops w.tmps)=true/\(∀U',U.le U'->QL S o w (λ P F=>P=ZW val x v i/\∃z,Qx F z/\U'.le z) U')/\(late i=true->∀U',G U'->QL S o w (λ P F=>P=ZW val x v i/\∃z,Qx F z/\U'.le z) U')))):=by
 have N:=Vx I h.split;refine⟨h.av.val λ j B=>HM (λ e=>N (e▸B)),h.ac.val λ j B=>HM (λ e=>N (e▸h.sub j B)),λ i K W=>?_⟩;obtain⟨o,w,p,Q,X,H,V⟩:=h.pend i K W;have L:i≠x:=λ e=>N (e▸K);refine⟨o,w,p,Q,X,H.val λ j B=>HM λ e=>?_,by rw[HM L];exact V⟩;subst e;obtain⟨p',b⟩:=mem_iff_getElem?.1 B;rw[getElem?_take]at b;split at b
 .rename_i hlt;have Y:=G9 I (WY (ts:=ts) b) (WY (Xo h.split).2);obtain⟨T,E⟩:=mem_iff_getElem?.1 K;have M:T<pre.length:=(List.getElem?_eq_some_iff.1 E).1;have Z:=G9 I (WY (ts:=ts) Q) (WY (ts:=ts) (p:=T) (i:=i) (by rw[h.split,getElem?_append_left M];exact E));omega
 .cases b
def Inv.adv(K:Jy ops rl qs ts){x:Nat}{rest:List Nat}(h:Inv S ops rl qs late G U₀ a_0 Fin listed ac U pre (x::rest) C av val){v:Value}{o:Oper}(L:ops[x]?=some o)(H:x∉rl)
  (N:ZX S ops rl (JC ops) late G U₀ Fin rest C (av.put o.dst v))
  (B:(Region.wanted o (yielded ops av.tmps)=false/\v=undef)\/(Region.wanted o (yielded ops av.tmps)=true/\(∀U',U₀.le U'->C U'->QL S o av (λ I F=>I=v/\∃z,Qx F z/\U'.le z) U')/\(late x=true->∀U',G U'->QL S o av (λ I F=>I=v/\∃z,Qx F z/\U'.le z) U'))) :
  Inv S ops rl qs late G U₀ a_0 Fin listed ac U (pre++[x]) rest C (av.put o.dst v) (ZW val x v):=by
 obtain⟨M,T,V⟩:=h.note K v;have w:=Jn.put K M L;rw[G6]at w;refine⟨by rw[h.split];simp,N,h.mono,h.base,h.c,?_,T,λ i b=>mem_append_left _ (h.sub i b),h.size,h.down,?_,?_⟩
 .have e:(λ j=>j∈pre\/j=x)=(·∈pre++[x]):=by funext j;simp
  rw[<- e];exact w
 .intro i b hr;rcases mem_append.1 b with b|b
  .exact h.rels i b hr
  .simp at b;subst b;exact absurd hr H
 .intro i b hl;rcases mem_append.1 b with b|b
  .exact V i b hl
  .simp at b;subst b;refine⟨o,av,pre.length,(Xo h.split).2,L,by rw[(Xo h.split).1];exact M,?_⟩;rw[G6];rcases B with B|⟨Q,B,P⟩
   .exact .inl B
   .exact .inr ⟨Q,λ U' E=>B U' (h.base.trans E) (h.mono _ _ h.c E),P⟩
def PF(E:Jy ops rl qs ts)(down:∀i,Li listed i->∀j∈W3 ops i,Li listed j){p i:Nat}(G:qs[p]?=some i)(H:¬Li listed i)(L:∀j∈W3 ops i,Li listed j)
  {s j:Nat} (M:s∈looks ops i) (I:WH ops j=some s):Li listed j↔j∈qs.take p:=by
 have z:=WY (ts:=ts) G;have K:=(List.getElem?_eq_some_iff.1 G).1;by_cases e:i=j
 .subst e;refine⟨λ h=>absurd h H,λ h=>?_⟩;obtain⟨p',b⟩:=mem_iff_getElem?.1 h;rw[getElem?_take]at b;split at b
  .have:=G9 E (WY (ts:=ts) b) z;omega
  .cases b
 .rcases E.look i (mem_of_getElem? G) j s e I M with B|B
  .have h1:=Wg down B L;have F:=IG E B p z;rw[take_append_of_le_length O1]at F;exact⟨λ _=>F,λ _=>h1⟩
  .refine⟨λ h=>absurd (FT down B h) H,λ h=>?_⟩;obtain⟨p',b⟩:=mem_iff_getElem?.1 h;rw[getElem?_take]at b;split at b
   .have F:=IG E B p' (WY (ts:=ts) b);obtain⟨N,w⟩:=mem_iff_getElem?.1 F;rw[getElem?_take]at w;split at w
    .have:=G9 E w z;omega
    .cases w
   .cases b
def Inv.reach(H:Jy ops rl qs ts){i:Nat}(b:i∈qs)(Z:∀j∈W3 ops i,Li listed j) :
  ∀(L pre:List Nat)(C:Qa T->Prop)(av:Act)(val:Nat->Value),Inv S ops rl qs late G U₀ a_0 Fin listed ac U pre L C av val ->
   ∃w Q W I E,Inv S ops rl qs late G U₀ a_0 Fin listed ac U w Q W I E/\(i∈w\/∃rest,Q=i::rest/\i∈rl):=by
 intro L
 induction L with
 |nil=>
  intro pre C av val h;exact⟨pre,[],C,av,val,h,.inl (by have:=h.split;simp at this;exact this▸b)⟩
 |cons x rest V=>
  intro pre C av val h;by_cases z:x∈rl
  .by_cases e:x=i
   .subst e;exact⟨pre,_,C,av,val,h,.inr ⟨rest,rfl,z⟩⟩
   .by_cases hpre:i∈pre
    .exact⟨pre,_,C,av,val,h,.inl hpre⟩
    .exfalso
     have B:i∈rest:=by
      rw[h.split]at b;simp at b;rcases b with b|b|b
      .exact absurd b hpre
      .exact absurd b.symm e
      .exact b
     have X:JC ops x i:=by
      refine H.behind pre.length x (Xo h.split).2 z i ?_;rw[h.split];simp[B]
     exact Vx H h.split (h.sub x (Wg h.down X Z))
  .have hder:=h.der;cases hder with
   |un _ M P K=>exact V _ _ _ _ (h.adv H M z K (.inl ⟨P,rfl⟩))
   |det v _ M P N Y K=>exact V _ _ _ _ (h.adv H M z K (.inr ⟨P,N,Y⟩))
   |rel F B=>exact absurd B z
   |last B=>exact absurd B z
def PY{o:Oper}{a:Act}{K:Value->Qa T->Prop}{b:Act->Qa T->Prop}(h:QL S o a K U)(e:∀v U,K v U->b (a.put o.dst v) U):Gt S ro o a b U:=
 QL.opV (h.mono e)
def PX{o:Oper}{a:Act}{K:Value->Qa T->Prop}(h:QL S o a K U):∀c,o.op≠.defer c:=by
 intro c e;unfold QL at h;simp only[execOp,e]at h;have z:=(TN (P:=P) (resolve a.eval c o.type) (λ d=>(pure (.defer d):Sem Next))).1 h;have b:Qr P (resolve a.eval c o.type) (λ _ _=>False) U:=Qr.mono _ z λ d U B=>B;obtain⟨callee,args,w⟩:=c;cases callee with
 |value f=>cases E:a.eval f <;> simp[resolve,Deferred.ofValue,E,Qr,pure,stuck]at b
 |invoke r F=>simp[resolve,Qr,pure]at b
 |builtin bb=>simp[resolve,Qr,pure]at b
def YT{k t:Nat}{listed:Array Bool}(h:Region.ready .any ops listed≠[]):∃i∈Region.ready .any ops listed,∃w,Region.linearise.go .any ops (k+1) t listed []=i::Region.linearise.go .any ops k w (listed.setIfInBounds i true) []:=by
 have b:t % (Region.ready .any ops listed).length<(Region.ready .any ops listed).length:=Nat.mod_lt _ (length_pos_iff.2 h);refine⟨(Region.ready .any ops listed)[t % (Region.ready .any ops listed).length],getElem_mem _,t / (Region.ready .any ops listed).length,?_⟩;have e:(Region.ready .any ops listed)[t % (Region.ready .any ops listed).length]?=some (Region.ready .any ops listed)[t % (Region.ready .any ops listed).length]:=getElem?_eq_getElem b;simp only[Region.linearise.go]
 change(match(Region.ready .any ops listed)[t % (Region.ready .any ops listed).length]? with
   |some i=>Region.linearise.go .any ops k (t / (Region.ready .any ops listed).length) (listed.setIfInBounds i true) [i]
   |none=>[].reverse)=_
 rw[e];simp only[];rw[linearise_go_acc,reverse_singleton,singleton_append]
def KC(e:Jy ops rl qs ts){listed:Array Bool}(H:listed.size=ops.size):∀(p i:Nat),(qs++ts)[p]?=some i->¬Li listed i->∃x,x∈Region.ready .any ops listed:=by
 intro p
 induction p using Nat.strongRecOn with
 |ind p I=>
  intro i B F;by_cases E:∀j∈W3 ops i,Li listed j
  .refine⟨i,J9.2 ⟨(e.mem i).2 (mem_of_getElem? B),?_,E⟩⟩;have z:i<listed.size:=by rw[H];exact(e.mem i).2 (mem_of_getElem? B)
   simp only[Li,Array.getD_eq_getD_getElem?,Array.getElem?_eq_getElem z,Option.getD_some,Bool.not_eq_true]at F ⊢;exact F
  .obtain⟨j,h,w⟩:∃j∈W3 ops i,¬Li listed j:=by
    apply Classical.byContradiction;intro G;exact E λ j h=>Classical.byContradiction λ w=>G ⟨j,h,w⟩
   obtain⟨p',b⟩:=mem_iff_getElem?.1 (e.order p i B j h);rw[getElem?_take]at b;split at b
   .exact I p' (by assumption) j b w
   .cases b
def YV{listed:Array Bool}{i:Nat}(h:i∈Region.ready .any ops listed):¬Li listed i:=by
 have:=(J9.1 h).2.1;simp only[Li,Array.getD_eq_getD_getElem?]at this ⊢;cases b:listed[i]? <;> simp_all
def kQ(h:Jy ops rl qs ts){listed:Array Bool}{p:Nat}(z:∀i,Li listed i↔i∈(qs++ts).take p):∀i,Li listed i->∀j∈W3 ops i,Li listed j:=by
 intro i e j w;rw[z]at e ⊢;obtain⟨B,b⟩:=mem_iff_getElem?.1 e;rw[getElem?_take]at b;split at b
 .have:=h.order B i b j w;exact take_subset_take_left _ O1 this
 .cases b
def Ng(z:Jy ops rl qs ts):∀(q:Nat)(p t:Nat)(listed:Array Bool),p+q=ts.length->listed.size=ops.size->(∀i,Li listed i↔i∈(qs++ts).take (qs.length+p)) ->
  Region.linearise.go .any ops q t listed []=ts.drop p:=by
 intro q
 induction q with
 |zero=>intro p t listed S _ _;simp[Region.linearise.go,drop_of_length_le (show ts.length<=p by omega)]
 |succ q W=>
  intro p t listed S N H;have B:p<ts.length:=O1
  have U:ts[p]?=some ts[p]:=getElem?_eq_getElem B;have e:(qs++ts)[qs.length+p]?=some ts[p]:=by rw[getElem?_append_right O1];simp
  have E:¬Li listed ts[p]:=by
   rw[H];intro h;obtain⟨F,b⟩:=mem_iff_getElem?.1 h;rw[getElem?_take]at b;split at b
   .have:=G9 z b e;omega
   .cases b
  obtain⟨y,V⟩:=KC z N _ _ e E;obtain⟨i,G,X,I⟩:=YT (k:=q) (t:=t) (ne_nil_of_mem V);have w:=kQ z H
  have K:i=ts[p]:=by
   have L:=YV G;have T:=(J9.1 G).2.2;have Q:=(z.mem i).1 (J9.1 G).1;obtain⟨F,b⟩:=mem_iff_getElem?.1 Q;by_cases P:F<qs.length+p
   .exfalso;apply L;rw[H];exact mem_iff_getElem?.2 ⟨F,by rw[getElem?_take,if_pos P];exact b⟩
   .by_cases h2:F=qs.length+p
    .subst h2;rw[e]at b;cases b;rfl
    .exfalso;have M:ts[F-qs.length]?=some i:=by rw[getElem?_append_right O1]at b;exact b
     refine E (Wg w (z.tail _ i M ts[p] ?_) T);refine mem_append_right _ (mem_iff_getElem?.2 ⟨p,?_⟩);rw[getElem?_take,if_pos O1];exact U
  subst K;rw[I,W (p+1) X _ O1 (by simpa using N),drop_eq_getElem_cons B];intro j;rw[VQ (by rw[N];exact(J9.1 G).1),H]
  have:(qs++ts).take (qs.length+(p+1))=(qs++ts).take (qs.length+p)++[ts[p]]:=by
   rw[<- Nat.add_assoc,take_add_one,e];rfl
  rw[this];simp
def Jn.eq{val:Nat->Value}{D b:Nat->Prop}{a_0 a a':Act}(h:Jn ops val D a_0 a)(e:Jn ops val b a_0 a')(F:∀j,D j↔b j):a=a':=by
 obtain⟨G,w⟩:=a;obtain⟨H,z⟩:=a';have B:w=z:=h.defers.trans e.defers.symm
 have E:G=H:=by
  apply Array.ext_getElem?;intro s;exact h.slot e (s:=s) λ j _=>F j
 rw[B,E]
def uu(Y:Jy ops rl qs ts){Q:Ex->Act->Qa T->Prop}:∀(r t:Nat)(listed:Array Bool)(ac:Act)(U:Qa T)(pre L:List Nat)(C:Qa T->Prop)(av:Act)(val:Nat->Value),
  Inv S ops rl qs late G U₀ a_0 (λ a U=>QU S fn ro ops ts Q a U) listed ac U pre L C av val->(qs.filter λ i=>!listed.getD i false).length=r ->
  QU S fn ro ops (Region.linearise.go .any ops (r+ts.length) t listed []) Q ac U:=by
 intro r
 induction r generalizing U₀ with
 |zero=>
  intro t listed ac U pre L C av val h hr
  have af:∀i∈qs,Li listed i:=by
   intro i hi;have:=filter_eq_nil_iff.1 (length_eq_zero_iff.1 hr) i hi;simpa[Li]using this
  have hL:L=[]:=by
   cases L with
   |nil=>rfl
   |cons x rest=>exact absurd (h.sub x (af x (by rw[h.split];simp))) (Vx Y h.split)
  subst hL;have Z:pre=qs:=by have:=h.split;simp at this;exact this.symm
  subst Z;have ah:=h.der;cases ah with
  |nil aj=>
   have e:av=ac:=h.av.eq h.ac λ j=>⟨af j,h.sub j⟩;have:=aj U h.base h.c;rw[e]at this;rw[Nat.zero_add,Ng Y ts.length 0 t listed O1 h.size λ i=>?_]
   .simpa using this
   .rw[Nat.add_zero,take_left']
    .exact⟨h.sub i,af i⟩
    .rfl
 |succ r ih=>
  intro t listed ac U pre L C av val h hr;obtain⟨q,hq⟩:∃q,q∈qs.filter λ i=>!listed.getD i false:=exists_mem_of_length_pos O1;have az:=(mem_filter.1 hq).1;have ay:¬Li listed q:=by have:=(mem_filter.1 hq).2;simpa[Li]using this
  obtain⟨pq,a4⟩:=mem_iff_getElem?.1 az;obtain⟨y,hy⟩:=KC Y h.size _ _ (WY (ts:=ts) a4) ay;obtain⟨i,hi,t',a1⟩:=YT (k:=r+ts.length) (t:=t) (ne_nil_of_mem hy);have al:=YV hi;have N:=(J9.1 hi).2.2;have ax:=(J9.1 hi).1
  have aw:i∈qs:=by
   rcases mem_append.1 ((Y.mem i).1 ax)with hm|hm
   .exact hm
   .obtain⟨p1,hp1⟩:=mem_iff_getElem?.1 hm;exact absurd (Wg h.down (Y.tail p1 i hp1 q (mem_append_left _ az)) N) ay
  rw[show r+1+ts.length=(r+ts.length)+1 by omega,a1];have H:∀j,Li (listed.setIfInBounds i true) j↔Li listed j\/j=i:=λ j=>VQ (by rw[h.size];exact ax)
  have K:(qs.filter λ x=>!(listed.setIfInBounds i true).getD x false).length=r:=by
   have a3:=(nodup_append.1 Y.nodup).1
   have e:(qs.filter λ x=>!(listed.setIfInBounds i true).getD x false)=(qs.filter λ x=>!listed.getD x false).filter (λ x=>x != i):=by
    rw[filter_filter];refine filter_congr λ x _=>?_;have:=H x;simp only[Li]at this;cases hx:(listed.setIfInBounds i true).getD x false <;> cases a5:listed.getD x false <;> by_cases e:x=i <;> simp_all
   rw[e,<- Nodup.erase_eq_filter (a3.filter _),length_erase_of_mem (mem_filter.2 ⟨aw,by simpa[Li]using al⟩),hr];rfl
  obtain⟨I,L',C',ad,ab,B,an⟩:=h.reach Y aw N
  have V:∀j,Li (listed.setIfInBounds i true) j->∀k∈W3 ops j,Li (listed.setIfInBounds i true) k:=by
   intro j w k hk;rw[H]at w ⊢;rcases w with w|rfl
   .exact .inl (h.down j w k hk)
   .exact .inl (N k hk)
  have X:∀{val:Nat->Value}{o:Oper},ops[i]?=some o->Jn ops val (Li listed) a_0 ac->Jn ops val (Li (listed.setIfInBounds i true)) a_0 (ac.put o.dst (val i)):=by
   intro val o W ha;have:=Jn.put Y ha W;have e:Li (listed.setIfInBounds i true)=λ j=>Li listed j\/j=i:=by funext j;exact propext (H j)
   rw[e];exact this
  by_cases Z:i∈I
  ·
   obtain⟨o,ai,p,hp,W,a0,hh⟩:=B.pend i Z al;have E:=Vz W (Y.nosel i o W) (a:=ac) (a':=ai) λ s hs=>B.ac.slot a0 λ j w=>PF Y B.down hp al N hs w
   have next:∀P,U.le P->Inv S ops rl qs late G U₀ a_0 (λ a U=>QU S fn ro ops ts Q a U) (listed.setIfInBounds i true) (ac.put o.dst (ab i)) P I L' C' ad ab:=λ P M=>
    ⟨B.split,B.der,B.mono,B.base.trans M,B.mono _ _ B.c M,B.av,X W B.ac,λ j w=>((H j).1 w).elim (B.sub j) (λ e=>e▸Z),by simpa using B.size,V,λ j w hr=>(H j).2 (.inl (B.rels j w hr)),
     λ j w hl=>by
      obtain⟨o,ai,p,a,b,c,d⟩:=B.pend j w λ hx=>hl ((H j).2 (.inl hx));exact⟨o,ai,p,a,b,c,d.imp id λ⟨x,y,z⟩=>⟨x,λ U' hU=>y U' (M.trans hU),z⟩⟩⟩
   rcases hh with⟨hw,hv⟩|⟨hw,am,hg⟩
   .refine PG W (by rw[E.2];exact hw) ?_;have:=ih t' _ _ _ _ _ _ _ _ (next U (.refl U)) K;rw[hv]at this;exact this
   .have aa:QL S o ac (λ v' U2=>v'=ab i/\∃P,Qx U2 P/\U.le P) U:=by have:=am U (.refl U);unfold QL at this ⊢;rw[E.1];exact this
    refine Hm W (by rw[E.2];exact hw) (.inr (PX aa)) (PY aa λ v U2 hv=>?_);obtain⟨rfl,P,hs,M⟩:=hv;exact GJ hs (ih t' _ _ _ _ _ _ _ _ (next P M) K)
  .obtain⟨rest,rfl,hrl⟩:=an.resolve_left Z;have ah:=B.der;cases ah with
   |un hx _ _ _=>exact absurd hrl hx
   |det _ hx _ _ _ _ _=>exact absurd hrl hx
   |@rel _ _ _ _ o F _ hF W hw am hd=>
    obtain⟨ap,ak⟩:=Xo B.split
    have E:=Vz W (Y.nosel i o W) (a:=ac) (a':=ad) λ s hs=>B.ac.slot B.av λ j w=>by
     have:=PF Y B.down ak al N hs w;rw[ap]at this;exact this
    have aa:QL S o ac (λ v' U2=>∃P,Qx U2 P/\F v' P/\U.le P) U:=by have:=am U B.base B.c;unfold QL at this ⊢;rw[E.1];exact this
    refine Hm W (by rw[E.2];exact hw) (.inr (PX aa)) (PY aa λ v U2 hv=>?_);obtain⟨P,hs,aq,M⟩:=hv;refine GJ hs ?_;obtain⟨n1,n2,n3⟩:=B.note Y v;have ag:=Jn.put Y n1 W;have ae:=X W n2;rw[G6]at ag ae;refine ih t' _ _ P (I++[i]) rest (λ U'=>C' U'/\F v U') (ad.put o.dst v) (ZW ab i v) ⟨by rw[B.split];simp,hd v ⟨P,B.base.trans M,B.mono _ _ B.c M,aq⟩,λ a b⟨x,y⟩hl=>⟨B.mono a b x hl,hF v a b y hl⟩,B.base.trans M,⟨B.mono _ _ B.c M,aq⟩,?_,ae,?_,by simpa using B.size,V,?_,?_⟩ K
    .have e:(λ j=>j∈I\/j=i)=(·∈I++[i]):=by funext j;simp
     rw[<- e];exact ag
    .intro j w;rcases(H j).1 w with w|rfl
     .exact mem_append_left _ (B.sub j w)
     .simp
    .intro j w hr;rw[H];rcases mem_append.1 w with w|w
     .exact .inl (B.rels j w hr)
     .exact .inr (by simpa using w)
    .intro j w hl;rcases mem_append.1 w with w|w
     .obtain⟨o,ai,p,a,b,c,d⟩:=n3 j w λ hx=>hl ((H j).2 (.inl hx));exact⟨o,ai,p,a,b,c,d.imp id λ⟨x,y,z⟩=>⟨x,λ U' hU=>y U' (M.trans hU),z⟩⟩
     .exact absurd ((H j).2 (.inr (by simpa using w))) hl
   |@last _ _ _ o _ hG ao W hw am aj=>
    obtain⟨ap,ak⟩:=Xo B.split
    have E:=Vz W (Y.nosel i o W) (a:=ac) (a':=ad) λ s hs=>B.ac.slot B.av λ j w=>by
     have:=PF Y B.down ak al N hs w;rw[ap]at this;exact this
    have aa:QL S o ac (λ v' U2=>v'=undef/\∃P,Qx U2 P/\G P) U:=by have:=am U B.base B.c;unfold QL at this ⊢;rw[E.1];exact this
    refine Hm W (by rw[E.2];exact hw) (.inr (PX aa)) (PY aa λ v U2 hv=>?_);obtain⟨rfl,P,hs,au⟩:=hv;refine GJ hs ?_;obtain⟨n1,n2,n3⟩:=B.note Y undef;have ag:=Jn.put Y n1 W;have ae:=X W n2;rw[G6]at ag ae;refine ih (U₀:=P) t' _ _ P (I++[i]) [] G (ad.put o.dst undef) (ZW ab i undef) ⟨by rw[B.split];simp,.nil λ U' _ hg=>aj ⟨U,B.base,B.c⟩ U' hg,hG,.refl P,au,?_,ae,?_,by simpa using B.size,V,?_,?_⟩ K
    .have e:(λ j=>j∈I\/j=i)=(·∈I++[i]):=by funext j;simp
     rw[<- e];exact ag
    .intro j w;rcases(H j).1 w with w|rfl
     .exact mem_append_left _ (B.sub j w)
     .simp
    .intro j w hr;rw[H];rcases mem_append.1 w with w|w
     .exact .inl (B.rels j w hr)
     .exact .inr (by simpa using w)
    .intro j w hl;rcases mem_append.1 w with w|w
     .have hnj:¬Li listed j:=λ hx=>hl ((H j).2 (.inl hx));obtain⟨o,ai,p,a,b,c,d⟩:=n3 j w hnj;refine⟨o,ai,p,a,b,c,d.imp id λ⟨x,y,z⟩=>?_⟩
      have a2:late j=true:=by
       cases hb:late j with
       |true=>rfl
       |false=>exact absurd (Wg h.down (ao j hb) N) hnj
      exact⟨x,λ U' hU=>z a2 U' (hG _ _ au hU),z⟩
     .exact absurd ((H j).2 (.inr (by simpa using w))) hl
end sound
def E_{late:Nat->Bool}{G:Qa T->Prop}{Q:Ex->Act->Qa T->Prop}{a:Act}{U:Qa T}{id:Nat}{ops:Array Oper}(rl qs ts:List Nat)(F:P.follows .mixedOrders=true)(z:VC ops rl qs ts=true)
  (h:ZX S ops rl (JC ops) late G U (λ a U=>QU S fn ro ops ts Q a U) qs (λ _=>True) a):Zv S fn ro (.region id ops true) Q a U:=by
 have w:=Lh z;refine N1 λ t=>?_;simp only[Region.schedule,F,Bool.true_or,if_true,Region.linearise]
 have E:(qs.filter λ i=>!(Array.replicate ops.size false).getD i false).length=qs.length:=by
  congr 1;rw[filter_eq_self];intro x _;simp[Array.getElem?_replicate];split <;> rfl
 have e:ops.size=qs.length+ts.length:=by
  have B:(qs++ts).Perm (range ops.size):=by
   refine(perm_ext_iff_of_nodup w.nodup nodup_range).2 λ x=>?_;rw[mem_range];exact(w.mem x).symm
  have:=B.length_eq;simp at this;omega
 have b:∀i,¬Li (Array.replicate ops.size false) i:=by
  intro i h;simp only[Li,Array.getD_eq_getD_getElem?,Array.getElem?_replicate]at h;split at h <;> simp at h
 have:=uu (S:=S) (fn:=fn) (ro:=ro) (Q:=Q) w qs.length t (Array.replicate ops.size false) a U [] qs (λ _=>True) a (λ _=>undef)
  ⟨rfl,h,λ _ _ _ _=>trivial,.refl U,trivial,⟨rfl,rfl,λ _ _ _ h=>by simp at h,λ _ _=>rfl⟩,⟨rfl,rfl,λ _ j _ h=>absurd h (b j),λ _ _=>rfl⟩,λ i h=>absurd h (b i),S1,λ i h=>absurd h (b i),S1,S1⟩ E
 rw[<- e]at this;exact this
end Go.TM
namespace Go.TM
variable{T:Type}{P:Program}{S:Sys P T}{fn:FuncId}{ro:Option Nat}{Stop:QJ T}{m:Bool}
def J.body{b:Frame}{a:Act}{c:Code}{cs:List Frame}{U:Qa T}{Q:Ex->Act->Qa T->Prop}(B:Fr fn none b)(h:Zv S fn none c Q a U)
  (G:∀e a' U',Q e a' U'->(e=.normal\/e=.ret)/\∀todo,J S Stop m (Rf { fr b a' todo with mode:=.returning } cs) U'):J S Stop m (R b a [.code c] cs) U:=by
 refine h Stop m b [] cs B λ e a' U' q=>?_;obtain⟨F,E⟩:=G e a' U' q;have z:=B.2.1;rcases F with rfl|rfl
 .refine .still (g':=Rf { fr b a' []with mode:=.returning } cs) rfl (λ w=>?_) (E []);simp[R,Rf,stepG,stepG.exec,fr,z]
 .simp only[XO,XP,z];exact⟨.inr trivial,E⟩
def Xd(P:Program)(f:Func)(Q:Value->Qa T->Prop)(tmps:Array Value):List Deferred->Qa T->Prop
 |[],U=>Qr P (results f tmps) Q U
 |{ target:=.collected blk,.. }::ds,U=>Qr P (Instr.takeDeferred blk) (λ b U'=>b=[]/\Xd P f Q tmps ds U') U
 |_,_=>False
def Xd.step{f:Func}{Q:Value->Qa T->Prop}{b:Frame}{tmps:Array Value}{c:Frame}{cs:List Frame}(G:P.funcs[b.fn]?=some f)(z:b.kind=.normal\/b.kind=.wrapped)(H:∀v U',Q v U'->J S Stop m (Rf (c.finish v) cs) U') :
  ∀(ds:List Deferred)(todo:List Item)(U:Qa T),Xd P f Q tmps ds U->J S Stop m (Rf { fr b ⟨tmps,ds⟩ todo with mode:=.returning } (c::cs)) U:=by
 intro ds
 induction ds with
 |nil=>
  intro todo U h;refine .sem _ rfl h λ w x w' es e _=>⟨Rf (c.finish x) cs,seen P b.fn es,?_,Jq P _ es,λ U' q=>H _ _ q⟩;obtain⟨E,B⟩:Sem.run P (results f tmps) w=.ok x w'/\Sem.events P (results f tmps) w #[]=es:=by simpa using e
  rcases z with z|z <;> simp[Rf,stepG,unwind,fr,G,E,B,doReturn,z,GStep.after]
 |cons d ds I=>
  intro todo U h;obtain⟨K,args⟩:=d;cases K with
  |collected blk=>
   simp only[Xd]at h;refine .sem _ rfl h λ w x w' es e F=>⟨Rf { fr b ⟨tmps,x++ds⟩ todo with mode:=.returning } (c::cs),seen P b.fn es,?_,Jq P _ es,λ U' q=>?_⟩
   .obtain⟨E,B⟩:Sem.run P (Instr.takeDeferred blk) w=.ok x w'/\Sem.events P (Instr.takeDeferred blk) w #[]=es:=by simpa using e
    simp[Rf,stepG,unwind,fr,E,B,GStep.after]
   .obtain⟨rfl,q⟩:=q;exact I todo U' q
  |_=>exact h.elim
def Dt(P:Program)(f:Func)(Q:Value->Qa T->Prop):Ex->Act->Qa T->Prop
 |.normal,a,U=>Xd P f Q a.tmps a.defers U
 |.ret,a,U=>Xd P f Q a.tmps a.defers U
 |.exit _,_,_=>False
def Qb.of_body{f:FuncId}{fd:Func}{c:Code}{args:Array Value}{U:Qa T}{Q:Value->Qa T->Prop}(B:P.funcs[f]?=some fd)(F:fd.body=some c)
  (h:Zv S f none c (Dt P fd Q) { tmps:=args++Array.replicate (fd.ntmps-args.size) undef,defers:=[] } U):Qb S f args Q U:=by
 intro Stop m w cs E
 let b:Frame:={ (default:Frame)with fn:=f,kind:=.normal }
 have z:Rf (Frame.enter P f args .normal) (w::cs)=R b { tmps:=args++Array.replicate (fd.ntmps-args.size) undef,defers:=[] } [.code c] (w::cs):=by
  simp[Rf,R,Frame.enter,fr,B,F,b];rfl
 rw[z];refine J.body (fn:=f) ⟨rfl,rfl,by simp[b],S1⟩ h λ e a' U' q=>?_;cases e with
 |normal=>exact⟨.inl rfl,λ todo=>Xd.step B (.inl rfl) E a'.defers todo U' q⟩
 |ret=>exact⟨.inr rfl,λ todo=>Xd.step B (.inl rfl) E a'.defers todo U' q⟩
 |exit id=>exact q.elim
def Dn:Ex->Option Code
 |.normal=>none
 |.ret=>some .ret
 |.exit id=>some (.exit id)
def NE(P:Program)(l:Nat)(Q:Value->Qa T->Prop)(e:Ex)(_:Act)(U:Qa T):Prop:=Qr P (Instr.endRound l (Dn e)) Q U
def WE.of_body{l:Nat}{f:FuncId}{tmps:Array Value}{assign body:Code}{U:Qa T}{Q:Value->Qa T->Prop}
  (h:Zv S f (some l) assign (λ e a' U'=>e=.normal/\Qr P (Instr.beginRound l) (λ _ F=>Zv S f (some l) body (NE P l Q) a' F) U') ⟨tmps,[]⟩ U):WE S l f tmps assign body Q U:=by
 intro Stop m c cs V
 let b:Frame:={ (default:Frame)with fn:=f,kind:=.normal,roundOf:=some l }
 have K:Fr f (some l) b:=⟨rfl,rfl,by simp[b],by simp[b]⟩;have E:b.roundOf=some l:=rfl
 have B:Rf (Frame.round l f tmps assign body .normal) (c::cs)=R b ⟨tmps,[]⟩ [.code assign,.beginRound,.code body] (c::cs):=by
  simp[Rf,R,Frame.round,fr,b]
 rw[B];refine h Stop m b [.beginRound,.code body] (c::cs) K λ e a' U' q=>?_;obtain⟨rfl,q⟩:=q;show J S Stop m (R b a' [.beginRound,.code body] (c::cs)) U'
 have q':Qr P (do Instr.beginRound l;pure Next.skip:Sem Next) (λ n F=>n=.skip/\Zv S f (some l) body (NE P l Q) a' F) U':=
  (TN _ _).2 (Qr.mono _ q λ _ _ h=>⟨rfl,h⟩)
 refine .sem _ rfl q' λ w x w' es z H=>⟨R b a' [.code body] (c::cs),seen P f es,?_,Jq P _ es,λ F q=>?_⟩
 .obtain⟨_,rfl,_⟩:=H;have I:(b.kind==CallKind.early)=false:=rfl;show stepG.apply P true (fr b a' [.beginRound,.code body]) (c::cs) none (do (Instr.beginRound l);pure .skip) w=_;simp only[stepG.apply,if_true,z];simp[fr,I,GStep.after,R,Frame.finish,b]
 .obtain⟨_,q⟩:=q;refine q Stop m b [] (c::cs) K λ e G L q=>?_
  have leave:XP S Stop m b (c::cs) (Dn e) G L:=by
   simp only[XP,E];exact⟨c,cs,rfl,Qr.mono _ q λ v M Y=>V v M Y⟩
  cases e with
  |normal=>
   simp only[XP,E,Dn]at leave;obtain⟨Z,rest,e,X⟩:=leave;cases e;refine .sem _ rfl X λ w x w' es z _=>⟨Rf (c.finish x) cs,seen P f es,?_,Jq P _ es,λ _ h=>h⟩;obtain⟨W,N⟩:Sem.run P (Instr.endRound l none) w=.ok x w'/\Sem.events P (Instr.endRound l none) w #[]=es:=by simpa using z
   simp[R,stepG,stepG.exec,fr,b,W,N,doReturn,GStep.after,Rf]
  |exit id=>exact .inr ⟨rfl,leave⟩
  |ret=>exact leave
def Y4(f:Operand)(l:Nat):Call:={ callee:=.value f,args:=#[.const (.func (.yield l) #[] #[])],argTypes:=#[] }
def RF{Q:Ex->Act->Qa T->Prop}{a:Act}{U:Qa T}{f:Operand}{params:Array Tmp}{assign body:Code}
  (h:Qr P (Instr.enterLoop fn a.tmps params assign body ro) (λ lm U1=>
   Qr P (do let d <- resolve a.eval (Y4 f lm.1) 0;invoke d.target d.args:Sem Next) (λ nx U2=>match nx with
    |.enter f' args=>Qb S f' args (λ _ U3=>Qr P (Instr.endLoop lm.1) (λ j U4=>match j with
      |none=>Q .normal { a with defers:=lm.2++a.defers } U4
      |some c=>Zv S fn ro c Q { a with defers:=lm.2++a.defers } U4) U3) U2
    |_=>False) U1) U):Zv S fn ro (.rangeFunc f params assign body) Q a U:=by
 intro Stop m b k cs hb hc;have ac:(b.kind==CallKind.early)=false:=by simpa using hb.2.2.1
 refine .priv ⟨rfl,λ w ok=>?_⟩;obtain⟨⟨l,mark⟩,aa,H,U1,N,B,F,Z,h,X⟩:=Qr.sound _ (es₀:=#[]) h ok;obtain⟨nx,ab,I,U2,V,E,G,ad,h,Y⟩:=Qr.sound _ (es₀:=#[]) h Z;have L:(Instr.enterLoop b.fn a.tmps params assign body b.roundOf).runT P w #[]=(.ok (l,mark) aa,H):=by rw[hb.1,hb.2.1];simpa using N
 have M:(do let d <- resolve a.eval (Y4 f l) 0;invoke d.target d.args:Sem Next).runT P aa #[]=(.ok nx ab,I):=by simpa using V
 cases nx with
 |enter f' args=>
  refine⟨Rf (Frame.enter P f' args .normal) (fr b { a with defers:=mark++a.defers } (.inRangeFunc l::k)::cs),ab,seen P b.fn H++seen P b.fn I,U2,?_,?_,F.trans G,ad,Y.trans X,?_⟩
  .have z:(fr b { a with defers:=mark++a.defers } (.inRangeFunc l::k)).eval=a.eval:=by rw[O4];rfl
   show GStep.after (seen P b.fn ((Instr.enterLoop b.fn a.tmps params assign body b.roundOf).runT P w #[]).2) (match((Instr.enterLoop b.fn a.tmps params assign body b.roundOf).runT P w #[]).1 with
    |.ok (l,mark) w=>stepG.apply P true (fr b { a with defers:=mark++a.defers } (.inRangeFunc l::k)) cs none (do let d <- resolve (fr b { a with defers:=mark++a.defers } (.inRangeFunc l::k)).eval (Y4 f l) 0;invoke d.target d.args) w
    |.halt _ w=>_)=_
   rw[L];simp only[z];simp only[stepG.apply,if_true,M];simp[fr,ac,GStep.after,Rf]
  .intro e z;rcases Array.mem_append.1 z with z|z
   .exact⟨(B e (Jq P _ _ e z)).1,(B e (Jq P _ _ e z)).2.mono G.size⟩
   .exact⟨JZ.of F (E e (Jq P _ _ e z)).1,(E e (Jq P _ _ e z)).2⟩
  .refine h Stop m _ cs λ v U3 h=>?_;have K:(fr b { a with defers:=mark++a.defers } (.inRangeFunc l::k)).finish v=fr b { a with defers:=mark++a.defers } (.endRangeFunc l::k):=by simp[Frame.finish,fr]
   rw[K];refine .sem (g:=R b { a with defers:=mark++a.defers } (.endRangeFunc l::k) cs) _ rfl h λ w j w' es W _=>⟨R b { a with defers:=mark++a.defers } ((j.map Item.code).toList++k) cs,seen P b.fn es,?_,Jq P _ es,λ U4 q=>?_⟩
   .obtain⟨hr,z⟩:Sem.run P (Instr.endLoop l) w=.ok j w'/\Sem.events P (Instr.endLoop l) w #[]=es:=by simpa using W
    simp[R,stepG,stepG.exec,fr,hr,z,GStep.after]
   .cases j with
    |none=>exact hc _ _ _ q
    |some c=>exact q Stop m b k cs hb hc
 |_=>exact h.elim
end Go.TM
namespace Go.TM
variable{T:Type}{P:Program}{S:Sys P T}
def WN(U:Qa T):Prop:=∀r∈U.M,U.I r.blk=none
def Qb.sep{f:FuncId}{args:Array Value}{R R':Value->Qa T->Prop}{U:Qa T}(h:Qb S f args R U)(e:∀v U',WN U'->R v U'->∃U'',Qx U' U''/\R' v U''):Qb S f args R' U:=by
 intro Stop m c cs k;refine h Stop m c cs λ v U' r=>?_;by_cases b:WN U'
 .obtain⟨U'',h1,h2⟩:=e v U' b r;exact .shift h1 (k v _ h2)
 .exact .priv ⟨rfl,λ w ok=>absurd ok.sep b⟩
def Zh(S:Sys P T)(l:Nat)(vs:List Value)(K:Value->Qa T->Prop)(U:Qa T):Prop:=Qr P (Instr.yield l vs.toArray) (ZI S K) U
abbrev Fm:=Nat->Value
def JK(f:Fm)(d:Nat)(v:Value):Fm:=λ t=>bif Nat.beq t d then v else f t
def ZE(f:Fm):Option Nat->Value->Fm
 |some d,v=>JK f d v
 |none,_=>f
def Zo(f:Fm):Operand->Value
 |.tmp t=>f t
 |.const v=>v
 |.global g=>.pointer (some ⟨g,0,none⟩)
 |.func g=>.func (.func g) #[] #[]
inductive O where
 |mv (x:Operand)
 |pick (c a b:Operand)
 |add (x y:Operand)|sub (x y:Operand)|mul (x y:Operand)
 |cmp (op:BinOp) (x y:Operand)
 |beq (op:BinOp) (x y:Operand)
 |ar (op:BinOp) (x y:Operand)
 |teq (op:BinOp) (x y:Operand)
 |not (x:Operand)
 |len (x:Operand)
 |lenT (x:Operand)
 |lenM (x:Operand)
 |conv (k:IntKind) (x:Operand)
 |off (n:Nat) (x:Operand)
 |idx (sz:Nat) (x i:Operand)
 |aidx (n sz:Nat) (x i:Operand)
 |sidx (x i:Operand)
 |ld (x:Operand)
 |ldn (n:Nat) (x:Operand)
 |st (n:Nat) (x v:Operand)
 |box (t:TypeId) (x:Operand)
 |boxM (t:TypeId) (x:Operand)
 |alloc (t:TypeId) (zero:Array Value)
 |ext (x:Operand) (i:Nat)
 |part (off n:Nat) (x:Operand)
 |part1 (off:Nat) (x:Operand)
 |mkf (fn:Fn) (first capt:Array Operand)
 |call (f:Operand) (args:Array Operand)
 |nilc (x:Operand)
 |sub3 (sz:Nat) (x:Operand) (lo hi:Option Operand)
 |build (zero:Array Value) (parts:List (Nat×Nat×Operand))
 |bsl (t:TypeId) (len:Nat) (zero:Array Value) (parts:List (Nat×Nat×Operand))
 |raw (o:Oper)
def WS(v:Value)(K:Value->Prop):Prop:=
 match v with
 |.bool b=>K (.bool b)|.int k n=>K (.int k n)|.float k n=>K (.float k n)|.complex k a b=>K (.complex k a b)|.string s=>K (.string s)
 |.pointer a=>K (.pointer a)|.slice a l c=>K (.slice a l c)|.map r=>K (.map r)|.chan r=>K (.chan r)|.func f a b=>K (.func f a b)
 |.nilFunc=>K .nilFunc|.iface t x=>K (.iface t x)|.nilIface=>K .nilIface|.agg c=>K (.agg c)|.tuple c=>K (.tuple c)
def Q0(v:Value)(K:Value->Prop):WS v K=K v:=by cases v <;> rfl
def X8(l:List Value):(List Value->Prop)->Prop:=List.rec (motive:=λ _=>(List Value->Prop)->Prop) (λ K=>K []) (λ v _ b K=>WS v λ v=>b λ r=>K (v::r)) l
def Wb:∀(l:List Value)(K:List Value->Prop),X8 l K=K l
 |[],_=>rfl
 |v::r,K=>by
  show(WS v λ v=>X8 r λ r=>K (v::r))=_;rw[Q0];exact Wb r _
def VB(v:Value)(K:Array Value->Prop):Prop:=WS v λ v=>match v with|.agg cs=>K cs|v=>K #[v]
def S0(v:Value)(K:Array Value->Prop):VB v K=K v.cells:=by unfold VB;rw[Q0];cases v <;> rfl
def Zf(U:Qa T)(b:Nat)(c:Array Value):Prop:=∃t fr,U.I b=some (.cells c t fr)
def Zf.new{U:Qa T}{b:Nat}{c:Array Value}{t:TypeId}:Zf { U with I:=JF U.I b (.cells c t) } b c:=⟨t,(0,0),by simp[JF]⟩
def P1{U:Qa T}{b:Nat}{o:Obj}(h:U.free b):U.le { U with I:=JF U.I b o }:=by
 refine⟨λ x z w=>?_,rfl,rfl⟩;show JF U.I b o x=_;unfold JF;rw[if_neg]
 .exact w
 .intro e;rw[e,h.1]at w;cases w
def Ze(n:Int):Prop:=-9223372036854775808<=n/\n<9223372036854775808
theorem I1{x:Int}(h:-9223372036854775808<=x/\x<9223372036854775808:=by omega):Ze x:=h
def G7{n:Int}(h:Ze n):IntKind.wrap .i64 n=n:=by
 unfold Ze at h;have b:(2:Int)^64=18446744073709551616:=D1
 have e:(2:Int)^(64-1)=9223372036854775808:=D1
 simp only[IntKind.wrap,IntKind.bits,IntKind.signed,Bool.true_and,b,e];split <;> rename_i w <;> simp only[decide_eq_true_eq]at w <;> omega
def Z6(U:Qa T)(a:Addr)(vs:List Value):Prop:=∀i v,vs[i]?=some v->U.sees (a.add i) v
def ZB(a:Addr)(l:List Value):Nat->(Qa T->Prop)->Qa T->Prop:=
 List.rec (motive:=λ _=>Nat->(Qa T->Prop)->Qa T->Prop) (λ _ K U=>K U) (λ v _ b i K U=>v.single=true/\∃M',H3 (a.add i) v U.M M'/\b (i+1) K { U with M:=M' }) l
def ZB.mono{a:Addr}{K b:Qa T->Prop}(e:∀U,K U->b U):∀(vs:List Value)(i:Nat)(U:Qa T),ZB a vs i K U->ZB a vs i b U
 |[],_,_,h=>e _ h
 |_::vs,i,_,⟨w,M',z,h⟩=>⟨w,M',z,ZB.mono e vs (i+1) _ h⟩
def S6(len:Nat)(lo b:Option Value):Option (Int×Int):=
 match lo,b with
 |none,none=>some (0,len)
 |some (.int _ l),none=>some (l,len)
 |none,some (.int _ h)=>some (0,h)
 |some (.int _ l),some (.int _ h)=>some (l,h)
 |_,_=>none
def JW(cells:Array Value)(off:Nat):List Value->Nat->Array Value
 |[],_=>cells
 |v::r,j=>JW (cells.setIfInBounds (off+j) v) off r (j+1)
def Pu(f:Fm)(cells:Array Value):List (Nat×Nat×Operand)->Option (Array Value)
 |[]=>some cells
 |(off,size,x)::r=>
  if(Zo f x).cells.size≠size|| off+(Zo f x).cells.size > cells.size then none
  else Pu f (JW cells off (Zo f x).cells.toList 0) r
def KB:∀(vs:List Value)(c:Array Value)(off j:Nat),(JW c off vs j).size=c.size
 |[],_,_,_=>rfl
 |v::vs,c,off,j=>by simp[JW,KB vs]
def PW:∀(vs:List Value)(c:Array Value)(off j k:Nat),off+j+vs.length<=c.size->(JW c off vs j)[k]?=if off+j<=k/\k<off+j+vs.length then vs[k-(off+j)]? else c[k]?
 |[],c,off,j,k,_=>by simp[JW];omega
 |v::vs,c,off,j,k,h=>by
  simp only[length_cons]at h;simp only[JW];rw[PW vs _ off (j+1) k S3];by_cases e:k=off+j
  .subst e;rw[if_neg O1,if_pos S1];rw[Array.getElem?_setIfInBounds_self_of_lt O1];simp
  .by_cases h1:off+(j+1)<=k/\k<off+(j+1)+vs.length
   .rw[if_pos h1,if_pos S3];have:k-(off+j)=(k-(off+(j+1)))+1:=O1
    rw[this,getElem?_cons_succ]
   .rw[if_neg h1,if_neg S3,Array.getElem?_setIfInBounds_ne O1]
def gX(vs:List Value)(c:Array Value)(off:Nat)(h:off+vs.length<=c.size):(JW c off vs 0).toList=c.toList.take off++vs++c.toList.drop (off+vs.length):=by
 apply ext_getElem?;intro k;have w:=PW vs c off 0 k O1;rw[Array.getElem?_toList,w];have b:(c.toList.take off).length=off:=S3
 by_cases e:k<off
 .rw[if_neg O1,append_assoc,getElem?_append_left O1,getElem?_take,if_pos e,Array.getElem?_toList]
 .by_cases h2:k<off+vs.length
  .rw[if_pos O1,append_assoc,getElem?_append_right O1,getElem?_append_left O1,b];rfl
  .rw[if_neg O1,append_assoc,getElem?_append_right O1,getElem?_append_right O1,b,getElem?_drop,Array.getElem?_toList];congr 1;omega
def Do(off:Nat)(vs cs:List Value):List Value:=cs.take off++vs++cs.drop (off+vs.length)
def Of(f:Fm)(ps:List (Nat×Nat×Operand)):List Value->(List Value->Prop)->Prop:=
 List.rec (motive:=λ _=>List Value->(List Value->Prop)->Prop) (λ cs K=>X8 cs K)
  (λ p _ e cs K=>VB (Zo f p.2.2) λ vs=>X8 vs.toList λ vl=>
   bif (Nat.beq vl.length p.2.1&&Nat.ble (p.1+vl.length) cs.length)then X8 (Do p.1 vl cs) (λ b=>e b K)else False) ps
def G8(f:Fm):∀(ps:List (Nat×Nat×Operand))(cs:List Value)(K:List Value->Prop),Of f ps cs K=(match Pu f cs.toArray ps with|some c=>K c.toList|none=>False)
 |[],cs,K=>by
  show X8 cs K=_;rw[Wb];rfl
 |(off,size,x)::r,cs,K=>by
  show(VB (Zo f x) λ vs=>X8 vs.toList λ vl=>bif (Nat.beq vl.length size&&Nat.ble (off+vl.length) cs.length)then X8 (Do off vl cs) (λ b=>Of f r b K)else False)=_;rw[S0,Wb,Pu];simp only[Array.length_toList,size_toArray];by_cases h:(Zo f x).cells.size=size/\off+(Zo f x).cells.size<=cs.length
  .have e1:(Nat.beq (Zo f x).cells.size size&&Nat.ble (off+(Zo f x).cells.size) cs.length)=true:=by
    rw[Bool.and_eq_true];exact⟨Nat.beq_eq.symm▸h.1,Nat.ble_eq.symm▸h.2⟩
   rw[e1,cond_true,Wb,G8 f r];rw[if_neg S3];have z:=gX (Zo f x).cells.toList cs.toArray off (by simpa using h.2)
   have B:(Do off (Zo f x).cells.toList cs).toArray=JW cs.toArray off (Zo f x).cells.toList 0:=by
    apply Array.ext';rw[z];rfl
   rw[B]
  .have e1:(Nat.beq (Zo f x).cells.size size&&Nat.ble (off+(Zo f x).cells.size) cs.length)=false:=by
    rw[Bool.and_eq_false_iff];by_cases w:(Zo f x).cells.size=size
    .right;rw[Bool.eq_false_iff];intro e;exact h ⟨w,Nat.le_of_ble_eq_true e⟩
    .left;rw[Bool.eq_false_iff];intro e;exact w (Nat.eq_of_beq_eq_true e)
   rw[e1,cond_false,if_pos];simp;omega
def OX(S:Sys P T):O->Fm->(Value->Qa T->Prop)->Qa T->Prop
 |.mv x,f,K,U=>WS (Zo f x) λ v=>K v U
 |.pick c a b,f,K,U=>match Zo f c with
  |.bool true=>WS (Zo f a) λ v=>K v U
  |.bool false=>WS (Zo f b) λ v=>K v U
  |_=>False
 |.add x y,f,K,U=>match Zo f x,Zo f y with|.int .i64 a,.int .i64 b=>Ze (a+b)/\K (.int .i64 (a+b)) U|_,_=>False
 |.sub x y,f,K,U=>match Zo f x,Zo f y with|.int .i64 a,.int .i64 b=>Ze (a-b)/\K (.int .i64 (a-b)) U|_,_=>False
 |.mul x y,f,K,U=>match Zo f x,Zo f y with|.int .i64 a,.int .i64 b=>Ze (a*b)/\K (.int .i64 (a*b)) U|_,_=>False
 |.cmp op x y,f,K,U=>match Zo f x,Zo f y with
  |.int k a,.int k' b=>k=k'/\(match op with
   |.eql=>K (.bool (a==b)) U|.neq=>K (.bool (a != b)) U|.lss=>K (.bool (decide (a<b))) U
   |.leq=>K (.bool (decide (a<=b))) U|.gtr=>K (.bool (decide (a > b))) U|.geq=>K (.bool (decide (a ≥ b))) U|_=>False)
  |_,_=>False
 |.beq op x y,f,K,U=>match Zo f x,Zo f y with
  |.bool a,.bool b=>(match op with|.eql=>K (.bool (a==b)) U|.neq=>K (.bool (!(a==b))) U|_=>False)
  |_,_=>False
 |.ar op x y,f,K,U=>match Zo f x,Zo f y with
  |.int k a,.int k' b=>(match op with
   |.add=>k=k'/\K (.int k (k.wrap (a+b))) U|.sub=>k=k'/\K (.int k (k.wrap (a-b))) U|.mul=>k=k'/\K (.int k (k.wrap (a*b))) U
   |.quo=>k=k'/\b≠0/\K (.int k (k.wrap (a.tdiv b))) U|.rem=>k=k'/\b≠0/\K (.int k (a.tmod b)) U
   |.and=>k=k'/\K (.int k (k.wrap (BitVec.ofInt k.bits a&&&BitVec.ofInt k.bits b).toNat)) U
   |.or=>k=k'/\K (.int k (k.wrap (BitVec.ofInt k.bits a||| BitVec.ofInt k.bits b).toNat)) U
   |.xor=>k=k'/\K (.int k (k.wrap (BitVec.ofInt k.bits a ^^^ BitVec.ofInt k.bits b).toNat)) U
   |.andNot=>k=k'/\K (.int k (k.wrap (BitVec.ofInt k.bits a&&&~~~ BitVec.ofInt k.bits b).toNat)) U
   |.shl=>0<=b/\K (.int k (k.wrap (a*2^(min b.toNat k.bits)))) U
   |.shr=>0<=b/\K (.int k (a.fdiv (2^(min b.toNat k.bits)))) U
   |_=>False)
  |_,_=>False
 |.teq op x y,f,K,U=>match Zo f x,Zo f y with
  |.string a,.string b=>(match op with|.eql=>K (.bool (a.toList==b.toList)) U|.neq=>K (.bool (!(a.toList==b.toList))) U|_=>False)
  |_,_=>False
 |.not x,f,K,U=>match Zo f x with|.bool b=>K (.bool (!b)) U|_=>False
 |.len x,f,K,U=>match Zo f x with|.slice _ n _=>K (.int .i64 n) U|_=>False
 |.lenT x,f,K,U=>match Zo f x with|.string s=>K (.int .i64 s.size) U|_=>False
 |.lenM x,f,K,U=>match Zo f x with
  |.map none=>K (.int .i64 0) U
  |.map (some r)=>∃es z,U.has r (.map es z)/\K (.int .i64 es.size) U
  |_=>False
 |.conv k x,f,K,U=>match Zo f x with|.int _ n=>K (.int k (k.wrap n)) U|_=>False
 |.off n x,f,K,U=>match Zo f x with|.pointer (some a)=>K (.pointer (some (a.add n))) U|_=>False
 |.idx sz x i,f,K,U=>match Zo f x,Zo f i with
  |.slice a len _,.int _ n=>∃(E:Addr)(j:Nat),(a=some E/\n=j/\j<len)/\K (.pointer (some (E.add (j*sz)))) U
  |_,_=>False
 |.aidx len sz x i,f,K,U=>match Zo f x,Zo f i with
  |.pointer (some a),.int _ n=>∃j:Nat,(n=j/\j<len)/\K (.pointer (some (a.add (j*sz)))) U
  |_,_=>False
 |.sidx x i,f,K,U=>match Zo f x,Zo f i with
  |.string s,.int _ n=>∃(j:Nat)(b:UInt8),(n=j/\s[j]?=some b)/\K (.int .u8 b.toNat) U
  |_,_=>False
 |.ld x,f,K,U=>match Zo f x with|.pointer (some a)=>∃v,U.sees a v/\WS v λ v=>K v U|_=>False
 |.ldn n x,f,K,U=>match Zo f x with|.pointer (some a)=>∃vs:List Value,(vs.length=n/\Z6 U a vs)/\K (.agg vs.toArray) U|_=>False
 |.st n x v,f,K,U=>match Zo f x with|.pointer (some a)=>(Zo f v).cells.size=n/\ZB a (Zo f v).cells.toList 0 (λ U'=>∃e,Qx U' e/\K undef e) U|_=>False
 |.box _ x,f,K,U=>VB (Zo f x) λ cs=>∀b e,U.le e->Zf e b cs->K (.pointer (some ⟨b,0,none⟩)) e
 |.boxM t x,f,K,U=>∀b,U.free b->K (.pointer (some ⟨b,0,none⟩)) (U.put b (.cells (Zo f x).cells t))
 |.alloc t zero,_,K,U=>∀b,U.free b->∃e,Qx (U.put b (.cells zero t)) e/\K (.pointer (some ⟨b,0,none⟩)) e
 |.ext x i,f,K,U=>match Zo f x with|.tuple vs=>(match vs[i]? with|some v=>WS v λ v=>K v U|none=>False)|_=>False
 |.part off n x,f,K,U=>match Zo f x with|.agg cs=>K (.agg ((cs.toList.drop off).take n).toArray) U|_=>False
 |.part1 off x,f,K,U=>match Zo f x with|.agg cs=>(match cs[off]? with|some v=>WS v λ v=>K v U|none=>False)|_=>False
 |.mkf fn first w,f,K,U=>X8 (first.toList.map (Zo f)) λ a=>X8 (w.toList.map (Zo f)) λ c=>K (.func fn a.toArray c.toArray) U
 |.call c args,f,K,U=>match Zo f c with
  |.func (.func g) first w=>(P.funcs[g]?.any λ fd=>fd.body.isSome&&fd.name != "runtime.NumGoroutine")=true/\X8 (args.toList.map (Zo f)) λ vs=>Qb S g (first.toList++vs++w.toList).toArray (λ v U'=>WN U'->K v U') U
  |.func (.yield l) first _=>X8 (args.toList.map (Zo f)) λ vs=>Zh S l (first.toList++vs) K U
  |_=>False
 |.nilc x,f,K,U=>match Zo f x with|.pointer (some a)=>K (.pointer (some a)) U|_=>False
 |.sub3 sz x lo B,f,K,U=>match Zo f x with
  |.slice a len cap=>(match S6 len (lo.map (Zo f)) (B.map (Zo f))with
   |some (F,B)=>∃l h:Nat,(F=l/\B=h/\l<=h/\h<=cap)/\K (.slice (if cap=l then a else a.map (·.add (l*sz))) (h-l) (cap-l)) U
   |none=>False)
  |_=>False
 |.build zero parts,f,K,U=>Of f parts zero.toList λ l=>K (.agg l.toArray) U
 |.bsl t len zero parts,f,K,U=>Of f parts zero.toList λ l=>∀b,U.free b->∃e,Qx (U.put b (.cells l.toArray t)) e/\K (.slice (some ⟨b,0,none⟩) len len) e
 |.raw o,f,K,U=>∀a:Act,(∀x,a.eval x=Zo f x)->Qr P (execOp a.eval o) (ZI S λ v U'=>∃e,Qx U' e/\K v e) U
def ja{α:Type}(s:Sem α):s.bind Sem.pure=s:=by
 induction s with
 |pure a=>rfl
 |load m a k b=>simp only[Sem.bind];congr 1;funext v;exact b v
 |store m a v k b=>simp only[Sem.bind,b]
 |new o k b=>simp only[Sem.bind];congr 1;funext v;exact b v
 |shape r k b=>simp only[Sem.bind];congr 1;funext v;exact b v
 |freeze a n k b=>simp only[Sem.bind,b]
 |frozen a k b=>simp only[Sem.bind];congr 1;funext v;exact b v
 |getObj r k b=>simp only[Sem.bind];congr 1;funext v;exact b v
 |setObj r o k b=>simp only[Sem.bind,b]
 |choose q k b=>simp only[Sem.bind];congr 1;funext v;exact b v
 |sys c k b=>simp only[Sem.bind];congr 1;funext v;exact b v
 |program k b=>simp only[Sem.bind];congr 1;funext v;exact b v
 |mark m k b=>simp only[Sem.bind,b]
 |halt h=>rfl
def zC{α β γ:Type}(s:Sem α)(g:α->Sem β)(h:β->Sem γ):(s.bind g).bind h=s.bind λ a=>(g a).bind h:=by
 induction s with
 |pure a=>rfl
 |load m a k b=>simp only[Sem.bind];congr 1;funext v;exact b v
 |store m a v k b=>simp only[Sem.bind,b]
 |new o k b=>simp only[Sem.bind];congr 1;funext v;exact b v
 |shape r k b=>simp only[Sem.bind];congr 1;funext v;exact b v
 |freeze a n k b=>simp only[Sem.bind,b]
 |frozen a k b=>simp only[Sem.bind];congr 1;funext v;exact b v
 |getObj r k b=>simp only[Sem.bind];congr 1;funext v;exact b v
 |setObj r o k b=>simp only[Sem.bind,b]
 |choose q k b=>simp only[Sem.bind];congr 1;funext v;exact b v
 |sys c k b=>simp only[Sem.bind];congr 1;funext v;exact b v
 |program k b=>simp only[Sem.bind];congr 1;funext v;exact b v
 |mark m k b=>simp only[Sem.bind,b]
 |halt h=>rfl
theorem Lp:LawfulMonad Sem:=LawfulMonad.mk' Sem (id_map:=λ s=>ja s) (pure_bind:=λ _ _=>rfl) (bind_assoc:=λ s g h=>zC s g h)
def X9{α β:Type}(g:α->Sem β):List α->Array β->Sem (Array β)
 |[],acc=>pure acc
 |x::r,acc=>do let y <- g x;X9 g r (acc.push y)
def sV{α β:Type}(g:α->Sem β):∀(l:List α)(acc:Array β),X9 g l acc=(do let r <- l.mapM g;pure (acc++r.toArray)):=by
 have:=Lp;intro l
 induction l with
 |nil=>intro acc;simp[X9]
 |cons x l b=>intro acc;simp[X9,b,mapM_cons]
def Oz{α β:Type}(g:α->Sem β)(l:List α):Array.mapM g l.toArray=X9 g l #[]:=by
 have:=Lp;rw[sV];simp
def Qf{α β:Type}(s:Sem α)(g:α->Sem β)(Q:β->Qa T->Prop)(U:Qa T):Qr P (s >>= g) Q U=Qr P s (λ a U=>Qr P (g a) Q U) U:=propext (TN s g)
def Qk{α:Type}(a:α)(Q:α->Qa T->Prop)(U:Qa T):Qr P (pure a:Sem α) Q U=Q a U:=rfl
def Zk{t:TypeId}{d:TypeDesc}(h:P.underlying t=some d)(Q:TypeDesc->Qa T->Prop)(U:Qa T):Qr P (underlying t) Q U=Q d U:=by
 simp only[underlying,program,Qf,Qr,h,Qk]
def Wl{t:TypeId}{i:TypeInfo}(h:P.info? t=some i)(Q:TypeInfo->Qa T->Prop)(U:Qa T):Qr P (typeInfo t) Q U=Q i U:=by
 simp only[typeInfo,program,Qf,Qr,h,Qk]
def Jj{t:TypeId}{i:TypeInfo}(h:P.info? t=some i)(Q:Nat->Qa T->Prop)(U:Qa T):Qr P (sizeOf t) Q U=Q i.size U:=by
 simp only[sizeOf,Qf,Wl h,Qk]
def TypeDesc.agg:TypeDesc->Bool
 |.struct _|.array _ _=>true
 |_=>false
def HV{t:TypeId}{d:TypeDesc}(h:P.underlying t=some d)(Q:Bool->Qa T->Prop)(U:Qa T):Qr P (isAgg t) Q U=Q (TypeDesc.agg d) U:=by
 simp only[isAgg,Qf,Zk h];cases d <;> rfl
def XM{t:TypeId}{i:TypeInfo}{v:Value}(h:P.info? t=some i)(b:i.zero=some v)(Q:Value->Qa T->Prop)(U:Qa T):Qr P (zeroValue t) Q U=Q v U:=by
 simp only[zeroValue,Qf,Wl h,b,Qk]
def OR{a:Addr}{v:Value}{Q:Value->Qa T->Prop}{U:Qa T}(h:U.sees a v)(b:Q v U):Qr P (load a) Q U:=⟨rfl,v,h,b⟩
def I9{a:Addr}{Q:Array Value->Qa T->Prop}{U:Qa T}:∀(vs:List Value)(i:Nat)(acc:Array Value),(∀j v,vs[j]?=some v->U.sees (a.add (i+j)) v)->Q (acc++vs.toArray) U ->
  Qr P (loadCellsFrom a i vs.length acc) Q U
 |[],i,acc,_,b=>by simpa[loadCellsFrom,Qk]using b
 |v::vs,i,acc,h,b=>by
  simp only[length_cons,loadCellsFrom,Qf];refine OR (h 0 v rfl) (I9 vs (i+1) (acc.push v) (λ j u w=>?_) ?_)
  .have:=h (j+1) u w
   rwa [show i+(j+1)=i+1+j by omega]at this
  .have e:acc.push v++vs.toArray=acc++(v::vs).toArray:=by apply Array.ext';simp
   rw[e];exact b
def Py{a:Addr}{Q:Unit->Qa T->Prop}:∀(vs:List Value)(i:Nat)(U:Qa T),ZB a vs i (λ U'=>Q () U') U->Qr P (storeCells a vs i) Q U
 |[],_,_,h=>h
 |v::vs,i,U,h=>by
  obtain⟨e,M',b,h⟩:=h;simp only[storeCells,Qf,store];exact⟨rfl,e,M',b,Py vs (i+1) _ h⟩
def Jl{t:TypeId}{c:Array Value}{Q:Addr->Qa T->Prop}{U:Qa T}(h:∀b,U.free b->Q ⟨b,0,none⟩ (U.put b (.cells c t))):Qr P (newRow t c) Q U:=by
 simp only[newRow,newObj,Qf,Qr,Qk];exact h
end Go.TM

