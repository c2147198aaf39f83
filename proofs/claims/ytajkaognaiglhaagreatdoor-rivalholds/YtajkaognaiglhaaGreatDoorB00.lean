/- Lemmas. No conditions. -/
import Derived.Conc.Own
import Derived.Orders
import Derived.KernelRfl
set_option linter.all false
theorem K1{α:Sort _}{a b:α}(h:a=b:=by kernel_rfl):a=b:=h
theorem O1{p:Prop}(h:p:=by omega):p:=h
theorem S1{p:Prop}(h:p:=by simp):p:=h
theorem T1{p:Prop}(h:p:=by trivial):p:=h
theorem D1{p:Prop}(h:p:=by decide):p:=h
theorem L1{p:Prop}(h:p:=by show _-_<_-_;omega):p:=h
theorem S2{p:Prop}(h:p:=by simp_all):p:=h
theorem S3{p:Prop}(h:p:=by simp;omega):p:=h
open List
namespace Go
abbrev Gr:=Goroutine
def Value.single:Value->Bool
 |.agg _|.tuple _=>false
 |_=>true
end Go
namespace Go.TM
inductive Q2 where
 |obj (b:Nat) (o:Obj)
 |cell (b i:Nat) (v:Value) (T:TypeId) (n:Nat)
def Q2.blk:Q2->Nat
 |.obj b _=>b
 |.cell b _ _ _ _=>b
def Q2.ok(w:World):Q2->Prop
 |.obj b o=>w.heap[b]?=some o
 |.cell b i v T n=>∃c,w.heap[b]?=some (.cells c T (0,0))/\c.size=n/\c[i]?=some v
def Q2.apart:Q2->Q2->Prop
 |.cell b i _ _ _,.cell c j _ _ _=>b≠c\/i≠j
 |r,s=>r.blk≠s.blk
structure Qa(T:Type) where
 I:Nat->Option Obj
 M:List Q2
 tok:T
variable{T:Type}
structure Qa.ok(U:Qa T)(w:World):Prop where
 imm:∀b o,U.I b=some o->w.heap[b]?=some o
 held:∀r∈U.M,r.ok w
 apart:U.M.Pairwise Q2.apart
 sep:∀r∈U.M,U.I r.blk=none
def Qa.canW(U:Qa T):Loc->Prop
 |.cell a=>(∃c t fr,Q2.obj a.block (.cells c t fr)∈U.M/\a.off<c.size)\/(∃v t n,Q2.cell a.block a.off v t n∈U.M)
 |.obj b=>∃o,Q2.obj b o∈U.M
 |_=>False
def Qa.canR(U:Qa T):Loc->Prop
 |.cell a=>U.canW (.cell a)\/∃c t fr,U.I a.block=some (.cells c t fr)/\a.off<c.size
 |.obj b=>U.canW (.obj b)\/∃o,U.I b=some o
 |_=>False
def Loc.new(w:World):Loc->Prop
 |.cell a=>w.heap.size<=a.block
 |.obj b=>w.heap.size<=b
 |_=>False
def Mark.still:Mark->Bool
 |.acquire _|.release _|.releaseMerge _|.disable|.enable|.read _|.write _=>false
 |_=>true
def J_(U:Qa T)(w:World)(e:Event):Prop:=
 match e.loc with
 |.cell a=>e.sync=false/\(if e.write then U.canW (.cell a)\/Loc.new w (.cell a)else U.canR (.cell a)\/Loc.new w (.cell a))
 |.obj b=>e.sync=false/\(if e.write then U.canW (.obj b)\/Loc.new w (.obj b)else U.canR (.obj b)\/Loc.new w (.obj b))
 |.mark m=>Mark.still m=true
 |_=>False
def WD(o e:Os):Prop:=∃d:Nat,e={ o with wall:=o.wall+d,mono:=o.mono+d }
def WD.refl(o:Os):WD o o:=⟨0,rfl⟩
def WD.trans{a b c:Os}(h:WD a b)(k:WD b c):WD a c:=by
 obtain⟨d,rfl⟩:=h;obtain⟨e,rfl⟩:=k;exact⟨d+e,by simp[Nat.add_assoc]⟩
structure ZY(U:Qa T)(w w':World)(U':Qa T):Prop where
 os:WD w.os w'.os
 tape:w'.tape=w.tape
 output:w'.output=w.output
 size:w.heap.size<=w'.heap.size
 cells:∀b c t fr,w.heap[b]?=some (.cells c t fr)->∃c' fr',w'.heap[b]?=some (.cells c' t fr')/\c'.size=c.size/\(∀i,¬U.canW (.cell ⟨b,i,none⟩)->c'[i]?=c[i]?)/\(fr'=fr\/(U.canW (.obj b)/\∀i,i<c.size->U.canW (.cell ⟨b,i,none⟩)))
 objs:∀b o,w.heap[b]?=some o->(∀c t fr,o≠.cells c t fr)->¬U.canW (.obj b)->w'.heap[b]?=some o
 cw:∀l,U'.canW l->U.canW l\/Loc.new w l
 cr:∀l,U'.canR l->U.canR l\/Loc.new w l
def ZY.refl(U:Qa T)(w:World):ZY U w w U:=
 ⟨.refl _,rfl,rfl,Nat.le_refl _,λ _ c _ fr h=>⟨c,fr,h,rfl,λ _ _=>rfl,.inl rfl⟩,λ _ _ h _ _=>h,λ _ h=>.inl h,λ _ h=>.inl h⟩
def Loc.new_mono{w w':World}(h:w.heap.size<=w'.heap.size){l:Loc}(e:Loc.new w' l):Loc.new w l:=by
 cases l <;> simp_all[Loc.new] <;> omega
def S6{w:World}{b:Nat}{o:Obj}(h:w.heap[b]?=some o)(i:Nat):¬Loc.new w (.cell ⟨b,i,none⟩):=by
 have:=(Array.getElem?_eq_some_iff.1 h).1;simp[Loc.new];omega
def S7{w:World}{b:Nat}{o:Obj}(h:w.heap[b]?=some o):¬Loc.new w (.obj b):=by
 have:=(Array.getElem?_eq_some_iff.1 h).1;simp[Loc.new];omega
def ZY.trans{U Y Z:Qa T}{w L M:World}(h:ZY U w L Y)(k:ZY Y L M Z):ZY U w M Z:=by
 refine⟨h.os.trans k.os,k.tape.trans h.tape,k.output.trans h.output,Nat.le_trans h.size k.size,?_,?_,?_,?_⟩
 .intro b c t fr hb;obtain⟨P,S,E,B,F,H⟩:=h.cells b c t fr hb;obtain⟨Q,V,W,K,G,I⟩:=k.cells b P t S E;refine⟨Q,V,W,K.trans B,λ i N=>?_,?_⟩
  .rw[G i λ e=>?_,F i N];rcases h.cw _ e with e|e
   .exact N e
   .exact S6 hb i e
  .rcases I with rfl|⟨ho,N⟩
   .exact H
   .refine .inr ⟨?_,λ i X=>?_⟩
    .rcases h.cw _ ho with e|e
     .exact e
     .exact absurd e (S7 hb)
    .rcases h.cw _ (N i (by rw[B];exact X))with e|e
     .exact e
     .exact absurd e (S6 hb i)
 .intro b o hb hne e;have E:=h.objs b o hb hne e;refine k.objs b o E hne λ z=>?_;rcases h.cw _ z with z|z
  .exact e z
  .exact S7 hb z
 .intro l f;rcases k.cw l f with f|f
  .exact h.cw l f
  .exact .inr (Loc.new_mono h.size f)
 .intro l f;rcases k.cr l f with f|f
  .exact h.cr l f
  .exact .inr (Loc.new_mono h.size f)
def J_.of{U F:Qa T}{w E:World}(h:ZY U w E F){e:Event}(z:J_ F E e):J_ U w e:=by
 obtain⟨loc,wr,G⟩:=e;cases loc with
 |cell a=>
  simp only[J_]at z ⊢;refine⟨z.1,?_⟩;have f:=z.2;split at f <;> rename_i B <;> simp only[B,if_true,if_false,Bool.false_eq_true]
  .rcases f with f|f
   .exact h.cw _ f
   .exact .inr (Loc.new_mono h.size f)
  .rcases f with f|f
   .exact h.cr _ f
   .exact .inr (Loc.new_mono h.size f)
 |obj b=>
  simp only[J_]at z ⊢;refine⟨z.1,?_⟩;have f:=z.2;split at f <;> rename_i B <;> simp only[B,if_true,if_false,Bool.false_eq_true]
  .rcases f with f|f
   .exact h.cw _ f
   .exact .inr (Loc.new_mono h.size f)
  .rcases f with f|f
   .exact h.cr _ f
   .exact .inr (Loc.new_mono h.size f)
 |output=>exact z
 |goroutines=>exact z
 |mark m=>exact z
def Qa.sees(U:Qa T)(a:Addr)(v:Value):Prop:=
 a.spot=none/\((∃c t fr,(U.I a.block=some (.cells c t fr)\/Q2.obj a.block (.cells c t fr)∈U.M)/\c[a.off]?=some v)\/(∃t n,Q2.cell a.block a.off v t n∈U.M))
def Qa.has(U:Qa T)(b:Nat)(o:Obj):Prop:=U.I b=some o\/Q2.obj b o∈U.M
inductive XP(a:Addr)(v:Value):List Q2->List Q2->Prop
 |obj {c t M}:a.spot=none->a.off<c.size->XP a v (.obj a.block (.cells c t (0,0))::M) (.obj a.block (.cells (c.setIfInBounds a.off v) t (0,0))::M)
 |cell {u t n M}:a.spot=none->XP a v (.cell a.block a.off u t n::M) (.cell a.block a.off v t n::M)
 |there {r M M'}:XP a v M M'->XP a v (r::M) (r::M')
inductive J5(b:Nat)(o':Obj):Obj->List Q2->List Q2->Prop
 |here {o M}:J5 b o' o (.obj b o::M) (.obj b o'::M)
 |there {o r M M'}:J5 b o' o M M'->J5 b o' o (r::M) (r::M')
def Obj.shapeOf:Obj->Option (TypeId×Nat)
 |.cells c t _=>some (t,c.size)
 |_=>none
def Obj.isCells:Obj->Bool
 |.cells ..=>true
 |_=>false
def Qa.put(U:Qa T)(b:Nat)(o:Obj):Qa T:={ U with M:=.obj b o::U.M }
def Qa.free(U:Qa T)(b:Nat):Prop:=U.I b=none/\∀r∈U.M,r.blk≠b
def Qw(P:Program){α:Type}:Sem α->(α->Qa T->Prop)->Qa T->Prop
 |.pure a,Q,U=>Q a U
 |.load m a k,Q,U=>m=.plain/\∃v,U.sees a v/\Qw P (k v) Q U
 |.store m a v k,Q,U=>m=.plain/\v.single=true/\∃M',XP a v U.M M'/\Qw P k Q { U with M:=M' }
 |.new o k,Q,U=>∀b,U.free b->Qw P (k b) Q (U.put b o)
 |.shape r k,Q,U=>∃o,U.has r o/\Qw P (k (Obj.shapeOf o)) Q U
 |.freeze a n k,Q,U=>n≠0/\∃c t M',U.M=.obj a.block (.cells c t (0,0))::M'/\Qw P k Q { U with M:=.obj a.block (.cells c t (a.off,a.off+n))::M' }
 |.frozen a k,Q,U=>∃c t,U.has a.block (.cells c t (0,0))/\Qw P (k false) Q U
 |.getObj r k,Q,U=>∃o,U.has r o/\Obj.isCells o=false/\o.isChan=false/\Qw P (k o) Q U
 |.setObj r o k,Q,U=>∃e M',J5 r o e U.M M'/\Obj.isCells e=false/\Obj.isCells o=false/\o.isChan=false/\Qw P k Q { U with M:=M' }
 |.choose q k,Q,U=>if q.forced then Qw P (k 0) Q U else ∀t,Qw P (k (q.cut t)) Q U
 |.sys _ _,_,_=>False
 |.program k,Q,U=>Qw P (k P) Q U
 |.mark m k,Q,U=>Mark.still m=true/\Qw P k Q U
 |.halt _,_,_=>False
def Qa.sees_cell{U:Qa T}{w:World}(h:U.ok w){a:Addr}{v:Value}(E:U.sees a v):w.cell? a=some v/\U.canR (.cell a):=by
 obtain⟨f,⟨c,t,fr,e,z⟩|⟨t,n,B⟩⟩:=E
 .have hlt:a.off<c.size:=(Array.getElem?_eq_some_iff.1 z).1;rcases e with e|e
  .exact⟨by simp[World.cell?,h.imm _ _ e,f,z],.inr ⟨c,t,fr,e,hlt⟩⟩
  .have:=h.held _ e;simp only[Q2.ok]at this;exact⟨by simp[World.cell?,this,f,z],.inl (.inl ⟨c,t,fr,e,hlt⟩)⟩
 .obtain⟨c,e,_,z⟩:=h.held _ B;exact⟨by simp[World.cell?,e,f,z],.inl (.inr ⟨v,t,n,B⟩)⟩
def Qa.has_heap{U:Qa T}{w:World}(h:U.ok w){b:Nat}{o:Obj}(e:U.has b o):w.heap[b]?=some o:=by
 rcases e with e|e
 .exact h.imm _ _ e
 .exact h.held _ e
def AA(w:World)(a:Addr)(v:Value)(c:Array Value)(t:TypeId)(fr:Nat×Nat)(e:a.spot=none)(h:w.heap[a.block]?=some (.cells c t fr)) :
  (w.setCell a v).heap[a.block]?=some (.cells (c.setIfInBounds a.off v) t fr):=by
 simp[World.setCell,Array.getElem?_modify,h,e]
def W2(w:World)(a:Addr)(v:Value){b:Nat}(h:b≠a.block):(w.setCell a v).heap[b]?=w.heap[b]?:=by
 simp only[World.setCell,Array.getElem?_modify];rw[if_neg (λ e=>h e.symm)]
def AB(w:World)(a:Addr)(v:Value):(w.setCell a v).heap.size=w.heap.size:=by simp[World.setCell]
inductive WL(a:Addr)(v:Value):Q2->Q2->Prop
 |obj {b c t}:b=a.block->a.spot=none->a.off<c.size->WL a v (.obj b (.cells c t (0,0))) (.obj b (.cells (c.setIfInBounds a.off v) t (0,0)))
 |cell {b i u t n}:b=a.block->i=a.off->a.spot=none->WL a v (.cell b i u t n) (.cell b i v t n)
def XP.split{a:Addr}{v:Value}{M M':List Q2}(h:XP a v M M'):∃M₁ r f M₂,M=M₁++r::M₂/\M'=M₁++f::M₂/\WL a v r f:=by
 induction h with
 |obj e w=>exact⟨[],_,_,_,rfl,rfl,.obj rfl e w⟩
 |cell e=>exact⟨[],_,_,_,rfl,rfl,.cell rfl rfl e⟩
 |there _ B=>obtain⟨M₁,r,f,M₂,rfl,rfl,z⟩:=B;exact⟨_::M₁,r,f,M₂,rfl,rfl,z⟩
def J5.split{b:Nat}{e o:Obj}{M M':List Q2}(h:J5 b e o M M'):∃M₁ M₂,M=M₁++.obj b o::M₂/\M'=M₁++.obj b e::M₂:=by
 induction h with
 |here=>exact⟨[],_,rfl,rfl⟩
 |there _ f=>obtain⟨M₁,M₂,rfl,rfl⟩:=f;exact⟨_::M₁,M₂,rfl,rfl⟩
def WL.blk{a:Addr}{v:Value}{r s:Q2}(h:WL a v r s):s.blk=r.blk:=by cases h <;> rfl
def WL.blk'{a:Addr}{v:Value}{r s:Q2}(h:WL a v r s):r.blk=a.block:=by cases h <;> simp_all[Q2.blk]
def WL.apart{a:Addr}{v:Value}{r s:Q2}(h:WL a v r s)(x:Q2):s.apart x↔r.apart x:=by
 cases h <;> cases x <;> simp[Q2.apart,Q2.blk]
def Q2.apart_symm{r s:Q2}(h:r.apart s):s.apart r:=by
 cases r <;> cases s <;> simp_all[Q2.apart,Q2.blk,eq_comm]
def WL.apart'{a:Addr}{v:Value}{r s:Q2}(h:WL a v r s)(x:Q2):x.apart s↔x.apart r:=
 ⟨λ k=>Q2.apart_symm ((h.apart x).1 (Q2.apart_symm k)),λ k=>Q2.apart_symm ((h.apart x).2 (Q2.apart_symm k))⟩
def Q2.lets:Q2->Loc->Prop
 |.obj b (.cells c _ _),.cell a=>a.block=b/\a.off<c.size
 |.cell b i _ _ _,.cell a=>a.block=b/\a.off=i
 |.obj b _,.obj e=>e=b
 |_,_=>False
def Za{U:Qa T}{l:Loc}:U.canW l↔∃r∈U.M,r.lets l:=by
 cases l with
 |cell a=>
  simp only[Qa.canW];constructor
  .rintro(⟨c,t,fr,hm,e⟩|⟨v,t,n,hm⟩)
   .exact⟨_,hm,rfl,e⟩
   .exact⟨_,hm,rfl,rfl⟩
  .rintro⟨r,hr,hl⟩;cases r with
   |obj b o=>
    cases o <;> simp only[Q2.lets]at hl;obtain⟨rfl,e⟩:=hl;exact .inl ⟨_,_,_,hr,e⟩
   |cell b i v t n=>
    simp only[Q2.lets]at hl;obtain⟨rfl,rfl⟩:=hl;exact .inr ⟨_,_,_,hr⟩
 |obj b=>
  simp only[Qa.canW];constructor
  .rintro⟨o,h⟩;exact⟨_,h,by cases o <;> rfl⟩
  .rintro⟨r,hr,hl⟩;cases r with
   |obj f o=>refine⟨o,?_⟩;cases o <;> (simp only[Q2.lets]at hl;exact hl▸hr)
   |cell f i v t n=>exact hl.elim
 |output=>simp[Qa.canW];intro r _ h;cases r with|obj b o=>cases o <;> exact h|cell=>exact h
 |goroutines=>simp[Qa.canW];intro r _ h;cases r with|obj b o=>cases o <;> exact h|cell=>exact h
 |mark _=>simp[Qa.canW];intro r _ h;cases r with|obj b o=>cases o <;> exact h|cell=>exact h
def WL.lets{a:Addr}{v:Value}{r s:Q2}(h:WL a v r s)(l:Loc):s.lets l↔r.lets l:=by
 cases h <;> cases l <;> simp[Q2.lets]
def WL.canAt{a:Addr}{v:Value}{r s:Q2}(h:WL a v r s):r.lets (.cell a):=by
 cases h <;> simp_all[Q2.lets]
def Q3{U:Qa T}{l:Loc}:U.canR l↔(∃r∈U.M,r.lets l)\/(match l with|.cell a=>∃c t fr,U.I a.block=some (.cells c t fr)/\a.off<c.size|.obj b=>∃o,U.I b=some o|_=>False):=by
 have:=Za (U:=U) (l:=l);cases l <;> simp only[Qa.canR,<- this] <;> simp[Qa.canW]
def CO{U:Qa T}{w:World}(h:U.ok w){a:Addr}{v:Value}{M':List Q2}(hu:XP a v U.M M') :
  (∃u,w.cell? a=some u)/\w.frozen? a=false/\U.canW (.cell a)/\Qa.ok { U with M:=M' } (w.setCell a v)/\ZY U w (w.setCell a v) { U with M:=M' }:=by
 obtain⟨M₁,r,r',M₂,Q,rfl,F⟩:=hu.split;have W:r∈U.M:=by rw[Q];simp
 have aa:U.canW (.cell a):=Za.2 ⟨r,W,F.canAt⟩;have L:=h.held r W;have X:a.spot=none:=by cases F <;> assumption
 obtain⟨c,t,H,P⟩:∃c t,w.heap[a.block]?=some (.cells c t (0,0))/\a.off<c.size:=by
  cases F with
  |obj e _ P=>subst e;exact⟨_,_,L,P⟩
  |cell e e' _=>subst e;subst e';obtain⟨c,H,_,hc⟩:=L;exact⟨c,_,H,(Array.getElem?_eq_some_iff.1 hc).1⟩
 have G:=AA w a v c t (0,0) X H
 have K:∀l,(∃s∈M₁++r'::M₂,s.lets l)↔∃s∈U.M,s.lets l:=by
  intro l;rw[Q];simp only[mem_append,mem_cons];constructor
  .rintro⟨s,z|rfl|z,hl'⟩
   .exact⟨s,.inl z,hl'⟩
   .exact⟨r,.inr (.inl rfl),(F.lets l).1 hl'⟩
   .exact⟨s,.inr (.inr z),hl'⟩
  .rintro⟨s,z|rfl|z,hl'⟩
   .exact⟨s,.inl z,hl'⟩
   .exact⟨r',.inr (.inl rfl),(F.lets l).2 hl'⟩
   .exact⟨s,.inr (.inr z),hl'⟩
 have f:=h.apart;rw[Q]at f;refine⟨⟨c[a.off],by simp[World.cell?,H,X,P]⟩,by simp[World.frozen?,H],aa,⟨?_,?_,?_,?_⟩,?_⟩
 .intro b o hI
  have B:b≠a.block:=by
   intro e;have:=h.sep r W;rw[F.blk',<- e,hI]at this;cases this
  rw[W2 _ _ _ B];exact h.imm b o hI
 .intro s z;simp only[mem_append,mem_cons]at z
  have N:∀s,s∈U.M->r.apart s->s.ok (w.setCell a v):=by
   intro s z f;have V:=h.held s z;cases s with
   |obj b o=>
    have B:b≠a.block:=by
     cases F <;> simp_all[Q2.apart,Q2.blk] <;> exact λ e=>f e.symm
    simp only[Q2.ok]at V ⊢;rw[W2 _ _ _ B];exact V
   |cell b i u t' n=>
    obtain⟨Y,E,Z,S⟩:=V;by_cases B:b=a.block
    .subst B;cases F with
     |obj e _ _=>exact absurd e.symm (by simpa[Q2.apart,Q2.blk]using λ e=>f e.symm)
     |cell e e' _=>
      have hi:i≠a.off:=by
       simp[Q2.apart]at f;rcases f with f|f
       .exact absurd e f
       .exact λ x=>f (e'.trans x.symm)
      rw[H]at E;cases E;refine⟨c.setIfInBounds a.off v,G,by simpa using Z,?_⟩;rw[Array.getElem?_setIfInBounds_ne (λ x=>hi x.symm)];exact S
    .exact⟨Y,by rw[W2 _ _ _ B];exact E,Z,S⟩
  rw[pairwise_append,pairwise_cons]at f;rcases z with z|rfl|z
  .exact N s (by rw[Q];simp[z]) (Q2.apart_symm (f.2.2 s z r S1))
  .cases F with
   |obj e _ _=>subst e;simp only[Q2.ok]at L ⊢;rw[L]at H;cases H;exact G
   |cell e e' _=>
    subst e;subst e';obtain⟨Y,E,Z,S⟩:=L;rw[H]at E;cases E;exact⟨_,G,by simpa using Z,by rw[Array.getElem?_setIfInBounds_self_of_lt P]⟩
  .exact N s (by rw[Q];simp[z]) (f.2.1.1 s z)
 .show Pairwise Q2.apart (M₁++r'::M₂);rw[pairwise_append,pairwise_cons]at f ⊢;refine⟨f.1,⟨λ s z=>(F.apart s).2 (f.2.1.1 s z),f.2.1.2⟩,λ s z x hx=>?_⟩;rcases mem_cons.1 hx with rfl|hx
  .exact(F.apart' s).2 (f.2.2 s z r S1)
  .exact f.2.2 s z x (by simp[hx])
 .intro s z;show U.I s.blk=none;simp only[mem_append,mem_cons]at z;rcases z with z|rfl|z
  .exact h.sep s (by rw[Q];simp[z])
  .rw[F.blk];exact h.sep r W
  .exact h.sep s (by rw[Q];simp[z])
 .refine⟨.refl _,rfl,rfl,by rw[AB];exact Nat.le_refl _,?_,?_,?_,?_⟩
  .intro b Y t' fr E;by_cases B:b=a.block
   .subst B;rw[H]at E;cases E;refine⟨_,_,G,S1,λ i hi=>?_,.inl rfl⟩;rw[Array.getElem?_setIfInBounds_ne];rintro rfl;refine hi (Za.2 ⟨r,W,?_⟩);have:=F.canAt;cases F <;> simp_all[Q2.lets]
   .exact⟨Y,fr,by rw[W2 _ _ _ B];exact E,rfl,λ _ _=>rfl,.inl rfl⟩
  .intro b o ho B _;by_cases e:b=a.block
   .subst e;rw[H]at ho;cases ho;exact absurd rfl (B _ _ _)
   .rw[W2 _ _ _ e];exact ho
  .intro l hl';rw[Za]at hl' ⊢;exact .inl ((K l).1 hl')
  .intro l hl';rw[Q3]at hl' ⊢;exact .inl (hl'.imp (K l).1 id)
def World.plus(w:World)(o:Obj):World:={ w with heap:=w.heap.push o }
def qF{U:Qa T}{w:World}(h:U.ok w)(o:Obj) :
  U.free w.heap.size/\Qa.ok (U.put w.heap.size o) (World.plus w o)/\ZY U w (World.plus w o) (U.put w.heap.size o):=by
 have z:∀b,b<w.heap.size->(World.plus w o).heap[b]?=w.heap[b]?:=λ b F=>by
  simp only[World.plus,Array.getElem?_push];rw[if_neg O1]
 have G:∀r∈U.M,r.blk<w.heap.size:=by
  intro r f;have:=h.held r f;cases r with
  |obj b o=>exact(Array.getElem?_eq_some_iff.1 this).1
  |cell b i v t n=>obtain⟨c,F,_⟩:=this;exact(Array.getElem?_eq_some_iff.1 F).1
 have B:U.free w.heap.size:=by
  refine⟨?_,λ r f e=>by have:=G r f;omega⟩;cases e:U.I w.heap.size with
  |none=>rfl
  |some x=>have:=(Array.getElem?_eq_some_iff.1 (h.imm _ _ e)).1;omega
 have K:∀b H,U.I b=some H->b<w.heap.size:=λ b H e=>(Array.getElem?_eq_some_iff.1 (h.imm _ _ e)).1;refine⟨B,⟨λ b H e=>by rw[z _ (K b H e)];exact h.imm b H e,?_,?_,?_⟩,?_⟩
 .intro r f;rcases mem_cons.1 f with rfl|f
  .simp[Q2.ok,World.plus]
  .have:=h.held r f;cases r with
   |obj b H=>exact(z b (G _ f)).trans this
   |cell b i v t n=>obtain⟨c,F,x⟩:=this;exact⟨c,(z b (G _ f)).trans F,x⟩
 .refine pairwise_cons.2 ⟨λ r f=>?_,h.apart⟩;have:=G r f;cases r <;> simp_all[Q2.apart,Q2.blk] <;> omega
 .intro r f;rcases mem_cons.1 f with rfl|f
  .exact B.1
  .exact h.sep r f
 .refine⟨.refl _,rfl,rfl,by simp[World.plus],?_,?_,?_,?_⟩
  .intro b c t fr F;exact⟨c,fr,by rw[z _ (Array.getElem?_eq_some_iff.1 F).1];exact F,rfl,λ _ _=>rfl,.inl rfl⟩
  .intro b H F _ _;rw[z _ (Array.getElem?_eq_some_iff.1 F).1];exact F
  .intro l E;rw[Za]at E ⊢;obtain⟨r,f,E⟩:=E;rcases mem_cons.1 f with rfl|f
   .refine .inr ?_;cases l <;> cases o <;> simp_all[Q2.lets,Loc.new]
   .exact .inl ⟨r,f,E⟩
  .intro l E;rw[Q3]at E ⊢;rcases E with⟨r,f,E⟩|E
   .rcases mem_cons.1 f with rfl|f
    .refine .inr ?_;cases l <;> cases o <;> simp_all[Q2.lets,Loc.new]
    .exact .inl (.inl ⟨r,f,E⟩)
   .exact .inl (.inr E)
def Ik{U:Qa T}{w:World}(h:U.ok w){b:Nat}{E o:Obj}{M':List Q2}(hu:J5 b E o U.M M')(h1:Obj.isCells o=false)(h2:Obj.isCells E=false) :
  w.heap[b]?=some o/\U.canW (.obj b)/\Qa.ok { U with M:=M' } { w with heap:=w.heap.setIfInBounds b E }/\ZY U w { w with heap:=w.heap.setIfInBounds b E } { U with M:=M' }:=by
 obtain⟨M₁,M₂,N,rfl⟩:=hu.split;have W:Q2.obj b o∈U.M:=by rw[N];simp
 have Y:w.heap[b]?=some o:=h.held _ W;have aa:=(Array.getElem?_eq_some_iff.1 Y).1;have Q:U.canW (.obj b):=⟨o,W⟩;have f:=h.apart;rw[N]at f
 have B:∀x,x≠b->(w.heap.setIfInBounds b E)[x]?=w.heap[x]?:=λ x V=>by
  rw[Array.getElem?_setIfInBounds_ne (λ e=>V e.symm)]
 have H:∀l,(Q2.obj b E).lets l↔(Q2.obj b o).lets l:=by
  intro l;cases o <;> cases E <;> simp_all[Obj.isCells] <;> cases l <;> simp[Q2.lets]
 have L:∀l,(∃s∈M₁++Q2.obj b E::M₂,s.lets l)↔∃s∈U.M,s.lets l:=by
  intro l;rw[N];simp only[mem_append,mem_cons];constructor
  .rintro⟨s,z|rfl|z,hl'⟩
   .exact⟨s,.inl z,hl'⟩
   .exact⟨_,.inr (.inl rfl),(H l).1 hl'⟩
   .exact⟨s,.inr (.inr z),hl'⟩
  .rintro⟨s,z|rfl|z,hl'⟩
   .exact⟨s,.inl z,hl'⟩
   .exact⟨_,.inr (.inl rfl),(H l).2 hl'⟩
   .exact⟨s,.inr (.inr z),hl'⟩
 have P:∀x,(Q2.obj b E).apart x↔(Q2.obj b o).apart x:=λ x=>by cases x <;> simp[Q2.apart,Q2.blk]
 refine⟨Y,Q,⟨?_,?_,?_,?_⟩,?_⟩
 .intro x ox hI;have F:x≠b:=by rintro rfl;have:=h.sep _ W;simp only[Q2.blk]at this;rw[hI]at this;cases this
  show(w.heap.setIfInBounds b E)[x]?=_;rw[B x F];exact h.imm x ox hI
 .intro s z
  have K:∀s,s∈U.M->(Q2.obj b o).apart s->s.ok { w with heap:=w.heap.setIfInBounds b E }:=by
   intro s z f;have S:=h.held s z;cases s with
   |obj x ox=>
    have F:x≠b:=by simp[Q2.apart,Q2.blk]at f;exact λ e=>f e.symm
    show(w.heap.setIfInBounds b E)[x]?=_;rw[B x F];exact S
   |cell x i u t n=>
    have F:x≠b:=by simp[Q2.apart,Q2.blk]at f;exact λ e=>f e.symm
    obtain⟨X,G,hn,Z⟩:=S;exact⟨X,(B x F).trans G,hn,Z⟩
  simp only[mem_append,mem_cons]at z;rw[pairwise_append,pairwise_cons]at f;rcases z with z|rfl|z
  .exact K s (by rw[N];simp[z]) (Q2.apart_symm (f.2.2 s z _ S1))
  .show(w.heap.setIfInBounds b E)[b]?=_;rw[Array.getElem?_setIfInBounds_self_of_lt aa]
  .exact K s (by rw[N];simp[z]) (f.2.1.1 s z)
 .show Pairwise Q2.apart (M₁++Q2.obj b E::M₂);rw[pairwise_append,pairwise_cons]at f ⊢;refine⟨f.1,⟨λ s z=>(P s).2 (f.2.1.1 s z),f.2.1.2⟩,λ s z x V=>?_⟩;rcases mem_cons.1 V with rfl|V
  .exact Q2.apart_symm ((P s).2 (Q2.apart_symm (f.2.2 s z _ S1)))
  .exact f.2.2 s z x (by simp[V])
 .intro s z;show U.I s.blk=none;simp only[mem_append,mem_cons]at z;rcases z with z|rfl|z
  .exact h.sep s (by rw[N];simp[z])
  .exact(h.sep _ W:U.I b=none)
  .exact h.sep s (by rw[N];simp[z])
 .refine⟨.refl _,rfl,rfl,S1,?_,?_,?_,?_⟩
  .intro x X t' fr G;by_cases e:x=b
   .subst e;rw[Y]at G;cases G;simp[Obj.isCells]at h1
   .exact⟨X,fr,(B x e).trans G,rfl,λ _ _=>rfl,.inl rfl⟩
  .intro x ox ho F hw;by_cases e:x=b
   .subst e;exact absurd Q hw
   .exact(B x e).trans ho
  .intro l hl';rw[Za]at hl' ⊢;exact .inl ((L l).1 hl')
  .intro l hl';rw[Q3]at hl' ⊢;exact .inl (hl'.imp (L l).1 id)
def SC(w:World)(a:Addr)(n:Nat)(e:n≠0)(c:Array Value)(t:TypeId)(h:w.heap[a.block]?=some (.cells c t (0,0))):(w.freeze a n).heap[a.block]?=some (.cells c t (a.off,a.off+n)):=by
 simp[World.freeze,e,Array.getElem?_modify,h]
def GZ(w:World)(a:Addr)(n:Nat){b:Nat}(h:b≠a.block):(w.freeze a n).heap[b]?=w.heap[b]?:=by
 unfold World.freeze;split
 .rfl
 .simp only[Array.getElem?_modify];rw[if_neg (λ e=>h e.symm)]
def BD(w:World)(a:Addr)(n:Nat):(w.freeze a n).heap.size=w.heap.size:=by unfold World.freeze;split <;> simp
def Y6(w:World)(a:Addr)(n:Nat):(w.freeze a n).os=w.os/\(w.freeze a n).tape=w.tape/\(w.freeze a n).output=w.output:=by unfold World.freeze;split <;> exact⟨rfl,rfl,rfl⟩
def Ij{U:Qa T}{w:World}(h:U.ok w){a:Addr}{n:Nat}(Q:n≠0){c:Array Value}{t:TypeId}{M':List Q2}(G:U.M=.obj a.block (.cells c t (0,0))::M') :
  Qa.ok { U with M:=.obj a.block (.cells c t (a.off,a.off+n))::M' } (w.freeze a n)/\ZY U w (w.freeze a n) { U with M:=.obj a.block (.cells c t (a.off,a.off+n))::M' }:=by
 have H:Q2.obj a.block (.cells c t (0,0))∈U.M:=by rw[G];simp
 have L:w.heap[a.block]?=some (.cells c t (0,0)):=h.held _ H;have E:=h.apart;rw[G,pairwise_cons]at E;have z:∀l,(Q2.obj a.block (.cells c t (a.off,a.off+n))).lets l↔(Q2.obj a.block (.cells c t (0,0))).lets l:=λ l=>by cases l <;> rfl
 have B:∀l,(∃s∈Q2.obj a.block (.cells c t (a.off,a.off+n))::M',s.lets l)↔∃s∈U.M,s.lets l:=by
  intro l;rw[G];constructor
  .rintro⟨s,f,hl⟩;rcases mem_cons.1 f with rfl|f
   .exact⟨_,mem_cons_self ..,(z l).1 hl⟩
   .exact⟨s,mem_cons_of_mem _ f,hl⟩
  .rintro⟨s,f,hl⟩;rcases mem_cons.1 f with rfl|f
   .exact⟨_,mem_cons_self ..,(z l).2 hl⟩
   .exact⟨s,mem_cons_of_mem _ f,hl⟩
 have ne:∀r∈M',r.blk≠a.block:=λ r F e=>by
  have:=E.1 r F;cases r <;> simp_all[Q2.apart,Q2.blk]
 refine⟨⟨λ b o P=>?_,λ s f=>?_,?_,λ s f=>?_⟩,?_⟩
 .have:b≠a.block:=by rintro rfl;have:=h.sep _ H;simp only[Q2.blk]at this;rw[P]at this;cases this
  rw[GZ _ _ _ this];exact h.imm b o P
 .rcases mem_cons.1 f with rfl|f
  .exact SC w a n Q c t L
  .have hne:=ne s f;have K:=h.held s (by rw[G];simp[f]);cases s with
   |obj b o=>exact(GZ w a n hne).trans K
   |cell b i v t X=>obtain⟨N,S,V⟩:=K;exact⟨N,(GZ w a n hne).trans S,V⟩
 .show Pairwise Q2.apart (_::M');rw[pairwise_cons];refine⟨λ r F=>?_,E.2⟩;have:=ne r F;cases r <;> simp_all[Q2.apart,Q2.blk] <;> exact λ e=>this e.symm
 .rcases mem_cons.1 f with rfl|f
  .exact(h.sep _ H:U.I a.block=none)
  .exact h.sep s (by rw[G];simp[f])
 .refine⟨by rw[(Y6 w a n).1];exact .refl _,(Y6 w a n).2.1,(Y6 w a n).2.2,by rw[BD];exact Nat.le_refl _,?_,?_,?_,?_⟩
  .intro b N t' fr hb';by_cases e:b=a.block
   .subst e;rw[L]at hb';cases hb';exact⟨c,_,SC w a n Q c t L,rfl,λ _ _=>rfl,.inr ⟨Za.2 ⟨_,H,rfl⟩,λ i W=>Za.2 ⟨_,H,rfl,W⟩⟩⟩
   .exact⟨N,fr,by rw[GZ _ _ _ e];exact hb',rfl,λ _ _=>rfl,.inl rfl⟩
  .intro b o ho hne _;by_cases e:b=a.block
   .subst e;rw[L]at ho;cases ho;exact absurd rfl (hne _ _ _)
   .rw[GZ _ _ _ e];exact ho
  .intro l hl;rw[Za]at hl ⊢;exact .inl ((B l).1 hl)
  .intro l hl;rw[Q3]at hl ⊢;exact .inl (hl.imp (B l).1 id)
def Ey{U:Qa T}{w:World}(h:U.ok w)(d:Nat):U.ok { w with drawn:=d }:=⟨h.imm,h.held,h.apart,h.sep⟩
def KY(U:Qa T)(w:World)(d:Nat):ZY U w { w with drawn:=d } U:=
 ⟨.refl _,rfl,rfl,Nat.le_refl _,λ _ c _ fr h=>⟨c,fr,h,rfl,λ _ _=>rfl,.inl rfl⟩,λ _ _ h _ _=>h,λ _ h=>.inl h,λ _ h=>.inl h⟩
def X_(w:World)(e:Event):Prop:=
 match e.loc with
 |.cell a=>a.block<w.heap.size
 |.obj b=>b<w.heap.size
 |_=>True
def X_.mono{w w':World}{e:Event}(h:X_ w e)(f:w.heap.size<=w'.heap.size):X_ w' e:=by
 obtain⟨loc,wr,z⟩:=e;cases loc <;> simp only[X_]at h ⊢ <;> omega
def OU{w:World}{a:Addr}{v:Value}(h:w.cell? a=some v):a.block<w.heap.size:=by
 apply Classical.byContradiction;intro e;have:w.heap[a.block]?=none:=Array.getElem?_eq_none (Nat.le_of_not_lt e);simp[World.cell?,this]at h
def Qw.sound{P:Program}{α:Type}(s:Sem α):∀{Q:α->Qa T->Prop}{U:Qa T}{w:World}{es₀:Array Event},Qw P s Q U->U.ok w ->
  ∃a w' es U',s.runT P w es₀=(.ok a w',es₀++es)/\(∀e∈es,J_ U w e/\X_ w' e)/\ZY U w w' U'/\U'.ok w'/\Q a U'/\U'.tok=U.tok:=by
 induction s with
 |pure a=>exact λ{Q U w es₀}h ok=>⟨a,w,#[],U,by simp[Sem.runT],S1,.refl _ _,ok,h,rfl⟩
 |load m a k K=>
  intro Q U w es₀ h ok;obtain⟨rfl,v,hs,h⟩:=h;obtain⟨W,hr⟩:=Qa.sees_cell ok hs;obtain⟨x,w',es,U',f,z,F,B,H⟩:=K v (es₀:=es₀.push ⟨.cell a,false,false⟩) h ok;refine⟨x,w',#[⟨.cell a,false,false⟩]++es,U',?_,?_,F,B,H⟩
  .simp only[Sem.runT,W];rw[show(Mode.plain==Mode.atomic)=false from rfl,f];simp
  .intro e E;rcases Array.mem_append.1 E with E|E
   .simp at E;subst E;exact⟨⟨rfl,.inl hr⟩,Nat.lt_of_lt_of_le (OU W) F.size⟩
   .exact z e E
 |store m a v k K=>
  intro Q U w es₀ h ok;obtain⟨rfl,hv,M',hu,h⟩:=h;obtain⟨⟨u,W⟩,X,S,I,G⟩:=CO ok hu;obtain⟨x,w',es,U',f,z,F,B,H⟩:=K (es₀:=es₀.push ⟨.cell a,true,false⟩) h I;refine⟨x,w',#[⟨.cell a,true,false⟩]++es,U',?_,?_,G.trans F,B,H⟩
  .have:Sem.runT P (.store .plain a v k) w es₀=k.runT P (w.setCell a v) (es₀.push ⟨.cell a,true,false⟩):=by
    cases v <;> first|(simp[Value.single]at hv;done)|(simp only[Sem.runT,W,X];rfl)
   rw[this,f];simp
  .intro e E;rcases Array.mem_append.1 E with E|E
   .simp at E;subst E;exact⟨⟨rfl,.inl S⟩,Nat.lt_of_lt_of_le (OU W) (G.trans F).size⟩
   .exact⟨J_.of G (z e E).1,(z e E).2⟩
 |new o k K=>
  intro Q U w es₀ h ok;obtain⟨X,I,G⟩:=qF ok o;obtain⟨x,w',es,U',f,z,F,B,H⟩:=K w.heap.size (es₀:=es₀) (h _ X) I;exact⟨x,w',es,U',f,λ e E=>⟨J_.of G (z e E).1,(z e E).2⟩,G.trans F,B,H⟩
 |shape r k K=>
  intro Q U w es₀ h ok;obtain⟨o,M,h⟩:=h;have L:=Qa.has_heap ok M
  have Z:w.shape? r=Obj.shapeOf o:=by
   simp only[World.shape?,L];cases o <;> rfl
  obtain⟨x,w',es,U',f,z,F,B,H⟩:=K _ (es₀:=es₀) h ok;exact⟨x,w',es,U',by simp only[Sem.runT];rw[Z];exact f,z,F,B,H⟩
 |freeze a n k K=>
  intro Q U w es₀ h ok;obtain⟨hn,c,t,M',hM,h⟩:=h;obtain⟨I,G⟩:=Ij ok hn hM;obtain⟨x,w',es,U',f,z,F,B,H⟩:=K (es₀:=es₀) h I;exact⟨x,w',es,U',by simpa only[Sem.runT]using f,λ e E=>⟨J_.of G (z e E).1,(z e E).2⟩,G.trans F,B,H⟩
 |frozen a k K=>
  intro Q U w es₀ h ok;obtain⟨c,t,L,h⟩:=h;have L:=Qa.has_heap ok L;obtain⟨x,w',es,U',f,z,F,B,H⟩:=K false (es₀:=es₀) h ok;have Y:w.frozen? a=false:=by simp[World.frozen?,L]
  exact⟨x,w',es,U',by simp only[Sem.runT,Y];exact f,z,F,B,H⟩
 |getObj r k K=>
  intro Q U w es₀ h ok;obtain⟨o,M,W,N,h⟩:=h;have L:=Qa.has_heap ok M;obtain⟨x,w',es,U',f,z,F,B,H⟩:=K o (es₀:=es₀.push ⟨.obj r,false,false⟩) h ok;refine⟨x,w',#[⟨.obj r,false,false⟩]++es,U',?_,?_,F,B,H⟩
  .have:Sem.runT P (.getObj r k) w es₀=(k o).runT P w (es₀.push ⟨.obj r,false,o.isChan⟩):=by
    simp only[Sem.runT,L];cases o <;> simp_all[Obj.isCells]
   rw[this,N,f];simp
  .intro e E;rcases Array.mem_append.1 E with E|E
   .simp at E;subst E;refine⟨⟨rfl,.inl ?_⟩,Nat.lt_of_lt_of_le (Array.getElem?_eq_some_iff.1 L).1 F.size⟩;rcases M with M|M
    .exact .inr ⟨o,M⟩
    .exact .inl ⟨o,M⟩
   .exact z e E
 |setObj r o k K=>
  intro Q U w es₀ h ok;obtain⟨o0,M',hu,h1,h2,N,h⟩:=h;obtain⟨L,S,I,G⟩:=Ik ok hu h1 h2;obtain⟨x,w',es,U',f,z,F,B,H⟩:=K (es₀:=es₀.push ⟨.obj r,true,false⟩) h I;refine⟨x,w',#[⟨.obj r,true,false⟩]++es,U',?_,?_,G.trans F,B,H⟩
  .have:Sem.runT P (.setObj r o k) w es₀=k.runT P { w with heap:=w.heap.setIfInBounds r o } (es₀.push ⟨.obj r,true,o.isChan⟩):=by
    simp only[Sem.runT,L];cases o0 <;> simp_all[Obj.isCells]
   rw[this,N,f];simp
  .intro e E;rcases Array.mem_append.1 E with E|E
   .simp at E;subst E;exact⟨⟨rfl,.inl S⟩,Nat.lt_of_lt_of_le (Array.getElem?_eq_some_iff.1 L).1 (G.trans F).size⟩
   .exact⟨J_.of G (z e E).1,(z e E).2⟩
 |choose q k K=>
  intro Q U w es₀ h ok;simp only[Qw]at h;by_cases H:q.forced=true
  .rw[if_pos H]at h;obtain⟨x,w',es,U',f,z,F,B,V⟩:=K 0 (es₀:=es₀) h ok;exact⟨x,w',es,U',by simp only[Sem.runT,H,if_true];exact f,z,F,B,V⟩
  .rw[if_neg H]at h;obtain⟨x,w',es,U',f,z,F,B,V⟩:=K _ (es₀:=es₀) (h (w.tape w.drawn q)) (Ey ok (w.drawn+1));exact⟨x,w',es,U',by simp only[Sem.runT,H];exact f,λ e E=>⟨J_.of (KY U w _) (z e E).1,(z e E).2⟩,(KY U w _).trans F,B,V⟩
 |sys c k K=>exact λ{Q U w es₀}h ok=>h.elim
 |program k K=>
  intro Q U w es₀ h ok;obtain⟨x,w',es,U',f,z,F,B,H⟩:=K P (es₀:=es₀) h ok;exact⟨x,w',es,U',by simpa only[Sem.runT]using f,z,F,B,H⟩
 |mark m k K=>
  intro Q U w es₀ h ok;obtain⟨hm,h⟩:=h;obtain⟨x,w',es,U',f,z,F,B,H⟩:=K (es₀:=es₀.push ⟨.mark m,false,true⟩) h ok;refine⟨x,w',#[⟨.mark m,false,true⟩]++es,U',?_,?_,F,B,H⟩
  .simp only[Sem.runT];rw[f];simp
  .intro e E;rcases Array.mem_append.1 E with E|E
   .simp at E;subst E;exact⟨hm,trivial⟩
   .exact z e E
 |halt h=>exact λ{Q U w es₀}h ok=>h.elim
def Qw.mono{P:Program}{α:Type}(s:Sem α):∀{Q w:α->Qa T->Prop}{U:Qa T},Qw P s Q U->(∀a U,Q a U->w a U)->Qw P s w U:=by
 induction s with
 |pure a=>exact λ h q=>q _ _ h
 |load m a k f=>exact λ⟨e,v,H,h⟩q=>⟨e,v,H,f v h q⟩
 |store m a v k f=>exact λ⟨e,e',M',I,h⟩q=>⟨e,e',M',I,f h q⟩
 |new o k f=>exact λ h q b z=>f b (h b z) q
 |shape r k f=>exact λ⟨o,G,h⟩q=>⟨o,G,f _ h q⟩
 |freeze a n k f=>exact λ⟨x,c,t,M',E,h⟩q=>⟨x,c,t,M',E,f h q⟩
 |frozen a k f=>exact λ⟨c,t,z,h⟩q=>⟨c,t,z,f _ h q⟩
 |getObj r k f=>exact λ⟨o,a,b,c,h⟩q=>⟨o,a,b,c,f _ h q⟩
 |setObj r o k f=>exact λ⟨K,M',a,b,c,d,h⟩q=>⟨K,M',a,b,c,d,f h q⟩
 |choose q k f=>
  intro Q w U h B;simp only[Qw]at h ⊢;split <;> rename_i F <;> simp only[F,if_true,if_false,Bool.false_eq_true]at h
  .exact f 0 h B
  .exact λ t=>f _ (h t) B
 |sys c k f=>exact λ h _=>h
 |program k f=>exact λ h q=>f _ h q
 |mark m k f=>exact λ⟨a,h⟩q=>⟨a,f h q⟩
 |halt h=>exact λ h _=>h
def Ya{P:Program}{α β:Type}(s:Sem α)(f:α->Sem β):∀{Q:β->Qa T->Prop}{U:Qa T},Qw P (s.bind f) Q U↔Qw P s (λ a U=>Qw P (f a) Q U) U:=by
 induction s with
 |pure a=>exact λ{_ _}=>Iff.rfl
 |load m a k e=>intro Q U;simp only[Sem.bind,Qw,e]
 |store m a v k e=>intro Q U;simp only[Sem.bind,Qw,e]
 |new o k e=>intro Q U;simp only[Sem.bind,Qw,e]
 |shape r k e=>intro Q U;simp only[Sem.bind,Qw,e]
 |freeze a n k e=>intro Q U;simp only[Sem.bind,Qw,e]
 |frozen a k e=>intro Q U;simp only[Sem.bind,Qw,e]
 |getObj r k e=>intro Q U;simp only[Sem.bind,Qw,e]
 |setObj r o k e=>intro Q U;simp only[Sem.bind,Qw,e]
 |choose q k e=>intro Q U;simp only[Sem.bind,Qw,e]
 |sys c k e=>intro Q U;simp only[Sem.bind,Qw]
 |program k e=>intro Q U;simp only[Sem.bind,Qw,e]
 |mark m k e=>intro Q U;simp only[Sem.bind,Qw,e]
 |halt h=>intro Q U;simp only[Sem.bind,Qw]
end Go.TM
namespace Go.TM
variable{T:Type}{P:Program}
structure Sys(P:Program)(T:Type) where
 syn:(Bool->Gr->Qa T->Prop)->Bool->Gr->Qa T->Prop
 mono:∀{X Y:Bool->Gr->Qa T->Prop},(∀m g U,X m g U->Y m g U)->∀m g U,syn X m g U->syn Y m g U
def Q1(U U':Qa T):Prop:=U'.tok=U.tok/\∀w,U.ok w->U'.ok w/\(∀l,U'.canW l->U.canW l)/\(∀l,U'.canR l->U.canR l)
def Q1.refl(U:Qa T):Q1 U U:=⟨rfl,λ _ h=>⟨h,λ _ h=>h,λ _ h=>h⟩⟩
def Q1.trans{U e f:Qa T}(h:Q1 U e)(k:Q1 e f):Q1 U f:=
 ⟨k.1.trans h.1,λ w ok=>let ⟨a,b,c⟩:=h.2 w ok;let ⟨a',b',c'⟩:=k.2 w a;⟨a',λ l x=>b l (b' l x),λ l x=>c l (c' l x)⟩⟩
abbrev QK(T:Type):=Bool->Gr->Qa T->Prop
def G1(P:Program)(X:QK T)(m:Bool)(g:Gr)(U:Qa T):Prop:=
 g.status=.running/\∀w,U.ok w->∃g' w' es U',stepG P m g w=.go g' w' es/\(∀e∈es,J_ U w e/\X_ w' e)/\ZY U w w' U'/\U'.ok w'/\U'.tok=U.tok/\X m g' U'
def FJ(S:Sys P T)(Stop:QK T)(X:QK T)(m:Bool)(g:Gr)(U:Qa T):Prop:=
 ∃e,Q1 U e/\(Stop m g e\/G1 P X m g e\/S.syn X m g e)
def J(S:Sys P T)(Stop:QK T)(m:Bool)(g:Gr)(U:Qa T):Prop:=
 ∀X:QK T,(∀m g U,FJ S Stop X m g U->X m g U)->X m g U
def G1.mono{X Y:QK T}(h:∀m g U,X m g U->Y m g U){m:Bool}{g:Gr}{U:Qa T}(k:G1 P X m g U):G1 P Y m g U:=
 ⟨k.1,λ w ok=>let ⟨g',w',es,U',a,b,c,d,e,f⟩:=k.2 w ok;⟨g',w',es,U',a,b,c,d,e,h _ _ _ f⟩⟩
def FJ.mono{S:Sys P T}{Stop X Y:QK T}(h:∀m g U,X m g U->Y m g U){m:Bool}{g:Gr}{U:Qa T}(k:FJ S Stop X m g U):FJ S Stop Y m g U:=by
 obtain⟨e,f,k|k|k⟩:=k
 .exact⟨e,f,.inl k⟩
 .exact⟨e,f,.inr (.inl (k.mono h))⟩
 .exact⟨e,f,.inr (.inr (S.mono h _ _ _ k))⟩
variable{S:Sys P T}{Stop:QK T}{m:Bool}
def J.fold{g:Gr}{U:Qa T}(h:FJ S Stop (J S Stop) m g U):J S Stop m g U:=
 λ X e=>e _ _ _ (h.mono λ _ _ _ k=>k X e)
def J.ind{X:QK T}(e:∀m g U,FJ S Stop (λ m g U=>X m g U/\J S Stop m g U) m g U->X m g U){g:Gr}{U:Qa T}(h:J S Stop m g U):X m g U:=
 (h (λ m g U=>X m g U/\J S Stop m g U) λ m g U k=>⟨e m g U k,J.fold (k.mono λ _ _ _ x=>x.2)⟩).1
def J.unfold{g:Gr}{U:Qa T}(h:J S Stop m g U):FJ S Stop (J S Stop) m g U:=
 J.ind (X:=FJ S Stop (J S Stop)) (λ _ _ _ k=>k.mono λ _ _ _ x=>x.2) h
def J.stop{g:Gr}{U:Qa T}(h:Stop m g U):J S Stop m g U:=.fold ⟨U,.refl _,.inl h⟩
def J.priv{g:Gr}{U:Qa T}(h:G1 P (J S Stop) m g U):J S Stop m g U:=.fold ⟨U,.refl _,.inr (.inl h)⟩
def J.syn{g:Gr}{U:Qa T}(h:S.syn (J S Stop) m g U):J S Stop m g U:=.fold ⟨U,.refl _,.inr (.inr h)⟩
def J.still{g g':Gr}{U:Qa T}(e:g.status=.running)(h:∀w,stepG P m g w=.go g' w)(k:J S Stop m g' U):J S Stop m g U:=
 .priv ⟨e,λ w ok=>⟨g',w,#[],U,h w,S1,.refl _ _,ok,rfl,k⟩⟩
def Jk(P:Program)(fn:FuncId)(es:Array Event):∀e∈seen P fn es,e∈es:=by
 dsimp only[seen]
 rw[<- Array.foldl_toList]
 have key:∀(l:List Event)(x:Bool×Array Event),(∀e∈x.2,e∈es)->(∀e∈l,e∈es) ->
   ∀e∈(l.foldl (λ(x:Bool×Array Event)e=>match e.loc with|.mark (.extern f)=>((P.funcs[f]?).any (·.norace),x.2)|_=>(x.1,if x.1&&!e.sync then x.2 else x.2.push e)) x).2,e∈es:=by
  intro l
  induction l with
  |nil=>exact λ x z _=>z
  |cons a l E=>
   intro x z B;simp only[foldl_cons];refine E _ ?_ λ e w=>B e (mem_cons_of_mem _ w);split
   .exact z
   .dsimp only
    split
    .exact z
    .intro e w;rcases Array.mem_push.1 w with w|rfl
     .exact z e w
     .exact B _ (mem_cons_self ..)
 exact key es.toList _ S1 S1
def J.sem{α:Type}{g:Gr}{U:Qa T}(s:Sem α){Q:α->Qa T->Prop}(N:g.status=.running)(h:Qw P s Q U)
  (z:∀w x w' es,s.runT P w #[]=(.ok x w',es)->(∃U',Q x U')->∃g' f,stepG P m g w=.go g' w' f/\(∀e∈f,e∈es)/\(∀U',Q x U'->J S Stop m g' U')):J S Stop m g U:=by
 refine .priv ⟨N,λ w ok=>?_⟩;obtain⟨x,w',es,U',M,E,K,F,H,V⟩:=Qw.sound s (es₀:=#[]) h ok;obtain⟨g',f,G,B,L⟩:=z w x w' es (by simpa using M) ⟨U',H⟩;exact⟨g',w',f,U',G,λ e I=>E e (B e I),K,F,V,L U' H⟩
def fr(b:Frame)(a:Act)(todo:List Item):Frame:={ b with tmps:=a.tmps,todo:=todo,defers:=a.defers,mode:=.run }
def R(b:Frame)(a:Act)(todo:List Item)(cs:List Frame):Gr:={ frame:=fr b a todo,callers:=cs,status:=.running,dying:=none }
def Rf(f:Frame)(cs:List Frame):Gr:={ frame:=f,callers:=cs,status:=.running,dying:=none }
def PC(b:Frame)(a:Act)(todo:List Item):(fr b a todo).eval=a.eval:=by funext x;cases x <;> rfl
section moves
variable{b:Frame}{a:Act}{k:List Item}{cs:List Frame}{w:World}
def CV:stepG P m (R b a (.code .skip::k) cs) w=.go (R b a k cs) w:=by simp[R,stepG,stepG.exec,fr]
def Md{l:Nat}:stepG P m (R b a (.code (.label l)::k) cs) w=.go (R b a k cs) w:=by simp[R,stepG,stepG.exec,fr]
def Cu{id:Nat}:stepG P m (R b a (.inBlock id::k) cs) w=.go (R b a k cs) w:=by simp[R,stepG,stepG.exec,fr]
def Cv{c:Code}:stepG P m (R b a (.inScope c::k) cs) w=.go (R b a k cs) w:=by simp[R,stepG,stepG.exec,fr]
def qt{x y:Code}:stepG P m (R b a (.code (.seq x y)::k) cs) w=.go (R b a (.code x::.code y::k) cs) w:=by simp[R,stepG,stepG.exec,fr]
def CQ{c:Operand}{x y:Code}{t:Bool}(h:a.eval c=.bool t) :
  stepG P m (R b a (.code (.cond c x y)::k) cs) w=.go (R b a (.code (if t then x else y)::k) cs) w:=by
 have e:(fr b a (.code (.cond c x y)::k)).eval c=.bool t:=by rw[PC];exact h
 simp only[fr]at e;simp[R,stepG,stepG.exec,fr,e]
def Mb{id:Nat}{c:Code}:stepG P m (R b a (.code (.block id c)::k) cs) w=.go (R b a (.code c::.inBlock id::k) cs) w:=by simp[R,stepG,stepG.exec,fr]
def CT{c:Code}:stepG P m (R b a (.code (.loop c)::k) cs) w=.go (R b a (.code c::.inLoop c::k) cs) w:=by simp[R,stepG,stepG.exec,fr]
def Ir{c:Code}:stepG P m (R b a (.inLoop c::k) cs) w=.go (R b a (.code c::.inLoop c::k) cs) w:=by simp[R,stepG,stepG.exec,fr]
def Me{c:Code}:stepG P m (R b a (.code (.scope c)::k) cs) w=.go (R b a (.code c::.inScope c::k) cs) w:=by simp[R,stepG,stepG.exec,fr]
def CS{id:Nat}{k':List Item}(h:exitTo id k=some k'):stepG P m (R b a (.code (.exit id)::k) cs) w=.go (R b a k' cs) w:=by simp[R,stepG,stepG.exec,fr,h]
def Is{id:Nat}{ops:Array Oper}:stepG P m (R b a (.code (.region id ops false)::k) cs) w=.go (R b a (.inRegion ops (range ops.size)::k) cs) w:=by simp[R,stepG,stepG.exec,fr]
def Ra{ops:Array Oper}:stepG P m (R b a (.inRegion ops []::k) cs) w=.go (R b a k cs) w:=by simp[R,stepG,stepG.exec,fr]
def BM{ops:Array Oper}{i:Nat}{rest:List Nat}{o:Oper}(f:ops[i]?=some o)(z:Region.wanted o (yielded ops a.tmps)=false) :
  stepG P m (R b a (.inRegion ops (i::rest)::k) cs) w=.go (R b (a.put o.dst undef) (.inRegion ops rest::k) cs) w:=by
 cases e:o.dst <;> simp[R,stepG,stepG.exec,fr,f,z,Frame.finish,Act.put,e]
def CU{ops:Array Oper}{i:Nat}{rest:List Nat}{o:Oper}(B:ops[i]?=some o)(E:Region.wanted o (yielded ops a.tmps)=true)
  (e:b.roundOf=none\/∀c,o.op≠.defer c) :
  stepG P m (R b a (.inRegion ops (i::rest)::k) cs) w=stepG.apply P true (fr b a (.inRegion ops (i::rest)::k)) cs none (execOp a.eval o) w:=by
 have f:=PC b a (.inRegion ops (i::rest)::k);simp only[fr]at f;rcases e with e|e
 .rw[e]at f;simp[R,stepG,stepG.exec,stepG.oper,Frame.oper?,fr,B,E,e];rw[f]
 .simp only[R,stepG,stepG.exec,stepG.oper,Frame.oper?,fr,B,Option.map_some,E,Option.getD_some,if_true,f];cases F:b.roundOf with
  |none=>simp
  |some l=>cases z:o.op <;> first|rfl|exact absurd z (e _)
def HH{ops:Array Oper}{i:Nat}{rest:List Nat}{o:Oper}(e:ops[i]?=some o)(v:Value) :
  (fr b a (.inRegion ops (i::rest)::k)).finish v=fr b (a.put o.dst v) (.inRegion ops rest::k):=by
 cases h:o.dst <;> simp[Frame.finish,fr,Act.put,e,h]
end moves
inductive Ex where
 |normal
 |exit (id:Nat)
 |ret
def XD(S:Sys P T)(Stop:QK T)(m:Bool)(b:Frame)(cs:List Frame)(e:Option Code)(a:Act)(U:Qa T):Prop:=
 match b.roundOf with
 |none=>(e=none\/e=some .ret)/\∀todo,J S Stop m (Rf { fr b a todo with mode:=.returning } cs) U
 |some l=>∃c rest,cs=c::rest/\Qw P (Instr.endRound l e) (λ v U'=>J S Stop m (Rf (c.finish v) rest) U') U
def XC(S:Sys P T)(Stop:QK T)(m:Bool)(b:Frame)(k:List Item)(cs:List Frame):Ex->Act->Qa T->Prop
 |.normal,a,U=>J S Stop m (R b a k cs) U
 |.exit id,a,U=>(∃k',exitTo id k=some k'/\J S Stop m (R b a k' cs) U)\/(exitTo id k=none/\XD S Stop m b cs (some (.exit id)) a U)
 |.ret,a,U=>XD S Stop m b cs (some .ret) a U
def Fr(fn:FuncId)(ro:Option Nat)(b:Frame):Prop:=b.fn=fn/\b.roundOf=ro/\b.kind≠.early/\(ro.isSome->b.kind=.normal)
def Zu(S:Sys P T)(fn:FuncId)(ro:Option Nat)(c:Code)(Q:Ex->Act->Qa T->Prop)(a:Act)(U:Qa T):Prop:=
 ∀(Stop:QK T)(m:Bool)(b:Frame)(k:List Item)(cs:List Frame),Fr fn ro b->(∀e a' U',Q e a' U'->XC S Stop m b k cs e a' U')->J S Stop m (R b a (.code c::k) cs) U
def J7(S:Sys P T)(fn:FuncId)(ro:Option Nat)(ops:Array Oper)(todo:List Nat)(Q:Ex->Act->Qa T->Prop)(a:Act)(U:Qa T):Prop:=
 ∀(Stop:QK T)(m:Bool)(b:Frame)(k:List Item)(cs:List Frame),Fr fn ro b->(∀e a' U',Q e a' U'->XC S Stop m b k cs e a' U')->J S Stop m (R b a (.inRegion ops todo::k) cs) U
def Qb(S:Sys P T)(f:FuncId)(args:Array Value)(Q:Value->Qa T->Prop)(U:Qa T):Prop:=
 ∀(Stop:QK T)(m:Bool)(c:Frame)(cs:List Frame),(∀v U',Q v U'->J S Stop m (Rf (c.finish v) cs) U')->J S Stop m (Rf (Frame.enter P f args .normal) (c::cs)) U
def WE(S:Sys P T)(l:Nat)(f:FuncId)(tmps:Array Value)(assign body:Code)(Q:Value->Qa T->Prop)(U:Qa T):Prop:=
 ∀(Stop:QK T)(m:Bool)(c:Frame)(cs:List Frame),(∀v U',Q v U'->J S Stop m (Rf (c.finish v) cs) U')->J S Stop m (Rf (Frame.round l f tmps assign body .normal) (c::cs)) U
def XC.push{b:Frame}{x:Item}{k:List Item}{cs:List Frame}{e:Ex}{a:Act}{U:Qa T}(w:∀id k,exitTo id (x::k)=exitTo id k)(f:e≠.normal)
  (h:XC S Stop m b k cs e a U):XC S Stop m b (x::k) cs e a U:=by
 cases e with
 |normal=>exact absurd rfl f
 |exit id=>simpa only[XC,w]using h
 |ret=>exact h
section rules
variable{fn:FuncId}{ro:Option Nat}{Q:Ex->Act->Qa T->Prop}{a:Act}{U:Qa T}
def Zu.mono{c:Code}{f:Ex->Act->Qa T->Prop}(h:Zu S fn ro c Q a U)(B:∀e a U,Q e a U->f e a U):Zu S fn ro c f a U:=
 λ Stop m b k cs w z=>h Stop m b k cs w λ e a' U' q=>z e a' U' (B e a' U' q)
def Qb.mono{f:FuncId}{args:Array Value}{R R':Value->Qa T->Prop}(h:Qb S f args R U)(e:∀v U,R v U->R' v U):Qb S f args R' U:=
 λ Stop m c cs k=>h Stop m c cs λ v U' r=>k v U' (e v U' r)
def WE.mono{l:Nat}{f:FuncId}{tmps:Array Value}{as e:Code}{R R':Value->Qa T->Prop}(h:WE S l f tmps as e R U)(w:∀v U,R v U->R' v U):WE S l f tmps as e R' U:=
 λ Stop m c cs k=>h Stop m c cs λ v U' r=>k v U' (w v U' r)
def J.shift{g:Gr}{U U':Qa T}(w:Q1 U U')(h:J S Stop m g U'):J S Stop m g U:=by
 obtain⟨e,f,h⟩:=h.unfold;exact .fold ⟨e,w.trans f,h⟩
def Ma{c:Code}{U':Qa T}(w:Q1 U U')(h:Zu S fn ro c Q a U'):Zu S fn ro c Q a U:=λ Stop m b k cs e f=>.shift w (h Stop m b k cs e f)
def Gs{ops:Array Oper}{todo:List Nat}{U':Qa T}(w:Q1 U U')(h:J7 S fn ro ops todo Q a U'):J7 S fn ro ops todo Q a U:=λ Stop m b k cs e f=>.shift w (h Stop m b k cs e f)
def Qb.shift{f:FuncId}{args:Array Value}{R:Value->Qa T->Prop}{U':Qa T}(e:Q1 U U')(h:Qb S f args R U'):Qb S f args R U:=λ Stop m c cs k=>.shift e (h Stop m c cs k)
def WE.shift{l:Nat}{f:FuncId}{tmps:Array Value}{as e:Code}{R:Value->Qa T->Prop}{U':Qa T}(w:Q1 U U')(h:WE S l f tmps as e R U'):WE S l f tmps as e R U:=λ Stop m c cs k=>.shift w (h Stop m c cs k)
def Qb.post{f:FuncId}{args:Array Value}{R R':Value->Qa T->Prop}(h:Qb S f args R U)(e:∀v U,R v U->∃U',Q1 U U'/\R' v U'):Qb S f args R' U:=
 λ Stop m c cs k=>h Stop m c cs λ v U' r=>let ⟨_,hs,r'⟩:=e v U' r;.shift hs (k v _ r')
def Nb(h:Q .normal a U):Zu S fn ro .skip Q a U:=λ _ _ _ _ _ _ e=>.still rfl (λ _=>CV) (e _ _ _ h)
def M7{l:Nat}(h:Q .normal a U):Zu S fn ro (.label l) Q a U:=λ _ _ _ _ _ _ e=>.still rfl (λ _=>Md) (e _ _ _ h)
def qy{x y:Code}(h:Zu S fn ro x (λ e a' U'=>match e with|.normal=>Zu S fn ro y Q a' U'|e=>Q e a' U') a U):Zu S fn ro (.seq x y) Q a U:=by
 intro Stop m b k cs w f;refine .still rfl (λ _=>qt) (h Stop m b (.code y::k) cs w λ e a' U' q=>?_);cases e with
 |normal=>exact q Stop m b k cs w f
 |exit id=>exact(f _ _ _ q).push (λ _ _=>rfl) S1
 |ret=>exact(f _ _ _ q).push (x:=.code y) (λ _ _=>rfl) S1
def Na{c:Operand}{x y:Code}(t:Bool)(f:a.eval c=.bool t)(h:Zu S fn ro (if t then x else y) Q a U):Zu S fn ro (.cond c x y) Q a U:=
 λ Stop m b k cs e w=>.still rfl (λ _=>CQ f) (h Stop m b k cs e w)
def M6{id:Nat}{c:Code}(h:Zu S fn ro c (λ e a' U'=>match e with|.normal=>Q .normal a' U'|.exit f=>if f=id then Q .normal a' U' else Q (.exit f) a' U'|.ret=>Q .ret a' U') a U) :
  Zu S fn ro (.block id c) Q a U:=by
 intro Stop m b k cs E z;refine .still rfl (λ _=>Mb) (h Stop m b (.inBlock id::k) cs E λ e a' U' q=>?_);cases e with
 |normal=>exact .still rfl (λ _=>Cu) (z _ _ _ q)
 |exit f=>
  by_cases w:f=id
  .simp only[w,if_true]at q;exact .inl ⟨k,by simp[exitTo,w],z _ _ _ q⟩
  .simp only[w,if_false]at q;have B:(id==f)=false:=by simp;exact λ h=>w h.symm
   simpa only[XC,exitTo,B,Bool.false_eq_true,if_false]using z _ _ _ q
 |ret=>exact z _ _ _ q
def M9{c:Code}(h:Zu S fn ro c Q a U):Zu S fn ro (.scope c) Q a U:=by
 intro Stop m b k cs w f;refine .still rfl (λ _=>Me) (h Stop m b (.inScope c::k) cs w λ e a' U' q=>?_);cases e with
 |normal=>exact .still rfl (λ _=>Cv) (f _ _ _ q)
 |exit id=>exact(f _ _ _ q).push (λ _ _=>rfl) S1
 |ret=>exact(f _ _ _ q).push (x:=.inScope c) (λ _ _=>rfl) S1
def OZ{id:Nat}(h:Q (.exit id) a U):Zu S fn ro (.exit id) Q a U:=by
 intro Stop m b k cs E F;rcases F _ _ _ h with⟨k',z,H⟩|⟨z,f⟩
 .exact .still rfl (λ _=>CS z) H
 .cases hro:b.roundOf with
  |none=>simp only[XD,hro]at f;simp at f
  |some l=>
   simp only[XD,hro]at f;obtain⟨c,rest,rfl,K⟩:=f;have B:b.kind=.normal:=E.2.2.2 (by rw[<- E.2.1,hro];rfl);refine .sem _ rfl K λ w x w' es e _=>⟨Rf (c.finish x) rest,seen P b.fn es,?_,Jk P _ es,λ _ h=>h⟩;obtain⟨I,G⟩:Sem.run P (Instr.endRound l (some (.exit id))) w=.ok x w'/\Sem.events P (Instr.endRound l (some (.exit id))) w #[]=es:=by simpa using e
   simp[R,stepG,stepG.exec,fr,hro,z,I,G,doReturn,B,GStep.after,Rf]
def Tw(h:Q .ret a U):Zu S fn ro .ret Q a U:=by
 intro Stop m b k cs E F;have z:=F _ _ _ h;cases e:b.roundOf with
 |none=>
  simp only[XC,XD,e]at z;refine .still rfl (λ w=>?_) (z.2 (.code .ret::k));simp[R,Rf,stepG,stepG.exec,fr,e]
 |some l=>
  simp only[XC,XD,e]at z;obtain⟨c,rest,rfl,I⟩:=z;have B:b.kind=.normal:=E.2.2.2 (by rw[<- E.2.1,e];rfl);refine .sem _ rfl I λ w x w' es f _=>⟨Rf (c.finish x) rest,seen P b.fn es,?_,Jk P _ es,λ _ h=>h⟩;obtain⟨H,G⟩:Sem.run P (Instr.endRound l (some .ret)) w=.ok x w'/\Sem.events P (Instr.endRound l (some .ret)) w #[]=es:=by simpa using f
  simp[R,stepG,stepG.exec,fr,e,H,G,doReturn,B,GStep.after,Rf]
def Y4{id:Nat}{ops:Array Oper}(h:J7 S fn ro ops (range ops.size) Q a U):Zu S fn ro (.region id ops false) Q a U:=
 λ Stop m b k cs e f=>.still rfl (λ _=>Is) (h Stop m b k cs e f)
def Om{ops:Array Oper}(h:Q .normal a U):J7 S fn ro ops [] Q a U:=λ _ _ _ _ _ _ e=>.still rfl (λ _=>Ra) (e _ _ _ h)
def PM(S:Sys P T)(ro:Option Nat)(o:Oper)(a:Act)(K:Act->Qa T->Prop):Next->Qa T->Prop
 |.value v,U=>K (a.put o.dst v) U
 |.skip,U=>K (a.put o.dst undef) U
 |.defer d,U=>ro=none/\K ({ a with defers:=d::a.defers }.put o.dst undef) U
 |.enter f args,U=>Qb S f args (λ v U'=>K (a.put o.dst v) U') U
 |.round l f tmps assign body,U=>WE S l f tmps assign body (λ v U'=>K (a.put o.dst v) U') U
 |_,_=>False
def HA(S:Sys P T)(ro:Option Nat)(o:Oper)(a:Act)(K:Act->Qa T->Prop)(U:Qa T):Prop:=Qw P (execOp a.eval o) (PM S ro o a K) U
def Xi{ops:Array Oper}{i:Nat}{rest:List Nat}{o:Oper}(E:ops[i]?=some o)(L:Region.wanted o (yielded ops a.tmps)=true)(I:ro=none\/∀c,o.op≠.defer c)
  (h:HA S ro o a (J7 S fn ro ops rest Q) U):J7 S fn ro ops (i::rest) Q a U:=by
 intro Stop m b k cs B F;have z:(b.kind==CallKind.early)=false:=by simpa using B.2.2.1
 have G:b.roundOf=none\/∀c,o.op≠.defer c:=by rw[B.2.1];exact I
 refine .sem _ rfl h λ w x w' es e H=>?_;rw[CU E L G];have M:(execOp a.eval o).run P w=.ok x w':=by have:=Sem.runT_fst P (execOp a.eval o) w #[];rw[e]at this;exact this.symm
 cases x with
 |value v=>
  refine⟨R b (a.put o.dst v) (.inRegion ops rest::k) cs,seen P b.fn es,?_,Jk P _ es,λ U' q=>q Stop m b k cs B F⟩;have:=HH (b:=b) (a:=a) (k:=k) (rest:=rest) E v;simp only[stepG.apply,if_true,e];simp[fr,z,GStep.after,R]at this ⊢;exact this
 |skip=>
  refine⟨R b (a.put o.dst undef) (.inRegion ops rest::k) cs,seen P b.fn es,?_,Jk P _ es,λ U' q=>q Stop m b k cs B F⟩;have:=HH (b:=b) (a:=a) (k:=k) (rest:=rest) E undef;simp only[stepG.apply,if_true,e];simp[fr,z,GStep.after,R]at this ⊢;exact this
 |defer d=>
  refine⟨R b ({ a with defers:=d::a.defers }.put o.dst undef) (.inRegion ops rest::k) cs,seen P b.fn es,?_,Jk P _ es,λ U' q=>q.2 Stop m b k cs B F⟩;have:=HH (b:=b) (a:={ a with defers:=d::a.defers }) (k:=k) (rest:=rest) E undef;simp only[stepG.apply,if_true,e];simp[fr,z,GStep.after,R]at this ⊢;exact this
 |enter f args=>
  refine⟨Rf (Frame.enter P f args .normal) (fr b a (.inRegion ops (i::rest)::k)::cs),seen P b.fn es,?_,Jk P _ es,λ U' q=>?_⟩
  .simp only[stepG.apply,if_true,e];simp[fr,z,GStep.after,Rf]
  .refine q Stop m _ cs λ v U'' q'=>?_;have:=q' Stop m b k cs B F;rw[HH E];exact this
 |round l f tmps assign body=>
  refine⟨Rf (Frame.round l f tmps assign body .normal) (fr b a (.inRegion ops (i::rest)::k)::cs),seen P b.fn es,?_,Jk P _ es,λ U' q=>?_⟩
  .simp only[stepG.apply,if_true,e];simp[fr,z,GStep.after,Rf]
  .refine q Stop m _ cs λ v U'' q'=>?_;have:=q' Stop m b k cs B F;rw[HH E];exact this
 |_=>obtain⟨_,K⟩:=H;exact K.elim
def We{ops:Array Oper}{i:Nat}{rest:List Nat}{o:Oper}(w:ops[i]?=some o)(z:Region.wanted o (yielded ops a.tmps)=false)
  (h:J7 S fn ro ops rest Q (a.put o.dst undef) U):J7 S fn ro ops (i::rest) Q a U:=
 λ Stop m b k cs e f=>.still rfl (λ _=>BM w z) (h Stop m b k cs e f)
def J7.mono{ops:Array Oper}{todo:List Nat}{f:Ex->Act->Qa T->Prop}(h:J7 S fn ro ops todo Q a U)(B:∀e a U,Q e a U->f e a U):J7 S fn ro ops todo f a U:=
 λ Stop m b k cs w z=>h Stop m b k cs w λ e a' U' q=>z e a' U' (B e a' U' q)
end rules
def JH(I:Nat->Option Obj)(b:Nat)(o:Obj):Nat->Option Obj:=λ x=>if x=b then some o else I x
def Vx{M M':List Q2}(h:∀r,r∈M'->r∈M){l:Loc}:(∃r∈M',r.lets l)->∃r∈M,r.lets l:=λ⟨r,f,e⟩=>⟨r,h r f,e⟩
def Dx{U:Qa T}{M':List Q2}(h:∃M₀,Perm U.M (M'++M₀)):Q1 U { U with M:=M' }:=by
 obtain⟨M₀,B⟩:=h;have e:∀r,r∈M'->r∈U.M:=λ r z=>B.mem_iff.2 (mem_append_left _ z);refine⟨rfl,λ w ok=>⟨⟨ok.imm,λ r z=>ok.held r (e r z),?_,λ r z=>ok.sep r (e r z)⟩,λ l f=>?_,λ l f=>?_⟩⟩
 .have:=(B.pairwise_iff (λ{x y}h=>Q2.apart_symm h)).1 ok.apart;exact(pairwise_append.1 this).1
 .rw[Za]at f ⊢;exact Vx e f
 .rw[Q3]at f ⊢;exact f.imp (Vx e) id
def Wf{U:Qa T}{b:Nat}{o:Obj}{M':List Q2}(h:Perm U.M (.obj b o::M')):Q1 U { U with I:=JH U.I b o,M:=M' }:=by
 have z:∀r,r∈M'->r∈U.M:=λ r G=>h.mem_iff.2 (mem_cons_of_mem _ G);have L:Q2.obj b o∈U.M:=h.mem_iff.2 (mem_cons_self ..);refine⟨rfl,λ w ok=>?_⟩;have F:=(h.pairwise_iff (λ{x y}h=>Q2.apart_symm h)).1 ok.apart;rw[pairwise_cons]at F;refine⟨⟨?_,λ r G=>ok.held r (z r G),F.2,?_⟩,λ l B=>?_,λ l B=>?_⟩
 .intro x P E;simp only[JH]at E;split at E
  .rename_i e;cases E;subst e;exact ok.held _ L
  .exact ok.imm x P E
 .intro r G
  have N:r.blk≠b:=by
   have:=F.1 r G;cases r <;> simp_all[Q2.apart,Q2.blk] <;> exact λ e=>this e.symm
  simp only[JH,if_neg N];exact ok.sep r (z r G)
 .rw[Za]at B ⊢;exact Vx z B
 .rw[Q3]at B ⊢;rcases B with B|B
  .exact .inl (Vx z B)
  .cases l with
   |cell a=>
    obtain⟨c,t,f,K,H⟩:=B;simp only[JH]at K;split at K
    .rename_i e;cases K;exact .inl ⟨_,L,e,H⟩
    .exact .inr ⟨c,t,f,K,H⟩
   |obj x=>
    obtain⟨P,E⟩:=B;simp only[JH]at E;split at E
    .rename_i e;cases E;exact .inl ⟨_,L,by cases o <;> simp[Q2.lets,e]⟩
    .exact .inr ⟨P,E⟩
   |output=>exact B.elim
   |goroutines=>exact B.elim
   |mark _=>exact B.elim
end Go.TM
namespace Go.TM
variable{T:Type}{P:Program}{S:Sys P T}{fn:FuncId}{ro:Option Nat}
structure Qa.le(U U':Qa T):Prop where
 imm:∀b o,U.I b=some o->U'.I b=some o
 own:U'.M=U.M
 tok:U'.tok=U.tok
def Qa.le.refl(U:Qa T):U.le U:=⟨λ _ _ h=>h,rfl,rfl⟩
def Qa.le.trans{a b c:Qa T}(h:a.le b)(k:b.le c):a.le c:=⟨λ x o e=>k.imm x o (h.imm x o e),k.own.trans h.own,k.tok.trans h.tok⟩
def CR{m:Bool}{b:Frame}{a:Act}{k:List Item}{cs:List Frame}{w:World}{id:Nat}{ops:Array Oper} :
  stepG P m (R b a (.code (.region id ops true)::k) cs) w =
   .go (R b a (.inRegion ops (Region.schedule (P.follows .mixedOrders) ops (w.tape w.drawn (.order b.fn id)))::k) cs) { w with drawn:=w.drawn+1 }:=by
 simp[R,stepG,stepG.exec,fr,choose,Sem.run,Question.forced,Question.cut]
def OY{Q:Ex->Act->Qa T->Prop}{a:Act}{U:Qa T}{id:Nat}{ops:Array Oper}(h:∀t,J7 S fn ro ops (Region.schedule (P.follows .mixedOrders) ops t) Q a U) :
  Zu S fn ro (.region id ops true) Q a U:=by
 intro Stop m b k cs e f;refine .priv ⟨rfl,λ w ok=>⟨_,_,#[],U,CR,S1,KY U w _,Ey ok _,rfl,h _ Stop m b k cs e f⟩⟩
def ZL(S:Sys P T)(K:Value->Qa T->Prop):Next->Qa T->Prop
 |.value v,U=>K v U
 |.skip,U=>K undef U
 |.enter f args,U=>Qb S f args K U
 |.round l f tmps assign body,U=>WE S l f tmps assign body K U
 |_,_=>False
def QL(S:Sys P T)(o:Oper)(a:Act)(K:Value->Qa T->Prop)(U:Qa T):Prop:=Qw P (execOp a.eval o) (ZL S K) U
def QL.mono{o:Oper}{a:Act}{K w:Value->Qa T->Prop}{U:Qa T}(h:QL S o a K U)(f:∀v U,K v U->w v U):QL S o a w U:=
 Qw.mono _ h λ n U e=>by
  cases n <;> first|exact f _ _ e|exact Qb.mono e f|exact WE.mono e f|exact e
def QL.opV{o:Oper}{a:Act}{K:Act->Qa T->Prop}{U:Qa T}(h:QL S o a (λ v U=>K (a.put o.dst v) U) U):HA S ro o a K U:=
 Qw.mono _ h λ n U e=>by cases n <;> first|exact e|exact e.elim
def XJ(F:Qa T->Prop):Prop:=∀U U',F U->U.le U'->F U'
inductive ZX(S:Sys P T)(ops:Array Oper)(rl:List Nat)(B:Nat->Nat->Prop)(late:Nat->Bool)(G:Qa T->Prop)(U:Qa T)(Fin:Act->Qa T->Prop):List Nat->(Qa T->Prop)->Act->Prop
 |nil {C a}:(∀U',U.le U'->C U'->Fin a U')->ZX S ops rl B late G U Fin [] C a
 |un {i rest C a o}:i∉rl->ops[i]?=some o->Region.wanted o (yielded ops a.tmps)=false->ZX S ops rl B late G U Fin rest C (a.put o.dst undef)->ZX S ops rl B late G U Fin (i::rest) C a
 |det {i rest C a o} (v:Value):i∉rl->ops[i]?=some o->Region.wanted o (yielded ops a.tmps)=true ->
   (∀U',U.le U'->C U'->QL S o a (λ v' U2=>v'=v/\∃U1,Q1 U2 U1/\U'.le U1) U') ->
   (late i=true->∀U',G U'->QL S o a (λ v' U2=>v'=v/\∃U1,Q1 U2 U1/\U'.le U1) U') ->
   ZX S ops rl B late G U Fin rest C (a.put o.dst v)->ZX S ops rl B late G U Fin (i::rest) C a
 |rel {i rest C a o} (F:Value->Qa T->Prop):i∈rl->(∀v,XJ (F v))->ops[i]?=some o->Region.wanted o (yielded ops a.tmps)=true ->
   (∀U',U.le U'->C U'->QL S o a (λ v' U2=>∃U1,Q1 U2 U1/\F v' U1/\U'.le U1) U') ->
   (∀v,(∃U',U.le U'/\C U'/\F v U')->ZX S ops rl B late G U Fin rest (λ U'=>C U'/\F v U') (a.put o.dst v))->ZX S ops rl B late G U Fin (i::rest) C a
 |last {i C a o}:i∈rl->XJ G->(∀j,late j=false->B j i)->ops[i]?=some o->Region.wanted o (yielded ops a.tmps)=true ->
   (∀U',U.le U'->C U'->QL S o a (λ v' U2=>v'=undef/\∃U1,Q1 U2 U1/\G U1) U')->((∃U',U.le U'/\C U')->∀U',G U'->Fin (a.put o.dst undef) U')->ZX S ops rl B late G U Fin [i] C a
def W1(ops:Array Oper)(i:Nat):List Nat:=((ops[i]?).map λ o=>(o.after.toList.filter (Region.binds .any)).map (·.on)).getD []
inductive JD(ops:Array Oper):Nat->Nat->Prop
 |edge {i j}:j∈W1 ops i->JD ops j i
 |trans {i j k}:JD ops k j->j∈W1 ops i->JD ops k i
def Xb(ops:Array Oper):Nat->List Nat
 |0=>[]
 |n+1=>let acc:=Xb ops n;acc++[(W1 ops n).foldl (λ s j=>s||| 2^j||| acc.getD j 0) 0]
def Vg(ops:Array Oper):∀n,(Xb ops n).length=n
 |0=>rfl
 |n+1=>by simp[Xb,Vg ops n]
def Um(acc:List Nat)(j:Nat):∀(l:List Nat)(s:Nat),(l.foldl (λ s j=>s||| 2^j||| acc.getD j 0) s).testBit j=true->s.testBit j=true\/∃k∈l,k=j\/(acc.getD k 0).testBit j=true
 |[],s,h=>.inl h
 |k::l,s,h=>by
  simp only[foldl_cons]at h;rcases Um acc j l _ h with h|⟨x,e,h⟩
  .simp only[Nat.testBit_or,Bool.or_eq_true]at h;rcases h with(h|h)|h
   .exact .inl h
   .refine .inr ⟨k,mem_cons_self ..,.inl ?_⟩;rw[Nat.testBit_two_pow]at h;exact of_decide_eq_true h
   .exact .inr ⟨k,mem_cons_self ..,.inr h⟩
  .exact .inr ⟨x,mem_cons_of_mem _ e,h⟩
def Wu(ops:Array Oper):∀n i j,((Xb ops n).getD i 0).testBit j=true->JD ops j i:=by
 intro n
 induction n with
 |zero=>intro i j h;simp[Xb]at h
 |succ n w=>
  intro i j h;simp only[Xb]at h;by_cases z:i<n
  .rw[getD_eq_getElem?_getD,getElem?_append_left (by rw[Vg];exact z),<- getD_eq_getElem?_getD]at h;exact w i j h
  .rw[getD_eq_getElem?_getD,getElem?_append_right (by rw[Vg];omega),Vg,<- getD_eq_getElem?_getD]at h;by_cases e:i=n
   .subst e;simp only[Nat.sub_self,getD_cons_zero]at h;rcases Um _ j _ 0 h with h|⟨k,f,rfl|h⟩
    .simp at h
    .exact .edge f
    .exact .trans (w k j h) f
   .have:i-n=(i-n-1)+1:=O1
    rw[this]at h;simp at h
def WI(ops:Array Oper)(i:Nat):Option Tmp:=(ops[i]?).bind (·.dst)
def looks(ops:Array Oper)(i:Nat):List Tmp:=((ops[i]?).map (Oper.looksAt ops)).getD []
def PG(ops:Array Oper)(rl qs ts:List Nat):Bool:=
 let n:=ops.size
 let e:=Xb ops n
 let bf (j i:Nat):Bool:=(e.getD i 0).testBit j
 let all:=qs++ts
 (range n).all (λ i=>all.contains i)&&(decide all.Nodup&&all.all (λ i=>decide (i<n))) &&
 (ops.toList.all λ o=>!(o.op matches .select ..)) &&
 (range n).all (λ i=>(range n).all λ j=>i==j|| (match WI ops i with|some d=>WI ops j != some d|none=>true)) &&
 qs.all (λ i=>(range n).all λ j=>i==j|| (match WI ops j with|some d=>!(looks ops i).contains d|| bf j i|| bf i j|none=>true)) &&
 (range all.length).all (λ p=>(W1 ops (all.getD p 0)).all λ j=>(all.take p).contains j) &&
 (range qs.length).all (λ p=>!rl.contains (qs.getD p 0)|| ((all.drop (p+1)).all λ j=>bf (qs.getD p 0) j)) &&
 (range ts.length).all (λ p=>(qs++ts.take p).all λ j=>bf j (ts.getD p 0))
structure Jz(ops:Array Oper)(rl qs ts:List Nat):Prop where
 mem:∀i,i<ops.size↔i∈qs++ts
 nodup:(qs++ts).Nodup
 nosel:∀(i:Nat)o,ops[i]?=some o->∀cs b,o.op≠.select cs b
 once:∀i j d,WI ops i=some d->WI ops j=some d->i=j
 look:∀i,i∈qs->∀j d,i≠j->WI ops j=some d->d∈looks ops i->JD ops j i\/JD ops i j
 order:∀p i,(qs++ts)[p]?=some i->∀j∈W1 ops i,j∈(qs++ts).take p
 behind:∀p i,qs[p]?=some i->i∈rl->∀j∈(qs++ts).drop (p+1),JD ops i j
 tail:∀p i,ts[p]?=some i->∀j∈qs++ts.take p,JD ops j i
def Yv{ops:Array Oper}{i:Nat}{d:Tmp}(h:WI ops i=some d):i<ops.size:=by
 simp only[WI]at h;cases e:ops[i]? with
 |none=>simp[e]at h
 |some o=>exact(Array.getElem?_eq_some_iff.1 e).1
def Ug{ops:Array Oper}{rl qs ts:List Nat}(h:PG ops rl qs ts=true):Jz ops rl qs ts:=by
 simp only[PG,Bool.and_eq_true]at h;obtain⟨⟨⟨⟨⟨⟨⟨G,F⟩,H⟩,I⟩,K⟩,L⟩,M⟩,N⟩:=h
 have z:∀i,i<ops.size->i∈qs++ts:=λ i w=>by
  have:=all_eq_true.1 G i (mem_range.2 w);simpa using this
 obtain⟨E,B⟩:(qs++ts).Nodup/\∀i∈qs++ts,i<ops.size:=by
  exact⟨of_decide_eq_true F.1,λ i w=>of_decide_eq_true (all_eq_true.1 F.2 i w)⟩
 refine⟨λ i=>⟨z i,B i⟩,E,?_,?_,?_,?_,?_,?_⟩
 .intro i o ho cs b e;have:=all_eq_true.1 H o (Array.mem_toList_iff.2 (Array.mem_of_getElem? ho));simp[e]at this
 .intro i j d w hj;have:=all_eq_true.1 (all_eq_true.1 I i (mem_range.2 (Yv w))) j (mem_range.2 (Yv hj));simp only[w,hj,Bool.or_eq_true,beq_iff_eq]at this;rcases this with h|h
  .exact h
  .simp at h
 .intro i w j d hne hj hd;have:=all_eq_true.1 (all_eq_true.1 K i w) j (mem_range.2 (Yv hj));simp only[hj,Bool.or_eq_true,beq_iff_eq]at this;rcases this with h|(h|h)|h
  .exact absurd h hne
  .simp[hd]at h
  .exact .inl (Wu _ _ _ _ h)
  .exact .inr (Wu _ _ _ _ h)
 .intro p i hp j hj;have f:=(List.getElem?_eq_some_iff.1 hp).1;have:=all_eq_true.1 L p (mem_range.2 f);rw[getD_eq_getElem?_getD,hp,Option.getD_some]at this;simpa using all_eq_true.1 this j hj
 .intro p i hp hr j hj;have f:=(List.getElem?_eq_some_iff.1 hp).1;have:=all_eq_true.1 M p (mem_range.2 f);rw[getD_eq_getElem?_getD,hp,Option.getD_some]at this;simp only[Bool.or_eq_true]at this;rcases this with h|h
  .simp[hr]at h
  .exact Wu _ _ _ _ (all_eq_true.1 h j hj)
 .intro p i hp j hj;have f:=(List.getElem?_eq_some_iff.1 hp).1;have:=all_eq_true.1 N p (mem_range.2 f);have e:ts.getD p 0=i:=by rw[getD_eq_getElem?_getD,hp];rfl
  rw[e]at this;exact Wu _ _ _ _ (all_eq_true.1 this j hj)
def J6{ops:Array Oper}{listed:Array Bool}{i:Nat}:i∈Region.ready .any ops listed↔i<ops.size/\listed.getD i true=false/\∀j∈W1 ops i,listed.getD j false=true:=by
 simp only[Region.ready,mem_filter,mem_range,Bool.and_eq_true,Bool.not_eq_true'];constructor
 .rintro⟨hi,h1,h2⟩;refine⟨hi,h1,λ j B=>?_⟩;obtain⟨o,f⟩:∃o,ops[i]?=some o:=⟨ops[i],by simp[hi]⟩;simp only[f,Option.map_some,Option.getD_some]at h2;simp only[W1,f,Option.map_some,Option.getD_some,mem_map,mem_filter,Array.mem_toList_iff]at B;obtain⟨e,⟨z,w⟩,rfl⟩:=B;have:=(Array.all_eq_true'.1 h2) e z;simpa[w]using this
 .rintro⟨hi,h1,h2⟩;refine⟨hi,h1,?_⟩;obtain⟨o,f⟩:∃o,ops[i]?=some o:=⟨ops[i],by simp[hi]⟩;simp only[f,Option.map_some,Option.getD_some];rw[Array.all_eq_true'];intro e z;by_cases w:Region.binds .any e=true
  .have:=h2 e.on (by simp only[W1,f,Option.map_some,Option.getD_some,mem_map,mem_filter,Array.mem_toList_iff];exact⟨e,⟨z,w⟩,rfl⟩);rw[this];simp
  .simp[w]
structure Jp(ops:Array Oper)(val:Nat->Value)(D:Nat->Prop)(a_0 a:Act):Prop where
 defers:a.defers=a_0.defers
 size:a.tmps.size=a_0.tmps.size
 wr:∀(s:Nat)(j:Nat),WI ops j=some s->D j->s<a_0.tmps.size->a.tmps[s]?=some (val j)
 not:∀s:Nat,(∀j,WI ops j=some s->¬D j)->a.tmps[s]?=a_0.tmps[s]?
def Jp.put{ops:Array Oper}{rl qs ts:List Nat}(F:Jz ops rl qs ts){val:Nat->Value}{D:Nat->Prop}{a_0 a:Act}(h:Jp ops val D a_0 a){i:Nat}{o:Oper}(G:ops[i]?=some o) :
  Jp ops val (λ j=>D j\/j=i) a_0 (a.put o.dst (val i)):=by
 have E:WI ops i=o.dst:=by simp[WI,G]
 cases B:o.dst with
 |none=>
  rw[B]at E;refine⟨h.defers,h.size,λ s j f w z=>?_,λ s z=>h.not s λ j f w=>z j f (.inl w)⟩;rcases w with w|rfl
  .exact h.wr s j f w z
  .rw[E]at f;cases f
 |some d=>
  rw[B]at E;refine⟨h.defers,by simp[Act.put,h.size],λ s j f w z=>?_,λ s z=>?_⟩
  .by_cases e:d=s
   .subst e;obtain rfl:=F.once _ _ _ f E;simp only[Act.put];rw[Array.getElem?_setIfInBounds_self_of_lt (by rw[h.size];exact z)]
   .rcases w with w|rfl
    .simp only[Act.put];rw[Array.getElem?_setIfInBounds_ne e];exact h.wr s j f w z
    .rw[E]at f;cases f;exact absurd rfl e
  .have e:d≠s:=λ e=>z i (e▸E) (.inr rfl);simp only[Act.put];rw[Array.getElem?_setIfInBounds_ne e];exact h.not s λ j f w=>z j f (.inl w)
def Jp.val{ops:Array Oper}{val e:Nat->Value}{D:Nat->Prop}{a_0 a:Act}(h:Jp ops val D a_0 a)(B:∀j,D j->e j=val j):Jp ops e D a_0 a:=
 ⟨h.defers,h.size,λ s j w f z=>by rw[B j f];exact h.wr s j w f z,h.not⟩
def Jp.slot{ops:Array Oper}{val:Nat->Value}{D E:Nat->Prop}{a_0 a a':Act}(h:Jp ops val D a_0 a)(z:Jp ops val E a_0 a'){s:Nat}(F:∀j,WI ops j=some s->(D j↔E j)):a.tmps[s]?=a'.tmps[s]?:=by
 by_cases B:∃j,WI ops j=some s/\D j
 .obtain⟨j,e,f⟩:=B;by_cases w:s<a_0.tmps.size
  .rw[h.wr s j e f w,z.wr s j e ((F j e).1 f) w]
  .rw[Array.getElem?_eq_none (by rw[h.size];omega),Array.getElem?_eq_none (by rw[z.size];omega)]
 .rw[h.not s λ j e f=>B ⟨j,e,f⟩,z.not s λ j e f=>B ⟨j,e,(F j e).2 f⟩]
def PD{ops:Array Oper}{a a':Act}{i:Nat}{o:Oper}(E:ops[i]?=some o)(e:∀cs b,o.op≠.select cs b)(h:∀s∈looks ops i,a.tmps[s]?=a'.tmps[s]?) :
  execOp a.eval o=execOp a'.eval o/\Region.wanted o (yielded ops a.tmps)=Region.wanted o (yielded ops a'.tmps):=by
 have B:looks ops i=Oper.looksAt ops o:=by simp[looks,E]
 rw[B]at h;constructor
 .refine execOp_congr o e λ x F=>?_;cases x with
  |tmp t=>
   have:=h t (by simp only[Oper.looksAt,mem_append,mem_filterMap,Array.mem_toList_iff];exact .inl ⟨.tmp t,F,rfl⟩);simp only[Act.eval,Array.getD_eq_getD_getElem?,this]
  |_=>rfl
 .unfold Region.wanted;cases w:o.guard with
  |none=>rfl
  |some p=>
   obtain⟨j,f⟩:=p;simp only[]
   have:yielded ops a.tmps j=yielded ops a'.tmps j:=by
    unfold yielded;cases z:(ops[j]?).bind (·.dst)with
    |none=>rfl
    |some t=>
     have:=h t (by simp only[Oper.looksAt,w,mem_append];exact .inr (by simp[z]));simp only[Option.bind_some,this]
   rw[this]
section sound
variable{ops:Array Oper}{rl qs ts:List Nat}
def Li(listed:Array Bool)(i:Nat):Prop:=listed.getD i false=true
def Ka{listed:Array Bool}{i j:Nat}(h:i<listed.size):Li (listed.setIfInBounds i true) j↔Li listed j\/j=i:=by
 simp only[Li,Array.getD_eq_getD_getElem?,Array.getElem?_setIfInBounds];by_cases e:i=j
 .subst e;simp[h]
 .have:¬j=i:=λ x=>e x.symm;simp[e,this]
def SR(z:Jz ops rl qs ts){i j:Nat}(h:JD ops j i):∀p,(qs++ts)[p]?=some i->j∈(qs++ts).take p:=by
 induction h with
 |edge f=>exact λ p w=>z.order p _ w _ f
 |trans _ f B=>
  intro p w;have:=z.order p _ w _ f;obtain⟨p',e⟩:=mem_iff_getElem?.1 this;rw[getElem?_take]at e;split at e
  .have h2:=B p' e;have:(qs++ts).take p' ⊆ (qs++ts).take p:=take_subset_take_left _ O1;exact this h2
  .cases e
def Si{listed:Array Bool}(down:∀i,Li listed i->∀j∈W1 ops i,Li listed j){i j:Nat}(h:JD ops j i):Li listed i->Li listed j:=by
 induction h with
 |edge e=>exact λ f=>down _ f _ e
 |trans _ e w=>exact λ f=>w (down _ f _ e)
def Wb{listed:Array Bool}(down:∀i,Li listed i->∀j∈W1 ops i,Li listed j){i j:Nat}(h:JD ops j i)(f:∀j∈W1 ops i,Li listed j):Li listed j:=by
 cases h with
 |edge e=>exact f _ e
 |trans h e=>exact Si down h (f _ e)
def HL(f:Jz ops rl qs ts){p p' i:Nat}(h:(qs++ts)[p]?=some i)(e:(qs++ts)[p']?=some i):p=p':=by
 have w:=(List.getElem?_eq_some_iff.1 h).1;have z:=(List.getElem?_eq_some_iff.1 e).1;exact(getElem?_inj w f.nodup).1 (h.trans e.symm)
structure Inv(S:Sys P T)(ops:Array Oper)(rl qs:List Nat)(late:Nat->Bool)(G:Qa T->Prop)(U₀:Qa T)(a_0:Act)(Fin:Act->Qa T->Prop)(listed:Array Bool)(ac:Act)(U:Qa T)
  (pre L:List Nat) (C:Qa T->Prop) (av:Act) (val:Nat->Value):Prop where
 split:qs=pre++L
 der:ZX S ops rl (JD ops) late G U₀ Fin L C av
 mono:XJ C
 base:U₀.le U
 c:C U
 av:Jp ops val (·∈pre) a_0 av
 ac:Jp ops val (Li listed) a_0 ac
 sub:∀i,Li listed i->i∈pre
 size:listed.size=ops.size
 down:∀i,Li listed i->∀j∈W1 ops i,Li listed j
 rels:∀i∈pre,i∈rl->Li listed i
 pend:∀i∈pre,¬Li listed i->∃o ai p,qs[p]?=some i/\ops[i]?=some o/\Jp ops val (·∈qs.take p) a_0 ai /\
  ((Region.wanted o (yielded ops ai.tmps)=false/\val i=undef) \/
   (Region.wanted o (yielded ops ai.tmps)=true/\(∀U',U.le U'->QL S o ai (λ v' U2=>v'=val i/\∃U1,Q1 U2 U1/\U'.le U1) U')/\(late i=true->∀U',G U'->QL S o ai (λ v' U2=>v'=val i/\∃U1,Q1 U2 U1/\U'.le U1) U')))
variable{late:Nat->Bool}{G:Qa T->Prop}{U₀:Qa T}{a_0:Act}{Fin:Act->Qa T->Prop}{listed:Array Bool}{ac av:Act}{U:Qa T}{pre L:List Nat}{C:Qa T->Prop}{val:Nat->Value}
def ZW(val:Nat->Value)(i:Nat)(v:Value):Nat->Value:=λ j=>if j=i then v else val j
def Hj{val:Nat->Value}{i j:Nat}{v:Value}(h:j≠i):ZW val i v j=val j:=by simp[ZW,h]
def HG(val:Nat->Value)(i:Nat)(v:Value):ZW val i v i=v:=by simp[ZW]
def Py(e:Jz ops rl qs ts){x:Nat}{rest:List Nat}(h:qs=pre++x::rest):x∉pre:=by
 intro f;have:=(nodup_append.1 e.nodup).1;rw[h]at this;exact(nodup_append.1 this).2.2 x f x (mem_cons_self ..) rfl
def Xh{x:Nat}{rest:List Nat}(h:qs=pre++x::rest):qs.take pre.length=pre/\qs[pre.length]?=some x:=by
 subst h;exact⟨S1,S1⟩
def WX{p i:Nat}(e:qs[p]?=some i):(qs++ts)[p]?=some i:=by
 rw[getElem?_append_left (List.getElem?_eq_some_iff.1 e).1];exact e
def Inv.note(I:Jz ops rl qs ts){x:Nat}{rest:List Nat}(h:Inv S ops rl qs late G U₀ a_0 Fin listed ac U pre (x::rest) C av val)(v:Value) :
  Jp ops (ZW val x v) (·∈pre) a_0 av/\Jp ops (ZW val x v) (Li listed) a_0 ac /\
  (∀i∈pre,¬Li listed i->∃o w p,qs[p]?=some i/\ops[i]?=some o/\Jp ops (ZW val x v) (·∈qs.take p) a_0 w /\
   ((Region.wanted o (yielded ops w.tmps)=false/\ZW val x v i=undef) \/
    (Region.wanted o (yielded ops w.tmps)=true/\(∀U',U.le U'->QL S o w (λ P F=>P=ZW val x v i/\∃z,Q1 F z/\U'.le z) U')/\(late i=true->∀U',G U'->QL S o w (λ P F=>P=ZW val x v i/\∃z,Q1 F z/\U'.le z) U')))):=by
 have N:=Py I h.split;refine⟨h.av.val λ j B=>Hj (λ e=>N (e▸B)),h.ac.val λ j B=>Hj (λ e=>N (e▸h.sub j B)),λ i K W=>?_⟩;obtain⟨o,w,p,Q,X,H,V⟩:=h.pend i K W;have L:i≠x:=λ e=>N (e▸K);refine⟨o,w,p,Q,X,H.val λ j B=>Hj λ e=>?_,by rw[Hj L];exact V⟩;subst e;obtain⟨p',f⟩:=mem_iff_getElem?.1 B;rw[getElem?_take]at f;split at f
 .rename_i hlt;have Y:=HL I (WX (ts:=ts) f) (WX (Xh h.split).2);obtain⟨T,E⟩:=mem_iff_getElem?.1 K;have M:T<pre.length:=(List.getElem?_eq_some_iff.1 E).1;have Z:=HL I (WX (ts:=ts) Q) (WX (ts:=ts) (p:=T) (i:=i) (by rw[h.split,getElem?_append_left M];exact E));omega
 .cases f
def Inv.adv(K:Jz ops rl qs ts){x:Nat}{rest:List Nat}(h:Inv S ops rl qs late G U₀ a_0 Fin listed ac U pre (x::rest) C av val){v:Value}{o:Oper}(L:ops[x]?=some o)(H:x∉rl)
  (N:ZX S ops rl (JD ops) late G U₀ Fin rest C (av.put o.dst v))
  (B:(Region.wanted o (yielded ops av.tmps)=false/\v=undef)\/(Region.wanted o (yielded ops av.tmps)=true/\(∀U',U₀.le U'->C U'->QL S o av (λ I F=>I=v/\∃z,Q1 F z/\U'.le z) U')/\(late x=true->∀U',G U'->QL S o av (λ I F=>I=v/\∃z,Q1 F z/\U'.le z) U'))) :
  Inv S ops rl qs late G U₀ a_0 Fin listed ac U (pre++[x]) rest C (av.put o.dst v) (ZW val x v):=by
 obtain⟨M,n2,T⟩:=h.note K v;have w:=Jp.put K M L;rw[HG]at w;refine⟨by rw[h.split];simp,N,h.mono,h.base,h.c,?_,n2,λ i f=>mem_append_left _ (h.sub i f),h.size,h.down,?_,?_⟩
 .have e:(λ j=>j∈pre\/j=x)=(·∈pre++[x]):=by funext j;simp
  rw[<- e];exact w
 .intro i f hr;rcases mem_append.1 f with f|f
  .exact h.rels i f hr
  .simp at f;subst f;exact absurd hr H
 .intro i f hl;rcases mem_append.1 f with f|f
  .exact T i f hl
  .simp at f;subst f;refine⟨o,av,pre.length,(Xh h.split).2,L,by rw[(Xh h.split).1];exact M,?_⟩;rw[HG];rcases B with B|⟨Q,B,P⟩
   .exact .inl B
   .exact .inr ⟨Q,λ U' E=>B U' (h.base.trans E) (h.mono _ _ h.c E),P⟩
def P6(E:Jz ops rl qs ts)(down:∀i,Li listed i->∀j∈W1 ops i,Li listed j){p i:Nat}(G:qs[p]?=some i)(H:¬Li listed i)(L:∀j∈W1 ops i,Li listed j)
  {s j:Nat} (M:s∈looks ops i) (I:WI ops j=some s):Li listed j↔j∈qs.take p:=by
 have z:=WX (ts:=ts) G;have K:=(List.getElem?_eq_some_iff.1 G).1;by_cases e:i=j
 .subst e;refine⟨λ h=>absurd h H,λ h=>?_⟩;obtain⟨p',f⟩:=mem_iff_getElem?.1 h;rw[getElem?_take]at f;split at f
  .have:=HL E (WX (ts:=ts) f) z;omega
  .cases f
 .rcases E.look i (mem_of_getElem? G) j s e I M with B|B
  .have h1:=Wb down B L;have F:=SR E B p z;rw[take_append_of_le_length O1]at F;exact⟨λ _=>F,λ _=>h1⟩
  .refine⟨λ h=>absurd (Si down B h) H,λ h=>?_⟩;obtain⟨p',f⟩:=mem_iff_getElem?.1 h;rw[getElem?_take]at f;split at f
   .have F:=SR E B p' (WX (ts:=ts) f);obtain⟨N,w⟩:=mem_iff_getElem?.1 F;rw[getElem?_take]at w;split at w
    .have:=HL E w z;omega
    .cases w
   .cases f
def Inv.reach(H:Jz ops rl qs ts){i:Nat}(f:i∈qs)(Z:∀j∈W1 ops i,Li listed j) :
  ∀(L pre:List Nat)(C:Qa T->Prop)(av:Act)(val:Nat->Value),Inv S ops rl qs late G U₀ a_0 Fin listed ac U pre L C av val ->
   ∃w Q W I E,Inv S ops rl qs late G U₀ a_0 Fin listed ac U w Q W I E/\(i∈w\/∃rest,Q=i::rest/\i∈rl):=by
 intro L
 induction L with
 |nil=>
  intro pre C av val h;exact⟨pre,[],C,av,val,h,.inl (by have:=h.split;simp at this;exact this▸f)⟩
 |cons x rest V=>
  intro pre C av val h;by_cases z:x∈rl
  .by_cases e:x=i
   .subst e;exact⟨pre,_,C,av,val,h,.inr ⟨rest,rfl,z⟩⟩
   .by_cases hpre:i∈pre
    .exact⟨pre,_,C,av,val,h,.inl hpre⟩
    .exfalso
     have B:i∈rest:=by
      rw[h.split]at f;simp at f;rcases f with f|f|f
      .exact absurd f hpre
      .exact absurd f.symm e
      .exact f
     have X:JD ops x i:=by
      refine H.behind pre.length x (Xh h.split).2 z i ?_;rw[h.split];simp[B]
     exact Py H h.split (h.sub x (Wb h.down X Z))
  .have hder:=h.der;cases hder with
   |un _ M P K=>exact V _ _ _ _ (h.adv H M z K (.inl ⟨P,rfl⟩))
   |det v _ M P N Y K=>exact V _ _ _ _ (h.adv H M z K (.inr ⟨P,N,Y⟩))
   |rel F B=>exact absurd B z
   |last B=>exact absurd B z
def Pm{o:Oper}{a:Act}{K:Value->Qa T->Prop}{e:Act->Qa T->Prop}(h:QL S o a K U)(f:∀v U,K v U->e (a.put o.dst v) U):HA S ro o a e U:=
 QL.opV (h.mono f)
def Pl{o:Oper}{a:Act}{K:Value->Qa T->Prop}(h:QL S o a K U):∀c,o.op≠.defer c:=by
 intro c e;unfold QL at h;simp only[execOp,e]at h;have B:=(Ya (P:=P) (resolve a.eval c o.type) (λ d=>(pure (.defer d):Sem Next))).1 h;have w:Qw P (resolve a.eval c o.type) (λ _ _=>False) U:=Qw.mono _ B λ d U E=>E;obtain⟨callee,args,z⟩:=c;cases callee with
 |value f=>cases F:a.eval f <;> simp[resolve,Deferred.ofValue,F,Qw,pure,stuck]at w
 |invoke r G=>simp[resolve,Qw,pure]at w
 |builtin bb=>simp[resolve,Qw,pure]at w
def VM{k t:Nat}{listed:Array Bool}(h:Region.ready .any ops listed≠[]):∃i∈Region.ready .any ops listed,∃w,Region.linearise.go .any ops (k+1) t listed []=i::Region.linearise.go .any ops k w (listed.setIfInBounds i true) []:=by
 have e:t % (Region.ready .any ops listed).length<(Region.ready .any ops listed).length:=Nat.mod_lt _ (length_pos_iff.2 h);refine⟨(Region.ready .any ops listed)[t % (Region.ready .any ops listed).length],getElem_mem _,t / (Region.ready .any ops listed).length,?_⟩;have f:(Region.ready .any ops listed)[t % (Region.ready .any ops listed).length]?=some (Region.ready .any ops listed)[t % (Region.ready .any ops listed).length]:=getElem?_eq_getElem e;simp only[Region.linearise.go]
 change(match(Region.ready .any ops listed)[t % (Region.ready .any ops listed).length]? with
   |some i=>Region.linearise.go .any ops k (t / (Region.ready .any ops listed).length) (listed.setIfInBounds i true) [i]
   |none=>[].reverse)=_
 rw[f];simp only[];rw[linearise_go_acc,reverse_singleton,singleton_append]
def Vn(f:Jz ops rl qs ts){listed:Array Bool}(I:listed.size=ops.size):∀(p i:Nat),(qs++ts)[p]?=some i->¬Li listed i->∃x,x∈Region.ready .any ops listed:=by
 intro p
 induction p using Nat.strongRecOn with
 |ind p K=>
  intro i E G;by_cases F:∀j∈W1 ops i,Li listed j
  .refine⟨i,J6.2 ⟨(f.mem i).2 (mem_of_getElem? E),?_,F⟩⟩;have B:i<listed.size:=by rw[I];exact(f.mem i).2 (mem_of_getElem? E)
   simp only[Li,Array.getD_eq_getD_getElem?,Array.getElem?_eq_getElem B,Option.getD_some,Bool.not_eq_true]at G ⊢;exact G
  .obtain⟨j,w,z⟩:∃j∈W1 ops i,¬Li listed j:=by
    apply Classical.byContradiction;intro H;exact F λ j w=>Classical.byContradiction λ z=>H ⟨j,w,z⟩
   obtain⟨p',e⟩:=mem_iff_getElem?.1 (f.order p i E j w);rw[getElem?_take]at e;split at e
   .exact K p' (by assumption) j e z
   .cases e
def VO{listed:Array Bool}{i:Nat}(h:i∈Region.ready .any ops listed):¬Li listed i:=by
 have:=(J6.1 h).2.1;simp only[Li,Array.getD_eq_getD_getElem?]at this ⊢;cases e:listed[i]? <;> simp_all
def I9(w:Jz ops rl qs ts){listed:Array Bool}{p:Nat}(B:∀i,Li listed i↔i∈(qs++ts).take p):∀i,Li listed i->∀j∈W1 ops i,Li listed j:=by
 intro i f j z;rw[B]at f ⊢;obtain⟨E,e⟩:=mem_iff_getElem?.1 f;rw[getElem?_take]at e;split at e
 .have:=w.order E i e j z;exact take_subset_take_left _ O1 this
 .cases e
def Th(z:Jz ops rl qs ts):∀(q:Nat)(p t:Nat)(listed:Array Bool),p+q=ts.length->listed.size=ops.size->(∀i,Li listed i↔i∈(qs++ts).take (qs.length+p)) ->
  Region.linearise.go .any ops q t listed []=ts.drop p:=by
 intro q
 induction q with
 |zero=>intro p t listed S _ _;simp[Region.linearise.go,drop_of_length_le (show ts.length<=p by omega)]
 |succ q W=>
  intro p t listed S N H;have B:p<ts.length:=O1
  have U:ts[p]?=some ts[p]:=getElem?_eq_getElem B;have f:(qs++ts)[qs.length+p]?=some ts[p]:=by rw[getElem?_append_right O1];simp
  have E:¬Li listed ts[p]:=by
   rw[H];intro h;obtain⟨F,e⟩:=mem_iff_getElem?.1 h;rw[getElem?_take]at e;split at e
   .have:=HL z e f;omega
   .cases e
  obtain⟨y,V⟩:=Vn z N _ _ f E;obtain⟨i,G,X,I⟩:=VM (k:=q) (t:=t) (ne_nil_of_mem V);have w:=I9 z H
  have K:i=ts[p]:=by
   have L:=VO G;have T:=(J6.1 G).2.2;have Q:=(z.mem i).1 (J6.1 G).1;obtain⟨F,e⟩:=mem_iff_getElem?.1 Q;by_cases P:F<qs.length+p
   .exfalso;apply L;rw[H];exact mem_iff_getElem?.2 ⟨F,by rw[getElem?_take,if_pos P];exact e⟩
   .by_cases h2:F=qs.length+p
    .subst h2;rw[f]at e;cases e;rfl
    .exfalso;have M:ts[F-qs.length]?=some i:=by rw[getElem?_append_right O1]at e;exact e
     refine E (Wb w (z.tail _ i M ts[p] ?_) T);refine mem_append_right _ (mem_iff_getElem?.2 ⟨p,?_⟩);rw[getElem?_take,if_pos O1];exact U
  subst K;rw[I,W (p+1) X _ O1 (by simpa using N),drop_eq_getElem_cons B];intro j;rw[Ka (by rw[N];exact(J6.1 G).1),H]
  have:(qs++ts).take (qs.length+(p+1))=(qs++ts).take (qs.length+p)++[ts[p]]:=by
   rw[<- Nat.add_assoc,take_add_one,f];rfl
  rw[this];simp
def Jp.eq{val:Nat->Value}{D e:Nat->Prop}{a_0 a a':Act}(h:Jp ops val D a_0 a)(f:Jp ops val e a_0 a')(F:∀j,D j↔e j):a=a':=by
 obtain⟨G,w⟩:=a;obtain⟨H,z⟩:=a';have B:w=z:=h.defers.trans f.defers.symm
 have E:G=H:=by
  apply Array.ext_getElem?;intro s;exact h.slot f (s:=s) λ j _=>F j
 rw[B,E]
def Nc(X:Jz ops rl qs ts){Q:Ex->Act->Qa T->Prop}:∀(r t:Nat)(listed:Array Bool)(ac:Act)(U:Qa T)(pre L:List Nat)(C:Qa T->Prop)(av:Act)(val:Nat->Value),
  Inv S ops rl qs late G U₀ a_0 (λ a U=>J7 S fn ro ops ts Q a U) listed ac U pre L C av val->(qs.filter λ i=>!listed.getD i false).length=r ->
  J7 S fn ro ops (Region.linearise.go .any ops (r+ts.length) t listed []) Q ac U:=by
 intro r
 induction r generalizing U₀ with
 |zero=>
  intro t listed ac U pre L C av val h hr
  have ae:∀i∈qs,Li listed i:=by
   intro i hi;have:=filter_eq_nil_iff.1 (length_eq_zero_iff.1 hr) i hi;simpa[Li]using this
  have hL:L=[]:=by
   cases L with
   |nil=>rfl
   |cons x rest=>exact absurd (h.sub x (ae x (by rw[h.split];simp))) (Py X h.split)
  subst hL;have Y:pre=qs:=by have:=h.split;simp at this;exact this.symm
  subst Y;have ag:=h.der;cases ag with
  |nil ah=>
   have e:av=ac:=h.av.eq h.ac λ j=>⟨ae j,h.sub j⟩;have:=ah U h.base h.c;rw[e]at this;rw[Nat.zero_add,Th X ts.length 0 t listed O1 h.size λ i=>?_]
   .simpa using this
   .rw[Nat.add_zero,take_left']
    .exact⟨h.sub i,ae i⟩
    .rfl
 |succ r ih=>
  intro t listed ac U pre L C av val h hr;obtain⟨q,hq⟩:∃q,q∈qs.filter λ i=>!listed.getD i false:=exists_mem_of_length_pos O1;have ay:=(mem_filter.1 hq).1;have ax:¬Li listed q:=by have:=(mem_filter.1 hq).2;simpa[Li]using this
  obtain⟨pq,a3⟩:=mem_iff_getElem?.1 ay;obtain⟨y,hy⟩:=Vn X h.size _ _ (WX (ts:=ts) a3) ax;obtain⟨i,hi,t',a0⟩:=VM (k:=r+ts.length) (t:=t) (ne_nil_of_mem hy);have ak:=VO hi;have M:=(J6.1 hi).2.2;have aw:=(J6.1 hi).1
  have au:i∈qs:=by
   rcases mem_append.1 ((X.mem i).1 aw)with hm|hm
   .exact hm
   .obtain⟨p1,hp1⟩:=mem_iff_getElem?.1 hm;exact absurd (Wb h.down (X.tail p1 i hp1 q (mem_append_left _ ay)) M) ax
  rw[show r+1+ts.length=(r+ts.length)+1 by omega,a0];have E:∀j,Li (listed.setIfInBounds i true) j↔Li listed j\/j=i:=λ j=>Ka (by rw[h.size];exact aw)
  have I:(qs.filter λ x=>!(listed.setIfInBounds i true).getD x false).length=r:=by
   have a2:=(nodup_append.1 X.nodup).1
   have e:(qs.filter λ x=>!(listed.setIfInBounds i true).getD x false)=(qs.filter λ x=>!listed.getD x false).filter (λ x=>x != i):=by
    rw[filter_filter];refine filter_congr λ x _=>?_;have:=E x;simp only[Li]at this;cases hx:(listed.setIfInBounds i true).getD x false <;> cases a4:listed.getD x false <;> by_cases e:x=i <;> simp_all
   rw[e,<- Nodup.erase_eq_filter (a2.filter _),length_erase_of_mem (mem_filter.2 ⟨au,by simpa[Li]using ak⟩),hr];rfl
  obtain⟨H,L',C',ab,aa,w,am⟩:=h.reach X au M
  have P:∀j,Li (listed.setIfInBounds i true) j->∀k∈W1 ops j,Li (listed.setIfInBounds i true) k:=by
   intro j f k hk;rw[E]at f ⊢;rcases f with f|rfl
   .exact .inl (h.down j f k hk)
   .exact .inl (M k hk)
  have W:∀{val:Nat->Value}{o:Oper},ops[i]?=some o->Jp ops val (Li listed) a_0 ac->Jp ops val (Li (listed.setIfInBounds i true)) a_0 (ac.put o.dst (val i)):=by
   intro val o V ha;have:=Jp.put X ha V;have e:Li (listed.setIfInBounds i true)=λ j=>Li listed j\/j=i:=by funext j;exact propext (E j)
   rw[e];exact this
  by_cases Y:i∈H
  ·
   obtain⟨o,ai,p,hp,V,az,hh⟩:=w.pend i Y ak;have B:=PD V (X.nosel i o V) (a:=ac) (a':=ai) λ s hs=>w.ac.slot az λ j f=>P6 X w.down hp ak M hs f
   have next:∀N,U.le N->Inv S ops rl qs late G U₀ a_0 (λ a U=>J7 S fn ro ops ts Q a U) (listed.setIfInBounds i true) (ac.put o.dst (aa i)) N H L' C' ab aa:=λ N K=>
    ⟨w.split,w.der,w.mono,w.base.trans K,w.mono _ _ w.c K,w.av,W V w.ac,λ j f=>((E j).1 f).elim (w.sub j) (λ e=>e▸Y),by simpa using w.size,P,λ j f hr=>(E j).2 (.inl (w.rels j f hr)),
     λ j f hl=>by
      obtain⟨o,ai,p,a,b,c,d⟩:=w.pend j f λ hx=>hl ((E j).2 (.inl hx));exact⟨o,ai,p,a,b,c,d.imp id λ⟨x,y,z⟩=>⟨x,λ U' hU=>y U' (K.trans hU),z⟩⟩⟩
   rcases hh with⟨hw,hv⟩|⟨hw,al,hg⟩
   .refine We V (by rw[B.2];exact hw) ?_;have:=ih t' _ _ _ _ _ _ _ _ (next U (.refl U)) I;rw[hv]at this;exact this
   .have Z:QL S o ac (λ v' U2=>v'=aa i/\∃N,Q1 U2 N/\U.le N) U:=by have:=al U (.refl U);unfold QL at this ⊢;rw[B.1];exact this
    refine Xi V (by rw[B.2];exact hw) (.inr (Pl Z)) (Pm Z λ v U2 hv=>?_);obtain⟨rfl,N,hs,K⟩:=hv;exact Gs hs (ih t' _ _ _ _ _ _ _ _ (next N K) I)
  .obtain⟨rest,rfl,hrl⟩:=am.resolve_left Y;have ag:=w.der;cases ag with
   |un hx _ _ _=>exact absurd hrl hx
   |det _ hx _ _ _ _ _=>exact absurd hrl hx
   |@rel _ _ _ _ o F _ hF V hw al hd=>
    obtain⟨ao,aj⟩:=Xh w.split
    have B:=PD V (X.nosel i o V) (a:=ac) (a':=ab) λ s hs=>w.ac.slot w.av λ j f=>by
     have:=P6 X w.down aj ak M hs f;rw[ao]at this;exact this
    have Z:QL S o ac (λ v' U2=>∃N,Q1 U2 N/\F v' N/\U.le N) U:=by have:=al U w.base w.c;unfold QL at this ⊢;rw[B.1];exact this
    refine Xi V (by rw[B.2];exact hw) (.inr (Pl Z)) (Pm Z λ v U2 hv=>?_);obtain⟨N,hs,ap,K⟩:=hv;refine Gs hs ?_;obtain⟨n1,n2,n3⟩:=w.note X v;have af:=Jp.put X n1 V;have ad:=W V n2;rw[HG]at af ad;refine ih t' _ _ N (H++[i]) rest (λ U'=>C' U'/\F v U') (ab.put o.dst v) (ZW aa i v) ⟨by rw[w.split];simp,hd v ⟨N,w.base.trans K,w.mono _ _ w.c K,ap⟩,λ a b⟨x,y⟩hl=>⟨w.mono a b x hl,hF v a b y hl⟩,w.base.trans K,⟨w.mono _ _ w.c K,ap⟩,?_,ad,?_,by simpa using w.size,P,?_,?_⟩ I
    .have e:(λ j=>j∈H\/j=i)=(·∈H++[i]):=by funext j;simp
     rw[<- e];exact af
    .intro j f;rcases(E j).1 f with f|rfl
     .exact mem_append_left _ (w.sub j f)
     .simp
    .intro j f hr;rw[E];rcases mem_append.1 f with f|f
     .exact .inl (w.rels j f hr)
     .exact .inr (by simpa using f)
    .intro j f hl;rcases mem_append.1 f with f|f
     .obtain⟨o,ai,p,a,b,c,d⟩:=n3 j f λ hx=>hl ((E j).2 (.inl hx));exact⟨o,ai,p,a,b,c,d.imp id λ⟨x,y,z⟩=>⟨x,λ U' hU=>y U' (K.trans hU),z⟩⟩
     .exact absurd ((E j).2 (.inr (by simpa using f))) hl
   |@last _ _ _ o _ hG an V hw al ah=>
    obtain⟨ao,aj⟩:=Xh w.split
    have B:=PD V (X.nosel i o V) (a:=ac) (a':=ab) λ s hs=>w.ac.slot w.av λ j f=>by
     have:=P6 X w.down aj ak M hs f;rw[ao]at this;exact this
    have Z:QL S o ac (λ v' U2=>v'=undef/\∃N,Q1 U2 N/\G N) U:=by have:=al U w.base w.c;unfold QL at this ⊢;rw[B.1];exact this
    refine Xi V (by rw[B.2];exact hw) (.inr (Pl Z)) (Pm Z λ v U2 hv=>?_);obtain⟨rfl,N,hs,aq⟩:=hv;refine Gs hs ?_;obtain⟨n1,n2,n3⟩:=w.note X undef;have af:=Jp.put X n1 V;have ad:=W V n2;rw[HG]at af ad;refine ih (U₀:=N) t' _ _ N (H++[i]) [] G (ab.put o.dst undef) (ZW aa i undef) ⟨by rw[w.split];simp,.nil λ U' _ hg=>ah ⟨U,w.base,w.c⟩ U' hg,hG,.refl N,aq,?_,ad,?_,by simpa using w.size,P,?_,?_⟩ I
    .have e:(λ j=>j∈H\/j=i)=(·∈H++[i]):=by funext j;simp
     rw[<- e];exact af
    .intro j f;rcases(E j).1 f with f|rfl
     .exact mem_append_left _ (w.sub j f)
     .simp
    .intro j f hr;rw[E];rcases mem_append.1 f with f|f
     .exact .inl (w.rels j f hr)
     .exact .inr (by simpa using f)
    .intro j f hl;rcases mem_append.1 f with f|f
     .have hnj:¬Li listed j:=λ hx=>hl ((E j).2 (.inl hx));obtain⟨o,ai,p,a,b,c,d⟩:=n3 j f hnj;refine⟨o,ai,p,a,b,c,d.imp id λ⟨x,y,z⟩=>?_⟩
      have a1:late j=true:=by
       cases hb:late j with
       |true=>rfl
       |false=>exact absurd (Wb h.down (an j hb) M) hnj
      exact⟨x,λ U' hU=>z a1 U' (hG _ _ aq hU),z⟩
     .exact absurd ((E j).2 (.inr (by simpa using f))) hl
end sound
def Eo{late:Nat->Bool}{G:Qa T->Prop}{Q:Ex->Act->Qa T->Prop}{a:Act}{U:Qa T}{id:Nat}{ops:Array Oper}(rl qs ts:List Nat)(F:P.follows .mixedOrders=true)(z:PG ops rl qs ts=true)
  (h:ZX S ops rl (JD ops) late G U (λ a U=>J7 S fn ro ops ts Q a U) qs (λ _=>True) a):Zu S fn ro (.region id ops true) Q a U:=by
 have w:=Ug z;refine OY λ t=>?_;simp only[Region.schedule,F,Bool.true_or,if_true,Region.linearise]
 have E:(qs.filter λ i=>!(Array.replicate ops.size false).getD i false).length=qs.length:=by
  congr 1;rw[filter_eq_self];intro x _;simp[Array.getElem?_replicate];split <;> rfl
 have f:ops.size=qs.length+ts.length:=by
  have B:(qs++ts).Perm (range ops.size):=by
   refine(perm_ext_iff_of_nodup w.nodup nodup_range).2 λ x=>?_;rw[mem_range];exact(w.mem x).symm
  have:=B.length_eq;simp at this;omega
 have e:∀i,¬Li (Array.replicate ops.size false) i:=by
  intro i h;simp only[Li,Array.getD_eq_getD_getElem?,Array.getElem?_replicate]at h;split at h <;> simp at h
 have:=Nc (S:=S) (fn:=fn) (ro:=ro) (Q:=Q) w qs.length t (Array.replicate ops.size false) a U [] qs (λ _=>True) a (λ _=>undef)
  ⟨rfl,h,λ _ _ _ _=>trivial,.refl U,trivial,⟨rfl,rfl,λ _ _ _ h=>by simp at h,λ _ _=>rfl⟩,⟨rfl,rfl,λ _ j _ h=>absurd h (e j),λ _ _=>rfl⟩,λ i h=>absurd h (e i),S1,λ i h=>absurd h (e i),S1,S1⟩ E
 rw[<- f]at this;exact this
end Go.TM
namespace Go.TM
variable{T:Type}{P:Program}{S:Sys P T}{fn:FuncId}{ro:Option Nat}{Stop:QK T}{m:Bool}
def J.body{b:Frame}{a:Act}{c:Code}{cs:List Frame}{U:Qa T}{Q:Ex->Act->Qa T->Prop}(z:Fr fn none b)(h:Zu S fn none c Q a U)
  (F:∀e a' U',Q e a' U'->(e=.normal\/e=.ret)/\∀todo,J S Stop m (Rf { fr b a' todo with mode:=.returning } cs) U'):J S Stop m (R b a [.code c] cs) U:=by
 refine h Stop m b [] cs z λ e a' U' q=>?_;obtain⟨E,B⟩:=F e a' U' q;have f:=z.2.1;rcases E with rfl|rfl
 .refine .still (g':=Rf { fr b a' []with mode:=.returning } cs) rfl (λ w=>?_) (B []);simp[R,Rf,stepG,stepG.exec,fr,f]
 .simp only[XC,XD,f];exact⟨.inr trivial,B⟩
def X5(P:Program)(f:Func)(Q:Value->Qa T->Prop)(tmps:Array Value):List Deferred->Qa T->Prop
 |[],U=>Qw P (results f tmps) Q U
 |{ target:=.collected blk,.. }::ds,U=>Qw P (Instr.takeDeferred blk) (λ e U'=>e=[]/\X5 P f Q tmps ds U') U
 |_,_=>False
def X5.step{f:Func}{Q:Value->Qa T->Prop}{b:Frame}{tmps:Array Value}{c:Frame}{cs:List Frame}(G:P.funcs[b.fn]?=some f)(z:b.kind=.normal\/b.kind=.wrapped)(H:∀v U',Q v U'->J S Stop m (Rf (c.finish v) cs) U') :
  ∀(ds:List Deferred)(todo:List Item)(U:Qa T),X5 P f Q tmps ds U->J S Stop m (Rf { fr b ⟨tmps,ds⟩ todo with mode:=.returning } (c::cs)) U:=by
 intro ds
 induction ds with
 |nil=>
  intro todo U h;refine .sem _ rfl h λ w x w' es e _=>⟨Rf (c.finish x) cs,seen P b.fn es,?_,Jk P _ es,λ U' q=>H _ _ q⟩;obtain⟨E,B⟩:Sem.run P (results f tmps) w=.ok x w'/\Sem.events P (results f tmps) w #[]=es:=by simpa using e
  rcases z with z|z <;> simp[Rf,stepG,unwind,fr,G,E,B,doReturn,z,GStep.after]
 |cons d ds I=>
  intro todo U h;obtain⟨K,args⟩:=d;cases K with
  |collected blk=>
   simp only[X5]at h;refine .sem _ rfl h λ w x w' es e F=>⟨Rf { fr b ⟨tmps,x++ds⟩ todo with mode:=.returning } (c::cs),seen P b.fn es,?_,Jk P _ es,λ U' q=>?_⟩
   .obtain⟨E,B⟩:Sem.run P (Instr.takeDeferred blk) w=.ok x w'/\Sem.events P (Instr.takeDeferred blk) w #[]=es:=by simpa using e
    simp[Rf,stepG,unwind,fr,E,B,GStep.after]
   .obtain⟨rfl,q⟩:=q;exact I todo U' q
  |_=>exact h.elim
def Kw(P:Program)(f:Func)(Q:Value->Qa T->Prop):Ex->Act->Qa T->Prop
 |.normal,a,U=>X5 P f Q a.tmps a.defers U
 |.ret,a,U=>X5 P f Q a.tmps a.defers U
 |.exit _,_,_=>False
def Qb.of_body{f:FuncId}{fd:Func}{c:Code}{args:Array Value}{U:Qa T}{Q:Value->Qa T->Prop}(B:P.funcs[f]?=some fd)(F:fd.body=some c)
  (h:Zu S f none c (Kw P fd Q) { tmps:=args++Array.replicate (fd.ntmps-args.size) undef,defers:=[] } U):Qb S f args Q U:=by
 intro Stop m w cs E
 let b:Frame:={ (default:Frame)with fn:=f,kind:=.normal }
 have z:Rf (Frame.enter P f args .normal) (w::cs)=R b { tmps:=args++Array.replicate (fd.ntmps-args.size) undef,defers:=[] } [.code c] (w::cs):=by
  simp[Rf,R,Frame.enter,fr,B,F,b];rfl
 rw[z];refine J.body (fn:=f) ⟨rfl,rfl,by simp[b],S1⟩ h λ e a' U' q=>?_;cases e with
 |normal=>exact⟨.inl rfl,λ todo=>X5.step B (.inl rfl) E a'.defers todo U' q⟩
 |ret=>exact⟨.inr rfl,λ todo=>X5.step B (.inl rfl) E a'.defers todo U' q⟩
 |exit id=>exact q.elim
def Ol:Ex->Option Code
 |.normal=>none
 |.ret=>some .ret
 |.exit id=>some (.exit id)
def TG(P:Program)(l:Nat)(Q:Value->Qa T->Prop)(e:Ex)(_:Act)(U:Qa T):Prop:=Qw P (Instr.endRound l (Ol e)) Q U
def WE.of_body{l:Nat}{f:FuncId}{tmps:Array Value}{assign body:Code}{U:Qa T}{Q:Value->Qa T->Prop}
  (h:Zu S f (some l) assign (λ e a' U'=>e=.normal/\Qw P (Instr.beginRound l) (λ _ F=>Zu S f (some l) body (TG P l Q) a' F) U') ⟨tmps,[]⟩ U):WE S l f tmps assign body Q U:=by
 intro Stop m c cs V
 let b:Frame:={ (default:Frame)with fn:=f,kind:=.normal,roundOf:=some l }
 have K:Fr f (some l) b:=⟨rfl,rfl,by simp[b],by simp[b]⟩;have E:b.roundOf=some l:=rfl
 have B:Rf (Frame.round l f tmps assign body .normal) (c::cs)=R b ⟨tmps,[]⟩ [.code assign,.beginRound,.code body] (c::cs):=by
  simp[Rf,R,Frame.round,fr,b]
 rw[B];refine h Stop m b [.beginRound,.code body] (c::cs) K λ e a' U' q=>?_;obtain⟨rfl,q⟩:=q;show J S Stop m (R b a' [.beginRound,.code body] (c::cs)) U'
 have q':Qw P (do Instr.beginRound l;pure Next.skip:Sem Next) (λ n F=>n=.skip/\Zu S f (some l) body (TG P l Q) a' F) U':=
  (Ya _ _).2 (Qw.mono _ q λ _ _ h=>⟨rfl,h⟩)
 refine .sem _ rfl q' λ w x w' es z H=>⟨R b a' [.code body] (c::cs),seen P f es,?_,Jk P _ es,λ F q=>?_⟩
 .obtain⟨_,rfl,_⟩:=H;have I:(b.kind==CallKind.early)=false:=rfl;show stepG.apply P true (fr b a' [.beginRound,.code body]) (c::cs) none (do (Instr.beginRound l);pure .skip) w=_;simp only[stepG.apply,if_true,z];simp[fr,I,GStep.after,R,Frame.finish,b]
 .obtain⟨_,q⟩:=q;refine q Stop m b [] (c::cs) K λ e G L q=>?_
  have leave:XD S Stop m b (c::cs) (Ol e) G L:=by
   simp only[XD,E];exact⟨c,cs,rfl,Qw.mono _ q λ v M Y=>V v M Y⟩
  cases e with
  |normal=>
   simp only[XD,E,Ol]at leave;obtain⟨Z,rest,e,X⟩:=leave;cases e;refine .sem _ rfl X λ w x w' es z _=>⟨Rf (c.finish x) cs,seen P f es,?_,Jk P _ es,λ _ h=>h⟩;obtain⟨W,N⟩:Sem.run P (Instr.endRound l none) w=.ok x w'/\Sem.events P (Instr.endRound l none) w #[]=es:=by simpa using z
   simp[R,stepG,stepG.exec,fr,b,W,N,doReturn,GStep.after,Rf]
  |exit id=>exact .inr ⟨rfl,leave⟩
  |ret=>exact leave
def VK(f:Operand)(l:Nat):Call:={ callee:=.value f,args:=#[.const (.func (.yield l) #[] #[])],argTypes:=#[] }
def Aq{Q:Ex->Act->Qa T->Prop}{a:Act}{U:Qa T}{f:Operand}{params:Array Tmp}{assign body:Code}
  (h:Qw P (Instr.enterLoop fn a.tmps params assign body ro) (λ lm U1=>
   Qw P (do let d <- resolve a.eval (VK f lm.1) 0;invoke d.target d.args:Sem Next) (λ nx U2=>match nx with
    |.enter f' args=>Qb S f' args (λ _ U3=>Qw P (Instr.endLoop lm.1) (λ j U4=>match j with
      |none=>Q .normal { a with defers:=lm.2++a.defers } U4
      |some c=>Zu S fn ro c Q { a with defers:=lm.2++a.defers } U4) U3) U2
    |_=>False) U1) U):Zu S fn ro (.rangeFunc f params assign body) Q a U:=by
 intro Stop m b k cs hb hc;have ac:(b.kind==CallKind.early)=false:=by simpa using hb.2.2.1
 refine .priv ⟨rfl,λ w ok=>?_⟩;obtain⟨⟨l,mark⟩,aa,H,U1,N,B,F,Z,h,X⟩:=Qw.sound _ (es₀:=#[]) h ok;obtain⟨nx,ab,I,U2,V,E,G,ad,h,Y⟩:=Qw.sound _ (es₀:=#[]) h Z;have L:(Instr.enterLoop b.fn a.tmps params assign body b.roundOf).runT P w #[]=(.ok (l,mark) aa,H):=by rw[hb.1,hb.2.1];simpa using N
 have M:(do let d <- resolve a.eval (VK f l) 0;invoke d.target d.args:Sem Next).runT P aa #[]=(.ok nx ab,I):=by simpa using V
 cases nx with
 |enter f' args=>
  refine⟨Rf (Frame.enter P f' args .normal) (fr b { a with defers:=mark++a.defers } (.inRangeFunc l::k)::cs),ab,seen P b.fn H++seen P b.fn I,U2,?_,?_,F.trans G,ad,Y.trans X,?_⟩
  .have z:(fr b { a with defers:=mark++a.defers } (.inRangeFunc l::k)).eval=a.eval:=by rw[PC];rfl
   show GStep.after (seen P b.fn ((Instr.enterLoop b.fn a.tmps params assign body b.roundOf).runT P w #[]).2) (match((Instr.enterLoop b.fn a.tmps params assign body b.roundOf).runT P w #[]).1 with
    |.ok (l,mark) w=>stepG.apply P true (fr b { a with defers:=mark++a.defers } (.inRangeFunc l::k)) cs none (do let d <- resolve (fr b { a with defers:=mark++a.defers } (.inRangeFunc l::k)).eval (VK f l) 0;invoke d.target d.args) w
    |.halt _ w=>_)=_
   rw[L];simp only[z];simp only[stepG.apply,if_true,M];simp[fr,ac,GStep.after,Rf]
  .intro e z;rcases Array.mem_append.1 z with z|z
   .exact⟨(B e (Jk P _ _ e z)).1,(B e (Jk P _ _ e z)).2.mono G.size⟩
   .exact⟨J_.of F (E e (Jk P _ _ e z)).1,(E e (Jk P _ _ e z)).2⟩
  .refine h Stop m _ cs λ v U3 h=>?_;have K:(fr b { a with defers:=mark++a.defers } (.inRangeFunc l::k)).finish v=fr b { a with defers:=mark++a.defers } (.endRangeFunc l::k):=by simp[Frame.finish,fr]
   rw[K];refine .sem (g:=R b { a with defers:=mark++a.defers } (.endRangeFunc l::k) cs) _ rfl h λ w j w' es W _=>⟨R b { a with defers:=mark++a.defers } ((j.map Item.code).toList++k) cs,seen P b.fn es,?_,Jk P _ es,λ U4 q=>?_⟩
   .obtain⟨hr,z⟩:Sem.run P (Instr.endLoop l) w=.ok j w'/\Sem.events P (Instr.endLoop l) w #[]=es:=by simpa using W
    simp[R,stepG,stepG.exec,fr,hr,z,GStep.after]
   .cases j with
    |none=>exact hc _ _ _ q
    |some c=>exact q Stop m b k cs hb hc
 |_=>exact h.elim
end Go.TM
namespace Go.TM
variable{T:Type}{P:Program}{S:Sys P T}
def JS(U:Qa T):Prop:=∀r∈U.M,U.I r.blk=none
def Qb.sep{f:FuncId}{args:Array Value}{R R':Value->Qa T->Prop}{U:Qa T}(h:Qb S f args R U)(z:∀v U',JS U'->R v U'->∃U'',Q1 U' U''/\R' v U''):Qb S f args R' U:=by
 intro Stop m c cs k;refine h Stop m c cs λ v U' r=>?_;by_cases e:JS U'
 .obtain⟨U'',h1,h2⟩:=z v U' e r;exact .shift h1 (k v _ h2)
 .exact .priv ⟨rfl,λ w ok=>absurd ok.sep e⟩
def Qb.sep0{f:FuncId}{args:Array Value}{R:Value->Qa T->Prop}{U:Qa T}(h:JS U->Qb S f args R U):Qb S f args R U:=by
 intro Stop m c cs k;by_cases e:JS U
 .exact h e Stop m c cs k
 .exact .priv ⟨rfl,λ w ok=>absurd ok.sep e⟩
def Zr(S:Sys P T)(l:Nat)(vs:List Value)(K:Value->Qa T->Prop)(U:Qa T):Prop:=Qw P (Instr.yield l vs.toArray) (ZL S K) U
abbrev Fm:=Nat->Value
def JB(f:Fm)(d:Nat)(v:Value):Fm:=λ t=>bif Nat.beq t d then v else f t
def QW(f:Fm):Option Nat->Value->Fm
 |some d,v=>JB f d v
 |none,_=>f
def Zc(f:Fm):Operand->Value
 |.tmp t=>f t
 |.const v=>v
 |.global g=>.pointer (some ⟨g,0,none⟩)
 |.func g=>.func (.func g) #[] #[]
inductive O where
 |mv (x:Operand)
 |pick (c a b:Operand)
 |add (x y:Operand)|sub (x y:Operand)|mul (x y:Operand)
 |cmp (op:BinOp) (x y:Operand)
 |beq (op:BinOp) (x y:Operand)
 |ar (op:BinOp) (x y:Operand)
 |teq (op:BinOp) (x y:Operand)
 |not (x:Operand)
 |len (x:Operand)
 |lenT (x:Operand)
 |lenM (x:Operand)
 |conv (k:IntKind) (x:Operand)
 |off (n:Nat) (x:Operand)
 |idx (sz:Nat) (x i:Operand)
 |aidx (n sz:Nat) (x i:Operand)
 |sidx (x i:Operand)
 |ld (x:Operand)
 |ldn (n:Nat) (x:Operand)
 |st (n:Nat) (x v:Operand)
 |box (t:TypeId) (x:Operand)
 |boxM (t:TypeId) (x:Operand)
 |alloc (t:TypeId) (zero:Array Value)
 |ext (x:Operand) (i:Nat)
 |part (off n:Nat) (x:Operand)
 |part1 (off:Nat) (x:Operand)
 |mkf (fn:Fn) (first capt:Array Operand)
 |call (f:Operand) (args:Array Operand)
 |nilc (x:Operand)
 |sub3 (sz:Nat) (x:Operand) (lo hi:Option Operand)
 |build (zero:Array Value) (parts:List (Nat×Nat×Operand))
 |bsl (t:TypeId) (len:Nat) (zero:Array Value) (parts:List (Nat×Nat×Operand))
 |raw (o:Oper)
def WS(v:Value)(K:Value->Prop):Prop:=
 match v with
 |.bool b=>K (.bool b)|.int k n=>K (.int k n)|.float k n=>K (.float k n)|.complex k a b=>K (.complex k a b)|.string s=>K (.string s)
 |.pointer a=>K (.pointer a)|.slice a l c=>K (.slice a l c)|.map r=>K (.map r)|.chan r=>K (.chan r)|.func f a b=>K (.func f a b)
 |.nilFunc=>K .nilFunc|.iface t x=>K (.iface t x)|.nilIface=>K .nilIface|.agg c=>K (.agg c)|.tuple c=>K (.tuple c)
def Q4(v:Value)(K:Value->Prop):WS v K=K v:=by cases v <;> rfl
def X8(l:List Value):(List Value->Prop)->Prop:=List.rec (motive:=λ _=>(List Value->Prop)->Prop) (λ K=>K []) (λ v _ e K=>WS v λ v=>e λ r=>K (v::r)) l
def Wa:∀(l:List Value)(K:List Value->Prop),X8 l K=K l
 |[],_=>rfl
 |v::r,K=>by
  show(WS v λ v=>X8 r λ r=>K (v::r))=_;rw[Q4];exact Wa r _
def PI(v:Value)(K:Array Value->Prop):Prop:=WS v λ v=>match v with|.agg cs=>K cs|v=>K #[v]
def Y5(v:Value)(K:Array Value->Prop):PI v K=K v.cells:=by unfold PI;rw[Q4];cases v <;> rfl
def Zo(U:Qa T)(b:Nat)(c:Array Value):Prop:=∃t fr,U.I b=some (.cells c t fr)
def Zo.new{U:Qa T}{b:Nat}{c:Array Value}{t:TypeId}:Zo { U with I:=JH U.I b (.cells c t) } b c:=⟨t,(0,0),by simp[JH]⟩
def GD{U:Qa T}{b:Nat}{o:Obj}(h:U.free b):U.le { U with I:=JH U.I b o }:=by
 refine⟨λ x w f=>?_,rfl,rfl⟩;show JH U.I b o x=_;unfold JH;rw[if_neg]
 .exact f
 .intro e;rw[e,h.1]at f;cases f
def Je(n:Int):Prop:=-9223372036854775808<=n/\n<9223372036854775808
theorem I1{x:Int}(h:-9223372036854775808<=x/\x<9223372036854775808:=by omega):Je x:=h
def Gk{n:Int}(h:Je n):IntKind.wrap .i64 n=n:=by
 unfold Je at h;have e:(2:Int)^64=18446744073709551616:=D1
 have f:(2:Int)^(64-1)=9223372036854775808:=D1
 simp only[IntKind.wrap,IntKind.bits,IntKind.signed,Bool.true_and,e,f];split <;> rename_i w <;> simp only[decide_eq_true_eq]at w <;> omega
def Ju(U:Qa T)(a:Addr)(vs:List Value):Prop:=∀i v,vs[i]?=some v->U.sees (a.add i) v
def ZF(a:Addr)(l:List Value):Nat->(Qa T->Prop)->Qa T->Prop:=
 List.rec (motive:=λ _=>Nat->(Qa T->Prop)->Qa T->Prop) (λ _ K U=>K U) (λ v _ e i K U=>v.single=true/\∃M',XP (a.add i) v U.M M'/\e (i+1) K { U with M:=M' }) l
def ZF.mono{a:Addr}{K e:Qa T->Prop}(f:∀U,K U->e U):∀(vs:List Value)(i:Nat)(U:Qa T),ZF a vs i K U->ZF a vs i e U
 |[],_,_,h=>f _ h
 |_::vs,i,_,⟨w,M',z,h⟩=>⟨w,M',z,ZF.mono f vs (i+1) _ h⟩
def Yk(len:Nat)(lo e:Option Value):Option (Int×Int):=
 match lo,e with
 |none,none=>some (0,len)
 |some (.int _ l),none=>some (l,len)
 |none,some (.int _ h)=>some (0,h)
 |some (.int _ l),some (.int _ h)=>some (l,h)
 |_,_=>none
def JY(cells:Array Value)(off:Nat):List Value->Nat->Array Value
 |[],_=>cells
 |v::r,j=>JY (cells.setIfInBounds (off+j) v) off r (j+1)
def PP(f:Fm)(cells:Array Value):List (Nat×Nat×Operand)->Option (Array Value)
 |[]=>some cells
 |(off,size,x)::r=>
  if(Zc f x).cells.size≠size|| off+(Zc f x).cells.size > cells.size then none
  else PP f (JY cells off (Zc f x).cells.toList 0) r
def Vm:∀(vs:List Value)(c:Array Value)(off j:Nat),(JY c off vs j).size=c.size
 |[],_,_,_=>rfl
 |v::vs,c,off,j=>by simp[JY,Vm vs]
def Pk:∀(vs:List Value)(c:Array Value)(off j k:Nat),off+j+vs.length<=c.size->(JY c off vs j)[k]?=if off+j<=k/\k<off+j+vs.length then vs[k-(off+j)]? else c[k]?
 |[],c,off,j,k,_=>by simp[JY];omega
 |v::vs,c,off,j,k,h=>by
  simp only[length_cons]at h;simp only[JY];rw[Pk vs _ off (j+1) k S3];by_cases e:k=off+j
  .subst e;rw[if_neg O1,if_pos S1];rw[Array.getElem?_setIfInBounds_self_of_lt O1];simp
  .by_cases h1:off+(j+1)<=k/\k<off+(j+1)+vs.length
   .rw[if_pos h1,if_pos S3];have:k-(off+j)=(k-(off+(j+1)))+1:=O1
    rw[this,getElem?_cons_succ]
   .rw[if_neg h1,if_neg S3,Array.getElem?_setIfInBounds_ne O1]
def CL(vs:List Value)(c:Array Value)(off:Nat)(h:off+vs.length<=c.size):(JY c off vs 0).toList=c.toList.take off++vs++c.toList.drop (off+vs.length):=by
 apply ext_getElem?;intro k;have w:=Pk vs c off 0 k O1;rw[Array.getElem?_toList,w];have e:(c.toList.take off).length=off:=S3
 by_cases f:k<off
 .rw[if_neg O1,append_assoc,getElem?_append_left O1,getElem?_take,if_pos f,Array.getElem?_toList]
 .by_cases h2:k<off+vs.length
  .rw[if_pos O1,append_assoc,getElem?_append_right O1,getElem?_append_left O1,e];rfl
  .rw[if_neg O1,append_assoc,getElem?_append_right O1,getElem?_append_right O1,e,getElem?_drop,Array.getElem?_toList];congr 1;omega
def Of(off:Nat)(vs cs:List Value):List Value:=cs.take off++vs++cs.drop (off+vs.length)
def PZ(f:Fm)(ps:List (Nat×Nat×Operand)):List Value->(List Value->Prop)->Prop:=
 List.rec (motive:=λ _=>List Value->(List Value->Prop)->Prop) (λ cs K=>X8 cs K)
  (λ p _ w cs K=>PI (Zc f p.2.2) λ vs=>X8 vs.toList λ vl=>
   bif (Nat.beq vl.length p.2.1&&Nat.ble (p.1+vl.length) cs.length)then X8 (Of p.1 vl cs) (λ e=>w e K)else False) ps
def HJ(f:Fm):∀(ps:List (Nat×Nat×Operand))(cs:List Value)(K:List Value->Prop),PZ f ps cs K=(match PP f cs.toArray ps with|some c=>K c.toList|none=>False)
 |[],cs,K=>by
  show X8 cs K=_;rw[Wa];rfl
 |(off,size,x)::r,cs,K=>by
  show(PI (Zc f x) λ vs=>X8 vs.toList λ vl=>bif (Nat.beq vl.length size&&Nat.ble (off+vl.length) cs.length)then X8 (Of off vl cs) (λ e=>PZ f r e K)else False)=_;rw[Y5,Wa,PP];simp only[Array.length_toList,size_toArray];by_cases h:(Zc f x).cells.size=size/\off+(Zc f x).cells.size<=cs.length
  .have e1:(Nat.beq (Zc f x).cells.size size&&Nat.ble (off+(Zc f x).cells.size) cs.length)=true:=by
    rw[Bool.and_eq_true];exact⟨Nat.beq_eq.symm▸h.1,Nat.ble_eq.symm▸h.2⟩
   rw[e1,cond_true,Wa,HJ f r];rw[if_neg S3];have B:=CL (Zc f x).cells.toList cs.toArray off (by simpa using h.2)
   have E:(Of off (Zc f x).cells.toList cs).toArray=JY cs.toArray off (Zc f x).cells.toList 0:=by
    apply Array.ext';rw[B];rfl
   rw[E]
  .have e1:(Nat.beq (Zc f x).cells.size size&&Nat.ble (off+(Zc f x).cells.size) cs.length)=false:=by
    rw[Bool.and_eq_false_iff];by_cases z:(Zc f x).cells.size=size
    .right;rw[Bool.eq_false_iff];intro w;exact h ⟨z,Nat.le_of_ble_eq_true w⟩
    .left;rw[Bool.eq_false_iff];intro w;exact z (Nat.eq_of_beq_eq_true w)
   rw[e1,cond_false,if_pos];simp;omega
def OX(S:Sys P T):O->Fm->(Value->Qa T->Prop)->Qa T->Prop
 |.mv x,f,K,U=>WS (Zc f x) λ v=>K v U
 |.pick c a b,f,K,U=>match Zc f c with
  |.bool true=>WS (Zc f a) λ v=>K v U
  |.bool false=>WS (Zc f b) λ v=>K v U
  |_=>False
 |.add x y,f,K,U=>match Zc f x,Zc f y with|.int .i64 a,.int .i64 b=>Je (a+b)/\K (.int .i64 (a+b)) U|_,_=>False
 |.sub x y,f,K,U=>match Zc f x,Zc f y with|.int .i64 a,.int .i64 b=>Je (a-b)/\K (.int .i64 (a-b)) U|_,_=>False
 |.mul x y,f,K,U=>match Zc f x,Zc f y with|.int .i64 a,.int .i64 b=>Je (a*b)/\K (.int .i64 (a*b)) U|_,_=>False
 |.cmp op x y,f,K,U=>match Zc f x,Zc f y with
  |.int k a,.int k' b=>k=k'/\(match op with
   |.eql=>K (.bool (a==b)) U|.neq=>K (.bool (a != b)) U|.lss=>K (.bool (decide (a<b))) U
   |.leq=>K (.bool (decide (a<=b))) U|.gtr=>K (.bool (decide (a > b))) U|.geq=>K (.bool (decide (a ≥ b))) U|_=>False)
  |_,_=>False
 |.beq op x y,f,K,U=>match Zc f x,Zc f y with
  |.bool a,.bool b=>(match op with|.eql=>K (.bool (a==b)) U|.neq=>K (.bool (!(a==b))) U|_=>False)
  |_,_=>False
 |.ar op x y,f,K,U=>match Zc f x,Zc f y with
  |.int k a,.int k' b=>(match op with
   |.add=>k=k'/\K (.int k (k.wrap (a+b))) U|.sub=>k=k'/\K (.int k (k.wrap (a-b))) U|.mul=>k=k'/\K (.int k (k.wrap (a*b))) U
   |.quo=>k=k'/\b≠0/\K (.int k (k.wrap (a.tdiv b))) U|.rem=>k=k'/\b≠0/\K (.int k (a.tmod b)) U
   |.and=>k=k'/\K (.int k (k.wrap (BitVec.ofInt k.bits a&&&BitVec.ofInt k.bits b).toNat)) U
   |.or=>k=k'/\K (.int k (k.wrap (BitVec.ofInt k.bits a||| BitVec.ofInt k.bits b).toNat)) U
   |.xor=>k=k'/\K (.int k (k.wrap (BitVec.ofInt k.bits a ^^^ BitVec.ofInt k.bits b).toNat)) U
   |.andNot=>k=k'/\K (.int k (k.wrap (BitVec.ofInt k.bits a&&&~~~ BitVec.ofInt k.bits b).toNat)) U
   |.shl=>0<=b/\K (.int k (k.wrap (a*2^(min b.toNat k.bits)))) U
   |.shr=>0<=b/\K (.int k (a.fdiv (2^(min b.toNat k.bits)))) U
   |_=>False)
  |_,_=>False
 |.teq op x y,f,K,U=>match Zc f x,Zc f y with
  |.string a,.string b=>(match op with|.eql=>K (.bool (a.toList==b.toList)) U|.neq=>K (.bool (!(a.toList==b.toList))) U|_=>False)
  |_,_=>False
 |.not x,f,K,U=>match Zc f x with|.bool b=>K (.bool (!b)) U|_=>False
 |.len x,f,K,U=>match Zc f x with|.slice _ n _=>K (.int .i64 n) U|_=>False
 |.lenT x,f,K,U=>match Zc f x with|.string s=>K (.int .i64 s.size) U|_=>False
 |.lenM x,f,K,U=>match Zc f x with
  |.map none=>K (.int .i64 0) U
  |.map (some r)=>∃es z,U.has r (.map es z)/\K (.int .i64 es.size) U
  |_=>False
 |.conv k x,f,K,U=>match Zc f x with|.int _ n=>K (.int k (k.wrap n)) U|_=>False
 |.off n x,f,K,U=>match Zc f x with|.pointer (some a)=>K (.pointer (some (a.add n))) U|_=>False
 |.idx sz x i,f,K,U=>match Zc f x,Zc f i with
  |.slice a len _,.int _ n=>∃(E:Addr)(j:Nat),(a=some E/\n=j/\j<len)/\K (.pointer (some (E.add (j*sz)))) U
  |_,_=>False
 |.aidx len sz x i,f,K,U=>match Zc f x,Zc f i with
  |.pointer (some a),.int _ n=>∃j:Nat,(n=j/\j<len)/\K (.pointer (some (a.add (j*sz)))) U
  |_,_=>False
 |.sidx x i,f,K,U=>match Zc f x,Zc f i with
  |.string s,.int _ n=>∃(j:Nat)(b:UInt8),(n=j/\s[j]?=some b)/\K (.int .u8 b.toNat) U
  |_,_=>False
 |.ld x,f,K,U=>match Zc f x with|.pointer (some a)=>∃v,U.sees a v/\WS v λ v=>K v U|_=>False
 |.ldn n x,f,K,U=>match Zc f x with|.pointer (some a)=>∃vs:List Value,(vs.length=n/\Ju U a vs)/\K (.agg vs.toArray) U|_=>False
 |.st n x v,f,K,U=>match Zc f x with|.pointer (some a)=>(Zc f v).cells.size=n/\ZF a (Zc f v).cells.toList 0 (λ U'=>∃e,Q1 U' e/\K undef e) U|_=>False
 |.box _ x,f,K,U=>PI (Zc f x) λ cs=>∀b e,U.le e->Zo e b cs->K (.pointer (some ⟨b,0,none⟩)) e
 |.boxM t x,f,K,U=>∀b,U.free b->K (.pointer (some ⟨b,0,none⟩)) (U.put b (.cells (Zc f x).cells t))
 |.alloc t zero,_,K,U=>∀b,U.free b->∃e,Q1 (U.put b (.cells zero t)) e/\K (.pointer (some ⟨b,0,none⟩)) e
 |.ext x i,f,K,U=>match Zc f x with|.tuple vs=>(match vs[i]? with|some v=>WS v λ v=>K v U|none=>False)|_=>False
 |.part off n x,f,K,U=>match Zc f x with|.agg cs=>K (.agg ((cs.toList.drop off).take n).toArray) U|_=>False
 |.part1 off x,f,K,U=>match Zc f x with|.agg cs=>(match cs[off]? with|some v=>WS v λ v=>K v U|none=>False)|_=>False
 |.mkf fn first w,f,K,U=>X8 (first.toList.map (Zc f)) λ a=>X8 (w.toList.map (Zc f)) λ c=>K (.func fn a.toArray c.toArray) U
 |.call c args,f,K,U=>match Zc f c with
  |.func (.func g) first w=>(P.funcs[g]?.any λ fd=>fd.body.isSome&&fd.name != "runtime.NumGoroutine")=true/\X8 (args.toList.map (Zc f)) λ vs=>Qb S g (first.toList++vs++w.toList).toArray (λ v U'=>JS U'->K v U') U
  |.func (.yield l) first _=>X8 (args.toList.map (Zc f)) λ vs=>Zr S l (first.toList++vs) K U
  |_=>False
 |.nilc x,f,K,U=>match Zc f x with|.pointer (some a)=>K (.pointer (some a)) U|_=>False
 |.sub3 sz x lo B,f,K,U=>match Zc f x with
  |.slice a len cap=>(match Yk len (lo.map (Zc f)) (B.map (Zc f))with
   |some (F,B)=>∃l h:Nat,(F=l/\B=h/\l<=h/\h<=cap)/\K (.slice (if cap=l then a else a.map (·.add (l*sz))) (h-l) (cap-l)) U
   |none=>False)
  |_=>False
 |.build zero parts,f,K,U=>PZ f parts zero.toList λ l=>K (.agg l.toArray) U
 |.bsl t len zero parts,f,K,U=>PZ f parts zero.toList λ l=>∀b,U.free b->∃e,Q1 (U.put b (.cells l.toArray t)) e/\K (.slice (some ⟨b,0,none⟩) len len) e
 |.raw o,f,K,U=>∀a:Act,(∀x,a.eval x=Zc f x)->Qw P (execOp a.eval o) (ZL S λ v U'=>∃e,Q1 U' e/\K v e) U
def R9{α:Type}(s:Sem α):s.bind Sem.pure=s:=by
 induction s with
 |pure a=>rfl
 |load m a k e=>simp only[Sem.bind];congr 1;funext v;exact e v
 |store m a v k e=>simp only[Sem.bind,e]
 |new o k e=>simp only[Sem.bind];congr 1;funext v;exact e v
 |shape r k e=>simp only[Sem.bind];congr 1;funext v;exact e v
 |freeze a n k e=>simp only[Sem.bind,e]
 |frozen a k e=>simp only[Sem.bind];congr 1;funext v;exact e v
 |getObj r k e=>simp only[Sem.bind];congr 1;funext v;exact e v
 |setObj r o k e=>simp only[Sem.bind,e]
 |choose q k e=>simp only[Sem.bind];congr 1;funext v;exact e v
 |sys c k e=>simp only[Sem.bind];congr 1;funext v;exact e v
 |program k e=>simp only[Sem.bind];congr 1;funext v;exact e v
 |mark m k e=>simp only[Sem.bind,e]
 |halt h=>rfl
def KF{α β γ:Type}(s:Sem α)(g:α->Sem β)(h:β->Sem γ):(s.bind g).bind h=s.bind λ a=>(g a).bind h:=by
 induction s with
 |pure a=>rfl
 |load m a k e=>simp only[Sem.bind];congr 1;funext v;exact e v
 |store m a v k e=>simp only[Sem.bind,e]
 |new o k e=>simp only[Sem.bind];congr 1;funext v;exact e v
 |shape r k e=>simp only[Sem.bind];congr 1;funext v;exact e v
 |freeze a n k e=>simp only[Sem.bind,e]
 |frozen a k e=>simp only[Sem.bind];congr 1;funext v;exact e v
 |getObj r k e=>simp only[Sem.bind];congr 1;funext v;exact e v
 |setObj r o k e=>simp only[Sem.bind,e]
 |choose q k e=>simp only[Sem.bind];congr 1;funext v;exact e v
 |sys c k e=>simp only[Sem.bind];congr 1;funext v;exact e v
 |program k e=>simp only[Sem.bind];congr 1;funext v;exact e v
 |mark m k e=>simp only[Sem.bind,e]
 |halt h=>rfl
theorem Uv:LawfulMonad Sem:=LawfulMonad.mk' Sem (id_map:=λ s=>R9 s) (pure_bind:=λ _ _=>rfl) (bind_assoc:=λ s g h=>KF s g h)
def Xa{α β:Type}(g:α->Sem β):List α->Array β->Sem (Array β)
 |[],acc=>pure acc
 |x::r,acc=>do let y <- g x;Xa g r (acc.push y)
def Mp{α β:Type}(g:α->Sem β):∀(l:List α)(acc:Array β),Xa g l acc=(do let r <- l.mapM g;pure (acc++r.toArray)):=by
 have:=Uv;intro l
 induction l with
 |nil=>intro acc;simp[Xa]
 |cons x l e=>intro acc;simp[Xa,e,mapM_cons]
def YZ{α β:Type}(g:α->Sem β)(l:List α):Array.mapM g l.toArray=Xa g l #[]:=by
 have:=Uv;rw[Mp];simp
def Qc{α β:Type}(s:Sem α)(g:α->Sem β)(Q:β->Qa T->Prop)(U:Qa T):Qw P (s >>= g) Q U=Qw P s (λ a U=>Qw P (g a) Q U) U:=propext (Ya s g)
def Qi{α:Type}(a:α)(Q:α->Qa T->Prop)(U:Qa T):Qw P (pure a:Sem α) Q U=Q a U:=rfl
def Zi{t:TypeId}{d:TypeDesc}(h:P.underlying t=some d)(Q:TypeDesc->Qa T->Prop)(U:Qa T):Qw P (underlying t) Q U=Q d U:=by
 simp only[underlying,program,Qc,Qw,h,Qi]
def Wl{t:TypeId}{i:TypeInfo}(h:P.info? t=some i)(Q:TypeInfo->Qa T->Prop)(U:Qa T):Qw P (typeInfo t) Q U=Q i U:=by
 simp only[typeInfo,program,Qc,Qw,h,Qi]
def Ji{t:TypeId}{i:TypeInfo}(h:P.info? t=some i)(Q:Nat->Qa T->Prop)(U:Qa T):Qw P (sizeOf t) Q U=Q i.size U:=by
 simp only[sizeOf,Qc,Wl h,Qi]
def TypeDesc.agg:TypeDesc->Bool
 |.struct _|.array _ _=>true
 |_=>false
def Hn{t:TypeId}{d:TypeDesc}(h:P.underlying t=some d)(Q:Bool->Qa T->Prop)(U:Qa T):Qw P (isAgg t) Q U=Q (TypeDesc.agg d) U:=by
 simp only[isAgg,Qc,Zi h];cases d <;> rfl
def Xz{t:TypeId}{i:TypeInfo}{v:Value}(h:P.info? t=some i)(e:i.zero=some v)(Q:Value->Qa T->Prop)(U:Qa T):Qw P (zeroValue t) Q U=Q v U:=by
 simp only[zeroValue,Qc,Wl h,e,Qi]
def Ob{a:Addr}{v:Value}{Q:Value->Qa T->Prop}{U:Qa T}(h:U.sees a v)(e:Q v U):Qw P (load a) Q U:=⟨rfl,v,h,e⟩
def Sy{a:Addr}{Q:Array Value->Qa T->Prop}{U:Qa T}:∀(vs:List Value)(i:Nat)(acc:Array Value),(∀j v,vs[j]?=some v->U.sees (a.add (i+j)) v)->Q (acc++vs.toArray) U ->
  Qw P (loadCellsFrom a i vs.length acc) Q U
 |[],i,acc,_,f=>by simpa[loadCellsFrom,Qi]using f
 |v::vs,i,acc,h,f=>by
  simp only[length_cons,loadCellsFrom,Qc];refine Ob (h 0 v rfl) (Sy vs (i+1) (acc.push v) (λ j u w=>?_) ?_)
  .have:=h (j+1) u w
   rwa [show i+(j+1)=i+1+j by omega]at this
  .have e:acc.push v++vs.toArray=acc++(v::vs).toArray:=by apply Array.ext';simp
   rw[e];exact f
def GY{a:Addr}{Q:Unit->Qa T->Prop}:∀(vs:List Value)(i:Nat)(U:Qa T),ZF a vs i (λ U'=>Q () U') U->Qw P (storeCells a vs i) Q U
 |[],_,_,h=>h
 |v::vs,i,U,h=>by
  obtain⟨f,M',e,h⟩:=h;simp only[storeCells,Qc,store];exact⟨rfl,f,M',e,GY vs (i+1) _ h⟩
def Jm{t:TypeId}{c:Array Value}{Q:Addr->Qa T->Prop}{U:Qa T}(h:∀b,U.free b->Q ⟨b,0,none⟩ (U.put b (.cells c t))):Qw P (newRow t c) Q U:=by
 simp only[newRow,newObj,Qc,Qw,Qi];exact h
def Jg(o:Oper):Oper:={ dst:=none,op:=o.op,type:=o.type,pos := "", after:=#[],guard:=none }
def qH:BinOp->Bool
 |.eql|.neq|.lss|.leq|.gtr|.geq=>true
 |_=>false
def Em(P:Program)(o:Oper)(op:BinOp)(t:TypeId)(x y:Operand):O:=
 match P.underlying t with
 |some (.int k)=>
  if qH op then .cmp op x y
  else match k,op with
   |.i64,.add=>.add x y
   |.i64,.sub=>.sub x y
   |.i64,.mul=>.mul x y
   |_,_=>.ar op x y
 |some .bool=>.beq op x y
 |some .string=>(match op with|.eql=>.teq op x y|.neq=>.teq op x y|_=>.raw (Jg o))
 |_=>.raw (Jg o)
def Jw(P:Program)(t:TypeId):Option Nat:=(P.info? t).map (·.size)
def Xl(P:Program)(t:TypeId):Option Value:=(P.info? t).bind (·.zero)
def qE(P:Program):Operand->Bool
 |.func g=>P.funcs[g]?.any (·.body.isNone)
 |_=>false
def Zb(P:Program)(mu:List Nat)(o:Oper):O:=
 match o.op with
 |.move x|.assign x=>.mv x
 |.pick c a b=>.pick c a b
 |.binOp op t x y _=>Em P o op t x y
 |.unOp .not _ x=>.not x
 |.call { callee:=.value c,args,.. }=>if qE P c then .raw (Jg o)else .call c args
 |.call { callee:=.builtin .len,args,argTypes }=>
  (match args,argTypes with
  |⟨[x]⟩,⟨[t]⟩=>(match P.underlying t with|some (.slice _)=>.len x|some .string=>.lenT x|some (.map _ _)=>.lenM x|_=>.raw (Jg o))
  |_,_=>.raw (Jg o))
 |.convert src dst x=>(match P.underlying src,P.underlying dst with|some (.int _),some (.int k)=>.conv k x|_,_=>.raw (Jg o))
 |.fieldAddr s x i=>(match P.underlying s with
  |some (.struct f)=>(match f[i]? with
   |some fd=>(match Jw P fd.type with|some (_+1)=>.off fd.offset x|_=>.raw (Jg o))
   |none=>.raw (Jg o))
  |_=>.raw (Jg o))
 |.indexAddr t x i=>(match P.underlying t with
  |some (.slice e)=>(match Jw P e with|some n=>.idx n x i|none=>.raw (Jg o))
  |some (.array len e)=>(match Jw P e with|some n=>if len<=1 then .raw (Jg o)else .aidx len n x i|none=>.raw (Jg o))
  |_=>.raw (Jg o))
 |.index t x i=>(match P.underlying t with|some .string=>.sidx x i|_=>.raw (Jg o))
 |.load t x=>(match P.underlying t with
  |some d=>if TypeDesc.agg d then(match Jw P t with|some n=>.ldn n x|none=>.raw (Jg o))else .ld x
  |none=>.raw (Jg o))
 |.store t x v=>(match Jw P t with|some n=>.st n x v|none=>.raw (Jg o))
 |.box t x=>(match o.dst with|some d=>if mu.contains d then .boxM t x else .box t x|none=>.boxM t x)
 |.alloc t=>(match Xl P t with|some z=>.alloc t z.cells|none=>.raw (Jg o))
 |.extract x i=>.ext x i
 |.field t x i=>(match P.underlying t with
  |some (.struct f)=>(match f[i]? with
   |some fd=>(match P.underlying fd.type with
    |some d=>if TypeDesc.agg d then(match Jw P fd.type with|some n=>.part fd.offset n x|none=>.raw (Jg o))else .part1 fd.offset x
    |none=>.raw (Jg o))
   |none=>.raw (Jg o))
  |_=>.raw (Jg o))
 |.makeFunc fn first w=>.mkf fn first w
 |.nilCheck x=>.nilc x
 |.build t parts=>(match P.underlying t,Xl P t with
  |some (.struct f),some z=>if f.toList.all (λ fd=>(Jw P fd.type).isSome)then
    (match parts.toList.mapM (λ p=>(f[p.1]?).map λ fd=>(fd.offset,(Jw P fd.type).getD 0,p.2))with
    |some ps=>.build z.cells ps
    |none=>.raw (Jg o))else .raw (Jg o)
  |_,_=>.raw (Jg o))
 |.buildSlice t len parts=>(match P.underlying t with
  |some (.slice e)=>(match Jw P e,Xl P e with
   |some n,some z=>if len*n<=2^24 then .bsl e len (if len*n=0 then #[]else(Array.range (len*n)).map (z.cells[· % z.cells.size]!)) (parts.toList.map λ p=>(p.1*n,n,p.2))else .raw (Jg o)
   |_,_=>.raw (Jg o))
  |_=>.raw (Jg o))
 |.slice t x lo B none=>(match P.underlying t with|some (.slice e)=>(match Jw P e with|some n=>.sub3 n x lo B|none=>.raw (Jg o))|_=>.raw (Jg o))
 |_=>.raw (Jg o)
def Ga{t:TypeId}{n:Nat}(h:Jw P t=some n):∃i,P.info? t=some i/\i.size=n:=by
 simpa[Jw]using h
def P9{t:TypeId}{z:Value}(h:Xl P t=some z):∃i,P.info? t=some i/\i.zero=some z:=by
 simpa[Xl,Option.bind_eq_some_iff]using h
section
variable{f:Fm}{K:Value->Qa T->Prop}{U:Qa T}
def Pj{op:BinOp}{t:TypeId}{x y:Operand}{k k':IntKind}{a b:Int}{Q:Unit->Qa T->Prop}(h:Q () U):Qw P (eqGuard op t x y (.int k a) (.int k' b)) Q U:=by
 cases op <;> exact h
def CK{op:BinOp}{t:TypeId}{x y:Operand}{a b:Bool}{Q:Unit->Qa T->Prop}(h:Q () U):Qw P (eqGuard op t x y (.bool a) (.bool b)) Q U:=by
 cases op <;> exact h
def If{op:BinOp}{t:TypeId}{x y:Operand}{a b:ByteArray}{Q:Unit->Qa T->Prop}(h:Q () U):Qw P (eqGuard op t x y (.string a) (.string b)) Q U:=by
 cases op <;> exact h
def qn{op:BinOp}{t:TypeId}{x y:Operand}(h:OX S (.cmp op x y) f K U):Qw P (do eqGuard op t x y (Zc f x) (Zc f y);binOp op t (Zc f x) (Zc f y)) K U:=by
 simp only[OX]at h;cases e:Zc f x <;> simp only[e]at h <;> try exact h.elim
 cases w:Zc f y <;> simp only[w]at h <;> try exact h.elim
 obtain⟨rfl,h⟩:=h;rw[Qc];refine Pj ?_;cases op <;> first|exact h.elim|simpa[binOp,Op.intCmp,Qi]using h
def ql{t:TypeId}{x y:Operand}(h:OX S (.add x y) f K U):Qw P (do eqGuard .add t x y (Zc f x) (Zc f y);binOp .add t (Zc f x) (Zc f y)) K U:=by
 simp only[OX]at h;split at h
 .rename_i a b e1 e2;rw[e1,e2,Qc];refine Pj ?_;simpa[binOp,Op.intArith,Qi,Gk h.1]using h.2
 .exact h.elim
def qr{t:TypeId}{x y:Operand}(h:OX S (.sub x y) f K U):Qw P (do eqGuard .sub t x y (Zc f x) (Zc f y);binOp .sub t (Zc f x) (Zc f y)) K U:=by
 simp only[OX]at h;split at h
 .rename_i a b e1 e2;rw[e1,e2,Qc];refine Pj ?_;simpa[binOp,Op.intArith,Qi,Gk h.1]using h.2
 .exact h.elim
def qq{t:TypeId}{x y:Operand}(h:OX S (.mul x y) f K U):Qw P (do eqGuard .mul t x y (Zc f x) (Zc f y);binOp .mul t (Zc f x) (Zc f y)) K U:=by
 simp only[OX]at h;split at h
 .rename_i a b e1 e2;rw[e1,e2,Qc];refine Pj ?_;simpa[binOp,Op.intArith,Qi,Gk h.1]using h.2
 .exact h.elim
def Iw{t:TypeId}(f:P.underlying t=some .bool)(a b:Bool)(Q:Bool->Qa T->Prop)(U:Qa T):Qw P (Op.equal t (.bool a) (.bool b)) Q U=Q (a==b) U:=by
 have e:Op.equal t (.bool a) (.bool b)=Op.equalIn (9999+1) t (.bool a) (.bool b):=rfl;rw[e,Op.equalIn,Qc,Zi f];rfl
def qm{op:BinOp}{t:TypeId}{x y:Operand}(e:P.underlying t=some .bool)(h:OX S (.beq op x y) f K U):Qw P (do eqGuard op t x y (Zc f x) (Zc f y);binOp op t (Zc f x) (Zc f y)) K U:=by
 simp only[OX]at h;split at h
 .rename_i a b e1 e2;rw[e1,e2,Qc];refine CK ?_;cases op <;> first|exact h.elim|(simp only[binOp,Qc,Iw e,Qi];exact h)
 .exact h.elim
def TE{op:BinOp}{t:TypeId}{x y:Operand}(h:OX S (.teq op x y) f K U):Qw P (do eqGuard op t x y (Zc f x) (Zc f y);binOp op t (Zc f x) (Zc f y)) K U:=by
 simp only[OX]at h;split at h
 .rename_i a b e1 e2;rw[e1,e2,Qc];refine If ?_;cases op <;> first|exact h.elim|simpa[binOp,Op.stringOp,Qi]using h
 .exact h.elim
def qZ{op:BinOp}{t:TypeId}{x y:Operand}(h:OX S (.ar op x y) f K U):Qw P (do eqGuard op t x y (Zc f x) (Zc f y);binOp op t (Zc f x) (Zc f y)) K U:=by
 simp only[OX]at h;split at h
 .rename_i k a k' b e1 e2;rw[e1,e2,Qc];refine Pj ?_
  cases op <;> simp only[]at h <;> first
   |exact h.elim
   |(obtain⟨rfl,e,h⟩:=h;simpa[binOp,Op.intDiv,e,Qi]using h)
   |(obtain⟨rfl,h⟩:=h;simpa[binOp,Op.intArith,Op.intBits,Qi]using h)
   |(obtain⟨e,h⟩:=h;simpa[binOp,Op.shift,Int.not_lt.2 e,Qi]using h)
 .exact h.elim
def ZD{s:Sem Value}(h:Qw P s K U):Qw P (s >>= λ v=>pure (Next.value v)) (ZL S K) U:=by rw[Qc];exact h
def N1{c:Operand}{args:Array Operand}{B:Array TypeId}{Q:TypeId}{ρ:Operand->Value}(F:∀x,ρ x=Zc f x)(h:OX S (.call c args) f K U) :
  Qw P (do let d <- resolve ρ { callee:=.value c,args:=args,argTypes:=B } Q;invoke d.target d.args:Sem Next) (ZL S K) U:=by
 simp only[OX]at h;have H:args.map ρ=args.map (Zc f):=by rw[show ρ=Zc f from funext F]
 split at h
 .rename_i g first capt e
  obtain⟨E,h⟩:=h;simp only[Qc,resolve,F,H,e,Deferred.ofValue,Qi,invoke,callFunc,program,Qw];cases G:P.funcs[g]? with
  |none=>simp[G]at E
  |some fd=>
   simp only[G,Option.any_some,Bool.and_eq_true,bne_iff_ne,ne_eq]at E;obtain⟨T,I⟩:=E;have z:fd.body.isNone=false:=by cases L:fd.body <;> simp_all
   have w:(fd.name== "runtime.NumGoroutine")=false:=by simpa using I
   simp only[w,z,Bool.false_eq_true,if_false,Qi,ZL];rw[Wa]at h;have e:(first++Array.map (Zc f) args)++capt=(first.toList++args.toList.map (Zc f)++capt.toList).toArray:=by apply Array.ext';simp
   rw[e];exact h.sep λ v U' N M=>⟨U',.refl _,M N⟩
 .rename_i l first capt e
  rw[Wa]at h;simp only[Qc,resolve,F,H,e,Deferred.ofValue,Qi,invoke];have e:first++Array.map (Zc f) args=(first.toList++args.toList.map (Zc f)).toArray:=by apply Array.ext';simp
  rw[e];exact h
 .exact h.elim
def HO{k:IntKind}{i:Int}{y n:Nat}{code:BoundsCode}(e:i=n)(h:n<=y){Q:Nat->Qa T->Prop}(f:Q n U):Qw P (Instr.sliceBound (.int k i) y code) Q U:=by
 subst e;unfold Instr.sliceBound;rw[Qc];show Qw P (if 0<=(n:Int)/\(n:Int)<=y then pure (n:Int).toNat else boundsPanic k n y code) Q U;rw[if_pos O1];exact f
def zh{len cap:Nat}{Q:Nat×Nat×Nat->Qa T->Prop}(e:Q (0,len,cap) U):Qw P (Instr.sliceBounds true len cap none none none) Q U:=by
 unfold Instr.sliceBounds;simp only[Qc,Qi];exact e
def zi{len cap l:Nat}{k:IntKind}{i:Int}(e:i=l)(h:l<=len){Q:Nat×Nat×Nat->Qa T->Prop}(f:Q (l,len,cap) U):Qw P (Instr.sliceBounds true len cap (some (.int k i)) none none) Q U:=by
 unfold Instr.sliceBounds;simp only[Qc,Qi];exact HO e h f
def zj{len cap h:Nat}{k:IntKind}{i:Int}(f:i=h)(e:h<=cap){Q:Nat×Nat×Nat->Qa T->Prop}(w:Q (0,h,cap) U):Qw P (Instr.sliceBounds true len cap none (some (.int k i)) none) Q U:=by
 unfold Instr.sliceBounds;simp only[Qc,Qi];exact HO f e w
def zk{len cap l h:Nat}{k k':IntKind}{i f:Int}(B:i=l)(e:f=h)(w:l<=h)(z:h<=cap){Q:Nat×Nat×Nat->Qa T->Prop}(E:Q (l,h,cap) U):Qw P (Instr.sliceBounds true len cap (some (.int k i)) (some (.int k' f)) none) Q U:=by
 unfold Instr.sliceBounds;simp only[Qc,Qi];exact HO e z (HO B w E)
def AC{len cap l z:Nat}{lo I:Option Value}(e:Yk len lo I=some ((l:Int),(z:Int)))(G:l<=z)(H:z<=cap){Q:Nat×Nat×Nat->Qa T->Prop}(B:Q (l,z,cap) U) :
  Qw P (Instr.sliceBounds true len cap lo I none) Q U:=by
 unfold Yk at e;split at e
 .simp only[Option.some.injEq,Prod.mk.injEq]at e;obtain⟨E,F⟩:=e;have f:l=0:=O1
  have w:z=len:=O1
  subst f;subst w;exact zh B
 .simp only[Option.some.injEq,Prod.mk.injEq]at e;obtain⟨E,F⟩:=e;have w:z=len:=O1
  subst w;exact zi E G B
 .simp only[Option.some.injEq,Prod.mk.injEq]at e;obtain⟨E,F⟩:=e;have f:l=0:=O1
  subst f;exact zj F H B
 .simp only[Option.some.injEq,Prod.mk.injEq]at e;exact zk e.1 e.2 G H B
 .cases e
def N3{t e:TypeId}{n:Nat}{x:Operand}{lo B:Option Operand}(H:P.underlying t=some (.slice e))(G:Jw P e=some n)(h:OX S (.sub3 n x lo B) f K U) :
  Qw P (Instr.sliceAt t (Zc f x) (lo.map (Zc f)) (B.map (Zc f)) none) K U:=by
 obtain⟨I,w,z⟩:∃i,P.info? e=some i/\i.size=n:=by simpa[Jw]using G
 simp only[OX]at h;split at h
 .rename_i sa len cap e1;split at h
  .rename_i li hh hsb;obtain⟨l,L,⟨rfl,rfl,E,F⟩,h⟩:=h;simp only[e1,Instr.sliceAt,Instr.slice,Qc,Zi H];refine AC hsb E F ?_;simp only[Ji w,z,Qi];exact h
  .exact h.elim
 .exact h.elim
def qp{t e:TypeId}{n:Nat}{x i:Operand}(F:P.underlying t=some (.slice e))(E:Jw P e=some n)(h:OX S (.idx n x i) f K U):Qw P (Instr.indexAt t (Zc f x) (Zc f i)) K U:=by
 obtain⟨G,z,B⟩:∃i,P.info? e=some i/\i.size=n:=by simpa[Jw]using E
 simp only[OX]at h;split at h
 .rename_i aa len cap k m e1 e2;obtain⟨H,j,⟨rfl,rfl,I⟩,h⟩:=h;have w:(0:Int)<=(j:Int)/\(j:Int)<(len:Int):=O1
  simp only[e1,e2,Instr.indexAt,asIntOf,Qc,Qi,Zi F];rw[if_pos w];simp only[Qc,Ji z,B,Qi,Int.toNat_natCast];exact h
 .exact h.elim
def N0{t e:TypeId}{len n:Nat}{x i:Operand}(F:P.underlying t=some (.array len e))(E:Jw P e=some n)(h:OX S (.aidx len n x i) f K U):Qw P (Instr.indexAt t (Zc f x) (Zc f i)) K U:=by
 obtain⟨G,z,B⟩:∃i,P.info? e=some i/\i.size=n:=by simpa[Jw]using E
 simp only[OX]at h;split at h
 .rename_i ad k m e1 e2;obtain⟨j,⟨rfl,H⟩,h⟩:=h;have w:(0:Int)<=(j:Int)/\(j:Int)<(len:Int):=O1
  simp only[e1,e2,Instr.indexAt,asIntOf,Qc,Qi,Zi F,Instr.sureAddr];rw[if_pos w];simp only[Qc,Ji z,B,Qi,Int.toNat_natCast];exact h
 .exact h.elim
def N2{t:TypeId}{x i:Operand}(w:P.underlying t=some .string)(h:OX S (.sidx x i) f K U):Qw P (Instr.index t (Zc f x) (Zc f i)) K U:=by
 simp only[OX]at h;split at h
 .rename_i s k n e1 e2;obtain⟨j,b,⟨rfl,e⟩,h⟩:=h;simp only[e1,e2,Instr.index,asIntOf,Qc,Qi,Zi w];rw[if_pos O1,Int.toNat_natCast,e];exact h
 .exact h.elim
def DB{α β:Type}(g:α->Sem β)(v:α->β):∀(l:List α)(acc:Array β)(Q:Array β->Qa T->Prop)(U:Qa T),(∀a∈l,∀(Q:β->Qa T->Prop)U,Qw P (g a) Q U=Q (v a) U)->Q (acc++(l.map v).toArray) U->Qw P (Xa g l acc) Q U
 |[],acc,Q,U,_,h=>by simpa[Xa,Qi]using h
 |x::l,acc,Q,U,f,h=>by
  simp only[Xa,Qc,f x (mem_cons_self ..)];refine DB g v l _ Q U (λ a w=>f a (mem_cons_of_mem _ w)) ?_;have e:acc.push (v x)++(l.map v).toArray=acc++((x::l).map v).toArray:=by apply Array.ext';simp
  rw[e];exact h
def F_{f:Array Field}(e:f.toList.all (λ fd=>(Jw P fd.type).isSome)=true){Q:Array (Nat×Nat)->Qa T->Prop}(h:Q (f.map λ fd=>(fd.offset,(Jw P fd.type).getD 0)) U) :
  Qw P (f.mapM λ fd=>do pure (fd.offset,<- sizeOf fd.type)) Q U:=by
 obtain⟨l⟩:=f;rw[YZ];refine DB _ (λ fd=>(fd.offset,(Jw P fd.type).getD 0)) l #[] Q U (λ fd w Q U=>?_) (by simpa using h);have:=all_eq_true.1 e fd w;obtain⟨n,B⟩:=Option.isSome_iff_exists.1 this;obtain⟨F,E,z⟩:∃i,P.info? fd.type=some i/\i.size=n:=by simpa[Jw]using B
 simp only[Qc,Ji E,Qi,B,z,Option.getD_some]
def E9:∀(vs:List Value)(cells:Array Value)(off j:Nat),(vs.zipIdx j).foldl (λ cs(p:Value×Nat)=>cs.setIfInBounds (off+p.2) p.1) cells=JY cells off vs j
 |[],_,_,_=>rfl
 |v::r,cells,off,j=>by simp only[zipIdx_cons,foldl_cons,JY];exact E9 r _ off (j+1)
def O7(place:Nat->Option (Nat×Nat))(f:Fm):∀(parts:List (Nat×Operand))(ps:List (Nat×Nat×Operand))(cells:Array Value),
  parts.mapM (λ p=>(place p.1).map λ q=>(q.1,q.2,p.2))=some ps->Instr.fill place cells (parts.map λ p=>(p.1,Zc f p.2))=PP f cells ps
 |[],ps,cells,h=>by simp at h;subst h;rfl
 |(i,x)::r,ps,cells,h=>by
  simp only[mapM_cons,Option.pure_def,Option.bind_eq_bind,Option.bind_eq_some_iff,Option.map_eq_some_iff]at h;obtain⟨_,⟨⟨off,size⟩,B,rfl⟩,z,w,e⟩:=h;cases e;simp only[map_cons,Instr.fill,B,PP];split
  .rfl
  .rw[<- O7 place f r z _ w];congr 1;rw[<- E9,<- Array.foldl_toList,Array.toList_zipIdx]
def Ju.cells{a:Addr}{vs:List Value}(h:Ju U a vs){Q:Array Value->Qa T->Prop}(f:Q vs.toArray U):Qw P (loadCells a vs.length) Q U:=
 Sy vs 0 #[] (λ j v e=>by simpa using h j v e) (by simpa using f)
end
def Ar(cs:Array Value)(off n:Nat):cs.extract off (off+n)=((cs.toList.drop off).take n).toArray:=by
 apply Array.ext';simp[Array.toList_extract,extract_eq_take_drop]
def Wx{o:Oper}{mu:List Nat}{a:Act}{f:Fm}(w:∀x,a.eval x=Zc f x){K:Value->Qa T->Prop}{U:Qa T}
  (L:∀v U U',Q1 U U'->K v U'->K v U) (h:OX S (Zb P mu o) f K U):QL S o a K U:=by
 obtain⟨dst,op,ty,pos,after,guard⟩:=o
 have raw:∀o:Oper,OX S (.raw (Jg o)) f K U->Qw P (execOp a.eval o) (ZL S K) U:=λ o h=>Qw.mono _ (h a w) λ n U Y=>by
  have Z:∀v(U:Qa T),(∃I,Q1 U I/\K v I)->K v U:=λ v U⟨I,B,Z⟩=>L v U I B Z;cases n <;> first|exact Z _ _ Y|exact Qb.mono Y Z|exact WE.mono Y Z|exact Y
 unfold QL;cases op with
 |move x=>simp only[Zb,OX,Q4]at h;simp only[execOp,w,Qi,ZL];exact h
 |assign x=>simp only[Zb,OX,Q4]at h;simp only[execOp,w,Qi,ZL];exact h
 |pick c x y=>
  simp only[Zb,OX]at h;simp only[execOp,w];split at h
  .rename_i e;rw[Q4]at h;simp only[e,Qc,asBool,Qi,ZL,if_true];exact h
  .rename_i e;rw[Q4]at h;simp only[e,Qc,asBool,Qi,ZL,Bool.false_eq_true,if_false];exact h
  .exact h.elim
 |binOp ak t x y yt=>
  simp only[Zb,Em]at h;simp only[execOp,w];split at h
  .split at h
   .exact ZD (qn h)
   .split at h
    .exact ZD (ql h)
    .exact ZD (qr h)
    .exact ZD (qq h)
    .exact ZD (qZ h)
  .rename_i e;exact ZD (qm e h)
  .split at h
   .exact ZD (TE h)
   .exact ZD (TE h)
   .have:=raw _ h;simpa only[execOp,w]using this
  .have:=raw _ h;simpa only[execOp,w]using this
 |unOp ag t x=>
  cases ag with
  |not=>
   simp only[Zb,OX]at h;simp only[execOp,w];split at h
   .rename_i e;simp only[e];exact ZD h
   .exact h.elim
  |_=>exact raw _ h
 |call c=>
  obtain⟨callee,args,aj⟩:=c;cases callee with
  |value g=>
   simp only[Zb]at h;split at h
   .exact raw _ h
   .exact N1 w h
  |invoke r al=>exact raw _ h
  |builtin b=>
   cases b with
   |len=>
    simp only[Zb]at h;split at h
    .rename_i x t;split at h
     .rename_i e hu;simp only[OX]at h;split at h
      .rename_i Q;simp only[execOp,Qc,resolve,Qi,invoke,builtin,Builtin.len_];simp only[map_toArray,map_cons,map_nil,w,Q,getElem?_toArray,getElem?_cons_zero,Qc,Zi hu,Qi,ZL,goInt];exact h
      .exact h.elim
     .rename_i hu;simp only[OX]at h;split at h
      .rename_i Q;simp only[execOp,Qc,resolve,Qi,invoke,builtin,Builtin.len_];simp only[map_toArray,map_cons,map_nil,w,Q,getElem?_toArray,getElem?_cons_zero,Qc,Zi hu,Qi,ZL,goInt];exact h
      .exact h.elim
     .rename_i kk ee hu;simp only[OX]at h;split at h
      .rename_i Q;simp only[execOp,Qc,resolve,Qi,invoke,builtin,Builtin.len_];simp only[map_toArray,map_cons,map_nil,w,Q,getElem?_toArray,getElem?_cons_zero,Qc,Zi hu,Qi,ZL,goInt];exact h
      .rename_i r Q;obtain⟨es,aa,hh,h⟩:=h;simp only[execOp,Qc,resolve,Qi,invoke,builtin,Builtin.len_];simp only[map_toArray,map_cons,map_nil,w,Q,getElem?_toArray,getElem?_cons_zero,Qc,Zi hu,getObj];exact⟨_,hh,rfl,rfl,h⟩
      .exact h.elim
     .exact raw _ h
    .exact raw _ h
   |_=>exact raw _ h
 |convert src dt x=>
  simp only[Zb]at h;split at h
  .rename_i k1 k hu hu';simp only[OX]at h;split at h
   .rename_i k2 n e;simp only[execOp,w,e];refine ZD ?_;simp only[convert,Qc,Zi hu,Zi hu',Conv.intToInt,Qi];exact h
   .exact h.elim
  .exact raw _ h
 |fieldAddr s x i=>
  simp only[Zb]at h;split at h
  .rename_i fs hu;split at h
   .rename_i fd hfd;split at h
    .rename_i n B;obtain⟨H,G,E⟩:=Ga B;simp only[OX]at h;split at h
     .rename_i ad e;simp only[execOp,w,e];refine ZD ?_;simp only[Instr.fieldAt,Qc,Zi hu,hfd,Instr.sureAddr,Qi,fieldPlace,Ji G,E];simpa[Qi]using h
     .exact h.elim
    .exact raw _ h
   .exact raw _ h
  .exact raw _ h
 |indexAddr t x i=>
  simp only[Zb]at h;split at h
  .rename_i e hu;split at h
   .rename_i n B;simp only[execOp,w];exact ZD (qp hu B h)
   .exact raw _ h
  .rename_i len e hu;split at h
   .rename_i n B;split at h
    .exact raw _ h
    .simp only[execOp,w];exact ZD (N0 hu B h)
   .exact raw _ h
  .exact raw _ h
 |index t x i=>
  simp only[Zb]at h;split at h
  .rename_i hu;simp only[execOp,w];exact ZD (N2 hu h)
  .exact raw _ h
 |load t x=>
  simp only[Zb]at h;split at h
  .rename_i d hu;split at h
   .rename_i hag;split at h
    .rename_i n B;obtain⟨H,G,E⟩:=Ga B;simp only[OX]at h;split at h
     .rename_i ad e;obtain⟨vs,⟨hl,hr⟩,h⟩:=h;simp only[execOp,w,e];refine ZD ?_;simp only[Instr.loadAt,Instr.sureAddr,Qc,Qi,loadVar,Hn hu,hag,if_true,Ji G,E,<- hl];exact hr.cells h
     .exact h.elim
    .exact raw _ h
   .rename_i hag;simp only[OX]at h;split at h
    .rename_i ad e;obtain⟨v,B,h⟩:=h;rw[Q4]at h;simp only[execOp,w,e];refine ZD ?_;simp only[Instr.loadAt,Instr.sureAddr,Qc,Qi,loadVar,Hn hu,hag,Bool.false_eq_true,if_false];exact Ob B h
    .exact h.elim
  .exact raw _ h
 |store t x v=>
  simp only[Zb]at h;split at h
  .rename_i n B;obtain⟨H,G,E⟩:=Ga B;simp only[OX]at h;split at h
   .rename_i ad e;obtain⟨Y,h⟩:=h;simp only[execOp,w,e];rw[Qc];simp only[Instr.storeAt,Instr.sureAddr,Qc,Qi,storeVar,Ji G,E,Y,ne_eq,not_true_eq_false,if_false];exact GY _ 0 U (ZF.mono (λ U'⟨I,h1,h2⟩=>L _ _ _ h1 h2) _ _ _ h)
   .exact h.elim
  .exact raw _ h
 |box t x=>
  have key:(∀b,U.free b->K (.pointer (some ⟨b,0,none⟩)) (U.put b (.cells (Zc f x).cells t)))->Qw P (execOp a.eval ⟨dst,.box t x,ty,pos,after,guard⟩) (ZL S K) U:=by
   intro h;simp only[execOp,w];refine ZD ?_;simp only[Instr.box,newVar,Qc];refine Jm λ b X=>?_;simp only[Qi];exact h b X
  simp only[Zb]at h;split at h
  .split at h
   .exact key h
   .exact key λ b X=>L _ _ _ (Wf (U:=U.put b (.cells (Zc f x).cells t)) (b:=b) (o:=.cells (Zc f x).cells t) (M':=U.M) (Perm.refl _)) ((by simpa only[OX,Y5]using h:∀b I,U.le I->Zo I b (Zc f x).cells->K (.pointer (some ⟨b,0,none⟩)) I) b _ (GD X) Zo.new)
  .exact key h
 |alloc t=>
  simp only[Zb]at h;split at h
  .rename_i z hz;obtain⟨H,G,N⟩:=P9 hz;simp only[execOp];refine ZD ?_;simp only[Instr.alloc,newVar,Qc,Xz G N];refine Jm λ b X=>?_;simp only[Qi];obtain⟨I,B,h⟩:=h b X;exact L _ _ _ B h
  .exact raw _ h
 |extract x i=>
  simp only[Zb,OX]at h;simp only[execOp,w];refine ZD ?_;split at h
  .rename_i vs e;split at h
   .rename_i v hv;rw[Q4]at h;simp only[e,Instr.extract,hv,Qi];exact h
   .exact h.elim
  .exact h.elim
 |field t x i=>
  simp only[Zb]at h;split at h
  .rename_i fs hu;split at h
   .rename_i fd hfd;split at h
    .rename_i d hd;split at h
     .rename_i hag;split at h
      .rename_i n B;obtain⟨H,G,E⟩:=Ga B;simp only[OX]at h;split at h
       .rename_i cs e;simp only[execOp,w,e];refine ZD ?_;simp only[Instr.field,Qc,Zi hu,hfd,asAgg,Qi,part,Hn hd,hag,if_true,Ji G,E];rw[Ar];exact h
       .exact h.elim
      .exact raw _ h
     .rename_i hag;simp only[OX]at h;split at h
      .rename_i cs e;split at h
       .rename_i v hv;rw[Q4]at h;simp only[execOp,w,e];refine ZD ?_;simp only[Instr.field,Qc,Zi hu,hfd,asAgg,Qi,part,Hn hd,hag,Bool.false_eq_true,if_false,hv];exact h
       .exact h.elim
      .exact h.elim
    .exact raw _ h
   .exact raw _ h
  .exact raw _ h
 |makeFunc fn first ah=>
  simp only[Zb,OX,Wa]at h;have e:a.eval=Zc f:=funext w;simp only[execOp,e];have e1:∀l:Array Operand,l.map (Zc f)=(l.toList.map (Zc f)).toArray:=λ l=>by apply Array.ext';simp
  rw[e1,e1];exact ZD h
 |nilCheck x=>
  simp only[Zb,OX]at h;simp only[execOp,w];split at h
  .rename_i ad e;simp only[e];exact ZD (s:=pure (.pointer (some ad))) h
  .exact h.elim
 |build t parts=>
  simp only[Zb]at h;split at h
  .rename_i fs z hu hz;split at h
   .rename_i hall;split at h
    .rename_i ps hps;obtain⟨H,G,N⟩:=P9 hz;simp only[OX,HJ,Array.toArray_toList]at h;split at h
     .rename_i cells hc;simp only[execOp,w];refine ZD ?_;simp only[Instr.build,Qc,Xz G N,Zi hu];refine F_ hall ?_
      have ab:Instr.fill ((fs.map λ fd=>(fd.offset,(Jw P fd.type).getD 0))[·]?) z.cells ((parts.map λ p=>(p.1,Zc f p.2)).toList)=some cells:=by
       rw[<- hc,Array.toList_map];refine O7 _ f parts.toList ps z.cells ?_;rw[<- hps];congr 1;funext p;simp only[Array.getElem?_map];cases fs[p.1]? <;> rfl
      simp only[ab,Qi];exact h
     .exact h.elim
    .exact raw _ h
   .exact raw _ h
  .exact raw _ h
 |buildSlice t len parts=>
  simp only[Zb]at h;split at h
  .rename_i e hu;split at h
   .rename_i n z B hz;split at h
    .rename_i hle;obtain⟨H,G,N⟩:=P9 hz;obtain⟨ai,ae,E⟩:=Ga B;simp only[OX,HJ,Array.toArray_toList]at h;split at h
     .rename_i cells hc
      have ac:Instr.fill (λ i=>some (i*n,n)) (if len*n=0 then #[]else(Array.range (len*n)).map (z.cells[· % z.cells.size]!)) ((parts.map λ p=>(p.1,Zc f p.2)).toList)=some cells:=by
       rw[<- hc,Array.toList_map];refine O7 _ f parts.toList _ _ ?_;generalize parts.toList=l
       induction l with
       |nil=>rfl
       |cons p l ih=>rw[mapM_cons,ih];rfl
      simp only[execOp,w];refine ZD ?_;simp only[Instr.buildSlice,Qc,Zi hu,Ji ae,E];rw[if_neg O1]
      have last:∀(V:String)(F:Array Value),F=(if len*n=0 then #[]else(Array.range (len*n)).map (z.cells[· % z.cells.size]!)) ->
        Qw P (do
         let some cells:=Instr.fill (λ i=>some (i*n,n)) ((Array.range (len*n)).map (λ k=>(if len*n=0 then #[]else z.cells)[k % (if len*n=0 then #[]else z.cells).size]!)) ((parts.map λ p=>(p.1,Zc f p.2)).toList)|stuck V
         pure (.slice (some (<- newRow e cells)) len len):Sem Value) K U:=by
       intro V F _
       have Q:(Array.range (len*n)).map (λ k=>(if len*n=0 then #[]else z.cells)[k % (if len*n=0 then #[]else z.cells).size]!)=(if len*n=0 then #[]else(Array.range (len*n)).map (z.cells[· % z.cells.size]!)):=by
        split
        .rename_i W;simp[W]
        .rfl
       rw[Q,ac];simp only[Qc];refine Jm λ b X=>?_;simp only[Qi];obtain⟨I,af,h⟩:=h b X;exact L _ _ _ af h
      have:=λ V=>last V _ rfl;by_cases W:len*n=0
      .rw[if_pos W];simp only[W,if_true]at this;simp only[W,Qi];exact this _
      .rw[if_neg W];simp only[W,if_false]at this;simp only[Qc,Xz G N,Qi];exact this _
     .exact h.elim
    .exact raw _ h
   .exact raw _ h
  .exact raw _ h
 |slice t x lo G mx=>
  cases mx with
  |some _=>exact raw _ h
  |none=>
   simp only[Zb]at h;split at h
   .rename_i e hu;split at h
    .rename_i n B;simp only[execOp,show a.eval=Zc f from funext w];exact ZD (N3 hu B h)
    .exact raw _ h
   .exact raw _ h
 |_=>exact raw _ h
end Go.TM

