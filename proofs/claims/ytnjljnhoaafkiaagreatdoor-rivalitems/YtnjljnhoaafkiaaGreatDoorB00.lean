/- Lemmas. No conditions. -/
import Derived.Conc.Own
import Derived.Orders
import Derived.KernelRfl
set_option linter.all false
theorem K1{α:Sort _}{a b:α}(h:a=b:=by kernel_rfl):a=b:=h
theorem O1{p:Prop}(h:p:=by omega):p:=h
theorem S1{p:Prop}(h:p:=by simp):p:=h
theorem T1{p:Prop}(h:p:=by trivial):p:=h
theorem D1{p:Prop}(h:p:=by decide):p:=h
theorem L1{p:Prop}(h:p:=by show _-_<_-_;omega):p:=h
theorem S2{p:Prop}(h:p:=by simp_all):p:=h
theorem S3{p:Prop}(h:p:=by simp;omega):p:=h
open List
namespace Go
abbrev Gr:=Goroutine
def Value.single:Value->Bool
 |.agg _|.tuple _=>false
 |_=>true
end Go
namespace Go.TM
inductive Qw where
 |obj (b:Nat) (o:Obj)
 |cell (b i:Nat) (v:Value) (T:TypeId) (n:Nat)
def Qw.blk:Qw->Nat
 |.obj b _=>b
 |.cell b _ _ _ _=>b
def Qw.ok(w:World):Qw->Prop
 |.obj b o=>w.heap[b]?=some o
 |.cell b i v T n=>∃c,w.heap[b]?=some (.cells c T (0,0))/\c.size=n/\c[i]?=some v
def Qw.apart:Qw->Qw->Prop
 |.cell b i _ _ _,.cell c j _ _ _=>b≠c\/i≠j
 |r,s=>r.blk≠s.blk
structure Qa(T:Type) where
 I:Nat->Option Obj
 M:List Qw
 tok:T
variable{T:Type}
structure Qa.ok(U:Qa T)(w:World):Prop where
 imm:∀b o,U.I b=some o->w.heap[b]?=some o
 held:∀r∈U.M,r.ok w
 apart:U.M.Pairwise Qw.apart
 sep:∀r∈U.M,U.I r.blk=none
def Qa.canW(U:Qa T):Loc->Prop
 |.cell a=>(∃c t fr,Qw.obj a.block (.cells c t fr)∈U.M/\a.off<c.size)\/(∃v t n,Qw.cell a.block a.off v t n∈U.M)
 |.obj b=>∃o,Qw.obj b o∈U.M
 |_=>False
def Qa.canR(U:Qa T):Loc->Prop
 |.cell a=>U.canW (.cell a)\/∃c t fr,U.I a.block=some (.cells c t fr)/\a.off<c.size
 |.obj b=>U.canW (.obj b)\/∃o,U.I b=some o
 |_=>False
def Loc.new(w:World):Loc->Prop
 |.cell a=>w.heap.size<=a.block
 |.obj b=>w.heap.size<=b
 |_=>False
def Mark.still:Mark->Bool
 |.acquire _|.release _|.releaseMerge _|.disable|.enable|.read _|.write _=>false
 |_=>true
def JV(U:Qa T)(w:World)(e:Event):Prop:=
 match e.loc with
 |.cell a=>e.sync=false/\(if e.write then U.canW (.cell a)\/Loc.new w (.cell a)else U.canR (.cell a)\/Loc.new w (.cell a))
 |.obj b=>e.sync=false/\(if e.write then U.canW (.obj b)\/Loc.new w (.obj b)else U.canR (.obj b)\/Loc.new w (.obj b))
 |.mark m=>Mark.still m=true
 |_=>False
def JZ(o b:Os):Prop:=∃d:Nat,b={ o with wall:=o.wall+d,mono:=o.mono+d }
def JZ.refl(o:Os):JZ o o:=⟨0,rfl⟩
def JZ.trans{a b c:Os}(h:JZ a b)(k:JZ b c):JZ a c:=by
 obtain⟨d,rfl⟩:=h;obtain⟨e,rfl⟩:=k;exact⟨d+e,by simp[Nat.add_assoc]⟩
structure ZQ(U:Qa T)(w w':World)(U':Qa T):Prop where
 os:JZ w.os w'.os
 tape:w'.tape=w.tape
 output:w'.output=w.output
 size:w.heap.size<=w'.heap.size
 cells:∀b c t fr,w.heap[b]?=some (.cells c t fr)->∃c' fr',w'.heap[b]?=some (.cells c' t fr')/\c'.size=c.size/\(∀i,¬U.canW (.cell ⟨b,i,none⟩)->c'[i]?=c[i]?)/\(fr'=fr\/(U.canW (.obj b)/\∀i,i<c.size->U.canW (.cell ⟨b,i,none⟩)))
 objs:∀b o,w.heap[b]?=some o->(∀c t fr,o≠.cells c t fr)->¬U.canW (.obj b)->w'.heap[b]?=some o
 cw:∀l,U'.canW l->U.canW l\/Loc.new w l
 cr:∀l,U'.canR l->U.canR l\/Loc.new w l
def ZQ.refl(U:Qa T)(w:World):ZQ U w w U:=
 ⟨.refl _,rfl,rfl,Nat.le_refl _,λ _ c _ fr h=>⟨c,fr,h,rfl,λ _ _=>rfl,.inl rfl⟩,λ _ _ h _ _=>h,λ _ h=>.inl h,λ _ h=>.inl h⟩
def Loc.new_mono{w w':World}(h:w.heap.size<=w'.heap.size){l:Loc}(hl:Loc.new w' l):Loc.new w l:=by
 cases l <;> simp_all[Loc.new] <;> omega
def DL{w:World}{b:Nat}{o:Obj}(h:w.heap[b]?=some o)(i:Nat):¬Loc.new w (.cell ⟨b,i,none⟩):=by
 have:=(Array.getElem?_eq_some_iff.1 h).1;simp[Loc.new];omega
def DR{w:World}{b:Nat}{o:Obj}(h:w.heap[b]?=some o):¬Loc.new w (.obj b):=by
 have:=(Array.getElem?_eq_some_iff.1 h).1;simp[Loc.new];omega
def ZQ.trans{U Y Z:Qa T}{w K L:World}(h:ZQ U w K Y)(k:ZQ Y K L Z):ZQ U w L Z:=by
 refine⟨h.os.trans k.os,k.tape.trans h.tape,k.output.trans h.output,Nat.le_trans h.size k.size,?_,?_,?_,?_⟩
 .intro b c t fr hb;obtain⟨N,Q,E,B,F,G⟩:=h.cells b c t fr hb;obtain⟨P,S,V,I,W,H⟩:=k.cells b N t Q E;refine⟨P,S,V,I.trans B,λ i M=>?_,?_⟩
  .rw[W i λ f=>?_,F i M];rcases h.cw _ f with f|f
   .exact M f
   .exact DL hb i f
  .rcases H with rfl|⟨ho,M⟩
   .exact G
   .refine .inr ⟨?_,λ i X=>?_⟩
    .rcases h.cw _ ho with f|f
     .exact f
     .exact absurd f (DR hb)
    .rcases h.cw _ (M i (by rw[B];exact X))with f|f
     .exact f
     .exact absurd f (DL hb i)
 .intro b o hb hne f;have E:=h.objs b o hb hne f;refine k.objs b o E hne λ z=>?_;rcases h.cw _ z with z|z
  .exact f z
  .exact DR hb z
 .intro l hl;rcases k.cw l hl with hl|hl
  .exact h.cw l hl
  .exact .inr (Loc.new_mono h.size hl)
 .intro l hl;rcases k.cr l hl with hl|hl
  .exact h.cr l hl
  .exact .inr (Loc.new_mono h.size hl)
def JV.of{U E:Qa T}{w B:World}(h:ZQ U w B E){e:Event}(f:JV E B e):JV U w e:=by
 obtain⟨loc,wr,F⟩:=e;cases loc with
 |cell a=>
  simp only[JV]at f ⊢;refine⟨f.1,?_⟩;have h2:=f.2;split at h2 <;> rename_i z <;> simp only[z,if_true,if_false,Bool.false_eq_true]
  .rcases h2 with h2|h2
   .exact h.cw _ h2
   .exact .inr (Loc.new_mono h.size h2)
  .rcases h2 with h2|h2
   .exact h.cr _ h2
   .exact .inr (Loc.new_mono h.size h2)
 |obj b=>
  simp only[JV]at f ⊢;refine⟨f.1,?_⟩;have h2:=f.2;split at h2 <;> rename_i z <;> simp only[z,if_true,if_false,Bool.false_eq_true]
  .rcases h2 with h2|h2
   .exact h.cw _ h2
   .exact .inr (Loc.new_mono h.size h2)
  .rcases h2 with h2|h2
   .exact h.cr _ h2
   .exact .inr (Loc.new_mono h.size h2)
 |output=>exact f
 |goroutines=>exact f
 |mark m=>exact f
def Qa.sees(U:Qa T)(a:Addr)(v:Value):Prop:=
 a.spot=none/\((∃c t fr,(U.I a.block=some (.cells c t fr)\/Qw.obj a.block (.cells c t fr)∈U.M)/\c[a.off]?=some v)\/(∃t n,Qw.cell a.block a.off v t n∈U.M))
def Qa.has(U:Qa T)(b:Nat)(o:Obj):Prop:=U.I b=some o\/Qw.obj b o∈U.M
inductive XF(a:Addr)(v:Value):List Qw->List Qw->Prop
 |obj {c t M}:a.spot=none->a.off<c.size->XF a v (.obj a.block (.cells c t (0,0))::M) (.obj a.block (.cells (c.setIfInBounds a.off v) t (0,0))::M)
 |cell {u t n M}:a.spot=none->XF a v (.cell a.block a.off u t n::M) (.cell a.block a.off v t n::M)
 |there {r M M'}:XF a v M M'->XF a v (r::M) (r::M')
inductive J0(b:Nat)(o':Obj):Obj->List Qw->List Qw->Prop
 |here {o M}:J0 b o' o (.obj b o::M) (.obj b o'::M)
 |there {o r M M'}:J0 b o' o M M'->J0 b o' o (r::M) (r::M')
def Obj.shapeOf:Obj->Option (TypeId×Nat)
 |.cells c t _=>some (t,c.size)
 |_=>none
def Obj.isCells:Obj->Bool
 |.cells ..=>true
 |_=>false
def Qa.put(U:Qa T)(b:Nat)(o:Obj):Qa T:={ U with M:=.obj b o::U.M }
def Qa.free(U:Qa T)(b:Nat):Prop:=U.I b=none/\∀r∈U.M,r.blk≠b
def Qq(P:Program){α:Type}:Sem α->(α->Qa T->Prop)->Qa T->Prop
 |.pure a,Q,U=>Q a U
 |.load m a k,Q,U=>m=.plain/\∃v,U.sees a v/\Qq P (k v) Q U
 |.store m a v k,Q,U=>m=.plain/\v.single=true/\∃M',XF a v U.M M'/\Qq P k Q { U with M:=M' }
 |.new o k,Q,U=>∀b,U.free b->Qq P (k b) Q (U.put b o)
 |.shape r k,Q,U=>∃o,U.has r o/\Qq P (k (Obj.shapeOf o)) Q U
 |.freeze a n k,Q,U=>n≠0/\∃c t M',U.M=.obj a.block (.cells c t (0,0))::M'/\Qq P k Q { U with M:=.obj a.block (.cells c t (a.off,a.off+n))::M' }
 |.frozen a k,Q,U=>∃c t,U.has a.block (.cells c t (0,0))/\Qq P (k false) Q U
 |.getObj r k,Q,U=>∃o,U.has r o/\Obj.isCells o=false/\o.isChan=false/\Qq P (k o) Q U
 |.setObj r o k,Q,U=>∃f M',J0 r o f U.M M'/\Obj.isCells f=false/\Obj.isCells o=false/\o.isChan=false/\Qq P k Q { U with M:=M' }
 |.choose q k,Q,U=>if q.forced then Qq P (k 0) Q U else ∀t,Qq P (k (q.cut t)) Q U
 |.sys _ _,_,_=>False
 |.program k,Q,U=>Qq P (k P) Q U
 |.mark m k,Q,U=>Mark.still m=true/\Qq P k Q U
 |.halt _,_,_=>False
def Qa.sees_cell{U:Qa T}{w:World}(h:U.ok w){a:Addr}{v:Value}(z:U.sees a v):w.cell? a=some v/\U.canR (.cell a):=by
 obtain⟨b,⟨c,t,fr,hb,f⟩|⟨t,n,hm⟩⟩:=z
 .have hlt:a.off<c.size:=(Array.getElem?_eq_some_iff.1 f).1;rcases hb with hb|hb
  .exact⟨by simp[World.cell?,h.imm _ _ hb,b,f],.inr ⟨c,t,fr,hb,hlt⟩⟩
  .have:=h.held _ hb;simp only[Qw.ok]at this;exact⟨by simp[World.cell?,this,b,f],.inl (.inl ⟨c,t,fr,hb,hlt⟩)⟩
 .obtain⟨c,hb,_,f⟩:=h.held _ hm;exact⟨by simp[World.cell?,hb,b,f],.inl (.inr ⟨v,t,n,hm⟩)⟩
def Qa.has_heap{U:Qa T}{w:World}(h:U.ok w){b:Nat}{o:Obj}(f:U.has b o):w.heap[b]?=some o:=by
 rcases f with f|f
 .exact h.imm _ _ f
 .exact h.held _ f
def zX(w:World)(a:Addr)(v:Value)(c:Array Value)(t:TypeId)(fr:Nat×Nat)(b:a.spot=none)(h:w.heap[a.block]?=some (.cells c t fr)) :
  (w.setCell a v).heap[a.block]?=some (.cells (c.setIfInBounds a.off v) t fr):=by
 simp[World.setCell,Array.getElem?_modify,h,b]
def Wu(w:World)(a:Addr)(v:Value){b:Nat}(h:b≠a.block):(w.setCell a v).heap[b]?=w.heap[b]?:=by
 simp only[World.setCell,Array.getElem?_modify];rw[if_neg (λ e=>h e.symm)]
def zY(w:World)(a:Addr)(v:Value):(w.setCell a v).heap.size=w.heap.size:=by simp[World.setCell]
inductive WH(a:Addr)(v:Value):Qw->Qw->Prop
 |obj {b c t}:b=a.block->a.spot=none->a.off<c.size->WH a v (.obj b (.cells c t (0,0))) (.obj b (.cells (c.setIfInBounds a.off v) t (0,0)))
 |cell {b i u t n}:b=a.block->i=a.off->a.spot=none->WH a v (.cell b i u t n) (.cell b i v t n)
def XF.split{a:Addr}{v:Value}{M M':List Qw}(h:XF a v M M'):∃M₁ r f M₂,M=M₁++r::M₂/\M'=M₁++f::M₂/\WH a v r f:=by
 induction h with
 |obj b w=>exact⟨[],_,_,_,rfl,rfl,.obj rfl b w⟩
 |cell b=>exact⟨[],_,_,_,rfl,rfl,.cell rfl rfl b⟩
 |there _ z=>obtain⟨M₁,r,f,M₂,rfl,rfl,hl⟩:=z;exact⟨_::M₁,r,f,M₂,rfl,rfl,hl⟩
def J0.split{b:Nat}{f o:Obj}{M M':List Qw}(h:J0 b f o M M'):∃M₁ M₂,M=M₁++.obj b o::M₂/\M'=M₁++.obj b f::M₂:=by
 induction h with
 |here=>exact⟨[],_,rfl,rfl⟩
 |there _ w=>obtain⟨M₁,M₂,rfl,rfl⟩:=w;exact⟨_::M₁,M₂,rfl,rfl⟩
def WH.blk{a:Addr}{v:Value}{r s:Qw}(h:WH a v r s):s.blk=r.blk:=by cases h <;> rfl
def WH.blk'{a:Addr}{v:Value}{r s:Qw}(h:WH a v r s):r.blk=a.block:=by cases h <;> simp_all[Qw.blk]
def WH.apart{a:Addr}{v:Value}{r s:Qw}(h:WH a v r s)(x:Qw):s.apart x↔r.apart x:=by
 cases h <;> cases x <;> simp[Qw.apart,Qw.blk]
def Qw.apart_symm{r s:Qw}(h:r.apart s):s.apart r:=by
 cases r <;> cases s <;> simp_all[Qw.apart,Qw.blk,eq_comm]
def WH.apart'{a:Addr}{v:Value}{r s:Qw}(h:WH a v r s)(x:Qw):x.apart s↔x.apart r:=
 ⟨λ k=>Qw.apart_symm ((h.apart x).1 (Qw.apart_symm k)),λ k=>Qw.apart_symm ((h.apart x).2 (Qw.apart_symm k))⟩
def Qw.lets:Qw->Loc->Prop
 |.obj b (.cells c _ _),.cell a=>a.block=b/\a.off<c.size
 |.cell b i _ _ _,.cell a=>a.block=b/\a.off=i
 |.obj b _,.obj f=>f=b
 |_,_=>False
def Q4{U:Qa T}{l:Loc}:U.canW l↔∃r∈U.M,r.lets l:=by
 cases l with
 |cell a=>
  simp only[Qa.canW];constructor
  .rintro(⟨c,t,fr,hm,f⟩|⟨v,t,n,hm⟩)
   .exact⟨_,hm,rfl,f⟩
   .exact⟨_,hm,rfl,rfl⟩
  .rintro⟨r,hr,hl⟩;cases r with
   |obj b o=>
    cases o <;> simp only[Qw.lets]at hl;obtain⟨rfl,f⟩:=hl;exact .inl ⟨_,_,_,hr,f⟩
   |cell b i v t n=>
    simp only[Qw.lets]at hl;obtain⟨rfl,rfl⟩:=hl;exact .inr ⟨_,_,_,hr⟩
 |obj b=>
  simp only[Qa.canW];constructor
  .rintro⟨o,h⟩;exact⟨_,h,by cases o <;> rfl⟩
  .rintro⟨r,hr,hl⟩;cases r with
   |obj w o=>refine⟨o,?_⟩;cases o <;> (simp only[Qw.lets]at hl;exact hl▸hr)
   |cell w i v t n=>exact hl.elim
 |output=>simp[Qa.canW];intro r _ h;cases r with|obj b o=>cases o <;> exact h|cell=>exact h
 |goroutines=>simp[Qa.canW];intro r _ h;cases r with|obj b o=>cases o <;> exact h|cell=>exact h
 |mark _=>simp[Qa.canW];intro r _ h;cases r with|obj b o=>cases o <;> exact h|cell=>exact h
def WH.lets{a:Addr}{v:Value}{r s:Qw}(h:WH a v r s)(l:Loc):s.lets l↔r.lets l:=by
 cases h <;> cases l <;> simp[Qw.lets]
def WH.canAt{a:Addr}{v:Value}{r s:Qw}(h:WH a v r s):r.lets (.cell a):=by
 cases h <;> simp_all[Qw.lets]
def Qx{U:Qa T}{l:Loc}:U.canR l↔(∃r∈U.M,r.lets l)\/(match l with|.cell a=>∃c t fr,U.I a.block=some (.cells c t fr)/\a.off<c.size|.obj b=>∃o,U.I b=some o|_=>False):=by
 have:=Q4 (U:=U) (l:=l);cases l <;> simp only[Qa.canR,<- this] <;> simp[Qa.canW]
def jC{U:Qa T}{w:World}(h:U.ok w){a:Addr}{v:Value}{M':List Qw}(hu:XF a v U.M M') :
  (∃u,w.cell? a=some u)/\w.frozen? a=false/\U.canW (.cell a)/\Qa.ok { U with M:=M' } (w.setCell a v)/\ZQ U w (w.setCell a v) { U with M:=M' }:=by
 obtain⟨M₁,r,Z,M₂,N,rfl,hl⟩:=hu.split;have S:r∈U.M:=by rw[N];simp
 have X:U.canW (.cell a):=Q4.2 ⟨r,S,hl.canAt⟩;have H:=h.held r S;have V:a.spot=none:=by cases hl <;> assumption
 obtain⟨c,t,hb,L⟩:∃c t,w.heap[a.block]?=some (.cells c t (0,0))/\a.off<c.size:=by
  cases hl with
  |obj e _ L=>subst e;exact⟨_,_,H,L⟩
  |cell e e' _=>subst e;subst e';obtain⟨c,hb,_,hc⟩:=H;exact⟨c,_,hb,(Array.getElem?_eq_some_iff.1 hc).1⟩
 have F:=zX w a v c t (0,0) V hb
 have G:∀l,(∃s∈M₁++Z::M₂,s.lets l)↔∃s∈U.M,s.lets l:=by
  intro l;rw[N];simp only[mem_append,mem_cons];constructor
  .rintro⟨s,z|rfl|z,hl'⟩
   .exact⟨s,.inl z,hl'⟩
   .exact⟨r,.inr (.inl rfl),(hl.lets l).1 hl'⟩
   .exact⟨s,.inr (.inr z),hl'⟩
  .rintro⟨s,z|rfl|z,hl'⟩
   .exact⟨s,.inl z,hl'⟩
   .exact⟨Z,.inr (.inl rfl),(hl.lets l).2 hl'⟩
   .exact⟨s,.inr (.inr z),hl'⟩
 have f:=h.apart;rw[N]at f;refine⟨⟨c[a.off],by simp[World.cell?,hb,V,L]⟩,by simp[World.frozen?,hb],X,⟨?_,?_,?_,?_⟩,?_⟩
 .intro b o hI
  have B:b≠a.block:=by
   intro e;have:=h.sep r S;rw[hl.blk',<- e,hI]at this;cases this
  rw[Wu _ _ _ B];exact h.imm b o hI
 .intro s z;simp only[mem_append,mem_cons]at z
  have K:∀s,s∈U.M->r.apart s->s.ok (w.setCell a v):=by
   intro s z f;have Q:=h.held s z;cases s with
   |obj b o=>
    have B:b≠a.block:=by
     cases hl <;> simp_all[Qw.apart,Qw.blk] <;> exact λ e=>f e.symm
    simp only[Qw.ok]at Q ⊢;rw[Wu _ _ _ B];exact Q
   |cell b i u t' n=>
    obtain⟨c',E,W,P⟩:=Q;by_cases B:b=a.block
    .subst B;cases hl with
     |obj e _ _=>exact absurd e.symm (by simpa[Qw.apart,Qw.blk]using λ e=>f e.symm)
     |cell e e' _=>
      have Y:i≠a.off:=by
       simp[Qw.apart]at f;rcases f with f|f
       .exact absurd e f
       .exact λ x=>f (e'.trans x.symm)
      rw[hb]at E;cases E;refine⟨c.setIfInBounds a.off v,F,by simpa using W,?_⟩;rw[Array.getElem?_setIfInBounds_ne (λ x=>Y x.symm)];exact P
    .exact⟨c',by rw[Wu _ _ _ B];exact E,W,P⟩
  rw[pairwise_append,pairwise_cons]at f;rcases z with z|rfl|z
  .exact K s (by rw[N];simp[z]) (Qw.apart_symm (f.2.2 s z r S1))
  .cases hl with
   |obj e _ _=>subst e;simp only[Qw.ok]at H ⊢;rw[H]at hb;cases hb;exact F
   |cell e e' _=>
    subst e;subst e';obtain⟨c',E,W,P⟩:=H;rw[hb]at E;cases E;exact⟨_,F,by simpa using W,by rw[Array.getElem?_setIfInBounds_self_of_lt L]⟩
  .exact K s (by rw[N];simp[z]) (f.2.1.1 s z)
 .show Pairwise Qw.apart (M₁++Z::M₂);rw[pairwise_append,pairwise_cons]at f ⊢;refine⟨f.1,⟨λ s z=>(hl.apart s).2 (f.2.1.1 s z),f.2.1.2⟩,λ s z x hx=>?_⟩;rcases mem_cons.1 hx with rfl|hx
  .exact(hl.apart' s).2 (f.2.2 s z r S1)
  .exact f.2.2 s z x (by simp[hx])
 .intro s z;show U.I s.blk=none;simp only[mem_append,mem_cons]at z;rcases z with z|rfl|z
  .exact h.sep s (by rw[N];simp[z])
  .rw[hl.blk];exact h.sep r S
  .exact h.sep s (by rw[N];simp[z])
 .refine⟨.refl _,rfl,rfl,by rw[zY];exact Nat.le_refl _,?_,?_,?_,?_⟩
  .intro b c' t' fr E;by_cases B:b=a.block
   .subst B;rw[hb]at E;cases E;refine⟨_,_,F,S1,λ i Y=>?_,.inl rfl⟩;rw[Array.getElem?_setIfInBounds_ne];rintro rfl;refine Y (Q4.2 ⟨r,S,?_⟩);have:=hl.canAt;cases hl <;> simp_all[Qw.lets]
   .exact⟨c',fr,by rw[Wu _ _ _ B];exact E,rfl,λ _ _=>rfl,.inl rfl⟩
  .intro b o ho B _;by_cases e:b=a.block
   .subst e;rw[hb]at ho;cases ho;exact absurd rfl (B _ _ _)
   .rw[Wu _ _ _ e];exact ho
  .intro l hl';rw[Q4]at hl' ⊢;exact .inl ((G l).1 hl')
  .intro l hl';rw[Qx]at hl' ⊢;exact .inl (hl'.imp (G l).1 id)
def World.plus(w:World)(o:Obj):World:={ w with heap:=w.heap.push o }
def yH{U:Qa T}{w:World}(h:U.ok w)(o:Obj) :
  U.free w.heap.size/\Qa.ok (U.put w.heap.size o) (World.plus w o)/\ZQ U w (World.plus w o) (U.put w.heap.size o):=by
 have z:∀b,b<w.heap.size->(World.plus w o).heap[b]?=w.heap[b]?:=λ b hb=>by
  simp only[World.plus,Array.getElem?_push];rw[if_neg O1]
 have E:∀r∈U.M,r.blk<w.heap.size:=by
  intro r f;have:=h.held r f;cases r with
  |obj b o=>exact(Array.getElem?_eq_some_iff.1 this).1
  |cell b i v t n=>obtain⟨c,hb,_⟩:=this;exact(Array.getElem?_eq_some_iff.1 hb).1
 have B:U.free w.heap.size:=by
  refine⟨?_,λ r f e=>by have:=E r f;omega⟩;cases e:U.I w.heap.size with
  |none=>rfl
  |some x=>have:=(Array.getElem?_eq_some_iff.1 (h.imm _ _ e)).1;omega
 have G:∀b F,U.I b=some F->b<w.heap.size:=λ b F e=>(Array.getElem?_eq_some_iff.1 (h.imm _ _ e)).1;refine⟨B,⟨λ b F e=>by rw[z _ (G b F e)];exact h.imm b F e,?_,?_,?_⟩,?_⟩
 .intro r f;rcases mem_cons.1 f with rfl|f
  .simp[Qw.ok,World.plus]
  .have:=h.held r f;cases r with
   |obj b F=>exact(z b (E _ f)).trans this
   |cell b i v t n=>obtain⟨c,hb,x⟩:=this;exact⟨c,(z b (E _ f)).trans hb,x⟩
 .refine pairwise_cons.2 ⟨λ r f=>?_,h.apart⟩;have:=E r f;cases r <;> simp_all[Qw.apart,Qw.blk] <;> omega
 .intro r f;rcases mem_cons.1 f with rfl|f
  .exact B.1
  .exact h.sep r f
 .refine⟨.refl _,rfl,rfl,by simp[World.plus],?_,?_,?_,?_⟩
  .intro b c t fr hb;exact⟨c,fr,by rw[z _ (Array.getElem?_eq_some_iff.1 hb).1];exact hb,rfl,λ _ _=>rfl,.inl rfl⟩
  .intro b F hb _ _;rw[z _ (Array.getElem?_eq_some_iff.1 hb).1];exact hb
  .intro l hl;rw[Q4]at hl ⊢;obtain⟨r,f,hl⟩:=hl;rcases mem_cons.1 f with rfl|f
   .refine .inr ?_;cases l <;> cases o <;> simp_all[Qw.lets,Loc.new]
   .exact .inl ⟨r,f,hl⟩
  .intro l hl;rw[Qx]at hl ⊢;rcases hl with⟨r,f,hl⟩|hl
   .rcases mem_cons.1 f with rfl|f
    .refine .inr ?_;cases l <;> cases o <;> simp_all[Qw.lets,Loc.new]
    .exact .inl (.inl ⟨r,f,hl⟩)
   .exact .inl (.inr hl)
def ge{U:Qa T}{w:World}(h:U.ok w){b:Nat}{E o:Obj}{M':List Qw}(hu:J0 b E o U.M M')(h1:Obj.isCells o=false)(h2:Obj.isCells E=false) :
  w.heap[b]?=some o/\U.canW (.obj b)/\Qa.ok { U with M:=M' } { w with heap:=w.heap.setIfInBounds b E }/\ZQ U w { w with heap:=w.heap.setIfInBounds b E } { U with M:=M' }:=by
 obtain⟨M₁,M₂,N,rfl⟩:=hu.split;have V:Qw.obj b o∈U.M:=by rw[N];simp
 have hb:w.heap[b]?=some o:=h.held _ V;have X:=(Array.getElem?_eq_some_iff.1 hb).1;have Q:U.canW (.obj b):=⟨o,V⟩;have f:=h.apart;rw[N]at f
 have B:∀x,x≠b->(w.heap.setIfInBounds b E)[x]?=w.heap[x]?:=λ x hx=>by
  rw[Array.getElem?_setIfInBounds_ne (λ e=>hx e.symm)]
 have H:∀l,(Qw.obj b E).lets l↔(Qw.obj b o).lets l:=by
  intro l;cases o <;> cases E <;> simp_all[Obj.isCells] <;> cases l <;> simp[Qw.lets]
 have L:∀l,(∃s∈M₁++Qw.obj b E::M₂,s.lets l)↔∃s∈U.M,s.lets l:=by
  intro l;rw[N];simp only[mem_append,mem_cons];constructor
  .rintro⟨s,z|rfl|z,hl'⟩
   .exact⟨s,.inl z,hl'⟩
   .exact⟨_,.inr (.inl rfl),(H l).1 hl'⟩
   .exact⟨s,.inr (.inr z),hl'⟩
  .rintro⟨s,z|rfl|z,hl'⟩
   .exact⟨s,.inl z,hl'⟩
   .exact⟨_,.inr (.inl rfl),(H l).2 hl'⟩
   .exact⟨s,.inr (.inr z),hl'⟩
 have P:∀x,(Qw.obj b E).apart x↔(Qw.obj b o).apart x:=λ x=>by cases x <;> simp[Qw.apart,Qw.blk]
 refine⟨hb,Q,⟨?_,?_,?_,?_⟩,?_⟩
 .intro x Y hI;have F:x≠b:=by rintro rfl;have:=h.sep _ V;simp only[Qw.blk]at this;rw[hI]at this;cases this
  show(w.heap.setIfInBounds b E)[x]?=_;rw[B x F];exact h.imm x Y hI
 .intro s z
  have K:∀s,s∈U.M->(Qw.obj b o).apart s->s.ok { w with heap:=w.heap.setIfInBounds b E }:=by
   intro s z f;have S:=h.held s z;cases s with
   |obj x Y=>
    have F:x≠b:=by simp[Qw.apart,Qw.blk]at f;exact λ e=>f e.symm
    show(w.heap.setIfInBounds b E)[x]?=_;rw[B x F];exact S
   |cell x i u t n=>
    have F:x≠b:=by simp[Qw.apart,Qw.blk]at f;exact λ e=>f e.symm
    obtain⟨c',G,Z,W⟩:=S;exact⟨c',(B x F).trans G,Z,W⟩
  simp only[mem_append,mem_cons]at z;rw[pairwise_append,pairwise_cons]at f;rcases z with z|rfl|z
  .exact K s (by rw[N];simp[z]) (Qw.apart_symm (f.2.2 s z _ S1))
  .show(w.heap.setIfInBounds b E)[b]?=_;rw[Array.getElem?_setIfInBounds_self_of_lt X]
  .exact K s (by rw[N];simp[z]) (f.2.1.1 s z)
 .show Pairwise Qw.apart (M₁++Qw.obj b E::M₂);rw[pairwise_append,pairwise_cons]at f ⊢;refine⟨f.1,⟨λ s z=>(P s).2 (f.2.1.1 s z),f.2.1.2⟩,λ s z x hx=>?_⟩;rcases mem_cons.1 hx with rfl|hx
  .exact Qw.apart_symm ((P s).2 (Qw.apart_symm (f.2.2 s z _ S1)))
  .exact f.2.2 s z x (by simp[hx])
 .intro s z;show U.I s.blk=none;simp only[mem_append,mem_cons]at z;rcases z with z|rfl|z
  .exact h.sep s (by rw[N];simp[z])
  .exact(h.sep _ V:U.I b=none)
  .exact h.sep s (by rw[N];simp[z])
 .refine⟨.refl _,rfl,rfl,S1,?_,?_,?_,?_⟩
  .intro x c' t' fr G;by_cases e:x=b
   .subst e;rw[hb]at G;cases G;simp[Obj.isCells]at h1
   .exact⟨c',fr,(B x e).trans G,rfl,λ _ _=>rfl,.inl rfl⟩
  .intro x Y ho F hw;by_cases e:x=b
   .subst e;exact absurd Q hw
   .exact(B x e).trans ho
  .intro l hl';rw[Q4]at hl' ⊢;exact .inl ((L l).1 hl')
  .intro l hl';rw[Qx]at hl' ⊢;exact .inl (hl'.imp (L l).1 id)
def ES(w:World)(a:Addr)(n:Nat)(b:n≠0)(c:Array Value)(t:TypeId)(h:w.heap[a.block]?=some (.cells c t (0,0))):(w.freeze a n).heap[a.block]?=some (.cells c t (a.off,a.off+n)):=by
 simp[World.freeze,b,Array.getElem?_modify,h]
def W3(w:World)(a:Addr)(n:Nat){b:Nat}(h:b≠a.block):(w.freeze a n).heap[b]?=w.heap[b]?:=by
 unfold World.freeze;split
 .rfl
 .simp only[Array.getElem?_modify];rw[if_neg (λ e=>h e.symm)]
def Nk(w:World)(a:Addr)(n:Nat):(w.freeze a n).heap.size=w.heap.size:=by unfold World.freeze;split <;> simp
def OE(w:World)(a:Addr)(n:Nat):(w.freeze a n).os=w.os/\(w.freeze a n).tape=w.tape/\(w.freeze a n).output=w.output:=by unfold World.freeze;split <;> exact⟨rfl,rfl,rfl⟩
def gd{U:Qa T}{w:World}(h:U.ok w){a:Addr}{n:Nat}(N:n≠0){c:Array Value}{t:TypeId}{M':List Qw}(G:U.M=.obj a.block (.cells c t (0,0))::M') :
  Qa.ok { U with M:=.obj a.block (.cells c t (a.off,a.off+n))::M' } (w.freeze a n)/\ZQ U w (w.freeze a n) { U with M:=.obj a.block (.cells c t (a.off,a.off+n))::M' }:=by
 have H:Qw.obj a.block (.cells c t (0,0))∈U.M:=by rw[G];simp
 have hb:w.heap[a.block]?=some (.cells c t (0,0)):=h.held _ H;have E:=h.apart;rw[G,pairwise_cons]at E;have z:∀l,(Qw.obj a.block (.cells c t (a.off,a.off+n))).lets l↔(Qw.obj a.block (.cells c t (0,0))).lets l:=λ l=>by cases l <;> rfl
 have B:∀l,(∃s∈Qw.obj a.block (.cells c t (a.off,a.off+n))::M',s.lets l)↔∃s∈U.M,s.lets l:=by
  intro l;rw[G];constructor
  .rintro⟨s,f,hl⟩;rcases mem_cons.1 f with rfl|f
   .exact⟨_,mem_cons_self ..,(z l).1 hl⟩
   .exact⟨s,mem_cons_of_mem _ f,hl⟩
  .rintro⟨s,f,hl⟩;rcases mem_cons.1 f with rfl|f
   .exact⟨_,mem_cons_self ..,(z l).2 hl⟩
   .exact⟨s,mem_cons_of_mem _ f,hl⟩
 have ne:∀r∈M',r.blk≠a.block:=λ r F e=>by
  have:=E.1 r F;cases r <;> simp_all[Qw.apart,Qw.blk]
 refine⟨⟨λ b o L=>?_,λ s f=>?_,?_,λ s f=>?_⟩,?_⟩
 .have:b≠a.block:=by rintro rfl;have:=h.sep _ H;simp only[Qw.blk]at this;rw[L]at this;cases this
  rw[W3 _ _ _ this];exact h.imm b o L
 .rcases mem_cons.1 f with rfl|f
  .exact ES w a n N c t hb
  .have hne:=ne s f;have K:=h.held s (by rw[G];simp[f]);cases s with
   |obj b o=>exact(W3 w a n hne).trans K
   |cell b i v t n'=>obtain⟨c',h1,h2⟩:=K;exact⟨c',(W3 w a n hne).trans h1,h2⟩
 .show Pairwise Qw.apart (_::M');rw[pairwise_cons];refine⟨λ r F=>?_,E.2⟩;have:=ne r F;cases r <;> simp_all[Qw.apart,Qw.blk] <;> exact λ e=>this e.symm
 .rcases mem_cons.1 f with rfl|f
  .exact(h.sep _ H:U.I a.block=none)
  .exact h.sep s (by rw[G];simp[f])
 .refine⟨by rw[(OE w a n).1];exact .refl _,(OE w a n).2.1,(OE w a n).2.2,by rw[Nk];exact Nat.le_refl _,?_,?_,?_,?_⟩
  .intro b c' t' fr hb';by_cases e:b=a.block
   .subst e;rw[hb]at hb';cases hb';exact⟨c,_,ES w a n N c t hb,rfl,λ _ _=>rfl,.inr ⟨Q4.2 ⟨_,H,rfl⟩,λ i P=>Q4.2 ⟨_,H,rfl,P⟩⟩⟩
   .exact⟨c',fr,by rw[W3 _ _ _ e];exact hb',rfl,λ _ _=>rfl,.inl rfl⟩
  .intro b o ho hne _;by_cases e:b=a.block
   .subst e;rw[hb]at ho;cases ho;exact absurd rfl (hne _ _ _)
   .rw[W3 _ _ _ e];exact ho
  .intro l hl;rw[Q4]at hl ⊢;exact .inl ((B l).1 hl)
  .intro l hl;rw[Qx]at hl ⊢;exact .inl (hl.imp (B l).1 id)
def Dt{U:Qa T}{w:World}(h:U.ok w)(d:Nat):U.ok { w with drawn:=d }:=⟨h.imm,h.held,h.apart,h.sep⟩
def Od(U:Qa T)(w:World)(d:Nat):ZQ U w { w with drawn:=d } U:=
 ⟨.refl _,rfl,rfl,Nat.le_refl _,λ _ c _ fr h=>⟨c,fr,h,rfl,λ _ _=>rfl,.inl rfl⟩,λ _ _ h _ _=>h,λ _ h=>.inl h,λ _ h=>.inl h⟩
def XS(w:World)(e:Event):Prop:=
 match e.loc with
 |.cell a=>a.block<w.heap.size
 |.obj b=>b<w.heap.size
 |_=>True
def XS.mono{w w':World}{e:Event}(h:XS w e)(b:w.heap.size<=w'.heap.size):XS w' e:=by
 obtain⟨loc,wr,f⟩:=e;cases loc <;> simp only[XS]at h ⊢ <;> omega
def L0{w:World}{a:Addr}{v:Value}(h:w.cell? a=some v):a.block<w.heap.size:=by
 apply Classical.byContradiction;intro b;have:w.heap[a.block]?=none:=Array.getElem?_eq_none (Nat.le_of_not_lt b);simp[World.cell?,this]at h
def Qq.sound{P:Program}{α:Type}(s:Sem α):∀{Q:α->Qa T->Prop}{U:Qa T}{w:World}{es₀:Array Event},Qq P s Q U->U.ok w ->
  ∃a w' es U',s.runT P w es₀=(.ok a w',es₀++es)/\(∀e∈es,JV U w e/\XS w' e)/\ZQ U w w' U'/\U'.ok w'/\Q a U'/\U'.tok=U.tok:=by
 induction s with
 |pure a=>exact λ{Q U w es₀}h ok=>⟨a,w,#[],U,by simp[Sem.runT],S1,.refl _ _,ok,h,rfl⟩
 |load m a k I=>
  intro Q U w es₀ h ok;obtain⟨rfl,v,hs,h⟩:=h;obtain⟨S,hr⟩:=Qa.sees_cell ok hs;obtain⟨x,w',es,U',b,f,E,z,G⟩:=I v (es₀:=es₀.push ⟨.cell a,false,false⟩) h ok;refine⟨x,w',#[⟨.cell a,false,false⟩]++es,U',?_,?_,E,z,G⟩
  .simp only[Sem.runT,S];rw[show(Mode.plain==Mode.atomic)=false from rfl,b];simp
  .intro e B;rcases Array.mem_append.1 B with B|B
   .simp at B;subst B;exact⟨⟨rfl,.inl hr⟩,Nat.lt_of_lt_of_le (L0 S) E.size⟩
   .exact f e B
 |store m a v k I=>
  intro Q U w es₀ h ok;obtain⟨rfl,hv,M',X,h⟩:=h;obtain⟨⟨u,S⟩,hf,M,H,F⟩:=jC ok X;obtain⟨x,w',es,U',b,f,E,z,G⟩:=I (es₀:=es₀.push ⟨.cell a,true,false⟩) h H;refine⟨x,w',#[⟨.cell a,true,false⟩]++es,U',?_,?_,F.trans E,z,G⟩
  .have:Sem.runT P (.store .plain a v k) w es₀=k.runT P (w.setCell a v) (es₀.push ⟨.cell a,true,false⟩):=by
    cases v <;> first|(simp[Value.single]at hv;done)|(simp only[Sem.runT,S,hf];rfl)
   rw[this,b];simp
  .intro e B;rcases Array.mem_append.1 B with B|B
   .simp at B;subst B;exact⟨⟨rfl,.inl M⟩,Nat.lt_of_lt_of_le (L0 S) (F.trans E).size⟩
   .exact⟨JV.of F (f e B).1,(f e B).2⟩
 |new o k I=>
  intro Q U w es₀ h ok;obtain⟨hf,H,F⟩:=yH ok o;obtain⟨x,w',es,U',b,f,E,z,G⟩:=I w.heap.size (es₀:=es₀) (h _ hf) H;exact⟨x,w',es,U',b,λ e B=>⟨JV.of F (f e B).1,(f e B).2⟩,F.trans E,z,G⟩
 |shape r k I=>
  intro Q U w es₀ h ok;obtain⟨o,K,h⟩:=h;have hb:=Qa.has_heap ok K
  have W:w.shape? r=Obj.shapeOf o:=by
   simp only[World.shape?,hb];cases o <;> rfl
  obtain⟨x,w',es,U',b,f,E,z,G⟩:=I _ (es₀:=es₀) h ok;exact⟨x,w',es,U',by simp only[Sem.runT];rw[W];exact b,f,E,z,G⟩
 |freeze a n k I=>
  intro Q U w es₀ h ok;obtain⟨Z,c,t,M',Y,h⟩:=h;obtain⟨H,F⟩:=gd ok Z Y;obtain⟨x,w',es,U',b,f,E,z,G⟩:=I (es₀:=es₀) h H;exact⟨x,w',es,U',by simpa only[Sem.runT]using b,λ e B=>⟨JV.of F (f e B).1,(f e B).2⟩,F.trans E,z,G⟩
 |frozen a k I=>
  intro Q U w es₀ h ok;obtain⟨c,t,hb,h⟩:=h;have hb:=Qa.has_heap ok hb;obtain⟨x,w',es,U',b,f,E,z,G⟩:=I false (es₀:=es₀) h ok;have V:w.frozen? a=false:=by simp[World.frozen?,hb]
  exact⟨x,w',es,U',by simp only[Sem.runT,V];exact b,f,E,z,G⟩
 |getObj r k I=>
  intro Q U w es₀ h ok;obtain⟨o,K,S,L,h⟩:=h;have hb:=Qa.has_heap ok K;obtain⟨x,w',es,U',b,f,E,z,G⟩:=I o (es₀:=es₀.push ⟨.obj r,false,false⟩) h ok;refine⟨x,w',#[⟨.obj r,false,false⟩]++es,U',?_,?_,E,z,G⟩
  .have:Sem.runT P (.getObj r k) w es₀=(k o).runT P w (es₀.push ⟨.obj r,false,o.isChan⟩):=by
    simp only[Sem.runT,hb];cases o <;> simp_all[Obj.isCells]
   rw[this,L,b];simp
  .intro e B;rcases Array.mem_append.1 B with B|B
   .simp at B;subst B;refine⟨⟨rfl,.inl ?_⟩,Nat.lt_of_lt_of_le (Array.getElem?_eq_some_iff.1 hb).1 E.size⟩;rcases K with K|K
    .exact .inr ⟨o,K⟩
    .exact .inl ⟨o,K⟩
   .exact f e B
 |setObj r o k I=>
  intro Q U w es₀ h ok;obtain⟨o0,M',X,h1,h2,L,h⟩:=h;obtain⟨hb,M,H,F⟩:=ge ok X h1 h2;obtain⟨x,w',es,U',b,f,E,z,G⟩:=I (es₀:=es₀.push ⟨.obj r,true,false⟩) h H;refine⟨x,w',#[⟨.obj r,true,false⟩]++es,U',?_,?_,F.trans E,z,G⟩
  .have:Sem.runT P (.setObj r o k) w es₀=k.runT P { w with heap:=w.heap.setIfInBounds r o } (es₀.push ⟨.obj r,true,o.isChan⟩):=by
    simp only[Sem.runT,hb];cases o0 <;> simp_all[Obj.isCells]
   rw[this,L,b];simp
  .intro e B;rcases Array.mem_append.1 B with B|B
   .simp at B;subst B;exact⟨⟨rfl,.inl M⟩,Nat.lt_of_lt_of_le (Array.getElem?_eq_some_iff.1 hb).1 (F.trans E).size⟩
   .exact⟨JV.of F (f e B).1,(f e B).2⟩
 |choose q k I=>
  intro Q U w es₀ h ok;simp only[Qq]at h;by_cases G:q.forced=true
  .rw[if_pos G]at h;obtain⟨x,w',es,U',b,f,E,z,N⟩:=I 0 (es₀:=es₀) h ok;exact⟨x,w',es,U',by simp only[Sem.runT,G,if_true];exact b,f,E,z,N⟩
  .rw[if_neg G]at h;obtain⟨x,w',es,U',b,f,E,z,N⟩:=I _ (es₀:=es₀) (h (w.tape w.drawn q)) (Dt ok (w.drawn+1));exact⟨x,w',es,U',by simp only[Sem.runT,G];exact b,λ e B=>⟨JV.of (Od U w _) (f e B).1,(f e B).2⟩,(Od U w _).trans E,z,N⟩
 |sys c k I=>exact λ{Q U w es₀}h ok=>h.elim
 |program k I=>
  intro Q U w es₀ h ok;obtain⟨x,w',es,U',b,f,E,z,G⟩:=I P (es₀:=es₀) h ok;exact⟨x,w',es,U',by simpa only[Sem.runT]using b,f,E,z,G⟩
 |mark m k I=>
  intro Q U w es₀ h ok;obtain⟨hm,h⟩:=h;obtain⟨x,w',es,U',b,f,E,z,G⟩:=I (es₀:=es₀.push ⟨.mark m,false,true⟩) h ok;refine⟨x,w',#[⟨.mark m,false,true⟩]++es,U',?_,?_,E,z,G⟩
  .simp only[Sem.runT];rw[b];simp
  .intro e B;rcases Array.mem_append.1 B with B|B
   .simp at B;subst B;exact⟨hm,trivial⟩
   .exact f e B
 |halt h=>exact λ{Q U w es₀}h ok=>h.elim
def Qq.mono{P:Program}{α:Type}(s:Sem α):∀{Q w:α->Qa T->Prop}{U:Qa T},Qq P s Q U->(∀a U,Q a U->w a U)->Qq P s w U:=by
 induction s with
 |pure a=>exact λ h q=>q _ _ h
 |load m a k f=>exact λ⟨e,v,F,h⟩q=>⟨e,v,F,f v h q⟩
 |store m a v k f=>exact λ⟨e,e',M',G,h⟩q=>⟨e,e',M',G,f h q⟩
 |new o k f=>exact λ h q b hb=>f b (h b hb) q
 |shape r k f=>exact λ⟨o,E,h⟩q=>⟨o,E,f _ h q⟩
 |freeze a n k f=>exact λ⟨x,c,t,M',B,h⟩q=>⟨x,c,t,M',B,f h q⟩
 |frozen a k f=>exact λ⟨c,t,hb,h⟩q=>⟨c,t,hb,f _ h q⟩
 |getObj r k f=>exact λ⟨o,a,b,c,h⟩q=>⟨o,a,b,c,f _ h q⟩
 |setObj r o k f=>exact λ⟨H,M',a,b,c,d,h⟩q=>⟨H,M',a,b,c,d,f h q⟩
 |choose q k f=>
  intro Q w U h z;simp only[Qq]at h ⊢;split <;> rename_i hf <;> simp only[hf,if_true,if_false,Bool.false_eq_true]at h
  .exact f 0 h z
  .exact λ t=>f _ (h t) z
 |sys c k f=>exact λ h _=>h
 |program k f=>exact λ h q=>f _ h q
 |mark m k f=>exact λ⟨a,h⟩q=>⟨a,f h q⟩
 |halt h=>exact λ h _=>h
def Oi{P:Program}{α β:Type}(s:Sem α)(f:α->Sem β):∀{Q:β->Qa T->Prop}{U:Qa T},Qq P (s.bind f) Q U↔Qq P s (λ a U=>Qq P (f a) Q U) U:=by
 induction s with
 |pure a=>exact λ{_ _}=>Iff.rfl
 |load m a k b=>intro Q U;simp only[Sem.bind,Qq,b]
 |store m a v k b=>intro Q U;simp only[Sem.bind,Qq,b]
 |new o k b=>intro Q U;simp only[Sem.bind,Qq,b]
 |shape r k b=>intro Q U;simp only[Sem.bind,Qq,b]
 |freeze a n k b=>intro Q U;simp only[Sem.bind,Qq,b]
 |frozen a k b=>intro Q U;simp only[Sem.bind,Qq,b]
 |getObj r k b=>intro Q U;simp only[Sem.bind,Qq,b]
 |setObj r o k b=>intro Q U;simp only[Sem.bind,Qq,b]
 |choose q k b=>intro Q U;simp only[Sem.bind,Qq,b]
 |sys c k b=>intro Q U;simp only[Sem.bind,Qq]
 |program k b=>intro Q U;simp only[Sem.bind,Qq,b]
 |mark m k b=>intro Q U;simp only[Sem.bind,Qq,b]
 |halt h=>intro Q U;simp only[Sem.bind,Qq]
end Go.TM
namespace Go.TM
variable{T:Type}{P:Program}
structure Sys(P:Program)(T:Type) where
 syn:(Bool->Gr->Qa T->Prop)->Bool->Gr->Qa T->Prop
 mono:∀{X Y:Bool->Gr->Qa T->Prop},(∀m g U,X m g U->Y m g U)->∀m g U,syn X m g U->syn Y m g U
def Qv(U U':Qa T):Prop:=U'.tok=U.tok/\∀w,U.ok w->U'.ok w/\(∀l,U'.canW l->U.canW l)/\(∀l,U'.canR l->U.canR l)
def Qv.refl(U:Qa T):Qv U U:=⟨rfl,λ _ h=>⟨h,λ _ h=>h,λ _ h=>h⟩⟩
def Qv.trans{U f z:Qa T}(h:Qv U f)(k:Qv f z):Qv U z:=
 ⟨k.1.trans h.1,λ w ok=>let ⟨a,b,c⟩:=h.2 w ok;let ⟨a',b',c'⟩:=k.2 w a;⟨a',λ l x=>b l (b' l x),λ l x=>c l (c' l x)⟩⟩
abbrev QI(T:Type):=Bool->Gr->Qa T->Prop
def GE(P:Program)(X:QI T)(m:Bool)(g:Gr)(U:Qa T):Prop:=
 g.status=.running/\∀w,U.ok w->∃g' w' es U',stepG P m g w=.go g' w' es/\(∀e∈es,JV U w e/\XS w' e)/\ZQ U w w' U'/\U'.ok w'/\U'.tok=U.tok/\X m g' U'
def FJ(S:Sys P T)(Stop:QI T)(X:QI T)(m:Bool)(g:Gr)(U:Qa T):Prop:=
 ∃b,Qv U b/\(Stop m g b\/GE P X m g b\/S.syn X m g b)
def J(S:Sys P T)(Stop:QI T)(m:Bool)(g:Gr)(U:Qa T):Prop:=
 ∀X:QI T,(∀m g U,FJ S Stop X m g U->X m g U)->X m g U
def GE.mono{X Y:QI T}(h:∀m g U,X m g U->Y m g U){m:Bool}{g:Gr}{U:Qa T}(k:GE P X m g U):GE P Y m g U:=
 ⟨k.1,λ w ok=>let ⟨g',w',es,U',a,b,c,d,e,f⟩:=k.2 w ok;⟨g',w',es,U',a,b,c,d,e,h _ _ _ f⟩⟩
def FJ.mono{S:Sys P T}{Stop X Y:QI T}(h:∀m g U,X m g U->Y m g U){m:Bool}{g:Gr}{U:Qa T}(k:FJ S Stop X m g U):FJ S Stop Y m g U:=by
 obtain⟨b,f,k|k|k⟩:=k
 .exact⟨b,f,.inl k⟩
 .exact⟨b,f,.inr (.inl (k.mono h))⟩
 .exact⟨b,f,.inr (.inr (S.mono h _ _ _ k))⟩
variable{S:Sys P T}{Stop:QI T}{m:Bool}
def J.fold{g:Gr}{U:Qa T}(h:FJ S Stop (J S Stop) m g U):J S Stop m g U:=
 λ X b=>b _ _ _ (h.mono λ _ _ _ k=>k X b)
def J.ind{X:QI T}(b:∀m g U,FJ S Stop (λ m g U=>X m g U/\J S Stop m g U) m g U->X m g U){g:Gr}{U:Qa T}(h:J S Stop m g U):X m g U:=
 (h (λ m g U=>X m g U/\J S Stop m g U) λ m g U k=>⟨b m g U k,J.fold (k.mono λ _ _ _ x=>x.2)⟩).1
def J.unfold{g:Gr}{U:Qa T}(h:J S Stop m g U):FJ S Stop (J S Stop) m g U:=
 J.ind (X:=FJ S Stop (J S Stop)) (λ _ _ _ k=>k.mono λ _ _ _ x=>x.2) h
def J.stop{g:Gr}{U:Qa T}(h:Stop m g U):J S Stop m g U:=.fold ⟨U,.refl _,.inl h⟩
def J.priv{g:Gr}{U:Qa T}(h:GE P (J S Stop) m g U):J S Stop m g U:=.fold ⟨U,.refl _,.inr (.inl h)⟩
def J.syn{g:Gr}{U:Qa T}(h:S.syn (J S Stop) m g U):J S Stop m g U:=.fold ⟨U,.refl _,.inr (.inr h)⟩
def J.still{g g':Gr}{U:Qa T}(b:g.status=.running)(h:∀w,stepG P m g w=.go g' w)(k:J S Stop m g' U):J S Stop m g U:=
 .priv ⟨b,λ w ok=>⟨g',w,#[],U,h w,S1,.refl _ _,ok,rfl,k⟩⟩
def Jm(P:Program)(fn:FuncId)(es:Array Event):∀e∈seen P fn es,e∈es:=by
 dsimp only[seen]
 rw[<- Array.foldl_toList]
 have key:∀(l:List Event)(x:Bool×Array Event),(∀e∈x.2,e∈es)->(∀e∈l,e∈es) ->
   ∀e∈(l.foldl (λ(x:Bool×Array Event)e=>match e.loc with|.mark (.extern f)=>((P.funcs[f]?).any (·.norace),x.2)|_=>(x.1,if x.1&&!e.sync then x.2 else x.2.push e)) x).2,e∈es:=by
  intro l
  induction l with
  |nil=>exact λ x hx _=>hx
  |cons a l h=>
   intro x hx hl;simp only[foldl_cons];refine h _ ?_ λ e b=>hl e (mem_cons_of_mem _ b);split
   .exact hx
   .dsimp only
    split
    .exact hx
    .intro e b;rcases Array.mem_push.1 b with b|rfl
     .exact hx e b
     .exact hl _ (mem_cons_self ..)
 exact key es.toList _ S1 S1
def J.sem{α:Type}{g:Gr}{U:Qa T}(s:Sem α){Q:α->Qa T->Prop}(M:g.status=.running)(h:Qq P s Q U)
  (f:∀w x w' es,s.runT P w #[]=(.ok x w',es)->(∃U',Q x U')->∃g' b,stepG P m g w=.go g' w' b/\(∀e∈b,e∈es)/\(∀U',Q x U'->J S Stop m g' U')):J S Stop m g U:=by
 refine .priv ⟨M,λ w ok=>?_⟩;obtain⟨x,w',es,U',L,B,I,E,G,ht⟩:=Qq.sound s (es₀:=#[]) h ok;obtain⟨g',b,F,z,K⟩:=f w x w' es (by simpa using L) ⟨U',G⟩;exact⟨g',w',b,U',F,λ e H=>B e (z e H),I,E,ht,K U' G⟩
def fr(b:Frame)(a:Act)(todo:List Item):Frame:={ b with tmps:=a.tmps,todo:=todo,defers:=a.defers,mode:=.run }
def R(b:Frame)(a:Act)(todo:List Item)(cs:List Frame):Gr:={ frame:=fr b a todo,callers:=cs,status:=.running,dying:=none }
def Rf(f:Frame)(cs:List Frame):Gr:={ frame:=f,callers:=cs,status:=.running,dying:=none }
def Y7(b:Frame)(a:Act)(todo:List Item):(fr b a todo).eval=a.eval:=by funext x;cases x <;> rfl
section moves
variable{b:Frame}{a:Act}{k:List Item}{cs:List Frame}{w:World}
def yq:stepG P m (R b a (.code .skip::k) cs) w=.go (R b a k cs) w:=by simp[R,stepG,stepG.exec,fr]
def vS{l:Nat}:stepG P m (R b a (.code (.label l)::k) cs) w=.go (R b a k cs) w:=by simp[R,stepG,stepG.exec,fr]
def jf{id:Nat}:stepG P m (R b a (.inBlock id::k) cs) w=.go (R b a k cs) w:=by simp[R,stepG,stepG.exec,fr]
def jg{c:Code}:stepG P m (R b a (.inScope c::k) cs) w=.go (R b a k cs) w:=by simp[R,stepG,stepG.exec,fr]
def yQ{x y:Code}:stepG P m (R b a (.code (.seq x y)::k) cs) w=.go (R b a (.code x::.code y::k) cs) w:=by simp[R,stepG,stepG.exec,fr]
def yf{c:Operand}{x y:Code}{t:Bool}(h:a.eval c=.bool t) :
  stepG P m (R b a (.code (.cond c x y)::k) cs) w=.go (R b a (.code (if t then x else y)::k) cs) w:=by
 have f:(fr b a (.code (.cond c x y)::k)).eval c=.bool t:=by rw[Y7];exact h
 simp only[fr]at f;simp[R,stepG,stepG.exec,fr,f]
def vR{id:Nat}{c:Code}:stepG P m (R b a (.code (.block id c)::k) cs) w=.go (R b a (.code c::.inBlock id::k) cs) w:=by simp[R,stepG,stepG.exec,fr]
def yj{c:Code}:stepG P m (R b a (.code (.loop c)::k) cs) w=.go (R b a (.code c::.inLoop c::k) cs) w:=by simp[R,stepG,stepG.exec,fr]
def gj{c:Code}:stepG P m (R b a (.inLoop c::k) cs) w=.go (R b a (.code c::.inLoop c::k) cs) w:=by simp[R,stepG,stepG.exec,fr]
def vT{c:Code}:stepG P m (R b a (.code (.scope c)::k) cs) w=.go (R b a (.code c::.inScope c::k) cs) w:=by simp[R,stepG,stepG.exec,fr]
def yh{id:Nat}{k':List Item}(h:exitTo id k=some k'):stepG P m (R b a (.code (.exit id)::k) cs) w=.go (R b a k' cs) w:=by simp[R,stepG,stepG.exec,fr,h]
def gk{id:Nat}{ops:Array Oper}:stepG P m (R b a (.code (.region id ops false)::k) cs) w=.go (R b a (.inRegion ops (range ops.size)::k) cs) w:=by simp[R,stepG,stepG.exec,fr]
def zr{ops:Array Oper}:stepG P m (R b a (.inRegion ops []::k) cs) w=.go (R b a k cs) w:=by simp[R,stepG,stepG.exec,fr]
def Ns{ops:Array Oper}{i:Nat}{rest:List Nat}{o:Oper}(h:ops[i]?=some o)(z:Region.wanted o (yielded ops a.tmps)=false) :
  stepG P m (R b a (.inRegion ops (i::rest)::k) cs) w=.go (R b (a.put o.dst undef) (.inRegion ops rest::k) cs) w:=by
 cases f:o.dst <;> simp[R,stepG,stepG.exec,fr,h,z,Frame.finish,Act.put,f]
def yp{ops:Array Oper}{i:Nat}{rest:List Nat}{o:Oper}(B:ops[i]?=some o)(E:Region.wanted o (yielded ops a.tmps)=true)
  (f:b.roundOf=none\/∀c,o.op≠.defer c) :
  stepG P m (R b a (.inRegion ops (i::rest)::k) cs) w=stepG.apply P true (fr b a (.inRegion ops (i::rest)::k)) cs none (execOp a.eval o) w:=by
 have h:=Y7 b a (.inRegion ops (i::rest)::k);simp only[fr]at h;rcases f with f|f
 .rw[f]at h;simp[R,stepG,stepG.exec,stepG.oper,Frame.oper?,fr,B,E,f];rw[h]
 .simp only[R,stepG,stepG.exec,stepG.oper,Frame.oper?,fr,B,Option.map_some,E,Option.getD_some,if_true,h];cases F:b.roundOf with
  |none=>simp
  |some l=>cases z:o.op <;> first|rfl|exact absurd z (f _)
def G3{ops:Array Oper}{i:Nat}{rest:List Nat}{o:Oper}(f:ops[i]?=some o)(v:Value) :
  (fr b a (.inRegion ops (i::rest)::k)).finish v=fr b (a.put o.dst v) (.inRegion ops rest::k):=by
 cases h:o.dst <;> simp[Frame.finish,fr,Act.put,f,h]
end moves
inductive Ex where
 |normal
 |exit (id:Nat)
 |ret
def Xq(S:Sys P T)(Stop:QI T)(m:Bool)(b:Frame)(cs:List Frame)(f:Option Code)(a:Act)(U:Qa T):Prop:=
 match b.roundOf with
 |none=>(f=none\/f=some .ret)/\∀todo,J S Stop m (Rf { fr b a todo with mode:=.returning } cs) U
 |some l=>∃c rest,cs=c::rest/\Qq P (Instr.endRound l f) (λ v U'=>J S Stop m (Rf (c.finish v) rest) U') U
def Xo(S:Sys P T)(Stop:QI T)(m:Bool)(b:Frame)(k:List Item)(cs:List Frame):Ex->Act->Qa T->Prop
 |.normal,a,U=>J S Stop m (R b a k cs) U
 |.exit id,a,U=>(∃k',exitTo id k=some k'/\J S Stop m (R b a k' cs) U)\/(exitTo id k=none/\Xq S Stop m b cs (some (.exit id)) a U)
 |.ret,a,U=>Xq S Stop m b cs (some .ret) a U
def Fr(fn:FuncId)(ro:Option Nat)(b:Frame):Prop:=b.fn=fn/\b.roundOf=ro/\b.kind≠.early/\(ro.isSome->b.kind=.normal)
def Zq(S:Sys P T)(fn:FuncId)(ro:Option Nat)(c:Code)(Q:Ex->Act->Qa T->Prop)(a:Act)(U:Qa T):Prop:=
 ∀(Stop:QI T)(m:Bool)(b:Frame)(k:List Item)(cs:List Frame),Fr fn ro b->(∀e a' U',Q e a' U'->Xo S Stop m b k cs e a' U')->J S Stop m (R b a (.code c::k) cs) U
def QU(S:Sys P T)(fn:FuncId)(ro:Option Nat)(ops:Array Oper)(todo:List Nat)(Q:Ex->Act->Qa T->Prop)(a:Act)(U:Qa T):Prop:=
 ∀(Stop:QI T)(m:Bool)(b:Frame)(k:List Item)(cs:List Frame),Fr fn ro b->(∀e a' U',Q e a' U'->Xo S Stop m b k cs e a' U')->J S Stop m (R b a (.inRegion ops todo::k) cs) U
def Qb(S:Sys P T)(f:FuncId)(args:Array Value)(Q:Value->Qa T->Prop)(U:Qa T):Prop:=
 ∀(Stop:QI T)(m:Bool)(c:Frame)(cs:List Frame),(∀v U',Q v U'->J S Stop m (Rf (c.finish v) cs) U')->J S Stop m (Rf (Frame.enter P f args .normal) (c::cs)) U
def J_(S:Sys P T)(l:Nat)(f:FuncId)(tmps:Array Value)(assign body:Code)(Q:Value->Qa T->Prop)(U:Qa T):Prop:=
 ∀(Stop:QI T)(m:Bool)(c:Frame)(cs:List Frame),(∀v U',Q v U'->J S Stop m (Rf (c.finish v) cs) U')->J S Stop m (Rf (Frame.round l f tmps assign body .normal) (c::cs)) U
def Xo.push{b:Frame}{x:Item}{k:List Item}{cs:List Frame}{e:Ex}{a:Act}{U:Qa T}(hx:∀id k,exitTo id (x::k)=exitTo id k)(f:e≠.normal)
  (h:Xo S Stop m b k cs e a U):Xo S Stop m b (x::k) cs e a U:=by
 cases e with
 |normal=>exact absurd rfl f
 |exit id=>simpa only[Xo,hx]using h
 |ret=>exact h
section rules
variable{fn:FuncId}{ro:Option Nat}{Q:Ex->Act->Qa T->Prop}{a:Act}{U:Qa T}
def Zq.mono{c:Code}{f:Ex->Act->Qa T->Prop}(h:Zq S fn ro c Q a U)(z:∀e a U,Q e a U->f e a U):Zq S fn ro c f a U:=
 λ Stop m b k cs hb w=>h Stop m b k cs hb λ e a' U' q=>w e a' U' (z e a' U' q)
def Qb.mono{f:FuncId}{args:Array Value}{R R':Value->Qa T->Prop}(h:Qb S f args R U)(b:∀v U,R v U->R' v U):Qb S f args R' U:=
 λ Stop m c cs k=>h Stop m c cs λ v U' r=>k v U' (b v U' r)
def J_.mono{l:Nat}{f:FuncId}{tmps:Array Value}{as b:Code}{R R':Value->Qa T->Prop}(h:J_ S l f tmps as b R U)(w:∀v U,R v U->R' v U):J_ S l f tmps as b R' U:=
 λ Stop m c cs k=>h Stop m c cs λ v U' r=>k v U' (w v U' r)
def J.shift{g:Gr}{U U':Qa T}(f:Qv U U')(h:J S Stop m g U'):J S Stop m g U:=by
 obtain⟨b,h1,h⟩:=h.unfold;exact .fold ⟨b,f.trans h1,h⟩
def vx{c:Code}{U':Qa T}(w:Qv U U')(h:Zq S fn ro c Q a U'):Zq S fn ro c Q a U:=λ Stop m b k cs hb f=>.shift w (h Stop m b k cs hb f)
def Gf{ops:Array Oper}{todo:List Nat}{U':Qa T}(w:Qv U U')(h:QU S fn ro ops todo Q a U'):QU S fn ro ops todo Q a U:=λ Stop m b k cs hb f=>.shift w (h Stop m b k cs hb f)
def Qb.shift{f:FuncId}{args:Array Value}{R:Value->Qa T->Prop}{U':Qa T}(b:Qv U U')(h:Qb S f args R U'):Qb S f args R U:=λ Stop m c cs k=>.shift b (h Stop m c cs k)
def J_.shift{l:Nat}{f:FuncId}{tmps:Array Value}{as b:Code}{R:Value->Qa T->Prop}{U':Qa T}(w:Qv U U')(h:J_ S l f tmps as b R U'):J_ S l f tmps as b R U:=λ Stop m c cs k=>.shift w (h Stop m c cs k)
def Qb.post{f:FuncId}{args:Array Value}{R R':Value->Qa T->Prop}(h:Qb S f args R U)(b:∀v U,R v U->∃U',Qv U U'/\R' v U'):Qb S f args R' U:=
 λ Stop m c cs k=>h Stop m c cs λ v U' r=>let ⟨_,hs,r'⟩:=b v U' r;.shift hs (k v _ r')
def kG(h:Q .normal a U):Zq S fn ro .skip Q a U:=λ _ _ _ _ _ _ b=>.still rfl (λ _=>yq) (b _ _ _ h)
def vu{l:Nat}(h:Q .normal a U):Zq S fn ro (.label l) Q a U:=λ _ _ _ _ _ _ b=>.still rfl (λ _=>vS) (b _ _ _ h)
def yA{x y:Code}(h:Zq S fn ro x (λ e a' U'=>match e with|.normal=>Zq S fn ro y Q a' U'|e=>Q e a' U') a U):Zq S fn ro (.seq x y) Q a U:=by
 intro Stop m b k cs hb f;refine .still rfl (λ _=>yQ) (h Stop m b (.code y::k) cs hb λ e a' U' q=>?_);cases e with
 |normal=>exact q Stop m b k cs hb f
 |exit id=>exact(f _ _ _ q).push (λ _ _=>rfl) S1
 |ret=>exact(f _ _ _ q).push (x:=.code y) (λ _ _=>rfl) S1
def kE{c:Operand}{x y:Code}(t:Bool)(f:a.eval c=.bool t)(h:Zq S fn ro (if t then x else y) Q a U):Zq S fn ro (.cond c x y) Q a U:=
 λ Stop m b k cs hb w=>.still rfl (λ _=>yf f) (h Stop m b k cs hb w)
def vr{id:Nat}{c:Code}(h:Zq S fn ro c (λ e a' U'=>match e with|.normal=>Q .normal a' U'|.exit f=>if f=id then Q .normal a' U' else Q (.exit f) a' U'|.ret=>Q .ret a' U') a U) :
  Zq S fn ro (.block id c) Q a U:=by
 intro Stop m b k cs hb z;refine .still rfl (λ _=>vR) (h Stop m b (.inBlock id::k) cs hb λ e a' U' q=>?_);cases e with
 |normal=>exact .still rfl (λ _=>jf) (z _ _ _ q)
 |exit f=>
  by_cases w:f=id
  .simp only[w,if_true]at q;exact .inl ⟨k,by simp[exitTo,w],z _ _ _ q⟩
  .simp only[w,if_false]at q;have B:(id==f)=false:=by simp;exact λ h=>w h.symm
   simpa only[Xo,exitTo,B,Bool.false_eq_true,if_false]using z _ _ _ q
 |ret=>exact z _ _ _ q
def vw{c:Code}(h:Zq S fn ro c Q a U):Zq S fn ro (.scope c) Q a U:=by
 intro Stop m b k cs hb f;refine .still rfl (λ _=>vT) (h Stop m b (.inScope c::k) cs hb λ e a' U' q=>?_);cases e with
 |normal=>exact .still rfl (λ _=>jg) (f _ _ _ q)
 |exit id=>exact(f _ _ _ q).push (λ _ _=>rfl) S1
 |ret=>exact(f _ _ _ q).push (x:=.inScope c) (λ _ _=>rfl) S1
def L7{id:Nat}(h:Q (.exit id) a U):Zq S fn ro (.exit id) Q a U:=by
 intro Stop m b k cs hb E;rcases E _ _ _ h with⟨k',z,G⟩|⟨z,hl⟩
 .exact .still rfl (λ _=>yh z) G
 .cases hro:b.roundOf with
  |none=>simp only[Xq,hro]at hl;simp at hl
  |some l=>
   simp only[Xq,hro]at hl;obtain⟨c,rest,rfl,I⟩:=hl;have B:b.kind=.normal:=hb.2.2.2 (by rw[<- hb.2.1,hro];rfl);refine .sem _ rfl I λ w x w' es f _=>⟨Rf (c.finish x) rest,seen P b.fn es,?_,Jm P _ es,λ _ h=>h⟩;obtain⟨H,F⟩:Sem.run P (Instr.endRound l (some (.exit id))) w=.ok x w'/\Sem.events P (Instr.endRound l (some (.exit id))) w #[]=es:=by simpa using f
   simp[R,stepG,stepG.exec,fr,hro,z,H,F,doReturn,B,GStep.after,Rf]
def LC(h:Q .ret a U):Zq S fn ro .ret Q a U:=by
 intro Stop m b k cs hb E;have hl:=E _ _ _ h;cases f:b.roundOf with
 |none=>
  simp only[Xo,Xq,f]at hl;refine .still rfl (λ w=>?_) (hl.2 (.code .ret::k));simp[R,Rf,stepG,stepG.exec,fr,f]
 |some l=>
  simp only[Xo,Xq,f]at hl;obtain⟨c,rest,rfl,H⟩:=hl;have B:b.kind=.normal:=hb.2.2.2 (by rw[<- hb.2.1,f];rfl);refine .sem _ rfl H λ w x w' es z _=>⟨Rf (c.finish x) rest,seen P b.fn es,?_,Jm P _ es,λ _ h=>h⟩;obtain⟨G,F⟩:Sem.run P (Instr.endRound l (some .ret)) w=.ok x w'/\Sem.events P (Instr.endRound l (some .ret)) w #[]=es:=by simpa using z
  simp[R,stepG,stepG.exec,fr,f,G,F,doReturn,B,GStep.after,Rf]
def It{id:Nat}{ops:Array Oper}(h:QU S fn ro ops (range ops.size) Q a U):Zq S fn ro (.region id ops false) Q a U:=
 λ Stop m b k cs hb f=>.still rfl (λ _=>gk) (h Stop m b k cs hb f)
def LJ{ops:Array Oper}(h:Q .normal a U):QU S fn ro ops [] Q a U:=λ _ _ _ _ _ _ b=>.still rfl (λ _=>zr) (b _ _ _ h)
def Yr(S:Sys P T)(ro:Option Nat)(o:Oper)(a:Act)(K:Act->Qa T->Prop):Next->Qa T->Prop
 |.value v,U=>K (a.put o.dst v) U
 |.skip,U=>K (a.put o.dst undef) U
 |.defer d,U=>ro=none/\K ({ a with defers:=d::a.defers }.put o.dst undef) U
 |.enter f args,U=>Qb S f args (λ v U'=>K (a.put o.dst v) U') U
 |.round l f tmps assign body,U=>J_ S l f tmps assign body (λ v U'=>K (a.put o.dst v) U') U
 |_,_=>False
def HW(S:Sys P T)(ro:Option Nat)(o:Oper)(a:Act)(K:Act->Qa T->Prop)(U:Qa T):Prop:=Qq P (execOp a.eval o) (Yr S ro o a K) U
def XQ{ops:Array Oper}{i:Nat}{rest:List Nat}{o:Oper}(E:ops[i]?=some o)(L:Region.wanted o (yielded ops a.tmps)=true)(I:ro=none\/∀c,o.op≠.defer c)
  (h:HW S ro o a (QU S fn ro ops rest Q) U):QU S fn ro ops (i::rest) Q a U:=by
 intro Stop m b k cs hb F;have B:(b.kind==CallKind.early)=false:=by simpa using hb.2.2.1
 have G:b.roundOf=none\/∀c,o.op≠.defer c:=by rw[hb.2.1];exact I
 refine .sem _ rfl h λ w x w' es z H=>?_;rw[yp E L G];have M:(execOp a.eval o).run P w=.ok x w':=by have:=Sem.runT_fst P (execOp a.eval o) w #[];rw[z]at this;exact this.symm
 cases x with
 |value v=>
  refine⟨R b (a.put o.dst v) (.inRegion ops rest::k) cs,seen P b.fn es,?_,Jm P _ es,λ U' q=>q Stop m b k cs hb F⟩;have:=G3 (b:=b) (a:=a) (k:=k) (rest:=rest) E v;simp only[stepG.apply,if_true,z];simp[fr,B,GStep.after,R]at this ⊢;exact this
 |skip=>
  refine⟨R b (a.put o.dst undef) (.inRegion ops rest::k) cs,seen P b.fn es,?_,Jm P _ es,λ U' q=>q Stop m b k cs hb F⟩;have:=G3 (b:=b) (a:=a) (k:=k) (rest:=rest) E undef;simp only[stepG.apply,if_true,z];simp[fr,B,GStep.after,R]at this ⊢;exact this
 |defer d=>
  refine⟨R b ({ a with defers:=d::a.defers }.put o.dst undef) (.inRegion ops rest::k) cs,seen P b.fn es,?_,Jm P _ es,λ U' q=>q.2 Stop m b k cs hb F⟩;have:=G3 (b:=b) (a:={ a with defers:=d::a.defers }) (k:=k) (rest:=rest) E undef;simp only[stepG.apply,if_true,z];simp[fr,B,GStep.after,R]at this ⊢;exact this
 |enter f args=>
  refine⟨Rf (Frame.enter P f args .normal) (fr b a (.inRegion ops (i::rest)::k)::cs),seen P b.fn es,?_,Jm P _ es,λ U' q=>?_⟩
  .simp only[stepG.apply,if_true,z];simp[fr,B,GStep.after,Rf]
  .refine q Stop m _ cs λ v U'' q'=>?_;have:=q' Stop m b k cs hb F;rw[G3 E];exact this
 |round l f tmps assign body=>
  refine⟨Rf (Frame.round l f tmps assign body .normal) (fr b a (.inRegion ops (i::rest)::k)::cs),seen P b.fn es,?_,Jm P _ es,λ U' q=>?_⟩
  .simp only[stepG.apply,if_true,z];simp[fr,B,GStep.after,Rf]
  .refine q Stop m _ cs λ v U'' q'=>?_;have:=q' Stop m b k cs hb F;rw[G3 E];exact this
 |_=>obtain⟨_,K⟩:=H;exact K.elim
def P0{ops:Array Oper}{i:Nat}{rest:List Nat}{o:Oper}(w:ops[i]?=some o)(z:Region.wanted o (yielded ops a.tmps)=false)
  (h:QU S fn ro ops rest Q (a.put o.dst undef) U):QU S fn ro ops (i::rest) Q a U:=
 λ Stop m b k cs hb f=>.still rfl (λ _=>Ns w z) (h Stop m b k cs hb f)
def QU.mono{ops:Array Oper}{todo:List Nat}{f:Ex->Act->Qa T->Prop}(h:QU S fn ro ops todo Q a U)(z:∀e a U,Q e a U->f e a U):QU S fn ro ops todo f a U:=
 λ Stop m b k cs hb w=>h Stop m b k cs hb λ e a' U' q=>w e a' U' (z e a' U' q)
end rules
def JC(I:Nat->Option Obj)(b:Nat)(o:Obj):Nat->Option Obj:=λ x=>if x=b then some o else I x
def VT{M M':List Qw}(h:∀r,r∈M'->r∈M){l:Loc}:(∃r∈M',r.lets l)->∃r∈M,r.lets l:=λ⟨r,b,hl⟩=>⟨r,h r b,hl⟩
def IG{U:Qa T}{M':List Qw}(h:∃M₀,Perm U.M (M'++M₀)):Qv U { U with M:=M' }:=by
 obtain⟨M₀,z⟩:=h;have b:∀r,r∈M'->r∈U.M:=λ r f=>z.mem_iff.2 (mem_append_left _ f);refine⟨rfl,λ w ok=>⟨⟨ok.imm,λ r f=>ok.held r (b r f),?_,λ r f=>ok.sep r (b r f)⟩,λ l hl=>?_,λ l hl=>?_⟩⟩
 .have:=(z.pairwise_iff (λ{x y}h=>Qw.apart_symm h)).1 ok.apart;exact(pairwise_append.1 this).1
 .rw[Q4]at hl ⊢;exact VT b hl
 .rw[Qx]at hl ⊢;exact hl.imp (VT b) id
def Wa{U:Qa T}{b:Nat}{o:Obj}{M':List Qw}(h:Perm U.M (.obj b o::M')):Qv U { U with I:=JC U.I b o,M:=M' }:=by
 have z:∀r,r∈M'->r∈U.M:=λ r E=>h.mem_iff.2 (mem_cons_of_mem _ E);have hb:Qw.obj b o∈U.M:=h.mem_iff.2 (mem_cons_self ..);refine⟨rfl,λ w ok=>?_⟩;have B:=(h.pairwise_iff (λ{x y}h=>Qw.apart_symm h)).1 ok.apart;rw[pairwise_cons]at B;refine⟨⟨?_,λ r E=>ok.held r (z r E),B.2,?_⟩,λ l hl=>?_,λ l hl=>?_⟩
 .intro x K hx;simp only[JC]at hx;split at hx
  .rename_i e;cases hx;subst e;exact ok.held _ hb
  .exact ok.imm x K hx
 .intro r E
  have H:r.blk≠b:=by
   have:=B.1 r E;cases r <;> simp_all[Qw.apart,Qw.blk] <;> exact λ e=>this e.symm
  simp only[JC,if_neg H];exact ok.sep r (z r E)
 .rw[Q4]at hl ⊢;exact VT z hl
 .rw[Qx]at hl ⊢;rcases hl with hl|hl
  .exact .inl (VT z hl)
  .cases l with
   |cell a=>
    obtain⟨c,t,f,G,F⟩:=hl;simp only[JC]at G;split at G
    .rename_i e;cases G;exact .inl ⟨_,hb,e,F⟩
    .exact .inr ⟨c,t,f,G,F⟩
   |obj x=>
    obtain⟨K,hx⟩:=hl;simp only[JC]at hx;split at hx
    .rename_i e;cases hx;exact .inl ⟨_,hb,by cases o <;> simp[Qw.lets,e]⟩
    .exact .inr ⟨K,hx⟩
   |output=>exact hl.elim
   |goroutines=>exact hl.elim
   |mark _=>exact hl.elim
end Go.TM
namespace Go.TM
variable{T:Type}{P:Program}{S:Sys P T}{fn:FuncId}{ro:Option Nat}
structure Qa.le(U U':Qa T):Prop where
 imm:∀b o,U.I b=some o->U'.I b=some o
 own:U'.M=U.M
 tok:U'.tok=U.tok
def Qa.le.refl(U:Qa T):U.le U:=⟨λ _ _ h=>h,rfl,rfl⟩
def Qa.le.trans{a b c:Qa T}(h:a.le b)(k:b.le c):a.le c:=⟨λ x o e=>k.imm x o (h.imm x o e),k.own.trans h.own,k.tok.trans h.tok⟩
def yg{m:Bool}{b:Frame}{a:Act}{k:List Item}{cs:List Frame}{w:World}{id:Nat}{ops:Array Oper} :
  stepG P m (R b a (.code (.region id ops true)::k) cs) w =
   .go (R b a (.inRegion ops (Region.schedule (P.follows .mixedOrders) ops (w.tape w.drawn (.order b.fn id)))::k) cs) { w with drawn:=w.drawn+1 }:=by
 simp[R,stepG,stepG.exec,fr,choose,Sem.run,Question.forced,Question.cut]
def L6{Q:Ex->Act->Qa T->Prop}{a:Act}{U:Qa T}{id:Nat}{ops:Array Oper}(h:∀t,QU S fn ro ops (Region.schedule (P.follows .mixedOrders) ops t) Q a U) :
  Zq S fn ro (.region id ops true) Q a U:=by
 intro Stop m b k cs hb f;refine .priv ⟨rfl,λ w ok=>⟨_,_,#[],U,yg,S1,Od U w _,Dt ok _,rfl,h _ Stop m b k cs hb f⟩⟩
def ZG(S:Sys P T)(K:Value->Qa T->Prop):Next->Qa T->Prop
 |.value v,U=>K v U
 |.skip,U=>K undef U
 |.enter f args,U=>Qb S f args K U
 |.round l f tmps assign body,U=>J_ S l f tmps assign body K U
 |_,_=>False
def QK(S:Sys P T)(o:Oper)(a:Act)(K:Value->Qa T->Prop)(U:Qa T):Prop:=Qq P (execOp a.eval o) (ZG S K) U
def QK.mono{o:Oper}{a:Act}{K w:Value->Qa T->Prop}{U:Qa T}(h:QK S o a K U)(f:∀v U,K v U->w v U):QK S o a w U:=
 Qq.mono _ h λ n U b=>by
  cases n <;> first|exact f _ _ b|exact Qb.mono b f|exact J_.mono b f|exact b
def QK.opV{o:Oper}{a:Act}{K:Act->Qa T->Prop}{U:Qa T}(h:QK S o a (λ v U=>K (a.put o.dst v) U) U):HW S ro o a K U:=
 Qq.mono _ h λ n U b=>by cases n <;> first|exact b|exact b.elim
def Xz(F:Qa T->Prop):Prop:=∀U U',F U->U.le U'->F U'
inductive ZU(S:Sys P T)(ops:Array Oper)(rl:List Nat)(B:Nat->Nat->Prop)(late:Nat->Bool)(G:Qa T->Prop)(U:Qa T)(Fin:Act->Qa T->Prop):List Nat->(Qa T->Prop)->Act->Prop
 |nil {C a}:(∀U',U.le U'->C U'->Fin a U')->ZU S ops rl B late G U Fin [] C a
 |un {i rest C a o}:i∉rl->ops[i]?=some o->Region.wanted o (yielded ops a.tmps)=false->ZU S ops rl B late G U Fin rest C (a.put o.dst undef)->ZU S ops rl B late G U Fin (i::rest) C a
 |det {i rest C a o} (v:Value):i∉rl->ops[i]?=some o->Region.wanted o (yielded ops a.tmps)=true ->
   (∀U',U.le U'->C U'->QK S o a (λ v' U2=>v'=v/\∃U1,Qv U2 U1/\U'.le U1) U') ->
   (late i=true->∀U',G U'->QK S o a (λ v' U2=>v'=v/\∃U1,Qv U2 U1/\U'.le U1) U') ->
   ZU S ops rl B late G U Fin rest C (a.put o.dst v)->ZU S ops rl B late G U Fin (i::rest) C a
 |rel {i rest C a o} (F:Value->Qa T->Prop):i∈rl->(∀v,Xz (F v))->ops[i]?=some o->Region.wanted o (yielded ops a.tmps)=true ->
   (∀U',U.le U'->C U'->QK S o a (λ v' U2=>∃U1,Qv U2 U1/\F v' U1/\U'.le U1) U') ->
   (∀v,(∃U',U.le U'/\C U'/\F v U')->ZU S ops rl B late G U Fin rest (λ U'=>C U'/\F v U') (a.put o.dst v))->ZU S ops rl B late G U Fin (i::rest) C a
 |last {i C a o}:i∈rl->Xz G->(∀j,late j=false->B j i)->ops[i]?=some o->Region.wanted o (yielded ops a.tmps)=true ->
   (∀U',U.le U'->C U'->QK S o a (λ v' U2=>v'=undef/\∃U1,Qv U2 U1/\G U1) U')->((∃U',U.le U'/\C U')->∀U',G U'->Fin (a.put o.dst undef) U')->ZU S ops rl B late G U Fin [i] C a
def Wt(ops:Array Oper)(i:Nat):List Nat:=((ops[i]?).map λ o=>(o.after.toList.filter (Region.binds .any)).map (·.on)).getD []
inductive Z_(ops:Array Oper):Nat->Nat->Prop
 |edge {i j}:j∈Wt ops i->Z_ ops j i
 |trans {i j k}:Z_ ops k j->j∈Wt ops i->Z_ ops k i
def X1(ops:Array Oper):Nat->List Nat
 |0=>[]
 |n+1=>let acc:=X1 ops n;acc++[(Wt ops n).foldl (λ s j=>s||| 2^j||| acc.getD j 0) 0]
def Ve(ops:Array Oper):∀n,(X1 ops n).length=n
 |0=>rfl
 |n+1=>by simp[X1,Ve ops n]
def Fc(acc:List Nat)(j:Nat):∀(l:List Nat)(s:Nat),(l.foldl (λ s j=>s||| 2^j||| acc.getD j 0) s).testBit j=true->s.testBit j=true\/∃k∈l,k=j\/(acc.getD k 0).testBit j=true
 |[],s,h=>.inl h
 |k::l,s,h=>by
  simp only[foldl_cons]at h;rcases Fc acc j l _ h with h|⟨x,hx,h⟩
  .simp only[Nat.testBit_or,Bool.or_eq_true]at h;rcases h with(h|h)|h
   .exact .inl h
   .refine .inr ⟨k,mem_cons_self ..,.inl ?_⟩;rw[Nat.testBit_two_pow]at h;exact of_decide_eq_true h
   .exact .inr ⟨k,mem_cons_self ..,.inr h⟩
  .exact .inr ⟨x,mem_cons_of_mem _ hx,h⟩
def Wm(ops:Array Oper):∀n i j,((X1 ops n).getD i 0).testBit j=true->Z_ ops j i:=by
 intro n
 induction n with
 |zero=>intro i j h;simp[X1]at h
 |succ n f=>
  intro i j h;simp only[X1]at h;by_cases w:i<n
  .rw[getD_eq_getElem?_getD,getElem?_append_left (by rw[Ve];exact w),<- getD_eq_getElem?_getD]at h;exact f i j h
  .rw[getD_eq_getElem?_getD,getElem?_append_right (by rw[Ve];omega),Ve,<- getD_eq_getElem?_getD]at h;by_cases e:i=n
   .subst e;simp only[Nat.sub_self,getD_cons_zero]at h;rcases Fc _ j _ 0 h with h|⟨k,b,rfl|h⟩
    .simp at h
    .exact .edge b
    .exact .trans (f k j h) b
   .have:i-n=(i-n-1)+1:=O1
    rw[this]at h;simp at h
def WF(ops:Array Oper)(i:Nat):Option Tmp:=(ops[i]?).bind (·.dst)
def looks(ops:Array Oper)(i:Nat):List Tmp:=((ops[i]?).map (Oper.looksAt ops)).getD []
def PW(ops:Array Oper)(rl qs ts:List Nat):Bool:=
 let n:=ops.size
 let b:=X1 ops n
 let bf (j i:Nat):Bool:=(b.getD i 0).testBit j
 let all:=qs++ts
 (range n).all (λ i=>all.contains i)&&(decide all.Nodup&&all.all (λ i=>decide (i<n))) &&
 (ops.toList.all λ o=>!(o.op matches .select ..)) &&
 (range n).all (λ i=>(range n).all λ j=>i==j|| (match WF ops i with|some d=>WF ops j != some d|none=>true)) &&
 qs.all (λ i=>(range n).all λ j=>i==j|| (match WF ops j with|some d=>!(looks ops i).contains d|| bf j i|| bf i j|none=>true)) &&
 (range all.length).all (λ p=>(Wt ops (all.getD p 0)).all λ j=>(all.take p).contains j) &&
 (range qs.length).all (λ p=>!rl.contains (qs.getD p 0)|| ((all.drop (p+1)).all λ j=>bf (qs.getD p 0) j)) &&
 (range ts.length).all (λ p=>(qs++ts.take p).all λ j=>bf j (ts.getD p 0))
structure Ju(ops:Array Oper)(rl qs ts:List Nat):Prop where
 mem:∀i,i<ops.size↔i∈qs++ts
 nodup:(qs++ts).Nodup
 nosel:∀(i:Nat)o,ops[i]?=some o->∀cs b,o.op≠.select cs b
 once:∀i j d,WF ops i=some d->WF ops j=some d->i=j
 look:∀i,i∈qs->∀j d,i≠j->WF ops j=some d->d∈looks ops i->Z_ ops j i\/Z_ ops i j
 order:∀p i,(qs++ts)[p]?=some i->∀j∈Wt ops i,j∈(qs++ts).take p
 behind:∀p i,qs[p]?=some i->i∈rl->∀j∈(qs++ts).drop (p+1),Z_ ops i j
 tail:∀p i,ts[p]?=some i->∀j∈qs++ts.take p,Z_ ops j i
def S5{ops:Array Oper}{i:Nat}{d:Tmp}(h:WF ops i=some d):i<ops.size:=by
 simp only[WF]at h;cases b:ops[i]? with
 |none=>simp[b]at h
 |some o=>exact(Array.getElem?_eq_some_iff.1 b).1
def F9{ops:Array Oper}{rl qs ts:List Nat}(h:PW ops rl qs ts=true):Ju ops rl qs ts:=by
 simp only[PW,Bool.and_eq_true]at h;obtain⟨⟨⟨⟨⟨⟨⟨h1,h2⟩,F⟩,G⟩,h5⟩,H⟩,I⟩,K⟩:=h
 have z:∀i,i<ops.size->i∈qs++ts:=λ i w=>by
  have:=all_eq_true.1 h1 i (mem_range.2 w);simpa using this
 obtain⟨E,B⟩:(qs++ts).Nodup/\∀i∈qs++ts,i<ops.size:=by
  exact⟨of_decide_eq_true h2.1,λ i w=>of_decide_eq_true (all_eq_true.1 h2.2 i w)⟩
 refine⟨λ i=>⟨z i,B i⟩,E,?_,?_,?_,?_,?_,?_⟩
 .intro i o ho cs b e;have:=all_eq_true.1 F o (Array.mem_toList_iff.2 (Array.mem_of_getElem? ho));simp[e]at this
 .intro i j d w hj;have:=all_eq_true.1 (all_eq_true.1 G i (mem_range.2 (S5 w))) j (mem_range.2 (S5 hj));simp only[w,hj,Bool.or_eq_true,beq_iff_eq]at this;rcases this with h|h
  .exact h
  .simp at h
 .intro i w j d hne hj hd;have:=all_eq_true.1 (all_eq_true.1 h5 i w) j (mem_range.2 (S5 hj));simp only[hj,Bool.or_eq_true,beq_iff_eq]at this;rcases this with h|(h|h)|h
  .exact absurd h hne
  .simp[hd]at h
  .exact .inl (Wm _ _ _ _ h)
  .exact .inr (Wm _ _ _ _ h)
 .intro p i hp j hj;have f:=(List.getElem?_eq_some_iff.1 hp).1;have:=all_eq_true.1 H p (mem_range.2 f);rw[getD_eq_getElem?_getD,hp,Option.getD_some]at this;simpa using all_eq_true.1 this j hj
 .intro p i hp hr j hj;have f:=(List.getElem?_eq_some_iff.1 hp).1;have:=all_eq_true.1 I p (mem_range.2 f);rw[getD_eq_getElem?_getD,hp,Option.getD_some]at this;simp only[Bool.or_eq_true]at this;rcases this with h|h
  .simp[hr]at h
  .exact Wm _ _ _ _ (all_eq_true.1 h j hj)
 .intro p i hp j hj;have f:=(List.getElem?_eq_some_iff.1 hp).1;have:=all_eq_true.1 K p (mem_range.2 f);have e:ts.getD p 0=i:=by rw[getD_eq_getElem?_getD,hp];rfl
  rw[e]at this;exact Wm _ _ _ _ (all_eq_true.1 this j hj)
def J2{ops:Array Oper}{listed:Array Bool}{i:Nat}:i∈Region.ready .any ops listed↔i<ops.size/\listed.getD i true=false/\∀j∈Wt ops i,listed.getD j false=true:=by
 simp only[Region.ready,mem_filter,mem_range,Bool.and_eq_true,Bool.not_eq_true'];constructor
 .rintro⟨hi,h1,h2⟩;refine⟨hi,h1,λ j h=>?_⟩;obtain⟨o,b⟩:∃o,ops[i]?=some o:=⟨ops[i],by simp[hi]⟩;simp only[b,Option.map_some,Option.getD_some]at h2;simp only[Wt,b,Option.map_some,Option.getD_some,mem_map,mem_filter,Array.mem_toList_iff]at h;obtain⟨e,⟨f,hb⟩,rfl⟩:=h;have:=(Array.all_eq_true'.1 h2) e f;simpa[hb]using this
 .rintro⟨hi,h1,h2⟩;refine⟨hi,h1,?_⟩;obtain⟨o,b⟩:∃o,ops[i]?=some o:=⟨ops[i],by simp[hi]⟩;simp only[b,Option.map_some,Option.getD_some];rw[Array.all_eq_true'];intro e f;by_cases hb:Region.binds .any e=true
  .have:=h2 e.on (by simp only[Wt,b,Option.map_some,Option.getD_some,mem_map,mem_filter,Array.mem_toList_iff];exact⟨e,⟨f,hb⟩,rfl⟩);rw[this];simp
  .simp[hb]
structure Jj(ops:Array Oper)(val:Nat->Value)(D:Nat->Prop)(a_0 a:Act):Prop where
 defers:a.defers=a_0.defers
 size:a.tmps.size=a_0.tmps.size
 wr:∀(s:Nat)(j:Nat),WF ops j=some s->D j->s<a_0.tmps.size->a.tmps[s]?=some (val j)
 not:∀s:Nat,(∀j,WF ops j=some s->¬D j)->a.tmps[s]?=a_0.tmps[s]?
def Jj.put{ops:Array Oper}{rl qs ts:List Nat}(hf:Ju ops rl qs ts){val:Nat->Value}{D:Nat->Prop}{a_0 a:Act}(h:Jj ops val D a_0 a){i:Nat}{o:Oper}(E:ops[i]?=some o) :
  Jj ops val (λ j=>D j\/j=i) a_0 (a.put o.dst (val i)):=by
 have B:WF ops i=o.dst:=by simp[WF,E]
 cases z:o.dst with
 |none=>
  rw[z]at B;refine⟨h.defers,h.size,λ s j b f w=>?_,λ s w=>h.not s λ j b f=>w j b (.inl f)⟩;rcases f with f|rfl
  .exact h.wr s j b f w
  .rw[B]at b;cases b
 |some d=>
  rw[z]at B;refine⟨h.defers,by simp[Act.put,h.size],λ s j b f w=>?_,λ s w=>?_⟩
  .by_cases e:d=s
   .subst e;obtain rfl:=hf.once _ _ _ b B;simp only[Act.put];rw[Array.getElem?_setIfInBounds_self_of_lt (by rw[h.size];exact w)]
   .rcases f with f|rfl
    .simp only[Act.put];rw[Array.getElem?_setIfInBounds_ne e];exact h.wr s j b f w
    .rw[B]at b;cases b;exact absurd rfl e
  .have e:d≠s:=λ e=>w i (e▸B) (.inr rfl);simp only[Act.put];rw[Array.getElem?_setIfInBounds_ne e];exact h.not s λ j b f=>w j b (.inl f)
def Jj.val{ops:Array Oper}{val b:Nat->Value}{D:Nat->Prop}{a_0 a:Act}(h:Jj ops val D a_0 a)(B:∀j,D j->b j=val j):Jj ops b D a_0 a:=
 ⟨h.defers,h.size,λ s j w f z=>by rw[B j f];exact h.wr s j w f z,h.not⟩
def Jj.slot{ops:Array Oper}{val:Nat->Value}{D E:Nat->Prop}{a_0 a a':Act}(h:Jj ops val D a_0 a)(z:Jj ops val E a_0 a'){s:Nat}(F:∀j,WF ops j=some s->(D j↔E j)):a.tmps[s]?=a'.tmps[s]?:=by
 by_cases B:∃j,WF ops j=some s/\D j
 .obtain⟨j,b,f⟩:=B;by_cases w:s<a_0.tmps.size
  .rw[h.wr s j b f w,z.wr s j b ((F j b).1 f) w]
  .rw[Array.getElem?_eq_none (by rw[h.size];omega),Array.getElem?_eq_none (by rw[z.size];omega)]
 .rw[h.not s λ j b f=>B ⟨j,b,f⟩,z.not s λ j b f=>B ⟨j,b,(F j b).2 f⟩]
def PQ{ops:Array Oper}{a a':Act}{i:Nat}{o:Oper}(E:ops[i]?=some o)(f:∀cs b,o.op≠.select cs b)(h:∀s∈looks ops i,a.tmps[s]?=a'.tmps[s]?) :
  execOp a.eval o=execOp a'.eval o/\Region.wanted o (yielded ops a.tmps)=Region.wanted o (yielded ops a'.tmps):=by
 have hl:looks ops i=Oper.looksAt ops o:=by simp[looks,E]
 rw[hl]at h;constructor
 .refine execOp_congr o f λ x hx=>?_;cases x with
  |tmp t=>
   have:=h t (by simp only[Oper.looksAt,mem_append,mem_filterMap,Array.mem_toList_iff];exact .inl ⟨.tmp t,hx,rfl⟩);simp only[Act.eval,Array.getD_eq_getD_getElem?,this]
  |_=>rfl
 .unfold Region.wanted;cases z:o.guard with
  |none=>rfl
  |some p=>
   obtain⟨j,w⟩:=p;simp only[]
   have:yielded ops a.tmps j=yielded ops a'.tmps j:=by
    unfold yielded;cases B:(ops[j]?).bind (·.dst)with
    |none=>rfl
    |some t=>
     have:=h t (by simp only[Oper.looksAt,z,mem_append];exact .inr (by simp[B]));simp only[Option.bind_some,this]
   rw[this]
section sound
variable{ops:Array Oper}{rl qs ts:List Nat}
def Li(listed:Array Bool)(i:Nat):Prop:=listed.getD i false=true
def Yd{listed:Array Bool}{i j:Nat}(h:i<listed.size):Li (listed.setIfInBounds i true) j↔Li listed j\/j=i:=by
 simp only[Li,Array.getD_eq_getD_getElem?,Array.getElem?_setIfInBounds];by_cases e:i=j
 .subst e;simp[h]
 .have:¬j=i:=λ x=>e x.symm;simp[e,this]
def Em(hf:Ju ops rl qs ts){i j:Nat}(h:Z_ ops j i):∀p,(qs++ts)[p]?=some i->j∈(qs++ts).take p:=by
 induction h with
 |edge f=>exact λ p w=>hf.order p _ w _ f
 |trans _ f z=>
  intro p w;have:=hf.order p _ w _ f;obtain⟨p',b⟩:=mem_iff_getElem?.1 this;rw[getElem?_take]at b;split at b
  .have h2:=z p' b;have:(qs++ts).take p' ⊆ (qs++ts).take p:=take_subset_take_left _ O1;exact this h2
  .cases b
def E3{listed:Array Bool}(down:∀i,Li listed i->∀j∈Wt ops i,Li listed j){i j:Nat}(h:Z_ ops j i):Li listed i->Li listed j:=by
 induction h with
 |edge b=>exact λ f=>down _ f _ b
 |trans _ b w=>exact λ f=>w (down _ f _ b)
def J9{listed:Array Bool}(down:∀i,Li listed i->∀j∈Wt ops i,Li listed j){i j:Nat}(h:Z_ ops j i)(f:∀j∈Wt ops i,Li listed j):Li listed j:=by
 cases h with
 |edge b=>exact f _ b
 |trans h b=>exact E3 down h (f _ b)
def HE(hf:Ju ops rl qs ts){p p' i:Nat}(h:(qs++ts)[p]?=some i)(b:(qs++ts)[p']?=some i):p=p':=by
 have f:=(List.getElem?_eq_some_iff.1 h).1;have w:=(List.getElem?_eq_some_iff.1 b).1;exact(getElem?_inj f hf.nodup).1 (h.trans b.symm)
structure Inv(S:Sys P T)(ops:Array Oper)(rl qs:List Nat)(late:Nat->Bool)(G:Qa T->Prop)(U₀:Qa T)(a_0:Act)(Fin:Act->Qa T->Prop)(listed:Array Bool)(ac:Act)(U:Qa T)
  (pre L:List Nat) (C:Qa T->Prop) (av:Act) (val:Nat->Value):Prop where
 split:qs=pre++L
 der:ZU S ops rl (Z_ ops) late G U₀ Fin L C av
 mono:Xz C
 base:U₀.le U
 c:C U
 av:Jj ops val (·∈pre) a_0 av
 ac:Jj ops val (Li listed) a_0 ac
 sub:∀i,Li listed i->i∈pre
 size:listed.size=ops.size
 down:∀i,Li listed i->∀j∈Wt ops i,Li listed j
 rels:∀i∈pre,i∈rl->Li listed i
 pend:∀i∈pre,¬Li listed i->∃o ai p,qs[p]?=some i/\ops[i]?=some o/\Jj ops val (·∈qs.take p) a_0 ai /\
  ((Region.wanted o (yielded ops ai.tmps)=false/\val i=undef) \/
   (Region.wanted o (yielded ops ai.tmps)=true/\(∀U',U.le U'->QK S o ai (λ v' U2=>v'=val i/\∃U1,Qv U2 U1/\U'.le U1) U')/\(late i=true->∀U',G U'->QK S o ai (λ v' U2=>v'=val i/\∃U1,Qv U2 U1/\U'.le U1) U')))
variable{late:Nat->Bool}{G:Qa T->Prop}{U₀:Qa T}{a_0:Act}{Fin:Act->Qa T->Prop}{listed:Array Bool}{ac av:Act}{U:Qa T}{pre L:List Nat}{C:Qa T->Prop}{val:Nat->Value}
def ZS(val:Nat->Value)(i:Nat)(v:Value):Nat->Value:=λ j=>if j=i then v else val j
def Hl{val:Nat->Value}{i j:Nat}{v:Value}(h:j≠i):ZS val i v j=val j:=by simp[ZS,h]
def HD(val:Nat->Value)(i:Nat)(v:Value):ZS val i v i=v:=by simp[ZS]
def PO(hf:Ju ops rl qs ts){x:Nat}{rest:List Nat}(h:qs=pre++x::rest):x∉pre:=by
 intro hx;have:=(nodup_append.1 hf.nodup).1;rw[h]at this;exact(nodup_append.1 this).2.2 x hx x (mem_cons_self ..) rfl
def W7{x:Nat}{rest:List Nat}(h:qs=pre++x::rest):qs.take pre.length=pre/\qs[pre.length]?=some x:=by
 subst h;exact⟨S1,S1⟩
def W9{p i:Nat}(b:qs[p]?=some i):(qs++ts)[p]?=some i:=by
 rw[getElem?_append_left (List.getElem?_eq_some_iff.1 b).1];exact b
def Inv.note(hf:Ju ops rl qs ts){x:Nat}{rest:List Nat}(h:Inv S ops rl qs late G U₀ a_0 Fin listed ac U pre (x::rest) C av val)(v:Value) :
  Jj ops (ZS val x v) (·∈pre) a_0 av/\Jj ops (ZS val x v) (Li listed) a_0 ac /\
  (∀i∈pre,¬Li listed i->∃o f p,qs[p]?=some i/\ops[i]?=some o/\Jj ops (ZS val x v) (·∈qs.take p) a_0 f /\
   ((Region.wanted o (yielded ops f.tmps)=false/\ZS val x v i=undef) \/
    (Region.wanted o (yielded ops f.tmps)=true/\(∀U',U.le U'->QK S o f (λ L E=>L=ZS val x v i/\∃w,Qv E w/\U'.le w) U')/\(late i=true->∀U',G U'->QK S o f (λ L E=>L=ZS val x v i/\∃w,Qv E w/\U'.le w) U')))):=by
 have hx:=PO hf h.split;refine⟨h.av.val λ j z=>Hl (λ e=>hx (e▸z)),h.ac.val λ j z=>Hl (λ e=>hx (e▸h.sub j z)),λ i H hl=>?_⟩;obtain⟨o,f,p,M,Q,F,P⟩:=h.pend i H hl;have I:i≠x:=λ e=>hx (e▸H);refine⟨o,f,p,M,Q,F.val λ j z=>Hl λ e=>?_,by rw[Hl I];exact P⟩;subst e;obtain⟨p',b⟩:=mem_iff_getElem?.1 z;rw[getElem?_take]at b;split at b
 .rename_i hlt;have T:=HE hf (W9 (ts:=ts) b) (W9 (W7 h.split).2);obtain⟨N,B⟩:=mem_iff_getElem?.1 H;have K:N<pre.length:=(List.getElem?_eq_some_iff.1 B).1;have V:=HE hf (W9 (ts:=ts) M) (W9 (ts:=ts) (p:=N) (i:=i) (by rw[h.split,getElem?_append_left K];exact B));omega
 .cases b
def Inv.adv(hf:Ju ops rl qs ts){x:Nat}{rest:List Nat}(h:Inv S ops rl qs late G U₀ a_0 Fin listed ac U pre (x::rest) C av val){v:Value}{o:Oper}(I:ops[x]?=some o)(F:x∉rl)
  (L:ZU S ops rl (Z_ ops) late G U₀ Fin rest C (av.put o.dst v))
  (z:(Region.wanted o (yielded ops av.tmps)=false/\v=undef)\/(Region.wanted o (yielded ops av.tmps)=true/\(∀U',U₀.le U'->C U'->QK S o av (λ H E=>H=v/\∃w,Qv E w/\U'.le w) U')/\(late x=true->∀U',G U'->QK S o av (λ H E=>H=v/\∃w,Qv E w/\U'.le w) U'))) :
  Inv S ops rl qs late G U₀ a_0 Fin listed ac U (pre++[x]) rest C (av.put o.dst v) (ZS val x v):=by
 obtain⟨K,P,Q⟩:=h.note hf v;have f:=Jj.put hf K I;rw[HD]at f;refine⟨by rw[h.split];simp,L,h.mono,h.base,h.c,?_,P,λ i b=>mem_append_left _ (h.sub i b),h.size,h.down,?_,?_⟩
 .have e:(λ j=>j∈pre\/j=x)=(·∈pre++[x]):=by funext j;simp
  rw[<- e];exact f
 .intro i b hr;rcases mem_append.1 b with b|b
  .exact h.rels i b hr
  .simp at b;subst b;exact absurd hr F
 .intro i b hl;rcases mem_append.1 b with b|b
  .exact Q i b hl
  .simp at b;subst b;refine⟨o,av,pre.length,(W7 h.split).2,I,by rw[(W7 h.split).1];exact K,?_⟩;rw[HD];rcases z with z|⟨N,z,M⟩
   .exact .inl z
   .exact .inr ⟨N,λ U' B=>z U' (h.base.trans B) (h.mono _ _ h.c B),M⟩
def G_(hf:Ju ops rl qs ts)(down:∀i,Li listed i->∀j∈Wt ops i,Li listed j){p i:Nat}(z:qs[p]?=some i)(hl:¬Li listed i)(F:∀j∈Wt ops i,Li listed j)
  {s j:Nat} (G:s∈looks ops i) (B:WF ops j=some s):Li listed j↔j∈qs.take p:=by
 have w:=W9 (ts:=ts) z;have E:=(List.getElem?_eq_some_iff.1 z).1;by_cases e:i=j
 .subst e;refine⟨λ h=>absurd h hl,λ h=>?_⟩;obtain⟨p',b⟩:=mem_iff_getElem?.1 h;rw[getElem?_take]at b;split at b
  .have:=HE hf (W9 (ts:=ts) b) w;omega
  .cases b
 .rcases hf.look i (mem_of_getElem? z) j s e B G with hb|hb
  .have h1:=J9 down hb F;have h2:=Em hf hb p w;rw[take_append_of_le_length O1]at h2;exact⟨λ _=>h2,λ _=>h1⟩
  .refine⟨λ h=>absurd (E3 down hb h) hl,λ h=>?_⟩;obtain⟨p',b⟩:=mem_iff_getElem?.1 h;rw[getElem?_take]at b;split at b
   .have h2:=Em hf hb p' (W9 (ts:=ts) b);obtain⟨H,f⟩:=mem_iff_getElem?.1 h2;rw[getElem?_take]at f;split at f
    .have:=HE hf f w;omega
    .cases f
   .cases b
def Inv.reach(hf:Ju ops rl qs ts){i:Nat}(b:i∈qs)(Q:∀j∈Wt ops i,Li listed j) :
  ∀(L pre:List Nat)(C:Qa T->Prop)(av:Act)(val:Nat->Value),Inv S ops rl qs late G U₀ a_0 Fin listed ac U pre L C av val ->
   ∃f K N z w,Inv S ops rl qs late G U₀ a_0 Fin listed ac U f K N z w/\(i∈f\/∃rest,K=i::rest/\i∈rl):=by
 intro L
 induction L with
 |nil=>
  intro pre C av val h;exact⟨pre,[],C,av,val,h,.inl (by have:=h.split;simp at this;exact this▸b)⟩
 |cons x rest M=>
  intro pre C av val h;by_cases hx:x∈rl
  .by_cases e:x=i
   .subst e;exact⟨pre,_,C,av,val,h,.inr ⟨rest,rfl,hx⟩⟩
   .by_cases hpre:i∈pre
    .exact⟨pre,_,C,av,val,h,.inl hpre⟩
    .exfalso
     have hm:i∈rest:=by
      rw[h.split]at b;simp at b;rcases b with b|b|b
      .exact absurd b hpre
      .exact absurd b.symm e
      .exact b
     have hb:Z_ ops x i:=by
      refine hf.behind pre.length x (W7 h.split).2 hx i ?_;rw[h.split];simp[hm]
     exact PO hf h.split (h.sub x (J9 h.down hb Q))
  .have hder:=h.der;cases hder with
   |un _ E I B=>exact M _ _ _ _ (h.adv hf E hx B (.inl ⟨I,rfl⟩))
   |det v _ E I H P B=>exact M _ _ _ _ (h.adv hf E hx B (.inr ⟨I,H,P⟩))
   |rel F hm=>exact absurd hm hx
   |last hm=>exact absurd hm hx
def Pp{o:Oper}{a:Act}{K:Value->Qa T->Prop}{b:Act->Qa T->Prop}(h:QK S o a K U)(f:∀v U,K v U->b (a.put o.dst v) U):HW S ro o a b U:=
 QK.opV (h.mono f)
def Po{o:Oper}{a:Act}{K:Value->Qa T->Prop}(h:QK S o a K U):∀c,o.op≠.defer c:=by
 intro c e;unfold QK at h;simp only[execOp,e]at h;have z:=(Oi (P:=P) (resolve a.eval c o.type) (λ d=>(pure (.defer d):Sem Next))).1 h;have b:Qq P (resolve a.eval c o.type) (λ _ _=>False) U:=Qq.mono _ z λ d U B=>B;obtain⟨callee,args,w⟩:=c;cases callee with
 |value f=>cases E:a.eval f <;> simp[resolve,Deferred.ofValue,E,Qq,pure,stuck]at b
 |invoke r F=>simp[resolve,Qq,pure]at b
 |builtin bb=>simp[resolve,Qq,pure]at b
def KT{k t:Nat}{listed:Array Bool}(h:Region.ready .any ops listed≠[]):∃i∈Region.ready .any ops listed,∃w,Region.linearise.go .any ops (k+1) t listed []=i::Region.linearise.go .any ops k w (listed.setIfInBounds i true) []:=by
 have b:t % (Region.ready .any ops listed).length<(Region.ready .any ops listed).length:=Nat.mod_lt _ (length_pos_iff.2 h);refine⟨(Region.ready .any ops listed)[t % (Region.ready .any ops listed).length],getElem_mem _,t / (Region.ready .any ops listed).length,?_⟩;have f:(Region.ready .any ops listed)[t % (Region.ready .any ops listed).length]?=some (Region.ready .any ops listed)[t % (Region.ready .any ops listed).length]:=getElem?_eq_getElem b;simp only[Region.linearise.go]
 change(match(Region.ready .any ops listed)[t % (Region.ready .any ops listed).length]? with
   |some i=>Region.linearise.go .any ops k (t / (Region.ready .any ops listed).length) (listed.setIfInBounds i true) [i]
   |none=>[].reverse)=_
 rw[f];simp only[];rw[linearise_go_acc,reverse_singleton,singleton_append]
def VH(hf:Ju ops rl qs ts){listed:Array Bool}(F:listed.size=ops.size):∀(p i:Nat),(qs++ts)[p]?=some i->¬Li listed i->∃x,x∈Region.ready .any ops listed:=by
 intro p
 induction p using Nat.strongRecOn with
 |ind p G=>
  intro i w B;by_cases z:∀j∈Wt ops i,Li listed j
  .refine⟨i,J2.2 ⟨(hf.mem i).2 (mem_of_getElem? w),?_,z⟩⟩;have h:i<listed.size:=by rw[F];exact(hf.mem i).2 (mem_of_getElem? w)
   simp only[Li,Array.getD_eq_getD_getElem?,Array.getElem?_eq_getElem h,Option.getD_some,Bool.not_eq_true]at B ⊢;exact B
  .obtain⟨j,f,hl⟩:∃j∈Wt ops i,¬Li listed j:=by
    apply Classical.byContradiction;intro E;exact z λ j f=>Classical.byContradiction λ hl=>E ⟨j,f,hl⟩
   obtain⟨p',b⟩:=mem_iff_getElem?.1 (hf.order p i w j f);rw[getElem?_take]at b;split at b
   .exact G p' (by assumption) j b hl
   .cases b
def KV{listed:Array Bool}{i:Nat}(h:i∈Region.ready .any ops listed):¬Li listed i:=by
 have:=(J2.1 h).2.1;simp only[Li,Array.getD_eq_getD_getElem?]at this ⊢;cases hx:listed[i]? <;> simp_all
def xU(hf:Ju ops rl qs ts){listed:Array Bool}{p:Nat}(hl:∀i,Li listed i↔i∈(qs++ts).take p):∀i,Li listed i->∀j∈Wt ops i,Li listed j:=by
 intro i f j h;rw[hl]at f ⊢;obtain⟨w,b⟩:=mem_iff_getElem?.1 f;rw[getElem?_take]at b;split at b
 .have:=hf.order w i b j h;exact take_subset_take_left _ O1 this
 .cases b
def Lo(hf:Ju ops rl qs ts):∀(q:Nat)(p t:Nat)(listed:Array Bool),p+q=ts.length->listed.size=ops.size->(∀i,Li listed i↔i∈(qs++ts).take (qs.length+p)) ->
  Region.linearise.go .any ops q t listed []=ts.drop p:=by
 intro q
 induction q with
 |zero=>intro p t listed M _ _;simp[Region.linearise.go,drop_of_length_le (show ts.length<=p by omega)]
 |succ q P=>
  intro p t listed M L hl;have z:p<ts.length:=O1
  have hx:ts[p]?=some ts[p]:=getElem?_eq_getElem z;have f:(qs++ts)[qs.length+p]?=some ts[p]:=by rw[getElem?_append_right O1];simp
  have B:¬Li listed ts[p]:=by
   rw[hl];intro h;obtain⟨E,b⟩:=mem_iff_getElem?.1 h;rw[getElem?_take]at b;split at b
   .have:=HE hf b f;omega
   .cases b
  obtain⟨y,hy⟩:=VH hf L _ _ f B;obtain⟨i,F,Q,G⟩:=KT (k:=q) (t:=t) (ne_nil_of_mem hy);have w:=xU hf hl
  have H:i=ts[p]:=by
   have I:=KV F;have N:=(J2.1 F).2.2;have hm:=(hf.mem i).1 (J2.1 F).1;obtain⟨E,b⟩:=mem_iff_getElem?.1 hm;by_cases h1:E<qs.length+p
   .exfalso;apply I;rw[hl];exact mem_iff_getElem?.2 ⟨E,by rw[getElem?_take,if_pos h1];exact b⟩
   .by_cases h2:E=qs.length+p
    .subst h2;rw[f]at b;cases b;rfl
    .exfalso;have K:ts[E-qs.length]?=some i:=by rw[getElem?_append_right O1]at b;exact b
     refine B (J9 w (hf.tail _ i K ts[p] ?_) N);refine mem_append_right _ (mem_iff_getElem?.2 ⟨p,?_⟩);rw[getElem?_take,if_pos O1];exact hx
  subst H;rw[G,P (p+1) Q _ O1 (by simpa using L),drop_eq_getElem_cons z];intro j;rw[Yd (by rw[L];exact(J2.1 F).1),hl]
  have:(qs++ts).take (qs.length+(p+1))=(qs++ts).take (qs.length+p)++[ts[p]]:=by
   rw[<- Nat.add_assoc,take_add_one,f];rfl
  rw[this];simp
def Jj.eq{val:Nat->Value}{D b:Nat->Prop}{a_0 a a':Act}(h:Jj ops val D a_0 a)(f:Jj ops val b a_0 a')(B:∀j,D j↔b j):a=a':=by
 obtain⟨E,w⟩:=a;obtain⟨F,z⟩:=a';have h1:w=z:=h.defers.trans f.defers.symm
 have h2:E=F:=by
  apply Array.ext_getElem?;intro s;exact h.slot f (s:=s) λ j _=>B j
 rw[h1,h2]
def kH(hf:Ju ops rl qs ts){Q:Ex->Act->Qa T->Prop}:∀(r t:Nat)(listed:Array Bool)(ac:Act)(U:Qa T)(pre L:List Nat)(C:Qa T->Prop)(av:Act)(val:Nat->Value),
  Inv S ops rl qs late G U₀ a_0 (λ a U=>QU S fn ro ops ts Q a U) listed ac U pre L C av val->(qs.filter λ i=>!listed.getD i false).length=r ->
  QU S fn ro ops (Region.linearise.go .any ops (r+ts.length) t listed []) Q ac U:=by
 intro r
 induction r generalizing U₀ with
 |zero=>
  intro t listed ac U pre L C av val h hr
  have ad:∀i∈qs,Li listed i:=by
   intro i hi;have:=filter_eq_nil_iff.1 (length_eq_zero_iff.1 hr) i hi;simpa[Li]using this
  have hL:L=[]:=by
   cases L with
   |nil=>rfl
   |cons x rest=>exact absurd (h.sub x (ad x (by rw[h.split];simp))) (PO hf h.split)
  subst hL;have X:pre=qs:=by have:=h.split;simp at this;exact this.symm
  subst X;have af:=h.der;cases af with
  |nil ag=>
   have e:av=ac:=h.av.eq h.ac λ j=>⟨ad j,h.sub j⟩;have:=ag U h.base h.c;rw[e]at this;rw[Nat.zero_add,Lo hf ts.length 0 t listed O1 h.size λ i=>?_]
   .simpa using this
   .rw[Nat.add_zero,take_left']
    .exact⟨h.sub i,ad i⟩
    .rfl
 |succ r ih=>
  intro t listed ac U pre L C av val h hr;obtain⟨q,hq⟩:∃q,q∈qs.filter λ i=>!listed.getD i false:=exists_mem_of_length_pos O1;have ax:=(mem_filter.1 hq).1;have aw:¬Li listed q:=by have:=(mem_filter.1 hq).2;simpa[Li]using this
  obtain⟨pq,a2⟩:=mem_iff_getElem?.1 ax;obtain⟨y,hy⟩:=VH hf h.size _ _ (W9 (ts:=ts) a2) aw;obtain⟨i,hi,t',az⟩:=KT (k:=r+ts.length) (t:=t) (ne_nil_of_mem hy);have aj:=KV hi;have M:=(J2.1 hi).2.2;have au:=(J2.1 hi).1
  have aq:i∈qs:=by
   rcases mem_append.1 ((hf.mem i).1 au)with hm|hm
   .exact hm
   .obtain⟨p1,hp1⟩:=mem_iff_getElem?.1 hm;exact absurd (J9 h.down (hf.tail p1 i hp1 q (mem_append_left _ ax)) M) aw
  rw[show r+1+ts.length=(r+ts.length)+1 by omega,az];have E:∀j,Li (listed.setIfInBounds i true) j↔Li listed j\/j=i:=λ j=>Yd (by rw[h.size];exact au)
  have I:(qs.filter λ x=>!(listed.setIfInBounds i true).getD x false).length=r:=by
   have a1:=(nodup_append.1 hf.nodup).1
   have e:(qs.filter λ x=>!(listed.setIfInBounds i true).getD x false)=(qs.filter λ x=>!listed.getD x false).filter (λ x=>x != i):=by
    rw[filter_filter];refine filter_congr λ x _=>?_;have:=E x;simp only[Li]at this;cases hx:(listed.setIfInBounds i true).getD x false <;> cases a3:listed.getD x false <;> by_cases e:x=i <;> simp_all
   rw[e,<- Nodup.erase_eq_filter (a1.filter _),length_erase_of_mem (mem_filter.2 ⟨aq,by simpa[Li]using aj⟩),hr];rfl
  obtain⟨H,L',C',aa,Z,w,al⟩:=h.reach hf aq M
  have P:∀j,Li (listed.setIfInBounds i true) j->∀k∈Wt ops j,Li (listed.setIfInBounds i true) k:=by
   intro j f k hk;rw[E]at f ⊢;rcases f with f|rfl
   .exact .inl (h.down j f k hk)
   .exact .inl (M k hk)
  have W:∀{val:Nat->Value}{o:Oper},ops[i]?=some o->Jj ops val (Li listed) a_0 ac->Jj ops val (Li (listed.setIfInBounds i true)) a_0 (ac.put o.dst (val i)):=by
   intro val o V ha;have:=Jj.put hf ha V;have e:Li (listed.setIfInBounds i true)=λ j=>Li listed j\/j=i:=by funext j;exact propext (E j)
   rw[e];exact this
  by_cases X:i∈H
  ·
   obtain⟨o,ai,p,hp,V,ay,hh⟩:=w.pend i X aj;have B:=PQ V (hf.nosel i o V) (a:=ac) (a':=ai) λ s hs=>w.ac.slot ay λ j f=>G_ hf w.down hp aj M hs f
   have next:∀N,U.le N->Inv S ops rl qs late G U₀ a_0 (λ a U=>QU S fn ro ops ts Q a U) (listed.setIfInBounds i true) (ac.put o.dst (Z i)) N H L' C' aa Z:=λ N K=>
    ⟨w.split,w.der,w.mono,w.base.trans K,w.mono _ _ w.c K,w.av,W V w.ac,λ j f=>((E j).1 f).elim (w.sub j) (λ e=>e▸X),by simpa using w.size,P,λ j f hr=>(E j).2 (.inl (w.rels j f hr)),
     λ j f hl=>by
      obtain⟨o,ai,p,a,b,c,d⟩:=w.pend j f λ hx=>hl ((E j).2 (.inl hx));exact⟨o,ai,p,a,b,c,d.imp id λ⟨x,y,z⟩=>⟨x,λ U' hU=>y U' (K.trans hU),z⟩⟩⟩
   rcases hh with⟨hw,hv⟩|⟨hw,ak,hg⟩
   .refine P0 V (by rw[B.2];exact hw) ?_;have:=ih t' _ _ _ _ _ _ _ _ (next U (.refl U)) I;rw[hv]at this;exact this
   .have Y:QK S o ac (λ v' U2=>v'=Z i/\∃N,Qv U2 N/\U.le N) U:=by have:=ak U (.refl U);unfold QK at this ⊢;rw[B.1];exact this
    refine XQ V (by rw[B.2];exact hw) (.inr (Po Y)) (Pp Y λ v U2 hv=>?_);obtain⟨rfl,N,hs,K⟩:=hv;exact Gf hs (ih t' _ _ _ _ _ _ _ _ (next N K) I)
  .obtain⟨rest,rfl,hrl⟩:=al.resolve_left X;have af:=w.der;cases af with
   |un hx _ _ _=>exact absurd hrl hx
   |det _ hx _ _ _ _ _=>exact absurd hrl hx
   |@rel _ _ _ _ o F _ hF V hw ak hd=>
    obtain⟨an,ah⟩:=W7 w.split
    have B:=PQ V (hf.nosel i o V) (a:=ac) (a':=aa) λ s hs=>w.ac.slot w.av λ j f=>by
     have:=G_ hf w.down ah aj M hs f;rw[an]at this;exact this
    have Y:QK S o ac (λ v' U2=>∃N,Qv U2 N/\F v' N/\U.le N) U:=by have:=ak U w.base w.c;unfold QK at this ⊢;rw[B.1];exact this
    refine XQ V (by rw[B.2];exact hw) (.inr (Po Y)) (Pp Y λ v U2 hv=>?_);obtain⟨N,hs,ao,K⟩:=hv;refine Gf hs ?_;obtain⟨n1,n2,n3⟩:=w.note hf v;have ae:=Jj.put hf n1 V;have ab:=W V n2;rw[HD]at ae ab;refine ih t' _ _ N (H++[i]) rest (λ U'=>C' U'/\F v U') (aa.put o.dst v) (ZS Z i v) ⟨by rw[w.split];simp,hd v ⟨N,w.base.trans K,w.mono _ _ w.c K,ao⟩,λ a b⟨x,y⟩hl=>⟨w.mono a b x hl,hF v a b y hl⟩,w.base.trans K,⟨w.mono _ _ w.c K,ao⟩,?_,ab,?_,by simpa using w.size,P,?_,?_⟩ I
    .have e:(λ j=>j∈H\/j=i)=(·∈H++[i]):=by funext j;simp
     rw[<- e];exact ae
    .intro j f;rcases(E j).1 f with f|rfl
     .exact mem_append_left _ (w.sub j f)
     .simp
    .intro j f hr;rw[E];rcases mem_append.1 f with f|f
     .exact .inl (w.rels j f hr)
     .exact .inr (by simpa using f)
    .intro j f hl;rcases mem_append.1 f with f|f
     .obtain⟨o,ai,p,a,b,c,d⟩:=n3 j f λ hx=>hl ((E j).2 (.inl hx));exact⟨o,ai,p,a,b,c,d.imp id λ⟨x,y,z⟩=>⟨x,λ U' hU=>y U' (K.trans hU),z⟩⟩
     .exact absurd ((E j).2 (.inr (by simpa using f))) hl
   |@last _ _ _ o _ hG am V hw ak ag=>
    obtain⟨an,ah⟩:=W7 w.split
    have B:=PQ V (hf.nosel i o V) (a:=ac) (a':=aa) λ s hs=>w.ac.slot w.av λ j f=>by
     have:=G_ hf w.down ah aj M hs f;rw[an]at this;exact this
    have Y:QK S o ac (λ v' U2=>v'=undef/\∃N,Qv U2 N/\G N) U:=by have:=ak U w.base w.c;unfold QK at this ⊢;rw[B.1];exact this
    refine XQ V (by rw[B.2];exact hw) (.inr (Po Y)) (Pp Y λ v U2 hv=>?_);obtain⟨rfl,N,hs,ap⟩:=hv;refine Gf hs ?_;obtain⟨n1,n2,n3⟩:=w.note hf undef;have ae:=Jj.put hf n1 V;have ab:=W V n2;rw[HD]at ae ab;refine ih (U₀:=N) t' _ _ N (H++[i]) [] G (aa.put o.dst undef) (ZS Z i undef) ⟨by rw[w.split];simp,.nil λ U' _ hg=>ag ⟨U,w.base,w.c⟩ U' hg,hG,.refl N,ap,?_,ab,?_,by simpa using w.size,P,?_,?_⟩ I
    .have e:(λ j=>j∈H\/j=i)=(·∈H++[i]):=by funext j;simp
     rw[<- e];exact ae
    .intro j f;rcases(E j).1 f with f|rfl
     .exact mem_append_left _ (w.sub j f)
     .simp
    .intro j f hr;rw[E];rcases mem_append.1 f with f|f
     .exact .inl (w.rels j f hr)
     .exact .inr (by simpa using f)
    .intro j f hl;rcases mem_append.1 f with f|f
     .have hnj:¬Li listed j:=λ hx=>hl ((E j).2 (.inl hx));obtain⟨o,ai,p,a,b,c,d⟩:=n3 j f hnj;refine⟨o,ai,p,a,b,c,d.imp id λ⟨x,y,z⟩=>?_⟩
      have a0:late j=true:=by
       cases hb:late j with
       |true=>rfl
       |false=>exact absurd (J9 h.down (am j hb) M) hnj
      exact⟨x,λ U' hU=>z a0 U' (hG _ _ ap hU),z⟩
     .exact absurd ((E j).2 (.inr (by simpa using f))) hl
end sound
def D9{late:Nat->Bool}{G:Qa T->Prop}{Q:Ex->Act->Qa T->Prop}{a:Act}{U:Qa T}{id:Nat}{ops:Array Oper}(rl qs ts:List Nat)(hm:P.follows .mixedOrders=true)(w:PW ops rl qs ts=true)
  (h:ZU S ops rl (Z_ ops) late G U (λ a U=>QU S fn ro ops ts Q a U) qs (λ _=>True) a):Zq S fn ro (.region id ops true) Q a U:=by
 have hf:=F9 w;refine L6 λ t=>?_;simp only[Region.schedule,hm,Bool.true_or,if_true,Region.linearise]
 have z:(qs.filter λ i=>!(Array.replicate ops.size false).getD i false).length=qs.length:=by
  congr 1;rw[filter_eq_self];intro x _;simp[Array.getElem?_replicate];split <;> rfl
 have f:ops.size=qs.length+ts.length:=by
  have h1:(qs++ts).Perm (range ops.size):=by
   refine(perm_ext_iff_of_nodup hf.nodup nodup_range).2 λ x=>?_;rw[mem_range];exact(hf.mem x).symm
  have:=h1.length_eq;simp at this;omega
 have b:∀i,¬Li (Array.replicate ops.size false) i:=by
  intro i h;simp only[Li,Array.getD_eq_getD_getElem?,Array.getElem?_replicate]at h;split at h <;> simp at h
 have:=kH (S:=S) (fn:=fn) (ro:=ro) (Q:=Q) hf qs.length t (Array.replicate ops.size false) a U [] qs (λ _=>True) a (λ _=>undef)
  ⟨rfl,h,λ _ _ _ _=>trivial,.refl U,trivial,⟨rfl,rfl,λ _ _ _ h=>by simp at h,λ _ _=>rfl⟩,⟨rfl,rfl,λ _ j _ h=>absurd h (b j),λ _ _=>rfl⟩,λ i h=>absurd h (b i),S1,λ i h=>absurd h (b i),S1,S1⟩ z
 rw[<- f]at this;exact this
end Go.TM
namespace Go.TM
variable{T:Type}{P:Program}{S:Sys P T}{fn:FuncId}{ro:Option Nat}{Stop:QI T}{m:Bool}
def J.body{b:Frame}{a:Act}{c:Code}{cs:List Frame}{U:Qa T}{Q:Ex->Act->Qa T->Prop}(hb:Fr fn none b)(h:Zq S fn none c Q a U)
  (E:∀e a' U',Q e a' U'->(e=.normal\/e=.ret)/\∀todo,J S Stop m (Rf { fr b a' todo with mode:=.returning } cs) U'):J S Stop m (R b a [.code c] cs) U:=by
 refine h Stop m b [] cs hb λ e a' U' q=>?_;obtain⟨B,z⟩:=E e a' U' q;have f:=hb.2.1;rcases B with rfl|rfl
 .refine .still (g':=Rf { fr b a' []with mode:=.returning } cs) rfl (λ w=>?_) (z []);simp[R,Rf,stepG,stepG.exec,fr,f]
 .simp only[Xo,Xq,f];exact⟨.inr trivial,z⟩
def X3(P:Program)(f:Func)(Q:Value->Qa T->Prop)(tmps:Array Value):List Deferred->Qa T->Prop
 |[],U=>Qq P (results f tmps) Q U
 |{ target:=.collected blk,.. }::ds,U=>Qq P (Instr.takeDeferred blk) (λ b U'=>b=[]/\X3 P f Q tmps ds U') U
 |_,_=>False
def X3.step{f:Func}{Q:Value->Qa T->Prop}{b:Frame}{tmps:Array Value}{c:Frame}{cs:List Frame}(hf:P.funcs[b.fn]?=some f)(B:b.kind=.normal\/b.kind=.wrapped)(H:∀v U',Q v U'->J S Stop m (Rf (c.finish v) cs) U') :
  ∀(ds:List Deferred)(todo:List Item)(U:Qa T),X3 P f Q tmps ds U->J S Stop m (Rf { fr b ⟨tmps,ds⟩ todo with mode:=.returning } (c::cs)) U:=by
 intro ds
 induction ds with
 |nil=>
  intro todo U h;refine .sem _ rfl h λ w x w' es z _=>⟨Rf (c.finish x) cs,seen P b.fn es,?_,Jm P _ es,λ U' q=>H _ _ q⟩;obtain⟨F,E⟩:Sem.run P (results f tmps) w=.ok x w'/\Sem.events P (results f tmps) w #[]=es:=by simpa using z
  rcases B with B|B <;> simp[Rf,stepG,unwind,fr,hf,F,E,doReturn,B,GStep.after]
 |cons d ds I=>
  intro todo U h;obtain⟨K,args⟩:=d;cases K with
  |collected blk=>
   simp only[X3]at h;refine .sem _ rfl h λ w x w' es z G=>⟨Rf { fr b ⟨tmps,x++ds⟩ todo with mode:=.returning } (c::cs),seen P b.fn es,?_,Jm P _ es,λ U' q=>?_⟩
   .obtain⟨F,E⟩:Sem.run P (Instr.takeDeferred blk) w=.ok x w'/\Sem.events P (Instr.takeDeferred blk) w #[]=es:=by simpa using z
    simp[Rf,stepG,unwind,fr,F,E,GStep.after]
   .obtain⟨rfl,q⟩:=q;exact I todo U' q
  |_=>exact h.elim
def Uj(P:Program)(f:Func)(Q:Value->Qa T->Prop):Ex->Act->Qa T->Prop
 |.normal,a,U=>X3 P f Q a.tmps a.defers U
 |.ret,a,U=>X3 P f Q a.tmps a.defers U
 |.exit _,_,_=>False
def Qb.of_body{f:FuncId}{fd:Func}{c:Code}{args:Array Value}{U:Qa T}{Q:Value->Qa T->Prop}(hf:P.funcs[f]?=some fd)(hb:fd.body=some c)
  (h:Zq S f none c (Uj P fd Q) { tmps:=args++Array.replicate (fd.ntmps-args.size) undef,defers:=[] } U):Qb S f args Q U:=by
 intro Stop m w cs B
 let b:Frame:={ (default:Frame)with fn:=f,kind:=.normal }
 have z:Rf (Frame.enter P f args .normal) (w::cs)=R b { tmps:=args++Array.replicate (fd.ntmps-args.size) undef,defers:=[] } [.code c] (w::cs):=by
  simp[Rf,R,Frame.enter,fr,hf,hb,b];rfl
 rw[z];refine J.body (fn:=f) ⟨rfl,rfl,by simp[b],S1⟩ h λ e a' U' q=>?_;cases e with
 |normal=>exact⟨.inl rfl,λ todo=>X3.step hf (.inl rfl) B a'.defers todo U' q⟩
 |ret=>exact⟨.inr rfl,λ todo=>X3.step hf (.inl rfl) B a'.defers todo U' q⟩
 |exit id=>exact q.elim
def SZ:Ex->Option Code
 |.normal=>none
 |.ret=>some .ret
 |.exit id=>some (.exit id)
def LM(P:Program)(l:Nat)(Q:Value->Qa T->Prop)(e:Ex)(_:Act)(U:Qa T):Prop:=Qq P (Instr.endRound l (SZ e)) Q U
def J_.of_body{l:Nat}{f:FuncId}{tmps:Array Value}{assign body:Code}{U:Qa T}{Q:Value->Qa T->Prop}
  (h:Zq S f (some l) assign (λ e a' U'=>e=.normal/\Qq P (Instr.beginRound l) (λ _ F=>Zq S f (some l) body (LM P l Q) a' F) U') ⟨tmps,[]⟩ U):J_ S l f tmps assign body Q U:=by
 intro Stop m c cs N
 let b:Frame:={ (default:Frame)with fn:=f,kind:=.normal,roundOf:=some l }
 have hb:Fr f (some l) b:=⟨rfl,rfl,by simp[b],by simp[b]⟩;have E:b.roundOf=some l:=rfl
 have B:Rf (Frame.round l f tmps assign body .normal) (c::cs)=R b ⟨tmps,[]⟩ [.code assign,.beginRound,.code body] (c::cs):=by
  simp[Rf,R,Frame.round,fr,b]
 rw[B];refine h Stop m b [.beginRound,.code body] (c::cs) hb λ e a' U' q=>?_;obtain⟨rfl,q⟩:=q;show J S Stop m (R b a' [.beginRound,.code body] (c::cs)) U'
 have q':Qq P (do Instr.beginRound l;pure Next.skip:Sem Next) (λ n F=>n=.skip/\Zq S f (some l) body (LM P l Q) a' F) U':=
  (Oi _ _).2 (Qq.mono _ q λ _ _ h=>⟨rfl,h⟩)
 refine .sem _ rfl q' λ w x w' es z H=>⟨R b a' [.code body] (c::cs),seen P f es,?_,Jm P _ es,λ F q=>?_⟩
 .obtain⟨_,rfl,_⟩:=H;have I:(b.kind==CallKind.early)=false:=rfl;show stepG.apply P true (fr b a' [.beginRound,.code body]) (c::cs) none (do (Instr.beginRound l);pure .skip) w=_;simp only[stepG.apply,if_true,z];simp[fr,I,GStep.after,R,Frame.finish,b]
 .obtain⟨_,q⟩:=q;refine q Stop m b [] (c::cs) hb λ e G K q=>?_
  have leave:Xq S Stop m b (c::cs) (SZ e) G K:=by
   simp only[Xq,E];exact⟨c,cs,rfl,Qq.mono _ q λ v L X=>N v L X⟩
  cases e with
  |normal=>
   simp only[Xq,E,SZ]at leave;obtain⟨c',rest,e,W⟩:=leave;cases e;refine .sem _ rfl W λ w x w' es z _=>⟨Rf (c.finish x) cs,seen P f es,?_,Jm P _ es,λ _ h=>h⟩;obtain⟨V,M⟩:Sem.run P (Instr.endRound l none) w=.ok x w'/\Sem.events P (Instr.endRound l none) w #[]=es:=by simpa using z
   simp[R,stepG,stepG.exec,fr,b,V,M,doReturn,GStep.after,Rf]
  |exit id=>exact .inr ⟨rfl,leave⟩
  |ret=>exact leave
def K4(f:Operand)(l:Nat):Call:={ callee:=.value f,args:=#[.const (.func (.yield l) #[] #[])],argTypes:=#[] }
def zw{Q:Ex->Act->Qa T->Prop}{a:Act}{U:Qa T}{f:Operand}{params:Array Tmp}{assign body:Code}
  (h:Qq P (Instr.enterLoop fn a.tmps params assign body ro) (λ lm U1=>
   Qq P (do let d <- resolve a.eval (K4 f lm.1) 0;invoke d.target d.args:Sem Next) (λ nx U2=>match nx with
    |.enter f' args=>Qb S f' args (λ _ U3=>Qq P (Instr.endLoop lm.1) (λ j U4=>match j with
      |none=>Q .normal { a with defers:=lm.2++a.defers } U4
      |some c=>Zq S fn ro c Q { a with defers:=lm.2++a.defers } U4) U3) U2
    |_=>False) U1) U):Zq S fn ro (.rangeFunc f params assign body) Q a U:=by
 intro Stop m b k cs hb hc;have ac:(b.kind==CallKind.early)=false:=by simpa using hb.2.2.1
 refine .priv ⟨rfl,λ w ok=>?_⟩;obtain⟨⟨l,mark⟩,aa,H,U1,N,B,F,Z,h,X⟩:=Qq.sound _ (es₀:=#[]) h ok;obtain⟨nx,ab,I,U2,V,E,G,ad,h,Y⟩:=Qq.sound _ (es₀:=#[]) h Z;have L:(Instr.enterLoop b.fn a.tmps params assign body b.roundOf).runT P w #[]=(.ok (l,mark) aa,H):=by rw[hb.1,hb.2.1];simpa using N
 have M:(do let d <- resolve a.eval (K4 f l) 0;invoke d.target d.args:Sem Next).runT P aa #[]=(.ok nx ab,I):=by simpa using V
 cases nx with
 |enter f' args=>
  refine⟨Rf (Frame.enter P f' args .normal) (fr b { a with defers:=mark++a.defers } (.inRangeFunc l::k)::cs),ab,seen P b.fn H++seen P b.fn I,U2,?_,?_,F.trans G,ad,Y.trans X,?_⟩
  .have z:(fr b { a with defers:=mark++a.defers } (.inRangeFunc l::k)).eval=a.eval:=by rw[Y7];rfl
   show GStep.after (seen P b.fn ((Instr.enterLoop b.fn a.tmps params assign body b.roundOf).runT P w #[]).2) (match((Instr.enterLoop b.fn a.tmps params assign body b.roundOf).runT P w #[]).1 with
    |.ok (l,mark) w=>stepG.apply P true (fr b { a with defers:=mark++a.defers } (.inRangeFunc l::k)) cs none (do let d <- resolve (fr b { a with defers:=mark++a.defers } (.inRangeFunc l::k)).eval (K4 f l) 0;invoke d.target d.args) w
    |.halt _ w=>_)=_
   rw[L];simp only[z];simp only[stepG.apply,if_true,M];simp[fr,ac,GStep.after,Rf]
  .intro e z;rcases Array.mem_append.1 z with z|z
   .exact⟨(B e (Jm P _ _ e z)).1,(B e (Jm P _ _ e z)).2.mono G.size⟩
   .exact⟨JV.of F (E e (Jm P _ _ e z)).1,(E e (Jm P _ _ e z)).2⟩
  .refine h Stop m _ cs λ v U3 h=>?_;have K:(fr b { a with defers:=mark++a.defers } (.inRangeFunc l::k)).finish v=fr b { a with defers:=mark++a.defers } (.endRangeFunc l::k):=by simp[Frame.finish,fr]
   rw[K];refine .sem (g:=R b { a with defers:=mark++a.defers } (.endRangeFunc l::k) cs) _ rfl h λ w j w' es W _=>⟨R b { a with defers:=mark++a.defers } ((j.map Item.code).toList++k) cs,seen P b.fn es,?_,Jm P _ es,λ U4 q=>?_⟩
   .obtain⟨hr,z⟩:Sem.run P (Instr.endLoop l) w=.ok j w'/\Sem.events P (Instr.endLoop l) w #[]=es:=by simpa using W
    simp[R,stepG,stepG.exec,fr,hr,z,GStep.after]
   .cases j with
    |none=>exact hc _ _ _ q
    |some c=>exact q Stop m b k cs hb hc
 |_=>exact h.elim
end Go.TM
namespace Go.TM
variable{T:Type}{P:Program}{S:Sys P T}
def WI(U:Qa T):Prop:=∀r∈U.M,U.I r.blk=none
def Qb.sep{f:FuncId}{args:Array Value}{R R':Value->Qa T->Prop}{U:Qa T}(h:Qb S f args R U)(z:∀v U',WI U'->R v U'->∃U'',Qv U' U''/\R' v U''):Qb S f args R' U:=by
 intro Stop m c cs k;refine h Stop m c cs λ v U' r=>?_;by_cases b:WI U'
 .obtain⟨U'',h1,h2⟩:=z v U' b r;exact .shift h1 (k v _ h2)
 .exact .priv ⟨rfl,λ w ok=>absurd ok.sep b⟩
def Zm(S:Sys P T)(l:Nat)(vs:List Value)(K:Value->Qa T->Prop)(U:Qa T):Prop:=Qq P (Instr.yield l vs.toArray) (ZG S K) U
abbrev Fm:=Nat->Value
def JG(f:Fm)(d:Nat)(v:Value):Fm:=λ t=>bif Nat.beq t d then v else f t
def ZC(f:Fm):Option Nat->Value->Fm
 |some d,v=>JG f d v
 |none,_=>f
def Zf(f:Fm):Operand->Value
 |.tmp t=>f t
 |.const v=>v
 |.global g=>.pointer (some ⟨g,0,none⟩)
 |.func g=>.func (.func g) #[] #[]
inductive O where
 |mv (x:Operand)
 |pick (c a b:Operand)
 |add (x y:Operand)|sub (x y:Operand)|mul (x y:Operand)
 |cmp (op:BinOp) (x y:Operand)
 |beq (op:BinOp) (x y:Operand)
 |ar (op:BinOp) (x y:Operand)
 |teq (op:BinOp) (x y:Operand)
 |not (x:Operand)
 |len (x:Operand)
 |lenT (x:Operand)
 |lenM (x:Operand)
 |conv (k:IntKind) (x:Operand)
 |off (n:Nat) (x:Operand)
 |idx (sz:Nat) (x i:Operand)
 |aidx (n sz:Nat) (x i:Operand)
 |sidx (x i:Operand)
 |ld (x:Operand)
 |ldn (n:Nat) (x:Operand)
 |st (n:Nat) (x v:Operand)
 |box (t:TypeId) (x:Operand)
 |boxM (t:TypeId) (x:Operand)
 |alloc (t:TypeId) (zero:Array Value)
 |ext (x:Operand) (i:Nat)
 |part (off n:Nat) (x:Operand)
 |part1 (off:Nat) (x:Operand)
 |mkf (fn:Fn) (first capt:Array Operand)
 |call (f:Operand) (args:Array Operand)
 |nilc (x:Operand)
 |sub3 (sz:Nat) (x:Operand) (lo hi:Option Operand)
 |build (zero:Array Value) (parts:List (Nat×Nat×Operand))
 |bsl (t:TypeId) (len:Nat) (zero:Array Value) (parts:List (Nat×Nat×Operand))
 |raw (o:Oper)
def WN(v:Value)(K:Value->Prop):Prop:=
 match v with
 |.bool b=>K (.bool b)|.int k n=>K (.int k n)|.float k n=>K (.float k n)|.complex k a b=>K (.complex k a b)|.string s=>K (.string s)
 |.pointer a=>K (.pointer a)|.slice a l c=>K (.slice a l c)|.map r=>K (.map r)|.chan r=>K (.chan r)|.func f a b=>K (.func f a b)
 |.nilFunc=>K .nilFunc|.iface t x=>K (.iface t x)|.nilIface=>K .nilIface|.agg c=>K (.agg c)|.tuple c=>K (.tuple c)
def Qy(v:Value)(K:Value->Prop):WN v K=K v:=by cases v <;> rfl
def WZ(l:List Value):(List Value->Prop)->Prop:=List.rec (motive:=λ _=>(List Value->Prop)->Prop) (λ K=>K []) (λ v _ b K=>WN v λ v=>b λ r=>K (v::r)) l
def J4:∀(l:List Value)(K:List Value->Prop),WZ l K=K l
 |[],_=>rfl
 |v::r,K=>by
  show(WN v λ v=>WZ r λ r=>K (v::r))=_;rw[Qy];exact J4 r _
def PV(v:Value)(K:Array Value->Prop):Prop:=WN v λ v=>match v with|.agg cs=>K cs|v=>K #[v]
def OD(v:Value)(K:Array Value->Prop):PV v K=K v.cells:=by unfold PV;rw[Qy];cases v <;> rfl
def Zi(U:Qa T)(b:Nat)(c:Array Value):Prop:=∃t fr,U.I b=some (.cells c t fr)
def Zi.new{U:Qa T}{b:Nat}{c:Array Value}{t:TypeId}:Zi { U with I:=JC U.I b (.cells c t) } b c:=⟨t,(0,0),by simp[JC]⟩
def Gt{U:Qa T}{b:Nat}{o:Obj}(h:U.free b):U.le { U with I:=JC U.I b o }:=by
 refine⟨λ x f hx=>?_,rfl,rfl⟩;show JC U.I b o x=_;unfold JC;rw[if_neg]
 .exact hx
 .intro e;rw[e,h.1]at hx;cases hx
def Z7(n:Int):Prop:=-9223372036854775808<=n/\n<9223372036854775808
theorem I1{x:Int}(h:-9223372036854775808<=x/\x<9223372036854775808:=by omega):Z7 x:=h
def Gh{n:Int}(h:Z7 n):IntKind.wrap .i64 n=n:=by
 unfold Z7 at h;have b:(2:Int)^64=18446744073709551616:=D1
 have f:(2:Int)^(64-1)=9223372036854775808:=D1
 simp only[IntKind.wrap,IntKind.bits,IntKind.signed,Bool.true_and,b,f];split <;> rename_i w <;> simp only[decide_eq_true_eq]at w <;> omega
def Je(U:Qa T)(a:Addr)(vs:List Value):Prop:=∀i v,vs[i]?=some v->U.sees (a.add i) v
def QX(a:Addr)(l:List Value):Nat->(Qa T->Prop)->Qa T->Prop:=
 List.rec (motive:=λ _=>Nat->(Qa T->Prop)->Qa T->Prop) (λ _ K U=>K U) (λ v _ b i K U=>v.single=true/\∃M',XF (a.add i) v U.M M'/\b (i+1) K { U with M:=M' }) l
def QX.mono{a:Addr}{K b:Qa T->Prop}(f:∀U,K U->b U):∀(vs:List Value)(i:Nat)(U:Qa T),QX a vs i K U->QX a vs i b U
 |[],_,_,h=>f _ h
 |_::vs,i,_,⟨h1,M',w,h⟩=>⟨h1,M',w,QX.mono f vs (i+1) _ h⟩
def Ot(len:Nat)(lo b:Option Value):Option (Int×Int):=
 match lo,b with
 |none,none=>some (0,len)
 |some (.int _ l),none=>some (l,len)
 |none,some (.int _ h)=>some (0,h)
 |some (.int _ l),some (.int _ h)=>some (l,h)
 |_,_=>none
def ZT(cells:Array Value)(off:Nat):List Value->Nat->Array Value
 |[],_=>cells
 |v::r,j=>ZT (cells.setIfInBounds (off+j) v) off r (j+1)
def GW(f:Fm)(cells:Array Value):List (Nat×Nat×Operand)->Option (Array Value)
 |[]=>some cells
 |(off,size,x)::r=>
  if(Zf f x).cells.size≠size|| off+(Zf f x).cells.size > cells.size then none
  else GW f (ZT cells off (Zf f x).cells.toList 0) r
def VG:∀(vs:List Value)(c:Array Value)(off j:Nat),(ZT c off vs j).size=c.size
 |[],_,_,_=>rfl
 |v::vs,c,off,j=>by simp[ZT,VG vs]
def Pk:∀(vs:List Value)(c:Array Value)(off j k:Nat),off+j+vs.length<=c.size->(ZT c off vs j)[k]?=if off+j<=k/\k<off+j+vs.length then vs[k-(off+j)]? else c[k]?
 |[],c,off,j,k,_=>by simp[ZT];omega
 |v::vs,c,off,j,k,h=>by
  simp only[length_cons]at h;simp only[ZT];rw[Pk vs _ off (j+1) k S3];by_cases e:k=off+j
  .subst e;rw[if_neg O1,if_pos S1];rw[Array.getElem?_setIfInBounds_self_of_lt O1];simp
  .by_cases h1:off+(j+1)<=k/\k<off+(j+1)+vs.length
   .rw[if_pos h1,if_pos S3];have:k-(off+j)=(k-(off+(j+1)))+1:=O1
    rw[this,getElem?_cons_succ]
   .rw[if_neg h1,if_neg S3,Array.getElem?_setIfInBounds_ne O1]
def jz(vs:List Value)(c:Array Value)(off:Nat)(h:off+vs.length<=c.size):(ZT c off vs 0).toList=c.toList.take off++vs++c.toList.drop (off+vs.length):=by
 apply ext_getElem?;intro k;have b:=Pk vs c off 0 k O1;rw[Array.getElem?_toList,b];have hl:(c.toList.take off).length=off:=S3
 by_cases h1:k<off
 .rw[if_neg O1,append_assoc,getElem?_append_left O1,getElem?_take,if_pos h1,Array.getElem?_toList]
 .by_cases h2:k<off+vs.length
  .rw[if_pos O1,append_assoc,getElem?_append_right O1,getElem?_append_left O1,hl];rfl
  .rw[if_neg O1,append_assoc,getElem?_append_right O1,getElem?_append_right O1,hl,getElem?_drop,Array.getElem?_toList];congr 1;omega
def SV(off:Nat)(vs cs:List Value):List Value:=cs.take off++vs++cs.drop (off+vs.length)
def Ys(f:Fm)(w:List (Nat×Nat×Operand)):List Value->(List Value->Prop)->Prop:=
 List.rec (motive:=λ _=>List Value->(List Value->Prop)->Prop) (λ cs K=>WZ cs K)
  (λ p _ h cs K=>PV (Zf f p.2.2) λ vs=>WZ vs.toList λ vl=>
   bif (Nat.beq vl.length p.2.1&&Nat.ble (p.1+vl.length) cs.length)then WZ (SV p.1 vl cs) (λ b=>h b K)else False) w
def HF(f:Fm):∀(w:List (Nat×Nat×Operand))(cs:List Value)(K:List Value->Prop),Ys f w cs K=(match GW f cs.toArray w with|some c=>K c.toList|none=>False)
 |[],cs,K=>by
  show WZ cs K=_;rw[J4];rfl
 |(off,size,x)::r,cs,K=>by
  show(PV (Zf f x) λ vs=>WZ vs.toList λ vl=>bif (Nat.beq vl.length size&&Nat.ble (off+vl.length) cs.length)then WZ (SV off vl cs) (λ b=>Ys f r b K)else False)=_;rw[OD,J4,GW];simp only[Array.length_toList,size_toArray];by_cases h:(Zf f x).cells.size=size/\off+(Zf f x).cells.size<=cs.length
  .have e1:(Nat.beq (Zf f x).cells.size size&&Nat.ble (off+(Zf f x).cells.size) cs.length)=true:=by
    rw[Bool.and_eq_true];exact⟨Nat.beq_eq.symm▸h.1,Nat.ble_eq.symm▸h.2⟩
   rw[e1,cond_true,J4,HF f r];rw[if_neg S3];have z:=jz (Zf f x).cells.toList cs.toArray off (by simpa using h.2)
   have B:(SV off (Zf f x).cells.toList cs).toArray=ZT cs.toArray off (Zf f x).cells.toList 0:=by
    apply Array.ext';rw[z];rfl
   rw[B]
  .have e1:(Nat.beq (Zf f x).cells.size size&&Nat.ble (off+(Zf f x).cells.size) cs.length)=false:=by
    rw[Bool.and_eq_false_iff];by_cases h1:(Zf f x).cells.size=size
    .right;rw[Bool.eq_false_iff];intro h2;exact h ⟨h1,Nat.le_of_ble_eq_true h2⟩
    .left;rw[Bool.eq_false_iff];intro h2;exact h1 (Nat.eq_of_beq_eq_true h2)
   rw[e1,cond_false,if_pos];simp;omega
def OX(S:Sys P T):O->Fm->(Value->Qa T->Prop)->Qa T->Prop
 |.mv x,f,K,U=>WN (Zf f x) λ v=>K v U
 |.pick c a b,f,K,U=>match Zf f c with
  |.bool true=>WN (Zf f a) λ v=>K v U
  |.bool false=>WN (Zf f b) λ v=>K v U
  |_=>False
 |.add x y,f,K,U=>match Zf f x,Zf f y with|.int .i64 a,.int .i64 b=>Z7 (a+b)/\K (.int .i64 (a+b)) U|_,_=>False
 |.sub x y,f,K,U=>match Zf f x,Zf f y with|.int .i64 a,.int .i64 b=>Z7 (a-b)/\K (.int .i64 (a-b)) U|_,_=>False
 |.mul x y,f,K,U=>match Zf f x,Zf f y with|.int .i64 a,.int .i64 b=>Z7 (a*b)/\K (.int .i64 (a*b)) U|_,_=>False
 |.cmp op x y,f,K,U=>match Zf f x,Zf f y with
  |.int k a,.int k' b=>k=k'/\(match op with
   |.eql=>K (.bool (a==b)) U|.neq=>K (.bool (a != b)) U|.lss=>K (.bool (decide (a<b))) U
   |.leq=>K (.bool (decide (a<=b))) U|.gtr=>K (.bool (decide (a > b))) U|.geq=>K (.bool (decide (a ≥ b))) U|_=>False)
  |_,_=>False
 |.beq op x y,f,K,U=>match Zf f x,Zf f y with
  |.bool a,.bool b=>(match op with|.eql=>K (.bool (a==b)) U|.neq=>K (.bool (!(a==b))) U|_=>False)
  |_,_=>False
 |.ar op x y,f,K,U=>match Zf f x,Zf f y with
  |.int k a,.int k' b=>(match op with
   |.add=>k=k'/\K (.int k (k.wrap (a+b))) U|.sub=>k=k'/\K (.int k (k.wrap (a-b))) U|.mul=>k=k'/\K (.int k (k.wrap (a*b))) U
   |.quo=>k=k'/\b≠0/\K (.int k (k.wrap (a.tdiv b))) U|.rem=>k=k'/\b≠0/\K (.int k (a.tmod b)) U
   |.and=>k=k'/\K (.int k (k.wrap (BitVec.ofInt k.bits a&&&BitVec.ofInt k.bits b).toNat)) U
   |.or=>k=k'/\K (.int k (k.wrap (BitVec.ofInt k.bits a||| BitVec.ofInt k.bits b).toNat)) U
   |.xor=>k=k'/\K (.int k (k.wrap (BitVec.ofInt k.bits a ^^^ BitVec.ofInt k.bits b).toNat)) U
   |.andNot=>k=k'/\K (.int k (k.wrap (BitVec.ofInt k.bits a&&&~~~ BitVec.ofInt k.bits b).toNat)) U
   |.shl=>0<=b/\K (.int k (k.wrap (a*2^(min b.toNat k.bits)))) U
   |.shr=>0<=b/\K (.int k (a.fdiv (2^(min b.toNat k.bits)))) U
   |_=>False)
  |_,_=>False
 |.teq op x y,f,K,U=>match Zf f x,Zf f y with
  |.string a,.string b=>(match op with|.eql=>K (.bool (a.toList==b.toList)) U|.neq=>K (.bool (!(a.toList==b.toList))) U|_=>False)
  |_,_=>False
 |.not x,f,K,U=>match Zf f x with|.bool b=>K (.bool (!b)) U|_=>False
 |.len x,f,K,U=>match Zf f x with|.slice _ n _=>K (.int .i64 n) U|_=>False
 |.lenT x,f,K,U=>match Zf f x with|.string s=>K (.int .i64 s.size) U|_=>False
 |.lenM x,f,K,U=>match Zf f x with
  |.map none=>K (.int .i64 0) U
  |.map (some r)=>∃es B,U.has r (.map es B)/\K (.int .i64 es.size) U
  |_=>False
 |.conv k x,f,K,U=>match Zf f x with|.int _ n=>K (.int k (k.wrap n)) U|_=>False
 |.off n x,f,K,U=>match Zf f x with|.pointer (some a)=>K (.pointer (some (a.add n))) U|_=>False
 |.idx sz x i,f,K,U=>match Zf f x,Zf f i with
  |.slice a len _,.int _ n=>∃(F:Addr)(j:Nat),(a=some F/\n=j/\j<len)/\K (.pointer (some (F.add (j*sz)))) U
  |_,_=>False
 |.aidx len sz x i,f,K,U=>match Zf f x,Zf f i with
  |.pointer (some a),.int _ n=>∃j:Nat,(n=j/\j<len)/\K (.pointer (some (a.add (j*sz)))) U
  |_,_=>False
 |.sidx x i,f,K,U=>match Zf f x,Zf f i with
  |.string s,.int _ n=>∃(j:Nat)(b:UInt8),(n=j/\s[j]?=some b)/\K (.int .u8 b.toNat) U
  |_,_=>False
 |.ld x,f,K,U=>match Zf f x with|.pointer (some a)=>∃v,U.sees a v/\WN v λ v=>K v U|_=>False
 |.ldn n x,f,K,U=>match Zf f x with|.pointer (some a)=>∃vs:List Value,(vs.length=n/\Je U a vs)/\K (.agg vs.toArray) U|_=>False
 |.st n x v,f,K,U=>match Zf f x with|.pointer (some a)=>(Zf f v).cells.size=n/\QX a (Zf f v).cells.toList 0 (λ U'=>∃w,Qv U' w/\K undef w) U|_=>False
 |.box _ x,f,K,U=>PV (Zf f x) λ cs=>∀b w,U.le w->Zi w b cs->K (.pointer (some ⟨b,0,none⟩)) w
 |.boxM t x,f,K,U=>∀b,U.free b->K (.pointer (some ⟨b,0,none⟩)) (U.put b (.cells (Zf f x).cells t))
 |.alloc t zero,_,K,U=>∀b,U.free b->∃w,Qv (U.put b (.cells zero t)) w/\K (.pointer (some ⟨b,0,none⟩)) w
 |.ext x i,f,K,U=>match Zf f x with|.tuple vs=>(match vs[i]? with|some v=>WN v λ v=>K v U|none=>False)|_=>False
 |.part off n x,f,K,U=>match Zf f x with|.agg cs=>K (.agg ((cs.toList.drop off).take n).toArray) U|_=>False
 |.part1 off x,f,K,U=>match Zf f x with|.agg cs=>(match cs[off]? with|some v=>WN v λ v=>K v U|none=>False)|_=>False
 |.mkf fn first z,f,K,U=>WZ (first.toList.map (Zf f)) λ a=>WZ (z.toList.map (Zf f)) λ c=>K (.func fn a.toArray c.toArray) U
 |.call c args,f,K,U=>match Zf f c with
  |.func (.func g) first z=>(P.funcs[g]?.any λ fd=>fd.body.isSome&&fd.name != "runtime.NumGoroutine")=true/\WZ (args.toList.map (Zf f)) λ vs=>Qb S g (first.toList++vs++z.toList).toArray (λ v U'=>WI U'->K v U') U
  |.func (.yield l) first _=>WZ (args.toList.map (Zf f)) λ vs=>Zm S l (first.toList++vs) K U
  |_=>False
 |.nilc x,f,K,U=>match Zf f x with|.pointer (some a)=>K (.pointer (some a)) U|_=>False
 |.sub3 sz x lo E,f,K,U=>match Zf f x with
  |.slice a len cap=>(match Ot len (lo.map (Zf f)) (E.map (Zf f))with
   |some (G,E)=>∃l h:Nat,(G=l/\E=h/\l<=h/\h<=cap)/\K (.slice (if cap=l then a else a.map (·.add (l*sz))) (h-l) (cap-l)) U
   |none=>False)
  |_=>False
 |.build zero parts,f,K,U=>Ys f parts zero.toList λ l=>K (.agg l.toArray) U
 |.bsl t len zero parts,f,K,U=>Ys f parts zero.toList λ l=>∀b,U.free b->∃w,Qv (U.put b (.cells l.toArray t)) w/\K (.slice (some ⟨b,0,none⟩) len len) w
 |.raw o,f,K,U=>∀a:Act,(∀x,a.eval x=Zf f x)->Qq P (execOp a.eval o) (ZG S λ v U'=>∃w,Qv U' w/\K v w) U
def zq{α:Type}(s:Sem α):s.bind Sem.pure=s:=by
 induction s with
 |pure a=>rfl
 |load m a k b=>simp only[Sem.bind];congr 1;funext v;exact b v
 |store m a v k b=>simp only[Sem.bind,b]
 |new o k b=>simp only[Sem.bind];congr 1;funext v;exact b v
 |shape r k b=>simp only[Sem.bind];congr 1;funext v;exact b v
 |freeze a n k b=>simp only[Sem.bind,b]
 |frozen a k b=>simp only[Sem.bind];congr 1;funext v;exact b v
 |getObj r k b=>simp only[Sem.bind];congr 1;funext v;exact b v
 |setObj r o k b=>simp only[Sem.bind,b]
 |choose q k b=>simp only[Sem.bind];congr 1;funext v;exact b v
 |sys c k b=>simp only[Sem.bind];congr 1;funext v;exact b v
 |program k b=>simp only[Sem.bind];congr 1;funext v;exact b v
 |mark m k b=>simp only[Sem.bind,b]
 |halt h=>rfl
def qU{α β γ:Type}(s:Sem α)(g:α->Sem β)(h:β->Sem γ):(s.bind g).bind h=s.bind λ a=>(g a).bind h:=by
 induction s with
 |pure a=>rfl
 |load m a k b=>simp only[Sem.bind];congr 1;funext v;exact b v
 |store m a v k b=>simp only[Sem.bind,b]
 |new o k b=>simp only[Sem.bind];congr 1;funext v;exact b v
 |shape r k b=>simp only[Sem.bind];congr 1;funext v;exact b v
 |freeze a n k b=>simp only[Sem.bind,b]
 |frozen a k b=>simp only[Sem.bind];congr 1;funext v;exact b v
 |getObj r k b=>simp only[Sem.bind];congr 1;funext v;exact b v
 |setObj r o k b=>simp only[Sem.bind,b]
 |choose q k b=>simp only[Sem.bind];congr 1;funext v;exact b v
 |sys c k b=>simp only[Sem.bind];congr 1;funext v;exact b v
 |program k b=>simp only[Sem.bind];congr 1;funext v;exact b v
 |mark m k b=>simp only[Sem.bind,b]
 |halt h=>rfl
theorem Fq:LawfulMonad Sem:=LawfulMonad.mk' Sem (id_map:=λ s=>zq s) (pure_bind:=λ _ _=>rfl) (bind_assoc:=λ s g h=>qU s g h)
def X0{α β:Type}(g:α->Sem β):List α->Array β->Sem (Array β)
 |[],acc=>pure acc
 |x::r,acc=>do let y <- g x;X0 g r (acc.push y)
def vJ{α β:Type}(g:α->Sem β):∀(l:List α)(acc:Array β),X0 g l acc=(do let r <- l.mapM g;pure (acc++r.toArray)):=by
 have:=Fq;intro l
 induction l with
 |nil=>intro acc;simp[X0]
 |cons x l b=>intro acc;simp[X0,b,mapM_cons]
def SM{α β:Type}(g:α->Sem β)(l:List α):Array.mapM g l.toArray=X0 g l #[]:=by
 have:=Fq;rw[vJ];simp
def Qd{α β:Type}(s:Sem α)(g:α->Sem β)(Q:β->Qa T->Prop)(U:Qa T):Qq P (s >>= g) Q U=Qq P s (λ a U=>Qq P (g a) Q U) U:=propext (Oi s g)
def Qi{α:Type}(a:α)(Q:α->Qa T->Prop)(U:Qa T):Qq P (pure a:Sem α) Q U=Q a U:=rfl
def Zb{t:TypeId}{d:TypeDesc}(h:P.underlying t=some d)(Q:TypeDesc->Qa T->Prop)(U:Qa T):Qq P (underlying t) Q U=Q d U:=by
 simp only[underlying,program,Qd,Qq,h,Qi]
def We{t:TypeId}{i:TypeInfo}(h:P.info? t=some i)(Q:TypeInfo->Qa T->Prop)(U:Qa T):Qq P (typeInfo t) Q U=Q i U:=by
 simp only[typeInfo,program,Qd,Qq,h,Qi]
def Jd{t:TypeId}{i:TypeInfo}(h:P.info? t=some i)(Q:Nat->Qa T->Prop)(U:Qa T):Qq P (sizeOf t) Q U=Q i.size U:=by
 simp only[sizeOf,Qd,We h,Qi]
def TypeDesc.agg:TypeDesc->Bool
 |.struct _|.array _ _=>true
 |_=>false
def Hq{t:TypeId}{d:TypeDesc}(h:P.underlying t=some d)(Q:Bool->Qa T->Prop)(U:Qa T):Qq P (isAgg t) Q U=Q (TypeDesc.agg d) U:=by
 simp only[isAgg,Qd,Zb h];cases d <;> rfl
def X7{t:TypeId}{i:TypeInfo}{v:Value}(h:P.info? t=some i)(b:i.zero=some v)(Q:Value->Qa T->Prop)(U:Qa T):Qq P (zeroValue t) Q U=Q v U:=by
 simp only[zeroValue,Qd,We h,b,Qi]
def SQ{a:Addr}{v:Value}{Q:Value->Qa T->Prop}{U:Qa T}(h:U.sees a v)(b:Q v U):Qq P (load a) Q U:=⟨rfl,v,h,b⟩
def YI{a:Addr}{Q:Array Value->Qa T->Prop}{U:Qa T}:∀(vs:List Value)(i:Nat)(acc:Array Value),(∀j v,vs[j]?=some v->U.sees (a.add (i+j)) v)->Q (acc++vs.toArray) U ->
  Qq P (loadCellsFrom a i vs.length acc) Q U
 |[],i,acc,_,b=>by simpa[loadCellsFrom,Qi]using b
 |v::vs,i,acc,h,b=>by
  simp only[length_cons,loadCellsFrom,Qd];refine SQ (h 0 v rfl) (YI vs (i+1) (acc.push v) (λ j u f=>?_) ?_)
  .have:=h (j+1) u f
   rwa [show i+(j+1)=i+1+j by omega]at this
  .have e:acc.push v++vs.toArray=acc++(v::vs).toArray:=by apply Array.ext';simp
   rw[e];exact b
def Ww{a:Addr}{Q:Unit->Qa T->Prop}:∀(vs:List Value)(i:Nat)(U:Qa T),QX a vs i (λ U'=>Q () U') U->Qq P (storeCells a vs i) Q U
 |[],_,_,h=>h
 |v::vs,i,U,h=>by
  obtain⟨f,M',b,h⟩:=h;simp only[storeCells,Qd,store];exact⟨rfl,f,M',b,Ww vs (i+1) _ h⟩
def Jh{t:TypeId}{c:Array Value}{Q:Addr->Qa T->Prop}{U:Qa T}(h:∀b,U.free b->Q ⟨b,0,none⟩ (U.put b (.cells c t))):Qq P (newRow t c) Q U:=by
 simp only[newRow,newObj,Qd,Qq,Qi];exact h
def J1(o:Oper):Oper:={ dst:=none,op:=o.op,type:=o.type,pos := "", after:=#[],guard:=none }
def oa:BinOp->Bool
 |.eql|.neq|.lss|.leq|.gtr|.geq=>true
 |_=>false
def D8(P:Program)(o:Oper)(op:BinOp)(t:TypeId)(x y:Operand):O:=
 match P.underlying t with
 |some (.int k)=>
  if oa op then .cmp op x y
  else match k,op with
   |.i64,.add=>.add x y
   |.i64,.sub=>.sub x y
   |.i64,.mul=>.mul x y
   |_,_=>.ar op x y
 |some .bool=>.beq op x y
 |some .string=>(match op with|.eql=>.teq op x y|.neq=>.teq op x y|_=>.raw (J1 o))
 |_=>.raw (J1 o)
def Js(P:Program)(t:TypeId):Option Nat:=(P.info? t).map (·.size)
def Xa(P:Program)(t:TypeId):Option Value:=(P.info? t).bind (·.zero)
def Q6(P:Program)(mu:List Nat)(o:Oper):O:=
 match o.op with
 |.move x|.assign x=>.mv x
 |.pick c a b=>.pick c a b
 |.binOp op t x y _=>D8 P o op t x y
 |.unOp .not _ x=>.not x
 |.call { callee:=.value c,args,.. }=>.call c args
 |.call { callee:=.builtin .len,args,argTypes }=>
  (match args,argTypes with
  |⟨[x]⟩,⟨[t]⟩=>(match P.underlying t with|some (.slice _)=>.len x|some .string=>.lenT x|some (.map _ _)=>.lenM x|_=>.raw (J1 o))
  |_,_=>.raw (J1 o))
 |.convert src dst x=>(match P.underlying src,P.underlying dst with|some (.int _),some (.int k)=>.conv k x|_,_=>.raw (J1 o))
 |.fieldAddr s x i=>(match P.underlying s with
  |some (.struct f)=>(match f[i]? with
   |some fd=>(match Js P fd.type with|some (_+1)=>.off fd.offset x|_=>.raw (J1 o))
   |none=>.raw (J1 o))
  |_=>.raw (J1 o))
 |.indexAddr t x i=>(match P.underlying t with
  |some (.slice e)=>(match Js P e with|some n=>.idx n x i|none=>.raw (J1 o))
  |some (.array len e)=>(match Js P e with|some n=>if len<=1 then .raw (J1 o)else .aidx len n x i|none=>.raw (J1 o))
  |_=>.raw (J1 o))
 |.index t x i=>(match P.underlying t with|some .string=>.sidx x i|_=>.raw (J1 o))
 |.load t x=>(match P.underlying t with
  |some d=>if TypeDesc.agg d then(match Js P t with|some n=>.ldn n x|none=>.raw (J1 o))else .ld x
  |none=>.raw (J1 o))
 |.store t x v=>(match Js P t with|some n=>.st n x v|none=>.raw (J1 o))
 |.box t x=>(match o.dst with|some d=>if mu.contains d then .boxM t x else .box t x|none=>.boxM t x)
 |.alloc t=>(match Xa P t with|some z=>.alloc t z.cells|none=>.raw (J1 o))
 |.extract x i=>.ext x i
 |.field t x i=>(match P.underlying t with
  |some (.struct f)=>(match f[i]? with
   |some fd=>(match P.underlying fd.type with
    |some d=>if TypeDesc.agg d then(match Js P fd.type with|some n=>.part fd.offset n x|none=>.raw (J1 o))else .part1 fd.offset x
    |none=>.raw (J1 o))
   |none=>.raw (J1 o))
  |_=>.raw (J1 o))
 |.makeFunc fn first h=>.mkf fn first h
 |.nilCheck x=>.nilc x
 |.build t parts=>(match P.underlying t,Xa P t with
  |some (.struct f),some z=>if f.toList.all (λ fd=>(Js P fd.type).isSome)then
    (match parts.toList.mapM (λ p=>(f[p.1]?).map λ fd=>(fd.offset,(Js P fd.type).getD 0,p.2))with
    |some B=>.build z.cells B
    |none=>.raw (J1 o))else .raw (J1 o)
  |_,_=>.raw (J1 o))
 |.buildSlice t len parts=>(match P.underlying t with
  |some (.slice e)=>(match Js P e,Xa P e with
   |some n,some z=>if len*n<=2^24 then .bsl e len (if len*n=0 then #[]else(Array.range (len*n)).map (z.cells[· % z.cells.size]!)) (parts.toList.map λ p=>(p.1*n,n,p.2))else .raw (J1 o)
   |_,_=>.raw (J1 o))
  |_=>.raw (J1 o))
 |.slice t x lo w none=>(match P.underlying t with|some (.slice e)=>(match Js P e with|some n=>.sub3 n x lo w|none=>.raw (J1 o))|_=>.raw (J1 o))
 |_=>.raw (J1 o)
def HZ{t:TypeId}{n:Nat}(h:Js P t=some n):∃i,P.info? t=some i/\i.size=n:=by
 simpa[Js]using h
def P2{t:TypeId}{z:Value}(h:Xa P t=some z):∃i,P.info? t=some i/\i.zero=some z:=by
 simpa[Xa,Option.bind_eq_some_iff]using h
section
variable{f:Fm}{K:Value->Qa T->Prop}{U:Qa T}
def Pi{op:BinOp}{t:TypeId}{x y:Operand}{k k':IntKind}{a b:Int}{Q:Unit->Qa T->Prop}(h:Q () U):Qq P (eqGuard op t x y (.int k a) (.int k' b)) Q U:=by
 cases op <;> exact h
def jy{op:BinOp}{t:TypeId}{x y:Operand}{a b:Bool}{Q:Unit->Qa T->Prop}(h:Q () U):Qq P (eqGuard op t x y (.bool a) (.bool b)) Q U:=by
 cases op <;> exact h
def xZ{op:BinOp}{t:TypeId}{x y:Operand}{a b:ByteArray}{Q:Unit->Qa T->Prop}(h:Q () U):Qq P (eqGuard op t x y (.string a) (.string b)) Q U:=by
 cases op <;> exact h
def yM{op:BinOp}{t:TypeId}{x y:Operand}(h:OX S (.cmp op x y) f K U):Qq P (do eqGuard op t x y (Zf f x) (Zf f y);binOp op t (Zf f x) (Zf f y)) K U:=by
 simp only[OX]at h;cases hx:Zf f x <;> simp only[hx]at h <;> try exact h.elim
 cases hy:Zf f y <;> simp only[hy]at h <;> try exact h.elim
 obtain⟨rfl,h⟩:=h;rw[Qd];refine Pi ?_;cases op <;> first|exact h.elim|simpa[binOp,Op.intCmp,Qi]using h
def yK{t:TypeId}{x y:Operand}(h:OX S (.add x y) f K U):Qq P (do eqGuard .add t x y (Zf f x) (Zf f y);binOp .add t (Zf f x) (Zf f y)) K U:=by
 simp only[OX]at h;split at h
 .rename_i a b e1 e2;rw[e1,e2,Qd];refine Pi ?_;simpa[binOp,Op.intArith,Qi,Gh h.1]using h.2
 .exact h.elim
def yP{t:TypeId}{x y:Operand}(h:OX S (.sub x y) f K U):Qq P (do eqGuard .sub t x y (Zf f x) (Zf f y);binOp .sub t (Zf f x) (Zf f y)) K U:=by
 simp only[OX]at h;split at h
 .rename_i a b e1 e2;rw[e1,e2,Qd];refine Pi ?_;simpa[binOp,Op.intArith,Qi,Gh h.1]using h.2
 .exact h.elim
def yO{t:TypeId}{x y:Operand}(h:OX S (.mul x y) f K U):Qq P (do eqGuard .mul t x y (Zf f x) (Zf f y);binOp .mul t (Zf f x) (Zf f y)) K U:=by
 simp only[OX]at h;split at h
 .rename_i a b e1 e2;rw[e1,e2,Qd];refine Pi ?_;simpa[binOp,Op.intArith,Qi,Gh h.1]using h.2
 .exact h.elim
def gq{t:TypeId}(ht:P.underlying t=some .bool)(a b:Bool)(Q:Bool->Qa T->Prop)(U:Qa T):Qq P (Op.equal t (.bool a) (.bool b)) Q U=Q (a==b) U:=by
 have e:Op.equal t (.bool a) (.bool b)=Op.equalIn (9999+1) t (.bool a) (.bool b):=rfl;rw[e,Op.equalIn,Qd,Zb ht];rfl
def yL{op:BinOp}{t:TypeId}{x y:Operand}(ht:P.underlying t=some .bool)(h:OX S (.beq op x y) f K U):Qq P (do eqGuard op t x y (Zf f x) (Zf f y);binOp op t (Zf f x) (Zf f y)) K U:=by
 simp only[OX]at h;split at h
 .rename_i a b e1 e2;rw[e1,e2,Qd];refine jy ?_;cases op <;> first|exact h.elim|(simp only[binOp,Qd,gq ht,Qi];exact h)
 .exact h.elim
def LK{op:BinOp}{t:TypeId}{x y:Operand}(h:OX S (.teq op x y) f K U):Qq P (do eqGuard op t x y (Zf f x) (Zf f y);binOp op t (Zf f x) (Zf f y)) K U:=by
 simp only[OX]at h;split at h
 .rename_i a b e1 e2;rw[e1,e2,Qd];refine xZ ?_;cases op <;> first|exact h.elim|simpa[binOp,Op.stringOp,Qi]using h
 .exact h.elim
def og{op:BinOp}{t:TypeId}{x y:Operand}(h:OX S (.ar op x y) f K U):Qq P (do eqGuard op t x y (Zf f x) (Zf f y);binOp op t (Zf f x) (Zf f y)) K U:=by
 simp only[OX]at h;split at h
 .rename_i k a k' b e1 e2;rw[e1,e2,Qd];refine Pi ?_
  cases op <;> simp only[]at h <;> first
   |exact h.elim
   |(obtain⟨rfl,hb,h⟩:=h;simpa[binOp,Op.intDiv,hb,Qi]using h)
   |(obtain⟨rfl,h⟩:=h;simpa[binOp,Op.intArith,Op.intBits,Qi]using h)
   |(obtain⟨hb,h⟩:=h;simpa[binOp,Op.shift,Int.not_lt.2 hb,Qi]using h)
 .exact h.elim
def QY{s:Sem Value}(h:Qq P s K U):Qq P (s >>= λ v=>pure (Next.value v)) (ZG S K) U:=by rw[Qd];exact h
def kW{c:Operand}{args:Array Operand}{z:Array TypeId}{I:TypeId}{ρ:Operand->Value}(B:∀x,ρ x=Zf f x)(h:OX S (.call c args) f K U) :
  Qq P (do let d <- resolve ρ { callee:=.value c,args:=args,argTypes:=z } I;invoke d.target d.args:Sem Next) (ZG S K) U:=by
 simp only[OX]at h;have hm:args.map ρ=args.map (Zf f):=by rw[show ρ=Zf f from funext B]
 split at h
 .rename_i g first capt e
  obtain⟨hb,h⟩:=h;simp only[Qd,resolve,B,hm,e,Deferred.ofValue,Qi,invoke,callFunc,program,Qq];cases E:P.funcs[g]? with
  |none=>simp[E]at hb
  |some fd=>
   simp only[E,Option.any_some,Bool.and_eq_true,bne_iff_ne,ne_eq]at hb;obtain⟨h1,h2⟩:=hb;have w:fd.body.isNone=false:=by cases F:fd.body <;> simp_all
   have b:(fd.name== "runtime.NumGoroutine")=false:=by simpa using h2
   simp only[b,w,Bool.false_eq_true,if_false,Qi,ZG];rw[J4]at h;have e:(first++Array.map (Zf f) args)++capt=(first.toList++args.toList.map (Zf f)++capt.toList).toArray:=by apply Array.ext';simp
   rw[e];exact h.sep λ v U' H G=>⟨U',.refl _,G H⟩
 .rename_i l first capt e
  rw[J4]at h;simp only[Qd,resolve,B,hm,e,Deferred.ofValue,Qi,invoke];have e:first++Array.map (Zf f) args=(first.toList++args.toList.map (Zf f)).toArray:=by apply Array.ext';simp
  rw[e];exact h
 .exact h.elim
def HJ{k:IntKind}{i:Int}{y n:Nat}{code:BoundsCode}(b:i=n)(h:n<=y){Q:Nat->Qa T->Prop}(f:Q n U):Qq P (Instr.sliceBound (.int k i) y code) Q U:=by
 subst b;unfold Instr.sliceBound;rw[Qd];show Qq P (if 0<=(n:Int)/\(n:Int)<=y then pure (n:Int).toNat else boundsPanic k n y code) Q U;rw[if_pos O1];exact f
def oA{len cap:Nat}{Q:Nat×Nat×Nat->Qa T->Prop}(b:Q (0,len,cap) U):Qq P (Instr.sliceBounds true len cap none none none) Q U:=by
 unfold Instr.sliceBounds;simp only[Qd,Qi];exact b
def oB{len cap l:Nat}{k:IntKind}{i:Int}(b:i=l)(h:l<=len){Q:Nat×Nat×Nat->Qa T->Prop}(f:Q (l,len,cap) U):Qq P (Instr.sliceBounds true len cap (some (.int k i)) none none) Q U:=by
 unfold Instr.sliceBounds;simp only[Qd,Qi];exact HJ b h f
def oC{len cap h:Nat}{k:IntKind}{i:Int}(f:i=h)(b:h<=cap){Q:Nat×Nat×Nat->Qa T->Prop}(w:Q (0,h,cap) U):Qq P (Instr.sliceBounds true len cap none (some (.int k i)) none) Q U:=by
 unfold Instr.sliceBounds;simp only[Qd,Qi];exact HJ f b w
def oD{len cap l h:Nat}{k k':IntKind}{i f:Int}(z:i=l)(b:f=h)(h1:l<=h)(w:h<=cap){Q:Nat×Nat×Nat->Qa T->Prop}(B:Q (l,h,cap) U):Qq P (Instr.sliceBounds true len cap (some (.int k i)) (some (.int k' f)) none) Q U:=by
 unfold Instr.sliceBounds;simp only[Qd,Qi];exact HJ b w (HJ z h1 B)
def zZ{len cap l w:Nat}{lo G:Option Value}(b:Ot len lo G=some ((l:Int),(w:Int)))(h2:l<=w)(F:w<=cap){Q:Nat×Nat×Nat->Qa T->Prop}(z:Q (l,w,cap) U) :
  Qq P (Instr.sliceBounds true len cap lo G none) Q U:=by
 unfold Ot at b;split at b
 .simp only[Option.some.injEq,Prod.mk.injEq]at b;obtain⟨B,E⟩:=b;have f:l=0:=O1
  have h:w=len:=O1
  subst f;subst h;exact oA z
 .simp only[Option.some.injEq,Prod.mk.injEq]at b;obtain⟨B,E⟩:=b;have h:w=len:=O1
  subst h;exact oB B h2 z
 .simp only[Option.some.injEq,Prod.mk.injEq]at b;obtain⟨B,E⟩:=b;have f:l=0:=O1
  subst f;exact oC E F z
 .simp only[Option.some.injEq,Prod.mk.injEq]at b;exact oD b.1 b.2 h2 F z
 .cases b
def kY{t e:TypeId}{n:Nat}{x:Operand}{lo z:Option Operand}(F:P.underlying t=some (.slice e))(E:Js P e=some n)(h:OX S (.sub3 n x lo z) f K U) :
  Qq P (Instr.sliceAt t (Zf f x) (lo.map (Zf f)) (z.map (Zf f)) none) K U:=by
 obtain⟨G,b,w⟩:∃i,P.info? e=some i/\i.size=n:=by simpa[Js]using E
 simp only[OX]at h;split at h
 .rename_i sa len cap e1;split at h
  .rename_i li hh hsb;obtain⟨l,H,⟨rfl,rfl,h2,B⟩,h⟩:=h;simp only[e1,Instr.sliceAt,Instr.slice,Qd,Zb F];refine zZ hsb h2 B ?_;simp only[Jd b,w,Qi];exact h
  .exact h.elim
 .exact h.elim
def yN{t e:TypeId}{n:Nat}{x i:Operand}(E:P.underlying t=some (.slice e))(B:Js P e=some n)(h:OX S (.idx n x i) f K U):Qq P (Instr.indexAt t (Zf f x) (Zf f i)) K U:=by
 obtain⟨F,w,z⟩:∃i,P.info? e=some i/\i.size=n:=by simpa[Js]using B
 simp only[OX]at h;split at h
 .rename_i aa len cap k m e1 e2;obtain⟨G,j,⟨rfl,rfl,hb⟩,h⟩:=h;have b:(0:Int)<=(j:Int)/\(j:Int)<(len:Int):=O1
  simp only[e1,e2,Instr.indexAt,asIntOf,Qd,Qi,Zb E];rw[if_pos b];simp only[Qd,Jd w,z,Qi,Int.toNat_natCast];exact h
 .exact h.elim
def kV{t e:TypeId}{len n:Nat}{x i:Operand}(E:P.underlying t=some (.array len e))(B:Js P e=some n)(h:OX S (.aidx len n x i) f K U):Qq P (Instr.indexAt t (Zf f x) (Zf f i)) K U:=by
 obtain⟨F,w,z⟩:∃i,P.info? e=some i/\i.size=n:=by simpa[Js]using B
 simp only[OX]at h;split at h
 .rename_i ad k m e1 e2;obtain⟨j,⟨rfl,hb⟩,h⟩:=h;have b:(0:Int)<=(j:Int)/\(j:Int)<(len:Int):=O1
  simp only[e1,e2,Instr.indexAt,asIntOf,Qd,Qi,Zb E,Instr.sureAddr];rw[if_pos b];simp only[Qd,Jd w,z,Qi,Int.toNat_natCast];exact h
 .exact h.elim
def kX{t:TypeId}{x i:Operand}(z:P.underlying t=some .string)(h:OX S (.sidx x i) f K U):Qq P (Instr.index t (Zf f x) (Zf f i)) K U:=by
 simp only[OX]at h;split at h
 .rename_i s k n e1 e2;obtain⟨j,b,⟨rfl,w⟩,h⟩:=h;simp only[e1,e2,Instr.index,asIntOf,Qd,Qi,Zb z];rw[if_pos O1,Int.toNat_natCast,w];exact h
 .exact h.elim
def IK{α β:Type}(g:α->Sem β)(v:α->β):∀(l:List α)(acc:Array β)(Q:Array β->Qa T->Prop)(U:Qa T),(∀a∈l,∀(Q:β->Qa T->Prop)U,Qq P (g a) Q U=Q (v a) U)->Q (acc++(l.map v).toArray) U->Qq P (X0 g l acc) Q U
 |[],acc,Q,U,_,h=>by simpa[X0,Qi]using h
 |x::l,acc,Q,U,b,h=>by
  simp only[X0,Qd,b x (mem_cons_self ..)];refine IK g v l _ Q U (λ a ha=>b a (mem_cons_of_mem _ ha)) ?_;have e:acc.push (v x)++(l.map v).toArray=acc++((x::l).map v).toArray:=by apply Array.ext';simp
  rw[e];exact h
def gr{f:Array Field}(b:f.toList.all (λ fd=>(Js P fd.type).isSome)=true){Q:Array (Nat×Nat)->Qa T->Prop}(h:Q (f.map λ fd=>(fd.offset,(Js P fd.type).getD 0)) U) :
  Qq P (f.mapM λ fd=>do pure (fd.offset,<- sizeOf fd.type)) Q U:=by
 obtain⟨l⟩:=f;rw[SM];refine IK _ (λ fd=>(fd.offset,(Js P fd.type).getD 0)) l #[] Q U (λ fd w Q U=>?_) (by simpa using h);have:=all_eq_true.1 b fd w;obtain⟨n,B⟩:=Option.isSome_iff_exists.1 this;obtain⟨F,E,z⟩:∃i,P.info? fd.type=some i/\i.size=n:=by simpa[Js]using B
 simp only[Qd,Jd E,Qi,B,z,Option.getD_some]
def Dq:∀(vs:List Value)(cells:Array Value)(off j:Nat),(vs.zipIdx j).foldl (λ cs(p:Value×Nat)=>cs.setIfInBounds (off+p.2) p.1) cells=ZT cells off vs j
 |[],_,_,_=>rfl
 |v::r,cells,off,j=>by simp only[zipIdx_cons,foldl_cons,ZT];exact Dq r _ off (j+1)
def Sy(place:Nat->Option (Nat×Nat))(f:Fm):∀(parts:List (Nat×Operand))(b:List (Nat×Nat×Operand))(cells:Array Value),
  parts.mapM (λ p=>(place p.1).map λ q=>(q.1,q.2,p.2))=some b->Instr.fill place cells (parts.map λ p=>(p.1,Zf f p.2))=GW f cells b
 |[],b,cells,h=>by simp at h;subst h;rfl
 |(i,x)::r,b,cells,h=>by
  simp only[mapM_cons,Option.pure_def,Option.bind_eq_bind,Option.bind_eq_some_iff,Option.map_eq_some_iff]at h;obtain⟨_,⟨⟨off,size⟩,B,rfl⟩,z,w,e⟩:=h;cases e;simp only[map_cons,Instr.fill,B,GW];split
  .rfl
  .rw[<- Sy place f r z _ w];congr 1;rw[<- Dq,<- Array.foldl_toList,Array.toList_zipIdx]
def Je.cells{a:Addr}{vs:List Value}(h:Je U a vs){Q:Array Value->Qa T->Prop}(f:Q vs.toArray U):Qq P (loadCells a vs.length) Q U:=
 YI vs 0 #[] (λ j v b=>by simpa using h j v b) (by simpa using f)
end
def zx(cs:Array Value)(off n:Nat):cs.extract off (off+n)=((cs.toList.drop off).take n).toArray:=by
 apply Array.ext';simp[Array.toList_extract,extract_eq_take_drop]
def W1{o:Oper}{mu:List Nat}{a:Act}{f:Fm}(hf:∀x,a.eval x=Zf f x){K:Value->Qa T->Prop}{U:Qa T}
  (I:∀v U U',Qv U U'->K v U'->K v U) (h:OX S (Q6 P mu o) f K U):QK S o a K U:=by
 obtain⟨dst,op,ty,pos,after,guard⟩:=o
 have raw:∀o:Oper,OX S (.raw (J1 o)) f K U->Qq P (execOp a.eval o) (ZG S K) U:=λ o h=>Qq.mono _ (h a hf) λ n U W=>by
  have X:∀v(U:Qa T),(∃H,Qv U H/\K v H)->K v U:=λ v U⟨H,w,X⟩=>I v U H w X;cases n <;> first|exact X _ _ W|exact Qb.mono W X|exact J_.mono W X|exact W
 unfold QK;cases op with
 |move x=>simp only[Q6,OX,Qy]at h;simp only[execOp,hf,Qi,ZG];exact h
 |assign x=>simp only[Q6,OX,Qy]at h;simp only[execOp,hf,Qi,ZG];exact h
 |pick c x y=>
  simp only[Q6,OX]at h;simp only[execOp,hf];split at h
  .rename_i e;rw[Qy]at h;simp only[e,Qd,asBool,Qi,ZG,if_true];exact h
  .rename_i e;rw[Qy]at h;simp only[e,Qd,asBool,Qi,ZG,Bool.false_eq_true,if_false];exact h
  .exact h.elim
 |binOp ai t x y yt=>
  simp only[Q6,D8]at h;simp only[execOp,hf];split at h
  .split at h
   .exact QY (yM h)
   .split at h
    .exact QY (yK h)
    .exact QY (yP h)
    .exact QY (yO h)
    .exact QY (og h)
  .rename_i e;exact QY (yL e h)
  .split at h
   .exact QY (LK h)
   .exact QY (LK h)
   .have:=raw _ h;simpa only[execOp,hf]using this
  .have:=raw _ h;simpa only[execOp,hf]using this
 |unOp ae t x=>
  cases ae with
  |not=>
   simp only[Q6,OX]at h;simp only[execOp,hf];split at h
   .rename_i e;simp only[e];exact QY h
   .exact h.elim
  |_=>exact raw _ h
 |call c=>
  obtain⟨callee,args,ah⟩:=c;cases callee with
  |value g=>exact kW hf h
  |invoke r aj=>exact raw _ h
  |builtin b=>
   cases b with
   |len=>
    simp only[Q6]at h;split at h
    .rename_i x t;split at h
     .rename_i e hu;simp only[OX]at h;split at h
      .rename_i N;simp only[execOp,Qd,resolve,Qi,invoke,builtin,Builtin.len_];simp only[map_toArray,map_cons,map_nil,hf,N,getElem?_toArray,getElem?_cons_zero,Qd,Zb hu,Qi,ZG,goInt];exact h
      .exact h.elim
     .rename_i hu;simp only[OX]at h;split at h
      .rename_i N;simp only[execOp,Qd,resolve,Qi,invoke,builtin,Builtin.len_];simp only[map_toArray,map_cons,map_nil,hf,N,getElem?_toArray,getElem?_cons_zero,Qd,Zb hu,Qi,ZG,goInt];exact h
      .exact h.elim
     .rename_i kk ee hu;simp only[OX]at h;split at h
      .rename_i N;simp only[execOp,Qd,resolve,Qi,invoke,builtin,Builtin.len_];simp only[map_toArray,map_cons,map_nil,hf,N,getElem?_toArray,getElem?_cons_zero,Qd,Zb hu,Qi,ZG,goInt];exact h
      .rename_i r N;obtain⟨es,Y,hh,h⟩:=h;simp only[execOp,Qd,resolve,Qi,invoke,builtin,Builtin.len_];simp only[map_toArray,map_cons,map_nil,hf,N,getElem?_toArray,getElem?_cons_zero,Qd,Zb hu,getObj];exact⟨_,hh,rfl,rfl,h⟩
      .exact h.elim
     .exact raw _ h
    .exact raw _ h
   |_=>exact raw _ h
 |convert src dt x=>
  simp only[Q6]at h;split at h
  .rename_i k1 k hu hu';simp only[OX]at h;split at h
   .rename_i k2 n e;simp only[execOp,hf,e];refine QY ?_;simp only[convert,Qd,Zb hu,Zb hu',Conv.intToInt,Qi];exact h
   .exact h.elim
  .exact raw _ h
 |fieldAddr s x i=>
  simp only[Q6]at h;split at h
  .rename_i fs hu;split at h
   .rename_i fd hfd;split at h
    .rename_i n w;obtain⟨G,F,B⟩:=HZ w;simp only[OX]at h;split at h
     .rename_i ad e;simp only[execOp,hf,e];refine QY ?_;simp only[Instr.fieldAt,Qd,Zb hu,hfd,Instr.sureAddr,Qi,fieldPlace,Jd F,B];simpa[Qi]using h
     .exact h.elim
    .exact raw _ h
   .exact raw _ h
  .exact raw _ h
 |indexAddr t x i=>
  simp only[Q6]at h;split at h
  .rename_i e hu;split at h
   .rename_i n w;simp only[execOp,hf];exact QY (yN hu w h)
   .exact raw _ h
  .rename_i len e hu;split at h
   .rename_i n w;split at h
    .exact raw _ h
    .simp only[execOp,hf];exact QY (kV hu w h)
   .exact raw _ h
  .exact raw _ h
 |index t x i=>
  simp only[Q6]at h;split at h
  .rename_i hu;simp only[execOp,hf];exact QY (kX hu h)
  .exact raw _ h
 |load t x=>
  simp only[Q6]at h;split at h
  .rename_i d hu;split at h
   .rename_i hag;split at h
    .rename_i n w;obtain⟨G,F,B⟩:=HZ w;simp only[OX]at h;split at h
     .rename_i ad e;obtain⟨vs,⟨hl,hr⟩,h⟩:=h;simp only[execOp,hf,e];refine QY ?_;simp only[Instr.loadAt,Instr.sureAddr,Qd,Qi,loadVar,Hq hu,hag,if_true,Jd F,B,<- hl];exact hr.cells h
     .exact h.elim
    .exact raw _ h
   .rename_i hag;simp only[OX]at h;split at h
    .rename_i ad e;obtain⟨v,w,h⟩:=h;rw[Qy]at h;simp only[execOp,hf,e];refine QY ?_;simp only[Instr.loadAt,Instr.sureAddr,Qd,Qi,loadVar,Hq hu,hag,Bool.false_eq_true,if_false];exact SQ w h
    .exact h.elim
  .exact raw _ h
 |store t x v=>
  simp only[Q6]at h;split at h
  .rename_i n w;obtain⟨G,F,B⟩:=HZ w;simp only[OX]at h;split at h
   .rename_i ad e;obtain⟨W,h⟩:=h;simp only[execOp,hf,e];rw[Qd];simp only[Instr.storeAt,Instr.sureAddr,Qd,Qi,storeVar,Jd F,B,W,ne_eq,not_true_eq_false,if_false];exact Ww _ 0 U (QX.mono (λ U'⟨H,h1,h2⟩=>I _ _ _ h1 h2) _ _ _ h)
   .exact h.elim
  .exact raw _ h
 |box t x=>
  have key:(∀b,U.free b->K (.pointer (some ⟨b,0,none⟩)) (U.put b (.cells (Zf f x).cells t)))->Qq P (execOp a.eval ⟨dst,.box t x,ty,pos,after,guard⟩) (ZG S K) U:=by
   intro h;simp only[execOp,hf];refine QY ?_;simp only[Instr.box,newVar,Qd];refine Jh λ b hb=>?_;simp only[Qi];exact h b hb
  simp only[Q6]at h;split at h
  .split at h
   .exact key h
   .exact key λ b hb=>I _ _ _ (Wa (U:=U.put b (.cells (Zf f x).cells t)) (b:=b) (o:=.cells (Zf f x).cells t) (M':=U.M) (Perm.refl _)) ((by simpa only[OX,OD]using h:∀b H,U.le H->Zi H b (Zf f x).cells->K (.pointer (some ⟨b,0,none⟩)) H) b _ (Gt hb) Zi.new)
  .exact key h
 |alloc t=>
  simp only[Q6]at h;split at h
  .rename_i z hz;obtain⟨G,F,L⟩:=P2 hz;simp only[execOp];refine QY ?_;simp only[Instr.alloc,newVar,Qd,X7 F L];refine Jh λ b hb=>?_;simp only[Qi];obtain⟨H,w,h⟩:=h b hb;exact I _ _ _ w h
  .exact raw _ h
 |extract x i=>
  simp only[Q6,OX]at h;simp only[execOp,hf];refine QY ?_;split at h
  .rename_i vs e;split at h
   .rename_i v hv;rw[Qy]at h;simp only[e,Instr.extract,hv,Qi];exact h
   .exact h.elim
  .exact h.elim
 |field t x i=>
  simp only[Q6]at h;split at h
  .rename_i fs hu;split at h
   .rename_i fd hfd;split at h
    .rename_i d hd;split at h
     .rename_i hag;split at h
      .rename_i n w;obtain⟨G,F,B⟩:=HZ w;simp only[OX]at h;split at h
       .rename_i cs e;simp only[execOp,hf,e];refine QY ?_;simp only[Instr.field,Qd,Zb hu,hfd,asAgg,Qi,part,Hq hd,hag,if_true,Jd F,B];rw[zx];exact h
       .exact h.elim
      .exact raw _ h
     .rename_i hag;simp only[OX]at h;split at h
      .rename_i cs e;split at h
       .rename_i v hv;rw[Qy]at h;simp only[execOp,hf,e];refine QY ?_;simp only[Instr.field,Qd,Zb hu,hfd,asAgg,Qi,part,Hq hd,hag,Bool.false_eq_true,if_false,hv];exact h
       .exact h.elim
      .exact h.elim
    .exact raw _ h
   .exact raw _ h
  .exact raw _ h
 |makeFunc fn first af=>
  simp only[Q6,OX,J4]at h;have e:a.eval=Zf f:=funext hf;simp only[execOp,e];have e1:∀l:Array Operand,l.map (Zf f)=(l.toList.map (Zf f)).toArray:=λ l=>by apply Array.ext';simp
  rw[e1,e1];exact QY h
 |nilCheck x=>
  simp only[Q6,OX]at h;simp only[execOp,hf];split at h
  .rename_i ad e;simp only[e];exact QY (s:=pure (.pointer (some ad))) h
  .exact h.elim
 |build t parts=>
  simp only[Q6]at h;split at h
  .rename_i fs z hu hz;split at h
   .rename_i hall;split at h
    .rename_i ps hps;obtain⟨G,F,L⟩:=P2 hz;simp only[OX,HF,Array.toArray_toList]at h;split at h
     .rename_i cells hc;simp only[execOp,hf];refine QY ?_;simp only[Instr.build,Qd,X7 F L,Zb hu];refine gr hall ?_
      have Z:Instr.fill ((fs.map λ fd=>(fd.offset,(Js P fd.type).getD 0))[·]?) z.cells ((parts.map λ p=>(p.1,Zf f p.2)).toList)=some cells:=by
       rw[<- hc,Array.toList_map];refine Sy _ f parts.toList ps z.cells ?_;rw[<- hps];congr 1;funext p;simp only[Array.getElem?_map];cases fs[p.1]? <;> rfl
      simp only[Z,Qi];exact h
     .exact h.elim
    .exact raw _ h
   .exact raw _ h
  .exact raw _ h
 |buildSlice t len parts=>
  simp only[Q6]at h;split at h
  .rename_i e hu;split at h
   .rename_i n z w hz;split at h
    .rename_i hle;obtain⟨G,F,L⟩:=P2 hz;obtain⟨ag,ab,B⟩:=HZ w;simp only[OX,HF,Array.toArray_toList]at h;split at h
     .rename_i cells hc
      have aa:Instr.fill (λ i=>some (i*n,n)) (if len*n=0 then #[]else(Array.range (len*n)).map (z.cells[· % z.cells.size]!)) ((parts.map λ p=>(p.1,Zf f p.2)).toList)=some cells:=by
       rw[<- hc,Array.toList_map];refine Sy _ f parts.toList _ _ ?_;generalize parts.toList=l
       induction l with
       |nil=>rfl
       |cons p l ih=>rw[mapM_cons,ih];rfl
      simp only[execOp,hf];refine QY ?_;simp only[Instr.buildSlice,Qd,Zb hu,Jd ab,B];rw[if_neg O1]
      have last:∀(Q:String)(E:Array Value),E=(if len*n=0 then #[]else(Array.range (len*n)).map (z.cells[· % z.cells.size]!)) ->
        Qq P (do
         let some cells:=Instr.fill (λ i=>some (i*n,n)) ((Array.range (len*n)).map (λ k=>(if len*n=0 then #[]else z.cells)[k % (if len*n=0 then #[]else z.cells).size]!)) ((parts.map λ p=>(p.1,Zf f p.2)).toList)|stuck Q
         pure (.slice (some (<- newRow e cells)) len len):Sem Value) K U:=by
       intro Q E _
       have N:(Array.range (len*n)).map (λ k=>(if len*n=0 then #[]else z.cells)[k % (if len*n=0 then #[]else z.cells).size]!)=(if len*n=0 then #[]else(Array.range (len*n)).map (z.cells[· % z.cells.size]!)):=by
        split
        .rename_i V;simp[V]
        .rfl
       rw[N,aa];simp only[Qd];refine Jh λ b hb=>?_;simp only[Qi];obtain⟨H,ac,h⟩:=h b hb;exact I _ _ _ ac h
      have:=λ Q=>last Q _ rfl;by_cases V:len*n=0
      .rw[if_pos V];simp only[V,if_true]at this;simp only[V,Qi];exact this _
      .rw[if_neg V];simp only[V,if_false]at this;simp only[Qd,X7 F L,Qi];exact this _
     .exact h.elim
    .exact raw _ h
   .exact raw _ h
  .exact raw _ h
 |slice t x lo F mx=>
  cases mx with
  |some _=>exact raw _ h
  |none=>
   simp only[Q6]at h;split at h
   .rename_i e hu;split at h
    .rename_i n w;simp only[execOp,show a.eval=Zf f from funext hf];exact QY (kY hu w h)
    .exact raw _ h
   .exact raw _ h
 |_=>exact raw _ h
end Go.TM

