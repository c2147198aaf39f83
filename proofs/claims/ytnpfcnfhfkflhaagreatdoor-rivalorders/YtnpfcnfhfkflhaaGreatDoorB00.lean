/- Lemmas. No conditions. -/
import Derived.Conc.Own
import Derived.Orders
import Derived.KernelRfl
set_option linter.all false
theorem K1{α:Sort _}{a b:α}(h:a=b:=by kernel_rfl):a=b:=h
theorem O1{p:Prop}(h:p:=by omega):p:=h
theorem S1{p:Prop}(h:p:=by simp):p:=h
theorem T1{p:Prop}(h:p:=by trivial):p:=h
theorem D1{p:Prop}(h:p:=by decide):p:=h
theorem L1{p:Prop}(h:p:=by show _-_<_-_;omega):p:=h
theorem S2{p:Prop}(h:p:=by simp_all):p:=h
theorem S3{p:Prop}(h:p:=by simp;omega):p:=h
open List
namespace Go
abbrev Gr:=Goroutine
def Value.single:Value->Bool
 |.agg _|.tuple _=>false
 |_=>true
end Go
namespace Go.TM
inductive Qx where
 |obj (b:Nat) (o:Obj)
 |cell (b i:Nat) (v:Value) (T:TypeId) (n:Nat)
def Qx.blk:Qx->Nat
 |.obj b _=>b
 |.cell b _ _ _ _=>b
def Qx.ok(w:World):Qx->Prop
 |.obj b o=>w.heap[b]?=some o
 |.cell b i v T n=>∃c,w.heap[b]?=some (.cells c T (0,0))/\c.size=n/\c[i]?=some v
def Qx.apart:Qx->Qx->Prop
 |.cell b i _ _ _,.cell c j _ _ _=>b≠c\/i≠j
 |r,s=>r.blk≠s.blk
structure Qa(T:Type) where
 I:Nat->Option Obj
 M:List Qx
 tok:T
variable{T:Type}
structure Qa.ok(U:Qa T)(w:World):Prop where
 imm:∀b o,U.I b=some o->w.heap[b]?=some o
 held:∀r∈U.M,r.ok w
 apart:U.M.Pairwise Qx.apart
 sep:∀r∈U.M,U.I r.blk=none
def Qa.canW(U:Qa T):Loc->Prop
 |.cell a=>(∃c t fr,Qx.obj a.block (.cells c t fr)∈U.M/\a.off<c.size)\/(∃v t n,Qx.cell a.block a.off v t n∈U.M)
 |.obj b=>∃o,Qx.obj b o∈U.M
 |_=>False
def Qa.canR(U:Qa T):Loc->Prop
 |.cell a=>U.canW (.cell a)\/∃c t fr,U.I a.block=some (.cells c t fr)/\a.off<c.size
 |.obj b=>U.canW (.obj b)\/∃o,U.I b=some o
 |_=>False
def Loc.new(w:World):Loc->Prop
 |.cell a=>w.heap.size<=a.block
 |.obj b=>w.heap.size<=b
 |_=>False
def Mark.still:Mark->Bool
 |.acquire _|.release _|.releaseMerge _|.disable|.enable|.read _|.write _=>false
 |_=>true
def JT(U:Qa T)(w:World)(e:Event):Prop:=
 match e.loc with
 |.cell a=>e.sync=false/\(if e.write then U.canW (.cell a)\/Loc.new w (.cell a)else U.canR (.cell a)\/Loc.new w (.cell a))
 |.obj b=>e.sync=false/\(if e.write then U.canW (.obj b)\/Loc.new w (.obj b)else U.canR (.obj b)\/Loc.new w (.obj b))
 |.mark m=>Mark.still m=true
 |_=>False
def WK(o b:Os):Prop:=∃d:Nat,b={ o with wall:=o.wall+d,mono:=o.mono+d }
theorem WK.refl(o:Os):WK o o:=⟨0,rfl⟩
def WK.trans{a b c:Os}(h:WK a b)(k:WK b c):WK a c:=by
 obtain⟨d,rfl⟩:=h;obtain⟨e,rfl⟩:=k;exact⟨d+e,by simp[Nat.add_assoc]⟩
structure ZU(U:Qa T)(w w':World)(U':Qa T):Prop where
 os:WK w.os w'.os
 tape:w'.tape=w.tape
 output:w'.output=w.output
 size:w.heap.size<=w'.heap.size
 cells:∀b c t fr,w.heap[b]?=some (.cells c t fr)->∃c' fr',w'.heap[b]?=some (.cells c' t fr')/\c'.size=c.size/\(∀i,¬U.canW (.cell ⟨b,i,none⟩)->c'[i]?=c[i]?)/\(fr'=fr\/(U.canW (.obj b)/\∀i,i<c.size->U.canW (.cell ⟨b,i,none⟩)))
 objs:∀b o,w.heap[b]?=some o->(∀c t fr,o≠.cells c t fr)->¬U.canW (.obj b)->w'.heap[b]?=some o
 cw:∀l,U'.canW l->U.canW l\/Loc.new w l
 cr:∀l,U'.canR l->U.canR l\/Loc.new w l
theorem ZU.refl(U:Qa T)(w:World):ZU U w w U:=
 ⟨.refl _,rfl,rfl,Nat.le_refl _,λ _ c _ fr h=>⟨c,fr,h,rfl,λ _ _=>rfl,.inl rfl⟩,λ _ _ h _ _=>h,λ _ h=>.inl h,λ _ h=>.inl h⟩
def Loc.new_mono{w w':World}(h:w.heap.size<=w'.heap.size){l:Loc}(b:Loc.new w' l):Loc.new w l:=by
 cases l <;> simp_all[Loc.new] <;> omega
theorem Dq{w:World}{b:Nat}{o:Obj}(h:w.heap[b]?=some o)(i:Nat):¬Loc.new w (.cell ⟨b,i,none⟩):=by
 grind[Loc.new]
theorem Dm{w:World}{b:Nat}{o:Obj}(h:w.heap[b]?=some o):¬Loc.new w (.obj b):=by
 grind[Loc.new]
def ZU.trans{U Y Z:Qa T}{w K L:World}(h:ZU U w K Y)(k:ZU Y K L Z):ZU U w L Z:=by
 refine⟨h.os.trans k.os,k.tape.trans h.tape,k.output.trans h.output,Nat.le_trans h.size k.size,?_,?_,?_,?_⟩
 .intro b c t fr hb;obtain⟨N,Q,E,B,F,G⟩:=h.cells b c t fr hb;obtain⟨P,S,V,I,W,H⟩:=k.cells b N t Q E;refine⟨P,S,V,I.trans B,λ i M=>?_,?_⟩
  .rw[W i λ e=>?_,F i M];rcases h.cw _ e with e|e
   .exact M e
   grind[Dq]
  .rcases H with rfl|⟨ho,M⟩
   .exact G
   .refine .inr ⟨?_,λ i X=>?_⟩
    .rcases h.cw _ ho with e|e
     .exact e
     grind[absurd,Dm]
    .rcases h.cw _ (M i (by rw[B];exact X))with e|e
     .exact e
     grind[absurd,Dq]
 .intro b o hb hne e;have E:=h.objs b o hb hne e;refine k.objs b o E hne λ z=>?_;rcases h.cw _ z with z|z
  .exact e z
  .exact Dm hb z
 .intro l f;rcases k.cw l f with f|f
  .exact h.cw l f
  .exact .inr (Loc.new_mono h.size f)
 .intro l f;rcases k.cr l f with f|f
  .exact h.cr l f
  .exact .inr (Loc.new_mono h.size f)
theorem JT.of{U F:Qa T}{w E:World}(h:ZU U w E F){e:Event}(z:JT F E e):JT U w e:=by
 obtain⟨loc,wr,G⟩:=e;cases loc with
 |cell a=>
  simp only[JT]at z ⊢;refine⟨z.1,?_⟩;have f:=z.2;split at f <;> rename_i B <;> simp only[B,if_true,if_false,Bool.false_eq_true]
  .rcases f with f|f
   .exact h.cw _ f
   .exact .inr (Loc.new_mono h.size f)
  .rcases f with f|f
   .exact h.cr _ f
   .exact .inr (Loc.new_mono h.size f)
 |obj b=>
  simp only[JT]at z ⊢;refine⟨z.1,?_⟩;have f:=z.2;split at f <;> rename_i B <;> simp only[B,if_true,if_false,Bool.false_eq_true]
  .rcases f with f|f
   .exact h.cw _ f
   .exact .inr (Loc.new_mono h.size f)
  .rcases f with f|f
   .exact h.cr _ f
   .exact .inr (Loc.new_mono h.size f)
 |output=>exact z
 |goroutines=>exact z
 |mark m=>exact z
def Qa.sees(U:Qa T)(a:Addr)(v:Value):Prop:=
 a.spot=none/\((∃c t fr,(U.I a.block=some (.cells c t fr)\/Qx.obj a.block (.cells c t fr)∈U.M)/\c[a.off]?=some v)\/(∃t n,Qx.cell a.block a.off v t n∈U.M))
def Qa.has(U:Qa T)(b:Nat)(o:Obj):Prop:=U.I b=some o\/Qx.obj b o∈U.M
inductive Xy(a:Addr)(v:Value):List Qx->List Qx->Prop
 |obj {c t M}:a.spot=none->a.off<c.size->Xy a v (.obj a.block (.cells c t (0,0))::M) (.obj a.block (.cells (c.setIfInBounds a.off v) t (0,0))::M)
 |cell {u t n M}:a.spot=none->Xy a v (.cell a.block a.off u t n::M) (.cell a.block a.off v t n::M)
 |there {r M M'}:Xy a v M M'->Xy a v (r::M) (r::M')
inductive J4(b:Nat)(o':Obj):Obj->List Qx->List Qx->Prop
 |here {o M}:J4 b o' o (.obj b o::M) (.obj b o'::M)
 |there {o r M M'}:J4 b o' o M M'->J4 b o' o (r::M) (r::M')
def Obj.shapeOf:Obj->Option (TypeId×Nat)
 |.cells c t _=>some (t,c.size)
 |_=>none
def Obj.isCells:Obj->Bool
 |.cells ..=>true
 |_=>false
def Qa.put(U:Qa T)(b:Nat)(o:Obj):Qa T:={ U with M:=.obj b o::U.M }
def Qa.free(U:Qa T)(b:Nat):Prop:=U.I b=none/\∀r∈U.M,r.blk≠b
def Qr(P:Program){α:Type}:Sem α->(α->Qa T->Prop)->Qa T->Prop
 |.pure a,Q,U=>Q a U
 |.load m a k,Q,U=>m=.plain/\∃v,U.sees a v/\Qr P (k v) Q U
 |.store m a v k,Q,U=>m=.plain/\v.single=true/\∃M',Xy a v U.M M'/\Qr P k Q { U with M:=M' }
 |.new o k,Q,U=>∀b,U.free b->Qr P (k b) Q (U.put b o)
 |.shape r k,Q,U=>∃o,U.has r o/\Qr P (k (Obj.shapeOf o)) Q U
 |.freeze a n k,Q,U=>n≠0/\∃c t M',U.M=.obj a.block (.cells c t (0,0))::M'/\Qr P k Q { U with M:=.obj a.block (.cells c t (a.off,a.off+n))::M' }
 |.frozen a k,Q,U=>∃c t,U.has a.block (.cells c t (0,0))/\Qr P (k false) Q U
 |.getObj r k,Q,U=>∃o,U.has r o/\Obj.isCells o=false/\o.isChan=false/\Qr P (k o) Q U
 |.setObj r o k,Q,U=>∃e M',J4 r o e U.M M'/\Obj.isCells e=false/\Obj.isCells o=false/\o.isChan=false/\Qr P k Q { U with M:=M' }
 |.choose q k,Q,U=>if q.forced then Qr P (k 0) Q U else ∀t,Qr P (k (q.cut t)) Q U
 |.sys _ _,_,_=>False
 |.program k,Q,U=>Qr P (k P) Q U
 |.mark m k,Q,U=>Mark.still m=true/\Qr P k Q U
 |.halt _,_,_=>False
def Qa.sees_cell{U:Qa T}{w:World}(h:U.ok w){a:Addr}{v:Value}(B:U.sees a v):w.cell? a=some v/\U.canR (.cell a):=by
 obtain⟨f,⟨c,t,fr,b,e⟩|⟨t,n,z⟩⟩:=B
 .have hlt:a.off<c.size:=(Array.getElem?_eq_some_iff.1 e).1;rcases b with b|b
  .exact⟨by simp[World.cell?,h.imm _ _ b,f,e],.inr ⟨c,t,fr,b,hlt⟩⟩
  .have:=h.held _ b;simp only[Qx.ok]at this;exact⟨by grind[World.cell?],.inl (.inl ⟨c,t,fr,b,hlt⟩)⟩
 .obtain⟨c,b,_,e⟩:=h.held _ z;exact⟨by grind[World.cell?],.inl (.inr ⟨v,t,n,z⟩)⟩
def Qa.has_heap{U:Qa T}{w:World}(h:U.ok w){b:Nat}{o:Obj}(e:U.has b o):w.heap[b]?=some o:=by
 rcases e with e|e
 .exact h.imm _ _ e
 .exact h.held _ e
def Re(w:World)(a:Addr)(v:Value)(c:Array Value)(t:TypeId)(fr:Nat×Nat)(b:a.spot=none)(h:w.heap[a.block]?=some (.cells c t fr)) :
  (w.setCell a v).heap[a.block]?=some (.cells (c.setIfInBounds a.off v) t fr):=by
 simp[World.setCell,Array.getElem?_modify,h,b]
def Wy(w:World)(a:Addr)(v:Value){b:Nat}(h:b≠a.block):(w.setCell a v).heap[b]?=w.heap[b]?:=by
 simp only[World.setCell,Array.getElem?_modify];grind
def Nz(w:World)(a:Addr)(v:Value):(w.setCell a v).heap.size=w.heap.size:=by simp[World.setCell]
inductive WE(a:Addr)(v:Value):Qx->Qx->Prop
 |obj {b c t}:b=a.block->a.spot=none->a.off<c.size->WE a v (.obj b (.cells c t (0,0))) (.obj b (.cells (c.setIfInBounds a.off v) t (0,0)))
 |cell {b i u t n}:b=a.block->i=a.off->a.spot=none->WE a v (.cell b i u t n) (.cell b i v t n)
def Xy.split{a:Addr}{v:Value}{M M':List Qx}(h:Xy a v M M'):∃M₁ r f M₂,M=M₁++r::M₂/\M'=M₁++f::M₂/\WE a v r f:=by
 induction h with
 |obj b e=>exact⟨[],_,_,_,rfl,rfl,.obj rfl b e⟩
 |cell b=>exact⟨[],_,_,_,rfl,rfl,.cell rfl rfl b⟩
 |there _ w=>grind
def J4.split{b:Nat}{e o:Obj}{M M':List Qx}(h:J4 b e o M M'):∃M₁ M₂,M=M₁++.obj b o::M₂/\M'=M₁++.obj b e::M₂:=by
 induction h with
 |here=>exact⟨[],_,rfl,rfl⟩
 |there _ f=>grind
theorem WE.blk{a:Addr}{v:Value}{r s:Qx}(h:WE a v r s):s.blk=r.blk:=by cases h <;> rfl
def WE.blk'{a:Addr}{v:Value}{r s:Qx}(h:WE a v r s):r.blk=a.block:=by cases h <;> simp_all[Qx.blk]
theorem WE.apart{a:Addr}{v:Value}{r s:Qx}(h:WE a v r s)(x:Qx):s.apart x↔r.apart x:=by
 cases h <;> cases x <;> simp[Qx.apart,Qx.blk]
def Qx.apart_symm{r s:Qx}(h:r.apart s):s.apart r:=by
 cases r <;> cases s <;> simp_all[Qx.apart,Qx.blk,eq_comm]
def WE.apart'{a:Addr}{v:Value}{r s:Qx}(h:WE a v r s)(x:Qx):x.apart s↔x.apart r:=
 ⟨λ k=>Qx.apart_symm ((h.apart x).1 (Qx.apart_symm k)),λ k=>Qx.apart_symm ((h.apart x).2 (Qx.apart_symm k))⟩
def Qx.lets:Qx->Loc->Prop
 |.obj b (.cells c _ _),.cell a=>a.block=b/\a.off<c.size
 |.cell b i _ _ _,.cell a=>a.block=b/\a.off=i
 |.obj b _,.obj e=>e=b
 |_,_=>False
theorem Q6{U:Qa T}{l:Loc}:U.canW l↔∃r∈U.M,r.lets l:=by
 cases l with
 |cell a=>
  simp only[Qa.canW];constructor
  .rintro(⟨c,t,fr,hm,hlt⟩|⟨v,t,n,hm⟩)
   .exact⟨_,hm,rfl,hlt⟩
   .exact⟨_,hm,rfl,rfl⟩
  .rintro⟨r,hr,hl⟩;cases r with
   |obj b o=>
    cases o <;> simp only[Qx.lets]at hl;grind
   |cell b i v t n=>
    grind[Qx.lets]
 |obj b=>
  simp only[Qa.canW];constructor
  .rintro⟨o,h⟩;exact⟨_,h,by cases o <;> rfl⟩
  .rintro⟨r,hr,hl⟩;cases r with
   |obj e o=>grind[Qx.lets]
   |cell e i v t n=>exact hl.elim
 |output=>simp[Qa.canW];intro r _ h;cases r with|obj b o=>cases o <;> exact h|cell=>exact h
 |goroutines=>simp[Qa.canW];intro r _ h;cases r with|obj b o=>cases o <;> exact h|cell=>exact h
 |mark _=>simp[Qa.canW];intro r _ h;cases r with|obj b o=>cases o <;> exact h|cell=>exact h
theorem WE.lets{a:Addr}{v:Value}{r s:Qx}(h:WE a v r s)(l:Loc):s.lets l↔r.lets l:=by
 cases h <;> cases l <;> simp[Qx.lets]
def WE.canAt{a:Addr}{v:Value}{r s:Qx}(h:WE a v r s):r.lets (.cell a):=by
 cases h <;> simp_all[Qx.lets]
theorem Qy{U:Qa T}{l:Loc}:U.canR l↔(∃r∈U.M,r.lets l)\/(match l with|.cell a=>∃c t fr,U.I a.block=some (.cells c t fr)/\a.off<c.size|.obj b=>∃o,U.I b=some o|_=>False):=by
 have:=Q6 (U:=U) (l:=l);grind[Qa.canR,Qa.canW]
def xw{U:Qa T}{w:World}(h:U.ok w){a:Addr}{v:Value}{M':List Qx}(hu:Xy a v U.M M') :
  (∃u,w.cell? a=some u)/\w.frozen? a=false/\U.canW (.cell a)/\Qa.ok { U with M:=M' } (w.setCell a v)/\ZU U w (w.setCell a v) { U with M:=M' }:=by
 obtain⟨M₁,r,r',M₂,V,rfl,F⟩:=hu.split;have W:r∈U.M:=by rw[V];simp
 have Z:U.canW (.cell a):=Q6.2 ⟨r,W,F.canAt⟩;have H:=h.held r W;have aa:a.spot=none:=by cases F <;> assumption
 obtain⟨c,t,K,P⟩:∃c t,w.heap[a.block]?=some (.cells c t (0,0))/\a.off<c.size:=by
  cases F with
  |obj e _ P=>subst e;exact⟨_,_,H,P⟩
  |cell e e' _=>subst e;subst e';obtain⟨c,K,_,hc⟩:=H;grind
 have G:=Re w a v c t (0,0) aa K
 have N:∀l,(∃s∈M₁++r'::M₂,s.lets l)↔∃s∈U.M,s.lets l:=by
  intro l;rw[V];simp only[mem_append,mem_cons];constructor
  .rintro⟨s,z|rfl|z,hl'⟩
   .exact⟨s,.inl z,hl'⟩
   .exact⟨r,.inr (.inl rfl),(F.lets l).1 hl'⟩
   grind
  .rintro⟨s,z|rfl|z,hl'⟩
   .exact⟨s,.inl z,hl'⟩
   .exact⟨r',.inr (.inl rfl),(F.lets l).2 hl'⟩
   grind
 have f:=h.apart;rw[V]at f;refine⟨⟨c[a.off],by grind[World.cell?]⟩,by simp[World.frozen?,K],Z,⟨?_,?_,?_,?_⟩,?_⟩
 .intro b o hI
  have B:b≠a.block:=by
   intro e;have:=h.sep r W;rw[F.blk',<- e,hI]at this;cases this
  rw[Wy _ _ _ B];exact h.imm b o hI
 .intro s z;simp only[mem_append,mem_cons]at z
  have S:∀s,s∈U.M->r.apart s->s.ok (w.setCell a v):=by
   intro s z f;have Q:=h.held s z;cases s with
   |obj b o=>
    have B:b≠a.block:=by
     cases F <;> simp_all[Qx.apart,Qx.blk] <;> exact λ e=>f e.symm
    simp only[Qx.ok]at Q ⊢;rw[Wy _ _ _ B];exact Q
   |cell b i u t' n=>
    obtain⟨X,E,Y,L⟩:=Q;by_cases B:b=a.block
    .subst B;cases F with
     |obj e _ _=>exact absurd e.symm (by simpa[Qx.apart,Qx.blk]using λ e=>f e.symm)
     |cell e e' _=>
      have hi:i≠a.off:=by
       simp[Qx.apart]at f;rcases f with f|f
       .exact absurd e f
       .exact λ x=>f (e'.trans x.symm)
      rw[K]at E;cases E;refine⟨c.setIfInBounds a.off v,G,by simpa using Y,?_⟩;rw[Array.getElem?_setIfInBounds_ne (λ x=>hi x.symm)];exact L
    .exact⟨X,by rw[Wy _ _ _ B];exact E,Y,L⟩
  rw[pairwise_append,pairwise_cons]at f;rcases z with z|rfl|z
  .exact S s (by rw[V];simp[z]) (Qx.apart_symm (f.2.2 s z r S1))
  .cases F with
   |obj e _ _=>subst e;simp only[Qx.ok]at H ⊢;rw[H]at K;cases K;exact G
   |cell e e' _=>
    subst e;subst e';obtain⟨X,E,Y,L⟩:=H;rw[K]at E;cases E;exact⟨_,G,by simpa using Y,by rw[Array.getElem?_setIfInBounds_self_of_lt P]⟩
  simp_all
 .show Pairwise Qx.apart (M₁++r'::M₂);rw[pairwise_append,pairwise_cons]at f ⊢;refine⟨f.1,⟨λ s z=>(F.apart s).2 (f.2.1.1 s z),f.2.1.2⟩,λ s z x hx=>?_⟩;rcases mem_cons.1 hx with rfl|hx
  .exact(F.apart' s).2 (f.2.2 s z r S1)
  simp_all
 .intro s z;show U.I s.blk=none;simp only[mem_append,mem_cons]at z;rcases z with z|rfl|z
  .exact h.sep s (by rw[V];simp[z])
  .rw[F.blk];exact h.sep r W
  .exact h.sep s (by rw[V];simp[z])
 .refine⟨.refl _,rfl,rfl,by rw[Nz];exact Nat.le_refl _,?_,?_,?_,?_⟩
  .intro b X t' fr E;by_cases B:b=a.block
   .subst B;rw[K]at E;cases E;refine⟨_,_,G,S1,λ i hi=>?_,.inl rfl⟩;rw[Array.getElem?_setIfInBounds_ne];rintro rfl;refine hi (Q6.2 ⟨r,W,?_⟩);have:=F.canAt;cases F <;> simp_all[Qx.lets]
   .exact⟨X,fr,by rw[Wy _ _ _ B];exact E,rfl,λ _ _=>rfl,.inl rfl⟩
  .intro b o ho B _;by_cases e:b=a.block
   .subst e;rw[K]at ho;cases ho;exact absurd rfl (B _ _ _)
   .rw[Wy _ _ _ e];exact ho
  .intro l hl';rw[Q6]at hl' ⊢;exact .inl ((N l).1 hl')
  simp_all[Qy,id]
def World.plus(w:World)(o:Obj):World:={ w with heap:=w.heap.push o }
def Mp{U:Qa T}{w:World}(h:U.ok w)(o:Obj) :
  U.free w.heap.size/\Qa.ok (U.put w.heap.size o) (World.plus w o)/\ZU U w (World.plus w o) (U.put w.heap.size o):=by
 have B:∀b,b<w.heap.size->(World.plus w o).heap[b]?=w.heap[b]?:=λ b H=>by
  simp only[World.plus,Array.getElem?_push];grind
 have G:∀r∈U.M,r.blk<w.heap.size:=by
  intro r f;have:=h.held r f;cases r with
  |obj b o=>exact(Array.getElem?_eq_some_iff.1 this).1
  |cell b i v t n=>obtain⟨c,H,_⟩:=this;exact(Array.getElem?_eq_some_iff.1 H).1
 have z:U.free w.heap.size:=by
  refine⟨?_,λ r f e=>by grind⟩;cases e:U.I w.heap.size with
  |none=>rfl
  |some x=>have:=(Array.getElem?_eq_some_iff.1 (h.imm _ _ e)).1;omega
 have K:∀b F,U.I b=some F->b<w.heap.size:=λ b F e=>(Array.getElem?_eq_some_iff.1 (h.imm _ _ e)).1;refine⟨z,⟨λ b F e=>by rw[B _ (K b F e)];exact h.imm b F e,?_,?_,?_⟩,?_⟩
 .intro r f;rcases mem_cons.1 f with rfl|f
  .simp[Qx.ok,World.plus]
  .have:=h.held r f;cases r with
   |obj b F=>exact(B b (G _ f)).trans this
   |cell b i v t n=>obtain⟨c,H,x⟩:=this;exact⟨c,(B b (G _ f)).trans H,x⟩
 .refine pairwise_cons.2 ⟨λ r f=>?_,h.apart⟩;grind[Qx.apart,Qx.blk]
 .intro r f;rcases mem_cons.1 f with rfl|f
  .exact z.1
  .exact h.sep r f
 .refine⟨.refl _,rfl,rfl,by simp[World.plus],?_,?_,?_,?_⟩
  .grind
  .grind
  .intro l E;rw[Q6]at E ⊢;obtain⟨r,f,E⟩:=E;rcases mem_cons.1 f with rfl|f
   .refine .inr ?_;cases l <;> cases o <;> simp_all[Qx.lets,Loc.new]
   grind
  .intro l E;rw[Qy]at E ⊢;rcases E with⟨r,f,E⟩|E
   .rcases mem_cons.1 f with rfl|f
    .refine .inr ?_;cases l <;> cases o <;> simp_all[Qx.lets,Loc.new]
    grind
   .exact .inl (.inr E)
def jT{U:Qa T}{w:World}(h:U.ok w){b:Nat}{E o:Obj}{M':List Qx}(hu:J4 b E o U.M M')(h1:Obj.isCells o=false)(h2:Obj.isCells E=false) :
  w.heap[b]?=some o/\U.canW (.obj b)/\Qa.ok { U with M:=M' } { w with heap:=w.heap.setIfInBounds b E }/\ZU U w { w with heap:=w.heap.setIfInBounds b E } { U with M:=M' }:=by
 obtain⟨M₁,M₂,L,rfl⟩:=hu.split;have V:Qx.obj b o∈U.M:=by rw[L];simp
 have Y:w.heap[b]?=some o:=h.held _ V;have aa:=(Array.getElem?_eq_some_iff.1 Y).1;have Q:U.canW (.obj b):=⟨o,V⟩;have f:=h.apart;rw[L]at f
 have B:∀x,x≠b->(w.heap.setIfInBounds b E)[x]?=w.heap[x]?:=λ x W=>by
  grind
 have H:∀l,(Qx.obj b E).lets l↔(Qx.obj b o).lets l:=by
  intro l;cases o <;> cases E <;> simp_all[Obj.isCells] <;> cases l <;> simp[Qx.lets]
 have P:∀l,(∃s∈M₁++Qx.obj b E::M₂,s.lets l)↔∃s∈U.M,s.lets l:=by
  intro l;rw[L];simp only[mem_append,mem_cons];constructor
  .rintro⟨s,z|rfl|z,hl'⟩
   .exact⟨s,.inl z,hl'⟩
   .exact⟨_,.inr (.inl rfl),(H l).1 hl'⟩
   .exact⟨s,.inr (.inr z),hl'⟩
  .rintro⟨s,z|rfl|z,hl'⟩
   .exact⟨s,.inl z,hl'⟩
   .exact⟨_,.inr (.inl rfl),(H l).2 hl'⟩
   .exact⟨s,.inr (.inr z),hl'⟩
 have N:∀x,(Qx.obj b E).apart x↔(Qx.obj b o).apart x:=λ x=>by grind[Qx.apart,Qx.blk]
 refine⟨Y,Q,⟨?_,?_,?_,?_⟩,?_⟩
 .intro x ox hI;have F:x≠b:=by rintro rfl;have:=h.sep _ V;simp only[Qx.blk]at this;rw[hI]at this;cases this
  show(w.heap.setIfInBounds b E)[x]?=_;rw[B x F];exact h.imm x ox hI
 .intro s z
  have K:∀s,s∈U.M->(Qx.obj b o).apart s->s.ok { w with heap:=w.heap.setIfInBounds b E }:=by
   intro s z f;have S:=h.held s z;cases s with
   |obj x ox=>
    have F:x≠b:=by simp[Qx.apart,Qx.blk]at f;exact λ e=>f e.symm
    show(w.heap.setIfInBounds b E)[x]?=_;rw[B x F];exact S
   |cell x i u t n=>
    have F:x≠b:=by simp[Qx.apart,Qx.blk]at f;exact λ e=>f e.symm
    obtain⟨X,G,hn,Z⟩:=S;exact⟨X,(B x F).trans G,hn,Z⟩
  simp only[mem_append,mem_cons]at z;rw[pairwise_append,pairwise_cons]at f;rcases z with z|rfl|z
  .exact K s (by rw[L];simp[z]) (Qx.apart_symm (f.2.2 s z _ S1))
  .show(w.heap.setIfInBounds b E)[b]?=_;rw[Array.getElem?_setIfInBounds_self_of_lt aa]
  simp_all
 .show Pairwise Qx.apart (M₁++Qx.obj b E::M₂);rw[pairwise_append,pairwise_cons]at f ⊢;refine⟨f.1,⟨λ s z=>(N s).2 (f.2.1.1 s z),f.2.1.2⟩,λ s z x W=>?_⟩;rcases mem_cons.1 W with rfl|W
  .exact Qx.apart_symm ((N s).2 (Qx.apart_symm (f.2.2 s z _ S1)))
  .exact f.2.2 s z x (by simp[W])
 .intro s z;show U.I s.blk=none;simp only[mem_append,mem_cons]at z;rcases z with z|rfl|z
  .exact h.sep s (by rw[L];simp[z])
  .exact(h.sep _ V:U.I b=none)
  .exact h.sep s (by rw[L];simp[z])
 .refine⟨.refl _,rfl,rfl,S1,?_,?_,?_,?_⟩
  .intro x X t' fr G;by_cases e:x=b
   .subst e;rw[Y]at G;cases G;simp[Obj.isCells]at h1
   .exact⟨X,fr,(B x e).trans G,rfl,λ _ _=>rfl,.inl rfl⟩
  .intro x ox ho F hw;by_cases e:x=b
   .subst e;exact absurd Q hw
   .exact(B x e).trans ho
  .intro l hl';rw[Q6]at hl' ⊢;exact .inl ((P l).1 hl')
  grind[Qy,id]
def Mg(w:World)(a:Addr)(n:Nat)(b:n≠0)(c:Array Value)(t:TypeId)(h:w.heap[a.block]?=some (.cells c t (0,0))):(w.freeze a n).heap[a.block]?=some (.cells c t (a.off,a.off+n)):=by
 simp[World.freeze,b,Array.getElem?_modify,h]
def W4(w:World)(a:Addr)(n:Nat){b:Nat}(h:b≠a.block):(w.freeze a n).heap[b]?=w.heap[b]?:=by
 unfold World.freeze;grind
def Bz(w:World)(a:Addr)(n:Nat):(w.freeze a n).heap.size=w.heap.size:=by grind[World.freeze]
def T4(w:World)(a:Addr)(n:Nat):(w.freeze a n).os=w.os/\(w.freeze a n).tape=w.tape/\(w.freeze a n).output=w.output:=by grind[World.freeze]
def vk{U:Qa T}{w:World}(h:U.ok w){a:Addr}{n:Nat}(P:n≠0){c:Array Value}{t:TypeId}{M':List Qx}(B:U.M=.obj a.block (.cells c t (0,0))::M') :
  Qa.ok { U with M:=.obj a.block (.cells c t (a.off,a.off+n))::M' } (w.freeze a n)/\ZU U w (w.freeze a n) { U with M:=.obj a.block (.cells c t (a.off,a.off+n))::M' }:=by
 have F:Qx.obj a.block (.cells c t (0,0))∈U.M:=by rw[B];simp
 have H:w.heap[a.block]?=some (.cells c t (0,0)):=h.held _ F;have L:=h.apart;rw[B,pairwise_cons]at L;have z:∀l,(Qx.obj a.block (.cells c t (a.off,a.off+n))).lets l↔(Qx.obj a.block (.cells c t (0,0))).lets l:=λ l=>by cases l <;> rfl
 have E:∀l,(∃s∈Qx.obj a.block (.cells c t (a.off,a.off+n))::M',s.lets l)↔∃s∈U.M,s.lets l:=by
  intro l;rw[B];constructor
  .rintro⟨s,f,hl⟩;rcases mem_cons.1 f with rfl|f
   .exact⟨_,mem_cons_self ..,(z l).1 hl⟩
   .exact⟨s,mem_cons_of_mem _ f,hl⟩
  .rintro⟨s,f,hl⟩;rcases mem_cons.1 f with rfl|f
   .exact⟨_,mem_cons_self ..,(z l).2 hl⟩
   .exact⟨s,mem_cons_of_mem _ f,hl⟩
 have ne:∀r∈M',r.blk≠a.block:=λ r W e=>by
  grind[Qx.apart,Qx.blk]
 refine⟨⟨λ b o N=>?_,λ s f=>?_,?_,λ s f=>?_⟩,?_⟩
 .have:b≠a.block:=by rintro rfl;have:=h.sep _ F;simp only[Qx.blk]at this;rw[N]at this;cases this
  rw[W4 _ _ _ this];exact h.imm b o N
 .rcases mem_cons.1 f with rfl|f
  .exact Mg w a n P c t H
  .have hne:=ne s f;have G:=h.held s (by rw[B];simp[f]);cases s with
   |obj b o=>exact(W4 w a n hne).trans G
   |cell b i v t n'=>obtain⟨K,Q,S⟩:=G;exact⟨K,(W4 w a n hne).trans Q,S⟩
 .grind[Qx.apart,pairwise_cons,Qx.blk]
 .rcases mem_cons.1 f with rfl|f
  .exact(h.sep _ F:U.I a.block=none)
  .exact h.sep s (by rw[B];simp[f])
 .refine⟨by rw[(T4 w a n).1];exact .refl _,(T4 w a n).2.1,(T4 w a n).2.2,by rw[Bz];exact Nat.le_refl _,?_,?_,?_,?_⟩
  .intro b K t' fr hb';by_cases e:b=a.block
   .subst e;rw[H]at hb';cases hb';exact⟨c,_,Mg w a n P c t H,rfl,λ _ _=>rfl,.inr ⟨Q6.2 ⟨_,F,rfl⟩,λ i V=>Q6.2 ⟨_,F,rfl,V⟩⟩⟩
   .exact⟨K,fr,by rw[W4 _ _ _ e];exact hb',rfl,λ _ _=>rfl,.inl rfl⟩
  .intro b o ho hne _;by_cases e:b=a.block
   .subst e;rw[H]at ho;cases ho;exact absurd rfl (hne _ _ _)
   .rw[W4 _ _ _ e];exact ho
  .intro l hl;rw[Q6]at hl ⊢;exact .inl ((E l).1 hl)
  grind[Qy,id]
def FQ{U:Qa T}{w:World}(h:U.ok w)(d:Nat):U.ok { w with drawn:=d }:=⟨h.imm,h.held,h.apart,h.sep⟩
def S_(U:Qa T)(w:World)(d:Nat):ZU U w { w with drawn:=d } U:=
 ⟨.refl _,rfl,rfl,Nat.le_refl _,λ _ c _ fr h=>⟨c,fr,h,rfl,λ _ _=>rfl,.inl rfl⟩,λ _ _ h _ _=>h,λ _ h=>.inl h,λ _ h=>.inl h⟩
def H3(w:World)(e:Event):Prop:=
 match e.loc with
 |.cell a=>a.block<w.heap.size
 |.obj b=>b<w.heap.size
 |_=>True
theorem H3.mono{w w':World}{e:Event}(h:H3 w e)(b:w.heap.size<=w'.heap.size):H3 w' e:=by
 grind[H3]
def IU{w:World}{a:Addr}{v:Value}(h:w.cell? a=some v):a.block<w.heap.size:=by
 apply Classical.byContradiction;grind[Array.getElem?_eq_none,Nat.le_of_not_lt,World.cell?]
def Qr.sound{P:Program}{α:Type}(s:Sem α):∀{Q:α->Qa T->Prop}{U:Qa T}{w:World}{es₀:Array Event},Qr P s Q U->U.ok w ->
  ∃a w' es U',s.runT P w es₀=(.ok a w',es₀++es)/\(∀e∈es,JT U w e/\H3 w' e)/\ZU U w w' U'/\U'.ok w'/\Q a U'/\U'.tok=U.tok:=by
 induction s with
 |pure a=>exact λ{Q U w es₀}h ok=>⟨a,w,#[],U,by simp[Sem.runT],S1,.refl _ _,ok,h,rfl⟩
 |load m a k H=>
  intro Q U w es₀ h ok;obtain⟨rfl,v,hs,h⟩:=h;obtain⟨N,hr⟩:=Qa.sees_cell ok hs;obtain⟨x,w',es,U',B,f,G,z,I⟩:=H v (es₀:=es₀.push ⟨.cell a,false,false⟩) h ok;refine⟨x,w',#[⟨.cell a,false,false⟩]++es,U',?_,?_,G,z,I⟩
  .simp only[Sem.runT,N];rw[show(Mode.plain==Mode.atomic)=false from rfl,B];simp
  .intro e b;rcases Array.mem_append.1 b with b|b
   .simp at b;subst b;exact⟨⟨rfl,.inl hr⟩,Nat.lt_of_lt_of_le (IU N) G.size⟩
   .exact f e b
 |store m a v k H=>
  intro Q U w es₀ h ok;obtain⟨rfl,hv,M',X,h⟩:=h;obtain⟨⟨u,N⟩,V,M,F,E⟩:=xw ok X;obtain⟨x,w',es,U',B,f,G,z,I⟩:=H (es₀:=es₀.push ⟨.cell a,true,false⟩) h F;refine⟨x,w',#[⟨.cell a,true,false⟩]++es,U',?_,?_,E.trans G,z,I⟩
  .have:Sem.runT P (.store .plain a v k) w es₀=k.runT P (w.setCell a v) (es₀.push ⟨.cell a,true,false⟩):=by
    cases v <;> first|(simp[Value.single]at hv;done)|(simp only[Sem.runT,N,V];rfl)
   simp_all
  .intro e b;rcases Array.mem_append.1 b with b|b
   .simp at b;subst b;exact⟨⟨rfl,.inl M⟩,Nat.lt_of_lt_of_le (IU N) (E.trans G).size⟩
   grind[JT.of]
 |new o k H=>
  intro Q U w es₀ h ok;obtain⟨V,F,E⟩:=Mp ok o;obtain⟨x,w',es,U',B,f,G,z,I⟩:=H w.heap.size (es₀:=es₀) (h _ V) F;exact⟨x,w',es,U',B,λ e b=>⟨JT.of E (f e b).1,(f e b).2⟩,E.trans G,z,I⟩
 |shape r k H=>
  intro Q U w es₀ h ok;obtain⟨o,L,h⟩:=h;have K:=Qa.has_heap ok L
  have aa:w.shape? r=Obj.shapeOf o:=by
   simp only[World.shape?,K];cases o <;> rfl
  simp_all[Sem.runT]
 |freeze a n k H=>
  intro Q U w es₀ h ok;obtain⟨hn,c,t,M',hM,h⟩:=h;obtain⟨F,E⟩:=vk ok hn hM;obtain⟨x,w',es,U',B,f,G,z,I⟩:=H (es₀:=es₀) h F;exact⟨x,w',es,U',by grind[Sem.runT],λ e b=>⟨JT.of E (f e b).1,(f e b).2⟩,E.trans G,z,I⟩
 |frozen a k H=>
  intro Q U w es₀ h ok;obtain⟨c,t,K,h⟩:=h;have K:=Qa.has_heap ok K;simp_all[World.frozen?,Sem.runT]
 |getObj r k H=>
  intro Q U w es₀ h ok;obtain⟨o,L,N,S,h⟩:=h;have K:=Qa.has_heap ok L;obtain⟨x,w',es,U',B,f,G,z,I⟩:=H o (es₀:=es₀.push ⟨.obj r,false,false⟩) h ok;refine⟨x,w',#[⟨.obj r,false,false⟩]++es,U',?_,?_,G,z,I⟩
  .have:Sem.runT P (.getObj r k) w es₀=(k o).runT P w (es₀.push ⟨.obj r,false,o.isChan⟩):=by
    simp only[Sem.runT,K];cases o <;> simp_all[Obj.isCells]
   simp_all
  .intro e b;rcases Array.mem_append.1 b with b|b
   .simp at b;subst b;refine⟨⟨rfl,.inl ?_⟩,Nat.lt_of_lt_of_le (Array.getElem?_eq_some_iff.1 K).1 G.size⟩;rcases L with L|L
    .exact .inr ⟨o,L⟩
    .exact .inl ⟨o,L⟩
   .exact f e b
 |setObj r o k H=>
  intro Q U w es₀ h ok;obtain⟨o0,M',X,Y,Z,S,h⟩:=h;obtain⟨K,M,F,E⟩:=jT ok X Y Z;obtain⟨x,w',es,U',B,f,G,z,I⟩:=H (es₀:=es₀.push ⟨.obj r,true,false⟩) h F;refine⟨x,w',#[⟨.obj r,true,false⟩]++es,U',?_,?_,E.trans G,z,I⟩
  .have:Sem.runT P (.setObj r o k) w es₀=k.runT P { w with heap:=w.heap.setIfInBounds r o } (es₀.push ⟨.obj r,true,o.isChan⟩):=by
    simp only[Sem.runT,K];cases o0 <;> simp_all[Obj.isCells]
   simp_all
  .intro e b;rcases Array.mem_append.1 b with b|b
   .simp at b;subst b;exact⟨⟨rfl,.inl M⟩,Nat.lt_of_lt_of_le (Array.getElem?_eq_some_iff.1 K).1 (E.trans G).size⟩
   grind[JT.of]
 |choose q k H=>
  intro Q U w es₀ h ok;simp only[Qr]at h;by_cases I:q.forced=true
  .simp_all[if_pos,Sem.runT,if_true]
  .rw[if_neg I]at h;obtain⟨x,w',es,U',B,f,G,z,W⟩:=H _ (es₀:=es₀) (h (w.tape w.drawn q)) (FQ ok (w.drawn+1));exact⟨x,w',es,U',by grind[Sem.runT],λ e b=>⟨JT.of (S_ U w _) (f e b).1,(f e b).2⟩,(S_ U w _).trans G,z,W⟩
 |sys c k H=>exact λ{Q U w es₀}h ok=>h.elim
 |program k H=>
  intro Q U w es₀ h ok;obtain⟨x,w',es,U',B,f,G,z,I⟩:=H P (es₀:=es₀) h ok;grind[Sem.runT]
 |mark m k H=>
  intro Q U w es₀ h ok;obtain⟨hm,h⟩:=h;obtain⟨x,w',es,U',B,f,G,z,I⟩:=H (es₀:=es₀.push ⟨.mark m,false,true⟩) h ok;refine⟨x,w',#[⟨.mark m,false,true⟩]++es,U',?_,?_,G,z,I⟩
  .simp_all[Sem.runT]
  .intro e b;rcases Array.mem_append.1 b with b|b
   .simp at b;subst b;exact⟨hm,trivial⟩
   .exact f e b
 |halt h=>exact λ{Q U w es₀}h ok=>h.elim
theorem Qr.mono{P:Program}{α:Type}(s:Sem α):∀{Q w:α->Qa T->Prop}{U:Qa T},Qr P s Q U->(∀a U,Q a U->w a U)->Qr P s w U:=by
 induction s with
 |pure a=>exact λ h q=>q _ _ h
 |load m a k f=>exact λ⟨e,v,F,h⟩q=>⟨e,v,F,f v h q⟩
 |store m a v k f=>exact λ⟨e,e',M',G,h⟩q=>⟨e,e',M',G,f h q⟩
 |new o k f=>exact λ h q b z=>f b (h b z) q
 |shape r k f=>exact λ⟨o,E,h⟩q=>⟨o,E,f _ h q⟩
 |freeze a n k f=>exact λ⟨x,c,t,M',B,h⟩q=>⟨x,c,t,M',B,f h q⟩
 |frozen a k f=>exact λ⟨c,t,z,h⟩q=>⟨c,t,z,f _ h q⟩
 |getObj r k f=>exact λ⟨o,a,b,c,h⟩q=>⟨o,a,b,c,f _ h q⟩
 |setObj r o k f=>exact λ⟨H,M',a,b,c,d,h⟩q=>⟨H,M',a,b,c,d,f h q⟩
 |choose q k f=>
  intro Q w U h I;simp only[Qr]at h ⊢;grind
 |sys c k f=>exact λ h _=>h
 |program k f=>exact λ h q=>f _ h q
 |mark m k f=>exact λ⟨a,h⟩q=>⟨a,f h q⟩
 |halt h=>exact λ h _=>h
def So{P:Program}{α β:Type}(s:Sem α)(f:α->Sem β):∀{Q:β->Qa T->Prop}{U:Qa T},Qr P (s.bind f) Q U↔Qr P s (λ a U=>Qr P (f a) Q U) U:=by
 induction s with
 |pure a=>exact λ{_ _}=>Iff.rfl
 |load m a k b=>grind[Sem.bind,Qr]
 |store m a v k b=>grind[Sem.bind,Qr]
 |new o k b=>grind[Sem.bind,Qr]
 |shape r k b=>grind[Sem.bind,Qr]
 |freeze a n k b=>grind[Sem.bind,Qr]
 |frozen a k b=>grind[Sem.bind,Qr]
 |getObj r k b=>grind[Sem.bind,Qr]
 |setObj r o k b=>grind[Sem.bind,Qr]
 |choose q k b=>grind[Sem.bind,Qr]
 |sys c k b=>grind[Sem.bind,Qr]
 |program k b=>grind[Sem.bind,Qr]
 |mark m k b=>grind[Sem.bind,Qr]
 |halt h=>grind[Sem.bind,Qr]
end Go.TM
namespace Go.TM
variable{T:Type}{P:Program}
structure Sys(P:Program)(T:Type) where
 syn:(Bool->Gr->Qa T->Prop)->Bool->Gr->Qa T->Prop
 mono:∀{X Y:Bool->Gr->Qa T->Prop},(∀m g U,X m g U->Y m g U)->∀m g U,syn X m g U->syn Y m g U
def Qw(U U':Qa T):Prop:=U'.tok=U.tok/\∀w,U.ok w->U'.ok w/\(∀l,U'.canW l->U.canW l)/\(∀l,U'.canR l->U.canR l)
theorem Qw.refl(U:Qa T):Qw U U:=⟨rfl,λ _ h=>⟨h,λ _ h=>h,λ _ h=>h⟩⟩
def Qw.trans{U e f:Qa T}(h:Qw U e)(k:Qw e f):Qw U f:=
 ⟨k.1.trans h.1,λ w ok=>let ⟨a,b,c⟩:=h.2 w ok;let ⟨a',b',c'⟩:=k.2 w a;⟨a',λ l x=>b l (b' l x),λ l x=>c l (c' l x)⟩⟩
abbrev QJ(T:Type):=Bool->Gr->Qa T->Prop
def G8(P:Program)(X:QJ T)(m:Bool)(g:Gr)(U:Qa T):Prop:=
 g.status=.running/\∀w,U.ok w->∃g' w' es U',stepG P m g w=.go g' w' es/\(∀e∈es,JT U w e/\H3 w' e)/\ZU U w w' U'/\U'.ok w'/\U'.tok=U.tok/\X m g' U'
def FJ(S:Sys P T)(Stop:QJ T)(X:QJ T)(m:Bool)(g:Gr)(U:Qa T):Prop:=
 ∃b,Qw U b/\(Stop m g b\/G8 P X m g b\/S.syn X m g b)
def J(S:Sys P T)(Stop:QJ T)(m:Bool)(g:Gr)(U:Qa T):Prop:=
 ∀X:QJ T,(∀m g U,FJ S Stop X m g U->X m g U)->X m g U
theorem G8.mono{X Y:QJ T}(h:∀m g U,X m g U->Y m g U){m:Bool}{g:Gr}{U:Qa T}(k:G8 P X m g U):G8 P Y m g U:=
 ⟨k.1,λ w ok=>let ⟨g',w',es,U',a,b,c,d,e,f⟩:=k.2 w ok;⟨g',w',es,U',a,b,c,d,e,h _ _ _ f⟩⟩
theorem FJ.mono{S:Sys P T}{Stop X Y:QJ T}(h:∀m g U,X m g U->Y m g U){m:Bool}{g:Gr}{U:Qa T}(k:FJ S Stop X m g U):FJ S Stop Y m g U:=by
 obtain⟨b,e,k|k|k⟩:=k
 .exact⟨b,e,.inl k⟩
 .exact⟨b,e,.inr (.inl (k.mono h))⟩
 .exact⟨b,e,.inr (.inr (S.mono h _ _ _ k))⟩
variable{S:Sys P T}{Stop:QJ T}{m:Bool}
def J.fold{g:Gr}{U:Qa T}(h:FJ S Stop (J S Stop) m g U):J S Stop m g U:=
 λ X b=>b _ _ _ (h.mono λ _ _ _ k=>k X b)
def J.ind{X:QJ T}(b:∀m g U,FJ S Stop (λ m g U=>X m g U/\J S Stop m g U) m g U->X m g U){g:Gr}{U:Qa T}(h:J S Stop m g U):X m g U:=
 (h (λ m g U=>X m g U/\J S Stop m g U) λ m g U k=>⟨b m g U k,J.fold (k.mono λ _ _ _ x=>x.2)⟩).1
def J.unfold{g:Gr}{U:Qa T}(h:J S Stop m g U):FJ S Stop (J S Stop) m g U:=
 J.ind (X:=FJ S Stop (J S Stop)) (λ _ _ _ k=>k.mono λ _ _ _ x=>x.2) h
def J.stop{g:Gr}{U:Qa T}(h:Stop m g U):J S Stop m g U:=.fold ⟨U,.refl _,.inl h⟩
def J.priv{g:Gr}{U:Qa T}(h:G8 P (J S Stop) m g U):J S Stop m g U:=.fold ⟨U,.refl _,.inr (.inl h)⟩
def J.syn{g:Gr}{U:Qa T}(h:S.syn (J S Stop) m g U):J S Stop m g U:=.fold ⟨U,.refl _,.inr (.inr h)⟩
theorem J.still{g g':Gr}{U:Qa T}(b:g.status=.running)(h:∀w,stepG P m g w=.go g' w)(k:J S Stop m g' U):J S Stop m g U:=
 .priv ⟨b,λ w ok=>⟨g',w,#[],U,h w,S1,.refl _ _,ok,rfl,k⟩⟩
theorem Jq(P:Program)(fn:FuncId)(es:Array Event):∀e∈seen P fn es,e∈es:=by
 dsimp only[seen]
 rw[<- Array.foldl_toList]
 have key:∀(l:List Event)(x:Bool×Array Event),(∀e∈x.2,e∈es)->(∀e∈l,e∈es) ->
   ∀e∈(l.foldl (λ(x:Bool×Array Event)e=>match e.loc with|.mark (.extern f)=>((P.funcs[f]?).any (·.norace),x.2)|_=>(x.1,if x.1&&!e.sync then x.2 else x.2.push e)) x).2,e∈es:=by
  intro l
  induction l with
  |nil=>simp_all
  |cons a l b=>
   grind
 exact key es.toList _ S1 S1
def J.sem{α:Type}{g:Gr}{U:Qa T}(s:Sem α){Q:α->Qa T->Prop}(H:g.status=.running)(h:Qr P s Q U)
  (f:∀w x w' es,s.runT P w #[]=(.ok x w',es)->(∃U',Q x U')->∃g' b,stepG P m g w=.go g' w' b/\(∀e∈b,e∈es)/\(∀U',Q x U'->J S Stop m g' U')):J S Stop m g U:=by
 refine .priv ⟨H,λ w ok=>?_⟩;obtain⟨x,w',es,U',G,B,K,E,F,M⟩:=Qr.sound s (es₀:=#[]) h ok;obtain⟨g',b,I,z,L⟩:=f w x w' es (by simpa using G) ⟨U',F⟩;grind
def fr(b:Frame)(a:Act)(todo:List Item):Frame:={ b with tmps:=a.tmps,todo:=todo,defers:=a.defers,mode:=.run }
def R(b:Frame)(a:Act)(todo:List Item)(cs:List Frame):Gr:={ frame:=fr b a todo,callers:=cs,status:=.running,dying:=none }
def Rf(f:Frame)(cs:List Frame):Gr:={ frame:=f,callers:=cs,status:=.running,dying:=none }
def Vs(b:Frame)(a:Act)(todo:List Item):(fr b a todo).eval=a.eval:=by funext x;cases x <;> rfl
section moves
variable{b:Frame}{a:Act}{k:List Item}{cs:List Frame}{w:World}
def jq:stepG P m (R b a (.code .skip::k) cs) w=.go (R b a k cs) w:=by simp[R,stepG,stepG.exec,fr]
def RJ{l:Nat}:stepG P m (R b a (.code (.label l)::k) cs) w=.go (R b a k cs) w:=by simp[R,stepG,stepG.exec,fr]
def MQ{id:Nat}:stepG P m (R b a (.inBlock id::k) cs) w=.go (R b a k cs) w:=by simp[R,stepG,stepG.exec,fr]
def AQ{c:Code}:stepG P m (R b a (.inScope c::k) cs) w=.go (R b a k cs) w:=by simp[R,stepG,stepG.exec,fr]
def ML{x y:Code}:stepG P m (R b a (.code (.seq x y)::k) cs) w=.go (R b a (.code x::.code y::k) cs) w:=by simp[R,stepG,stepG.exec,fr]
def Ck{c:Operand}{x y:Code}{t:Bool}(h:a.eval c=.bool t) :
  stepG P m (R b a (.code (.cond c x y)::k) cs) w=.go (R b a (.code (if t then x else y)::k) cs) w:=by
 have e:(fr b a (.code (.cond c x y)::k)).eval c=.bool t:=by rw[Vs];exact h
 simp only[fr]at e;simp[R,stepG,stepG.exec,fr,e]
def BN{id:Nat}{c:Code}:stepG P m (R b a (.code (.block id c)::k) cs) w=.go (R b a (.code c::.inBlock id::k) cs) w:=by simp[R,stepG,stepG.exec,fr]
def vT{c:Code}:stepG P m (R b a (.code (.loop c)::k) cs) w=.go (R b a (.code c::.inLoop c::k) cs) w:=by simp[R,stepG,stepG.exec,fr]
def oz{c:Code}:stepG P m (R b a (.inLoop c::k) cs) w=.go (R b a (.code c::.inLoop c::k) cs) w:=by simp[R,stepG,stepG.exec,fr]
def ye{c:Code}:stepG P m (R b a (.code (.scope c)::k) cs) w=.go (R b a (.code c::.inScope c::k) cs) w:=by simp[R,stepG,stepG.exec,fr]
def wD{id:Nat}{k':List Item}(h:exitTo id k=some k'):stepG P m (R b a (.code (.exit id)::k) cs) w=.go (R b a k' cs) w:=by simp[R,stepG,stepG.exec,fr,h]
def wZ{id:Nat}{ops:Array Oper}:stepG P m (R b a (.code (.region id ops false)::k) cs) w=.go (R b a (.inRegion ops (range ops.size)::k) cs) w:=by simp[R,stepG,stepG.exec,fr]
def oT{ops:Array Oper}:stepG P m (R b a (.inRegion ops []::k) cs) w=.go (R b a k cs) w:=by simp[R,stepG,stepG.exec,fr]
def kU{ops:Array Oper}{i:Nat}{rest:List Nat}{o:Oper}(f:ops[i]?=some o)(h:Region.wanted o (yielded ops a.tmps)=false) :
  stepG P m (R b a (.inRegion ops (i::rest)::k) cs) w=.go (R b (a.put o.dst undef) (.inRegion ops rest::k) cs) w:=by
 cases e:o.dst <;> simp[R,stepG,stepG.exec,fr,f,h,Frame.finish,Act.put,e]
def gB{ops:Array Oper}{i:Nat}{rest:List Nat}{o:Oper}(h:ops[i]?=some o)(z:Region.wanted o (yielded ops a.tmps)=true)
  (e:b.roundOf=none\/∀c,o.op≠.defer c) :
  stepG P m (R b a (.inRegion ops (i::rest)::k) cs) w=stepG.apply P true (fr b a (.inRegion ops (i::rest)::k)) cs none (execOp a.eval o) w:=by
 have f:=Vs b a (.inRegion ops (i::rest)::k);simp only[fr]at f;rcases e with e|e
 .rw[e]at f;simp[R,stepG,stepG.exec,stepG.oper,Frame.oper?,fr,h,z,e];rw[f]
 .simp only[R,stepG,stepG.exec,stepG.oper,Frame.oper?,fr,h,Option.map_some,z,Option.getD_some,if_true,f];simp_all
def GD{ops:Array Oper}{i:Nat}{rest:List Nat}{o:Oper}(e:ops[i]?=some o)(v:Value) :
  (fr b a (.inRegion ops (i::rest)::k)).finish v=fr b (a.put o.dst v) (.inRegion ops rest::k):=by
 grind[Frame.finish,fr,Act.put]
end moves
inductive Ex where
 |normal
 |exit (id:Nat)
 |ret
def Xz(S:Sys P T)(Stop:QJ T)(m:Bool)(b:Frame)(cs:List Frame)(e:Option Code)(a:Act)(U:Qa T):Prop:=
 match b.roundOf with
 |none=>(e=none\/e=some .ret)/\∀todo,J S Stop m (Rf { fr b a todo with mode:=.returning } cs) U
 |some l=>∃c rest,cs=c::rest/\Qr P (Instr.endRound l e) (λ v U'=>J S Stop m (Rf (c.finish v) rest) U') U
def Xu(S:Sys P T)(Stop:QJ T)(m:Bool)(b:Frame)(k:List Item)(cs:List Frame):Ex->Act->Qa T->Prop
 |.normal,a,U=>J S Stop m (R b a k cs) U
 |.exit id,a,U=>(∃k',exitTo id k=some k'/\J S Stop m (R b a k' cs) U)\/(exitTo id k=none/\Xz S Stop m b cs (some (.exit id)) a U)
 |.ret,a,U=>Xz S Stop m b cs (some .ret) a U
def Fr(fn:FuncId)(ro:Option Nat)(b:Frame):Prop:=b.fn=fn/\b.roundOf=ro/\b.kind≠.early/\(ro.isSome->b.kind=.normal)
def Zw(S:Sys P T)(fn:FuncId)(ro:Option Nat)(c:Code)(Q:Ex->Act->Qa T->Prop)(a:Act)(U:Qa T):Prop:=
 ∀(Stop:QJ T)(m:Bool)(b:Frame)(k:List Item)(cs:List Frame),Fr fn ro b->(∀e a' U',Q e a' U'->Xu S Stop m b k cs e a' U')->J S Stop m (R b a (.code c::k) cs) U
def QX(S:Sys P T)(fn:FuncId)(ro:Option Nat)(ops:Array Oper)(todo:List Nat)(Q:Ex->Act->Qa T->Prop)(a:Act)(U:Qa T):Prop:=
 ∀(Stop:QJ T)(m:Bool)(b:Frame)(k:List Item)(cs:List Frame),Fr fn ro b->(∀e a' U',Q e a' U'->Xu S Stop m b k cs e a' U')->J S Stop m (R b a (.inRegion ops todo::k) cs) U
def Qb(S:Sys P T)(f:FuncId)(args:Array Value)(Q:Value->Qa T->Prop)(U:Qa T):Prop:=
 ∀(Stop:QJ T)(m:Bool)(c:Frame)(cs:List Frame),(∀v U',Q v U'->J S Stop m (Rf (c.finish v) cs) U')->J S Stop m (Rf (Frame.enter P f args .normal) (c::cs)) U
def WI(S:Sys P T)(l:Nat)(f:FuncId)(tmps:Array Value)(assign body:Code)(Q:Value->Qa T->Prop)(U:Qa T):Prop:=
 ∀(Stop:QJ T)(m:Bool)(c:Frame)(cs:List Frame),(∀v U',Q v U'->J S Stop m (Rf (c.finish v) cs) U')->J S Stop m (Rf (Frame.round l f tmps assign body .normal) (c::cs)) U
def Xu.push{b:Frame}{x:Item}{k:List Item}{cs:List Frame}{e:Ex}{a:Act}{U:Qa T}(w:∀id k,exitTo id (x::k)=exitTo id k)(f:e≠.normal)
  (h:Xu S Stop m b k cs e a U):Xu S Stop m b (x::k) cs e a U:=by
 cases e with
 |normal=>simp_all
 |exit id=>grind[Xu]
 |ret=>exact h
section rules
variable{fn:FuncId}{ro:Option Nat}{Q:Ex->Act->Qa T->Prop}{a:Act}{U:Qa T}
theorem Zw.mono{c:Code}{f:Ex->Act->Qa T->Prop}(h:Zw S fn ro c Q a U)(B:∀e a U,Q e a U->f e a U):Zw S fn ro c f a U:=
 λ Stop m b k cs w z=>h Stop m b k cs w λ e a' U' q=>z e a' U' (B e a' U' q)
theorem Qb.mono{f:FuncId}{args:Array Value}{R R':Value->Qa T->Prop}(h:Qb S f args R U)(b:∀v U,R v U->R' v U):Qb S f args R' U:=
 λ Stop m c cs k=>h Stop m c cs λ v U' r=>k v U' (b v U' r)
theorem WI.mono{l:Nat}{f:FuncId}{tmps:Array Value}{as b:Code}{R R':Value->Qa T->Prop}(h:WI S l f tmps as b R U)(e:∀v U,R v U->R' v U):WI S l f tmps as b R' U:=
 λ Stop m c cs k=>h Stop m c cs λ v U' r=>k v U' (e v U' r)
theorem J.shift{g:Gr}{U U':Qa T}(f:Qw U U')(h:J S Stop m g U'):J S Stop m g U:=by
 obtain⟨b,e,h⟩:=h.unfold;exact .fold ⟨b,f.trans e,h⟩
def j_{c:Code}{U':Qa T}(w:Qw U U')(h:Zw S fn ro c Q a U'):Zw S fn ro c Q a U:=λ Stop m b k cs e f=>.shift w (h Stop m b k cs e f)
theorem Ge{ops:Array Oper}{todo:List Nat}{U':Qa T}(w:Qw U U')(h:QX S fn ro ops todo Q a U'):QX S fn ro ops todo Q a U:=λ Stop m b k cs e f=>.shift w (h Stop m b k cs e f)
theorem Qb.shift{f:FuncId}{args:Array Value}{R:Value->Qa T->Prop}{U':Qa T}(b:Qw U U')(h:Qb S f args R U'):Qb S f args R U:=λ Stop m c cs k=>.shift b (h Stop m c cs k)
theorem WI.shift{l:Nat}{f:FuncId}{tmps:Array Value}{as b:Code}{R:Value->Qa T->Prop}{U':Qa T}(e:Qw U U')(h:WI S l f tmps as b R U'):WI S l f tmps as b R U:=λ Stop m c cs k=>.shift e (h Stop m c cs k)
def Qb.post{f:FuncId}{args:Array Value}{R R':Value->Qa T->Prop}(h:Qb S f args R U)(b:∀v U,R v U->∃U',Qw U U'/\R' v U'):Qb S f args R' U:=
 λ Stop m c cs k=>h Stop m c cs λ v U' r=>let ⟨_,hs,r'⟩:=b v U' r;.shift hs (k v _ r')
def AG(h:Q .normal a U):Zw S fn ro .skip Q a U:=λ _ _ _ _ _ _ b=>.still rfl (λ _=>jq) (b _ _ _ h)
def CZ{l:Nat}(h:Q .normal a U):Zw S fn ro (.label l) Q a U:=λ _ _ _ _ _ _ b=>.still rfl (λ _=>RJ) (b _ _ _ h)
def gH{x y:Code}(h:Zw S fn ro x (λ e a' U'=>match e with|.normal=>Zw S fn ro y Q a' U'|e=>Q e a' U') a U):Zw S fn ro (.seq x y) Q a U:=by
 intro Stop m b k cs w f;refine .still rfl (λ _=>ML) (h Stop m b (.code y::k) cs w λ e a' U' q=>?_);cases e with
 |normal=>exact q Stop m b k cs w f
 |exit id=>exact(f _ _ _ q).push (λ _ _=>rfl) S1
 |ret=>exact(f _ _ _ q).push (x:=.code y) (λ _ _=>rfl) S1
def Mx{c:Operand}{x y:Code}(t:Bool)(f:a.eval c=.bool t)(h:Zw S fn ro (if t then x else y) Q a U):Zw S fn ro (.cond c x y) Q a U:=
 λ Stop m b k cs e w=>.still rfl (λ _=>Ck f) (h Stop m b k cs e w)
def Ah{id:Nat}{c:Code}(h:Zw S fn ro c (λ e a' U'=>match e with|.normal=>Q .normal a' U'|.exit f=>if f=id then Q .normal a' U' else Q (.exit f) a' U'|.ret=>Q .ret a' U') a U) :
  Zw S fn ro (.block id c) Q a U:=by
 intro Stop m b k cs E z;refine .still rfl (λ _=>BN) (h Stop m b (.inBlock id::k) cs E λ e a' U' q=>?_);cases e with
 |normal=>exact .still rfl (λ _=>MQ) (z _ _ _ q)
 |exit f=>
  by_cases w:f=id
  .simp only[w,if_true]at q;exact .inl ⟨k,by simp[exitTo,w],z _ _ _ q⟩
  .simp only[w,if_false]at q;have B:(id==f)=false:=by simp;exact λ h=>w h.symm
   simpa only[Xu,exitTo,B,Bool.false_eq_true,if_false]using z _ _ _ q
 |ret=>exact z _ _ _ q
def NO{c:Code}(h:Zw S fn ro c Q a U):Zw S fn ro (.scope c) Q a U:=by
 intro Stop m b k cs w f;refine .still rfl (λ _=>ye) (h Stop m b (.inScope c::k) cs w λ e a' U' q=>?_);cases e with
 |normal=>exact .still rfl (λ _=>AQ) (f _ _ _ q)
 |exit id=>exact(f _ _ _ q).push (λ _ _=>rfl) S1
 |ret=>exact(f _ _ _ q).push (x:=.inScope c) (λ _ _=>rfl) S1
def Ld{id:Nat}(h:Q (.exit id) a U):Zw S fn ro (.exit id) Q a U:=by
 intro Stop m b k cs B F;rcases F _ _ _ h with⟨k',f,H⟩|⟨f,E⟩
 .exact .still rfl (λ _=>wD f) H
 .cases hro:b.roundOf with
  |none=>grind[Xz]
  |some l=>
   simp only[Xz,hro]at E;obtain⟨c,rest,rfl,K⟩:=E;have z:b.kind=.normal:=B.2.2.2 (by rw[<- B.2.1,hro];rfl);refine .sem _ rfl K λ w x w' es e _=>⟨Rf (c.finish x) rest,seen P b.fn es,?_,Jq P _ es,λ _ h=>h⟩;obtain⟨I,G⟩:Sem.run P (Instr.endRound l (some (.exit id))) w=.ok x w'/\Sem.events P (Instr.endRound l (some (.exit id))) w #[]=es:=by simpa using e
   simp[R,stepG,stepG.exec,fr,hro,f,I,G,doReturn,z,GStep.after,Rf]
def EI(h:Q .ret a U):Zw S fn ro .ret Q a U:=by
 intro Stop m b k cs E F;have z:=F _ _ _ h;cases e:b.roundOf with
 |none=>
  simp only[Xu,Xz,e]at z;refine .still rfl (λ w=>?_) (z.2 (.code .ret::k));simp[R,Rf,stepG,stepG.exec,fr,e]
 |some l=>
  simp only[Xu,Xz,e]at z;obtain⟨c,rest,rfl,I⟩:=z;have B:b.kind=.normal:=E.2.2.2 (by rw[<- E.2.1,e];rfl);refine .sem _ rfl I λ w x w' es f _=>⟨Rf (c.finish x) rest,seen P b.fn es,?_,Jq P _ es,λ _ h=>h⟩;obtain⟨H,G⟩:Sem.run P (Instr.endRound l (some .ret)) w=.ok x w'/\Sem.events P (Instr.endRound l (some .ret)) w #[]=es:=by simpa using f
  simp[R,stepG,stepG.exec,fr,e,H,G,doReturn,B,GStep.after,Rf]
def M7{id:Nat}{ops:Array Oper}(h:QX S fn ro ops (range ops.size) Q a U):Zw S fn ro (.region id ops false) Q a U:=
 λ Stop m b k cs e f=>.still rfl (λ _=>wZ) (h Stop m b k cs e f)
def FP{ops:Array Oper}(h:Q .normal a U):QX S fn ro ops [] Q a U:=λ _ _ _ _ _ _ b=>.still rfl (λ _=>oT) (b _ _ _ h)
def KS(S:Sys P T)(ro:Option Nat)(o:Oper)(a:Act)(K:Act->Qa T->Prop):Next->Qa T->Prop
 |.value v,U=>K (a.put o.dst v) U
 |.skip,U=>K (a.put o.dst undef) U
 |.defer d,U=>ro=none/\K ({ a with defers:=d::a.defers }.put o.dst undef) U
 |.enter f args,U=>Qb S f args (λ v U'=>K (a.put o.dst v) U') U
 |.round l f tmps assign body,U=>WI S l f tmps assign body (λ v U'=>K (a.put o.dst v) U') U
 |_,_=>False
def Gc(S:Sys P T)(ro:Option Nat)(o:Oper)(a:Act)(K:Act->Qa T->Prop)(U:Qa T):Prop:=Qr P (execOp a.eval o) (KS S ro o a K) U
theorem H0{ops:Array Oper}{i:Nat}{rest:List Nat}{o:Oper}(E:ops[i]?=some o)(M:Region.wanted o (yielded ops a.tmps)=true)(K:ro=none\/∀c,o.op≠.defer c)
  (h:Gc S ro o a (QX S fn ro ops rest Q) U):QX S fn ro ops (i::rest) Q a U:=by
 intro Stop m b k cs z F;have B:(b.kind==CallKind.early)=false:=by simpa using z.2.2.1
 have H:b.roundOf=none\/∀c,o.op≠.defer c:=by rw[z.2.1];exact K
 refine .sem _ rfl h λ w x w' es e I=>?_;rw[gB E M H];have N:(execOp a.eval o).run P w=.ok x w':=by have:=Sem.runT_fst P (execOp a.eval o) w #[];rw[e]at this;exact this.symm
 cases x with
 |value v=>
  refine⟨R b (a.put o.dst v) (.inRegion ops rest::k) cs,seen P b.fn es,?_,Jq P _ es,λ U' q=>q Stop m b k cs z F⟩;have:=GD (b:=b) (a:=a) (k:=k) (rest:=rest) E v;simp only[stepG.apply,if_true,e];simp[fr,B,GStep.after,R]at this ⊢;exact this
 |skip=>
  refine⟨R b (a.put o.dst undef) (.inRegion ops rest::k) cs,seen P b.fn es,?_,Jq P _ es,λ U' q=>q Stop m b k cs z F⟩;have:=GD (b:=b) (a:=a) (k:=k) (rest:=rest) E undef;simp only[stepG.apply,if_true,e];simp[fr,B,GStep.after,R]at this ⊢;exact this
 |defer d=>
  refine⟨R b ({ a with defers:=d::a.defers }.put o.dst undef) (.inRegion ops rest::k) cs,seen P b.fn es,?_,Jq P _ es,λ U' q=>q.2 Stop m b k cs z F⟩;have:=GD (b:=b) (a:={ a with defers:=d::a.defers }) (k:=k) (rest:=rest) E undef;simp only[stepG.apply,if_true,e];simp[fr,B,GStep.after,R]at this ⊢;exact this
 |enter f args=>
  refine⟨Rf (Frame.enter P f args .normal) (fr b a (.inRegion ops (i::rest)::k)::cs),seen P b.fn es,?_,Jq P _ es,λ U' q=>?_⟩
  .simp_all[stepG.apply,if_true,fr,GStep.after,Rf]
  .refine q Stop m _ cs λ v G q'=>?_;have:=q' Stop m b k cs z F;rw[GD E];exact this
 |round l f tmps assign body=>
  refine⟨Rf (Frame.round l f tmps assign body .normal) (fr b a (.inRegion ops (i::rest)::k)::cs),seen P b.fn es,?_,Jq P _ es,λ U' q=>?_⟩
  .simp_all[stepG.apply,if_true,fr,GStep.after,Rf]
  .refine q Stop m _ cs λ v G q'=>?_;have:=q' Stop m b k cs z F;rw[GD E];exact this
 |_=>obtain⟨_,L⟩:=I;exact L.elim
def PE{ops:Array Oper}{i:Nat}{rest:List Nat}{o:Oper}(w:ops[i]?=some o)(z:Region.wanted o (yielded ops a.tmps)=false)
  (h:QX S fn ro ops rest Q (a.put o.dst undef) U):QX S fn ro ops (i::rest) Q a U:=
 λ Stop m b k cs e f=>.still rfl (λ _=>kU w z) (h Stop m b k cs e f)
theorem QX.mono{ops:Array Oper}{todo:List Nat}{f:Ex->Act->Qa T->Prop}(h:QX S fn ro ops todo Q a U)(B:∀e a U,Q e a U->f e a U):QX S fn ro ops todo f a U:=
 λ Stop m b k cs w z=>h Stop m b k cs w λ e a' U' q=>z e a' U' (B e a' U' q)
end rules
def JI(I:Nat->Option Obj)(b:Nat)(o:Obj):Nat->Option Obj:=λ x=>if x=b then some o else I x
def Sg{M M':List Qx}(h:∀r,r∈M'->r∈M){l:Loc}:(∃r∈M',r.lets l)->∃r∈M,r.lets l:=λ⟨r,e,b⟩=>⟨r,h r e,b⟩
def Dn{U:Qa T}{M':List Qx}(h:∃M₀,Perm U.M (M'++M₀)):Qw U { U with M:=M' }:=by
 obtain⟨M₀,z⟩:=h;have b:∀r,r∈M'->r∈U.M:=λ r e=>z.mem_iff.2 (mem_append_left _ e);refine⟨rfl,λ w ok=>⟨⟨ok.imm,λ r e=>ok.held r (b r e),?_,λ r e=>ok.sep r (b r e)⟩,λ l f=>?_,λ l f=>?_⟩⟩
 .have:=(z.pairwise_iff (λ{x y}h=>Qx.apart_symm h)).1 ok.apart;grind
 .rw[Q6]at f ⊢;exact Sg b f
 .rw[Qy]at f ⊢;grind
def We{U:Qa T}{b:Nat}{o:Obj}{M':List Qx}(h:Perm U.M (.obj b o::M')):Qw U { U with I:=JI U.I b o,M:=M' }:=by
 have z:∀r,r∈M'->r∈U.M:=λ r G=>h.mem_iff.2 (mem_cons_of_mem _ G);have L:Qx.obj b o∈U.M:=h.mem_iff.2 (mem_cons_self ..);refine⟨rfl,λ w ok=>?_⟩;have F:=(h.pairwise_iff (λ{x y}h=>Qx.apart_symm h)).1 ok.apart;rw[pairwise_cons]at F;refine⟨⟨?_,λ r G=>ok.held r (z r G),F.2,?_⟩,λ l B=>?_,λ l B=>?_⟩
 .intro x P E;simp only[JI]at E;split at E
  .rename_i e;cases E;subst e;exact ok.held _ L
  .exact ok.imm x P E
 .intro r G
  have N:r.blk≠b:=by
   have:=F.1 r G;cases r <;> simp_all[Qx.apart,Qx.blk] <;> exact λ e=>this e.symm
  simp only[JI,if_neg N];exact ok.sep r (z r G)
 .rw[Q6]at B ⊢;exact Sg z B
 .rw[Qy]at B ⊢;rcases B with B|B
  .exact .inl (Sg z B)
  .cases l with
   |cell a=>
    obtain⟨c,t,f,K,H⟩:=B;simp only[JI]at K;split at K
    .rename_i e;cases K;exact .inl ⟨_,L,e,H⟩
    .exact .inr ⟨c,t,f,K,H⟩
   |obj x=>
    obtain⟨P,E⟩:=B;simp only[JI]at E;split at E
    .rename_i e;cases E;exact .inl ⟨_,L,by cases o <;> simp[Qx.lets,e]⟩
    .exact .inr ⟨P,E⟩
   |output=>exact B.elim
   |goroutines=>exact B.elim
   |mark _=>exact B.elim
end Go.TM
namespace Go.TM
variable{T:Type}{P:Program}{S:Sys P T}{fn:FuncId}{ro:Option Nat}
structure Qa.le(U U':Qa T):Prop where
 imm:∀b o,U.I b=some o->U'.I b=some o
 own:U'.M=U.M
 tok:U'.tok=U.tok
theorem Qa.le.refl(U:Qa T):U.le U:=⟨λ _ _ h=>h,rfl,rfl⟩
def Qa.le.trans{a b c:Qa T}(h:a.le b)(k:b.le c):a.le c:=⟨λ x o e=>k.imm x o (h.imm x o e),k.own.trans h.own,k.tok.trans h.tok⟩
def qy{m:Bool}{b:Frame}{a:Act}{k:List Item}{cs:List Frame}{w:World}{id:Nat}{ops:Array Oper} :
  stepG P m (R b a (.code (.region id ops true)::k) cs) w =
   .go (R b a (.inRegion ops (Region.schedule (P.follows .mixedOrders) ops (w.tape w.drawn (.order b.fn id)))::k) cs) { w with drawn:=w.drawn+1 }:=by
 simp[R,stepG,stepG.exec,fr,choose,Sem.run,Question.forced,Question.cut]
def M5{Q:Ex->Act->Qa T->Prop}{a:Act}{U:Qa T}{id:Nat}{ops:Array Oper}(h:∀t,QX S fn ro ops (Region.schedule (P.follows .mixedOrders) ops t) Q a U) :
  Zw S fn ro (.region id ops true) Q a U:=by
 intro Stop m b k cs e f;refine .priv ⟨rfl,λ w ok=>⟨_,_,#[],U,qy,S1,S_ U w _,FQ ok _,rfl,h _ Stop m b k cs e f⟩⟩
def ZN(S:Sys P T)(K:Value->Qa T->Prop):Next->Qa T->Prop
 |.value v,U=>K v U
 |.skip,U=>K undef U
 |.enter f args,U=>Qb S f args K U
 |.round l f tmps assign body,U=>WI S l f tmps assign body K U
 |_,_=>False
def QN(S:Sys P T)(o:Oper)(a:Act)(K:Value->Qa T->Prop)(U:Qa T):Prop:=Qr P (execOp a.eval o) (ZN S K) U
theorem QN.mono{o:Oper}{a:Act}{K f:Value->Qa T->Prop}{U:Qa T}(h:QN S o a K U)(e:∀v U,K v U->f v U):QN S o a f U:=
 Qr.mono _ h λ n U b=>by
  cases n <;> first|exact e _ _ b|exact Qb.mono b e|exact WI.mono b e|exact b
def QN.opV{o:Oper}{a:Act}{K:Act->Qa T->Prop}{U:Qa T}(h:QN S o a (λ v U=>K (a.put o.dst v) U) U):Gc S ro o a K U:=
 Qr.mono _ h λ n U b=>by cases n <;> first|exact b|exact b.elim
def XM(F:Qa T->Prop):Prop:=∀U U',F U->U.le U'->F U'
inductive ZY(S:Sys P T)(ops:Array Oper)(rl:List Nat)(B:Nat->Nat->Prop)(late:Nat->Bool)(G:Qa T->Prop)(U:Qa T)(QA:Act->Qa T->Prop):List Nat->(Qa T->Prop)->Act->Prop
 |nil {C a}:(∀U',U.le U'->C U'->QA a U')->ZY S ops rl B late G U QA [] C a
 |un {i rest C a o}:i∉rl->ops[i]?=some o->Region.wanted o (yielded ops a.tmps)=false->ZY S ops rl B late G U QA rest C (a.put o.dst undef)->ZY S ops rl B late G U QA (i::rest) C a
 |det {i rest C a o} (v:Value):i∉rl->ops[i]?=some o->Region.wanted o (yielded ops a.tmps)=true ->
   (∀U',U.le U'->C U'->QN S o a (λ v' U2=>v'=v/\∃U1,Qw U2 U1/\U'.le U1) U') ->
   (late i=true->∀U',G U'->QN S o a (λ v' U2=>v'=v/\∃U1,Qw U2 U1/\U'.le U1) U') ->
   ZY S ops rl B late G U QA rest C (a.put o.dst v)->ZY S ops rl B late G U QA (i::rest) C a
 |rel {i rest C a o} (F:Value->Qa T->Prop):i∈rl->(∀v,XM (F v))->ops[i]?=some o->Region.wanted o (yielded ops a.tmps)=true ->
   (∀U',U.le U'->C U'->QN S o a (λ v' U2=>∃U1,Qw U2 U1/\F v' U1/\U'.le U1) U') ->
   (∀v,(∃U',U.le U'/\C U'/\F v U')->ZY S ops rl B late G U QA rest (λ U'=>C U'/\F v U') (a.put o.dst v))->ZY S ops rl B late G U QA (i::rest) C a
 |last {i C a o}:i∈rl->XM G->(∀j,late j=false->B j i)->ops[i]?=some o->Region.wanted o (yielded ops a.tmps)=true ->
   (∀U',U.le U'->C U'->QN S o a (λ v' U2=>v'=undef/\∃U1,Qw U2 U1/\G U1) U')->((∃U',U.le U'/\C U')->∀U',G U'->QA (a.put o.dst undef) U')->ZY S ops rl B late G U QA [i] C a
def Wx(ops:Array Oper)(i:Nat):List Nat:=((ops[i]?).map λ o=>(o.after.toList.filter (Region.binds .any)).map (·.on)).getD []
inductive JF(ops:Array Oper):Nat->Nat->Prop
 |edge {i j}:j∈Wx ops i->JF ops j i
 |trans {i j k}:JF ops k j->j∈Wx ops i->JF ops k i
def W_(ops:Array Oper):Nat->List Nat
 |0=>[]
 |n+1=>let acc:=W_ ops n;acc++[(Wx ops n).foldl (λ s j=>s||| 2^j||| acc.getD j 0) 0]
def KI(ops:Array Oper):∀n,(W_ ops n).length=n
 |0=>rfl
 |n+1=>by simp[W_,KI ops n]
def Ej(acc:List Nat)(j:Nat):∀(l:List Nat)(s:Nat),(l.foldl (λ s j=>s||| 2^j||| acc.getD j 0) s).testBit j=true->s.testBit j=true\/∃k∈l,k=j\/(acc.getD k 0).testBit j=true
 |[],s,h=>.inl h
 |k::l,s,h=>by
  simp only[foldl_cons]at h;rcases Ej acc j l _ h with h|⟨x,b,h⟩
  .simp only[Nat.testBit_or,Bool.or_eq_true]at h;rcases h with(h|h)|h
   .exact .inl h
   .refine .inr ⟨k,mem_cons_self ..,.inl ?_⟩;rw[Nat.testBit_two_pow]at h;exact of_decide_eq_true h
   .exact .inr ⟨k,mem_cons_self ..,.inr h⟩
  grind
theorem Wr(ops:Array Oper):∀n i j,((W_ ops n).getD i 0).testBit j=true->JF ops j i:=by
 intro n
 induction n with
 |zero=>grind[W_]
 |succ n f=>
  intro i j h;simp only[W_]at h;by_cases w:i<n
  .rw[getD_eq_getElem?_getD,getElem?_append_left (by rw[KI];exact w),<- getD_eq_getElem?_getD]at h;exact f i j h
  .rw[getD_eq_getElem?_getD,getElem?_append_right (by rw[KI];omega),KI,<- getD_eq_getElem?_getD]at h;by_cases e:i=n
   .subst e;simp only[Nat.sub_self,getD_cons_zero]at h;rcases Ej _ j _ 0 h with h|⟨k,b,rfl|h⟩
    .simp at h
    .exact .edge b
    .exact .trans (f k j h) b
   grind
def WG(ops:Array Oper)(i:Nat):Option Tmp:=(ops[i]?).bind (·.dst)
def looks(ops:Array Oper)(i:Nat):List Tmp:=((ops[i]?).map (Oper.looksAt ops)).getD []
def PB(ops:Array Oper)(rl qs ts:List Nat):Bool:=
 let n:=ops.size
 let b:=W_ ops n
 let bf (j i:Nat):Bool:=(b.getD i 0).testBit j
 let all:=qs++ts
 (range n).all (λ i=>all.contains i)&&(decide all.Nodup&&all.all (λ i=>decide (i<n))) &&
 (ops.toList.all λ o=>!(o.op matches .select ..)) &&
 (range n).all (λ i=>(range n).all λ j=>i==j|| (match WG ops i with|some d=>WG ops j != some d|none=>true)) &&
 qs.all (λ i=>(range n).all λ j=>i==j|| (match WG ops j with|some d=>!(looks ops i).contains d|| bf j i|| bf i j|none=>true)) &&
 (range all.length).all (λ p=>(Wx ops (all.getD p 0)).all λ j=>(all.take p).contains j) &&
 (range qs.length).all (λ p=>!rl.contains (qs.getD p 0)|| ((all.drop (p+1)).all λ j=>bf (qs.getD p 0) j)) &&
 (range ts.length).all (λ p=>(qs++ts.take p).all λ j=>bf j (ts.getD p 0))
structure Jx(ops:Array Oper)(rl qs ts:List Nat):Prop where
 mem:∀i,i<ops.size↔i∈qs++ts
 nodup:(qs++ts).Nodup
 nosel:∀(i:Nat)o,ops[i]?=some o->∀cs b,o.op≠.select cs b
 once:∀i j d,WG ops i=some d->WG ops j=some d->i=j
 look:∀i,i∈qs->∀j d,i≠j->WG ops j=some d->d∈looks ops i->JF ops j i\/JF ops i j
 order:∀p i,(qs++ts)[p]?=some i->∀j∈Wx ops i,j∈(qs++ts).take p
 behind:∀p i,qs[p]?=some i->i∈rl->∀j∈(qs++ts).drop (p+1),JF ops i j
 tail:∀p i,ts[p]?=some i->∀j∈qs++ts.take p,JF ops j i
def Tp{ops:Array Oper}{i:Nat}{d:Tmp}(h:WG ops i=some d):i<ops.size:=by
 grind[WG]
def FY{ops:Array Oper}{rl qs ts:List Nat}(h:PB ops rl qs ts=true):Jx ops rl qs ts:=by
 simp only[PB,Bool.and_eq_true]at h;obtain⟨⟨⟨⟨⟨⟨⟨G,F⟩,H⟩,I⟩,K⟩,L⟩,M⟩,N⟩:=h
 have z:∀i,i<ops.size->i∈qs++ts:=λ i w=>by
  have:=all_eq_true.1 G i (mem_range.2 w);simpa using this
 obtain⟨E,B⟩:(qs++ts).Nodup/\∀i∈qs++ts,i<ops.size:=by
  exact⟨of_decide_eq_true F.1,λ i w=>of_decide_eq_true (all_eq_true.1 F.2 i w)⟩
 refine⟨λ i=>⟨z i,B i⟩,E,?_,?_,?_,?_,?_,?_⟩
 .intro i o ho cs b e;have:=all_eq_true.1 H o (Array.mem_toList_iff.2 (Array.mem_of_getElem? ho));simp[e]at this
 .intro i j d w hj;have:=all_eq_true.1 (all_eq_true.1 I i (mem_range.2 (Tp w))) j (mem_range.2 (Tp hj));simp only[w,hj,Bool.or_eq_true,beq_iff_eq]at this;rcases this with h|h
  .exact h
  .simp at h
 .intro i w j d hne hj hd;have:=all_eq_true.1 (all_eq_true.1 K i w) j (mem_range.2 (Tp hj));simp only[hj,Bool.or_eq_true,beq_iff_eq]at this;rcases this with h|(h|h)|h
  .exact absurd h hne
  .simp[hd]at h
  .exact .inl (Wr _ _ _ _ h)
  .exact .inr (Wr _ _ _ _ h)
 .intro p i hp j hj;have f:=(List.getElem?_eq_some_iff.1 hp).1;have:=all_eq_true.1 L p (mem_range.2 f);rw[getD_eq_getElem?_getD,hp,Option.getD_some]at this;simpa using all_eq_true.1 this j hj
 .intro p i hp hr j hj;have f:=(List.getElem?_eq_some_iff.1 hp).1;have:=all_eq_true.1 M p (mem_range.2 f);rw[getD_eq_getElem?_getD,hp,Option.getD_some]at this;simp only[Bool.or_eq_true]at this;rcases this with h|h
  .simp[hr]at h
  .exact Wr _ _ _ _ (all_eq_true.1 h j hj)
 .intro p i hp j hj;have f:=(List.getElem?_eq_some_iff.1 hp).1;have:=all_eq_true.1 N p (mem_range.2 f);have e:ts.getD p 0=i:=by rw[getD_eq_getElem?_getD,hp];rfl
  rw[e]at this;exact Wr _ _ _ _ (all_eq_true.1 this j hj)
def J6{ops:Array Oper}{listed:Array Bool}{i:Nat}:i∈Region.ready .any ops listed↔i<ops.size/\listed.getD i true=false/\∀j∈Wx ops i,listed.getD j false=true:=by
 simp only[Region.ready,mem_filter,mem_range,Bool.and_eq_true,Bool.not_eq_true'];constructor
 .rintro⟨hi,h1,h2⟩;refine⟨hi,h1,λ j w=>?_⟩;obtain⟨o,b⟩:∃o,ops[i]?=some o:=⟨ops[i],by simp[hi]⟩;simp only[b,Option.map_some,Option.getD_some]at h2;simp only[Wx,b,Option.map_some,Option.getD_some,mem_map,mem_filter,Array.mem_toList_iff]at w;obtain⟨e,⟨h,f⟩,rfl⟩:=w;have:=(Array.all_eq_true'.1 h2) e h;simpa[f]using this
 .rintro⟨hi,h1,h2⟩;refine⟨hi,h1,?_⟩;obtain⟨o,b⟩:∃o,ops[i]?=some o:=⟨ops[i],by simp[hi]⟩;simp only[b,Option.map_some,Option.getD_some];rw[Array.all_eq_true'];intro e h;by_cases f:Region.binds .any e=true
  .have:=h2 e.on (by simp only[Wx,b,Option.map_some,Option.getD_some,mem_map,mem_filter,Array.mem_toList_iff];exact⟨e,⟨h,f⟩,rfl⟩);rw[this];simp
  .simp[f]
structure Jm(ops:Array Oper)(val:Nat->Value)(D:Nat->Prop)(a_0 a:Act):Prop where
 defers:a.defers=a_0.defers
 size:a.tmps.size=a_0.tmps.size
 wr:∀(s:Nat)(j:Nat),WG ops j=some s->D j->s<a_0.tmps.size->a.tmps[s]?=some (val j)
 not:∀s:Nat,(∀j,WG ops j=some s->¬D j)->a.tmps[s]?=a_0.tmps[s]?
theorem Jm.put{ops:Array Oper}{rl qs ts:List Nat}(E:Jx ops rl qs ts){val:Nat->Value}{D:Nat->Prop}{a_0 a:Act}(h:Jm ops val D a_0 a){i:Nat}{o:Oper}(F:ops[i]?=some o) :
  Jm ops val (λ j=>D j\/j=i) a_0 (a.put o.dst (val i)):=by
 have B:WG ops i=o.dst:=by simp[WG,F]
 cases w:o.dst with
 |none=>
  rw[w]at B;refine⟨h.defers,h.size,λ s j z b f=>?_,λ s f=>h.not s λ j z b=>f j z (.inl b)⟩;rcases b with b|rfl
  .exact h.wr s j z b f
  simp_all
 |some d=>
  rw[w]at B;refine⟨h.defers,by simp[Act.put,h.size],λ s j z b f=>?_,λ s f=>?_⟩
  .by_cases e:d=s
   .subst e;obtain rfl:=E.once _ _ _ z B;simp only[Act.put];rw[Array.getElem?_setIfInBounds_self_of_lt (by rw[h.size];exact f)]
   .rcases b with b|rfl
    .simp only[Act.put];rw[Array.getElem?_setIfInBounds_ne e];exact h.wr s j z b f
    simp_all
  .have e:d≠s:=λ e=>f i (e▸B) (.inr rfl);simp only[Act.put];rw[Array.getElem?_setIfInBounds_ne e];exact h.not s λ j z b=>f j z (.inl b)
def Jm.val{ops:Array Oper}{val b:Nat->Value}{D:Nat->Prop}{a_0 a:Act}(h:Jm ops val D a_0 a)(z:∀j,D j->b j=val j):Jm ops b D a_0 a:=
 ⟨h.defers,h.size,λ s j f e w=>by rw[z j e];exact h.wr s j f e w,h.not⟩
def Jm.slot{ops:Array Oper}{val:Nat->Value}{D B:Nat->Prop}{a_0 a a':Act}(h:Jm ops val D a_0 a)(w:Jm ops val B a_0 a'){s:Nat}(E:∀j,WG ops j=some s->(D j↔B j)):a.tmps[s]?=a'.tmps[s]?:=by
 by_cases z:∃j,WG ops j=some s/\D j
 .obtain⟨j,b,e⟩:=z;by_cases f:s<a_0.tmps.size
  .rw[h.wr s j b e f,w.wr s j b ((E j b).1 e) f]
  .rw[Array.getElem?_eq_none (by rw[h.size];omega),Array.getElem?_eq_none (by rw[w.size];omega)]
 .rw[h.not s λ j b e=>z ⟨j,b,e⟩,w.not s λ j b e=>z ⟨j,b,(E j b).2 e⟩]
def Px{ops:Array Oper}{a a':Act}{i:Nat}{o:Oper}(E:ops[i]?=some o)(e:∀cs b,o.op≠.select cs b)(h:∀s∈looks ops i,a.tmps[s]?=a'.tmps[s]?) :
  execOp a.eval o=execOp a'.eval o/\Region.wanted o (yielded ops a.tmps)=Region.wanted o (yielded ops a'.tmps):=by
 have B:looks ops i=Oper.looksAt ops o:=by simp[looks,E]
 rw[B]at h;constructor
 .refine execOp_congr o e λ x F=>?_;cases x with
  |tmp t=>
   have:=h t (by simp only[Oper.looksAt,mem_append,mem_filterMap,Array.mem_toList_iff];exact .inl ⟨.tmp t,F,rfl⟩);simp_all[Act.eval,Array.getD_eq_getD_getElem?]
  |_=>rfl
 .unfold Region.wanted;cases w:o.guard with
  |none=>rfl
  |some p=>
   obtain⟨j,f⟩:=p;simp only[]
   have:yielded ops a.tmps j=yielded ops a'.tmps j:=by
    unfold yielded;cases z:(ops[j]?).bind (·.dst)with
    |none=>rfl
    |some t=>
     have:=h t (by simp only[Oper.looksAt,w,mem_append];exact .inr (by simp[z]));simp only[Option.bind_some,this]
   rw[this]
section sound
variable{ops:Array Oper}{rl qs ts:List Nat}
def Li(listed:Array Bool)(i:Nat):Prop:=listed.getD i false=true
def VD{listed:Array Bool}{i j:Nat}(h:i<listed.size):Li (listed.setIfInBounds i true) j↔Li listed j\/j=i:=by
 simp only[Li,Array.getD_eq_getD_getElem?,Array.getElem?_setIfInBounds];grind
def I0(w:Jx ops rl qs ts){i j:Nat}(h:JF ops j i):∀p,(qs++ts)[p]?=some i->j∈(qs++ts).take p:=by
 induction h with
 |edge e=>exact λ p f=>w.order p _ f _ e
 |trans _ e z=>
  intro p f;have:=w.order p _ f _ e;obtain⟨p',b⟩:=mem_iff_getElem?.1 this;rw[getElem?_take]at b;split at b
  .have h2:=z p' b;have:(qs++ts).take p' ⊆ (qs++ts).take p:=take_subset_take_left _ O1;exact this h2
  .cases b
theorem US{listed:Array Bool}(down:∀i,Li listed i->∀j∈Wx ops i,Li listed j){i j:Nat}(h:JF ops j i):Li listed i->Li listed j:=by
 induction h with
 |edge b=>grind
 |trans _ b e=>grind
def Wd{listed:Array Bool}(down:∀i,Li listed i->∀j∈Wx ops i,Li listed j){i j:Nat}(h:JF ops j i)(e:∀j∈Wx ops i,Li listed j):Li listed j:=by
 cases h with
 |edge b=>exact e _ b
 |trans h b=>grind[US]
def HQ(e:Jx ops rl qs ts){p p' i:Nat}(h:(qs++ts)[p]?=some i)(b:(qs++ts)[p']?=some i):p=p':=by
 have f:=(List.getElem?_eq_some_iff.1 h).1;have w:=(List.getElem?_eq_some_iff.1 b).1;exact(getElem?_inj f e.nodup).1 (h.trans b.symm)
structure ZE(S:Sys P T)(ops:Array Oper)(rl qs:List Nat)(late:Nat->Bool)(G:Qa T->Prop)(U₀:Qa T)(a_0:Act)(QA:Act->Qa T->Prop)(listed:Array Bool)(ac:Act)(U:Qa T)
  (pre L:List Nat) (C:Qa T->Prop) (av:Act) (val:Nat->Value):Prop where
 split:qs=pre++L
 der:ZY S ops rl (JF ops) late G U₀ QA L C av
 mono:XM C
 base:U₀.le U
 c:C U
 av:Jm ops val (·∈pre) a_0 av
 ac:Jm ops val (Li listed) a_0 ac
 sub:∀i,Li listed i->i∈pre
 size:listed.size=ops.size
 down:∀i,Li listed i->∀j∈Wx ops i,Li listed j
 rels:∀i∈pre,i∈rl->Li listed i
 pend:∀i∈pre,¬Li listed i->∃o ai p,qs[p]?=some i/\ops[i]?=some o/\Jm ops val (·∈qs.take p) a_0 ai /\
  ((Region.wanted o (yielded ops ai.tmps)=false/\val i=undef) \/
   (Region.wanted o (yielded ops ai.tmps)=true/\(∀U',U.le U'->QN S o ai (λ v' U2=>v'=val i/\∃U1,Qw U2 U1/\U'.le U1) U')/\(late i=true->∀U',G U'->QN S o ai (λ v' U2=>v'=val i/\∃U1,Qw U2 U1/\U'.le U1) U')))
variable{late:Nat->Bool}{G:Qa T->Prop}{U₀:Qa T}{a_0:Act}{QA:Act->Qa T->Prop}{listed:Array Bool}{ac av:Act}{U:Qa T}{pre L:List Nat}{C:Qa T->Prop}{val:Nat->Value}
def ZV(val:Nat->Value)(i:Nat)(v:Value):Nat->Value:=λ j=>if j=i then v else val j
theorem Hr{val:Nat->Value}{i j:Nat}{v:Value}(h:j≠i):ZV val i v j=val j:=by simp[ZV,h]
def HO(val:Nat->Value)(i:Nat)(v:Value):ZV val i v i=v:=by simp[ZV]
def PV(b:Jx ops rl qs ts){x:Nat}{rest:List Nat}(h:qs=pre++x::rest):x∉pre:=by
 intro e;have:=(nodup_append.1 b.nodup).1;grind
def W9{x:Nat}{rest:List Nat}(h:qs=pre++x::rest):qs.take pre.length=pre/\qs[pre.length]?=some x:=by
 simp_all
def WY{p i:Nat}(b:qs[p]?=some i):(qs++ts)[p]?=some i:=by
 grind
def ZE.note(H:Jx ops rl qs ts){x:Nat}{rest:List Nat}(h:ZE S ops rl qs late G U₀ a_0 QA listed ac U pre (x::rest) C av val)(v:Value) :
  Jm ops (ZV val x v) (·∈pre) a_0 av/\Jm ops (ZV val x v) (Li listed) a_0 ac /\
  (∀i∈pre,¬Li listed i->∃o f p,qs[p]?=some i/\ops[i]?=some o/\Jm ops (ZV val x v) (·∈qs.take p) a_0 f /\
   ((Region.wanted o (yielded ops f.tmps)=false/\ZV val x v i=undef) \/
    (Region.wanted o (yielded ops f.tmps)=true/\(∀U',U.le U'->QN S o f (λ M E=>M=ZV val x v i/\∃w,Qw E w/\U'.le w) U')/\(late i=true->∀U',G U'->QN S o f (λ M E=>M=ZV val x v i/\∃w,Qw E w/\U'.le w) U')))):=by
 have L:=PV H h.split;refine⟨h.av.val λ j z=>Hr (λ e=>L (e▸z)),h.ac.val λ j z=>Hr (λ e=>L (e▸h.sub j z)),λ i I Q=>?_⟩;obtain⟨o,f,p,N,V,F,Y⟩:=h.pend i I Q;have T:i≠x:=λ e=>L (e▸I);refine⟨o,f,p,N,V,F.val λ j z=>Hr λ e=>?_,by grind[Hr]⟩;subst e;obtain⟨p',b⟩:=mem_iff_getElem?.1 z;rw[getElem?_take]at b;split at b
 .rename_i hlt;have W:=HQ H (WY (ts:=ts) b) (WY (W9 h.split).2);obtain⟨P,B⟩:=mem_iff_getElem?.1 I;have K:P<pre.length:=(List.getElem?_eq_some_iff.1 B).1;have X:=HQ H (WY (ts:=ts) N) (WY (ts:=ts) (p:=P) (i:=i) (by rw[h.split,getElem?_append_left K];exact B));omega
 .cases b
def ZE.adv(F:Jx ops rl qs ts){x:Nat}{rest:List Nat}(h:ZE S ops rl qs late G U₀ a_0 QA listed ac U pre (x::rest) C av val){v:Value}{o:Oper}(H:ops[x]?=some o)(M:x∉rl)
  (K:ZY S ops rl (JF ops) late G U₀ QA rest C (av.put o.dst v))
  (f:(Region.wanted o (yielded ops av.tmps)=false/\v=undef)\/(Region.wanted o (yielded ops av.tmps)=true/\(∀U',U₀.le U'->C U'->QN S o av (λ E B=>E=v/\∃e,Qw B e/\U'.le e) U')/\(late x=true->∀U',G U'->QN S o av (λ E B=>E=v/\∃e,Qw B e/\U'.le e) U'))) :
  ZE S ops rl qs late G U₀ a_0 QA listed ac U (pre++[x]) rest C (av.put o.dst v) (ZV val x v):=by
 obtain⟨I,P,Q⟩:=h.note F v;have z:=Jm.put F I H;rw[HO]at z;refine⟨by rw[h.split];simp,K,h.mono,h.base,h.c,?_,P,λ i b=>mem_append_left _ (h.sub i b),h.size,h.down,?_,?_⟩
 .simp_all
 .intro i b hr;rcases mem_append.1 b with b|b
  .exact h.rels i b hr
  simp_all
 .intro i b hl;rcases mem_append.1 b with b|b
  .exact Q i b hl
  .simp at b;subst b;refine⟨o,av,pre.length,(W9 h.split).2,H,by rw[(W9 h.split).1];exact I,?_⟩;rw[HO];rcases f with f|⟨N,f,L⟩
   .exact .inl f
   .exact .inr ⟨N,λ U' w=>f U' (h.base.trans w) (h.mono _ _ h.c w),L⟩
def P0(B:Jx ops rl qs ts)(down:∀i,Li listed i->∀j∈Wx ops i,Li listed j){p i:Nat}(E:qs[p]?=some i)(G:¬Li listed i)(K:∀j∈Wx ops i,Li listed j)
  {s j:Nat} (L:s∈looks ops i) (H:WG ops j=some s):Li listed j↔j∈qs.take p:=by
 have w:=WY (ts:=ts) E;have I:=(List.getElem?_eq_some_iff.1 E).1;by_cases e:i=j
 .subst e;refine⟨λ h=>absurd h G,λ h=>?_⟩;obtain⟨p',b⟩:=mem_iff_getElem?.1 h;rw[getElem?_take]at b;split at b
  .have:=HQ B (WY (ts:=ts) b) w;omega
  .cases b
 .rcases B.look i (mem_of_getElem? E) j s e H L with z|z
  .have h1:=Wd down z K;have F:=I0 B z p w;grind
  .refine⟨λ h=>absurd (US down z h) G,λ h=>?_⟩;obtain⟨p',b⟩:=mem_iff_getElem?.1 h;rw[getElem?_take]at b;split at b
   .have F:=I0 B z p' (WY (ts:=ts) b);obtain⟨M,f⟩:=mem_iff_getElem?.1 F;rw[getElem?_take]at f;split at f
    .have:=HQ B f w;omega
    .cases f
   .cases b
def ZE.reach(z:Jx ops rl qs ts){i:Nat}(f:i∈qs)(Y:∀j∈Wx ops i,Li listed j) :
  ∀(L pre:List Nat)(C:Qa T->Prop)(av:Act)(val:Nat->Value),ZE S ops rl qs late G U₀ a_0 QA listed ac U pre L C av val ->
   ∃b P V B w,ZE S ops rl qs late G U₀ a_0 QA listed ac U b P V B w/\(i∈b\/∃rest,P=i::rest/\i∈rl):=by
 intro L
 induction L with
 |nil=>
  intro pre C av val h;exact⟨pre,[],C,av,val,h,.inl (by have:=h.split;simp_all)⟩
 |cons x rest Q=>
  intro pre C av val h;by_cases N:x∈rl
  .by_cases e:x=i
   .grind
   .by_cases hpre:i∈pre
    .grind
    .exfalso
     have H:i∈rest:=by
      rw[h.split]at f;simp at f;rcases f with f|f|f
      .simp_all
      .simp_all
      .exact f
     have W:JF ops x i:=by
      refine z.behind pre.length x (W9 h.split).2 N i ?_;rw[h.split];simp[H]
     exact PV z h.split (h.sub x (Wd h.down W Y))
  .have hder:=h.der;cases hder with
   |un _ I M E=>exact Q _ _ _ _ (h.adv z I N E (.inl ⟨M,rfl⟩))
   |det v _ I M K X E=>exact Q _ _ _ _ (h.adv z I N E (.inr ⟨M,K,X⟩))
   |rel F H=>simp_all
   |last H=>simp_all
theorem P6{o:Oper}{a:Act}{K:Value->Qa T->Prop}{b:Act->Qa T->Prop}(h:QN S o a K U)(e:∀v U,K v U->b (a.put o.dst v) U):Gc S ro o a b U:=
 QN.opV (h.mono e)
theorem PW{o:Oper}{a:Act}{K:Value->Qa T->Prop}(h:QN S o a K U):∀c,o.op≠.defer c:=by
 intro c e;unfold QN at h;simp only[execOp,e]at h;have z:=(So (P:=P) (resolve a.eval c o.type) (λ d=>(pure (.defer d):Sem Next))).1 h;have b:Qr P (resolve a.eval c o.type) (λ _ _=>False) U:=Qr.mono _ z λ d U B=>B;obtain⟨callee,args,w⟩:=c;cases callee with
 |value f=>cases E:a.eval f <;> simp[resolve,Deferred.ofValue,E,Qr,pure,stuck]at b
 |invoke r F=>simp[resolve,Qr,pure]at b
 |builtin bb=>simp[resolve,Qr,pure]at b
def Kt{k t:Nat}{listed:Array Bool}(h:Region.ready .any ops listed≠[]):∃i∈Region.ready .any ops listed,∃e,Region.linearise.go .any ops (k+1) t listed []=i::Region.linearise.go .any ops k e (listed.setIfInBounds i true) []:=by
 have b:t % (Region.ready .any ops listed).length<(Region.ready .any ops listed).length:=Nat.mod_lt _ (length_pos_iff.2 h);refine⟨(Region.ready .any ops listed)[t % (Region.ready .any ops listed).length],getElem_mem _,t / (Region.ready .any ops listed).length,?_⟩;grind[Region.ready,getElem?_eq_getElem,Region.linearise.go,linearise_go_acc,reverse_singleton,singleton_append]
def Yt(b:Jx ops rl qs ts){listed:Array Bool}(F:listed.size=ops.size):∀(p i:Nat),(qs++ts)[p]?=some i->¬Li listed i->∃x,x∈Region.ready .any ops listed:=by
 intro p
 induction p using Nat.strongRecOn with
 |ind p H=>
  intro i f G;by_cases h:∀j∈Wx ops i,Li listed j
  .refine⟨i,J6.2 ⟨(b.mem i).2 (mem_of_getElem? f),?_,h⟩⟩;have B:i<listed.size:=by rw[F];exact(b.mem i).2 (mem_of_getElem? f)
   simp_all[Li,Array.getD_eq_getD_getElem?,Array.getElem?_eq_getElem,Option.getD_some,Bool.not_eq_true]
  .obtain⟨j,e,w⟩:∃j∈Wx ops i,¬Li listed j:=by
    apply Classical.byContradiction;intro z;exact h λ j e=>Classical.byContradiction λ w=>z ⟨j,e,w⟩
   obtain⟨p',E⟩:=mem_iff_getElem?.1 (b.order p i f j e);grind
def VU{listed:Array Bool}{i:Nat}(h:i∈Region.ready .any ops listed):¬Li listed i:=by
 have:=(J6.1 h).2.1;grind[Li,Array.getD_eq_getD_getElem?]
def MV(f:Jx ops rl qs ts){listed:Array Bool}{p:Nat}(w:∀i,Li listed i↔i∈(qs++ts).take p):∀i,Li listed i->∀j∈Wx ops i,Li listed j:=by
 intro i e j h;rw[w]at e ⊢;obtain⟨z,b⟩:=mem_iff_getElem?.1 e;rw[getElem?_take]at b;split at b
 .have:=f.order z i b j h;exact take_subset_take_left _ O1 this
 .cases b
def Df(w:Jx ops rl qs ts):∀(q:Nat)(p t:Nat)(listed:Array Bool),p+q=ts.length->listed.size=ops.size->(∀i,Li listed i↔i∈(qs++ts).take (qs.length+p)) ->
  Region.linearise.go .any ops q t listed []=ts.drop p:=by
 intro q
 induction q with
 |zero=>grind[Region.linearise.go,drop_of_length_le]
 |succ q U=>
  intro p t listed W M G;have z:p<ts.length:=O1
  have S:ts[p]?=some ts[p]:=getElem?_eq_getElem z;have f:(qs++ts)[qs.length+p]?=some ts[p]:=by rw[getElem?_append_right O1];simp
  have B:¬Li listed ts[p]:=by
   rw[G];intro h;obtain⟨E,b⟩:=mem_iff_getElem?.1 h;rw[getElem?_take]at b;split at b
   .have:=HQ w b f;omega
   .cases b
  obtain⟨y,T⟩:=Yt w M _ _ f B;obtain⟨i,F,V,H⟩:=Kt (k:=q) (t:=t) (ne_nil_of_mem T);have e:=MV w G
  have I:i=ts[p]:=by
   have K:=VU F;have Q:=(J6.1 F).2.2;have P:=(w.mem i).1 (J6.1 F).1;obtain⟨E,b⟩:=mem_iff_getElem?.1 P;by_cases N:E<qs.length+p
   .exfalso;apply K;rw[G];exact mem_iff_getElem?.2 ⟨E,by rw[getElem?_take,if_pos N];exact b⟩
   .by_cases h2:E=qs.length+p
    .subst h2;rw[f]at b;cases b;rfl
    .exfalso;have L:ts[E-qs.length]?=some i:=by rw[getElem?_append_right O1]at b;exact b
     refine B (Wd e (w.tail _ i L ts[p] ?_) Q);refine mem_append_right _ (mem_iff_getElem?.2 ⟨p,?_⟩);rw[getElem?_take,if_pos O1];exact S
  subst I;rw[H,U (p+1) V _ O1 (by simpa using M),drop_eq_getElem_cons z];intro j;rw[VD (by rw[M];exact(J6.1 F).1),G]
  grind[Nat.add_assoc,take_add_one]
def Jm.eq{val:Nat->Value}{D b:Nat->Prop}{a_0 a a':Act}(h:Jm ops val D a_0 a)(e:Jm ops val b a_0 a')(E:∀j,D j↔b j):a=a':=by
 obtain⟨F,f⟩:=a;obtain⟨G,w⟩:=a';have z:f=w:=h.defers.trans e.defers.symm
 have B:F=G:=by
  apply Array.ext_getElem?;intro s;exact h.slot e (s:=s) λ j _=>E j
 rw[z,B]
def BR(V:Jx ops rl qs ts){Q:Ex->Act->Qa T->Prop}:∀(r t:Nat)(listed:Array Bool)(ac:Act)(U:Qa T)(pre L:List Nat)(C:Qa T->Prop)(av:Act)(val:Nat->Value),
  ZE S ops rl qs late G U₀ a_0 (λ a U=>QX S fn ro ops ts Q a U) listed ac U pre L C av val->(qs.filter λ i=>!listed.getD i false).length=r ->
  QX S fn ro ops (Region.linearise.go .any ops (r+ts.length) t listed []) Q ac U:=by
 intro r
 induction r generalizing U₀ with
 |zero=>
  intro t listed ac U pre L C av val h hr
  have ae:∀i∈qs,Li listed i:=by
   intro i hi;have:=filter_eq_nil_iff.1 (length_eq_zero_iff.1 hr) i hi;simpa[Li]using this
  have hL:L=[]:=by
   cases L with
   |nil=>rfl
   |cons x rest=>exact absurd (h.sub x (ae x (by rw[h.split];simp))) (PV V h.split)
  subst hL;have X:pre=qs:=by have:=h.split;simp at this;exact this.symm
  subst X;have af:=h.der;cases af with
  |nil ag=>
   have e:av=ac:=h.av.eq h.ac λ j=>⟨ae j,h.sub j⟩;have:=ag U h.base h.c;rw[e]at this;rw[Nat.zero_add,Df V ts.length 0 t listed O1 h.size λ i=>?_]
   .simpa using this
   .rw[Nat.add_zero,take_left']
    .exact⟨h.sub i,ae i⟩
    .rfl
 |succ r ih=>
  intro t listed ac U pre L C av val h hr;obtain⟨q,hq⟩:∃q,q∈qs.filter λ i=>!listed.getD i false:=exists_mem_of_length_pos O1;have ax:=(mem_filter.1 hq).1;have aw:¬Li listed q:=by have:=(mem_filter.1 hq).2;simpa[Li]using this
  obtain⟨pq,a2⟩:=mem_iff_getElem?.1 ax;obtain⟨y,hy⟩:=Yt V h.size _ _ (WY (ts:=ts) a2) aw;obtain⟨i,hi,t',az⟩:=Kt (k:=r+ts.length) (t:=t) (ne_nil_of_mem hy);have ak:=VU hi;have H:=(J6.1 hi).2.2;have au:=(J6.1 hi).1
  have aq:i∈qs:=by
   rcases mem_append.1 ((V.mem i).1 au)with hm|hm
   .exact hm
   .obtain⟨p1,hp1⟩:=mem_iff_getElem?.1 hm;exact absurd (Wd h.down (V.tail p1 i hp1 q (mem_append_left _ ax)) H) aw
  rw[show r+1+ts.length=(r+ts.length)+1 by omega,az];have E:∀j,Li (listed.setIfInBounds i true) j↔Li listed j\/j=i:=λ j=>VD (by rw[h.size];exact au)
  have K:(qs.filter λ x=>!(listed.setIfInBounds i true).getD x false).length=r:=by
   have a1:=(nodup_append.1 V.nodup).1
   have e:(qs.filter λ x=>!(listed.setIfInBounds i true).getD x false)=(qs.filter λ x=>!listed.getD x false).filter (λ x=>x != i):=by
    rw[filter_filter];refine filter_congr λ x _=>?_;have:=E x;simp only[Li]at this;grind
   rw[e,<- Nodup.erase_eq_filter (a1.filter _),length_erase_of_mem (mem_filter.2 ⟨aq,by grind[Li]⟩),hr];rfl
  obtain⟨Z,L',C',ab,Y,f,am⟩:=h.reach V aq H
  have M:∀j,Li (listed.setIfInBounds i true) j->∀k∈Wx ops j,Li (listed.setIfInBounds i true) k:=by
   intro j w k hk;rw[E]at w ⊢;rcases w with w|rfl
   .exact .inl (h.down j w k hk)
   .exact .inl (H k hk)
  have P:∀{val:Nat->Value}{o:Oper},ops[i]?=some o->Jm ops val (Li listed) a_0 ac->Jm ops val (Li (listed.setIfInBounds i true)) a_0 (ac.put o.dst (val i)):=by
   intro val o W ha;have:=Jm.put V ha W;have e:Li (listed.setIfInBounds i true)=λ j=>Li listed j\/j=i:=by funext j;exact propext (E j)
   rw[e];exact this
  by_cases X:i∈Z
  ·
   obtain⟨o,ai,p,hp,W,ay,hh⟩:=f.pend i X ak;have B:=Px W (V.nosel i o W) (a:=ac) (a':=ai) λ s hs=>f.ac.slot ay λ j w=>P0 V f.down hp ak H hs w
   have next:∀I,U.le I->ZE S ops rl qs late G U₀ a_0 (λ a U=>QX S fn ro ops ts Q a U) (listed.setIfInBounds i true) (ac.put o.dst (Y i)) I Z L' C' ab Y:=λ I N=>
    ⟨f.split,f.der,f.mono,f.base.trans N,f.mono _ _ f.c N,f.av,P W f.ac,λ j w=>((E j).1 w).elim (f.sub j) (λ e=>e▸X),by simpa using f.size,M,λ j w hr=>(E j).2 (.inl (f.rels j w hr)),
     λ j w hl=>by
      obtain⟨o,ai,p,a,b,c,d⟩:=f.pend j w λ hx=>hl ((E j).2 (.inl hx));exact⟨o,ai,p,a,b,c,d.imp id λ⟨x,y,z⟩=>⟨x,λ U' hU=>y U' (N.trans hU),z⟩⟩⟩
   rcases hh with⟨hw,hv⟩|⟨hw,aj,hg⟩
   .refine PE W (by rw[B.2];exact hw) ?_;have:=ih t' _ _ _ _ _ _ _ _ (next U (.refl U)) K;simp_all
   .have aa:QN S o ac (λ v' U2=>v'=Y i/\∃I,Qw U2 I/\U.le I) U:=by have:=aj U (.refl U);unfold QN at this ⊢;rw[B.1];exact this
    grind[H0,PW,P6,Ge]
  .obtain⟨rest,rfl,hrl⟩:=am.resolve_left X;have af:=f.der;cases af with
   |un hx _ _ _=>simp_all
   |det _ hx _ _ _ _ _=>simp_all
   |@rel _ _ _ _ o F _ hF W hw aj hd=>
    obtain⟨a3,ah⟩:=W9 f.split
    have B:=Px W (V.nosel i o W) (a:=ac) (a':=ab) λ s hs=>f.ac.slot f.av λ j w=>by
     have:=P0 V f.down ah ak H hs w;simp_all
    have aa:QN S o ac (λ v' U2=>∃I,Qw U2 I/\F v' I/\U.le I) U:=by have:=aj U f.base f.c;unfold QN at this ⊢;rw[B.1];exact this
    refine H0 W S2 (.inr (PW aa)) (P6 aa λ v U2 hv=>?_);obtain⟨I,hs,ao,N⟩:=hv;refine Ge hs ?_;obtain⟨n1,n2,n3⟩:=f.note V v;have al:=Jm.put V n1 W;have ad:=P W n2;rw[HO]at al ad;refine ih t' _ _ I (Z++[i]) rest (λ U'=>C' U'/\F v U') (ab.put o.dst v) (ZV Y i v) ⟨by rw[f.split];simp,hd v ⟨I,f.base.trans N,f.mono _ _ f.c N,ao⟩,λ a b⟨x,y⟩hl=>⟨f.mono a b x hl,hF v a b y hl⟩,f.base.trans N,⟨f.mono _ _ f.c N,ao⟩,?_,ad,?_,by simpa using f.size,M,?_,?_⟩ K
    .simp_all
    .intro j w;rcases(E j).1 w with w|rfl
     .exact mem_append_left _ (f.sub j w)
     .simp
    .intro j w hr;rw[E];rcases mem_append.1 w with w|w
     .exact .inl (f.rels j w hr)
     simp_all
    .intro j w hl;rcases mem_append.1 w with w|w
     .obtain⟨o,ai,p,a,b,c,d⟩:=n3 j w λ hx=>hl ((E j).2 (.inl hx));exact⟨o,ai,p,a,b,c,d.imp id λ⟨x,y,z⟩=>⟨x,λ U' hU=>y U' (N.trans hU),z⟩⟩
     simp_all
   |@last _ _ _ o _ hG an W hw aj ag=>
    obtain⟨a3,ah⟩:=W9 f.split
    have B:=Px W (V.nosel i o W) (a:=ac) (a':=ab) λ s hs=>f.ac.slot f.av λ j w=>by
     have:=P0 V f.down ah ak H hs w;simp_all
    have aa:QN S o ac (λ v' U2=>v'=undef/\∃I,Qw U2 I/\G I) U:=by have:=aj U f.base f.c;unfold QN at this ⊢;rw[B.1];exact this
    refine H0 W S2 (.inr (PW aa)) (P6 aa λ v U2 hv=>?_);obtain⟨rfl,I,hs,ap⟩:=hv;refine Ge hs ?_;obtain⟨n1,n2,n3⟩:=f.note V undef;have al:=Jm.put V n1 W;have ad:=P W n2;rw[HO]at al ad;refine ih (U₀:=I) t' _ _ I (Z++[i]) [] G (ab.put o.dst undef) (ZV Y i undef) ⟨by rw[f.split];simp,.nil λ U' _ hg=>ag ⟨U,f.base,f.c⟩ U' hg,hG,.refl I,ap,?_,ad,?_,by simpa using f.size,M,?_,?_⟩ K
    .simp_all
    .intro j w;rcases(E j).1 w with w|rfl
     .exact mem_append_left _ (f.sub j w)
     .simp
    .intro j w hr;rw[E];rcases mem_append.1 w with w|w
     .exact .inl (f.rels j w hr)
     simp_all
    .intro j w hl;rcases mem_append.1 w with w|w
     .have hnj:¬Li listed j:=λ hx=>hl ((E j).2 (.inl hx));obtain⟨o,ai,p,a,b,c,d⟩:=n3 j w hnj;refine⟨o,ai,p,a,b,c,d.imp id λ⟨x,y,z⟩=>?_⟩
      have a0:late j=true:=by
       cases hb:late j with
       |true=>rfl
       |false=>exact absurd (Wd h.down (an j hb) H) hnj
      exact⟨x,λ U' hU=>z a0 U' (hG _ _ ap hU),z⟩
     simp_all
end sound
def UL{late:Nat->Bool}{G:Qa T->Prop}{Q:Ex->Act->Qa T->Prop}{a:Act}{U:Qa T}{id:Nat}{ops:Array Oper}(rl qs ts:List Nat)(E:P.follows .mixedOrders=true)(f:PB ops rl qs ts=true)
  (h:ZY S ops rl (JF ops) late G U (λ a U=>QX S fn ro ops ts Q a U) qs (λ _=>True) a):Zw S fn ro (.region id ops true) Q a U:=by
 have e:=FY f;refine M5 λ t=>?_;simp only[Region.schedule,E,Bool.true_or,if_true,Region.linearise]
 have B:(qs.filter λ i=>!(Array.replicate ops.size false).getD i false).length=qs.length:=by
  congr 1;rw[filter_eq_self];intro x _;simp[Array.getElem?_replicate];split <;> rfl
 have w:ops.size=qs.length+ts.length:=by
  have z:(qs++ts).Perm (range ops.size):=by
   refine(perm_ext_iff_of_nodup e.nodup nodup_range).2 λ x=>?_;rw[mem_range];exact(e.mem x).symm
  have:=z.length_eq;simp at this;omega
 have b:∀i,¬Li (Array.replicate ops.size false) i:=by
  intro i h;simp only[Li,Array.getD_eq_getD_getElem?,Array.getElem?_replicate]at h;split at h <;> simp at h
 have:=BR (S:=S) (fn:=fn) (ro:=ro) (Q:=Q) e qs.length t (Array.replicate ops.size false) a U [] qs (λ _=>True) a (λ _=>undef)
  ⟨rfl,h,λ _ _ _ _=>trivial,.refl U,trivial,⟨rfl,rfl,λ _ _ _ h=>by simp at h,λ _ _=>rfl⟩,⟨rfl,rfl,λ _ j _ h=>absurd h (b j),λ _ _=>rfl⟩,λ i h=>absurd h (b i),S1,λ i h=>absurd h (b i),S1,S1⟩ B
 simp_all
end Go.TM
namespace Go.TM
variable{T:Type}{P:Program}{S:Sys P T}{fn:FuncId}{ro:Option Nat}{Stop:QJ T}{m:Bool}
def J.body{b:Frame}{a:Act}{c:Code}{cs:List Frame}{U:Qa T}{Q:Ex->Act->Qa T->Prop}(z:Fr fn none b)(h:Zw S fn none c Q a U)
  (F:∀e a' U',Q e a' U'->(e=.normal\/e=.ret)/\∀todo,J S Stop m (Rf { fr b a' todo with mode:=.returning } cs) U'):J S Stop m (R b a [.code c] cs) U:=by
 refine h Stop m b [] cs z λ e a' U' q=>?_;obtain⟨B,E⟩:=F e a' U' q;have f:=z.2.1;rcases B with rfl|rfl
 .refine .still (g':=Rf { fr b a' []with mode:=.returning } cs) rfl (λ w=>?_) (E []);simp[R,Rf,stepG,stepG.exec,fr,f]
 simp_all[Xu,Xz,trivial]
def X9(P:Program)(f:Func)(Q:Value->Qa T->Prop)(tmps:Array Value):List Deferred->Qa T->Prop
 |[],U=>Qr P (results f tmps) Q U
 |{ target:=.collected blk,.. }::ds,U=>Qr P (Instr.takeDeferred blk) (λ b U'=>b=[]/\X9 P f Q tmps ds U') U
 |_,_=>False
theorem X9.step{f:Func}{Q:Value->Qa T->Prop}{b:Frame}{tmps:Array Value}{c:Frame}{cs:List Frame}(I:P.funcs[b.fn]?=some f)(z:b.kind=.normal\/b.kind=.wrapped)(G:∀v U',Q v U'->J S Stop m (Rf (c.finish v) cs) U') :
  ∀(ds:List Deferred)(todo:List Item)(U:Qa T),X9 P f Q tmps ds U->J S Stop m (Rf { fr b ⟨tmps,ds⟩ todo with mode:=.returning } (c::cs)) U:=by
 intro ds
 induction ds with
 |nil=>
  intro todo U h;refine .sem _ rfl h λ w x w' es e _=>⟨Rf (c.finish x) cs,seen P b.fn es,?_,Jq P _ es,λ U' q=>G _ _ q⟩;obtain⟨E,B⟩:Sem.run P (results f tmps) w=.ok x w'/\Sem.events P (results f tmps) w #[]=es:=by simpa using e
  rcases z with z|z <;> simp_all[Rf,stepG,unwind,fr,doReturn,GStep.after]
 |cons d ds K=>
  intro todo U h;obtain⟨H,args⟩:=d;cases H with
  |collected blk=>
   simp only[X9]at h;refine .sem _ rfl h λ w x w' es e F=>⟨Rf { fr b ⟨tmps,x++ds⟩ todo with mode:=.returning } (c::cs),seen P b.fn es,?_,Jq P _ es,λ U' q=>?_⟩
   .obtain⟨E,B⟩:Sem.run P (Instr.takeDeferred blk) w=.ok x w'/\Sem.events P (Instr.takeDeferred blk) w #[]=es:=by simpa using e
    simp[Rf,stepG,unwind,fr,E,B,GStep.after]
   simp_all
  |_=>exact h.elim
def OY(P:Program)(f:Func)(Q:Value->Qa T->Prop):Ex->Act->Qa T->Prop
 |.normal,a,U=>X9 P f Q a.tmps a.defers U
 |.ret,a,U=>X9 P f Q a.tmps a.defers U
 |.exit _,_,_=>False
def Qb.of_body{f:FuncId}{fd:Func}{c:Code}{args:Array Value}{U:Qa T}{Q:Value->Qa T->Prop}(B:P.funcs[f]?=some fd)(F:fd.body=some c)
  (h:Zw S f none c (OY P fd Q) { tmps:=args++Array.replicate (fd.ntmps-args.size) undef,defers:=[] } U):Qb S f args Q U:=by
 intro Stop m w cs E
 let b:Frame:={ (default:Frame)with fn:=f,kind:=.normal }
 have z:Rf (Frame.enter P f args .normal) (w::cs)=R b { tmps:=args++Array.replicate (fd.ntmps-args.size) undef,defers:=[] } [.code c] (w::cs):=by
  simp[Rf,R,Frame.enter,fr,B,F,b];rfl
 rw[z];refine J.body (fn:=f) ⟨rfl,rfl,by simp[b],S1⟩ h λ e a' U' q=>?_;cases e with
 |normal=>exact⟨.inl rfl,λ todo=>X9.step B (.inl rfl) E a'.defers todo U' q⟩
 |ret=>exact⟨.inr rfl,λ todo=>X9.step B (.inl rfl) E a'.defers todo U' q⟩
 |exit id=>exact q.elim
def SC:Ex->Option Code
 |.normal=>none
 |.ret=>some .ret
 |.exit id=>some (.exit id)
def Fi(P:Program)(l:Nat)(Q:Value->Qa T->Prop)(e:Ex)(_:Act)(U:Qa T):Prop:=Qr P (Instr.endRound l (SC e)) Q U
def WI.of_body{l:Nat}{f:FuncId}{tmps:Array Value}{assign body:Code}{U:Qa T}{Q:Value->Qa T->Prop}
  (h:Zw S f (some l) assign (λ e a' U'=>e=.normal/\Qr P (Instr.beginRound l) (λ _ F=>Zw S f (some l) body (Fi P l Q) a' F) U') ⟨tmps,[]⟩ U):WI S l f tmps assign body Q U:=by
 intro Stop m c cs V
 let b:Frame:={ (default:Frame)with fn:=f,kind:=.normal,roundOf:=some l }
 have K:Fr f (some l) b:=⟨rfl,rfl,by simp[b],by simp[b]⟩;have E:b.roundOf=some l:=rfl
 have B:Rf (Frame.round l f tmps assign body .normal) (c::cs)=R b ⟨tmps,[]⟩ [.code assign,.beginRound,.code body] (c::cs):=by
  simp[Rf,R,Frame.round,fr,b]
 rw[B];refine h Stop m b [.beginRound,.code body] (c::cs) K λ e a' U' q=>?_;obtain⟨rfl,q⟩:=q;show J S Stop m (R b a' [.beginRound,.code body] (c::cs)) U'
 have q':Qr P (do Instr.beginRound l;pure Next.skip:Sem Next) (λ n F=>n=.skip/\Zw S f (some l) body (Fi P l Q) a' F) U':=
  (So _ _).2 (Qr.mono _ q λ _ _ h=>⟨rfl,h⟩)
 refine .sem _ rfl q' λ w x w' es z H=>⟨R b a' [.code body] (c::cs),seen P f es,?_,Jq P _ es,λ F q=>?_⟩
 .obtain⟨_,rfl,_⟩:=H;have I:(b.kind==CallKind.early)=false:=rfl;show stepG.apply P true (fr b a' [.beginRound,.code body]) (c::cs) none (do (Instr.beginRound l);pure .skip) w=_;simp only[stepG.apply,if_true,z];simp[fr,I,GStep.after,R,Frame.finish,b]
 .obtain⟨_,q⟩:=q;refine q Stop m b [] (c::cs) K λ e G L q=>?_
  have leave:Xz S Stop m b (c::cs) (SC e) G L:=by
   simp only[Xz,E];exact⟨c,cs,rfl,Qr.mono _ q λ v M Y=>V v M Y⟩
  cases e with
  |normal=>
   simp only[Xz,E,SC]at leave;obtain⟨Z,rest,e,X⟩:=leave;cases e;refine .sem _ rfl X λ w x w' es z _=>⟨Rf (c.finish x) cs,seen P f es,?_,Jq P _ es,λ _ h=>h⟩;obtain⟨W,N⟩:Sem.run P (Instr.endRound l none) w=.ok x w'/\Sem.events P (Instr.endRound l none) w #[]=es:=by simpa using z
   simp[R,stepG,stepG.exec,fr,b,W,N,doReturn,GStep.after,Rf]
  |exit id=>exact .inr ⟨rfl,leave⟩
  |ret=>exact leave
def Kg(f:Operand)(l:Nat):Call:={ callee:=.value f,args:=#[.const (.func (.yield l) #[] #[])],argTypes:=#[] }
def wA{Q:Ex->Act->Qa T->Prop}{a:Act}{U:Qa T}{f:Operand}{params:Array Tmp}{assign body:Code}
  (h:Qr P (Instr.enterLoop fn a.tmps params assign body ro) (λ lm U1=>
   Qr P (do let d <- resolve a.eval (Kg f lm.1) 0;invoke d.target d.args:Sem Next) (λ nx U2=>match nx with
    |.enter f' args=>Qb S f' args (λ _ U3=>Qr P (Instr.endLoop lm.1) (λ j U4=>match j with
      |none=>Q .normal { a with defers:=lm.2++a.defers } U4
      |some c=>Zw S fn ro c Q { a with defers:=lm.2++a.defers } U4) U3) U2
    |_=>False) U1) U):Zw S fn ro (.rangeFunc f params assign body) Q a U:=by
 intro Stop m b k cs Z hc;have ae:(b.kind==CallKind.early)=false:=by simpa using Z.2.2.1
 refine .priv ⟨rfl,λ w ok=>?_⟩;obtain⟨⟨l,mark⟩,X,F,U1,K,B,I,W,h,N⟩:=Qr.sound _ (es₀:=#[]) h ok;obtain⟨nx,Y,G,U2,L,ab,E,aa,h,V⟩:=Qr.sound _ (es₀:=#[]) h W;have ac:(Instr.enterLoop b.fn a.tmps params assign body b.roundOf).runT P w #[]=(.ok (l,mark) X,F):=by rw[Z.1,Z.2.1];simpa using K
 have ad:(do let d <- resolve a.eval (Kg f l) 0;invoke d.target d.args:Sem Next).runT P X #[]=(.ok nx Y,G):=by simpa using L
 cases nx with
 |enter f' args=>
  refine⟨Rf (Frame.enter P f' args .normal) (fr b { a with defers:=mark++a.defers } (.inRangeFunc l::k)::cs),Y,seen P b.fn F++seen P b.fn G,U2,?_,?_,I.trans E,aa,V.trans N,?_⟩
  .have z:(fr b { a with defers:=mark++a.defers } (.inRangeFunc l::k)).eval=a.eval:=by rw[Vs];rfl
   show GStep.after (seen P b.fn ((Instr.enterLoop b.fn a.tmps params assign body b.roundOf).runT P w #[]).2) (match((Instr.enterLoop b.fn a.tmps params assign body b.roundOf).runT P w #[]).1 with
    |.ok (l,mark) w=>stepG.apply P true (fr b { a with defers:=mark++a.defers } (.inRangeFunc l::k)) cs none (do let d <- resolve (fr b { a with defers:=mark++a.defers } (.inRangeFunc l::k)).eval (Kg f l) 0;invoke d.target d.args) w
    |.halt _ w=>_)=_
   simp_all[stepG.apply,if_true,fr,GStep.after,Rf]
  .intro e z;rcases Array.mem_append.1 z with z|z
   .exact⟨(B e (Jq P _ _ e z)).1,(B e (Jq P _ _ e z)).2.mono E.size⟩
   grind[JT.of,Jq]
  .refine h Stop m _ cs λ v U3 h=>?_;have H:(fr b { a with defers:=mark++a.defers } (.inRangeFunc l::k)).finish v=fr b { a with defers:=mark++a.defers } (.endRangeFunc l::k):=by simp[Frame.finish,fr]
   rw[H];refine .sem (g:=R b { a with defers:=mark++a.defers } (.endRangeFunc l::k) cs) _ rfl h λ w j w' es M _=>⟨R b { a with defers:=mark++a.defers } ((j.map Item.code).toList++k) cs,seen P b.fn es,?_,Jq P _ es,λ U4 q=>?_⟩
   .obtain⟨hr,z⟩:Sem.run P (Instr.endLoop l) w=.ok j w'/\Sem.events P (Instr.endLoop l) w #[]=es:=by simpa using M
    simp[R,stepG,stepG.exec,fr,hr,z,GStep.after]
   .cases j with
    |none=>exact hc _ _ _ q
    |some c=>exact q Stop m b k cs Z hc
 |_=>exact h.elim
end Go.TM
namespace Go.TM
variable{T:Type}{P:Program}{S:Sys P T}
def WH(U:Qa T):Prop:=∀r∈U.M,U.I r.blk=none
def Qb.sep{f:FuncId}{args:Array Value}{R R':Value->Qa T->Prop}{U:Qa T}(h:Qb S f args R U)(z:∀v U',WH U'->R v U'->∃b,Qw U' b/\R' v b):Qb S f args R' U:=by
 intro Stop m c cs k;refine h Stop m c cs λ v U' r=>?_;by_cases e:WH U'
 .obtain⟨b,h1,h2⟩:=z v U' e r;exact .shift h1 (k v _ h2)
 .exact .priv ⟨rfl,λ w ok=>absurd ok.sep e⟩
def Zl(S:Sys P T)(l:Nat)(vs:List Value)(K:Value->Qa T->Prop)(U:Qa T):Prop:=Qr P (Instr.yield l vs.toArray) (ZN S K) U
abbrev Fm:=Nat->Value
def JH(f:Fm)(d:Nat)(v:Value):Fm:=λ t=>bif Nat.beq t d then v else f t
def ZD(f:Fm):Option Nat->Value->Fm
 |some d,v=>JH f d v
 |none,_=>f
def Zj(f:Fm):Operand->Value
 |.tmp t=>f t
 |.const v=>v
 |.global g=>.pointer (some ⟨g,0,none⟩)
 |.func g=>.func (.func g) #[] #[]
inductive O where
 |mv (x:Operand)
 |pick (c a b:Operand)
 |add (x y:Operand)|sub (x y:Operand)|mul (x y:Operand)
 |cmp (op:BinOp) (x y:Operand)
 |beq (op:BinOp) (x y:Operand)
 |ar (op:BinOp) (x y:Operand)
 |teq (op:BinOp) (x y:Operand)
 |not (x:Operand)
 |len (x:Operand)
 |lenT (x:Operand)
 |lenM (x:Operand)
 |conv (k:IntKind) (x:Operand)
 |off (n:Nat) (x:Operand)
 |idx (sz:Nat) (x i:Operand)
 |aidx (n sz:Nat) (x i:Operand)
 |sidx (x i:Operand)
 |ld (x:Operand)
 |ldn (n:Nat) (x:Operand)
 |st (n:Nat) (x v:Operand)
 |box (t:TypeId) (x:Operand)
 |boxM (t:TypeId) (x:Operand)
 |alloc (t:TypeId) (zero:Array Value)
 |ext (x:Operand) (i:Nat)
 |part (off n:Nat) (x:Operand)
 |part1 (off:Nat) (x:Operand)
 |mkf (fn:Fn) (first capt:Array Operand)
 |call (f:Operand) (args:Array Operand)
 |nilc (x:Operand)
 |sub3 (sz:Nat) (x:Operand) (lo hi:Option Operand)
 |build (zero:Array Value) (parts:List (Nat×Nat×Operand))
 |bsl (t:TypeId) (len:Nat) (zero:Array Value) (parts:List (Nat×Nat×Operand))
 |raw (o:Oper)
def WM(v:Value)(K:Value->Prop):Prop:=
 match v with
 |.bool b=>K (.bool b)|.int k n=>K (.int k n)|.float k n=>K (.float k n)|.complex k a b=>K (.complex k a b)|.string s=>K (.string s)
 |.pointer a=>K (.pointer a)|.slice a l c=>K (.slice a l c)|.map r=>K (.map r)|.chan r=>K (.chan r)|.func f a b=>K (.func f a b)
 |.nilFunc=>K .nilFunc|.iface t x=>K (.iface t x)|.nilIface=>K .nilIface|.agg c=>K (.agg c)|.tuple c=>K (.tuple c)
theorem Qz(v:Value)(K:Value->Prop):WM v K=K v:=by cases v <;> rfl
def Xb(l:List Value):(List Value->Prop)->Prop:=List.rec (motive:=λ _=>(List Value->Prop)->Prop) (λ K=>K []) (λ v _ b K=>WM v λ v=>b λ r=>K (v::r)) l
theorem J8:∀(l:List Value)(K:List Value->Prop),Xb l K=K l
 |[],_=>rfl
 |v::r,K=>by
  show(WM v λ v=>Xb r λ r=>K (v::r))=_;rw[Qz];exact J8 r _
def Pm(v:Value)(K:Array Value->Prop):Prop:=WM v λ v=>match v with|.agg cs=>K cs|v=>K #[v]
theorem SH(v:Value)(K:Array Value->Prop):Pm v K=K v.cells:=by unfold Pm;rw[Qz];cases v <;> rfl
def Zi(U:Qa T)(b:Nat)(c:Array Value):Prop:=∃t fr,U.I b=some (.cells c t fr)
theorem Zi.new{U:Qa T}{b:Nat}{c:Array Value}{t:TypeId}:Zi { U with I:=JI U.I b (.cells c t) } b c:=⟨t,(0,0),by simp[JI]⟩
def GF{U:Qa T}{b:Nat}{o:Obj}(h:U.free b):U.le { U with I:=JI U.I b o }:=by
 refine⟨λ x w f=>?_,rfl,rfl⟩;show JI U.I b o x=_;unfold JI;rw[if_neg]
 .exact f
 .intro e;rw[e,h.1]at f;cases f
def Zu(n:Int):Prop:=-9223372036854775808<=n/\n<9223372036854775808
theorem I1{x:Int}(h:-9223372036854775808<=x/\x<9223372036854775808:=by omega):Zu x:=h
theorem Gb{n:Int}(h:Zu n):IntKind.wrap .i64 n=n:=by
 unfold Zu at h;have b:(2:Int)^64=18446744073709551616:=D1
 have e:(2:Int)^(64-1)=9223372036854775808:=D1
 simp only[IntKind.wrap,IntKind.bits,IntKind.signed,Bool.true_and,b,e];grind
def Jn(U:Qa T)(a:Addr)(vs:List Value):Prop:=∀i v,vs[i]?=some v->U.sees (a.add i) v
def ZA(a:Addr)(l:List Value):Nat->(Qa T->Prop)->Qa T->Prop:=
 List.rec (motive:=λ _=>Nat->(Qa T->Prop)->Qa T->Prop) (λ _ K U=>K U) (λ v _ b i K U=>v.single=true/\∃M',Xy (a.add i) v U.M M'/\b (i+1) K { U with M:=M' }) l
theorem ZA.mono{a:Addr}{K b:Qa T->Prop}(e:∀U,K U->b U):∀(vs:List Value)(i:Nat)(U:Qa T),ZA a vs i K U->ZA a vs i b U
 |[],_,_,h=>e _ h
 |_::vs,i,_,⟨f,M',w,h⟩=>⟨f,M',w,ZA.mono e vs (i+1) _ h⟩
def OP(len:Nat)(lo b:Option Value):Option (Int×Int):=
 match lo,b with
 |none,none=>some (0,len)
 |some (.int _ l),none=>some (l,len)
 |none,some (.int _ h)=>some (0,h)
 |some (.int _ l),some (.int _ h)=>some (l,h)
 |_,_=>none
def JX(cells:Array Value)(off:Nat):List Value->Nat->Array Value
 |[],_=>cells
 |v::r,j=>JX (cells.setIfInBounds (off+j) v) off r (j+1)
def PT(f:Fm)(cells:Array Value):List (Nat×Nat×Operand)->Option (Array Value)
 |[]=>some cells
 |(off,size,x)::r=>
  if(Zj f x).cells.size≠size|| off+(Zj f x).cells.size > cells.size then none
  else PT f (JX cells off (Zj f x).cells.toList 0) r
theorem V_:∀(vs:List Value)(c:Array Value)(off j:Nat),(JX c off vs j).size=c.size
 |[],_,_,_=>rfl
 |v::vs,c,off,j=>by simp[JX,V_ vs]
def PK:∀(vs:List Value)(c:Array Value)(off j k:Nat),off+j+vs.length<=c.size->(JX c off vs j)[k]?=if off+j<=k/\k<off+j+vs.length then vs[k-(off+j)]? else c[k]?
 |[],c,off,j,k,_=>by simp[JX];omega
 |v::vs,c,off,j,k,h=>by
  simp only[length_cons]at h;simp only[JX];rw[PK vs _ off (j+1) k S3];grind
def RD(vs:List Value)(c:Array Value)(off:Nat)(h:off+vs.length<=c.size):(JX c off vs 0).toList=c.toList.take off++vs++c.toList.drop (off+vs.length):=by
 apply ext_getElem?;intro k;have b:=PK vs c off 0 k O1;rw[Array.getElem?_toList,b];have e:(c.toList.take off).length=off:=S3
 grind
def Tt(off:Nat)(vs cs:List Value):List Value:=cs.take off++vs++cs.drop (off+vs.length)
def Kr(f:Fm)(h:List (Nat×Nat×Operand)):List Value->(List Value->Prop)->Prop:=
 List.rec (motive:=λ _=>List Value->(List Value->Prop)->Prop) (λ cs K=>Xb cs K)
  (λ p _ e cs K=>Pm (Zj f p.2.2) λ vs=>Xb vs.toList λ vl=>
   bif (Nat.beq vl.length p.2.1&&Nat.ble (p.1+vl.length) cs.length)then Xb (Tt p.1 vl cs) (λ b=>e b K)else False) h
def HS(f:Fm):∀(z:List (Nat×Nat×Operand))(cs:List Value)(K:List Value->Prop),Kr f z cs K=(match PT f cs.toArray z with|some c=>K c.toList|none=>False)
 |[],cs,K=>by
  show Xb cs K=_;rw[J8];rfl
 |(off,size,x)::r,cs,K=>by
  show(Pm (Zj f x) λ vs=>Xb vs.toList λ vl=>bif (Nat.beq vl.length size&&Nat.ble (off+vl.length) cs.length)then Xb (Tt off vl cs) (λ b=>Kr f r b K)else False)=_;rw[SH,J8,PT];simp only[Array.length_toList,size_toArray];by_cases h:(Zj f x).cells.size=size/\off+(Zj f x).cells.size<=cs.length
  .have e1:(Nat.beq (Zj f x).cells.size size&&Nat.ble (off+(Zj f x).cells.size) cs.length)=true:=by
    rw[Bool.and_eq_true];exact⟨Nat.beq_eq.symm▸h.1,Nat.ble_eq.symm▸h.2⟩
   rw[e1,cond_true,J8,HS f r];rw[if_neg S3];have B:=RD (Zj f x).cells.toList cs.toArray off (by simpa using h.2)
   have E:(Tt off (Zj f x).cells.toList cs).toArray=JX cs.toArray off (Zj f x).cells.toList 0:=by
    apply Array.ext';rw[B];rfl
   rw[E]
  .have e1:(Nat.beq (Zj f x).cells.size size&&Nat.ble (off+(Zj f x).cells.size) cs.length)=false:=by
    rw[Bool.and_eq_false_iff];by_cases w:(Zj f x).cells.size=size
    .right;rw[Bool.eq_false_iff];intro e;exact h ⟨w,Nat.le_of_ble_eq_true e⟩
    .left;rw[Bool.eq_false_iff];intro e;exact w (Nat.eq_of_beq_eq_true e)
   grind
def OX(S:Sys P T):O->Fm->(Value->Qa T->Prop)->Qa T->Prop
 |.mv x,f,K,U=>WM (Zj f x) λ v=>K v U
 |.pick c a b,f,K,U=>match Zj f c with
  |.bool true=>WM (Zj f a) λ v=>K v U
  |.bool false=>WM (Zj f b) λ v=>K v U
  |_=>False
 |.add x y,f,K,U=>match Zj f x,Zj f y with|.int .i64 a,.int .i64 b=>Zu (a+b)/\K (.int .i64 (a+b)) U|_,_=>False
 |.sub x y,f,K,U=>match Zj f x,Zj f y with|.int .i64 a,.int .i64 b=>Zu (a-b)/\K (.int .i64 (a-b)) U|_,_=>False
 |.mul x y,f,K,U=>match Zj f x,Zj f y with|.int .i64 a,.int .i64 b=>Zu (a*b)/\K (.int .i64 (a*b)) U|_,_=>False
 |.cmp op x y,f,K,U=>match Zj f x,Zj f y with
  |.int k a,.int k' b=>k=k'/\(match op with
   |.eql=>K (.bool (a==b)) U|.neq=>K (.bool (a != b)) U|.lss=>K (.bool (decide (a<b))) U
   |.leq=>K (.bool (decide (a<=b))) U|.gtr=>K (.bool (decide (a > b))) U|.geq=>K (.bool (decide (a ≥ b))) U|_=>False)
  |_,_=>False
 |.beq op x y,f,K,U=>match Zj f x,Zj f y with
  |.bool a,.bool b=>(match op with|.eql=>K (.bool (a==b)) U|.neq=>K (.bool (!(a==b))) U|_=>False)
  |_,_=>False
 |.ar op x y,f,K,U=>match Zj f x,Zj f y with
  |.int k a,.int k' b=>(match op with
   |.add=>k=k'/\K (.int k (k.wrap (a+b))) U|.sub=>k=k'/\K (.int k (k.wrap (a-b))) U|.mul=>k=k'/\K (.int k (k.wrap (a*b))) U
   |.quo=>k=k'/\b≠0/\K (.int k (k.wrap (a.tdiv b))) U|.rem=>k=k'/\b≠0/\K (.int k (a.tmod b)) U
   |.and=>k=k'/\K (.int k (k.wrap (BitVec.ofInt k.bits a&&&BitVec.ofInt k.bits b).toNat)) U
   |.or=>k=k'/\K (.int k (k.wrap (BitVec.ofInt k.bits a||| BitVec.ofInt k.bits b).toNat)) U
   |.xor=>k=k'/\K (.int k (k.wrap (BitVec.ofInt k.bits a ^^^ BitVec.ofInt k.bits b).toNat)) U
   |.andNot=>k=k'/\K (.int k (k.wrap (BitVec.ofInt k.bits a&&&~~~ BitVec.ofInt k.bits b).toNat)) U
   |.shl=>0<=b/\K (.int k (k.wrap (a*2^(min b.toNat k.bits)))) U
   |.shr=>0<=b/\K (.int k (a.fdiv (2^(min b.toNat k.bits)))) U
   |_=>False)
  |_,_=>False
 |.teq op x y,f,K,U=>match Zj f x,Zj f y with
  |.string a,.string b=>(match op with|.eql=>K (.bool (a.toList==b.toList)) U|.neq=>K (.bool (!(a.toList==b.toList))) U|_=>False)
  |_,_=>False
 |.not x,f,K,U=>match Zj f x with|.bool b=>K (.bool (!b)) U|_=>False
 |.len x,f,K,U=>match Zj f x with|.slice _ n _=>K (.int .i64 n) U|_=>False
 |.lenT x,f,K,U=>match Zj f x with|.string s=>K (.int .i64 s.size) U|_=>False
 |.lenM x,f,K,U=>match Zj f x with
  |.map none=>K (.int .i64 0) U
  |.map (some r)=>∃es z,U.has r (.map es z)/\K (.int .i64 es.size) U
  |_=>False
 |.conv k x,f,K,U=>match Zj f x with|.int _ n=>K (.int k (k.wrap n)) U|_=>False
 |.off n x,f,K,U=>match Zj f x with|.pointer (some a)=>K (.pointer (some (a.add n))) U|_=>False
 |.idx sz x i,f,K,U=>match Zj f x,Zj f i with
  |.slice a len _,.int _ n=>∃(E:Addr)(j:Nat),(a=some E/\n=j/\j<len)/\K (.pointer (some (E.add (j*sz)))) U
  |_,_=>False
 |.aidx len sz x i,f,K,U=>match Zj f x,Zj f i with
  |.pointer (some a),.int _ n=>∃j:Nat,(n=j/\j<len)/\K (.pointer (some (a.add (j*sz)))) U
  |_,_=>False
 |.sidx x i,f,K,U=>match Zj f x,Zj f i with
  |.string s,.int _ n=>∃(j:Nat)(b:UInt8),(n=j/\s[j]?=some b)/\K (.int .u8 b.toNat) U
  |_,_=>False
 |.ld x,f,K,U=>match Zj f x with|.pointer (some a)=>∃v,U.sees a v/\WM v λ v=>K v U|_=>False
 |.ldn n x,f,K,U=>match Zj f x with|.pointer (some a)=>∃vs:List Value,(vs.length=n/\Jn U a vs)/\K (.agg vs.toArray) U|_=>False
 |.st n x v,f,K,U=>match Zj f x with|.pointer (some a)=>(Zj f v).cells.size=n/\ZA a (Zj f v).cells.toList 0 (λ U'=>∃e,Qw U' e/\K undef e) U|_=>False
 |.box _ x,f,K,U=>Pm (Zj f x) λ cs=>∀b e,U.le e->Zi e b cs->K (.pointer (some ⟨b,0,none⟩)) e
 |.boxM t x,f,K,U=>∀b,U.free b->K (.pointer (some ⟨b,0,none⟩)) (U.put b (.cells (Zj f x).cells t))
 |.alloc t zero,_,K,U=>∀b,U.free b->∃e,Qw (U.put b (.cells zero t)) e/\K (.pointer (some ⟨b,0,none⟩)) e
 |.ext x i,f,K,U=>match Zj f x with|.tuple vs=>(match vs[i]? with|some v=>WM v λ v=>K v U|none=>False)|_=>False
 |.part off n x,f,K,U=>match Zj f x with|.agg cs=>K (.agg ((cs.toList.drop off).take n).toArray) U|_=>False
 |.part1 off x,f,K,U=>match Zj f x with|.agg cs=>(match cs[off]? with|some v=>WM v λ v=>K v U|none=>False)|_=>False
 |.mkf fn first w,f,K,U=>Xb (first.toList.map (Zj f)) λ a=>Xb (w.toList.map (Zj f)) λ c=>K (.func fn a.toArray c.toArray) U
 |.call c args,f,K,U=>match Zj f c with
  |.func (.func g) first w=>(P.funcs[g]?.any λ fd=>fd.body.isSome&&fd.name != "runtime.NumGoroutine")=true/\Xb (args.toList.map (Zj f)) λ vs=>Qb S g (first.toList++vs++w.toList).toArray (λ v U'=>WH U'->K v U') U
  |.func (.yield l) first _=>Xb (args.toList.map (Zj f)) λ vs=>Zl S l (first.toList++vs) K U
  |_=>False
 |.nilc x,f,K,U=>match Zj f x with|.pointer (some a)=>K (.pointer (some a)) U|_=>False
 |.sub3 sz x lo B,f,K,U=>match Zj f x with
  |.slice a len cap=>(match OP len (lo.map (Zj f)) (B.map (Zj f))with
   |some (F,B)=>∃l h:Nat,(F=l/\B=h/\l<=h/\h<=cap)/\K (.slice (if cap=l then a else a.map (·.add (l*sz))) (h-l) (cap-l)) U
   |none=>False)
  |_=>False
 |.build zero parts,f,K,U=>Kr f parts zero.toList λ l=>K (.agg l.toArray) U
 |.bsl t len zero parts,f,K,U=>Kr f parts zero.toList λ l=>∀b,U.free b->∃e,Qw (U.put b (.cells l.toArray t)) e/\K (.slice (some ⟨b,0,none⟩) len len) e
 |.raw o,f,K,U=>∀a:Act,(∀x,a.eval x=Zj f x)->Qr P (execOp a.eval o) (ZN S λ v U'=>∃e,Qw U' e/\K v e) U
def vV{α:Type}(s:Sem α):s.bind Sem.pure=s:=by
 induction s with
 |pure a=>rfl
 |load m a k b=>simp only[Sem.bind];simp_all
 |store m a v k b=>grind[Sem.bind]
 |new o k b=>simp only[Sem.bind];simp_all
 |shape r k b=>simp only[Sem.bind];simp_all
 |freeze a n k b=>grind[Sem.bind]
 |frozen a k b=>simp only[Sem.bind];congr 1;grind
 |getObj r k b=>simp only[Sem.bind];simp_all
 |setObj r o k b=>grind[Sem.bind]
 |choose q k b=>simp only[Sem.bind];simp_all
 |sys c k b=>simp only[Sem.bind];simp_all
 |program k b=>simp only[Sem.bind];simp_all
 |mark m k b=>grind[Sem.bind]
 |halt h=>rfl
def MH{α β γ:Type}(s:Sem α)(g:α->Sem β)(h:β->Sem γ):(s.bind g).bind h=s.bind λ a=>(g a).bind h:=by
 induction s with
 |pure a=>rfl
 |load m a k b=>simp only[Sem.bind];simp_all
 |store m a v k b=>grind[Sem.bind]
 |new o k b=>simp only[Sem.bind];simp_all
 |shape r k b=>simp only[Sem.bind];simp_all
 |freeze a n k b=>grind[Sem.bind]
 |frozen a k b=>simp only[Sem.bind];grind
 |getObj r k b=>simp only[Sem.bind];simp_all
 |setObj r o k b=>grind[Sem.bind]
 |choose q k b=>simp only[Sem.bind];simp_all
 |sys c k b=>simp only[Sem.bind];simp_all
 |program k b=>simp only[Sem.bind];simp_all
 |mark m k b=>grind[Sem.bind]
 |halt h=>rfl
theorem E3:LawfulMonad Sem:=LawfulMonad.mk' Sem (id_map:=λ s=>vV s) (pure_bind:=λ _ _=>rfl) (bind_assoc:=λ s g h=>MH s g h)
def X5{α β:Type}(g:α->Sem β):List α->Array β->Sem (Array β)
 |[],acc=>pure acc
 |x::r,acc=>do let y <- g x;X5 g r (acc.push y)
def Ab{α β:Type}(g:α->Sem β):∀(l:List α)(acc:Array β),X5 g l acc=(do let r <- l.mapM g;pure (acc++r.toArray)):=by
 have:=E3;intro l
 induction l with
 |nil=>grind[X5]
 |cons x l b=>simp_all[X5,mapM_cons]
def Ta{α β:Type}(g:α->Sem β)(l:List α):Array.mapM g l.toArray=X5 g l #[]:=by
 simp_all[E3,Ab]
theorem Qd{α β:Type}(s:Sem α)(g:α->Sem β)(Q:β->Qa T->Prop)(U:Qa T):Qr P (s >>= g) Q U=Qr P s (λ a U=>Qr P (g a) Q U) U:=propext (So s g)
theorem Qk{α:Type}(a:α)(Q:α->Qa T->Prop)(U:Qa T):Qr P (pure a:Sem α) Q U=Q a U:=rfl
def Zg{t:TypeId}{d:TypeDesc}(h:P.underlying t=some d)(Q:TypeDesc->Qa T->Prop)(U:Qa T):Qr P (underlying t) Q U=Q d U:=by
 grind[underlying,program,Qd,Qr,Qk]
theorem Wi{t:TypeId}{i:TypeInfo}(h:P.info? t=some i)(Q:TypeInfo->Qa T->Prop)(U:Qa T):Qr P (typeInfo t) Q U=Q i U:=by
 grind[typeInfo,program,Qd,Qr,Qk]
theorem Jh{t:TypeId}{i:TypeInfo}(h:P.info? t=some i)(Q:Nat->Qa T->Prop)(U:Qa T):Qr P (sizeOf t) Q U=Q i.size U:=by
 grind[sizeOf,Qd,Wi,Qk]
def TypeDesc.agg:TypeDesc->Bool
 |.struct _|.array _ _=>true
 |_=>false
def Hi{t:TypeId}{d:TypeDesc}(h:P.underlying t=some d)(Q:Bool->Qa T->Prop)(U:Qa T):Qr P (isAgg t) Q U=Q (TypeDesc.agg d) U:=by
 simp only[isAgg,Qd,Zg h];cases d <;> rfl
def XN{t:TypeId}{i:TypeInfo}{v:Value}(h:P.info? t=some i)(b:i.zero=some v)(Q:Value->Qa T->Prop)(U:Qa T):Qr P (zeroValue t) Q U=Q v U:=by
 grind[zeroValue,Qd,Wi,Qk]
def OF{a:Addr}{v:Value}{Q:Value->Qa T->Prop}{U:Qa T}(h:U.sees a v)(b:Q v U):Qr P (load a) Q U:=⟨rfl,v,h,b⟩
def EC{a:Addr}{Q:Array Value->Qa T->Prop}{U:Qa T}:∀(vs:List Value)(i:Nat)(acc:Array Value),(∀j v,vs[j]?=some v->U.sees (a.add (i+j)) v)->Q (acc++vs.toArray) U ->
  Qr P (loadCellsFrom a i vs.length acc) Q U
 |[],i,acc,_,b=>by grind[loadCellsFrom,Qk]
 |v::vs,i,acc,h,b=>by
  simp only[length_cons,loadCellsFrom,Qd];refine OF (h 0 v rfl) (EC vs (i+1) (acc.push v) (λ j u f=>?_) ?_)
  .have:=h (j+1) u f
   rwa [show i+(j+1)=i+1+j by omega]at this
  .have e:acc.push v++vs.toArray=acc++(v::vs).toArray:=by apply Array.ext';simp
   rw[e];exact b
def GR{a:Addr}{Q:Unit->Qa T->Prop}:∀(vs:List Value)(i:Nat)(U:Qa T),ZA a vs i (λ U'=>Q () U') U->Qr P (storeCells a vs i) Q U
 |[],_,_,h=>h
 |v::vs,i,U,h=>by
  obtain⟨e,M',b,h⟩:=h;simp only[storeCells,Qd,store];exact⟨rfl,e,M',b,GR vs (i+1) _ h⟩
def Jk{t:TypeId}{c:Array Value}{Q:Addr->Qa T->Prop}{U:Qa T}(h:∀b,U.free b->Q ⟨b,0,none⟩ (U.put b (.cells c t))):Qr P (newRow t c) Q U:=by
 grind[newRow,newObj,Qd,Qr,Qk]
end Go.TM

