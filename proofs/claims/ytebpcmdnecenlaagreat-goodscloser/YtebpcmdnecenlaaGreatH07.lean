/- A part of the proof: lemmas that the last text uses. No conditions of its own. -/
import Derived.Test.YtebpcmdnecenlaaGreatH02
import Derived.Test.YtebpcmdnecenlaaGreatH05
set_option linter.unusedSimpArgs false
set_option linter.unusedVariables false
namespace Go.TM
variable {P:Program} {t:TypeId} {N:Nat}
theorem Res.lets_blk {r:Res} {l:Loc} (h:r.lets l):(∃a,l=.cell a/\a.block=r.blk)\/l=.obj r.blk:=by
 cases r with
 | obj b o=>
  cases l with
  | cell a=>cases o <;> simp only [Res.lets] at h;exact .inl ⟨a,rfl,h.1⟩
  | obj b'=>right;cases o <;> simp only [Res.lets] at h <;> rw [h] <;> rfl
  | _=>cases o <;> exact h.elim
 | cell b i v t n=>
  cases l with
  | cell a=>exact .inl ⟨a,rfl,h.1⟩
  | _=>exact h.elim
theorem Res.apart_lets {r s:Res} (h:r.apart s) {l:Loc} (h1:r.lets l) (h2:s.lets l):False:=by
 have key:r.blk≠s.blk->False:=λ hne=>by
  rcases Res.lets_blk h1 with⟨a,rfl,e⟩ | rfl
  ·rcases Res.lets_blk h2 with⟨a',e',e''⟩ | e'
   ·cases e';exact hne (e.symm.trans e'')
   ·cases e'
  ·rcases Res.lets_blk h2 with⟨a',e',e''⟩ | e'
   ·cases e'
   ·exact hne (by simpa using e')
 cases r with
 | obj b o=>exact key (by cases s <;> exact h)
 | cell b i v t n=>
  cases s with
  | obj b' o=>exact key h
  | cell b' j v' t' n'=>
   cases l with
   | cell a=>
    obtain⟨e1,e2⟩:=h1
    obtain⟨e3,e4⟩:=h2
    rcases h with h | h
    ·exact h (e1.symm.trans e3)
    ·exact h (e2.symm.trans e4)
   | _=>exact h1.elim
theorem fork_part {Z:View Tk} {tp tc:Tk} {w:World} (hw:Z.ok w) {M₁ M₂:List Res} (h:List.Perm Z.M (M₁++M₂)):Fork Z ⟨Z.I,M₂,tp⟩ ⟨Z.I,M₁,tc⟩:=by
 have hap:=(h.pairwise_iff (λ {x y} h=>Res.apart_symm h)).1 hw.apart
 rw [List.pairwise_append] at hap
 have h1:∀r∈M₁,r∈Z.M:=λ r hr=>h.mem_iff.2 (List.mem_append_left _ hr)
 have h2:∀r∈M₂,r∈Z.M:=λ r hr=>h.mem_iff.2 (List.mem_append_right _ hr)
 have noI:∀(r:Res) (l:Loc),r∈Z.M->r.lets l->(match l with | .cell a=>∃c t fr,Z.I a.block=some (.cells c t fr)/\a.off<c.size | .obj b=>∃o,Z.I b=some o | _=>False)->False:=by
  intro r l hr hl hI
  have hs:=hw.sep r hr
  rcases Res.lets_blk hl with⟨a,rfl,e⟩ | rfl
  ·obtain⟨c,t,fr,hc,_⟩:=hI
   rw [e,hs] at hc;cases hc
  ·obtain⟨o,ho⟩:=hI
   rw [hs] at ho;cases ho
 refine⟨λ w ok=>?_,λ l hl=>?_,λ l hl=>?_,λ l hl=>?_,λ l hl=>?_,λ l hl hr=>?_,λ l hl hr=>?_⟩
 ·have hap':=(h.pairwise_iff (λ {x y} h=>Res.apart_symm h)).1 ok.apart
  rw [List.pairwise_append] at hap'
  exact⟨⟨ok.imm,λ r hr=>ok.held r (h2 r hr),hap'.2.1,λ r hr=>ok.sep r (h2 r hr)⟩,⟨ok.imm,λ r hr=>ok.held r (h1 r hr),hap'.1,λ r hr=>ok.sep r (h1 r hr)⟩⟩
 ·rw [canW_iff] at hl ⊢;obtain⟨r,hr,hl⟩:=hl;exact⟨r,h2 r hr,hl⟩
 ·rw [canR_iff] at hl ⊢;exact hl.imp (λ⟨r,hr,hl⟩=>⟨r,h2 r hr,hl⟩) id
 ·rw [canW_iff] at hl ⊢;obtain⟨r,hr,hl⟩:=hl;exact⟨r,h1 r hr,hl⟩
 ·rw [canR_iff] at hl ⊢;exact hl.imp (λ⟨r,hr,hl⟩=>⟨r,h1 r hr,hl⟩) id
 ·obtain⟨r,hr_2,hl⟩:=canW_iff.1 hl
  rcases canR_iff.1 hr with⟨s,hs,hl'⟩ | hI
  ·exact Res.apart_lets (hap.2.2 s hs r hr_2) hl' hl
  ·exact noI r l (h2 r hr_2) hl hI
 ·obtain⟨r,hr_2,hl⟩:=canW_iff.1 hl
  rcases canR_iff.1 hr with⟨s,hs,hl'⟩ | hI
  ·exact Res.apart_lets (hap.2.2 r hr_2 s hs) hl hl'
  ·exact noI r l (h1 r hr_2) hl hI
theorem ov_con {T:Type} {S:Sys P T} {fn:FuncId} {ro:Option Nat} {ops:Array Oper} {todo:List Nat} {Q:Ex->Act->View T->Prop} {a:Act} {Z:View T} (h:(∃w,Z.ok w)->OpsV S fn ro ops todo Q a Z):OpsV S fn ro ops todo Q a Z:=by
 intro Stop m b k cs hb hc
 by_cases hw:∃w,Z.ok w
 ·exact h hw Stop m b k cs hb hc
 ·exact .priv ⟨rfl,λ w ok=>absurd ⟨w,ok⟩ hw⟩
theorem CallsV.make {f:FuncId} {args:Array Value} {Q:Value->View Tk->Prop} {Z:View Tk} {b:Nat} {M₁ M₂:List Res} (ht:Z.tok=⟨0,.out⟩) (hM:Z.M=M₁++.obj b (.cells #[stV 0 0,smV 0] t (0,0))::M₂)
  (h:CallsV (SysG P t N) f args Q { Z with M:=M₁++M₂,tok:=⟨0,.par b [] false .run⟩ }):CallsV (SysG P t N) f args Q Z:=
 λ Stop m c cs k=>.syn (Syn.make ht hM (h Stop m c cs k))
def cellsFrom (b:Nat) (e:TypeId) (n:Nat):List Value->Nat->List Res
 | [],_=>[]
 | v::vs,i=>.cell b i v e n::cellsFrom b e n vs (i+1)
theorem cellsFrom_mem {b:Nat} {e:TypeId} {n:Nat}:∀{vs:List Value} {i:Nat} {r:Res},r∈cellsFrom b e n vs i->∃(j:Nat) (v:Value),vs[j]?=some v/\r=.cell b (i+j) v e n
 | [],_,_,h=>by cases h
 | v::vs,i,r,h=>by
  rcases List.mem_cons.1 h with rfl | h
  ·exact⟨0,v,rfl,rfl⟩
  ·obtain⟨j,u,hu,rfl⟩:=cellsFrom_mem h
   exact⟨j+1,u,by simpa using hu,by rw [show i+1+j=i+(j+1) by omega]⟩
theorem cellsFrom_apart {b:Nat} {e:TypeId} {n:Nat}:∀{vs:List Value} {i:Nat},(cellsFrom b e n vs i).Pairwise Res.apart
 | [],_=>.nil
 | v::vs,i=>by
  simp only [cellsFrom,List.pairwise_cons]
  refine⟨λ r hr=>?_,cellsFrom_apart⟩
  obtain⟨j,u,_,rfl⟩:=cellsFrom_mem hr
  exact .inr (by omega)
theorem shift_split {T:Type} {Z:View T} {b:Nat} {e:TypeId} {vs:List Value} {M₀:List Res} (hM:Z.M=.obj b (.cells vs.toArray e (0,0))::M₀):Shift Z { Z with M:=cellsFrom b e vs.length vs 0++M₀ }:=by
 have hb:Res.obj b (.cells vs.toArray e (0,0))∈Z.M:=by rw [hM];simp
 refine⟨rfl,λ w ok=>?_⟩
 have hap:=ok.apart
 rw [hM,List.pairwise_cons] at hap
 have hmem:∀r∈M₀,r∈Z.M:=λ r hr=>by rw [hM];simp [hr]
 have lets:∀r∈cellsFrom b e vs.length vs 0,∀l,r.lets l->(Res.obj b (.cells vs.toArray e (0,0))).lets l:=by
  intro r hr l hl
  obtain⟨j,v,hv,rfl⟩:=cellsFrom_mem hr
  cases l with
  | cell a=>
   refine⟨hl.1,?_⟩
   have:=(List.getElem?_eq_some_iff.1 hv).1
   have:=hl.2
   simp only [List.size_toArray];omega
  | _=>exact hl.elim
 refine⟨⟨ok.imm,λ r hr=>?_,?_,λ r hr=>?_⟩,λ l hl=>?_,λ l hl=>?_⟩
 ·rcases List.mem_append.1 hr with hr | hr
  ·obtain⟨j,v,hv,rfl⟩:=cellsFrom_mem hr
   exact⟨vs.toArray,ok.held _ hb,by simp,by simpa using hv⟩
  ·exact ok.held r (hmem r hr)
 ·refine List.pairwise_append.2 ⟨cellsFrom_apart,hap.2,λ r hr s hs=>?_⟩
  obtain⟨j,v,hv,rfl⟩:=cellsFrom_mem hr
  have:=hap.1 s hs
  cases s with
  | obj b' o=>exact this
  | cell b' i' v' t' n'=>exact .inl this
 ·rcases List.mem_append.1 hr with hr | hr
  ·obtain⟨j,v,hv,rfl⟩:=cellsFrom_mem hr
   exact (ok.sep _ hb:Z.I b=none)
  ·exact ok.sep r (hmem r hr)
 ·rw [canW_iff] at hl ⊢
  obtain⟨r,hr,hl⟩:=hl
  rcases List.mem_append.1 hr with hr | hr
  ·exact⟨_,hb,lets r hr l hl⟩
  ·exact⟨r,hmem r hr,hl⟩
 ·rw [canR_iff] at hl ⊢
  refine hl.imp (λ⟨r,hr,hl⟩=>?_) id
  rcases List.mem_append.1 hr with hr | hr
  ·exact⟨_,hb,lets r hr l hl⟩
  ·exact⟨r,hmem r hr,hl⟩
theorem shift_perm {T:Type} {Z:View T} {M':List Res} (h:List.Perm Z.M M'):Shift Z { Z with M:=M' }:=by
 refine⟨rfl,λ w ok=>⟨⟨ok.imm,λ r hr=>ok.held r (h.mem_iff.2 hr),(h.pairwise_iff (λ {x y} h=>Res.apart_symm h)).1 ok.apart,λ r hr=>ok.sep r (h.mem_iff.2 hr)⟩,λ l hl=>?_,λ l hl=>?_⟩⟩
 ·rw [canW_iff] at hl ⊢;obtain⟨r,hr,hl⟩:=hl;exact⟨r,h.mem_iff.2 hr,hl⟩
 ·rw [canR_iff] at hl ⊢;exact hl.imp (λ⟨r,hr,hl⟩=>⟨r,h.mem_iff.2 hr,hl⟩) id
theorem st_under {T:Type} {Z:View T} {b_1 b_2:Nat} {c:Array Value} {e:TypeId} {o2:Obj} {v:Value} {Q:View T->Prop} (h1:Z.free b_1) (h2:(Z.put b_1 (.cells c e)).free b_2) (hc:c.size=1) (hs:v.single=true)
  (h:∀Z1,Z.le Z1->Blk Z1 b_1 #[v]->Z1.free b_2->Q (Z1.put b_2 o2)):StV ⟨b_1,0,none⟩ [v] 0 (λ Z'=>∃Z1,Shift Z' Z1/\Q Z1) ((Z.put b_1 (.cells c e)).put b_2 o2):=by
 refine⟨hs,_,.there (.obj (a:=⟨b_1,0,none⟩) rfl (by show 0<c.size;omega)),?_⟩
 have e1:c.setIfInBounds 0 v=#[v]:=by
  apply Array.ext
  ·simp [hc]
  ·intro i hi1 hi2
   have:i=0:=by simp at hi2;omega
   subst this
   simp
 refine⟨View.put { Z with I:=addI Z.I b_1 (.cells #[v] e) } b_2 o2,?_,h _ (le_add h1) Blk.new ⟨?_,λ r hr=>h2.2 r (List.mem_cons_of_mem _ hr)⟩⟩
 ·show Shift { Z with M:=.obj b_2 o2::.obj b_1 (.cells (c.setIfInBounds 0 v) e (0,0))::Z.M } _
  rw [e1]
  exact shift_freeze (b:=b_1) (M':=.obj b_2 o2::Z.M) (List.Perm.swap ..)
 ·have hne:b_2≠b_1:=λ e'=>h2.2 (.obj b_1 (.cells c e)) (List.mem_cons_self ..) e'.symm
  show addI Z.I b_1 _ b_2=none
  unfold addI
  rw [if_neg hne]
  exact h2.1
def View.base (Z:View Tk):View Tk:=⟨Z.I,[],⟨0,.out⟩⟩
def View.sub (Z Z':View Tk):Prop:=∀b o,Z.I b=some o->Z'.I b=some o
theorem Blk.imm' {Z Z':View Tk} {b:Nat} {c:Array Value} (h:Blk Z b c) (hs:Z.sub Z'):Blk Z' b c:=let ⟨t,fr,h⟩:=h;⟨t,fr,hs _ _ h⟩
theorem sub_lg {Z Z':View Tk} (h:Z.sub Z'):Z.base.lg ⟨Z'.I,Z'.M,⟨0,.out⟩⟩:=⟨h,⟨Z'.M,by simp [View.base]⟩,rfl⟩
theorem Ints.ofBase {Z Z':View Tk} {a:Option Addr} {len:Nat} {l:List Int} (h:Ints Z.base a len l) (hs:Z.sub Z'):Ints Z' a len l:=(h.lg (sub_lg hs):Ints ⟨Z'.I,Z'.M,⟨0,.out⟩⟩ a len l)
theorem TabV.ofBase {Z Z':View Tk} {h:TH} {t:Tbl} (k:TabV Z.base h t) (hs:Z.sub Z'):TabV Z' h t:=by
 have k:=k.lg (sub_lg hs)
 exact⟨k.eds,k.mvs,k.kns,k.el,k.ml,k.kl,k.il,k.nl⟩
end Go.TM
namespace Go.TM
attribute [local simp] Nat.mul_one
variable {T:Type} {P:Program} {S:Sys P T} {Z:View T} {f:Fm} {K:Value->View T->Prop}
theorem eqElems {m e:Nat} {d:TypeDesc} (hd:P.underlying e=some d) (hs:simpleD d=true) {xs ys:Array Value} {Q:Option Bool×PUnit->View T->Prop}:∀(n j:Nat) (vs ws:List Value),vs.length=n->ws.length=n->(∀v∈vs,fits d v=true)->(∀v∈ws,fits d v=true) ->
  (∀i v,vs[i]?=some v->xs[j+i]?=some v)->(∀i v,ws[i]?=some v->ys[j+i]?=some v)->Q (if eqvL vs ws then none else some false,()) Z ->
  SemV P (forIn (List.range' j n 1) ((none,()):Option Bool×PUnit) λ i _=>do
    let a <- part e xs (i*1)
    let b <- part e ys (i*1)
    let c <- Op.equalIn (m+1) e a b
    if (!c)=true then pure (ForInStep.done (some false,())) else pure (ForInStep.yield (none,()))) Q Z
 | 0,j,vs,ws,hv,hw,_,_,_,_,h=>by
  obtain rfl:=List.length_eq_zero_iff.1 hv
  obtain rfl:=List.length_eq_zero_iff.1 hw
  exact h
 | n+1,j,v::vs,w::ws,hv,hw,hfv,hfw,hx,hy,h=>by
  rw [List.range'_succ,sv_forIn_cons]
  simp only [sv_bind,Nat.mul_one]
  have hx0:xs[j]?=some v:=by simpa using hx 0 v rfl
  have hy0:ys[j]?=some w:=by simpa using hy 0 w rfl
  rw [sv_part hd hs hx0,sv_part hd hs hy0,sv_equal1 hd hs (hfv v (List.mem_cons_self ..)) (hfw w (List.mem_cons_self ..))]
  cases hb:eqv v w with
  | false=>simpa [hb,eqvL,sv_pure] using h
  | true=>
   simp only [Bool.not_true,Bool.false_eq_true,if_false,sv_pure]
   have:=eqElems hd hs (m:=m) (xs:=xs) (ys:=ys) (Q:=Q) n (j+1) vs ws (by simpa using hv) (by simpa using hw) (λ v h=>hfv v (List.mem_cons_of_mem _ h)) (λ v h=>hfw v (List.mem_cons_of_mem _ h))
    (λ i v hi=>by have:=hx (i+1) v hi;rwa [show j+(i+1)=j+1+i by omega] at this)
    (λ i v hi=>by have:=hy (i+1) v hi;rwa [show j+(i+1)=j+1+i by omega] at this) (by simpa [hb,eqvL] using h)
   simpa only [Nat.mul_one,sv_bind] using this
theorem raw_eqA {t t' ty e len:Nat} {d:TypeDesc} {inf:TypeInfo} (hu:P.underlying t=some (.array len e)) (hd:P.underlying e=some d) (hs:simpleD d=true) (hi:P.info? e=some inf) (hsz:inf.size=1) (hg:P.eqGuardType P.depth t=false)
  {x y:Operand} {vs ws:List Value} (hx:evl f x=.agg vs.toArray) (hy:evl f y=.agg ws.toArray) (hlv:vs.length=len) (hlw:ws.length=len) (hv:∀v∈vs,fits d v=true) (hw:∀v∈ws,fits d v=true) (h:K (.bool (eqvL vs ws)) Z) :
  OX S (.raw { dst:=none,op:=.binOp .eql t x y t',type:=ty,pos := "", after:=#[],guard:=none }) f K Z:=by
 intro a' ha
 simp only [execOp,ha,hx,hy]
 refine rq ?_
 rw [sv_bind]
 refine sv_guardS hg ?_
 simp only [binOp,sv_bind]
 have e1:Op.equal t (.agg vs.toArray) (.agg ws.toArray)=Op.equalIn (9998+1+1) t (.agg vs.toArray) (.agg ws.toArray):=rfl
 rw [e1,Op.equalIn]
 simp only [sv_bind,sv_und hu,sv_size hi,hsz,Std.Legacy.Range.forIn_eq_forIn_range']
 refine eqElems hd hs _ 0 vs ws (by simpa [Std.Legacy.Range.size] using hlv) (by simpa [Std.Legacy.Range.size] using hlw) hv hw (λ i v hi=>by simpa using hi) (λ i v hi=>by simpa using hi) ?_
 cases hb:eqvL vs ws <;> simpa [hb,sv_pure] using ⟨Z,.refl _,by simpa [hb] using h⟩
theorem stv_mid {b off:Nat} {e:TypeId} {M₀:List Res} {Q:View T->Prop} (X:List Res):∀(vs:List Value) (i:Nat) (c:Array Value) (Z:View T),Z.M=X++.obj b (.cells c e (0,0))::M₀->(∀v∈vs,v.single=true)->off+i+vs.length<=c.size ->
  Q { Z with M:=X++.obj b (.cells (layAt c off vs i) e (0,0))::M₀ }->StV ⟨b,off,none⟩ vs i Q Z
 | [],i,c,Z,hM,_,_,hq=>by
  have:Z={ Z with M:=X++.obj b (.cells c e (0,0))::M₀ }:=by rw [<- hM]
  show Q Z
  rw [this];exact hq
 | v::vs,i,c,Z,hM,hs,hb,hq=>by
  simp only [List.length_cons] at hb
  refine⟨hs v (List.mem_cons_self ..),X++.obj b (.cells (c.setIfInBounds (off+i) v) e (0,0))::M₀,?_,?_⟩
  ·rw [hM,add_none]
   have h0:Upd ⟨b,off+i,none⟩ v (.obj b (.cells c e (0,0))::M₀) (.obj b (.cells (c.setIfInBounds (off+i) v) e (0,0))::M₀):=.obj (a:=⟨b,off+i,none⟩) rfl (by show off+i<c.size;omega)
   clear hM hq
   induction X with
   | nil=>exact h0
   | cons r X ih=>exact .there ih
  ·exact stv_mid X vs (i+1) _ _ rfl (λ v hv=>hs v (List.mem_cons_of_mem _ hv)) (by simp;omega) hq
theorem st_at {b i:Nat} {e:TypeId} {c:Array Value} {v:Value} {M₀:List Res} {Q:View T->Prop} (X:List Res) (hM:Z.M=X++.obj b (.cells c e (0,0))::M₀) (hi:i<c.size) (hs:v.single=true)
  (h:Q { Z with M:=X++.obj b (.cells (c.setIfInBounds i v) e (0,0))::M₀ }):StV ((Addr.mk b 0 none).add i) [v] 0 (λ Z'=>∃Z1,Shift Z' Z1/\Q Z1) Z:=by
 rw [add_none]
 refine stv_mid X [v] 0 c Z hM (by simpa using hs) (by simp;omega) ?_
 simp only [layAt,Nat.zero_add,Nat.add_zero]
 exact⟨_,.refl _,h⟩
theorem st_all {b:Nat} {e:TypeId} {c:Array Value} {vs:List Value} {M₀:List Res} {Q:View T->Prop} (X:List Res) (hM:Z.M=X++.obj b (.cells c e (0,0))::M₀) (hsz:c.size=vs.length) (hs:∀v∈vs,v.single=true)
  (h:Q { Z with M:=X++.obj b (.cells vs.toArray e (0,0))::M₀ }):StV ⟨b,0,none⟩ vs 0 (λ Z'=>∃Z1,Shift Z' Z1/\Q Z1) Z:=by
 refine stv_mid X vs 0 c Z hM hs (by omega) ?_
 rw [layAt_all hsz]
 exact⟨_,.refl _,h⟩
theorem reads_at {b:Nat} {e:TypeId} {vs:List Value} {M₀:List Res} (X:List Res) (hM:Z.M=X++.obj b (.cells vs.toArray e (0,0))::M₀):Reads Z ⟨b,0,none⟩ vs:=by
 intro i v hv
 rw [add_none]
 refine⟨rfl,.inl ⟨_,_,_,.inr (by rw [hM];simp;exact .inr (.inl ⟨rfl,rfl,rfl⟩)),?_⟩⟩
 simpa using hv
def setC (s:Nat->Bool):List Value:=[.bool (s 0),.bool (s 1),.bool (s 2),.bool (s 3),.bool (s 4),.bool (s 5),.bool (s 6),.bool (s 7)]
abbrev setA (s:Nat->Bool):Value:=.agg #[.bool (s 0),.bool (s 1),.bool (s 2),.bool (s 3),.bool (s 4),.bool (s 5),.bool (s 6),.bool (s 7)]
def noC:Array Value:=#[.bool false,.bool false,.bool false,.bool false,.bool false,.bool false,.bool false,.bool false]
theorem setC_at (s:Nat->Bool) {j:Nat} (h:j<8):(setC s)[j]?=some (.bool (s j)):=by
 have:j=0\/j=1\/j=2\/j=3\/j=4\/j=5\/j=6\/j=7:=by omega
 rcases this with rfl | rfl | rfl | rfl | rfl | rfl | rfl | rfl <;> rfl
def putS (s:Nat->Bool) (j:Nat) (v:Bool):Nat->Bool:=λ k=>if k=j then v else s k
theorem setC_set (s:Nat->Bool) {j:Nat} (h:j<8) (v:Bool):(setC s).toArray.setIfInBounds j (.bool v)=(setC (putS s j v)).toArray:=by
 have:j=0\/j=1\/j=2\/j=3\/j=4\/j=5\/j=6\/j=7:=by omega
 rcases this with rfl | rfl | rfl | rfl | rfl | rfl | rfl | rfl <;> rfl
theorem setC_congr {s r:Nat->Bool} (h:∀j,j<8->s j=r j):setC s=setC r:=by
 unfold setC
 simp only [h 0 (by omega),h 1 (by omega),h 2 (by omega),h 3 (by omega),h 4 (by omega),h 5 (by omega),h 6 (by omega),h 7 (by omega)]
theorem setC_single (s:Nat->Bool):∀v∈setC s,v.single=true:=by simp [setC,Value.single]
theorem setC_fits (s:Nat->Bool):∀v∈setC s,fits .bool v=true:=by simp [setC,fits]
theorem eqvL_setC {s r:Nat->Bool}:eqvL (setC s) (setC r)=true↔∀j,j<8->s j=r j:=by
 simp only [setC,eqvL,eqv,Bool.and_eq_true,beq_iff_eq,and_true]
 constructor
 ·rintro⟨h0,h1,h2,h3,h4,h5,h6,h7⟩ j hj
  have:j=0\/j=1\/j=2\/j=3\/j=4\/j=5\/j=6\/j=7:=by omega
  rcases this with rfl | rfl | rfl | rfl | rfl | rfl | rfl | rfl <;> assumption
 ·exact λ h=>⟨h 0 (by omega),h 1 (by omega),h 2 (by omega),h 3 (by omega),h 4 (by omega),h 5 (by omega),h 6 (by omega),h 7 (by omega)⟩
end Go.TM
namespace Go.TM
variable {T:Type} {P:Program} {S:Sys P T} {Z Z':View T}
def View.frz (Z:View T):View T:=⟨Z.I,[],Z.tok⟩
theorem View.lg.frz (h:Z.lg Z'):Z.frz.lg Z':=⟨h.imm,⟨Z'.M,by simp [View.frz]⟩,h.tok⟩
theorem frz_self:Z.frz.lg Z:=(⟨λ _ _ h=>h,⟨[],rfl⟩,rfl⟩:Z.lg Z).frz
theorem frz_le {Z Z1 Z2:View T} (h:Z.frz.lg Z1) (k:Z1.le Z2):Z.frz.lg Z2:=h.trans k.lg
theorem View.lg.frz2 (h:Z.lg Z'):Z.frz.lg Z'.frz:=⟨h.imm,⟨[],rfl⟩,h.tok⟩
theorem CallsV.grown {f:FuncId} {args:Array Value} {R:Value->View T->Prop} (hR:∀v Z1 Z2,Z1.lg Z2->R v Z1->R v Z2) (h:CallsV S f args (λ v Z'=>R v Z'.frz/\Z.lg Z') Z):CallsV S f args (λ v Z'=>R v Z'.frz/\Z.le Z') Z:=
 h.post λ v Z' ⟨hr,hl⟩=>let ⟨Z'',h1,h2,h3⟩:=hl.shift;⟨Z'',h1,hR v _ _ (⟨λ b o h=>by show Z''.I b=_;rw [h3];exact h,⟨[],rfl⟩,h2.tok.trans hl.tok.symm⟩:Z'.frz.lg Z''.frz) hr,h2⟩
def IntsV (Z:View T) (v:Value) (l:List Int):Prop:=∃a cap,v=.slice a l.length cap/\Ints Z a l.length l
theorem IntsV.lg {v:Value} {l:List Int} (h:IntsV Z v l) (hl:Z.lg Z'):IntsV Z' v l:=let ⟨a,c,e,h⟩:=h;⟨a,c,e,h.lg hl⟩
theorem Acc.freeze {e n:Nat} {v:Value} {cs:List Value} (hs:Sep Z') (h:Acc e n v cs Z'.M Z.M) (hI:∀x ox,Z.I x=some ox->Z'.I x=some ox) (ht:Z'.tok=Z.tok) :
  ∃Z'',Shift Z' Z''/\Z.le Z''/\∃a len cap,v=.slice a len cap/\cs.length=len*n/\Src Z''.frz a cs/\(∀ad,a=some ad->ad.spot=none)/\(∀ad,a=some ad->ad.off=0):=by
 rcases h with⟨rfl,rfl,hM⟩ | ⟨b,c,len,cap,rfl,h1,h2,h3,hM,h4⟩
 ·exact⟨Z',.refl _,⟨hI,hM,ht⟩,none,0,0,rfl,by simp,.inl ⟨rfl,rfl⟩,by simp,by simp⟩
 ·obtain⟨Z'',k1,k2,k3⟩:=le_freeze hs hM hI rfl ht
  refine⟨Z'',k1,k2,some ⟨b,0,none⟩,len,cap,rfl,h1,.inr ⟨_,rfl,?_⟩,by rintro _ ⟨⟩;rfl,by rintro _ ⟨⟩;rfl⟩
  intro i x hx
  rw [add_none]
  exact⟨rfl,.inl ⟨c,e,(0,0),.inl k3,by simpa using h4 i x hx⟩⟩
theorem ints_src {a:Option Addr} {l:List Int} (h:Src Z a (l.map λ n=>.int .i64 n)) (hsp:∀ad,a=some ad->ad.spot=none):Ints Z a l.length l:=by
 refine⟨rfl,λ i x hx=>?_⟩
 rcases h with⟨_,hn⟩ | ⟨ad,rfl,hr⟩
 ·rw [List.map_eq_nil_iff] at hn;subst hn;simp at hx
 ·exact⟨ad,rfl,hsp ad rfl,by rw [Nat.mul_one];exact hr i _ (by simp [hx])⟩
theorem CallsV.ints {f:FuncId} {args:Array Value} {e:Nat} {l:List Int} (h:CallsV S f args (λ v Z'=>Acc e 1 v (l.map λ n=>.int .i64 n) Z'.M Z.M/\(∀x ox,Z.I x=some ox->Z'.I x=some ox)/\Z'.tok=Z.tok) Z) :
  CallsV S f args (λ v Z'=>IntsV Z'.frz v l/\Z.le Z') Z:=by
 refine h.sep λ v Z' hs ⟨ha,hI,ht⟩=>?_
 obtain⟨Z'',k1,k2,a,len,cap,rfl,hl,hsrc,hsp,_⟩:=ha.freeze hs hI ht
 refine⟨Z'',k1,⟨a,cap,?_,ints_src hsrc hsp⟩,k2⟩
 simp at hl
 rw [hl]
end Go.TM
namespace Go.TM
variable {T:Type} {P:Program} {S:Sys P T} {Z:View T} {f:Fm} {K:Value->View T->Prop}
def arrB (P:Program) (t len:Nat):Bool:=
 match P.underlying t with
 | some (.array len' e)=>decide (len'=len) && (match P.underlying e with | some .bool=>true | _=>false) && (match P.info? e with | some inf=>decide (inf.size=1) | none=>false) && !P.eqGuardType P.depth t
 | _=>false
structure ArrT (P:Program) (t len:Nat):Prop where
 h:∃e inf,P.underlying t=some (.array len e)/\P.underlying e=some .bool/\P.info? e=some inf/\inf.size=1/\P.eqGuardType P.depth t=false
theorem ArrT.of {t len:Nat} (h:arrB P t len=true):ArrT P t len:=by
 unfold arrB at h
 split at h
 ·rename_i len' e hu
  simp only [Bool.and_eq_true,decide_eq_true_eq,Bool.not_eq_true'] at h
  obtain⟨⟨⟨rfl,h1⟩,h2⟩,h3⟩:=h
  split at h1
  ·rename_i hb
   split at h2
   ·rename_i inf hi
    exact⟨e,inf,hu,hb,hi,by simpa using h2,h3⟩
   ·cases h2
  ·cases h1
 ·cases h
theorem raw_ixA {t ty len i:Nat} {k:IntKind} {cs:Array Value} {v:Value} {x y:Operand} (a:ArrT P t len) (hx:evl f x=.agg cs) (hy:evl f y=.int k i) (hlt:i<len) (hv:cs[i]?=some v) (h:K v Z) :
  OX S (.raw { dst:=none,op:=.index t x y,type:=ty,pos := "", after:=#[],guard:=none }) f K Z:=
 let ⟨_,_,h1,h2,h3,h4,_⟩:=a.h
 raw_index h1 h2 rfl h3 h4 hx hy hlt hv h
theorem raw_eqA8 {t t' ty:Nat} {x y:Operand} {s r:Nat->Bool} (a:ArrT P t 8) (hx:evl f x=setA s) (hy:evl f y=setA r) (h:K (.bool (eqvL (setC s) (setC r))) Z) :
  OX S (.raw { dst:=none,op:=.binOp .eql t x y t',type:=ty,pos := "", after:=#[],guard:=none }) f K Z:=
 let ⟨_,_,h1,h2,h3,h4,h5⟩:=a.h
 raw_eqA h1 h2 rfl h3 h4 h5 (vs:=setC s) (ws:=setC r) hx hy rfl rfl (setC_fits s) (setC_fits r) h
end Go.TM
namespace Go.TM
variable {T:Type} {P:Program} {S:Sys P T} {f:Fm} {Z:View T}
structure Keeps (Z:View T) (I:Nat->View T->Prop):Prop where
 le:∀k Z1 Z2,Z1.le Z2->I k Z1->I k Z2
 lg:∀k Z1,I k Z1->Z.frz.lg Z1
def Rounds (S:Sys P T) (l:Nat) (ps:List (List Value)) (I:Nat->View T->Prop) (E:View T->Prop):Prop:=
 ∀(k:Nat) (p:List Value) (Z1:View T) (K:Value->View T->Prop),ps[k]?=some p->I k Z1->(∀Z2,I (k+1) Z2->K (.bool true) Z2)->(∀Z2,E Z2->K (.bool false) Z2)->YieldV S l p K Z1
def IterV (S:Sys P T) (g:FuncId) (args:Array Value) (l:Nat) (ps:List (List Value)) (Z:View T):Prop:=
 ∀(I:Nat->View T->Prop) (E:View T->Prop),Keeps Z I->Rounds S l ps I E->I 0 Z->CallsV S g args (λ _ Z'=>I ps.length Z'\/E Z') Z
def View.on (Z:View T) (A D:Res):View T:={ Z with M:=A::D::Z.M }
theorem rngX_iter (hm:P.follows .mixedOrders=true) {fn N:Nat} {mu dets:List Nat} {c:Operand} {params:Array Tmp} {as bd:C} {n:Kont T} {x:Nat->Kont T} {r:Kont T} {ds:List Deferred} {g:FuncId} {first capt:Array Value}
  (ps:List (List Value)) (Inv:Nat->View T->Prop) (X:Nat->View T->Prop) (Rt:View T->Prop)
  (hc:evl f c=.func (.func g) first capt) (hp:params.toList.all (λ t=>decide (t<N))=true) (hg:(P.funcs[g]?.any λ fd=>fd.body.isSome && fd.name != "runtime.NumGoroutine")=true)
  (hit:∀l Z1,Z.frz.lg Z1->IterV S g (first.toList++[Value.func (.yield l) #[] #[]]++capt.toList).toArray l ps Z1)
  (hlen:∀p∈ps,p.length=params.size) (hk:Keeps Z Inv) (h0:Inv 0 Z)
  (hbody:∀(l:Nat) (A B D:Res) (k:Nat) (p:List Value) (Z₀:View T) (KN:Kont T) (KX:Nat->Kont T) (KR KA:Kont T),ps[k]?=some p->Inv k Z₀ ->
   (∀f1 ds1 Z3,Inv (k+1) Z3->KN f1 ds1 (Z3.on B D))->(∀i f1 ds1 Z3,X i Z3->KX i f1 ds1 (Z3.on B D))->(∀f1 ds1 Z3,Rt Z3->KR f1 ds1 (Z3.on B D)) ->
   (∀f1 (Z1:View T),wpC S fn (some l) bd KN KX KR f1 [] (Z1.on B D)->KA f1 [] (Z1.on A D)) ->
   wpC S fn (some l) as KA (λ _ _ _ _=>False) (λ _ _ _=>False) (setP f params.toList p) [] (Z₀.on A D))
  (hn:∀(d l:Nat) (A:Obj) Z3,Inv ps.length Z3->n f (⟨.collected d,#[]⟩::ds) (Z3.on (.obj l A) (.obj d (.deferred (some [])))))
  (hx:∀(d l:Nat) (A:Obj) i Z3,X i Z3->x i f (⟨.collected d,#[]⟩::ds) (Z3.on (.obj l A) (.obj d (.deferred (some [])))))
  (hr:∀(d l:Nat) (A:Obj) Z3,Rt Z3->r f (⟨.collected d,#[]⟩::ds) (Z3.on (.obj l A) (.obj d (.deferred (some []))))) :
  rngX S fn none N mu dets c params as bd n x r f ds Z:=by
 show wpC S fn none (.rng N mu dets c params as bd) n x r f ds Z
 refine wpC_rng hm hc hp hg λ l d lo hd hl hne hR=>?_
 let D:Res:=.obj d (.deferred (some []))
 let I:Nat->View T->Prop:=λ k Z1=>∃Z₀,Inv k Z₀/\Z1=Z₀.on (.obj l (lo .ready none)) D
 let E:View T->Prop:=λ Z1=>∃Z₀,(∃i,X i Z₀/\Z1=Z₀.on (.obj l (lo .done (some (.exit i)))) D)\/(Rt Z₀/\Z1=Z₀.on (.obj l (lo .done (some .ret))) D)
 have hfl:Z.frz.lg (Z.on (.obj l (lo .ready none)) D):=⟨λ _ _ h=>h,⟨_,(List.append_nil _).symm⟩,rfl⟩
 refine (hit l _ hfl I E ⟨?_,?_⟩ ?_ ⟨Z,h0,rfl⟩).mono ?_
 ·rintro k _ Z2 hle ⟨Z₀,hI,rfl⟩
  refine⟨{ Z2 with M:=Z₀.M },hk.le k Z₀ _ ⟨hle.imm,rfl,hle.tok⟩ hI,?_⟩
  obtain⟨i_2,m_2,t_2⟩:=Z2
  have:=hle.own
  simp only [View.on] at this ⊢
  rw [this]
 ·rintro k _ ⟨Z₀,hI,rfl⟩
  have:=hk.lg k _ hI
  exact⟨this.imm,⟨_,(List.append_nil _).symm⟩,this.tok⟩
 ·rintro k p _ K hpk ⟨Z₀,hI,rfl⟩ hK1 hK2
  refine hR p K _ (hlen p (List.mem_of_getElem? hpk)) (List.mem_cons_self ..) ?_
  refine hbody l _ (.obj l (lo .busy none)) D k p Z₀ _ _ _ _ hpk hI (λ f1 ds1 Z3 h=>?_) (λ i f1 ds1 Z3 h=>?_) (λ f1 ds1 Z3 h=>?_) (λ f1 Z1 h=>⟨rfl,_,.here,h⟩)
  ·exact⟨_,.here,hK1 _ ⟨Z3,h,rfl⟩⟩
  ·exact⟨_,.here,hK2 _ ⟨Z3,.inl ⟨i,h,rfl⟩⟩⟩
  ·exact⟨_,.here,hK2 _ ⟨Z3,.inr ⟨h,rfl⟩⟩⟩
 ·rintro v Z3 (⟨Z₀,hI,rfl⟩ | ⟨Z₀,⟨i,hX,rfl⟩ | ⟨hR',rfl⟩⟩) -
  ·exact⟨.ready,none,_,by simp,.here,hn d l _ Z₀ hI⟩
  ·exact⟨.done,some (.exit i),_,by simp,.here,hx d l _ i Z₀ hX⟩
  ·exact⟨.done,some .ret,_,by simp,.here,hr d l _ Z₀ hR'⟩
end Go.TM
namespace Go.TM
variable {T:Type} {Z Z':View T}
theorem Blk.imI {b:Nat} {c:Array Value} (h:Blk Z b c) (hI:∀x o,Z.I x=some o->Z'.I x=some o):Blk Z' b c:=let ⟨t,fr,h⟩:=h;⟨t,fr,hI _ _ h⟩
theorem Blk.rdI {b:Nat} {vs:List Value} (h:Blk Z b vs.toArray) (hI:∀x o,Z.I x=some o->Z'.I x=some o):Reads Z' ⟨b,0,none⟩ vs:=(h.imI hI).reads λ k v hv=>by simpa using hv
end Go.TM
