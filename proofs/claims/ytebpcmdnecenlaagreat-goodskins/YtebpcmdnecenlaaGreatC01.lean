/- A part of the proof: lemmas that the last text uses. No conditions of its own. -/
import Derived.Test.YtebpcmdnecenlaaGreatD45
import Derived.Test.YtebpcmdnecenlaaGreatD44
import Derived.Test.YtebpcmdnecenlaaGreatD42
import Derived.Test.YtebpcmdnecenlaaGreatD41
import Derived.Test.YtebpcmdnecenlaaGreatD43
import Derived.Test.YtebpcmdnecenlaaGreatD06
import Derived.Test.YtebpcmdnecenlaaGreatC00
set_option linter.unusedSimpArgs false
set_option linter.unusedVariables false
namespace Go.Proofs
open Go.TM
set_option maxRecDepth 100000
variable {T:Type} {S:TM.Sys Tryz.prog T} {σ:View T}
attribute [local irreducible] CallsV YieldV rngX
end Go.Proofs
namespace Go.TM
theorem mem_listS {s:Nat → Bool} {x:Int}:x ∈ listS s ↔ ∃ j:Nat,j < 8 ∧ s j = true ∧ x = j:=by
 unfold listS
 simp only [List.mem_map,List.mem_filter,List.mem_range]
 constructor
 ·rintro ⟨j,⟨h1,h2⟩,rfl⟩;exact ⟨j,h1,h2,rfl⟩
 ·rintro ⟨j,h1,h2,rfl⟩;exact ⟨j,⟨h1,h2⟩,rfl⟩
theorem asc_listS (s:Nat → Bool):Asc (listS s):=by
 unfold listS Asc
 rw [List.pairwise_map]
 exact List.Pairwise.imp (fun h=>by simpa using h) (List.Pairwise.filter _ List.pairwise_lt_range)
theorem memS_iff {l:List Int} {j:Nat}:memS l j = true ↔ (j:Int) ∈ l:=by unfold memS;exact decide_eq_true_iff
theorem listS_memS {l:List Int} (ha:Asc l) (h8:∀ x ∈ l,0 ≤ x ∧ x < 8):listS (memS l) = l:=by
 refine asc_ext (asc_listS _) ha fun x=>?_
 rw [mem_listS]
 constructor
 ·rintro ⟨j,_,h,rfl⟩;exact memS_iff.1 h
 ·intro hx
  have:=h8 x hx
  exact ⟨x.toNat,by omega,memS_iff.2 (by rw [Int.toNat_of_nonneg this.1];exact hx),by omega⟩
theorem cov_go (sure can:Nat → Bool):∀ (ps:List (Int × Int)) (c:Cov) (y:Nat),
  (ps.foldl (Cov.step sure can) c).so y = (c.so y || ps.any fun p=>p.2.toNat == y) ∧
  (ps.foldl (Cov.step sure can) c).la y = (c.la y || ps.any fun p=>p.2.toNat == y && !sure p.1.toNat) ∧
  (ps.foldl (Cov.step sure can) c).re y = (c.re y || ps.any fun p=>p.2.toNat == y && can p.1.toNat)
 | [],c,y=>by simp
 | p :: ps,c,y=>by
  obtain ⟨h1,h2,h3⟩:=cov_go sure can ps (Cov.step sure can c p) y
  rw [List.foldl_cons,h1,h2,h3]
  simp only [List.any_cons,Cov.step,putS]
  by_cases e:y = p.2.toNat
  ·subst e;simp [Bool.or_assoc]
  ·have e':(p.2.toNat == y) = false:=by simp;exact fun h=>e h.symm
   simp [e,e']
theorem cov_so (sure can:Nat → Bool) (ps:List (Int × Int)) (y:Nat):(cov sure can ps).so y = ps.any fun p=>p.2.toNat == y:=by unfold cov;rw [(cov_go sure can ps _ y).1];rfl
theorem cov_la (sure can:Nat → Bool) (ps:List (Int × Int)) (y:Nat):(cov sure can ps).la y = ps.any fun p=>p.2.toNat == y && !sure p.1.toNat:=by unfold cov;rw [(cov_go sure can ps _ y).2.1];rfl
theorem cov_re (sure can:Nat → Bool) (ps:List (Int × Int)) (y:Nat):(cov sure can ps).re y = ps.any fun p=>p.2.toNat == y && can p.1.toNat:=by unfold cov;rw [(cov_go sure can ps _ y).2.2];rfl
def nums (n:Nat):List Int:=(List.range n).map fun (j:Nat)=>(j:Int)
theorem mem_nums {n:Nat} {x:Int}:x ∈ nums n ↔ 0 ≤ x ∧ x < n:=by
 unfold nums
 simp only [List.mem_map,List.mem_range]
 constructor
 ·rintro ⟨j,h,rfl⟩;omega
 ·rintro ⟨h1,h2⟩;exact ⟨x.toNat,by omega,by omega⟩
theorem asc_nums (n:Nat):Asc (nums n):=by
 unfold nums Asc
 rw [List.pairwise_map]
 exact List.pairwise_lt_range.imp fun h=>by omega
theorem nums_succ (n:Nat):nums (n + 1) = nums n ++ [(n:Int)]:=by unfold nums;rw [List.range_succ];simp
def mvB (e x y:Int) (back:Bool) (m:GMv):Bool:=(!back && decide (mv3 m = (e,x,y))) || (back && decide (mv3 m = (e - 1,y,x)))
def Tbl.bec (t:Tbl) (e x y:Int) (back:Bool):Bool:=t.mvs.any (mvB e x y back)
def Tbl.ni (t:Tbl) (e:Int):Nat:=(t.items e).length
def nextE (e:Int) (back:Bool):Int:=if back then e - 1 else e + 1
def Tbl.some1 (t:Tbl) (e:Int) (back:Bool) (n:Nat) (y:Int):Bool:=(nums n).any fun x=>t.bec e x y back
def Tbl.all1 (t:Tbl) (e:Int) (back:Bool) (sure:List Int) (n:Nat) (y:Int):Bool:=(nums n).all fun x=>!t.bec e x y back || sure.contains x
def Tbl.reach1 (t:Tbl) (e:Int) (back:Bool) (can:List Int) (n:Nat) (y:Int):Bool:=(nums n).any fun x=>t.bec e x y back && can.contains x
def Tbl.sureL (t:Tbl) (e:Int) (back:Bool) (sure:List Int) (n:Nat):List Int:=(nums n).filter fun y=>t.some1 e back (t.ni e) y && t.all1 e back sure (t.ni e) y
def Tbl.canL (t:Tbl) (e:Int) (back:Bool) (can:List Int) (n:Nat):List Int:=(nums n).filter fun y=>t.reach1 e back can (t.ni e) y
def Tbl.stepL (t:Tbl) (e:Int) (back:Bool) (p:List Int × List Int):List Int × List Int:=(t.sureL e back p.1 (t.ni (nextE e back)),t.canL e back p.2 (t.ni (nextE e back)))
def Tbl.stepN (t:Tbl) (back:Bool):Nat → Int → List Int × List Int → List Int × List Int
 | 0,_,p=>p
 | n + 1,e,p=>t.stepN back n (nextE e back) (t.stepL e back p)
def Tbl.movedL (t:Tbl) (fr to:Int) (l:List Int):List Int × List Int:=if to < fr then t.stepN true (fr - to).toNat fr (l,l) else t.stepN false (to - fr).toNat fr (l,l)
def Tbl.psOf (t:Tbl) (e:Int) (back:Bool):List (Int × Int):=if back then t.bckP e else t.fwdP e
theorem mem_psOf {t:Tbl} {e x y:Int} {back:Bool}:(x,y) ∈ t.psOf e back ↔ t.bec e x y back = true:=by
 unfold Tbl.psOf Tbl.bec Tbl.bckP Tbl.fwdP mvB mv3
 cases back with
 | false=>
  simp only [Bool.false_eq_true,if_false,List.mem_map,List.mem_filter,List.any_eq_true,Bool.not_false,Bool.true_and,Bool.false_and,Bool.or_false,decide_eq_true_eq,beq_iff_eq,Prod.mk.injEq]
  constructor
  ·rintro ⟨m,⟨h1,h2⟩,h3,h4⟩;exact ⟨m,h1,h2,h3,h4⟩
  ·rintro ⟨m,h1,h2,h3,h4⟩;exact ⟨m,⟨h1,h2⟩,h3,h4⟩
 | true=>
  simp only [if_true,List.mem_map,List.mem_filter,List.any_eq_true,Bool.not_true,Bool.true_and,Bool.false_and,Bool.false_or,decide_eq_true_eq,beq_iff_eq,Prod.mk.injEq]
  constructor
  ·rintro ⟨m,⟨h1,h2⟩,h3,h4⟩;exact ⟨m,h1,h2,h4,h3⟩
  ·rintro ⟨m,h1,h2,h3,h4⟩;exact ⟨m,⟨h1,h2⟩,h4,h3⟩
theorem Tbl.bec_items {t:Tbl} (hf:t.flaw = 0) {e x y:Int} {back:Bool} (h:t.bec e x y back = true):t.isItem e x = true ∧ t.isItem (nextE e back) y = true:=by
 unfold Tbl.bec at h
 obtain ⟨m,hm,hb⟩:=List.any_eq_true.1 h
 have hok:=Tbl.mv_ok hf m hm
 unfold Tbl.mvOk at hok
 simp only [Bool.and_eq_true] at hok
 unfold mvB mv3 at hb
 unfold nextE
 cases back with
 | false=>
  simp at hb
  obtain ⟨rfl,rfl,rfl⟩:=hb
  exact ⟨hok.2.2.1,hok.2.2.2⟩
 | true=>
  simp at hb
  obtain ⟨h1,rfl,rfl⟩:=hb
  obtain rfl:e = m.ed + 1:=by omega
  exact ⟨hok.2.2.2,by simpa using hok.2.2.1⟩
theorem Tbl.isItem_iff {t:Tbl} {e n:Int}:t.isItem e n = true ↔ 0 ≤ n ∧ n < t.ni e:=by
 unfold Tbl.isItem btw Tbl.ni
 simp only [Bool.and_eq_true,decide_eq_true_eq]
 omega
theorem Tbl.ni8 {t:Tbl} (hf:t.flaw = 0) (e:Int):t.ni e ≤ 8:=by
 unfold Tbl.ni Tbl.items
 split
 ·rename_i he
  have hb:=Tbl.isEd_lt he
  obtain ⟨-,-,h8⟩:=Tbl.flaw_eds hf
  rw [List.getD_eq_getElem?_getD,List.getElem?_eq_getElem (by omega)]
  exact h8 _ (List.getElem_mem _)
 ·simp
theorem ps_any {ps:List (Int × Int)} {f:Int → Bool} {y:Nat} (h0:∀ p ∈ ps,0 ≤ p.2):(ps.any fun p=>p.2.toNat == y && f p.1) = true ↔ ∃ x,(x,(y:Int)) ∈ ps ∧ f x = true:=by
 simp only [List.any_eq_true,Bool.and_eq_true,beq_iff_eq]
 constructor
 ·rintro ⟨⟨a,b⟩,h1,h2,h3⟩
  have:=h0 _ h1
  simp only at h2 h3 this
  obtain rfl:b = y:=by omega
  exact ⟨a,h1,h3⟩
 ·rintro ⟨x,h1,h2⟩;exact ⟨(x,y),h1,by simp,h2⟩
theorem Tbl.step_eq {t:Tbl} (hf:t.flaw = 0) (e:Int) (back:Bool) (p:SC):t.stepL e back (listS p.s,listS p.c) = (listS (p.by (t.psOf e back)).s,listS (p.by (t.psOf e back)).c):=by
 have hbec:∀ x y,t.bec e x y back = true → (0 ≤ x ∧ x < t.ni e) ∧ 0 ≤ y ∧ y < t.ni (nextE e back):=fun x y h=>by
  obtain ⟨h1,h2⟩:=Tbl.bec_items hf h
  exact ⟨Tbl.isItem_iff.1 h1,Tbl.isItem_iff.1 h2⟩
 have h8:=Tbl.ni8 hf (nextE e back)
 have h8':=Tbl.ni8 hf e
 have h0:∀ q ∈ t.psOf e back,0 ≤ q.2:=fun q hq=>(hbec q.1 q.2 (mem_psOf.1 hq)).2.1
 have hc:∀ (s:Nat → Bool) (x:Int),0 ≤ x → x < 8 → ((listS s).contains x = true ↔ s x.toNat = true):=fun s x h1 h2=>by
  rw [List.contains_iff_mem,mem_listS]
  constructor
  ·rintro ⟨j,_,h,rfl⟩;simpa using h
  ·intro h;exact ⟨x.toNat,by omega,h,by omega⟩
 unfold Tbl.stepL SC.by
 refine Prod.ext ?_ ?_
 ·refine asc_ext (Asc.filter (asc_nums _) _) (asc_listS _) fun y=>?_
  simp only [Tbl.sureL,List.mem_filter,mem_nums,mem_listS,Cov.sure,cov_so,cov_la,Bool.and_eq_true,Bool.not_eq_true',Tbl.some1,Tbl.all1,List.any_eq_true,List.all_eq_true,Bool.or_eq_true]
  constructor
  ·rintro ⟨⟨h1,h2⟩,⟨x,hx,hb⟩,hall⟩
   obtain ⟨k,rfl⟩:=Int.eq_ofNat_of_zero_le h1
   refine ⟨k,by omega,⟨⟨(x,(k:Int)),mem_psOf.2 hb,by simp⟩,?_⟩,rfl⟩
   apply Classical.byContradiction
   intro hn
   rw [Bool.not_eq_false,ps_any (f:=fun x=>!p.s x.toNat) h0] at hn
   obtain ⟨x',h3,h4⟩:=hn
   have hb':=mem_psOf.1 h3
   have hx':=(hbec _ _ hb').1
   rcases hall x' hx' with h5 | h5
   ·rw [hb'] at h5;cases h5
   ·rw [hc _ _ hx'.1 (by omega)] at h5
    rw [h5] at h4;cases h4
  ·rintro ⟨j,hj,⟨⟨q,hq,hqy⟩,hla⟩,rfl⟩
   have hb:=mem_psOf.1 (show (q.1,q.2) ∈ t.psOf e back from hq)
   have hx:=hbec _ _ hb
   have hqj:q.2 = (j:Int):=by simp at hqy;omega
   rw [hqj] at hb hx
   refine ⟨⟨by omega,by omega⟩,⟨q.1,hx.1,hb⟩,fun x' hx'=>?_⟩
   by_cases h5:t.bec e x' j back = true
   ·right
    rw [hc _ _ hx'.1 (by omega)]
    apply Classical.byContradiction
    intro hn
    have:(t.psOf e back).any (fun q=>q.2.toNat == j && !p.s q.1.toNat) = true:=(ps_any (f:=fun x=>!p.s x.toNat) h0).2 ⟨x',mem_psOf.2 h5,by simpa using hn⟩
    rw [hla] at this;cases this
   ·left;simpa using h5
 ·refine asc_ext (Asc.filter (asc_nums _) _) (asc_listS _) fun y=>?_
  simp only [Tbl.canL,List.mem_filter,mem_nums,mem_listS,cov_re,Tbl.reach1,List.any_eq_true,Bool.and_eq_true]
  constructor
  ·rintro ⟨⟨h1,h2⟩,x,hx,hb,hx'⟩
   obtain ⟨k,rfl⟩:=Int.eq_ofNat_of_zero_le h1
   rw [hc _ _ hx.1 (by omega)] at hx'
   exact ⟨k,by omega,⟨(x,(k:Int)),mem_psOf.2 hb,by simp,hx'⟩,rfl⟩
  ·rintro ⟨j,hj,⟨q,hq,hqy,hqc⟩,rfl⟩
   have hb:=mem_psOf.1 (show (q.1,q.2) ∈ t.psOf e back from hq)
   have hx:=hbec _ _ hb
   have hqj:q.2 = (j:Int):=by simp at hqy;omega
   rw [hqj] at hb hx
   exact ⟨⟨by omega,by omega⟩,q.1,hx.1,hb,(hc _ _ hx.1.1 (by omega)).2 hqc⟩
theorem Tbl.stepN_fwd {t:Tbl} (hf:t.flaw = 0):∀ (n:Nat) (e:Int) (p:SC),t.stepN false n e (listS p.s,listS p.c) = (listS (t.goF n e p).s,listS (t.goF n e p).c)
 | 0,e,p=>rfl
 | n + 1,e,p=>by
  rw [Tbl.stepN,Tbl.step_eq hf,Tbl.stepN_fwd hf n];rfl
theorem Tbl.stepN_bck {t:Tbl} (hf:t.flaw = 0):∀ (n:Nat) (e:Int) (p:SC),t.stepN true n e (listS p.s,listS p.c) = (listS (t.goB n e p).s,listS (t.goB n e p).c)
 | 0,e,p=>rfl
 | n + 1,e,p=>by
  rw [Tbl.stepN,Tbl.step_eq hf,Tbl.stepN_bck hf n]
  have:nextE e true = e + -1:=by unfold nextE;simp;omega
  rw [this];rfl
theorem Tbl.moved_eq {t:Tbl} (hf:t.flaw = 0) {fr to:Int} {l:List Int} (hc:t.chk fr none l = 0):t.movedL fr to l = (listS (t.moved fr to l).s,listS (t.moved fr to l).c):=by
 have hl:listS (memS l) = l:=listS_memS (Tbl.chk_asc hc).1 fun x hx=>Tbl.item_lt hf (chk_items hc x hx)
 unfold Tbl.movedL Tbl.moved
 split
 ·have:=Tbl.stepN_bck hf (fr - to).toNat fr ⟨memS l,memS l⟩
  simp only [hl] at this
  exact this
 ·have:=Tbl.stepN_fwd hf (to - fr).toNat fr ⟨memS l,memS l⟩
  simp only [hl] at this
  exact this
end Go.TM
namespace Go.TM
variable {T:Type} {P:Program} {S:Sys P T} {σ:View T}
theorem CallsV.okd {f:FuncId} {args:Array Value} {R R':Value → View T → Prop} (h:CallsV S f args R σ) (hr:∀ v σ' w,σ'.ok w → R v σ' → ∃ σ'',Shift σ' σ'' ∧ R' v σ''):CallsV S f args R' σ:=by
 intro Stop m c cs k
 refine h Stop m c cs fun v σ' r=>?_
 by_cases hs:∃ w,σ'.ok w
 ·obtain ⟨w,hw⟩:=hs
  obtain ⟨σ'',h1,h2⟩:=hr v σ' w hw r
  exact .shift h1 (k v _ h2)
 ·exact .priv ⟨rfl,fun w ok=>absurd ⟨w,ok⟩ hs⟩
theorem AccIn.intsV {v:Value} {l:List Int} {A R:List Res} {I:Nat → Option Obj} {k:T} (h:AccIn 3 1 v (l.map fun n=>.int .i64 n) A) {w:World} (ok:(⟨I,A ++ R,k⟩:View T).ok w) :
  ∃ σ'':View T,Shift ⟨I,A ++ R,k⟩ σ'' ∧ σ''.ok w ∧ (∀ x o,I x = some o → σ''.I x = some o) ∧ σ''.M = R ∧ σ''.tok = k ∧ IntsV σ''.frz v l:=by
 obtain ⟨σ'',k1,k2,a,len,cap,rfl,hl,hsrc,hsp,_⟩:=Acc.freeze (σ:=⟨I,R,k⟩) (σ':=⟨I,A ++ R,k⟩) ok.sep (h R) (fun _ _ h=>h) rfl
 simp at hl
 exact ⟨σ'',k1,(k1.2 w ok).1,k2.imm,k2.own,k2.tok,a,cap,by rw [hl],ints_src hsrc hsp⟩
theorem CallsV.listed2 {f:FuncId} {args:Array Value} {G:Value → Value → Value} {R:List Int → List Int → Prop}
  (h:CallsV S f args (fun v σ'=>∃ v1 v2 l1 l2 A B Y,v = G v1 v2 ∧ R l1 l2 ∧ σ'.M.Perm (Y ++ (A ++ (B ++ σ.M))) ∧ AccIn 3 1 v1 (l1.map fun n=>.int .i64 n) A ∧ AccIn 3 1 v2 (l2.map fun n=>.int .i64 n) B ∧ (∀ x o,σ.I x = some o → σ'.I x = some o) ∧ σ'.tok = σ.tok) σ) :
  CallsV S f args (fun v σ'=>(∃ v1 v2 l1 l2,v = G v1 v2 ∧ R l1 l2 ∧ IntsV σ'.frz v1 l1 ∧ IntsV σ'.frz v2 l2) ∧ σ.le σ') σ:=by
 refine h.okd fun v σ' w ok ⟨v1,v2,l1,l2,A,B,Y,hv,hR,hM,hA,hB,hI,ht⟩=>?_
 have s1:Shift σ' { σ' with M:=A ++ (B ++ σ.M) }:=(shift_perm hM).trans (shift_drop (σ:={ σ' with M:=Y ++ (A ++ (B ++ σ.M)) }) (M':=A ++ (B ++ σ.M)) (List.sublist_append_right ..))
 obtain ⟨σ₂,s2,ok2,i2,m2,t2,r2⟩:=hA.intsV (s1.2 w ok).1
 obtain ⟨I₂,M₂,k₂⟩:=σ₂
 simp only at m2 t2 i2
 subst m2
 obtain ⟨σ₃,s3,ok3,i3,m3,t3,r3⟩:=hB.intsV ok2
 refine ⟨σ₃,s1.trans (s2.trans s3),⟨v1,v2,l1,l2,hv,hR,r2.lg ⟨i3,⟨[],rfl⟩,t3⟩,r3⟩,fun x o h=>i3 x o (i2 x o (hI x o h)),m3,t3.trans (t2.trans ht)⟩
end Go.TM
namespace Go.Proofs
open Go.TM
set_option maxRecDepth 100000
variable {T:Type} {S:TM.Sys Tryz.prog T} {σ:View T}
attribute [local irreducible] CallsV YieldV rngX
theorem Tryz.becomes_ok (h:TH) (t:Tbl) (ht:TabV σ h t) (e x y:Int) (back:Bool) (he:-1000 < e ∧ e < 1000) :
  CallsV S 52 #[h.v,.int .i64 e,.int .i64 x,.int .i64 y,.bool back] (fun v σ'=>v = .bool (t.bec e x y back) ∧ σ' = σ) σ:=by
 refine CallsV.pure' (CallsV.of (args:=[_,_,_,_,_]) Tryz.k52 Tryz.mixed (by simp) ?_)
 have hml:=ht.mvs.1
 have hml2:=ht.ml
 (conv=>whnf);(repeat (refine ⟨rfl,?_⟩;conv=>whnf))
 intro b σ₁ h₁ hb
 have hb:Blk σ₁ b #[.slice h.ea h.el h.ec,.slice h.ma h.ml h.mc,.slice h.ka h.kl h.kc]:=hb
 (conv=>whnf)
 refine ⟨Nat,fun i=>[(1,.int .i64 e),(2,.int .i64 x),(3,.int .i64 y),(4,.bool back),(5,.pointer (some ⟨b,0,none⟩)),(11,.int .i64 i)],fun i σ'=>σ₁.le σ' ∧ i ≤ h.ml ∧ (t.mvs.take i).any (mvB e x y back) = false,fun i=>h.ml - i,0,⟨rfl,rfl,rfl,rfl,rfl,rfl,trivial⟩,⟨.refl _,by omega,rfl⟩,?_⟩
 rintro i f σ₂ ⟨h₂,hi,hno⟩
 have hb₂:=hb.le h₂
 have hlg₂:=(h₁.trans h₂).lg
 (conv=>whnf)
 refine ⟨_,hb₂.sees3 (o:=1) rfl,?_⟩
 (conv=>whnf);(repeat (refine ⟨rfl,?_⟩;conv=>whnf))
 refine cb_split (fun hc=>?_) (fun hc=>?_)
 ·have hlt:i < h.ml:=by simpa using hc
  obtain ⟨ad,m,vs,hx,hma,hsp,rfl,-,hrd⟩:=ht.mvs.at hlt
  have hin:InR (i + 1):=by unfold InR;omega
  have hlast:(t.mvs.take (i + 1)).any (mvB e x y back) = mvB e x y back m:=by rw [take_at hx,List.any_append,hno];simp
  have hyes:mvB e x y back m = true → t.bec e x y back = true:=fun h=>List.any_eq_true.2 ⟨m,List.mem_of_getElem? hx,h⟩
  (conv=>whnf)
  refine ⟨_,hb₂.sees3 (o:=1) rfl,?_⟩
  (conv=>whnf)
  refine ⟨ad,i,⟨hma,rfl,hlt⟩,?_⟩
  (conv=>whnf)
  refine ⟨[.int .i64 m.ed,.int .i64 m.fr,.int .i64 m.to],⟨rfl,hrd.lg hlg₂⟩,?_⟩
  (conv=>whnf)
  intro b12 hf12
  refine ⟨_,.refl _,?_⟩
  (conv=>whnf)
  refine ⟨rfl,st_new (vs:=[.int .i64 m.ed,.int .i64 m.fr,.int .i64 m.to]) hf12 rfl (by simp [Value.single]) fun σ₃ h₃ hb₁₂=>?_⟩
  have hb₁₂:Blk σ₃ b12 #[.int .i64 m.ed,.int .i64 m.fr,.int .i64 m.to]:=hb₁₂
  have hlg₃:=hlg₂.trans h₃.lg
  cases back with
  | false=>
   have hmv:mvB e x y false m = decide ((e,x,y) = mv3 m):=by unfold mvB;simp [eq_comm]
   (conv=>whnf)
   refine ⟨[.int .i64 m.ed,.int .i64 m.fr,.int .i64 m.to],⟨rfl,hb₁₂.reads (fun k v hv=>by simpa using hv)⟩,?_⟩
   (conv=>whnf)
   refine raw_eqS Tryz.s132 (vs:=[.int .i64 m.ed,.int .i64 m.fr,.int .i64 m.to]) (ws:=[.int .i64 e,.int .i64 x,.int .i64 y]) rfl rfl (by kernel_rfl) (by kernel_rfl) ?_
   rw [show eqvL [.int .i64 m.ed,.int .i64 m.fr,.int .i64 m.to] [.int .i64 e,.int .i64 x,.int .i64 y] = mvB e x y false m by rw [hmv];exact eqv3 ..]
   (conv=>whnf);(repeat (refine ⟨rfl,?_⟩;conv=>whnf))
   refine gb_split (fun hc=>?_) (fun hc=>?_)
   ·have hne:mvB e x y false m = false:=hc
    (conv=>whnf);(repeat (refine ⟨rfl,?_⟩;conv=>whnf))
    refine ⟨hin,?_⟩
    (conv=>whnf)
    exact ⟨rfl,i + 1,⟨rfl,rfl,rfl,rfl,rfl,rfl,trivial⟩,⟨h₂.trans h₃,by omega,by rw [hlast,hne]⟩,by show _ - _ < _ - _;omega⟩
   ·have hne:mvB e x y false m = true:=hc
    (conv=>whnf);(repeat (refine ⟨rfl,?_⟩;conv=>whnf))
    exact ⟨by rw [hyes hne],hlg₃⟩
  | true=>
   have hmv:mvB e x y true m = decide ((e - 1,y,x) = mv3 m):=by unfold mvB;simp [eq_comm]
   (conv=>whnf)
   refine ⟨[.int .i64 m.ed,.int .i64 m.fr,.int .i64 m.to],⟨rfl,hb₁₂.reads (fun k v hv=>by simpa using hv)⟩,?_⟩
   (conv=>whnf)
   refine ⟨by unfold InR;omega,?_⟩
   (conv=>whnf)
   refine raw_eqS Tryz.s132 (vs:=[.int .i64 m.ed,.int .i64 m.fr,.int .i64 m.to]) (ws:=[.int .i64 (e - 1),.int .i64 y,.int .i64 x]) rfl rfl (by kernel_rfl) (by kernel_rfl) ?_
   rw [show eqvL [.int .i64 m.ed,.int .i64 m.fr,.int .i64 m.to] [.int .i64 (e - 1),.int .i64 y,.int .i64 x] = mvB e x y true m by rw [hmv];exact eqv3 ..]
   (conv=>whnf);(repeat (refine ⟨rfl,?_⟩;conv=>whnf))
   refine cb_split (fun hc=>?_) (fun hc=>?_)
   ·have hne:mvB e x y true m = true:=hc
    (conv=>whnf);(repeat (refine ⟨rfl,?_⟩;conv=>whnf))
    exact ⟨by rw [hyes hne],hlg₃⟩
   ·have hne:mvB e x y true m = false:=hc
    (conv=>whnf)
    refine ⟨hin,?_⟩
    (conv=>whnf)
    exact ⟨rfl,i + 1,⟨rfl,rfl,rfl,rfl,rfl,rfl,trivial⟩,⟨h₂.trans h₃,by omega,by rw [hlast,hne]⟩,by show _ - _ < _ - _;omega⟩
 ·have hge:h.ml ≤ i:=by simpa using hc
  have hno':t.bec e x y back = false:=by
   rw [List.take_of_length_le (by omega)] at hno
   exact hno
  (conv=>whnf);(repeat (refine ⟨rfl,?_⟩;conv=>whnf))
  exact ⟨by rw [hno'],hlg₂⟩
end Go.Proofs
namespace Go.TM
theorem nums_any (f:Int → Bool) (n:Nat):(nums (n + 1)).any f = ((nums n).any f || f n):=by rw [nums_succ,List.any_append];simp
theorem nums_all (f:Int → Bool) (n:Nat):(nums (n + 1)).all f = ((nums n).all f && f n):=by rw [nums_succ,List.all_append];simp
theorem Tbl.sureL_succ (t:Tbl) (e:Int) (back:Bool) (s:List Int) (n:Nat):t.sureL e back s (n + 1) = t.sureL e back s n ++ (if (t.some1 e back (t.ni e) n && t.all1 e back s (t.ni e) n) = true then [(n:Int)] else []):=by
 unfold Tbl.sureL;rw [nums_succ,List.filter_append];simp [List.filter_cons]
theorem Tbl.canL_succ (t:Tbl) (e:Int) (back:Bool) (s:List Int) (n:Nat):t.canL e back s (n + 1) = t.canL e back s n ++ (if t.reach1 e back s (t.ni e) n = true then [(n:Int)] else []):=by
 unfold Tbl.canL;rw [nums_succ,List.filter_append];simp [List.filter_cons]
theorem Tbl.sureL_len (t:Tbl) (e:Int) (back:Bool) (s:List Int) (n:Nat):(t.sureL e back s n).length ≤ n:=by
 unfold Tbl.sureL;refine Nat.le_trans (List.length_filter_le ..) ?_;simp [nums]
theorem Tbl.canL_len (t:Tbl) (e:Int) (back:Bool) (s:List Int) (n:Nat):(t.canL e back s n).length ≤ n:=by
 unfold Tbl.canL;refine Nat.le_trans (List.length_filter_le ..) ?_;simp [nums]
theorem perm_swap {α:Type} (A B R:List α):(A ++ (B ++ R)).Perm (B ++ (A ++ R)):=by
 rw [← List.append_assoc,← List.append_assoc]
 exact List.Perm.append_right R List.perm_append_comm
end Go.TM
namespace Go.Proofs
open Go.TM
set_option maxRecDepth 100000
variable {T:Type} {S:TM.Sys Tryz.prog T} {σ:View T}
attribute [local irreducible] CallsV YieldV rngX
set_option maxHeartbeats 2000000 in
theorem Tryz.step_ok (h:TH) (t:Tbl) (ht:TabV σ.frz h t) (hfl:t.flaw = 0) (e:Int) (back:Bool) (he:t.isEd e = true) (hn:t.isEd (nextE e back) = true) (sA ca₀:Option Addr) (ls cs lc cq:Nat) (s c:List Int) (hs:Ints σ.frz sA ls s) (hc:Ints σ.frz ca₀ lc c) (hls:ls < 2 ^ 60) (hlc:lc < 2 ^ 60) :
  CallsV S 119 #[h.v,.int .i64 e,.slice sA ls cs,.slice ca₀ lc cq,.bool back] (fun v σ'=>(∃ v1 v2 l1 l2,v = .tuple #[v1,v2] ∧ (l1,l2) = t.stepL e back (s,c) ∧ IntsV σ'.frz v1 l1 ∧ IntsV σ'.frz v2 l2) ∧ σ.le σ') σ:=by
 refine CallsV.listed2 (G:=fun v1 v2=>.tuple #[v1,v2]) (R:=fun l1 l2=>(l1,l2) = t.stepL e back (s,c)) (CallsV.of (args:=[_,_,_,_,_]) Tryz.k119 Tryz.mixed (by simp) ?_)
 have he100:=Tbl.isEd_100 hfl he
 have h8n:=Tbl.ni8 hfl (nextE e back)
 have h8e:=Tbl.ni8 hfl e
 obtain ⟨ke,ade,ia,il,ic,hke',hke,hea,hse,hit⟩:=Tbl.isEd_at ht he
 obtain ⟨kn,adn,na,nl,nc,hkn',hkn,hna,hsn,hnt⟩:=Tbl.isEd_at ht hn
 subst hke'
 have hil:t.ni ke = il:=hit.1
 have hnl:t.ni (nextE ke back) = nl:=hnt.1
 generalize hE:nextE (ke:Int) back = E at hkn' hn hnl h8n hnt
 subst hkn'
 have hcI:=hc
 subst hil
 subst hnl
 (conv=>whnf);(repeat (refine ⟨rfl,?_⟩;conv=>whnf))
 intro b σ₁ h₁ hb
 have hb:Blk σ₁ b #[.slice h.ea h.el h.ec,.slice h.ma h.ml h.mc,.slice h.ka h.kl h.kc]:=hb
 (conv=>whnf)
 refine ⟨by unfold InR;omega,?_⟩
 (conv=>whnf);(repeat (refine ⟨rfl,?_⟩;conv=>whnf))
 refine cb_split (fun hcb=>?_) (fun hcb=>?_)
 all_goals
  first
   | ((conv=>whnf)
      refine ⟨by unfold InR;omega,?_⟩
      have hk:(ke:Int) - 1 = kn:=by rw [← hE];unfold nextE;rw [if_pos hcb]
      (conv=>whnf)
      refine ⟨Nat × Value × Value,fun y=>[(1,.int .i64 ke),(2,.slice sA ls cs),(3,.slice ca₀ lc cq),(4,.bool back),(5,.pointer (some ⟨b,0,none⟩)),(12,.int .i64 kn),(13,y.2.1),(14,y.2.2),(15,.int .i64 y.1)],
       fun y σ'=>∃ A B,σ'.M.Perm (A ++ (B ++ σ.M)) ∧ AccIn 3 1 y.2.1 ((t.sureL ke back s y.1).map fun n=>.int .i64 n) A ∧ AccIn 3 1 y.2.2 ((t.canL ke back c y.1).map fun n=>.int .i64 n) B ∧ (∀ x o,σ.I x = some o → σ'.I x = some o) ∧ σ'.tok = σ.tok ∧ (∀ x o,σ₁.I x = some o → σ'.I x = some o) ∧ y.1 ≤ t.ni kn,fun y=>t.ni kn - y.1,(0,.slice none 0 0,.slice none 0 0),
       ⟨rfl,rfl,rfl,rfl,rfl,by show Value.int .i64 ((ke:Int) - 1) = _;rw [hk],rfl,rfl,rfl,trivial⟩,⟨[],[],by rw [h₁.own];exact .refl _,.nil,.nil,h₁.imm,h₁.tok,fun _ _ h=>h,by simp⟩,?_⟩)
   | (have hk:(ke:Int) + 1 = kn:=by rw [← hE];unfold nextE;rw [hcb];rfl
      (conv=>whnf)
      refine ⟨Nat × Value × Value,fun y=>[(1,.int .i64 ke),(2,.slice sA ls cs),(3,.slice ca₀ lc cq),(4,.bool back),(5,.pointer (some ⟨b,0,none⟩)),(12,.int .i64 kn),(13,y.2.1),(14,y.2.2),(15,.int .i64 y.1)],
       fun y σ'=>∃ A B,σ'.M.Perm (A ++ (B ++ σ.M)) ∧ AccIn 3 1 y.2.1 ((t.sureL ke back s y.1).map fun n=>.int .i64 n) A ∧ AccIn 3 1 y.2.2 ((t.canL ke back c y.1).map fun n=>.int .i64 n) B ∧ (∀ x o,σ.I x = some o → σ'.I x = some o) ∧ σ'.tok = σ.tok ∧ (∀ x o,σ₁.I x = some o → σ'.I x = some o) ∧ y.1 ≤ t.ni kn,fun y=>t.ni kn - y.1,(0,.slice none 0 0,.slice none 0 0),
       ⟨rfl,rfl,rfl,rfl,rfl,by show Value.int .i64 ((ke:Int) + 1) = _;rw [hk],rfl,rfl,rfl,trivial⟩,⟨[],[],by rw [h₁.own];exact .refl _,.nil,.nil,h₁.imm,h₁.tok,fun _ _ h=>h,by simp⟩,?_⟩)
  clear hcb
  rintro ⟨y,v13,v14⟩ f σ₂ ⟨A,B,hM,hA,hB,hI,htk,hI₁,hy⟩
  simp only at hA hB hy
  obtain ⟨sa,sl,sc,rfl,-⟩:=hA.src
  obtain ⟨ca,cl,cc,rfl,-⟩:=hB.src
  have hz:σ.frz.lg σ₂:=⟨hI,⟨σ₂.M,by simp [View.frz]⟩,htk⟩
  have hb₂:=hb.imI hI₁
  have hsl:=t.sureL_len ke back s y
  have hcl:=t.canL_len ke back c y
  (conv=>whnf)
  refine ⟨_,hb₂.sees3 (o:=0) rfl,?_⟩
  (conv=>whnf)
  refine ⟨adn,kn,⟨hna,rfl,hkn⟩,?_⟩
  (conv=>whnf)
  refine ⟨_,hsn.lg hz,?_⟩
  (conv=>whnf);(repeat (refine ⟨rfl,?_⟩;conv=>whnf))
  refine cb_split (fun hc=>?_) (fun hc=>?_)
  ·have hlt:y < t.ni kn:=by simpa using hc
   have hin:InR ((y:Int) + 1):=by unfold InR;omega
   (conv=>whnf)
   refine ⟨Nat,fun x=>[(1,.int .i64 ke),(2,.slice sA ls cs),(3,.slice ca₀ lc cq),(4,.bool back),(5,.pointer (some ⟨b,0,none⟩)),(12,.int .i64 kn),(13,.slice sa sl sc),(14,.slice ca cl cc),(15,.int .i64 y),(16,.bool (t.some1 ke back x y)),(17,.bool (t.all1 ke back s x y)),(18,.bool (t.reach1 ke back c x y)),(19,.int .i64 x)],
    fun x σ'=>σ' = σ₂ ∧ x ≤ t.ni ke,fun x=>t.ni ke - x,0,⟨rfl,rfl,rfl,rfl,rfl,rfl,rfl,rfl,rfl,rfl,rfl,rfl,rfl,trivial⟩,⟨rfl,by omega⟩,?_⟩
   rintro x f σ' ⟨hσ',hx⟩
   obtain rfl:=hσ'.symm
   (conv=>whnf)
   refine ⟨_,hb₂.sees3 (o:=0) rfl,?_⟩
   (conv=>whnf)
   refine ⟨ade,ke,⟨hea,rfl,hke⟩,?_⟩
   (conv=>whnf)
   refine ⟨_,hse.lg hz,?_⟩
   (conv=>whnf);(repeat (refine ⟨rfl,?_⟩;conv=>whnf))
   refine cb_split (fun hc=>?_) (fun hc=>?_)
   ·have hxl:x < t.ni ke:=by simpa using hc
    have hinx:InR ((x:Int) + 1):=by unfold InR;omega
    have hs1:t.some1 ke back (x + 1) y = (t.some1 ke back x y || t.bec ke x y back):=nums_any ..
    have ha1:t.all1 ke back s (x + 1) y = (t.all1 ke back s x y && (!t.bec ke x y back || s.contains (x:Int))):=nums_all ..
    have hr1:t.reach1 ke back c (x + 1) y = (t.reach1 ke back c x y || (t.bec ke x y back && c.contains (x:Int))):=nums_any ..
    (conv=>whnf)
    refine ⟨_,⟨rfl,hb₂.rdT fun _ _ h=>h⟩,?_⟩
    (conv=>whnf)
    refine ⟨Tryz.k52.any,(Tryz.becomes_ok h t (ht.lg hz) ke x y back (by omega)).mono ?_⟩
    rintro _ σ' ⟨rfl,hσ'⟩ -
    obtain rfl:=hσ'.symm
    (conv=>whnf)
    refine cb_split (fun hc=>?_) (fun hc=>?_)
    ·have hbe:t.bec ke x y back = true:=hc
     rw [hbe,Bool.or_true] at hs1
     rw [hbe,Bool.not_true,Bool.false_or] at ha1
     rw [hbe,Bool.true_and] at hr1
     (conv=>whnf);(repeat (refine ⟨rfl,?_⟩;conv=>whnf))
     refine gb_split (fun hc=>?_) (fun hc=>?_)
     ·have hal:t.all1 ke back s x y = true:=hc
      rw [hal,Bool.true_and] at ha1
      (conv=>whnf)
      refine ⟨Tryz.k53.any,(Tryz.hasInt_ok sA ls cs s (hs.lg hz) hls x).mono ?_⟩
      rintro _ σ' ⟨rfl,hσ'⟩ -
      obtain rfl:=hσ'.symm
      (conv=>whnf);(repeat (refine ⟨rfl,?_⟩;conv=>whnf))
      refine gb_split (fun hc=>?_) (fun hc=>?_)
      ·have hre:t.reach1 ke back c x y = false:=hc
       rw [hre,Bool.false_or] at hr1
       (conv=>whnf)
       refine ⟨Tryz.k53.any,(Tryz.hasInt_ok ca₀ lc cq c (hcI.lg hz) hlc x).mono ?_⟩
       rintro _ σ' ⟨rfl,hσ'⟩ -
       obtain rfl:=hσ'.symm
       (conv=>whnf);(repeat (refine ⟨rfl,?_⟩;conv=>whnf))
       refine ⟨hinx,?_⟩
       (conv=>whnf)
       exact ⟨rfl,x + 1,⟨rfl,rfl,rfl,rfl,rfl,rfl,rfl,rfl,rfl,by rw [hs1];rfl,by rw [ha1];rfl,by rw [hr1];rfl,rfl,trivial⟩,⟨rfl,by omega⟩,by show _ - _ < _ - _;omega⟩
      ·have hre:t.reach1 ke back c x y = true:=hc
       rw [hre,Bool.true_or] at hr1
       (conv=>whnf);(repeat (refine ⟨rfl,?_⟩;conv=>whnf))
       refine ⟨hinx,?_⟩
       (conv=>whnf)
       exact ⟨rfl,x + 1,⟨rfl,rfl,rfl,rfl,rfl,rfl,rfl,rfl,rfl,by rw [hs1];rfl,by rw [ha1];rfl,by rw [hr1];rfl,rfl,trivial⟩,⟨rfl,by omega⟩,by show _ - _ < _ - _;omega⟩
     ·have hal:t.all1 ke back s x y = false:=hc
      rw [hal,Bool.false_and] at ha1
      (conv=>whnf);(repeat (refine ⟨rfl,?_⟩;conv=>whnf))
      refine gb_split (fun hc=>?_) (fun hc=>?_)
      ·have hre:t.reach1 ke back c x y = false:=hc
       rw [hre,Bool.false_or] at hr1
       (conv=>whnf)
       refine ⟨Tryz.k53.any,(Tryz.hasInt_ok ca₀ lc cq c (hcI.lg hz) hlc x).mono ?_⟩
       rintro _ σ' ⟨rfl,hσ'⟩ -
       obtain rfl:=hσ'.symm
       (conv=>whnf);(repeat (refine ⟨rfl,?_⟩;conv=>whnf))
       refine ⟨hinx,?_⟩
       (conv=>whnf)
       exact ⟨rfl,x + 1,⟨rfl,rfl,rfl,rfl,rfl,rfl,rfl,rfl,rfl,by rw [hs1];rfl,by rw [ha1];rfl,by rw [hr1];rfl,rfl,trivial⟩,⟨rfl,by omega⟩,by show _ - _ < _ - _;omega⟩
      ·have hre:t.reach1 ke back c x y = true:=hc
       rw [hre,Bool.true_or] at hr1
       (conv=>whnf);(repeat (refine ⟨rfl,?_⟩;conv=>whnf))
       refine ⟨hinx,?_⟩
       (conv=>whnf)
       exact ⟨rfl,x + 1,⟨rfl,rfl,rfl,rfl,rfl,rfl,rfl,rfl,rfl,by rw [hs1];rfl,by rw [ha1];rfl,by rw [hr1];rfl,rfl,trivial⟩,⟨rfl,by omega⟩,by show _ - _ < _ - _;omega⟩
    ·have hbe:t.bec ke x y back = false:=hc
     rw [hbe,Bool.or_false] at hs1
     rw [hbe,Bool.not_false,Bool.true_or,Bool.and_true] at ha1
     rw [hbe,Bool.false_and,Bool.or_false] at hr1
     (conv=>whnf)
     refine ⟨hinx,?_⟩
     (conv=>whnf)
     exact ⟨rfl,x + 1,⟨rfl,rfl,rfl,rfl,rfl,rfl,rfl,rfl,rfl,by rw [hs1];rfl,by rw [ha1];rfl,by rw [hr1];rfl,rfl,trivial⟩,⟨rfl,by omega⟩,by show _ - _ < _ - _;omega⟩
   ·have hge:t.ni ke ≤ x:=by simpa using hc
    obtain rfl:x = t.ni ke:=by omega
    clear hx
    (conv=>whnf);(repeat (refine ⟨rfl,?_⟩;conv=>whnf))
    refine gb_split (fun hc=>?_) (fun hc=>?_)
    ·have hsm:t.some1 ke back (t.ni ke) y = true:=hc
     (conv=>whnf);(repeat (refine ⟨rfl,?_⟩;conv=>whnf))
     refine cb_split (fun hc=>?_) (fun hc=>?_)
     ·have hal:t.all1 ke back s (t.ni ke) y = true:=hc
      (conv=>whnf)
      intro b71 hf71
      refine put_new_perm hf71 hM fun σ₄ i₄ t₄ m₄ hb₇₁=>?_
      have hb₇₁:Blk σ₄ b71 #[.int .i64 (y:Int)]:=hb₇₁
      (conv=>whnf)
      refine raw_app (v:=.slice sa sl sc) (cs:=(t.sureL ke back s y).map fun n=>.int .i64 n) (new:=[.int .i64 (y:Int)]) (M₀:=B ++ σ.M) Tryz.sl27 rfl rfl (by rw [m₄];exact hA _) (.inr ⟨_,rfl,hb₇₁.reads (fun k v hv=>by simpa using hv)⟩) rfl (by simp [Value.single]) (by have:=hsl;simp;omega) fun v' M' ha' _=>?_
      obtain ⟨A',rfl,hA'⟩:=ha'.split
      have hA':AccIn 3 1 v' ((t.sureL ke back s (y + 1)).map fun n=>.int .i64 n) A':=by rw [t.sureL_succ,hsm,hal];simpa using hA'
      obtain ⟨sa',sl',sc',rfl,-⟩:=hA'.src
      have hM₄:({ σ₄ with M:=A' ++ (B ++ σ.M) }:View T).M.Perm (A' ++ (B ++ σ.M)):=List.Perm.refl _
      have hI₄:∀ x o,σ.I x = some o → ({ σ₄ with M:=A' ++ (B ++ σ.M) }:View T).I x = some o:=fun x o h=>i₄ x o (hI x o h)
      have ht₄:({ σ₄ with M:=A' ++ (B ++ σ.M) }:View T).tok = σ.tok:=t₄.trans htk
      have hJ₄:∀ x o,σ₁.I x = some o → ({ σ₄ with M:=A' ++ (B ++ σ.M) }:View T).I x = some o:=fun x o h=>i₄ x o (hI₁ x o h)
      generalize ({ σ₄ with M:=A' ++ (B ++ σ.M) }:View T) = σ₄' at hM₄ hI₄ ht₄ hJ₄ ⊢
      (conv=>whnf);(repeat (refine ⟨rfl,?_⟩;conv=>whnf))
      refine cb_split (fun hc=>?_) (fun hc=>?_)
      ·have hr:t.reach1 ke back c (t.ni ke) (y:Int) = true:=hc
       (conv=>whnf)
       intro b76 hf76
       refine put_new_perm hf76 (M':=B ++ (A' ++ σ.M)) (hM₄.trans (perm_swap A' B σ.M)) fun σ₅ i₅ t₅ m₅ hb₇₆=>?_
       have hb₇₆:Blk σ₅ b76 #[.int .i64 (y:Int)]:=hb₇₆
       (conv=>whnf)
       refine raw_app (v:=.slice ca cl cc) (cs:=(t.canL ke back c y).map fun n=>.int .i64 n) (new:=[.int .i64 (y:Int)]) (M₀:=A' ++ σ.M) Tryz.sl27 rfl rfl (by rw [m₅];exact hB _) (.inr ⟨_,rfl,hb₇₆.reads (fun k v hv=>by simpa using hv)⟩) rfl (by simp [Value.single]) (by have:=hcl;simp;omega) fun v' M' ha' _=>?_
       obtain ⟨B',rfl,hB'⟩:=ha'.split
       have hB':AccIn 3 1 v' ((t.canL ke back c (y + 1)).map fun n=>.int .i64 n) B':=by rw [t.canL_succ,hr];simpa using hB'
       obtain ⟨_,_,_,rfl,-⟩:=hB'.src
       (conv=>whnf)
       refine ⟨hin,?_⟩
       (conv=>whnf)
       exact ⟨rfl,(y + 1,.slice sa' sl' sc',_),⟨rfl,rfl,rfl,rfl,rfl,rfl,rfl,rfl,rfl,trivial⟩,⟨A',B',perm_swap B' A' σ.M,hA',hB',fun x o h=>i₅ x o (hI₄ x o h),t₅.trans ht₄,fun x o h=>i₅ x o (hJ₄ x o h),by show y + 1 ≤ t.ni kn;omega⟩,by show _ - _ < _ - _;omega⟩
      ·have hr:t.reach1 ke back c (t.ni ke) (y:Int) = false:=hc
       (conv=>whnf)
       refine ⟨hin,?_⟩
       (conv=>whnf)
       exact ⟨rfl,(y + 1,.slice sa' sl' sc',.slice ca cl cc),⟨rfl,rfl,rfl,rfl,rfl,rfl,rfl,rfl,rfl,trivial⟩,⟨A',B,hM₄,hA',by rw [t.canL_succ,hr];simpa using hB,hI₄,ht₄,hJ₄,by show y + 1 ≤ t.ni kn;omega⟩,by show _ - _ < _ - _;omega⟩
     ·have hboth:(t.some1 ke back (t.ni ke) y && t.all1 ke back s (t.ni ke) y) = false:=by rw [show t.all1 ke back s (t.ni ke) y = false from hc,Bool.and_false]
      have hA':AccIn 3 1 (.slice sa sl sc) ((t.sureL ke back s (y + 1)).map fun n=>.int .i64 n) A:=by rw [t.sureL_succ,hboth];simpa using hA
      have hM₄:=hM
      have hI₄:=hI
      have ht₄:=htk
      have hJ₄:=hI₁
      (conv=>whnf);(repeat (refine ⟨rfl,?_⟩;conv=>whnf))
      refine cb_split (fun hc=>?_) (fun hc=>?_)
      ·have hr:t.reach1 ke back c (t.ni ke) (y:Int) = true:=hc
       (conv=>whnf)
       intro b76 hf76
       refine put_new_perm hf76 (M':=B ++ (A ++ σ.M)) (hM₄.trans (perm_swap A B σ.M)) fun σ₅ i₅ t₅ m₅ hb₇₆=>?_
       have hb₇₆:Blk σ₅ b76 #[.int .i64 (y:Int)]:=hb₇₆
       (conv=>whnf)
       refine raw_app (v:=.slice ca cl cc) (cs:=(t.canL ke back c y).map fun n=>.int .i64 n) (new:=[.int .i64 (y:Int)]) (M₀:=A ++ σ.M) Tryz.sl27 rfl rfl (by rw [m₅];exact hB _) (.inr ⟨_,rfl,hb₇₆.reads (fun k v hv=>by simpa using hv)⟩) rfl (by simp [Value.single]) (by have:=hcl;simp;omega) fun v' M' ha' _=>?_
       obtain ⟨B',rfl,hB'⟩:=ha'.split
       have hB':AccIn 3 1 v' ((t.canL ke back c (y + 1)).map fun n=>.int .i64 n) B':=by rw [t.canL_succ,hr];simpa using hB'
       obtain ⟨_,_,_,rfl,-⟩:=hB'.src
       (conv=>whnf)
       refine ⟨hin,?_⟩
       (conv=>whnf)
       exact ⟨rfl,(y + 1,.slice sa sl sc,_),⟨rfl,rfl,rfl,rfl,rfl,rfl,rfl,rfl,rfl,trivial⟩,⟨A,B',perm_swap B' A σ.M,hA',hB',fun x o h=>i₅ x o (hI₄ x o h),t₅.trans ht₄,fun x o h=>i₅ x o (hJ₄ x o h),by show y + 1 ≤ t.ni kn;omega⟩,by show _ - _ < _ - _;omega⟩
      ·have hr:t.reach1 ke back c (t.ni ke) (y:Int) = false:=hc
       (conv=>whnf)
       refine ⟨hin,?_⟩
       (conv=>whnf)
       exact ⟨rfl,(y + 1,.slice sa sl sc,.slice ca cl cc),⟨rfl,rfl,rfl,rfl,rfl,rfl,rfl,rfl,rfl,trivial⟩,⟨A,B,hM₄,hA',by rw [t.canL_succ,hr];simpa using hB,hI₄,ht₄,hJ₄,by show y + 1 ≤ t.ni kn;omega⟩,by show _ - _ < _ - _;omega⟩
    ·have hboth:(t.some1 ke back (t.ni ke) y && t.all1 ke back s (t.ni ke) y) = false:=by rw [show t.some1 ke back (t.ni ke) y = false from hc,Bool.false_and]
     have hA':AccIn 3 1 (.slice sa sl sc) ((t.sureL ke back s (y + 1)).map fun n=>.int .i64 n) A:=by rw [t.sureL_succ,hboth];simpa using hA
     have hM₄:=hM
     have hI₄:=hI
     have ht₄:=htk
     have hJ₄:=hI₁
     (conv=>whnf);(repeat (refine ⟨rfl,?_⟩;conv=>whnf))
     refine cb_split (fun hc=>?_) (fun hc=>?_)
     ·have hr:t.reach1 ke back c (t.ni ke) (y:Int) = true:=hc
      (conv=>whnf)
      intro b76 hf76
      refine put_new_perm hf76 (M':=B ++ (A ++ σ.M)) (hM₄.trans (perm_swap A B σ.M)) fun σ₅ i₅ t₅ m₅ hb₇₆=>?_
      have hb₇₆:Blk σ₅ b76 #[.int .i64 (y:Int)]:=hb₇₆
      (conv=>whnf)
      refine raw_app (v:=.slice ca cl cc) (cs:=(t.canL ke back c y).map fun n=>.int .i64 n) (new:=[.int .i64 (y:Int)]) (M₀:=A ++ σ.M) Tryz.sl27 rfl rfl (by rw [m₅];exact hB _) (.inr ⟨_,rfl,hb₇₆.reads (fun k v hv=>by simpa using hv)⟩) rfl (by simp [Value.single]) (by have:=hcl;simp;omega) fun v' M' ha' _=>?_
      obtain ⟨B',rfl,hB'⟩:=ha'.split
      have hB':AccIn 3 1 v' ((t.canL ke back c (y + 1)).map fun n=>.int .i64 n) B':=by rw [t.canL_succ,hr];simpa using hB'
      obtain ⟨_,_,_,rfl,-⟩:=hB'.src
      (conv=>whnf)
      refine ⟨hin,?_⟩
      (conv=>whnf)
      exact ⟨rfl,(y + 1,.slice sa sl sc,_),⟨rfl,rfl,rfl,rfl,rfl,rfl,rfl,rfl,rfl,trivial⟩,⟨A,B',perm_swap B' A σ.M,hA',hB',fun x o h=>i₅ x o (hI₄ x o h),t₅.trans ht₄,fun x o h=>i₅ x o (hJ₄ x o h),by show y + 1 ≤ t.ni kn;omega⟩,by show _ - _ < _ - _;omega⟩
     ·have hr:t.reach1 ke back c (t.ni ke) (y:Int) = false:=hc
      (conv=>whnf)
      refine ⟨hin,?_⟩
      (conv=>whnf)
      exact ⟨rfl,(y + 1,.slice sa sl sc,.slice ca cl cc),⟨rfl,rfl,rfl,rfl,rfl,rfl,rfl,rfl,rfl,trivial⟩,⟨A,B,hM₄,hA',by rw [t.canL_succ,hr];simpa using hB,hI₄,ht₄,hJ₄,by show y + 1 ≤ t.ni kn;omega⟩,by show _ - _ < _ - _;omega⟩
  ·have hge:t.ni kn ≤ y:=by simpa using hc
   obtain rfl:y = t.ni kn:=by omega
   (conv=>whnf);(repeat (refine ⟨rfl,?_⟩;conv=>whnf))
   exact ⟨_,_,_,_,A,B,[],rfl,by unfold Tbl.stepL;rw [hE],hM,hA,hB,hI,htk⟩
end Go.Proofs
namespace Go.TM
variable {T:Type} {σ:View T}
theorem Ints.src {a:Option Addr} {len:Nat} {l:List Int} (h:Ints σ a len l):Src σ a (l.map fun n=>.int .i64 n):=by
 cases l with
 | nil=>
  cases a with
  | none=>exact .inl ⟨rfl,rfl⟩
  | some ad=>exact .inr ⟨ad,rfl,fun i v hv=>by simp at hv⟩
 | cons x r=>
  obtain ⟨ad,rfl,hs,-⟩:=h.2 0 x rfl
  refine .inr ⟨ad,rfl,fun i v hv=>?_⟩
  rw [List.getElem?_map] at hv
  cases e:(x :: r)[i]? with
  | none=>rw [e] at hv;simp at hv
  | some y=>
   rw [e] at hv
   simp at hv
   subst hv
   obtain ⟨ad',e',_,h'⟩:=h.2 i y e
   cases e'
   rwa [Nat.mul_one] at h'
theorem Tbl.stepL_len {t:Tbl} (hf:t.flaw = 0) (e:Int) (back:Bool) (p:List Int × List Int):(t.stepL e back p).1.length ≤ 8 ∧ (t.stepL e back p).2.length ≤ 8:=by
 have h:=Tbl.ni8 hf (nextE e back)
 exact ⟨Nat.le_trans (t.sureL_len ..) h,Nat.le_trans (t.canL_len ..) h⟩
theorem isEd_btw {t:Tbl} {a b e:Int} (ha:t.isEd a = true) (hb:t.isEd b = true) (h1:a ≤ e) (h2:e ≤ b):t.isEd e = true:=by
 unfold Tbl.isEd btw at *
 simp only [Bool.and_eq_true,decide_eq_true_eq] at *
 omega
end Go.TM
namespace Go.Proofs
open Go.TM
set_option maxRecDepth 100000
variable {T:Type} {S:TM.Sys Tryz.prog T} {σ:View T}
attribute [local irreducible] CallsV YieldV rngX
set_option maxHeartbeats 2000000 in
theorem Tryz.moved_ok (h:TH) (t:Tbl) (ht:TabV σ.frz h t) (hfl:t.flaw = 0) (fr to:Int) (hf:t.isEd fr = true) (hto:t.isEd to = true) (a:Option Addr) (len cap:Nat) (l:List Int) (hl:Ints σ.frz a len l) (hlen:len ≤ 8) :
  CallsV S 81 #[h.v,.int .i64 fr,.int .i64 to,.slice a len cap] (fun v σ'=>(∃ v1 v2 l1 l2,v = .tuple #[v1,v2] ∧ (l1,l2) = t.movedL fr to l ∧ IntsV σ'.frz v1 l1 ∧ IntsV σ'.frz v2 l2) ∧ σ.le σ') σ:=by
 refine CallsV.listed2 (G:=fun v1 v2=>.tuple #[v1,v2]) (R:=fun l1 l2=>(l1,l2) = t.movedL fr to l) (CallsV.of (args:=[_,_,_,_]) Tryz.k81 Tryz.mixed (by simp) ?_)
 have hf100:=Tbl.isEd_100 hfl hf
 have ht100:=Tbl.isEd_100 hfl hto
 have hll:=hl.1
 (conv=>whnf);(repeat (refine ⟨rfl,?_⟩;conv=>whnf))
 intro b σ₁ h₁ hb
 have hb:Blk σ₁ b #[.slice h.ea h.el h.ec,.slice h.ma h.ml h.mc,.slice h.ka h.kl h.kc]:=hb
 have hz₁:σ.frz.lg σ₁.frz:=⟨h₁.imm,⟨[],rfl⟩,h₁.tok⟩
 (conv=>whnf)
 refine ⟨Int × Value × Value,fun y=>[(1,.int .i64 fr),(2,.int .i64 to),(4,.pointer (some ⟨b,0,none⟩)),(10,y.2.1),(11,y.2.2),(12,.int .i64 y.1)],
  fun y σ'=>σ₁.le σ' ∧ t.isEd y.1 = true ∧ (fr ≤ to → fr ≤ y.1 ∧ y.1 ≤ to) ∧ (to < fr → y.1 = fr) ∧ ∃ p:List Int × List Int,IntsV σ'.frz y.2.1 p.1 ∧ IntsV σ'.frz y.2.2 p.2 ∧ p.1.length ≤ 8 ∧ p.2.length ≤ 8 ∧ t.movedL fr to l = if to < fr then t.stepN true (fr - to).toNat fr p else t.stepN false (to - y.1).toNat y.1 p,
  fun y=>(to - y.1).toNat,(fr,.slice a len cap,.slice a len cap),⟨rfl,rfl,rfl,rfl,rfl,rfl,trivial⟩,
  ⟨.refl _,hf,fun h=>⟨by simp,h⟩,fun _=>rfl,(l,l),⟨a,cap,by rw [hll],by rw [hll];exact hl.lg hz₁⟩,⟨a,cap,by rw [hll],by rw [hll];exact hl.lg hz₁⟩,by rw [hll];exact hlen,by rw [hll];exact hlen,rfl⟩,?_⟩
 rintro ⟨e,v10,v11⟩ f σ₂ ⟨h₂,he,hup,hdn,p,h10,h11,hp1,hp2,hinv⟩
 simp only at he hup hdn h10 h11 hinv
 obtain ⟨a10,c10,rfl,h10⟩:=h10
 obtain ⟨a11,c11,rfl,h11⟩:=h11
 have hb₂:=hb.le h₂
 have hz₂:σ₁.frz.lg σ₂.frz:=⟨h₂.imm,⟨[],rfl⟩,h₂.tok⟩
 have he100:=Tbl.isEd_100 hfl he
 (conv=>whnf);(repeat (refine ⟨rfl,?_⟩;conv=>whnf))
 refine cb_split (fun hc=>?_) (fun hc=>?_)
 ·have hlt:e < to:=by simpa using hc
  have hle:¬ to < fr:=fun h=>by have:=hdn h;omega
  have hup:=hup (by omega)
  rw [if_neg hle] at hinv
  have hnx:t.isEd (nextE e false) = true:=isEd_btw hf hto (by unfold nextE;simp;omega) (by unfold nextE;simp;omega)
  have hst:(to - e).toNat = (to - (e + 1)).toNat + 1:=by omega
  rw [hst,Tbl.stepN] at hinv
  (conv=>whnf)
  refine ⟨_,⟨rfl,hb₂.rdT fun _ _ h=>h⟩,?_⟩
  (conv=>whnf)
  refine ⟨Tryz.k119.any,(Tryz.step_ok h t (ht.lg (hz₁.trans hz₂)) hfl e false he hnx a10 a11 _ c10 _ c11 p.1 p.2 h10 h11 (by omega) (by omega)).mono ?_⟩
  rintro _ σ₃ ⟨⟨w1,w2,l1,l2,rfl,hl12,i1,i2⟩,h₃⟩ -
  obtain ⟨n1,n2⟩:l1.length ≤ 8 ∧ l2.length ≤ 8:=by
   have:=Tbl.stepL_len hfl e false (p.1,p.2)
   rw [← hl12] at this;exact this
  obtain ⟨b1,d1,rfl,i1⟩:=i1
  obtain ⟨b2,d2,rfl,i2⟩:=i2
  (conv=>whnf)
  refine ⟨by unfold InR;omega,?_⟩
  (conv=>whnf)
  refine ⟨rfl,(e + 1,_,_),⟨rfl,rfl,rfl,rfl,rfl,rfl,trivial⟩,⟨h₂.trans h₃,by simpa [nextE] using hnx,fun _=>⟨by show fr ≤ e + 1;omega,by show e + 1 ≤ to;omega⟩,fun h=>absurd h hle,(l1,l2),⟨b1,d1,rfl,i1⟩,⟨b2,d2,rfl,i2⟩,n1,n2,?_⟩,by show (to - (e + 1)).toNat < (to - e).toNat;omega⟩
  rw [if_neg hle,hinv,hl12]
  rfl
 have hge:to ≤ e:=by simpa using hc
 have hinv:(to < fr → t.movedL fr to l = t.stepN true (fr - to).toNat fr p) ∧ (fr ≤ to → t.movedL fr to l = p):=by
  refine ⟨fun h=>by rw [hinv,if_pos h],fun h=>?_⟩
  rw [hinv,if_neg (by omega),show (to - e).toNat = 0 by omega]
  rfl
 clear hdn hup
 (conv=>whnf)
 refine ⟨Int × Value × Value,fun y=>[(1,.int .i64 fr),(2,.int .i64 to),(4,.pointer (some ⟨b,0,none⟩)),(10,y.2.1),(11,y.2.2),(13,.int .i64 y.1)],
  fun y σ'=>σ₂.le σ' ∧ t.isEd y.1 = true ∧ y.1 ≤ fr ∧ (to < fr → to ≤ y.1) ∧ (fr ≤ to → y.1 = fr) ∧ ∃ p:List Int × List Int,IntsV σ'.frz y.2.1 p.1 ∧ IntsV σ'.frz y.2.2 p.2 ∧ p.1.length ≤ 8 ∧ p.2.length ≤ 8 ∧ (to < fr → t.movedL fr to l = t.stepN true (y.1 - to).toNat y.1 p) ∧ (fr ≤ to → t.movedL fr to l = p),
  fun y=>(y.1 - to).toNat,(fr,.slice a10 p.1.length c10,.slice a11 p.2.length c11),⟨rfl,rfl,rfl,rfl,rfl,rfl,trivial⟩,
  ⟨.refl _,hf,by simp,fun h=>by simp;omega,fun _=>rfl,p,⟨a10,c10,rfl,h10⟩,⟨a11,c11,rfl,h11⟩,hp1,hp2,hinv⟩,?_⟩
 clear hinv h10 h11 hp1 hp2 hge he he100 hc
 rintro ⟨e,v10,v11⟩ f σ₃ ⟨h₃,he,hefr,hup,hdn,q,h10,h11,hp1,hp2,hinv1,hinv2⟩
 simp only at he hup hdn h10 h11 hinv1 hefr
 obtain ⟨a10,c10,rfl,h10⟩:=h10
 obtain ⟨a11,c11,rfl,h11⟩:=h11
 have hb₃:=hb₂.le h₃
 have hz₃:σ₂.frz.lg σ₃.frz:=⟨h₃.imm,⟨[],rfl⟩,h₃.tok⟩
 have he100:=Tbl.isEd_100 hfl he
 (conv=>whnf);(repeat (refine ⟨rfl,?_⟩;conv=>whnf))
 refine cb_split (fun hc=>?_) (fun hc=>?_)
 ·have hlt:to < e:=by simpa using hc
  have hle:to < fr:=by omega
  have hup:=hup hle
  have hinv:=hinv1 hle
  have hnx:t.isEd (nextE e true) = true:=isEd_btw hto hf (by unfold nextE;simp;omega) (by unfold nextE;simp;omega)
  have hst:(e - to).toNat = (e - 1 - to).toNat + 1:=by omega
  rw [hst,Tbl.stepN] at hinv
  (conv=>whnf)
  refine ⟨_,⟨rfl,hb₃.rdT fun _ _ h=>h⟩,?_⟩
  (conv=>whnf)
  refine ⟨Tryz.k119.any,(Tryz.step_ok h t (ht.lg (hz₁.trans (hz₂.trans hz₃))) hfl e true he hnx a10 a11 _ c10 _ c11 q.1 q.2 h10 h11 (by omega) (by omega)).mono ?_⟩
  rintro _ σ₄ ⟨⟨w1,w2,l1,l2,rfl,hl12,i1,i2⟩,h₄⟩ -
  obtain ⟨n1,n2⟩:l1.length ≤ 8 ∧ l2.length ≤ 8:=by
   have:=Tbl.stepL_len hfl e true (q.1,q.2)
   rw [← hl12] at this;exact this
  obtain ⟨b1,d1,rfl,i1⟩:=i1
  obtain ⟨b2,d2,rfl,i2⟩:=i2
  (conv=>whnf)
  refine ⟨by unfold InR;omega,?_⟩
  (conv=>whnf)
  refine ⟨rfl,(e - 1,_,_),⟨rfl,rfl,rfl,rfl,rfl,rfl,trivial⟩,⟨h₃.trans h₄,by simpa [nextE] using hnx,by show e - 1 ≤ fr;omega,fun _=>by show to ≤ e - 1;omega,fun h=>absurd h (by omega),(l1,l2),⟨b1,d1,rfl,i1⟩,⟨b2,d2,rfl,i2⟩,n1,n2,fun _=>?_,fun h=>absurd h (by omega)⟩,by show (e - 1 - to).toNat < (e - to).toNat;omega⟩
  rw [hinv,hl12]
  rfl
 have hge:e ≤ to:=by simpa using hc
 have hmov:t.movedL fr to l = q:=by
  by_cases h:to < fr
  ·rw [hinv1 h,show (e - to).toNat = 0 by have:=hup h;omega]
   rfl
  ·exact hinv2 (by omega)
 have h10':=h10.lg frz_self
 have h11':=h11.lg frz_self
 (conv=>whnf)
 intro b44 hf44
 refine ⟨_,.refl _,?_⟩
 (conv=>whnf)
 refine raw_app (v:=.slice (some ⟨b44,0,none⟩) 0 0) (cs:=[]) (new:=q.1.map fun n=>.int .i64 n) (M₀:=σ₃.M) Tryz.sl27 rfl rfl .empty (h10'.lg (lg_put ..)).src (by simp) (by simp [Value.single]) (by simp;omega) fun v1 M' ha1 _=>?_
 obtain ⟨A,rfl,hA⟩:=ha1.split
 obtain ⟨_,_,_,rfl,-⟩:=hA.src
 (conv=>whnf)
 intro b47 hf47
 refine ⟨_,.refl _,?_⟩
 have hI:∀ x o,σ₃.I x = some o → (View.put { σ₃.put b44 (.cells #[] 3) with M:=A ++ σ₃.M } b47 (.cells #[] 3)).I x = some o:=fun x o h=>h
 (conv=>whnf)
 refine raw_app (v:=.slice (some ⟨b47,0,none⟩) 0 0) (cs:=[]) (new:=q.2.map fun n=>.int .i64 n) (M₀:=A ++ σ₃.M) Tryz.sl27 rfl rfl .empty (h11.lg (⟨hI,⟨_,(List.append_nil _).symm⟩,rfl⟩:σ₃.frz.lg _)).src (by simp) (by simp [Value.single]) (by simp;omega) fun v2 M' ha2 _=>?_
 obtain ⟨B,rfl,hB⟩:=ha2.split
 obtain ⟨_,_,_,rfl,-⟩:=hB.src
 (conv=>whnf);(repeat (refine ⟨rfl,?_⟩;conv=>whnf))
 refine ⟨_,_,q.1,q.2,A,B,[],rfl,hmov.symm,?_,by simpa using hA,by simpa using hB,fun x o h=>h₃.imm x o (h₂.imm x o (h₁.imm x o h)),h₃.tok.trans (h₂.tok.trans h₁.tok)⟩
 rw [h₃.own,h₂.own,h₁.own]
 exact perm_swap B A σ.M
end Go.Proofs
namespace Go.TM
variable {T:Type} {P:Program} {S:Sys P T} {σ:View T}
theorem CallsV.let_go {f:FuncId} {args:Array Value} {R:Value → View T → Prop} (hR:∀ v (a b:View T),a.frz.lg b.frz → R v a.frz → R v b.frz) (h:CallsV S f args (fun v σ'=>R v σ'.frz ∧ σ.lg σ') σ):CallsV S f args (fun v σ'=>R v σ'.frz ∧ σ.le σ') σ:=
 h.post fun v σ' ⟨hr,hl⟩=>let ⟨σ'',h1,h2,h3⟩:=hl.shift;⟨σ'',h1,hR v σ' σ'' ⟨fun b o h=>by show σ''.I b = _;rw [h3];exact h,⟨[],rfl⟩,h2.tok.trans hl.tok.symm⟩ hr,h2⟩
end Go.TM
namespace Go.Proofs
open Go.TM
set_option maxRecDepth 100000
variable {T:Type} {S:TM.Sys Tryz.prog T} {σ:View T}
attribute [local irreducible] CallsV YieldV rngX
end Go.Proofs
namespace Go.TM
structure Tbl.Lst (t:Tbl) (e:Int) (l:List Int):Prop where
 asc:Asc l
 its:∀ x ∈ l,t.isItem e x = true
theorem Tbl.chk_of {t:Tbl} {e:Int}:∀ {l:List Int} {p:Option Int},(∀ m,p = some m → ∀ x ∈ l,m < x) → Asc l → (∀ x ∈ l,t.isItem e x = true) → t.chk e p l = 0
 | [],_,_,_,_=>rfl
 | a :: l,p,hp,ha,hi=>by
  have ha':=List.pairwise_cons.1 ha
  have ih:t.chk e (some a) l = 0:=Tbl.chk_of (fun m e x hx=>by cases e;exact ha'.1 x hx) ha'.2 fun x hx=>hi x (List.mem_cons_of_mem _ hx)
  rw [Tbl.chk_cons,if_pos (hi a (List.mem_cons_self ..))]
  cases p with
  | none=>exact ih
  | some m=>
   have:=hp m rfl a (List.mem_cons_self ..)
   show (if a ≤ m then (7:Int) else _) = 0
   rw [if_neg (by omega)];exact ih
theorem Tbl.Lst.chk {t:Tbl} {e:Int} {l:List Int} (h:t.Lst e l):t.chk e none l = 0:=Tbl.chk_of (fun m e=>by cases e) h.asc h.its
theorem Tbl.Lst.of {t:Tbl} {e:Int} {l:List Int} (h:t.chk e none l = 0):t.Lst e l:=⟨(Tbl.chk_asc h).1,fun x hx=>chk_items h x hx⟩
theorem Tbl.Lst.filter {t:Tbl} {e:Int} {l:List Int} (h:t.Lst e l) (p:Int → Bool):t.Lst e (l.filter p):=⟨h.asc.filter p,fun x hx=>h.its x (List.mem_filter.1 hx).1⟩
theorem Tbl.Lst.len {t:Tbl} {e:Int} {l:List Int} (hf:t.flaw = 0) (h:t.Lst e l):l.length ≤ 8:=by
 rcases chk_len hf h.chk (by simp) with rfl | h
 ·simp
 ·exact h
theorem Tbl.chkAll_of {t:Tbl} {e:Int}:∀ {ls:List (List Int)},(∀ l ∈ ls,t.Lst e l) → t.chkAll e ls = 0
 | [],_=>rfl
 | l :: ls,h=>by
  rw [Tbl.chkAll,if_pos (h l (List.mem_cons_self ..)).chk]
  exact Tbl.chkAll_of fun l hl=>h l (List.mem_cons_of_mem _ hl)
theorem Tbl.openF_of {t:Tbl} (hf:t.flaw = 0) {e:Int} (he:t.isEd e = true) {ls:List (List Int)} (h:∀ l ∈ ls,t.Lst e l):t.openF e ls = 0:=by
 unfold Tbl.openF
 rw [if_pos hf,if_pos he];exact Tbl.chkAll_of h
theorem Tbl.moveF_of {t:Tbl} (hf:t.flaw = 0) {x y:Int} (hx:t.isEd x = true) (hy:t.isEd y = true) {l:List Int} (h:t.Lst x l):t.moveF x y l = 0:=by
 unfold Tbl.moveF
 rw [if_pos hf,hx,hy];exact h.chk
section
variable {t:Tbl}
def Tbl.sure (t:Tbl) (e:Int) (back:Bool) (s:List Int):List Int:=t.sureL e back s (t.ni (nextE e back))
def Tbl.can (t:Tbl) (e:Int) (back:Bool) (s:List Int):List Int:=t.canL e back s (t.ni (nextE e back))
theorem Tbl.mem_sure (hf:t.flaw = 0) {e:Int} {back:Bool} {s:List Int} {y:Int}:y ∈ t.sure e back s ↔ (∃ x,t.bec e x y back = true) ∧ ∀ x,t.bec e x y back = true → x ∈ s:=by
 unfold Tbl.sure
 simp only [Tbl.sureL,List.mem_filter,mem_nums,Bool.and_eq_true,Tbl.some1,Tbl.all1,List.any_eq_true,List.all_eq_true,Bool.or_eq_true,Bool.not_eq_true']
 constructor
 ·rintro ⟨-,⟨x,-,hx⟩,hall⟩
  refine ⟨⟨x,hx⟩,fun x' hx'=>?_⟩
  rcases hall x' (Tbl.isItem_iff.1 (Tbl.bec_items hf hx').1) with h | h
  ·rw [hx'] at h;cases h
  ·simpa using h
 ·rintro ⟨⟨x,hx⟩,hall⟩
  refine ⟨Tbl.isItem_iff.1 (Tbl.bec_items hf hx).2,⟨x,Tbl.isItem_iff.1 (Tbl.bec_items hf hx).1,hx⟩,fun x' _=>?_⟩
  by_cases h:t.bec e x' y back = true
  ·right;simpa using hall x' h
  ·left;simpa using h
theorem Tbl.mem_can (hf:t.flaw = 0) {e:Int} {back:Bool} {s:List Int} {y:Int}:y ∈ t.can e back s ↔ ∃ x,t.bec e x y back = true ∧ x ∈ s:=by
 unfold Tbl.can
 simp only [Tbl.canL,List.mem_filter,mem_nums,Tbl.reach1,List.any_eq_true,Bool.and_eq_true,List.contains_iff_mem]
 constructor
 ·rintro ⟨-,x,-,h1,h2⟩;exact ⟨x,h1,h2⟩
 ·rintro ⟨x,h1,h2⟩
  exact ⟨Tbl.isItem_iff.1 (Tbl.bec_items hf h1).2,x,Tbl.isItem_iff.1 (Tbl.bec_items hf h1).1,h1,h2⟩
theorem Tbl.asc_sure (t:Tbl) (e:Int) (back:Bool) (s:List Int):Asc (t.sure e back s):=(asc_nums _).filter _
theorem Tbl.asc_can (t:Tbl) (e:Int) (back:Bool) (s:List Int):Asc (t.can e back s):=(asc_nums _).filter _
def Tbl.sN (t:Tbl) (back:Bool):Nat → Int → List Int → List Int
 | 0,_,s=>s
 | n + 1,e,s=>t.sN back n (nextE e back) (t.sure e back s)
def Tbl.cN (t:Tbl) (back:Bool):Nat → Int → List Int → List Int
 | 0,_,s=>s
 | n + 1,e,s=>t.cN back n (nextE e back) (t.can e back s)
theorem Tbl.stepN_split (t:Tbl) (back:Bool):∀ (n:Nat) (e:Int) (s c:List Int),t.stepN back n e (s,c) = (t.sN back n e s,t.cN back n e c)
 | 0,_,_,_=>rfl
 | n + 1,e,s,c=>by rw [Tbl.stepN,Tbl.stepL,Tbl.stepN_split t back n];rfl
def edE (back:Bool) (n:Nat) (e:Int):Int:=if back then e - n else e + n
theorem edE_succ (back:Bool) (n:Nat) (e:Int):edE back (n + 1) e = edE back n (nextE e back):=by
 unfold edE nextE;cases back <;> simp <;> omega
theorem Tbl.lst_sure (hf:t.flaw = 0) (e:Int) (back:Bool) (s:List Int):t.Lst (nextE e back) (t.sure e back s):=
 ⟨t.asc_sure ..,fun _ hy=>let ⟨⟨_,hx⟩,_⟩:=(Tbl.mem_sure hf).1 hy;(Tbl.bec_items hf hx).2⟩
theorem Tbl.lst_can (hf:t.flaw = 0) (e:Int) (back:Bool) (s:List Int):t.Lst (nextE e back) (t.can e back s):=
 ⟨t.asc_can ..,fun _ hy=>let ⟨_,hx,_⟩:=(Tbl.mem_can hf).1 hy;(Tbl.bec_items hf hx).2⟩
theorem edE_zero (back:Bool) (e:Int):edE back 0 e = e:=by unfold edE;cases back <;> simp
theorem Tbl.lst_sN (hf:t.flaw = 0) (back:Bool):∀ (n:Nat) (e:Int) (s:List Int),t.Lst e s → t.Lst (edE back n e) (t.sN back n e s)
 | 0,e,s,h=>by rw [edE_zero];exact h
 | n + 1,e,s,_=>by rw [edE_succ];exact Tbl.lst_sN hf back n _ _ (Tbl.lst_sure hf e back s)
theorem Tbl.lst_cN (hf:t.flaw = 0) (back:Bool):∀ (n:Nat) (e:Int) (s:List Int),t.Lst e s → t.Lst (edE back n e) (t.cN back n e s)
 | 0,e,s,h=>by rw [edE_zero];exact h
 | n + 1,e,s,_=>by rw [edE_succ];exact Tbl.lst_cN hf back n _ _ (Tbl.lst_can hf e back s)
def bk (x y:Int):Bool:=decide (y < x)
def far (x y:Int):Nat:=(y - x).natAbs
theorem edE_far (x y:Int):edE (bk x y) (far x y) x = y:=by
 unfold edE bk far
 by_cases h:y < x
 ·rw [decide_eq_true h];simp only [if_true];omega
 ·rw [decide_eq_false h];simp only [Bool.false_eq_true,if_false];omega
theorem Tbl.move_eq (hf:t.flaw = 0) {x y:Int} (hx:t.isEd x = true) (hy:t.isEd y = true) {l:List Int} (h:t.Lst x l):t.moveS x y l = t.sN (bk x y) (far x y) x l ∧ t.moveC x y l = t.cN (bk x y) (far x y) x l:=by
 have hF:=Tbl.moveF_of hf hx hy h
 have hs:t.movedL x y l = (t.moveS x y l,t.moveC x y l):=by
  rw [Tbl.moved_eq hf h.chk]
  unfold Tbl.moveS Tbl.moveC
  rw [if_pos hF,if_pos hF]
 unfold Tbl.movedL at hs
 have e:(t.sN (bk x y) (far x y) x l,t.cN (bk x y) (far x y) x l) = (t.moveS x y l,t.moveC x y l):=by
  rw [← hs,← Tbl.stepN_split]
  unfold bk far
  by_cases hlt:y < x
  ·rw [if_pos hlt,decide_eq_true hlt,show (y - x).natAbs = (x - y).toNat by omega]
  ·rw [if_neg hlt,decide_eq_false hlt,show (y - x).natAbs = (y - x).toNat by omega]
 exact ⟨(congrArg Prod.fst e).symm,(congrArg Prod.snd e).symm⟩
section
variable {x y:Int} (hf:t.flaw = 0) (hx:t.isEd x = true) (hy:t.isEd y = true) {l:List Int} (h:t.Lst x l)
include hf hx hy h
theorem Tbl.lst_moveS:t.Lst y (t.moveS x y l):=by
 rw [(Tbl.move_eq hf hx hy h).1]
 have:=Tbl.lst_sN hf (bk x y) (far x y) x l h
 rwa [edE_far] at this
theorem Tbl.lst_moveC:t.Lst y (t.moveC x y l):=by
 rw [(Tbl.move_eq hf hx hy h).2]
 have:=Tbl.lst_cN hf (bk x y) (far x y) x l h
 rwa [edE_far] at this
end
end
end Go.TM
namespace Go.TM
variable {T:Type} {P:Program} {S:Sys P T} {σ:View T}
theorem Tbl.open_pr {t:Tbl} {e:Int} {a b:List Int}:t.openF e [a,b] = if t.openF e [a] = 0 then t.chk e none b else t.openF e [a]:=by
 unfold Tbl.openF
 by_cases hf:t.flaw = 0
 ·simp only [hf,if_true]
  by_cases he:t.isEd e = true
  ·simp only [he,if_true]
   unfold Tbl.chkAll
   by_cases ha:t.chk e none a = 0
   ·simp only [ha,if_true,Tbl.chkAll]
    by_cases hb:t.chk e none b = 0
    ·simp [hb]
    ·simp [hb]
   ·simp [ha]
  ·simp [he]
 ·simp [hf]
end Go.TM
namespace Go.Proofs
open Go.TM
set_option maxRecDepth 100000
variable {T:Type} {S:TM.Sys Tryz.prog T} {σ:View T}
attribute [local irreducible] CallsV YieldV rngX
theorem Tryz.long2_ok (a:Option Addr) (len cap:Nat) (ls:List (List Int)) (hl:ListsV σ a len ls) (hlen:len < 2 ^ 60) :
  CallsV S 25 #[.slice a len cap] (fun v σ'=>(∃ B:Bool,v = .bool B ∧ (B = false → ∀ l ∈ ls,l.length ≤ 20)) ∧ σ' = σ) σ:=by
 refine CallsV.of (args:=[_]) Tryz.k25 Tryz.mixed (by simp) ?_
 (conv=>whnf)
 refine ⟨Nat,fun i=>[(0,.slice a len cap),(3,.int .i64 i)],fun i σ'=>σ' = σ ∧ i ≤ len ∧ ∀ l ∈ ls.take i,l.length ≤ 20,fun i=>len - i,0,⟨rfl,rfl,trivial⟩,⟨rfl,by omega,by simp⟩,?_⟩
 rintro i f _ ⟨rfl,hi,hall⟩
 (conv=>whnf);(repeat (refine ⟨rfl,?_⟩;conv=>whnf))
 refine cb_split (fun hc=>?_) (fun hc=>?_)
 ·have hlt:i < len:=by simpa using hc
  obtain ⟨ad,x,vs,hx,rfl,hsp,⟨a',len',cap',rfl,hli,-⟩,-,hrd⟩:=RowsV.at hl hlt
  (conv=>whnf)
  refine ⟨ad,i,⟨rfl,rfl,hlt⟩,?_⟩
  (conv=>whnf)
  refine ⟨_,hrd 0 _ rfl,?_⟩
  (conv=>whnf);(repeat (refine ⟨rfl,?_⟩;conv=>whnf))
  refine cb_split (fun hc=>?_) (fun hc=>?_)
  ·(conv=>whnf)
   exact ⟨⟨true,rfl,fun h=>by cases h⟩,rfl⟩
  ·have hle:len' ≤ 20:=by simp at hc;omega
   (conv=>whnf)
   refine ⟨by unfold InR;omega,?_⟩
   (conv=>whnf)
   refine ⟨rfl,i + 1,⟨rfl,rfl,trivial⟩,⟨rfl,by omega,fun l hl'=>?_⟩,by show _ - _ < _ - _;omega⟩
   rw [take_at hx] at hl'
   rcases List.mem_append.1 hl' with h | h
   ·exact hall l h
   ·rw [List.mem_singleton.1 h,hli.1];exact hle
 ·have hge:len ≤ i:=by simpa using hc
  (conv=>whnf)
  exact ⟨⟨false,rfl,fun _=>by rwa [List.take_of_length_le (by rw [hl.1];exact hge)] at hall⟩,rfl⟩
end Go.Proofs
namespace Go.TM
end Go.TM
namespace Go.TM
end Go.TM
namespace Go.Proofs
open Go.TM
set_option maxRecDepth 100000
variable {T:Type} {S:TM.Sys Tryz.prog T} {σ:View T}
attribute [local irreducible] CallsV YieldV rngX
end Go.Proofs
namespace Go.TM
end Go.TM
namespace Go.Proofs
open Go.TM
set_option maxRecDepth 100000
variable {T:Type} {S:TM.Sys Tryz.prog T} {σ:View T}
attribute [local irreducible] CallsV YieldV rngX
end Go.Proofs
namespace Go.TM
theorem View.le.frz2 {T:Type} {σ σ':View T} (h:σ.le σ'):σ.frz.lg σ'.frz:=⟨h.imm,⟨[],rfl⟩,h.tok⟩
theorem View.le.frz1 {T:Type} {σ σ':View T} (h:σ.le σ'):σ.frz.lg σ':=frz_self.trans h.lg
def LstV {T:Type} (σ:View T) (v:Value) (l:List Int):Prop:=∃ a c,v = .slice a l.length c ∧ Ints σ.frz a l.length l
theorem LstV.le {T:Type} {σ σ':View T} {v:Value} {l:List Int} (h:LstV σ v l) (k:σ.le σ'):LstV σ' v l:=let ⟨a,c,e,h⟩:=h;⟨a,c,e,h.lg k.frz2⟩
end Go.TM
namespace Go.Proofs
open Go.TM
set_option maxRecDepth 100000
variable {T:Type} {S:TM.Sys Tryz.prog T} {σ:View T}
attribute [local irreducible] CallsV YieldV rngX
section
variable (h:TH) (t:Tbl) (ht:TabV σ.frz h t) (hf:t.flaw = 0)
include ht hf
end
section
variable {a a':Option Addr} {cap cap':Nat} {l m:List Int} (hl:Ints σ.frz a l.length l) (hm:Ints σ.frz a' m.length m) (h1:l.length ≤ 1000) (h2:m.length ≤ 1000)
include hl hm h1 h2
end
end Go.Proofs
namespace Go.TM
section
variable {T:Type} {σ σ':View T}
theorem LstV.at {a:Option Addr} {n c:Nat} {l:List Int} (h:LstV σ (.slice a n c) l):Ints σ.frz a l.length l:=by
 obtain ⟨_,_,e,h⟩:=h
 cases e;exact h
def MovV (σ:View T) (v:Value) (l m:List Int):Prop:=∃ v1 v2,v = .tuple #[v1,v2,.int .i64 0] ∧ LstV σ v1 l ∧ LstV σ v2 m
theorem MovV.le {v:Value} {l m:List Int} (h:MovV σ v l m) (k:σ.le σ'):MovV σ' v l m:=let ⟨v1,v2,e,h1,h2⟩:=h;⟨v1,v2,e,h1.le k,h2.le k⟩
theorem MovV.at {a a':Option Addr} {n c n' c':Nat} {x:Value} {l m:List Int} (h:MovV σ (.tuple #[.slice a n c,.slice a' n' c',x]) l m):Ints σ.frz a l.length l ∧ Ints σ.frz a' m.length m:=by
 obtain ⟨v1,v2,e,h1,h2⟩:=h
 simp at e
 obtain ⟨rfl,rfl,-⟩:=e
 exact ⟨h1.at,h2.at⟩
def OneV (σ:View T) (v:Value) (l:List Int):Prop:=∃ v1,v = .tuple #[v1,.int .i64 0] ∧ LstV σ v1 l
theorem OneV.le {v:Value} {l:List Int} (h:OneV σ v l) (k:σ.le σ'):OneV σ' v l:=let ⟨v1,e,h1⟩:=h;⟨v1,e,h1.le k⟩
theorem OneV.at {a:Option Addr} {n c:Nat} {x:Value} {l:List Int} (h:OneV σ (.tuple #[.slice a n c,x]) l):Ints σ.frz a l.length l:=by
 obtain ⟨v1,e,h1⟩:=h
 simp at e
 obtain ⟨rfl,-⟩:=e
 exact h1.at
end
theorem CutsV.one {T:Type} {σ:View T} {b:Nat} {a:Option Addr} {cap:Nat} {l:List Int} {keep:Bool} (hb:Blk σ b #[.slice a l.length cap,.bool keep]) (h:Ints σ a l.length l) (k:l.length < 2 ^ 60):CutsV σ (some ⟨b,0,none⟩) 1 [⟨l,keep⟩]:=by
 refine ⟨rfl,fun i x hx=>?_⟩
 obtain rfl:i = 0:=by have:=(List.getElem?_eq_some_iff.1 hx).1;simp at this;omega
 cases hx
 refine ⟨_,_,rfl,rfl,⟨a,l.length,cap,rfl,h,k⟩,rfl,fun i v hv=>?_⟩
 match i,hv with
 | 0,hv=>simp at hv;subst hv;rw [Nat.zero_mul,add_none,add_none];exact hb.sees rfl
 | 1,hv=>simp at hv;subst hv;rw [Nat.zero_mul,add_none,add_none];exact hb.sees rfl
 | i + 2,hv=>simp at hv
end Go.TM
namespace Go.Proofs
open Go.TM
set_option maxRecDepth 100000
variable {T:Type} {S:TM.Sys Tryz.prog T} {σ:View T}
attribute [local irreducible] CallsV YieldV rngX
end Go.Proofs
namespace Go.TM
variable {T:Type} {P:Program} {S:Sys P T} {σ:View T}
def U16s (σ:View T) (a:Option Addr) (len:Nat) (l:List Nat):Prop:=RowsV σ a len 1 l fun n vs=>vs = [.int .u16 (n:Int)] ∧ n < 65536
theorem U16s.lg {σ':View T} {a:Option Addr} {len:Nat} {l:List Nat} (h:U16s σ a len l) (hl:σ.lg σ'):U16s σ' a len l:=RowsV.lg h hl fun _ _ h=>h
structure RC where
 a:Option Addr
 cap:Nat
 c:GCut
end Go.TM
namespace Go.Proofs
open Go.TM
set_option maxRecDepth 100000
variable {T:Type} {S:TM.Sys Tryz.prog T} {σ:View T}
attribute [local irreducible] CallsV YieldV rngX
end Go.Proofs
namespace Go.TM
variable {T:Type} {σ:View T}
end Go.TM
namespace Go.TM
open Go.Proofs
theorem fold_max_le {α:Type} (f:α → Int) (k:Int):∀ (l:List α) (m:Int),l.foldl (fun m y=>max m (f y)) m ≤ k ↔ m ≤ k ∧ ∀ y ∈ l,f y ≤ k
 | [],m=>by simp
 | a :: l,m=>by
  rw [List.foldl_cons,fold_max_le f k l]
  simp only [List.mem_cons,forall_eq_or_imp]
  constructor
  ·rintro ⟨h1,h2⟩;exact ⟨by omega,by omega,h2⟩
  ·rintro ⟨h1,h2,h3⟩;exact ⟨by omega,h3⟩
theorem maxL_le {k:Int} (hk:0 ≤ k) (l:List Int):maxL l ≤ k ↔ ∀ x ∈ l,x ≤ k:=by
 cases l with
 | nil=>simp [maxL,hk]
 | cons a l=>
  rw [maxL]
  have:=fold_max_le (fun x:Int=>x) k l a
  simp only [List.mem_cons,forall_eq_or_imp]
  exact this
section
variable {t:Tbl} {e:Int} {xs ys:List Int}
theorem Tbl.near_le {k:Int} (hk:0 ≤ k):t.near e xs ys ≤ k ↔ ∀ x ∈ xs,∀ y ∈ ys,t.lev e x y ≤ k:=by
 unfold Tbl.near
 rw [maxL_le hk]
 simp only [List.mem_map,forall_exists_index,and_imp,forall_apply_eq_imp_iff₂]
 unfold Tbl.rowMax
 constructor
 ·intro h x hx;exact ((fold_max_le (fun y=>t.lev e x y) k ys 0).1 (h x hx)).2
 ·intro h x hx;exact (fold_max_le (fun y=>t.lev e x y) k ys 0).2 ⟨hk,h x hx⟩
theorem Tbl.near_nonneg:0 ≤ t.near e xs ys:=by
 unfold Tbl.near
 cases xs with
 | nil=>exact Int.le_refl 0
 | cons a l=>
  rw [List.map_cons,maxL]
  have h0:0 ≤ t.rowMax e a ys:=((fold_max_le (fun y=>t.lev e a y) _ ys 0).1 (Int.le_refl _)).1
  have h1:=((fold_max_le (fun x:Int=>x) _ (l.map fun x=>t.rowMax e x ys) (t.rowMax e a ys)).1 (Int.le_refl _)).1
  exact Int.le_trans h0 h1
theorem Tbl.le_near {x y:Int} (hx:x ∈ xs) (hy:y ∈ ys):t.lev e x y ≤ t.near e xs ys:=(Tbl.near_le Tbl.near_nonneg).1 (Int.le_refl _) x hx y hy
end
section
variable {t:Tbl} (hf:t.flaw = 0) {x y:Int} (hx:t.isEd x = true) (hy:t.isEd y = true) {a b:List Int} (ha:t.Lst x a) (hb:t.Lst y b)
include hf hx hy ha hb
theorem Tbl.kinF_of:t.kinF x y a b = 0:=by
 unfold Tbl.kinF
 have h1:t.openF x [a] = 0:=Tbl.openF_of hf hx fun m hm=>by rw [List.mem_singleton.1 hm];exact ha
 have h2:t.openF y [b] = 0:=Tbl.openF_of hf hy fun m hm=>by rw [List.mem_singleton.1 hm];exact hb
 rw [if_pos h1];exact h2
theorem Tbl.isEd_max:t.isEd (max x y) = true:=by
 have _:=hf
 have _:=ha
 have _:=hb
 rcases Int.le_total x y with h | h
 ·rw [Int.max_eq_right h];exact hy
 ·rw [Int.max_eq_left h];exact hx
theorem Tbl.kinS_eq:t.kinS x y a b = (t.near (max x y) (t.moveS x (max x y) a) (t.moveS y (max x y) b),t.near (max x y) (t.moveC x (max x y) a) (t.moveC y (max x y) b)):=by
 have hm:=Tbl.isEd_max hf hx hy ha hb
 have h1:=Tbl.moveF_of hf hx hm ha
 have h2:=Tbl.moveF_of hf hy hm hb
 unfold Tbl.kinS Tbl.moveS Tbl.moveC
 rw [if_pos (Tbl.kinF_of hf hx hy ha hb),if_pos h1,if_pos h1,if_pos h2,if_pos h2]
 rfl
end
end Go.TM
namespace Go.TM
def Tbl.prs (t:Tbl) (tk:Talk):List (Int × Int):=t.reach tk [] []
structure Tbl.Best (t:Tbl) (tk:Talk) (l r:List Int):Prop where
 sub:l.Sublist tk.a
 left:r = t.leftF tk l
 len:l.length + r.length = t.mostT tk
 least:∀ l':List Int,l'.Sublist tk.a → l'.length + (t.leftF tk l').length = t.mostT tk → ¬ cmpL l' l < 0
section
variable {t:Tbl} {tk:Talk} (ha:Asc tk.a) (hb:Asc tk.b)
include ha
include hb
end
end Go.TM
namespace Go.TM
section
variable {t:Tbl} {e:Int}
def Tbl.nr1 (t:Tbl) (e x n:Int) (ys:List Int):Int:=ys.foldl (fun n y=>max n (t.lev e x y)) n
def Tbl.nrF (t:Tbl) (e:Int) (ys:List Int) (n:Int) (xs:List Int):Int:=xs.foldl (fun n x=>t.nr1 e x n ys) n
theorem Tbl.nrF_le {k:Int} {ys:List Int}:∀ (xs:List Int) (n:Int),t.nrF e ys n xs ≤ k ↔ n ≤ k ∧ ∀ x ∈ xs,∀ y ∈ ys,t.lev e x y ≤ k
 | [],n=>by simp [Tbl.nrF]
 | x :: xs,n=>by
  have ih:=Tbl.nrF_le (k:=k) (ys:=ys) xs (t.nr1 e x n ys)
  have h1:=fold_max_le (fun y=>t.lev e x y) k ys n
  show t.nrF e ys (t.nr1 e x n ys) xs ≤ k ↔ _
  rw [ih]
  unfold Tbl.nr1
  rw [h1]
  simp only [List.mem_cons,forall_eq_or_imp,and_assoc]
theorem Tbl.nr_eq {xs ys:List Int}:t.nrF e ys 0 xs = t.near e xs ys:=by
 apply Int.le_antisymm
 ·exact (Tbl.nrF_le xs 0).2 ⟨Tbl.near_nonneg,fun x hx y hy=>Tbl.le_near hx hy⟩
 ·have h:=(Tbl.nrF_le (t:=t) (e:=e) (ys:=ys) xs 0).1 (Int.le_refl _)
  exact (Tbl.near_le h.1).2 h.2
end
def Tbl.row (t:Tbl) (k:Talk) (x:Int) (l:List Int):List (Int × Int):=(l.filter fun y=>decide (k.lv ≤ t.lev k.ed x y)).map fun y=>(x,y)
theorem Tbl.prs_eq (t:Tbl) (k:Talk):t.prs k = k.a.flatMap fun x=>t.row k x k.b:=by
 unfold Tbl.prs Tbl.reach
 congr 1
 funext x
 unfold Tbl.reachRow Tbl.row
 congr 1
 refine List.filter_congr fun y _=>?_
 unfold Tbl.okP
 rw [Bool.eq_iff_iff]
 simp
theorem Tbl.row_take {t:Tbl} {k:Talk} {x y:Int} {l:List Int} {i:Nat} (h:l[i]? = some y):t.row k x (l.take (i + 1)) = t.row k x (l.take i) ++ (if decide (k.lv ≤ t.lev k.ed x y) = true then [(x,y)] else []):=by
 unfold Tbl.row
 rw [take_at h,List.filter_append,List.map_append,List.filter_cons,List.filter_nil]
 congr 1
 split <;> rfl
theorem Tbl.row_len (t:Tbl) (k:Talk) (x:Int) (l:List Int):(t.row k x l).length ≤ l.length:=by
 unfold Tbl.row
 rw [List.length_map];exact List.length_filter_le ..
theorem flat_len {α β:Type} {f:α → List β} {m:Nat}:∀ {l:List α},(∀ x,x ∈ l → (f x).length ≤ m) → (l.flatMap f).length ≤ l.length * m
 | [],_=>by simp
 | x :: l,h=>by
  rw [List.flatMap_cons,List.length_append,List.length_cons,Nat.succ_mul]
  have h1:=h x (List.mem_cons_self ..)
  have h2:=flat_len (l:=l) fun y hy=>h y (List.mem_cons_of_mem _ hy)
  omega
theorem Tbl.prs_len (t:Tbl) (k:Talk):(t.prs k).length ≤ k.a.length * k.b.length:=by
 rw [Tbl.prs_eq]
 exact flat_len fun x _=>t.row_len k x k.b
end Go.TM
namespace Go.TM
open Go.Proofs
theorem Tbl.talkF_eq {t:Tbl} {e lv:Int} {a b:List Int}:t.talkF e a b lv = if t.openF e [a] = 0 then (if t.chk e none b = 0 then (if btw lv 1 5 = true then 0 else 1) else t.chk e none b) else t.openF e [a]:=by
 unfold Tbl.talkF
 rw [Tbl.open_pr]
 by_cases h1:t.openF e [a] = 0
 ·simp only [h1,if_true]
 ·simp only [h1,if_false]
end Go.TM
namespace Go.Proofs
open Go.TM
set_option maxRecDepth 100000
variable {T:Type} {S:TM.Sys Tryz.prog T} {σ:View T}
attribute [local irreducible] CallsV YieldV rngX
theorem Tryz.refLevel_ok (h:TH) (t:Tbl) (ht:TabV σ h t) (e x y:Int):CallsV S 127 #[h.v,.int .i64 e,.int .i64 x,.int .i64 y] (fun v σ'=>v = .int .i64 (t.lev e x y) ∧ σ' = σ) σ:=by
 refine CallsV.pure' (CallsV.of (args:=[_,_,_,_]) Tryz.k127 Tryz.mixed (by simp) ?_)
 have hkl:=ht.kns.1
 have hkl2:=ht.kl
 (conv=>whnf);(repeat (refine ⟨rfl,?_⟩;conv=>whnf))
 intro b σ₁ h₁ hb
 have hb:Blk σ₁ b #[.slice h.ea h.el h.ec,.slice h.ma h.ml h.mc,.slice h.ka h.kl h.kc]:=hb
 (conv=>whnf);(repeat (refine ⟨rfl,?_⟩;conv=>whnf))
 refine cb_split (fun hc=>?_) (fun hc=>?_)
 ·have hxy:x = y:=by simpa using hc
  (conv=>whnf);(repeat (refine ⟨rfl,?_⟩;conv=>whnf))
  exact ⟨by unfold Tbl.lev;rw [if_pos hxy],h₁.lg⟩
 have hxy:x ≠ y:=by simpa using hc
 have hlev:t.lev e x y = match t.kns.find? (kinIs e x y) with | some k=>k.lev | none=>0:=by unfold Tbl.lev;rw [if_neg hxy];rfl
 (conv=>whnf)
 refine ⟨Nat,fun i=>[(1,.int .i64 e),(2,.int .i64 x),(3,.int .i64 y),(4,.pointer (some ⟨b,0,none⟩)),(9,.int .i64 i)],fun i σ'=>σ₁.le σ' ∧ i ≤ h.kl ∧ t.kns.find? (kinIs e x y) = (t.kns.drop i).find? (kinIs e x y),fun i=>h.kl - i,0,⟨rfl,rfl,rfl,rfl,rfl,trivial⟩,⟨.refl _,Nat.zero_le _,by simp⟩,?_⟩
 rintro i f σ₂ ⟨h₂,hi,hno⟩
 have hb₂:=hb.le h₂
 have h₁₂:=h₁.trans h₂
 (conv=>whnf)
 refine ⟨_,hb₂.sees3 (o:=2) rfl,?_⟩
 (conv=>whnf);(repeat (refine ⟨rfl,?_⟩;conv=>whnf))
 refine cb_split (fun hc=>?_) (fun hc=>?_)
 ·have hlt:i < h.kl:=by simpa using hc
  obtain ⟨ad,k,vs,hx,hka,hsp,rfl,-,hrd⟩:=ht.kns.at hlt
  have hin:InR ((i:Int) + 1):=by unfold InR;omega
  rw [drop_at hx,List.find?_cons] at hno
  (conv=>whnf)
  refine ⟨_,hb₂.sees3 (o:=2) rfl,?_⟩
  (conv=>whnf)
  refine ⟨ad,i,⟨hka,rfl,hlt⟩,?_⟩
  (conv=>whnf)
  refine ⟨_,⟨rfl,hrd.lg h₁₂.lg⟩,?_⟩
  (conv=>whnf)
  intro b10 hf10
  refine ⟨_,.refl _,?_⟩
  (conv=>whnf)
  refine ⟨rfl,st_new (vs:=[.int .i64 k.ed,.int .i64 k.one,.int .i64 k.two,.int .i64 k.lev]) hf10 rfl (by simp [Value.single]) fun σ₃ h₃ hb₁₀=>?_⟩
  have hb₁₀:Blk σ₃ b10 #[.int .i64 k.ed,.int .i64 k.one,.int .i64 k.two,.int .i64 k.lev]:=hb₁₀
  have go:kinIs e x y k = false → t.kns.find? (kinIs e x y) = (t.kns.drop (i + 1)).find? (kinIs e x y):=fun hk=>by rw [hno,hk]
  have h₂₃:=h₂.trans h₃
  (conv=>whnf)
  refine ⟨_,hb₁₀.sees3 (o:=0) rfl,?_⟩
  (conv=>whnf);(repeat (refine ⟨rfl,?_⟩;conv=>whnf))
  refine gb_split (fun hc=>?_) (fun hc=>?_)
  ·have k1:(k.ed == e) = true:=hc
   (conv=>whnf)
   refine ⟨_,hb₁₀.sees3 (o:=1) rfl,?_⟩
   (conv=>whnf)
   refine raw_min rfl rfl ?_
   (conv=>whnf);(repeat (refine ⟨rfl,?_⟩;conv=>whnf))
   refine gb_split (fun hc=>?_) (fun hc=>?_)
   ·have k2:(k.one == min x y) = true:=hc
    (conv=>whnf)
    refine ⟨_,hb₁₀.sees3 (o:=2) rfl,?_⟩
    (conv=>whnf)
    refine raw_max rfl rfl ?_
    (conv=>whnf);(repeat (refine ⟨rfl,?_⟩;conv=>whnf))
    refine cb_split (fun hc=>?_) (fun hc=>?_)
    ·have k3:(k.two == max x y) = true:=hc
     have hk:kinIs e x y k = true:=by unfold kinIs;rw [k1,k2,k3];rfl
     (conv=>whnf)
     refine ⟨_,hb₁₀.sees3 (o:=3) rfl,?_⟩
     (conv=>whnf);(repeat (refine ⟨rfl,?_⟩;conv=>whnf))
     exact ⟨by rw [hlev,hno,hk],(h₁.trans h₂₃).lg⟩
    ·have k3:(k.two == max x y) = false:=hc
     have hk:kinIs e x y k = false:=by unfold kinIs;rw [k3,Bool.and_false,Bool.and_false]
     (conv=>whnf)
     refine ⟨hin,?_⟩
     (conv=>whnf)
     exact ⟨rfl,i + 1,⟨rfl,rfl,rfl,rfl,rfl,trivial⟩,⟨h₂₃,by omega,go hk⟩,by show _ - _ < _ - _;omega⟩
   ·have k2:(k.one == min x y) = false:=hc
    have hk:kinIs e x y k = false:=by unfold kinIs;rw [k2,Bool.false_and,Bool.and_false]
    (conv=>whnf)
    refine ⟨hin,?_⟩
    (conv=>whnf)
    exact ⟨rfl,i + 1,⟨rfl,rfl,rfl,rfl,rfl,trivial⟩,⟨h₂₃,by omega,go hk⟩,by show _ - _ < _ - _;omega⟩
  ·have k1:(k.ed == e) = false:=hc
   have hk:kinIs e x y k = false:=by unfold kinIs;rw [k1,Bool.false_and]
   (conv=>whnf)
   refine ⟨hin,?_⟩
   (conv=>whnf)
   exact ⟨rfl,i + 1,⟨rfl,rfl,rfl,rfl,rfl,trivial⟩,⟨h₂₃,by omega,go hk⟩,by show _ - _ < _ - _;omega⟩
 ·have hge:h.kl ≤ i:=by simpa using hc
  rw [List.drop_eq_nil_of_le (by omega)] at hno
  (conv=>whnf);(repeat (refine ⟨rfl,?_⟩;conv=>whnf))
  exact ⟨by rw [hlev,hno];rfl,h₁₂.lg⟩
theorem Tryz.refNear_ok (h:TH) (t:Tbl) (ht:TabV σ h t) (e:Int) (a a':Option Addr) (len cap len' cap':Nat) (xs ys:List Int) (hx:Ints σ a len xs) (hy:Ints σ a' len' ys) (hlen:len < 2 ^ 60) (hlen':len' < 2 ^ 60) :
  CallsV S 89 #[h.v,.int .i64 e,.slice a len cap,.slice a' len' cap'] (fun v σ'=>v = .int .i64 (t.near e xs ys) ∧ σ' = σ) σ:=by
 refine CallsV.pure' (CallsV.of (args:=[_,_,_,_]) Tryz.k89 Tryz.mixed (by simp) ?_)
 rw [← Tbl.nr_eq]
 have hxl:=hx.1
 have hyl:=hy.1
 (conv=>whnf);(repeat (refine ⟨rfl,?_⟩;conv=>whnf))
 intro b σ₁ h₁ hb
 have hb:Blk σ₁ b #[.slice h.ea h.el h.ec,.slice h.ma h.ml h.mc,.slice h.ka h.kl h.kc]:=hb
 (conv=>whnf)
 refine ⟨Nat × Int,fun y=>[(1,.int .i64 e),(2,.slice a len cap),(3,.slice a' len' cap'),(4,.pointer (some ⟨b,0,none⟩)),(9,.int .i64 y.2),(10,.int .i64 y.1)],fun y σ'=>σ₁.le σ' ∧ y.1 ≤ len ∧ t.nrF e ys 0 xs = t.nrF e ys y.2 (xs.drop y.1),fun y=>len - y.1,(0,0),⟨rfl,rfl,rfl,rfl,rfl,rfl,trivial⟩,⟨.refl _,Nat.zero_le _,by simp⟩,?_⟩
 rintro ⟨i,n⟩ f σ₂ ⟨h₂,hi,hinv⟩
 simp only at hi hinv
 have h₁₂:=h₁.trans h₂
 (conv=>whnf);(repeat (refine ⟨rfl,?_⟩;conv=>whnf))
 refine cb_split (fun hc=>?_) (fun hc=>?_)
 ·have hlt:i < len:=by simpa using hc
  obtain ⟨ad,x,hxx,rfl,hsp,hs⟩:=(hx.lg h₁₂.lg).at hlt
  have hin:InR ((i:Int) + 1):=by unfold InR;omega
  rw [drop_at hxx] at hinv
  have hinv:t.nrF e ys 0 xs = t.nrF e ys (t.nr1 e x n ys) (xs.drop (i + 1)):=hinv
  (conv=>whnf)
  refine ⟨Nat × Int,fun y=>[(1,.int .i64 e),(2,.slice (some ad) len cap),(3,.slice a' len' cap'),(4,.pointer (some ⟨b,0,none⟩)),(9,.int .i64 y.2),(10,.int .i64 i),(11,.int .i64 y.1)],fun y σ'=>σ₂.le σ' ∧ y.1 ≤ len' ∧ t.nr1 e x n ys = t.nr1 e x y.2 (ys.drop y.1),fun y=>len' - y.1,(0,n),⟨rfl,rfl,rfl,rfl,rfl,rfl,rfl,trivial⟩,⟨.refl _,Nat.zero_le _,by simp⟩,?_⟩
  rintro ⟨k,m⟩ f σ₃ ⟨h₃,hk,hinv2⟩
  simp only at hk hinv2
  have h₁₃:=h₁₂.trans h₃
  (conv=>whnf);(repeat (refine ⟨rfl,?_⟩;conv=>whnf))
  refine cb_split (fun hc=>?_) (fun hc=>?_)
  ·have hkt:k < len':=by simpa using hc
   obtain ⟨ad',y,hyy,rfl,hsp',hs'⟩:=(hy.lg h₁₃.lg).at hkt
   have hkn:InR ((k:Int) + 1):=by unfold InR;omega
   rw [drop_at hyy] at hinv2
   have hinv2:t.nr1 e x n ys = t.nr1 e x (max m (t.lev e x y)) (ys.drop (k + 1)):=hinv2
   (conv=>whnf)
   refine ⟨_,⟨rfl,(hb.le (h₂.trans h₃)).rdT fun _ _ h=>h⟩,?_⟩
   (conv=>whnf)
   refine ⟨ad,i,⟨rfl,rfl,hlt⟩,?_⟩
   (conv=>whnf)
   refine ⟨_,hs.lg h₃.lg,?_⟩
   (conv=>whnf)
   refine ⟨ad',k,⟨rfl,rfl,hkt⟩,?_⟩
   (conv=>whnf)
   refine ⟨_,hs',?_⟩
   (conv=>whnf)
   refine ⟨.int .i64 (t.lev e x y),fun σ' hle _=>?_,?_⟩
   ·(conv=>whnf)
    refine ⟨Tryz.k127.any,(Tryz.refLevel_ok h t (ht.lg (h₁₃.trans hle).lg) e x y).mono ?_⟩
    rintro _ σ'' ⟨rfl,hσ⟩ -
    exact ⟨rfl,_,.refl _,hσ ▸ .refl _⟩
   (conv=>whnf)
   intro σ₄ h₄ _
   (conv=>whnf)
   refine raw_max rfl rfl ?_
   (conv=>whnf)
   refine ⟨hkn,?_⟩
   (conv=>whnf)
   exact ⟨rfl,(k + 1,_),⟨rfl,rfl,rfl,rfl,rfl,rfl,rfl,trivial⟩,⟨h₃.trans h₄,by simp only;omega,hinv2⟩,by show _ - _ < _ - _;omega⟩
  ·have hge:len' ≤ k:=by simpa using hc
   rw [List.drop_eq_nil_of_le (by omega)] at hinv2
   have hinv2:t.nr1 e x n ys = m:=hinv2
   (conv=>whnf)
   refine ⟨hin,?_⟩
   (conv=>whnf)
   exact ⟨rfl,(i + 1,m),⟨rfl,rfl,rfl,rfl,rfl,rfl,trivial⟩,⟨h₂.trans h₃,by simp only;omega,by rw [← hinv2];exact hinv⟩,by show _ - _ < _ - _;omega⟩
 ·have hge:len ≤ i:=by simpa using hc
  rw [List.drop_eq_nil_of_le (by omega)] at hinv
  (conv=>whnf);(repeat (refine ⟨rfl,?_⟩;conv=>whnf))
  exact ⟨by rw [hinv];rfl,h₁₂.lg⟩
theorem Tryz.asked_ok (h:TH) (t:Tbl) (ht:TabV σ h t) (e lv:Int) (a a':Option Addr) (len cap len' cap':Nat) (l l':List Int) (hl:Ints σ a len l) (hl':Ints σ a' len' l') (hlen:len < 2 ^ 60) (hlen':len' < 2 ^ 60) :
  CallsV S 93 #[h.v,.int .i64 e,.slice a len cap,.slice a' len' cap',.int .i64 lv] (fun v σ'=>v = .int .i64 (t.talkF e l l' lv) ∧ σ' = σ) σ:=by
 refine CallsV.pure' (CallsV.of (args:=[_,_,_,_,_]) Tryz.k93 Tryz.mixed (by simp) ?_)
 have hT:=t.talkF_eq (e:=e) (a:=l) (b:=l') (lv:=lv)
 (conv=>whnf);(repeat (refine ⟨rfl,?_⟩;conv=>whnf))
 intro b σ₁ h₁ hb
 have hb:Blk σ₁ b #[.slice h.ea h.el h.ec,.slice h.ma h.ml h.mc,.slice h.ka h.kl h.kc]:=hb
 have ht₁:=ht.lg h₁.lg
 (conv=>whnf)
 refine ⟨_,⟨rfl,hb.rdT fun _ _ h=>h⟩,?_⟩
 (conv=>whnf)
 refine ⟨Tryz.k32.any,(Tryz.refList_ok h t ht₁ e a len cap l (hl.lg h₁.lg) hlen).mono ?_⟩
 rintro _ σ' ⟨rfl,hσ'⟩ -
 obtain rfl:=hσ'.symm
 (conv=>whnf);(repeat (refine ⟨rfl,?_⟩;conv=>whnf))
 refine cb_split (fun hc=>?_) (fun hc=>?_)
 ·have hf:t.openF e [l] ≠ 0:=by simpa using hc
  rw [if_neg hf] at hT
  (conv=>whnf);(repeat (refine ⟨rfl,?_⟩;conv=>whnf))
  exact ⟨by rw [hT],h₁.lg⟩
 have hf:t.openF e [l] = 0:=by simpa using hc
 rw [if_pos hf] at hT
 obtain ⟨hfl,hed,hch⟩:=Tbl.open_one hf
 (conv=>whnf)
 refine ⟨_,⟨rfl,hb.rdT fun _ _ h=>h⟩,?_⟩
 (conv=>whnf)
 refine ⟨Tryz.k76.any,(Tryz.listFlaw_ok h t ht₁ e hed a' len' cap' l' (hl'.lg h₁.lg) hlen').mono ?_⟩
 rintro _ σ' ⟨rfl,hσ'⟩ -
 obtain rfl:=hσ'.symm
 (conv=>whnf);(repeat (refine ⟨rfl,?_⟩;conv=>whnf))
 refine cb_split (fun hc=>?_) (fun hc=>?_)
 ·have hf2:t.chk e none l' ≠ 0:=by simpa using hc
  rw [if_neg hf2] at hT
  (conv=>whnf);(repeat (refine ⟨rfl,?_⟩;conv=>whnf))
  exact ⟨by rw [hT],h₁.lg⟩
 have hf2:t.chk e none l' = 0:=by simpa using hc
 rw [if_pos hf2] at hT
 (conv=>whnf)
 refine ⟨Tryz.k71.any,(Tryz.in_ok _ lv 1 5).mono ?_⟩
 rintro _ σ' ⟨rfl,hσ'⟩ -
 obtain rfl:=hσ'.symm
 (conv=>whnf);(repeat (refine ⟨rfl,?_⟩;conv=>whnf))
 refine cb_split (fun hc=>?_) (fun hc=>?_)
 ·have hb5:btw lv 1 5 = false:=by simpa using hc
  rw [hb5] at hT
  (conv=>whnf);(repeat (refine ⟨rfl,?_⟩;conv=>whnf))
  exact ⟨by rw [hT];rfl,h₁.lg⟩
 ·have hb5:btw lv 1 5 = true:=by simpa using hc
  rw [hb5] at hT
  (conv=>whnf);(repeat (refine ⟨rfl,?_⟩;conv=>whnf))
  exact ⟨by rw [hT];rfl,h₁.lg⟩
end Go.Proofs
namespace Go.Proofs
open Go.TM
set_option maxRecDepth 100000
variable {T:Type} {S:TM.Sys Tryz.prog T} {σ:View T}
attribute [local irreducible] CallsV YieldV rngX
set_option maxHeartbeats 1000000 in
theorem Tryz.reach_ok (h:TH) (t:Tbl) (ht:TabV σ h t) (e lv:Int) (a a':Option Addr) (len cap len' cap':Nat) (l l':List Int) (hl:Ints σ a len l) (hl':Ints σ a' len' l') (hlen:len ≤ 100) (hlen':len' ≤ 100) :
  CallsV S 94 #[h.v,.int .i64 e,.slice a len cap,.slice a' len' cap',.int .i64 lv] (fun v σ'=>PairsN σ'.frz v (t.prs ⟨e,lv,l,l'⟩) ∧ σ.le σ') σ:=by
 refine CallsV.sep (R:=fun v σ'=>Acc 80 2 v ((t.prs ⟨e,lv,l,l'⟩).flatMap encII) σ'.M σ.M ∧ (∀ x o,σ.I x = some o → σ'.I x = some o) ∧ σ'.tok = σ.tok) (CallsV.of (args:=[_,_,_,_,_]) Tryz.k94 Tryz.mixed (by simp) ?_) ?_
 rotate_left
 ·rintro v σ' hs ⟨ha,hI,htk⟩
  obtain ⟨σ'',k1,k2,k3⟩:=ha.pairsN (σ:=σ) hs hI htk
  exact ⟨σ'',k1,k3,k2⟩
 have hll:=hl.1
 have hll':=hl'.1
 generalize htk:(⟨e,lv,l,l'⟩:Talk) = tk
 have hprs:=t.prs_eq tk
 (conv=>whnf);(repeat (refine ⟨rfl,?_⟩;conv=>whnf))
 intro b σ₁ h₁ hb
 have hb:Blk σ₁ b #[.slice h.ea h.el h.ec,.slice h.ma h.ml h.mc,.slice h.ka h.kl h.kc]:=hb
 (conv=>whnf)
 refine ⟨Nat × Value,fun y=>[(1,.int .i64 e),(2,.slice a len cap),(3,.slice a' len' cap'),(4,.int .i64 lv),(5,.pointer (some ⟨b,0,none⟩)),(11,y.2),(12,.int .i64 y.1)],
  fun y σ'=>σ₁.lg σ' ∧ Acc 80 2 y.2 (((l.take y.1).flatMap fun x=>t.row tk x l').flatMap encII) σ'.M σ₁.M ∧ y.1 ≤ len,fun y=>len - y.1,(0,.slice none 0 0),⟨rfl,rfl,rfl,rfl,rfl,rfl,rfl,trivial⟩,⟨(View.le.refl _).lg,.nil,Nat.zero_le _⟩,?_⟩
 rintro ⟨i,v⟩ f σ₂ ⟨hlg₂,ha,hi⟩
 simp only at ha hi
 have hn1:((l.take i).flatMap fun x=>t.row tk x l').length ≤ i * len':=by
  have:=flat_len (f:=fun x=>t.row tk x l') (m:=len') (l:=l.take i) fun x _=>by rw [← hll'];exact t.row_len tk x l'
  rw [List.length_take] at this
  exact Nat.le_trans this (Nat.mul_le_mul_right _ (Nat.min_le_left _ _))
 obtain ⟨sa,sl,sc,rfl,_⟩:=Acc.src (σ:=σ₂) ha
 (conv=>whnf);(repeat (refine ⟨rfl,?_⟩;conv=>whnf))
 refine cb_split (fun hc=>?_) (fun hc=>?_)
 ·have hlt:i < len:=by simpa using hc
  obtain ⟨ad,x,hx,rfl,hsp,hs⟩:=(hl.lg (h₁.lg.trans hlg₂)).at hlt
  have hin:InR ((i:Int) + 1):=by unfold InR;omega
  have hnext:((l.take (i + 1)).flatMap fun x=>t.row tk x l') = ((l.take i).flatMap fun x=>t.row tk x l') ++ t.row tk x l':=by rw [take_at hx,List.flatMap_append];simp
  have hcap1:i * len' ≤ 100 * 100:=Nat.mul_le_mul (by omega) (by omega)
  (conv=>whnf)
  refine ⟨Nat × Value,fun y=>[(1,.int .i64 e),(2,.slice (some ad) len cap),(3,.slice a' len' cap'),(4,.int .i64 lv),(5,.pointer (some ⟨b,0,none⟩)),(11,y.2),(12,.int .i64 i),(13,.int .i64 y.1)],
   fun y σ'=>(∀ x o,σ₂.I x = some o → σ'.I x = some o) ∧ σ'.tok = σ₂.tok ∧ Acc 80 2 y.2 ((((l.take i).flatMap fun x=>t.row tk x l') ++ t.row tk x (l'.take y.1)).flatMap encII) σ'.M σ₁.M ∧ y.1 ≤ len',fun y=>len' - y.1,(0,.slice sa sl sc),⟨rfl,rfl,rfl,rfl,rfl,rfl,rfl,rfl,trivial⟩,⟨fun _ _ h=>h,rfl,by simpa [Tbl.row] using ha,Nat.zero_le _⟩,?_⟩
  rintro ⟨k,v⟩ f σ₃ ⟨hI₃,ht₃,ha₃,hk⟩
  simp only at ha₃ hk
  have hn2:=t.row_len tk x (l'.take k)
  rw [List.length_take] at hn2
  obtain ⟨A₃,hA₃⟩:=ha₃.own
  have hlg₃:σ₁.lg σ₃:=⟨fun x o h=>hI₃ x o (hlg₂.imm x o h),⟨A₃,hA₃⟩,ht₃.trans hlg₂.tok⟩
  have hfz:σ.frz.lg σ₃:=(frz_self.trans h₁.lg).trans hlg₃
  have hl₃:=(hl.lg (h₁.lg.trans hlg₃)).2 i x hx
  obtain ⟨ad2,e2,-,hs₃⟩:=hl₃
  cases e2
  obtain ⟨ta,tl,tc,rfl,_⟩:=Acc.src (σ:=σ₃) ha₃
  (conv=>whnf);(repeat (refine ⟨rfl,?_⟩;conv=>whnf))
  refine cb_split (fun hc=>?_) (fun hc=>?_)
  ·have hkt:k < len':=by simpa using hc
   obtain ⟨ad',y,hy,rfl,hsp',hs'⟩:=(hl'.lg (h₁.lg.trans hlg₃)).at hkt
   have hkn:InR ((k:Int) + 1):=by unfold InR;omega
   have hrow:=Tbl.row_take (t:=t) (k:=tk) (x:=x) hy
   have htb:TabV σ₃ h t:=ht.lg (h₁.lg.trans hlg₃)
   (conv=>whnf)
   refine ⟨_,⟨rfl,(hb.lg hlg₃).rdT fun _ _ h=>h⟩,?_⟩
   (conv=>whnf)
   refine ⟨ad,i,⟨rfl,rfl,hlt⟩,?_⟩
   (conv=>whnf)
   refine ⟨_,hs₃,?_⟩
   (conv=>whnf)
   refine ⟨ad',k,⟨rfl,rfl,hkt⟩,?_⟩
   (conv=>whnf)
   refine ⟨_,hs',?_⟩
   (conv=>whnf)
   refine ⟨.int .i64 (t.lev e x y),fun σ' hle _=>?_,?_⟩
   ·(conv=>whnf)
    refine ⟨Tryz.k127.any,(Tryz.refLevel_ok h t (htb.lg hle.lg) e x y).mono ?_⟩
    rintro _ σ'' ⟨rfl,hσ⟩ -
    exact ⟨rfl,_,.refl _,hσ ▸ .refl _⟩
   (conv=>whnf)
   intro σ₄ h₄ _
   have hlg₄:=hlg₃.trans h₄.lg
   (conv=>whnf);(repeat (refine ⟨rfl,?_⟩;conv=>whnf))
   refine cb_split (fun hc=>?_) (fun hc=>?_)
   ·have hyes:decide (tk.lv ≤ t.lev tk.ed x y) = true:=by subst htk;exact hc
    rw [if_pos hyes] at hrow
    (conv=>whnf)
    refine ⟨ad,i,⟨rfl,rfl,hlt⟩,?_⟩
    (conv=>whnf)
    refine ⟨_,hs₃.lg h₄.lg,?_⟩
    (conv=>whnf)
    refine ⟨ad',k,⟨rfl,rfl,hkt⟩,?_⟩
    (conv=>whnf)
    refine ⟨_,hs'.lg h₄.lg,?_⟩
    (conv=>whnf)
    refine ⟨fun v σ'=>∃ bb,v = .slice (some ⟨bb,0,none⟩) 1 1 ∧ Blk σ' bb (encII (x,y)).toArray,fun v σ₁ σ₂ ⟨bb,e,hbb⟩ hle=>⟨bb,e,hbb.le hle⟩,fun σ' hle _=>?_,fun v hv=>?_⟩
    ·(conv=>whnf)
     intro b49 hf49
     exact put_new hf49 fun σ₅ h₅ hb₅=>⟨σ₅,.refl _,⟨b49,rfl,hb₅⟩,h₅⟩
    obtain ⟨_,-,-,b49,rfl,-⟩:=hv
    (conv=>whnf)
    intro σ₅ h₅ hC
    obtain ⟨-,_,e3,hbb⟩:=hC
    cases e3
    (conv=>whnf)
    refine raw_app (v:=.slice ta tl tc) (cs:=(((l.take i).flatMap fun x=>t.row tk x l') ++ t.row tk x (l'.take k)).flatMap encII) (new:=encII (x,y)) (M₀:=σ₁.M) Tryz.sl52 rfl rfl (by rw [h₅.own,h₄.own];exact ha₃) (.inr ⟨_,rfl,hbb.reads (fun k v hv=>by simpa using hv)⟩) rfl (by simp [encII,Value.single]) (by rw [encII_len,List.length_append];simp only [encII,List.length_cons,List.length_nil];omega) fun v' M' ha' _=>?_
    have ha'':Acc 80 2 v' ((((l.take i).flatMap fun x=>t.row tk x l') ++ t.row tk x (l'.take (k + 1))).flatMap encII) M' σ₁.M:=by rw [hrow,← List.append_assoc,List.flatMap_append (ys:=[(x,y)])];simpa using ha'
    obtain ⟨ua,ul,uc,rfl,_⟩:=Acc.src (σ:={ σ₅ with M:=M' }) ha''
    (conv=>whnf)
    refine ⟨hkn,?_⟩
    (conv=>whnf)
    exact ⟨rfl,(k + 1,.slice ua ul uc),⟨rfl,rfl,rfl,rfl,rfl,rfl,rfl,rfl,trivial⟩,⟨fun x o h=>h₅.imm x o (h₄.imm x o (hI₃ x o h)),h₅.tok.trans (h₄.tok.trans ht₃),ha'',by simp only;omega⟩,by show _ - _ < _ - _;omega⟩
   ·have hno:¬ decide (tk.lv ≤ t.lev tk.ed x y) = true:=by subst htk;rw [show decide (lv ≤ t.lev e x y) = false from hc];decide
    rw [if_neg hno,List.append_nil] at hrow
    (conv=>whnf)
    refine ⟨hkn,?_⟩
    (conv=>whnf)
    exact ⟨rfl,(k + 1,.slice ta tl tc),⟨rfl,rfl,rfl,rfl,rfl,rfl,rfl,rfl,trivial⟩,⟨fun x o h=>h₄.imm x o (hI₃ x o h),h₄.tok.trans ht₃,by rw [hrow,h₄.own];exact ha₃,by simp only;omega⟩,by show _ - _ < _ - _;omega⟩
  ·have hge:len' ≤ k:=by simpa using hc
   have htk':l'.take k = l':=List.take_of_length_le (by omega)
   rw [htk'] at ha₃
   (conv=>whnf)
   refine ⟨hin,?_⟩
   (conv=>whnf)
   exact ⟨rfl,(i + 1,.slice ta tl tc),⟨rfl,rfl,rfl,rfl,rfl,rfl,rfl,trivial⟩,⟨hlg₃,by rw [hnext];exact ha₃,by simp only;omega⟩,by show _ - _ < _ - _;omega⟩
 ·have hge:len ≤ i:=by simpa using hc
  rw [List.take_of_length_le (by omega)] at ha
  (conv=>whnf);(repeat (refine ⟨rfl,?_⟩;conv=>whnf))
  have hpp:t.prs tk = l.flatMap fun x=>t.row tk x l':=by rw [hprs];subst htk;rfl
  exact ⟨by rw [hpp,← h₁.own];exact ha,fun x o h=>hlg₂.imm x o (h₁.imm x o h),hlg₂.tok.trans h₁.tok⟩
theorem Tryz.refPairs_ok (h:TH) (t:Tbl) (ht:TabV σ.frz h t) (e lv:Int) (a a':Option Addr) (len cap len' cap':Nat) (l l':List Int) (hl:Ints σ.frz a len l) (hl':Ints σ.frz a' len' l') (hlen:len ≤ 100) (hlen':len' ≤ 100) :
  CallsV S 44 #[h.v,.int .i64 e,.slice a len cap,.slice a' len' cap',.int .i64 lv] (fun v σ'=>(∃ v1,v = .tuple #[v1,.int .i64 (t.talkF e l l' lv)] ∧ PairsN σ'.frz v1 (t.pairsL e l l' lv)) ∧ σ.le σ') σ:=by
 refine CallsV.let_go (R:=fun v σ'=>∃ v1,v = .tuple #[v1,.int .i64 (t.talkF e l l' lv)] ∧ PairsN σ' v1 (t.pairsL e l l' lv)) (fun v a b hl ⟨v1,e,i1⟩=>⟨v1,e,i1.lg hl⟩) (CallsV.of (args:=[_,_,_,_,_]) Tryz.k44 Tryz.mixed (by simp) ?_)
 (conv=>whnf);(repeat (refine ⟨rfl,?_⟩;conv=>whnf))
 intro b σ₁ h₁ hb
 have hb:Blk σ₁ b #[.slice h.ea h.el h.ec,.slice h.ma h.ml h.mc,.slice h.ka h.kl h.kc]:=hb
 have ht₁:=ht.lg h₁.frz2
 have hl₁:=hl.lg h₁.frz2
 have hl₁':=hl'.lg h₁.frz2
 (conv=>whnf)
 refine ⟨_,⟨rfl,hb.rdT fun _ _ h=>h⟩,?_⟩
 (conv=>whnf)
 refine ⟨Tryz.k93.any,(Tryz.asked_ok h t (ht₁.lg frz_self) e lv a a' len cap len' cap' l l' (hl₁.lg frz_self) (hl₁'.lg frz_self) (by omega) (by omega)).mono ?_⟩
 rintro _ σ' ⟨rfl,hσ'⟩ -
 obtain rfl:=hσ'.symm
 (conv=>whnf);(repeat (refine ⟨rfl,?_⟩;conv=>whnf))
 refine cb_split (fun hc=>?_) (fun hc=>?_)
 ·have hf:t.talkF e l l' lv ≠ 0:=by simpa using hc
  (conv=>whnf);(repeat (refine ⟨rfl,?_⟩;conv=>whnf))
  refine ⟨⟨_,rfl,?_⟩,h₁.lg⟩
  unfold Tbl.pairsL
  rw [if_neg hf]
  exact ⟨none,0,rfl,Nat.le_refl _,rfl,fun i x hx=>by simp at hx⟩
 have hf:t.talkF e l l' lv = 0:=by simpa using hc
 (conv=>whnf)
 refine ⟨_,⟨rfl,hb.rdT fun _ _ h=>h⟩,?_⟩
 (conv=>whnf)
 refine ⟨Tryz.k94.any,(Tryz.reach_ok h t (ht₁.lg frz_self) e lv a a' len cap len' cap' l l' (hl₁.lg frz_self) (hl₁'.lg frz_self) hlen hlen').mono ?_⟩
 rintro v σ₂ ⟨⟨pa,pc,rfl,hpc,hp⟩,h₂⟩ -
 (conv=>whnf);(repeat (refine ⟨rfl,?_⟩;conv=>whnf))
 refine ⟨⟨_,by rw [hf];rfl,?_⟩,(h₁.trans h₂).lg⟩
 unfold Tbl.pairsL
 rw [if_pos hf]
 exact ⟨pa,pc,rfl,hpc,hp⟩
end Go.Proofs
namespace Go.TM
theorem Tbl.movedL_of {t:Tbl} (hf:t.flaw = 0) {x y:Int} (hx:t.isEd x = true) (hy:t.isEd y = true) {l:List Int} (h:t.Lst x l):t.movedL x y l = (t.moveS x y l,t.moveC x y l):=by
 have hF:=Tbl.moveF_of hf hx hy h
 rw [Tbl.moved_eq hf h.chk]
 unfold Tbl.moveS Tbl.moveC
 rw [if_pos hF,if_pos hF]
end Go.TM
namespace Go.Proofs
open Go.TM
set_option maxRecDepth 100000
variable {T:Type} {S:TM.Sys Tryz.prog T} {σ:View T}
attribute [local irreducible] CallsV YieldV rngX
theorem Tryz.kinR_ok (h:TH) (t:Tbl) (ht:TabV σ.frz h t) (one two:Int) (a a':Option Addr) (len cap len' cap':Nat) (l l':List Int) (hl:Ints σ.frz a len l) (hl':Ints σ.frz a' len' l') (hlen:len < 2 ^ 60) (hlen':len' < 2 ^ 60) :
  CallsV S 42 #[h.v,.int .i64 one,.slice a len cap,.int .i64 two,.slice a' len' cap'] (fun v σ'=>v = .tuple #[.agg #[.int .i64 (t.kinS one two l l').1,.int .i64 (t.kinS one two l l').2],.int .i64 (t.kinF one two l l')] ∧ σ' = σ) σ:=by
 refine CallsV.pure' (CallsV.of (args:=[_,_,_,_,_]) Tryz.k42 Tryz.mixed (by simp) ?_)
 (conv=>whnf);(repeat (refine ⟨rfl,?_⟩;conv=>whnf))
 intro b5 σ₁ h₁ hb₅
 have hb₅:Blk σ₁ b5 #[.slice h.ea h.el h.ec,.slice h.ma h.ml h.mc,.slice h.ka h.kl h.kc]:=hb₅
 (conv=>whnf)
 intro b10 hf10
 refine ⟨_,.refl _,?_⟩
 have hlg:σ.lg (σ₁.put b10 (.cells #[.int .i64 0,.int .i64 0] 49)):=h₁.lg.trans (lg_put b10 _)
 have hM:(σ₁.put b10 (.cells #[.int .i64 0,.int .i64 0] 49)).M = .obj b10 (.cells #[.int .i64 0,.int .i64 0] 49 (0,0)) :: σ.M:=by show _ :: σ₁.M = _;rw [h₁.own]
 have hb₅':Blk (σ₁.put b10 (.cells #[.int .i64 0,.int .i64 0] 49)) b5 #[.slice h.ea h.el h.ec,.slice h.ma h.ml h.mc,.slice h.ka h.kl h.kc]:=hb₅
 generalize σ₁.put b10 (.cells #[.int .i64 0,.int .i64 0] 49) = σ₂ at hlg hM hb₅' ⊢
 clear hb₅ hf10 h₁
 have hz:σ.frz.lg σ₂.frz:=⟨hlg.imm,⟨[],rfl⟩,hlg.tok⟩
 have ht:=ht.lg hz
 have hl:=hl.lg hz
 have hl':=hl'.lg hz
 (conv=>whnf)
 refine ⟨_,⟨rfl,hb₅'.rdT fun _ _ h=>h⟩,?_⟩
 (conv=>whnf)
 refine ⟨Tryz.k32.any,(Tryz.refList_ok h t (ht.lg frz_self) one a len cap l (hl.lg frz_self) hlen).mono ?_⟩
 rintro _ σ' ⟨rfl,hσ'⟩ -
 obtain rfl:=hσ'.symm
 (conv=>whnf);(repeat (refine ⟨rfl,?_⟩;conv=>whnf))
 refine cb_split (fun hc=>?_) (fun hc=>?_)
 ·have hf:t.openF one [l] ≠ 0:=by simpa using hc
  have hF:t.kinF one two l l' = t.openF one [l]:=by unfold Tbl.kinF;rw [if_neg hf]
  have hS:t.kinS one two l l' = (0,0):=by unfold Tbl.kinS;rw [hF,if_neg hf]
  rw [hS,hF]
  (conv=>whnf)
  refine ⟨rfl,st_all (vs:=[.int .i64 0,.int .i64 0]) [] hM rfl (by simp [Value.single]) ?_⟩
  (conv=>whnf)
  refine ⟨[.int .i64 0,.int .i64 0],⟨rfl,reads_at [] rfl⟩,?_⟩
  (conv=>whnf)
  exact ⟨rfl,hlg.imm,⟨[_],rfl⟩,hlg.tok⟩
 have hf1:t.openF one [l] = 0:=by simpa using hc
 (conv=>whnf)
 refine ⟨_,⟨rfl,hb₅'.rdT fun _ _ h=>h⟩,?_⟩
 (conv=>whnf)
 refine ⟨Tryz.k32.any,(Tryz.refList_ok h t (ht.lg frz_self) two a' len' cap' l' (hl'.lg frz_self) hlen').mono ?_⟩
 rintro _ σ' ⟨rfl,hσ'⟩ -
 obtain rfl:=hσ'.symm
 have hF:t.kinF one two l l' = t.openF two [l']:=by unfold Tbl.kinF;rw [if_pos hf1]
 (conv=>whnf);(repeat (refine ⟨rfl,?_⟩;conv=>whnf))
 refine cb_split (fun hc=>?_) (fun hc=>?_)
 ·have hf:t.openF two [l'] ≠ 0:=by simpa using hc
  have hS:t.kinS one two l l' = (0,0):=by unfold Tbl.kinS;rw [hF,if_neg hf]
  rw [hS,hF]
  (conv=>whnf)
  refine ⟨rfl,st_all (vs:=[.int .i64 0,.int .i64 0]) [] hM rfl (by simp [Value.single]) ?_⟩
  (conv=>whnf)
  refine ⟨[.int .i64 0,.int .i64 0],⟨rfl,reads_at [] rfl⟩,?_⟩
  (conv=>whnf)
  exact ⟨rfl,hlg.imm,⟨[_],rfl⟩,hlg.tok⟩
 have hf2:t.openF two [l'] = 0:=by simpa using hc
 rw [hf2] at hF
 obtain ⟨hfl,hed1,hc1⟩:=Tbl.open_one hf1
 obtain ⟨-,hed2,hc2⟩:=Tbl.open_one hf2
 have L1:=Tbl.Lst.of hc1
 have L2:=Tbl.Lst.of hc2
 have n1:=L1.len hfl
 have n2:=L2.len hfl
 have e1:=hl.1
 have e2:=hl'.1
 have hm:=Tbl.isEd_max hfl hed1 hed2 L1 L2
 have hS:=Tbl.kinS_eq hfl hed1 hed2 L1 L2
 have m1:=Tbl.movedL_of hfl hed1 hm L1
 have m2:=Tbl.movedL_of hfl hed2 hm L2
 have s1:=(Tbl.lst_moveS hfl hed1 hm L1).len hfl
 have s2:=(Tbl.lst_moveC hfl hed1 hm L1).len hfl
 have s3:=(Tbl.lst_moveS hfl hed2 hm L2).len hfl
 have s4:=(Tbl.lst_moveC hfl hed2 hm L2).len hfl
 rw [hS,hF]
 (conv=>whnf)
 refine raw_max rfl rfl ?_
 (conv=>whnf)
 refine ⟨_,⟨rfl,hb₅'.rdT fun _ _ h=>h⟩,?_⟩
 (conv=>whnf)
 refine ⟨Tryz.k81.any,(Tryz.moved_ok h t ht hfl one (max one two) hed1 hm a len cap l hl (by omega)).mono ?_⟩
 rintro _ σ₃ ⟨⟨w1,w2,l1,l2,rfl,hl12,⟨b1,d1,rfl,i1⟩,⟨b2,d2,rfl,i2⟩⟩,h₃⟩ -
 rw [m1] at hl12
 obtain ⟨rfl,rfl⟩:=Prod.mk.inj hl12
 have ht:=ht.lg h₃.frz2
 have hl':=hl'.lg h₃.frz2
 (conv=>whnf)
 refine ⟨_,⟨rfl,(hb₅'.le h₃).rdT fun _ _ h=>h⟩,?_⟩
 (conv=>whnf)
 refine ⟨Tryz.k81.any,(Tryz.moved_ok h t ht hfl two (max one two) hed2 hm a' len' cap' l' hl' (by omega)).mono ?_⟩
 rintro _ σ₄ ⟨⟨w1,w2,l1,l2,rfl,hl12,⟨b3,d3,rfl,i3⟩,⟨b4,d4,rfl,i4⟩⟩,h₄⟩ -
 rw [m2] at hl12
 obtain ⟨rfl,rfl⟩:=Prod.mk.inj hl12
 have ht:=ht.lg h₄.frz2
 have i1:=i1.lg h₄.frz2
 have i2:=i2.lg h₄.frz2
 have hb₄:=(hb₅'.le h₃).le h₄
 have hM₄:=h₄.own.trans (h₃.own.trans hM)
 have hlg₄:σ.lg σ₄:=hlg.trans ((h₃.trans h₄).lg)
 (conv=>whnf)
 refine ⟨_,⟨rfl,hb₄.rdT fun _ _ h=>h⟩,?_⟩
 (conv=>whnf)
 refine ⟨.int .i64 (t.near (max one two) (t.moveS one (max one two) l) (t.moveS two (max one two) l')),fun σ' hle _=>?_,?_⟩
 ·(conv=>whnf)
  refine ⟨Tryz.k89.any,(Tryz.refNear_ok h t (ht.lg hle.frz1) (max one two) _ _ _ _ _ _ _ _ (i1.lg hle.frz1) (i3.lg hle.frz1) (by omega) (by omega)).mono ?_⟩
  rintro _ σ'' ⟨rfl,hσ⟩ -
  exact ⟨rfl,_,.refl _,hσ ▸ .refl _⟩
 (conv=>whnf)
 refine ⟨_,⟨rfl,hb₄.rdT fun _ _ h=>h⟩,?_⟩
 (conv=>whnf)
 intro σ₅ h₅ _
 (conv=>whnf)
 refine ⟨Tryz.k89.any,(Tryz.refNear_ok h t (ht.lg h₅.frz1) (max one two) _ _ _ _ _ _ _ _ (i2.lg h₅.frz1) (i4.lg h₅.frz1) (by omega) (by omega)).mono ?_⟩
 rintro _ σ' ⟨rfl,hσ'⟩ -
 obtain rfl:=hσ'.symm
 generalize t.near (max one two) (t.moveS one (max one two) l) (t.moveS two (max one two) l') = N1
 generalize t.near (max one two) (t.moveC one (max one two) l) (t.moveC two (max one two) l') = N2
 (conv=>whnf)
 refine ⟨rfl,st_all (vs:=[.int .i64 N1,.int .i64 N2]) [] (h₅.own.trans hM₄) rfl (by simp [Value.single]) ?_⟩
 (conv=>whnf)
 refine ⟨[.int .i64 N1,.int .i64 N2],⟨rfl,reads_at [] rfl⟩,?_⟩
 (conv=>whnf)
 exact ⟨rfl,fun x o h=>h₅.imm x o (hlg₄.imm x o h),⟨[_],rfl⟩,h₅.tok.trans hlg₄.tok⟩
end Go.Proofs
