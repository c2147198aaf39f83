/- A part of the proof: lemmas that the last text uses. No conditions of its own. -/
import Derived.Test.YtebpcmdnecenlaaGreatD45
import Derived.Test.YtebpcmdnecenlaaGreatD44
import Derived.Test.YtebpcmdnecenlaaGreatD42
import Derived.Test.YtebpcmdnecenlaaGreatD41
import Derived.Test.YtebpcmdnecenlaaGreatD43
import Derived.Test.YtebpcmdnecenlaaGreatD06
import Derived.Test.YtebpcmdnecenlaaGreatC00
set_option linter.unusedSimpArgs false
set_option linter.unusedVariables false
namespace Go.Proofs
open Go.TM
set_option maxRecDepth 100000
variable {T:Type} {S:TM.Sys Tryz.prog T} {σ:View T}
attribute [local irreducible] CallsV YieldV rngX
end Go.Proofs
namespace Go.TM
theorem mem_listS {s:Nat → Bool} {x:Int}:x ∈ listS s ↔ ∃ j:Nat,j < 8 ∧ s j = true ∧ x = j:=by
 unfold listS
 simp only [List.mem_map,List.mem_filter,List.mem_range]
 constructor
 ·rintro ⟨j,⟨h1,h2⟩,rfl⟩;exact ⟨j,h1,h2,rfl⟩
 ·rintro ⟨j,h1,h2,rfl⟩;exact ⟨j,⟨h1,h2⟩,rfl⟩
theorem asc_listS (s:Nat → Bool):Asc (listS s):=by
 unfold listS Asc
 rw [List.pairwise_map]
 exact List.Pairwise.imp (fun h=>by simpa using h) (List.Pairwise.filter _ List.pairwise_lt_range)
theorem memS_iff {l:List Int} {j:Nat}:memS l j = true ↔ (j:Int) ∈ l:=by unfold memS;exact decide_eq_true_iff
theorem listS_memS {l:List Int} (ha:Asc l) (h8:∀ x ∈ l,0 ≤ x ∧ x < 8):listS (memS l) = l:=by
 refine asc_ext (asc_listS _) ha fun x=>?_
 rw [mem_listS]
 constructor
 ·rintro ⟨j,_,h,rfl⟩;exact memS_iff.1 h
 ·intro hx
  have:=h8 x hx
  exact ⟨x.toNat,by omega,memS_iff.2 (by rw [Int.toNat_of_nonneg this.1];exact hx),by omega⟩
theorem cov_go (sure can:Nat → Bool):∀ (ps:List (Int × Int)) (c:Cov) (y:Nat),
  (ps.foldl (Cov.step sure can) c).so y = (c.so y || ps.any fun p=>p.2.toNat == y) ∧
  (ps.foldl (Cov.step sure can) c).la y = (c.la y || ps.any fun p=>p.2.toNat == y && !sure p.1.toNat) ∧
  (ps.foldl (Cov.step sure can) c).re y = (c.re y || ps.any fun p=>p.2.toNat == y && can p.1.toNat)
 | [],c,y=>by simp
 | p :: ps,c,y=>by
  obtain ⟨h1,h2,h3⟩:=cov_go sure can ps (Cov.step sure can c p) y
  rw [List.foldl_cons,h1,h2,h3]
  simp only [List.any_cons,Cov.step,putS]
  by_cases e:y = p.2.toNat
  ·subst e;simp [Bool.or_assoc]
  ·have e':(p.2.toNat == y) = false:=by simp;exact fun h=>e h.symm
   simp [e,e']
theorem cov_so (sure can:Nat → Bool) (ps:List (Int × Int)) (y:Nat):(cov sure can ps).so y = ps.any fun p=>p.2.toNat == y:=by unfold cov;rw [(cov_go sure can ps _ y).1];rfl
theorem cov_la (sure can:Nat → Bool) (ps:List (Int × Int)) (y:Nat):(cov sure can ps).la y = ps.any fun p=>p.2.toNat == y && !sure p.1.toNat:=by unfold cov;rw [(cov_go sure can ps _ y).2.1];rfl
theorem cov_re (sure can:Nat → Bool) (ps:List (Int × Int)) (y:Nat):(cov sure can ps).re y = ps.any fun p=>p.2.toNat == y && can p.1.toNat:=by unfold cov;rw [(cov_go sure can ps _ y).2.2];rfl
def nums (n:Nat):List Int:=(List.range n).map fun (j:Nat)=>(j:Int)
theorem mem_nums {n:Nat} {x:Int}:x ∈ nums n ↔ 0 ≤ x ∧ x < n:=by
 unfold nums
 simp only [List.mem_map,List.mem_range]
 constructor
 ·rintro ⟨j,h,rfl⟩;omega
 ·rintro ⟨h1,h2⟩;exact ⟨x.toNat,by omega,by omega⟩
theorem asc_nums (n:Nat):Asc (nums n):=by
 unfold nums Asc
 rw [List.pairwise_map]
 exact List.pairwise_lt_range.imp fun h=>by omega
theorem nums_succ (n:Nat):nums (n + 1) = nums n ++ [(n:Int)]:=by unfold nums;rw [List.range_succ];simp
def mvB (e x y:Int) (back:Bool) (m:GMv):Bool:=(!back && decide (mv3 m = (e,x,y))) || (back && decide (mv3 m = (e - 1,y,x)))
def Tbl.bec (t:Tbl) (e x y:Int) (back:Bool):Bool:=t.mvs.any (mvB e x y back)
def Tbl.ni (t:Tbl) (e:Int):Nat:=(t.items e).length
def nextE (e:Int) (back:Bool):Int:=if back then e - 1 else e + 1
def Tbl.some1 (t:Tbl) (e:Int) (back:Bool) (n:Nat) (y:Int):Bool:=(nums n).any fun x=>t.bec e x y back
def Tbl.all1 (t:Tbl) (e:Int) (back:Bool) (sure:List Int) (n:Nat) (y:Int):Bool:=(nums n).all fun x=>!t.bec e x y back || sure.contains x
def Tbl.reach1 (t:Tbl) (e:Int) (back:Bool) (can:List Int) (n:Nat) (y:Int):Bool:=(nums n).any fun x=>t.bec e x y back && can.contains x
def Tbl.sureL (t:Tbl) (e:Int) (back:Bool) (sure:List Int) (n:Nat):List Int:=(nums n).filter fun y=>t.some1 e back (t.ni e) y && t.all1 e back sure (t.ni e) y
def Tbl.canL (t:Tbl) (e:Int) (back:Bool) (can:List Int) (n:Nat):List Int:=(nums n).filter fun y=>t.reach1 e back can (t.ni e) y
def Tbl.stepL (t:Tbl) (e:Int) (back:Bool) (p:List Int × List Int):List Int × List Int:=(t.sureL e back p.1 (t.ni (nextE e back)),t.canL e back p.2 (t.ni (nextE e back)))
def Tbl.stepN (t:Tbl) (back:Bool):Nat → Int → List Int × List Int → List Int × List Int
 | 0,_,p=>p
 | n + 1,e,p=>t.stepN back n (nextE e back) (t.stepL e back p)
def Tbl.movedL (t:Tbl) (fr to:Int) (l:List Int):List Int × List Int:=if to < fr then t.stepN true (fr - to).toNat fr (l,l) else t.stepN false (to - fr).toNat fr (l,l)
def Tbl.psOf (t:Tbl) (e:Int) (back:Bool):List (Int × Int):=if back then t.bckP e else t.fwdP e
theorem mem_psOf {t:Tbl} {e x y:Int} {back:Bool}:(x,y) ∈ t.psOf e back ↔ t.bec e x y back = true:=by
 unfold Tbl.psOf Tbl.bec Tbl.bckP Tbl.fwdP mvB mv3
 cases back with
 | false=>
  simp only [Bool.false_eq_true,if_false,List.mem_map,List.mem_filter,List.any_eq_true,Bool.not_false,Bool.true_and,Bool.false_and,Bool.or_false,decide_eq_true_eq,beq_iff_eq,Prod.mk.injEq]
  constructor
  ·rintro ⟨m,⟨h1,h2⟩,h3,h4⟩;exact ⟨m,h1,h2,h3,h4⟩
  ·rintro ⟨m,h1,h2,h3,h4⟩;exact ⟨m,⟨h1,h2⟩,h3,h4⟩
 | true=>
  simp only [if_true,List.mem_map,List.mem_filter,List.any_eq_true,Bool.not_true,Bool.true_and,Bool.false_and,Bool.false_or,decide_eq_true_eq,beq_iff_eq,Prod.mk.injEq]
  constructor
  ·rintro ⟨m,⟨h1,h2⟩,h3,h4⟩;exact ⟨m,h1,h2,h4,h3⟩
  ·rintro ⟨m,h1,h2,h3,h4⟩;exact ⟨m,⟨h1,h2⟩,h4,h3⟩
theorem Tbl.bec_items {t:Tbl} (hf:t.flaw = 0) {e x y:Int} {back:Bool} (h:t.bec e x y back = true):t.isItem e x = true ∧ t.isItem (nextE e back) y = true:=by
 unfold Tbl.bec at h
 obtain ⟨m,hm,hb⟩:=List.any_eq_true.1 h
 have hok:=Tbl.mv_ok hf m hm
 unfold Tbl.mvOk at hok
 simp only [Bool.and_eq_true] at hok
 unfold mvB mv3 at hb
 unfold nextE
 cases back with
 | false=>
  simp at hb
  obtain ⟨rfl,rfl,rfl⟩:=hb
  exact ⟨hok.2.2.1,hok.2.2.2⟩
 | true=>
  simp at hb
  obtain ⟨h1,rfl,rfl⟩:=hb
  obtain rfl:e = m.ed + 1:=by omega
  exact ⟨hok.2.2.2,by simpa using hok.2.2.1⟩
theorem Tbl.isItem_iff {t:Tbl} {e n:Int}:t.isItem e n = true ↔ 0 ≤ n ∧ n < t.ni e:=by
 unfold Tbl.isItem btw Tbl.ni
 simp only [Bool.and_eq_true,decide_eq_true_eq]
 omega
theorem Tbl.ni8 {t:Tbl} (hf:t.flaw = 0) (e:Int):t.ni e ≤ 8:=by
 unfold Tbl.ni Tbl.items
 split
 ·rename_i he
  have hb:=Tbl.isEd_lt he
  obtain ⟨-,-,h8⟩:=Tbl.flaw_eds hf
  rw [List.getD_eq_getElem?_getD,List.getElem?_eq_getElem (by omega)]
  exact h8 _ (List.getElem_mem _)
 ·simp
theorem ps_any {ps:List (Int × Int)} {f:Int → Bool} {y:Nat} (h0:∀ p ∈ ps,0 ≤ p.2):(ps.any fun p=>p.2.toNat == y && f p.1) = true ↔ ∃ x,(x,(y:Int)) ∈ ps ∧ f x = true:=by
 simp only [List.any_eq_true,Bool.and_eq_true,beq_iff_eq]
 constructor
 ·rintro ⟨⟨a,b⟩,h1,h2,h3⟩
  have:=h0 _ h1
  simp only at h2 h3 this
  obtain rfl:b = y:=by omega
  exact ⟨a,h1,h3⟩
 ·rintro ⟨x,h1,h2⟩;exact ⟨(x,y),h1,by simp,h2⟩
theorem Tbl.step_eq {t:Tbl} (hf:t.flaw = 0) (e:Int) (back:Bool) (p:SC):t.stepL e back (listS p.s,listS p.c) = (listS (p.by (t.psOf e back)).s,listS (p.by (t.psOf e back)).c):=by
 have hbec:∀ x y,t.bec e x y back = true → (0 ≤ x ∧ x < t.ni e) ∧ 0 ≤ y ∧ y < t.ni (nextE e back):=fun x y h=>by
  obtain ⟨h1,h2⟩:=Tbl.bec_items hf h
  exact ⟨Tbl.isItem_iff.1 h1,Tbl.isItem_iff.1 h2⟩
 have h8:=Tbl.ni8 hf (nextE e back)
 have h8':=Tbl.ni8 hf e
 have h0:∀ q ∈ t.psOf e back,0 ≤ q.2:=fun q hq=>(hbec q.1 q.2 (mem_psOf.1 hq)).2.1
 have hc:∀ (s:Nat → Bool) (x:Int),0 ≤ x → x < 8 → ((listS s).contains x = true ↔ s x.toNat = true):=fun s x h1 h2=>by
  rw [List.contains_iff_mem,mem_listS]
  constructor
  ·rintro ⟨j,_,h,rfl⟩;simpa using h
  ·intro h;exact ⟨x.toNat,by omega,h,by omega⟩
 unfold Tbl.stepL SC.by
 refine Prod.ext ?_ ?_
 ·refine asc_ext (Asc.filter (asc_nums _) _) (asc_listS _) fun y=>?_
  simp only [Tbl.sureL,List.mem_filter,mem_nums,mem_listS,Cov.sure,cov_so,cov_la,Bool.and_eq_true,Bool.not_eq_true',Tbl.some1,Tbl.all1,List.any_eq_true,List.all_eq_true,Bool.or_eq_true]
  constructor
  ·rintro ⟨⟨h1,h2⟩,⟨x,hx,hb⟩,hall⟩
   obtain ⟨k,rfl⟩:=Int.eq_ofNat_of_zero_le h1
   refine ⟨k,by omega,⟨⟨(x,(k:Int)),mem_psOf.2 hb,by simp⟩,?_⟩,rfl⟩
   apply Classical.byContradiction
   intro hn
   rw [Bool.not_eq_false,ps_any (f:=fun x=>!p.s x.toNat) h0] at hn
   obtain ⟨x',h3,h4⟩:=hn
   have hb':=mem_psOf.1 h3
   have hx':=(hbec _ _ hb').1
   rcases hall x' hx' with h5 | h5
   ·rw [hb'] at h5;cases h5
   ·rw [hc _ _ hx'.1 (by omega)] at h5
    rw [h5] at h4;cases h4
  ·rintro ⟨j,hj,⟨⟨q,hq,hqy⟩,hla⟩,rfl⟩
   have hb:=mem_psOf.1 (show (q.1,q.2) ∈ t.psOf e back from hq)
   have hx:=hbec _ _ hb
   have hqj:q.2 = (j:Int):=by simp at hqy;omega
   rw [hqj] at hb hx
   refine ⟨⟨by omega,by omega⟩,⟨q.1,hx.1,hb⟩,fun x' hx'=>?_⟩
   by_cases h5:t.bec e x' j back = true
   ·right
    rw [hc _ _ hx'.1 (by omega)]
    apply Classical.byContradiction
    intro hn
    have:(t.psOf e back).any (fun q=>q.2.toNat == j && !p.s q.1.toNat) = true:=(ps_any (f:=fun x=>!p.s x.toNat) h0).2 ⟨x',mem_psOf.2 h5,by simpa using hn⟩
    rw [hla] at this;cases this
   ·left;simpa using h5
 ·refine asc_ext (Asc.filter (asc_nums _) _) (asc_listS _) fun y=>?_
  simp only [Tbl.canL,List.mem_filter,mem_nums,mem_listS,cov_re,Tbl.reach1,List.any_eq_true,Bool.and_eq_true]
  constructor
  ·rintro ⟨⟨h1,h2⟩,x,hx,hb,hx'⟩
   obtain ⟨k,rfl⟩:=Int.eq_ofNat_of_zero_le h1
   rw [hc _ _ hx.1 (by omega)] at hx'
   exact ⟨k,by omega,⟨(x,(k:Int)),mem_psOf.2 hb,by simp,hx'⟩,rfl⟩
  ·rintro ⟨j,hj,⟨q,hq,hqy,hqc⟩,rfl⟩
   have hb:=mem_psOf.1 (show (q.1,q.2) ∈ t.psOf e back from hq)
   have hx:=hbec _ _ hb
   have hqj:q.2 = (j:Int):=by simp at hqy;omega
   rw [hqj] at hb hx
   exact ⟨⟨by omega,by omega⟩,q.1,hx.1,hb,(hc _ _ hx.1.1 (by omega)).2 hqc⟩
theorem Tbl.stepN_fwd {t:Tbl} (hf:t.flaw = 0):∀ (n:Nat) (e:Int) (p:SC),t.stepN false n e (listS p.s,listS p.c) = (listS (t.goF n e p).s,listS (t.goF n e p).c)
 | 0,e,p=>rfl
 | n + 1,e,p=>by
  rw [Tbl.stepN,Tbl.step_eq hf,Tbl.stepN_fwd hf n];rfl
theorem Tbl.stepN_bck {t:Tbl} (hf:t.flaw = 0):∀ (n:Nat) (e:Int) (p:SC),t.stepN true n e (listS p.s,listS p.c) = (listS (t.goB n e p).s,listS (t.goB n e p).c)
 | 0,e,p=>rfl
 | n + 1,e,p=>by
  rw [Tbl.stepN,Tbl.step_eq hf,Tbl.stepN_bck hf n]
  have:nextE e true = e + -1:=by unfold nextE;simp;omega
  rw [this];rfl
theorem Tbl.moved_eq {t:Tbl} (hf:t.flaw = 0) {fr to:Int} {l:List Int} (hc:t.chk fr none l = 0):t.movedL fr to l = (listS (t.moved fr to l).s,listS (t.moved fr to l).c):=by
 have hl:listS (memS l) = l:=listS_memS (Tbl.chk_asc hc).1 fun x hx=>Tbl.item_lt hf (chk_items hc x hx)
 unfold Tbl.movedL Tbl.moved
 split
 ·have:=Tbl.stepN_bck hf (fr - to).toNat fr ⟨memS l,memS l⟩
  simp only [hl] at this
  exact this
 ·have:=Tbl.stepN_fwd hf (to - fr).toNat fr ⟨memS l,memS l⟩
  simp only [hl] at this
  exact this
end Go.TM
namespace Go.TM
variable {T:Type} {P:Program} {S:Sys P T} {σ:View T}
theorem CallsV.okd {f:FuncId} {args:Array Value} {R R':Value → View T → Prop} (h:CallsV S f args R σ) (hr:∀ v σ' w,σ'.ok w → R v σ' → ∃ σ'',Shift σ' σ'' ∧ R' v σ''):CallsV S f args R' σ:=by
 intro Stop m c cs k
 refine h Stop m c cs fun v σ' r=>?_
 by_cases hs:∃ w,σ'.ok w
 ·obtain ⟨w,hw⟩:=hs
  obtain ⟨σ'',h1,h2⟩:=hr v σ' w hw r
  exact .shift h1 (k v _ h2)
 ·exact .priv ⟨rfl,fun w ok=>absurd ⟨w,ok⟩ hs⟩
theorem AccIn.intsV {v:Value} {l:List Int} {A R:List Res} {I:Nat → Option Obj} {k:T} (h:AccIn 3 1 v (l.map fun n=>.int .i64 n) A) {w:World} (ok:(⟨I,A ++ R,k⟩:View T).ok w) :
  ∃ σ'':View T,Shift ⟨I,A ++ R,k⟩ σ'' ∧ σ''.ok w ∧ (∀ x o,I x = some o → σ''.I x = some o) ∧ σ''.M = R ∧ σ''.tok = k ∧ IntsV σ''.frz v l:=by
 obtain ⟨σ'',k1,k2,a,len,cap,rfl,hl,hsrc,hsp,_⟩:=Acc.freeze (σ:=⟨I,R,k⟩) (σ':=⟨I,A ++ R,k⟩) ok.sep (h R) (fun _ _ h=>h) rfl
 simp at hl
 exact ⟨σ'',k1,(k1.2 w ok).1,k2.imm,k2.own,k2.tok,a,cap,by rw [hl],ints_src hsrc hsp⟩
end Go.TM
namespace Go.Proofs
open Go.TM
set_option maxRecDepth 100000
variable {T:Type} {S:TM.Sys Tryz.prog T} {σ:View T}
attribute [local irreducible] CallsV YieldV rngX
end Go.Proofs
namespace Go.TM
end Go.TM
namespace Go.Proofs
open Go.TM
set_option maxRecDepth 100000
variable {T:Type} {S:TM.Sys Tryz.prog T} {σ:View T}
attribute [local irreducible] CallsV YieldV rngX
end Go.Proofs
namespace Go.TM
variable {T:Type} {σ:View T}
end Go.TM
namespace Go.Proofs
open Go.TM
set_option maxRecDepth 100000
variable {T:Type} {S:TM.Sys Tryz.prog T} {σ:View T}
attribute [local irreducible] CallsV YieldV rngX
end Go.Proofs
namespace Go.TM
variable {T:Type} {P:Program} {S:Sys P T} {σ:View T}
end Go.TM
namespace Go.Proofs
open Go.TM
set_option maxRecDepth 100000
variable {T:Type} {S:TM.Sys Tryz.prog T} {σ:View T}
attribute [local irreducible] CallsV YieldV rngX
end Go.Proofs
namespace Go.TM
structure Tbl.Lst (t:Tbl) (e:Int) (l:List Int):Prop where
 asc:Asc l
 its:∀ x ∈ l,t.isItem e x = true
theorem Tbl.chk_of {t:Tbl} {e:Int}:∀ {l:List Int} {p:Option Int},(∀ m,p = some m → ∀ x ∈ l,m < x) → Asc l → (∀ x ∈ l,t.isItem e x = true) → t.chk e p l = 0
 | [],_,_,_,_=>rfl
 | a :: l,p,hp,ha,hi=>by
  have ha':=List.pairwise_cons.1 ha
  have ih:t.chk e (some a) l = 0:=Tbl.chk_of (fun m e x hx=>by cases e;exact ha'.1 x hx) ha'.2 fun x hx=>hi x (List.mem_cons_of_mem _ hx)
  rw [Tbl.chk_cons,if_pos (hi a (List.mem_cons_self ..))]
  cases p with
  | none=>exact ih
  | some m=>
   have:=hp m rfl a (List.mem_cons_self ..)
   show (if a ≤ m then (7:Int) else _) = 0
   rw [if_neg (by omega)];exact ih
theorem Tbl.Lst.chk {t:Tbl} {e:Int} {l:List Int} (h:t.Lst e l):t.chk e none l = 0:=Tbl.chk_of (fun m e=>by cases e) h.asc h.its
theorem Tbl.Lst.filter {t:Tbl} {e:Int} {l:List Int} (h:t.Lst e l) (p:Int → Bool):t.Lst e (l.filter p):=⟨h.asc.filter p,fun x hx=>h.its x (List.mem_filter.1 hx).1⟩
theorem Tbl.Lst.len {t:Tbl} {e:Int} {l:List Int} (hf:t.flaw = 0) (h:t.Lst e l):l.length ≤ 8:=by
 rcases chk_len hf h.chk (by simp) with rfl | h
 ·simp
 ·exact h
theorem Tbl.chkAll_of {t:Tbl} {e:Int}:∀ {ls:List (List Int)},(∀ l ∈ ls,t.Lst e l) → t.chkAll e ls = 0
 | [],_=>rfl
 | l :: ls,h=>by
  rw [Tbl.chkAll,if_pos (h l (List.mem_cons_self ..)).chk]
  exact Tbl.chkAll_of fun l hl=>h l (List.mem_cons_of_mem _ hl)
theorem Tbl.openF_of {t:Tbl} (hf:t.flaw = 0) {e:Int} (he:t.isEd e = true) {ls:List (List Int)} (h:∀ l ∈ ls,t.Lst e l):t.openF e ls = 0:=by
 unfold Tbl.openF
 rw [if_pos hf,if_pos he];exact Tbl.chkAll_of h
theorem Tbl.moveF_of {t:Tbl} (hf:t.flaw = 0) {x y:Int} (hx:t.isEd x = true) (hy:t.isEd y = true) {l:List Int} (h:t.Lst x l):t.moveF x y l = 0:=by
 unfold Tbl.moveF
 rw [if_pos hf,hx,hy];exact h.chk
section
variable {t:Tbl}
def Tbl.sure (t:Tbl) (e:Int) (back:Bool) (s:List Int):List Int:=t.sureL e back s (t.ni (nextE e back))
def Tbl.can (t:Tbl) (e:Int) (back:Bool) (s:List Int):List Int:=t.canL e back s (t.ni (nextE e back))
def Tbl.sN (t:Tbl) (back:Bool):Nat → Int → List Int → List Int
 | 0,_,s=>s
 | n + 1,e,s=>t.sN back n (nextE e back) (t.sure e back s)
def Tbl.cN (t:Tbl) (back:Bool):Nat → Int → List Int → List Int
 | 0,_,s=>s
 | n + 1,e,s=>t.cN back n (nextE e back) (t.can e back s)
theorem Tbl.stepN_split (t:Tbl) (back:Bool):∀ (n:Nat) (e:Int) (s c:List Int),t.stepN back n e (s,c) = (t.sN back n e s,t.cN back n e c)
 | 0,_,_,_=>rfl
 | n + 1,e,s,c=>by rw [Tbl.stepN,Tbl.stepL,Tbl.stepN_split t back n];rfl
def bk (x y:Int):Bool:=decide (y < x)
def far (x y:Int):Nat:=(y - x).natAbs
theorem Tbl.move_eq (hf:t.flaw = 0) {x y:Int} (hx:t.isEd x = true) (hy:t.isEd y = true) {l:List Int} (h:t.Lst x l):t.moveS x y l = t.sN (bk x y) (far x y) x l ∧ t.moveC x y l = t.cN (bk x y) (far x y) x l:=by
 have hF:=Tbl.moveF_of hf hx hy h
 have hs:t.movedL x y l = (t.moveS x y l,t.moveC x y l):=by
  rw [Tbl.moved_eq hf h.chk]
  unfold Tbl.moveS Tbl.moveC
  rw [if_pos hF,if_pos hF]
 unfold Tbl.movedL at hs
 have e:(t.sN (bk x y) (far x y) x l,t.cN (bk x y) (far x y) x l) = (t.moveS x y l,t.moveC x y l):=by
  rw [← hs,← Tbl.stepN_split]
  unfold bk far
  by_cases hlt:y < x
  ·rw [if_pos hlt,decide_eq_true hlt,show (y - x).natAbs = (x - y).toNat by omega]
  ·rw [if_neg hlt,decide_eq_false hlt,show (y - x).natAbs = (y - x).toNat by omega]
 exact ⟨(congrArg Prod.fst e).symm,(congrArg Prod.snd e).symm⟩
section
variable {x y:Int} (hf:t.flaw = 0) (hx:t.isEd x = true) (hy:t.isEd y = true) {l:List Int} (h:t.Lst x l)
include hf hx hy h
end
theorem Tbl.move_self (hf:t.flaw = 0) {x:Int} (hx:t.isEd x = true) {l:List Int} (h:t.Lst x l):t.moveS x x l = l ∧ t.moveC x x l = l:=by
 rw [(Tbl.move_eq hf hx hx h).1,(Tbl.move_eq hf hx hx h).2]
 have e2:far x x = 0:=by unfold far;omega
 rw [e2];exact ⟨rfl,rfl⟩
end
def Tbl.chosen (t:Tbl) (e:Int) (bits:Nat):List Int:=(nums (t.ni e)).filter fun n=>bits.testBit n.toNat
theorem Tbl.lst_chosen (t:Tbl) (e:Int) (bits:Nat):t.Lst e (t.chosen e bits):=
 ⟨(asc_nums _).filter _,fun x hx=>Tbl.isItem_iff.2 (mem_nums.1 (List.mem_filter.1 hx).1)⟩
end Go.TM
namespace Go.TM
variable {T:Type} {P:Program} {S:Sys P T} {σ:View T}
theorem CallsV.listedG {f:FuncId} {args:Array Value} {G:Value → Value} {R:List Int → Prop}
  (h:CallsV S f args (fun v σ'=>∃ v1 l A X,v = G v1 ∧ R l ∧ σ'.M = A ++ (X ++ σ.M) ∧ AccIn 3 1 v1 (l.map fun n=>.int .i64 n) A ∧ (∀ x o,σ.I x = some o → σ'.I x = some o) ∧ σ'.tok = σ.tok) σ) :
  CallsV S f args (fun v σ'=>(∃ v1 l,v = G v1 ∧ R l ∧ IntsV σ'.frz v1 l) ∧ σ.le σ') σ:=by
 refine h.okd fun v σ' w ok ⟨v1,l,A,X,hv,hR,hM,hA,hI,ht⟩=>?_
 have s1:Shift σ' { σ' with M:=A ++ σ.M }:=shift_drop (by rw [hM];exact (List.Sublist.refl _).append (List.sublist_append_right ..))
 obtain ⟨σ₂,s2,ok2,i2,m2,t2,r2⟩:=hA.intsV (s1.2 w ok).1
 exact ⟨σ₂,s1.trans s2,⟨v1,l,hv,hR,r2⟩,fun x o h=>i2 x o (hI x o h),m2,t2.trans ht⟩
end Go.TM
namespace Go.Proofs
open Go.TM
set_option maxRecDepth 100000
variable {T:Type} {S:TM.Sys Tryz.prog T} {σ:View T}
attribute [local irreducible] CallsV YieldV rngX
end Go.Proofs
namespace Go.TM
end Go.TM
namespace Go.TM
theorem wrap8 {n:Nat} (h:n < 256):IntKind.wrap .u8 (n:Int) = n:=by
 have e1:(2:Int) ^ 8 = 256:=by decide
 simp only [IntKind.wrap,IntKind.bits,IntKind.signed,Bool.false_and,e1]
 simp
 omega
theorem bit8 (u c:Nat) (hu:u < 256) (hc:c < 8):IntKind.wrap .u8 (BitVec.ofInt (IntKind.bits .u8) ((u:Int).fdiv (2 ^ (min (c:Int).toNat (IntKind.bits .u8)))) &&& BitVec.ofInt (IntKind.bits .u8) 1).toNat = if u.testBit c then 1 else 0:=by
 show IntKind.wrap .u8 (BitVec.ofInt 8 ((u:Int).fdiv (2 ^ (min (c:Int).toNat 8))) &&& BitVec.ofInt 8 1).toNat = _
 have e1:min (c:Int).toNat 8 = c:=by simp;omega
 have e2:(u:Int).fdiv (2 ^ c) = ((u / 2 ^ c:Nat):Int):=by
  rw [Int.fdiv_eq_ediv_of_nonneg _ (by exact Int.pow_nonneg (by decide))]
  simp
 rw [e1,e2,BitVec.ofInt_natCast,show (BitVec.ofInt 8 1) = BitVec.ofNat 8 1 from rfl]
 have hlt:u / 2 ^ c < 2 ^ 8:=Nat.lt_of_le_of_lt (Nat.div_le_self ..) (by omega)
 have e3:(BitVec.ofNat 8 (u / 2 ^ c) &&& BitVec.ofNat 8 1).toNat = u / 2 ^ c % 2:=by
  rw [BitVec.toNat_and,BitVec.toNat_ofNat,BitVec.toNat_ofNat,Nat.mod_eq_of_lt hlt,show 1 % 2 ^ 8 = 1 from rfl,Nat.and_one_is_mod]
 rw [e3,wrap8 (by omega),Nat.testBit_eq_decide_div_mod_eq]
 by_cases h:u / 2 ^ c % 2 = 1
 ·simp [h]
 ·have:u / 2 ^ c % 2 = 0:=by omega
  simp [this]
def Tbl.edOf (t:Tbl) (u:Nat):Int:=((u % t.eds.length:Nat):Int)
theorem Tbl.isEd_of {t:Tbl} (hf:t.flaw = 0) (u:Nat):t.isEd (t.edOf u) = true:=by
 have he3:=Tbl.flaw_eds hf
 have:=Nat.mod_lt u (y:=t.eds.length) (by omega)
 unfold Tbl.isEd btw Tbl.edOf
 simp only [Bool.and_eq_true,decide_eq_true_eq]
 omega
theorem nums_take {n c:Nat} (h:c < n) (p:Int → Bool):(nums (c + 1)).filter p = (nums c).filter p ++ (if p (c:Int) then [(c:Int)] else []):=by
 rw [nums_succ,List.filter_append,List.filter_cons,List.filter_nil]
end Go.TM
namespace Go.Proofs
open Go.TM
set_option maxRecDepth 100000
variable {T:Type} {S:TM.Sys Tryz.prog T} {σ:View T}
attribute [local irreducible] CallsV YieldV rngX
theorem Tryz.fit_ok (h:TH) (t:Tbl) (ht:TabV σ h t):CallsV S 48 #[h.v] (fun v σ'=>(∃ B:Bool,v = .bool B ∧ (B = true → t.flaw = 0)) ∧ σ' = σ) σ:=by
 refine CallsV.pure' (CallsV.of (args:=[_]) Tryz.k48 Tryz.mixed (by simp) ?_)
 (conv=>whnf);(repeat (refine ⟨rfl,?_⟩;conv=>whnf))
 intro b σ₁ h₁ hb
 have hb:Blk σ₁ b #[.slice h.ea h.el h.ec,.slice h.ma h.ml h.mc,.slice h.ka h.kl h.kc]:=hb
 have ht₁:=ht.lg h₁.lg
 (conv=>whnf)
 refine ⟨_,⟨rfl,hb.rdT fun _ _ h=>h⟩,?_⟩
 (conv=>whnf)
 refine ⟨Tryz.k24.any,(Tryz.big_ok h t ht₁).mono ?_⟩
 rintro _ σ' ⟨⟨B,rfl⟩,hσ'⟩ -
 obtain rfl:=hσ'.symm
 (conv=>whnf);(repeat (refine ⟨rfl,?_⟩;conv=>whnf))
 refine gb_split (fun hc=>?_) (fun hc=>?_)
 ·(conv=>whnf)
  refine ⟨_,⟨rfl,hb.rdT fun _ _ h=>h⟩,?_⟩
  (conv=>whnf)
  refine ⟨Tryz.k30.any,(Tryz.refTable_ok h t ht₁).mono ?_⟩
  rintro _ σ' ⟨rfl,hσ'⟩ -
  obtain rfl:=hσ'.symm
  (conv=>whnf);(repeat (refine ⟨rfl,?_⟩;conv=>whnf))
  exact ⟨⟨_,rfl,fun h=>by simpa using h⟩,h₁.lg⟩
 ·(conv=>whnf);(repeat (refine ⟨rfl,?_⟩;conv=>whnf))
  exact ⟨⟨_,rfl,fun h=>by cases h⟩,h₁.lg⟩
theorem Tryz.edOf_ok (h:TH) (t:Tbl) (ht:TabV σ h t) (hf:t.flaw = 0) (u:Nat) (hu:u < 256):CallsV S 49 #[h.v,.int .u8 u] (fun v σ'=>v = .int .i64 (t.edOf u) ∧ σ' = σ) σ:=by
 refine CallsV.pure' (CallsV.of (args:=[_,_]) Tryz.k49 Tryz.mixed (by simp) ?_)
 have hel:=ht.eds.1
 have he3:=Tbl.flaw_eds hf
 (conv=>whnf);(repeat (refine ⟨rfl,?_⟩;conv=>whnf))
 intro b σ₁ h₁ hb
 have hb:Blk σ₁ b #[.slice h.ea h.el h.ec,.slice h.ma h.ml h.mc,.slice h.ka h.kl h.kc]:=hb
 (conv=>whnf)
 refine ⟨_,hb.sees3 (o:=0) rfl,?_⟩
 (conv=>whnf);(repeat (refine ⟨rfl,?_⟩;conv=>whnf))
 have hw:IntKind.wrap .i64 (u:Int) = u:=wrap_inR (by unfold InR;omega)
 rw [hw]
 refine ⟨by omega,?_⟩
 (conv=>whnf);(repeat (refine ⟨rfl,?_⟩;conv=>whnf))
 have e1:(u:Int).tmod (h.el:Int) = ((u % h.el:Nat):Int):=by
  rw [Int.tmod_eq_emod_of_nonneg (by omega)];rfl
 exact ⟨by rw [e1,← hel];rfl,h₁.lg⟩
theorem Tryz.chosen_ok (h:TH) (t:Tbl) (ht:TabV σ h t) (hf:t.flaw = 0) (e:Int) (hed:t.isEd e = true) (u:Nat) (hu:u < 256):CallsV S 50 #[h.v,.int .i64 e,.int .u8 u] (fun v σ'=>(∃ v1 m,v = v1 ∧ m = t.chosen e u ∧ IntsV σ'.frz v1 m) ∧ σ.le σ') σ:=by
 refine CallsV.listedG (G:=fun v1=>v1) (R:=fun m=>m = t.chosen e u) (CallsV.of (args:=[_,_,_]) Tryz.k50 Tryz.mixed (by simp) ?_)
 obtain ⟨ke,ade,ia,il,ic,rfl,hke,hea,hse,hit⟩:=Tbl.isEd_at ht hed
 have hil:(t.items (ke:Int)).length = il:=hit.1
 have h8:=Tbl.ni8 hf (ke:Int)
 unfold Tbl.ni at h8
 (conv=>whnf);(repeat (refine ⟨rfl,?_⟩;conv=>whnf))
 intro b σ₁ h₁ hb
 have hb:Blk σ₁ b #[.slice h.ea h.el h.ec,.slice h.ma h.ml h.mc,.slice h.ka h.kl h.kc]:=hb
 (conv=>whnf)
 refine ⟨Nat × Value,fun y=>[(1,.int .i64 (ke:Int)),(2,.int .u8 u),(3,.pointer (some ⟨b,0,none⟩)),(7,y.2),(8,.int .i64 y.1)],
  fun y σ'=>σ₁.lg σ' ∧ (∀ x o,σ.I x = some o → σ'.I x = some o) ∧ σ'.tok = σ.tok ∧ Acc 3 1 y.2 (((nums y.1).filter fun n=>u.testBit n.toNat).map fun n=>.int .i64 n) σ'.M σ.M ∧ y.1 ≤ il,fun y=>il - y.1,(0,.slice none 0 0),⟨rfl,rfl,rfl,rfl,rfl,trivial⟩,⟨(View.le.refl _).lg,h₁.imm,h₁.tok,by rw [h₁.own];exact .nil,by simp⟩,?_⟩
 rintro ⟨c,v⟩ f σ₂ ⟨hlg₂,hI,htk,ha,hi⟩
 simp only at ha hi
 have hlen:=List.length_filter_le (fun n:Int=>u.testBit n.toNat) (nums c)
 have hnl:(nums c).length = c:=by unfold nums;simp
 obtain ⟨sa,sc,rfl,-⟩:=src_ints ha
 (conv=>whnf)
 refine ⟨_,(hb.lg hlg₂).sees3 (o:=0) rfl,?_⟩
 (conv=>whnf)
 refine ⟨ade,ke,⟨hea,rfl,hke⟩,?_⟩
 (conv=>whnf)
 refine ⟨_,hse.lg (h₁.lg.trans hlg₂),?_⟩
 (conv=>whnf);(repeat (refine ⟨rfl,?_⟩;conv=>whnf))
 refine cb_split (fun hc=>?_) (fun hc=>?_)
 ·have hlt:c < il:=by simpa using hc
  have hin:InR ((c:Int) + 1):=by unfold InR;omega
  have hns:=nums_take hlt fun n=>u.testBit n.toNat
  (conv=>whnf);(repeat (refine ⟨rfl,?_⟩;conv=>whnf))
  refine ⟨by simp only;omega,?_⟩
  (conv=>whnf);(repeat (refine ⟨rfl,?_⟩;conv=>whnf))
  rw [bit8 u c hu (by omega)]
  refine cb_split (fun hc=>?_) (fun hc=>?_)
  ·have hyes:u.testBit c = true:=by
    apply Classical.byContradiction;intro hn
    rw [if_neg hn] at hc;simp at hc
   rw [if_pos (by simpa using hyes)] at hns
   (conv=>whnf)
   intro b27 hf27
   refine put_new hf27 fun σ₅ h₅ hb₂₇=>?_
   have hb₂₇:Blk σ₅ b27 #[.int .i64 (c:Int)]:=hb₂₇
   (conv=>whnf)
   refine raw_app (v:=.slice sa _ sc) (cs:=((nums c).filter fun n=>u.testBit n.toNat).map fun n=>.int .i64 n) (new:=[.int .i64 (c:Int)]) (M₀:=σ.M) Tryz.sl27 rfl rfl (by rw [h₅.own];exact ha) (.inr ⟨_,rfl,hb₂₇.reads (fun k v hv=>by simpa using hv)⟩) rfl (by simp [Value.single]) (by simp;omega) fun v' M' ha' _=>?_
   have ha'':Acc 3 1 v' (((nums (c + 1)).filter fun n=>u.testBit n.toNat).map fun n=>.int .i64 n) M' σ.M:=by rw [hns];simpa using ha'
   obtain ⟨ta,tc,rfl,-⟩:=src_ints (σ:={ σ₅ with M:=M' }) ha''
   obtain ⟨A',hA'⟩:=ha''.own
   (conv=>whnf)
   refine ⟨hin,?_⟩
   (conv=>whnf)
   exact ⟨rfl,(c + 1,.slice ta _ tc),⟨rfl,rfl,rfl,rfl,rfl,trivial⟩,⟨⟨fun x o h=>h₅.imm x o (hlg₂.imm x o h),⟨A',by rw [h₁.own];exact hA'⟩,h₅.tok.trans hlg₂.tok⟩,fun x o h=>h₅.imm x o (hI x o h),h₅.tok.trans htk,ha'',by simp only;omega⟩,by show _ - _ < _ - _;omega⟩
  ·have hno:u.testBit c = false:=by
    apply Classical.byContradiction;intro hn
    rw [if_pos (by simpa using hn)] at hc;simp at hc
   rw [if_neg (by simp [hno])] at hns
   rw [List.append_nil] at hns
   (conv=>whnf)
   refine ⟨hin,?_⟩
   (conv=>whnf)
   exact ⟨rfl,(c + 1,.slice sa _ sc),⟨rfl,rfl,rfl,rfl,rfl,trivial⟩,⟨hlg₂,hI,htk,by rw [hns];exact ha,by simp only;omega⟩,by show _ - _ < _ - _;omega⟩
 ·have hge:il ≤ c:=by simpa using hc
  obtain rfl:c = il:=by omega
  obtain ⟨A,hA,hain⟩:=ha.split
  (conv=>whnf);(repeat (refine ⟨rfl,?_⟩;conv=>whnf))
  exact ⟨_,_,A,[],rfl,by unfold Tbl.chosen Tbl.ni;rw [hil],hA,hain,hI,htk⟩
end Go.Proofs
namespace Go.TM
end Go.TM
namespace Go.Proofs
open Go.TM
set_option maxRecDepth 100000
variable {T:Type} {S:TM.Sys Tryz.prog T} {σ:View T}
attribute [local irreducible] CallsV YieldV rngX
end Go.Proofs
namespace Go.TM
theorem View.le.frz2 {T:Type} {σ σ':View T} (h:σ.le σ'):σ.frz.lg σ'.frz:=⟨h.imm,⟨[],rfl⟩,h.tok⟩
def LstV {T:Type} (σ:View T) (v:Value) (l:List Int):Prop:=∃ a c,v = .slice a l.length c ∧ Ints σ.frz a l.length l
theorem LstV.le {T:Type} {σ σ':View T} {v:Value} {l:List Int} (h:LstV σ v l) (k:σ.le σ'):LstV σ' v l:=let ⟨a,c,e,h⟩:=h;⟨a,c,e,h.lg k.frz2⟩
end Go.TM
namespace Go.Proofs
open Go.TM
set_option maxRecDepth 100000
variable {T:Type} {S:TM.Sys Tryz.prog T} {σ:View T}
attribute [local irreducible] CallsV YieldV rngX
section
variable (h:TH) (t:Tbl) (ht:TabV σ.frz h t) (hf:t.flaw = 0)
include ht hf
theorem Tryz.chosenL_ok (e:Int) (hed:t.isEd e = true) (u:Nat) (hu:u < 256):CallsV S 50 #[h.v,.int .i64 e,.int .u8 u] (fun v σ'=>LstV σ' v (t.chosen e u) ∧ σ.le σ') σ:=by
 refine (Tryz.chosen_ok h t (ht.lg frz_self) hf e hed u hu).mono ?_
 rintro v σ' ⟨⟨_,_,rfl,rfl,hi⟩,hle⟩
 exact ⟨hi,hle⟩
end
section
variable {a a':Option Addr} {cap cap':Nat} {l m:List Int} (hl:Ints σ.frz a l.length l) (hm:Ints σ.frz a' m.length m) (h1:l.length ≤ 1000) (h2:m.length ≤ 1000)
include hl hm h1 h2
end
theorem Tryz.hasL_ok {a:Option Addr} {cap:Nat} {l:List Int} (hl:Ints σ.frz a l.length l) (h1:l.length ≤ 1000) (n:Int):CallsV S 53 #[.slice a l.length cap,.int .i64 n] (fun v σ'=>v = .bool (l.contains n) ∧ σ' = σ) σ:=
 Tryz.hasInt_ok a l.length cap l (hl.lg frz_self) (by omega) n
end Go.Proofs
namespace Go.TM
section
variable {T:Type} {σ σ':View T}
theorem LstV.at {a:Option Addr} {n c:Nat} {l:List Int} (h:LstV σ (.slice a n c) l):Ints σ.frz a l.length l:=by
 obtain ⟨_,_,e,h⟩:=h
 cases e;exact h
def MovV (σ:View T) (v:Value) (l m:List Int):Prop:=∃ v1 v2,v = .tuple #[v1,v2,.int .i64 0] ∧ LstV σ v1 l ∧ LstV σ v2 m
theorem MovV.at {a a':Option Addr} {n c n' c':Nat} {x:Value} {l m:List Int} (h:MovV σ (.tuple #[.slice a n c,.slice a' n' c',x]) l m):Ints σ.frz a l.length l ∧ Ints σ.frz a' m.length m:=by
 obtain ⟨v1,v2,e,h1,h2⟩:=h
 simp at e
 obtain ⟨rfl,rfl,-⟩:=e
 exact ⟨h1.at,h2.at⟩
def OneV (σ:View T) (v:Value) (l:List Int):Prop:=∃ v1,v = .tuple #[v1,.int .i64 0] ∧ LstV σ v1 l
theorem OneV.at {a:Option Addr} {n c:Nat} {x:Value} {l:List Int} (h:OneV σ (.tuple #[.slice a n c,x]) l):Ints σ.frz a l.length l:=by
 obtain ⟨v1,e,h1⟩:=h
 simp at e
 obtain ⟨rfl,-⟩:=e
 exact h1.at
end
theorem CutsV.one {T:Type} {σ:View T} {b:Nat} {a:Option Addr} {cap:Nat} {l:List Int} {keep:Bool} (hb:Blk σ b #[.slice a l.length cap,.bool keep]) (h:Ints σ a l.length l) (k:l.length < 2 ^ 60):CutsV σ (some ⟨b,0,none⟩) 1 [⟨l,keep⟩]:=by
 refine ⟨rfl,fun i x hx=>?_⟩
 obtain rfl:i = 0:=by have:=(List.getElem?_eq_some_iff.1 hx).1;simp at this;omega
 cases hx
 refine ⟨_,_,rfl,rfl,⟨a,l.length,cap,rfl,h,k⟩,rfl,fun i v hv=>?_⟩
 match i,hv with
 | 0,hv=>simp at hv;subst hv;rw [Nat.zero_mul,add_none,add_none];exact hb.sees rfl
 | 1,hv=>simp at hv;subst hv;rw [Nat.zero_mul,add_none,add_none];exact hb.sees rfl
 | i + 2,hv=>simp at hv
theorem Blk.frz {T:Type} {σ:View T} {b:Nat} {c:Array Value} (h:Blk σ b c):Blk σ.frz b c:=h
end Go.TM
namespace Go.Proofs
open Go.TM
set_option maxRecDepth 100000
variable {T:Type} {S:TM.Sys Tryz.prog T} {σ:View T}
attribute [local irreducible] CallsV YieldV rngX
theorem Tryz.hasT_ok {a:Option Addr} {cap:Nat} {l:List Int} (hl:Ints σ.frz a l.length l) (h1:l.length ≤ 1000) {n:Int} (hn:n ∈ l):CallsV S 53 #[.slice a l.length cap,.int .i64 n] (fun v σ'=>v = .bool true ∧ σ' = σ) σ:=by
 have k:=Tryz.hasL_ok (S:=S) (cap:=cap) hl h1 n
 rw [show l.contains n = true by simpa using hn] at k
 exact k
end Go.Proofs
namespace Go.TM
variable {T:Type} {P:Program} {S:Sys P T} {σ:View T}
def U16s (σ:View T) (a:Option Addr) (len:Nat) (l:List Nat):Prop:=RowsV σ a len 1 l fun n vs=>vs = [.int .u16 (n:Int)] ∧ n < 65536
theorem U16s.lg {σ':View T} {a:Option Addr} {len:Nat} {l:List Nat} (h:U16s σ a len l) (hl:σ.lg σ'):U16s σ' a len l:=RowsV.lg h hl fun _ _ h=>h
structure RC where
 a:Option Addr
 cap:Nat
 c:GCut
end Go.TM
namespace Go.Proofs
open Go.TM
set_option maxRecDepth 100000
variable {T:Type} {S:TM.Sys Tryz.prog T} {σ:View T}
attribute [local irreducible] CallsV YieldV rngX
end Go.Proofs
namespace Go.TM
variable {T:Type} {σ:View T}
end Go.TM
namespace Go.TM
open Go.Proofs
theorem fold_max_le {α:Type} (f:α → Int) (k:Int):∀ (l:List α) (m:Int),l.foldl (fun m y=>max m (f y)) m ≤ k ↔ m ≤ k ∧ ∀ y ∈ l,f y ≤ k
 | [],m=>by simp
 | a :: l,m=>by
  rw [List.foldl_cons,fold_max_le f k l]
  simp only [List.mem_cons,forall_eq_or_imp]
  constructor
  ·rintro ⟨h1,h2⟩;exact ⟨by omega,by omega,h2⟩
  ·rintro ⟨h1,h2,h3⟩;exact ⟨by omega,h3⟩
theorem maxL_le {k:Int} (hk:0 ≤ k) (l:List Int):maxL l ≤ k ↔ ∀ x ∈ l,x ≤ k:=by
 cases l with
 | nil=>simp [maxL,hk]
 | cons a l=>
  rw [maxL]
  have:=fold_max_le (fun x:Int=>x) k l a
  simp only [List.mem_cons,forall_eq_or_imp]
  exact this
section
variable {t:Tbl} {e:Int} {xs ys:List Int}
theorem Tbl.near_le {k:Int} (hk:0 ≤ k):t.near e xs ys ≤ k ↔ ∀ x ∈ xs,∀ y ∈ ys,t.lev e x y ≤ k:=by
 unfold Tbl.near
 rw [maxL_le hk]
 simp only [List.mem_map,forall_exists_index,and_imp,forall_apply_eq_imp_iff₂]
 unfold Tbl.rowMax
 constructor
 ·intro h x hx;exact ((fold_max_le (fun y=>t.lev e x y) k ys 0).1 (h x hx)).2
 ·intro h x hx;exact (fold_max_le (fun y=>t.lev e x y) k ys 0).2 ⟨hk,h x hx⟩
theorem Tbl.near_nonneg:0 ≤ t.near e xs ys:=by
 unfold Tbl.near
 cases xs with
 | nil=>exact Int.le_refl 0
 | cons a l=>
  rw [List.map_cons,maxL]
  have h0:0 ≤ t.rowMax e a ys:=((fold_max_le (fun y=>t.lev e a y) _ ys 0).1 (Int.le_refl _)).1
  have h1:=((fold_max_le (fun x:Int=>x) _ (l.map fun x=>t.rowMax e x ys) (t.rowMax e a ys)).1 (Int.le_refl _)).1
  exact Int.le_trans h0 h1
theorem Tbl.le_near {x y:Int} (hx:x ∈ xs) (hy:y ∈ ys):t.lev e x y ≤ t.near e xs ys:=(Tbl.near_le Tbl.near_nonneg).1 (Int.le_refl _) x hx y hy
theorem Tbl.near_ge {k:Int} (hk:1 ≤ k):k ≤ t.near e xs ys ↔ ∃ x ∈ xs,∃ y ∈ ys,k ≤ t.lev e x y:=by
 constructor
 ·intro h
  apply Classical.byContradiction
  intro hn
  have:t.near e xs ys ≤ k - 1:=(Tbl.near_le (by omega)).2 fun x hx y hy=>by
   apply Classical.byContradiction
   intro hc
   exact hn ⟨x,hx,y,hy,by omega⟩
  omega
 ·rintro ⟨x,hx,y,hy,h⟩
  exact Int.le_trans h (Tbl.le_near hx hy)
end
section
variable {t:Tbl} (hf:t.flaw = 0) {x y:Int} (hx:t.isEd x = true) (hy:t.isEd y = true) {a b:List Int} (ha:t.Lst x a) (hb:t.Lst y b)
include hf hx hy ha hb
theorem Tbl.kinF_of:t.kinF x y a b = 0:=by
 unfold Tbl.kinF
 have h1:t.openF x [a] = 0:=Tbl.openF_of hf hx fun m hm=>by rw [List.mem_singleton.1 hm];exact ha
 have h2:t.openF y [b] = 0:=Tbl.openF_of hf hy fun m hm=>by rw [List.mem_singleton.1 hm];exact hb
 rw [if_pos h1];exact h2
theorem Tbl.isEd_max:t.isEd (max x y) = true:=by
 have _:=hf
 have _:=ha
 have _:=hb
 rcases Int.le_total x y with h | h
 ·rw [Int.max_eq_right h];exact hy
 ·rw [Int.max_eq_left h];exact hx
theorem Tbl.kinS_eq:t.kinS x y a b = (t.near (max x y) (t.moveS x (max x y) a) (t.moveS y (max x y) b),t.near (max x y) (t.moveC x (max x y) a) (t.moveC y (max x y) b)):=by
 have hm:=Tbl.isEd_max hf hx hy ha hb
 have h1:=Tbl.moveF_of hf hx hm ha
 have h2:=Tbl.moveF_of hf hy hm hb
 unfold Tbl.kinS Tbl.moveS Tbl.moveC
 rw [if_pos (Tbl.kinF_of hf hx hy ha hb),if_pos h1,if_pos h1,if_pos h2,if_pos h2]
 rfl
end
theorem Tbl.kin_same {t:Tbl} (hf:t.flaw = 0) {x:Int} (hx:t.isEd x = true) {a b:List Int} (ha:t.Lst x a) (hb:t.Lst x b):t.kinS x x a b = (t.near x a b,t.near x a b):=by
 rw [Tbl.kinS_eq hf hx hx ha hb,Int.max_self,(Tbl.move_self hf hx ha).1,(Tbl.move_self hf hx ha).2,(Tbl.move_self hf hx hb).1,(Tbl.move_self hf hx hb).2]
end Go.TM
namespace Go.TM
theorem Tbl.mem_reach {t:Tbl} {tk:Talk} {x y:List Int} {p:Int × Int}:p ∈ t.reach tk x y ↔ p.1 ∈ tk.a ∧ p.2 ∈ tk.b ∧ p.1 ∉ x ∧ p.2 ∉ y ∧ tk.lv ≤ t.lev tk.ed p.1 p.2:=by
 have hok:∀ one two,t.okP tk x y one two = true ↔ one ∉ x ∧ two ∉ y ∧ tk.lv ≤ t.lev tk.ed one two:=fun one two=>by
  unfold Tbl.okP
  rw [Bool.not_eq_true',Bool.or_eq_false_iff,Bool.or_eq_false_iff,decide_eq_false_iff_not]
  constructor
  ·rintro ⟨⟨h1,h2⟩,h3⟩;exact ⟨by simpa using h1,by simpa using h2,by omega⟩
  ·rintro ⟨h1,h2,h3⟩;exact ⟨⟨by simpa using h1,by simpa using h2⟩,by omega⟩
 unfold Tbl.reach Tbl.reachRow
 rw [List.mem_flatMap]
 constructor
 ·rintro ⟨one,h1,h2⟩
  obtain ⟨two,h3,rfl⟩:=List.mem_map.1 h2
  obtain ⟨h3,h4⟩:=List.mem_filter.1 h3
  exact ⟨h1,h3,(hok _ _).1 h4⟩
 ·rintro ⟨h1,h2,h3⟩
  exact ⟨p.1,h1,List.mem_map.2 ⟨p.2,List.mem_filter.2 ⟨h2,(hok _ _).2 h3⟩,rfl⟩⟩
def Tbl.prs (t:Tbl) (tk:Talk):List (Int × Int):=t.reach tk [] []
theorem Tbl.mem_prs {t:Tbl} {tk:Talk} {p:Int × Int}:p ∈ t.prs tk ↔ p.1 ∈ tk.a ∧ p.2 ∈ tk.b ∧ tk.lv ≤ t.lev tk.ed p.1 p.2:=by
 unfold Tbl.prs;rw [Tbl.mem_reach];simp
structure Tbl.Best (t:Tbl) (tk:Talk) (l r:List Int):Prop where
 sub:l.Sublist tk.a
 left:r = t.leftF tk l
 len:l.length + r.length = t.mostT tk
 least:∀ l':List Int,l'.Sublist tk.a → l'.length + (t.leftF tk l').length = t.mostT tk → ¬ cmpL l' l < 0
section
variable {t:Tbl} {tk:Talk} (ha:Asc tk.a) (hb:Asc tk.b)
include ha
include hb
end
end Go.TM
namespace Go.TM
section
variable {t:Tbl} {e:Int}
end
def Tbl.row (t:Tbl) (k:Talk) (x:Int) (l:List Int):List (Int × Int):=(l.filter fun y=>decide (k.lv ≤ t.lev k.ed x y)).map fun y=>(x,y)
theorem Tbl.prs_eq (t:Tbl) (k:Talk):t.prs k = k.a.flatMap fun x=>t.row k x k.b:=by
 unfold Tbl.prs Tbl.reach
 congr 1
 funext x
 unfold Tbl.reachRow Tbl.row
 congr 1
 refine List.filter_congr fun y _=>?_
 unfold Tbl.okP
 rw [Bool.eq_iff_iff]
 simp
theorem Tbl.row_len (t:Tbl) (k:Talk) (x:Int) (l:List Int):(t.row k x l).length ≤ l.length:=by
 unfold Tbl.row
 rw [List.length_map];exact List.length_filter_le ..
theorem flat_len {α β:Type} {f:α → List β} {m:Nat}:∀ {l:List α},(∀ x,x ∈ l → (f x).length ≤ m) → (l.flatMap f).length ≤ l.length * m
 | [],_=>by simp
 | x :: l,h=>by
  rw [List.flatMap_cons,List.length_append,List.length_cons,Nat.succ_mul]
  have h1:=h x (List.mem_cons_self ..)
  have h2:=flat_len (l:=l) fun y hy=>h y (List.mem_cons_of_mem _ hy)
  omega
theorem Tbl.prs_len (t:Tbl) (k:Talk):(t.prs k).length ≤ k.a.length * k.b.length:=by
 rw [Tbl.prs_eq]
 exact flat_len fun x _=>t.row_len k x k.b
theorem Tbl.talk_of {t:Tbl} (hf:t.flaw = 0) {e lv:Int} (he:t.isEd e = true) {a b:List Int} (ha:t.Lst e a) (hb:t.Lst e b) (h1:1 ≤ lv) (h5:lv ≤ 5):t.talkF e a b lv = 0:=by
 have ho:t.openF e [a,b] = 0:=Tbl.openF_of hf he fun m hm=>by
  rcases List.mem_cons.1 hm with rfl | hm
  ·exact ha
  ·rw [List.mem_singleton.1 hm];exact hb
 unfold Tbl.talkF
 rw [if_pos ho,if_pos (by unfold btw;simp [h1,h5])]
theorem flat_sub {α β:Type} {f g:α → List β} (h:∀ x,(f x).Sublist (g x)):∀ (l:List α),(l.flatMap f).Sublist (l.flatMap g)
 | []=>List.Sublist.slnil
 | x :: l=>by rw [List.flatMap_cons,List.flatMap_cons];exact (h x).append (flat_sub h l)
theorem Tbl.prs_sub {t:Tbl} {e lv lv':Int} {a b:List Int} (h:lv ≤ lv'):(t.prs ⟨e,lv',a,b⟩).Sublist (t.prs ⟨e,lv,a,b⟩):=by
 rw [Tbl.prs_eq,Tbl.prs_eq]
 have row:∀ x,(t.row ⟨e,lv',a,b⟩ x b).Sublist (t.row ⟨e,lv,a,b⟩ x b):=fun x=>by
  unfold Tbl.row
  refine List.Sublist.map _ ?_
  have:(b.filter fun y=>decide (lv' ≤ t.lev e x y)) = (b.filter fun y=>decide (lv ≤ t.lev e x y)).filter fun y=>decide (lv' ≤ t.lev e x y):=by
   rw [List.filter_filter]
   refine List.filter_congr fun y _=>?_
   rw [Bool.eq_iff_iff]
   simp only [decide_eq_true_eq,Bool.and_eq_true]
   omega
  rw [this]
  exact List.filter_sublist ..
 exact flat_sub row a
end Go.TM
namespace Go.TM
open Go.Proofs
end Go.TM
namespace Go.Proofs
open Go.TM
set_option maxRecDepth 100000
variable {T:Type} {S:TM.Sys Tryz.prog T} {σ:View T}
attribute [local irreducible] CallsV YieldV rngX
end Go.Proofs
namespace Go.Proofs
open Go.TM
set_option maxRecDepth 100000
variable {T:Type} {S:TM.Sys Tryz.prog T} {σ:View T}
attribute [local irreducible] CallsV YieldV rngX
end Go.Proofs
namespace Go.TM
end Go.TM
namespace Go.Proofs
open Go.TM
set_option maxRecDepth 100000
variable {T:Type} {S:TM.Sys Tryz.prog T} {σ:View T}
attribute [local irreducible] CallsV YieldV rngX
end Go.Proofs
namespace Go.TM
theorem Tbl.pairsL_prs {t:Tbl} {e lv:Int} {a b:List Int} (h:t.talkF e a b lv = 0):t.pairsL e a b lv = t.prs ⟨e,lv,a,b⟩:=by
 unfold Tbl.pairsL;rw [if_pos h];rfl
def PrsV {T:Type} (σ:View T) (v:Value) (l:List (Int × Int)):Prop:=∃ a c,v = .slice a l.length c ∧ PairsV σ.frz a l.length l
end Go.TM
namespace Go.Proofs
open Go.TM
set_option maxRecDepth 100000
section
variable {T:Type} {S:TM.Sys Tryz.prog T} {σ:View T}
attribute [local irreducible] CallsV YieldV rngX
theorem Tryz.prsL_ok (h:TH) (t:Tbl) (ht:TabV σ.frz h t) (hf:t.flaw = 0) (e lv:Int) (hed:t.isEd e = true) {a a':Option Addr} {cap cap':Nat} {l l':List Int} (hl:Ints σ.frz a l.length l) (hL:t.Lst e l) (hl':Ints σ.frz a' l'.length l') (hL':t.Lst e l') (h1:1 ≤ lv) (h5:lv ≤ 5) :
  CallsV S 43 #[h.v,.int .i64 e,.slice a l.length cap,.slice a' l'.length cap',.int .i64 lv] (fun v σ'=>(∃ v1,v = .tuple #[v1,.int .i64 0] ∧ PrsV σ' v1 (t.prs ⟨e,lv,l,l'⟩)) ∧ σ.le σ') σ:=by
 have hT:=Tbl.talk_of hf hed hL hL' h1 h5
 have n1:=hL.len hf
 have n2:=hL'.len hf
 have k:=Tryz.Pairs_ok (S:=S) h t ht e lv a a' l.length cap l'.length cap' l l' hl hl' (by omega) (by omega)
 rw [hT] at k
 refine k.mono ?_
 rintro v σ' ⟨⟨v1,_,rfl,rfl,pa,pc,rfl,-,hp⟩,hle⟩
 rw [Tbl.pairsL_prs hT] at hp ⊢
 exact ⟨⟨_,rfl,pa,pc,rfl,hp⟩,hle⟩
end
attribute [local irreducible] CallsV YieldV rngX
theorem Tryz.kinL_ok {σ:View Tk} (htok:σ.tok = ⟨0,.out⟩) (h:TH) (t:Tbl) (ht:TabV σ.frz h t) (hf:t.flaw = 0) (x y:Int) (hx:t.isEd x = true) (hy:t.isEd y = true) {a a':Option Addr} {cap cap':Nat} {l l':List Int} (hl:Ints σ.frz a l.length l) (hL:t.Lst x l) (hl':Ints σ.frz a' l'.length l') (hL':t.Lst y l') :
  CallsV (SysG Tryz.prog 164 8) 41 #[h.v,.int .i64 x,.slice a l.length cap,.int .i64 y,.slice a' l'.length cap'] (fun v σ'=>v = .tuple #[.agg #[.int .i64 (t.kinS x y l l').1,.int .i64 (t.kinS x y l l').2],.int .i64 0] ∧ σ' = σ) σ:=by
 have hF:=Tbl.kinF_of hf hx hy hL hL'
 have n1:=hL.len hf
 have n2:=hL'.len hf
 have k:=Tryz.Kin_ok htok h t ht x y a a' l.length cap l'.length cap' l l' (hl.lg frz_self) (hl'.lg frz_self) (by omega) (by omega) (fun _=>⟨listS_len _,listS_len _⟩)
 rw [hF] at k
 exact k
end Go.Proofs
