/- A part of the proof: lemmas that the last text uses. No conditions of its own. -/
import Derived.Test.YtebpcmdnecenlaaGreatB27
import Derived.Test.YtebpcmdnecenlaaGreatB26
import Derived.Test.YtebpcmdnecenlaaGreatC00
set_option linter.unusedSimpArgs false
set_option linter.unusedVariables false
namespace Go.Proofs
open Go.TM
set_option maxRecDepth 100000
variable {T : Type} {S : TM.Sys Tryz.prog T} {σ : View T}
attribute [local irreducible] CallsV YieldV rngX

end Go.Proofs
namespace Go.TM
theorem mem_listS {s : Nat → Bool} {x : Int} : x ∈ listS s ↔ ∃ j : Nat, j < 8 ∧ s j = true ∧ x = j := by
  unfold listS
  simp only [List.mem_map, List.mem_filter, List.mem_range]
  constructor
  · rintro ⟨j, ⟨h1, h2⟩, rfl⟩; exact ⟨j, h1, h2, rfl⟩
  · rintro ⟨j, h1, h2, rfl⟩; exact ⟨j, ⟨h1, h2⟩, rfl⟩
theorem asc_listS (s : Nat → Bool) : Asc (listS s) := by
  unfold listS Asc
  rw [List.pairwise_map]
  exact List.Pairwise.imp (fun h => by simpa using h) (List.Pairwise.filter _ List.pairwise_lt_range)
theorem memS_iff {l : List Int} {j : Nat} : memS l j = true ↔ (j : Int) ∈ l := by unfold memS; exact decide_eq_true_iff
theorem listS_memS {l : List Int} (ha : Asc l) (h8 : ∀ x ∈ l, 0 ≤ x ∧ x < 8) : listS (memS l) = l := by
  refine asc_ext (asc_listS _) ha fun x => ?_
  rw [mem_listS]
  constructor
  · rintro ⟨j, _, h, rfl⟩; exact memS_iff.1 h
  · intro hx
    have := h8 x hx
    exact ⟨x.toNat, by omega, memS_iff.2 (by rw [Int.toNat_of_nonneg this.1]; exact hx), by omega⟩
theorem cov_go (sure can : Nat → Bool) : ∀ (ps : List (Int × Int)) (c : Cov) (y : Nat),
    (ps.foldl (Cov.step sure can) c).so y = (c.so y || ps.any fun p => p.2.toNat == y) ∧
    (ps.foldl (Cov.step sure can) c).la y = (c.la y || ps.any fun p => p.2.toNat == y && !sure p.1.toNat) ∧
    (ps.foldl (Cov.step sure can) c).re y = (c.re y || ps.any fun p => p.2.toNat == y && can p.1.toNat)
  | [], c, y => by simp
  | p :: ps, c, y => by
    obtain ⟨h1, h2, h3⟩ := cov_go sure can ps (Cov.step sure can c p) y
    rw [List.foldl_cons, h1, h2, h3]
    simp only [List.any_cons, Cov.step, putS]
    by_cases e : y = p.2.toNat
    · subst e; simp [Bool.or_assoc]
    · have e' : (p.2.toNat == y) = false := by simp; exact fun h => e h.symm
      simp [e, e']
theorem cov_so (sure can : Nat → Bool) (ps : List (Int × Int)) (y : Nat) : (cov sure can ps).so y = ps.any fun p => p.2.toNat == y := by unfold cov; rw [(cov_go sure can ps _ y).1]; rfl
theorem cov_la (sure can : Nat → Bool) (ps : List (Int × Int)) (y : Nat) : (cov sure can ps).la y = ps.any fun p => p.2.toNat == y && !sure p.1.toNat := by unfold cov; rw [(cov_go sure can ps _ y).2.1]; rfl
theorem cov_re (sure can : Nat → Bool) (ps : List (Int × Int)) (y : Nat) : (cov sure can ps).re y = ps.any fun p => p.2.toNat == y && can p.1.toNat := by unfold cov; rw [(cov_go sure can ps _ y).2.2]; rfl
def nums (n : Nat) : List Int := (List.range n).map fun (j : Nat) => (j : Int)
theorem mem_nums {n : Nat} {x : Int} : x ∈ nums n ↔ 0 ≤ x ∧ x < n := by
  unfold nums
  simp only [List.mem_map, List.mem_range]
  constructor
  · rintro ⟨j, h, rfl⟩; omega
  · rintro ⟨h1, h2⟩; exact ⟨x.toNat, by omega, by omega⟩
theorem asc_nums (n : Nat) : Asc (nums n) := by
  unfold nums Asc
  rw [List.pairwise_map]
  exact List.pairwise_lt_range.imp fun h => by omega
theorem nums_succ (n : Nat) : nums (n + 1) = nums n ++ [(n : Int)] := by unfold nums; rw [List.range_succ]; simp
def mvB (e x y : Int) (back : Bool) (m : GMv) : Bool := (!back && decide (mv3 m = (e, x, y))) || (back && decide (mv3 m = (e - 1, y, x)))
def Tbl.bec (t : Tbl) (e x y : Int) (back : Bool) : Bool := t.mvs.any (mvB e x y back)
def Tbl.ni (t : Tbl) (e : Int) : Nat := (t.items e).length
def nextE (e : Int) (back : Bool) : Int := if back then e - 1 else e + 1
def Tbl.some1 (t : Tbl) (e : Int) (back : Bool) (n : Nat) (y : Int) : Bool := (nums n).any fun x => t.bec e x y back
def Tbl.all1 (t : Tbl) (e : Int) (back : Bool) (sure : List Int) (n : Nat) (y : Int) : Bool := (nums n).all fun x => !t.bec e x y back || sure.contains x
def Tbl.reach1 (t : Tbl) (e : Int) (back : Bool) (can : List Int) (n : Nat) (y : Int) : Bool := (nums n).any fun x => t.bec e x y back && can.contains x
def Tbl.sureL (t : Tbl) (e : Int) (back : Bool) (sure : List Int) (n : Nat) : List Int := (nums n).filter fun y => t.some1 e back (t.ni e) y && t.all1 e back sure (t.ni e) y
def Tbl.canL (t : Tbl) (e : Int) (back : Bool) (can : List Int) (n : Nat) : List Int := (nums n).filter fun y => t.reach1 e back can (t.ni e) y
def Tbl.stepL (t : Tbl) (e : Int) (back : Bool) (p : List Int × List Int) : List Int × List Int := (t.sureL e back p.1 (t.ni (nextE e back)), t.canL e back p.2 (t.ni (nextE e back)))
def Tbl.stepN (t : Tbl) (back : Bool) : Nat → Int → List Int × List Int → List Int × List Int
  | 0, _, p => p
  | n + 1, e, p => t.stepN back n (nextE e back) (t.stepL e back p)
def Tbl.movedL (t : Tbl) (fr to : Int) (l : List Int) : List Int × List Int := if to < fr then t.stepN true (fr - to).toNat fr (l, l) else t.stepN false (to - fr).toNat fr (l, l)
def Tbl.psOf (t : Tbl) (e : Int) (back : Bool) : List (Int × Int) := if back then t.bckP e else t.fwdP e
theorem mem_psOf {t : Tbl} {e x y : Int} {back : Bool} : (x, y) ∈ t.psOf e back ↔ t.bec e x y back = true := by
  unfold Tbl.psOf Tbl.bec Tbl.bckP Tbl.fwdP mvB mv3
  cases back with
  | false =>
    simp only [Bool.false_eq_true, if_false, List.mem_map, List.mem_filter, List.any_eq_true, Bool.not_false, Bool.true_and, Bool.false_and, Bool.or_false, decide_eq_true_eq, beq_iff_eq, Prod.mk.injEq]
    constructor
    · rintro ⟨m, ⟨h1, h2⟩, h3, h4⟩; exact ⟨m, h1, h2, h3, h4⟩
    · rintro ⟨m, h1, h2, h3, h4⟩; exact ⟨m, ⟨h1, h2⟩, h3, h4⟩
  | true =>
    simp only [if_true, List.mem_map, List.mem_filter, List.any_eq_true, Bool.not_true, Bool.true_and, Bool.false_and, Bool.false_or, decide_eq_true_eq, beq_iff_eq, Prod.mk.injEq]
    constructor
    · rintro ⟨m, ⟨h1, h2⟩, h3, h4⟩; exact ⟨m, h1, h2, h4, h3⟩
    · rintro ⟨m, h1, h2, h3, h4⟩; exact ⟨m, ⟨h1, h2⟩, h4, h3⟩
theorem Tbl.bec_items {t : Tbl} (hf : t.flaw = 0) {e x y : Int} {back : Bool} (h : t.bec e x y back = true) : t.isItem e x = true ∧ t.isItem (nextE e back) y = true := by
  unfold Tbl.bec at h
  obtain ⟨m, hm, hb⟩ := List.any_eq_true.1 h
  have hok := Tbl.mv_ok hf m hm
  unfold Tbl.mvOk at hok
  simp only [Bool.and_eq_true] at hok
  unfold mvB mv3 at hb
  unfold nextE
  cases back with
  | false =>
    simp at hb
    obtain ⟨rfl, rfl, rfl⟩ := hb
    exact ⟨hok.2.2.1, hok.2.2.2⟩
  | true =>
    simp at hb
    obtain ⟨h1, rfl, rfl⟩ := hb
    obtain rfl : e = m.ed + 1 := by omega
    exact ⟨hok.2.2.2, by simpa using hok.2.2.1⟩
theorem Tbl.isItem_iff {t : Tbl} {e n : Int} : t.isItem e n = true ↔ 0 ≤ n ∧ n < t.ni e := by
  unfold Tbl.isItem btw Tbl.ni
  simp only [Bool.and_eq_true, decide_eq_true_eq]
  omega
theorem Tbl.ni8 {t : Tbl} (hf : t.flaw = 0) (e : Int) : t.ni e ≤ 8 := by
  unfold Tbl.ni Tbl.items
  split
  · rename_i he
    have hb := Tbl.isEd_lt he
    obtain ⟨-, -, h8⟩ := Tbl.flaw_eds hf
    rw [List.getD_eq_getElem?_getD, List.getElem?_eq_getElem (by omega)]
    exact h8 _ (List.getElem_mem _)
  · simp
theorem ps_any {ps : List (Int × Int)} {f : Int → Bool} {y : Nat} (h0 : ∀ p ∈ ps, 0 ≤ p.2) : (ps.any fun p => p.2.toNat == y && f p.1) = true ↔ ∃ x, (x, (y : Int)) ∈ ps ∧ f x = true := by
  simp only [List.any_eq_true, Bool.and_eq_true, beq_iff_eq]
  constructor
  · rintro ⟨⟨a, b⟩, h1, h2, h3⟩
    have := h0 _ h1
    simp only at h2 h3 this
    obtain rfl : b = y := by omega
    exact ⟨a, h1, h3⟩
  · rintro ⟨x, h1, h2⟩; exact ⟨(x, y), h1, by simp, h2⟩
theorem Tbl.step_eq {t : Tbl} (hf : t.flaw = 0) (e : Int) (back : Bool) (p : SC) : t.stepL e back (listS p.s, listS p.c) = (listS (p.by (t.psOf e back)).s, listS (p.by (t.psOf e back)).c) := by
  have hbec : ∀ x y, t.bec e x y back = true → (0 ≤ x ∧ x < t.ni e) ∧ 0 ≤ y ∧ y < t.ni (nextE e back) := fun x y h => by
    obtain ⟨h1, h2⟩ := Tbl.bec_items hf h
    exact ⟨Tbl.isItem_iff.1 h1, Tbl.isItem_iff.1 h2⟩
  have h8 := Tbl.ni8 hf (nextE e back)
  have h8' := Tbl.ni8 hf e
  have h0 : ∀ q ∈ t.psOf e back, 0 ≤ q.2 := fun q hq => (hbec q.1 q.2 (mem_psOf.1 hq)).2.1
  have hc : ∀ (s : Nat → Bool) (x : Int), 0 ≤ x → x < 8 → ((listS s).contains x = true ↔ s x.toNat = true) := fun s x h1 h2 => by
    rw [List.contains_iff_mem, mem_listS]
    constructor
    · rintro ⟨j, _, h, rfl⟩; simpa using h
    · intro h; exact ⟨x.toNat, by omega, h, by omega⟩
  unfold Tbl.stepL SC.by
  refine Prod.ext ?_ ?_
  · refine asc_ext (Asc.filter (asc_nums _) _) (asc_listS _) fun y => ?_
    simp only [Tbl.sureL, List.mem_filter, mem_nums, mem_listS, Cov.sure, cov_so, cov_la, Bool.and_eq_true, Bool.not_eq_true', Tbl.some1, Tbl.all1, List.any_eq_true, List.all_eq_true, Bool.or_eq_true]
    constructor
    · rintro ⟨⟨h1, h2⟩, ⟨x, hx, hb⟩, hall⟩
      obtain ⟨k, rfl⟩ := Int.eq_ofNat_of_zero_le h1
      refine ⟨k, by omega, ⟨⟨(x, (k : Int)), mem_psOf.2 hb, by simp⟩, ?_⟩, rfl⟩
      apply Classical.byContradiction
      intro hn
      rw [Bool.not_eq_false, ps_any (f := fun x => !p.s x.toNat) h0] at hn
      obtain ⟨x', h3, h4⟩ := hn
      have hb' := mem_psOf.1 h3
      have hx' := (hbec _ _ hb').1
      rcases hall x' hx' with h5 | h5
      · rw [hb'] at h5; cases h5
      · rw [hc _ _ hx'.1 (by omega)] at h5
        rw [h5] at h4; cases h4
    · rintro ⟨j, hj, ⟨⟨q, hq, hqy⟩, hla⟩, rfl⟩
      have hb := mem_psOf.1 (show (q.1, q.2) ∈ t.psOf e back from hq)
      have hx := hbec _ _ hb
      have hqj : q.2 = (j : Int) := by simp at hqy; omega
      rw [hqj] at hb hx
      refine ⟨⟨by omega, by omega⟩, ⟨q.1, hx.1, hb⟩, fun x' hx' => ?_⟩
      by_cases h5 : t.bec e x' j back = true
      · right
        rw [hc _ _ hx'.1 (by omega)]
        apply Classical.byContradiction
        intro hn
        have : (t.psOf e back).any (fun q => q.2.toNat == j && !p.s q.1.toNat) = true := (ps_any (f := fun x => !p.s x.toNat) h0).2 ⟨x', mem_psOf.2 h5, by simpa using hn⟩
        rw [hla] at this; cases this
      · left; simpa using h5
  · refine asc_ext (Asc.filter (asc_nums _) _) (asc_listS _) fun y => ?_
    simp only [Tbl.canL, List.mem_filter, mem_nums, mem_listS, cov_re, Tbl.reach1, List.any_eq_true, Bool.and_eq_true]
    constructor
    · rintro ⟨⟨h1, h2⟩, x, hx, hb, hx'⟩
      obtain ⟨k, rfl⟩ := Int.eq_ofNat_of_zero_le h1
      rw [hc _ _ hx.1 (by omega)] at hx'
      exact ⟨k, by omega, ⟨(x, (k : Int)), mem_psOf.2 hb, by simp, hx'⟩, rfl⟩
    · rintro ⟨j, hj, ⟨q, hq, hqy, hqc⟩, rfl⟩
      have hb := mem_psOf.1 (show (q.1, q.2) ∈ t.psOf e back from hq)
      have hx := hbec _ _ hb
      have hqj : q.2 = (j : Int) := by simp at hqy; omega
      rw [hqj] at hb hx
      exact ⟨⟨by omega, by omega⟩, q.1, hx.1, hb, (hc _ _ hx.1.1 (by omega)).2 hqc⟩
theorem Tbl.stepN_fwd {t : Tbl} (hf : t.flaw = 0) : ∀ (n : Nat) (e : Int) (p : SC), t.stepN false n e (listS p.s, listS p.c) = (listS (t.goF n e p).s, listS (t.goF n e p).c)
  | 0, e, p => rfl
  | n + 1, e, p => by
    rw [Tbl.stepN, Tbl.step_eq hf, Tbl.stepN_fwd hf n]; rfl
theorem Tbl.stepN_bck {t : Tbl} (hf : t.flaw = 0) : ∀ (n : Nat) (e : Int) (p : SC), t.stepN true n e (listS p.s, listS p.c) = (listS (t.goB n e p).s, listS (t.goB n e p).c)
  | 0, e, p => rfl
  | n + 1, e, p => by
    rw [Tbl.stepN, Tbl.step_eq hf, Tbl.stepN_bck hf n]
    have : nextE e true = e + -1 := by unfold nextE; simp; omega
    rw [this]; rfl
theorem Tbl.moved_eq {t : Tbl} (hf : t.flaw = 0) {fr to : Int} {l : List Int} (hc : t.chk fr none l = 0) : t.movedL fr to l = (listS (t.moved fr to l).s, listS (t.moved fr to l).c) := by
  have hl : listS (memS l) = l := listS_memS (Tbl.chk_asc hc).1 fun x hx => Tbl.item_lt hf (chk_items hc x hx)
  unfold Tbl.movedL Tbl.moved
  split
  · have := Tbl.stepN_bck hf (fr - to).toNat fr ⟨memS l, memS l⟩
    simp only [hl] at this
    exact this
  · have := Tbl.stepN_fwd hf (to - fr).toNat fr ⟨memS l, memS l⟩
    simp only [hl] at this
    exact this
end Go.TM
namespace Go.TM
variable {T : Type} {P : Program} {S : Sys P T} {σ : View T}
theorem CallsV.okd {f : FuncId} {args : Array Value} {R R' : Value → View T → Prop} (h : CallsV S f args R σ) (hr : ∀ v σ' w, σ'.ok w → R v σ' → ∃ σ'', Shift σ' σ'' ∧ R' v σ'') : CallsV S f args R' σ := by
  intro Stop m c cs k
  refine h Stop m c cs fun v σ' r => ?_
  by_cases hs : ∃ w, σ'.ok w
  · obtain ⟨w, hw⟩ := hs
    obtain ⟨σ'', h1, h2⟩ := hr v σ' w hw r
    exact .shift h1 (k v _ h2)
  · exact .priv ⟨rfl, fun w ok => absurd ⟨w, ok⟩ hs⟩
theorem AccIn.intsV {v : Value} {l : List Int} {A R : List Res} {I : Nat → Option Obj} {k : T} (h : AccIn 3 1 v (l.map fun n => .int .i64 n) A) {w : World} (ok : (⟨I, A ++ R, k⟩ : View T).ok w) :
    ∃ σ'' : View T, Shift ⟨I, A ++ R, k⟩ σ'' ∧ σ''.ok w ∧ (∀ x o, I x = some o → σ''.I x = some o) ∧ σ''.M = R ∧ σ''.tok = k ∧ IntsV σ''.frz v l := by
  obtain ⟨σ'', k1, k2, a, len, cap, rfl, hl, hsrc, hsp, _⟩ := Acc.freeze (σ := ⟨I, R, k⟩) (σ' := ⟨I, A ++ R, k⟩) ok.sep (h R) (fun _ _ h => h) rfl
  simp at hl
  exact ⟨σ'', k1, (k1.2 w ok).1, k2.imm, k2.own, k2.tok, a, cap, by rw [hl], ints_src hsrc hsp⟩
theorem CallsV.listed2 {f : FuncId} {args : Array Value} {G : Value → Value → Value} {R : List Int → List Int → Prop}
    (h : CallsV S f args (fun v σ' => ∃ v1 v2 l1 l2 A B Y, v = G v1 v2 ∧ R l1 l2 ∧ σ'.M.Perm (Y ++ (A ++ (B ++ σ.M))) ∧ AccIn 3 1 v1 (l1.map fun n => .int .i64 n) A ∧ AccIn 3 1 v2 (l2.map fun n => .int .i64 n) B ∧ (∀ x o, σ.I x = some o → σ'.I x = some o) ∧ σ'.tok = σ.tok) σ) :
    CallsV S f args (fun v σ' => (∃ v1 v2 l1 l2, v = G v1 v2 ∧ R l1 l2 ∧ IntsV σ'.frz v1 l1 ∧ IntsV σ'.frz v2 l2) ∧ σ.le σ') σ := by
  refine h.okd fun v σ' w ok ⟨v1, v2, l1, l2, A, B, Y, hv, hR, hM, hA, hB, hI, ht⟩ => ?_
  have s1 : Shift σ' { σ' with M := A ++ (B ++ σ.M) } := (shift_perm hM).trans (shift_drop (σ := { σ' with M := Y ++ (A ++ (B ++ σ.M)) }) (M' := A ++ (B ++ σ.M)) (List.sublist_append_right ..))
  obtain ⟨σ₂, s2, ok2, i2, m2, t2, r2⟩ := hA.intsV (s1.2 w ok).1
  obtain ⟨I₂, M₂, k₂⟩ := σ₂
  simp only at m2 t2 i2
  subst m2
  obtain ⟨σ₃, s3, ok3, i3, m3, t3, r3⟩ := hB.intsV ok2
  refine ⟨σ₃, s1.trans (s2.trans s3), ⟨v1, v2, l1, l2, hv, hR, r2.lg ⟨i3, ⟨[], rfl⟩, t3⟩, r3⟩, fun x o h => i3 x o (i2 x o (hI x o h)), m3, t3.trans (t2.trans ht)⟩
end Go.TM
namespace Go.Proofs
open Go.TM
set_option maxRecDepth 100000
variable {T : Type} {S : TM.Sys Tryz.prog T} {σ : View T}
attribute [local irreducible] CallsV YieldV rngX

theorem Tryz.becomes_ok (h : TH) (t : Tbl) (ht : TabV σ h t) (e x y : Int) (back : Bool) (he : -1000 < e ∧ e < 1000) :
    CallsV S 52 #[h.v, .int .i64 e, .int .i64 x, .int .i64 y, .bool back] (fun v σ' => v = .bool (t.bec e x y back) ∧ σ' = σ) σ := by
  refine CallsV.pure' (CallsV.of (args := [_, _, _, _, _]) Tryz.k52 Tryz.mixed (by simp) ?_)
  have hml := ht.mvs.1
  have hml2 := ht.ml
  (conv => whnf); (repeat (refine ⟨rfl, ?_⟩; conv => whnf))
  intro b σ₁ h₁ hb
  have hb : Blk σ₁ b #[.slice h.ea h.el h.ec, .slice h.ma h.ml h.mc, .slice h.ka h.kl h.kc] := hb
  (conv => whnf)
  refine ⟨Nat, fun i => [(1, .int .i64 e), (2, .int .i64 x), (3, .int .i64 y), (4, .bool back), (5, .pointer (some ⟨b, 0, none⟩)), (11, .int .i64 i)], fun i σ' => σ₁.le σ' ∧ i ≤ h.ml ∧ (t.mvs.take i).any (mvB e x y back) = false, fun i => h.ml - i, 0, ⟨rfl, rfl, rfl, rfl, rfl, rfl, trivial⟩, ⟨.refl _, by omega, rfl⟩, ?_⟩
  rintro i f σ₂ ⟨h₂, hi, hno⟩
  have hb₂ := hb.le h₂
  have hlg₂ := (h₁.trans h₂).lg
  (conv => whnf)
  refine ⟨_, hb₂.sees3 (o := 1) rfl, ?_⟩
  (conv => whnf); (repeat (refine ⟨rfl, ?_⟩; conv => whnf))
  refine cb_split (fun hc => ?_) (fun hc => ?_)
  · have hlt : i < h.ml := by simpa using hc
    obtain ⟨ad, m, vs, hx, hma, hsp, rfl, -, hrd⟩ := ht.mvs.at hlt
    have hin : InR (i + 1) := by unfold InR; omega
    have hlast : (t.mvs.take (i + 1)).any (mvB e x y back) = mvB e x y back m := by rw [take_at hx, List.any_append, hno]; simp
    have hyes : mvB e x y back m = true → t.bec e x y back = true := fun h => List.any_eq_true.2 ⟨m, List.mem_of_getElem? hx, h⟩
    (conv => whnf)
    refine ⟨_, hb₂.sees3 (o := 1) rfl, ?_⟩
    (conv => whnf)
    refine ⟨ad, i, ⟨hma, rfl, hlt⟩, ?_⟩
    (conv => whnf)
    refine ⟨[.int .i64 m.ed, .int .i64 m.fr, .int .i64 m.to], ⟨rfl, hrd.lg hlg₂⟩, ?_⟩
    (conv => whnf)
    intro b12 hf12
    refine ⟨_, .refl _, ?_⟩
    (conv => whnf)
    refine ⟨rfl, st_new (vs := [.int .i64 m.ed, .int .i64 m.fr, .int .i64 m.to]) hf12 rfl (by simp [Value.single]) fun σ₃ h₃ hb₁₂ => ?_⟩
    have hb₁₂ : Blk σ₃ b12 #[.int .i64 m.ed, .int .i64 m.fr, .int .i64 m.to] := hb₁₂
    have hlg₃ := hlg₂.trans h₃.lg
    cases back with
    | false =>
      have hmv : mvB e x y false m = decide ((e, x, y) = mv3 m) := by unfold mvB; simp [eq_comm]
      (conv => whnf)
      refine ⟨[.int .i64 m.ed, .int .i64 m.fr, .int .i64 m.to], ⟨rfl, hb₁₂.reads (fun k v hv => by simpa using hv)⟩, ?_⟩
      (conv => whnf)
      refine raw_eqS Tryz.s132 (vs := [.int .i64 m.ed, .int .i64 m.fr, .int .i64 m.to]) (ws := [.int .i64 e, .int .i64 x, .int .i64 y]) rfl rfl (by kernel_rfl) (by kernel_rfl) ?_
      rw [show eqvL [.int .i64 m.ed, .int .i64 m.fr, .int .i64 m.to] [.int .i64 e, .int .i64 x, .int .i64 y] = mvB e x y false m by rw [hmv]; exact eqv3 ..]
      (conv => whnf); (repeat (refine ⟨rfl, ?_⟩; conv => whnf))
      refine gb_split (fun hc => ?_) (fun hc => ?_)
      · have hne : mvB e x y false m = false := hc
        (conv => whnf); (repeat (refine ⟨rfl, ?_⟩; conv => whnf))
        refine ⟨hin, ?_⟩
        (conv => whnf)
        exact ⟨rfl, i + 1, ⟨rfl, rfl, rfl, rfl, rfl, rfl, trivial⟩, ⟨h₂.trans h₃, by omega, by rw [hlast, hne]⟩, by show _ - _ < _ - _; omega⟩
      · have hne : mvB e x y false m = true := hc
        (conv => whnf); (repeat (refine ⟨rfl, ?_⟩; conv => whnf))
        exact ⟨by rw [hyes hne], hlg₃⟩
    | true =>
      have hmv : mvB e x y true m = decide ((e - 1, y, x) = mv3 m) := by unfold mvB; simp [eq_comm]
      (conv => whnf)
      refine ⟨[.int .i64 m.ed, .int .i64 m.fr, .int .i64 m.to], ⟨rfl, hb₁₂.reads (fun k v hv => by simpa using hv)⟩, ?_⟩
      (conv => whnf)
      refine ⟨by unfold InR; omega, ?_⟩
      (conv => whnf)
      refine raw_eqS Tryz.s132 (vs := [.int .i64 m.ed, .int .i64 m.fr, .int .i64 m.to]) (ws := [.int .i64 (e - 1), .int .i64 y, .int .i64 x]) rfl rfl (by kernel_rfl) (by kernel_rfl) ?_
      rw [show eqvL [.int .i64 m.ed, .int .i64 m.fr, .int .i64 m.to] [.int .i64 (e - 1), .int .i64 y, .int .i64 x] = mvB e x y true m by rw [hmv]; exact eqv3 ..]
      (conv => whnf); (repeat (refine ⟨rfl, ?_⟩; conv => whnf))
      refine cb_split (fun hc => ?_) (fun hc => ?_)
      · have hne : mvB e x y true m = true := hc
        (conv => whnf); (repeat (refine ⟨rfl, ?_⟩; conv => whnf))
        exact ⟨by rw [hyes hne], hlg₃⟩
      · have hne : mvB e x y true m = false := hc
        (conv => whnf)
        refine ⟨hin, ?_⟩
        (conv => whnf)
        exact ⟨rfl, i + 1, ⟨rfl, rfl, rfl, rfl, rfl, rfl, trivial⟩, ⟨h₂.trans h₃, by omega, by rw [hlast, hne]⟩, by show _ - _ < _ - _; omega⟩
  · have hge : h.ml ≤ i := by simpa using hc
    have hno' : t.bec e x y back = false := by
      rw [List.take_of_length_le (by omega)] at hno
      exact hno
    (conv => whnf); (repeat (refine ⟨rfl, ?_⟩; conv => whnf))
    exact ⟨by rw [hno'], hlg₂⟩
end Go.Proofs
namespace Go.TM
theorem nums_any (f : Int → Bool) (n : Nat) : (nums (n + 1)).any f = ((nums n).any f || f n) := by rw [nums_succ, List.any_append]; simp
theorem nums_all (f : Int → Bool) (n : Nat) : (nums (n + 1)).all f = ((nums n).all f && f n) := by rw [nums_succ, List.all_append]; simp
theorem Tbl.sureL_succ (t : Tbl) (e : Int) (back : Bool) (s : List Int) (n : Nat) : t.sureL e back s (n + 1) = t.sureL e back s n ++ (if (t.some1 e back (t.ni e) n && t.all1 e back s (t.ni e) n) = true then [(n : Int)] else []) := by
  unfold Tbl.sureL; rw [nums_succ, List.filter_append]; simp [List.filter_cons]
theorem Tbl.canL_succ (t : Tbl) (e : Int) (back : Bool) (s : List Int) (n : Nat) : t.canL e back s (n + 1) = t.canL e back s n ++ (if t.reach1 e back s (t.ni e) n = true then [(n : Int)] else []) := by
  unfold Tbl.canL; rw [nums_succ, List.filter_append]; simp [List.filter_cons]
theorem Tbl.sureL_len (t : Tbl) (e : Int) (back : Bool) (s : List Int) (n : Nat) : (t.sureL e back s n).length ≤ n := by
  unfold Tbl.sureL; refine Nat.le_trans (List.length_filter_le ..) ?_; simp [nums]
theorem Tbl.canL_len (t : Tbl) (e : Int) (back : Bool) (s : List Int) (n : Nat) : (t.canL e back s n).length ≤ n := by
  unfold Tbl.canL; refine Nat.le_trans (List.length_filter_le ..) ?_; simp [nums]
theorem perm_swap {α : Type} (A B R : List α) : (A ++ (B ++ R)).Perm (B ++ (A ++ R)) := by
  rw [← List.append_assoc, ← List.append_assoc]
  exact List.Perm.append_right R List.perm_append_comm
end Go.TM
namespace Go.Proofs
open Go.TM
set_option maxRecDepth 100000
variable {T : Type} {S : TM.Sys Tryz.prog T} {σ : View T}
attribute [local irreducible] CallsV YieldV rngX

set_option maxHeartbeats 2000000 in
theorem Tryz.step_ok (h : TH) (t : Tbl) (ht : TabV σ.frz h t) (hfl : t.flaw = 0) (e : Int) (back : Bool) (he : t.isEd e = true) (hn : t.isEd (nextE e back) = true) (sA ca₀ : Option Addr) (ls cs lc cq : Nat) (s c : List Int) (hs : Ints σ.frz sA ls s) (hc : Ints σ.frz ca₀ lc c) (hls : ls < 2 ^ 60) (hlc : lc < 2 ^ 60) :
    CallsV S 119 #[h.v, .int .i64 e, .slice sA ls cs, .slice ca₀ lc cq, .bool back] (fun v σ' => (∃ v1 v2 l1 l2, v = .tuple #[v1, v2] ∧ (l1, l2) = t.stepL e back (s, c) ∧ IntsV σ'.frz v1 l1 ∧ IntsV σ'.frz v2 l2) ∧ σ.le σ') σ := by
  refine CallsV.listed2 (G := fun v1 v2 => .tuple #[v1, v2]) (R := fun l1 l2 => (l1, l2) = t.stepL e back (s, c)) (CallsV.of (args := [_, _, _, _, _]) Tryz.k119 Tryz.mixed (by simp) ?_)
  have he100 := Tbl.isEd_100 hfl he
  have h8n := Tbl.ni8 hfl (nextE e back)
  have h8e := Tbl.ni8 hfl e
  obtain ⟨ke, ade, ia, il, ic, hke', hke, hea, hse, hit⟩ := Tbl.isEd_at ht he
  obtain ⟨kn, adn, na, nl, nc, hkn', hkn, hna, hsn, hnt⟩ := Tbl.isEd_at ht hn
  subst hke'
  have hil : t.ni ke = il := hit.1
  have hnl : t.ni (nextE ke back) = nl := hnt.1
  generalize hE : nextE (ke : Int) back = E at hkn' hn hnl h8n hnt
  subst hkn'
  have hcI := hc
  subst hil
  subst hnl
  (conv => whnf); (repeat (refine ⟨rfl, ?_⟩; conv => whnf))
  intro b σ₁ h₁ hb
  have hb : Blk σ₁ b #[.slice h.ea h.el h.ec, .slice h.ma h.ml h.mc, .slice h.ka h.kl h.kc] := hb
  (conv => whnf)
  refine ⟨by unfold InR; omega, ?_⟩
  (conv => whnf); (repeat (refine ⟨rfl, ?_⟩; conv => whnf))
  refine cb_split (fun hcb => ?_) (fun hcb => ?_)
  all_goals
    first
      | ((conv => whnf)
         refine ⟨by unfold InR; omega, ?_⟩
         have hk : (ke : Int) - 1 = kn := by rw [← hE]; unfold nextE; rw [if_pos hcb]
         (conv => whnf)
         refine ⟨Nat × Value × Value, fun y => [(1, .int .i64 ke), (2, .slice sA ls cs), (3, .slice ca₀ lc cq), (4, .bool back), (5, .pointer (some ⟨b, 0, none⟩)), (12, .int .i64 kn), (13, y.2.1), (14, y.2.2), (15, .int .i64 y.1)],
           fun y σ' => ∃ A B, σ'.M.Perm (A ++ (B ++ σ.M)) ∧ AccIn 3 1 y.2.1 ((t.sureL ke back s y.1).map fun n => .int .i64 n) A ∧ AccIn 3 1 y.2.2 ((t.canL ke back c y.1).map fun n => .int .i64 n) B ∧ (∀ x o, σ.I x = some o → σ'.I x = some o) ∧ σ'.tok = σ.tok ∧ (∀ x o, σ₁.I x = some o → σ'.I x = some o) ∧ y.1 ≤ t.ni kn, fun y => t.ni kn - y.1, (0, .slice none 0 0, .slice none 0 0),
           ⟨rfl, rfl, rfl, rfl, rfl, by show Value.int .i64 ((ke : Int) - 1) = _; rw [hk], rfl, rfl, rfl, trivial⟩, ⟨[], [], by rw [h₁.own]; exact .refl _, .nil, .nil, h₁.imm, h₁.tok, fun _ _ h => h, by simp⟩, ?_⟩)
      | (have hk : (ke : Int) + 1 = kn := by rw [← hE]; unfold nextE; rw [hcb]; rfl
         (conv => whnf)
         refine ⟨Nat × Value × Value, fun y => [(1, .int .i64 ke), (2, .slice sA ls cs), (3, .slice ca₀ lc cq), (4, .bool back), (5, .pointer (some ⟨b, 0, none⟩)), (12, .int .i64 kn), (13, y.2.1), (14, y.2.2), (15, .int .i64 y.1)],
           fun y σ' => ∃ A B, σ'.M.Perm (A ++ (B ++ σ.M)) ∧ AccIn 3 1 y.2.1 ((t.sureL ke back s y.1).map fun n => .int .i64 n) A ∧ AccIn 3 1 y.2.2 ((t.canL ke back c y.1).map fun n => .int .i64 n) B ∧ (∀ x o, σ.I x = some o → σ'.I x = some o) ∧ σ'.tok = σ.tok ∧ (∀ x o, σ₁.I x = some o → σ'.I x = some o) ∧ y.1 ≤ t.ni kn, fun y => t.ni kn - y.1, (0, .slice none 0 0, .slice none 0 0),
           ⟨rfl, rfl, rfl, rfl, rfl, by show Value.int .i64 ((ke : Int) + 1) = _; rw [hk], rfl, rfl, rfl, trivial⟩, ⟨[], [], by rw [h₁.own]; exact .refl _, .nil, .nil, h₁.imm, h₁.tok, fun _ _ h => h, by simp⟩, ?_⟩)
    clear hcb
    rintro ⟨y, v13, v14⟩ f σ₂ ⟨A, B, hM, hA, hB, hI, htk, hI₁, hy⟩
    simp only at hA hB hy
    obtain ⟨sa, sl, sc, rfl, -⟩ := hA.src
    obtain ⟨ca, cl, cc, rfl, -⟩ := hB.src
    have hz : σ.frz.lg σ₂ := ⟨hI, ⟨σ₂.M, by simp [View.frz]⟩, htk⟩
    have hb₂ := hb.imI hI₁
    have hsl := t.sureL_len ke back s y
    have hcl := t.canL_len ke back c y
    (conv => whnf)
    refine ⟨_, hb₂.sees3 (o := 0) rfl, ?_⟩
    (conv => whnf)
    refine ⟨adn, kn, ⟨hna, rfl, hkn⟩, ?_⟩
    (conv => whnf)
    refine ⟨_, hsn.lg hz, ?_⟩
    (conv => whnf); (repeat (refine ⟨rfl, ?_⟩; conv => whnf))
    refine cb_split (fun hc => ?_) (fun hc => ?_)
    · have hlt : y < t.ni kn := by simpa using hc
      have hin : InR ((y : Int) + 1) := by unfold InR; omega
      (conv => whnf)
      refine ⟨Nat, fun x => [(1, .int .i64 ke), (2, .slice sA ls cs), (3, .slice ca₀ lc cq), (4, .bool back), (5, .pointer (some ⟨b, 0, none⟩)), (12, .int .i64 kn), (13, .slice sa sl sc), (14, .slice ca cl cc), (15, .int .i64 y), (16, .bool (t.some1 ke back x y)), (17, .bool (t.all1 ke back s x y)), (18, .bool (t.reach1 ke back c x y)), (19, .int .i64 x)],
        fun x σ' => σ' = σ₂ ∧ x ≤ t.ni ke, fun x => t.ni ke - x, 0, ⟨rfl, rfl, rfl, rfl, rfl, rfl, rfl, rfl, rfl, rfl, rfl, rfl, rfl, trivial⟩, ⟨rfl, by omega⟩, ?_⟩
      rintro x f σ' ⟨hσ', hx⟩
      obtain rfl := hσ'.symm
      (conv => whnf)
      refine ⟨_, hb₂.sees3 (o := 0) rfl, ?_⟩
      (conv => whnf)
      refine ⟨ade, ke, ⟨hea, rfl, hke⟩, ?_⟩
      (conv => whnf)
      refine ⟨_, hse.lg hz, ?_⟩
      (conv => whnf); (repeat (refine ⟨rfl, ?_⟩; conv => whnf))
      refine cb_split (fun hc => ?_) (fun hc => ?_)
      · have hxl : x < t.ni ke := by simpa using hc
        have hinx : InR ((x : Int) + 1) := by unfold InR; omega
        have hs1 : t.some1 ke back (x + 1) y = (t.some1 ke back x y || t.bec ke x y back) := nums_any ..
        have ha1 : t.all1 ke back s (x + 1) y = (t.all1 ke back s x y && (!t.bec ke x y back || s.contains (x : Int))) := nums_all ..
        have hr1 : t.reach1 ke back c (x + 1) y = (t.reach1 ke back c x y || (t.bec ke x y back && c.contains (x : Int))) := nums_any ..
        (conv => whnf)
        refine ⟨_, ⟨rfl, hb₂.rdT fun _ _ h => h⟩, ?_⟩
        (conv => whnf)
        refine ⟨Tryz.k52.any, (Tryz.becomes_ok h t (ht.lg hz) ke x y back (by omega)).mono ?_⟩
        rintro _ σ' ⟨rfl, hσ'⟩ -
        obtain rfl := hσ'.symm
        (conv => whnf)
        refine cb_split (fun hc => ?_) (fun hc => ?_)
        · have hbe : t.bec ke x y back = true := hc
          rw [hbe, Bool.or_true] at hs1
          rw [hbe, Bool.not_true, Bool.false_or] at ha1
          rw [hbe, Bool.true_and] at hr1
          (conv => whnf); (repeat (refine ⟨rfl, ?_⟩; conv => whnf))
          refine gb_split (fun hc => ?_) (fun hc => ?_)
          · have hal : t.all1 ke back s x y = true := hc
            rw [hal, Bool.true_and] at ha1
            (conv => whnf)
            refine ⟨Tryz.k53.any, (Tryz.hasInt_ok sA ls cs s (hs.lg hz) hls x).mono ?_⟩
            rintro _ σ' ⟨rfl, hσ'⟩ -
            obtain rfl := hσ'.symm
            (conv => whnf); (repeat (refine ⟨rfl, ?_⟩; conv => whnf))
            refine gb_split (fun hc => ?_) (fun hc => ?_)
            · have hre : t.reach1 ke back c x y = false := hc
              rw [hre, Bool.false_or] at hr1
              (conv => whnf)
              refine ⟨Tryz.k53.any, (Tryz.hasInt_ok ca₀ lc cq c (hcI.lg hz) hlc x).mono ?_⟩
              rintro _ σ' ⟨rfl, hσ'⟩ -
              obtain rfl := hσ'.symm
              (conv => whnf); (repeat (refine ⟨rfl, ?_⟩; conv => whnf))
              refine ⟨hinx, ?_⟩
              (conv => whnf)
              exact ⟨rfl, x + 1, ⟨rfl, rfl, rfl, rfl, rfl, rfl, rfl, rfl, rfl, by rw [hs1]; rfl, by rw [ha1]; rfl, by rw [hr1]; rfl, rfl, trivial⟩, ⟨rfl, by omega⟩, by show _ - _ < _ - _; omega⟩
            · have hre : t.reach1 ke back c x y = true := hc
              rw [hre, Bool.true_or] at hr1
              (conv => whnf); (repeat (refine ⟨rfl, ?_⟩; conv => whnf))
              refine ⟨hinx, ?_⟩
              (conv => whnf)
              exact ⟨rfl, x + 1, ⟨rfl, rfl, rfl, rfl, rfl, rfl, rfl, rfl, rfl, by rw [hs1]; rfl, by rw [ha1]; rfl, by rw [hr1]; rfl, rfl, trivial⟩, ⟨rfl, by omega⟩, by show _ - _ < _ - _; omega⟩
          · have hal : t.all1 ke back s x y = false := hc
            rw [hal, Bool.false_and] at ha1
            (conv => whnf); (repeat (refine ⟨rfl, ?_⟩; conv => whnf))
            refine gb_split (fun hc => ?_) (fun hc => ?_)
            · have hre : t.reach1 ke back c x y = false := hc
              rw [hre, Bool.false_or] at hr1
              (conv => whnf)
              refine ⟨Tryz.k53.any, (Tryz.hasInt_ok ca₀ lc cq c (hcI.lg hz) hlc x).mono ?_⟩
              rintro _ σ' ⟨rfl, hσ'⟩ -
              obtain rfl := hσ'.symm
              (conv => whnf); (repeat (refine ⟨rfl, ?_⟩; conv => whnf))
              refine ⟨hinx, ?_⟩
              (conv => whnf)
              exact ⟨rfl, x + 1, ⟨rfl, rfl, rfl, rfl, rfl, rfl, rfl, rfl, rfl, by rw [hs1]; rfl, by rw [ha1]; rfl, by rw [hr1]; rfl, rfl, trivial⟩, ⟨rfl, by omega⟩, by show _ - _ < _ - _; omega⟩
            · have hre : t.reach1 ke back c x y = true := hc
              rw [hre, Bool.true_or] at hr1
              (conv => whnf); (repeat (refine ⟨rfl, ?_⟩; conv => whnf))
              refine ⟨hinx, ?_⟩
              (conv => whnf)
              exact ⟨rfl, x + 1, ⟨rfl, rfl, rfl, rfl, rfl, rfl, rfl, rfl, rfl, by rw [hs1]; rfl, by rw [ha1]; rfl, by rw [hr1]; rfl, rfl, trivial⟩, ⟨rfl, by omega⟩, by show _ - _ < _ - _; omega⟩
        · have hbe : t.bec ke x y back = false := hc
          rw [hbe, Bool.or_false] at hs1
          rw [hbe, Bool.not_false, Bool.true_or, Bool.and_true] at ha1
          rw [hbe, Bool.false_and, Bool.or_false] at hr1
          (conv => whnf)
          refine ⟨hinx, ?_⟩
          (conv => whnf)
          exact ⟨rfl, x + 1, ⟨rfl, rfl, rfl, rfl, rfl, rfl, rfl, rfl, rfl, by rw [hs1]; rfl, by rw [ha1]; rfl, by rw [hr1]; rfl, rfl, trivial⟩, ⟨rfl, by omega⟩, by show _ - _ < _ - _; omega⟩
      · have hge : t.ni ke ≤ x := by simpa using hc
        obtain rfl : x = t.ni ke := by omega
        clear hx
        (conv => whnf); (repeat (refine ⟨rfl, ?_⟩; conv => whnf))
        refine gb_split (fun hc => ?_) (fun hc => ?_)
        · have hsm : t.some1 ke back (t.ni ke) y = true := hc
          (conv => whnf); (repeat (refine ⟨rfl, ?_⟩; conv => whnf))
          refine cb_split (fun hc => ?_) (fun hc => ?_)
          · have hal : t.all1 ke back s (t.ni ke) y = true := hc
            (conv => whnf)
            intro b71 hf71
            refine put_new_perm hf71 hM fun σ₄ i₄ t₄ m₄ hb₇₁ => ?_
            have hb₇₁ : Blk σ₄ b71 #[.int .i64 (y : Int)] := hb₇₁
            (conv => whnf)
            refine raw_app (v := .slice sa sl sc) (cs := (t.sureL ke back s y).map fun n => .int .i64 n) (new := [.int .i64 (y : Int)]) (M₀ := B ++ σ.M) Tryz.sl27 rfl rfl (by rw [m₄]; exact hA _) (.inr ⟨_, rfl, hb₇₁.reads (fun k v hv => by simpa using hv)⟩) rfl (by simp [Value.single]) (by have := hsl; simp; omega) fun v' M' ha' _ => ?_
            obtain ⟨A', rfl, hA'⟩ := ha'.split
            have hA' : AccIn 3 1 v' ((t.sureL ke back s (y + 1)).map fun n => .int .i64 n) A' := by rw [t.sureL_succ, hsm, hal]; simpa using hA'
            obtain ⟨sa', sl', sc', rfl, -⟩ := hA'.src
            have hM₄ : ({ σ₄ with M := A' ++ (B ++ σ.M) } : View T).M.Perm (A' ++ (B ++ σ.M)) := List.Perm.refl _
            have hI₄ : ∀ x o, σ.I x = some o → ({ σ₄ with M := A' ++ (B ++ σ.M) } : View T).I x = some o := fun x o h => i₄ x o (hI x o h)
            have ht₄ : ({ σ₄ with M := A' ++ (B ++ σ.M) } : View T).tok = σ.tok := t₄.trans htk
            have hJ₄ : ∀ x o, σ₁.I x = some o → ({ σ₄ with M := A' ++ (B ++ σ.M) } : View T).I x = some o := fun x o h => i₄ x o (hI₁ x o h)
            generalize ({ σ₄ with M := A' ++ (B ++ σ.M) } : View T) = σ₄' at hM₄ hI₄ ht₄ hJ₄ ⊢
            (conv => whnf); (repeat (refine ⟨rfl, ?_⟩; conv => whnf))
            refine cb_split (fun hc => ?_) (fun hc => ?_)
            · have hr : t.reach1 ke back c (t.ni ke) (y : Int) = true := hc
              (conv => whnf)
              intro b76 hf76
              refine put_new_perm hf76 (M' := B ++ (A' ++ σ.M)) (hM₄.trans (perm_swap A' B σ.M)) fun σ₅ i₅ t₅ m₅ hb₇₆ => ?_
              have hb₇₆ : Blk σ₅ b76 #[.int .i64 (y : Int)] := hb₇₆
              (conv => whnf)
              refine raw_app (v := .slice ca cl cc) (cs := (t.canL ke back c y).map fun n => .int .i64 n) (new := [.int .i64 (y : Int)]) (M₀ := A' ++ σ.M) Tryz.sl27 rfl rfl (by rw [m₅]; exact hB _) (.inr ⟨_, rfl, hb₇₆.reads (fun k v hv => by simpa using hv)⟩) rfl (by simp [Value.single]) (by have := hcl; simp; omega) fun v' M' ha' _ => ?_
              obtain ⟨B', rfl, hB'⟩ := ha'.split
              have hB' : AccIn 3 1 v' ((t.canL ke back c (y + 1)).map fun n => .int .i64 n) B' := by rw [t.canL_succ, hr]; simpa using hB'
              obtain ⟨_, _, _, rfl, -⟩ := hB'.src
              (conv => whnf)
              refine ⟨hin, ?_⟩
              (conv => whnf)
              exact ⟨rfl, (y + 1, .slice sa' sl' sc', _), ⟨rfl, rfl, rfl, rfl, rfl, rfl, rfl, rfl, rfl, trivial⟩, ⟨A', B', perm_swap B' A' σ.M, hA', hB', fun x o h => i₅ x o (hI₄ x o h), t₅.trans ht₄, fun x o h => i₅ x o (hJ₄ x o h), by show y + 1 ≤ t.ni kn; omega⟩, by show _ - _ < _ - _; omega⟩
            · have hr : t.reach1 ke back c (t.ni ke) (y : Int) = false := hc
              (conv => whnf)
              refine ⟨hin, ?_⟩
              (conv => whnf)
              exact ⟨rfl, (y + 1, .slice sa' sl' sc', .slice ca cl cc), ⟨rfl, rfl, rfl, rfl, rfl, rfl, rfl, rfl, rfl, trivial⟩, ⟨A', B, hM₄, hA', by rw [t.canL_succ, hr]; simpa using hB, hI₄, ht₄, hJ₄, by show y + 1 ≤ t.ni kn; omega⟩, by show _ - _ < _ - _; omega⟩
          · have hboth : (t.some1 ke back (t.ni ke) y && t.all1 ke back s (t.ni ke) y) = false := by rw [show t.all1 ke back s (t.ni ke) y = false from hc, Bool.and_false]
            have hA' : AccIn 3 1 (.slice sa sl sc) ((t.sureL ke back s (y + 1)).map fun n => .int .i64 n) A := by rw [t.sureL_succ, hboth]; simpa using hA
            have hM₄ := hM
            have hI₄ := hI
            have ht₄ := htk
            have hJ₄ := hI₁
            (conv => whnf); (repeat (refine ⟨rfl, ?_⟩; conv => whnf))
            refine cb_split (fun hc => ?_) (fun hc => ?_)
            · have hr : t.reach1 ke back c (t.ni ke) (y : Int) = true := hc
              (conv => whnf)
              intro b76 hf76
              refine put_new_perm hf76 (M' := B ++ (A ++ σ.M)) (hM₄.trans (perm_swap A B σ.M)) fun σ₅ i₅ t₅ m₅ hb₇₆ => ?_
              have hb₇₆ : Blk σ₅ b76 #[.int .i64 (y : Int)] := hb₇₆
              (conv => whnf)
              refine raw_app (v := .slice ca cl cc) (cs := (t.canL ke back c y).map fun n => .int .i64 n) (new := [.int .i64 (y : Int)]) (M₀ := A ++ σ.M) Tryz.sl27 rfl rfl (by rw [m₅]; exact hB _) (.inr ⟨_, rfl, hb₇₆.reads (fun k v hv => by simpa using hv)⟩) rfl (by simp [Value.single]) (by have := hcl; simp; omega) fun v' M' ha' _ => ?_
              obtain ⟨B', rfl, hB'⟩ := ha'.split
              have hB' : AccIn 3 1 v' ((t.canL ke back c (y + 1)).map fun n => .int .i64 n) B' := by rw [t.canL_succ, hr]; simpa using hB'
              obtain ⟨_, _, _, rfl, -⟩ := hB'.src
              (conv => whnf)
              refine ⟨hin, ?_⟩
              (conv => whnf)
              exact ⟨rfl, (y + 1, .slice sa sl sc, _), ⟨rfl, rfl, rfl, rfl, rfl, rfl, rfl, rfl, rfl, trivial⟩, ⟨A, B', perm_swap B' A σ.M, hA', hB', fun x o h => i₅ x o (hI₄ x o h), t₅.trans ht₄, fun x o h => i₅ x o (hJ₄ x o h), by show y + 1 ≤ t.ni kn; omega⟩, by show _ - _ < _ - _; omega⟩
            · have hr : t.reach1 ke back c (t.ni ke) (y : Int) = false := hc
              (conv => whnf)
              refine ⟨hin, ?_⟩
              (conv => whnf)
              exact ⟨rfl, (y + 1, .slice sa sl sc, .slice ca cl cc), ⟨rfl, rfl, rfl, rfl, rfl, rfl, rfl, rfl, rfl, trivial⟩, ⟨A, B, hM₄, hA', by rw [t.canL_succ, hr]; simpa using hB, hI₄, ht₄, hJ₄, by show y + 1 ≤ t.ni kn; omega⟩, by show _ - _ < _ - _; omega⟩
        · have hboth : (t.some1 ke back (t.ni ke) y && t.all1 ke back s (t.ni ke) y) = false := by rw [show t.some1 ke back (t.ni ke) y = false from hc, Bool.false_and]
          have hA' : AccIn 3 1 (.slice sa sl sc) ((t.sureL ke back s (y + 1)).map fun n => .int .i64 n) A := by rw [t.sureL_succ, hboth]; simpa using hA
          have hM₄ := hM
          have hI₄ := hI
          have ht₄ := htk
          have hJ₄ := hI₁
          (conv => whnf); (repeat (refine ⟨rfl, ?_⟩; conv => whnf))
          refine cb_split (fun hc => ?_) (fun hc => ?_)
          · have hr : t.reach1 ke back c (t.ni ke) (y : Int) = true := hc
            (conv => whnf)
            intro b76 hf76
            refine put_new_perm hf76 (M' := B ++ (A ++ σ.M)) (hM₄.trans (perm_swap A B σ.M)) fun σ₅ i₅ t₅ m₅ hb₇₆ => ?_
            have hb₇₆ : Blk σ₅ b76 #[.int .i64 (y : Int)] := hb₇₆
            (conv => whnf)
            refine raw_app (v := .slice ca cl cc) (cs := (t.canL ke back c y).map fun n => .int .i64 n) (new := [.int .i64 (y : Int)]) (M₀ := A ++ σ.M) Tryz.sl27 rfl rfl (by rw [m₅]; exact hB _) (.inr ⟨_, rfl, hb₇₆.reads (fun k v hv => by simpa using hv)⟩) rfl (by simp [Value.single]) (by have := hcl; simp; omega) fun v' M' ha' _ => ?_
            obtain ⟨B', rfl, hB'⟩ := ha'.split
            have hB' : AccIn 3 1 v' ((t.canL ke back c (y + 1)).map fun n => .int .i64 n) B' := by rw [t.canL_succ, hr]; simpa using hB'
            obtain ⟨_, _, _, rfl, -⟩ := hB'.src
            (conv => whnf)
            refine ⟨hin, ?_⟩
            (conv => whnf)
            exact ⟨rfl, (y + 1, .slice sa sl sc, _), ⟨rfl, rfl, rfl, rfl, rfl, rfl, rfl, rfl, rfl, trivial⟩, ⟨A, B', perm_swap B' A σ.M, hA', hB', fun x o h => i₅ x o (hI₄ x o h), t₅.trans ht₄, fun x o h => i₅ x o (hJ₄ x o h), by show y + 1 ≤ t.ni kn; omega⟩, by show _ - _ < _ - _; omega⟩
          · have hr : t.reach1 ke back c (t.ni ke) (y : Int) = false := hc
            (conv => whnf)
            refine ⟨hin, ?_⟩
            (conv => whnf)
            exact ⟨rfl, (y + 1, .slice sa sl sc, .slice ca cl cc), ⟨rfl, rfl, rfl, rfl, rfl, rfl, rfl, rfl, rfl, trivial⟩, ⟨A, B, hM₄, hA', by rw [t.canL_succ, hr]; simpa using hB, hI₄, ht₄, hJ₄, by show y + 1 ≤ t.ni kn; omega⟩, by show _ - _ < _ - _; omega⟩
    · have hge : t.ni kn ≤ y := by simpa using hc
      obtain rfl : y = t.ni kn := by omega
      (conv => whnf); (repeat (refine ⟨rfl, ?_⟩; conv => whnf))
      exact ⟨_, _, _, _, A, B, [], rfl, by unfold Tbl.stepL; rw [hE], hM, hA, hB, hI, htk⟩
end Go.Proofs
namespace Go.TM
variable {T : Type} {σ : View T}
theorem Ints.src {a : Option Addr} {len : Nat} {l : List Int} (h : Ints σ a len l) : Src σ a (l.map fun n => .int .i64 n) := by
  cases l with
  | nil =>
    cases a with
    | none => exact .inl ⟨rfl, rfl⟩
    | some ad => exact .inr ⟨ad, rfl, fun i v hv => by simp at hv⟩
  | cons x r =>
    obtain ⟨ad, rfl, hs, -⟩ := h.2 0 x rfl
    refine .inr ⟨ad, rfl, fun i v hv => ?_⟩
    rw [List.getElem?_map] at hv
    cases e : (x :: r)[i]? with
    | none => rw [e] at hv; simp at hv
    | some y =>
      rw [e] at hv
      simp at hv
      subst hv
      obtain ⟨ad', e', _, h'⟩ := h.2 i y e
      cases e'
      rwa [Nat.mul_one] at h'
theorem Tbl.stepL_len {t : Tbl} (hf : t.flaw = 0) (e : Int) (back : Bool) (p : List Int × List Int) : (t.stepL e back p).1.length ≤ 8 ∧ (t.stepL e back p).2.length ≤ 8 := by
  have h := Tbl.ni8 hf (nextE e back)
  exact ⟨Nat.le_trans (t.sureL_len ..) h, Nat.le_trans (t.canL_len ..) h⟩
theorem isEd_btw {t : Tbl} {a b e : Int} (ha : t.isEd a = true) (hb : t.isEd b = true) (h1 : a ≤ e) (h2 : e ≤ b) : t.isEd e = true := by
  unfold Tbl.isEd btw at *
  simp only [Bool.and_eq_true, decide_eq_true_eq] at *
  omega
end Go.TM
namespace Go.Proofs
open Go.TM
set_option maxRecDepth 100000
variable {T : Type} {S : TM.Sys Tryz.prog T} {σ : View T}
attribute [local irreducible] CallsV YieldV rngX

set_option maxHeartbeats 2000000 in
theorem Tryz.moved_ok (h : TH) (t : Tbl) (ht : TabV σ.frz h t) (hfl : t.flaw = 0) (fr to : Int) (hf : t.isEd fr = true) (hto : t.isEd to = true) (a : Option Addr) (len cap : Nat) (l : List Int) (hl : Ints σ.frz a len l) (hlen : len ≤ 8) :
    CallsV S 81 #[h.v, .int .i64 fr, .int .i64 to, .slice a len cap] (fun v σ' => (∃ v1 v2 l1 l2, v = .tuple #[v1, v2] ∧ (l1, l2) = t.movedL fr to l ∧ IntsV σ'.frz v1 l1 ∧ IntsV σ'.frz v2 l2) ∧ σ.le σ') σ := by
  refine CallsV.listed2 (G := fun v1 v2 => .tuple #[v1, v2]) (R := fun l1 l2 => (l1, l2) = t.movedL fr to l) (CallsV.of (args := [_, _, _, _]) Tryz.k81 Tryz.mixed (by simp) ?_)
  have hf100 := Tbl.isEd_100 hfl hf
  have ht100 := Tbl.isEd_100 hfl hto
  have hll := hl.1
  (conv => whnf); (repeat (refine ⟨rfl, ?_⟩; conv => whnf))
  intro b σ₁ h₁ hb
  have hb : Blk σ₁ b #[.slice h.ea h.el h.ec, .slice h.ma h.ml h.mc, .slice h.ka h.kl h.kc] := hb
  have hz₁ : σ.frz.lg σ₁.frz := ⟨h₁.imm, ⟨[], rfl⟩, h₁.tok⟩
  (conv => whnf)
  refine ⟨Int × Value × Value, fun y => [(1, .int .i64 fr), (2, .int .i64 to), (4, .pointer (some ⟨b, 0, none⟩)), (10, y.2.1), (11, y.2.2), (12, .int .i64 y.1)],
    fun y σ' => σ₁.le σ' ∧ t.isEd y.1 = true ∧ (fr ≤ to → fr ≤ y.1 ∧ y.1 ≤ to) ∧ (to < fr → y.1 = fr) ∧ ∃ p : List Int × List Int, IntsV σ'.frz y.2.1 p.1 ∧ IntsV σ'.frz y.2.2 p.2 ∧ p.1.length ≤ 8 ∧ p.2.length ≤ 8 ∧ t.movedL fr to l = if to < fr then t.stepN true (fr - to).toNat fr p else t.stepN false (to - y.1).toNat y.1 p,
    fun y => (to - y.1).toNat, (fr, .slice a len cap, .slice a len cap), ⟨rfl, rfl, rfl, rfl, rfl, rfl, trivial⟩,
    ⟨.refl _, hf, fun h => ⟨by simp, h⟩, fun _ => rfl, (l, l), ⟨a, cap, by rw [hll], by rw [hll]; exact hl.lg hz₁⟩, ⟨a, cap, by rw [hll], by rw [hll]; exact hl.lg hz₁⟩, by rw [hll]; exact hlen, by rw [hll]; exact hlen, rfl⟩, ?_⟩
  rintro ⟨e, v10, v11⟩ f σ₂ ⟨h₂, he, hup, hdn, p, h10, h11, hp1, hp2, hinv⟩
  simp only at he hup hdn h10 h11 hinv
  obtain ⟨a10, c10, rfl, h10⟩ := h10
  obtain ⟨a11, c11, rfl, h11⟩ := h11
  have hb₂ := hb.le h₂
  have hz₂ : σ₁.frz.lg σ₂.frz := ⟨h₂.imm, ⟨[], rfl⟩, h₂.tok⟩
  have he100 := Tbl.isEd_100 hfl he
  (conv => whnf); (repeat (refine ⟨rfl, ?_⟩; conv => whnf))
  refine cb_split (fun hc => ?_) (fun hc => ?_)
  · have hlt : e < to := by simpa using hc
    have hle : ¬ to < fr := fun h => by have := hdn h; omega
    have hup := hup (by omega)
    rw [if_neg hle] at hinv
    have hnx : t.isEd (nextE e false) = true := isEd_btw hf hto (by unfold nextE; simp; omega) (by unfold nextE; simp; omega)
    have hst : (to - e).toNat = (to - (e + 1)).toNat + 1 := by omega
    rw [hst, Tbl.stepN] at hinv
    (conv => whnf)
    refine ⟨_, ⟨rfl, hb₂.rdT fun _ _ h => h⟩, ?_⟩
    (conv => whnf)
    refine ⟨Tryz.k119.any, (Tryz.step_ok h t (ht.lg (hz₁.trans hz₂)) hfl e false he hnx a10 a11 _ c10 _ c11 p.1 p.2 h10 h11 (by omega) (by omega)).mono ?_⟩
    rintro _ σ₃ ⟨⟨w1, w2, l1, l2, rfl, hl12, i1, i2⟩, h₃⟩ -
    obtain ⟨n1, n2⟩ : l1.length ≤ 8 ∧ l2.length ≤ 8 := by
      have := Tbl.stepL_len hfl e false (p.1, p.2)
      rw [← hl12] at this; exact this
    obtain ⟨b1, d1, rfl, i1⟩ := i1
    obtain ⟨b2, d2, rfl, i2⟩ := i2
    (conv => whnf)
    refine ⟨by unfold InR; omega, ?_⟩
    (conv => whnf)
    refine ⟨rfl, (e + 1, _, _), ⟨rfl, rfl, rfl, rfl, rfl, rfl, trivial⟩, ⟨h₂.trans h₃, by simpa [nextE] using hnx, fun _ => ⟨by show fr ≤ e + 1; omega, by show e + 1 ≤ to; omega⟩, fun h => absurd h hle, (l1, l2), ⟨b1, d1, rfl, i1⟩, ⟨b2, d2, rfl, i2⟩, n1, n2, ?_⟩, by show (to - (e + 1)).toNat < (to - e).toNat; omega⟩
    rw [if_neg hle, hinv, hl12]
    rfl
  have hge : to ≤ e := by simpa using hc
  have hinv : (to < fr → t.movedL fr to l = t.stepN true (fr - to).toNat fr p) ∧ (fr ≤ to → t.movedL fr to l = p) := by
    refine ⟨fun h => by rw [hinv, if_pos h], fun h => ?_⟩
    rw [hinv, if_neg (by omega), show (to - e).toNat = 0 by omega]
    rfl
  clear hdn hup
  (conv => whnf)
  refine ⟨Int × Value × Value, fun y => [(1, .int .i64 fr), (2, .int .i64 to), (4, .pointer (some ⟨b, 0, none⟩)), (10, y.2.1), (11, y.2.2), (13, .int .i64 y.1)],
    fun y σ' => σ₂.le σ' ∧ t.isEd y.1 = true ∧ y.1 ≤ fr ∧ (to < fr → to ≤ y.1) ∧ (fr ≤ to → y.1 = fr) ∧ ∃ p : List Int × List Int, IntsV σ'.frz y.2.1 p.1 ∧ IntsV σ'.frz y.2.2 p.2 ∧ p.1.length ≤ 8 ∧ p.2.length ≤ 8 ∧ (to < fr → t.movedL fr to l = t.stepN true (y.1 - to).toNat y.1 p) ∧ (fr ≤ to → t.movedL fr to l = p),
    fun y => (y.1 - to).toNat, (fr, .slice a10 p.1.length c10, .slice a11 p.2.length c11), ⟨rfl, rfl, rfl, rfl, rfl, rfl, trivial⟩,
    ⟨.refl _, hf, by simp, fun h => by simp; omega, fun _ => rfl, p, ⟨a10, c10, rfl, h10⟩, ⟨a11, c11, rfl, h11⟩, hp1, hp2, hinv⟩, ?_⟩
  clear hinv h10 h11 hp1 hp2 hge he he100 hc
  rintro ⟨e, v10, v11⟩ f σ₃ ⟨h₃, he, hefr, hup, hdn, q, h10, h11, hp1, hp2, hinv1, hinv2⟩
  simp only at he hup hdn h10 h11 hinv1 hefr
  obtain ⟨a10, c10, rfl, h10⟩ := h10
  obtain ⟨a11, c11, rfl, h11⟩ := h11
  have hb₃ := hb₂.le h₃
  have hz₃ : σ₂.frz.lg σ₃.frz := ⟨h₃.imm, ⟨[], rfl⟩, h₃.tok⟩
  have he100 := Tbl.isEd_100 hfl he
  (conv => whnf); (repeat (refine ⟨rfl, ?_⟩; conv => whnf))
  refine cb_split (fun hc => ?_) (fun hc => ?_)
  · have hlt : to < e := by simpa using hc
    have hle : to < fr := by omega
    have hup := hup hle
    have hinv := hinv1 hle
    have hnx : t.isEd (nextE e true) = true := isEd_btw hto hf (by unfold nextE; simp; omega) (by unfold nextE; simp; omega)
    have hst : (e - to).toNat = (e - 1 - to).toNat + 1 := by omega
    rw [hst, Tbl.stepN] at hinv
    (conv => whnf)
    refine ⟨_, ⟨rfl, hb₃.rdT fun _ _ h => h⟩, ?_⟩
    (conv => whnf)
    refine ⟨Tryz.k119.any, (Tryz.step_ok h t (ht.lg (hz₁.trans (hz₂.trans hz₃))) hfl e true he hnx a10 a11 _ c10 _ c11 q.1 q.2 h10 h11 (by omega) (by omega)).mono ?_⟩
    rintro _ σ₄ ⟨⟨w1, w2, l1, l2, rfl, hl12, i1, i2⟩, h₄⟩ -
    obtain ⟨n1, n2⟩ : l1.length ≤ 8 ∧ l2.length ≤ 8 := by
      have := Tbl.stepL_len hfl e true (q.1, q.2)
      rw [← hl12] at this; exact this
    obtain ⟨b1, d1, rfl, i1⟩ := i1
    obtain ⟨b2, d2, rfl, i2⟩ := i2
    (conv => whnf)
    refine ⟨by unfold InR; omega, ?_⟩
    (conv => whnf)
    refine ⟨rfl, (e - 1, _, _), ⟨rfl, rfl, rfl, rfl, rfl, rfl, trivial⟩, ⟨h₃.trans h₄, by simpa [nextE] using hnx, by show e - 1 ≤ fr; omega, fun _ => by show to ≤ e - 1; omega, fun h => absurd h (by omega), (l1, l2), ⟨b1, d1, rfl, i1⟩, ⟨b2, d2, rfl, i2⟩, n1, n2, fun _ => ?_, fun h => absurd h (by omega)⟩, by show (e - 1 - to).toNat < (e - to).toNat; omega⟩
    rw [hinv, hl12]
    rfl
  have hge : e ≤ to := by simpa using hc
  have hmov : t.movedL fr to l = q := by
    by_cases h : to < fr
    · rw [hinv1 h, show (e - to).toNat = 0 by have := hup h; omega]
      rfl
    · exact hinv2 (by omega)
  have h10' := h10.lg frz_self
  have h11' := h11.lg frz_self
  (conv => whnf)
  intro b44 hf44
  refine ⟨_, .refl _, ?_⟩
  (conv => whnf)
  refine raw_app (v := .slice (some ⟨b44, 0, none⟩) 0 0) (cs := []) (new := q.1.map fun n => .int .i64 n) (M₀ := σ₃.M) Tryz.sl27 rfl rfl .empty (h10'.lg (lg_put ..)).src (by simp) (by simp [Value.single]) (by simp; omega) fun v1 M' ha1 _ => ?_
  obtain ⟨A, rfl, hA⟩ := ha1.split
  obtain ⟨_, _, _, rfl, -⟩ := hA.src
  (conv => whnf)
  intro b47 hf47
  refine ⟨_, .refl _, ?_⟩
  have hI : ∀ x o, σ₃.I x = some o → (View.put { σ₃.put b44 (.cells #[] 3) with M := A ++ σ₃.M } b47 (.cells #[] 3)).I x = some o := fun x o h => h
  (conv => whnf)
  refine raw_app (v := .slice (some ⟨b47, 0, none⟩) 0 0) (cs := []) (new := q.2.map fun n => .int .i64 n) (M₀ := A ++ σ₃.M) Tryz.sl27 rfl rfl .empty (h11.lg (⟨hI, ⟨_, (List.append_nil _).symm⟩, rfl⟩ : σ₃.frz.lg _)).src (by simp) (by simp [Value.single]) (by simp; omega) fun v2 M' ha2 _ => ?_
  obtain ⟨B, rfl, hB⟩ := ha2.split
  obtain ⟨_, _, _, rfl, -⟩ := hB.src
  (conv => whnf); (repeat (refine ⟨rfl, ?_⟩; conv => whnf))
  refine ⟨_, _, q.1, q.2, A, B, [], rfl, hmov.symm, ?_, by simpa using hA, by simpa using hB, fun x o h => h₃.imm x o (h₂.imm x o (h₁.imm x o h)), h₃.tok.trans (h₂.tok.trans h₁.tok)⟩
  rw [h₃.own, h₂.own, h₁.own]
  exact perm_swap B A σ.M
end Go.Proofs
namespace Go.TM
theorem Tbl.chk_8 {t : Tbl} (hf : t.flaw = 0) {e : Int} {l : List Int} (h : t.chk e none l = 0) : l.length ≤ 8 := by
  rcases chk_len hf h (by simp) with rfl | h
  · simp
  · exact h
def Tbl.movedSaid (t : Tbl) (fr to : Int) (l : List Int) : List Int × List Int := if t.moveF fr to l = 0 then t.movedL fr to l else ([], [])
theorem Tbl.movedSaid_eq (t : Tbl) (fr to : Int) (l : List Int) : t.movedSaid fr to l = (t.moveS fr to l, t.moveC fr to l) := by
  unfold Tbl.movedSaid Tbl.moveS Tbl.moveC
  by_cases h : t.moveF fr to l = 0
  · rw [if_pos h, if_pos h, if_pos h]
    unfold Tbl.moveF at h
    split at h
    · rename_i hf
      split at h
      · exact Tbl.moved_eq hf h
      · cases h
    · rename_i hf; exact absurd h hf
  · rw [if_neg h, if_neg h, if_neg h]
variable {T : Type} {P : Program} {S : Sys P T} {σ : View T}
theorem CallsV.let_go {f : FuncId} {args : Array Value} {R : Value → View T → Prop} (hR : ∀ v (a b : View T), a.frz.lg b.frz → R v a.frz → R v b.frz) (h : CallsV S f args (fun v σ' => R v σ'.frz ∧ σ.lg σ') σ) : CallsV S f args (fun v σ' => R v σ'.frz ∧ σ.le σ') σ :=
  h.post fun v σ' ⟨hr, hl⟩ => let ⟨σ'', h1, h2, h3⟩ := hl.shift; ⟨σ'', h1, hR v σ' σ'' ⟨fun b o h => by show σ''.I b = _; rw [h3]; exact h, ⟨[], rfl⟩, h2.tok.trans hl.tok.symm⟩ hr, h2⟩
end Go.TM
namespace Go.Proofs
open Go.TM
set_option maxRecDepth 100000
variable {T : Type} {S : TM.Sys Tryz.prog T} {σ : View T}
attribute [local irreducible] CallsV YieldV rngX

theorem Tryz.refMove_ok (h : TH) (t : Tbl) (ht : TabV σ.frz h t) (fr to : Int) (a : Option Addr) (len cap : Nat) (l : List Int) (hl : Ints σ.frz a len l) (hlen : len < 2 ^ 60) :
    CallsV S 35 #[h.v, .int .i64 fr, .int .i64 to, .slice a len cap] (fun v σ' => (∃ v1 v2, v = .tuple #[v1, v2, .int .i64 (t.moveF fr to l)] ∧ IntsV σ'.frz v1 (t.moveS fr to l) ∧ IntsV σ'.frz v2 (t.moveC fr to l)) ∧ σ.le σ') σ := by
  refine CallsV.let_go (R := fun v σ' => ∃ v1 v2, v = .tuple #[v1, v2, .int .i64 (t.moveF fr to l)] ∧ IntsV σ' v1 (t.moveS fr to l) ∧ IntsV σ' v2 (t.moveC fr to l)) (fun v a b hl ⟨v1, v2, e, i1, i2⟩ => ⟨v1, v2, e, i1.lg hl, i2.lg hl⟩) (CallsV.of (args := [_, _, _, _]) Tryz.k35 Tryz.mixed (by simp) ?_)
  have hsaid := t.movedSaid_eq fr to l
  have nils : ∀ (σ' : View T), t.moveF fr to l ≠ 0 → IntsV σ' (.slice none 0 0) (t.moveS fr to l) ∧ IntsV σ' (.slice none 0 0) (t.moveC fr to l) := fun σ' h => ⟨ints_nil (by unfold Tbl.moveS; rw [if_neg h]), ints_nil (by unfold Tbl.moveC; rw [if_neg h])⟩
  (conv => whnf); (repeat (refine ⟨rfl, ?_⟩; conv => whnf))
  intro b σ₁ h₁ hb
  have hb : Blk σ₁ b #[.slice h.ea h.el h.ec, .slice h.ma h.ml h.mc, .slice h.ka h.kl h.kc] := hb
  have hz₁ : σ.frz.lg σ₁.frz := ⟨h₁.imm, ⟨[], rfl⟩, h₁.tok⟩
  have ht₁ := ht.lg hz₁
  have hl₁ := hl.lg hz₁
  (conv => whnf)
  refine ⟨_, ⟨rfl, hb.rdT fun _ _ h => h⟩, ?_⟩
  (conv => whnf)
  refine ⟨Tryz.k30.any, (Tryz.refTable_ok h t (ht₁.lg frz_self)).mono ?_⟩
  rintro _ σ' ⟨rfl, hσ'⟩ -
  obtain rfl := hσ'.symm
  (conv => whnf); (repeat (refine ⟨rfl, ?_⟩; conv => whnf))
  refine cb_split (fun hc => ?_) (fun hc => ?_)
  · have hf : t.flaw ≠ 0 := by simpa using hc
    have e : t.moveF fr to l = t.flaw := by unfold Tbl.moveF; rw [if_neg hf]
    obtain ⟨n1, n2⟩ := nils σ₁.frz (by rw [e]; exact hf)
    (conv => whnf); (repeat (refine ⟨rfl, ?_⟩; conv => whnf))
    exact ⟨⟨_, _, by rw [e]; rfl, n1, n2⟩, h₁.lg⟩
  have hf : t.flaw = 0 := by simpa using hc
  (conv => whnf)
  refine ⟨_, ⟨rfl, hb.rdT fun _ _ h => h⟩, ?_⟩
  (conv => whnf)
  refine ⟨Tryz.k75.any, (Tryz.refEdition_ok h t (ht₁.lg frz_self) fr).mono ?_⟩
  rintro _ σ' ⟨rfl, hσ'⟩ -
  obtain rfl := hσ'.symm
  (conv => whnf); (repeat (refine ⟨rfl, ?_⟩; conv => whnf))
  refine gb_split (fun hc => ?_) (fun hc => ?_)
  · have h1 : t.isEd fr = true := by simpa using hc
    (conv => whnf)
    refine ⟨_, ⟨rfl, hb.rdT fun _ _ h => h⟩, ?_⟩
    (conv => whnf)
    refine ⟨Tryz.k75.any, (Tryz.refEdition_ok h t (ht₁.lg frz_self) to).mono ?_⟩
    rintro _ σ' ⟨rfl, hσ'⟩ -
    obtain rfl := hσ'.symm
    (conv => whnf); (repeat (refine ⟨rfl, ?_⟩; conv => whnf))
    refine cb_split (fun hc => ?_) (fun hc => ?_)
    · have h2 : t.isEd to = false := by simpa using hc
      have e : t.moveF fr to l = 6 := by unfold Tbl.moveF; rw [if_pos hf, h1, h2]; rfl
      obtain ⟨n1, n2⟩ := nils σ₁.frz (by rw [e]; decide)
      (conv => whnf); (repeat (refine ⟨rfl, ?_⟩; conv => whnf))
      exact ⟨⟨_, _, by rw [e]; rfl, n1, n2⟩, h₁.lg⟩
    have h2 : t.isEd to = true := by simpa using hc
    have e : t.moveF fr to l = t.chk fr none l := by unfold Tbl.moveF; rw [if_pos hf, h1, h2]; rfl
    (conv => whnf)
    refine ⟨_, ⟨rfl, hb.rdT fun _ _ h => h⟩, ?_⟩
    (conv => whnf)
    refine ⟨Tryz.k76.any, (Tryz.listFlaw_ok h t (ht₁.lg frz_self) fr h1 a len cap l (hl₁.lg frz_self) hlen).mono ?_⟩
    rintro _ σ' ⟨rfl, hσ'⟩ -
    obtain rfl := hσ'.symm
    (conv => whnf); (repeat (refine ⟨rfl, ?_⟩; conv => whnf))
    refine cb_split (fun hc => ?_) (fun hc => ?_)
    · have h3 : t.chk fr none l ≠ 0 := by simpa using hc
      obtain ⟨n1, n2⟩ := nils σ₁.frz (by rw [e]; exact h3)
      (conv => whnf); (repeat (refine ⟨rfl, ?_⟩; conv => whnf))
      exact ⟨⟨_, _, by rw [e]; rfl, n1, n2⟩, h₁.lg⟩
    have h3 : t.chk fr none l = 0 := by simpa using hc
    rw [h3] at e
    unfold Tbl.movedSaid at hsaid
    rw [if_pos e] at hsaid
    (conv => whnf)
    refine ⟨_, ⟨rfl, hb.rdT fun _ _ h => h⟩, ?_⟩
    (conv => whnf)
    refine ⟨Tryz.k81.any, (Tryz.moved_ok h t ht₁ hf fr to h1 h2 a len cap l hl₁ (by rw [← hl.1]; exact Tbl.chk_8 hf h3)).mono ?_⟩
    rintro _ σ₂ ⟨⟨w1, w2, l1, l2, rfl, hl12, ⟨b1, d1, rfl, i1⟩, ⟨b2, d2, rfl, i2⟩⟩, h₂⟩ -
    rw [hsaid] at hl12
    obtain ⟨rfl, rfl⟩ := Prod.mk.inj hl12
    (conv => whnf); (repeat (refine ⟨rfl, ?_⟩; conv => whnf))
    exact ⟨⟨_, _, by rw [e]; rfl, ⟨_, _, rfl, i1⟩, ⟨_, _, rfl, i2⟩⟩, (h₁.trans h₂).lg⟩
  · have h1 : t.isEd fr = false := by simpa using hc
    have e : t.moveF fr to l = 6 := by unfold Tbl.moveF; rw [if_pos hf, h1]; rfl
    obtain ⟨n1, n2⟩ := nils σ₁.frz (by rw [e]; decide)
    (conv => whnf); (repeat (refine ⟨rfl, ?_⟩; conv => whnf))
    exact ⟨⟨_, _, by rw [e]; rfl, n1, n2⟩, h₁.lg⟩
end Go.Proofs
