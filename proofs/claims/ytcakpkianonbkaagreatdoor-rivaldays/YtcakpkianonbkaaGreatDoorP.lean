/-
  RivalDays: for every input the law's function returns true, on every schedule, and each argument reads behind the call as it read before; the card, tied.
  Conditions: none beyond the given row's own (what comes in can be read as data of its type; the listed table is as the program's text lays it).
-/
import Derived.Test.YtcakpkianonbkaaGreatDoorC04
import Derived.Test.YtcakpkianonbkaaGreatDoorB47
import Derived.Test.YtcakpkianonbkaaGreatDoorB10
set_option linter.all false
namespace Go.Proofs.YtcakpkianonbkaaGreatDoor
open Go.ChangeShapes Go.WideShapes Go.ChangeAt Go.RowKit Go.TM

theorem rivalDays_closed : joinedFacts Tryz.prog 4 Tryz.f4 Rows.rivalDaysSpec Rows.rivalDaysRow = true :=
  Zud (by kernel_rfl) Zqv Znr (by kernel_rfl) (by kernel_rfl) (by kernel_rfl) (by kernel_rfl) Znu Zk3 Zqj Zk1 Zub (by kernel_rfl) (by kernel_rfl) (by kernel_rfl)
set_option maxRecDepth 100000 in
theorem rivalDays_lifted (os : Os) (started : os.Started) (H : Type) (enc : TypeId × Value → H) (F : Stop.Interp) :
    ReturnsInLeavingWide { calm := true } Tryz.checked os 4 .any (fun w args => (Rows.rivalDaysSpec.pre enc Tryz.prog Tryz.f4 Rows.rivalDaysRow.domain false w args ∧ laidMetH Tryz.prog KY w) ∧ sizedMet enc Tryz.prog Tryz.f4 (OpenSpec.ofChange Rows.rivalDaysSpec) false w args) ((OpenSpec.ofChange Rows.rivalDaysSpec).postWith enc Tryz.prog Tryz.f4 F (outsideKept [.timePasses]) false true false) := by
  refine Zs4 (C := Tryz.checked) (X := fun w => laidMetH Tryz.prog KY w) (fun _ _ hh h => h.of_heap hh) Zus started Tryz.func4
    (Zsn (enc := enc) (C := Tryz.checked) (os := os) (X := fun w => laidMetH Tryz.prog KY w) (World.doorLaid Tryz.prog 200 os) #[.agg #[.slice Option.none 0 0, .slice Option.none 0 0], .agg #[.slice Option.none 0 0, .slice Option.none 0 0, .int .i64 0, .int .i64 0, .int .i64 0, .int .i64 0, .int .i64 0, .int .i64 0, .int .i64 0, .int .i64 0, .int .i64 0, .int .i64 0, .int .i64 0, .int .i64 0, .slice Option.none 0 0], .slice Option.none 0 0] 8 rfl (World.shaped_of_RefB (by kernel_rfl) (by kernel_rfl)) (by kernel_rfl) (by kernel_rfl) (by kernel_rfl) (Zqi os _)) ?_
  intro W base args ds gs before hval0 hW hsz0 hL
  have hchk := Zsy hL
  have hlen := Zs3 hL
  have hval : ∀ (j : Nat) t v, Tryz.f4.params[j]? = some t → args[j]? = some v → Value.okWide Tryz.prog W .any base t v := hval0
  have hsz : (DataW.weightsEach Tryz.prog (Tryz.f4.params.toList ++ Rows.rivalDaysSpec.plain.varTypes Tryz.prog) (ds ++ gs)).all (· ≤ reachBytes) = true := hsz0
  clear hval0 hsz0
  have hW' := hW
  obtain ⟨p, q, hA0, hV, rfl, _, _⟩ := hW
  have hA : DataW.TrodAll enc Tryz.prog W 0 (fun _ => true) true Tryz.f4.params.toList args.toList ds p := hA0
  obtain ⟨rfl, rfl⟩ := trodVars_none hV
  rw [List.append_nil] at hsz
  rw [Tryz.params4] at hA hval hsz
  obtain ⟨v0, vs0, d0, ds0, p0, q0, hargs, rfl, rfl, h0, r0⟩ := trodAll_cons hA
  obtain ⟨v1, vs1, d1, ds1, p1, q1, rfl, rfl, rfl, h1, r1⟩ := trodAll_cons r0
  obtain ⟨v2, vs2, d2, ds2, p2, q2, rfl, rfl, rfl, h2, r2⟩ := trodAll_cons r1
  obtain ⟨rfl, rfl, rfl⟩ := trodAll_nil r2
  obtain rfl : args = #[v0, v1, v2] := by cases args; simp_all
  obtain ⟨c0, rfl, -⟩ := okWide_struct Tryz.underlying43 (hval 0 43 v0 rfl rfl)
  obtain ⟨f0, h0⟩ := h0
  obtain ⟨bh, b, hc0, hb, hr0, hn0, hrc, hcc⟩ := Zvn (W := W) h0 (Sz.arg hsz (i := 0) rfl rfl)
  have hc0 : Value.agg c0 = bh.v := hc0
  obtain ⟨c1, rfl, -⟩ := okWide_struct Tryz.underlying31 (hval 1 31 v1 rfl rfl)
  obtain ⟨f1, h1⟩ := h1
  obtain ⟨fh, cal, aps, hc1, hx⟩ := Zvo (W := W) h1 (Sz.arg hsz (i := 1) rfl rfl)
  have hc1 : Value.agg c1 = fh.v := hc1
  obtain ⟨la2, ll2, lc2, rfl⟩ := okWide_slice Tryz.underlying33 (hval 2 33 v2 rfl rfl)
  obtain ⟨f2, h2⟩ := h2
  obtain ⟨a2, len2, cap2, l2, e2, hl2, hlen2⟩ := Zvp (W := W) h2 (Sz.arg hsz (i := 2) rfl rfl)
  refine Zu2 (N := 6) (t := 175) Zqv (by kernel_rfl) rfl hW' rfl Tryz.underlying4 rfl rfl rfl ?_
  rw [hc0, hc1, e2]
  exact Zsv (U := Qa.all W) rfl hchk hlen bh b hb ⟨hr0, hn0⟩ hrc hcc fh cal aps hx  a2 len2 cap2 l2 hl2

theorem rivalDays_holds : Rows.RivalDaysSaid :=
  OpenClaim.holds_of_wide_leaving_time 4 Tryz.f4 rfl rfl rfl rfl rfl rfl rfl ⟨rfl, rfl, rfl, rfl, rfl⟩ rfl rfl rfl rfl rfl (by kernel_rfl) Tryz.func4 rivalDays_closed
    (of_decide_eq_true (by kernel_rfl)) (by unfold Func.isWrapper; first | (rw [if_pos (by decide +kernel)]; kernel_rfl) | (rw [if_neg (by decide +kernel)]; exact ⟨rfl, rfl⟩))
    (fun os started H enc _ F => rivalDays_lifted os started H enc F)
theorem rivalDays_wf : Rows.rivalDaysRow.wfByText (OpenSpec.ofChange Rows.rivalDaysSpec) = true := by kernel_rfl
theorem rivalDays_fn : Tryz.prog.funcNamed Rows.rivalDaysRow.func = some 4 := by kernel_rfl
theorem rivalDays_goes : true = Rows.rivalDaysRow.goesBy Tryz.pinned.checked.prog := by kernel_rfl
theorem rivalDays_card : Rows.RivalDaysCardSaid :=
  Zue [.data, .funcs] true (true, "343623f8dcc179b41c33c845adbfe035ddd7a55932a929884cf34c9623bfe0ec") false rivalDays_holds rivalDays_wf rivalDays_row_tie rfl ⟨rfl, rfl⟩ Zst rfl
    (fun f fn hf hfn => by
      obtain rfl : f = 4 := Option.some.inj (rivalDays_fn.symm.trans hf) |>.symm
      obtain rfl : fn = Tryz.f4 := (Option.some.inj (Tryz.func4.symm.trans hfn)).symm
      exact ⟨Zss, fun j t ht => by
        rw [Tryz.params4] at ht
        have hm : t ∈ [43, 31, 33] := by simpa using Array.mem_of_getElem? ht
        have hs : t ∈ [3, 4, 5, 31, 32, 33, 43] := (show ∀ u ∈ ([43, 31, 33] : List Nat), u ∈ ([3, 4, 5, 31, 32, 33, 43] : List Nat) by decide) t hm
        exact (show Tryz.prog.wantsStandIn t = false by simpa using List.all_eq_true.1 Zk2 t hs)⟩)
    rivalDays_goes
#print axioms rivalDays_card
end Go.Proofs.YtcakpkianonbkaaGreatDoor
