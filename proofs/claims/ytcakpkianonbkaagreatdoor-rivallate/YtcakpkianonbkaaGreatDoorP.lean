/-
  RivalLate: for every input the law's function returns true, on every schedule, and each argument reads behind the call as it read before; the card, tied.
  Conditions: none beyond the given row's own (what comes in can be read as data of its type; the listed table is as the program's text lays it).
-/
import Derived.Test.YtcakpkianonbkaaGreatDoorC04
import Derived.Test.YtcakpkianonbkaaGreatDoorB47
import Derived.Test.YtcakpkianonbkaaGreatDoorB10
set_option linter.all false
namespace Go.Proofs.YtcakpkianonbkaaGreatDoor
open Go.ChangeShapes Go.WideShapes Go.ChangeAt Go.RowKit Go.TM

theorem rivalLate_closed : joinedFacts Tryz.prog 3 Tryz.f3 Rows.rivalLateSpec Rows.rivalLateRow = true :=
  Zs4 (by kernel_rfl) Zpl Zmh (by kernel_rfl) (by kernel_rfl) (by kernel_rfl) (by kernel_rfl) Zmk Zj4 Zo7 Zj2 Zs2 (by kernel_rfl) (by kernel_rfl) (by kernel_rfl)
set_option maxRecDepth 100000 in
theorem rivalLate_lifted (os : Os) (started : os.Started) (H : Type) (enc : TypeId × Value → H) (F : Stop.Interp) :
    ReturnsInLeavingWide { calm := true } Tryz.checked os 3 .any (fun w args => (Rows.rivalLateSpec.pre enc Tryz.prog Tryz.f3 Rows.rivalLateRow.domain false w args ∧ laidMetH Tryz.prog Qiq w) ∧ sizedMet enc Tryz.prog Tryz.f3 (OpenSpec.ofChange Rows.rivalLateSpec) false w args) ((OpenSpec.ofChange Rows.rivalLateSpec).postWith enc Tryz.prog Tryz.f3 F (outsideKept [.timePasses]) false true false) := by
  refine Zru (C := Tryz.checked) (X := fun w => laidMetH Tryz.prog Qiq w) (fun _ _ hh h => h.of_heap hh) Zth started Tryz.func3
    (Zre (enc := enc) (C := Tryz.checked) (os := os) (X := fun w => laidMetH Tryz.prog Qiq w) (World.doorLaid Tryz.prog 200 os) #[.agg #[.slice Option.none 0 0, .slice Option.none 0 0, .int .i64 0, .int .i64 0, .int .i64 0, .int .i64 0, .int .i64 0, .int .i64 0, .int .i64 0, .int .i64 0, .int .i64 0, .int .i64 0, .int .i64 0, .int .i64 0, .slice Option.none 0 0], .int .u16 0, .int .u16 0, .int .u8 0, .int .u8 0, .int .u8 0, .slice Option.none 0 0] 8 rfl (World.shaped_of_RefB (by kernel_rfl) (by kernel_rfl)) (by kernel_rfl) (by kernel_rfl) (by kernel_rfl) (Zo5 os _)) ?_
  intro W base args ds gs before hval0 hW hsz0 hL
  have hchk := Zro hL
  have hlen := Zrt hL
  have hval : ∀ (j : Nat) t v, Tryz.f3.params[j]? = some t → args[j]? = some v → Value.okWide Tryz.prog W .any base t v := hval0
  have hsz : (DataW.weightsEach Tryz.prog (Tryz.f3.params.toList ++ Rows.rivalLateSpec.plain.varTypes Tryz.prog) (ds ++ gs)).all (· ≤ reachBytes) = true := hsz0
  clear hval0 hsz0
  have hW' := hW
  obtain ⟨p, q, hA0, hV, rfl, _, _⟩ := hW
  have hA : DataW.TrodAll enc Tryz.prog W 0 (fun _ => true) true Tryz.f3.params.toList args.toList ds p := hA0
  obtain ⟨rfl, rfl⟩ := trodVars_none hV
  rw [List.append_nil] at hsz
  rw [Tryz.params3] at hA hval hsz
  obtain ⟨v0, vs0, d0, ds0, p0, q0, hargs, rfl, rfl, h0, r0⟩ := trodAll_cons hA
  obtain ⟨v1, vs1, d1, ds1, p1, q1, rfl, rfl, rfl, h1, r1⟩ := trodAll_cons r0
  obtain ⟨v2, vs2, d2, ds2, p2, q2, rfl, rfl, rfl, h2, r2⟩ := trodAll_cons r1
  obtain ⟨v3, vs3, d3, ds3, p3, q3, rfl, rfl, rfl, h3, r3⟩ := trodAll_cons r2
  obtain ⟨v4, vs4, d4, ds4, p4, q4, rfl, rfl, rfl, h4, r4⟩ := trodAll_cons r3
  obtain ⟨v5, vs5, d5, ds5, p5, q5, rfl, rfl, rfl, h5, r5⟩ := trodAll_cons r4
  obtain ⟨v6, vs6, d6, ds6, p6, q6, rfl, rfl, rfl, h6, r6⟩ := trodAll_cons r5
  obtain ⟨rfl, rfl, rfl⟩ := trodAll_nil r6
  obtain rfl : args = #[v0, v1, v2, v3, v4, v5, v6] := by cases args; simp_all
  obtain ⟨c0, rfl, -⟩ := okWide_struct Tryz.underlying31 (hval 0 31 v0 rfl rfl)
  obtain ⟨f0, h0⟩ := h0
  obtain ⟨fh, cal, aps, hc0, hx⟩ := Zuc (W := W) h0 (Sz.arg hsz (i := 0) rfl rfl)
  have hc0 : Value.agg c0 = fh.v := hc0
  obtain ⟨n1, rfl⟩ := okWide_int Tryz.underlying32 (hval 1 32 v1 rfl rfl)
  obtain ⟨g1, h1⟩ := h1
  obtain ⟨u1, e1, hu1⟩ := Zur (W := W) h1
  obtain ⟨n2, rfl⟩ := okWide_int Tryz.underlying32 (hval 2 32 v2 rfl rfl)
  obtain ⟨g2, h2⟩ := h2
  obtain ⟨u2, e2, hu2⟩ := Zur (W := W) h2
  obtain ⟨n3, rfl⟩ := okWide_int Tryz.underlying5 (hval 3 5 v3 rfl rfl)
  obtain ⟨g3, h3⟩ := h3
  obtain ⟨u3, e3, hu3⟩ := Zuv (W := W) h3
  obtain ⟨n4, rfl⟩ := okWide_int Tryz.underlying5 (hval 4 5 v4 rfl rfl)
  obtain ⟨g4, h4⟩ := h4
  obtain ⟨u4, e4, hu4⟩ := Zuv (W := W) h4
  obtain ⟨n5, rfl⟩ := okWide_int Tryz.underlying5 (hval 5 5 v5 rfl rfl)
  obtain ⟨g5, h5⟩ := h5
  obtain ⟨u5, e5, hu5⟩ := Zuv (W := W) h5
  obtain ⟨la6, ll6, lc6, rfl⟩ := okWide_slice Tryz.underlying33 (hval 6 33 v6 rfl rfl)
  obtain ⟨f6, h6⟩ := h6
  obtain ⟨a6, len6, cap6, l6, e6, hl6, hlen6⟩ := Zud (W := W) h6 (Sz.arg hsz (i := 6) rfl rfl)
  refine Zts (N := 6) (t := 175) Zpl (by kernel_rfl) rfl hW' rfl Tryz.underlying4 rfl rfl rfl ?_
  rw [hc0, e1, e2, e3, e4, e5, e6]
  exact Zfv (U := Qa.all W) rfl hchk hlen fh cal aps hx u1 u2 u3 u4 u5 hu1 hu2 hu3 hu4 hu5 a6 len6 cap6 l6 hl6

theorem rivalLate_holds : Rows.RivalLateSaid :=
  OpenClaim.holds_of_wide_leaving_time 3 Tryz.f3 rfl rfl rfl rfl rfl rfl rfl ⟨rfl, rfl, rfl, rfl, rfl⟩ rfl rfl rfl rfl rfl (by kernel_rfl) Tryz.func3 rivalLate_closed
    (of_decide_eq_true (by kernel_rfl)) (by unfold Func.isWrapper; first | (rw [if_pos (by decide +kernel)]; kernel_rfl) | (rw [if_neg (by decide +kernel)]; exact ⟨rfl, rfl⟩))
    (fun os started H enc _ F => rivalLate_lifted os started H enc F)
theorem rivalLate_wf : Rows.rivalLateRow.wfByText (OpenSpec.ofChange Rows.rivalLateSpec) = true := by kernel_rfl
theorem rivalLate_fn : Tryz.prog.funcNamed Rows.rivalLateRow.func = some 3 := by kernel_rfl
theorem rivalLate_goes : true = Rows.rivalLateRow.goesBy Tryz.pinned.checked.prog := by kernel_rfl
theorem rivalLate_card : Rows.RivalLateCardSaid :=
  Zs5 [.data, .funcs] true (true, "343623f8dcc179b41c33c845adbfe035ddd7a55932a929884cf34c9623bfe0ec") false rivalLate_holds rivalLate_wf rivalLate_row_tie rfl ⟨rfl, rfl⟩ Zrj rfl
    (fun f fn hf hfn => by
      obtain rfl : f = 3 := Option.some.inj (rivalLate_fn.symm.trans hf) |>.symm
      obtain rfl : fn = Tryz.f3 := (Option.some.inj (Tryz.func3.symm.trans hfn)).symm
      exact ⟨Zri, fun j t ht => by
        rw [Tryz.params3] at ht
        have hm : t ∈ [31, 32, 32, 5, 5, 5, 33] := by simpa using Array.mem_of_getElem? ht
        have hs : t ∈ [3, 4, 5, 31, 32, 33, 43] := (show ∀ u ∈ ([31, 32, 32, 5, 5, 5, 33] : List Nat), u ∈ ([3, 4, 5, 31, 32, 33, 43] : List Nat) by decide) t hm
        exact (show Tryz.prog.wantsStandIn t = false by simpa using List.all_eq_true.1 Zj3 t hs)⟩)
    rivalLate_goes
#print axioms rivalLate_card
end Go.Proofs.YtcakpkianonbkaaGreatDoor
