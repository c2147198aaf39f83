/-
  RivalLeaves: for every input the law's function returns true, on every schedule, and each argument reads behind the call as it read before; the card, tied.
  Conditions: none beyond the given row's own (what comes in can be read as data of its type; the listed table is as the program's text lays it).
-/
import Derived.Test.YtnpfcnfhfkflhaaGreatDoorC07
set_option linter.all false
namespace Go.Proofs.YtnpfcnfhfkflhaaGreatDoor
open Go.ChangeShapes Go.WideShapes Go.ChangeAt Go.RowKit Go.TM

theorem rivalLeaves_closed : joinedFacts Tryz.prog 13 Tryz.f13 Rows.rivalLeavesSpec Rows.rivalLeavesRow = true :=
  Zoi (by kernel_rfl) Zla Zik (by kernel_rfl) (by kernel_rfl) (by kernel_rfl) (by kernel_rfl) Zin Zg7 Zk7 Zg5 Zog (by kernel_rfl) (by kernel_rfl) (by kernel_rfl)
set_option maxRecDepth 100000 in
theorem rivalLeaves_lifted (os : Os) (started : os.Started) (H : Type) (enc : TypeId × Value → H) (F : Stop.Interp) :
    ReturnsInLeavingWide { calm := true } Tryz.checked os 13 .any (fun w args => (Rows.rivalLeavesSpec.pre enc Tryz.prog Tryz.f13 Rows.rivalLeavesRow.domain false w args ∧ laidMetH Tryz.prog E9 w) ∧ sizedMet enc Tryz.prog Tryz.f13 (OpenSpec.ofChange Rows.rivalLeavesSpec) false w args) ((OpenSpec.ofChange Rows.rivalLeavesSpec).postWith enc Tryz.prog Tryz.f13 F (outsideKept [.timePasses]) false true false) := by
  refine Zne (C := Tryz.checked) (X := fun w => laidMetH Tryz.prog E9 w) (fun _ _ hh h => h.of_heap hh) Zou started Tryz.func13
    (Zmx (enc := enc) (C := Tryz.checked) (os := os) (X := fun w => laidMetH Tryz.prog E9 w) (World.doorLaid Tryz.prog 200 os) #[.agg #[.slice Option.none 0 0, .slice Option.none 0 0], .int .u8 0, .slice Option.none 0 0] 8 rfl (World.shaped_of_RefB (by kernel_rfl) (by kernel_rfl)) (by kernel_rfl) (by kernel_rfl) (by kernel_rfl) (Zk6 os _)) ?_
  intro W base args ds gs before hval0 hW hsz0 hL
  have hchk := Zm9 hL
  have hval : ∀ (j : Nat) t v, Tryz.f13.params[j]? = some t → args[j]? = some v → Value.okWide Tryz.prog W .any base t v := hval0
  have hsz : (DataW.weightsEach Tryz.prog (Tryz.f13.params.toList ++ Rows.rivalLeavesSpec.plain.varTypes Tryz.prog) (ds ++ gs)).all (· ≤ reachBytes) = true := hsz0
  clear hval0 hsz0
  have hW' := hW
  obtain ⟨p, q, hA0, hV, rfl, _, _⟩ := hW
  have hA : DataW.TrodAll enc Tryz.prog W 0 (fun _ => true) true Tryz.f13.params.toList args.toList ds p := hA0
  obtain ⟨rfl, rfl⟩ := trodVars_none hV
  rw [List.append_nil] at hsz
  rw [Tryz.params13] at hA hval hsz
  obtain ⟨v0, vs0, d0, ds0, p0, q0, hargs, rfl, rfl, h0, r0⟩ := trodAll_cons hA
  obtain ⟨v1, vs1, d1, ds1, p1, q1, rfl, rfl, rfl, h1, r1⟩ := trodAll_cons r0
  obtain ⟨v2, vs2, d2, ds2, p2, q2, rfl, rfl, rfl, h2, r2⟩ := trodAll_cons r1
  obtain ⟨rfl, rfl, rfl⟩ := trodAll_nil r2
  obtain rfl : args = #[v0, v1, v2] := by cases args; simp_all
  obtain ⟨c0, rfl, -⟩ := okWide_struct Tryz.underlying25 (hval 0 25 v0 rfl rfl)
  obtain ⟨f0, h0⟩ := h0
  obtain ⟨bh, b, hc0, hb, hr0, hn0, hrc, hcc⟩ := Zpn (W := W) h0 (Sz.arg hsz (i := 0) rfl rfl)
  have hc0 : Value.agg c0 = bh.v := hc0
  obtain ⟨n1, rfl⟩ := okWide_int Tryz.underlying5 (hval 1 5 v1 rfl rfl)
  obtain ⟨g1, h1⟩ := h1
  obtain ⟨u1, e1, hu1⟩ := Zom (W := W) h1
  obtain ⟨la2, ll2, lc2, rfl⟩ := okWide_slice Tryz.underlying44 (hval 2 44 v2 rfl rfl)
  obtain ⟨f2, h2⟩ := h2
  obtain ⟨a2, len2, cap2, l2, e2, hl2, hlen2⟩ := Zok (W := W) h2 (Sz.arg hsz (i := 2) rfl rfl)
  refine Zo4 (N := 6) (t := 209) Zla (by kernel_rfl) rfl hW' rfl Tryz.underlying4 rfl rfl rfl ?_
  rw [hc0, e1, e2]
  exact Zcx (U := Qa.all W) rfl hchk bh b hb ⟨hr0, hn0⟩ hrc hcc u1 hu1 a2 len2 cap2 l2 hl2 hlen2

theorem rivalLeaves_holds : Rows.RivalLeavesSaid :=
  OpenClaim.holds_of_wide_leaving_time 13 Tryz.f13 rfl rfl rfl rfl rfl rfl rfl ⟨rfl, rfl, rfl, rfl, rfl⟩ rfl rfl rfl rfl rfl (by kernel_rfl) Tryz.func13 rivalLeaves_closed
    (of_decide_eq_true (by kernel_rfl)) (by unfold Func.isWrapper; first | (rw [if_pos (by decide +kernel)]; kernel_rfl) | (rw [if_neg (by decide +kernel)]; exact ⟨rfl, rfl⟩))
    (fun os started H enc _ F => rivalLeaves_lifted os started H enc F)
theorem rivalLeaves_wf : Rows.rivalLeavesRow.wfByText (OpenSpec.ofChange Rows.rivalLeavesSpec) = true := by kernel_rfl
theorem rivalLeaves_fn : Tryz.prog.funcNamed Rows.rivalLeavesRow.func = some 13 := by kernel_rfl
theorem rivalLeaves_goes : true = Rows.rivalLeavesRow.goesBy Tryz.pinned.checked.prog := by kernel_rfl
theorem rivalLeaves_card : Rows.RivalLeavesCardSaid :=
  Zoj [.funcs] true (true, "375651d122c04421ce498e33069ddb9fbc3642b8e91d60a78b8c96a8de8d53b0") true rivalLeaves_holds rivalLeaves_wf rivalLeaves_row_tie rfl ⟨rfl, rfl⟩ Zm4 rfl
    (fun f fn hf hfn => by
      obtain rfl : f = 13 := Option.some.inj (rivalLeaves_fn.symm.trans hf) |>.symm
      obtain rfl : fn = Tryz.f13 := (Option.some.inj (Tryz.func13.symm.trans hfn)).symm
      exact ⟨Zm3, fun j t ht => by
        rw [Tryz.params13] at ht
        have hm : t ∈ [25, 5, 44] := by simpa using Array.mem_of_getElem? ht
        have hs : t ∈ [3, 4, 5, 25, 26, 44, 68] := (show ∀ u ∈ ([25, 5, 44] : List Nat), u ∈ ([3, 4, 5, 25, 26, 44, 68] : List Nat) by decide) t hm
        exact (show Tryz.prog.wantsStandIn t = false by simpa using List.all_eq_true.1 Zg6 t hs)⟩)
    rivalLeaves_goes
#print axioms rivalLeaves_card
end Go.Proofs.YtnpfcnfhfkflhaaGreatDoor
