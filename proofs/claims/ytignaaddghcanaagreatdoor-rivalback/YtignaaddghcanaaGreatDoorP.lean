/-
  RivalBack: for every input the law's function returns true, on every schedule, and each argument reads behind the call as it read before; the card, tied.
  Conditions: none beyond the given row's own (what comes in can be read as data of its type; the listed table is as the program's text lays it).
-/
import Derived.Test.YtignaaddghcanaaGreatDoorC07
import Derived.Test.YtignaaddghcanaaGreatDoorB41
import Derived.Test.YtignaaddghcanaaGreatDoorB07
set_option linter.all false
namespace Go.Proofs.YtignaaddghcanaaGreatDoor
open Go.ChangeShapes Go.WideShapes Go.ChangeAt Go.RowKit Go.TM

theorem rivalBack_closed : joinedFacts Tryz.prog 4 Tryz.f4 Rows.rivalBackSpec Rows.rivalBackRow = true :=
  Znd (by kernel_rfl) Zj6 Zhe (by kernel_rfl) (by kernel_rfl) (by kernel_rfl) (by kernel_rfl) Zhh Zfx Zj0 Zfv Znb (by kernel_rfl) (by kernel_rfl) (by kernel_rfl)
set_option maxRecDepth 100000 in
theorem rivalBack_lifted (os : Os) (started : os.Started) (H : Type) (enc : TypeId × Value → H) (F : Stop.Interp) :
    ReturnsInLeavingWide { calm := true } Tryz.checked os 4 .any (fun w args => (Rows.rivalBackSpec.pre enc Tryz.prog Tryz.f4 Rows.rivalBackRow.domain false w args ∧ laidMetH Tryz.prog FN w) ∧ sizedMet enc Tryz.prog Tryz.f4 (OpenSpec.ofChange Rows.rivalBackSpec) false w args) ((OpenSpec.ofChange Rows.rivalBackSpec).postWith enc Tryz.prog Tryz.f4 F (outsideKept [.timePasses]) false true false) := by
  refine Zl7 (C := Tryz.checked) (X := fun w => laidMetH Tryz.prog FN w) (fun _ _ hh h => h.of_heap hh) Zno started Tryz.func4
    (Zlt (enc := enc) (C := Tryz.checked) (os := os) (X := fun w => laidMetH Tryz.prog FN w) (px os) #[.agg #[.slice Option.none 0 0, .slice Option.none 0 0]] 8 rfl (World.shaped_of_RefB (by kernel_rfl) (by kernel_rfl)) (by kernel_rfl) (by kernel_rfl) (by kernel_rfl) (Zjz os _)) ?_
  intro W base args ds gs before hval0 hW hsz0 hL
  have hchk := Zl2 hL
  have hval : ∀ (j : Nat) t v, Tryz.f4.params[j]? = some t → args[j]? = some v → Value.okWide Tryz.prog W .any base t v := hval0
  have hsz : (DataW.weightsEach Tryz.prog (Tryz.f4.params.toList ++ Rows.rivalBackSpec.plain.varTypes Tryz.prog) (ds ++ gs)).all (· ≤ reachBytes) = true := hsz0
  clear hval0 hsz0
  have hW' := hW
  obtain ⟨p, q, hA0, hV, rfl, _, _⟩ := hW
  have hA : DataW.TrodAll enc Tryz.prog W 0 (fun _ => true) true Tryz.f4.params.toList args.toList ds p := hA0
  obtain ⟨rfl, rfl⟩ := trodVars_none hV
  rw [List.append_nil] at hsz
  rw [Tryz.params4] at hA hval hsz
  obtain ⟨v0, vs0, d0, ds0, p0, q0, hargs, rfl, rfl, h0, r0⟩ := trodAll_cons hA
  obtain ⟨rfl, rfl, rfl⟩ := trodAll_nil r0
  obtain rfl : args = #[v0] := by cases args; simp_all
  obtain ⟨c0, rfl, -⟩ := okWide_struct Tryz.underlying25 (hval 0 25 v0 rfl rfl)
  obtain ⟨f0, h0⟩ := h0
  obtain ⟨bh, b, hc0, hb, hr0, hn0, hrc, hcc⟩ := Zoi (W := W) h0 (Sz.arg hsz (i := 0) rfl rfl)
  have hc0 : Value.agg c0 = bh.v := hc0
  refine Znz (N := 6) (t := 173) Zj6 (by kernel_rfl) rfl hW' rfl Tryz.underlying4 rfl rfl rfl ?_
  rw [hc0]
  exact Zxd (U := Qa.all W) rfl hchk bh b hb ⟨hr0, hn0⟩ hrc hcc

theorem rivalBack_holds : Rows.RivalBackSaid :=
  OpenClaim.holds_of_wide_leaving_time 4 Tryz.f4 rfl rfl rfl rfl rfl rfl rfl ⟨rfl, rfl, rfl, rfl, rfl⟩ rfl rfl rfl rfl rfl (by kernel_rfl) Tryz.func4 rivalBack_closed
    (of_decide_eq_true (by kernel_rfl)) (by unfold Func.isWrapper; first | (rw [if_pos (by decide +kernel)]; kernel_rfl) | (rw [if_neg (by decide +kernel)]; exact ⟨rfl, rfl⟩))
    (fun os started H enc _ F => rivalBack_lifted os started H enc F)
theorem rivalBack_wf : Rows.rivalBackRow.wfByText (OpenSpec.ofChange Rows.rivalBackSpec) = true := by kernel_rfl
theorem rivalBack_fn : Tryz.prog.funcNamed Rows.rivalBackRow.func = some 4 := by kernel_rfl
theorem rivalBack_goes : true = Rows.rivalBackRow.goesBy Tryz.pinned.checked.prog := by kernel_rfl
theorem rivalBack_card : Rows.RivalBackCardSaid :=
  Zne [.data, .funcs, .pinned] true (true, "c3d499a9b28f31848feaad5e0446a69e4b797f668f6b53c019351d28f1fb0997") true rivalBack_holds rivalBack_wf rivalBack_row_tie rfl ⟨rfl, rfl⟩ Zly rfl
    (fun f fn hf hfn => by
      obtain rfl : f = 4 := Option.some.inj (rivalBack_fn.symm.trans hf) |>.symm
      obtain rfl : fn = Tryz.f4 := (Option.some.inj (Tryz.func4.symm.trans hfn)).symm
      exact ⟨Zlx, fun j t ht => by
        rw [Tryz.params4] at ht
        have hm : t ∈ [25] := by simpa using Array.mem_of_getElem? ht
        have hs : t ∈ [3, 4, 5, 9, 25] := (show ∀ u ∈ ([25] : List Nat), u ∈ ([3, 4, 5, 9, 25] : List Nat) by decide) t hm
        exact (show Tryz.prog.wantsStandIn t = false by simpa using List.all_eq_true.1 Zfw t hs)⟩)
    rivalBack_goes
#print axioms rivalBack_card
end Go.Proofs.YtignaaddghcanaaGreatDoor
