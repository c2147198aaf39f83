/-
  RivalOrders: for every input the law's function returns true, on every schedule, and each argument reads behind the call as it read before; the card, tied.
  Conditions: none beyond the given row's own (what comes in can be read as data of its type; the listed table is as the program's text lays it).
-/
import Derived.Test.YtnpfcnfhfkflhaaGreatDoorC03
import Derived.Test.YtnpfcnfhfkflhaaGreatDoorB44
import Derived.Test.YtnpfcnfhfkflhaaGreatDoorB09
set_option linter.all false
namespace Go.Proofs.YtnpfcnfhfkflhaaGreatDoor
open Go.ChangeShapes Go.WideShapes Go.ChangeAt Go.RowKit Go.TM

theorem rivalOrders_closed : joinedFacts Tryz.prog 3 Tryz.f3 Rows.rivalOrdersSpec Rows.rivalOrdersRow = true :=
  Zoi (by kernel_rfl) Zla Zik (by kernel_rfl) (by kernel_rfl) (by kernel_rfl) (by kernel_rfl) Zin Zg7 Zk7 Zg5 Zog (by kernel_rfl) (by kernel_rfl) (by kernel_rfl)
set_option maxRecDepth 100000 in
theorem rivalOrders_lifted (os : Os) (started : os.Started) (H : Type) (enc : TypeId × Value → H) (F : Stop.Interp) :
    ReturnsInLeavingWide { calm := true } Tryz.checked os 3 .any (fun w args => (Rows.rivalOrdersSpec.pre enc Tryz.prog Tryz.f3 Rows.rivalOrdersRow.domain false w args ∧ laidMetH Tryz.prog E9 w) ∧ sizedMet enc Tryz.prog Tryz.f3 (OpenSpec.ofChange Rows.rivalOrdersSpec) false w args) ((OpenSpec.ofChange Rows.rivalOrdersSpec).postWith enc Tryz.prog Tryz.f3 F (outsideKept [.timePasses]) false true false) := by
  refine Zne (C := Tryz.checked) (X := fun w => laidMetH Tryz.prog E9 w) (fun _ _ hh h => h.of_heap hh) Zou started Tryz.func3
    (Zmx (enc := enc) (C := Tryz.checked) (os := os) (X := fun w => laidMetH Tryz.prog E9 w) (World.doorLaid Tryz.prog 200 os) #[.agg #[.slice Option.none 0 0, .slice Option.none 0 0], .slice Option.none 0 0] 8 rfl (World.shaped_of_RefB (by kernel_rfl) (by kernel_rfl)) (by kernel_rfl) (by kernel_rfl) (by kernel_rfl) (Zk6 os _)) ?_
  intro W base args ds gs before hval0 hW hsz0 hL
  have hchk := Zm9 hL
  have hval : ∀ (j : Nat) t v, Tryz.f3.params[j]? = some t → args[j]? = some v → Value.okWide Tryz.prog W .any base t v := hval0
  have hsz : (DataW.weightsEach Tryz.prog (Tryz.f3.params.toList ++ Rows.rivalOrdersSpec.plain.varTypes Tryz.prog) (ds ++ gs)).all (· ≤ reachBytes) = true := hsz0
  clear hval0 hsz0
  have hW' := hW
  obtain ⟨p, q, hA0, hV, rfl, _, _⟩ := hW
  have hA : DataW.TrodAll enc Tryz.prog W 0 (fun _ => true) true Tryz.f3.params.toList args.toList ds p := hA0
  obtain ⟨rfl, rfl⟩ := trodVars_none hV
  rw [List.append_nil] at hsz
  rw [Tryz.params3] at hA hval hsz
  obtain ⟨v0, vs0, d0, ds0, p0, q0, hargs, rfl, rfl, h0, r0⟩ := trodAll_cons hA
  obtain ⟨v1, vs1, d1, ds1, p1, q1, rfl, rfl, rfl, h1, r1⟩ := trodAll_cons r0
  obtain ⟨rfl, rfl, rfl⟩ := trodAll_nil r1
  obtain rfl : args = #[v0, v1] := by cases args; simp_all
  obtain ⟨c0, rfl, -⟩ := okWide_struct Tryz.underlying25 (hval 0 25 v0 rfl rfl)
  obtain ⟨f0, h0⟩ := h0
  obtain ⟨bh, b, hc0, hb, hr0, hn0, hrc, hcc⟩ := Zpn (W := W) h0 (Sz.arg hsz (i := 0) rfl rfl)
  have hc0 : Value.agg c0 = bh.v := hc0
  obtain ⟨la1, ll1, lc1, rfl⟩ := okWide_slice Tryz.underlying26 (hval 1 26 v1 rfl rfl)
  obtain ⟨f1, h1⟩ := h1
  obtain ⟨a1, len1, cap1, l1, e1, hl1, hlen1⟩ := DA (W := W) h1 (Sz.arg hsz (i := 1) rfl rfl)
  have hcap1 : len1 ≤ cap1 := EO (W := W) If (by rw [e1] at h1; exact h1)
  refine Zo4 (N := 6) (t := 209) Zla (by kernel_rfl) rfl hW' rfl Tryz.underlying4 rfl rfl rfl ?_
  rw [hc0, e1]
  exact Q0j (U := Qa.all W) rfl hchk bh b hb ⟨hr0, hn0⟩ hrc hcc a1 len1 cap1 l1 hl1 hlen1 hcap1

theorem rivalOrders_holds : Rows.RivalOrdersSaid :=
  OpenClaim.holds_of_wide_leaving_time 3 Tryz.f3 rfl rfl rfl rfl rfl rfl rfl ⟨rfl, rfl, rfl, rfl, rfl⟩ rfl rfl rfl rfl rfl (by kernel_rfl) Tryz.func3 rivalOrders_closed
    (of_decide_eq_true (by kernel_rfl)) (by unfold Func.isWrapper; first | (rw [if_pos (by decide +kernel)]; kernel_rfl) | (rw [if_neg (by decide +kernel)]; exact ⟨rfl, rfl⟩))
    (fun os started H enc _ F => rivalOrders_lifted os started H enc F)
theorem rivalOrders_wf : Rows.rivalOrdersRow.wfByText (OpenSpec.ofChange Rows.rivalOrdersSpec) = true := by kernel_rfl
theorem rivalOrders_fn : Tryz.prog.funcNamed Rows.rivalOrdersRow.func = some 3 := by kernel_rfl
theorem rivalOrders_goes : true = Rows.rivalOrdersRow.goesBy Tryz.pinned.checked.prog := by kernel_rfl
theorem rivalOrders_card : Rows.RivalOrdersCardSaid :=
  Zoj [.funcs] true (true, "375651d122c04421ce498e33069ddb9fbc3642b8e91d60a78b8c96a8de8d53b0") true rivalOrders_holds rivalOrders_wf rivalOrders_row_tie rfl ⟨rfl, rfl⟩ Zm4 rfl
    (fun f fn hf hfn => by
      obtain rfl : f = 3 := Option.some.inj (rivalOrders_fn.symm.trans hf) |>.symm
      obtain rfl : fn = Tryz.f3 := (Option.some.inj (Tryz.func3.symm.trans hfn)).symm
      exact ⟨Zm3, fun j t ht => by
        rw [Tryz.params3] at ht
        have hm : t ∈ [25, 26] := by simpa using Array.mem_of_getElem? ht
        have hs : t ∈ [3, 4, 5, 25, 26, 44, 68] := (show ∀ u ∈ ([25, 26] : List Nat), u ∈ ([3, 4, 5, 25, 26, 44, 68] : List Nat) by decide) t hm
        exact (show Tryz.prog.wantsStandIn t = false by simpa using List.all_eq_true.1 Zg6 t hs)⟩)
    rivalOrders_goes
#print axioms rivalOrders_card
end Go.Proofs.YtnpfcnfhfkflhaaGreatDoor
