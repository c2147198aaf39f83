/-
  RivalStays: for every input the law's function returns true, on every schedule, and each argument reads behind the call as it read before; the card, tied.
  Conditions: none beyond the given row's own (what comes in can be read as data of its type; the listed table is as the program's text lays it).
-/
import Derived.Test.YtajkaognaiglhaaGreatDoorC07
import Derived.Test.YtajkaognaiglhaaGreatDoorB07
set_option linter.all false
namespace Go.Proofs.YtajkaognaiglhaaGreatDoor
open Go.ChangeShapes Go.WideShapes Go.ChangeAt Go.RowKit Go.TM

theorem rivalStays_closed : joinedFacts Tryz.prog 3 Tryz.f3 Rows.rivalStaysSpec Rows.rivalStaysRow = true :=
  Zb3 (by kernel_rfl) Q8a Q5p (by kernel_rfl) (by kernel_rfl) (by kernel_rfl) (by kernel_rfl) Q5q Q3p Q7u Q3n Zb0 (by kernel_rfl) (by kernel_rfl) (by kernel_rfl)
set_option maxRecDepth 100000 in
theorem rivalStays_lifted (os : Os) (started : os.Started) (H : Type) (enc : TypeId × Value → H) (F : Stop.Interp) :
    ReturnsInLeavingWide { calm := true } Tryz.checked os 3 .any (fun w args => (Rows.rivalStaysSpec.pre enc Tryz.prog Tryz.f3 Rows.rivalStaysRow.domain false w args ∧ laidMetH Tryz.prog UQ w) ∧ sizedMet enc Tryz.prog Tryz.f3 (OpenSpec.ofChange Rows.rivalStaysSpec) false w args) ((OpenSpec.ofChange Rows.rivalStaysSpec).postWith enc Tryz.prog Tryz.f3 F (outsideKept [.timePasses]) false true false) := by
  refine Zan (C := Tryz.checked) (X := fun w => laidMetH Tryz.prog UQ w) (fun _ _ hh h => h.of_heap hh) Zce started Tryz.func3
    (Q97 (enc := enc) (C := Tryz.checked) (os := os) (X := fun w => laidMetH Tryz.prog UQ w) (World.doorLaid Tryz.prog 200 os) #[.agg #[.slice Option.none 0 0, .slice Option.none 0 0], .int .i64 0, .bool false, .slice Option.none 0 0] 8 rfl (World.shaped_of_RefB (by kernel_rfl) (by kernel_rfl)) (by kernel_rfl) (by kernel_rfl) (by kernel_rfl) (Q7t os _)) ?_
  intro W base args ds gs before hval0 hW hsz0 hL
  have hchk := Zah hL
  have hval : ∀ (j : Nat) t v, Tryz.f3.params[j]? = some t → args[j]? = some v → Value.okWide Tryz.prog W .any base t v := hval0
  have hsz : (DataW.weightsEach Tryz.prog (Tryz.f3.params.toList ++ Rows.rivalStaysSpec.plain.varTypes Tryz.prog) (ds ++ gs)).all (· ≤ reachBytes) = true := hsz0
  clear hval0 hsz0
  have hW' := hW
  obtain ⟨p, q, hA0, hV, rfl, _, _⟩ := hW
  have hA : DataW.TrodAll enc Tryz.prog W 0 (fun _ => true) true Tryz.f3.params.toList args.toList ds p := hA0
  obtain ⟨rfl, rfl⟩ := trodVars_none hV
  rw [List.append_nil] at hsz
  rw [Tryz.params3] at hA hval hsz
  obtain ⟨v0, vs0, d0, ds0, p0, q0, hargs, rfl, rfl, h0, r0⟩ := trodAll_cons hA
  obtain ⟨v1, vs1, d1, ds1, p1, q1, rfl, rfl, rfl, h1, r1⟩ := trodAll_cons r0
  obtain ⟨v2, vs2, d2, ds2, p2, q2, rfl, rfl, rfl, h2, r2⟩ := trodAll_cons r1
  obtain ⟨v3, vs3, d3, ds3, p3, q3, rfl, rfl, rfl, h3, r3⟩ := trodAll_cons r2
  obtain ⟨rfl, rfl, rfl⟩ := trodAll_nil r3
  obtain rfl : args = #[v0, v1, v2, v3] := by cases args; simp_all
  obtain ⟨c0, rfl, -⟩ := okWide_struct Tryz.underlying25 (hval 0 25 v0 rfl rfl)
  obtain ⟨f0, h0⟩ := h0
  obtain ⟨bh, b, hc0, hb, hr0, hn0, hrc, hcc⟩ := Zhq (W := W) h0 (Sz.arg hsz (i := 0) rfl rfl)
  have hc0 : Value.agg c0 = bh.v := hc0
  obtain ⟨n1, rfl⟩ := okWide_int Tryz.underlying3 (hval 1 3 v1 rfl rfl)
  obtain ⟨n2, rfl⟩ := okWide_bool Tryz.underlying4 (hval 2 4 v2 rfl rfl)
  obtain ⟨la3, ll3, lc3, rfl⟩ := okWide_slice Tryz.underlying26 (hval 3 26 v3 rfl rfl)
  obtain ⟨f3, h3⟩ := h3
  obtain ⟨a3, len3, cap3, l3, e3, hl3, hlen3⟩ := Zhr (W := W) h3 (Sz.arg hsz (i := 3) rfl rfl)
  have hcap3 : len3 ≤ cap3 := Zdt (W := W) Zgx (by rw [e3] at h3; exact h3)
  obtain rfl := hl3.1
  refine Zcs (N := 20) (t := 118) Q8a (by kernel_rfl) rfl hW' rfl Tryz.underlying4 rfl rfl rfl ?_
  rw [hc0, e3]
  exact Zgw (U := Qa.all W) rfl hchk bh b hb ⟨hr0, hn0⟩ hrc n1 n2 a3 cap3 l3 hl3 hcap3

theorem rivalStays_holds : Rows.RivalStaysSaid :=
  OpenClaim.holds_of_wide_leaving_time 3 Tryz.f3 rfl rfl rfl rfl rfl rfl rfl ⟨rfl, rfl, rfl, rfl, rfl⟩ rfl rfl rfl rfl rfl (by kernel_rfl) Tryz.func3 rivalStays_closed
    (of_decide_eq_true (by kernel_rfl)) (by unfold Func.isWrapper; first | (rw [if_pos (by decide +kernel)]; kernel_rfl) | (rw [if_neg (by decide +kernel)]; exact ⟨rfl, rfl⟩))
    (fun os started H enc _ F => rivalStays_lifted os started H enc F)
theorem rivalStays_wf : Rows.rivalStaysRow.wfByText (OpenSpec.ofChange Rows.rivalStaysSpec) = true := by kernel_rfl
theorem rivalStays_fn : Tryz.prog.funcNamed Rows.rivalStaysRow.func = some 3 := by kernel_rfl
theorem rivalStays_goes : true = Rows.rivalStaysRow.goesBy Tryz.pinned.checked.prog := by kernel_rfl
theorem rivalStays_card : Rows.RivalStaysCardSaid :=
  Zb5 [.funcs] true (true, "76433441f829be6d863b30a6252ee84e16d6e6f53450c9c92ca8f3c5549eee53") false rivalStays_holds rivalStays_wf rivalStays_row_tie rfl ⟨rfl, rfl⟩ Zae rfl
    (fun f fn hf hfn => by
      obtain rfl : f = 3 := Option.some.inj (rivalStays_fn.symm.trans hf) |>.symm
      obtain rfl : fn = Tryz.f3 := (Option.some.inj (Tryz.func3.symm.trans hfn)).symm
      exact ⟨Zad, fun j t ht => by
        rw [Tryz.params3] at ht
        have hm : t ∈ [25, 3, 4, 26] := by simpa using Array.mem_of_getElem? ht
        have hs : t ∈ [3, 4, 5, 25, 26, 37, 44] := (show ∀ u ∈ ([25, 3, 4, 26] : List Nat), u ∈ ([3, 4, 5, 25, 26, 37, 44] : List Nat) by decide) t hm
        exact (show Tryz.prog.wantsStandIn t = false by simpa using List.all_eq_true.1 Q3o t hs)⟩)
    rivalStays_goes
#print axioms rivalStays_card
end Go.Proofs.YtajkaognaiglhaaGreatDoor
