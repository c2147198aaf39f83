/-
  RivalAgreed: for every input the law's function returns true, on every schedule, and each argument reads behind the call as it read before; the card, tied.
  Conditions: none beyond the given row's own (what comes in can be read as data of its type; the listed table is as the program's text lays it).
-/
import Derived.Test.YtnjljnhoaafkiaaGreatDoorC09
import Derived.Test.YtnjljnhoaafkiaaGreatDoorB42
import Derived.Test.YtnjljnhoaafkiaaGreatDoorB08
set_option linter.all false
namespace Go.Proofs.YtnjljnhoaafkiaaGreatDoor
open Go.ChangeShapes Go.WideShapes Go.ChangeAt Go.RowKit Go.TM

theorem rivalAgreed_closed : joinedFacts Tryz.prog 4 Tryz.f4 Rows.rivalAgreedSpec Rows.rivalAgreedRow = true :=
  Zli (by kernel_rfl) Zh4 Zfh (by kernel_rfl) (by kernel_rfl) (by kernel_rfl) (by kernel_rfl) Zfk Ze6 Zhz Ze4 Zlg (by kernel_rfl) (by kernel_rfl) (by kernel_rfl)
set_option maxRecDepth 100000 in
theorem rivalAgreed_lifted (os : Os) (started : os.Started) (H : Type) (enc : TypeId × Value → H) (F : Stop.Interp) :
    ReturnsInLeavingWide { calm := true } Tryz.checked os 4 .any (fun w args => (Rows.rivalAgreedSpec.pre enc Tryz.prog Tryz.f4 Rows.rivalAgreedRow.domain false w args ∧ laidMetH Tryz.prog I0 w) ∧ sizedMet enc Tryz.prog Tryz.f4 (OpenSpec.ofChange Rows.rivalAgreedSpec) false w args) ((OpenSpec.ofChange Rows.rivalAgreedSpec).postWith enc Tryz.prog Tryz.f4 F (outsideKept [.timePasses]) false true false) := by
  refine Zj7 (C := Tryz.checked) (X := fun w => laidMetH Tryz.prog I0 w) (fun _ _ hh h => h.of_heap hh) Zlw started Tryz.func4
    (Zjs (enc := enc) (C := Tryz.checked) (os := os) (X := fun w => laidMetH Tryz.prog I0 w) (World.doorLaid Tryz.prog 200 os) #[.agg #[.slice Option.none 0 0, .slice Option.none 0 0, .slice Option.none 0 0], .int .u8 0, .int .u8 0, .int .u8 0, .int .u8 0] 8 rfl (World.shaped_of_RefB (by kernel_rfl) (by kernel_rfl)) (by kernel_rfl) (by kernel_rfl) (by kernel_rfl) (Zhx os _)) ?_
  intro W base args ds gs before hval0 hW hsz0 hL
  have hchk := Zj2 hL
  have hval : ∀ (j : Nat) t v, Tryz.f4.params[j]? = some t → args[j]? = some v → Value.okWide Tryz.prog W .any base t v := hval0
  have hsz : (DataW.weightsEach Tryz.prog (Tryz.f4.params.toList ++ Rows.rivalAgreedSpec.plain.varTypes Tryz.prog) (ds ++ gs)).all (· ≤ reachBytes) = true := hsz0
  clear hval0 hsz0
  have hW' := hW
  obtain ⟨p, q, hA0, hV, rfl, _, _⟩ := hW
  have hA : DataW.TrodAll enc Tryz.prog W 0 (fun _ => true) true Tryz.f4.params.toList args.toList ds p := hA0
  obtain ⟨rfl, rfl⟩ := trodVars_none hV
  rw [List.append_nil] at hsz
  rw [Tryz.params4] at hA hval hsz
  obtain ⟨v0, vs0, d0, ds0, p0, q0, hargs, rfl, rfl, h0, r0⟩ := trodAll_cons hA
  obtain ⟨v1, vs1, d1, ds1, p1, q1, rfl, rfl, rfl, h1, r1⟩ := trodAll_cons r0
  obtain ⟨v2, vs2, d2, ds2, p2, q2, rfl, rfl, rfl, h2, r2⟩ := trodAll_cons r1
  obtain ⟨v3, vs3, d3, ds3, p3, q3, rfl, rfl, rfl, h3, r3⟩ := trodAll_cons r2
  obtain ⟨v4, vs4, d4, ds4, p4, q4, rfl, rfl, rfl, h4, r4⟩ := trodAll_cons r3
  obtain ⟨rfl, rfl, rfl⟩ := trodAll_nil r4
  obtain rfl : args = #[v0, v1, v2, v3, v4] := by cases args; simp_all
  obtain ⟨c0, rfl, -⟩ := okWide_struct Tryz.underlying26 (hval 0 26 v0 rfl rfl)
  obtain ⟨f0, h0⟩ := h0
  obtain ⟨th, tb, hc0, hx⟩ := Znc (W := W) h0 (Sz.arg hsz (i := 0) rfl rfl)
  have hc0 : Value.agg c0 = th.v := hc0
  obtain ⟨n1, rfl⟩ := okWide_int Tryz.underlying5 (hval 1 5 v1 rfl rfl)
  obtain ⟨g1, h1⟩ := h1
  obtain ⟨u1, e1, hu1⟩ := Znh (W := W) h1
  obtain ⟨n2, rfl⟩ := okWide_int Tryz.underlying5 (hval 2 5 v2 rfl rfl)
  obtain ⟨g2, h2⟩ := h2
  obtain ⟨u2, e2, hu2⟩ := Znh (W := W) h2
  obtain ⟨n3, rfl⟩ := okWide_int Tryz.underlying5 (hval 3 5 v3 rfl rfl)
  obtain ⟨g3, h3⟩ := h3
  obtain ⟨u3, e3, hu3⟩ := Znh (W := W) h3
  obtain ⟨n4, rfl⟩ := okWide_int Tryz.underlying5 (hval 4 5 v4 rfl rfl)
  obtain ⟨g4, h4⟩ := h4
  obtain ⟨u4, e4, hu4⟩ := Znh (W := W) h4
  refine Zl8 (N := 6) (t := 176) Zh4 (by kernel_rfl) rfl hW' rfl Tryz.underlying4 rfl rfl rfl ?_
  rw [hc0, e1, e2, e3, e4]
  exact Ztz (U := Qa.all W) rfl hchk th tb hx u1 hu1 u2 hu2 u3 hu3 u4 hu4 

theorem rivalAgreed_holds : Rows.RivalAgreedSaid :=
  OpenClaim.holds_of_wide_leaving_time 4 Tryz.f4 rfl rfl rfl rfl rfl rfl rfl ⟨rfl, rfl, rfl, rfl, rfl⟩ rfl rfl rfl rfl rfl (by kernel_rfl) Tryz.func4 rivalAgreed_closed
    (of_decide_eq_true (by kernel_rfl)) (by unfold Func.isWrapper; first | (rw [if_pos (by decide +kernel)]; kernel_rfl) | (rw [if_neg (by decide +kernel)]; exact ⟨rfl, rfl⟩))
    (fun os started H enc _ F => rivalAgreed_lifted os started H enc F)
theorem rivalAgreed_wf : Rows.rivalAgreedRow.wfByText (OpenSpec.ofChange Rows.rivalAgreedSpec) = true := by kernel_rfl
theorem rivalAgreed_fn : Tryz.prog.funcNamed Rows.rivalAgreedRow.func = some 4 := by kernel_rfl
theorem rivalAgreed_goes : true = Rows.rivalAgreedRow.goesBy Tryz.pinned.checked.prog := by kernel_rfl
theorem rivalAgreed_card : Rows.RivalAgreedCardSaid :=
  Zll [.funcs] true (true, "d6efb37b39f05be48a751ce7beb1e56c658b245522e0fb1db98562bbb72c1793") false rivalAgreed_holds rivalAgreed_wf rivalAgreed_row_tie rfl ⟨rfl, rfl⟩ Zjy rfl
    (fun f fn hf hfn => by
      obtain rfl : f = 4 := Option.some.inj (rivalAgreed_fn.symm.trans hf) |>.symm
      obtain rfl : fn = Tryz.f4 := (Option.some.inj (Tryz.func4.symm.trans hfn)).symm
      exact ⟨Zjx, fun j t ht => by
        rw [Tryz.params4] at ht
        have hm : t ∈ [26, 5, 5, 5, 5] := by simpa using Array.mem_of_getElem? ht
        have hs : t ∈ [3, 4, 5, 26, 38] := (show ∀ u ∈ ([26, 5, 5, 5, 5] : List Nat), u ∈ ([3, 4, 5, 26, 38] : List Nat) by decide) t hm
        exact (show Tryz.prog.wantsStandIn t = false by simpa using List.all_eq_true.1 Ze5 t hs)⟩)
    rivalAgreed_goes
#print axioms rivalAgreed_card
end Go.Proofs.YtnjljnhoaafkiaaGreatDoor
