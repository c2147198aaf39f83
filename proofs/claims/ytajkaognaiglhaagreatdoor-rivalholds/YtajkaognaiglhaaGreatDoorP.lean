/-
  RivalHolds: for every input the law's function returns true, on every schedule, and each argument reads behind the call as it read before; the card, tied.
  Conditions: none beyond the given row's own (what comes in can be read as data of its type; the listed table is as the program's text lays it).
-/
import Derived.Test.YtajkaognaiglhaaGreatDoorC06
import Derived.Test.YtajkaognaiglhaaGreatDoorB30
import Derived.Test.YtajkaognaiglhaaGreatDoorB07
set_option linter.all false
namespace Go.Proofs.YtajkaognaiglhaaGreatDoor
open Go.ChangeShapes Go.WideShapes Go.ChangeAt Go.RowKit Go.TM

theorem rivalHolds_closed : joinedFacts Tryz.prog 4 Tryz.f4 Rows.rivalHoldsSpec Rows.rivalHoldsRow = true :=
  Zci (by kernel_rfl) Q8v Q59 (by kernel_rfl) (by kernel_rfl) (by kernel_rfl) (by kernel_rfl) Q6a Q4a Q8l Q38 Zcg (by kernel_rfl) (by kernel_rfl) (by kernel_rfl)
set_option maxRecDepth 100000 in
theorem rivalHolds_lifted (os : Os) (started : os.Started) (H : Type) (enc : TypeId × Value → H) (F : Stop.Interp) :
    ReturnsInLeavingWide { calm := true } Tryz.checked os 4 .any (fun w args => (Rows.rivalHoldsSpec.pre enc Tryz.prog Tryz.f4 Rows.rivalHoldsRow.domain false w args ∧ laidMetH Tryz.prog D9 w) ∧ sizedMet enc Tryz.prog Tryz.f4 (OpenSpec.ofChange Rows.rivalHoldsSpec) false w args) ((OpenSpec.ofChange Rows.rivalHoldsSpec).postWith enc Tryz.prog Tryz.f4 F (outsideKept [.timePasses]) false true false) := by
  refine Za5 (C := Tryz.checked) (X := fun w => laidMetH Tryz.prog D9 w) (fun _ _ hh h => h.of_heap hh) Zct started Tryz.func4
    (Zar (enc := enc) (C := Tryz.checked) (os := os) (X := fun w => laidMetH Tryz.prog D9 w) (World.doorLaid Tryz.prog 200 os) #[.agg #[.slice Option.none 0 0, .slice Option.none 0 0], .int .u8 0, .bool false, .slice Option.none 0 0] 8 rfl (World.shaped_of_RefB (by kernel_rfl) (by kernel_rfl)) (by kernel_rfl) (by kernel_rfl) (by kernel_rfl) (Q8k os _)) ?_
  intro W base args ds gs before hval0 hW hsz0 hL
  have hchk := Zaz hL
  have hval : ∀ (j : Nat) t v, Tryz.f4.params[j]? = some t → args[j]? = some v → Value.okWide Tryz.prog W .any base t v := hval0
  have hsz : (DataW.weightsEach Tryz.prog (Tryz.f4.params.toList ++ Rows.rivalHoldsSpec.plain.varTypes Tryz.prog) (ds ++ gs)).all (· ≤ reachBytes) = true := hsz0
  clear hval0 hsz0
  have hW' := hW
  obtain ⟨p, q, hA0, hV, rfl, _, _⟩ := hW
  have hA : DataW.TrodAll enc Tryz.prog W 0 (fun _ => true) true Tryz.f4.params.toList args.toList ds p := hA0
  obtain ⟨rfl, rfl⟩ := trodVars_none hV
  rw [List.append_nil] at hsz
  rw [Tryz.params4] at hA hval hsz
  obtain ⟨v0, vs0, d0, ds0, p0, q0, hargs, rfl, rfl, h0, r0⟩ := trodAll_cons hA
  obtain ⟨v1, vs1, d1, ds1, p1, q1, rfl, rfl, rfl, h1, r1⟩ := trodAll_cons r0
  obtain ⟨v2, vs2, d2, ds2, p2, q2, rfl, rfl, rfl, h2, r2⟩ := trodAll_cons r1
  obtain ⟨v3, vs3, d3, ds3, p3, q3, rfl, rfl, rfl, h3, r3⟩ := trodAll_cons r2
  obtain ⟨rfl, rfl, rfl⟩ := trodAll_nil r3
  obtain rfl : args = #[v0, v1, v2, v3] := by cases args; simp_all
  obtain ⟨c0, rfl, -⟩ := okWide_struct Tryz.underlying25 (hval 0 25 v0 rfl rfl)
  obtain ⟨f0, h0⟩ := h0
  obtain ⟨bh, b, hc0, hb, hr0, hn0, hrc, hcc⟩ := Zdr (W := W) h0 (Sz.arg hsz (i := 0) rfl rfl)
  have hc0 : Value.agg c0 = bh.v := hc0
  obtain ⟨n1, rfl⟩ := okWide_int Tryz.underlying5 (hval 1 5 v1 rfl rfl)
  obtain ⟨g1, h1⟩ := h1
  obtain ⟨u1, e1, hu1⟩ := Zd5 (W := W) h1
  obtain ⟨n2, rfl⟩ := okWide_bool Tryz.underlying4 (hval 2 4 v2 rfl rfl)
  obtain ⟨la3, ll3, lc3, rfl⟩ := okWide_slice Tryz.underlying37 (hval 3 37 v3 rfl rfl)
  obtain ⟨f3, h3⟩ := h3
  obtain ⟨a3, len3, cap3, l3, e3, hl3, hlen3⟩ := Zds (W := W) h3 (Sz.arg hsz (i := 3) rfl rfl)
  refine Zc5 (N := 20) (t := 118) Q8v (by kernel_rfl) rfl hW' rfl Tryz.underlying4 rfl rfl rfl ?_
  rw [hc0, e1, e3]
  exact Zef (U := Qa.all W) rfl hchk bh b hb ⟨hr0, hn0⟩ hrc hcc u1 hu1 n2 a3 len3 cap3 l3 hl3 hlen3

theorem rivalHolds_holds : Rows.RivalHoldsSaid :=
  OpenClaim.holds_of_wide_leaving_time 4 Tryz.f4 rfl rfl rfl rfl rfl rfl rfl ⟨rfl, rfl, rfl, rfl, rfl⟩ rfl rfl rfl rfl rfl (by kernel_rfl) Tryz.func4 rivalHolds_closed
    (of_decide_eq_true (by kernel_rfl)) (by unfold Func.isWrapper; first | (rw [if_pos (by decide +kernel)]; kernel_rfl) | (rw [if_neg (by decide +kernel)]; exact ⟨rfl, rfl⟩))
    (fun os started H enc _ F => rivalHolds_lifted os started H enc F)
theorem rivalHolds_wf : Rows.rivalHoldsRow.wfByText (OpenSpec.ofChange Rows.rivalHoldsSpec) = true := by kernel_rfl
theorem rivalHolds_fn : Tryz.prog.funcNamed Rows.rivalHoldsRow.func = some 4 := by kernel_rfl
theorem rivalHolds_goes : true = Rows.rivalHoldsRow.goesBy Tryz.pinned.checked.prog := by kernel_rfl
theorem rivalHolds_card : Rows.RivalHoldsCardSaid :=
  Zck [.funcs] true (true, "76433441f829be6d863b30a6252ee84e16d6e6f53450c9c92ca8f3c5549eee53") false rivalHolds_holds rivalHolds_wf rivalHolds_row_tie rfl ⟨rfl, rfl⟩ Zaw rfl
    (fun f fn hf hfn => by
      obtain rfl : f = 4 := Option.some.inj (rivalHolds_fn.symm.trans hf) |>.symm
      obtain rfl : fn = Tryz.f4 := (Option.some.inj (Tryz.func4.symm.trans hfn)).symm
      exact ⟨Zav, fun j t ht => by
        rw [Tryz.params4] at ht
        have hm : t ∈ [25, 5, 4, 37] := by simpa using Array.mem_of_getElem? ht
        have hs : t ∈ [3, 4, 5, 25, 26, 37, 44] := (show ∀ u ∈ ([25, 5, 4, 37] : List Nat), u ∈ ([3, 4, 5, 25, 26, 37, 44] : List Nat) by decide) t hm
        exact (show Tryz.prog.wantsStandIn t = false by simpa using List.all_eq_true.1 Q39 t hs)⟩)
    rivalHolds_goes
#print axioms rivalHolds_card
end Go.Proofs.YtajkaognaiglhaaGreatDoor
