/-
  GoodsProves: for every input the law's function returns true, on every schedule, and each argument reads behind the call as it read before.
  Conditions: none beyond the given row's own (what comes in can be read as data of its type).
-/
import Derived.Test.YtebpcmdnecenlaaGreatC02
import Derived.Test.YtebpcmdnecenlaaGreatC03
import Derived.Test.YtebpcmdnecenlaaGreatE28
set_option linter.unusedSimpArgs false
set_option linter.unusedVariables false
namespace Go.Proofs.YtebpcmdnecenlaaGreat
open Go.ChangeShapes Go.WideShapes Go.ChangeAt Go.RowKit Go.TM

theorem goodsProves_closed : joinedFacts Tryz.prog 21 Tryz.f21 Rows.goodsProvesSpec Rows.goodsProvesRow = true :=
  joined_of (by kernel_rfl) Tryz.laidOut Tryz.mapsRowed (by kernel_rfl) (by kernel_rfl) (by kernel_rfl) (by kernel_rfl) Tryz.plainKeys Tryz.stopsHeard Tryz.mayEnter Tryz.liftsFinal Tryz.make (by kernel_rfl) (by kernel_rfl) (by kernel_rfl)
set_option maxRecDepth 100000 in
theorem goodsProves_lifted (os : Os) (started : os.Started) (H : Type) (enc : TypeId × Value → H) :
    ReturnsInLeavingWide {} Tryz.checked os 21 .any (Rows.goodsProvesSpec.pre6 enc Tryz.prog Tryz.f21 Rows.goodsProvesRow.domain false) (Rows.goodsProvesSpec.post enc Tryz.prog Tryz.f21 false true false false) := by
  refine returnsInLeavingWide_of_change_sized (C := Tryz.checked) Tryz.own started Tryz.func21
    (ChangeSpec.witness6 (enc := enc) (C := Tryz.checked) false ⟨#[], #[.agg #[.slice Option.none 0 0, .slice Option.none 0 0, .slice Option.none 0 0], .int .i64 0, .slice Option.none 0 0, .slice Option.none 0 0, .int .i64 0, .slice Option.none 0 0, .slice Option.none 0 0, .slice Option.none 0 0], []⟩ 8 (by kernel_rfl) (by kernel_rfl) (by kernel_rfl) (by kernel_rfl)) ?_
  intro W base args ds gs before hval0 hW _ hsz0 _
  have hval : ∀ (j : Nat) t v, Tryz.f21.params[j]? = some t → args[j]? = some v → Value.okWide Tryz.prog W .any base t v := hval0
  have hsz : (DataW.weightsEach Tryz.prog (Tryz.f21.params.toList ++ Rows.goodsProvesSpec.plain.varTypes Tryz.prog) (ds ++ gs)).all (· ≤ reachBytes) = true := hsz0
  clear hval0 hsz0
  have hW' := hW
  obtain ⟨p, q, hA0, hV, rfl, _, _⟩ := hW
  have hA : DataW.TrodAll enc Tryz.prog W 0 (fun _ => true) true Tryz.f21.params.toList args.toList ds p := hA0
  obtain ⟨rfl, rfl⟩ := trodVars_none hV
  rw [List.append_nil] at hsz
  rw [Tryz.params21] at hA hval hsz
  obtain ⟨v0, vs0, d0, ds0, p0, q0, hargs, rfl, rfl, h0, r0⟩ := trodAll_cons hA
  obtain ⟨v1, vs1, d1, ds1, p1, q1, rfl, rfl, rfl, h1, r1⟩ := trodAll_cons r0
  obtain ⟨v2, vs2, d2, ds2, p2, q2, rfl, rfl, rfl, h2, r2⟩ := trodAll_cons r1
  obtain ⟨v3, vs3, d3, ds3, p3, q3, rfl, rfl, rfl, h3, r3⟩ := trodAll_cons r2
  obtain ⟨v4, vs4, d4, ds4, p4, q4, rfl, rfl, rfl, h4, r4⟩ := trodAll_cons r3
  obtain ⟨v5, vs5, d5, ds5, p5, q5, rfl, rfl, rfl, h5, r5⟩ := trodAll_cons r4
  obtain ⟨v6, vs6, d6, ds6, p6, q6, rfl, rfl, rfl, h6, r6⟩ := trodAll_cons r5
  obtain ⟨v7, vs7, d7, ds7, p7, q7, rfl, rfl, rfl, h7, r7⟩ := trodAll_cons r6
  obtain ⟨rfl, rfl, rfl⟩ := trodAll_nil r7
  obtain rfl : args = #[v0, v1, v2, v3, v4, v5, v6, v7] := by cases args; simp_all
  obtain ⟨c0, rfl, -⟩ := okWide_struct Tryz.underlying26 (hval 0 26 v0 rfl rfl)
  obtain ⟨f0, h0⟩ := h0
  obtain ⟨th, t, hc0, ht⟩ := tr_tab (W := W) h0 (Sz.arg hsz (i := 0) rfl rfl)
  have hc0 : Value.agg c0 = th.v := hc0
  obtain ⟨n1, rfl⟩ := okWide_int Tryz.underlying3 (hval 1 3 v1 rfl rfl)
  obtain ⟨la2, ll2, lc2, rfl⟩ := okWide_slice Tryz.underlying27 (hval 2 27 v2 rfl rfl)
  obtain ⟨f2, h2⟩ := h2
  obtain ⟨a2, len2, cap2, l2, e2, hl2, hlen2⟩ := tr_ints (W := W) h2 (Sz.arg hsz (i := 2) rfl rfl)
  obtain ⟨la3, ll3, lc3, rfl⟩ := okWide_slice Tryz.underlying27 (hval 3 27 v3 rfl rfl)
  obtain ⟨f3, h3⟩ := h3
  obtain ⟨a3, len3, cap3, l3, e3, hl3, hlen3⟩ := tr_ints (W := W) h3 (Sz.arg hsz (i := 3) rfl rfl)
  obtain ⟨n4, rfl⟩ := okWide_int Tryz.underlying3 (hval 4 3 v4 rfl rfl)
  obtain ⟨la5, ll5, lc5, rfl⟩ := okWide_slice Tryz.underlying27 (hval 5 27 v5 rfl rfl)
  obtain ⟨f5, h5⟩ := h5
  obtain ⟨a5, len5, cap5, l5, e5, hl5, hlen5⟩ := tr_ints (W := W) h5 (Sz.arg hsz (i := 5) rfl rfl)
  obtain ⟨la6, ll6, lc6, rfl⟩ := okWide_slice Tryz.underlying27 (hval 6 27 v6 rfl rfl)
  obtain ⟨f6, h6⟩ := h6
  obtain ⟨a6, len6, cap6, l6, e6, hl6, hlen6⟩ := tr_ints (W := W) h6 (Sz.arg hsz (i := 6) rfl rfl)
  obtain ⟨la7, ll7, lc7, rfl⟩ := okWide_slice Tryz.underlying52 (hval 7 52 v7 rfl rfl)
  obtain ⟨f7, h7⟩ := h7
  obtain ⟨a7, len7, cap7, l7, e7, hl7, hlen7, hx7⟩ := tr_pairsC (W := W) h7 (Sz.arg hsz (i := 7) rfl rfl)
  refine law_runs (N := 2) (t := 164) Tryz.laidOut (by kernel_rfl) rfl hW' rfl Tryz.underlying4 rfl rfl rfl ?_
  rw [hc0, e2, e3, e5, e6, e7]
  exact Tryz.goodsProves_top (σ := View.all W) rfl th t ht n1 a2 len2 cap2 l2 hl2 hlen2 a3 len3 cap3 l3 hl3 hlen3 n4 a5 len5 cap5 l5 hl5 hlen5 a6 len6 cap6 l6 hl6 hlen6 a7 len7 cap7 l7 hl7 hlen7 hx7

theorem goodsProves_holds : Rows.GoodsProvesSaid :=
  OpenClaim.holds_of_wide_leaving 21 Tryz.f21 rfl rfl rfl rfl rfl rfl rfl ⟨rfl, rfl, rfl, rfl, rfl⟩ rfl rfl rfl rfl rfl (by kernel_rfl) Tryz.func21 goodsProves_closed
    (of_decide_eq_true (by kernel_rfl)) (by unfold Func.isWrapper; first | (rw [if_pos (by decide +kernel)]; kernel_rfl) | (rw [if_neg (by decide +kernel)]; exact ⟨rfl, rfl⟩))
    (fun os started H enc _ => goodsProves_lifted os started H enc)
#print axioms goodsProves_holds
end Go.Proofs.YtebpcmdnecenlaaGreat
