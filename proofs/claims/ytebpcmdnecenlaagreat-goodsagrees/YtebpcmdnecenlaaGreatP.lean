/-
  GoodsAgrees: for every input the law's function returns true, on every schedule, and each argument reads behind the call as it read before.
  Conditions: none beyond the given row's own (what comes in can be read as data of its type).
-/
import Derived.Test.YtebpcmdnecenlaaGreatC04
import Derived.Test.YtebpcmdnecenlaaGreatC05
import Derived.Test.YtebpcmdnecenlaaGreatG29
set_option linter.unusedSimpArgs false
set_option linter.unusedVariables false
namespace Go.Proofs.YtebpcmdnecenlaaGreat
open Go.ChangeShapes Go.WideShapes Go.ChangeAt Go.RowKit Go.TM

theorem goodsAgrees_closed : joinedFacts Tryz.prog 7 Tryz.f7 Rows.goodsAgreesSpec Rows.goodsAgreesRow = true :=
  joined_of (by kernel_rfl) Tryz.laidOut Tryz.mapsRowed (by kernel_rfl) (by kernel_rfl) (by kernel_rfl) (by kernel_rfl) Tryz.plainKeys Tryz.stopsHeard Tryz.mayEnter Tryz.liftsFinal Tryz.make (by kernel_rfl) (by kernel_rfl) (by kernel_rfl)
set_option maxRecDepth 100000 in
theorem goodsAgrees_lifted (os : Os) (started : os.Started) (H : Type) (enc : TypeId × Value → H) :
    ReturnsInLeavingWide {} Tryz.checked os 7 .any (Rows.goodsAgreesSpec.pre6 enc Tryz.prog Tryz.f7 Rows.goodsAgreesRow.domain false) (Rows.goodsAgreesSpec.post enc Tryz.prog Tryz.f7 false true false false) := by
  refine returnsInLeavingWide_of_change_sized (C := Tryz.checked) Tryz.own started Tryz.func7
    (ChangeSpec.witness6 (enc := enc) (C := Tryz.checked) false ⟨#[], #[.agg #[.slice Option.none 0 0, .slice Option.none 0 0, .slice Option.none 0 0], .int .i64 0, .slice Option.none 0 0, .slice Option.none 0 0, .int .i64 0], []⟩ 8 (by kernel_rfl) (by kernel_rfl) (by kernel_rfl) (by kernel_rfl)) ?_
  intro W base args ds gs before hval0 hW _ hsz0 _
  have hval : ∀ (j : Nat) t v, Tryz.f7.params[j]? = some t → args[j]? = some v → Value.okWide Tryz.prog W .any base t v := hval0
  have hsz : (DataW.weightsEach Tryz.prog (Tryz.f7.params.toList ++ Rows.goodsAgreesSpec.plain.varTypes Tryz.prog) (ds ++ gs)).all (· ≤ reachBytes) = true := hsz0
  clear hval0 hsz0
  have hW' := hW
  obtain ⟨p, q, hA0, hV, rfl, _, _⟩ := hW
  have hA : DataW.TrodAll enc Tryz.prog W 0 (fun _ => true) true Tryz.f7.params.toList args.toList ds p := hA0
  obtain ⟨rfl, rfl⟩ := trodVars_none hV
  rw [List.append_nil] at hsz
  rw [Tryz.params7] at hA hval hsz
  obtain ⟨v0, vs0, d0, ds0, p0, q0, hargs, rfl, rfl, h0, r0⟩ := trodAll_cons hA
  obtain ⟨v1, vs1, d1, ds1, p1, q1, rfl, rfl, rfl, h1, r1⟩ := trodAll_cons r0
  obtain ⟨v2, vs2, d2, ds2, p2, q2, rfl, rfl, rfl, h2, r2⟩ := trodAll_cons r1
  obtain ⟨v3, vs3, d3, ds3, p3, q3, rfl, rfl, rfl, h3, r3⟩ := trodAll_cons r2
  obtain ⟨v4, vs4, d4, ds4, p4, q4, rfl, rfl, rfl, h4, r4⟩ := trodAll_cons r3
  obtain ⟨rfl, rfl, rfl⟩ := trodAll_nil r4
  obtain rfl : args = #[v0, v1, v2, v3, v4] := by cases args; simp_all
  obtain ⟨c0, rfl, -⟩ := okWide_struct Tryz.underlying26 (hval 0 26 v0 rfl rfl)
  obtain ⟨f0, h0⟩ := h0
  obtain ⟨th, t, hc0, ht⟩ := tr_tab (W := W) h0 (Sz.arg hsz (i := 0) rfl rfl)
  have hc0 : Value.agg c0 = th.v := hc0
  obtain ⟨n1, rfl⟩ := okWide_int Tryz.underlying3 (hval 1 3 v1 rfl rfl)
  obtain ⟨la2, ll2, lc2, rfl⟩ := okWide_slice Tryz.underlying27 (hval 2 27 v2 rfl rfl)
  obtain ⟨f2, h2⟩ := h2
  obtain ⟨a2, len2, cap2, l2, e2, hl2, hlen2, hx2⟩ := tr_intsC (W := W) h2 (Sz.arg hsz (i := 2) rfl rfl)
  obtain ⟨la3, ll3, lc3, rfl⟩ := okWide_slice Tryz.underlying27 (hval 3 27 v3 rfl rfl)
  obtain ⟨f3, h3⟩ := h3
  obtain ⟨a3, len3, cap3, l3, e3, hl3, hlen3, hx3⟩ := tr_intsC (W := W) h3 (Sz.arg hsz (i := 3) rfl rfl)
  obtain ⟨n4, rfl⟩ := okWide_int Tryz.underlying3 (hval 4 3 v4 rfl rfl)
  refine law_runs (N := 2) (t := 164) Tryz.laidOut (by kernel_rfl) rfl hW' rfl Tryz.underlying4 rfl rfl rfl ?_
  rw [hc0, e2, e3]
  exact Tryz.goodsAgrees_top (σ := View.all W) rfl th t ht n1 a2 len2 cap2 l2 hl2 hlen2 hx2 a3 len3 cap3 l3 hl3 hlen3 hx3 n4

theorem goodsAgrees_holds : Rows.GoodsAgreesSaid :=
  OpenClaim.holds_of_wide_leaving 7 Tryz.f7 rfl rfl rfl rfl rfl rfl rfl ⟨rfl, rfl, rfl, rfl, rfl⟩ rfl rfl rfl rfl rfl (by kernel_rfl) Tryz.func7 goodsAgrees_closed
    (of_decide_eq_true (by kernel_rfl)) (by unfold Func.isWrapper; first | (rw [if_pos (by decide +kernel)]; kernel_rfl) | (rw [if_neg (by decide +kernel)]; exact ⟨rfl, rfl⟩))
    (fun os started H enc _ => goodsAgrees_lifted os started H enc)
#print axioms goodsAgrees_holds
end Go.Proofs.YtebpcmdnecenlaaGreat
