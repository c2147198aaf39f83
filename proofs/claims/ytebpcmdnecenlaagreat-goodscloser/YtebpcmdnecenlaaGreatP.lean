/-
  GoodsCloser: for every input the law's function returns true, on every schedule, and each argument reads behind the call as it read before.
  Conditions: none beyond the given row's own (what comes in can be read as data of its type).
-/
import Derived.Test.YtebpcmdnecenlaaGreatC03
import Derived.Test.YtebpcmdnecenlaaGreatH48
import Derived.Test.YtebpcmdnecenlaaGreatH47
set_option linter.unusedSimpArgs false
set_option linter.unusedVariables false
namespace Go.Proofs.YtebpcmdnecenlaaGreat
open Go.ChangeShapes Go.WideShapes Go.ChangeAt Go.RowKit Go.TM

theorem goodsCloser_closed : joinedFacts Tryz.prog 17 Tryz.f17 Rows.goodsCloserSpec Rows.goodsCloserRow = true :=
  joined_of (by kernel_rfl) Tryz.laidOut Tryz.mapsRowed (by kernel_rfl) (by kernel_rfl) (by kernel_rfl) (by kernel_rfl) Tryz.plainKeys Tryz.stopsHeard Tryz.mayEnter Tryz.liftsFinal Tryz.make (by kernel_rfl) (by kernel_rfl) (by kernel_rfl)
set_option maxRecDepth 100000 in
theorem goodsCloser_lifted (os : Os) (started : os.Started) (H : Type) (enc : TypeId × Value → H) :
    ReturnsInLeavingWide {} Tryz.checked os 17 .any (Rows.goodsCloserSpec.pre6 enc Tryz.prog Tryz.f17 Rows.goodsCloserRow.domain false) (Rows.goodsCloserSpec.post enc Tryz.prog Tryz.f17 false true false false) := by
  refine returnsInLeavingWide_of_change_sized (C := Tryz.checked) Tryz.own started Tryz.func17
    (ChangeSpec.witness6 (enc := enc) (C := Tryz.checked) false ⟨#[], #[.agg #[.slice Option.none 0 0, .slice Option.none 0 0, .slice Option.none 0 0], .int .u8 0, .int .u8 0, .int .u8 0, .int .u8 0, .int .u8 0], []⟩ 8 (by kernel_rfl) (by kernel_rfl) (by kernel_rfl) (by kernel_rfl)) ?_
  intro W base args ds gs before hval0 hW _ hsz0 _
  have hval : ∀ (j : Nat) t v, Tryz.f17.params[j]? = some t → args[j]? = some v → Value.okWide Tryz.prog W .any base t v := hval0
  have hsz : (DataW.weightsEach Tryz.prog (Tryz.f17.params.toList ++ Rows.goodsCloserSpec.plain.varTypes Tryz.prog) (ds ++ gs)).all (· ≤ reachBytes) = true := hsz0
  clear hval0 hsz0
  have hW' := hW
  obtain ⟨p, q, hA0, hV, rfl, _, _⟩ := hW
  have hA : DataW.TrodAll enc Tryz.prog W 0 (fun _ => true) true Tryz.f17.params.toList args.toList ds p := hA0
  obtain ⟨rfl, rfl⟩ := trodVars_none hV
  rw [List.append_nil] at hsz
  rw [Tryz.params17] at hA hval hsz
  obtain ⟨v0, vs0, d0, ds0, p0, q0, hargs, rfl, rfl, h0, r0⟩ := trodAll_cons hA
  obtain ⟨v1, vs1, d1, ds1, p1, q1, rfl, rfl, rfl, h1, r1⟩ := trodAll_cons r0
  obtain ⟨v2, vs2, d2, ds2, p2, q2, rfl, rfl, rfl, h2, r2⟩ := trodAll_cons r1
  obtain ⟨v3, vs3, d3, ds3, p3, q3, rfl, rfl, rfl, h3, r3⟩ := trodAll_cons r2
  obtain ⟨v4, vs4, d4, ds4, p4, q4, rfl, rfl, rfl, h4, r4⟩ := trodAll_cons r3
  obtain ⟨v5, vs5, d5, ds5, p5, q5, rfl, rfl, rfl, h5, r5⟩ := trodAll_cons r4
  obtain ⟨rfl, rfl, rfl⟩ := trodAll_nil r5
  obtain rfl : args = #[v0, v1, v2, v3, v4, v5] := by cases args; simp_all
  obtain ⟨c0, rfl, -⟩ := okWide_struct Tryz.underlying26 (hval 0 26 v0 rfl rfl)
  obtain ⟨f0, h0⟩ := h0
  obtain ⟨th, t, hc0, ht⟩ := tr_tab (W := W) h0 (Sz.arg hsz (i := 0) rfl rfl)
  have hc0 : Value.agg c0 = th.v := hc0
  obtain ⟨n1, rfl⟩ := okWide_int Tryz.underlying5 (hval 1 5 v1 rfl rfl)
  obtain ⟨g1, h1⟩ := h1
  obtain ⟨u1, e1, hu1⟩ := tr_u8 (W := W) h1
  obtain ⟨n2, rfl⟩ := okWide_int Tryz.underlying5 (hval 2 5 v2 rfl rfl)
  obtain ⟨g2, h2⟩ := h2
  obtain ⟨u2, e2, hu2⟩ := tr_u8 (W := W) h2
  obtain ⟨n3, rfl⟩ := okWide_int Tryz.underlying5 (hval 3 5 v3 rfl rfl)
  obtain ⟨g3, h3⟩ := h3
  obtain ⟨u3, e3, hu3⟩ := tr_u8 (W := W) h3
  obtain ⟨n4, rfl⟩ := okWide_int Tryz.underlying5 (hval 4 5 v4 rfl rfl)
  obtain ⟨g4, h4⟩ := h4
  obtain ⟨u4, e4, hu4⟩ := tr_u8 (W := W) h4
  obtain ⟨n5, rfl⟩ := okWide_int Tryz.underlying5 (hval 5 5 v5 rfl rfl)
  obtain ⟨g5, h5⟩ := h5
  obtain ⟨u5, e5, hu5⟩ := tr_u8 (W := W) h5
  refine law_runs (N := 8) (t := 164) Tryz.laidOut (by kernel_rfl) rfl hW' rfl Tryz.underlying4 rfl rfl rfl ?_
  rw [hc0, e1, e2, e3, e4, e5]
  exact Tryz.goodsCloser_top (Z := View.all W) rfl th t ht u1 hu1 u2 hu2 u3 hu3 u4 hu4 u5 hu5

theorem goodsCloser_holds : Rows.GoodsCloserSaid :=
  OpenClaim.holds_of_wide_leaving 17 Tryz.f17 rfl rfl rfl rfl rfl rfl rfl ⟨rfl, rfl, rfl, rfl, rfl⟩ rfl rfl rfl rfl rfl (by kernel_rfl) Tryz.func17 goodsCloser_closed
    (of_decide_eq_true (by kernel_rfl)) (by unfold Func.isWrapper; first | (rw [if_pos (by decide +kernel)]; kernel_rfl) | (rw [if_neg (by decide +kernel)]; exact ⟨rfl, rfl⟩))
    (fun os started H enc _ => goodsCloser_lifted os started H enc)
#print axioms goodsCloser_holds
end Go.Proofs.YtebpcmdnecenlaaGreat
