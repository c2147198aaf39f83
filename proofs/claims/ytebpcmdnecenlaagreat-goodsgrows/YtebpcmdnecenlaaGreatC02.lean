/- A part of the proof: lemmas that the last text uses. No conditions of its own. -/
import Derived.Test.YtebpcmdnecenlaaGreatB26
import Derived.Test.YtebpcmdnecenlaaGreatC01
import Derived.Test.YtebpcmdnecenlaaGreatB29
import Derived.Test.YtebpcmdnecenlaaGreatB08
import Derived.Test.YtebpcmdnecenlaaGreatB09
import Derived.Test.YtebpcmdnecenlaaGreatB10
import Derived.Test.YtebpcmdnecenlaaGreatC00
set_option linter.unusedSimpArgs false
set_option linter.unusedVariables false
namespace Go.Proofs
open Go.TM
set_option maxRecDepth 100000
attribute [local irreducible] CallsV YieldV rngX
set_option maxHeartbeats 4000000 in
theorem Tryz.goodsGrows_top {σ : View Tk} (htok : σ.tok = ⟨0, .out⟩) (h : TH) (t : Tbl) (ht : TabV σ.frz h t) (ed : Nat) (hed : ed < 256) (bits : Nat) (hbits : bits < 256) (now : Nat) (hnow : now < 256) :
    J (SysG Tryz.prog 164 2) (Fin Tryz.prog fun v σ' => v = .bool true ∧ σ.lg σ') true (Rf (Frame.enter Tryz.prog 14 #[h.v, .int .u8 ed, .int .u8 bits, .int .u8 now] .normal) []) σ := by
  refine top_of (args := [_, _, _, _]) (Q := fun v σ' => v = .bool true ∧ σ.lg σ') Tryz.k14 Tryz.mixed (by kernel_rfl) (by simp) (fun v σ' q => q.2.tok.trans htok) ?_
  (conv => whnf); (repeat (refine ⟨rfl, ?_⟩; conv => whnf))
  intro b σ₁ hle1 hb
  have hb : Blk σ₁ b #[.slice h.ea h.el h.ec, .slice h.ma h.ml h.mc, .slice h.ka h.kl h.kc] := hb
  have ht := ht.lg hle1.frz2
  have stocks : ∀ σ₂ : View Tk, σ.le σ₂ → CallsV (SysG Tryz.prog 164 2) 26 #[] (fun v σ' => v = .bool true ∧ σ' = σ₂) σ₂ := fun σ₂ h => Tryz.stocks_ok (h.tok.trans htok)
  (conv => whnf)
  refine ⟨_, ⟨rfl, hb.rdT fun _ _ h => h⟩, ?_⟩
  (conv => whnf)
  refine ⟨Tryz.k48.any, (Tryz.fit_ok h t (ht.lg frz_self)).mono ?_⟩
  rintro _ σ' ⟨⟨B, rfl, hB⟩, hσ'⟩ -
  obtain rfl := hσ'.symm
  (conv => whnf); (repeat (refine ⟨rfl, ?_⟩; conv => whnf))
  refine cb_split (fun hc => ?_) (fun hc => ?_)
  · (conv => whnf)
    refine ⟨Tryz.k26.any, (stocks _ hle1).mono ?_⟩
    rintro _ σ' ⟨rfl, hσ'⟩ -
    obtain rfl := hσ'.symm
    (conv => whnf); (repeat (refine ⟨rfl, ?_⟩; conv => whnf))
    exact hle1.lg
  have hf : t.flaw = 0 := hB (by simpa using hc)
  have he := Tbl.isEd_of hf ed
  have hA := t.lst_chosen (t.edOf ed) bits
  have nA := hA.len hf
  have hB := t.lst_chosen (t.edOf ed) now
  have nB := hB.len hf
  (conv => whnf)
  refine ⟨_, ⟨rfl, hb.rdT fun _ _ h => h⟩, ?_⟩
  (conv => whnf)
  refine ⟨Tryz.k49.any, (Tryz.edOf_ok h t (ht.lg frz_self) hf ed hed).mono ?_⟩
  rintro _ σ' ⟨rfl, hσ'⟩ -
  obtain rfl := hσ'.symm
  (conv => whnf)
  refine ⟨_, ⟨rfl, hb.rdT fun _ _ h => h⟩, ?_⟩
  (conv => whnf)
  refine ⟨_, ⟨rfl, hb.rdT fun _ _ h => h⟩, ?_⟩
  (conv => whnf)
  refine ⟨fun v σ' => LstV σ' v ((t.chosen (t.edOf ed) bits)), fun v σ₁ σ₂ hv hle => hv.le hle, fun σ' hle _ => ?_, fun v _ => ?_⟩
  · (conv => whnf)
    refine ⟨Tryz.k50.any, (Tryz.chosenL_ok h t (ht.lg hle.frz2) hf (t.edOf ed) he bits hbits).mono ?_⟩
    rintro v σ'' ⟨hv, hle'⟩ -
    exact ⟨σ'', .refl _, hv, hle'⟩
  (conv => whnf)
  intro σ₂ h2 hC
  have hle2 := hle1.trans h2
  have hb := hb.le h2
  have ht := ht.lg h2.frz2
  obtain ⟨-, a1, c1, rfl, i1⟩ := hC
  (conv => whnf)
  refine ⟨Tryz.k50.any, (Tryz.chosenL_ok h t ht hf (t.edOf ed) he now hnow).mono ?_⟩
  rintro _ σ₃ ⟨⟨a2, c2, rfl, i2⟩, h3⟩ -
  have hle3 := hle2.trans h3
  have hb := hb.le h3
  have ht := ht.lg h3.frz2
  have i1 := i1.lg h3.frz2
  by_cases hS : Sub (t.chosen (t.edOf ed) now) (t.chosen (t.edOf ed) bits)
  · have hG := Tbl.growN_none hf he hA hB hS
    (conv => whnf)
    refine ⟨_, ⟨rfl, hb.rdT fun _ _ h => h⟩, ?_⟩
    have kG := Tryz.growL_ok (S := SysG Tryz.prog 164 2) (cap := c1) (cap' := c2) h t ht hf (t.edOf ed) he i1 hA i2 hB
    rw [hG] at kG
    (conv => whnf)
    refine ⟨Tryz.k39.any, (kG).mono ?_⟩
    rintro _ σ' ⟨rfl, hσ'⟩ -
    obtain rfl := hσ'.symm
    (conv => whnf)
    refine ⟨_, ⟨rfl, hb.rdT fun _ _ h => h⟩, ?_⟩
    (conv => whnf)
    intro b46 hf46
    refine put_new hf46 fun σ₄ h4 hb46 => ?_
    have hb46 : Blk σ₄ b46 #[.slice a2 (t.chosen (t.edOf ed) now).length c2, .bool true] := hb46
    have hle4 := hle3.trans h4
    have hb := hb.le h4
    have ht := ht.lg h4.frz2
    have i1 := i1.lg h4.frz2
    have i2 := i2.lg h4.frz2
    (conv => whnf)
    refine ⟨Tryz.k37.any, (Tryz.cutL_ok h t ht hf (t.edOf ed) he i1 hA (CutsV.one (keep := true) hb46.frz i2 (by omega)) (by simp) (fun c hc => by rw [List.mem_singleton.1 hc]; exact hB)).mono ?_⟩
    rintro _ σ₅ ⟨⟨_, rfl, a3, c3, rfl, i3⟩, h5⟩ -
    have hle5 := hle4.trans h5
    have hb := hb.le h5
    have ht := ht.lg h5.frz2
    have i1 := i1.lg h5.frz2
    have i2 := i2.lg h5.frz2
    have n3 := List.length_filter_le (letAll [⟨(t.chosen (t.edOf ed) now), true⟩]) (t.chosen (t.edOf ed) bits)
    (conv => whnf)
    refine ⟨rfl, ?_⟩
    (conv => whnf)
    refine ⟨rfl, ?_⟩
    (conv => whnf)
    refine ⟨rfl, ?_⟩
    (conv => whnf)
    refine ⟨Tryz.k33.any, (Tryz.sameT_ok i3 i2 (by omega) (by omega) ((keep_same hA.asc hB.asc).2 hS)).mono ?_⟩
    rintro _ σ' ⟨rfl, hσ'⟩ -
    obtain rfl := hσ'.symm
    (conv => whnf)
    refine ⟨rfl, ?_⟩
    (conv => whnf)
    refine ⟨Tryz.k26.any, (stocks _ hle5).mono ?_⟩
    rintro _ σ' ⟨rfl, hσ'⟩ -
    obtain rfl := hσ'.symm
    (conv => whnf); (repeat (refine ⟨rfl, ?_⟩; conv => whnf))
    exact hle5.lg
  · obtain ⟨g0, gB, gA, gless⟩ := Tbl.growN_some hf he hA hB hS
    (conv => whnf)
    refine ⟨_, ⟨rfl, hb.rdT fun _ _ h => h⟩, ?_⟩
    have kG := Tryz.growL_ok (S := SysG Tryz.prog 164 2) (cap := c1) (cap' := c2) h t ht hf (t.edOf ed) he i1 hA i2 hB
    generalize t.growN (t.edOf ed) (t.chosen (t.edOf ed) bits) (t.chosen (t.edOf ed) now) = n at kG g0 gB gA gless
    have hn1 : (n == -1) = false := by simp; omega
    (conv => whnf)
    refine ⟨Tryz.k39.any, (kG).mono ?_⟩
    rintro _ σ' ⟨rfl, hσ'⟩ -
    obtain rfl := hσ'.symm
    (conv => whnf)
    refine ⟨_, ⟨rfl, hb.rdT fun _ _ h => h⟩, ?_⟩
    (conv => whnf)
    intro b46 hf46
    refine put_new hf46 fun σ₄ h4 hb46 => ?_
    have hb46 : Blk σ₄ b46 #[.slice a2 (t.chosen (t.edOf ed) now).length c2, .bool true] := hb46
    have hle4 := hle3.trans h4
    have hb := hb.le h4
    have ht := ht.lg h4.frz2
    have i1 := i1.lg h4.frz2
    have i2 := i2.lg h4.frz2
    (conv => whnf)
    refine ⟨Tryz.k37.any, (Tryz.cutL_ok h t ht hf (t.edOf ed) he i1 hA (CutsV.one (keep := true) hb46.frz i2 (by omega)) (by simp) (fun c hc => by rw [List.mem_singleton.1 hc]; exact hB)).mono ?_⟩
    rintro _ σ₅ ⟨⟨_, rfl, a3, c3, rfl, i3⟩, h5⟩ -
    have hle5 := hle4.trans h5
    have hb := hb.le h5
    have ht := ht.lg h5.frz2
    have i1 := i1.lg h5.frz2
    have i2 := i2.lg h5.frz2
    have n3 := List.length_filter_le (letAll [⟨(t.chosen (t.edOf ed) now), true⟩]) (t.chosen (t.edOf ed) bits)
    (conv => whnf)
    refine ⟨rfl, ?_⟩
    (conv => whnf)
    refine ⟨rfl, ?_⟩
    (conv => whnf)
    refine ⟨rfl, ?_⟩
    (conv => whnf)
    refine ⟨Tryz.k33.any, (Tryz.sameF_ok i3 i2 (by omega) (by omega) (fun e => hS ((keep_same hA.asc hB.asc).1 e))).mono ?_⟩
    rintro _ σ' ⟨rfl, hσ'⟩ -
    obtain rfl := hσ'.symm
    (conv => whnf)
    rw [hn1]
    (conv => whnf); (repeat (refine ⟨rfl, ?_⟩; conv => whnf))
    refine cb_split (fun hc => ?_) (fun hc => ?_)
    · rw [hn1] at hc; cases hc
    (conv => whnf)
    refine ⟨Nat, fun i => [(10, .slice a1 (t.chosen (t.edOf ed) bits).length c1), (11, .slice a2 (t.chosen (t.edOf ed) now).length c2), (12, .int .i64 n), (16, .int .i64 i)], fun i σ' => σ' = σ₅ ∧ i ≤ (t.chosen (t.edOf ed) now).length, fun i => (t.chosen (t.edOf ed) now).length - i, 0, ⟨rfl, rfl, rfl, rfl, trivial⟩, ⟨rfl, by omega⟩, ?_⟩
    rintro i f σ' ⟨hσ', hi⟩
    obtain rfl := hσ'.symm
    (conv => whnf); (repeat (refine ⟨rfl, ?_⟩; conv => whnf))
    refine cb_split (fun hc => ?_) (fun hc => ?_)
    · have hlt : i < (t.chosen (t.edOf ed) now).length := by simpa using hc
      obtain ⟨ad, x, hx, rfl, hsp, hs⟩ := (i2.lg frz_self).at hlt
      have hin : InR (i + 1) := by unfold InR; omega
      (conv => whnf)
      refine ⟨ad, i, ⟨rfl, rfl, hlt⟩, ?_⟩
      (conv => whnf)
      refine ⟨_, hs, ?_⟩
      (conv => whnf); (repeat (refine ⟨rfl, ?_⟩; conv => whnf))
      refine gb_split (fun hc => ?_) (fun hc => ?_)
      · have hxn : x < n := of_decide_eq_true hc
        (conv => whnf)
        refine ⟨ad, i, ⟨rfl, rfl, hlt⟩, ?_⟩
        (conv => whnf)
        refine ⟨_, hs, ?_⟩
        (conv => whnf)
        refine ⟨Tryz.k53.any, (Tryz.hasT_ok i1 (by omega) (gless x (List.mem_of_getElem? hx) hxn)).mono ?_⟩
        rintro _ σ' ⟨rfl, hσ'⟩ -
        obtain rfl := hσ'.symm
        (conv => whnf)
        refine ⟨hin, ?_⟩
        (conv => whnf)
        exact ⟨rfl, i + 1, ⟨rfl, rfl, rfl, rfl, trivial⟩, ⟨rfl, by omega⟩, by show _ - _ < _ - _; omega⟩
      · (conv => whnf)
        refine ⟨hin, ?_⟩
        (conv => whnf)
        exact ⟨rfl, i + 1, ⟨rfl, rfl, rfl, rfl, trivial⟩, ⟨rfl, by omega⟩, by show _ - _ < _ - _; omega⟩
    · have hge : (t.chosen (t.edOf ed) now).length ≤ i := by simpa using hc
      (conv => whnf)
      refine ⟨Tryz.k53.any, (Tryz.hasT_ok i2 (by omega) gB).mono ?_⟩
      rintro _ σ' ⟨rfl, hσ'⟩ -
      obtain rfl := hσ'.symm
      (conv => whnf)
      refine ⟨Tryz.k53.any, (Tryz.hasF_ok i1 (by omega) gA).mono ?_⟩
      rintro _ σ' ⟨rfl, hσ'⟩ -
      obtain rfl := hσ'.symm
      (conv => whnf)
      refine ⟨Tryz.k26.any, (stocks _ hle5).mono ?_⟩
      rintro _ σ' ⟨rfl, hσ'⟩ -
      obtain rfl := hσ'.symm
      (conv => whnf); (repeat (refine ⟨rfl, ?_⟩; conv => whnf))
      exact hle5.lg
end Go.Proofs
