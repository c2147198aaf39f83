/- A part of the proof: lemmas that the last text uses. No conditions of its own. -/
import Derived.Test.YtebpcmdnecenlaaGreatB26
import Derived.Test.YtebpcmdnecenlaaGreatC01
import Derived.Test.YtebpcmdnecenlaaGreatB29
import Derived.Test.YtebpcmdnecenlaaGreatB08
import Derived.Test.YtebpcmdnecenlaaGreatB09
import Derived.Test.YtebpcmdnecenlaaGreatB10
import Derived.Test.YtebpcmdnecenlaaGreatC00
set_option linter.unusedSimpArgs false
set_option linter.unusedVariables false
namespace Go.Proofs
open Go.TM
set_option maxRecDepth 100000
attribute [local irreducible] CallsV YieldV rngX
set_option maxHeartbeats 4000000 in
theorem Tryz.goodsClasses_top {σ : View Tk} (htok : σ.tok = ⟨0, .out⟩) (h : TH) (t : Tbl) (ht : TabV σ.frz h t) (ed : Nat) (hed : ed < 256) (bits : Nat) (hbits : bits < 256) (ot : Nat) (hot : ot < 256) :
    J (SysG Tryz.prog 164 2) (Fin Tryz.prog fun v σ' => v = .bool true ∧ σ.lg σ') true (Rf (Frame.enter Tryz.prog 15 #[h.v, .int .u8 ed, .int .u8 bits, .int .u8 ot] .normal) []) σ := by
  refine top_of (args := [_, _, _, _]) (Q := fun v σ' => v = .bool true ∧ σ.lg σ') Tryz.k15 Tryz.mixed (by kernel_rfl) (by simp) (fun v σ' q => q.2.tok.trans htok) ?_
  (conv => whnf); (repeat (refine ⟨rfl, ?_⟩; conv => whnf))
  intro b σ₁ hle1 hb
  have hb : Blk σ₁ b #[.slice h.ea h.el h.ec, .slice h.ma h.ml h.mc, .slice h.ka h.kl h.kc] := hb
  have ht := ht.lg hle1.frz2
  have stocks : ∀ σ₂ : View Tk, σ.le σ₂ → CallsV (SysG Tryz.prog 164 2) 26 #[] (fun v σ' => v = .bool true ∧ σ' = σ₂) σ₂ := fun σ₂ h => Tryz.stocks_ok (h.tok.trans htok)
  (conv => whnf)
  refine ⟨_, ⟨rfl, hb.rdT fun _ _ h => h⟩, ?_⟩
  (conv => whnf)
  refine ⟨Tryz.k48.any, (Tryz.fit_ok h t (ht.lg frz_self)).mono ?_⟩
  rintro _ σ' ⟨⟨B, rfl, hB⟩, hσ'⟩ -
  obtain rfl := hσ'.symm
  (conv => whnf); (repeat (refine ⟨rfl, ?_⟩; conv => whnf))
  refine cb_split (fun hc => ?_) (fun hc => ?_)
  · (conv => whnf)
    refine ⟨Tryz.k26.any, (stocks _ hle1).mono ?_⟩
    rintro _ σ' ⟨rfl, hσ'⟩ -
    obtain rfl := hσ'.symm
    (conv => whnf); (repeat (refine ⟨rfl, ?_⟩; conv => whnf))
    exact hle1.lg
  have hf : t.flaw = 0 := hB (by simpa using hc)
  have he := Tbl.isEd_of hf ed
  have hA := t.lst_chosen (t.edOf ed) bits
  have nA := hA.len hf
  have hB := t.lst_chosen (t.edOf ed) ot
  have nB := hB.len hf
  have hU := Tbl.lst_union hf hA hB
  (conv => whnf)
  refine ⟨_, ⟨rfl, hb.rdT fun _ _ h => h⟩, ?_⟩
  (conv => whnf)
  refine ⟨Tryz.k49.any, (Tryz.edOf_ok h t (ht.lg frz_self) hf ed hed).mono ?_⟩
  rintro _ σ' ⟨rfl, hσ'⟩ -
  obtain rfl := hσ'.symm
  (conv => whnf)
  refine ⟨_, ⟨rfl, hb.rdT fun _ _ h => h⟩, ?_⟩
  (conv => whnf)
  refine ⟨_, ⟨rfl, hb.rdT fun _ _ h => h⟩, ?_⟩
  (conv => whnf)
  refine ⟨fun v σ' => LstV σ' v ((t.chosen (t.edOf ed) bits)), fun v σ₁ σ₂ hv hle => hv.le hle, fun σ' hle _ => ?_, fun v _ => ?_⟩
  · (conv => whnf)
    refine ⟨Tryz.k50.any, (Tryz.chosenL_ok h t (ht.lg hle.frz2) hf (t.edOf ed) he bits hbits).mono ?_⟩
    rintro v σ'' ⟨hv, hle'⟩ -
    exact ⟨σ'', .refl _, hv, hle'⟩
  (conv => whnf)
  intro σ₂ h2 hC
  have hle2 := hle1.trans h2
  have hb := hb.le h2
  have ht := ht.lg h2.frz2
  obtain ⟨-, a1, c1, rfl, i1⟩ := hC
  (conv => whnf)
  refine ⟨Tryz.k50.any, (Tryz.chosenL_ok h t ht hf (t.edOf ed) he ot hot).mono ?_⟩
  rintro _ σ₃ ⟨⟨a2, c2, rfl, i2⟩, h3⟩ -
  have hle3 := hle2.trans h3
  have hb := hb.le h3
  have ht := ht.lg h3.frz2
  have i1 := i1.lg h3.frz2
  (conv => whnf)
  refine ⟨_, ⟨rfl, hb.rdT fun _ _ h => h⟩, ?_⟩
  (conv => whnf)
  refine ⟨Tryz.k27.any, (Tryz.clsL_ok h t ht hf (t.edOf ed) he i1 hA).mono ?_⟩
  rintro _ σ₄ ⟨⟨_, rfl, a3, c3, rfl, i3⟩, h4⟩ -
  have hle4 := hle3.trans h4
  have hb := hb.le h4
  have ht := ht.lg h4.frz2
  have i1 := i1.lg h4.frz2
  have i2 := i2.lg h4.frz2
  (conv => whnf)
  refine ⟨_, ⟨rfl, hb.rdT fun _ _ h => h⟩, ?_⟩
  (conv => whnf)
  refine ⟨Tryz.k27.any, (Tryz.clsL_ok h t ht hf (t.edOf ed) he i2 hB).mono ?_⟩
  rintro _ σ₅ ⟨⟨_, rfl, a4, c4, rfl, i4⟩, h5⟩ -
  have hle5 := hle4.trans h5
  have hb := hb.le h5
  have ht := ht.lg h5.frz2
  have i1 := i1.lg h5.frz2
  have i2 := i2.lg h5.frz2
  have i3 := i3.lg h5.frz2
  (conv => whnf)
  refine ⟨_, ⟨rfl, hb.rdT fun _ _ h => h⟩, ?_⟩
  (conv => whnf)
  refine ⟨fun v σ' => LstV σ' v (unionL (t.chosen (t.edOf ed) bits) (t.chosen (t.edOf ed) ot)), fun v σ₁ σ₂ hv hle => hv.le hle, fun σ' hle hC => ?_, fun v hv => ?_⟩
  · (conv => whnf)
    refine ⟨Tryz.k54.any, (Tryz.unionL_ok (i1.lg hle.frz2) (i2.lg hle.frz2) (by omega) (by omega)).mono ?_⟩
    rintro v σ'' ⟨hv, hle'⟩ -
    exact ⟨σ'', .refl _, hv, hle'⟩
  obtain ⟨_, -, -, a5, c5, rfl, -⟩ := hv
  (conv => whnf)
  refine ⟨fun v σ' => OneV σ' v (t.refCls (t.edOf ed) (unionL (t.chosen (t.edOf ed) bits) (t.chosen (t.edOf ed) ot))), fun v σ₁ σ₂ hv hle => hv.le hle, fun σ' hle hC => ?_, fun v hv => ?_⟩
  · obtain ⟨-, hv1⟩ := hC
    (conv => whnf)
    refine ⟨Tryz.k27.any, (Tryz.clsL_ok h t (ht.lg hle.frz2) hf (t.edOf ed) he hv1.at hU).mono ?_⟩
    rintro v σ'' ⟨hv, hle'⟩ -
    exact ⟨σ'', .refl _, hv, hle'⟩
  obtain ⟨_, -, -, _, rfl, a6, c6, rfl, -⟩ := hv
  (conv => whnf)
  intro σ₆ h6 hC
  have hle6 := hle5.trans h6
  have hb := hb.le h6
  have ht := ht.lg h6.frz2
  have i1 := i1.lg h6.frz2
  have i2 := i2.lg h6.frz2
  have i3 := i3.lg h6.frz2
  have i4 := i4.lg h6.frz2
  obtain ⟨-, hv2⟩ := hC
  have i6 := hv2.at
  have n3 := t.refCls_45 (t.edOf ed) (t.chosen (t.edOf ed) bits)
  have n4 := t.refCls_45 (t.edOf ed) (t.chosen (t.edOf ed) ot)
  have n6 := t.refCls_45 (t.edOf ed) (unionL (t.chosen (t.edOf ed) bits) (t.chosen (t.edOf ed) ot))
  have mU : ∀ n, n ∈ (unionL (t.chosen (t.edOf ed) bits) (t.chosen (t.edOf ed) ot)) ↔ n ∈ (t.chosen (t.edOf ed) bits) ∨ n ∈ (t.chosen (t.edOf ed) ot) := fun n => mem_unionL (hA.lt hf) (hB.lt hf)
  have mX := fun c => Tbl.mem_refCls hf he hA (c := c)
  have mY := fun c => Tbl.mem_refCls hf he hB (c := c)
  have mZ := fun c => Tbl.mem_refCls hf he hU (c := c)
  have s1 : Sub (t.refCls (t.edOf ed) (t.chosen (t.edOf ed) bits)) (t.refCls (t.edOf ed) (unionL (t.chosen (t.edOf ed) bits) (t.chosen (t.edOf ed) ot))) := fun c hc => by
    obtain ⟨n, h1, h2⟩ := (mX c).1 hc
    exact (mZ c).2 ⟨n, (mU n).2 (.inl h1), h2⟩
  have s2 : Sub (t.refCls (t.edOf ed) (t.chosen (t.edOf ed) ot)) (t.refCls (t.edOf ed) (unionL (t.chosen (t.edOf ed) bits) (t.chosen (t.edOf ed) ot))) := fun c hc => by
    obtain ⟨n, h1, h2⟩ := (mY c).1 hc
    exact (mZ c).2 ⟨n, (mU n).2 (.inr h1), h2⟩
  have s3 : ∀ c ∈ (t.refCls (t.edOf ed) (unionL (t.chosen (t.edOf ed) bits) (t.chosen (t.edOf ed) ot))), c ∉ (t.refCls (t.edOf ed) (t.chosen (t.edOf ed) bits)) → c ∈ (t.refCls (t.edOf ed) (t.chosen (t.edOf ed) ot)) := fun c hc hn => by
    obtain ⟨n, h1, h2⟩ := (mZ c).1 hc
    rcases (mU n).1 h1 with h1 | h1
    · exact absurd ((mX c).2 ⟨n, h1, h2⟩) hn
    · exact (mY c).2 ⟨n, h1, h2⟩
  have hasc := t.asc_refCls (t.edOf ed) (unionL (t.chosen (t.edOf ed) bits) (t.chosen (t.edOf ed) ot))
  (conv => whnf)
  refine ⟨rfl, ?_⟩
  (conv => whnf)
  refine ⟨rfl, ?_⟩
  (conv => whnf)
  refine ⟨rfl, ?_⟩
  (conv => whnf)
  refine ⟨Tryz.k51.any, (Tryz.withinT_ok i3 i6 (by omega) (by omega) s1).mono ?_⟩
  rintro _ σ' ⟨rfl, hσ'⟩ -
  obtain rfl := hσ'.symm
  (conv => whnf)
  refine ⟨Tryz.k51.any, (Tryz.withinT_ok i4 i6 (by omega) (by omega) s2).mono ?_⟩
  rintro _ σ' ⟨rfl, hσ'⟩ -
  obtain rfl := hσ'.symm
  have mX := mX
  (conv => whnf)
  refine ⟨Nat, fun i => [(4, .pointer (some ⟨b, 0, none⟩)), (9, .int .i64 (t.edOf ed)), (10, .slice a1 (t.chosen (t.edOf ed) bits).length c1), (12, .slice a3 (t.refCls (t.edOf ed) (t.chosen (t.edOf ed) bits)).length c3), (14, .slice a4 (t.refCls (t.edOf ed) (t.chosen (t.edOf ed) ot)).length c4), (16, .slice a6 (t.refCls (t.edOf ed) (unionL (t.chosen (t.edOf ed) bits) (t.chosen (t.edOf ed) ot))).length c6), (18, .int .i64 i)], fun i σ' => σ₆.le σ' ∧ i ≤ (t.refCls (t.edOf ed) (unionL (t.chosen (t.edOf ed) bits) (t.chosen (t.edOf ed) ot))).length, fun i => (t.refCls (t.edOf ed) (unionL (t.chosen (t.edOf ed) bits) (t.chosen (t.edOf ed) ot))).length - i, 0, ⟨rfl, rfl, rfl, rfl, rfl, rfl, rfl, trivial⟩, ⟨.refl _, by omega⟩, ?_⟩
  rintro i f σ₇ ⟨h7, hi⟩
  have hle7 := hle6.trans h7
  have hb := hb.le h7
  have ht := ht.lg h7.frz2
  have i1 := i1.lg h7.frz2
  have i2 := i2.lg h7.frz2
  have i3 := i3.lg h7.frz2
  have i4 := i4.lg h7.frz2
  have i6 := i6.lg h7.frz2
  (conv => whnf); (repeat (refine ⟨rfl, ?_⟩; conv => whnf))
  refine cb_split (fun hc => ?_) (fun hc => ?_)
  · have hlt : i < (t.refCls (t.edOf ed) (unionL (t.chosen (t.edOf ed) bits) (t.chosen (t.edOf ed) ot))).length := by simpa using hc
    obtain ⟨ad, x, hx, rfl, hsp, hs⟩ := (i6.lg frz_self).at hlt
    have hin : InR (i + 1) := by unfold InR; omega
    have hxz : x ∈ (t.refCls (t.edOf ed) (unionL (t.chosen (t.edOf ed) bits) (t.chosen (t.edOf ed) ot))) := List.mem_of_getElem? hx
    have hlast : ∀ (j : Nat) y, i = j + 1 → (t.refCls (t.edOf ed) (unionL (t.chosen (t.edOf ed) bits) (t.chosen (t.edOf ed) ot)))[j]? = some y → y < x := fun j y e hy => by
      obtain ⟨q1, e1⟩ := List.getElem?_eq_some_iff.1 hy
      obtain ⟨q2, e2⟩ := List.getElem?_eq_some_iff.1 hx
      have := List.pairwise_iff_getElem.1 hasc j i q1 q2 (by omega)
      rw [e1, e2] at this; exact this
    (conv => whnf)
    refine ⟨ad, i, ⟨rfl, rfl, hlt⟩, ?_⟩
    (conv => whnf)
    refine ⟨_, hs, ?_⟩
    by_cases hX : x ∈ (t.refCls (t.edOf ed) (t.chosen (t.edOf ed) bits))
    · skip
      (conv => whnf)
      refine ⟨.bool true, fun σ' hle _ => ?_, ?_⟩
      · (conv => whnf)
        refine ⟨Tryz.k53.any, (Tryz.hasT_ok (i3.lg hle.frz2) (by omega) hX).mono ?_⟩
        rintro _ σ'' ⟨rfl, hσ⟩ -
        exact ⟨rfl, _, .refl _, hσ ▸ .refl _⟩
      (conv => whnf); (repeat (refine ⟨rfl, ?_⟩; conv => whnf))
      refine gb_split (fun hc => ?_) (fun hc => ?_)
      · have h0 : (i : Int) > 0 := of_decide_eq_true hc
        obtain ⟨j, rfl⟩ : ∃ j, i = j + 1 := ⟨i - 1, by omega⟩
        have hy : (t.refCls (t.edOf ed) (unionL (t.chosen (t.edOf ed) bits) (t.chosen (t.edOf ed) ot)))[j]? = some ((t.refCls (t.edOf ed) (unionL (t.chosen (t.edOf ed) bits) (t.chosen (t.edOf ed) ot)))[j]'(by omega)) := List.getElem?_eq_getElem (by omega)
        obtain ⟨ad2, hy1, hsp2, hs2⟩ := (i6.lg frz_self).2 j _ hy
        cases hy1
        have hlt2 := hlast j _ rfl hy
        generalize (t.refCls (t.edOf ed) (unionL (t.chosen (t.edOf ed) bits) (t.chosen (t.edOf ed) ot)))[j]'(by omega) = y at hs2 hlt2
        (conv => whnf)
        refine ⟨ad, j + 1, ⟨rfl, rfl, hlt⟩, ?_⟩
        (conv => whnf)
        refine ⟨_, hs, ?_⟩
        (conv => whnf)
        refine ⟨by unfold InR; omega, ?_⟩
        (conv => whnf)
        refine ⟨ad, j, ⟨rfl, by omega, by omega⟩, ?_⟩
        (conv => whnf)
        refine ⟨_, hs2, ?_⟩
        (conv => whnf)
        intro σ₈ h8 _
        have hle8 := hle7.trans h8
        have hb := hb.le h8
        have ht := ht.lg h8.frz2
        have i1 := i1.lg h8.frz2
        have i2 := i2.lg h8.frz2
        have i3 := i3.lg h8.frz2
        have i4 := i4.lg h8.frz2
        have i6 := i6.lg h8.frz2
        (conv => whnf); (repeat (refine ⟨rfl, ?_⟩; conv => whnf))
        refine cb_split (fun hc => ?_) (fun hc => ?_)
        · have : x ≤ y := of_decide_eq_true hc
          omega
        (conv => whnf)
        refine ⟨hin, ?_⟩
        (conv => whnf)
        exact ⟨rfl, j + 2, ⟨rfl, rfl, rfl, rfl, rfl, rfl, rfl, trivial⟩, ⟨h7.trans h8, by omega⟩, by show _ - _ < _ - _; omega⟩
      · (conv => whnf)
        intro σ₈ h8 _
        have hle8 := hle7.trans h8
        have hb := hb.le h8
        have ht := ht.lg h8.frz2
        have i1 := i1.lg h8.frz2
        have i2 := i2.lg h8.frz2
        have i3 := i3.lg h8.frz2
        have i4 := i4.lg h8.frz2
        have i6 := i6.lg h8.frz2
        (conv => whnf); (repeat (refine ⟨rfl, ?_⟩; conv => whnf))
        refine ⟨hin, ?_⟩
        (conv => whnf)
        exact ⟨rfl, i + 1, ⟨rfl, rfl, rfl, rfl, rfl, rfl, rfl, trivial⟩, ⟨h7.trans h8, by omega⟩, by show _ - _ < _ - _; omega⟩
    · skip
      (conv => whnf)
      refine ⟨.bool false, fun σ' hle _ => ?_, ?_⟩
      · (conv => whnf)
        refine ⟨Tryz.k53.any, (Tryz.hasF_ok (i3.lg hle.frz2) (by omega) hX).mono ?_⟩
        rintro _ σ'' ⟨rfl, hσ⟩ -
        exact ⟨rfl, _, .refl _, hσ ▸ .refl _⟩
      (conv => whnf)
      refine ⟨ad, i, ⟨rfl, rfl, hlt⟩, ?_⟩
      (conv => whnf)
      refine ⟨_, hs, ?_⟩
      (conv => whnf)
      refine ⟨.bool true, fun σ' hle _ => ?_, ?_⟩
      · (conv => whnf)
        refine ⟨Tryz.k53.any, (Tryz.hasT_ok (i4.lg hle.frz2) (by omega) (s3 x hxz hX)).mono ?_⟩
        rintro _ σ'' ⟨rfl, hσ⟩ -
        exact ⟨rfl, _, .refl _, hσ ▸ .refl _⟩
      (conv => whnf); (repeat (refine ⟨rfl, ?_⟩; conv => whnf))
      refine gb_split (fun hc => ?_) (fun hc => ?_)
      · have h0 : (i : Int) > 0 := of_decide_eq_true hc
        obtain ⟨j, rfl⟩ : ∃ j, i = j + 1 := ⟨i - 1, by omega⟩
        have hy : (t.refCls (t.edOf ed) (unionL (t.chosen (t.edOf ed) bits) (t.chosen (t.edOf ed) ot)))[j]? = some ((t.refCls (t.edOf ed) (unionL (t.chosen (t.edOf ed) bits) (t.chosen (t.edOf ed) ot)))[j]'(by omega)) := List.getElem?_eq_getElem (by omega)
        obtain ⟨ad2, hy1, hsp2, hs2⟩ := (i6.lg frz_self).2 j _ hy
        cases hy1
        have hlt2 := hlast j _ rfl hy
        generalize (t.refCls (t.edOf ed) (unionL (t.chosen (t.edOf ed) bits) (t.chosen (t.edOf ed) ot)))[j]'(by omega) = y at hs2 hlt2
        (conv => whnf)
        refine ⟨ad, j + 1, ⟨rfl, rfl, hlt⟩, ?_⟩
        (conv => whnf)
        refine ⟨_, hs, ?_⟩
        (conv => whnf)
        refine ⟨by unfold InR; omega, ?_⟩
        (conv => whnf)
        refine ⟨ad, j, ⟨rfl, by omega, by omega⟩, ?_⟩
        (conv => whnf)
        refine ⟨_, hs2, ?_⟩
        (conv => whnf)
        intro σ₈ h8 _
        have hle8 := hle7.trans h8
        have hb := hb.le h8
        have ht := ht.lg h8.frz2
        have i1 := i1.lg h8.frz2
        have i2 := i2.lg h8.frz2
        have i3 := i3.lg h8.frz2
        have i4 := i4.lg h8.frz2
        have i6 := i6.lg h8.frz2
        (conv => whnf); (repeat (refine ⟨rfl, ?_⟩; conv => whnf))
        refine cb_split (fun hc => ?_) (fun hc => ?_)
        · have : x ≤ y := of_decide_eq_true hc
          omega
        (conv => whnf)
        refine ⟨hin, ?_⟩
        (conv => whnf)
        exact ⟨rfl, j + 2, ⟨rfl, rfl, rfl, rfl, rfl, rfl, rfl, trivial⟩, ⟨h7.trans h8, by omega⟩, by show _ - _ < _ - _; omega⟩
      · (conv => whnf)
        intro σ₈ h8 _
        have hle8 := hle7.trans h8
        have hb := hb.le h8
        have ht := ht.lg h8.frz2
        have i1 := i1.lg h8.frz2
        have i2 := i2.lg h8.frz2
        have i3 := i3.lg h8.frz2
        have i4 := i4.lg h8.frz2
        have i6 := i6.lg h8.frz2
        (conv => whnf); (repeat (refine ⟨rfl, ?_⟩; conv => whnf))
        refine ⟨hin, ?_⟩
        (conv => whnf)
        exact ⟨rfl, i + 1, ⟨rfl, rfl, rfl, rfl, rfl, rfl, rfl, trivial⟩, ⟨h7.trans h8, by omega⟩, by show _ - _ < _ - _; omega⟩
  have hstk : ∀ σ₂ : View Tk, σ₂.tok = ⟨0, .out⟩ → CallsV (SysG Tryz.prog 164 2) 26 #[] (fun v σ' => v = .bool true ∧ σ' = σ₂) σ₂ := fun σ₂ h => Tryz.stocks_ok h
  obtain ⟨ke, ade, ia, il, ic, heq, hke, hea, hse, hit⟩ := Tbl.isEd_at ht he
  have hil := hit.1
  (conv => whnf)
  refine ⟨Nat × Value, fun y => [(4, .pointer (some ⟨b, 0, none⟩)), (9, .int .i64 (t.edOf ed)), (10, .slice a1 (t.chosen (t.edOf ed) bits).length c1), (12, .slice a3 (t.refCls (t.edOf ed) (t.chosen (t.edOf ed) bits)).length c3), (19, y.2), (20, .int .i64 y.1)], fun y σ' => σ₇.lg σ' ∧ Acc 3 1 y.2 ((((t.chosen (t.edOf ed) bits).take y.1).map (t.clsAt (t.edOf ed))).map fun n => .int .i64 n) σ'.M σ₇.M ∧ y.1 ≤ (t.chosen (t.edOf ed) bits).length, fun y => (t.chosen (t.edOf ed) bits).length - y.1, (0, .slice none 0 0), ⟨rfl, rfl, rfl, rfl, rfl, rfl, trivial⟩, ⟨(View.le.refl _).lg, .nil, by simp⟩, ?_⟩
  rintro ⟨i, v⟩ f σ₂₀ ⟨hlg, ha, hi⟩
  simp only at ha hi
  have hcl : (((t.chosen (t.edOf ed) bits).take i).map (t.clsAt (t.edOf ed))).length ≤ 8 := by rw [List.length_map, List.length_take]; omega
  obtain ⟨sa, sc, rfl, hall⟩ := src_ints ha
  have hfz : σ₇.frz.lg σ₂₀ := frz_self.trans hlg
  obtain ⟨A', hA'⟩ := ha.own
  (conv => whnf); (repeat (refine ⟨rfl, ?_⟩; conv => whnf))
  refine cb_split (fun hc => ?_) (fun hc => ?_)
  · have hlt : i < (t.chosen (t.edOf ed) bits).length := by simpa using hc
    obtain ⟨ad, x, hx, rfl, hsp, hs⟩ := (i1.lg hfz).at hlt
    have hin : InR (i + 1) := by unfold InR; omega
    have hni := hA.its x (List.mem_of_getElem? hx)
    have hn8 := Tbl.item_lt hf hni
    obtain ⟨kn, rfl⟩ := Int.eq_ofNat_of_zero_le hn8.1
    have hkl : kn < il := by
      rw [Tbl.isItem_iff] at hni; unfold Tbl.ni at hni; omega
    obtain ⟨ad2, it, vs, hxi, rfl, hsp2, rfl, -, hrd⟩ := RowsV.at hit hkl
    have hca : t.clsAt (t.edOf ed) (kn : Int) = it.cls := by unfold Tbl.clsAt; rw [Int.toNat_natCast, hxi]; rfl
    have hnx : (((t.chosen (t.edOf ed) bits).take (i + 1)).map (t.clsAt (t.edOf ed))) = (((t.chosen (t.edOf ed) bits).take i).map (t.clsAt (t.edOf ed))) ++ [it.cls] := by rw [take_at hx, List.map_append, List.map_cons, List.map_nil, hca]
    (conv => whnf)
    refine ⟨_, (hb.lg hlg).sees3 (o := 0) rfl, ?_⟩
    (conv => whnf)
    refine ⟨ade, ke, ⟨hea, heq, hke⟩, ?_⟩
    (conv => whnf)
    refine ⟨_, hse.lg hfz, ?_⟩
    (conv => whnf)
    refine ⟨ad, i, ⟨rfl, rfl, hlt⟩, ?_⟩
    (conv => whnf)
    refine ⟨_, hs, ?_⟩
    (conv => whnf)
    refine ⟨ad2, kn, ⟨rfl, rfl, hkl⟩, ?_⟩
    (conv => whnf)
    refine ⟨_, (hrd 1 _ rfl).lg hfz, ?_⟩
    (conv => whnf)
    refine ⟨fun v σ' => ∃ bb, v = .slice (some ⟨bb, 0, none⟩) 1 1 ∧ Blk σ' bb #[.int .i64 it.cls], fun v σ₁ σ₂ ⟨bb, e, hbb⟩ hle => ⟨bb, e, hbb.le hle⟩, fun σ' hle _ => ?_, fun v hv => ?_⟩
    · (conv => whnf)
      intro b139 hf139
      exact put_new hf139 fun σ₅ h₅ hb₅ => ⟨σ₅, .refl _, ⟨b139, rfl, hb₅⟩, h₅⟩
    obtain ⟨_, -, -, b139, rfl, -⟩ := hv
    (conv => whnf)
    intro σ₂₁ h21 hC
    obtain ⟨-, _, e, hbb⟩ := hC
    cases e
    (conv => whnf)
    refine raw_app (v := .slice sa _ sc) (cs := (((t.chosen (t.edOf ed) bits).take i).map (t.clsAt (t.edOf ed))).map fun n => .int .i64 n) (new := [.int .i64 it.cls]) (M₀ := σ₇.M) Tryz.sl27 rfl rfl (by rw [h21.own]; exact ha) (.inr ⟨_, rfl, hbb.reads (fun k v hv => by simpa using hv)⟩) rfl (by simp [Value.single]) (by simp only [List.length_map, List.length_cons, List.length_nil] at hcl ⊢; omega) fun v' M' ha' _ => ?_
    have ha'' : Acc 3 1 v' ((((t.chosen (t.edOf ed) bits).take (i + 1)).map (t.clsAt (t.edOf ed))).map fun n => .int .i64 n) M' σ₇.M := by rw [hnx]; simpa using ha'
    obtain ⟨ta, tc, rfl, -⟩ := src_ints (σ := { σ₂₁ with M := M' }) ha''
    obtain ⟨A2, hA2⟩ := ha''.own
    (conv => whnf)
    refine ⟨hin, ?_⟩
    (conv => whnf)
    exact ⟨rfl, (i + 1, .slice ta _ tc), ⟨rfl, rfl, rfl, rfl, rfl, rfl, trivial⟩, ⟨⟨fun x o h => h21.imm x o (hlg.imm x o h), ⟨A2, hA2⟩, h21.tok.trans hlg.tok⟩, ha'', by simp only; omega⟩, by show _ - _ < _ - _; omega⟩
  · have hge : (t.chosen (t.edOf ed) bits).length ≤ i := by simpa using hc
    have htk : (t.chosen (t.edOf ed) bits).take i = (t.chosen (t.edOf ed) bits) := List.take_of_length_le hge
    rw [htk] at hall hcl
    skip
    have w1 := Tryz.within_ok (S := SysG Tryz.prog 164 2) sa a3 _ sc _ c3 _ _ hall (by omega) (i3.lg hfz) (by omega)
    have w2 := Tryz.within_ok (S := SysG Tryz.prog 164 2) a3 sa _ c3 _ sc _ _ (i3.lg hfz) (by omega) hall (by omega)
    have m1 : Sub ((t.chosen (t.edOf ed) bits).map (t.clsAt (t.edOf ed))) (t.refCls (t.edOf ed) (t.chosen (t.edOf ed) bits)) := fun c hc => by
      obtain ⟨n, h1, h2⟩ := List.mem_map.1 hc
      exact (mX c).2 ⟨n, h1, h2⟩
    have m2 : Sub (t.refCls (t.edOf ed) (t.chosen (t.edOf ed) bits)) ((t.chosen (t.edOf ed) bits).map (t.clsAt (t.edOf ed))) := fun c hc => by
      obtain ⟨n, h1, h2⟩ := (mX c).1 hc
      exact List.mem_map.2 ⟨n, h1, h2⟩
    rw [TM.within_iff.2 m1] at w1
    rw [TM.within_iff.2 m2] at w2
    rw [htk]
    (conv => whnf)
    refine ⟨Tryz.k51.any, (w1).mono ?_⟩
    rintro _ σ' ⟨rfl, hσ'⟩ -
    obtain rfl := hσ'.symm
    (conv => whnf)
    refine ⟨Tryz.k51.any, (w2).mono ?_⟩
    rintro _ σ' ⟨rfl, hσ'⟩ -
    obtain rfl := hσ'.symm
    (conv => whnf)
    refine ⟨Tryz.k26.any, (hstk _ (hlg.tok.trans (hle7.tok.trans htok))).mono ?_⟩
    rintro _ σ' ⟨rfl, hσ'⟩ -
    obtain rfl := hσ'.symm
    (conv => whnf); (repeat (refine ⟨rfl, ?_⟩; conv => whnf))
    exact hle7.lg.trans hlg
end Go.Proofs
