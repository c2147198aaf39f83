/- A part of the proof: lemmas that the last text uses. No conditions of its own. -/
import Derived.Test.YtebpcmdnecenlaaGreatB26
import Derived.Test.YtebpcmdnecenlaaGreatC01
import Derived.Test.YtebpcmdnecenlaaGreatB29
import Derived.Test.YtebpcmdnecenlaaGreatB08
import Derived.Test.YtebpcmdnecenlaaGreatB09
import Derived.Test.YtebpcmdnecenlaaGreatB10
import Derived.Test.YtebpcmdnecenlaaGreatC00
set_option linter.unusedSimpArgs false
set_option linter.unusedVariables false
namespace Go.Proofs
open Go.TM
set_option maxRecDepth 100000
attribute [local irreducible] CallsV YieldV rngX
set_option maxHeartbeats 4000000 in
theorem Tryz.goodsSteps_top {σ : View Tk} (htok : σ.tok = ⟨0, .out⟩) (h : TH) (t : Tbl) (ht : TabV σ.frz h t) (fr : Nat) (hfr : fr < 256) (ov : Nat) (hov : ov < 256) (to : Nat) (hto : to < 256) (bits : Nat) (hbits : bits < 256) :
    J (SysG Tryz.prog 164 2) (Fin Tryz.prog fun v σ' => v = .bool true ∧ σ.lg σ') true (Rf (Frame.enter Tryz.prog 11 #[h.v, .int .u8 fr, .int .u8 ov, .int .u8 to, .int .u8 bits] .normal) []) σ := by
  refine top_of (args := [_, _, _, _, _]) (Q := fun v σ' => v = .bool true ∧ σ.lg σ') Tryz.k11 Tryz.mixed (by kernel_rfl) (by simp) (fun v σ' q => q.2.tok.trans htok) ?_
  (conv => whnf); (repeat (refine ⟨rfl, ?_⟩; conv => whnf))
  intro b σ₁ hle1 hb
  have hb : Blk σ₁ b #[.slice h.ea h.el h.ec, .slice h.ma h.ml h.mc, .slice h.ka h.kl h.kc] := hb
  have ht := ht.lg hle1.frz2
  have stocks : ∀ σ₂ : View Tk, σ.le σ₂ → CallsV (SysG Tryz.prog 164 2) 26 #[] (fun v σ' => v = .bool true ∧ σ' = σ₂) σ₂ := fun σ₂ h => Tryz.stocks_ok (h.tok.trans htok)
  (conv => whnf)
  refine ⟨_, ⟨rfl, hb.rdT fun _ _ h => h⟩, ?_⟩
  (conv => whnf)
  refine ⟨Tryz.k48.any, (Tryz.fit_ok h t (ht.lg frz_self)).mono ?_⟩
  rintro _ σ' ⟨⟨B, rfl, hB⟩, hσ'⟩ -
  obtain rfl := hσ'.symm
  (conv => whnf); (repeat (refine ⟨rfl, ?_⟩; conv => whnf))
  refine cb_split (fun hc => ?_) (fun hc => ?_)
  · (conv => whnf)
    refine ⟨Tryz.k26.any, (stocks _ hle1).mono ?_⟩
    rintro _ σ' ⟨rfl, hσ'⟩ -
    obtain rfl := hσ'.symm
    (conv => whnf); (repeat (refine ⟨rfl, ?_⟩; conv => whnf))
    exact hle1.lg
  have hf : t.flaw = 0 := hB (by simpa using hc)
  have hx := Tbl.isEd_of hf fr
  have hy := Tbl.isEd_of hf to
  have hm := Tbl.isEd_of hf ov
  have hA := t.lst_chosen (t.edOf fr) bits
  have nA := hA.len hf
  (conv => whnf)
  refine ⟨_, ⟨rfl, hb.rdT fun _ _ h => h⟩, ?_⟩
  (conv => whnf)
  refine ⟨.int .i64 (t.edOf fr), fun σ' hle _ => ?_, ?_⟩
  · (conv => whnf)
    refine ⟨Tryz.k49.any, (Tryz.edOf_ok h t (ht.lg hle.frz1) hf fr hfr).mono ?_⟩
    rintro _ σ'' ⟨rfl, hσ⟩ -
    exact ⟨rfl, _, .refl _, hσ ▸ .refl _⟩
  (conv => whnf)
  refine ⟨_, ⟨rfl, hb.rdT fun _ _ h => h⟩, ?_⟩
  (conv => whnf)
  refine ⟨.int .i64 (t.edOf ov), fun σ' hle _ => ?_, ?_⟩
  · (conv => whnf)
    refine ⟨Tryz.k49.any, (Tryz.edOf_ok h t (ht.lg hle.frz1) hf ov hov).mono ?_⟩
    rintro _ σ'' ⟨rfl, hσ⟩ -
    exact ⟨rfl, _, .refl _, hσ ▸ .refl _⟩
  (conv => whnf)
  refine ⟨_, ⟨rfl, hb.rdT fun _ _ h => h⟩, ?_⟩
  (conv => whnf)
  intro σ₂ h2 hC
  have hle2 := hle1.trans h2
  have hb := hb.le h2
  have ht := ht.lg h2.frz2
  (conv => whnf)
  refine ⟨Tryz.k49.any, (Tryz.edOf_ok h t (ht.lg frz_self) hf to hto).mono ?_⟩
  rintro _ σ' ⟨rfl, hσ'⟩ -
  obtain rfl := hσ'.symm
  (conv => whnf)
  refine ⟨_, ⟨rfl, hb.rdT fun _ _ h => h⟩, ?_⟩
  (conv => whnf)
  refine ⟨Tryz.k50.any, (Tryz.chosenL_ok h t ht hf (t.edOf fr) hx bits hbits).mono ?_⟩
  rintro _ σ₃ ⟨⟨a1, c1, rfl, i1⟩, h3⟩ -
  have hle3 := hle2.trans h3
  have hb := hb.le h3
  have ht := ht.lg h3.frz2
  (conv => whnf)
  refine ⟨_, ⟨rfl, hb.rdT fun _ _ h => h⟩, ?_⟩
  (conv => whnf)
  refine ⟨Tryz.k34.any, (Tryz.moveL_ok h t ht hf (t.edOf fr) (t.edOf fr) hx hx i1 hA).mono ?_⟩
  rintro _ σ₄ ⟨⟨_, _, rfl, ⟨a2, c2, rfl, i2⟩, a3, c3, rfl, i3⟩, h4⟩ -
  have hle4 := hle3.trans h4
  have hb := hb.le h4
  have ht := ht.lg h4.frz2
  have i1 := i1.lg h4.frz2
  have self := Tbl.move_self hf hx hA
  have n2 := (Tbl.lst_moveS hf hx hx hA).len hf
  have n3 := (Tbl.lst_moveC hf hx hx hA).len hf
  (conv => whnf)
  refine ⟨rfl, ?_⟩
  (conv => whnf)
  refine ⟨Tryz.k33.any, (Tryz.sameT_ok i2 i1 (by omega) (by omega) self.1).mono ?_⟩
  rintro _ σ' ⟨rfl, hσ'⟩ -
  obtain rfl := hσ'.symm
  (conv => whnf)
  refine ⟨Tryz.k33.any, (Tryz.sameT_ok i3 i1 (by omega) (by omega) self.2).mono ?_⟩
  rintro _ σ' ⟨rfl, hσ'⟩ -
  obtain rfl := hσ'.symm
  (conv => whnf)
  refine raw_min rfl rfl ?_
  (conv => whnf); (repeat (refine ⟨rfl, ?_⟩; conv => whnf))
  refine gb_split (fun hc => ?_) (fun hc => ?_)
  · have h1 : ¬ t.edOf ov < min (t.edOf fr) (t.edOf to) := by simpa using hc
    (conv => whnf)
    refine raw_max rfl rfl ?_
    (conv => whnf); (repeat (refine ⟨rfl, ?_⟩; conv => whnf))
    refine cb_split (fun hc => ?_) (fun hc => ?_)
    · (conv => whnf)
      refine ⟨Tryz.k26.any, (stocks _ hle4).mono ?_⟩
      rintro _ σ' ⟨rfl, hσ'⟩ -
      obtain rfl := hσ'.symm
      (conv => whnf); (repeat (refine ⟨rfl, ?_⟩; conv => whnf))
      exact hle4.lg
    have h2 : ¬ t.edOf ov > max (t.edOf fr) (t.edOf to) := by simpa using hc
    (conv => whnf)
    refine ⟨_, ⟨rfl, hb.rdT fun _ _ h => h⟩, ?_⟩
    (conv => whnf)
    refine ⟨Tryz.k34.any, (Tryz.moveL_ok h t ht hf (t.edOf fr) (t.edOf to) hx hy i1 hA).mono ?_⟩
    rintro _ σ₅ ⟨⟨_, _, rfl, ⟨a4, c4, rfl, i4⟩, a5, c5, rfl, i5⟩, h5⟩ -
    have hle5 := hle4.trans h5
    have hb := hb.le h5
    have ht := ht.lg h5.frz2
    have i1 := i1.lg h5.frz2
    have i2 := i2.lg h5.frz2
    have i3 := i3.lg h5.frz2
    (conv => whnf)
    refine ⟨_, ⟨rfl, hb.rdT fun _ _ h => h⟩, ?_⟩
    (conv => whnf)
    refine ⟨Tryz.k34.any, (Tryz.moveL_ok h t ht hf (t.edOf fr) (t.edOf ov) hx hm i1 hA).mono ?_⟩
    rintro _ σ₆ ⟨⟨_, _, rfl, ⟨a6, c6, rfl, i6⟩, a7, c7, rfl, i7⟩, h6⟩ -
    have hle6 := hle5.trans h6
    have hb := hb.le h6
    have ht := ht.lg h6.frz2
    have i1 := i1.lg h6.frz2
    have i2 := i2.lg h6.frz2
    have i3 := i3.lg h6.frz2
    have i4 := i4.lg h6.frz2
    have i5 := i5.lg h6.frz2
    have L6 := Tbl.lst_moveS hf hx hm hA
    have L7 := Tbl.lst_moveC hf hx hm hA
    (conv => whnf)
    refine ⟨_, ⟨rfl, hb.rdT fun _ _ h => h⟩, ?_⟩
    (conv => whnf)
    refine ⟨Tryz.k34.any, (Tryz.moveL_ok h t ht hf (t.edOf ov) (t.edOf to) hm hy i6 L6).mono ?_⟩
    rintro _ σ₇ ⟨⟨_, _, rfl, ⟨a8, c8, rfl, i8⟩, a9, c9, rfl, i9⟩, h7⟩ -
    have hle7 := hle6.trans h7
    have hb := hb.le h7
    have ht := ht.lg h7.frz2
    have i1 := i1.lg h7.frz2
    have i2 := i2.lg h7.frz2
    have i3 := i3.lg h7.frz2
    have i4 := i4.lg h7.frz2
    have i5 := i5.lg h7.frz2
    have i6 := i6.lg h7.frz2
    have i7 := i7.lg h7.frz2
    (conv => whnf)
    refine ⟨_, ⟨rfl, hb.rdT fun _ _ h => h⟩, ?_⟩
    (conv => whnf)
    refine ⟨Tryz.k34.any, (Tryz.moveL_ok h t ht hf (t.edOf ov) (t.edOf to) hm hy i7 L7).mono ?_⟩
    rintro _ σ₈ ⟨⟨_, _, rfl, ⟨b8, d8, rfl, j8⟩, b9, d9, rfl, j9⟩, h8⟩ -
    have hle8 := hle7.trans h8
    have hb := hb.le h8
    have ht := ht.lg h8.frz2
    have i1 := i1.lg h8.frz2
    have i2 := i2.lg h8.frz2
    have i3 := i3.lg h8.frz2
    have i4 := i4.lg h8.frz2
    have i5 := i5.lg h8.frz2
    have i6 := i6.lg h8.frz2
    have i7 := i7.lg h8.frz2
    have i8 := i8.lg h8.frz2
    have i9 := i9.lg h8.frz2
    have ovx := Tbl.move_over hf hx hy hA hm (by omega)
    have n4 := (Tbl.lst_moveS hf hx hy hA).len hf
    have n5 := (Tbl.lst_moveC hf hx hy hA).len hf
    have n8 := (Tbl.lst_moveS hf hm hy L6).len hf
    have n9 := (Tbl.lst_moveC hf hm hy L7).len hf
    (conv => whnf)
    refine ⟨rfl, ?_⟩
    (conv => whnf)
    refine ⟨rfl, ?_⟩
    (conv => whnf)
    refine ⟨rfl, ?_⟩
    (conv => whnf)
    refine ⟨rfl, ?_⟩
    (conv => whnf)
    refine ⟨Tryz.k33.any, (Tryz.sameT_ok i4 i8 (by omega) (by omega) ovx.1).mono ?_⟩
    rintro _ σ' ⟨rfl, hσ'⟩ -
    obtain rfl := hσ'.symm
    (conv => whnf)
    refine ⟨Tryz.k33.any, (Tryz.sameT_ok i5 j9 (by omega) (by omega) ovx.2).mono ?_⟩
    rintro _ σ' ⟨rfl, hσ'⟩ -
    obtain rfl := hσ'.symm
    (conv => whnf)
    refine ⟨Tryz.k26.any, (stocks _ hle8).mono ?_⟩
    rintro _ σ' ⟨rfl, hσ'⟩ -
    obtain rfl := hσ'.symm
    (conv => whnf); (repeat (refine ⟨rfl, ?_⟩; conv => whnf))
    exact hle8.lg
  · (conv => whnf)
    refine ⟨Tryz.k26.any, (stocks _ hle4).mono ?_⟩
    rintro _ σ' ⟨rfl, hσ'⟩ -
    obtain rfl := hσ'.symm
    (conv => whnf); (repeat (refine ⟨rfl, ?_⟩; conv => whnf))
    exact hle4.lg
end Go.Proofs
