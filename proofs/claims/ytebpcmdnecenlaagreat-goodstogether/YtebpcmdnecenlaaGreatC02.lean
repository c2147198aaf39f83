/- A part of the proof: lemmas that the last text uses. No conditions of its own. -/
import Derived.Test.YtebpcmdnecenlaaGreatB26
import Derived.Test.YtebpcmdnecenlaaGreatC01
import Derived.Test.YtebpcmdnecenlaaGreatB29
import Derived.Test.YtebpcmdnecenlaaGreatB08
import Derived.Test.YtebpcmdnecenlaaGreatB09
import Derived.Test.YtebpcmdnecenlaaGreatB10
import Derived.Test.YtebpcmdnecenlaaGreatC00
set_option linter.unusedSimpArgs false
set_option linter.unusedVariables false
namespace Go.Proofs
open Go.TM
set_option maxRecDepth 100000
attribute [local irreducible] CallsV YieldV rngX
set_option maxHeartbeats 4000000 in
theorem Tryz.goodsTogether_top {σ : View Tk} (htok : σ.tok = ⟨0, .out⟩) (h : TH) (t : Tbl) (ht : TabV σ.frz h t) (fr : Nat) (hfr : fr < 256) (to : Nat) (hto : to < 256) (bits : Nat) (hbits : bits < 256) (ot : Nat) (hot : ot < 256) :
    J (SysG Tryz.prog 164 2) (Fin Tryz.prog fun v σ' => v = .bool true ∧ σ.lg σ') true (Rf (Frame.enter Tryz.prog 10 #[h.v, .int .u8 fr, .int .u8 to, .int .u8 bits, .int .u8 ot] .normal) []) σ := by
  refine top_of (args := [_, _, _, _, _]) (Q := fun v σ' => v = .bool true ∧ σ.lg σ') Tryz.k10 Tryz.mixed (by kernel_rfl) (by simp) (fun v σ' q => q.2.tok.trans htok) ?_
  (conv => whnf); (repeat (refine ⟨rfl, ?_⟩; conv => whnf))
  intro b σ₁ hle1 hb
  have hb : Blk σ₁ b #[.slice h.ea h.el h.ec, .slice h.ma h.ml h.mc, .slice h.ka h.kl h.kc] := hb
  have ht := ht.lg hle1.frz2
  have stocks : ∀ σ₂ : View Tk, σ.le σ₂ → CallsV (SysG Tryz.prog 164 2) 26 #[] (fun v σ' => v = .bool true ∧ σ' = σ₂) σ₂ := fun σ₂ h => Tryz.stocks_ok (h.tok.trans htok)
  (conv => whnf)
  refine ⟨_, ⟨rfl, hb.rdT fun _ _ h => h⟩, ?_⟩
  (conv => whnf)
  refine ⟨Tryz.k48.any, (Tryz.fit_ok h t (ht.lg frz_self)).mono ?_⟩
  rintro _ σ' ⟨⟨B, rfl, hB⟩, hσ'⟩ -
  obtain rfl := hσ'.symm
  (conv => whnf); (repeat (refine ⟨rfl, ?_⟩; conv => whnf))
  refine cb_split (fun hc => ?_) (fun hc => ?_)
  · (conv => whnf)
    refine ⟨Tryz.k26.any, (stocks _ hle1).mono ?_⟩
    rintro _ σ' ⟨rfl, hσ'⟩ -
    obtain rfl := hσ'.symm
    (conv => whnf); (repeat (refine ⟨rfl, ?_⟩; conv => whnf))
    exact hle1.lg
  have hf : t.flaw = 0 := hB (by simpa using hc)
  have hx := Tbl.isEd_of hf fr
  have hy := Tbl.isEd_of hf to
  have hA := t.lst_chosen (t.edOf fr) bits
  have nA := hA.len hf
  have hB := t.lst_chosen (t.edOf fr) ot
  have nB := hB.len hf
  have hU := Tbl.lst_union hf hA hB
  have hK := hA.common (t.chosen (t.edOf fr) ot)
  (conv => whnf)
  refine ⟨_, ⟨rfl, hb.rdT fun _ _ h => h⟩, ?_⟩
  (conv => whnf)
  refine ⟨.int .i64 (t.edOf fr), fun σ' hle _ => ?_, ?_⟩
  · (conv => whnf)
    refine ⟨Tryz.k49.any, (Tryz.edOf_ok h t (ht.lg hle.frz1) hf fr hfr).mono ?_⟩
    rintro _ σ'' ⟨rfl, hσ⟩ -
    exact ⟨rfl, _, .refl _, hσ ▸ .refl _⟩
  (conv => whnf)
  refine ⟨_, ⟨rfl, hb.rdT fun _ _ h => h⟩, ?_⟩
  (conv => whnf)
  intro σ₂ h2 hC
  have hle2 := hle1.trans h2
  have hb := hb.le h2
  have ht := ht.lg h2.frz2
  (conv => whnf)
  refine ⟨Tryz.k49.any, (Tryz.edOf_ok h t (ht.lg frz_self) hf to hto).mono ?_⟩
  rintro _ σ' ⟨rfl, hσ'⟩ -
  obtain rfl := hσ'.symm
  (conv => whnf)
  refine ⟨_, ⟨rfl, hb.rdT fun _ _ h => h⟩, ?_⟩
  (conv => whnf)
  refine ⟨_, ⟨rfl, hb.rdT fun _ _ h => h⟩, ?_⟩
  (conv => whnf)
  refine ⟨fun v σ' => LstV σ' v ((t.chosen (t.edOf fr) bits)), fun v σ₁ σ₂ hv hle => hv.le hle, fun σ' hle _ => ?_, fun v _ => ?_⟩
  · (conv => whnf)
    refine ⟨Tryz.k50.any, (Tryz.chosenL_ok h t (ht.lg hle.frz2) hf (t.edOf fr) hx bits hbits).mono ?_⟩
    rintro v σ'' ⟨hv, hle'⟩ -
    exact ⟨σ'', .refl _, hv, hle'⟩
  (conv => whnf)
  intro σ₃ h3 hC
  have hle3 := hle2.trans h3
  have hb := hb.le h3
  have ht := ht.lg h3.frz2
  obtain ⟨-, a1, c1, rfl, i1⟩ := hC
  (conv => whnf)
  refine ⟨Tryz.k50.any, (Tryz.chosenL_ok h t ht hf (t.edOf fr) hx ot hot).mono ?_⟩
  rintro _ σ₄ ⟨⟨a2, c2, rfl, i2⟩, h4⟩ -
  have hle4 := hle3.trans h4
  have hb := hb.le h4
  have ht := ht.lg h4.frz2
  have i1 := i1.lg h4.frz2
  (conv => whnf)
  refine ⟨_, ⟨rfl, hb.rdT fun _ _ h => h⟩, ?_⟩
  (conv => whnf)
  refine ⟨Tryz.k34.any, (Tryz.moveL_ok h t ht hf (t.edOf fr) (t.edOf to) hx hy i1 hA).mono ?_⟩
  rintro _ σ₅ ⟨⟨_, _, rfl, ⟨a3, c3, rfl, i3⟩, a4, c4, rfl, i4⟩, h5⟩ -
  have hle5 := hle4.trans h5
  have hb := hb.le h5
  have ht := ht.lg h5.frz2
  have i1 := i1.lg h5.frz2
  have i2 := i2.lg h5.frz2
  (conv => whnf)
  refine ⟨_, ⟨rfl, hb.rdT fun _ _ h => h⟩, ?_⟩
  (conv => whnf)
  refine ⟨Tryz.k34.any, (Tryz.moveL_ok h t ht hf (t.edOf fr) (t.edOf to) hx hy i2 hB).mono ?_⟩
  rintro _ σ₆ ⟨⟨_, _, rfl, ⟨a5, c5, rfl, i5⟩, a6, c6, rfl, i6⟩, h6⟩ -
  have hle6 := hle5.trans h6
  have hb := hb.le h6
  have ht := ht.lg h6.frz2
  have i1 := i1.lg h6.frz2
  have i2 := i2.lg h6.frz2
  have i3 := i3.lg h6.frz2
  have i4 := i4.lg h6.frz2
  (conv => whnf)
  refine ⟨_, ⟨rfl, hb.rdT fun _ _ h => h⟩, ?_⟩
  (conv => whnf)
  refine ⟨fun v σ' => LstV σ' v (unionL (t.chosen (t.edOf fr) bits) (t.chosen (t.edOf fr) ot)), fun v σ₁ σ₂ hv hle => hv.le hle, fun σ' hle hC => ?_, fun v hv => ?_⟩
  · (conv => whnf)
    refine ⟨Tryz.k54.any, (Tryz.unionL_ok (i1.lg hle.frz2) (i2.lg hle.frz2) (by omega) (by omega)).mono ?_⟩
    rintro v σ'' ⟨hv, hle'⟩ -
    exact ⟨σ'', .refl _, hv, hle'⟩
  obtain ⟨_, -, -, a7, c7, rfl, -⟩ := hv
  (conv => whnf)
  refine ⟨fun v σ' => MovV σ' v (t.moveS (t.edOf fr) (t.edOf to) (unionL (t.chosen (t.edOf fr) bits) (t.chosen (t.edOf fr) ot))) (t.moveC (t.edOf fr) (t.edOf to) (unionL (t.chosen (t.edOf fr) bits) (t.chosen (t.edOf fr) ot))), fun v σ₁ σ₂ hv hle => hv.le hle, fun σ' hle hC => ?_, fun v hv => ?_⟩
  · obtain ⟨-, hv1⟩ := hC
    (conv => whnf)
    refine ⟨Tryz.k34.any, (Tryz.moveL_ok h t (ht.lg hle.frz2) hf (t.edOf fr) (t.edOf to) hx hy hv1.at hU).mono ?_⟩
    rintro v σ'' ⟨hv, hle'⟩ -
    exact ⟨σ'', .refl _, hv, hle'⟩
  obtain ⟨_, -, -, _, _, rfl, ⟨a8, c8, rfl, -⟩, a9, c9, rfl, -⟩ := hv
  (conv => whnf)
  intro σ₇ h7 hC
  have hle7 := hle6.trans h7
  have hb := hb.le h7
  have ht := ht.lg h7.frz2
  have i1 := i1.lg h7.frz2
  have i2 := i2.lg h7.frz2
  have i3 := i3.lg h7.frz2
  have i4 := i4.lg h7.frz2
  have i5 := i5.lg h7.frz2
  have i6 := i6.lg h7.frz2
  obtain ⟨-, hv2⟩ := hC
  obtain ⟨i8, i9⟩ := hv2.at
  (conv => whnf)
  refine ⟨_, ⟨rfl, hb.rdT fun _ _ h => h⟩, ?_⟩
  (conv => whnf)
  refine ⟨fun v σ' => LstV σ' v (commonL (t.chosen (t.edOf fr) bits) (t.chosen (t.edOf fr) ot)), fun v σ₁ σ₂ hv hle => hv.le hle, fun σ' hle hC => ?_, fun v hv => ?_⟩
  · (conv => whnf)
    refine ⟨Tryz.k55.any, (Tryz.commonL_ok (i1.lg hle.frz2) (i2.lg hle.frz2) (by omega) (by omega)).mono ?_⟩
    rintro v σ'' ⟨hv, hle'⟩ -
    exact ⟨σ'', .refl _, hv, hle'⟩
  obtain ⟨_, -, -, b7, d7, rfl, -⟩ := hv
  (conv => whnf)
  refine ⟨fun v σ' => MovV σ' v (t.moveS (t.edOf fr) (t.edOf to) (commonL (t.chosen (t.edOf fr) bits) (t.chosen (t.edOf fr) ot))) (t.moveC (t.edOf fr) (t.edOf to) (commonL (t.chosen (t.edOf fr) bits) (t.chosen (t.edOf fr) ot))), fun v σ₁ σ₂ hv hle => hv.le hle, fun σ' hle hC => ?_, fun v hv => ?_⟩
  · obtain ⟨-, hv1⟩ := hC
    (conv => whnf)
    refine ⟨Tryz.k34.any, (Tryz.moveL_ok h t (ht.lg hle.frz2) hf (t.edOf fr) (t.edOf to) hx hy hv1.at hK).mono ?_⟩
    rintro v σ'' ⟨hv, hle'⟩ -
    exact ⟨σ'', .refl _, hv, hle'⟩
  obtain ⟨_, -, -, _, _, rfl, ⟨b8, d8, rfl, -⟩, b9, d9, rfl, -⟩ := hv
  (conv => whnf)
  intro σ₈ h8 hC
  have hle8 := hle7.trans h8
  have hb := hb.le h8
  have ht := ht.lg h8.frz2
  have i1 := i1.lg h8.frz2
  have i2 := i2.lg h8.frz2
  have i3 := i3.lg h8.frz2
  have i4 := i4.lg h8.frz2
  have i5 := i5.lg h8.frz2
  have i6 := i6.lg h8.frz2
  have i8 := i8.lg h8.frz2
  have i9 := i9.lg h8.frz2
  obtain ⟨-, hv2⟩ := hC
  obtain ⟨j8, j9⟩ := hv2.at
  have L3 := Tbl.lst_moveS hf hx hy hA
  have L4 := Tbl.lst_moveC hf hx hy hA
  have L5 := Tbl.lst_moveS hf hx hy hB
  have L6 := Tbl.lst_moveC hf hx hy hB
  have n3 := L3.len hf
  have n4 := L4.len hf
  have n5 := L5.len hf
  have n6 := L6.len hf
  have L9 := Tbl.lst_moveC hf hx hy hU
  have M8 := Tbl.lst_moveS hf hx hy hK
  have n9 := L9.len hf
  have m8 := M8.len hf
  have LU := Tbl.lst_union hf L4 L6
  have nU := LU.len hf
  have LC := L3.common (t.moveS (t.edOf fr) (t.edOf to) (t.chosen (t.edOf fr) ot))
  have nC := LC.len hf
  have e1 : t.moveC (t.edOf fr) (t.edOf to) (unionL (t.chosen (t.edOf fr) bits) (t.chosen (t.edOf fr) ot)) = unionL (t.moveC (t.edOf fr) (t.edOf to) (t.chosen (t.edOf fr) bits)) (t.moveC (t.edOf fr) (t.edOf to) (t.chosen (t.edOf fr) ot)) := asc_ext L9.asc LU.asc fun z => by
    rw [mem_unionL (L4.lt hf) (L6.lt hf)]
    exact Tbl.move_one hf hx hy hA hB hU (fun z => mem_unionL (hA.lt hf) (hB.lt hf)) z
  have e2 : t.moveS (t.edOf fr) (t.edOf to) (commonL (t.chosen (t.edOf fr) bits) (t.chosen (t.edOf fr) ot)) = commonL (t.moveS (t.edOf fr) (t.edOf to) (t.chosen (t.edOf fr) bits)) (t.moveS (t.edOf fr) (t.edOf to) (t.chosen (t.edOf fr) ot)) := asc_ext M8.asc LC.asc fun z => by
    rw [mem_commonL]
    exact Tbl.move_both hf hx hy hA hB hK (fun z => mem_commonL) z
  (conv => whnf)
  refine ⟨rfl, ?_⟩
  (conv => whnf)
  refine ⟨rfl, ?_⟩
  (conv => whnf)
  refine ⟨rfl, ?_⟩
  (conv => whnf)
  refine ⟨rfl, ?_⟩
  (conv => whnf)
  refine ⟨Tryz.k54.any, (Tryz.unionL_ok i4 i6 (by omega) (by omega)).mono ?_⟩
  rintro _ σ₉ ⟨⟨a10, c10, rfl, i10⟩, h9⟩ -
  have hle9 := hle8.trans h9
  have hb := hb.le h9
  have ht := ht.lg h9.frz2
  have i1 := i1.lg h9.frz2
  have i2 := i2.lg h9.frz2
  have i3 := i3.lg h9.frz2
  have i4 := i4.lg h9.frz2
  have i5 := i5.lg h9.frz2
  have i6 := i6.lg h9.frz2
  have i8 := i8.lg h9.frz2
  have i9 := i9.lg h9.frz2
  have j8 := j8.lg h9.frz2
  have j9 := j9.lg h9.frz2
  (conv => whnf)
  refine ⟨Tryz.k33.any, (Tryz.sameT_ok i9 i10 (by omega) (by omega) e1).mono ?_⟩
  rintro _ σ' ⟨rfl, hσ'⟩ -
  obtain rfl := hσ'.symm
  (conv => whnf)
  refine ⟨Tryz.k55.any, (Tryz.commonL_ok i3 i5 (by omega) (by omega)).mono ?_⟩
  rintro _ σ₁₀ ⟨⟨a11, c11, rfl, i11⟩, h10⟩ -
  have hle10 := hle9.trans h10
  have hb := hb.le h10
  have ht := ht.lg h10.frz2
  have i1 := i1.lg h10.frz2
  have i2 := i2.lg h10.frz2
  have i3 := i3.lg h10.frz2
  have i4 := i4.lg h10.frz2
  have i5 := i5.lg h10.frz2
  have i6 := i6.lg h10.frz2
  have i8 := i8.lg h10.frz2
  have i9 := i9.lg h10.frz2
  have j8 := j8.lg h10.frz2
  have j9 := j9.lg h10.frz2
  have i10 := i10.lg h10.frz2
  (conv => whnf)
  refine ⟨Tryz.k33.any, (Tryz.sameT_ok j8 i11 (by omega) (by omega) e2).mono ?_⟩
  rintro _ σ' ⟨rfl, hσ'⟩ -
  obtain rfl := hσ'.symm
  (conv => whnf)
  refine ⟨Tryz.k26.any, (stocks _ hle10).mono ?_⟩
  rintro _ σ' ⟨rfl, hσ'⟩ -
  obtain rfl := hσ'.symm
  (conv => whnf); (repeat (refine ⟨rfl, ?_⟩; conv => whnf))
  exact hle10.lg
end Go.Proofs
