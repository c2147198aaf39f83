/- A part of the proof: lemmas that the last text uses. No conditions of its own. -/
import Derived.Test.YtebpcmdnecenlaaGreatB26
import Derived.Test.YtebpcmdnecenlaaGreatC01
import Derived.Test.YtebpcmdnecenlaaGreatB29
import Derived.Test.YtebpcmdnecenlaaGreatB08
import Derived.Test.YtebpcmdnecenlaaGreatB09
import Derived.Test.YtebpcmdnecenlaaGreatB10
import Derived.Test.YtebpcmdnecenlaaGreatC00
set_option linter.unusedSimpArgs false
set_option linter.unusedVariables false
namespace Go.Proofs
open Go.TM
set_option maxRecDepth 100000
attribute [local irreducible] CallsV YieldV rngX
set_option maxHeartbeats 4000000 in
theorem Tryz.goodsLonger_top {σ : View Tk} (htok : σ.tok = ⟨0, .out⟩) (h : TH) (t : Tbl) (ht : TabV σ.frz h t) (fr : Nat) (hfr : fr < 256) (to : Nat) (hto : to < 256) (bits : Nat) (hbits : bits < 256) (more : Nat) (hmore : more < 256) :
    J (SysG Tryz.prog 164 2) (Fin Tryz.prog fun v σ' => v = .bool true ∧ σ.lg σ') true (Rf (Frame.enter Tryz.prog 9 #[h.v, .int .u8 fr, .int .u8 to, .int .u8 bits, .int .u8 more] .normal) []) σ := by
  refine top_of (args := [_, _, _, _, _]) (Q := fun v σ' => v = .bool true ∧ σ.lg σ') Tryz.k9 Tryz.mixed (by kernel_rfl) (by simp) (fun v σ' q => q.2.tok.trans htok) ?_
  (conv => whnf); (repeat (refine ⟨rfl, ?_⟩; conv => whnf))
  intro b σ₁ hle1 hb
  have hb : Blk σ₁ b #[.slice h.ea h.el h.ec, .slice h.ma h.ml h.mc, .slice h.ka h.kl h.kc] := hb
  have ht := ht.lg hle1.frz2
  have stocks : ∀ σ₂ : View Tk, σ.le σ₂ → CallsV (SysG Tryz.prog 164 2) 26 #[] (fun v σ' => v = .bool true ∧ σ' = σ₂) σ₂ := fun σ₂ h => Tryz.stocks_ok (h.tok.trans htok)
  (conv => whnf)
  refine ⟨_, ⟨rfl, hb.rdT fun _ _ h => h⟩, ?_⟩
  (conv => whnf)
  refine ⟨Tryz.k48.any, (Tryz.fit_ok h t (ht.lg frz_self)).mono ?_⟩
  rintro _ σ' ⟨⟨B, rfl, hB⟩, hσ'⟩ -
  obtain rfl := hσ'.symm
  (conv => whnf); (repeat (refine ⟨rfl, ?_⟩; conv => whnf))
  refine cb_split (fun hc => ?_) (fun hc => ?_)
  · (conv => whnf)
    refine ⟨Tryz.k26.any, (stocks _ hle1).mono ?_⟩
    rintro _ σ' ⟨rfl, hσ'⟩ -
    obtain rfl := hσ'.symm
    (conv => whnf); (repeat (refine ⟨rfl, ?_⟩; conv => whnf))
    exact hle1.lg
  have hf : t.flaw = 0 := hB (by simpa using hc)
  have hx := Tbl.isEd_of hf fr
  have hy := Tbl.isEd_of hf to
  have hA := t.lst_chosen (t.edOf fr) bits
  have hB := t.lst_chosen (t.edOf fr) (bits ||| more)
  have hor := bor8 bits more hbits hmore
  (conv => whnf)
  refine ⟨_, ⟨rfl, hb.rdT fun _ _ h => h⟩, ?_⟩
  (conv => whnf)
  refine ⟨.int .i64 (t.edOf fr), fun σ' hle _ => ?_, ?_⟩
  · (conv => whnf)
    refine ⟨Tryz.k49.any, (Tryz.edOf_ok h t (ht.lg hle.frz1) hf fr hfr).mono ?_⟩
    rintro _ σ'' ⟨rfl, hσ⟩ -
    exact ⟨rfl, _, .refl _, hσ ▸ .refl _⟩
  (conv => whnf)
  refine ⟨_, ⟨rfl, hb.rdT fun _ _ h => h⟩, ?_⟩
  (conv => whnf)
  intro σ₂ h2 hC
  have hle2 := hle1.trans h2
  have hb := hb.le h2
  have ht := ht.lg h2.frz2
  (conv => whnf)
  refine ⟨Tryz.k49.any, (Tryz.edOf_ok h t (ht.lg frz_self) hf to hto).mono ?_⟩
  rintro _ σ' ⟨rfl, hσ'⟩ -
  obtain rfl := hσ'.symm
  (conv => whnf)
  refine ⟨_, ⟨rfl, hb.rdT fun _ _ h => h⟩, ?_⟩
  (conv => whnf)
  refine ⟨_, ⟨rfl, hb.rdT fun _ _ h => h⟩, ?_⟩
  (conv => whnf); (repeat (refine ⟨rfl, ?_⟩; conv => whnf))
  rw [hor.1]
  (conv => whnf)
  refine ⟨fun v σ' => LstV σ' v (t.chosen (t.edOf fr) bits), fun v σ₁ σ₂ hv hle => hv.le hle, fun σ' hle _ => ?_, fun v => ?_⟩
  · (conv => whnf)
    refine ⟨Tryz.k50.any, (Tryz.chosenL_ok h t (ht.lg hle.frz2) hf (t.edOf fr) hx bits hbits).mono ?_⟩
    rintro v σ'' ⟨hv, hle'⟩ -
    exact ⟨σ'', .refl _, hv, hle'⟩
  (conv => whnf)
  intro σ₃ h3 hC
  have hle3 := hle2.trans h3
  have hb := hb.le h3
  have ht := ht.lg h3.frz2
  obtain ⟨-, a1, c1, rfl, i1⟩ := hC
  (conv => whnf)
  refine ⟨Tryz.k50.any, (Tryz.chosenL_ok h t ht hf (t.edOf fr) hx (bits ||| more) hor.2).mono ?_⟩
  rintro _ σ₄ ⟨⟨a2, c2, rfl, i2⟩, h4⟩ -
  have hle4 := hle3.trans h4
  have hb := hb.le h4
  have ht := ht.lg h4.frz2
  have i1 := i1.lg h4.frz2
  (conv => whnf)
  refine ⟨_, ⟨rfl, hb.rdT fun _ _ h => h⟩, ?_⟩
  (conv => whnf)
  refine ⟨Tryz.k34.any, (Tryz.moveL_ok h t ht hf (t.edOf fr) (t.edOf to) hx hy i1 hA).mono ?_⟩
  rintro _ σ₅ ⟨⟨_, _, rfl, ⟨a3, c3, rfl, i3⟩, a4, c4, rfl, i4⟩, h5⟩ -
  have hle5 := hle4.trans h5
  have hb := hb.le h5
  have ht := ht.lg h5.frz2
  have i1 := i1.lg h5.frz2
  have i2 := i2.lg h5.frz2
  (conv => whnf)
  refine ⟨_, ⟨rfl, hb.rdT fun _ _ h => h⟩, ?_⟩
  (conv => whnf)
  refine ⟨Tryz.k34.any, (Tryz.moveL_ok h t ht hf (t.edOf fr) (t.edOf to) hx hy i2 hB).mono ?_⟩
  rintro _ σ₆ ⟨⟨_, _, rfl, ⟨a5, c5, rfl, i5⟩, a6, c6, rfl, i6⟩, h6⟩ -
  have hle6 := hle5.trans h6
  have hb := hb.le h6
  have ht := ht.lg h6.frz2
  have i1 := i1.lg h6.frz2
  have i2 := i2.lg h6.frz2
  have i3 := i3.lg h6.frz2
  have i4 := i4.lg h6.frz2
  have hSub : Sub (t.chosen (t.edOf fr) bits) (t.chosen (t.edOf fr) (bits ||| more)) := fun z hz => by
    rw [Tbl.mem_chosen] at hz ⊢
    exact ⟨hz.1, by rw [Nat.testBit_or, hz.2]; rfl⟩
  have s1 := Tbl.move_sub hf hx hy hA
  have s2 := Tbl.move_sub hf hx hy hB
  have s3 := Tbl.moveS_mono hf hx hy hA hB hSub
  have s4 := Tbl.moveC_mono hf hx hy hA hB hSub
  have L3 := Tbl.lst_moveS hf hx hy hA
  have L4 := Tbl.lst_moveC hf hx hy hA
  have L5 := Tbl.lst_moveS hf hx hy hB
  have L6 := Tbl.lst_moveC hf hx hy hB
  have n3 := L3.len hf
  have n4 := L4.len hf
  have n5 := L5.len hf
  have n6 := L6.len hf
  (conv => whnf)
  refine ⟨rfl, ?_⟩
  (conv => whnf)
  refine ⟨rfl, ?_⟩
  (conv => whnf)
  refine ⟨Tryz.k51.any, (Tryz.withinT_ok i3 i4 (by omega) (by omega) s1).mono ?_⟩
  rintro _ σ' ⟨rfl, hσ'⟩ -
  obtain rfl := hσ'.symm
  (conv => whnf)
  refine ⟨Tryz.k51.any, (Tryz.withinT_ok i5 i6 (by omega) (by omega) s2).mono ?_⟩
  rintro _ σ' ⟨rfl, hσ'⟩ -
  obtain rfl := hσ'.symm
  (conv => whnf)
  refine ⟨Tryz.k51.any, (Tryz.withinT_ok i3 i5 (by omega) (by omega) s3).mono ?_⟩
  rintro _ σ' ⟨rfl, hσ'⟩ -
  obtain rfl := hσ'.symm
  (conv => whnf)
  refine ⟨Tryz.k51.any, (Tryz.withinT_ok i4 i6 (by omega) (by omega) s4).mono ?_⟩
  rintro _ σ' ⟨rfl, hσ'⟩ -
  obtain rfl := hσ'.symm
  (conv => whnf)
  refine ⟨_, ⟨rfl, hb.rdT fun _ _ h => h⟩, ?_⟩
  (conv => whnf)
  refine ⟨Tryz.k31.any, (Tryz.chkL_ok h t ht hf (t.edOf to) hy i3 L3).mono ?_⟩
  rintro _ σ' ⟨rfl, hσ'⟩ -
  obtain rfl := hσ'.symm
  (conv => whnf)
  refine ⟨rfl, ?_⟩
  (conv => whnf)
  refine ⟨_, ⟨rfl, hb.rdT fun _ _ h => h⟩, ?_⟩
  (conv => whnf)
  refine ⟨Tryz.k31.any, (Tryz.chkL_ok h t ht hf (t.edOf to) hy i6 L6).mono ?_⟩
  rintro _ σ' ⟨rfl, hσ'⟩ -
  obtain rfl := hσ'.symm
  (conv => whnf)
  refine ⟨rfl, ?_⟩
  (conv => whnf)
  refine ⟨_, ⟨rfl, hb.rdT fun _ _ h => h⟩, ?_⟩
  (conv => whnf)
  refine ⟨Tryz.k31.any, (Tryz.chkL_ok h t ht hf (t.edOf to) hy i4 L4).mono ?_⟩
  rintro _ σ' ⟨rfl, hσ'⟩ -
  obtain rfl := hσ'.symm
  (conv => whnf)
  refine ⟨rfl, ?_⟩
  (conv => whnf)
  refine ⟨_, ⟨rfl, hb.rdT fun _ _ h => h⟩, ?_⟩
  (conv => whnf)
  refine ⟨Tryz.k31.any, (Tryz.chkL_ok h t ht hf (t.edOf to) hy i5 L5).mono ?_⟩
  rintro _ σ' ⟨rfl, hσ'⟩ -
  obtain rfl := hσ'.symm
  (conv => whnf)
  refine ⟨rfl, ?_⟩
  (conv => whnf)
  refine ⟨Tryz.k26.any, (stocks _ hle6).mono ?_⟩
  rintro _ σ' ⟨rfl, hσ'⟩ -
  obtain rfl := hσ'.symm
  (conv => whnf); (repeat (refine ⟨rfl, ?_⟩; conv => whnf))
  exact hle6.lg
end Go.Proofs
