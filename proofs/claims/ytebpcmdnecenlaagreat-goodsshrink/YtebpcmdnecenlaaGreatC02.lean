/- A part of the proof: lemmas that the last text uses. No conditions of its own. -/
import Derived.Test.YtebpcmdnecenlaaGreatB26
import Derived.Test.YtebpcmdnecenlaaGreatC01
import Derived.Test.YtebpcmdnecenlaaGreatB29
import Derived.Test.YtebpcmdnecenlaaGreatB08
import Derived.Test.YtebpcmdnecenlaaGreatB09
import Derived.Test.YtebpcmdnecenlaaGreatB10
import Derived.Test.YtebpcmdnecenlaaGreatC00
set_option linter.unusedSimpArgs false
set_option linter.unusedVariables false
namespace Go.Proofs
open Go.TM
set_option maxRecDepth 100000
attribute [local irreducible] CallsV YieldV rngX
set_option maxHeartbeats 4000000 in
theorem Tryz.goodsShrink_top {σ : View Tk} (htok : σ.tok = ⟨0, .out⟩) (h : TH) (t : Tbl) (ht : TabV σ.frz h t) (ed : Nat) (hed : ed < 256) (bits : Nat) (hbits : bits < 256) (pka : Option Addr) (pkl pkc : Nat) (pk : List Nat) (hpk : U16s σ.frz pka pkl pk) (hlpk : pkl < 2 ^ 60) :
    J (SysG Tryz.prog 164 2) (Fin Tryz.prog fun v σ' => v = .bool true ∧ σ.lg σ') true (Rf (Frame.enter Tryz.prog 12 #[h.v, .int .u8 ed, .int .u8 bits, .slice pka pkl pkc] .normal) []) σ := by
  refine top_of (args := [_, _, _, _]) (Q := fun v σ' => v = .bool true ∧ σ.lg σ') Tryz.k12 Tryz.mixed (by kernel_rfl) (by simp) (fun v σ' q => q.2.tok.trans htok) ?_
  (conv => whnf); (repeat (refine ⟨rfl, ?_⟩; conv => whnf))
  intro b σ₁ hle1 hb
  have hb : Blk σ₁ b #[.slice h.ea h.el h.ec, .slice h.ma h.ml h.mc, .slice h.ka h.kl h.kc] := hb
  have ht := ht.lg hle1.frz2
  have hpk := hpk.lg hle1.frz2
  have stocks : ∀ σ₂ : View Tk, σ.le σ₂ → CallsV (SysG Tryz.prog 164 2) 26 #[] (fun v σ' => v = .bool true ∧ σ' = σ₂) σ₂ := fun σ₂ h => Tryz.stocks_ok (h.tok.trans htok)
  (conv => whnf)
  refine ⟨_, ⟨rfl, hb.rdT fun _ _ h => h⟩, ?_⟩
  (conv => whnf)
  refine ⟨Tryz.k48.any, (Tryz.fit_ok h t (ht.lg frz_self)).mono ?_⟩
  rintro _ σ' ⟨⟨B, rfl, hB⟩, hσ'⟩ -
  obtain rfl := hσ'.symm
  (conv => whnf); (repeat (refine ⟨rfl, ?_⟩; conv => whnf))
  refine cb_split (fun hc => ?_) (fun hc => ?_)
  · (conv => whnf)
    refine ⟨Tryz.k26.any, (stocks _ hle1).mono ?_⟩
    rintro _ σ' ⟨rfl, hσ'⟩ -
    obtain rfl := hσ'.symm
    (conv => whnf); (repeat (refine ⟨rfl, ?_⟩; conv => whnf))
    exact hle1.lg
  have hf : t.flaw = 0 := hB (by simpa using hc)
  have he := Tbl.isEd_of hf ed
  have hA := t.lst_chosen (t.edOf ed) bits
  have nA := hA.len hf
  obtain ⟨c4, cL⟩ := t.cutsOf_ok (t.edOf ed) pk
  have hL := hA.filter (letAll (t.cutsOf (t.edOf ed) pk))
  have nL := hL.len hf
  (conv => whnf)
  refine ⟨_, ⟨rfl, hb.rdT fun _ _ h => h⟩, ?_⟩
  (conv => whnf)
  refine ⟨Tryz.k49.any, (Tryz.edOf_ok h t (ht.lg frz_self) hf ed hed).mono ?_⟩
  rintro _ σ' ⟨rfl, hσ'⟩ -
  obtain rfl := hσ'.symm
  (conv => whnf)
  refine ⟨_, ⟨rfl, hb.rdT fun _ _ h => h⟩, ?_⟩
  (conv => whnf)
  refine ⟨_, ⟨rfl, hb.rdT fun _ _ h => h⟩, ?_⟩
  (conv => whnf)
  refine ⟨fun v σ' => LstV σ' v ((t.chosen (t.edOf ed) bits)), fun v σ₁ σ₂ hv hle => hv.le hle, fun σ' hle _ => ?_, fun v _ => ?_⟩
  · (conv => whnf)
    refine ⟨Tryz.k50.any, (Tryz.chosenL_ok h t (ht.lg hle.frz2) hf (t.edOf ed) he bits hbits).mono ?_⟩
    rintro v σ'' ⟨hv, hle'⟩ -
    exact ⟨σ'', .refl _, hv, hle'⟩
  (conv => whnf)
  intro σ₂ h2 hC
  have hle2 := hle1.trans h2
  have hb := hb.le h2
  have ht := ht.lg h2.frz2
  have hpk := hpk.lg h2.frz2
  obtain ⟨-, a1, c1, rfl, i1⟩ := hC
  (conv => whnf)
  refine ⟨Tryz.k56.any, (Tryz.cuts_ok h t ht hf (t.edOf ed) he pka pkl pkc pk hpk).mono ?_⟩
  rintro _ σ₃ ⟨⟨a2, c2, rfl, -, i2⟩, h3⟩ -
  have hle3 := hle2.trans h3
  have hb := hb.le h3
  have ht := ht.lg h3.frz2
  have hpk := hpk.lg h3.frz2
  have i1 := i1.lg h3.frz2
  (conv => whnf)
  refine ⟨_, ⟨rfl, hb.rdT fun _ _ h => h⟩, ?_⟩
  (conv => whnf)
  refine ⟨Tryz.k37.any, (Tryz.cutL_ok h t ht hf (t.edOf ed) he i1 hA i2 c4 cL).mono ?_⟩
  rintro _ σ₄ ⟨⟨_, rfl, a3, c3, rfl, i3⟩, h4⟩ -
  have hle4 := hle3.trans h4
  have hb := hb.le h4
  have ht := ht.lg h4.frz2
  have hpk := hpk.lg h4.frz2
  have i1 := i1.lg h4.frz2
  have i2 := i2.lg h4.frz2
  (conv => whnf)
  refine ⟨rfl, ?_⟩
  (conv => whnf)
  refine ⟨Tryz.k51.any, (Tryz.withinT_ok i3 i1 (by omega) (by omega) (fun z hz => (List.mem_filter.1 hz).1)).mono ?_⟩
  rintro _ σ' ⟨rfl, hσ'⟩ -
  obtain rfl := hσ'.symm
  (conv => whnf)
  refine ⟨_, ⟨rfl, hb.rdT fun _ _ h => h⟩, ?_⟩
  (conv => whnf)
  refine ⟨Tryz.k31.any, (Tryz.chkL_ok h t ht hf (t.edOf ed) he i3 hL).mono ?_⟩
  rintro _ σ' ⟨rfl, hσ'⟩ -
  obtain rfl := hσ'.symm
  (conv => whnf)
  refine ⟨rfl, ?_⟩
  (conv => whnf)
  refine ⟨_, ⟨rfl, hb.rdT fun _ _ h => h⟩, ?_⟩
  have kG := Tryz.growL_ok (S := SysG Tryz.prog 164 2) (cap := c1) (cap' := c3) h t ht hf (t.edOf ed) he i1 hA i3 hL
  rw [Tbl.growN_none hf he hA hL (fun z hz => (List.mem_filter.1 hz).1)] at kG
  (conv => whnf)
  refine ⟨Tryz.k39.any, (kG).mono ?_⟩
  rintro _ σ' ⟨rfl, hσ'⟩ -
  obtain rfl := hσ'.symm
  (conv => whnf)
  refine ⟨_, ⟨rfl, hb.rdT fun _ _ h => h⟩, ?_⟩
  (conv => whnf)
  refine ⟨Tryz.k37.any, (Tryz.cutL_ok h t ht hf (t.edOf ed) he i3 hL i2 c4 cL).mono ?_⟩
  rintro _ σ₅ ⟨⟨_, rfl, a4, c5, rfl, i4⟩, h5⟩ -
  have hle5 := hle4.trans h5
  have hb := hb.le h5
  have ht := ht.lg h5.frz2
  have hpk := hpk.lg h5.frz2
  have i1 := i1.lg h5.frz2
  have i2 := i2.lg h5.frz2
  have i3 := i3.lg h5.frz2
  have n4 := List.length_filter_le (letAll (t.cutsOf (t.edOf ed) pk)) ((t.chosen (t.edOf ed) bits).filter (letAll (t.cutsOf (t.edOf ed) pk)))
  have e1 : ((t.chosen (t.edOf ed) bits).filter (letAll (t.cutsOf (t.edOf ed) pk))).filter (letAll (t.cutsOf (t.edOf ed) pk)) = ((t.chosen (t.edOf ed) bits).filter (letAll (t.cutsOf (t.edOf ed) pk))) := by rw [List.filter_filter]; congr 1; funext n; exact Bool.and_self _
  (conv => whnf)
  refine ⟨rfl, ?_⟩
  (conv => whnf)
  refine ⟨rfl, ?_⟩
  (conv => whnf)
  refine ⟨rfl, ?_⟩
  (conv => whnf)
  refine ⟨Tryz.k33.any, (Tryz.sameT_ok i4 i3 (by omega) (by omega) e1).mono ?_⟩
  rintro _ σ' ⟨rfl, hσ'⟩ -
  obtain rfl := hσ'.symm
  (conv => whnf)
  refine ⟨Tryz.k26.any, (stocks _ hle5).mono ?_⟩
  rintro _ σ' ⟨rfl, hσ'⟩ -
  obtain rfl := hσ'.symm
  (conv => whnf); (repeat (refine ⟨rfl, ?_⟩; conv => whnf))
  exact hle5.lg
end Go.Proofs
