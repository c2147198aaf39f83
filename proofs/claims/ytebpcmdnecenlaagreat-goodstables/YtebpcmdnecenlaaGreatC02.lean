/- A part of the proof: lemmas that the last text uses. No conditions of its own. -/
import Derived.Test.YtebpcmdnecenlaaGreatB26
import Derived.Test.YtebpcmdnecenlaaGreatC01
import Derived.Test.YtebpcmdnecenlaaGreatB29
import Derived.Test.YtebpcmdnecenlaaGreatB08
import Derived.Test.YtebpcmdnecenlaaGreatB09
import Derived.Test.YtebpcmdnecenlaaGreatB10
import Derived.Test.YtebpcmdnecenlaaGreatC00
set_option linter.unusedSimpArgs false
set_option linter.unusedVariables false
namespace Go.TM
theorem Tbl.refCls_len (t : Tbl) (e : Int) (l : List Int) : (t.refCls e l).length < 2 ^ 60 := by
  unfold Tbl.refCls
  split
  · have := List.length_filter_le (fun x => (l.map (t.clsAt e)).contains x) ((List.range 45).map fun (j : Nat) => (j : Int) + 1)
    unfold clsTo
    simp only [List.length_map, List.length_range] at this
    omega
  · simp
end Go.TM
namespace Go.Proofs
open Go.TM
set_option maxRecDepth 100000
attribute [local irreducible] CallsV YieldV rngX
set_option maxHeartbeats 4000000 in
theorem Tryz.goodsTables_top {σ : View Tk} (htok : σ.tok = ⟨0, .out⟩) (h : TH) (t : Tbl) (ht : TabV σ h t) (e : Int) (a : Option Addr) (len cap : Nat) (l : List Int) (hl : Ints σ a len l) (hlen : len < 2 ^ 60) :
    J (SysG Tryz.prog 164 2) (Fin Tryz.prog fun v σ' => v = .bool true ∧ σ.lg σ') true (Rf (Frame.enter Tryz.prog 3 #[h.v, .int .i64 e, .slice a len cap] .normal) []) σ := by
  refine top_of (args := [_, _, _]) (Q := fun v σ' => v = .bool true ∧ σ.lg σ') Tryz.k3 Tryz.mixed (by kernel_rfl) (by simp) (fun v σ' q => q.2.tok.trans htok) ?_
  (conv => whnf); (repeat (refine ⟨rfl, ?_⟩; conv => whnf))
  intro b σ₁ h₁ hb
  have hb : Blk σ₁ b #[.slice h.ea h.el h.ec, .slice h.ma h.ml h.mc, .slice h.ka h.kl h.kc] := hb
  (conv => whnf)
  refine ⟨_, ⟨rfl, hb.rdT fun _ _ h => h⟩, ?_⟩
  (conv => whnf)
  refine ⟨Tryz.k24.any, (Tryz.big_ok h t (ht.lg h₁.lg)).mono ?_⟩
  rintro _ σ' ⟨⟨B, rfl⟩, hσ'⟩ -
  obtain rfl := hσ'.symm
  have stocks : ∀ σ₂ : View Tk, σ.le σ₂ → CallsV (SysG Tryz.prog 164 2) 26 #[] (fun v σ' => v = .bool true ∧ σ' = σ₂) σ₂ := fun σ₂ h => Tryz.stocks_ok (h.tok.trans htok)
  (conv => whnf); (repeat (refine ⟨rfl, ?_⟩; conv => whnf))
  refine gb_split (fun hc => ?_) (fun hc => ?_)
  · (conv => whnf)
    intro b15 hf15
    refine put_new hf15 fun σ₂ h₂ hb₁₅ => ?_
    have hb₁₅ : Blk σ₂ b15 #[.slice a len cap] := hb₁₅
    have hle₂ := h₁.trans h₂
    have hb := hb.le h₂
    (conv => whnf)
    refine ⟨Tryz.k25.any, (Tryz.long_ok (some ⟨b15, 0, none⟩) 1 1 [l] (.one hb₁₅ (hl.lg hle₂.lg) hlen) (by omega)).mono ?_⟩
    rintro _ σ' ⟨⟨B', rfl⟩, hσ'⟩ -
    obtain rfl := hσ'.symm
    (conv => whnf); (repeat (refine ⟨rfl, ?_⟩; conv => whnf))
    refine cb_split (fun hc => ?_) (fun hc => ?_)
    · (conv => whnf)
      refine ⟨Tryz.k26.any, (stocks _ hle₂).mono ?_⟩
      rintro _ σ' ⟨rfl, hσ'⟩ -
      obtain rfl := hσ'.symm
      (conv => whnf); (repeat (refine ⟨rfl, ?_⟩; conv => whnf))
      exact hle₂.lg
    (conv => whnf)
    refine ⟨_, ⟨rfl, hb.rdT fun _ _ h => h⟩, ?_⟩
    (conv => whnf)
    refine ⟨Tryz.k27.any, (Tryz.Classes_ok h t (ht.lg hle₂.lg) e a len cap l (hl.lg hle₂.lg) hlen).mono ?_⟩
    rintro _ σ₃ ⟨⟨v1, out, rfl, hout, iCa, iCc, rfl, iC⟩, h₃⟩ -
    obtain rfl := (Tbl.cls_eq hout).symm
    have hle₃ := hle₂.trans h₃
    have hb := hb.le h₃
    (conv => whnf)
    refine ⟨_, ⟨rfl, hb.rdT fun _ _ h => h⟩, ?_⟩
    (conv => whnf)
    refine ⟨Tryz.k28.any, (Tryz.refClasses_ok h t (ht.lg hle₃.lg) e a len cap l (hl.lg hle₃.lg) hlen).mono ?_⟩
    rintro _ σ₄ ⟨⟨v2, rfl, iDa, iDc, rfl, iD⟩, h₄⟩ -
    have hle₄ := hle₃.trans h₄
    have hb := hb.le h₄
    have hz : σ₃.frz.lg σ₄.frz := ⟨h₄.imm, ⟨[], rfl⟩, h₄.tok⟩
    have iC := iC.lg hz
    have hcl := t.refCls_len e l
    (conv => whnf)
    refine ⟨_, ⟨rfl, hb.rdT fun _ _ h => h⟩, ?_⟩
    (conv => whnf)
    refine ⟨.int .i64 t.flaw, fun σ' hle _ => ?_, ?_⟩
    · (conv => whnf)
      refine ⟨Tryz.k29.any, (Tryz.checkTable_ok h t (ht.lg (hle₄.trans hle).lg)).mono ?_⟩
      rintro _ σ'' ⟨rfl, hσ⟩ -
      exact ⟨rfl, _, .refl _, hσ ▸ .refl _⟩
    (conv => whnf)
    refine ⟨_, ⟨rfl, hb.rdT fun _ _ h => h⟩, ?_⟩
    (conv => whnf)
    refine ⟨.int .i64 t.flaw, fun σ' hle _ => ?_, ?_⟩
    · (conv => whnf)
      refine ⟨Tryz.k30.any, (Tryz.refTable_ok h t (ht.lg (hle₄.trans hle).lg)).mono ?_⟩
      rintro _ σ'' ⟨rfl, hσ⟩ -
      exact ⟨rfl, _, .refl _, hσ ▸ .refl _⟩
    (conv => whnf); (repeat (refine ⟨rfl, ?_⟩; conv => whnf))
    refine gb_split (fun hc => ?_) (fun hc => ?_)
    · (conv => whnf)
      refine ⟨_, ⟨rfl, hb.rdT fun _ _ h => h⟩, ?_⟩
      (conv => whnf)
      refine ⟨.int .i64 (t.openF e [l]), fun σ' hle _ => ?_, ?_⟩
      · (conv => whnf)
        refine ⟨Tryz.k31.any, (Tryz.checkListG_ok h t (ht.lg (hle₄.trans hle).lg) e a len cap l (hl.lg (hle₄.trans hle).lg) hlen).mono ?_⟩
        rintro _ σ'' ⟨rfl, hσ⟩ -
        exact ⟨rfl, _, .refl _, hσ ▸ .refl _⟩
      (conv => whnf)
      refine ⟨_, ⟨rfl, hb.rdT fun _ _ h => h⟩, ?_⟩
      (conv => whnf)
      refine ⟨.int .i64 (t.openF e [l]), fun σ' hle _ => ?_, ?_⟩
      · (conv => whnf)
        refine ⟨Tryz.k32.any, (Tryz.refList_ok h t (ht.lg (hle₄.trans hle).lg) e a len cap l (hl.lg (hle₄.trans hle).lg) hlen).mono ?_⟩
        rintro _ σ'' ⟨rfl, hσ⟩ -
        exact ⟨rfl, _, .refl _, hσ ▸ .refl _⟩
      (conv => whnf); (repeat (refine ⟨rfl, ?_⟩; conv => whnf))
      refine gb_split (fun hc => ?_) (fun hc => ?_)
      · (conv => whnf)
        refine ⟨.bool true, fun σ' hle _ => ?_, ?_⟩
        · (conv => whnf)
          refine ⟨Tryz.k33.any, (Tryz.same_ok iCa iDa _ iCc _ iDc _ _ ((iC.lg frz_self).lg hle.lg) ((iD.lg frz_self).lg hle.lg) hcl).mono ?_⟩
          rintro _ σ'' ⟨rfl, hσ⟩ -
          exact ⟨by rw [decide_eq_true rfl], _, .refl _, hσ ▸ .refl _⟩
        (conv => whnf)
        intro σ₅ h₅ _
        have hle₅ := hle₄.trans h₅
        (conv => whnf); (repeat (refine ⟨rfl, ?_⟩; conv => whnf))
        refine gb_split (fun hc => ?_) (fun hc => ?_)
        · (conv => whnf)
          refine ⟨Tryz.k26.any, (stocks _ hle₅).mono ?_⟩
          rintro _ σ' ⟨rfl, hσ'⟩ -
          obtain rfl := hσ'.symm
          (conv => whnf); (repeat (refine ⟨rfl, ?_⟩; conv => whnf))
          exact hle₅.lg
        · simp at hc
      · simp at hc
    · simp at hc
  · (conv => whnf)
    refine ⟨Tryz.k26.any, (stocks _ h₁).mono ?_⟩
    rintro _ σ' ⟨rfl, hσ'⟩ -
    obtain rfl := hσ'.symm
    (conv => whnf); (repeat (refine ⟨rfl, ?_⟩; conv => whnf))
    exact h₁.lg
end Go.Proofs
