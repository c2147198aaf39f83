/- A part of the proof: lemmas that the last text uses. No conditions of its own. -/
import Derived.Test.YtebpcmdnecenlaaGreatB26
import Derived.Test.YtebpcmdnecenlaaGreatC01
import Derived.Test.YtebpcmdnecenlaaGreatB29
import Derived.Test.YtebpcmdnecenlaaGreatB08
import Derived.Test.YtebpcmdnecenlaaGreatB09
import Derived.Test.YtebpcmdnecenlaaGreatB10
import Derived.Test.YtebpcmdnecenlaaGreatC00
set_option linter.unusedSimpArgs false
set_option linter.unusedVariables false
namespace Go.TM
theorem cutAll_len8 (t : Tbl) (e : Int) (l : List Int) (cs : List GCut) : (t.cutL e l cs).length ≤ l.length := by
  unfold Tbl.cutL
  split
  · exact cutAll_len cs l
  · simp
end Go.TM
namespace Go.Proofs
open Go.TM
set_option maxRecDepth 100000
attribute [local irreducible] CallsV YieldV rngX
set_option maxHeartbeats 4000000 in
theorem Tryz.goodsCuts_top {σ : View Tk} (htok : σ.tok = ⟨0, .out⟩) (h : TH) (t : Tbl) (ht : TabV σ.frz h t) (e : Int) (a : Option Addr) (len cap : Nat) (l : List Int) (hl : Ints σ.frz a len l) (hlen : len < 2 ^ 60)
    (a' : Option Addr) (len' cap' : Nat) (l' : List Int) (hl' : Ints σ.frz a' len' l') (hlen' : len' < 2 ^ 60) (ca : Option Addr) (cl cc : Nat) (cs : List GCut) (hcs : CutsV σ.frz ca cl cs) (hcl : cl < 2 ^ 60) :
    J (SysG Tryz.prog 164 2) (Fin Tryz.prog fun v σ' => v = .bool true ∧ σ.lg σ') true (Rf (Frame.enter Tryz.prog 5 #[h.v, .int .i64 e, .slice a len cap, .slice a' len' cap', .slice ca cl cc] .normal) []) σ := by
  refine top_of (args := [_, _, _, _, _]) (Q := fun v σ' => v = .bool true ∧ σ.lg σ') Tryz.k5 Tryz.mixed (by kernel_rfl) (by simp) (fun v σ' q => q.2.tok.trans htok) ?_
  (conv => whnf); (repeat (refine ⟨rfl, ?_⟩; conv => whnf))
  intro b σ₁ h₁ hb
  have hb : Blk σ₁ b #[.slice h.ea h.el h.ec, .slice h.ma h.ml h.mc, .slice h.ka h.kl h.kc] := hb
  have hz₁ : σ.frz.lg σ₁.frz := ⟨h₁.imm, ⟨[], rfl⟩, h₁.tok⟩
  have ht := ht.lg hz₁
  have hl := hl.lg hz₁
  have hl' := hl'.lg hz₁
  have hcs := hcs.lg hz₁
  (conv => whnf)
  refine ⟨_, ⟨rfl, hb.rdT fun _ _ h => h⟩, ?_⟩
  (conv => whnf)
  refine ⟨Tryz.k24.any, (Tryz.big_ok h t (ht.lg frz_self)).mono ?_⟩
  rintro _ σ' ⟨⟨B, rfl⟩, hσ'⟩ -
  obtain rfl := hσ'.symm
  have stocks : ∀ σ₂ : View Tk, σ.le σ₂ → CallsV (SysG Tryz.prog 164 2) 26 #[] (fun v σ' => v = .bool true ∧ σ' = σ₂) σ₂ := fun σ₂ h => Tryz.stocks_ok (h.tok.trans htok)
  (conv => whnf); (repeat (refine ⟨rfl, ?_⟩; conv => whnf))
  refine gb_split (fun hc => ?_) (fun hc => ?_)
  · (conv => whnf)
    intro b22 hf22
    refine put_new hf22 fun σ₂ h₂ hb₂₂ => ?_
    have hb₂₂ : Blk σ₂ b22 #[.slice a len cap, .slice a' len' cap'] := hb₂₂
    have hle₂ := h₁.trans h₂
    have hb := hb.le h₂
    have hz₂ : σ₁.frz.lg σ₂.frz := ⟨h₂.imm, ⟨[], rfl⟩, h₂.tok⟩
    have ht := ht.lg hz₂
    have hl := hl.lg hz₂
    have hl' := hl'.lg hz₂
    have hcs := hcs.lg hz₂
    (conv => whnf)
    refine ⟨Tryz.k25.any, (Tryz.long2_ok (some ⟨b22, 0, none⟩) 2 2 [l, l'] (.two hb₂₂ (hl.lg frz_self) (hl'.lg frz_self) hlen hlen') (by omega)).mono ?_⟩
    rintro _ σ' ⟨⟨B', rfl, hB'⟩, hσ'⟩ -
    obtain rfl := hσ'.symm
    (conv => whnf); (repeat (refine ⟨rfl, ?_⟩; conv => whnf))
    refine gb_split (fun hc => ?_) (fun hc => ?_)
    · have h20 := hB' hc
      have hl20 : len ≤ 20 := by have := h20 l (by simp); rw [hl.1] at this; exact this
      (conv => whnf)
      refine ⟨Tryz.k36.any, (Tryz.cutLong_ok ca cl cc cs (hcs.lg frz_self) hcl).mono ?_⟩
      rintro _ σ' ⟨⟨B'', rfl⟩, hσ'⟩ -
      obtain rfl := hσ'.symm
      (conv => whnf); (repeat (refine ⟨rfl, ?_⟩; conv => whnf))
      refine cb_split (fun hc => ?_) (fun hc => ?_)
      · (conv => whnf)
        refine ⟨Tryz.k26.any, (stocks _ hle₂).mono ?_⟩
        rintro _ σ' ⟨rfl, hσ'⟩ -
        obtain rfl := hσ'.symm
        (conv => whnf); (repeat (refine ⟨rfl, ?_⟩; conv => whnf))
        exact hle₂.lg
      (conv => whnf)
      refine ⟨_, ⟨rfl, hb.rdT fun _ _ h => h⟩, ?_⟩
      (conv => whnf)
      refine ⟨Tryz.k37.any, (Tryz.Cut_ok h t (ht.lg frz_self) e a ca len cap cl cc l cs (hl.lg frz_self) hcs (by omega) hcl).mono ?_⟩
      rintro _ σ₃ ⟨⟨v1, rfl, iAa, iAc, rfl, iA⟩, h₃⟩ -
      have hle₃ := hle₂.trans h₃
      have hb := hb.le h₃
      have hz₃ : σ₂.frz.lg σ₃.frz := ⟨h₃.imm, ⟨[], rfl⟩, h₃.tok⟩
      have ht := ht.lg hz₃
      have hl := hl.lg hz₃
      have hl' := hl'.lg hz₃
      have hcs := hcs.lg hz₃
      (conv => whnf)
      refine ⟨_, ⟨rfl, hb.rdT fun _ _ h => h⟩, ?_⟩
      (conv => whnf)
      refine ⟨Tryz.k38.any, (Tryz.refCut_ok h t (ht.lg frz_self) e a ca len cap cl cc l cs (hl.lg frz_self) (hcs.lg frz_self) (by omega) hcl).mono ?_⟩
      rintro _ σ₄ ⟨⟨v2, _, rfl, rfl, iBa, iBc, rfl, iB⟩, h₄⟩ -
      have hle₄ := hle₃.trans h₄
      have hb := hb.le h₄
      have hz₄ : σ₃.frz.lg σ₄.frz := ⟨h₄.imm, ⟨[], rfl⟩, h₄.tok⟩
      have ht := ht.lg hz₄
      have hl := hl.lg hz₄
      have hl' := hl'.lg hz₄
      have iA := (iA.lg hz₄).lg frz_self
      have hcl8 : (t.cutL e l cs).length < 2 ^ 60 := by
        have := cutAll_len8 t e l cs
        rw [hl.1] at this
        omega
      (conv => whnf)
      refine ⟨Tryz.k33.any, (Tryz.same_ok iAa iBa _ iAc _ iBc _ _ iA (iB.lg frz_self) hcl8).mono ?_⟩
      rintro _ σ' ⟨rfl, hσ'⟩ -
      obtain rfl := hσ'.symm
      rw [decide_eq_true rfl]
      (conv => whnf); (repeat (refine ⟨rfl, ?_⟩; conv => whnf))
      refine cb_split (fun hc => ?_) (fun hc => ?_)
      · simp at hc
      (conv => whnf)
      refine ⟨_, ⟨rfl, hb.rdT fun _ _ h => h⟩, ?_⟩
      (conv => whnf)
      refine ⟨Tryz.k39.any, (Tryz.Grows_ok h t (ht.lg frz_self) e a a' len cap len' cap' l l' (hl.lg frz_self) (hl'.lg frz_self) hlen hlen').mono ?_⟩
      rintro _ σ' ⟨rfl, hσ'⟩ -
      obtain rfl := hσ'.symm
      (conv => whnf)
      refine ⟨_, ⟨rfl, hb.rdT fun _ _ h => h⟩, ?_⟩
      (conv => whnf)
      refine ⟨Tryz.k40.any, (Tryz.refGrows_ok h t (ht.lg frz_self) e a a' len cap len' cap' l l' (hl.lg frz_self) (hl'.lg frz_self) hlen hlen').mono ?_⟩
      rintro _ σ' ⟨rfl, hσ'⟩ -
      obtain rfl := hσ'.symm
      (conv => whnf); (repeat (refine ⟨rfl, ?_⟩; conv => whnf))
      refine gb_split (fun hc => ?_) (fun hc => ?_)
      · (conv => whnf); (repeat (refine ⟨rfl, ?_⟩; conv => whnf))
        refine gb_split (fun hc => ?_) (fun hc => ?_)
        · (conv => whnf)
          refine ⟨Tryz.k26.any, (stocks _ hle₄).mono ?_⟩
          rintro _ σ' ⟨rfl, hσ'⟩ -
          obtain rfl := hσ'.symm
          (conv => whnf); (repeat (refine ⟨rfl, ?_⟩; conv => whnf))
          exact hle₄.lg
        · simp at hc
      · simp at hc
    · (conv => whnf)
      refine ⟨Tryz.k26.any, (stocks _ hle₂).mono ?_⟩
      rintro _ σ' ⟨rfl, hσ'⟩ -
      obtain rfl := hσ'.symm
      (conv => whnf); (repeat (refine ⟨rfl, ?_⟩; conv => whnf))
      exact hle₂.lg
  · (conv => whnf)
    refine ⟨Tryz.k26.any, (stocks _ h₁).mono ?_⟩
    rintro _ σ' ⟨rfl, hσ'⟩ -
    obtain rfl := hσ'.symm
    (conv => whnf); (repeat (refine ⟨rfl, ?_⟩; conv => whnf))
    exact h₁.lg
end Go.Proofs
