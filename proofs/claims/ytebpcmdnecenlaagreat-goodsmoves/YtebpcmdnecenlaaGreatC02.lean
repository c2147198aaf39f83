/- A part of the proof: lemmas that the last text uses. No conditions of its own. -/
import Derived.Test.YtebpcmdnecenlaaGreatB26
import Derived.Test.YtebpcmdnecenlaaGreatC01
import Derived.Test.YtebpcmdnecenlaaGreatB29
import Derived.Test.YtebpcmdnecenlaaGreatB08
import Derived.Test.YtebpcmdnecenlaaGreatB09
import Derived.Test.YtebpcmdnecenlaaGreatB10
import Derived.Test.YtebpcmdnecenlaaGreatC00
set_option linter.unusedSimpArgs false
set_option linter.unusedVariables false
namespace Go.TM
theorem Tbl.moveS_len (t : Tbl) (fr to : Int) (l : List Int) : (t.moveS fr to l).length < 2 ^ 60 ∧ (t.moveC fr to l).length < 2 ^ 60 := by
  unfold Tbl.moveS Tbl.moveC
  constructor <;> (split <;> first | (refine Nat.lt_of_le_of_lt (listS_len _) (by decide)) | simp)
end Go.TM
namespace Go.Proofs
open Go.TM
set_option maxRecDepth 100000
attribute [local irreducible] CallsV YieldV rngX
set_option maxHeartbeats 4000000 in
theorem Tryz.goodsMoves_top {σ : View Tk} (htok : σ.tok = ⟨0, .out⟩) (h : TH) (t : Tbl) (ht : TabV σ.frz h t) (fr to : Int) (a : Option Addr) (len cap : Nat) (l : List Int) (hl : Ints σ.frz a len l) (hlen : len < 2 ^ 60) :
    J (SysG Tryz.prog 164 2) (Fin Tryz.prog fun v σ' => v = .bool true ∧ σ.lg σ') true (Rf (Frame.enter Tryz.prog 4 #[h.v, .int .i64 fr, .int .i64 to, .slice a len cap] .normal) []) σ := by
  refine top_of (args := [_, _, _, _]) (Q := fun v σ' => v = .bool true ∧ σ.lg σ') Tryz.k4 Tryz.mixed (by kernel_rfl) (by simp) (fun v σ' q => q.2.tok.trans htok) ?_
  (conv => whnf); (repeat (refine ⟨rfl, ?_⟩; conv => whnf))
  intro b σ₁ h₁ hb
  have hb : Blk σ₁ b #[.slice h.ea h.el h.ec, .slice h.ma h.ml h.mc, .slice h.ka h.kl h.kc] := hb
  have hz₁ : σ.frz.lg σ₁.frz := ⟨h₁.imm, ⟨[], rfl⟩, h₁.tok⟩
  have ht := ht.lg hz₁
  have hl := hl.lg hz₁
  (conv => whnf)
  refine ⟨_, ⟨rfl, hb.rdT fun _ _ h => h⟩, ?_⟩
  (conv => whnf)
  refine ⟨Tryz.k24.any, (Tryz.big_ok h t (ht.lg frz_self)).mono ?_⟩
  rintro _ σ' ⟨⟨B, rfl⟩, hσ'⟩ -
  obtain rfl := hσ'.symm
  have stocks : ∀ σ₂ : View Tk, σ.le σ₂ → CallsV (SysG Tryz.prog 164 2) 26 #[] (fun v σ' => v = .bool true ∧ σ' = σ₂) σ₂ := fun σ₂ h => Tryz.stocks_ok (h.tok.trans htok)
  (conv => whnf); (repeat (refine ⟨rfl, ?_⟩; conv => whnf))
  refine gb_split (fun hc => ?_) (fun hc => ?_)
  · (conv => whnf)
    intro b15 hf15
    refine put_new hf15 fun σ₂ h₂ hb₁₅ => ?_
    have hb₁₅ : Blk σ₂ b15 #[.slice a len cap] := hb₁₅
    have hle₂ := h₁.trans h₂
    have hb := hb.le h₂
    have hz₂ : σ₁.frz.lg σ₂.frz := ⟨h₂.imm, ⟨[], rfl⟩, h₂.tok⟩
    have ht := ht.lg hz₂
    have hl := hl.lg hz₂
    (conv => whnf)
    refine ⟨Tryz.k25.any, (Tryz.long_ok (some ⟨b15, 0, none⟩) 1 1 [l] (.one hb₁₅ (hl.lg frz_self) hlen) (by omega)).mono ?_⟩
    rintro _ σ' ⟨⟨B', rfl⟩, hσ'⟩ -
    obtain rfl := hσ'.symm
    (conv => whnf); (repeat (refine ⟨rfl, ?_⟩; conv => whnf))
    refine cb_split (fun hc => ?_) (fun hc => ?_)
    · (conv => whnf)
      refine ⟨Tryz.k26.any, (stocks _ hle₂).mono ?_⟩
      rintro _ σ' ⟨rfl, hσ'⟩ -
      obtain rfl := hσ'.symm
      (conv => whnf); (repeat (refine ⟨rfl, ?_⟩; conv => whnf))
      exact hle₂.lg
    (conv => whnf)
    refine ⟨_, ⟨rfl, hb.rdT fun _ _ h => h⟩, ?_⟩
    (conv => whnf)
    refine ⟨Tryz.k34.any, (Tryz.Move_ok h t ht fr to a len cap l (hl.lg frz_self) hlen).mono ?_⟩
    rintro _ σ₃ ⟨⟨v1, v2, rfl, ⟨Aa, Ac, rfl, iA⟩, ⟨Ba, Bc, rfl, iB⟩⟩, h₃⟩ -
    have hle₃ := hle₂.trans h₃
    have hb := hb.le h₃
    have hz₃ : σ₂.frz.lg σ₃.frz := ⟨h₃.imm, ⟨[], rfl⟩, h₃.tok⟩
    have ht := ht.lg hz₃
    have hl := hl.lg hz₃
    (conv => whnf)
    refine ⟨_, ⟨rfl, hb.rdT fun _ _ h => h⟩, ?_⟩
    (conv => whnf)
    refine ⟨Tryz.k35.any, (Tryz.refMove_ok h t ht fr to a len cap l hl hlen).mono ?_⟩
    rintro _ σ₄ ⟨⟨v1, v2, rfl, ⟨Ca, Cc, rfl, iC⟩, ⟨Da, Dc, rfl, iD⟩⟩, h₄⟩ -
    have hle₄ := hle₃.trans h₄
    have hz₄ : σ₃.frz.lg σ₄.frz := ⟨h₄.imm, ⟨[], rfl⟩, h₄.tok⟩
    have iA := (iA.lg hz₄).lg frz_self
    have iB := (iB.lg hz₄).lg frz_self
    obtain ⟨nS, nC⟩ := t.moveS_len fr to l
    (conv => whnf)
    refine ⟨Tryz.k33.any, (Tryz.same_ok Aa Ca _ Ac _ Cc _ _ iA (iC.lg frz_self) nS).mono ?_⟩
    rintro _ σ' ⟨rfl, hσ'⟩ -
    obtain rfl := hσ'.symm
    rw [decide_eq_true rfl]
    (conv => whnf)
    refine ⟨Tryz.k33.any, (Tryz.same_ok Ba Da _ Bc _ Dc _ _ iB (iD.lg frz_self) nC).mono ?_⟩
    rintro _ σ' ⟨rfl, hσ'⟩ -
    obtain rfl := hσ'.symm
    rw [decide_eq_true rfl]
    (conv => whnf); (repeat (refine ⟨rfl, ?_⟩; conv => whnf))
    refine gb_split (fun hc => ?_) (fun hc => ?_)
    · (conv => whnf)
      refine ⟨Tryz.k26.any, (stocks _ hle₄).mono ?_⟩
      rintro _ σ' ⟨rfl, hσ'⟩ -
      obtain rfl := hσ'.symm
      (conv => whnf); (repeat (refine ⟨rfl, ?_⟩; conv => whnf))
      exact hle₄.lg
    · simp at hc
  · (conv => whnf)
    refine ⟨Tryz.k26.any, (stocks _ h₁).mono ?_⟩
    rintro _ σ' ⟨rfl, hσ'⟩ -
    obtain rfl := hσ'.symm
    (conv => whnf); (repeat (refine ⟨rfl, ?_⟩; conv => whnf))
    exact h₁.lg
end Go.Proofs
