/- A part of the proof: lemmas that the last text uses. No conditions of its own. -/
import Derived.Test.YtebpcmdnecenlaaGreatB26
import Derived.Test.YtebpcmdnecenlaaGreatC01
import Derived.Test.YtebpcmdnecenlaaGreatB29
import Derived.Test.YtebpcmdnecenlaaGreatB08
import Derived.Test.YtebpcmdnecenlaaGreatB09
import Derived.Test.YtebpcmdnecenlaaGreatB10
import Derived.Test.YtebpcmdnecenlaaGreatC00
set_option linter.unusedSimpArgs false
set_option linter.unusedVariables false
namespace Go.Proofs
open Go.TM
set_option maxRecDepth 100000
attribute [local irreducible] CallsV YieldV rngX
set_option maxHeartbeats 4000000 in
theorem Tryz.goodsThereBack_top {σ : View Tk} (htok : σ.tok = ⟨0, .out⟩) (h : TH) (t : Tbl) (ht : TabV σ.frz h t) (fr : Nat) (hfr : fr < 256) (to : Nat) (hto : to < 256) (bits : Nat) (hbits : bits < 256) :
    J (SysG Tryz.prog 164 2) (Fin Tryz.prog fun v σ' => v = .bool true ∧ σ.lg σ') true (Rf (Frame.enter Tryz.prog 8 #[h.v, .int .u8 fr, .int .u8 to, .int .u8 bits] .normal) []) σ := by
  refine top_of (args := [_, _, _, _]) (Q := fun v σ' => v = .bool true ∧ σ.lg σ') Tryz.k8 Tryz.mixed (by kernel_rfl) (by simp) (fun v σ' q => q.2.tok.trans htok) ?_
  (conv => whnf); (repeat (refine ⟨rfl, ?_⟩; conv => whnf))
  intro b σ₁ hle1 hb
  have hb : Blk σ₁ b #[.slice h.ea h.el h.ec, .slice h.ma h.ml h.mc, .slice h.ka h.kl h.kc] := hb
  have ht := ht.lg hle1.frz2
  have stocks : ∀ σ₂ : View Tk, σ.le σ₂ → CallsV (SysG Tryz.prog 164 2) 26 #[] (fun v σ' => v = .bool true ∧ σ' = σ₂) σ₂ := fun σ₂ h => Tryz.stocks_ok (h.tok.trans htok)
  (conv => whnf)
  refine ⟨_, ⟨rfl, hb.rdT fun _ _ h => h⟩, ?_⟩
  (conv => whnf)
  refine ⟨Tryz.k48.any, (Tryz.fit_ok h t (ht.lg frz_self)).mono ?_⟩
  rintro _ σ' ⟨⟨B, rfl, hB⟩, hσ'⟩ -
  obtain rfl := hσ'.symm
  (conv => whnf); (repeat (refine ⟨rfl, ?_⟩; conv => whnf))
  refine cb_split (fun hc => ?_) (fun hc => ?_)
  · (conv => whnf)
    refine ⟨Tryz.k26.any, (stocks _ hle1).mono ?_⟩
    rintro _ σ' ⟨rfl, hσ'⟩ -
    obtain rfl := hσ'.symm
    (conv => whnf); (repeat (refine ⟨rfl, ?_⟩; conv => whnf))
    exact hle1.lg
  have hf : t.flaw = 0 := hB (by simpa using hc)
  have hx := Tbl.isEd_of hf fr
  have hy := Tbl.isEd_of hf to
  have hA := t.lst_chosen (t.edOf fr) bits
  have nA := hA.len hf
  have lS := Tbl.lst_moveS hf hx hy hA
  have lC := Tbl.lst_moveC hf hx hy hA
  have nS := lS.len hf
  have nC := lC.len hf
  have nH := (Tbl.lst_moveC hf hy hx lS).len hf
  have nB := (Tbl.lst_moveS hf hy hx lC).len hf
  have x100 := Tbl.isEd_100 hf hx
  have y100 := Tbl.isEd_100 hf hy
  (conv => whnf)
  refine ⟨_, ⟨rfl, hb.rdT fun _ _ h => h⟩, ?_⟩
  (conv => whnf)
  refine ⟨.int .i64 (t.edOf fr), fun σ' hle _ => ?_, ?_⟩
  · (conv => whnf)
    refine ⟨Tryz.k49.any, (Tryz.edOf_ok h t (ht.lg hle.frz1) hf fr hfr).mono ?_⟩
    rintro _ σ'' ⟨rfl, hσ⟩ -
    exact ⟨rfl, _, .refl _, hσ ▸ .refl _⟩
  (conv => whnf)
  refine ⟨_, ⟨rfl, hb.rdT fun _ _ h => h⟩, ?_⟩
  (conv => whnf)
  intro σ₂ h2 hC
  have hle2 := hle1.trans h2
  have hb := hb.le h2
  have ht := ht.lg h2.frz2
  (conv => whnf)
  refine ⟨Tryz.k49.any, (Tryz.edOf_ok h t (ht.lg frz_self) hf to hto).mono ?_⟩
  rintro _ σ' ⟨rfl, hσ'⟩ -
  obtain rfl := hσ'.symm
  (conv => whnf)
  refine ⟨_, ⟨rfl, hb.rdT fun _ _ h => h⟩, ?_⟩
  (conv => whnf)
  refine ⟨Tryz.k50.any, (Tryz.chosenL_ok h t ht hf (t.edOf fr) hx bits hbits).mono ?_⟩
  rintro _ σ₃ ⟨⟨a1, c1, rfl, i1⟩, h3⟩ -
  have hle3 := hle2.trans h3
  have hb := hb.le h3
  have ht := ht.lg h3.frz2
  (conv => whnf)
  refine ⟨_, ⟨rfl, hb.rdT fun _ _ h => h⟩, ?_⟩
  (conv => whnf)
  refine ⟨Tryz.k34.any, (Tryz.moveL_ok h t ht hf (t.edOf fr) (t.edOf to) hx hy i1 hA).mono ?_⟩
  rintro _ σ₄ ⟨⟨_, _, rfl, ⟨a2, c2, rfl, i2⟩, a3, c3, rfl, i3⟩, h4⟩ -
  have hle4 := hle3.trans h4
  have hb := hb.le h4
  have ht := ht.lg h4.frz2
  have i1 := i1.lg h4.frz2
  (conv => whnf)
  refine ⟨rfl, ?_⟩
  (conv => whnf)
  refine ⟨_, ⟨rfl, hb.rdT fun _ _ h => h⟩, ?_⟩
  (conv => whnf)
  refine ⟨Tryz.k34.any, (Tryz.moveL_ok h t ht hf (t.edOf to) (t.edOf fr) hy hx i2 lS).mono ?_⟩
  rintro _ σ₅ ⟨⟨_, _, rfl, ⟨a4, c4, rfl, i4⟩, a5, c5, rfl, i5⟩, h5⟩ -
  have hle5 := hle4.trans h5
  have hb := hb.le h5
  have ht := ht.lg h5.frz2
  have i1 := i1.lg h5.frz2
  have i2 := i2.lg h5.frz2
  have i3 := i3.lg h5.frz2
  (conv => whnf)
  refine ⟨_, ⟨rfl, hb.rdT fun _ _ h => h⟩, ?_⟩
  (conv => whnf)
  refine ⟨Tryz.k34.any, (Tryz.moveL_ok h t ht hf (t.edOf to) (t.edOf fr) hy hx i3 lC).mono ?_⟩
  rintro _ σ₆ ⟨⟨_, _, rfl, ⟨a6, c6, rfl, i6⟩, a7, c7, rfl, i7⟩, h6⟩ -
  have hle6 := hle5.trans h6
  have hb := hb.le h6
  have ht := ht.lg h6.frz2
  have i1 := i1.lg h6.frz2
  have i2 := i2.lg h6.frz2
  have i3 := i3.lg h6.frz2
  have i4 := i4.lg h6.frz2
  have i5 := i5.lg h6.frz2
  (conv => whnf)
  refine ⟨rfl, ?_⟩
  (conv => whnf)
  refine ⟨rfl, ?_⟩
  (conv => whnf)
  refine ⟨Tryz.k51.any, (Tryz.withinT_ok i5 i1 (by omega) (by omega) (Tbl.move_home hf hx hy hA)).mono ?_⟩
  rintro _ σ' ⟨rfl, hσ'⟩ -
  obtain rfl := hσ'.symm
  (conv => whnf)
  refine ⟨by unfold InR; omega, ?_⟩
  (conv => whnf); (repeat (refine ⟨rfl, ?_⟩; conv => whnf))
  refine gb_split (fun hc => ?_) (fun hc => ?_)
  · have h1 : ((t.edOf to) != (t.edOf fr) + 1) = true := hc
    (conv => whnf)
    refine ⟨by unfold InR; omega, ?_⟩
    (conv => whnf); (repeat (refine ⟨rfl, ?_⟩; conv => whnf))
    refine cb_split (fun hc => ?_) (fun hc => ?_)
    · (conv => whnf)
      refine ⟨Tryz.k26.any, (stocks _ hle6).mono ?_⟩
      rintro _ σ' ⟨rfl, hσ'⟩ -
      obtain rfl := hσ'.symm
      (conv => whnf); (repeat (refine ⟨rfl, ?_⟩; conv => whnf))
      exact hle6.lg
    have hn : (t.edOf to) = (t.edOf fr) + 1 ∨ (t.edOf to) = (t.edOf fr) - 1 := .inr (by simpa using hc)
    obtain ⟨ke, ade, ia, il, ic, heq, hke, hea, hse, hit⟩ := Tbl.isEd_at ht hy
    have hil := hit.1
    have h8 := Tbl.ni8 hf (t.edOf to)
    have hni : t.ni (t.edOf to) = il := hil
    (conv => whnf)
    refine ⟨Nat, fun i => [(4, .pointer (some ⟨b, 0, none⟩)), (9, .int .i64 (t.edOf fr)), (10, .int .i64 (t.edOf to)), (11, .slice a1 (t.chosen (t.edOf fr) bits).length c1), (17, .slice a6 (t.moveS (t.edOf to) (t.edOf fr) (t.moveC (t.edOf fr) (t.edOf to) (t.chosen (t.edOf fr) bits))).length c6), (20, .int .i64 i)], fun i σ' => σ₆.le σ' ∧ i ≤ (t.chosen (t.edOf fr) bits).length, fun i => (t.chosen (t.edOf fr) bits).length - i, 0, ⟨rfl, rfl, rfl, rfl, rfl, rfl, trivial⟩, ⟨.refl _, Nat.zero_le _⟩, ?_⟩
    rintro i f σ₇ ⟨h7, hi⟩
    have hse := hse.lg h7.frz2
    have hle7 := hle6.trans h7
    have hb := hb.le h7
    have ht := ht.lg h7.frz2
    have i1 := i1.lg h7.frz2
    have i2 := i2.lg h7.frz2
    have i3 := i3.lg h7.frz2
    have i4 := i4.lg h7.frz2
    have i5 := i5.lg h7.frz2
    have i6 := i6.lg h7.frz2
    have i7 := i7.lg h7.frz2
    (conv => whnf); (repeat (refine ⟨rfl, ?_⟩; conv => whnf))
    refine cb_split (fun hc => ?_) (fun hc => ?_)
    · have hlt : i < (t.chosen (t.edOf fr) bits).length := by simpa using hc
      obtain ⟨ad, x, hx', rfl, hsp, hs⟩ := (i1.lg frz_self).at hlt
      have hin : InR ((i : Int) + 1) := by unfold InR; omega
      have hxA : x ∈ (t.chosen (t.edOf fr) bits) := List.mem_of_getElem? hx'
      (conv => whnf)
      refine ⟨Nat, fun q => [(4, .pointer (some ⟨b, 0, none⟩)), (9, .int .i64 (t.edOf fr)), (10, .int .i64 (t.edOf to)), (11, .slice (some ad) (t.chosen (t.edOf fr) bits).length c1), (17, .slice a6 (t.moveS (t.edOf to) (t.edOf fr) (t.moveC (t.edOf fr) (t.edOf to) (t.chosen (t.edOf fr) bits))).length c6), (20, .int .i64 i), (21, .bool ((nums q).any fun z => t.bec (t.edOf fr) x z (bk (t.edOf fr) (t.edOf to)))), (22, .int .i64 q)], fun q σ' => σ₇.le σ' ∧ q ≤ il, fun q => il - q, 0, ⟨rfl, rfl, rfl, rfl, rfl, rfl, rfl, rfl, trivial⟩, ⟨.refl _, Nat.zero_le _⟩, ?_⟩
      rintro q f σ₈ ⟨h8, hq⟩
      have hse := hse.lg h8.frz2
      have hs := hs.lg h8.lg
      have hle8 := hle7.trans h8
      have hb := hb.le h8
      have ht := ht.lg h8.frz2
      have i1 := i1.lg h8.frz2
      have i2 := i2.lg h8.frz2
      have i3 := i3.lg h8.frz2
      have i4 := i4.lg h8.frz2
      have i5 := i5.lg h8.frz2
      have i6 := i6.lg h8.frz2
      have i7 := i7.lg h8.frz2
      (conv => whnf)
      refine ⟨_, hb.sees3 (o := 0) rfl, ?_⟩
      (conv => whnf)
      refine ⟨ade, ke, ⟨hea, heq, hke⟩, ?_⟩
      (conv => whnf)
      refine ⟨_, hse.lg frz_self, ?_⟩
      (conv => whnf); (repeat (refine ⟨rfl, ?_⟩; conv => whnf))
      refine cb_split (fun hc => ?_) (fun hc => ?_)
      · have hqt : q < il := by simpa using hc
        have hqn : InR ((q : Int) + 1) := by unfold InR; omega
        have hstp : ((nums (q + 1)).any fun z => t.bec (t.edOf fr) x z (bk (t.edOf fr) (t.edOf to))) = (((nums q).any fun z => t.bec (t.edOf fr) x z (bk (t.edOf fr) (t.edOf to))) || t.bec (t.edOf fr) x (q : Int) (bk (t.edOf fr) (t.edOf to))) := by rw [nums_succ, List.any_append]; simp
        (conv => whnf)
        refine gb_split (fun hc => ?_) (fun hc => ?_)
        · have hl : ((nums q).any fun z => t.bec (t.edOf fr) x z (bk (t.edOf fr) (t.edOf to))) = false := hc
          rw [hl, Bool.false_or] at hstp
          (conv => whnf)
          refine ⟨_, ⟨rfl, hb.rdT fun _ _ h => h⟩, ?_⟩
          (conv => whnf)
          refine ⟨ad, i, ⟨rfl, rfl, hlt⟩, ?_⟩
          (conv => whnf)
          refine ⟨_, hs, ?_⟩
          (conv => whnf)
          refine ⟨rfl, ?_⟩
          (conv => whnf)
          intro σ₉ h9 _
          have hle9 := hle8.trans h9
          have hb := hb.le h9
          have ht := ht.lg h9.frz2
          have i1 := i1.lg h9.frz2
          have i2 := i2.lg h9.frz2
          have i3 := i3.lg h9.frz2
          have i4 := i4.lg h9.frz2
          have i5 := i5.lg h9.frz2
          have i6 := i6.lg h9.frz2
          have i7 := i7.lg h9.frz2
          (conv => whnf)
          refine ⟨Tryz.k52.any, (Tryz.becomes_ok h t (ht.lg frz_self) (t.edOf fr) x (q : Int) (bk (t.edOf fr) (t.edOf to)) (by omega)).mono ?_⟩
          rintro _ σ' ⟨rfl, hσ'⟩ -
          obtain rfl := hσ'.symm
          (conv => whnf)
          refine ⟨hqn, ?_⟩
          (conv => whnf)
          exact ⟨rfl, q + 1, ⟨rfl, rfl, rfl, rfl, rfl, rfl, by rw [hstp]; rfl, rfl, trivial⟩, ⟨h8.trans h9, by omega⟩, by show _ - _ < _ - _; omega⟩
        · have hl : ((nums q).any fun z => t.bec (t.edOf fr) x z (bk (t.edOf fr) (t.edOf to))) = true := hc
          rw [hl, Bool.true_or] at hstp
          (conv => whnf)
          intro σ₉ h9 _
          (conv => whnf)
          refine ⟨hqn, ?_⟩
          (conv => whnf)
          exact ⟨rfl, q + 1, ⟨rfl, rfl, rfl, rfl, rfl, rfl, by rw [hstp]; rfl, rfl, trivial⟩, ⟨h8.trans h9, by omega⟩, by show _ - _ < _ - _; omega⟩
      · have hqe : il ≤ q := by simpa using hc
        obtain rfl : q = il := by omega
        (conv => whnf); (repeat (refine ⟨rfl, ?_⟩; conv => whnf))
        refine gb_split (fun hc => ?_) (fun hc => ?_)
        · have hl : ((nums q).any fun z => t.bec (t.edOf fr) x z (bk (t.edOf fr) (t.edOf to))) = true := hc
          obtain ⟨z, hz, hbz⟩ := List.any_eq_true.1 hl
          have hmem := Tbl.move_back hf hx hy hA hn hxA hbz
          (conv => whnf)
          refine ⟨ad, i, ⟨rfl, rfl, hlt⟩, ?_⟩
          (conv => whnf)
          refine ⟨_, hs, ?_⟩
          (conv => whnf)
          refine ⟨Tryz.k53.any, (Tryz.hasT_ok i6 (by omega) hmem).mono ?_⟩
          rintro _ σ' ⟨rfl, hσ'⟩ -
          obtain rfl := hσ'.symm
          (conv => whnf)
          refine ⟨hin, ?_⟩
          (conv => whnf)
          exact ⟨rfl, i + 1, ⟨rfl, rfl, rfl, rfl, rfl, rfl, trivial⟩, ⟨h7.trans h8, by omega⟩, by show _ - _ < _ - _; omega⟩
        · (conv => whnf)
          refine ⟨hin, ?_⟩
          (conv => whnf)
          exact ⟨rfl, i + 1, ⟨rfl, rfl, rfl, rfl, rfl, rfl, trivial⟩, ⟨h7.trans h8, by omega⟩, by show _ - _ < _ - _; omega⟩
    · (conv => whnf)
      refine ⟨Tryz.k26.any, (stocks _ hle7).mono ?_⟩
      rintro _ σ' ⟨rfl, hσ'⟩ -
      obtain rfl := hσ'.symm
      (conv => whnf); (repeat (refine ⟨rfl, ?_⟩; conv => whnf))
      exact hle7.lg
  · have hn : (t.edOf to) = (t.edOf fr) + 1 ∨ (t.edOf to) = (t.edOf fr) - 1 := .inl (by simpa using hc)
    obtain ⟨ke, ade, ia, il, ic, heq, hke, hea, hse, hit⟩ := Tbl.isEd_at ht hy
    have hil := hit.1
    have h8 := Tbl.ni8 hf (t.edOf to)
    have hni : t.ni (t.edOf to) = il := hil
    (conv => whnf)
    refine ⟨Nat, fun i => [(4, .pointer (some ⟨b, 0, none⟩)), (9, .int .i64 (t.edOf fr)), (10, .int .i64 (t.edOf to)), (11, .slice a1 (t.chosen (t.edOf fr) bits).length c1), (17, .slice a6 (t.moveS (t.edOf to) (t.edOf fr) (t.moveC (t.edOf fr) (t.edOf to) (t.chosen (t.edOf fr) bits))).length c6), (20, .int .i64 i)], fun i σ' => σ₆.le σ' ∧ i ≤ (t.chosen (t.edOf fr) bits).length, fun i => (t.chosen (t.edOf fr) bits).length - i, 0, ⟨rfl, rfl, rfl, rfl, rfl, rfl, trivial⟩, ⟨.refl _, Nat.zero_le _⟩, ?_⟩
    rintro i f σ₇ ⟨h7, hi⟩
    have hse := hse.lg h7.frz2
    have hle7 := hle6.trans h7
    have hb := hb.le h7
    have ht := ht.lg h7.frz2
    have i1 := i1.lg h7.frz2
    have i2 := i2.lg h7.frz2
    have i3 := i3.lg h7.frz2
    have i4 := i4.lg h7.frz2
    have i5 := i5.lg h7.frz2
    have i6 := i6.lg h7.frz2
    have i7 := i7.lg h7.frz2
    (conv => whnf); (repeat (refine ⟨rfl, ?_⟩; conv => whnf))
    refine cb_split (fun hc => ?_) (fun hc => ?_)
    · have hlt : i < (t.chosen (t.edOf fr) bits).length := by simpa using hc
      obtain ⟨ad, x, hx', rfl, hsp, hs⟩ := (i1.lg frz_self).at hlt
      have hin : InR ((i : Int) + 1) := by unfold InR; omega
      have hxA : x ∈ (t.chosen (t.edOf fr) bits) := List.mem_of_getElem? hx'
      (conv => whnf)
      refine ⟨Nat, fun q => [(4, .pointer (some ⟨b, 0, none⟩)), (9, .int .i64 (t.edOf fr)), (10, .int .i64 (t.edOf to)), (11, .slice (some ad) (t.chosen (t.edOf fr) bits).length c1), (17, .slice a6 (t.moveS (t.edOf to) (t.edOf fr) (t.moveC (t.edOf fr) (t.edOf to) (t.chosen (t.edOf fr) bits))).length c6), (20, .int .i64 i), (21, .bool ((nums q).any fun z => t.bec (t.edOf fr) x z (bk (t.edOf fr) (t.edOf to)))), (22, .int .i64 q)], fun q σ' => σ₇.le σ' ∧ q ≤ il, fun q => il - q, 0, ⟨rfl, rfl, rfl, rfl, rfl, rfl, rfl, rfl, trivial⟩, ⟨.refl _, Nat.zero_le _⟩, ?_⟩
      rintro q f σ₈ ⟨h8, hq⟩
      have hse := hse.lg h8.frz2
      have hs := hs.lg h8.lg
      have hle8 := hle7.trans h8
      have hb := hb.le h8
      have ht := ht.lg h8.frz2
      have i1 := i1.lg h8.frz2
      have i2 := i2.lg h8.frz2
      have i3 := i3.lg h8.frz2
      have i4 := i4.lg h8.frz2
      have i5 := i5.lg h8.frz2
      have i6 := i6.lg h8.frz2
      have i7 := i7.lg h8.frz2
      (conv => whnf)
      refine ⟨_, hb.sees3 (o := 0) rfl, ?_⟩
      (conv => whnf)
      refine ⟨ade, ke, ⟨hea, heq, hke⟩, ?_⟩
      (conv => whnf)
      refine ⟨_, hse.lg frz_self, ?_⟩
      (conv => whnf); (repeat (refine ⟨rfl, ?_⟩; conv => whnf))
      refine cb_split (fun hc => ?_) (fun hc => ?_)
      · have hqt : q < il := by simpa using hc
        have hqn : InR ((q : Int) + 1) := by unfold InR; omega
        have hstp : ((nums (q + 1)).any fun z => t.bec (t.edOf fr) x z (bk (t.edOf fr) (t.edOf to))) = (((nums q).any fun z => t.bec (t.edOf fr) x z (bk (t.edOf fr) (t.edOf to))) || t.bec (t.edOf fr) x (q : Int) (bk (t.edOf fr) (t.edOf to))) := by rw [nums_succ, List.any_append]; simp
        (conv => whnf)
        refine gb_split (fun hc => ?_) (fun hc => ?_)
        · have hl : ((nums q).any fun z => t.bec (t.edOf fr) x z (bk (t.edOf fr) (t.edOf to))) = false := hc
          rw [hl, Bool.false_or] at hstp
          (conv => whnf)
          refine ⟨_, ⟨rfl, hb.rdT fun _ _ h => h⟩, ?_⟩
          (conv => whnf)
          refine ⟨ad, i, ⟨rfl, rfl, hlt⟩, ?_⟩
          (conv => whnf)
          refine ⟨_, hs, ?_⟩
          (conv => whnf)
          refine ⟨rfl, ?_⟩
          (conv => whnf)
          intro σ₉ h9 _
          have hle9 := hle8.trans h9
          have hb := hb.le h9
          have ht := ht.lg h9.frz2
          have i1 := i1.lg h9.frz2
          have i2 := i2.lg h9.frz2
          have i3 := i3.lg h9.frz2
          have i4 := i4.lg h9.frz2
          have i5 := i5.lg h9.frz2
          have i6 := i6.lg h9.frz2
          have i7 := i7.lg h9.frz2
          (conv => whnf)
          refine ⟨Tryz.k52.any, (Tryz.becomes_ok h t (ht.lg frz_self) (t.edOf fr) x (q : Int) (bk (t.edOf fr) (t.edOf to)) (by omega)).mono ?_⟩
          rintro _ σ' ⟨rfl, hσ'⟩ -
          obtain rfl := hσ'.symm
          (conv => whnf)
          refine ⟨hqn, ?_⟩
          (conv => whnf)
          exact ⟨rfl, q + 1, ⟨rfl, rfl, rfl, rfl, rfl, rfl, by rw [hstp]; rfl, rfl, trivial⟩, ⟨h8.trans h9, by omega⟩, by show _ - _ < _ - _; omega⟩
        · have hl : ((nums q).any fun z => t.bec (t.edOf fr) x z (bk (t.edOf fr) (t.edOf to))) = true := hc
          rw [hl, Bool.true_or] at hstp
          (conv => whnf)
          intro σ₉ h9 _
          (conv => whnf)
          refine ⟨hqn, ?_⟩
          (conv => whnf)
          exact ⟨rfl, q + 1, ⟨rfl, rfl, rfl, rfl, rfl, rfl, by rw [hstp]; rfl, rfl, trivial⟩, ⟨h8.trans h9, by omega⟩, by show _ - _ < _ - _; omega⟩
      · have hqe : il ≤ q := by simpa using hc
        obtain rfl : q = il := by omega
        (conv => whnf); (repeat (refine ⟨rfl, ?_⟩; conv => whnf))
        refine gb_split (fun hc => ?_) (fun hc => ?_)
        · have hl : ((nums q).any fun z => t.bec (t.edOf fr) x z (bk (t.edOf fr) (t.edOf to))) = true := hc
          obtain ⟨z, hz, hbz⟩ := List.any_eq_true.1 hl
          have hmem := Tbl.move_back hf hx hy hA hn hxA hbz
          (conv => whnf)
          refine ⟨ad, i, ⟨rfl, rfl, hlt⟩, ?_⟩
          (conv => whnf)
          refine ⟨_, hs, ?_⟩
          (conv => whnf)
          refine ⟨Tryz.k53.any, (Tryz.hasT_ok i6 (by omega) hmem).mono ?_⟩
          rintro _ σ' ⟨rfl, hσ'⟩ -
          obtain rfl := hσ'.symm
          (conv => whnf)
          refine ⟨hin, ?_⟩
          (conv => whnf)
          exact ⟨rfl, i + 1, ⟨rfl, rfl, rfl, rfl, rfl, rfl, trivial⟩, ⟨h7.trans h8, by omega⟩, by show _ - _ < _ - _; omega⟩
        · (conv => whnf)
          refine ⟨hin, ?_⟩
          (conv => whnf)
          exact ⟨rfl, i + 1, ⟨rfl, rfl, rfl, rfl, rfl, rfl, trivial⟩, ⟨h7.trans h8, by omega⟩, by show _ - _ < _ - _; omega⟩
    · (conv => whnf)
      refine ⟨Tryz.k26.any, (stocks _ hle7).mono ?_⟩
      rintro _ σ' ⟨rfl, hσ'⟩ -
      obtain rfl := hσ'.symm
      (conv => whnf); (repeat (refine ⟨rfl, ?_⟩; conv => whnf))
      exact hle7.lg
end Go.Proofs
