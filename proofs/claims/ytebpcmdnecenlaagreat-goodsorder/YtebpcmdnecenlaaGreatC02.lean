/- A part of the proof: lemmas that the last text uses. No conditions of its own. -/
import Derived.Test.YtebpcmdnecenlaaGreatB26
import Derived.Test.YtebpcmdnecenlaaGreatC01
import Derived.Test.YtebpcmdnecenlaaGreatB29
import Derived.Test.YtebpcmdnecenlaaGreatB08
import Derived.Test.YtebpcmdnecenlaaGreatB09
import Derived.Test.YtebpcmdnecenlaaGreatB10
import Derived.Test.YtebpcmdnecenlaaGreatC00
set_option linter.unusedSimpArgs false
set_option linter.unusedVariables false
namespace Go.Proofs
open Go.TM
set_option maxRecDepth 100000
attribute [local irreducible] CallsV YieldV rngX
set_option maxHeartbeats 4000000 in
theorem Tryz.goodsOrder_top {σ : View Tk} (htok : σ.tok = ⟨0, .out⟩) (h : TH) (t : Tbl) (ht : TabV σ.frz h t) (ed : Nat) (hed : ed < 256) (bits : Nat) (hbits : bits < 256) (pka : Option Addr) (pkl pkc : Nat) (pk : List Nat) (hpk : U16s σ.frz pka pkl pk) (hlpk : pkl < 2 ^ 60) :
    J (SysG Tryz.prog 164 2) (Fin Tryz.prog fun v σ' => v = .bool true ∧ σ.lg σ') true (Rf (Frame.enter Tryz.prog 13 #[h.v, .int .u8 ed, .int .u8 bits, .slice pka pkl pkc] .normal) []) σ := by
  refine top_of (args := [_, _, _, _]) (Q := fun v σ' => v = .bool true ∧ σ.lg σ') Tryz.k13 Tryz.mixed (by kernel_rfl) (by simp) (fun v σ' q => q.2.tok.trans htok) ?_
  (conv => whnf); (repeat (refine ⟨rfl, ?_⟩; conv => whnf))
  intro b σ₁ hle1 hb
  have hb : Blk σ₁ b #[.slice h.ea h.el h.ec, .slice h.ma h.ml h.mc, .slice h.ka h.kl h.kc] := hb
  have ht := ht.lg hle1.frz2
  have hpk := hpk.lg hle1.frz2
  have stocks : ∀ σ₂ : View Tk, σ.le σ₂ → CallsV (SysG Tryz.prog 164 2) 26 #[] (fun v σ' => v = .bool true ∧ σ' = σ₂) σ₂ := fun σ₂ h => Tryz.stocks_ok (h.tok.trans htok)
  (conv => whnf)
  refine ⟨_, ⟨rfl, hb.rdT fun _ _ h => h⟩, ?_⟩
  (conv => whnf)
  refine ⟨Tryz.k48.any, (Tryz.fit_ok h t (ht.lg frz_self)).mono ?_⟩
  rintro _ σ' ⟨⟨B, rfl, hB⟩, hσ'⟩ -
  obtain rfl := hσ'.symm
  (conv => whnf); (repeat (refine ⟨rfl, ?_⟩; conv => whnf))
  refine cb_split (fun hc => ?_) (fun hc => ?_)
  · (conv => whnf)
    refine ⟨Tryz.k26.any, (stocks _ hle1).mono ?_⟩
    rintro _ σ' ⟨rfl, hσ'⟩ -
    obtain rfl := hσ'.symm
    (conv => whnf); (repeat (refine ⟨rfl, ?_⟩; conv => whnf))
    exact hle1.lg
  have hf : t.flaw = 0 := hB (by simpa using hc)
  have he := Tbl.isEd_of hf ed
  have hA := t.lst_chosen (t.edOf ed) bits
  have nA := hA.len hf
  obtain ⟨c4, cL⟩ := t.cutsOf_ok (t.edOf ed) pk
  (conv => whnf)
  refine ⟨_, ⟨rfl, hb.rdT fun _ _ h => h⟩, ?_⟩
  (conv => whnf)
  refine ⟨Tryz.k49.any, (Tryz.edOf_ok h t (ht.lg frz_self) hf ed hed).mono ?_⟩
  rintro _ σ' ⟨rfl, hσ'⟩ -
  obtain rfl := hσ'.symm
  (conv => whnf)
  refine ⟨_, ⟨rfl, hb.rdT fun _ _ h => h⟩, ?_⟩
  (conv => whnf)
  refine ⟨_, ⟨rfl, hb.rdT fun _ _ h => h⟩, ?_⟩
  (conv => whnf)
  refine ⟨fun v σ' => LstV σ' v ((t.chosen (t.edOf ed) bits)), fun v σ₁ σ₂ hv hle => hv.le hle, fun σ' hle _ => ?_, fun v _ => ?_⟩
  · (conv => whnf)
    refine ⟨Tryz.k50.any, (Tryz.chosenL_ok h t (ht.lg hle.frz2) hf (t.edOf ed) he bits hbits).mono ?_⟩
    rintro v σ'' ⟨hv, hle'⟩ -
    exact ⟨σ'', .refl _, hv, hle'⟩
  (conv => whnf)
  intro σ₂ h2 hC
  have hle2 := hle1.trans h2
  have hb := hb.le h2
  have ht := ht.lg h2.frz2
  have hpk := hpk.lg h2.frz2
  obtain ⟨-, a1, c1, rfl, i1⟩ := hC
  (conv => whnf)
  refine ⟨Tryz.k56.any, (Tryz.cuts_ok h t ht hf (t.edOf ed) he pka pkl pkc pk hpk).mono ?_⟩
  rintro _ σ₃ ⟨⟨a2, c2, rfl, kc, i2⟩, h3⟩ -
  have hle3 := hle2.trans h3
  have hb := hb.le h3
  have ht := ht.lg h3.frz2
  have hpk := hpk.lg h3.frz2
  have i1 := i1.lg h3.frz2
  generalize t.cutsOf (t.edOf ed) pk = cs at c4 cL kc i2 ⊢
  have hL := hA.filter (letAll cs)
  have nL := hL.len hf
  (conv => whnf)
  refine ⟨by unfold InR; omega, ?_⟩
  (conv => whnf)
  refine ⟨Nat × Value × List RC, fun y => [(4, .pointer (some ⟨b, 0, none⟩)), (9, .int .i64 (t.edOf ed)), (10, .slice a1 (t.chosen (t.edOf ed) bits).length c1), (11, .slice a2 cs.length c2), (12, y.2.1), (13, .int .i64 ((cs.length : Int) - 1 - y.1))],
    fun y σ' => σ₃.lg σ' ∧ y.2.2.map (·.c) = (cs.drop (cs.length - y.1)).reverse ∧ Acc 74 2 y.2.1 (y.2.2.flatMap encC) σ'.M σ₃.M ∧ (∀ r ∈ y.2.2, Ints σ₃.frz r.a r.c.items.length r.c.items ∧ r.c.items.length < 2 ^ 60) ∧ y.1 ≤ cs.length,
    fun y => cs.length - y.1, (0, .slice none 0 0, []), ⟨rfl, rfl, rfl, rfl, rfl, by simp only [Int.natCast_zero, Int.sub_zero]; rfl, trivial⟩, ⟨(View.le.refl _).lg, by simp, .nil, (fun r hr => absurd hr List.not_mem_nil), Nat.zero_le _⟩, ?_⟩
  rintro ⟨i, v, rows⟩ f σ₂₀ ⟨hlg, hrows, ha, hri, hi⟩
  simp only at hrows ha hri hi
  have hrl : rows.length = i := by
    have := congrArg List.length hrows
    rw [List.length_map, List.length_reverse, List.length_drop] at this
    omega
  obtain ⟨sa, sl, sc, rfl, _⟩ := Acc.src (σ := σ₂₀) ha
  have hfz : σ₃.frz.lg σ₂₀ := frz_self.trans hlg
  have hfz2 : σ₃.frz.lg σ₂₀.frz := ⟨hlg.imm, ⟨[], rfl⟩, hlg.tok⟩
  (conv => whnf); (repeat (refine ⟨rfl, ?_⟩; conv => whnf))
  refine cb_split (fun hc => ?_) (fun hc => ?_)
  · have hlt : i < cs.length := by simp at hc; omega
    obtain ⟨ad, c, vs, hx, rfl, hsp, ⟨a', l', c', rfl, hli, hll'⟩, -, hrd⟩ := RowsV.at i2 (show cs.length - 1 - i < cs.length by omega)
    have hl2 := hli.1
    subst hl2
    have hnx : cs.drop (cs.length - (i + 1)) = c :: cs.drop (cs.length - i) := by
      have := drop_at hx
      rwa [show cs.length - 1 - i = cs.length - (i + 1) by omega, show cs.length - (i + 1) + 1 = cs.length - i by omega] at this
    (conv => whnf)
    refine ⟨ad, cs.length - 1 - i, ⟨rfl, by omega, by omega⟩, ?_⟩
    (conv => whnf)
    refine ⟨_, ⟨rfl, hrd.lg hfz⟩, ?_⟩
    (conv => whnf)
    intro b52 hf52
    refine put_new hf52 fun σ₂₁ h21 hb52 => ?_
    have hb52 : Blk σ₂₁ b52 (encC (RC.mk a' c' c)).toArray := hb52
    (conv => whnf)
    refine raw_app (v := .slice sa sl sc) (cs := rows.flatMap encC) (new := encC (RC.mk a' c' c)) (M₀ := σ₃.M) Tryz.sl42 rfl rfl (by rw [h21.own]; exact ha) (.inr ⟨_, rfl, hb52.reads (fun k v hv => by simpa using hv)⟩) rfl (by simp [encC, Value.single]) (by have := encC_len rows; simp only [encC, List.length_cons, List.length_nil] at this ⊢; omega) fun v' M' ha' _ => ?_
    have ha'' : Acc 74 2 v' ((rows ++ [RC.mk a' c' c]).flatMap encC) M' σ₃.M := by rw [List.flatMap_append]; simpa using ha'
    obtain ⟨A2, hA2⟩ := ha''.own
    obtain ⟨ta, tl, tc, rfl, _⟩ := Acc.src (σ := { σ₂₁ with M := M' }) ha''
    (conv => whnf)
    refine ⟨by unfold InR; omega, ?_⟩
    (conv => whnf)
    refine ⟨rfl, (i + 1, .slice ta tl tc, rows ++ [RC.mk a' c' c]), ⟨rfl, rfl, rfl, rfl, rfl, by simp only [Int.natCast_add, Int.natCast_one]; rw [Int.sub_sub, Int.sub_sub, Int.sub_sub, Int.add_assoc]; rfl, trivial⟩, ⟨⟨fun x o h => h21.imm x o (hlg.imm x o h), ⟨A2, hA2⟩, h21.tok.trans hlg.tok⟩, by simp only; rw [hnx, List.map_append, hrows, List.reverse_cons]; rfl, ha'', fun r hr => ?_, by simp only; omega⟩, by show _ - _ < _ - _; omega⟩
    rcases List.mem_append.1 hr with hr | hr
    · exact hri r hr
    · rw [List.mem_singleton.1 hr]; exact ⟨hli, hll'⟩
  · have hge : cs.length ≤ i := by simp at hc; omega
    obtain rfl : i = cs.length := by omega
    rw [Nat.sub_self, List.drop_zero] at hrows
    have ht := ht.lg hfz2
    have i1 := i1.lg hfz2
    have i2 := i2.lg hfz2
    obtain ⟨A', hA'⟩ := ha.own
    have hrev : ∀ c ∈ cs.reverse, t.Lst (t.edOf ed) c.items := fun c hc => cL c (List.mem_reverse.1 hc)
    (conv => whnf)
    refine ⟨_, ⟨rfl, (hb.lg hlg).rdT fun _ _ h => h⟩, ?_⟩
    (conv => whnf)
    refine ⟨Tryz.k37.any, (Tryz.cutL_ok h t ht hf (t.edOf ed) he i1 hA i2 c4 cL).mono ?_⟩
    rintro _ σ₃₀ ⟨⟨_, rfl, a3, c3, rfl, i3⟩, h30⟩ -
    have ht := ht.lg h30.frz2
    have i1 := i1.lg h30.frz2
    have i2 := i2.lg h30.frz2
    (conv => whnf)
    refine ⟨_, ⟨rfl, ((hb.lg hlg).le h30).rdT fun _ _ h => h⟩, ?_⟩
    (conv => whnf)
    refine ⟨Tryz.k37.any, (Tryz.cutT_ok h t ht hf (t.edOf ed) he i1 hA (M₀ := σ₃.M) (by rw [h30.own]; exact ha) (fun r hr => ⟨((hri r hr).1.lg hfz2).lg h30.frz2, (hri r hr).2⟩) hrows (by rw [List.length_reverse]; exact c4) hrev).mono ?_⟩
    rintro _ σ₄ ⟨⟨_, rfl, a4, c4', rfl, i4⟩, h40⟩ -
    have hz40 : σ₃₀.frz.lg σ₄.frz := ⟨h40.imm, ⟨[], rfl⟩, h40.tok⟩
    have h4 : σ₃.le σ₄ := ⟨fun x o h => h40.imm x o (h30.imm x o (hlg.imm x o h)), h40.own, h40.tok.trans (h30.tok.trans hlg.tok)⟩
    have hle4 := hle3.trans h4
    have hb := hb.le h4
    have ht := ht.lg hz40
    have i1 := i1.lg hz40
    have i2 := i2.lg hz40
    have i3 := i3.lg hz40
    have e1 : ((t.chosen (t.edOf ed) bits).filter (letAll cs)) = (t.chosen (t.edOf ed) bits).filter (letAll cs.reverse) := by rw [letAll_reverse]
    have n4 := List.length_filter_le (letAll cs.reverse) (t.chosen (t.edOf ed) bits)
    (conv => whnf)
    refine ⟨rfl, ?_⟩
    (conv => whnf)
    refine ⟨rfl, ?_⟩
    (conv => whnf)
    refine ⟨Tryz.k33.any, (Tryz.sameT_ok i3 i4 (by omega) (by omega) e1).mono ?_⟩
    rintro _ σ' ⟨rfl, hσ'⟩ -
    obtain rfl := hσ'.symm
    have hnil : (t.chosen (t.edOf ed) bits).filter (letAll []) = (t.chosen (t.edOf ed) bits) := List.filter_eq_self.2 fun _ _ => rfl
    (conv => whnf)
    refine ⟨Nat × Value, fun y => [(4, .pointer (some ⟨b, 0, none⟩)), (9, .int .i64 (t.edOf ed)), (10, .slice a1 (t.chosen (t.edOf ed) bits).length c1), (11, .slice a2 cs.length c2), (14, .slice a3 ((t.chosen (t.edOf ed) bits).filter (letAll cs)).length c3), (18, y.2), (19, .int .i64 y.1)],
      fun y σ' => σ₄.le σ' ∧ LstV σ' y.2 ((t.chosen (t.edOf ed) bits).filter (letAll (cs.take y.1))) ∧ y.1 ≤ cs.length, fun y => cs.length - y.1, (0, .slice a1 (t.chosen (t.edOf ed) bits).length c1), ⟨rfl, rfl, rfl, rfl, rfl, rfl, rfl, trivial⟩, ⟨.refl _, ⟨a1, c1, by simp only [List.take_zero]; rw [hnil], by simp only [List.take_zero]; rw [hnil]; exact i1⟩, Nat.zero_le _⟩, ?_⟩
    rintro ⟨i, v⟩ f σ₅ ⟨h5, hone, hi⟩
    simp only at hone hi
    obtain ⟨a5, c5, rfl, i5⟩ := hone
    have hle5 := hle4.trans h5
    have hb := hb.le h5
    have ht := ht.lg h5.frz2
    have i1 := i1.lg h5.frz2
    have i2 := i2.lg h5.frz2
    have i3 := i3.lg h5.frz2
    have i4 := i4.lg h5.frz2
    (conv => whnf); (repeat (refine ⟨rfl, ?_⟩; conv => whnf))
    refine cb_split (fun hc => ?_) (fun hc => ?_)
    · have hlt : i < cs.length := by simpa using hc
      have hx : cs[i]? = some (cs[i]'hlt) := List.getElem?_eq_getElem hlt
      generalize cs[i]'hlt = c at hx
      have hin : InR ((i : Int) + 1) := by unfold InR; omega
      have hO := hA.filter (letAll (cs.take i))
      have hstep := filter_step hx (t.chosen (t.edOf ed) bits)
      have hcl := cL c (List.mem_of_getElem? hx)
      (conv => whnf)
      refine ⟨_, ⟨rfl, hb.rdT fun _ _ h => h⟩, ?_⟩
      (conv => whnf)
      refine ⟨hin, ?_⟩
      (conv => whnf)
      refine ⟨i, i + 1, ⟨rfl, rfl, by omega, by omega⟩, ?_⟩
      have hcs := cuts_sub i2 hx kc
      generalize (if c2 = i then a2 else a2.map (·.add (i * 2))) = da at hcs ⊢
      (conv => whnf)
      refine ⟨fun v σ' => OneV σ' v ((t.chosen (t.edOf ed) bits).filter (letAll (cs.take (i + 1)))), fun v σ₁ σ₂ hv hle => hv.le hle, fun σ' hle hC => ?_, fun v hv => ?_⟩
      · (conv => whnf)
        refine ⟨Tryz.k37.any, ((by rw [← hstep]; exact Tryz.cutL_ok h t (ht.lg hle.frz2) hf (t.edOf ed) he (i5.lg hle.frz2) hO (hcs.lg hle.frz2) (by simp) (fun c' hc' => by rw [List.mem_singleton.1 hc']; exact hcl) : CallsV _ 37 _ (fun v σ'' => OneV σ'' v ((t.chosen (t.edOf ed) bits).filter (letAll (cs.take (i + 1)))) ∧ σ'.le σ'') σ')).mono ?_⟩
        rintro v σ'' ⟨hv, hle'⟩ -
        exact ⟨σ'', .refl _, hv, hle'⟩
      obtain ⟨_, -, -, _, rfl, a6, c6, rfl, -⟩ := hv
      (conv => whnf)
      intro σ₆ h6 hC
      have hle6 := hle5.trans h6
      have hb := hb.le h6
      have ht := ht.lg h6.frz2
      have i1 := i1.lg h6.frz2
      have i2 := i2.lg h6.frz2
      have i3 := i3.lg h6.frz2
      have i4 := i4.lg h6.frz2
      have i5 := i5.lg h6.frz2
      obtain ⟨-, hv⟩ := hC
      have i6 := hv.at
      (conv => whnf); (repeat (refine ⟨rfl, ?_⟩; conv => whnf))
      refine ⟨hin, ?_⟩
      (conv => whnf)
      exact ⟨rfl, (i + 1, .slice a6 _ c6), ⟨rfl, rfl, rfl, rfl, rfl, rfl, rfl, trivial⟩, ⟨h5.trans h6, ⟨a6, c6, rfl, i6⟩, by simp only; omega⟩, by show _ - _ < _ - _; omega⟩
    · have hge : cs.length ≤ i := by simpa using hc
      have htk : cs.take i = cs := List.take_of_length_le hge
      have n5 := List.length_filter_le (letAll (cs.take i)) (t.chosen (t.edOf ed) bits)
      (conv => whnf)
      refine ⟨Tryz.k33.any, (Tryz.sameT_ok i5 i3 (by omega) (by omega) (by rw [htk])).mono ?_⟩
      rintro _ σ' ⟨rfl, hσ'⟩ -
      obtain rfl := hσ'.symm
      (conv => whnf); (repeat (refine ⟨rfl, ?_⟩; conv => whnf))
      refine ⟨Nat, fun j => [(4, .pointer (some ⟨b, 0, none⟩)), (10, .slice a1 (t.chosen (t.edOf ed) bits).length c1), (11, .slice a2 cs.length c2), (14, .slice a3 ((t.chosen (t.edOf ed) bits).filter (letAll cs)).length c3), (22, .int .i64 j)],
        fun j σ' => σ₅.le σ' ∧ j ≤ (t.chosen (t.edOf ed) bits).length, fun j => (t.chosen (t.edOf ed) bits).length - j, 0, ⟨rfl, rfl, rfl, rfl, rfl, trivial⟩, ⟨.refl _, Nat.zero_le _⟩, ?_⟩
      rintro j f σ₆ ⟨h6, hj⟩
      have hle6 := hle5.trans h6
      have hb := hb.le h6
      have ht := ht.lg h6.frz2
      have i1 := i1.lg h6.frz2
      have i2 := i2.lg h6.frz2
      have i3 := i3.lg h6.frz2
      have i4 := i4.lg h6.frz2
      have i5 := i5.lg h6.frz2
      (conv => whnf); (repeat (refine ⟨rfl, ?_⟩; conv => whnf))
      refine cb_split (fun hc => ?_) (fun hc => ?_)
      · have hjt : j < (t.chosen (t.edOf ed) bits).length := by simpa using hc
        obtain ⟨ad, x, hx, rfl, hsp, hs⟩ := (i1.lg frz_self).at hjt
        have hjn : InR ((j : Int) + 1) := by unfold InR; omega
        have hxA : x ∈ (t.chosen (t.edOf ed) bits) := List.mem_of_getElem? hx
        (conv => whnf)
        refine ⟨Nat, fun q => [(4, .pointer (some ⟨b, 0, none⟩)), (10, .slice (some ad) (t.chosen (t.edOf ed) bits).length c1), (11, .slice a2 cs.length c2), (14, .slice a3 ((t.chosen (t.edOf ed) bits).filter (letAll cs)).length c3), (22, .int .i64 j), (23, .bool (letAll (cs.take q) x)), (24, .int .i64 q)],
          fun q σ' => σ₆.le σ' ∧ q ≤ cs.length, fun q => cs.length - q, 0, ⟨rfl, rfl, rfl, rfl, rfl, rfl, rfl, trivial⟩, ⟨.refl _, Nat.zero_le _⟩, ?_⟩
        rintro q f σ₇ ⟨h7, hq⟩
        have hle7 := hle6.trans h7
        have hb := hb.le h7
        have ht := ht.lg h7.frz2
        have i1 := i1.lg h7.frz2
        have i2 := i2.lg h7.frz2
        have i3 := i3.lg h7.frz2
        have i4 := i4.lg h7.frz2
        have i5 := i5.lg h7.frz2
        (conv => whnf); (repeat (refine ⟨rfl, ?_⟩; conv => whnf))
        refine cb_split (fun hc => ?_) (fun hc => ?_)
        · have hqt : q < cs.length := by simpa using hc
          obtain ⟨adc, c, vs, hxc, rfl, hspc, ⟨a', l', c', rfl, hli, hll'⟩, -, hrd⟩ := RowsV.at i2 hqt
          have hl2 := hli.1
          subst hl2
          have hqn : InR ((q : Int) + 1) := by unfold InR; omega
          have hstp := letAll_take hxc x
          (conv => whnf)
          refine gb_split (fun hc => ?_) (fun hc => ?_)
          · have hl : letAll (cs.take q) x = true := hc
            rw [hl, Bool.true_and] at hstp
            (conv => whnf)
            refine ⟨adc, q, ⟨rfl, rfl, hqt⟩, ?_⟩
            (conv => whnf)
            refine ⟨_, (hrd 0 _ rfl).lg frz_self, ?_⟩
            (conv => whnf)
            refine ⟨ad, j, ⟨rfl, rfl, hjt⟩, ?_⟩
            (conv => whnf)
            refine ⟨_, (hs.lg (h7.lg)), ?_⟩
            (conv => whnf)
            refine ⟨.bool (c.items.contains x), fun σ' hle _ => ?_, ?_⟩
            · (conv => whnf)
              refine ⟨Tryz.k53.any, (Tryz.hasL_ok (hli.lg hle.frz2) (by have := (cL c (List.mem_of_getElem? hxc)).len hf; omega) x).mono ?_⟩
              rintro _ σ'' ⟨rfl, hσ⟩ -
              exact ⟨rfl, _, .refl _, hσ ▸ .refl _⟩
            (conv => whnf)
            refine ⟨adc, q, ⟨rfl, rfl, hqt⟩, ?_⟩
            (conv => whnf)
            refine ⟨_, (hrd 1 _ rfl).lg frz_self, ?_⟩
            (conv => whnf)
            intro σ₈ h8 _
            (conv => whnf); (repeat (refine ⟨rfl, ?_⟩; conv => whnf))
            refine ⟨hqn, ?_⟩
            (conv => whnf)
            exact ⟨rfl, q + 1, ⟨rfl, rfl, rfl, rfl, rfl, by rw [hstp]; rfl, rfl, trivial⟩, ⟨h7.trans h8, by omega⟩, by show _ - _ < _ - _; omega⟩
          · have hl : letAll (cs.take q) x = false := hc
            rw [hl, Bool.false_and] at hstp
            (conv => whnf)
            intro σ₈ h8 _
            (conv => whnf); (repeat (refine ⟨rfl, ?_⟩; conv => whnf))
            refine ⟨hqn, ?_⟩
            (conv => whnf)
            exact ⟨rfl, q + 1, ⟨rfl, rfl, rfl, rfl, rfl, by rw [hstp]; rfl, rfl, trivial⟩, ⟨h7.trans h8, by omega⟩, by show _ - _ < _ - _; omega⟩
        · have hqe : cs.length ≤ q := by simpa using hc
          have htq : cs.take q = cs := List.take_of_length_le hqe
          have hmem : ((t.chosen (t.edOf ed) bits).filter (letAll cs)).contains x = letAll cs x := by
            rw [Bool.eq_iff_iff, List.contains_iff_mem, List.mem_filter]
            exact ⟨fun h => h.2, fun h => ⟨hxA, h⟩⟩
          (conv => whnf)
          refine ⟨ad, j, ⟨rfl, rfl, hjt⟩, ?_⟩
          (conv => whnf)
          refine ⟨_, (hs.lg (h7.lg)), ?_⟩
          have kH := Tryz.hasL_ok (S := SysG Tryz.prog 164 2) (cap := c3) i3 (by omega) x
          rw [hmem] at kH
          (conv => whnf)
          refine ⟨Tryz.k53.any, (kH).mono ?_⟩
          rintro _ σ' ⟨rfl, hσ'⟩ -
          obtain rfl := hσ'.symm
          rw [htq]
          (conv => whnf)
          cases letAll cs x
          · (conv => whnf); (repeat (refine ⟨rfl, ?_⟩; conv => whnf))
            refine ⟨hjn, ?_⟩
            (conv => whnf)
            exact ⟨rfl, j + 1, ⟨rfl, rfl, rfl, rfl, rfl, trivial⟩, ⟨h6.trans h7, by omega⟩, by show _ - _ < _ - _; omega⟩
          · (conv => whnf); (repeat (refine ⟨rfl, ?_⟩; conv => whnf))
            refine ⟨hjn, ?_⟩
            (conv => whnf)
            exact ⟨rfl, j + 1, ⟨rfl, rfl, rfl, rfl, rfl, trivial⟩, ⟨h6.trans h7, by omega⟩, by show _ - _ < _ - _; omega⟩
      · (conv => whnf)
        refine ⟨Tryz.k26.any, (stocks _ hle6).mono ?_⟩
        rintro _ σ' ⟨rfl, hσ'⟩ -
        obtain rfl := hσ'.symm
        (conv => whnf); (repeat (refine ⟨rfl, ?_⟩; conv => whnf))
        exact hle6.lg
end Go.Proofs
