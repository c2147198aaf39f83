/- A part of the proof: lemmas that the last text uses. No conditions of its own. -/
import Derived.Test.YtebpcmdnecenlaaGreatB27
import Derived.Test.YtebpcmdnecenlaaGreatC00
set_option linter.unusedSimpArgs false
set_option linter.unusedVariables false
namespace Go.Proofs
open Go.TM
set_option maxRecDepth 100000
variable {T : Type} {S : TM.Sys Tryz.prog T} {σ : View T}
attribute [local irreducible] CallsV YieldV rngX

set_option maxHeartbeats 1000000 in
theorem Tryz.refClasses_ok (h : TH) (t : Tbl) (ht : TabV σ h t) (e : Int) (a : Option Addr) (len cap : Nat) (l : List Int) (hl : Ints σ a len l) (hlen : len < 2 ^ 60) :
    CallsV S 28 #[h.v, .int .i64 e, .slice a len cap] (fun v σ' => (∃ v1, v = .tuple #[v1, .int .i64 (t.openF e [l])] ∧ IntsV σ'.frz v1 (t.refCls e l)) ∧ σ.le σ') σ := by
  refine CallsV.listed (CallsV.of (args := [_, _, _]) Tryz.k28 Tryz.mixed (by simp) ?_)
  (conv => whnf); (repeat (refine ⟨rfl, ?_⟩; conv => whnf))
  intro b σ₁ h₁ hb
  have hb : Blk σ₁ b #[.slice h.ea h.el h.ec, .slice h.ma h.ml h.mc, .slice h.ka h.kl h.kc] := hb
  have ht₁ := ht.lg h₁.lg
  (conv => whnf)
  refine ⟨_, ⟨rfl, hb.rdT fun _ _ h => h⟩, ?_⟩
  (conv => whnf)
  refine ⟨Tryz.k32.any, (Tryz.refList_ok h t ht₁ e a len cap l (hl.lg h₁.lg) hlen).mono ?_⟩
  rintro _ σ' ⟨rfl, hσ'⟩ -
  obtain rfl := hσ'.symm
  (conv => whnf); (repeat (refine ⟨rfl, ?_⟩; conv => whnf))
  refine cb_split (fun hc => ?_) (fun hc => ?_)
  · have hf : t.openF e [l] ≠ 0 := by simpa using hc
    (conv => whnf); (repeat (refine ⟨rfl, ?_⟩; conv => whnf))
    exact ⟨_, rfl, by unfold Tbl.refCls; rw [if_neg hf, h₁.own]; exact .nil, h₁.imm, h₁.tok⟩
  have hf : t.openF e [l] = 0 := by simpa using hc
  have hspec : t.refCls e l = clsTo (l.map (t.clsAt e)) 45 := by unfold Tbl.refCls; rw [if_pos hf]
  obtain ⟨hfl, hed, hch⟩ := Tbl.open_one hf
  obtain ⟨ke, ade, ia, il, ic, rfl, hke, hea, hse, hit⟩ := Tbl.isEd_at ht hed
  have hil := hit.1
  rw [hspec, hf]
  (conv => whnf)
  refine ⟨Nat × Value, fun y => [(1, .int .i64 ke), (2, .slice a len cap), (3, .pointer (some ⟨b, 0, none⟩)), (9, y.2), (10, .int .i64 ((y.1 : Int) + 1))],
    fun y σ' => σ₁.lg σ' ∧ (∀ x o, σ.I x = some o → σ'.I x = some o) ∧ σ'.tok = σ.tok ∧ Acc 3 1 y.2 ((clsTo (l.map (t.clsAt ke)) y.1).map fun n => .int .i64 n) σ'.M σ.M ∧ y.1 ≤ 45, fun y => 45 - y.1, (0, .slice none 0 0), ⟨rfl, rfl, rfl, rfl, rfl, trivial⟩, ⟨(View.le.refl _).lg, h₁.imm, h₁.tok, by rw [h₁.own]; exact .nil, by simp⟩, ?_⟩
  rintro ⟨c, v⟩ f σ₂ ⟨hlg₂, hI, htk, ha, hi⟩
  simp only at ha hi
  obtain ⟨sa, sc, rfl, -⟩ := src_ints ha
  (conv => whnf); (repeat (refine ⟨rfl, ?_⟩; conv => whnf))
  refine cb_split (fun hc => ?_) (fun hc => ?_)
  · have hlt : c < 45 := by simp at hc; omega
    (conv => whnf)
    refine ⟨Nat, fun i => [(1, .int .i64 ke), (2, .slice a len cap), (3, .pointer (some ⟨b, 0, none⟩)), (9, .slice sa (clsTo (l.map (t.clsAt ke)) c).length sc), (10, .int .i64 ((c : Int) + 1)), (11, .bool ((l.take i).any fun n => t.clsAt ke n == (c : Int) + 1)), (12, .int .i64 i)],
      fun i σ' => σ₂.le σ' ∧ i ≤ len, fun i => len - i, 0, ⟨rfl, rfl, rfl, rfl, rfl, rfl, rfl, trivial⟩, ⟨.refl _, by omega⟩, ?_⟩
    rintro i f σ₃ ⟨h₃, hi⟩
    have hlg₃ := h₁.lg.trans (hlg₂.trans h₃.lg)
    (conv => whnf); (repeat (refine ⟨rfl, ?_⟩; conv => whnf))
    refine cb_split (fun hc => ?_) (fun hc => ?_)
    · have hilt : i < len := by simpa using hc
      obtain ⟨ad, n, hx, rfl, -, hs⟩ := (hl.lg hlg₃).at hilt
      have hni := chk_items hch n (List.mem_of_getElem? hx)
      have hn8 := Tbl.item_lt hfl hni
      obtain ⟨k, rfl⟩ := Int.eq_ofNat_of_zero_le hn8.1
      have hkl : k < il := by
        unfold Tbl.isItem btw at hni
        simp only [Bool.and_eq_true, decide_eq_true_eq] at hni
        omega
      obtain ⟨ad', it, vs, hxi, rfl, hsp', rfl, -, hrd⟩ := RowsV.at hit hkl
      have hca : t.clsAt ke (k : Int) = it.cls := by unfold Tbl.clsAt; rw [Int.toNat_natCast, hxi]; rfl
      have hin : InR (i + 1) := by unfold InR; omega
      have next : ((l.take (i + 1)).any fun n => t.clsAt ke n == (c : Int) + 1) = (((l.take i).any fun n => t.clsAt ke n == (c : Int) + 1) || (it.cls == (c : Int) + 1)) := by
        rw [take_at hx, List.any_append, List.any_cons, List.any_nil, hca, Bool.or_false]
      (conv => whnf); (repeat (refine ⟨rfl, ?_⟩; conv => whnf))
      refine gb_split (fun hc => ?_) (fun hc => ?_)
      · rw [show ((l.take i).any fun n => t.clsAt ke n == (c : Int) + 1) = false from hc, Bool.false_or] at next
        have hlg₂₃ : σ₁.lg σ₃ := hlg₂.trans h₃.lg
        (conv => whnf)
        refine ⟨_, (hb.lg hlg₂₃).sees3 (o := 0) rfl, ?_⟩
        (conv => whnf)
        refine ⟨ade, ke, ⟨hea, rfl, hke⟩, ?_⟩
        (conv => whnf)
        refine ⟨_, hse.lg hlg₃, ?_⟩
        (conv => whnf)
        refine ⟨ad, i, ⟨rfl, rfl, hilt⟩, ?_⟩
        (conv => whnf)
        refine ⟨_, hs, ?_⟩
        (conv => whnf)
        refine ⟨ad', k, ⟨rfl, rfl, hkl⟩, ?_⟩
        (conv => whnf)
        refine ⟨_, (hrd 1 _ rfl).lg hlg₃, ?_⟩
        (conv => whnf)
        intro σ₄ h₄ _
        (conv => whnf); (repeat (refine ⟨rfl, ?_⟩; conv => whnf))
        refine ⟨hin, ?_⟩
        (conv => whnf)
        refine ⟨rfl, i + 1, ⟨rfl, rfl, rfl, rfl, rfl, by rw [next]; rfl, rfl, trivial⟩, ⟨h₃.trans h₄, by omega⟩, by show _ - _ < _ - _; omega⟩
      · rw [show ((l.take i).any fun n => t.clsAt ke n == (c : Int) + 1) = true from hc, Bool.true_or] at next
        (conv => whnf)
        intro σ₄ h₄ _
        (conv => whnf); (repeat (refine ⟨rfl, ?_⟩; conv => whnf))
        refine ⟨hin, ?_⟩
        (conv => whnf)
        refine ⟨rfl, i + 1, ⟨rfl, rfl, rfl, rfl, rfl, by rw [next]; rfl, rfl, trivial⟩, ⟨h₃.trans h₄, by omega⟩, by show _ - _ < _ - _; omega⟩
    · have hge : len ≤ i := by simpa using hc
      have hD : ((l.take i).any fun n => t.clsAt ke n == (c : Int) + 1) = (l.map (t.clsAt ke)).contains ((c : Int) + 1) := by
        rw [List.take_of_length_le (by rw [hl.1]; omega), Bool.eq_iff_iff]
        simp
      have hin : InR ((c : Int) + 1 + 1) := by unfold InR; omega
      have hcs := clsTo_succ (l.map (t.clsAt ke)) c
      have hlen45 : (clsTo (l.map (t.clsAt ke)) c).length ≤ 45 := by
        have := List.length_filter_le (fun x => (l.map (t.clsAt ke)).contains x) ((List.range c).map fun (j : Nat) => (j : Int) + 1)
        unfold clsTo
        simp at this ⊢; omega
      (conv => whnf); (repeat (refine ⟨rfl, ?_⟩; conv => whnf))
      refine cb_split (fun hc => ?_) (fun hc => ?_)
      · have hin' : (l.map (t.clsAt ke)).contains ((c : Int) + 1) = true := hD.symm.trans hc
        rw [hin', if_pos rfl] at hcs
        (conv => whnf)
        intro b38 hf38
        refine put_new hf38 fun σ₅ h₅ hb₃₈ => ?_
        have hb₃₈ : Blk σ₅ b38 #[.int .i64 ((c : Int) + 1)] := hb₃₈
        (conv => whnf)
        refine raw_app (v := .slice sa _ sc) (cs := (clsTo (l.map (t.clsAt ke)) c).map fun n => .int .i64 n) (new := [.int .i64 ((c : Int) + 1)]) (M₀ := σ.M) Tryz.sl27 rfl rfl (by rw [h₅.own, h₃.own]; exact ha) (.inr ⟨_, rfl, hb₃₈.reads (fun k v hv => by simpa using hv)⟩) rfl (by simp [Value.single]) (by simp; omega) fun v' M' ha' _ => ?_
        have ha'' : Acc 3 1 v' ((clsTo (l.map (t.clsAt ke)) (c + 1)).map fun n => .int .i64 n) M' σ.M := by rw [hcs]; simpa using ha'
        obtain ⟨ta, tc, rfl, -⟩ := src_ints (σ := { σ₅ with M := M' }) ha''
        (conv => whnf)
        refine ⟨hin, ?_⟩
        (conv => whnf)
        refine ⟨rfl, (c + 1, .slice ta _ tc), ⟨rfl, rfl, rfl, rfl, rfl, trivial⟩, ⟨?_, fun x o h => h₅.imm x o (h₃.imm x o (hI x o h)), h₅.tok.trans (h₃.tok.trans htk), ha'', by show c + 1 ≤ 45; omega⟩, by show _ - _ < _ - _; omega⟩
        refine ⟨fun x o h => h₅.imm x o (h₃.imm x o (hlg₂.imm x o h)), ?_, h₅.tok.trans (h₃.tok.trans hlg₂.tok)⟩
        obtain ⟨A, hA⟩ := ha''.own
        exact ⟨A, by rw [h₁.own]; exact hA⟩
      · have hin' : (l.map (t.clsAt ke)).contains ((c : Int) + 1) = false := hD.symm.trans hc
        rw [hin'] at hcs
        simp only [Bool.false_eq_true, if_false, List.append_nil] at hcs
        (conv => whnf)
        refine ⟨hin, ?_⟩
        (conv => whnf)
        refine ⟨rfl, (c + 1, .slice sa (clsTo (l.map (t.clsAt ke)) c).length sc), ⟨rfl, rfl, rfl, rfl, rfl, trivial⟩, ⟨hlg₂.trans h₃.lg, fun x o h => h₃.imm x o (hI x o h), h₃.tok.trans htk, by rw [hcs, h₃.own]; exact ha, by show c + 1 ≤ 45; omega⟩, by show _ - _ < _ - _; omega⟩
  · have hge : 45 ≤ c := by simp at hc; omega
    obtain rfl : c = 45 := by omega
    (conv => whnf); (repeat (refine ⟨rfl, ?_⟩; conv => whnf))
    exact ⟨_, rfl, ha, hI, htk⟩
end Go.Proofs
