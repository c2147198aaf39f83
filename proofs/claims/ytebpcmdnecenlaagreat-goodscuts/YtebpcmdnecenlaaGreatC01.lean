/- A part of the proof: lemmas that the last text uses. No conditions of its own. -/
import Derived.Test.YtebpcmdnecenlaaGreatB27
import Derived.Test.YtebpcmdnecenlaaGreatB26
import Derived.Test.YtebpcmdnecenlaaGreatB24
import Derived.Test.YtebpcmdnecenlaaGreatC00
set_option linter.unusedSimpArgs false
set_option linter.unusedVariables false
namespace Go.Proofs
open Go.TM
set_option maxRecDepth 100000
variable {T : Type} {S : TM.Sys Tryz.prog T} {σ : View T}
attribute [local irreducible] CallsV YieldV rngX

end Go.Proofs
namespace Go.TM
end Go.TM
namespace Go.TM
variable {T : Type} {P : Program} {S : Sys P T} {σ : View T}
theorem CallsV.okd {f : FuncId} {args : Array Value} {R R' : Value → View T → Prop} (h : CallsV S f args R σ) (hr : ∀ v σ' w, σ'.ok w → R v σ' → ∃ σ'', Shift σ' σ'' ∧ R' v σ'') : CallsV S f args R' σ := by
  intro Stop m c cs k
  refine h Stop m c cs fun v σ' r => ?_
  by_cases hs : ∃ w, σ'.ok w
  · obtain ⟨w, hw⟩ := hs
    obtain ⟨σ'', h1, h2⟩ := hr v σ' w hw r
    exact .shift h1 (k v _ h2)
  · exact .priv ⟨rfl, fun w ok => absurd ⟨w, ok⟩ hs⟩
theorem AccIn.intsV {v : Value} {l : List Int} {A R : List Res} {I : Nat → Option Obj} {k : T} (h : AccIn 3 1 v (l.map fun n => .int .i64 n) A) {w : World} (ok : (⟨I, A ++ R, k⟩ : View T).ok w) :
    ∃ σ'' : View T, Shift ⟨I, A ++ R, k⟩ σ'' ∧ σ''.ok w ∧ (∀ x o, I x = some o → σ''.I x = some o) ∧ σ''.M = R ∧ σ''.tok = k ∧ IntsV σ''.frz v l := by
  obtain ⟨σ'', k1, k2, a, len, cap, rfl, hl, hsrc, hsp, _⟩ := Acc.freeze (σ := ⟨I, R, k⟩) (σ' := ⟨I, A ++ R, k⟩) ok.sep (h R) (fun _ _ h => h) rfl
  simp at hl
  exact ⟨σ'', k1, (k1.2 w ok).1, k2.imm, k2.own, k2.tok, a, cap, by rw [hl], ints_src hsrc hsp⟩
end Go.TM
namespace Go.Proofs
open Go.TM
set_option maxRecDepth 100000
variable {T : Type} {S : TM.Sys Tryz.prog T} {σ : View T}
attribute [local irreducible] CallsV YieldV rngX

end Go.Proofs
namespace Go.TM
end Go.TM
namespace Go.Proofs
open Go.TM
set_option maxRecDepth 100000
variable {T : Type} {S : TM.Sys Tryz.prog T} {σ : View T}
attribute [local irreducible] CallsV YieldV rngX

end Go.Proofs
namespace Go.TM
variable {T : Type} {σ : View T}
theorem Ints.src {a : Option Addr} {len : Nat} {l : List Int} (h : Ints σ a len l) : Src σ a (l.map fun n => .int .i64 n) := by
  cases l with
  | nil =>
    cases a with
    | none => exact .inl ⟨rfl, rfl⟩
    | some ad => exact .inr ⟨ad, rfl, fun i v hv => by simp at hv⟩
  | cons x r =>
    obtain ⟨ad, rfl, hs, -⟩ := h.2 0 x rfl
    refine .inr ⟨ad, rfl, fun i v hv => ?_⟩
    rw [List.getElem?_map] at hv
    cases e : (x :: r)[i]? with
    | none => rw [e] at hv; simp at hv
    | some y =>
      rw [e] at hv
      simp at hv
      subst hv
      obtain ⟨ad', e', _, h'⟩ := h.2 i y e
      cases e'
      rwa [Nat.mul_one] at h'
end Go.TM
namespace Go.Proofs
open Go.TM
set_option maxRecDepth 100000
variable {T : Type} {S : TM.Sys Tryz.prog T} {σ : View T}
attribute [local irreducible] CallsV YieldV rngX

end Go.Proofs
namespace Go.TM
variable {T : Type} {P : Program} {S : Sys P T} {σ : View T}
end Go.TM
namespace Go.Proofs
open Go.TM
set_option maxRecDepth 100000
variable {T : Type} {S : TM.Sys Tryz.prog T} {σ : View T}
attribute [local irreducible] CallsV YieldV rngX

end Go.Proofs
namespace Go.TM
structure Tbl.Lst (t : Tbl) (e : Int) (l : List Int) : Prop where
  asc : Asc l
  its : ∀ x ∈ l, t.isItem e x = true
theorem Tbl.chk_of {t : Tbl} {e : Int} : ∀ {l : List Int} {p : Option Int}, (∀ m, p = some m → ∀ x ∈ l, m < x) → Asc l → (∀ x ∈ l, t.isItem e x = true) → t.chk e p l = 0
  | [], _, _, _, _ => rfl
  | a :: l, p, hp, ha, hi => by
    have ha' := List.pairwise_cons.1 ha
    have ih : t.chk e (some a) l = 0 := Tbl.chk_of (fun m e x hx => by cases e; exact ha'.1 x hx) ha'.2 fun x hx => hi x (List.mem_cons_of_mem _ hx)
    rw [Tbl.chk_cons, if_pos (hi a (List.mem_cons_self ..))]
    cases p with
    | none => exact ih
    | some m =>
      have := hp m rfl a (List.mem_cons_self ..)
      show (if a ≤ m then (7 : Int) else _) = 0
      rw [if_neg (by omega)]; exact ih
theorem Tbl.Lst.chk {t : Tbl} {e : Int} {l : List Int} (h : t.Lst e l) : t.chk e none l = 0 := Tbl.chk_of (fun m e => by cases e) h.asc h.its
theorem Tbl.Lst.of {t : Tbl} {e : Int} {l : List Int} (h : t.chk e none l = 0) : t.Lst e l := ⟨(Tbl.chk_asc h).1, fun x hx => chk_items h x hx⟩
theorem Tbl.Lst.len {t : Tbl} {e : Int} {l : List Int} (hf : t.flaw = 0) (h : t.Lst e l) : l.length ≤ 8 := by
  rcases chk_len hf h.chk (by simp) with rfl | h
  · simp
  · exact h
section
variable {t : Tbl}
section
variable {x y : Int} (hf : t.flaw = 0) (hx : t.isEd x = true) (hy : t.isEd y = true) {l : List Int} (h : t.Lst x l)
include hf hx hy h
end
end
end Go.TM
namespace Go.TM
variable {T : Type} {P : Program} {S : Sys P T} {σ : View T}
theorem Tbl.open_pr {t : Tbl} {e : Int} {a b : List Int} : t.openF e [a, b] = if t.openF e [a] = 0 then t.chk e none b else t.openF e [a] := by
  unfold Tbl.openF
  by_cases hf : t.flaw = 0
  · simp only [hf, if_true]
    by_cases he : t.isEd e = true
    · simp only [he, if_true]
      unfold Tbl.chkAll
      by_cases ha : t.chk e none a = 0
      · simp only [ha, if_true, Tbl.chkAll]
        by_cases hb : t.chk e none b = 0
        · simp [hb]
        · simp [hb]
      · simp [ha]
    · simp [he]
  · simp [hf]
theorem CallsV.listedG {f : FuncId} {args : Array Value} {G : Value → Value} {R : List Int → Prop}
    (h : CallsV S f args (fun v σ' => ∃ v1 l A X, v = G v1 ∧ R l ∧ σ'.M = A ++ (X ++ σ.M) ∧ AccIn 3 1 v1 (l.map fun n => .int .i64 n) A ∧ (∀ x o, σ.I x = some o → σ'.I x = some o) ∧ σ'.tok = σ.tok) σ) :
    CallsV S f args (fun v σ' => (∃ v1 l, v = G v1 ∧ R l ∧ IntsV σ'.frz v1 l) ∧ σ.le σ') σ := by
  refine h.okd fun v σ' w ok ⟨v1, l, A, X, hv, hR, hM, hA, hI, ht⟩ => ?_
  have s1 : Shift σ' { σ' with M := A ++ σ.M } := shift_drop (by rw [hM]; exact (List.Sublist.refl _).append (List.sublist_append_right ..))
  obtain ⟨σ₂, s2, ok2, i2, m2, t2, r2⟩ := hA.intsV (s1.2 w ok).1
  exact ⟨σ₂, s1.trans s2, ⟨v1, l, hv, hR, r2⟩, fun x o h => i2 x o (hI x o h), m2, t2.trans ht⟩
theorem GCut.on_take {c : GCut} {l : List Int} {i : Nat} {x : Int} (h : l[i]? = some x) : c.on (l.take (i + 1)) = c.on (l.take i) ++ (if (c.items.contains x == c.keep) = true then [x] else []) := by
  rw [take_at h]
  unfold GCut.on
  rw [List.filter_append, List.filter_cons, List.filter_nil]
  congr 1
  cases c.items.contains x <;> cases c.keep <;> rfl
end Go.TM
namespace Go.Proofs
open Go.TM
set_option maxRecDepth 100000
variable {T : Type} {S : TM.Sys Tryz.prog T} {σ : View T}
attribute [local irreducible] CallsV YieldV rngX

theorem Tryz.long2_ok (a : Option Addr) (len cap : Nat) (ls : List (List Int)) (hl : ListsV σ a len ls) (hlen : len < 2 ^ 60) :
    CallsV S 25 #[.slice a len cap] (fun v σ' => (∃ B : Bool, v = .bool B ∧ (B = false → ∀ l ∈ ls, l.length ≤ 20)) ∧ σ' = σ) σ := by
  refine CallsV.of (args := [_]) Tryz.k25 Tryz.mixed (by simp) ?_
  (conv => whnf)
  refine ⟨Nat, fun i => [(0, .slice a len cap), (3, .int .i64 i)], fun i σ' => σ' = σ ∧ i ≤ len ∧ ∀ l ∈ ls.take i, l.length ≤ 20, fun i => len - i, 0, ⟨rfl, rfl, trivial⟩, ⟨rfl, by omega, by simp⟩, ?_⟩
  rintro i f _ ⟨rfl, hi, hall⟩
  (conv => whnf); (repeat (refine ⟨rfl, ?_⟩; conv => whnf))
  refine cb_split (fun hc => ?_) (fun hc => ?_)
  · have hlt : i < len := by simpa using hc
    obtain ⟨ad, x, vs, hx, rfl, hsp, ⟨a', len', cap', rfl, hli, -⟩, -, hrd⟩ := RowsV.at hl hlt
    (conv => whnf)
    refine ⟨ad, i, ⟨rfl, rfl, hlt⟩, ?_⟩
    (conv => whnf)
    refine ⟨_, hrd 0 _ rfl, ?_⟩
    (conv => whnf); (repeat (refine ⟨rfl, ?_⟩; conv => whnf))
    refine cb_split (fun hc => ?_) (fun hc => ?_)
    · (conv => whnf)
      exact ⟨⟨true, rfl, fun h => by cases h⟩, rfl⟩
    · have hle : len' ≤ 20 := by simp at hc; omega
      (conv => whnf)
      refine ⟨by unfold InR; omega, ?_⟩
      (conv => whnf)
      refine ⟨rfl, i + 1, ⟨rfl, rfl, trivial⟩, ⟨rfl, by omega, fun l hl' => ?_⟩, by show _ - _ < _ - _; omega⟩
      rw [take_at hx] at hl'
      rcases List.mem_append.1 hl' with h | h
      · exact hall l h
      · rw [List.mem_singleton.1 h, hli.1]; exact hle
  · have hge : len ≤ i := by simpa using hc
    (conv => whnf)
    exact ⟨⟨false, rfl, fun _ => by rwa [List.take_of_length_le (by rw [hl.1]; exact hge)] at hall⟩, rfl⟩

theorem Tryz.cutLong_ok (a : Option Addr) (len cap : Nat) (cs : List GCut) (hl : CutsV σ a len cs) (hlen : len < 2 ^ 60) :
    CallsV S 36 #[.slice a len cap] (fun v σ' => (∃ B : Bool, v = .bool B) ∧ σ' = σ) σ := by
  refine CallsV.of (args := [_]) Tryz.k36 Tryz.mixed (by simp) ?_
  (conv => whnf); (repeat (refine ⟨rfl, ?_⟩; conv => whnf))
  refine cb_split (fun hc => ?_) (fun hc => ?_)
  · (conv => whnf)
    exact ⟨⟨true, rfl⟩, rfl⟩
  (conv => whnf)
  refine ⟨Nat, fun i => [(0, .slice a len cap), (3, .int .i64 i)], fun i σ' => σ' = σ ∧ i ≤ len, fun i => len - i, 0, ⟨rfl, rfl, trivial⟩, ⟨rfl, by omega⟩, ?_⟩
  rintro i f _ ⟨rfl, hi⟩
  (conv => whnf); (repeat (refine ⟨rfl, ?_⟩; conv => whnf))
  refine cb_split (fun hc => ?_) (fun hc => ?_)
  · have hlt : i < len := by simpa using hc
    obtain ⟨ad, c, vs, hx, rfl, hsp, ⟨a', l', c', rfl, hli, hll'⟩, -, hrd⟩ := RowsV.at hl hlt
    (conv => whnf)
    refine ⟨ad, i, ⟨rfl, rfl, hlt⟩, ?_⟩
    (conv => whnf)
    refine ⟨_, hrd 0 _ rfl, ?_⟩
    (conv => whnf); (repeat (refine ⟨rfl, ?_⟩; conv => whnf))
    refine cb_split (fun hc => ?_) (fun hc => ?_)
    · (conv => whnf)
      exact ⟨⟨true, rfl⟩, rfl⟩
    · (conv => whnf)
      refine ⟨by unfold InR; omega, ?_⟩
      (conv => whnf)
      exact ⟨rfl, i + 1, ⟨rfl, rfl, trivial⟩, ⟨rfl, by omega⟩, by show _ - _ < _ - _; omega⟩
  · (conv => whnf)
    exact ⟨⟨false, rfl⟩, rfl⟩

theorem Tryz.refGrows_ok (h : TH) (t : Tbl) (ht : TabV σ h t) (e : Int) (a a' : Option Addr) (len cap len' cap' : Nat) (l l' : List Int) (hl : Ints σ a len l) (hl' : Ints σ a' len' l') (hlen : len < 2 ^ 60) (hlen' : len' < 2 ^ 60) :
    CallsV S 40 #[h.v, .int .i64 e, .slice a len cap, .slice a' len' cap'] (fun v σ' => v = .tuple #[.int .i64 (t.growN e l l'), .int .i64 (t.growF e l l')] ∧ σ' = σ) σ := by
  refine CallsV.pure' (CallsV.of (args := [_, _, _, _]) Tryz.k40 Tryz.mixed (by simp) ?_)
  have h2 := t.open_pr (e := e) (a := l) (b := l')
  (conv => whnf); (repeat (refine ⟨rfl, ?_⟩; conv => whnf))
  intro b σ₁ h₁ hb
  have hb : Blk σ₁ b #[.slice h.ea h.el h.ec, .slice h.ma h.ml h.mc, .slice h.ka h.kl h.kc] := hb
  have ht₁ := ht.lg h₁.lg
  have hl₁ := hl.lg h₁.lg
  have hl₁' := hl'.lg h₁.lg
  (conv => whnf)
  refine ⟨_, ⟨rfl, hb.rdT fun _ _ h => h⟩, ?_⟩
  (conv => whnf)
  refine ⟨Tryz.k32.any, (Tryz.refList_ok h t ht₁ e a len cap l hl₁ hlen).mono ?_⟩
  rintro _ σ' ⟨rfl, hσ'⟩ -
  obtain rfl := hσ'.symm
  (conv => whnf); (repeat (refine ⟨rfl, ?_⟩; conv => whnf))
  refine cb_split (fun hc => ?_) (fun hc => ?_)
  · have hf : t.openF e [l] ≠ 0 := by simpa using hc
    rw [if_neg hf] at h2
    (conv => whnf); (repeat (refine ⟨rfl, ?_⟩; conv => whnf))
    exact ⟨by unfold Tbl.growN Tbl.growF; rw [h2, if_neg hf]; rfl, h₁.lg⟩
  have hf : t.openF e [l] = 0 := by simpa using hc
  rw [if_pos hf] at h2
  obtain ⟨hfl, hed, hch⟩ := Tbl.open_one hf
  (conv => whnf)
  refine ⟨_, ⟨rfl, hb.rdT fun _ _ h => h⟩, ?_⟩
  (conv => whnf)
  refine ⟨Tryz.k76.any, (Tryz.listFlaw_ok h t ht₁ e hed a' len' cap' l' hl₁' hlen').mono ?_⟩
  rintro _ σ' ⟨rfl, hσ'⟩ -
  obtain rfl := hσ'.symm
  (conv => whnf); (repeat (refine ⟨rfl, ?_⟩; conv => whnf))
  refine cb_split (fun hc => ?_) (fun hc => ?_)
  · have hf2 : t.chk e none l' ≠ 0 := by simpa using hc
    (conv => whnf); (repeat (refine ⟨rfl, ?_⟩; conv => whnf))
    exact ⟨by unfold Tbl.growN Tbl.growF; rw [h2, if_neg hf2]; rfl, h₁.lg⟩
  have hf2 : t.chk e none l' = 0 := by simpa using hc
  rw [hf2] at h2
  have hN : t.growN e l l' = ((l'.find? fun x => !l.contains x).getD (-1)) := by unfold Tbl.growN; rw [h2, if_pos rfl]
  have hF : t.growF e l l' = 0 := h2
  rw [hN, hF]
  (conv => whnf)
  refine ⟨Nat, fun i => [(2, .slice a len cap), (3, .slice a' len' cap'), (12, .int .i64 i)], fun i σ' => σ' = σ₁ ∧ i ≤ len' ∧ l'.find? (fun x => !l.contains x) = (l'.drop i).find? (fun x => !l.contains x), fun i => len' - i, 0, ⟨rfl, rfl, rfl, trivial⟩, ⟨rfl, by omega, by simp⟩, ?_⟩
  rintro i f σ' ⟨hσ', hi, hno⟩
  obtain rfl := hσ'.symm
  (conv => whnf); (repeat (refine ⟨rfl, ?_⟩; conv => whnf))
  refine cb_split (fun hc => ?_) (fun hc => ?_)
  · have hlt : i < len' := by simpa using hc
    obtain ⟨ad, x, hx, rfl, hsp, hs⟩ := hl₁'.at hlt
    rw [drop_at hx, List.find?_cons] at hno
    (conv => whnf)
    refine ⟨ad, i, ⟨rfl, rfl, hlt⟩, ?_⟩
    (conv => whnf)
    refine ⟨_, hs, ?_⟩
    (conv => whnf)
    refine ⟨Tryz.k53.any, (Tryz.hasInt_ok a len cap l hl₁ hlen x).mono ?_⟩
    rintro _ σ' ⟨rfl, hσ'⟩ -
    obtain rfl := hσ'.symm
    (conv => whnf); (repeat (refine ⟨rfl, ?_⟩; conv => whnf))
    refine cb_split (fun hc => ?_) (fun hc => ?_)
    · have hn : (!l.contains x) = true := hc
      rw [hn] at hno
      (conv => whnf)
      refine ⟨ad, i, ⟨rfl, rfl, hlt⟩, ?_⟩
      (conv => whnf)
      refine ⟨_, hs, ?_⟩
      (conv => whnf); (repeat (refine ⟨rfl, ?_⟩; conv => whnf))
      exact ⟨by rw [hno]; rfl, h₁.lg⟩
    · have hn : (!l.contains x) = false := hc
      rw [hn] at hno
      (conv => whnf)
      refine ⟨by unfold InR; omega, ?_⟩
      (conv => whnf)
      exact ⟨rfl, i + 1, ⟨rfl, rfl, rfl, trivial⟩, ⟨rfl, by omega, hno⟩, by show _ - _ < _ - _; omega⟩
  · have hge : len' ≤ i := by simpa using hc
    rw [List.drop_eq_nil_of_le (by rw [hl'.1]; exact hge)] at hno
    (conv => whnf); (repeat (refine ⟨rfl, ?_⟩; conv => whnf))
    exact ⟨by rw [hno]; rfl, h₁.lg⟩

set_option maxHeartbeats 1000000 in
theorem Tryz.refCut_ok (h : TH) (t : Tbl) (ht : TabV σ h t) (e : Int) (a ca : Option Addr) (len cap cl cc : Nat) (l : List Int) (cs : List GCut) (hl : Ints σ a len l) (hcs : CutsV σ ca cl cs) (hlen : len ≤ 1000000) (hcl : cl < 2 ^ 60) :
    CallsV S 38 #[h.v, .int .i64 e, .slice a len cap, .slice ca cl cc] (fun v σ' => (∃ v1 m, v = .tuple #[v1, .int .i64 (t.cutF e l cs)] ∧ m = t.cutL e l cs ∧ IntsV σ'.frz v1 m) ∧ σ.le σ') σ := by
  refine CallsV.listedG (G := fun v1 => .tuple #[v1, .int .i64 (t.cutF e l cs)]) (R := fun m => m = t.cutL e l cs) (CallsV.of (args := [_, _, _, _]) Tryz.k38 Tryz.mixed (by simp) ?_)
  have hcc := hcs.1
  have hll := hl.1
  (conv => whnf); (repeat (refine ⟨rfl, ?_⟩; conv => whnf))
  intro b σ₁ h₁ hb
  have hb : Blk σ₁ b #[.slice h.ea h.el h.ec, .slice h.ma h.ml h.mc, .slice h.ka h.kl h.kc] := hb
  have ht₁ := ht.lg h₁.lg
  have hl₁ := hl.lg h₁.lg
  have hc₁ := hcs.lg h₁.lg
  (conv => whnf)
  refine ⟨_, ⟨rfl, hb.rdT fun _ _ h => h⟩, ?_⟩
  (conv => whnf)
  refine ⟨Tryz.k32.any, (Tryz.refList_ok h t ht₁ e a len cap l hl₁ (by omega)).mono ?_⟩
  rintro _ σ' ⟨rfl, hσ'⟩ -
  obtain rfl := hσ'.symm
  (conv => whnf); (repeat (refine ⟨rfl, ?_⟩; conv => whnf))
  refine cb_split (fun hc => ?_) (fun hc => ?_)
  · have hf : t.openF e [l] ≠ 0 := by simpa using hc
    have hF : t.cutF e l cs = t.openF e [l] := by unfold Tbl.cutF; rw [if_neg hf]
    have hL : t.cutL e l cs = [] := by unfold Tbl.cutL; rw [hF, if_neg hf]
    (conv => whnf); (repeat (refine ⟨rfl, ?_⟩; conv => whnf))
    exact ⟨_, _, [], [], by rw [hF]; rfl, rfl, by rw [h₁.own]; rfl, by rw [hL]; exact .nil, h₁.imm, h₁.tok⟩
  have hf : t.openF e [l] = 0 := by simpa using hc
  obtain ⟨hfl, hed, hch⟩ := Tbl.open_one hf
  (conv => whnf); (repeat (refine ⟨rfl, ?_⟩; conv => whnf))
  refine cb_split (fun hc => ?_) (fun hc => ?_)
  · have hbig : 4 < cs.length := by rw [hcc]; simp at hc; omega
    have hF : t.cutF e l cs = 2 := by unfold Tbl.cutF; rw [if_pos hf, if_pos hbig]
    have hL : t.cutL e l cs = [] := by unfold Tbl.cutL; rw [hF]; rfl
    (conv => whnf); (repeat (refine ⟨rfl, ?_⟩; conv => whnf))
    exact ⟨_, _, [], [], by rw [hF]; rfl, rfl, by rw [h₁.own]; rfl, by rw [hL]; exact .nil, h₁.imm, h₁.tok⟩
  have hbig : ¬ 4 < cs.length := by rw [hcc]; simp at hc; omega
  have hF : t.cutF e l cs = t.chkAll e (cs.map (·.items)) := by unfold Tbl.cutF; rw [if_pos hf, if_neg hbig]
  (conv => whnf)
  refine ⟨Nat, fun i => [(1, .int .i64 e), (2, .slice a len cap), (3, .slice ca cl cc), (4, .pointer (some ⟨b, 0, none⟩)), (11, .int .i64 i)],
    fun i σ' => σ₁.le σ' ∧ i ≤ cl ∧ t.chkAll e (cs.map (·.items)) = t.chkAll e ((cs.drop i).map (·.items)), fun i => cl - i, 0, ⟨rfl, rfl, rfl, rfl, rfl, trivial⟩, ⟨.refl _, by omega, by simp⟩, ?_⟩
  rintro i f σ₂ ⟨h₂, hi, hinv⟩
  have h₁₂ := h₁.trans h₂
  have hb₂ := hb.le h₂
  (conv => whnf); (repeat (refine ⟨rfl, ?_⟩; conv => whnf))
  refine cb_split (fun hc => ?_) (fun hc => ?_)
  · have hlt : i < cl := by simpa using hc
    obtain ⟨ad, c, vs, hx, rfl, hsp, ⟨a', l', c', rfl, hli, hll'⟩, -, hr⟩ := RowsV.at (hcs.lg h₁₂.lg) hlt
    rw [drop_at hx, List.map_cons, Tbl.chkAll] at hinv
    have hin : InR (i + 1) := by unfold InR; omega
    (conv => whnf)
    refine ⟨_, ⟨rfl, hb₂.rdT fun _ _ h => h⟩, ?_⟩
    (conv => whnf)
    refine ⟨ad, i, ⟨rfl, rfl, hlt⟩, ?_⟩
    (conv => whnf)
    refine ⟨_, hr 0 _ rfl, ?_⟩
    (conv => whnf)
    intro σ₃ h₃ _
    have h₁₃ := h₁₂.trans h₃
    (conv => whnf)
    refine ⟨Tryz.k76.any, (Tryz.listFlaw_ok h t (ht.lg h₁₃.lg) e hed a' l' c' c.items (hli.lg h₃.lg) hll').mono ?_⟩
    rintro _ σ' ⟨rfl, hσ'⟩ -
    obtain rfl := hσ'.symm
    (conv => whnf); (repeat (refine ⟨rfl, ?_⟩; conv => whnf))
    refine cb_split (fun hc => ?_) (fun hc => ?_)
    · have hn : t.chk e none c.items ≠ 0 := by simpa using hc
      have hF' : t.cutF e l cs = t.chk e none c.items := by rw [hF, hinv, if_neg hn]
      have hL : t.cutL e l cs = [] := by unfold Tbl.cutL; rw [hF', if_neg hn]
      (conv => whnf); (repeat (refine ⟨rfl, ?_⟩; conv => whnf))
      exact ⟨_, _, [], [], by rw [hF']; rfl, rfl, by rw [h₁₃.own]; rfl, by rw [hL]; exact .nil, h₁₃.imm, h₁₃.tok⟩
    · have hn : t.chk e none c.items = 0 := by simpa using hc
      (conv => whnf)
      refine ⟨hin, ?_⟩
      (conv => whnf)
      exact ⟨rfl, i + 1, ⟨rfl, rfl, rfl, rfl, rfl, trivial⟩, ⟨h₂.trans h₃, by omega, by rw [hinv, if_pos hn]⟩, by show _ - _ < _ - _; omega⟩
  have hge : cl ≤ i := by simpa using hc
  rw [List.drop_eq_nil_of_le (by omega)] at hinv
  have hF0 : t.cutF e l cs = 0 := by rw [hF, hinv]; rfl
  have hL : t.cutL e l cs = cutAll cs l := by unfold Tbl.cutL; rw [hF0, if_pos rfl]
  rw [hF0, hL]
  clear hinv hF hc hge hi
  (conv => whnf)
  intro b44 hf44
  refine ⟨_, .refl _, ?_⟩
  (conv => whnf)
  refine raw_app (v := .slice (some ⟨b44, 0, none⟩) 0 0) (cs := []) (new := l.map fun n => .int .i64 n) (M₀ := σ₂.M) Tryz.sl27 rfl rfl .empty (hl.lg (h₁₂.lg.trans (lg_put ..))).src (by simp; omega) (by simp [Value.single]) (by simp; omega) fun v1 M' ha1 _ => ?_
  have ha1 : Acc 3 1 v1 (l.map fun n => .int .i64 n) M' σ₂.M := by simpa using ha1
  obtain ⟨sa, sc, rfl, -⟩ := src_ints (σ := (⟨σ₂.I, M', σ₂.tok⟩ : View T)) ha1
  (conv => whnf)
  refine ⟨Nat × Value, fun y => [(3, .slice ca cl cc), (13, y.2), (14, .int .i64 y.1)],
    fun y σ' => (∀ x o, σ₂.I x = some o → σ'.I x = some o) ∧ σ'.tok = σ₂.tok ∧ (∃ X, Acc 3 1 y.2 ((cutAll (cs.take y.1) l).map fun n => .int .i64 n) σ'.M (X ++ σ₂.M)) ∧ y.1 ≤ cl, fun y => cl - y.1, (0, .slice sa l.length sc), ⟨rfl, rfl, rfl, trivial⟩, ⟨fun _ _ h => h, rfl, ⟨[], ha1⟩, by simp only; omega⟩, ?_⟩
  rintro ⟨k, v⟩ f σ₃ ⟨hI₃, ht₃, ⟨X, ha₃⟩, hk⟩
  simp only at ha₃ hk
  have hlen3 := cutAll_len (cs.take k) l
  generalize hcur : cutAll (cs.take k) l = cur at ha₃ hlen3
  obtain ⟨sa, sc, rfl, hcu⟩ := src_ints ha₃
  obtain ⟨A₃, hA₃⟩ := ha₃.own
  have hlg₃ : σ₂.lg σ₃ := ⟨hI₃, ⟨A₃ ++ X, by rw [hA₃, List.append_assoc]⟩, ht₃⟩
  (conv => whnf); (repeat (refine ⟨rfl, ?_⟩; conv => whnf))
  refine cb_split (fun hc => ?_) (fun hc => ?_)
  · have hlt : k < cl := by simpa using hc
    obtain ⟨ad, c, vs, hx, rfl, hsp, ⟨a', l', c', rfl, hli, hll'⟩, -, hr⟩ := RowsV.at (hcs.lg (h₁₂.lg.trans hlg₃)) hlt
    have hin : InR (k + 1) := by unfold InR; omega
    (conv => whnf)
    refine ⟨Nat × Value, fun y => [(3, .slice (some ad) cl cc), (13, .slice sa cur.length sc), (14, .int .i64 k), (15, y.2), (16, .int .i64 y.1)],
      fun y σ' => (∀ x o, σ₃.I x = some o → σ'.I x = some o) ∧ σ'.tok = σ₃.tok ∧ Acc 3 1 y.2 ((c.on (cur.take y.1)).map fun n => .int .i64 n) σ'.M σ₃.M ∧ y.1 ≤ cur.length, fun y => cur.length - y.1, (0, .slice none 0 0), ⟨rfl, rfl, rfl, rfl, rfl, trivial⟩, ⟨fun _ _ h => h, rfl, .nil, by simp only; omega⟩, ?_⟩
    rintro ⟨j, v⟩ f σ₄ ⟨hI₄, ht₄, ha₄, hj⟩
    simp only at ha₄ hj
    obtain ⟨A₄, hA₄⟩ := ha₄.own
    have hlg₄ : σ₃.lg σ₄ := ⟨hI₄, ⟨A₄, hA₄⟩, ht₄⟩
    obtain ⟨ta, tc, rfl, -⟩ := src_ints ha₄
    have hlen4 := GCut.on_len c (cur.take j)
    rw [List.length_take] at hlen4
    (conv => whnf); (repeat (refine ⟨rfl, ?_⟩; conv => whnf))
    refine cb_split (fun hc => ?_) (fun hc => ?_)
    · have hjt : j < cur.length := by simpa using hc
      obtain ⟨ad', x, hxj, rfl, hsp', hs⟩ := (hcu.lg hlg₄).at hjt
      have hjn : InR (j + 1) := by unfold InR; omega
      have hon := c.on_take hxj
      (conv => whnf)
      refine ⟨ad, k, ⟨rfl, rfl, hlt⟩, ?_⟩
      (conv => whnf)
      refine ⟨_, (hr 0 _ rfl).lg hlg₄, ?_⟩
      (conv => whnf)
      refine ⟨ad', j, ⟨rfl, rfl, hjt⟩, ?_⟩
      (conv => whnf)
      refine ⟨_, hs, ?_⟩
      (conv => whnf)
      refine ⟨.bool (c.items.contains x), fun σ' hle _ => ?_, ?_⟩
      · (conv => whnf)
        refine ⟨Tryz.k53.any, (Tryz.hasInt_ok a' l' c' c.items (hli.lg (hlg₄.trans hle.lg)) hll' x).mono ?_⟩
        rintro _ σ'' ⟨rfl, hσ⟩ -
        exact ⟨rfl, _, .refl _, hσ ▸ .refl _⟩
      (conv => whnf)
      refine ⟨ad, k, ⟨rfl, rfl, hlt⟩, ?_⟩
      (conv => whnf)
      refine ⟨_, (hr 1 _ rfl).lg hlg₄, ?_⟩
      (conv => whnf)
      intro σ₅ h₅ _
      (conv => whnf); (repeat (refine ⟨rfl, ?_⟩; conv => whnf))
      refine cb_split (fun hc => ?_) (fun hc => ?_)
      · have hyes : (c.items.contains x == c.keep) = true := hc
        rw [if_pos hyes] at hon
        (conv => whnf)
        refine ⟨ad', j, ⟨rfl, rfl, hjt⟩, ?_⟩
        (conv => whnf)
        refine ⟨_, hs.lg h₅.lg, ?_⟩
        (conv => whnf)
        intro b80 hf80
        refine put_new hf80 fun σ₆ h₆ hb₈₀ => ?_
        have hb₈₀ : Blk σ₆ b80 #[.int .i64 x] := hb₈₀
        (conv => whnf)
        refine raw_app (v := .slice ta _ tc) (cs := (c.on (cur.take j)).map fun n => .int .i64 n) (new := [.int .i64 x]) (M₀ := σ₃.M) Tryz.sl27 rfl rfl (by rw [h₆.own, h₅.own]; exact ha₄) (.inr ⟨_, rfl, hb₈₀.reads (fun k v hv => by simpa using hv)⟩) rfl (by simp [Value.single]) (by simp; omega) fun v' M' ha' _ => ?_
        have ha'' : Acc 3 1 v' ((c.on (cur.take (j + 1))).map fun n => .int .i64 n) M' σ₃.M := by rw [hon]; simpa using ha'
        obtain ⟨ua, uc, rfl, -⟩ := src_ints (σ := { σ₆ with M := M' }) ha''
        (conv => whnf)
        refine ⟨hjn, ?_⟩
        (conv => whnf)
        exact ⟨rfl, (j + 1, .slice ua _ uc), ⟨rfl, rfl, rfl, rfl, rfl, trivial⟩, ⟨fun x o h => h₆.imm x o (h₅.imm x o (hI₄ x o h)), h₆.tok.trans (h₅.tok.trans ht₄), ha'', by simp only; omega⟩, by show _ - _ < _ - _; omega⟩
      · have hno : (c.items.contains x == c.keep) = false := hc
        rw [hno] at hon
        simp only [Bool.false_eq_true, if_false, List.append_nil] at hon
        (conv => whnf)
        refine ⟨hjn, ?_⟩
        (conv => whnf)
        exact ⟨rfl, (j + 1, .slice ta _ tc), ⟨rfl, rfl, rfl, rfl, by rw [← hon]; rfl, trivial⟩, ⟨fun x o h => h₅.imm x o (hI₄ x o h), h₅.tok.trans ht₄, by rw [hon, h₅.own]; exact ha₄, by simp only; omega⟩, by show _ - _ < _ - _; omega⟩
    · have hge : cur.length ≤ j := by simpa using hc
      have htk : cur.take j = cur := List.take_of_length_le hge
      have hnew : cutAll (cs.take (k + 1)) l = c.on cur := by rw [cutAll_at hx, hcur]
      (conv => whnf)
      refine ⟨hin, ?_⟩
      (conv => whnf)
      refine ⟨rfl, (k + 1, .slice ta (c.on (cur.take j)).length tc), ⟨rfl, rfl, rfl, trivial⟩, ⟨fun x o h => hI₄ x o (hI₃ x o h), ht₄.trans ht₃, ⟨A₃ ++ X, ?_⟩, by simp only; omega⟩, by show _ - _ < _ - _; omega⟩
      rw [hnew, show c.on cur = c.on (cur.take j) by rw [htk], List.append_assoc, ← hA₃]
      exact ha₄
  · have hge : cl ≤ k := by simpa using hc
    rw [List.take_of_length_le (by omega)] at hcur
    subst hcur
    obtain ⟨A, hA, hin⟩ := ha₃.split
    (conv => whnf); (repeat (refine ⟨rfl, ?_⟩; conv => whnf))
    refine ⟨_, _, A, X, rfl, rfl, ?_, hin, fun x o h => hI₃ x o (h₁₂.imm x o h), ht₃.trans h₁₂.tok⟩
    rw [hA, h₁₂.own]
end Go.Proofs
