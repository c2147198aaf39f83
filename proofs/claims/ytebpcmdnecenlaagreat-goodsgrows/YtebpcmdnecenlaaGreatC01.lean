/- A part of the proof: lemmas that the last text uses. No conditions of its own. -/
import Derived.Test.YtebpcmdnecenlaaGreatB27
import Derived.Test.YtebpcmdnecenlaaGreatB26
import Derived.Test.YtebpcmdnecenlaaGreatB24
import Derived.Test.YtebpcmdnecenlaaGreatB23
import Derived.Test.YtebpcmdnecenlaaGreatC00
set_option linter.unusedSimpArgs false
set_option linter.unusedVariables false
namespace Go.Proofs
open Go.TM
set_option maxRecDepth 100000
variable {T : Type} {S : TM.Sys Tryz.prog T} {σ : View T}
attribute [local irreducible] CallsV YieldV rngX

end Go.Proofs
namespace Go.TM
def nums (n : Nat) : List Int := (List.range n).map fun (j : Nat) => (j : Int)
theorem mem_nums {n : Nat} {x : Int} : x ∈ nums n ↔ 0 ≤ x ∧ x < n := by
  unfold nums
  simp only [List.mem_map, List.mem_range]
  constructor
  · rintro ⟨j, h, rfl⟩; omega
  · rintro ⟨h1, h2⟩; exact ⟨x.toNat, by omega, by omega⟩
theorem asc_nums (n : Nat) : Asc (nums n) := by
  unfold nums Asc
  rw [List.pairwise_map]
  exact List.pairwise_lt_range.imp fun h => by omega
theorem nums_succ (n : Nat) : nums (n + 1) = nums n ++ [(n : Int)] := by unfold nums; rw [List.range_succ]; simp
def Tbl.ni (t : Tbl) (e : Int) : Nat := (t.items e).length
theorem Tbl.isItem_iff {t : Tbl} {e n : Int} : t.isItem e n = true ↔ 0 ≤ n ∧ n < t.ni e := by
  unfold Tbl.isItem btw Tbl.ni
  simp only [Bool.and_eq_true, decide_eq_true_eq]
  omega
theorem Tbl.ni8 {t : Tbl} (hf : t.flaw = 0) (e : Int) : t.ni e ≤ 8 := by
  unfold Tbl.ni Tbl.items
  split
  · rename_i he
    have hb := Tbl.isEd_lt he
    obtain ⟨-, -, h8⟩ := Tbl.flaw_eds hf
    rw [List.getD_eq_getElem?_getD, List.getElem?_eq_getElem (by omega)]
    exact h8 _ (List.getElem_mem _)
  · simp
end Go.TM
namespace Go.TM
variable {T : Type} {P : Program} {S : Sys P T} {σ : View T}
theorem CallsV.okd {f : FuncId} {args : Array Value} {R R' : Value → View T → Prop} (h : CallsV S f args R σ) (hr : ∀ v σ' w, σ'.ok w → R v σ' → ∃ σ'', Shift σ' σ'' ∧ R' v σ'') : CallsV S f args R' σ := by
  intro Stop m c cs k
  refine h Stop m c cs fun v σ' r => ?_
  by_cases hs : ∃ w, σ'.ok w
  · obtain ⟨w, hw⟩ := hs
    obtain ⟨σ'', h1, h2⟩ := hr v σ' w hw r
    exact .shift h1 (k v _ h2)
  · exact .priv ⟨rfl, fun w ok => absurd ⟨w, ok⟩ hs⟩
theorem AccIn.intsV {v : Value} {l : List Int} {A R : List Res} {I : Nat → Option Obj} {k : T} (h : AccIn 3 1 v (l.map fun n => .int .i64 n) A) {w : World} (ok : (⟨I, A ++ R, k⟩ : View T).ok w) :
    ∃ σ'' : View T, Shift ⟨I, A ++ R, k⟩ σ'' ∧ σ''.ok w ∧ (∀ x o, I x = some o → σ''.I x = some o) ∧ σ''.M = R ∧ σ''.tok = k ∧ IntsV σ''.frz v l := by
  obtain ⟨σ'', k1, k2, a, len, cap, rfl, hl, hsrc, hsp, _⟩ := Acc.freeze (σ := ⟨I, R, k⟩) (σ' := ⟨I, A ++ R, k⟩) ok.sep (h R) (fun _ _ h => h) rfl
  simp at hl
  exact ⟨σ'', k1, (k1.2 w ok).1, k2.imm, k2.own, k2.tok, a, cap, by rw [hl], ints_src hsrc hsp⟩
end Go.TM
namespace Go.Proofs
open Go.TM
set_option maxRecDepth 100000
variable {T : Type} {S : TM.Sys Tryz.prog T} {σ : View T}
attribute [local irreducible] CallsV YieldV rngX

end Go.Proofs
namespace Go.TM
end Go.TM
namespace Go.Proofs
open Go.TM
set_option maxRecDepth 100000
variable {T : Type} {S : TM.Sys Tryz.prog T} {σ : View T}
attribute [local irreducible] CallsV YieldV rngX

end Go.Proofs
namespace Go.TM
variable {T : Type} {σ : View T}
end Go.TM
namespace Go.Proofs
open Go.TM
set_option maxRecDepth 100000
variable {T : Type} {S : TM.Sys Tryz.prog T} {σ : View T}
attribute [local irreducible] CallsV YieldV rngX

end Go.Proofs
namespace Go.TM
variable {T : Type} {P : Program} {S : Sys P T} {σ : View T}
end Go.TM
namespace Go.Proofs
open Go.TM
set_option maxRecDepth 100000
variable {T : Type} {S : TM.Sys Tryz.prog T} {σ : View T}
attribute [local irreducible] CallsV YieldV rngX

end Go.Proofs
namespace Go.TM
structure Tbl.Lst (t : Tbl) (e : Int) (l : List Int) : Prop where
  asc : Asc l
  its : ∀ x ∈ l, t.isItem e x = true
theorem Tbl.chk_of {t : Tbl} {e : Int} : ∀ {l : List Int} {p : Option Int}, (∀ m, p = some m → ∀ x ∈ l, m < x) → Asc l → (∀ x ∈ l, t.isItem e x = true) → t.chk e p l = 0
  | [], _, _, _, _ => rfl
  | a :: l, p, hp, ha, hi => by
    have ha' := List.pairwise_cons.1 ha
    have ih : t.chk e (some a) l = 0 := Tbl.chk_of (fun m e x hx => by cases e; exact ha'.1 x hx) ha'.2 fun x hx => hi x (List.mem_cons_of_mem _ hx)
    rw [Tbl.chk_cons, if_pos (hi a (List.mem_cons_self ..))]
    cases p with
    | none => exact ih
    | some m =>
      have := hp m rfl a (List.mem_cons_self ..)
      show (if a ≤ m then (7 : Int) else _) = 0
      rw [if_neg (by omega)]; exact ih
theorem Tbl.Lst.chk {t : Tbl} {e : Int} {l : List Int} (h : t.Lst e l) : t.chk e none l = 0 := Tbl.chk_of (fun m e => by cases e) h.asc h.its
theorem Tbl.Lst.of {t : Tbl} {e : Int} {l : List Int} (h : t.chk e none l = 0) : t.Lst e l := ⟨(Tbl.chk_asc h).1, fun x hx => chk_items h x hx⟩
theorem Tbl.Lst.filter {t : Tbl} {e : Int} {l : List Int} (h : t.Lst e l) (p : Int → Bool) : t.Lst e (l.filter p) := ⟨h.asc.filter p, fun x hx => h.its x (List.mem_filter.1 hx).1⟩
theorem Tbl.Lst.len {t : Tbl} {e : Int} {l : List Int} (hf : t.flaw = 0) (h : t.Lst e l) : l.length ≤ 8 := by
  rcases chk_len hf h.chk (by simp) with rfl | h
  · simp
  · exact h
theorem Tbl.Lst.lt {t : Tbl} {e : Int} {l : List Int} (hf : t.flaw = 0) (h : t.Lst e l) : ∀ x ∈ l, 0 ≤ x ∧ x < 8 := fun x hx => Tbl.item_lt hf (h.its x hx)
theorem Tbl.chkAll_of {t : Tbl} {e : Int} : ∀ {ls : List (List Int)}, (∀ l ∈ ls, t.Lst e l) → t.chkAll e ls = 0
  | [], _ => rfl
  | l :: ls, h => by
    rw [Tbl.chkAll, if_pos (h l (List.mem_cons_self ..)).chk]
    exact Tbl.chkAll_of fun l hl => h l (List.mem_cons_of_mem _ hl)
theorem Tbl.openF_of {t : Tbl} (hf : t.flaw = 0) {e : Int} (he : t.isEd e = true) {ls : List (List Int)} (h : ∀ l ∈ ls, t.Lst e l) : t.openF e ls = 0 := by
  unfold Tbl.openF
  rw [if_pos hf, if_pos he]; exact Tbl.chkAll_of h
section
variable {t : Tbl}
def Sub (a b : List Int) : Prop := ∀ x, x ∈ a → x ∈ b
section
variable {x y : Int} (hf : t.flaw = 0) (hx : t.isEd x = true) (hy : t.isEd y = true) {l : List Int} (h : t.Lst x l)
include hf hx hy h
end
end
def Tbl.chosen (t : Tbl) (e : Int) (bits : Nat) : List Int := (nums (t.ni e)).filter fun n => bits.testBit n.toNat
theorem Tbl.lst_chosen (t : Tbl) (e : Int) (bits : Nat) : t.Lst e (t.chosen e bits) :=
  ⟨(asc_nums _).filter _, fun x hx => Tbl.isItem_iff.2 (mem_nums.1 (List.mem_filter.1 hx).1)⟩
end Go.TM
namespace Go.TM
variable {T : Type} {P : Program} {S : Sys P T} {σ : View T}
theorem CallsV.listedG {f : FuncId} {args : Array Value} {G : Value → Value} {R : List Int → Prop}
    (h : CallsV S f args (fun v σ' => ∃ v1 l A X, v = G v1 ∧ R l ∧ σ'.M = A ++ (X ++ σ.M) ∧ AccIn 3 1 v1 (l.map fun n => .int .i64 n) A ∧ (∀ x o, σ.I x = some o → σ'.I x = some o) ∧ σ'.tok = σ.tok) σ) :
    CallsV S f args (fun v σ' => (∃ v1 l, v = G v1 ∧ R l ∧ IntsV σ'.frz v1 l) ∧ σ.le σ') σ := by
  refine h.okd fun v σ' w ok ⟨v1, l, A, X, hv, hR, hM, hA, hI, ht⟩ => ?_
  have s1 : Shift σ' { σ' with M := A ++ σ.M } := shift_drop (by rw [hM]; exact (List.Sublist.refl _).append (List.sublist_append_right ..))
  obtain ⟨σ₂, s2, ok2, i2, m2, t2, r2⟩ := hA.intsV (s1.2 w ok).1
  exact ⟨σ₂, s1.trans s2, ⟨v1, l, hv, hR, r2⟩, fun x o h => i2 x o (hI x o h), m2, t2.trans ht⟩
end Go.TM
namespace Go.Proofs
open Go.TM
set_option maxRecDepth 100000
variable {T : Type} {S : TM.Sys Tryz.prog T} {σ : View T}
attribute [local irreducible] CallsV YieldV rngX

end Go.Proofs
namespace Go.TM
def GCut.lets (c : GCut) (n : Int) : Bool := c.items.contains n == c.keep
def letAll (cs : List GCut) (n : Int) : Bool := cs.all fun c => c.lets n
theorem GCut.on_eq (c : GCut) (l : List Int) : c.on l = l.filter c.lets := by
  unfold GCut.on GCut.lets
  congr 1
  funext n
  cases c.items.contains n <;> cases c.keep <;> rfl
theorem cutAll_eq : ∀ (cs : List GCut) (l : List Int), cutAll cs l = l.filter (letAll cs)
  | [], l => by
    show l = _
    exact (List.filter_eq_self.2 fun _ _ => rfl).symm
  | c :: cs, l => by
    show cutAll cs (c.on l) = _
    rw [cutAll_eq cs, GCut.on_eq, List.filter_filter]
    congr 1
    funext n
    show (letAll cs n && c.lets n) = (c.lets n && letAll cs n)
    exact Bool.and_comm ..
theorem Tbl.cutF_of {t : Tbl} (hf : t.flaw = 0) {e : Int} (he : t.isEd e = true) {l : List Int} (hl : t.Lst e l) {cs : List GCut} (h4 : cs.length ≤ 4) (hc : ∀ c ∈ cs, t.Lst e c.items) : t.cutF e l cs = 0 := by
  unfold Tbl.cutF
  rw [if_pos (Tbl.openF_of hf he fun m hm => by rw [List.mem_singleton.1 hm]; exact hl), if_neg (by omega)]
  exact Tbl.chkAll_of fun m hm => by
    obtain ⟨c, h, rfl⟩ := List.mem_map.1 hm
    exact hc c h
theorem Tbl.cutL_of {t : Tbl} {e : Int} {l : List Int} {cs : List GCut} (h : t.cutF e l cs = 0) : t.cutL e l cs = l.filter (letAll cs) := by
  unfold Tbl.cutL
  rw [if_pos h, cutAll_eq]
theorem Tbl.growF_of {t : Tbl} (hf : t.flaw = 0) {e : Int} (he : t.isEd e = true) {a b : List Int} (ha : t.Lst e a) (hb : t.Lst e b) : t.growF e a b = 0 :=
  Tbl.openF_of hf he fun m hm => by
    rcases List.mem_cons.1 hm with rfl | hm
    · exact ha
    · rw [List.mem_singleton.1 hm]; exact hb
theorem Tbl.growN_none {t : Tbl} (hf : t.flaw = 0) {e : Int} (he : t.isEd e = true) {a b : List Int} (ha : t.Lst e a) (hb : t.Lst e b) (hs : Sub b a) : t.growN e a b = -1 := by
  unfold Tbl.growN
  rw [if_pos (show t.openF e [a, b] = 0 from Tbl.growF_of hf he ha hb)]
  have : (b.find? fun x => !a.contains x) = none := List.find?_eq_none.2 fun x hx => by
    have := hs x hx
    simp [this]
  rw [this]; rfl
theorem find_first {b : List Int} {p : Int → Bool} {n : Int} (hb : Asc b) (h : b.find? p = some n) : n ∈ b ∧ p n = true ∧ ∀ x ∈ b, x < n → p x = false := by
  induction b with
  | nil => cases h
  | cons y b ih =>
    have hy := List.pairwise_cons.1 hb
    rw [List.find?_cons] at h
    split at h
    · rename_i hp
      cases h
      refine ⟨List.mem_cons_self .., hp, fun x hx hlt => ?_⟩
      rcases List.mem_cons.1 hx with rfl | hx
      · omega
      · have := hy.1 x hx; omega
    · rename_i hp
      obtain ⟨h1, h2, h3⟩ := ih hy.2 h
      refine ⟨List.mem_cons_of_mem _ h1, h2, fun x hx hlt => ?_⟩
      rcases List.mem_cons.1 hx with rfl | hx
      · simpa using hp
      · exact h3 x hx hlt
theorem Tbl.growN_some {t : Tbl} (hf : t.flaw = 0) {e : Int} (he : t.isEd e = true) {a b : List Int} (ha : t.Lst e a) (hb : t.Lst e b) (hs : ¬ Sub b a) : 0 ≤ t.growN e a b ∧ t.growN e a b ∈ b ∧ t.growN e a b ∉ a ∧ ∀ x ∈ b, x < t.growN e a b → x ∈ a := by
  unfold Tbl.growN
  rw [if_pos (show t.openF e [a, b] = 0 from Tbl.growF_of hf he ha hb)]
  cases h : b.find? fun x => !a.contains x with
  | none =>
    refine absurd (fun x hx => ?_) hs
    have := List.find?_eq_none.1 h x hx
    simpa using this
  | some n =>
    obtain ⟨h1, h2, h3⟩ := find_first hb.asc h
    refine ⟨(hb.lt hf n h1).1, h1, by simpa using h2, fun x hx hlt => ?_⟩
    have := h3 x hx hlt
    simpa using this
theorem keep_same {a b : List Int} (ha : Asc a) (hb : Asc b) : a.filter (letAll [⟨b, true⟩]) = b ↔ Sub b a := by
  have hm : ∀ x, x ∈ a.filter (letAll [⟨b, true⟩]) ↔ x ∈ a ∧ x ∈ b := fun x => by
    rw [List.mem_filter]
    simp [letAll, GCut.lets]
  constructor
  · intro h x hx
    rw [← h] at hx
    exact ((hm x).1 hx).1
  · intro h
    exact asc_ext (ha.filter _) hb fun x => (hm x).trans ⟨fun h => h.2, fun hx => ⟨h x hx, hx⟩⟩
end Go.TM
namespace Go.TM
theorem wrap8 {n : Nat} (h : n < 256) : IntKind.wrap .u8 (n : Int) = n := by
  have e1 : (2 : Int) ^ 8 = 256 := by decide
  simp only [IntKind.wrap, IntKind.bits, IntKind.signed, Bool.false_and, e1]
  simp
  omega
theorem bit8 (u c : Nat) (hu : u < 256) (hc : c < 8) : IntKind.wrap .u8 (BitVec.ofInt (IntKind.bits .u8) ((u : Int).fdiv (2 ^ (min (c : Int).toNat (IntKind.bits .u8)))) &&& BitVec.ofInt (IntKind.bits .u8) 1).toNat = if u.testBit c then 1 else 0 := by
  show IntKind.wrap .u8 (BitVec.ofInt 8 ((u : Int).fdiv (2 ^ (min (c : Int).toNat 8))) &&& BitVec.ofInt 8 1).toNat = _
  have e1 : min (c : Int).toNat 8 = c := by simp; omega
  have e2 : (u : Int).fdiv (2 ^ c) = ((u / 2 ^ c : Nat) : Int) := by
    rw [Int.fdiv_eq_ediv_of_nonneg _ (by exact Int.pow_nonneg (by decide))]
    simp
  rw [e1, e2, BitVec.ofInt_natCast, show (BitVec.ofInt 8 1) = BitVec.ofNat 8 1 from rfl]
  have hlt : u / 2 ^ c < 2 ^ 8 := Nat.lt_of_le_of_lt (Nat.div_le_self ..) (by omega)
  have e3 : (BitVec.ofNat 8 (u / 2 ^ c) &&& BitVec.ofNat 8 1).toNat = u / 2 ^ c % 2 := by
    rw [BitVec.toNat_and, BitVec.toNat_ofNat, BitVec.toNat_ofNat, Nat.mod_eq_of_lt hlt, show 1 % 2 ^ 8 = 1 from rfl, Nat.and_one_is_mod]
  rw [e3, wrap8 (by omega), Nat.testBit_eq_decide_div_mod_eq]
  by_cases h : u / 2 ^ c % 2 = 1
  · simp [h]
  · have : u / 2 ^ c % 2 = 0 := by omega
    simp [this]
def Tbl.edOf (t : Tbl) (u : Nat) : Int := ((u % t.eds.length : Nat) : Int)
theorem Tbl.isEd_of {t : Tbl} (hf : t.flaw = 0) (u : Nat) : t.isEd (t.edOf u) = true := by
  have he3 := Tbl.flaw_eds hf
  have := Nat.mod_lt u (y := t.eds.length) (by omega)
  unfold Tbl.isEd btw Tbl.edOf
  simp only [Bool.and_eq_true, decide_eq_true_eq]
  omega
theorem nums_take {n c : Nat} (h : c < n) (p : Int → Bool) : (nums (c + 1)).filter p = (nums c).filter p ++ (if p (c : Int) then [(c : Int)] else []) := by
  rw [nums_succ, List.filter_append, List.filter_cons, List.filter_nil]
end Go.TM
namespace Go.Proofs
open Go.TM
set_option maxRecDepth 100000
variable {T : Type} {S : TM.Sys Tryz.prog T} {σ : View T}
attribute [local irreducible] CallsV YieldV rngX

theorem Tryz.fit_ok (h : TH) (t : Tbl) (ht : TabV σ h t) : CallsV S 48 #[h.v] (fun v σ' => (∃ B : Bool, v = .bool B ∧ (B = true → t.flaw = 0)) ∧ σ' = σ) σ := by
  refine CallsV.pure' (CallsV.of (args := [_]) Tryz.k48 Tryz.mixed (by simp) ?_)
  (conv => whnf); (repeat (refine ⟨rfl, ?_⟩; conv => whnf))
  intro b σ₁ h₁ hb
  have hb : Blk σ₁ b #[.slice h.ea h.el h.ec, .slice h.ma h.ml h.mc, .slice h.ka h.kl h.kc] := hb
  have ht₁ := ht.lg h₁.lg
  (conv => whnf)
  refine ⟨_, ⟨rfl, hb.rdT fun _ _ h => h⟩, ?_⟩
  (conv => whnf)
  refine ⟨Tryz.k24.any, (Tryz.big_ok h t ht₁).mono ?_⟩
  rintro _ σ' ⟨⟨B, rfl⟩, hσ'⟩ -
  obtain rfl := hσ'.symm
  (conv => whnf); (repeat (refine ⟨rfl, ?_⟩; conv => whnf))
  refine gb_split (fun hc => ?_) (fun hc => ?_)
  · (conv => whnf)
    refine ⟨_, ⟨rfl, hb.rdT fun _ _ h => h⟩, ?_⟩
    (conv => whnf)
    refine ⟨Tryz.k30.any, (Tryz.refTable_ok h t ht₁).mono ?_⟩
    rintro _ σ' ⟨rfl, hσ'⟩ -
    obtain rfl := hσ'.symm
    (conv => whnf); (repeat (refine ⟨rfl, ?_⟩; conv => whnf))
    exact ⟨⟨_, rfl, fun h => by simpa using h⟩, h₁.lg⟩
  · (conv => whnf); (repeat (refine ⟨rfl, ?_⟩; conv => whnf))
    exact ⟨⟨_, rfl, fun h => by cases h⟩, h₁.lg⟩

theorem Tryz.edOf_ok (h : TH) (t : Tbl) (ht : TabV σ h t) (hf : t.flaw = 0) (u : Nat) (hu : u < 256) : CallsV S 49 #[h.v, .int .u8 u] (fun v σ' => v = .int .i64 (t.edOf u) ∧ σ' = σ) σ := by
  refine CallsV.pure' (CallsV.of (args := [_, _]) Tryz.k49 Tryz.mixed (by simp) ?_)
  have hel := ht.eds.1
  have he3 := Tbl.flaw_eds hf
  (conv => whnf); (repeat (refine ⟨rfl, ?_⟩; conv => whnf))
  intro b σ₁ h₁ hb
  have hb : Blk σ₁ b #[.slice h.ea h.el h.ec, .slice h.ma h.ml h.mc, .slice h.ka h.kl h.kc] := hb
  (conv => whnf)
  refine ⟨_, hb.sees3 (o := 0) rfl, ?_⟩
  (conv => whnf); (repeat (refine ⟨rfl, ?_⟩; conv => whnf))
  have hw : IntKind.wrap .i64 (u : Int) = u := wrap_inR (by unfold InR; omega)
  rw [hw]
  refine ⟨by omega, ?_⟩
  (conv => whnf); (repeat (refine ⟨rfl, ?_⟩; conv => whnf))
  have e1 : (u : Int).tmod (h.el : Int) = ((u % h.el : Nat) : Int) := by
    rw [Int.tmod_eq_emod_of_nonneg (by omega)]; rfl
  exact ⟨by rw [e1, ← hel]; rfl, h₁.lg⟩

theorem Tryz.chosen_ok (h : TH) (t : Tbl) (ht : TabV σ h t) (hf : t.flaw = 0) (e : Int) (hed : t.isEd e = true) (u : Nat) (hu : u < 256) : CallsV S 50 #[h.v, .int .i64 e, .int .u8 u] (fun v σ' => (∃ v1 m, v = v1 ∧ m = t.chosen e u ∧ IntsV σ'.frz v1 m) ∧ σ.le σ') σ := by
  refine CallsV.listedG (G := fun v1 => v1) (R := fun m => m = t.chosen e u) (CallsV.of (args := [_, _, _]) Tryz.k50 Tryz.mixed (by simp) ?_)
  obtain ⟨ke, ade, ia, il, ic, rfl, hke, hea, hse, hit⟩ := Tbl.isEd_at ht hed
  have hil : (t.items (ke : Int)).length = il := hit.1
  have h8 := Tbl.ni8 hf (ke : Int)
  unfold Tbl.ni at h8
  (conv => whnf); (repeat (refine ⟨rfl, ?_⟩; conv => whnf))
  intro b σ₁ h₁ hb
  have hb : Blk σ₁ b #[.slice h.ea h.el h.ec, .slice h.ma h.ml h.mc, .slice h.ka h.kl h.kc] := hb
  (conv => whnf)
  refine ⟨Nat × Value, fun y => [(1, .int .i64 (ke : Int)), (2, .int .u8 u), (3, .pointer (some ⟨b, 0, none⟩)), (7, y.2), (8, .int .i64 y.1)],
    fun y σ' => σ₁.lg σ' ∧ (∀ x o, σ.I x = some o → σ'.I x = some o) ∧ σ'.tok = σ.tok ∧ Acc 3 1 y.2 (((nums y.1).filter fun n => u.testBit n.toNat).map fun n => .int .i64 n) σ'.M σ.M ∧ y.1 ≤ il, fun y => il - y.1, (0, .slice none 0 0), ⟨rfl, rfl, rfl, rfl, rfl, trivial⟩, ⟨(View.le.refl _).lg, h₁.imm, h₁.tok, by rw [h₁.own]; exact .nil, by simp⟩, ?_⟩
  rintro ⟨c, v⟩ f σ₂ ⟨hlg₂, hI, htk, ha, hi⟩
  simp only at ha hi
  have hlen := List.length_filter_le (fun n : Int => u.testBit n.toNat) (nums c)
  have hnl : (nums c).length = c := by unfold nums; simp
  obtain ⟨sa, sc, rfl, -⟩ := src_ints ha
  (conv => whnf)
  refine ⟨_, (hb.lg hlg₂).sees3 (o := 0) rfl, ?_⟩
  (conv => whnf)
  refine ⟨ade, ke, ⟨hea, rfl, hke⟩, ?_⟩
  (conv => whnf)
  refine ⟨_, hse.lg (h₁.lg.trans hlg₂), ?_⟩
  (conv => whnf); (repeat (refine ⟨rfl, ?_⟩; conv => whnf))
  refine cb_split (fun hc => ?_) (fun hc => ?_)
  · have hlt : c < il := by simpa using hc
    have hin : InR ((c : Int) + 1) := by unfold InR; omega
    have hns := nums_take hlt fun n => u.testBit n.toNat
    (conv => whnf); (repeat (refine ⟨rfl, ?_⟩; conv => whnf))
    refine ⟨by simp only; omega, ?_⟩
    (conv => whnf); (repeat (refine ⟨rfl, ?_⟩; conv => whnf))
    rw [bit8 u c hu (by omega)]
    refine cb_split (fun hc => ?_) (fun hc => ?_)
    · have hyes : u.testBit c = true := by
        apply Classical.byContradiction; intro hn
        rw [if_neg hn] at hc; simp at hc
      rw [if_pos (by simpa using hyes)] at hns
      (conv => whnf)
      intro b27 hf27
      refine put_new hf27 fun σ₅ h₅ hb₂₇ => ?_
      have hb₂₇ : Blk σ₅ b27 #[.int .i64 (c : Int)] := hb₂₇
      (conv => whnf)
      refine raw_app (v := .slice sa _ sc) (cs := ((nums c).filter fun n => u.testBit n.toNat).map fun n => .int .i64 n) (new := [.int .i64 (c : Int)]) (M₀ := σ.M) Tryz.sl27 rfl rfl (by rw [h₅.own]; exact ha) (.inr ⟨_, rfl, hb₂₇.reads (fun k v hv => by simpa using hv)⟩) rfl (by simp [Value.single]) (by simp; omega) fun v' M' ha' _ => ?_
      have ha'' : Acc 3 1 v' (((nums (c + 1)).filter fun n => u.testBit n.toNat).map fun n => .int .i64 n) M' σ.M := by rw [hns]; simpa using ha'
      obtain ⟨ta, tc, rfl, -⟩ := src_ints (σ := { σ₅ with M := M' }) ha''
      obtain ⟨A', hA'⟩ := ha''.own
      (conv => whnf)
      refine ⟨hin, ?_⟩
      (conv => whnf)
      exact ⟨rfl, (c + 1, .slice ta _ tc), ⟨rfl, rfl, rfl, rfl, rfl, trivial⟩, ⟨⟨fun x o h => h₅.imm x o (hlg₂.imm x o h), ⟨A', by rw [h₁.own]; exact hA'⟩, h₅.tok.trans hlg₂.tok⟩, fun x o h => h₅.imm x o (hI x o h), h₅.tok.trans htk, ha'', by simp only; omega⟩, by show _ - _ < _ - _; omega⟩
    · have hno : u.testBit c = false := by
        apply Classical.byContradiction; intro hn
        rw [if_pos (by simpa using hn)] at hc; simp at hc
      rw [if_neg (by simp [hno])] at hns
      rw [List.append_nil] at hns
      (conv => whnf)
      refine ⟨hin, ?_⟩
      (conv => whnf)
      exact ⟨rfl, (c + 1, .slice sa _ sc), ⟨rfl, rfl, rfl, rfl, rfl, trivial⟩, ⟨hlg₂, hI, htk, by rw [hns]; exact ha, by simp only; omega⟩, by show _ - _ < _ - _; omega⟩
  · have hge : il ≤ c := by simpa using hc
    obtain rfl : c = il := by omega
    obtain ⟨A, hA, hain⟩ := ha.split
    (conv => whnf); (repeat (refine ⟨rfl, ?_⟩; conv => whnf))
    exact ⟨_, _, A, [], rfl, by unfold Tbl.chosen Tbl.ni; rw [hil], hA, hain, hI, htk⟩
end Go.Proofs
namespace Go.TM
end Go.TM
namespace Go.Proofs
open Go.TM
set_option maxRecDepth 100000
variable {T : Type} {S : TM.Sys Tryz.prog T} {σ : View T}
attribute [local irreducible] CallsV YieldV rngX

end Go.Proofs
namespace Go.TM
theorem View.le.frz2 {T : Type} {σ σ' : View T} (h : σ.le σ') : σ.frz.lg σ'.frz := ⟨h.imm, ⟨[], rfl⟩, h.tok⟩
def LstV {T : Type} (σ : View T) (v : Value) (l : List Int) : Prop := ∃ a c, v = .slice a l.length c ∧ Ints σ.frz a l.length l
theorem LstV.le {T : Type} {σ σ' : View T} {v : Value} {l : List Int} (h : LstV σ v l) (k : σ.le σ') : LstV σ' v l := let ⟨a, c, e, h⟩ := h; ⟨a, c, e, h.lg k.frz2⟩
end Go.TM
namespace Go.Proofs
open Go.TM
set_option maxRecDepth 100000
variable {T : Type} {S : TM.Sys Tryz.prog T} {σ : View T}
attribute [local irreducible] CallsV YieldV rngX
section
variable (h : TH) (t : Tbl) (ht : TabV σ.frz h t) (hf : t.flaw = 0)
include ht hf
theorem Tryz.chosenL_ok (e : Int) (hed : t.isEd e = true) (u : Nat) (hu : u < 256) : CallsV S 50 #[h.v, .int .i64 e, .int .u8 u] (fun v σ' => LstV σ' v (t.chosen e u) ∧ σ.le σ') σ := by
  refine (Tryz.chosen_ok h t (ht.lg frz_self) hf e hed u hu).mono ?_
  rintro v σ' ⟨⟨_, _, rfl, rfl, hi⟩, hle⟩
  exact ⟨hi, hle⟩
theorem Tryz.cutL_ok (e : Int) (hed : t.isEd e = true) {a ca : Option Addr} {cap cl cc : Nat} {l : List Int} {cs : List GCut} (hl : Ints σ.frz a l.length l) (hL : t.Lst e l) (hcs : CutsV σ.frz ca cl cs) (h4 : cs.length ≤ 4) (hc : ∀ c ∈ cs, t.Lst e c.items) :
    CallsV S 37 #[h.v, .int .i64 e, .slice a l.length cap, .slice ca cl cc] (fun v σ' => (∃ v1, v = .tuple #[v1, .int .i64 0] ∧ LstV σ' v1 (l.filter (letAll cs))) ∧ σ.le σ') σ := by
  have hF := Tbl.cutF_of hf hed hL h4 hc
  have h8 := hL.len hf
  have hcc := hcs.1
  have k := Tryz.Cut_ok (S := S) h t (ht.lg frz_self) e a ca l.length cap cl cc l cs (hl.lg frz_self) hcs (by omega) (by omega)
  rw [hF, Tbl.cutL_of hF] at k
  refine k.mono ?_
  rintro v σ' ⟨⟨v1, rfl, i1⟩, hle⟩
  exact ⟨⟨v1, rfl, i1⟩, hle⟩
theorem Tryz.growL_ok (e : Int) (hed : t.isEd e = true) {a a' : Option Addr} {cap cap' : Nat} {l l' : List Int} (hl : Ints σ.frz a l.length l) (hL : t.Lst e l) (hl' : Ints σ.frz a' l'.length l') (hL' : t.Lst e l') :
    CallsV S 39 #[h.v, .int .i64 e, .slice a l.length cap, .slice a' l'.length cap'] (fun v σ' => v = .tuple #[.int .i64 (t.growN e l l'), .int .i64 0] ∧ σ' = σ) σ := by
  have hF := Tbl.growF_of hf hed hL hL'
  have h8 := hL.len hf
  have h8' := hL'.len hf
  have k := Tryz.Grows_ok (S := S) h t (ht.lg frz_self) e a a' l.length cap l'.length cap' l l' (hl.lg frz_self) (hl'.lg frz_self) (by omega) (by omega)
  rw [hF] at k
  exact k
end
section
variable {a a' : Option Addr} {cap cap' : Nat} {l m : List Int} (hl : Ints σ.frz a l.length l) (hm : Ints σ.frz a' m.length m) (h1 : l.length ≤ 1000) (h2 : m.length ≤ 1000)
include hl hm h1 h2
theorem Tryz.sameL_ok : CallsV S 33 #[.slice a l.length cap, .slice a' m.length cap'] (fun v σ' => v = .bool (decide (l = m)) ∧ σ' = σ) σ := by
  have _ := h2
  exact Tryz.same_ok a a' _ cap _ cap' _ _ (hl.lg frz_self) (hm.lg frz_self) (by omega)
theorem Tryz.sameT_ok (hw : l = m) : CallsV S 33 #[.slice a l.length cap, .slice a' m.length cap'] (fun v σ' => v = .bool true ∧ σ' = σ) σ := by
  have k := Tryz.sameL_ok (S := S) (cap := cap) (cap' := cap') hl hm h1 h2
  rw [decide_eq_true hw] at k
  exact k
end
theorem Tryz.hasL_ok {a : Option Addr} {cap : Nat} {l : List Int} (hl : Ints σ.frz a l.length l) (h1 : l.length ≤ 1000) (n : Int) : CallsV S 53 #[.slice a l.length cap, .int .i64 n] (fun v σ' => v = .bool (l.contains n) ∧ σ' = σ) σ :=
  Tryz.hasInt_ok a l.length cap l (hl.lg frz_self) (by omega) n
end Go.Proofs
namespace Go.TM
section
variable {T : Type} {σ σ' : View T}
theorem LstV.at {a : Option Addr} {n c : Nat} {l : List Int} (h : LstV σ (.slice a n c) l) : Ints σ.frz a l.length l := by
  obtain ⟨_, _, e, h⟩ := h
  cases e; exact h
def MovV (σ : View T) (v : Value) (l m : List Int) : Prop := ∃ v1 v2, v = .tuple #[v1, v2, .int .i64 0] ∧ LstV σ v1 l ∧ LstV σ v2 m
theorem MovV.le {v : Value} {l m : List Int} (h : MovV σ v l m) (k : σ.le σ') : MovV σ' v l m := let ⟨v1, v2, e, h1, h2⟩ := h; ⟨v1, v2, e, h1.le k, h2.le k⟩
theorem MovV.at {a a' : Option Addr} {n c n' c' : Nat} {x : Value} {l m : List Int} (h : MovV σ (.tuple #[.slice a n c, .slice a' n' c', x]) l m) : Ints σ.frz a l.length l ∧ Ints σ.frz a' m.length m := by
  obtain ⟨v1, v2, e, h1, h2⟩ := h
  simp at e
  obtain ⟨rfl, rfl, -⟩ := e
  exact ⟨h1.at, h2.at⟩
def OneV (σ : View T) (v : Value) (l : List Int) : Prop := ∃ v1, v = .tuple #[v1, .int .i64 0] ∧ LstV σ v1 l
theorem OneV.le {v : Value} {l : List Int} (h : OneV σ v l) (k : σ.le σ') : OneV σ' v l := let ⟨v1, e, h1⟩ := h; ⟨v1, e, h1.le k⟩
theorem OneV.at {a : Option Addr} {n c : Nat} {x : Value} {l : List Int} (h : OneV σ (.tuple #[.slice a n c, x]) l) : Ints σ.frz a l.length l := by
  obtain ⟨v1, e, h1⟩ := h
  simp at e
  obtain ⟨rfl, -⟩ := e
  exact h1.at
end
theorem CutsV.one {T : Type} {σ : View T} {b : Nat} {a : Option Addr} {cap : Nat} {l : List Int} {keep : Bool} (hb : Blk σ b #[.slice a l.length cap, .bool keep]) (h : Ints σ a l.length l) (k : l.length < 2 ^ 60) : CutsV σ (some ⟨b, 0, none⟩) 1 [⟨l, keep⟩] := by
  refine ⟨rfl, fun i x hx => ?_⟩
  obtain rfl : i = 0 := by have := (List.getElem?_eq_some_iff.1 hx).1; simp at this; omega
  cases hx
  refine ⟨_, _, rfl, rfl, ⟨a, l.length, cap, rfl, h, k⟩, rfl, fun i v hv => ?_⟩
  match i, hv with
  | 0, hv => simp at hv; subst hv; rw [Nat.zero_mul, add_none, add_none]; exact hb.sees rfl
  | 1, hv => simp at hv; subst hv; rw [Nat.zero_mul, add_none, add_none]; exact hb.sees rfl
  | i + 2, hv => simp at hv
theorem Blk.frz {T : Type} {σ : View T} {b : Nat} {c : Array Value} (h : Blk σ b c) : Blk σ.frz b c := h
end Go.TM
namespace Go.Proofs
open Go.TM
set_option maxRecDepth 100000
variable {T : Type} {S : TM.Sys Tryz.prog T} {σ : View T}
attribute [local irreducible] CallsV YieldV rngX
theorem Tryz.hasT_ok {a : Option Addr} {cap : Nat} {l : List Int} (hl : Ints σ.frz a l.length l) (h1 : l.length ≤ 1000) {n : Int} (hn : n ∈ l) : CallsV S 53 #[.slice a l.length cap, .int .i64 n] (fun v σ' => v = .bool true ∧ σ' = σ) σ := by
  have k := Tryz.hasL_ok (S := S) (cap := cap) hl h1 n
  rw [show l.contains n = true by simpa using hn] at k
  exact k
theorem Tryz.hasF_ok {a : Option Addr} {cap : Nat} {l : List Int} (hl : Ints σ.frz a l.length l) (h1 : l.length ≤ 1000) {n : Int} (hn : n ∉ l) : CallsV S 53 #[.slice a l.length cap, .int .i64 n] (fun v σ' => v = .bool false ∧ σ' = σ) σ := by
  have k := Tryz.hasL_ok (S := S) (cap := cap) hl h1 n
  rw [show l.contains n = false by simpa using hn] at k
  exact k
theorem Tryz.sameF_ok {a a' : Option Addr} {cap cap' : Nat} {l m : List Int} (hl : Ints σ.frz a l.length l) (hm : Ints σ.frz a' m.length m) (h1 : l.length ≤ 1000) (h2 : m.length ≤ 1000) (hw : l ≠ m) : CallsV S 33 #[.slice a l.length cap, .slice a' m.length cap'] (fun v σ' => v = .bool false ∧ σ' = σ) σ := by
  have k := Tryz.sameL_ok (S := S) (cap := cap) (cap' := cap') hl hm h1 h2
  rw [decide_eq_false hw] at k
  exact k
end Go.Proofs
