/- A part of the proof: lemmas that the last text uses. No conditions of its own. -/
import Derived.Test.YtebpcmdnecenlaaGreatB27
import Derived.Test.YtebpcmdnecenlaaGreatB26
import Derived.Test.YtebpcmdnecenlaaGreatB24
import Derived.Test.YtebpcmdnecenlaaGreatB23
import Derived.Test.YtebpcmdnecenlaaGreatB25
import Derived.Test.YtebpcmdnecenlaaGreatC00
set_option linter.unusedSimpArgs false
set_option linter.unusedVariables false
namespace Go.Proofs
open Go.TM
set_option maxRecDepth 100000
variable {T : Type} {S : TM.Sys Tryz.prog T} {σ : View T}
attribute [local irreducible] CallsV YieldV rngX

end Go.Proofs
namespace Go.TM
def nums (n : Nat) : List Int := (List.range n).map fun (j : Nat) => (j : Int)
theorem mem_nums {n : Nat} {x : Int} : x ∈ nums n ↔ 0 ≤ x ∧ x < n := by
  unfold nums
  simp only [List.mem_map, List.mem_range]
  constructor
  · rintro ⟨j, h, rfl⟩; omega
  · rintro ⟨h1, h2⟩; exact ⟨x.toNat, by omega, by omega⟩
theorem asc_nums (n : Nat) : Asc (nums n) := by
  unfold nums Asc
  rw [List.pairwise_map]
  exact List.pairwise_lt_range.imp fun h => by omega
theorem nums_succ (n : Nat) : nums (n + 1) = nums n ++ [(n : Int)] := by unfold nums; rw [List.range_succ]; simp
def Tbl.ni (t : Tbl) (e : Int) : Nat := (t.items e).length
theorem Tbl.isItem_iff {t : Tbl} {e n : Int} : t.isItem e n = true ↔ 0 ≤ n ∧ n < t.ni e := by
  unfold Tbl.isItem btw Tbl.ni
  simp only [Bool.and_eq_true, decide_eq_true_eq]
  omega
theorem Tbl.ni8 {t : Tbl} (hf : t.flaw = 0) (e : Int) : t.ni e ≤ 8 := by
  unfold Tbl.ni Tbl.items
  split
  · rename_i he
    have hb := Tbl.isEd_lt he
    obtain ⟨-, -, h8⟩ := Tbl.flaw_eds hf
    rw [List.getD_eq_getElem?_getD, List.getElem?_eq_getElem (by omega)]
    exact h8 _ (List.getElem_mem _)
  · simp
end Go.TM
namespace Go.TM
variable {T : Type} {P : Program} {S : Sys P T} {σ : View T}
theorem CallsV.okd {f : FuncId} {args : Array Value} {R R' : Value → View T → Prop} (h : CallsV S f args R σ) (hr : ∀ v σ' w, σ'.ok w → R v σ' → ∃ σ'', Shift σ' σ'' ∧ R' v σ'') : CallsV S f args R' σ := by
  intro Stop m c cs k
  refine h Stop m c cs fun v σ' r => ?_
  by_cases hs : ∃ w, σ'.ok w
  · obtain ⟨w, hw⟩ := hs
    obtain ⟨σ'', h1, h2⟩ := hr v σ' w hw r
    exact .shift h1 (k v _ h2)
  · exact .priv ⟨rfl, fun w ok => absurd ⟨w, ok⟩ hs⟩
theorem AccIn.intsV {v : Value} {l : List Int} {A R : List Res} {I : Nat → Option Obj} {k : T} (h : AccIn 3 1 v (l.map fun n => .int .i64 n) A) {w : World} (ok : (⟨I, A ++ R, k⟩ : View T).ok w) :
    ∃ σ'' : View T, Shift ⟨I, A ++ R, k⟩ σ'' ∧ σ''.ok w ∧ (∀ x o, I x = some o → σ''.I x = some o) ∧ σ''.M = R ∧ σ''.tok = k ∧ IntsV σ''.frz v l := by
  obtain ⟨σ'', k1, k2, a, len, cap, rfl, hl, hsrc, hsp, _⟩ := Acc.freeze (σ := ⟨I, R, k⟩) (σ' := ⟨I, A ++ R, k⟩) ok.sep (h R) (fun _ _ h => h) rfl
  simp at hl
  exact ⟨σ'', k1, (k1.2 w ok).1, k2.imm, k2.own, k2.tok, a, cap, by rw [hl], ints_src hsrc hsp⟩
end Go.TM
namespace Go.Proofs
open Go.TM
set_option maxRecDepth 100000
variable {T : Type} {S : TM.Sys Tryz.prog T} {σ : View T}
attribute [local irreducible] CallsV YieldV rngX

end Go.Proofs
namespace Go.TM
end Go.TM
namespace Go.Proofs
open Go.TM
set_option maxRecDepth 100000
variable {T : Type} {S : TM.Sys Tryz.prog T} {σ : View T}
attribute [local irreducible] CallsV YieldV rngX

end Go.Proofs
namespace Go.TM
variable {T : Type} {σ : View T}
theorem Ints.src {a : Option Addr} {len : Nat} {l : List Int} (h : Ints σ a len l) : Src σ a (l.map fun n => .int .i64 n) := by
  cases l with
  | nil =>
    cases a with
    | none => exact .inl ⟨rfl, rfl⟩
    | some ad => exact .inr ⟨ad, rfl, fun i v hv => by simp at hv⟩
  | cons x r =>
    obtain ⟨ad, rfl, hs, -⟩ := h.2 0 x rfl
    refine .inr ⟨ad, rfl, fun i v hv => ?_⟩
    rw [List.getElem?_map] at hv
    cases e : (x :: r)[i]? with
    | none => rw [e] at hv; simp at hv
    | some y =>
      rw [e] at hv
      simp at hv
      subst hv
      obtain ⟨ad', e', _, h'⟩ := h.2 i y e
      cases e'
      rwa [Nat.mul_one] at h'
end Go.TM
namespace Go.Proofs
open Go.TM
set_option maxRecDepth 100000
variable {T : Type} {S : TM.Sys Tryz.prog T} {σ : View T}
attribute [local irreducible] CallsV YieldV rngX

end Go.Proofs
namespace Go.TM
variable {T : Type} {P : Program} {S : Sys P T} {σ : View T}
end Go.TM
namespace Go.Proofs
open Go.TM
set_option maxRecDepth 100000
variable {T : Type} {S : TM.Sys Tryz.prog T} {σ : View T}
attribute [local irreducible] CallsV YieldV rngX

end Go.Proofs
namespace Go.TM
structure Tbl.Lst (t : Tbl) (e : Int) (l : List Int) : Prop where
  asc : Asc l
  its : ∀ x ∈ l, t.isItem e x = true
theorem Tbl.chk_of {t : Tbl} {e : Int} : ∀ {l : List Int} {p : Option Int}, (∀ m, p = some m → ∀ x ∈ l, m < x) → Asc l → (∀ x ∈ l, t.isItem e x = true) → t.chk e p l = 0
  | [], _, _, _, _ => rfl
  | a :: l, p, hp, ha, hi => by
    have ha' := List.pairwise_cons.1 ha
    have ih : t.chk e (some a) l = 0 := Tbl.chk_of (fun m e x hx => by cases e; exact ha'.1 x hx) ha'.2 fun x hx => hi x (List.mem_cons_of_mem _ hx)
    rw [Tbl.chk_cons, if_pos (hi a (List.mem_cons_self ..))]
    cases p with
    | none => exact ih
    | some m =>
      have := hp m rfl a (List.mem_cons_self ..)
      show (if a ≤ m then (7 : Int) else _) = 0
      rw [if_neg (by omega)]; exact ih
theorem Tbl.Lst.chk {t : Tbl} {e : Int} {l : List Int} (h : t.Lst e l) : t.chk e none l = 0 := Tbl.chk_of (fun m e => by cases e) h.asc h.its
theorem Tbl.Lst.of {t : Tbl} {e : Int} {l : List Int} (h : t.chk e none l = 0) : t.Lst e l := ⟨(Tbl.chk_asc h).1, fun x hx => chk_items h x hx⟩
theorem Tbl.Lst.filter {t : Tbl} {e : Int} {l : List Int} (h : t.Lst e l) (p : Int → Bool) : t.Lst e (l.filter p) := ⟨h.asc.filter p, fun x hx => h.its x (List.mem_filter.1 hx).1⟩
theorem Tbl.Lst.len {t : Tbl} {e : Int} {l : List Int} (hf : t.flaw = 0) (h : t.Lst e l) : l.length ≤ 8 := by
  rcases chk_len hf h.chk (by simp) with rfl | h
  · simp
  · exact h
theorem Tbl.chkAll_of {t : Tbl} {e : Int} : ∀ {ls : List (List Int)}, (∀ l ∈ ls, t.Lst e l) → t.chkAll e ls = 0
  | [], _ => rfl
  | l :: ls, h => by
    rw [Tbl.chkAll, if_pos (h l (List.mem_cons_self ..)).chk]
    exact Tbl.chkAll_of fun l hl => h l (List.mem_cons_of_mem _ hl)
theorem Tbl.openF_of {t : Tbl} (hf : t.flaw = 0) {e : Int} (he : t.isEd e = true) {ls : List (List Int)} (h : ∀ l ∈ ls, t.Lst e l) : t.openF e ls = 0 := by
  unfold Tbl.openF
  rw [if_pos hf, if_pos he]; exact Tbl.chkAll_of h
section
variable {t : Tbl}
section
variable {x y : Int} (hf : t.flaw = 0) (hx : t.isEd x = true) (hy : t.isEd y = true) {l : List Int} (h : t.Lst x l)
include hf hx hy h
end
end
def Tbl.chosen (t : Tbl) (e : Int) (bits : Nat) : List Int := (nums (t.ni e)).filter fun n => bits.testBit n.toNat
theorem Tbl.lst_chosen (t : Tbl) (e : Int) (bits : Nat) : t.Lst e (t.chosen e bits) :=
  ⟨(asc_nums _).filter _, fun x hx => Tbl.isItem_iff.2 (mem_nums.1 (List.mem_filter.1 hx).1)⟩
end Go.TM
namespace Go.TM
variable {T : Type} {P : Program} {S : Sys P T} {σ : View T}
theorem CallsV.listedG {f : FuncId} {args : Array Value} {G : Value → Value} {R : List Int → Prop}
    (h : CallsV S f args (fun v σ' => ∃ v1 l A X, v = G v1 ∧ R l ∧ σ'.M = A ++ (X ++ σ.M) ∧ AccIn 3 1 v1 (l.map fun n => .int .i64 n) A ∧ (∀ x o, σ.I x = some o → σ'.I x = some o) ∧ σ'.tok = σ.tok) σ) :
    CallsV S f args (fun v σ' => (∃ v1 l, v = G v1 ∧ R l ∧ IntsV σ'.frz v1 l) ∧ σ.le σ') σ := by
  refine h.okd fun v σ' w ok ⟨v1, l, A, X, hv, hR, hM, hA, hI, ht⟩ => ?_
  have s1 : Shift σ' { σ' with M := A ++ σ.M } := shift_drop (by rw [hM]; exact (List.Sublist.refl _).append (List.sublist_append_right ..))
  obtain ⟨σ₂, s2, ok2, i2, m2, t2, r2⟩ := hA.intsV (s1.2 w ok).1
  exact ⟨σ₂, s1.trans s2, ⟨v1, l, hv, hR, r2⟩, fun x o h => i2 x o (hI x o h), m2, t2.trans ht⟩
end Go.TM
namespace Go.Proofs
open Go.TM
set_option maxRecDepth 100000
variable {T : Type} {S : TM.Sys Tryz.prog T} {σ : View T}
attribute [local irreducible] CallsV YieldV rngX

end Go.Proofs
namespace Go.TM
def GCut.lets (c : GCut) (n : Int) : Bool := c.items.contains n == c.keep
def letAll (cs : List GCut) (n : Int) : Bool := cs.all fun c => c.lets n
theorem GCut.on_eq (c : GCut) (l : List Int) : c.on l = l.filter c.lets := by
  unfold GCut.on GCut.lets
  congr 1
  funext n
  cases c.items.contains n <;> cases c.keep <;> rfl
theorem cutAll_eq : ∀ (cs : List GCut) (l : List Int), cutAll cs l = l.filter (letAll cs)
  | [], l => by
    show l = _
    exact (List.filter_eq_self.2 fun _ _ => rfl).symm
  | c :: cs, l => by
    show cutAll cs (c.on l) = _
    rw [cutAll_eq cs, GCut.on_eq, List.filter_filter]
    congr 1
    funext n
    show (letAll cs n && c.lets n) = (c.lets n && letAll cs n)
    exact Bool.and_comm ..
theorem Tbl.cutF_of {t : Tbl} (hf : t.flaw = 0) {e : Int} (he : t.isEd e = true) {l : List Int} (hl : t.Lst e l) {cs : List GCut} (h4 : cs.length ≤ 4) (hc : ∀ c ∈ cs, t.Lst e c.items) : t.cutF e l cs = 0 := by
  unfold Tbl.cutF
  rw [if_pos (Tbl.openF_of hf he fun m hm => by rw [List.mem_singleton.1 hm]; exact hl), if_neg (by omega)]
  exact Tbl.chkAll_of fun m hm => by
    obtain ⟨c, h, rfl⟩ := List.mem_map.1 hm
    exact hc c h
theorem Tbl.cutL_of {t : Tbl} {e : Int} {l : List Int} {cs : List GCut} (h : t.cutF e l cs = 0) : t.cutL e l cs = l.filter (letAll cs) := by
  unfold Tbl.cutL
  rw [if_pos h, cutAll_eq]
theorem letAll_reverse (cs : List GCut) : letAll cs.reverse = letAll cs := by
  funext n; unfold letAll; rw [List.all_reverse]
end Go.TM
namespace Go.TM
theorem wrap8 {n : Nat} (h : n < 256) : IntKind.wrap .u8 (n : Int) = n := by
  have e1 : (2 : Int) ^ 8 = 256 := by decide
  simp only [IntKind.wrap, IntKind.bits, IntKind.signed, Bool.false_and, e1]
  simp
  omega
theorem bit8 (u c : Nat) (hu : u < 256) (hc : c < 8) : IntKind.wrap .u8 (BitVec.ofInt (IntKind.bits .u8) ((u : Int).fdiv (2 ^ (min (c : Int).toNat (IntKind.bits .u8)))) &&& BitVec.ofInt (IntKind.bits .u8) 1).toNat = if u.testBit c then 1 else 0 := by
  show IntKind.wrap .u8 (BitVec.ofInt 8 ((u : Int).fdiv (2 ^ (min (c : Int).toNat 8))) &&& BitVec.ofInt 8 1).toNat = _
  have e1 : min (c : Int).toNat 8 = c := by simp; omega
  have e2 : (u : Int).fdiv (2 ^ c) = ((u / 2 ^ c : Nat) : Int) := by
    rw [Int.fdiv_eq_ediv_of_nonneg _ (by exact Int.pow_nonneg (by decide))]
    simp
  rw [e1, e2, BitVec.ofInt_natCast, show (BitVec.ofInt 8 1) = BitVec.ofNat 8 1 from rfl]
  have hlt : u / 2 ^ c < 2 ^ 8 := Nat.lt_of_le_of_lt (Nat.div_le_self ..) (by omega)
  have e3 : (BitVec.ofNat 8 (u / 2 ^ c) &&& BitVec.ofNat 8 1).toNat = u / 2 ^ c % 2 := by
    rw [BitVec.toNat_and, BitVec.toNat_ofNat, BitVec.toNat_ofNat, Nat.mod_eq_of_lt hlt, show 1 % 2 ^ 8 = 1 from rfl, Nat.and_one_is_mod]
  rw [e3, wrap8 (by omega), Nat.testBit_eq_decide_div_mod_eq]
  by_cases h : u / 2 ^ c % 2 = 1
  · simp [h]
  · have : u / 2 ^ c % 2 = 0 := by omega
    simp [this]
def Tbl.edOf (t : Tbl) (u : Nat) : Int := ((u % t.eds.length : Nat) : Int)
theorem Tbl.isEd_of {t : Tbl} (hf : t.flaw = 0) (u : Nat) : t.isEd (t.edOf u) = true := by
  have he3 := Tbl.flaw_eds hf
  have := Nat.mod_lt u (y := t.eds.length) (by omega)
  unfold Tbl.isEd btw Tbl.edOf
  simp only [Bool.and_eq_true, decide_eq_true_eq]
  omega
theorem nums_take {n c : Nat} (h : c < n) (p : Int → Bool) : (nums (c + 1)).filter p = (nums c).filter p ++ (if p (c : Int) then [(c : Int)] else []) := by
  rw [nums_succ, List.filter_append, List.filter_cons, List.filter_nil]
end Go.TM
namespace Go.Proofs
open Go.TM
set_option maxRecDepth 100000
variable {T : Type} {S : TM.Sys Tryz.prog T} {σ : View T}
attribute [local irreducible] CallsV YieldV rngX

theorem Tryz.fit_ok (h : TH) (t : Tbl) (ht : TabV σ h t) : CallsV S 48 #[h.v] (fun v σ' => (∃ B : Bool, v = .bool B ∧ (B = true → t.flaw = 0)) ∧ σ' = σ) σ := by
  refine CallsV.pure' (CallsV.of (args := [_]) Tryz.k48 Tryz.mixed (by simp) ?_)
  (conv => whnf); (repeat (refine ⟨rfl, ?_⟩; conv => whnf))
  intro b σ₁ h₁ hb
  have hb : Blk σ₁ b #[.slice h.ea h.el h.ec, .slice h.ma h.ml h.mc, .slice h.ka h.kl h.kc] := hb
  have ht₁ := ht.lg h₁.lg
  (conv => whnf)
  refine ⟨_, ⟨rfl, hb.rdT fun _ _ h => h⟩, ?_⟩
  (conv => whnf)
  refine ⟨Tryz.k24.any, (Tryz.big_ok h t ht₁).mono ?_⟩
  rintro _ σ' ⟨⟨B, rfl⟩, hσ'⟩ -
  obtain rfl := hσ'.symm
  (conv => whnf); (repeat (refine ⟨rfl, ?_⟩; conv => whnf))
  refine gb_split (fun hc => ?_) (fun hc => ?_)
  · (conv => whnf)
    refine ⟨_, ⟨rfl, hb.rdT fun _ _ h => h⟩, ?_⟩
    (conv => whnf)
    refine ⟨Tryz.k30.any, (Tryz.refTable_ok h t ht₁).mono ?_⟩
    rintro _ σ' ⟨rfl, hσ'⟩ -
    obtain rfl := hσ'.symm
    (conv => whnf); (repeat (refine ⟨rfl, ?_⟩; conv => whnf))
    exact ⟨⟨_, rfl, fun h => by simpa using h⟩, h₁.lg⟩
  · (conv => whnf); (repeat (refine ⟨rfl, ?_⟩; conv => whnf))
    exact ⟨⟨_, rfl, fun h => by cases h⟩, h₁.lg⟩

theorem Tryz.edOf_ok (h : TH) (t : Tbl) (ht : TabV σ h t) (hf : t.flaw = 0) (u : Nat) (hu : u < 256) : CallsV S 49 #[h.v, .int .u8 u] (fun v σ' => v = .int .i64 (t.edOf u) ∧ σ' = σ) σ := by
  refine CallsV.pure' (CallsV.of (args := [_, _]) Tryz.k49 Tryz.mixed (by simp) ?_)
  have hel := ht.eds.1
  have he3 := Tbl.flaw_eds hf
  (conv => whnf); (repeat (refine ⟨rfl, ?_⟩; conv => whnf))
  intro b σ₁ h₁ hb
  have hb : Blk σ₁ b #[.slice h.ea h.el h.ec, .slice h.ma h.ml h.mc, .slice h.ka h.kl h.kc] := hb
  (conv => whnf)
  refine ⟨_, hb.sees3 (o := 0) rfl, ?_⟩
  (conv => whnf); (repeat (refine ⟨rfl, ?_⟩; conv => whnf))
  have hw : IntKind.wrap .i64 (u : Int) = u := wrap_inR (by unfold InR; omega)
  rw [hw]
  refine ⟨by omega, ?_⟩
  (conv => whnf); (repeat (refine ⟨rfl, ?_⟩; conv => whnf))
  have e1 : (u : Int).tmod (h.el : Int) = ((u % h.el : Nat) : Int) := by
    rw [Int.tmod_eq_emod_of_nonneg (by omega)]; rfl
  exact ⟨by rw [e1, ← hel]; rfl, h₁.lg⟩

theorem Tryz.chosen_ok (h : TH) (t : Tbl) (ht : TabV σ h t) (hf : t.flaw = 0) (e : Int) (hed : t.isEd e = true) (u : Nat) (hu : u < 256) : CallsV S 50 #[h.v, .int .i64 e, .int .u8 u] (fun v σ' => (∃ v1 m, v = v1 ∧ m = t.chosen e u ∧ IntsV σ'.frz v1 m) ∧ σ.le σ') σ := by
  refine CallsV.listedG (G := fun v1 => v1) (R := fun m => m = t.chosen e u) (CallsV.of (args := [_, _, _]) Tryz.k50 Tryz.mixed (by simp) ?_)
  obtain ⟨ke, ade, ia, il, ic, rfl, hke, hea, hse, hit⟩ := Tbl.isEd_at ht hed
  have hil : (t.items (ke : Int)).length = il := hit.1
  have h8 := Tbl.ni8 hf (ke : Int)
  unfold Tbl.ni at h8
  (conv => whnf); (repeat (refine ⟨rfl, ?_⟩; conv => whnf))
  intro b σ₁ h₁ hb
  have hb : Blk σ₁ b #[.slice h.ea h.el h.ec, .slice h.ma h.ml h.mc, .slice h.ka h.kl h.kc] := hb
  (conv => whnf)
  refine ⟨Nat × Value, fun y => [(1, .int .i64 (ke : Int)), (2, .int .u8 u), (3, .pointer (some ⟨b, 0, none⟩)), (7, y.2), (8, .int .i64 y.1)],
    fun y σ' => σ₁.lg σ' ∧ (∀ x o, σ.I x = some o → σ'.I x = some o) ∧ σ'.tok = σ.tok ∧ Acc 3 1 y.2 (((nums y.1).filter fun n => u.testBit n.toNat).map fun n => .int .i64 n) σ'.M σ.M ∧ y.1 ≤ il, fun y => il - y.1, (0, .slice none 0 0), ⟨rfl, rfl, rfl, rfl, rfl, trivial⟩, ⟨(View.le.refl _).lg, h₁.imm, h₁.tok, by rw [h₁.own]; exact .nil, by simp⟩, ?_⟩
  rintro ⟨c, v⟩ f σ₂ ⟨hlg₂, hI, htk, ha, hi⟩
  simp only at ha hi
  have hlen := List.length_filter_le (fun n : Int => u.testBit n.toNat) (nums c)
  have hnl : (nums c).length = c := by unfold nums; simp
  obtain ⟨sa, sc, rfl, -⟩ := src_ints ha
  (conv => whnf)
  refine ⟨_, (hb.lg hlg₂).sees3 (o := 0) rfl, ?_⟩
  (conv => whnf)
  refine ⟨ade, ke, ⟨hea, rfl, hke⟩, ?_⟩
  (conv => whnf)
  refine ⟨_, hse.lg (h₁.lg.trans hlg₂), ?_⟩
  (conv => whnf); (repeat (refine ⟨rfl, ?_⟩; conv => whnf))
  refine cb_split (fun hc => ?_) (fun hc => ?_)
  · have hlt : c < il := by simpa using hc
    have hin : InR ((c : Int) + 1) := by unfold InR; omega
    have hns := nums_take hlt fun n => u.testBit n.toNat
    (conv => whnf); (repeat (refine ⟨rfl, ?_⟩; conv => whnf))
    refine ⟨by simp only; omega, ?_⟩
    (conv => whnf); (repeat (refine ⟨rfl, ?_⟩; conv => whnf))
    rw [bit8 u c hu (by omega)]
    refine cb_split (fun hc => ?_) (fun hc => ?_)
    · have hyes : u.testBit c = true := by
        apply Classical.byContradiction; intro hn
        rw [if_neg hn] at hc; simp at hc
      rw [if_pos (by simpa using hyes)] at hns
      (conv => whnf)
      intro b27 hf27
      refine put_new hf27 fun σ₅ h₅ hb₂₇ => ?_
      have hb₂₇ : Blk σ₅ b27 #[.int .i64 (c : Int)] := hb₂₇
      (conv => whnf)
      refine raw_app (v := .slice sa _ sc) (cs := ((nums c).filter fun n => u.testBit n.toNat).map fun n => .int .i64 n) (new := [.int .i64 (c : Int)]) (M₀ := σ.M) Tryz.sl27 rfl rfl (by rw [h₅.own]; exact ha) (.inr ⟨_, rfl, hb₂₇.reads (fun k v hv => by simpa using hv)⟩) rfl (by simp [Value.single]) (by simp; omega) fun v' M' ha' _ => ?_
      have ha'' : Acc 3 1 v' (((nums (c + 1)).filter fun n => u.testBit n.toNat).map fun n => .int .i64 n) M' σ.M := by rw [hns]; simpa using ha'
      obtain ⟨ta, tc, rfl, -⟩ := src_ints (σ := { σ₅ with M := M' }) ha''
      obtain ⟨A', hA'⟩ := ha''.own
      (conv => whnf)
      refine ⟨hin, ?_⟩
      (conv => whnf)
      exact ⟨rfl, (c + 1, .slice ta _ tc), ⟨rfl, rfl, rfl, rfl, rfl, trivial⟩, ⟨⟨fun x o h => h₅.imm x o (hlg₂.imm x o h), ⟨A', by rw [h₁.own]; exact hA'⟩, h₅.tok.trans hlg₂.tok⟩, fun x o h => h₅.imm x o (hI x o h), h₅.tok.trans htk, ha'', by simp only; omega⟩, by show _ - _ < _ - _; omega⟩
    · have hno : u.testBit c = false := by
        apply Classical.byContradiction; intro hn
        rw [if_pos (by simpa using hn)] at hc; simp at hc
      rw [if_neg (by simp [hno])] at hns
      rw [List.append_nil] at hns
      (conv => whnf)
      refine ⟨hin, ?_⟩
      (conv => whnf)
      exact ⟨rfl, (c + 1, .slice sa _ sc), ⟨rfl, rfl, rfl, rfl, rfl, trivial⟩, ⟨hlg₂, hI, htk, by rw [hns]; exact ha, by simp only; omega⟩, by show _ - _ < _ - _; omega⟩
  · have hge : il ≤ c := by simpa using hc
    obtain rfl : c = il := by omega
    obtain ⟨A, hA, hain⟩ := ha.split
    (conv => whnf); (repeat (refine ⟨rfl, ?_⟩; conv => whnf))
    exact ⟨_, _, A, [], rfl, by unfold Tbl.chosen Tbl.ni; rw [hil], hA, hain, hI, htk⟩
end Go.Proofs
namespace Go.TM
end Go.TM
namespace Go.Proofs
open Go.TM
set_option maxRecDepth 100000
variable {T : Type} {S : TM.Sys Tryz.prog T} {σ : View T}
attribute [local irreducible] CallsV YieldV rngX

end Go.Proofs
namespace Go.TM
theorem View.le.frz2 {T : Type} {σ σ' : View T} (h : σ.le σ') : σ.frz.lg σ'.frz := ⟨h.imm, ⟨[], rfl⟩, h.tok⟩
def LstV {T : Type} (σ : View T) (v : Value) (l : List Int) : Prop := ∃ a c, v = .slice a l.length c ∧ Ints σ.frz a l.length l
theorem LstV.le {T : Type} {σ σ' : View T} {v : Value} {l : List Int} (h : LstV σ v l) (k : σ.le σ') : LstV σ' v l := let ⟨a, c, e, h⟩ := h; ⟨a, c, e, h.lg k.frz2⟩
end Go.TM
namespace Go.Proofs
open Go.TM
set_option maxRecDepth 100000
variable {T : Type} {S : TM.Sys Tryz.prog T} {σ : View T}
attribute [local irreducible] CallsV YieldV rngX
section
variable (h : TH) (t : Tbl) (ht : TabV σ.frz h t) (hf : t.flaw = 0)
include ht hf
theorem Tryz.chosenL_ok (e : Int) (hed : t.isEd e = true) (u : Nat) (hu : u < 256) : CallsV S 50 #[h.v, .int .i64 e, .int .u8 u] (fun v σ' => LstV σ' v (t.chosen e u) ∧ σ.le σ') σ := by
  refine (Tryz.chosen_ok h t (ht.lg frz_self) hf e hed u hu).mono ?_
  rintro v σ' ⟨⟨_, _, rfl, rfl, hi⟩, hle⟩
  exact ⟨hi, hle⟩
theorem Tryz.cutL_ok (e : Int) (hed : t.isEd e = true) {a ca : Option Addr} {cap cl cc : Nat} {l : List Int} {cs : List GCut} (hl : Ints σ.frz a l.length l) (hL : t.Lst e l) (hcs : CutsV σ.frz ca cl cs) (h4 : cs.length ≤ 4) (hc : ∀ c ∈ cs, t.Lst e c.items) :
    CallsV S 37 #[h.v, .int .i64 e, .slice a l.length cap, .slice ca cl cc] (fun v σ' => (∃ v1, v = .tuple #[v1, .int .i64 0] ∧ LstV σ' v1 (l.filter (letAll cs))) ∧ σ.le σ') σ := by
  have hF := Tbl.cutF_of hf hed hL h4 hc
  have h8 := hL.len hf
  have hcc := hcs.1
  have k := Tryz.Cut_ok (S := S) h t (ht.lg frz_self) e a ca l.length cap cl cc l cs (hl.lg frz_self) hcs (by omega) (by omega)
  rw [hF, Tbl.cutL_of hF] at k
  refine k.mono ?_
  rintro v σ' ⟨⟨v1, rfl, i1⟩, hle⟩
  exact ⟨⟨v1, rfl, i1⟩, hle⟩
end
section
variable {a a' : Option Addr} {cap cap' : Nat} {l m : List Int} (hl : Ints σ.frz a l.length l) (hm : Ints σ.frz a' m.length m) (h1 : l.length ≤ 1000) (h2 : m.length ≤ 1000)
include hl hm h1 h2
theorem Tryz.sameL_ok : CallsV S 33 #[.slice a l.length cap, .slice a' m.length cap'] (fun v σ' => v = .bool (decide (l = m)) ∧ σ' = σ) σ := by
  have _ := h2
  exact Tryz.same_ok a a' _ cap _ cap' _ _ (hl.lg frz_self) (hm.lg frz_self) (by omega)
theorem Tryz.sameT_ok (hw : l = m) : CallsV S 33 #[.slice a l.length cap, .slice a' m.length cap'] (fun v σ' => v = .bool true ∧ σ' = σ) σ := by
  have k := Tryz.sameL_ok (S := S) (cap := cap) (cap' := cap') hl hm h1 h2
  rw [decide_eq_true hw] at k
  exact k
end
theorem Tryz.hasL_ok {a : Option Addr} {cap : Nat} {l : List Int} (hl : Ints σ.frz a l.length l) (h1 : l.length ≤ 1000) (n : Int) : CallsV S 53 #[.slice a l.length cap, .int .i64 n] (fun v σ' => v = .bool (l.contains n) ∧ σ' = σ) σ :=
  Tryz.hasInt_ok a l.length cap l (hl.lg frz_self) (by omega) n
end Go.Proofs
namespace Go.TM
section
variable {T : Type} {σ σ' : View T}
theorem LstV.at {a : Option Addr} {n c : Nat} {l : List Int} (h : LstV σ (.slice a n c) l) : Ints σ.frz a l.length l := by
  obtain ⟨_, _, e, h⟩ := h
  cases e; exact h
def MovV (σ : View T) (v : Value) (l m : List Int) : Prop := ∃ v1 v2, v = .tuple #[v1, v2, .int .i64 0] ∧ LstV σ v1 l ∧ LstV σ v2 m
theorem MovV.le {v : Value} {l m : List Int} (h : MovV σ v l m) (k : σ.le σ') : MovV σ' v l m := let ⟨v1, v2, e, h1, h2⟩ := h; ⟨v1, v2, e, h1.le k, h2.le k⟩
theorem MovV.at {a a' : Option Addr} {n c n' c' : Nat} {x : Value} {l m : List Int} (h : MovV σ (.tuple #[.slice a n c, .slice a' n' c', x]) l m) : Ints σ.frz a l.length l ∧ Ints σ.frz a' m.length m := by
  obtain ⟨v1, v2, e, h1, h2⟩ := h
  simp at e
  obtain ⟨rfl, rfl, -⟩ := e
  exact ⟨h1.at, h2.at⟩
def OneV (σ : View T) (v : Value) (l : List Int) : Prop := ∃ v1, v = .tuple #[v1, .int .i64 0] ∧ LstV σ v1 l
theorem OneV.le {v : Value} {l : List Int} (h : OneV σ v l) (k : σ.le σ') : OneV σ' v l := let ⟨v1, e, h1⟩ := h; ⟨v1, e, h1.le k⟩
theorem OneV.at {a : Option Addr} {n c : Nat} {x : Value} {l : List Int} (h : OneV σ (.tuple #[.slice a n c, x]) l) : Ints σ.frz a l.length l := by
  obtain ⟨v1, e, h1⟩ := h
  simp at e
  obtain ⟨rfl, -⟩ := e
  exact h1.at
end
theorem CutsV.one {T : Type} {σ : View T} {b : Nat} {a : Option Addr} {cap : Nat} {l : List Int} {keep : Bool} (hb : Blk σ b #[.slice a l.length cap, .bool keep]) (h : Ints σ a l.length l) (k : l.length < 2 ^ 60) : CutsV σ (some ⟨b, 0, none⟩) 1 [⟨l, keep⟩] := by
  refine ⟨rfl, fun i x hx => ?_⟩
  obtain rfl : i = 0 := by have := (List.getElem?_eq_some_iff.1 hx).1; simp at this; omega
  cases hx
  refine ⟨_, _, rfl, rfl, ⟨a, l.length, cap, rfl, h, k⟩, rfl, fun i v hv => ?_⟩
  match i, hv with
  | 0, hv => simp at hv; subst hv; rw [Nat.zero_mul, add_none, add_none]; exact hb.sees rfl
  | 1, hv => simp at hv; subst hv; rw [Nat.zero_mul, add_none, add_none]; exact hb.sees rfl
  | i + 2, hv => simp at hv
theorem Blk.frz {T : Type} {σ : View T} {b : Nat} {c : Array Value} (h : Blk σ b c) : Blk σ.frz b c := h
end Go.TM
namespace Go.Proofs
open Go.TM
set_option maxRecDepth 100000
variable {T : Type} {S : TM.Sys Tryz.prog T} {σ : View T}
attribute [local irreducible] CallsV YieldV rngX
end Go.Proofs
namespace Go.TM
variable {T : Type} {P : Program} {S : Sys P T} {σ : View T}
def U16s (σ : View T) (a : Option Addr) (len : Nat) (l : List Nat) : Prop := RowsV σ a len 1 l fun n vs => vs = [.int .u16 (n : Int)] ∧ n < 65536
theorem U16s.lg {σ' : View T} {a : Option Addr} {len : Nat} {l : List Nat} (h : U16s σ a len l) (hl : σ.lg σ') : U16s σ' a len l := RowsV.lg h hl fun _ _ h => h
def chs (p : List Nat) (k : Nat) : Nat := p.getD k 0
def Tbl.cutAt (t : Tbl) (e : Int) (p : List Nat) (i : Nat) : GCut := ⟨t.chosen e (chs p (1 + i) % 256), decide (chs p (1 + i) / 256 % 4 = 1)⟩
def Tbl.cutsTo (t : Tbl) (e : Int) (p : List Nat) (n : Nat) : List GCut := (List.range n).map (t.cutAt e p)
def Tbl.cutsOf (t : Tbl) (e : Int) (p : List Nat) : List GCut := t.cutsTo e p (chs p 0 % 5)
theorem Tbl.cutsTo_succ (t : Tbl) (e : Int) (p : List Nat) (n : Nat) : t.cutsTo e p (n + 1) = t.cutsTo e p n ++ [t.cutAt e p n] := by
  unfold Tbl.cutsTo; rw [List.range_succ, List.map_append]; rfl
theorem Tbl.cutsOf_ok (t : Tbl) (e : Int) (p : List Nat) : (t.cutsOf e p).length ≤ 4 ∧ ∀ c ∈ t.cutsOf e p, t.Lst e c.items := by
  unfold Tbl.cutsOf Tbl.cutsTo
  refine ⟨by rw [List.length_map, List.length_range]; omega, fun c hc => ?_⟩
  obtain ⟨i, _, rfl⟩ := List.mem_map.1 hc
  exact t.lst_chosen ..
theorem chs_lt {a : Option Addr} {len : Nat} {p : List Nat} (h : U16s σ a len p) (k : Nat) : chs p k < 65536 := by
  unfold chs
  rw [List.getD_eq_getElem?_getD]
  cases e : p[k]? with
  | none => show 0 < 65536; omega
  | some n =>
    obtain ⟨_, _, _, _, ⟨_, hn⟩, _⟩ := h.2 k n e
    exact hn
structure RC where
  a : Option Addr
  cap : Nat
  c : GCut
def encC (r : RC) : List Value := [.slice r.a r.c.items.length r.cap, .bool r.c.keep]
theorem encC_len (l : List RC) : (l.flatMap encC).length = l.length * 2 := by
  rw [List.length_flatMap]
  have e : l.map (fun p => (encC p).length) = l.map fun _ => 2 := rfl
  rw [e, List.map_const', List.sum_replicate_nat]
theorem cuts_rows {a : Option Addr} {l : List RC} (h : RowsV σ a l.length 2 l fun x vs => vs = encC x) (hi : ∀ r ∈ l, Ints σ r.a r.c.items.length r.c.items ∧ r.c.items.length < 2 ^ 60) : CutsV σ a l.length (l.map (·.c)) := by
  refine ⟨by simp, fun i c hc => ?_⟩
  rw [List.getElem?_map] at hc
  cases e : l[i]? with
  | none => rw [e] at hc; cases hc
  | some r =>
    rw [e] at hc; cases hc
    obtain ⟨ad, vs, h1, h2, rfl, h3, h4⟩ := h.2 i r e
    have k := hi r (List.mem_of_getElem? e)
    exact ⟨ad, _, h1, h2, ⟨r.a, _, r.cap, rfl, k.1, k.2⟩, h3, h4⟩
theorem Acc.cutsV {v : Value} {l : List RC} {M₀ : List Res} (hs : Sep σ) (h : Acc 74 2 v (l.flatMap encC) σ.M M₀) (hi : ∀ r ∈ l, Ints σ.frz r.a r.c.items.length r.c.items ∧ r.c.items.length < 2 ^ 60) :
    ∃ σ'', Shift σ σ'' ∧ (⟨σ.I, M₀, σ.tok⟩ : View T).le σ'' ∧ ∃ a cap, v = .slice a l.length cap ∧ l.length ≤ cap ∧ CutsV σ''.frz a l.length (l.map (·.c)) := by
  have hcap := h.cap
  obtain ⟨σ'', k1, k2, a, len, cap, rfl, hl, hsrc, hsp, _⟩ := Acc.freeze (σ := ⟨σ.I, M₀, σ.tok⟩) hs h (fun _ _ h => h) rfl
  have : len = l.length := by
    have h2 := encC_len l
    have h3 : l.length * 2 = len * 2 := h2.symm.trans hl
    exact (Nat.eq_of_mul_eq_mul_right (by decide) h3).symm
  subst this
  have hlg : σ.frz.lg σ''.frz := ⟨k2.imm, ⟨[], rfl⟩, k2.tok⟩
  exact ⟨σ'', k1, k2, a, cap, rfl, hcap _ _ _ rfl, cuts_rows (rows_src (n := 2) (fun _ => rfl) hsrc hsp (by decide)) fun r hr => ⟨(hi r hr).1.lg hlg, (hi r hr).2⟩⟩
theorem CallsV.shifted {f : FuncId} {args : Array Value} {Q : Value → View T → Prop} {σ₁ : View T} (h : Shift σ σ₁) (k : CallsV S f args Q σ₁) : CallsV S f args Q σ := fun Stop m c cs q => .shift h (k Stop m c cs q)
end Go.TM
namespace Go.Proofs
open Go.TM
set_option maxRecDepth 100000
variable {T : Type} {S : TM.Sys Tryz.prog T} {σ : View T}
attribute [local irreducible] CallsV YieldV rngX
theorem Tryz.choice_ok (a : Option Addr) (len cap : Nat) (p : List Nat) (hp : U16s σ a len p) (k : Nat) : CallsV S 102 #[.slice a len cap, .int .i64 k] (fun v σ' => v = .int .i64 (chs p k) ∧ σ' = σ) σ := by
  refine CallsV.pure' (CallsV.of (args := [_, _]) Tryz.k102 Tryz.mixed (by simp) ?_)
  (conv => whnf); (repeat (refine ⟨rfl, ?_⟩; conv => whnf))
  refine cb_split (fun hc => ?_) (fun hc => ?_)
  · have hlt : k < len := by simpa using hc
    obtain ⟨ad, n, vs, hx, rfl, hsp, ⟨rfl, hn⟩, -, hrd⟩ := RowsV.at hp hlt
    (conv => whnf)
    refine ⟨ad, k, ⟨rfl, rfl, hlt⟩, ?_⟩
    (conv => whnf)
    refine ⟨_, hrd 0 _ rfl, ?_⟩
    (conv => whnf); (repeat (refine ⟨rfl, ?_⟩; conv => whnf))
    have hw : IntKind.wrap .i64 (n : Int) = n := wrap_inR (by unfold InR; omega)
    refine ⟨?_, (View.le.refl _).lg⟩
    unfold chs
    rw [hw, List.getD_eq_getElem?_getD, hx]; rfl
  · have hge : len ≤ k := by simpa using hc
    (conv => whnf); (repeat (refine ⟨rfl, ?_⟩; conv => whnf))
    refine ⟨?_, (View.le.refl _).lg⟩
    unfold chs
    rw [List.getD_eq_getElem?_getD, List.getElem?_eq_none (by rw [hp.1]; exact hge)]; rfl
theorem Tryz.sl42 : SlT Tryz.prog 42 74 2 := .of (by kernel_rfl)
def CtsV (σ : View T) (v : Value) (l : List GCut) : Prop := ∃ a cap, v = .slice a l.length cap ∧ l.length ≤ cap ∧ CutsV σ.frz a l.length l
set_option maxHeartbeats 1000000 in
theorem Tryz.cuts_ok (h : TH) (t : Tbl) (ht : TabV σ.frz h t) (hf : t.flaw = 0) (e : Int) (hed : t.isEd e = true) (a : Option Addr) (len cap : Nat) (p : List Nat) (hp : U16s σ.frz a len p) :
    CallsV S 56 #[h.v, .int .i64 e, .slice a len cap] (fun v σ' => CtsV σ' v (t.cutsOf e p) ∧ σ.le σ') σ := by
  refine CallsV.sep (R := fun v σ' => ∃ rows : List RC, rows.map (·.c) = t.cutsOf e p ∧ Acc 74 2 v (rows.flatMap encC) σ'.M σ.M ∧ (∀ r ∈ rows, Ints σ'.frz r.a r.c.items.length r.c.items ∧ r.c.items.length < 2 ^ 60) ∧ (∀ x o, σ.I x = some o → σ'.I x = some o) ∧ σ'.tok = σ.tok) (CallsV.of (args := [_, _, _]) Tryz.k56 Tryz.mixed (by simp) ?_) ?_
  rotate_left
  · rintro v σ' hs ⟨rows, hr, ha, hi, hI, htk⟩
    obtain ⟨σ'', k1, k2, a, cap, rfl, kc, k3⟩ := ha.cutsV hs hi
    rw [hr] at k3
    have hlen : rows.length = (t.cutsOf e p).length := by rw [← hr, List.length_map]
    rw [hlen] at k3 kc ⊢
    exact ⟨σ'', k1, ⟨a, cap, rfl, kc, k3⟩, fun x o h => k2.imm x o (hI x o h), k2.own, k2.tok.trans htk⟩
  (conv => whnf); (repeat (refine ⟨rfl, ?_⟩; conv => whnf))
  intro b σ₁ h₁ hb
  have hb : Blk σ₁ b #[.slice h.ea h.el h.ec, .slice h.ma h.ml h.mc, .slice h.ka h.kl h.kc] := hb
  (conv => whnf)
  refine ⟨Nat × Value × List RC, fun y => [(1, .int .i64 e), (2, .slice a len cap), (3, .pointer (some ⟨b, 0, none⟩)), (7, y.2.1), (8, .int .i64 y.1)],
    fun y σ' => (∀ x o, σ₁.I x = some o → σ'.I x = some o) ∧ σ'.tok = σ₁.tok ∧ y.2.2.map (·.c) = t.cutsTo e p y.1 ∧ Acc 74 2 y.2.1 (y.2.2.flatMap encC) σ'.M σ₁.M ∧ (∀ r ∈ y.2.2, Ints σ'.frz r.a r.c.items.length r.c.items ∧ r.c.items.length < 2 ^ 60) ∧ y.1 ≤ chs p 0 % 5,
    fun y => chs p 0 % 5 - y.1, (0, .slice none 0 0, []), ⟨rfl, rfl, rfl, rfl, rfl, trivial⟩, ⟨fun _ _ h => h, rfl, rfl, .nil, (fun r hr => absurd hr List.not_mem_nil), Nat.zero_le _⟩, ?_⟩
  rintro ⟨i, v, rows⟩ f σ₂ ⟨hI, htk, hrows, ha, hri, hi⟩
  simp only at hrows ha hri hi
  obtain ⟨A', hA'⟩ := ha.own
  have hlg : σ₁.lg σ₂ := ⟨hI, ⟨A', hA'⟩, htk⟩
  have hfz : σ.frz.lg σ₂ := (frz_self.trans h₁.lg).trans hlg
  have hfz2 : σ.frz.lg σ₂.frz := ⟨hfz.imm, ⟨[], rfl⟩, hfz.tok⟩
  have hrl : rows.length = i := by
    have := congrArg List.length hrows
    unfold Tbl.cutsTo at this
    simpa using this
  have hin : InR ((i : Int) + 1) := by unfold InR; omega
  have hin2 : InR (1 + (i : Int)) := by unfold InR; omega
  have ha2 : ∃ sa sl sc, v = .slice sa sl sc := by
    obtain ⟨x, y, z, e1, _⟩ := Acc.src (σ := σ₂) ha
    exact ⟨x, y, z, e1⟩
  obtain ⟨sa, sl, sc, rfl⟩ := ha2
  have c0 := Tryz.choice_ok (S := S) (σ := σ₂) a len cap p (hp.lg hfz) 0
  have c1 := Tryz.choice_ok (S := S) (σ := σ₂) a len cap p (hp.lg hfz) (1 + i)
  (conv => whnf)
  refine ⟨Tryz.k102.any, c0.mono ?_⟩
  rintro _ σ' ⟨rfl, hσ'⟩ -
  obtain rfl := hσ'.symm
  have e5 : ((chs p 0 : Nat) : Int).tmod 5 = ((chs p 0 % 5 : Nat) : Int) := by
    rw [Int.tmod_eq_emod_of_nonneg (by omega)]; rfl
  (conv => whnf); (repeat (refine ⟨rfl, ?_⟩; conv => whnf))
  refine ⟨by decide, ?_⟩
  rw [e5]
  (conv => whnf); (repeat (refine ⟨rfl, ?_⟩; conv => whnf))
  refine cb_split (fun hc => ?_) (fun hc => ?_)
  · have hlt : i < chs p 0 % 5 := by simp at hc; omega
    (conv => whnf); (repeat (refine ⟨rfl, ?_⟩; conv => whnf))
    refine ⟨hin2, ?_⟩
    (conv => whnf)
    refine ⟨Tryz.k102.any, c1.mono ?_⟩
    rintro _ σ' ⟨rfl, hσ'⟩ -
    obtain rfl := hσ'.symm
    (conv => whnf); (repeat (refine ⟨rfl, ?_⟩; conv => whnf))
    refine ⟨_, ⟨rfl, (hb.lg hlg).rdT fun _ _ h => h⟩, ?_⟩
    have hn := chs_lt (hp.lg hfz) (1 + i)
    have e6 : IntKind.wrap .u8 (((chs p (1 + i) : Nat) : Int).tmod 256) = ((chs p (1 + i) % 256 : Nat) : Int) := by
      rw [Int.tmod_eq_emod_of_nonneg (by omega)]
      exact wrap8 (Nat.mod_lt _ (by decide))
    have e7 : IntKind.wrap .i64 (((chs p (1 + i) : Nat) : Int).tdiv 256) = ((chs p (1 + i) / 256 : Nat) : Int) := by
      rw [Int.tdiv_eq_ediv_of_nonneg (by omega)]
      exact wrap_inR (by unfold InR; omega)
    have e8 : ((chs p (1 + i) / 256 : Nat) : Int).tmod 4 = ((chs p (1 + i) / 256 % 4 : Nat) : Int) := by
      rw [Int.tmod_eq_emod_of_nonneg (by omega)]; rfl
    have e9 : (((chs p (1 + i) / 256 % 4 : Nat) : Int) == 1) = decide (chs p (1 + i) / 256 % 4 = 1) := by
      rw [Bool.eq_iff_iff]; simp; omega
    (conv => whnf); (repeat (refine ⟨rfl, ?_⟩; conv => whnf))
    refine ⟨by decide, ?_⟩
    (conv => whnf)
    rw [e6]
    refine ⟨Tryz.k50.any, (Tryz.chosenL_ok h t (ht.lg hfz2) hf e hed _ (Nat.mod_lt _ (by decide))).mono ?_⟩
    rintro _ σ₃ ⟨⟨a1, c1, rfl, i1⟩, h₃⟩ -
    have hL := t.lst_chosen e (chs p (1 + i) % 256)
    have nL := hL.len hf
    (conv => whnf); (repeat (refine ⟨rfl, ?_⟩; conv => whnf))
    refine ⟨by decide, ?_⟩
    rw [e7]
    (conv => whnf); (repeat (refine ⟨rfl, ?_⟩; conv => whnf))
    refine ⟨by decide, ?_⟩
    rw [e8]
    (conv => whnf); (repeat (refine ⟨rfl, ?_⟩; conv => whnf))
    rw [e9]
    intro b33 hf33
    refine put_new hf33 fun σ₄ h₄ hb₃₃ => ?_
    have hb₃₃ : Blk σ₄ b33 (encC (RC.mk a1 c1 (t.cutAt e p i))).toArray := hb₃₃
    (conv => whnf)
    refine raw_app (v := .slice sa sl sc) (cs := rows.flatMap encC) (new := encC (RC.mk a1 c1 (t.cutAt e p i))) (M₀ := σ₁.M) Tryz.sl42 rfl rfl (by rw [h₄.own, h₃.own]; exact ha) (.inr ⟨_, rfl, hb₃₃.reads (fun k v hv => by simpa using hv)⟩) rfl (by simp [encC, Value.single]) (by have := encC_len rows; simp only [encC, List.length_cons, List.length_nil] at this ⊢; omega) fun v' M' ha' _ => ?_
    have ha'' : Acc 74 2 v' ((rows ++ [(RC.mk a1 c1 (t.cutAt e p i))]).flatMap encC) M' σ₁.M := by rw [List.flatMap_append]; simpa using ha'
    have hri' : ∀ r ∈ rows ++ [(RC.mk a1 c1 (t.cutAt e p i))], Ints ({ σ₄ with M := M' } : View T).frz r.a r.c.items.length r.c.items ∧ r.c.items.length < 2 ^ 60 := fun r hr => by
      have hz4 : σ₃.frz.lg ({ σ₄ with M := M' } : View T).frz := ⟨h₄.imm, ⟨[], rfl⟩, h₄.tok⟩
      rcases List.mem_append.1 hr with hr | hr
      · exact ⟨((hri r hr).1.lg h₃.frz2).lg hz4, (hri r hr).2⟩
      · rw [List.mem_singleton.1 hr]; exact ⟨i1.lg hz4, by simp only [Tbl.cutAt]; omega⟩
    obtain ⟨ta, tl, tc, rfl, _⟩ := Acc.src (σ := { σ₄ with M := M' }) ha''
    (conv => whnf)
    refine ⟨hin, ?_⟩
    (conv => whnf)
    exact ⟨rfl, (i + 1, _, rows ++ [(RC.mk a1 c1 (t.cutAt e p i))]), ⟨rfl, rfl, rfl, rfl, rfl, trivial⟩, ⟨fun x o h => h₄.imm x o (h₃.imm x o (hI x o h)), h₄.tok.trans (h₃.tok.trans htk), by rw [Tbl.cutsTo_succ, List.map_append, hrows]; rfl, ha'', hri', by simp only; omega⟩, by show _ - _ < _ - _; omega⟩
  · have hge : chs p 0 % 5 ≤ i := by simp at hc; omega
    obtain rfl : i = chs p 0 % 5 := by omega
    (conv => whnf); (repeat (refine ⟨rfl, ?_⟩; conv => whnf))
    exact ⟨rows, hrows, by rw [← h₁.own]; exact ha, hri, fun x o h => hI x o (h₁.imm x o h), htk.trans h₁.tok⟩
theorem Tryz.cutT_ok (h : TH) (t : Tbl) (ht : TabV σ.frz h t) (hf : t.flaw = 0) (e : Int) (hed : t.isEd e = true) {a : Option Addr} {cap : Nat} {l : List Int} {cs : List GCut} (hl : Ints σ.frz a l.length l) (hL : t.Lst e l) {v : Value} {rows : List RC} {M₀ : List Res}
    (ha : Acc 74 2 v (rows.flatMap encC) σ.M M₀) (hri : ∀ r ∈ rows, Ints σ.frz r.a r.c.items.length r.c.items ∧ r.c.items.length < 2 ^ 60) (hrc : rows.map (·.c) = cs) (h4 : cs.length ≤ 4) (hc : ∀ c ∈ cs, t.Lst e c.items) :
    CallsV S 37 #[h.v, .int .i64 e, .slice a l.length cap, v] (fun v σ' => (∃ v1, v = .tuple #[v1, .int .i64 0] ∧ LstV σ' v1 (l.filter (letAll cs))) ∧ (⟨σ.I, M₀, σ.tok⟩ : View T).le σ') σ := by
  refine CallsV.sep0 fun hs => ?_
  obtain ⟨σ'', k1, k2, ca, cc, rfl, -, k3⟩ := ha.cutsV hs hri
  rw [hrc] at k3
  have hz : σ.frz.lg σ''.frz := ⟨k2.imm, ⟨[], rfl⟩, k2.tok⟩
  exact CallsV.shifted k1 ((Tryz.cutL_ok h t (ht.lg hz) hf e hed (hl.lg hz) hL k3 h4 hc).mono fun v σ' ⟨q, hle⟩ => ⟨q, k2.trans hle⟩)
end Go.Proofs
namespace Go.TM
variable {T : Type} {σ : View T}
theorem cuts_sub {a : Option Addr} {cs : List GCut} {cap i : Nat} {c : GCut} (h : CutsV σ a cs.length cs) (hx : cs[i]? = some c) (hc : cs.length ≤ cap) : CutsV σ (if cap = i then a else a.map (·.add (i * 2))) (i + 1 - i) [c] := by
  have hi : i < cs.length := (List.getElem?_eq_some_iff.1 hx).1
  have hd := rows_drop (i := i) h (by omega) hc
  refine ⟨by simp, fun k x hk => ?_⟩
  obtain rfl : k = 0 := by have := (List.getElem?_eq_some_iff.1 hk).1; simp at this; omega
  cases hk
  exact hd.2 0 c (by rw [List.getElem?_drop]; exact hx)
theorem letAll_take {cs : List GCut} {i : Nat} {c : GCut} (h : cs[i]? = some c) (n : Int) : letAll (cs.take (i + 1)) n = (letAll (cs.take i) n && c.lets n) := by
  unfold letAll
  rw [take_at h, List.all_append]
  simp
theorem filter_step {cs : List GCut} {i : Nat} {c : GCut} (h : cs[i]? = some c) (l : List Int) : (l.filter (letAll (cs.take i))).filter (letAll [c]) = l.filter (letAll (cs.take (i + 1))) := by
  rw [List.filter_filter]
  congr 1
  funext n
  rw [letAll_take h, Bool.and_comm]
  simp [letAll]
end Go.TM
