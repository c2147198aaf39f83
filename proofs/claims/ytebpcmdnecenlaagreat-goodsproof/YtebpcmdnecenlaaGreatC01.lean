/- A part of the proof: lemmas that the last text uses. No conditions of its own. -/
import Derived.Test.YtebpcmdnecenlaaGreatF28
import Derived.Test.YtebpcmdnecenlaaGreatF24
import Derived.Test.YtebpcmdnecenlaaGreatF23
import Derived.Test.YtebpcmdnecenlaaGreatF27
import Derived.Test.YtebpcmdnecenlaaGreatF06
import Derived.Test.YtebpcmdnecenlaaGreatF08
import Derived.Test.YtebpcmdnecenlaaGreatF09
import Derived.Test.YtebpcmdnecenlaaGreatF10
import Derived.Test.YtebpcmdnecenlaaGreatF25
import Derived.Test.YtebpcmdnecenlaaGreatC00
set_option linter.unusedSimpArgs false
set_option linter.unusedVariables false
namespace Go.TM
def nums (n:Nat):List Int:=(List.range n).map fun (j:Nat)=>(j:Int)
theorem mem_nums {n:Nat} {x:Int}:x ∈ nums n ↔ 0 ≤ x ∧ x < n:=by
 unfold nums
 simp only [List.mem_map,List.mem_range]
 constructor
 ·rintro ⟨j,h,rfl⟩;omega
 ·rintro ⟨h1,h2⟩;exact ⟨x.toNat,by omega,by omega⟩
theorem asc_nums (n:Nat):Asc (nums n):=by
 unfold nums Asc
 rw [List.pairwise_map]
 exact List.pairwise_lt_range.imp fun h=>by omega
theorem nums_succ (n:Nat):nums (n + 1) = nums n ++ [(n:Int)]:=by unfold nums;rw [List.range_succ];simp
def Tbl.ni (t:Tbl) (e:Int):Nat:=(t.items e).length
theorem Tbl.isItem_iff {t:Tbl} {e n:Int}:t.isItem e n = true ↔ 0 ≤ n ∧ n < t.ni e:=by
 unfold Tbl.isItem btw Tbl.ni
 simp only [Bool.and_eq_true,decide_eq_true_eq]
 omega
theorem Tbl.ni8 {t:Tbl} (hf:t.flaw = 0) (e:Int):t.ni e ≤ 8:=by
 unfold Tbl.ni Tbl.items
 split
 ·rename_i he
  have hb:=Tbl.isEd_lt he
  obtain ⟨-,-,h8⟩:=Tbl.flaw_eds hf
  rw [List.getD_eq_getElem?_getD,List.getElem?_eq_getElem (by omega)]
  exact h8 _ (List.getElem_mem _)
 ·simp
end Go.TM
namespace Go.TM
variable {T:Type} {P:Program} {S:Sys P T} {σ:View T}
theorem CallsV.okd {f:FuncId} {args:Array Value} {R R':Value → View T → Prop} (h:CallsV S f args R σ) (hr:∀ v σ' w,σ'.ok w → R v σ' → ∃ σ'',Shift σ' σ'' ∧ R' v σ''):CallsV S f args R' σ:=by
 intro Stop m c cs k
 refine h Stop m c cs fun v σ' r=>?_
 by_cases hs:∃ w,σ'.ok w
 ·obtain ⟨w,hw⟩:=hs
  obtain ⟨σ'',h1,h2⟩:=hr v σ' w hw r
  exact .shift h1 (k v _ h2)
 ·exact .priv ⟨rfl,fun w ok=>absurd ⟨w,ok⟩ hs⟩
theorem AccIn.intsV {v:Value} {l:List Int} {A R:List Res} {I:Nat → Option Obj} {k:T} (h:AccIn 3 1 v (l.map fun n=>.int .i64 n) A) {w:World} (ok:(⟨I,A ++ R,k⟩:View T).ok w) :
  ∃ σ'':View T,Shift ⟨I,A ++ R,k⟩ σ'' ∧ σ''.ok w ∧ (∀ x o,I x = some o → σ''.I x = some o) ∧ σ''.M = R ∧ σ''.tok = k ∧ IntsV σ''.frz v l:=by
 obtain ⟨σ'',k1,k2,a,len,cap,rfl,hl,hsrc,hsp,_⟩:=Acc.freeze (σ:=⟨I,R,k⟩) (σ':=⟨I,A ++ R,k⟩) ok.sep (h R) (fun _ _ h=>h) rfl
 simp at hl
 exact ⟨σ'',k1,(k1.2 w ok).1,k2.imm,k2.own,k2.tok,a,cap,by rw [hl],ints_src hsrc hsp⟩
end Go.TM
namespace Go.TM
structure Tbl.Lst (t:Tbl) (e:Int) (l:List Int):Prop where
 asc:Asc l
 its:∀ x ∈ l,t.isItem e x = true
theorem Tbl.chk_of {t:Tbl} {e:Int}:∀ {l:List Int} {p:Option Int},(∀ m,p = some m → ∀ x ∈ l,m < x) → Asc l → (∀ x ∈ l,t.isItem e x = true) → t.chk e p l = 0
 | [],_,_,_,_=>rfl
 | a :: l,p,hp,ha,hi=>by
  have ha':=List.pairwise_cons.1 ha
  have ih:t.chk e (some a) l = 0:=Tbl.chk_of (fun m e x hx=>by cases e;exact ha'.1 x hx) ha'.2 fun x hx=>hi x (List.mem_cons_of_mem _ hx)
  rw [Tbl.chk_cons,if_pos (hi a (List.mem_cons_self ..))]
  cases p with
  | none=>exact ih
  | some m=>
   have:=hp m rfl a (List.mem_cons_self ..)
   show (if a ≤ m then (7:Int) else _) = 0
   rw [if_neg (by omega)];exact ih
theorem Tbl.Lst.chk {t:Tbl} {e:Int} {l:List Int} (h:t.Lst e l):t.chk e none l = 0:=Tbl.chk_of (fun m e=>by cases e) h.asc h.its
theorem Tbl.Lst.filter {t:Tbl} {e:Int} {l:List Int} (h:t.Lst e l) (p:Int → Bool):t.Lst e (l.filter p):=⟨h.asc.filter p,fun x hx=>h.its x (List.mem_filter.1 hx).1⟩
theorem Tbl.Lst.len {t:Tbl} {e:Int} {l:List Int} (hf:t.flaw = 0) (h:t.Lst e l):l.length ≤ 8:=by
 rcases chk_len hf h.chk (by simp) with rfl | h
 ·simp
 ·exact h
theorem Tbl.Lst.lt {t:Tbl} {e:Int} {l:List Int} (hf:t.flaw = 0) (h:t.Lst e l):∀ x ∈ l,0 ≤ x ∧ x < 8:=fun x hx=>Tbl.item_lt hf (h.its x hx)
theorem Tbl.chkAll_of {t:Tbl} {e:Int}:∀ {ls:List (List Int)},(∀ l ∈ ls,t.Lst e l) → t.chkAll e ls = 0
 | [],_=>rfl
 | l :: ls,h=>by
  rw [Tbl.chkAll,if_pos (h l (List.mem_cons_self ..)).chk]
  exact Tbl.chkAll_of fun l hl=>h l (List.mem_cons_of_mem _ hl)
theorem Tbl.openF_of {t:Tbl} (hf:t.flaw = 0) {e:Int} (he:t.isEd e = true) {ls:List (List Int)} (h:∀ l ∈ ls,t.Lst e l):t.openF e ls = 0:=by
 unfold Tbl.openF
 rw [if_pos hf,if_pos he];exact Tbl.chkAll_of h
section
variable {t:Tbl}
section
variable {x y:Int} (hf:t.flaw = 0) (hx:t.isEd x = true) (hy:t.isEd y = true) {l:List Int} (h:t.Lst x l)
include hf hx hy h
end
end
def commonL (a b:List Int):List Int:=a.filter fun n=>b.contains n
def withoutL (a b:List Int):List Int:=a.filter fun n=>!b.contains n
def Tbl.chosen (t:Tbl) (e:Int) (bits:Nat):List Int:=(nums (t.ni e)).filter fun n=>bits.testBit n.toNat
theorem Tbl.lst_chosen (t:Tbl) (e:Int) (bits:Nat):t.Lst e (t.chosen e bits):=
 ⟨(asc_nums _).filter _,fun x hx=>Tbl.isItem_iff.2 (mem_nums.1 (List.mem_filter.1 hx).1)⟩
theorem Tbl.Lst.common {t:Tbl} {e:Int} {a:List Int} (ha:t.Lst e a) (b:List Int):t.Lst e (commonL a b):=ha.filter _
theorem Tbl.Lst.without {t:Tbl} {e:Int} {a:List Int} (ha:t.Lst e a) (b:List Int):t.Lst e (withoutL a b):=ha.filter _
end Go.TM
namespace Go.TM
variable {T:Type} {P:Program} {S:Sys P T} {σ:View T}
theorem CallsV.listedG {f:FuncId} {args:Array Value} {G:Value → Value} {R:List Int → Prop}
  (h:CallsV S f args (fun v σ'=>∃ v1 l A X,v = G v1 ∧ R l ∧ σ'.M = A ++ (X ++ σ.M) ∧ AccIn 3 1 v1 (l.map fun n=>.int .i64 n) A ∧ (∀ x o,σ.I x = some o → σ'.I x = some o) ∧ σ'.tok = σ.tok) σ) :
  CallsV S f args (fun v σ'=>(∃ v1 l,v = G v1 ∧ R l ∧ IntsV σ'.frz v1 l) ∧ σ.le σ') σ:=by
 refine h.okd fun v σ' w ok ⟨v1,l,A,X,hv,hR,hM,hA,hI,ht⟩=>?_
 have s1:Shift σ' { σ' with M:=A ++ σ.M }:=shift_drop (by rw [hM];exact (List.Sublist.refl _).append (List.sublist_append_right ..))
 obtain ⟨σ₂,s2,ok2,i2,m2,t2,r2⟩:=hA.intsV (s1.2 w ok).1
 exact ⟨σ₂,s1.trans s2,⟨v1,l,hv,hR,r2⟩,fun x o h=>i2 x o (hI x o h),m2,t2.trans ht⟩
end Go.TM
namespace Go.TM
theorem wrap8 {n:Nat} (h:n < 256):IntKind.wrap .u8 (n:Int) = n:=by
 have e1:(2:Int) ^ 8 = 256:=by decide
 simp only [IntKind.wrap,IntKind.bits,IntKind.signed,Bool.false_and,e1]
 simp
 omega
theorem bit8 (u c:Nat) (hu:u < 256) (hc:c < 8):IntKind.wrap .u8 (BitVec.ofInt (IntKind.bits .u8) ((u:Int).fdiv (2 ^ (min (c:Int).toNat (IntKind.bits .u8)))) &&& BitVec.ofInt (IntKind.bits .u8) 1).toNat = if u.testBit c then 1 else 0:=by
 show IntKind.wrap .u8 (BitVec.ofInt 8 ((u:Int).fdiv (2 ^ (min (c:Int).toNat 8))) &&& BitVec.ofInt 8 1).toNat = _
 have e1:min (c:Int).toNat 8 = c:=by simp;omega
 have e2:(u:Int).fdiv (2 ^ c) = ((u / 2 ^ c:Nat):Int):=by
  rw [Int.fdiv_eq_ediv_of_nonneg _ (by exact Int.pow_nonneg (by decide))]
  simp
 rw [e1,e2,BitVec.ofInt_natCast,show (BitVec.ofInt 8 1) = BitVec.ofNat 8 1 from rfl]
 have hlt:u / 2 ^ c < 2 ^ 8:=Nat.lt_of_le_of_lt (Nat.div_le_self ..) (by omega)
 have e3:(BitVec.ofNat 8 (u / 2 ^ c) &&& BitVec.ofNat 8 1).toNat = u / 2 ^ c % 2:=by
  rw [BitVec.toNat_and,BitVec.toNat_ofNat,BitVec.toNat_ofNat,Nat.mod_eq_of_lt hlt,show 1 % 2 ^ 8 = 1 from rfl,Nat.and_one_is_mod]
 rw [e3,wrap8 (by omega),Nat.testBit_eq_decide_div_mod_eq]
 by_cases h:u / 2 ^ c % 2 = 1
 ·simp [h]
 ·have:u / 2 ^ c % 2 = 0:=by omega
  simp [this]
def Tbl.edOf (t:Tbl) (u:Nat):Int:=((u % t.eds.length:Nat):Int)
theorem Tbl.isEd_of {t:Tbl} (hf:t.flaw = 0) (u:Nat):t.isEd (t.edOf u) = true:=by
 have he3:=Tbl.flaw_eds hf
 have:=Nat.mod_lt u (y:=t.eds.length) (by omega)
 unfold Tbl.isEd btw Tbl.edOf
 simp only [Bool.and_eq_true,decide_eq_true_eq]
 omega
theorem nums_take {n c:Nat} (h:c < n) (p:Int → Bool):(nums (c + 1)).filter p = (nums c).filter p ++ (if p (c:Int) then [(c:Int)] else []):=by
 rw [nums_succ,List.filter_append,List.filter_cons,List.filter_nil]
end Go.TM
namespace Go.Proofs
open Go.TM
set_option maxRecDepth 100000
variable {T:Type} {S:TM.Sys Tryz.prog T} {σ:View T}
attribute [local irreducible] CallsV YieldV rngX
theorem Tryz.fit_ok (h:TH) (t:Tbl) (ht:TabV σ h t):CallsV S 48 #[h.v] (fun v σ'=>(∃ B:Bool,v = .bool B ∧ (B = true → t.flaw = 0)) ∧ σ' = σ) σ:=by
 refine CallsV.pure' (CallsV.of (args:=[_]) Tryz.k48 Tryz.mixed (by simp) ?_)
 repeat refine ⟨rfl,?_⟩
 conv=>whnf
 intro b σ₁ h₁ hb
 have hb:Blk σ₁ b #[.slice h.ea h.el h.ec,.slice h.ma h.ml h.mc,.slice h.ka h.kl h.kc]:=hb
 have ht₁:=ht.lg h₁.lg
 refine ⟨_,⟨rfl,hb.rdT fun _ _ h=>h⟩,?_⟩
 refine ⟨Tryz.k24.any,(Tryz.big_ok h t ht₁).mono ?_⟩
 rintro _ σ' ⟨⟨B,rfl⟩,hσ'⟩ -
 obtain rfl:=hσ'.symm
 repeat refine ⟨rfl,?_⟩
 conv=>whnf
 apply gb_split<;>intro hc
 ·refine ⟨_,⟨rfl,hb.rdT fun _ _ h=>h⟩,?_⟩
  refine ⟨Tryz.k30.any,(Tryz.refTable_ok h t ht₁).go fun _=>?_⟩
  repeat refine ⟨rfl,?_⟩
  conv=>whnf
  exact ⟨⟨_,rfl,fun h=>by simpa using h⟩,h₁.lg⟩
 ·repeat refine ⟨rfl,?_⟩
  conv=>whnf
  exact ⟨⟨_,rfl,fun h=>by cases h⟩,h₁.lg⟩
theorem Tryz.edOf_ok (h:TH) (t:Tbl) (ht:TabV σ h t) (hf:t.flaw = 0) (u:Nat) (hu:u < 256):CallsV S 49 #[h.v,.int .u8 u] (fun v σ'=>v = .int .i64 (t.edOf u) ∧ σ' = σ) σ:=by
 refine CallsV.pure' (CallsV.of (args:=[_,_]) Tryz.k49 Tryz.mixed (by simp) ?_)
 have hel:=ht.eds.1
 have he3:=Tbl.flaw_eds hf
 repeat refine ⟨rfl,?_⟩
 conv=>whnf
 intro b σ₁ h₁ hb
 have hb:Blk σ₁ b #[.slice h.ea h.el h.ec,.slice h.ma h.ml h.mc,.slice h.ka h.kl h.kc]:=hb
 refine ⟨_,hb.sees3 (o:=0) rfl,?_⟩
 repeat refine ⟨rfl,?_⟩
 conv=>whnf
 have hw:IntKind.wrap .i64 (u:Int) = u:=wrap_inR (by unfold InR;omega)
 rw [hw]
 refine ⟨by omega,?_⟩
 repeat refine ⟨rfl,?_⟩
 conv=>whnf
 have e1:(u:Int).tmod (h.el:Int) = ((u % h.el:Nat):Int):=by
  rw [Int.tmod_eq_emod_of_nonneg (by omega)];rfl
 exact ⟨by rw [e1,← hel];rfl,h₁.lg⟩
theorem Tryz.chosen_ok (h:TH) (t:Tbl) (ht:TabV σ h t) (hf:t.flaw = 0) (e:Int) (hed:t.isEd e = true) (u:Nat) (hu:u < 256):CallsV S 50 #[h.v,.int .i64 e,.int .u8 u] (fun v σ'=>(∃ v1 m,v = v1 ∧ m = t.chosen e u ∧ IntsV σ'.frz v1 m) ∧ σ.le σ') σ:=by
 refine CallsV.listedG (G:=fun v1=>v1) (R:=fun m=>m = t.chosen e u) (CallsV.of (args:=[_,_,_]) Tryz.k50 Tryz.mixed (by simp) ?_)
 obtain ⟨ke,ade,ia,il,ic,rfl,hke,hea,hse,hit⟩:=Tbl.isEd_at ht hed
 have hil:(t.items (ke:Int)).length = il:=hit.1
 have h8:=Tbl.ni8 hf (ke:Int)
 unfold Tbl.ni at h8
 repeat refine ⟨rfl,?_⟩
 conv=>whnf
 intro b σ₁ h₁ hb
 have hb:Blk σ₁ b #[.slice h.ea h.el h.ec,.slice h.ma h.ml h.mc,.slice h.ka h.kl h.kc]:=hb
 refine ⟨Nat × Value,fun y=>[(1,.int .i64 (ke:Int)),(2,.int .u8 u),(3,.pointer (some ⟨b,0,none⟩)),(7,y.2),(8,.int .i64 y.1)],
  fun y σ'=>σ₁.lg σ' ∧ (∀ x o,σ.I x = some o → σ'.I x = some o) ∧ σ'.tok = σ.tok ∧ Acc 3 1 y.2 (((nums y.1).filter fun n=>u.testBit n.toNat).map fun n=>.int .i64 n) σ'.M σ.M ∧ y.1 ≤ il,fun y=>il - y.1,(0,.slice none 0 0),⟨rfl,rfl,rfl,rfl,rfl,trivial⟩,⟨(View.le.refl _).lg,h₁.imm,h₁.tok,by rw [h₁.own];exact .nil,by simp⟩,?_⟩
 rintro ⟨c,v⟩ f σ₂ ⟨hlg₂,hI,htk,ha,hi⟩
 simp only at ha hi
 have hlen:=List.length_filter_le (fun n:Int=>u.testBit n.toNat) (nums c)
 have hnl:(nums c).length = c:=by unfold nums;simp
 obtain ⟨sa,sc,rfl,-⟩:=src_ints ha
 refine ⟨_,(hb.lg hlg₂).sees3 (o:=0) rfl,?_⟩
 refine ⟨ade,ke,⟨hea,rfl,hke⟩,?_⟩
 refine ⟨_,hse.lg (h₁.lg.trans hlg₂),?_⟩
 repeat refine ⟨rfl,?_⟩
 conv=>whnf
 apply cb_split<;>intro hc
 ·have hlt:c < il:=by simpa using hc
  have hin:InR ((c:Int) + 1):=by unfold InR;omega
  have hns:=nums_take hlt fun n=>u.testBit n.toNat
  repeat refine ⟨rfl,?_⟩
  refine ⟨by simp only;omega,?_⟩
  repeat refine ⟨rfl,?_⟩
  conv=>whnf
  rw [bit8 u c hu (by omega)]
  apply cb_split<;>intro hc
  ·have hyes:u.testBit c = true:=by
    apply Classical.byContradiction;intro hn
    rw [if_neg hn] at hc;simp at hc
   rw [if_pos (by simpa using hyes)] at hns
   conv=>whnf
   intro b27 hf27
   refine put_new hf27 fun σ₅ h₅ hb₂₇=>?_
   have hb₂₇:Blk σ₅ b27 #[.int .i64 (c:Int)]:=hb₂₇
   conv=>whnf
   refine raw_app (v:=.slice sa _ sc) (cs:=((nums c).filter fun n=>u.testBit n.toNat).map fun n=>.int .i64 n) (new:=[.int .i64 (c:Int)]) (M₀:=σ.M) Tryz.sl27 rfl rfl (by rw [h₅.own];exact ha) (.inr ⟨_,rfl,hb₂₇.reads (fun k v hv=>by simpa using hv)⟩) rfl (by simp [Value.single]) (by simp;omega) fun v' M' ha' _=>?_
   have ha'':Acc 3 1 v' (((nums (c + 1)).filter fun n=>u.testBit n.toNat).map fun n=>.int .i64 n) M' σ.M:=by rw [hns];simpa using ha'
   obtain ⟨ta,tc,rfl,-⟩:=src_ints (σ:={ σ₅ with M:=M' }) ha''
   obtain ⟨A',hA'⟩:=ha''.own
   refine ⟨hin,?_⟩
   conv=>whnf
   exact ⟨rfl,(c + 1,.slice ta _ tc),⟨rfl,rfl,rfl,rfl,rfl,trivial⟩,⟨⟨fun x o h=>h₅.imm x o (hlg₂.imm x o h),⟨A',by rw [h₁.own];exact hA'⟩,h₅.tok.trans hlg₂.tok⟩,fun x o h=>h₅.imm x o (hI x o h),h₅.tok.trans htk,ha'',by simp only;omega⟩,by show _ - _ < _ - _;omega⟩
  ·have hno:u.testBit c = false:=by
    apply Classical.byContradiction;intro hn
    rw [if_pos (by simpa using hn)] at hc;simp at hc
   rw [if_neg (by simp [hno])] at hns
   rw [List.append_nil] at hns
   refine ⟨hin,?_⟩
   conv=>whnf
   exact ⟨rfl,(c + 1,.slice sa _ sc),⟨rfl,rfl,rfl,rfl,rfl,trivial⟩,⟨hlg₂,hI,htk,by rw [hns];exact ha,by simp only;omega⟩,by show _ - _ < _ - _;omega⟩
 ·have hge:il ≤ c:=by simpa using hc
  obtain rfl:c = il:=by omega
  obtain ⟨A,hA,hain⟩:=ha.split
  repeat refine ⟨rfl,?_⟩
  conv=>whnf
  exact ⟨_,_,A,[],rfl,by unfold Tbl.chosen Tbl.ni;rw [hil],hA,hain,hI,htk⟩
end Go.Proofs
namespace Go.TM
theorem filter_take {α:Type} {l:List α} {i:Nat} {x:α} (h:l[i]? = some x) (p:α → Bool):(l.take (i + 1)).filter p = (l.take i).filter p ++ (if p x = true then [x] else []):=by
 rw [take_at h,List.filter_append,List.filter_cons,List.filter_nil]
end Go.TM
namespace Go.Proofs
open Go.TM
set_option maxRecDepth 100000
variable {T:Type} {S:TM.Sys Tryz.prog T} {σ:View T}
attribute [local irreducible] CallsV YieldV rngX
theorem Tryz.common_ok (a a':Option Addr) (len cap len' cap':Nat) (l m:List Int) (hl:Ints σ a len l) (hlen0:len ≤ 1000000) (hm:Ints σ a' len' m) (hlen':len' < 2 ^ 60) :
  CallsV S 55 #[.slice a len cap,.slice a' len' cap'] (fun v σ'=>(∃ v1 q,v = v1 ∧ q = commonL l m ∧ IntsV σ'.frz v1 q) ∧ σ.le σ') σ:=by
 refine CallsV.listedG (G:=fun v1=>v1) (R:=fun q=>q = commonL l m) (CallsV.of (args:=[_,_]) Tryz.k55 Tryz.mixed (by simp) ?_)
 have hll:=hl.1
 refine ⟨Nat × Value,fun y=>[(0,.slice a len cap),(1,.slice a' len' cap'),(5,y.2),(6,.int .i64 y.1)],
  fun y σ'=>(∀ x o,σ.I x = some o → σ'.I x = some o) ∧ σ'.tok = σ.tok ∧ Acc 3 1 y.2 ((commonL (l.take y.1) m).map fun n=>.int .i64 n) σ'.M σ.M ∧ y.1 ≤ len,fun y=>len - y.1,(0,.slice none 0 0),⟨rfl,rfl,rfl,rfl,trivial⟩,⟨fun _ _ h=>h,rfl,.nil,by simp⟩,?_⟩
 rintro ⟨i,v⟩ f σ₂ ⟨hI,htk,ha,hi⟩
 simp only at ha hi
 have hlen:(commonL (l.take i) m).length ≤ (l.take i).length:=List.length_filter_le _ _
 rw [List.length_take] at hlen
 obtain ⟨sa,sc,rfl,-⟩:=src_ints ha
 obtain ⟨A',hA'⟩:=ha.own
 have hlg:σ.lg σ₂:=⟨hI,⟨A',hA'⟩,htk⟩
 have hl₂:=hl.lg hlg
 have hm₂:=hm.lg hlg
 repeat refine ⟨rfl,?_⟩
 conv=>whnf
 apply cb_split<;>intro hc
 ·have hlt:i < len:=by simpa using hc
  obtain ⟨ad,x,hx,rfl,hsp,hs⟩:=hl₂.at hlt
  have hin:InR ((i:Int) + 1):=by unfold InR;omega
  have hns:commonL (l.take (i + 1)) m = commonL (l.take i) m ++ (if id (m.contains x) = true then [x] else []):=filter_take hx _
  refine ⟨ad,i,⟨rfl,rfl,hlt⟩,?_⟩
  refine ⟨_,hs,?_⟩
  refine ⟨Tryz.k53.any,(Tryz.hasInt_ok a' len' cap' m hm₂ hlen' x).go fun _=>?_⟩
  repeat refine ⟨rfl,?_⟩
  conv=>whnf
  apply cb_split<;>intro hc
  ·have hyes:id (m.contains x) = true:=hc
   refine ⟨ad,i,⟨rfl,rfl,hlt⟩,?_⟩
   refine ⟨_,hs,?_⟩
   conv=>whnf
   intro b24 hf24
   refine put_new hf24 fun σ₅ h₅ hb₂₄=>?_
   have hb₂₄:Blk σ₅ b24 #[.int .i64 x]:=hb₂₄
   conv=>whnf
   refine raw_app (v:=.slice sa _ sc) (cs:=(commonL (l.take i) m).map fun n=>.int .i64 n) (new:=[.int .i64 x]) (M₀:=σ.M) Tryz.sl27 rfl rfl (by rw [h₅.own];exact ha) (.inr ⟨_,rfl,hb₂₄.reads (fun k v hv=>by simpa using hv)⟩) rfl (by simp [Value.single]) (by simp;omega) fun v' M' ha' _=>?_
   have ha'':Acc 3 1 v' ((commonL (l.take (i + 1)) m).map fun n=>.int .i64 n) M' σ.M:=by rw [hns,if_pos hyes];simpa using ha'
   obtain ⟨ta,tc,rfl,-⟩:=src_ints (σ:={ σ₅ with M:=M' }) ha''
   refine ⟨hin,?_⟩
   conv=>whnf
   exact ⟨rfl,(i + 1,.slice ta _ tc),⟨rfl,rfl,rfl,rfl,trivial⟩,⟨fun x o h=>h₅.imm x o (hI x o h),h₅.tok.trans htk,ha'',by simp only;omega⟩,by show _ - _ < _ - _;omega⟩
  ·have hno:¬ id (m.contains x) = true:=by
    have hc:id (m.contains x) = false:=hc
    rw [hc];decide
   rw [if_neg hno,List.append_nil] at hns
   refine ⟨hin,?_⟩
   conv=>whnf
   exact ⟨rfl,(i + 1,.slice sa (commonL (l.take i) m).length sc),⟨rfl,rfl,rfl,rfl,trivial⟩,⟨hI,htk,by rw [hns];exact ha,by simp only;omega⟩,by show _ - _ < _ - _;omega⟩
 ·have hge:len ≤ i:=by simpa using hc
  rw [List.take_of_length_le (by omega)] at ha
  obtain ⟨A,hA,hain⟩:=ha.split
  have htl:l.take i = l:=List.take_of_length_le (by omega)
  rw [show (commonL (l.take i) m).length = (commonL l m).length by rw [htl]]
  repeat refine ⟨rfl,?_⟩
  conv=>whnf
  exact ⟨_,_,A,[],rfl,rfl,hA,hain,hI,htk⟩
theorem Tryz.without_ok (a a':Option Addr) (len cap len' cap':Nat) (l m:List Int) (hl:Ints σ a len l) (hlen0:len ≤ 1000000) (hm:Ints σ a' len' m) (hlen':len' < 2 ^ 60) :
  CallsV S 58 #[.slice a len cap,.slice a' len' cap'] (fun v σ'=>(∃ v1 q,v = v1 ∧ q = withoutL l m ∧ IntsV σ'.frz v1 q) ∧ σ.le σ') σ:=by
 refine CallsV.listedG (G:=fun v1=>v1) (R:=fun q=>q = withoutL l m) (CallsV.of (args:=[_,_]) Tryz.k58 Tryz.mixed (by simp) ?_)
 have hll:=hl.1
 refine ⟨Nat × Value,fun y=>[(0,.slice a len cap),(1,.slice a' len' cap'),(5,y.2),(6,.int .i64 y.1)],
  fun y σ'=>(∀ x o,σ.I x = some o → σ'.I x = some o) ∧ σ'.tok = σ.tok ∧ Acc 3 1 y.2 ((withoutL (l.take y.1) m).map fun n=>.int .i64 n) σ'.M σ.M ∧ y.1 ≤ len,fun y=>len - y.1,(0,.slice none 0 0),⟨rfl,rfl,rfl,rfl,trivial⟩,⟨fun _ _ h=>h,rfl,.nil,by simp⟩,?_⟩
 rintro ⟨i,v⟩ f σ₂ ⟨hI,htk,ha,hi⟩
 simp only at ha hi
 have hlen:(withoutL (l.take i) m).length ≤ (l.take i).length:=List.length_filter_le _ _
 rw [List.length_take] at hlen
 obtain ⟨sa,sc,rfl,-⟩:=src_ints ha
 obtain ⟨A',hA'⟩:=ha.own
 have hlg:σ.lg σ₂:=⟨hI,⟨A',hA'⟩,htk⟩
 have hl₂:=hl.lg hlg
 have hm₂:=hm.lg hlg
 repeat refine ⟨rfl,?_⟩
 conv=>whnf
 apply cb_split<;>intro hc
 ·have hlt:i < len:=by simpa using hc
  obtain ⟨ad,x,hx,rfl,hsp,hs⟩:=hl₂.at hlt
  have hin:InR ((i:Int) + 1):=by unfold InR;omega
  have hns:withoutL (l.take (i + 1)) m = withoutL (l.take i) m ++ (if not (m.contains x) = true then [x] else []):=filter_take hx _
  refine ⟨ad,i,⟨rfl,rfl,hlt⟩,?_⟩
  refine ⟨_,hs,?_⟩
  refine ⟨Tryz.k53.any,(Tryz.hasInt_ok a' len' cap' m hm₂ hlen' x).go fun _=>?_⟩
  repeat refine ⟨rfl,?_⟩
  conv=>whnf
  apply cb_split<;>intro hc
  ·have hyes:not (m.contains x) = true:=hc
   refine ⟨ad,i,⟨rfl,rfl,hlt⟩,?_⟩
   refine ⟨_,hs,?_⟩
   conv=>whnf
   intro b24 hf24
   refine put_new hf24 fun σ₅ h₅ hb₂₄=>?_
   have hb₂₄:Blk σ₅ b24 #[.int .i64 x]:=hb₂₄
   conv=>whnf
   refine raw_app (v:=.slice sa _ sc) (cs:=(withoutL (l.take i) m).map fun n=>.int .i64 n) (new:=[.int .i64 x]) (M₀:=σ.M) Tryz.sl27 rfl rfl (by rw [h₅.own];exact ha) (.inr ⟨_,rfl,hb₂₄.reads (fun k v hv=>by simpa using hv)⟩) rfl (by simp [Value.single]) (by simp;omega) fun v' M' ha' _=>?_
   have ha'':Acc 3 1 v' ((withoutL (l.take (i + 1)) m).map fun n=>.int .i64 n) M' σ.M:=by rw [hns,if_pos hyes];simpa using ha'
   obtain ⟨ta,tc,rfl,-⟩:=src_ints (σ:={ σ₅ with M:=M' }) ha''
   refine ⟨hin,?_⟩
   conv=>whnf
   exact ⟨rfl,(i + 1,.slice ta _ tc),⟨rfl,rfl,rfl,rfl,trivial⟩,⟨fun x o h=>h₅.imm x o (hI x o h),h₅.tok.trans htk,ha'',by simp only;omega⟩,by show _ - _ < _ - _;omega⟩
  ·have hno:¬ not (m.contains x) = true:=by
    have hc:not (m.contains x) = false:=hc
    rw [hc];decide
   rw [if_neg hno,List.append_nil] at hns
   refine ⟨hin,?_⟩
   conv=>whnf
   exact ⟨rfl,(i + 1,.slice sa (withoutL (l.take i) m).length sc),⟨rfl,rfl,rfl,rfl,trivial⟩,⟨hI,htk,by rw [hns];exact ha,by simp only;omega⟩,by show _ - _ < _ - _;omega⟩
 ·have hge:len ≤ i:=by simpa using hc
  rw [List.take_of_length_le (by omega)] at ha
  obtain ⟨A,hA,hain⟩:=ha.split
  have htl:l.take i = l:=List.take_of_length_le (by omega)
  rw [show (withoutL (l.take i) m).length = (withoutL l m).length by rw [htl]]
  repeat refine ⟨rfl,?_⟩
  conv=>whnf
  exact ⟨_,_,A,[],rfl,rfl,hA,hain,hI,htk⟩
end Go.Proofs
namespace Go.TM
theorem View.le.frz2 {T:Type} {σ σ':View T} (h:σ.le σ'):σ.frz.lg σ'.frz:=⟨h.imm,⟨[],rfl⟩,h.tok⟩
def LstV {T:Type} (σ:View T) (v:Value) (l:List Int):Prop:=∃ a c,v = .slice a l.length c ∧ Ints σ.frz a l.length l
theorem LstV.le {T:Type} {σ σ':View T} {v:Value} {l:List Int} (h:LstV σ v l) (k:σ.le σ'):LstV σ' v l:=let ⟨a,c,e,h⟩:=h;⟨a,c,e,h.lg k.frz2⟩
end Go.TM
namespace Go.Proofs
open Go.TM
set_option maxRecDepth 100000
variable {T:Type} {S:TM.Sys Tryz.prog T} {σ:View T}
attribute [local irreducible] CallsV YieldV rngX
section
variable (h:TH) (t:Tbl) (ht:TabV σ.frz h t) (hf:t.flaw = 0)
include ht hf
theorem Tryz.chosenL_ok (e:Int) (hed:t.isEd e = true) (u:Nat) (hu:u < 256):CallsV S 50 #[h.v,.int .i64 e,.int .u8 u] (fun v σ'=>LstV σ' v (t.chosen e u) ∧ σ.le σ') σ:=by
 refine (Tryz.chosen_ok h t (ht.lg frz_self) hf e hed u hu).mono ?_
 rintro v σ' ⟨⟨_,_,rfl,rfl,hi⟩,hle⟩
 exact ⟨hi,hle⟩
end
section
variable {a a':Option Addr} {cap cap':Nat} {l m:List Int} (hl:Ints σ.frz a l.length l) (hm:Ints σ.frz a' m.length m) (h1:l.length ≤ 1000) (h2:m.length ≤ 1000)
include hl hm h1 h2
theorem Tryz.commonL_ok:CallsV S 55 #[.slice a l.length cap,.slice a' m.length cap'] (fun v σ'=>LstV σ' v (commonL l m) ∧ σ.le σ') σ:=by
 refine (Tryz.common_ok a a' l.length cap m.length cap' l m (hl.lg frz_self) (by omega) (hm.lg frz_self) (by omega)).mono ?_
 rintro v σ' ⟨⟨_,_,rfl,rfl,hi⟩,hle⟩
 exact ⟨hi,hle⟩
theorem Tryz.withoutL_ok:CallsV S 58 #[.slice a l.length cap,.slice a' m.length cap'] (fun v σ'=>LstV σ' v (withoutL l m) ∧ σ.le σ') σ:=by
 refine (Tryz.without_ok a a' l.length cap m.length cap' l m (hl.lg frz_self) (by omega) (hm.lg frz_self) (by omega)).mono ?_
 rintro v σ' ⟨⟨_,_,rfl,rfl,hi⟩,hle⟩
 exact ⟨hi,hle⟩
end
end Go.Proofs
namespace Go.TM
section
variable {T:Type} {σ σ':View T}
theorem LstV.at {a:Option Addr} {n c:Nat} {l:List Int} (h:LstV σ (.slice a n c) l):Ints σ.frz a l.length l:=by
 obtain ⟨_,_,e,h⟩:=h
 cases e;exact h
def MovV (σ:View T) (v:Value) (l m:List Int):Prop:=∃ v1 v2,v = .tuple #[v1,v2,.int .i64 0] ∧ LstV σ v1 l ∧ LstV σ v2 m
theorem MovV.at {a a':Option Addr} {n c n' c':Nat} {x:Value} {l m:List Int} (h:MovV σ (.tuple #[.slice a n c,.slice a' n' c',x]) l m):Ints σ.frz a l.length l ∧ Ints σ.frz a' m.length m:=by
 obtain ⟨v1,v2,e,h1,h2⟩:=h
 simp at e
 obtain ⟨rfl,rfl,-⟩:=e
 exact ⟨h1.at,h2.at⟩
def OneV (σ:View T) (v:Value) (l:List Int):Prop:=∃ v1,v = .tuple #[v1,.int .i64 0] ∧ LstV σ v1 l
theorem OneV.at {a:Option Addr} {n c:Nat} {x:Value} {l:List Int} (h:OneV σ (.tuple #[.slice a n c,x]) l):Ints σ.frz a l.length l:=by
 obtain ⟨v1,e,h1⟩:=h
 simp at e
 obtain ⟨rfl,-⟩:=e
 exact h1.at
end
theorem CutsV.one {T:Type} {σ:View T} {b:Nat} {a:Option Addr} {cap:Nat} {l:List Int} {keep:Bool} (hb:Blk σ b #[.slice a l.length cap,.bool keep]) (h:Ints σ a l.length l) (k:l.length < 2 ^ 60):CutsV σ (some ⟨b,0,none⟩) 1 [⟨l,keep⟩]:=by
 refine ⟨rfl,fun i x hx=>?_⟩
 obtain rfl:i = 0:=by have:=(List.getElem?_eq_some_iff.1 hx).1;simp at this;omega
 cases hx
 refine ⟨_,_,rfl,rfl,⟨a,l.length,cap,rfl,h,k⟩,rfl,fun i v hv=>?_⟩
 match i,hv with
 | 0,hv=>simp at hv;subst hv;rw [Nat.zero_mul,add_none,add_none];exact hb.sees rfl
 | 1,hv=>simp at hv;subst hv;rw [Nat.zero_mul,add_none,add_none];exact hb.sees rfl
 | i + 2,hv=>simp at hv
end Go.TM
namespace Go.TM
open Go.Proofs
section
variable {t:Tbl} {e:Int} {xs ys:List Int}
end
section
variable {t:Tbl} (hf:t.flaw = 0) {x y:Int} (hx:t.isEd x = true) (hy:t.isEd y = true) {a b:List Int} (ha:t.Lst x a) (hb:t.Lst y b)
include hf hx hy ha hb
end
end Go.TM
namespace Go.TM
theorem cmpL_self:∀ (a:List Int),cmpL a a = 0
 | []=>rfl
 | a :: l=>by rw [cmpL,if_neg (by omega),if_neg (by omega)];exact cmpL_self l
theorem cmpL_trans:∀ {a b c:List Int},cmpL a b < 0 → cmpL b c < 0 → cmpL a c < 0
 | [],[],_,h,_=>by simp [cmpL] at h
 | [],_ :: _,[],_,h=>by simp [cmpL] at h
 | [],_ :: _,_ :: _,_,_=>by simp [cmpL]
 | _ :: _,[],_,h,_=>by simp [cmpL] at h
 | _ :: _,_ :: _,[],_,h=>by simp [cmpL] at h
 | a :: l,b :: r,c :: q,h,k=>by
  rw [cmpL] at h k ⊢
  split at h
  ·split at k
   ·rw [if_pos (by omega)];decide
   ·split at k
    ·omega
    ·rw [if_pos (by omega)];decide
  ·split at h
   ·omega
   ·split at k
    ·rw [if_pos (by omega)];decide
    ·split at k
     ·omega
     ·rw [if_neg (by omega),if_neg (by omega)];exact cmpL_trans h k
theorem subA_half (s:Nat):∀ (l:List Int) (i:Nat),subA s (i + 1) l = subA (s / 2) i l
 | [],_=>rfl
 | a :: l,i=>by
  have:s.testBit (i + 1) = (s / 2).testBit i:=Nat.testBit_succ ..
  simp only [subA,subA_half s l (i + 1),this]
theorem subA_sub (s:Nat):∀ (l:List Int) (i:Nat),(subA s i l).Sublist l
 | [],_=>List.Sublist.slnil
 | a :: l,i=>by
  simp only [subA]
  split
  ·exact (subA_sub s l _).cons_cons a
  ·exact (subA_sub s l _).cons a
theorem sub_subA:∀ {l a:List Int},l.Sublist a → ∃ s,s < 2 ^ a.length ∧ subA s 0 a = l
 | _,_,.slnil=>⟨0,by simp,rfl⟩
 | _,_,.cons x h=>by
  obtain ⟨s,h1,h2⟩:=sub_subA h
  refine ⟨2 * s,by rw [List.length_cons,Nat.pow_succ];omega,?_⟩
  have e:(2 * s).testBit 0 = false:=by simp
  simp only [subA,e,Bool.false_eq_true,if_false]
  rw [subA_half,show 2 * s / 2 = s by omega];exact h2
 | _,_,.cons_cons x h=>by
  obtain ⟨s,h1,h2⟩:=sub_subA h
  refine ⟨2 * s + 1,by rw [List.length_cons,Nat.pow_succ];omega,?_⟩
  have e:(2 * s + 1).testBit 0 = true:=by simp
  simp only [subA,e,if_true]
  rw [subA_half,show (2 * s + 1) / 2 = s by omega,h2]
theorem Tbl.mem_reach {t:Tbl} {tk:Talk} {x y:List Int} {p:Int × Int}:p ∈ t.reach tk x y ↔ p.1 ∈ tk.a ∧ p.2 ∈ tk.b ∧ p.1 ∉ x ∧ p.2 ∉ y ∧ tk.lv ≤ t.lev tk.ed p.1 p.2:=by
 have hok:∀ one two,t.okP tk x y one two = true ↔ one ∉ x ∧ two ∉ y ∧ tk.lv ≤ t.lev tk.ed one two:=fun one two=>by
  unfold Tbl.okP
  rw [Bool.not_eq_true',Bool.or_eq_false_iff,Bool.or_eq_false_iff,decide_eq_false_iff_not]
  constructor
  ·rintro ⟨⟨h1,h2⟩,h3⟩;exact ⟨by simpa using h1,by simpa using h2,by omega⟩
  ·rintro ⟨h1,h2,h3⟩;exact ⟨⟨by simpa using h1,by simpa using h2⟩,by omega⟩
 unfold Tbl.reach Tbl.reachRow
 rw [List.mem_flatMap]
 constructor
 ·rintro ⟨one,h1,h2⟩
  obtain ⟨two,h3,rfl⟩:=List.mem_map.1 h2
  obtain ⟨h3,h4⟩:=List.mem_filter.1 h3
  exact ⟨h1,h3,(hok _ _).1 h4⟩
 ·rintro ⟨h1,h2,h3⟩
  exact ⟨p.1,h1,List.mem_map.2 ⟨p.2,List.mem_filter.2 ⟨h2,(hok _ _).2 h3⟩,rfl⟩⟩
def Tbl.prs (t:Tbl) (tk:Talk):List (Int × Int):=t.reach tk [] []
theorem Tbl.mem_prs {t:Tbl} {tk:Talk} {p:Int × Int}:p ∈ t.prs tk ↔ p.1 ∈ tk.a ∧ p.2 ∈ tk.b ∧ tk.lv ≤ t.lev tk.ed p.1 p.2:=by
 unfold Tbl.prs;rw [Tbl.mem_reach];simp
theorem Tbl.mem_leftF {t:Tbl} {tk:Talk} {x:List Int} {y:Int}:y ∈ t.leftF tk x ↔ ∃ o,(o,y) ∈ t.prs tk ∧ o ∉ x:=by
 unfold Tbl.leftF
 rw [List.mem_filter,List.any_eq_true]
 constructor
 ·rintro ⟨h1,p,h2,h3⟩
  rw [Tbl.mem_reach] at h2
  have h3:p.2 = y:=by simpa using h3
  subst h3
  exact ⟨p.1,Tbl.mem_prs.2 ⟨h2.1,h2.2.1,h2.2.2.2.2⟩,h2.2.2.1⟩
 ·rintro ⟨o,h1,h2⟩
  have h1':=Tbl.mem_prs.1 h1
  exact ⟨h1'.2.1,(o,y),Tbl.mem_reach.2 ⟨h1'.1,h1'.2.1,h2,by simp,h1'.2.2⟩,by simp⟩
theorem Asc.nodup {l:List Int} (h:Asc l):l.Nodup:=List.Pairwise.imp (fun h=>by omega) h
theorem Tbl.asc_leftF {t:Tbl} {tk:Talk} (hb:Asc tk.b) (x:List Int):Asc (t.leftF tk x):=hb.filter _
theorem Tbl.left_cover (t:Tbl) (tk:Talk) (x:List Int):IsCover x (t.leftF tk x) (t.prs tk):=fun p hp=>by
 by_cases h:p.1 ∈ x
 ·exact .inl h
 ·exact .inr (Tbl.mem_leftF.2 ⟨p.1,hp,h⟩)
theorem Tbl.left_least {t:Tbl} {tk:Talk} {x v:List Int} (h:IsCover x v (t.prs tk)):∀ y,y ∈ t.leftF tk x → y ∈ v:=fun y hy=>by
 obtain ⟨o,h1,h2⟩:=Tbl.mem_leftF.1 hy
 rcases h _ h1 with h | h
 ·exact absurd h h2
 ·exact h
structure Tbl.Best (t:Tbl) (tk:Talk) (l r:List Int):Prop where
 sub:l.Sublist tk.a
 left:r = t.leftF tk l
 len:l.length + r.length = t.mostT tk
 least:∀ l':List Int,l'.Sublist tk.a → l'.length + (t.leftF tk l').length = t.mostT tk → ¬ cmpL l' l < 0
section
variable {t:Tbl} {tk:Talk} (ha:Asc tk.a) (hb:Asc tk.b)
include ha
theorem Tbl.prs_a:tk.a.Nodup ∧ ∀ p,p ∈ t.prs tk → p.1 ∈ tk.a:=⟨ha.nodup,fun _ hp=>(Tbl.mem_prs.1 hp).1⟩
theorem Tbl.most_cover {x y:List Int} (h:IsCover x y (t.prs tk)):t.mostT tk ≤ x.length + y.length:=most_le_cover (Tbl.prs_a (t:=t) ha).1 (Tbl.prs_a (t:=t) ha).2 h
theorem Tbl.most_left (x:List Int):t.mostT tk ≤ x.length + (t.leftF tk x).length:=Tbl.most_cover ha (t.left_cover tk x)
include hb
theorem Tbl.some_best:∃ l:List Int,l.Sublist tk.a ∧ l.length + (t.leftF tk l).length = t.mostT tk:=by
 obtain ⟨-,X,Y,h1,h2,h3,h4⟩:=most_both (Tbl.prs_a (t:=t) ha).1 (Tbl.prs_a (t:=t) ha).2
 have hsub:(tk.a.filter fun n=>X.contains n).Sublist tk.a:=List.filter_sublist ..
 refine ⟨_,hsub,Nat.le_antisymm ?_ (Tbl.most_left ha _)⟩
 have hl:(tk.a.filter fun n=>X.contains n).length ≤ X.length:=nodup_sub_len (ha.filter _).nodup fun x hx=>by simpa using (List.mem_filter.1 hx).2
 have hr:(t.leftF tk (tk.a.filter fun n=>X.contains n)).length ≤ Y.length:=nodup_sub_len (Tbl.asc_leftF hb _).nodup <| Tbl.left_least fun p hp=>by
  rcases h3 p hp with h | h
  ·exact .inl (List.mem_filter.2 ⟨(Tbl.mem_prs.1 hp).1,by simpa using h⟩)
  ·exact .inr h
 show _ ≤ t.mostT tk
 have h4:X.length + Y.length = t.mostT tk:=h4
 omega
theorem Tbl.agr_best:t.Best tk (t.agr tk).1 (t.agr tk).2:=by
 obtain ⟨l₀,hl₀,he₀⟩:=Tbl.some_best (t:=t) ha hb
 obtain ⟨s₀,hs₀,rfl⟩:=sub_subA hl₀
 have key:∀ k,let st:=(List.range k).foldl (agStep (t.mostT tk) (t.leftF tk) tk.a) ([],[]);
   (st = ([],[]) ∧ ∀ s,s < k → (subA s 0 tk.a).length + (t.leftF tk (subA s 0 tk.a)).length ≠ t.mostT tk) ∨
   ((∃ s,s < k ∧ st = (subA s 0 tk.a,t.leftF tk (subA s 0 tk.a)) ∧ (subA s 0 tk.a).length + (t.leftF tk (subA s 0 tk.a)).length = t.mostT tk) ∧
    ∀ s,s < k → (subA s 0 tk.a).length + (t.leftF tk (subA s 0 tk.a)).length = t.mostT tk → ¬ cmpL (subA s 0 tk.a) st.1 < 0):=by
  intro k
  induction k with
  | zero=>exact .inl ⟨rfl,fun s h=>absurd h (Nat.not_lt_zero _)⟩
  | succ k ih=>
   simp only at ih ⊢
   rw [List.range_succ,List.foldl_append,List.foldl_cons,List.foldl_nil]
   generalize (List.range k).foldl (agStep (t.mostT tk) (t.leftF tk) tk.a) ([],[]) = st at ih ⊢
   unfold agStep
   by_cases hm:(subA k 0 tk.a).length + (t.leftF tk (subA k 0 tk.a)).length = t.mostT tk
   ·rcases ih with ⟨rfl,hno⟩ | ⟨⟨s,hs,rfl,hse⟩,hle⟩
    ·rw [if_pos ⟨hm,.inr (.inl ⟨rfl,rfl⟩)⟩]
     refine .inr ⟨⟨k,by omega,rfl,hm⟩,fun s hs he=>?_⟩
     by_cases e:s = k
     ·subst e;simp only;rw [cmpL_self];decide
     ·exact absurd he (hno s (by omega))
    ·by_cases hc:cmpL (subA k 0 tk.a) (subA s 0 tk.a) < 0
     ·rw [if_pos ⟨hm,.inr (.inr hc)⟩]
      refine .inr ⟨⟨k,by omega,rfl,hm⟩,fun s' hs' he hlt=>?_⟩
      by_cases e:s' = k
      ·subst e;simp only at hlt;rw [cmpL_self] at hlt;exact absurd hlt (by decide)
      ·exact hle s' (by omega) he (cmpL_trans hlt hc)
     ·by_cases hn:(k = 0 ∨ (subA s 0 tk.a = [] ∧ t.leftF tk (subA s 0 tk.a) = []) ∨ cmpL (subA k 0 tk.a) (subA s 0 tk.a) < 0)
      ·rw [if_pos ⟨hm,hn⟩]
       have heq:subA k 0 tk.a = subA s 0 tk.a:=by
        rcases hn with rfl | ⟨h1,h2⟩ | h
        ·omega
        ·rw [h2,h1] at hse
         rw [← hse] at hm
         rw [h1]
         exact List.eq_nil_of_length_eq_zero (by simp at hm;simp [hm.1])
        ·exact absurd h hc
       refine .inr ⟨⟨k,by omega,rfl,hm⟩,fun s' hs' he=>?_⟩
       simp only
       rw [heq]
       by_cases e:s' = k
       ·rw [e,heq,cmpL_self];decide
       ·exact hle s' (by omega) he
      ·rw [if_neg fun h=>hn h.2]
       refine .inr ⟨⟨s,by omega,rfl,hse⟩,fun s' hs' he=>?_⟩
       by_cases e:s' = k
       ·rw [e];exact hc
       ·exact hle s' (by omega) he
   ·rw [if_neg fun h=>hm h.1]
    rcases ih with ⟨rfl,hno⟩ | ⟨⟨s,hs,he,hse⟩,hle⟩
    ·refine .inl ⟨rfl,fun s hs=>?_⟩
     by_cases e:s = k
     ·rw [e];exact hm
     ·exact hno s (by omega)
    ·refine .inr ⟨⟨s,by omega,he,hse⟩,fun s' hs' he'=>?_⟩
     by_cases e:s' = k
     ·rw [e] at he';exact absurd he' hm
     ·exact hle s' (by omega) he'
 have:=key (2 ^ tk.a.length)
 simp only at this
 unfold Tbl.agr agAll
 rcases this with ⟨_,hno⟩ | ⟨⟨s,hs,he,hse⟩,hle⟩
 ·exact absurd he₀ (hno s₀ hs₀)
 ·rw [he] at hle ⊢
  refine ⟨subA_sub ..,rfl,hse,fun l' hl' he'=>?_⟩
  obtain ⟨s',hs',rfl⟩:=sub_subA hl'
  exact hle s' hs' he'
end
def matchedL:Nat → List (Int × Int) → Int → List Int → Option (List (Int × Int))
 | 0,_,_,_=>some []
 | _ + 1,[],_,_=>none
 | n + 1,p :: r,one,taken=>if p.1 ≤ one ∨ p.2 ∈ taken then matchedL (n + 1) r one taken else match matchedL n r p.1 (taken ++ [p.2]) with
  | some L=>some (p :: L)
  | none=>matchedL (n + 1) r one taken
theorem matchedL_nil (n:Nat) (one:Int) (taken:List Int):matchedL (n + 1) [] one taken = none:=by rw [matchedL]
theorem matchedL_cons (n:Nat) (p:Int × Int) (r:List (Int × Int)) (one:Int) (taken:List Int):matchedL (n + 1) (p :: r) one taken = if p.1 ≤ one ∨ p.2 ∈ taken then matchedL (n + 1) r one taken else match matchedL n r p.1 (taken ++ [p.2]) with
  | some L=>some (p :: L)
  | none=>matchedL (n + 1) r one taken:=by rw [matchedL]
def freeP (one:Int) (taken:List Int) (q:Int × Int):Bool:=decide (one < q.1) && !decide (q.2 ∈ taken)
theorem free_rest {p:Int × Int} {r:List (Int × Int)} {one:Int} {taken:List Int} (hs:∀ q ∈ r,p.1 ≤ q.1) (hp:one < p.1):r.filter (freeP p.1 (taken ++ [p.2])) = restP p (r.filter (freeP one taken)):=by
 unfold restP
 rw [List.filter_filter]
 refine List.filter_congr fun q hq=>?_
 have:=hs q hq
 unfold freeP
 rw [Bool.eq_iff_iff]
 simp only [Bool.and_eq_true,decide_eq_true_eq,Bool.not_eq_true',decide_eq_false_iff_not,List.mem_append,List.mem_singleton,not_or,Bool.or_eq_false_iff,beq_eq_false_iff_ne,ne_eq]
 constructor
 ·rintro ⟨h1,h2,h3⟩;exact ⟨⟨by omega,h3⟩,by omega,h2⟩
 ·rintro ⟨⟨h1,h2⟩,_,h3⟩;exact ⟨by omega,h3,h2⟩
theorem most_nil (la:List Int) (hn:la.Nodup):most la [] = 0:=by
 have:=most_le_cover (X:=[]) (Y:=[]) hn (ps:=[]) (fun p h=>by cases h) (fun p h=>by cases h)
 simpa using this
theorem most_mono {la:List Int} (hn:la.Nodup) {ps qs:List (Int × Int)} (hq:∀ p,p ∈ qs → p.1 ∈ la) (h:∀ p,p ∈ ps → p ∈ qs):most la ps ≤ most la qs:=by
 obtain ⟨⟨L,hL,e⟩,_⟩:=most_both hn fun p hp=>hq p (h p hp)
 rw [← e]
 exact match_le_most hn hq ⟨fun p hp=>h p (hL.1 p hp),hL.2⟩
theorem mem_restP {p q:Int × Int} {r:List (Int × Int)}:q ∈ restP p r ↔ q ∈ r ∧ q.1 ≠ p.1 ∧ q.2 ≠ p.2:=by
 unfold restP
 rw [List.mem_filter]
 simp
theorem nodup_of_map {α β:Type} {f:α → β}:∀ {L:List α},(L.map f).Nodup → L.Nodup
 | [],_=>List.Pairwise.nil
 | a :: L,h=>by
  rw [List.map_cons,List.nodup_cons] at h
  rw [List.nodup_cons]
  exact ⟨fun hm=>h.1 (List.mem_map.2 ⟨a,hm,rfl⟩),nodup_of_map h.2⟩
theorem most_pick {la:List Int} (hn:la.Nodup) {p:Int × Int} {r:List (Int × Int)} (hp:∀ q,q ∈ p :: r → q.1 ∈ la) (n:Nat):n + 1 ≤ most la (p :: r) ↔ n ≤ most la (restP p r) ∨ n + 1 ≤ most la r:=by
 have hr:∀ q,q ∈ r → q.1 ∈ la:=fun q hq=>hp q (List.mem_cons_of_mem _ hq)
 have hrest:∀ q,q ∈ restP p r → q.1 ∈ la:=fun q hq=>hr q (mem_restP.1 hq).1
 constructor
 ·intro h
  obtain ⟨⟨L,hL,e⟩,_⟩:=most_both hn hp
  rw [← e] at h
  by_cases hpL:p ∈ L
  ·left
   have hnd:L.Nodup:=nodup_of_map hL.2.1
   have hm:IsMatch (L.erase p) (restP p r):=by
    refine ⟨fun q hq=>?_,(hL.2.1.sublist ((List.erase_sublist ..).map _)),(hL.2.2.sublist ((List.erase_sublist ..).map _))⟩
    have hq':q ≠ p ∧ q ∈ L:=(List.Nodup.mem_erase_iff hnd).1 hq
    have inj1:q.1 ≠ p.1:=fun he=>hq'.1 (inj_of_nodup_map hL.2.1 hq'.2 hpL he)
    have inj2:q.2 ≠ p.2:=fun he=>hq'.1 (inj_of_nodup_map hL.2.2 hq'.2 hpL he)
    rcases List.mem_cons.1 (hL.1 q hq'.2) with h | h
    ·exact absurd h hq'.1
    ·exact mem_restP.2 ⟨h,inj1,inj2⟩
   have:=match_le_most hn hrest hm
   rw [List.length_erase_of_mem hpL] at this
   omega
  ·right
   have hm:IsMatch L r:=⟨fun q hq=>by
    rcases List.mem_cons.1 (hL.1 q hq) with h | h
    ·rw [h] at hq;exact absurd hq hpL
    ·exact h,hL.2⟩
   exact Nat.le_trans h (match_le_most hn hr hm)
 ·rintro (h | h)
  ·obtain ⟨⟨L,hL,e⟩,_⟩:=most_both hn hrest
   have hm:IsMatch (p :: L) (p :: r):=by
    refine ⟨fun q hq=>?_,?_,?_⟩
    ·rcases List.mem_cons.1 hq with rfl | hq
     ·exact List.mem_cons_self ..
     ·exact List.mem_cons_of_mem _ (mem_restP.1 (hL.1 q hq)).1
    ·rw [List.map_cons,List.nodup_cons]
     refine ⟨fun hc=>?_,hL.2.1⟩
     obtain ⟨q,hq,he⟩:=List.mem_map.1 hc
     exact (mem_restP.1 (hL.1 q hq)).2.1 he
    ·rw [List.map_cons,List.nodup_cons]
     refine ⟨fun hc=>?_,hL.2.2⟩
     obtain ⟨q,hq,he⟩:=List.mem_map.1 hc
     exact (mem_restP.1 (hL.1 q hq)).2.2 he
   have:=match_le_most hn hp hm
   simp only [List.length_cons] at this
   omega
  ·exact Nat.le_trans h (most_mono hn hp fun q hq=>List.mem_cons_of_mem _ hq)
where
 inj_of_nodup_map {β:Type} {f:Int × Int → β}:∀ {L:List (Int × Int)},(L.map f).Nodup → ∀ {p q:Int × Int},p ∈ L → q ∈ L → f p = f q → p = q
  | [],_,_,_,h,_,_=>by cases h
  | a :: L,hn,p,q,hp,hq,he=>by
   rw [List.map_cons,List.nodup_cons] at hn
   rcases List.mem_cons.1 hp with rfl | hp2
   ·rcases List.mem_cons.1 hq with rfl | hq2
    ·rfl
    ·exact (hn.1 (List.mem_map.2 ⟨q,hq2,he.symm⟩)).elim
   ·rcases List.mem_cons.1 hq with rfl | hq2
    ·exact (hn.1 (List.mem_map.2 ⟨p,hp2,he⟩)).elim
    ·exact inj_of_nodup_map hn.2 hp2 hq2 he
theorem matched_eq {la:List Int} (hn:la.Nodup):∀ (n:Nat) (ps:List (Int × Int)) (one:Int) (taken:List Int),ps.Pairwise (fun p q=>p.1 ≤ q.1) → (∀ p,p ∈ ps → p.1 ∈ la) →
  matchedL n ps one taken = (if n ≤ most la (ps.filter (freeP one taken)) then proofL la n (ps.filter (freeP one taken)) else none) ∧ (n ≤ most la (ps.filter (freeP one taken)) → (proofL la n (ps.filter (freeP one taken))).isSome = true)
 | 0,ps,one,taken,_,_=>by
  rw [if_pos (Nat.zero_le _)]
  have e1:matchedL 0 ps one taken = some []:=by rw [matchedL]
  rw [e1]
  exact ⟨by rw [proofL],fun _=>by rw [proofL];rfl⟩
 | n + 1,[],one,taken,_,_=>by
  rw [List.filter_nil,most_nil la hn,if_neg (by omega)]
  exact ⟨matchedL_nil ..,fun h=>absurd h (by omega)⟩
 | n + 1,p :: r,one,taken,hs,hp=>by
  have hs':=List.pairwise_cons.1 hs
  have hr:∀ q,q ∈ r → q.1 ∈ la:=fun q hq=>hp q (List.mem_cons_of_mem _ hq)
  obtain ⟨ih1,ih2⟩:=matched_eq hn (n + 1) r one taken hs'.2 hr
  by_cases hf:freeP one taken p = true
  ·have hf':one < p.1 ∧ p.2 ∉ taken:=by unfold freeP at hf;simpa using hf
   obtain ⟨jh1,jh2⟩:=matched_eq hn n r p.1 (taken ++ [p.2]) hs'.2 hr
   rw [free_rest hs'.1 hf'.1] at jh1 jh2
   rw [List.filter_cons,if_pos hf]
   have hF:∀ q,q ∈ p :: r.filter (freeP one taken) → q.1 ∈ la:=fun q hq=>by
    rcases List.mem_cons.1 hq with rfl | hq
    ·exact hp _ (List.mem_cons_self ..)
    ·exact hr q (List.mem_filter.1 hq).1
   have hpick:=most_pick hn hF n
   rw [matchedL_cons,if_neg (fun h=>h.elim (fun h=>by omega) hf'.2),jh1]
   by_cases h1:n ≤ most la (restP p (r.filter (freeP one taken)))
   ·obtain ⟨L,hL⟩:=Option.isSome_iff_exists.1 (jh2 h1)
    rw [if_pos h1,hL,if_pos (hpick.2 (.inl h1)),proofL,pickP,if_pos h1]
    simp only [hL,Option.map_some,Option.isSome_some,implies_true,and_self]
   ·rw [if_neg h1]
    simp only
    have hiff:n + 1 ≤ most la (p :: r.filter (freeP one taken)) ↔ n + 1 ≤ most la (r.filter (freeP one taken)):=hpick.trans ⟨fun h=>h.resolve_left h1,.inr⟩
    have hpr:proofL la (n + 1) (p :: r.filter (freeP one taken)) = proofL la (n + 1) (r.filter (freeP one taken)):=by
     rw [proofL,pickP,if_neg h1,proofL]
    rw [ih1,hpr]
    refine ⟨?_,fun h=>ih2 (hiff.1 h)⟩
    by_cases h2:n + 1 ≤ most la (r.filter (freeP one taken))
    ·rw [if_pos h2,if_pos (hiff.2 h2)]
    ·rw [if_neg h2,if_neg fun h=>h2 (hiff.1 h)]
  ·have hf':p.1 ≤ one ∨ p.2 ∈ taken:=by
    by_cases h:p.1 ≤ one
    ·exact .inl h
    ·by_cases h2:p.2 ∈ taken
     ·exact .inr h2
     ·exact (hf (by unfold freeP;simp [h2];omega)).elim
   rw [List.filter_cons,if_neg hf,matchedL_cons,if_pos hf']
   exact ⟨ih1,ih2⟩
section
variable {t:Tbl} {e:Int}
end
def Tbl.row (t:Tbl) (k:Talk) (x:Int) (l:List Int):List (Int × Int):=(l.filter fun y=>decide (k.lv ≤ t.lev k.ed x y)).map fun y=>(x,y)
theorem Tbl.prs_eq (t:Tbl) (k:Talk):t.prs k = k.a.flatMap fun x=>t.row k x k.b:=by
 unfold Tbl.prs Tbl.reach
 congr 1
 funext x
 unfold Tbl.reachRow Tbl.row
 congr 1
 refine List.filter_congr fun y _=>?_
 unfold Tbl.okP
 rw [Bool.eq_iff_iff]
 simp
theorem Tbl.row_len (t:Tbl) (k:Talk) (x:Int) (l:List Int):(t.row k x l).length ≤ l.length:=by
 unfold Tbl.row
 rw [List.length_map];exact List.length_filter_le ..
theorem flat_len {α β:Type} {f:α → List β} {m:Nat}:∀ {l:List α},(∀ x,x ∈ l → (f x).length ≤ m) → (l.flatMap f).length ≤ l.length * m
 | [],_=>by simp
 | x :: l,h=>by
  rw [List.flatMap_cons,List.length_append,List.length_cons,Nat.succ_mul]
  have h1:=h x (List.mem_cons_self ..)
  have h2:=flat_len (l:=l) fun y hy=>h y (List.mem_cons_of_mem _ hy)
  omega
theorem Tbl.prs_len (t:Tbl) (k:Talk):(t.prs k).length ≤ k.a.length * k.b.length:=by
 rw [Tbl.prs_eq]
 exact flat_len fun x _=>t.row_len k x k.b
theorem Tbl.talk_of {t:Tbl} (hf:t.flaw = 0) {e lv:Int} (he:t.isEd e = true) {a b:List Int} (ha:t.Lst e a) (hb:t.Lst e b) (h1:1 ≤ lv) (h5:lv ≤ 5):t.talkF e a b lv = 0:=by
 have ho:t.openF e [a,b] = 0:=Tbl.openF_of hf he fun m hm=>by
  rcases List.mem_cons.1 hm with rfl | hm
  ·exact ha
  ·rw [List.mem_singleton.1 hm];exact hb
 unfold Tbl.talkF
 rw [if_pos ho,if_pos (by unfold btw;simp [h1,h5])]
theorem pickP_some {la:List Int} {n:Nat}:∀ {ps:List (Int × Int)} {p:Int × Int} {rest:List (Int × Int)},pickP la n ps = some (p,rest) → ∃ r,(p :: r).Sublist ps ∧ rest = restP p r
 | [],_,_,h=>by cases h
 | q :: r,p,rest,h=>by
  rw [pickP] at h
  split at h
  ·cases h;exact ⟨r,List.Sublist.refl _,rfl⟩
  ·obtain ⟨r',h1,h2⟩:=pickP_some h
   exact ⟨r',h1.cons q,h2⟩
abbrev Apart (p q:Int × Int):Prop:=p.1 < q.1 ∧ p.2 ≠ q.2
theorem proofL_apart {la:List Int}:∀ {n:Nat} {ps L:List (Int × Int)},ps.Pairwise (fun p q=>p.1 ≤ q.1) → proofL la n ps = some L → L.length = n ∧ (∀ p,p ∈ L → p ∈ ps) ∧ L.Pairwise Apart
 | 0,ps,L,_,h=>by
  rw [proofL] at h;cases h
  exact ⟨rfl,(fun p hp=>by cases hp),List.Pairwise.nil⟩
 | n + 1,ps,L,hs,h=>by
  rw [proofL] at h
  cases hp:pickP la n ps with
  | none=>rw [hp] at h;cases h
  | some x=>
   obtain ⟨p,rest⟩:=x
   rw [hp] at h
   obtain ⟨L',hL',rfl⟩:=Option.map_eq_some_iff.1 h
   obtain ⟨r,h1,rfl⟩:=pickP_some hp
   have hs':=List.pairwise_cons.1 (hs.sublist h1)
   have hr:(restP p r).Sublist r:=List.filter_sublist ..
   obtain ⟨k1,k2,k3⟩:=proofL_apart (hs'.2.sublist hr) hL'
   have hin:∀ q,q ∈ restP p r → q ∈ ps:=fun q hq=>h1.subset (List.mem_cons_of_mem _ (hr.subset hq))
   refine ⟨by rw [List.length_cons,k1],fun q hq=>?_,List.pairwise_cons.2 ⟨fun q hq=>?_,k3⟩⟩
   ·rcases List.mem_cons.1 hq with rfl | hq
    ·exact h1.subset (List.mem_cons_self ..)
    ·exact hin q (k2 q hq)
   ·obtain ⟨m1,m2,m3⟩:=mem_restP.1 (k2 q hq)
    have hle:p.1 ≤ q.1:=hs'.1 q m1
    have hlt:p.1 < q.1:=by omega
    exact ⟨hlt,fun e=>m3 e.symm⟩
theorem row_le (x:Int):∀ l:List Int,(l.map fun y=>(x,y)).Pairwise (fun p q:Int × Int=>p.1 ≤ q.1)
 | []=>List.Pairwise.nil
 | a :: l=>by
  rw [List.map_cons,List.pairwise_cons]
  exact ⟨fun q hq=>by obtain ⟨_,_,rfl⟩:=List.mem_map.1 hq;exact Int.le_refl _,row_le x l⟩
theorem Tbl.prs_sorted {t:Tbl} {tk:Talk} (ha:Asc tk.a):(t.prs tk).Pairwise (fun p q=>p.1 ≤ q.1):=by
 rw [Tbl.prs_eq]
 have hrow:∀ x p,p ∈ t.row tk x tk.b → p.1 = x:=fun x p hp=>by
  unfold Tbl.row at hp
  obtain ⟨_,_,rfl⟩:=List.mem_map.1 hp
  rfl
 have key:∀ l:List Int,Asc l → (l.flatMap fun x=>t.row tk x tk.b).Pairwise (fun p q=>p.1 ≤ q.1):=by
  intro l
  induction l with
  | nil=>intro _;exact List.Pairwise.nil
  | cons x l ih=>
   intro h
   have h':=List.pairwise_cons.1 h
   rw [List.flatMap_cons,List.pairwise_append]
   refine ⟨row_le _ _,ih h'.2,fun p hp q hq=>?_⟩
   obtain ⟨x',hx',hq⟩:=List.mem_flatMap.1 hq
   have e1:=hrow _ _ hp
   have e2:=hrow _ _ hq
   have:=h'.1 x' hx'
   omega
 exact key tk.a ha
theorem Tbl.proof_some {t:Tbl} {tk:Talk} (ha:Asc tk.a) (h0:∀ x ∈ tk.a,0 ≤ x):(proofL tk.a (t.mostT tk) (t.prs tk)).isSome = true:=by
 have hk:=(matched_eq (la:=tk.a) ha.nodup (t.mostT tk) (t.prs tk) (-1) [] (Tbl.prs_sorted ha) (fun p hp=>(Tbl.mem_prs.1 hp).1)).2
 have e:(t.prs tk).filter (freeP (-1) []) = t.prs tk:=List.filter_eq_self.2 fun p hp=>by
  have:=h0 _ (Tbl.mem_prs.1 hp).1
  unfold freeP
  simp
  omega
 rw [e] at hk
 exact hk (Nat.le_refl _)
section
variable {t:Tbl} {tk:Talk} (ha:Asc tk.a) (hb:Asc tk.b)
include ha hb
theorem Tbl.agr_cover:IsCover (t.agr tk).1 (t.agr tk).2 (t.prs tk):=by
 have h:=Tbl.agr_best (t:=t) ha hb
 rw [h.left];exact t.left_cover tk _
theorem Tbl.agr_len:(t.agr tk).1.length + (t.agr tk).2.length = t.mostT tk:=(Tbl.agr_best (t:=t) ha hb).len
theorem Tbl.agr_one:(t.agr tk).1.Sublist tk.a:=(Tbl.agr_best (t:=t) ha hb).sub
theorem Tbl.agr_two:(t.agr tk).2.Sublist tk.b:=by
 have h:=Tbl.agr_best (t:=t) ha hb
 rw [h.left];exact List.filter_sublist ..
end
theorem mem_withoutL {a b:List Int} {x:Int}:x ∈ withoutL a b ↔ x ∈ a ∧ x ∉ b:=by
 unfold withoutL;rw [List.mem_filter];simp
theorem Tbl.none_left {t:Tbl} {e n:Int} {A B u v:List Int}:t.prs ⟨e,n,withoutL A u,withoutL B v⟩ = [] ↔ IsCover u v (t.prs ⟨e,n,A,B⟩):=by
 rw [List.eq_nil_iff_forall_not_mem]
 constructor
 ·intro h p hp
  obtain ⟨h1,h2,h3⟩:=Tbl.mem_prs.1 hp
  apply Classical.byContradiction
  intro hn
  exact h p (Tbl.mem_prs.2 ⟨mem_withoutL.2 ⟨h1,fun k=>hn (.inl k)⟩,mem_withoutL.2 ⟨h2,fun k=>hn (.inr k)⟩,h3⟩)
 ·intro h p hp
  obtain ⟨h1,h2,h3⟩:=Tbl.mem_prs.1 hp
  have h1:=mem_withoutL.1 h1
  have h2:=mem_withoutL.1 h2
  rcases h p (Tbl.mem_prs.2 ⟨h1.1,h2.1,h3⟩) with k | k
  ·exact h1.2 k
  ·exact h2.2 k
def PrsW {T:Type} (σ:View T) (v:Value) (l:List (Int × Int)):Prop:=∃ a c,v = .slice a l.length c ∧ l.length ≤ c ∧ PairsV σ.frz a l.length l
theorem PrsW.le {T:Type} {σ σ':View T} {v:Value} {l:List (Int × Int)} (h:PrsW σ v l) (k:σ.le σ'):PrsW σ' v l:=let ⟨a,c,e,g,h⟩:=h;⟨a,c,e,g,h.lg k.frz2⟩
def AgrV {T:Type} (σ:View T) (v:Value) (t:Tbl) (tk:Talk):Prop:=∃ va vb vp L,v = .tuple #[va,vb,vp,.int .i64 0] ∧ LstV σ va (t.agr tk).1 ∧ LstV σ vb (t.agr tk).2 ∧ PrsW σ vp L ∧ proofL tk.a (t.mostT tk) (t.prs tk) = some L
def PrsE {T:Type} (σ:View T) (v:Value) (l:List (Int × Int)):Prop:=∃ v1,v = .tuple #[v1,.int .i64 0] ∧ PrsW σ v1 l
theorem PrsE.le {T:Type} {σ σ':View T} {v:Value} {l:List (Int × Int)} (h:PrsE σ v l) (k:σ.le σ'):PrsE σ' v l:=let ⟨v1,e,h⟩:=h;⟨v1,e,h.le k⟩
end Go.TM
namespace Go.Proofs
open Go.TM
set_option maxRecDepth 100000
variable {T:Type} {S:TM.Sys Tryz.prog T} {σ:View T}
attribute [local irreducible] CallsV YieldV rngX
section
variable (h:TH) (t:Tbl) (ht:TabV σ.frz h t) (hf:t.flaw = 0) (e lv:Int) (hed:t.isEd e = true) {a a':Option Addr} {cap cap':Nat} {l l':List Int} (hl:Ints σ.frz a l.length l) (hL:t.Lst e l) (hl':Ints σ.frz a' l'.length l') (hL':t.Lst e l') (h1:1 ≤ lv) (h5:lv ≤ 5)
include ht hf hed hl hL hl' hL' h1 h5
theorem Tryz.agL_ok:CallsV S 46 #[h.v,.int .i64 e,.slice a l.length cap,.slice a' l'.length cap',.int .i64 lv] (fun v σ'=>AgrV σ' v t ⟨e,lv,l,l'⟩ ∧ σ.le σ') σ:=by
 have hT:=Tbl.talk_of hf hed hL hL' h1 h5
 have n1:=hL.len hf
 have n2:=hL'.len hf
 have k:=Tryz.Agree_ok (S:=S) h t ht e lv a a' l.length cap l'.length cap' l l' hl hl' (by omega) (by omega) (fun _=>Tbl.proof_some (tk:=⟨e,lv,l,l'⟩) hL.asc fun x hx=>(hL.lt hf x hx).1) (fun _ x=>Nat.le_trans (t.reach_len ⟨e,lv,l,l'⟩ x []) (Nat.mul_le_mul n1 n2))
 rw [hT] at k
 refine k.mono ?_
 rintro v σ' ⟨⟨va,vb,vp,la,lb,lp,rfl,h1,h2,⟨pa,pc,rfl,hpc,hp⟩,h4⟩,hle⟩
 rw [if_pos rfl] at h4
 obtain ⟨e1,e2⟩:=h4
 have ea:(t.agr ⟨e,lv,l,l'⟩).1 = la:=by rw [← e1]
 have eb:(t.agr ⟨e,lv,l,l'⟩).2 = lb:=by rw [← e1]
 refine ⟨⟨va,vb,_,lp,rfl,?_,?_,⟨pa,pc,rfl,hpc,hp⟩,e2⟩,hle⟩
 ·rw [ea];obtain ⟨x,c,rfl,-,hi⟩:=h1;exact ⟨x,c,rfl,hi⟩
 ·rw [eb];obtain ⟨x,c,rfl,-,hi⟩:=h2;exact ⟨x,c,rfl,hi⟩
theorem Tryz.prsG_ok:CallsV S 43 #[h.v,.int .i64 e,.slice a l.length cap,.slice a' l'.length cap',.int .i64 lv] (fun v σ'=>PrsE σ' v (t.prs ⟨e,lv,l,l'⟩) ∧ σ.le σ') σ:=by
 have hT:=Tbl.talk_of hf hed hL hL' h1 h5
 have n1:=hL.len hf
 have n2:=hL'.len hf
 have k:=Tryz.Pairs_ok (S:=S) h t ht e lv a a' l.length cap l'.length cap' l l' hl hl' (by omega) (by omega)
 rw [hT] at k
 refine k.mono ?_
 rintro v σ' ⟨⟨v1,_,rfl,rfl,pa,pc,rfl,hpc,hp⟩,hle⟩
 have e1:t.pairsL e l l' lv = t.prs ⟨e,lv,l,l'⟩:=by unfold Tbl.pairsL;rw [if_pos hT];rfl
 rw [e1] at hpc hp ⊢
 exact ⟨⟨_,rfl,pa,pc,rfl,hpc,hp⟩,hle⟩
end
end Go.Proofs
namespace Go.TM
variable {T:Type} {P:Program} {S:Sys P T} {σ:View T}
def U16s (σ:View T) (a:Option Addr) (len:Nat) (l:List Nat):Prop:=RowsV σ a len 1 l fun n vs=>vs = [.int .u16 (n:Int)] ∧ n < 65536
theorem U16s.lg {σ':View T} {a:Option Addr} {len:Nat} {l:List Nat} (h:U16s σ a len l) (hl:σ.lg σ'):U16s σ' a len l:=RowsV.lg h hl fun _ _ h=>h
structure RC where
 a:Option Addr
 cap:Nat
 c:GCut
end Go.TM
namespace Go.TM
def PrtAt (l m:List Int) (k:Nat):Prop:=∀ n,l[k]? = some n → n ∈ m ∧ ∀ j p,j + 1 = k → l[j]? = some p → p < n
def Prt (l m:List Int):Prop:=∀ k,PrtAt l m k
theorem prt_bad {l m:List Int} {k:Nat} (h:¬ PrtAt l m k):false = true ↔ Prt l m:=⟨fun h=>(Bool.false_ne_true h).elim,fun g=>(h (g k)).elim⟩
theorem prt_all {l m:List Int} (h:∀ k,k < l.length → PrtAt l m k):true = true ↔ Prt l m:=
 ⟨fun _ k n hn=>h k (List.getElem?_eq_some_iff.1 hn).1 n hn,fun _=>rfl⟩
def SoloAt (all ps:List (Int × Int)) (k:Nat):Prop:=∀ p,ps[k]? = some p → p ∈ all ∧ ∀ j q,j < k → ps[j]? = some q → q.1 ≠ p.1 ∧ q.2 ≠ p.2
def Solo (all ps:List (Int × Int)):Prop:=∀ k,SoloAt all ps k
theorem solo_bad {l m:List (Int × Int)} {k:Nat} (h:¬ SoloAt l m k):false = true ↔ Solo l m:=⟨fun h=>(Bool.false_ne_true h).elim,fun g=>(h (g k)).elim⟩
theorem solo_all {l m:List (Int × Int)} (h:∀ k,k < m.length → SoloAt l m k):true = true ↔ Solo l m:=
 ⟨fun _ k n hn=>h k (List.getElem?_eq_some_iff.1 hn).1 n hn,fun _=>rfl⟩
def shares (q p:Int × Int):Bool:=p.1 == q.1 || p.2 == q.2
def pairA (p:Int × Int):Value:=.agg #[.int .i64 p.1,.int .i64 p.2]
theorem eqv_pair (p q:Int × Int):eqvL (encII p) (encII q) = (p == q):=by
 obtain ⟨a,b⟩:=p;obtain ⟨c,d⟩:=q
 simp only [encII,eqvL,eqv]
 rw [Bool.eq_iff_iff];simp
end Go.TM
namespace Go.Proofs
open Go.TM
set_option maxRecDepth 100000
variable {T:Type} {S:TM.Sys Tryz.prog T} {σ:View T}
attribute [local irreducible] CallsV YieldV rngX
theorem Tryz.isPart_ok (a a':Option Addr) (len cap len' cap':Nat) (l m:List Int) (hl:Ints σ a len l) (hlen:len < 2 ^ 60) (hm:Ints σ a' len' m) (hlen':len' < 2 ^ 60) :
  CallsV S 103 #[.slice a len cap,.slice a' len' cap'] (fun v σ'=>(∃ B:Bool,v = .bool B ∧ (B = true ↔ Prt l m)) ∧ σ' = σ) σ:=by
 refine CallsV.of (args:=[_,_]) Tryz.k103 Tryz.mixed (by simp) ?_
 have hll:=hl.1
 repeat refine ⟨rfl,?_⟩
 refine ⟨Nat,fun i=>[(0,.slice a len cap),(1,.slice a' len' cap'),(7,.slice a len cap),(8,.int .i64 len),(9,.int .i64 i)],
  fun i σ'=>σ' = σ ∧ i ≤ len ∧ ∀ k,k < i → PrtAt l m k,fun i=>len - i,0,⟨rfl,rfl,rfl,rfl,rfl,trivial⟩,⟨rfl,by omega,by simp⟩,?_⟩
 rintro i f _ ⟨rfl,hi,hinv⟩
 repeat refine ⟨rfl,?_⟩
 conv=>whnf
 apply cb_split<;>intro hc
 ·have hlt:i < len:=by simpa using hc
  obtain ⟨ad,x,hx,rfl,hsp,hs⟩:=hl.at hlt
  refine ⟨ad,i,⟨rfl,rfl,hlt⟩,?_⟩
  refine ⟨_,hs,?_⟩
  refine ⟨Tryz.k85.any,(Tryz.contains_ok a' len' cap' m hm hlen' x).go fun _=>?_⟩
  repeat refine ⟨rfl,?_⟩
  conv=>whnf
  have hin:InR ((i:Int) + 1):=by unfold InR;omega
  cases hcon:m.contains x with
  | false=>
   repeat refine ⟨rfl,?_⟩
   conv=>whnf
   exact ⟨⟨_,rfl,prt_bad (k:=i) fun h=>by have:=(h x hx).1;simp [this] at hcon⟩,rfl⟩
  | true=>
   have hmem:x ∈ m:=by simpa using hcon
   repeat refine ⟨rfl,?_⟩
   conv=>whnf
   apply gb_split<;>intro hc
   ·have hpos:0 < i:=by have:=of_decide_eq_true hc;omega
    obtain ⟨ad',y,hy,e,hsp',hs'⟩:=hl.at (i:=i - 1) (by omega)
    cases e
    repeat refine ⟨rfl,?_⟩
    refine ⟨by unfold InR;omega,?_⟩
    have e1:((i:Int) - 1) = ((i - 1:Nat):Int):=by omega
    rw [e1]
    refine ⟨ad,i - 1,⟨rfl,rfl,by omega⟩,?_⟩
    refine ⟨_,hs',?_⟩
    repeat refine ⟨rfl,?_⟩
    conv=>whnf
    apply cb_split<;>intro hc
    ·have hle:x ≤ y:=of_decide_eq_true hc
     repeat refine ⟨rfl,?_⟩
     conv=>whnf
     exact ⟨⟨_,rfl,prt_bad (k:=i) fun h=>by have:=(h x hx).2 (i - 1) y (by omega) hy;omega⟩,rfl⟩
    ·have hlt':y < x:=by have:=of_decide_eq_false hc;omega
     refine ⟨hin,?_⟩
     refine ⟨rfl,i + 1,⟨rfl,rfl,rfl,rfl,rfl,trivial⟩,⟨rfl,by omega,fun k hk=>?_⟩,by show _ - _ < _ - _;omega⟩
     rcases Nat.lt_succ_iff_lt_or_eq.1 hk with hk | rfl
     ·exact hinv k hk
     intro n hn
     rw [hx] at hn
     cases hn
     refine ⟨hmem,fun j p hj hp=>?_⟩
     obtain rfl:j = k - 1:=by omega
     rw [hy] at hp
     cases hp
     exact hlt'
   ·have hz:i = 0:=by have:=of_decide_eq_false hc;omega
    subst hz
    refine ⟨hin,?_⟩
    refine ⟨rfl,0 + 1,⟨rfl,rfl,rfl,rfl,rfl,trivial⟩,⟨rfl,by omega,fun k hk=>?_⟩,by show _ - _ < _ - _;omega⟩
    obtain rfl:k = 0:=by omega
    intro n hn
    rw [hx] at hn
    cases hn
    exact ⟨hmem,fun j p hj _=>by omega⟩
 ·have hge:len ≤ i:=by simpa using hc
  repeat refine ⟨rfl,?_⟩
  conv=>whnf
  exact ⟨⟨_,rfl,prt_all fun k hk=>hinv k (by omega)⟩,rfl⟩
theorem Tryz.shares_ok (b:Nat) (q p:Int × Int) (hb:Blk σ b #[.int .i64 q.1,.int .i64 q.2]) :
  CallsV S 105 #[pairA p,.pointer (some ⟨b,0,none⟩)] (fun v σ'=>v = .bool (shares q p) ∧ σ' = σ) σ:=by
 refine CallsV.pure' (CallsV.of (args:=[_,_]) Tryz.k105 Tryz.mixed (by simp) ?_)
 repeat refine ⟨rfl,?_⟩
 conv=>whnf
 intro b2 σ₁ hle hb2
 have hb2:Blk σ₁ b2 #[.int .i64 p.1,.int .i64 p.2]:=hb2
 have hb:=hb.le hle
 refine ⟨_,hb2.sees3 (o:=0) rfl,?_⟩
 refine ⟨_,hb.sees3 (o:=0) rfl,?_⟩
 repeat refine ⟨rfl,?_⟩
 conv=>whnf
 apply gb_split<;>intro hc
 ·have hne:(p.1 == q.1) = false:=by simpa using hc
  refine ⟨_,hb2.sees3 (o:=1) rfl,?_⟩
  refine ⟨_,hb.sees3 (o:=1) rfl,?_⟩
  repeat refine ⟨rfl,?_⟩
  conv=>whnf
  exact ⟨by unfold shares;rw [hne];rfl,hle.lg⟩
 ·have he:(p.1 == q.1) = true:=by simpa using hc
  repeat refine ⟨rfl,?_⟩
  conv=>whnf
  exact ⟨by unfold shares;rw [he];rfl,hle.lg⟩
theorem Tryz.idxF_ok (a:Option Addr) (len cap:Nat) (l:List (Int × Int)) (hl:PairsV σ a len l) (hlen:len < 2 ^ 60) (g:FuncId) (first capt:Array Value) (p:Int × Int → Bool)
  (hf:Asks S σ g first capt pairA l p):CallsV S 135 #[.slice a len cap,.func (.func g) first capt] (fun v σ'=>v = .int .i64 (idxV p l) ∧ σ' = σ) σ:=by
 refine CallsV.of (args:=[_,_]) Tryz.k135 Tryz.mixed (by simp) ?_
 have hll:=hl.1
 repeat refine ⟨rfl,?_⟩
 refine ⟨Nat,fun i=>[(0,.slice a len cap),(1,.func (.func g) first capt),(6,.slice a len cap),(7,.int .i64 len),(8,.int .i64 i)],
  fun i σ'=>σ' = σ ∧ i ≤ len ∧ ∀ x ∈ l.take i,p x = false,fun i=>len - i,0,⟨rfl,rfl,rfl,rfl,rfl,trivial⟩,⟨rfl,by omega,by simp⟩,?_⟩
 rintro i f _ ⟨rfl,hi,hinv⟩
 repeat refine ⟨rfl,?_⟩
 conv=>whnf
 apply cb_split<;>intro hc
 ·have hlt:i < len:=by simpa using hc
  obtain ⟨ad,x,vs,hx,hpa,hsp,rfl,-,hrd⟩:=RowsV.at hl hlt
  have hcall:=hf.2 x (List.mem_of_getElem? hx)
  refine ⟨ad,i,⟨hpa,rfl,hlt⟩,?_⟩
  refine ⟨_,⟨rfl,hrd⟩,?_⟩
  refine ⟨hf.1,hcall.go fun _=>?_⟩
  repeat refine ⟨rfl,?_⟩
  conv=>whnf
  apply cb_split<;>intro hc
  ·repeat refine ⟨rfl,?_⟩
   conv=>whnf
   exact ⟨by rw [idxV_some hx hc hinv],rfl⟩
  ·refine ⟨by unfold InR;omega,?_⟩
   refine ⟨rfl,i + 1,⟨rfl,rfl,rfl,rfl,rfl,trivial⟩,⟨rfl,by omega,?_⟩,by show _ - _ < _ - _;omega⟩
   intro y hy
   rw [take_at hx,List.mem_append] at hy
   rcases hy with hy | hy
   ·exact hinv y hy
   ·simp at hy;subst hy;exact hc
 ·have hge:len ≤ i:=by simpa using hc
  repeat refine ⟨rfl,?_⟩
  refine ⟨?_,rfl⟩
  rw [List.take_of_length_le (by omega)] at hinv
  rw [idxV_none hinv]
theorem Tryz.containsF_ok (a:Option Addr) (len cap:Nat) (l:List (Int × Int)) (hl:PairsV σ a len l) (hlen:len < 2 ^ 60) (g:FuncId) (first capt:Array Value) (p:Int × Int → Bool)
  (hf:Asks S σ g first capt pairA l p):CallsV S 104 #[.slice a len cap,.func (.func g) first capt] (fun v σ'=>v = .bool (l.any p) ∧ σ' = σ) σ:=by
 refine CallsV.of (args:=[_,_]) Tryz.k104 Tryz.mixed (by simp) ?_
 refine ⟨Tryz.k135.any,(Tryz.idxF_ok a len cap l hl hlen g first capt p hf).go fun _=>?_⟩
 repeat refine ⟨rfl,?_⟩
 refine ⟨?_,rfl⟩
 show Value.bool _ = _
 rw [idxV_ge]
theorem Tryz.idxQ_ok (a:Option Addr) (len cap:Nat) (l:List (Int × Int)) (hl₀:PairsV σ a len l) (hlen:len < 2 ^ 60) (p:Int × Int) :
  CallsV S 136 #[.slice a len cap,pairA p] (fun v σ'=>v = .int .i64 (idxV (fun x=>p == x) l) ∧ σ' = σ) σ:=by
 refine CallsV.pure' (CallsV.of (args:=[_,_]) Tryz.k136 Tryz.mixed (by simp) ?_)
 have hll:=hl₀.1
 repeat refine ⟨rfl,?_⟩
 conv=>whnf
 intro b3 σ₁ h₁ hb
 have hb:Blk σ₁ b3 #[.int .i64 p.1,.int .i64 p.2]:=hb
 have hl:=PairsV.lg hl₀ h₁.lg
 repeat refine ⟨rfl,?_⟩
 refine ⟨Nat,fun i=>[(0,.slice a len cap),(3,.pointer (some ⟨b3,0,none⟩)),(6,.slice a len cap),(7,.int .i64 len),(8,.int .i64 i)],
  fun i σ'=>σ.le σ' ∧ Blk σ' b3 #[.int .i64 p.1,.int .i64 p.2] ∧ i ≤ len ∧ ∀ x ∈ l.take i,(p == x) = false,fun i=>len - i,0,⟨rfl,rfl,rfl,rfl,rfl,trivial⟩,⟨h₁,hb,by omega,by simp⟩,?_⟩
 clear hl hb h₁
 rintro i f σ₁ ⟨h₁,hb,hi,hinv⟩
 have hl:=PairsV.lg hl₀ h₁.lg
 repeat refine ⟨rfl,?_⟩
 conv=>whnf
 apply cb_split<;>intro hc
 ·have hlt:i < len:=by simpa using hc
  obtain ⟨ad,x,vs,hx,hpa,hsp,rfl,-,hrd⟩:=RowsV.at hl hlt
  refine ⟨_,⟨rfl,hb.reads (vs:=encII p) (fun k v hv=>by simpa [encII] using hv)⟩,?_⟩
  refine ⟨ad,i,⟨hpa,rfl,hlt⟩,?_⟩
  refine ⟨_,⟨rfl,hrd⟩,?_⟩
  conv=>whnf
  intro σ₂ h₂ hC
  conv=>whnf
  refine raw_eqS Tryz.s80 (vs:=encII p) (ws:=encII x) rfl rfl (by kernel_rfl) (by kernel_rfl) ?_
  rw [eqv_pair]
  repeat refine ⟨rfl,?_⟩
  conv=>whnf
  apply cb_split<;>intro hc
  ·repeat refine ⟨rfl,?_⟩
   conv=>whnf
   exact ⟨by rw [idxV_some (p:=fun x=>p == x) hx hc hinv],(h₁.trans h₂).lg⟩
  ·refine ⟨by unfold InR;omega,?_⟩
   refine ⟨rfl,i + 1,⟨rfl,rfl,rfl,rfl,rfl,trivial⟩,⟨h₁.trans h₂,hb.le h₂,by omega,?_⟩,by show _ - _ < _ - _;omega⟩
   intro y hy
   rw [take_at hx,List.mem_append] at hy
   rcases hy with hy | hy
   ·exact hinv y hy
   ·simp at hy;subst hy;exact hc
 ·have hge:len ≤ i:=by simpa using hc
  repeat refine ⟨rfl,?_⟩
  refine ⟨?_,h₁.lg⟩
  rw [List.take_of_length_le (by omega)] at hinv
  rw [idxV_none hinv]
theorem Tryz.containsP_ok (a:Option Addr) (len cap:Nat) (l:List (Int × Int)) (hl:PairsV σ a len l) (hlen:len < 2 ^ 60) (p:Int × Int) :
  CallsV S 106 #[.slice a len cap,pairA p] (fun v σ'=>v = .bool (l.contains p) ∧ σ' = σ) σ:=by
 refine CallsV.pure' (CallsV.of (args:=[_,_]) Tryz.k106 Tryz.mixed (by simp) ?_)
 repeat refine ⟨rfl,?_⟩
 conv=>whnf
 intro b3 σ₁ h₁ hb
 have hb:Blk σ₁ b3 #[.int .i64 p.1,.int .i64 p.2]:=hb
 refine ⟨_,⟨rfl,hb.reads (vs:=encII p) (fun k v hv=>by simpa [encII] using hv)⟩,?_⟩
 refine ⟨Tryz.k136.any,(Tryz.idxQ_ok a len cap l (PairsV.lg hl h₁.lg) hlen p).go fun _=>?_⟩
 repeat refine ⟨rfl,?_⟩
 refine ⟨?_,h₁.lg⟩
 show Value.bool _ = _
 rw [idxV_ge]
 congr 1
 rw [Bool.eq_iff_iff]
 simp
end Go.Proofs
namespace Go.TM
def Tbl.Prov (t:Tbl) (tk:Talk) (x y:List Int) (ps:List (Int × Int)):Prop:=
 Prt x tk.a ∧ Prt y tk.b ∧ ps.length = x.length + y.length ∧ (∀ p,p ∈ t.prs tk → p.1 ∈ x ∨ p.2 ∈ y) ∧ Solo (t.prs tk) ps
theorem bool_no {P:Prop} (h:¬ P):false = true ↔ P:=⟨fun h=>(Bool.false_ne_true h).elim,fun g=>(h g).elim⟩
end Go.TM
namespace Go.TM
variable {T:Type} {σ:View T}
theorem pairs_take {a:Option Addr} {len i:Nat} {l:List (Int × Int)} (h:PairsV σ a len l) (hi:i ≤ len):PairsV σ a i (l.take i):=
 ⟨by rw [List.length_take,h.1];omega,fun j x hx=>h.2 j x (by rw [List.getElem?_take] at hx;split at hx;exact hx;cases hx)⟩
end Go.TM
namespace Go.Proofs
open Go.TM
set_option maxRecDepth 100000
variable {T:Type} {S:TM.Sys Tryz.prog T} {σ:View T}
attribute [local irreducible] CallsV YieldV rngX
theorem Tryz.allPairs_ok (h:TH) (t:Tbl) (ht:TabV σ.frz h t) (k:KH) (tk:Talk) (ha:Ints σ.frz k.aa k.al tk.a) (hb:Ints σ.frz k.ba k.bl tk.b) (hal:k.al ≤ 8) (hbl:k.bl ≤ 8) (b3 b4 b5:Nat)
  (hb3:Blk σ.frz b3 (KH.cs h k tk).toArray) (hb4:Blk σ.frz b4 #[.slice none 0 0]) (hb5:Blk σ.frz b5 #[.slice none 0 0]) :
  CallsV S 91 #[.func (.func 129) #[] #[.pointer (some ⟨b3,0,none⟩),.pointer (some ⟨b4,0,none⟩),.pointer (some ⟨b5,0,none⟩)]] (fun v σ'=>PairsN σ'.frz v (t.prs tk) ∧ σ.le σ') σ:=by
 refine (Tryz.talkPairs_ok h t ht k tk ha hb hal hbl b3 b4 b5 none 0 0 [] ⟨rfl,by simp⟩ (by omega) hb3 hb4 hb5).sep fun v σ' hs ⟨ha,hI,ht⟩=>?_
 obtain ⟨σ'',k1,k2,k3⟩:=ha.pairsN hs hI ht
 exact ⟨σ'',k1,k3,k2⟩
set_option maxHeartbeats 4000000 in
theorem Tryz.proves_ok (h:TH) (t:Tbl) (ht:TabV σ.frz h t) (e lv:Int) (a a' xa ya pa:Option Addr) (len cap len' cap' xl xc yl yc pl pc:Nat) (l l' x y:List Int) (ps:List (Int × Int))
  (hl:Ints σ.frz a len l) (hl':Ints σ.frz a' len' l') (hlen:len < 2 ^ 60) (hlen':len' < 2 ^ 60) (hx:Ints σ.frz xa xl x) (hxl:xl < 2 ^ 60) (hy:Ints σ.frz ya yl y) (hyl:yl < 2 ^ 60) (hp:PairsV σ.frz pa pl ps) (hpl:pl < 2 ^ 60) (hpc:pl ≤ pc) :
  CallsV S 60 #[h.v,.int .i64 e,.slice a len cap,.slice a' len' cap',.int .i64 lv,.slice xa xl xc,.slice ya yl yc,.slice pa pl pc]
   (fun v σ'=>(∃ B:Bool,v = .tuple #[.bool B,.int .i64 (t.talkF e l l' lv)] ∧ (B = true ↔ t.talkF e l l' lv = 0 ∧ t.Prov ⟨e,lv,l,l'⟩ x y ps)) ∧ σ' = σ) σ:=by
 refine CallsV.pure' (Q:=fun v=>∃ B:Bool,v = .tuple #[.bool B,.int .i64 (t.talkF e l l' lv)] ∧ (B = true ↔ t.talkF e l l' lv = 0 ∧ t.Prov ⟨e,lv,l,l'⟩ x y ps)) (CallsV.of (args:=[_,_,_,_,_,_,_,_]) Tryz.k60 Tryz.mixed (by simp) ?_)
 have hll:=hl.1
 have hll':=hl'.1
 have hxx:=hx.1
 have hyy:=hy.1
 have hpp:=hp.1
 repeat refine ⟨rfl,?_⟩
 conv=>whnf
 intro b8 σ₁ h₁ hb
 conv=>whnf
 intro b16 hf16
 refine ⟨_,.refl _,?_⟩
 conv=>whnf
 intro b17 hf17
 refine ⟨_,.refl _,?_⟩
 have hM₁:((σ₁.put b16 (.cells #[.bool false] 4)).put b17 (.cells #[.int .i64 0] 32)).M = .obj b17 (.cells #[.int .i64 0] 32 (0,0)) :: .obj b16 (.cells #[.bool false] 4 (0,0)) :: σ.M:=by show _ :: _ :: σ₁.M = _;rw [h₁.own]
 have hl₁:σ.frz.lg ((σ₁.put b16 (.cells #[.bool false] 4)).put b17 (.cells #[.int .i64 0] 32)):=(frz_self.trans h₁.lg).trans ((lg_put _ _).trans (lg_put _ _))
 have hb:Blk ((σ₁.put b16 (.cells #[.bool false] 4)).put b17 (.cells #[.int .i64 0] 32)) b8 #[.slice h.ea h.el h.ec,.slice h.ma h.ml h.mc,.slice h.ka h.kl h.kc]:=hb
 generalize ((σ₁.put b16 (.cells #[.bool false] 4)).put b17 (.cells #[.int .i64 0] 32)) = σ₂ at hM₁ hl₁ hb ⊢
 refine ⟨_,⟨rfl,hb.rdT fun _ _ h=>h⟩,?_⟩
 refine ⟨Tryz.k90.any,(Tryz.talk_ok h t (ht.lg hl₁) e lv a a' len cap len' cap' l l' (hl.lg hl₁) (hl'.lg hl₁) hlen hlen').go fun _=>?_⟩
 conv=>whnf
 intro b18 hf18
 refine ⟨_,.refl _,?_⟩
 refine ⟨rfl,st_new (vs:=KH.cs h ⟨a,len,cap,a',len',cap'⟩ ⟨e,lv,l,l'⟩) hf18 rfl (by simp [KH.cs,Value.single]) fun σ₃ h₃ hb18=>?_⟩
 have hM₃:=h₃.own.trans hM₁
 have hl₃:=frz_le hl₁ h₃
 clear hM₁ hl₁ hb hf16 hf17 hf18 h₃
 repeat refine ⟨rfl,?_⟩
 conv=>whnf
 apply cb_split<;>intro hc
 ·have hf:t.talkF e l l' lv ≠ 0:=by simpa using hc
  refine ⟨rfl,?_⟩
  show StV ⟨b16,0,none⟩ [.bool false] 0 _ _
  refine st_all [_] hM₃ rfl (by simp [Value.single]) ?_
  refine ⟨rfl,?_⟩
  show StV ⟨b17,0,none⟩ [.int .i64 (t.talkF e l l' lv)] 0 _ _
  refine st_all [] rfl rfl (by simp [Value.single]) ?_
  refine ⟨.bool false,reads_at [_] rfl 0 _ rfl,?_⟩
  refine ⟨.int .i64 (t.talkF e l l' lv),reads_at [] rfl 0 _ rfl,?_⟩
  conv=>whnf
  exact ⟨⟨_,rfl,bool_no fun h=>hf h.1⟩,⟨hl₃.imm,⟨[_,_],rfl⟩,hl₃.tok⟩⟩
 have hf:t.talkF e l l' lv = 0:=by simpa using hc
 obtain ⟨hfl,hed,hc1,hc2,hlv⟩:=Tbl.talk_two hf
 have l8:l.length ≤ 8:=chk_len8 hfl hc1
 have l8':l'.length ≤ 8:=chk_len8 hfl hc2
 have hn:=Tbl.prs_len t ⟨e,lv,l,l'⟩
 have hn64:l.length * l'.length ≤ 8 * 8:=Nat.mul_le_mul l8 l8'
 have hn:(t.prs ⟨e,lv,l,l'⟩).length ≤ 64:=Nat.le_trans hn hn64
 refine ⟨Tryz.k103.any,(Tryz.isPart_ok xa a xl xc len cap x l (hx.lg hl₃) hxl (hl.lg hl₃) hlen).mono ?_⟩
 rintro _ σ' ⟨⟨B1,rfl,hB1⟩,hσ'⟩ -
 obtain rfl:=hσ'.symm
 cases B1 with
 | false=>
  refine ⟨rfl,?_⟩
  show StV ⟨b16,0,none⟩ [.bool false] 0 _ _
  refine st_all [_] hM₃ rfl (by simp [Value.single]) ?_
  refine ⟨rfl,?_⟩
  show StV ⟨b17,0,none⟩ [.int .i64 0] 0 _ _
  refine st_all [] rfl rfl (by simp [Value.single]) ?_
  refine ⟨.bool false,reads_at [_] rfl 0 _ rfl,?_⟩
  refine ⟨.int .i64 0,reads_at [] rfl 0 _ rfl,?_⟩
  conv=>whnf
  rw [hf]
  exact ⟨⟨_,rfl,bool_no fun h=>Bool.false_ne_true (hB1.2 h.2.1)⟩,⟨hl₃.imm,⟨[_,_],rfl⟩,hl₃.tok⟩⟩
 | true=>
 have hB1:=hB1.1 rfl
 refine ⟨Tryz.k103.any,(Tryz.isPart_ok ya a' yl yc len' cap' y l' (hy.lg hl₃) hyl (hl'.lg hl₃) hlen').mono ?_⟩
 rintro _ σ' ⟨⟨B2,rfl,hB2⟩,hσ'⟩ -
 obtain rfl:=hσ'.symm
 cases B2 with
 | false=>
  refine ⟨rfl,?_⟩
  show StV ⟨b16,0,none⟩ [.bool false] 0 _ _
  refine st_all [_] hM₃ rfl (by simp [Value.single]) ?_
  refine ⟨rfl,?_⟩
  show StV ⟨b17,0,none⟩ [.int .i64 0] 0 _ _
  refine st_all [] rfl rfl (by simp [Value.single]) ?_
  refine ⟨.bool false,reads_at [_] rfl 0 _ rfl,?_⟩
  refine ⟨.int .i64 0,reads_at [] rfl 0 _ rfl,?_⟩
  conv=>whnf
  rw [hf]
  exact ⟨⟨_,rfl,bool_no fun h=>Bool.false_ne_true (hB2.2 h.2.2.1)⟩,⟨hl₃.imm,⟨[_,_],rfl⟩,hl₃.tok⟩⟩
 | true=>
 have hB2:=hB2.1 rfl
 refine ⟨by unfold InR;omega,?_⟩
 repeat refine ⟨rfl,?_⟩
 conv=>whnf
 apply cb_split<;>intro hc
 ·have hne:ps.length ≠ x.length + y.length:=by
   have h1:(pl:Int) ≠ (xl:Int) + (yl:Int):=by simpa using hc
   omega
  refine ⟨rfl,?_⟩
  show StV ⟨b16,0,none⟩ [.bool false] 0 _ _
  refine st_all [_] hM₃ rfl (by simp [Value.single]) ?_
  refine ⟨rfl,?_⟩
  show StV ⟨b17,0,none⟩ [.int .i64 0] 0 _ _
  refine st_all [] rfl rfl (by simp [Value.single]) ?_
  refine ⟨.bool false,reads_at [_] rfl 0 _ rfl,?_⟩
  refine ⟨.int .i64 0,reads_at [] rfl 0 _ rfl,?_⟩
  conv=>whnf
  rw [hf]
  exact ⟨⟨_,rfl,bool_no fun h=>hne h.2.2.2.1⟩,⟨hl₃.imm,⟨[_,_],rfl⟩,hl₃.tok⟩⟩
 have hlenE:ps.length = x.length + y.length:=by
  have h1:(pl:Int) = (xl:Int) + (yl:Int):=by simpa using hc
  omega
 refine ⟨KH.cs h ⟨a,len,cap,a',len',cap'⟩ ⟨e,lv,l,l'⟩,⟨rfl,Blk.rdI hb18 (fun _ _ h=>h)⟩,?_⟩
 refine ⟨Tryz.k92.any,(Tryz.pairs_ok h ⟨a,len,cap,a',len',cap'⟩ ⟨e,lv,l,l'⟩ xa ya xl xc yl yc).mono ?_⟩
 rintro _ σ₄ ⟨⟨p3,p4,p5,rfl,hp3,hp4,hp5⟩,h₄⟩ -
 have hM₄:=h₄.own.trans hM₃
 have hl₄:=frz_le hl₃ h₄
 have hb18:=hb18.le h₄
 clear hM₃ hl₃ h₄
 have hit:∀ l₀ σ₁,σ₄.frz.lg σ₁ → IterV S 129 #[.func (.yield l₀) #[] #[],.pointer (some ⟨p3,0,none⟩),.pointer (some ⟨p4,0,none⟩),.pointer (some ⟨p5,0,none⟩)] l₀ ((t.reach ⟨e,lv,l,l'⟩ x y).map encA) σ₁:=fun l₀ σ₁ hl₁=>by
  have hg:=hl₁.frz2
  have hq:=hl₄.frz2.trans hg
  exact Tryz.pairsIt_ok h t (ht.lg hq) ⟨a,len,cap,a',len',cap'⟩ ⟨e,lv,l,l'⟩ (hl.lg hq) (hl'.lg hq) xa ya xl xc yl yc x y (hx.lg hq) (hy.lg hq) hlen hlen' hxl hyl p3 p4 p5 l₀ (hp3.imI hl₁.imm) (hp4.imI hl₁.imm) (hp5.imI hl₁.imm)
 have hcov:t.reach ⟨e,lv,l,l'⟩ x y = [] ↔ ∀ p,p ∈ t.prs ⟨e,lv,l,l'⟩ → p.1 ∈ x ∨ p.2 ∈ y:=by
  rw [List.eq_nil_iff_forall_not_mem]
  constructor
  ·intro hno p hp
   obtain ⟨m1,m2,m3⟩:=Tbl.mem_prs.1 hp
   by_cases c1:p.1 ∈ x
   ·exact .inl c1
   by_cases c2:p.2 ∈ y
   ·exact .inr c2
   exact absurd (Tbl.mem_reach.2 ⟨m1,m2,c1,c2,m3⟩) (hno p)
  ·intro hall p hp
   obtain ⟨m1,m2,c1,c2,m3⟩:=Tbl.mem_reach.1 hp
   rcases hall p (Tbl.mem_prs.2 ⟨m1,m2,m3⟩) with h | h
   ·exact c1 h
   ·exact c2 h
 generalize hR:t.reach ⟨e,lv,l,l'⟩ x y = R at hit hcov
 conv=>whnf
 let Inv:Nat → View T → Prop:=fun k σ'=>k = 0 ∧ σ₄.frz.lg σ' ∧ σ'.M = .obj b17 (.cells #[.int .i64 0] 32 (0,0)) :: .obj b16 (.cells #[.bool false] 4 (0,0)) :: σ.M
 let Rt:View T → Prop:=fun σ'=>R ≠ [] ∧ σ₄.frz.lg σ' ∧ σ'.M = .obj b17 (.cells #[.int .i64 0] 32 (0,0)) :: .obj b16 (.cells #[.bool false] 4 (0,0)) :: σ.M
 refine rngX_iter Tryz.mixed (R.map encA) Inv (fun _ _=>False) Rt rfl rfl Tryz.k129.any hit ?_ ⟨?_,?_⟩ ?_ ?_ ?_ ?_ ?_
 ·intro p hp
  obtain ⟨q,_,rfl⟩:=List.mem_map.1 hp
  rfl
 ·rintro k σ' σ'' hle ⟨h0,hl,hM⟩
  exact ⟨h0,frz_le hl hle,hle.own.trans hM⟩
 ·rintro k σ' ⟨_,hl,_⟩
  exact hl
 ·exact ⟨rfl,frz_self,hM₄⟩
 ·intro l₀ A B D k p σ₀ KN KX KR KA hp ⟨h0,hl,hM⟩ hKN hKX hKR hKA
  have hne:R ≠ []:=by rintro rfl;simp at hp
  obtain ⟨q,hq,rfl⟩:∃ q,R[k]? = some q ∧ p = encA q:=by
   rw [List.getElem?_map] at hp
   cases hq:R[k]? with
   | none=>rw [hq] at hp;cases hp
   | some q=>rw [hq] at hp;cases hp;exact ⟨q,rfl,rfl⟩
  conv=>whnf
  refine hKA _ σ₀ ?_
  refine ⟨rfl,?_⟩
  show StV ⟨b16,0,none⟩ [.bool false] 0 _ _
  refine st_all [B,D,_] (by show B :: D :: σ₀.M = _;rw [hM];rfl) rfl (by simp [Value.single]) ?_
  refine ⟨rfl,?_⟩
  show StV ⟨b17,0,none⟩ [.int .i64 0] 0 _ _
  refine st_all [B,D] rfl rfl (by simp [Value.single]) ?_
  conv=>whnf
  exact hKR _ _ ({ σ₀ with M:=.obj b17 (.cells #[.int .i64 0] 32 (0,0)) :: .obj b16 (.cells #[.bool false] 4 (0,0)) :: σ.M }:View T) ⟨hne,⟨hl.imm,⟨_,(List.append_nil _).symm⟩,hl.tok⟩,rfl⟩
 rotate_left
 ·rintro d l₀ A i σ₃ hX
  exact hX.elim
 ·rintro d l₀ A σ₃ ⟨hne,hl₅,hM₅⟩
  have hM₆:(σ₃.on (.obj l₀ A) (.obj d (.deferred (some [])))).M = [.obj l₀ A,.obj d (.deferred (some [])),.obj b17 (.cells #[.int .i64 0] 32 (0,0))] ++ .obj b16 (.cells #[.bool false] 4 (0,0)) :: σ.M:=by show _ :: _ :: σ₃.M = _;rw [hM₅];rfl
  have hM₇:(σ₃.on (.obj l₀ A) (.obj d (.deferred (some [])))).M = [.obj l₀ A,.obj d (.deferred (some []))] ++ .obj b17 (.cells #[.int .i64 0] 32 (0,0)) :: .obj b16 (.cells #[.bool false] 4 (0,0)) :: σ.M:=by show _ :: _ :: σ₃.M = _;rw [hM₅];rfl
  have hI₅:σ.lg (σ₃.on (.obj l₀ A) (.obj d (.deferred (some [])))):=⟨fun b o h=>hl₅.imm b o (hl₄.imm b o h),⟨_,hM₆.trans (by rw [List.append_cons])⟩,hl₅.tok.trans hl₄.tok⟩
  generalize (σ₃.on (.obj l₀ A) (.obj d (.deferred (some [])))) = σ₅ at hM₆ hM₇ hI₅ ⊢
  refine ⟨.obj l₀ A :: .obj d (.deferred none) :: .obj b17 (.cells #[.int .i64 0] 32 (0,0)) :: .obj b16 (.cells #[.bool false] 4 (0,0)) :: σ.M,by rw [hM₇];exact .there .here,?_⟩
  refine ⟨.bool false,reads_at [_,_,_] rfl 0 _ rfl,?_⟩
  refine ⟨.int .i64 0,reads_at [_,_] rfl 0 _ rfl,?_⟩
  conv=>whnf
  rw [hf]
  exact ⟨⟨_,rfl,bool_no fun h=>hne (hcov.2 h.2.2.2.2.1)⟩,⟨hI₅.imm,⟨[_,_,_,_],rfl⟩,hI₅.tok⟩⟩
 ·rintro d l₀ A σ₃ ⟨h0,hl₅,hM₅⟩
  have hRn:R = []:=by rw [List.length_map] at h0;exact List.length_eq_zero_iff.1 h0
  have hcov:=hcov.1 hRn
  have hM₆:(σ₃.on (.obj l₀ A) (.obj d (.deferred (some [])))).M = [.obj l₀ A,.obj d (.deferred (some [])),.obj b17 (.cells #[.int .i64 0] 32 (0,0))] ++ .obj b16 (.cells #[.bool false] 4 (0,0)) :: σ.M:=by show _ :: _ :: σ₃.M = _;rw [hM₅];rfl
  have hI₅:σ.frz.lg (σ₃.on (.obj l₀ A) (.obj d (.deferred (some [])))):=⟨fun b o h=>hl₅.imm b o (hl₄.imm b o h),⟨_,(List.append_nil _).symm⟩,hl₅.tok.trans hl₄.tok⟩
  have hb18:=hb18.imI (σ':=(σ₃.on (.obj l₀ A) (.obj d (.deferred (some []))))) hl₅.imm
  generalize (σ₃.on (.obj l₀ A) (.obj d (.deferred (some [])))) = σ₅ at hM₆ hI₅ hb18 ⊢
  clear hl₅ hM₅ hit hl₄ hM₄ h0 hR hRn
  refine ⟨KH.cs h ⟨a,len,cap,a',len',cap'⟩ ⟨e,lv,l,l'⟩,⟨rfl,Blk.rdI hb18 (fun _ _ h=>h)⟩,?_⟩
  refine ⟨Tryz.k92.any,(Tryz.pairs_ok h ⟨a,len,cap,a',len',cap'⟩ ⟨e,lv,l,l'⟩ none none 0 0 0 0).mono ?_⟩
  rintro _ σ₆ ⟨⟨q3,q4,q5,rfl,hq3,hq4,hq5⟩,h₆⟩ -
  have hf₆:=(hI₅.trans h₆.lg).frz2
  refine ⟨Tryz.k91.any,(Tryz.allPairs_ok h t (ht.lg hf₆) ⟨a,len,cap,a',len',cap'⟩ ⟨e,lv,l,l'⟩ (hl.lg hf₆) (hl'.lg hf₆) (by show len ≤ 8;omega) (by show len' ≤ 8;omega) q3 q4 q5 hq3 hq4 hq5).mono ?_⟩
  rintro _ σ₇ ⟨⟨ra,rc,rfl,hrc,hr⟩,h₇⟩ -
  have hM₇:=h₇.own.trans (h₆.own.trans hM₆)
  have hl₇:=frz_le (frz_le hI₅ h₆) h₇
  have hr:PairsV σ₇.frz ra _ (t.prs ⟨e,lv,l,l'⟩):=hr
  have hp:=PairsV.lg hp hl₇.frz2
  clear hM₆ hI₅ h₆ hq3 hq4 hq5 hf₆ h₇ hb18
  have hsolo:∀ B:Bool,(B = true ↔ Solo (t.prs ⟨e,lv,l,l'⟩) ps) → (B = true ↔ (0:Int) = 0 ∧ t.Prov ⟨e,lv,l,l'⟩ x y ps):=fun B hB=>by
   rw [hB]
   exact ⟨fun h=>⟨rfl,hB1,hB2,hlenE,hcov,h⟩,fun h=>h.2.2.2.2.2⟩
  generalize t.prs ⟨e,lv,l,l'⟩ = L at hr hn hsolo
  repeat refine ⟨rfl,?_⟩
  refine ⟨Nat,fun i=>[(7,.slice pa pl pc),(16,.pointer (some ⟨b16,0,none⟩)),(17,.pointer (some ⟨b17,0,none⟩)),(20,.slice ra L.length rc),(64,.slice pa pl pc),(65,.int .i64 pl),(66,.int .i64 i)],
   fun i σ'=>σ.frz.lg σ' ∧ σ₇.frz.lg σ' ∧ σ'.M = [.obj l₀ A,.obj d (.deferred (some [])),.obj b17 (.cells #[.int .i64 0] 32 (0,0))] ++ .obj b16 (.cells #[.bool false] 4 (0,0)) :: σ.M ∧ i ≤ pl ∧ ∀ k,k < i → SoloAt L ps k,
   fun i=>pl - i,0,⟨rfl,rfl,rfl,rfl,rfl,rfl,rfl,trivial⟩,⟨hl₇,frz_self,hM₇,by omega,by simp⟩,?_⟩
  clear hM₇
  rintro i f σ₈ ⟨hl₈,hl₇₈,hM₈,hi,hinv⟩
  have hp₈:=PairsV.lg hp hl₇₈
  have hr₈:=PairsV.lg hr hl₇₈
  repeat refine ⟨rfl,?_⟩
  conv=>whnf
  apply cb_split<;>intro hc
  ·have hlt:i < pl:=by simpa using hc
   obtain ⟨ad,p,vs,hpx,hpa,hsp,rfl,-,hrd⟩:=RowsV.at hp₈ hlt
   have hin:InR ((i:Int) + 1):=by unfold InR;omega
   refine ⟨ad,i,⟨hpa,rfl,hlt⟩,?_⟩
   refine ⟨_,⟨rfl,hrd⟩,?_⟩
   conv=>whnf
   intro b22 hf22
   refine ⟨_,.refl _,?_⟩
   refine ⟨rfl,st_new (vs:=encII p) hf22 rfl (by simp [encII,Value.single]) fun σ₉ h₉ hb22=>?_⟩
   have hb22:Blk σ₉ b22 #[.int .i64 p.1,.int .i64 p.2]:=hb22
   have hl₉:=frz_le hl₈ h₉
   have hl₇₉:=frz_le hl₇₈ h₉
   have hM₉:=h₉.own.trans hM₈
   have hp₉:=PairsV.lg hp hl₇₉
   have hr₉:=PairsV.lg hr hl₇₉
   repeat refine ⟨rfl,?_⟩
   refine ⟨0,i,⟨rfl,rfl,Nat.zero_le _,by omega⟩,?_⟩
   have epa:(if pc = 0 then pa else pa.map (·.add (0 * 2))) = pa:=by
    by_cases h0:pc = 0
    ·rw [if_pos h0]
    ·rw [if_neg h0,hpa];simp [Addr.add,hsp]
   rw [epa,Nat.sub_zero,Nat.sub_zero]
   refine ⟨Tryz.k104.any,(Tryz.containsF_ok pa i pc (ps.take i) (pairs_take hp₉ (by omega)) (by omega) 105 #[] #[.pointer (some ⟨b22,0,none⟩)] (shares p) ⟨Tryz.k105.any,fun r _=>Tryz.shares_ok b22 p r hb22⟩).go fun _=>?_⟩
   cases hsh:(ps.take i).any (shares p) with
   | true=>
    have hbad:¬ SoloAt L ps i:=fun h=>by
     obtain ⟨q,hq,hqs⟩:=List.any_eq_true.1 hsh
     obtain ⟨j,hj,hjq⟩:=List.mem_take_iff_getElem.1 hq
     have h2:=(h p hpx).2 j q (by omega) (by rw [← hjq];simp)
     unfold shares at hqs
     simp only [Bool.or_eq_true,beq_iff_eq] at hqs
     rcases hqs with e | e
     ·exact h2.1 e
     ·exact h2.2 e
    refine ⟨rfl,?_⟩
    show StV ⟨b16,0,none⟩ [.bool false] 0 _ _
    refine st_all [_,_,_] hM₉ rfl (by simp [Value.single]) ?_
    refine ⟨rfl,?_⟩
    show StV ⟨b17,0,none⟩ [.int .i64 0] 0 _ _
    refine st_all [_,_] rfl rfl (by simp [Value.single]) ?_
    refine ⟨_,.there .here,?_⟩
    refine ⟨.bool false,reads_at [_,_,_] rfl 0 _ rfl,?_⟩
    refine ⟨.int .i64 0,reads_at [_,_] rfl 0 _ rfl,?_⟩
    conv=>whnf
    rw [hf]
    exact ⟨⟨_,rfl,hsolo _ (solo_bad hbad)⟩,⟨hl₉.imm,⟨[_,_,_,_],rfl⟩,hl₉.tok⟩⟩
   | false=>
    refine ⟨_,⟨rfl,hb22.reads (vs:=encII p) (fun k v hv=>by simpa [encII] using hv)⟩,?_⟩
    refine ⟨Tryz.k106.any,(Tryz.containsP_ok ra L.length rc L hr₉ (by omega) p).go fun _=>?_⟩
    cases hcp:L.contains p with
    | false=>
     have hbad:¬ SoloAt L ps i:=fun h=>by
      rw [List.contains_iff_mem.2 (h p hpx).1] at hcp
      cases hcp
     refine ⟨rfl,?_⟩
     show StV ⟨b16,0,none⟩ [.bool false] 0 _ _
     refine st_all [_,_,_] hM₉ rfl (by simp [Value.single]) ?_
     refine ⟨rfl,?_⟩
     show StV ⟨b17,0,none⟩ [.int .i64 0] 0 _ _
     refine st_all [_,_] rfl rfl (by simp [Value.single]) ?_
     refine ⟨_,.there .here,?_⟩
     refine ⟨.bool false,reads_at [_,_,_] rfl 0 _ rfl,?_⟩
     refine ⟨.int .i64 0,reads_at [_,_] rfl 0 _ rfl,?_⟩
     conv=>whnf
     rw [hf]
     exact ⟨⟨_,rfl,hsolo _ (solo_bad hbad)⟩,⟨hl₉.imm,⟨[_,_,_,_],rfl⟩,hl₉.tok⟩⟩
    | true=>
     have hgood:SoloAt L ps i:=fun p' hp'=>by
      rw [hpx] at hp'
      cases hp'
      refine ⟨List.contains_iff_mem.1 hcp,fun j q hj hq=>?_⟩
      have hm:q ∈ ps.take i:=List.mem_take_iff_getElem.2 ⟨j,by have:=(List.getElem?_eq_some_iff.1 hq).1;omega,(List.getElem?_eq_some_iff.1 hq).2⟩
      have hns:shares p q = false:=by
       cases hs:shares p q with
       | false=>rfl
       | true=>rw [List.any_eq_true.2 ⟨q,hm,hs⟩] at hsh;cases hsh
      unfold shares at hns
      simpa using hns
     refine ⟨hin,?_⟩
     refine ⟨rfl,i + 1,⟨rfl,rfl,rfl,rfl,rfl,rfl,rfl,trivial⟩,⟨hl₉,hl₇₉,hM₉,by omega,fun k hk=>?_⟩,by show _ - _ < _ - _;omega⟩
     rcases Nat.lt_succ_iff_lt_or_eq.1 hk with hk | rfl
     ·exact hinv k hk
     ·exact hgood
  ·have hge:pl ≤ i:=by simpa using hc
   refine ⟨rfl,?_⟩
   show StV ⟨b16,0,none⟩ [.bool true] 0 _ _
   refine st_all [_,_,_] hM₈ rfl (by simp [Value.single]) ?_
   refine ⟨rfl,?_⟩
   show StV ⟨b17,0,none⟩ [.int .i64 0] 0 _ _
   refine st_all [_,_] rfl rfl (by simp [Value.single]) ?_
   refine ⟨_,.there .here,?_⟩
   refine ⟨.bool true,reads_at [_,_,_] rfl 0 _ rfl,?_⟩
   refine ⟨.int .i64 0,reads_at [_,_] rfl 0 _ rfl,?_⟩
   conv=>whnf
   rw [hf]
   exact ⟨⟨_,rfl,hsolo _ (solo_all fun k hk=>hinv k (by omega))⟩,⟨hl₈.imm,⟨[_,_,_,_],rfl⟩,hl₈.tok⟩⟩
end Go.Proofs
namespace Go.TM
theorem prt_of_sub {l m:List Int} (hm:Asc m) (h:l.Sublist m):Prt l m:=fun k n hn=>by
 refine ⟨h.subset (List.mem_of_getElem? hn),fun j p hj hp=>?_⟩
 have hl:l.Pairwise (· < ·):=List.Pairwise.sublist h hm
 rw [List.pairwise_iff_getElem] at hl
 obtain ⟨i1,e1⟩:=List.getElem?_eq_some_iff.1 hn
 obtain ⟨i2,e2⟩:=List.getElem?_eq_some_iff.1 hp
 rw [← e1,← e2]
 exact hl j k i2 i1 (by omega)
theorem solo_of {all L:List (Int × Int)} (h1:∀ p,p ∈ L → p ∈ all) (h2:L.Pairwise Apart):Solo all L:=fun k p hp=>by
 refine ⟨h1 p (List.mem_of_getElem? hp),fun j q hj hq=>?_⟩
 rw [List.pairwise_iff_getElem] at h2
 obtain ⟨i1,e1⟩:=List.getElem?_eq_some_iff.1 hp
 obtain ⟨i2,e2⟩:=List.getElem?_eq_some_iff.1 hq
 have:=h2 j k i2 i1 hj
 rw [e1,e2] at this
 obtain ⟨k1,k2⟩:=this
 exact ⟨by omega,k2⟩
theorem solo_match {all L:List (Int × Int)} (h:Solo all L):IsMatch L all:=by
 refine ⟨fun p hp=>?_,?_,?_⟩
 ·obtain ⟨k,hk⟩:=List.getElem?_of_mem hp
  exact (h k p hk).1
 ·rw [List.Nodup,List.pairwise_map,List.pairwise_iff_getElem]
  intro i j hi hj hij
  exact ((h j _ (List.getElem?_eq_getElem hj)).2 i _ hij (List.getElem?_eq_getElem hi)).1
 ·rw [List.Nodup,List.pairwise_map,List.pairwise_iff_getElem]
  intro i j hi hj hij
  exact ((h j _ (List.getElem?_eq_getElem hj)).2 i _ hij (List.getElem?_eq_getElem hi)).2
section
variable {t:Tbl} {tk:Talk} (ha:Asc tk.a) (hb:Asc tk.b)
include ha
theorem Tbl.prov_len {x y:List Int} {ps:List (Int × Int)} (h:t.Prov tk x y ps):x.length + y.length = t.mostT tk:=by
 obtain ⟨_,_,h3,h4,h5⟩:=h
 have k1:=Tbl.most_cover (t:=t) ha (x:=x) (y:=y) h4
 have k2:ps.length ≤ t.mostT tk:=match_le_most (Tbl.prs_a (t:=t) ha).1 (Tbl.prs_a (t:=t) ha).2 (solo_match h5)
 omega
include hb
theorem Tbl.prov_iff {x y:List Int} {L:List (Int × Int)} (hx:x.Sublist tk.a) (hy:y.Sublist tk.b) (hL:proofL tk.a (t.mostT tk) (t.prs tk) = some L):t.Prov tk x y L ↔ IsCover x y (t.prs tk) ∧ x.length + y.length = t.mostT tk:=by
 obtain ⟨k1,k2,k3⟩:=proofL_apart (Tbl.prs_sorted ha) hL
 constructor
 ·rintro h
  exact ⟨h.2.2.2.1,Tbl.prov_len ha h⟩
 ·rintro ⟨h1,h2⟩
  exact ⟨prt_of_sub ha hx,prt_of_sub hb hy,by omega,h1,solo_of k2 k3⟩
end
end Go.TM
namespace Go.Proofs
open Go.TM
set_option maxRecDepth 100000
variable {T:Type} {S:TM.Sys Tryz.prog T} {σ:View T}
attribute [local irreducible] CallsV YieldV rngX
theorem Tryz.prvL_ok (h:TH) (t:Tbl) (ht:TabV σ.frz h t) (hf:t.flaw = 0) (e lv:Int) (hed:t.isEd e = true) {a a' xa ya pa:Option Addr} {cap cap' xc yc pl pc:Nat} {l l' x y:List Int} {ps:List (Int × Int)} (hl:Ints σ.frz a l.length l) (hL:t.Lst e l) (hl':Ints σ.frz a' l'.length l') (hL':t.Lst e l') (h1:1 ≤ lv) (h5:lv ≤ 5)
  (hx:Ints σ.frz xa x.length x) (hxl:x.length ≤ 8) (hy:Ints σ.frz ya y.length y) (hyl:y.length ≤ 8) (hp:PairsV σ.frz pa pl ps) (hpl:pl < 2 ^ 60) (hpc:pl ≤ pc) :
  CallsV S 60 #[h.v,.int .i64 e,.slice a l.length cap,.slice a' l'.length cap',.int .i64 lv,.slice xa x.length xc,.slice ya y.length yc,.slice pa pl pc]
   (fun v σ'=>(∃ B:Bool,v = .tuple #[.bool B,.int .i64 0] ∧ (B = true ↔ t.Prov ⟨e,lv,l,l'⟩ x y ps)) ∧ σ' = σ) σ:=by
 have hT:=Tbl.talk_of hf hed hL hL' h1 h5
 have n1:=hL.len hf
 have n2:=hL'.len hf
 have k:=Tryz.proves_ok (S:=S) h t ht e lv a a' xa ya pa l.length cap l'.length cap' x.length xc y.length yc pl pc l l' x y ps hl hl' (by omega) (by omega) hx (by omega) hy (by omega) hp hpl hpc
 rw [hT] at k
 refine k.mono ?_
 rintro v σ' ⟨⟨B,rfl,hB⟩,hσ⟩
 exact ⟨⟨B,rfl,hB.trans ⟨fun h=>h.2,fun h=>⟨rfl,h⟩⟩⟩,hσ⟩
end Go.Proofs
