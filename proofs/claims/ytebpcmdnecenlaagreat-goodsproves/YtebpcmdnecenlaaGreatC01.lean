/- A part of the proof: lemmas that the last text uses. No conditions of its own. -/
import Derived.Test.YtebpcmdnecenlaaGreatE27
import Derived.Test.YtebpcmdnecenlaaGreatE26
import Derived.Test.YtebpcmdnecenlaaGreatE24
import Derived.Test.YtebpcmdnecenlaaGreatE23
import Derived.Test.YtebpcmdnecenlaaGreatE25
import Derived.Test.YtebpcmdnecenlaaGreatE06
import Derived.Test.YtebpcmdnecenlaaGreatE08
import Derived.Test.YtebpcmdnecenlaaGreatE09
import Derived.Test.YtebpcmdnecenlaaGreatE10
import Derived.Test.YtebpcmdnecenlaaGreatC00
set_option linter.unusedSimpArgs false
set_option linter.unusedVariables false
namespace Go.Proofs
open Go.TM
set_option maxRecDepth 100000
variable {T:Type} {S:TM.Sys Tryz.prog T} {σ:View T}
attribute [local irreducible] CallsV YieldV rngX
end Go.Proofs
namespace Go.TM
end Go.TM
namespace Go.TM
variable {T:Type} {P:Program} {S:Sys P T} {σ:View T}
end Go.TM
namespace Go.Proofs
open Go.TM
set_option maxRecDepth 100000
variable {T:Type} {S:TM.Sys Tryz.prog T} {σ:View T}
attribute [local irreducible] CallsV YieldV rngX
end Go.Proofs
namespace Go.TM
end Go.TM
namespace Go.Proofs
open Go.TM
set_option maxRecDepth 100000
variable {T:Type} {S:TM.Sys Tryz.prog T} {σ:View T}
attribute [local irreducible] CallsV YieldV rngX
end Go.Proofs
namespace Go.TM
variable {T:Type} {σ:View T}
end Go.TM
namespace Go.Proofs
open Go.TM
set_option maxRecDepth 100000
variable {T:Type} {S:TM.Sys Tryz.prog T} {σ:View T}
attribute [local irreducible] CallsV YieldV rngX
end Go.Proofs
namespace Go.TM
variable {T:Type} {P:Program} {S:Sys P T} {σ:View T}
end Go.TM
namespace Go.Proofs
open Go.TM
set_option maxRecDepth 100000
variable {T:Type} {S:TM.Sys Tryz.prog T} {σ:View T}
attribute [local irreducible] CallsV YieldV rngX
end Go.Proofs
namespace Go.TM
structure Tbl.Lst (t:Tbl) (e:Int) (l:List Int):Prop where
 asc:Asc l
 its:∀ x ∈ l,t.isItem e x = true
theorem Tbl.chk_of {t:Tbl} {e:Int}:∀ {l:List Int} {p:Option Int},(∀ m,p = some m → ∀ x ∈ l,m < x) → Asc l → (∀ x ∈ l,t.isItem e x = true) → t.chk e p l = 0
 | [],_,_,_,_=>rfl
 | a :: l,p,hp,ha,hi=>by
  have ha':=List.pairwise_cons.1 ha
  have ih:t.chk e (some a) l = 0:=Tbl.chk_of (fun m e x hx=>by cases e;exact ha'.1 x hx) ha'.2 fun x hx=>hi x (List.mem_cons_of_mem _ hx)
  rw [Tbl.chk_cons,if_pos (hi a (List.mem_cons_self ..))]
  cases p with
  | none=>exact ih
  | some m=>
   have:=hp m rfl a (List.mem_cons_self ..)
   show (if a ≤ m then (7:Int) else _) = 0
   rw [if_neg (by omega)];exact ih
theorem Tbl.Lst.chk {t:Tbl} {e:Int} {l:List Int} (h:t.Lst e l):t.chk e none l = 0:=Tbl.chk_of (fun m e=>by cases e) h.asc h.its
theorem Tbl.Lst.len {t:Tbl} {e:Int} {l:List Int} (hf:t.flaw = 0) (h:t.Lst e l):l.length ≤ 8:=by
 rcases chk_len hf h.chk (by simp) with rfl | h
 ·simp
 ·exact h
section
variable {t:Tbl}
section
variable {x y:Int} (hf:t.flaw = 0) (hx:t.isEd x = true) (hy:t.isEd y = true) {l:List Int} (h:t.Lst x l)
include hf hx hy h
end
end
end Go.TM
namespace Go.TM
variable {T:Type} {P:Program} {S:Sys P T} {σ:View T}
theorem Tbl.open_pr {t:Tbl} {e:Int} {a b:List Int}:t.openF e [a,b] = if t.openF e [a] = 0 then t.chk e none b else t.openF e [a]:=by
 unfold Tbl.openF
 by_cases hf:t.flaw = 0
 ·simp only [hf,if_true]
  by_cases he:t.isEd e = true
  ·simp only [he,if_true]
   unfold Tbl.chkAll
   by_cases ha:t.chk e none a = 0
   ·simp only [ha,if_true,Tbl.chkAll]
    by_cases hb:t.chk e none b = 0
    ·simp [hb]
    ·simp [hb]
   ·simp [ha]
  ·simp [he]
 ·simp [hf]
end Go.TM
namespace Go.Proofs
open Go.TM
set_option maxRecDepth 100000
variable {T:Type} {S:TM.Sys Tryz.prog T} {σ:View T}
attribute [local irreducible] CallsV YieldV rngX
theorem Tryz.long2_ok (a:Option Addr) (len cap:Nat) (ls:List (List Int)) (hl:ListsV σ a len ls) (hlen:len < 2 ^ 60) :
  CallsV S 25 #[.slice a len cap] (fun v σ'=>(∃ B:Bool,v = .bool B ∧ (B = false → ∀ l ∈ ls,l.length ≤ 20)) ∧ σ' = σ) σ:=by
 refine CallsV.of (args:=[_]) Tryz.k25 Tryz.mixed (by simp) ?_
 (conv=>whnf)
 refine ⟨Nat,fun i=>[(0,.slice a len cap),(3,.int .i64 i)],fun i σ'=>σ' = σ ∧ i ≤ len ∧ ∀ l ∈ ls.take i,l.length ≤ 20,fun i=>len - i,0,⟨rfl,rfl,trivial⟩,⟨rfl,by omega,by simp⟩,?_⟩
 rintro i f _ ⟨rfl,hi,hall⟩
 (conv=>whnf);(repeat (refine ⟨rfl,?_⟩;conv=>whnf))
 refine cb_split (fun hc=>?_) (fun hc=>?_)
 ·have hlt:i < len:=by simpa using hc
  obtain ⟨ad,x,vs,hx,rfl,hsp,⟨a',len',cap',rfl,hli,-⟩,-,hrd⟩:=RowsV.at hl hlt
  (conv=>whnf)
  refine ⟨ad,i,⟨rfl,rfl,hlt⟩,?_⟩
  (conv=>whnf)
  refine ⟨_,hrd 0 _ rfl,?_⟩
  (conv=>whnf);(repeat (refine ⟨rfl,?_⟩;conv=>whnf))
  refine cb_split (fun hc=>?_) (fun hc=>?_)
  ·(conv=>whnf)
   exact ⟨⟨true,rfl,fun h=>by cases h⟩,rfl⟩
  ·have hle:len' ≤ 20:=by simp at hc;omega
   (conv=>whnf)
   refine ⟨by unfold InR;omega,?_⟩
   (conv=>whnf)
   refine ⟨rfl,i + 1,⟨rfl,rfl,trivial⟩,⟨rfl,by omega,fun l hl'=>?_⟩,by show _ - _ < _ - _;omega⟩
   rw [take_at hx] at hl'
   rcases List.mem_append.1 hl' with h | h
   ·exact hall l h
   ·rw [List.mem_singleton.1 h,hli.1];exact hle
 ·have hge:len ≤ i:=by simpa using hc
  (conv=>whnf)
  exact ⟨⟨false,rfl,fun _=>by rwa [List.take_of_length_le (by rw [hl.1];exact hge)] at hall⟩,rfl⟩
end Go.Proofs
namespace Go.TM
end Go.TM
namespace Go.TM
end Go.TM
namespace Go.Proofs
open Go.TM
set_option maxRecDepth 100000
variable {T:Type} {S:TM.Sys Tryz.prog T} {σ:View T}
attribute [local irreducible] CallsV YieldV rngX
end Go.Proofs
namespace Go.TM
end Go.TM
namespace Go.Proofs
open Go.TM
set_option maxRecDepth 100000
variable {T:Type} {S:TM.Sys Tryz.prog T} {σ:View T}
attribute [local irreducible] CallsV YieldV rngX
end Go.Proofs
namespace Go.TM
theorem View.le.frz2 {T:Type} {σ σ':View T} (h:σ.le σ'):σ.frz.lg σ'.frz:=⟨h.imm,⟨[],rfl⟩,h.tok⟩
theorem View.le.frz1 {T:Type} {σ σ':View T} (h:σ.le σ'):σ.frz.lg σ':=frz_self.trans h.lg
def LstV {T:Type} (σ:View T) (v:Value) (l:List Int):Prop:=∃ a c,v = .slice a l.length c ∧ Ints σ.frz a l.length l
end Go.TM
namespace Go.Proofs
open Go.TM
set_option maxRecDepth 100000
variable {T:Type} {S:TM.Sys Tryz.prog T} {σ:View T}
attribute [local irreducible] CallsV YieldV rngX
section
variable (h:TH) (t:Tbl) (ht:TabV σ.frz h t) (hf:t.flaw = 0)
include ht hf
end
section
variable {a a':Option Addr} {cap cap':Nat} {l m:List Int} (hl:Ints σ.frz a l.length l) (hm:Ints σ.frz a' m.length m) (h1:l.length ≤ 1000) (h2:m.length ≤ 1000)
include hl hm h1 h2
end
end Go.Proofs
namespace Go.TM
section
variable {T:Type} {σ σ':View T}
theorem LstV.at {a:Option Addr} {n c:Nat} {l:List Int} (h:LstV σ (.slice a n c) l):Ints σ.frz a l.length l:=by
 obtain ⟨_,_,e,h⟩:=h
 cases e;exact h
def MovV (σ:View T) (v:Value) (l m:List Int):Prop:=∃ v1 v2,v = .tuple #[v1,v2,.int .i64 0] ∧ LstV σ v1 l ∧ LstV σ v2 m
theorem MovV.at {a a':Option Addr} {n c n' c':Nat} {x:Value} {l m:List Int} (h:MovV σ (.tuple #[.slice a n c,.slice a' n' c',x]) l m):Ints σ.frz a l.length l ∧ Ints σ.frz a' m.length m:=by
 obtain ⟨v1,v2,e,h1,h2⟩:=h
 simp at e
 obtain ⟨rfl,rfl,-⟩:=e
 exact ⟨h1.at,h2.at⟩
def OneV (σ:View T) (v:Value) (l:List Int):Prop:=∃ v1,v = .tuple #[v1,.int .i64 0] ∧ LstV σ v1 l
theorem OneV.at {a:Option Addr} {n c:Nat} {x:Value} {l:List Int} (h:OneV σ (.tuple #[.slice a n c,x]) l):Ints σ.frz a l.length l:=by
 obtain ⟨v1,e,h1⟩:=h
 simp at e
 obtain ⟨rfl,-⟩:=e
 exact h1.at
end
theorem CutsV.one {T:Type} {σ:View T} {b:Nat} {a:Option Addr} {cap:Nat} {l:List Int} {keep:Bool} (hb:Blk σ b #[.slice a l.length cap,.bool keep]) (h:Ints σ a l.length l) (k:l.length < 2 ^ 60):CutsV σ (some ⟨b,0,none⟩) 1 [⟨l,keep⟩]:=by
 refine ⟨rfl,fun i x hx=>?_⟩
 obtain rfl:i = 0:=by have:=(List.getElem?_eq_some_iff.1 hx).1;simp at this;omega
 cases hx
 refine ⟨_,_,rfl,rfl,⟨a,l.length,cap,rfl,h,k⟩,rfl,fun i v hv=>?_⟩
 match i,hv with
 | 0,hv=>simp at hv;subst hv;rw [Nat.zero_mul,add_none,add_none];exact hb.sees rfl
 | 1,hv=>simp at hv;subst hv;rw [Nat.zero_mul,add_none,add_none];exact hb.sees rfl
 | i + 2,hv=>simp at hv
end Go.TM
namespace Go.Proofs
open Go.TM
set_option maxRecDepth 100000
variable {T:Type} {S:TM.Sys Tryz.prog T} {σ:View T}
attribute [local irreducible] CallsV YieldV rngX
end Go.Proofs
namespace Go.TM
variable {T:Type} {P:Program} {S:Sys P T} {σ:View T}
def U16s (σ:View T) (a:Option Addr) (len:Nat) (l:List Nat):Prop:=RowsV σ a len 1 l fun n vs=>vs = [.int .u16 (n:Int)] ∧ n < 65536
theorem U16s.lg {σ':View T} {a:Option Addr} {len:Nat} {l:List Nat} (h:U16s σ a len l) (hl:σ.lg σ'):U16s σ' a len l:=RowsV.lg h hl fun _ _ h=>h
structure RC where
 a:Option Addr
 cap:Nat
 c:GCut
end Go.TM
namespace Go.Proofs
open Go.TM
set_option maxRecDepth 100000
variable {T:Type} {S:TM.Sys Tryz.prog T} {σ:View T}
attribute [local irreducible] CallsV YieldV rngX
end Go.Proofs
namespace Go.TM
variable {T:Type} {σ:View T}
end Go.TM
namespace Go.TM
open Go.Proofs
section
variable {t:Tbl} {e:Int} {xs ys:List Int}
end
section
variable {t:Tbl} (hf:t.flaw = 0) {x y:Int} (hx:t.isEd x = true) (hy:t.isEd y = true) {a b:List Int} (ha:t.Lst x a) (hb:t.Lst y b)
include hf hx hy ha hb
end
end Go.TM
namespace Go.TM
theorem Tbl.mem_reach {t:Tbl} {tk:Talk} {x y:List Int} {p:Int × Int}:p ∈ t.reach tk x y ↔ p.1 ∈ tk.a ∧ p.2 ∈ tk.b ∧ p.1 ∉ x ∧ p.2 ∉ y ∧ tk.lv ≤ t.lev tk.ed p.1 p.2:=by
 have hok:∀ one two,t.okP tk x y one two = true ↔ one ∉ x ∧ two ∉ y ∧ tk.lv ≤ t.lev tk.ed one two:=fun one two=>by
  unfold Tbl.okP
  rw [Bool.not_eq_true',Bool.or_eq_false_iff,Bool.or_eq_false_iff,decide_eq_false_iff_not]
  constructor
  ·rintro ⟨⟨h1,h2⟩,h3⟩;exact ⟨by simpa using h1,by simpa using h2,by omega⟩
  ·rintro ⟨h1,h2,h3⟩;exact ⟨⟨by simpa using h1,by simpa using h2⟩,by omega⟩
 unfold Tbl.reach Tbl.reachRow
 rw [List.mem_flatMap]
 constructor
 ·rintro ⟨one,h1,h2⟩
  obtain ⟨two,h3,rfl⟩:=List.mem_map.1 h2
  obtain ⟨h3,h4⟩:=List.mem_filter.1 h3
  exact ⟨h1,h3,(hok _ _).1 h4⟩
 ·rintro ⟨h1,h2,h3⟩
  exact ⟨p.1,h1,List.mem_map.2 ⟨p.2,List.mem_filter.2 ⟨h2,(hok _ _).2 h3⟩,rfl⟩⟩
def Tbl.prs (t:Tbl) (tk:Talk):List (Int × Int):=t.reach tk [] []
theorem Tbl.mem_prs {t:Tbl} {tk:Talk} {p:Int × Int}:p ∈ t.prs tk ↔ p.1 ∈ tk.a ∧ p.2 ∈ tk.b ∧ tk.lv ≤ t.lev tk.ed p.1 p.2:=by
 unfold Tbl.prs;rw [Tbl.mem_reach];simp
structure Tbl.Best (t:Tbl) (tk:Talk) (l r:List Int):Prop where
 sub:l.Sublist tk.a
 left:r = t.leftF tk l
 len:l.length + r.length = t.mostT tk
 least:∀ l':List Int,l'.Sublist tk.a → l'.length + (t.leftF tk l').length = t.mostT tk → ¬ cmpL l' l < 0
section
variable {t:Tbl} {tk:Talk} (ha:Asc tk.a) (hb:Asc tk.b)
include ha
include hb
end
end Go.TM
namespace Go.TM
section
variable {t:Tbl} {e:Int}
end
def Tbl.row (t:Tbl) (k:Talk) (x:Int) (l:List Int):List (Int × Int):=(l.filter fun y=>decide (k.lv ≤ t.lev k.ed x y)).map fun y=>(x,y)
theorem Tbl.prs_eq (t:Tbl) (k:Talk):t.prs k = k.a.flatMap fun x=>t.row k x k.b:=by
 unfold Tbl.prs Tbl.reach
 congr 1
 funext x
 unfold Tbl.reachRow Tbl.row
 congr 1
 refine List.filter_congr fun y _=>?_
 unfold Tbl.okP
 rw [Bool.eq_iff_iff]
 simp
theorem Tbl.row_take {t:Tbl} {k:Talk} {x y:Int} {l:List Int} {i:Nat} (h:l[i]? = some y):t.row k x (l.take (i + 1)) = t.row k x (l.take i) ++ (if decide (k.lv ≤ t.lev k.ed x y) = true then [(x,y)] else []):=by
 unfold Tbl.row
 rw [take_at h,List.filter_append,List.map_append,List.filter_cons,List.filter_nil]
 congr 1
 split <;> rfl
theorem Tbl.row_len (t:Tbl) (k:Talk) (x:Int) (l:List Int):(t.row k x l).length ≤ l.length:=by
 unfold Tbl.row
 rw [List.length_map];exact List.length_filter_le ..
theorem flat_len {α β:Type} {f:α → List β} {m:Nat}:∀ {l:List α},(∀ x,x ∈ l → (f x).length ≤ m) → (l.flatMap f).length ≤ l.length * m
 | [],_=>by simp
 | x :: l,h=>by
  rw [List.flatMap_cons,List.length_append,List.length_cons,Nat.succ_mul]
  have h1:=h x (List.mem_cons_self ..)
  have h2:=flat_len (l:=l) fun y hy=>h y (List.mem_cons_of_mem _ hy)
  omega
theorem Tbl.prs_len (t:Tbl) (k:Talk):(t.prs k).length ≤ k.a.length * k.b.length:=by
 rw [Tbl.prs_eq]
 exact flat_len fun x _=>t.row_len k x k.b
end Go.TM
namespace Go.TM
open Go.Proofs
theorem Tbl.talkF_eq {t:Tbl} {e lv:Int} {a b:List Int}:t.talkF e a b lv = if t.openF e [a] = 0 then (if t.chk e none b = 0 then (if btw lv 1 5 = true then 0 else 1) else t.chk e none b) else t.openF e [a]:=by
 unfold Tbl.talkF
 rw [Tbl.open_pr]
 by_cases h1:t.openF e [a] = 0
 ·simp only [h1,if_true]
 ·simp only [h1,if_false]
end Go.TM
namespace Go.Proofs
open Go.TM
set_option maxRecDepth 100000
variable {T:Type} {S:TM.Sys Tryz.prog T} {σ:View T}
attribute [local irreducible] CallsV YieldV rngX
theorem Tryz.refLevel_ok (h:TH) (t:Tbl) (ht:TabV σ h t) (e x y:Int):CallsV S 127 #[h.v,.int .i64 e,.int .i64 x,.int .i64 y] (fun v σ'=>v = .int .i64 (t.lev e x y) ∧ σ' = σ) σ:=by
 refine CallsV.pure' (CallsV.of (args:=[_,_,_,_]) Tryz.k127 Tryz.mixed (by simp) ?_)
 have hkl:=ht.kns.1
 have hkl2:=ht.kl
 (conv=>whnf);(repeat (refine ⟨rfl,?_⟩;conv=>whnf))
 intro b σ₁ h₁ hb
 have hb:Blk σ₁ b #[.slice h.ea h.el h.ec,.slice h.ma h.ml h.mc,.slice h.ka h.kl h.kc]:=hb
 (conv=>whnf);(repeat (refine ⟨rfl,?_⟩;conv=>whnf))
 refine cb_split (fun hc=>?_) (fun hc=>?_)
 ·have hxy:x = y:=by simpa using hc
  (conv=>whnf);(repeat (refine ⟨rfl,?_⟩;conv=>whnf))
  exact ⟨by unfold Tbl.lev;rw [if_pos hxy],h₁.lg⟩
 have hxy:x ≠ y:=by simpa using hc
 have hlev:t.lev e x y = match t.kns.find? (kinIs e x y) with | some k=>k.lev | none=>0:=by unfold Tbl.lev;rw [if_neg hxy];rfl
 (conv=>whnf)
 refine ⟨Nat,fun i=>[(1,.int .i64 e),(2,.int .i64 x),(3,.int .i64 y),(4,.pointer (some ⟨b,0,none⟩)),(9,.int .i64 i)],fun i σ'=>σ₁.le σ' ∧ i ≤ h.kl ∧ t.kns.find? (kinIs e x y) = (t.kns.drop i).find? (kinIs e x y),fun i=>h.kl - i,0,⟨rfl,rfl,rfl,rfl,rfl,trivial⟩,⟨.refl _,Nat.zero_le _,by simp⟩,?_⟩
 rintro i f σ₂ ⟨h₂,hi,hno⟩
 have hb₂:=hb.le h₂
 have h₁₂:=h₁.trans h₂
 (conv=>whnf)
 refine ⟨_,hb₂.sees3 (o:=2) rfl,?_⟩
 (conv=>whnf);(repeat (refine ⟨rfl,?_⟩;conv=>whnf))
 refine cb_split (fun hc=>?_) (fun hc=>?_)
 ·have hlt:i < h.kl:=by simpa using hc
  obtain ⟨ad,k,vs,hx,hka,hsp,rfl,-,hrd⟩:=ht.kns.at hlt
  have hin:InR ((i:Int) + 1):=by unfold InR;omega
  rw [drop_at hx,List.find?_cons] at hno
  (conv=>whnf)
  refine ⟨_,hb₂.sees3 (o:=2) rfl,?_⟩
  (conv=>whnf)
  refine ⟨ad,i,⟨hka,rfl,hlt⟩,?_⟩
  (conv=>whnf)
  refine ⟨_,⟨rfl,hrd.lg h₁₂.lg⟩,?_⟩
  (conv=>whnf)
  intro b10 hf10
  refine ⟨_,.refl _,?_⟩
  (conv=>whnf)
  refine ⟨rfl,st_new (vs:=[.int .i64 k.ed,.int .i64 k.one,.int .i64 k.two,.int .i64 k.lev]) hf10 rfl (by simp [Value.single]) fun σ₃ h₃ hb₁₀=>?_⟩
  have hb₁₀:Blk σ₃ b10 #[.int .i64 k.ed,.int .i64 k.one,.int .i64 k.two,.int .i64 k.lev]:=hb₁₀
  have go:kinIs e x y k = false → t.kns.find? (kinIs e x y) = (t.kns.drop (i + 1)).find? (kinIs e x y):=fun hk=>by rw [hno,hk]
  have h₂₃:=h₂.trans h₃
  (conv=>whnf)
  refine ⟨_,hb₁₀.sees3 (o:=0) rfl,?_⟩
  (conv=>whnf);(repeat (refine ⟨rfl,?_⟩;conv=>whnf))
  refine gb_split (fun hc=>?_) (fun hc=>?_)
  ·have k1:(k.ed == e) = true:=hc
   (conv=>whnf)
   refine ⟨_,hb₁₀.sees3 (o:=1) rfl,?_⟩
   (conv=>whnf)
   refine raw_min rfl rfl ?_
   (conv=>whnf);(repeat (refine ⟨rfl,?_⟩;conv=>whnf))
   refine gb_split (fun hc=>?_) (fun hc=>?_)
   ·have k2:(k.one == min x y) = true:=hc
    (conv=>whnf)
    refine ⟨_,hb₁₀.sees3 (o:=2) rfl,?_⟩
    (conv=>whnf)
    refine raw_max rfl rfl ?_
    (conv=>whnf);(repeat (refine ⟨rfl,?_⟩;conv=>whnf))
    refine cb_split (fun hc=>?_) (fun hc=>?_)
    ·have k3:(k.two == max x y) = true:=hc
     have hk:kinIs e x y k = true:=by unfold kinIs;rw [k1,k2,k3];rfl
     (conv=>whnf)
     refine ⟨_,hb₁₀.sees3 (o:=3) rfl,?_⟩
     (conv=>whnf);(repeat (refine ⟨rfl,?_⟩;conv=>whnf))
     exact ⟨by rw [hlev,hno,hk],(h₁.trans h₂₃).lg⟩
    ·have k3:(k.two == max x y) = false:=hc
     have hk:kinIs e x y k = false:=by unfold kinIs;rw [k3,Bool.and_false,Bool.and_false]
     (conv=>whnf)
     refine ⟨hin,?_⟩
     (conv=>whnf)
     exact ⟨rfl,i + 1,⟨rfl,rfl,rfl,rfl,rfl,trivial⟩,⟨h₂₃,by omega,go hk⟩,by show _ - _ < _ - _;omega⟩
   ·have k2:(k.one == min x y) = false:=hc
    have hk:kinIs e x y k = false:=by unfold kinIs;rw [k2,Bool.false_and,Bool.and_false]
    (conv=>whnf)
    refine ⟨hin,?_⟩
    (conv=>whnf)
    exact ⟨rfl,i + 1,⟨rfl,rfl,rfl,rfl,rfl,trivial⟩,⟨h₂₃,by omega,go hk⟩,by show _ - _ < _ - _;omega⟩
  ·have k1:(k.ed == e) = false:=hc
   have hk:kinIs e x y k = false:=by unfold kinIs;rw [k1,Bool.false_and]
   (conv=>whnf)
   refine ⟨hin,?_⟩
   (conv=>whnf)
   exact ⟨rfl,i + 1,⟨rfl,rfl,rfl,rfl,rfl,trivial⟩,⟨h₂₃,by omega,go hk⟩,by show _ - _ < _ - _;omega⟩
 ·have hge:h.kl ≤ i:=by simpa using hc
  rw [List.drop_eq_nil_of_le (by omega)] at hno
  (conv=>whnf);(repeat (refine ⟨rfl,?_⟩;conv=>whnf))
  exact ⟨by rw [hlev,hno];rfl,h₁₂.lg⟩
theorem Tryz.asked_ok (h:TH) (t:Tbl) (ht:TabV σ h t) (e lv:Int) (a a':Option Addr) (len cap len' cap':Nat) (l l':List Int) (hl:Ints σ a len l) (hl':Ints σ a' len' l') (hlen:len < 2 ^ 60) (hlen':len' < 2 ^ 60) :
  CallsV S 93 #[h.v,.int .i64 e,.slice a len cap,.slice a' len' cap',.int .i64 lv] (fun v σ'=>v = .int .i64 (t.talkF e l l' lv) ∧ σ' = σ) σ:=by
 refine CallsV.pure' (CallsV.of (args:=[_,_,_,_,_]) Tryz.k93 Tryz.mixed (by simp) ?_)
 have hT:=t.talkF_eq (e:=e) (a:=l) (b:=l') (lv:=lv)
 (conv=>whnf);(repeat (refine ⟨rfl,?_⟩;conv=>whnf))
 intro b σ₁ h₁ hb
 have hb:Blk σ₁ b #[.slice h.ea h.el h.ec,.slice h.ma h.ml h.mc,.slice h.ka h.kl h.kc]:=hb
 have ht₁:=ht.lg h₁.lg
 (conv=>whnf)
 refine ⟨_,⟨rfl,hb.rdT fun _ _ h=>h⟩,?_⟩
 (conv=>whnf)
 refine ⟨Tryz.k32.any,(Tryz.refList_ok h t ht₁ e a len cap l (hl.lg h₁.lg) hlen).mono ?_⟩
 rintro _ σ' ⟨rfl,hσ'⟩ -
 obtain rfl:=hσ'.symm
 (conv=>whnf);(repeat (refine ⟨rfl,?_⟩;conv=>whnf))
 refine cb_split (fun hc=>?_) (fun hc=>?_)
 ·have hf:t.openF e [l] ≠ 0:=by simpa using hc
  rw [if_neg hf] at hT
  (conv=>whnf);(repeat (refine ⟨rfl,?_⟩;conv=>whnf))
  exact ⟨by rw [hT],h₁.lg⟩
 have hf:t.openF e [l] = 0:=by simpa using hc
 rw [if_pos hf] at hT
 obtain ⟨hfl,hed,hch⟩:=Tbl.open_one hf
 (conv=>whnf)
 refine ⟨_,⟨rfl,hb.rdT fun _ _ h=>h⟩,?_⟩
 (conv=>whnf)
 refine ⟨Tryz.k76.any,(Tryz.listFlaw_ok h t ht₁ e hed a' len' cap' l' (hl'.lg h₁.lg) hlen').mono ?_⟩
 rintro _ σ' ⟨rfl,hσ'⟩ -
 obtain rfl:=hσ'.symm
 (conv=>whnf);(repeat (refine ⟨rfl,?_⟩;conv=>whnf))
 refine cb_split (fun hc=>?_) (fun hc=>?_)
 ·have hf2:t.chk e none l' ≠ 0:=by simpa using hc
  rw [if_neg hf2] at hT
  (conv=>whnf);(repeat (refine ⟨rfl,?_⟩;conv=>whnf))
  exact ⟨by rw [hT],h₁.lg⟩
 have hf2:t.chk e none l' = 0:=by simpa using hc
 rw [if_pos hf2] at hT
 (conv=>whnf)
 refine ⟨Tryz.k71.any,(Tryz.in_ok _ lv 1 5).mono ?_⟩
 rintro _ σ' ⟨rfl,hσ'⟩ -
 obtain rfl:=hσ'.symm
 (conv=>whnf);(repeat (refine ⟨rfl,?_⟩;conv=>whnf))
 refine cb_split (fun hc=>?_) (fun hc=>?_)
 ·have hb5:btw lv 1 5 = false:=by simpa using hc
  rw [hb5] at hT
  (conv=>whnf);(repeat (refine ⟨rfl,?_⟩;conv=>whnf))
  exact ⟨by rw [hT];rfl,h₁.lg⟩
 ·have hb5:btw lv 1 5 = true:=by simpa using hc
  rw [hb5] at hT
  (conv=>whnf);(repeat (refine ⟨rfl,?_⟩;conv=>whnf))
  exact ⟨by rw [hT];rfl,h₁.lg⟩
end Go.Proofs
namespace Go.Proofs
open Go.TM
set_option maxRecDepth 100000
variable {T:Type} {S:TM.Sys Tryz.prog T} {σ:View T}
attribute [local irreducible] CallsV YieldV rngX
set_option maxHeartbeats 1000000 in
theorem Tryz.reach_ok (h:TH) (t:Tbl) (ht:TabV σ h t) (e lv:Int) (a a':Option Addr) (len cap len' cap':Nat) (l l':List Int) (hl:Ints σ a len l) (hl':Ints σ a' len' l') (hlen:len ≤ 100) (hlen':len' ≤ 100) :
  CallsV S 94 #[h.v,.int .i64 e,.slice a len cap,.slice a' len' cap',.int .i64 lv] (fun v σ'=>PairsN σ'.frz v (t.prs ⟨e,lv,l,l'⟩) ∧ σ.le σ') σ:=by
 refine CallsV.sep (R:=fun v σ'=>Acc 80 2 v ((t.prs ⟨e,lv,l,l'⟩).flatMap encII) σ'.M σ.M ∧ (∀ x o,σ.I x = some o → σ'.I x = some o) ∧ σ'.tok = σ.tok) (CallsV.of (args:=[_,_,_,_,_]) Tryz.k94 Tryz.mixed (by simp) ?_) ?_
 rotate_left
 ·rintro v σ' hs ⟨ha,hI,htk⟩
  obtain ⟨σ'',k1,k2,k3⟩:=ha.pairsN (σ:=σ) hs hI htk
  exact ⟨σ'',k1,k3,k2⟩
 have hll:=hl.1
 have hll':=hl'.1
 generalize htk:(⟨e,lv,l,l'⟩:Talk) = tk
 have hprs:=t.prs_eq tk
 (conv=>whnf);(repeat (refine ⟨rfl,?_⟩;conv=>whnf))
 intro b σ₁ h₁ hb
 have hb:Blk σ₁ b #[.slice h.ea h.el h.ec,.slice h.ma h.ml h.mc,.slice h.ka h.kl h.kc]:=hb
 (conv=>whnf)
 refine ⟨Nat × Value,fun y=>[(1,.int .i64 e),(2,.slice a len cap),(3,.slice a' len' cap'),(4,.int .i64 lv),(5,.pointer (some ⟨b,0,none⟩)),(11,y.2),(12,.int .i64 y.1)],
  fun y σ'=>σ₁.lg σ' ∧ Acc 80 2 y.2 (((l.take y.1).flatMap fun x=>t.row tk x l').flatMap encII) σ'.M σ₁.M ∧ y.1 ≤ len,fun y=>len - y.1,(0,.slice none 0 0),⟨rfl,rfl,rfl,rfl,rfl,rfl,rfl,trivial⟩,⟨(View.le.refl _).lg,.nil,Nat.zero_le _⟩,?_⟩
 rintro ⟨i,v⟩ f σ₂ ⟨hlg₂,ha,hi⟩
 simp only at ha hi
 have hn1:((l.take i).flatMap fun x=>t.row tk x l').length ≤ i * len':=by
  have:=flat_len (f:=fun x=>t.row tk x l') (m:=len') (l:=l.take i) fun x _=>by rw [← hll'];exact t.row_len tk x l'
  rw [List.length_take] at this
  exact Nat.le_trans this (Nat.mul_le_mul_right _ (Nat.min_le_left _ _))
 obtain ⟨sa,sl,sc,rfl,_⟩:=Acc.src (σ:=σ₂) ha
 (conv=>whnf);(repeat (refine ⟨rfl,?_⟩;conv=>whnf))
 refine cb_split (fun hc=>?_) (fun hc=>?_)
 ·have hlt:i < len:=by simpa using hc
  obtain ⟨ad,x,hx,rfl,hsp,hs⟩:=(hl.lg (h₁.lg.trans hlg₂)).at hlt
  have hin:InR ((i:Int) + 1):=by unfold InR;omega
  have hnext:((l.take (i + 1)).flatMap fun x=>t.row tk x l') = ((l.take i).flatMap fun x=>t.row tk x l') ++ t.row tk x l':=by rw [take_at hx,List.flatMap_append];simp
  have hcap1:i * len' ≤ 100 * 100:=Nat.mul_le_mul (by omega) (by omega)
  (conv=>whnf)
  refine ⟨Nat × Value,fun y=>[(1,.int .i64 e),(2,.slice (some ad) len cap),(3,.slice a' len' cap'),(4,.int .i64 lv),(5,.pointer (some ⟨b,0,none⟩)),(11,y.2),(12,.int .i64 i),(13,.int .i64 y.1)],
   fun y σ'=>(∀ x o,σ₂.I x = some o → σ'.I x = some o) ∧ σ'.tok = σ₂.tok ∧ Acc 80 2 y.2 ((((l.take i).flatMap fun x=>t.row tk x l') ++ t.row tk x (l'.take y.1)).flatMap encII) σ'.M σ₁.M ∧ y.1 ≤ len',fun y=>len' - y.1,(0,.slice sa sl sc),⟨rfl,rfl,rfl,rfl,rfl,rfl,rfl,rfl,trivial⟩,⟨fun _ _ h=>h,rfl,by simpa [Tbl.row] using ha,Nat.zero_le _⟩,?_⟩
  rintro ⟨k,v⟩ f σ₃ ⟨hI₃,ht₃,ha₃,hk⟩
  simp only at ha₃ hk
  have hn2:=t.row_len tk x (l'.take k)
  rw [List.length_take] at hn2
  obtain ⟨A₃,hA₃⟩:=ha₃.own
  have hlg₃:σ₁.lg σ₃:=⟨fun x o h=>hI₃ x o (hlg₂.imm x o h),⟨A₃,hA₃⟩,ht₃.trans hlg₂.tok⟩
  have hfz:σ.frz.lg σ₃:=(frz_self.trans h₁.lg).trans hlg₃
  have hl₃:=(hl.lg (h₁.lg.trans hlg₃)).2 i x hx
  obtain ⟨ad2,e2,-,hs₃⟩:=hl₃
  cases e2
  obtain ⟨ta,tl,tc,rfl,_⟩:=Acc.src (σ:=σ₃) ha₃
  (conv=>whnf);(repeat (refine ⟨rfl,?_⟩;conv=>whnf))
  refine cb_split (fun hc=>?_) (fun hc=>?_)
  ·have hkt:k < len':=by simpa using hc
   obtain ⟨ad',y,hy,rfl,hsp',hs'⟩:=(hl'.lg (h₁.lg.trans hlg₃)).at hkt
   have hkn:InR ((k:Int) + 1):=by unfold InR;omega
   have hrow:=Tbl.row_take (t:=t) (k:=tk) (x:=x) hy
   have htb:TabV σ₃ h t:=ht.lg (h₁.lg.trans hlg₃)
   (conv=>whnf)
   refine ⟨_,⟨rfl,(hb.lg hlg₃).rdT fun _ _ h=>h⟩,?_⟩
   (conv=>whnf)
   refine ⟨ad,i,⟨rfl,rfl,hlt⟩,?_⟩
   (conv=>whnf)
   refine ⟨_,hs₃,?_⟩
   (conv=>whnf)
   refine ⟨ad',k,⟨rfl,rfl,hkt⟩,?_⟩
   (conv=>whnf)
   refine ⟨_,hs',?_⟩
   (conv=>whnf)
   refine ⟨.int .i64 (t.lev e x y),fun σ' hle _=>?_,?_⟩
   ·(conv=>whnf)
    refine ⟨Tryz.k127.any,(Tryz.refLevel_ok h t (htb.lg hle.lg) e x y).mono ?_⟩
    rintro _ σ'' ⟨rfl,hσ⟩ -
    exact ⟨rfl,_,.refl _,hσ ▸ .refl _⟩
   (conv=>whnf)
   intro σ₄ h₄ _
   have hlg₄:=hlg₃.trans h₄.lg
   (conv=>whnf);(repeat (refine ⟨rfl,?_⟩;conv=>whnf))
   refine cb_split (fun hc=>?_) (fun hc=>?_)
   ·have hyes:decide (tk.lv ≤ t.lev tk.ed x y) = true:=by subst htk;exact hc
    rw [if_pos hyes] at hrow
    (conv=>whnf)
    refine ⟨ad,i,⟨rfl,rfl,hlt⟩,?_⟩
    (conv=>whnf)
    refine ⟨_,hs₃.lg h₄.lg,?_⟩
    (conv=>whnf)
    refine ⟨ad',k,⟨rfl,rfl,hkt⟩,?_⟩
    (conv=>whnf)
    refine ⟨_,hs'.lg h₄.lg,?_⟩
    (conv=>whnf)
    refine ⟨fun v σ'=>∃ bb,v = .slice (some ⟨bb,0,none⟩) 1 1 ∧ Blk σ' bb (encII (x,y)).toArray,fun v σ₁ σ₂ ⟨bb,e,hbb⟩ hle=>⟨bb,e,hbb.le hle⟩,fun σ' hle _=>?_,fun v hv=>?_⟩
    ·(conv=>whnf)
     intro b49 hf49
     exact put_new hf49 fun σ₅ h₅ hb₅=>⟨σ₅,.refl _,⟨b49,rfl,hb₅⟩,h₅⟩
    obtain ⟨_,-,-,b49,rfl,-⟩:=hv
    (conv=>whnf)
    intro σ₅ h₅ hC
    obtain ⟨-,_,e3,hbb⟩:=hC
    cases e3
    (conv=>whnf)
    refine raw_app (v:=.slice ta tl tc) (cs:=(((l.take i).flatMap fun x=>t.row tk x l') ++ t.row tk x (l'.take k)).flatMap encII) (new:=encII (x,y)) (M₀:=σ₁.M) Tryz.sl52 rfl rfl (by rw [h₅.own,h₄.own];exact ha₃) (.inr ⟨_,rfl,hbb.reads (fun k v hv=>by simpa using hv)⟩) rfl (by simp [encII,Value.single]) (by rw [encII_len,List.length_append];simp only [encII,List.length_cons,List.length_nil];omega) fun v' M' ha' _=>?_
    have ha'':Acc 80 2 v' ((((l.take i).flatMap fun x=>t.row tk x l') ++ t.row tk x (l'.take (k + 1))).flatMap encII) M' σ₁.M:=by rw [hrow,← List.append_assoc,List.flatMap_append (ys:=[(x,y)])];simpa using ha'
    obtain ⟨ua,ul,uc,rfl,_⟩:=Acc.src (σ:={ σ₅ with M:=M' }) ha''
    (conv=>whnf)
    refine ⟨hkn,?_⟩
    (conv=>whnf)
    exact ⟨rfl,(k + 1,.slice ua ul uc),⟨rfl,rfl,rfl,rfl,rfl,rfl,rfl,rfl,trivial⟩,⟨fun x o h=>h₅.imm x o (h₄.imm x o (hI₃ x o h)),h₅.tok.trans (h₄.tok.trans ht₃),ha'',by simp only;omega⟩,by show _ - _ < _ - _;omega⟩
   ·have hno:¬ decide (tk.lv ≤ t.lev tk.ed x y) = true:=by subst htk;rw [show decide (lv ≤ t.lev e x y) = false from hc];decide
    rw [if_neg hno,List.append_nil] at hrow
    (conv=>whnf)
    refine ⟨hkn,?_⟩
    (conv=>whnf)
    exact ⟨rfl,(k + 1,.slice ta tl tc),⟨rfl,rfl,rfl,rfl,rfl,rfl,rfl,rfl,trivial⟩,⟨fun x o h=>h₄.imm x o (hI₃ x o h),h₄.tok.trans ht₃,by rw [hrow,h₄.own];exact ha₃,by simp only;omega⟩,by show _ - _ < _ - _;omega⟩
  ·have hge:len' ≤ k:=by simpa using hc
   have htk':l'.take k = l':=List.take_of_length_le (by omega)
   rw [htk'] at ha₃
   (conv=>whnf)
   refine ⟨hin,?_⟩
   (conv=>whnf)
   exact ⟨rfl,(i + 1,.slice ta tl tc),⟨rfl,rfl,rfl,rfl,rfl,rfl,rfl,trivial⟩,⟨hlg₃,by rw [hnext];exact ha₃,by simp only;omega⟩,by show _ - _ < _ - _;omega⟩
 ·have hge:len ≤ i:=by simpa using hc
  rw [List.take_of_length_le (by omega)] at ha
  (conv=>whnf);(repeat (refine ⟨rfl,?_⟩;conv=>whnf))
  have hpp:t.prs tk = l.flatMap fun x=>t.row tk x l':=by rw [hprs];subst htk;rfl
  exact ⟨by rw [hpp,← h₁.own];exact ha,fun x o h=>hlg₂.imm x o (h₁.imm x o h),hlg₂.tok.trans h₁.tok⟩
end Go.Proofs
namespace Go.TM
end Go.TM
namespace Go.Proofs
open Go.TM
set_option maxRecDepth 100000
variable {T:Type} {S:TM.Sys Tryz.prog T} {σ:View T}
attribute [local irreducible] CallsV YieldV rngX
end Go.Proofs
namespace Go.TM
def PrtAt (l m:List Int) (k:Nat):Prop:=∀ n,l[k]? = some n → n ∈ m ∧ ∀ j p,j + 1 = k → l[j]? = some p → p < n
def Prt (l m:List Int):Prop:=∀ k,PrtAt l m k
theorem prt_bad {l m:List Int} {k:Nat} (h:¬ PrtAt l m k):false = true ↔ Prt l m:=⟨fun h=>(Bool.false_ne_true h).elim,fun g=>(h (g k)).elim⟩
theorem prt_all {l m:List Int} (h:∀ k,k < l.length → PrtAt l m k):true = true ↔ Prt l m:=
 ⟨fun _ k n hn=>h k (List.getElem?_eq_some_iff.1 hn).1 n hn,fun _=>rfl⟩
def SoloAt (all ps:List (Int × Int)) (k:Nat):Prop:=∀ p,ps[k]? = some p → p ∈ all ∧ ∀ j q,j < k → ps[j]? = some q → q.1 ≠ p.1 ∧ q.2 ≠ p.2
def Solo (all ps:List (Int × Int)):Prop:=∀ k,SoloAt all ps k
theorem solo_bad {l m:List (Int × Int)} {k:Nat} (h:¬ SoloAt l m k):false = true ↔ Solo l m:=⟨fun h=>(Bool.false_ne_true h).elim,fun g=>(h (g k)).elim⟩
theorem solo_all {l m:List (Int × Int)} (h:∀ k,k < m.length → SoloAt l m k):true = true ↔ Solo l m:=
 ⟨fun _ k n hn=>h k (List.getElem?_eq_some_iff.1 hn).1 n hn,fun _=>rfl⟩
def shares (q p:Int × Int):Bool:=p.1 == q.1 || p.2 == q.2
def pairA (p:Int × Int):Value:=.agg #[.int .i64 p.1,.int .i64 p.2]
theorem eqv_pair (p q:Int × Int):eqvL (encII p) (encII q) = (p == q):=by
 obtain ⟨a,b⟩:=p;obtain ⟨c,d⟩:=q
 simp only [encII,eqvL,eqv]
 rw [Bool.eq_iff_iff];simp
end Go.TM
namespace Go.Proofs
open Go.TM
set_option maxRecDepth 100000
variable {T:Type} {S:TM.Sys Tryz.prog T} {σ:View T}
attribute [local irreducible] CallsV YieldV rngX
theorem Tryz.isPart_ok (a a':Option Addr) (len cap len' cap':Nat) (l m:List Int) (hl:Ints σ a len l) (hlen:len < 2 ^ 60) (hm:Ints σ a' len' m) (hlen':len' < 2 ^ 60) :
  CallsV S 103 #[.slice a len cap,.slice a' len' cap'] (fun v σ'=>(∃ B:Bool,v = .bool B ∧ (B = true ↔ Prt l m)) ∧ σ' = σ) σ:=by
 refine CallsV.of (args:=[_,_]) Tryz.k103 Tryz.mixed (by simp) ?_
 have hll:=hl.1
 (conv=>whnf);(repeat (refine ⟨rfl,?_⟩;conv=>whnf))
 refine ⟨Nat,fun i=>[(0,.slice a len cap),(1,.slice a' len' cap'),(7,.slice a len cap),(8,.int .i64 len),(9,.int .i64 i)],
  fun i σ'=>σ' = σ ∧ i ≤ len ∧ ∀ k,k < i → PrtAt l m k,fun i=>len - i,0,⟨rfl,rfl,rfl,rfl,rfl,trivial⟩,⟨rfl,by omega,by simp⟩,?_⟩
 rintro i f _ ⟨rfl,hi,hinv⟩
 (conv=>whnf);(repeat (refine ⟨rfl,?_⟩;conv=>whnf))
 refine cb_split (fun hc=>?_) (fun hc=>?_)
 ·have hlt:i < len:=by simpa using hc
  obtain ⟨ad,x,hx,rfl,hsp,hs⟩:=hl.at hlt
  (conv=>whnf)
  refine ⟨ad,i,⟨rfl,rfl,hlt⟩,?_⟩
  (conv=>whnf)
  refine ⟨_,hs,?_⟩
  (conv=>whnf)
  refine ⟨Tryz.k85.any,(Tryz.contains_ok a' len' cap' m hm hlen' x).mono ?_⟩
  rintro _ σ' ⟨rfl,hσ'⟩ -
  obtain rfl:=hσ'.symm
  (conv=>whnf);(repeat (refine ⟨rfl,?_⟩;conv=>whnf))
  have hin:InR ((i:Int) + 1):=by unfold InR;omega
  cases hcon:m.contains x with
  | false=>
   (conv=>whnf);(repeat (refine ⟨rfl,?_⟩;conv=>whnf))
   exact ⟨⟨_,rfl,prt_bad (k:=i) fun h=>by have:=(h x hx).1;simp [this] at hcon⟩,rfl⟩
  | true=>
   have hmem:x ∈ m:=by simpa using hcon
   (conv=>whnf);(repeat (refine ⟨rfl,?_⟩;conv=>whnf))
   refine gb_split (fun hc=>?_) (fun hc=>?_)
   ·have hpos:0 < i:=by have:=of_decide_eq_true hc;omega
    obtain ⟨ad',y,hy,e,hsp',hs'⟩:=hl.at (i:=i - 1) (by omega)
    cases e
    (conv=>whnf);(repeat (refine ⟨rfl,?_⟩;conv=>whnf))
    refine ⟨by unfold InR;omega,?_⟩
    have e1:((i:Int) - 1) = ((i - 1:Nat):Int):=by omega
    rw [e1]
    (conv=>whnf)
    refine ⟨ad,i - 1,⟨rfl,rfl,by omega⟩,?_⟩
    (conv=>whnf)
    refine ⟨_,hs',?_⟩
    (conv=>whnf);(repeat (refine ⟨rfl,?_⟩;conv=>whnf))
    refine cb_split (fun hc=>?_) (fun hc=>?_)
    ·have hle:x ≤ y:=of_decide_eq_true hc
     (conv=>whnf);(repeat (refine ⟨rfl,?_⟩;conv=>whnf))
     exact ⟨⟨_,rfl,prt_bad (k:=i) fun h=>by have:=(h x hx).2 (i - 1) y (by omega) hy;omega⟩,rfl⟩
    ·have hlt':y < x:=by have:=of_decide_eq_false hc;omega
     (conv=>whnf)
     refine ⟨hin,?_⟩
     (conv=>whnf)
     refine ⟨rfl,i + 1,⟨rfl,rfl,rfl,rfl,rfl,trivial⟩,⟨rfl,by omega,fun k hk=>?_⟩,by show _ - _ < _ - _;omega⟩
     rcases Nat.lt_succ_iff_lt_or_eq.1 hk with hk | rfl
     ·exact hinv k hk
     intro n hn
     rw [hx] at hn
     cases hn
     refine ⟨hmem,fun j p hj hp=>?_⟩
     obtain rfl:j = k - 1:=by omega
     rw [hy] at hp
     cases hp
     exact hlt'
   ·have hz:i = 0:=by have:=of_decide_eq_false hc;omega
    subst hz
    (conv=>whnf)
    refine ⟨hin,?_⟩
    (conv=>whnf)
    refine ⟨rfl,0 + 1,⟨rfl,rfl,rfl,rfl,rfl,trivial⟩,⟨rfl,by omega,fun k hk=>?_⟩,by show _ - _ < _ - _;omega⟩
    obtain rfl:k = 0:=by omega
    intro n hn
    rw [hx] at hn
    cases hn
    exact ⟨hmem,fun j p hj _=>by omega⟩
 ·have hge:len ≤ i:=by simpa using hc
  (conv=>whnf);(repeat (refine ⟨rfl,?_⟩;conv=>whnf))
  exact ⟨⟨_,rfl,prt_all fun k hk=>hinv k (by omega)⟩,rfl⟩
theorem Tryz.shares_ok (b:Nat) (q p:Int × Int) (hb:Blk σ b #[.int .i64 q.1,.int .i64 q.2]) :
  CallsV S 105 #[pairA p,.pointer (some ⟨b,0,none⟩)] (fun v σ'=>v = .bool (shares q p) ∧ σ' = σ) σ:=by
 refine CallsV.pure' (CallsV.of (args:=[_,_]) Tryz.k105 Tryz.mixed (by simp) ?_)
 (conv=>whnf);(repeat (refine ⟨rfl,?_⟩;conv=>whnf))
 intro b2 σ₁ hle hb2
 have hb2:Blk σ₁ b2 #[.int .i64 p.1,.int .i64 p.2]:=hb2
 have hb:=hb.le hle
 (conv=>whnf)
 refine ⟨_,hb2.sees3 (o:=0) rfl,?_⟩
 (conv=>whnf)
 refine ⟨_,hb.sees3 (o:=0) rfl,?_⟩
 (conv=>whnf);(repeat (refine ⟨rfl,?_⟩;conv=>whnf))
 refine gb_split (fun hc=>?_) (fun hc=>?_)
 ·have hne:(p.1 == q.1) = false:=by simpa using hc
  (conv=>whnf)
  refine ⟨_,hb2.sees3 (o:=1) rfl,?_⟩
  (conv=>whnf)
  refine ⟨_,hb.sees3 (o:=1) rfl,?_⟩
  (conv=>whnf);(repeat (refine ⟨rfl,?_⟩;conv=>whnf))
  exact ⟨by unfold shares;rw [hne];rfl,hle.lg⟩
 ·have he:(p.1 == q.1) = true:=by simpa using hc
  (conv=>whnf);(repeat (refine ⟨rfl,?_⟩;conv=>whnf))
  exact ⟨by unfold shares;rw [he];rfl,hle.lg⟩
theorem Tryz.idxF_ok (a:Option Addr) (len cap:Nat) (l:List (Int × Int)) (hl:PairsV σ a len l) (hlen:len < 2 ^ 60) (g:FuncId) (first capt:Array Value) (p:Int × Int → Bool)
  (hf:Asks S σ g first capt pairA l p):CallsV S 135 #[.slice a len cap,.func (.func g) first capt] (fun v σ'=>v = .int .i64 (idxV p l) ∧ σ' = σ) σ:=by
 refine CallsV.of (args:=[_,_]) Tryz.k135 Tryz.mixed (by simp) ?_
 have hll:=hl.1
 (conv=>whnf);(repeat (refine ⟨rfl,?_⟩;conv=>whnf))
 refine ⟨Nat,fun i=>[(0,.slice a len cap),(1,.func (.func g) first capt),(6,.slice a len cap),(7,.int .i64 len),(8,.int .i64 i)],
  fun i σ'=>σ' = σ ∧ i ≤ len ∧ ∀ x ∈ l.take i,p x = false,fun i=>len - i,0,⟨rfl,rfl,rfl,rfl,rfl,trivial⟩,⟨rfl,by omega,by simp⟩,?_⟩
 rintro i f _ ⟨rfl,hi,hinv⟩
 (conv=>whnf);(repeat (refine ⟨rfl,?_⟩;conv=>whnf))
 refine cb_split (fun hc=>?_) (fun hc=>?_)
 ·have hlt:i < len:=by simpa using hc
  obtain ⟨ad,x,vs,hx,hpa,hsp,rfl,-,hrd⟩:=RowsV.at hl hlt
  have hcall:=hf.2 x (List.mem_of_getElem? hx)
  (conv=>whnf)
  refine ⟨ad,i,⟨hpa,rfl,hlt⟩,?_⟩
  (conv=>whnf)
  refine ⟨_,⟨rfl,hrd⟩,?_⟩
  (conv=>whnf)
  refine ⟨hf.1,hcall.mono ?_⟩
  rintro _ σ' ⟨rfl,hσ'⟩ -
  obtain rfl:=hσ'.symm
  (conv=>whnf);(repeat (refine ⟨rfl,?_⟩;conv=>whnf))
  refine cb_split (fun hc=>?_) (fun hc=>?_)
  ·(conv=>whnf);(repeat (refine ⟨rfl,?_⟩;conv=>whnf))
   exact ⟨by rw [idxV_some hx hc hinv],rfl⟩
  ·(conv=>whnf)
   refine ⟨by unfold InR;omega,?_⟩
   (conv=>whnf)
   refine ⟨rfl,i + 1,⟨rfl,rfl,rfl,rfl,rfl,trivial⟩,⟨rfl,by omega,?_⟩,by show _ - _ < _ - _;omega⟩
   intro y hy
   rw [take_at hx,List.mem_append] at hy
   rcases hy with hy | hy
   ·exact hinv y hy
   ·simp at hy;subst hy;exact hc
 ·have hge:len ≤ i:=by simpa using hc
  (conv=>whnf);(repeat (refine ⟨rfl,?_⟩;conv=>whnf))
  refine ⟨?_,rfl⟩
  rw [List.take_of_length_le (by omega)] at hinv
  rw [idxV_none hinv]
theorem Tryz.containsF_ok (a:Option Addr) (len cap:Nat) (l:List (Int × Int)) (hl:PairsV σ a len l) (hlen:len < 2 ^ 60) (g:FuncId) (first capt:Array Value) (p:Int × Int → Bool)
  (hf:Asks S σ g first capt pairA l p):CallsV S 104 #[.slice a len cap,.func (.func g) first capt] (fun v σ'=>v = .bool (l.any p) ∧ σ' = σ) σ:=by
 refine CallsV.of (args:=[_,_]) Tryz.k104 Tryz.mixed (by simp) ?_
 (conv=>whnf)
 refine ⟨Tryz.k135.any,(Tryz.idxF_ok a len cap l hl hlen g first capt p hf).mono ?_⟩
 rintro _ σ' ⟨rfl,hσ'⟩ -
 obtain rfl:=hσ'.symm
 (conv=>whnf);(repeat (refine ⟨rfl,?_⟩;conv=>whnf))
 refine ⟨?_,rfl⟩
 show Value.bool _ = _
 rw [idxV_ge]
end Go.Proofs
namespace Go.Proofs
open Go.TM
set_option maxRecDepth 100000
variable {T:Type} {S:TM.Sys Tryz.prog T} {σ:View T}
attribute [local irreducible] CallsV YieldV rngX
theorem Tryz.idxQ_ok (a:Option Addr) (len cap:Nat) (l:List (Int × Int)) (hl₀:PairsV σ a len l) (hlen:len < 2 ^ 60) (p:Int × Int) :
  CallsV S 136 #[.slice a len cap,pairA p] (fun v σ'=>v = .int .i64 (idxV (fun x=>p == x) l) ∧ σ' = σ) σ:=by
 refine CallsV.pure' (CallsV.of (args:=[_,_]) Tryz.k136 Tryz.mixed (by simp) ?_)
 have hll:=hl₀.1
 (conv=>whnf);(repeat (refine ⟨rfl,?_⟩;conv=>whnf))
 intro b3 σ₁ h₁ hb
 have hb:Blk σ₁ b3 #[.int .i64 p.1,.int .i64 p.2]:=hb
 have hl:=PairsV.lg hl₀ h₁.lg
 (conv=>whnf);(repeat (refine ⟨rfl,?_⟩;conv=>whnf))
 refine ⟨Nat,fun i=>[(0,.slice a len cap),(3,.pointer (some ⟨b3,0,none⟩)),(6,.slice a len cap),(7,.int .i64 len),(8,.int .i64 i)],
  fun i σ'=>σ.le σ' ∧ Blk σ' b3 #[.int .i64 p.1,.int .i64 p.2] ∧ i ≤ len ∧ ∀ x ∈ l.take i,(p == x) = false,fun i=>len - i,0,⟨rfl,rfl,rfl,rfl,rfl,trivial⟩,⟨h₁,hb,by omega,by simp⟩,?_⟩
 clear hl hb h₁
 rintro i f σ₁ ⟨h₁,hb,hi,hinv⟩
 have hl:=PairsV.lg hl₀ h₁.lg
 (conv=>whnf);(repeat (refine ⟨rfl,?_⟩;conv=>whnf))
 refine cb_split (fun hc=>?_) (fun hc=>?_)
 ·have hlt:i < len:=by simpa using hc
  obtain ⟨ad,x,vs,hx,hpa,hsp,rfl,-,hrd⟩:=RowsV.at hl hlt
  (conv=>whnf)
  refine ⟨_,⟨rfl,hb.reads (vs:=encII p) (fun k v hv=>by simpa [encII] using hv)⟩,?_⟩
  (conv=>whnf)
  refine ⟨ad,i,⟨hpa,rfl,hlt⟩,?_⟩
  (conv=>whnf)
  refine ⟨_,⟨rfl,hrd⟩,?_⟩
  (conv=>whnf)
  intro σ₂ h₂ hC
  (conv=>whnf)
  refine raw_eqS Tryz.s80 (vs:=encII p) (ws:=encII x) rfl rfl (by kernel_rfl) (by kernel_rfl) ?_
  rw [eqv_pair]
  (conv=>whnf);(repeat (refine ⟨rfl,?_⟩;conv=>whnf))
  refine cb_split (fun hc=>?_) (fun hc=>?_)
  ·(conv=>whnf);(repeat (refine ⟨rfl,?_⟩;conv=>whnf))
   exact ⟨by rw [idxV_some (p:=fun x=>p == x) hx hc hinv],(h₁.trans h₂).lg⟩
  ·(conv=>whnf)
   refine ⟨by unfold InR;omega,?_⟩
   (conv=>whnf)
   refine ⟨rfl,i + 1,⟨rfl,rfl,rfl,rfl,rfl,trivial⟩,⟨h₁.trans h₂,hb.le h₂,by omega,?_⟩,by show _ - _ < _ - _;omega⟩
   intro y hy
   rw [take_at hx,List.mem_append] at hy
   rcases hy with hy | hy
   ·exact hinv y hy
   ·simp at hy;subst hy;exact hc
 ·have hge:len ≤ i:=by simpa using hc
  (conv=>whnf);(repeat (refine ⟨rfl,?_⟩;conv=>whnf))
  refine ⟨?_,h₁.lg⟩
  rw [List.take_of_length_le (by omega)] at hinv
  rw [idxV_none hinv]
theorem Tryz.containsP_ok (a:Option Addr) (len cap:Nat) (l:List (Int × Int)) (hl:PairsV σ a len l) (hlen:len < 2 ^ 60) (p:Int × Int) :
  CallsV S 106 #[.slice a len cap,pairA p] (fun v σ'=>v = .bool (l.contains p) ∧ σ' = σ) σ:=by
 refine CallsV.pure' (CallsV.of (args:=[_,_]) Tryz.k106 Tryz.mixed (by simp) ?_)
 (conv=>whnf);(repeat (refine ⟨rfl,?_⟩;conv=>whnf))
 intro b3 σ₁ h₁ hb
 have hb:Blk σ₁ b3 #[.int .i64 p.1,.int .i64 p.2]:=hb
 (conv=>whnf)
 refine ⟨_,⟨rfl,hb.reads (vs:=encII p) (fun k v hv=>by simpa [encII] using hv)⟩,?_⟩
 (conv=>whnf)
 refine ⟨Tryz.k136.any,(Tryz.idxQ_ok a len cap l (PairsV.lg hl h₁.lg) hlen p).mono ?_⟩
 rintro _ σ' ⟨rfl,hσ'⟩ -
 obtain rfl:=hσ'.symm
 (conv=>whnf);(repeat (refine ⟨rfl,?_⟩;conv=>whnf))
 refine ⟨?_,h₁.lg⟩
 show Value.bool _ = _
 rw [idxV_ge]
 congr 1
 rw [Bool.eq_iff_iff]
 simp
theorem Tryz.hasPair_ok (a:Option Addr) (len cap:Nat) (l:List (Int × Int)) (hl₀:PairsV σ a len l) (hlen:len < 2 ^ 60) (p:Int × Int) :
  CallsV S 108 #[.slice a len cap,pairA p] (fun v σ'=>v = .bool (l.contains p) ∧ σ' = σ) σ:=by
 refine CallsV.pure' (CallsV.of (args:=[_,_]) Tryz.k108 Tryz.mixed (by simp) ?_)
 have hll:=hl₀.1
 (conv=>whnf);(repeat (refine ⟨rfl,?_⟩;conv=>whnf))
 intro b3 σ₁ h₁ hb
 have hb:Blk σ₁ b3 #[.int .i64 p.1,.int .i64 p.2]:=hb
 (conv=>whnf);(repeat (refine ⟨rfl,?_⟩;conv=>whnf))
 refine ⟨Nat,fun i=>[(0,.slice a len cap),(3,.pointer (some ⟨b3,0,none⟩)),(5,.int .i64 i)],
  fun i σ'=>σ.le σ' ∧ Blk σ' b3 #[.int .i64 p.1,.int .i64 p.2] ∧ i ≤ len ∧ p ∉ l.take i,fun i=>len - i,0,⟨rfl,rfl,rfl,trivial⟩,⟨h₁,hb,by omega,by simp⟩,?_⟩
 clear hb h₁
 rintro i f σ₁ ⟨h₁,hb,hi,hinv⟩
 have hl:=PairsV.lg hl₀ h₁.lg
 (conv=>whnf);(repeat (refine ⟨rfl,?_⟩;conv=>whnf))
 refine cb_split (fun hc=>?_) (fun hc=>?_)
 ·have hlt:i < len:=by simpa using hc
  obtain ⟨ad,x,vs,hx,hpa,hsp,rfl,-,hrd⟩:=RowsV.at hl hlt
  (conv=>whnf)
  refine ⟨ad,i,⟨hpa,rfl,hlt⟩,?_⟩
  (conv=>whnf)
  refine ⟨_,⟨rfl,hrd⟩,?_⟩
  (conv=>whnf)
  refine ⟨_,⟨rfl,hb.reads (vs:=encII p) (fun k v hv=>by simpa [encII] using hv)⟩,?_⟩
  (conv=>whnf)
  intro σ₂ h₂ hC
  (conv=>whnf)
  refine raw_eqS Tryz.s80 (vs:=encII x) (ws:=encII p) rfl rfl (by kernel_rfl) (by kernel_rfl) ?_
  rw [eqv_pair]
  (conv=>whnf);(repeat (refine ⟨rfl,?_⟩;conv=>whnf))
  refine cb_split (fun hc=>?_) (fun hc=>?_)
  ·have e:x = p:=by simpa using hc
   (conv=>whnf);(repeat (refine ⟨rfl,?_⟩;conv=>whnf))
   exact ⟨by rw [List.contains_iff_mem.2 (e ▸ List.mem_of_getElem? hx)],(h₁.trans h₂).lg⟩
  ·have e:x ≠ p:=by simpa using hc
   (conv=>whnf)
   refine ⟨by unfold InR;omega,?_⟩
   (conv=>whnf)
   refine ⟨rfl,i + 1,⟨rfl,rfl,rfl,trivial⟩,⟨h₁.trans h₂,hb.le h₂,by omega,?_⟩,by show _ - _ < _ - _;omega⟩
   rw [take_at hx,List.mem_append]
   rintro (h | h)
   ·exact hinv h
   ·exact e (List.mem_singleton.1 h).symm
 ·have hge:len ≤ i:=by simpa using hc
  rw [List.take_of_length_le (by omega)] at hinv
  (conv=>whnf);(repeat (refine ⟨rfl,?_⟩;conv=>whnf))
  exact ⟨by rw [show l.contains p = false by simpa using hinv],h₁.lg⟩
end Go.Proofs
namespace Go.Proofs
open Go.TM
set_option maxRecDepth 100000
variable {T:Type} {S:TM.Sys Tryz.prog T} {σ:View T}
attribute [local irreducible] CallsV YieldV rngX
theorem Tryz.sub_ok (a a':Option Addr) (len cap len' cap':Nat) (l m:List Int) (hl₀:Ints σ a len l) (hlen:len < 2 ^ 60) (hm₀:Ints σ a' len' m) (hlen':len' < 2 ^ 60) :
  CallsV S 107 #[.slice a len cap,.slice a' len' cap'] (fun v σ'=>(∃ B:Bool,v = .bool B ∧ (B = true ↔ Prt l m)) ∧ σ' = σ) σ:=by
 refine CallsV.pure' (Q:=fun v=>∃ B:Bool,v = .bool B ∧ (B = true ↔ Prt l m)) (CallsV.of (args:=[_,_]) Tryz.k107 Tryz.mixed (by simp) ?_)
 have hll:=hl₀.1
 (conv=>whnf);(repeat (refine ⟨rfl,?_⟩;conv=>whnf))
 refine ⟨Nat,fun i=>[(0,.slice a len cap),(1,.slice a' len' cap'),(5,.int .i64 i)],
  fun i σ'=>σ.le σ' ∧ i ≤ len ∧ ∀ k,k < i → PrtAt l m k,fun i=>len - i,0,⟨rfl,rfl,rfl,trivial⟩,⟨.refl _,by omega,by simp⟩,?_⟩
 rintro i f σ₁ ⟨h₁,hi,hinv⟩
 have hl:=hl₀.lg h₁.lg
 have hm:=hm₀.lg h₁.lg
 (conv=>whnf);(repeat (refine ⟨rfl,?_⟩;conv=>whnf))
 refine cb_split (fun hc=>?_) (fun hc=>?_)
 ·have hlt:i < len:=by simpa using hc
  obtain ⟨ad,x,hx,rfl,hsp,hs⟩:=hl.at hlt
  have hin:InR ((i:Int) + 1):=by unfold InR;omega
  (conv=>whnf)
  refine ⟨ad,i,⟨rfl,rfl,hlt⟩,?_⟩
  (conv=>whnf)
  refine ⟨_,hs,?_⟩
  (conv=>whnf)
  refine ⟨.bool (m.contains x),fun σ' hle _=>?_,?_⟩
  ·(conv=>whnf)
   refine ⟨Tryz.k53.any,(Tryz.hasInt_ok a' len' cap' m (hm.lg hle.lg) hlen' x).mono ?_⟩
   rintro _ σ'' ⟨rfl,hσ⟩ -
   exact ⟨rfl,_,.refl _,hσ ▸ .refl _⟩
  cases hcon:m.contains x with
  | false=>
   (conv=>whnf)
   intro σ₂ h₂ hC
   (conv=>whnf);(repeat (refine ⟨rfl,?_⟩;conv=>whnf))
   exact ⟨⟨_,rfl,prt_bad (k:=i) fun h=>by have:=(h x hx).1;simp [this] at hcon⟩,(h₁.trans h₂).lg⟩
  | true=>
   have hmem:x ∈ m:=by simpa using hcon
   (conv=>whnf);(repeat (refine ⟨rfl,?_⟩;conv=>whnf))
   by_cases hpos:0 < i
   ·rw [show decide ((i:Int) > 0) = true from decide_eq_true (by omega)]
    obtain ⟨ad',y,hy,e,hsp',hs'⟩:=hl.at (i:=i - 1) (by omega)
    cases e
    (conv=>whnf)
    refine ⟨ad,i,⟨rfl,rfl,hlt⟩,?_⟩
    (conv=>whnf)
    refine ⟨_,hs,?_⟩
    (conv=>whnf);(repeat (refine ⟨rfl,?_⟩;conv=>whnf))
    refine ⟨by unfold InR;omega,?_⟩
    have e1:((i:Int) - 1) = ((i - 1:Nat):Int):=by omega
    rw [e1]
    (conv=>whnf)
    refine ⟨ad,i - 1,⟨rfl,rfl,by omega⟩,?_⟩
    (conv=>whnf)
    refine ⟨_,hs',?_⟩
    (conv=>whnf)
    intro σ₂ h₂ hC
    (conv=>whnf);(repeat (refine ⟨rfl,?_⟩;conv=>whnf))
    refine cb_split (fun hc=>?_) (fun hc=>?_)
    ·have hle:x ≤ y:=of_decide_eq_true hc
     (conv=>whnf);(repeat (refine ⟨rfl,?_⟩;conv=>whnf))
     exact ⟨⟨_,rfl,prt_bad (k:=i) fun h=>by have:=(h x hx).2 (i - 1) y (by omega) hy;omega⟩,(h₁.trans h₂).lg⟩
    ·have hlt':y < x:=by have:=of_decide_eq_false hc;omega
     (conv=>whnf)
     refine ⟨hin,?_⟩
     (conv=>whnf)
     refine ⟨rfl,i + 1,⟨rfl,rfl,rfl,trivial⟩,⟨h₁.trans h₂,by omega,fun k hk=>?_⟩,by show _ - _ < _ - _;omega⟩
     rcases Nat.lt_succ_iff_lt_or_eq.1 hk with hk | rfl
     ·exact hinv k hk
     intro n hn
     rw [hx] at hn
     cases hn
     refine ⟨hmem,fun j p hj hp=>?_⟩
     obtain rfl:j = k - 1:=by omega
     rw [hy] at hp
     cases hp
     exact hlt'
   ·obtain rfl:i = 0:=by omega
    rw [show decide (((0:Nat):Int) > 0) = false from rfl]
    (conv=>whnf)
    intro σ₂ h₂ hC
    (conv=>whnf)
    refine ⟨hin,?_⟩
    (conv=>whnf)
    refine ⟨rfl,0 + 1,⟨rfl,rfl,rfl,trivial⟩,⟨h₁.trans h₂,by omega,fun k hk=>?_⟩,by show _ - _ < _ - _;omega⟩
    obtain rfl:k = 0:=by omega
    intro n hn
    rw [hx] at hn
    cases hn
    exact ⟨hmem,fun j p hj _=>by omega⟩
 ·have hge:len ≤ i:=by simpa using hc
  (conv=>whnf);(repeat (refine ⟨rfl,?_⟩;conv=>whnf))
  exact ⟨⟨_,rfl,prt_all fun k hk=>hinv k (by omega)⟩,h₁.lg⟩
end Go.Proofs
namespace Go.TM
def Tbl.Prov (t:Tbl) (tk:Talk) (x y:List Int) (ps:List (Int × Int)):Prop:=
 Prt x tk.a ∧ Prt y tk.b ∧ ps.length = x.length + y.length ∧ (∀ p,p ∈ t.prs tk → p.1 ∈ x ∨ p.2 ∈ y) ∧ Solo (t.prs tk) ps
theorem bool_no {P:Prop} (h:¬ P):false = true ↔ P:=⟨fun h=>(Bool.false_ne_true h).elim,fun g=>(h g).elim⟩
theorem bool_yes {P:Prop} (h:P):true = true ↔ P:=⟨fun _=>h,fun _=>rfl⟩
end Go.TM
namespace Go.Proofs
open Go.TM
set_option maxRecDepth 100000
variable {T:Type} {S:TM.Sys Tryz.prog T} {σ:View T}
attribute [local irreducible] CallsV YieldV rngX
set_option maxHeartbeats 1000000 in
theorem Tryz.provesR_ok (h:TH) (t:Tbl) (ht:TabV σ.frz h t) (e lv:Int) (a a' xa ya pa:Option Addr) (len cap len' cap' xl xc yl yc pl pc:Nat) (l l' x y:List Int) (ps:List (Int × Int))
  (hl:Ints σ.frz a len l) (hl':Ints σ.frz a' len' l') (hlen:len < 2 ^ 60) (hlen':len' < 2 ^ 60) (hx:Ints σ.frz xa xl x) (hxl:xl < 2 ^ 60) (hy:Ints σ.frz ya yl y) (hyl:yl < 2 ^ 60) (hp:PairsV σ.frz pa pl ps) (hpl:pl < 2 ^ 60) :
  CallsV S 61 #[h.v,.int .i64 e,.slice a len cap,.slice a' len' cap',.int .i64 lv,.slice xa xl xc,.slice ya yl yc,.slice pa pl pc]
   (fun v σ'=>(∃ B:Bool,v = .tuple #[.bool B,.int .i64 (t.talkF e l l' lv)] ∧ (B = true ↔ t.talkF e l l' lv = 0 ∧ t.Prov ⟨e,lv,l,l'⟩ x y ps)) ∧ σ' = σ) σ:=by
 refine CallsV.pure' (Q:=fun v=>∃ B:Bool,v = .tuple #[.bool B,.int .i64 (t.talkF e l l' lv)] ∧ (B = true ↔ t.talkF e l l' lv = 0 ∧ t.Prov ⟨e,lv,l,l'⟩ x y ps)) (CallsV.of (args:=[_,_,_,_,_,_,_,_]) Tryz.k61 Tryz.mixed (by simp) ?_)
 have hll:=hl.1
 have hll':=hl'.1
 have hxx:=hx.1
 have hyy:=hy.1
 have hpp:=hp.1
 (conv=>whnf);(repeat (refine ⟨rfl,?_⟩;conv=>whnf))
 intro b σ₁ h₁ hb
 have hb:Blk σ₁ b #[.slice h.ea h.el h.ec,.slice h.ma h.ml h.mc,.slice h.ka h.kl h.kc]:=hb
 have ht₁:=ht.lg h₁.frz1
 have hl₁:=hl.lg h₁.frz1
 have hl₁':=hl'.lg h₁.frz1
 have hx₁:=hx.lg h₁.frz1
 have hy₁:=hy.lg h₁.frz1
 have hp₁:=PairsV.lg hp h₁.frz1
 (conv=>whnf)
 refine ⟨_,⟨rfl,hb.rdT fun _ _ h=>h⟩,?_⟩
 (conv=>whnf)
 refine ⟨Tryz.k93.any,(Tryz.asked_ok h t ht₁ e lv a a' len cap len' cap' l l' hl₁ hl₁' hlen hlen').mono ?_⟩
 rintro _ σ' ⟨rfl,hσ'⟩ -
 obtain rfl:=hσ'.symm
 (conv=>whnf);(repeat (refine ⟨rfl,?_⟩;conv=>whnf))
 refine cb_split (fun hc=>?_) (fun hc=>?_)
 ·have hf:t.talkF e l l' lv ≠ 0:=by simpa using hc
  (conv=>whnf);(repeat (refine ⟨rfl,?_⟩;conv=>whnf))
  exact ⟨⟨_,rfl,bool_no fun h=>hf h.1⟩,h₁.lg⟩
 have hf:t.talkF e l l' lv = 0:=by simpa using hc
 obtain ⟨hfl,hed,hc1,hc2,hlv⟩:=Tbl.talk_two hf
 have l8:l.length ≤ 8:=chk_len8 hfl hc1
 have l8':l'.length ≤ 8:=chk_len8 hfl hc2
 have hn:=Tbl.prs_len t ⟨e,lv,l,l'⟩
 have hn64:l.length * l'.length ≤ 8 * 8:=Nat.mul_le_mul l8 l8'
 have hn:(t.prs ⟨e,lv,l,l'⟩).length ≤ 64:=Nat.le_trans hn hn64
 (conv=>whnf)
 refine ⟨Tryz.k107.any,(Tryz.sub_ok xa a xl xc len cap x l hx₁ hxl hl₁ hlen).mono ?_⟩
 rintro _ σ' ⟨⟨B1,rfl,hB1⟩,hσ'⟩ -
 obtain rfl:=hσ'.symm
 cases B1 with
 | false=>
  (conv=>whnf);(repeat (refine ⟨rfl,?_⟩;conv=>whnf))
  rw [hf]
  exact ⟨⟨_,rfl,bool_no fun h=>Bool.false_ne_true (hB1.2 h.2.1)⟩,h₁.lg⟩
 | true=>
 have hB1:=hB1.1 rfl
 (conv=>whnf)
 refine ⟨Tryz.k107.any,(Tryz.sub_ok ya a' yl yc len' cap' y l' hy₁ hyl hl₁' hlen').mono ?_⟩
 rintro _ σ' ⟨⟨B2,rfl,hB2⟩,hσ'⟩ -
 obtain rfl:=hσ'.symm
 cases B2 with
 | false=>
  (conv=>whnf);(repeat (refine ⟨rfl,?_⟩;conv=>whnf))
  rw [hf]
  exact ⟨⟨_,rfl,bool_no fun h=>Bool.false_ne_true (hB2.2 h.2.2.1)⟩,h₁.lg⟩
 | true=>
 have hB2:=hB2.1 rfl
 (conv=>whnf)
 refine ⟨by unfold InR;omega,?_⟩
 (conv=>whnf);(repeat (refine ⟨rfl,?_⟩;conv=>whnf))
 refine cb_split (fun hc=>?_) (fun hc=>?_)
 ·have hne:ps.length ≠ x.length + y.length:=by
   have h1:(pl:Int) ≠ (xl:Int) + (yl:Int):=by simpa using hc
   omega
  (conv=>whnf);(repeat (refine ⟨rfl,?_⟩;conv=>whnf))
  rw [hf]
  exact ⟨⟨_,rfl,bool_no fun h=>hne h.2.2.2.1⟩,h₁.lg⟩
 have hlenE:ps.length = x.length + y.length:=by
  have h1:(pl:Int) = (xl:Int) + (yl:Int):=by simpa using hc
  omega
 (conv=>whnf)
 refine ⟨_,⟨rfl,hb.rdT fun _ _ h=>h⟩,?_⟩
 (conv=>whnf)
 refine ⟨Tryz.k94.any,(Tryz.reach_ok h t ht₁ e lv a a' len cap len' cap' l l' hl₁ hl₁' (by omega) (by omega)).mono ?_⟩
 rintro v σ₂ ⟨⟨ra,rc,rfl,hrc,hr⟩,h₂⟩ -
 have hle:=h₁.trans h₂
 have hx₂:=hx₁.lg h₂.lg
 have hy₂:=hy₁.lg h₂.lg
 have hp₂:=PairsV.lg hp₁ h₂.lg
 have hr:PairsV σ₂ ra _ (t.prs ⟨e,lv,l,l'⟩):=PairsV.lg hr frz_self
 generalize hL:t.prs ⟨e,lv,l,l'⟩ = L at hr hn
 (conv=>whnf);(repeat (refine ⟨rfl,?_⟩;conv=>whnf))
 refine ⟨Nat,fun i=>[(5,.slice xa xl xc),(6,.slice ya yl yc),(7,.slice pa pl pc),(19,.slice ra L.length rc),(20,.int .i64 i)],
  fun i σ'=>σ' = σ₂ ∧ i ≤ L.length ∧ ∀ p ∈ L.take i,p.1 ∈ x ∨ p.2 ∈ y,fun i=>L.length - i,0,⟨rfl,rfl,rfl,rfl,rfl,trivial⟩,⟨rfl,by omega,by simp⟩,?_⟩
 rintro i f σ' ⟨hσ,hi,hinv⟩
 obtain rfl:=hσ.symm
 (conv=>whnf);(repeat (refine ⟨rfl,?_⟩;conv=>whnf))
 refine cb_split (fun hc=>?_) (fun hc=>?_)
 ·have hlt:i < L.length:=by simpa using hc
  obtain ⟨ad,p,vs,hpx,hpa,hsp,rfl,-,hrd⟩:=RowsV.at hr hlt
  have hin:InR ((i:Int) + 1):=by unfold InR;omega
  have s0:σ₂.sees ((ad.add (i * 2)).add 0) (.int .i64 p.1):=hrd 0 _ rfl
  have s1:σ₂.sees ((ad.add (i * 2)).add 1) (.int .i64 p.2):=hrd 1 _ rfl
  have next:(p.1 ∈ x ∨ p.2 ∈ y) → ∀ q ∈ L.take (i + 1),q.1 ∈ x ∨ q.2 ∈ y:=fun hq q hm=>by
   rw [take_at hpx,List.mem_append] at hm
   rcases hm with hm | hm
   ·exact hinv q hm
   ·rw [List.mem_singleton.1 hm];exact hq
  (conv=>whnf)
  refine ⟨ad,i,⟨hpa,rfl,hlt⟩,?_⟩
  (conv=>whnf)
  refine ⟨_,s0,?_⟩
  (conv=>whnf)
  refine ⟨Tryz.k53.any,(Tryz.hasInt_ok xa xl xc x hx₂ hxl p.1).mono ?_⟩
  rintro _ σ' ⟨rfl,hσ'⟩ -
  obtain rfl:=hσ'.symm
  cases hcx:x.contains p.1 with
  | true=>
   (conv=>whnf)
   refine ⟨hin,?_⟩
   (conv=>whnf)
   exact ⟨rfl,i + 1,⟨rfl,rfl,rfl,rfl,rfl,trivial⟩,⟨rfl,by omega,next (.inl (by simpa using hcx))⟩,by show _ - _ < _ - _;omega⟩
  | false=>
   (conv=>whnf)
   refine ⟨ad,i,⟨hpa,rfl,hlt⟩,?_⟩
   (conv=>whnf)
   refine ⟨_,s1,?_⟩
   (conv=>whnf)
   refine ⟨Tryz.k53.any,(Tryz.hasInt_ok ya yl yc y hy₂ hyl p.2).mono ?_⟩
   rintro _ σ' ⟨rfl,hσ'⟩ -
   obtain rfl:=hσ'.symm
   cases hcy:y.contains p.2 with
   | true=>
    (conv=>whnf)
    refine ⟨hin,?_⟩
    (conv=>whnf)
    exact ⟨rfl,i + 1,⟨rfl,rfl,rfl,rfl,rfl,trivial⟩,⟨rfl,by omega,next (.inr (by simpa using hcy))⟩,by show _ - _ < _ - _;omega⟩
   | false=>
    (conv=>whnf);(repeat (refine ⟨rfl,?_⟩;conv=>whnf))
    rw [hf]
    refine ⟨⟨_,rfl,bool_no fun h=>?_⟩,hle.lg⟩
    have h5:=h.2.2.2.2.1 p (hL ▸ List.mem_of_getElem? hpx)
    rcases h5 with h5 | h5
    ·rw [List.contains_iff_mem.2 h5] at hcx;cases hcx
    ·rw [List.contains_iff_mem.2 h5] at hcy;cases hcy
 have hge:L.length ≤ i:=by simpa using hc
 have hcov:∀ p,p ∈ L → p.1 ∈ x ∨ p.2 ∈ y:=fun p hp=>hinv p (by rw [List.take_of_length_le hge];exact hp)
 clear hinv hi hge hc
 (conv=>whnf);(repeat (refine ⟨rfl,?_⟩;conv=>whnf))
 refine ⟨Nat,fun i=>[(7,.slice pa pl pc),(19,.slice ra L.length rc),(21,.int .i64 i)],
  fun i σ'=>σ₂.le σ' ∧ i ≤ pl ∧ ∀ k,k < i → SoloAt L ps k,fun i=>pl - i,0,⟨rfl,rfl,rfl,trivial⟩,⟨.refl _,by omega,by simp⟩,?_⟩
 rintro i f σ₃ ⟨h₃,hi,hinv⟩
 have hp₃:=PairsV.lg hp₂ h₃.lg
 have hr₃:=PairsV.lg hr h₃.lg
 have hbad:¬ SoloAt L ps i → (false = true ↔ (0:Int) = 0 ∧ t.Prov ⟨e,lv,l,l'⟩ x y ps):=fun hs=>bool_no fun h=>hs (hL ▸ h.2.2.2.2.2 i)
 (conv=>whnf);(repeat (refine ⟨rfl,?_⟩;conv=>whnf))
 refine cb_split (fun hc=>?_) (fun hc=>?_)
 ·have hlt:i < pl:=by simpa using hc
  obtain ⟨ad,p,vs,hpx,hpa,hsp,rfl,-,hrd⟩:=RowsV.at hp₃ hlt
  have hin:InR ((i:Int) + 1):=by unfold InR;omega
  (conv=>whnf)
  refine ⟨ad,i,⟨hpa,rfl,hlt⟩,?_⟩
  (conv=>whnf)
  refine ⟨_,⟨rfl,hrd⟩,?_⟩
  (conv=>whnf)
  refine ⟨Tryz.k108.any,(Tryz.hasPair_ok ra L.length rc L hr₃ (by omega) p).mono ?_⟩
  rintro _ σ' ⟨rfl,hσ'⟩ -
  obtain rfl:=hσ'.symm
  cases hcp:L.contains p with
  | false=>
   (conv=>whnf);(repeat (refine ⟨rfl,?_⟩;conv=>whnf))
   rw [hf]
   refine ⟨⟨_,rfl,hbad fun h=>?_⟩,(hle.trans h₃).lg⟩
   rw [List.contains_iff_mem.2 (h p hpx).1] at hcp
   cases hcp
  | true=>
  have hmem:p ∈ L:=List.contains_iff_mem.1 hcp
  (conv=>whnf);(repeat (refine ⟨rfl,?_⟩;conv=>whnf))
  refine ⟨Nat,fun j=>[(7,.slice pa pl pc),(19,.slice ra L.length rc),(21,.int .i64 i),(22,.int .i64 j)],
   fun j σ'=>σ₂.le σ' ∧ j ≤ i ∧ ∀ k q,k < j → ps[k]? = some q → q.1 ≠ p.1 ∧ q.2 ≠ p.2,fun j=>i - j,0,⟨rfl,rfl,rfl,rfl,trivial⟩,⟨h₃,by omega,by simp⟩,?_⟩
  clear hp₃ hr₃ hrd h₃
  rintro j f σ₃ ⟨h₃,hj,hin2⟩
  have hp₃:=PairsV.lg hp₂ h₃.lg
  (conv=>whnf);(repeat (refine ⟨rfl,?_⟩;conv=>whnf))
  refine cb_split (fun hc=>?_) (fun hc=>?_)
  ·have hjt:j < i:=by simpa using hc
   obtain ⟨ad',q,vs',hqx,hqa,hsq,rfl,-,hrq⟩:=RowsV.at hp₃ (show j < pl by omega)
   obtain ⟨ad2,p2,vs2,hpx2,hpa2,hsp2,rfl,-,hrd⟩:=RowsV.at hp₃ hlt
   rw [hpx] at hpx2
   cases hpx2
   have q0:σ₃.sees ((ad'.add (j * 2)).add 0) (.int .i64 q.1):=hrq 0 _ rfl
   have q1:σ₃.sees ((ad'.add (j * 2)).add 1) (.int .i64 q.2):=hrq 1 _ rfl
   have p0:σ₃.sees ((ad2.add (i * 2)).add 0) (.int .i64 p.1):=hrd 0 _ rfl
   have p1:σ₃.sees ((ad2.add (i * 2)).add 1) (.int .i64 p.2):=hrd 1 _ rfl
   have hinj:InR ((j:Int) + 1):=by unfold InR;omega
   (conv=>whnf)
   refine ⟨ad',j,⟨hqa,rfl,by omega⟩,?_⟩
   (conv=>whnf)
   refine ⟨_,q0,?_⟩
   (conv=>whnf)
   refine ⟨ad2,i,⟨hpa2,rfl,hlt⟩,?_⟩
   (conv=>whnf)
   refine ⟨_,p0,?_⟩
   (conv=>whnf);(repeat (refine ⟨rfl,?_⟩;conv=>whnf))
   have stop:¬ (q.1 ≠ p.1 ∧ q.2 ≠ p.2) → ¬ SoloAt L ps i:=fun hn h=>hn ((h p hpx).2 j q hjt hqx)
   have next:q.1 ≠ p.1 → q.2 ≠ p.2 → ∀ k r,k < j + 1 → ps[k]? = some r → r.1 ≠ p.1 ∧ r.2 ≠ p.2:=fun e1 e2 k r hk hr=>by
    rcases Nat.lt_succ_iff_lt_or_eq.1 hk with hk | rfl
    ·exact hin2 k r hk hr
    ·rw [hqx] at hr;cases hr;exact ⟨e1,e2⟩
   cases he:(q.1 == p.1) with
   | true=>
    (conv=>whnf)
    intro σ₄ h₄ hC
    (conv=>whnf);(repeat (refine ⟨rfl,?_⟩;conv=>whnf))
    rw [hf]
    exact ⟨⟨_,rfl,hbad (stop fun h=>h.1 (by simpa using he))⟩,(hle.trans (h₃.trans h₄)).lg⟩
   | false=>
    have e1:q.1 ≠ p.1:=by simpa using he
    (conv=>whnf)
    refine ⟨ad',j,⟨hqa,rfl,by omega⟩,?_⟩
    (conv=>whnf)
    refine ⟨_,q1,?_⟩
    (conv=>whnf)
    refine ⟨ad2,i,⟨hpa2,rfl,hlt⟩,?_⟩
    (conv=>whnf)
    refine ⟨_,p1,?_⟩
    (conv=>whnf)
    intro σ₄ h₄ hC
    (conv=>whnf);(repeat (refine ⟨rfl,?_⟩;conv=>whnf))
    refine cb_split (fun hc=>?_) (fun hc=>?_)
    ·have e2:q.2 = p.2:=by simpa using hc
     (conv=>whnf);(repeat (refine ⟨rfl,?_⟩;conv=>whnf))
     rw [hf]
     exact ⟨⟨_,rfl,hbad (stop fun h=>h.2 e2)⟩,(hle.trans (h₃.trans h₄)).lg⟩
    ·have e2:q.2 ≠ p.2:=by simpa using hc
     (conv=>whnf)
     refine ⟨hinj,?_⟩
     (conv=>whnf)
     exact ⟨rfl,j + 1,⟨rfl,rfl,rfl,rfl,trivial⟩,⟨h₃.trans h₄,by omega,next e1 e2⟩,by show _ - _ < _ - _;omega⟩
  ·have hji:i ≤ j:=by simpa using hc
   (conv=>whnf)
   refine ⟨hin,?_⟩
   (conv=>whnf)
   refine ⟨rfl,i + 1,⟨rfl,rfl,rfl,trivial⟩,⟨h₃,by omega,fun k hk=>?_⟩,by show _ - _ < _ - _;omega⟩
   rcases Nat.lt_succ_iff_lt_or_eq.1 hk with hk | rfl
   ·exact hinv k hk
   intro p' hp'
   rw [hpx] at hp'
   cases hp'
   exact ⟨hmem,fun j' q hj' hq=>hin2 j' q (by omega) hq⟩
 ·have hge:pl ≤ i:=by simpa using hc
  (conv=>whnf);(repeat (refine ⟨rfl,?_⟩;conv=>whnf))
  rw [hf]
  exact ⟨⟨_,rfl,bool_yes ⟨rfl,hB1,hB2,hlenE,hL ▸ hcov,hL ▸ (solo_all fun k hk=>hinv k (by omega)).1 rfl⟩⟩,(hle.trans h₃).lg⟩
end Go.Proofs
namespace Go.TM
variable {T:Type} {σ:View T}
theorem pairs_take {a:Option Addr} {len i:Nat} {l:List (Int × Int)} (h:PairsV σ a len l) (hi:i ≤ len):PairsV σ a i (l.take i):=
 ⟨by rw [List.length_take,h.1];omega,fun j x hx=>h.2 j x (by rw [List.getElem?_take] at hx;split at hx;exact hx;cases hx)⟩
end Go.TM
namespace Go.Proofs
open Go.TM
set_option maxRecDepth 100000
variable {T:Type} {S:TM.Sys Tryz.prog T} {σ:View T}
attribute [local irreducible] CallsV YieldV rngX
theorem Tryz.allPairs_ok (h:TH) (t:Tbl) (ht:TabV σ.frz h t) (k:KH) (tk:Talk) (ha:Ints σ.frz k.aa k.al tk.a) (hb:Ints σ.frz k.ba k.bl tk.b) (hal:k.al ≤ 8) (hbl:k.bl ≤ 8) (b3 b4 b5:Nat)
  (hb3:Blk σ.frz b3 (KH.cs h k tk).toArray) (hb4:Blk σ.frz b4 #[.slice none 0 0]) (hb5:Blk σ.frz b5 #[.slice none 0 0]) :
  CallsV S 91 #[.func (.func 129) #[] #[.pointer (some ⟨b3,0,none⟩),.pointer (some ⟨b4,0,none⟩),.pointer (some ⟨b5,0,none⟩)]] (fun v σ'=>PairsN σ'.frz v (t.prs tk) ∧ σ.le σ') σ:=by
 refine (Tryz.talkPairs_ok h t ht k tk ha hb hal hbl b3 b4 b5 none 0 0 [] ⟨rfl,by simp⟩ (by omega) hb3 hb4 hb5).sep fun v σ' hs ⟨ha,hI,ht⟩=>?_
 obtain ⟨σ'',k1,k2,k3⟩:=ha.pairsN hs hI ht
 exact ⟨σ'',k1,k3,k2⟩
set_option maxHeartbeats 4000000 in
theorem Tryz.proves_ok (h:TH) (t:Tbl) (ht:TabV σ.frz h t) (e lv:Int) (a a' xa ya pa:Option Addr) (len cap len' cap' xl xc yl yc pl pc:Nat) (l l' x y:List Int) (ps:List (Int × Int))
  (hl:Ints σ.frz a len l) (hl':Ints σ.frz a' len' l') (hlen:len < 2 ^ 60) (hlen':len' < 2 ^ 60) (hx:Ints σ.frz xa xl x) (hxl:xl < 2 ^ 60) (hy:Ints σ.frz ya yl y) (hyl:yl < 2 ^ 60) (hp:PairsV σ.frz pa pl ps) (hpl:pl < 2 ^ 60) (hpc:pl ≤ pc) :
  CallsV S 60 #[h.v,.int .i64 e,.slice a len cap,.slice a' len' cap',.int .i64 lv,.slice xa xl xc,.slice ya yl yc,.slice pa pl pc]
   (fun v σ'=>(∃ B:Bool,v = .tuple #[.bool B,.int .i64 (t.talkF e l l' lv)] ∧ (B = true ↔ t.talkF e l l' lv = 0 ∧ t.Prov ⟨e,lv,l,l'⟩ x y ps)) ∧ σ' = σ) σ:=by
 refine CallsV.pure' (Q:=fun v=>∃ B:Bool,v = .tuple #[.bool B,.int .i64 (t.talkF e l l' lv)] ∧ (B = true ↔ t.talkF e l l' lv = 0 ∧ t.Prov ⟨e,lv,l,l'⟩ x y ps)) (CallsV.of (args:=[_,_,_,_,_,_,_,_]) Tryz.k60 Tryz.mixed (by simp) ?_)
 have hll:=hl.1
 have hll':=hl'.1
 have hxx:=hx.1
 have hyy:=hy.1
 have hpp:=hp.1
 (conv=>whnf);(repeat (refine ⟨rfl,?_⟩;conv=>whnf))
 intro b8 σ₁ h₁ hb
 (conv=>whnf)
 intro b16 hf16
 refine ⟨_,.refl _,?_⟩
 (conv=>whnf)
 intro b17 hf17
 refine ⟨_,.refl _,?_⟩
 have hM₁:((σ₁.put b16 (.cells #[.bool false] 4)).put b17 (.cells #[.int .i64 0] 32)).M = .obj b17 (.cells #[.int .i64 0] 32 (0,0)) :: .obj b16 (.cells #[.bool false] 4 (0,0)) :: σ.M:=by show _ :: _ :: σ₁.M = _;rw [h₁.own]
 have hl₁:σ.frz.lg ((σ₁.put b16 (.cells #[.bool false] 4)).put b17 (.cells #[.int .i64 0] 32)):=(frz_self.trans h₁.lg).trans ((lg_put _ _).trans (lg_put _ _))
 have hb:Blk ((σ₁.put b16 (.cells #[.bool false] 4)).put b17 (.cells #[.int .i64 0] 32)) b8 #[.slice h.ea h.el h.ec,.slice h.ma h.ml h.mc,.slice h.ka h.kl h.kc]:=hb
 generalize ((σ₁.put b16 (.cells #[.bool false] 4)).put b17 (.cells #[.int .i64 0] 32)) = σ₂ at hM₁ hl₁ hb ⊢
 (conv=>whnf)
 refine ⟨_,⟨rfl,hb.rdT fun _ _ h=>h⟩,?_⟩
 (conv=>whnf)
 refine ⟨Tryz.k90.any,(Tryz.talk_ok h t (ht.lg hl₁) e lv a a' len cap len' cap' l l' (hl.lg hl₁) (hl'.lg hl₁) hlen hlen').mono ?_⟩
 rintro _ σ' ⟨rfl,hσ'⟩ -
 obtain rfl:=hσ'.symm
 (conv=>whnf)
 intro b18 hf18
 refine ⟨_,.refl _,?_⟩
 (conv=>whnf)
 refine ⟨rfl,st_new (vs:=KH.cs h ⟨a,len,cap,a',len',cap'⟩ ⟨e,lv,l,l'⟩) hf18 rfl (by simp [KH.cs,Value.single]) fun σ₃ h₃ hb18=>?_⟩
 have hM₃:=h₃.own.trans hM₁
 have hl₃:=frz_le hl₁ h₃
 clear hM₁ hl₁ hb hf16 hf17 hf18 h₃
 (conv=>whnf);(repeat (refine ⟨rfl,?_⟩;conv=>whnf))
 refine cb_split (fun hc=>?_) (fun hc=>?_)
 ·have hf:t.talkF e l l' lv ≠ 0:=by simpa using hc
  (conv=>whnf)
  refine ⟨rfl,?_⟩
  show StV ⟨b16,0,none⟩ [.bool false] 0 _ _
  refine st_all [_] hM₃ rfl (by simp [Value.single]) ?_
  (conv=>whnf)
  refine ⟨rfl,?_⟩
  show StV ⟨b17,0,none⟩ [.int .i64 (t.talkF e l l' lv)] 0 _ _
  refine st_all [] rfl rfl (by simp [Value.single]) ?_
  (conv=>whnf)
  refine ⟨.bool false,reads_at [_] rfl 0 _ rfl,?_⟩
  (conv=>whnf)
  refine ⟨.int .i64 (t.talkF e l l' lv),reads_at [] rfl 0 _ rfl,?_⟩
  (conv=>whnf)
  exact ⟨⟨_,rfl,bool_no fun h=>hf h.1⟩,⟨hl₃.imm,⟨[_,_],rfl⟩,hl₃.tok⟩⟩
 have hf:t.talkF e l l' lv = 0:=by simpa using hc
 obtain ⟨hfl,hed,hc1,hc2,hlv⟩:=Tbl.talk_two hf
 have l8:l.length ≤ 8:=chk_len8 hfl hc1
 have l8':l'.length ≤ 8:=chk_len8 hfl hc2
 have hn:=Tbl.prs_len t ⟨e,lv,l,l'⟩
 have hn64:l.length * l'.length ≤ 8 * 8:=Nat.mul_le_mul l8 l8'
 have hn:(t.prs ⟨e,lv,l,l'⟩).length ≤ 64:=Nat.le_trans hn hn64
 (conv=>whnf)
 refine ⟨Tryz.k103.any,(Tryz.isPart_ok xa a xl xc len cap x l (hx.lg hl₃) hxl (hl.lg hl₃) hlen).mono ?_⟩
 rintro _ σ' ⟨⟨B1,rfl,hB1⟩,hσ'⟩ -
 obtain rfl:=hσ'.symm
 cases B1 with
 | false=>
  (conv=>whnf)
  refine ⟨rfl,?_⟩
  show StV ⟨b16,0,none⟩ [.bool false] 0 _ _
  refine st_all [_] hM₃ rfl (by simp [Value.single]) ?_
  (conv=>whnf)
  refine ⟨rfl,?_⟩
  show StV ⟨b17,0,none⟩ [.int .i64 0] 0 _ _
  refine st_all [] rfl rfl (by simp [Value.single]) ?_
  (conv=>whnf)
  refine ⟨.bool false,reads_at [_] rfl 0 _ rfl,?_⟩
  (conv=>whnf)
  refine ⟨.int .i64 0,reads_at [] rfl 0 _ rfl,?_⟩
  (conv=>whnf)
  rw [hf]
  exact ⟨⟨_,rfl,bool_no fun h=>Bool.false_ne_true (hB1.2 h.2.1)⟩,⟨hl₃.imm,⟨[_,_],rfl⟩,hl₃.tok⟩⟩
 | true=>
 have hB1:=hB1.1 rfl
 (conv=>whnf)
 refine ⟨Tryz.k103.any,(Tryz.isPart_ok ya a' yl yc len' cap' y l' (hy.lg hl₃) hyl (hl'.lg hl₃) hlen').mono ?_⟩
 rintro _ σ' ⟨⟨B2,rfl,hB2⟩,hσ'⟩ -
 obtain rfl:=hσ'.symm
 cases B2 with
 | false=>
  (conv=>whnf)
  refine ⟨rfl,?_⟩
  show StV ⟨b16,0,none⟩ [.bool false] 0 _ _
  refine st_all [_] hM₃ rfl (by simp [Value.single]) ?_
  (conv=>whnf)
  refine ⟨rfl,?_⟩
  show StV ⟨b17,0,none⟩ [.int .i64 0] 0 _ _
  refine st_all [] rfl rfl (by simp [Value.single]) ?_
  (conv=>whnf)
  refine ⟨.bool false,reads_at [_] rfl 0 _ rfl,?_⟩
  (conv=>whnf)
  refine ⟨.int .i64 0,reads_at [] rfl 0 _ rfl,?_⟩
  (conv=>whnf)
  rw [hf]
  exact ⟨⟨_,rfl,bool_no fun h=>Bool.false_ne_true (hB2.2 h.2.2.1)⟩,⟨hl₃.imm,⟨[_,_],rfl⟩,hl₃.tok⟩⟩
 | true=>
 have hB2:=hB2.1 rfl
 (conv=>whnf)
 refine ⟨by unfold InR;omega,?_⟩
 (conv=>whnf);(repeat (refine ⟨rfl,?_⟩;conv=>whnf))
 refine cb_split (fun hc=>?_) (fun hc=>?_)
 ·have hne:ps.length ≠ x.length + y.length:=by
   have h1:(pl:Int) ≠ (xl:Int) + (yl:Int):=by simpa using hc
   omega
  (conv=>whnf)
  refine ⟨rfl,?_⟩
  show StV ⟨b16,0,none⟩ [.bool false] 0 _ _
  refine st_all [_] hM₃ rfl (by simp [Value.single]) ?_
  (conv=>whnf)
  refine ⟨rfl,?_⟩
  show StV ⟨b17,0,none⟩ [.int .i64 0] 0 _ _
  refine st_all [] rfl rfl (by simp [Value.single]) ?_
  (conv=>whnf)
  refine ⟨.bool false,reads_at [_] rfl 0 _ rfl,?_⟩
  (conv=>whnf)
  refine ⟨.int .i64 0,reads_at [] rfl 0 _ rfl,?_⟩
  (conv=>whnf)
  rw [hf]
  exact ⟨⟨_,rfl,bool_no fun h=>hne h.2.2.2.1⟩,⟨hl₃.imm,⟨[_,_],rfl⟩,hl₃.tok⟩⟩
 have hlenE:ps.length = x.length + y.length:=by
  have h1:(pl:Int) = (xl:Int) + (yl:Int):=by simpa using hc
  omega
 (conv=>whnf)
 refine ⟨KH.cs h ⟨a,len,cap,a',len',cap'⟩ ⟨e,lv,l,l'⟩,⟨rfl,Blk.rdI hb18 (fun _ _ h=>h)⟩,?_⟩
 (conv=>whnf)
 refine ⟨Tryz.k92.any,(Tryz.pairs_ok h ⟨a,len,cap,a',len',cap'⟩ ⟨e,lv,l,l'⟩ xa ya xl xc yl yc).mono ?_⟩
 rintro _ σ₄ ⟨⟨p3,p4,p5,rfl,hp3,hp4,hp5⟩,h₄⟩ -
 have hM₄:=h₄.own.trans hM₃
 have hl₄:=frz_le hl₃ h₄
 have hb18:=hb18.le h₄
 clear hM₃ hl₃ h₄
 have hit:∀ l₀ σ₁,σ₄.frz.lg σ₁ → IterV S 129 #[.func (.yield l₀) #[] #[],.pointer (some ⟨p3,0,none⟩),.pointer (some ⟨p4,0,none⟩),.pointer (some ⟨p5,0,none⟩)] l₀ ((t.reach ⟨e,lv,l,l'⟩ x y).map encA) σ₁:=fun l₀ σ₁ hl₁=>by
  have hg:=hl₁.frz2
  have hq:=hl₄.frz2.trans hg
  exact Tryz.pairsIt_ok h t (ht.lg hq) ⟨a,len,cap,a',len',cap'⟩ ⟨e,lv,l,l'⟩ (hl.lg hq) (hl'.lg hq) xa ya xl xc yl yc x y (hx.lg hq) (hy.lg hq) hlen hlen' hxl hyl p3 p4 p5 l₀ (hp3.imI hl₁.imm) (hp4.imI hl₁.imm) (hp5.imI hl₁.imm)
 have hcov:t.reach ⟨e,lv,l,l'⟩ x y = [] ↔ ∀ p,p ∈ t.prs ⟨e,lv,l,l'⟩ → p.1 ∈ x ∨ p.2 ∈ y:=by
  rw [List.eq_nil_iff_forall_not_mem]
  constructor
  ·intro hno p hp
   obtain ⟨m1,m2,m3⟩:=Tbl.mem_prs.1 hp
   by_cases c1:p.1 ∈ x
   ·exact .inl c1
   by_cases c2:p.2 ∈ y
   ·exact .inr c2
   exact absurd (Tbl.mem_reach.2 ⟨m1,m2,c1,c2,m3⟩) (hno p)
  ·intro hall p hp
   obtain ⟨m1,m2,c1,c2,m3⟩:=Tbl.mem_reach.1 hp
   rcases hall p (Tbl.mem_prs.2 ⟨m1,m2,m3⟩) with h | h
   ·exact c1 h
   ·exact c2 h
 generalize hR:t.reach ⟨e,lv,l,l'⟩ x y = R at hit hcov
 (conv=>whnf)
 let Inv:Nat → View T → Prop:=fun k σ'=>k = 0 ∧ σ₄.frz.lg σ' ∧ σ'.M = .obj b17 (.cells #[.int .i64 0] 32 (0,0)) :: .obj b16 (.cells #[.bool false] 4 (0,0)) :: σ.M
 let Rt:View T → Prop:=fun σ'=>R ≠ [] ∧ σ₄.frz.lg σ' ∧ σ'.M = .obj b17 (.cells #[.int .i64 0] 32 (0,0)) :: .obj b16 (.cells #[.bool false] 4 (0,0)) :: σ.M
 refine rngX_iter Tryz.mixed (R.map encA) Inv (fun _ _=>False) Rt rfl rfl Tryz.k129.any hit ?_ ⟨?_,?_⟩ ?_ ?_ ?_ ?_ ?_
 ·intro p hp
  obtain ⟨q,_,rfl⟩:=List.mem_map.1 hp
  rfl
 ·rintro k σ' σ'' hle ⟨h0,hl,hM⟩
  exact ⟨h0,frz_le hl hle,hle.own.trans hM⟩
 ·rintro k σ' ⟨_,hl,_⟩
  exact hl
 ·exact ⟨rfl,frz_self,hM₄⟩
 ·intro l₀ A B D k p σ₀ KN KX KR KA hp ⟨h0,hl,hM⟩ hKN hKX hKR hKA
  have hne:R ≠ []:=by rintro rfl;simp at hp
  obtain ⟨q,hq,rfl⟩:∃ q,R[k]? = some q ∧ p = encA q:=by
   rw [List.getElem?_map] at hp
   cases hq:R[k]? with
   | none=>rw [hq] at hp;cases hp
   | some q=>rw [hq] at hp;cases hp;exact ⟨q,rfl,rfl⟩
  (conv=>whnf)
  refine hKA _ σ₀ ?_
  (conv=>whnf)
  refine ⟨rfl,?_⟩
  show StV ⟨b16,0,none⟩ [.bool false] 0 _ _
  refine st_all [B,D,_] (by show B :: D :: σ₀.M = _;rw [hM];rfl) rfl (by simp [Value.single]) ?_
  (conv=>whnf)
  refine ⟨rfl,?_⟩
  show StV ⟨b17,0,none⟩ [.int .i64 0] 0 _ _
  refine st_all [B,D] rfl rfl (by simp [Value.single]) ?_
  (conv=>whnf)
  exact hKR _ _ ({ σ₀ with M:=.obj b17 (.cells #[.int .i64 0] 32 (0,0)) :: .obj b16 (.cells #[.bool false] 4 (0,0)) :: σ.M }:View T) ⟨hne,⟨hl.imm,⟨_,(List.append_nil _).symm⟩,hl.tok⟩,rfl⟩
 rotate_left
 ·rintro d l₀ A i σ₃ hX
  exact hX.elim
 ·rintro d l₀ A σ₃ ⟨hne,hl₅,hM₅⟩
  have hM₆:(σ₃.on (.obj l₀ A) (.obj d (.deferred (some [])))).M = [.obj l₀ A,.obj d (.deferred (some [])),.obj b17 (.cells #[.int .i64 0] 32 (0,0))] ++ .obj b16 (.cells #[.bool false] 4 (0,0)) :: σ.M:=by show _ :: _ :: σ₃.M = _;rw [hM₅];rfl
  have hM₇:(σ₃.on (.obj l₀ A) (.obj d (.deferred (some [])))).M = [.obj l₀ A,.obj d (.deferred (some []))] ++ .obj b17 (.cells #[.int .i64 0] 32 (0,0)) :: .obj b16 (.cells #[.bool false] 4 (0,0)) :: σ.M:=by show _ :: _ :: σ₃.M = _;rw [hM₅];rfl
  have hI₅:σ.lg (σ₃.on (.obj l₀ A) (.obj d (.deferred (some [])))):=⟨fun b o h=>hl₅.imm b o (hl₄.imm b o h),⟨_,hM₆.trans (by rw [List.append_cons])⟩,hl₅.tok.trans hl₄.tok⟩
  generalize (σ₃.on (.obj l₀ A) (.obj d (.deferred (some [])))) = σ₅ at hM₆ hM₇ hI₅ ⊢
  (conv=>whnf)
  refine ⟨.obj l₀ A :: .obj d (.deferred none) :: .obj b17 (.cells #[.int .i64 0] 32 (0,0)) :: .obj b16 (.cells #[.bool false] 4 (0,0)) :: σ.M,by rw [hM₇];exact .there .here,?_⟩
  (conv=>whnf)
  refine ⟨.bool false,reads_at [_,_,_] rfl 0 _ rfl,?_⟩
  (conv=>whnf)
  refine ⟨.int .i64 0,reads_at [_,_] rfl 0 _ rfl,?_⟩
  (conv=>whnf)
  rw [hf]
  exact ⟨⟨_,rfl,bool_no fun h=>hne (hcov.2 h.2.2.2.2.1)⟩,⟨hI₅.imm,⟨[_,_,_,_],rfl⟩,hI₅.tok⟩⟩
 ·rintro d l₀ A σ₃ ⟨h0,hl₅,hM₅⟩
  have hRn:R = []:=by rw [List.length_map] at h0;exact List.length_eq_zero_iff.1 h0
  have hcov:=hcov.1 hRn
  have hM₆:(σ₃.on (.obj l₀ A) (.obj d (.deferred (some [])))).M = [.obj l₀ A,.obj d (.deferred (some [])),.obj b17 (.cells #[.int .i64 0] 32 (0,0))] ++ .obj b16 (.cells #[.bool false] 4 (0,0)) :: σ.M:=by show _ :: _ :: σ₃.M = _;rw [hM₅];rfl
  have hI₅:σ.frz.lg (σ₃.on (.obj l₀ A) (.obj d (.deferred (some [])))):=⟨fun b o h=>hl₅.imm b o (hl₄.imm b o h),⟨_,(List.append_nil _).symm⟩,hl₅.tok.trans hl₄.tok⟩
  have hb18:=hb18.imI (σ':=(σ₃.on (.obj l₀ A) (.obj d (.deferred (some []))))) hl₅.imm
  generalize (σ₃.on (.obj l₀ A) (.obj d (.deferred (some [])))) = σ₅ at hM₆ hI₅ hb18 ⊢
  clear hl₅ hM₅ hit hl₄ hM₄ h0 hR hRn
  (conv=>whnf)
  refine ⟨KH.cs h ⟨a,len,cap,a',len',cap'⟩ ⟨e,lv,l,l'⟩,⟨rfl,Blk.rdI hb18 (fun _ _ h=>h)⟩,?_⟩
  (conv=>whnf)
  refine ⟨Tryz.k92.any,(Tryz.pairs_ok h ⟨a,len,cap,a',len',cap'⟩ ⟨e,lv,l,l'⟩ none none 0 0 0 0).mono ?_⟩
  rintro _ σ₆ ⟨⟨q3,q4,q5,rfl,hq3,hq4,hq5⟩,h₆⟩ -
  have hf₆:=(hI₅.trans h₆.lg).frz2
  (conv=>whnf)
  refine ⟨Tryz.k91.any,(Tryz.allPairs_ok h t (ht.lg hf₆) ⟨a,len,cap,a',len',cap'⟩ ⟨e,lv,l,l'⟩ (hl.lg hf₆) (hl'.lg hf₆) (by show len ≤ 8;omega) (by show len' ≤ 8;omega) q3 q4 q5 hq3 hq4 hq5).mono ?_⟩
  rintro _ σ₇ ⟨⟨ra,rc,rfl,hrc,hr⟩,h₇⟩ -
  have hM₇:=h₇.own.trans (h₆.own.trans hM₆)
  have hl₇:=frz_le (frz_le hI₅ h₆) h₇
  have hr:PairsV σ₇.frz ra _ (t.prs ⟨e,lv,l,l'⟩):=hr
  have hp:=PairsV.lg hp hl₇.frz2
  clear hM₆ hI₅ h₆ hq3 hq4 hq5 hf₆ h₇ hb18
  have hsolo:∀ B:Bool,(B = true ↔ Solo (t.prs ⟨e,lv,l,l'⟩) ps) → (B = true ↔ (0:Int) = 0 ∧ t.Prov ⟨e,lv,l,l'⟩ x y ps):=fun B hB=>by
   rw [hB]
   exact ⟨fun h=>⟨rfl,hB1,hB2,hlenE,hcov,h⟩,fun h=>h.2.2.2.2.2⟩
  generalize t.prs ⟨e,lv,l,l'⟩ = L at hr hn hsolo
  (conv=>whnf);(repeat (refine ⟨rfl,?_⟩;conv=>whnf))
  refine ⟨Nat,fun i=>[(7,.slice pa pl pc),(16,.pointer (some ⟨b16,0,none⟩)),(17,.pointer (some ⟨b17,0,none⟩)),(20,.slice ra L.length rc),(64,.slice pa pl pc),(65,.int .i64 pl),(66,.int .i64 i)],
   fun i σ'=>σ.frz.lg σ' ∧ σ₇.frz.lg σ' ∧ σ'.M = [.obj l₀ A,.obj d (.deferred (some [])),.obj b17 (.cells #[.int .i64 0] 32 (0,0))] ++ .obj b16 (.cells #[.bool false] 4 (0,0)) :: σ.M ∧ i ≤ pl ∧ ∀ k,k < i → SoloAt L ps k,
   fun i=>pl - i,0,⟨rfl,rfl,rfl,rfl,rfl,rfl,rfl,trivial⟩,⟨hl₇,frz_self,hM₇,by omega,by simp⟩,?_⟩
  clear hM₇
  rintro i f σ₈ ⟨hl₈,hl₇₈,hM₈,hi,hinv⟩
  have hp₈:=PairsV.lg hp hl₇₈
  have hr₈:=PairsV.lg hr hl₇₈
  (conv=>whnf);(repeat (refine ⟨rfl,?_⟩;conv=>whnf))
  refine cb_split (fun hc=>?_) (fun hc=>?_)
  ·have hlt:i < pl:=by simpa using hc
   obtain ⟨ad,p,vs,hpx,hpa,hsp,rfl,-,hrd⟩:=RowsV.at hp₈ hlt
   have hin:InR ((i:Int) + 1):=by unfold InR;omega
   (conv=>whnf)
   refine ⟨ad,i,⟨hpa,rfl,hlt⟩,?_⟩
   (conv=>whnf)
   refine ⟨_,⟨rfl,hrd⟩,?_⟩
   (conv=>whnf)
   intro b22 hf22
   refine ⟨_,.refl _,?_⟩
   (conv=>whnf)
   refine ⟨rfl,st_new (vs:=encII p) hf22 rfl (by simp [encII,Value.single]) fun σ₉ h₉ hb22=>?_⟩
   have hb22:Blk σ₉ b22 #[.int .i64 p.1,.int .i64 p.2]:=hb22
   have hl₉:=frz_le hl₈ h₉
   have hl₇₉:=frz_le hl₇₈ h₉
   have hM₉:=h₉.own.trans hM₈
   have hp₉:=PairsV.lg hp hl₇₉
   have hr₉:=PairsV.lg hr hl₇₉
   (conv=>whnf);(repeat (refine ⟨rfl,?_⟩;conv=>whnf))
   refine ⟨0,i,⟨rfl,rfl,Nat.zero_le _,by omega⟩,?_⟩
   have epa:(if pc = 0 then pa else pa.map (·.add (0 * 2))) = pa:=by
    by_cases h0:pc = 0
    ·rw [if_pos h0]
    ·rw [if_neg h0,hpa];simp [Addr.add,hsp]
   rw [epa,Nat.sub_zero,Nat.sub_zero]
   (conv=>whnf)
   refine ⟨Tryz.k104.any,(Tryz.containsF_ok pa i pc (ps.take i) (pairs_take hp₉ (by omega)) (by omega) 105 #[] #[.pointer (some ⟨b22,0,none⟩)] (shares p) ⟨Tryz.k105.any,fun r _=>Tryz.shares_ok b22 p r hb22⟩).mono ?_⟩
   rintro _ σ' ⟨rfl,hσ'⟩ -
   obtain rfl:=hσ'.symm
   cases hsh:(ps.take i).any (shares p) with
   | true=>
    have hbad:¬ SoloAt L ps i:=fun h=>by
     obtain ⟨q,hq,hqs⟩:=List.any_eq_true.1 hsh
     obtain ⟨j,hj,hjq⟩:=List.mem_take_iff_getElem.1 hq
     have h2:=(h p hpx).2 j q (by omega) (by rw [← hjq];simp)
     unfold shares at hqs
     simp only [Bool.or_eq_true,beq_iff_eq] at hqs
     rcases hqs with e | e
     ·exact h2.1 e
     ·exact h2.2 e
    (conv=>whnf)
    refine ⟨rfl,?_⟩
    show StV ⟨b16,0,none⟩ [.bool false] 0 _ _
    refine st_all [_,_,_] hM₉ rfl (by simp [Value.single]) ?_
    (conv=>whnf)
    refine ⟨rfl,?_⟩
    show StV ⟨b17,0,none⟩ [.int .i64 0] 0 _ _
    refine st_all [_,_] rfl rfl (by simp [Value.single]) ?_
    (conv=>whnf)
    refine ⟨_,.there .here,?_⟩
    (conv=>whnf)
    refine ⟨.bool false,reads_at [_,_,_] rfl 0 _ rfl,?_⟩
    (conv=>whnf)
    refine ⟨.int .i64 0,reads_at [_,_] rfl 0 _ rfl,?_⟩
    (conv=>whnf)
    rw [hf]
    exact ⟨⟨_,rfl,hsolo _ (solo_bad hbad)⟩,⟨hl₉.imm,⟨[_,_,_,_],rfl⟩,hl₉.tok⟩⟩
   | false=>
    (conv=>whnf)
    refine ⟨_,⟨rfl,hb22.reads (vs:=encII p) (fun k v hv=>by simpa [encII] using hv)⟩,?_⟩
    (conv=>whnf)
    refine ⟨Tryz.k106.any,(Tryz.containsP_ok ra L.length rc L hr₉ (by omega) p).mono ?_⟩
    rintro _ σ' ⟨rfl,hσ'⟩ -
    obtain rfl:=hσ'.symm
    cases hcp:L.contains p with
    | false=>
     have hbad:¬ SoloAt L ps i:=fun h=>by
      rw [List.contains_iff_mem.2 (h p hpx).1] at hcp
      cases hcp
     (conv=>whnf)
     refine ⟨rfl,?_⟩
     show StV ⟨b16,0,none⟩ [.bool false] 0 _ _
     refine st_all [_,_,_] hM₉ rfl (by simp [Value.single]) ?_
     (conv=>whnf)
     refine ⟨rfl,?_⟩
     show StV ⟨b17,0,none⟩ [.int .i64 0] 0 _ _
     refine st_all [_,_] rfl rfl (by simp [Value.single]) ?_
     (conv=>whnf)
     refine ⟨_,.there .here,?_⟩
     (conv=>whnf)
     refine ⟨.bool false,reads_at [_,_,_] rfl 0 _ rfl,?_⟩
     (conv=>whnf)
     refine ⟨.int .i64 0,reads_at [_,_] rfl 0 _ rfl,?_⟩
     (conv=>whnf)
     rw [hf]
     exact ⟨⟨_,rfl,hsolo _ (solo_bad hbad)⟩,⟨hl₉.imm,⟨[_,_,_,_],rfl⟩,hl₉.tok⟩⟩
    | true=>
     have hgood:SoloAt L ps i:=fun p' hp'=>by
      rw [hpx] at hp'
      cases hp'
      refine ⟨List.contains_iff_mem.1 hcp,fun j q hj hq=>?_⟩
      have hm:q ∈ ps.take i:=List.mem_take_iff_getElem.2 ⟨j,by have:=(List.getElem?_eq_some_iff.1 hq).1;omega,(List.getElem?_eq_some_iff.1 hq).2⟩
      have hns:shares p q = false:=by
       cases hs:shares p q with
       | false=>rfl
       | true=>rw [List.any_eq_true.2 ⟨q,hm,hs⟩] at hsh;cases hsh
      unfold shares at hns
      simpa using hns
     (conv=>whnf)
     refine ⟨hin,?_⟩
     (conv=>whnf)
     refine ⟨rfl,i + 1,⟨rfl,rfl,rfl,rfl,rfl,rfl,rfl,trivial⟩,⟨hl₉,hl₇₉,hM₉,by omega,fun k hk=>?_⟩,by show _ - _ < _ - _;omega⟩
     rcases Nat.lt_succ_iff_lt_or_eq.1 hk with hk | rfl
     ·exact hinv k hk
     ·exact hgood
  ·have hge:pl ≤ i:=by simpa using hc
   (conv=>whnf)
   refine ⟨rfl,?_⟩
   show StV ⟨b16,0,none⟩ [.bool true] 0 _ _
   refine st_all [_,_,_] hM₈ rfl (by simp [Value.single]) ?_
   (conv=>whnf)
   refine ⟨rfl,?_⟩
   show StV ⟨b17,0,none⟩ [.int .i64 0] 0 _ _
   refine st_all [_,_] rfl rfl (by simp [Value.single]) ?_
   (conv=>whnf)
   refine ⟨_,.there .here,?_⟩
   (conv=>whnf)
   refine ⟨.bool true,reads_at [_,_,_] rfl 0 _ rfl,?_⟩
   (conv=>whnf)
   refine ⟨.int .i64 0,reads_at [_,_] rfl 0 _ rfl,?_⟩
   (conv=>whnf)
   rw [hf]
   exact ⟨⟨_,rfl,hsolo _ (solo_all fun k hk=>hinv k (by omega))⟩,⟨hl₈.imm,⟨[_,_,_,_],rfl⟩,hl₈.tok⟩⟩
end Go.Proofs
