/- A part of the proof: lemmas that the last text uses. No conditions of its own. -/
import Derived.Test.YtebpcmdnecenlaaGreatE26
import Derived.Test.YtebpcmdnecenlaaGreatC01
import Derived.Test.YtebpcmdnecenlaaGreatE29
import Derived.Test.YtebpcmdnecenlaaGreatE08
import Derived.Test.YtebpcmdnecenlaaGreatE09
import Derived.Test.YtebpcmdnecenlaaGreatE10
import Derived.Test.YtebpcmdnecenlaaGreatC00
set_option linter.unusedSimpArgs false
set_option linter.unusedVariables false
namespace Go.TM
variable {T:Type} {σ:View T}
theorem ListsV.four {b:Nat} {a1 a2 a3 a4:Option Addr} {n1 n2 n3 n4 c1 c2 c3 c4:Nat} {l1 l2 l3 l4:List Int} (hb:Blk σ b #[.slice a1 n1 c1,.slice a2 n2 c2,.slice a3 n3 c3,.slice a4 n4 c4]) (h1:Ints σ a1 n1 l1) (h2:Ints σ a2 n2 l2) (h3:Ints σ a3 n3 l3) (h4:Ints σ a4 n4 l4)
  (k1:n1 < 2 ^ 60) (k2:n2 < 2 ^ 60) (k3:n3 < 2 ^ 60) (k4:n4 < 2 ^ 60):ListsV σ (some ⟨b,0,none⟩) 4 [l1,l2,l3,l4]:=by
 refine ⟨rfl,fun i x hx=>?_⟩
 have hi:i = 0 ∨ i = 1 ∨ i = 2 ∨ i = 3:=by have:=(List.getElem?_eq_some_iff.1 hx).1;simp at this;omega
 rcases hi with rfl | rfl | rfl | rfl <;> cases hx
 ·refine ⟨_,_,rfl,rfl,⟨a1,n1,c1,rfl,h1,k1⟩,rfl,fun i v hv=>?_⟩
  cases i with
  | zero=>simp at hv;subst hv;rw [Nat.zero_mul,add_none,add_none];exact hb.sees rfl
  | succ i=>simp at hv
 ·refine ⟨_,_,rfl,rfl,⟨a2,n2,c2,rfl,h2,k2⟩,rfl,fun i v hv=>?_⟩
  cases i with
  | zero=>simp at hv;subst hv;rw [add_none,add_none];exact hb.sees rfl
  | succ i=>simp at hv
 ·refine ⟨_,_,rfl,rfl,⟨a3,n3,c3,rfl,h3,k3⟩,rfl,fun i v hv=>?_⟩
  cases i with
  | zero=>simp at hv;subst hv;rw [add_none,add_none];exact hb.sees rfl
  | succ i=>simp at hv
 ·refine ⟨_,_,rfl,rfl,⟨a4,n4,c4,rfl,h4,k4⟩,rfl,fun i v hv=>?_⟩
  cases i with
  | zero=>simp at hv;subst hv;rw [add_none,add_none];exact hb.sees rfl
  | succ i=>simp at hv
end Go.TM
namespace Go.Proofs
open Go.TM
set_option maxRecDepth 100000
attribute [local irreducible] CallsV YieldV rngX
set_option maxHeartbeats 4000000 in
theorem Tryz.goodsProves_top {σ:View Tk} (htok:σ.tok = ⟨0,.out⟩) (h:TH) (t:Tbl) (ht:TabV σ.frz h t) (ed:Int) (a:Option Addr) (len cap:Nat) (l:List Int) (hl:Ints σ.frz a len l) (hlen:len < 2 ^ 60)
  (a':Option Addr) (len' cap':Nat) (l':List Int) (hl':Ints σ.frz a' len' l') (hlen':len' < 2 ^ 60) (lv:Int) (xa:Option Addr) (xl xc:Nat) (x:List Int) (hx:Ints σ.frz xa xl x) (hxl:xl < 2 ^ 60)
  (ya:Option Addr) (yl yc:Nat) (y:List Int) (hy:Ints σ.frz ya yl y) (hyl:yl < 2 ^ 60) (pa:Option Addr) (pl pc:Nat) (ps:List (Int × Int)) (hp:PairsV σ.frz pa pl ps) (hpl:pl < 2 ^ 60) (hpc:pl ≤ pc) :
  J (SysG Tryz.prog 164 2) (Fin Tryz.prog fun v σ'=>v = .bool true ∧ σ.lg σ') true (Rf (Frame.enter Tryz.prog 21 #[h.v,.int .i64 ed,.slice a len cap,.slice a' len' cap',.int .i64 lv,.slice xa xl xc,.slice ya yl yc,.slice pa pl pc] .normal) []) σ:=by
 refine top_of (args:=[_,_,_,_,_,_,_,_]) (Q:=fun v σ'=>v = .bool true ∧ σ.lg σ') Tryz.k21 Tryz.mixed (by kernel_rfl) (by simp) (fun v σ' q=>q.2.tok.trans htok) ?_
 (conv=>whnf);(repeat (refine ⟨rfl,?_⟩;conv=>whnf))
 intro b σ₁ h₁ hb
 have hb:Blk σ₁ b #[.slice h.ea h.el h.ec,.slice h.ma h.ml h.mc,.slice h.ka h.kl h.kc]:=hb
 have ht:=ht.lg h₁.frz2
 have hl:=hl.lg h₁.frz2
 have hl':=hl'.lg h₁.frz2
 have hx:=hx.lg h₁.frz2
 have hy:=hy.lg h₁.frz2
 have hp:=PairsV.lg hp h₁.frz2
 have stocks:∀ σ₂:View Tk,σ.le σ₂ → CallsV (SysG Tryz.prog 164 2) 26 #[] (fun v σ'=>v = .bool true ∧ σ' = σ₂) σ₂:=fun σ₂ h=>Tryz.stocks_ok (h.tok.trans htok)
 (conv=>whnf)
 refine ⟨_,⟨rfl,hb.rdT fun _ _ h=>h⟩,?_⟩
 (conv=>whnf)
 refine ⟨Tryz.k24.any,(Tryz.big_ok h t (ht.lg frz_self)).mono ?_⟩
 rintro _ σ' ⟨⟨B,rfl⟩,hσ'⟩ -
 obtain rfl:=hσ'.symm
 cases B with
 | true=>
  (conv=>whnf)
  refine ⟨Tryz.k26.any,(stocks _ h₁).mono ?_⟩
  rintro _ σ' ⟨rfl,hσ'⟩ -
  obtain rfl:=hσ'.symm
  (conv=>whnf);(repeat (refine ⟨rfl,?_⟩;conv=>whnf))
  exact h₁.lg
 | false=>
 (conv=>whnf)
 intro b28 hf28
 refine put_new hf28 fun σ₂ h₂ hb28=>?_
 have hb28:Blk σ₂ b28 #[.slice a len cap,.slice a' len' cap',.slice xa xl xc,.slice ya yl yc]:=hb28
 have hle₂:=h₁.trans h₂
 have hb:=hb.le h₂
 have ht:=ht.lg h₂.frz2
 have hl:=hl.lg h₂.frz2
 have hl':=hl'.lg h₂.frz2
 have hx:=hx.lg h₂.frz2
 have hy:=hy.lg h₂.frz2
 have hp:=PairsV.lg hp h₂.frz2
 (conv=>whnf)
 refine ⟨Tryz.k25.any,(Tryz.long2_ok (some ⟨b28,0,none⟩) 4 4 [l,l',x,y] (.four hb28 (hl.lg frz_self) (hl'.lg frz_self) (hx.lg frz_self) (hy.lg frz_self) hlen hlen' hxl hyl) (by omega)).mono ?_⟩
 rintro _ σ' ⟨⟨B',rfl,hB'⟩,hσ'⟩ -
 obtain rfl:=hσ'.symm
 cases B' with
 | true=>
  (conv=>whnf)
  refine ⟨Tryz.k26.any,(stocks _ hle₂).mono ?_⟩
  rintro _ σ' ⟨rfl,hσ'⟩ -
  obtain rfl:=hσ'.symm
  (conv=>whnf);(repeat (refine ⟨rfl,?_⟩;conv=>whnf))
  exact hle₂.lg
 | false=>
 (conv=>whnf);(repeat (refine ⟨rfl,?_⟩;conv=>whnf))
 refine cb_split (fun hc=>?_) (fun hc=>?_)
 ·(conv=>whnf)
  refine ⟨Tryz.k26.any,(stocks _ hle₂).mono ?_⟩
  rintro _ σ' ⟨rfl,hσ'⟩ -
  obtain rfl:=hσ'.symm
  (conv=>whnf);(repeat (refine ⟨rfl,?_⟩;conv=>whnf))
  exact hle₂.lg
 (conv=>whnf)
 refine ⟨_,⟨rfl,hb.rdT fun _ _ h=>h⟩,?_⟩
 (conv=>whnf)
 refine ⟨Tryz.k60.any,(Tryz.proves_ok h t ht ed lv a a' xa ya pa len cap len' cap' xl xc yl yc pl pc l l' x y ps hl hl' hlen hlen' hx hxl hy hyl hp hpl hpc).mono ?_⟩
 rintro _ σ' ⟨⟨B1,rfl,hB1⟩,hσ'⟩ -
 obtain rfl:=hσ'.symm
 (conv=>whnf)
 refine ⟨_,⟨rfl,hb.rdT fun _ _ h=>h⟩,?_⟩
 (conv=>whnf)
 refine ⟨Tryz.k61.any,(Tryz.provesR_ok h t ht ed lv a a' xa ya pa len cap len' cap' xl xc yl yc pl pc l l' x y ps hl hl' hlen hlen' hx hxl hy hyl hp hpl).mono ?_⟩
 rintro _ σ' ⟨⟨B2,rfl,hB2⟩,hσ'⟩ -
 obtain rfl:=hσ'.symm
 obtain rfl:B1 = B2:=by rw [Bool.eq_iff_iff,hB1,hB2]
 (conv=>whnf)
 rw [show (B1 == B1) = true by simp]
 (conv=>whnf);(repeat (refine ⟨rfl,?_⟩;conv=>whnf))
 rw [show (t.talkF ed l l' lv == t.talkF ed l l' lv) = true by simp]
 (conv=>whnf)
 refine ⟨Tryz.k26.any,(stocks _ hle₂).mono ?_⟩
 rintro _ σ' ⟨rfl,hσ'⟩ -
 obtain rfl:=hσ'.symm
 (conv=>whnf);(repeat (refine ⟨rfl,?_⟩;conv=>whnf))
 exact hle₂.lg
end Go.Proofs
