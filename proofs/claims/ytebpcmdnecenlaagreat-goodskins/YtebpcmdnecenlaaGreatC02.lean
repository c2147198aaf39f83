/- A part of the proof: lemmas that the last text uses. No conditions of its own. -/
import Derived.Test.YtebpcmdnecenlaaGreatD44
import Derived.Test.YtebpcmdnecenlaaGreatC01
import Derived.Test.YtebpcmdnecenlaaGreatD47
import Derived.Test.YtebpcmdnecenlaaGreatD08
import Derived.Test.YtebpcmdnecenlaaGreatD09
import Derived.Test.YtebpcmdnecenlaaGreatD10
import Derived.Test.YtebpcmdnecenlaaGreatC00
set_option linter.unusedSimpArgs false
set_option linter.unusedVariables false
namespace Go.TM
end Go.TM
namespace Go.Proofs
open Go.TM
set_option maxRecDepth 100000
theorem eqv_span (x y:Int):eqvL [.int .i64 x,.int .i64 y] [.int .i64 x,.int .i64 y] = true:=by simp [eqvL,eqv]
attribute [local irreducible] CallsV YieldV rngX
set_option maxHeartbeats 4000000 in
theorem Tryz.goodsKins_top {σ:View Tk} (htok:σ.tok = ⟨0,.out⟩) (h:TH) (t:Tbl) (ht:TabV σ.frz h t) (one two:Int) (a:Option Addr) (len cap:Nat) (l:List Int) (hl:Ints σ.frz a len l) (hlen:len < 2 ^ 60)
  (a':Option Addr) (len' cap':Nat) (l':List Int) (hl':Ints σ.frz a' len' l') (hlen':len' < 2 ^ 60) (lv:Int) :
  J (SysG Tryz.prog 164 8) (Fin Tryz.prog fun v σ'=>v = .bool true ∧ σ.lg σ') true (Rf (Frame.enter Tryz.prog 6 #[h.v,.int .i64 one,.int .i64 two,.slice a len cap,.slice a' len' cap',.int .i64 lv] .normal) []) σ:=by
 refine top_of (args:=[_,_,_,_,_,_]) (Q:=fun v σ'=>v = .bool true ∧ σ.lg σ') Tryz.k6 Tryz.mixed (by kernel_rfl) (by simp) (fun v σ' q=>q.2.tok.trans htok) ?_
 (conv=>whnf);(repeat (refine ⟨rfl,?_⟩;conv=>whnf))
 intro b σ₁ h₁ hb
 have hb:Blk σ₁ b #[.slice h.ea h.el h.ec,.slice h.ma h.ml h.mc,.slice h.ka h.kl h.kc]:=hb
 have ht:=ht.lg h₁.frz2
 have hl:=hl.lg h₁.frz2
 have hl':=hl'.lg h₁.frz2
 have stocks:∀ σ₂:View Tk,σ.le σ₂ → CallsV (SysG Tryz.prog 164 8) 26 #[] (fun v σ'=>v = .bool true ∧ σ' = σ₂) σ₂:=fun σ₂ h=>Tryz.stocks_ok (h.tok.trans htok)
 (conv=>whnf)
 refine ⟨_,⟨rfl,hb.rdT fun _ _ h=>h⟩,?_⟩
 (conv=>whnf)
 refine ⟨Tryz.k24.any,(Tryz.big_ok h t (ht.lg frz_self)).mono ?_⟩
 rintro _ σ' ⟨⟨B,rfl⟩,hσ'⟩ -
 obtain rfl:=hσ'.symm
 (conv=>whnf);(repeat (refine ⟨rfl,?_⟩;conv=>whnf))
 refine gb_split (fun hc=>?_) (fun hc=>?_)
 ·(conv=>whnf)
  intro b24 hf24
  refine put_new hf24 fun σ₂ h₂ hb₂₄=>?_
  have hb₂₄:Blk σ₂ b24 #[.slice a len cap,.slice a' len' cap']:=hb₂₄
  have hle₂:=h₁.trans h₂
  have hb:=hb.le h₂
  have ht:=ht.lg h₂.frz2
  have hl:=hl.lg h₂.frz2
  have hl':=hl'.lg h₂.frz2
  (conv=>whnf)
  refine ⟨Tryz.k25.any,(Tryz.long2_ok (some ⟨b24,0,none⟩) 2 2 [l,l'] (.two hb₂₄ (hl.lg frz_self) (hl'.lg frz_self) hlen hlen') (by omega)).mono ?_⟩
  rintro _ σ' ⟨⟨B',rfl,hB'⟩,hσ'⟩ -
  obtain rfl:=hσ'.symm
  (conv=>whnf);(repeat (refine ⟨rfl,?_⟩;conv=>whnf))
  refine cb_split (fun hc=>?_) (fun hc=>?_)
  ·(conv=>whnf)
   refine ⟨Tryz.k26.any,(stocks _ hle₂).mono ?_⟩
   rintro _ σ' ⟨rfl,hσ'⟩ -
   obtain rfl:=hσ'.symm
   (conv=>whnf);(repeat (refine ⟨rfl,?_⟩;conv=>whnf))
   exact hle₂.lg
  have h20:=hB' hc
  have hl20:len ≤ 20:=by have:=h20 l (by simp);rw [hl.1] at this;exact this
  have hl20':len' ≤ 20:=by have:=h20 l' (by simp);rw [hl'.1] at this;exact this
  (conv=>whnf)
  refine ⟨_,⟨rfl,hb.rdT fun _ _ h=>h⟩,?_⟩
  (conv=>whnf)
  refine ⟨Tryz.k41.any,(Tryz.Kin_ok (hle₂.tok.trans htok) h t ht one two a a' len cap len' cap' l l' (hl.lg frz_self) (hl'.lg frz_self) hlen hlen' fun _=>⟨listS_len _,listS_len _⟩).mono ?_⟩
  rintro _ σ' ⟨rfl,hσ'⟩ -
  obtain rfl:=hσ'.symm
  (conv=>whnf)
  intro b13 hf13
  refine ⟨_,.refl _,?_⟩
  (conv=>whnf)
  refine ⟨rfl,st_new (vs:=[.int .i64 (t.kinS one two l l').1,.int .i64 (t.kinS one two l l').2]) hf13 rfl (by simp [Value.single]) fun σ₃ h₃ hb₁₃=>?_⟩
  have hb₁₃:Blk σ₃ b13 #[.int .i64 (t.kinS one two l l').1,.int .i64 (t.kinS one two l l').2]:=hb₁₃
  have hle₃:=hle₂.trans h₃
  have hb:=hb.le h₃
  have ht:=ht.lg h₃.frz2
  have hl:=hl.lg h₃.frz2
  have hl':=hl'.lg h₃.frz2
  (conv=>whnf)
  refine ⟨_,⟨rfl,hb.rdT fun _ _ h=>h⟩,?_⟩
  (conv=>whnf)
  refine ⟨Tryz.k42.any,(Tryz.kinR_ok h t ht one two a a' len cap len' cap' l l' hl hl' hlen hlen').mono ?_⟩
  rintro _ σ' ⟨rfl,hσ'⟩ -
  obtain rfl:=hσ'.symm
  (conv=>whnf)
  intro b15 hf15
  refine ⟨_,.refl _,?_⟩
  (conv=>whnf)
  refine ⟨rfl,st_new (vs:=[.int .i64 (t.kinS one two l l').1,.int .i64 (t.kinS one two l l').2]) hf15 rfl (by simp [Value.single]) fun σ₄ h₄ hb₁₅=>?_⟩
  have hb₁₅:Blk σ₄ b15 #[.int .i64 (t.kinS one two l l').1,.int .i64 (t.kinS one two l l').2]:=hb₁₅
  have hle₄:=hle₃.trans h₄
  have hb:=hb.le h₄
  have ht:=ht.lg h₄.frz2
  have hl:=hl.lg h₄.frz2
  have hl':=hl'.lg h₄.frz2
  have hb₁₃:=hb₁₃.le h₄
  (conv=>whnf)
  refine ⟨_,⟨rfl,hb₁₃.reads (vs:=[.int .i64 (t.kinS one two l l').1,.int .i64 (t.kinS one two l l').2]) (fun k v hv=>by simpa using hv)⟩,?_⟩
  (conv=>whnf)
  refine ⟨_,⟨rfl,hb₁₅.reads (vs:=[.int .i64 (t.kinS one two l l').1,.int .i64 (t.kinS one two l l').2]) (fun k v hv=>by simpa using hv)⟩,?_⟩
  (conv=>whnf)
  refine raw_neS Tryz.s49 (vs:=[.int .i64 (t.kinS one two l l').1,.int .i64 (t.kinS one two l l').2]) (ws:=[.int .i64 (t.kinS one two l l').1,.int .i64 (t.kinS one two l l').2]) rfl rfl (by kernel_rfl) (by kernel_rfl) ?_
  rw [eqv_span]
  (conv=>whnf);(repeat (refine ⟨rfl,?_⟩;conv=>whnf))
  refine cb_split (fun hc=>?_) (fun hc=>?_)
  ·simp at hc
  (conv=>whnf)
  refine ⟨_,⟨rfl,hb.rdT fun _ _ h=>h⟩,?_⟩
  (conv=>whnf)
  refine ⟨Tryz.k43.any,(Tryz.Pairs_ok h t ht one lv a a' len cap len' cap' l l' hl hl' hlen hlen').mono ?_⟩
  rintro _ σ₅ ⟨⟨v1,_,rfl,rfl,pa,pc,rfl,-,hp⟩,h₅⟩ -
  have hle₅:=hle₄.trans h₅
  have hb:=hb.le h₅
  have ht:=ht.lg h₅.frz2
  have hl:=hl.lg h₅.frz2
  have hl':=hl'.lg h₅.frz2
  (conv=>whnf)
  refine ⟨_,⟨rfl,hb.rdT fun _ _ h=>h⟩,?_⟩
  (conv=>whnf)
  refine ⟨Tryz.k44.any,(Tryz.refPairs_ok h t ht one lv a a' len cap len' cap' l l' hl hl' (by omega) (by omega)).mono ?_⟩
  rintro _ σ₆ ⟨⟨v1,rfl,qa,qc,rfl,-,hq⟩,h₆⟩ -
  have hle₆:=hle₅.trans h₆
  have hp:PairsV σ₆ pa _ _:=(RowsV.lg hp h₆.frz2 fun _ _ h=>h).lg frz_self fun _ _ h=>h
  have hq:PairsV σ₆ qa _ _:=RowsV.lg hq frz_self fun _ _ h=>h
  have hpl:(t.pairsL one l l' lv).length < 2 ^ 60:=by
   unfold Tbl.pairsL
   split
   ·have:=t.prs_len ⟨one,lv,l,l'⟩
    have e1:=hl.1
    have e2:=hl'.1
    have hm:l.length * l'.length ≤ 20 * 20:=Nat.mul_le_mul (by omega) (by omega)
    have this:(t.reach ⟨one,lv,l,l'⟩ [] []).length ≤ l.length * l'.length:=this
    omega
   ·simp
  (conv=>whnf)
  refine ⟨Tryz.k45.any,(Tryz.samePairs_ok pa qa _ pc _ qc _ _ hp hq hpl).mono ?_⟩
  rintro _ σ' ⟨rfl,hσ'⟩ -
  obtain rfl:=hσ'.symm
  rw [decide_eq_true rfl]
  (conv=>whnf);(repeat (refine ⟨rfl,?_⟩;conv=>whnf))
  refine gb_split (fun hc=>?_) (fun hc=>?_)
  ·(conv=>whnf)
   refine ⟨Tryz.k26.any,(stocks _ hle₆).mono ?_⟩
   rintro _ σ' ⟨rfl,hσ'⟩ -
   obtain rfl:=hσ'.symm
   (conv=>whnf);(repeat (refine ⟨rfl,?_⟩;conv=>whnf))
   exact hle₆.lg
  ·simp at hc
 ·(conv=>whnf)
  refine ⟨Tryz.k26.any,(stocks _ h₁).mono ?_⟩
  rintro _ σ' ⟨rfl,hσ'⟩ -
  obtain rfl:=hσ'.symm
  (conv=>whnf);(repeat (refine ⟨rfl,?_⟩;conv=>whnf))
  exact h₁.lg
end Go.Proofs
