/- A part of the proof: lemmas that the last text uses. No conditions of its own. -/
import Derived.Test.YtebpcmdnecenlaaGreatC02
import Derived.Test.YtebpcmdnecenlaaGreatC01
import Derived.Test.YtebpcmdnecenlaaGreatH48
import Derived.Test.YtebpcmdnecenlaaGreatH08
import Derived.Test.YtebpcmdnecenlaaGreatH09
import Derived.Test.YtebpcmdnecenlaaGreatH10
import Derived.Test.YtebpcmdnecenlaaGreatC00
set_option linter.unusedSimpArgs false
set_option linter.unusedVariables false
namespace Go.Proofs
open Go.TM
def Tryz.la17_6:List (List (Nat×St)):=[[(0,⟨.ldn 3 (.tmp 6),some 51,none,none⟩),(0,⟨.mv (.tmp 13),some 52,none,none⟩),(0,⟨.ldn 3 (.tmp 6),some 53,none,none⟩),(0,⟨.mv (.tmp 13),some 54,none,none⟩),(0,⟨.mv (.tmp 3),some 55,none,none⟩),(0,⟨.mv (.tmp 5),some 56,none,none⟩),(0,⟨.ar .and (.tmp 55) (.tmp 56),some 57,none,none⟩),(0,⟨.mv (.tmp 14),some 59,none,none⟩),(0,⟨.mv (.tmp 16),some 60,none,none⟩),(2,⟨.call (.func 50) #[(.tmp 53),(.tmp 54),(.tmp 57)],some 58,none,none⟩),(2,⟨.call (.func 41) #[(.tmp 51),(.tmp 52),(.tmp 58),(.tmp 59),(.tmp 60)],some 61,none,none⟩),(0,⟨.mv (.tmp 61),some 50,none,none⟩),(0,⟨.ext (.tmp 50) 0,some 62,none,none⟩),(0,⟨.ext (.tmp 50) 1,some 63,none,none⟩),(2,⟨.alloc 49 #[(.int .i64 0),(.int .i64 0)],some 19,none,none⟩),(2,⟨.st 2 (.tmp 19) (.tmp 62),none,none,none⟩)],
 [(0,⟨.ldn 3 (.tmp 6),some 51,none,none⟩),(0,⟨.mv (.tmp 13),some 52,none,none⟩),(0,⟨.ldn 3 (.tmp 6),some 53,none,none⟩),(0,⟨.mv (.tmp 13),some 54,none,none⟩),(0,⟨.mv (.tmp 3),some 55,none,none⟩),(0,⟨.mv (.tmp 5),some 56,none,none⟩),(0,⟨.ar .and (.tmp 55) (.tmp 56),some 57,none,none⟩),(0,⟨.mv (.tmp 14),some 59,none,none⟩),(0,⟨.mv (.tmp 16),some 60,none,none⟩),(2,⟨.call (.func 50) #[(.tmp 53),(.tmp 54),(.tmp 57)],some 58,none,none⟩),(2,⟨.alloc 49 #[(.int .i64 0),(.int .i64 0)],some 19,none,none⟩),(2,⟨.call (.func 41) #[(.tmp 51),(.tmp 52),(.tmp 58),(.tmp 59),(.tmp 60)],some 61,none,none⟩),(0,⟨.mv (.tmp 61),some 50,none,none⟩),(0,⟨.ext (.tmp 50) 0,some 62,none,none⟩),(0,⟨.ext (.tmp 50) 1,some 63,none,none⟩),(2,⟨.st 2 (.tmp 19) (.tmp 62),none,none,none⟩)],
 [(0,⟨.ldn 3 (.tmp 6),some 51,none,none⟩),(0,⟨.mv (.tmp 13),some 52,none,none⟩),(0,⟨.ldn 3 (.tmp 6),some 53,none,none⟩),(0,⟨.mv (.tmp 13),some 54,none,none⟩),(0,⟨.mv (.tmp 3),some 55,none,none⟩),(0,⟨.mv (.tmp 5),some 56,none,none⟩),(0,⟨.ar .and (.tmp 55) (.tmp 56),some 57,none,none⟩),(0,⟨.mv (.tmp 14),some 59,none,none⟩),(0,⟨.mv (.tmp 16),some 60,none,none⟩),(2,⟨.alloc 49 #[(.int .i64 0),(.int .i64 0)],some 19,none,none⟩),(2,⟨.call (.func 50) #[(.tmp 53),(.tmp 54),(.tmp 57)],some 58,none,none⟩),(2,⟨.call (.func 41) #[(.tmp 51),(.tmp 52),(.tmp 58),(.tmp 59),(.tmp 60)],some 61,none,none⟩),(0,⟨.mv (.tmp 61),some 50,none,none⟩),(0,⟨.ext (.tmp 50) 0,some 62,none,none⟩),(0,⟨.ext (.tmp 50) 1,some 63,none,none⟩),(2,⟨.st 2 (.tmp 19) (.tmp 62),none,none,none⟩)]]
def Tryz.lt17_6:List St:=[⟨.mv (.tmp 63),some 20,none,none⟩]
def Tryz.la17_7:List (List (Nat×St)):=[[(0,⟨.ldn 3 (.tmp 6),some 65,none,none⟩),(0,⟨.mv (.tmp 13),some 66,none,none⟩),(0,⟨.mv (.tmp 15),some 67,none,none⟩),(0,⟨.mv (.tmp 14),some 68,none,none⟩),(0,⟨.ldn 3 (.tmp 6),some 69,none,none⟩),(0,⟨.mv (.tmp 14),some 70,none,none⟩),(0,⟨.mv (.tmp 4),some 71,none,none⟩),(0,⟨.mv (.tmp 5),some 72,none,none⟩),(0,⟨.ar .and (.tmp 71) (.tmp 72),some 73,none,none⟩),(2,⟨.call (.func 50) #[(.tmp 69),(.tmp 70),(.tmp 73)],some 74,none,none⟩),(2,⟨.call (.func 41) #[(.tmp 65),(.tmp 66),(.tmp 67),(.tmp 68),(.tmp 74)],some 75,none,none⟩),(0,⟨.mv (.tmp 75),some 64,none,none⟩),(0,⟨.ext (.tmp 64) 0,some 76,none,none⟩),(0,⟨.ext (.tmp 64) 1,some 77,none,none⟩),(2,⟨.alloc 49 #[(.int .i64 0),(.int .i64 0)],some 21,none,none⟩),(2,⟨.st 2 (.tmp 21) (.tmp 76),none,none,none⟩)],
 [(0,⟨.ldn 3 (.tmp 6),some 65,none,none⟩),(0,⟨.mv (.tmp 13),some 66,none,none⟩),(0,⟨.mv (.tmp 15),some 67,none,none⟩),(0,⟨.mv (.tmp 14),some 68,none,none⟩),(0,⟨.ldn 3 (.tmp 6),some 69,none,none⟩),(0,⟨.mv (.tmp 14),some 70,none,none⟩),(0,⟨.mv (.tmp 4),some 71,none,none⟩),(0,⟨.mv (.tmp 5),some 72,none,none⟩),(0,⟨.ar .and (.tmp 71) (.tmp 72),some 73,none,none⟩),(2,⟨.call (.func 50) #[(.tmp 69),(.tmp 70),(.tmp 73)],some 74,none,none⟩),(2,⟨.alloc 49 #[(.int .i64 0),(.int .i64 0)],some 21,none,none⟩),(2,⟨.call (.func 41) #[(.tmp 65),(.tmp 66),(.tmp 67),(.tmp 68),(.tmp 74)],some 75,none,none⟩),(0,⟨.mv (.tmp 75),some 64,none,none⟩),(0,⟨.ext (.tmp 64) 0,some 76,none,none⟩),(0,⟨.ext (.tmp 64) 1,some 77,none,none⟩),(2,⟨.st 2 (.tmp 21) (.tmp 76),none,none,none⟩)],
 [(0,⟨.ldn 3 (.tmp 6),some 65,none,none⟩),(0,⟨.mv (.tmp 13),some 66,none,none⟩),(0,⟨.mv (.tmp 15),some 67,none,none⟩),(0,⟨.mv (.tmp 14),some 68,none,none⟩),(0,⟨.ldn 3 (.tmp 6),some 69,none,none⟩),(0,⟨.mv (.tmp 14),some 70,none,none⟩),(0,⟨.mv (.tmp 4),some 71,none,none⟩),(0,⟨.mv (.tmp 5),some 72,none,none⟩),(0,⟨.ar .and (.tmp 71) (.tmp 72),some 73,none,none⟩),(2,⟨.alloc 49 #[(.int .i64 0),(.int .i64 0)],some 21,none,none⟩),(2,⟨.call (.func 50) #[(.tmp 69),(.tmp 70),(.tmp 73)],some 74,none,none⟩),(2,⟨.call (.func 41) #[(.tmp 65),(.tmp 66),(.tmp 67),(.tmp 68),(.tmp 74)],some 75,none,none⟩),(0,⟨.mv (.tmp 75),some 64,none,none⟩),(0,⟨.ext (.tmp 64) 0,some 76,none,none⟩),(0,⟨.ext (.tmp 64) 1,some 77,none,none⟩),(2,⟨.st 2 (.tmp 21) (.tmp 76),none,none,none⟩)]]
def Tryz.lt17_7:List St:=[⟨.mv (.tmp 77),some 22,none,none⟩]
end Go.Proofs
namespace Go.Proofs
open Go.TM
set_option maxRecDepth 100000
attribute [local irreducible] CallsV YieldV rngX
set_option maxHeartbeats 4000000 in
theorem Tryz.goodsCloser_top {Z:View Tk} (htok:Z.tok=⟨0,.out⟩) (h:TH) (t:Tbl) (ht:TabV Z.frz h t) (fr:Nat) (hfr:fr<256) (to:Nat) (hto:to<256) (bits:Nat) (hbits:bits<256) (ot:Nat) (hot:ot<256) (st:Nat) (hst:st<256) :
  J (SysG Tryz.prog 164 8) (Fin Tryz.prog λ v Z'=>v=.bool true/\Z.lg Z') true (Rf (Frame.enter Tryz.prog 17 #[h.v,.int .u8 fr,.int .u8 to,.int .u8 bits,.int .u8 ot,.int .u8 st] .normal) []) Z:=by
 refine top_of (args:=[_,_,_,_,_,_]) (Q:=λ v Z'=>v=.bool true/\Z.lg Z') Tryz.k17 Tryz.mixed (by kernel_rfl) (by simp) (λ v Z' q=>q.2.tok.trans htok) ?_
 repeat refine⟨rfl,?_⟩
 conv=>whnf
 intro b Z1 hle1 hb
 have hb:Blk Z1 b #[.slice h.ea h.el h.ec,.slice h.ma h.ml h.mc,.slice h.ka h.kl h.kc]:=hb
 have ht:=ht.lg hle1.frz2
 have stocks:∀Z2:View Tk,Z.le Z2->CallsV (SysG Tryz.prog 164 8) 26 #[] (λ v Z'=>v=.bool true/\Z'=Z2) Z2:=λ Z2 h=>Tryz.stocks_ok (h.tok.trans htok)
 refine⟨_,⟨rfl,hb.rdT λ _ _ h=>h⟩,?_⟩
 refine⟨Tryz.k48.any,(Tryz.fit_ok h t (ht.lg frz_self)).mono ?_⟩
 rintro _ Z' ⟨⟨B,rfl,hB⟩,hZ'⟩ -
 obtain rfl:=hZ'.symm
 repeat refine⟨rfl,?_⟩
 conv=>whnf
 apply cb_split<;>intro hc
 ·refine⟨Tryz.k26.any,(stocks _ hle1).go λ _=>?_⟩
  repeat refine⟨rfl,?_⟩
  conv=>whnf
  exact hle1.lg
 have hf:t.flaw=0:=hB (by simpa using hc)
 have hx:=Tbl.isEd_of hf fr
 have hy:=Tbl.isEd_of hf to
 have hA:=t.lst_chosen (t.edOf fr) bits
 have nA:=hA.len hf
 have hB:=t.lst_chosen (t.edOf to) ot
 have nB:=hB.len hf
 have hand:=band8 bits st hbits hst
 have hand2:=band8 ot st hot hst
 have hA2:=t.lst_chosen (t.edOf fr) (bits &&& st)
 have nA2:=hA2.len hf
 have hB2:=t.lst_chosen (t.edOf to) (ot &&& st)
 have nB2:=hB2.len hf
 have hsA:Sub (t.chosen (t.edOf fr) (bits &&& st)) (t.chosen (t.edOf fr) bits):=λ z hz=>by
  rw [Tbl.mem_chosen] at hz ⊢
  have h2:=hz.2
  rw [Nat.testBit_and,Bool.and_eq_true] at h2
  exact⟨hz.1,h2.1⟩
 have hsB:Sub (t.chosen (t.edOf to) (ot &&& st)) (t.chosen (t.edOf to) ot):=λ z hz=>by
  rw [Tbl.mem_chosen] at hz ⊢
  have h2:=hz.2
  rw [Nat.testBit_and,Bool.and_eq_true] at h2
  exact⟨hz.1,h2.1⟩
 refine⟨_,⟨rfl,hb.rdT λ _ _ h=>h⟩,?_⟩
 refine⟨.int .i64 (t.edOf fr),λ Z' hle _=>?_,?_⟩
 ·refine⟨Tryz.k49.any,(Tryz.edOf_ok h t (ht.lg hle.frz1) hf fr hfr).mono ?_⟩
  rintro _ Z'' ⟨rfl,hZ⟩ -
  exact⟨rfl,_,.refl _,hZ ▸ .refl _⟩
 refine⟨_,⟨rfl,hb.rdT λ _ _ h=>h⟩,?_⟩
 conv=>whnf
 intro Z2 h2 hC
 have hle2:=hle1.trans h2
 have hb:=hb.le h2
 have ht:=ht.lg h2.frz2
 refine⟨Tryz.k49.any,(Tryz.edOf_ok h t (ht.lg frz_self) hf to hto).go λ _=>?_⟩
 refine⟨_,⟨rfl,hb.rdT λ _ _ h=>h⟩,?_⟩
 refine⟨_,⟨rfl,hb.rdT λ _ _ h=>h⟩,?_⟩
 refine⟨λ v Z'=>LstV Z' v ((t.chosen (t.edOf fr) bits)),λ v Z1 Z2 hv hle=>hv.le hle,λ Z' hle _=>?_,λ v _=>?_⟩
 ·refine⟨Tryz.k50.any,(Tryz.chosenL_ok h t (ht.lg hle.frz2) hf (t.edOf fr) hx bits hbits).mono ?_⟩
  rintro v Z'' ⟨hv,hle'⟩ -
  exact⟨Z'',.refl _,hv,hle'⟩
 conv=>whnf
 intro Z3 h3 hC
 have hle3:=hle2.trans h3
 have hb:=hb.le h3
 have ht:=ht.lg h3.frz2
 obtain⟨-,a1,c1,rfl,i1⟩:=hC
 refine⟨Tryz.k50.any,(Tryz.chosenL_ok h t ht hf (t.edOf to) hy ot hot).mono ?_⟩
 rintro _ Z4 ⟨⟨a2,c2,rfl,i2⟩,h4⟩ -
 have hle4:=hle3.trans h4
 have hb:=hb.le h4
 have ht:=ht.lg h4.frz2
 have i1:=i1.lg h4.frz2
 obtain⟨q1,q2⟩:=Tbl.kin_mono hf hx hy hA hB hA2 hB hsA (λ _ h=>h)
 obtain⟨r1,r2⟩:=Tbl.kin_mono hf hx hy hA hB hA hB2 (λ _ h=>h) hsB
 refine⟨_,⟨rfl,hb.rdT λ _ _ h=>h⟩,?_⟩
 refine⟨Tryz.k41.any,(Tryz.kinL_ok (hle4.tok.trans htok) h t ht hf (t.edOf fr) (t.edOf to) hx hy i1 hA i2 hB).go λ _=>?_⟩
 conv=>whnf
 intro b17 hf17
 refine⟨_,.refl _,?_⟩
 refine⟨rfl,st_new (vs:=[.int .i64 (t.kinS (t.edOf fr) (t.edOf to) (t.chosen (t.edOf fr) bits) (t.chosen (t.edOf to) ot)).1,.int .i64 (t.kinS (t.edOf fr) (t.edOf to) (t.chosen (t.edOf fr) bits) (t.chosen (t.edOf to) ot)).2]) hf17 rfl (by simp [Value.single]) λ Z5 h5 hs17=>?_⟩
 have hs17:Blk Z5 b17 #[.int .i64 (t.kinS (t.edOf fr) (t.edOf to) (t.chosen (t.edOf fr) bits) (t.chosen (t.edOf to) ot)).1,.int .i64 (t.kinS (t.edOf fr) (t.edOf to) (t.chosen (t.edOf fr) bits) (t.chosen (t.edOf to) ot)).2]:=hs17
 have hle5:=hle4.trans h5
 have hb:=hb.le h5
 have ht:=ht.lg h5.frz2
 have i1:=i1.lg h5.frz2
 have i2:=i2.lg h5.frz2
 conv=>whnf
 intro ac hfr0
 refine cv_altsX (mu:=[]) (ops:=rgOps Tryz.f17 6) (id:=6) hfr0 [7,10,14,15] [[0,1,2,3,4,5,6,8,9,7,10,11,12,13,14,15],[0,1,2,3,4,5,6,8,9,7,14,10,11,12,13,15],[0,1,2,3,4,5,6,8,9,14,7,10,11,12,13,15]] [16] Tryz.la17_6 Tryz.lt17_6 Tryz.mixed (by kernel_rfl) (by kernel_rfl) (by kernel_rfl) (by kernel_rfl) (by kernel_rfl) (λ f' ds' Z'=>ds'=[]/\∃b19:Nat,AllEq f' [(4,.int .u8 ot),(5,.int .u8 st),(6,.pointer (some ⟨b,0,none⟩)),(13,.int .i64 (t.edOf fr)),(14,.int .i64 (t.edOf to)),(15,.slice a1 (t.chosen (t.edOf fr) bits).length c1),(16,.slice a2 (t.chosen (t.edOf to) ot).length c2),(17,.pointer (some ⟨b17,0,none⟩)),(18,.int .i64 0),(19,.pointer (some ⟨b19,0,none⟩)),(63,.int .i64 0)]/\Z5.le Z'/\Blk Z' b19 #[.int .i64 (t.kinS (t.edOf fr) (t.edOf to) (t.chosen (t.edOf fr) (bits &&& st)) (t.chosen (t.edOf to) ot)).1,.int .i64 (t.kinS (t.edOf fr) (t.edOf to) (t.chosen (t.edOf fr) (bits &&& st)) (t.chosen (t.edOf to) ot)).2]) ?_ ?_
 ·intro l hl
  simp only [Tryz.la17_6,List.mem_cons,List.not_mem_nil,or_false] at hl
  rcases hl with rfl | rfl | rfl
  ·skip
   refine⟨_,⟨rfl,hb.frz.rdT λ _ _ h=>h⟩,?_⟩
   refine⟨_,⟨rfl,hb.frz.rdT λ _ _ h=>h⟩,?_⟩
   repeat refine⟨rfl,?_⟩
   conv=>whnf
   rw [hand.1]
   refine⟨λ v Z'=>Z5.le Z'/\LstV Z' v (t.chosen (t.edOf fr) (bits &&& st)),λ v Z1 Z2 h k=>⟨h.1.trans k,h.2.le k⟩,λ v Z' h=>h.1.frz1,λ Z' hC=>?_,λ v hv=>?_⟩
   ·have hle:=hC
    refine⟨Tryz.k50.any,(Tryz.chosenL_ok h t (ht.lg hle.frz2) hf (t.edOf fr) hx (bits &&& st) hand.2).mono ?_⟩
    rintro v Z'' ⟨hv,hle'⟩ -
    exact⟨Z'',.refl _,hle.trans hle',hv⟩
   obtain⟨_,-,a9,c9,rfl,-⟩:=hv
   refine⟨λ v Z'=>Z5.le Z'/\v=.tuple #[.agg #[.int .i64 (t.kinS (t.edOf fr) (t.edOf to) (t.chosen (t.edOf fr) (bits &&& st)) (t.chosen (t.edOf to) ot)).1,.int .i64 (t.kinS (t.edOf fr) (t.edOf to) (t.chosen (t.edOf fr) (bits &&& st)) (t.chosen (t.edOf to) ot)).2],.int .i64 0],λ v Z1 Z2 h k=>⟨h.1.trans k,h.2⟩,λ v Z' h=>h.1.frz1,λ Z' hC=>?_,λ v hv=>?_⟩
   ·obtain⟨hle,hv9⟩:=hC
    have i9:=hv9.at
    refine⟨Tryz.k41.any,(Tryz.kinL_ok (hle.tok.trans (hle5.tok.trans htok)) h t (ht.lg hle.frz2) hf (t.edOf fr) (t.edOf to) hx hy i9 hA2 (i2.lg hle.frz2) hB).mono ?_⟩
    rintro v Z'' ⟨hv,hZ⟩ -
    exact⟨Z',hZ ▸ .refl _,hle,hv⟩
   obtain⟨_,-,rfl⟩:=hv
   refine⟨λ v Z'=>∃b0,v=.pointer (some ⟨b0,0,none⟩)/\Hld Z5 b0 49 #[.int .i64 0,.int .i64 0] Z',λ v Z1 Z2 h k=>?_,λ v Z' h=>?_,λ Z' hC=>?_,λ v hv=>?_⟩
   ·obtain⟨b0,e,h1⟩:=h
    exact⟨b0,e,h1.le k⟩
   ·obtain⟨b0,e,h1⟩:=h
    exact h1.frz1
   ·have hle:=hC.1
    conv=>whnf
    intro b0 hf0
    refine⟨_,.refl _,?_⟩
    exact⟨_,.refl _,b0,rfl,.made hle hf0⟩
   obtain⟨_,b0,rfl,-⟩:=hv
   refine⟨λ v Z'=>Z5.le Z'/\Blk Z' b0 #[.int .i64 (t.kinS (t.edOf fr) (t.edOf to) (t.chosen (t.edOf fr) (bits &&& st)) (t.chosen (t.edOf to) ot)).1,.int .i64 (t.kinS (t.edOf fr) (t.edOf to) (t.chosen (t.edOf fr) (bits &&& st)) (t.chosen (t.edOf to) ot)).2],λ v Z1 Z2 h k=>⟨h.1.trans k,h.2.le k⟩,λ v Z' h=>h.1.frz1,λ Z' hC=>?_,λ v hv=>?_⟩
   ·obtain⟨b',e,hH⟩:=hC
    cases e
    conv=>whnf
    exact⟨rfl,hH.write (vs:=[.int .i64 (t.kinS (t.edOf fr) (t.edOf to) (t.chosen (t.edOf fr) (bits &&& st)) (t.chosen (t.edOf to) ot)).1,.int .i64 (t.kinS (t.edOf fr) (t.edOf to) (t.chosen (t.edOf fr) (bits &&& st)) (t.chosen (t.edOf to) ot)).2]) rfl (by simp [Value.single]) λ Z1 h1 h2=>⟨_,.refl _,h1,h2⟩⟩
   conv=>whnf
   intro Z' hC
   exact⟨rfl,b0,⟨rfl,rfl,rfl,rfl,rfl,rfl,rfl,rfl,rfl,rfl,rfl,trivial⟩,hC.1,hC.2⟩
  ·skip
   refine⟨_,⟨rfl,hb.frz.rdT λ _ _ h=>h⟩,?_⟩
   refine⟨_,⟨rfl,hb.frz.rdT λ _ _ h=>h⟩,?_⟩
   repeat refine⟨rfl,?_⟩
   conv=>whnf
   rw [hand.1]
   refine⟨λ v Z'=>Z5.le Z'/\LstV Z' v (t.chosen (t.edOf fr) (bits &&& st)),λ v Z1 Z2 h k=>⟨h.1.trans k,h.2.le k⟩,λ v Z' h=>h.1.frz1,λ Z' hC=>?_,λ v hv=>?_⟩
   ·have hle:=hC
    refine⟨Tryz.k50.any,(Tryz.chosenL_ok h t (ht.lg hle.frz2) hf (t.edOf fr) hx (bits &&& st) hand.2).mono ?_⟩
    rintro v Z'' ⟨hv,hle'⟩ -
    exact⟨Z'',.refl _,hle.trans hle',hv⟩
   obtain⟨_,-,a9,c9,rfl,-⟩:=hv
   refine⟨λ v Z'=>∃b0,v=.pointer (some ⟨b0,0,none⟩)/\Hld Z5 b0 49 #[.int .i64 0,.int .i64 0] Z'/\LstV Z' (.slice a9 (t.chosen (t.edOf fr) (bits &&& st)).length c9) (t.chosen (t.edOf fr) (bits &&& st)),λ v Z1 Z2 h k=>?_,λ v Z' h=>?_,λ Z' hC=>?_,λ v hv=>?_⟩
   ·obtain⟨b0,e,h1,h2⟩:=h
    exact⟨b0,e,h1.le k,h2.le k⟩
   ·obtain⟨b0,e,h1,h2⟩:=h
    exact h1.frz1
   ·obtain⟨hle,hv9⟩:=hC
    conv=>whnf
    intro b0 hf0
    refine⟨_,.refl _,?_⟩
    exact⟨_,.refl _,b0,rfl,.made hle hf0,hv9⟩
   obtain⟨_,b0,rfl,-⟩:=hv
   refine⟨λ v Z'=>Hld Z5 b0 49 #[.int .i64 0,.int .i64 0] Z'/\v=.tuple #[.agg #[.int .i64 (t.kinS (t.edOf fr) (t.edOf to) (t.chosen (t.edOf fr) (bits &&& st)) (t.chosen (t.edOf to) ot)).1,.int .i64 (t.kinS (t.edOf fr) (t.edOf to) (t.chosen (t.edOf fr) (bits &&& st)) (t.chosen (t.edOf to) ot)).2],.int .i64 0],λ v Z1 Z2 h k=>⟨h.1.le k,h.2⟩,λ v Z' h=>h.1.frz1,λ Z' hC=>?_,λ v hv=>?_⟩
   ·obtain⟨b',e,hle,hv9⟩:=hC
    cases e
    have i9:=hv9.at
    refine⟨Tryz.k41.any,(Tryz.kinL_ok (hle.tok.trans (hle5.tok.trans htok)) h t (ht.lg hle.frz2) hf (t.edOf fr) (t.edOf to) hx hy i9 hA2 (i2.lg hle.frz2) hB).mono ?_⟩
    rintro v Z'' ⟨hv,hZ⟩ -
    exact⟨Z',hZ ▸ .refl _,hle,hv⟩
   obtain⟨_,-,rfl⟩:=hv
   refine⟨λ v Z'=>Z5.le Z'/\Blk Z' b0 #[.int .i64 (t.kinS (t.edOf fr) (t.edOf to) (t.chosen (t.edOf fr) (bits &&& st)) (t.chosen (t.edOf to) ot)).1,.int .i64 (t.kinS (t.edOf fr) (t.edOf to) (t.chosen (t.edOf fr) (bits &&& st)) (t.chosen (t.edOf to) ot)).2],λ v Z1 Z2 h k=>⟨h.1.trans k,h.2.le k⟩,λ v Z' h=>h.1.frz1,λ Z' hC=>?_,λ v hv=>?_⟩
   ·have hH:=hC.1
    conv=>whnf
    exact⟨rfl,hH.write (vs:=[.int .i64 (t.kinS (t.edOf fr) (t.edOf to) (t.chosen (t.edOf fr) (bits &&& st)) (t.chosen (t.edOf to) ot)).1,.int .i64 (t.kinS (t.edOf fr) (t.edOf to) (t.chosen (t.edOf fr) (bits &&& st)) (t.chosen (t.edOf to) ot)).2]) rfl (by simp [Value.single]) λ Z1 h1 h2=>⟨_,.refl _,h1,h2⟩⟩
   conv=>whnf
   intro Z' hC
   exact⟨rfl,b0,⟨rfl,rfl,rfl,rfl,rfl,rfl,rfl,rfl,rfl,rfl,rfl,trivial⟩,hC.1,hC.2⟩
  ·skip
   refine⟨_,⟨rfl,hb.frz.rdT λ _ _ h=>h⟩,?_⟩
   refine⟨_,⟨rfl,hb.frz.rdT λ _ _ h=>h⟩,?_⟩
   repeat refine⟨rfl,?_⟩
   conv=>whnf
   rw [hand.1]
   refine⟨λ v Z'=>∃b0,v=.pointer (some ⟨b0,0,none⟩)/\Hld Z5 b0 49 #[.int .i64 0,.int .i64 0] Z',λ v Z1 Z2 h k=>?_,λ v Z' h=>?_,λ Z' hC=>?_,λ v hv=>?_⟩
   ·obtain⟨b0,e,h1⟩:=h
    exact⟨b0,e,h1.le k⟩
   ·obtain⟨b0,e,h1⟩:=h
    exact h1.frz1
   ·have hle:=hC
    conv=>whnf
    intro b0 hf0
    refine⟨_,.refl _,?_⟩
    exact⟨_,.refl _,b0,rfl,.made hle hf0⟩
   obtain⟨_,b0,rfl,-⟩:=hv
   refine⟨λ v Z'=>Hld Z5 b0 49 #[.int .i64 0,.int .i64 0] Z'/\LstV Z' v (t.chosen (t.edOf fr) (bits &&& st)),λ v Z1 Z2 h k=>⟨h.1.le k,h.2.le k⟩,λ v Z' h=>h.1.frz1,λ Z' hC=>?_,λ v hv=>?_⟩
   ·obtain⟨b',e,hle⟩:=hC
    cases e
    refine⟨Tryz.k50.any,(Tryz.chosenL_ok h t (ht.lg hle.frz2) hf (t.edOf fr) hx (bits &&& st) hand.2).mono ?_⟩
    rintro v Z'' ⟨hv,hle'⟩ -
    exact⟨Z'',.refl _,hle.le hle',hv⟩
   obtain⟨_,-,a9,c9,rfl,-⟩:=hv
   refine⟨λ v Z'=>Hld Z5 b0 49 #[.int .i64 0,.int .i64 0] Z'/\v=.tuple #[.agg #[.int .i64 (t.kinS (t.edOf fr) (t.edOf to) (t.chosen (t.edOf fr) (bits &&& st)) (t.chosen (t.edOf to) ot)).1,.int .i64 (t.kinS (t.edOf fr) (t.edOf to) (t.chosen (t.edOf fr) (bits &&& st)) (t.chosen (t.edOf to) ot)).2],.int .i64 0],λ v Z1 Z2 h k=>⟨h.1.le k,h.2⟩,λ v Z' h=>h.1.frz1,λ Z' hC=>?_,λ v hv=>?_⟩
   ·obtain⟨hle,hv9⟩:=hC
    have i9:=hv9.at
    refine⟨Tryz.k41.any,(Tryz.kinL_ok (hle.tok.trans (hle5.tok.trans htok)) h t (ht.lg hle.frz2) hf (t.edOf fr) (t.edOf to) hx hy i9 hA2 (i2.lg hle.frz2) hB).mono ?_⟩
    rintro v Z'' ⟨hv,hZ⟩ -
    exact⟨Z',hZ ▸ .refl _,hle,hv⟩
   obtain⟨_,-,rfl⟩:=hv
   refine⟨λ v Z'=>Z5.le Z'/\Blk Z' b0 #[.int .i64 (t.kinS (t.edOf fr) (t.edOf to) (t.chosen (t.edOf fr) (bits &&& st)) (t.chosen (t.edOf to) ot)).1,.int .i64 (t.kinS (t.edOf fr) (t.edOf to) (t.chosen (t.edOf fr) (bits &&& st)) (t.chosen (t.edOf to) ot)).2],λ v Z1 Z2 h k=>⟨h.1.trans k,h.2.le k⟩,λ v Z' h=>h.1.frz1,λ Z' hC=>?_,λ v hv=>?_⟩
   ·have hH:=hC.1
    conv=>whnf
    exact⟨rfl,hH.write (vs:=[.int .i64 (t.kinS (t.edOf fr) (t.edOf to) (t.chosen (t.edOf fr) (bits &&& st)) (t.chosen (t.edOf to) ot)).1,.int .i64 (t.kinS (t.edOf fr) (t.edOf to) (t.chosen (t.edOf fr) (bits &&& st)) (t.chosen (t.edOf to) ot)).2]) rfl (by simp [Value.single]) λ Z1 h1 h2=>⟨_,.refl _,h1,h2⟩⟩
   conv=>whnf
   intro Z' hC
   exact⟨rfl,b0,⟨rfl,rfl,rfl,rfl,rfl,rfl,rfl,rfl,rfl,rfl,rfl,trivial⟩,hC.1,hC.2⟩
 rintro f' ds' Z6 ⟨rfl,b19,hfr,h6,hs19⟩
 rw [<- hfr.ovr]
 clear hfr
 have hle6:=hle5.trans h6
 have hb:=hb.le h6
 have ht:=ht.lg h6.frz2
 have i1:=i1.lg h6.frz2
 have i2:=i2.lg h6.frz2
 have hs17:=hs17.le h6
 conv=>whnf
 intro a' hf'
 refine⟨by rw [hf'.size,hfr0.size],_,hf'.get,?_⟩
 rw [hf'.ds]
 clear hf' hfr0
 conv=>whnf
 intro ac hfr0
 refine cv_altsX (mu:=[]) (ops:=rgOps Tryz.f17 7) (id:=7) hfr0 [9,10,14,15] [[0,1,2,3,4,5,6,7,8,9,10,11,12,13,14,15],[0,1,2,3,4,5,6,7,8,9,14,10,11,12,13,15],[0,1,2,3,4,5,6,7,8,14,9,10,11,12,13,15]] [16] Tryz.la17_7 Tryz.lt17_7 Tryz.mixed (by kernel_rfl) (by kernel_rfl) (by kernel_rfl) (by kernel_rfl) (by kernel_rfl) (λ f' ds' Z'=>ds'=[]/\∃b21:Nat,AllEq f' [(17,.pointer (some ⟨b17,0,none⟩)),(18,.int .i64 0),(19,.pointer (some ⟨b19,0,none⟩)),(20,.int .i64 0),(21,.pointer (some ⟨b21,0,none⟩)),(77,.int .i64 0)]/\Z6.le Z'/\Blk Z' b21 #[.int .i64 (t.kinS (t.edOf fr) (t.edOf to) (t.chosen (t.edOf fr) bits) (t.chosen (t.edOf to) (ot &&& st))).1,.int .i64 (t.kinS (t.edOf fr) (t.edOf to) (t.chosen (t.edOf fr) bits) (t.chosen (t.edOf to) (ot &&& st))).2]) ?_ ?_
 ·intro l hl
  simp only [Tryz.la17_7,List.mem_cons,List.not_mem_nil,or_false] at hl
  rcases hl with rfl | rfl | rfl
  ·skip
   refine⟨_,⟨rfl,hb.frz.rdT λ _ _ h=>h⟩,?_⟩
   refine⟨_,⟨rfl,hb.frz.rdT λ _ _ h=>h⟩,?_⟩
   repeat refine⟨rfl,?_⟩
   conv=>whnf
   rw [hand2.1]
   refine⟨λ v Z'=>Z6.le Z'/\LstV Z' v (t.chosen (t.edOf to) (ot &&& st)),λ v Z1 Z2 h k=>⟨h.1.trans k,h.2.le k⟩,λ v Z' h=>h.1.frz1,λ Z' hC=>?_,λ v hv=>?_⟩
   ·have hle:=hC
    refine⟨Tryz.k50.any,(Tryz.chosenL_ok h t (ht.lg hle.frz2) hf (t.edOf to) hy (ot &&& st) hand2.2).mono ?_⟩
    rintro v Z'' ⟨hv,hle'⟩ -
    exact⟨Z'',.refl _,hle.trans hle',hv⟩
   obtain⟨_,-,a9,c9,rfl,-⟩:=hv
   refine⟨λ v Z'=>Z6.le Z'/\v=.tuple #[.agg #[.int .i64 (t.kinS (t.edOf fr) (t.edOf to) (t.chosen (t.edOf fr) bits) (t.chosen (t.edOf to) (ot &&& st))).1,.int .i64 (t.kinS (t.edOf fr) (t.edOf to) (t.chosen (t.edOf fr) bits) (t.chosen (t.edOf to) (ot &&& st))).2],.int .i64 0],λ v Z1 Z2 h k=>⟨h.1.trans k,h.2⟩,λ v Z' h=>h.1.frz1,λ Z' hC=>?_,λ v hv=>?_⟩
   ·obtain⟨hle,hv9⟩:=hC
    have i9:=hv9.at
    refine⟨Tryz.k41.any,(Tryz.kinL_ok (hle.tok.trans (hle6.tok.trans htok)) h t (ht.lg hle.frz2) hf (t.edOf fr) (t.edOf to) hx hy (i1.lg hle.frz2) hA i9 hB2).mono ?_⟩
    rintro v Z'' ⟨hv,hZ⟩ -
    exact⟨Z',hZ ▸ .refl _,hle,hv⟩
   obtain⟨_,-,rfl⟩:=hv
   refine⟨λ v Z'=>∃b0,v=.pointer (some ⟨b0,0,none⟩)/\Hld Z6 b0 49 #[.int .i64 0,.int .i64 0] Z',λ v Z1 Z2 h k=>?_,λ v Z' h=>?_,λ Z' hC=>?_,λ v hv=>?_⟩
   ·obtain⟨b0,e,h1⟩:=h
    exact⟨b0,e,h1.le k⟩
   ·obtain⟨b0,e,h1⟩:=h
    exact h1.frz1
   ·have hle:=hC.1
    conv=>whnf
    intro b0 hf0
    refine⟨_,.refl _,?_⟩
    exact⟨_,.refl _,b0,rfl,.made hle hf0⟩
   obtain⟨_,b0,rfl,-⟩:=hv
   refine⟨λ v Z'=>Z6.le Z'/\Blk Z' b0 #[.int .i64 (t.kinS (t.edOf fr) (t.edOf to) (t.chosen (t.edOf fr) bits) (t.chosen (t.edOf to) (ot &&& st))).1,.int .i64 (t.kinS (t.edOf fr) (t.edOf to) (t.chosen (t.edOf fr) bits) (t.chosen (t.edOf to) (ot &&& st))).2],λ v Z1 Z2 h k=>⟨h.1.trans k,h.2.le k⟩,λ v Z' h=>h.1.frz1,λ Z' hC=>?_,λ v hv=>?_⟩
   ·obtain⟨b',e,hH⟩:=hC
    cases e
    conv=>whnf
    exact⟨rfl,hH.write (vs:=[.int .i64 (t.kinS (t.edOf fr) (t.edOf to) (t.chosen (t.edOf fr) bits) (t.chosen (t.edOf to) (ot &&& st))).1,.int .i64 (t.kinS (t.edOf fr) (t.edOf to) (t.chosen (t.edOf fr) bits) (t.chosen (t.edOf to) (ot &&& st))).2]) rfl (by simp [Value.single]) λ Z1 h1 h2=>⟨_,.refl _,h1,h2⟩⟩
   conv=>whnf
   intro Z' hC
   exact⟨rfl,b0,⟨rfl,rfl,rfl,rfl,rfl,rfl,trivial⟩,hC.1,hC.2⟩
  ·skip
   refine⟨_,⟨rfl,hb.frz.rdT λ _ _ h=>h⟩,?_⟩
   refine⟨_,⟨rfl,hb.frz.rdT λ _ _ h=>h⟩,?_⟩
   repeat refine⟨rfl,?_⟩
   conv=>whnf
   rw [hand2.1]
   refine⟨λ v Z'=>Z6.le Z'/\LstV Z' v (t.chosen (t.edOf to) (ot &&& st)),λ v Z1 Z2 h k=>⟨h.1.trans k,h.2.le k⟩,λ v Z' h=>h.1.frz1,λ Z' hC=>?_,λ v hv=>?_⟩
   ·have hle:=hC
    refine⟨Tryz.k50.any,(Tryz.chosenL_ok h t (ht.lg hle.frz2) hf (t.edOf to) hy (ot &&& st) hand2.2).mono ?_⟩
    rintro v Z'' ⟨hv,hle'⟩ -
    exact⟨Z'',.refl _,hle.trans hle',hv⟩
   obtain⟨_,-,a9,c9,rfl,-⟩:=hv
   refine⟨λ v Z'=>∃b0,v=.pointer (some ⟨b0,0,none⟩)/\Hld Z6 b0 49 #[.int .i64 0,.int .i64 0] Z'/\LstV Z' (.slice a9 (t.chosen (t.edOf to) (ot &&& st)).length c9) (t.chosen (t.edOf to) (ot &&& st)),λ v Z1 Z2 h k=>?_,λ v Z' h=>?_,λ Z' hC=>?_,λ v hv=>?_⟩
   ·obtain⟨b0,e,h1,h2⟩:=h
    exact⟨b0,e,h1.le k,h2.le k⟩
   ·obtain⟨b0,e,h1,h2⟩:=h
    exact h1.frz1
   ·obtain⟨hle,hv9⟩:=hC
    conv=>whnf
    intro b0 hf0
    refine⟨_,.refl _,?_⟩
    exact⟨_,.refl _,b0,rfl,.made hle hf0,hv9⟩
   obtain⟨_,b0,rfl,-⟩:=hv
   refine⟨λ v Z'=>Hld Z6 b0 49 #[.int .i64 0,.int .i64 0] Z'/\v=.tuple #[.agg #[.int .i64 (t.kinS (t.edOf fr) (t.edOf to) (t.chosen (t.edOf fr) bits) (t.chosen (t.edOf to) (ot &&& st))).1,.int .i64 (t.kinS (t.edOf fr) (t.edOf to) (t.chosen (t.edOf fr) bits) (t.chosen (t.edOf to) (ot &&& st))).2],.int .i64 0],λ v Z1 Z2 h k=>⟨h.1.le k,h.2⟩,λ v Z' h=>h.1.frz1,λ Z' hC=>?_,λ v hv=>?_⟩
   ·obtain⟨b',e,hle,hv9⟩:=hC
    cases e
    have i9:=hv9.at
    refine⟨Tryz.k41.any,(Tryz.kinL_ok (hle.tok.trans (hle6.tok.trans htok)) h t (ht.lg hle.frz2) hf (t.edOf fr) (t.edOf to) hx hy (i1.lg hle.frz2) hA i9 hB2).mono ?_⟩
    rintro v Z'' ⟨hv,hZ⟩ -
    exact⟨Z',hZ ▸ .refl _,hle,hv⟩
   obtain⟨_,-,rfl⟩:=hv
   refine⟨λ v Z'=>Z6.le Z'/\Blk Z' b0 #[.int .i64 (t.kinS (t.edOf fr) (t.edOf to) (t.chosen (t.edOf fr) bits) (t.chosen (t.edOf to) (ot &&& st))).1,.int .i64 (t.kinS (t.edOf fr) (t.edOf to) (t.chosen (t.edOf fr) bits) (t.chosen (t.edOf to) (ot &&& st))).2],λ v Z1 Z2 h k=>⟨h.1.trans k,h.2.le k⟩,λ v Z' h=>h.1.frz1,λ Z' hC=>?_,λ v hv=>?_⟩
   ·have hH:=hC.1
    conv=>whnf
    exact⟨rfl,hH.write (vs:=[.int .i64 (t.kinS (t.edOf fr) (t.edOf to) (t.chosen (t.edOf fr) bits) (t.chosen (t.edOf to) (ot &&& st))).1,.int .i64 (t.kinS (t.edOf fr) (t.edOf to) (t.chosen (t.edOf fr) bits) (t.chosen (t.edOf to) (ot &&& st))).2]) rfl (by simp [Value.single]) λ Z1 h1 h2=>⟨_,.refl _,h1,h2⟩⟩
   conv=>whnf
   intro Z' hC
   exact⟨rfl,b0,⟨rfl,rfl,rfl,rfl,rfl,rfl,trivial⟩,hC.1,hC.2⟩
  ·skip
   refine⟨_,⟨rfl,hb.frz.rdT λ _ _ h=>h⟩,?_⟩
   refine⟨_,⟨rfl,hb.frz.rdT λ _ _ h=>h⟩,?_⟩
   repeat refine⟨rfl,?_⟩
   conv=>whnf
   rw [hand2.1]
   refine⟨λ v Z'=>∃b0,v=.pointer (some ⟨b0,0,none⟩)/\Hld Z6 b0 49 #[.int .i64 0,.int .i64 0] Z',λ v Z1 Z2 h k=>?_,λ v Z' h=>?_,λ Z' hC=>?_,λ v hv=>?_⟩
   ·obtain⟨b0,e,h1⟩:=h
    exact⟨b0,e,h1.le k⟩
   ·obtain⟨b0,e,h1⟩:=h
    exact h1.frz1
   ·have hle:=hC
    conv=>whnf
    intro b0 hf0
    refine⟨_,.refl _,?_⟩
    exact⟨_,.refl _,b0,rfl,.made hle hf0⟩
   obtain⟨_,b0,rfl,-⟩:=hv
   refine⟨λ v Z'=>Hld Z6 b0 49 #[.int .i64 0,.int .i64 0] Z'/\LstV Z' v (t.chosen (t.edOf to) (ot &&& st)),λ v Z1 Z2 h k=>⟨h.1.le k,h.2.le k⟩,λ v Z' h=>h.1.frz1,λ Z' hC=>?_,λ v hv=>?_⟩
   ·obtain⟨b',e,hle⟩:=hC
    cases e
    refine⟨Tryz.k50.any,(Tryz.chosenL_ok h t (ht.lg hle.frz2) hf (t.edOf to) hy (ot &&& st) hand2.2).mono ?_⟩
    rintro v Z'' ⟨hv,hle'⟩ -
    exact⟨Z'',.refl _,hle.le hle',hv⟩
   obtain⟨_,-,a9,c9,rfl,-⟩:=hv
   refine⟨λ v Z'=>Hld Z6 b0 49 #[.int .i64 0,.int .i64 0] Z'/\v=.tuple #[.agg #[.int .i64 (t.kinS (t.edOf fr) (t.edOf to) (t.chosen (t.edOf fr) bits) (t.chosen (t.edOf to) (ot &&& st))).1,.int .i64 (t.kinS (t.edOf fr) (t.edOf to) (t.chosen (t.edOf fr) bits) (t.chosen (t.edOf to) (ot &&& st))).2],.int .i64 0],λ v Z1 Z2 h k=>⟨h.1.le k,h.2⟩,λ v Z' h=>h.1.frz1,λ Z' hC=>?_,λ v hv=>?_⟩
   ·obtain⟨hle,hv9⟩:=hC
    have i9:=hv9.at
    refine⟨Tryz.k41.any,(Tryz.kinL_ok (hle.tok.trans (hle6.tok.trans htok)) h t (ht.lg hle.frz2) hf (t.edOf fr) (t.edOf to) hx hy (i1.lg hle.frz2) hA i9 hB2).mono ?_⟩
    rintro v Z'' ⟨hv,hZ⟩ -
    exact⟨Z',hZ ▸ .refl _,hle,hv⟩
   obtain⟨_,-,rfl⟩:=hv
   refine⟨λ v Z'=>Z6.le Z'/\Blk Z' b0 #[.int .i64 (t.kinS (t.edOf fr) (t.edOf to) (t.chosen (t.edOf fr) bits) (t.chosen (t.edOf to) (ot &&& st))).1,.int .i64 (t.kinS (t.edOf fr) (t.edOf to) (t.chosen (t.edOf fr) bits) (t.chosen (t.edOf to) (ot &&& st))).2],λ v Z1 Z2 h k=>⟨h.1.trans k,h.2.le k⟩,λ v Z' h=>h.1.frz1,λ Z' hC=>?_,λ v hv=>?_⟩
   ·have hH:=hC.1
    conv=>whnf
    exact⟨rfl,hH.write (vs:=[.int .i64 (t.kinS (t.edOf fr) (t.edOf to) (t.chosen (t.edOf fr) bits) (t.chosen (t.edOf to) (ot &&& st))).1,.int .i64 (t.kinS (t.edOf fr) (t.edOf to) (t.chosen (t.edOf fr) bits) (t.chosen (t.edOf to) (ot &&& st))).2]) rfl (by simp [Value.single]) λ Z1 h1 h2=>⟨_,.refl _,h1,h2⟩⟩
   conv=>whnf
   intro Z' hC
   exact⟨rfl,b0,⟨rfl,rfl,rfl,rfl,rfl,rfl,trivial⟩,hC.1,hC.2⟩
 rintro f' ds' Z7 ⟨rfl,b21,hfr,h7,hs21⟩
 rw [<- hfr.ovr]
 clear hfr
 have hle7:=hle6.trans h7
 have hb:=hb.le h7
 have ht:=ht.lg h7.frz2
 have i1:=i1.lg h7.frz2
 have i2:=i2.lg h7.frz2
 have hs17:=hs17.le h7
 have hs19:=hs19.le h7
 conv=>whnf
 intro a' hf'
 refine⟨by rw [hf'.size,hfr0.size],_,hf'.get,?_⟩
 rw [hf'.ds]
 clear hf' hfr0
 repeat refine⟨rfl,?_⟩
 refine⟨_,hs19.sees3 (o:=0) rfl,?_⟩
 refine⟨_,hs17.sees3 (o:=0) rfl,?_⟩
 repeat refine⟨rfl,?_⟩
 conv=>whnf
 rw [decide_eq_true q1]
 repeat refine⟨rfl,?_⟩
 refine⟨_,hs19.sees3 (o:=1) rfl,?_⟩
 refine⟨_,hs17.sees3 (o:=1) rfl,?_⟩
 repeat refine⟨rfl,?_⟩
 conv=>whnf
 rw [decide_eq_true q2]
 repeat refine⟨rfl,?_⟩
 refine⟨_,hs21.sees3 (o:=0) rfl,?_⟩
 refine⟨_,hs17.sees3 (o:=0) rfl,?_⟩
 repeat refine⟨rfl,?_⟩
 conv=>whnf
 rw [decide_eq_true r1]
 repeat refine⟨rfl,?_⟩
 refine⟨_,hs21.sees3 (o:=1) rfl,?_⟩
 refine⟨_,hs17.sees3 (o:=1) rfl,?_⟩
 repeat refine⟨rfl,?_⟩
 conv=>whnf
 rw [decide_eq_true r2]
 refine⟨Tryz.k26.any,(stocks _ hle7).go λ _=>?_⟩
 repeat refine⟨rfl,?_⟩
 conv=>whnf
 exact hle7.lg
end Go.Proofs
