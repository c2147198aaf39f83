/- A part of the proof: lemmas that the last text uses. No conditions of its own. -/
import Derived.Test.YtebpcmdnecenlaaGreatF28
import Derived.Test.YtebpcmdnecenlaaGreatC01
import Derived.Test.YtebpcmdnecenlaaGreatF30
import Derived.Test.YtebpcmdnecenlaaGreatF08
import Derived.Test.YtebpcmdnecenlaaGreatF09
import Derived.Test.YtebpcmdnecenlaaGreatF10
import Derived.Test.YtebpcmdnecenlaaGreatC00
set_option linter.unusedSimpArgs false
set_option linter.unusedVariables false
namespace Go.TM
theorem levN {n:Nat} (h:n < 256):(IntKind.wrap .i64 (n:Int)).tmod 5 = ((n % 5:Nat):Int):=by
 rw [wrap_inR (by unfold InR;omega),Int.tmod_eq_emod_of_nonneg (by omega)];rfl
theorem commonL_sub (a b:List Int):(commonL a b).Sublist a:=List.filter_sublist ..
end Go.TM
namespace Go.Proofs
open Go.TM
set_option maxRecDepth 100000
attribute [local irreducible] CallsV YieldV rngX
set_option maxHeartbeats 4000000 in
theorem Tryz.goodsProof_top {σ:View Tk} (htok:σ.tok = ⟨0,.out⟩) (h:TH) (t:Tbl) (ht:TabV σ.frz h t) (ed:Nat) (hed:ed < 256) (bits:Nat) (hbits:bits < 256) (ot:Nat) (hot:ot < 256) (lv:Nat) (hlv:lv < 256) (on:Nat) (hon:on < 256) (tw:Nat) (htw:tw < 256) (ppa:Option Addr) (ppl ppc:Nat) (pp:List (Int × Int)) (hpp:PairsV σ.frz ppa ppl pp) (hlpp:ppl < 2 ^ 60) (hcpp:ppl ≤ ppc) :
  J (SysG Tryz.prog 164 2) (Fin Tryz.prog fun v σ'=>v = .bool true ∧ σ.lg σ') true (Rf (Frame.enter Tryz.prog 23 #[h.v,.int .u8 ed,.int .u8 bits,.int .u8 ot,.int .u8 lv,.int .u8 on,.int .u8 tw,.slice ppa ppl ppc] .normal) []) σ:=by
 refine top_of (args:=[_,_,_,_,_,_,_,_]) (Q:=fun v σ'=>v = .bool true ∧ σ.lg σ') Tryz.k23 Tryz.mixed (by kernel_rfl) (by simp) (fun v σ' q=>q.2.tok.trans htok) ?_
 repeat refine ⟨rfl,?_⟩
 conv=>whnf
 intro b σ₁ hle1 hb
 have hb:Blk σ₁ b #[.slice h.ea h.el h.ec,.slice h.ma h.ml h.mc,.slice h.ka h.kl h.kc]:=hb
 have ht:=ht.lg hle1.frz2
 have hpp:=PairsV.lg hpp hle1.frz2
 have stocks:∀ σ₂:View Tk,σ.le σ₂ → CallsV (SysG Tryz.prog 164 2) 26 #[] (fun v σ'=>v = .bool true ∧ σ' = σ₂) σ₂:=fun σ₂ h=>Tryz.stocks_ok (h.tok.trans htok)
 refine ⟨_,⟨rfl,hb.rdT fun _ _ h=>h⟩,?_⟩
 refine ⟨Tryz.k48.any,(Tryz.fit_ok h t (ht.lg frz_self)).mono ?_⟩
 rintro _ σ' ⟨⟨B0,rfl,hB0⟩,hσ'⟩ -
 obtain rfl:=hσ'.symm
 cases B0 with
 | false=>
  refine ⟨Tryz.k26.any,(stocks _ hle1).go fun _=>?_⟩
  repeat refine ⟨rfl,?_⟩
  conv=>whnf
  exact hle1.lg
 | true=>
 have hf:t.flaw = 0:=hB0 rfl
 repeat refine ⟨rfl,?_⟩
 conv=>whnf
 apply cb_split<;>intro hc
 ·refine ⟨Tryz.k26.any,(stocks _ hle1).go fun _=>?_⟩
  repeat refine ⟨rfl,?_⟩
  conv=>whnf
  exact hle1.lg
 have he:=Tbl.isEd_of hf ed
 have hA:=t.lst_chosen (t.edOf ed) bits
 have nA:=hA.len hf
 have hB:=t.lst_chosen (t.edOf ed) ot
 have nB:=hB.len hf
 refine ⟨_,⟨rfl,hb.rdT fun _ _ h=>h⟩,?_⟩
 refine ⟨Tryz.k49.any,(Tryz.edOf_ok h t (ht.lg frz_self) hf ed hed).go fun _=>?_⟩
 repeat refine ⟨rfl,?_⟩
 refine ⟨by decide,?_⟩
 rw [levN (show lv < 256 by omega)]
 refine ⟨by unfold InR;omega,?_⟩
 have hM:1 ≤ 1 + ((lv % 5:Nat):Int) ∧ 1 + ((lv % 5:Nat):Int) ≤ 5:=by omega
 generalize 1 + ((lv % 5:Nat):Int) = M at hM ⊢
 refine ⟨_,⟨rfl,hb.rdT fun _ _ h=>h⟩,?_⟩
 refine ⟨_,⟨rfl,hb.rdT fun _ _ h=>h⟩,?_⟩
 refine ⟨fun v σ'=>LstV σ' v ((t.chosen (t.edOf ed) bits)),fun v σ₁ σ₂ hv hle=>hv.le hle,fun σ' hle _=>?_,fun v _=>?_⟩
 ·refine ⟨Tryz.k50.any,(Tryz.chosenL_ok h t (ht.lg hle.frz2) hf (t.edOf ed) he bits hbits).mono ?_⟩
  rintro v σ'' ⟨hv,hle'⟩ -
  exact ⟨σ'',.refl _,hv,hle'⟩
 conv=>whnf
 intro σ₂ h2 hC
 have hle2:=hle1.trans h2
 have hb:=hb.le h2
 have ht:=ht.lg h2.frz2
 have hpp:=PairsV.lg hpp h2.frz2
 obtain ⟨-,a1,c1,rfl,i1⟩:=hC
 refine ⟨Tryz.k50.any,(Tryz.chosenL_ok h t ht hf (t.edOf ed) he ot hot).mono ?_⟩
 rintro _ σ₃ ⟨⟨a2,c2,rfl,i2⟩,h3⟩ -
 have hle3:=hle2.trans h3
 have hb:=hb.le h3
 have ht:=ht.lg h3.frz2
 have i1:=i1.lg h3.frz2
 have hpp:=PairsV.lg hpp h3.frz2
 have hU0:=t.lst_chosen (t.edOf ed) on
 have nU0:=hU0.len hf
 have hV0:=t.lst_chosen (t.edOf ed) tw
 have nV0:=hV0.len hf
 have hU:=hA.common (t.chosen (t.edOf ed) on)
 have nU:=hU.len hf
 have hV:=hB.common (t.chosen (t.edOf ed) tw)
 have nV:=hV.len hf
 refine ⟨_,⟨rfl,hb.rdT fun _ _ h=>h⟩,?_⟩
 refine ⟨_,⟨rfl,hb.rdT fun _ _ h=>h⟩,?_⟩
 refine ⟨fun v σ'=>LstV σ' v (t.chosen (t.edOf ed) on),fun v σ₁ σ₂ hv hle=>hv.le hle,fun σ' hle hC=>?_,fun v hv=>?_⟩
 ·refine ⟨Tryz.k50.any,(Tryz.chosenL_ok h t (ht.lg hle.frz2) hf (t.edOf ed) he on hon).mono ?_⟩
  rintro v σ'' ⟨hv,hle'⟩ -
  exact ⟨σ'',.refl _,hv,hle'⟩
 obtain ⟨_,-,-,a3,c3,rfl,-⟩:=hv
 refine ⟨fun v σ'=>LstV σ' v (commonL (t.chosen (t.edOf ed) bits) (t.chosen (t.edOf ed) on)),fun v σ₁ σ₂ hv hle=>hv.le hle,fun σ' hle hC=>?_,fun v hv=>?_⟩
 ·obtain ⟨-,hv1⟩:=hC
  refine ⟨Tryz.k55.any,(Tryz.commonL_ok (i1.lg hle.frz2) hv1.at (by omega) (by omega)).mono ?_⟩
  rintro v σ'' ⟨hv,hle'⟩ -
  exact ⟨σ'',.refl _,hv,hle'⟩
 obtain ⟨_,-,-,a4,c4,rfl,-⟩:=hv
 refine ⟨fun v σ'=>LstV σ' v (t.chosen (t.edOf ed) tw),fun v σ₁ σ₂ hv hle=>hv.le hle,fun σ' hle hC=>?_,fun v hv=>?_⟩
 ·refine ⟨Tryz.k50.any,(Tryz.chosenL_ok h t (ht.lg hle.frz2) hf (t.edOf ed) he tw htw).mono ?_⟩
  rintro v σ'' ⟨hv,hle'⟩ -
  exact ⟨σ'',.refl _,hv,hle'⟩
 obtain ⟨_,-,-,a5,c5,rfl,-⟩:=hv
 conv=>whnf
 intro σ₄ h4 hC
 have hle4:=hle3.trans h4
 have hb:=hb.le h4
 have ht:=ht.lg h4.frz2
 have i1:=i1.lg h4.frz2
 have i2:=i2.lg h4.frz2
 have hpp:=PairsV.lg hpp h4.frz2
 obtain ⟨⟨-,hv4⟩,hv5⟩:=hC
 have i4:=hv4.at
 have i5:=hv5.at
 refine ⟨Tryz.k55.any,(Tryz.commonL_ok i2 i5 (by omega) (by omega)).mono ?_⟩
 rintro _ σ₅ ⟨⟨a6,c6,rfl,i6⟩,h5⟩ -
 have hle5:=hle4.trans h5
 have hb:=hb.le h5
 have ht:=ht.lg h5.frz2
 have i1:=i1.lg h5.frz2
 have i2:=i2.lg h5.frz2
 have i4:=i4.lg h5.frz2
 have i5:=i5.lg h5.frz2
 have hpp:=PairsV.lg hpp h5.frz2
 refine ⟨_,⟨rfl,hb.rdT fun _ _ h=>h⟩,?_⟩
 refine ⟨Tryz.k46.any,(Tryz.agL_ok h t ht hf (t.edOf ed) M he i1 hA i2 hB (by omega) (by omega)).mono ?_⟩
 rintro _ σ₆ ⟨⟨_,_,_,L,rfl,⟨a7,c7,rfl,i7⟩,⟨a8,c8,rfl,i8⟩,⟨a9,c9,rfl,p9c,p9⟩,hL⟩,h6⟩ -
 have hle6:=hle5.trans h6
 have hb:=hb.le h6
 have ht:=ht.lg h6.frz2
 have i1:=i1.lg h6.frz2
 have i2:=i2.lg h6.frz2
 have i4:=i4.lg h6.frz2
 have i5:=i5.lg h6.frz2
 have i6:=i6.lg h6.frz2
 have hpp:=PairsV.lg hpp h6.frz2
 have sX:=Tbl.agr_one (t:=t) (tk:=(⟨(t.edOf ed),M,(t.chosen (t.edOf ed) bits),(t.chosen (t.edOf ed) ot)⟩:Talk)) hA.asc hB.asc
 have sY:=Tbl.agr_two (t:=t) (tk:=(⟨(t.edOf ed),M,(t.chosen (t.edOf ed) bits),(t.chosen (t.edOf ed) ot)⟩:Talk)) hA.asc hB.asc
 have nX:((t.agr (⟨(t.edOf ed),M,(t.chosen (t.edOf ed) bits),(t.chosen (t.edOf ed) ot)⟩:Talk)).1).length ≤ (t.chosen (t.edOf ed) bits).length:=sX.length_le
 have nY:((t.agr (⟨(t.edOf ed),M,(t.chosen (t.edOf ed) bits),(t.chosen (t.edOf ed) ot)⟩:Talk)).2).length ≤ (t.chosen (t.edOf ed) ot).length:=sY.length_le
 have hlen:=Tbl.agr_len (t:=t) (tk:=(⟨(t.edOf ed),M,(t.chosen (t.edOf ed) bits),(t.chosen (t.edOf ed) ot)⟩:Talk)) hA.asc hB.asc
 have hcov:=Tbl.agr_cover (t:=t) (tk:=(⟨(t.edOf ed),M,(t.chosen (t.edOf ed) bits),(t.chosen (t.edOf ed) ot)⟩:Talk)) hA.asc hB.asc
 obtain ⟨hLn,-,-⟩:=proofL_apart (Tbl.prs_sorted (t:=t) (tk:=(⟨(t.edOf ed),M,(t.chosen (t.edOf ed) bits),(t.chosen (t.edOf ed) ot)⟩:Talk)) hA.asc) hL
 refine ⟨_,⟨rfl,hb.rdT fun _ _ h=>h⟩,?_⟩
 refine ⟨Tryz.k60.any,(Tryz.prvL_ok h t ht hf (t.edOf ed) M he i1 hA i2 hB (by omega) (by omega) i4 nU i6 nV hpp hlpp hcpp).mono ?_⟩
 rintro _ σ' ⟨⟨B1,rfl,hB1⟩,hσ'⟩ -
 obtain rfl:=hσ'.symm
 refine ⟨_,⟨rfl,hb.rdT fun _ _ h=>h⟩,?_⟩
 refine ⟨Tryz.k60.any,(Tryz.prvL_ok h t ht hf (t.edOf ed) M he i1 hA i2 hB (by omega) (by omega) i4 nU i6 nV p9 (by omega) p9c).mono ?_⟩
 rintro _ σ' ⟨⟨B2,rfl,hB2⟩,hσ'⟩ -
 obtain rfl:=hσ'.symm
 have hWA:=hA.without (commonL (t.chosen (t.edOf ed) bits) (t.chosen (t.edOf ed) on))
 have nWA:=hWA.len hf
 have hWB:=hB.without (commonL (t.chosen (t.edOf ed) ot) (t.chosen (t.edOf ed) tw))
 have nWB:=hWB.len hf
 refine ⟨_,⟨rfl,hb.rdT fun _ _ h=>h⟩,?_⟩
 refine ⟨fun v σ'=>LstV σ' v (withoutL (t.chosen (t.edOf ed) bits) (commonL (t.chosen (t.edOf ed) bits) (t.chosen (t.edOf ed) on))),fun v σ₁ σ₂ hv hle=>hv.le hle,fun σ' hle hC=>?_,fun v hv=>?_⟩
 ·refine ⟨Tryz.k58.any,(Tryz.withoutL_ok (i1.lg hle.frz2) (i4.lg hle.frz2) (by omega) (by omega)).mono ?_⟩
  rintro v σ'' ⟨hv,hle'⟩ -
  exact ⟨σ'',.refl _,hv,hle'⟩
 obtain ⟨_,-,-,a10,c10,rfl,-⟩:=hv
 refine ⟨fun v σ'=>LstV σ' v (withoutL (t.chosen (t.edOf ed) ot) (commonL (t.chosen (t.edOf ed) ot) (t.chosen (t.edOf ed) tw))),fun v σ₁ σ₂ hv hle=>hv.le hle,fun σ' hle hC=>?_,fun v hv=>?_⟩
 ·refine ⟨Tryz.k58.any,(Tryz.withoutL_ok (i2.lg hle.frz2) (i6.lg hle.frz2) (by omega) (by omega)).mono ?_⟩
  rintro v σ'' ⟨hv,hle'⟩ -
  exact ⟨σ'',.refl _,hv,hle'⟩
 obtain ⟨_,-,-,a11,c11,rfl,-⟩:=hv
 refine ⟨fun v σ'=>PrsE σ' v (t.prs ⟨(t.edOf ed),M,(withoutL (t.chosen (t.edOf ed) bits) (commonL (t.chosen (t.edOf ed) bits) (t.chosen (t.edOf ed) on))),(withoutL (t.chosen (t.edOf ed) ot) (commonL (t.chosen (t.edOf ed) ot) (t.chosen (t.edOf ed) tw)))⟩),fun v σ₁ σ₂ hv hle=>hv.le hle,fun σ' hle hC=>?_,fun v hv=>?_⟩
 ·obtain ⟨⟨-,hv1⟩,hv2⟩:=hC
  refine ⟨Tryz.k43.any,(Tryz.prsG_ok h t (ht.lg hle.frz2) hf (t.edOf ed) M he hv1.at hWA hv2.at hWB (by omega) (by omega)).mono ?_⟩
  rintro v σ'' ⟨hv,hle'⟩ -
  exact ⟨σ'',.refl _,hv,hle'⟩
 obtain ⟨_,-,-,_,rfl,a12,c12,rfl,-⟩:=hv
 conv=>whnf
 intro σ₇ h7 hC
 have hle7:=hle6.trans h7
 have hb:=hb.le h7
 have ht:=ht.lg h7.frz2
 have i1:=i1.lg h7.frz2
 have i2:=i2.lg h7.frz2
 have i4:=i4.lg h7.frz2
 have i5:=i5.lg h7.frz2
 have i6:=i6.lg h7.frz2
 have i7:=i7.lg h7.frz2
 have i8:=i8.lg h7.frz2
 have hpp:=PairsV.lg hpp h7.frz2
 have p9:=PairsV.lg p9 h7.frz2
 obtain ⟨-,hv3⟩:=hC
 have hiff:=Tbl.prov_iff (t:=t) (tk:=(⟨(t.edOf ed),M,(t.chosen (t.edOf ed) bits),(t.chosen (t.edOf ed) ot)⟩:Talk)) (x:=(commonL (t.chosen (t.edOf ed) bits) (t.chosen (t.edOf ed) on))) (y:=(commonL (t.chosen (t.edOf ed) ot) (t.chosen (t.edOf ed) tw))) hA.asc hB.asc (commonL_sub _ _) (commonL_sub _ _) hL
 have nQ:=t.prs_len ⟨(t.edOf ed),M,(withoutL (t.chosen (t.edOf ed) bits) (commonL (t.chosen (t.edOf ed) bits) (t.chosen (t.edOf ed) on))),(withoutL (t.chosen (t.edOf ed) ot) (commonL (t.chosen (t.edOf ed) ot) (t.chosen (t.edOf ed) tw)))⟩
 have nAB:(withoutL (t.chosen (t.edOf ed) bits) (commonL (t.chosen (t.edOf ed) bits) (t.chosen (t.edOf ed) on))).length * (withoutL (t.chosen (t.edOf ed) ot) (commonL (t.chosen (t.edOf ed) ot) (t.chosen (t.edOf ed) tw))).length ≤ 8 * 8:=Nat.mul_le_mul nWA nWB
 have nQ:(t.prs ⟨(t.edOf ed),M,(withoutL (t.chosen (t.edOf ed) bits) (commonL (t.chosen (t.edOf ed) bits) (t.chosen (t.edOf ed) on))),(withoutL (t.chosen (t.edOf ed) ot) (commonL (t.chosen (t.edOf ed) ot) (t.chosen (t.edOf ed) tw)))⟩).length ≤ 64:=Nat.le_trans nQ nAB
 cases B1 with
 | false=>
  repeat refine ⟨rfl,?_⟩
  conv=>whnf
  by_cases hq:(t.prs ⟨(t.edOf ed),M,(withoutL (t.chosen (t.edOf ed) bits) (commonL (t.chosen (t.edOf ed) bits) (t.chosen (t.edOf ed) on))),(withoutL (t.chosen (t.edOf ed) ot) (commonL (t.chosen (t.edOf ed) ot) (t.chosen (t.edOf ed) tw)))⟩) = []
  ·have e0:(((((t.prs ⟨(t.edOf ed),M,(withoutL (t.chosen (t.edOf ed) bits) (commonL (t.chosen (t.edOf ed) bits) (t.chosen (t.edOf ed) on))),(withoutL (t.chosen (t.edOf ed) ot) (commonL (t.chosen (t.edOf ed) ot) (t.chosen (t.edOf ed) tw)))⟩)).length:Nat):Int) == 0) = true:=by rw [hq];rfl
   repeat refine ⟨rfl,?_⟩
   conv=>whnf
   rw [e0]
   refine ⟨by unfold InR;omega,?_⟩
   refine ⟨by unfold InR;omega,?_⟩
   repeat refine ⟨rfl,?_⟩
   conv=>whnf
   by_cases hs:(commonL (t.chosen (t.edOf ed) bits) (t.chosen (t.edOf ed) on)).length + (commonL (t.chosen (t.edOf ed) ot) (t.chosen (t.edOf ed) tw)).length = ((t.agr (⟨(t.edOf ed),M,(t.chosen (t.edOf ed) bits),(t.chosen (t.edOf ed) ot)⟩:Talk)).1).length + ((t.agr (⟨(t.edOf ed),M,(t.chosen (t.edOf ed) bits),(t.chosen (t.edOf ed) ot)⟩:Talk)).2).length
   ·obtain rfl:B2 = true:=hB2.2 (hiff.2 ⟨Tbl.none_left.1 hq,by omega⟩)
    rw [show (((((commonL (t.chosen (t.edOf ed) bits) (t.chosen (t.edOf ed) on))).length:Nat):Int) + ((((commonL (t.chosen (t.edOf ed) ot) (t.chosen (t.edOf ed) tw))).length:Nat):Int) == ((((t.agr (⟨(t.edOf ed),M,(t.chosen (t.edOf ed) bits),(t.chosen (t.edOf ed) ot)⟩:Talk)).1).length:Nat):Int) + ((((t.agr (⟨(t.edOf ed),M,(t.chosen (t.edOf ed) bits),(t.chosen (t.edOf ed) ot)⟩:Talk)).2).length:Nat):Int)) = true by rw [beq_iff_eq];omega]
    refine ⟨Tryz.k26.any,(stocks _ hle7).go fun _=>?_⟩
    repeat refine ⟨rfl,?_⟩
    conv=>whnf
    exact hle7.lg
   ·have hb2:B2 = false:=by
     cases B2 with
     | false=>rfl
     | true=>exact absurd (hiff.1 (hB2.1 rfl)).2 (by omega)
    subst hb2
    rw [show (((((commonL (t.chosen (t.edOf ed) bits) (t.chosen (t.edOf ed) on))).length:Nat):Int) + ((((commonL (t.chosen (t.edOf ed) ot) (t.chosen (t.edOf ed) tw))).length:Nat):Int) == ((((t.agr (⟨(t.edOf ed),M,(t.chosen (t.edOf ed) bits),(t.chosen (t.edOf ed) ot)⟩:Talk)).1).length:Nat):Int) + ((((t.agr (⟨(t.edOf ed),M,(t.chosen (t.edOf ed) bits),(t.chosen (t.edOf ed) ot)⟩:Talk)).2).length:Nat):Int)) = false by rw [beq_eq_false_iff_ne];omega]
    refine ⟨Tryz.k26.any,(stocks _ hle7).go fun _=>?_⟩
    repeat refine ⟨rfl,?_⟩
    conv=>whnf
    exact hle7.lg
  ·have hl0:(t.prs ⟨(t.edOf ed),M,(withoutL (t.chosen (t.edOf ed) bits) (commonL (t.chosen (t.edOf ed) bits) (t.chosen (t.edOf ed) on))),(withoutL (t.chosen (t.edOf ed) ot) (commonL (t.chosen (t.edOf ed) ot) (t.chosen (t.edOf ed) tw)))⟩).length ≠ 0:=fun h=>hq (List.eq_nil_of_length_eq_zero h)
   have e0:(((((t.prs ⟨(t.edOf ed),M,(withoutL (t.chosen (t.edOf ed) bits) (commonL (t.chosen (t.edOf ed) bits) (t.chosen (t.edOf ed) on))),(withoutL (t.chosen (t.edOf ed) ot) (commonL (t.chosen (t.edOf ed) ot) (t.chosen (t.edOf ed) tw)))⟩)).length:Nat):Int) == 0) = false:=by rw [beq_eq_false_iff_ne];omega
   have hb2:B2 = false:=by
    cases B2 with
    | false=>rfl
    | true=>exact absurd (Tbl.none_left.2 (hiff.1 (hB2.1 rfl)).1) hq
   subst hb2
   repeat refine ⟨rfl,?_⟩
   conv=>whnf
   rw [e0]
   refine ⟨Tryz.k26.any,(stocks _ hle7).go fun _=>?_⟩
   repeat refine ⟨rfl,?_⟩
   conv=>whnf
   exact hle7.lg
 | true=>
  have hs1:=Tbl.prov_len (t:=t) (tk:=(⟨(t.edOf ed),M,(t.chosen (t.edOf ed) bits),(t.chosen (t.edOf ed) ot)⟩:Talk)) hA.asc (hB1.1 rfl)
  repeat refine ⟨rfl,?_⟩
  conv=>whnf
  refine ⟨by unfold InR;omega,?_⟩
  refine ⟨by unfold InR;omega,?_⟩
  repeat refine ⟨rfl,?_⟩
  conv=>whnf
  rw [show (((((commonL (t.chosen (t.edOf ed) bits) (t.chosen (t.edOf ed) on))).length:Nat):Int) + ((((commonL (t.chosen (t.edOf ed) ot) (t.chosen (t.edOf ed) tw))).length:Nat):Int) != ((((t.agr (⟨(t.edOf ed),M,(t.chosen (t.edOf ed) bits),(t.chosen (t.edOf ed) ot)⟩:Talk)).1).length:Nat):Int) + ((((t.agr (⟨(t.edOf ed),M,(t.chosen (t.edOf ed) bits),(t.chosen (t.edOf ed) ot)⟩:Talk)).2).length:Nat):Int)) = false by rw [bne_eq_false_iff_eq];omega]
  by_cases hq:(t.prs ⟨(t.edOf ed),M,(withoutL (t.chosen (t.edOf ed) bits) (commonL (t.chosen (t.edOf ed) bits) (t.chosen (t.edOf ed) on))),(withoutL (t.chosen (t.edOf ed) ot) (commonL (t.chosen (t.edOf ed) ot) (t.chosen (t.edOf ed) tw)))⟩) = []
  ·have e0:(((((t.prs ⟨(t.edOf ed),M,(withoutL (t.chosen (t.edOf ed) bits) (commonL (t.chosen (t.edOf ed) bits) (t.chosen (t.edOf ed) on))),(withoutL (t.chosen (t.edOf ed) ot) (commonL (t.chosen (t.edOf ed) ot) (t.chosen (t.edOf ed) tw)))⟩)).length:Nat):Int) == 0) = true:=by rw [hq];rfl
   repeat refine ⟨rfl,?_⟩
   conv=>whnf
   rw [e0]
   refine ⟨by unfold InR;omega,?_⟩
   refine ⟨by unfold InR;omega,?_⟩
   repeat refine ⟨rfl,?_⟩
   conv=>whnf
   by_cases hs:(commonL (t.chosen (t.edOf ed) bits) (t.chosen (t.edOf ed) on)).length + (commonL (t.chosen (t.edOf ed) ot) (t.chosen (t.edOf ed) tw)).length = ((t.agr (⟨(t.edOf ed),M,(t.chosen (t.edOf ed) bits),(t.chosen (t.edOf ed) ot)⟩:Talk)).1).length + ((t.agr (⟨(t.edOf ed),M,(t.chosen (t.edOf ed) bits),(t.chosen (t.edOf ed) ot)⟩:Talk)).2).length
   ·obtain rfl:B2 = true:=hB2.2 (hiff.2 ⟨Tbl.none_left.1 hq,by omega⟩)
    rw [show (((((commonL (t.chosen (t.edOf ed) bits) (t.chosen (t.edOf ed) on))).length:Nat):Int) + ((((commonL (t.chosen (t.edOf ed) ot) (t.chosen (t.edOf ed) tw))).length:Nat):Int) == ((((t.agr (⟨(t.edOf ed),M,(t.chosen (t.edOf ed) bits),(t.chosen (t.edOf ed) ot)⟩:Talk)).1).length:Nat):Int) + ((((t.agr (⟨(t.edOf ed),M,(t.chosen (t.edOf ed) bits),(t.chosen (t.edOf ed) ot)⟩:Talk)).2).length:Nat):Int)) = true by rw [beq_iff_eq];omega]
    refine ⟨Tryz.k26.any,(stocks _ hle7).go fun _=>?_⟩
    repeat refine ⟨rfl,?_⟩
    conv=>whnf
    exact hle7.lg
   ·have hb2:B2 = false:=by
     cases B2 with
     | false=>rfl
     | true=>exact absurd (hiff.1 (hB2.1 rfl)).2 (by omega)
    subst hb2
    rw [show (((((commonL (t.chosen (t.edOf ed) bits) (t.chosen (t.edOf ed) on))).length:Nat):Int) + ((((commonL (t.chosen (t.edOf ed) ot) (t.chosen (t.edOf ed) tw))).length:Nat):Int) == ((((t.agr (⟨(t.edOf ed),M,(t.chosen (t.edOf ed) bits),(t.chosen (t.edOf ed) ot)⟩:Talk)).1).length:Nat):Int) + ((((t.agr (⟨(t.edOf ed),M,(t.chosen (t.edOf ed) bits),(t.chosen (t.edOf ed) ot)⟩:Talk)).2).length:Nat):Int)) = false by rw [beq_eq_false_iff_ne];omega]
    refine ⟨Tryz.k26.any,(stocks _ hle7).go fun _=>?_⟩
    repeat refine ⟨rfl,?_⟩
    conv=>whnf
    exact hle7.lg
  ·have hl0:(t.prs ⟨(t.edOf ed),M,(withoutL (t.chosen (t.edOf ed) bits) (commonL (t.chosen (t.edOf ed) bits) (t.chosen (t.edOf ed) on))),(withoutL (t.chosen (t.edOf ed) ot) (commonL (t.chosen (t.edOf ed) ot) (t.chosen (t.edOf ed) tw)))⟩).length ≠ 0:=fun h=>hq (List.eq_nil_of_length_eq_zero h)
   have e0:(((((t.prs ⟨(t.edOf ed),M,(withoutL (t.chosen (t.edOf ed) bits) (commonL (t.chosen (t.edOf ed) bits) (t.chosen (t.edOf ed) on))),(withoutL (t.chosen (t.edOf ed) ot) (commonL (t.chosen (t.edOf ed) ot) (t.chosen (t.edOf ed) tw)))⟩)).length:Nat):Int) == 0) = false:=by rw [beq_eq_false_iff_ne];omega
   have hb2:B2 = false:=by
    cases B2 with
    | false=>rfl
    | true=>exact absurd (Tbl.none_left.2 (hiff.1 (hB2.1 rfl)).1) hq
   subst hb2
   repeat refine ⟨rfl,?_⟩
   conv=>whnf
   rw [e0]
   refine ⟨Tryz.k26.any,(stocks _ hle7).go fun _=>?_⟩
   repeat refine ⟨rfl,?_⟩
   conv=>whnf
   exact hle7.lg
end Go.Proofs
