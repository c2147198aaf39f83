/- A part of the proof: lemmas that the last text uses. No conditions of its own. -/
import Derived.Test.YtebpcmdnecenlaaGreatF28
import Derived.Test.YtebpcmdnecenlaaGreatC01
import Derived.Test.YtebpcmdnecenlaaGreatF30
import Derived.Test.YtebpcmdnecenlaaGreatF08
import Derived.Test.YtebpcmdnecenlaaGreatF09
import Derived.Test.YtebpcmdnecenlaaGreatF10
import Derived.Test.YtebpcmdnecenlaaGreatC00
set_option linter.unusedSimpArgs false
set_option linter.unusedVariables false
namespace Go.TM
theorem levN {n:Nat} (h:n < 256):(IntKind.wrap .i64 (n:Int)).tmod 5 = ((n % 5:Nat):Int):=by
 rw [wrap_inR (by unfold InR;omega),Int.tmod_eq_emod_of_nonneg (by omega)];rfl
theorem commonL_sub (a b:List Int):(commonL a b).Sublist a:=List.filter_sublist ..
end Go.TM
namespace Go.Proofs
open Go.TM
set_option maxRecDepth 100000
attribute [local irreducible] CallsV YieldV rngX
set_option maxHeartbeats 4000000 in
theorem Tryz.goodsFewest_top {σ:View Tk} (htok:σ.tok = ⟨0,.out⟩) (h:TH) (t:Tbl) (ht:TabV σ.frz h t) (ed:Nat) (hed:ed < 256) (bits:Nat) (hbits:bits < 256) (ot:Nat) (hot:ot < 256) (lv:Nat) (hlv:lv < 256) (on:Nat) (hon:on < 256) (tw:Nat) (htw:tw < 256) :
  J (SysG Tryz.prog 164 2) (Fin Tryz.prog fun v σ'=>v = .bool true ∧ σ.lg σ') true (Rf (Frame.enter Tryz.prog 19 #[h.v,.int .u8 ed,.int .u8 bits,.int .u8 ot,.int .u8 lv,.int .u8 on,.int .u8 tw] .normal) []) σ:=by
 refine top_of (args:=[_,_,_,_,_,_,_]) (Q:=fun v σ'=>v = .bool true ∧ σ.lg σ') Tryz.k19 Tryz.mixed (by kernel_rfl) (by simp) (fun v σ' q=>q.2.tok.trans htok) ?_
 repeat refine ⟨rfl,?_⟩
 conv=>whnf
 intro b σ₁ hle1 hb
 have hb:Blk σ₁ b #[.slice h.ea h.el h.ec,.slice h.ma h.ml h.mc,.slice h.ka h.kl h.kc]:=hb
 have ht:=ht.lg hle1.frz2
 have stocks:∀ σ₂:View Tk,σ.le σ₂ → CallsV (SysG Tryz.prog 164 2) 26 #[] (fun v σ'=>v = .bool true ∧ σ' = σ₂) σ₂:=fun σ₂ h=>Tryz.stocks_ok (h.tok.trans htok)
 refine ⟨_,⟨rfl,hb.rdT fun _ _ h=>h⟩,?_⟩
 refine ⟨Tryz.k48.any,(Tryz.fit_ok h t (ht.lg frz_self)).mono ?_⟩
 rintro _ σ' ⟨⟨B,rfl,hB⟩,hσ'⟩ -
 obtain rfl:=hσ'.symm
 repeat refine ⟨rfl,?_⟩
 conv=>whnf
 apply cb_split<;>intro hc
 ·refine ⟨Tryz.k26.any,(stocks _ hle1).go fun _=>?_⟩
  repeat refine ⟨rfl,?_⟩
  conv=>whnf
  exact hle1.lg
 have hf:t.flaw = 0:=hB (by simpa using hc)
 have he:=Tbl.isEd_of hf ed
 have hA:=t.lst_chosen (t.edOf ed) bits
 have nA:=hA.len hf
 have hB:=t.lst_chosen (t.edOf ed) ot
 have nB:=hB.len hf
 refine ⟨_,⟨rfl,hb.rdT fun _ _ h=>h⟩,?_⟩
 refine ⟨Tryz.k49.any,(Tryz.edOf_ok h t (ht.lg frz_self) hf ed hed).go fun _=>?_⟩
 repeat refine ⟨rfl,?_⟩
 refine ⟨by decide,?_⟩
 rw [levN (show lv < 256 by omega)]
 refine ⟨by unfold InR;omega,?_⟩
 have hM:1 ≤ 1 + ((lv % 5:Nat):Int) ∧ 1 + ((lv % 5:Nat):Int) ≤ 5:=by omega
 generalize 1 + ((lv % 5:Nat):Int) = M at hM ⊢
 refine ⟨_,⟨rfl,hb.rdT fun _ _ h=>h⟩,?_⟩
 refine ⟨_,⟨rfl,hb.rdT fun _ _ h=>h⟩,?_⟩
 refine ⟨fun v σ'=>LstV σ' v ((t.chosen (t.edOf ed) bits)),fun v σ₁ σ₂ hv hle=>hv.le hle,fun σ' hle _=>?_,fun v _=>?_⟩
 ·refine ⟨Tryz.k50.any,(Tryz.chosenL_ok h t (ht.lg hle.frz2) hf (t.edOf ed) he bits hbits).mono ?_⟩
  rintro v σ'' ⟨hv,hle'⟩ -
  exact ⟨σ'',.refl _,hv,hle'⟩
 conv=>whnf
 intro σ₂ h2 hC
 have hle2:=hle1.trans h2
 have hb:=hb.le h2
 have ht:=ht.lg h2.frz2
 obtain ⟨-,a1,c1,rfl,i1⟩:=hC
 refine ⟨Tryz.k50.any,(Tryz.chosenL_ok h t ht hf (t.edOf ed) he ot hot).mono ?_⟩
 rintro _ σ₃ ⟨⟨a2,c2,rfl,i2⟩,h3⟩ -
 have hle3:=hle2.trans h3
 have hb:=hb.le h3
 have ht:=ht.lg h3.frz2
 have i1:=i1.lg h3.frz2
 have hU0:=t.lst_chosen (t.edOf ed) on
 have nU0:=hU0.len hf
 have hV0:=t.lst_chosen (t.edOf ed) tw
 have nV0:=hV0.len hf
 have hU:=hA.common (t.chosen (t.edOf ed) on)
 have nU:=hU.len hf
 have hV:=hB.common (t.chosen (t.edOf ed) tw)
 have nV:=hV.len hf
 refine ⟨_,⟨rfl,hb.rdT fun _ _ h=>h⟩,?_⟩
 refine ⟨_,⟨rfl,hb.rdT fun _ _ h=>h⟩,?_⟩
 refine ⟨fun v σ'=>LstV σ' v (t.chosen (t.edOf ed) on),fun v σ₁ σ₂ hv hle=>hv.le hle,fun σ' hle hC=>?_,fun v hv=>?_⟩
 ·refine ⟨Tryz.k50.any,(Tryz.chosenL_ok h t (ht.lg hle.frz2) hf (t.edOf ed) he on hon).mono ?_⟩
  rintro v σ'' ⟨hv,hle'⟩ -
  exact ⟨σ'',.refl _,hv,hle'⟩
 obtain ⟨_,-,-,a3,c3,rfl,-⟩:=hv
 refine ⟨fun v σ'=>LstV σ' v (commonL (t.chosen (t.edOf ed) bits) (t.chosen (t.edOf ed) on)),fun v σ₁ σ₂ hv hle=>hv.le hle,fun σ' hle hC=>?_,fun v hv=>?_⟩
 ·obtain ⟨-,hv1⟩:=hC
  refine ⟨Tryz.k55.any,(Tryz.commonL_ok (i1.lg hle.frz2) hv1.at (by omega) (by omega)).mono ?_⟩
  rintro v σ'' ⟨hv,hle'⟩ -
  exact ⟨σ'',.refl _,hv,hle'⟩
 obtain ⟨_,-,-,a4,c4,rfl,-⟩:=hv
 refine ⟨fun v σ'=>LstV σ' v (t.chosen (t.edOf ed) tw),fun v σ₁ σ₂ hv hle=>hv.le hle,fun σ' hle hC=>?_,fun v hv=>?_⟩
 ·refine ⟨Tryz.k50.any,(Tryz.chosenL_ok h t (ht.lg hle.frz2) hf (t.edOf ed) he tw htw).mono ?_⟩
  rintro v σ'' ⟨hv,hle'⟩ -
  exact ⟨σ'',.refl _,hv,hle'⟩
 obtain ⟨_,-,-,a5,c5,rfl,-⟩:=hv
 conv=>whnf
 intro σ₄ h4 hC
 have hle4:=hle3.trans h4
 have hb:=hb.le h4
 have ht:=ht.lg h4.frz2
 have i1:=i1.lg h4.frz2
 have i2:=i2.lg h4.frz2
 obtain ⟨⟨-,hv4⟩,hv5⟩:=hC
 have i4:=hv4.at
 have i5:=hv5.at
 refine ⟨Tryz.k55.any,(Tryz.commonL_ok i2 i5 (by omega) (by omega)).mono ?_⟩
 rintro _ σ₅ ⟨⟨a6,c6,rfl,i6⟩,h5⟩ -
 have hle5:=hle4.trans h5
 have hb:=hb.le h5
 have ht:=ht.lg h5.frz2
 have i1:=i1.lg h5.frz2
 have i2:=i2.lg h5.frz2
 have i4:=i4.lg h5.frz2
 have i5:=i5.lg h5.frz2
 refine ⟨_,⟨rfl,hb.rdT fun _ _ h=>h⟩,?_⟩
 refine ⟨Tryz.k46.any,(Tryz.agL_ok h t ht hf (t.edOf ed) M he i1 hA i2 hB (by omega) (by omega)).mono ?_⟩
 rintro _ σ₆ ⟨⟨_,_,_,L,rfl,⟨a7,c7,rfl,i7⟩,⟨a8,c8,rfl,i8⟩,⟨a9,c9,rfl,p9c,p9⟩,hL⟩,h6⟩ -
 have hle6:=hle5.trans h6
 have hb:=hb.le h6
 have ht:=ht.lg h6.frz2
 have i1:=i1.lg h6.frz2
 have i2:=i2.lg h6.frz2
 have i4:=i4.lg h6.frz2
 have i5:=i5.lg h6.frz2
 have i6:=i6.lg h6.frz2
 have sX:=Tbl.agr_one (t:=t) (tk:=(⟨(t.edOf ed),M,(t.chosen (t.edOf ed) bits),(t.chosen (t.edOf ed) ot)⟩:Talk)) hA.asc hB.asc
 have sY:=Tbl.agr_two (t:=t) (tk:=(⟨(t.edOf ed),M,(t.chosen (t.edOf ed) bits),(t.chosen (t.edOf ed) ot)⟩:Talk)) hA.asc hB.asc
 have nX:((t.agr (⟨(t.edOf ed),M,(t.chosen (t.edOf ed) bits),(t.chosen (t.edOf ed) ot)⟩:Talk)).1).length ≤ (t.chosen (t.edOf ed) bits).length:=sX.length_le
 have nY:((t.agr (⟨(t.edOf ed),M,(t.chosen (t.edOf ed) bits),(t.chosen (t.edOf ed) ot)⟩:Talk)).2).length ≤ (t.chosen (t.edOf ed) ot).length:=sY.length_le
 have hlen:=Tbl.agr_len (t:=t) (tk:=(⟨(t.edOf ed),M,(t.chosen (t.edOf ed) bits),(t.chosen (t.edOf ed) ot)⟩:Talk)) hA.asc hB.asc
 have hcov:=Tbl.agr_cover (t:=t) (tk:=(⟨(t.edOf ed),M,(t.chosen (t.edOf ed) bits),(t.chosen (t.edOf ed) ot)⟩:Talk)) hA.asc hB.asc
 have hWA:=hA.without (commonL (t.chosen (t.edOf ed) bits) (t.chosen (t.edOf ed) on))
 have nWA:=hWA.len hf
 have hWB:=hB.without (commonL (t.chosen (t.edOf ed) ot) (t.chosen (t.edOf ed) tw))
 have nWB:=hWB.len hf
 refine ⟨_,⟨rfl,hb.rdT fun _ _ h=>h⟩,?_⟩
 refine ⟨fun v σ'=>LstV σ' v (withoutL (t.chosen (t.edOf ed) bits) (commonL (t.chosen (t.edOf ed) bits) (t.chosen (t.edOf ed) on))),fun v σ₁ σ₂ hv hle=>hv.le hle,fun σ' hle hC=>?_,fun v hv=>?_⟩
 ·refine ⟨Tryz.k58.any,(Tryz.withoutL_ok (i1.lg hle.frz2) (i4.lg hle.frz2) (by omega) (by omega)).mono ?_⟩
  rintro v σ'' ⟨hv,hle'⟩ -
  exact ⟨σ'',.refl _,hv,hle'⟩
 obtain ⟨_,-,-,a10,c10,rfl,-⟩:=hv
 refine ⟨fun v σ'=>LstV σ' v (withoutL (t.chosen (t.edOf ed) ot) (commonL (t.chosen (t.edOf ed) ot) (t.chosen (t.edOf ed) tw))),fun v σ₁ σ₂ hv hle=>hv.le hle,fun σ' hle hC=>?_,fun v hv=>?_⟩
 ·refine ⟨Tryz.k58.any,(Tryz.withoutL_ok (i2.lg hle.frz2) (i6.lg hle.frz2) (by omega) (by omega)).mono ?_⟩
  rintro v σ'' ⟨hv,hle'⟩ -
  exact ⟨σ'',.refl _,hv,hle'⟩
 obtain ⟨_,-,-,a11,c11,rfl,-⟩:=hv
 refine ⟨fun v σ'=>PrsE σ' v (t.prs ⟨(t.edOf ed),M,(withoutL (t.chosen (t.edOf ed) bits) (commonL (t.chosen (t.edOf ed) bits) (t.chosen (t.edOf ed) on))),(withoutL (t.chosen (t.edOf ed) ot) (commonL (t.chosen (t.edOf ed) ot) (t.chosen (t.edOf ed) tw)))⟩),fun v σ₁ σ₂ hv hle=>hv.le hle,fun σ' hle hC=>?_,fun v hv=>?_⟩
 ·obtain ⟨⟨-,hv1⟩,hv2⟩:=hC
  refine ⟨Tryz.k43.any,(Tryz.prsG_ok h t (ht.lg hle.frz2) hf (t.edOf ed) M he hv1.at hWA hv2.at hWB (by omega) (by omega)).mono ?_⟩
  rintro v σ'' ⟨hv,hle'⟩ -
  exact ⟨σ'',.refl _,hv,hle'⟩
 obtain ⟨_,-,-,_,rfl,a12,c12,rfl,-⟩:=hv
 conv=>whnf
 intro σ₇ h7 hC
 have hle7:=hle6.trans h7
 have hb:=hb.le h7
 have ht:=ht.lg h7.frz2
 have i1:=i1.lg h7.frz2
 have i2:=i2.lg h7.frz2
 have i4:=i4.lg h7.frz2
 have i5:=i5.lg h7.frz2
 have i6:=i6.lg h7.frz2
 have i7:=i7.lg h7.frz2
 have i8:=i8.lg h7.frz2
 obtain ⟨-,hv3⟩:=hC
 have nQ:=t.prs_len ⟨(t.edOf ed),M,(withoutL (t.chosen (t.edOf ed) bits) (commonL (t.chosen (t.edOf ed) bits) (t.chosen (t.edOf ed) on))),(withoutL (t.chosen (t.edOf ed) ot) (commonL (t.chosen (t.edOf ed) ot) (t.chosen (t.edOf ed) tw)))⟩
 have nAB:(withoutL (t.chosen (t.edOf ed) bits) (commonL (t.chosen (t.edOf ed) bits) (t.chosen (t.edOf ed) on))).length * (withoutL (t.chosen (t.edOf ed) ot) (commonL (t.chosen (t.edOf ed) ot) (t.chosen (t.edOf ed) tw))).length ≤ 8 * 8:=Nat.mul_le_mul nWA nWB
 have nQ:(t.prs ⟨(t.edOf ed),M,(withoutL (t.chosen (t.edOf ed) bits) (commonL (t.chosen (t.edOf ed) bits) (t.chosen (t.edOf ed) on))),(withoutL (t.chosen (t.edOf ed) ot) (commonL (t.chosen (t.edOf ed) ot) (t.chosen (t.edOf ed) tw)))⟩).length ≤ 64:=Nat.le_trans nQ nAB
 repeat refine ⟨rfl,?_⟩
 conv=>whnf
 apply gb_split<;>intro hc
 rotate_left
 ·refine ⟨Tryz.k26.any,(stocks _ hle7).go fun _=>?_⟩
  repeat refine ⟨rfl,?_⟩
  conv=>whnf
  exact hle7.lg
 have hq:(t.prs ⟨(t.edOf ed),M,(withoutL (t.chosen (t.edOf ed) bits) (commonL (t.chosen (t.edOf ed) bits) (t.chosen (t.edOf ed) on))),(withoutL (t.chosen (t.edOf ed) ot) (commonL (t.chosen (t.edOf ed) ot) (t.chosen (t.edOf ed) tw)))⟩) = []:=List.eq_nil_of_length_eq_zero (by have:=of_decide_eq_false hc;omega)
 have hcu:=Tbl.none_left.1 hq
 refine ⟨by unfold InR;omega,?_⟩
 refine ⟨by unfold InR;omega,?_⟩
 repeat refine ⟨rfl,?_⟩
 conv=>whnf
 apply cb_split<;>intro hc
 ·refine ⟨Tryz.k26.any,(stocks _ hle7).go fun _=>?_⟩
  repeat refine ⟨rfl,?_⟩
  conv=>whnf
  exact hle7.lg
 have hle:=of_decide_eq_false hc
 obtain ⟨k1,k2,k3⟩:=Tbl.few_least (t:=t) (tk:=(⟨(t.edOf ed),M,(t.chosen (t.edOf ed) bits),(t.chosen (t.edOf ed) ot)⟩:Talk)) (u:=(commonL (t.chosen (t.edOf ed) bits) (t.chosen (t.edOf ed) on))) (v:=(commonL (t.chosen (t.edOf ed) ot) (t.chosen (t.edOf ed) tw))) hA.asc hB.asc (commonL_sub _ _) (commonL_sub _ _) hcu (by omega)
 have heq:((((commonL (t.chosen (t.edOf ed) bits) (t.chosen (t.edOf ed) on)).length:Nat):Int) + (((commonL (t.chosen (t.edOf ed) ot) (t.chosen (t.edOf ed) tw)).length:Nat):Int) == ((((t.agr (⟨(t.edOf ed),M,(t.chosen (t.edOf ed) bits),(t.chosen (t.edOf ed) ot)⟩:Talk)).1).length:Nat):Int) + ((((t.agr (⟨(t.edOf ed),M,(t.chosen (t.edOf ed) bits),(t.chosen (t.edOf ed) ot)⟩:Talk)).2).length:Nat):Int)) = true:=by rw [beq_iff_eq];omega
 have kl:=Tryz.lessL_ok (S:=SysG Tryz.prog 164 2) (σ:=σ₇) a4 a7 _ c4 _ c7 _ _ (i4.lg frz_self) (i7.lg frz_self) (by omega) (by omega)
 rw [decide_eq_false k2] at kl
 refine ⟨by unfold InR;omega,?_⟩
 refine ⟨by unfold InR;omega,?_⟩
 repeat refine ⟨rfl,?_⟩
 conv=>whnf
 rw [heq]
 refine ⟨Tryz.k59.any,(kl).go fun _=>?_⟩
 by_cases hux:(commonL (t.chosen (t.edOf ed) bits) (t.chosen (t.edOf ed) on)) = (t.agr (⟨(t.edOf ed),M,(t.chosen (t.edOf ed) bits),(t.chosen (t.edOf ed) ot)⟩:Talk)).1
 ·have hvy:=k3 hux
  have km:=Tryz.lessL_ok (S:=SysG Tryz.prog 164 2) (σ:=σ₇) a6 a8 _ c6 _ c8 _ _ (i6.lg frz_self) (i8.lg frz_self) (by omega) (by omega)
  rw [show decide (cmpL (commonL (t.chosen (t.edOf ed) ot) (t.chosen (t.edOf ed) tw)) (t.agr (⟨(t.edOf ed),M,(t.chosen (t.edOf ed) bits),(t.chosen (t.edOf ed) ot)⟩:Talk)).2 < 0) = false by rw [hvy,cmpL_self];rfl] at km
  refine ⟨Tryz.k33.any,(Tryz.sameT_ok i4 i7 (by omega) (by omega) hux).go fun _=>?_⟩
  refine ⟨Tryz.k59.any,(km).go fun _=>?_⟩
  refine ⟨Tryz.k26.any,(stocks _ hle7).go fun _=>?_⟩
  repeat refine ⟨rfl,?_⟩
  conv=>whnf
  exact hle7.lg
 ·skip
  refine ⟨Tryz.k33.any,(Tryz.sameF_ok i4 i7 (by omega) (by omega) hux).go fun _=>?_⟩
  refine ⟨Tryz.k26.any,(stocks _ hle7).go fun _=>?_⟩
  repeat refine ⟨rfl,?_⟩
  conv=>whnf
  exact hle7.lg
end Go.Proofs
