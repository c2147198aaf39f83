/- A part of the proof: lemmas that the last text uses. No conditions of its own. -/
import Derived.Test.YtebpcmdnecenlaaGreatF28
import Derived.Test.YtebpcmdnecenlaaGreatC01
import Derived.Test.YtebpcmdnecenlaaGreatF30
import Derived.Test.YtebpcmdnecenlaaGreatF08
import Derived.Test.YtebpcmdnecenlaaGreatF09
import Derived.Test.YtebpcmdnecenlaaGreatF10
import Derived.Test.YtebpcmdnecenlaaGreatC00
set_option linter.unusedSimpArgs false
set_option linter.unusedVariables false
namespace Go.TM
theorem levN {n:Nat} (h:n < 256):(IntKind.wrap .i64 (n:Int)).tmod 5 = ((n % 5:Nat):Int):=by
 rw [wrap_inR (by unfold InR;omega),Int.tmod_eq_emod_of_nonneg (by omega)];rfl
theorem Tbl.Lst.sub {t:Tbl} {e:Int} {l m:List Int} (h:t.Lst e l) (s:m.Sublist l):t.Lst e m:=⟨List.Pairwise.sublist s h.asc,fun x hx=>h.its x (s.subset hx)⟩
theorem apart_at {L:List (Int × Int)} (h:L.Pairwise Apart) {k i:Nat} {p q:Int × Int} (hk:L[k]? = some p) (hi:L[i]? = some q) (hlt:k < i):p.1 < q.1 ∧ p.2 ≠ q.2:=by
 rw [List.pairwise_iff_getElem] at h
 obtain ⟨i1,e1⟩:=List.getElem?_eq_some_iff.1 hk
 obtain ⟨i2,e2⟩:=List.getElem?_eq_some_iff.1 hi
 rw [← e1,← e2]
 exact h k i i1 i2 hlt
end Go.TM
namespace Go.Proofs
open Go.TM
set_option maxRecDepth 100000
attribute [local irreducible] CallsV YieldV rngX
set_option maxHeartbeats 4000000 in
theorem Tryz.goodsAgreed_top {σ:View Tk} (htok:σ.tok = ⟨0,.out⟩) (h:TH) (t:Tbl) (ht:TabV σ.frz h t) (ed:Nat) (hed:ed < 256) (bits:Nat) (hbits:bits < 256) (ot:Nat) (hot:ot < 256) (lv:Nat) (hlv:lv < 256) :
  J (SysG Tryz.prog 164 2) (Fin Tryz.prog fun v σ'=>v = .bool true ∧ σ.lg σ') true (Rf (Frame.enter Tryz.prog 22 #[h.v,.int .u8 ed,.int .u8 bits,.int .u8 ot,.int .u8 lv] .normal) []) σ:=by
 refine top_of (args:=[_,_,_,_,_]) (Q:=fun v σ'=>v = .bool true ∧ σ.lg σ') Tryz.k22 Tryz.mixed (by kernel_rfl) (by simp) (fun v σ' q=>q.2.tok.trans htok) ?_
 repeat refine ⟨rfl,?_⟩
 conv=>whnf
 intro b σ₁ hle1 hb
 have hb:Blk σ₁ b #[.slice h.ea h.el h.ec,.slice h.ma h.ml h.mc,.slice h.ka h.kl h.kc]:=hb
 have ht:=ht.lg hle1.frz2
 have stocks:∀ σ₂:View Tk,σ.le σ₂ → CallsV (SysG Tryz.prog 164 2) 26 #[] (fun v σ'=>v = .bool true ∧ σ' = σ₂) σ₂:=fun σ₂ h=>Tryz.stocks_ok (h.tok.trans htok)
 refine ⟨_,⟨rfl,hb.rdT fun _ _ h=>h⟩,?_⟩
 refine ⟨Tryz.k48.any,(Tryz.fit_ok h t (ht.lg frz_self)).mono ?_⟩
 rintro _ σ' ⟨⟨B,rfl,hB⟩,hσ'⟩ -
 obtain rfl:=hσ'.symm
 repeat refine ⟨rfl,?_⟩
 conv=>whnf
 apply cb_split<;>intro hc
 ·refine ⟨Tryz.k26.any,(stocks _ hle1).go fun _=>?_⟩
  repeat refine ⟨rfl,?_⟩
  conv=>whnf
  exact hle1.lg
 have hf:t.flaw = 0:=hB (by simpa using hc)
 have he:=Tbl.isEd_of hf ed
 have hA:=t.lst_chosen (t.edOf ed) bits
 have nA:=hA.len hf
 have hB:=t.lst_chosen (t.edOf ed) ot
 have nB:=hB.len hf
 refine ⟨_,⟨rfl,hb.rdT fun _ _ h=>h⟩,?_⟩
 refine ⟨Tryz.k49.any,(Tryz.edOf_ok h t (ht.lg frz_self) hf ed hed).go fun _=>?_⟩
 repeat refine ⟨rfl,?_⟩
 refine ⟨by decide,?_⟩
 rw [levN (show lv < 256 by omega)]
 refine ⟨by unfold InR;omega,?_⟩
 have hM:1 ≤ 1 + ((lv % 5:Nat):Int) ∧ 1 + ((lv % 5:Nat):Int) ≤ 5:=by omega
 generalize 1 + ((lv % 5:Nat):Int) = M at hM ⊢
 refine ⟨_,⟨rfl,hb.rdT fun _ _ h=>h⟩,?_⟩
 refine ⟨_,⟨rfl,hb.rdT fun _ _ h=>h⟩,?_⟩
 refine ⟨fun v σ'=>LstV σ' v ((t.chosen (t.edOf ed) bits)),fun v σ₁ σ₂ hv hle=>hv.le hle,fun σ' hle _=>?_,fun v _=>?_⟩
 ·refine ⟨Tryz.k50.any,(Tryz.chosenL_ok h t (ht.lg hle.frz2) hf (t.edOf ed) he bits hbits).mono ?_⟩
  rintro v σ'' ⟨hv,hle'⟩ -
  exact ⟨σ'',.refl _,hv,hle'⟩
 conv=>whnf
 intro σ₂ h2 hC
 have hle2:=hle1.trans h2
 have hb:=hb.le h2
 have ht:=ht.lg h2.frz2
 obtain ⟨-,a1,c1,rfl,i1⟩:=hC
 refine ⟨Tryz.k50.any,(Tryz.chosenL_ok h t ht hf (t.edOf ed) he ot hot).mono ?_⟩
 rintro _ σ₃ ⟨⟨a2,c2,rfl,i2⟩,h3⟩ -
 have hle3:=hle2.trans h3
 have hb:=hb.le h3
 have ht:=ht.lg h3.frz2
 have i1:=i1.lg h3.frz2
 refine ⟨_,⟨rfl,hb.rdT fun _ _ h=>h⟩,?_⟩
 refine ⟨Tryz.k46.any,(Tryz.agL_ok h t ht hf (t.edOf ed) M he i1 hA i2 hB (by omega) (by omega)).mono ?_⟩
 rintro _ σ₄ ⟨⟨_,_,_,L,rfl,⟨a7,c7,rfl,i7⟩,⟨a8,c8,rfl,i8⟩,⟨a9,c9,rfl,p9c,p9⟩,hL⟩,h4⟩ -
 have hle4:=hle3.trans h4
 have hb:=hb.le h4
 have ht:=ht.lg h4.frz2
 have i1:=i1.lg h4.frz2
 have i2:=i2.lg h4.frz2
 have sX:=Tbl.agr_one (t:=t) (tk:=(⟨(t.edOf ed),M,(t.chosen (t.edOf ed) bits),(t.chosen (t.edOf ed) ot)⟩:Talk)) hA.asc hB.asc
 have sY:=Tbl.agr_two (t:=t) (tk:=(⟨(t.edOf ed),M,(t.chosen (t.edOf ed) bits),(t.chosen (t.edOf ed) ot)⟩:Talk)) hA.asc hB.asc
 have nX:((t.agr (⟨(t.edOf ed),M,(t.chosen (t.edOf ed) bits),(t.chosen (t.edOf ed) ot)⟩:Talk)).1).length ≤ (t.chosen (t.edOf ed) bits).length:=sX.length_le
 have nY:((t.agr (⟨(t.edOf ed),M,(t.chosen (t.edOf ed) bits),(t.chosen (t.edOf ed) ot)⟩:Talk)).2).length ≤ (t.chosen (t.edOf ed) ot).length:=sY.length_le
 have hlen:=Tbl.agr_len (t:=t) (tk:=(⟨(t.edOf ed),M,(t.chosen (t.edOf ed) bits),(t.chosen (t.edOf ed) ot)⟩:Talk)) hA.asc hB.asc
 have hcov:=Tbl.agr_cover (t:=t) (tk:=(⟨(t.edOf ed),M,(t.chosen (t.edOf ed) bits),(t.chosen (t.edOf ed) ot)⟩:Talk)) hA.asc hB.asc
 obtain ⟨hLn,hLm,hLp⟩:=proofL_apart (Tbl.prs_sorted (t:=t) (tk:=(⟨(t.edOf ed),M,(t.chosen (t.edOf ed) bits),(t.chosen (t.edOf ed) ot)⟩:Talk)) hA.asc) hL
 have hX:=hA.sub sX
 have hY:=hB.sub sY
 repeat refine ⟨rfl,?_⟩
 refine ⟨by unfold InR;omega,?_⟩
 repeat refine ⟨rfl,?_⟩
 conv=>whnf
 rw [show ((((L).length:Nat):Int) != ((((t.agr (⟨(t.edOf ed),M,(t.chosen (t.edOf ed) bits),(t.chosen (t.edOf ed) ot)⟩:Talk)).1).length:Nat):Int) + ((((t.agr (⟨(t.edOf ed),M,(t.chosen (t.edOf ed) bits),(t.chosen (t.edOf ed) ot)⟩:Talk)).2).length:Nat):Int)) = false by rw [bne_eq_false_iff_eq];omega]
 refine ⟨_,⟨rfl,hb.rdT fun _ _ h=>h⟩,?_⟩
 refine ⟨Tryz.k60.any,(Tryz.prvL_ok h t ht hf (t.edOf ed) M he i1 hA i2 hB (by omega) (by omega) i7 (by omega) i8 (by omega) p9 (by omega) p9c).mono ?_⟩
 rintro _ σ' ⟨⟨B1,rfl,hB1⟩,hσ'⟩ -
 obtain rfl:=hσ'.symm
 obtain rfl:B1 = true:=hB1.2 (Tbl.prov_agr hA.asc hB.asc hL)
 refine ⟨_,⟨rfl,hb.rdT fun _ _ h=>h⟩,?_⟩
 refine ⟨Tryz.k62.any,(Tryz.struck_ok h t ht hf (t.edOf ed) he i1 hA i7 hX).mono ?_⟩
 rintro _ σ₅ ⟨⟨_,rfl,a10,c10,rfl,i10⟩,h5⟩ -
 have hle5:=hle4.trans h5
 have hb:=hb.le h5
 have ht:=ht.lg h5.frz2
 have i1:=i1.lg h5.frz2
 have i2:=i2.lg h5.frz2
 have i7:=i7.lg h5.frz2
 have i8:=i8.lg h5.frz2
 have p9:=PairsV.lg p9 h5.frz2
 refine ⟨_,⟨rfl,hb.rdT fun _ _ h=>h⟩,?_⟩
 refine ⟨Tryz.k62.any,(Tryz.struck_ok h t ht hf (t.edOf ed) he i2 hB i8 hY).mono ?_⟩
 rintro _ σ₆ ⟨⟨_,rfl,a11,c11,rfl,i11⟩,h6⟩ -
 have hle6:=hle5.trans h6
 have hb:=hb.le h6
 have ht:=ht.lg h6.frz2
 have i1:=i1.lg h6.frz2
 have i2:=i2.lg h6.frz2
 have i7:=i7.lg h6.frz2
 have i8:=i8.lg h6.frz2
 have i10:=i10.lg h6.frz2
 have p9:=PairsV.lg p9 h6.frz2
 refine ⟨_,⟨rfl,hb.rdT fun _ _ h=>h⟩,?_⟩
 refine ⟨Tryz.k43.any,(Tryz.prsG_ok h t ht hf (t.edOf ed) M he i10 (hA.without (t.agr (⟨(t.edOf ed),M,(t.chosen (t.edOf ed) bits),(t.chosen (t.edOf ed) ot)⟩:Talk)).1) i11 (hB.without (t.agr (⟨(t.edOf ed),M,(t.chosen (t.edOf ed) bits),(t.chosen (t.edOf ed) ot)⟩:Talk)).2) (by omega) (by omega)).mono ?_⟩
 rintro _ σ₇ ⟨⟨_,rfl,a12,c12,rfl,-⟩,h7⟩ -
 have hle7:=hle6.trans h7
 have hb:=hb.le h7
 have ht:=ht.lg h7.frz2
 have i1:=i1.lg h7.frz2
 have i2:=i2.lg h7.frz2
 have i7:=i7.lg h7.frz2
 have i8:=i8.lg h7.frz2
 have i10:=i10.lg h7.frz2
 have i11:=i11.lg h7.frz2
 have p9:=PairsV.lg p9 h7.frz2
 refine ⟨_,⟨rfl,hb.rdT fun _ _ h=>h⟩,?_⟩
 refine ⟨Tryz.k43.any,(Tryz.prsG_ok h t ht hf (t.edOf ed) M he i1 hA i2 hB (by omega) (by omega)).mono ?_⟩
 rintro _ σ₈ ⟨⟨_,rfl,a13,c13,rfl,p13c,p13⟩,h8⟩ -
 have hle8:=hle7.trans h8
 have hb:=hb.le h8
 have ht:=ht.lg h8.frz2
 have i1:=i1.lg h8.frz2
 have i2:=i2.lg h8.frz2
 have i7:=i7.lg h8.frz2
 have i8:=i8.lg h8.frz2
 have i10:=i10.lg h8.frz2
 have i11:=i11.lg h8.frz2
 have p9:=PairsV.lg p9 h8.frz2
 have hnone:(t.prs ⟨(t.edOf ed),M,(withoutL (t.chosen (t.edOf ed) bits) (t.agr (⟨(t.edOf ed),M,(t.chosen (t.edOf ed) bits),(t.chosen (t.edOf ed) ot)⟩:Talk)).1),(withoutL (t.chosen (t.edOf ed) ot) (t.agr (⟨(t.edOf ed),M,(t.chosen (t.edOf ed) bits),(t.chosen (t.edOf ed) ot)⟩:Talk)).2)⟩) = []:=Tbl.none_left.2 hcov
 have nP:=t.prs_len (⟨(t.edOf ed),M,(t.chosen (t.edOf ed) bits),(t.chosen (t.edOf ed) ot)⟩:Talk)
 have nAB:(t.chosen (t.edOf ed) bits).length * (t.chosen (t.edOf ed) ot).length ≤ 8 * 8:=Nat.mul_le_mul nA nB
 have nP:(t.prs (⟨(t.edOf ed),M,(t.chosen (t.edOf ed) bits),(t.chosen (t.edOf ed) ot)⟩:Talk)).length ≤ 64:=Nat.le_trans nP nAB
 have hLm:∀ p,p ∈ L → p ∈ (t.prs (⟨(t.edOf ed),M,(t.chosen (t.edOf ed) bits),(t.chosen (t.edOf ed) ot)⟩:Talk)):=hLm
 repeat refine ⟨rfl,?_⟩
 conv=>whnf
 rw [hnone]
 generalize hPA:(t.prs (⟨(t.edOf ed),M,(t.chosen (t.edOf ed) bits),(t.chosen (t.edOf ed) ot)⟩:Talk)) = P at p13 nP hLm ⊢
 refine ⟨Nat,fun i=>[(17,.slice a9 L.length c9),(26,.slice a13 P.length c13),(28,.int .i64 i)],fun i σ'=>σ₈.le σ' ∧ i ≤ L.length,fun i=>L.length - i,0,⟨rfl,rfl,rfl,trivial⟩,⟨.refl _,Nat.zero_le _⟩,?_⟩
 rintro i f σ₉ ⟨h9,hi⟩
 have hle9:=hle8.trans h9
 have hb:=hb.le h9
 have ht:=ht.lg h9.frz2
 have p9:=PairsV.lg p9 h9.frz2
 have p13:=PairsV.lg p13 h9.frz2
 repeat refine ⟨rfl,?_⟩
 conv=>whnf
 apply cb_split<;>intro hc
 ·have hlt:i < L.length:=by simpa using hc
  have hin:InR ((i:Int) + 1):=by unfold InR;omega
  obtain ⟨ad,p,vs,hx,hpa,hsp,rfl,-,hrd⟩:=RowsV.at p9 hlt
  have hpP:=hLm p (List.mem_of_getElem? hx)
  have hpad:a9.map (·.add (i * 2)) = some ad ∨ True:=.inr trivial
  clear hpad
  refine ⟨Nat × Bool,fun y=>[(17,.slice a9 L.length c9),(26,.slice a13 P.length c13),(28,.int .i64 i),(29,.bool y.2),(30,.int .i64 y.1)],fun y σ'=>σ₉.le σ' ∧ y.1 ≤ P.length ∧ (y.2 = true ↔ p ∈ P.take y.1),fun y=>P.length - y.1,(0,false),⟨rfl,rfl,rfl,rfl,rfl,trivial⟩,⟨.refl _,Nat.zero_le _,by simp⟩,?_⟩
  rintro ⟨k,g⟩ f σ₁₀ ⟨h10,hk,hg⟩
  simp only at hk hg
  have hle10:=hle9.trans h10
  have hb:=hb.le h10
  have ht:=ht.lg h10.frz2
  have p9:=PairsV.lg p9 h10.frz2
  have p13:=PairsV.lg p13 h10.frz2
  repeat refine ⟨rfl,?_⟩
  conv=>whnf
  apply cb_split<;>intro hc
  ·have hkl:k < P.length:=by simpa using hc
   obtain ⟨ad2,q,vs2,hy,hqa,hsp2,rfl,-,hrd2⟩:=RowsV.at p13 hkl
   have hkn:InR ((k:Int) + 1):=by unfold InR;omega
   have hrd1:=hrd.lg h10.frz2
   cases g with
   | true=>
    conv=>whnf
    intro σx hx1 _
    refine ⟨hkn,?_⟩
    conv=>whnf
    exact ⟨rfl,(k + 1,true),⟨rfl,rfl,rfl,rfl,rfl,trivial⟩,⟨h10.trans hx1,by simp only;omega,⟨fun _=>by rw [take_at hy];exact List.mem_append_left _ (hg.1 rfl),fun _=>rfl⟩⟩,by show _ - _ < _ - _;omega⟩
   | false=>
    have hng:p ∉ P.take k:=fun h=>Bool.false_ne_true (hg.2 h)
    refine ⟨ad2,k,⟨hqa,rfl,hkl⟩,?_⟩
    refine ⟨_,⟨rfl,hrd2.lg frz_self⟩,?_⟩
    refine ⟨ad,i,⟨hpa,rfl,hlt⟩,?_⟩
    refine ⟨_,⟨rfl,hrd1.lg frz_self⟩,?_⟩
    conv=>whnf
    intro σx hx1 _
    conv=>whnf
    refine raw_eqS Tryz.s80 (vs:=encII q) (ws:=encII p) rfl rfl (by kernel_rfl) (by kernel_rfl) ?_
    rw [eqv_pair]
    refine ⟨hkn,?_⟩
    conv=>whnf
    exact ⟨rfl,(k + 1,q == p),⟨rfl,rfl,rfl,rfl,rfl,trivial⟩,⟨h10.trans hx1,by simp only;omega,by rw [take_at hy,List.mem_append,List.mem_singleton,beq_iff_eq];exact ⟨fun h=>.inr h.symm,fun h=>h.elim (fun h=>absurd h hng) fun h=>h.symm⟩⟩,by show _ - _ < _ - _;omega⟩
  ·have hkl:P.length ≤ k:=by simpa using hc
   obtain rfl:g = true:=hg.2 (by rw [List.take_of_length_le hkl];exact hpP)
   refine ⟨Nat,fun j=>[(17,.slice a9 L.length c9),(26,.slice a13 P.length c13),(28,.int .i64 i),(29,.bool true),(31,.int .i64 j)],fun j σ'=>σ₁₀.le σ' ∧ j ≤ i,fun j=>i - j,0,⟨rfl,rfl,rfl,rfl,rfl,trivial⟩,⟨.refl _,Nat.zero_le _⟩,?_⟩
   rintro j f σ₁₁ ⟨h11,hj⟩
   have hle11:=hle10.trans h11
   have hb:=hb.le h11
   have ht:=ht.lg h11.frz2
   have p9:=PairsV.lg p9 h11.frz2
   have p13:=PairsV.lg p13 h11.frz2
   repeat refine ⟨rfl,?_⟩
   conv=>whnf
   apply cb_split<;>intro hc
   ·have hji:j < i:=by simpa using hc
    have hjL:j < L.length:=by omega
    obtain ⟨ad3,q,vs3,hy,hqa,hsp3,rfl,-,hrd3⟩:=RowsV.at p9 hjL
    have hjn:InR ((j:Int) + 1):=by unfold InR;omega
    have hrd1:=hrd.lg (h10.trans h11).frz2
    obtain ⟨ap1,ap2⟩:=apart_at hLp hy hx hji
    have r1:=(hrd3.lg frz_self) 0 _ rfl
    have r2:=(hrd1.lg frz_self) 0 _ rfl
    have s1:=(hrd3.lg frz_self) 1 _ rfl
    have s2:=(hrd1.lg frz_self) 1 _ rfl
    refine ⟨ad3,j,⟨hqa,rfl,hjL⟩,?_⟩
    refine ⟨_,r1,?_⟩
    refine ⟨ad,i,⟨hpa,rfl,hlt⟩,?_⟩
    refine ⟨_,r2,?_⟩
    repeat refine ⟨rfl,?_⟩
    conv=>whnf
    rw [decide_eq_true ap1]
    refine ⟨ad3,j,⟨hqa,rfl,hjL⟩,?_⟩
    refine ⟨_,s1,?_⟩
    refine ⟨ad,i,⟨hpa,rfl,hlt⟩,?_⟩
    refine ⟨_,s2,?_⟩
    conv=>whnf
    intro σx hx1 _
    repeat refine ⟨rfl,?_⟩
    conv=>whnf
    rw [show (q.2 != p.2) = true by rw [bne_iff_ne];exact ap2]
    refine ⟨hjn,?_⟩
    conv=>whnf
    exact ⟨rfl,j + 1,⟨rfl,rfl,rfl,rfl,rfl,trivial⟩,⟨h11.trans hx1,by omega⟩,by show _ - _ < _ - _;omega⟩
   ·refine ⟨hin,?_⟩
    conv=>whnf
    exact ⟨rfl,i + 1,⟨rfl,rfl,rfl,trivial⟩,⟨(h9.trans h10).trans h11,by omega⟩,by show _ - _ < _ - _;omega⟩
 ·refine ⟨Tryz.k26.any,(stocks _ hle9).go fun _=>?_⟩
  repeat refine ⟨rfl,?_⟩
  conv=>whnf
  exact hle9.lg
end Go.Proofs
