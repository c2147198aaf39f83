/- A part of the proof: lemmas that the last text uses. No conditions of its own. -/
import Derived.Test.YtebpcmdnecenlaaGreatF28
import Derived.Test.YtebpcmdnecenlaaGreatC01
import Derived.Test.YtebpcmdnecenlaaGreatF30
import Derived.Test.YtebpcmdnecenlaaGreatF08
import Derived.Test.YtebpcmdnecenlaaGreatF09
import Derived.Test.YtebpcmdnecenlaaGreatF10
import Derived.Test.YtebpcmdnecenlaaGreatC00
set_option linter.unusedSimpArgs false
set_option linter.unusedVariables false
namespace Go.TM
theorem levN {n:Nat} (h:n < 256):(IntKind.wrap .i64 (n:Int)).tmod 5 = ((n % 5:Nat):Int):=by
 rw [wrap_inR (by unfold InR;omega),Int.tmod_eq_emod_of_nonneg (by omega)];rfl
end Go.TM
namespace Go.Proofs
open Go.TM
set_option maxRecDepth 100000
attribute [local irreducible] CallsV YieldV rngX
set_option maxHeartbeats 4000000 in
theorem Tryz.goodsCheaper_top {σ:View Tk} (htok:σ.tok = ⟨0,.out⟩) (h:TH) (t:Tbl) (ht:TabV σ.frz h t) (ed:Nat) (hed:ed < 256) (bits:Nat) (hbits:bits < 256) (ot:Nat) (hot:ot < 256) (lv:Nat) (hlv:lv < 256) (st:Nat) (hst:st < 256) :
  J (SysG Tryz.prog 164 2) (Fin Tryz.prog fun v σ'=>v = .bool true ∧ σ.lg σ') true (Rf (Frame.enter Tryz.prog 20 #[h.v,.int .u8 ed,.int .u8 bits,.int .u8 ot,.int .u8 lv,.int .u8 st] .normal) []) σ:=by
 refine top_of (args:=[_,_,_,_,_,_]) (Q:=fun v σ'=>v = .bool true ∧ σ.lg σ') Tryz.k20 Tryz.mixed (by kernel_rfl) (by simp) (fun v σ' q=>q.2.tok.trans htok) ?_
 repeat refine ⟨rfl,?_⟩
 conv=>whnf
 intro b σ₁ hle1 hb
 have hb:Blk σ₁ b #[.slice h.ea h.el h.ec,.slice h.ma h.ml h.mc,.slice h.ka h.kl h.kc]:=hb
 have ht:=ht.lg hle1.frz2
 have stocks:∀ σ₂:View Tk,σ.le σ₂ → CallsV (SysG Tryz.prog 164 2) 26 #[] (fun v σ'=>v = .bool true ∧ σ' = σ₂) σ₂:=fun σ₂ h=>Tryz.stocks_ok (h.tok.trans htok)
 refine ⟨_,⟨rfl,hb.rdT fun _ _ h=>h⟩,?_⟩
 refine ⟨Tryz.k48.any,(Tryz.fit_ok h t (ht.lg frz_self)).mono ?_⟩
 rintro _ σ' ⟨⟨B,rfl,hB⟩,hσ'⟩ -
 obtain rfl:=hσ'.symm
 repeat refine ⟨rfl,?_⟩
 conv=>whnf
 apply cb_split<;>intro hc
 ·refine ⟨Tryz.k26.any,(stocks _ hle1).go fun _=>?_⟩
  repeat refine ⟨rfl,?_⟩
  conv=>whnf
  exact hle1.lg
 have hf:t.flaw = 0:=hB (by simpa using hc)
 have he:=Tbl.isEd_of hf ed
 have hA:=t.lst_chosen (t.edOf ed) bits
 have nA:=hA.len hf
 have hB:=t.lst_chosen (t.edOf ed) ot
 have nB:=hB.len hf
 refine ⟨_,⟨rfl,hb.rdT fun _ _ h=>h⟩,?_⟩
 refine ⟨Tryz.k49.any,(Tryz.edOf_ok h t (ht.lg frz_self) hf ed hed).go fun _=>?_⟩
 repeat refine ⟨rfl,?_⟩
 refine ⟨by decide,?_⟩
 rw [levN (show lv < 256 by omega)]
 refine ⟨by unfold InR;omega,?_⟩
 have hM:1 ≤ 1 + ((lv % 5:Nat):Int) ∧ 1 + ((lv % 5:Nat):Int) ≤ 5:=by omega
 generalize 1 + ((lv % 5:Nat):Int) = M at hM ⊢
 refine ⟨_,⟨rfl,hb.rdT fun _ _ h=>h⟩,?_⟩
 refine ⟨_,⟨rfl,hb.rdT fun _ _ h=>h⟩,?_⟩
 refine ⟨fun v σ'=>LstV σ' v ((t.chosen (t.edOf ed) bits)),fun v σ₁ σ₂ hv hle=>hv.le hle,fun σ' hle _=>?_,fun v _=>?_⟩
 ·refine ⟨Tryz.k50.any,(Tryz.chosenL_ok h t (ht.lg hle.frz2) hf (t.edOf ed) he bits hbits).mono ?_⟩
  rintro v σ'' ⟨hv,hle'⟩ -
  exact ⟨σ'',.refl _,hv,hle'⟩
 conv=>whnf
 intro σ₂ h2 hC
 have hle2:=hle1.trans h2
 have hb:=hb.le h2
 have ht:=ht.lg h2.frz2
 obtain ⟨-,a1,c1,rfl,i1⟩:=hC
 refine ⟨Tryz.k50.any,(Tryz.chosenL_ok h t ht hf (t.edOf ed) he ot hot).mono ?_⟩
 rintro _ σ₃ ⟨⟨a2,c2,rfl,i2⟩,h3⟩ -
 have hle3:=hle2.trans h3
 have hb:=hb.le h3
 have ht:=ht.lg h3.frz2
 have i1:=i1.lg h3.frz2
 refine ⟨_,⟨rfl,hb.rdT fun _ _ h=>h⟩,?_⟩
 refine ⟨Tryz.k46.any,(Tryz.agL_ok h t ht hf (t.edOf ed) M he i1 hA i2 hB (by omega) (by omega)).mono ?_⟩
 rintro _ σ₄ ⟨⟨_,_,_,L,rfl,⟨a7,c7,rfl,i7⟩,⟨a8,c8,rfl,i8⟩,⟨a9,c9,rfl,p9c,p9⟩,hL⟩,h4⟩ -
 have hle4:=hle3.trans h4
 have hb:=hb.le h4
 have ht:=ht.lg h4.frz2
 have i1:=i1.lg h4.frz2
 have i2:=i2.lg h4.frz2
 have sX:=Tbl.agr_one (t:=t) (tk:=(⟨(t.edOf ed),M,(t.chosen (t.edOf ed) bits),(t.chosen (t.edOf ed) ot)⟩:Talk)) hA.asc hB.asc
 have sY:=Tbl.agr_two (t:=t) (tk:=(⟨(t.edOf ed),M,(t.chosen (t.edOf ed) bits),(t.chosen (t.edOf ed) ot)⟩:Talk)) hA.asc hB.asc
 have nX:((t.agr (⟨(t.edOf ed),M,(t.chosen (t.edOf ed) bits),(t.chosen (t.edOf ed) ot)⟩:Talk)).1).length ≤ (t.chosen (t.edOf ed) bits).length:=sX.length_le
 have nY:((t.agr (⟨(t.edOf ed),M,(t.chosen (t.edOf ed) bits),(t.chosen (t.edOf ed) ot)⟩:Talk)).2).length ≤ (t.chosen (t.edOf ed) ot).length:=sY.length_le
 have hlen:=Tbl.agr_len (t:=t) (tk:=(⟨(t.edOf ed),M,(t.chosen (t.edOf ed) bits),(t.chosen (t.edOf ed) ot)⟩:Talk)) hA.asc hB.asc
 have hcov:=Tbl.agr_cover (t:=t) (tk:=(⟨(t.edOf ed),M,(t.chosen (t.edOf ed) bits),(t.chosen (t.edOf ed) ot)⟩:Talk)) hA.asc hB.asc
 have hA2:=t.lst_chosen (t.edOf ed) (bits &&& st)
 have nA2:=hA2.len hf
 have hand:=band8 bits st hbits hst
 refine ⟨_,⟨rfl,hb.rdT fun _ _ h=>h⟩,?_⟩
 refine ⟨_,⟨rfl,hb.rdT fun _ _ h=>h⟩,?_⟩
 repeat refine ⟨rfl,?_⟩
 conv=>whnf
 rw [hand.1]
 refine ⟨fun v σ'=>LstV σ' v (t.chosen (t.edOf ed) (bits &&& st)),fun v σ₁ σ₂ hv hle=>hv.le hle,fun σ' hle hC=>?_,fun v hv=>?_⟩
 ·refine ⟨Tryz.k50.any,(Tryz.chosenL_ok h t (ht.lg hle.frz2) hf (t.edOf ed) he (bits &&& st) hand.2).mono ?_⟩
  rintro v σ'' ⟨hv,hle'⟩ -
  exact ⟨σ'',.refl _,hv,hle'⟩
 obtain ⟨_,-,-,a3,c3,rfl,-⟩:=hv
 refine ⟨fun v σ'=>AgrV σ' v t ⟨(t.edOf ed),M,(t.chosen (t.edOf ed) (bits &&& st)),(t.chosen (t.edOf ed) ot)⟩,fun v σ₁ σ₂ hv hle=>hv.le hle,fun σ' hle hC=>?_,fun v hv=>?_⟩
 ·obtain ⟨-,hv1⟩:=hC
  refine ⟨Tryz.k46.any,(Tryz.agL_ok h t (ht.lg hle.frz2) hf (t.edOf ed) M he hv1.at hA2 (i2.lg hle.frz2) hB (by omega) (by omega)).mono ?_⟩
  rintro v σ'' ⟨hv,hle'⟩ -
  exact ⟨σ'',.refl _,hv,hle'⟩
 obtain ⟨_,-,-,_,_,_,L2,rfl,⟨b7,d7,rfl,-⟩,⟨b8,d8,rfl,-⟩,⟨b9,d9,rfl,-⟩,-⟩:=hv
 conv=>whnf
 intro σ₅ h5 hC
 have hle5:=hle4.trans h5
 have hb:=hb.le h5
 have ht:=ht.lg h5.frz2
 have i1:=i1.lg h5.frz2
 have i2:=i2.lg h5.frz2
 have i7:=i7.lg h5.frz2
 have i8:=i8.lg h5.frz2
 obtain -:=hC
 refine ⟨_,⟨rfl,hb.rdT fun _ _ h=>h⟩,?_⟩
 refine ⟨Tryz.k46.any,(Tryz.agL_ok h t ht hf (t.edOf ed) M he i2 hB i1 hA (by omega) (by omega)).mono ?_⟩
 rintro _ σ₆ ⟨⟨_,_,_,L3,rfl,⟨e7,f7,rfl,-⟩,⟨e8,f8,rfl,-⟩,⟨e9,f9,rfl,-⟩,-⟩,h6⟩ -
 have hle6:=hle5.trans h6
 have hb:=hb.le h6
 have ht:=ht.lg h6.frz2
 have i1:=i1.lg h6.frz2
 have i2:=i2.lg h6.frz2
 have i7:=i7.lg h6.frz2
 have i8:=i8.lg h6.frz2
 have hlen2:=Tbl.agr_len (t:=t) (tk:=(⟨(t.edOf ed),M,(t.chosen (t.edOf ed) (bits &&& st)),(t.chosen (t.edOf ed) ot)⟩:Talk)) hA2.asc hB.asc
 have nX2:((t.agr (⟨(t.edOf ed),M,(t.chosen (t.edOf ed) (bits &&& st)),(t.chosen (t.edOf ed) ot)⟩:Talk)).1).length ≤ (t.chosen (t.edOf ed) (bits &&& st)).length:=(Tbl.agr_one (t:=t) (tk:=(⟨(t.edOf ed),M,(t.chosen (t.edOf ed) (bits &&& st)),(t.chosen (t.edOf ed) ot)⟩:Talk)) hA2.asc hB.asc).length_le
 have nY2:((t.agr (⟨(t.edOf ed),M,(t.chosen (t.edOf ed) (bits &&& st)),(t.chosen (t.edOf ed) ot)⟩:Talk)).2).length ≤ (t.chosen (t.edOf ed) ot).length:=(Tbl.agr_two (t:=t) (tk:=(⟨(t.edOf ed),M,(t.chosen (t.edOf ed) (bits &&& st)),(t.chosen (t.edOf ed) ot)⟩:Talk)) hA2.asc hB.asc).length_le
 have hlen3:=Tbl.agr_len (t:=t) (tk:=(⟨(t.edOf ed),M,(t.chosen (t.edOf ed) ot),(t.chosen (t.edOf ed) bits)⟩:Talk)) hB.asc hA.asc
 have nX3:((t.agr (⟨(t.edOf ed),M,(t.chosen (t.edOf ed) ot),(t.chosen (t.edOf ed) bits)⟩:Talk)).1).length ≤ (t.chosen (t.edOf ed) ot).length:=(Tbl.agr_one (t:=t) (tk:=(⟨(t.edOf ed),M,(t.chosen (t.edOf ed) ot),(t.chosen (t.edOf ed) bits)⟩:Talk)) hB.asc hA.asc).length_le
 have nY3:((t.agr (⟨(t.edOf ed),M,(t.chosen (t.edOf ed) ot),(t.chosen (t.edOf ed) bits)⟩:Talk)).2).length ≤ (t.chosen (t.edOf ed) bits).length:=(Tbl.agr_two (t:=t) (tk:=(⟨(t.edOf ed),M,(t.chosen (t.edOf ed) ot),(t.chosen (t.edOf ed) bits)⟩:Talk)) hB.asc hA.asc).length_le
 have hsub:∀ x,x ∈ (t.chosen (t.edOf ed) (bits &&& st)) → x ∈ (t.chosen (t.edOf ed) bits):=fun x hx=>by
  rw [Tbl.mem_chosen] at hx ⊢
  refine ⟨hx.1,?_⟩
  have h2:=hx.2
  rw [Nat.testBit_and,Bool.and_eq_true] at h2
  exact h2.1
 have m2:=Tbl.most_less (t:=t) (e:=(t.edOf ed)) hA.asc hA2.asc hB.asc hsub (Int.le_refl M)
 have m3:=Tbl.most_swap (t:=t) (e:=(t.edOf ed)) (n:=M) hA.asc hB.asc
 have q2:decide (((((t.agr (⟨(t.edOf ed),M,(t.chosen (t.edOf ed) (bits &&& st)),(t.chosen (t.edOf ed) ot)⟩:Talk)).1).length:Nat):Int) + ((((t.agr (⟨(t.edOf ed),M,(t.chosen (t.edOf ed) (bits &&& st)),(t.chosen (t.edOf ed) ot)⟩:Talk)).2).length:Nat):Int) > ((((t.agr (⟨(t.edOf ed),M,(t.chosen (t.edOf ed) bits),(t.chosen (t.edOf ed) ot)⟩:Talk)).1).length:Nat):Int) + ((((t.agr (⟨(t.edOf ed),M,(t.chosen (t.edOf ed) bits),(t.chosen (t.edOf ed) ot)⟩:Talk)).2).length:Nat):Int)) = false:=decide_eq_false (by omega)
 have q3:(((((t.agr (⟨(t.edOf ed),M,(t.chosen (t.edOf ed) ot),(t.chosen (t.edOf ed) bits)⟩:Talk)).1).length:Nat):Int) + ((((t.agr (⟨(t.edOf ed),M,(t.chosen (t.edOf ed) ot),(t.chosen (t.edOf ed) bits)⟩:Talk)).2).length:Nat):Int) != ((((t.agr (⟨(t.edOf ed),M,(t.chosen (t.edOf ed) bits),(t.chosen (t.edOf ed) ot)⟩:Talk)).1).length:Nat):Int) + ((((t.agr (⟨(t.edOf ed),M,(t.chosen (t.edOf ed) bits),(t.chosen (t.edOf ed) ot)⟩:Talk)).2).length:Nat):Int)) = false:=by rw [bne_eq_false_iff_eq];omega
 repeat refine ⟨rfl,?_⟩
 refine ⟨by unfold InR;omega,?_⟩
 refine ⟨by unfold InR;omega,?_⟩
 repeat refine ⟨rfl,?_⟩
 conv=>whnf
 rw [q2]
 refine ⟨by unfold InR;omega,?_⟩
 refine ⟨by unfold InR;omega,?_⟩
 repeat refine ⟨rfl,?_⟩
 conv=>whnf
 rw [q3]
 repeat refine ⟨rfl,?_⟩
 conv=>whnf
 apply cb_split<;>intro hc
 ·refine ⟨Tryz.k26.any,(stocks _ hle6).go fun _=>?_⟩
  repeat refine ⟨rfl,?_⟩
  conv=>whnf
  exact hle6.lg
 have hM5:M ≠ 5:=by simpa using hc
 refine ⟨_,⟨rfl,hb.rdT fun _ _ h=>h⟩,?_⟩
 refine ⟨by unfold InR;omega,?_⟩
 refine ⟨Tryz.k46.any,(Tryz.agL_ok h t ht hf (t.edOf ed) (M + 1) he i1 hA i2 hB (by omega) (by omega)).mono ?_⟩
 rintro _ σ₇ ⟨⟨_,_,_,L4,rfl,⟨g7,k7,rfl,-⟩,⟨g8,k8,rfl,-⟩,⟨g9,k9,rfl,-⟩,-⟩,h7⟩ -
 have hle7:=hle6.trans h7
 have hb:=hb.le h7
 have ht:=ht.lg h7.frz2
 have i1:=i1.lg h7.frz2
 have i2:=i2.lg h7.frz2
 have i7:=i7.lg h7.frz2
 have i8:=i8.lg h7.frz2
 have hlen4:=Tbl.agr_len (t:=t) (tk:=(⟨(t.edOf ed),(M + 1),(t.chosen (t.edOf ed) bits),(t.chosen (t.edOf ed) ot)⟩:Talk)) hA.asc hB.asc
 have nX4:((t.agr (⟨(t.edOf ed),(M + 1),(t.chosen (t.edOf ed) bits),(t.chosen (t.edOf ed) ot)⟩:Talk)).1).length ≤ (t.chosen (t.edOf ed) bits).length:=(Tbl.agr_one (t:=t) (tk:=(⟨(t.edOf ed),(M + 1),(t.chosen (t.edOf ed) bits),(t.chosen (t.edOf ed) ot)⟩:Talk)) hA.asc hB.asc).length_le
 have nY4:((t.agr (⟨(t.edOf ed),(M + 1),(t.chosen (t.edOf ed) bits),(t.chosen (t.edOf ed) ot)⟩:Talk)).2).length ≤ (t.chosen (t.edOf ed) ot).length:=(Tbl.agr_two (t:=t) (tk:=(⟨(t.edOf ed),(M + 1),(t.chosen (t.edOf ed) bits),(t.chosen (t.edOf ed) ot)⟩:Talk)) hA.asc hB.asc).length_le
 have m4:=Tbl.most_less (t:=t) (e:=(t.edOf ed)) (n:=M) (n':=M + 1) hA.asc hA.asc hB.asc (fun _ h=>h) (by omega)
 have q4:decide (((((t.agr (⟨(t.edOf ed),(M + 1),(t.chosen (t.edOf ed) bits),(t.chosen (t.edOf ed) ot)⟩:Talk)).1).length:Nat):Int) + ((((t.agr (⟨(t.edOf ed),(M + 1),(t.chosen (t.edOf ed) bits),(t.chosen (t.edOf ed) ot)⟩:Talk)).2).length:Nat):Int) ≤ ((((t.agr (⟨(t.edOf ed),M,(t.chosen (t.edOf ed) bits),(t.chosen (t.edOf ed) ot)⟩:Talk)).1).length:Nat):Int) + ((((t.agr (⟨(t.edOf ed),M,(t.chosen (t.edOf ed) bits),(t.chosen (t.edOf ed) ot)⟩:Talk)).2).length:Nat):Int)) = true:=decide_eq_true (by omega)
 repeat refine ⟨rfl,?_⟩
 refine ⟨by unfold InR;omega,?_⟩
 refine ⟨by unfold InR;omega,?_⟩
 repeat refine ⟨rfl,?_⟩
 conv=>whnf
 rw [q4]
 refine ⟨Tryz.k26.any,(stocks _ hle7).go fun _=>?_⟩
 repeat refine ⟨rfl,?_⟩
 conv=>whnf
 exact hle7.lg
end Go.Proofs
