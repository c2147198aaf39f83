/- A part of the proof: lemmas that the last text uses. No conditions of its own. -/
import Derived.Test.YtebpcmdnecenlaaGreatC01
import Derived.Test.YtebpcmdnecenlaaGreatD47
import Derived.Test.YtebpcmdnecenlaaGreatD08
import Derived.Test.YtebpcmdnecenlaaGreatD09
import Derived.Test.YtebpcmdnecenlaaGreatD10
import Derived.Test.YtebpcmdnecenlaaGreatC00
set_option linter.unusedSimpArgs false
set_option linter.unusedVariables false
namespace Go.TM
theorem lev8 {n:Nat} (h:n < 256):(IntKind.wrap .i64 (n:Int)).tmod 5 = ((n % 5:Nat):Int):=by
 rw [wrap_inR (by unfold InR;omega),Int.tmod_eq_emod_of_nonneg (by omega)];rfl
theorem ints_one {T:Type} {σ:View T} {b:Nat} {n:Int} (h:Blk σ b #[.int .i64 n]):Ints σ (some ⟨b,0,none⟩) 1 [n]:=by
 refine ⟨rfl,fun i x hx=>?_⟩
 obtain rfl:i = 0:=by have:=(List.getElem?_eq_some_iff.1 hx).1;simp at this;omega
 cases hx
 exact ⟨_,rfl,rfl,by rw [Nat.zero_mul,add_none];exact h.sees rfl⟩
theorem min_nat (a b:Nat):min (a:Int) (b:Int) = ((min a b:Nat):Int):=by omega
theorem max_nat (a b:Nat):max (a:Int) (b:Int) = ((max a b:Nat):Int):=by omega
end Go.TM
namespace Go.Proofs
open Go.TM
set_option maxRecDepth 100000
attribute [local irreducible] CallsV YieldV rngX
set_option maxHeartbeats 4000000 in
theorem Tryz.goodsPairs_top {σ:View Tk} (htok:σ.tok = ⟨0,.out⟩) (h:TH) (t:Tbl) (ht:TabV σ.frz h t) (ed:Nat) (hed:ed < 256) (bits:Nat) (hbits:bits < 256) (ot:Nat) (hot:ot < 256) (lo:Nat) (hlo:lo < 256) (hi:Nat) (hhi:hi < 256) :
  J (SysG Tryz.prog 164 8) (Fin Tryz.prog fun v σ'=>v = .bool true ∧ σ.lg σ') true (Rf (Frame.enter Tryz.prog 18 #[h.v,.int .u8 ed,.int .u8 bits,.int .u8 ot,.int .u8 lo,.int .u8 hi] .normal) []) σ:=by
 refine top_of (args:=[_,_,_,_,_,_]) (Q:=fun v σ'=>v = .bool true ∧ σ.lg σ') Tryz.k18 Tryz.mixed (by kernel_rfl) (by simp) (fun v σ' q=>q.2.tok.trans htok) ?_
 (conv=>whnf);(repeat (refine ⟨rfl,?_⟩;conv=>whnf))
 intro b σ₁ hle1 hb
 have hb:Blk σ₁ b #[.slice h.ea h.el h.ec,.slice h.ma h.ml h.mc,.slice h.ka h.kl h.kc]:=hb
 have ht:=ht.lg hle1.frz2
 have stocks:∀ σ₂:View Tk,σ.le σ₂ → CallsV (SysG Tryz.prog 164 8) 26 #[] (fun v σ'=>v = .bool true ∧ σ' = σ₂) σ₂:=fun σ₂ h=>Tryz.stocks_ok (h.tok.trans htok)
 (conv=>whnf)
 refine ⟨_,⟨rfl,hb.rdT fun _ _ h=>h⟩,?_⟩
 (conv=>whnf)
 refine ⟨Tryz.k48.any,(Tryz.fit_ok h t (ht.lg frz_self)).mono ?_⟩
 rintro _ σ' ⟨⟨B,rfl,hB⟩,hσ'⟩ -
 obtain rfl:=hσ'.symm
 (conv=>whnf);(repeat (refine ⟨rfl,?_⟩;conv=>whnf))
 refine cb_split (fun hc=>?_) (fun hc=>?_)
 ·(conv=>whnf)
  refine ⟨Tryz.k26.any,(stocks _ hle1).mono ?_⟩
  rintro _ σ' ⟨rfl,hσ'⟩ -
  obtain rfl:=hσ'.symm
  (conv=>whnf);(repeat (refine ⟨rfl,?_⟩;conv=>whnf))
  exact hle1.lg
 have hf:t.flaw = 0:=hB (by simpa using hc)
 have he:=Tbl.isEd_of hf ed
 have hA:=t.lst_chosen (t.edOf ed) bits
 have nA:=hA.len hf
 have hB:=t.lst_chosen (t.edOf ed) ot
 have nB:=hB.len hf
 (conv=>whnf)
 refine ⟨_,⟨rfl,hb.rdT fun _ _ h=>h⟩,?_⟩
 (conv=>whnf)
 refine ⟨Tryz.k49.any,(Tryz.edOf_ok h t (ht.lg frz_self) hf ed hed).mono ?_⟩
 rintro _ σ' ⟨rfl,hσ'⟩ -
 obtain rfl:=hσ'.symm
 (conv=>whnf)
 refine ⟨_,⟨rfl,hb.rdT fun _ _ h=>h⟩,?_⟩
 (conv=>whnf)
 refine ⟨_,⟨rfl,hb.rdT fun _ _ h=>h⟩,?_⟩
 (conv=>whnf)
 refine ⟨fun v σ'=>LstV σ' v ((t.chosen (t.edOf ed) bits)),fun v σ₁ σ₂ hv hle=>hv.le hle,fun σ' hle _=>?_,fun v _=>?_⟩
 ·(conv=>whnf)
  refine ⟨Tryz.k50.any,(Tryz.chosenL_ok h t (ht.lg hle.frz2) hf (t.edOf ed) he bits hbits).mono ?_⟩
  rintro v σ'' ⟨hv,hle'⟩ -
  exact ⟨σ'',.refl _,hv,hle'⟩
 (conv=>whnf)
 intro σ₂ h2 hC
 have hle2:=hle1.trans h2
 have hb:=hb.le h2
 have ht:=ht.lg h2.frz2
 obtain ⟨-,a1,c1,rfl,i1⟩:=hC
 (conv=>whnf)
 refine ⟨Tryz.k50.any,(Tryz.chosenL_ok h t ht hf (t.edOf ed) he ot hot).mono ?_⟩
 rintro _ σ₃ ⟨⟨a2,c2,rfl,i2⟩,h3⟩ -
 have hle3:=hle2.trans h3
 have hb:=hb.le h3
 have ht:=ht.lg h3.frz2
 have i1:=i1.lg h3.frz2
 (conv=>whnf)
 refine raw_min rfl rfl ?_
 rw [min_nat]
 (conv=>whnf);(repeat (refine ⟨rfl,?_⟩;conv=>whnf))
 refine ⟨by decide,?_⟩
 rw [lev8 (show min lo hi < 256 by omega)]
 (conv=>whnf)
 refine ⟨by unfold InR;omega,?_⟩
 (conv=>whnf)
 refine raw_max rfl rfl ?_
 rw [max_nat]
 (conv=>whnf);(repeat (refine ⟨rfl,?_⟩;conv=>whnf))
 refine ⟨by decide,?_⟩
 rw [lev8 (show max lo hi < 256 by omega)]
 (conv=>whnf)
 refine ⟨by unfold InR;omega,?_⟩
 have hM:1 ≤ 1 + ((min lo hi % 5:Nat):Int) ∧ 1 + ((min lo hi % 5:Nat):Int) ≤ 5:=by omega
 have hN:1 ≤ 1 + ((max lo hi % 5:Nat):Int) ∧ 1 + ((max lo hi % 5:Nat):Int) ≤ 5:=by omega
 generalize 1 + ((min lo hi % 5:Nat):Int) = M at hM ⊢
 generalize 1 + ((max lo hi % 5:Nat):Int) = N at hN ⊢
 have hkin:=Tbl.kin_same hf he hA hB
 (conv=>whnf)
 refine ⟨_,⟨rfl,hb.rdT fun _ _ h=>h⟩,?_⟩
 have kr:=Tryz.kinL_ok (cap:=c1) (cap':=c2) (hle3.tok.trans htok) h t ht hf (t.edOf ed) (t.edOf ed) he he i1 hA i2 hB
 rw [hkin] at kr
 (conv=>whnf)
 refine ⟨Tryz.k41.any,(kr).mono ?_⟩
 rintro _ σ' ⟨rfl,hσ'⟩ -
 obtain rfl:=hσ'.symm
 (conv=>whnf)
 intro b18 hf18
 refine ⟨_,.refl _,?_⟩
 (conv=>whnf)
 refine ⟨rfl,st_new (vs:=[.int .i64 (t.near (t.edOf ed) (t.chosen (t.edOf ed) bits) (t.chosen (t.edOf ed) ot)),.int .i64 (t.near (t.edOf ed) (t.chosen (t.edOf ed) bits) (t.chosen (t.edOf ed) ot))]) hf18 rfl (by simp [Value.single]) fun σ₄ h4 hs18=>?_⟩
 have hs18:Blk σ₄ b18 #[.int .i64 (t.near (t.edOf ed) (t.chosen (t.edOf ed) bits) (t.chosen (t.edOf ed) ot)),.int .i64 (t.near (t.edOf ed) (t.chosen (t.edOf ed) bits) (t.chosen (t.edOf ed) ot))]:=hs18
 have hle4:=hle3.trans h4
 have hb:=hb.le h4
 have ht:=ht.lg h4.frz2
 have i1:=i1.lg h4.frz2
 have i2:=i2.lg h4.frz2
 (conv=>whnf)
 refine ⟨_,⟨rfl,hb.rdT fun _ _ h=>h⟩,?_⟩
 (conv=>whnf)
 refine raw_min rfl rfl ?_
 (conv=>whnf)
 refine ⟨Tryz.k43.any,(Tryz.prsL_ok h t ht hf (t.edOf ed) (min M N) he i1 hA i2 hB (by omega) (by omega)).mono ?_⟩
 rintro _ σ₅ ⟨⟨_,rfl,a3,c3,rfl,p3⟩,h5⟩ -
 have hle5:=hle4.trans h5
 have hb:=hb.le h5
 have ht:=ht.lg h5.frz2
 have i1:=i1.lg h5.frz2
 have i2:=i2.lg h5.frz2
 have hs18:=hs18.le h5
 have n3:=t.prs_len ⟨(t.edOf ed),(min M N),(t.chosen (t.edOf ed) bits),(t.chosen (t.edOf ed) ot)⟩
 (conv=>whnf)
 refine ⟨_,⟨rfl,hb.rdT fun _ _ h=>h⟩,?_⟩
 (conv=>whnf)
 refine raw_max rfl rfl ?_
 (conv=>whnf)
 refine ⟨Tryz.k43.any,(Tryz.prsL_ok h t ht hf (t.edOf ed) (max M N) he i1 hA i2 hB (by omega) (by omega)).mono ?_⟩
 rintro _ σ₆ ⟨⟨_,rfl,a4,c4,rfl,p4⟩,h6⟩ -
 have hle6:=hle5.trans h6
 have hb:=hb.le h6
 have ht:=ht.lg h6.frz2
 have i1:=i1.lg h6.frz2
 have i2:=i2.lg h6.frz2
 have hs18:=hs18.le h6
 have p3:=PairsV.lg p3 h6.frz2
 have hpos:∀ lv:Int,1 ≤ lv → decide (((t.prs ⟨(t.edOf ed),lv,(t.chosen (t.edOf ed) bits),(t.chosen (t.edOf ed) ot)⟩).length:Int) > 0) = decide ((t.near (t.edOf ed) (t.chosen (t.edOf ed) bits) (t.chosen (t.edOf ed) ot)) ≥ lv):=fun lv h1=>by
  rw [Bool.eq_iff_iff,decide_eq_true_iff,decide_eq_true_iff]
  have e1:(t.near (t.edOf ed) (t.chosen (t.edOf ed) bits) (t.chosen (t.edOf ed) ot)) ≥ lv ↔ ∃ x ∈ (t.chosen (t.edOf ed) bits),∃ y ∈ (t.chosen (t.edOf ed) ot),lv ≤ t.lev (t.edOf ed) x y:=Tbl.near_ge h1
  rw [e1]
  constructor
  ·intro hl
   obtain ⟨p,hp⟩:∃ p,p ∈ t.prs ⟨(t.edOf ed),lv,(t.chosen (t.edOf ed) bits),(t.chosen (t.edOf ed) ot)⟩:=List.exists_mem_of_length_pos (by omega)
   obtain ⟨q1,q2,q3⟩:=Tbl.mem_prs.1 hp
   exact ⟨p.1,q1,p.2,q2,q3⟩
  ·rintro ⟨x,q1,y,q2,q3⟩
   have hp:(x,y) ∈ t.prs ⟨(t.edOf ed),lv,(t.chosen (t.edOf ed) bits),(t.chosen (t.edOf ed) ot)⟩:=Tbl.mem_prs.2 ⟨q1,q2,q3⟩
   have:=List.length_pos_of_mem hp
   omega
 have hlen:=(Tbl.prs_sub (t:=t) (e:=(t.edOf ed)) (a:=(t.chosen (t.edOf ed) bits)) (b:=(t.chosen (t.edOf ed) ot)) (show (min M N) ≤ (max M N) by omega)).length_le
 (conv=>whnf)
 refine ⟨rfl,?_⟩
 (conv=>whnf)
 refine ⟨rfl,?_⟩
 (conv=>whnf)
 refine ⟨rfl,?_⟩
 (conv=>whnf)
 refine ⟨_,hs18.sees3 (o:=0) rfl,?_⟩
 (conv=>whnf)
 refine ⟨_,hs18.sees3 (o:=1) rfl,?_⟩
 (conv=>whnf);(repeat (refine ⟨rfl,?_⟩;conv=>whnf))
 rw [show ((t.near (t.edOf ed) (t.chosen (t.edOf ed) bits) (t.chosen (t.edOf ed) ot)) != (t.near (t.edOf ed) (t.chosen (t.edOf ed) bits) (t.chosen (t.edOf ed) ot))) = false by simp]
 (conv=>whnf);(repeat (refine ⟨rfl,?_⟩;conv=>whnf))
 refine ⟨_,hs18.sees3 (o:=1) rfl,?_⟩
 (conv=>whnf)
 refine raw_min rfl rfl ?_
 (conv=>whnf);(repeat (refine ⟨rfl,?_⟩;conv=>whnf))
 rw [hpos (min M N) (by omega)]
 rw [show (!(decide ((t.near (t.edOf ed) (t.chosen (t.edOf ed) bits) (t.chosen (t.edOf ed) ot)) ≥ (min M N)) == decide ((t.near (t.edOf ed) (t.chosen (t.edOf ed) bits) (t.chosen (t.edOf ed) ot)) ≥ (min M N)))) = false by simp]
 (conv=>whnf);(repeat (refine ⟨rfl,?_⟩;conv=>whnf))
 refine ⟨_,hs18.sees3 (o:=1) rfl,?_⟩
 (conv=>whnf)
 refine raw_max rfl rfl ?_
 (conv=>whnf);(repeat (refine ⟨rfl,?_⟩;conv=>whnf))
 rw [hpos (max M N) (by omega)]
 rw [show (!(decide ((t.near (t.edOf ed) (t.chosen (t.edOf ed) bits) (t.chosen (t.edOf ed) ot)) ≥ (max M N)) == decide ((t.near (t.edOf ed) (t.chosen (t.edOf ed) bits) (t.chosen (t.edOf ed) ot)) ≥ (max M N)))) = false by simp]
 (conv=>whnf);(repeat (refine ⟨rfl,?_⟩;conv=>whnf))
 refine cb_split (fun hc=>?_) (fun hc=>?_)
 ·have:=of_decide_eq_true hc
  omega
 have nAB:(t.chosen (t.edOf ed) bits).length * (t.chosen (t.edOf ed) ot).length ≤ 8 * 8:=Nat.mul_le_mul nA nB
 have n3:(t.prs ⟨(t.edOf ed),(min M N),(t.chosen (t.edOf ed) bits),(t.chosen (t.edOf ed) ot)⟩).length ≤ 64:=Nat.le_trans n3 nAB
 (conv=>whnf)
 refine ⟨Nat,fun i=>[(6,.pointer (some ⟨b,0,none⟩)),(13,.int .i64 (t.edOf ed)),(14,.slice a1 (t.chosen (t.edOf ed) bits).length c1),(15,.slice a2 (t.chosen (t.edOf ed) ot).length c2),(16,.int .i64 M),(17,.int .i64 N),(20,.slice a3 (t.prs ⟨(t.edOf ed),(min M N),(t.chosen (t.edOf ed) bits),(t.chosen (t.edOf ed) ot)⟩).length c3),(24,.int .i64 i)],fun i σ'=>σ₆.le σ' ∧ i ≤ (t.prs ⟨(t.edOf ed),(min M N),(t.chosen (t.edOf ed) bits),(t.chosen (t.edOf ed) ot)⟩).length,fun i=>(t.prs ⟨(t.edOf ed),(min M N),(t.chosen (t.edOf ed) bits),(t.chosen (t.edOf ed) ot)⟩).length - i,0,⟨rfl,rfl,rfl,rfl,rfl,rfl,rfl,rfl,trivial⟩,⟨.refl _,Nat.zero_le _⟩,?_⟩
 rintro i f σ₇ ⟨h7,hi⟩
 have hle7:=hle6.trans h7
 have hb:=hb.le h7
 have ht:=ht.lg h7.frz2
 have i1:=i1.lg h7.frz2
 have i2:=i2.lg h7.frz2
 have p3:=PairsV.lg p3 h7.frz2
 (conv=>whnf);(repeat (refine ⟨rfl,?_⟩;conv=>whnf))
 refine cb_split (fun hc=>?_) (fun hc=>?_)
 ·have hlt:i < (t.prs ⟨(t.edOf ed),(min M N),(t.chosen (t.edOf ed) bits),(t.chosen (t.edOf ed) ot)⟩).length:=by simpa using hc
  obtain ⟨ad,p,vs,hx,hpa,hsp,rfl,-,hrd⟩:=RowsV.at p3 hlt
  have hin:InR ((i:Int) + 1):=by unfold InR;omega
  obtain ⟨m1,m2,m3⟩:=Tbl.mem_prs.1 (List.mem_of_getElem? hx)
  obtain ⟨px,py⟩:=p
  have m1:px ∈ (t.chosen (t.edOf ed) bits):=m1
  have m2:py ∈ (t.chosen (t.edOf ed) ot):=m2
  have m3:(min M N) ≤ t.lev (t.edOf ed) px py:=m3
  have l1:t.Lst (t.edOf ed) [px]:=⟨List.pairwise_singleton _ _,fun z hz=>by rw [List.mem_singleton.1 hz];exact hA.its px m1⟩
  have l2:t.Lst (t.edOf ed) [py]:=⟨List.pairwise_singleton _ _,fun z hz=>by rw [List.mem_singleton.1 hz];exact hB.its py m2⟩
  subst hpa
  (conv=>whnf)
  refine ⟨ad,i,⟨rfl,rfl,hlt⟩,?_⟩
  (conv=>whnf)
  refine ⟨_,⟨rfl,hrd.lg frz_self⟩,?_⟩
  (conv=>whnf)
  intro b25 hf25
  refine ⟨_,.refl _,?_⟩
  (conv=>whnf)
  refine ⟨rfl,st_new (vs:=encII (px,py)) hf25 rfl (by simp [encII,Value.single]) fun σ₈ h8 hs25=>?_⟩
  have hs25:Blk σ₈ b25 #[.int .i64 px,.int .i64 py]:=hs25
  have hle8:=hle7.trans h8
  have hb:=hb.le h8
  have ht:=ht.lg h8.frz2
  have i1:=i1.lg h8.frz2
  have i2:=i2.lg h8.frz2
  (conv=>whnf)
  refine ⟨_,⟨rfl,hb.rdT fun _ _ h=>h⟩,?_⟩
  (conv=>whnf)
  refine ⟨_,hs25.sees3 (o:=0) rfl,?_⟩
  (conv=>whnf)
  intro b149 hf149
  refine put_new hf149 fun σ₉ h9 hs149=>?_
  have hs149:Blk σ₉ b149 #[.int .i64 px]:=hs149
  have hle9:=hle8.trans h9
  have hb:=hb.le h9
  have ht:=ht.lg h9.frz2
  have i1:=i1.lg h9.frz2
  have i2:=i2.lg h9.frz2
  have hs25:=hs25.le h9
  (conv=>whnf)
  refine ⟨_,hs25.sees3 (o:=1) rfl,?_⟩
  (conv=>whnf)
  intro b153 hf153
  refine put_new hf153 fun σ₁₀ h10 hs153=>?_
  have hs153:Blk σ₁₀ b153 #[.int .i64 py]:=hs153
  have hle10:=hle9.trans h10
  have hb:=hb.le h10
  have ht:=ht.lg h10.frz2
  have i1:=i1.lg h10.frz2
  have i2:=i2.lg h10.frz2
  have hs25:=hs25.le h10
  have hs149:=hs149.le h10
  have kr:=Tryz.kinL_ok (cap:=1) (cap':=1) (l:=[px]) (l':=[py]) (hle10.tok.trans htok) h t ht hf (t.edOf ed) (t.edOf ed) he he (ints_one hs149.frz) l1 (ints_one hs153.frz) l2
  rw [Tbl.kin_same hf he l1 l2] at kr
  (conv=>whnf)
  refine ⟨Tryz.k41.any,(kr).mono ?_⟩
  rintro _ σ' ⟨rfl,hσ'⟩ -
  obtain rfl:=hσ'.symm
  (conv=>whnf)
  intro b26 hf26
  refine ⟨_,.refl _,?_⟩
  (conv=>whnf)
  refine ⟨rfl,st_new (vs:=[.int .i64 (t.near (t.edOf ed) [px] [py]),.int .i64 (t.near (t.edOf ed) [px] [py])]) hf26 rfl (by simp [Value.single]) fun σ₁₁ h11 hs26=>?_⟩
  have hs26:Blk σ₁₁ b26 #[.int .i64 (t.near (t.edOf ed) [px] [py]),.int .i64 (t.near (t.edOf ed) [px] [py])]:=hs26
  have hle11:=hle10.trans h11
  have hb:=hb.le h11
  have ht:=ht.lg h11.frz2
  have i1:=i1.lg h11.frz2
  have i2:=i2.lg h11.frz2
  have hs25:=hs25.le h11
  have hs149:=hs149.le h11
  have hs153:=hs153.le h11
  have hlow:decide ((t.near (t.edOf ed) [px] [py]) < (min M N)) = false:=decide_eq_false (by
   have h1:(min M N) ≤ (t.near (t.edOf ed) [px] [py]):=(Tbl.near_ge (by omega)).2 ⟨px,List.mem_cons_self ..,py,List.mem_cons_self ..,m3⟩
   omega)
  (conv=>whnf)
  refine ⟨rfl,?_⟩
  (conv=>whnf)
  refine ⟨_,hs26.sees3 (o:=1) rfl,?_⟩
  (conv=>whnf)
  refine raw_min rfl rfl ?_
  (conv=>whnf);(repeat (refine ⟨rfl,?_⟩;conv=>whnf))
  rw [hlow]
  (conv=>whnf)
  refine ⟨_,hs25.sees3 (o:=0) rfl,?_⟩
  (conv=>whnf)
  refine ⟨Tryz.k53.any,(Tryz.hasT_ok i1 (by omega) m1).mono ?_⟩
  rintro _ σ' ⟨rfl,hσ'⟩ -
  obtain rfl:=hσ'.symm
  (conv=>whnf)
  refine ⟨_,hs25.sees3 (o:=1) rfl,?_⟩
  (conv=>whnf)
  refine ⟨Tryz.k53.any,(Tryz.hasT_ok i2 (by omega) m2).mono ?_⟩
  rintro _ σ' ⟨rfl,hσ'⟩ -
  obtain rfl:=hσ'.symm
  (conv=>whnf)
  refine ⟨hin,?_⟩
  (conv=>whnf)
  exact ⟨rfl,i + 1,⟨rfl,rfl,rfl,rfl,rfl,rfl,rfl,rfl,trivial⟩,⟨((((h7.trans h8).trans h9).trans h10).trans h11),by omega⟩,by show _ - _ < _ - _;omega⟩
 ·(conv=>whnf)
  refine ⟨Tryz.k26.any,(stocks _ hle7).mono ?_⟩
  rintro _ σ' ⟨rfl,hσ'⟩ -
  obtain rfl:=hσ'.symm
  (conv=>whnf);(repeat (refine ⟨rfl,?_⟩;conv=>whnf))
  exact hle7.lg
end Go.Proofs
