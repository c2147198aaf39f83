/- Lemmas of the proof. No conditions of their own. -/
import Derived.Test.YtnpfcnfhfkflhaaGreatDoorC06
set_option linter.all false
set_option maxRecDepth 100000
namespace Go.TM
variable {T:Type}
theorem Hlr.set {U U':Qa T} {b:Nat} {e:TypeId} {c:Array Value} {vs:List Value} (h:Hlr U b e c U'):Hlr U b e vs.toArray { U' with M:=.obj b (.cells vs.toArray e (0,0))::U.M }:=⟨h.imm,rfl,h.tok,h.new⟩
end Go.TM
namespace Go.Proofs
open Go.TM
attribute [local irreducible] Qb Zl Wt
set_option maxHeartbeats 4000000 in
theorem Zcx {U:Qa Tk} (htok:U.tok=⟨0,.out,none⟩) (hk:Chk U) (h:BH) (b:Bk) (hb:Zq U.frz h b) (hnl:Q0n b) (hrc:h.rl<=h.rc) (hcc:h.cl<=h.cc) (bits:Nat) (hbits:bits<256) (pa:Option Addr) (pl pc:Nat) (p:List Nat) (hp:Q5 U.frz pa pl 1 p λ (n:Nat) vs=>vs=[.int .u16 (n:Int)]/\n<65536) (hpl:pl<2 ^ 60) :
  J (Zb Tryz.prog 209 6) (Fin Tryz.prog λ v U'=>v=.bool true/\U.lg U') true (Rf (Frame.enter Tryz.prog 13 #[h.v,.int .u8 (bits:Int),.slice pa pl pc] .normal) []) U:=by
 refine Zpy (args:=[_,_,_]) (Q:=λ v U'=>v=.bool true/\U.lg U') Zl2 Qf (by kernel_rfl) (by simp) (λ v U' q=>q.2.tok.trans htok) ?_;have hcl:=hb.cs.1;have hrl:=hb.rs.1;have fin:∀U2:Qa Tk,U.lg U2->Qb (Zb Tryz.prog 209 6) 20 #[] (λ v U'=>v=.bool true/\U'=U2) U2:=λ U2 h=>Zm2 (h.tok.trans htok) (hk.lg h)
 repeat refine⟨rfl,?_⟩
 conv=>whnf
 intro B U1 h_1 hB;have hB:Zi U1 B #[.slice h.ra h.rl h.rc,.slice h.ca h.cl h.cc]:=hB;have hBf:Zi U1.frz B #[.slice h.ra h.rl h.rc,.slice h.ca h.cl h.cc]:=hB;have hb1:=hb.lg h_1.lg.frz2;have hrd:∀w:Qa Tk,U1.frz.lg w->Jn w ⟨B,0,none⟩ [.slice h.ra h.rl h.rc,.slice h.ca h.cl h.cc]:=λ w hw=>(hBf.lg hw).reads (λ k v hv=>by simpa using hv);refine⟨_,⟨rfl,hrd _ Qp⟩,?_⟩;refine⟨Zij.any,(Zm1 h b hb1 hnl hrc).mono ?_⟩;rintro _ U' ⟨⟨g,rfl,hg⟩,hU'⟩ -;obtain rfl:=hU'.symm;cases g with
 | false=>
  refine⟨Zii.any,(fin _ h_1.lg).go λ _=>?_⟩
  repeat refine⟨rfl,?_⟩
  conv=>whnf
  exact h_1.lg
 | true=>
 have hf:b.flaw Qu=0:=hg rfl;have hok:=Bk.ok_of hf;have hnc:=hok.nc;refine⟨_,⟨rfl,hrd _ Qp⟩,?_⟩;refine⟨Qzk.any,(Qvo h b hb1 hnc bits).mono ?_⟩;rintro _ U2 ⟨⟨la,lc,rfl,hL,hroom⟩,h_2⟩ -;have hsub:=b.partTo_sub bits;have hasc:=Bk.part_asc bits b.cs.length;have hpk:=b.part_kept bits;have hpm:∀i,i<b.cs.length->((Bk.partTo bits b.cs.length).contains (i:Int))=(Qli (Bk.partTo bits b.cs.length)).testBit i:=λ i _=>(Qdc Bk.part_nn i).symm;generalize hldef:Bk.partTo bits b.cs.length=l at *;have hl5:=Bk.sub_len hsub;have h12:=h_1.trans h_2;have hb2:=hb1.lg h_2.lg.frz2;have hri:=Bk.sub_rises hsub;have hF:b.woF l=0:=by unfold Bk.woF;rw [if_pos hf,hri]
 have hF0:b.woF []=0:=by unfold Bk.woF;rw [if_pos hf];rfl
 refine⟨_,⟨rfl,hrd _ (Za3 Qp h_2)⟩,?_⟩;refine⟨Qek.any,(Qaq h b hb2 (hk.lg h12.lg) la _ lc l hL (by omega)).mono ?_⟩;rintro _ U3 ⟨⟨ho0,rfl,hbo,hro⟩,h_3⟩ -;rw [if_pos hF] at hbo;rw [hF];have h13:=h12.trans h_3;have h23:=h_2.trans h_3
 conv=>whnf
 intro b8 hf8;refine⟨_,.refl _,?_⟩;refine⟨rfl,Zt (vs:=[.slice ho0.ra ho0.rl ho0.rc,.slice ho0.ca ho0.cl ho0.cc]) hf8 rfl (by simp [Value.single]) λ U4 h_4 hB8=>?_⟩;have hB8:Zi U4 b8 #[.slice ho0.ra ho0.rl ho0.rc,.slice ho0.ca ho0.cl ho0.cc]:=hB8;have h24:=h23.trans h_4;have h14:=h12.trans (h_3.trans h_4);refine⟨_,⟨rfl,hrd _ (Za3 Qp h24)⟩,?_⟩;refine⟨Qek.any,(Qaq h b (hb1.lg h24.lg.frz2) (hk.lg h14.lg) none 0 0 [] ⟨rfl,λ i x hx=>by simp at hx⟩ (by omega)).mono ?_⟩;rintro _ U5 ⟨⟨hw,rfl,hbw,hrw⟩,h_5⟩ -;rw [if_pos hF0,Bk.wo_none hok] at hbw;rw [hF0];have h45:=h_4.trans h_5;have h25:=h24.trans h_5;have h15:=h14.trans h_5
 conv=>whnf
 intro b10 hf10;refine⟨_,.refl _,?_⟩;refine⟨rfl,Zt (vs:=[.slice hw.ra hw.rl hw.rc,.slice hw.ca hw.cl hw.cc]) hf10 rfl (by simp [Value.single]) λ U6 h_6 hB10=>?_⟩;have hB10:Zi U6 b10 #[.slice hw.ra hw.rl hw.rc,.slice hw.ca hw.cl hw.cc]:=hB10;have h46:=h_5.trans h_6;have h36:=h_4.trans h46;have h26:=h25.trans h_6;have h16:=h15.trans h_6;have hB8:=hB8.le h46;have hb6:=hb1.lg h26.lg.frz2;have hbo:=hbo.lg h36.lg.frz2;have hbw:=hbw.lg h_6.lg.frz2;have hocl:=hbo.cs.1;have hoc60:=hbo.cl;have hcl60:=hb.cl;rw [Bk.wo_nc] at hocl;refine⟨rfl,?_⟩;refine⟨rfl,?_⟩;refine⟨_,⟨rfl,hB10.reads (λ k v hv=>by simpa using hv)⟩,?_⟩;refine⟨_,⟨rfl,hrd _ (Za3 Qp h26)⟩,?_⟩;refine⟨Qpj.any,(Qcf hw h b hbw hb6).go λ _=>?_⟩;refine⟨_,hB8.sees3 (o:=1) rfl,?_⟩;refine⟨_,(hB.le h26).sees3 (o:=1) rfl,?_⟩;refine⟨by unfold Zu;omega,?_⟩;have e1:(ho0.cl:Int)=(h.cl:Int)-(l.length:Int):=by omega
 rw [e1];refine⟨rfl,?_⟩;have ebb:((h.cl:Int)-(l.length:Int) != (h.cl:Int)-(l.length:Int))=false:=by simp
 rw [ebb];refine⟨_,⟨rfl,(hB8.reads (λ k v hv=>by simpa using hv))⟩,?_⟩;refine⟨Q1w.any,(Qru ho0 _ hbo hro).go λ _=>?_⟩;rw [Bk.wo_flaw hf]
 repeat refine⟨rfl,?_⟩
 refine⟨_,⟨rfl,hrd _ (Za3 Qp h26)⟩,?_⟩
 conv=>whnf
 intro b12 hf12;refine⟨_,.refl _,?_⟩
 conv=>whnf
 have hh:Hlr U6 b12 25 #[.slice none 0 0,.slice none 0 0] (U6.put b12 (.cells #[.slice none 0 0,.slice none 0 0] 25)):=.made (.refl _) hf12;refine⟨rfl,Q0c (vs:=[.slice h.ra h.rl h.rc,.slice h.ca h.cl h.cc]) [] rfl rfl (by simp [Value.single]) ?_⟩;have hh:=hh.set (vs:=[.slice h.ra h.rl h.rc,.slice h.ca h.cl h.cc]);refine⟨by unfold Zu;omega,?_⟩
 refine⟨Nat×BH,λ y=>[(2,.slice pa pl pc),(3,.pointer (some ⟨B,0,none⟩)),(7,.slice la l.length lc),(8,.pointer (some ⟨b8,0,none⟩)),(12,.pointer (some ⟨b12,0,none⟩)),(13,.int .i64 ((y.1:Int)-1))],
  λ y U'=>Hlr U6 b12 25 #[.slice y.2.ra y.2.rl y.2.rc,.slice y.2.ca y.2.cl y.2.cc] U'/\Zq U'.frz y.2 (b.wo (Qli (l.drop y.1)).testBit)/\y.2.rl<=y.2.rc/\y.1<=l.length,λ y=>y.1,(l.length,h),⟨rfl,rfl,rfl,rfl,rfl,rfl,trivial⟩,⟨hh,?_,hrc,Nat.le_refl _⟩,?_⟩
 ·rw [List.drop_length,Bk.wo_none hok];exact hb6.lg hh.frz2
 rintro⟨j,g⟩ f U7 ⟨hh,hbg,hrg,hj⟩;simp only at hh hbg hrg hj ⊢
 repeat refine⟨rfl,?_⟩
 conv=>whnf
 apply Qe<;>intro hc
 ·have hj1:1<=j:=by simp at hc;omega
  obtain⟨i,rfl⟩:∃i,j=i+1:=⟨j-1,by omega⟩;have ei:((i+1:Nat):Int)-1=(i:Int):=by omega
  rw [ei];have hil:i<l.length:=by omega
  obtain⟨x,hxl,hxx⟩:∃x:Nat,l[i]?=some (x:Int)/\True:=by
   have hm:l[i]∈l:=List.getElem_mem hil;obtain⟨k,-,hk⟩:=List.mem_map.1 (hsub.subset hm);exact⟨k,by rw [List.getElem?_eq_getElem hil,<- hk],trivial⟩
  obtain⟨hw0,hstep⟩:=Bk.leave_step hf hsub hasc hxl;obtain⟨ad,x',hx',rfl,hsp,hs⟩:=hL.at hil;obtain rfl:(x:Int)=x':=Option.some.inj (hxl.symm.trans hx');have e2:(i:Int)+1=((i+1:Nat):Int):=by omega
  have hin:Zu ((i:Int)+1):=by unfold Zu;omega
  have hfr7:U6.frz.lg U7.frz:=hh.frz2;refine⟨λ U'=>∃g':BH,Hlr U6 b12 25 #[.slice g'.ra g'.rl g'.rc,.slice g'.ca g'.cl g'.cc] U'/\Zq U'.frz g' (b.wo (Qli (l.drop i)).testBit)/\g'.rl<=g'.rc,λ x1 x2 ⟨g',q1,q2,q3⟩ hle=>⟨g',q1.le hle,q2.lg hle.lg.frz2,q3⟩,?_⟩;refine⟨_,⟨rfl,Za [] hh.own⟩,?_⟩;refine⟨hin,?_⟩;refine⟨i,i+1,⟨rfl,e2,by omega,by omega⟩,?_⟩;rw [if_neg (show ¬lc=i by omega),show i+1-i=1 by omega];refine⟨λ v U'=>∃g':BH,v=.tuple #[g'.v,.int .i64 0]/\Zq U'.frz g' (b.wo (Qli (l.drop i)).testBit)/\g'.rl<=g'.rc,λ v x1 x2 ⟨g',q1,q2,q3⟩ hle=>⟨g',q1,q2.lg hle.lg.frz2,q3⟩,λ U' hle _=>?_,λ v hv=>?_⟩
  ·have hfr8:U2.frz.lg U'.frz:=((h_3.trans h36).lg.frz2.trans hfr7).trans hle.lg.frz2
   have hone:Z5 U'.frz (some (ad.add (i*1))) 1 [(x:Int)]:=by
    refine⟨rfl,λ k y hy=>⟨_,rfl,?_,?_⟩⟩
    ·obtain⟨bb,oo,ss⟩:=ad;cases hsp;rw [Qo]
    ·cases k with
     | succ k=>simp at hy
     | zero=>
      obtain rfl:(x:Int)=y:=by simpa using hy
      obtain⟨bb,oo,ss⟩:=ad;cases hsp;rw [Qo,Qo];rw [Qo] at hs;exact hs.lg hfr8
   refine⟨Qek.any,(Qaq g (b.wo (Qli (l.drop (i+1))).testBit) (hbg.lg hle.lg.frz2) ((show Chk U6.frz from (hk.lg h16.lg:Chk U6)).lg (hh.frz1.trans hle.lg)) _ 1 _ [(x:Int)] hone (by omega)).mono ?_⟩;rintro _ U'' ⟨⟨g',rfl,q1,q2⟩,q3⟩ -;rw [if_pos hw0,hstep] at q1;rw [hw0];exact⟨_,.refl _,⟨g',rfl,q1,q2⟩,q3⟩
  obtain⟨_,hle',-,g',rfl,-,-⟩:=hv
  conv=>whnf
  rintro U8 hle8 ⟨-,g'',e,q1,q2⟩;obtain rfl:g'=g'':=by cases g';cases g'';simp [BH.v] at e;obtain⟨⟨rfl,rfl,rfl⟩,rfl,rfl,rfl⟩:=e;rfl
  have hh8:=hh.le hle8;refine⟨⟨rfl,Q0c (vs:=[.slice g'.ra g'.rl g'.rc,.slice g'.ca g'.cl g'.cc]) [] hh8.own rfl (by simp [Value.single]) ⟨rfl,_,.refl _,g',hh8.set,q1.lg ⟨λ _ _ h=>h,⟨[],rfl⟩,rfl⟩,q2⟩⟩,?_⟩;clear hh hh8 q1 q2 e hle8;rintro U9 ⟨g_2,hh,q1,q2⟩
  repeat refine⟨rfl,?_⟩
  refine⟨_,⟨rfl,Za [] hh.own⟩,?_⟩;refine⟨Q1w.any,(Qru g_2 _ q1 q2).go λ _=>?_⟩;rw [Bk.wo_flaw hf]
  repeat refine⟨rfl,?_⟩
  refine⟨by unfold Zu;omega,?_⟩
  conv=>whnf
  exact⟨rfl,(i,g_2),⟨rfl,rfl,rfl,rfl,rfl,rfl,trivial⟩,⟨hh,q1,q2,by omega⟩,by show _<_;omega⟩
 have hj0:j=0:=by simp at hc;omega
 subst hj0;rw [List.drop_zero] at hbg;have hfr7:U6.frz.lg U7.frz:=hh.frz2;refine⟨_,⟨rfl,Za [] hh.own⟩,?_⟩;refine⟨_,⟨rfl,((show Zi U6.frz b8 _ from hB8).lg (hh.frz1)).reads (λ k v hv=>by simpa using hv)⟩,?_⟩;refine⟨Qpj.any,(Qcf g ho0 _ hbg (hbo.lg hfr7)).go λ _=>?_⟩
 conv=>whnf
 obtain⟨w,hw0⟩:∃w:List Nat,w=b.kept (Qli l).testBit:=⟨_,rfl⟩;rw [<- hw0] at hocl hpk;have hbo7:=hbo.lg hfr7
 refine⟨Nat×Value,λ y=>[(2,.slice pa pl pc),(3,.pointer (some ⟨B,0,none⟩)),(7,.slice la l.length lc),(8,.pointer (some ⟨b8,0,none⟩)),(14,y.2),(15,.slice none 0 0),(16,.int .i64 y.1)],
  λ y U'=>U7.frz.lg U'/\y.1<=h.cl/\Acc 3 1 y.2 ((Qae ((List.range y.1).filter λ i=>!(Qli l).testBit i)).map λ n=>.int .i64 n) U'.M U7.M,λ y=>h.cl-y.1,(0,.slice none 0 0),⟨rfl,rfl,rfl,rfl,rfl,rfl,rfl,trivial⟩,⟨Qp,by omega,.nil⟩,?_⟩
 rintro⟨i,v⟩ f U8 ⟨hl8,hi,hacc⟩;simp only at hi hacc;obtain⟨sa,sl,sc,rfl,hsl,-⟩:=hacc.src;have hin:Zu ((i:Int)+1):=by unfold Zu;omega
 have hkl:((List.range i).filter λ i=>!(Qli l).testBit i).length<=i:=Nat.le_trans (List.length_filter_le _ _) (by simp);have hr0:List.range (i+1)=List.range i++[i]:=List.range_succ;have hL8:=hL.lg (((h_3.trans h36).lg.frz2.trans hfr7).trans (show U7.frz.lg U8.frz from ⟨hl8.imm,⟨[],rfl⟩,hl8.tok⟩));have hB_8:Zi U8 B #[.slice h.ra h.rl h.rc,.slice h.ca h.cl h.cc]:=(hBf.lg h26.lg.frz2).lg (hfr7.trans hl8);refine⟨_,hB_8.sees3 (o:=1) rfl,?_⟩
 repeat refine⟨rfl,?_⟩
 conv=>whnf
 apply Qe<;>intro hc
 ·have hlt:i<h.cl:=by simpa using hc
  have hpi:=hpm i (by omega);refine⟨Qdh.any,(Qbj la l.length lc l (hL8.lg Qp) (by omega) (i:Int)).go λ _=>?_⟩;rw [hpi]
  repeat refine⟨rfl,?_⟩
  conv=>whnf
  apply Qe<;>intro hc
  ·have hp0:(!(Qli l).testBit i)=true:=hc;have e4:([i].filter λ i=>!(Qli l).testBit i)=[i]:=by rw [List.filter_cons];exact if_pos hp0
   conv=>whnf
   intro bn hbn;refine Zk hbn λ U9 h9 hbn=>?_;have hbn:Zi U9 bn #[.int .i64 i]:=hbn;have hl9:=hl8.trans h9.lg
   conv=>whnf
   refine Ws (v:=.slice sa sl sc) (cs:=(Qae ((List.range i).filter λ i=>!(Qli l).testBit i)).map λ n=>.int .i64 n) (new:=[.int .i64 (i:Int)]) (M₀:=U7.M) Qat rfl rfl (by rw [h9.own];exact hacc) (.inr ⟨_,rfl,hbn.reads (λ k v hv=>by simpa using hv)⟩) rfl (by simp [Value.single]) (by simp [Qae];omega) λ v' M' ha' _=>?_;obtain⟨ta,tl,tc,rfl,-,-⟩:=Acc.src (U:={ U9 with M:=M' }) ha';refine⟨hin,?_⟩
   conv=>whnf
   exact⟨rfl,(i+1,.slice ta tl tc),⟨rfl,rfl,rfl,rfl,rfl,rfl,rfl,trivial⟩,⟨⟨hl9.imm,⟨_,(List.append_nil _).symm⟩,hl9.tok⟩,by show i+1<=h.cl;omega,by show Acc 3 1 _ ((Qae ((List.range (i+1)).filter _)).map _) _ _;rw [hr0,List.filter_append,e4,Qae,List.map_append,List.map_append];exact ha'⟩,by show _-_<_-_;omega⟩
  ·have hp0:(!(Qli l).testBit i)=false:=hc;have e4:([i].filter λ i=>!(Qli l).testBit i)=[]:=by rw [List.filter_cons];exact if_neg (Bool.eq_false_iff.1 hp0)
   refine⟨hin,?_⟩
   conv=>whnf
   exact⟨rfl,(i+1,.slice sa sl sc),⟨rfl,rfl,rfl,rfl,rfl,rfl,rfl,trivial⟩,⟨hl8,by show i+1<=h.cl;omega,by show Acc 3 1 _ ((Qae ((List.range (i+1)).filter _)).map _) _ _;rw [hr0,List.filter_append,e4,List.append_nil];exact hacc⟩,by show _-_<_-_;omega⟩
 have hge:i=b.cs.length:=by simp at hc;omega
 have hw1:((List.range i).filter λ i=>!(Qli l).testBit i)=w:=by rw [hge,hw0];rfl
 rw [hw1] at hacc;have hS:Qoa U7 (Qae w) (.slice sa sl sc) U8:=⟨⟨_,_,_,rfl⟩,hl8,hacc⟩;refine⟨_,⟨rfl,hB_8.reads (λ k v hv=>by simpa using hv)⟩,?_⟩
 refine⟨Qvz.any,(Qoa.give (xs:=λ _=>#[h.v,.slice pa pl pc]) (Q:=λ v U'=>∃ka kc,Value.slice sa sl sc=.slice ka (Qae w).length kc/\Z5 U'.frz ka (Qae w).length (Qae w)/\Jd U'.frz v (Qae (b.pickO p b.cs.length []))/\U7.le U') hS λ U9 ga gcap e hle hInts=>
  (Qp3 h b (hb6.lg (hfr7.trans hle.lg.frz2)) hok pa pl pc p (Q5.lg (R':=λ (n:Nat) vs=>vs=[.int .u16 (n:Int)]/\n<65536) hp ((h16.lg.frz2.trans hfr7).trans hle.lg.frz2) λ _ _ h=>h)).mono λ v U' ⟨q1,q2⟩=>⟨ga,gcap,e,hInts.lg q2.lg.frz2,q1,hle.trans q2⟩).mono ?_⟩
 rintro _ U9 ⟨ka,kc,e,hK,⟨oa,oc,rfl,hO⟩,h9⟩ -;obtain⟨rfl,rfl,rfl⟩:sa=ka/\sl=(Qae w).length/\sc=kc:=by simpa using e
 have ho:=Bk.pick_ord hok p;generalize b.pickO p b.cs.length []=o at ho hO ⊢;have hol:o.length=h.cl:=by rw [ho.len,hcl]
 have hwl:w.length<=5:=by omega
 have hnw:(Qae w).length=w.length:=List.length_map ..;have hno:(Qae o).length=o.length:=List.length_map ..;have hfr9:U7.frz.lg U9.frz:=h9.lg.frz2;have hbo9:=hbo7.lg hfr9;rw [hnw] at hK ⊢;rw [hno] at hO ⊢;have hord:=Bk.restO_ord hok (Qli l).testBit ho
 refine⟨Nat×Value,λ y=>[(8,.pointer (some ⟨b8,0,none⟩)),(14,.slice sa w.length sc),(15,y.2),(17,.slice oa o.length oc),(18,.int .i64 y.1)],
  λ y U'=>U9.frz.lg U'/\y.1<=o.length/\Acc 3 1 y.2 ((Qae (b.restO (Qli l).testBit (o.take y.1))).map λ n=>.int .i64 n) U'.M U9.M,λ y=>o.length-y.1,(0,.slice none 0 0),⟨rfl,rfl,rfl,rfl,rfl,trivial⟩,⟨Qp,by omega,.nil⟩,?_⟩
 rintro⟨i,v⟩ f U10 ⟨hl10,hi,hac3⟩;simp only at hi hac3;have hin:Zu ((i:Int)+1):=by unfold Zu;omega
 have hrl0:=Bk.restO_le (b:=b) (Qli l).testBit (o.take i);rw [<- hw0,List.length_take] at hrl0;have hrl1:(b.restO (Qli l).testBit (o.take i)).length<=25:=Nat.le_trans hrl0 (Nat.le_trans (Nat.mul_le_mul (show min i o.length<=5 by omega) hwl) (by omega))
 repeat refine⟨rfl,?_⟩
 conv=>whnf
 apply Qe<;>intro hc
 ·have hlt:i<o.length:=by simpa using hc
  obtain⟨a,hoa⟩:∃a,o[i]?=some a:=⟨_,List.getElem?_eq_getElem hlt⟩;have hsn:=Bk.restO_snoc (b:=b) (Qli l).testBit hoa;rw [<- hw0] at hsn
  refine⟨Nat×Value,λ y=>[(8,.pointer (some ⟨b8,0,none⟩)),(14,.slice sa w.length sc),(15,y.2),(17,.slice oa o.length oc),(18,.int .i64 i),(19,.int .i64 y.1)],
   λ y U'=>U9.frz.lg U'/\y.1<=w.length/\Acc 3 1 y.2 ((Qae (b.restO (Qli l).testBit (o.take i)++(List.range y.1).filter λ k=>w.getD k 0 == a)).map λ n=>.int .i64 n) U'.M U9.M,λ y=>w.length-y.1,(0,v),⟨rfl,rfl,rfl,rfl,rfl,rfl,trivial⟩,⟨hl10,by omega,by simpa using hac3⟩,?_⟩
  clear hac3 hl10;rintro⟨k,v⟩ f U11 ⟨hl11,hk1,hac3⟩;simp only at hk1 hac3;obtain⟨ta,tl,tc,rfl,htl,-⟩:=hac3.src;have hink:Zu ((k:Int)+1):=by unfold Zu;omega
  have hfl:((List.range k).filter λ k=>w.getD k 0 == a).length<=k:=Nat.le_trans (List.length_filter_le _ _) (by simp);have hr0:List.range (k+1)=List.range k++[k]:=List.range_succ
  repeat refine⟨rfl,?_⟩
  conv=>whnf
  apply Qe<;>intro hc
  ·have hlk:k<w.length:=by simpa using hc
   obtain⟨ad1,x1,hx1,rfl,-,hs1⟩:=hK.at hlk;obtain⟨ad2,x2,hx2,rfl,-,hs2⟩:=hO.at hlt;have hs1:=hs1.lg hl11;have hs2:=hs2.lg hl11;obtain rfl:((w.getD k 0:Nat):Int)=x1:=by simpa [Qae,List.getD_eq_getElem?_getD,hlk] using hx1
   obtain rfl:((a:Nat):Int)=x2:=by simpa [Qae,hoa] using hx2
   refine⟨ad1,k,⟨rfl,rfl,hlk⟩,?_⟩;refine⟨_,hs1,?_⟩;refine⟨ad2,i,⟨rfl,rfl,hlt⟩,?_⟩;refine⟨_,hs2,?_⟩
   conv=>whnf
   intro U12 hle12 _;have hl12:=hl11.trans hle12.lg
   repeat refine⟨rfl,?_⟩
   conv=>whnf
   apply Qe<;>intro hc
   ·have hp0:(w.getD k 0 == a)=true:=by have hc:((w.getD k 0:Int) == (a:Int))=true:=hc;simp at hc ⊢;omega
    have e4:([k].filter λ k=>w.getD k 0 == a)=[k]:=by rw [List.filter_cons];exact if_pos hp0
    conv=>whnf
    intro bn hbn;refine Zk hbn λ U13 h_13 hbn=>?_;have hbn:Zi U13 bn #[.int .i64 k]:=hbn;have hl13:=hl12.trans h_13.lg
    conv=>whnf
    refine Ws (v:=.slice ta tl tc) (cs:=(Qae (b.restO (Qli l).testBit (o.take i)++(List.range k).filter λ k=>w.getD k 0 == a)).map λ n=>.int .i64 n) (new:=[.int .i64 (k:Int)]) (M₀:=U9.M) Qat rfl rfl (by rw [h_13.own,hle12.own];exact hac3) (.inr ⟨_,rfl,hbn.reads (λ k v hv=>by simpa using hv)⟩) rfl (by simp [Value.single]) (by simp only [Qae,List.length_map,List.length_append,List.length_cons,List.length_nil];omega) λ v' M' ha' _=>?_;obtain⟨ua,ul,uc,rfl,-,-⟩:=Acc.src (U:={ U13 with M:=M' }) ha';refine⟨hink,?_⟩
    conv=>whnf
    exact⟨rfl,(k+1,.slice ua ul uc),⟨rfl,rfl,rfl,rfl,rfl,rfl,trivial⟩,⟨⟨hl13.imm,⟨_,(List.append_nil _).symm⟩,hl13.tok⟩,by show k+1<=w.length;omega,by show Acc 3 1 _ ((Qae (_++(List.range (k+1)).filter _)).map _) _ _;rw [hr0,List.filter_append,e4,<- List.append_assoc,Qae,List.map_append,List.map_append];exact ha'⟩,by show _-_<_-_;omega⟩
   ·have hp0:(w.getD k 0 == a)=false:=by have hc:((w.getD k 0:Int) == (a:Int))=false:=hc;simp at hc ⊢;omega
    have e4:([k].filter λ k=>w.getD k 0 == a)=[]:=by rw [List.filter_cons];exact if_neg (Bool.eq_false_iff.1 hp0)
    refine⟨hink,?_⟩
    conv=>whnf
    exact⟨rfl,(k+1,.slice ta tl tc),⟨rfl,rfl,rfl,rfl,rfl,rfl,trivial⟩,⟨hl12,by show k+1<=w.length;omega,by show Acc 3 1 _ ((Qae (_++(List.range (k+1)).filter _)).map _) _ _;rw [hr0,List.filter_append,e4,List.append_nil,hle12.own];exact hac3⟩,by show _-_<_-_;omega⟩
  have hge:k=w.length:=by simp at hc;omega
  rw [hge,<- hsn] at hac3;refine⟨hin,?_⟩
  conv=>whnf
  exact⟨rfl,(i+1,.slice ta tl tc),⟨rfl,rfl,rfl,rfl,rfl,trivial⟩,⟨hl11,by show i+1<=o.length;omega,hac3⟩,by show _-_<_-_;omega⟩
 have hge:i=o.length:=by simp at hc;omega
 rw [hge,List.take_length] at hac3 hrl1;obtain⟨ta,tl,tc,rfl,htl,-⟩:=hac3.src;have hS:Qoa U9 (Qae (b.restO (Qli l).testBit o)) (.slice ta tl tc) U10:=⟨⟨_,_,_,rfl⟩,hl10,hac3⟩;have hof:(b.wo (Qli l).testBit).outF (Qae (b.restO (Qli l).testBit o))=0:=by unfold Bk.outF;rw [if_pos (Bk.wo_flaw hf _)];exact hord.flaw
 have h09:U.lg U9:=h16.lg.trans ((show U6.lg U7 from ⟨hh.imm,⟨[_],hh.own⟩,hh.tok⟩).trans h9.lg);have hB_10:Zi U10 b8 #[.slice ho0.ra ho0.rl ho0.rc,.slice ho0.ca ho0.cl ho0.cc]:=((show Zi U6.frz b8 _ from hB8).lg (hfr7.trans hfr9)).lg hl10;refine⟨_,⟨rfl,hB_10.reads (λ k v hv=>by simpa using hv)⟩,?_⟩
 refine⟨Qq3.any,(Qoa.give (xs:=λ v=>#[ho0.v,v]) (Q:=λ v U'=>(∃xa xn xc ya yn yc,v=.tuple #[.slice xa xn xc,.slice ya yn yc,.int .i64 0])/\U9.le U') hS λ U11 ga gcap e hle hInts=>by
  rw [e]
  exact (Qfz ho0 _ (hbo9.lg hle.lg.frz2) (hk.lg (h09.trans hle.lg)) ga _ gcap _ hInts (by simp [Qae];omega)).mono (by
   rintro v U' ⟨⟨_,_,rfl,⟨xa,xc,rfl,-⟩,⟨ya,yc,rfl,-⟩⟩,q2⟩;rw [hof];exact⟨⟨_,_,_,_,_,_,rfl⟩,hle.trans q2⟩)).mono ?_⟩
 rintro _ U11 ⟨⟨xa,xn,xc,ya,yn,yc,rfl⟩,h11⟩ -
 repeat refine⟨rfl,?_⟩
 conv=>whnf
 refine (fin _ (h09.trans h11.lg)).mono ?_;rintro _ U' ⟨rfl,hU'⟩ -;obtain rfl:=hU'.symm
 repeat refine⟨rfl,?_⟩
 conv=>whnf
 exact h09.trans h11.lg
end Go.Proofs
