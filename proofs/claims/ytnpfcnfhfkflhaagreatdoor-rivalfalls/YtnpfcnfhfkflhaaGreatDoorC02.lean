/- Lemmas of the proof. No conditions of their own. -/
import Derived.Test.YtnpfcnfhfkflhaaGreatDoorB42
import Derived.Test.YtnpfcnfhfkflhaaGreatDoorC01
import Derived.Test.YtnpfcnfhfkflhaaGreatDoorB43
import Derived.Test.YtnpfcnfhfkflhaaGreatDoorC00
set_option linter.all false
set_option maxRecDepth 100000
namespace Go.TM
theorem Qp5 {P:Program} {t:TypeId} (h:(match P.info? t with | some inf=>inf.zero.isSome && (match inf.zero with | some (.bool false)=>true | _=>false) && inf.size == 1 && decide (inf.bytes<=64) | none=>false)=true):∃inf,P.info? t=some inf/\inf.zero=some (.bool false)/\inf.size=1/\inf.bytes<=64:=by
 split at h
 ·rename_i inf hi;simp only [Bool.and_eq_true,beq_iff_eq,decide_eq_true_eq] at h;obtain⟨⟨⟨h1,h2⟩,h3⟩,h4⟩:=h;refine⟨inf,hi,?_,h3,h4⟩;split at h2
  ·assumption
  ·cases h2
 ·cases h
def flC (l:List Bool):List Value:=l.map .bool
def Qae (nr j:Nat) (p:Nat->Bool) (ag:Nat->Nat):List Bool:=(List.range nr).map λ r=>(List.range j).any λ i=>ag i == r && p i
theorem Qaq (nr j:Nat) (p:Nat->Bool) (ag:Nat->Nat):(Qae nr j p ag).length=nr:=by simp [Qae]
theorem Qpj (nr:Nat) (p:Nat->Bool) (ag:Nat->Nat):Qae nr 0 p ag=List.replicate nr false:=by
 unfold Qae;simp [List.map_const']
theorem Qdh {nr j r:Nat} {p:Nat->Bool} {ag:Nat->Nat} (h:r<nr):(Qae nr j p ag).getD r false=(List.range j).any λ i=>ag i == r && p i:=by
 simp [Qae,List.getD_eq_getElem?_getD,h]
theorem Qdg {l:List Bool} {r:Nat} (h:r<l.length):(flC l)[r]?=some (.bool (l.getD r false)):=by
 simp [flC,List.getD_eq_getElem?_getD,h]
theorem Qpf {nr j:Nat} {p:Nat->Bool} {ag:Nat->Nat} {v:Bool} (h:ag j<nr) (hv:v=((Qae nr j p ag).getD (ag j) false || p j)):(flC (Qae nr j p ag)).toArray.setIfInBounds (ag j) (.bool v)=(flC (Qae nr (j+1) p ag)).toArray:=by
 subst hv;rw [Qdh h];apply Array.ext';rw [Array.toList_setIfInBounds];show (flC (Qae nr j p ag)).set (ag j) (.bool _)=flC (Qae nr (j+1) p ag);apply List.ext_getElem?;intro r;rw [List.getElem?_set];by_cases hr:r<nr
 ·have e1:=Qdg (l:=Qae nr j p ag) (r:=r) (by rw [Qaq];exact hr);have e2:=Qdg (l:=Qae nr (j+1) p ag) (r:=r) (by rw [Qaq];exact hr);rw [e1,e2,Qdh hr,Qdh hr,List.range_succ,List.any_append];by_cases e:ag j=r
  ·rw [if_pos e,if_pos (by simpa [flC,Qae] using h)];subst e;simp
  ·rw [if_neg e];simp [e]
 ·have l1:(flC (Qae nr j p ag)).length=nr:=by simp [flC,Qae]
  have l2:(flC (Qae nr (j+1) p ag)).length=nr:=by simp [flC,Qae]
  rw [List.getElem?_eq_none (by omega),List.getElem?_eq_none (by omega)];split
  ·split
   ·omega
   ·rfl
  ·rfl
end Go.TM
namespace Go.Proofs
open Go.TM
attribute [local irreducible] Qb Zl Wt
theorem Qvo:∃inf,Tryz.prog.info? 4=some inf/\inf.zero=some (.bool false)/\inf.size=1/\inf.bytes<=64:=Qp5 (by kernel_rfl)
theorem Qdc:Tryz.prog.underlying 29=some (.slice 4):=by kernel_rfl
set_option maxHeartbeats 4000000 in
theorem Qp3 {U:Qa Tk} (htok:U.tok=⟨0,.out,none⟩) (hk:Chk U) (h:BH) (b:Bk) (hb:Zq U.frz h b) (hnl:Q0n b) (hrc:h.rl<=h.rc) (hcc:h.cl<=h.cc) :
  J (Zb Tryz.prog 209 6) (Fin Tryz.prog λ v U'=>v=.bool true/\U.lg U') true (Rf (Frame.enter Tryz.prog 9 #[h.v] .normal) []) U:=by
 refine Zpy (args:=[_]) (Q:=λ v U'=>v=.bool true/\U.lg U') Qvv Qf (by kernel_rfl) (by simp) (λ v U' q=>q.2.tok.trans htok) ?_;have hcl:=hb.cs.1;have hrl:=hb.rs.1;have fin:∀U2:Qa Tk,U.lg U2->Qb (Zb Tryz.prog 209 6) 20 #[] (λ v U'=>v=.bool true/\U'=U2) U2:=λ U2 h=>Zm2 (h.tok.trans htok) (hk.lg h)
 repeat refine⟨rfl,?_⟩
 conv=>whnf
 intro B U1 h_1 hB;have hB:Zi U1 B #[.slice h.ra h.rl h.rc,.slice h.ca h.cl h.cc]:=hB;have hb1:=hb.lg h_1.lg.frz2;refine⟨_,⟨rfl,hB.reads (λ k v hv=>by simpa using hv)⟩,?_⟩;refine⟨Zij.any,(Zm1 h b hb1 hnl hrc).mono ?_⟩;rintro _ U' ⟨⟨g,rfl,hg⟩,hU'⟩ -;obtain rfl:=hU'.symm
 repeat refine⟨rfl,?_⟩
 conv=>whnf
 apply Qe<;>intro hc
 ·refine⟨Zii.any,(fin _ h_1.lg).go λ _=>?_⟩
  repeat refine⟨rfl,?_⟩
  conv=>whnf
  exact h_1.lg
 have hf:b.flaw Qu=0:=hg (by simpa using hc);have hok:=Bk.ok_of hf;have hnr:=hok.nr;have hnc:=hok.nc;have hlC:b.fatesC.length=h.cl:=by simp [Bk.fatesC,hcl]
 have hlR:b.fatesR.length=h.rl:=by simp [Bk.fatesR,hrl]
 have hatC:∀i,i<h.cl->b.fatesC[i]?=some (b.fatC i):=λ i hi=>by simp [Bk.fatesC,hcl,hi]
 have hatR:∀i,i<h.rl->b.fatesR[i]?=some (b.fatR i):=λ i hi=>by simp [Bk.fatesR,hrl,hi]
 refine⟨_,⟨rfl,hB.reads (λ k v hv=>by simpa using hv)⟩,?_⟩;refine⟨Q1x.any,(Quz h b hb1 (hk.lg h_1.lg)).mono ?_⟩;rintro _ U2 ⟨⟨_,_,rfl,⟨ra,rc,rfl,hR⟩,⟨ca,cc,rfl,hC⟩⟩,h_2⟩ -;rw [hf] at *;rw [if_pos rfl] at hR hC;rw [if_pos rfl,if_pos rfl];rw [hlC] at hC ⊢;rw [hlR] at hR ⊢;have hB2:=hB.lg h_2.lg;have hb2:=hb1.lg h_2.lg.frz2;have hend2:=h_1.lg.trans h_2.lg;have hM2:U2.M=U.M:=h_2.own.trans h_1.own
 repeat refine⟨rfl,?_⟩
 refine⟨_,hB2.sees3 (o:=0) rfl,?_⟩
 repeat refine⟨rfl,?_⟩
 conv=>whnf
 apply Zr<;>intro hc
 rotate_left
 ·exact absurd hc (by simp)
 refine⟨_,hB2.sees3 (o:=1) rfl,?_⟩
 repeat refine⟨rfl,?_⟩
 conv=>whnf
 apply Qe<;>intro hc
 ·exact absurd hc (by simp)
 obtain⟨i4,i4a,i4b,i4c,i4d⟩:=Qvo
 let Z:List Bool:=List.replicate h.rl false
 have hZ:(List.replicate h.rl (Value.bool false)).toArray=(flC Z).toArray:=by simp [flC,Z]
 conv=>whnf
 intro ac hfr0
 refine Qt2 (mu:=[]) (ops:=Q4g Tryz.f9 6) (id:=6) hfr0 [2,5] [[0,1,3,4,2,6,5],[0,1,3,4,5,2,6]] [7] Qek Qlg Qf (by kernel_rfl) (by kernel_rfl) (by kernel_rfl) (by kernel_rfl) (by kernel_rfl)
  (λ f' ds' U'=>ds'=[]/\∃wb lb,Qig f' [(1,.pointer (some ⟨B,0,none⟩)),(3,.slice ra h.rl rc),(4,.slice ca h.cl cc),(6,.slice (some ⟨wb,0,none⟩) h.rl h.rl),(46,.slice (some ⟨lb,0,none⟩) h.rl h.rl)]/\U2.frz.lg U'/\U'.M=.obj wb (.cells (flC Z).toArray 4 (0,0))::.obj lb (.cells (flC Z).toArray 4 (0,0))::U.M) ?_ ?_
 ·intro l hl;simp only [Qek,List.mem_cons,List.not_mem_nil,or_false] at hl;rcases hl with rfl | rfl
  ·refine⟨λ v U'=>∃wb,v=.slice (some ⟨wb,0,none⟩) h.rl h.rl/\U2.frz.lg U'/\U'.M=.obj wb (.cells (flC Z).toArray 4 (0,0))::U.M,λ v U1 U2 ⟨wb,e,hl,hM⟩ hle=>⟨wb,e,hl.trans hle.lg,hle.own.trans hM⟩,λ v U' ⟨wb,e,hl,hM⟩=>hl,λ U' hC=>?_,λ v hv=>?_⟩
   ·conv=>whnf
    refine Qlj (n:=h.rl) Qdc i4a i4b rfl i4c i4d rfl rfl (by omega) λ wb hwb=>?_;refine⟨_,.refl _,wb,rfl,⟨λ x o hx=>hC.imm x o hx,⟨_,(List.append_nil _).symm⟩,hC.tok⟩,?_⟩;show _::U'.M=_;rw [hC.own,hM2,hZ]
   obtain⟨_,wb,rfl,-⟩:=hv;refine⟨λ v U'=>∃lb,v=.slice (some ⟨lb,0,none⟩) h.rl h.rl/\U2.frz.lg U'/\U'.M=.obj wb (.cells (flC Z).toArray 4 (0,0))::.obj lb (.cells (flC Z).toArray 4 (0,0))::U.M,λ v U1 U2 ⟨lb,e,hl,hM⟩ hle=>⟨lb,e,hl.trans hle.lg,hle.own.trans hM⟩,λ v U' ⟨lb,e,hl,hM⟩=>hl,λ U' hC=>?_,λ v hv=>?_⟩
   ·obtain⟨wb',e,hl',hM'⟩:=hC;obtain rfl:wb=wb':=by simpa using e
    conv=>whnf
    refine Qlj (n:=h.rl) Qdc i4a i4b rfl i4c i4d rfl rfl (by omega) λ lb hlb=>?_;refine⟨_,W7 (M':=.obj wb (.cells (flC Z).toArray 4 (0,0))::.obj lb (.cells (flC Z).toArray 4 (0,0))::U.M) ?_,lb,rfl,⟨λ x o hx=>hl'.imm x o hx,⟨_,(List.append_nil _).symm⟩,hl'.tok⟩,rfl⟩;show (_::U'.M).Perm _;rw [hM',hZ];exact List.Perm.swap _ _ _
   obtain⟨_,lb,rfl,-⟩:=hv
   conv=>whnf
   rintro U' ⟨lb',e,hl',hM'⟩;obtain rfl:lb=lb':=by simpa using e
   exact⟨rfl,wb,lb,⟨rfl,rfl,rfl,rfl,rfl,trivial⟩,hl',hM'⟩
  ·refine⟨λ v U'=>∃wb,v=.slice (some ⟨wb,0,none⟩) h.rl h.rl/\U2.frz.lg U'/\U'.M=.obj wb (.cells (flC Z).toArray 4 (0,0))::U.M,λ v U1 U2 ⟨wb,e,hl,hM⟩ hle=>⟨wb,e,hl.trans hle.lg,hle.own.trans hM⟩,λ v U' ⟨wb,e,hl,hM⟩=>hl,λ U' hC=>?_,λ v hv=>?_⟩
   ·conv=>whnf
    refine Qlj (n:=h.rl) Qdc i4a i4b rfl i4c i4d rfl rfl (by omega) λ wb hwb=>?_;refine⟨_,.refl _,wb,rfl,⟨λ x o hx=>hC.imm x o hx,⟨_,(List.append_nil _).symm⟩,hC.tok⟩,?_⟩;show _::U'.M=_;rw [hC.own,hM2,hZ]
   obtain⟨_,lb,rfl,-⟩:=hv;refine⟨λ v U'=>∃wb,v=.slice (some ⟨wb,0,none⟩) h.rl h.rl/\U2.frz.lg U'/\U'.M=.obj wb (.cells (flC Z).toArray 4 (0,0))::.obj lb (.cells (flC Z).toArray 4 (0,0))::U.M,λ v U1 U2 ⟨lb,e,hl,hM⟩ hle=>⟨lb,e,hl.trans hle.lg,hle.own.trans hM⟩,λ v U' ⟨lb,e,hl,hM⟩=>hl,λ U' hC=>?_,λ v hv=>?_⟩
   ·obtain⟨wb',e,hl',hM'⟩:=hC;obtain rfl:lb=wb':=by simpa using e
    conv=>whnf
    refine Qlj (n:=h.rl) Qdc i4a i4b rfl i4c i4d rfl rfl (by omega) λ wb hlb=>?_;refine⟨_,.refl _,wb,rfl,⟨λ x o hx=>hl'.imm x o hx,⟨_,(List.append_nil _).symm⟩,hl'.tok⟩,?_⟩;show _::U'.M=_;rw [hM',hZ]
   obtain⟨_,wb,rfl,-⟩:=hv
   conv=>whnf
   rintro U' ⟨wb',e,hl',hM'⟩;obtain rfl:wb=wb':=by simpa using e
   exact⟨rfl,wb,lb,⟨rfl,rfl,rfl,rfl,rfl,trivial⟩,hl',hM'⟩
 rintro f' ds' U3 ⟨rfl,wb,lb,hfr,hlg3,hM3⟩;rw [<- hfr.ovr];clear hfr
 conv=>whnf
 intro a' hf';refine⟨by rw [hf'.size,hfr0.size],_,hf'.get,?_⟩;rw [hf'.ds];clear hf' hfr0
 let p1:Nat->Bool:=λ i=>b.fatC i == 1
 let p2:Nat->Bool:=λ i=>b.fatC i != 2
 let ag:Nat->Nat:=λ i=>(b.cas i).ag.toNat
 have hA0:∀p,flC Z=flC (Qae h.rl 0 p ag):=λ p=>by rw [Qpj]
 refine⟨Nat,λ i=>[(1,.pointer (some ⟨B,0,none⟩)),(3,.slice ra h.rl rc),(4,.slice ca h.cl cc),(6,.slice (some ⟨wb,0,none⟩) h.rl h.rl),(7,.slice (some ⟨lb,0,none⟩) h.rl h.rl),(8,.int .i64 i)],
  λ i U'=>U2.frz.lg U'/\i<=h.cl/\U'.M=.obj wb (.cells (flC (Qae h.rl i p1 ag)).toArray 4 (0,0))::.obj lb (.cells (flC (Qae h.rl i p2 ag)).toArray 4 (0,0))::U.M,λ i=>h.cl-i,0,⟨rfl,rfl,rfl,rfl,rfl,rfl,trivial⟩,⟨hlg3,by omega,by rw [hM3,<- hA0,<- hA0]⟩,?_⟩
 rintro i f U4 ⟨hl,hi,hMM⟩;have hin:Zu ((i:Int)+1):=by unfold Zu;omega
 repeat refine⟨rfl,?_⟩
 conv=>whnf
 apply Qe<;>intro hc
 ·have hlt:i<h.cl:=by simpa using hc
  have hB4:Zi U4 B _:=hB2.imI hl.imm;have hend4:U.lg U4:=⟨λ x o hx=>hl.imm x o (hend2.imm x o hx),⟨[_,_],hMM⟩,hl.tok.trans hend2.tok⟩;obtain⟨ad,c,ga,gl,gc,aa,al,ac,hx,hea,hspa,hrd,hg,hgl,ha,hal,hmem⟩:=hb2.case hlt;have hcas:b.cas i=c:=by simp [Bk.cas,List.getD_eq_getElem?_getD,hx]
  have hag0:=hok.ag c hmem;have hagi:c.ag=((ag i:Nat):Int):=by show _=(((b.cas i).ag.toNat:Nat):Int);rw [hcas];omega
  have hagr:ag i<h.rl:=by unfold Bk.nr at hag0;omega
  obtain⟨adC,xC,hxC,hCa,hCs,hsC⟩:=hC.at hlt;obtain rfl:b.fatC i=xC:=Option.some.inj ((hatC i hlt).symm.trans hxC);have hsCf:=hsC;have hsC:U4.sees (adC.add (i*1)) (.int .i64 (b.fatC i)):=hsC.lg hl;have hgl2:c.gs.length=gl:=hg.1;refine⟨_,hB4.sees3 (o:=1) rfl,?_⟩;refine⟨ad,i,⟨hea,rfl,hlt⟩,?_⟩;refine⟨_,⟨rfl,hrd.lg hl⟩,?_⟩
  conv=>whnf
  intro b9 hf9;refine⟨_,.refl _,?_⟩;refine⟨rfl,Zt (vs:=[.string c.nm,.int .i64 c.ag,.slice ga gl gc,.slice aa al ac]) hf9 rfl (by simp [Value.single]) λ U5 h5 hb9=>?_⟩;have hg5:=(hg.lg hl.frz2).lg h5.lg.frz2
  refine⟨Nat×Bool,λ y=>[(1,.pointer (some ⟨B,0,none⟩)),(3,.slice ra h.rl rc),(4,.slice ca h.cl cc),(6,.slice (some ⟨wb,0,none⟩) h.rl h.rl),(7,.slice (some ⟨lb,0,none⟩) h.rl h.rl),(8,.int .i64 i),(9,.pointer (some ⟨b9,0,none⟩)),(10,.bool y.2),(11,.int .i64 y.1)],
   λ y U'=>U5.le U'/\y.1<=gl/\(c.gs.take y.1).any (·.isEmpty)=y.2,λ y=>gl-y.1,(0,false),⟨rfl,rfl,rfl,rfl,rfl,rfl,rfl,rfl,rfl,trivial⟩,⟨.refl _,by simp,rfl⟩,?_⟩
  rintro⟨j,s⟩ f U6 ⟨h6,hj,hs⟩;simp only at hj hs;have hinj:Zu ((j:Int)+1):=by unfold Zu;omega
  have hb9:=hb9.lg h6.lg;have hg6:=hg5.lg h6.lg.frz2;refine⟨_,hb9.sees3 (o:=2) rfl,?_⟩
  repeat refine⟨rfl,?_⟩
  conv=>whnf
  apply Qe<;>intro hc
  ·have hltj:j<gl:=by simpa using hc
   obtain⟨ad2,g2,ga2,gl2,gc2,hg2,hea2,hsp2,hs2,hin2,hgl2',hgm⟩:=(J3.lg hg6 Qp).at hltj;have hg2l:=hin2.1;have hnext:(c.gs.take (j+1)).any (·.isEmpty)=((c.gs.take j).any (·.isEmpty) || g2.isEmpty):=by rw [Ji hg2,List.any_append];simp
   rw [hs] at hnext;cases s with
   | true=>
    refine⟨hinj,?_⟩
    conv=>whnf
    exact⟨rfl,(j+1,true),⟨rfl,rfl,rfl,rfl,rfl,rfl,rfl,rfl,rfl,trivial⟩,⟨h6,by show j+1<=gl;omega,by rw [hnext];rfl⟩,by show _-_<_-_;omega⟩
   | false=>
    refine⟨_,hb9.sees3 (o:=2) rfl,?_⟩;refine⟨ad2,j,⟨hea2,rfl,hltj⟩,?_⟩;refine⟨_,hs2,?_⟩
    repeat refine⟨rfl,?_⟩
    refine⟨hinj,?_⟩;refine⟨rfl,(j+1,((gl2:Int) == 0)),⟨rfl,rfl,rfl,rfl,rfl,rfl,rfl,rfl,rfl,trivial⟩,⟨h6,by show j+1<=gl;omega,?_⟩,by show _-_<_-_;omega⟩;rw [hnext,<- hg2l,Bool.false_or];cases g2 <;> rfl
  have hge:j=gl:=by simp at hc;omega
  rw [List.take_of_length_le (by omega)] at hs
  have hsure:c.gs.any (·.isEmpty)=true->b.fatC i=1:=λ h=>by
   refine b.sure_wins hok (by omega) ?_;rw [hcas];obtain⟨g,hgm,hge⟩:=List.any_eq_true.1 h;have:g=[]:=by simpa using hge
   exact this ▸ hgm
  have hnone:gl=0->b.fatC i=2:=λ h=>by
   refine b.none_wins hok (by omega) ?_;rw [hcas];exact List.length_eq_zero_iff.1 (by omega)
  have h46:U4.lg U6:=h5.lg.trans h6.lg;have hMM:U6.M=_:=(h6.own.trans h5.own).trans hMM;have hlg6:U2.frz.lg U6:=hl.trans h46;have hM6:U6.M=.obj wb (.cells (flC (Qae h.rl i p1 ag)).toArray 4 (0,0))::.obj lb (.cells (flC (Qae h.rl i p2 ag)).toArray 4 (0,0))::U.M:=hMM;have hsC6:U6.sees (adC.add (i*1)) (.int .i64 (b.fatC i)):=hsC.lg h46;have hw7:U6.sees ((Addr.mk wb 0 none).add (ag i*1)) (.bool ((Qae h.rl i p1 ag).getD (ag i) false)):=by rw [Nat.mul_one];exact Za [] hM6 (ag i) _ (Qdg (by rw [Qaq];exact hagr))
  have hzs:∀p,ag i*1<(flC (Qae h.rl i p ag)).toArray.size:=λ p=>by rw [Nat.mul_one];simpa [flC,Qae] using hagr
  generalize ho1:(Qae h.rl i p1 ag).getD (ag i) false=o1 at hw7;generalize ho2:(Qae h.rl i p2 ag).getD (ag i) false=o2
  have S8:∀(x1 x2:Qa Tk) (v:Bool),U6.le x1->x2.I=x1.I->x2.tok=x1.tok->v=(o1 || p1 i)->x2.M=[]++.obj wb (.cells ((flC (Qae h.rl i p1 ag)).toArray.setIfInBounds (ag i*1) (.bool v)) 4 (0,0))::.obj lb (.cells (flC (Qae h.rl i p2 ag)).toArray 4 (0,0))::U.M ->
    Zi x2 b9 #[.string c.nm,.int .i64 c.ag,.slice ga gl gc,.slice aa al ac]/\U2.frz.lg x2/\x2.sees (adC.add (i*1)) (.int .i64 (b.fatC i))/\x2.M=[.obj wb (.cells (flC (Qae h.rl (i+1) p1 ag)).toArray 4 (0,0))]++.obj lb (.cells (flC (Qae h.rl i p2 ag)).toArray 4 (0,0))::U.M/\x2.sees ((Addr.mk lb 0 none).add (ag i*1)) (.bool o2):=by
   intro x1 x2 v k1 k2 k3 hv k4;rw [Nat.mul_one,Qpf hagr (by rw [ho1];exact hv)] at k4;have hlg:U2.frz.lg x2:=⟨λ x o hx=>by rw [k2];exact k1.imm x o (hlg6.imm x o hx),⟨_,(List.append_nil _).symm⟩,by rw [k3];exact k1.tok.trans hlg6.tok⟩;refine⟨hb9.imI λ x o hx=>by rw [k2];exact k1.imm x o hx,hlg,hsCf.lg hlg,k4,?_⟩;rw [Nat.mul_one,<- ho2];exact Za [_] k4 (ag i) _ (Qdg (by rw [Qaq];exact hagr))
  have S9:∀(x2 x3 x4:Qa Tk) (v:Bool),U2.frz.lg x2->x2.le x3->x4.I=x3.I->x4.tok=x3.tok->v=(o2 || p2 i)->x4.M=[.obj wb (.cells (flC (Qae h.rl (i+1) p1 ag)).toArray 4 (0,0))]++.obj lb (.cells ((flC (Qae h.rl i p2 ag)).toArray.setIfInBounds (ag i*1) (.bool v)) 4 (0,0))::U.M ->
    U2.frz.lg x4/\x4.M=.obj wb (.cells (flC (Qae h.rl (i+1) p1 ag)).toArray 4 (0,0))::.obj lb (.cells (flC (Qae h.rl (i+1) p2 ag)).toArray 4 (0,0))::U.M:=by
   intro x2 x3 x4 v hl2 k5 k6 k7 hv k8;rw [Nat.mul_one,Qpf hagr (by rw [ho2];exact hv)] at k8;exact⟨⟨λ x o hx=>by rw [k6];exact k5.imm x o (hl2.imm x o hx),⟨_,(List.append_nil _).symm⟩,by rw [k7];exact k5.tok.trans hl2.tok⟩,k8⟩
  cases s with
  | true=>
   have hc1:=hsure hs;have hsC1:U6.sees (adC.add (i*1)) (.int .i64 1):=by have:=hsC.lg h46;rw [hc1] at this;exact this
   refine⟨adC,i,⟨hCa,rfl,hlt⟩,?_⟩;refine⟨_,hsC1,?_⟩
   repeat refine⟨rfl,?_⟩
   refine⟨_,hb9.sees3 (o:=2) rfl,?_⟩
   repeat refine⟨rfl,?_⟩
   conv=>whnf
   apply Zr<;>intro hc
   ·have h0:gl=0:=by have hc':((gl:Int) == 0)=true:=hc;have:=eq_of_beq hc';omega
    have h2:=hnone h0;rw [hc1] at h2;cases h2
   ·have h67:=h46;have hlw:=h46
    repeat refine⟨rfl,?_⟩
    refine⟨_,hb9.sees3 (o:=1) rfl,?_⟩;refine⟨_,hb9.sees3 (o:=1) rfl,?_⟩;refine⟨_,ag i,⟨rfl,hagi,hagr⟩,?_⟩;refine⟨_,hw7,?_⟩;cases o1 with
    | false=>
     refine⟨adC,i,⟨hCa,rfl,hlt⟩,?_⟩;refine⟨_,hsC6,?_⟩
     repeat refine⟨rfl,?_⟩
     conv=>whnf
     intro x1 k1 _;refine⟨_,ag i,⟨rfl,hagi,hagr⟩,?_⟩;refine⟨rfl,Zpc (L₁:=[]) (by rw [k1.own,hM6];exact List.Perm.refl _) (hzs p1) rfl λ x2 k2 k3 k4=>?_⟩;obtain⟨hb9₈,hlg8,hsC8,hM8,hw8⟩:=S8 x1 x2 (b.fatC i == 1) k1 k2 k3 rfl k4;clear k4;refine⟨_,hb9₈.sees3 (o:=1) rfl,?_⟩;refine⟨_,hb9₈.sees3 (o:=1) rfl,?_⟩;refine⟨_,ag i,⟨rfl,hagi,hagr⟩,?_⟩;refine⟨_,hw8,?_⟩;cases o2 with
     | false=>
      refine⟨adC,i,⟨hCa,rfl,hlt⟩,?_⟩;refine⟨_,hsC8,?_⟩
      repeat refine⟨rfl,?_⟩
      conv=>whnf
      intro x3 k5 _;refine⟨_,ag i,⟨rfl,hagi,hagr⟩,?_⟩;refine⟨rfl,Zpc (L₁:=[_]) (by rw [k5.own,hM8];first | done | exact List.Perm.refl _) (hzs p2) rfl λ x4 k6 k7 k8=>?_⟩;have hz:=S9 x2 x3 x4 (b.fatC i != 2) hlg8 k5 k6 k7 rfl k8
      repeat refine⟨rfl,?_⟩
      refine⟨hin,?_⟩
      conv=>whnf
      exact⟨rfl,i+1,⟨rfl,rfl,rfl,rfl,rfl,rfl,trivial⟩,⟨hz.1,by omega,hz.2⟩,by show _-_<_-_;omega⟩
     | true=>
      conv=>whnf
      intro x3 k5 _;refine⟨_,ag i,⟨rfl,hagi,hagr⟩,?_⟩;refine⟨rfl,Zpc (L₁:=[_]) (by rw [k5.own,hM8];first | done | exact List.Perm.refl _) (hzs p2) rfl λ x4 k6 k7 k8=>?_⟩;have hz:=S9 x2 x3 x4 true hlg8 k5 k6 k7 rfl k8
      repeat refine⟨rfl,?_⟩
      refine⟨hin,?_⟩
      conv=>whnf
      exact⟨rfl,i+1,⟨rfl,rfl,rfl,rfl,rfl,rfl,trivial⟩,⟨hz.1,by omega,hz.2⟩,by show _-_<_-_;omega⟩
    | true=>
     conv=>whnf
     intro x1 k1 _;refine⟨_,ag i,⟨rfl,hagi,hagr⟩,?_⟩;refine⟨rfl,Zpc (L₁:=[]) (by rw [k1.own,hM6];exact List.Perm.refl _) (hzs p1) rfl λ x2 k2 k3 k4=>?_⟩;obtain⟨hb9₈,hlg8,hsC8,hM8,hw8⟩:=S8 x1 x2 true k1 k2 k3 rfl k4;clear k4;refine⟨_,hb9₈.sees3 (o:=1) rfl,?_⟩;refine⟨_,hb9₈.sees3 (o:=1) rfl,?_⟩;refine⟨_,ag i,⟨rfl,hagi,hagr⟩,?_⟩;refine⟨_,hw8,?_⟩;cases o2 with
     | false=>
      refine⟨adC,i,⟨hCa,rfl,hlt⟩,?_⟩;refine⟨_,hsC8,?_⟩
      repeat refine⟨rfl,?_⟩
      conv=>whnf
      intro x3 k5 _;refine⟨_,ag i,⟨rfl,hagi,hagr⟩,?_⟩;refine⟨rfl,Zpc (L₁:=[_]) (by rw [k5.own,hM8];first | done | exact List.Perm.refl _) (hzs p2) rfl λ x4 k6 k7 k8=>?_⟩;have hz:=S9 x2 x3 x4 (b.fatC i != 2) hlg8 k5 k6 k7 rfl k8
      repeat refine⟨rfl,?_⟩
      refine⟨hin,?_⟩
      conv=>whnf
      exact⟨rfl,i+1,⟨rfl,rfl,rfl,rfl,rfl,rfl,trivial⟩,⟨hz.1,by omega,hz.2⟩,by show _-_<_-_;omega⟩
     | true=>
      conv=>whnf
      intro x3 k5 _;refine⟨_,ag i,⟨rfl,hagi,hagr⟩,?_⟩;refine⟨rfl,Zpc (L₁:=[_]) (by rw [k5.own,hM8];first | done | exact List.Perm.refl _) (hzs p2) rfl λ x4 k6 k7 k8=>?_⟩;have hz:=S9 x2 x3 x4 true hlg8 k5 k6 k7 rfl k8
      repeat refine⟨rfl,?_⟩
      refine⟨hin,?_⟩
      conv=>whnf
      exact⟨rfl,i+1,⟨rfl,rfl,rfl,rfl,rfl,rfl,trivial⟩,⟨hz.1,by omega,hz.2⟩,by show _-_<_-_;omega⟩
  | false=>
   refine⟨_,hb9.sees3 (o:=2) rfl,?_⟩
   repeat refine⟨rfl,?_⟩
   conv=>whnf
   apply Zr<;>intro hc
   ·have h0:gl=0:=by have hc':((gl:Int) == 0)=true:=hc;have:=eq_of_beq hc';omega
    have h2:=hnone h0;have hsC1:U6.sees (adC.add (i*1)) (.int .i64 2):=by have:=hsC.lg h46;rw [h2] at this;exact this
    refine⟨adC,i,⟨hCa,rfl,hlt⟩,?_⟩;refine⟨_,hsC1,?_⟩
    repeat refine⟨rfl,?_⟩
    refine⟨_,hb9.sees3 (o:=1) rfl,?_⟩;refine⟨_,hb9.sees3 (o:=1) rfl,?_⟩;refine⟨_,ag i,⟨rfl,hagi,hagr⟩,?_⟩;refine⟨_,hw7,?_⟩;cases o1 with
    | false=>
     refine⟨adC,i,⟨hCa,rfl,hlt⟩,?_⟩;refine⟨_,hsC6,?_⟩
     repeat refine⟨rfl,?_⟩
     conv=>whnf
     intro x1 k1 _;refine⟨_,ag i,⟨rfl,hagi,hagr⟩,?_⟩;refine⟨rfl,Zpc (L₁:=[]) (by rw [k1.own,hM6];exact List.Perm.refl _) (hzs p1) rfl λ x2 k2 k3 k4=>?_⟩;obtain⟨hb9₈,hlg8,hsC8,hM8,hw8⟩:=S8 x1 x2 (b.fatC i == 1) k1 k2 k3 rfl k4;clear k4;refine⟨_,hb9₈.sees3 (o:=1) rfl,?_⟩;refine⟨_,hb9₈.sees3 (o:=1) rfl,?_⟩;refine⟨_,ag i,⟨rfl,hagi,hagr⟩,?_⟩;refine⟨_,hw8,?_⟩;cases o2 with
     | false=>
      refine⟨adC,i,⟨hCa,rfl,hlt⟩,?_⟩;refine⟨_,hsC8,?_⟩
      repeat refine⟨rfl,?_⟩
      conv=>whnf
      intro x3 k5 _;refine⟨_,ag i,⟨rfl,hagi,hagr⟩,?_⟩;refine⟨rfl,Zpc (L₁:=[_]) (by rw [k5.own,hM8];first | done | exact List.Perm.refl _) (hzs p2) rfl λ x4 k6 k7 k8=>?_⟩;have hz:=S9 x2 x3 x4 (b.fatC i != 2) hlg8 k5 k6 k7 rfl k8
      repeat refine⟨rfl,?_⟩
      refine⟨hin,?_⟩
      conv=>whnf
      exact⟨rfl,i+1,⟨rfl,rfl,rfl,rfl,rfl,rfl,trivial⟩,⟨hz.1,by omega,hz.2⟩,by show _-_<_-_;omega⟩
     | true=>
      conv=>whnf
      intro x3 k5 _;refine⟨_,ag i,⟨rfl,hagi,hagr⟩,?_⟩;refine⟨rfl,Zpc (L₁:=[_]) (by rw [k5.own,hM8];first | done | exact List.Perm.refl _) (hzs p2) rfl λ x4 k6 k7 k8=>?_⟩;have hz:=S9 x2 x3 x4 true hlg8 k5 k6 k7 rfl k8
      repeat refine⟨rfl,?_⟩
      refine⟨hin,?_⟩
      conv=>whnf
      exact⟨rfl,i+1,⟨rfl,rfl,rfl,rfl,rfl,rfl,trivial⟩,⟨hz.1,by omega,hz.2⟩,by show _-_<_-_;omega⟩
    | true=>
     conv=>whnf
     intro x1 k1 _;refine⟨_,ag i,⟨rfl,hagi,hagr⟩,?_⟩;refine⟨rfl,Zpc (L₁:=[]) (by rw [k1.own,hM6];exact List.Perm.refl _) (hzs p1) rfl λ x2 k2 k3 k4=>?_⟩;obtain⟨hb9₈,hlg8,hsC8,hM8,hw8⟩:=S8 x1 x2 true k1 k2 k3 rfl k4;clear k4;refine⟨_,hb9₈.sees3 (o:=1) rfl,?_⟩;refine⟨_,hb9₈.sees3 (o:=1) rfl,?_⟩;refine⟨_,ag i,⟨rfl,hagi,hagr⟩,?_⟩;refine⟨_,hw8,?_⟩;cases o2 with
     | false=>
      refine⟨adC,i,⟨hCa,rfl,hlt⟩,?_⟩;refine⟨_,hsC8,?_⟩
      repeat refine⟨rfl,?_⟩
      conv=>whnf
      intro x3 k5 _;refine⟨_,ag i,⟨rfl,hagi,hagr⟩,?_⟩;refine⟨rfl,Zpc (L₁:=[_]) (by rw [k5.own,hM8];first | done | exact List.Perm.refl _) (hzs p2) rfl λ x4 k6 k7 k8=>?_⟩;have hz:=S9 x2 x3 x4 (b.fatC i != 2) hlg8 k5 k6 k7 rfl k8
      repeat refine⟨rfl,?_⟩
      refine⟨hin,?_⟩
      conv=>whnf
      exact⟨rfl,i+1,⟨rfl,rfl,rfl,rfl,rfl,rfl,trivial⟩,⟨hz.1,by omega,hz.2⟩,by show _-_<_-_;omega⟩
     | true=>
      conv=>whnf
      intro x3 k5 _;refine⟨_,ag i,⟨rfl,hagi,hagr⟩,?_⟩;refine⟨rfl,Zpc (L₁:=[_]) (by rw [k5.own,hM8];first | done | exact List.Perm.refl _) (hzs p2) rfl λ x4 k6 k7 k8=>?_⟩;have hz:=S9 x2 x3 x4 true hlg8 k5 k6 k7 rfl k8
      repeat refine⟨rfl,?_⟩
      refine⟨hin,?_⟩
      conv=>whnf
      exact⟨rfl,i+1,⟨rfl,rfl,rfl,rfl,rfl,rfl,trivial⟩,⟨hz.1,by omega,hz.2⟩,by show _-_<_-_;omega⟩
   ·repeat refine⟨rfl,?_⟩
    refine⟨_,hb9.sees3 (o:=1) rfl,?_⟩;refine⟨_,hb9.sees3 (o:=1) rfl,?_⟩;refine⟨_,ag i,⟨rfl,hagi,hagr⟩,?_⟩;refine⟨_,hw7,?_⟩;cases o1 with
    | false=>
     refine⟨adC,i,⟨hCa,rfl,hlt⟩,?_⟩;refine⟨_,hsC6,?_⟩
     repeat refine⟨rfl,?_⟩
     conv=>whnf
     intro x1 k1 _;refine⟨_,ag i,⟨rfl,hagi,hagr⟩,?_⟩;refine⟨rfl,Zpc (L₁:=[]) (by rw [k1.own,hM6];exact List.Perm.refl _) (hzs p1) rfl λ x2 k2 k3 k4=>?_⟩;obtain⟨hb9₈,hlg8,hsC8,hM8,hw8⟩:=S8 x1 x2 (b.fatC i == 1) k1 k2 k3 rfl k4;clear k4;refine⟨_,hb9₈.sees3 (o:=1) rfl,?_⟩;refine⟨_,hb9₈.sees3 (o:=1) rfl,?_⟩;refine⟨_,ag i,⟨rfl,hagi,hagr⟩,?_⟩;refine⟨_,hw8,?_⟩;cases o2 with
     | false=>
      refine⟨adC,i,⟨hCa,rfl,hlt⟩,?_⟩;refine⟨_,hsC8,?_⟩
      repeat refine⟨rfl,?_⟩
      conv=>whnf
      intro x3 k5 _;refine⟨_,ag i,⟨rfl,hagi,hagr⟩,?_⟩;refine⟨rfl,Zpc (L₁:=[_]) (by rw [k5.own,hM8];first | done | exact List.Perm.refl _) (hzs p2) rfl λ x4 k6 k7 k8=>?_⟩;have hz:=S9 x2 x3 x4 (b.fatC i != 2) hlg8 k5 k6 k7 rfl k8
      repeat refine⟨rfl,?_⟩
      refine⟨hin,?_⟩
      conv=>whnf
      exact⟨rfl,i+1,⟨rfl,rfl,rfl,rfl,rfl,rfl,trivial⟩,⟨hz.1,by omega,hz.2⟩,by show _-_<_-_;omega⟩
     | true=>
      conv=>whnf
      intro x3 k5 _;refine⟨_,ag i,⟨rfl,hagi,hagr⟩,?_⟩;refine⟨rfl,Zpc (L₁:=[_]) (by rw [k5.own,hM8];first | done | exact List.Perm.refl _) (hzs p2) rfl λ x4 k6 k7 k8=>?_⟩;have hz:=S9 x2 x3 x4 true hlg8 k5 k6 k7 rfl k8
      repeat refine⟨rfl,?_⟩
      refine⟨hin,?_⟩
      conv=>whnf
      exact⟨rfl,i+1,⟨rfl,rfl,rfl,rfl,rfl,rfl,trivial⟩,⟨hz.1,by omega,hz.2⟩,by show _-_<_-_;omega⟩
    | true=>
     conv=>whnf
     intro x1 k1 _;refine⟨_,ag i,⟨rfl,hagi,hagr⟩,?_⟩;refine⟨rfl,Zpc (L₁:=[]) (by rw [k1.own,hM6];exact List.Perm.refl _) (hzs p1) rfl λ x2 k2 k3 k4=>?_⟩;obtain⟨hb9₈,hlg8,hsC8,hM8,hw8⟩:=S8 x1 x2 true k1 k2 k3 rfl k4;clear k4;refine⟨_,hb9₈.sees3 (o:=1) rfl,?_⟩;refine⟨_,hb9₈.sees3 (o:=1) rfl,?_⟩;refine⟨_,ag i,⟨rfl,hagi,hagr⟩,?_⟩;refine⟨_,hw8,?_⟩;cases o2 with
     | false=>
      refine⟨adC,i,⟨hCa,rfl,hlt⟩,?_⟩;refine⟨_,hsC8,?_⟩
      repeat refine⟨rfl,?_⟩
      conv=>whnf
      intro x3 k5 _;refine⟨_,ag i,⟨rfl,hagi,hagr⟩,?_⟩;refine⟨rfl,Zpc (L₁:=[_]) (by rw [k5.own,hM8];first | done | exact List.Perm.refl _) (hzs p2) rfl λ x4 k6 k7 k8=>?_⟩;have hz:=S9 x2 x3 x4 (b.fatC i != 2) hlg8 k5 k6 k7 rfl k8
      repeat refine⟨rfl,?_⟩
      refine⟨hin,?_⟩
      conv=>whnf
      exact⟨rfl,i+1,⟨rfl,rfl,rfl,rfl,rfl,rfl,trivial⟩,⟨hz.1,by omega,hz.2⟩,by show _-_<_-_;omega⟩
     | true=>
      conv=>whnf
      intro x3 k5 _;refine⟨_,ag i,⟨rfl,hagi,hagr⟩,?_⟩;refine⟨rfl,Zpc (L₁:=[_]) (by rw [k5.own,hM8];first | done | exact List.Perm.refl _) (hzs p2) rfl λ x4 k6 k7 k8=>?_⟩;have hz:=S9 x2 x3 x4 true hlg8 k5 k6 k7 rfl k8
      repeat refine⟨rfl,?_⟩
      refine⟨hin,?_⟩
      conv=>whnf
      exact⟨rfl,i+1,⟨rfl,rfl,rfl,rfl,rfl,rfl,trivial⟩,⟨hz.1,by omega,hz.2⟩,by show _-_<_-_;omega⟩
 have hge:i=h.cl:=by simp at hc;omega
 subst hge
 refine⟨Nat,λ k=>[(3,.slice ra h.rl rc),(6,.slice (some ⟨wb,0,none⟩) h.rl h.rl),(7,.slice (some ⟨lb,0,none⟩) h.rl h.rl),(12,.int .i64 k)],
  λ k U'=>U4.le U'/\k<=h.rl,λ k=>h.rl-k,0,⟨rfl,rfl,rfl,rfl,trivial⟩,⟨.refl _,by omega⟩,?_⟩
 rintro k f U5 ⟨h5,hk'⟩;have hin2:Zu ((k:Int)+1):=by unfold Zu;omega
 have hM5:U5.M=_:=h5.own.trans hMM;have hend5:U.lg U5:=⟨λ x o hx=>h5.imm x o (hl.imm x o (hend2.imm x o hx)),⟨[_,_],hM5⟩,h5.tok.trans (hl.tok.trans hend2.tok)⟩
 repeat refine⟨rfl,?_⟩
 conv=>whnf
 apply Qe<;>intro hc
 ·have hlt:k<h.rl:=by simpa using hc
  obtain⟨adR,xR,hxR,hRa,hRs,hsR⟩:=hR.at hlt;obtain rfl:b.fatR k=xR:=Option.some.inj ((hatR k hlt).symm.trans hxR);have hsR:U5.sees (adR.add (k*1)) (.int .i64 (b.fatR k)):=(hsR.lg hl).lg h5.lg;have hw5:U5.sees ((Addr.mk wb 0 none).add (k*1)) (.bool ((Qae h.rl h.cl p1 ag).getD k false)):=by rw [Nat.mul_one];exact Za [] hM5 k _ (Qdg (by rw [Qaq];exact hlt))
  have hl5:U5.sees ((Addr.mk lb 0 none).add (k*1)) (.bool ((Qae h.rl h.cl p2 ag).getD k false)):=by rw [Nat.mul_one];exact Za [_] hM5 k _ (Qdg (by rw [Qaq];exact hlt))
  rw [Qdh hlt] at hw5 hl5
  have f1:((List.range h.cl).any λ i=>ag i == k && p1 i)=true->b.fatR k=2:=λ h=>by
   obtain⟨i,hi,hx⟩:=List.any_eq_true.1 h;simp only [Bool.and_eq_true,beq_iff_eq,p1] at hx;exact b.won_falls hok (by have:=List.mem_range.1 hi;omega) (by omega) hx.1 hx.2
  have f2:((List.range h.cl).any λ i=>ag i == k && p2 i)=false->b.fatR k=1:=λ h=>by
   refine b.safe_stands hok (by omega) λ i hi ha=>?_;have:=List.any_eq_false.1 h i (List.mem_range.2 (by omega));simp only [Bool.and_eq_true,beq_iff_eq,p2,bne_iff_ne] at this;apply Classical.byContradiction;intro hn;exact this ⟨ha,hn⟩
  have f3:((List.range h.cl).any λ i=>ag i == k && p2 i)=true->b.fatR k≠1:=λ h=>by
   obtain⟨i,hi,hx⟩:=List.any_eq_true.1 h;simp only [Bool.and_eq_true,beq_iff_eq,p2,bne_iff_ne] at hx;exact b.lost_not hok (by have:=List.mem_range.1 hi;omega) (by omega) hx.1 hx.2
  have f4:b.fatR k=0\/b.fatR k=1\/b.fatR k=2:=Qoa _ _;generalize b.fatR k=rr at hsR f1 f2 f3 f4;generalize ((List.range h.cl).any λ i=>ag i == k && p1 i)=ww at hw5 f1;generalize ((List.range h.cl).any λ i=>ag i == k && p2 i)=ll at hl5 f2 f3;refine⟨_,k,⟨rfl,rfl,hlt⟩,?_⟩;refine⟨_,hw5,?_⟩;cases ww with
  | true=>
   have:=f1 rfl;subst this;cases ll with
   | false=>exact absurd (f2 rfl) (by decide)
   | true=>
    refine⟨adR,k,⟨hRa,rfl,hlt⟩,?_⟩;refine⟨_,hsR,?_⟩
    repeat refine⟨rfl,?_⟩
    refine⟨_,k,⟨rfl,rfl,hlt⟩,?_⟩;refine⟨_,hl5,?_⟩;refine⟨_,k,⟨rfl,rfl,hlt⟩,?_⟩;refine⟨_,hl5,?_⟩;refine⟨adR,k,⟨hRa,rfl,hlt⟩,?_⟩;refine⟨_,hsR,?_⟩
    repeat refine⟨rfl,?_⟩
    refine⟨hin2,?_⟩
    conv=>whnf
    exact⟨rfl,k+1,⟨rfl,rfl,rfl,rfl,trivial⟩,⟨h5,by omega⟩,by show _-_<_-_;omega⟩
  | false=>
   cases ll with
   | false=>
    have:=f2 rfl;subst this;refine⟨_,k,⟨rfl,rfl,hlt⟩,?_⟩;refine⟨_,hl5,?_⟩;refine⟨adR,k,⟨hRa,rfl,hlt⟩,?_⟩;refine⟨_,hsR,?_⟩
    repeat refine⟨rfl,?_⟩
    refine⟨_,k,⟨rfl,rfl,hlt⟩,?_⟩;refine⟨_,hl5,?_⟩;refine⟨hin2,?_⟩
    conv=>whnf
    exact⟨rfl,k+1,⟨rfl,rfl,rfl,rfl,trivial⟩,⟨h5,by omega⟩,by show _-_<_-_;omega⟩
   | true=>
    have h1:=f3 rfl;obtain rfl | rfl | rfl:=f4
    ·refine⟨_,k,⟨rfl,rfl,hlt⟩,?_⟩;refine⟨_,hl5,?_⟩;refine⟨_,k,⟨rfl,rfl,hlt⟩,?_⟩;refine⟨_,hl5,?_⟩;refine⟨adR,k,⟨hRa,rfl,hlt⟩,?_⟩;refine⟨_,hsR,?_⟩
     repeat refine⟨rfl,?_⟩
     refine⟨hin2,?_⟩
     conv=>whnf
     exact⟨rfl,k+1,⟨rfl,rfl,rfl,rfl,trivial⟩,⟨h5,by omega⟩,by show _-_<_-_;omega⟩
    ·exact absurd rfl h1
    ·refine⟨_,k,⟨rfl,rfl,hlt⟩,?_⟩;refine⟨_,hl5,?_⟩;refine⟨_,k,⟨rfl,rfl,hlt⟩,?_⟩;refine⟨_,hl5,?_⟩;refine⟨adR,k,⟨hRa,rfl,hlt⟩,?_⟩;refine⟨_,hsR,?_⟩
     repeat refine⟨rfl,?_⟩
     refine⟨hin2,?_⟩
     conv=>whnf
     exact⟨rfl,k+1,⟨rfl,rfl,rfl,rfl,trivial⟩,⟨h5,by omega⟩,by show _-_<_-_;omega⟩
 ·refine⟨Zii.any,(fin _ hend5).go λ _=>?_⟩
  repeat refine⟨rfl,?_⟩
  conv=>whnf
  exact hend5
end Go.Proofs
