/- Lemmas. No conditions. -/
import Derived.Test.YtnpfcnfhfkflhaaGreatDoorC06
set_option linter.all false
set_option maxRecDepth 100000
open List
namespace Go.TM
variable{T:Type}
def Hlr.set{U U':Qa T}{b:Nat}{e:TypeId}{c:Array Value}{vs:List Value}(h:Hlr U b e c U'):Hlr U b e vs.toArray { U' with M:=.obj b (.cells vs.toArray e (0,0))::U.M }:=⟨h.imm,rfl,h.tok,h.new⟩
end Go.TM
namespace Go.Proofs
open Go.TM
attribute [local irreducible] Qb Zl Wt
set_option maxHeartbeats 4000000 in
def Zcx{U:Qa Tk}(a1:U.tok=⟨0,.out,none⟩)(hk:WA U)(h:BH)(b:Bk)(hb:Zq U.frz h b)(ct:DH b)(b2:h.rl<=h.rc)(dg:h.cl<=h.cc)(bits:Nat)(cj:bits<256)(pa:Option Addr)(pl pc:Nat)(p:List Nat)(hp:Q5 U.frz pa pl 1 p λ(n:Nat)vs=>vs=[.int .u16 (n:Int)]/\n<65536)(dl:pl<2^60) :
  J (Zb Tryz.prog 209 6) (QA Tryz.prog λ v U'=>v=.bool true/\U.lg U') true (Rf (Frame.enter Tryz.prog 13 #[h.v,.int .u8 (bits:Int),.slice pa pl pc] .normal) []) U:=by
 refine Zpy (args:=[_,_,_]) (Q:=λ v U'=>v=.bool true/\U.lg U') Zl2 Qf K1 S1 (λ v U' q=>q.2.tok.trans a1) ?_;have ck:=hb.cs.1;have dm:=hb.rs.1;have bj:∀U2:Qa Tk,U.lg U2->Qb (Zb Tryz.prog 209 6) 20 #[] (λ v U'=>v=.bool true/\U'=U2) U2:=λ U2 h=>Zm2 (h.tok.trans a1) (hk.lg h)
 repeat refine⟨rfl,?_⟩
 conv=>whnf
 intro B U1 aj hB;have hB:Zi U1 B #[.slice h.ra h.rl h.rc,.slice h.ca h.cl h.cc]:=hB;have bq:Zi U1.frz B #[.slice h.ra h.rl h.rc,.slice h.ca h.cl h.cc]:=hB;have ag:=hb.lg aj.lg.frz2;have X:∀w:Qa Tk,U1.frz.lg w->Jn w ⟨B,0,none⟩ [.slice h.ra h.rl h.rc,.slice h.ca h.cl h.cc]:=λ w K=>(bq.lg K).rd;refine⟨_,⟨rfl,X _ Qp⟩,kh.any,(Zm1 h b ag ct b2).mono ?_⟩;rintro _ U'⟨⟨g,rfl,hg⟩,a8⟩-;obtain rfl:=a8.symm;cases g with
 |false=>
  refine⟨yL.any,(bj _ aj.lg).go λ _=>?_⟩
  repeat refine⟨rfl,?_⟩
  conv=>whnf
  exact aj.lg
 |true=>
 have hf:b.flaw Qu=0:=hg rfl;have W:=Bk.ok_of hf;have cr:=W.nc;refine⟨_,⟨rfl,X _ Qp⟩,Qzk.any,(Qvo h b ag cr bits).mono ?_⟩;rintro _ U2⟨⟨la,lc,rfl,hL,c4⟩,ak⟩-;have R:=b.partTo_sub bits;have bs:=Bk.part_asc bits b.cs.length;have cz:=b.part_kept bits;have c0:∀i,i<b.cs.length->((Bk.partTo bits b.cs.length).contains (i:Int))=(WR (Bk.partTo bits b.cs.length)).testBit i:=λ i _=>(Qdc Bk.part_nn i).symm;generalize cq:Bk.partTo bits b.cs.length=l at *;have dj:=Bk.sub_len R;have a3:=aj.trans ak;have ci:=ag.lg ak.lg.frz2;have c2:=Bk.sub_rises R;have hF:b.woF l=0:=by unfold Bk.woF;rw[if_pos hf,c2]
 have br:b.woF []=0:=by unfold Bk.woF;rw[if_pos hf];rfl
 refine⟨_,⟨rfl,X _ (SX Qp ak)⟩,Qek.any,(Qaq h b ci (hk.lg a3.lg) la _ lc l hL O1).mono ?_⟩;rintro _ U3⟨⟨d,rfl,F,c3⟩,ae⟩-;rw[if_pos hF]at F;rw[hF];have de:=a3.trans ae;have cf:=ak.trans ae
 conv=>whnf
 intro b8 cn;refine⟨_,.refl _,rfl,Zt (vs:=[.slice d.ra d.rl d.rc,.slice d.ca d.cl d.cc]) cn rfl (by simp[Value.single]) λ U4 al E=>?_⟩;have E:Zi U4 b8 #[.slice d.ra d.rl d.rc,.slice d.ca d.cl d.cc]:=E;have a5:=cf.trans al;have bo:=a3.trans (ae.trans al);refine⟨_,⟨rfl,X _ (SX Qp a5)⟩,Qek.any,(Qaq h b (ag.lg a5.lg.frz2) (hk.lg bo.lg) none 0 0 [] ⟨rfl,λ i x hx=>by simp at hx⟩ O1).mono ?_⟩;rintro _ U5⟨⟨K,rfl,ap,dn⟩,am⟩-;rw[if_pos br,Bk.wo_none W]at ap;rw[br];have df:=al.trans am;have cg:=a5.trans am;have ce:=bo.trans am
 conv=>whnf
 intro cb bv;refine⟨_,.refl _,rfl,Zt (vs:=[.slice K.ra K.rl K.rc,.slice K.ca K.cl K.cc]) bv rfl (by simp[Value.single]) λ Y an ac=>?_⟩;have ac:Zi Y cb #[.slice K.ra K.rl K.rc,.slice K.ca K.cl K.cc]:=ac;have bp:=am.trans an;have a6:=al.trans bp;have ab:=cg.trans an;have a4:=ce.trans an;have E:=E.le bp;have a9:=ag.lg ab.lg.frz2;have F:=F.lg a6.lg.frz2;have ap:=ap.lg an.lg.frz2;have az:=F.cs.1;have cw:=F.cl;have cm:=hb.cl;rw[Bk.wo_nc]at az;refine⟨rfl,rfl,_,⟨rfl,ac.rd⟩,?_⟩;refine⟨_,⟨rfl,X _ (SX Qp ab)⟩,Qpj.any,(Qcf K h b ap a9).go λ _=>?_⟩;refine⟨_,E.sees3 (o:=1) rfl,_,(hB.le ab).sees3 (o:=1) rfl,I1,?_⟩;have e1:(d.cl:Int)=(h.cl:Int)-(l.length:Int):=O1
 rw[e1];refine⟨rfl,?_⟩;have cd:((h.cl:Int)-(l.length:Int)!=(h.cl:Int)-(l.length:Int))=false:=S1
 rw[cd];refine⟨_,⟨rfl,(E.rd)⟩,?_⟩;refine⟨D6.any,(xZ d _ F c3).go λ _=>?_⟩;rw[Bk.wo_flaw hf]
 repeat refine⟨rfl,?_⟩
 refine⟨_,⟨rfl,X _ (SX Qp ab)⟩,?_⟩
 conv=>whnf
 intro Z bw;refine⟨_,.refl _,?_⟩
 conv=>whnf
 have D:Hlr Y Z 25 #[.slice none 0 0,.slice none 0 0] (Y.put Z (.cells #[.slice none 0 0,.slice none 0 0] 25)):=.made (.refl _) bw;refine⟨rfl,VG (vs:=[.slice h.ra h.rl h.rc,.slice h.ca h.cl h.cc]) [] rfl rfl (by simp[Value.single]) ?_⟩;have D:=D.set (vs:=[.slice h.ra h.rl h.rc,.slice h.ca h.cl h.cc]);refine⟨I1,?_⟩
 refine⟨Nat×BH,λ y=>[(2,.slice pa pl pc),(3,.pointer (some ⟨B,0,none⟩)),(7,.slice la l.length lc),(8,.pointer (some ⟨b8,0,none⟩)),(12,.pointer (some ⟨Z,0,none⟩)),(13,.int .i64 ((y.1:Int)-1))],
  λ y U'=>Hlr Y Z 25 #[.slice y.2.ra y.2.rl y.2.rc,.slice y.2.ca y.2.cl y.2.cc] U'/\Zq U'.frz y.2 (b.wo (WR (l.drop y.1)).testBit)/\y.2.rl<=y.2.rc/\y.1<=l.length,λ y=>y.1,(l.length,h),T1,⟨D,?_,b2,Nat.le_refl _⟩,?_⟩
 .rw[drop_length,Bk.wo_none W];exact a9.lg D.frz2
 rintro⟨j,g⟩f U7⟨D,ao,c1,hj⟩;simp only at D ao c1 hj ⊢
 repeat refine⟨rfl,?_⟩
 conv=>whnf
 apply Qe<;>intro A
 .have hj1:1<=j:=by simp at A;omega
  obtain⟨i,rfl⟩:∃i,j=i+1:=⟨j-1,O1⟩;have ei:((i+1:Nat):Int)-1=(i:Int):=O1
  rw[ei];have bc:i<l.length:=O1
  obtain⟨x,b6,dq⟩:∃x:Nat,l[i]?=some (x:Int)/\True:=by
   have hm:l[i]∈l:=getElem_mem bc;obtain⟨k,-,hk⟩:=mem_map.1 (R.subset hm);exact⟨k,by rw[getElem?_eq_getElem bc,<- hk],trivial⟩
  obtain⟨L,bf⟩:=Bk.leave_step hf R bs b6;obtain⟨ad,x',c8,rfl,b5,hs⟩:=hL.at bc;obtain rfl:(x:Int)=x':=Option.some.inj (b6.symm.trans c8);have e2:(i:Int)+1=((i+1:Nat):Int):=O1
  have T:Zu ((i:Int)+1):=I1
  have u:Y.frz.lg U7.frz:=D.frz2;refine⟨λ U'=>∃t:BH,Hlr Y Z 25 #[.slice t.ra t.rl t.rc,.slice t.ca t.cl t.cc] U'/\Zq U'.frz t (b.wo (WR (l.drop i)).testBit)/\t.rl<=t.rc,λ x1 x2⟨t,S,G,q3⟩r=>⟨t,S.le r,G.lg r.lg.frz2,q3⟩,_,⟨rfl,Za [] D.own⟩,T,i,i+1,⟨rfl,e2,O1,O1⟩,?_⟩;rw[if_neg (show ¬lc=i by omega),show i+1-i=1 by omega];refine⟨λ v U'=>∃t:BH,v=.tuple #[t.v,.int .i64 0]/\Zq U'.frz t (b.wo (WR (l.drop i)).testBit)/\t.rl<=t.rc,λ v x1 x2⟨t,S,G,q3⟩r=>⟨t,S,G.lg r.lg.frz2,q3⟩,λ U' r _=>?_,λ v hv=>?_⟩
  .have hfr8:U2.frz.lg U'.frz:=((ae.trans a6).lg.frz2.trans u).trans r.lg.frz2
   have b0:Z5 U'.frz (some (ad.add (i*1))) 1 [(x:Int)]:=by
    refine⟨rfl,λ k y hy=>⟨_,rfl,?_,?_⟩⟩
    .obtain⟨bb,oo,ss⟩:=ad;cases b5;rw[Qo]
    .cases k with
     |succ k=>simp at hy
     |zero=>
      obtain rfl:(x:Int)=y:=by simpa using hy
      obtain⟨bb,oo,ss⟩:=ad;cases b5;rw[Qo,Qo];rw[Qo]at hs;exact hs.lg hfr8
   refine⟨Qek.any,(Qaq g (b.wo (WR (l.drop (i+1))).testBit) (ao.lg r.lg.frz2) ((show WA Y.frz from(hk.lg a4.lg:WA Y)).lg (D.frz1.trans r.lg)) _ 1 _ [(x:Int)] b0 O1).mono ?_⟩;rintro _ dc⟨⟨t,rfl,S,G⟩,q3⟩-;rw[if_pos L,bf]at S;rw[L];exact⟨_,.refl _,⟨t,rfl,S,G⟩,q3⟩
  obtain⟨_,db,-,t,rfl,-,-⟩:=hv
  conv=>whnf
  rintro U8 ay⟨-,bk,e,S,G⟩;obtain rfl:t=bk:=by cases t;cases bk;simp[BH.v]at e;obtain⟨⟨rfl,rfl,rfl⟩,rfl,rfl,rfl⟩:=e;rfl
  have ba:=D.le ay;refine⟨⟨rfl,VG (vs:=[.slice t.ra t.rl t.rc,.slice t.ca t.cl t.cc]) [] ba.own rfl (by simp[Value.single]) ⟨rfl,_,.refl _,t,ba.set,S.lg ⟨λ _ _ h=>h,⟨[],rfl⟩,rfl⟩,G⟩⟩,?_⟩;clear D ba S G e ay;rintro N⟨bl,D,S,G⟩
  repeat refine⟨rfl,?_⟩
  refine⟨_,⟨rfl,Za [] D.own⟩,D6.any,(xZ bl _ S G).go λ _=>?_⟩;rw[Bk.wo_flaw hf]
  repeat refine⟨rfl,?_⟩
  refine⟨I1,?_⟩
  conv=>whnf
  exact⟨rfl,(i,bl),T1,⟨D,S,G,O1⟩,by show _<_;omega⟩
 have co:j=0:=by simp at A;omega
 subst co;rw[drop_zero]at ao;have u:Y.frz.lg U7.frz:=D.frz2;refine⟨_,⟨rfl,Za [] D.own⟩,_,⟨rfl,((show Zi Y.frz b8 _ from E).lg (D.frz1)).rd⟩,?_⟩;refine⟨Qpj.any,(Qcf g d _ ao (F.lg u)).go λ _=>?_⟩
 conv=>whnf
 obtain⟨w,L⟩:∃w:List Nat,w=b.kept (WR l).testBit:=⟨_,rfl⟩;rw[<- L]at az cz;have bt:=F.lg u
 refine⟨Nat×Value,λ y=>[(2,.slice pa pl pc),(3,.pointer (some ⟨B,0,none⟩)),(7,.slice la l.length lc),(8,.pointer (some ⟨b8,0,none⟩)),(14,y.2),(15,.slice none 0 0),(16,.int .i64 y.1)],
  λ y U'=>U7.frz.lg U'/\y.1<=h.cl/\Acc 3 1 y.2 ((Qae ((range y.1).filter λ i=>!(WR l).testBit i)).map λ n=>.int .i64 n) U'.M U7.M,λ y=>h.cl-y.1,(0,.slice none 0 0),T1,⟨Qp,O1,.nil⟩,?_⟩
 rintro⟨i,v⟩f U8⟨V,hi,C⟩;simp only at hi C;obtain⟨sa,sl,sc,rfl,dp,-⟩:=C.src;have T:Zu ((i:Int)+1):=I1
 have di:((range i).filter λ i=>!(WR l).testBit i).length<=i:=Nat.le_trans (length_filter_le _ _) S1;have ai:range (i+1)=range i++[i]:=range_succ;have ch:=hL.lg (((ae.trans a6).lg.frz2.trans u).trans (show U7.frz.lg U8.frz from⟨V.imm,⟨[],rfl⟩,V.tok⟩));have aq:Zi U8 B #[.slice h.ra h.rl h.rc,.slice h.ca h.cl h.cc]:=(bq.lg ab.lg.frz2).lg (u.trans V);refine⟨_,aq.sees3 (o:=1) rfl,?_⟩
 repeat refine⟨rfl,?_⟩
 conv=>whnf
 apply Qe<;>intro A
 .have hlt:i<h.cl:=by simpa using A
  have cy:=c0 i O1;refine⟨Qdh.any,(Qbj la l.length lc l (ch.lg Qp) O1 (i:Int)).go λ _=>?_⟩;rw[cy]
  repeat refine⟨rfl,?_⟩
  conv=>whnf
  apply Qe<;>intro A
  .have hp0:(!(WR l).testBit i)=true:=A;have e4:([i].filter λ i=>!(WR l).testBit i)=[i]:=by rw[filter_cons];exact if_pos hp0
   conv=>whnf
   intro bn z;refine Zk z λ N h9 z=>?_;have z:Zi N bn #[.int .i64 i]:=z;have bx:=V.trans h9.lg
   conv=>whnf
   refine Ws (v:=.slice sa sl sc) (cs:=(Qae ((range i).filter λ i=>!(WR l).testBit i)).map λ n=>.int .i64 n) (new:=[.int .i64 (i:Int)]) (M₀:=U7.M) Hf rfl rfl (by rw[h9.own];exact C) (.inr ⟨_,rfl,z.rd⟩) rfl (by simp[Value.single]) (by simp[Qae];omega) λ v' M' af _=>?_;obtain⟨ta,tl,tc,rfl,-,-⟩:=Acc.src (U:={ N with M:=M' }) af;refine⟨T,?_⟩
   conv=>whnf
   exact⟨rfl,(i+1,.slice ta tl tc),T1,⟨⟨bx.imm,⟨_,(append_nil _).symm⟩,bx.tok⟩,by show i+1<=h.cl;omega,by show Acc 3 1 _ ((Qae ((range (i+1)).filter _)).map _) _ _;rw[ai,filter_append,e4,Qae,map_append,map_append];exact af⟩,L1⟩
  .have hp0:(!(WR l).testBit i)=false:=A;have e4:([i].filter λ i=>!(WR l).testBit i)=[]:=by rw[filter_cons];exact if_neg (Bool.eq_false_iff.1 hp0)
   refine⟨T,?_⟩
   conv=>whnf
   exact⟨rfl,(i+1,.slice sa sl sc),T1,⟨V,by show i+1<=h.cl;omega,by show Acc 3 1 _ ((Qae ((range (i+1)).filter _)).map _) _ _;rw[ai,filter_append,e4,append_nil];exact C⟩,L1⟩
 have ah:i=b.cs.length:=by simp at A;omega
 have c6:((range i).filter λ i=>!(WR l).testBit i)=w:=by rw[ah,L];rfl
 rw[c6]at C;have hS:Qoa U7 (Qae w) (.slice sa sl sc) U8:=⟨⟨_,_,_,rfl⟩,V,C⟩;refine⟨_,⟨rfl,aq.rd⟩,?_⟩
 refine⟨Qvz.any,(Qoa.give (xs:=λ _=>#[h.v,.slice pa pl pc]) (Q:=λ v U'=>∃ka kc,Value.slice sa sl sc=.slice ka (Qae w).length kc/\Z5 U'.frz ka (Qae w).length (Qae w)/\Jd U'.frz v (Qae (b.pickO p b.cs.length []))/\U7.le U') hS λ N ga aa e r H=>
  (Qp3 h b (a9.lg (u.trans r.lg.frz2)) W pa pl pc p (Q5.lg (R':=λ(n:Nat)vs=>vs=[.int .u16 (n:Int)]/\n<65536) hp ((a4.lg.frz2.trans u).trans r.lg.frz2) λ _ _ h=>h)).mono λ v U'⟨S,G⟩=>⟨ga,aa,e,H.lg G.lg.frz2,S,r.trans G⟩).mono ?_⟩
 rintro _ N⟨ka,kc,e,hK,⟨oa,oc,rfl,hO⟩,h9⟩-;obtain⟨rfl,rfl,rfl⟩:sa=ka/\sl=(Qae w).length/\sc=kc:=by simpa using e
 have ho:=Bk.pick_ord W p;generalize b.pickO p b.cs.length []=o at ho hO ⊢;have dk:o.length=h.cl:=by rw[ho.len,ck]
 have c7:w.length<=5:=O1
 have cv:(Qae w).length=w.length:=length_map ..;have cu:(Qae o).length=o.length:=length_map ..;have au:U7.frz.lg N.frz:=h9.lg.frz2;have bu:=bt.lg au;rw[cv]at hK ⊢;rw[cu]at hO ⊢;have b1:=Bk.restO_ord W (WR l).testBit ho
 refine⟨Nat×Value,λ y=>[(8,.pointer (some ⟨b8,0,none⟩)),(14,.slice sa w.length sc),(15,y.2),(17,.slice oa o.length oc),(18,.int .i64 y.1)],
  λ y U'=>N.frz.lg U'/\y.1<=o.length/\Acc 3 1 y.2 ((Qae (b.restO (WR l).testBit (o.take y.1))).map λ n=>.int .i64 n) U'.M N.M,λ y=>o.length-y.1,(0,.slice none 0 0),T1,⟨Qp,O1,.nil⟩,?_⟩
 rintro⟨i,v⟩f bg⟨O,hi,m⟩;simp only at hi m;have T:Zu ((i:Int)+1):=I1
 have a0:=Bk.restO_le (b:=b) (WR l).testBit (o.take i);rw[<- L,length_take]at a0;have b3:(b.restO (WR l).testBit (o.take i)).length<=25:=Nat.le_trans a0 (Nat.le_trans (Nat.mul_le_mul (show min i o.length<=5 by omega) c7) O1)
 repeat refine⟨rfl,?_⟩
 conv=>whnf
 apply Qe<;>intro A
 .have hlt:i<o.length:=by simpa using A
  obtain⟨a,bz⟩:∃a,o[i]?=some a:=⟨_,getElem?_eq_getElem hlt⟩;have b4:=Bk.restO_snoc (b:=b) (WR l).testBit bz;rw[<- L]at b4
  refine⟨Nat×Value,λ y=>[(8,.pointer (some ⟨b8,0,none⟩)),(14,.slice sa w.length sc),(15,y.2),(17,.slice oa o.length oc),(18,.int .i64 i),(19,.int .i64 y.1)],
   λ y U'=>N.frz.lg U'/\y.1<=w.length/\Acc 3 1 y.2 ((Qae (b.restO (WR l).testBit (o.take i)++(range y.1).filter λ k=>w.getD k 0==a)).map λ n=>.int .i64 n) U'.M N.M,λ y=>w.length-y.1,(0,v),T1,⟨O,O1,by simpa using m⟩,?_⟩
  clear m O;rintro⟨k,v⟩f bh⟨P,cp,m⟩;simp only at cp m;obtain⟨ta,tl,tc,rfl,c5,-⟩:=m.src;have av:Zu ((k:Int)+1):=I1
  have dh:((range k).filter λ k=>w.getD k 0==a).length<=k:=Nat.le_trans (length_filter_le _ _) S1;have ai:range (k+1)=range k++[k]:=range_succ
  repeat refine⟨rfl,?_⟩
  conv=>whnf
  apply Qe<;>intro A
  .have hlk:k<w.length:=by simpa using A
   obtain⟨b7,x1,c9,rfl,-,bd⟩:=hK.at hlk;obtain⟨b9,x2,da,rfl,-,be⟩:=hO.at hlt;have bd:=bd.lg P;have be:=be.lg P;obtain rfl:((w.getD k 0:Nat):Int)=x1:=by simpa[Qae,getD_eq_getElem?_getD,hlk]using c9
   obtain rfl:((a:Nat):Int)=x2:=by simpa[Qae,bz]using da
   refine⟨b7,k,⟨rfl,rfl,hlk⟩,_,bd,b9,i,⟨rfl,rfl,hlt⟩,_,be,?_⟩
   conv=>whnf
   intro dd I _;have aw:=P.trans I.lg
   repeat refine⟨rfl,?_⟩
   conv=>whnf
   apply Qe<;>intro A
   .have hp0:(w.getD k 0==a)=true:=by have A:((w.getD k 0:Int)==(a:Int))=true:=A;simp at A ⊢;omega
    have e4:([k].filter λ k=>w.getD k 0==a)=[k]:=by rw[filter_cons];exact if_pos hp0
    conv=>whnf
    intro bn z;refine Zk z λ bi ar z=>?_;have z:Zi bi bn #[.int .i64 k]:=z;have ax:=aw.trans ar.lg
    conv=>whnf
    refine Ws (v:=.slice ta tl tc) (cs:=(Qae (b.restO (WR l).testBit (o.take i)++(range k).filter λ k=>w.getD k 0==a)).map λ n=>.int .i64 n) (new:=[.int .i64 (k:Int)]) (M₀:=N.M) Hf rfl rfl (by rw[ar.own,I.own];exact m) (.inr ⟨_,rfl,z.rd⟩) rfl (by simp[Value.single]) (by simp only[Qae,length_map,length_append,length_cons,length_nil];omega) λ v' M' af _=>?_;obtain⟨ua,ul,uc,rfl,-,-⟩:=Acc.src (U:={ bi with M:=M' }) af;refine⟨av,?_⟩
    conv=>whnf
    exact⟨rfl,(k+1,.slice ua ul uc),T1,⟨⟨ax.imm,⟨_,(append_nil _).symm⟩,ax.tok⟩,by show k+1<=w.length;omega,by show Acc 3 1 _ ((Qae (_++(range (k+1)).filter _)).map _) _ _;rw[ai,filter_append,e4,<- append_assoc,Qae,map_append,map_append];exact af⟩,L1⟩
   .have hp0:(w.getD k 0==a)=false:=by have A:((w.getD k 0:Int)==(a:Int))=false:=A;simp at A ⊢;omega
    have e4:([k].filter λ k=>w.getD k 0==a)=[]:=by rw[filter_cons];exact if_neg (Bool.eq_false_iff.1 hp0)
    refine⟨av,?_⟩
    conv=>whnf
    exact⟨rfl,(k+1,.slice ta tl tc),T1,⟨aw,by show k+1<=w.length;omega,by show Acc 3 1 _ ((Qae (_++(range (k+1)).filter _)).map _) _ _;rw[ai,filter_append,e4,append_nil,I.own];exact m⟩,L1⟩
  have ah:k=w.length:=by simp at A;omega
  rw[ah,<- b4]at m;refine⟨T,?_⟩
  conv=>whnf
  exact⟨rfl,(i+1,.slice ta tl tc),T1,⟨P,by show i+1<=o.length;omega,m⟩,L1⟩
 have ah:i=o.length:=by simp at A;omega
 rw[ah,take_length]at m b3;obtain⟨ta,tl,tc,rfl,c5,-⟩:=m.src;have hS:Qoa N (Qae (b.restO (WR l).testBit o)) (.slice ta tl tc) bg:=⟨⟨_,_,_,rfl⟩,O,m⟩;have cx:(b.wo (WR l).testBit).outF (Qae (b.restO (WR l).testBit o))=0:=by unfold Bk.outF;rw[if_pos (Bk.wo_flaw hf _)];exact b1.flaw
 have a2:U.lg N:=a4.lg.trans ((show Y.lg U7 from⟨D.imm,⟨[_],D.own⟩,D.tok⟩).trans h9.lg);have a7:Zi bg b8 #[.slice d.ra d.rl d.rc,.slice d.ca d.cl d.cc]:=((show Zi Y.frz b8 _ from E).lg (u.trans au)).lg O;refine⟨_,⟨rfl,a7.rd⟩,?_⟩
 refine⟨YQ.any,(Qoa.give (xs:=λ v=>#[d.v,v]) (Q:=λ v U'=>(∃xa xn xc ya yn yc,v=.tuple #[.slice xa xn xc,.slice ya yn yc,.int .i64 0])/\N.le U') hS λ bh ga aa e r H=>by
  rw[e]
  exact(IR d _ (bu.lg r.lg.frz2) (hk.lg (a2.trans r.lg)) ga _ aa _ H (by simp[Qae];omega)).mono (by
   rintro v U'⟨⟨_,_,rfl,⟨xa,xc,rfl,-⟩,⟨ya,yc,rfl,-⟩⟩,G⟩;rw[cx];exact⟨⟨_,_,_,_,_,_,rfl⟩,r.trans G⟩)).mono ?_⟩
 rintro _ bh⟨⟨xa,xn,xc,ya,yn,yc,rfl⟩,bm⟩-
 repeat refine⟨rfl,?_⟩
 conv=>whnf
 refine(bj _ (a2.trans bm.lg)).mono ?_;rintro _ U'⟨rfl,a8⟩-;obtain rfl:=a8.symm
 repeat refine⟨rfl,?_⟩
 conv=>whnf
 exact a2.trans bm.lg
end Go.Proofs

