/- Lemmas. No conditions. -/
import Derived.Test.YtnpfcnfhfkflhaaGreatDoorC07
set_option linter.all false
set_option maxRecDepth 100000
open List
namespace Go.Proofs
open Go.TM
def Q0k:List (List (Nat×St)):=[[(0,.m 103 8),(0,.m 104 16),(0,.d 105 (.sub3 1 (.t 103) none (some (.t 104)))),(0,.m 107 8),(0,.m 108 16),(0,.xa 109 108),(0,.d 110 (.sub3 1 (.t 107) (some (.t 109)) none)),(2,.d 102 (.bsl 3 0 #[] [])),(2,.xz 106 102 105 26)]]
def Zp4:List St:=[.xz 111 106 110 26,.m 17 111]
attribute [local irreducible] Qb Zl Wt
set_option maxHeartbeats 4000000 in
def Zq5{U:Qa Tk}(ad:U.tok=⟨0,.out,none⟩)(hk:WA U)(h:BH)(b:Bk)(hb:Zq U.frz h b)(a8:DH b)(ba:h.rl<=h.rc)(bh:h.cl<=h.cc)(rt:Nat)(bs:rt<256)(bits:Nat)(a4:bits<256) :
  J (Zb Tryz.prog 209 6) (QA Tryz.prog λ v U'=>v=.bool true/\U.lg U') true (Rf (Frame.enter Tryz.prog 12 #[h.v,.int .u8 (rt:Int),.int .u8 (bits:Int)] .normal) []) U:=by
 refine Zpy (args:=[_,_,_]) (Q:=λ v U'=>v=.bool true/\U.lg U') Zrr Qf K1 S1 (λ v U' q=>q.2.tok.trans ad) ?_;have bi:=hb.cs.1;have br:=hb.rs.1;have ak:∀X:Qa Tk,U.lg X->Qb (Zb Tryz.prog 209 6) 20 #[] (λ v U'=>v=.bool true/\U'=X) X:=λ X h=>Zm2 (h.tok.trans ad) (hk.lg h)
 repeat refine⟨rfl,?_⟩
 conv=>whnf
 intro B U1 F hB;have hB:Zi U1 B #[.slice h.ra h.rl h.rc,.slice h.ca h.cl h.cc]:=hB;have az:Zi U1.frz B #[.slice h.ra h.rl h.rc,.slice h.ca h.cl h.cc]:=hB;have af:=hb.lg F.lg.frz2;have ab:∀w:Qa Tk,U1.frz.lg w->Jn w ⟨B,0,none⟩ [.slice h.ra h.rl h.rc,.slice h.ca h.cl h.cc]:=λ w hw=>(az.lg hw).rd;refine⟨_,⟨rfl,ab _ Qp⟩,kh.any,(Zm1 h b af a8 ba).mono ?_⟩;rintro _ U'⟨⟨g,rfl,hg⟩,a0⟩-;obtain rfl:=a0.symm;have WD:Qb (Zb Tryz.prog 209 6) 20 #[] (λ v U'=>v=.bool true/\U'=U1) U1:=ak _ F.lg;cases g with
 |false=>
  refine⟨yL.any,WD.go λ _=>?_⟩
  repeat refine⟨rfl,?_⟩
  conv=>whnf
  exact F.lg
 |true=>
 have hf:b.flaw Qu=0:=hg rfl;refine⟨_,hB.sees3 (o:=0) rfl,?_⟩
 repeat refine⟨rfl,?_⟩
 conv=>whnf
 apply Qe<;>intro O
 .refine⟨yL.any,WD.go λ _=>?_⟩
  repeat refine⟨rfl,?_⟩
  conv=>whnf
  exact F.lg
 have bc:0<h.rl:=by simp at O;omega
 have T:=Bk.ok_of hf;have bp:=T.nr;have bo:=T.nc;obtain⟨q,ar⟩:∃q,q=rt % h.rl:=⟨_,rfl⟩;have hq:q<h.rl:=ar▸Nat.mod_lt _ bc;have a9:q<b.rs.length:=O1
 have au:(IntKind.wrap .i64 (rt:Int)).tmod (h.rl:Nat)=(q:Nat):=by rw[ZZ O1,ar];exact(Int.ofNat_tmod _ _).symm
 have hF:b.askF (q:Int)=0:=Bk.askF_zero hf a9;have D:=(b.dc_facts q).1;have bm:=Bk.sub_len D
 have ap:∀x∈b.dcL q,0<=x/\x<(h.cl:Int):=λ x hx=>by
  obtain⟨m,hm,rfl⟩:=mem_map.1 (D.subset hx);have:=mem_range.1 hm;omega
 refine⟨_,hB.sees3 (o:=0) rfl,rfl,O1,?_⟩;rw[au];refine⟨_,⟨rfl,ab _ Qp⟩,T8.any,(Tryz.DecideR_ok h b af (hk.lg F.lg) (q:Int)).mono ?_⟩;rintro _ X⟨⟨_,rfl,H,lc,rfl,hL,W⟩,G⟩-;have be:b.dcF (q:Int)=b.dcL q:=by unfold Bk.dcF;rw[if_pos hF,Int.toNat_natCast]
 rw[be]at hL W ⊢;rw[hF];have ae:=F.trans G;have L:=af.lg G.lg.frz2;refine⟨_,⟨rfl,ab _ (SX Qp G)⟩,Znw.any,(Qzk h b L (hk.lg ae.lg) hf q hq).go λ _=>?_⟩
 repeat refine⟨rfl,?_⟩
 refine⟨_,(hB.le G).sees3 (o:=1) rfl,Zqc.any,(Zk8 H lc (b.dcL q) (hL.lg Qp) O1 h.cl ap (b.every_asc.sublist D)).go λ _=>?_⟩;refine⟨Nat×Value,λ y=>[(2,.int .u8 bits),(3,.pointer (some ⟨B,0,none⟩)),(7,.int .i64 q),(8,.slice H (b.dcL q).length lc),(10,.int .i64 (b.fatR q)),(12,y.2),(13,.int .i64 y.1)],λ y U'=>y.1<=h.cl/\Qcf X (Bk.dcTo (b.dcL q) bits y.1) y.2 U',λ y=>h.cl-y.1,(0,.slice none 0 0),T1,⟨O1,⟨_,_,_,rfl⟩,Qp,.inl ⟨rfl,rfl,rfl⟩⟩,?_⟩;rintro⟨i,v⟩f U3⟨hi,⟨sa,sl,sc,e0⟩,R,u⟩;simp only at hi u e0;subst e0;have ag:Zu ((i:Int)+1):=I1
 have j:=Bk.dcTo_succ (b.dcL q) bits i;have bf:(Bk.dcTo (b.dcL q) bits i).length<=i:=by unfold Bk.dcTo;rw[length_map];exact Nat.le_trans (length_filter_le _ _) S1
 have am:=hB.imI λ x o hx=>R.imm x o (G.imm x o hx);refine⟨_,am.sees3 (o:=1) rfl,?_⟩
 repeat refine⟨rfl,?_⟩
 conv=>whnf
 apply Qe<;>intro O
 .have S:i<h.cl:=by simpa using O
  have skip:(Zpz bits i&&!(b.dcL q).contains (i:Int))=false->Qcf X (Bk.dcTo (b.dcL q) bits (i+1)) (.slice sa sl sc) U3:=λ e=>by
   rw[e,if_neg S1,append_nil]at j;rw[j];exact⟨⟨_,_,_,rfl⟩,R,u⟩
  refine⟨Int.natCast_nonneg i,?_⟩
  repeat refine⟨rfl,?_⟩
  conv=>whnf
  apply Zr<;>intro O
  .have hp:Zpz bits i=true:=O;refine⟨Qoa.any,(Qbj H _ lc _ (hL.lg R) O1 (i:Int)).go λ _=>?_⟩;cases Z:(b.dcL q).contains (i:Int)with
   |false=>
    rw[hp,Z,show(true&&!false)=true from rfl,if_pos rfl]at j
    conv=>whnf
    intro bn N;refine Zk N λ U4 A N=>?_;have N:Zi U4 bn #[.int .i64 i]:=N;have aq:=R.trans A.lg
    conv=>whnf
    refine Ws (v:=.slice sa sl sc) (cs:=(Bk.dcTo (b.dcL q) bits i).map λ n=>.int .i64 n) (new:=[.int .i64 (i:Int)]) (M₀:=X.M) Hf rfl rfl (by rw[A.own];exact u) (.inr ⟨_,rfl,N.rd⟩) rfl (by simp[Value.single]) S3 λ v' M' t _=>?_;obtain⟨ta,tl,tc,rfl,-,-⟩:=Acc.src (U:={ U4 with M:=M' }) t;refine⟨ag,?_⟩
    conv=>whnf
    exact⟨rfl,(i+1,.slice ta tl tc),T1,⟨by show i+1<=h.cl;omega,⟨_,_,_,rfl⟩,⟨aq.imm,⟨_,(append_nil _).symm⟩,aq.tok⟩,by show Acc 3 1 _ ((Bk.dcTo _ bits (i+1)).map _) _ _;rw[j,map_append];exact t⟩,L1⟩
   |true=>
    refine⟨ag,?_⟩
    conv=>whnf
    exact⟨rfl,(i+1,.slice sa sl sc),T1,⟨by show i+1<=h.cl;omega,skip (by rw[Z];simp)⟩,L1⟩
  .have hp:Zpz bits i=false:=O;refine⟨ag,?_⟩
   conv=>whnf
   exact⟨rfl,(i+1,.slice sa sl sc),T1,⟨by show i+1<=h.cl;omega,skip (by rw[hp];rfl)⟩,L1⟩
 have a6:i=b.cs.length:=by simp at O;omega
 rw[a6]at u;have V:=b.dcTo_sub (b.dcL q) bits;have bq:=Bk.sub_len V;refine⟨_,⟨rfl,(show Zi U3 B _ from am).rd⟩,?_⟩;refine⟨Zqb.any,(Qcf.give (U:=X) (xs:=λ v=>#[h.v,v,.int .i64 q]) (Q:=λ v U'=>v=.tuple #[.int .i64 (b.fatR q),.bool true]/\X.le U') ⟨⟨_,_,_,rfl⟩,R,u⟩ λ U6 ga I e d z=>?_).mono ?_⟩
 .rw[e];refine(Zp3 h b (L.lg d.lg.frz2) (hk.lg (ae.trans d).lg) hf ga _ I _ z O1 (Bk.sub_rises V) q hq).mono ?_;rintro v U'⟨e',rfl⟩;exact⟨by rw[e',Bk.dc_out T],d⟩
 rintro _ U4⟨rfl,A⟩-;have ax:=ae.trans A;have ay:=G.trans A
 repeat refine⟨rfl,?_⟩
 conv=>whnf
 apply Qe<;>intro O
 .exact absurd O S1
 refine⟨Nat,λ i=>[(3,.pointer (some ⟨B,0,none⟩)),(7,.int .i64 q),(8,.slice H (b.dcL q).length lc),(16,.int .i64 i)],λ i U'=>U4.le U'/\i<=(b.dcL q).length,λ i=>(b.dcL q).length-i,0,T1,⟨.refl _,O1⟩,?_⟩;rintro k f Y⟨K,bl⟩;have ac:Zu ((k:Int)+1):=I1
 have al:=ax.trans K
 repeat refine⟨rfl,?_⟩
 conv=>whnf
 apply Qe<;>intro O
 rotate_left
 .refine⟨yL.any,(ak _ al.lg).go λ _=>?_⟩
  repeat refine⟨rfl,?_⟩
  conv=>whnf
  exact al.lg
 have S:k<(b.dcL q).length:=by simpa using O
 have C:=hL.lg (A.trans K).lg.frz2;have an:U1.frz.lg Y.frz:=(ay.trans K).lg.frz2;have bj:=Zpq S;have bk:=(Zpu (b.dcL q) k).trans D;have a7:(k:Int)+1=((k+1:Nat):Int):=O1
 have e1:(if lc=0 then H else H.map (·.add (0*1)))=H:=by
  split
  .rfl
  .obtain⟨ai,-,-,rfl,aw,-⟩:=C.at S;obtain⟨bb,oo,ss⟩:=ai;cases aw;rfl
 have bd:QS Y.frz H (((b.dcL q).take k).map λ n=>.int .i64 n):=by have:=Zra C k;rwa [ite_self]at this
 have av:QS Y.frz (if lc=k+1 then H else H.map (·.add ((k+1)*1))) (((b.dcL q).drop (k+1)).map λ n=>.int .i64 n):=by
  by_cases ah:k+1<(b.dcL q).length
  .rw[if_neg O1];exact Zpw C ah
  .rw[drop_eq_nil_of_le O1];obtain⟨ai,-,-,rfl,aw,-⟩:=C.at S;split
   .exact .inr ⟨_,rfl,λ i v hv=>by simp at hv⟩
   .exact .inr ⟨_,rfl,λ i v hv=>by simp at hv⟩
 generalize a5:(if lc=k+1 then H else H.map (·.add ((k+1)*1)))=da at av
 conv=>whnf
 intro bg P
 refine SQ (mu:=[1020]) (ops:=Pl Tryz.f12 20) (id:=20) P [0,4] [[1,2,3,5,6,7,8,0,4]] [9,10] Q0k Zp4 Qf K1 K1 K1 K1 K1
  (λ f' aj U'=>aj=[]/\∃a2 l2 c2,XF f' [(3,.pointer (some ⟨B,0,none⟩)),(7,.int .i64 q),(8,.slice H (b.dcL q).length lc),(16,.int .i64 k),(106,.slice a2 l2 c2),(110,.slice da ((b.dcL q).length-(k+1)) (lc-(k+1)))]/\Qcf Y ((b.dcL q).take k) (.slice a2 l2 c2) U') ?_ ?_
 .intro l hl;simp only[Q0k,mem_cons,not_mem_nil,or_false]at hl;subst hl;refine⟨0,k,⟨rfl,rfl,O1,O1⟩,?_⟩;rw[e1];refine⟨ac,k+1,(b.dcL q).length,⟨a7,rfl,O1,W⟩,?_⟩;rw[a5];refine⟨λ v U'=>Qcf Y [] v U',λ v x1 x2 Z d=>Z.le d,λ v U' Z=>Z.2.1,λ U' E=>?_,λ v hv=>?_⟩
  .conv=>whnf
   intro p hp;exact⟨_,.refl _,_,.refl _,.new E⟩
  obtain⟨_,⟨a1,l1,c1,rfl⟩,-,-⟩:=hv;refine⟨λ v U'=>Qcf Y ((b.dcL q).take k) v U',λ v x1 x2 Z d=>Z.le d,λ v U' Z=>Z.2.1,λ U' E=>?_,λ v hv=>?_⟩
  .conv=>whnf
   refine Ws (v:=.slice a1 l1 c1) (cs:=([]:List Int).map λ n=>.int .i64 n) (new:=((b.dcL q).take k).map λ n=>.int .i64 n) (M₀:=Y.M) Hf rfl rfl E.2.2 ((bd.lgs E.2.1.frz2).lgs Qp) S3 (Qvz _) S3 λ v' M' t _=>?_;obtain⟨ta,tl,tc,rfl,-⟩:=Acc.src (U:={ U' with M:=M' }) t;exact⟨_,.refl _,⟨⟨_,_,_,rfl⟩,⟨E.2.1.imm,⟨_,(append_nil _).symm⟩,E.2.1.tok⟩,by simpa using t⟩⟩
  obtain⟨_,⟨a2,l2,c2,rfl⟩,-,-⟩:=hv
  conv=>whnf
  exact λ U' E=>⟨rfl,a2,l2,c2,T1,E⟩
 rintro f' aj U6⟨rfl,a2,l2,c2,ao,E⟩;rw[<- ao.ovr];clear ao
 conv=>whnf
 refine Ws (v:=.slice a2 l2 c2) (cs:=((b.dcL q).take k).map λ n=>.int .i64 n) (new:=((b.dcL q).drop (k+1)).map λ n=>.int .i64 n) (M₀:=Y.M) Hf rfl rfl E.2.2 ((av.lgs E.2.1.frz2).lgs Qp) S1 (Qvz _) S3 λ v' M' t _=>?_;obtain⟨a3,l3,c3,rfl,-⟩:=Acc.src (U:={ U6 with M:=M' }) t;have hA:Qcf Y ((b.dcL q).take k++(b.dcL q).drop (k+1)) (.slice a3 l3 c3) { U6 with M:=M' }:=⟨⟨_,_,_,rfl⟩,⟨E.2.1.imm,⟨_,(append_nil _).symm⟩,E.2.1.tok⟩,by simpa using t⟩
 conv=>whnf
 intro a' aa;refine⟨by rw[aa.size,P.size],_,aa.get,?_⟩;rw[aa.ds];clear aa P;refine⟨_,⟨rfl,ab _ (an.trans hA.2.1)⟩,Zqd.any,(Qcf.give (xs:=λ v=>#[h.v,.int .i64 q,v]) (Q:=λ v U'=>v=.bool false/\Y.le U') hA λ U7 ga I e d z=>?_).mono ?_⟩
 .rw[e];refine(Zop h b (L.lg ((A.trans K).trans d).lg.frz2) T q hq ga I _ z O1).mono ?_;rintro v U'⟨e',rfl⟩;exact⟨by rw[e',Bk.dc_fewer T q S],d⟩
 rintro _ U8⟨rfl,h8⟩-;refine⟨ac,?_⟩
 conv=>whnf
 exact⟨rfl,k+1,T1,⟨K.trans h8,O1⟩,L1⟩
end Go.Proofs

