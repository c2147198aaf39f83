/- Lemmas. No conditions. -/
import Derived.Test.YtajkaognaiglhaaGreatDoorC04
import Derived.Test.YtajkaognaiglhaaGreatDoorC05
import Derived.Test.YtajkaognaiglhaaGreatDoorC00
import Derived.Test.YtajkaognaiglhaaGreatDoorB29
set_option linter.all false
set_option maxRecDepth 100000
open List
namespace Go.TM
variable{T:Type}{P:Program}{S:Sys P T}{U U':Qa T}
def Qb.ok0{f:FuncId}{args:Array Value}{R:Value->Qa T->Prop}{U:Qa T}(h:(∃w,U.ok w)->Qb S f args R U):Qb S f args R U:=by
 intro Stop m c cs k;by_cases e:∃w,U.ok w
 .exact h e Stop m c cs k
 .exact .priv ⟨rfl,λ w ok=>absurd ⟨w,ok⟩ e⟩
def Qb.prS{f:FuncId}{args:Array Value}{Q:Value->Qa T->Prop}{e:Qa T}(w:Q1 U e)(h:Qb S f args Q e):Qb S f args Q U:=λ Stop m c cs k=>.shift w (h Stop m c cs k)
def Jx.ints{l:List Int}{a:Option Addr}{len c:Nat}{A:List Q2}(h:Jx 3 1 (.slice a len c) (l.map λ n=>.int .i64 n) A)(F:∀r∈A,r∈U.M):Z8 U a len l:=by
 have f:l.length=len:=by
  obtain⟨a',l',G,e,f⟩:=h.src;cases e;simpa using f
 refine⟨f,λ i x z=>?_⟩
 have w:(l.map λ n=>Value.int .i64 n)≠[]:=by
  intro e;have:l=[]:=by simpa using e
  subst this;simp at z
 obtain⟨b,cc,B,cap,e,-,-,-,rfl,E⟩:=h.blk w;cases e;refine⟨⟨b,0,none⟩,rfl,rfl,?_⟩;rw[Qu];exact⟨rfl,.inl ⟨cc,3,(0,0),.inr (F _ S1),E _ _ (by simp[z])⟩⟩
end Go.TM
namespace Go.Proofs
open Go.TM
variable{T:Type}{S:TM.Sys Tryz.prog T}{U:Qa T}
attribute [local irreducible] Qb Zr W5
def StaO(b:Bk)(l:List (Int×Int))(U':Qa T)(e:BH)(f:Int):Prop:=
 (f=5/\¬b.FrL l\/f=8/\b.FrL l/\W4 (b.stys l).A=true)/\e=BH.zero\/f=0/\Zt U'.frz e (b.stys l)/\b.FrL l/\W4 (b.stys l).A=false/\e.rl<=e.rc
set_option maxHeartbeats 2000000 in
def Qcj(h:BH)(b:Bk)(hb:Zt U.frz h b)(hk:JT U)(hf:b.flaw Zk=0)(l:List (Int×Int))(a:Option Addr)(c:Nat)(hl:Zd U.frz a l.length 2 l (λ x vs=>vs=encII x))(b1:l.length<=6)(a6:∀s∈l,0<=s.1/\s.1<b.nc/\0<=s.2/\s.2<b.nc) :
  Qb S 10 #[h.v,.slice a l.length c] (λ v U'=>(∃(w:BH)(f:Int),v=.tuple #[w.v,.int .i64 f]/\StaO b l U' w f)/\U.le U') U:=by
 have aj:=Bk.ok_of hf;have b2:=aj.nc;have bl:=hb.cs.1;have bm:=hb.cl;have b6:b.nc=(h.cl:Int):=by unfold Bk.nc;rw[bl]
 have bh:Qb S 10 #[h.v,.slice a l.length c] (λ v U'=>(∃(w:BH)(f:Int)(R:List Q2),v=.tuple #[w.v,.int .i64 f]/\StaO b l U' w f/\U'.M.Perm (R++U.M))/\(∀x o,U.I x=some o->U'.I x=some o)/\U'.tok=U.tok) U:=by
  refine Qb.of (args:=[_,_]) Qb8 Qd S1 ?_
  repeat refine⟨rfl,?_⟩
  conv=>whnf
  intro B U1 K hB;have hB:Zo U1 B #[.slice h.ra h.rl h.rc,.slice h.ca h.cl h.cc]:=hB
  conv=>whnf
  intro N b5;refine⟨_,.refl _,?_⟩;have aa:=Z6 (U:=U1) N (.cells #[.slice none 0 0,.slice none 0 0] 25);have ac:=hB.lg aa;refine⟨_,⟨rfl,ac.rd⟩,?_⟩;refine⟨VQ.any,(KC h b (((hb.lg K.lg.frz2).lg Qy).lg aa) ((hk.lg K.lg).lg aa)).go λ _=>?_⟩;rw[hf]
  repeat refine⟨rfl,?_⟩
  refine⟨_,⟨rfl,ac.rd⟩,?_⟩;refine⟨DV.any,(Bi (S:=S) (U:=U1.put N (.cells #[.slice none 0 0,.slice none 0 0] 25)) h b (hb.lg (K.lg.frz2.trans aa.frz2)) aj.sml).mono ?_⟩;rintro _ U2⟨⟨w,rfl,ho⟩,P,ao⟩-;have bi:∀x o,U.I x=some o->U2.I x=some o:=λ x o z=>P x o (K.imm x o z);have bw:U2.tok=U.tok:=ao.trans K.tok;have aw:Zo U2 B #[.slice h.ra h.rl h.rc,.slice h.ca h.cl h.cc]:=ac.imI P
  have ho:QX U2 w b (.obj N (.cells [.slice none 0 0,.slice none 0 0].toArray 25 (0,0))::U.M):=by
   have e:(U1.put N (.cells #[.slice none 0 0,.slice none 0 0] 25)).M=.obj N (.cells [.slice none 0 0,.slice none 0 0].toArray 25 (0,0))::U.M:=by show _::U1.M=_;rw[K.own]
   rw[<- e];exact ho
  clear aa P ao ac
  conv=>whnf
  intro b7 bn;refine⟨_,.refl _,rfl,Zy (vs:=[.slice w.ra w.rl w.rc,.slice w.ca w.cl w.cc]) bn rfl (by simp[Value.single]) λ U3 ah aq=>?_⟩;have aq:Zo U3 b7 #[.slice w.ra w.rl w.rc,.slice w.ca w.cl w.cc]:=aq
  refine⟨Nat,λ i=>[(2,.pointer (some ⟨B,0,none⟩)),(4,.pointer (some ⟨N,0,none⟩)),(7,.pointer (some ⟨b7,0,none⟩)),(20,.slice a l.length c),(21,.int .i64 l.length),(22,.int .i64 i)],
   λ i U'=>U3.frz.lg U'/\i<=l.length/\QX U' w (b.stys (l.take i)) (.obj N (.cells [.slice none 0 0,.slice none 0 0].toArray 25 (0,0))::U.M)/\b.FrL (l.take i),λ i=>l.length-i,0,T1,⟨⟨λ _ _ h=>h,⟨_,(append_nil _).symm⟩,rfl⟩,O1,ho.le ah,trivial⟩,?_⟩
  rintro i f U4⟨L,hi,ho,Z⟩;have a7:Je ((i:Int)+1):=I1
  have ae:∀x o,U.I x=some o->U4.I x=some o:=λ x o z=>L.imm x o (ah.imm x o (bi x o z));have V:Zo U4 b7 #[.slice w.ra w.rl w.rc,.slice w.ca w.cl w.cc]:=aq.imI L.imm;have au:U4.tok=U.tok:=L.tok.trans (ah.tok.trans bw)
  repeat refine⟨rfl,?_⟩
  conv=>whnf
  apply Qe<;>intro hc
  .have hlt:i<l.length:=by simpa using hc
   obtain⟨ad,x,vs,z,rfl,ce,rfl,-,bv⟩:=(hl.mem ae λ r hr=>by cases hr).at hlt;obtain⟨bx,bg,bz,b0⟩:=a6 x (mem_of_getElem? z);have al:x.1.toNat<b.cs.length:=by unfold Bk.nc at bg;omega
   have a3:Q_ x.1 0 ((h.cl:Int)-1)=true:=by simp[Q_];omega
   have a4:Q_ x.2 0 ((h.cl:Int)-1)=true:=by simp[Q_];omega
   refine⟨ad,i,⟨rfl,rfl,hlt⟩,_,⟨rfl,bv⟩,?_⟩
   conv=>whnf
   intro b9 bo;refine⟨_,.refl _,rfl,Zy (vs:=encII x) bo rfl (by simp[encII,Value.single]) λ U5 ai E=>?_⟩;have E:Zo U5 b9 #[.int .i64 x.1,.int .i64 x.2]:=E;have H:=V.le ai;have am:Zo U5 B #[.slice h.ra h.rl h.rc,.slice h.ca h.cl h.cc]:=aw.imI λ x o z=>ai.imm x o (L.imm x o (ah.imm x o z));refine⟨_,E.sees3 (o:=0) rfl,_,am.sees3 (o:=1) rfl,I1,?_⟩;refine⟨Gn.any,(Wy U5 x.1 0 ((h.cl:Int)-1)).go λ _=>?_⟩;rw[a3];refine⟨_,E.sees3 (o:=1) rfl,_,am.sees3 (o:=1) rfl,I1,?_⟩;refine⟨Gn.any,(Wy U5 x.2 0 ((h.cl:Int)-1)).go λ _=>?_⟩;rw[a4];refine⟨_,H.sees3 (o:=1) rfl,_,E.sees3 (o:=0) rfl,?_⟩;have ba:=ho.le ai;obtain⟨a0,l0,c0,kF,cb,cc,rest,G⟩:=ba.openC (q:=x.1.toNat) (by rw[Bk.stys_len];exact al);have bf:((x.1.toNat:Nat):Int)=x.1:=O1
   have br:∀r∈kF,r∈U5.M:=λ r hr=>G.pm.mem_iff.2 (mem_append_left _ hr);have a5:Q2.obj cb (.cells cc.toList.toArray 46 (0,0))∈U5.M:=G.pm.mem_iff.2 (mem_append_right _ (mem_cons_self ..));have az:=G.acc.ints br;have b3:=az.1;refine⟨⟨cb,0,none⟩,x.1.toNat,⟨G.ca,bf.symm,G.lt⟩,.slice a0 l0 c0,?_,?_⟩
   .rw[Qu,Qu];exact⟨rfl,.inl ⟨_,_,_,.inr a5,by have:=G.at3;rw[Array.getElem?_toList]at this;rw[Nat.zero_add];exact this⟩⟩
   refine⟨_,E.sees3 (o:=1) rfl,?_⟩
   conv=>whnf
   intro U6 T _;refine⟨Yz.any,(TP a0 l0 c0 _ (az.le T) (by have:=G.len;omega) x.2).go λ _=>?_⟩;have bb:=ba.le T;have a1:=H.le T;have a2:=E.le T;have ab:=ai.trans T
   repeat refine⟨rfl,?_⟩
   conv=>whnf
   apply Qe<;>intro hc
   .have hnf:¬b.FrL l:=λ hF=>by
     have e:=take_append_drop i l;rw[Hh z]at e;rw[<- e]at hF;exact hF.mid.no (by simpa using hc)
    obtain⟨X,Y,hM,-,-,bj⟩:=bb.pick;obtain⟨ps,A,-,-,-,hp⟩:=bj.ex;refine⟨rfl,Wk (vs:=[.slice none 0 0,.slice none 0 0]) X hM rfl (by simp[Value.single]) λ U7 ap av ay=>?_⟩;refine⟨_,⟨rfl,Ze X ay⟩,⟨BH.zero,5,.obj N (.cells [.slice none 0 0,.slice none 0 0].toArray 25 (0,0))::(A++ps.flatMap (·.2.F)),rfl,.inl ⟨.inl ⟨rfl,hnf⟩,rfl⟩,?_⟩,λ x o z=>by rw[ap];exact ab.imm x o (ae x o z),?_⟩
    .rw[ay];refine perm_middle.trans ?_;rw[cons_append,append_assoc];exact hp.cons _
    .rw[av];exact ab.tok.trans au
   have bt:x.2∉((b.stys (l.take i)).cas x.1.toNat).af:=by simpa using hc
   have bp:(b.stys (l.take i)).Fr x:=⟨bx,by rw[Bk.stys_len];exact al,bz,by unfold Bk.nc;rw[Bk.stys_len];exact b0,bt⟩;refine⟨_,⟨rfl,a1.rd⟩,?_⟩;refine⟨_,⟨rfl,a2.rd⟩,?_⟩;have bd:=Bk.stys_srt aj.srt (l.take i) λ s hs=>by have h0:=a6 s (mem_of_mem_take hs);unfold Bk.nc at h0;omega
   have an:=Bk.cas_mem (b:=b.stys (l.take i)) (k:=x.1.toNat) (by rw[Bk.stys_len];exact al);have bs:=bd.l _ an;have be:=Al (S:=S) (U:=U6) w (b.stys (l.take i)) _ bb x.1.toNat x.2 (by rw[Bk.stys_len];exact al) (bd.s _ an) (by rw[length_take]at bs;omega);rw[bf]at be;refine⟨DW.any,be.mono ?_⟩;rintro v U7⟨bu,ap,av⟩-;have a8:U3.frz.lg U7:=⟨λ x o z=>ap x o (ab.imm x o (L.imm x o z)),⟨_,(append_nil _).symm⟩,av.trans (ab.tok.trans L.tok)⟩;refine⟨a7,?_⟩
   conv=>whnf
   exact⟨rfl,i+1,T1,⟨a8,O1,by rw[Wm z,Bk.stys_snoc];exact bu,by rw[Wm z];exact Z.snoc bp⟩,L1⟩
  have bq:i=l.length:=by simp at hc;omega
  rw[bq,take_length]at ho Z;refine⟨_,⟨rfl,V.rd⟩,?_⟩;refine⟨YA.any,(Qb.ok0 (R:=λ v U'=>v=.int .i64 (if W4 (b.stys l).A then 8 else 0)/\U'.M=.obj N (.cells [.slice none 0 0,.slice none 0 0].toArray 25 (0,0))::U.M/\U4.frz.lg U'.frz/\Zt U'.frz w (b.stys l)) λ hw=>?_).mono ?_⟩
  .obtain⟨U5,k1,k2,k3,k4⟩:=ho.freeze hw (by rw[Bk.stys_len];omega);exact .prS k1 ((Sf w (b.stys l) (k4.lg Qy) (Z.ok1 aj.ok1).low).mono λ v U'⟨q1,q2⟩=>⟨q1,by rw[q2];exact k2,by rw[q2];exact k3,by rw[q2];exact k4⟩)
  rintro _ U5⟨rfl,ax,W,bk⟩b8;cases a9:W4 (b.stys l).A with
  |true=>
   refine⟨rfl,rfl,Wk (vs:=[.slice none 0 0,.slice none 0 0]) [] ax rfl (by simp[Value.single]) λ U6 ag ak Q=>?_⟩;refine⟨_,⟨rfl,Ze [] Q⟩,⟨BH.zero,8,[.obj N (.cells [.slice none 0 0,.slice none 0 0].toArray 25 (0,0))],rfl,.inl ⟨.inr ⟨rfl,Z,a9⟩,rfl⟩,by rw[Q];exact .refl _⟩,λ x o z=>by rw[ag];exact W.imm x o (ae x o z),?_⟩;rw[ak];exact W.tok.trans au
  |false=>
   repeat refine⟨rfl,?_⟩
   conv=>whnf
   have H:Zo U5 b7 #[.slice w.ra w.rl w.rc,.slice w.ca w.cl w.cc]:=V.imI W.imm;have bc:Ju U5 ⟨b7,0,none⟩ [.slice w.ra w.rl w.rc,.slice w.ca w.cl w.cc]:=H.rd;refine⟨_,⟨rfl,by rw[Qu];exact bc⟩,?_⟩;refine⟨rfl,Wk (vs:=[.slice w.ra w.rl w.rc,.slice w.ca w.cl w.cc]) [] ax rfl (by simp[Value.single]) λ U6 ag ak Q=>?_⟩;refine⟨_,⟨rfl,Ze [] Q⟩,⟨w,0,[.obj N (.cells [.slice w.ra w.rl w.rc,.slice w.ca w.cl w.cc].toArray 25 (0,0))],rfl,.inr ⟨rfl,bk.lg ⟨λ x o z=>by show U6.I x=_;rw[ag];exact z,⟨[],rfl⟩,ak⟩,Z,a9,ho.rc⟩,by rw[Q];exact .refl _⟩,λ x o z=>by rw[ag];exact W.imm x o (ae x o z),?_⟩;rw[ak];exact W.tok.trans au
 refine bh.post λ v U'⟨⟨w,f,R,e,hS,hp⟩,hI,ht⟩=>?_;refine⟨{ U' with M:=U.M },(Hb hp).trans (Z2 (sublist_append_right _ _)),⟨w,f,e,?_⟩,⟨hI,rfl,ht⟩⟩;rcases hS with hS|⟨h1,h2,h3⟩
 .exact .inl hS
 .exact .inr ⟨h1,h2.lg ⟨λ _ _ h=>h,⟨[],rfl⟩,rfl⟩,h3⟩
set_option maxHeartbeats 2000000 in
def Qsm(h:BH)(b:Bk)(hb:Zt U.frz h b)(Q:Option Addr)(V pc:Nat)(p:List Nat)(hp:Zd U.frz Q V 1 p λ n vs=>vs=[.int .u16 (n:Int)]/\n<65536) :
  Qb S 15 #[h.v,.slice Q V pc] (λ v U'=>(∃(l:List (Int×Int))(a:Option Addr)(c:Nat),v=.slice a l.length c/\Zd U'.frz a l.length 2 l (λ x vs=>vs=encII x)/\l.length<=c/\l.length<=4/\∀s∈l,0<=s.1/\s.1<b.nc/\0<=s.2/\s.2<b.nc)/\U.le U') U:=by
 have aj:Qb S 15 #[h.v,.slice Q V pc] (λ v U'=>∃l:List (Int×Int),Acc 62 2 v (l.flatMap encII) U'.M U.M/\(∀x o,U.I x=some o->U'.I x=some o)/\U'.tok=U.tok/\l.length<=4/\∀s∈l,0<=s.1/\s.1<b.nc/\0<=s.2/\s.2<b.nc) U:=by
  refine Qb.of (args:=[_,_]) Q8m Qd S1 ?_;have al:=hb.cs.1;have am:=hb.cl;have af:b.nc=(h.cl:Int):=by unfold Bk.nc;rw[al]
  repeat refine⟨rfl,?_⟩
  conv=>whnf
  intro B U1 F hB;have hB:Zo U1 B #[.slice h.ra h.rl h.rc,.slice h.ca h.cl h.cc]:=hB
  refine⟨List (Int×Int)×Value,λ y=>[(1,.slice Q V pc),(2,.pointer (some ⟨B,0,none⟩)),(5,y.2),(6,.int .i64 y.1.length)],
   λ y U'=>U1.frz.lg U'/\y.1.length<=4/\(∀s∈y.1,0<=s.1/\s.1<b.nc/\0<=s.2/\s.2<b.nc)/\Acc 62 2 y.2 (y.1.flatMap encII) U'.M U.M,λ y=>4-y.1.length,([],.slice none 0 0),T1,⟨Qy,S1,S1,by rw[F.own];exact .nil⟩,?_⟩
  rintro⟨l,v⟩f U2⟨E,N,G,z⟩;simp only at N G z;obtain⟨sa,sl,sc,rfl,au,-⟩:=z.src;have ac:Je ((l.length:Int)+1):=I1
  have K:=hB.imI E.imm;have X:∀w:Qa T,U2.lg w->Zd w Q V 1 p λ n vs=>vs=[.int .u16 (n:Int)]/\n<65536:=λ w hw=>Zd.lg (R':=λ(n:Nat)vs=>vs=[.int .u16 (n:Int)]/\n<65536) hp (F.lg.frz2.trans (E.trans hw)) λ _ _ h=>h;refine⟨Qk4.any,(Qdm Q V pc p (X _ (Qa.le.refl _).lg) 20).go λ _=>?_⟩;refine⟨rfl,O1,?_⟩;have an:Int.tmod ((p.getD 20 0:Nat):Int) 5<5:=Int.tmod_lt_of_pos _ O1;generalize Int.tmod ((p.getD 20 0:Nat):Int) 5=m5 at an ⊢
  repeat refine⟨rfl,?_⟩
  conv=>whnf
  apply Jb<;>intro hc
  .have hi:(l.length:Int)<m5:=by simpa using hc
   refine⟨_,K.sees3 (o:=1) rfl,?_⟩
   repeat refine⟨rfl,?_⟩
   conv=>whnf
   apply Qe<;>intro hc
   .have hpos:0<h.cl:=by simpa using hc
    refine⟨by show Je (2*(l.length:Int));unfold Je;omega,?_⟩;refine⟨by show Je (21+2*(l.length:Int));unfold Je;omega,?_⟩;have ea:(21:Int)+2*(l.length:Int)=((21+2*l.length:Nat):Int):=O1
    have eb:(22:Int)+2*(l.length:Int)=((22+2*l.length:Nat):Int):=O1
    rw[ea];refine⟨.int .i64 (p.getD (21+2*l.length) 0:Nat),λ U' H _=>?_,?_⟩
    .refine⟨Qk4.any,(Qdm Q V pc p (X _ H.lg) (21+2*l.length)).mono ?_⟩;rintro _ U''⟨rfl,W⟩-;obtain rfl:=W.symm;exact⟨rfl,_,.refl _,.refl _⟩
    refine⟨_,K.sees3 (o:=1) rfl,rfl,O1,?_⟩;generalize ap:Int.tmod ((p.getD (21+2*l.length) 0:Nat):Int) (h.cl:Int)=Z;have ag:0<=Z/\Z<b.nc:=by rw[<- ap,af];exact⟨Int.tmod_nonneg _ (Int.natCast_nonneg _),Int.tmod_lt_of_pos _ O1⟩
    refine⟨by show Je (2*(l.length:Int));unfold Je;omega,?_⟩;refine⟨by show Je (22+2*(l.length:Int));unfold Je;omega,?_⟩;rw[eb];refine⟨.int .i64 (p.getD (22+2*l.length) 0:Nat),λ U' H _=>?_,?_⟩
    .refine⟨Qk4.any,(Qdm Q V pc p (X _ H.lg) (22+2*l.length)).mono ?_⟩;rintro _ U''⟨rfl,W⟩-;obtain rfl:=W.symm;exact⟨rfl,_,.refl _,.refl _⟩
    refine⟨_,K.sees3 (o:=1) rfl,rfl,O1,?_⟩;generalize aq:Int.tmod ((p.getD (22+2*l.length) 0:Nat):Int) (h.cl:Int)=x2;have ah:0<=x2/\x2<b.nc:=by rw[<- aq,af];exact⟨Int.tmod_nonneg _ (Int.natCast_nonneg _),Int.tmod_lt_of_pos _ O1⟩
    refine⟨λ v U'=>∃P,v=.slice (some ⟨P,0,none⟩) 1 1/\Zo U' P #[.int .i64 Z,.int .i64 x2],λ v y1 y2⟨P,e,hh⟩H=>⟨P,e,hh.le H⟩,λ U' H _=>?_,λ v hv=>?_⟩
    .conv=>whnf
     intro P L;exact Zm L λ U9 h9 L=>⟨_,.refl _,⟨P,rfl,L⟩,h9⟩
    obtain⟨_,-,-,P,rfl,-⟩:=hv
    conv=>whnf
    rintro U3 aa⟨-,ak,e,L⟩;obtain rfl:P=ak:=by simpa using e
    have ad:=E.trans aa.lg
    conv=>whnf
    refine Wv (v:=.slice sa sl sc) (cs:=l.flatMap encII) (new:=encII (Z,x2)) (M₀:=U.M) VD rfl rfl (by rw[aa.own];exact z) (.inr ⟨_,rfl,L.reads (λ k v hv=>by simpa[encII]using hv)⟩) rfl (by simp[encII,Value.single]) (by rw[Q6 (n:=2) (λ _=>rfl)];simp[encII];omega) λ v' M' ab _=>?_;obtain⟨ta,tl,tc,rfl,-,-⟩:=Acc.src (U:={ U3 with M:=M' }) ab;refine⟨ac,?_⟩
    conv=>whnf
    exact⟨rfl,(l++[(Z,x2)],.slice ta tl tc),⟨rfl,rfl,rfl,by show Value.int .i64 ((l.length:Int)+1)=.int .i64 (((l++[(Z,x2)]).length:Nat):Int);simp,trivial⟩,⟨⟨ad.imm,⟨_,(append_nil _).symm⟩,ad.tok⟩,S3,λ s hs=>(mem_append.1 hs).elim (G s) λ hs=>by rw[mem_singleton.1 hs];exact⟨ag.1,ag.2,ah.1,ah.2⟩,by show Acc 62 2 _ ((l++[(Z,x2)]).flatMap encII) _ _;rw[flatMap_append];simpa using ab⟩,by show _-_<_-_;simp;omega⟩
   .repeat refine⟨rfl,?_⟩
    conv=>whnf
    exact⟨l,z,λ x o hx=>E.imm x o (F.imm x o hx),E.tok.trans F.tok,N,G⟩
  .repeat refine⟨rfl,?_⟩
   conv=>whnf
   exact⟨l,z,λ x o hx=>E.imm x o (F.imm x o hx),E.tok.trans F.tok,N,G⟩
 refine aj.sep λ v U' hs⟨l,ha,hI,ht,N,G⟩=>?_;obtain⟨U'',k1,k2,a,len,cap,rfl,hl,ai,ao,_⟩:=ha.freeze hs hI ht;have ae:l.length=len:=by rw[Q6 (n:=2) (λ _=>rfl)]at hl;omega
 subst ae;have Y:=ha.room;exact⟨U'',k1,⟨l,a,cap,rfl,HF (enc:=encII) (n:=2) (λ _=>rfl) ai ao D1,Y,N,G⟩,k2⟩
end Go.Proofs
namespace Go.Proofs
open Go.TM
section
variable{T:Type}{S:TM.Sys Tryz.prog T}{U:Qa T}
attribute [local irreducible] Qb Zr W5
def Q1w(h:BH)(b:Bk)(H:Zt U.frz h b)(E:Qo8 b)(F:h.rl<=h.rc):Qb S 13 #[h.v] (λ v U'=>(∃g,v=.bool g/\(g=true->b.flaw Zk=0))/\U'=U) U:=by
 refine Qb.pure' (Qb.of (args:=[_]) Q8j Qd S1 ?_)
 repeat refine⟨rfl,?_⟩
 conv=>whnf
 intro B G e w;have w:Zo G B #[.slice h.ra h.rl h.rc,.slice h.ca h.cl h.cc]:=w;have f:=H.lg e.lg.frz2;refine⟨_,⟨rfl,w.rd⟩,?_⟩;refine⟨Zco.any,(Qx2 h b f E).mono ?_⟩;rintro _ U'⟨⟨g,rfl⟩,z⟩-;obtain rfl:=z.symm
 repeat refine⟨rfl,?_⟩
 conv=>whnf
 apply Jb<;>intro I
 .refine⟨_,⟨rfl,w.rd⟩,?_⟩;refine⟨Q8p.any,(Qtk h b f F).go λ _=>?_⟩
  repeat refine⟨rfl,?_⟩
  conv=>whnf
  exact⟨⟨_,rfl,λ h=>by simpa using h⟩,e.lg⟩
 .repeat refine⟨rfl,?_⟩
  conv=>whnf
  exact⟨⟨_,rfl,λ h=>by cases h⟩,e.lg⟩
def Qbb(h:BH)(b:Bk)(K:Zt U.frz h b)(T:JT U)(Q:b.flaw Zk=0)(r:Nat)(L:r<h.rl):Qb S 14 #[h.v,.int .i64 r] (λ v U'=>v=.tuple #[.int .i64 (b.fatR r),.bool true]/\U'=U) U:=by
 refine Qb.pure' (Qb.of (args:=[_,_]) Qd6 Qd S1 ?_);have G:=K.rs.1
 repeat refine⟨rfl,?_⟩
 conv=>whnf
 intro B M e w;have w:Zo M B #[.slice h.ra h.rl h.rc,.slice h.ca h.cl h.cc]:=w;refine⟨_,⟨rfl,w.rd⟩,?_⟩;refine⟨DS.any,(R2 h b (K.lg e.lg.frz2) (T.lg e.lg)).mono ?_⟩;rintro _ X⟨⟨_,_,rfl,⟨ra,rc,rfl,z⟩,⟨ca,cc,rfl,Y⟩⟩,f⟩-;rw[Q]at z ⊢;rw[if_pos rfl]at z;rw[if_pos rfl];have V:b.fatesR.length=h.rl:=by simp[Bk.fatesR,G]
 rw[V]at z ⊢;obtain⟨E,W,I,F,N,H⟩:=z.at L;obtain rfl:b.fatR r=W:=Option.some.inj ((show b.fatesR[r]?=some (b.fatR r) by simp[Bk.fatesR,show r<b.rs.length by omega]).symm.trans I)
 repeat refine⟨rfl,?_⟩
 refine⟨_,(w.lg f.lg).sees3 (o:=0) rfl,?_⟩
 repeat refine⟨rfl,?_⟩
 conv=>whnf
 apply Qe<;>intro P
 .exact absurd P S1
 refine⟨E,r,⟨F,rfl,L⟩,_,H.lg Qy,?_⟩
 repeat refine⟨rfl,?_⟩
 conv=>whnf
 exact(e.trans f).lg
end
end Go.Proofs
namespace Go.Proofs
open Go.TM
variable{T:Type}{S:TM.Sys Tryz.prog T}{U:Qa T}
attribute [local irreducible] Qb Zr W5
set_option maxHeartbeats 1000000 in
def Q37(a a':Option Addr)(c Z:Nat)(l r:List (Int×Int))(hl:Zd U a l.length 2 l (λ x vs=>vs=encII x))(hr:Zd U a' r.length 2 r (λ x vs=>vs=encII x))(ab:l.length<2^60) :
  Qb S 16 #[.slice a l.length c,.slice a' r.length Z] (λ v U'=>v=.bool (decide (Wi l r<0))/\U'=U) U:=by
 refine Qb.pure' (Qb.of (args:=[_,_]) Qq9 Qd S1 ?_);refine⟨Nat,λ i=>[(0,.slice a l.length c),(1,.slice a' r.length Z),(5,.int .i64 i)],λ i U'=>U.le U'/\i<=l.length/\i<=r.length/\Wi l r=Wi (l.drop i) (r.drop i),λ i=>l.length-i,0,T1,⟨.refl _,O1,O1,rfl⟩,?_⟩;rintro i f U1⟨B,hi,Q,z⟩;have Y:Je ((i:Int)+1):=I1
 repeat refine⟨rfl,?_⟩
 conv=>whnf
 apply Jb<;>intro I
 .have hlt:i<l.length:=by simpa using I
  repeat refine⟨rfl,?_⟩
  conv=>whnf
  apply Qe<;>intro I
  .have hlt':i<r.length:=by simpa using I
   obtain⟨W,x,vs,hx,rfl,ac,rfl,-,T⟩:=(Zd.lg (R':=λ x vs=>vs=encII x) hl B.lg λ _ _ h=>h).at hlt;obtain⟨K,y,ae,hy,rfl,aa,rfl,-,M⟩:=(Zd.lg (R':=λ x vs=>vs=encII x) hr B.lg λ _ _ h=>h).at hlt';have L:=Zdl hx hy;refine⟨W,i,⟨rfl,rfl,hlt⟩,_,T.cell (i:=0) rfl,K,i,⟨rfl,rfl,hlt'⟩,_,M.cell (i:=0) rfl,?_⟩
   conv=>whnf
   intro U2 H _;have F:=T.lg H.lg;have E:=M.lg H.lg
   repeat refine⟨rfl,?_⟩
   conv=>whnf
   apply Qe<;>intro I
   .have hne:x.1≠y.1:=by simpa using I
    refine⟨W,i,⟨rfl,rfl,hlt⟩,_,F.cell (i:=0) rfl,K,i,⟨rfl,rfl,hlt'⟩,_,E.cell (i:=0) rfl,?_⟩
    conv=>whnf
    intro U3 G _
    have P:decide (x.1<y.1)=decide (Wi l r<0):=by
     rw[z,L,if_pos (λ e=>hne (by rw[HN.1 e]))];have:=@PA x y;by_cases e:x.1<y.1
     .simp[this.2 (.inl e),e]
     .have:¬Ws x y<0:=λ h=>by rcases this.1 h with h|h <;> omega
      simp[this,e]
    repeat refine⟨rfl,?_⟩
    conv=>whnf
    rw[<- P];exact⟨rfl,(B.trans (H.trans G)).lg⟩
   .have heq:x.1=y.1:=by simpa using I
    refine⟨W,i,⟨rfl,rfl,hlt⟩,_,F.cell (i:=1) rfl,K,i,⟨rfl,rfl,hlt'⟩,_,E.cell (i:=1) rfl,?_⟩
    conv=>whnf
    intro U3 G _;have V:=F.lg G.lg;have N:=E.lg G.lg
    repeat refine⟨rfl,?_⟩
    conv=>whnf
    apply Qe<;>intro I
    .have hne:x.2≠y.2:=by simpa using I
     refine⟨W,i,⟨rfl,rfl,hlt⟩,_,V.cell (i:=1) rfl,K,i,⟨rfl,rfl,hlt'⟩,_,N.cell (i:=1) rfl,?_⟩
     conv=>whnf
     intro U4 X _
     have P:decide (x.2<y.2)=decide (Wi l r<0):=by
      rw[z,L,if_pos (λ e=>hne (by rw[HN.1 e]))];have:=@PA x y;by_cases e:x.2<y.2
      .simp[this.2 (.inr ⟨heq,e⟩),e]
      .have:¬Ws x y<0:=λ h=>by rcases this.1 h with h|h <;> omega
       simp[this,e]
     repeat refine⟨rfl,?_⟩
     conv=>whnf
     rw[<- P];exact⟨rfl,(B.trans (H.trans (G.trans X))).lg⟩
    .have heq2:x.2=y.2:=by simpa using I
     obtain rfl:x=y:=Prod.ext heq heq2;rw[HN.2 (rfl:x=x)]at L
     repeat refine⟨rfl,?_⟩
     refine⟨Y,?_⟩
     conv=>whnf
     exact⟨rfl,i+1,T1,⟨B.trans (H.trans G),O1,O1,by rw[z,L];simp⟩,L1⟩
  .have hge':i=r.length:=by simp at I;omega
   have w:=Zce hi Q O1;rw[<- z]at w;have P:decide ((l.length:Int)<(r.length:Int))=decide (Wi l r<0):=by rw[Bool.eq_iff_iff,decide_eq_true_eq,decide_eq_true_eq,w];omega
   repeat refine⟨rfl,?_⟩
   conv=>whnf
   rw[<- P];exact⟨rfl,B.lg⟩
 .have hge:i=l.length:=by simp at I;omega
  have w:=Zce hi Q O1;rw[<- z]at w;have P:decide ((l.length:Int)<(r.length:Int))=decide (Wi l r<0):=by rw[Bool.eq_iff_iff,decide_eq_true_eq,decide_eq_true_eq,w];omega
  repeat refine⟨rfl,?_⟩
  conv=>whnf
  rw[<- P];exact⟨rfl,B.lg⟩
def Qir(a a':Option Addr)(n B c f:Nat)(l r:List (Int×Int))(w:Zd U a n 2 l (λ x vs=>vs=encII x))(z:Zd U a' B 2 r (λ x vs=>vs=encII x))(e:n<2^60) :
  Qb S 16 #[.slice a n c,.slice a' B f] (λ v U'=>v=.bool (decide (Wi l r<0))/\U'=U) U:=by
 obtain rfl:=w.1;obtain rfl:=z.1;exact Q37 a a' c f l r w z e
def Zeh{x:List (Int×Int)}{i:Nat}{s t:Int×Int}(f:x[i]?=some s)(w:x[i+1]?=some t):Wi ((x.drop i).take 1) ((x.drop (i+1)).take 1)<0↔Ws s t<0:=by
 rw[Hh f,Hh w,take_succ_cons,take_succ_cons,take_zero,take_zero,MH,MM];by_cases e:Ws s t=0 <;> simp[e]
end Go.Proofs
namespace Go.TM
open Go.Proofs (encII)
variable{T:Type}{P:Program}{S:Sys P T}{U U':Qa T}
def Zbr{b:Bool}{A:Prop}{n:Zh T}{f:Fm}{ds:List Deferred}{U:Qa T}(E:Fm->Qa T->Prop)(h:∀f' U',E f' U'->n f' ds U')(w:b=true->∀N,n=N->(∀f' U',E f' U'->N f' ds U')->A)(z:b=false->E f U):CB b A (n f ds U):=
 Qe (λ e=>w e n rfl h) λ e=>h _ _ (z e)
def Qan(U:Qa T)(l:List (Int×Int))(v:Value)(U':Qa T):Prop:=(∃a n c,v=.slice a n c)/\U.frz.lg U'/\Acc 62 2 v (l.flatMap encII) U'.M U.M
def Qan.le{l:List (Int×Int)}{v:Value}{U'':Qa T}(h:Qan U l v U')(k:U'.le U''):Qan U l v U'':=⟨h.1,h.2.1.trans k.lg,by rw[k.own];exact h.2.2⟩
def Qan.new{p:Nat}(h:U.le U'):Qan U [] (.slice (some ⟨p,0,none⟩) 0 0) (U'.put p (.cells #[] 62)):=
 ⟨⟨_,_,_,rfl⟩,⟨λ x o e=>h.imm x o e,⟨_,(append_nil _).symm⟩,h.tok⟩,.inr ⟨p,#[],0,0,rfl,rfl,Nat.le_refl _,rfl,by show _::U'.M=_;rw[h.own],S1⟩⟩
def Qan.give{f:FuncId}{xs:Value->Array Value}{l:List (Int×Int)}{v:Value}{Q:Value->Qa T->Prop}(h:Qan U l v U')
  (k:∀(w:Qa T)a cap,v=.slice a l.length cap->U.le w->Zd w.frz a l.length 2 l (λ x vs=>vs=encII x)->Qb S f (xs v) Q w):Qb S f (xs v) Q U':=by
 refine Qb.sep0 λ G=>?_;obtain⟨w,I,K,a,len,cap,rfl,F,B,E,-⟩:=h.2.2.freeze G (λ x o H=>h.2.1.imm x o H) h.2.1.tok;have z:l.length=len:=by have e:=(Q6 (f:=encII) (n:=2) (λ _=>rfl) l).symm.trans F;omega
 subst z;exact .pre I (k w a cap rfl K (HF (enc:=encII) (n:=2) (λ _=>rfl) B E D1))
def Qan.app{f:Fm}{K:Value->Qa T->Prop}{x y:Operand}{L new:List (Int×Int)}{v:Value}{N:Option Addr}{yl Y:Nat}(Q:Xd P 26 62 2)(B:Qan U L v U')(W:Zc f x=v)(X:Zc f y=.slice N yl Y)(G:Zd U' N yl 2 new λ x vs=>vs=encII x)(H:L.length+new.length<=1000)
  (h:∀F U'',Qan U (L++new) F U''->K F U''):OX S (.raw { dst:=none,op:=.call { callee:=.builtin .append,args:=#[x,y],argTypes:=#[26,26] },type:=26,pos := "", after:=#[],guard:=none }) f K U':=by
 have E:new.length=yl:=G.1;subst E
 refine Wv (v:=v) (cs:=L.flatMap encII) (new:=new.flatMap encII) (M₀:=U.M) Q W X B.2.2 (It (enc:=encII) (n:=2) (λ _=>rfl) G D1) (Q6 (f:=encII) (n:=2) (λ _=>rfl) new) (λ w V=>by
  obtain⟨z,-,I⟩:=mem_flatMap.1 V;simp[encII]at I;rcases I with rfl|rfl <;> rfl) (by rw[Q6 (f:=encII) (n:=2) (λ _=>rfl),Q6 (f:=encII) (n:=2) (λ _=>rfl)];omega) λ F M' e _=>?_
 obtain⟨Z,tl,tc,rfl,-⟩:=Acc.src (U:={ U' with M:=M' }) e;exact h _ _ ⟨⟨_,_,_,rfl⟩,⟨B.2.1.imm,⟨_,(append_nil _).symm⟩,B.2.1.tok⟩,by rw[flatMap_append];exact e⟩
def Qd3(U:Qa T)(b:Nat)(z:Array Value)(l:List (Int×Int))(v:Value)(U':Qa T):Prop:=∃e,Hlr U b 25 z e/\Qan e l v U'
def Qd3.le{b:Nat}{z:Array Value}{l:List (Int×Int)}{v:Value}{U'':Qa T}(h:Qd3 U b z l v U')(k:U'.le U''):Qd3 U b z l v U'':=let ⟨d,h1,h2⟩:=h;⟨d,h1,h2.le k⟩
def Qd3.frz{b:Nat}{z:Array Value}{l:List (Int×Int)}{v:Value}(h:Qd3 U b z l v U'):U.frz.lg U':=let ⟨_,h1,h2⟩:=h;h1.frz2.trans h2.2.1
def Qd3.give{b:Nat}{z:Array Value}{f:FuncId}{xs:Value->Array Value}{l:List (Int×Int)}{v:Value}{Q:Value->Qa T->Prop}(h:Qd3 U b z l v U')
  (k:∀(w:Qa T)a cap,v=.slice a l.length cap->Hlr U b 25 z w->Zd w.frz a l.length 2 l (λ x vs=>vs=encII x)->Qb S f (xs v) Q w):Qb S f (xs v) Q U':=
 let ⟨_,h1,h2⟩:=h;Qan.give (xs:=xs) h2 λ w a cap e B E=>k w a cap e (h1.le B) E
def Qan.alloc{b:Nat}{z:Array Value}{l:List (Int×Int)}{v:Value}(h:Qan U l v U')(K:U'.free b):∃U'',Q1 (U'.put b (.cells z 25)) U''/\Qd3 U b z l v U'':=by
 have L:U.I b=none:=by
  cases H:U.I b with
  |none=>rfl
  |some o=>have:=h.2.1.imm b o H;rw[K.1]at this;cases this
 have B:Hlr U b 25 z { (U'.put b (.cells z 25))with M:=.obj b (.cells z 25 (0,0))::U.M }:=⟨h.2.1.imm,rfl,h.2.1.tok,L⟩;rcases h.2.2 with⟨e,f,w⟩|⟨a,c,len,cap,e,f,w,E,F,G⟩
 .refine⟨_,.refl _,_,B,h.1,⟨λ _ _ h=>h,⟨_,(append_nil _).symm⟩,rfl⟩,.inl ⟨e,f,?_⟩⟩;show .obj b _::U'.M=.obj b _::U.M;rw[w]
 .refine⟨{ (U'.put b (.cells z 25))with M:=.obj a (.cells c 62 (0,0))::.obj b (.cells z 25 (0,0))::U.M },Hb ?_,_,B,h.1,⟨λ _ _ h=>h,⟨_,(append_nil _).symm⟩,rfl⟩,.inr ⟨a,c,len,cap,e,f,w,E,rfl,G⟩⟩;show(.obj b (.cells z 25 (0,0))::U'.M).Perm _;rw[F];exact .swap ..
end Go.TM
namespace Go.TM
open Go.Proofs (encII)
variable{T:Type}{U:Qa T}{b:Bk}
def StaO.sure{l:List (Int×Int)}{e:BH}{f:Int}(h:Go.Proofs.StaO b l U e f)(z:b.FrL l)(B:W4 (b.stys l).A=false):f=0/\Zt U.frz e (b.stys l)/\e.rl<=e.rc:=by
 rcases h with⟨⟨rfl,w⟩|⟨rfl,-,w⟩,-⟩|⟨rfl,E,-,-,F⟩
 .exact absurd z w
 .rw[B]at w;cases w
 .exact⟨rfl,E,F⟩
end Go.TM
namespace Go.Proofs
open Go.TM
def Qlj:List (List (Nat×St)):=[[(0,.xd 192 2 4),(0,.m 194 11),(0,.m 195 24),(0,.d 196 (.sub3 2 (.t 194) none (some (.t 195)))),(0,.m 198 11),(0,.m 199 24),(0,.xa 200 199),(0,.d 201 (.sub3 2 (.t 198) (some (.t 200)) none)),(2,.d 193 (.bsl 62 0 #[] [])),(2,.xz 197 193 196 26),(2,.xz 202 197 201 26),(2,.d 203 (.call (.func 10) #[(.t 192),(.t 202)])),(0,.m 191 203),(0,.xe 204 191 0),(0,.xe 205 191 1),(2,.d 25 (.alloc 25 #[(.slice none 0 0),(.slice none 0 0)])),(2,⟨.st 2 (.t 25) (.t 204),none,none,none⟩)],
 [(0,.xd 192 2 4),(0,.m 194 11),(0,.m 195 24),(0,.d 196 (.sub3 2 (.t 194) none (some (.t 195)))),(0,.m 198 11),(0,.m 199 24),(0,.xa 200 199),(0,.d 201 (.sub3 2 (.t 198) (some (.t 200)) none)),(2,.d 193 (.bsl 62 0 #[] [])),(2,.xz 197 193 196 26),(2,.xz 202 197 201 26),(2,.d 25 (.alloc 25 #[(.slice none 0 0),(.slice none 0 0)])),(2,.d 203 (.call (.func 10) #[(.t 192),(.t 202)])),(0,.m 191 203),(0,.xe 204 191 0),(0,.xe 205 191 1),(2,⟨.st 2 (.t 25) (.t 204),none,none,none⟩)],
 [(0,.xd 192 2 4),(0,.m 194 11),(0,.m 195 24),(0,.d 196 (.sub3 2 (.t 194) none (some (.t 195)))),(0,.m 198 11),(0,.m 199 24),(0,.xa 200 199),(0,.d 201 (.sub3 2 (.t 198) (some (.t 200)) none)),(2,.d 193 (.bsl 62 0 #[] [])),(2,.xz 197 193 196 26),(2,.d 25 (.alloc 25 #[(.slice none 0 0),(.slice none 0 0)])),(2,.xz 202 197 201 26),(2,.d 203 (.call (.func 10) #[(.t 192),(.t 202)])),(0,.m 191 203),(0,.xe 204 191 0),(0,.xe 205 191 1),(2,⟨.st 2 (.t 25) (.t 204),none,none,none⟩)],
 [(0,.xd 192 2 4),(0,.m 194 11),(0,.m 195 24),(0,.d 196 (.sub3 2 (.t 194) none (some (.t 195)))),(0,.m 198 11),(0,.m 199 24),(0,.xa 200 199),(0,.d 201 (.sub3 2 (.t 198) (some (.t 200)) none)),(2,.d 193 (.bsl 62 0 #[] [])),(2,.d 25 (.alloc 25 #[(.slice none 0 0),(.slice none 0 0)])),(2,.xz 197 193 196 26),(2,.xz 202 197 201 26),(2,.d 203 (.call (.func 10) #[(.t 192),(.t 202)])),(0,.m 191 203),(0,.xe 204 191 0),(0,.xe 205 191 1),(2,⟨.st 2 (.t 25) (.t 204),none,none,none⟩)],
 [(0,.xd 192 2 4),(0,.m 194 11),(0,.m 195 24),(0,.d 196 (.sub3 2 (.t 194) none (some (.t 195)))),(0,.m 198 11),(0,.m 199 24),(0,.xa 200 199),(0,.d 201 (.sub3 2 (.t 198) (some (.t 200)) none)),(2,.d 25 (.alloc 25 #[(.slice none 0 0),(.slice none 0 0)])),(2,.d 193 (.bsl 62 0 #[] [])),(2,.xz 197 193 196 26),(2,.xz 202 197 201 26),(2,.d 203 (.call (.func 10) #[(.t 192),(.t 202)])),(0,.m 191 203),(0,.xe 204 191 0),(0,.xe 205 191 1),(2,⟨.st 2 (.t 25) (.t 204),none,none,none⟩)]]
def Zbh:List St:=[.m 26 205]
def SyV(b:Bk)(l:List (Int×Int))(v:Value)(U':Qa Tk):Prop:=∃(e:BH)(f:Int),v=.tuple #[e.v,.int .i64 f]/\StaO b l U' e f
def SyV.le{b:Bk}{l:List (Int×Int)}{v:Value}{U U':Qa Tk}(h:SyV b l v U)(k:U.frz.lg U'.frz):SyV b l v U':=let ⟨a,c,e,h1⟩:=h;⟨a,c,e,h1.imp id λ⟨x,y,z⟩=>⟨x,y.lg k,z⟩⟩
def SyV.sta{b:Bk}{l:List (Int×Int)}{w:BH}{f:Int}{U:Qa Tk}(h:SyV b l (.tuple #[w.v,.int .i64 f]) U):StaO b l U w f:=by
 obtain⟨z,E,e,F⟩:=h;obtain⟨B,rfl⟩:w.v=z.v/\f=E:=by simpa using e
 obtain rfl:w=z:=by cases w;cases z;simp[BH.v]at B;obtain⟨⟨rfl,rfl,rfl⟩,rfl,rfl,rfl⟩:=B;rfl
 exact F
abbrev zB:Array Value:=#[.slice none 0 0,.slice none 0 0]
attribute [local irreducible] Qb Zr W5
set_option maxHeartbeats 4000000 in
def Zef{U:Qa Tk}(bf:U.tok=⟨0,.out,none⟩)(hk:JT U)(h:BH)(b:Bk)(hb:Zt U.frz h b)(c6:Qo8 b)(c8:h.rl<=h.rc)(dl:h.cl<=h.cc)(rt:Nat)(dx:rt<256)(st:Bool)(pa:Option Addr)(pl pc:Nat)(p:List Nat)(hp:Zd U.frz pa pl 1 p λ(n:Nat)vs=>vs=[.int .u16 (n:Int)]/\n<65536)(dt:pl<2^60) :
  J Zs (Fin Tryz.prog λ v U'=>v=.bool true/\U.lg U') true (Rf (Frame.enter Tryz.prog 4 #[h.v,.int .u8 (rt:Int),.bool st,.slice pa pl pc] .normal) []) U:=by
 refine Zd2 (args:=[_,_,_,_]) (Q:=λ v U'=>v=.bool true/\U.lg U') Zel Qd K1 S1 (λ v U' q=>q.2.tok.trans bf) ?_;have dm:=hb.cs.1;have dv:=hb.rs.1;have fin:∀U2:Qa Tk,U.lg U2->Qb Zs 6 #[] (λ v U'=>v=.bool true/\U'=U2) U2:=λ U2 h=>Zau (h.tok.trans bf) (hk.lg h)
 repeat refine⟨rfl,?_⟩
 conv=>whnf
 intro B U1 aa hB;have hB:Zo U1 B #[.slice h.ra h.rl h.rc,.slice h.ca h.cl h.cc]:=hB;have ct:Zo U1.frz B #[.slice h.ra h.rl h.rc,.slice h.ca h.cl h.cc]:=hB;have aw:=hb.lg aa.lg.frz2;have c7:∀w:Qa Tk,U1.frz.lg w->Zd w pa pl 1 p λ(n:Nat)vs=>vs=[.int .u16 (n:Int)]/\n<65536:=λ w Z=>Zd.lg (R':=λ(n:Nat)vs=>vs=[.int .u16 (n:Int)]/\n<65536) hp (aa.lg.frz2.trans Z) λ _ _ h=>h;have a2:∀w:Qa Tk,U1.frz.lg w->Ju w ⟨B,0,none⟩ [.slice h.ra h.rl h.rc,.slice h.ca h.cl h.cc]:=λ w Z=>(ct.lg Z).rd;refine⟨_,⟨rfl,a2 _ Qy⟩,Q8j.any,(Q1w h b aw c6 c8).mono ?_⟩;rintro _ U'⟨⟨g,rfl,hg⟩,a8⟩-;obtain rfl:=a8.symm;cases g with
 |false=>
  refine⟨MV.any,(fin _ aa.lg).go λ _=>?_⟩
  repeat refine⟨rfl,?_⟩
  conv=>whnf
  exact aa.lg
 |true=>
 have hf:b.flaw Zk=0:=hg rfl;refine⟨_,hB.sees3 (o:=0) rfl,?_⟩
 repeat refine⟨rfl,?_⟩
 conv=>whnf
 apply Qe<;>intro hc
 .refine⟨MV.any,(fin _ aa.lg).go λ _=>?_⟩
  repeat refine⟨rfl,?_⟩
  conv=>whnf
  exact aa.lg
 have c9:0<h.rl:=by simp at hc;omega
 have a1:=Bk.ok_of hf;have dr:=a1.nr;have dq:=a1.nc;have an:JT U1.frz:=(hk.lg aa.lg:JT U1);obtain⟨q,ck⟩:∃q,q=rt % h.rl:=⟨_,rfl⟩;have hq:q<h.rl:=ck▸Nat.mod_lt _ c9;have du:q<b.rs.length:=O1
 have cm:(IntKind.wrap .i64 (rt:Int)).tmod (h.rl:Nat)=(q:Nat):=by rw[JC O1,ck];exact(Int.ofNat_tmod _ _).symm
 have hF:b.askF (q:Int)=0:=by unfold Bk.askF;rw[if_pos hf,if_pos (by simp only[Q_,Bool.and_eq_true,decide_eq_true_eq];unfold Bk.nr;omega)]
 have ae:=Bk.holds_found a1 hF (st:=st);refine⟨_,hB.sees3 (o:=0) rfl,rfl,O1,?_⟩;rw[cm]
 conv=>whnf
 refine Zbr (λ f' U'=>U'=U1/\XE f' [(2,.bool st),(3,.slice pa pl pc),(4,.pointer (some ⟨B,0,none⟩)),(9,.int .i64 q),(10,.int .i64 (X3 st))]) ?_ (λ hc N eN hn=>?_) (λ hc=>?_)
 rotate_left
 .rw[show st=true by simpa using hc]at hn ⊢;rw[eN];clear eN
  repeat refine⟨rfl,?_⟩
  conv=>whnf
  exact hn _ _ T1
 .rw[show st=false by simpa using hc];exact T1
 rintro f' U'⟨a8,am⟩;obtain rfl:=a8.symm;rw[<- am.ovr];clear am;obtain⟨o,ho⟩:∃o,o=b.stF (q:Int) st:=⟨_,rfl⟩;obtain⟨fd,az⟩:∃fd,fd=o.isSome:=⟨_,rfl⟩;obtain⟨w,Z⟩:∃w,w=X3 st:=⟨_,rfl⟩;obtain⟨F,b4⟩:∃F,F=b.fatR q:=⟨_,rfl⟩;rw[<- Z];rw[<- ho,<- az,<- b4,<- Z]at ae;refine⟨_,⟨rfl,a2 _ Qy⟩,YW.any,(TX (aa.tok.trans bf) h b aw (hk.lg aa.lg) (q:Int) st).mono ?_⟩;rintro _ U2⟨⟨v1,rfl,la,lc,rfl,hL,ab⟩,av⟩-;rw[hF];rw[<- ho]at hL ab;rw[<- ho,<- az];have cz:=aw.lg av.lg.frz2;have dk:=aa.trans av;have dp:∀w:Qa Tk,U1.frz.lg w->JT w:=λ w Z=>an.lg Z;have c4:∀w:Qa Tk,U1.frz.lg w.frz->Qb Zs 14 #[h.v,.int .i64 q] (λ v U'=>v=.tuple #[.int .i64 (b.fatR q),.bool true]/\U'=w) w:=λ w Z=>Qbb h b (aw.lg Z) (an.lg ⟨Z.imm,⟨_,(append_nil _).symm⟩,Z.tok⟩) hf q hq;refine⟨_,⟨rfl,a2 _ (Oj Qy av)⟩,Qd6.any,(c4 _ av.lg.frz2).go λ _=>?_⟩;rw[<- b4]
 repeat refine⟨rfl,?_⟩
 conv=>whnf
 refine Jb (λ hc=>?g1) (λ hc=>?g2)
 case' g1=>
  repeat refine⟨rfl,?_⟩
  conv=>whnf
  rw[show(!(fd==(F==w)))=false by rw[ae];revert hc;cases F==0 <;> simp]
  repeat refine⟨rfl,?_⟩
  conv=>whnf
  refine Jb (λ ax=>?g1a) (λ ax=>?g1b)
  case' g1a=>
   have h0:o=none:=by cases o with
    |none=>rfl
    |some y=>rw[az]at ax;simp at ax
   repeat refine⟨rfl,?_⟩
   conv=>whnf
   refine Qe (λ ay=>?_) (λ ay=>?g1c)
   .exfalso;rw[h0]at ay;simp at ay
  case' g1b=>(conv=>whnf);(repeat(refine⟨rfl,?_⟩;conv=>whnf))
 case' g2=>
  repeat refine⟨rfl,?_⟩
  conv=>whnf
  rw[show(!(fd==true))=false by rw[ae];revert hc;cases F==0 <;> simp]
  repeat refine⟨rfl,?_⟩
  conv=>whnf
  refine Jb (λ ax=>?g2a) (λ ax=>?g2b)
  case' g2a=>
   have h0:o=none:=by cases o with
    |none=>rfl
    |some y=>rw[az]at ax;simp at ax
   repeat refine⟨rfl,?_⟩
   conv=>whnf
   refine Qe (λ ay=>?_) (λ ay=>?g2c)
   .exfalso;rw[h0]at ay;simp at ay
  case' g2b=>(conv=>whnf);(repeat(refine⟨rfl,?_⟩;conv=>whnf))
 all_goals
  refine⟨_,⟨rfl,a2 _ (Oj Qy av)⟩,Q8m.any,(Qsm h b cz pa pl pc p (c7 _ av.lg.frz2)).mono ?_⟩;rintro _ U3⟨⟨x,xa,xc,rfl,hX,cp,dy,co⟩,bi⟩-;have bh:=av.trans bi;refine⟨_,⟨rfl,a2 _ (Oj Qy bh)⟩,Qb8.any,(Qcj h b (aw.lg bh.lg.frz2) (an.lg (Oj Qy bh)) hf x xa xc hX O1 co).mono ?_⟩;rintro _ U4⟨⟨K,ff,rfl,hS⟩,a5⟩-;have a4:=bh.trans a5
  repeat refine⟨rfl,?_⟩
  conv=>whnf
  intro a3 bp;refine⟨_,.refl _,rfl,HP (vs:=[.slice K.ra K.rl K.rc,.slice K.ca K.cl K.cc]) rfl (by simp[Value.single]) ?_⟩;have I:=Hlr.made (e:=25) (c:=[.slice K.ra K.rl K.rc,.slice K.ca K.cl K.cc].toArray) (Qa.le.refl U4) bp;generalize U4.put a3 (.cells [.slice K.ra K.rl K.rc,.slice K.ca K.cl K.cc].toArray 25)=U5 at I ⊢;clear bp
  repeat refine⟨rfl,?_⟩
  conv=>whnf
  refine Zbr (λ f' U'=>Hlr U4 a3 25 [.slice K.ra K.rl K.rc,.slice K.ca K.cl K.cc].toArray U'/\XE f' [(4,.pointer (some ⟨B,0,none⟩)),(9,.int .i64 q),(10,.int .i64 w),(11,.slice la (o.getD []).length lc),(12,.bool fd),(17,.pointer (some ⟨a3,0,none⟩))]) ?_ (λ hc N eN hn=>?_) (λ hc=>?_)
  rotate_left
  .have h0:ff=0:=by simpa using hc
   obtain⟨b9,bc,a7,dw⟩:Zt U4.frz K (b.stys x)/\b.FrL x/\W4 (b.stys x).A=false/\K.rl<=K.rc:=by
    rcases hS with⟨⟨e,-⟩|⟨e,-⟩,-⟩|⟨-,hS⟩
    .omega
    .omega
    .exact hS
   have a6:(b.stys x).flaw Zk=0:=by rw[bc.flaw hf,if_neg (by rw[a7];simp)]
   have de:K.rl=h.rl:=by have:=b9.rs.1;rw[Bk.stys_rs]at this;omega
   obtain⟨G,hG⟩:∃G,G=(b.stys x).fatR q:=⟨_,rfl⟩;rw[eN];clear eN;refine⟨_,⟨rfl,Ze [] I.own⟩,Qd6.any,(Qbb K (b.stys x) (b9.lg I.frz2) (an.lg (a4.lg.frz2.trans I.frz1)) a6 q O1).go λ _=>?_⟩;rw[<- hG]
   repeat refine⟨rfl,?_⟩
   conv=>whnf
   refine Jb (λ hg=>?_) (λ hg=>?_)
   rotate_left
   case' _=>(conv=>whnf);(repeat(refine⟨rfl,?_⟩;conv=>whnf))
   rotate_left
   case' _=>
    have hs:G=w:=by simpa using hg
    obtain⟨y,hy,cq,-⟩:=Bk.holds_other a1 hF bc a7 (by rw[<- hG,hs,Z]);have bl:o=some y:=ho.trans hy;have ce:fd=true:=by rw[az,bl];rfl
    repeat refine⟨rfl,?_⟩
    conv=>whnf
    refine Jb (λ a0=>?_) (λ a0=>?_)
    rotate_left
    .exfalso;rw[ce]at a0;cases a0
    repeat refine⟨rfl,?_⟩
    conv=>whnf
    refine Qe (λ bu=>?_) (λ bu=>?_)
    .exfalso;rw[bl]at bu;have:(x.length:Int)<(y.length:Int):=by simpa using bu
     omega
   all_goals
    refine⟨Nat×Bool,λ y=>[(4,.pointer (some ⟨B,0,none⟩)),(9,.int .i64 q),(10,.int .i64 w),(11,.slice la (o.getD []).length lc),(12,.bool fd),(16,.slice xa x.length xc),(17,.pointer (some ⟨a3,0,none⟩)),(18,.int .i64 G),(20,.bool y.2),(21,.int .i64 (y.1+1:Nat))],
     λ y U'=>U5.le U'/\(y.1=0\/y.1+1<=x.length)/\(y.2=true->∀k s t,k<y.1->x[k]?=some s->x[k+1]?=some t->Ws s t<0),λ y=>x.length-y.1,(0,true),T1,⟨.refl _,.inl rfl,λ _ k s t h=>O1⟩,?_⟩
    rintro⟨i,up⟩f U6⟨ad,hi,bv⟩;simp only at hi bv;have af:Je (((i+1:Nat):Int)+1):=I1
    repeat refine⟨rfl,?_⟩
    conv=>whnf
    refine Qe (λ bk=>?_) (λ cf=>?_)
    .have bk:i+1<x.length:=by simp at bk;omega
     cases up with
     |false=>
      conv=>whnf
      intro U7 h7 _
      repeat refine⟨rfl,?_⟩
      refine⟨af,?_⟩
      conv=>whnf
      exact⟨rfl,(i+1,false),T1,⟨ad.trans h7,.inr (by show i+1+1<=_;omega),λ h=>by cases h⟩,L1⟩
     |true=>
      refine⟨I1,?_⟩;refine⟨i,i+1,⟨by show((i+1:Nat):Int)-1=(i:Int);omega,rfl,O1,O1⟩,?_⟩;refine⟨I1,?_⟩;refine⟨i+1,i+2,⟨rfl,by show((i+1:Nat):Int)+1=((i+2:Nat):Int);omega,O1,O1⟩,?_⟩
      conv=>whnf
      intro U7 h7 _;obtain⟨s,hs⟩:∃s,x[i]?=some s:=⟨_,getElem?_eq_getElem O1⟩;obtain⟨t,ht⟩:∃t,x[i+1]?=some t:=⟨_,getElem?_eq_getElem (by omega:i+1<x.length)⟩;have b7:Zd U7 xa x.length 2 x (λ x vs=>vs=encII x):=(hX.lg (a5.lg.frz2.trans I.frz1) λ _ _ h=>h).lg (ad.trans h7).lg λ _ _ h=>h;have cx:=(b7.drop cp (j:=i) O1).take (i:=i+1-i) O1;have cy:=(b7.drop cp (j:=i+1) O1).take (i:=i+2-(i+1)) O1;refine⟨Qq9.any,(Qir _ _ _ _ _ _ _ _ cx cy O1).go λ _=>?_⟩;have e1:i+1-i=1:=O1
      have e2:i+2-(i+1)=1:=O1
      rw[e1,e2];have ch:=Zeh hs ht
      repeat refine⟨rfl,?_⟩
      refine⟨af,rfl,(i+1,decide (Wi ((x.drop i).take 1) ((x.drop (i+1)).take 1)<0)),T1,⟨ad.trans h7,.inr (by show i+1+1<=_;omega),λ T k s' t' hk h1 h2=>?_⟩,L1⟩;have hk:k<i+1:=hk;by_cases e:k=i
      .subst e;rw[hs]at h1;rw[ht]at h2;cases h1;cases h2;exact ch.1 (by simpa using T)
      .exact bv rfl k s' t' O1 h1 h2
    .have cf:x.length<=i+1:=by simp at cf;omega
     repeat refine⟨rfl,?_⟩
     conv=>whnf
     refine Jb (λ hg=>?_) (λ hg=>?_)
     .have hs:G=w:=by simpa using hg
      obtain⟨y,hy,cq,cj⟩:=Bk.holds_other a1 hF bc a7 (by rw[<- hG,hs,Z]);have bl:o=some y:=ho.trans hy;cases up with
      |false=>
       repeat refine⟨rfl,?_⟩
       conv=>whnf
       exact hn _ _ ⟨I.le ad,rfl,rfl,rfl,rfl,rfl,rfl,trivial⟩
      |true=>
       have b8:=Zcp (l:=x) λ k s t h1 h2=>bv rfl k s t (by have:=(List.getElem?_eq_some_iff.1 h2).1;omega) h1 h2
       repeat refine⟨rfl,?_⟩
       conv=>whnf
       refine Jb (λ a0=>?_) (λ a0=>?_)
       .conv=>whnf
        have bt:Zd U6 la (o.getD []).length 2 (o.getD []) (λ x vs=>vs=encII x):=(hL.lg ((bi.trans a5).lg.frz2.trans I.frz1) λ _ _ h=>h).lg ad.lg λ _ _ h=>h;have cw:Zd U6 xa x.length 2 x (λ x vs=>vs=encII x):=(hX.lg (a5.lg.frz2.trans I.frz1) λ _ _ h=>h).lg ad.lg λ _ _ h=>h;refine⟨Qq9.any,(Qir _ _ _ _ _ _ _ _ cw bt O1).go λ _=>?_⟩
        have c5:¬Wi x (o.getD [])<0:=by
         rw[bl]at a0 ⊢
         have e9:(x.length:Int)=(y.length:Int):=by simpa using a0
         exact cj b8 (by omega)
        rw[decide_eq_false c5]
        repeat refine⟨rfl,?_⟩
        conv=>whnf
        exact hn _ _ ⟨I.le ad,rfl,rfl,rfl,rfl,rfl,rfl,trivial⟩
       .repeat refine⟨rfl,?_⟩
        conv=>whnf
        exact hn _ _ ⟨I.le ad,rfl,rfl,rfl,rfl,rfl,rfl,trivial⟩
     .repeat refine⟨rfl,?_⟩
      conv=>whnf
      exact hn _ _ ⟨I.le ad,rfl,rfl,rfl,rfl,rfl,rfl,trivial⟩
  .exact⟨I,rfl,rfl,rfl,rfl,rfl,rfl,trivial⟩
  rintro f' U6⟨I,am⟩;rw[<- am.ovr];clear am;have cg:U4.lg U6:=⟨I.imm,⟨[_],I.own⟩,I.tok⟩;have dd:U1.frz.lg U6.frz:=a4.lg.frz2.trans I.frz2;have a9:=aa.lg.trans (a4.lg.trans cg);cases o with
  |none=>
   have ba:fd=false:=by rw[az];rfl
   rw[ba]
   repeat refine⟨rfl,?_⟩
   conv=>whnf
   refine(fin _ a9).mono ?_;rintro _ U'⟨rfl,a8⟩-;obtain rfl:=a8.symm
   repeat refine⟨rfl,?_⟩
   conv=>whnf
   exact a9
  |some y=>
   have ba:fd=true:=by rw[az];rfl
   rw[ba];obtain⟨dc,db⟩:=Bk.stF_good a1 hF ho.symm;obtain⟨a7,c3⟩:=Bk.good_of.1 db;have bw:=Bk.sub_frL dc;have cq:=Bk.stF_len hF ho.symm
   have bq:∀l,b.FrL l->∀s∈l,0<=s.1/\s.1<b.nc/\0<=s.2/\s.2<b.nc:=λ l hl s hs=>by
    have bj:=hl.all.1 s hs;have h1:=bj.cl;have h2:=bj.c0;exact⟨h2,by unfold Bk.nc;omega,bj.u0,bj.ul⟩
   have ab:y.length<=lc:=ab;have bt:Zd U6.frz la y.length 2 y (λ x vs=>vs=encII x):=Zd.lg (R':=λ x vs=>vs=encII x) hL ((bi.trans a5).lg.frz2.trans I.frz2) λ _ _ h=>h
   repeat refine⟨rfl,?_⟩
   refine⟨_,⟨rfl,a2 _ (a4.lg.frz2.trans I.frz1)⟩,Qb8.any,(Qcj h b (aw.lg dd) (an.lg (a4.lg.frz2.trans I.frz1)) hf y la lc bt O1 (bq y bw)).mono ?_⟩;rintro _ U7⟨⟨h2,f2,rfl,cu⟩,h7⟩da;obtain⟨rfl,bn,dh⟩:=StaO.sure cu bw a7;have T:Hlr { U7 with M:=U4.M } a3 25 [.slice K.ra K.rl K.rc,.slice K.ca K.cl K.cc].toArray U7:=⟨λ _ _ h=>h,(I.le h7).own,rfl,da (.obj a3 (.cells [.slice K.ra K.rl K.rc,.slice K.ca K.cl K.cc].toArray 25 (0,0))) (by rw[(I.le h7).own];exact mem_cons_self ..)⟩;have c1:(b.stys y).flaw Zk=0:=by rw[bw.flaw hf,if_neg (by rw[a7];simp)]
   have df:h2.rl=h.rl:=by have:=bn.rs.1;rw[Bk.stys_rs]at this;omega
   refine⟨rfl,T.write (vs:=[.slice h2.ra h2.rl h2.rc,.slice h2.ca h2.cl h2.cc]) rfl (by simp[Value.single]) λ U8 h8 b2=>?_⟩;have cr:U7.frz.lg U8.frz:=⟨h8.imm,⟨[],rfl⟩,h8.tok⟩;have b0:U4.le U8:=⟨λ x o hx=>h8.imm x o (h7.imm x o (I.imm x o hx)),h8.own,h8.tok.trans (h7.tok.trans I.tok)⟩;have bz:=a4.trans b0;refine⟨_,⟨rfl,b2.rd⟩,?_⟩;refine⟨Qd6.any,(Qbb h2 (b.stys y) (bn.lg cr) (an.lg (Oj Qy bz)) c1 q O1).go λ _=>?_⟩;rw[c3,<- Z]
   repeat refine⟨rfl,?_⟩
   conv=>whnf
   refine Qe (λ hc=>absurd hc S1) (λ _=>?_);refine⟨Nat,λ i=>[(4,.pointer (some ⟨B,0,none⟩)),(9,.int .i64 q),(10,.int .i64 w),(11,.slice la y.length lc),(24,.int .i64 i)],λ i U'=>U8.le U'/\i<=y.length,λ i=>y.length-i,0,T1,⟨.refl _,O1⟩,?_⟩;rintro i f S⟨h9,hi⟩;have af:Je ((i:Int)+1):=I1
   have bs:=bz.trans h9;have bm:U1.frz.lg S.frz:=bs.lg.frz2
   repeat refine⟨rfl,?_⟩
   conv=>whnf
   apply Qe<;>intro hc
   .have bk:i<y.length:=by simpa using hc
    have ao:∀w:Qa Tk,S.frz.lg w->Ju w ⟨B,0,none⟩ [.slice h.ra h.rl h.rc,.slice h.ca h.cl h.cc]:=λ w Z=>a2 w (bm.trans Z);have b6:∀w:Qa Tk,S.frz.lg w->Zd w la y.length 2 y (λ x vs=>vs=encII x):=λ w Z=>Zd.lg (R':=λ x vs=>vs=encII x) hL ((bi.trans a5).lg.frz2.trans ((b0.trans h9).lg.frz2.trans Z)) λ _ _ h=>h
    have bd:∀w:Qa Tk,S.frz.lg w->Zd w (if lc=0 then la else la.map (·.add (0*2))) (i-0) 2 (y.take i) (λ x vs=>vs=encII x):=λ w Z=>by
     have:=((b6 w Z).drop ab (j:=0) O1).take (i:=i-0) O1
     rwa [drop_zero]at this
    have be:∀w:Qa Tk,S.frz.lg w->Zd w (if lc=i+1 then la else la.map (·.add ((i+1)*2))) (y.length-(i+1)) 2 (y.drop (i+1)) (λ x vs=>vs=encII x):=λ w Z=>(b6 w Z).drop ab (j:=i+1) O1;obtain⟨e1,e2,e3⟩:=Bk.holds_less a1 hF ho.symm bk
    have bg:∀(ga:Option Addr)(gc:Nat)(w:Qa Tk),S.frz.lg w.frz->Zd w.frz ga (y.take i++y.drop (i+1)).length 2 (y.take i++y.drop (i+1)) (λ x vs=>vs=encII x)->Qb Zs 10 #[h.v,.slice ga (y.take i++y.drop (i+1)).length gc] (λ v U''=>SyV b (y.take i++y.drop (i+1)) v U''/\w.le U'') w:=λ ga gc w Z hR=>
     (Qcj h b (aw.lg (bm.trans Z)) (an.lg (show U1.frz.lg w from⟨(bm.trans Z).imm,⟨_,(append_nil _).symm⟩,(bm.trans Z).tok⟩)) hf _ ga gc hR S3 (bq _ e1)).mono λ v U''⟨⟨K,f,e,hS⟩,E⟩=>⟨⟨K,f,e,hS⟩,E⟩
    conv=>whnf
    intro dj bb
    refine Yu (mu:=[]) (ops:=PQ Tryz.f4 32) (id:=32) bb [1,5,10,11,15,16] [[0,2,3,4,6,7,8,9,1,5,10,11,12,13,14,15,16],[0,2,3,4,6,7,8,9,1,5,10,15,11,12,13,14,16],[0,2,3,4,6,7,8,9,1,5,15,10,11,12,13,14,16],[0,2,3,4,6,7,8,9,1,15,5,10,11,12,13,14,16],[0,2,3,4,6,7,8,9,15,1,5,10,11,12,13,14,16]] [17] Qlj Zbh Qd K1 K1 K1 K1 K1
     (λ f' bx U'=>bx=[]/\∃H K ff,XE f' [(4,.pointer (some ⟨B,0,none⟩)),(9,.int .i64 q),(10,.int .i64 w),(11,.slice la y.length lc),(24,.int .i64 i),(25,.pointer (some ⟨H,0,none⟩)),(205,.int .i64 ff)]/\S.le U'/\Zo U' H #[.slice K.ra K.rl K.rc,.slice K.ca K.cl K.cc]/\StaO b (y.take i++y.drop (i+1)) U' K ff) ?_ ?_
    .intro l hl;simp only[Qlj,mem_cons,not_mem_nil,or_false]at hl;rcases hl with rfl|rfl|rfl|rfl|rfl
     .refine⟨_,⟨rfl,ao _ ⟨λ _ _ h=>h,⟨[],rfl⟩,rfl⟩⟩,0,i,⟨rfl,rfl,O1,O1⟩,af,i+1,y.length,⟨rfl,rfl,O1,O1⟩,λ v U'=>Qan S [] v U',λ v X Y I E=>I.le E,λ v U' I=>I.2.1,λ U' L=>?_,λ v P=>?_⟩
      .conv=>whnf
       intro p hp;exact⟨_,.refl _,_,.refl _,.new L⟩
      obtain⟨_,⟨ag,ap,aj,rfl⟩,-,-⟩:=P;refine⟨λ v U'=>Qan S ([]++y.take i) v U',λ v X Y I E=>I.le E,λ v U' I=>I.2.1,λ U' L=>?_,λ v P=>?_⟩
      .conv=>whnf
       exact Qan.app VD L rfl rfl (bd _ L.2.1) S3 λ v' U'' hA=>⟨_,.refl _,hA⟩
      obtain⟨_,⟨ah,aq,ak,rfl⟩,-,-⟩:=P;refine⟨λ v U'=>Qan S (([]++y.take i)++y.drop (i+1)) v U',λ v X Y I E=>I.le E,λ v U' I=>I.2.1,λ U' L=>?_,λ v P=>?_⟩
      .conv=>whnf
       exact Qan.app VD L rfl rfl (be _ L.2.1) S3 λ v' U'' hA=>⟨_,.refl _,hA⟩
      obtain⟨_,⟨ai,au,al,rfl⟩,-,-⟩:=P;refine⟨λ v U'=>S.le U'/\SyV b (y.take i++y.drop (i+1)) v U',λ v X Y I E=>⟨I.1.trans E,I.2.le E.lg.frz2⟩,λ v U' I=>Qy.trans I.1.lg,λ U' L=>?_,λ v P=>?_⟩
      .refine⟨Qb8.any,(Qan.give (xs:=λ v=>#[h.v,v]) L λ V ga gc e E hR=>?_).mono λ v U' P _=>⟨U',.refl _,P⟩⟩;rw[e];exact(bg ga gc V E.lg.frz2 hR).mono λ v U''⟨q1,q2⟩=>⟨E.trans q2,q1⟩
      obtain⟨_,-,K,ff,rfl,-⟩:=P;refine⟨λ v U'=>∃H,v=.pointer (some ⟨H,0,none⟩)/\HqV S (SyV b (y.take i++y.drop (i+1)) (.tuple #[K.v,.int .i64 ff])) H 25 zB U',λ v X Y⟨H,e,I⟩E=>⟨H,e,I.le E⟩,λ v U'⟨H,e,I⟩=>I.frz,λ U' L=>?_,λ v P=>?_⟩
      .conv=>whnf
       intro H W;exact⟨_,.refl _,_,.refl _,H,rfl,U',L.1,L.2,.made (.refl _) W⟩
      obtain⟨_,H,rfl,-⟩:=P;refine⟨λ v U'=>S.le U'/\Zo U' H #[.slice K.ra K.rl K.rc,.slice K.ca K.cl K.cc]/\SyV b (y.take i++y.drop (i+1)) (.tuple #[K.v,.int .i64 ff]) U',λ v X Y I E=>⟨I.1.trans E,I.2.1.le E,I.2.2.le E.lg.frz2⟩,λ v U' I=>Qy.trans I.1.lg,λ U' L=>?_,λ v P=>?_⟩
      .obtain⟨b25',e,L⟩:=L;obtain rfl:H=b25':=by simpa using e
       obtain⟨Ud,k1,k2,k3⟩:=L
       conv=>whnf
       exact⟨rfl,k3.write (vs:=[.slice K.ra K.rl K.rc,.slice K.ca K.cl K.cc]) rfl (by simp[Value.single]) λ U2 E ac=>⟨_,.refl _,k1.trans E,ac,k2.le E.lg.frz2⟩⟩
      conv=>whnf
      rintro U'⟨q1,q2,q3⟩;exact⟨rfl,H,K,ff,T1,q1,q2,q3.sta⟩
     .refine⟨_,⟨rfl,ao _ ⟨λ _ _ h=>h,⟨[],rfl⟩,rfl⟩⟩,0,i,⟨rfl,rfl,O1,O1⟩,af,i+1,y.length,⟨rfl,rfl,O1,O1⟩,λ v U'=>Qan S [] v U',λ v X Y I E=>I.le E,λ v U' I=>I.2.1,λ U' L=>?_,λ v P=>?_⟩
      .conv=>whnf
       intro p hp;exact⟨_,.refl _,_,.refl _,.new L⟩
      obtain⟨_,⟨ag,ap,aj,rfl⟩,-,-⟩:=P;refine⟨λ v U'=>Qan S ([]++y.take i) v U',λ v X Y I E=>I.le E,λ v U' I=>I.2.1,λ U' L=>?_,λ v P=>?_⟩
      .conv=>whnf
       exact Qan.app VD L rfl rfl (bd _ L.2.1) S3 λ v' U'' hA=>⟨_,.refl _,hA⟩
      obtain⟨_,⟨ah,aq,ak,rfl⟩,-,-⟩:=P;refine⟨λ v U'=>Qan S (([]++y.take i)++y.drop (i+1)) v U',λ v X Y I E=>I.le E,λ v U' I=>I.2.1,λ U' L=>?_,λ v P=>?_⟩
      .conv=>whnf
       exact Qan.app VD L rfl rfl (be _ L.2.1) S3 λ v' U'' hA=>⟨_,.refl _,hA⟩
      obtain⟨_,⟨ai,au,al,rfl⟩,-,-⟩:=P;refine⟨λ v U'=>∃H,v=.pointer (some ⟨H,0,none⟩)/\Qd3 S H zB (([]++y.take i)++y.drop (i+1)) (.slice ai au al) U',λ v X Y⟨H,e,I⟩E=>⟨H,e,I.le E⟩,λ v U'⟨H,e,I⟩=>I.frz,λ U' L=>?_,λ v P=>?_⟩
      .conv=>whnf
       intro H W;obtain⟨U'',k1,k2⟩:=Qan.alloc (z:=zB) L W;exact⟨_,.refl _,U'',k1,H,rfl,k2⟩
      obtain⟨_,H,rfl,-⟩:=P;refine⟨λ v U'=>HqV S (SyV b (y.take i++y.drop (i+1)) v) H 25 zB U',λ v X Y I E=>I.le E,λ v U' I=>I.frz,λ U' L=>?_,λ v P=>?_⟩
      .obtain⟨b25',e,L⟩:=L;obtain rfl:H=b25':=by simpa using e
       refine⟨Qb8.any,(Qd3.give (xs:=λ v=>#[h.v,v]) (Q:=λ v U''=>∃V,Hlr S H 25 zB V/\V.le U''/\SyV b (y.take i++y.drop (i+1)) v U'') L λ V ga gc e T hR=>?_).mono λ v U'⟨V,T,q2,q1⟩hs=>⟨U',.refl _,.of T q2 hs (q1.le ⟨λ _ _ h=>h,⟨[],rfl⟩,rfl⟩)⟩⟩;rw[e];exact(bg ga gc V T.frz2 hR).mono λ v U''⟨q1,q2⟩=>⟨V,T,q2,q1⟩
      obtain⟨_,br,-,⟨K,ff,rfl,-⟩,-⟩:=P;refine⟨λ v U'=>S.le U'/\Zo U' H #[.slice K.ra K.rl K.rc,.slice K.ca K.cl K.cc]/\SyV b (y.take i++y.drop (i+1)) (.tuple #[K.v,.int .i64 ff]) U',λ v X Y I E=>⟨I.1.trans E,I.2.1.le E,I.2.2.le E.lg.frz2⟩,λ v U' I=>Qy.trans I.1.lg,λ U' L=>?_,λ v P=>?_⟩
      .obtain⟨Ud,k1,k2,k3⟩:=L
       conv=>whnf
       exact⟨rfl,k3.write (vs:=[.slice K.ra K.rl K.rc,.slice K.ca K.cl K.cc]) rfl (by simp[Value.single]) λ U2 E ac=>⟨_,.refl _,k1.trans E,ac,k2.le E.lg.frz2⟩⟩
      conv=>whnf
      rintro U'⟨q1,q2,q3⟩;exact⟨rfl,H,K,ff,T1,q1,q2,q3.sta⟩
     .refine⟨_,⟨rfl,ao _ ⟨λ _ _ h=>h,⟨[],rfl⟩,rfl⟩⟩,0,i,⟨rfl,rfl,O1,O1⟩,af,i+1,y.length,⟨rfl,rfl,O1,O1⟩,λ v U'=>Qan S [] v U',λ v X Y I E=>I.le E,λ v U' I=>I.2.1,λ U' L=>?_,λ v P=>?_⟩
      .conv=>whnf
       intro p hp;exact⟨_,.refl _,_,.refl _,.new L⟩
      obtain⟨_,⟨ag,ap,aj,rfl⟩,-,-⟩:=P;refine⟨λ v U'=>Qan S ([]++y.take i) v U',λ v X Y I E=>I.le E,λ v U' I=>I.2.1,λ U' L=>?_,λ v P=>?_⟩
      .conv=>whnf
       exact Qan.app VD L rfl rfl (bd _ L.2.1) S3 λ v' U'' hA=>⟨_,.refl _,hA⟩
      obtain⟨_,⟨ah,aq,ak,rfl⟩,-,-⟩:=P;refine⟨λ v U'=>∃H,v=.pointer (some ⟨H,0,none⟩)/\Qd3 S H zB ([]++y.take i) (.slice ah aq ak) U',λ v X Y⟨H,e,I⟩E=>⟨H,e,I.le E⟩,λ v U'⟨H,e,I⟩=>I.frz,λ U' L=>?_,λ v P=>?_⟩
      .conv=>whnf
       intro H W;obtain⟨U'',k1,k2⟩:=Qan.alloc (z:=zB) L W;exact⟨_,.refl _,U'',k1,H,rfl,k2⟩
      obtain⟨_,H,rfl,-⟩:=P;refine⟨λ v U'=>Qd3 S H zB (([]++y.take i)++y.drop (i+1)) v U',λ v X Y I E=>I.le E,λ v U' I=>I.frz,λ U' L=>?_,λ v P=>?_⟩
      .obtain⟨b25',e,L⟩:=L;obtain rfl:H=b25':=by simpa using e
       obtain⟨Ud,T,L⟩:=L
       conv=>whnf
       exact Qan.app VD L rfl rfl (be _ (T.frz2.trans L.2.1)) S3 λ v' U'' hA=>⟨_,.refl _,Ud,T,hA⟩
      obtain⟨_,_,-,⟨ai,au,al,rfl⟩,-,-⟩:=P;refine⟨λ v U'=>HqV S (SyV b (y.take i++y.drop (i+1)) v) H 25 zB U',λ v X Y I E=>I.le E,λ v U' I=>I.frz,λ U' L=>?_,λ v P=>?_⟩
      .refine⟨Qb8.any,(Qd3.give (xs:=λ v=>#[h.v,v]) (Q:=λ v U''=>∃V,Hlr S H 25 zB V/\V.le U''/\SyV b (y.take i++y.drop (i+1)) v U'') L λ V ga gc e T hR=>?_).mono λ v U'⟨V,T,q2,q1⟩hs=>⟨U',.refl _,.of T q2 hs (q1.le ⟨λ _ _ h=>h,⟨[],rfl⟩,rfl⟩)⟩⟩;rw[e];exact(bg ga gc V T.frz2 hR).mono λ v U''⟨q1,q2⟩=>⟨V,T,q2,q1⟩
      obtain⟨_,br,-,⟨K,ff,rfl,-⟩,-⟩:=P;refine⟨λ v U'=>S.le U'/\Zo U' H #[.slice K.ra K.rl K.rc,.slice K.ca K.cl K.cc]/\SyV b (y.take i++y.drop (i+1)) (.tuple #[K.v,.int .i64 ff]) U',λ v X Y I E=>⟨I.1.trans E,I.2.1.le E,I.2.2.le E.lg.frz2⟩,λ v U' I=>Qy.trans I.1.lg,λ U' L=>?_,λ v P=>?_⟩
      .obtain⟨Ud,k1,k2,k3⟩:=L
       conv=>whnf
       exact⟨rfl,k3.write (vs:=[.slice K.ra K.rl K.rc,.slice K.ca K.cl K.cc]) rfl (by simp[Value.single]) λ U2 E ac=>⟨_,.refl _,k1.trans E,ac,k2.le E.lg.frz2⟩⟩
      conv=>whnf
      rintro U'⟨q1,q2,q3⟩;exact⟨rfl,H,K,ff,T1,q1,q2,q3.sta⟩
     .refine⟨_,⟨rfl,ao _ ⟨λ _ _ h=>h,⟨[],rfl⟩,rfl⟩⟩,0,i,⟨rfl,rfl,O1,O1⟩,af,i+1,y.length,⟨rfl,rfl,O1,O1⟩,λ v U'=>Qan S [] v U',λ v X Y I E=>I.le E,λ v U' I=>I.2.1,λ U' L=>?_,λ v P=>?_⟩
      .conv=>whnf
       intro p hp;exact⟨_,.refl _,_,.refl _,.new L⟩
      obtain⟨_,⟨ag,ap,aj,rfl⟩,-,-⟩:=P;refine⟨λ v U'=>∃H,v=.pointer (some ⟨H,0,none⟩)/\Qd3 S H zB [] (.slice ag ap aj) U',λ v X Y⟨H,e,I⟩E=>⟨H,e,I.le E⟩,λ v U'⟨H,e,I⟩=>I.frz,λ U' L=>?_,λ v P=>?_⟩
      .conv=>whnf
       intro H W;obtain⟨U'',k1,k2⟩:=Qan.alloc (z:=zB) L W;exact⟨_,.refl _,U'',k1,H,rfl,k2⟩
      obtain⟨_,H,rfl,-⟩:=P;refine⟨λ v U'=>Qd3 S H zB ([]++y.take i) v U',λ v X Y I E=>I.le E,λ v U' I=>I.frz,λ U' L=>?_,λ v P=>?_⟩
      .obtain⟨b25',e,L⟩:=L;obtain rfl:H=b25':=by simpa using e
       obtain⟨Ud,T,L⟩:=L
       conv=>whnf
       exact Qan.app VD L rfl rfl (bd _ (T.frz2.trans L.2.1)) S3 λ v' U'' hA=>⟨_,.refl _,Ud,T,hA⟩
      obtain⟨_,_,-,⟨ah,aq,ak,rfl⟩,-,-⟩:=P;refine⟨λ v U'=>Qd3 S H zB (([]++y.take i)++y.drop (i+1)) v U',λ v X Y I E=>I.le E,λ v U' I=>I.frz,λ U' L=>?_,λ v P=>?_⟩
      .obtain⟨Ud,T,L⟩:=L
       conv=>whnf
       exact Qan.app VD L rfl rfl (be _ (T.frz2.trans L.2.1)) S3 λ v' U'' hA=>⟨_,.refl _,Ud,T,hA⟩
      obtain⟨_,_,-,⟨ai,au,al,rfl⟩,-,-⟩:=P;refine⟨λ v U'=>HqV S (SyV b (y.take i++y.drop (i+1)) v) H 25 zB U',λ v X Y I E=>I.le E,λ v U' I=>I.frz,λ U' L=>?_,λ v P=>?_⟩
      .refine⟨Qb8.any,(Qd3.give (xs:=λ v=>#[h.v,v]) (Q:=λ v U''=>∃V,Hlr S H 25 zB V/\V.le U''/\SyV b (y.take i++y.drop (i+1)) v U'') L λ V ga gc e T hR=>?_).mono λ v U'⟨V,T,q2,q1⟩hs=>⟨U',.refl _,.of T q2 hs (q1.le ⟨λ _ _ h=>h,⟨[],rfl⟩,rfl⟩)⟩⟩;rw[e];exact(bg ga gc V T.frz2 hR).mono λ v U''⟨q1,q2⟩=>⟨V,T,q2,q1⟩
      obtain⟨_,br,-,⟨K,ff,rfl,-⟩,-⟩:=P;refine⟨λ v U'=>S.le U'/\Zo U' H #[.slice K.ra K.rl K.rc,.slice K.ca K.cl K.cc]/\SyV b (y.take i++y.drop (i+1)) (.tuple #[K.v,.int .i64 ff]) U',λ v X Y I E=>⟨I.1.trans E,I.2.1.le E,I.2.2.le E.lg.frz2⟩,λ v U' I=>Qy.trans I.1.lg,λ U' L=>?_,λ v P=>?_⟩
      .obtain⟨Ud,k1,k2,k3⟩:=L
       conv=>whnf
       exact⟨rfl,k3.write (vs:=[.slice K.ra K.rl K.rc,.slice K.ca K.cl K.cc]) rfl (by simp[Value.single]) λ U2 E ac=>⟨_,.refl _,k1.trans E,ac,k2.le E.lg.frz2⟩⟩
      conv=>whnf
      rintro U'⟨q1,q2,q3⟩;exact⟨rfl,H,K,ff,T1,q1,q2,q3.sta⟩
     .refine⟨_,⟨rfl,ao _ ⟨λ _ _ h=>h,⟨[],rfl⟩,rfl⟩⟩,0,i,⟨rfl,rfl,O1,O1⟩,af,i+1,y.length,⟨rfl,rfl,O1,O1⟩,λ v U'=>∃H,v=.pointer (some ⟨H,0,none⟩)/\Hlr S H 25 zB U',λ v X Y⟨H,e,I⟩E=>⟨H,e,I.le E⟩,λ v U'⟨H,e,I⟩=>I.frz1,λ U' L=>?_,λ v P=>?_⟩
      .conv=>whnf
       intro H W;exact⟨_,.refl _,_,.refl _,H,rfl,.made L W⟩
      obtain⟨_,H,rfl,-⟩:=P;refine⟨λ v U'=>Qd3 S H zB [] v U',λ v X Y I E=>I.le E,λ v U' I=>I.frz,λ U' L=>?_,λ v P=>?_⟩
      .obtain⟨b25',e,L⟩:=L;obtain rfl:H=b25':=by simpa using e
       conv=>whnf
       intro p hp;exact⟨_,.refl _,_,.refl _,_,L,.new (.refl _)⟩
      obtain⟨_,_,-,⟨ag,ap,aj,rfl⟩,-,-⟩:=P;refine⟨λ v U'=>Qd3 S H zB ([]++y.take i) v U',λ v X Y I E=>I.le E,λ v U' I=>I.frz,λ U' L=>?_,λ v P=>?_⟩
      .obtain⟨Ud,T,L⟩:=L
       conv=>whnf
       exact Qan.app VD L rfl rfl (bd _ (T.frz2.trans L.2.1)) S3 λ v' U'' hA=>⟨_,.refl _,Ud,T,hA⟩
      obtain⟨_,_,-,⟨ah,aq,ak,rfl⟩,-,-⟩:=P;refine⟨λ v U'=>Qd3 S H zB (([]++y.take i)++y.drop (i+1)) v U',λ v X Y I E=>I.le E,λ v U' I=>I.frz,λ U' L=>?_,λ v P=>?_⟩
      .obtain⟨Ud,T,L⟩:=L
       conv=>whnf
       exact Qan.app VD L rfl rfl (be _ (T.frz2.trans L.2.1)) S3 λ v' U'' hA=>⟨_,.refl _,Ud,T,hA⟩
      obtain⟨_,_,-,⟨ai,au,al,rfl⟩,-,-⟩:=P;refine⟨λ v U'=>HqV S (SyV b (y.take i++y.drop (i+1)) v) H 25 zB U',λ v X Y I E=>I.le E,λ v U' I=>I.frz,λ U' L=>?_,λ v P=>?_⟩
      .refine⟨Qb8.any,(Qd3.give (xs:=λ v=>#[h.v,v]) (Q:=λ v U''=>∃V,Hlr S H 25 zB V/\V.le U''/\SyV b (y.take i++y.drop (i+1)) v U'') L λ V ga gc e T hR=>?_).mono λ v U'⟨V,T,q2,q1⟩hs=>⟨U',.refl _,.of T q2 hs (q1.le ⟨λ _ _ h=>h,⟨[],rfl⟩,rfl⟩)⟩⟩;rw[e];exact(bg ga gc V T.frz2 hR).mono λ v U''⟨q1,q2⟩=>⟨V,T,q2,q1⟩
      obtain⟨_,br,-,⟨K,ff,rfl,-⟩,-⟩:=P;refine⟨λ v U'=>S.le U'/\Zo U' H #[.slice K.ra K.rl K.rc,.slice K.ca K.cl K.cc]/\SyV b (y.take i++y.drop (i+1)) (.tuple #[K.v,.int .i64 ff]) U',λ v X Y I E=>⟨I.1.trans E,I.2.1.le E,I.2.2.le E.lg.frz2⟩,λ v U' I=>Qy.trans I.1.lg,λ U' L=>?_,λ v P=>?_⟩
      .obtain⟨Ud,k1,k2,k3⟩:=L
       conv=>whnf
       exact⟨rfl,k3.write (vs:=[.slice K.ra K.rl K.rc,.slice K.ca K.cl K.cc]) rfl (by simp[Value.single]) λ U2 E ac=>⟨_,.refl _,k1.trans E,ac,k2.le E.lg.frz2⟩⟩
      conv=>whnf
      rintro U'⟨q1,q2,q3⟩;exact⟨rfl,H,K,ff,T1,q1,q2,q3.sta⟩
    rintro f' bx V⟨rfl,H,h3,ff,am,b1,b3,cv⟩;rw[<- am.ovr];clear am
    conv=>whnf
    intro a' a6;refine⟨by rw[a6.size,bb.size],_,a6.get,?_⟩;rw[a6.ds];clear a6 bb;obtain⟨rfl,bo,di⟩:=StaO.sure cv e1 e2;have c2:(b.stys (y.take i++y.drop (i+1))).flaw Zk=0:=by rw[e1.flaw hf,if_neg (by rw[e2];simp)]
    have dg:h3.rl=h.rl:=by have:=bo.rs.1;rw[Bk.stys_rs]at this;omega
    obtain⟨G3,b5⟩:∃G3,G3=(b.stys (y.take i++y.drop (i+1))).fatR q:=⟨_,rfl⟩;refine⟨_,⟨rfl,b3.rd⟩,?_⟩;refine⟨Qd6.any,(Qbb h3 _ bo (an.lg (Oj Qy (bs.trans b1))) c2 q O1).go λ _=>?_⟩;rw[<- b5]
    repeat refine⟨rfl,?_⟩
    conv=>whnf
    refine Qe (λ hc=>?_) (λ _=>?_)
    .exfalso;have hc:G3=w:=by simpa using hc
     exact e3 (by rw[<- b5,hc,Z])
    repeat refine⟨rfl,?_⟩
    refine⟨af,?_⟩
    conv=>whnf
    exact⟨rfl,i+1,T1,⟨h9.trans b1,O1⟩,L1⟩
   .have hend9:=aa.lg.trans bs.lg;refine⟨MV.any,(fin _ hend9).go λ _=>?_⟩
    repeat refine⟨rfl,?_⟩
    conv=>whnf
    exact hend9
end Go.Proofs

