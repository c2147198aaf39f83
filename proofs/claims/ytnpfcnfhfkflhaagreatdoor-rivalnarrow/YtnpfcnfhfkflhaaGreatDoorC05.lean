/- Lemmas. No conditions. -/
import Derived.Test.YtnpfcnfhfkflhaaGreatDoorC04
import Derived.Test.YtnpfcnfhfkflhaaGreatDoorC03
import Derived.Test.YtnpfcnfhfkflhaaGreatDoorC00
set_option linter.all false
set_option maxRecDepth 100000
open List
namespace Go.TM
variable{T:Type}{P:Program}{S:Sys P T}{U U':Qa T}
def Qb.ok0{f:FuncId}{args:Array Value}{R:Value->Qa T->Prop}{U:Qa T}(h:(∃w,U.ok w)->Qb S f args R U):Qb S f args R U:=by
 intro a m c cs k;by_cases b:∃w,U.ok w
 .exact h b a m c cs k
 .exact .priv ⟨rfl,λ w ok=>absurd ⟨w,ok⟩ b⟩
def Qb.prS{f:FuncId}{args:Array Value}{Q:Value->Qa T->Prop}{b:Qa T}(d:Qw U b)(h:Qb S f args Q b):Qb S f args Q U:=λ a m c cs k=>.shift d (h a m c cs k)
def Jw.ints{l:List Int}{a:Option Addr}{len c:Nat}{A:List Qx}(h:Jw 3 1 (.slice a len c) (l.map λ n=>.int .i64 n) A)(o:∀r∈A,r∈U.M):Z5 U a len l:=by
 have d:l.length=len:=by
  obtain⟨q,u,t,e,d⟩:=h.src;cases e;simpa using d
 refine⟨d,λ i x g=>?_⟩
 have f:(l.map λ n=>Value.int .i64 n)≠[]:=by
  intro e;have:l=[]:=by simpa using e
  subst this;simp at g
 obtain⟨b,cc,j,cap,e,-,-,-,rfl,m⟩:=h.blk f;cases e;refine⟨⟨b,0,none⟩,rfl,rfl,?_⟩;rw[Qo];exact⟨rfl,.inl ⟨cc,3,(0,0),.inr (o _ S1),m _ _ (by simp[g])⟩⟩
end Go.TM
namespace Go.Proofs
open Go.TM
variable{T:Type}{S:TM.Sys Tryz.prog T}{U:Qa T}
attribute [local irreducible] Qb Zl Wt
def Q4w(b:Bk)(l:List (Int×Int))(U':Qa T)(a:BH)(f:Int):Prop:=
 (f=5\/f=8)/\a=BH.zero\/f=0/\Zq U'.frz a (b.stys l)/\b.FrL l/\Wq (b.stys l).A=false/\a.rl<=a.rc
set_option maxHeartbeats 2000000 in
def Qek(h:BH)(b:Bk)(hb:Zq U.frz h b)(hk:WA U)(hf:b.flaw Qu=0)(l:List (Int×Int))(a:Option Addr)(c:Nat)(hl:Q5 U.frz a l.length 2 l (λ x vs=>vs=encII x))(bn:l.length<=6)(aq:∀s∈l,0<=s.1/\s.1<b.nc/\0<=s.2/\s.2<b.nc) :
  Qb S 55 #[h.v,.slice a l.length c] (λ v U'=>(∃(d:BH)(f:Int),v=.tuple #[d.v,.int .i64 f]/\Q4w b l U' d f)/\U.le U') U:=by
 have T:=Bk.ok_of hf;have bo:=T.nc;have a7:=hb.cs.1;have a8:=hb.cl;have bs:b.nc=(h.cl:Int):=by unfold Bk.nc;rw[a7]
 have a3:Qb S 55 #[h.v,.slice a l.length c] (λ v U'=>(∃(d:BH)(f:Int)(R:List Qx),v=.tuple #[d.v,.int .i64 f]/\Q4w b l U' d f/\U'.M.Perm (R++U.M))/\(∀x o,U.I x=some o->U'.I x=some o)/\U'.tok=U.tok) U:=by
  refine Qb.of (args:=[_,_]) Qdc Qf S1 ?_
  repeat refine⟨rfl,?_⟩
  conv=>whnf
  intro B U1 t hB;have hB:Zi U1 B #[.slice h.ra h.rl h.rc,.slice h.ca h.cl h.cc]:=hB
  conv=>whnf
  intro w br;refine⟨_,.refl _,?_⟩;have G:=Z4 (U:=U1) w (.cells #[.slice none 0 0,.slice none 0 0] 25);have K:=hB.lg G;refine⟨_,⟨rfl,K.rd⟩,?_⟩;refine⟨VA.any,(O4 h b (((hb.lg t.lg.frz2).lg Qp).lg G) ((hk.lg t.lg).lg G)).go λ _=>?_⟩;rw[hf]
  repeat refine⟨rfl,?_⟩
  refine⟨_,⟨rfl,K.rd⟩,?_⟩;refine⟨Fa.any,(xy (S:=S) (U:=U1.put w (.cells #[.slice none 0 0,.slice none 0 0] 25)) h b (hb.lg (t.lg.frz2.trans G.frz2)) T.sml).mono ?_⟩;rintro _ U2⟨⟨d,rfl,ho⟩,y,ab⟩-;have a5:∀x o,U.I x=some o->U2.I x=some o:=λ x o g=>y x o (t.imm x o g);have bj:U2.tok=U.tok:=ab.trans t.tok;have a4:Zi U2 B #[.slice h.ra h.rl h.rc,.slice h.ca h.cl h.cc]:=K.imI y
  have ho:QW U2 d b (.obj w (.cells [.slice none 0 0,.slice none 0 0].toArray 25 (0,0))::U.M):=by
   have e:(U1.put w (.cells #[.slice none 0 0,.slice none 0 0] 25)).M=.obj w (.cells [.slice none 0 0,.slice none 0 0].toArray 25 (0,0))::U.M:=by show _::U1.M=_;rw[t.own]
   rw[<- e];exact ho
  clear G y ab K
  conv=>whnf
  intro b7 a9;refine⟨_,.refl _,rfl,Zt (vs:=[.slice d.ra d.rl d.rc,.slice d.ca d.cl d.cc]) a9 rfl (by simp[Value.single]) λ U3 O ae=>?_⟩;have ae:Zi U3 b7 #[.slice d.ra d.rl d.rc,.slice d.ca d.cl d.cc]:=ae
  refine⟨Nat,λ i=>[(2,.pointer (some ⟨B,0,none⟩)),(4,.pointer (some ⟨w,0,none⟩)),(7,.pointer (some ⟨b7,0,none⟩)),(20,.slice a l.length c),(21,.int .i64 l.length),(22,.int .i64 i)],
   λ i U'=>U3.frz.lg U'/\i<=l.length/\QW U' d (b.stys (l.take i)) (.obj w (.cells [.slice none 0 0,.slice none 0 0].toArray 25 (0,0))::U.M)/\b.FrL (l.take i),λ i=>l.length-i,0,T1,⟨⟨λ _ _ h=>h,⟨_,(append_nil _).symm⟩,rfl⟩,O1,ho.le O,trivial⟩,?_⟩
  rintro i f U4⟨u,hi,ho,Q⟩;have ar:Zu ((i:Int)+1):=I1
  have L:∀x o,U.I x=some o->U4.I x=some o:=λ x o g=>u.imm x o (O.imm x o (a5 x o g));have D:Zi U4 b7 #[.slice d.ra d.rl d.rc,.slice d.ca d.cl d.cc]:=ae.imI u.imm;have ag:U4.tok=U.tok:=u.tok.trans (O.tok.trans bj)
  repeat refine⟨rfl,?_⟩
  conv=>whnf
  apply Qe<;>intro hc
  .have hlt:i<l.length:=by simpa using hc
   obtain⟨ad,x,vs,g,rfl,bu,rfl,-,bi⟩:=(hl.mem L λ r hr=>by cases hr).at hlt;obtain⟨bk,a2,bl,bm⟩:=aq x (mem_of_getElem? g);have W:x.1.toNat<b.cs.length:=by unfold Bk.nc at a2;omega
   have an:btw x.1 0 ((h.cl:Int)-1)=true:=by simp[btw];omega
   have ao:btw x.2 0 ((h.cl:Int)-1)=true:=by simp[btw];omega
   refine⟨ad,i,⟨rfl,rfl,hlt⟩,_,⟨rfl,bi⟩,?_⟩
   conv=>whnf
   intro b9 ba;refine⟨_,.refl _,rfl,Zt (vs:=encII x) ba rfl (by simp[encII,Value.single]) λ H P j=>?_⟩;have j:Zi H b9 #[.int .i64 x.1,.int .i64 x.2]:=j;have n:=D.le P;have Z:Zi H B #[.slice h.ra h.rl h.rc,.slice h.ca h.cl h.cc]:=a4.imI λ x o g=>P.imm x o (u.imm x o (O.imm x o g));refine⟨_,j.sees3 (o:=0) rfl,_,Z.sees3 (o:=1) rfl,I1,?_⟩;refine⟨GG.any,(Wu H x.1 0 ((h.cl:Int)-1)).go λ _=>?_⟩;rw[an];refine⟨_,j.sees3 (o:=1) rfl,_,Z.sees3 (o:=1) rfl,I1,?_⟩;refine⟨GG.any,(Wu H x.2 0 ((h.cl:Int)-1)).go λ _=>?_⟩;rw[ao];refine⟨_,n.sees3 (o:=1) rfl,_,j.sees3 (o:=0) rfl,?_⟩;have av:=ho.le P;obtain⟨a0,l0,c0,kF,cb,cc,bp,m⟩:=av.openC (q:=x.1.toNat) (by rw[Bk.stys_len];exact W);have a1:((x.1.toNat:Nat):Int)=x.1:=O1
   have bd:∀r∈kF,r∈H.M:=λ r hr=>m.pm.mem_iff.2 (mem_append_left _ hr);have ap:Qx.obj cb (.cells cc.toList.toArray 49 (0,0))∈H.M:=m.pm.mem_iff.2 (mem_append_right _ (mem_cons_self ..));have ak:=m.acc.ints bd;have bq:=ak.1;refine⟨⟨cb,0,none⟩,x.1.toNat,⟨m.ca,a1.symm,m.lt⟩,.slice a0 l0 c0,?_,?_⟩
   .rw[Qo,Qo];exact⟨rfl,.inl ⟨_,_,_,.inr ap,by have:=m.at3;rw[Array.getElem?_toList]at this;rw[Nat.zero_add];exact this⟩⟩
   refine⟨_,j.sees3 (o:=1) rfl,?_⟩
   conv=>whnf
   intro U6 C _;refine⟨OH.any,(UT a0 l0 c0 _ (ak.le C) (by have:=m.len;omega) x.2).go λ _=>?_⟩;have aw:=av.le C;have al:=n.le C;have am:=j.le C;have J:=P.trans C
   repeat refine⟨rfl,?_⟩
   conv=>whnf
   apply Qe<;>intro hc
   .obtain⟨X,Y,hM,-,-,hXY⟩:=aw.pick;obtain⟨ps,A,-,-,-,hp⟩:=hXY.ex;refine⟨rfl,Wh (vs:=[.slice none 0 0,.slice none 0 0]) X hM rfl (by simp[Value.single]) λ U7 ac ah aj=>?_⟩;refine⟨_,⟨rfl,Za X aj⟩,⟨BH.zero,5,.obj w (.cells [.slice none 0 0,.slice none 0 0].toArray 25 (0,0))::(A++ps.flatMap (·.2.F)),rfl,.inl ⟨.inl rfl,rfl⟩,?_⟩,λ x o g=>by rw[ac];exact J.imm x o (L x o g),?_⟩
    .rw[aj];refine perm_middle.trans ?_;rw[cons_append,append_assoc];exact hp.cons _
    .rw[ah];exact J.tok.trans ag
   have bg:x.2∉((b.stys (l.take i)).cas x.1.toNat).af:=by simpa using hc
   have bb:(b.stys (l.take i)).Fr x:=⟨bk,by rw[Bk.stys_len];exact W,bl,by unfold Bk.nc;rw[Bk.stys_len];exact bm,bg⟩;refine⟨_,⟨rfl,al.rd⟩,?_⟩;refine⟨_,⟨rfl,am.rd⟩,?_⟩;have ay:=Bk.stys_srt T.srt (l.take i) λ s hs=>by have h0:=aq s (mem_of_mem_take hs);unfold Bk.nc at h0;omega
   have aa:=Bk.cas_mem (b:=b.stys (l.take i)) (k:=x.1.toNat) (by rw[Bk.stys_len];exact W);have be:=ay.l _ aa;have az:=jY (S:=S) (U:=U6) d (b.stys (l.take i)) _ aw x.1.toNat x.2 (by rw[Bk.stys_len];exact W) (ay.s _ aa) (by rw[length_take]at be;omega);rw[a1]at az;refine⟨Ig.any,az.mono ?_⟩;rintro v U7⟨bh,ac,ah⟩-;have au:U3.frz.lg U7:=⟨λ x o g=>ac x o (J.imm x o (u.imm x o g)),⟨_,(append_nil _).symm⟩,ah.trans (J.tok.trans u.tok)⟩;refine⟨ar,?_⟩
   conv=>whnf
   exact⟨rfl,i+1,T1,⟨au,O1,by rw[Ji g,Bk.stys_snoc];exact bh,by rw[Ji g];exact Q.snoc bb⟩,L1⟩
  have bc:i=l.length:=by simp at hc;omega
  rw[bc,take_length]at ho Q;refine⟨_,⟨rfl,D.rd⟩,?_⟩;refine⟨Te.any,(Qb.ok0 (R:=λ v U'=>v=.int .i64 (if Wq (b.stys l).A then 8 else 0)/\U'.M=.obj w (.cells [.slice none 0 0,.slice none 0 0].toArray 25 (0,0))::U.M/\U4.frz.lg U'.frz/\Zq U'.frz d (b.stys l)) λ hw=>?_).mono ?_⟩
  .obtain⟨H,k1,k2,k3,k4⟩:=ho.freeze hw (by rw[Bk.stys_len];omega);exact .prS k1 ((U_ d (b.stys l) (k4.lg Qp) (Q.ok1 T.ok1).low).mono λ v U'⟨q1,q2⟩=>⟨q1,by rw[q2];exact k2,by rw[q2];exact k3,by rw[q2];exact k4⟩)
  rintro _ H⟨rfl,ai,E,a6⟩bt;cases bf:Wq (b.stys l).A with
  |true=>
   refine⟨rfl,rfl,Wh (vs:=[.slice none 0 0,.slice none 0 0]) [] ai rfl (by simp[Value.single]) λ U6 N V z=>?_⟩;refine⟨_,⟨rfl,Za [] z⟩,⟨BH.zero,8,[.obj w (.cells [.slice none 0 0,.slice none 0 0].toArray 25 (0,0))],rfl,.inl ⟨.inr rfl,rfl⟩,by rw[z];exact .refl _⟩,λ x o g=>by rw[N];exact E.imm x o (L x o g),?_⟩;rw[V];exact E.tok.trans ag
  |false=>
   repeat refine⟨rfl,?_⟩
   conv=>whnf
   have n:Zi H b7 #[.slice d.ra d.rl d.rc,.slice d.ca d.cl d.cc]:=D.imI E.imm;have ax:Jn H ⟨b7,0,none⟩ [.slice d.ra d.rl d.rc,.slice d.ca d.cl d.cc]:=n.rd;refine⟨_,⟨rfl,by rw[Qo];exact ax⟩,?_⟩;refine⟨rfl,Wh (vs:=[.slice d.ra d.rl d.rc,.slice d.ca d.cl d.cc]) [] ai rfl (by simp[Value.single]) λ U6 N V z=>?_⟩;refine⟨_,⟨rfl,Za [] z⟩,⟨d,0,[.obj w (.cells [.slice d.ra d.rl d.rc,.slice d.ca d.cl d.cc].toArray 25 (0,0))],rfl,.inr ⟨rfl,a6.lg ⟨λ x o g=>by show U6.I x=_;rw[N];exact g,⟨[],rfl⟩,V⟩,Q,bf,ho.rc⟩,by rw[z];exact .refl _⟩,λ x o g=>by rw[N];exact E.imm x o (L x o g),?_⟩;rw[V];exact E.tok.trans ag
 refine a3.post λ v U'⟨⟨d,f,R,e,hS,hp⟩,hI,ht⟩=>?_;refine⟨{ U' with M:=U.M },(W7 hp).trans (Z1 (sublist_append_right _ _)),⟨d,f,e,?_⟩,⟨hI,rfl,ht⟩⟩;rcases hS with hS|⟨h1,h2,h3⟩
 .exact .inl hS
 .exact .inr ⟨h1,h2.lg ⟨λ _ _ h=>h,⟨[],rfl⟩,rfl⟩,h3⟩
set_option maxHeartbeats 2000000 in
def Qga(h:BH)(b:Bk)(hb:Zq U.frz h b)(A:Option Addr)(pl J:Nat)(p:List Nat)(hp:Q5 U.frz A pl 1 p λ n vs=>vs=[.int .u16 (n:Int)]/\n<65536) :
  Qb S 57 #[h.v,.slice A pl J] (λ v U'=>(∃(l:List (Int×Int))(a:Option Addr)(c:Nat),v=.slice a l.length c/\Q5 U'.frz a l.length 2 l (λ x vs=>vs=encII x)/\l.length<=4/\∀s∈l,0<=s.1/\s.1<b.nc/\0<=s.2/\s.2<b.nc)/\U.le U') U:=by
 have X:Qb S 57 #[h.v,.slice A pl J] (λ v U'=>∃l:List (Int×Int),Acc 84 2 v (l.flatMap encII) U'.M U.M/\(∀x o,U.I x=some o->U'.I x=some o)/\U'.tok=U.tok/\l.length<=4/\∀s∈l,0<=s.1/\s.1<b.nc/\0<=s.2/\s.2<b.nc) U:=by
  refine Qb.of (args:=[_,_]) Qdg Qf S1 ?_;have aa:=hb.cs.1;have ab:=hb.cl;have P:b.nc=(h.cl:Int):=by unfold Bk.nc;rw[aa]
  repeat refine⟨rfl,?_⟩
  conv=>whnf
  intro B U1 j Z;have Z:Zi U1 B #[.slice h.ra h.rl h.rc,.slice h.ca h.cl h.cc]:=Z
  refine⟨List (Int×Int)×Value,λ y=>[(1,.slice A pl J),(2,.pointer (some ⟨B,0,none⟩)),(5,y.2),(6,.int .i64 y.1.length)],
   λ y U'=>U1.frz.lg U'/\y.1.length<=4/\(∀s∈y.1,0<=s.1/\s.1<b.nc/\0<=s.2/\s.2<b.nc)/\Acc 84 2 y.2 (y.1.flatMap encII) U'.M U.M,λ y=>4-y.1.length,([],.slice none 0 0),T1,⟨Qp,S1,S1,by rw[j.own];exact .nil⟩,?_⟩
  rintro⟨l,v⟩f U2⟨g,t,m,d⟩;simp only at t m d;obtain⟨sa,sl,sc,rfl,ag,-⟩:=d.src;have N:Zu ((l.length:Int)+1):=I1
  have D:=Z.imI g.imm;have F:∀w:Qa T,U2.lg w->Q5 w A pl 1 p λ n vs=>vs=[.int .u16 (n:Int)]/\n<65536:=λ w hw=>Q5.lg (R':=λ(n:Nat)vs=>vs=[.int .u16 (n:Int)]/\n<65536) hp (j.lg.frz2.trans (g.trans hw)) λ _ _ h=>h;refine⟨Qbj.any,(Qae A pl J p (F _ (Qa.le.refl _).lg) 20).go λ _=>?_⟩;refine⟨rfl,O1,?_⟩;have ac:Int.tmod ((p.getD 20 0:Nat):Int) 5<5:=Int.tmod_lt_of_pos _ O1;generalize Int.tmod ((p.getD 20 0:Nat):Int) 5=m5 at ac ⊢
  repeat refine⟨rfl,?_⟩
  conv=>whnf
  apply Zr<;>intro hc
  .have hi:(l.length:Int)<m5:=by simpa using hc
   refine⟨_,D.sees3 (o:=1) rfl,?_⟩
   repeat refine⟨rfl,?_⟩
   conv=>whnf
   apply Qe<;>intro hc
   .have hpos:0<h.cl:=by simpa using hc
    refine⟨by show Zu (2*(l.length:Int));unfold Zu;omega,?_⟩;refine⟨by show Zu (21+2*(l.length:Int));unfold Zu;omega,?_⟩;have ea:(21:Int)+2*(l.length:Int)=((21+2*l.length:Nat):Int):=O1
    have eb:(22:Int)+2*(l.length:Int)=((22+2*l.length:Nat):Int):=O1
    rw[ea];refine⟨.int .i64 (p.getD (21+2*l.length) 0:Nat),λ U' q _=>?_,?_⟩
    .refine⟨Qbj.any,(Qae A pl J p (F _ q.lg) (21+2*l.length)).mono ?_⟩;rintro _ C⟨rfl,E⟩-;obtain rfl:=E.symm;exact⟨rfl,_,.refl _,.refl _⟩
    refine⟨_,D.sees3 (o:=1) rfl,rfl,O1,?_⟩;generalize ae:Int.tmod ((p.getD (21+2*l.length) 0:Nat):Int) (h.cl:Int)=G;have Q:0<=G/\G<b.nc:=by rw[<- ae,P];exact⟨Int.tmod_nonneg _ (Int.natCast_nonneg _),Int.tmod_lt_of_pos _ O1⟩
    refine⟨by show Zu (2*(l.length:Int));unfold Zu;omega,?_⟩;refine⟨by show Zu (22+2*(l.length:Int));unfold Zu;omega,?_⟩;rw[eb];refine⟨.int .i64 (p.getD (22+2*l.length) 0:Nat),λ U' q _=>?_,?_⟩
    .refine⟨Qbj.any,(Qae A pl J p (F _ q.lg) (22+2*l.length)).mono ?_⟩;rintro _ C⟨rfl,E⟩-;obtain rfl:=E.symm;exact⟨rfl,_,.refl _,.refl _⟩
    refine⟨_,D.sees3 (o:=1) rfl,rfl,O1,?_⟩;generalize af:Int.tmod ((p.getD (22+2*l.length) 0:Nat):Int) (h.cl:Int)=H;have R:0<=H/\H<b.nc:=by rw[<- af,P];exact⟨Int.tmod_nonneg _ (Int.natCast_nonneg _),Int.tmod_lt_of_pos _ O1⟩
    refine⟨λ v U'=>∃u,v=.slice (some ⟨u,0,none⟩) 1 1/\Zi U' u #[.int .i64 G,.int .i64 H],λ v y1 y2⟨u,e,hh⟩q=>⟨u,e,hh.le q⟩,λ U' q _=>?_,λ v hv=>?_⟩
    .conv=>whnf
     intro u r;exact Zk r λ U9 h9 r=>⟨_,.refl _,⟨u,rfl,r⟩,h9⟩
    obtain⟨_,-,-,u,rfl,-⟩:=hv
    conv=>whnf
    rintro U3 K⟨-,Y,e,r⟩;obtain rfl:u=Y:=by simpa using e
    have z:=g.trans K.lg
    conv=>whnf
    refine Ws (v:=.slice sa sl sc) (cs:=l.flatMap encII) (new:=encII (G,H)) (M₀:=U.M) Y5 rfl rfl (by rw[K.own];exact d) (.inr ⟨_,rfl,r.reads (λ k v hv=>by simpa[encII]using hv)⟩) rfl (by simp[encII,Value.single]) (by rw[Q0 (n:=2) (λ _=>rfl)];simp[encII];omega) λ v' M' L _=>?_;obtain⟨ta,tl,tc,rfl,-,-⟩:=Acc.src (U:={ U3 with M:=M' }) L;refine⟨N,?_⟩
    conv=>whnf
    exact⟨rfl,(l++[(G,H)],.slice ta tl tc),⟨rfl,rfl,rfl,by show Value.int .i64 ((l.length:Int)+1)=.int .i64 (((l++[(G,H)]).length:Nat):Int);simp,trivial⟩,⟨⟨z.imm,⟨_,(append_nil _).symm⟩,z.tok⟩,S3,λ s V=>(mem_append.1 V).elim (m s) λ V=>by rw[mem_singleton.1 V];exact⟨Q.1,Q.2,R.1,R.2⟩,by show Acc 84 2 _ ((l++[(G,H)]).flatMap encII) _ _;rw[flatMap_append];simpa using L⟩,by show _-_<_-_;simp;omega⟩
   .repeat refine⟨rfl,?_⟩
    conv=>whnf
    exact⟨l,d,λ x o hx=>g.imm x o (j.imm x o hx),g.tok.trans j.tok,t,m⟩
  .repeat refine⟨rfl,?_⟩
   conv=>whnf
   exact⟨l,d,λ x o hx=>g.imm x o (j.imm x o hx),g.tok.trans j.tok,t,m⟩
 refine X.sep λ v U' V⟨l,ha,hI,ht,t,m⟩=>?_;obtain⟨C,k1,k2,a,len,cap,rfl,hl,W,ad,_⟩:=ha.freeze V hI ht;have O:l.length=len:=by rw[Q0 (n:=2) (λ _=>rfl)]at hl;omega
 subst O;exact⟨C,k1,⟨l,a,cap,rfl,HV (enc:=encII) (n:=2) (λ _=>rfl) W ad D1,t,m⟩,k2⟩
end Go.Proofs
namespace Go.TM
variable{T:Type}{U U':Qa T}
def Zq.zero:Zq U BH.zero ⟨[],[]⟩:=⟨⟨rfl,λ i x h=>by simp at h⟩,⟨rfl,λ i x h=>by simp at h⟩,by show 0<_;decide,by show 0<_;decide,S1,S1⟩
end Go.TM
namespace Go.Proofs
open Go.TM
section
variable{T:Type}{S:TM.Sys Tryz.prog T}{U:Qa T}
attribute [local irreducible] Qb Zl Wt
def Qp3(a h:Option Addr)(len cap d:Nat)(l:List ByteArray)(y:Q5 U a len 1 l λ s vs=>vs=[.string s])(q:Q5 U h len 1 l λ s vs=>vs=[.string s])(u:len<2^60) :
  Qb S 59 #[.slice a len cap,.slice h len d] (λ v U'=>v=.bool true/\U'=U) U:=by
 refine Qb.pure' (Qb.of (args:=[_,_]) Qqa Qf S1 ?_)
 repeat refine⟨rfl,?_⟩
 conv=>whnf
 apply Qe<;>intro e
 .exact absurd e S1
 refine⟨Nat,λ i=>[(0,.slice a len cap),(1,.slice h len d),(5,.int .i64 i)],λ i U'=>U.le U'/\i<=len,λ i=>len-i,0,T1,⟨.refl _,O1⟩,?_⟩;rintro i f D⟨b,F⟩;have o:Zu ((i:Int)+1):=I1
 repeat refine⟨rfl,?_⟩
 conv=>whnf
 apply Qe<;>intro e
 .have hlt:i<len:=by simpa using e
  obtain⟨w,x,vs,A,n,-,rfl,-,z⟩:=y.at hlt;obtain⟨j,C,B,t,g,-,rfl,-,r⟩:=q.at hlt;obtain rfl:x=C:=Option.some.inj (A.symm.trans t);refine⟨w,i,⟨n,rfl,hlt⟩,_,(z.lg b.lg) 0 _ rfl,j,i,⟨g,rfl,hlt⟩,_,(r.lg b.lg) 0 _ rfl,?_⟩
  conv=>whnf
  intro E m _
  repeat refine⟨rfl,?_⟩
  conv=>whnf
  apply Qe<;>intro e
  .exact absurd e S1
  refine⟨o,?_⟩
  conv=>whnf
  exact⟨rfl,i+1,T1,⟨b.trans m,O1⟩,L1⟩
 repeat refine⟨rfl,?_⟩
 conv=>whnf
 exact b.lg
end
end Go.Proofs
namespace Go.TM
def WQ.bcN{T:Type}{U:Qa T}{v:Value}{l:List Bool}(h:WQ U v l):∃a c,v=.slice a l.length c/\WX U a l.length l:=let ⟨a,c,e,r⟩:=h;⟨a,c,e,rfl,r⟩
end Go.TM
namespace Go.Proofs
open Go.TM
def Qdh:List (List (Nat×St)):=[[(0,.xd 24 2 2),(0,.xd 25 2 2),(0,.m 26 1),(2,.d 27 (.call (.func 57) #[(.t 25),(.t 26)])),(2,.d 28 (.call (.func 55) #[(.t 24),(.t 27)])),(0,.m 23 28),(0,.xe 29 23 0),(0,.xe 30 23 1),(2,.d 5 (.alloc 25 #[(.slice none 0 0),(.slice none 0 0)])),(2,⟨.st 2 (.t 5) (.t 29),none,none,none⟩)],
 [(0,.xd 24 2 2),(0,.xd 25 2 2),(0,.m 26 1),(2,.d 27 (.call (.func 57) #[(.t 25),(.t 26)])),(2,.d 5 (.alloc 25 #[(.slice none 0 0),(.slice none 0 0)])),(2,.d 28 (.call (.func 55) #[(.t 24),(.t 27)])),(0,.m 23 28),(0,.xe 29 23 0),(0,.xe 30 23 1),(2,⟨.st 2 (.t 5) (.t 29),none,none,none⟩)],
 [(0,.xd 24 2 2),(0,.xd 25 2 2),(0,.m 26 1),(2,.d 5 (.alloc 25 #[(.slice none 0 0),(.slice none 0 0)])),(2,.d 27 (.call (.func 57) #[(.t 25),(.t 26)])),(2,.d 28 (.call (.func 55) #[(.t 24),(.t 27)])),(0,.m 23 28),(0,.xe 29 23 0),(0,.xe 30 23 1),(2,⟨.st 2 (.t 5) (.t 29),none,none,none⟩)]]
def Qvo:List St:=[.m 6 30]
def PkV(b:Bk)(v:Value)(U':Qa Tk):Prop:=∃(l:List (Int×Int))(a:Option Addr)(c:Nat),v=.slice a l.length c/\Q5 U'.frz a l.length 2 l (λ x vs=>vs=encII x)/\l.length<=4/\∀s∈l,0<=s.1/\s.1<b.nc/\0<=s.2/\s.2<b.nc
def PkV.le{b:Bk}{v:Value}{U U':Qa Tk}(h:PkV b v U)(k:U.frz.lg U'.frz):PkV b v U':=let ⟨l,a,c,e,h1,h2⟩:=h;⟨l,a,c,e,h1.lg k λ _ _ h=>h,h2⟩
def SyV(b:Bk)(v:Value)(U':Qa Tk):Prop:=∃(l:List (Int×Int))(a:BH)(f:Int),v=.tuple #[a.v,.int .i64 f]/\Q4w b l U' a f
def SyV.le{b:Bk}{v:Value}{U U':Qa Tk}(h:SyV b v U)(k:U.frz.lg U'.frz):SyV b v U':=let ⟨l,a,c,e,h1⟩:=h;⟨l,a,c,e,h1.imp id λ⟨x,y,z⟩=>⟨x,y.lg k,z⟩⟩
def SyV.sta{b:Bk}{a:BH}{f:Int}{U:Qa Tk}(h:SyV b (.tuple #[a.v,.int .i64 f]) U):∃l,Q4w b l U a f:=by
 obtain⟨l,d,j,e,m⟩:=h;obtain⟨g,rfl⟩:a.v=d.v/\f=j:=by simpa using e
 obtain rfl:a=d:=by cases a;cases d;simp[BH.v]at g;obtain⟨⟨rfl,rfl,rfl⟩,rfl,rfl,rfl⟩:=g;rfl
 exact⟨l,m⟩
abbrev zB:Array Value:=#[.slice none 0 0,.slice none 0 0]
def HsV(d:Qa Tk)(b:Bk)(e:Nat)(v:Value)(U':Qa Tk):Prop:=∃a,d.le a/\SyV b v a/\Hlr a e 25 zB U'
def HsV.of{e U' a:Qa Tk}{b:Bk}{f:Nat}{v:Value}(h:Hlr e f 25 zB U')(g:U'.le a)(l:WH a)(j:SyV b v a):HsV e b f v a:=by
 have d:=h.le g;refine⟨{ a with M:=e.M },⟨d.imm,rfl,d.tok⟩,j.le ⟨λ _ _ h=>h,⟨[],rfl⟩,rfl⟩,⟨λ _ _ h=>h,d.own,rfl,?_⟩⟩;exact l (.obj f (.cells zB 25 (0,0))) (by rw[d.own];exact mem_cons_self ..)
attribute [local irreducible] Qb Zl Wt
set_option maxHeartbeats 4000000 in
def Q4u{U:Qa Tk}(ap:U.tok=⟨0,.out,none⟩)(hk:WA U)(h:BH)(b:Bk)(hb:Zq U.frz h b)(bu:DH b)(bv:h.rl<=h.rc)(b8:h.cl<=h.cc)(pa:Option Addr)(pl pc:Nat)(p:List Nat)(hp:Q5 U.frz pa pl 1 p λ(n:Nat)vs=>vs=[.int .u16 (n:Int)]/\n<65536)(cg:pl<2^60) :
  J (Zb Tryz.prog 209 6) (QA Tryz.prog λ v U'=>v=.bool true/\U.lg U') true (Rf (Frame.enter Tryz.prog 16 #[h.v,.slice pa pl pc] .normal) []) U:=by
 refine Zpy (args:=[_,_]) (Q:=λ v U'=>v=.bool true/\U.lg U') Zc6 Qf K1 S1 (λ v U' q=>q.2.tok.trans ap) ?_;have ai:=hb.cs.1;have ax:=hb.rs.1;have ag:∀U2:Qa Tk,U.lg U2->Qb (Zb Tryz.prog 209 6) 20 #[] (λ v U'=>v=.bool true/\U'=U2) U2:=λ U2 h=>Zm2 (h.tok.trans ap) (hk.lg h)
 repeat refine⟨rfl,?_⟩
 conv=>whnf
 intro B A z hB;have hB:Zi A B #[.slice h.ra h.rl h.rc,.slice h.ca h.cl h.cc]:=hB;have bp:Zi A.frz B #[.slice h.ra h.rl h.rc,.slice h.ca h.cl h.cc]:=hB;have Z:=hb.lg z.lg.frz2;have bi:∀w:Qa Tk,A.frz.lg w->Q5 w pa pl 1 p λ(n:Nat)vs=>vs=[.int .u16 (n:Int)]/\n<65536:=λ w hw=>Q5.lg (R':=λ(n:Nat)vs=>vs=[.int .u16 (n:Int)]/\n<65536) hp (z.lg.frz2.trans hw) λ _ _ h=>h;have I:∀w:Qa Tk,A.frz.lg w->Jn w ⟨B,0,none⟩ [.slice h.ra h.rl h.rc,.slice h.ca h.cl h.cc]:=λ w hw=>(bp.lg hw).rd;refine⟨_,⟨rfl,I _ Qp⟩,kh.any,(Zm1 h b Z bu bv).mono ?_⟩;rintro _ U'⟨⟨g,rfl,hg⟩,C⟩-;obtain rfl:=C.symm;cases g with
 |false=>
  refine⟨yL.any,(ag _ z.lg).go λ _=>?_⟩
  repeat refine⟨rfl,?_⟩
  conv=>whnf
  exact z.lg
 |true=>
 have hf:b.flaw Qu=0:=hg rfl;have ad:=Bk.ok_of hf;have ce:=ad.nr;have cd:=ad.nc;have bt:WA A.frz:=(hk.lg z.lg:WA A);have a2:∀U':Qa Tk,A.frz.lg U'->Qb (Zb Tryz.prog 209 6) 57 #[h.v,.slice pa pl pc] (λ v u=>PkV b v u/\U'.le u) U':=λ U' hl=>Qga h b (Z.lg (show A.frz.lg U'.frz from⟨hl.imm,⟨[],rfl⟩,hl.tok⟩)) pa pl pc p (bi _ ⟨hl.imm,⟨[],rfl⟩,hl.tok⟩)
 have a1:∀(v1:Value)(U':Qa Tk),A.frz.lg U'->PkV b v1 U'->Qb (Zb Tryz.prog 209 6) 55 #[h.v,v1] (λ v u=>SyV b v u/\U'.le u) U':=λ v1 U' hl hP=>by
  obtain⟨l,a,c,rfl,hR,cb,L⟩:=hP;exact(Qek h b (Z.lg (show A.frz.lg U'.frz from⟨hl.imm,⟨[],rfl⟩,hl.tok⟩)) (bt.lg hl) hf l a c hR O1 L).mono λ v u⟨⟨j,f,e,hS⟩,d⟩=>⟨⟨l,j,f,e,hS⟩,d⟩
 conv=>whnf
 intro b6 ac
 refine SQ (mu:=[]) (ops:=Pl Tryz.f16 3) (id:=3) ac [3,4,8,9] [[0,1,2,3,4,5,6,7,8,9],[0,1,2,3,8,4,5,6,7,9],[0,1,2,8,3,4,5,6,7,9]] [10] Qdh Qvo Qf K1 K1 K1 K1 K1
  (λ f' a3 U'=>a3=[]/\∃m j S,XF f' [(1,.slice pa pl pc),(2,.pointer (some ⟨B,0,none⟩)),(5,.pointer (some ⟨m,0,none⟩)),(30,.int .i64 S)]/\A.le U'/\Zi U' m #[.slice j.ra j.rl j.rc,.slice j.ca j.cl j.cc]/\∃l,Q4w b l U' j S) ?_ ?_
 .intro l hl;simp only[Qdh,mem_cons,not_mem_nil,or_false]at hl;rcases hl with rfl|rfl|rfl
  .refine⟨_,⟨rfl,I _ ⟨λ _ _ h=>h,⟨[],rfl⟩,rfl⟩⟩,_,⟨rfl,I _ ⟨λ _ _ h=>h,⟨[],rfl⟩,rfl⟩⟩,λ v U'=>A.le U'/\PkV b v U',λ v N O r d=>⟨r.1.trans d,r.2.le d.lg.frz2⟩,λ v U' r=>Qp.trans r.1.lg,λ U' t=>?_,λ v H=>?_⟩
   .refine⟨Qdg.any,(a2 U' (Qp.trans t.lg)).mono λ v u⟨D,F⟩_=>⟨u,.refl _,t.trans F,D⟩⟩
   obtain⟨_,-,l0,a0,c0,rfl,-⟩:=H;refine⟨λ v U'=>A.le U'/\SyV b v U',λ v N O r d=>⟨r.1.trans d,r.2.le d.lg.frz2⟩,λ v U' r=>Qp.trans r.1.lg,λ U' t=>?_,λ v H=>?_⟩
   .refine⟨Qdc.any,(a1 _ U' (Qp.trans t.1.lg) t.2).mono λ v u⟨D,F⟩_=>⟨u,.refl _,t.1.trans F,D⟩⟩
   obtain⟨_,-,l0,j,S,rfl,-⟩:=H;refine⟨λ v U'=>∃m,v=.pointer (some ⟨m,0,none⟩)/\HsV A b m (.tuple #[j.v,.int .i64 S]) U',λ v N O⟨m,e,T,y1,y2,y3⟩d=>⟨m,e,T,y1,y2,y3.le d⟩,λ v U'⟨m,e,T,y1,y2,y3⟩=>y1.lg.frz2.trans y3.frz1,λ U' t=>?_,λ v H=>?_⟩
   .conv=>whnf
    intro m ab;exact⟨_,.refl _,_,.refl _,m,rfl,U',t.1,t.2,.made (.refl _) ab⟩
   obtain⟨_,m,rfl,-⟩:=H;refine⟨λ v U'=>A.le U'/\Zi U' m #[.slice j.ra j.rl j.rc,.slice j.ca j.cl j.cc]/\SyV b (.tuple #[j.v,.int .i64 S]) U',λ v N O r d=>⟨r.1.trans d,r.2.1.le d,r.2.2.le d.lg.frz2⟩,λ v U' r=>Qp.trans r.1.lg,λ U' t=>?_,λ v H=>?_⟩
   .obtain⟨b5',e,T,k1,k2,k3⟩:=t;obtain rfl:m=b5':=by simpa using e
    conv=>whnf
    exact⟨rfl,k3.write (vs:=[.slice j.ra j.rl j.rc,.slice j.ca j.cl j.cc]) rfl (by simp[Value.single]) λ U2 d y=>⟨_,.refl _,k1.trans d,y,k2.le d.lg.frz2⟩⟩
   conv=>whnf
   rintro U'⟨D,F,q3⟩;exact⟨rfl,m,j,S,T1,D,F,q3.sta⟩
  .refine⟨_,⟨rfl,I _ ⟨λ _ _ h=>h,⟨[],rfl⟩,rfl⟩⟩,_,⟨rfl,I _ ⟨λ _ _ h=>h,⟨[],rfl⟩,rfl⟩⟩,λ v U'=>A.le U'/\PkV b v U',λ v N O r d=>⟨r.1.trans d,r.2.le d.lg.frz2⟩,λ v U' r=>Qp.trans r.1.lg,λ U' t=>?_,λ v H=>?_⟩
   .refine⟨Qdg.any,(a2 U' (Qp.trans t.lg)).mono λ v u⟨D,F⟩_=>⟨u,.refl _,t.trans F,D⟩⟩
   obtain⟨_,-,l0,a0,c0,rfl,-⟩:=H;refine⟨λ v U'=>∃m,v=.pointer (some ⟨m,0,none⟩)/\Hlr A m 25 zB U'/\PkV b (.slice a0 l0.length c0) U',λ v N O⟨m,e,r,hq⟩d=>⟨m,e,r.le d,hq.le d.lg.frz2⟩,λ v U'⟨m,e,r,hq⟩=>r.frz1,λ U' t=>?_,λ v H=>?_⟩
   .conv=>whnf
    intro m ab;exact⟨_,.refl _,_,.refl _,m,rfl,.made t.1 ab,t.2.le ⟨λ _ _ h=>h,⟨[],rfl⟩,rfl⟩⟩
   obtain⟨_,m,rfl,-⟩:=H;refine⟨λ v U'=>HsV A b m v U',λ v N O⟨T,y1,y2,y3⟩d=>⟨T,y1,y2,y3.le d⟩,λ v U'⟨T,y1,y2,y3⟩=>y1.lg.frz2.trans y3.frz1,λ U' t=>?_,λ v H=>?_⟩
   .obtain⟨b5',e,t⟩:=t;obtain rfl:m=b5':=by simpa using e
    refine⟨Qdc.any,(a1 _ U' t.1.frz1 t.2).mono λ v u⟨D,F⟩hs=>⟨u,.refl _,.of t.1 F hs D⟩⟩
   obtain⟨_,bk,-,⟨l0,j,S,rfl,-⟩,-⟩:=H;refine⟨λ v U'=>A.le U'/\Zi U' m #[.slice j.ra j.rl j.rc,.slice j.ca j.cl j.cc]/\SyV b (.tuple #[j.v,.int .i64 S]) U',λ v N O r d=>⟨r.1.trans d,r.2.1.le d,r.2.2.le d.lg.frz2⟩,λ v U' r=>Qp.trans r.1.lg,λ U' t=>?_,λ v H=>?_⟩
   .obtain⟨T,k1,k2,k3⟩:=t
    conv=>whnf
    exact⟨rfl,k3.write (vs:=[.slice j.ra j.rl j.rc,.slice j.ca j.cl j.cc]) rfl (by simp[Value.single]) λ U2 d y=>⟨_,.refl _,k1.trans d,y,k2.le d.lg.frz2⟩⟩
   conv=>whnf
   rintro U'⟨D,F,q3⟩;exact⟨rfl,m,j,S,T1,D,F,q3.sta⟩
  .refine⟨_,⟨rfl,I _ ⟨λ _ _ h=>h,⟨[],rfl⟩,rfl⟩⟩,_,⟨rfl,I _ ⟨λ _ _ h=>h,⟨[],rfl⟩,rfl⟩⟩,λ v U'=>∃m,v=.pointer (some ⟨m,0,none⟩)/\Hlr A m 25 zB U',λ v N O⟨m,e,r⟩d=>⟨m,e,r.le d⟩,λ v U'⟨m,e,r⟩=>r.frz1,λ U' t=>?_,λ v H=>?_⟩
   .conv=>whnf
    intro m ab;exact⟨_,.refl _,_,.refl _,m,rfl,.made t ab⟩
   obtain⟨_,m,rfl,-⟩:=H;refine⟨λ v U'=>Hlr A m 25 zB U'/\PkV b v U',λ v N O⟨r,hq⟩d=>⟨r.le d,hq.le d.lg.frz2⟩,λ v U'⟨r,hq⟩=>r.frz1,λ U' t=>?_,λ v H=>?_⟩
   .obtain⟨b5',e,t⟩:=t;obtain rfl:m=b5':=by simpa using e
    refine⟨Qdg.any,(a2 U' t.frz1).mono λ v u⟨D,F⟩_=>⟨u,.refl _,t.le F,D⟩⟩
   obtain⟨_,-,l0,a0,c0,rfl,-⟩:=H;refine⟨λ v U'=>HsV A b m v U',λ v N O⟨T,y1,y2,y3⟩d=>⟨T,y1,y2,y3.le d⟩,λ v U'⟨T,y1,y2,y3⟩=>y1.lg.frz2.trans y3.frz1,λ U' t=>?_,λ v H=>?_⟩
   .refine⟨Qdc.any,(a1 _ U' t.1.frz1 t.2).mono λ v u⟨D,F⟩hs=>⟨u,.refl _,.of t.1 F hs D⟩⟩
   obtain⟨_,bk,-,⟨l0,j,S,rfl,-⟩,-⟩:=H;refine⟨λ v U'=>A.le U'/\Zi U' m #[.slice j.ra j.rl j.rc,.slice j.ca j.cl j.cc]/\SyV b (.tuple #[j.v,.int .i64 S]) U',λ v N O r d=>⟨r.1.trans d,r.2.1.le d,r.2.2.le d.lg.frz2⟩,λ v U' r=>Qp.trans r.1.lg,λ U' t=>?_,λ v H=>?_⟩
   .obtain⟨T,k1,k2,k3⟩:=t
    conv=>whnf
    exact⟨rfl,k3.write (vs:=[.slice j.ra j.rl j.rc,.slice j.ca j.cl j.cc]) rfl (by simp[Value.single]) λ U2 d y=>⟨_,.refl _,k1.trans d,y,k2.le d.lg.frz2⟩⟩
   conv=>whnf
   rintro U'⟨D,F,q3⟩;exact⟨rfl,m,j,S,T1,D,F,q3.sta⟩
 rintro f' a3 U2⟨rfl,m,ho,S,be,E,y,l,hS⟩;rw[<- be.ovr];clear be
 conv=>whnf
 intro a' K;refine⟨by rw[K.size,ac.size],_,K.get,?_⟩;rw[K.ds];clear K ac;rcases hS with⟨bs,rfl⟩|⟨rfl,aa,G,bf,bw⟩
 .rcases bs with rfl|rfl
  .repeat refine⟨rfl,?_⟩
   refine⟨_,y.sees3 (o:=0) rfl,_,y.sees3 (o:=1) rfl,by unfold Zu;decide,?_⟩
   repeat refine⟨rfl,?_⟩
   conv=>whnf
   refine(ag _ (z.trans E).lg).mono ?_;rintro _ U'⟨rfl,C⟩-;obtain rfl:=C.symm
   repeat refine⟨rfl,?_⟩
   conv=>whnf
   exact(z.trans E).lg
  .repeat refine⟨rfl,?_⟩
   refine⟨_,y.sees3 (o:=0) rfl,_,y.sees3 (o:=1) rfl,by unfold Zu;decide,?_⟩
   repeat refine⟨rfl,?_⟩
   conv=>whnf
   refine(ag _ (z.trans E).lg).mono ?_;rintro _ U'⟨rfl,C⟩-;obtain rfl:=C.symm
   repeat refine⟨rfl,?_⟩
   conv=>whnf
   exact(z.trans E).lg
 have R:(b.stys l).Ok:=(G.ok1 ad.ok1).ok bf;have K:(b.stys l).flaw Qu=0:=by rw[G.flaw hf,if_neg (by rw[bf];simp)]
 have bc:=aa.cs.1;have bj:=aa.rs.1;rw[Bk.stys_len]at bc;rw[Bk.stys_rs]at bj;have e1:ho.cl=h.cl:=O1
 have e2:ho.rl=h.rl:=O1
 have bx:Q5 U2.frz ho.ra h.rl 1 b.rs (λ s vs=>vs=[.string s]):=by have:=aa.rs;rwa [Bk.stys_rs,e2]at this
 have bb:=Z.lg E.lg.frz2;have a5:=z.trans E
 repeat refine⟨rfl,?_⟩
 refine⟨_,⟨rfl,y.rd⟩,?_⟩;refine⟨D6.any,(xZ ho (b.stys l) aa bw).go λ _=>?_⟩;rw[K]
 repeat refine⟨rfl,?_⟩
 refine⟨_,y.sees3 (o:=1) rfl,_,(hB.le E).sees3 (o:=1) rfl,?_⟩;rw[e1];refine⟨rfl,?_⟩;have a4:((h.cl:Int)!=(h.cl:Int))=false:=S1
 rw[a4];refine⟨_,y.sees3 (o:=0) rfl,_,(hB.le E).sees3 (o:=0) rfl,?_⟩;rw[e2];refine⟨Qqa.any,(Qp3 ho.ra h.ra h.rl ho.rc h.rc b.rs (bx.lg Qp λ _ _ h=>h) (bb.rs.lg Qp λ _ _ h=>h) hb.rl).go λ _=>?_⟩
 repeat refine⟨rfl,?_⟩
 refine⟨_,⟨rfl,I _ (SX Qp E)⟩,Fj.any,(yC h b bb (hk.lg a5.lg)).mono ?_⟩;rintro _ U3⟨⟨_,_,rfl,⟨ra,rc,rfl,hR⟩,⟨ca,cc,rfl,t⟩⟩,W⟩-;have b9:=hf;rw[hf]at hR t ⊢;rw[if_pos rfl]at hR t;rw[if_pos rfl,if_pos rfl];rw[show b.fatesC.length=h.cl by simp[Bk.fatesC,ai]]at t ⊢;rw[show b.fatesR.length=h.rl by simp[Bk.fatesR,ax]]at hR ⊢;have bn:=E.trans W;have a6:=a5.trans W;have aj:=aa.lg W.lg.frz2;have ao:(b.stys l).rs.length=h.rl:=by rw[Bk.stys_rs,ax]
 have al:(b.stys l).cs.length=h.cl:=by rw[Bk.stys_len,ai]
 refine⟨_,⟨rfl,(y.le W).rd⟩,?_⟩;refine⟨Fj.any,(yC ho (b.stys l) aj (hk.lg a6.lg)).mono ?_⟩;rintro _ U4⟨⟨_,_,rfl,⟨ua,uc,rfl,hU⟩,⟨wa,wc,rfl,hW⟩⟩,X⟩-;rw[K]at hU hW ⊢;rw[if_pos rfl]at hU hW;rw[if_pos rfl,if_pos rfl];rw[show(b.stys l).fatesC.length=h.cl by simp[Bk.fatesC,al]]at hW ⊢;rw[show(b.stys l).fatesR.length=h.rl by simp[Bk.fatesR,ao]]at hU ⊢;have a9:=X;have bo:=bn.trans X;have b7:=a6.trans X;have bl:((h.rl:Int)!=(h.rl:Int))=false:=S1
 repeat refine⟨rfl,?_⟩
 conv=>whnf
 rw[bl]
 repeat refine⟨rfl,?_⟩
 conv=>whnf
 rw[a4]
 repeat refine⟨rfl,?_⟩
 conv=>whnf
 refine⟨Nat,λ i=>[(1,.slice pa pl pc),(2,.pointer (some ⟨B,0,none⟩)),(5,.pointer (some ⟨m,0,none⟩)),(7,.slice ra h.rl rc),(8,.slice ca h.cl cc),(9,.slice ua h.rl uc),(10,.slice wa h.cl wc),(12,.int .i64 i)],λ i U'=>U4.le U'/\i<=h.rl,λ i=>h.rl-i,0,T1,⟨.refl _,O1⟩,?_⟩;rintro i f U5⟨Y,hi⟩;have L:Zu ((i:Int)+1):=I1
 repeat refine⟨rfl,?_⟩
 conv=>whnf
 apply Qe<;>intro hc
 .have hlt:i<h.rl:=by simpa using hc
  obtain⟨V,N,ay,rfl,-,D⟩:=(hR.lg (a9.trans Y).lg.frz2).at hlt;obtain⟨aq,O,az,rfl,-,F⟩:=(hU.lg Y.lg.frz2).at hlt;obtain rfl:b.fatR i=N:=by simpa[Bk.fatesR,ax,hlt]using ay
  obtain rfl:(b.stys l).fatR i=O:=by simpa[Bk.fatesR,ao,hlt]using az
  have M:=G.fatR ad R i;refine⟨V,i,⟨rfl,rfl,hlt⟩,_,D.lg Qp,?_⟩
  repeat refine⟨rfl,?_⟩
  conv=>whnf
  apply Zr<;>intro hc
  .have hne:b.fatR i≠0:=by simpa using hc
   refine⟨aq,i,⟨rfl,rfl,hlt⟩,_,F.lg Qp,V,i,⟨rfl,rfl,hlt⟩,_,D.lg Qp,?_⟩
   conv=>whnf
   intro U6 aw _;rw[M hne];have ar:(b.fatR i != b.fatR i)=false:=S1
   repeat refine⟨rfl,?_⟩
   conv=>whnf
   rw[ar]
   repeat refine⟨rfl,?_⟩
   refine⟨L,?_⟩
   conv=>whnf
   exact⟨rfl,i+1,T1,⟨Y.trans aw,O1⟩,L1⟩
  .conv=>whnf
   intro U6 aw _
   repeat refine⟨rfl,?_⟩
   refine⟨L,?_⟩
   conv=>whnf
   exact⟨rfl,i+1,T1,⟨Y.trans aw,O1⟩,L1⟩
 clear hi hc;have bm:=Y;refine⟨Nat,λ i=>[(1,.slice pa pl pc),(2,.pointer (some ⟨B,0,none⟩)),(5,.pointer (some ⟨m,0,none⟩)),(7,.slice ra h.rl rc),(8,.slice ca h.cl cc),(9,.slice ua h.rl uc),(10,.slice wa h.cl wc),(13,.int .i64 i)],λ i U'=>U4.le U'/\i<=h.cl,λ i=>h.cl-i,0,T1,⟨bm,O1⟩,?_⟩;rintro i f U7⟨h7,hi⟩;have L:Zu ((i:Int)+1):=I1
 repeat refine⟨rfl,?_⟩
 conv=>whnf
 apply Qe<;>intro hc
 .have hlt:i<h.cl:=by simpa using hc
  obtain⟨V,N,ay,rfl,-,D⟩:=(t.lg (a9.trans h7).lg.frz2).at hlt;obtain⟨aq,O,az,rfl,-,F⟩:=(hW.lg h7.lg.frz2).at hlt;obtain rfl:b.fatC i=N:=by simpa[Bk.fatesC,ai,hlt]using ay
  obtain rfl:(b.stys l).fatC i=O:=by simpa[Bk.fatesC,al,hlt]using az
  have M:=G.fatC ad R i;refine⟨V,i,⟨rfl,rfl,hlt⟩,_,D.lg Qp,?_⟩
  repeat refine⟨rfl,?_⟩
  conv=>whnf
  apply Zr<;>intro hc
  .have hne:b.fatC i≠0:=by simpa using hc
   refine⟨aq,i,⟨rfl,rfl,hlt⟩,_,F.lg Qp,V,i,⟨rfl,rfl,hlt⟩,_,D.lg Qp,?_⟩
   conv=>whnf
   intro U8 h8 _;rw[M hne];have ar:(b.fatC i != b.fatC i)=false:=S1
   repeat refine⟨rfl,?_⟩
   conv=>whnf
   rw[ar]
   repeat refine⟨rfl,?_⟩
   refine⟨L,?_⟩
   conv=>whnf
   exact⟨rfl,i+1,T1,⟨h7.trans h8,O1⟩,L1⟩
  .conv=>whnf
   intro U8 h8 _
   repeat refine⟨rfl,?_⟩
   refine⟨L,?_⟩
   conv=>whnf
   exact⟨rfl,i+1,T1,⟨h7.trans h8,O1⟩,L1⟩
 clear hi hc;have au:=h7;have a7:=bo.trans au;have ba:=y.le ((W.trans X).trans au);have ak:=aj.lg (X.trans au).lg.frz2;refine⟨_,⟨rfl,ba.rd⟩,?_⟩;refine⟨Qp5.any,(Qoa ho (b.stys l) ak R pa pl pc p (bi _ a7.lg.frz2)).mono ?_⟩;rintro _ U9⟨⟨oa,oc,rfl,hO⟩,h9⟩-;have ae:=Bk.pick_ord R p;generalize(b.stys l).pickO p (b.stys l).cs.length []=o at ae hO ⊢;rw[length_map]at hO ⊢;have af:=G.ord ae;have cf:o.length=h.cl:=by rw[af.len,ai]
 have bg:b.outF (o.map λ(k:Nat)=>(k:Int))=0:=by unfold Bk.outF;rw[if_pos hf];exact af.flaw
 have an:(b.stys l).outF (o.map λ(k:Nat)=>(k:Int))=0:=by unfold Bk.outF;rw[if_pos K];exact ae.flaw
 have bh:(o.map λ(k:Nat)=>(k:Int)).map Int.toNat=o:=by
  rw[map_map];exact(map_congr_left (λ _ _=>rfl)).trans (map_id o)
 have ah:=a7.trans h9;refine⟨_,⟨rfl,I _ (SX Qp ah)⟩,YQ.any,(IR h b (Z.lg ah.lg.frz2) (hk.lg (z.trans ah).lg) oa o.length oc _ hO O1).mono ?_⟩;rintro _ bz⟨⟨v1,v2,rfl,b1,b2⟩,P⟩-;rw[bg,if_pos rfl,bh]at b1 b2;rw[bg];obtain⟨xa,xc,rfl,hX⟩:=b1.bcN;obtain⟨ya,yc,rfl,hY⟩:=b2.bcN;have a8:=ah.trans P;refine⟨_,⟨rfl,(ba.le (h9.trans P)).rd⟩,?_⟩;refine⟨YQ.any,(IR ho (b.stys l) (ak.lg (h9.trans P).lg.frz2) (hk.lg (z.trans a8).lg) oa o.length oc _ (hO.lg P.lg.frz2) O1).mono ?_⟩;rintro _ b0⟨⟨v3,v4,rfl,b3,b4⟩,av⟩-;rw[an,if_pos rfl,bh,G.ends]at b3 b4;rw[an];obtain⟨sa,sc,rfl,hS⟩:=b3.bcN;obtain⟨za,zc,rfl,hZ⟩:=b4.bcN;have am:=(z.trans (a8.trans av)).lg;have bd:=b.end_len o;have bq:=(hX.lg av.lg.frz2).lg Qp;have br:=(hY.lg av.lg.frz2).lg Qp;have n1:(b.ends o).1.length<2^60:=by rw[bd.1];have:=hb.rl;omega
 have n2:(b.ends o).2.length<2^60:=by rw[bd.2];have:=hb.cl;omega
 repeat refine⟨rfl,?_⟩
 conv=>whnf
 refine(W0 xa sa _ xc _ sc _ _ bq (hS.lg Qp) n1).mono ?_;rintro _ U'⟨rfl,C⟩-;obtain rfl:=C.symm;rw[decide_eq_true rfl]
 repeat refine⟨rfl,?_⟩
 conv=>whnf
 refine(W0 ya za _ yc _ zc _ _ br (hZ.lg Qp) n2).mono ?_;rintro _ U'⟨rfl,C⟩-;obtain rfl:=C.symm;rw[decide_eq_true rfl]
 repeat refine⟨rfl,?_⟩
 conv=>whnf
 refine(ag _ am).mono ?_;rintro _ U'⟨rfl,C⟩-;obtain rfl:=C.symm
 repeat refine⟨rfl,?_⟩
 conv=>whnf
 exact am
end Go.Proofs

