/- Lemmas. No conditions. -/
import Derived.Test.YtnpfcnfhfkflhaaGreatDoorC07
set_option linter.all false
set_option maxRecDepth 100000
open List
namespace Go.TM
def Q4u{α:Type}{l:List α}{q:List α->Bool}{m i:Nat}{x:List α}(c:∀j,j<m->∀p∈parts l j,q p=false)(g:(parts l m)[i]?=some x)(d:∀p∈(parts l m).take i,q p=false)(f:q x=true):∀(n b:Nat),b<=m->m<b+n->WP l q b n=some x
 |0,b,o,t=>O1
 |n+1,b,o,t=>by
  rw[BW];by_cases e:b=m
  .subst e
   have u:parts l b=(parts l b).take i++x::(parts l b).drop (i+1):=by
    obtain⟨v,rfl⟩:=List.getElem?_eq_some_iff.1 g;rw[getElem_cons_drop,take_append_drop]
   have:(parts l b).find? q=some x:=by
    rw[u,find?_append,find?_eq_none.2 λ p h=>by simp[d p h]];simp[f]
   rw[this]
  .rw[find?_eq_none.2 λ p h=>by simp[c b O1 p h]];exact Q4u c g d f n (b+1) O1 O1
def Q0j{α:Type}{l:List α}{q:List α->Bool}:∀(n b:Nat),(∀c,c<b+n->∀p∈parts l c,q p=false)->WP l q b n=none
 |0,_,_=>rfl
 |n+1,b,d=>by
  rw[BW,find?_eq_none.2 λ p h=>by simp[d b O1 p h]];exact Q0j n (b+1) λ c e=>d c O1
def Qvv{α:Type}{l:List α}{p q:List α->Bool}(h:∀y,y.Sublist l->p y=q y):∀(n m:Nat),WP l p m n=WP l q m n
 |0,_=>rfl
 |n+1,m=>by
  have:(parts l m).find? p=(parts l m).find? q:=by
   have:∀L:List (List α),(∀y∈L,y.Sublist l)->L.find? p=L.find? q:=λ L=>by
    induction L with
    |nil=>intro _;rfl
    |cons a L d=>intro c;rw[find?_cons,find?_cons,h a (c a S1),d λ y b=>c y (by simp[b])]
   exact this _ λ y b=>(Gk.1 b).1
  rw[BW,BW,this,Qvv h n (m+1)]
variable{b:Bk}
def Bk.wsP(b:Bk)(r:Nat)(p:List Int):Bool:=(woC b p).fatR r==1
def Bk.wsL(b:Bk)(r:Nat):List Int:=(WP b.every (b.wsP r) 0 (b.cs.length+1)).getD []
def Bk.hsL(b:Bk)(r:Nat):List Int:=(WP b.every (b.hgB r) 0 (b.cs.length+1)).getD []
def Bk.wsL_eq(b:Bk)(r:Nat):b.wsL r=b.wdL r:=by
 unfold Bk.wsL Bk.wdL;rw[Qvv λ y c=>?_];unfold Bk.wsP Bk.wdP;rw[Zq1 (Bk.every_pos c)]
def Bk.hsL_eq(c:b.Ok)(r:Nat):b.hsL r=b.dcL r:=by
 unfold Bk.hsL Bk.dcL;rw[Qvv λ y d=>Bk.hg_dc c d]
end Go.TM
namespace Go.Proofs
open Go.TM
variable{T:Type}{S:TM.Sys Tryz.prog T}{U:Qa T}
attribute [local irreducible] Qb Zl Wt
set_option maxHeartbeats 4000000 in
def Zc5(h:BH)(b:Bk)(hb:Zq U.frz h b)(ay:h.rl<=h.rc)(r:Int):Qb S 40 #[h.v,.int .i64 r] (λ v U'=>(∃T,v=.tuple #[T,.int .i64 (b.askF r)]/\Jd U'.frz T (if b.askF r=0 then b.wsL r.toNat else[]))/\U.le U') U:=by
 refine Qb.grown (R:=λ v U'=>∃T,v=.tuple #[T,.int .i64 (b.askF r)]/\Jd U' T (if b.askF r=0 then b.wsL r.toNat else[])) (λ v U1 U2 hl⟨T,e,h1⟩=>⟨T,e,h1.lg hl⟩) (Qb.of (args:=[_,_]) Zqf Qf S1 ?_);have a5:=hb.cs.1;have a0:=hb.rs.1
 repeat refine⟨rfl,?_⟩
 conv=>whnf
 intro B U1 D Y;have Y:Zi U1 B #[.slice h.ra h.rl h.rc,.slice h.ca h.cl h.cc]:=Y;have w:=hb.lg D.lg.frz2;refine⟨_,⟨rfl,Y.rd⟩,?_⟩;refine⟨Zph.any,(Q0o h b w ay r).go λ _=>?_⟩
 repeat refine⟨rfl,?_⟩
 conv=>whnf
 apply Qe<;>intro z
 .have C:b.askF r≠0:=by simpa using z
  rw[if_neg C]
  repeat refine⟨rfl,?_⟩
  conv=>whnf
  exact⟨⟨_,rfl,.nil⟩,D.lg⟩
 have C:b.askF r=0:=by simpa using z
 obtain⟨O,aw,ax⟩:=Bk.askF_ok C;obtain⟨q,rfl⟩:=Int.eq_ofNat_of_zero_le aw;have X:q<h.rl:=by unfold Bk.nr at ax;omega
 have au:=O.nc;rw[C,if_pos rfl,Int.toNat_natCast];have a6:=b.every_len;have ap:∀p,(woC b p).fatesR.length=h.rl:=λ p=>by simp[Bk.fatesR,woC,Bk.wo,a0]
 have ao:∀p,(woC b p).fatesR[q]?=some ((woC b p).fatR q):=λ p=>by simp[Bk.fatesR,woC,Bk.wo,show q<b.rs.length by omega]
 refine⟨Nat,λ m=>[(1,.int .i64 q),(2,.pointer (some ⟨B,0,none⟩)),(7,.int .i64 m)],
  λ m U'=>U1.le U'/\m<=b.cs.length+1/\∀Q,Q<m->∀p∈TM.parts b.every Q,b.wsP q p=false,λ m=>b.cs.length+1-m,0,T1,⟨.refl _,O1,O1⟩,?_⟩
 rintro m f U6⟨E,hm,u⟩;have ab:Zu ((m:Int)+1):=I1
 have Z:=Y.le E;refine⟨_,Z.sees3 (o:=1) rfl,?_⟩
 repeat refine⟨rfl,?_⟩
 conv=>whnf
 apply Qe<;>intro z
 rotate_left
 .have hge:m=b.cs.length+1:=by simp at z;omega
  have e:b.wsL q=[]:=by
   unfold Bk.wsL;rw[Q0j _ _ λ Q ar=>u Q O1];rfl
  rw[e]
  repeat refine⟨rfl,?_⟩
  conv=>whnf
  exact⟨⟨_,rfl,.nil⟩,(D.trans E).lg⟩
 have a3:m<=b.cs.length:=by simp at z;omega
 refine⟨_,⟨rfl,Z.rd⟩,?_⟩;refine⟨Zpi.any,(Qvz h b (w.lg E.lg.frz2) au).mono ?_⟩;rintro _ U7⟨⟨ea,ec,rfl,hE,P⟩,h7⟩-;refine⟨Qp5.any,(Qoa m b.every U7 ea ec O1 O1 P hE).mono ?_⟩;rintro _ U8⟨⟨pa,pc,cells,rfl,af,a8,t⟩,h8⟩-;have I:=t.1;have av:=Qlg b.every m;have a7:2^b.every.length<=2^5:=Nat.pow_le_pow_right O1 O1;generalize hP:TM.parts b.every m=ps at t I av;have ac:U1.le U8:=E.trans (h7.trans h8)
 refine⟨Nat,λ i=>[(1,.int .i64 q),(2,.pointer (some ⟨B,0,none⟩)),(7,.int .i64 m),(8,.slice pa cells.length pc),(9,.int .i64 i)],
  λ i U'=>U8.le U'/\i<=cells.length/\∀p∈ps.take i,b.wsP q p=false,λ i=>cells.length-i,0,T1,⟨.refl _,O1,S1⟩,?_⟩
 rintro i f U9⟨F,hi,c⟩;have aq:Zu ((i:Int)+1):=I1
 have g:=ac.trans F
 repeat refine⟨rfl,?_⟩
 conv=>whnf
 apply Qe<;>intro z
 rotate_left
 .have hge:i=cells.length:=by simp at z;omega
  rw[hge,I,take_length,<- hP]at c;refine⟨ab,?_⟩
  conv=>whnf
  exact⟨rfl,m+1,T1,⟨g,O1,λ Q ar=>by by_cases e:Q=m;exact e▸c;exact u Q O1⟩,L1⟩
 have M:i<cells.length:=by simpa using z
 obtain⟨x,hx⟩:∃x,ps[i]?=some x:=⟨_,getElem?_eq_getElem O1⟩;obtain⟨xa,xc,a2,G,ag⟩:=t.2 i x hx
 obtain⟨j,e',az⟩:∃j,pa=some j/\Jn U8.frz j cells:=by
  rcases af with⟨_,hn⟩|h
  .subst hn;simp at M
  .exact h
 have am:=Y.le g;have an:=w.lg g.lg.frz2;have G:=G.lg F.lg.frz2;have ae:=((az i _ a2).lg F.lg.frz2)
 have aa:b.wsP q x=true->b.wsL q=x:=λ X=>by
  unfold Bk.wsL;rw[Q4u u (by rw[hP];exact hx) (by rw[hP];exact c) X _ _ (Nat.zero_le _) O1];rfl
 have N:b.wsP q x=false->∀p∈ps.take (i+1),b.wsP q p=false:=λ X p W=>by
  rw[Ji hx,mem_append]at W;rcases W with W|W
  .exact c p W
  .rw[mem_singleton.1 W];exact X
 refine⟨_,⟨rfl,am.rd⟩,?_⟩;refine⟨j,i,⟨e',rfl,M⟩,.slice xa x.length xc,by rw[Nat.mul_one];exact ae.lg Qp,?_⟩;refine⟨λ v U'=>∃V:BH,v=V.v/\Zq U'.frz V (woC b x),λ v y1 y2⟨V,e,hh⟩d=>⟨V,e,hh.lg d.lg.frz2⟩,λ U' d _=>?_,λ v hv=>?_⟩
 .conv=>whnf
  exact⟨Zbz.any,(Qzk h b (an.lg d.lg.frz2) O xa x.length xc x (G.lg d.lg.frz2) ag).mono λ v U''⟨q1,q2⟩_=>⟨U'',.refl _,q1,q2⟩⟩
 obtain⟨_,-,-,V,rfl,-⟩:=hv;refine⟨λ v U'=>∃H J K L,v=.tuple #[.slice H h.rl J,.slice K (woC b x).fatesC.length L]/\Z5 U'.frz H h.rl (woC b x).fatesR,λ v y1 y2⟨H,J,K,L,e,hh⟩d=>⟨H,J,K,L,e,hh.lg d.lg.frz2⟩,λ U' d hC=>?_,λ v hv=>?_⟩
 .obtain⟨-,h2,e2,hb2⟩:=hC;obtain rfl:=BH.inj e2;refine⟨Q41.any,(Qf7 V (woC b x) hb2 (O.wo _)).mono ?_⟩;rintro _ U''⟨⟨_,_,rfl,⟨H,J,rfl,C⟩,⟨K,L,rfl,-⟩⟩,ad⟩-;rw[ap]at C ⊢;exact⟨U'',.refl _,⟨H,J,K,L,rfl,C⟩,ad⟩
 obtain⟨_,-,-,H,J,K,L,rfl,-⟩:=hv
 conv=>whnf
 rintro a4 A⟨⟨-,-⟩,ai,aj,ak,al,e2,C⟩;obtain⟨⟨rfl,rfl⟩,rfl,rfl⟩:(H=ai/\J=aj)/\K=ak/\L=al:=by simpa using e2
 obtain⟨ah,y,hy,eF,-,a1⟩:=C.at X;obtain rfl:(woC b x).fatR q=y:=Option.some.inj ((ao x).symm.trans hy);refine⟨ah,q,⟨eF,rfl,X⟩,_,a1.lg Qp,?_⟩
 repeat refine⟨rfl,?_⟩
 conv=>whnf
 apply Qe<;>intro z
 .have hqx:b.wsP q x=true:=by simpa[Bk.wsP]using z
  rw[aa hqx];refine⟨j,i,⟨e',rfl,M⟩,.slice xa x.length xc,by rw[Nat.mul_one];exact(ae.lg A.lg.frz2).lg Qp,?_⟩
  repeat refine⟨rfl,?_⟩
  conv=>whnf
  exact⟨⟨_,rfl,xa,xc,rfl,G.lg A.lg.frz2⟩,(D.trans (g.trans A)).lg⟩
 .have hqx:b.wsP q x=false:=by simpa[Bk.wsP]using z
  refine⟨aq,?_⟩
  conv=>whnf
  exact⟨rfl,i+1,T1,⟨F.trans A,O1,N hqx⟩,L1⟩
set_option maxHeartbeats 4000000 in
def Zop(h:BH)(b:Bk)(hb:Zq U.frz h b)(ai:h.rl<=h.rc)(r:Int):Qb S 45 #[h.v,.int .i64 r] (λ v U'=>(∃K,v=.tuple #[K,.int .i64 (b.askF r)]/\Jd U'.frz K (if b.askF r=0 then b.hsL r.toNat else[]))/\U.le U') U:=by
 refine Qb.grown (R:=λ v U'=>∃K,v=.tuple #[K,.int .i64 (b.askF r)]/\Jd U' K (if b.askF r=0 then b.hsL r.toNat else[])) (λ v U1 U2 hl⟨K,e,h1⟩=>⟨K,e,h1.lg hl⟩) (Qb.of (args:=[_,_]) Zqj Qf S1 ?_);have ao:=hb.cs.1;have ak:=hb.rs.1
 repeat refine⟨rfl,?_⟩
 conv=>whnf
 intro B U1 z M;have M:Zi U1 B #[.slice h.ra h.rl h.rc,.slice h.ca h.cl h.cc]:=M;have w:=hb.lg z.lg.frz2;refine⟨_,⟨rfl,M.rd⟩,?_⟩;refine⟨Zph.any,(Q0o h b w ai r).go λ _=>?_⟩
 repeat refine⟨rfl,?_⟩
 conv=>whnf
 apply Qe<;>intro E
 .have hF:b.askF r≠0:=by simpa using E
  rw[if_neg hF]
  repeat refine⟨rfl,?_⟩
  conv=>whnf
  exact⟨⟨_,rfl,.nil⟩,z.lg⟩
 have hF:b.askF r=0:=by simpa using E
 obtain⟨T,ag,ah⟩:=Bk.askF_ok hF;obtain⟨q,rfl⟩:=Int.eq_ofNat_of_zero_le ag;have V:q<h.rl:=by unfold Bk.nr at ah;omega
 have ae:=T.nc;rw[hF,if_pos rfl,Int.toNat_natCast];have ap:=b.every_len;have ar:∀p,(woC b p).fatesR.length=h.rl:=λ p=>by simp[Bk.fatesR,woC,Bk.wo,ak]
 have aq:∀p,(woC b p).fatesR[q]?=some ((woC b p).fatR q):=λ p=>by simp[Bk.fatesR,woC,Bk.wo,show q<b.rs.length by omega]
 refine⟨Nat,λ m=>[(1,.int .i64 q),(2,.pointer (some ⟨B,0,none⟩)),(7,.int .i64 m)],
  λ m U'=>U1.le U'/\m<=b.cs.length+1/\∀J,J<m->∀p∈TM.parts b.every J,b.hgB q p=false,λ m=>b.cs.length+1-m,0,T1,⟨.refl _,O1,O1⟩,?_⟩
 rintro m f U6⟨A,hm,u⟩;have P:Zu ((m:Int)+1):=I1
 have N:=M.le A;refine⟨_,N.sees3 (o:=1) rfl,?_⟩
 repeat refine⟨rfl,?_⟩
 conv=>whnf
 apply Qe<;>intro E
 rotate_left
 .have hge:m=b.cs.length+1:=by simp at E;omega
  have e:b.hsL q=[]:=by
   unfold Bk.hsL;rw[Q0j _ _ λ J ad=>u J O1];rfl
  rw[e]
  repeat refine⟨rfl,?_⟩
  conv=>whnf
  exact⟨⟨_,rfl,.nil⟩,(z.trans A).lg⟩
 have am:m<=b.cs.length:=by simp at E;omega
 refine⟨_,⟨rfl,N.rd⟩,?_⟩;refine⟨Zpi.any,(Qvz h b (w.lg A.lg.frz2) ae).mono ?_⟩;rintro _ U7⟨⟨ea,ec,rfl,hE,I⟩,h7⟩-;refine⟨Qp5.any,(Qoa m b.every U7 ea ec O1 O1 I hE).mono ?_⟩;rintro _ U8⟨⟨pa,pc,cells,rfl,Y,av,t⟩,h8⟩-;have F:=t.1;have af:=Qlg b.every m;have au:2^b.every.length<=2^5:=Nat.pow_le_pow_right O1 O1;generalize hP:TM.parts b.every m=ps at t F af;have Q:U1.le U8:=A.trans (h7.trans h8)
 refine⟨Nat,λ i=>[(1,.int .i64 q),(2,.pointer (some ⟨B,0,none⟩)),(7,.int .i64 m),(8,.slice pa cells.length pc),(9,.int .i64 i)],
  λ i U'=>U8.le U'/\i<=cells.length/\∀p∈ps.take i,b.hgB q p=false,λ i=>cells.length-i,0,T1,⟨.refl _,O1,S1⟩,?_⟩
 rintro i f U9⟨C,hi,c⟩;have ac:Zu ((i:Int)+1):=I1
 have d:=Q.trans C
 repeat refine⟨rfl,?_⟩
 conv=>whnf
 apply Qe<;>intro E
 rotate_left
 .have hge:i=cells.length:=by simp at E;omega
  rw[hge,F,take_length,<- hP]at c;refine⟨P,?_⟩
  conv=>whnf
  exact⟨rfl,m+1,T1,⟨d,O1,λ J ad=>by by_cases e:J=m;exact e▸c;exact u J O1⟩,L1⟩
 have G:i<cells.length:=by simpa using E
 obtain⟨x,hx⟩:∃x,ps[i]?=some x:=⟨_,getElem?_eq_getElem O1⟩;obtain⟨xa,xc,al,D,Z⟩:=t.2 i x hx
 obtain⟨j,e',aj⟩:∃j,pa=some j/\Jn U8.frz j cells:=by
  rcases Y with⟨_,hn⟩|h
  .subst hn;simp at G
  .exact h
 have aa:=M.le d;have ab:=w.lg d.lg.frz2;have D:=D.lg C.lg.frz2;have X:=((aj i _ al).lg C.lg.frz2)
 have O:b.hgB q x=true->b.hsL q=x:=λ V=>by
  unfold Bk.hsL;rw[Q4u u (by rw[hP];exact hx) (by rw[hP];exact c) V _ _ (Nat.zero_le _) O1];rfl
 have H:b.hgB q x=false->∀p∈ps.take (i+1),b.hgB q p=false:=λ V p L=>by
  rw[Ji hx,mem_append]at L;rcases L with L|L
  .exact c p L
  .rw[mem_singleton.1 L];exact V
 refine⟨_,⟨rfl,aa.rd⟩,?_⟩;refine⟨j,i,⟨e',rfl,G⟩,.slice xa x.length xc,by rw[Nat.mul_one];exact X.lg Qp,?_⟩
 conv=>whnf
 intro an g _;refine⟨Zqk.any,(Zpw h b (ab.lg g.lg.frz2) T q V xa xc x (D.lg g.lg.frz2) Z).go λ _=>?_⟩;cases W:b.hgB q x with
 |true=>
  rw[O W];refine⟨j,i,⟨e',rfl,G⟩,.slice xa x.length xc,by rw[Nat.mul_one];exact(X.lg g.lg.frz2).lg Qp,?_⟩
  repeat refine⟨rfl,?_⟩
  conv=>whnf
  exact⟨⟨_,rfl,xa,xc,rfl,D.lg g.lg.frz2⟩,(z.trans (d.trans g)).lg⟩
 |false=>
  refine⟨ac,?_⟩
  conv=>whnf
  exact⟨rfl,i+1,T1,⟨C.trans g,O1,H W⟩,L1⟩
def Znq(h:BH)(b:Bk)(K:Zq U.frz h b)(Y:h.rl<=h.rc)(a:Option Addr)(len cap:Nat)(l:List Int)(L:Z5 U.frz a len l)(j:len<2^60) :
  Qb S 42 #[h.v,.slice a len cap] (λ v U'=>(∃d:BH,v=.tuple #[d.v,.int .i64 (b.woF l)]/\Zq U'.frz d (if b.woF l=0 then b.wo (WR l).testBit else⟨[],[]⟩))/\U.le U') U:=by
 refine Qb.grown (R:=λ v U'=>∃d:BH,v=.tuple #[d.v,.int .i64 (b.woF l)]/\Zq U' d (if b.woF l=0 then b.wo (WR l).testBit else⟨[],[]⟩)) (λ v m U2 L⟨d,e,h1⟩=>⟨d,e,h1.lg L⟩) (Qb.of (args:=[_,_]) Zqh Qf S1 ?_);have T:=K.cs.1;have E:=K.cl;have X:b.nc=(h.cl:Int):=by unfold Bk.nc;rw[T]
 repeat refine⟨rfl,?_⟩
 conv=>whnf
 intro B m c N;have N:Zi m B #[.slice h.ra h.rl h.rc,.slice h.ca h.cl h.cc]:=N
 conv=>whnf
 intro A z;refine⟨_,.refl _,?_⟩;have g:=Z4 (U:=m) A (.cells #[.slice none 0 0,.slice none 0 0] 25);have q:=N.lg g;have W:=(L.lg c.lg.frz2).lg Qp;refine⟨_,⟨rfl,q.rd⟩,?_⟩;refine⟨D6.any,(xZ (U:=m.put A (.cells #[.slice none 0 0,.slice none 0 0] 25)) h b ((K.lg c.lg.frz2).lg g.frz2) Y).go λ _=>?_⟩
 repeat refine⟨rfl,?_⟩
 conv=>whnf
 apply Qe<;>intro D
 .have F:b.flaw Qu≠0:=by simpa using D
  have O:b.woF l=b.flaw Qu:=by unfold Bk.woF;rw[if_neg F]
  rw[O,if_neg F];refine⟨rfl,Zt (vs:=[.slice none 0 0,.slice none 0 0]) z rfl (by simp[Value.single]) λ U2 t f=>?_⟩;refine⟨_,⟨rfl,f.rd⟩,?_⟩
  conv=>whnf
  exact⟨⟨BH.zero,rfl,.zero⟩,(c.trans t).lg⟩
 have F:b.flaw Qu=0:=by simpa using D
 have H:=Bk.ok_of F;have aa:=H.nc;have O:b.woF l=J1 (h.cl:Int) none l:=by unfold Bk.woF;rw[if_pos F,X]
 rw[O];refine⟨_,q.sees3 (o:=1) rfl,Sa.any,(Dr a len cap l (W.lg g) j h.cl E).go λ _=>?_⟩
 repeat refine⟨rfl,?_⟩
 conv=>whnf
 apply Qe<;>intro D
 .have M:J1 (h.cl:Int) none l≠0:=by simpa using D
  rw[if_neg M];refine⟨rfl,Zt (vs:=[.slice none 0 0,.slice none 0 0]) z rfl (by simp[Value.single]) λ U2 t f=>?_⟩;refine⟨_,⟨rfl,f.rd⟩,?_⟩
  conv=>whnf
  exact⟨⟨BH.zero,rfl,.zero⟩,(c.trans t).lg⟩
 have M:J1 (h.cl:Int) none l=0:=by simpa using D
 have V:=Yk M;rw[M,if_pos rfl];have Z:=Zq1 (b:=b) λ n hn=>(V n hn).1;refine⟨_,⟨rfl,q.rd⟩,?_⟩;have G:Hlr m A 25 #[.slice none 0 0,.slice none 0 0] (m.put A (.cells #[.slice none 0 0,.slice none 0 0] 25)):=.made (.refl _) z;refine⟨Zbz.any,(Qzk (U:=m.put A (.cells #[.slice none 0 0,.slice none 0 0] 25)) h b ((K.lg c.lg.frz2).lg g.frz2) H a len cap l ((L.lg c.lg.frz2).lg g.frz2) j).mono ?_⟩;rintro _ U3⟨⟨d,rfl,w⟩,Q⟩I;have w:Zq U3.frz d (b.wo (WR l).testBit):=Z▸w;have G:=G.le Q;refine⟨rfl,Zq9 (vs:=[.slice d.ra d.rl d.rc,.slice d.ca d.cl d.cc]) I G.own rfl (by simp[Value.single]) λ U4 C J P f=>?_⟩;refine⟨_,⟨rfl,f.rd⟩,?_⟩
 conv=>whnf
 exact⟨⟨d,rfl,w.lg ⟨C,⟨[],rfl⟩,J⟩⟩,⟨λ x u hx=>C x u (G.imm x u (c.imm x u hx)),⟨[],by rw[P,c.own];rfl⟩,J.trans (G.tok.trans c.tok)⟩⟩
end Go.Proofs
namespace Go.Proofs
open Go.TM
attribute [local irreducible] Qb Zl Wt
set_option maxHeartbeats 4000000 in
def Zse{U:Qa Tk}(A:U.tok=⟨0,.out,none⟩)(W:WA U)(h:BH)(b:Bk)(hb:Zq U.frz h b)(ac:DH b)(H:h.rl<=h.rc)(ag:h.cl<=h.cc)(r:Int)(a:Option Addr)(len cap:Nat)(l:List Int)(hl:Z5 U.frz a len l)(z:len<2^60)(ad:len<=cap) :
  J (Zb Tryz.prog 209 6) (QA Tryz.prog λ v U'=>v=.bool true/\U.lg U') true (Rf (Frame.enter Tryz.prog 10 #[h.v,.int .i64 r,.slice a len cap] .normal) []) U:=by
 refine Zpy (args:=[_,_,_]) (Q:=λ v U'=>v=.bool true/\U.lg U') Zr2 Qf K1 S1 (λ v U' q=>q.2.tok.trans A) ?_;have C:∀I:Qa Tk,U.lg I->Qb (Zb Tryz.prog 209 6) 20 #[] (λ v U'=>v=.bool true/\U'=I) I:=λ I h=>Zm2 (h.tok.trans A) (W.lg h)
 have T:(if b.askF r=0 then b.wsL r.toNat else[])=b.wdF r/\(b.wdF r).length<2^60:=by
  unfold Bk.wdF;split
  .rename_i ha;obtain⟨j,h0,m⟩:=Bk.askF_ok ha;have:=Bk.sub_len (Bk.wd_facts j (r:=r.toNat) (by unfold Bk.nr at m;omega)).1;have:=j.nc;exact⟨b.wsL_eq _,O1⟩
  .exact⟨rfl,S1⟩
 have P:(if b.askF r=0 then b.hsL r.toNat else[])=b.dcF r/\(b.dcF r).length<2^60:=by
  unfold Bk.dcF;split
  .rename_i ha;obtain⟨j,h0,m⟩:=Bk.askF_ok ha;have:=Bk.sub_len (b.dc_facts r.toNat).1;have:=j.nc;exact⟨Bk.hsL_eq j _,O1⟩
  .exact⟨rfl,S1⟩
 repeat refine⟨rfl,?_⟩
 conv=>whnf
 intro B U1 d X;have X:Zi U1 B #[.slice h.ra h.rl h.rc,.slice h.ca h.cl h.cc]:=X;have c:=hb.lg d.lg.frz2;have u:=hl.lg d.lg.frz2;have e:∀w:Qa Tk,U1.le w->Jn w ⟨B,0,none⟩ [.slice h.ra h.rl h.rc,.slice h.ca h.cl h.cc]:=λ w hw=>(X.lg hw.lg).rd;refine⟨_,⟨rfl,e _ (.refl _)⟩,Er.any,(vY h b c ac).mono ?_⟩;rintro _ U'⟨⟨g,rfl⟩,Y⟩-;obtain rfl:=Y.symm;cases g with
 |true=>
  refine⟨yL.any,(C _ d.lg).go λ _=>?_⟩
  repeat refine⟨rfl,?_⟩
  conv=>whnf
  exact d.lg
 |false=>
 repeat refine⟨rfl,?_⟩
 conv=>whnf
 apply Qe<;>intro V
 .refine⟨yL.any,(C _ d.lg).go λ _=>?_⟩
  repeat refine⟨rfl,?_⟩
  conv=>whnf
  exact d.lg
 refine⟨_,⟨rfl,e _ (.refl _)⟩,Lr.any,(pJ h b c (W.lg d.lg) r).mono ?_⟩;rintro _ I⟨⟨_,rfl,xa,xc,rfl,hX⟩,G⟩-;refine⟨_,⟨rfl,e _ G⟩,Zqf.any,(Zc5 h b (c.lg G.lg.frz2) H r).mono ?_⟩;rw[T.1];rintro _ U3⟨⟨_,rfl,ya,yc,rfl,hY⟩,L⟩-;have f:=G.trans L;refine⟨Gx.any,(PP xa ya _ xc _ yc _ _ ((hX.lg L.lg.frz2).lg Qp) (hY.lg Qp) T.2).go λ _=>?_⟩;rw[decide_eq_true rfl]
 repeat refine⟨rfl,?_⟩
 conv=>whnf
 apply Qe<;>intro V
 .exact absurd V S1
 refine⟨_,⟨rfl,e _ f⟩,Zqg.any,(Zoo h b (c.lg f.lg.frz2) (W.lg (d.trans f).lg) a len cap l (u.lg f.lg.frz2) z).mono ?_⟩;rintro _ U4⟨⟨m,rfl,aa,-⟩,Z⟩-
 conv=>whnf
 intro ae R;refine⟨_,.refl _,rfl,Zt (vs:=[.slice m.ra m.rl m.rc,.slice m.ca m.cl m.cc]) R rfl (by simp[Value.single]) λ U5 M N=>?_⟩;have o:=f.trans (Z.trans M);refine⟨_,⟨rfl,e _ o⟩,Zqh.any,(Znq h b (c.lg o.lg.frz2) H a len cap l (u.lg o.lg.frz2) z).mono ?_⟩;rintro _ U6⟨⟨E,rfl,ab⟩,h6⟩-
 conv=>whnf
 intro af S;refine⟨_,.refl _,rfl,Zt (vs:=[.slice E.ra E.rl E.rc,.slice E.ca E.cl E.cc]) S rfl (by simp[Value.single]) λ U7 h7 O=>?_⟩;have F:=h6.trans h7;have t:=o.trans F;refine⟨_,⟨rfl,(N.le F).rd⟩,?_⟩;refine⟨_,⟨rfl,O.rd⟩,?_⟩;refine⟨Zqi.any,(Zg3 m E _ (aa.lg (M.trans F).lg.frz2) (ab.lg h7.lg.frz2)).go λ _=>?_⟩
 repeat refine⟨rfl,?_⟩
 conv=>whnf
 apply Qe<;>intro V
 .exact absurd V S1
 refine⟨_,⟨rfl,e _ t⟩,T8.any,(DZ h b (c.lg t.lg.frz2) (W.lg (d.trans t).lg) r).mono ?_⟩;rintro _ U8⟨⟨_,rfl,ua,uc,rfl,hU⟩,h8⟩-;have D:=t.trans h8;refine⟨_,⟨rfl,e _ D⟩,Zqj.any,(Zop h b (c.lg D.lg.frz2) H r).mono ?_⟩;rw[P.1];rintro _ U9⟨⟨_,rfl,va,vc,rfl,hV⟩,h9⟩-;have K:=d.trans (D.trans h9);refine⟨Gx.any,(PP ua va _ uc _ vc _ _ ((hU.lg h9.lg.frz2).lg Qp) (hV.lg Qp) P.2).go λ _=>?_⟩;rw[decide_eq_true rfl];refine⟨rfl,?_⟩;rw[beq_self_eq_true];refine⟨yL.any,(C _ K.lg).go λ _=>?_⟩
 repeat refine⟨rfl,?_⟩
 conv=>whnf
 exact K.lg
end Go.Proofs

