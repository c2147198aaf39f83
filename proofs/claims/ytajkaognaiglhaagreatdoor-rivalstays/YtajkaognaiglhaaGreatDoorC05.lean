/- Lemmas. No conditions. -/
import Derived.Test.YtajkaognaiglhaaGreatDoorC04
import Derived.Test.YtajkaognaiglhaaGreatDoorC02
set_option linter.all false
set_option maxRecDepth 100000
set_option maxHeartbeats 4000000
open List
open Go.Proofs.Tryz (prog)
namespace Go.TM
open Go.Proofs
variable{T:Type}{U U':Qa T}{b b8 len:Nat}{e:TypeId}{c:Array Value}{vs r:List Value}{L₁ L₂:List Q2}{Q:Qa T->Prop}{rows:List (List Value)}{a:Option Addr}{l:List Int}{d:Cs}
def Qcj.lg{l:List Int}{v:Value}(h:Qcj U l v U'):U.lg U':=by
 refine⟨h.2.1.imm,?_,h.2.1.tok⟩;rcases h.2.2 with⟨-,-,e⟩|⟨b,c,_,_,-,-,-,-,e,-⟩
 .exact⟨[],e⟩
 .exact⟨[_],e⟩
def Hlr.lgM(h:Hlr U b e c U'):U.lg U':=⟨h.imm,⟨[_],h.own⟩,h.tok⟩
def Zhl{off:Nat}(z:U.M.Perm (L₁++.obj b (.cells c e (0,0))::L₂))(F:off+vs.length<=c.size)(E:∀v∈vs,v.single=true)
  (h:∀f:Qa T,f.I=U.I->f.tok=U.tok->f.M=L₁++.obj b (.cells (JZ c off vs 0) e (0,0))::L₂->Q f):ZG ⟨b,off,none⟩ vs 0 (λ U'=>∃f,Q1 U' f/\Q f) U:=by
 obtain⟨X,Y,w,B⟩:=O8 z;exact K6 X vs 0 c U w E O1 ⟨{ U with M:=L₁++.obj b (.cells (JZ c off vs 0) e (0,0))::L₂ },Hf (Oh B _),h _ rfl rfl rfl⟩
def Zg4(E:∀r∈rows,r.length=4)(z:r.length=4)(G:b8<rows.length)(H:rows.length*4<=c.size)(h:∀(i:Nat)(v:Value),rows.flatten[i]?=some v->c[i]?=some v) :
  ∀(i:Nat)(v:Value),(rows.set b8 r).flatten[i]?=some v->(JZ c (b8*4) r 0)[i]?=some v:=by
 intro i v I
 obtain⟨p,j,K,rfl,F,f,B⟩:=Zd4 (n:=4) D1 (λ K w=>by
  rcases mem_or_eq_of_mem_set w with h|rfl
  .exact E _ h
  .exact z) I
 rw[Pj r c (b8*4) 0 _ O1];rw[getElem?_set]at f;by_cases e:b8=p
 .subst e;rw[if_pos rfl,if_pos G]at f;cases f;rw[if_pos O1,show b8*4+j-(b8*4+0)=j by omega];exact B
 .rw[if_neg e]at f;rw[if_neg O1];exact h _ _ (by rw[Q7y E f F];exact B)
def Zfn(h:Z8 U a len l)(f:len<=b8){lo:Nat}(e:lo<=len):Z8 U (if b8=lo then a else a.map (·.add (lo*1))) (len-lo) (l.drop lo):=by
 obtain rfl:l.length=len:=h.1;have:=(Sb h).drop f e;rw[show l.length-lo=(l.drop lo).length by simp]at this ⊢;exact Q26 this
def Zg3(h:Z8 U a len l){j:Nat}(f:j<=len):Z8 U a j (l.take j):=by
 refine⟨by rw[length_take,h.1];omega,λ i x e=>h.2 i x ?_⟩;have:=(List.getElem?_eq_some_iff.1 e).1;rw[length_take]at this
 rwa [getElem?_take_of_lt O1]at e
def Zev{n:Int}:∀{l:List Int}{j:Nat},j<=l.length->(∀m x,m<j->l[m]?=some x->x<n)->(∀x,l[j]?=some x->¬x<n)->ZI n l=l.take j++n::l.drop j
 |[],j,e,_,_=>by
  obtain rfl:j=0:=by simpa using e
  rfl
 |a::l,0,_,_,h=>by
  have:=h a rfl;show(if a<n then _ else _)=_;rw[if_neg this];rfl
 |a::l,j+1,e,w,z=>by
  have:=w 0 a O1 rfl;show(if a<n then _ else _)=_;rw[if_pos this,Zev (j:=j) (by simpa using e) (λ m x B f=>w (m+1) x O1 (by simpa using f)) λ x f=>z x (by simpa using f)];rfl
def Bk.stys_nm{p:ByteArray->Prop}:∀{l:List (Int×Int)}{b:Bk},(∀s∈l,s.1.toNat<b.cs.length)->(∀c∈b.cs,p c.nm)->∀c∈(b.stys l).cs,p c.nm
 |[],_,_,h=>h
 |s::l,b,w,h=>Bk.stys_nm (b:=b.sty s) (l:=l) (λ z f=>by rw[b.sty_len];exact w z (by simp[f])) λ c e=>by
  rcases b.sty_cs s e with e|rfl
  .exact h c e
  .exact(h _ (Bk.cas_mem (w s S1)):p (b.cas s.1.toNat).nm)
def Zew(h:Qdm U d r):r.length=4/\∀v∈r,v.single=true:=by
 obtain⟨_,_,_,_,_,_,rfl,_⟩:=h;exact⟨rfl,by simp[Value.single]⟩
def Za8:List (List (Nat×St)):=[[(0,.xo 22 1 5),(0,.xl 23 22),(0,.m 24 1),(0,.m 25 6),(0,.xi 26 2 24 25),(0,.xo 27 0 26),(0,.xl 28 27),(0,.xi 29 4 23 28),(0,.xd 30 4 29),(2,.d 7 (.alloc 46 #[(.string ⟨#[]⟩),(.int .i64 0),.nl,.nl]))]]
def Ze7:List St:=[⟨.st 4 (.t 7) (.t 30),none,none,none⟩]
def Q3m:List (List (Nat×St)):=[[(0,.xo 52 3 7),(0,.xl 53 52),(0,.m 54 8),(0,.d 55 (.sub3 1 (.t 53) none (some (.t 54)))),(0,.m 57 1),(0,.m 58 6),(0,.xi 59 2 57 58),(0,.xo 60 1 59),(0,.xl 61 60),(2,.d 51 (.bsl 3 0 #[] [])),(2,.xz 56 51 55 44),(2,.d 62 (.bsl 3 1 #[(.int .i64 0)] [(0,1,(.t 61))]))],
 [(0,.xo 52 3 7),(0,.xl 53 52),(0,.m 54 8),(0,.d 55 (.sub3 1 (.t 53) none (some (.t 54)))),(0,.m 57 1),(0,.m 58 6),(0,.xi 59 2 57 58),(0,.xo 60 1 59),(0,.xl 61 60),(2,.d 51 (.bsl 3 0 #[] [])),(2,.d 62 (.bsl 3 1 #[(.int .i64 0)] [(0,1,(.t 61))])),(2,.xz 56 51 55 44)],
 [(0,.xo 52 3 7),(0,.xl 53 52),(0,.m 54 8),(0,.d 55 (.sub3 1 (.t 53) none (some (.t 54)))),(0,.m 57 1),(0,.m 58 6),(0,.xi 59 2 57 58),(0,.xo 60 1 59),(0,.xl 61 60),(2,.d 62 (.bsl 3 1 #[(.int .i64 0)] [(0,1,(.t 61))])),(2,.d 51 (.bsl 3 0 #[] [])),(2,.xz 56 51 55 44)]]
def Zep:List St:=[.xz 63 56 62 44,.m 9 63]
variable{S:Sys prog T}
section
attribute [local irreducible] Qb Zr W5
def Qld(h:BH)(b:Bk)(cp:Qd6 U.frz h b)(d4:b.cs.length<=1000)(n:Nat)(dm:b.Srt n)(l:PrL)(a:Option Addr)(c:Nat)(hl:Qbb U.frz a l)(d3:n+l.length<=1000)(b1:∀s∈l,0<=s.1/\s.1.toNat<b.cs.length) :
  Qb S 34 #[h.v,.slice a l.length c] (λ v U'=>(∃h':BH,v=h'.v/\Qd6 U'.frz h' (b.stys l)/\h'.rl=h.rl/\h'.rc=h.rc)/\U.le U') U:=by
 have hb:=cp.v;have cq:=hb.cs.1
 let zB:Array Value:=#[.nl,.nl]
 let zC:Array Value:=#[.string ⟨#[]⟩,.int .i64 0,.nl,.nl]
 have c5:Qb S 34 #[h.v,.slice a l.length c] (λ v U'=>∃(N cap:Nat)(J:List Q2)(rows:List (List Value))(cc:Array Value)(Y:List Q2),v=(BH.mk h.ra h.rl h.rc (some ⟨N,0,none⟩) h.cl cap).v/\U'.M.Perm ((.obj N (.cells cc 46 (0,0))::J)++(Y++U.M))/\(∀r∈J,∃b o,r=.obj b o)/\Qnu U' J rows (b.stys l).cs/\(∀(k:Nat)(v:Value),rows.flatten[k]?=some v->cc[k]?=some v)/\(∀x o,U.I x=some o->U'.I x=some o)/\U'.tok=U.tok) U:=by
  refine Qb.of (args:=[_,_]) Qz8 Qd S1 ?_
  repeat refine⟨rfl,?_⟩
  conv=>whnf
  intro B U1 bw hB;have hB:=Zz4 h hB
  conv=>whnf
  intro b4 dz;refine⟨_,.refl _,_,⟨rfl,(hB.lg (Z6 (U:=U1) b4 (.cells zB 25))).rd⟩,?_⟩
  conv=>whnf
  intro b5 d0;refine⟨_,.refl _,rfl,HR (vs:=[.slice h.ra h.rl h.rc,.slice h.ca h.cl h.cc]) rfl (by simp[Value.single]) ?_⟩;have ba:∀x o,U1.I x=some o->((U1.put b4 (.cells zB 25)).put b5 (.cells [.slice h.ra h.rl h.rc,.slice h.ca h.cl h.cc].toArray 25)).I x=some o:=λ _ _ h=>h;have bu:((U1.put b4 (.cells zB 25)).put b5 (.cells [.slice h.ra h.rl h.rc,.slice h.ca h.cl h.cc].toArray 25)).M=[.cl b5 [.slice h.ra h.rl h.rc,.slice h.ca h.cl h.cc] 25,.obj b4 (.cells zB 25 (0,0))]++U.M:=by show _::_::U1.M=_;rw[bw.own];rfl
  have bf:((U1.put b4 (.cells zB 25)).put b5 (.cells [.slice h.ra h.rl h.rc,.slice h.ca h.cl h.cc].toArray 25)).tok=U.tok:=bw.tok;generalize((U1.put b4 (.cells zB 25)).put b5 (.cells [.slice h.ra h.rl h.rc,.slice h.ca h.cl h.cc].toArray 25))=U2 at ba bu bf ⊢;have bg:=hB.imI ba;have az:∀x o,U.I x=some o->U2.I x=some o:=λ x o hx=>ba x o (bw.imm x o hx);obtain⟨ak,r1,r2,r3,r4⟩:=Zf8 D1 cp.w
  conv=>whnf
  intro bp dg;refine⟨_,.refl _,_,(bg.lg (Z6 bp _)).sees3 (o:=1) rfl,?_⟩
  conv=>whnf
  refine Wv (v:=.slice (some ⟨bp,0,none⟩) 0 0) (cs:=[]) (new:=ak.flatten) (M₀:=[.cl b5 [.slice h.ra h.rl h.rc,.slice h.ca h.cl h.cc] 25,.obj b4 (.cells zB 25 (0,0))]++U.M) UW rfl rfl (.inr ⟨bp,#[],0,0,rfl,rfl,Nat.le_refl _,rfl,by show _::U2.M=_;rw[bu],S1⟩) (r4.imp id λ⟨ad,e,K⟩=>⟨ad,e,K.lg (show U.frz.lg _ from⟨az,Zz3,bf⟩)⟩) (by rw[Qd3 r3,r1,cq]) (λ w hw=>by
   obtain⟨r,K,hw⟩:=mem_flatten.1 hw;obtain⟨i,hi⟩:=getElem?_of_mem K;have d2:=(List.getElem?_eq_some_iff.1 hi).1;obtain⟨r',e,hc⟩:=r2 i _ (getElem?_eq_getElem O1);obtain rfl:r=r':=Option.some.inj (hi.symm.trans e);exact(Zew hc).2 w hw) (by rw[Qd3 r3,r1];simp;omega) λ v' M' F bq=>?_
  rw[nil_append]at F;rcases F with⟨rfl,-,-⟩|⟨N,cc,len,cap,rfl,g1,g2,g3,rfl,g4⟩
  .simp[Kb]at bq
  have a8:len=h.cl:=by rw[Qd3 r3,r1]at g1;omega
  subst a8;clear bq dg;refine⟨rfl,qr (i:=1) (b:=b5) (e:=25) (c:=[.slice h.ra h.rl h.rc,.slice h.ca h.cl h.cc].toArray) (v:=.slice (some ⟨N,0,none⟩) h.cl cap) (L₁:=[.obj N (.cells cc 46 (0,0))]) (L₂:=.obj b4 (.cells zB 25 (0,0))::U.M) (Perm.refl _) (by show 1<2;omega) rfl λ U3 a0 br an=>?_⟩;have an:U3.M=.obj N (.cells cc 46 (0,0))::.obj b5 (.cells #[.slice h.ra h.rl h.rc,.slice (some ⟨N,0,none⟩) h.cl cap] 25 (0,0))::.obj b4 (.cells zB 25 (0,0))::U.M:=an;have bh:∀x o,U.I x=some o->U3.I x=some o:=λ x o hx=>by rw[a0];exact az x o hx
  have c2:U3.tok=U.tok:=br.trans bf;have dt:Zo U3 B #[.slice h.ra h.rl h.rc,.slice h.ca h.cl h.cc]:=bg.imI λ x o hx=>by rw[a0];exact hx
  clear ba bu bf az a0 br;have cj:Qnu U3 [] ak b.cs:=⟨r1,λ i c hc=>let ⟨r,e,K⟩:=r2 i c hc;⟨r,e,K.map (Zdk (J:=[]) bh λ r K=>K)⟩,r3⟩
  refine⟨Nat,λ i=>[(1,.slice a l.length c),(2,.pb B),(4,.pb b4),(5,.pb b5),(6,.int .i64 i)],λ i U'=>(∀x o,U3.I x=some o->U'.I x=some o)/\U'.tok=U.tok/\i<=l.length/\∃(J:List Q2)(rows:List (List Value))(cc:Array Value),
   U'.M.Perm (.obj N (.cells cc 46 (0,0))::.obj b5 (.cells #[.slice h.ra h.rl h.rc,.slice (some ⟨N,0,none⟩) h.cl cap] 25 (0,0))::.obj b4 (.cells zB 25 (0,0))::(J++U.M))/\(∀r∈J,∃b o,r=.obj b o)/\Qnu U' J rows (b.stys (l.take i)).cs/\(∀(k:Nat)(v:Value),rows.flatten[k]?=some v->cc[k]?=some v)/\cc.size=cap*4,
   λ i=>l.length-i,0,T1,⟨λ _ _ h=>h,c2,O1,[],ak,cc,by rw[an];exact Perm.refl _,S1,cj,g4,g3⟩,?_⟩
  clear g4 g3 g1 cj an r1 r2 r3 r4;rintro i f U4⟨bj,bs,hi,J,rows,cc,av,hJ,X,aw,dp⟩;have cu:Je ((i:Int)+1):=I1
  have bi:∀x o,U.I x=some o->U4.I x=some o:=λ x o hx=>bj x o (bh x o hx)
  repeat refine⟨rfl,?_⟩
  conv=>whnf
  apply Qe<;>intro hc
  .have hlt:i<l.length:=by simpa using hc
   obtain⟨ad,x,vs,hx,rfl,d5,rfl,-,b2⟩:=(Zd.mem hl bi λ r K=>by cases K).at hlt;obtain⟨d6,d7⟩:=b1 x (mem_of_getElem? hx);obtain⟨k,hk⟩:∃k,k=x.1.toNat:=⟨_,rfl⟩;have cx:x.1=(k:Int):=O1
   have dj:k<b.cs.length:=O1
   have bo:k<(b.stys (l.take i)).cs.length:=by rw[Bk.stys_len];exact dj
   obtain⟨cas,a3⟩:∃cas,(b.stys (l.take i)).cs[k]?=some cas:=⟨_,getElem?_eq_getElem bo⟩;have bz:=Bk.cas_at a3;obtain⟨r,K,a4⟩:=X.2.1 k cas a3;have cz:=X.2.2 r (mem_of_getElem? K);have c1:=(Bk.stys_srt dm (l.take i) (λ s hs=>(b1 s (mem_of_mem_take hs)).2)).l cas (mem_of_getElem? a3);rw[length_take]at c1;obtain⟨ga,gl,gc,aa,al,ac,rfl,dh,di,ct,d1,b0⟩:=a4;have dy:cas.af.length=al:=ct.1
   have co:Ju U4 (Addr.add ⟨N,0,none⟩ (k*4)) [.string cas.nm,.int .i64 cas.ag,.slice ga gl gc,.slice aa al ac]:=λ m v Q=>by
    have hm:m<4:=by rw[<- cz];exact(List.getElem?_eq_some_iff.1 Q).1
    have h5:=aw (k*4+m) v (by rw[Q7y X.2.2 K hm];exact Q);rw[Qu,Qu,Nat.zero_add];exact⟨rfl,.inl ⟨cc,46,(0,0),.inr (av.mem_iff.2 S1),h5⟩⟩
   have bl:∀w:Qa T,U4.lg w->Ju w ⟨b5,0,none⟩ [.slice h.ra h.rl h.rc,.slice (some ⟨N,0,none⟩) h.cl cap]:=λ w hw=>(J3 (b:=b5) (e:=25) (vs:=[.slice h.ra h.rl h.rc,.slice (some ⟨N,0,none⟩) h.cl cap]) (av.mem_iff.2 S1)).lg hw
   conv=>whnf
   intro dv a6
   refine FI (mu:=[1006]) (ops:=PN Tryz.f34 6) (id:=6) a6 [9] [[0,1,2,3,4,5,6,7,8,9]] [10] Za8 Ze7 Qd K1 K1 K1 K1 K1
    (λ f' ay U'=>ay=[]/\∃b7,XH f' [(1,.slice (some ad) l.length c),(2,.pb B),(4,.pb b4),(5,.pb b5),(6,.int .i64 i),(7,.pb b7),(30,.agg ([.string cas.nm,.int .i64 cas.ag,.slice ga gl gc,.slice aa al ac]).toArray)]/\Hlr U4 b7 46 zC U') U4 (λ _ h=>h.lg) ?_ ?_
   .intro l' hl';simp only[Za8,mem_cons,not_mem_nil,or_false]at hl';subst hl';refine⟨_,(bl _ (Qa.le.refl _).lg).cell (i:=1) rfl,ad,i,⟨rfl,rfl,hlt⟩,_,b2.cell (i:=0) rfl,⟨N,0,none⟩,k,⟨rfl,cx,O1⟩,_,⟨rfl,co⟩,λ v U'=>∃b7,v=.pb b7/\Hlr U4 b7 46 zC U',λ v x1 x2⟨b7,e,G⟩E=>⟨b7,e,G.le E⟩,λ v U'⟨b7,e,G⟩=>G.lgM,λ U' H=>?_,λ v Q=>?_⟩
    .conv=>whnf
     intro b7 df;exact⟨_,.refl _,_,.refl _,b7,rfl,.made H df⟩
    obtain⟨_,b7,rfl,-⟩:=Q
    conv=>whnf
    rintro U'⟨c7,e,G⟩;obtain rfl:b7=c7:=by simpa using e
    exact⟨rfl,b7,T1,G⟩
   .rintro f' ay U5 ⟨rfl,b7,a5,G⟩;rw[<- a5.ovr];clear a5;refine⟨rfl,Wk (vs:=[.string cas.nm,.int .i64 cas.ag,.slice ga gl gc,.slice aa al ac]) [] G.own rfl (by simp[Value.single]) λ U6 cf c3 bb=>?_⟩;have c9:U4.lg U6:=⟨λ x o hx=>by rw[cf];exact G.imm x o hx,⟨[_],bb⟩,c3.trans G.tok⟩;clear cf c3 G
    conv=>whnf
    intro a' ah;refine⟨by rw[ah.size,a6.size],_,ah.get,?_⟩;rw[ah.ds];clear ah a6;refine⟨Nat,λ j=>[(1,.slice (some ad) l.length c),(2,.pb B),(4,.pb b4),(5,.pb b5),(6,.int .i64 i),(7,.pb b7),(8,.int .i64 j)],λ j U'=>U6.le U'/\j<=al/\∀(m:Nat)(y:Int),m<j->cas.af[m]?=some y->y<x.2,λ j=>al-j,0,T1,⟨.refl _,O1,λ m y hm=>O1⟩,?_⟩;rintro j f U7⟨h7,hj,a2⟩;have cv:Je ((j:Int)+1):=I1
    have bt:=c9.trans h7.lg;have be:Ju U7 ⟨b7,0,none⟩ [.string cas.nm,.int .i64 cas.ag,.slice ga gl gc,.slice aa al ac]:=(Ze [] bb).lg h7.lg;have bx:Z8 U7 aa al cas.af:=(ct.map (Zhg (U:=U4) λ r K=>av.mem_iff.2 (by simp[K]))).lg bt;have b6:Ju U7 (ad.add (i*2)) (encII x):=b2.lg bt;refine⟨_,be.cell (i:=3) rfl,?_⟩
    repeat refine⟨rfl,?_⟩
    conv=>whnf
    refine Jb (λ aj=>?_) (λ aj=>?_)
    case' _=>
     have aj:j<al:=by simpa using aj
     obtain⟨c6,y,hy,c8,du,dl⟩:=bx.at aj;refine⟨_,be.cell (i:=3) rfl,c6,j,⟨c8,rfl,aj⟩,_,dl,ad,i,⟨rfl,rfl,hlt⟩,_,b6.cell (i:=1) rfl,?_⟩
     conv=>whnf
     intro P h8 _
     repeat refine⟨rfl,?_⟩
     conv=>whnf
     refine Qe (λ ai=>?_) (λ ai=>?_)
     .have ai:y<x.2:=by simpa using ai
      refine⟨cv,rfl,j+1,T1,⟨h7.trans h8,O1,λ m z hm hz=>?_⟩,L1⟩;by_cases e:m=j
      .subst e;rw[hy]at hz;cases hz;exact ai
      .exact a2 m z O1 hz
     have bm:ZI x.2 cas.af=cas.af.take j++x.2::cas.af.drop j:=Zev O1 (λ m z hm hz=>a2 m z hm hz) λ z hz=>by
      rw[hy]at hz;cases hz;simpa using ai
    rotate_left
    case' _=>
     have aj:j=al:=by simp at aj;omega
     conv=>whnf
     intro P h8 _
     repeat refine⟨rfl,?_⟩
     conv=>whnf
     have bm:ZI x.2 cas.af=cas.af.take j++x.2::cas.af.drop j:=Zev O1 (λ m z hm hz=>a2 m z hm hz) λ z hz=>by
      rw[getElem?_eq_none O1]at hz;cases hz
    all_goals
     conv=>whnf
     have b9:=bt.trans h8.lg;have da:P.M=.obj b7 (.cells ([.string cas.nm,.int .i64 cas.ag,.slice ga gl gc,.slice aa al ac]).toArray 46 (0,0))::U4.M:=by rw[h8.own,h7.own,bb];rfl
     have bd:∀w:Qa T,P.lg w->w.sees ((Addr.mk b7 0 none).add 3) (.slice aa al ac):=λ w hw=>((be.lg h8.lg).lg hw).cell (i:=3) rfl;have b8:∀w:Qa T,P.lg w->Ju w (ad.add (i*2)) (encII x):=λ w hw=>(b6.lg h8.lg).lg hw;have ck:∀w:Qa T,P.lg w->Z8 w aa al cas.af:=λ w hw=>(bx.lg h8.lg).lg hw
     have b3:∀w:Qa T,P.lg w->Z8 w (if ac=0 then aa else aa.map (·.add (0*1))) (j-0) (cas.af.take j):=λ w hw=>by
      have:=Zg3 (Zfn (ck w hw) b0 (lo:=0) O1) (j:=j-0) O1
      rwa [drop_zero]at this
     clear be bx b6 bb;intro dw a7
     refine FI (mu:=[1006]) (ops:=PN Tryz.f34 10) (id:=10) a7 [0,5,11] [[1,2,3,4,6,7,8,9,10,0,5,11],[1,2,3,4,6,7,8,9,10,0,11,5],[1,2,3,4,6,7,8,9,10,11,0,5]] [12,13] Q3m Zep Qd K1 K1 K1 K1 K1
      (λ f' ay U'=>ay=[]/\∃Z ae ab L,XH f' [(1,.slice (some ad) l.length c),(2,.pb B),(4,.pb b4),(5,.pb b5),(6,.int .i64 i),(7,.pb b7),(8,.int .i64 j),(56,.slice Z ae ab),(62,.slice (some ⟨L,0,none⟩) 1 1)]/\Qcj P (cas.af.take j) (.slice Z ae ab) U'/\Zo U' L #[.int .i64 x.2]) P (λ _ h=>h.lg) ?_ ?_
     .intro l' hl';simp only[Q3m,mem_cons,not_mem_nil,or_false]at hl';rcases hl' with rfl|rfl|rfl
      .refine⟨_,bd _ (Qa.le.refl _).lg,0,j,⟨rfl,rfl,O1,O1⟩,ad,i,⟨rfl,rfl,hlt⟩,_,(b8 _ (Qa.le.refl _).lg).cell (i:=1) rfl,λ v U'=>Qcj P [] v U',λ v x1 x2 G E=>G.le E,λ v U' G=>G.lg,λ U' H=>?_,λ v Q=>?_⟩
       .conv=>whnf
        intro p hp;exact⟨_,.refl _,_,.refl _,.new H⟩
       obtain⟨_,⟨aq,ax,au,rfl⟩,-,-⟩:=Q;refine⟨λ v U'=>Qcj P (cas.af.take j) v U',λ v x1 x2 G E=>G.le E,λ v U' G=>G.lg,λ U' H=>?_,λ v Q=>?_⟩
       .conv=>whnf
        refine Wv (v:=.slice aq ax au) (cs:=([]:List Int).map λ n=>.int .i64 n) (new:=(cas.af.take j).map λ n=>.int .i64 n) (M₀:=P.M) Hc rfl rfl H.2.2 (b3 _ H.lg).src' (by rw[length_map,length_take];omega) (Qk0 _) (by rw[length_map,length_map,length_take];simp;omega) λ v' M' F _=>?_;obtain⟨ta,tl,tc,rfl,-⟩:=Acc.src (U:={ U' with M:=M' }) F;exact⟨_,.refl _,⟨⟨_,_,_,rfl⟩,⟨H.2.1.imm,Zz3,H.2.1.tok⟩,by simpa using F⟩⟩
       obtain⟨_,⟨Z,ae,ab,rfl⟩,-,-⟩:=Q;refine⟨λ v U'=>∃p,v=.slice (some ⟨p,0,none⟩) 1 1/\Qcj P (cas.af.take j) (.slice Z ae ab) U'/\Zo U' p #[.int .i64 x.2],λ v x1 x2⟨p,e,h1,h2⟩E=>⟨p,e,h1.le E,h2.le E⟩,λ v U'⟨_,_,h1,_⟩=>h1.lg,λ U' H=>?_,λ v Q=>?_⟩
       .conv=>whnf
        intro p hp;exact Zm hp λ x1 k1 k2=>⟨x1,.refl _,p,rfl,H.le k1,k2⟩
       obtain⟨_,L,rfl,-,-⟩:=Q
       conv=>whnf
       rintro U'⟨p',e,q1,q2⟩;obtain rfl:L=p':=by simpa using e
       exact⟨rfl,Z,ae,ab,L,T1,q1,q2⟩
      .refine⟨_,bd _ (Qa.le.refl _).lg,0,j,⟨rfl,rfl,O1,O1⟩,ad,i,⟨rfl,rfl,hlt⟩,_,(b8 _ (Qa.le.refl _).lg).cell (i:=1) rfl,λ v U'=>Qcj P [] v U',λ v x1 x2 G E=>G.le E,λ v U' G=>G.lg,λ U' H=>?_,λ v Q=>?_⟩
       .conv=>whnf
        intro p hp;exact⟨_,.refl _,_,.refl _,.new H⟩
       obtain⟨_,⟨aq,ax,au,rfl⟩,-,-⟩:=Q;refine⟨λ v U'=>∃p,v=.slice (some ⟨p,0,none⟩) 1 1/\Qcj P [] (.slice aq ax au) U'/\Zo U' p #[.int .i64 x.2],λ v x1 x2⟨p,e,h1,h2⟩E=>⟨p,e,h1.le E,h2.le E⟩,λ v U'⟨_,_,h1,_⟩=>h1.lg,λ U' H=>?_,λ v Q=>?_⟩
       .conv=>whnf
        intro p hp;exact Zm hp λ x1 k1 k2=>⟨x1,.refl _,p,rfl,H.le k1,k2⟩
       obtain⟨_,L,rfl,-,-⟩:=Q;refine⟨λ v U'=>Qcj P (cas.af.take j) v U'/\Zo U' L #[.int .i64 x.2],λ v x1 x2 G E=>⟨G.1.le E,G.2.le E⟩,λ v U' G=>G.1.lg,λ U' H=>?_,λ v Q=>?_⟩
       .obtain⟨p',e,H,W⟩:=H;obtain rfl:L=p':=by simpa using e
        conv=>whnf
        refine Wv (v:=.slice aq ax au) (cs:=([]:List Int).map λ n=>.int .i64 n) (new:=(cas.af.take j).map λ n=>.int .i64 n) (M₀:=P.M) Hc rfl rfl H.2.2 (b3 _ H.lg).src' (by rw[length_map,length_take];omega) (Qk0 _) (by rw[length_map,length_map,length_take];simp;omega) λ v' M' F _=>?_;obtain⟨ta,tl,tc,rfl,-⟩:=Acc.src (U:={ U' with M:=M' }) F;exact⟨_,.refl _,⟨⟨⟨_,_,_,rfl⟩,⟨H.2.1.imm,Zz3,H.2.1.tok⟩,by simpa using F⟩,W⟩⟩
       obtain⟨_,⟨⟨Z,ae,ab,rfl⟩,-,-⟩,-⟩:=Q
       conv=>whnf
       rintro U'⟨q1,q2⟩;exact⟨rfl,Z,ae,ab,L,T1,q1,q2⟩
      .refine⟨_,bd _ (Qa.le.refl _).lg,0,j,⟨rfl,rfl,O1,O1⟩,ad,i,⟨rfl,rfl,hlt⟩,_,(b8 _ (Qa.le.refl _).lg).cell (i:=1) rfl,λ v U'=>∃p,v=.slice (some ⟨p,0,none⟩) 1 1/\P.le U'/\Zo U' p #[.int .i64 x.2],λ v x1 x2⟨p,e,h1,h2⟩E=>⟨p,e,h1.trans E,h2.le E⟩,λ v U'⟨_,_,h1,_⟩=>h1.lg,λ U' H=>?_,λ v Q=>?_⟩
       .conv=>whnf
        intro p hp;exact Zm hp λ x1 k1 k2=>⟨x1,.refl _,p,rfl,H.trans k1,k2⟩
       obtain⟨_,L,rfl,-,-⟩:=Q;refine⟨λ v U'=>Qcj P [] v U'/\Zo U' L #[.int .i64 x.2],λ v x1 x2 G E=>⟨G.1.le E,G.2.le E⟩,λ v U' G=>G.1.lg,λ U' H=>?_,λ v Q=>?_⟩
       .obtain⟨p',e,H,W⟩:=H;obtain rfl:L=p':=by simpa using e
        conv=>whnf
        intro p hp;exact⟨_,.refl _,_,.refl _,.new H,W.lg (Z6 p _)⟩
       obtain⟨_,⟨⟨aq,ax,au,rfl⟩,-,-⟩,-⟩:=Q;refine⟨λ v U'=>Qcj P (cas.af.take j) v U'/\Zo U' L #[.int .i64 x.2],λ v x1 x2 G E=>⟨G.1.le E,G.2.le E⟩,λ v U' G=>G.1.lg,λ U' H=>?_,λ v Q=>?_⟩
       .obtain⟨H,W⟩:=H
        conv=>whnf
        refine Wv (v:=.slice aq ax au) (cs:=([]:List Int).map λ n=>.int .i64 n) (new:=(cas.af.take j).map λ n=>.int .i64 n) (M₀:=P.M) Hc rfl rfl H.2.2 (b3 _ H.lg).src' (by rw[length_map,length_take];omega) (Qk0 _) (by rw[length_map,length_map,length_take];simp;omega) λ v' M' F _=>?_;obtain⟨ta,tl,tc,rfl,-⟩:=Acc.src (U:={ U' with M:=M' }) F;exact⟨_,.refl _,⟨⟨⟨_,_,_,rfl⟩,⟨H.2.1.imm,Zz3,H.2.1.tok⟩,by simpa using F⟩,W⟩⟩
       obtain⟨_,⟨⟨Z,ae,ab,rfl⟩,-,-⟩,-⟩:=Q
       conv=>whnf
       rintro U'⟨q1,q2⟩;exact⟨rfl,Z,ae,ab,L,T1,q1,q2⟩
     rintro f' ay U9⟨rfl,Z,ae,ab,L,a5,ao,W⟩;rw[<- a5.ovr];clear a5
     conv=>whnf
     refine Wv (v:=.slice Z ae ab) (cs:=(cas.af.take j).map λ n=>.int .i64 n) (new:=[.int .i64 x.2]) (M₀:=P.M) Hc rfl rfl ao.2.2 (.inr ⟨_,rfl,W.rd⟩) rfl (by simp[Value.single]) (by rw[length_map,length_take];simp;omega) λ v' M' F _=>?_;obtain⟨ta,tl,tc,rfl,-⟩:=Acc.src (U:={ U9 with M:=M' }) F;have hA:Qcj P (cas.af.take j++[x.2]) (.slice ta tl tc) ({ U9 with M:=M' }:Qa T):=⟨⟨_,_,_,rfl⟩,⟨ao.2.1.imm,Zz3,ao.2.1.tok⟩,by simpa using F⟩;generalize({ U9 with M:=M' }:Qa T)=Ua at hA ⊢
     conv=>whnf
     intro a' ah;refine⟨by rw[ah.size,a7.size],_,ah.get,?_⟩;rw[ah.ds];clear ah a7 ao W F;refine⟨_,bd _ hA.lg,j,al,⟨rfl,rfl,hj,b0⟩,?_⟩
     conv=>whnf
     refine Wv (v:=.slice ta tl tc) (cs:=(cas.af.take j++[x.2]).map λ n=>.int .i64 n) (new:=(cas.af.drop j).map λ n=>.int .i64 n) (M₀:=P.M) Hc rfl rfl hA.2.2 (Zfn (ck _ hA.lg) b0 hj).src' (by rw[length_map,length_drop];omega) (Qk0 _) (by rw[length_map,length_append,length_map,length_take,length_drop];simp;omega) λ v' M' F _=>?_;rw[<- map_append,append_assoc,singleton_append,<- bm]at F;rcases F with⟨-,e,-⟩|⟨V,cn,ul,uc,rfl,g1,g2,g3,rfl,g4⟩
     .have:=congrArg List.length (map_eq_nil_iff.1 e);rw[(Vr _ _).length_eq]at this;simp at this
     rw[length_map,Nat.mul_one]at g1;have ap:P.lg ({ Ua with M:=.obj V (.cells cn 3 (0,0))::P.M }:Qa T):=⟨hA.2.1.imm,⟨[_],rfl⟩,hA.2.1.tok⟩;have bv:({ Ua with M:=.obj V (.cells cn 3 (0,0))::P.M }:Qa T).M=[.obj V (.cells cn 3 (0,0))]++.obj b7 (.cells ([.string cas.nm,.int .i64 cas.ag,.slice ga gl gc,.slice aa al ac]).toArray 46 (0,0))::U4.M:=by show _::P.M=_;rw[da];rfl
     generalize({ Ua with M:=.obj V (.cells cn 3 (0,0))::P.M }:Qa T)=Ub at ap bv ⊢;refine⟨rfl,qr (i:=3) (b:=b7) (e:=46) (c:=([.string cas.nm,.int .i64 cas.ag,.slice ga gl gc,.slice aa al ac]).toArray) (v:=.slice (some ⟨V,0,none⟩) ul uc) (L₁:=[.obj V (.cells cn 3 (0,0))]) (L₂:=U4.M) (by rw[bv]) (by show 3<4;omega) rfl λ Uc ch c4 a1=>?_⟩;have a1:Uc.M=.obj V (.cells cn 3 (0,0))::.obj b7 (.cells ([.string cas.nm,.int .i64 cas.ag,.slice ga gl gc,.slice (some ⟨V,0,none⟩) ul uc]).toArray 46 (0,0))::U4.M:=a1;have a9:U4.lg Uc:=⟨λ y o hy=>by rw[ch];exact ap.imm y o (b9.imm y o hy),⟨[_,_],a1⟩,by rw[c4,ap.tok,b9.tok]⟩;clear ap bv ch c4 hA;refine⟨_,(bl _ a9).cell (i:=1) rfl,ad,i,⟨rfl,rfl,hlt⟩,_,(b2.lg a9).cell (i:=0) rfl,_,⟨rfl,J3 (b:=b7) (e:=46) (vs:=[.string cas.nm,.int .i64 cas.ag,.slice ga gl gc,.slice (some ⟨V,0,none⟩) ul uc]) (by rw[a1];simp)⟩,?_⟩
     conv=>whnf
     intro Ud hd _;refine⟨⟨N,0,none⟩,k,⟨rfl,cx,O1⟩,rfl,?_⟩;have cm:(Addr.mk N 0 none).add (k*4)=⟨N,k*4,none⟩:=by rw[Qu,Nat.zero_add]
     rw[cm]
     have cy:rows.length*4<=cc.size:=by
      have h1:rows.flatten.length=rows.length*4:=Qd3 X.2.2;by_cases h0:rows.length=0
      .omega
      .have h2:=aw (rows.flatten.length-1) _ (getElem?_eq_getElem O1);have:=(Array.getElem?_eq_some_iff.1 h2).1;omega
     have cw:k<rows.length:=by rw[X.1];exact bo
     have de:Ud.M=.obj V (.cells cn 3 (0,0))::.obj b7 (.cells ([.string cas.nm,.int .i64 cas.ag,.slice ga gl gc,.slice (some ⟨V,0,none⟩) ul uc]).toArray 46 (0,0))::U4.M:=hd.own.trans a1
     refine Zhl (off:=k*4) (c:=cc) (vs:=[.string cas.nm,.int .i64 cas.ag,.slice ga gl gc,.slice (some ⟨V,0,none⟩) ul uc]) (L₁:=[]) (L₂:=.obj V (.cells cn 3 (0,0))::.obj b7 (.cells ([.string cas.nm,.int .i64 cas.ag,.slice ga gl gc,.slice (some ⟨V,0,none⟩) ul uc]).toArray 46 (0,0))::.obj b5 (.cells #[.slice h.ra h.rl h.rc,.slice (some ⟨N,0,none⟩) h.cl cap] 25 (0,0))::.obj b4 (.cells zB 25 (0,0))::(J++U.M)) (by
      rw[de];refine((av.cons _).cons _).trans ?_;refine(Perm.cons _ (Perm.swap _ _ _)).trans ?_;exact Perm.swap _ _ _) (by show k*4+4<=_;omega) (by simp[Value.single]) λ Ue db dr dc=>?_
     have am:∀y o,U4.I y=some o->Ue.I y=some o:=λ y o hy=>by rw[db];exact hd.imm y o (a9.imm y o hy)
     have dk:Z8 (Ue.wi (.obj b7 (.cells ([.string cas.nm,.int .i64 cas.ag,.slice ga gl gc,.slice (some ⟨V,0,none⟩) ul uc]).toArray 46 (0,0))::.obj V (.cells cn 3 (0,0))::J)) (some ⟨V,0,none⟩) ul (ZI x.2 cas.af):=by
      have hs:Src (Ue.wi (.obj b7 (.cells ([.string cas.nm,.int .i64 cas.ag,.slice ga gl gc,.slice (some ⟨V,0,none⟩) ul uc]).toArray 46 (0,0))::.obj V (.cells cn 3 (0,0))::J)) (some ⟨V,0,none⟩) ((ZI x.2 cas.af).map λ n=>Value.int .i64 n):=.inr ⟨_,rfl,λ m v Q=>by rw[Qu,Nat.zero_add];exact⟨rfl,.inl ⟨cn,3,(0,0),.inr S1,g4 m v Q⟩⟩⟩;have:=VS hs λ dx e=>by cases e;rfl
      rwa [g1]at this
     have c0:Qnu Ue (.obj b7 (.cells ([.string cas.nm,.int .i64 cas.ag,.slice ga gl gc,.slice (some ⟨V,0,none⟩) ul uc]).toArray 46 (0,0))::.obj V (.cells cn 3 (0,0))::J) (rows.set k [.string cas.nm,.int .i64 cas.ag,.slice ga gl gc,.slice (some ⟨V,0,none⟩) ul uc]) (b.stys (l.take (i+1))).cs:=by
      rw[Wm hx,Bk.stys_snoc];show Qnu _ _ _ ((b.stys (l.take i)).cs.set x.1.toNat { (b.stys (l.take i)).cas x.1.toNat with af:=ZI x.2 ((b.stys (l.take i)).cas x.1.toNat).af });rw[<- hk,bz];exact(X.mono (J':=.obj b7 (.cells ([.string cas.nm,.int .i64 cas.ag,.slice ga gl gc,.slice (some ⟨V,0,none⟩) ul uc]).toArray 46 (0,0))::.obj V (.cells cn 3 (0,0))::J) am λ r K=>by simp[K]).set (c:={ cas with af:=ZI x.2 cas.af }) ⟨ga,gl,gc,some ⟨V,0,none⟩,ul,uc,rfl,Zd.map dh (Zdk am λ r K=>by simp[K]) λ y vs⟨a',l',c',e,q1,q2⟩=>⟨a',l',c',e,q1.map (Zdk am λ r K=>by simp[K]),q2⟩,di,dk,by have:=(Vr x.2 cas.af).length_eq;simp at this;omega,g2⟩
     refine⟨cu,rfl,i+1,T1,⟨λ y o hy=>am y o (bj y o hy),by rw[dr,hd.tok,a9.tok,bs],O1,_,_,_,?_,?_,c0,Zg4 X.2.2 rfl cw cy aw,by rw[Vj];exact dp⟩,L1⟩
     .rw[dc,nil_append];refine Perm.cons _ ?_;refine(Perm.swap _ _ _).trans ?_;exact(perm_append_comm (l₁:=[_,_]) (l₂:=[_,_])).append_right (J++U.M)
     .intro r K;rcases mem_cons.1 K with rfl|K
      .exact⟨_,_,rfl⟩
      rcases mem_cons.1 K with rfl|K
      .exact⟨_,_,rfl⟩
      exact hJ r K
  .have hge:i=l.length:=by simp at hc;omega
   subst hge;rw[take_length]at X;refine⟨_,⟨rfl,J3 (b:=b5) (e:=25) (vs:=[.slice h.ra h.rl h.rc,.slice (some ⟨N,0,none⟩) h.cl cap]) (av.mem_iff.2 S1)⟩,?_⟩
   refine⟨rfl,Ka (b:=b4) (e:=25) (c:=zB) (vs:=[.slice h.ra h.rl h.rc,.slice (some ⟨N,0,none⟩) h.cl cap]) (L₁:=[]) (L₂:=.obj N (.cells cc 46 (0,0))::.obj b5 (.cells #[.slice h.ra h.rl h.rc,.slice (some ⟨N,0,none⟩) h.cl cap] 25 (0,0))::(J++U.M)) (by
    refine av.trans ?_;refine(Perm.cons _ (Perm.swap _ _ _)).trans ?_;exact Perm.swap _ _ _) rfl (by simp[Value.single]) λ U5 ce dq bk=>?_⟩
   refine⟨_,⟨rfl,J3 (b:=b4) (e:=25) (vs:=[.slice h.ra h.rl h.rc,.slice (some ⟨N,0,none⟩) h.cl cap]) (by rw[bk];simp)⟩,?_⟩;refine⟨N,cap,J,rows,cc,[.cl b4 [.slice h.ra h.rl h.rc,.slice (some ⟨N,0,none⟩) h.cl cap] 25,.obj b5 (.cells #[.slice h.ra h.rl h.rc,.slice (some ⟨N,0,none⟩) h.cl cap] 25 (0,0))],rfl,?_,hJ,X.mono (λ y o hy=>by rw[ce];exact hy) λ r K=>K,aw,λ y o hy=>by rw[ce];exact bi y o hy,dq.trans bs⟩;rw[bk,nil_append];refine(Perm.swap _ _ _).trans (Perm.cons _ ?_);exact perm_append_comm_assoc [_,_] J U.M
 refine c5.okv λ v U' hw⟨N,cap,J,rows,cc,Y,e,hM,hJ,X,aw,hI,ht⟩=>?_
 obtain⟨U1,k1,k2,k3,k4,k5⟩:=Zft (.obj N (.cells cc 46 (0,0))::J) hw (λ r K=>by
  rcases mem_cons.1 K with rfl|K
  .exact⟨_,_,rfl⟩
  .exact hJ r K) hM
 have hf:=Zga (U:=U') (U'':={ U1 with M:=U.M }) hJ k3 λ b' o ho=>k5 b' o (by simp[ho]);have cg:∀x o,U.I x=some o->U1.I x=some o:=λ x o hx=>k3 x o (hI x o hx);have dd:U.frz.lg ({ U1 with M:=U.M }:Qa T).frz:=⟨cg,⟨[],rfl⟩,k4.trans ht⟩;have a8:(b.stys l).cs.length=h.cl:=by rw[Bk.stys_len];exact cq
 have cr:Zd ({ U1 with M:=U.M }:Qa T).frz (some ⟨N,0,none⟩) h.cl 4 (b.stys l).cs (Qdm ({ U1 with M:=U.M }:Qa T).frz):=by
  refine⟨a8,λ i c hc=>?_⟩;obtain⟨r,K,a4⟩:=X.2.1 i c hc;refine⟨⟨N,0,none⟩,r,rfl,rfl,a4.map hf,(Zew a4).1,λ j v Q=>?_⟩;have hj:j<4:=by rw[<- (Zew a4).1];exact(List.getElem?_eq_some_iff.1 Q).1
  have h5:=aw (i*4+j) v (by rw[Q7y X.2.2 K hj];exact Q);rw[Qu,Qu,Nat.zero_add];exact⟨rfl,.inl ⟨cc,46,(0,0),.inl (k5 N _ S1),h5⟩⟩
 refine⟨{ U1 with M:=U.M },k1.trans (Z2 (by rw[k2];exact sublist_append_right ..)),⟨⟨h.ra,h.rl,h.rc,some ⟨N,0,none⟩,h.cl,cap⟩,e,⟨⟨?_,Zd.lg (R':=PK ({ U1 with M:=U.M }:Qa T).frz) cr (Qa.le.refl _).lg λ _ _ h=>h.r,hb.rl,hb.cl,?_,?_⟩,cr⟩,rfl,rfl⟩,⟨cg,rfl,k4.trans ht⟩⟩
 .rw[Bk.stys_rs];exact hb.rs.lg dd λ _ _ h=>h
 .rw[Bk.stys_rs];exact hb.rn
 .exact Bk.stys_nm (p:=λ s=>s.size<2^60) (λ s hs=>(b1 s hs).2) hb.cn
end
variable{o:List Nat}
def Qin(l:List Nat):List Value:=l.map λ n=>.int .i64 (n:Nat)
def Zff(l:List Nat):(Qin l).length=l.length:=by simp[Qin]
def Zde(h:b8<o.length):(Qin o)[b8]?=some (.int .i64 (o.getD b8 0:Nat)):=by
 simp[Qin,getD_eq_getElem?_getD,h]
def Zfg(l:List Nat)(i n:Nat):(Qin l).toArray.setIfInBounds i (.int .i64 (n:Nat))=(Qin (l.set i n)).toArray:=by
 simp[Qin,map_set]
def Q7w(n:Nat):(replicate n (Value.int .i64 0)).toArray=(Qin (replicate n 0)).toArray:=by simp[Qin]
def Zb6:List (List (Nat×St)):=[[(0,.xo 18 0 1),(0,.xl 19 18),(0,.xn 20 19),(0,.xo 22 1 1),(0,.xl 23 22),(0,.xn 24 23),(2,.d 21 (.rw (.makeSlice 44 (.t 20) (.t 20)) 44)),(0,.m 5 21),(2,.d 25 (.rw (.makeSlice 44 (.t 24) (.t 24)) 44))],
 [(0,.xo 18 0 1),(0,.xl 19 18),(0,.xn 20 19),(0,.xo 22 1 1),(0,.xl 23 22),(0,.xn 24 23),(2,.d 25 (.rw (.makeSlice 44 (.t 24) (.t 24)) 44)),(2,.d 21 (.rw (.makeSlice 44 (.t 20) (.t 20)) 44)),(0,.m 5 21)]]
def Zfb:List St:=[.m 6 25]
section
attribute [local irreducible] Qb Zr W5
def Q3r(a n:Nat):Qb S 73 #[.int .i64 a,.int .i64 n] (λ v U'=>v=.int .i64 (WC a n)/\U'=U) U:=by
 refine Qb.of (args:=[_,_]) Zdz Qd S1 ?_
 repeat refine⟨rfl,?_⟩
 conv=>whnf
 apply Qe<;>intro f
 .have e:a=n:=by simp at f;omega
  repeat refine⟨rfl,?_⟩
  conv=>whnf
  exact⟨by unfold WC;rw[if_pos e],rfl⟩
 have e:a≠n:=by simp at f;omega
 repeat refine⟨rfl,?_⟩
 conv=>whnf
 apply Qe<;>intro f
 .have e0:a=0:=by simp at f;omega
  repeat refine⟨rfl,?_⟩
  conv=>whnf
  exact⟨by unfold WC;rw[if_neg e,if_pos e0],rfl⟩
 .have e0:a≠0:=by simp at f;omega
  repeat refine⟨rfl,?_⟩
  conv=>whnf
  exact⟨by unfold WC;rw[if_neg e,if_neg e0],rfl⟩
def Zgv:∃e,prog.info? 3=some e/\e.zero=some (.int .i64 0)/\e.size=1/\e.bytes<=64:=by
 have f:(prog.info? 3).map (·.zero)=some (some (.int .i64 0)):=K1
 have w:(prog.info? 3).map (·.size)=some 1:=K1
 have z:(prog.info? 3).map (λ i=>decide (i.bytes<=64))=some true:=K1
 cases h:prog.info? 3 with
 |none=>rw[h]at f;cases f
 |some e=>
  rw[h]at f w z;exact⟨e,rfl,Option.some.inj f,Option.some.inj w,by simpa using z⟩
def Qoz(h:BH)(b:Bk)(hb:Zu U.frz h b)(az:b.Ok):Qb S 31 #[h.v] (λ v U'=>(∃v1 v2,v=.tuple #[v1,v2]/\J1 U'.frz v1 b.fatesR/\J1 U'.frz v2 b.fatesC)/\U.le U') U:=by
 have ax:=hb.cs.1;have bs:=hb.rs.1;have cp:=az.nr;have b3:=az.nc;obtain⟨i3,a0,a4,a5,a6⟩:=Zgv
 let fR:List Nat->Nat->Bool:=λ o r=>(b.ends o).1.getD r false
 let T:List Nat->Nat->Bool:=λ o r=>(b.ends o).2.getD r false
 have bw:Qb S 31 #[h.v] (λ v U'=>∃v1 v2 A1 A2 Y,v=.tuple #[v1,v2]/\Jx 38 1 v1 (b.fatesR.map λ n=>.int .i64 n) A1/\Jx 38 1 v2 (b.fatesC.map λ n=>.int .i64 n) A2/\U'.M=A2++(A1++(Y++U.M))/\(∀x o,U.I x=some o->U'.I x=some o)/\U'.tok=U.tok) U:=by
  refine Qb.of (args:=[_]) Zdv Qd S1 ?_
  repeat refine⟨rfl,?_⟩
  conv=>whnf
  intro B U1 aw hB;have hB:=Zz4 h hB;have bl:=hb.lg aw.lg.frz2;refine⟨_,⟨rfl,hB.rd⟩,?_⟩;refine⟨Qfx.any,(Qon h b az ax h.cl [] U1 bl none 0 ⟨rfl,λ i x E=>by simp[Qan]at E⟩ S1).mono ?_⟩;rintro _ U2⟨⟨la,lc,cells,rfl,bu,bt,an⟩,al⟩-;have bk:b.ords h.cl []=b.all:=by unfold Bk.all;rw[ax]
  rw[bk]at an;have hn:cells.length=b.all.length:=by rw[an.1];simp
  have hL:Wt U2.frz la b.all.length (b.all.map Qan):=by have:=an.lists bu bt;rwa [length_map]at this
  have bz:=b.all_le b3;generalize cells.length=n at hn ⊢;have bi:Zo U2 B #[.slice h.ra h.rl h.rc,.slice h.ca h.cl h.cc]:=hB.lg al.lg;have ak:Zo U2.frz B #[.slice h.ra h.rl h.rc,.slice h.ca h.cl h.cc]:=bi;have b0:=bl.lg al.lg.frz2
  let MM:Nat->Nat->List Nat->List Nat->List Q2:=λ xb H s w=>.obj H (.cells (Qin w).toArray 3 (0,0))::.obj xb (.cells (Qin s).toArray 3 (0,0))::U2.M
  conv=>whnf
  intro cj ao
  refine YM (mu:=[]) (ops:=PN Tryz.f31 2) (id:=2) ao [3,7] [[0,1,2,4,5,6,3,8,7],[0,1,2,4,5,6,7,3,8]] [9] Zb6 Zfb Qd K1 K1 K1 K1 K1
   (λ f' bg U'=>bg=[]/\∃xb H,XH f' [(1,.pb B),(4,.slice la n lc),(5,.slice (some ⟨xb,0,none⟩) h.rl h.rl),(25,.slice (some ⟨H,0,none⟩) h.cl h.cl)]/\U2.frz.lg U'/\U'.M=MM xb H (replicate h.rl 0) (replicate h.cl 0)) ?_ ?_
  .intro l hl;simp only[Zb6,mem_cons,not_mem_nil,or_false]at hl;rcases hl with rfl|rfl
   .refine⟨_,ak.sees3 (o:=0) rfl,_,ak.sees3 (o:=1) rfl,λ v U'=>∃p,v=.slice (some ⟨p,0,none⟩) h.rl h.rl/\U2.frz.lg U'/\U'.M=.obj p (.cells (Qin (replicate h.rl 0)).toArray 3 (0,0))::U2.M,λ v x1 x2⟨rb,e,hl,hM⟩z=>⟨rb,e,hl.trans z.lg,z.own.trans hM⟩,λ v U'⟨rb,e,hl,hM⟩=>hl,λ U' hC=>?_,λ v hv=>?_⟩
    .conv=>whnf
     refine S9 (n:=h.rl) Pr a0 a4 rfl a5 a6 rfl rfl O1 λ rb b4=>?_;refine⟨_,.refl _,rb,rfl,⟨λ x o E=>hC.imm x o E,Zz3,hC.tok⟩,?_⟩;show _::U'.M=_;rw[hC.own,Q7w]
    obtain⟨_,xb,rfl,-⟩:=hv;refine⟨λ v U'=>∃p,v=.slice (some ⟨p,0,none⟩) h.cl h.cl/\U2.frz.lg U'/\U'.M=MM xb p (replicate h.rl 0) (replicate h.cl 0),λ v x1 x2⟨rb,e,hl,hM⟩z=>⟨rb,e,hl.trans z.lg,z.own.trans hM⟩,λ v U'⟨rb,e,hl,hM⟩=>hl,λ U' hC=>?_,λ v hv=>?_⟩
    .obtain⟨rb',e,X,K⟩:=hC;obtain rfl:xb=rb':=by simpa using e
     conv=>whnf
     refine S9 (n:=h.cl) Pr a0 a4 rfl a5 a6 rfl rfl O1 λ wb b8=>?_;refine⟨_,Hf (M':=MM xb wb (replicate h.rl 0) (replicate h.cl 0)) ?_,wb,rfl,⟨λ x o E=>X.imm x o E,Zz3,X.tok⟩,rfl⟩;show(_::U'.M).Perm _;rw[K,Q7w]
    obtain⟨_,H,rfl,-⟩:=hv
    conv=>whnf
    rintro U'⟨bf,e,X,K⟩;obtain rfl:H=bf:=by simpa using e
    exact⟨rfl,xb,H,T1,X,K⟩
   .refine⟨_,ak.sees3 (o:=0) rfl,_,ak.sees3 (o:=1) rfl,λ v U'=>∃p,v=.slice (some ⟨p,0,none⟩) h.cl h.cl/\U2.frz.lg U'/\U'.M=.obj p (.cells (Qin (replicate h.cl 0)).toArray 3 (0,0))::U2.M,λ v x1 x2⟨rb,e,hl,hM⟩z=>⟨rb,e,hl.trans z.lg,z.own.trans hM⟩,λ v U'⟨rb,e,hl,hM⟩=>hl,λ U' hC=>?_,λ v hv=>?_⟩
    .conv=>whnf
     refine S9 (n:=h.cl) Pr a0 a4 rfl a5 a6 rfl rfl O1 λ rb b4=>?_;refine⟨_,.refl _,rb,rfl,⟨λ x o E=>hC.imm x o E,Zz3,hC.tok⟩,?_⟩;show _::U'.M=_;rw[hC.own,Q7w]
    obtain⟨_,H,rfl,-⟩:=hv;refine⟨λ v U'=>∃p,v=.slice (some ⟨p,0,none⟩) h.rl h.rl/\U2.frz.lg U'/\U'.M=MM p H (replicate h.rl 0) (replicate h.cl 0),λ v x1 x2⟨rb,e,hl,hM⟩z=>⟨rb,e,hl.trans z.lg,z.own.trans hM⟩,λ v U'⟨rb,e,hl,hM⟩=>hl,λ U' hC=>?_,λ v hv=>?_⟩
    .obtain⟨rb',e,X,K⟩:=hC;obtain rfl:H=rb':=by simpa using e
     conv=>whnf
     refine S9 (n:=h.rl) Pr a0 a4 rfl a5 a6 rfl rfl O1 λ wb b8=>?_;refine⟨_,Hf (M':=MM wb H (replicate h.rl 0) (replicate h.cl 0)) ?_,wb,rfl,⟨λ x o E=>X.imm x o E,Zz3,X.tok⟩,rfl⟩;show(_::U'.M).Perm _;rw[K,Q7w];exact Perm.swap _ _ _
    obtain⟨_,xb,rfl,-⟩:=hv
    conv=>whnf
    rintro U'⟨bf,e,X,K⟩;obtain rfl:xb=bf:=by simpa using e
    exact⟨rfl,xb,H,T1,X,K⟩
  rintro f' bg U3⟨rfl,xb,H,bm,br,ab⟩;rw[<- bm.ovr];clear bm
  conv=>whnf
  intro a' ay;refine⟨by rw[ay.size,ao.size],_,ay.get,?_⟩;rw[ay.ds];clear ay ao;refine⟨Nat,λ k=>[(1,.pb B),(4,.slice la n lc),(5,.slice (some ⟨xb,0,none⟩) h.rl h.rl),(6,.slice (some ⟨H,0,none⟩) h.cl h.cl),(7,.int .i64 k)],λ k U'=>U2.frz.lg U'/\k<=n/\U'.M=MM xb H (Qb8 b.all fR h.rl k 0) (Qb8 b.all T h.cl k 0),λ k=>n-k,0,T1,⟨br,O1,by rw[Zei,Zei];exact ab⟩,?_⟩;rintro k f U3⟨V,cm,ab⟩;have bo:Je ((k:Int)+1):=I1
  repeat refine⟨rfl,?_⟩
  conv=>whnf
  apply Qe<;>intro hc
  .have hltk:k<n:=by simpa using hc
   obtain⟨o,aj⟩:∃o,b.all[k]?=some o:=⟨_,getElem?_eq_getElem O1⟩;have ho:=Bk.mem_all_iff.1 (mem_of_getElem? aj);obtain⟨ad,l,ga,gl,gc,bv,b1,ch,b5,a7,ck,co⟩:=hL.at (show k<b.all.length by omega);obtain rfl:Qan o=l:=by rw[getElem?_map,aj]at bv;exact Option.some.inj bv
   have bb:=a7.1;obtain rfl:o.length=gl:=by rw[<- bb];simp[Qan]
   have cq:=ho.len;refine⟨_,⟨rfl,(ak.lg V).rd⟩,?_⟩;refine⟨ad,k,⟨b1,rfl,hltk⟩,_,b5.lg V,λ v U'=>∃sa sc wa wc,v=.tuple #[.slice sa h.rl sc,.slice wa h.cl wc]/\(∀(i:Nat)x,(b.ends o).1[i]?=some x->∃ad,sa=some ad/\ad.spot=none/\U'.frz.sees (ad.add (i*1)) (.bool x))/\(∀(i:Nat)x,(b.ends o).2[i]?=some x->∃ad,wa=some ad/\ad.spot=none/\U'.frz.sees (ad.add (i*1)) (.bool x)),λ v x1 x2⟨sa,sc,wa,wc,e,q1,q2⟩z=>⟨sa,sc,wa,wc,e,(λ i x E=>let ⟨ad,a1,a2,a3⟩:=q1 i x E;⟨ad,a1,a2,a3.lg z.lg.frz2⟩),λ i x E=>let ⟨ad,a1,a2,a3⟩:=q2 i x E;⟨ad,a1,a2,a3.lg z.lg.frz2⟩⟩,λ U' z _=>?_,λ v hv=>?_⟩
   .refine⟨Zdy.any,(Qxp h b (b0.lg (V.frz2.trans z.lg.frz2)) az ga gc o (a7.lg (V.frz2.trans z.lg.frz2)) ho.low O1).mono ?_⟩;rintro _ U'⟨⟨_,_,rfl,⟨sa,sc,rfl,q1⟩,⟨wa,wc,rfl,q2⟩⟩,bq⟩-;rw[(b.end_len o).1,(b.end_len o).2,bs,ax];exact⟨_,.refl _,⟨sa,sc,wa,wc,rfl,q1,q2⟩,bq⟩
   obtain⟨_,-,-,sa,sc,wa,wc,rfl,-⟩:=hv
   conv=>whnf
   intro U4 bj hC;obtain⟨-,b9,ce,cf,cg,e,hS,hW⟩:=hC;obtain⟨⟨rfl,rfl⟩,rfl,rfl⟩:(sa=b9/\sc=ce)/\wa=cf/\wc=cg:=by simpa using e
   have b2:=V.trans bj.lg;have bx:=bj.own.trans ab;refine⟨Nat,λ i=>[(1,.pb B),(4,.slice la n lc),(5,.slice (some ⟨xb,0,none⟩) h.rl h.rl),(6,.slice (some ⟨H,0,none⟩) h.cl h.cl),(7,.int .i64 k),(8,.slice sa h.rl sc),(9,.slice wa h.cl wc),(10,.int .i64 i)],λ i U'=>U2.frz.lg U'/\i<=h.rl/\U'.M=MM xb H (Qb8 b.all fR h.rl k i) (Qb8 b.all T h.cl k 0)/\U4.frz.lg U',λ i=>h.rl-i,0,T1,⟨b2,O1,bx,Qy⟩,?_⟩;rintro i f U5⟨Z,hi,N,Q⟩;have af:Je ((i:Int)+1):=I1
   repeat refine⟨rfl,?_⟩
   conv=>whnf
   apply Qe<;>intro hc
   .have hlt:i<h.rl:=by simpa using hc
    obtain⟨x,E⟩:∃x,(b.ends o).1[i]?=some x:=⟨_,getElem?_eq_getElem (by rw[(b.end_len o).1];omega)⟩;obtain⟨ba,bd,-,be⟩:=hS i x E;have ap:(b.ends o).1.getD i false=x:=by simp[getD_eq_getElem?_getD,E]
    refine⟨ba,i,⟨bd,rfl,hlt⟩,_,be.lg Q,?_⟩;cases x with
    |false=>
     have hk:=Zeg (L:=b.all) (F:=fR) (n:=h.rl) (k:=k) (i:=i) aj ap;refine⟨af,?_⟩
     conv=>whnf
     exact⟨rfl,i+1,T1,⟨Z,O1,by rw[N,hk],Q⟩,L1⟩
    |true=>
     have hk:=Zfi (L:=b.all) (F:=fR) (n:=h.rl) (k:=k) (i:=i) aj hlt ap;have ae:(Qb8 b.all fR h.rl k i).length=h.rl:=Qdo;have z:=Zfs (L:=b.all) (F:=fR) (n:=h.rl) (k:=k) (i:=i) hlt;have ah:U5.sees ((Addr.mk xb 0 none).add (i*1)) (.int .i64 ((Qb8 b.all fR h.rl k i).getD i 0:Nat)):=by rw[Nat.mul_one];exact Ze [.obj H (.cells (Qin (Qb8 b.all T h.cl k 0)).toArray 3 (0,0))] N _ _ (Zde (by rw[ae];exact hlt))
     refine⟨_,i,⟨rfl,rfl,hlt⟩,_,ah,I1,?_⟩;rw[show(((Qb8 b.all fR h.rl k i).getD i 0:Nat):Int)+1=(((Qb8 b.all fR h.rl k i).getD i 0+1:Nat):Int) by omega];refine⟨_,i,⟨rfl,rfl,hlt⟩,rfl,?_⟩;rw[Nat.mul_one];refine WS (i:=i) (b:=xb) (v:=.int .i64 (((Qb8 b.all fR h.rl k i).getD i 0+1:Nat):Int)) (c:=(Qin (Qb8 b.all fR h.rl k i)).toArray) [.obj H (.cells (Qin (Qb8 b.all T h.cl k 0)).toArray 3 (0,0))] N (by rw[size_toArray,Zff,ae];exact hlt) rfl λ x1 k1 k2 k3=>?_;rw[Zfg,hk]at k3;refine⟨af,?_⟩
     conv=>whnf
     exact⟨rfl,i+1,T1,⟨⟨λ x o E=>by rw[k1];exact Z.imm x o E,Zz3,k2.trans Z.tok⟩,O1,k3,⟨λ x o E=>by rw[k1];exact Q.imm x o E,Zz3,k2.trans Q.tok⟩⟩,L1⟩
   have W:i=h.rl:=by simp at hc;omega
   subst W;rw[Zeh]at N;refine⟨Nat,λ i=>[(1,.pb B),(4,.slice la n lc),(5,.slice (some ⟨xb,0,none⟩) h.rl h.rl),(6,.slice (some ⟨H,0,none⟩) h.cl h.cl),(7,.int .i64 k),(9,.slice wa h.cl wc),(11,.int .i64 i)],λ i U'=>U2.frz.lg U'/\i<=h.cl/\U'.M=MM xb H (Qb8 b.all fR h.rl (k+1) 0) (Qb8 b.all T h.cl k i)/\U4.frz.lg U',λ i=>h.cl-i,0,T1,⟨Z,O1,by rw[N],Q⟩,?_⟩;rintro i f U6⟨Z,hi,N,Q⟩;have af:Je ((i:Int)+1):=I1
   repeat refine⟨rfl,?_⟩
   conv=>whnf
   apply Qe<;>intro hc
   .have hlt:i<h.cl:=by simpa using hc
    obtain⟨x,E⟩:∃x,(b.ends o).2[i]?=some x:=⟨_,getElem?_eq_getElem (by rw[(b.end_len o).2];omega)⟩;obtain⟨ba,bd,-,be⟩:=hW i x E;have ap:(b.ends o).2.getD i false=x:=by simp[getD_eq_getElem?_getD,E]
    refine⟨ba,i,⟨bd,rfl,hlt⟩,_,be.lg Q,?_⟩;cases x with
    |false=>
     have hk:=Zeg (L:=b.all) (F:=T) (n:=h.cl) (k:=k) (i:=i) aj ap;refine⟨af,?_⟩
     conv=>whnf
     exact⟨rfl,i+1,T1,⟨Z,O1,by rw[N,hk],Q⟩,L1⟩
    |true=>
     have hk:=Zfi (L:=b.all) (F:=T) (n:=h.cl) (k:=k) (i:=i) aj hlt ap;have ae:(Qb8 b.all T h.cl k i).length=h.cl:=Qdo;have z:=Zfs (L:=b.all) (F:=T) (n:=h.cl) (k:=k) (i:=i) hlt;have ah:U6.sees ((Addr.mk H 0 none).add (i*1)) (.int .i64 ((Qb8 b.all T h.cl k i).getD i 0:Nat)):=by rw[Nat.mul_one];exact Ze [] N _ _ (Zde (by rw[ae];exact hlt))
     refine⟨_,i,⟨rfl,rfl,hlt⟩,_,ah,I1,?_⟩;rw[show(((Qb8 b.all T h.cl k i).getD i 0:Nat):Int)+1=(((Qb8 b.all T h.cl k i).getD i 0+1:Nat):Int) by omega];refine⟨_,i,⟨rfl,rfl,hlt⟩,rfl,?_⟩;rw[Nat.mul_one];refine WS (i:=i) (b:=H) (v:=.int .i64 (((Qb8 b.all T h.cl k i).getD i 0+1:Nat):Int)) (c:=(Qin (Qb8 b.all T h.cl k i)).toArray) [] N (by rw[size_toArray,Zff,ae];exact hlt) rfl λ x1 k1 k2 k3=>?_;rw[Zfg,hk]at k3;refine⟨af,?_⟩
     conv=>whnf
     exact⟨rfl,i+1,T1,⟨⟨λ x o E=>by rw[k1];exact Z.imm x o E,Zz3,k2.trans Z.tok⟩,O1,k3,⟨λ x o E=>by rw[k1];exact Q.imm x o E,Zz3,k2.trans Q.tok⟩⟩,L1⟩
   have W:i=h.cl:=by simp at hc;omega
   subst W;rw[Zeh]at N;refine⟨bo,?_⟩
   conv=>whnf
   exact⟨rfl,k+1,T1,⟨Z,O1,N⟩,L1⟩
  have W:k=n:=by simp at hc;omega
  rw[W,hn]at ab
  let MB:List Q2:=MM xb H (Qb8 b.all fR h.rl b.all.length 0) (Qb8 b.all T h.cl b.all.length 0)
  refine⟨Nat×Value,λ y=>[(4,.slice la n lc),(5,.slice (some ⟨xb,0,none⟩) h.rl h.rl),(6,.slice (some ⟨H,0,none⟩) h.cl h.cl),(13,.nl),(12,y.2),(14,.int .i64 y.1)],λ y U'=>U2.frz.lg U'/\y.1<=h.rl/\∃A,U'.M=A++MB/\Jx 38 1 y.2 (((range y.1).map b.fatR).map λ n=>.int .i64 n) A,λ y=>h.rl-y.1,(0,.nl),T1,⟨V,O1,[],ab,.nil⟩,?_⟩;rintro⟨r,v⟩f U5⟨ai,hr,A,aa,G⟩;simp only at hr G;obtain⟨ra,rn,rc,rfl,b6⟩:=G.src;have aq:Je ((r:Int)+1):=I1
  repeat refine⟨rfl,?_⟩
  conv=>whnf
  apply Qe<;>intro hc
  .have hlt:r<h.rl:=by simpa using hc
   have ah:U5.sees ((Addr.mk xb 0 none).add (r*1)) (.int .i64 ((Qb8 b.all fR h.rl b.all.length 0).getD r 0:Nat)):=by
    rw[Nat.mul_one];exact Ze (A++[.obj H (.cells (Qin (Qb8 b.all T h.cl b.all.length 0)).toArray 3 (0,0))]) (e:=3) (vs:=Qin (Qb8 b.all fR h.rl b.all.length 0)) (M₀:=U2.M) (by rw[aa];simp[MB,MM]) _ _ (Zde (by rw[Qdo];exact hlt))
   have av:WC ((Qb8 b.all fR h.rl b.all.length 0).getD r 0) n=b.fatR r:=by
    rw[Zfh,getD_eq_getElem?_getD,getElem?_map,getElem?_range hlt,hn];rfl
   refine⟨_,r,⟨rfl,rfl,hlt⟩,_,ah,Zdz.any,(Q3r _ _).go λ _=>?_⟩;rw[av]
   conv=>whnf
   intro bn P;refine Zm P λ x1 k1 P=>?_;have P:Zo x1 bn #[.int .i64 (b.fatR r)]:=P;have au:=ai.trans k1.lg
   conv=>whnf
   refine Wv (v:=.slice ra rn rc) (cs:=((range r).map b.fatR).map λ n=>.int .i64 n) (new:=[.int .i64 (b.fatR r)]) (M₀:=MB) UY rfl rfl (by rw[k1.own,aa];exact G _) (.inr ⟨_,rfl,P.rd⟩) rfl (by simp[Value.single]) S3 λ v' M' ag _=>?_;have ag:Acc 38 1 v' (((range (r+1)).map b.fatR).map λ n=>.int .i64 n) M' (MB):=by rw[range_succ];simpa using ag
   obtain⟨a9,K,ac⟩:=ag.split;obtain⟨ta,tl,tc,rfl,-⟩:=ac.src;refine⟨aq,?_⟩
   conv=>whnf
   exact⟨rfl,(r+1,.slice ta tl tc),T1,⟨⟨au.imm,Zz3,au.tok⟩,by show r+1<=h.rl;omega,a9,K,ac⟩,L1⟩
  have W:r=h.rl:=by simp at hc;omega
  subst W;have am:Jx 38 1 (.slice ra rn rc) (b.fatesR.map λ n=>.int .i64 n) A:=by unfold Bk.fatesR;rw[bs];exact G
  have a8:=aa;have bp:=ai;obtain⟨A1,bh⟩:∃A1,A1=A:=⟨_,rfl⟩;rw[<- bh]at am a8;clear aa G ai bh;refine⟨Nat×Value,λ y=>[(4,.slice la n lc),(6,.slice (some ⟨H,0,none⟩) h.cl h.cl),(12,.slice ra rn rc),(13,y.2),(15,.int .i64 y.1)],λ y U'=>U2.frz.lg U'/\y.1<=h.cl/\∃A,U'.M=A++(A1++MB)/\Jx 38 1 y.2 (((range y.1).map b.fatC).map λ n=>.int .i64 n) A,λ y=>h.cl-y.1,(0,.nl),T1,⟨bp,O1,[],a8,.nil⟩,?_⟩;rintro⟨r,v⟩f U6⟨ai,hr,A,aa,G⟩;simp only at hr G;obtain⟨ua,ul,uc,rfl,b6⟩:=G.src;have aq:Je ((r:Int)+1):=I1
  repeat refine⟨rfl,?_⟩
  conv=>whnf
  apply Qe<;>intro hc
  .have hlt:r<h.cl:=by simpa using hc
   have ah:U6.sees ((Addr.mk H 0 none).add (r*1)) (.int .i64 ((Qb8 b.all T h.cl b.all.length 0).getD r 0:Nat)):=by
    rw[Nat.mul_one];exact Ze (A++A1) (e:=3) (vs:=Qin (Qb8 b.all T h.cl b.all.length 0)) (M₀:=.obj xb (.cells (Qin (Qb8 b.all fR h.rl b.all.length 0)).toArray 3 (0,0))::U2.M) (by rw[aa];simp[MB,MM]) _ _ (Zde (by rw[Qdo];exact hlt))
   have av:WC ((Qb8 b.all T h.cl b.all.length 0).getD r 0) n=b.fatC r:=by
    rw[Zfh,getD_eq_getElem?_getD,getElem?_map,getElem?_range hlt,hn];rfl
   refine⟨_,r,⟨rfl,rfl,hlt⟩,_,ah,Zdz.any,(Q3r _ _).go λ _=>?_⟩;rw[av]
   conv=>whnf
   intro bn P;refine Zm P λ x1 k1 P=>?_;have P:Zo x1 bn #[.int .i64 (b.fatC r)]:=P;have au:=ai.trans k1.lg
   conv=>whnf
   refine Wv (v:=.slice ua ul uc) (cs:=((range r).map b.fatC).map λ n=>.int .i64 n) (new:=[.int .i64 (b.fatC r)]) (M₀:=(A1++MB)) UY rfl rfl (by rw[k1.own,aa];exact G _) (.inr ⟨_,rfl,P.rd⟩) rfl (by simp[Value.single]) S3 λ v' M' ag _=>?_;have ag:Acc 38 1 v' (((range (r+1)).map b.fatC).map λ n=>.int .i64 n) M' ((A1++MB)):=by rw[range_succ];simpa using ag
   obtain⟨a9,K,ac⟩:=ag.split;obtain⟨ta,tl,tc,rfl,-⟩:=ac.src;refine⟨aq,?_⟩
   conv=>whnf
   exact⟨rfl,(r+1,.slice ta tl tc),T1,⟨⟨au.imm,Zz3,au.tok⟩,by show r+1<=h.cl;omega,a9,K,ac⟩,L1⟩
  have W:r=h.cl:=by simp at hc;omega
  subst W;have bc:Jx 38 1 (.slice ua ul uc) (b.fatesC.map λ n=>.int .i64 n) A:=by unfold Bk.fatesC;rw[ax];exact G
  repeat refine⟨rfl,?_⟩
  conv=>whnf
  exact⟨_,_,A1,A,[.obj H (.cells (Qin (Qb8 b.all T h.cl b.all.length 0)).toArray 3 (0,0)),.obj xb (.cells (Qin (Qb8 b.all fR h.rl b.all.length 0)).toArray 3 (0,0))],rfl,am,bc,by rw[aa];simp only[MB,MM];rw[al.own,aw.own];rfl,λ x u E=>ai.imm x u (al.imm x u (aw.imm x u E)),ai.tok.trans (al.tok.trans aw.tok)⟩
 have two:=bw.sep (R':=λ v U'=>∃v1 v2 A1 Y,v=.tuple #[v1,v2]/\Jx 38 1 v1 (b.fatesR.map λ n=>.int .i64 n) A1/\J1 U'.frz v2 b.fatesC/\U'.M=A1++(Y++U.M)/\(∀x o,U.I x=some o->U'.I x=some o)/\U'.tok=U.tok) λ v U' hs⟨v1,v2,A1,A2,Y,e,a1,a2,hM,hI,ht⟩=>by
  obtain⟨x1,k1,k2,a,len,cap,rfl,e2,e3,e4,-⟩:=Acc.freeze (U:={ U' with M:=A1++(Y++U.M) }) hs (by rw[hM];exact a2 _) (λ _ _ h=>h) rfl;simp at e2;exact⟨x1,k1,v1,_,A1,Y,e,a1,⟨a,cap,by rw[e2],VS e3 e4⟩,k2.own,λ x u E=>k2.imm x u (hI x u E),k2.tok.trans ht⟩
 refine two.sep λ v U' hs⟨v1,v2,A1,Y,e,a1,b7,hM,hI,ht⟩=>?_;obtain⟨x1,k1,k2,a,len,cap,rfl,e2,e3,e4,-⟩:=Acc.freeze (U:={ U' with M:=Y++U.M }) hs (by rw[hM];exact a1 _) (λ _ _ h=>h) rfl;simp at e2;have hz:U'.frz.lg x1.frz:=⟨k2.imm,⟨[],rfl⟩,k2.tok⟩;exact⟨{ x1 with M:=U.M },k1.trans (Z2 (by rw[k2.own];exact sublist_append_right ..)),⟨_,_,e,⟨a,cap,by rw[e2],VS e3 e4⟩,b7.lg hz⟩,⟨λ x u E=>k2.imm x u (hI x u E),rfl,k2.tok.trans ht⟩⟩
end
variable{f:Bk}{w:Bool}
def Bk.dN(b:Bk)(q:Nat)(w:Bool)(j:Nat):List Nat:=((b.all.drop j).find? λ o=>(b.ends o).1.getD q false==w).getD []
def Bk.dN_zero(b:Bk)(q:Nat)(w:Bool):b.dN q w 0=b.difS q w:=rfl
def Bk.dN_end(b:Bk)(q:Nat)(w:Bool):b.dN q w b.all.length=[]:=by unfold Bk.dN;rw[drop_length];rfl
def Bk.dN_step{q:Nat}(h:f.all[b8]?=some o):f.dN q w b8=if(f.ends o).1.getD q false==w then o else f.dN q w (b8+1):=by
 unfold Bk.dN;rw[Hk h,find?_cons];cases e:(f.ends o).1.getD q false==w <;> simp
section
attribute [local irreducible] Qb Zr W5
def Qtg(h:BH)(b:Bk)(w:Zu U.frz h b)(F:h.rl<=h.rc)(r:Int):Qb S 29 #[h.v,.int .i64 r] (λ v U'=>v=.int .i64 (b.askF r)/\U'=U) U:=by
 refine Qb.pure' (Qb.of (args:=[_,_]) Zdo Qd S1 ?_);have G:=w.rs.1;have I:=w.rl;have E:b.nr=(h.rl:Int):=by unfold Bk.nr;rw[G]
 repeat refine⟨rfl,?_⟩
 conv=>whnf
 intro B K e f;have f:=Zz4 h f;refine⟨_,⟨rfl,f.rd⟩,?_⟩;refine⟨Zdx.any,(Qox h b (w.lg e.lg.frz2) F).go λ _=>?_⟩
 repeat refine⟨rfl,?_⟩
 conv=>whnf
 apply Qe<;>intro H
 .have z:b.flaw Zk≠0:=by simpa using H
  repeat refine⟨rfl,?_⟩
  conv=>whnf
  exact⟨by unfold Bk.askF;rw[if_neg z],e.lg⟩
 have z:b.flaw Zk=0:=by simpa using H
 have L:b.askF r=if Q_ r 0 ((h.rl:Int)-1)then 0 else 6:=by unfold Bk.askF;rw[if_pos z,E]
 rw[L];refine⟨_,f.sees3 (o:=0) rfl,I1,?_⟩;refine⟨Ll.any,(Za1 _ _ _ _).go λ _=>?_⟩;cases M:Q_ r 0 ((h.rl:Int)-1)with
 |false=>
  repeat refine⟨rfl,?_⟩
  conv=>whnf
  exact e.lg
 |true=>
  repeat refine⟨rfl,?_⟩
  conv=>whnf
  exact e.lg
def Zda(h:BH)(b:Bk)(hb:Zu U.frz h b)(a6:h.rl<=h.rc)(r:Int) :
  Qb S 30 #[h.v,.int .i64 r] (λ v U'=>(∃Q T,v=.tuple #[Q,T,.int .i64 (b.askF r)]/\J1 U'.frz Q (if b.askF r=0 then Qan (b.difS r.toNat true)else[])/\J1 U'.frz T (if b.askF r=0 then Qan (b.difS r.toNat false)else[]))/\U.le U') U:=by
 refine Qb.grown (R:=λ v U'=>∃Q T,v=.tuple #[Q,T,.int .i64 (b.askF r)]/\J1 U' Q (if b.askF r=0 then Qan (b.difS r.toNat true)else[])/\J1 U' T (if b.askF r=0 then Qan (b.difS r.toNat false)else[])) (λ v U1 U2 hl⟨Q,T,e,h1,h2⟩=>⟨Q,T,e,h1.lg hl,h2.lg hl⟩) (Qb.of (args:=[_,_]) Ze1 Qd S1 ?_);have aa:=hb.cs.1;have a7:=hb.rs.1
 repeat refine⟨rfl,?_⟩
 conv=>whnf
 intro B U1 W hB;have hB:=Zz4 h hB;have Z:=hb.lg W.lg.frz2;refine⟨_,⟨rfl,hB.rd⟩,?_⟩;refine⟨Zdo.any,(Qtg h b Z a6 r).go λ _=>?_⟩
 repeat refine⟨rfl,?_⟩
 conv=>whnf
 apply Qe<;>intro hc
 .have hf:b.askF r≠0:=by simpa using hc
  repeat refine⟨rfl,?_⟩
  conv=>whnf
  rw[if_neg hf,if_neg hf];exact⟨⟨_,_,rfl,.nil,.nil⟩,W.lg⟩
 have hf:b.askF r=0:=by simpa using hc
 obtain⟨af,a4,a5⟩:=Bk.askF_ok hf;obtain⟨q,rfl⟩:=Int.eq_ofNat_of_zero_le a4;have hq:q<h.rl:=by unfold Bk.nr at a5;omega
 rw[if_pos hf,if_pos hf,hf,Int.toNat_natCast];have a0:=af.nc;have av:=b.all_le a0;refine⟨_,⟨rfl,hB.rd⟩,?_⟩;refine⟨Qfx.any,(Qon h b af aa h.cl [] U1 Z none 0 ⟨rfl,λ i x hx=>by simp[Qan]at hx⟩ S1).mono ?_⟩;rintro _ U2⟨⟨la,lc,cells,rfl,al,ak,I⟩,X⟩-;have ah:b.ords h.cl []=b.all:=by unfold Bk.all;rw[aa]
 rw[ah]at I;have hn:cells.length=b.all.length:=by rw[I.1];simp
 have hL:Wt U2.frz la b.all.length (b.all.map Qan):=by have:=I.lists al ak;rwa [length_map]at this
 rw[hn];have ag:=hB.lg X.lg;have aw:=Z.lg X.lg.frz2;have aq:=W.trans X;have e0:∀m:Nat,((m+1:Nat):Int)-1=(m:Int):=λ m=>O1
 refine⟨I1,?_⟩;refine⟨Nat×Value×Value,λ y=>[(1,.int .i64 q),(2,.pb B),(8,.slice la b.all.length lc),(9,y.2.1),(10,y.2.2),(11,.int .i64 ((y.1:Int)-1))],λ y U'=>U2.le U'/\y.1<=b.all.length/\J1 U'.frz y.2.1 (Qan (b.dN q true y.1))/\J1 U'.frz y.2.2 (Qan (b.dN q false y.1)),λ y=>y.1,(b.all.length,.nl,.nl),T1,⟨.refl _,Nat.le_refl _,by show J1 _ _ (Qan (b.dN q true b.all.length));rw[b.dN_end];exact .nil,by show J1 _ _ (Qan (b.dN q false b.all.length));rw[b.dN_end];exact .nil⟩,?_⟩;rintro⟨j,Q,T⟩f U3⟨G,hj,am,an⟩;simp only at hj am an;obtain⟨a1,c1,rfl,ac⟩:=am;obtain⟨a2,c2,rfl,ae⟩:=an;have au:=aq.trans G
 repeat refine⟨rfl,?_⟩
 conv=>whnf
 apply Qe<;>intro hc
 .obtain⟨m,rfl⟩:∃m,j=m+1:=⟨j-1,by simp at hc;omega⟩;obtain⟨o,M⟩:∃o,b.all[m]?=some o:=⟨_,getElem?_eq_getElem O1⟩;have ho:=Bk.mem_all_iff.1 (mem_of_getElem? M);have z:=Bk.dN_step (q:=q) (w:=true) M;have E:=Bk.dN_step (q:=q) (w:=false) M;obtain⟨K,l,ga,gl,gc,ao,ab,bd,aj,F,be,bf⟩:=hL.at (show m<b.all.length by omega);obtain rfl:Qan o=l:=by rw[getElem?_map,M]at ao;exact Option.some.inj ao
  have V:=F.1;obtain rfl:o.length=gl:=by rw[<- V];simp[Qan]
  have bg:=ho.len;refine⟨_,⟨rfl,(ag.lg G.lg).rd⟩,?_⟩;refine⟨K,m,⟨ab,e0 m,O1⟩,_,aj.lg (Oe Qy G),λ v U'=>∃sa sc wa wc,v=.tuple #[.slice sa h.rl sc,.slice wa h.cl wc]/\(∀(i:Nat)x,(b.ends o).1[i]?=some x->∃K,sa=some K/\K.spot=none/\U'.frz.sees (K.add (i*1)) (.bool x)),λ v x1 x2⟨sa,sc,wa,wc,e,q1⟩L=>⟨sa,sc,wa,wc,e,(λ i x hx=>let ⟨K,a1,a2,a3⟩:=q1 i x hx;⟨K,a1,a2,a3.lg L.lg.frz2⟩)⟩,λ U' L _=>?_,λ v hv=>?_⟩
  .refine⟨Zdy.any,(Qxp h b (aw.lg (G.trans L).lg.frz2) af ga gc o (F.lg (G.trans L).lg.frz2) ho.low O1).mono ?_⟩;rintro _ U'⟨⟨_,_,rfl,⟨sa,sc,rfl,q1⟩,⟨wa,wc,rfl,q2⟩⟩,ai⟩-;rw[(b.end_len o).1,(b.end_len o).2,a7,aa];exact⟨_,.refl _,⟨sa,sc,wa,wc,rfl,q1⟩,ai⟩
  obtain⟨_,-,-,sa,sc,wa,wc,rfl,-⟩:=hv
  conv=>whnf
  intro U4 Y hC;obtain⟨-,a9,ba,bb,bc,e,hS⟩:=hC;obtain⟨⟨rfl,rfl⟩,rfl,rfl⟩:(sa=a9/\sc=ba)/\wa=bb/\wc=bc:=by simpa using e
  obtain⟨x,hx⟩:∃x,(b.ends o).1[q]?=some x:=⟨_,getElem?_eq_getElem (by rw[(b.end_len o).1];omega)⟩;obtain⟨ap,ax,-,a8⟩:=hS q x hx;have ay:(b.ends o).1.getD q false=x:=by simp[getD_eq_getElem?_getD,hx]
  rw[ay]at z E;have H:=G.trans Y;refine⟨ap,q,⟨ax,rfl,hq⟩,_,a8.lg Qy,?_⟩;have P:U4.sees (K.add (m*1)) (.slice ga o.length gc):=aj.lg (Oe Qy H);have N:Je (((m+1:Nat):Int)-1-1):=I1
  cases x with
  |true=>
   have z:b.dN q true m=o:=z;have E:b.dN q false m=b.dN q false (m+1):=E;refine⟨K,m,⟨ab,e0 m,O1⟩,_,P,N,?_⟩
   conv=>whnf
   exact⟨rfl,(m,.slice ga o.length gc,.slice a2 _ c2),⟨rfl,rfl,rfl,rfl,rfl,by rw[e0];rfl,trivial⟩,⟨H,by show m<=_;omega,by show J1 _ _ (Qan (b.dN q true m));rw[z];exact⟨ga,gc,by simp[Qan],by rw[show(Qan o).length=o.length by simp[Qan]];exact F.lg H.lg.frz2⟩,by show J1 _ _ (Qan (b.dN q false m));rw[E];exact⟨a2,c2,rfl,ae.lg Y.lg.frz2⟩⟩,Nat.lt_succ_self m⟩
  |false=>
   have z:b.dN q true m=b.dN q true (m+1):=z;have E:b.dN q false m=o:=E;refine⟨K,m,⟨ab,e0 m,O1⟩,_,P,N,?_⟩
   conv=>whnf
   exact⟨rfl,(m,.slice a1 _ c1,.slice ga o.length gc),⟨rfl,rfl,rfl,rfl,rfl,by rw[e0];rfl,trivial⟩,⟨H,by show m<=_;omega,by show J1 _ _ (Qan (b.dN q true m));rw[z];exact⟨a1,c1,rfl,ac.lg Y.lg.frz2⟩,by show J1 _ _ (Qan (b.dN q false m));rw[E];exact⟨ga,gc,by simp[Qan],by rw[show(Qan o).length=o.length by simp[Qan]];exact F.lg H.lg.frz2⟩⟩,Nat.lt_succ_self m⟩
 have az:j=0:=by simp at hc;omega
 subst az;rw[b.dN_zero]at ac ae
 repeat refine⟨rfl,?_⟩
 conv=>whnf
 exact⟨⟨_,_,rfl,⟨a1,c1,rfl,ac⟩,⟨a2,c2,rfl,ae⟩⟩,au.lg⟩
end
variable{z:Array Value}{b7:Nat}{v:Value}
def Tw1(U:Qa T)(e:TypeId)(z:Array Value)(b:Nat)(U':Qa T):Prop:=U.free b/\Hlr U b e z U'
def Tw1.le{U'':Qa T}(h:Tw1 U e z b U')(k:U'.le U''):Tw1 U e z b U'':=⟨h.1,h.2.le k⟩
def Zhd(h:U.le U')(e:U'.free b):U.free b:=by
 refine⟨?_,λ r w=>e.2 r (by rw[h.own];exact w)⟩;cases f:U.I b with
 |none=>rfl
 |some o=>have:=h.imm b o f;rw[e.1]at this;cases this
def Tw1.made(h:U.le U')(f:U'.free b):Tw1 U e z b (U'.put b (.cells z e)):=⟨Zhd h f,.made h f⟩
structure Tw2(U:Qa T)(e:TypeId)(z:Array Value)(b7 b8:Nat)(U':Qa T):Prop where
 imm:∀x o,U.I x=some o->U'.I x=some o
 own:U'.M=.obj b8 (.cells z e (0,0))::.obj b7 (.cells z e (0,0))::U.M
 tok:U'.tok=U.tok
 f7:U.free b7
 f8:U.free b8
 ne:b8≠b7
def Tw2.le{U'':Qa T}(h:Tw2 U e z b7 b8 U')(k:U'.le U''):Tw2 U e z b7 b8 U'':=⟨λ x o i=>k.imm x o (h.imm x o i),k.own.trans h.own,k.tok.trans h.tok,h.f7,h.f8,h.ne⟩
def Tw2.frz(h:Tw2 U e z b7 b8 U'):U.frz.lg U':=⟨h.imm,Zz3,h.tok⟩
def Tw1.free2(h:Tw1 U e z b U')(f:U'.free b8):U.free b8/\b8≠b:=by
 refine⟨⟨?_,λ r B=>f.2 r (by rw[h.2.own];exact mem_cons_of_mem _ B)⟩,λ e'=>f.2 (.obj b (.cells z e (0,0))) (by rw[h.2.own];exact mem_cons_self ..) e'.symm⟩;cases w:U.I b8 with
 |none=>rfl
 |some o=>have:=h.2.imm b8 o w;rw[f.1]at this;cases this
def Tw1.made1(h:Tw1 U e z b7 U')(w:U'.free b8):∃f,Q1 (U'.put b8 (.cells z e)) f/\Tw2 U e z b7 b8 f:=
 ⟨_,.refl _,h.2.imm,by show _::U'.M=_;rw[h.2.own],h.2.tok,h.1,(h.free2 w).1,(h.free2 w).2⟩
def Tw1.made2(h:Tw1 U e z b8 U')(w:U'.free b7):∃f,Q1 (U'.put b7 (.cells z e)) f/\Tw2 U e z b7 b8 f:=
 ⟨_,Hf (M':=.obj b8 (.cells z e (0,0))::.obj b7 (.cells z e (0,0))::U.M) (by show(_::U'.M).Perm _;rw[h.2.own];exact Perm.swap _ _ _),h.2.imm,rfl,h.2.tok,(h.free2 w).1,h.1,(h.free2 w).2.symm⟩
def Tw3(U:Qa T)(e:TypeId)(z:Array Value)(vs:List Value)(b7 b8:Nat)(U':Qa T):Prop:=∃f,U.le f/\Zo f b7 vs.toArray/\Hlr f b8 e z U'
def Tw3.le{U'':Qa T}(h:Tw3 U e z vs b7 b8 U')(k:U'.le U''):Tw3 U e z vs b7 b8 U'':=let ⟨a,h1,h2,h3⟩:=h;⟨a,h1,h2,h3.le k⟩
def Tw3.frz(h:Tw3 U e z vs b7 b8 U'):U.frz.lg U':=let ⟨_,h1,_,h3⟩:=h;⟨λ x o i=>h3.imm x o (h1.imm x o i),Zz3,h3.tok.trans h1.tok⟩
def Tw2.write(h:Tw2 U e z b7 b8 U')(f:z.size=vs.length)(B:∀v∈vs,v.single=true):ZG ⟨b7,0,none⟩ vs 0 (λ U''=>∃w,Q1 U'' w/\Tw3 U e z vs b7 b8 w) U':=by
 refine K6 [.obj b8 (.cells z e (0,0))] vs 0 z U' (M₀:=U.M) h.own B O1 ?_;rw[Vs f];refine⟨_,Wf (b:=b7) (M':=.obj b8 (.cells z e (0,0))::U.M) (Perm.swap ..),{ U with I:=JI U.I b7 (.cells vs.toArray e) },GA h.f7,Zo.new,?_,rfl,h.tok,?_⟩
 .intro x o hx;simp only[JI]at hx ⊢;split at hx
  .rename_i hxb;rw[if_pos hxb];exact hx
  .rename_i hxb;rw[if_neg hxb];exact h.imm x o hx
 .show JI U.I b7 _ b8=none;unfold JI;rw[if_neg h.ne];exact h.f8.1
def Tw3.write{ws:List Value}{Q:Qa T->Prop}(h:Tw3 U e z vs b7 b8 U')(w:z.size=ws.length)(F:∀v∈ws,v.single=true)(E:∀f,U.le f->Zo f b7 vs.toArray->Zo f b8 ws.toArray->Q f):ZG ⟨b8,0,none⟩ ws 0 (λ U''=>∃f,Q1 U'' f/\Q f) U':=
 let ⟨_,h1,h2,h3⟩:=h
 h3.write w F λ f B G=>E f (h1.trans B) (h2.le B) G
def Zu.zero:Zu U BH.zero ⟨[],[]⟩:=⟨⟨rfl,λ i x h=>by simp at h⟩,⟨rfl,λ i x h=>by simp at h⟩,by show 0<_;decide,by show 0<_;decide,S1,S1⟩
def Zo.sees3F{o:Nat}(h:Zo U b8 c)(e:c[o]?=some v):U.frz.sees ((Addr.mk b8 0 none).add o) v:=(show Zo U.frz b8 c from h).sees3 e
def Zbw:List (List (Nat×St)):=[[(0,.xo 31 1 2),(0,.xl 32 31),(0,.m 33 5),(0,.xi 34 4 32 33),(0,.xd 35 4 34),(0,.xo 36 1 3),(0,.xl 37 36),(0,.m 38 5),(0,.xi 39 4 37 38),(0,.xd 40 4 39),(2,.d 6 (.alloc 46 #[(.string ⟨#[]⟩),(.int .i64 0),.nl,.nl])),(2,.d 7 (.alloc 46 #[(.string ⟨#[]⟩),(.int .i64 0),.nl,.nl])),(2,⟨.st 4 (.t 6) (.t 35),none,none,none⟩)],
 [(0,.xo 31 1 2),(0,.xl 32 31),(0,.m 33 5),(0,.xi 34 4 32 33),(0,.xd 35 4 34),(0,.xo 36 1 3),(0,.xl 37 36),(0,.m 38 5),(0,.xi 39 4 37 38),(0,.xd 40 4 39),(2,.d 7 (.alloc 46 #[(.string ⟨#[]⟩),(.int .i64 0),.nl,.nl])),(2,.d 6 (.alloc 46 #[(.string ⟨#[]⟩),(.int .i64 0),.nl,.nl])),(2,⟨.st 4 (.t 6) (.t 35),none,none,none⟩)]]
def Ze8:List St:=[⟨.st 4 (.t 7) (.t 40),none,none,none⟩]
section
attribute [local irreducible] Qb Zr W5
def Zea(a a':Option Addr)(len cap w:Nat)(l:List ByteArray)(P:Zd U a len 1 l λ s vs=>vs=[.string s])(I:Zd U a' len 1 l λ s vs=>vs=[.string s])(M:len<2^60) :
  Qb S 46 #[.slice a len cap,.slice a' len w] (λ v U'=>v=.bool true/\U'=U) U:=by
 refine Qb.pure' (Qb.of (args:=[_,_]) Ze4 Qd S1 ?_)
 repeat refine⟨rfl,?_⟩
 conv=>whnf
 apply Qe<;>intro z
 .exact absurd z S1
 refine⟨Nat,λ i=>[(0,.slice a len cap),(1,.slice a' len w),(5,.int .i64 i)],λ i U'=>U.le U'/\i<=len,λ i=>len-i,0,T1,⟨.refl _,O1⟩,?_⟩;rintro i f X⟨e,Z⟩;have H:Je ((i:Int)+1):=I1
 repeat refine⟨rfl,?_⟩
 conv=>whnf
 apply Qe<;>intro z
 .have hlt:i<len:=by simpa using z
  obtain⟨N,x,vs,T,G,-,rfl,-,Q⟩:=P.at hlt;obtain⟨E,W,V,L,B,-,rfl,-,K⟩:=I.at hlt;obtain rfl:x=W:=Option.some.inj (T.symm.trans L);refine⟨N,i,⟨G,rfl,hlt⟩,_,(Q.lg e.lg) 0 _ rfl,E,i,⟨B,rfl,hlt⟩,_,(K.lg e.lg) 0 _ rfl,?_⟩
  conv=>whnf
  intro Y F _
  repeat refine⟨rfl,?_⟩
  conv=>whnf
  apply Qe<;>intro z
  .exact absurd z S1
  refine⟨H,?_⟩
  conv=>whnf
  exact⟨rfl,i+1,T1,⟨e.trans F,O1⟩,L1⟩
 repeat refine⟨rfl,?_⟩
 conv=>whnf
 exact e.lg
def Q7s(h I:BH)(b:Bk)(W:Zu U.frz h b)(H:Zu U.frz I b):Qb S 12 #[h.v,I.v] (λ v U'=>v=.bool true/\U'=U) U:=by
 refine Qb.pure' (Qb.of (args:=[_,_]) Ze0 Qd S1 ?_)
 let L:Array Value:=#[.string ⟨#[]⟩,.int .i64 0,.nl,.nl]
 have b5:=W.cs.1;have cg:=W.rs.1;have br:b.cs.length=I.cl:=H.cs.1;have bx:b.rs.length=I.rl:=H.rs.1;have e1:I.rl=h.rl:=O1
 have e2:I.cl=h.cl:=O1
 repeat refine⟨rfl,?_⟩
 conv=>whnf
 intro b2 U1 bc z;have z:=Zz4 h z
 conv=>whnf
 intro b3 U2 ap F;have F:Zo U2 b3 #[.slice I.ra I.rl I.rc,.slice I.ca I.cl I.cc]:=F;have z:=z.le ap;have am:=bc.trans ap;have W:=W.lg am.lg.frz2;have H:=H.lg am.lg.frz2;rw[e1,e2]at F
 repeat refine⟨rfl,?_⟩
 refine⟨_,z.sees3 (o:=0) rfl,_,F.sees3 (o:=0) rfl,Ze4.any,(Zea h.ra I.ra h.rl h.rc I.rc b.rs (W.rs.lg Qy λ _ _ h=>h) ((show Zd U2.frz I.ra h.rl 1 b.rs _ from e1▸H.rs).lg Qy λ _ _ h=>h) W.rl).go λ _=>?_⟩;refine⟨_,z.sees3 (o:=1) rfl,_,F.sees3 (o:=1) rfl,?_⟩
 repeat refine⟨rfl,?_⟩
 conv=>whnf
 apply Qe<;>intro P
 .exact absurd P S1
 refine⟨Nat,λ i=>[(2,.pb b2),(3,.pb b3),(5,.int .i64 i)],λ i U'=>U2.le U'/\i<=h.cl,λ i=>h.cl-i,0,T1,⟨.refl _,O1⟩,?_⟩;rintro i f U4⟨M,hi⟩;have bf:=W.cl;have bk:Je ((i:Int)+1):=I1
 have z:=z.le M;have F:=F.le M;have W:=W.lg M.lg.frz2;have H:=H.lg M.lg.frz2;have ba:=am.trans M;refine⟨_,z.sees3 (o:=1) rfl,?_⟩
 repeat refine⟨rfl,?_⟩
 conv=>whnf
 apply Qe<;>intro P
 .have hlt:i<h.cl:=by simpa using P
  have ah:i<h.cl:=hlt;obtain⟨ad,c,ga,gl,gc,aa,al,ac,hx,aq,ch,a0,hg,b9,ha,be,bw⟩:=W.case hlt;obtain⟨an,c',aj,ab,ak,X,Z,Y,bo,af,bz,ai,ax,bt,bd,bq,bl⟩:=H.case (show i<I.cl by omega);obtain rfl:c=c':=Option.some.inj (hx.symm.trans bo);have b6:=hg.1;have bs:=ax.1
  conv=>whnf
  intro b4 Q
  refine YM (mu:=[]) (ops:=PN Tryz.f12 6) (id:=6) Q [10,11,12] [[0,1,2,3,4,5,6,7,8,9,10,11,12],[0,1,2,3,4,5,6,7,8,9,11,10,12]] [13] Zbw Ze8 Qd K1 K1 K1 K1 K1
   (λ f' ao U'=>ao=[]/\∃b7 b8,XH f' [(2,.pb b2),(3,.pb b3),(5,.int .i64 i),(6,.pb b7),(7,.pb b8),(40,.agg #[.string c.nm,.int .i64 c.ag,.slice aj ab ak,.slice X Z Y])]/\Tw3 U4 46 L [.string c.nm,.int .i64 c.ag,.slice ga gl gc,.slice aa al ac] b7 b8 U') ?_ ?_
  .intro l hl;simp only[Zbw,mem_cons,not_mem_nil,or_false]at hl;rcases hl with rfl|rfl
   .refine⟨_,z.sees3F (o:=1) rfl,ad,i,⟨aq,rfl,hlt⟩,_,⟨rfl,a0⟩,_,F.sees3F (o:=1) rfl,an,i,⟨af,rfl,ah⟩,_,⟨rfl,ai⟩,λ v U'=>∃p,v=.pb p/\Tw1 U4 46 L p U',λ v K x2⟨p,e,w⟩B=>⟨p,e,w.le B⟩,λ v U'⟨p,e,w⟩=>w.2.frz1,λ U' N=>?_,λ v V=>?_⟩
    .conv=>whnf
     intro p hp;exact⟨_,.refl _,_,.refl _,p,rfl,.made N hp⟩
    obtain⟨_,b7,rfl,-⟩:=V;refine⟨λ v U'=>∃p,v=.pb p/\Tw2 U4 46 L b7 p U',λ v K x2⟨p,e,w⟩B=>⟨p,e,w.le B⟩,λ v U'⟨p,e,w⟩=>w.frz,λ U' N=>?_,λ v V=>?_⟩
    .obtain⟨p',e,w⟩:=N;obtain rfl:b7=p':=by simpa using e
     conv=>whnf
     intro p hp;obtain⟨K,k1,k2⟩:=w.made1 hp;exact⟨K,k1,_,.refl _,p,rfl,k2⟩
    obtain⟨_,b8,rfl,-⟩:=V;refine⟨λ v U'=>Tw3 U4 46 L [.string c.nm,.int .i64 c.ag,.slice ga gl gc,.slice aa al ac] b7 b8 U',λ v K x2 w B=>w.le B,λ v U' w=>w.frz,λ U' N=>?_,λ v V=>?_⟩
    .obtain⟨p',e,w⟩:=N;obtain rfl:b8=p':=by simpa using e
     conv=>whnf
     exact⟨rfl,ZG.mono (λ _⟨K,k1,k2⟩=>⟨K,k1,K,.refl _,k2⟩) _ _ _ (w.write (vs:=[.string c.nm,.int .i64 c.ag,.slice ga gl gc,.slice aa al ac]) rfl (by simp[Value.single]))⟩
    clear V
    conv=>whnf
    intro U' w;exact⟨rfl,b7,b8,T1,w⟩
   .refine⟨_,z.sees3F (o:=1) rfl,ad,i,⟨aq,rfl,hlt⟩,_,⟨rfl,a0⟩,_,F.sees3F (o:=1) rfl,an,i,⟨af,rfl,ah⟩,_,⟨rfl,ai⟩,λ v U'=>∃p,v=.pb p/\Tw1 U4 46 L p U',λ v K x2⟨p,e,w⟩B=>⟨p,e,w.le B⟩,λ v U'⟨p,e,w⟩=>w.2.frz1,λ U' N=>?_,λ v V=>?_⟩
    .conv=>whnf
     intro p hp;exact⟨_,.refl _,_,.refl _,p,rfl,.made N hp⟩
    obtain⟨_,b8,rfl,-⟩:=V;refine⟨λ v U'=>∃p,v=.pb p/\Tw2 U4 46 L p b8 U',λ v K x2⟨p,e,w⟩B=>⟨p,e,w.le B⟩,λ v U'⟨p,e,w⟩=>w.frz,λ U' N=>?_,λ v V=>?_⟩
    .obtain⟨p',e,w⟩:=N;obtain rfl:b8=p':=by simpa using e
     conv=>whnf
     intro p hp;obtain⟨K,k1,k2⟩:=w.made2 hp;exact⟨K,k1,_,.refl _,p,rfl,k2⟩
    obtain⟨_,b7,rfl,-⟩:=V;refine⟨λ v U'=>Tw3 U4 46 L [.string c.nm,.int .i64 c.ag,.slice ga gl gc,.slice aa al ac] b7 b8 U',λ v K x2 w B=>w.le B,λ v U' w=>w.frz,λ U' N=>?_,λ v V=>?_⟩
    .obtain⟨p',e,w⟩:=N;obtain rfl:b7=p':=by simpa using e
     conv=>whnf
     exact⟨rfl,ZG.mono (λ _⟨K,k1,k2⟩=>⟨K,k1,K,.refl _,k2⟩) _ _ _ (w.write (vs:=[.string c.nm,.int .i64 c.ag,.slice ga gl gc,.slice aa al ac]) rfl (by simp[Value.single]))⟩
    clear V
    conv=>whnf
    intro U' w;exact⟨rfl,b7,b8,T1,w⟩
  rintro f' ao U5⟨rfl,b7,b8,aw,w⟩;rw[<- aw.ovr];clear aw;refine⟨rfl,w.write (ws:=[.string c.nm,.int .i64 c.ag,.slice aj ab ak,.slice X Z Y]) rfl (by simp[Value.single]) λ U6 h6 E G=>?_⟩;have E:Zo U6 b7 #[.string c.nm,.int .i64 c.ag,.slice ga gl gc,.slice aa al ac]:=E;have G:Zo U6 b8 #[.string c.nm,.int .i64 c.ag,.slice aj ab ak,.slice X Z Y]:=G;have bb:=M.trans h6;have hz:=h6.lg.frz2
  conv=>whnf
  intro a' ae;refine⟨by rw[ae.size,Q.size],_,ae.get,?_⟩;rw[ae.ds];clear ae Q w;refine⟨_,E.sees3 (o:=0) rfl,_,G.sees3 (o:=0) rfl,?_⟩
  repeat refine⟨rfl,?_⟩
  conv=>whnf
  apply Jb<;>intro P
  rotate_left
  .exact absurd P S1
  refine⟨_,E.sees3 (o:=1) rfl,_,G.sees3 (o:=1) rfl,?_⟩
  repeat refine⟨rfl,?_⟩
  conv=>whnf
  apply Jb<;>intro P
  rotate_left
  .exact absurd P S1
  refine⟨_,E.sees3 (o:=3) rfl,_,G.sees3 (o:=3) rfl,Gl.any,(P0 aa X al ac Z Y _ _ ((ha.lg hz).lg Qy) ((bd.lg hz).lg Qy) be).go λ _=>?_⟩;rw[decide_eq_true rfl];refine⟨_,E.sees3 (o:=2) rfl,_,G.sees3 (o:=2) rfl,?_⟩
  repeat refine⟨rfl,?_⟩
  conv=>whnf
  apply Qe<;>intro P
  .exfalso;simp at P;omega
  refine⟨Nat,λ k=>[(2,.pb b2),(3,.pb b3),(5,.int .i64 i),(6,.pb b7),(7,.pb b8),(8,.int .i64 k)],λ k U'=>U6.le U'/\k<=gl,λ k=>gl-k,0,T1,⟨.refl _,O1⟩,?_⟩;rintro k f U7⟨h7,cf⟩;have az:Je ((k:Int)+1):=I1
  have E:=E.le h7;have G:=G.le h7;have bg:=(hg.lg (hz.trans h7.lg.frz2)).lg Qy;have bh:=(ax.lg (hz.trans h7.lg.frz2)).lg Qy;refine⟨_,E.sees3 (o:=2) rfl,?_⟩
  repeat refine⟨rfl,?_⟩
  conv=>whnf
  apply Qe<;>intro P
  .have hltk:k<gl:=by simpa using P
   have T:k<ab:=O1
   obtain⟨a2,g2,a4,a8,a6,bp,au,b0,bm,bi,ay,ce⟩:=bg.at hltk;obtain⟨a3,g3,a5,a9,a7,a1,av,b1,bn,bj,bu,bv⟩:=bh.at T;obtain rfl:g2=g3:=Option.some.inj (bp.symm.trans a1);refine⟨_,E.sees3 (o:=2) rfl,a2,k,⟨au,rfl,hltk⟩,_,bm,_,G.sees3 (o:=2) rfl,a3,k,⟨av,rfl,T⟩,_,bn,?_⟩
   conv=>whnf
   intro U8 h8 _;refine⟨Gl.any,(P0 a4 a5 a8 a6 a9 a7 g2 g2 (bi.lg h8.lg) (bj.lg h8.lg) ay).go λ _=>?_⟩;rw[decide_eq_true rfl];refine⟨az,?_⟩
   conv=>whnf
   exact⟨rfl,k+1,T1,⟨h7.trans h8,O1⟩,L1⟩
  refine⟨bk,?_⟩
  conv=>whnf
  exact⟨rfl,i+1,T1,⟨(bb).trans h7,O1⟩,L1⟩
 repeat refine⟨rfl,?_⟩
 conv=>whnf
 exact ba.lg
