/- Lemmas. No conditions. -/
import Derived.Test.YtnjljnhoaafkiaaGreatDoorB37
import Derived.Test.YtnjljnhoaafkiaaGreatDoorB34
import Derived.Test.YtnjljnhoaafkiaaGreatDoorB04
import Derived.Test.YtnjljnhoaafkiaaGreatDoorB30
set_option linter.all false
set_option maxRecDepth 100000
set_option maxHeartbeats 4000000
open List
open Go.Proofs.Tryz (prog)
namespace Go.TM
open Go.Proofs
attribute [local irreducible] Qb Zm Wo
variable{α:Type}
def WL{α:Type}(l:List α)(p:List α->Bool):Nat->Nat->Option (List α)
 |_,0=>none
 |m,n+1=>match(TM.parts l m).find? p with
  |some x=>some x
  |none=>WL l p (m+1) n
def N8(l:List α)(p:List α->Bool)(m n:Nat):WL l p m (n+1)=match(TM.parts l m).find? p with
  |some x=>some x
  |none=>WL l p (m+1) n:=rfl
variable{T:Type}{S:Sys prog T}{U:Qa T}{I:Nat->Qa T->Prop}{E:Qa T->Prop}{a:Option Addr}{l:List Int}
def qU(l:List (Int×Int))(la:Option Addr)(lc:Nat)(Q:Q7 U.frz la l.length 2 l (λ x vs=>vs=encII x))(hl:l.length<=1000)(many:Nat)(hm:many<=1000)(g:FuncId)(first w:Array Value)(hg:(prog.funcs[g]?.any λ fd=>fd.body.isSome&&fd.name != "runtime.NumGoroutine")=true)
  (Z:∀k U1 U2,U1.le U2->I k U1->I k U2) (ae:GA S g first w encII 2 (TM.parts l many) I E U) (hI:I 0 U) :
  Qb S 88 #[.agg #[.slice la l.length lc],.int .i64 many,.func (.func g) first w] (λ v U'=>(v=.bool false/\U.frz.lg U'.frz/\I (TM.parts l many).length U')\/(v=.bool true/\E U'/\∀x o,U.I x=some o->U'.I x=some o)) U:=by
 refine Qb.post (R:=λ v U'=>(v=.bool false/\U.frz.lg U'.frz/\I (TM.parts l many).length U')\/(v=.bool true/\∃X' f,U'.M=X'++f/\E ⟨U'.I,f,U'.tok⟩/\∀x o,U.I x=some o->U'.I x=some o)) (Qb.of (args:=[_,_,_]) D4 Qf S1 ?_) λ v U' hv=>?_
 .conv=>whnf
  intro b3 U1 ab L;have L:Zi U1 b3 #[.slice la l.length lc]:=L
  conv=>whnf
  intro b4 U2 V N;have N:Zi U2 b4 #[.int .i64 many]:=N
  conv=>whnf
  intro b5 U3 K P;have P:Zi U3 b5 #[.func (.func g) first w]:=P
  conv=>whnf
  intro b7 ad;refine⟨_,.refl _,rfl,Zv (vs:=[.func (.func 113) #[] #[.pb b4,.pb b5,.pb b3,.pb b7]]) ad rfl Zz1 λ U4 G X=>?_⟩;have F:=((ab.trans V).trans K).trans G;have ac:GR U4 l many g first w b4 b5 b3 b7:=⟨N.le (K.trans G),P.le G,⟨la,lc,L.le ((V.trans K).trans G),Q.lg F.lg.frz2 λ _ _ h=>h⟩,X⟩
  refine⟨_,X.sees3 (o:=0) rfl,VY.any,(zp l hl many hm g first w hg Z ae many [] 0 0 .nl U4 [] U4.M S1 O1 F.lg.frz2 ac .nil (λ i' q hq=>by simp_all) (Z 0 U U4 F hI)).mono ?_⟩;rintro v U5 (⟨rfl,Y,f,W,H⟩|⟨rfl,X',f,aa,hE,B⟩) -
  .rcases W with⟨_,_,hM⟩|⟨b,c,len,cap,e1,_⟩
   .rw[Nat.zero_add]at H
    repeat apply R1
    conv=>whnf
    refine .inl ⟨rfl,F.lg.frz2.trans Y,?_⟩;have:U5.M=f:=hM;obtain⟨i5,m5,t5⟩:=U5;simp_all
   .cases e1
  .repeat apply R1
   conv=>whnf
   exact .inr ⟨rfl,X',f,aa,hE,λ x o hx=>B x o (F.imm x o hx)⟩
 .rcases hv with h|⟨rfl,X',f,hM,hE,B⟩
  .exact⟨U',.refl _,.inl h⟩
  .exact⟨{ U' with M:=f },Zx (by simp_all),.inr ⟨rfl,hE,B⟩⟩
def qT(l:List Int)(la:Option Addr)(lc:Nat)(Q:Q7 U.frz la l.length 1 l (λ x vs=>vs=Zy x))(hl:l.length<=1000)(many:Nat)(hm:many<=1000)(g:FuncId)(first w:Array Value)(hg:(prog.funcs[g]?.any λ fd=>fd.body.isSome&&fd.name != "runtime.NumGoroutine")=true)
  (Z:∀k U1 U2,U1.le U2->I k U1->I k U2) (ae:GA S g first w Zy 1 (TM.parts l many) I E U) (hI:I 0 U) :
  Qb S 77 #[.agg #[.slice la l.length lc],.int .i64 many,.func (.func g) first w] (λ v U'=>(v=.bool false/\U.frz.lg U'.frz/\I (TM.parts l many).length U')\/(v=.bool true/\E U'/\∀x o,U.I x=some o->U'.I x=some o)) U:=by
 refine Qb.post (R:=λ v U'=>(v=.bool false/\U.frz.lg U'.frz/\I (TM.parts l many).length U')\/(v=.bool true/\∃X' f,U'.M=X'++f/\E ⟨U'.I,f,U'.tok⟩/\∀x o,U.I x=some o->U'.I x=some o)) (Qb.of (args:=[_,_,_]) UY Qf S1 ?_) λ v U' hv=>?_
 .conv=>whnf
  intro b3 U1 ab L;have L:Zi U1 b3 #[.slice la l.length lc]:=L
  conv=>whnf
  intro b4 U2 V N;have N:Zi U2 b4 #[.int .i64 many]:=N
  conv=>whnf
  intro b5 U3 K P;have P:Zi U3 b5 #[.func (.func g) first w]:=P
  conv=>whnf
  intro b7 ad;refine⟨_,.refl _,rfl,Zv (vs:=[.func (.func 108) #[] #[.pb b4,.pb b5,.pb b3,.pb b7]]) ad rfl Zz1 λ U4 G X=>?_⟩;have F:=((ab.trans V).trans K).trans G;have ac:GQ U4 l many g first w b4 b5 b3 b7:=⟨N.le (K.trans G),P.le G,⟨la,lc,L.le ((V.trans K).trans G),Q.lg F.lg.frz2 λ _ _ h=>h⟩,X⟩
  refine⟨_,X.sees3 (o:=0) rfl,VX.any,(zo l hl many hm g first w hg Z ae many [] 0 0 .nl U4 [] U4.M S1 O1 F.lg.frz2 ac .nil (λ i' q hq=>by simp_all) (Z 0 U U4 F hI)).mono ?_⟩;rintro v U5 (⟨rfl,Y,f,W,H⟩|⟨rfl,X',f,aa,hE,B⟩) -
  .rcases W with⟨_,_,hM⟩|⟨b,c,len,cap,e1,_⟩
   .rw[Nat.zero_add]at H
    repeat apply R1
    conv=>whnf
    refine .inl ⟨rfl,F.lg.frz2.trans Y,?_⟩;have:U5.M=f:=hM;obtain⟨i5,m5,t5⟩:=U5;simp_all
   .cases e1
  .repeat apply R1
   conv=>whnf
   exact .inr ⟨rfl,X',f,aa,hE,λ x o hx=>B x o (F.imm x o hx)⟩
 .rcases hv with h|⟨rfl,X',f,hM,hE,B⟩
  .exact⟨U',.refl _,.inl h⟩
  .exact⟨{ U' with M:=f },Zx (by simp_all),.inr ⟨rfl,hE,B⟩⟩
def S_(S:TM.Sys prog T)(g:FuncId)(first b:Array Value)(p:List Int->Bool)(l:List Int)(U₀:Qa T):Prop:=
 ∀(q:List Int)(a:Option Addr)(cap:Nat)(U:Qa T),q.Sublist l->(∃X f,(∀x o,U₀.I x=some o->f x=some o)/\U=⟨f,X++U₀.M,U₀.tok⟩)->Z6 U.frz a q.length q->Qb S g (first.toList++[Value.slice a q.length cap]++b.toList).toArray (λ v U'=>v=.bool (p q)/\U'=U) U
def xC(h:Q7 U a l.length 1 l (λ x vs=>vs=Zy x)):Z6 U a l.length l:=by
 refine⟨rfl,λ i x hx=>?_⟩;obtain⟨f,vs,e,B,rfl,_,w⟩:=h.2 i x hx;have b:=w 0 (.int .i64 x) rfl;obtain⟨bb,E,F⟩:=f;cases B;refine⟨_,e,rfl,?_⟩;rw[Qo,Qo,Nat.add_zero]at b;rw[Qo];exact b
def E4(l:List Int)(la:Option Addr)(lc:Nat)(ah:Q7 U.frz la l.length 1 l (λ x vs=>vs=Zy x))(hl:l.length<=1000)(Qz2:Nat)(hm:Qz2<=900)(g:FuncId)(first w:Array Value)(hg:(prog.funcs[g]?.any λ fd=>fd.body.isSome&&fd.name != "runtime.NumGoroutine")=true)(p:List Int->Bool)
  (aw:S_ S g first w p l U) :
  Qb S 43 #[.slice la l.length lc,.int .i64 Qz2,.func (.func g) first w] (λ v U'=>(∃v1,v=.tuple #[v1,.bool (WL l p 0 (Qz2+1)).isSome]/\JW U'.frz v1 ((WL l p 0 (Qz2+1)).getD []))/\U.le U') U:=by
 refine Qb.grown (R:=λ v U'=>∃v1,v=.tuple #[v1,.bool (WL l p 0 (Qz2+1)).isSome]/\JW U' v1 ((WL l p 0 (Qz2+1)).getD [])) (λ v N V hl⟨v1,e,h1⟩=>⟨v1,e,h1.lg hl⟩) (Qb.of (args:=[_,_,_]) OQ Qf S1 ?_)
 conv=>whnf
 intro b5 N F af;have af:Zi N b5 #[.func (.func g) first w]:=af;refine⟨I1,?_⟩
 refine⟨Nat,λ i=>[(0,.slice la l.length lc),(5,.pb b5),(11,.int .i64 ((Qz2:Int)+1)),(12,.int .i64 i)],
  λ i U'=>N.frz.lg U'.frz/\(∃X,U'.M=X++U.M)/\i<=Qz2+1/\WL l p 0 (Qz2+1)=WL l p i (Qz2+1-i),λ i=>Qz2+1-i,0,T1,⟨⟨λ _ _ h=>h,⟨[],rfl⟩,rfl⟩,⟨[],by rw[F.own];rfl⟩,O1,rfl⟩,?_⟩
 rintro i f V⟨aa,⟨X,hX⟩,hi,b⟩;have ao:Z9 ((i:Int)+1):=I1
 repeat refine⟨rfl,?_⟩
 conv=>whnf
 apply Qg<;>intro hc
 .have hlt:i<Qz2+1:=by simp at hc;omega
  rw[show Qz2+1-i=(Qz2+1-(i+1))+1 by omega,N8 l p i]at b
  conv=>whnf
  intro P az;refine⟨_,.refl _,?_⟩;have ac:N.frz.lg (V.put P (.cells #[.nl] 29)).frz:=aa;have ak:Zi (V.put P (.cells #[.nl] 29)) b5 #[.func (.func g) first w]:=af.imI aa.imm
  let ps:=TM.parts l i
  let J:Nat->Qa T->Prop:=λ k U'=>N.frz.lg U'.frz/\(∃Q,U'.M=.obj P (.cells #[Q] 29 (0,0))::(X++U.M))/\∀q∈ps.take k,p q=false
  let E:Qa T->Prop:=λ U'=>N.frz.lg U'.frz/\∃Q q,U'.M=.obj P (.cells #[Q] 29 (0,0))::(X++U.M)/\JW U'.frz Q q/\ps.find? p=some q
  have hJ:∀k N V,N.le V->J k N->J k V:=λ k s1 s2 al⟨h1,⟨Q,hv⟩,h3⟩=>⟨h1.trans al.lg.frz2,⟨Q,al.own.trans hv⟩,h3⟩
  have ay:GA S 78 #[] #[.pb P,.pb b5] Zy 1 ps J E (V.put P (.cells #[.nl] 29)):=by
   intro k q qa qc s Xs Mc hq h0 hr ax hM⟨Y,⟨Q,ae⟩,ai⟩;have ae:Mc=.obj P (.cells #[Q] 29 (0,0))::(X++U.M):=ae;subst ae;have aj:Zi s b5 #[.func (.func g) first w]:=ak.imI h0.imm;have ab:=xC hr;have au:=(G8.1 (mem_of_getElem? hq)).1;refine Qb.of (args:=[_,_,_]) UZ Qf S1 ?_;refine⟨rfl,Wd (vs:=[.slice qa q.length qc]) Xs hM rfl Zz1 λ s1 W an Z=>?_⟩;have ag:Zi s1 b5 #[.func (.func g) first w]:=aj.imI λ x o hx=>by rw[W];exact hx
   have hz:s.frz.lg s1.frz:=⟨λ x o hx=>by show s1.I x=_;rw[W];exact hx,⟨[],rfl⟩,an⟩
   have ad:s1.tok=U.tok:=by
    have e1:s.tok=N.tok:=Y.tok;rw[an,e1,F.tok]
   refine⟨_,ag.sees3 (o:=0) rfl,hg,(aw q qa qc s1 au ⟨Xs++(.cl P [.slice qa q.length qc] 29::X),s1.I,λ x o hx=>by rw[W];exact Y.imm x o (F.imm x o hx),by
    obtain⟨i1,m1,t1⟩:=s1;simp_all⟩ (ab.lg hz)).mono ?_⟩
   rintro _ s'⟨rfl,av⟩-;obtain rfl:=av.symm;cases am:p q with
   |false=>
    repeat refine⟨rfl,?_⟩
    conv=>whnf
    refine .inl ⟨rfl,hz,_,Z,⟨Y.trans hz,⟨_,rfl⟩,λ q' L=>?_⟩⟩;rw[Wf hq,mem_append]at L;grind
   |true=>
    repeat refine⟨rfl,?_⟩
    conv=>whnf
    refine .inr ⟨rfl,_,_,Z,⟨Y.trans hz,_,q,rfl,⟨qa,qc,rfl,ab.lg hz,ax.2⟩,?_⟩,λ x o hx=>by rw[W];exact hx⟩;rw[find?_eq_some_iff_getElem];obtain⟨hk,ap⟩:=List.getElem?_eq_some_iff.1 hq;refine⟨am,k,hk,ap,λ j hj=>?_⟩;have:=ai ps[j] (mem_take_iff_getElem.2 ⟨j,O1,rfl⟩);simp[this]
  refine⟨UY.any,(qT (U:=V.put P (.cells #[.nl] 29)) l la lc (ah.lg (F.lg.frz2.trans ac) λ _ _ h=>h) hl i O1 78 #[] #[.pb P,.pb b5] UZ.any hJ ay ⟨ac,⟨_,by show _::V.M=_;rw[hX]⟩,S1⟩).mono ?_⟩;rintro v U3 (⟨rfl,-,B,⟨Q,K⟩,aq⟩|⟨rfl,⟨B,Q,q,K,⟨qa,qc,rfl,ab⟩,G⟩,-⟩) -
  .have H:ps.find? p=none:=by
    rw[find?_eq_none];intro q hq;rw[aq q (by rw[take_length];exact hq)];simp
   have H:(TM.parts l i).find? p=none:=H;rw[H]at b
   repeat refine⟨rfl,?_⟩
   refine⟨ao,?_⟩
   conv=>whnf
   exact⟨rfl,i+1,T1,⟨B,⟨_::X,K⟩,O1,b⟩,L1⟩
  .have G:(TM.parts l i).find? p=some q:=G;rw[G]at b;simp only at b
   repeat refine⟨rfl,?_⟩
   refine⟨_,Q9 [] K 0 _ rfl,?_⟩
   repeat refine⟨rfl,?_⟩
   conv=>whnf
   rw[b];exact⟨⟨_,rfl,⟨qa,qc,rfl,ab⟩⟩,⟨λ x o hx=>B.imm x o (F.imm x o hx),⟨_::X,K⟩,B.tok.trans F.tok⟩⟩
 .have hge:i=Qz2+1:=by simp at hc;omega
  subst hge;rw[Nat.sub_self,WL]at b
  repeat refine⟨rfl,?_⟩
  conv=>whnf
  rw[b];exact⟨⟨_,rfl,.nil⟩,⟨λ x o hx=>aa.imm x o (F.imm x o hx),⟨X,hX⟩,aa.tok.trans F.tok⟩⟩
variable{b:Bk}{y:Cs}{n:Nat}
def JN(a b:Int×Int):Int:=if a=b then 0 else if a.1<b.1\/a.1=b.1/\a.2<b.2 then -1 else 1
def QZ:List (Int×Int)->List (Int×Int)->Int
 |[],[]=>0
 |[],_::_=>-1
 |_::_,[]=>1
 |a::l,b::r=>if JN a b≠0 then JN a b else QZ l r
structure Bk.Srt(b:Bk)(n:Nat):Prop where
 s:∀c∈b.cs,Xh c.af
 l:∀c∈b.cs,c.af.length<=n
def IT{b:Int}:∀{l:List Int}{m:Int},m<b->QV b (some m) l=0->(l.length:Int)<=b-1-m/\l.Pairwise (· < ·)/\∀x∈l,m<x
 |[],m,hm,_=>⟨S3,.nil,S1⟩
 |n::l,m,hm,h=>by
  rw[Ps]at h;split at h
  .rename_i hb;simp only[QP,Bool.and_eq_true,decide_eq_true_eq]at hb;simp only at h;split at h
   .cases h
   .obtain⟨h1,h2,h3⟩:=IT (l:=l) (m:=n) O1 h;refine⟨by rw[length_cons];omega,pairwise_cons.2 ⟨h3,h2⟩,λ x hx=>?_⟩;grind
  .cases h
def pg{b:Int}(hb:0<=b)(h:QV b none l=0):(l.length:Int)<=b/\l.Pairwise (· < ·):=by
 cases l with
 |nil=>simp_all
 |cons n l=>
  rw[Ps]at h;split at h
  .rename_i hb';simp only[QP,Bool.and_eq_true,decide_eq_true_eq]at hb';obtain⟨h1,h2,f⟩:=IT (l:=l) (m:=n) O1 h;exact⟨by grind,pairwise_cons.2 ⟨f,h2⟩⟩
  .cases h
def Bk.Ok.asc(h:b.Ok)(f:y∈b.cs):y.af.length<=5/\y.af.Pairwise (· < ·):=by
 have w:b.nc<=5:=by have:=h.nc;unfold Bk.nc;omega
 obtain⟨h1,h2⟩:=pg (b:=b.nc) (by grind[Bk.nc]) (h.ri y f);exact⟨O1,h2⟩
def Bk.Ok.srt(h:b.Ok):b.Srt 5:=⟨λ c f=>(h.asc f).2.imp λ h=>Int.le_of_lt h,λ c f=>(h.asc f).1⟩
def Bk.Ok.sml(h:b.Ok):b.Sml:=by
 have h1:=h.nr;have h2:=h.nc;refine⟨O1,O1,λ c f=>⟨?_,λ g w=>?_,?_⟩⟩
 .have:=h.gl c f;omega
 .have:=(h.gs c f g w).1;omega
 .have:=(h.asc f).1;omega
def Bk.Srt.sty{b:Bk}{n:Nat}(h:b.Srt n)(s:Int×Int)(B:s.1.toNat<b.cs.length):(b.sty s).Srt (n+1):=by
 have w:b.cas s.1.toNat∈b.cs:=by
  simp only[Bk.cas,getD_eq_getElem?_getD,getElem?_eq_getElem B,Option.getD_some];exact getElem_mem B
 refine⟨λ c f=>?_,λ c f=>?_⟩
 .rcases mem_or_eq_of_mem_set f with h1|rfl
  .exact h.s c h1
  .exact Sf _ _ (h.s _ w)
 .rcases mem_or_eq_of_mem_set f with h1|rfl
  .have:=h.l c h1;omega
  .have:=h.l _ w;show(ZB _ _).length<=_;rw[(VV _ _).length_eq];simp;omega
def Bk.sty_len(b:Bk)(s:Int×Int):(b.sty s).cs.length=b.cs.length:=by simp[Bk.sty]
def Bk.stys_snoc(b:Bk)(l:List (Int×Int))(s:Int×Int):b.stys (l++[s])=(b.stys l).sty s:=by simp[Bk.stys]
def Bk.stys_len(b:Bk)(l:List (Int×Int)):(b.stys l).cs.length=b.cs.length:=by
 induction l generalizing b with
 |nil=>rfl
 |cons s l f=>exact(f (b.sty s)).trans (b.sty_len s)
def Bk.stys_srt(h:b.Srt n):∀(l:List (Int×Int)),(∀s∈l,s.1.toNat<b.cs.length)->(b.stys l).Srt (n+l.length):=by
 intro l
 induction l generalizing b n with
 |nil=>exact λ _=>h
 |cons s l w=>
  intro hl;have:=w (h.sty s (hl s S1)) λ B f=>by rw[b.sty_len];grind
  rw[length_cons,show n+(l.length+1)=n+1+l.length by omega];exact this
def E0(h:BH)(b:Bk)(hb:Zr U.frz h b)(aa:b.cs.length<=1000):Qb S 44 #[h.v] (λ v U'=>Jw U'.frz v ((range b.cs.length).map λ(k:Nat)=>(k:Int))/\U.le U') U:=by
 refine Qb.ints (e:=3) (Qb.of (args:=[_]) OR Qf S1 ?_);have Z:=hb.cs.1
 repeat refine⟨rfl,?_⟩
 conv=>whnf
 intro B X G N;have N:Zi X B #[.slice h.ra h.rl h.rc,.slice h.ca h.cl h.cc]:=N;refine⟨_,N.sees3 (o:=1) rfl,Nat×Value,λ y=>[(3,y.2),(8,.int .i64 h.cl),(9,.int .i64 y.1)],λ y U'=>(∀x o,U.I x=some o->U'.I x=some o)/\U'.tok=U.tok/\Acc 3 1 y.2 (((range y.1).map λ(k:Nat)=>(k:Int)).map λ n=>.int .i64 n) U'.M U.M/\y.1<=h.cl,λ y=>h.cl-y.1,(0,.nl),T1,⟨G.imm,G.tok,by rw[G.own];exact .nil,O1⟩,?_⟩;rintro⟨i,v⟩f Y⟨V,ht,w,hi⟩;simp only at w hi;obtain⟨sa,sl,sc,rfl,ab,-⟩:=Acc.src (U:=Y) w;have Q:Z9 ((i:Int)+1):=I1
 repeat refine⟨rfl,?_⟩
 conv=>whnf
 apply Qg<;>intro W
 .have hlt:i<h.cl:=by simpa using W
  conv=>whnf
  intro L K;refine Zl K λ T H E=>?_;have E:Zi T L #[.int .i64 i]:=E
  conv=>whnf
  refine Wn (v:=.slice sa sl sc) (cs:=((range i).map λ(k:Nat)=>(k:Int)).map λ n=>.int .i64 n) (new:=[.int .i64 (i:Int)]) (M₀:=U.M) H4 rfl rfl (by rw[H.own];exact w) (.inr ⟨_,rfl,E.rd⟩) rfl Zz1 S3 λ v' M' P _=>?_;have F:Acc 3 1 v' (((range (i+1)).map λ(k:Nat)=>(k:Int)).map λ n=>.int .i64 n) M' U.M:=by rw[range_succ,map_append,map_append];exact P
  obtain⟨ta,tl,tc,rfl,-,-⟩:=Acc.src (U:={ T with M:=M' }) F;refine⟨Q,?_⟩
  conv=>whnf
  exact⟨rfl,(i+1,.slice ta tl tc),T1,⟨λ x o h=>H.imm x o (V x o h),H.tok.trans ht,F,by show i+1<=h.cl;omega⟩,L1⟩
 .have hge:i=b.cs.length:=by simp at W;omega
  subst hge
  repeat refine⟨rfl,?_⟩
  conv=>whnf
  exact⟨w,V,ht⟩
def Da:Ge prog 75 (YA prog 75):=.of K1
def qH(x y:Int×Int):Qb S 95 #[.agg #[.int .i64 x.1,.int .i64 x.2],.agg #[.int .i64 y.1,.int .i64 y.2]] (λ v U'=>v=.int .i64 (JN x y)/\U'=U) U:=by
 obtain⟨a,b⟩:=x;obtain⟨c,d⟩:=y;refine Qb.pure' (Qb.of (args:=[_,_]) D8 Qf S1 ?_)
 repeat refine⟨rfl,?_⟩
 conv=>whnf
 intro L I G f;have f:Zi I L #[.int .i64 a,.int .i64 b]:=f
 conv=>whnf
 intro M K F h;have h:Zi K M #[.int .i64 c,.int .i64 d]:=h;have f:=f.le F;have w:=(G.trans F).lg;refine⟨_,⟨rfl,f.rd⟩,?_⟩;refine⟨_,⟨rfl,h.rd⟩,?_⟩
 conv=>whnf
 refine pE Da (vs:=[.int .i64 a,.int .i64 b]) (ws:=[.int .i64 c,.int .i64 d]) rfl rfl K1 K1 ?_
 have H:ZF [.int .i64 a,.int .i64 b] [.int .i64 c,.int .i64 d]=decide ((a,b)=(c,d)):=by
  simp[ZF,HY,Prod.mk.injEq,Bool.decide_and];rfl
 rw[H];by_cases e:(a,b)=(c,d)
 .have B:JN (a,b) (c,d)=0:=by unfold JN;rw[if_pos e]
  rw[decide_eq_true e,B]
  repeat refine⟨rfl,?_⟩
  conv=>whnf
  exact w
 rw[decide_eq_false e];have N:¬(a=c/\b=d):=λ⟨h1,h2⟩=>e (by rw[h1,h2]);refine⟨_,f.sees3 (o:=0) rfl,_,h.sees3 (o:=0) rfl,?_⟩
 repeat refine⟨rfl,?_⟩
 conv=>whnf
 apply Jt<;>intro E
 .have h1:¬a<c:=by simpa using E
  refine⟨_,f.sees3 (o:=0) rfl,_,h.sees3 (o:=0) rfl,?_⟩
  repeat refine⟨rfl,?_⟩
  conv=>whnf
  apply Jt<;>intro E
  .have h2:a=c:=by simpa using E
   refine⟨_,f.sees3 (o:=1) rfl,_,h.sees3 (o:=1) rfl,?_⟩
   repeat refine⟨rfl,?_⟩
   conv=>whnf
   apply Qg<;>intro E
   .have h3:b<d:=by simpa using E
    have B:JN (a,b) (c,d) = -1:=by unfold JN;rw[if_neg e,if_pos (.inr ⟨h2,h3⟩)]
    rw[B]
    repeat refine⟨rfl,?_⟩
    conv=>whnf
    exact w
   .have h3:¬b<d:=by simpa using E
    have B:JN (a,b) (c,d)=1:=by unfold JN;rw[if_neg e,if_neg (Zz2)]
    rw[B]
    repeat refine⟨rfl,?_⟩
    conv=>whnf
    exact w
  .have h2:a≠c:=by simpa using E
   have B:JN (a,b) (c,d)=1:=by unfold JN;rw[if_neg e,if_neg (Zz2)]
   rw[B]
   repeat refine⟨rfl,?_⟩
   conv=>whnf
   exact w
 .have h1:a<c:=by simpa using E
  have B:JN (a,b) (c,d) = -1:=by unfold JN;rw[if_neg e,if_pos (.inl h1)]
  rw[B]
  repeat refine⟨rfl,?_⟩
  conv=>whnf
  exact w
variable{U':Qa T}{L:Addr}{v:Value}{h:BH}{M₀:List Qw}{F:Qw}{k:Nat}
def Qa.sees.mem(h:U.sees L v)(f:∀x o,U.I x=some o->U'.I x=some o)(b:∀r∈U.M,r∈U'.M):U'.sees L v:=
 ⟨h.1,h.2.imp (λ⟨c,t,fr,x,y⟩=>⟨c,t,fr,x.imp (f _ _) (b _),y⟩) λ⟨t,n,x⟩=>⟨t,n,b _ x⟩⟩
def Je.mem{a:Addr}{vs:List Value}(h:Je U a vs)(b:∀x o,U.I x=some o->U'.I x=some o)(f:∀r∈U.M,r∈U'.M):Je U' a vs:=λ i v w=>(h i v w).mem b f
def Q7.mem{a:Option Addr}{len n:Nat}{α:Type}{l:List α}{R:α->List Value->Prop}(h:Q7 U a len n l R)(b:∀x o,U.I x=some o->U'.I x=some o)(f:∀r∈U.M,r∈U'.M):Q7 U' a len n l R:=
 ⟨h.1,λ i x hx=>let ⟨ad,vs,e,s,r,hl,hr⟩:=h.2 i x hx;⟨ad,vs,e,s,r,hl,hr.mem b f⟩⟩
def Src.mem{a:Option Addr}{cs:List Value}(h:Src U a cs)(f:∀x o,U.I x=some o->U'.I x=some o)(w:∀r∈U.M,r∈U'.M):Src U' a cs:=h.imp id λ⟨b,e,r⟩=>⟨b,e,r.mem f w⟩
def QS.mem(k:QS U h b M₀):∀r∈M₀,r∈U.M:=by
 obtain⟨ps,A,-,-,-,f⟩:=k.ex;grind
def QS.imI(k:QS U h b M₀)(f:∀x o,U.I x=some o->U'.I x=some o)(ht:U'.tok=U.tok)(w:U'.M.Perm U.M):QS U' h b M₀:=
 have hl:U.frz.lg U'.frz:=⟨f,⟨[],rfl⟩,ht⟩
 let ⟨ps,A,h1,h2,h3,h4⟩:=k.ex
 ⟨⟨ps,A,h1,λ p hp=>(h2 p hp).lg hl,h3,w.trans h4⟩,k.rs.lg hl λ _ _ h=>h,k.rl,k.rn,k.rc⟩
def QS.pick(k:QS U h b (F::M₀)):∃X Y,U.M=X++F::Y/\(∀(U':Qa T)o',(∀x q,U.I x=some q->U'.I x=some q)->U'.tok=U.tok->U'.M=X++o'::Y->QS U' h b (o'::M₀))/\(X++Y).Sublist U.M/\QS { U with M:=X++Y } h b M₀:=by
 obtain⟨X,Y,e⟩:=append_of_mem (k.mem F S1);obtain⟨ps,A,h1,h2,f,E⟩:=k.ex
 have hp:(X++Y).Perm (A++(ps.flatMap (·.2.F)++M₀)):=by
  have w:(F::(X++Y)).Perm U.M:=by rw[e];exact perm_middle.symm
  have B:(A++(ps.flatMap (·.2.F)++F::M₀)).Perm (F::(A++(ps.flatMap (·.2.F)++M₀))):=by
   rw[<- append_assoc,<- append_assoc];exact perm_middle
  exact(w.trans (E.trans B)).cons_inv
 refine⟨X,Y,e,λ U' o' G ht H=>?_,?_,⟨⟨ps,A,h1,λ p hp=>(h2 p hp).lg ⟨λ _ _ h=>h,⟨[],rfl⟩,rfl⟩,f,hp⟩,k.rs.lg ⟨λ _ _ h=>h,⟨[],rfl⟩,rfl⟩ λ _ _ h=>h,k.rl,k.rn,k.rc⟩⟩
 .have hl:U.frz.lg U'.frz:=⟨G,⟨[],rfl⟩,ht⟩;refine⟨⟨ps,A,h1,λ p hp=>(h2 p hp).lg hl,f,?_⟩,k.rs.lg hl λ _ _ h=>h,k.rl,k.rn,k.rc⟩;rw[H];refine perm_middle.trans ((hp.cons o').trans ?_);rw[<- append_assoc,<- append_assoc];exact perm_middle.symm
 simp_all
def pH(a b:Int×Int)(l r:List (Int×Int)):QZ (a::l) (b::r)=if JN a b≠0 then JN a b else QZ l r:=rfl
def pI(a:Int×Int)(l:List (Int×Int)):QZ (a::l) []=1:=rfl
def pJ(b:Int×Int)(r:List (Int×Int)):QZ [] (b::r) = -1:=rfl
def pK:QZ [] []=0:=rfl
def Bk.cas_mem(h:k<b.cs.length):b.cas k∈b.cs:=by
 simp only[Bk.cas,getD_eq_getElem?_getD,getElem?_eq_getElem h,Option.getD_some];exact getElem_mem h
def zC(l r:List (Int×Int))(a a':Option Addr)(c c':Nat)(hl:Q7 U a l.length 2 l (λ x vs=>vs=encII x))(hr:Q7 U a' r.length 2 r (λ x vs=>vs=encII x))(h1:l.length<=1000)(h2:r.length<=1000) :
  Qb S 94 #[.slice a l.length c,.slice a' r.length c',.func (.func 95) #[] #[]] (λ v U'=>v=.int .i64 (QZ l r)/\U'=U) U:=by
 refine Qb.pure' (Qb.of (args:=[_,_,_]) D7 Qf S1 ?_)
 refine⟨Nat,λ i=>[(0,.slice a l.length c),(1,.slice a' r.length c'),(2,.func (.func 95) #[] #[]),(11,.slice a l.length c),(12,.int .i64 l.length),(13,.int .i64 i)],
  λ i U'=>U.lg U'/\i<=l.length/\i<=r.length/\QZ l r=QZ (l.drop i) (r.drop i),λ i=>l.length-i,0,T1,⟨(Qa.le.refl _).lg,O1,O1,rfl⟩,?_⟩
 rintro i f U1⟨F,hi,aa,b⟩;have T:Z9 ((i:Int)+1):=I1
 repeat refine⟨rfl,?_⟩
 conv=>whnf
 apply Qg<;>intro B
 .have hlt:i<l.length:=by simpa using B
  obtain⟨Y,x,vs,hx,rfl,ab,rfl,-,V⟩:=(hl.lg F λ _ _ h=>h).at hlt;rw[Hl hx]at b;refine⟨Y,i,⟨rfl,rfl,hlt⟩,_,⟨rfl,V⟩,?_⟩
  conv=>whnf
  intro Z P;refine⟨_,.refl _,rfl,Zv (vs:=encII x) P rfl (by simp[encII,Value.single]) λ U2 M H=>?_⟩;have w:=F.trans M.lg
  repeat refine⟨rfl,?_⟩
  conv=>whnf
  apply Qg<;>intro B
  .have hge:r.length<=i:=by simpa using B
   rw[drop_eq_nil_of_le hge,pI]at b;rw[b]
   repeat refine⟨rfl,?_⟩
   simp_all
  have G:i<r.length:=by simp at B;omega
  obtain⟨L,y,vs,hy,rfl,W,rfl,-,K⟩:=(hr.lg w λ _ _ h=>h).at G;rw[Hl hy,pH]at b;refine⟨L,i,⟨rfl,rfl,G⟩,_,⟨rfl,K⟩,?_⟩
  conv=>whnf
  intro b9 Q;refine⟨_,.refl _,rfl,Zv (vs:=encII y) Q rfl (by simp[encII,Value.single]) λ X I N=>?_⟩;have E:=w.trans I.lg;have H:Zi X Z (encII x).toArray:=H.le I;refine⟨_,⟨rfl,H.rd⟩,?_⟩;refine⟨_,⟨rfl,N.rd⟩,?_⟩;refine⟨D8.any,(qH x y).go λ _=>?_⟩
  repeat refine⟨rfl,?_⟩
  conv=>whnf
  apply Qg<;>intro B
  .have hne:JN x y≠0:=by simpa using B
   rw[if_pos hne]at b;rw[b]
   repeat refine⟨rfl,?_⟩
   simp_all
  .have hne:¬JN x y≠0:=by simpa using B
   rw[if_neg hne]at b
   repeat refine⟨rfl,?_⟩
   refine⟨T,?_⟩
   conv=>whnf
   exact⟨rfl,i+1,T1,⟨E,O1,O1,b⟩,L1⟩
 .have hge:i=l.length:=by simp at B;omega
  subst hge;rw[drop_length]at b
  repeat refine⟨rfl,?_⟩
  conv=>whnf
  apply Qg<;>intro B
  .have hlt:l.length<r.length:=by simpa using B
   have:r.drop l.length=r[l.length]::r.drop (l.length+1):=drop_eq_getElem_cons hlt;rw[this,pJ]at b;rw[b]
   repeat refine⟨rfl,?_⟩
   simp_all
  .have hge:r.length<=l.length:=by simp at B;omega
   rw[drop_eq_nil_of_le hge,pK]at b;rw[b]
   repeat refine⟨rfl,?_⟩
   simp_all
def qQ(h:BH)(b:Bk)(hb:Zr U.frz h b)(hs:b.Sml)(l:List (Int×Int))(a:Option Addr)(c:Nat)(hl:Q7 U a l.length 2 l (λ x vs=>vs=encII x))(a4:l.length<=6)(al:b.Srt 5)(ah:∀s∈l,0<=s.1/\s.1.toNat<b.cs.length) :
  Qb S 90 #[h.v,.slice a l.length c] (λ v U'=>(∃w:BH,v=w.v/\QS U' w (b.stys l) U.M)/\(∀x o,U.I x=some o->U'.I x=some o)/\U'.tok=U.tok) U:=by
 have aq:Qb S 90 #[h.v,.slice a l.length c] (λ v U'=>(∃(w:BH)(o:Qw),v=w.v/\QS U' w (b.stys l) (o::U.M))/\(∀x o,U.I x=some o->U'.I x=some o)/\U'.tok=U.tok) U:=by
  refine Qb.of (args:=[_,_]) D6 Qf S1 ?_
  repeat refine⟨rfl,?_⟩
  conv=>whnf
  intro B U1 G hB;have hB:Zi U1 B #[.slice h.ra h.rl h.rc,.slice h.ca h.cl h.cc]:=hB
  conv=>whnf
  intro W a5;refine⟨_,.refl _,?_⟩;have ab:=Z2 (U:=U1) W (.cells #[.nl,.nl] 92);refine⟨_,⟨rfl,(hB.lg ab).rd⟩,?_⟩;refine⟨FC.any,(N4 (S:=S) (U:=U1.put W (.cells #[.nl,.nl] 92)) h b (hb.lg (G.lg.frz2.trans ab.frz2)) hs).mono ?_⟩;rintro _ U2⟨⟨w,rfl,F⟩,L,T⟩-;have au:∀x o,U.I x=some o->U2.I x=some o:=λ x o hx=>L x o (G.imm x o hx);have a2:U2.tok=U.tok:=T.trans G.tok
  have F:QS U2 w b (.cl W [.nl,.nl] 92::U.M):=by
   have e:(U1.put W (.cells #[.nl,.nl] 92)).M=.cl W [.nl,.nl] 92::U.M:=by show _::U1.M=_;rw[G.own]
   rw[<- e];exact F
  clear ab L T
  conv=>whnf
  intro b5 aw;refine⟨_,.refl _,rfl,Zv (vs:=[.slice w.ra w.rl w.rc,.slice w.ca w.cl w.cc]) aw rfl Zz1 λ U3 Z K=>?_⟩;have K:Zi U3 b5 #[.slice w.ra w.rl w.rc,.slice w.ca w.cl w.cc]:=K
  refine⟨Nat,λ i=>[(1,.slice a l.length c),(4,.pb W),(5,.pb b5),(10,.slice a l.length c),(11,.int .i64 l.length),(12,.int .i64 i)],
   λ i U'=>U3.frz.lg U'/\i<=l.length/\QS U' w (b.stys (l.take i)) (.cl W [.nl,.nl] 92::U.M),λ i=>l.length-i,0,T1,⟨⟨λ _ _ h=>h,Zz3,rfl⟩,O1,F.le Z⟩,?_⟩
  rintro i f U4⟨E,hi,F⟩;have ai:Z9 ((i:Int)+1):=I1
  have ac:∀x o,U.I x=some o->U4.I x=some o:=λ x o hx=>E.imm x o (Z.imm x o (au x o hx))
  repeat refine⟨rfl,?_⟩
  conv=>whnf
  apply Qg<;>intro hc
  .have hlt:i<l.length:=by simpa using hc
   obtain⟨ad,x,vs,hx,rfl,a6,rfl,-,a1⟩:=(hl.mem ac λ r hr=>F.mem r (mem_cons_of_mem _ hr)).at hlt;obtain⟨a7,ap⟩:=ah x (mem_of_getElem? hx);refine⟨ad,i,⟨rfl,rfl,hlt⟩,_,⟨rfl,a1⟩,?_⟩
   conv=>whnf
   intro b7 ax;refine⟨_,.refl _,rfl,Zv (vs:=encII x) ax rfl (by simp[encII,Value.single]) λ U5 H av=>?_⟩;have ag:Zi U5 b5 #[.slice w.ra w.rl w.rc,.slice w.ca w.cl w.cc]:=K.imI λ x o hx=>H.imm x o (E.imm x o hx);refine⟨_,⟨rfl,ag.rd⟩,?_⟩;refine⟨_,⟨rfl,av.rd⟩,?_⟩;have ak:=Bk.stys_srt al (l.take i) λ s hs=>(ah s (mem_of_mem_take hs)).2;have Q:=Bk.cas_mem (b:=b.stys (l.take i)) (k:=x.1.toNat) (by rw[Bk.stys_len];exact ap);have ay:=ak.l _ Q;have a3:((x.1.toNat:Nat):Int)=x.1:=O1
   have am:=zO (S:=S) (U:=U5) w (b.stys (l.take i)) _ (F.le H) x.1.toNat x.2 (by rw[Bk.stys_len];exact ap) (ak.s _ Q) (by grind);rw[a3]at am;refine⟨FD.any,am.mono ?_⟩;rintro v U6⟨a0,ae,ao⟩-;have aa:U3.frz.lg U6:=⟨λ x o hx=>ae x o (H.imm x o (E.imm x o hx)),Zz3,ao.trans (H.tok.trans E.tok)⟩;refine⟨ai,?_⟩
   conv=>whnf
   exact⟨rfl,i+1,T1,⟨aa,O1,by rw[Wf hx,Bk.stys_snoc];exact a0⟩,L1⟩
  .have hge:i=l.length:=by simp at hc;omega
   subst hge;rw[take_length]at F;have af:Zi U4 b5 #[.slice w.ra w.rl w.rc,.slice w.ca w.cl w.cc]:=K.imI E.imm;obtain⟨X,Y,hM,aj,-,-⟩:=F.pick;refine⟨_,⟨rfl,af.rd⟩,?_⟩;refine⟨rfl,Wd (vs:=[.slice w.ra w.rl w.rc,.slice w.ca w.cl w.cc]) X hM rfl Zz1 λ U5 N V P=>?_⟩;refine⟨_,⟨rfl,Q9 X P⟩,⟨w,_,rfl,aj U5 _ (λ x q hx=>by rw[N];exact hx) V P⟩,λ x o hx=>by simp_all,?_⟩;rw[V];exact E.tok.trans (Z.tok.trans a2)
 refine aq.post λ v U'⟨⟨w,o,hv,F⟩,hI,ht⟩=>?_;obtain⟨X,Y,-,-,an,az⟩:=F.pick;exact⟨_,Zx an,⟨w,hv,az⟩,hI,ht⟩
variable{i:Nat}
def Bk.canI(b:Bk)(i m:Nat):List (Int×Int):=((range m).filter λ k=>k != i&&!(b.cas i).af.contains (k:Int)).map λ(k:Nat)=>((i:Int),(k:Int))
def Bk.cansTo(b:Bk)(i:Nat):List (Int×Int):=(range i).flatMap λ i=>b.canI i b.cs.length
def Bk.cansTo_all(b:Bk):b.cansTo b.cs.length=b.cans:=rfl
def Bk.cansTo_succ(b:Bk)(i:Nat):b.cansTo (i+1)=b.cansTo i++b.canI i b.cs.length:=by simp[Bk.cansTo,range_succ]
def Bk.canI_succ(b:Bk)(i m:Nat):b.canI i (m+1)=b.canI i m++(if(m != i&&!(b.cas i).af.contains (m:Int))=true then[((i:Int),(m:Int))]else[]):=by
 unfold Bk.canI;rw[range_succ,filter_append,map_append];grind
def Bk.canI_len(b:Bk)(i m:Nat):(b.canI i m).length<=m:=by
 unfold Bk.canI;grind
def Bk.cansTo_len(b:Bk):∀i,(b.cansTo i).length<=i*b.cs.length
 |0=>by simp[Bk.cansTo]
 |i+1=>by
  rw[Bk.cansTo_succ,length_append,Nat.succ_mul];have:=b.cansTo_len i;have:=b.canI_len i b.cs.length;omega
def Bk.cas_at(h:b.cs[i]?=some y):b.cas i=y:=by simp[Bk.cas,getD_eq_getElem?_getD,h]
def MD(h:BH)(b:Bk)(hb:Zr U.frz h b)(aq:b.cs.length<=5):Qb S 85 #[h.v] (λ v U'=>(∃a c,v=.slice a b.cans.length c/\Q7 U'.frz a b.cans.length 2 b.cans (λ x vs=>vs=encII x)/\b.cans.length<=c/\∀ad,a=some ad->ad.spot=none)/\U.le U') U:=by
 have a1:=hb.cs.1
 have ak:Qb S 85 #[h.v] (λ v U'=>Acc 75 2 v (b.cans.flatMap encII) U'.M U.M/\(∀x o,U.I x=some o->U'.I x=some o)/\U'.tok=U.tok) U:=by
  refine Qb.of (args:=[_]) D0 Qf S1 ?_
  repeat refine⟨rfl,?_⟩
  conv=>whnf
  intro B U1 L hB;have hB:Zi U1 B #[.slice h.ra h.rl h.rc,.slice h.ca h.cl h.cc]:=hB;refine⟨_,hB.sees3 (o:=1) rfl,Nat×Value,λ y=>[(1,.pb B),(3,y.2),(9,.slice h.ca h.cl h.cc),(10,.int .i64 h.cl),(11,.int .i64 y.1)],λ y U'=>U1.frz.lg U'/\Acc 75 2 y.2 ((b.cansTo y.1).flatMap encII) U'.M U.M/\y.1<=h.cl,λ y=>h.cl-y.1,(0,.nl),T1,⟨⟨λ _ _ h=>h,Zz3,rfl⟩,by rw[L.own];exact .nil,O1⟩,?_⟩;rintro⟨i,v⟩f U2⟨N,w,hi⟩;simp only at w hi;obtain⟨sa,sl,sc,rfl,a5,-⟩:=Acc.src (U:=U2) w;have aw:Z9 ((i:Int)+1):=I1
  have ab:U.frz.lg U2.frz:=L.lg.frz2.trans N.frz2
  repeat refine⟨rfl,?_⟩
  conv=>whnf
  apply Qg<;>intro Q
  .have hlt:i<h.cl:=by simpa using Q
   obtain⟨ad,c,ga,gl,gc,aa,al,ac,hx,au,az,ax,-,-,ha,ao,ay⟩:=(hb.lg ab).case hlt;have X:=Bk.cas_at hx;refine⟨ad,i,⟨au,rfl,hlt⟩,_,⟨rfl,ax.lg Qr⟩,?_⟩
   conv=>whnf
   intro b5 av;refine⟨_,.refl _,rfl,Zv (vs:=[.string c.nm,.int .i64 c.ag,.slice ga gl gc,.slice aa al ac]) av rfl Zz1 λ U3 T ap=>?_⟩;have G:=N.trans T.lg;refine⟨_,(hB.imI G.imm).sees3 (o:=1) rfl,Nat×Value,λ y=>[(1,.pb B),(3,y.2),(4,.int .i64 i),(5,.pb b5),(9,.slice h.ca h.cl h.cc),(10,.int .i64 h.cl),(11,.int .i64 i),(19,.int .i64 h.cl),(20,.int .i64 y.1)],λ y U'=>U3.frz.lg U'/\Acc 75 2 y.2 ((b.cansTo i++b.canI i y.1).flatMap encII) U'.M U.M/\y.1<=h.cl,λ y=>h.cl-y.1,(0,.slice sa sl sc),T1,⟨⟨λ _ _ h=>h,Zz3,rfl⟩,by rw[T.own];grind[Bk.canI],O1⟩,?_⟩;rintro⟨k,v⟩f U4⟨E,w,hk⟩;simp only at w hk;obtain⟨ua,ul,uc,rfl,a6,-⟩:=Acc.src (U:=U4) w;have K:Z9 ((k:Int)+1):=I1
   have F:=b.canI_succ i k;rw[X]at F;have a2:=b.cansTo_len i;have a3:=b.canI_len i k;have a4:i*b.cs.length<=5*5:=Nat.mul_le_mul O1 aq;have ae:U1.frz.lg U4:=⟨λ x o hx=>E.imm x o (G.imm x o hx),Zz3,E.tok.trans G.tok⟩
   repeat refine⟨rfl,?_⟩
   conv=>whnf
   apply Qg<;>intro Q
   .have hkt:k<h.cl:=by simpa using Q
    repeat refine⟨rfl,?_⟩
    conv=>whnf
    apply Jt<;>intro Q
    .have hne:(k != i)=true:=by simp at Q ⊢;omega
     refine⟨_,(ap.imI E.imm).sees3 (o:=3) rfl,OP.any,(DE aa al ac c.af ((ha.lg (T.lg.frz2.trans E.frz2)).lg Qr) ao (k:Int)).go λ _=>?_⟩;rw[hne,Bool.true_and]at F;cases Y:c.af.contains (k:Int)with
     |true=>
      rw[Y]at F
      repeat refine⟨rfl,?_⟩
      refine⟨K,?_⟩
      conv=>whnf
      exact⟨rfl,(k+1,.slice ua ul uc),T1,⟨E,by simp_all,by grind⟩,L1⟩
     |false=>
      rw[Y]at F
      conv=>whnf
      intro am Z;refine Zl Z λ U5 V H=>?_;have H:Zi U5 am (encII ((i:Int),(k:Int))).toArray:=H
      conv=>whnf
      refine Wn (v:=.slice ua ul uc) (cs:=(b.cansTo i++b.canI i k).flatMap encII) (new:=encII ((i:Int),(k:Int))) (M₀:=U.M) K4 rfl rfl (by rw[V.own];exact w) (.inr ⟨_,rfl,H.rd⟩) rfl (by simp[encII,Value.single]) (by
       rw[Qz (f:=encII) (n:=2) (λ _=>rfl)];simp[encII];omega) λ v' M' an _=>?_
      have P:Acc 75 2 v' ((b.cansTo i++b.canI i (k+1)).flatMap encII) M' U.M:=by
       rw[F];simpa using an
      obtain⟨ta,tl,tc,rfl,-,-⟩:=Acc.src (U:={ U5 with M:=M' }) P;refine⟨K,?_⟩
      conv=>whnf
      exact⟨rfl,(k+1,.slice ta tl tc),T1,⟨⟨λ x o hx=>V.imm x o (E.imm x o hx),Zz3,V.tok.trans E.tok⟩,P,by grind⟩,L1⟩
    .have hne:(k != i)=false:=by simp at Q ⊢;omega
     rw[hne,Bool.false_and]at F
     repeat refine⟨rfl,?_⟩
     refine⟨K,?_⟩
     conv=>whnf
     exact⟨rfl,(k+1,.slice ua ul uc),T1,⟨E,by simp_all,by grind⟩,L1⟩
   .have hge:k=b.cs.length:=by simp at Q;omega
    subst hge;rw[<- Bk.cansTo_succ]at w;refine⟨aw,?_⟩
    conv=>whnf
    exact⟨rfl,(i+1,.slice ua ul uc),T1,⟨ae,w,by grind⟩,L1⟩
  .have hge:i=b.cs.length:=by simp at Q;omega
   subst hge;rw[Bk.cansTo_all]at w
   repeat refine⟨rfl,?_⟩
   conv=>whnf
   exact⟨w,λ x o hx=>N.imm x o (L.imm x o hx),N.tok.trans L.tok⟩
 refine ak.sep λ v U' hs⟨ha,hI,ht⟩=>?_
 have W:∀a l c,v=.slice a l c->l<=c:=λ a l c e=>by
  rcases ha with⟨e1,_,_⟩|⟨b',c',a0,cap',e1,_,g2,_⟩
  .rw[e1]at e;cases e;exact Nat.le_refl _
  simp_all
 obtain⟨U'',k1,k2,a,len,cap,rfl,hl,aj,ai,_⟩:=ha.freeze hs hI ht;have ah:b.cans.length=len:=by have e:=(Qz (f:=encII) (n:=2) (λ _=>rfl) b.cans).symm.trans hl;omega
 subst ah;exact⟨U'',k1,⟨a,cap,rfl,HG (enc:=encII) (n:=2) (λ _=>rfl) aj ai D1,W _ _ _ rfl,ai⟩,k2⟩
variable{e t:TypeId}{vs:List Value}{M L₁ L₂ Y:List Qw}{c:Array Value}{Q:Qa T->Prop}{o:Obj}{m p q r:Nat}{K W:List Nat}{ky j:Nat->Int}{vl d:Nat->Value}{P:Program}{g g':Nat->List Int}{f:Nat->Bool}
def Jy{b:Nat}(h:Qw.obj b (.cells vs.toArray e (0,0))∈U.M):Je U ⟨b,0,none⟩ vs:=by
 obtain⟨X,Y,f⟩:=append_of_mem h;exact Q9 X f
def SK(h:M.Perm (L₁++F::L₂)):∃X Y,M=X++F::Y/\(X++Y).Perm (L₁++L₂):=by
 obtain⟨X,Y,e⟩:=append_of_mem (h.mem_iff.2 S1:F∈M);refine⟨X,Y,e,?_⟩;have b:(F::(X++Y)).Perm M:=by rw[e];exact perm_middle.symm
 exact(b.trans (h.trans perm_middle)).cons_inv
def Ui(h:(M₀++Y).Perm (L₁++L₂))(r:Qw):(M₀++r::Y).Perm (L₁++r::L₂):=perm_middle.trans ((h.cons r).trans perm_middle.symm)
def kJ{b:Nat}(H:U.M.Perm (L₁++.obj b (.cells c e (0,0))::L₂))(hi:i<c.size)(L:v.single=true)
  (h:∀f:Qa T,f.I=U.I->f.tok=U.tok->f.M=L₁++.obj b (.cells (c.setIfInBounds i v) e (0,0))::L₂->Q f):QX ((Addr.mk b 0 none).add i) [v] 0 (λ U'=>∃f,Qv U' f/\Q f) U:=by
 obtain⟨X,Y,E,hp⟩:=SK H;refine QX.mono (K:=λ U'=>∃f,Qv U' f/\∃B,Qv f B/\Q B) (λ U'⟨f,h1,B,h2,F⟩=>⟨B,h1.trans h2,F⟩) _ _ _ (WN X E hi L λ f G ht w=>?_);exact⟨{ f with M:=L₁++.obj b (.cells (c.setIfInBounds i v) e (0,0))::L₂ },Wp (by rw[w];exact Ui hp _),h _ G ht rfl⟩
def Ym{b:Nat}(L:U.M.Perm (L₁++.obj b (.cells c e (0,0))::L₂))(E:c.size=vs.length)(N:∀v∈vs,v.single=true)
  (h:∀f:Qa T,f.I=U.I->f.tok=U.tok->f.M=L₁++.obj b (.cells vs.toArray e (0,0))::L₂->Q f):QX ⟨b,0,none⟩ vs 0 (λ U'=>∃f,Qv U' f/\Q f) U:=by
 obtain⟨X,Y,F,hp⟩:=SK L;refine QX.mono (K:=λ U'=>∃f,Qv U' f/\∃B,Qv f B/\Q B) (λ U'⟨f,h1,B,h2,G⟩=>⟨B,h1.trans h2,G⟩) _ _ _ (Wd X F E N λ f H ht w=>?_);exact⟨{ f with M:=L₁++.obj b (.cells vs.toArray e (0,0))::L₂ },Wp (by rw[w];exact Ui hp _),h _ H ht rfl⟩
def kq{b:Nat}(h:M.Perm (L₁++.obj b o::L₂)):∃M':Obj->List Qw,∀o',J0 b o' o M (M' o')/\(M' o').Perm (L₁++.obj b o'::L₂):=by
 obtain⟨X,Y,e,hp⟩:=SK h;exact⟨λ o'=>X++.obj b o'::Y,λ o'=>⟨by rw[e];exact Pb .here X,Ui hp _⟩⟩
def jw{M':List Qw}(hf:U.free m)(hp:U.M.Perm (M'++M₀))(h:∀f:Qa T,(∀x o,U.I x=some o->f.I x=some o)->f.tok=U.tok->f.M=M'->Zi f m c->Q f):∃f,Qv (U.put m (.cells c t)) f/\Q f:=
 ⟨_,(Wa (b:=m) (M':=U.M) (Perm.refl _)).trans (IC (M':=M') ⟨M₀,hp⟩),h _ (Gv (o:=.cells c t) hf).imm rfl rfl Zi.new⟩
def ZR(L:List Nat):List Value:=L.map λ n=>.int .i64 (n:Nat)
def Do(L:List Nat):(ZR L).length=L.length:=by simp[ZR]
def IQ(h:i<K.length):(ZR K)[i]?=some (.int .i64 (K.getD i 0:Nat)):=by
 simp[ZR,getD_eq_getElem?_getD,getElem?_eq_getElem h]
def Dp(L:List Nat)(i v:Nat):(ZR L).toArray.setIfInBounds i (.int .i64 (v:Nat))=(ZR (L.set i v)).toArray:=by
 simp[ZR,map_set]
def xw(n:Nat):replicate n (Value.int .i64 0)=ZR (replicate n 0):=by simp[ZR]
abbrev QQ:Int->Value:=λ k=>.int .i64 k
def JF(m:Nat)(ky:Nat->Int)(vl:Nat->Value):List (Int×Value):=(range m).map λ p=>(ky p,vl p)
def Dz(m:Nat)(ky:Nat->Int)(vl:Nat->Value):(JF m ky vl).length=m:=by simp[JF]
def II(m:Nat)(ky:Nat->Int)(vl:Nat->Value):JF (m+1) ky vl=JF m ky vl++[(ky m,vl m)]:=by simp[JF,range_succ]
def SY(h:p<m):(JF m ky vl)[p]?=some (ky p,vl p):=by simp[JF,h]
def jE(h:∀p,p<m->ky p=j p/\vl p=d p):JF m ky vl=JF m j d:=
 map_congr_left λ p hp=>by simp_all
def Lj{κ:Type}[DecidableEq κ]{k:κ}{v:Value}:∀{l:List (κ×Value)}(i:Nat),l.Pairwise (λ a b=>a.1≠b.1)->(k,v)∈l->(QL k l i).map (·.2)=some v
 |[],_,_,h=>by cases h
 |p::l,i,hp,h=>by
  obtain⟨h1,h2⟩:=pairwise_cons.1 hp;simp only[QL];rcases mem_cons.1 h with e|h
  .subst e;simp
  .rw[if_neg λ e=>h1 _ h e.symm];exact Lj (i+1) h2 h
def Ll{κ:Type}[DecidableEq κ]{k:κ}:∀{l:List (κ×Value)}(i:Nat),(∀p∈l,p.1≠k)->QL k l i=none
 |[],_,_=>rfl
 |p::l,i,h=>by
  simp only[QL];rw[if_neg λ e=>h p S1 e.symm];exact Ll (i+1) λ q b=>h q (by simp[b])
def Lo(h:p<m)(hi:∀q r,q<m->r<m->ky q=ky r->q=r):lk (ky p) (JF m ky vl)=some (vl p):=by
 refine Lj 0 ?_ (mem_of_getElem? (SY h));unfold JF;rw[pairwise_map];refine Pairwise.imp_of_mem (R:=λ a b=>a≠b) (λ{a b}ha hb f e=>f (hi a b (by simpa using ha) (by simpa using hb) e)) nodup_range
def YN{k:Int}(h:∀q,q<m->ky q≠k):lk k (JF m ky vl)=none/\∀v,ZA k v (JF m ky vl)=JF m ky vl++[(k,v)]:=by
 have:QL k (JF m ky vl) 0=none:=Ll 0 λ p hp=>by
  grind[JF]
 exact⟨by grind[lk],λ v=>Sg this⟩
def PD:WI T prog 3 QQ:=by
 have b:prog.underlying 3=some (.int .i64):=K1
 exact .simple b rfl (λ k k'=>by simp[Instr.sameNow];rfl) (λ k=>by simp[Instr.sameBits])
def VO:prog.underlying 143=some (.map 3 3):=K1
def OF:prog.underlying 130=some (.map 3 53):=K1
def xS:Xb prog 53=some (.int .i64 0):=K1
def Eg(h:Z6 U a l.length l):Q7 U a l.length 1 l (λ x vs=>vs=[.int .i64 x]):=by
 refine⟨rfl,λ i x hx=>?_⟩;obtain⟨f,e,w,B⟩:=h.2 i x hx;refine⟨f,_,e,w,rfl,rfl,λ k v b=>?_⟩;cases k with
 |zero=>
  simp at b;subst b;obtain⟨bb,E,F⟩:=f;cases w;rw[Qo]at B;rw[Qo,Qo,Nat.add_zero];exact B
 |succ k=>simp at b
def Bk.setA(b:Bk)(q:Nat)(l:List Int):Bk:=⟨b.rs,b.cs.set q { b.cas q with af:=l }⟩
structure kw(U:Qa T)(h:BH)(b:Bk)(M₀:List Qw)(q:Nat)(a0:Option Addr)(l0 c0:Nat)(kF:List Qw)(cb:Nat)(cc:Array Value)(rest:List Qw):Prop where
 ca:h.ca=some ⟨cb,0,none⟩
 lt:q<h.cl
 sz:q*4+3<cc.size
 at3:cc.toList[q*4+3]?=some (.slice a0 l0 c0)
 acc:Jo 3 1 (.slice a0 l0 c0) ((b.cas q).af.map λ n=>.int .i64 n) kF
 len:(b.cas q).af.length<=1000
 pm:U.M.Perm (kF++(.obj cb (.cells cc.toList.toArray 44 (0,0))::(rest++M₀)))
 back:∀(U':Qa T)(v':Value)(F':List Qw)(l':List Int)(M0':List Qw),U.frz.lg U'.frz->Jo 3 1 v' (l'.map λ n=>.int .i64 n) F'->l'.length<=1000->U'.M.Perm (F'++(.obj cb (.cells (cc.setIfInBounds (q*4+3) v') 44 (0,0))::(rest++M0')))->QS U' h (b.setA q l') M0'
section
variable{S:Sys P T}
def QS.openC(ho:QS U h b M₀)(hq:q<b.cs.length):∃P l0 c0 N cb cc rest,kw U h b M₀ q P l0 c0 N cb cc rest:=by
 obtain⟨ps,A,L,K,T,hM⟩:=ho.ex;have ak:q<ps.length:=by rw[<- L,length_map]at hq;exact hq
 obtain⟨p,hp⟩:∃p,ps[q]?=some p:=⟨_,getElem?_eq_getElem ak⟩;obtain⟨X,Y,rfl,hX,ad⟩:=Dy hp;obtain⟨c,ag,ai,ah,kv,N⟩:=p
 have w:b.cas q=c:=by
  have:=congrArg (λ l=>l[q]?) L;simp only[getElem?_map,hp]at this;simp[Bk.cas,getD_eq_getElem?_getD,<- this]
 have E:=K _ (mem_of_getElem? hp);obtain⟨P,l0,c0,e0,am⟩:=E.af.src;obtain rfl:kv=.slice P l0 c0:=e0;have hF:Jo 3 1 (.slice P l0 c0) (c.af.map λ n=>.int .i64 n) N:=E.af;obtain⟨cb,cc,S,Q,I,aa,ab,H,rfl,Z⟩:=T.blk (by simp[Q_]);have aj:h.cl=S:=by have:=Value.slice.inj I;exact this.2.1
 have V:h.ca=some ⟨cb,0,none⟩:=by have:=Value.slice.inj I;exact this.1
 have W:h.cc=Q:=by have:=Value.slice.inj I;exact this.2.2
 have B:=aa;rw[Qz Zz]at B;have ac:q<h.cl:=O1
 have ae:q*4+3<cc.size:=by rw[H];omega
 refine⟨P,l0,c0,N,cb,cc,X.flatMap (·.2.F)++Y.flatMap (·.2.F),⟨V,ac,ae,?_,by rw[w];exact hF,by rw[w];exact E.al,?_,?_⟩⟩
 .rw[Array.getElem?_toList];exact Z _ _ (P7 Zz hp (by omega:3<4))
 .refine hM.trans ?_;rw[flatMap_append,flatMap_cons];show Perm (.obj cb (.cells cc 44 (0,0))::(X.flatMap (·.2.F)++(N++Y.flatMap (·.2.F))++M₀)) _;refine Perm.trans (Perm.cons _ ?_) perm_middle.symm;rw[<- append_assoc N];grind[Perm.append_right,append_assoc,perm_append_comm]
 .intro U' v' F' l' M0' hz hF' hl' hM';refine⟨⟨X++({ c with af:=l' },⟨ag,ai,ah,v',F'⟩)::Y,[.obj cb (.cells (cc.setIfInBounds (q*4+3) v') 44 (0,0))],?_,?_,?_,?_⟩,ho.rs.lg hz λ _ _ h=>h,ho.rl,ho.rn,ho.rc⟩
  .show _=(b.cs.set q { b.cas q with af:=l' });grind
  .intro r M;rw[mem_append,mem_cons]at M;rcases M with M|rfl|M
   .exact(K r (by simp[M])).lg hz
   .have:=E.lg hz;exact⟨this.gs,this.gl,hF',this.nm,hl'⟩
   .exact(K r (by simp[M])).lg hz
  .rw[V,aj,W];refine .ofBlk ?_ ab (by simp[H]) λ i x hx=>?_
   .rw[Qz Zz];simpa using B
   .have hlen1:(X.flatMap Q_).length=q*4:=by rw[Qz Zz,hX]
    rw[Array.getElem?_setIfInBounds];rw[flatMap_append,flatMap_cons]at hx;have G:=Z i;rw[flatMap_append,flatMap_cons]at G;by_cases e:q*4+3=i
    .subst e;rw[if_pos rfl,if_pos ae];rw[getElem?_append_right O1,hlen1,Nat.add_sub_cancel_left,getElem?_append_left (by rw[Zz];omega)]at hx;exact hx
    .rw[if_neg e];refine G x ?_;by_cases h1:i<q*4
     .grind
     .rw[getElem?_append_right O1,hlen1]at hx ⊢;by_cases h2:i-q*4<4
      .rw[getElem?_append_left (by rw[Zz];exact h2)]at hx ⊢;have:i-q*4=0\/i-q*4=1\/i-q*4=2:=O1
       rcases this with e|e|e <;> rw[e]at hx ⊢ <;> exact hx
      .rw[getElem?_append_right (by rw[Zz];omega)]at hx ⊢;exact hx
  .refine hM'.trans ?_;rw[flatMap_append,flatMap_cons];show Perm _ (.obj cb _::(X.flatMap (·.2.F)++(F'++Y.flatMap (·.2.F))++M0'));refine Perm.trans perm_middle (Perm.cons _ ?_);rw[<- append_assoc F'];grind[Perm.append_right,append_assoc,perm_append_comm]
end
def Bk.woL(b:Bk)(K:List Nat)(g:Nat->List Int):List Cs:=(range K.length).map λ p=>{ b.cas (K.getD p 0)with af:=g p }
def Bk.woL_len(b:Bk)(K:List Nat)(g:Nat->List Int):(b.woL K g).length=K.length:=by simp[Bk.woL]
def Bk.woL_at(h:q<K.length):(b.woL K g)[q]?=some { b.cas (K.getD q 0)with af:=g q }:=by simp[Bk.woL,h]
def Bk.woL_set(h:q<K.length)(l:List Int):(Bk.mk b.rs (b.woL K g)).setA q l=Bk.mk b.rs (b.woL K λ p=>if p=q then l else g p):=by
 have f:(Bk.mk b.rs (b.woL K g)).cas q={ b.cas (K.getD q 0)with af:=g q }:=Bk.cas_at (Bk.woL_at h);unfold Bk.setA;rw[f];congr 1;apply ext_getElem?;intro i;rw[getElem?_set];by_cases e:q=i
 .subst e;rw[if_pos rfl,if_pos (by rw[Bk.woL_len];exact h),Bk.woL_at h,if_pos rfl]
 .rw[if_neg e];by_cases hi:i<K.length
  .rw[Bk.woL_at hi,Bk.woL_at hi,if_neg (Ne.symm e)]
  .rw[getElem?_eq_none (by rw[Bk.woL_len];omega),getElem?_eq_none (by rw[Bk.woL_len];omega)]
def Bk.woL_snoc(b:Bk)(K:List Nat)(k:Nat):b.woL (K++[k]) (λ _=>[])=b.woL K (λ _=>[])++[{ b.cas k with af:=[] }]:=by
 unfold Bk.woL;rw[length_append,length_cons,length_nil,range_succ,map_append];congr 1
 .refine map_congr_left λ p hp=>?_;rw[mem_range]at hp;rw[getD_eq_getElem?_getD,getElem?_append_left hp,<- getD_eq_getElem?_getD]
 simp_all
def Bk.woL_congr(h:∀p,p<K.length->g p=g' p):b.woL K g=b.woL K g':=
 map_congr_left λ p hp=>by simp_all
def Bk.wo_woL(w:∀i,i<b.cs.length->∀k,(W.getD i 0).testBit k=QN b.A f b.cs.length i k) :
  b.wo f=Bk.mk b.rs (b.woL (Bk.kpt f b.cs.length) λ p=>Bk.afK f (W.getD ((Bk.kpt f b.cs.length).getD p 0) 0) b.cs.length):=by
 have h:=Bk.wo_cs (out:=f) b W w;have:b.wo f=Bk.mk b.rs (b.wo f).cs:=rfl;rw[this,h];congr 1;unfold Bk.woL;apply ext_getElem?;intro i;rw[Bk.kpt_all];grind
abbrev J_(mb b h f:Nat)(r v:Value)(E:List (Int×Value))(L:List Nat)(M:List Qw):List Qw:=
 .obj mb (Qt QQ E)::.cl b [r,v] 38::.obj h (.cells (ZR L).toArray 3 (0,0))::.cl f [.nl,.nl] 92::M
def Jn(K:List Nat):List (Int×Value):=JF K.length (λ p=>(K.getD p 0:Nat)) λ p=>.int .i64 (p:Nat)
def Db(K:List Nat):(Jn K).length=K.length:=Dz _ _ _
def Ld(h:p<K.length):(Jn K)[p]?=some (((K.getD p 0:Nat):Int),.int .i64 (p:Nat)):=SY h
def gU(b:K.Nodup)(f:q<K.length)(w:r<K.length)(h:K.getD q 0=K.getD r 0):q=r:=by
 simp only[getD_eq_getElem?_getD,getElem?_eq_getElem f,getElem?_eq_getElem w,Option.getD_some]at h;exact(getElem_inj b).1 h
def Se(b:q<K.length):K.getD q 0∈K:=by
 simp_all
def xr(h:k∉K):ZA ((k:Nat):Int) (.int .i64 (K.length:Nat)) (Jn K)=Jn (K++[k]):=by
 have h1:=(YN (m:=K.length) (k:=((k:Nat):Int)) (ky:=λ p=>(K.getD p 0:Nat)) (vl:=λ p=>.int .i64 (p:Nat)) λ q b e=>h (by
  have e':K.getD q 0=k:=Int.ofNat.inj e;rw[<- e'];exact Se b)).2 (.int .i64 (K.length:Nat))
 unfold Jn;rw[h1,length_append,length_cons,length_nil,II];congr 1
 .refine jE λ p hp=>⟨?_,rfl⟩;rw[getD_eq_getElem?_getD,getD_eq_getElem?_getD,getElem?_append_left hp]
 simp_all
def pX(b:K.Nodup)(hp:p<K.length):lk ((K.getD p 0:Nat):Int) (Jn K)=some (.int .i64 (p:Nat)):=
 Lo (m:=K.length) (ky:=λ p=>((K.getD p 0:Nat):Int)) (vl:=λ p=>.int .i64 (p:Nat)) hp λ q r f h e=>gU b f h (Int.ofNat.inj e)
def gX(h:k∉K):lk ((k:Nat):Int) (Jn K)=none:=
 (YN (m:=K.length) (ky:=λ p=>((K.getD p 0:Nat):Int)) (vl:=λ p=>.int .i64 (p:Nat)) λ q b e=>h (by
  grind[Int.ofNat.inj])).1
def Lg{f:Nat->Bool}{j:Nat}:∀{n:Nat},j<=n->∃Y,Bk.kpt f n=Bk.kpt f j++Y
 |0,h=>⟨[],by simp_all⟩
 |n+1,h=>by
  by_cases e:j=n+1
  .simp_all
  .obtain⟨Y,hY⟩:=Lg (f:=f) (j:=j) (n:=n) O1;cases hf:f n with
   |true=>exact⟨Y,by rw[Bk.kpt_out hf,hY]⟩
   |false=>exact⟨Y++[n],by rw[Bk.kpt_in hf,hY,append_assoc]⟩
def p_(h:m<n)(hf:f m=false):(Bk.kpt f m).length<(Bk.kpt f n).length/\(Bk.kpt f n).getD (Bk.kpt f m).length 0=m:=by
 obtain⟨Y,b⟩:=Lg (f:=f) (show m+1<=n by omega);rw[Bk.kpt_in hf]at b;simp_all
def DN(h:BH)(b:Bk)(hb:Zr U.frz h b)(a8:b.Ok)(o:Nat)(ho:o<2^60):Qb S 46 #[h.v,.int .i64 o] (λ v U'=>(∃h':BH,v=h'.v/\Zr U'.frz h' (b.wo o.testBit)/\h'.rl<=h'.rc)/\U.le U') U:=by
 have bo:=hb.cs.1;have f0:=hb.rs.1;have fx:=a8.nc;have fy:=a8.nr;obtain⟨i3,fe,ff,fg,f2⟩:=IP;generalize dl:GP o.testBit b.cs.length b.cs.length (b.A.map Z4)=W;have hW:=a8.wlW o.testBit;rw[dl]at hW
 have dm:WB b.cs.length 5 (b.A.map Z4):=⟨by simp[b.A_length],λ x hx=>by
  obtain⟨l,hl,rfl⟩:=mem_map.1 hx;refine Nat.lt_of_lt_of_le (pG (n:=5) λ k hk=>?_) (Nat.le_refl _);simp only[Bk.A,mem_map]at hl;obtain⟨c,hc,rfl⟩:=hl;obtain⟨n,hn,rfl⟩:=mem_map.1 hk;have:=a8.af c hc n hn;grind[Bk.nc]⟩
 have ei:Qb S 46 #[h.v,.int .i64 o] (λ v U'=>(∃(h':BH)(Z:List Qw),v=h'.v/\QS U' h' (b.wo o.testBit) (Z++U.M))/\(∀x q,U.I x=some q->U'.I x=some q)/\U'.tok=U.tok) U:=by
  refine Qb.of (args:=[_,_]) OS Qf S1 ?_
  repeat refine⟨rfl,?_⟩
  conv=>whnf
  intro B U1 bn hB;have hB:Zi U1 B #[.slice h.ra h.rl h.rc,.slice h.ca h.cl h.cc]:=hB
  conv=>whnf
  intro V ft;refine⟨_,.refl _,?_⟩;have d2:=Z2 (U:=U1) V (.cells #[.nl,.nl] 92);refine⟨_,(hB.lg d2).sees3 (o:=1) rfl,?_⟩
  conv=>whnf
  refine Ee (n:=h.cl) Px fe ff rfl fg O1 rfl rfl O1 λ N f1=>?_;have cg:=d2.trans (Z2 (U:=U1.put V (.cells #[.nl,.nl] 92)) N (.cells (replicate h.cl (Value.int .i64 0)).toArray 3));refine⟨_,(hB.lg cg).sees3 (o:=1) rfl,Nat,λ i=>[(1,.int .i64 o),(2,.pb B),(4,.pb V),(5,.slice (some ⟨N,0,none⟩) h.cl h.cl),(26,.slice h.ca h.cl h.cc),(27,.int .i64 h.cl),(28,.int .i64 i)],
   λ i U'=>U1.frz.lg U'/\i<=h.cl/\U'.M=.obj N (.cells (ZR (Xz (b.A.map Z4) h.cl i)).toArray 3 (0,0))::.cl V [.nl,.nl] 92::U.M,λ i=>h.cl-i,0,T1,⟨Qr.trans cg,O1,?_⟩,?_⟩
  .rw[jo,<- xw];show _::_::U1.M=_;rw[bn.own]
  rintro i f U2⟨P,hi,hM⟩;have a5:Z9 ((i:Int)+1):=I1
  repeat refine⟨rfl,?_⟩
  conv=>whnf
  apply Qg<;>intro hc
  .have hlt:i<h.cl:=by simpa using hc
   obtain⟨ad,c,ga,gl,gc,aa,al,ac,hx,c2,ee,bg,-,-,ha,dp,ax⟩:=(hb.lg (bn.lg.frz2.trans P.frz2)).case hlt;have cy:=a8.toLow.lt ax;refine⟨ad,i,⟨c2,rfl,hlt⟩,_,⟨rfl,bg.lg Qr⟩,?_⟩
   conv=>whnf
   intro b7 et;refine⟨_,.refl _,rfl,Zv (vs:=[.string c.nm,.int .i64 c.ag,.slice ga gl gc,.slice aa al ac]) et rfl Zz1 λ U3 aq er=>?_⟩;refine⟨_,er.sees3 (o:=3) rfl,XO.any,(Z8 aa al ac c.af ((ha.lg aq.lg.frz2).lg Qr) dp cy).go λ _=>?_⟩;have ep:(b.A.map Z4)[i]?=some (Z4 (c.af.map Int.toNat)):=by simp[Bk.A,hx]
   have ev:=xg (X:=b.A.map Z4) (n:=h.cl) (i:=i) (by simp[b.A_length,bo]) hi;refine⟨⟨N,0,none⟩,i,⟨rfl,rfl,hlt⟩,rfl,?_⟩;rw[Nat.mul_one];refine WN (i:=i) (v:=.int .i64 (Z4 (c.af.map Int.toNat):Nat)) [] (aq.own.trans hM) (by simp[Do,ev];omega) rfl λ U4 dd fa ay=>?_;rw[Dp,xh ep (by simp[b.A_length,bo])]at ay;refine⟨a5,?_⟩
   conv=>whnf
   exact⟨rfl,i+1,T1,⟨⟨λ x q hx=>by rw[dd];exact aq.imm x q (P.imm x q hx),Zz3,fa.trans (aq.tok.trans P.tok)⟩,O1,ay⟩,L1⟩
  have aj:i=h.cl:=by simp at hc;omega
  subst aj;rw[wy (by simp[b.A_length,bo])]at hM;refine⟨_,(hB.imI P.imm).sees3 (o:=1) rfl,Nat×List Nat,λ y=>[(1,.int .i64 o),(2,.pb B),(4,.pb V),(5,.slice (some ⟨N,0,none⟩) h.cl h.cl),(43,.int .i64 h.cl),(44,.int .i64 y.1)],
   λ y U'=>U1.frz.lg U'/\y.1<=h.cl/\U'.M=.obj N (.cells (ZR y.2).toArray 3 (0,0))::.cl V [.nl,.nl] 92::U.M/\WB h.cl 5 y.2/\GP o.testBit h.cl (h.cl-y.1) y.2=W,λ y=>h.cl-y.1,(0,b.A.map Z4),T1,⟨P,O1,hM,by simp_all,by rw[<- dl,bo];rfl⟩,?_⟩
  clear hM P a5 hi;rintro⟨r,L⟩f U2⟨P,hr,hM,bm,a6⟩;simp only at hr hM bm a6;have dz:Z9 ((r:Int)+1):=I1
  repeat refine⟨rfl,?_⟩
  conv=>whnf
  apply Qg<;>intro hc
  .have hrt:r<h.cl:=by simpa using hc
   rw[show h.cl-r=(h.cl-(r+1))+1 by omega]at a6
   refine⟨Nat,λ i=>[(1,.int .i64 o),(2,.pb B),(4,.pb V),(5,.slice (some ⟨N,0,none⟩) h.cl h.cl),(43,.int .i64 h.cl),(44,.int .i64 r),(47,.int .i64 h.cl),(48,.int .i64 i)],
    λ i U'=>U1.frz.lg U'/\i<=h.cl/\U'.M=.obj N (.cells (ZR (XG o.testBit h.cl L i)).toArray 3 (0,0))::.cl V [.nl,.nl] 92::U.M,λ i=>h.cl-i,0,T1,⟨P,O1,hM⟩,?_⟩
   rintro i f U3⟨ab,hi,av⟩;have a5:Z9 ((i:Int)+1):=I1
   have eg:=bm.rto (out:=o.testBit) i
   repeat refine⟨rfl,?_⟩
   conv=>whnf
   apply Qg<;>intro hc
   .have hit:i<h.cl:=by simpa using hc
    refine⟨_,(hB.imI ab.imm).sees3 (o:=1) rfl,Nat,λ k=>[(1,.int .i64 o),(2,.pb B),(4,.pb V),(5,.slice (some ⟨N,0,none⟩) h.cl h.cl),(8,.int .i64 i),(43,.int .i64 h.cl),(44,.int .i64 r),(47,.int .i64 h.cl),(48,.int .i64 i),(54,.int .i64 h.cl),(55,.int .i64 k)],
     λ k U'=>U1.frz.lg U'/\k<=h.cl/\U'.M=.obj N (.cells (ZR (H3 o.testBit i (XG o.testBit h.cl L i) k)).toArray 3 (0,0))::.cl V [.nl,.nl] 92::U.M,λ k=>h.cl-k,0,T1,⟨ab,O1,av⟩,?_⟩
    rintro k f U4⟨ao,hk,ay⟩;have ak:Z9 ((k:Int)+1):=I1
    have b5:=eg.to (out:=o.testBit) (i:=i) k;have Q:=Ik o.testBit i (XG o.testBit h.cl L i) k;generalize df:H3 o.testBit i (XG o.testBit h.cl L i) k=Lk at ay b5 Q;unfold WS at Q;have bq:∀j,Lk.getD j 0<2^60:=λ j=>Nat.lt_trans (b5.at j) D1
    have bg:∀j,j<h.cl->U4.sees ((Addr.mk N 0 none).add (j*1)) (.int .i64 (Lk.getD j 0:Nat)):=λ j hj=>by
     rw[Nat.mul_one];exact Q9 [] ay j _ (IQ (by rw[b5.len];exact hj))
    repeat refine⟨rfl,?_⟩
    conv=>whnf
    apply Qg<;>intro hc
    .have hkt:k<h.cl:=by simpa using hc
     have a4:=HT (bq i) (show k<60 by omega);have bt:=HT ho (show k<60 by omega);refine⟨⟨N,0,none⟩,i,⟨rfl,rfl,hit⟩,_,bg i hit,O1,?_⟩
     repeat refine⟨rfl,?_⟩
     conv=>whnf
     apply Jt<;>intro hc
     .have hb1:(Lk.getD i 0).testBit k=true:=a4.symm.trans hc;rw[hb1,Bool.true_and]at Q;refine⟨O1,?_⟩
      repeat refine⟨rfl,?_⟩
      conv=>whnf
      apply Qg<;>intro hc
      .have hb2:o.testBit k=true:=bt.symm.trans hc;rw[if_pos hb2]at Q;refine⟨⟨N,0,none⟩,i,⟨rfl,rfl,hit⟩,_,bg i hit,⟨N,0,none⟩,k,⟨rfl,rfl,hkt⟩,_,bg k hkt,?_⟩
       conv=>whnf
       intro U5 cv _;refine⟨rfl,⟨N,0,none⟩,i,⟨rfl,rfl,hit⟩,rfl,?_⟩;rw[Nat.mul_one];refine WN (i:=i) [] (cv.own.trans ay) (by simp[Do,b5.len];omega) rfl λ U6 de ef dh=>?_
       have dg:U6.M=.obj N (.cells (ZR (H3 o.testBit i (XG o.testBit h.cl L i) (k+1))).toArray 3 (0,0))::.cl V [.nl,.nl] 92::U.M:=by
        rw[Q,<- Dp,<- Uo (bq i) (bq k)];exact dh
       refine⟨ak,?_⟩
       conv=>whnf
       exact⟨rfl,k+1,T1,⟨⟨λ x q hx=>by rw[de];exact cv.imm x q (ao.imm x q hx),Zz3,ef.trans (cv.tok.trans ao.tok)⟩,O1,dg⟩,L1⟩
      .have hb2:o.testBit k=false:=bt.symm.trans hc;rw[hb2,if_neg S1]at Q;refine⟨ak,?_⟩
       conv=>whnf
       exact⟨rfl,k+1,T1,⟨ao,O1,by rw[Q];exact ay⟩,L1⟩
     .have hb1:(Lk.getD i 0).testBit k=false:=a4.symm.trans hc;rw[hb1,Bool.false_and,if_neg S1]at Q;refine⟨ak,?_⟩
      conv=>whnf
      exact⟨rfl,k+1,T1,⟨ao,O1,by rw[Q];exact ay⟩,L1⟩
    .have aj:k=h.cl:=by simp at hc;omega
     subst aj;rw[DC,<- Im]at df;subst df;refine⟨a5,?_⟩
     conv=>whnf
     exact⟨rfl,i+1,T1,⟨ao,O1,ay⟩,L1⟩
   .have aj:i=h.cl:=by simp at hc;omega
    subst aj;refine⟨dz,?_⟩
    conv=>whnf
    exact⟨rfl,(r+1,XG o.testBit h.cl L h.cl),T1,⟨ab,by grind,av,eg,a6⟩,L1⟩
  have aj:r=h.cl:=by simp at hc;omega
  subst aj;rw[Nat.sub_self]at a6;obtain rfl:L=W:=a6;have bq:∀j,L.getD j 0<2^60:=λ j=>Nat.lt_trans (bm.at j) D1;have dw:U.frz.lg U2.frz:=bn.lg.frz2.trans P.frz2;refine⟨_,(hB.imI P.imm).sees3 (o:=0) rfl,To.any,(DR h.ra h.rl h.rc b.rs ((hb.rs.lg dw λ _ _ h=>h).lg Qr λ _ _ h=>h) O1).mono ?_⟩;rintro _ U3⟨⟨ra,rl,rc,rfl,c7,ec⟩,aq⟩-
  conv=>whnf
  intro E du;refine⟨_,.refl _,rfl,HO (vs:=[.slice ra rl rc,.nl]) rfl Zz1 ?_⟩
  conv=>whnf
  refine P3 QQ λ mb e5=>?_;have ab:U1.frz.lg U3:=P.trans aq.lg;have fl:=ec.1
  let K:Nat->List Nat:=λ j=>Bk.kpt o.testBit j
  have av:((U3.put E (.cells [.slice ra rl rc,.nl].toArray 38)).put mb (Qt QQ [])).M=J_ mb E N V (.slice ra rl rc) .nl (Jn (K 0)) L U.M:=by
   show _::_::U3.M=_;rw[aq.own,hM];rfl
  have bj:U1.frz.lg ((U3.put E (.cells [.slice ra rl rc,.nl].toArray 38)).put mb (Qt QQ [])):=⟨ab.imm,Zz3,ab.tok⟩;have bz:Q7 ((U3.put E (.cells [.slice ra rl rc,.nl].toArray 38)).put mb (Qt QQ [])).frz ra rl 1 b.rs λ s vs=>vs=[.string s]:=ec;generalize((U3.put E (.cells [.slice ra rl rc,.nl].toArray 38)).put mb (Qt QQ []))=U4 at av bj bz ⊢;refine⟨_,(hB.imI bj.imm).sees3 (o:=1) rfl,Nat×Value,λ y=>[(1,.int .i64 o),(2,.pb B),(4,.pb V),(5,.slice (some ⟨N,0,none⟩) h.cl h.cl),(10,.pb E),(11,.map (some mb)),(94,.slice h.ca h.cl h.cc),(95,.int .i64 h.cl),(96,.int .i64 y.1)],
   λ y U'=>U4.frz.lg U'/\y.1<=h.cl/\∃(ps:List (Cs×ZK))(A:List Qw),ps.map (·.1)=b.woL (K y.1) (λ _=>[])/\(∀p∈ps,WZ U' p/\p.2.F=[])/\Jo 44 4 y.2 (ps.flatMap Q_) A/\U'.M=A++J_ mb E N V (.slice ra rl rc) y.2 (Jn (K y.1)) L U.M,λ y=>h.cl-y.1,(0,.nl),T1,⟨⟨λ _ _ h=>h,Zz3,rfl⟩,O1,[],[],rfl,S1,.nil,av⟩,?_⟩
  clear hM P av aq ab du e5;rintro⟨i,v⟩f U5⟨P,hi,ps,A,bp,ap,aw,hM⟩;simp only at bp aw hM hi;obtain⟨sa,sl,sc,rfl,e8⟩:=aw.src;rw[Qz Zz]at e8
  have fz:ps.length=(K i).length:=by
   have:=congrArg List.length bp
   rwa [length_map,Bk.woL_len]at this
  have fp:(K i).length<=i:=Bk.kpt_len i;have a5:Z9 ((i:Int)+1):=I1
  have an:U1.frz.lg U5:=⟨λ x q hx=>P.imm x q (bj.imm x q hx),Zz3,P.tok.trans bj.tok⟩
  repeat refine⟨rfl,?_⟩
  conv=>whnf
  apply Qg<;>intro hc
  .have hlt:i<h.cl:=by simpa using hc
   have bt:=HT ho (show i<60 by omega);obtain⟨ad,c,ga,gl,gc,aa,al,ac,hx,c2,ee,bg,dy,fu,ha,dp,ax⟩:=(hb.lg (bn.lg.frz2.trans an.frz2)).case hlt;have dq:=Bk.cas_at hx;have ew:=a8.gs c ax;have fi:=a8.gl c ax;have dr:=hb.cn c ax;have fh:=(a8.asc ax).1;have fj:=dy.1;have cf:=ha.1;refine⟨ad,i,⟨c2,rfl,hlt⟩,_,⟨rfl,bg.lg Qr⟩,?_⟩
   conv=>whnf
   intro ai dv;refine⟨_,.refl _,?_⟩;cases a1:o.testBit i with
   |true=>
    have br:K (i+1)=K i:=Bk.kpt_out a1;refine⟨rfl,Zv (vs:=[.string c.nm,.int .i64 c.ag,.slice ga gl gc,.slice aa al ac]) dv rfl Zz1 λ U6 cw _=>?_⟩;refine⟨O1,?_⟩
    repeat refine⟨rfl,?_⟩
    conv=>whnf
    apply Qg<;>intro hc
    .refine⟨a5,?_⟩
     conv=>whnf
     exact⟨rfl,(i+1,.slice sa sl sc),T1,⟨P.trans cw.lg,by show i+1<=h.cl;omega,ps,A,by show _=b.woL (K (i+1)) _;rw[br];exact bp,λ p hp=>⟨(ap p hp).1.lg cw.lg.frz2,(ap p hp).2⟩,aw,by show _=A++J_ mb E N V _ _ (Jn (K (i+1))) L U.M;rw[br];exact cw.own.trans hM⟩,L1⟩
    .have:=bt.symm.trans hc;rw[a1]at this;cases this
   |false=>
    have br:K (i+1)=K i++[i]:=Bk.kpt_in a1;have d5:i∉K i:=λ hm=>absurd (Bk.kpt_lt hm).1 (Nat.lt_irrefl _);refine⟨rfl,HO (vs:=[.string c.nm,.int .i64 c.ag,.slice ga gl gc,.slice aa al ac]) rfl Zz1 ?_⟩
    have cr:(U5.put ai (.cells [.string c.nm,.int .i64 c.ag,.slice ga gl gc,.slice aa al ac].toArray 44)).M=(.cl ai [.string c.nm,.int .i64 c.ag,.slice ga gl gc,.slice aa al ac] 44::A)++J_ mb E N V (.slice ra rl rc) (.slice sa sl sc) (Jn (K i)) L U.M:=by
     show _::U5.M=_;rw[hM];rfl
    have da:U5.frz.lg (U5.put ai (.cells [.string c.nm,.int .i64 c.ag,.slice ga gl gc,.slice aa al ac].toArray 44)):=⟨λ _ _ h=>h,Zz3,rfl⟩;generalize(U5.put ai (.cells [.string c.nm,.int .i64 c.ag,.slice ga gl gc,.slice aa al ac].toArray 44))=U6 at cr da ⊢;refine⟨O1,?_⟩
    repeat refine⟨rfl,?_⟩
    conv=>whnf
    apply Qg<;>intro hc
    .have:=bt.symm.trans hc;rw[a1]at this;cases this
    refine⟨_,(Jy (b:=E) (e:=38) (vs:=[.slice ra rl rc,.slice sa sl sc]) (by rw[cr];simp)).cell (i:=1) rfl,?_⟩
    conv=>whnf
    obtain⟨Mu,dj⟩:=kq (M:=U6.M) (b:=mb) (o:=Qt QQ (Jn (K i))) (L₁:=.cl ai [.string c.nm,.int .i64 c.ag,.slice ga gl gc,.slice aa al ac] 44::A) (L₂:=.cl E [.slice ra rl rc,.slice sa sl sc] 38::.obj N (.cells (ZR L).toArray 3 (0,0))::.cl V [.nl,.nl] 92::U.M) (by rw[cr]);have ed:(.int .i64 (sl:Int):Value)=.int .i64 ((K i).length:Nat):=by rw[show sl=(K i).length by omega]
    refine YL (b:=mb) (k:=((i:Nat):Int)) (l:=Jn (K i)) (v:=.int .i64 sl) (M':=Mu (Qt QQ (Jn (K (i+1))))) PD VO rfl rfl rfl (by rw[ed,xr d5,<- br];exact(dj _).1) ?_;have c6:({ U6 with M:=Mu (Qt QQ (Jn (K (i+1)))) }:Qa T).M.Perm _:=(dj (Qt QQ (Jn (K (i+1))))).2;have b1:U5.frz.lg ({ U6 with M:=Mu (Qt QQ (Jn (K (i+1)))) }:Qa T):=⟨da.imm,Zz3,da.tok⟩;generalize({ U6 with M:=Mu (Qt QQ (Jn (K (i+1)))) }:Qa T)=Ux at c6 b1 ⊢;refine⟨_,⟨rfl,Jy (b:=ai) (e:=44) (vs:=[.string c.nm,.int .i64 c.ag,.slice ga gl gc,.slice aa al ac]) (c6.mem_iff.2 S1)⟩,?_⟩;refine⟨Tp.any,(DM (U:=Ux) c ga aa gl gc al ac (dy.lg b1.frz2) O1 (ha.lg b1.frz2) O1 (λ g hg=>by have:=(ew g hg).1;omega) dr).mono ?_⟩;rintro _ U7⟨⟨⟨a9,bc,ba,kv,kF⟩,rfl,hk,bi⟩,bh,bl⟩-;obtain⟨a0,l0,c0,e0,-⟩:=hk.af.src;obtain rfl:kv=.slice a0 l0 c0:=e0
    have d7:U7.M.Perm (kF++(.cl ai [.string c.nm,.int .i64 c.ag,.slice ga gl gc,.slice aa al ac] 44::(A++J_ mb E N V (.slice ra rl rc) (.slice sa sl sc) (Jn (K (i+1))) L U.M))):=by
     rw[bi];exact Perm.append_left _ c6
    have ek:∀x q,U5.I x=some q->U7.I x=some q:=λ x q hx=>bh x q (b1.imm x q hx);have fb:U7.tok=U5.tok:=bl.trans b1.tok;refine⟨rfl,Ym (vs:=[.string c.nm,.int .i64 c.ag,.slice a9 bc ba,.slice a0 l0 c0]) d7 rfl Zz1 λ U8 b8 ck di=>?_⟩;refine⟨rfl,kJ (b:=ai) (e:=44) (c:=[.string c.nm,.int .i64 c.ag,.slice a9 bc ba,.slice a0 l0 c0].toArray) (L₁:=kF) (L₂:=A++J_ mb E N V (.slice ra rl rc) (.slice sa sl sc) (Jn (K (i+1))) L U.M) (i:=3) (v:=.nl) (by rw[di]) (by show 3<4;omega) rfl λ U9 b9 cm a3=>?_⟩;have a3:U9.M=kF++.cl ai [.string c.nm,.int .i64 c.ag,.slice a9 bc ba,.nl] 44::(A++J_ mb E N V (.slice ra rl rc) (.slice sa sl sc) (Jn (K (i+1))) L U.M):=a3;have db:U5.frz.lg U9.frz:=⟨λ x q hx=>by show U9.I x=_;rw[b9,b8];exact ek x q hx,⟨[],rfl⟩,by show U9.tok=_;rw[cm,ck];exact fb⟩;have eh:U7.frz.lg U9.frz:=⟨λ x q hx=>by show U9.I x=_;rw[b9,b8];exact hx,⟨[],rfl⟩,by show U9.tok=_;rw[cm,ck];rfl⟩;refine⟨_,(Jy (b:=E) (e:=38) (vs:=[.slice ra rl rc,.slice sa sl sc]) (by rw[a3];simp)).cell (i:=1) rfl,?_⟩;refine⟨_,⟨rfl,Jy (b:=ai) (e:=44) (vs:=[.string c.nm,.int .i64 c.ag,.slice a9 bc ba,.nl]) (by rw[a3];simp)⟩,?_⟩
    conv=>whnf
    intro bb eu
    refine jw (M':=A++J_ mb E N V (.slice ra rl rc) (.slice sa sl sc) (Jn (K (i+1))) L U.M) (M₀:=kF++[.cl ai [.string c.nm,.int .i64 c.ag,.slice a9 bc ba,.nl] 44]) eu (by
     rw[a3];refine Perm.trans ?_ perm_append_comm;rw[append_assoc];exact Perm.refl _) λ Ua cp c9 ct c1=>?_
    have b0:U9.frz.lg Ua.frz:=⟨cp,⟨[],rfl⟩,c9⟩;have c1:Zi Ua bb (Q_ (({ c with af:=[] }:Cs),(⟨a9,bc,ba,.nl,[]⟩:ZK))).toArray:=c1
    conv=>whnf
    refine Wn (v:=.slice sa sl sc) (cs:=ps.flatMap Q_) (new:=Q_ (({ c with af:=[] }:Cs),(⟨a9,bc,ba,.nl,[]⟩:ZK))) (M₀:=J_ mb E N V (.slice ra rl rc) (.slice sa sl sc) (Jn (K (i+1))) L U.M) Ie rfl rfl (by rw[ct];exact aw _) (.inr ⟨_,rfl,c1.rd⟩) rfl (by simp[Q_,Value.single]) (by rw[Qz Zz,Zz];omega) λ v' M' cx _=>?_;obtain⟨co,cq,ce⟩:=cx.split;obtain⟨ta,tl,tc,rfl,-⟩:=ce.src;refine⟨rfl,WN (b:=E) (e:=38) (c:=[.slice ra rl rc,.slice sa sl sc].toArray) (M₀:=.obj N (.cells (ZR L).toArray 3 (0,0))::.cl V [.nl,.nl] 92::U.M) (i:=1) (v:=.slice ta tl tc) (co++[.obj mb (Qt QQ (Jn (K (i+1))))]) (by show M'=_;rw[cq];simp) (by show 1<2;omega) rfl λ Uc el fc cu=>?_⟩;have cu:Uc.M=co++J_ mb E N V (.slice ra rl rc) (.slice ta tl tc) (Jn (K (i+1))) L U.M:=by rw[cu];simp
    have b6:U9.frz.lg Uc.frz:=b0.trans ⟨λ x q hx=>by show Uc.I x=_;rw[el];exact hx,⟨[],rfl⟩,fc⟩;refine⟨a5,rfl,(i+1,.slice ta tl tc),T1,⟨⟨λ x q hx=>b6.imm x q (db.imm x q (P.imm x q hx)),Zz3,b6.tok.trans (db.tok.trans P.tok)⟩,by show i+1<=h.cl;omega,ps++[(({ c with af:=[] }:Cs),(⟨a9,bc,ba,.nl,[]⟩:ZK))],co,?_,?_,?_,cu⟩,L1⟩
    .show _=b.woL (K (i+1)) _;rw[br,Bk.woL_snoc,map_append,bp,dq];rfl
    .intro p hp;rcases mem_append.1 hp with hp|hp
     .exact⟨(ap p hp).1.lg (db.trans b6),(ap p hp).2⟩
     .rw[mem_singleton.1 hp];have:=hk.lg (eh.trans b6);exact⟨⟨this.gs,this.gl,.nil,this.nm,by show 0<=_;omega⟩,rfl⟩
    .rw[flatMap_append];simpa using ce
  have aj:i=h.cl:=by simp at hc;omega
  subst aj
  have H:QS U5 ⟨ra,rl,rc,sa,sl,sc⟩ (Bk.mk b.rs (b.woL (K h.cl) λ _=>[])) (J_ mb E N V (.slice ra rl rc) (.slice sa sl sc) (Jn (K h.cl)) L U.M):=by
   refine⟨⟨ps,A,bp,λ p hp=>(ap p hp).1,aw,?_⟩,bz.lg P.frz2 λ _ _ h=>h,by show rl<_;omega,hb.rn,c7⟩
   have:ps.flatMap (·.2.F)=[]:=by
    rw[flatMap_eq_nil_iff];exact λ p hp=>(ap p hp).2
   rw[this,hM];exact Perm.refl _
  clear hM aw bp ap a5 bz
  conv=>whnf
  refine OM (b:=mb) (enc:=QQ) (l:=Jn (K h.cl)) VO rfl (.inr (H.mem _ S1)) λ it fk=>?_;have em:(K h.cl).Nodup:=Bk.kpt_nodup _;have fw:(K h.cl).length<=5:=Nat.le_trans (Bk.kpt_len _) O1
  let G:Nat->List Int:=λ p=>Bk.afK o.testBit (L.getD ((K h.cl).getD p 0) 0) h.cl
  have H:QS (U5.put it (Jx mb (Jn (K h.cl)).length #[])) ⟨ra,rl,rc,sa,sl,sc⟩ (Bk.mk b.rs (b.woL (K h.cl) λ p=>if p∈(#[]:Array Nat)then G p else[])) (.obj it (Jx mb (Jn (K h.cl)).length #[])::J_ mb E N V (.slice ra rl rc) (.slice sa sl sc) (Jn (K h.cl)) L U.M):=by
   rw[show(λ p=>if p∈(#[]:Array Nat)then G p else[])=(λ _=>([]:List Int)) by funext p;simp];obtain⟨ps,A,h1,h2,h3,h4⟩:=H.ex;refine⟨⟨ps,A,h1,λ p hp=>(h2 p hp).lg ⟨λ _ _ h=>h,⟨[],rfl⟩,rfl⟩,h3,?_⟩,H.rs.lg ⟨λ _ _ h=>h,⟨[],rfl⟩,rfl⟩ λ _ _ h=>h,H.rl,H.rn,H.rc⟩;show(_::U5.M).Perm _;rw[<- append_assoc];refine(h4.cons _).trans ?_;rw[<- append_assoc];exact perm_middle.symm
  refine⟨Array Nat,λ _=>[(2,.pb B),(4,.pb V),(5,.slice (some ⟨N,0,none⟩) h.cl h.cl),(10,.pb E),(11,.map (some mb)),(122,.pb it)],
   λ seen U'=>U5.frz.lg U'/\QS U' ⟨ra,rl,rc,sa,sl,sc⟩ (Bk.mk b.rs (b.woL (K h.cl) λ p=>if p∈seen then G p else[])) (.obj it (Jx mb (Jn (K h.cl)).length seen)::J_ mb E N V (.slice ra rl rc) (.slice sa sl sc) (Jn (K h.cl)) L U.M)/\seen.toList.Nodup/\∀i∈seen.toList,i<(K h.cl).length,λ seen=>(K h.cl).length-seen.size,#[],T1,⟨⟨λ _ _ h=>h,Zz3,rfl⟩,H,S1,S1⟩,?_⟩
  clear H;rintro seen f U6⟨bk,H,d3,ch⟩
  have e9:seen.size<=(K h.cl).length:=by
   have:=XN d3 ch;simpa using this
  have bv:U1.frz.lg U6:=⟨λ x q hx=>bk.imm x q (an.imm x q hx),Zz3,bk.tok.trans an.tok⟩;obtain⟨Xp,Yp,eo,c8,-,-⟩:=H.pick
  conv=>whnf
  refine SA (b:=mb) (r:=it) (seen:=seen) (enc:=QQ) (l:=Jn (K h.cl)) (λ q=>Xp++.obj it q::Yp) rfl (.inr (H.mem _ S1)) (λ q=>by rw[eo];exact Pb .here _) (λ cf=>?_) (λ q p hp d4=>?_)
  .have hfin:(Bk.mk b.rs (b.woL (K h.cl) λ p=>if p∈seen then G p else[]))=b.wo o.testBit:=by
    rw[Bk.wo_woL hW,bo];congr 1;refine Bk.woL_congr λ p hp=>?_;rw[if_pos (cf p (by rw[Db];exact hp))]
   rw[hfin]at H
   repeat refine⟨rfl,?_⟩
   refine⟨_,⟨rfl,Jy (b:=E) (e:=38) (vs:=[.slice ra rl rc,.slice sa sl sc]) (H.mem _ S1)⟩,?_⟩
   conv=>whnf
   obtain⟨ps,A,h1,h2,h3,h4⟩:=H.ex;refine⟨rfl,Ym (b:=V) (e:=92) (c:=[.nl,.nl].toArray) (vs:=[.slice ra rl rc,.slice sa sl sc]) (L₁:=A++(ps.flatMap (·.2.F)++[.obj it (Jx mb (Jn (K h.cl)).length seen),.obj mb (Qt QQ (Jn (K h.cl))),.cl E [.slice ra rl rc,.slice sa sl sc] 38,.obj N (.cells (ZR L).toArray 3 (0,0))])) (L₂:=U.M) (by simpa using h4) rfl Zz1 λ U7 bh bl bi=>?_⟩;refine⟨_,⟨rfl,Jy (b:=V) (e:=92) (vs:=[.slice ra rl rc,.slice sa sl sc]) (by rw[bi];simp)⟩,?_⟩;have hz:U6.frz.lg U7.frz:=⟨λ x q hx=>by show U7.I x=_;rw[bh];exact hx,⟨[],rfl⟩,bl⟩;refine⟨⟨⟨ra,rl,rc,sa,sl,sc⟩,[.obj it (Jx mb (Jn (K h.cl)).length seen),.obj mb (Qt QQ (Jn (K h.cl))),.cl E [.slice ra rl rc,.slice sa sl sc] 38,.obj N (.cells (ZR L).toArray 3 (0,0)),.cl V [.slice ra rl rc,.slice sa sl sc] 92],rfl,⟨⟨ps,A,h1,λ p hp=>(h2 p hp).lg hz,h3,by rw[bi];simp⟩,H.rs.lg hz λ _ _ h=>h,H.rl,H.rn,H.rc⟩⟩,λ x q hx=>by rw[bh];exact bv.imm x q (bn.imm x q hx),bl.trans (bv.tok.trans bn.tok)⟩
  .have hql:q<(K h.cl).length:=by have:=(Zz4 hp);rwa [Db]at this
   rw[Ld hql]at hp;cases hp;have c4:=Bk.kpt_lt (Se hql:(K h.cl).getD q 0∈Bk.kpt o.testBit h.cl);generalize d0:(K h.cl).getD q 0=kk at c4
   have cj:(seen.push q).toList.Nodup:=by
    rw[Array.toList_push,nodup_append];refine⟨d3,S1,λ x hx y hy=>?_⟩;rw[mem_singleton.1 hy];rintro rfl;exact d4 (by simpa using hx)
   have bw:∀j∈(seen.push q).toList,j<(K h.cl).length:=by
    intro j hj;rw[Array.toList_push,mem_append]at hj;rcases hj with hj|hj
    .exact ch j hj
    .rw[mem_singleton.1 hj];exact hql
   have dt:(K h.cl).length-(seen.push q).size<(K h.cl).length-seen.size:=by
    have:=XN cj bw;rw[Array.length_toList,Array.size_push]at this;rw[Array.size_push];omega
   have a2:=c8 ({ U6 with M:=Xp++.obj it (Jx mb (Jn (K h.cl)).length (seen.push q))::Yp }:Qa T) (.obj it (Jx mb (Jn (K h.cl)).length (seen.push q))) (λ _ _ h=>h) rfl rfl;have a7:U5.frz.lg ({ U6 with M:=Xp++.obj it (Jx mb (Jn (K h.cl)).length (seen.push q))::Yp }:Qa T):=⟨bk.imm,Zz3,bk.tok⟩;generalize({ U6 with M:=Xp++.obj it (Jx mb (Jn (K h.cl)).length (seen.push q))::Yp }:Qa T)=U7 at a2 a7 ⊢;have be:U1.frz.lg U7:=⟨λ x q hx=>a7.imm x q (an.imm x q hx),Zz3,a7.tok.trans an.tok⟩
   repeat refine⟨rfl,?_⟩
   conv=>whnf
   refine OL (b:=mb) (r:=it) (seen:=seen) (enc:=QQ) (l:=Jn (K h.cl)) rfl (.inr (a2.mem _ S1)) (.inr (a2.mem _ S1)) (Ld hql) ?_;rw[d0];refine⟨_,(hB.imI be.imm).sees3 (o:=1) rfl,Nat,λ k=>[(2,.pb B),(4,.pb V),(5,.slice (some ⟨N,0,none⟩) h.cl h.cl),(10,.pb E),(11,.map (some mb)),(14,.int .i64 kk),(15,.int .i64 q),(122,.pb it),(131,.int .i64 h.cl),(132,.int .i64 k)],
    λ k U'=>U7.frz.lg U'/\k<=h.cl/\QS U' ⟨ra,rl,rc,sa,sl,sc⟩ (Bk.mk b.rs (b.woL (K h.cl) λ p=>if p=q then Bk.afK o.testBit (L.getD kk 0) k else if p∈seen then G p else[])) (.obj it (Jx mb (Jn (K h.cl)).length (seen.push q))::J_ mb E N V (.slice ra rl rc) (.slice sa sl sc) (Jn (K h.cl)) L U.M),λ k=>h.cl-k,0,T1,⟨⟨λ _ _ h=>h,Zz3,rfl⟩,O1,?_⟩,?_⟩
   .rw[Bk.woL_congr (b:=b) (g':=λ p=>if p∈seen then G p else[]) λ p hp=>?_]
    .exact a2
    .by_cases e:p=q
     .subst e;rw[if_pos rfl,if_neg d4];rfl
     .rw[if_neg e]
   rintro k f U8⟨ah,hk,Y⟩;have ak:Z9 ((k:Int)+1):=I1
   have e4:U1.frz.lg U8:=⟨λ x q hx=>ah.imm x q (be.imm x q hx),Zz3,ah.tok.trans be.tok⟩
   repeat refine⟨rfl,?_⟩
   conv=>whnf
   apply Qg<;>intro hc
   .have hkt:k<h.cl:=by simpa using hc
    cases a1:o.testBit k with
    |true=>
     have c5:lk ((k:Nat):Int) (Jn (K h.cl))=none:=gX λ hm=>by
      have:=(Bk.kpt_lt hm).2;rw[a1]at this;cases this
     conv=>whnf
     refine YZ (b:=mb) (k:=((k:Nat):Int)) (l:=Jn (K h.cl)) PD VO HL rfl rfl (.inr (Y.mem _ S1)) ?_;rw[c5];refine⟨ak,?_⟩
     conv=>whnf
     exact⟨rfl,k+1,T1,⟨ah,O1,by rw[Bk.afK_out a1];exact Y⟩,L1⟩
    |false=>
     obtain⟨d8,e6⟩:=p_ (f:=o.testBit) hkt a1
     have c5:lk ((k:Nat):Int) (Jn (K h.cl))=some (.int .i64 ((K k).length:Nat)):=by
      have:=pX em d8
      rwa [show(K h.cl).getD (Bk.kpt o.testBit k).length 0=k from e6]at this
     have a4:=HT (bq kk) (show k<60 by omega)
     have eb:U8.sees ((Addr.mk N 0 none).add (kk*1)) (.int .i64 (L.getD kk 0:Nat)):=by
      rw[Nat.mul_one];exact Jy (b:=N) (e:=3) (vs:=ZR L) (Y.mem _ S1) kk _ (IQ (by rw[bm.len];exact c4.1))
     have az:=Bk.afK_in (out:=o.testBit) (w:=L.getD kk 0) (j:=k) a1
     conv=>whnf
     refine YZ (b:=mb) (k:=((k:Nat):Int)) (l:=Jn (K h.cl)) PD VO HL rfl rfl (.inr (Y.mem _ S1)) ?_;rw[c5];refine⟨⟨N,0,none⟩,kk,⟨rfl,rfl,c4.1⟩,_,eb,O1,?_⟩
     repeat refine⟨rfl,?_⟩
     conv=>whnf
     apply Qg<;>intro hc
     .have hb1:(L.getD kk 0).testBit k=true:=a4.symm.trans hc;rw[hb1,if_pos rfl]at az
      have d9:q<(Bk.mk b.rs (b.woL (K h.cl) λ p=>if p=q then Bk.afK o.testBit (L.getD kk 0) k else if p∈seen then G p else[])).cs.length:=by
       show q<(b.woL _ _).length;rw[Bk.woL_len];exact hql
      have es:(Bk.mk b.rs (b.woL (K h.cl) λ p=>if p=q then Bk.afK o.testBit (L.getD kk 0) k else if p∈seen then G p else[])).cas q={ b.cas ((K h.cl).getD q 0)with af:=Bk.afK o.testBit (L.getD kk 0) k }:=by
       rw[Bk.cas_at (Bk.woL_at hql),if_pos rfl]
      obtain⟨a0,l0,c0,kF,cb,cc,rest,au⟩:=Y.openC d9;have bs:=au.acc;rw[es]at bs;have fv:=au.acc.src;have ez:=Bk.afK_len (out:=o.testBit) (L.getD kk 0) k
      let bd:=rest++(.obj it (Jx mb (Jn (K h.cl)).length (seen.push q))::J_ mb E N V (.slice ra rl rc) (.slice sa sl sc) (Jn (K h.cl)) L U.M)
      let Us:Qa T:={ U8 with M:=kF++(.obj cb (.cells cc.toList.toArray 44 (0,0))::bd) }
      let Ub:Qa T:={ U8 with M:=.obj cb (.cells cc.toList.toArray 44 (0,0))::bd }
      have dk:Ub.lg Us:=⟨λ _ _ h=>h,⟨kF,rfl⟩,rfl⟩;have fq:(some ⟨cb,0,none⟩:Option Addr)=sa:=au.ca.symm;have ea:q<sl:=au.lt;have bx:Je Ub ⟨E,0,none⟩ [.slice ra rl rc,.slice sa sl sc]:=Jy (e:=38) (by show _∈_::bd;simp[bd])
      have e7:Ub.sees (((Addr.mk cb 0 none).add (q*4)).add 3) (.slice a0 l0 c0):=by
       have:=Jy (U:=Ub) (b:=cb) (e:=44) (vs:=cc.toList) (by show _∈_::bd;simp) (q*4+3) _ au.at3;rw[Qo]at this;rw[Qo,Qo,Nat.add_assoc];exact this
      conv=>whnf
      intro fo bu;refine gJ (Wp au.pm) ?_
      refine Io (mu:=[1039]) (ops:=GZ Tryz.f46 39) (id:=39) (U:=Us) bu Ub dk [10,11] [[0,1,2,3,4,5,6,7,8,9,10,11]] [12,13,14] Qf
       (λ f' dc U'=>dc=[]/\∃(va:Option Addr)(vl vc:Nat)(F':List Qw),Xx f' [(2,.pb B),(4,.pb V),(5,.slice (some ⟨N,0,none⟩) h.cl h.cl),(10,.pb E),(11,.map (some mb)),(14,.int .i64 kk),(15,.int .i64 q),(122,.pb it),(131,.int .i64 h.cl),(132,.int .i64 k),(153,.slice sa sl sc),(154,.int .i64 q),(163,.slice va vl vc)]/\Jo 3 1 (.slice va vl vc) ((Bk.afK o.testBit (L.getD kk 0) (k+1)).map λ n=>.int .i64 n) F'/\U8.frz.lg U'/\U'.M=F'++(.obj cb (.cells cc.toList.toArray 44 (0,0))::bd)) ?_ ?_
      .intro l hl;simp only[mem_cons,not_mem_nil,or_false]at hl;subst hl;refine⟨_,bx.cell (i:=1) rfl,_,bx.cell (i:=1) rfl,⟨cb,0,none⟩,q,⟨au.ca,rfl,ea⟩,_,e7,λ v U'=>∃ae,v=.slice (some ⟨ae,0,none⟩) 1 1/\Zi U' ae #[.int .i64 ((K k).length:Nat)]/\Us.le U',λ v U1 U2⟨ae,e1,hb,hl⟩am=>⟨ae,e1,hb.le am,hl.trans am⟩,λ v U'⟨ae,e1,hb,hl⟩=>dk.trans hl.lg,λ U' hC=>?_,λ v hv=>?_⟩
       .have am:=hC
        conv=>whnf
        intro ae c3;exact Zl c3 λ U3 aq hb=>⟨U3,.refl _,ae,rfl,hb,Qa.le.trans am aq⟩
       obtain⟨_,ae,rfl,-⟩:=hv;refine⟨λ v U'=>∃(F':List Qw),(∃va vl vc,v=.slice va vl vc)/\Jo 3 1 v ((Bk.afK o.testBit (L.getD kk 0) (k+1)).map λ n=>.int .i64 n) F'/\U8.frz.lg U'/\U'.M=F'++(.obj cb (.cells cc.toList.toArray 44 (0,0))::bd),λ v U1 U2⟨F',hs,h1,h2,h3⟩am=>⟨F',hs,h1,h2.trans am.lg,am.own.trans h3⟩,λ v U'⟨F',hs,h1,h2,h3⟩=>⟨h2.imm,⟨F',h3⟩,h2.tok⟩,λ U' hC=>?_,λ v hv=>?_⟩
       .obtain⟨b162',e1,hb162,am⟩:=hC;cases e1
        conv=>whnf
        refine Wn (v:=.slice a0 l0 c0) (cs:=(Bk.afK o.testBit (L.getD kk 0) k).map λ n=>.int .i64 n) (new:=[.int .i64 ((K k).length:Nat)]) (M₀:=.obj cb (.cells cc.toList.toArray 44 (0,0))::bd) H4 rfl rfl (by rw[am.own];exact bs _) (.inr ⟨_,rfl,hb162.rd⟩) rfl Zz1 (by rw[length_map,length_cons,length_nil];omega) λ v' M' cx _=>?_;obtain⟨F',cq,b2⟩:=cx.split;refine⟨_,.refl _,F',?_,by rw[az];simpa using b2,⟨λ x q hx=>am.imm x q hx,Zz3,am.tok⟩,cq⟩;obtain⟨ta,tl,tc,e2,-⟩:=b2.src;exact⟨ta,tl,tc,e2⟩
       obtain⟨_,F',⟨va,vl,vc,rfl⟩,-⟩:=hv
       conv=>whnf
       rintro U'⟨ej,-,h1,h2,h3⟩;exact⟨rfl,va,vl,vc,ej,T1,h1,h2,h3⟩
      rintro f' dc U9⟨rfl,va,vl,vc,F',dx,b2,ey,en⟩;rw[<- dx.ovr];clear dx;refine⟨⟨cb,0,none⟩,q,⟨au.ca,rfl,ea⟩,rfl,?_⟩;rw[show((Addr.mk cb 0 none).add (q*4)).add 3=(Addr.mk cb 0 none).add (q*4+3) by rw[Qo,Qo,Qo,Nat.add_assoc]];refine WN (i:=q*4+3) (v:=.slice va vl vc) F' en (by simpa using au.sz) rfl λ Ua cp c9 ct=>?_;have b0:U8.frz.lg Ua.frz:=ey.frz2.trans ⟨λ x q hx=>by show Ua.I x=_;rw[cp];exact hx,⟨[],rfl⟩,c9⟩;have e3:=Bk.afK_len (out:=o.testBit) (L.getD kk 0) (k+1);have bf:=au.back Ua (.slice va vl vc) F' (Bk.afK o.testBit (L.getD kk 0) (k+1)) (.obj it (Jx mb (Jn (K h.cl)).length (seen.push q))::J_ mb E N V (.slice ra rl rc) (.slice sa sl sc) (Jn (K h.cl)) L U.M) b0 b2 O1 (by rw[ct]);rw[Bk.woL_set hql]at bf;rw[Bk.woL_congr (b:=b) (g':=λ p=>if p=q then Bk.afK o.testBit (L.getD kk 0) (k+1)else if p∈seen then G p else[]) λ p _=>by by_cases e:p=q <;> simp[e]]at bf
      conv=>whnf
      intro a' b3;refine⟨by rw[b3.size,bu.size],_,b3.get,?_⟩;rw[b3.ds];clear b3 bu;refine⟨ak,?_⟩
      conv=>whnf
      exact⟨rfl,k+1,T1,⟨⟨λ x q hx=>b0.imm x q (ah.imm x q hx),Zz3,b0.tok.trans ah.tok⟩,O1,bf⟩,L1⟩
     .have hb1:(L.getD kk 0).testBit k=false:=a4.symm.trans hc;rw[hb1,if_neg S1,append_nil]at az;refine⟨ak,?_⟩
      conv=>whnf
      exact⟨rfl,k+1,T1,⟨ah,O1,by rw[az];exact Y⟩,L1⟩
   .have aj:k=h.cl:=by simp at hc;omega
    subst aj;rw[Bk.woL_congr (b:=b) (g':=λ p=>if p∈seen.push q then G p else[]) λ p hp=>?_]at Y
    .conv=>whnf
     exact⟨rfl,seen.push q,T1,⟨⟨λ x q hx=>ah.imm x q (a7.imm x q hx),Zz3,ah.tok.trans a7.tok⟩,Y,cj,bw⟩,dt⟩
    .by_cases e:p=q
     .subst e;rw[if_pos rfl,if_pos S1];show _=Bk.afK o.testBit (L.getD ((K h.cl).getD p 0) 0) h.cl;rw[d0]
     .rw[if_neg e];by_cases hs:p∈seen
      .rw[if_pos hs,if_pos (by simp[hs])]
      .rw[if_neg hs,if_neg (by simp[hs,e])]
 refine ei.okv λ v U' hw⟨⟨h',Z,hv,d6⟩,hI,ht⟩=>?_
 have d1:(b.wo o.testBit).cs.length<=1000:=by
  show((b.kept o.testBit).map _).length<=_;rw[length_map];exact Nat.le_trans (Bk.kpt_len (out:=o.testBit) b.cs.length) O1
 obtain⟨U'',k1,k2,k3,k4⟩:=d6.freeze hw d1;exact⟨{ U'' with M:=U.M },k1.trans (Zx (by simp_all)),⟨h',hv,k4,d6.rc⟩,⟨λ x q hx=>k3.imm x q (hI x q hx),rfl,k3.tok.trans ht⟩⟩
def WP(x:List Int):Nat:=Z4 (x.map Int.toNat)
def Bk.every(b:Bk):List Int:=(range b.cs.length).map λ(k:Nat)=>(k:Int)
def Bk.wdP(b:Bk)(r:Nat)(x:List Int):Bool:=(b.wo (WP x).testBit).fatR r==1
def Bk.wdL(b:Bk)(r:Nat):List Int:=(WL b.every (b.wdP r) 0 (b.cs.length+1)).getD []
def Bk.wdF(b:Bk)(r:Int):List Int:=if b.askF r=0 then b.wdL r.toNat else[]
def Dm(h:b.cs.length<=5)(f:l.Sublist b.every):(∀n∈l,0<=n/\n<60)/\l.length<=5/\WP l<2^60:=by
 have h1:∀n∈l,0<=n/\n<60:=λ n w=>by
  have:=f.subset w;simp only[Bk.every,mem_map,mem_range]at this;obtain⟨k,B,rfl⟩:=this;omega
 refine⟨h1,?_,Hc (toNat_lt h1)⟩;grind[Bk.every]
def C5(h:BH)(b:Bk)(hb:Zr U.frz h b)(G:b.Ok)(r:Nat)(hr:r<b.rs.length)(F:Zi U m #[.slice h.ra h.rl h.rc,.slice h.ca h.cl h.cc])(E:Zi U p #[.int .i64 r]) :
  S_ S 45 #[] #[.pb m,.pb p] (b.wdP r) b.every U:=by
 rintro q a cap W hq⟨X,V,hI,rfl⟩K;obtain⟨Q,q5,qo⟩:=Dm G.nc hq;have B:U.lg (⟨V,X++U.M,U.tok⟩:Qa T):=⟨hI,⟨X,rfl⟩,rfl⟩;generalize(⟨V,X++U.M,U.tok⟩:Qa T)=W at K B;refine Qb.pure' (Qb.of (args:=[_,_,_]) UQ Qf S1 ?_);have F:=F.lg B;have E:=E.lg B;refine⟨_,⟨rfl,F.rd⟩,?_⟩;refine⟨.int .i64 (WP q:Nat),λ U' f _=>?_,?_⟩
 .refine⟨XO.any,(Z8 a q.length cap q (K.lg (Qr.trans f.lg)) O1 Q).mono ?_⟩;rintro _ U''⟨rfl,hU⟩-;exact⟨rfl,_,.refl _,hU▸.refl _⟩
 refine⟨_,E.sees3 (o:=0) rfl,λ v U'=>∃w:BH,v=w.v/\Zr U'.frz w (b.wo (WP q).testBit),λ v W U2⟨w,e,hb⟩f=>⟨w,e,hb.lg f.lg.frz2⟩,λ U' f _=>?_,λ v hv=>?_⟩
 .refine⟨OS.any,(DN h b (hb.lg (B.frz2.trans f.lg.frz2)) G (WP q) qo).mono ?_⟩;rintro v U''⟨⟨w,e,N,-⟩,I⟩-;exact⟨U'',.refl _,⟨w,e,N⟩,I⟩
 obtain⟨_,-,-,w,rfl,-⟩:=hv
 conv=>whnf
 intro U2 L hC;obtain⟨-,H,e,P⟩:=hC;have e':=Value.agg.inj e
 obtain rfl:w=H:=by
  obtain⟨x1,x2,x3,x4,x5,x6⟩:=w;simp_all
 refine⟨Gg.any,(Vg w _ P (G.wo _) r hr).go λ _=>?_⟩
 repeat refine⟨rfl,?_⟩
 conv=>whnf
 exact L.lg
def Cb(h:BH)(b:Bk)(hb:Zr U.frz h b)(hk:JU U)(r:Int):Qb S 15 #[h.v,.int .i64 r] (λ v U'=>(∃F,v=.tuple #[F,.int .i64 (b.askF r)]/\JW U'.frz F (b.wdF r))/\U.le U') U:=by
 refine Qb.grown (R:=λ v U'=>∃F,v=.tuple #[F,.int .i64 (b.askF r)]/\JW U' F (b.wdF r)) (λ v W X hl⟨F,e,h1⟩=>⟨F,e,h1.lg hl⟩) (Qb.of (args:=[_,_]) UN Qf S1 ?_);have T:=hb.cs.1
 repeat refine⟨rfl,?_⟩
 conv=>whnf
 intro B W aa L;have L:Zi W B #[.slice h.ra h.rl h.rc,.slice h.ca h.cl h.cc]:=L
 conv=>whnf
 intro b3 X Q E;have E:Zi X b3 #[.int .i64 r]:=E;have L:=L.le Q;have w:=aa.trans Q;refine⟨_,⟨rfl,L.rd⟩,?_⟩;refine⟨_,E.sees3 (o:=0) rfl,PC.any,(Ve h b (hb.lg w.lg.frz2) (hk.lg w.lg) r).go λ _=>?_⟩
 conv=>whnf
 intro b6 V;refine⟨_,.refl _,?_⟩;by_cases M:b.askF r=0
 .obtain⟨hok,hr0,hr1⟩:=Bk.askF_ok M;obtain⟨q,rfl⟩:=Int.eq_ofNat_of_zero_le hr0;have hq:q<b.rs.length:=by unfold Bk.nr at hr1;omega
  have ae:=hok.nc;have P:b.wdF (q:Int)=b.wdL q:=by unfold Bk.wdF;rw[if_pos M,Int.toNat_natCast]
  rw[if_pos M,M,P];refine⟨rfl,Zv (vs:=[.slice h.ra h.rl h.rc,.slice h.ca h.cl h.cc]) V rfl Zz1 λ Y G H=>?_⟩;have H:Zi Y b6 #[.slice h.ra h.rl h.rc,.slice h.ca h.cl h.cc]:=H;have E:=E.le G;have L:=L.le G;have K:=w.trans G
  repeat refine⟨rfl,?_⟩
  refine⟨_,⟨rfl,H.rd⟩,?_⟩;refine⟨_,L.sees3 (o:=1) rfl,λ v U'=>Jw U'.frz v b.every,λ v W X hi f=>hi.lg f.lg.frz2,λ U' f _=>?_,λ v N=>?_⟩
  .refine⟨OR.any,(E0 h b (hb.lg (K.lg.frz2.trans f.lg.frz2)) O1).mono ?_⟩;rintro v U''⟨N,I⟩-;exact⟨U'',.refl _,N,I⟩
  obtain⟨_,-,-,ea,ec,rfl,-⟩:=N;have ac:b.every.length=h.cl:=by simp[Bk.every,T]
  refine⟨λ v U'=>∃F,v=.tuple #[F,.bool (WL b.every (b.wdP q) 0 (b.cs.length+1)).isSome]/\JW U'.frz F (b.wdL q),λ v W X⟨F,e,hi⟩f=>⟨F,e,hi.lg f.lg.frz2⟩,λ U' f hC=>?_,λ v N=>?_⟩
  .obtain⟨-,ea',ec',Z,hei⟩:=hC;cases Z;have hz:Y.frz.lg U'.frz:=f.lg.frz2;have hl:=E4 (S:=S) (U:=U') b.every ea ec (Eg hei) (by rw[ac];omega) b.cs.length O1 45 #[] #[.pb b6,.pb b3] UQ.any (b.wdP q) (C5 h b (hb.lg (K.lg.frz2.trans hz)) hok q hq (H.le f) (E.le f))
   conv=>whnf
   rw[<- T];refine⟨OQ.any,hl.mono ?_⟩;rintro v U''⟨N,I⟩-;exact⟨U'',.refl _,N,I⟩
  obtain⟨_,-,-,F,rfl,wa,wc,rfl,-⟩:=N
  conv=>whnf
  intro U4 ab hC;obtain⟨-,ad,Z,hi⟩:=hC
  obtain⟨e2,-⟩:(Value.slice wa (b.wdL q).length wc=ad)/\True:=by
   have:=Value.tuple.inj Z;simp at this;exact⟨this,trivial⟩
  subst e2
  repeat refine⟨rfl,?_⟩
  conv=>whnf
  exact⟨⟨_,rfl,hi⟩,(K.trans ab).lg⟩
 .have P:b.wdF r=[]:=by unfold Bk.wdF;rw[if_neg M]
  rw[if_neg M,P];refine⟨rfl,Zv (vs:=[.nl,.nl]) V rfl Zz1 λ Y G H=>?_⟩
  repeat refine⟨rfl,?_⟩
  conv=>whnf
  apply Qg<;>intro hc
  .repeat refine⟨rfl,?_⟩
   conv=>whnf
   exact⟨⟨_,rfl,.nil⟩,(w.trans G).lg⟩
  .exact absurd (by simpa using hc) M
def Cg(h:BH)(b:Bk)(hb:Zr U.frz h b)(w:JU U)(r:Int):Qb S 15 #[h.v,.int .i64 r] (λ v U'=>(∃f,v=.tuple #[f,.int .i64 (b.askF r)]/\Jw U'.frz f (b.wdF r))/\U.le U') U:=
 (Cb h b hb w r).mono λ v U'⟨⟨f,e,h1⟩,h2⟩=>⟨⟨f,e,h1.v⟩,h2⟩
def Bk.dcS(b:Bk)(r d:Nat):Int:=(b.wo d.testBit).fatR r
def Bk.dcP(b:Bk)(r:Nat)(x:List Int):Bool:=(range (2^b.cs.length)).all λ d=>!(d&&&WP x==0&&b.dcS r d != b.dcS r 0)
def Bk.dcL(b:Bk)(r:Nat):List Int:=(WL b.every (b.dcP r) 0 (b.cs.length+1)).getD []
def Bk.dcF(b:Bk)(r:Int):List Int:=if b.askF r=0 then b.dcL r.toNat else[]
def Bk.dcM(b:Bk)(r m:Nat):List (Int×Value):=JF m (λ d=>(d:Nat)) λ d=>.int .i64 (b.dcS r d)
def Bk.dcM_succ(b:Bk)(r m:Nat):ZA ((m:Nat):Int) (.int .i64 (b.dcS r m)) (b.dcM r m)=b.dcM r (m+1):=by
 unfold Bk.dcM
 rw[(YN (m:=m) (k:=((m:Nat):Int)) (ky:=λ d=>(d:Nat)) (vl:=λ d=>.int .i64 (b.dcS r d)) λ q f e=>by
  grind).2,II]
def Bk.dcM_at(b:Bk)(h:p<m):lk ((p:Nat):Int) (b.dcM r m)=some (.int .i64 (b.dcS r p)):=
 Lo (m:=m) (ky:=λ p=>((p:Nat):Int)) (vl:=λ p=>.int .i64 (b.dcS r p)) h λ q r _ _ e=>Int.ofNat.inj e
def Bk.dcM_len(b:Bk)(r m:Nat):(b.dcM r m).length=m:=Dz _ _ _
def Bk.dcM_get(b:Bk)(h:q<m):(b.dcM r m)[q]?=some (((q:Nat):Int),.int .i64 (b.dcS r q)):=SY h
def DA(h:n<=5):2^n<=32:=by
 have:=Nat.pow_le_pow_right (show 0<2 by omega) h;simpa using this
def NP(b:Bk)(ah:b.cs.length<=5)(r:Nat)(P:Zi U m #[.map (some n)])(hm:U.has n (Qt QQ (b.dcM r (2^b.cs.length)))) :
  S_ S 59 #[] #[.pb m] (b.dcP r) b.every U:=by
 rintro q a cap G hq⟨X,I',hI,rfl⟩aj;obtain⟨an,q5,qo⟩:=Dm ah hq;have ad:U.lg (⟨I',X++U.M,U.tok⟩:Qa T):=⟨hI,⟨X,rfl⟩,rfl⟩;have hm:(⟨I',X++U.M,U.tok⟩:Qa T).has n (Qt QQ (b.dcM r (2^b.cs.length))):=hm.imp (hI _ _) λ h=>mem_append_right _ h;generalize(⟨I',X++U.M,U.tok⟩:Qa T)=G at aj ad hm;have ap:=DA ah;have ai:0<2^b.cs.length:=Nat.two_pow_pos _;refine Qb.pure' (Qb.of (args:=[_,_]) US Qf S1 ?_);have P:=P.lg ad;refine⟨_,P.sees3 (o:=0) rfl,?_⟩
 conv=>whnf
 refine OM (b:=n) (enc:=QQ) (l:=b.dcM r (2^b.cs.length)) OF rfl hm λ it ao=>?_;rw[Bk.dcM_len];have ak:=Z2 (U:=G) it (Jx n (2^b.cs.length) #[])
 refine⟨Array Nat,λ _=>[(0,.slice a q.length cap),(1,.pb m),(7,.pb it)],
  λ seen U'=>G.frz.lg U'/\U'.M=.obj it (Jx n (2^b.cs.length) seen)::G.M/\seen.toList.Nodup/\(∀i∈seen.toList,i<2^b.cs.length)/\∀i∈seen,(!(i&&&WP q==0&&b.dcS r i != b.dcS r 0))=true,λ seen=>2^b.cs.length-seen.size,#[],T1,⟨Qr.trans ak,rfl,S1,S1,S1⟩,?_⟩
 rintro seen f U2⟨E,hM,al,ae,K⟩;have af:∀U':Qa T,(∀x o,G.I x=some o->U'.I x=some o)->(∀r∈G.M,r∈U'.M)->U'.has n (Qt QQ (b.dcM r (2^b.cs.length))):=λ U' h1 h2=>hm.imp (h1 _ _) (h2 _);have L:∀s,Jx n (2^b.cs.length) s=Jx n (b.dcM r (2^b.cs.length)).length s:=λ s=>by rw[Bk.dcM_len]
 conv=>whnf
 refine SA (b:=n) (r:=it) (seen:=seen) (enc:=QQ) (l:=b.dcM r (2^b.cs.length)) (λ o=>.obj it o::G.M) rfl (af _ E.imm λ r hr=>by simp_all) (λ o=>by rw[hM,L];exact .here) (λ aa=>?_) (λ d p hp am=>?_)
 .have hP:b.dcP r q=true:=by
   unfold Bk.dcP;rw[all_eq_true];intro d hd;rw[mem_range]at hd;exact K d (aa d (by rw[Bk.dcM_len];exact hd))
  rw[hP]
  repeat refine⟨rfl,?_⟩
  conv=>whnf
  exact⟨E.imm,⟨[_],hM⟩,E.tok⟩
 .have hdl:d<2^b.cs.length:=by have:=(Zz4 hp);rwa [Bk.dcM_len]at this
  rw[b.dcM_get hdl]at hp;cases hp;have ac:d<2^60:=Nat.lt_of_lt_of_le (by omega:d<32) D1
  have N:(seen.push d).toList.Nodup:=by
   rw[Array.toList_push,nodup_append];refine⟨al,S1,λ x hx y hy=>?_⟩;rw[mem_singleton.1 hy];rintro rfl;exact am (by simpa using hx)
  have F:∀j∈(seen.push d).toList,j<2^b.cs.length:=by
   intro j Z;rw[Array.toList_push,mem_append]at Z;rcases Z with Z|Z
   .exact ae j Z
   .rw[mem_singleton.1 Z];exact hdl
  have W:2^b.cs.length-(seen.push d).size<2^b.cs.length-seen.size:=by
   have:=XN N F;rw[Array.length_toList,Array.size_push]at this;rw[Array.size_push];omega
  have w:G.frz.lg ({ U2 with M:=.obj it (Jx n (b.dcM r (2^b.cs.length)).length (seen.push d))::G.M }:Qa T):=⟨E.imm,Zz3,E.tok⟩;have H:({ U2 with M:=.obj it (Jx n (b.dcM r (2^b.cs.length)).length (seen.push d))::G.M }:Qa T).M=.obj it (Jx n (2^b.cs.length) (seen.push d))::G.M:=by rw[L]
  generalize({ U2 with M:=.obj it (Jx n (b.dcM r (2^b.cs.length)).length (seen.push d))::G.M }:Qa T)=U3 at w H ⊢;have ag:=af U3 w.imm λ r hr=>by simp_all
  have ab:=P.imI w.imm;have Y:G.lg U3:=⟨w.imm,⟨[_],H⟩,w.tok⟩
  have B:∀h:(!(d&&&WP q==0&&b.dcS r d != b.dcS r 0))=true,∀i∈seen.push d,(!(i&&&WP q==0&&b.dcS r i != b.dcS r 0))=true:=λ h i hi=>by
   grind
  have V:(d&&&WP q==0&&b.dcS r d != b.dcS r 0)=true->b.dcP r q=false:=λ h=>by
   grind[Bk.dcP,all_eq_true]
  repeat refine⟨rfl,?_⟩
  conv=>whnf
  refine OL (b:=n) (r:=it) (seen:=seen) (enc:=QQ) (l:=b.dcM r (2^b.cs.length)) rfl ag (.inr (by simp_all)) (b.dcM_get hdl) ?_;refine⟨XO.any,(Z8 a q.length cap q (aj.lg w) O1 an).go λ _=>?_⟩;have hand:=Ul ac qo
  have Q:((IntKind.wrap .i64 ((BitVec.ofInt 64 ((d:Nat):Int)&&&BitVec.ofInt 64 ((WP q:Nat):Int)).toNat:Int))==0)=(d&&&WP q==0):=by
   rw[hand,Bool.eq_iff_iff,beq_iff_eq,beq_iff_eq];omega
  repeat refine⟨rfl,?_⟩
  conv=>whnf
  apply Jt<;>intro hc
  .have h1:(d&&&WP q==0)=true:=Q.symm.trans hc;rw[h1,Bool.true_and]at V B;refine⟨_,ab.sees3 (o:=0) rfl,?_⟩
   conv=>whnf
   refine Ol (b:=n) (k:=((0:Nat):Int)) (l:=b.dcM r (2^b.cs.length)) PD OF xS rfl rfl ag ?_;rw[b.dcM_at ai,Option.getD_some]
   repeat refine⟨rfl,?_⟩
   conv=>whnf
   apply Qg<;>intro hc
   .rw[V hc]
    repeat refine⟨rfl,?_⟩
    simp_all
   .have hc':(b.dcS r d != b.dcS r 0)=false:=hc;rw[hc']at B
    conv=>whnf
    exact⟨rfl,seen.push d,T1,⟨w,H,N,F,B rfl⟩,W⟩
  .have h1:(d&&&WP q==0)=false:=Q.symm.trans hc;rw[h1,Bool.false_and]at B
   conv=>whnf
   exact⟨rfl,seen.push d,T1,⟨w,H,N,F,B rfl⟩,W⟩
def qm(h:BH)(b:Bk)(hb:Zr U.frz h b)(hk:JU U)(r:Int):Qb S 22 #[h.v,.int .i64 r] (λ v U'=>(∃L,v=.tuple #[L,.int .i64 (b.askF r)]/\JW U'.frz L (b.dcF r))/\U.le U') U:=by
 refine Qb.grown (R:=λ v U'=>∃L,v=.tuple #[L,.int .i64 (b.askF r)]/\JW U' L (b.dcF r)) (λ v U1 Y hl⟨L,e,h1⟩=>⟨L,e,h1.lg hl⟩) (Qb.of (args:=[_,_]) Ta Qf S1 ?_);have ab:=hb.cs.1
 repeat refine⟨rfl,?_⟩
 conv=>whnf
 intro B U1 T hB;have hB:Zi U1 B #[.slice h.ra h.rl h.rc,.slice h.ca h.cl h.cc]:=hB;refine⟨_,⟨rfl,hB.rd⟩,?_⟩;refine⟨PC.any,(Ve h b (hb.lg T.lg.frz2) (hk.lg T.lg) r).go λ _=>?_⟩
 conv=>whnf
 intro b6 ad;refine⟨_,.refl _,?_⟩;by_cases hF:b.askF r=0
 .obtain⟨hok,hr0,hr1⟩:=Bk.askF_ok hF;obtain⟨q,rfl⟩:=Int.eq_ofNat_of_zero_le hr0;have hq:q<b.rs.length:=by unfold Bk.nr at hr1;omega
  have ah:=hok.nc;have ap:=DA ah;have ac:b.dcF (q:Int)=b.dcL q:=by unfold Bk.dcF;rw[if_pos hF,Int.toNat_natCast]
  rw[if_pos hF,hF,ac];refine⟨rfl,Zv (vs:=[.slice h.ra h.rl h.rc,.slice h.ca h.cl h.cc]) ad rfl Zz1 λ Y af V=>?_⟩;have V:Zi Y b6 #[.slice h.ra h.rl h.rc,.slice h.ca h.cl h.cc]:=V;have hB:=hB.le af;have G:=T.trans af
  repeat refine⟨rfl,?_⟩
  conv=>whnf
  refine P3 QQ λ mb an=>?_
  conv=>whnf
  intro b8 ag;refine⟨_,.refl _,rfl,Zv (vs:=[.map (some mb)]) ag rfl Zz1 λ U3 K ak=>?_⟩
  have ae:U3.M=.obj mb (Qt QQ (b.dcM q 0))::U.M:=by
   rw[K.own];show _::Y.M=_;rw[G.own];rfl
  have H:Y.frz.lg U3:=⟨λ x o hx=>K.imm x o hx,Zz3,K.tok⟩
  have e1:IntKind.wrap .i64 ((1:Int)*2^(min ((h.cl:Int).toNat) (IntKind.bits .i64)))=((2^b.cs.length:Nat):Int):=by
   rw[ab,<- Nat.one_shiftLeft];exact Yk O1
  clear ad ag an K;refine⟨_,(hB.imI H.imm).sees3 (o:=1) rfl,O1,?_⟩;rw[e1]
  refine⟨Nat,λ m=>[(1,.int .i64 q),(2,.pb B),(6,.pb b6),(8,.pb b8),(25,.int .i64 (2^b.cs.length:Nat)),(26,.int .i64 m)],
   λ m U'=>U3.frz.lg U'/\U'.M=.obj mb (Qt QQ (b.dcM q m))::U.M/\m<=2^b.cs.length,λ m=>2^b.cs.length-m,0,T1,⟨⟨λ _ _ h=>h,Zz3,rfl⟩,ae,Nat.zero_le _⟩,?_⟩
  rintro m f U4⟨P,hM,hm⟩;have am:Z9 ((m:Int)+1):=I1
  have N:∀x o,Y.I x=some o->U4.I x=some o:=λ x o hx=>P.imm x o (H.imm x o hx);have Z:=V.imI N;have aa:=ak.imI P.imm;have W:U.frz.lg U4.frz:=⟨λ x o hx=>N x o (G.imm x o hx),⟨[],rfl⟩,P.tok.trans (H.tok.trans G.tok)⟩
  repeat refine⟨rfl,?_⟩
  conv=>whnf
  apply Qg<;>intro hc
  .have hlt:m<2^b.cs.length:=Int.ofNat_lt.1 (of_decide_eq_true hc);refine⟨_,aa.sees3 (o:=0) rfl,_,⟨rfl,Z.rd⟩,?_⟩;refine⟨λ v U'=>∃Q:BH,v=Q.v/\Zr U'.frz Q (b.wo m.testBit),λ v U1 Y⟨Q,e,hb⟩w=>⟨Q,e,hb.lg w.lg.frz2⟩,λ U' w _=>?_,λ v X=>?_⟩
   .refine⟨OS.any,(DN h b (hb.lg (W.trans w.lg.frz2)) hok m (Nat.lt_of_lt_of_le (by omega:m<32) D1)).mono ?_⟩;rintro v U''⟨⟨Q,e,aj,-⟩,E⟩-;exact⟨U'',.refl _,⟨Q,e,aj⟩,E⟩
   obtain⟨_,-,-,Q,rfl,-⟩:=X;refine⟨.int .i64 (b.dcS q m),λ U' w hC=>?_,?_⟩
   .obtain⟨-,h'',e,hbw⟩:=hC;have e':=Value.agg.inj e
    obtain rfl:Q=h'':=by
     obtain⟨x1,x2,x3,x4,x5,x6⟩:=Q;obtain⟨y1,y2,y3,y4,y5,y6⟩:=h'';simp at e';simp[e']
    refine⟨Gg.any,(Vg Q _ hbw (hok.wo _) q hq).mono ?_⟩;rintro _ U''⟨rfl,hU⟩-;exact⟨rfl,_,.refl _,hU▸.refl _⟩
   conv=>whnf
   intro U5 F _
   conv=>whnf
   refine YL (b:=mb) (k:=((m:Nat):Int)) (l:=b.dcM q m) (v:=.int .i64 (b.dcS q m)) (M':=.obj mb (Qt QQ (b.dcM q (m+1)))::U.M) PD OF rfl rfl rfl (by rw[F.own,hM,b.dcM_succ];exact .here) ?_;refine⟨am,?_⟩
   conv=>whnf
   exact⟨rfl,m+1,T1,⟨⟨λ x o hx=>F.imm x o (P.imm x o hx),Zz3,F.tok.trans P.tok⟩,rfl,O1⟩,L1⟩
  .have hge:m=2^b.cs.length:=Nat.le_antisymm hm (Nat.le_of_not_lt λ h=>absurd (Int.ofNat_lt.2 h) (of_decide_eq_false hc));subst hge;have ai:=hB.imI N;refine⟨_,⟨rfl,Z.rd⟩,?_⟩;refine⟨_,ai.sees3 (o:=1) rfl,λ v U'=>Jw U'.frz v b.every,λ v U1 Y hi w=>hi.lg w.lg.frz2,λ U' w _=>?_,λ v X=>?_⟩
   .refine⟨OR.any,(E0 h b (hb.lg (W.trans w.lg.frz2)) O1).mono ?_⟩;rintro v U''⟨X,E⟩-;exact⟨U'',.refl _,X,E⟩
   obtain⟨_,-,-,ea,ec,rfl,-⟩:=X;have al:b.every.length=h.cl:=by simp[Bk.every,ab]
   refine⟨λ v U'=>∃L,v=.tuple #[L,.bool (WL b.every (b.dcP q) 0 (b.cs.length+1)).isSome]/\JW U'.frz L (b.dcL q),λ v U1 Y⟨L,e,hi⟩w=>⟨L,e,hi.lg w.lg.frz2⟩,λ U' w hC=>?_,λ v X=>?_⟩
   .obtain⟨-,ea',ec',e1,hei⟩:=hC;cases e1;have hl:=E4 (S:=S) (U:=U') b.every ea ec (Eg hei) (by rw[al];omega) b.cs.length O1 59 #[] #[.pb b8] US.any (b.dcP q) (NP b ah q (aa.le w) (.inr (by rw[w.own,hM];exact mem_cons_self ..)))
    conv=>whnf
    rw[<- ab];refine⟨OQ.any,hl.mono ?_⟩;rintro v U''⟨X,E⟩-;exact⟨U'',.refl _,X,E⟩
   obtain⟨_,-,-,L,rfl,wa,wc,rfl,-⟩:=X
   conv=>whnf
   intro U5 F hC;obtain⟨-,ao,e1,hi⟩:=hC
   obtain⟨e2,-⟩:(Value.slice wa (b.dcL q).length wc=ao)/\True:=by
    have:=Value.tuple.inj e1;simp at this;exact⟨this,trivial⟩
   subst e2
   repeat refine⟨rfl,?_⟩
   refine⟨⟨_,rfl,hi⟩,⟨λ x o hx=>F.imm x o (W.imm x o hx),⟨[_],F.own.trans hM⟩,F.tok.trans W.tok⟩⟩
 .have ac:b.dcF r=[]:=by unfold Bk.dcF;rw[if_neg hF]
  rw[if_neg hF,ac];refine⟨rfl,Zv (vs:=[.nl,.nl]) ad rfl Zz1 λ U3 K V=>?_⟩
  repeat refine⟨rfl,?_⟩
  conv=>whnf
  apply Qg<;>intro hc
  .repeat refine⟨rfl,?_⟩
   conv=>whnf
   exact⟨⟨_,rfl,.nil⟩,(T.trans K).lg⟩
  .exact absurd (by simpa using hc) hF
def DQ(h:BH)(b:Bk)(hb:Zr U.frz h b)(w:JU U)(r:Int):Qb S 22 #[h.v,.int .i64 r] (λ v U'=>(∃f,v=.tuple #[f,.int .i64 (b.askF r)]/\Jw U'.frz f (b.dcF r))/\U.le U') U:=
 (qm h b hb w r).mono λ v U'⟨⟨f,e,h1⟩,h2⟩=>⟨⟨f,e,h1.v⟩,h2⟩
variable{s:Int×Int}
def Le{n:Int}:∀{l:List Int},l.Pairwise (· < ·)->n∉l->(ZB n l).Pairwise (· < ·)
 |[],_,_=>by simp[ZB]
 |y::l,h,b=>by
  obtain⟨h1,h2⟩:=pairwise_cons.1 h;unfold ZB;split
  .refine pairwise_cons.2 ⟨λ x hx=>?_,Le h2 λ hm=>b (by simp[hm])⟩;rcases(PH n x l).1 hx with rfl|hx
   .assumption
   .exact h1 x hx
  .rename_i hge;have f:n≠y:=λ e=>b (by simp[e]);refine pairwise_cons.2 ⟨λ x hx=>?_,h⟩;grind
structure Bk.Ok1(b:Bk):Prop where
 nr:b.rs.length<=6
 nc:b.cs.length<=5
 ag:∀c∈b.cs,0<=c.ag/\c.ag<b.nr
 gl:∀c∈b.cs,c.gs.length<=3
 gs:∀c∈b.cs,∀g∈c.gs,g.length<=3/\∀n∈g,0<=n/\n<b.nr
 ri:∀c∈b.cs,c.af.Pairwise (· < ·)
 af:∀c∈b.cs,∀n∈c.af,0<=n/\n<b.nc
def Bk.Ok.ok1(h:b.Ok):b.Ok1:=⟨h.nr,h.nc,h.ag,h.gl,h.gs,λ _ f=>(h.asc f).2,h.af⟩
def Bk.Ok1.ok(h:b.Ok1)(hl:Wy b.A=false):b.Ok:=
 ⟨h.nr,h.nc,h.ag,h.gl,h.gs,λ c f=>SV (h.ri c f) (h.af c f) (λ m e=>by cases e),h.af,hl⟩
def Bk.Ok1.low(h:b.Ok1):b.Low:=⟨h.nc,h.af⟩
structure Bk.Fr(b:Bk)(s:Int×Int):Prop where
 c0:0<=s.1
 cl:s.1.toNat<b.cs.length
 u0:0<=s.2
 ul:s.2<b.nc
 no:s.2∉(b.cas s.1.toNat).af
def Bk.sty_cs(b:Bk)(s:Int×Int)(h:y∈(b.sty s).cs):y∈b.cs\/y={ b.cas s.1.toNat with af:=ZB s.2 (b.cas s.1.toNat).af }:=mem_or_eq_of_mem_set h
def Bk.Ok1.sty{b:Bk}(h:b.Ok1){s:Int×Int}(E:b.Fr s):(b.sty s).Ok1:=by
 have w:=Bk.cas_mem E.cl;have B:(b.sty s).nc=b.nc:=by unfold Bk.nc;rw[b.sty_len]
 refine⟨h.nr,by rw[b.sty_len];exact h.nc,λ c f=>?_,λ c f=>?_,λ c f=>?_,λ c f=>?_,λ c f=>?_⟩ <;> rcases b.sty_cs s f with f|rfl
 .exact h.ag c f
 .exact h.ag (b.cas s.1.toNat) w
 .exact h.gl c f
 .exact h.gl (b.cas s.1.toNat) w
 .exact h.gs c f
 .exact h.gs (b.cas s.1.toNat) w
 .exact h.ri c f
 .exact Le (h.ri _ w) E.no
 .rw[B];exact h.af c f
 .rw[B];intro n F;rcases(PH s.2 n _).1 F with rfl|F
  .exact⟨E.u0,E.ul⟩
  .exact h.af _ w n F
def Bk.Fr.sty{b:Bk}{s f:Int×Int}(B:b.Fr s)(h:b.Fr f)(w:f≠s):(b.sty s).Fr f:=by
 refine⟨h.c0,by rw[b.sty_len];exact h.cl,h.u0,by unfold Bk.nc;rw[b.sty_len];exact h.ul,?_⟩;by_cases e:s.1.toNat=f.1.toNat
 .have e2:f.1=s.1:=by have:=B.c0;have:=h.c0;omega
  have:(b.sty s).cas f.1.toNat={ b.cas s.1.toNat with af:=ZB s.2 (b.cas s.1.toNat).af }:=by
   refine Bk.cas_at ?_;show(b.cs.set s.1.toNat _)[f.1.toNat]?=_;rw[getElem?_set,if_pos e,if_pos B.cl]
  rw[this];intro hm;rcases(PH s.2 f.2 _).1 hm with E|hm
  .grind
  .exact h.no (by rw[<- e];exact hm)
 .have:(b.sty s).cas f.1.toNat=b.cas f.1.toNat:=by
   show(b.cs.set s.1.toNat _).getD f.1.toNat default=_;rw[getD_eq_getElem?_getD,getElem?_set,if_neg e,<- getD_eq_getElem?_getD];rfl
  rw[this];exact h.no
def Bk.Ok1.stys{b:Bk}(h:b.Ok1):∀{l:List (Int×Int)},(∀s∈l,b.Fr s)->l.Nodup->(b.stys l).Ok1:=by
 intro l
 induction l generalizing b with
 |nil=>exact λ _ _=>h
 |cons s l B=>
  intro hl w;obtain⟨h1,h2⟩:=nodup_cons.1 w;exact B (b:=b.sty s) (h.sty (hl s S1)) (λ E f=>(hl s S1).sty (hl E (by simp[f])) λ e=>h1 (e▸f)) h2
def Bk.stys_rs(b:Bk)(l:List (Int×Int)):(b.stys l).rs=b.rs:=by
 induction l generalizing b with
 |nil=>rfl
 |cons s l f=>exact f (b.sty s)
def Bk.cans_fr(h:s∈b.cans):b.Fr s:=by
 simp only[Bk.cans,mem_flatMap,mem_range,mem_map,mem_filter,Bool.and_eq_true,Bool.not_eq_true',contains_eq_mem,decide_eq_false_iff_not]at h;obtain⟨i,hi,k,⟨w,-,f⟩,rfl⟩:=h;exact⟨S1,by simpa using hi,S1,by grind[Bk.nc],by simpa using f⟩
def Bk.good(b:Bk)(r:Nat)(w:Int)(l:List (Int×Int)):Bool:=!Wy (b.stys l).A&&(b.stys l).fatR r==w
def qt(h:BH)(b:Bk)(hb:Zr U.frz h b)(f:b.Ok)(l:List (Int×Int))(a:Option Addr)(c:Nat)(hl:Q7 U a l.length 2 l (λ x vs=>vs=encII x))(B:l.length<=6)(w:∀s∈l,b.Fr s) :
  Qb S 90 #[h.v,.slice a l.length c] (λ v U'=>(∃E:BH,v=E.v/\Zr U'.frz E (b.stys l))/\U.le U') U:=by
 have I:=f.nc;refine(qQ h b hb f.sml l a c hl B f.srt λ s F=>⟨(w s F).c0,(w s F).cl⟩).okv λ v U' M⟨⟨E,L,K⟩,H,ht⟩=>?_;obtain⟨U'',N,P,G,Q⟩:=K.freeze M (by rw[Bk.stys_len];omega);exact⟨U'',N,⟨E,L,Q⟩,⟨λ x q hx=>G.imm x q (H x q hx),P,G.tok.trans ht⟩⟩
variable{enc:α->List Value}
def xG(F:∀x,(enc x).length=n){l:List α}(h:Q7 U a l.length n l λ x vs=>vs=enc x)(f:0<n):Src U a (l.flatMap enc):=by
 cases a with
 |none=>
  cases l with
  |nil=>exact .inl ⟨rfl,rfl⟩
  |cons x l=>
   obtain⟨w,vs,e,_⟩:=h.2 0 x rfl;cases e
 |some w=>
  refine .inr ⟨w,rfl,λ j v G=>?_⟩;have E:=(Zz4 G);rw[Qz F]at E;have hi:j / n<l.length:=Nat.div_lt_of_lt_mul (by grind);have I:j % n<n:=Nat.mod_lt _ f;obtain⟨H,vs,e,B,rfl,hl,K⟩:=h.2 (j / n) _ (getElem?_eq_getElem hi);cases e;have b:j / n*n+j % n=j:=by rw[Nat.mul_comm];exact Nat.div_add_mod j n
  have h1:=P7 F (getElem?_eq_getElem hi) I;rw[b,G]at h1;have h2:=K (j % n) v h1.symm;obtain⟨bb,L,M⟩:=w;cases B;rw[Qo,Qo,Nat.add_assoc,b]at h2;rw[Qo];exact h2
def ZD:Option (List (Int×Int))->Option (List (Int×Int))->Option (List (Int×Int))
 |none,y=>y
 |some x,none=>some x
 |some x,some y=>some (if QZ x y<0 then x else y)
def nb(l:List (Int×Int)):Option (List (Int×Int))->List (Int×Int)
 |none=>l
 |some y=>if QZ l y<0 then l else y
def Um(f:Fm)(x:Operand)(v:Value)(h:Zf f x=v):((#[]++Array.map (Zf f) #[x])++#[]:Array Value)=#[v]:=by simp[h]
def V5(fb bb:Nat)(o:Option (List (Int×Int)))(M:List Qw):Prop:=∃a l c A,Jo 75 2 (.slice a l c) ((o.getD []).flatMap encII) A/\(∀x,o=some x->l=x.length)/\M=.cl fb [.bool o.isSome] 4::.cl bb [.slice a l c] 68::A
def JG(fb bb:Nat)(f h:Option (List (Int×Int)))(a b:Bool):TM.Spec:=V5 fb bb (ZD (if a then f else none) (if b then h else none))
structure HV(U:Qa T)(h:BH)(b:Bk)(r:Nat)(w:Int)(i:Nat)(bcan bfst bbk brt bwt:Nat):Prop where
 can:∃a c,Zi U bcan #[.slice a b.cans.length c]/\Q7 U.frz a b.cans.length 2 b.cans (λ x vs=>vs=encII x)/\b.cans.length<=c
 fst:Zi U bfst #[.int .i64 i]
 bk:Zi U bbk #[.slice h.ra h.rl h.rc,.slice h.ca h.cl h.cc]
 bv:Zr U.frz h b
 rt:Zi U brt #[.int .i64 r]
 wt:Zi U bwt #[.int .i64 w]
def HV.imI{h:BH}{b:Bk}{r i:Nat}{w:Int}{bcan bfst bbk brt bwt:Nat}(k:HV U h b r w i bcan bfst bbk brt bwt)(f:∀x o,U.I x=some o->U'.I x=some o)(ht:U'.tok=U.tok):HV U' h b r w i bcan bfst bbk brt bwt:=
 ⟨let ⟨a,c,h1,h2,h3⟩:=k.can;⟨a,c,h1.imI f,h2.lg ⟨f,⟨[],rfl⟩,ht⟩ (λ _ _ h=>h),h3⟩,k.fst.imI f,k.bk.imI f,k.bv.lg ⟨f,⟨[],rfl⟩,ht⟩,k.rt.imI f,k.wt.imI f⟩
variable{U₀:Qa Tk}{bwt lm fb:Nat}{D:Spec}{ci:Int×Int}
def zr(h:BH)(b:Bk)(br:b.Ok)(b8:b.cans.Nodup)(r:Nat)(Z:r<b.rs.length)(w:Int)(i:Nat){bcan bfst bbk brt bb g:Nat}(a6:b.cans[i]?=some ci)(he:HV U₀ h b r w i bcan bfst bbk brt bwt)
  (F G:Option (List (Int×Int))) (a4:∀x,F=some x\/G=some x->x.length<=1000) (bu:∀x y,F=some x->G=some y->(if QZ y x<0 then y else x)=(if QZ x y<0 then x else y))
  (m:Nat) (hm:m<=5) (mt:Option ZO) (cm:U₀.tok=⟨0,.wrk g D,mt⟩)
  (au:∀k q,(TM.parts (b.cans.drop (i+1)) m)[k]?=some q->(∀q'∈(TM.parts (b.cans.drop (i+1)) m).take k,b.good r w (ci::q')=false)->b.good r w (ci::q)=true->∃s lo,mt=some (.lok ⟨lm,169,JG fb bb F G⟩ s .idle lo)/\(if s then G else F)=some (ci::q)) :
  GA Q6 89 #[] #[.pb bcan,.pb bfst,.pb bbk,.pb brt,.pb bwt,.pb lm,.pb fb,.pb bb] encII 2 (TM.parts (b.cans.drop (i+1)) m)
   (λ k U'=>U'.tok=⟨0,.wrk g D,mt⟩/\∀q∈(TM.parts (b.cans.drop (i+1)) m).take k,b.good r w (ci::q)=false)
   (λ U'=>∃s lo,U'.tok=⟨0,.wrk g D,some (.lok ⟨lm,169,JG fb bb F G⟩ s .fin lo)⟩) U₀:=by
 intro k q qa qc U X Mc hq h0 ba aw hM⟨ax,bq⟩;have ax:U.tok=⟨0,.wrk g D,mt⟩:=ax;have he:=HV.imI (U':=U) he h0.imm h0.tok;obtain⟨b9,co⟩:=G8.1 (mem_of_getElem? hq)
 have a3:(ci::q).Sublist b.cans:=by
  have h1:b.cans.drop i=ci::b.cans.drop (i+1):=Hl a6;have h2:(ci::q).Sublist (b.cans.drop i):=by rw[h1];exact b9.cons_cons ci
  exact h2.trans (drop_sublist i b.cans)
 have bm:∀s∈ci::q,b.Fr s:=λ s hs=>Bk.cans_fr (a3.subset hs);have a1:(b.stys (ci::q)).Ok1:=br.ok1.stys bm (b8.sublist a3);have bp:(ci::q).length<=6:=S3
 have bo:i<b.cans.length:=(Zz4 a6);refine Qb.post (R:=λ v U'=>(v=.bool false/\b.good r w (ci::q)=false/\U.lg U')\/(v=.bool true/\(∃s lo,U'.tok=⟨0,.wrk g D,some (.lok ⟨lm,169,JG fb bb F G⟩ s .fin lo)⟩)/\∀x o,U.I x=some o->U'.I x=some o)) ?_ λ v U' hv=>?_
 rotate_left
 .rcases hv with⟨rfl,hg,av⟩|⟨rfl,ht,hI⟩
  .obtain⟨A,hA⟩:=av.own;refine⟨{ U' with M:=U.M },Zx (by rw[hA];exact sublist_append_right ..),.inl ⟨rfl,⟨av.imm,⟨[],rfl⟩,av.tok⟩,Mc,hM,av.tok.trans ax,λ q' W=>?_⟩⟩;rw[Wf hq,mem_append]at W;grind
  .exact⟨U',.refl _,.inr ⟨rfl,[],U'.M,rfl,ht,hI⟩⟩
 refine Qb.ofD (args:=[_,_,_,_,_,_,_,_,_]) D5 Qf S1 ?_;obtain⟨ca,cc,b3,b4,-⟩:=he.can;obtain⟨ad,x,vs,hx,rfl,ck,rfl,-,ce⟩:=b4.at bo;rw[a6]at hx;cases hx;refine⟨_,b3.sees3 (o:=0) rfl,_,he.fst.sees3 (o:=0) rfl,ad,i,⟨rfl,rfl,bo⟩,_,⟨rfl,ce.lg Qr⟩,?_⟩
 conv=>whnf
 intro L bl;refine⟨U.put L (.cells (encII ci).toArray 75),.refl _,?_⟩;have K:=Z2 (U:=U) L (.cells (encII ci).toArray 75);have a5:(U.put L (.cells (encII ci).toArray 75)).M=.obj L (.cells (encII ci).toArray 75 (0,0))::U.M:=rfl;generalize U.put L (.cells (encII ci).toArray 75)=Up at K a5 ⊢
 conv=>whnf
 refine Wn (v:=.slice (some ⟨L,0,none⟩) 1 1) (cs:=encII ci) (new:=q.flatMap encII) (M₀:=U.M) K4 rfl rfl (.inr ⟨L,(encII ci).toArray,1,1,rfl,rfl,Nat.le_refl _,rfl,a5,λ k v hv=>by simpa using hv⟩) (xG (enc:=encII) (n:=2) (λ _=>rfl) (ba.lg (Qr.trans K) λ _ _ h=>h) D1) (Qz (f:=encII) (n:=2) (λ _=>rfl) q) (λ v hv=>by
  obtain⟨y,-,hy⟩:=mem_flatMap.1 hv;simp[encII]at hy;rcases hy with rfl|rfl <;> rfl) (by rw[Qz (f:=encII) (n:=2) (λ _=>rfl)];simp[encII];omega) λ v' M' ai _=>?_
 have ai:Acc 75 2 v' ((ci::q).flatMap encII) M' U.M:=by simpa using ai
 obtain⟨A,bd,hA⟩:=ai.split;obtain⟨la,ll,lc,rfl,a8⟩:=hA.src;have a8:(ci::q).length=ll:=by have e:=(Qz (f:=encII) (n:=2) (λ _=>rfl) (ci::q)).symm.trans a8;omega
 subst a8;have V:U.lg ({ Up with M:=M' }:Qa Tk):=⟨K.imm,⟨A,bd⟩,K.tok⟩
 have a7:Q7 ({ Up with M:=M' }:Qa Tk) la (ci::q).length 2 (ci::q) λ x vs=>vs=encII x:=by
  obtain⟨a2,l2,c2,e2,h2,h3⟩:=Acc.src (U:={ Up with M:=M' }) ai;obtain⟨rfl,-,-⟩:=Value.slice.inj e2;refine HG (enc:=encII) (n:=2) (λ _=>rfl) h3 (λ ad e=>?_) D1;subst e;rcases ai with⟨e1,_,_⟩|⟨b',c',bx,cap',e1,_⟩
  .cases e1
  .cases e1;rfl
 generalize bg:({ Up with M:=M' }:Qa Tk)=U1 at V a7 ⊢;have be:U1.M=A++U.M:=by rw[<- bg];exact bd
 clear bg bl K a5;have aj:=he.imI V.imm V.tok;refine⟨_,⟨rfl,aj.bk.rd⟩,?_⟩;refine⟨D6.any,(qt (S:=Q6) (U:=U1) h b aj.bv br (ci::q) la lc a7 bp bm).mono ?_⟩;rintro _ U2⟨⟨Q,rfl,aq⟩,b2⟩-
 conv=>whnf
 intro bz bj;refine⟨_,.refl _,rfl,Zv (vs:=[.slice Q.ra Q.rl Q.rc,.slice Q.ca Q.cl Q.cc]) bj rfl Zz1 λ U3 bh T=>?_⟩;have T:Zi U3 bz #[.slice Q.ra Q.rl Q.rc,.slice Q.ca Q.cl Q.cc]:=T;have ak:=b2.trans bh;have aq:=aq.lg bh.lg.frz2;have bf:=ak.own.trans be;have bi:=aj.imI ak.imm ak.tok;have am:=V.trans ak.lg;refine⟨_,⟨rfl,T.rd⟩,?_⟩;refine⟨.int .i64 (if Wy (b.stys (ci::q)).A then 8 else 0),λ U' al _=>?_,?_⟩
 .refine⟨Ts.any,(E5 Q _ ((aq.lg al.lg.frz2).lg Qr) a1.low).mono ?_⟩;rintro _ U''⟨rfl,hU⟩-;exact⟨rfl,_,.refl _,hU▸.refl _⟩
 cases K:Wy (b.stys (ci::q)).A with
 |true=>
  have hg:b.good r w (ci::q)=false:=by unfold Bk.good;rw[K];rfl
  refine⟨rfl,?_⟩
  conv=>whnf
  intro U4 ah _
  repeat refine⟨rfl,?_⟩
  conv=>whnf
  exact .inl ⟨rfl,hg,am.trans ah.lg⟩
 |false=>
 have bs:=a1.ok K;have bn:b.good r w (ci::q)=((b.stys (ci::q)).fatR r==w):=by unfold Bk.good;rw[K];rfl
 refine⟨rfl,_,⟨rfl,T.rd⟩,?_⟩;refine⟨_,bi.rt.sees3 (o:=0) rfl,.int .i64 ((b.stys (ci::q)).fatR r),λ U' al _=>?_,?_⟩
 .refine⟨Gg.any,(Vg Q _ (aq.lg al.lg.frz2) bs r (by rw[Bk.stys_rs];exact Z)).mono ?_⟩;rintro _ U''⟨rfl,hU⟩-;exact⟨rfl,_,.refl _,hU▸.refl _⟩
 refine⟨_,bi.wt.sees3 (o:=0) rfl,?_⟩
 conv=>whnf
 intro U4 ah _;have bc:=ah.own.trans bf;have P:=am.trans ah.lg;have b5:Q7 U4 la (ci::q).length 2 (ci::q) λ x vs=>vs=encII x:=a7.lg (ak.trans ah).lg λ _ _ h=>h
 repeat refine⟨rfl,?_⟩
 conv=>whnf
 apply Qg<;>intro hc
 .have hg:b.good r w (ci::q)=false:=by
   rw[bn];have:(b.stys (ci::q)).fatR r≠w:=by simpa using hc
   simpa using this
  repeat refine⟨rfl,?_⟩
  conv=>whnf
  simp_all
 have hg:b.good r w (ci::q)=true:=by
  rw[bn];have:(b.stys (ci::q)).fatR r=w:=by simpa using hc
  simpa using this
 obtain⟨s,lo,rfl,N⟩:=au k q hq bq hg;have cf:U4.tok=⟨0,.wrk g D,some (.lok ⟨lm,169,JG fb bb F G⟩ s .idle lo)⟩:=P.tok.trans ax
 have a9:Qb Q6 92 #[.pb lm] (λ v U'=>v=.tuple #[]/\∃E M lo',JG fb bb F G (if s then E else false) (if s then false else E) M/\U'.M=M++U4.M/\(∀x o,U4.I x=some o->U'.I x=some o)/\U'.tok=⟨0,.wrk g D,some (.lok ⟨lm,169,JG fb bb F G⟩ s (.own E) lo')⟩) U4:=by
  refine Qb.post (R:=λ v U'=>v=.tuple #[]/\∃E M lo',JG fb bb F G (if s then E else false) (if s then false else E) M/\U'.M=U4.M++M/\(∀x o,U4.I x=some o->U'.I x=some o)/\U'.tok=⟨0,.wrk g D,some (.lok ⟨lm,169,JG fb bb F G⟩ s (.own E) lo')⟩) (R5 cf λ E M lo' aw=>⟨rfl,E,M,lo',aw,rfl,λ _ _ h=>h,rfl⟩) λ v U'⟨hv,E,M,lo',aw,ae,hI,ht⟩=>?_;exact⟨{ U' with M:=M++U4.M },Wp (by rw[ae];exact perm_append_comm),hv,E,M,lo',aw,rfl,hI,ht⟩
 refine⟨NM,a9.mono ?_⟩;rintro _ U5⟨rfl,E,MS,lo',b1,B,az,bw⟩-;obtain⟨ya,yl,yc,Y,aa,ay,rfl⟩:=b1;have B:U5.M=.cl fb [.bool (ZD (if(if s then E else false)then F else none) (if(if s then false else E)then G else none)).isSome] 4::.cl bb [.slice ya yl yc] 68::(Y++(A++U.M)):=by rw[B,bc];simp
 have fin:∀(M₁ M₂:List Qw)(U6:Qa Tk),U6.tok=U5.tok->(∀x o,U5.I x=some o->U6.I x=some o)->U6.M=M₁++M₂->JG fb bb F G (if s then E else true) (if s then true else E) M₁ ->
   XB Q6 93 #[.pb lm] (λ U'=>(Value.bool true=.bool false/\b.good r w (ci::q)=false/\U.lg U')\/(Value.bool true=.bool true/\(∃s lo,U'.tok=⟨0,.wrk g D,some (.lok ⟨lm,169,JG fb bb F G⟩ s .fin lo)⟩)/\∀x o,U.I x=some o->U'.I x=some o)) U6:=by
  intro M₁ M₂ U6 ht hI ae hD;exact zQ (ht.trans bw) ae hD (.inr ⟨rfl,⟨s,lo',rfl⟩,λ x o hx=>hI x o (az x o (P.imm x o hx))⟩)
 generalize H:ZD (if(if s then E else false)then F else none) (if(if s then false else E)then G else none)=o at aa ay B
 have an:ZD (if(if s then E else true)then F else none) (if(if s then true else E)then G else none)=some (nb (ci::q) o):=by
  cases s with
  |false=>
   have N:F=some (ci::q):=N;have H:ZD none (if E then G else none)=o:=H;show ZD F (if E then G else none)=_;rw[N];have H:(if E then G else none)=o:=H;rw[H];cases o <;> rfl
  |true=>
   have N:G=some (ci::q):=N;have H:ZD (if E then F else none) none=o:=H;show ZD (if E then F else none) G=_;rw[N]
   have H:(if E then F else none)=o:=by
    rw[<- H];cases(if E then F else none) <;> rfl
   rw[H];cases o with
   |none=>rfl
   |some y=>
    have b0:F=some y:=by
     cases E with
     |true=>exact H
     |false=>cases H
    show some (if QZ y (ci::q)<0 then y else ci::q)=some (if QZ (ci::q) y<0 then ci::q else y);rw[bu y (ci::q) b0 N]
 have bt:(Value.slice la (ci::q).length lc).single=true:=rfl
 have cj:∀U':Qa Tk,U'.M=U5.M->U'.sees ((Addr.mk fb 0 none)) (.bool o.isSome):=λ U' ae=>by
  have:=Jy (U:=U') (b:=fb) (e:=4) (vs:=[.bool o.isSome]) (by rw[ae,B];simp) 0 _ rfl;exact this
 repeat refine⟨rfl,?_⟩
 refine⟨_,cj U5 rfl,?_⟩;cases o with
 |none=>
  refine⟨rfl,Ym (b:=bb) (e:=68) (c:=[.slice ya yl yc].toArray) (L₁:=[.cl fb [.bool false] 4]) (L₂:=A++(Y++U.M)) (vs:=[.slice la (ci::q).length lc]) (by
   rw[B];refine Perm.cons _ (Perm.cons _ ?_);exact perm_append_comm_assoc _ _ _) rfl Zz1 λ U6 ab ao af=>?_⟩
  refine⟨rfl,Wd (b:=fb) (e:=4) (c:=#[.bool false]) (vs:=[.bool true]) (M₀:=.cl bb [.slice la (ci::q).length lc] 68::(A++(Y++U.M))) [] af rfl Zz1 λ U7 ac ap ag=>?_⟩
  have hd:=fin (.cl fb [.bool true] 4::.cl bb [.slice la (ci::q).length lc] 68::A) (Y++U.M) U7 (ap.trans ao) (λ x o hx=>by rw[ac,ab];exact hx) (by rw[ag];simp) (by
   unfold JG;rw[an];exact⟨la,_,lc,A,hA,λ x hx=>by cases hx;rfl,rfl⟩)
  refine⟨rfl,Ob,?_⟩;refine cast (congrArg (λ a=>XB Q6 93 a _ _) (Um _ (.t 6) (.pb lm) rfl).symm) ?_;exact hd.mono λ U' hq=>by(conv=>whnf);exact hq
 |some y=>
  have ay:=ay y rfl;subst ay;have aa:Jo 75 2 (.slice ya y.length yc) (y.flatMap encII) Y:=aa
  have ch:U5.sees (Addr.mk bb 0 none) (.slice ya y.length yc):=by
   have:=Jy (U:=U5) (b:=bb) (e:=68) (vs:=[.slice ya y.length yc]) (by rw[B];simp) 0 _ rfl;exact this
  have b7:Q7 U5 ya y.length 2 y λ x vs=>vs=encII x:=by
   have a0:=aa [];obtain⟨a2,l2,c2,e2,h2,h3⟩:=Acc.src (U:={ U5 with M:=Y++[] }) a0;obtain⟨rfl,-,-⟩:=Value.slice.inj e2
   refine(HG (enc:=encII) (n:=2) (λ _=>rfl) h3 (λ ad e=>?_) D1).mem (λ _ _ h=>h) (λ r Z=>by
    have Z:r∈Y:=by simpa using Z
    rw[B];simp[Z])
   subst e;rcases a0 with⟨e1,_,_⟩|⟨b',c',bx,cap',e1,_⟩
   .cases e1
   .cases e1;rfl
  have b6:Q7 U5 la (ci::q).length 2 (ci::q) λ x vs=>vs=encII x:=b5.mem az λ r Z=>by
   rw[bc]at Z;rw[B];simp at Z ⊢;rcases Z with Z|Z <;> simp[Z]
  have cg:y.length<=1000:=by
   refine a4 y ?_;cases s with
   |false=>
    have H:(if E then G else none)=some y:=H;cases E with
    |true=>exact .inr H
    |false=>cases H
   |true=>
    have H:ZD (if E then F else none) none=some y:=H;cases E with
    |true=>
     have H:ZD F none=some y:=H;refine .inl ?_;rw[<- H];cases F <;> rfl
    |false=>cases H
  repeat refine⟨rfl,?_⟩
  refine⟨_,ch,D7.any,(zC (ci::q) y la ya lc yc b6 b7 O1 cg).go λ _=>?_⟩
  repeat refine⟨rfl,?_⟩
  conv=>whnf
  apply Qg<;>intro hc
  .have hlt:QZ (ci::q) y<0:=by simpa using hc
   refine⟨rfl,Ym (b:=bb) (e:=68) (c:=[.slice ya y.length yc].toArray) (L₁:=[.cl fb [.bool true] 4]) (L₂:=A++(Y++U.M)) (vs:=[.slice la (ci::q).length lc]) (by
    rw[B];refine Perm.cons _ (Perm.cons _ ?_);exact perm_append_comm_assoc _ _ _) rfl Zz1 λ U6 ab ao af=>?_⟩
   refine⟨rfl,Wd (b:=fb) (e:=4) (c:=#[.bool true]) (vs:=[.bool true]) (M₀:=.cl bb [.slice la (ci::q).length lc] 68::(A++(Y++U.M))) [] af rfl Zz1 λ U7 ac ap ag=>?_⟩
   have hd:=fin (.cl fb [.bool true] 4::.cl bb [.slice la (ci::q).length lc] 68::A) (Y++U.M) U7 (ap.trans ao) (λ x o hx=>by rw[ac,ab];exact hx) (by rw[ag];simp) (by
    unfold JG;rw[an];show V5 fb bb (some (if QZ (ci::q) y<0 then ci::q else y)) _;rw[if_pos hlt];exact⟨la,_,lc,A,hA,λ x hx=>by cases hx;rfl,rfl⟩)
   refine⟨rfl,Ob,?_⟩;refine cast (congrArg (λ a=>XB Q6 93 a _ _) (Um _ (.t 6) (.pb lm) rfl).symm) ?_;exact hd.mono λ U' hq=>by(conv=>whnf);exact hq
  .have hlt:¬QZ (ci::q) y<0:=by simpa using hc
   have hd:=fin (.cl fb [.bool true] 4::.cl bb [.slice ya y.length yc] 68::Y) (A++U.M) U5 rfl (λ _ _ h=>h) (by rw[B];simp) (by
    unfold JG;rw[an];show V5 fb bb (some (if QZ (ci::q) y<0 then ci::q else y)) _;rw[if_neg hlt];exact⟨ya,_,yc,Y,aa,λ x hx=>by cases hx;rfl,rfl⟩)
   refine⟨rfl,Ob,?_⟩;refine cast (congrArg (λ a=>XB Q6 93 a _ _) (Um _ (.t 6) (.pb lm) rfl).symm) ?_;exact hd.mono λ U' hq=>by(conv=>whnf);exact hq
variable{H:FuncId}{cc:C}{rl:List RV}{args:List Value}{z A:Zk T}{x:Nat->Zk T}
section
variable{S:Sys P T}
def Zj.code(k:Zj P H m cc rl)(hm:P.follows .mixedOrders=true)(w:args.length<=m)
  (h:ZT S H none cc z x A (fm args) [] U):∃fd:Func,P.funcs[H]?=some fd/\fd.body=some (fd.body.getD .skip)/\fd.ntmps=m/\Zq S H none (fd.body.getD .skip) (Gz m z x A) { tmps:=args.toArray++Array.replicate (fd.ntmps-args.toArray.size) undef,defers:=[] } U:=by
 obtain⟨fd,mu,dets,hf,hb,f,rfl,B,-⟩:=k.ok;refine⟨fd,hf,hb,rfl,?_⟩
 have b:FR fd.ntmps { tmps:=args.toArray++Array.replicate (fd.ntmps-args.toArray.size) undef,defers:=[] } (fm args) []:=by
  refine⟨rfl,S3,λ t=>?_⟩;simp only[fm,Array.getD_eq_getD_getElem?,getD_eq_getElem?_getD,Array.getElem?_append,size_toArray,getElem?_toArray];split
  .rfl
  .rename_i hlt;rw[getElem?_eq_none O1,Array.getElem?_replicate];split <;> rfl
 subst f;exact Ga hm _ b h
end
def Q7.drop{a:Option Addr}{cap n:Nat}{α:Type}{l:List α}{R:α->List Value->Prop}(h:Q7 U a l.length n l R)(G:l.length<=cap){j:Nat}(H:j<=l.length):Q7 U (if cap=j then a else a.map (·.add (j*n))) (l.length-j) n (l.drop j) R:=by
 refine⟨S1,λ i x hx=>?_⟩;rw[getElem?_drop]at hx;have B:=(Zz4 hx);obtain⟨b,vs,e,f,w,hl,E⟩:=h.2 (j+i) x hx;rw[if_neg O1];refine⟨b.add (j*n),vs,by rw[e];rfl,by obtain⟨F,I,K⟩:=b;cases f;rw[Qo],w,hl,?_⟩;rw[show(b.add (j*n)).add (i*n)=b.add ((j+i)*n) by rw[pe b f,Nat.add_mul]];exact E
section
variable(g bcan bm bbk brt bwt lm fb bb:Nat)(i:Int)(T:Array Value)(todo:List Go.Item)
def Hx:List Value:=[.pb g,.pb bcan,.pb bm,.pb bbk,.pb brt,.pb bwt,.pb lm,.pb fb,.pb bb]
def V2:List Value:=.int .i64 i::Hx g bcan bm bbk brt bwt lm fb bb
def UK:Deferred:={ target:=.fn (.func 86) (Hx g bcan bm bbk brt bwt lm fb bb).toArray,args:=#[.int .i64 i] }
def V9:Frame:={ (default:Frame)with fn:=86,kind:=.deferred }
def GE:Deferred:={ target:=.fn (.func 87) #[],args:=#[]++#[.pb g] }
def wX:Qm prog 176 false 1 (Gu prog (UK g bcan bm bbk brt bwt lm fb bb i))=some []:=K1
def wY:Qj prog 176 false 1 (Gu prog (UK g bcan bm bbk brt bwt lm fb bb i))=R V9 { tmps:=(V2 g bcan bm bbk brt bwt lm fb bb i).toArray++Array.replicate (Tryz.f86.ntmps-(V2 g bcan bm bbk brt bwt lm fb bb i).toArray.size) undef,defers:=[] } [.code (Tryz.f86.body.getD .skip)] [Pe]:=K1
def wV:Qm prog 176 false 1 (Rf { fr V9 ⟨T,[GE g]⟩ todo with mode:=.returning } [Pe])=some []:=K1
def wW:Qj prog 176 false 1 (Rf { fr V9 ⟨T,[GE g]⟩ todo with mode:=.returning } [Pe])=T0 g T todo:=K1
end
variable{mu:Option ZO}{Stop:QI Tk}
section
def C6(g:Nat)(D:TM.Spec)(T:Array Value)(todo:List Go.Item)(ht:U₀.tok=⟨0,.wrk g D,mu⟩)(f:mu=none\/∃x s lo,mu=some (.lok x s .fin lo))(h:D U₀.M):J Q6 Stop false (Rf { fr V9 ⟨T,[GE g]⟩ todo with mode:=.returning } [Pe]) U₀:=by
 refine J.calm0 (wV g T todo) ?_;rw[wW];refine J.calm (b:=g) (by rw[ht];rfl) (zh g T todo) Q3 ?_;show J _ Stop false (Kf g T todo) U₀;exact .syn (QC.lay (Qn (SE.of_info (g:=Kf g T todo) (DZ g T todo))) ht f h Qe (W4 (DZ g T todo) rfl) (ML g T todo))
structure UD(b:Bk)(r:Nat)(w:Int)(m i:Nat)(mt:Option ZO)(lm fb bb:Nat)(Lf Lt:Option (List (Int×Int))):Prop where
 first:∀ci,b.cans[i]?=some ci->∀k q,(TM.parts (b.cans.drop (i+1)) m)[k]?=some q->(∀q'∈(TM.parts (b.cans.drop (i+1)) m).take k,b.good r w (ci::q')=false)->b.good r w (ci::q)=true->∃s lo,mt=some (.lok ⟨lm,169,JG fb bb Lf Lt⟩ s .idle lo)/\(if s then Lt else Lf)=some (ci::q)
 none:∀ci,b.cans[i]?=some ci->(∀q∈TM.parts (b.cans.drop (i+1)) m,b.good r w (ci::q)=false)->mt=none
def zu{U:Qa Tk}(h:BH)(b:Bk)(am:b.Ok)(ak:b.cans.Nodup)(r:Nat)(hr:r<b.rs.length)(w:Int)(i:Nat){bm bbk brt bb g:Nat}(hi:i<b.cans.length)
  (he:∀(U':Qa Tk)bfst,(∀x o,U.I x=some o->U'.I x=some o)->U'.tok=U.tok->Zi U' bfst #[.int .i64 i]->HV U' h b r w i n bfst bbk brt bwt) (ao:b.cans.length<=900)
  (T V:Option (List (Int×Int))) (M:∀x,T=some x\/V=some x->x.length<=1000) (ae:∀x y,T=some x->V=some y->(if QZ y x<0 then y else x)=(if QZ x y<0 then x else y))
  (m:Nat) (hm:m<=5) (ag:Zi U bm #[.int .i64 (m+1:Nat)]) (mt:Option ZO) (D:TM.Spec) (H:U.tok=⟨0,.wrk g D,mt⟩) (hw:UD b r w m i mt lm fb bb T V) {K:List Deferred->Qa Tk->Prop}
  (hK:∀U':Qa Tk,(∃mu,U'.tok=⟨0,.wrk g D,mu⟩/\(mu=none\/∃x s lo,mu=some (.lok x s .fin lo)))->K [GE g] U') :
  ZT Q6 86 none UU (λ _ ds U=>K ds U) (λ _ _ _ _=>False) (λ _ _ _=>False) (fm (V2 g n bm bbk brt bwt lm fb bb i)) [] U:=by
 obtain⟨ci,P⟩:∃ci,b.cans[i]?=some ci:=⟨_,getElem?_eq_getElem hi⟩
 conv=>whnf
 intro L U1 F B;have B:Zi U1 L #[.int .i64 i]:=B;have Z:=he U1 L F.imm F.tok B;have W:=ag.le F;obtain⟨ca,cc,af,ah,Y⟩:=Z.can;have ac:Z9 ((i:Int)+1):=I1
 have ad:Z9 (((m+1:Nat):Int)-1):=I1
 have aj:((m+1:Nat):Int)-1=(m:Int):=O1
 have G:(b.cans.drop (i+1)).length=b.cans.length-(i+1):=S1
 have Q:=Q7.drop (cap:=cc) ah Y (j:=i+1) O1;have an:=zr (U₀:=U1) h b am ak r hr w i (bcan:=n) (bfst:=L) (bbk:=bbk) (brt:=brt) (bwt:=bwt) (lm:=lm) (fb:=fb) (bb:=bb) (g:=g) (D:=D) P Z T V M ae m hm mt (F.tok.trans H) (hw.first ci P);have ab:∀f:Fm,f 1=.pb g->(#[]++Array.map (Zf f) #[Operand.tmp 1]:Array Value)=#[]++#[.pb g]:=λ f hf=>by simp[Zf,hf]
 refine⟨rfl,_,af.sees3 (o:=0) rfl,_,B.sees3 (o:=0) rfl,ac,i+1,b.cans.length,⟨O1,rfl,O1,Y⟩,_,W.sees3 (o:=0) rfl,ad,?_⟩
 conv=>whnf
 intro U2 N _
 have aa:=qU (S:=Q6) (U:=U2) (b.cans.drop (i+1)) _ (cc-(i+1)) (by rw[G];exact Q.lg N.lg.frz2 λ _ _ h=>h) O1 m O1 89 #[] _ D5.any (I:=λ k U'=>U'.tok=⟨0,.wrk g D,mt⟩/\∀q∈(TM.parts (b.cans.drop (i+1)) m).take k,b.good r w (ci::q)=false) (E:=λ U'=>∃s lo,U'.tok=⟨0,.wrk g D,some (.lok ⟨lm,169,JG fb bb T V⟩ s .fin lo)⟩)
  (λ k U1 U2 ai⟨h1,h2⟩=>⟨ai.tok.trans h1,h2⟩) (λ k p a cap U X Mc hp h0=>an k p a cap U X Mc hp (N.lg.frz2.trans h0)) ⟨N.tok.trans (F.tok.trans H),S1⟩
 rw[G]at aa;rw[aj];refine⟨D4.any,aa.mono ?_⟩;rintro v U3 (⟨rfl,-,ht,al⟩|⟨rfl,⟨s,lo,ht⟩,-⟩) -
 .have hmt:=hw.none ci P λ q hq=>al q (by simp_all)
  repeat apply R1
  conv=>whnf
  exact cast (congrArg (λ a=>K [{ target:=.fn (.func 87) #[],args:=a }] U3) (ab _ rfl).symm) (hK U3 ⟨mt,ht,.inl hmt⟩)
 .repeat apply R1
  conv=>whnf
  exact cast (congrArg (λ a=>K [{ target:=.fn (.func 87) #[],args:=a }] U3) (ab _ rfl).symm) (hK U3 ⟨_,ht,.inr ⟨_,_,_,rfl⟩⟩)
def zt{U:Qa Tk}(h:BH)(b:Bk)(Y:b.Ok)(X:b.cans.Nodup)(r:Nat)(hr:r<b.rs.length)(w:Int)(i:Nat){bcan bm bbk brt bb g:Nat}(hi:i<b.cans.length)
  (he:∀(U':Qa Tk)bfst,(∀x o,U.I x=some o->U'.I x=some o)->U'.tok=U.tok->Zi U' bfst #[.int .i64 i]->HV U' h b r w i bcan bfst bbk brt bwt) (N:b.cans.length<=900)
  (H L:Option (List (Int×Int))) (f:∀x,H=some x\/L=some x->x.length<=1000) (F:∀x y,H=some x->L=some y->(if QZ y x<0 then y else x)=(if QZ x y<0 then x else y))
  (m:Nat) (hm:m<=5) (M:Zi U bm #[.int .i64 (m+1:Nat)]) (Z:Option ZO) (G:U.tok=⟨0,.wrk g λ _=>True,Z⟩) (hw:UD b r w m i Z lm fb bb H L) (Stop:QI Tk) :
  J Q6 Stop false (Gu prog (UK g bcan bm bbk brt bwt lm fb bb i)) U:=by
 refine J.calm0 (wX ..) ?_;rw[wY]
 obtain⟨fd,W,ab,hN,B⟩:=hS.code (S:=Q6) Qf (args:=V2 g bcan bm bbk brt bwt lm fb bb i) (by simp[V2,Hx])
  (zu (K:=λ ds U'=>ds=[GE g]/\∃mu,U'.tok=⟨0,.wrk g λ _=>True,mu⟩/\(mu=none\/∃x s lo,mu=some (.lok x s .fin lo))) h b Y X r hr w i hi he N H L f F m hm M Z _ G hw λ U' h=>⟨rfl,h⟩)
 have:fd=Tryz.f86:=Option.some.inj (W.symm.trans Tryz.func86);subst this;refine J.body (fn:=86) (Q:=_) ⟨rfl,rfl,by simp[V9],S1⟩ B λ e' a' U' E=>?_;obtain⟨f',aa,V,E⟩:=E;cases e' with
 |normal=>
  obtain⟨rfl,mu,h2,h3⟩:=E;refine⟨.inl rfl,λ todo=>?_⟩;obtain⟨T,dd⟩:=a';have P:dd=[GE g]:=V.ds;subst P;exact C6 g _ T todo h2 h3 trivial
 |exit i=>exact E.elim
 |ret=>exact E.elim
