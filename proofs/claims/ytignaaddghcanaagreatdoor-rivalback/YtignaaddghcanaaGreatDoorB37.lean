/- Lemmas. No conditions. -/
import Derived.Test.YtignaaddghcanaaGreatDoorB36
import Derived.Test.YtignaaddghcanaaGreatDoorB33
import Derived.Test.YtignaaddghcanaaGreatDoorB04
import Derived.Test.YtignaaddghcanaaGreatDoorB29
set_option linter.all false
set_option maxRecDepth 100000
set_option maxHeartbeats 4000000
open List
open Go.Proofs.Tryz (prog)
namespace Go.TM
open Go.Proofs
variable{α:Type}
def WI{α:Type}(l:List α)(p:List α->Bool):Nat->Nat->Option (List α)
 |_,0=>none
 |m,n+1=>match(TM.parts l m).find? p with
  |some x=>some x
  |none=>WI l p (m+1) n
def MV(l:List α)(p:List α->Bool)(m n:Nat):WI l p m (n+1)=match(TM.parts l m).find? p with
  |some x=>some x
  |none=>WI l p (m+1) n:=rfl
variable{T:Type}{S:Sys prog T}{U:Qa T}{I:Nat->Qa T->Prop}{E:Qa T->Prop}{a:Option Addr}{l:List Int}
section
attribute [local irreducible] Qb Zp Wv
def qN(l:List (Int×Int))(la:Option Addr)(lc:Nat)(Q:Q8 U.frz la l.length 2 l (λ x vs=>vs=encII x))(hl:l.length<=1000)(f:Nat)(hm:f<=1000)(g:FuncId)(first z:Array Value)(hg:(prog.funcs[g]?.any λ fd=>fd.body.isSome&&fd.name != "runtime.NumGoroutine")=true)
  (Z:∀k U1 U2,U1.le U2->I k U1->I k U2) (ae:Gp S g first z encII 2 (TM.parts l f) I E U) (hI:I 0 U) :
  Qb S 89 #[.agg #[.slice la l.length lc],.int .i64 f,.func (.func g) first z] (λ v U'=>(v=.bool false/\U.frz.lg U'.frz/\I (TM.parts l f).length U')\/(v=.bool true/\E U'/\∀x o,U.I x=some o->U'.I x=some o)) U:=by
 refine Qb.post (R:=λ v U'=>(v=.bool false/\U.frz.lg U'.frz/\I (TM.parts l f).length U')\/(v=.bool true/\∃X' w,U'.M=X'++w/\E ⟨U'.I,w,U'.tok⟩/\∀x o,U.I x=some o->U'.I x=some o)) (Qb.of (args:=[_,_,_]) UE Qf S1 ?_) λ v U' hv=>?_
 .conv=>whnf
  intro b3 U1 ab L;have L:Zj U1 b3 #[.slice la l.length lc]:=L
  conv=>whnf
  intro b4 U2 V N;have N:Zj U2 b4 #[.int .i64 f]:=N
  conv=>whnf
  intro b5 U3 K P;have P:Zj U3 b5 #[.func (.func g) first z]:=P
  conv=>whnf
  intro b7 ad;refine⟨_,.refl _,rfl,Zv (vs:=[.func (.func 115) #[] #[.pb b4,.pb b5,.pb b3,.pb b7]]) ad rfl (by simp[Value.single]) λ U4 G X=>?_⟩;have F:=((ab.trans V).trans K).trans G;have ac:GG U4 l f g first z b4 b5 b3 b7:=⟨N.le (K.trans G),P.le G,⟨la,lc,L.le ((V.trans K).trans G),Q.lg F.lg.frz2 λ _ _ h=>h⟩,X⟩
  refine⟨_,X.sees3 (o:=0) rfl,VA.any,(qv l hl f hm g first z hg Z ae f [] 0 0 .nl U4 [] U4.M S1 O1 F.lg.frz2 ac .nil (λ i' q hq=>by rw[Nat.zero_add];exact hq) (Z 0 U U4 F hI)).mono ?_⟩;rintro v U5 (⟨rfl,Y,w,W,H⟩|⟨rfl,X',w,aa,hE,B⟩) -
  .rcases W with⟨_,_,hM⟩|⟨b,c,len,cap,e1,_⟩
   .rw[Nat.zero_add]at H
    repeat refine⟨rfl,?_⟩
    conv=>whnf
    refine .inl ⟨rfl,F.lg.frz2.trans Y,?_⟩;have:U5.M=w:=hM;obtain⟨i5,m5,t5⟩:=U5;simp only at this;subst this;exact H
   .cases e1
  .repeat refine⟨rfl,?_⟩
   conv=>whnf
   exact .inr ⟨rfl,X',w,aa,hE,λ x o hx=>B x o (F.imm x o hx)⟩
 .rcases hv with h|⟨rfl,X',w,hM,hE,B⟩
  .exact⟨U',.refl _,.inl h⟩
  .exact⟨{ U' with M:=w },Zz (by rw[hM];exact sublist_append_right ..),.inr ⟨rfl,hE,B⟩⟩
def qM(l:List Int)(la:Option Addr)(lc:Nat)(Q:Q8 U.frz la l.length 1 l (λ x vs=>vs=Zx x))(hl:l.length<=1000)(f:Nat)(hm:f<=1000)(g:FuncId)(first z:Array Value)(hg:(prog.funcs[g]?.any λ fd=>fd.body.isSome&&fd.name != "runtime.NumGoroutine")=true)
  (Z:∀k U1 U2,U1.le U2->I k U1->I k U2) (ae:Gp S g first z Zx 1 (TM.parts l f) I E U) (hI:I 0 U) :
  Qb S 99 #[.agg #[.slice la l.length lc],.int .i64 f,.func (.func g) first z] (λ v U'=>(v=.bool false/\U.frz.lg U'.frz/\I (TM.parts l f).length U')\/(v=.bool true/\E U'/\∀x o,U.I x=some o->U'.I x=some o)) U:=by
 refine Qb.post (R:=λ v U'=>(v=.bool false/\U.frz.lg U'.frz/\I (TM.parts l f).length U')\/(v=.bool true/\∃X' w,U'.M=X'++w/\E ⟨U'.I,w,U'.tok⟩/\∀x o,U.I x=some o->U'.I x=some o)) (Qb.of (args:=[_,_,_]) UJ Qf S1 ?_) λ v U' hv=>?_
 .conv=>whnf
  intro b3 U1 ab L;have L:Zj U1 b3 #[.slice la l.length lc]:=L
  conv=>whnf
  intro b4 U2 V N;have N:Zj U2 b4 #[.int .i64 f]:=N
  conv=>whnf
  intro b5 U3 K P;have P:Zj U3 b5 #[.func (.func g) first z]:=P
  conv=>whnf
  intro b7 ad;refine⟨_,.refl _,rfl,Zv (vs:=[.func (.func 139) #[] #[.pb b4,.pb b5,.pb b3,.pb b7]]) ad rfl (by simp[Value.single]) λ U4 G X=>?_⟩;have F:=((ab.trans V).trans K).trans G;have ac:GF U4 l f g first z b4 b5 b3 b7:=⟨N.le (K.trans G),P.le G,⟨la,lc,L.le ((V.trans K).trans G),Q.lg F.lg.frz2 λ _ _ h=>h⟩,X⟩
  refine⟨_,X.sees3 (o:=0) rfl,VB.any,(qR l hl f hm g first z hg Z ae f [] 0 0 .nl U4 [] U4.M S1 O1 F.lg.frz2 ac .nil (λ i' q hq=>by rw[Nat.zero_add];exact hq) (Z 0 U U4 F hI)).mono ?_⟩;rintro v U5 (⟨rfl,Y,w,W,H⟩|⟨rfl,X',w,aa,hE,B⟩) -
  .rcases W with⟨_,_,hM⟩|⟨b,c,len,cap,e1,_⟩
   .rw[Nat.zero_add]at H
    repeat refine⟨rfl,?_⟩
    conv=>whnf
    refine .inl ⟨rfl,F.lg.frz2.trans Y,?_⟩;have:U5.M=w:=hM;obtain⟨i5,m5,t5⟩:=U5;simp only at this;subst this;exact H
   .cases e1
  .repeat refine⟨rfl,?_⟩
   conv=>whnf
   exact .inr ⟨rfl,X',w,aa,hE,λ x o hx=>B x o (F.imm x o hx)⟩
 .rcases hv with h|⟨rfl,X',w,hM,hE,B⟩
  .exact⟨U',.refl _,.inl h⟩
  .exact⟨{ U' with M:=w },Zz (by rw[hM];exact sublist_append_right ..),.inr ⟨rfl,hE,B⟩⟩
def SH(S:TM.Sys prog T)(g:FuncId)(first b:Array Value)(p:List Int->Bool)(l:List Int)(U₀:Qa T):Prop:=
 ∀(q:List Int)(a:Option Addr)(cap:Nat)(U:Qa T),q.Sublist l->(∃X f,(∀x o,U₀.I x=some o->f x=some o)/\U=⟨f,X++U₀.M,U₀.tok⟩)->Z3 U.frz a q.length q->Qb S g (first.toList++[Value.slice a q.length cap]++b.toList).toArray (λ v U'=>v=.bool (p q)/\U'=U) U
def xP(h:Q8 U a l.length 1 l (λ x vs=>vs=Zx x)):Z3 U a l.length l:=by
 refine⟨rfl,λ i x B=>?_⟩;obtain⟨f,vs,e,z,rfl,_,w⟩:=h.2 i x B;have b:=w 0 (.int .i64 x) rfl;obtain⟨bb,E,F⟩:=f;cases z;refine⟨_,e,rfl,?_⟩;rw[Qo,Qo,Nat.add_zero]at b;rw[Qo];exact b
def DG(l:List Int)(la:Option Addr)(lc:Nat)(ai:Q8 U.frz la l.length 1 l (λ x vs=>vs=Zx x))(hl:l.length<=1000)(b:Nat)(hm:b<=900)(g:FuncId)(first z:Array Value)(hg:(prog.funcs[g]?.any λ fd=>fd.body.isSome&&fd.name != "runtime.NumGoroutine")=true)(p:List Int->Bool)
  (ax:SH S g first z p l U) :
  Qb S 62 #[.slice la l.length lc,.int .i64 b,.func (.func g) first z] (λ v U'=>(∃v1,v=.tuple #[v1,.bool (WI l p 0 (b+1)).isSome]/\JQ U'.frz v1 ((WI l p 0 (b+1)).getD []))/\U.le U') U:=by
 refine Qb.grown (R:=λ v U'=>∃v1,v=.tuple #[v1,.bool (WI l p 0 (b+1)).isSome]/\JQ U' v1 ((WI l p 0 (b+1)).getD [])) (λ v P V hl⟨v1,e,h1⟩=>⟨v1,e,h1.lg hl⟩) (Qb.of (args:=[_,_,_]) OD Qf S1 ?_)
 conv=>whnf
 intro b5 P F ag;have ag:Zj P b5 #[.func (.func g) first z]:=ag;refine⟨I1,?_⟩
 refine⟨Nat,λ i=>[(0,.slice la l.length lc),(5,.pb b5),(11,.int .i64 ((b:Int)+1)),(12,.int .i64 i)],
  λ i U'=>P.frz.lg U'.frz/\(∃X,U'.M=X++U.M)/\i<=b+1/\WI l p 0 (b+1)=WI l p i (b+1-i),λ i=>b+1-i,0,T1,⟨⟨λ _ _ h=>h,⟨[],rfl⟩,rfl⟩,⟨[],by rw[F.own];rfl⟩,O1,rfl⟩,?_⟩
 rintro i f V⟨aa,⟨X,hX⟩,hi,w⟩;have ap:Ja ((i:Int)+1):=I1
 repeat refine⟨rfl,?_⟩
 conv=>whnf
 apply Qg<;>intro hc
 .have hlt:i<b+1:=by simp at hc;omega
  rw[show b+1-i=(b+1-(i+1))+1 by omega,MV l p i]at w
  conv=>whnf
  intro b9 a0;refine⟨_,.refl _,?_⟩;have ac:P.frz.lg (V.put b9 (.cells #[.nl] 37)).frz:=aa;have al:Zj (V.put b9 (.cells #[.nl] 37)) b5 #[.func (.func g) first z]:=ag.imI aa.imm
  let ps:=TM.parts l i
  let J:Nat->Qa T->Prop:=λ k U'=>P.frz.lg U'.frz/\(∃Q,U'.M=.obj b9 (.cells #[Q] 37 (0,0))::(X++U.M))/\∀q∈ps.take k,p q=false
  let E:Qa T->Prop:=λ U'=>P.frz.lg U'.frz/\∃Q q,U'.M=.obj b9 (.cells #[Q] 37 (0,0))::(X++U.M)/\JQ U'.frz Q q/\ps.find? p=some q
  have hJ:∀k P V,P.le V->J k P->J k V:=λ k s1 s2 am⟨h1,⟨Q,hv⟩,h3⟩=>⟨h1.trans am.lg.frz2,⟨Q,am.own.trans hv⟩,h3⟩
  have az:Gp S 100 #[] #[.pb b9,.pb b5] Zx 1 ps J E (V.put b9 (.cells #[.nl] 37)):=by
   intro k q qa qc s Xs Mc hq h0 hr ay hM⟨Y,⟨Q,ae⟩,aj⟩;have ae:Mc=.obj b9 (.cells #[Q] 37 (0,0))::(X++U.M):=ae;subst ae;have ak:Zj s b5 #[.func (.func g) first z]:=al.imI h0.imm;have ab:=xP hr;have av:=(HX.1 (mem_of_getElem? hq)).1;refine Qb.of (args:=[_,_,_]) Fp Qf S1 ?_;refine⟨rfl,Wd (vs:=[.slice qa q.length qc]) Xs hM rfl (by simp[Value.single]) λ s1 W ao Z=>?_⟩;have ah:Zj s1 b5 #[.func (.func g) first z]:=ak.imI λ x o N=>by rw[W];exact N
   have hz:s.frz.lg s1.frz:=⟨λ x o N=>by show s1.I x=_;rw[W];exact N,⟨[],rfl⟩,ao⟩
   have ad:s1.tok=U.tok:=by
    have e1:s.tok=P.tok:=Y.tok;rw[ao,e1,F.tok]
   refine⟨_,ah.sees3 (o:=0) rfl,hg,(ax q qa qc s1 av ⟨Xs++(.cl b9 [.slice qa q.length qc] 37::X),s1.I,λ x o N=>by rw[W];exact Y.imm x o (F.imm x o N),by
    obtain⟨i1,m1,t1⟩:=s1;simp only at Z ad;subst ad;rw[Z];simp⟩ (ab.lg hz)).mono ?_⟩
   rintro _ s'⟨rfl,aw⟩-;obtain rfl:=aw.symm;cases an:p q with
   |false=>
    repeat refine⟨rfl,?_⟩
    conv=>whnf
    refine .inl ⟨rfl,hz,_,Z,⟨Y.trans hz,⟨_,rfl⟩,λ q' L=>?_⟩⟩;rw[Wf hq,mem_append]at L;rcases L with L|L
    .exact aj q' L
    .rw[mem_singleton.1 L];exact an
   |true=>
    repeat refine⟨rfl,?_⟩
    conv=>whnf
    refine .inr ⟨rfl,_,_,Z,⟨Y.trans hz,_,q,rfl,⟨qa,qc,rfl,ab.lg hz,ay.2⟩,?_⟩,λ x o N=>by rw[W];exact N⟩;rw[find?_eq_some_iff_getElem];obtain⟨hk,aq⟩:=List.getElem?_eq_some_iff.1 hq;refine⟨an,k,hk,aq,λ j hj=>?_⟩;have:=aj ps[j] (mem_take_iff_getElem.2 ⟨j,O1,rfl⟩);simp[this]
  refine⟨UJ.any,(qM (U:=V.put b9 (.cells #[.nl] 37)) l la lc (ai.lg (F.lg.frz2.trans ac) λ _ _ h=>h) hl i O1 100 #[] #[.pb b9,.pb b5] Fp.any hJ az ⟨ac,⟨_,by show _::V.M=_;rw[hX]⟩,S1⟩).mono ?_⟩;rintro v U3 (⟨rfl,-,B,⟨Q,K⟩,au⟩|⟨rfl,⟨B,Q,q,K,⟨qa,qc,rfl,ab⟩,G⟩,-⟩) -
  .have H:ps.find? p=none:=by
    rw[find?_eq_none];intro q hq;rw[au q (by rw[take_length];exact hq)];simp
   have H:(TM.parts l i).find? p=none:=H;rw[H]at w
   repeat refine⟨rfl,?_⟩
   refine⟨ap,?_⟩
   conv=>whnf
   exact⟨rfl,i+1,T1,⟨B,⟨_::X,K⟩,O1,w⟩,L1⟩
  .have G:(TM.parts l i).find? p=some q:=G;rw[G]at w;simp only at w
   repeat refine⟨rfl,?_⟩
   refine⟨_,Q9 [] K 0 _ rfl,?_⟩
   repeat refine⟨rfl,?_⟩
   conv=>whnf
   rw[w];exact⟨⟨_,rfl,⟨qa,qc,rfl,ab⟩⟩,⟨λ x o N=>B.imm x o (F.imm x o N),⟨_::X,K⟩,B.tok.trans F.tok⟩⟩
 .have hge:i=b+1:=by simp at hc;omega
  subst hge;rw[Nat.sub_self,WI]at w
  repeat refine⟨rfl,?_⟩
  conv=>whnf
  rw[w];exact⟨⟨_,rfl,.nil⟩,⟨λ x o N=>aa.imm x o (F.imm x o N),⟨X,hX⟩,aa.tok.trans F.tok⟩⟩
end
variable{b:Bk}{y:Cs}{n:Nat}
def JL(a b:Int×Int):Int:=if a=b then 0 else if a.1<b.1\/a.1=b.1/\a.2<b.2 then -1 else 1
def QX:List (Int×Int)->List (Int×Int)->Int
 |[],[]=>0
 |[],_::_=>-1
 |_::_,[]=>1
 |a::l,b::r=>if JL a b≠0 then JL a b else QX l r
structure Bk.Srt(b:Bk)(n:Nat):Prop where
 s:∀c∈b.cs,Xd c.af
 l:∀c∈b.cs,c.af.length<=n
def IG{b:Int}:∀{l:List Int}{m:Int},m<b->QU b (some m) l=0->(l.length:Int)<=b-1-m/\l.Pairwise (· < ·)/\∀x∈l,m<x
 |[],m,w,_=>⟨S3,.nil,S1⟩
 |n::l,m,w,h=>by
  rw[Pf]at h;split at h
  .rename_i hb;simp only[QR,Bool.and_eq_true,decide_eq_true_eq]at hb;simp only at h;split at h
   .cases h
   .obtain⟨h1,h2,h3⟩:=IG (l:=l) (m:=n) O1 h;refine⟨by rw[length_cons];omega,pairwise_cons.2 ⟨h3,h2⟩,λ x f=>?_⟩;rcases mem_cons.1 f with rfl|f
    .omega
    .have:=h3 x f;omega
  .cases h
def vg{b:Int}(z:0<=b)(h:QU b none l=0):(l.length:Int)<=b/\l.Pairwise (· < ·):=by
 cases l with
 |nil=>exact⟨by simpa using z,.nil⟩
 |cons n l=>
  rw[Pf]at h;split at h
  .rename_i hb';simp only[QR,Bool.and_eq_true,decide_eq_true_eq]at hb';obtain⟨B,f,w⟩:=IG (l:=l) (m:=n) O1 h;exact⟨by rw[length_cons];omega,pairwise_cons.2 ⟨w,f⟩⟩
  .cases h
def Bk.Ok.asc(h:b.Ok)(w:y∈b.cs):y.af.length<=5/\y.af.Pairwise (· < ·):=by
 have B:b.nc<=5:=by have:=h.nc;unfold Bk.nc;omega
 obtain⟨z,f⟩:=vg (b:=b.nc) (by unfold Bk.nc;omega) (h.ri y w);exact⟨O1,f⟩
def Bk.Ok.srt(h:b.Ok):b.Srt 5:=⟨λ c f=>(h.asc f).2.imp λ h=>Int.le_of_lt h,λ c f=>(h.asc f).1⟩
def Bk.Ok.sml(h:b.Ok):b.Sml:=by
 have z:=h.nr;have B:=h.nc;refine⟨O1,O1,λ c f=>⟨?_,λ g w=>?_,?_⟩⟩
 .have:=h.gl c f;omega
 .have:=(h.gs c f g w).1;omega
 .have:=(h.asc f).1;omega
def Bk.Srt.sty{b:Bk}{n:Nat}(h:b.Srt n)(s:Int×Int)(B:s.1.toNat<b.cs.length):(b.sty s).Srt (n+1):=by
 have z:b.cas s.1.toNat∈b.cs:=by
  simp only[Bk.cas,getD_eq_getElem?_getD,getElem?_eq_getElem B,Option.getD_some];exact getElem_mem B
 refine⟨λ c f=>?_,λ c f=>?_⟩
 .rcases mem_or_eq_of_mem_set f with w|rfl
  .exact h.s c w
  .exact S4 _ _ (h.s _ z)
 .rcases mem_or_eq_of_mem_set f with w|rfl
  .have:=h.l c w;omega
  .have:=h.l _ z;show(ZA _ _).length<=_;rw[(VP _ _).length_eq];simp;omega
def Bk.sty_len(b:Bk)(s:Int×Int):(b.sty s).cs.length=b.cs.length:=by simp[Bk.sty]
def Bk.stys_snoc(b:Bk)(l:List (Int×Int))(s:Int×Int):b.stys (l++[s])=(b.stys l).sty s:=by simp[Bk.stys]
def Bk.stys_len(b:Bk)(l:List (Int×Int)):(b.stys l).cs.length=b.cs.length:=by
 induction l generalizing b with
 |nil=>rfl
 |cons s l f=>exact(f (b.sty s)).trans (b.sty_len s)
def Bk.stys_srt(h:b.Srt n):∀(l:List (Int×Int)),(∀s∈l,s.1.toNat<b.cs.length)->(b.stys l).Srt (n+l.length):=by
 intro l
 induction l generalizing b n with
 |nil=>exact λ _=>h
 |cons s l z=>
  intro w;have:=z (h.sty s (w s S1)) λ B f=>by rw[b.sty_len];exact w B (by simp[f])
  rw[length_cons,show n+(l.length+1)=n+1+l.length by omega];exact this
section
attribute [local irreducible] Qb Zp Wv
theorem DE(h:BH)(b:Bk)(Z:Zq U.frz h b)(ab:b.cs.length<=1000):Qb S 63 #[h.v] (λ v U'=>Jw U'.frz v ((range b.cs.length).map λ(k:Nat)=>(k:Int))/\U.le U') U:=by
 refine Qb.ints (e:=3) (Qb.of (args:=[_]) OE Qf S1 ?_);have aa:=Z.cs.1
 repeat refine⟨rfl,?_⟩
 conv=>whnf
 intro B X F L;have L:Zj X B #[.slice h.ra h.rl h.rc,.slice h.ca h.cl h.cc]:=L;refine⟨_,L.sees3 (o:=1) rfl,Nat×Value,λ y=>[(3,y.2),(8,.int .i64 h.cl),(9,.int .i64 y.1)],λ y U'=>(∀x o,U.I x=some o->U'.I x=some o)/\U'.tok=U.tok/\Acc 3 1 y.2 (((range y.1).map λ(k:Nat)=>(k:Int)).map λ n=>.int .i64 n) U'.M U.M/\y.1<=h.cl,λ y=>h.cl-y.1,(0,.nl),T1,⟨F.imm,F.tok,by rw[F.own];exact .nil,O1⟩,?_⟩;rintro⟨i,v⟩f Y⟨T,W,w,hi⟩;simp only at w hi;obtain⟨sa,sl,sc,rfl,ac,-⟩:=Acc.src (U:=Y) w;have P:Ja ((i:Int)+1):=I1
 repeat refine⟨rfl,?_⟩
 conv=>whnf
 apply Qg<;>intro V
 .have hlt:i<h.cl:=by simpa using V
  conv=>whnf
  intro K H;refine Zi H λ Q G z=>?_;have z:Zj Q K #[.int .i64 i]:=z
  conv=>whnf
  refine Wn (v:=.slice sa sl sc) (cs:=((range i).map λ(k:Nat)=>(k:Int)).map λ n=>.int .i64 n) (new:=[.int .i64 (i:Int)]) (M₀:=U.M) H0 rfl rfl (by rw[G.own];exact w) (.inr ⟨_,rfl,z.rd⟩) rfl (by simp[Value.single]) S3 λ v' M' N _=>?_;have E:Acc 3 1 v' (((range (i+1)).map λ(k:Nat)=>(k:Int)).map λ n=>.int .i64 n) M' U.M:=by rw[range_succ,map_append,map_append];exact N
  obtain⟨ta,tl,tc,rfl,-,-⟩:=Acc.src (U:={ Q with M:=M' }) E;refine⟨P,?_⟩
  conv=>whnf
  exact⟨rfl,(i+1,.slice ta tl tc),T1,⟨λ x o h=>G.imm x o (T x o h),G.tok.trans W,E,by show i+1<=h.cl;omega⟩,L1⟩
 .have hge:i=b.cs.length:=by simp at V;omega
  subst hge
  repeat refine⟨rfl,?_⟩
  conv=>whnf
  exact⟨w,T,W⟩
def UL:G1 prog 60 (Ym prog 60):=.of K1
def qh(x y:Int×Int):Qb S 96 #[.agg #[.int .i64 x.1,.int .i64 x.2],.agg #[.int .i64 y.1,.int .i64 y.2]] (λ v U'=>v=.int .i64 (JL x y)/\U'=U) U:=by
 obtain⟨a,b⟩:=x;obtain⟨c,d⟩:=y;refine Qb.pure' (Qb.of (args:=[_,_]) UI Qf S1 ?_)
 repeat refine⟨rfl,?_⟩
 conv=>whnf
 intro b2 K H f;have f:Zj K b2 #[.int .i64 a,.int .i64 b]:=f
 conv=>whnf
 intro b3 L E h;have h:Zj L b3 #[.int .i64 c,.int .i64 d]:=h;have f:=f.le E;have w:=(H.trans E).lg;refine⟨_,⟨rfl,f.rd⟩,?_⟩;refine⟨_,⟨rfl,h.rd⟩,?_⟩
 conv=>whnf
 refine vE UL (vs:=[.int .i64 a,.int .i64 b]) (ws:=[.int .i64 c,.int .i64 d]) rfl rfl K1 K1 ?_
 have I:ZE [.int .i64 a,.int .i64 b] [.int .i64 c,.int .i64 d]=decide ((a,b)=(c,d)):=by
  simp[ZE,HM,Prod.mk.injEq,Bool.decide_and];rfl
 rw[I];by_cases e:(a,b)=(c,d)
 .have z:JL (a,b) (c,d)=0:=by unfold JL;rw[if_pos e]
  rw[decide_eq_true e,z]
  repeat refine⟨rfl,?_⟩
  conv=>whnf
  exact w
 rw[decide_eq_false e];have N:¬(a=c/\b=d):=λ⟨F,G⟩=>e (by rw[F,G]);refine⟨_,f.sees3 (o:=0) rfl,_,h.sees3 (o:=0) rfl,?_⟩
 repeat refine⟨rfl,?_⟩
 conv=>whnf
 apply Jt<;>intro B
 .have F:¬a<c:=by simpa using B
  refine⟨_,f.sees3 (o:=0) rfl,_,h.sees3 (o:=0) rfl,?_⟩
  repeat refine⟨rfl,?_⟩
  conv=>whnf
  apply Jt<;>intro B
  .have G:a=c:=by simpa using B
   refine⟨_,f.sees3 (o:=1) rfl,_,h.sees3 (o:=1) rfl,?_⟩
   repeat refine⟨rfl,?_⟩
   conv=>whnf
   apply Qg<;>intro B
   .have h3:b<d:=by simpa using B
    have z:JL (a,b) (c,d) = -1:=by unfold JL;rw[if_neg e,if_pos (.inr ⟨G,h3⟩)]
    rw[z]
    repeat refine⟨rfl,?_⟩
    conv=>whnf
    exact w
   .have h3:¬b<d:=by simpa using B
    have z:JL (a,b) (c,d)=1:=by unfold JL;rw[if_neg e,if_neg (by simp only;omega)]
    rw[z]
    repeat refine⟨rfl,?_⟩
    conv=>whnf
    exact w
  .have G:a≠c:=by simpa using B
   have z:JL (a,b) (c,d)=1:=by unfold JL;rw[if_neg e,if_neg (by simp only;omega)]
   rw[z]
   repeat refine⟨rfl,?_⟩
   conv=>whnf
   exact w
 .have F:a<c:=by simpa using B
  have z:JL (a,b) (c,d) = -1:=by unfold JL;rw[if_neg e,if_pos (.inl F)]
  rw[z]
  repeat refine⟨rfl,?_⟩
  conv=>whnf
  exact w
end
variable{U':Qa T}{L:Addr}{v:Value}{h:BH}{M₀:List Qw}{P:Program}{F:Qw}{k:Nat}
def Qa.sees.mem(h:U.sees L v)(f:∀x o,U.I x=some o->U'.I x=some o)(b:∀r∈U.M,r∈U'.M):U'.sees L v:=
 ⟨h.1,h.2.imp (λ⟨c,t,fr,x,y⟩=>⟨c,t,fr,x.imp (f _ _) (b _),y⟩) λ⟨t,n,x⟩=>⟨t,n,b _ x⟩⟩
def Jj.mem{a:Addr}{vs:List Value}(h:Jj U a vs)(b:∀x o,U.I x=some o->U'.I x=some o)(f:∀r∈U.M,r∈U'.M):Jj U' a vs:=λ i v w=>(h i v w).mem b f
def Q8.mem{a:Option Addr}{len n:Nat}{α:Type}{l:List α}{R:α->List Value->Prop}(h:Q8 U a len n l R)(b:∀x o,U.I x=some o->U'.I x=some o)(f:∀r∈U.M,r∈U'.M):Q8 U' a len n l R:=
 ⟨h.1,λ i x w=>let ⟨ad,vs,e,s,r,hl,hr⟩:=h.2 i x w;⟨ad,vs,e,s,r,hl,hr.mem b f⟩⟩
def Src.mem{a:Option Addr}{cs:List Value}(h:Src U a cs)(f:∀x o,U.I x=some o->U'.I x=some o)(w:∀r∈U.M,r∈U'.M):Src U' a cs:=h.imp id λ⟨b,e,r⟩=>⟨b,e,r.mem f w⟩
def QQ.mem(k:QQ U h b M₀):∀r∈M₀,r∈U.M:=by
 obtain⟨z,A,-,-,-,f⟩:=k.ex;intro r w;rw[f.mem_iff];simp[w]
def QQ.imI(k:QQ U h b M₀)(w:∀x o,U.I x=some o->U'.I x=some o)(E:U'.tok=U.tok)(z:U'.M.Perm U.M):QQ U' h b M₀:=
 have f:U.frz.lg U'.frz:=⟨w,⟨[],rfl⟩,E⟩
 let ⟨ps,A,h1,h2,h3,h4⟩:=k.ex
 ⟨⟨ps,A,h1,λ p B=>(h2 p B).lg f,h3,z.trans h4⟩,k.rs.lg f λ _ _ h=>h,k.rl,k.rn,k.rc⟩
def QQ.pick(k:QQ U h b (F::M₀)):∃X Y,U.M=X++F::Y/\(∀(U':Qa T)z,(∀x q,U.I x=some q->U'.I x=some q)->U'.tok=U.tok->U'.M=X++z::Y->QQ U' h b (z::M₀))/\(X++Y).Sublist U.M/\QQ { U with M:=X++Y } h b M₀:=by
 obtain⟨X,Y,e⟩:=append_of_mem (k.mem F S1);obtain⟨w,A,B,E,G,L⟩:=k.ex
 have f:(X++Y).Perm (A++(w.flatMap (·.2.F)++M₀)):=by
  have H:(F::(X++Y)).Perm U.M:=by rw[e];exact perm_middle.symm
  have K:(A++(w.flatMap (·.2.F)++F::M₀)).Perm (F::(A++(w.flatMap (·.2.F)++M₀))):=by
   rw[<- append_assoc,<- append_assoc];exact perm_middle
  exact(H.trans (L.trans K)).cons_inv
 refine⟨X,Y,e,λ U' z N Q P=>?_,?_,⟨⟨w,A,B,λ p f=>(E p f).lg ⟨λ _ _ h=>h,⟨[],rfl⟩,rfl⟩,G,f⟩,k.rs.lg ⟨λ _ _ h=>h,⟨[],rfl⟩,rfl⟩ λ _ _ h=>h,k.rl,k.rn,k.rc⟩⟩
 .have hl:U.frz.lg U'.frz:=⟨N,⟨[],rfl⟩,Q⟩;refine⟨⟨w,A,B,λ p f=>(E p f).lg hl,G,?_⟩,k.rs.lg hl λ _ _ h=>h,k.rl,k.rn,k.rc⟩;rw[P];refine perm_middle.trans ((f.cons z).trans ?_);rw[<- append_assoc,<- append_assoc];exact perm_middle.symm
 .rw[e];exact Sublist.append_left (sublist_cons_self _ _) _
def vH(a b:Int×Int)(l r:List (Int×Int)):QX (a::l) (b::r)=if JL a b≠0 then JL a b else QX l r:=rfl
def vI(a:Int×Int)(l:List (Int×Int)):QX (a::l) []=1:=rfl
def vJ(b:Int×Int)(r:List (Int×Int)):QX [] (b::r) = -1:=rfl
def vK:QX [] []=0:=rfl
def Bk.cas_mem(h:k<b.cs.length):b.cas k∈b.cs:=by
 simp only[Bk.cas,getD_eq_getElem?_getD,getElem?_eq_getElem h,Option.getD_some];exact getElem_mem h
section
attribute [local irreducible] Qb Zp Wv
def q_(l r:List (Int×Int))(a a':Option Addr)(c W:Nat)(hl:Q8 U a l.length 2 l (λ x vs=>vs=encII x))(hr:Q8 U a' r.length 2 r (λ x vs=>vs=encII x))(h1:l.length<=1000)(h2:r.length<=1000) :
  Qb S 95 #[.slice a l.length c,.slice a' r.length W,.func (.func 96) #[] #[]] (λ v U'=>v=.int .i64 (QX l r)/\U'=U) U:=by
 refine Qb.pure' (Qb.of (args:=[_,_,_]) UH Qf S1 ?_)
 refine⟨Nat,λ i=>[(0,.slice a l.length c),(1,.slice a' r.length W),(2,.func (.func 96) #[] #[]),(11,.slice a l.length c),(12,.int .i64 l.length),(13,.int .i64 i)],
  λ i U'=>U.lg U'/\i<=l.length/\i<=r.length/\QX l r=QX (l.drop i) (r.drop i),λ i=>l.length-i,0,T1,⟨(Qa.le.refl _).lg,O1,O1,rfl⟩,?_⟩
 rintro i f U1⟨E,hi,aa,b⟩;have T:Ja ((i:Int)+1):=I1
 repeat refine⟨rfl,?_⟩
 conv=>whnf
 apply Qg<;>intro z
 .have hlt:i<l.length:=by simpa using z
  obtain⟨Z,x,vs,hx,rfl,ab,rfl,-,V⟩:=(hl.lg E λ _ _ h=>h).at hlt;rw[Ha hx]at b;refine⟨Z,i,⟨rfl,rfl,hlt⟩,_,⟨rfl,V⟩,?_⟩
  conv=>whnf
  intro b8 P;refine⟨_,.refl _,rfl,Zv (vs:=encII x) P rfl (by simp[encII,Value.single]) λ U2 L G=>?_⟩;have w:=E.trans L.lg
  repeat refine⟨rfl,?_⟩
  conv=>whnf
  apply Qg<;>intro z
  .have hge:r.length<=i:=by simpa using z
   rw[drop_eq_nil_of_le hge,vI]at b;rw[b]
   repeat refine⟨rfl,?_⟩
   conv=>whnf
   exact w
  have F:i<r.length:=by simp at z;omega
  obtain⟨K,y,vs,hy,rfl,X,rfl,-,I⟩:=(hr.lg w λ _ _ h=>h).at F;rw[Ha hy,vH]at b;refine⟨K,i,⟨rfl,rfl,F⟩,_,⟨rfl,I⟩,?_⟩
  conv=>whnf
  intro b9 Q;refine⟨_,.refl _,rfl,Zv (vs:=encII y) Q rfl (by simp[encII,Value.single]) λ Y H N=>?_⟩;have B:=w.trans H.lg;have G:Zj Y b8 (encII x).toArray:=G.le H;refine⟨_,⟨rfl,G.rd⟩,?_⟩;refine⟨_,⟨rfl,N.rd⟩,?_⟩;refine⟨UI.any,(qh x y).go λ _=>?_⟩
  repeat refine⟨rfl,?_⟩
  conv=>whnf
  apply Qg<;>intro z
  .have hne:JL x y≠0:=by simpa using z
   rw[if_pos hne]at b;rw[b]
   repeat refine⟨rfl,?_⟩
   conv=>whnf
   exact B
  .have hne:¬JL x y≠0:=by simpa using z
   rw[if_neg hne]at b
   repeat refine⟨rfl,?_⟩
   refine⟨T,?_⟩
   conv=>whnf
   exact⟨rfl,i+1,T1,⟨B,O1,O1,b⟩,L1⟩
 .have hge:i=l.length:=by simp at z;omega
  subst hge;rw[drop_length]at b
  repeat refine⟨rfl,?_⟩
  conv=>whnf
  apply Qg<;>intro z
  .have hlt:l.length<r.length:=by simpa using z
   have:r.drop l.length=r[l.length]::r.drop (l.length+1):=drop_eq_getElem_cons hlt;rw[this,vJ]at b;rw[b]
   repeat refine⟨rfl,?_⟩
   conv=>whnf
   exact E
  .have hge:r.length<=l.length:=by simp at z;omega
   rw[drop_eq_nil_of_le hge,vK]at b;rw[b]
   repeat refine⟨rfl,?_⟩
   conv=>whnf
   exact E
def qq(h:BH)(b:Bk)(hb:Zq U.frz h b)(hs:b.Sml)(l:List (Int×Int))(a:Option Addr)(c:Nat)(hl:Q8 U a l.length 2 l (λ x vs=>vs=encII x))(a4:l.length<=6)(al:b.Srt 5)(ah:∀s∈l,0<=s.1/\s.1.toNat<b.cs.length) :
  Qb S 91 #[h.v,.slice a l.length c] (λ v U'=>(∃w:BH,v=w.v/\QQ U' w (b.stys l) U.M)/\(∀x o,U.I x=some o->U'.I x=some o)/\U'.tok=U.tok) U:=by
 have aq:Qb S 91 #[h.v,.slice a l.length c] (λ v U'=>(∃(w:BH)(o:Qw),v=w.v/\QQ U' w (b.stys l) (o::U.M))/\(∀x o,U.I x=some o->U'.I x=some o)/\U'.tok=U.tok) U:=by
  refine Qb.of (args:=[_,_]) UG Qf S1 ?_
  repeat refine⟨rfl,?_⟩
  conv=>whnf
  intro B U1 G hB;have hB:Zj U1 B #[.slice h.ra h.rl h.rc,.slice h.ca h.cl h.cc]:=hB
  conv=>whnf
  intro b4 a5;refine⟨_,.refl _,?_⟩;have aa:=Z2 (U:=U1) b4 (.cells #[.nl,.nl] 111);refine⟨_,⟨rfl,(hB.lg aa).rd⟩,?_⟩;refine⟨Fx.any,(MO (S:=S) (U:=U1.put b4 (.cells #[.nl,.nl] 111)) h b (hb.lg (G.lg.frz2.trans aa.frz2)) hs).mono ?_⟩;rintro _ U2⟨⟨w,rfl,F⟩,L,T⟩-;have au:∀x o,U.I x=some o->U2.I x=some o:=λ x o z=>L x o (G.imm x o z);have a2:U2.tok=U.tok:=T.trans G.tok
  have F:QQ U2 w b (.cl b4 [.nl,.nl] 111::U.M):=by
   have e:(U1.put b4 (.cells #[.nl,.nl] 111)).M=.cl b4 [.nl,.nl] 111::U.M:=by show _::U1.M=_;rw[G.own]
   rw[<- e];exact F
  clear aa L T
  conv=>whnf
  intro b5 aw;refine⟨_,.refl _,rfl,Zv (vs:=[.slice w.ra w.rl w.rc,.slice w.ca w.cl w.cc]) aw rfl (by simp[Value.single]) λ U3 W K=>?_⟩;have K:Zj U3 b5 #[.slice w.ra w.rl w.rc,.slice w.ca w.cl w.cc]:=K
  refine⟨Nat,λ i=>[(1,.slice a l.length c),(4,.pb b4),(5,.pb b5),(10,.slice a l.length c),(11,.int .i64 l.length),(12,.int .i64 i)],
   λ i U'=>U3.frz.lg U'/\i<=l.length/\QQ U' w (b.stys (l.take i)) (.cl b4 [.nl,.nl] 111::U.M),λ i=>l.length-i,0,T1,⟨⟨λ _ _ h=>h,⟨_,(append_nil _).symm⟩,rfl⟩,O1,F.le W⟩,?_⟩
  rintro i f U4⟨E,hi,F⟩;have ai:Ja ((i:Int)+1):=I1
  have ab:∀x o,U.I x=some o->U4.I x=some o:=λ x o z=>E.imm x o (W.imm x o (au x o z))
  repeat refine⟨rfl,?_⟩
  conv=>whnf
  apply Qg<;>intro hc
  .have hlt:i<l.length:=by simpa using hc
   obtain⟨ad,x,vs,z,rfl,a6,rfl,-,a1⟩:=(hl.mem ab λ r hr=>F.mem r (mem_cons_of_mem _ hr)).at hlt;obtain⟨a7,ap⟩:=ah x (mem_of_getElem? z);refine⟨ad,i,⟨rfl,rfl,hlt⟩,_,⟨rfl,a1⟩,?_⟩
   conv=>whnf
   intro b7 ax;refine⟨_,.refl _,rfl,Zv (vs:=encII x) ax rfl (by simp[encII,Value.single]) λ U5 H av=>?_⟩;have ag:Zj U5 b5 #[.slice w.ra w.rl w.rc,.slice w.ca w.cl w.cc]:=K.imI λ x o z=>H.imm x o (E.imm x o z);refine⟨_,⟨rfl,ag.rd⟩,?_⟩;refine⟨_,⟨rfl,av.rd⟩,?_⟩;have ak:=Bk.stys_srt al (l.take i) λ s hs=>(ah s (mem_of_mem_take hs)).2;have Q:=Bk.cas_mem (b:=b.stys (l.take i)) (k:=x.1.toNat) (by rw[Bk.stys_len];exact ap);have ay:=ak.l _ Q;have a3:((x.1.toNat:Nat):Int)=x.1:=O1
   have am:=zt (S:=S) (U:=U5) w (b.stys (l.take i)) _ (F.le H) x.1.toNat x.2 (by rw[Bk.stys_len];exact ap) (ak.s _ Q) (by rw[length_take]at ay;omega);rw[a3]at am;refine⟨Fy.any,am.mono ?_⟩;rintro v U6⟨a0,ac,ao⟩-;have Z:U3.frz.lg U6:=⟨λ x o z=>ac x o (H.imm x o (E.imm x o z)),⟨_,(append_nil _).symm⟩,ao.trans (H.tok.trans E.tok)⟩;refine⟨ai,?_⟩
   conv=>whnf
   exact⟨rfl,i+1,T1,⟨Z,O1,by rw[Wf z,Bk.stys_snoc];exact a0⟩,L1⟩
  .have hge:i=l.length:=by simp at hc;omega
   subst hge;rw[take_length]at F;have ae:Zj U4 b5 #[.slice w.ra w.rl w.rc,.slice w.ca w.cl w.cc]:=K.imI E.imm;obtain⟨X,Y,hM,aj,-,-⟩:=F.pick;refine⟨_,⟨rfl,ae.rd⟩,?_⟩;refine⟨rfl,Wd (vs:=[.slice w.ra w.rl w.rc,.slice w.ca w.cl w.cc]) X hM rfl (by simp[Value.single]) λ U5 N V P=>?_⟩;refine⟨_,⟨rfl,Q9 X P⟩,⟨w,_,rfl,aj U5 _ (λ x q z=>by rw[N];exact z) V P⟩,λ x o z=>by rw[N];exact ab x o z,?_⟩;rw[V];exact E.tok.trans (W.tok.trans a2)
 refine aq.post λ v U'⟨⟨w,o,hv,F⟩,hI,ht⟩=>?_;obtain⟨X,Y,-,-,an,az⟩:=F.pick;exact⟨_,Zz an,⟨w,hv,az⟩,hI,ht⟩
end
variable{i:Nat}
def Bk.canI(b:Bk)(i m:Nat):List (Int×Int):=((range m).filter λ k=>k != i&&!(b.cas i).af.contains (k:Int)).map λ(k:Nat)=>((i:Int),(k:Int))
def Bk.cansTo(b:Bk)(i:Nat):List (Int×Int):=(range i).flatMap λ i=>b.canI i b.cs.length
def Bk.cansTo_all(b:Bk):b.cansTo b.cs.length=b.cans:=rfl
def Bk.cansTo_succ(b:Bk)(i:Nat):b.cansTo (i+1)=b.cansTo i++b.canI i b.cs.length:=by simp[Bk.cansTo,range_succ]
def Bk.canI_succ(b:Bk)(i m:Nat):b.canI i (m+1)=b.canI i m++(if(m != i&&!(b.cas i).af.contains (m:Int))=true then[((i:Int),(m:Int))]else[]):=by
 unfold Bk.canI;rw[range_succ,filter_append,map_append];congr 1;by_cases h:(m != i&&!(b.cas i).af.contains (m:Int))=true
 .rw[if_pos h,show List.filter (λ k=>k != i&&!(b.cas i).af.contains ((k:Nat):Int)) [m]=[m] from filter_cons_of_pos (p:=λ k=>k != i&&!(b.cas i).af.contains ((k:Nat):Int)) h];rfl
 .rw[if_neg h,show List.filter (λ k=>k != i&&!(b.cas i).af.contains ((k:Nat):Int)) [m]=[] from filter_cons_of_neg (p:=λ k=>k != i&&!(b.cas i).af.contains ((k:Nat):Int)) h];rfl
def Bk.canI_len(b:Bk)(i m:Nat):(b.canI i m).length<=m:=by
 unfold Bk.canI;rw[length_map];exact Nat.le_trans (length_filter_le _ _) S1
def Bk.cansTo_len(b:Bk):∀i,(b.cansTo i).length<=i*b.cs.length
 |0=>by simp[Bk.cansTo]
 |i+1=>by
  rw[Bk.cansTo_succ,length_append,Nat.succ_mul];have:=b.cansTo_len i;have:=b.canI_len i b.cs.length;omega
def Bk.cas_at(h:b.cs[i]?=some y):b.cas i=y:=by simp[Bk.cas,getD_eq_getElem?_getD,h]
section
attribute [local irreducible] Qb Zp Wv
def Mj(h:BH)(b:Bk)(hb:Zq U.frz h b)(aq:b.cs.length<=5):Qb S 86 #[h.v] (λ v U'=>(∃a c,v=.slice a b.cans.length c/\Q8 U'.frz a b.cans.length 2 b.cans (λ x vs=>vs=encII x)/\b.cans.length<=c/\∀ad,a=some ad->ad.spot=none)/\U.le U') U:=by
 have a2:=hb.cs.1
 have ak:Qb S 86 #[h.v] (λ v U'=>Acc 60 2 v (b.cans.flatMap encII) U'.M U.M/\(∀x o,U.I x=some o->U'.I x=some o)/\U'.tok=U.tok) U:=by
  refine Qb.of (args:=[_]) UD Qf S1 ?_
  repeat refine⟨rfl,?_⟩
  conv=>whnf
  intro B U1 K hB;have hB:Zj U1 B #[.slice h.ra h.rl h.rc,.slice h.ca h.cl h.cc]:=hB;refine⟨_,hB.sees3 (o:=1) rfl,Nat×Value,λ y=>[(1,.pb B),(3,y.2),(9,.slice h.ca h.cl h.cc),(10,.int .i64 h.cl),(11,.int .i64 y.1)],λ y U'=>U1.frz.lg U'/\Acc 60 2 y.2 ((b.cansTo y.1).flatMap encII) U'.M U.M/\y.1<=h.cl,λ y=>h.cl-y.1,(0,.nl),T1,⟨⟨λ _ _ h=>h,⟨_,(append_nil _).symm⟩,rfl⟩,by rw[K.own];exact .nil,O1⟩,?_⟩;rintro⟨i,v⟩f U2⟨L,w,hi⟩;simp only at w hi;obtain⟨sa,sl,sc,rfl,a6,-⟩:=Acc.src (U:=U2) w;have aw:Ja ((i:Int)+1):=I1
  have ab:U.frz.lg U2.frz:=K.lg.frz2.trans L.frz2
  repeat refine⟨rfl,?_⟩
  conv=>whnf
  apply Qg<;>intro P
  .have hlt:i<h.cl:=by simpa using P
   obtain⟨ad,c,ga,gl,gc,aa,al,ac,V,au,a0,ax,-,-,ha,ao,az⟩:=(hb.lg ab).case hlt;have X:=Bk.cas_at V;refine⟨ad,i,⟨au,rfl,hlt⟩,_,⟨rfl,ax.lg Qr⟩,?_⟩
   conv=>whnf
   intro b5 av;refine⟨_,.refl _,rfl,Zv (vs:=[.string c.nm,.int .i64 c.ag,.slice ga gl gc,.slice aa al ac]) av rfl (by simp[Value.single]) λ U3 Q ap=>?_⟩;have F:=L.trans Q.lg;refine⟨_,(hB.imI F.imm).sees3 (o:=1) rfl,Nat×Value,λ y=>[(1,.pb B),(3,y.2),(4,.int .i64 i),(5,.pb b5),(9,.slice h.ca h.cl h.cc),(10,.int .i64 h.cl),(11,.int .i64 i),(19,.int .i64 h.cl),(20,.int .i64 y.1)],λ y U'=>U3.frz.lg U'/\Acc 60 2 y.2 ((b.cansTo i++b.canI i y.1).flatMap encII) U'.M U.M/\y.1<=h.cl,λ y=>h.cl-y.1,(0,.slice sa sl sc),T1,⟨⟨λ _ _ h=>h,⟨_,(append_nil _).symm⟩,rfl⟩,by rw[Q.own];simpa[Bk.canI]using w,O1⟩,?_⟩;rintro⟨k,v⟩f U4⟨z,w,hk⟩;simp only at w hk;obtain⟨ua,ul,uc,rfl,a7,-⟩:=Acc.src (U:=U4) w;have H:Ja ((k:Int)+1):=I1
   have E:=b.canI_succ i k;rw[X]at E;have a3:=b.cansTo_len i;have a4:=b.canI_len i k;have a5:i*b.cs.length<=5*5:=Nat.mul_le_mul O1 aq;have ae:U1.frz.lg U4:=⟨λ x o V=>z.imm x o (F.imm x o V),⟨_,(append_nil _).symm⟩,z.tok.trans F.tok⟩
   repeat refine⟨rfl,?_⟩
   conv=>whnf
   apply Qg<;>intro P
   .have hkt:k<h.cl:=by simpa using P
    repeat refine⟨rfl,?_⟩
    conv=>whnf
    apply Jt<;>intro P
    .have hne:(k != i)=true:=by simp at P ⊢;omega
     refine⟨_,(ap.imI z.imm).sees3 (o:=3) rfl,OW.any,(Dl aa al ac c.af ((ha.lg (Q.lg.frz2.trans z.frz2)).lg Qr) ao (k:Int)).go λ _=>?_⟩;rw[hne,Bool.true_and]at E;cases Y:c.af.contains (k:Int)with
     |true=>
      rw[Y]at E
      repeat refine⟨rfl,?_⟩
      refine⟨H,?_⟩
      conv=>whnf
      exact⟨rfl,(k+1,.slice ua ul uc),T1,⟨z,by rw[E];simpa using w,by show k+1<=h.cl;omega⟩,L1⟩
     |false=>
      rw[Y]at E
      conv=>whnf
      intro am Z;refine Zi Z λ U5 T G=>?_;have G:Zj U5 am (encII ((i:Int),(k:Int))).toArray:=G
      conv=>whnf
      refine Wn (v:=.slice ua ul uc) (cs:=(b.cansTo i++b.canI i k).flatMap encII) (new:=encII ((i:Int),(k:Int))) (M₀:=U.M) VF rfl rfl (by rw[T.own];exact w) (.inr ⟨_,rfl,G.rd⟩) rfl (by simp[encII,Value.single]) (by
       rw[Qz (f:=encII) (n:=2) (λ _=>rfl)];simp[encII];omega) λ v' M' an _=>?_
      have N:Acc 60 2 v' ((b.cansTo i++b.canI i (k+1)).flatMap encII) M' U.M:=by
       rw[E];simpa using an
      obtain⟨ta,tl,tc,rfl,-,-⟩:=Acc.src (U:={ U5 with M:=M' }) N;refine⟨H,?_⟩
      conv=>whnf
      exact⟨rfl,(k+1,.slice ta tl tc),T1,⟨⟨λ x o V=>T.imm x o (z.imm x o V),⟨_,(append_nil _).symm⟩,T.tok.trans z.tok⟩,N,by show k+1<=h.cl;omega⟩,L1⟩
    .have hne:(k != i)=false:=by simp at P ⊢;omega
     rw[hne,Bool.false_and]at E
     repeat refine⟨rfl,?_⟩
     refine⟨H,?_⟩
     conv=>whnf
     exact⟨rfl,(k+1,.slice ua ul uc),T1,⟨z,by rw[E];simpa using w,by show k+1<=h.cl;omega⟩,L1⟩
   .have hge:k=b.cs.length:=by simp at P;omega
    subst hge;rw[<- Bk.cansTo_succ]at w;refine⟨aw,?_⟩
    conv=>whnf
    exact⟨rfl,(i+1,.slice ua ul uc),T1,⟨ae,w,by show i+1<=h.cl;omega⟩,L1⟩
  .have hge:i=b.cs.length:=by simp at P;omega
   subst hge;rw[Bk.cansTo_all]at w
   repeat refine⟨rfl,?_⟩
   conv=>whnf
   exact⟨w,λ x o V=>L.imm x o (K.imm x o V),L.tok.trans K.tok⟩
 refine ak.sep λ v U' hs⟨ha,hI,ht⟩=>?_
 have W:∀a l c,v=.slice a l c->l<=c:=λ a l c e=>by
  rcases ha with⟨e1,_,_⟩|⟨b',c',a1,ay,e1,_,g2,_⟩
  .rw[e1]at e;cases e;exact Nat.le_refl _
  .rw[e1]at e;cases e;exact g2
 obtain⟨U'',k1,k2,a,len,cap,rfl,hl,aj,ai,_⟩:=ha.freeze hs hI ht;have ah:b.cans.length=len:=by have e:=(Qz (f:=encII) (n:=2) (λ _=>rfl) b.cans).symm.trans hl;omega
 subst ah;exact⟨U'',k1,⟨a,cap,rfl,Hv (enc:=encII) (n:=2) (λ _=>rfl) aj ai D1,W _ _ _ rfl,ai⟩,k2⟩
end
variable{e t:TypeId}{vs:List Value}{M L₁ L₂ Y:List Qw}{c:Array Value}{Q:Qa T->Prop}{o:Obj}{m p q r:Nat}{K W:List Nat}{ky j:Nat->Int}{vl d:Nat->Value}{u:Sys P T}{g g':Nat->List Int}{f:Nat->Bool}
def Jz{b:Nat}(h:Qw.obj b (.cells vs.toArray e (0,0))∈U.M):Jj U ⟨b,0,none⟩ vs:=by
 obtain⟨X,Y,f⟩:=append_of_mem h;exact Q9 X f
def Sp(h:M.Perm (L₁++F::L₂)):∃X Y,M=X++F::Y/\(X++Y).Perm (L₁++L₂):=by
 obtain⟨X,Y,e⟩:=append_of_mem (h.mem_iff.2 S1:F∈M);refine⟨X,Y,e,?_⟩;have b:(F::(X++Y)).Perm M:=by rw[e];exact perm_middle.symm
 exact(b.trans (h.trans perm_middle)).cons_inv
def SL(h:(M₀++Y).Perm (L₁++L₂))(r:Qw):(M₀++r::Y).Perm (L₁++r::L₂):=perm_middle.trans ((h.cons r).trans perm_middle.symm)
def yj{b:Nat}(L:U.M.Perm (L₁++.obj b (.cells c e (0,0))::L₂))(N:i<c.size)(S:v.single=true)
  (h:∀f:Qa T,f.I=U.I->f.tok=U.tok->f.M=L₁++.obj b (.cells (c.setIfInBounds i v) e (0,0))::L₂->Q f):QZ ((Addr.mk b 0 none).add i) [v] 0 (λ U'=>∃f,Qv U' f/\Q f) U:=by
 obtain⟨X,Y,B,P⟩:=Sp L;refine QZ.mono (K:=λ U'=>∃f,Qv U' f/\∃z,Qv f z/\Q z) (λ U'⟨f,E,z,F,G⟩=>⟨z,E.trans F,G⟩) _ _ _ (WJ X B N S λ f H V w=>?_);exact⟨{ f with M:=L₁++.obj b (.cells (c.setIfInBounds i v) e (0,0))::L₂ },W3 (by rw[w];exact SL P _),h _ H V rfl⟩
def Y9{b:Nat}(N:U.M.Perm (L₁++.obj b (.cells c e (0,0))::L₂))(B:c.size=vs.length)(S:∀v∈vs,v.single=true)
  (h:∀f:Qa T,f.I=U.I->f.tok=U.tok->f.M=L₁++.obj b (.cells vs.toArray e (0,0))::L₂->Q f):QZ ⟨b,0,none⟩ vs 0 (λ U'=>∃f,Qv U' f/\Q f) U:=by
 obtain⟨X,Y,E,P⟩:=Sp N;refine QZ.mono (K:=λ U'=>∃f,Qv U' f/\∃z,Qv f z/\Q z) (λ U'⟨f,F,z,G,H⟩=>⟨z,F.trans G,H⟩) _ _ _ (Wd X E B S λ f L V w=>?_);exact⟨{ f with M:=L₁++.obj b (.cells vs.toArray e (0,0))::L₂ },W3 (by rw[w];exact SL P _),h _ L V rfl⟩
def kN{b:Nat}(h:M.Perm (L₁++.obj b o::L₂)):∃M':Obj->List Qw,∀f,J1 b f o M (M' f)/\(M' f).Perm (L₁++.obj b f::L₂):=by
 obtain⟨X,Y,e,w⟩:=Sp h;exact⟨λ f=>X++.obj b f::Y,λ f=>⟨by rw[e];exact P0 .here X,SL w _⟩⟩
def zZ{M':List Qw}(w:U.free m)(z:U.M.Perm (M'++M₀))(h:∀f:Qa T,(∀x o,U.I x=some o->f.I x=some o)->f.tok=U.tok->f.M=M'->Zj f m c->Q f):∃f,Qv (U.put m (.cells c t)) f/\Q f:=
 ⟨_,(Wa (b:=m) (M':=U.M) (Perm.refl _)).trans (In (M':=M') ⟨M₀,z⟩),h _ (Gj (o:=.cells c t) w).imm rfl rfl Zj.new⟩
def ZP(L:List Nat):List Value:=L.map λ n=>.int .i64 (n:Nat)
def D5(L:List Nat):(ZP L).length=L.length:=by simp[ZP]
def IE(h:i<K.length):(ZP K)[i]?=some (.int .i64 (K.getD i 0:Nat)):=by
 simp[ZP,getD_eq_getElem?_getD,getElem?_eq_getElem h]
def D6(L:List Nat)(i v:Nat):(ZP L).toArray.setIfInBounds i (.int .i64 (v:Nat))=(ZP (L.set i v)).toArray:=by
 simp[ZP,map_set]
def wN(n:Nat):replicate n (Value.int .i64 0)=ZP (replicate n 0):=by simp[ZP]
abbrev QO:Int->Value:=λ k=>.int .i64 k
def JC(m:Nat)(ky:Nat->Int)(vl:Nat->Value):List (Int×Value):=(range m).map λ p=>(ky p,vl p)
def Dg(m:Nat)(ky:Nat->Int)(vl:Nat->Value):(JC m ky vl).length=m:=by simp[JC]
def It(m:Nat)(ky:Nat->Int)(vl:Nat->Value):JC (m+1) ky vl=JC m ky vl++[(ky m,vl m)]:=by simp[JC,range_succ]
def SF(h:p<m):(JC m ky vl)[p]?=some (ky p,vl p):=by simp[JC,h]
def jh(h:∀p,p<m->ky p=j p/\vl p=d p):JC m ky vl=JC m j d:=
 map_congr_left λ p B=>by obtain⟨w,z⟩:=h p (by simpa using B);rw[w,z]
def L7{κ:Type}[DecidableEq κ]{k:κ}{v:Value}:∀{l:List (κ×Value)}(i:Nat),l.Pairwise (λ a b=>a.1≠b.1)->(k,v)∈l->(QK k l i).map (·.2)=some v
 |[],_,_,h=>by cases h
 |p::l,i,z,h=>by
  obtain⟨f,w⟩:=pairwise_cons.1 z;simp only[QK];rcases mem_cons.1 h with e|h
  .subst e;simp
  .rw[if_neg λ e=>f _ h e.symm];exact L7 (i+1) w h
def L8{κ:Type}[DecidableEq κ]{k:κ}:∀{l:List (κ×Value)}(i:Nat),(∀p∈l,p.1≠k)->QK k l i=none
 |[],_,_=>rfl
 |p::l,i,h=>by
  simp only[QK];rw[if_neg λ e=>h p S1 e.symm];exact L8 (i+1) λ q b=>h q (by simp[b])
def Lb(h:p<m)(B:∀q r,q<m->r<m->ky q=ky r->q=r):lk (ky p) (JC m ky vl)=some (vl p):=by
 refine L7 0 ?_ (mem_of_getElem? (SF h));unfold JC;rw[pairwise_map];refine Pairwise.imp_of_mem (R:=λ a b=>a≠b) (λ{a b}w z f e=>f (B a b (by simpa using w) (by simpa using z) e)) nodup_range
def Yx{k:Int}(h:∀q,q<m->ky q≠k):lk k (JC m ky vl)=none/\∀v,Q_ k v (JC m ky vl)=JC m ky vl++[(k,v)]:=by
 have:QK k (JC m ky vl) 0=none:=L8 0 λ p b=>by
  unfold JC at b;obtain⟨q,f,rfl⟩:=mem_map.1 b;exact h q (by simpa using f)
 exact⟨by unfold lk;rw[this];rfl,λ v=>S5 this⟩
def Pl:WG T prog 3 QO:=by
 have b:prog.underlying 3=some (.int .i64):=K1
 exact .simple b rfl (λ k k'=>by simp[Instr.sameNow];rfl) (λ k=>by simp[Instr.sameBits])
def VH:prog.underlying 186=some (.map 3 3):=K1
def Of:prog.underlying 136=some (.map 3 56):=K1
def gR:X5 prog 56=some (.int .i64 0):=K1
def DY(h:Z3 U a l.length l):Q8 U a l.length 1 l (λ x vs=>vs=[.int .i64 x]):=by
 refine⟨rfl,λ i x B=>?_⟩;obtain⟨f,e,w,z⟩:=h.2 i x B;refine⟨f,_,e,w,rfl,rfl,λ k v b=>?_⟩;cases k with
 |zero=>
  simp at b;subst b;obtain⟨bb,E,F⟩:=f;cases w;rw[Qo]at z;rw[Qo,Qo,Nat.add_zero];exact z
 |succ k=>simp at b
def Bk.setA(b:Bk)(q:Nat)(l:List Int):Bk:=⟨b.rs,b.cs.set q { b.cas q with af:=l }⟩
structure yr(U:Qa T)(h:BH)(b:Bk)(M₀:List Qw)(q:Nat)(a0:Option Addr)(l0 c0:Nat)(kF:List Qw)(cb:Nat)(cc:Array Value)(rest:List Qw):Prop where
 ca:h.ca=some ⟨cb,0,none⟩
 lt:q<h.cl
 sz:q*4+3<cc.size
 at3:cc.toList[q*4+3]?=some (.slice a0 l0 c0)
 acc:Js 3 1 (.slice a0 l0 c0) ((b.cas q).af.map λ n=>.int .i64 n) kF
 len:(b.cas q).af.length<=1000
 pm:U.M.Perm (kF++(.obj cb (.cells cc.toList.toArray 39 (0,0))::(rest++M₀)))
 back:∀(U':Qa T)(v':Value)(F':List Qw)(l':List Int)(M0':List Qw),U.frz.lg U'.frz->Js 3 1 v' (l'.map λ n=>.int .i64 n) F'->l'.length<=1000->U'.M.Perm (F'++(.obj cb (.cells (cc.setIfInBounds (q*4+3) v') 39 (0,0))::(rest++M0')))->QQ U' h (b.setA q l') M0'
def QQ.openC(ho:QQ U h b M₀)(hq:q<b.cs.length):∃Q l0 c0 P cb cc rest,yr U h b M₀ q Q l0 c0 P cb cc rest:=by
 obtain⟨ps,A,L,K,V,hM⟩:=ho.ex;have am:q<ps.length:=by rw[<- L,length_map]at hq;exact hq
 obtain⟨p,hp⟩:∃p,ps[q]?=some p:=⟨_,getElem?_eq_getElem am⟩;obtain⟨X,Y,rfl,hX,ae⟩:=Df hp;obtain⟨c,ah,aj,ai,kv,P⟩:=p
 have w:b.cas q=c:=by
  have:=congrArg (λ l=>l[q]?) L;simp only[getElem?_map,hp]at this;simp[Bk.cas,getD_eq_getElem?_getD,<- this]
 have E:=K _ (mem_of_getElem? hp);obtain⟨Q,l0,c0,e0,an⟩:=E.af.src;obtain rfl:kv=.slice Q l0 c0:=e0;have hF:Js 3 1 (.slice Q l0 c0) (c.af.map λ n=>.int .i64 n) P:=E.af;obtain⟨cb,cc,T,u,I,ab,ac,H,rfl,aa⟩:=V.blk (by simp[QY]);have ak:h.cl=T:=by have:=Value.slice.inj I;exact this.2.1
 have W:h.ca=some ⟨cb,0,none⟩:=by have:=Value.slice.inj I;exact this.1
 have Z:h.cc=u:=by have:=Value.slice.inj I;exact this.2.2
 have z:=ab;rw[Qz Zy]at z;have ad:q<h.cl:=O1
 have ag:q*4+3<cc.size:=by rw[H];omega
 refine⟨Q,l0,c0,P,cb,cc,X.flatMap (·.2.F)++Y.flatMap (·.2.F),⟨W,ad,ag,?_,by rw[w];exact hF,by rw[w];exact E.al,?_,?_⟩⟩
 .rw[Array.getElem?_toList];exact aa _ _ (P5 Zy hp (by omega:3<4))
 .refine hM.trans ?_;rw[flatMap_append,flatMap_cons];show Perm (.obj cb (.cells cc 39 (0,0))::(X.flatMap (·.2.F)++(P++Y.flatMap (·.2.F))++M₀)) _;refine Perm.trans (Perm.cons _ ?_) perm_middle.symm;rw[<- append_assoc P];refine Perm.append_right _ ?_;rw[<- append_assoc,<- append_assoc];exact Perm.append_right _ perm_append_comm
 .intro U' v' F' l' M0' hz hF' hl' hM';refine⟨⟨X++({ c with af:=l' },⟨ah,aj,ai,v',F'⟩)::Y,[.obj cb (.cells (cc.setIfInBounds (q*4+3) v') 39 (0,0))],?_,?_,?_,?_⟩,ho.rs.lg hz λ _ _ h=>h,ho.rl,ho.rn,ho.rc⟩
  .show _=(b.cs.set q { b.cas q with af:=l' });rw[w,<- L,<- map_set (f:=λ p:Cs×ZJ=>p.1) (a:=({ c with af:=l' },(⟨ah,aj,ai,v',F'⟩:ZJ)))];rw[ae]
  .intro r N;rw[mem_append,mem_cons]at N;rcases N with N|rfl|N
   .exact(K r (by simp[N])).lg hz
   .have:=E.lg hz;exact⟨this.gs,this.gl,hF',this.nm,hl'⟩
   .exact(K r (by simp[N])).lg hz
  .rw[W,ak,Z];refine .ofBlk ?_ ac (by simp[H]) λ i x B=>?_
   .rw[Qz Zy];simpa using z
   .have hlen1:(X.flatMap QY).length=q*4:=by rw[Qz Zy,hX]
    rw[Array.getElem?_setIfInBounds];rw[flatMap_append,flatMap_cons]at B;have G:=aa i;rw[flatMap_append,flatMap_cons]at G;by_cases e:q*4+3=i
    .subst e;rw[if_pos rfl,if_pos ag];rw[getElem?_append_right O1,hlen1,Nat.add_sub_cancel_left,getElem?_append_left (by rw[Zy];omega)]at B;exact B
    .rw[if_neg e];refine G x ?_;by_cases h1:i<q*4
     .rw[getElem?_append_left O1]at B ⊢;exact B
     .rw[getElem?_append_right O1,hlen1]at B ⊢;by_cases h2:i-q*4<4
      .rw[getElem?_append_left (by rw[Zy];exact h2)]at B ⊢;have:i-q*4=0\/i-q*4=1\/i-q*4=2:=O1
       rcases this with e|e|e <;> rw[e]at B ⊢ <;> exact B
      .rw[getElem?_append_right (by rw[Zy];omega)]at B ⊢;exact B
  .refine hM'.trans ?_;rw[flatMap_append,flatMap_cons];show Perm _ (.obj cb _::(X.flatMap (·.2.F)++(F'++Y.flatMap (·.2.F))++M0'));refine Perm.trans perm_middle (Perm.cons _ ?_);rw[<- append_assoc F'];refine Perm.append_right _ ?_;rw[<- append_assoc,<- append_assoc];exact Perm.append_right _ perm_append_comm
def Bk.woL(b:Bk)(K:List Nat)(g:Nat->List Int):List Cs:=(range K.length).map λ p=>{ b.cas (K.getD p 0)with af:=g p }
def Bk.woL_len(b:Bk)(K:List Nat)(g:Nat->List Int):(b.woL K g).length=K.length:=by simp[Bk.woL]
def Bk.woL_at(h:q<K.length):(b.woL K g)[q]?=some { b.cas (K.getD q 0)with af:=g q }:=by simp[Bk.woL,h]
def Bk.woL_set(h:q<K.length)(l:List Int):(Bk.mk b.rs (b.woL K g)).setA q l=Bk.mk b.rs (b.woL K λ p=>if p=q then l else g p):=by
 have w:(Bk.mk b.rs (b.woL K g)).cas q={ b.cas (K.getD q 0)with af:=g q }:=Bk.cas_at (Bk.woL_at h);unfold Bk.setA;rw[w];congr 1;apply ext_getElem?;intro i;rw[getElem?_set];by_cases e:q=i
 .subst e;rw[if_pos rfl,if_pos (by rw[Bk.woL_len];exact h),Bk.woL_at h,if_pos rfl]
 .rw[if_neg e];by_cases f:i<K.length
  .rw[Bk.woL_at f,Bk.woL_at f,if_neg (Ne.symm e)]
  .rw[getElem?_eq_none (by rw[Bk.woL_len];omega),getElem?_eq_none (by rw[Bk.woL_len];omega)]
def Bk.woL_snoc(b:Bk)(K:List Nat)(k:Nat):b.woL (K++[k]) (λ _=>[])=b.woL K (λ _=>[])++[{ b.cas k with af:=[] }]:=by
 unfold Bk.woL;rw[length_append,length_cons,length_nil,range_succ,map_append];congr 1
 .refine map_congr_left λ p f=>?_;rw[mem_range]at f;rw[getD_eq_getElem?_getD,getElem?_append_left f,<- getD_eq_getElem?_getD]
 .simp[getD_eq_getElem?_getD]
def Bk.woL_congr(h:∀p,p<K.length->g p=g' p):b.woL K g=b.woL K g':=
 map_congr_left λ p f=>by rw[h p (by simpa using f)]
def Bk.wo_woL(z:∀i,i<b.cs.length->∀k,(W.getD i 0).testBit k=QM b.A f b.cs.length i k) :
  b.wo f=Bk.mk b.rs (b.woL (Bk.kpt f b.cs.length) λ p=>Bk.afK f (W.getD ((Bk.kpt f b.cs.length).getD p 0) 0) b.cs.length):=by
 have h:=Bk.wo_cs (out:=f) b W z;have:b.wo f=Bk.mk b.rs (b.wo f).cs:=rfl;rw[this,h];congr 1;unfold Bk.woL;apply ext_getElem?;intro i;rw[Bk.kpt_all];by_cases w:i<(b.kept f).length
 .simp[w,getD_eq_getElem?_getD]
 .rw[getElem?_eq_none (by simpa using w),getElem?_eq_none (by simpa using w)]
abbrev JW(mb b10 b b4:Nat)(r v:Value)(E:List (Int×Value))(L:List Nat)(M:List Qw):List Qw:=
 .obj mb (Qt QO E)::.cl b10 [r,v] 25::.obj b (.cells (ZP L).toArray 3 (0,0))::.cl b4 [.nl,.nl] 111::M
def Jn(K:List Nat):List (Int×Value):=JC K.length (λ p=>(K.getD p 0:Nat)) λ p=>.int .i64 (p:Nat)
def UM(K:List Nat):(Jn K).length=K.length:=Dg _ _ _
def L0(h:p<K.length):(Jn K)[p]?=some (((K.getD p 0:Nat):Int),.int .i64 (p:Nat)):=SF h
def pT(b:K.Nodup)(f:q<K.length)(w:r<K.length)(h:K.getD q 0=K.getD r 0):q=r:=by
 simp only[getD_eq_getElem?_getD,getElem?_eq_getElem f,getElem?_eq_getElem w,Option.getD_some]at h;exact(getElem_inj b).1 h
def S0(b:q<K.length):K.getD q 0∈K:=by
 simp only[getD_eq_getElem?_getD,getElem?_eq_getElem b,Option.getD_some];exact getElem_mem b
def wL(h:k∉K):Q_ ((k:Nat):Int) (.int .i64 (K.length:Nat)) (Jn K)=Jn (K++[k]):=by
 have b:=(Yx (m:=K.length) (k:=((k:Nat):Int)) (ky:=λ p=>(K.getD p 0:Nat)) (vl:=λ p=>.int .i64 (p:Nat)) λ q w e=>h (by
  have e':K.getD q 0=k:=Int.ofNat.inj e;rw[<- e'];exact S0 w)).2 (.int .i64 (K.length:Nat))
 unfold Jn;rw[b,length_append,length_cons,length_nil,It];congr 1
 .refine jh λ p f=>⟨?_,rfl⟩;rw[getD_eq_getElem?_getD,getD_eq_getElem?_getD,getElem?_append_left f]
 .simp[getD_eq_getElem?_getD]
def vX(b:K.Nodup)(f:p<K.length):lk ((K.getD p 0:Nat):Int) (Jn K)=some (.int .i64 (p:Nat)):=
 Lb (m:=K.length) (ky:=λ p=>((K.getD p 0:Nat):Int)) (vl:=λ p=>.int .i64 (p:Nat)) f λ q r h w e=>pT b h w (Int.ofNat.inj e)
def pW(h:k∉K):lk ((k:Nat):Int) (Jn K)=none:=
 (Yx (m:=K.length) (ky:=λ p=>((K.getD p 0:Nat):Int)) (vl:=λ p=>.int .i64 (p:Nat)) λ q b e=>h (by
  have e':K.getD q 0=k:=Int.ofNat.inj e;rw[<- e'];exact S0 b)).1
def L5{f:Nat->Bool}{j:Nat}:∀{n:Nat},j<=n->∃Y,Bk.kpt f n=Bk.kpt f j++Y
 |0,h=>⟨[],by rw[Nat.le_zero.1 h];simp⟩
 |n+1,h=>by
  by_cases e:j=n+1
  .exact⟨[],by rw[e];simp⟩
  .obtain⟨Y,hY⟩:=L5 (f:=f) (j:=j) (n:=n) O1;cases b:f n with
   |true=>exact⟨Y,by rw[Bk.kpt_out b,hY]⟩
   |false=>exact⟨Y++[n],by rw[Bk.kpt_in b,hY,append_assoc]⟩
def v_(h:m<n)(w:f m=false):(Bk.kpt f m).length<(Bk.kpt f n).length/\(Bk.kpt f n).getD (Bk.kpt f m).length 0=m:=by
 obtain⟨Y,b⟩:=L5 (f:=f) (show m+1<=n by omega);rw[Bk.kpt_in w]at b;rw[b];constructor
 .simp
 .simp[getD_eq_getElem?_getD]
section
attribute [local irreducible] Qb Zp Wv
def Dv(h:BH)(b:Bk)(hb:Zq U.frz h b)(a7:b.Ok)(o:Nat)(ho:o<2^60):Qb S 65 #[h.v,.int .i64 o] (λ v U'=>(∃h':BH,v=h'.v/\Zq U'.frz h' (b.wo o.testBit)/\h'.rl<=h'.rc)/\U.le U') U:=by
 have bn:=hb.cs.1;have fy:=hb.rs.1;have fv:=a7.nc;have fw:=a7.nr;obtain⟨i3,fb,fc,fe,f0⟩:=IC;generalize dj:GE o.testBit b.cs.length b.cs.length (b.A.map Z5)=W;have hW:=a7.wlW o.testBit;rw[dj]at hW
 have dk:WB b.cs.length 5 (b.A.map Z5):=⟨by simp[b.A_length],λ x E=>by
  obtain⟨l,hl,rfl⟩:=mem_map.1 E;refine Nat.lt_of_lt_of_le (vG (n:=5) λ k hk=>?_) (Nat.le_refl _);simp only[Bk.A,mem_map]at hl;obtain⟨c,V,rfl⟩:=hl;obtain⟨n,hn,rfl⟩:=mem_map.1 hk;have:=a7.af c V n hn;unfold Bk.nc at this;omega⟩
 have eg:Qb S 65 #[h.v,.int .i64 o] (λ v U'=>(∃(h':BH)(Z:List Qw),v=h'.v/\QQ U' h' (b.wo o.testBit) (Z++U.M))/\(∀x q,U.I x=some q->U'.I x=some q)/\U'.tok=U.tok) U:=by
  refine Qb.of (args:=[_,_]) OF Qf S1 ?_
  repeat refine⟨rfl,?_⟩
  conv=>whnf
  intro B U1 bm hB;have hB:Zj U1 B #[.slice h.ra h.rl h.rc,.slice h.ca h.cl h.cc]:=hB
  conv=>whnf
  intro b4 fp;refine⟨_,.refl _,?_⟩;have d0:=Z2 (U:=U1) b4 (.cells #[.nl,.nl] 111);refine⟨_,(hB.lg d0).sees3 (o:=1) rfl,?_⟩
  conv=>whnf
  refine DV (n:=h.cl) Pt fb fc rfl fe O1 rfl rfl O1 λ H fz=>?_;have cf:=d0.trans (Z2 (U:=U1.put b4 (.cells #[.nl,.nl] 111)) H (.cells (replicate h.cl (Value.int .i64 0)).toArray 3));refine⟨_,(hB.lg cf).sees3 (o:=1) rfl,Nat,λ i=>[(1,.int .i64 o),(2,.pb B),(4,.pb b4),(5,.slice (some ⟨H,0,none⟩) h.cl h.cl),(26,.slice h.ca h.cl h.cc),(27,.int .i64 h.cl),(28,.int .i64 i)],
   λ i U'=>U1.frz.lg U'/\i<=h.cl/\U'.M=.obj H (.cells (ZP (Xu (b.A.map Z5) h.cl i)).toArray 3 (0,0))::.cl b4 [.nl,.nl] 111::U.M,λ i=>h.cl-i,0,T1,⟨Qr.trans cf,O1,?_⟩,?_⟩
  .rw[zR,<- wN];show _::_::U1.M=_;rw[bm.own]
  rintro i f U2⟨N,hi,hM⟩;have a4:Ja ((i:Int)+1):=I1
  repeat refine⟨rfl,?_⟩
  conv=>whnf
  apply Qg<;>intro V
  .have hlt:i<h.cl:=by simpa using V
   obtain⟨ad,c,ga,gl,gc,aa,al,ac,E,cz,ec,bf,-,-,ha,dl,aw⟩:=(hb.lg (bm.lg.frz2.trans N.frz2)).case hlt;have cx:=a7.toLow.lt aw;refine⟨ad,i,⟨cz,rfl,hlt⟩,_,⟨rfl,bf.lg Qr⟩,?_⟩
   conv=>whnf
   intro b7 er;refine⟨_,.refl _,rfl,Zv (vs:=[.string c.nm,.int .i64 c.ag,.slice ga gl gc,.slice aa al ac]) er rfl (by simp[Value.single]) λ U3 ap eo=>?_⟩;refine⟨_,eo.sees3 (o:=3) rfl,XL.any,(Z8 aa al ac c.af ((ha.lg ap.lg.frz2).lg Qr) dl cx).go λ _=>?_⟩;have en:(b.A.map Z5)[i]?=some (Z5 (c.af.map Int.toNat)):=by simp[Bk.A,E]
   have et:=xE (X:=b.A.map Z5) (n:=h.cl) (i:=i) (by simp[b.A_length,bn]) hi;refine⟨⟨H,0,none⟩,i,⟨rfl,rfl,hlt⟩,rfl,?_⟩;rw[Nat.mul_one];refine WJ (i:=i) (v:=.int .i64 (Z5 (c.af.map Int.toNat):Nat)) [] (ap.own.trans hM) (by simp[D5,et];omega) rfl λ U4 db e8 ax=>?_;rw[D6,wH en (by simp[b.A_length,bn])]at ax;refine⟨a4,?_⟩
   conv=>whnf
   exact⟨rfl,i+1,T1,⟨⟨λ x q E=>by rw[db];exact ap.imm x q (N.imm x q E),⟨_,(append_nil _).symm⟩,e8.trans (ap.tok.trans N.tok)⟩,O1,ax⟩,L1⟩
  have ai:i=h.cl:=by simp at V;omega
  subst ai;rw[xD (by simp[b.A_length,bn])]at hM;refine⟨_,(hB.imI N.imm).sees3 (o:=1) rfl,Nat×List Nat,λ y=>[(1,.int .i64 o),(2,.pb B),(4,.pb b4),(5,.slice (some ⟨H,0,none⟩) h.cl h.cl),(43,.int .i64 h.cl),(44,.int .i64 y.1)],
   λ y U'=>U1.frz.lg U'/\y.1<=h.cl/\U'.M=.obj H (.cells (ZP y.2).toArray 3 (0,0))::.cl b4 [.nl,.nl] 111::U.M/\WB h.cl 5 y.2/\GE o.testBit h.cl (h.cl-y.1) y.2=W,λ y=>h.cl-y.1,(0,b.A.map Z5),T1,⟨N,O1,hM,by rw[<- bn];exact dk,by rw[<- dj,bn];rfl⟩,?_⟩
  clear hM N a4 hi;rintro⟨r,L⟩f U2⟨N,hr,hM,bl,a5⟩;simp only at hr hM bl a5;have dx:Ja ((r:Int)+1):=I1
  repeat refine⟨rfl,?_⟩
  conv=>whnf
  apply Qg<;>intro V
  .have hrt:r<h.cl:=by simpa using V
   rw[show h.cl-r=(h.cl-(r+1))+1 by omega]at a5
   refine⟨Nat,λ i=>[(1,.int .i64 o),(2,.pb B),(4,.pb b4),(5,.slice (some ⟨H,0,none⟩) h.cl h.cl),(43,.int .i64 h.cl),(44,.int .i64 r),(47,.int .i64 h.cl),(48,.int .i64 i)],
    λ i U'=>U1.frz.lg U'/\i<=h.cl/\U'.M=.obj H (.cells (ZP (XC o.testBit h.cl L i)).toArray 3 (0,0))::.cl b4 [.nl,.nl] 111::U.M,λ i=>h.cl-i,0,T1,⟨N,O1,hM⟩,?_⟩
   rintro i f U3⟨Y,hi,au⟩;have a4:Ja ((i:Int)+1):=I1
   have ee:=bl.rto (out:=o.testBit) i
   repeat refine⟨rfl,?_⟩
   conv=>whnf
   apply Qg<;>intro V
   .have hit:i<h.cl:=by simpa using V
    refine⟨_,(hB.imI Y.imm).sees3 (o:=1) rfl,Nat,λ k=>[(1,.int .i64 o),(2,.pb B),(4,.pb b4),(5,.slice (some ⟨H,0,none⟩) h.cl h.cl),(8,.int .i64 i),(43,.int .i64 h.cl),(44,.int .i64 r),(47,.int .i64 h.cl),(48,.int .i64 i),(54,.int .i64 h.cl),(55,.int .i64 k)],
     λ k U'=>U1.frz.lg U'/\k<=h.cl/\U'.M=.obj H (.cells (ZP (X_ o.testBit i (XC o.testBit h.cl L i) k)).toArray 3 (0,0))::.cl b4 [.nl,.nl] 111::U.M,λ k=>h.cl-k,0,T1,⟨Y,O1,au⟩,?_⟩
    rintro k f U4⟨an,hk,ax⟩;have aj:Ja ((k:Int)+1):=I1
    have b3:=ee.to (out:=o.testBit) (i:=i) k;have P:=Iw o.testBit i (XC o.testBit h.cl L i) k;generalize dd:X_ o.testBit i (XC o.testBit h.cl L i) k=Lk at ax b3 P;unfold WP at P;have bp:∀j,Lk.getD j 0<2^60:=λ j=>Nat.lt_trans (b3.at j) D1
    have bf:∀j,j<h.cl->U4.sees ((Addr.mk H 0 none).add (j*1)) (.int .i64 (Lk.getD j 0:Nat)):=λ j hj=>by
     rw[Nat.mul_one];exact Q9 [] ax j _ (IE (by rw[b3.len];exact hj))
    repeat refine⟨rfl,?_⟩
    conv=>whnf
    apply Qg<;>intro V
    .have hkt:k<h.cl:=by simpa using V
     have a3:=HI (bp i) (show k<60 by omega);have bs:=HI ho (show k<60 by omega);refine⟨⟨H,0,none⟩,i,⟨rfl,rfl,hit⟩,_,bf i hit,O1,?_⟩
     repeat refine⟨rfl,?_⟩
     conv=>whnf
     apply Jt<;>intro V
     .have hb1:(Lk.getD i 0).testBit k=true:=a3.symm.trans V;rw[hb1,Bool.true_and]at P;refine⟨O1,?_⟩
      repeat refine⟨rfl,?_⟩
      conv=>whnf
      apply Qg<;>intro V
      .have hb2:o.testBit k=true:=bs.symm.trans V;rw[if_pos hb2]at P;refine⟨⟨H,0,none⟩,i,⟨rfl,rfl,hit⟩,_,bf i hit,⟨H,0,none⟩,k,⟨rfl,rfl,hkt⟩,_,bf k hkt,?_⟩
       conv=>whnf
       intro U5 cu _;refine⟨rfl,⟨H,0,none⟩,i,⟨rfl,rfl,hit⟩,rfl,?_⟩;rw[Nat.mul_one];refine WJ (i:=i) [] (cu.own.trans ax) (by simp[D5,b3.len];omega) rfl λ U6 dc ed df=>?_
       have de:U6.M=.obj H (.cells (ZP (X_ o.testBit i (XC o.testBit h.cl L i) (k+1))).toArray 3 (0,0))::.cl b4 [.nl,.nl] 111::U.M:=by
        rw[P,<- D6,<- SR (bp i) (bp k)];exact df
       refine⟨aj,?_⟩
       conv=>whnf
       exact⟨rfl,k+1,T1,⟨⟨λ x q E=>by rw[dc];exact cu.imm x q (an.imm x q E),⟨_,(append_nil _).symm⟩,ed.trans (cu.tok.trans an.tok)⟩,O1,de⟩,L1⟩
      .have hb2:o.testBit k=false:=bs.symm.trans V;rw[hb2,if_neg S1]at P;refine⟨aj,?_⟩
       conv=>whnf
       exact⟨rfl,k+1,T1,⟨an,O1,by rw[P];exact ax⟩,L1⟩
     .have hb1:(Lk.getD i 0).testBit k=false:=a3.symm.trans V;rw[hb1,Bool.false_and,if_neg S1]at P;refine⟨aj,?_⟩
      conv=>whnf
      exact⟨rfl,k+1,T1,⟨an,O1,by rw[P];exact ax⟩,L1⟩
    .have ai:k=h.cl:=by simp at V;omega
     subst ai;rw[D4,<- Iy]at dd;subst dd;refine⟨a4,?_⟩
     conv=>whnf
     exact⟨rfl,i+1,T1,⟨an,O1,ax⟩,L1⟩
   .have ai:i=h.cl:=by simp at V;omega
    subst ai;refine⟨dx,?_⟩
    conv=>whnf
    exact⟨rfl,(r+1,XC o.testBit h.cl L h.cl),T1,⟨Y,by show r+1<=h.cl;omega,au,ee,a5⟩,L1⟩
  have ai:r=h.cl:=by simp at V;omega
  subst ai;rw[Nat.sub_self]at a5;obtain rfl:L=W:=a5;have bp:∀j,L.getD j 0<2^60:=λ j=>Nat.lt_trans (bl.at j) D1;have du:U.frz.lg U2.frz:=bm.lg.frz2.trans N.frz2;refine⟨_,(hB.imI N.imm).sees3 (o:=0) rfl,Ob.any,(Dy h.ra h.rl h.rc b.rs ((hb.rs.lg du λ _ _ h=>h).lg Qr λ _ _ h=>h) O1).mono ?_⟩;rintro _ U3⟨⟨ra,rl,rc,rfl,c5,ea⟩,ap⟩-
  conv=>whnf
  intro b10 dr;refine⟨_,.refl _,rfl,HC (vs:=[.slice ra rl rc,.nl]) rfl (by simp[Value.single]) ?_⟩
  conv=>whnf
  refine GT QO λ mb e3=>?_;have Y:U1.frz.lg U3:=N.trans ap.lg;have fj:=ea.1
  let K:Nat->List Nat:=λ j=>Bk.kpt o.testBit j
  have au:((U3.put b10 (.cells [.slice ra rl rc,.nl].toArray 25)).put mb (Qt QO [])).M=JW mb b10 H b4 (.slice ra rl rc) .nl (Jn (K 0)) L U.M:=by
   show _::_::U3.M=_;rw[ap.own,hM];rfl
  have bi:U1.frz.lg ((U3.put b10 (.cells [.slice ra rl rc,.nl].toArray 25)).put mb (Qt QO [])):=⟨Y.imm,⟨_,(append_nil _).symm⟩,Y.tok⟩;have bx:Q8 ((U3.put b10 (.cells [.slice ra rl rc,.nl].toArray 25)).put mb (Qt QO [])).frz ra rl 1 b.rs λ s vs=>vs=[.string s]:=ea;generalize((U3.put b10 (.cells [.slice ra rl rc,.nl].toArray 25)).put mb (Qt QO []))=U4 at au bi bx ⊢;refine⟨_,(hB.imI bi.imm).sees3 (o:=1) rfl,Nat×Value,λ y=>[(1,.int .i64 o),(2,.pb B),(4,.pb b4),(5,.slice (some ⟨H,0,none⟩) h.cl h.cl),(10,.pb b10),(11,.map (some mb)),(94,.slice h.ca h.cl h.cc),(95,.int .i64 h.cl),(96,.int .i64 y.1)],
   λ y U'=>U4.frz.lg U'/\y.1<=h.cl/\∃(ps:List (Cs×ZJ))(A:List Qw),ps.map (·.1)=b.woL (K y.1) (λ _=>[])/\(∀p∈ps,WW U' p/\p.2.F=[])/\Js 39 4 y.2 (ps.flatMap QY) A/\U'.M=A++JW mb b10 H b4 (.slice ra rl rc) y.2 (Jn (K y.1)) L U.M,λ y=>h.cl-y.1,(0,.nl),T1,⟨⟨λ _ _ h=>h,⟨_,(append_nil _).symm⟩,rfl⟩,O1,[],[],rfl,S1,.nil,au⟩,?_⟩
  clear hM N au ap Y dr e3;rintro⟨i,v⟩f U5⟨N,hi,ps,A,bo,ao,av,hM⟩;simp only at bo av hM hi;obtain⟨sa,sl,sc,rfl,e6⟩:=av.src;rw[Qz Zy]at e6
  have fx:ps.length=(K i).length:=by
   have:=congrArg List.length bo
   rwa [length_map,Bk.woL_len]at this
  have fl:(K i).length<=i:=Bk.kpt_len i;have a4:Ja ((i:Int)+1):=I1
  have am:U1.frz.lg U5:=⟨λ x q E=>N.imm x q (bi.imm x q E),⟨_,(append_nil _).symm⟩,N.tok.trans bi.tok⟩
  repeat refine⟨rfl,?_⟩
  conv=>whnf
  apply Qg<;>intro V
  .have hlt:i<h.cl:=by simpa using V
   have bs:=HI ho (show i<60 by omega);obtain⟨ad,c,ga,gl,gc,aa,al,ac,E,cz,ec,bf,dw,fq,ha,dl,aw⟩:=(hb.lg (bm.lg.frz2.trans am.frz2)).case hlt;have dm:=Bk.cas_at E;have eu:=a7.gs c aw;have fg:=a7.gl c aw;have dp:=hb.cn c aw;have ff:=(a7.asc aw).1;have fh:=dw.1;have ce:=ha.1;refine⟨ad,i,⟨cz,rfl,hlt⟩,_,⟨rfl,bf.lg Qr⟩,?_⟩
   conv=>whnf
   intro ah dt;refine⟨_,.refl _,?_⟩;cases az:o.testBit i with
   |true=>
    have bq:K (i+1)=K i:=Bk.kpt_out az;refine⟨rfl,Zv (vs:=[.string c.nm,.int .i64 c.ag,.slice ga gl gc,.slice aa al ac]) dt rfl (by simp[Value.single]) λ U6 cv _=>?_⟩;refine⟨O1,?_⟩
    repeat refine⟨rfl,?_⟩
    conv=>whnf
    apply Qg<;>intro V
    .refine⟨a4,?_⟩
     conv=>whnf
     exact⟨rfl,(i+1,.slice sa sl sc),T1,⟨N.trans cv.lg,by show i+1<=h.cl;omega,ps,A,by show _=b.woL (K (i+1)) _;rw[bq];exact bo,λ p hp=>⟨(ao p hp).1.lg cv.lg.frz2,(ao p hp).2⟩,av,by show _=A++JW mb b10 H b4 _ _ (Jn (K (i+1))) L U.M;rw[bq];exact cv.own.trans hM⟩,L1⟩
    .have:=bs.symm.trans V;rw[az]at this;cases this
   |false=>
    have bq:K (i+1)=K i++[i]:=Bk.kpt_in az;have d3:i∉K i:=λ hm=>absurd (Bk.kpt_lt hm).1 (Nat.lt_irrefl _);refine⟨rfl,HC (vs:=[.string c.nm,.int .i64 c.ag,.slice ga gl gc,.slice aa al ac]) rfl (by simp[Value.single]) ?_⟩
    have cq:(U5.put ah (.cells [.string c.nm,.int .i64 c.ag,.slice ga gl gc,.slice aa al ac].toArray 39)).M=(.cl ah [.string c.nm,.int .i64 c.ag,.slice ga gl gc,.slice aa al ac] 39::A)++JW mb b10 H b4 (.slice ra rl rc) (.slice sa sl sc) (Jn (K i)) L U.M:=by
     show _::U5.M=_;rw[hM];rfl
    have c8:U5.frz.lg (U5.put ah (.cells [.string c.nm,.int .i64 c.ag,.slice ga gl gc,.slice aa al ac].toArray 39)):=⟨λ _ _ h=>h,⟨_,(append_nil _).symm⟩,rfl⟩;generalize(U5.put ah (.cells [.string c.nm,.int .i64 c.ag,.slice ga gl gc,.slice aa al ac].toArray 39))=U6 at cq c8 ⊢;refine⟨O1,?_⟩
    repeat refine⟨rfl,?_⟩
    conv=>whnf
    apply Qg<;>intro V
    .have:=bs.symm.trans V;rw[az]at this;cases this
    refine⟨_,(Jz (b:=b10) (e:=25) (vs:=[.slice ra rl rc,.slice sa sl sc]) (by rw[cq];simp)).cell (i:=1) rfl,?_⟩
    conv=>whnf
    obtain⟨Mu,dh⟩:=kN (M:=U6.M) (b:=mb) (o:=Qt QO (Jn (K i))) (L₁:=.cl ah [.string c.nm,.int .i64 c.ag,.slice ga gl gc,.slice aa al ac] 39::A) (L₂:=.cl b10 [.slice ra rl rc,.slice sa sl sc] 25::.obj H (.cells (ZP L).toArray 3 (0,0))::.cl b4 [.nl,.nl] 111::U.M) (by rw[cq]);have eb:(.int .i64 (sl:Int):Value)=.int .i64 ((K i).length:Nat):=by rw[show sl=(K i).length by omega]
    refine Yv (b:=mb) (k:=((i:Nat):Int)) (l:=Jn (K i)) (v:=.int .i64 sl) (M':=Mu (Qt QO (Jn (K (i+1))))) Pl VH rfl rfl rfl (by rw[eb,wL d3,<- bq];exact(dh _).1) ?_;have c4:({ U6 with M:=Mu (Qt QO (Jn (K (i+1)))) }:Qa T).M.Perm _:=(dh (Qt QO (Jn (K (i+1))))).2;have b0:U5.frz.lg ({ U6 with M:=Mu (Qt QO (Jn (K (i+1)))) }:Qa T):=⟨c8.imm,⟨_,(append_nil _).symm⟩,c8.tok⟩;generalize({ U6 with M:=Mu (Qt QO (Jn (K (i+1)))) }:Qa T)=Ux at c4 b0 ⊢;refine⟨_,⟨rfl,Jz (b:=ah) (e:=39) (vs:=[.string c.nm,.int .i64 c.ag,.slice ga gl gc,.slice aa al ac]) (c4.mem_iff.2 S1)⟩,?_⟩;refine⟨Oc.any,(Du (U:=Ux) c ga aa gl gc al ac (dw.lg b0.frz2) O1 (ha.lg b0.frz2) O1 (λ g hg=>by have:=(eu g hg).1;omega) dp).mono ?_⟩;rintro _ U7⟨⟨⟨a8,ba,a9,kv,kF⟩,rfl,hk,bh⟩,bg,bk⟩-;obtain⟨a0,l0,c0,e0,-⟩:=hk.af.src;obtain rfl:kv=.slice a0 l0 c0:=e0
    have d5:U7.M.Perm (kF++(.cl ah [.string c.nm,.int .i64 c.ag,.slice ga gl gc,.slice aa al ac] 39::(A++JW mb b10 H b4 (.slice ra rl rc) (.slice sa sl sc) (Jn (K (i+1))) L U.M))):=by
     rw[bh];exact Perm.append_left _ c4
    have ei:∀x q,U5.I x=some q->U7.I x=some q:=λ x q E=>bg x q (b0.imm x q E);have e9:U7.tok=U5.tok:=bk.trans b0.tok;refine⟨rfl,Y9 (vs:=[.string c.nm,.int .i64 c.ag,.slice a8 ba a9,.slice a0 l0 c0]) d5 rfl (by simp[Value.single]) λ U8 b6 cj dg=>?_⟩;refine⟨rfl,yj (b:=ah) (e:=39) (c:=[.string c.nm,.int .i64 c.ag,.slice a8 ba a9,.slice a0 l0 c0].toArray) (L₁:=kF) (L₂:=A++JW mb b10 H b4 (.slice ra rl rc) (.slice sa sl sc) (Jn (K (i+1))) L U.M) (i:=3) (v:=.nl) (by rw[dg]) (by show 3<4;omega) rfl λ U9 b8 ck a2=>?_⟩;have a2:U9.M=kF++.cl ah [.string c.nm,.int .i64 c.ag,.slice a8 ba a9,.nl] 39::(A++JW mb b10 H b4 (.slice ra rl rc) (.slice sa sl sc) (Jn (K (i+1))) L U.M):=a2;have c9:U5.frz.lg U9.frz:=⟨λ x q E=>by show U9.I x=_;rw[b8,b6];exact ei x q E,⟨[],rfl⟩,by show U9.tok=_;rw[ck,cj];exact e9⟩;have ef:U7.frz.lg U9.frz:=⟨λ x q E=>by show U9.I x=_;rw[b8,b6];exact E,⟨[],rfl⟩,by show U9.tok=_;rw[ck,cj];rfl⟩;refine⟨_,(Jz (b:=b10) (e:=25) (vs:=[.slice ra rl rc,.slice sa sl sc]) (by rw[a2];simp)).cell (i:=1) rfl,?_⟩;refine⟨_,⟨rfl,Jz (b:=ah) (e:=39) (vs:=[.string c.nm,.int .i64 c.ag,.slice a8 ba a9,.nl]) (by rw[a2];simp)⟩,?_⟩
    conv=>whnf
    intro bb es
    refine zZ (M':=A++JW mb b10 H b4 (.slice ra rl rc) (.slice sa sl sc) (Jn (K (i+1))) L U.M) (M₀:=kF++[.cl ah [.string c.nm,.int .i64 c.ag,.slice a8 ba a9,.nl] 39]) es (by
     rw[a2];refine Perm.trans ?_ perm_append_comm;rw[append_assoc];exact Perm.refl _) λ Ua co c7 cr cy=>?_
    have bz:U9.frz.lg Ua.frz:=⟨co,⟨[],rfl⟩,c7⟩;have cy:Zj Ua bb (QY (({ c with af:=[] }:Cs),(⟨a8,ba,a9,.nl,[]⟩:ZJ))).toArray:=cy
    conv=>whnf
    refine Wn (v:=.slice sa sl sc) (cs:=ps.flatMap QY) (new:=QY (({ c with af:=[] }:Cs),(⟨a8,ba,a9,.nl,[]⟩:ZJ))) (M₀:=JW mb b10 H b4 (.slice ra rl rc) (.slice sa sl sc) (Jn (K (i+1))) L U.M) FZ rfl rfl (by rw[cr];exact av _) (.inr ⟨_,rfl,cy.rd⟩) rfl (by simp[QY,Value.single]) (by rw[Qz Zy,Zy];omega) λ v' M' cw _=>?_;obtain⟨cm,cp,b9⟩:=cw.split;obtain⟨ta,tl,tc,rfl,-⟩:=b9.src;refine⟨rfl,WJ (b:=b10) (e:=25) (c:=[.slice ra rl rc,.slice sa sl sc].toArray) (M₀:=.obj H (.cells (ZP L).toArray 3 (0,0))::.cl b4 [.nl,.nl] 111::U.M) (i:=1) (v:=.slice ta tl tc) (cm++[.obj mb (Qt QO (Jn (K (i+1))))]) (by show M'=_;rw[cp];simp) (by show 1<2;omega) rfl λ Uc ej fa ct=>?_⟩;have ct:Uc.M=cm++JW mb b10 H b4 (.slice ra rl rc) (.slice ta tl tc) (Jn (K (i+1))) L U.M:=by rw[ct];simp
    have b5:U9.frz.lg Uc.frz:=bz.trans ⟨λ x q E=>by show Uc.I x=_;rw[ej];exact E,⟨[],rfl⟩,fa⟩;refine⟨a4,rfl,(i+1,.slice ta tl tc),T1,⟨⟨λ x q E=>b5.imm x q (c9.imm x q (N.imm x q E)),⟨_,(append_nil _).symm⟩,b5.tok.trans (c9.tok.trans N.tok)⟩,by show i+1<=h.cl;omega,ps++[(({ c with af:=[] }:Cs),(⟨a8,ba,a9,.nl,[]⟩:ZJ))],cm,?_,?_,?_,ct⟩,L1⟩
    .show _=b.woL (K (i+1)) _;rw[bq,Bk.woL_snoc,map_append,bo,dm];rfl
    .intro p hp;rcases mem_append.1 hp with hp|hp
     .exact⟨(ao p hp).1.lg (c9.trans b5),(ao p hp).2⟩
     .rw[mem_singleton.1 hp];have:=hk.lg (ef.trans b5);exact⟨⟨this.gs,this.gl,.nil,this.nm,by show 0<=_;omega⟩,rfl⟩
    .rw[flatMap_append];simpa using b9
  have ai:i=h.cl:=by simp at V;omega
  subst ai
  have z:QQ U5 ⟨ra,rl,rc,sa,sl,sc⟩ (Bk.mk b.rs (b.woL (K h.cl) λ _=>[])) (JW mb b10 H b4 (.slice ra rl rc) (.slice sa sl sc) (Jn (K h.cl)) L U.M):=by
   refine⟨⟨ps,A,bo,λ p hp=>(ao p hp).1,av,?_⟩,bx.lg N.frz2 λ _ _ h=>h,by show rl<_;omega,hb.rn,c5⟩
   have:ps.flatMap (·.2.F)=[]:=by
    rw[flatMap_eq_nil_iff];exact λ p hp=>(ao p hp).2
   rw[this,hM];exact Perm.refl _
  clear hM av bo ao a4 bx
  conv=>whnf
  refine Oo (b:=mb) (enc:=QO) (l:=Jn (K h.cl)) VH rfl (.inr (z.mem _ S1)) λ it fi=>?_;have ek:(K h.cl).Nodup:=Bk.kpt_nodup _;have fu:(K h.cl).length<=5:=Nat.le_trans (Bk.kpt_len _) O1
  let G:Nat->List Int:=λ p=>Bk.afK o.testBit (L.getD ((K h.cl).getD p 0) 0) h.cl
  have z:QQ (U5.put it (Jx mb (Jn (K h.cl)).length #[])) ⟨ra,rl,rc,sa,sl,sc⟩ (Bk.mk b.rs (b.woL (K h.cl) λ p=>if p∈(#[]:Array Nat)then G p else[])) (.obj it (Jx mb (Jn (K h.cl)).length #[])::JW mb b10 H b4 (.slice ra rl rc) (.slice sa sl sc) (Jn (K h.cl)) L U.M):=by
   rw[show(λ p=>if p∈(#[]:Array Nat)then G p else[])=(λ _=>([]:List Int)) by funext p;simp];obtain⟨ps,A,h1,h2,h3,h4⟩:=z.ex;refine⟨⟨ps,A,h1,λ p hp=>(h2 p hp).lg ⟨λ _ _ h=>h,⟨[],rfl⟩,rfl⟩,h3,?_⟩,z.rs.lg ⟨λ _ _ h=>h,⟨[],rfl⟩,rfl⟩ λ _ _ h=>h,z.rl,z.rn,z.rc⟩;show(_::U5.M).Perm _;rw[<- append_assoc];refine(h4.cons _).trans ?_;rw[<- append_assoc];exact perm_middle.symm
  refine⟨Array Nat,λ _=>[(2,.pb B),(4,.pb b4),(5,.slice (some ⟨H,0,none⟩) h.cl h.cl),(10,.pb b10),(11,.map (some mb)),(122,.pb it)],
   λ seen U'=>U5.frz.lg U'/\QQ U' ⟨ra,rl,rc,sa,sl,sc⟩ (Bk.mk b.rs (b.woL (K h.cl) λ p=>if p∈seen then G p else[])) (.obj it (Jx mb (Jn (K h.cl)).length seen)::JW mb b10 H b4 (.slice ra rl rc) (.slice sa sl sc) (Jn (K h.cl)) L U.M)/\seen.toList.Nodup/\∀i∈seen.toList,i<(K h.cl).length,λ seen=>(K h.cl).length-seen.size,#[],T1,⟨⟨λ _ _ h=>h,⟨_,(append_nil _).symm⟩,rfl⟩,z,S1,S1⟩,?_⟩
  clear z;rintro seen f U6⟨bj,z,d1,cg⟩
  have e7:seen.size<=(K h.cl).length:=by
   have:=XJ d1 cg;simpa using this
  have bu:U1.frz.lg U6:=⟨λ x q E=>bj.imm x q (am.imm x q E),⟨_,(append_nil _).symm⟩,bj.tok.trans am.tok⟩;obtain⟨Xp,Yp,em,c6,-,-⟩:=z.pick
  conv=>whnf
  refine S7 (b:=mb) (r:=it) (seen:=seen) (enc:=QO) (l:=Jn (K h.cl)) (λ q=>Xp++.obj it q::Yp) rfl (.inr (z.mem _ S1)) (λ q=>by rw[em];exact P0 .here _) (λ ce=>?_) (λ q p hp d2=>?_)
  .have hfin:(Bk.mk b.rs (b.woL (K h.cl) λ p=>if p∈seen then G p else[]))=b.wo o.testBit:=by
    rw[Bk.wo_woL hW,bn];congr 1;refine Bk.woL_congr λ p hp=>?_;rw[if_pos (ce p (by rw[UM];exact hp))]
   rw[hfin]at z
   repeat refine⟨rfl,?_⟩
   refine⟨_,⟨rfl,Jz (b:=b10) (e:=25) (vs:=[.slice ra rl rc,.slice sa sl sc]) (z.mem _ S1)⟩,?_⟩
   conv=>whnf
   obtain⟨ps,A,h1,h2,h3,h4⟩:=z.ex;refine⟨rfl,Y9 (b:=b4) (e:=111) (c:=[.nl,.nl].toArray) (vs:=[.slice ra rl rc,.slice sa sl sc]) (L₁:=A++(ps.flatMap (·.2.F)++[.obj it (Jx mb (Jn (K h.cl)).length seen),.obj mb (Qt QO (Jn (K h.cl))),.cl b10 [.slice ra rl rc,.slice sa sl sc] 25,.obj H (.cells (ZP L).toArray 3 (0,0))])) (L₂:=U.M) (by simpa using h4) rfl (by simp[Value.single]) λ U7 bg bk bh=>?_⟩;refine⟨_,⟨rfl,Jz (b:=b4) (e:=111) (vs:=[.slice ra rl rc,.slice sa sl sc]) (by rw[bh];simp)⟩,?_⟩;have hz:U6.frz.lg U7.frz:=⟨λ x q E=>by show U7.I x=_;rw[bg];exact E,⟨[],rfl⟩,bk⟩;refine⟨⟨⟨ra,rl,rc,sa,sl,sc⟩,[.obj it (Jx mb (Jn (K h.cl)).length seen),.obj mb (Qt QO (Jn (K h.cl))),.cl b10 [.slice ra rl rc,.slice sa sl sc] 25,.obj H (.cells (ZP L).toArray 3 (0,0)),.cl b4 [.slice ra rl rc,.slice sa sl sc] 111],rfl,⟨⟨ps,A,h1,λ p hp=>(h2 p hp).lg hz,h3,by rw[bh];simp⟩,z.rs.lg hz λ _ _ h=>h,z.rl,z.rn,z.rc⟩⟩,λ x q E=>by rw[bg];exact bu.imm x q (bm.imm x q E),bk.trans (bu.tok.trans bm.tok)⟩
  .have hql:q<(K h.cl).length:=by have:=(List.getElem?_eq_some_iff.1 hp).1;rwa [UM]at this
   rw[L0 hql]at hp;cases hp;have c2:=Bk.kpt_lt (S0 hql:(K h.cl).getD q 0∈Bk.kpt o.testBit h.cl);generalize dy:(K h.cl).getD q 0=kk at c2
   have ch:(seen.push q).toList.Nodup:=by
    rw[Array.toList_push,nodup_append];refine⟨d1,S1,λ x E y hy=>?_⟩;rw[mem_singleton.1 hy];rintro rfl;exact d2 (by simpa using E)
   have bv:∀j∈(seen.push q).toList,j<(K h.cl).length:=by
    intro j hj;rw[Array.toList_push,mem_append]at hj;rcases hj with hj|hj
    .exact cg j hj
    .rw[mem_singleton.1 hj];exact hql
   have dq:(K h.cl).length-(seen.push q).size<(K h.cl).length-seen.size:=by
    have:=XJ ch bv;rw[Array.length_toList,Array.size_push]at this;rw[Array.size_push];omega
   have a1:=c6 ({ U6 with M:=Xp++.obj it (Jx mb (Jn (K h.cl)).length (seen.push q))::Yp }:Qa T) (.obj it (Jx mb (Jn (K h.cl)).length (seen.push q))) (λ _ _ h=>h) rfl rfl;have a6:U5.frz.lg ({ U6 with M:=Xp++.obj it (Jx mb (Jn (K h.cl)).length (seen.push q))::Yp }:Qa T):=⟨bj.imm,⟨_,(append_nil _).symm⟩,bj.tok⟩;generalize({ U6 with M:=Xp++.obj it (Jx mb (Jn (K h.cl)).length (seen.push q))::Yp }:Qa T)=U7 at a1 a6 ⊢;have bd:U1.frz.lg U7:=⟨λ x q E=>a6.imm x q (am.imm x q E),⟨_,(append_nil _).symm⟩,a6.tok.trans am.tok⟩
   repeat refine⟨rfl,?_⟩
   conv=>whnf
   refine On (b:=mb) (r:=it) (seen:=seen) (enc:=QO) (l:=Jn (K h.cl)) rfl (.inr (a1.mem _ S1)) (.inr (a1.mem _ S1)) (L0 hql) ?_;rw[dy];refine⟨_,(hB.imI bd.imm).sees3 (o:=1) rfl,Nat,λ k=>[(2,.pb B),(4,.pb b4),(5,.slice (some ⟨H,0,none⟩) h.cl h.cl),(10,.pb b10),(11,.map (some mb)),(14,.int .i64 kk),(15,.int .i64 q),(122,.pb it),(131,.int .i64 h.cl),(132,.int .i64 k)],
    λ k U'=>U7.frz.lg U'/\k<=h.cl/\QQ U' ⟨ra,rl,rc,sa,sl,sc⟩ (Bk.mk b.rs (b.woL (K h.cl) λ p=>if p=q then Bk.afK o.testBit (L.getD kk 0) k else if p∈seen then G p else[])) (.obj it (Jx mb (Jn (K h.cl)).length (seen.push q))::JW mb b10 H b4 (.slice ra rl rc) (.slice sa sl sc) (Jn (K h.cl)) L U.M),λ k=>h.cl-k,0,T1,⟨⟨λ _ _ h=>h,⟨_,(append_nil _).symm⟩,rfl⟩,O1,?_⟩,?_⟩
   .rw[Bk.woL_congr (b:=b) (g':=λ p=>if p∈seen then G p else[]) λ p hp=>?_]
    .exact a1
    .by_cases e:p=q
     .subst e;rw[if_pos rfl,if_neg d2];rfl
     .rw[if_neg e]
   rintro k f U8⟨ae,hk,Q⟩;have aj:Ja ((k:Int)+1):=I1
   have ez:U1.frz.lg U8:=⟨λ x q E=>ae.imm x q (bd.imm x q E),⟨_,(append_nil _).symm⟩,ae.tok.trans bd.tok⟩
   repeat refine⟨rfl,?_⟩
   conv=>whnf
   apply Qg<;>intro V
   .have hkt:k<h.cl:=by simpa using V
    cases az:o.testBit k with
    |true=>
     have c3:lk ((k:Nat):Int) (Jn (K h.cl))=none:=pW λ hm=>by
      have:=(Bk.kpt_lt hm).2;rw[az]at this;cases this
     conv=>whnf
     refine YJ (b:=mb) (k:=((k:Nat):Int)) (l:=Jn (K h.cl)) Pl VH HA rfl rfl (.inr (Q.mem _ S1)) ?_;rw[c3];refine⟨aj,?_⟩
     conv=>whnf
     exact⟨rfl,k+1,T1,⟨ae,O1,by rw[Bk.afK_out az];exact Q⟩,L1⟩
    |false=>
     obtain⟨d6,e4⟩:=v_ (f:=o.testBit) hkt az
     have c3:lk ((k:Nat):Int) (Jn (K h.cl))=some (.int .i64 ((K k).length:Nat)):=by
      have:=vX ek d6
      rwa [show(K h.cl).getD (Bk.kpt o.testBit k).length 0=k from e4]at this
     have a3:=HI (bp kk) (show k<60 by omega)
     have d9:U8.sees ((Addr.mk H 0 none).add (kk*1)) (.int .i64 (L.getD kk 0:Nat)):=by
      rw[Nat.mul_one];exact Jz (b:=H) (e:=3) (vs:=ZP L) (Q.mem _ S1) kk _ (IE (by rw[bl.len];exact c2.1))
     have ay:=Bk.afK_in (out:=o.testBit) (w:=L.getD kk 0) (j:=k) az
     conv=>whnf
     refine YJ (b:=mb) (k:=((k:Nat):Int)) (l:=Jn (K h.cl)) Pl VH HA rfl rfl (.inr (Q.mem _ S1)) ?_;rw[c3];refine⟨⟨H,0,none⟩,kk,⟨rfl,rfl,c2.1⟩,_,d9,O1,?_⟩
     repeat refine⟨rfl,?_⟩
     conv=>whnf
     apply Qg<;>intro V
     .have hb1:(L.getD kk 0).testBit k=true:=a3.symm.trans V;rw[hb1,if_pos rfl]at ay
      have d7:q<(Bk.mk b.rs (b.woL (K h.cl) λ p=>if p=q then Bk.afK o.testBit (L.getD kk 0) k else if p∈seen then G p else[])).cs.length:=by
       show q<(b.woL _ _).length;rw[Bk.woL_len];exact hql
      have ep:(Bk.mk b.rs (b.woL (K h.cl) λ p=>if p=q then Bk.afK o.testBit (L.getD kk 0) k else if p∈seen then G p else[])).cas q={ b.cas ((K h.cl).getD q 0)with af:=Bk.afK o.testBit (L.getD kk 0) k }:=by
       rw[Bk.cas_at (Bk.woL_at hql),if_pos rfl]
      obtain⟨a0,l0,c0,kF,cb,cc,rest,aq⟩:=Q.openC d7;have br:=aq.acc;rw[ep]at br;have ft:=aq.acc.src;have ew:=Bk.afK_len (out:=o.testBit) (L.getD kk 0) k
      let bc:=rest++(.obj it (Jx mb (Jn (K h.cl)).length (seen.push q))::JW mb b10 H b4 (.slice ra rl rc) (.slice sa sl sc) (Jn (K h.cl)) L U.M)
      let Us:Qa T:={ U8 with M:=kF++(.obj cb (.cells cc.toList.toArray 39 (0,0))::bc) }
      let Ub:Qa T:={ U8 with M:=.obj cb (.cells cc.toList.toArray 39 (0,0))::bc }
      have di:Ub.lg Us:=⟨λ _ _ h=>h,⟨kF,rfl⟩,rfl⟩;have fo:(some ⟨cb,0,none⟩:Option Addr)=sa:=aq.ca.symm;have d8:q<sl:=aq.lt;have bw:Jj Ub ⟨b10,0,none⟩ [.slice ra rl rc,.slice sa sl sc]:=Jz (e:=25) (by show _∈_::bc;simp[bc])
      have e5:Ub.sees (((Addr.mk cb 0 none).add (q*4)).add 3) (.slice a0 l0 c0):=by
       have:=Jz (U:=Ub) (b:=cb) (e:=39) (vs:=cc.toList) (by show _∈_::bc;simp) (q*4+3) _ aq.at3;rw[Qo]at this;rw[Qo,Qo,Nat.add_assoc];exact this
      conv=>whnf
      intro fk bt;refine pI (W3 aq.pm) ?_
      refine FD (mu:=[1039]) (ops:=GO Tryz.f65 39) (id:=39) (U:=Us) bt Ub di [10,11] [[0,1,2,3,4,5,6,7,8,9,10,11]] [12,13,14] DQ zn Qf K1 K1 K1 K1 K1
       (λ f' da U'=>da=[]/\∃(va:Option Addr)(vl vc:Nat)(F':List Qw),Xr f' [(2,.pb B),(4,.pb b4),(5,.slice (some ⟨H,0,none⟩) h.cl h.cl),(10,.pb b10),(11,.map (some mb)),(14,.int .i64 kk),(15,.int .i64 q),(122,.pb it),(131,.int .i64 h.cl),(132,.int .i64 k),(153,.slice sa sl sc),(154,.int .i64 q),(163,.slice va vl vc)]/\Js 3 1 (.slice va vl vc) ((Bk.afK o.testBit (L.getD kk 0) (k+1)).map λ n=>.int .i64 n) F'/\U8.frz.lg U'/\U'.M=F'++(.obj cb (.cells cc.toList.toArray 39 (0,0))::bc)) ?_ ?_
      .intro l hl;simp only[DQ,mem_cons,not_mem_nil,or_false]at hl;subst hl;refine⟨_,bw.cell (i:=1) rfl,_,bw.cell (i:=1) rfl,⟨cb,0,none⟩,q,⟨aq.ca,rfl,d8⟩,_,e5,λ v U'=>∃ab,v=.slice (some ⟨ab,0,none⟩) 1 1/\Zj U' ab #[.int .i64 ((K k).length:Nat)]/\Us.le U',λ v U1 U2⟨ab,e1,hb,hl⟩ak=>⟨ab,e1,hb.le ak,hl.trans ak⟩,λ v U'⟨ab,e1,hb,hl⟩=>di.trans hl.lg,λ U' hC=>?_,λ v hv=>?_⟩
       .have ak:=hC
        conv=>whnf
        intro ab c1;exact Zi c1 λ U3 ap hb=>⟨U3,.refl _,ab,rfl,hb,Qa.le.trans ak ap⟩
       obtain⟨_,ab,rfl,-⟩:=hv;refine⟨λ v U'=>∃(F':List Qw),(∃va vl vc,v=.slice va vl vc)/\Js 3 1 v ((Bk.afK o.testBit (L.getD kk 0) (k+1)).map λ n=>.int .i64 n) F'/\U8.frz.lg U'/\U'.M=F'++(.obj cb (.cells cc.toList.toArray 39 (0,0))::bc),λ v U1 U2⟨F',hs,h1,h2,h3⟩ak=>⟨F',hs,h1,h2.trans ak.lg,ak.own.trans h3⟩,λ v U'⟨F',hs,h1,h2,h3⟩=>⟨h2.imm,⟨F',h3⟩,h2.tok⟩,λ U' hC=>?_,λ v hv=>?_⟩
       .obtain⟨b162',e1,hb162,ak⟩:=hC;cases e1
        conv=>whnf
        refine Wn (v:=.slice a0 l0 c0) (cs:=(Bk.afK o.testBit (L.getD kk 0) k).map λ n=>.int .i64 n) (new:=[.int .i64 ((K k).length:Nat)]) (M₀:=.obj cb (.cells cc.toList.toArray 39 (0,0))::bc) H0 rfl rfl (by rw[ak.own];exact br _) (.inr ⟨_,rfl,hb162.rd⟩) rfl (by simp[Value.single]) (by rw[length_map,length_cons,length_nil];omega) λ v' M' cw _=>?_;obtain⟨F',cp,b1⟩:=cw.split;refine⟨_,.refl _,F',?_,by rw[ay];simpa using b1,⟨λ x q E=>ak.imm x q E,⟨_,(append_nil _).symm⟩,ak.tok⟩,cp⟩;obtain⟨ta,tl,tc,e2,-⟩:=b1.src;exact⟨ta,tl,tc,e2⟩
       obtain⟨_,F',⟨va,vl,vc,rfl⟩,-⟩:=hv
       conv=>whnf
       rintro U'⟨eh,-,h1,h2,h3⟩;exact⟨rfl,va,vl,vc,eh,T1,h1,h2,h3⟩
      rintro f' da U9⟨rfl,va,vl,vc,F',dv,b1,ev,el⟩;rw[<- dv.ovr];clear dv;refine⟨⟨cb,0,none⟩,q,⟨aq.ca,rfl,d8⟩,rfl,?_⟩;rw[show((Addr.mk cb 0 none).add (q*4)).add 3=(Addr.mk cb 0 none).add (q*4+3) by rw[Qo,Qo,Qo,Nat.add_assoc]];refine WJ (i:=q*4+3) (v:=.slice va vl vc) F' el (by simpa using aq.sz) rfl λ Ua co c7 cr=>?_;have bz:U8.frz.lg Ua.frz:=ev.frz2.trans ⟨λ x q E=>by show Ua.I x=_;rw[co];exact E,⟨[],rfl⟩,c7⟩;have ey:=Bk.afK_len (out:=o.testBit) (L.getD kk 0) (k+1);have be:=aq.back Ua (.slice va vl vc) F' (Bk.afK o.testBit (L.getD kk 0) (k+1)) (.obj it (Jx mb (Jn (K h.cl)).length (seen.push q))::JW mb b10 H b4 (.slice ra rl rc) (.slice sa sl sc) (Jn (K h.cl)) L U.M) bz b1 O1 (by rw[cr]);rw[Bk.woL_set hql]at be;rw[Bk.woL_congr (b:=b) (g':=λ p=>if p=q then Bk.afK o.testBit (L.getD kk 0) (k+1)else if p∈seen then G p else[]) λ p _=>by by_cases e:p=q <;> simp[e]]at be
      conv=>whnf
      intro a' b2;refine⟨by rw[b2.size,bt.size],_,b2.get,?_⟩;rw[b2.ds];clear b2 bt;refine⟨aj,?_⟩
      conv=>whnf
      exact⟨rfl,k+1,T1,⟨⟨λ x q E=>bz.imm x q (ae.imm x q E),⟨_,(append_nil _).symm⟩,bz.tok.trans ae.tok⟩,O1,be⟩,L1⟩
     .have hb1:(L.getD kk 0).testBit k=false:=a3.symm.trans V;rw[hb1,if_neg S1,append_nil]at ay;refine⟨aj,?_⟩
      conv=>whnf
      exact⟨rfl,k+1,T1,⟨ae,O1,by rw[ay];exact Q⟩,L1⟩
   .have ai:k=h.cl:=by simp at V;omega
    subst ai;rw[Bk.woL_congr (b:=b) (g':=λ p=>if p∈seen.push q then G p else[]) λ p hp=>?_]at Q
    .conv=>whnf
     exact⟨rfl,seen.push q,T1,⟨⟨λ x q E=>ae.imm x q (a6.imm x q E),⟨_,(append_nil _).symm⟩,ae.tok.trans a6.tok⟩,Q,ch,bv⟩,dq⟩
    .by_cases e:p=q
     .subst e;rw[if_pos rfl,if_pos S1];show _=Bk.afK o.testBit (L.getD ((K h.cl).getD p 0) 0) h.cl;rw[dy]
     .rw[if_neg e];by_cases hs:p∈seen
      .rw[if_pos hs,if_pos (by simp[hs])]
      .rw[if_neg hs,if_neg (by simp[hs,e])]
 refine eg.okv λ v U' hw⟨⟨h',Z,hv,d4⟩,hI,ht⟩=>?_
 have dz:(b.wo o.testBit).cs.length<=1000:=by
  show((b.kept o.testBit).map _).length<=_;rw[length_map];exact Nat.le_trans (Bk.kpt_len (out:=o.testBit) b.cs.length) O1
 obtain⟨U'',k1,k2,k3,k4⟩:=d4.freeze hw dz;exact⟨{ U'' with M:=U.M },k1.trans (Zz (by rw[k2];exact sublist_append_right ..)),⟨h',hv,k4,d4.rc⟩,⟨λ x q E=>k3.imm x q (hI x q E),rfl,k3.tok.trans ht⟩⟩
end
def WM(x:List Int):Nat:=Z5 (x.map Int.toNat)
def Bk.every(b:Bk):List Int:=(range b.cs.length).map λ(k:Nat)=>(k:Int)
def Bk.wdP(b:Bk)(r:Nat)(x:List Int):Bool:=(b.wo (WM x).testBit).fatR r==1
def Bk.wdL(b:Bk)(r:Nat):List Int:=(WI b.every (b.wdP r) 0 (b.cs.length+1)).getD []
def Bk.wdF(b:Bk)(r:Int):List Int:=if b.askF r=0 then b.wdL r.toNat else[]
def U_(h:b.cs.length<=5)(w:l.Sublist b.every):(∀n∈l,0<=n/\n<60)/\l.length<=5/\WM l<2^60:=by
 have f:∀n∈l,0<=n/\n<60:=λ n z=>by
  have:=w.subset z;simp only[Bk.every,mem_map,mem_range]at this;obtain⟨k,B,rfl⟩:=this;omega
 refine⟨f,?_,H6 (toNat_lt f)⟩;have:=w.length_le;simp[Bk.every]at this;omega
section
attribute [local irreducible] Qb Zp Wv
def BK(h:BH)(b:Bk)(L:Zq U.frz h b)(F:b.Ok)(r:Nat)(hr:r<b.rs.length)(E:Zj U m #[.slice h.ra h.rl h.rc,.slice h.ca h.cl h.cc])(B:Zj U p #[.int .i64 r]) :
  SH S 64 #[] #[.pb m,.pb p] (b.wdP r) b.every U:=by
 rintro q a cap W hq⟨X,V,hI,rfl⟩I;obtain⟨Q,q5,qo⟩:=U_ F.nc hq;have z:U.lg (⟨V,X++U.M,U.tok⟩:Qa T):=⟨hI,⟨X,rfl⟩,rfl⟩;generalize(⟨V,X++U.M,U.tok⟩:Qa T)=W at I z;refine Qb.pure' (Qb.of (args:=[_,_,_]) Uv Qf S1 ?_);have E:=E.lg z;have B:=B.lg z;refine⟨_,⟨rfl,E.rd⟩,?_⟩;refine⟨.int .i64 (WM q:Nat),λ U' f _=>?_,?_⟩
 .refine⟨XL.any,(Z8 a q.length cap q (I.lg (Qr.trans f.lg)) O1 Q).mono ?_⟩;rintro _ U''⟨rfl,hU⟩-;exact⟨rfl,_,.refl _,hU▸.refl _⟩
 refine⟨_,B.sees3 (o:=0) rfl,λ v U'=>∃w:BH,v=w.v/\Zq U'.frz w (b.wo (WM q).testBit),λ v W Y⟨w,e,L⟩f=>⟨w,e,L.lg f.lg.frz2⟩,λ U' f _=>?_,λ v hv=>?_⟩
 .refine⟨OF.any,(Dv h b (L.lg (z.frz2.trans f.lg.frz2)) F (WM q) qo).mono ?_⟩;rintro v U''⟨⟨w,e,N,-⟩,H⟩-;exact⟨U'',.refl _,⟨w,e,N⟩,H⟩
 obtain⟨_,-,-,w,rfl,-⟩:=hv
 conv=>whnf
 intro Y K Z;obtain⟨-,G,e,P⟩:=Z;have e':=Value.agg.inj e
 obtain rfl:w=G:=by
  obtain⟨x1,x2,x3,x4,x5,x6⟩:=w;obtain⟨y1,y2,y3,y4,y5,y6⟩:=G;simp at e';simp[e']
 refine⟨G4.any,(P_ w _ P (F.wo _) r hr).go λ _=>?_⟩
 repeat refine⟨rfl,?_⟩
 conv=>whnf
 exact K.lg
def BP(h:BH)(b:Bk)(Z:Zq U.frz h b)(hk:JY U)(r:Int):Qb S 18 #[h.v,.int .i64 r] (λ v U'=>(∃E,v=.tuple #[E,.int .i64 (b.askF r)]/\JQ U'.frz E (b.wdF r))/\U.le U') U:=by
 refine Qb.grown (R:=λ v U'=>∃E,v=.tuple #[E,.int .i64 (b.askF r)]/\JQ U' E (b.wdF r)) (λ v X Y hl⟨E,e,h1⟩=>⟨E,e,h1.lg hl⟩) (Qb.of (args:=[_,_]) Ut Qf S1 ?_);have T:=Z.cs.1
 repeat refine⟨rfl,?_⟩
 conv=>whnf
 intro B X aa K;have K:Zj X B #[.slice h.ra h.rl h.rc,.slice h.ca h.cl h.cc]:=K
 conv=>whnf
 intro b3 Y Q z;have z:Zj Y b3 #[.int .i64 r]:=z;have K:=K.le Q;have w:=aa.trans Q;refine⟨_,⟨rfl,K.rd⟩,?_⟩;refine⟨_,z.sees3 (o:=0) rfl,Pk.any,(PY h b (Z.lg w.lg.frz2) (hk.lg w.lg) r).go λ _=>?_⟩
 conv=>whnf
 intro b6 V;refine⟨_,.refl _,?_⟩;by_cases L:b.askF r=0
 .obtain⟨hok,hr0,hr1⟩:=Bk.askF_ok L;obtain⟨q,rfl⟩:=Int.eq_ofNat_of_zero_le hr0;have hq:q<b.rs.length:=by unfold Bk.nr at hr1;omega
  have ae:=hok.nc;have P:b.wdF (q:Int)=b.wdL q:=by unfold Bk.wdF;rw[if_pos L,Int.toNat_natCast]
  rw[if_pos L,L,P];refine⟨rfl,Zv (vs:=[.slice h.ra h.rl h.rc,.slice h.ca h.cl h.cc]) V rfl (by simp[Value.single]) λ U3 F G=>?_⟩;have G:Zj U3 b6 #[.slice h.ra h.rl h.rc,.slice h.ca h.cl h.cc]:=G;have z:=z.le F;have K:=K.le F;have I:=w.trans F
  repeat refine⟨rfl,?_⟩
  refine⟨_,⟨rfl,G.rd⟩,?_⟩;refine⟨_,K.sees3 (o:=1) rfl,λ v U'=>Jw U'.frz v b.every,λ v X Y W f=>W.lg f.lg.frz2,λ U' f _=>?_,λ v N=>?_⟩
  .refine⟨OE.any,(DE h b (Z.lg (I.lg.frz2.trans f.lg.frz2)) O1).mono ?_⟩;rintro v U''⟨N,H⟩-;exact⟨U'',.refl _,N,H⟩
  obtain⟨_,-,-,ea,ec,rfl,-⟩:=N;have ac:b.every.length=h.cl:=by simp[Bk.every,T]
  refine⟨λ v U'=>∃E,v=.tuple #[E,.bool (WI b.every (b.wdP q) 0 (b.cs.length+1)).isSome]/\JQ U'.frz E (b.wdL q),λ v X Y⟨E,e,W⟩f=>⟨E,e,W.lg f.lg.frz2⟩,λ U' f hC=>?_,λ v N=>?_⟩
  .obtain⟨-,ea',ec',e1,hei⟩:=hC;cases e1;have hz:U3.frz.lg U'.frz:=f.lg.frz2;have hl:=DG (S:=S) (U:=U') b.every ea ec (DY hei) (by rw[ac];omega) b.cs.length O1 64 #[] #[.pb b6,.pb b3] Uv.any (b.wdP q) (BK h b (Z.lg (I.lg.frz2.trans hz)) hok q hq (G.le f) (z.le f))
   conv=>whnf
   rw[<- T];refine⟨OD.any,hl.mono ?_⟩;rintro v U''⟨N,H⟩-;exact⟨U'',.refl _,N,H⟩
  obtain⟨_,-,-,E,rfl,wa,wc,rfl,-⟩:=N
  conv=>whnf
  intro U4 ab hC;obtain⟨-,ad,e1,W⟩:=hC
  obtain⟨e2,-⟩:(Value.slice wa (b.wdL q).length wc=ad)/\True:=by
   have:=Value.tuple.inj e1;simp at this;exact⟨this,trivial⟩
  subst e2
  repeat refine⟨rfl,?_⟩
  conv=>whnf
  exact⟨⟨_,rfl,W⟩,(I.trans ab).lg⟩
 .have P:b.wdF r=[]:=by unfold Bk.wdF;rw[if_neg L]
  rw[if_neg L,P];refine⟨rfl,Zv (vs:=[.nl,.nl]) V rfl (by simp[Value.single]) λ U3 F G=>?_⟩
  repeat refine⟨rfl,?_⟩
  conv=>whnf
  apply Qg<;>intro hc
  .repeat refine⟨rfl,?_⟩
   conv=>whnf
   exact⟨⟨_,rfl,.nil⟩,(w.trans F).lg⟩
  .exact absurd (by simpa using hc) L
def C3(h:BH)(b:Bk)(B:Zq U.frz h b)(E:JY U)(r:Int):Qb S 18 #[h.v,.int .i64 r] (λ v U'=>(∃f,v=.tuple #[f,.int .i64 (b.askF r)]/\Jw U'.frz f (b.wdF r))/\U.le U') U:=
 (BP h b B E r).mono λ v U'⟨⟨f,e,w⟩,z⟩=>⟨⟨f,e,w.v⟩,z⟩
end
def Bk.dcS(b:Bk)(r d:Nat):Int:=(b.wo d.testBit).fatR r
def Bk.dcP(b:Bk)(r:Nat)(x:List Int):Bool:=(range (2^b.cs.length)).all λ d=>!(d&&&WM x==0&&b.dcS r d != b.dcS r 0)
def Bk.dcL(b:Bk)(r:Nat):List Int:=(WI b.every (b.dcP r) 0 (b.cs.length+1)).getD []
def Bk.dcF(b:Bk)(r:Int):List Int:=if b.askF r=0 then b.dcL r.toNat else[]
def Bk.dcM(b:Bk)(r m:Nat):List (Int×Value):=JC m (λ d=>(d:Nat)) λ d=>.int .i64 (b.dcS r d)
def Bk.dcM_succ(b:Bk)(r m:Nat):Q_ ((m:Nat):Int) (.int .i64 (b.dcS r m)) (b.dcM r m)=b.dcM r (m+1):=by
 unfold Bk.dcM
 rw[(Yx (m:=m) (k:=((m:Nat):Int)) (ky:=λ d=>(d:Nat)) (vl:=λ d=>.int .i64 (b.dcS r d)) λ q f e=>by
  have:=Int.ofNat.inj e;omega).2,It]
def Bk.dcM_at(b:Bk)(h:p<m):lk ((p:Nat):Int) (b.dcM r m)=some (.int .i64 (b.dcS r p)):=
 Lb (m:=m) (ky:=λ p=>((p:Nat):Int)) (vl:=λ p=>.int .i64 (b.dcS r p)) h λ q r _ _ e=>Int.ofNat.inj e
def Bk.dcM_len(b:Bk)(r m:Nat):(b.dcM r m).length=m:=Dg _ _ _
def Bk.dcM_get(b:Bk)(h:q<m):(b.dcM r m)[q]?=some (((q:Nat):Int),.int .i64 (b.dcS r q)):=SF h
def Di(h:n<=5):2^n<=32:=by
 have:=Nat.pow_le_pow_right (show 0<2 by omega) h;simpa using this
section
attribute [local irreducible] Qb Zp Wv
def Nz(b:Bk)(ai:b.cs.length<=5)(r:Nat)(N:Zj U m #[.map (some n)])(hm:U.has n (Qt QO (b.dcM r (2^b.cs.length)))) :
  SH S 66 #[] #[.pb m] (b.dcP r) b.every U:=by
 rintro q a cap F hq⟨X,I',hI,rfl⟩ak;obtain⟨ao,q5,qo⟩:=U_ ai hq;have ad:U.lg (⟨I',X++U.M,U.tok⟩:Qa T):=⟨hI,⟨X,rfl⟩,rfl⟩;have hm:(⟨I',X++U.M,U.tok⟩:Qa T).has n (Qt QO (b.dcM r (2^b.cs.length))):=hm.imp (hI _ _) λ h=>mem_append_right _ h;generalize(⟨I',X++U.M,U.tok⟩:Qa T)=F at ak ad hm;have aq:=Di ai;have aj:0<2^b.cs.length:=Nat.two_pow_pos _;refine Qb.pure' (Qb.of (args:=[_,_]) Uw Qf S1 ?_);have N:=N.lg ad;refine⟨_,N.sees3 (o:=0) rfl,?_⟩
 conv=>whnf
 refine Oo (b:=n) (enc:=QO) (l:=b.dcM r (2^b.cs.length)) Of rfl hm λ it ap=>?_;rw[Bk.dcM_len];have al:=Z2 (U:=F) it (Jx n (2^b.cs.length) #[])
 refine⟨Array Nat,λ _=>[(0,.slice a q.length cap),(1,.pb m),(7,.pb it)],
  λ seen U'=>F.frz.lg U'/\U'.M=.obj it (Jx n (2^b.cs.length) seen)::F.M/\seen.toList.Nodup/\(∀i∈seen.toList,i<2^b.cs.length)/\∀i∈seen,(!(i&&&WM q==0&&b.dcS r i != b.dcS r 0))=true,λ seen=>2^b.cs.length-seen.size,#[],T1,⟨Qr.trans al,rfl,S1,S1,S1⟩,?_⟩
 rintro seen f U2⟨B,hM,am,ae,H⟩;have ag:∀U':Qa T,(∀x o,F.I x=some o->U'.I x=some o)->(∀r∈F.M,r∈U'.M)->U'.has n (Qt QO (b.dcM r (2^b.cs.length))):=λ U' Z h2=>hm.imp (Z _ _) (h2 _);have K:∀s,Jx n (2^b.cs.length) s=Jx n (b.dcM r (2^b.cs.length)).length s:=λ s=>by rw[Bk.dcM_len]
 conv=>whnf
 refine S7 (b:=n) (r:=it) (seen:=seen) (enc:=QO) (l:=b.dcM r (2^b.cs.length)) (λ o=>.obj it o::F.M) rfl (ag _ B.imm λ r hr=>by rw[hM];exact mem_cons_of_mem _ hr) (λ o=>by rw[hM,K];exact .here) (λ aa=>?_) (λ d p hp an=>?_)
 .have hP:b.dcP r q=true:=by
   unfold Bk.dcP;rw[all_eq_true];intro d hd;rw[mem_range]at hd;exact H d (aa d (by rw[Bk.dcM_len];exact hd))
  rw[hP]
  repeat refine⟨rfl,?_⟩
  conv=>whnf
  exact⟨B.imm,⟨[_],hM⟩,B.tok⟩
 .have hdl:d<2^b.cs.length:=by have:=(List.getElem?_eq_some_iff.1 hp).1;rwa [Bk.dcM_len]at this
  rw[b.dcM_get hdl]at hp;cases hp;have ac:d<2^60:=Nat.lt_of_lt_of_le (by omega:d<32) D1
  have L:(seen.push d).toList.Nodup:=by
   rw[Array.toList_push,nodup_append];refine⟨am,S1,λ x hx y hy=>?_⟩;rw[mem_singleton.1 hy];rintro rfl;exact an (by simpa using hx)
  have E:∀j∈(seen.push d).toList,j<2^b.cs.length:=by
   intro j Y;rw[Array.toList_push,mem_append]at Y;rcases Y with Y|Y
   .exact ae j Y
   .rw[mem_singleton.1 Y];exact hdl
  have V:2^b.cs.length-(seen.push d).size<2^b.cs.length-seen.size:=by
   have:=XJ L E;rw[Array.length_toList,Array.size_push]at this;rw[Array.size_push];omega
  have w:F.frz.lg ({ U2 with M:=.obj it (Jx n (b.dcM r (2^b.cs.length)).length (seen.push d))::F.M }:Qa T):=⟨B.imm,⟨_,(append_nil _).symm⟩,B.tok⟩;have G:({ U2 with M:=.obj it (Jx n (b.dcM r (2^b.cs.length)).length (seen.push d))::F.M }:Qa T).M=.obj it (Jx n (2^b.cs.length) (seen.push d))::F.M:=by rw[K]
  generalize({ U2 with M:=.obj it (Jx n (b.dcM r (2^b.cs.length)).length (seen.push d))::F.M }:Qa T)=U3 at w G ⊢;have ah:=ag U3 w.imm λ r hr=>by rw[G];exact mem_cons_of_mem _ hr
  have ab:=N.imI w.imm;have W:F.lg U3:=⟨w.imm,⟨[_],G⟩,w.tok⟩
  have z:∀h:(!(d&&&WM q==0&&b.dcS r d != b.dcS r 0))=true,∀i∈seen.push d,(!(i&&&WM q==0&&b.dcS r i != b.dcS r 0))=true:=λ h i hi=>by
   rcases Array.mem_push.1 hi with hi|rfl
   .exact H i hi
   .exact h
  have Q:(d&&&WM q==0&&b.dcS r d != b.dcS r 0)=true->b.dcP r q=false:=λ h=>by
   cases hh:b.dcP r q with
   |false=>rfl
   |true=>
    unfold Bk.dcP at hh;rw[all_eq_true]at hh;have:=hh d (by simpa using hdl);rw[h]at this;cases this
  repeat refine⟨rfl,?_⟩
  conv=>whnf
  refine On (b:=n) (r:=it) (seen:=seen) (enc:=QO) (l:=b.dcM r (2^b.cs.length)) rfl ah (.inr (by rw[G,K];exact mem_cons_self ..)) (b.dcM_get hdl) ?_;refine⟨XL.any,(Z8 a q.length cap q (ak.lg w) O1 ao).go λ _=>?_⟩;have hand:=SO ac qo
  have P:((IntKind.wrap .i64 ((BitVec.ofInt 64 ((d:Nat):Int)&&&BitVec.ofInt 64 ((WM q:Nat):Int)).toNat:Int))==0)=(d&&&WM q==0):=by
   rw[hand,Bool.eq_iff_iff,beq_iff_eq,beq_iff_eq];omega
  repeat refine⟨rfl,?_⟩
  conv=>whnf
  apply Jt<;>intro hc
  .have Z:(d&&&WM q==0)=true:=P.symm.trans hc;rw[Z,Bool.true_and]at Q z;refine⟨_,ab.sees3 (o:=0) rfl,?_⟩
   conv=>whnf
   refine YS (b:=n) (k:=((0:Nat):Int)) (l:=b.dcM r (2^b.cs.length)) Pl Of gR rfl rfl ah ?_;rw[b.dcM_at aj,Option.getD_some]
   repeat refine⟨rfl,?_⟩
   conv=>whnf
   apply Qg<;>intro hc
   .rw[Q hc]
    repeat refine⟨rfl,?_⟩
    conv=>whnf
    exact W
   .have hc':(b.dcS r d != b.dcS r 0)=false:=hc;rw[hc']at z
    conv=>whnf
    exact⟨rfl,seen.push d,T1,⟨w,G,L,E,z rfl⟩,V⟩
  .have Z:(d&&&WM q==0)=false:=P.symm.trans hc;rw[Z,Bool.false_and]at z
   conv=>whnf
   exact⟨rfl,seen.push d,T1,⟨w,G,L,E,z rfl⟩,V⟩
def CN(h:BH)(b:Bk)(hb:Zq U.frz h b)(hk:JY U)(r:Int):Qb S 19 #[h.v,.int .i64 r] (λ v U'=>(∃K,v=.tuple #[K,.int .i64 (b.askF r)]/\JQ U'.frz K (b.dcF r))/\U.le U') U:=by
 refine Qb.grown (R:=λ v U'=>∃K,v=.tuple #[K,.int .i64 (b.askF r)]/\JQ U' K (b.dcF r)) (λ v U1 Y hl⟨K,e,h1⟩=>⟨K,e,h1.lg hl⟩) (Qb.of (args:=[_,_]) OS Qf S1 ?_);have ab:=hb.cs.1
 repeat refine⟨rfl,?_⟩
 conv=>whnf
 intro B U1 Q hB;have hB:Zj U1 B #[.slice h.ra h.rl h.rc,.slice h.ca h.cl h.cc]:=hB;refine⟨_,⟨rfl,hB.rd⟩,?_⟩;refine⟨Pk.any,(PY h b (hb.lg Q.lg.frz2) (hk.lg Q.lg) r).go λ _=>?_⟩
 conv=>whnf
 intro b6 ad;refine⟨_,.refl _,?_⟩;by_cases hF:b.askF r=0
 .obtain⟨hok,hr0,hr1⟩:=Bk.askF_ok hF;obtain⟨q,rfl⟩:=Int.eq_ofNat_of_zero_le hr0;have hq:q<b.rs.length:=by unfold Bk.nr at hr1;omega
  have ai:=hok.nc;have aq:=Di ai;have ac:b.dcF (q:Int)=b.dcL q:=by unfold Bk.dcF;rw[if_pos hF,Int.toNat_natCast]
  rw[if_pos hF,hF,ac];refine⟨rfl,Zv (vs:=[.slice h.ra h.rl h.rc,.slice h.ca h.cl h.cc]) ad rfl (by simp[Value.single]) λ Y ag T=>?_⟩;have T:Zj Y b6 #[.slice h.ra h.rl h.rc,.slice h.ca h.cl h.cc]:=T;have hB:=hB.le ag;have F:=Q.trans ag
  repeat refine⟨rfl,?_⟩
  conv=>whnf
  refine GT QO λ mb ao=>?_
  conv=>whnf
  intro b8 ah;refine⟨_,.refl _,rfl,Zv (vs:=[.map (some mb)]) ah rfl (by simp[Value.single]) λ U3 H al=>?_⟩
  have ae:U3.M=.obj mb (Qt QO (b.dcM q 0))::U.M:=by
   rw[H.own];show _::Y.M=_;rw[F.own];rfl
  have G:Y.frz.lg U3:=⟨λ x o X=>H.imm x o X,⟨_,(append_nil _).symm⟩,H.tok⟩
  have e1:IntKind.wrap .i64 ((1:Int)*2^(min ((h.cl:Int).toNat) (IntKind.bits .i64)))=((2^b.cs.length:Nat):Int):=by
   rw[ab,<- Nat.one_shiftLeft];exact Y7 O1
  clear ad ah ao H;refine⟨_,(hB.imI G.imm).sees3 (o:=1) rfl,O1,?_⟩;rw[e1]
  refine⟨Nat,λ m=>[(1,.int .i64 q),(2,.pb B),(6,.pb b6),(8,.pb b8),(25,.int .i64 (2^b.cs.length:Nat)),(26,.int .i64 m)],
   λ m U'=>U3.frz.lg U'/\U'.M=.obj mb (Qt QO (b.dcM q m))::U.M/\m<=2^b.cs.length,λ m=>2^b.cs.length-m,0,T1,⟨⟨λ _ _ h=>h,⟨_,(append_nil _).symm⟩,rfl⟩,ae,Nat.zero_le _⟩,?_⟩
  rintro m f U4⟨N,hM,hm⟩;have an:Ja ((m:Int)+1):=I1
  have L:∀x o,Y.I x=some o->U4.I x=some o:=λ x o X=>N.imm x o (G.imm x o X);have Z:=T.imI L;have aa:=al.imI N.imm;have V:U.frz.lg U4.frz:=⟨λ x o X=>L x o (F.imm x o X),⟨[],rfl⟩,N.tok.trans (G.tok.trans F.tok)⟩
  repeat refine⟨rfl,?_⟩
  conv=>whnf
  apply Qg<;>intro hc
  .have hlt:m<2^b.cs.length:=Int.ofNat_lt.1 (of_decide_eq_true hc);refine⟨_,aa.sees3 (o:=0) rfl,_,⟨rfl,Z.rd⟩,?_⟩;refine⟨λ v U'=>∃P:BH,v=P.v/\Zq U'.frz P (b.wo m.testBit),λ v U1 Y⟨P,e,hb⟩w=>⟨P,e,hb.lg w.lg.frz2⟩,λ U' w _=>?_,λ v W=>?_⟩
   .refine⟨OF.any,(Dv h b (hb.lg (V.trans w.lg.frz2)) hok m (Nat.lt_of_lt_of_le (by omega:m<32) D1)).mono ?_⟩;rintro v U''⟨⟨P,e,ak,-⟩,z⟩-;exact⟨U'',.refl _,⟨P,e,ak⟩,z⟩
   obtain⟨_,-,-,P,rfl,-⟩:=W;refine⟨.int .i64 (b.dcS q m),λ U' w hC=>?_,?_⟩
   .obtain⟨-,h'',e,hbw⟩:=hC;have e':=Value.agg.inj e
    obtain rfl:P=h'':=by
     obtain⟨x1,x2,x3,x4,x5,x6⟩:=P;obtain⟨y1,y2,y3,y4,y5,y6⟩:=h'';simp at e';simp[e']
    refine⟨G4.any,(P_ P _ hbw (hok.wo _) q hq).mono ?_⟩;rintro _ U''⟨rfl,hU⟩-;exact⟨rfl,_,.refl _,hU▸.refl _⟩
   conv=>whnf
   intro U5 E _
   conv=>whnf
   refine Yv (b:=mb) (k:=((m:Nat):Int)) (l:=b.dcM q m) (v:=.int .i64 (b.dcS q m)) (M':=.obj mb (Qt QO (b.dcM q (m+1)))::U.M) Pl Of rfl rfl rfl (by rw[E.own,hM,b.dcM_succ];exact .here) ?_;refine⟨an,?_⟩
   conv=>whnf
   exact⟨rfl,m+1,T1,⟨⟨λ x o X=>E.imm x o (N.imm x o X),⟨_,(append_nil _).symm⟩,E.tok.trans N.tok⟩,rfl,O1⟩,L1⟩
  .have hge:m=2^b.cs.length:=Nat.le_antisymm hm (Nat.le_of_not_lt λ h=>absurd (Int.ofNat_lt.2 h) (of_decide_eq_false hc));subst hge;have aj:=hB.imI L;refine⟨_,⟨rfl,Z.rd⟩,?_⟩;refine⟨_,aj.sees3 (o:=1) rfl,λ v U'=>Jw U'.frz v b.every,λ v U1 Y hi w=>hi.lg w.lg.frz2,λ U' w _=>?_,λ v W=>?_⟩
   .refine⟨OE.any,(DE h b (hb.lg (V.trans w.lg.frz2)) O1).mono ?_⟩;rintro v U''⟨W,z⟩-;exact⟨U'',.refl _,W,z⟩
   obtain⟨_,-,-,ea,ec,rfl,-⟩:=W;have am:b.every.length=h.cl:=by simp[Bk.every,ab]
   refine⟨λ v U'=>∃K,v=.tuple #[K,.bool (WI b.every (b.dcP q) 0 (b.cs.length+1)).isSome]/\JQ U'.frz K (b.dcL q),λ v U1 Y⟨K,e,hi⟩w=>⟨K,e,hi.lg w.lg.frz2⟩,λ U' w hC=>?_,λ v W=>?_⟩
   .obtain⟨-,ea',ec',e1,hei⟩:=hC;cases e1;have hl:=DG (S:=S) (U:=U') b.every ea ec (DY hei) (by rw[am];omega) b.cs.length O1 66 #[] #[.pb b8] Uw.any (b.dcP q) (Nz b ai q (aa.le w) (.inr (by rw[w.own,hM];exact mem_cons_self ..)))
    conv=>whnf
    rw[<- ab];refine⟨OD.any,hl.mono ?_⟩;rintro v U''⟨W,z⟩-;exact⟨U'',.refl _,W,z⟩
   obtain⟨_,-,-,K,rfl,wa,wc,rfl,-⟩:=W
   conv=>whnf
   intro U5 E hC;obtain⟨-,ap,e1,hi⟩:=hC
   obtain⟨e2,-⟩:(Value.slice wa (b.dcL q).length wc=ap)/\True:=by
    have:=Value.tuple.inj e1;simp at this;exact⟨this,trivial⟩
   subst e2
   repeat refine⟨rfl,?_⟩
   refine⟨⟨_,rfl,hi⟩,⟨λ x o X=>E.imm x o (V.imm x o X),⟨[_],E.own.trans hM⟩,E.tok.trans V.tok⟩⟩
 .have ac:b.dcF r=[]:=by unfold Bk.dcF;rw[if_neg hF]
  rw[if_neg hF,ac];refine⟨rfl,Zv (vs:=[.nl,.nl]) ad rfl (by simp[Value.single]) λ U3 H T=>?_⟩
  repeat refine⟨rfl,?_⟩
  conv=>whnf
  apply Qg<;>intro hc
  .repeat refine⟨rfl,?_⟩
   conv=>whnf
   exact⟨⟨_,rfl,.nil⟩,(Q.trans H).lg⟩
  .exact absurd (by simpa using hc) hF
def Dx(h:BH)(b:Bk)(B:Zq U.frz h b)(E:JY U)(r:Int):Qb S 19 #[h.v,.int .i64 r] (λ v U'=>(∃f,v=.tuple #[f,.int .i64 (b.askF r)]/\Jw U'.frz f (b.dcF r))/\U.le U') U:=
 (CN h b B E r).mono λ v U'⟨⟨f,e,w⟩,z⟩=>⟨⟨f,e,w.v⟩,z⟩
end
variable{s:Int×Int}
def L4{n:Int}:∀{l:List Int},l.Pairwise (· < ·)->n∉l->(ZA n l).Pairwise (· < ·)
 |[],_,_=>by simp[ZA]
 |y::l,h,w=>by
  obtain⟨f,z⟩:=pairwise_cons.1 h;unfold ZA;split
  .refine pairwise_cons.2 ⟨λ x b=>?_,L4 z λ B=>w (by simp[B])⟩;rcases(Pi n x l).1 b with rfl|b
   .assumption
   .exact f x b
  .rename_i hge;have E:n≠y:=λ e=>w (by simp[e]);refine pairwise_cons.2 ⟨λ x b=>?_,h⟩;rcases mem_cons.1 b with rfl|b
   .omega
   .have:=f x b;omega
structure Bk.Ok1(b:Bk):Prop where
 nr:b.rs.length<=6
 nc:b.cs.length<=5
 ag:∀c∈b.cs,0<=c.ag/\c.ag<b.nr
 gl:∀c∈b.cs,c.gs.length<=3
 gs:∀c∈b.cs,∀g∈c.gs,g.length<=3/\∀n∈g,0<=n/\n<b.nr
 ri:∀c∈b.cs,c.af.Pairwise (· < ·)
 af:∀c∈b.cs,∀n∈c.af,0<=n/\n<b.nc
def Bk.Ok.ok1(h:b.Ok):b.Ok1:=⟨h.nr,h.nc,h.ag,h.gl,h.gs,λ _ f=>(h.asc f).2,h.af⟩
def Bk.Ok1.ok(h:b.Ok1)(w:Wu b.A=false):b.Ok:=
 ⟨h.nr,h.nc,h.ag,h.gl,h.gs,λ c f=>SB (h.ri c f) (h.af c f) (λ m e=>by cases e),h.af,w⟩
def Bk.Ok1.low(h:b.Ok1):b.Low:=⟨h.nc,h.af⟩
structure Bk.Fr(b:Bk)(s:Int×Int):Prop where
 c0:0<=s.1
 cl:s.1.toNat<b.cs.length
 u0:0<=s.2
 ul:s.2<b.nc
 no:s.2∉(b.cas s.1.toNat).af
def Bk.sty_cs(b:Bk)(s:Int×Int)(h:y∈(b.sty s).cs):y∈b.cs\/y={ b.cas s.1.toNat with af:=ZA s.2 (b.cas s.1.toNat).af }:=mem_or_eq_of_mem_set h
def Bk.Ok1.sty{b:Bk}(h:b.Ok1){s:Int×Int}(B:b.Fr s):(b.sty s).Ok1:=by
 have w:=Bk.cas_mem B.cl;have z:(b.sty s).nc=b.nc:=by unfold Bk.nc;rw[b.sty_len]
 refine⟨h.nr,by rw[b.sty_len];exact h.nc,λ c f=>?_,λ c f=>?_,λ c f=>?_,λ c f=>?_,λ c f=>?_⟩ <;> rcases b.sty_cs s f with f|rfl
 .exact h.ag c f
 .exact h.ag (b.cas s.1.toNat) w
 .exact h.gl c f
 .exact h.gl (b.cas s.1.toNat) w
 .exact h.gs c f
 .exact h.gs (b.cas s.1.toNat) w
 .exact h.ri c f
 .exact L4 (h.ri _ w) B.no
 .rw[z];exact h.af c f
 .rw[z];intro n E;rcases(Pi s.2 n _).1 E with rfl|E
  .exact⟨B.u0,B.ul⟩
  .exact h.af _ w n E
def Bk.Fr.sty{b:Bk}{s f:Int×Int}(B:b.Fr s)(h:b.Fr f)(z:f≠s):(b.sty s).Fr f:=by
 refine⟨h.c0,by rw[b.sty_len];exact h.cl,h.u0,by unfold Bk.nc;rw[b.sty_len];exact h.ul,?_⟩;by_cases e:s.1.toNat=f.1.toNat
 .have e2:f.1=s.1:=by have:=B.c0;have:=h.c0;omega
  have:(b.sty s).cas f.1.toNat={ b.cas s.1.toNat with af:=ZA s.2 (b.cas s.1.toNat).af }:=by
   refine Bk.cas_at ?_;show(b.cs.set s.1.toNat _)[f.1.toNat]?=_;rw[getElem?_set,if_pos e,if_pos B.cl]
  rw[this];intro w;rcases(Pi s.2 f.2 _).1 w with E|w
  .exact z (Prod.ext e2 E)
  .exact h.no (by rw[<- e];exact w)
 .have:(b.sty s).cas f.1.toNat=b.cas f.1.toNat:=by
   show(b.cs.set s.1.toNat _).getD f.1.toNat default=_;rw[getD_eq_getElem?_getD,getElem?_set,if_neg e,<- getD_eq_getElem?_getD];rfl
  rw[this];exact h.no
def Bk.Ok1.stys{b:Bk}(h:b.Ok1):∀{l:List (Int×Int)},(∀s∈l,b.Fr s)->l.Nodup->(b.stys l).Ok1:=by
 intro l
 induction l generalizing b with
 |nil=>exact λ _ _=>h
 |cons s l F=>
  intro w E;obtain⟨z,B⟩:=nodup_cons.1 E;exact F (b:=b.sty s) (h.sty (w s S1)) (λ G f=>(w s S1).sty (w G (by simp[f])) λ e=>z (e▸f)) B
def Bk.stys_rs(b:Bk)(l:List (Int×Int)):(b.stys l).rs=b.rs:=by
 induction l generalizing b with
 |nil=>rfl
 |cons s l f=>exact f (b.sty s)
def Bk.cans_fr(h:s∈b.cans):b.Fr s:=by
 simp only[Bk.cans,mem_flatMap,mem_range,mem_map,mem_filter,Bool.and_eq_true,Bool.not_eq_true',contains_eq_mem,decide_eq_false_iff_not]at h;obtain⟨i,w,k,⟨z,-,f⟩,rfl⟩:=h;exact⟨S1,by simpa using w,S1,by unfold Bk.nc;simp only;omega,by simpa using f⟩
def Bk.good(b:Bk)(r:Nat)(w:Int)(l:List (Int×Int)):Bool:=!Wu (b.stys l).A&&(b.stys l).fatR r==w
section
attribute [local irreducible] Qb Zp Wv
def CR(h:BH)(b:Bk)(H:Zq U.frz h b)(f:b.Ok)(l:List (Int×Int))(a:Option Addr)(c:Nat)(I:Q8 U a l.length 2 l (λ x vs=>vs=encII x))(z:l.length<=6)(w:∀s∈l,b.Fr s) :
  Qb S 91 #[h.v,.slice a l.length c] (λ v U'=>(∃B:BH,v=B.v/\Zq U'.frz B (b.stys l))/\U.le U') U:=by
 have K:=f.nc;refine(qq h b H f.sml l a c I z f.srt λ s E=>⟨(w s E).c0,(w s E).cl⟩).okv λ v U' Q⟨⟨B,P,L⟩,G,N⟩=>?_;obtain⟨U'',V,W,F,X⟩:=L.freeze Q (by rw[Bk.stys_len];omega);exact⟨U'',V,⟨B,P,X⟩,⟨λ x q T=>F.imm x q (G x q T),W,F.tok.trans N⟩⟩
end
variable{enc:α->List Value}
def xT(H:∀x,(enc x).length=n){l:List α}(h:Q8 U a l.length n l λ x vs=>vs=enc x)(f:0<n):Src U a (l.flatMap enc):=by
 cases a with
 |none=>
  cases l with
  |nil=>exact .inl ⟨rfl,rfl⟩
  |cons x l=>
   obtain⟨w,vs,e,_⟩:=h.2 0 x rfl;cases e
 |some w=>
  refine .inr ⟨w,rfl,λ j v I=>?_⟩;have G:=(List.getElem?_eq_some_iff.1 I).1;rw[Qz H]at G;have F:j / n<l.length:=Nat.div_lt_of_lt_mul (by rw[Nat.mul_comm];exact G);have L:j % n<n:=Nat.mod_lt _ f;obtain⟨K,vs,e,z,rfl,P,N⟩:=h.2 (j / n) _ (getElem?_eq_getElem F);cases e;have b:j / n*n+j % n=j:=by rw[Nat.mul_comm];exact Nat.div_add_mod j n
  have B:=P5 H (getElem?_eq_getElem F) L;rw[b,I]at B;have E:=N (j % n) v B.symm;obtain⟨bb,Q,u⟩:=w;cases z;rw[Qo,Qo,Nat.add_assoc,b]at E;rw[Qo];exact E
def ZC:Option (List (Int×Int))->Option (List (Int×Int))->Option (List (Int×Int))
 |none,y=>y
 |some x,none=>some x
 |some x,some y=>some (if QX x y<0 then x else y)
def nb(l:List (Int×Int)):Option (List (Int×Int))->List (Int×Int)
 |none=>l
 |some y=>if QX l y<0 then l else y
def SP(f:Fm)(x:Operand)(v:Value)(h:Zg f x=v):((#[]++Array.map (Zg f) #[x])++#[]:Array Value)=#[v]:=by simp[h]
def PP(fb bb:Nat)(o:Option (List (Int×Int)))(M:List Qw):Prop:=∃a l c A,Js 60 2 (.slice a l c) ((o.getD []).flatMap encII) A/\(∀x,o=some x->l=x.length)/\M=.cl fb [.bool o.isSome] 4::.cl bb [.slice a l c] 49::A
def JD(fb bb:Nat)(f h:Option (List (Int×Int)))(a b:Bool):TM.Spec:=PP fb bb (ZC (if a then f else none) (if b then h else none))
structure HK(U:Qa T)(h:BH)(b:Bk)(r:Nat)(w:Int)(i:Nat)(bcan bfst bbk brt bwt:Nat):Prop where
 can:∃a c,Zj U bcan #[.slice a b.cans.length c]/\Q8 U.frz a b.cans.length 2 b.cans (λ x vs=>vs=encII x)/\b.cans.length<=c
 fst:Zj U bfst #[.int .i64 i]
 bk:Zj U bbk #[.slice h.ra h.rl h.rc,.slice h.ca h.cl h.cc]
 bv:Zq U.frz h b
 rt:Zj U brt #[.int .i64 r]
 wt:Zj U bwt #[.int .i64 w]
def HK.imI{h:BH}{b:Bk}{r i:Nat}{w:Int}{bcan bfst bbk brt bwt:Nat}(k:HK U h b r w i bcan bfst bbk brt bwt)(f:∀x o,U.I x=some o->U'.I x=some o)(z:U'.tok=U.tok):HK U' h b r w i bcan bfst bbk brt bwt:=
 ⟨let ⟨a,c,h1,h2,h3⟩:=k.can;⟨a,c,h1.imI f,h2.lg ⟨f,⟨[],rfl⟩,z⟩ (λ _ _ h=>h),h3⟩,k.fst.imI f,k.bk.imI f,k.bv.lg ⟨f,⟨[],rfl⟩,z⟩,k.rt.imI f,k.wt.imI f⟩
variable{U₀:Qa Tk}{bwt lm fb:Nat}{D:Spec}{ci:Int×Int}
section
attribute [local irreducible] Qb Zp Wv
def qx(h:BH)(b:Bk)(bt:b.Ok)(ce:b.cans.Nodup)(r:Nat)(Z:r<b.rs.length)(w:Int)(i:Nat){bcan bfst bbk brt bb g:Nat}(a7:b.cans[i]?=some ci)(he:HK U₀ h b r w i bcan bfst bbk brt bwt)
  (E F:Option (List (Int×Int))) (a5:∀x,E=some x\/F=some x->x.length<=1000) (bx:∀x y,E=some x->F=some y->(if QX y x<0 then y else x)=(if QX x y<0 then x else y))
  (m:Nat) (hm:m<=5) (mt:Option ZN) (co:U₀.tok=⟨0,.wrk g D,mt⟩)
  (av:∀k q,(TM.parts (b.cans.drop (i+1)) m)[k]?=some q->(∀q'∈(TM.parts (b.cans.drop (i+1)) m).take k,b.good r w (ci::q')=false)->b.good r w (ci::q)=true->∃s lo,mt=some (.lok ⟨lm,166,JD fb bb E F⟩ s .idle lo)/\(if s then F else E)=some (ci::q)) :
  Gp Q6 90 #[] #[.pb bcan,.pb bfst,.pb bbk,.pb brt,.pb bwt,.pb lm,.pb fb,.pb bb] encII 2 (TM.parts (b.cans.drop (i+1)) m)
   (λ k U'=>U'.tok=⟨0,.wrk g D,mt⟩/\∀q∈(TM.parts (b.cans.drop (i+1)) m).take k,b.good r w (ci::q)=false)
   (λ U'=>∃s lo,U'.tok=⟨0,.wrk g D,some (.lok ⟨lm,166,JD fb bb E F⟩ s .fin lo)⟩) U₀:=by
 intro k q qa qc U X Mc hq h0 bc ax hM⟨ay,bs⟩;have ay:U.tok=⟨0,.wrk g D,mt⟩:=ay;have he:=HK.imI (U':=U) he h0.imm h0.tok;obtain⟨cf,cp⟩:=HX.1 (mem_of_getElem? hq)
 have a4:(ci::q).Sublist b.cans:=by
  have h1:b.cans.drop i=ci::b.cans.drop (i+1):=Ha a7;have h2:(ci::q).Sublist (b.cans.drop i):=by rw[h1];exact cf.cons_cons ci
  exact h2.trans (drop_sublist i b.cans)
 have bo:∀s∈ci::q,b.Fr s:=λ s hs=>Bk.cans_fr (a4.subset hs);have a3:(b.stys (ci::q)).Ok1:=bt.ok1.stys bo (ce.sublist a4);have br:(ci::q).length<=6:=S3
 have bq:i<b.cans.length:=(List.getElem?_eq_some_iff.1 a7).1;refine Qb.post (R:=λ v U'=>(v=.bool false/\b.good r w (ci::q)=false/\U.lg U')\/(v=.bool true/\(∃s lo,U'.tok=⟨0,.wrk g D,some (.lok ⟨lm,166,JD fb bb E F⟩ s .fin lo)⟩)/\∀x o,U.I x=some o->U'.I x=some o)) ?_ λ v U' hv=>?_
 rotate_left
 .rcases hv with⟨rfl,hg,aw⟩|⟨rfl,ht,hI⟩
  .obtain⟨A,hA⟩:=aw.own;refine⟨{ U' with M:=U.M },Zz (by rw[hA];exact sublist_append_right ..),.inl ⟨rfl,⟨aw.imm,⟨[],rfl⟩,aw.tok⟩,Mc,hM,aw.tok.trans ay,λ q' W=>?_⟩⟩;rw[Wf hq,mem_append]at W;rcases W with W|W
   .exact bs q' W
   .rw[mem_singleton.1 W];exact hg
  .exact⟨U',.refl _,.inr ⟨rfl,[],U'.M,rfl,ht,hI⟩⟩
 refine Qb.ofD (args:=[_,_,_,_,_,_,_,_,_]) UF Qf S1 ?_;obtain⟨ca,cc,b5,b6,-⟩:=he.can;obtain⟨ad,x,vs,V,rfl,cm,rfl,-,cg⟩:=b6.at bq;rw[a7]at V;cases V;refine⟨_,b5.sees3 (o:=0) rfl,_,he.fst.sees3 (o:=0) rfl,ad,i,⟨rfl,rfl,bq⟩,_,⟨rfl,cg.lg Qr⟩,?_⟩
 conv=>whnf
 intro K bn;refine⟨U.put K (.cells (encII ci).toArray 60),.refl _,?_⟩;have H:=Z2 (U:=U) K (.cells (encII ci).toArray 60);have a6:(U.put K (.cells (encII ci).toArray 60)).M=.obj K (.cells (encII ci).toArray 60 (0,0))::U.M:=rfl;generalize U.put K (.cells (encII ci).toArray 60)=Up at H a6 ⊢
 conv=>whnf
 refine Wn (v:=.slice (some ⟨K,0,none⟩) 1 1) (cs:=encII ci) (new:=q.flatMap encII) (M₀:=U.M) VF rfl rfl (.inr ⟨K,(encII ci).toArray,1,1,rfl,rfl,Nat.le_refl _,rfl,a6,λ k v hv=>by simpa using hv⟩) (xT (enc:=encII) (n:=2) (λ _=>rfl) (bc.lg (Qr.trans H) λ _ _ h=>h) D1) (Qz (f:=encII) (n:=2) (λ _=>rfl) q) (λ v hv=>by
  obtain⟨y,-,hy⟩:=mem_flatMap.1 hv;simp[encII]at hy;rcases hy with rfl|rfl <;> rfl) (by rw[Qz (f:=encII) (n:=2) (λ _=>rfl)];simp[encII];omega) λ v' M' aj _=>?_
 have aj:Acc 60 2 v' ((ci::q).flatMap encII) M' U.M:=by simpa using aj
 obtain⟨A,bf,hA⟩:=aj.split;obtain⟨la,ll,lc,rfl,a9⟩:=hA.src;have a9:(ci::q).length=ll:=by have e:=(Qz (f:=encII) (n:=2) (λ _=>rfl) (ci::q)).symm.trans a9;omega
 subst a9;have T:U.lg ({ Up with M:=M' }:Qa Tk):=⟨H.imm,⟨A,bf⟩,H.tok⟩
 have a8:Q8 ({ Up with M:=M' }:Qa Tk) la (ci::q).length 2 (ci::q) λ x vs=>vs=encII x:=by
  obtain⟨a2,l2,c2,e2,h2,h3⟩:=Acc.src (U:={ Up with M:=M' }) aj;obtain⟨rfl,-,-⟩:=Value.slice.inj e2;refine Hv (enc:=encII) (n:=2) (λ _=>rfl) h3 (λ ad e=>?_) D1;subst e;rcases aj with⟨e1,_,_⟩|⟨b',c',b0,bd,e1,_⟩
  .cases e1
  .cases e1;rfl
 generalize bi:({ Up with M:=M' }:Qa Tk)=U1 at T a8 ⊢;have bg:U1.M=A++U.M:=by rw[<- bi];exact bf
 clear bi bn H a6;have ak:=he.imI T.imm T.tok;refine⟨_,⟨rfl,ak.bk.rd⟩,?_⟩;refine⟨UG.any,(CR (S:=Q6) (U:=U1) h b ak.bv bt (ci::q) la lc a8 br bo).mono ?_⟩;rintro _ U2⟨⟨P,rfl,au⟩,b4⟩-
 conv=>whnf
 intro b1 bm;refine⟨_,.refl _,rfl,Zv (vs:=[.slice P.ra P.rl P.rc,.slice P.ca P.cl P.cc]) bm rfl (by simp[Value.single]) λ U3 bj Q=>?_⟩;have Q:Zj U3 b1 #[.slice P.ra P.rl P.rc,.slice P.ca P.cl P.cc]:=Q;have al:=b4.trans bj;have au:=au.lg bj.lg.frz2;have bh:=al.own.trans bg;have bl:=ak.imI al.imm al.tok;have an:=T.trans al.lg;refine⟨_,⟨rfl,Q.rd⟩,?_⟩;refine⟨.int .i64 (if Wu (b.stys (ci::q)).A then 8 else 0),λ U' am _=>?_,?_⟩
 .refine⟨OI.any,(DH P _ ((au.lg am.lg.frz2).lg Qr) a3.low).mono ?_⟩;rintro _ U''⟨rfl,hU⟩-;exact⟨rfl,_,.refl _,hU▸.refl _⟩
 cases H:Wu (b.stys (ci::q)).A with
 |true=>
  have hg:b.good r w (ci::q)=false:=by unfold Bk.good;rw[H];rfl
  refine⟨rfl,?_⟩
  conv=>whnf
  intro U4 ai _
  repeat refine⟨rfl,?_⟩
  conv=>whnf
  exact .inl ⟨rfl,hg,an.trans ai.lg⟩
 |false=>
 have bu:=a3.ok H;have bp:b.good r w (ci::q)=((b.stys (ci::q)).fatR r==w):=by unfold Bk.good;rw[H];rfl
 refine⟨rfl,_,⟨rfl,Q.rd⟩,?_⟩;refine⟨_,bl.rt.sees3 (o:=0) rfl,.int .i64 ((b.stys (ci::q)).fatR r),λ U' am _=>?_,?_⟩
 .refine⟨G4.any,(P_ P _ (au.lg am.lg.frz2) bu r (by rw[Bk.stys_rs];exact Z)).mono ?_⟩;rintro _ U''⟨rfl,hU⟩-;exact⟨rfl,_,.refl _,hU▸.refl _⟩
 refine⟨_,bl.wt.sees3 (o:=0) rfl,?_⟩
 conv=>whnf
 intro U4 ai _;have be:=ai.own.trans bh;have N:=an.trans ai.lg;have b7:Q8 U4 la (ci::q).length 2 (ci::q) λ x vs=>vs=encII x:=a8.lg (al.trans ai).lg λ _ _ h=>h
 repeat refine⟨rfl,?_⟩
 conv=>whnf
 apply Qg<;>intro hc
 .have hg:b.good r w (ci::q)=false:=by
   rw[bp];have:(b.stys (ci::q)).fatR r≠w:=by simpa using hc
   simpa using this
  repeat refine⟨rfl,?_⟩
  conv=>whnf
  exact .inl ⟨rfl,hg,N⟩
 have hg:b.good r w (ci::q)=true:=by
  rw[bp];have:(b.stys (ci::q)).fatR r=w:=by simpa using hc
  simpa using this
 obtain⟨s,lo,rfl,L⟩:=av k q hq bs hg;have ch:U4.tok=⟨0,.wrk g D,some (.lok ⟨lm,166,JD fb bb E F⟩ s .idle lo)⟩:=N.tok.trans ay
 have ba:Qb Q6 93 #[.pb lm] (λ v U'=>v=.tuple #[]/\∃B M lo',JD fb bb E F (if s then B else false) (if s then false else B) M/\U'.M=M++U4.M/\(∀x o,U4.I x=some o->U'.I x=some o)/\U'.tok=⟨0,.wrk g D,some (.lok ⟨lm,166,JD fb bb E F⟩ s (.own B) lo')⟩) U4:=by
  refine Qb.post (R:=λ v U'=>v=.tuple #[]/\∃B M lo',JD fb bb E F (if s then B else false) (if s then false else B) M/\U'.M=U4.M++M/\(∀x o,U4.I x=some o->U'.I x=some o)/\U'.tok=⟨0,.wrk g D,some (.lok ⟨lm,166,JD fb bb E F⟩ s (.own B) lo')⟩) (NO ch λ B M lo' ax=>⟨rfl,B,M,lo',ax,rfl,λ _ _ h=>h,rfl⟩) λ v U'⟨hv,B,M,lo',ax,ae,hI,ht⟩=>?_;exact⟨{ U' with M:=M++U4.M },W3 (by rw[ae];exact perm_append_comm),hv,B,M,lo',ax,rfl,hI,ht⟩
 refine⟨Nv,ba.mono ?_⟩;rintro _ U5⟨rfl,B,MS,lo',b3,z,a0,bz⟩-;obtain⟨ya,yl,yc,Y,aa,az,rfl⟩:=b3;have z:U5.M=.cl fb [.bool (ZC (if(if s then B else false)then E else none) (if(if s then false else B)then F else none)).isSome] 4::.cl bb [.slice ya yl yc] 49::(Y++(A++U.M)):=by rw[z,be];simp
 have fin:∀(M₁ M₂:List Qw)(U6:Qa Tk),U6.tok=U5.tok->(∀x o,U5.I x=some o->U6.I x=some o)->U6.M=M₁++M₂->JD fb bb E F (if s then B else true) (if s then true else B) M₁ ->
   Xy Q6 94 #[.pb lm] (λ U'=>(Value.bool true=.bool false/\b.good r w (ci::q)=false/\U.lg U')\/(Value.bool true=.bool true/\(∃s lo,U'.tok=⟨0,.wrk g D,some (.lok ⟨lm,166,JD fb bb E F⟩ s .fin lo)⟩)/\∀x o,U.I x=some o->U'.I x=some o)) U6:=by
  intro M₁ M₂ U6 ht hI ae hD;exact zv (ht.trans bz) ae hD (.inr ⟨rfl,⟨s,lo',rfl⟩,λ x o V=>hI x o (a0 x o (N.imm x o V))⟩)
 generalize G:ZC (if(if s then B else false)then E else none) (if(if s then false else B)then F else none)=o at aa az z
 have ao:ZC (if(if s then B else true)then E else none) (if(if s then true else B)then F else none)=some (nb (ci::q) o):=by
  cases s with
  |false=>
   have L:E=some (ci::q):=L;have G:ZC none (if B then F else none)=o:=G;show ZC E (if B then F else none)=_;rw[L];have G:(if B then F else none)=o:=G;rw[G];cases o <;> rfl
  |true=>
   have L:F=some (ci::q):=L;have G:ZC (if B then E else none) none=o:=G;show ZC (if B then E else none) F=_;rw[L]
   have G:(if B then E else none)=o:=by
    rw[<- G];cases(if B then E else none) <;> rfl
   rw[G];cases o with
   |none=>rfl
   |some y=>
    have b2:E=some y:=by
     cases B with
     |true=>exact G
     |false=>cases G
    show some (if QX y (ci::q)<0 then y else ci::q)=some (if QX (ci::q) y<0 then ci::q else y);rw[bx y (ci::q) b2 L]
 have bw:(Value.slice la (ci::q).length lc).single=true:=rfl
 have ck:∀U':Qa Tk,U'.M=U5.M->U'.sees ((Addr.mk fb 0 none)) (.bool o.isSome):=λ U' ae=>by
  have:=Jz (U:=U') (b:=fb) (e:=4) (vs:=[.bool o.isSome]) (by rw[ae,z];simp) 0 _ rfl;exact this
 repeat refine⟨rfl,?_⟩
 refine⟨_,ck U5 rfl,?_⟩;cases o with
 |none=>
  refine⟨rfl,Y9 (b:=bb) (e:=49) (c:=[.slice ya yl yc].toArray) (L₁:=[.cl fb [.bool false] 4]) (L₂:=A++(Y++U.M)) (vs:=[.slice la (ci::q).length lc]) (by
   rw[z];refine Perm.cons _ (Perm.cons _ ?_);exact perm_append_comm_assoc _ _ _) rfl (by simp[Value.single]) λ U6 ab ap ag=>?_⟩
  refine⟨rfl,Wd (b:=fb) (e:=4) (c:=#[.bool false]) (vs:=[.bool true]) (M₀:=.cl bb [.slice la (ci::q).length lc] 49::(A++(Y++U.M))) [] ag rfl (by simp[Value.single]) λ U7 ac aq ah=>?_⟩
  have hd:=fin (.cl fb [.bool true] 4::.cl bb [.slice la (ci::q).length lc] 49::A) (Y++U.M) U7 (aq.trans ap) (λ x o V=>by rw[ac,ab];exact V) (by rw[ah];simp) (by
   unfold JD;rw[ao];exact⟨la,_,lc,A,hA,λ x V=>by cases V;rfl,rfl⟩)
  refine⟨rfl,O0,?_⟩;refine cast (congrArg (λ a=>Xy Q6 94 a _ _) (SP _ (.t 6) (.pb lm) rfl).symm) ?_;exact hd.mono λ U' hq=>by(conv=>whnf);exact hq
 |some y=>
  have az:=az y rfl;subst az;have aa:Js 60 2 (.slice ya y.length yc) (y.flatMap encII) Y:=aa
  have rdb:U5.sees (Addr.mk bb 0 none) (.slice ya y.length yc):=by
   have:=Jz (U:=U5) (b:=bb) (e:=49) (vs:=[.slice ya y.length yc]) (by rw[z];simp) 0 _ rfl;exact this
  have b9:Q8 U5 ya y.length 2 y λ x vs=>vs=encII x:=by
   have a1:=aa [];obtain⟨a2,l2,c2,e2,h2,h3⟩:=Acc.src (U:={ U5 with M:=Y++[] }) a1;obtain⟨rfl,-,-⟩:=Value.slice.inj e2
   refine(Hv (enc:=encII) (n:=2) (λ _=>rfl) h3 (λ ad e=>?_) D1).mem (λ _ _ h=>h) (λ r Z=>by
    have Z:r∈Y:=by simpa using Z
    rw[z];simp[Z])
   subst e;rcases a1 with⟨e1,_,_⟩|⟨b',c',b0,bd,e1,_⟩
   .cases e1
   .cases e1;rfl
  have b8:Q8 U5 la (ci::q).length 2 (ci::q) λ x vs=>vs=encII x:=b7.mem a0 λ r Z=>by
   rw[be]at Z;rw[z];simp at Z ⊢;rcases Z with Z|Z <;> simp[Z]
  have cj:y.length<=1000:=by
   refine a5 y ?_;cases s with
   |false=>
    have G:(if B then F else none)=some y:=G;cases B with
    |true=>exact .inr G
    |false=>cases G
   |true=>
    have G:ZC (if B then E else none) none=some y:=G;cases B with
    |true=>
     have G:ZC E none=some y:=G;refine .inl ?_;rw[<- G];cases E <;> rfl
    |false=>cases G
  repeat refine⟨rfl,?_⟩
  refine⟨_,rdb,UH.any,(q_ (ci::q) y la ya lc yc b8 b9 O1 cj).go λ _=>?_⟩
  repeat refine⟨rfl,?_⟩
  conv=>whnf
  apply Qg<;>intro hc
  .have hlt:QX (ci::q) y<0:=by simpa using hc
   refine⟨rfl,Y9 (b:=bb) (e:=49) (c:=[.slice ya y.length yc].toArray) (L₁:=[.cl fb [.bool true] 4]) (L₂:=A++(Y++U.M)) (vs:=[.slice la (ci::q).length lc]) (by
    rw[z];refine Perm.cons _ (Perm.cons _ ?_);exact perm_append_comm_assoc _ _ _) rfl (by simp[Value.single]) λ U6 ab ap ag=>?_⟩
   refine⟨rfl,Wd (b:=fb) (e:=4) (c:=#[.bool true]) (vs:=[.bool true]) (M₀:=.cl bb [.slice la (ci::q).length lc] 49::(A++(Y++U.M))) [] ag rfl (by simp[Value.single]) λ U7 ac aq ah=>?_⟩
   have hd:=fin (.cl fb [.bool true] 4::.cl bb [.slice la (ci::q).length lc] 49::A) (Y++U.M) U7 (aq.trans ap) (λ x o V=>by rw[ac,ab];exact V) (by rw[ah];simp) (by
    unfold JD;rw[ao];show PP fb bb (some (if QX (ci::q) y<0 then ci::q else y)) _;rw[if_pos hlt];exact⟨la,_,lc,A,hA,λ x V=>by cases V;rfl,rfl⟩)
   refine⟨rfl,O0,?_⟩;refine cast (congrArg (λ a=>Xy Q6 94 a _ _) (SP _ (.t 6) (.pb lm) rfl).symm) ?_;exact hd.mono λ U' hq=>by(conv=>whnf);exact hq
  .have hlt:¬QX (ci::q) y<0:=by simpa using hc
   have hd:=fin (.cl fb [.bool true] 4::.cl bb [.slice ya y.length yc] 49::Y) (A++U.M) U5 rfl (λ _ _ h=>h) (by rw[z];simp) (by
    unfold JD;rw[ao];show PP fb bb (some (if QX (ci::q) y<0 then ci::q else y)) _;rw[if_neg hlt];exact⟨ya,_,yc,Y,aa,λ x V=>by cases V;rfl,rfl⟩)
   refine⟨rfl,O0,?_⟩;refine cast (congrArg (λ a=>Xy Q6 94 a _ _) (SP _ (.t 6) (.pb lm) rfl).symm) ?_;exact hd.mono λ U' hq=>by(conv=>whnf);exact hq
end
variable{H:FuncId}{cc:C}{rl:List RV}{args:List Value}{A:Zl T}{x:Nat->Zl T}
section
variable{S:Sys P T}
def Zk.code(k:Zk P H m cc rl)(B:P.follows .mixedOrders=true)(E:args.length<=m){r:Zl T}
  (h:JX S H none cc A x r (fm args) [] U):∃fd:Func,P.funcs[H]?=some fd/\fd.body=some (fd.body.getD .skip)/\fd.ntmps=m/\Zs S H none (fd.body.getD .skip) (Gn m A x r) { tmps:=args.toArray++Array.replicate (fd.ntmps-args.toArray.size) undef,defers:=[] } U:=by
 obtain⟨fd,mu,dets,z,f,w,rfl,F,-⟩:=k.ok;refine⟨fd,z,f,rfl,?_⟩
 have b:FR fd.ntmps { tmps:=args.toArray++Array.replicate (fd.ntmps-args.toArray.size) undef,defers:=[] } (fm args) []:=by
  refine⟨rfl,S3,λ t=>?_⟩;simp only[fm,Array.getD_eq_getD_getElem?,getD_eq_getElem?_getD,Array.getElem?_append,size_toArray,getElem?_toArray];split
  .rfl
  .rename_i hlt;rw[getElem?_eq_none O1,Array.getElem?_replicate];split <;> rfl
 subst w;exact HZ B _ b h
end
def Q8.drop{a:Option Addr}{cap n:Nat}{α:Type}{l:List α}{R:α->List Value->Prop}(h:Q8 U a l.length n l R)(H:l.length<=cap){j:Nat}(I:j<=l.length):Q8 U (if cap=j then a else a.map (·.add (j*n))) (l.length-j) n (l.drop j) R:=by
 refine⟨S1,λ i x w=>?_⟩;rw[getElem?_drop]at w;have E:=(List.getElem?_eq_some_iff.1 w).1;obtain⟨b,vs,e,f,z,B,F⟩:=h.2 (j+i) x w;rw[if_neg O1];refine⟨b.add (j*n),vs,by rw[e];rfl,by obtain⟨G,K,L⟩:=b;cases f;rw[Qo],z,B,?_⟩;rw[show(b.add (j*n)).add (i*n)=b.add ((j+i)*n) by rw[vF b f,Nat.add_mul]];exact F
section
attribute [local irreducible] Qb Zp Wv
variable(g bcan bm bbk brt bwt lm fb bb:Nat)(i:Int)(T:Array Value)(todo:List Go.Item)
def Ho:List Value:=[.pb g,.pb bcan,.pb bm,.pb bbk,.pb brt,.pb bwt,.pb lm,.pb fb,.pb bb]
def PN:List Value:=.int .i64 i::Ho g bcan bm bbk brt bwt lm fb bb
def Um:Deferred:={ target:=.fn (.func 87) (Ho g bcan bm bbk brt bwt lm fb bb).toArray,args:=#[.int .i64 i] }
def PT:Frame:={ (default:Frame)with fn:=87,kind:=.deferred }
def Gq:Deferred:={ target:=.fn (.func 88) #[],args:=#[]++#[.pb g] }
def xf:Qm prog 173 false 1 (Gh prog (Um g bcan bm bbk brt bwt lm fb bb i))=some []:=K1
def xg:Qi prog 173 false 1 (Gh prog (Um g bcan bm bbk brt bwt lm fb bb i))=R PT { tmps:=(PN g bcan bm bbk brt bwt lm fb bb i).toArray++Array.replicate (Tryz.f87.ntmps-(PN g bcan bm bbk brt bwt lm fb bb i).toArray.size) undef,defers:=[] } [.code (Tryz.f87.body.getD .skip)] [P3]:=K1
def wZ:Qm prog 173 false 1 (Rf { fr PT ⟨T,[Gq g]⟩ todo with mode:=.returning } [P3])=some []:=K1
def w_:Qi prog 173 false 1 (Rf { fr PT ⟨T,[Gq g]⟩ todo with mode:=.returning } [P3])=OM g T todo:=K1
end
variable{mu:Option ZN}{Stop:QH Tk}
section
attribute [local irreducible] Qb Zp Wv
def BL(g:Nat)(D:TM.Spec)(T:Array Value)(todo:List Go.Item)(h:U₀.tok=⟨0,.wrk g D,mu⟩)(f:mu=none\/∃x s lo,mu=some (.lok x s .fin lo))(w:D U₀.M):J Q6 Stop false (Rf { fr PT ⟨T,[Gq g]⟩ todo with mode:=.returning } [P3]) U₀:=by
 refine J.calm0 (wZ g T todo) ?_;rw[w_];refine J.calm (b:=g) (by rw[h];rfl) (qH g T todo) Q3 ?_;show J _ Stop false (K4 g T todo) U₀;exact .syn (QB.lay (Qn (SE.of_info (g:=K4 g T todo) (DC g T todo))) h f w Qe (W1 (DC g T todo) rfl) (Mn g T todo))
structure Ug(b:Bk)(r:Nat)(w:Int)(m i:Nat)(mt:Option ZN)(lm fb bb:Nat)(Lf Lt:Option (List (Int×Int))):Prop where
 first:∀ci,b.cans[i]?=some ci->∀k q,(TM.parts (b.cans.drop (i+1)) m)[k]?=some q->(∀q'∈(TM.parts (b.cans.drop (i+1)) m).take k,b.good r w (ci::q')=false)->b.good r w (ci::q)=true->∃s lo,mt=some (.lok ⟨lm,166,JD fb bb Lf Lt⟩ s .idle lo)/\(if s then Lt else Lf)=some (ci::q)
 none:∀ci,b.cans[i]?=some ci->(∀q∈TM.parts (b.cans.drop (i+1)) m,b.good r w (ci::q)=false)->mt=none
def qA{U:Qa Tk}(h:BH)(b:Bk)(am:b.Ok)(ak:b.cans.Nodup)(r:Nat)(hr:r<b.rs.length)(w:Int)(i:Nat){bm bbk brt bb g:Nat}(hi:i<b.cans.length)
  (he:∀(U':Qa Tk)bfst,(∀x o,U.I x=some o->U'.I x=some o)->U'.tok=U.tok->Zj U' bfst #[.int .i64 i]->HK U' h b r w i n bfst bbk brt bwt) (ao:b.cans.length<=900)
  (Q T:Option (List (Int×Int))) (H:∀x,Q=some x\/T=some x->x.length<=1000) (ad:∀x y,Q=some x->T=some y->(if QX y x<0 then y else x)=(if QX x y<0 then x else y))
  (m:Nat) (hm:m<=5) (ag:Zj U bm #[.int .i64 (m+1:Nat)]) (mt:Option ZN) (D:TM.Spec) (G:U.tok=⟨0,.wrk g D,mt⟩) (hw:Ug b r w m i mt lm fb bb Q T) {K:List Deferred->Qa Tk->Prop}
  (hK:∀U':Qa Tk,(∃mu,U'.tok=⟨0,.wrk g D,mu⟩/\(mu=none\/∃x s lo,mu=some (.lok x s .fin lo)))->K [Gq g] U') :
  JX Q6 87 none Uz (λ _ ds U=>K ds U) (λ _ _ _ _=>False) (λ _ _ _=>False) (fm (PN g n bm bbk brt bwt lm fb bb i)) [] U:=by
 obtain⟨ci,N⟩:∃ci,b.cans[i]?=some ci:=⟨_,getElem?_eq_getElem hi⟩
 conv=>whnf
 intro b10 U1 B z;have z:Zj U1 b10 #[.int .i64 i]:=z;have Y:=he U1 b10 B.imm B.tok z;have V:=ag.le B;obtain⟨ca,cc,ae,ah,W⟩:=Y.can;have ab:Ja ((i:Int)+1):=I1
 have ac:Ja (((m+1:Nat):Int)-1):=I1
 have aj:((m+1:Nat):Int)-1=(m:Int):=O1
 have F:(b.cans.drop (i+1)).length=b.cans.length-(i+1):=S1
 have P:=Q8.drop (cap:=cc) ah W (j:=i+1) O1;have an:=qx (U₀:=U1) h b am ak r hr w i (bcan:=n) (bfst:=b10) (bbk:=bbk) (brt:=brt) (bwt:=bwt) (lm:=lm) (fb:=fb) (bb:=bb) (g:=g) (D:=D) N Y Q T H ad m hm mt (B.tok.trans G) (hw.first ci N);have aa:∀f:Fm,f 1=.pb g->(#[]++Array.map (Zg f) #[Operand.tmp 1]:Array Value)=#[]++#[.pb g]:=λ f hf=>by simp[Zg,hf]
 refine⟨rfl,_,ae.sees3 (o:=0) rfl,_,z.sees3 (o:=0) rfl,ab,i+1,b.cans.length,⟨O1,rfl,O1,W⟩,_,V.sees3 (o:=0) rfl,ac,?_⟩
 conv=>whnf
 intro U2 L _
 have Z:=qN (S:=Q6) (U:=U2) (b.cans.drop (i+1)) _ (cc-(i+1)) (by rw[F];exact P.lg L.lg.frz2 λ _ _ h=>h) O1 m O1 90 #[] _ UF.any (I:=λ k U'=>U'.tok=⟨0,.wrk g D,mt⟩/\∀q∈(TM.parts (b.cans.drop (i+1)) m).take k,b.good r w (ci::q)=false) (E:=λ U'=>∃s lo,U'.tok=⟨0,.wrk g D,some (.lok ⟨lm,166,JD fb bb Q T⟩ s .fin lo)⟩)
  (λ k U1 U2 ai⟨h1,h2⟩=>⟨ai.tok.trans h1,h2⟩) (λ k p a cap U X Mc hp h0=>an k p a cap U X Mc hp (L.lg.frz2.trans h0)) ⟨L.tok.trans (B.tok.trans G),S1⟩
 rw[F]at Z;rw[aj];refine⟨UE.any,Z.mono ?_⟩;rintro v U3 (⟨rfl,-,ht,al⟩|⟨rfl,⟨s,lo,ht⟩,-⟩) -
 .have hmt:=hw.none ci N λ q hq=>al q (by rw[take_length];exact hq)
  repeat refine⟨rfl,?_⟩
  conv=>whnf
  exact cast (congrArg (λ a=>K [{ target:=.fn (.func 88) #[],args:=a }] U3) (aa _ rfl).symm) (hK U3 ⟨mt,ht,.inl hmt⟩)
 .repeat refine⟨rfl,?_⟩
  conv=>whnf
  exact cast (congrArg (λ a=>K [{ target:=.fn (.func 88) #[],args:=a }] U3) (aa _ rfl).symm) (hK U3 ⟨_,ht,.inr ⟨_,_,_,rfl⟩⟩)
def qz{U:Qa Tk}(h:BH)(b:Bk)(Y:b.Ok)(X:b.cans.Nodup)(r:Nat)(hr:r<b.rs.length)(w:Int)(i:Nat){bcan bm bbk brt bb g:Nat}(hi:i<b.cans.length)
  (he:∀(U':Qa Tk)bfst,(∀x o,U.I x=some o->U'.I x=some o)->U'.tok=U.tok->Zj U' bfst #[.int .i64 i]->HK U' h b r w i bcan bfst bbk brt bwt) (N:b.cans.length<=900)
  (G H:Option (List (Int×Int))) (f:∀x,G=some x\/H=some x->x.length<=1000) (E:∀x y,G=some x->H=some y->(if QX y x<0 then y else x)=(if QX x y<0 then x else y))
  (m:Nat) (hm:m<=5) (L:Zj U bm #[.int .i64 (m+1:Nat)]) (Z:Option ZN) (F:U.tok=⟨0,.wrk g λ _=>True,Z⟩) (hw:Ug b r w m i Z lm fb bb G H) (Stop:QH Tk) :
  J Q6 Stop false (Gh prog (Um g bcan bm bbk brt bwt lm fb bb i)) U:=by
 refine J.calm0 (xf ..) ?_;rw[xg]
 obtain⟨fd,W,ab,hN,z⟩:=gX.code (S:=Q6) Qf (args:=PN g bcan bm bbk brt bwt lm fb bb i) (by simp[PN,Ho])
  (qA (K:=λ ds U'=>ds=[Gq g]/\∃mu,U'.tok=⟨0,.wrk g λ _=>True,mu⟩/\(mu=none\/∃x s lo,mu=some (.lok x s .fin lo))) h b Y X r hr w i hi he N G H f E m hm L Z _ F hw λ U' h=>⟨rfl,h⟩)
 have:fd=Tryz.f87:=Option.some.inj (W.symm.trans Tryz.func87);subst this;refine J.body (fn:=87) (Q:=_) ⟨rfl,rfl,by simp[PT],S1⟩ z λ e' a' U' B=>?_;obtain⟨f',aa,V,B⟩:=B;cases e' with
 |normal=>
  obtain⟨rfl,mu,h2,h3⟩:=B;refine⟨.inl rfl,λ todo=>?_⟩;obtain⟨T,dd⟩:=a';have P:dd=[Gq g]:=V.ds;subst P;exact BL g _ T todo h2 h3 trivial
 |exit i=>exact B.elim
 |ret=>exact B.elim
