/- Lemmas. No conditions. -/
import Derived.Test.YtajkaognaiglhaaGreatDoorB23
set_option linter.all false
set_option maxRecDepth 100000
set_option maxHeartbeats 4000000
open List
open Go.Proofs.Tryz (prog)
namespace Go.TM
open Go.Proofs
variable{α:Type}
def WR{α:Type}(l:List α)(p:List α->Bool):Nat->Nat->Option (List α)
 |_,0=>none
 |m,n+1=>match(TM.parts l m).find? p with
  |some x=>some x
  |none=>WR l p (m+1) n
def Bv(l:List α)(p:List α->Bool)(m n:Nat):WR l p m (n+1)=match(TM.parts l m).find? p with
  |some x=>some x
  |none=>WR l p (m+1) n:=rfl
variable{T:Type}{S:Sys prog T}{U:Qa T}{I:Nat->Qa T->Prop}{E:Qa T->Prop}{a:Option Addr}{l:List Int}
section
attribute [local irreducible] Qb Zr W5
def R6(l:List (Int×Int))(la:Option Addr)(lc:Nat)(P:Zd U.frz la l.length 2 l (λ x vs=>vs=encII x))(hl:l.length<=1000)(e:Nat)(hm:e<=1000)(g:FuncId)(first w:Array Value)(hg:(prog.funcs[g]?.any λ fd=>fd.body.isSome&&fd.name != "runtime.NumGoroutine")=true)
  (Y:∀k Z U2,Z.le U2->I k Z->I k U2) (ae:GJ S g first w encII 2 (TM.parts l e) I E U) (hI:I 0 U) :
  Qb S 62 #[.agg #[.slice la l.length lc],.int .i64 e,.func (.func g) first w] (λ v U'=>(v=.bool false/\U.frz.lg U'.frz/\I (TM.parts l e).length U')\/(v=.bool true/\E U'/\∀x o,U.I x=some o->U'.I x=some o)) U:=by
 refine Qb.post (R:=λ v U'=>(v=.bool false/\U.frz.lg U'.frz/\I (TM.parts l e).length U')\/(v=.bool true/\∃X' f,U'.M=X'++f/\E ⟨U'.I,f,U'.tok⟩/\∀x o,U.I x=some o->U'.I x=some o)) (Qb.of (args:=[_,_,_]) DC Qd S1 ?_) λ v U' hv=>?_
 .conv=>whnf
  intro b3 Z ab K;have K:Zo Z b3 #[.slice la l.length lc]:=K
  conv=>whnf
  intro b4 U2 Q L;have L:Zo U2 b4 #[.int .i64 e]:=L
  conv=>whnf
  intro b5 U3 H N;have N:Zo U3 b5 #[.func (.func g) first w]:=N
  conv=>whnf
  intro b7 ad;refine⟨_,.refl _,rfl,Zy (vs:=[.func (.func 88) #[] #[.pb b4,.pb b5,.pb b3,.pb b7]]) ad rfl (by simp[Value.single]) λ U4 F W=>?_⟩;have B:=((ab.trans Q).trans H).trans F;have ac:GT U4 l e g first w b4 b5 b3 b7:=⟨L.le (H.trans F),N.le F,⟨la,lc,K.le ((Q.trans H).trans F),P.lg B.lg.frz2 λ _ _ h=>h⟩,W⟩
  refine⟨_,W.sees3 (o:=0) rfl,VN.any,(Rh l hl e hm g first w hg Y ae e [] 0 0 .nl U4 [] U4.M S1 O1 B.lg.frz2 ac .nil (λ i' q hq=>by rw[Nat.zero_add];exact hq) (Y 0 U U4 B hI)).mono ?_⟩;rintro v U5 (⟨rfl,X,f,V,G⟩|⟨rfl,X',f,aa,hE,z⟩) -
  .rcases V with⟨_,_,hM⟩|⟨b,c,len,cap,e1,_⟩
   .rw[Nat.zero_add]at G
    repeat refine⟨rfl,?_⟩
    conv=>whnf
    refine .inl ⟨rfl,B.lg.frz2.trans X,?_⟩;have:U5.M=f:=hM;obtain⟨i5,m5,t5⟩:=U5;simp only at this;subst this;exact G
   .cases e1
  .repeat refine⟨rfl,?_⟩
   conv=>whnf
   exact .inr ⟨rfl,X',f,aa,hE,λ x o hx=>z x o (B.imm x o hx)⟩
 .rcases hv with h|⟨rfl,X',f,hM,hE,z⟩
  .exact⟨U',.refl _,.inl h⟩
  .exact⟨{ U' with M:=f },Z2 (by rw[hM];exact sublist_append_right ..),.inr ⟨rfl,hE,z⟩⟩
def R5(l:List Int)(la:Option Addr)(lc:Nat)(P:Zd U.frz la l.length 1 l (λ x vs=>vs=Zz x))(hl:l.length<=1000)(e:Nat)(hm:e<=1000)(g:FuncId)(first w:Array Value)(hg:(prog.funcs[g]?.any λ fd=>fd.body.isSome&&fd.name != "runtime.NumGoroutine")=true)
  (Y:∀k Z U2,Z.le U2->I k Z->I k U2) (ae:GJ S g first w Zz 1 (TM.parts l e) I E U) (hI:I 0 U) :
  Qb S 86 #[.agg #[.slice la l.length lc],.int .i64 e,.func (.func g) first w] (λ v U'=>(v=.bool false/\U.frz.lg U'.frz/\I (TM.parts l e).length U')\/(v=.bool true/\E U'/\∀x o,U.I x=some o->U'.I x=some o)) U:=by
 refine Qb.post (R:=λ v U'=>(v=.bool false/\U.frz.lg U'.frz/\I (TM.parts l e).length U')\/(v=.bool true/\∃X' f,U'.M=X'++f/\E ⟨U'.I,f,U'.tok⟩/\∀x o,U.I x=some o->U'.I x=some o)) (Qb.of (args:=[_,_,_]) DK Qd S1 ?_) λ v U' hv=>?_
 .conv=>whnf
  intro b3 Z ab K;have K:Zo Z b3 #[.slice la l.length lc]:=K
  conv=>whnf
  intro b4 U2 Q L;have L:Zo U2 b4 #[.int .i64 e]:=L
  conv=>whnf
  intro b5 U3 H N;have N:Zo U3 b5 #[.func (.func g) first w]:=N
  conv=>whnf
  intro b7 ad;refine⟨_,.refl _,rfl,Zy (vs:=[.func (.func 120) #[] #[.pb b4,.pb b5,.pb b3,.pb b7]]) ad rfl (by simp[Value.single]) λ U4 F W=>?_⟩;have B:=((ab.trans Q).trans H).trans F;have ac:GS U4 l e g first w b4 b5 b3 b7:=⟨L.le (H.trans F),N.le F,⟨la,lc,K.le ((Q.trans H).trans F),P.lg B.lg.frz2 λ _ _ h=>h⟩,W⟩
  refine⟨_,W.sees3 (o:=0) rfl,Vx.any,(Rg l hl e hm g first w hg Y ae e [] 0 0 .nl U4 [] U4.M S1 O1 B.lg.frz2 ac .nil (λ i' q hq=>by rw[Nat.zero_add];exact hq) (Y 0 U U4 B hI)).mono ?_⟩;rintro v U5 (⟨rfl,X,f,V,G⟩|⟨rfl,X',f,aa,hE,z⟩) -
  .rcases V with⟨_,_,hM⟩|⟨b,c,len,cap,e1,_⟩
   .rw[Nat.zero_add]at G
    repeat refine⟨rfl,?_⟩
    conv=>whnf
    refine .inl ⟨rfl,B.lg.frz2.trans X,?_⟩;have:U5.M=f:=hM;obtain⟨i5,m5,t5⟩:=U5;simp only at this;subst this;exact G
   .cases e1
  .repeat refine⟨rfl,?_⟩
   conv=>whnf
   exact .inr ⟨rfl,X',f,aa,hE,λ x o hx=>z x o (B.imm x o hx)⟩
 .rcases hv with h|⟨rfl,X',f,hM,hE,z⟩
  .exact⟨U',.refl _,.inl h⟩
  .exact⟨{ U' with M:=f },Z2 (by rw[hM];exact sublist_append_right ..),.inr ⟨rfl,hE,z⟩⟩
def On(S:TM.Sys prog T)(g:FuncId)(first e:Array Value)(p:List Int->Bool)(l:List Int)(U₀:Qa T):Prop:=
 ∀(q:List Int)(a:Option Addr)(cap:Nat)(U:Qa T),q.Sublist l->(∃X f,(∀x o,U₀.I x=some o->f x=some o)/\U=⟨f,X++U₀.M,U₀.tok⟩)->Z8 U.frz a q.length q->Qb S g (first.toList++[Value.slice a q.length cap]++e.toList).toArray (λ v U'=>v=.bool (p q)/\U'=U) U
def Q26(h:Zd U a l.length 1 l (λ x vs=>vs=Zz x)):Z8 U a l.length l:=by
 refine⟨rfl,λ i x E=>?_⟩;obtain⟨w,vs,e,B,rfl,_,z⟩:=h.2 i x E;have f:=z 0 (.int .i64 x) rfl;obtain⟨bb,F,G⟩:=w;cases B;refine⟨_,e,rfl,?_⟩;rw[Qu,Qu,Nat.add_zero]at f;rw[Qu];exact f
def S0(l:List Int)(la:Option Addr)(lc:Nat)(aj:Zd U.frz la l.length 1 l (λ x vs=>vs=Zz x))(hl:l.length<=1000)(w:Nat)(hm:w<=900)(g:FuncId)(first B:Array Value)(hg:(prog.funcs[g]?.any λ fd=>fd.body.isSome&&fd.name != "runtime.NumGoroutine")=true)(p:List Int->Bool)
  (ay:On S g first B p l U) :
  Qb S 54 #[.slice la l.length lc,.int .i64 w,.func (.func g) first B] (λ v U'=>(∃v1,v=.tuple #[v1,.bool (WR l p 0 (w+1)).isSome]/\JW U'.frz v1 ((WR l p 0 (w+1)).getD []))/\U.le U') U:=by
 refine Qb.grown (R:=λ v U'=>∃v1,v=.tuple #[v1,.bool (WR l p 0 (w+1)).isSome]/\JW U' v1 ((WR l p 0 (w+1)).getD [])) (λ v Q Y hl⟨v1,e,h1⟩=>⟨v1,e,h1.lg hl⟩) (Qb.of (args:=[_,_,_]) YD Qd S1 ?_)
 conv=>whnf
 intro b5 Q G ah;have ah:Zo Q b5 #[.func (.func g) first B]:=ah;refine⟨I1,?_⟩
 refine⟨Nat,λ i=>[(0,.slice la l.length lc),(5,.pb b5),(11,.int .i64 ((w:Int)+1)),(12,.int .i64 i)],
  λ i U'=>Q.frz.lg U'.frz/\(∃X,U'.M=X++U.M)/\i<=w+1/\WR l p 0 (w+1)=WR l p i (w+1-i),λ i=>w+1-i,0,T1,⟨⟨λ _ _ h=>h,⟨[],rfl⟩,rfl⟩,⟨[],by rw[G.own];rfl⟩,O1,rfl⟩,?_⟩
 rintro i f Y⟨ac,⟨X,hX⟩,hi,z⟩;have aq:Je ((i:Int)+1):=I1
 repeat refine⟨rfl,?_⟩
 conv=>whnf
 apply Qe<;>intro hc
 .have hlt:i<w+1:=by simp at hc;omega
  rw[show w+1-i=(w+1-(i+1))+1 by omega,Bv l p i]at z
  conv=>whnf
  intro V a1;refine⟨_,.refl _,?_⟩;have ae:Q.frz.lg (Y.put V (.cells #[.nl] 44)).frz:=ac;have am:Zo (Y.put V (.cells #[.nl] 44)) b5 #[.func (.func g) first B]:=ah.imI ac.imm
  let ps:=TM.parts l i
  let J:Nat->Qa T->Prop:=λ k U'=>Q.frz.lg U'.frz/\(∃W,U'.M=.obj V (.cells #[W] 44 (0,0))::(X++U.M))/\∀q∈ps.take k,p q=false
  let E:Qa T->Prop:=λ U'=>Q.frz.lg U'.frz/\∃W q,U'.M=.obj V (.cells #[W] 44 (0,0))::(X++U.M)/\JW U'.frz W q/\ps.find? p=some q
  have hJ:∀k Q Y,Q.le Y->J k Q->J k Y:=λ k s1 s2 an⟨h1,⟨W,hv⟩,h3⟩=>⟨h1.trans an.lg.frz2,⟨W,an.own.trans hv⟩,h3⟩
  have a0:GJ S 87 #[] #[.pb V,.pb b5] Zz 1 ps J E (Y.put V (.cells #[.nl] 44)):=by
   intro k q qa qc s Xs Mc hq h0 hr az hM⟨aa,⟨W,ag⟩,ak⟩;have ag:Mc=.obj V (.cells #[W] 44 (0,0))::(X++U.M):=ag;subst ag;have al:Zo s b5 #[.func (.func g) first B]:=am.imI h0.imm;have ad:=Q26 hr;have aw:=(HG.1 (mem_of_getElem? hq)).1;refine Qb.of (args:=[_,_,_]) DL Qd S1 ?_;refine⟨rfl,Wk (vs:=[.slice qa q.length qc]) Xs hM rfl (by simp[Value.single]) λ s1 Z ap ab=>?_⟩;have ai:Zo s1 b5 #[.func (.func g) first B]:=al.imI λ x o P=>by rw[Z];exact P
   have hz:s.frz.lg s1.frz:=⟨λ x o P=>by show s1.I x=_;rw[Z];exact P,⟨[],rfl⟩,ap⟩
   have af:s1.tok=U.tok:=by
    have e1:s.tok=Q.tok:=aa.tok;rw[ap,e1,G.tok]
   refine⟨_,ai.sees3 (o:=0) rfl,hg,(ay q qa qc s1 aw ⟨Xs++(.cl V [.slice qa q.length qc] 44::X),s1.I,λ x o P=>by rw[Z];exact aa.imm x o (G.imm x o P),by
    obtain⟨i1,m1,t1⟩:=s1;simp only at ab af;subst af;rw[ab];simp⟩ (ad.lg hz)).mono ?_⟩
   rintro _ s'⟨rfl,ax⟩-;obtain rfl:=ax.symm;cases ao:p q with
   |false=>
    repeat refine⟨rfl,?_⟩
    conv=>whnf
    refine .inl ⟨rfl,hz,_,ab,⟨aa.trans hz,⟨_,rfl⟩,λ q' N=>?_⟩⟩;rw[Wm hq,mem_append]at N;rcases N with N|N
    .exact ak q' N
    .rw[mem_singleton.1 N];exact ao
   |true=>
    repeat refine⟨rfl,?_⟩
    conv=>whnf
    refine .inr ⟨rfl,_,_,ab,⟨aa.trans hz,_,q,rfl,⟨qa,qc,rfl,ad.lg hz,az.2⟩,?_⟩,λ x o P=>by rw[Z];exact P⟩;rw[find?_eq_some_iff_getElem];obtain⟨hk,au⟩:=List.getElem?_eq_some_iff.1 hq;refine⟨ao,k,hk,au,λ j hj=>?_⟩;have:=ak ps[j] (mem_take_iff_getElem.2 ⟨j,O1,rfl⟩);simp[this]
  refine⟨DK.any,(R5 (U:=Y.put V (.cells #[.nl] 44)) l la lc (aj.lg (G.lg.frz2.trans ae) λ _ _ h=>h) hl i O1 87 #[] #[.pb V,.pb b5] DL.any hJ a0 ⟨ae,⟨_,by show _::Y.M=_;rw[hX]⟩,S1⟩).mono ?_⟩;rintro v U3 (⟨rfl,-,F,⟨W,L⟩,av⟩|⟨rfl,⟨F,W,q,L,⟨qa,qc,rfl,ad⟩,H⟩,-⟩) -
  .have K:ps.find? p=none:=by
    rw[find?_eq_none];intro q hq;rw[av q (by rw[take_length];exact hq)];simp
   have K:(TM.parts l i).find? p=none:=K;rw[K]at z
   repeat refine⟨rfl,?_⟩
   refine⟨aq,?_⟩
   conv=>whnf
   exact⟨rfl,i+1,T1,⟨F,⟨_::X,L⟩,O1,z⟩,L1⟩
  .have H:(TM.parts l i).find? p=some q:=H;rw[H]at z;simp only at z
   repeat refine⟨rfl,?_⟩
   refine⟨_,Ze [] L 0 _ rfl,?_⟩
   repeat refine⟨rfl,?_⟩
   conv=>whnf
   rw[z];exact⟨⟨_,rfl,⟨qa,qc,rfl,ad⟩⟩,⟨λ x o P=>F.imm x o (G.imm x o P),⟨_::X,L⟩,F.tok.trans G.tok⟩⟩
 .have hge:i=w+1:=by simp at hc;omega
  subst hge;rw[Nat.sub_self,WR]at z
  repeat refine⟨rfl,?_⟩
  conv=>whnf
  rw[z];exact⟨⟨_,rfl,.nil⟩,⟨λ x o P=>ac.imm x o (G.imm x o P),⟨X,hX⟩,ac.tok.trans G.tok⟩⟩
end
variable{b:Bk}{j:Cs}{m:Nat}
def Ws(a b:Int×Int):Int:=if a=b then 0 else if a.1<b.1\/a.1=b.1/\a.2<b.2 then -1 else 1
def Wi:List (Int×Int)->List (Int×Int)->Int
 |[],[]=>0
 |[],_::_=>-1
 |_::_,[]=>1
 |a::l,b::r=>if Ws a b≠0 then Ws a b else Wi l r
structure Bk.Srt(b:Bk)(n:Nat):Prop where
 s:∀c∈b.cs,Xw c.af
 l:∀c∈b.cs,c.af.length<=n
def OI{b:Int}:∀{l:List Int}{m:Int},m<b->ZB b (some m) l=0->(l.length:Int)<=b-1-m/\l.Pairwise (· < ·)/\∀x∈l,m<x
 |[],m,f,_=>⟨S3,.nil,S1⟩
 |n::l,m,f,h=>by
  rw[Pm]at h;split at h
  .rename_i hb;simp only[Q_,Bool.and_eq_true,decide_eq_true_eq]at hb;simp only at h;split at h
   .cases h
   .obtain⟨h1,h2,h3⟩:=OI (l:=l) (m:=n) O1 h;refine⟨by rw[length_cons];omega,pairwise_cons.2 ⟨h3,h2⟩,λ x e=>?_⟩;rcases mem_cons.1 e with rfl|e
    .omega
    .have:=h3 x e;omega
  .cases h
def M6{b:Int}(w:0<=b)(h:ZB b none l=0):(l.length:Int)<=b/\l.Pairwise (· < ·):=by
 cases l with
 |nil=>exact⟨by simpa using w,.nil⟩
 |cons n l=>
  rw[Pm]at h;split at h
  .rename_i hb';simp only[Q_,Bool.and_eq_true,decide_eq_true_eq]at hb';obtain⟨z,e,f⟩:=OI (l:=l) (m:=n) O1 h;exact⟨by rw[length_cons];omega,pairwise_cons.2 ⟨f,e⟩⟩
  .cases h
def Bk.Ok.asc(h:b.Ok)(f:j∈b.cs):j.af.length<=5/\j.af.Pairwise (· < ·):=by
 have z:b.nc<=5:=by have:=h.nc;unfold Bk.nc;omega
 obtain⟨w,e⟩:=M6 (b:=b.nc) (by unfold Bk.nc;omega) (h.ri j f);exact⟨O1,e⟩
def Bk.Ok.srt(h:b.Ok):b.Srt 5:=⟨λ c e=>(h.asc e).2.imp λ h=>Int.le_of_lt h,λ c e=>(h.asc e).1⟩
def Bk.Ok.sml(h:b.Ok):b.Sml:=by
 have w:=h.nr;have z:=h.nc;refine⟨O1,O1,λ c e=>⟨?_,λ g f=>?_,?_⟩⟩
 .have:=h.gl c e;omega
 .have:=(h.gs c e g f).1;omega
 .have:=(h.asc e).1;omega
def Bk.Srt.sty{b:Bk}{n:Nat}(h:b.Srt n)(s:Int×Int)(z:s.1.toNat<b.cs.length):(b.sty s).Srt (n+1):=by
 have w:b.cas s.1.toNat∈b.cs:=by
  simp only[Bk.cas,getD_eq_getElem?_getD,getElem?_eq_getElem z,Option.getD_some];exact getElem_mem z
 refine⟨λ c e=>?_,λ c e=>?_⟩
 .rcases mem_or_eq_of_mem_set e with f|rfl
  .exact h.s c f
  .exact YN _ _ (h.s _ w)
 .rcases mem_or_eq_of_mem_set e with f|rfl
  .have:=h.l c f;omega
  .have:=h.l _ w;show(ZI _ _).length<=_;rw[(Vr _ _).length_eq];simp;omega
def Bk.sty_len(b:Bk)(s:Int×Int):(b.sty s).cs.length=b.cs.length:=by simp[Bk.sty]
def Bk.stys_snoc(b:Bk)(l:List (Int×Int))(s:Int×Int):b.stys (l++[s])=(b.stys l).sty s:=by simp[Bk.stys]
def Bk.stys_len(b:Bk)(l:List (Int×Int)):(b.stys l).cs.length=b.cs.length:=by
 induction l generalizing b with
 |nil=>rfl
 |cons s l e=>exact(e (b.sty s)).trans (b.sty_len s)
def Bk.stys_srt(h:b.Srt m):∀(l:List (Int×Int)),(∀s∈l,s.1.toNat<b.cs.length)->(b.stys l).Srt (m+l.length):=by
 intro l
 induction l generalizing b m with
 |nil=>exact λ _=>h
 |cons s l w=>
  intro f;have:=w (h.sty s (f s S1)) λ z e=>by rw[b.sty_len];exact f z (by simp[e])
  rw[length_cons,show m+(l.length+1)=m+1+l.length by omega];exact this
section
attribute [local irreducible] Qb Zr W5
def TZ(h:BH)(b:Bk)(Z:Zu U.frz h b)(ab:b.cs.length<=1000):Qb S 55 #[h.v] (λ v U'=>J1 U'.frz v ((range b.cs.length).map λ(k:Nat)=>(k:Int))/\U.le U') U:=by
 refine Qb.ints (e:=3) (Qb.of (args:=[_]) YE Qd S1 ?_);have aa:=Z.cs.1
 repeat refine⟨rfl,?_⟩
 conv=>whnf
 intro B X F L;have L:=Zz4 h L;refine⟨_,L.sees3 (o:=1) rfl,Nat×Value,λ y=>[(3,y.2),(8,.int .i64 h.cl),(9,.int .i64 y.1)],λ y U'=>(∀x o,U.I x=some o->U'.I x=some o)/\U'.tok=U.tok/\Acc 3 1 y.2 (((range y.1).map λ(k:Nat)=>(k:Int)).map λ n=>.int .i64 n) U'.M U.M/\y.1<=h.cl,λ y=>h.cl-y.1,(0,.nl),T1,⟨F.imm,F.tok,by rw[F.own];exact .nil,O1⟩,?_⟩;rintro⟨i,v⟩f Y⟨T,W,w,hi⟩;simp only at w hi;obtain⟨sa,sl,sc,rfl,ac,-⟩:=Acc.src (U:=Y) w;have P:Je ((i:Int)+1):=I1
 repeat refine⟨rfl,?_⟩
 conv=>whnf
 apply Qe<;>intro V
 .have hlt:i<h.cl:=by simpa using V
  conv=>whnf
  intro K H;refine Zm H λ Q G z=>?_;have z:Zo Q K #[.int .i64 i]:=z
  conv=>whnf
  refine Wv (v:=.slice sa sl sc) (cs:=((range i).map λ(k:Nat)=>(k:Int)).map λ n=>.int .i64 n) (new:=[.int .i64 (i:Int)]) (M₀:=U.M) Hc rfl rfl (by rw[G.own];exact w) (.inr ⟨_,rfl,z.rd⟩) rfl (by simp[Value.single]) S3 λ v' M' N _=>?_;have E:Acc 3 1 v' (((range (i+1)).map λ(k:Nat)=>(k:Int)).map λ n=>.int .i64 n) M' U.M:=by rw[range_succ,map_append,map_append];exact N
  obtain⟨ta,tl,tc,rfl,-,-⟩:=Acc.src (U:={ Q with M:=M' }) E;refine⟨P,?_⟩
  conv=>whnf
  exact⟨rfl,(i+1,.slice ta tl tc),T1,⟨λ x o h=>G.imm x o (T x o h),G.tok.trans W,E,by show i+1<=h.cl;omega⟩,L1⟩
 .have hge:i=b.cs.length:=by simp at V;omega
  subst hge
  repeat refine⟨rfl,?_⟩
  conv=>whnf
  exact⟨w,T,W⟩
def E0:Gi prog 62 (V6 prog 62):=.of K1
def NR(x y:Int×Int):Qb S 68 #[.agg #[.int .i64 x.1,.int .i64 x.2],.agg #[.int .i64 y.1,.int .i64 y.2]] (λ v U'=>v=.int .i64 (Ws x y)/\U'=U) U:=by
 obtain⟨a,b⟩:=x;obtain⟨c,d⟩:=y;refine Qb.pure' (Qb.of (args:=[_,_]) DG Qd S1 ?_)
 repeat refine⟨rfl,?_⟩
 conv=>whnf
 intro N L I f;have f:Zo L N #[.int .i64 a,.int .i64 b]:=f
 conv=>whnf
 intro P M F w;have w:Zo M P #[.int .i64 c,.int .i64 d]:=w;have f:=f.le F;have z:=(I.trans F).lg;refine⟨_,⟨rfl,f.rd⟩,?_⟩;refine⟨_,⟨rfl,w.rd⟩,?_⟩
 conv=>whnf
 refine Nf E0 (vs:=[.int .i64 a,.int .i64 b]) (ws:=[.int .i64 c,.int .i64 d]) rfl rfl K1 K1 ?_
 have K:ZJ [.int .i64 a,.int .i64 b] [.int .i64 c,.int .i64 d]=decide ((a,b)=(c,d)):=by
  simp[ZJ,H_,Prod.mk.injEq,Bool.decide_and];rfl
 rw[K];by_cases e:(a,b)=(c,d)
 .have B:Ws (a,b) (c,d)=0:=by unfold Ws;rw[if_pos e]
  rw[decide_eq_true e,B]
  repeat refine⟨rfl,?_⟩
  conv=>whnf
  exact z
 rw[decide_eq_false e];have Q:¬(a=c/\b=d):=λ⟨G,H⟩=>e (by rw[G,H]);refine⟨_,f.sees3 (o:=0) rfl,_,w.sees3 (o:=0) rfl,?_⟩
 repeat refine⟨rfl,?_⟩
 conv=>whnf
 apply Jb<;>intro E
 .have G:¬a<c:=by simpa using E
  refine⟨_,f.sees3 (o:=0) rfl,_,w.sees3 (o:=0) rfl,?_⟩
  repeat refine⟨rfl,?_⟩
  conv=>whnf
  apply Jb<;>intro E
  .have H:a=c:=by simpa using E
   refine⟨_,f.sees3 (o:=1) rfl,_,w.sees3 (o:=1) rfl,?_⟩
   repeat refine⟨rfl,?_⟩
   conv=>whnf
   apply Qe<;>intro E
   .have h3:b<d:=by simpa using E
    have B:Ws (a,b) (c,d) = -1:=by unfold Ws;rw[if_neg e,if_pos (.inr ⟨H,h3⟩)]
    rw[B]
    repeat refine⟨rfl,?_⟩
    conv=>whnf
    exact z
   .have h3:¬b<d:=by simpa using E
    have B:Ws (a,b) (c,d)=1:=by unfold Ws;rw[if_neg e,if_neg (by simp only;omega)]
    rw[B]
    repeat refine⟨rfl,?_⟩
    conv=>whnf
    exact z
  .have H:a≠c:=by simpa using E
   have B:Ws (a,b) (c,d)=1:=by unfold Ws;rw[if_neg e,if_neg (by simp only;omega)]
   rw[B]
   repeat refine⟨rfl,?_⟩
   conv=>whnf
   exact z
 .have G:a<c:=by simpa using E
  have B:Ws (a,b) (c,d) = -1:=by unfold Ws;rw[if_neg e,if_pos (.inl G)]
  rw[B]
  repeat refine⟨rfl,?_⟩
  conv=>whnf
  exact z
end
variable{U':Qa T}{w:Addr}{v:Value}{h:BH}{M₀:List Q2}{n:Q2}
def Qa.sees.mem(h:U.sees w v)(f:∀x o,U.I x=some o->U'.I x=some o)(e:∀r∈U.M,r∈U'.M):U'.sees w v:=
 ⟨h.1,h.2.imp (λ⟨c,t,fr,x,y⟩=>⟨c,t,fr,x.imp (f _ _) (e _),y⟩) λ⟨t,n,x⟩=>⟨t,n,e _ x⟩⟩
def Ju.mem{a:Addr}{vs:List Value}(h:Ju U a vs)(e:∀x o,U.I x=some o->U'.I x=some o)(f:∀r∈U.M,r∈U'.M):Ju U' a vs:=λ i v w=>(h i v w).mem e f
def Zd.mem{a:Option Addr}{len n:Nat}{α:Type}{l:List α}{R:α->List Value->Prop}(h:Zd U a len n l R)(f:∀x o,U.I x=some o->U'.I x=some o)(w:∀r∈U.M,r∈U'.M):Zd U' a len n l R:=
 ⟨h.1,λ i x z=>let ⟨ad,vs,e,s,r,hl,hr⟩:=h.2 i x z;⟨ad,vs,e,s,r,hl,hr.mem f w⟩⟩
def Src.mem{a:Option Addr}{cs:List Value}(h:Src U a cs)(w:∀x o,U.I x=some o->U'.I x=some o)(z:∀r∈U.M,r∈U'.M):Src U' a cs:=h.imp id λ⟨f,e,r⟩=>⟨f,e,r.mem w z⟩
def QX.mem(k:QX U h b M₀):∀r∈M₀,r∈U.M:=by
 obtain⟨ps,A,-,-,-,e⟩:=k.ex;intro r f;rw[e.mem_iff];simp[f]
def QX.imI(k:QX U h b M₀)(f:∀x o,U.I x=some o->U'.I x=some o)(B:U'.tok=U.tok)(w:U'.M.Perm U.M):QX U' h b M₀:=
 have e:U.frz.lg U'.frz:=⟨f,⟨[],rfl⟩,B⟩
 let ⟨ps,A,h1,h2,h3,h4⟩:=k.ex
 ⟨⟨ps,A,h1,λ p z=>(h2 p z).lg e,h3,w.trans h4⟩,k.rs.lg e λ _ _ h=>h,k.rl,k.rn,k.rc⟩
def QX.pick(k:QX U h b (n::M₀)):∃X Y,U.M=X++n::Y/\(∀(U':Qa T)w,(∀x q,U.I x=some q->U'.I x=some q)->U'.tok=U.tok->U'.M=X++w::Y->QX U' h b (w::M₀))/\(X++Y).Sublist U.M/\QX { U with M:=X++Y } h b M₀:=by
 obtain⟨X,Y,e⟩:=append_of_mem (k.mem n S1);obtain⟨ps,A,z,B,E,G⟩:=k.ex
 have f:(X++Y).Perm (A++(ps.flatMap (·.2.F)++M₀)):=by
  have a1:(n::(X++Y)).Perm U.M:=by rw[e];exact perm_middle.symm
  have a2:(A++(ps.flatMap (·.2.F)++n::M₀)).Perm (n::(A++(ps.flatMap (·.2.F)++M₀))):=by
   rw[<- append_assoc,<- append_assoc];exact perm_middle
  exact(a1.trans (G.trans a2)).cons_inv
 refine⟨X,Y,e,λ U' w H L K=>?_,?_,⟨⟨ps,A,z,λ p f=>(B p f).lg ⟨λ _ _ h=>h,⟨[],rfl⟩,rfl⟩,E,f⟩,k.rs.lg ⟨λ _ _ h=>h,⟨[],rfl⟩,rfl⟩ λ _ _ h=>h,k.rl,k.rn,k.rc⟩⟩
 .have hl:U.frz.lg U'.frz:=⟨H,⟨[],rfl⟩,L⟩;refine⟨⟨ps,A,z,λ p f=>(B p f).lg hl,E,?_⟩,k.rs.lg hl λ _ _ h=>h,k.rl,k.rn,k.rc⟩;rw[K];refine perm_middle.trans ((f.cons w).trans ?_);rw[<- append_assoc,<- append_assoc];exact perm_middle.symm
 .rw[e];exact Sublist.append_left (sublist_cons_self _ _) _
def MC(a b:Int×Int)(l r:List (Int×Int)):Wi (a::l) (b::r)=if Ws a b≠0 then Ws a b else Wi l r:=rfl
def MD(a:Int×Int)(l:List (Int×Int)):Wi (a::l) []=1:=rfl
def ME(b:Int×Int)(r:List (Int×Int)):Wi [] (b::r) = -1:=rfl
def MF:Wi [] []=0:=rfl
def Bk.cas_mem{k:Nat}(h:k<b.cs.length):b.cas k∈b.cs:=by
 simp only[Bk.cas,getD_eq_getElem?_getD,getElem?_eq_getElem h,Option.getD_some];exact getElem_mem h
section
attribute [local irreducible] Qb Zr W5
def Rx(l r:List (Int×Int))(a a':Option Addr)(c V:Nat)(hl:Zd U a l.length 2 l (λ x vs=>vs=encII x))(hr:Zd U a' r.length 2 r (λ x vs=>vs=encII x))(h1:l.length<=1000)(h2:r.length<=1000) :
  Qb S 67 #[.slice a l.length c,.slice a' r.length V,.func (.func 68) #[] #[]] (λ v U'=>v=.int .i64 (Wi l r)/\U'=U) U:=by
 refine Qb.pure' (Qb.of (args:=[_,_,_]) DF Qd S1 ?_)
 refine⟨Nat,λ i=>[(0,.slice a l.length c),(1,.slice a' r.length V),(2,.func (.func 68) #[] #[]),(11,.slice a l.length c),(12,.int .i64 l.length),(13,.int .i64 i)],
  λ i U'=>U.lg U'/\i<=l.length/\i<=r.length/\Wi l r=Wi (l.drop i) (r.drop i),λ i=>l.length-i,0,T1,⟨(Qa.le.refl _).lg,O1,O1,rfl⟩,?_⟩
 rintro i f U1⟨E,hi,Z,e⟩;have Q:Je ((i:Int)+1):=I1
 repeat refine⟨rfl,?_⟩
 conv=>whnf
 apply Qe<;>intro z
 .have hlt:i<l.length:=by simpa using z
  obtain⟨Y,x,vs,hx,rfl,aa,rfl,-,T⟩:=(hl.lg E λ _ _ h=>h).at hlt;rw[Hk hx]at e;refine⟨Y,i,⟨rfl,rfl,hlt⟩,_,⟨rfl,T⟩,?_⟩
  conv=>whnf
  intro b8 N;refine⟨_,.refl _,rfl,Zy (vs:=encII x) N rfl (by simp[encII,Value.single]) λ U2 L G=>?_⟩;have w:=E.trans L.lg
  repeat refine⟨rfl,?_⟩
  conv=>whnf
  apply Qe<;>intro z
  .have hge:r.length<=i:=by simpa using z
   rw[drop_eq_nil_of_le hge,MD]at e;rw[e]
   repeat refine⟨rfl,?_⟩
   conv=>whnf
   exact w
  have F:i<r.length:=by simp at z;omega
  obtain⟨K,y,vs,hy,rfl,W,rfl,-,I⟩:=(hr.lg w λ _ _ h=>h).at F;rw[Hk hy,MC]at e;refine⟨K,i,⟨rfl,rfl,F⟩,_,⟨rfl,I⟩,?_⟩
  conv=>whnf
  intro b9 P;refine⟨_,.refl _,rfl,Zy (vs:=encII y) P rfl (by simp[encII,Value.single]) λ X H M=>?_⟩;have B:=w.trans H.lg;have G:Zo X b8 (encII x).toArray:=G.le H;refine⟨_,⟨rfl,G.rd⟩,?_⟩;refine⟨_,⟨rfl,M.rd⟩,?_⟩;refine⟨DG.any,(NR x y).go λ _=>?_⟩
  repeat refine⟨rfl,?_⟩
  conv=>whnf
  apply Qe<;>intro z
  .have hne:Ws x y≠0:=by simpa using z
   rw[if_pos hne]at e;rw[e]
   repeat refine⟨rfl,?_⟩
   conv=>whnf
   exact B
  .have hne:¬Ws x y≠0:=by simpa using z
   rw[if_neg hne]at e
   repeat refine⟨rfl,?_⟩
   refine⟨Q,?_⟩
   conv=>whnf
   exact⟨rfl,i+1,T1,⟨B,O1,O1,e⟩,L1⟩
 .have hge:i=l.length:=by simp at z;omega
  subst hge;rw[drop_length]at e
  repeat refine⟨rfl,?_⟩
  conv=>whnf
  apply Qe<;>intro z
  .have hlt:l.length<r.length:=by simpa using z
   have:r.drop l.length=r[l.length]::r.drop (l.length+1):=drop_eq_getElem_cons hlt;rw[this,ME]at e;rw[e]
   repeat refine⟨rfl,?_⟩
   conv=>whnf
   exact E
  .have hge:r.length<=l.length:=by simp at z;omega
   rw[drop_eq_nil_of_le hge,MF]at e;rw[e]
   repeat refine⟨rfl,?_⟩
   conv=>whnf
   exact E
def NW(h:BH)(b:Bk)(hb:Zu U.frz h b)(hs:b.Sml)(l:List (Int×Int))(a:Option Addr)(c:Nat)(hl:Zd U a l.length 2 l (λ x vs=>vs=encII x))(a4:l.length<=6)(al:b.Srt 5)(ah:∀s∈l,0<=s.1/\s.1.toNat<b.cs.length) :
  Qb S 64 #[h.v,.slice a l.length c] (λ v U'=>(∃w:BH,v=w.v/\QX U' w (b.stys l) U.M)/\(∀x o,U.I x=some o->U'.I x=some o)/\U'.tok=U.tok) U:=by
 have aq:Qb S 64 #[h.v,.slice a l.length c] (λ v U'=>(∃(w:BH)(o:Q2),v=w.v/\QX U' w (b.stys l) (o::U.M))/\(∀x o,U.I x=some o->U'.I x=some o)/\U'.tok=U.tok) U:=by
  refine Qb.of (args:=[_,_]) DE Qd S1 ?_
  repeat refine⟨rfl,?_⟩
  conv=>whnf
  intro B U1 G hB;have hB:=Zz4 h hB
  conv=>whnf
  intro W a5;refine⟨_,.refl _,?_⟩;have ab:=Z6 (U:=U1) W (.cells #[.nl,.nl] 64);refine⟨_,⟨rfl,(hB.lg ab).rd⟩,?_⟩;refine⟨Dw.any,(AT (S:=S) (U:=U1.put W (.cells #[.nl,.nl] 64)) h b (hb.lg (G.lg.frz2.trans ab.frz2)) hs).mono ?_⟩;rintro _ U2⟨⟨w,rfl,F⟩,L,T⟩-;have au:∀x o,U.I x=some o->U2.I x=some o:=λ x o z=>L x o (G.imm x o z);have a2:U2.tok=U.tok:=T.trans G.tok
  have F:QX U2 w b (.cl W [.nl,.nl] 64::U.M):=by
   have e:(U1.put W (.cells #[.nl,.nl] 64)).M=.cl W [.nl,.nl] 64::U.M:=by show _::U1.M=_;rw[G.own]
   rw[<- e];exact F
  clear ab L T
  conv=>whnf
  intro b5 aw;refine⟨_,.refl _,rfl,Zy (vs:=[.slice w.ra w.rl w.rc,.slice w.ca w.cl w.cc]) aw rfl (by simp[Value.single]) λ U3 Z K=>?_⟩;have K:Zo U3 b5 #[.slice w.ra w.rl w.rc,.slice w.ca w.cl w.cc]:=K
  refine⟨Nat,λ i=>[(1,.slice a l.length c),(4,.pb W),(5,.pb b5),(10,.slice a l.length c),(11,.int .i64 l.length),(12,.int .i64 i)],
   λ i U'=>U3.frz.lg U'/\i<=l.length/\QX U' w (b.stys (l.take i)) (.cl W [.nl,.nl] 64::U.M),λ i=>l.length-i,0,T1,⟨⟨λ _ _ h=>h,Zz3,rfl⟩,O1,F.le Z⟩,?_⟩
  rintro i f U4⟨E,hi,F⟩;have ai:Je ((i:Int)+1):=I1
  have ac:∀x o,U.I x=some o->U4.I x=some o:=λ x o z=>E.imm x o (Z.imm x o (au x o z))
  repeat refine⟨rfl,?_⟩
  conv=>whnf
  apply Qe<;>intro hc
  .have hlt:i<l.length:=by simpa using hc
   obtain⟨ad,x,vs,z,rfl,a6,rfl,-,a1⟩:=(hl.mem ac λ r hr=>F.mem r (mem_cons_of_mem _ hr)).at hlt;obtain⟨a7,ap⟩:=ah x (mem_of_getElem? z);refine⟨ad,i,⟨rfl,rfl,hlt⟩,_,⟨rfl,a1⟩,?_⟩
   conv=>whnf
   intro b7 ax;refine⟨_,.refl _,rfl,Zy (vs:=encII x) ax rfl (by simp[encII,Value.single]) λ U5 H av=>?_⟩;have ag:Zo U5 b5 #[.slice w.ra w.rl w.rc,.slice w.ca w.cl w.cc]:=K.imI λ x o z=>H.imm x o (E.imm x o z);refine⟨_,⟨rfl,ag.rd⟩,?_⟩;refine⟨_,⟨rfl,av.rd⟩,?_⟩;have ak:=Bk.stys_srt al (l.take i) λ s hs=>(ah s (mem_of_mem_take hs)).2;have Q:=Bk.cas_mem (b:=b.stys (l.take i)) (k:=x.1.toNat) (by rw[Bk.stys_len];exact ap);have ay:=ak.l _ Q;have a3:((x.1.toNat:Nat):Int)=x.1:=O1
   have am:=RI (S:=S) (U:=U5) w (b.stys (l.take i)) _ (F.le H) x.1.toNat x.2 (by rw[Bk.stys_len];exact ap) (ak.s _ Q) (by rw[length_take]at ay;omega);rw[a3]at am;refine⟨Dx.any,am.mono ?_⟩;rintro v U6⟨a0,ae,ao⟩-;have aa:U3.frz.lg U6:=⟨λ x o z=>ae x o (H.imm x o (E.imm x o z)),Zz3,ao.trans (H.tok.trans E.tok)⟩;refine⟨ai,?_⟩
   conv=>whnf
   exact⟨rfl,i+1,T1,⟨aa,O1,by rw[Wm z,Bk.stys_snoc];exact a0⟩,L1⟩
  .have hge:i=l.length:=by simp at hc;omega
   subst hge;rw[take_length]at F;have af:Zo U4 b5 #[.slice w.ra w.rl w.rc,.slice w.ca w.cl w.cc]:=K.imI E.imm;obtain⟨X,Y,hM,aj,-,-⟩:=F.pick;refine⟨_,⟨rfl,af.rd⟩,?_⟩;refine⟨rfl,Wk (vs:=[.slice w.ra w.rl w.rc,.slice w.ca w.cl w.cc]) X hM rfl (by simp[Value.single]) λ U5 N V P=>?_⟩;refine⟨_,⟨rfl,Ze X P⟩,⟨w,_,rfl,aj U5 _ (λ x q z=>by rw[N];exact z) V P⟩,λ x o z=>by rw[N];exact ac x o z,?_⟩;rw[V];exact E.tok.trans (Z.tok.trans a2)
 refine aq.post λ v U'⟨⟨w,o,hv,F⟩,hI,ht⟩=>?_;obtain⟨X,Y,-,-,an,az⟩:=F.pick;exact⟨_,Z2 an,⟨w,hv,az⟩,hI,ht⟩
end
def Bk.canI(b:Bk)(i m:Nat):List (Int×Int):=((range m).filter λ k=>k != i&&!(b.cas i).af.contains (k:Int)).map λ(k:Nat)=>((i:Int),(k:Int))
def Bk.cansTo(b:Bk)(i:Nat):List (Int×Int):=(range i).flatMap λ i=>b.canI i b.cs.length
def Bk.cansTo_all(b:Bk):b.cansTo b.cs.length=b.cans:=rfl
def Bk.cansTo_succ(b:Bk)(i:Nat):b.cansTo (i+1)=b.cansTo i++b.canI i b.cs.length:=by simp[Bk.cansTo,range_succ]
def Bk.canI_succ(b:Bk)(i m:Nat):b.canI i (m+1)=b.canI i m++(if(m != i&&!(b.cas i).af.contains (m:Int))=true then[((i:Int),(m:Int))]else[]):=by
 unfold Bk.canI;rw[range_succ,filter_append,map_append];congr 1;by_cases h:(m != i&&!(b.cas i).af.contains (m:Int))=true
 .rw[if_pos h,show List.filter (λ k=>k != i&&!(b.cas i).af.contains ((k:Nat):Int)) [m]=[m] from filter_cons_of_pos (p:=λ k=>k != i&&!(b.cas i).af.contains ((k:Nat):Int)) h];rfl
 .rw[if_neg h,show List.filter (λ k=>k != i&&!(b.cas i).af.contains ((k:Nat):Int)) [m]=[] from filter_cons_of_neg (p:=λ k=>k != i&&!(b.cas i).af.contains ((k:Nat):Int)) h];rfl
def Bk.canI_len(b:Bk)(i m:Nat):(b.canI i m).length<=m:=by
 unfold Bk.canI;rw[length_map];exact Nat.le_trans (length_filter_le _ _) S1
def Bk.cansTo_len(b:Bk):∀i,(b.cansTo i).length<=i*b.cs.length
 |0=>by simp[Bk.cansTo]
 |i+1=>by
  rw[Bk.cansTo_succ,length_append,Nat.succ_mul];have:=b.cansTo_len i;have:=b.canI_len i b.cs.length;omega
def Bk.cas_at(h:b.cs[m]?=some j):b.cas m=j:=by simp[Bk.cas,getD_eq_getElem?_getD,h]
section
attribute [local irreducible] Qb Zr W5
def Aw(h:BH)(b:Bk)(hb:Zu U.frz h b)(aq:b.cs.length<=5):Qb S 59 #[h.v] (λ v U'=>(∃a c,v=.slice a b.cans.length c/\Zd U'.frz a b.cans.length 2 b.cans (λ x vs=>vs=encII x)/\b.cans.length<=c/\∀ad,a=some ad->ad.spot=none)/\U.le U') U:=by
 have a2:=hb.cs.1
 have ak:Qb S 59 #[h.v] (λ v U'=>Acc 62 2 v (b.cans.flatMap encII) U'.M U.M/\(∀x o,U.I x=some o->U'.I x=some o)/\U'.tok=U.tok) U:=by
  refine Qb.of (args:=[_]) DB Qd S1 ?_
  repeat refine⟨rfl,?_⟩
  conv=>whnf
  intro B U1 K hB;have hB:=Zz4 h hB;refine⟨_,hB.sees3 (o:=1) rfl,Nat×Value,λ y=>[(1,.pb B),(3,y.2),(9,.slice h.ca h.cl h.cc),(10,.int .i64 h.cl),(11,.int .i64 y.1)],λ y U'=>U1.frz.lg U'/\Acc 62 2 y.2 ((b.cansTo y.1).flatMap encII) U'.M U.M/\y.1<=h.cl,λ y=>h.cl-y.1,(0,.nl),T1,⟨⟨λ _ _ h=>h,Zz3,rfl⟩,by rw[K.own];exact .nil,O1⟩,?_⟩;rintro⟨i,v⟩f U2⟨L,w,hi⟩;simp only at w hi;obtain⟨sa,sl,sc,rfl,a6,-⟩:=Acc.src (U:=U2) w;have aw:Je ((i:Int)+1):=I1
  have ab:U.frz.lg U2.frz:=K.lg.frz2.trans L.frz2
  repeat refine⟨rfl,?_⟩
  conv=>whnf
  apply Qe<;>intro P
  .have hlt:i<h.cl:=by simpa using P
   obtain⟨ad,c,ga,gl,gc,aa,al,ac,V,au,a0,ax,-,-,ha,ao,az⟩:=(hb.lg ab).case hlt;have X:=Bk.cas_at V;refine⟨ad,i,⟨au,rfl,hlt⟩,_,⟨rfl,ax.lg Qy⟩,?_⟩
   conv=>whnf
   intro b5 av;refine⟨_,.refl _,rfl,Zy (vs:=[.string c.nm,.int .i64 c.ag,.slice ga gl gc,.slice aa al ac]) av rfl (by simp[Value.single]) λ U3 Q ap=>?_⟩;have F:=L.trans Q.lg;refine⟨_,(hB.imI F.imm).sees3 (o:=1) rfl,Nat×Value,λ y=>[(1,.pb B),(3,y.2),(4,.int .i64 i),(5,.pb b5),(9,.slice h.ca h.cl h.cc),(10,.int .i64 h.cl),(11,.int .i64 i),(19,.int .i64 h.cl),(20,.int .i64 y.1)],λ y U'=>U3.frz.lg U'/\Acc 62 2 y.2 ((b.cansTo i++b.canI i y.1).flatMap encII) U'.M U.M/\y.1<=h.cl,λ y=>h.cl-y.1,(0,.slice sa sl sc),T1,⟨⟨λ _ _ h=>h,Zz3,rfl⟩,by rw[Q.own];simpa[Bk.canI]using w,O1⟩,?_⟩;rintro⟨k,v⟩f U4⟨z,w,hk⟩;simp only at w hk;obtain⟨ua,ul,uc,rfl,a7,-⟩:=Acc.src (U:=U4) w;have H:Je ((k:Int)+1):=I1
   have E:=b.canI_succ i k;rw[X]at E;have a3:=b.cansTo_len i;have a4:=b.canI_len i k;have a5:i*b.cs.length<=5*5:=Nat.mul_le_mul O1 aq;have ae:U1.frz.lg U4:=⟨λ x o V=>z.imm x o (F.imm x o V),Zz3,z.tok.trans F.tok⟩
   repeat refine⟨rfl,?_⟩
   conv=>whnf
   apply Qe<;>intro P
   .have hkt:k<h.cl:=by simpa using P
    repeat refine⟨rfl,?_⟩
    conv=>whnf
    apply Jb<;>intro P
    .have hne:(k != i)=true:=by simp at P ⊢;omega
     refine⟨_,(ap.imI z.imm).sees3 (o:=3) rfl,Ys.any,(TB aa al ac c.af ((ha.lg (Q.lg.frz2.trans z.frz2)).lg Qy) ao (k:Int)).go λ _=>?_⟩;rw[hne,Bool.true_and]at E;cases Y:c.af.contains (k:Int)with
     |true=>
      rw[Y]at E
      repeat refine⟨rfl,?_⟩
      refine⟨H,?_⟩
      conv=>whnf
      exact⟨rfl,(k+1,.slice ua ul uc),T1,⟨z,by rw[E];simpa using w,by show k+1<=h.cl;omega⟩,L1⟩
     |false=>
      rw[Y]at E
      conv=>whnf
      intro am Z;refine Zm Z λ U5 T G=>?_;have G:Zo U5 am (encII ((i:Int),(k:Int))).toArray:=G
      conv=>whnf
      refine Wv (v:=.slice ua ul uc) (cs:=(b.cansTo i++b.canI i k).flatMap encII) (new:=encII ((i:Int),(k:Int))) (M₀:=U.M) VA rfl rfl (by rw[T.own];exact w) (.inr ⟨_,rfl,G.rd⟩) rfl (by simp[encII,Value.single]) (by
       rw[Q6 (f:=encII) (n:=2) (λ _=>rfl)];simp[encII];omega) λ v' M' an _=>?_
      have N:Acc 62 2 v' ((b.cansTo i++b.canI i (k+1)).flatMap encII) M' U.M:=by
       rw[E];simpa using an
      obtain⟨ta,tl,tc,rfl,-,-⟩:=Acc.src (U:={ U5 with M:=M' }) N;refine⟨H,?_⟩
      conv=>whnf
      exact⟨rfl,(k+1,.slice ta tl tc),T1,⟨⟨λ x o V=>T.imm x o (z.imm x o V),Zz3,T.tok.trans z.tok⟩,N,by show k+1<=h.cl;omega⟩,L1⟩
    .have hne:(k != i)=false:=by simp at P ⊢;omega
     rw[hne,Bool.false_and]at E
     repeat refine⟨rfl,?_⟩
     refine⟨H,?_⟩
     conv=>whnf
     exact⟨rfl,(k+1,.slice ua ul uc),T1,⟨z,by rw[E];simpa using w,by show k+1<=h.cl;omega⟩,L1⟩
   .have hge:k=b.cs.length:=by simp at P;omega
    subst hge;rw[<- Bk.cansTo_succ]at w;refine⟨aw,?_⟩
    conv=>whnf
    exact⟨rfl,(i+1,.slice ua ul uc),T1,⟨ae,w,by show i+1<=h.cl;omega⟩,L1⟩
  .have hge:i=b.cs.length:=by simp at P;omega
   subst hge;rw[Bk.cansTo_all]at w
   repeat refine⟨rfl,?_⟩
   conv=>whnf
   exact⟨w,λ x o V=>L.imm x o (K.imm x o V),L.tok.trans K.tok⟩
 refine ak.sep λ v U' hs⟨ha,hI,ht⟩=>?_
 have W:∀a l c,v=.slice a l c->l<=c:=λ a l c e=>by
  rcases ha with⟨e1,_,_⟩|⟨b',c',a1,ay,e1,_,g2,_⟩
  .rw[e1]at e;cases e;exact Nat.le_refl _
  .rw[e1]at e;cases e;exact g2
 obtain⟨U'',k1,k2,a,len,cap,rfl,hl,aj,ai,_⟩:=ha.freeze hs hI ht;have ah:b.cans.length=len:=by have e:=(Q6 (f:=encII) (n:=2) (λ _=>rfl) b.cans).symm.trans hl;omega
 subst ah;exact⟨U'',k1,⟨a,cap,rfl,HH (enc:=encII) (n:=2) (λ _=>rfl) aj ai D1,W _ _ _ rfl,ai⟩,k2⟩
end
variable{e t:TypeId}{vs:List Value}{M L₁ L₂ Y:List Q2}{P:Program}{c:Array Value}{Q:Qa T->Prop}{o:Obj}{K W:List Nat}{p q r:Nat}{ky i:Nat->Int}{vl d:Nat->Value}{k:Int}{u:Sys P T}{g g':Nat->List Int}{f:Nat->Bool}
def J3{b:Nat}(h:Q2.obj b (.cells vs.toArray e (0,0))∈U.M):Ju U ⟨b,0,none⟩ vs:=by
 obtain⟨X,Y,f⟩:=append_of_mem h;exact Ze X f
def O8(h:M.Perm (L₁++n::L₂)):∃X Y,M=X++n::Y/\(X++Y).Perm (L₁++L₂):=by
 obtain⟨X,Y,e⟩:=append_of_mem (h.mem_iff.2 S1:n∈M);refine⟨X,Y,e,?_⟩;have a1:(n::(X++Y)).Perm M:=by rw[e];exact perm_middle.symm
 exact(a1.trans (h.trans perm_middle)).cons_inv
def Oh(h:(M₀++Y).Perm (L₁++L₂))(r:Q2):(M₀++r::Y).Perm (L₁++r::L₂):=perm_middle.trans ((h.cons r).trans perm_middle.symm)
def qr{b i:Nat}(L:U.M.Perm (L₁++.obj b (.cells c e (0,0))::L₂))(N:i<c.size)(S:v.single=true)
  (h:∀f:Qa T,f.I=U.I->f.tok=U.tok->f.M=L₁++.obj b (.cells (c.setIfInBounds i v) e (0,0))::L₂->Q f):ZG ((Addr.mk b 0 none).add i) [v] 0 (λ U'=>∃f,Q1 U' f/\Q f) U:=by
 obtain⟨X,Y,B,P⟩:=O8 L;refine ZG.mono (K:=λ U'=>∃f,Q1 U' f/\∃z,Q1 f z/\Q z) (λ U'⟨f,E,z,F,G⟩=>⟨z,E.trans F,G⟩) _ _ _ (WS X B N S λ f H V w=>?_);exact⟨{ f with M:=L₁++.obj b (.cells (c.setIfInBounds i v) e (0,0))::L₂ },Hf (by rw[w];exact Oh P _),h _ H V rfl⟩
def Ka{b:Nat}(N:U.M.Perm (L₁++.obj b (.cells c e (0,0))::L₂))(B:c.size=vs.length)(S:∀v∈vs,v.single=true)
  (h:∀f:Qa T,f.I=U.I->f.tok=U.tok->f.M=L₁++.obj b (.cells vs.toArray e (0,0))::L₂->Q f):ZG ⟨b,0,none⟩ vs 0 (λ U'=>∃f,Q1 U' f/\Q f) U:=by
 obtain⟨X,Y,E,P⟩:=O8 N;refine ZG.mono (K:=λ U'=>∃f,Q1 U' f/\∃z,Q1 f z/\Q z) (λ U'⟨f,F,z,G,H⟩=>⟨z,F.trans G,H⟩) _ _ _ (Wk X E B S λ f L V w=>?_);exact⟨{ f with M:=L₁++.obj b (.cells vs.toArray e (0,0))::L₂ },Hf (by rw[w];exact Oh P _),h _ L V rfl⟩
def qk{b:Nat}(h:M.Perm (L₁++.obj b o::L₂)):∃M':Obj->List Q2,∀f,J5 b f o M (M' f)/\(M' f).Perm (L₁++.obj b f::L₂):=by
 obtain⟨X,Y,e,w⟩:=O8 h;exact⟨λ f=>X++.obj b f::Y,λ f=>⟨by rw[e];exact Pd .here X,Oh w _⟩⟩
def CA{M':List Q2}(f:U.free m)(w:U.M.Perm (M'++M₀))(h:∀e:Qa T,(∀x o,U.I x=some o->e.I x=some o)->e.tok=U.tok->e.M=M'->Zo e m c->Q e):∃e,Q1 (U.put m (.cells c t)) e/\Q e:=
 ⟨_,(Wf (b:=m) (M':=U.M) (Perm.refl _)).trans (Dc (M':=M') ⟨M₀,w⟩),h _ (GA (o:=.cells c t) f).imm rfl rfl Zo.new⟩
def ZX(L:List Nat):List Value:=L.map λ n=>.int .i64 (n:Nat)
def Eh(L:List Nat):(ZX L).length=L.length:=by simp[ZX]
def Td(h:m<K.length):(ZX K)[m]?=some (.int .i64 (K.getD m 0:Nat)):=by
 simp[ZX,getD_eq_getElem?_getD,getElem?_eq_getElem h]
def Ei(L:List Nat)(i v:Nat):(ZX L).toArray.setIfInBounds i (.int .i64 (v:Nat))=(ZX (L.set i v)).toArray:=by
 simp[ZX,map_set]
def FU(n:Nat):replicate n (Value.int .i64 0)=ZX (replicate n 0):=by simp[ZX]
abbrev QY:Int->Value:=λ k=>.int .i64 k
def JL(m:Nat)(ky:Nat->Int)(vl:Nat->Value):List (Int×Value):=(range m).map λ p=>(ky p,vl p)
def Eo(m:Nat)(ky:Nat->Int)(vl:Nat->Value):(JL m ky vl).length=m:=by simp[JL]
def Di(m:Nat)(ky:Nat->Int)(vl:Nat->Value):JL (m+1) ky vl=JL m ky vl++[(ky m,vl m)]:=by simp[JL,range_succ]
def YW(h:p<m):(JL m ky vl)[p]?=some (ky p,vl p):=by simp[JL,h]
def CJ(h:∀p,p<m->ky p=i p/\vl p=d p):JL m ky vl=JL m i d:=
 map_congr_left λ p B=>by obtain⟨w,z⟩:=h p (by simpa using B);rw[w,z]
def T7{κ:Type}[DecidableEq κ]{k:κ}{v:Value}:∀{l:List (κ×Value)}(i:Nat),l.Pairwise (λ a b=>a.1≠b.1)->(k,v)∈l->(QM k l i).map (·.2)=some v
 |[],_,_,h=>by cases h
 |p::l,i,z,h=>by
  obtain⟨f,w⟩:=pairwise_cons.1 z;simp only[QM];rcases mem_cons.1 h with e|h
  .subst e;simp
  .rw[if_neg λ e=>f _ h e.symm];exact T7 (i+1) w h
def T8{κ:Type}[DecidableEq κ]{k:κ}:∀{l:List (κ×Value)}(i:Nat),(∀p∈l,p.1≠k)->QM k l i=none
 |[],_,_=>rfl
 |p::l,i,h=>by
  simp only[QM];rw[if_neg λ e=>h p S1 e.symm];exact T8 (i+1) λ q f=>h q (by simp[f])
def Tb(h:p<m)(B:∀q r,q<m->r<m->ky q=ky r->q=r):lk (ky p) (JL m ky vl)=some (vl p):=by
 refine T7 0 ?_ (mem_of_getElem? (YW h));unfold JL;rw[pairwise_map];refine Pairwise.imp_of_mem (R:=λ a b=>a≠b) (λ{a b}w z f e=>f (B a b (by simpa using w) (by simpa using z) e)) nodup_range
def KG(h:∀q,q<m->ky q≠k):lk k (JL m ky vl)=none/\∀v,ups k v (JL m ky vl)=JL m ky vl++[(k,v)]:=by
 have:QM k (JL m ky vl) 0=none:=T8 0 λ p e=>by
  unfold JL at e;obtain⟨q,f,rfl⟩:=mem_map.1 e;exact h q (by simpa using f)
 exact⟨by unfold lk;rw[this];rfl,λ v=>YO this⟩
def Pq:WM T prog 3 QY:=by
 have e:prog.underlying 3=some (.int .i64):=K1
 exact .simple e rfl (λ k k'=>by simp[Instr.sameNow];rfl) (λ k=>by simp[Instr.sameBits])
def VC:prog.underlying 147=some (.map 3 3):=K1
def Yc:prog.underlying 103=some (.map 3 38):=K1
def Lx:Xo prog 38=some (.int .i64 0):=K1
def Sb(h:Z8 U a l.length l):Zd U a l.length 1 l (λ x vs=>vs=[.int .i64 x]):=by
 refine⟨rfl,λ i x E=>?_⟩;obtain⟨w,e,z,B⟩:=h.2 i x E;refine⟨w,_,e,z,rfl,rfl,λ k v f=>?_⟩;cases k with
 |zero=>
  simp at f;subst f;obtain⟨bb,F,G⟩:=w;cases z;rw[Qu]at B;rw[Qu,Qu,Nat.add_zero];exact B
 |succ k=>simp at f
def Bk.setA(b:Bk)(q:Nat)(l:List Int):Bk:=⟨b.rs,b.cs.set q { b.cas q with af:=l }⟩
structure qu(U:Qa T)(h:BH)(b:Bk)(M₀:List Q2)(q:Nat)(a0:Option Addr)(l0 c0:Nat)(kF:List Q2)(cb:Nat)(cc:Array Value)(rest:List Q2):Prop where
 ca:h.ca=some ⟨cb,0,none⟩
 lt:q<h.cl
 sz:q*4+3<cc.size
 at3:cc.toList[q*4+3]?=some (.slice a0 l0 c0)
 acc:Jx 3 1 (.slice a0 l0 c0) ((b.cas q).af.map λ n=>.int .i64 n) kF
 len:(b.cas q).af.length<=1000
 pm:U.M.Perm (kF++(.obj cb (.cells cc.toList.toArray 46 (0,0))::(rest++M₀)))
 back:∀(U':Qa T)(v':Value)(F':List Q2)(l':List Int)(M0':List Q2),U.frz.lg U'.frz->Jx 3 1 v' (l'.map λ n=>.int .i64 n) F'->l'.length<=1000->U'.M.Perm (F'++(.obj cb (.cells (cc.setIfInBounds (q*4+3) v') 46 (0,0))::(rest++M0')))->QX U' h (b.setA q l') M0'
def QX.openC(ho:QX U h b M₀)(hq:q<b.cs.length):∃P l0 c0 N cb cc rest,qu U h b M₀ q P l0 c0 N cb cc rest:=by
 obtain⟨ps,A,L,K,T,hM⟩:=ho.ex;have ak:q<ps.length:=by rw[<- L,length_map]at hq;exact hq
 obtain⟨p,hp⟩:∃p,ps[q]?=some p:=⟨_,getElem?_eq_getElem ak⟩;obtain⟨X,Y,rfl,hX,ad⟩:=E9 hp;obtain⟨c,ag,ai,ah,kv,N⟩:=p
 have w:b.cas q=c:=by
  have:=congrArg (λ l=>l[q]?) L;simp only[getElem?_map,hp]at this;simp[Bk.cas,getD_eq_getElem?_getD,<- this]
 have E:=K _ (mem_of_getElem? hp);obtain⟨P,l0,c0,e0,am⟩:=E.af.src;obtain rfl:kv=.slice P l0 c0:=e0;have hF:Jx 3 1 (.slice P l0 c0) (c.af.map λ n=>.int .i64 n) N:=E.af;obtain⟨cb,cc,u,Q,I,aa,ab,H,rfl,Z⟩:=T.blk (by simp[ZF]);have aj:h.cl=u:=by have:=Value.slice.inj I;exact this.2.1
 have V:h.ca=some ⟨cb,0,none⟩:=by have:=Value.slice.inj I;exact this.1
 have W:h.cc=Q:=by have:=Value.slice.inj I;exact this.2.2
 have z:=aa;rw[Q6 Z1]at z;have ac:q<h.cl:=O1
 have ae:q*4+3<cc.size:=by rw[H];omega
 refine⟨P,l0,c0,N,cb,cc,X.flatMap (·.2.F)++Y.flatMap (·.2.F),⟨V,ac,ae,?_,by rw[w];exact hF,by rw[w];exact E.al,?_,?_⟩⟩
 .rw[Array.getElem?_toList];exact Z _ _ (P2 Z1 hp (by omega:3<4))
 .refine hM.trans ?_;rw[flatMap_append,flatMap_cons];show Perm (.obj cb (.cells cc 46 (0,0))::(X.flatMap (·.2.F)++(N++Y.flatMap (·.2.F))++M₀)) _;refine Perm.trans (Perm.cons _ ?_) perm_middle.symm;rw[<- append_assoc N];refine Perm.append_right _ ?_;rw[<- append_assoc,<- append_assoc];exact Perm.append_right _ perm_append_comm
 .intro U' v' F' l' M0' hz hF' hl' hM';refine⟨⟨X++({ c with af:=l' },⟨ag,ai,ah,v',F'⟩)::Y,[.obj cb (.cells (cc.setIfInBounds (q*4+3) v') 46 (0,0))],?_,?_,?_,?_⟩,ho.rs.lg hz λ _ _ h=>h,ho.rl,ho.rn,ho.rc⟩
  .show _=(b.cs.set q { b.cas q with af:=l' });rw[w,<- L,<- map_set (f:=λ p:Cs×ZP=>p.1) (a:=({ c with af:=l' },(⟨ag,ai,ah,v',F'⟩:ZP)))];rw[ad]
  .intro r M;rw[mem_append,mem_cons]at M;rcases M with M|rfl|M
   .exact(K r (by simp[M])).lg hz
   .have:=E.lg hz;exact⟨this.gs,this.gl,hF',this.nm,hl'⟩
   .exact(K r (by simp[M])).lg hz
  .rw[V,aj,W];refine .ofBlk ?_ ab (by simp[H]) λ i x B=>?_
   .rw[Q6 Z1];simpa using z
   .have hlen1:(X.flatMap ZF).length=q*4:=by rw[Q6 Z1,hX]
    rw[Array.getElem?_setIfInBounds];rw[flatMap_append,flatMap_cons]at B;have G:=Z i;rw[flatMap_append,flatMap_cons]at G;by_cases e:q*4+3=i
    .subst e;rw[if_pos rfl,if_pos ae];rw[getElem?_append_right O1,hlen1,Nat.add_sub_cancel_left,getElem?_append_left (by rw[Z1];omega)]at B;exact B
    .rw[if_neg e];refine G x ?_;by_cases h1:i<q*4
     .rw[getElem?_append_left O1]at B ⊢;exact B
     .rw[getElem?_append_right O1,hlen1]at B ⊢;by_cases h2:i-q*4<4
      .rw[getElem?_append_left (by rw[Z1];exact h2)]at B ⊢;have:i-q*4=0\/i-q*4=1\/i-q*4=2:=O1
       rcases this with e|e|e <;> rw[e]at B ⊢ <;> exact B
      .rw[getElem?_append_right (by rw[Z1];omega)]at B ⊢;exact B
  .refine hM'.trans ?_;rw[flatMap_append,flatMap_cons];show Perm _ (.obj cb _::(X.flatMap (·.2.F)++(F'++Y.flatMap (·.2.F))++M0'));refine Perm.trans perm_middle (Perm.cons _ ?_);rw[<- append_assoc F'];refine Perm.append_right _ ?_;rw[<- append_assoc,<- append_assoc];exact Perm.append_right _ perm_append_comm
def Bk.woL(b:Bk)(K:List Nat)(g:Nat->List Int):List Cs:=(range K.length).map λ p=>{ b.cas (K.getD p 0)with af:=g p }
def Bk.woL_len(b:Bk)(K:List Nat)(g:Nat->List Int):(b.woL K g).length=K.length:=by simp[Bk.woL]
def Bk.woL_at(h:q<K.length):(b.woL K g)[q]?=some { b.cas (K.getD q 0)with af:=g q }:=by simp[Bk.woL,h]
def Bk.woL_set(h:q<K.length)(l:List Int):(Bk.mk b.rs (b.woL K g)).setA q l=Bk.mk b.rs (b.woL K λ p=>if p=q then l else g p):=by
 have w:(Bk.mk b.rs (b.woL K g)).cas q={ b.cas (K.getD q 0)with af:=g q }:=Bk.cas_at (Bk.woL_at h);unfold Bk.setA;rw[w];congr 1;apply ext_getElem?;intro i;rw[getElem?_set];by_cases e:q=i
 .subst e;rw[if_pos rfl,if_pos (by rw[Bk.woL_len];exact h),Bk.woL_at h,if_pos rfl]
 .rw[if_neg e];by_cases f:i<K.length
  .rw[Bk.woL_at f,Bk.woL_at f,if_neg (Ne.symm e)]
  .rw[getElem?_eq_none (by rw[Bk.woL_len];omega),getElem?_eq_none (by rw[Bk.woL_len];omega)]
def Bk.woL_snoc(b:Bk)(K:List Nat)(k:Nat):b.woL (K++[k]) (λ _=>[])=b.woL K (λ _=>[])++[{ b.cas k with af:=[] }]:=by
 unfold Bk.woL;rw[length_append,length_cons,length_nil,range_succ,map_append];congr 1
 .refine map_congr_left λ p e=>?_;rw[mem_range]at e;rw[getD_eq_getElem?_getD,getElem?_append_left e,<- getD_eq_getElem?_getD]
 .simp[getD_eq_getElem?_getD]
def Bk.woL_congr(h:∀p,p<K.length->g p=g' p):b.woL K g=b.woL K g':=
 map_congr_left λ p e=>by rw[h p (by simpa using e)]
def Bk.wo_woL(w:∀i,i<b.cs.length->∀k,(W.getD i 0).testBit k=QU b.A f b.cs.length i k) :
  b.wo f=Bk.mk b.rs (b.woL (Bk.kpt f b.cs.length) λ p=>Bk.afK f (W.getD ((Bk.kpt f b.cs.length).getD p 0) 0) b.cs.length):=by
 have h:=Bk.wo_cs (out:=f) b W w;have:b.wo f=Bk.mk b.rs (b.wo f).cs:=rfl;rw[this,h];congr 1;unfold Bk.woL;apply ext_getElem?;intro i;rw[Bk.kpt_all];by_cases e:i<(b.kept f).length
 .simp[e,getD_eq_getElem?_getD]
 .rw[getElem?_eq_none (by simpa using e),getElem?_eq_none (by simpa using e)]
abbrev WD(mb e w f:Nat)(r v:Value)(E:List (Int×Value))(L:List Nat)(M:List Q2):List Q2:=
 .obj mb (Q0 QY E)::.cl e [r,v] 25::.obj w (.cells (ZX L).toArray 3 (0,0))::.cl f [.nl,.nl] 64::M
def Jt(K:List Nat):List (Int×Value):=JL K.length (λ p=>(K.getD p 0:Nat)) λ p=>.int .i64 (p:Nat)
def Ef(K:List Nat):(Jt K).length=K.length:=Eo _ _ _
def T4(h:p<K.length):(Jt K)[p]?=some (((K.getD p 0:Nat):Int),.int .i64 (p:Nat)):=YW h
def LU(e:K.Nodup)(f:q<K.length)(w:r<K.length)(h:K.getD q 0=K.getD r 0):q=r:=by
 simp only[getD_eq_getElem?_getD,getElem?_eq_getElem f,getElem?_eq_getElem w,Option.getD_some]at h;exact(getElem_inj e).1 h
def YA(e:q<K.length):K.getD q 0∈K:=by
 simp only[getD_eq_getElem?_getD,getElem?_eq_getElem e,Option.getD_some];exact getElem_mem e
def FQ(h:r∉K):ups ((r:Nat):Int) (.int .i64 (K.length:Nat)) (Jt K)=Jt (K++[r]):=by
 have f:=(KG (m:=K.length) (k:=((r:Nat):Int)) (ky:=λ p=>(K.getD p 0:Nat)) (vl:=λ p=>.int .i64 (p:Nat)) λ q z e=>h (by
  have e':K.getD q 0=r:=Int.ofNat.inj e;rw[<- e'];exact YA z)).2 (.int .i64 (K.length:Nat))
 unfold Jt;rw[f,length_append,length_cons,length_nil,Di];congr 1
 .refine CJ λ p w=>⟨?_,rfl⟩;rw[getD_eq_getElem?_getD,getD_eq_getElem?_getD,getElem?_append_left w]
 .simp[getD_eq_getElem?_getD]
def Mh(f:K.Nodup)(w:p<K.length):lk ((K.getD p 0:Nat):Int) (Jt K)=some (.int .i64 (p:Nat)):=
 Tb (m:=K.length) (ky:=λ p=>((K.getD p 0:Nat):Int)) (vl:=λ p=>.int .i64 (p:Nat)) w λ q r z B e=>LU f z B (Int.ofNat.inj e)
def LW(h:r∉K):lk ((r:Nat):Int) (Jt K)=none:=
 (KG (m:=K.length) (ky:=λ p=>((K.getD p 0:Nat):Int)) (vl:=λ p=>.int .i64 (p:Nat)) λ q f e=>h (by
  have e':K.getD q 0=r:=Int.ofNat.inj e;rw[<- e'];exact YA f)).1
def T6{f:Nat->Bool}{j:Nat}:∀{n:Nat},j<=n->∃Y,Bk.kpt f n=Bk.kpt f j++Y
 |0,h=>⟨[],by rw[Nat.le_zero.1 h];simp⟩
 |n+1,h=>by
  by_cases e:j=n+1
  .exact⟨[],by rw[e];simp⟩
  .obtain⟨Y,hY⟩:=T6 (f:=f) (j:=j) (n:=n) O1;cases w:f n with
   |true=>exact⟨Y,by rw[Bk.kpt_out w,hY]⟩
   |false=>exact⟨Y++[n],by rw[Bk.kpt_in w,hY,append_assoc]⟩
def Mk(h:m<q)(w:f m=false):(Bk.kpt f m).length<(Bk.kpt f q).length/\(Bk.kpt f q).getD (Bk.kpt f m).length 0=m:=by
 obtain⟨Y,e⟩:=T6 (f:=f) (show m+1<=q by omega);rw[Bk.kpt_in w]at e;rw[e];constructor
 .simp
 .simp[getD_eq_getElem?_getD]
section
attribute [local irreducible] Qb Zr W5
def TR(h:BH)(b:Bk)(hb:Zu U.frz h b)(a8:b.Ok)(o:Nat)(ho:o<2^60):Qb S 57 #[h.v,.int .i64 o] (λ v U'=>(∃h':BH,v=h'.v/\Zu U'.frz h' (b.wo o.testBit)/\h'.rl<=h'.rc)/\U.le U') U:=by
 have bo:=hb.cs.1;have f0:=hb.rs.1;have fx:=a8.nc;have fy:=a8.nr;obtain⟨i3,fe,ff,fg,f2⟩:=Ez;generalize dk:GR o.testBit b.cs.length b.cs.length (b.A.map Ja)=W;have hW:=a8.wlW o.testBit;rw[dk]at hW
 have dl:WB b.cs.length 5 (b.A.map Ja):=⟨by simp[b.A_length],λ x H=>by
  obtain⟨l,hl,rfl⟩:=mem_map.1 H;refine Nat.lt_of_lt_of_le (MA (n:=5) λ k hk=>?_) (Nat.le_refl _);simp only[Bk.A,mem_map]at hl;obtain⟨c,hc,rfl⟩:=hl;obtain⟨n,hn,rfl⟩:=mem_map.1 hk;have:=a8.af c hc n hn;unfold Bk.nc at this;omega⟩
 have eh:Qb S 57 #[h.v,.int .i64 o] (λ v U'=>(∃(h':BH)(Z:List Q2),v=h'.v/\QX U' h' (b.wo o.testBit) (Z++U.M))/\(∀x q,U.I x=some q->U'.I x=some q)/\U'.tok=U.tok) U:=by
  refine Qb.of (args:=[_,_]) YF Qd S1 ?_
  repeat refine⟨rfl,?_⟩
  conv=>whnf
  intro B U1 bn hB;have hB:=Zz4 h hB
  conv=>whnf
  intro V ft;refine⟨_,.refl _,?_⟩;have d1:=Z6 (U:=U1) V (.cells #[.nl,.nl] 64);refine⟨_,(hB.lg d1).sees3 (o:=1) rfl,?_⟩
  conv=>whnf
  refine S9 (n:=h.cl) Pr fe ff rfl fg O1 rfl rfl O1 λ N f1=>?_;have cg:=d1.trans (Z6 (U:=U1.put V (.cells #[.nl,.nl] 64)) N (.cells (replicate h.cl (Value.int .i64 0)).toArray 3));refine⟨_,(hB.lg cg).sees3 (o:=1) rfl,Nat,λ i=>[(1,.int .i64 o),(2,.pb B),(4,.pb V),(5,.slice (some ⟨N,0,none⟩) h.cl h.cl),(26,.slice h.ca h.cl h.cc),(27,.int .i64 h.cl),(28,.int .i64 i)],
   λ i U'=>U1.frz.lg U'/\i<=h.cl/\U'.M=.obj N (.cells (ZX (XJ (b.A.map Ja) h.cl i)).toArray 3 (0,0))::.cl V [.nl,.nl] 64::U.M,λ i=>h.cl-i,0,T1,⟨Qy.trans cg,O1,?_⟩,?_⟩
  .rw[C0,<- FU];show _::_::U1.M=_;rw[bn.own]
  rintro i f U2⟨P,hi,hM⟩;have a5:Je ((i:Int)+1):=I1
  repeat refine⟨rfl,?_⟩
  conv=>whnf
  apply Qe<;>intro hc
  .have hlt:i<h.cl:=by simpa using hc
   obtain⟨ad,c,ga,gl,gc,aa,al,ac,H,c1,ed,bg,-,-,ha,dm,ax⟩:=(hb.lg (bn.lg.frz2.trans P.frz2)).case hlt;have cy:=a8.toLow.lt ax;refine⟨ad,i,⟨c1,rfl,hlt⟩,_,⟨rfl,bg.lg Qy⟩,?_⟩
   conv=>whnf
   intro b7 es;refine⟨_,.refl _,rfl,Zy (vs:=[.string c.nm,.int .i64 c.ag,.slice ga gl gc,.slice aa al ac]) es rfl (by simp[Value.single]) λ U3 aq ep=>?_⟩;refine⟨_,ep.sees3 (o:=3) rfl,XW.any,(Jf aa al ac c.af ((ha.lg aq.lg.frz2).lg Qy) dm cy).go λ _=>?_⟩;have eo:(b.A.map Ja)[i]?=some (Ja (c.af.map Int.toNat)):=by simp[Bk.A,H]
   have eu:=FM (X:=b.A.map Ja) (n:=h.cl) (i:=i) (by simp[b.A_length,bo]) hi;refine⟨⟨N,0,none⟩,i,⟨rfl,rfl,hlt⟩,rfl,?_⟩;rw[Nat.mul_one];refine WS (i:=i) (v:=.int .i64 (Ja (c.af.map Int.toNat):Nat)) [] (aq.own.trans hM) (by simp[Eh,eu];omega) rfl λ U4 dc fa ay=>?_;rw[Ei,FN eo (by simp[b.A_length,bo])]at ay;refine⟨a5,?_⟩
   conv=>whnf
   exact⟨rfl,i+1,T1,⟨⟨λ x q H=>by rw[dc];exact aq.imm x q (P.imm x q H),Zz3,fa.trans (aq.tok.trans P.tok)⟩,O1,ay⟩,L1⟩
  have aj:i=h.cl:=by simp at hc;omega
  subst aj;rw[FL (by simp[b.A_length,bo])]at hM;refine⟨_,(hB.imI P.imm).sees3 (o:=1) rfl,Nat×List Nat,λ y=>[(1,.int .i64 o),(2,.pb B),(4,.pb V),(5,.slice (some ⟨N,0,none⟩) h.cl h.cl),(43,.int .i64 h.cl),(44,.int .i64 y.1)],
   λ y U'=>U1.frz.lg U'/\y.1<=h.cl/\U'.M=.obj N (.cells (ZX y.2).toArray 3 (0,0))::.cl V [.nl,.nl] 64::U.M/\WB h.cl 5 y.2/\GR o.testBit h.cl (h.cl-y.1) y.2=W,λ y=>h.cl-y.1,(0,b.A.map Ja),T1,⟨P,O1,hM,by rw[<- bo];exact dl,by rw[<- dk,bo];rfl⟩,?_⟩
  clear hM P a5 hi;rintro⟨r,L⟩f U2⟨P,hr,hM,bm,a6⟩;simp only at hr hM bm a6;have dy:Je ((r:Int)+1):=I1
  repeat refine⟨rfl,?_⟩
  conv=>whnf
  apply Qe<;>intro hc
  .have hrt:r<h.cl:=by simpa using hc
   rw[show h.cl-r=(h.cl-(r+1))+1 by omega]at a6
   refine⟨Nat,λ i=>[(1,.int .i64 o),(2,.pb B),(4,.pb V),(5,.slice (some ⟨N,0,none⟩) h.cl h.cl),(43,.int .i64 h.cl),(44,.int .i64 r),(47,.int .i64 h.cl),(48,.int .i64 i)],
    λ i U'=>U1.frz.lg U'/\i<=h.cl/\U'.M=.obj N (.cells (ZX (XR o.testBit h.cl L i)).toArray 3 (0,0))::.cl V [.nl,.nl] 64::U.M,λ i=>h.cl-i,0,T1,⟨P,O1,hM⟩,?_⟩
   rintro i f U3⟨ab,hi,av⟩;have a5:Je ((i:Int)+1):=I1
   have ef:=bm.rto (out:=o.testBit) i
   repeat refine⟨rfl,?_⟩
   conv=>whnf
   apply Qe<;>intro hc
   .have hit:i<h.cl:=by simpa using hc
    refine⟨_,(hB.imI ab.imm).sees3 (o:=1) rfl,Nat,λ k=>[(1,.int .i64 o),(2,.pb B),(4,.pb V),(5,.slice (some ⟨N,0,none⟩) h.cl h.cl),(8,.int .i64 i),(43,.int .i64 h.cl),(44,.int .i64 r),(47,.int .i64 h.cl),(48,.int .i64 i),(54,.int .i64 h.cl),(55,.int .i64 k)],
     λ k U'=>U1.frz.lg U'/\k<=h.cl/\U'.M=.obj N (.cells (ZX (HA o.testBit i (XR o.testBit h.cl L i) k)).toArray 3 (0,0))::.cl V [.nl,.nl] 64::U.M,λ k=>h.cl-k,0,T1,⟨ab,O1,av⟩,?_⟩
    rintro k f U4⟨ao,hk,ay⟩;have ak:Je ((k:Int)+1):=I1
    have b5:=ef.to (out:=o.testBit) (i:=i) k;have Q:=Dk o.testBit i (XR o.testBit h.cl L i) k;generalize de:HA o.testBit i (XR o.testBit h.cl L i) k=Lk at ay b5 Q;unfold WX at Q;have bq:∀j,Lk.getD j 0<2^60:=λ j=>Nat.lt_trans (b5.at j) D1
    have bg:∀j,j<h.cl->U4.sees ((Addr.mk N 0 none).add (j*1)) (.int .i64 (Lk.getD j 0:Nat)):=λ j hj=>by
     rw[Nat.mul_one];exact Ze [] ay j _ (Td (by rw[b5.len];exact hj))
    repeat refine⟨rfl,?_⟩
    conv=>whnf
    apply Qe<;>intro hc
    .have hkt:k<h.cl:=by simpa using hc
     have a4:=HU (bq i) (show k<60 by omega);have bt:=HU ho (show k<60 by omega);refine⟨⟨N,0,none⟩,i,⟨rfl,rfl,hit⟩,_,bg i hit,O1,?_⟩
     repeat refine⟨rfl,?_⟩
     conv=>whnf
     apply Jb<;>intro hc
     .have hb1:(Lk.getD i 0).testBit k=true:=a4.symm.trans hc;rw[hb1,Bool.true_and]at Q;refine⟨O1,?_⟩
      repeat refine⟨rfl,?_⟩
      conv=>whnf
      apply Qe<;>intro hc
      .have hb2:o.testBit k=true:=bt.symm.trans hc;rw[if_pos hb2]at Q;refine⟨⟨N,0,none⟩,i,⟨rfl,rfl,hit⟩,_,bg i hit,⟨N,0,none⟩,k,⟨rfl,rfl,hkt⟩,_,bg k hkt,?_⟩
       conv=>whnf
       intro U5 cv _;refine⟨rfl,⟨N,0,none⟩,i,⟨rfl,rfl,hit⟩,rfl,?_⟩;rw[Nat.mul_one];refine WS (i:=i) [] (cv.own.trans ay) (by simp[Eh,b5.len];omega) rfl λ U6 dd ee dg=>?_
       have df:U6.M=.obj N (.cells (ZX (HA o.testBit i (XR o.testBit h.cl L i) (k+1))).toArray 3 (0,0))::.cl V [.nl,.nl] 64::U.M:=by
        rw[Q,<- Ei,<- Kv (bq i) (bq k)];exact dg
       refine⟨ak,?_⟩
       conv=>whnf
       exact⟨rfl,k+1,T1,⟨⟨λ x q H=>by rw[dd];exact cv.imm x q (ao.imm x q H),Zz3,ee.trans (cv.tok.trans ao.tok)⟩,O1,df⟩,L1⟩
      .have hb2:o.testBit k=false:=bt.symm.trans hc;rw[hb2,if_neg S1]at Q;refine⟨ak,?_⟩
       conv=>whnf
       exact⟨rfl,k+1,T1,⟨ao,O1,by rw[Q];exact ay⟩,L1⟩
     .have hb1:(Lk.getD i 0).testBit k=false:=a4.symm.trans hc;rw[hb1,Bool.false_and,if_neg S1]at Q;refine⟨ak,?_⟩
      conv=>whnf
      exact⟨rfl,k+1,T1,⟨ao,O1,by rw[Q];exact ay⟩,L1⟩
    .have aj:k=h.cl:=by simp at hc;omega
     subst aj;rw[Ev,<- Dm]at de;subst de;refine⟨a5,?_⟩
     conv=>whnf
     exact⟨rfl,i+1,T1,⟨ao,O1,ay⟩,L1⟩
   .have aj:i=h.cl:=by simp at hc;omega
    subst aj;refine⟨dy,?_⟩
    conv=>whnf
    exact⟨rfl,(r+1,XR o.testBit h.cl L h.cl),T1,⟨ab,by show r+1<=h.cl;omega,av,ef,a6⟩,L1⟩
  have aj:r=h.cl:=by simp at hc;omega
  subst aj;rw[Nat.sub_self]at a6;obtain rfl:L=W:=a6;have bq:∀j,L.getD j 0<2^60:=λ j=>Nat.lt_trans (bm.at j) D1;have dv:U.frz.lg U2.frz:=bn.lg.frz2.trans P.frz2;refine⟨_,(hB.imI P.imm).sees3 (o:=0) rfl,YG.any,(TL h.ra h.rl h.rc b.rs ((hb.rs.lg dv λ _ _ h=>h).lg Qy λ _ _ h=>h) O1).mono ?_⟩;rintro _ U3⟨⟨ra,rl,rc,rfl,c6,eb⟩,aq⟩-
  conv=>whnf
  intro z dt;refine⟨_,.refl _,rfl,HR (vs:=[.slice ra rl rc,.nl]) rfl (by simp[Value.single]) ?_⟩
  conv=>whnf
  refine P6 QY λ mb e5=>?_;have ab:U1.frz.lg U3:=P.trans aq.lg;have fl:=eb.1
  let K:Nat->List Nat:=λ j=>Bk.kpt o.testBit j
  have av:((U3.put z (.cells [.slice ra rl rc,.nl].toArray 25)).put mb (Q0 QY [])).M=WD mb z N V (.slice ra rl rc) .nl (Jt (K 0)) L U.M:=by
   show _::_::U3.M=_;rw[aq.own,hM];rfl
  have bj:U1.frz.lg ((U3.put z (.cells [.slice ra rl rc,.nl].toArray 25)).put mb (Q0 QY [])):=⟨ab.imm,Zz3,ab.tok⟩;have bz:Zd ((U3.put z (.cells [.slice ra rl rc,.nl].toArray 25)).put mb (Q0 QY [])).frz ra rl 1 b.rs λ s vs=>vs=[.string s]:=eb;generalize((U3.put z (.cells [.slice ra rl rc,.nl].toArray 25)).put mb (Q0 QY []))=U4 at av bj bz ⊢;refine⟨_,(hB.imI bj.imm).sees3 (o:=1) rfl,Nat×Value,λ y=>[(1,.int .i64 o),(2,.pb B),(4,.pb V),(5,.slice (some ⟨N,0,none⟩) h.cl h.cl),(10,.pb z),(11,.map (some mb)),(94,.slice h.ca h.cl h.cc),(95,.int .i64 h.cl),(96,.int .i64 y.1)],
   λ y U'=>U4.frz.lg U'/\y.1<=h.cl/\∃(ps:List (Cs×ZP))(A:List Q2),ps.map (·.1)=b.woL (K y.1) (λ _=>[])/\(∀p∈ps,X8 U' p/\p.2.F=[])/\Jx 46 4 y.2 (ps.flatMap ZF) A/\U'.M=A++WD mb z N V (.slice ra rl rc) y.2 (Jt (K y.1)) L U.M,λ y=>h.cl-y.1,(0,.nl),T1,⟨⟨λ _ _ h=>h,Zz3,rfl⟩,O1,[],[],rfl,S1,.nil,av⟩,?_⟩
  clear hM P av aq ab dt e5;rintro⟨i,v⟩f U5⟨P,hi,ps,A,bp,ap,aw,hM⟩;simp only at bp aw hM hi;obtain⟨sa,sl,sc,rfl,e8⟩:=aw.src;rw[Q6 Z1]at e8
  have fz:ps.length=(K i).length:=by
   have:=congrArg List.length bp
   rwa [length_map,Bk.woL_len]at this
  have fp:(K i).length<=i:=Bk.kpt_len i;have a5:Je ((i:Int)+1):=I1
  have an:U1.frz.lg U5:=⟨λ x q H=>P.imm x q (bj.imm x q H),Zz3,P.tok.trans bj.tok⟩
  repeat refine⟨rfl,?_⟩
  conv=>whnf
  apply Qe<;>intro hc
  .have hlt:i<h.cl:=by simpa using hc
   have bt:=HU ho (show i<60 by omega);obtain⟨ad,c,ga,gl,gc,aa,al,ac,H,c1,ed,bg,dx,fu,ha,dm,ax⟩:=(hb.lg (bn.lg.frz2.trans an.frz2)).case hlt;have dp:=Bk.cas_at H;have ew:=a8.gs c ax;have fi:=a8.gl c ax;have dq:=hb.cn c ax;have fh:=(a8.asc ax).1;have fj:=dx.1;have cf:=ha.1;refine⟨ad,i,⟨c1,rfl,hlt⟩,_,⟨rfl,bg.lg Qy⟩,?_⟩
   conv=>whnf
   intro ai du;refine⟨_,.refl _,?_⟩;cases a1:o.testBit i with
   |true=>
    have br:K (i+1)=K i:=Bk.kpt_out a1;refine⟨rfl,Zy (vs:=[.string c.nm,.int .i64 c.ag,.slice ga gl gc,.slice aa al ac]) du rfl (by simp[Value.single]) λ U6 cw _=>?_⟩;refine⟨O1,?_⟩
    repeat refine⟨rfl,?_⟩
    conv=>whnf
    apply Qe<;>intro hc
    .refine⟨a5,?_⟩
     conv=>whnf
     exact⟨rfl,(i+1,.slice sa sl sc),T1,⟨P.trans cw.lg,by show i+1<=h.cl;omega,ps,A,by show _=b.woL (K (i+1)) _;rw[br];exact bp,λ p hp=>⟨(ap p hp).1.lg cw.lg.frz2,(ap p hp).2⟩,aw,by show _=A++WD mb z N V _ _ (Jt (K (i+1))) L U.M;rw[br];exact cw.own.trans hM⟩,L1⟩
    .have:=bt.symm.trans hc;rw[a1]at this;cases this
   |false=>
    have br:K (i+1)=K i++[i]:=Bk.kpt_in a1;have d4:i∉K i:=λ hm=>absurd (Bk.kpt_lt hm).1 (Nat.lt_irrefl _);refine⟨rfl,HR (vs:=[.string c.nm,.int .i64 c.ag,.slice ga gl gc,.slice aa al ac]) rfl (by simp[Value.single]) ?_⟩
    have cr:(U5.put ai (.cells [.string c.nm,.int .i64 c.ag,.slice ga gl gc,.slice aa al ac].toArray 46)).M=(.cl ai [.string c.nm,.int .i64 c.ag,.slice ga gl gc,.slice aa al ac] 46::A)++WD mb z N V (.slice ra rl rc) (.slice sa sl sc) (Jt (K i)) L U.M:=by
     show _::U5.M=_;rw[hM];rfl
    have c9:U5.frz.lg (U5.put ai (.cells [.string c.nm,.int .i64 c.ag,.slice ga gl gc,.slice aa al ac].toArray 46)):=⟨λ _ _ h=>h,Zz3,rfl⟩;generalize(U5.put ai (.cells [.string c.nm,.int .i64 c.ag,.slice ga gl gc,.slice aa al ac].toArray 46))=U6 at cr c9 ⊢;refine⟨O1,?_⟩
    repeat refine⟨rfl,?_⟩
    conv=>whnf
    apply Qe<;>intro hc
    .have:=bt.symm.trans hc;rw[a1]at this;cases this
    refine⟨_,(J3 (b:=z) (e:=25) (vs:=[.slice ra rl rc,.slice sa sl sc]) (by rw[cr];simp)).cell (i:=1) rfl,?_⟩
    conv=>whnf
    obtain⟨Mu,di⟩:=qk (M:=U6.M) (b:=mb) (o:=Q0 QY (Jt (K i))) (L₁:=.cl ai [.string c.nm,.int .i64 c.ag,.slice ga gl gc,.slice aa al ac] 46::A) (L₂:=.cl z [.slice ra rl rc,.slice sa sl sc] 25::.obj N (.cells (ZX L).toArray 3 (0,0))::.cl V [.nl,.nl] 64::U.M) (by rw[cr]);have ec:(.int .i64 (sl:Int):Value)=.int .i64 ((K i).length:Nat):=by rw[show sl=(K i).length by omega]
    refine KB (b:=mb) (k:=((i:Nat):Int)) (l:=Jt (K i)) (v:=.int .i64 sl) (M':=Mu (Q0 QY (Jt (K (i+1))))) Pq VC rfl rfl rfl (by rw[ec,FQ d4,<- br];exact(di _).1) ?_;have c5:({ U6 with M:=Mu (Q0 QY (Jt (K (i+1)))) }:Qa T).M.Perm _:=(di (Q0 QY (Jt (K (i+1))))).2;have b1:U5.frz.lg ({ U6 with M:=Mu (Q0 QY (Jt (K (i+1)))) }:Qa T):=⟨c9.imm,Zz3,c9.tok⟩;generalize({ U6 with M:=Mu (Q0 QY (Jt (K (i+1)))) }:Qa T)=Ux at c5 b1 ⊢;refine⟨_,⟨rfl,J3 (b:=ai) (e:=46) (vs:=[.string c.nm,.int .i64 c.ag,.slice ga gl gc,.slice aa al ac]) (c5.mem_iff.2 S1)⟩,?_⟩;refine⟨YH.any,(TQ (U:=Ux) c ga aa gl gc al ac (dx.lg b1.frz2) O1 (ha.lg b1.frz2) O1 (λ g hg=>by have:=(ew g hg).1;omega) dq).mono ?_⟩;rintro _ U7⟨⟨⟨a9,bc,ba,kv,kF⟩,rfl,hk,bi⟩,bh,bl⟩-;obtain⟨a0,l0,c0,e0,-⟩:=hk.af.src;obtain rfl:kv=.slice a0 l0 c0:=e0
    have d6:U7.M.Perm (kF++(.cl ai [.string c.nm,.int .i64 c.ag,.slice ga gl gc,.slice aa al ac] 46::(A++WD mb z N V (.slice ra rl rc) (.slice sa sl sc) (Jt (K (i+1))) L U.M))):=by
     rw[bi];exact Perm.append_left _ c5
    have ej:∀x q,U5.I x=some q->U7.I x=some q:=λ x q H=>bh x q (b1.imm x q H);have fb:U7.tok=U5.tok:=bl.trans b1.tok;refine⟨rfl,Ka (vs:=[.string c.nm,.int .i64 c.ag,.slice a9 bc ba,.slice a0 l0 c0]) d6 rfl (by simp[Value.single]) λ U8 b8 ck dh=>?_⟩;refine⟨rfl,qr (b:=ai) (e:=46) (c:=[.string c.nm,.int .i64 c.ag,.slice a9 bc ba,.slice a0 l0 c0].toArray) (L₁:=kF) (L₂:=A++WD mb z N V (.slice ra rl rc) (.slice sa sl sc) (Jt (K (i+1))) L U.M) (i:=3) (v:=.nl) (by rw[dh]) (by show 3<4;omega) rfl λ U9 b9 cm a3=>?_⟩;have a3:U9.M=kF++.cl ai [.string c.nm,.int .i64 c.ag,.slice a9 bc ba,.nl] 46::(A++WD mb z N V (.slice ra rl rc) (.slice sa sl sc) (Jt (K (i+1))) L U.M):=a3;have da:U5.frz.lg U9.frz:=⟨λ x q H=>by show U9.I x=_;rw[b9,b8];exact ej x q H,⟨[],rfl⟩,by show U9.tok=_;rw[cm,ck];exact fb⟩;have eg:U7.frz.lg U9.frz:=⟨λ x q H=>by show U9.I x=_;rw[b9,b8];exact H,⟨[],rfl⟩,by show U9.tok=_;rw[cm,ck];rfl⟩;refine⟨_,(J3 (b:=z) (e:=25) (vs:=[.slice ra rl rc,.slice sa sl sc]) (by rw[a3];simp)).cell (i:=1) rfl,?_⟩;refine⟨_,⟨rfl,J3 (b:=ai) (e:=46) (vs:=[.string c.nm,.int .i64 c.ag,.slice a9 bc ba,.nl]) (by rw[a3];simp)⟩,?_⟩
    conv=>whnf
    intro bb et
    refine CA (M':=A++WD mb z N V (.slice ra rl rc) (.slice sa sl sc) (Jt (K (i+1))) L U.M) (M₀:=kF++[.cl ai [.string c.nm,.int .i64 c.ag,.slice a9 bc ba,.nl] 46]) et (by
     rw[a3];refine Perm.trans ?_ perm_append_comm;rw[append_assoc];exact Perm.refl _) λ Ua cp c8 ct cz=>?_
    have b0:U9.frz.lg Ua.frz:=⟨cp,⟨[],rfl⟩,c8⟩;have cz:Zo Ua bb (ZF (({ c with af:=[] }:Cs),(⟨a9,bc,ba,.nl,[]⟩:ZP))).toArray:=cz
    conv=>whnf
    refine Wv (v:=.slice sa sl sc) (cs:=ps.flatMap ZF) (new:=ZF (({ c with af:=[] }:Cs),(⟨a9,bc,ba,.nl,[]⟩:ZP))) (M₀:=WD mb z N V (.slice ra rl rc) (.slice sa sl sc) (Jt (K (i+1))) L U.M) UW rfl rfl (by rw[ct];exact aw _) (.inr ⟨_,rfl,cz.rd⟩) rfl (by simp[ZF,Value.single]) (by rw[Q6 Z1,Z1];omega) λ v' M' cx _=>?_;obtain⟨co,cq,ce⟩:=cx.split;obtain⟨ta,tl,tc,rfl,-⟩:=ce.src;refine⟨rfl,WS (b:=z) (e:=25) (c:=[.slice ra rl rc,.slice sa sl sc].toArray) (M₀:=.obj N (.cells (ZX L).toArray 3 (0,0))::.cl V [.nl,.nl] 64::U.M) (i:=1) (v:=.slice ta tl tc) (co++[.obj mb (Q0 QY (Jt (K (i+1))))]) (by show M'=_;rw[cq];simp) (by show 1<2;omega) rfl λ Uc ek fc cu=>?_⟩;have cu:Uc.M=co++WD mb z N V (.slice ra rl rc) (.slice ta tl tc) (Jt (K (i+1))) L U.M:=by rw[cu];simp
    have b6:U9.frz.lg Uc.frz:=b0.trans ⟨λ x q H=>by show Uc.I x=_;rw[ek];exact H,⟨[],rfl⟩,fc⟩;refine⟨a5,rfl,(i+1,.slice ta tl tc),T1,⟨⟨λ x q H=>b6.imm x q (da.imm x q (P.imm x q H)),Zz3,b6.tok.trans (da.tok.trans P.tok)⟩,by show i+1<=h.cl;omega,ps++[(({ c with af:=[] }:Cs),(⟨a9,bc,ba,.nl,[]⟩:ZP))],co,?_,?_,?_,cu⟩,L1⟩
    .show _=b.woL (K (i+1)) _;rw[br,Bk.woL_snoc,map_append,bp,dp];rfl
    .intro p hp;rcases mem_append.1 hp with hp|hp
     .exact⟨(ap p hp).1.lg (da.trans b6),(ap p hp).2⟩
     .rw[mem_singleton.1 hp];have:=hk.lg (eg.trans b6);exact⟨⟨this.gs,this.gl,.nil,this.nm,by show 0<=_;omega⟩,rfl⟩
    .rw[flatMap_append];simpa using ce
  have aj:i=h.cl:=by simp at hc;omega
  subst aj
  have E:QX U5 ⟨ra,rl,rc,sa,sl,sc⟩ (Bk.mk b.rs (b.woL (K h.cl) λ _=>[])) (WD mb z N V (.slice ra rl rc) (.slice sa sl sc) (Jt (K h.cl)) L U.M):=by
   refine⟨⟨ps,A,bp,λ p hp=>(ap p hp).1,aw,?_⟩,bz.lg P.frz2 λ _ _ h=>h,by show rl<_;omega,hb.rn,c6⟩
   have:ps.flatMap (·.2.F)=[]:=by
    rw[flatMap_eq_nil_iff];exact λ p hp=>(ap p hp).2
   rw[this,hM];exact Perm.refl _
  clear hM aw bp ap a5 bz
  conv=>whnf
  refine Y4 (b:=mb) (enc:=QY) (l:=Jt (K h.cl)) VC rfl (.inr (E.mem _ S1)) λ it fk=>?_;have el:(K h.cl).Nodup:=Bk.kpt_nodup _;have fw:(K h.cl).length<=5:=Nat.le_trans (Bk.kpt_len _) O1
  let G:Nat->List Int:=λ p=>Bk.afK o.testBit (L.getD ((K h.cl).getD p 0) 0) h.cl
  have E:QX (U5.put it (J2 mb (Jt (K h.cl)).length #[])) ⟨ra,rl,rc,sa,sl,sc⟩ (Bk.mk b.rs (b.woL (K h.cl) λ p=>if p∈(#[]:Array Nat)then G p else[])) (.obj it (J2 mb (Jt (K h.cl)).length #[])::WD mb z N V (.slice ra rl rc) (.slice sa sl sc) (Jt (K h.cl)) L U.M):=by
   rw[show(λ p=>if p∈(#[]:Array Nat)then G p else[])=(λ _=>([]:List Int)) by funext p;simp];obtain⟨ps,A,h1,h2,h3,h4⟩:=E.ex;refine⟨⟨ps,A,h1,λ p hp=>(h2 p hp).lg ⟨λ _ _ h=>h,⟨[],rfl⟩,rfl⟩,h3,?_⟩,E.rs.lg ⟨λ _ _ h=>h,⟨[],rfl⟩,rfl⟩ λ _ _ h=>h,E.rl,E.rn,E.rc⟩;show(_::U5.M).Perm _;rw[<- append_assoc];refine(h4.cons _).trans ?_;rw[<- append_assoc];exact perm_middle.symm
  refine⟨Array Nat,λ _=>[(2,.pb B),(4,.pb V),(5,.slice (some ⟨N,0,none⟩) h.cl h.cl),(10,.pb z),(11,.map (some mb)),(122,.pb it)],
   λ seen U'=>U5.frz.lg U'/\QX U' ⟨ra,rl,rc,sa,sl,sc⟩ (Bk.mk b.rs (b.woL (K h.cl) λ p=>if p∈seen then G p else[])) (.obj it (J2 mb (Jt (K h.cl)).length seen)::WD mb z N V (.slice ra rl rc) (.slice sa sl sc) (Jt (K h.cl)) L U.M)/\seen.toList.Nodup/\∀i∈seen.toList,i<(K h.cl).length,λ seen=>(K h.cl).length-seen.size,#[],T1,⟨⟨λ _ _ h=>h,Zz3,rfl⟩,E,S1,S1⟩,?_⟩
  clear E;rintro seen f U6⟨bk,E,d2,ch⟩
  have e9:seen.size<=(K h.cl).length:=by
   have:=Xi d2 ch;simpa using this
  have bv:U1.frz.lg U6:=⟨λ x q H=>bk.imm x q (an.imm x q H),Zz3,bk.tok.trans an.tok⟩;obtain⟨Xp,Yp,en,c7,-,-⟩:=E.pick
  conv=>whnf
  refine YR (b:=mb) (r:=it) (seen:=seen) (enc:=QY) (l:=Jt (K h.cl)) (λ q=>Xp++.obj it q::Yp) rfl (.inr (E.mem _ S1)) (λ q=>by rw[en];exact Pd .here _) (λ cf=>?_) (λ q p hp d3=>?_)
  .have hfin:(Bk.mk b.rs (b.woL (K h.cl) λ p=>if p∈seen then G p else[]))=b.wo o.testBit:=by
    rw[Bk.wo_woL hW,bo];congr 1;refine Bk.woL_congr λ p hp=>?_;rw[if_pos (cf p (by rw[Ef];exact hp))]
   rw[hfin]at E
   repeat refine⟨rfl,?_⟩
   refine⟨_,⟨rfl,J3 (b:=z) (e:=25) (vs:=[.slice ra rl rc,.slice sa sl sc]) (E.mem _ S1)⟩,?_⟩
   conv=>whnf
   obtain⟨ps,A,h1,h2,h3,h4⟩:=E.ex;refine⟨rfl,Ka (b:=V) (e:=64) (c:=[.nl,.nl].toArray) (vs:=[.slice ra rl rc,.slice sa sl sc]) (L₁:=A++(ps.flatMap (·.2.F)++[.obj it (J2 mb (Jt (K h.cl)).length seen),.obj mb (Q0 QY (Jt (K h.cl))),.cl z [.slice ra rl rc,.slice sa sl sc] 25,.obj N (.cells (ZX L).toArray 3 (0,0))])) (L₂:=U.M) (by simpa using h4) rfl (by simp[Value.single]) λ U7 bh bl bi=>?_⟩;refine⟨_,⟨rfl,J3 (b:=V) (e:=64) (vs:=[.slice ra rl rc,.slice sa sl sc]) (by rw[bi];simp)⟩,?_⟩;have hz:U6.frz.lg U7.frz:=⟨λ x q H=>by show U7.I x=_;rw[bh];exact H,⟨[],rfl⟩,bl⟩;refine⟨⟨⟨ra,rl,rc,sa,sl,sc⟩,[.obj it (J2 mb (Jt (K h.cl)).length seen),.obj mb (Q0 QY (Jt (K h.cl))),.cl z [.slice ra rl rc,.slice sa sl sc] 25,.obj N (.cells (ZX L).toArray 3 (0,0)),.cl V [.slice ra rl rc,.slice sa sl sc] 64],rfl,⟨⟨ps,A,h1,λ p hp=>(h2 p hp).lg hz,h3,by rw[bi];simp⟩,E.rs.lg hz λ _ _ h=>h,E.rl,E.rn,E.rc⟩⟩,λ x q H=>by rw[bh];exact bv.imm x q (bn.imm x q H),bl.trans (bv.tok.trans bn.tok)⟩
  .have hql:q<(K h.cl).length:=by have:=(List.getElem?_eq_some_iff.1 hp).1;rwa [Ef]at this
   rw[T4 hql]at hp;cases hp;have c3:=Bk.kpt_lt (YA hql:(K h.cl).getD q 0∈Bk.kpt o.testBit h.cl);generalize dz:(K h.cl).getD q 0=kk at c3
   have cj:(seen.push q).toList.Nodup:=by
    rw[Array.toList_push,nodup_append];refine⟨d2,S1,λ x H y hy=>?_⟩;rw[mem_singleton.1 hy];rintro rfl;exact d3 (by simpa using H)
   have bw:∀j∈(seen.push q).toList,j<(K h.cl).length:=by
    intro j hj;rw[Array.toList_push,mem_append]at hj;rcases hj with hj|hj
    .exact ch j hj
    .rw[mem_singleton.1 hj];exact hql
   have dr:(K h.cl).length-(seen.push q).size<(K h.cl).length-seen.size:=by
    have:=Xi cj bw;rw[Array.length_toList,Array.size_push]at this;rw[Array.size_push];omega
   have a2:=c7 ({ U6 with M:=Xp++.obj it (J2 mb (Jt (K h.cl)).length (seen.push q))::Yp }:Qa T) (.obj it (J2 mb (Jt (K h.cl)).length (seen.push q))) (λ _ _ h=>h) rfl rfl;have a7:U5.frz.lg ({ U6 with M:=Xp++.obj it (J2 mb (Jt (K h.cl)).length (seen.push q))::Yp }:Qa T):=⟨bk.imm,Zz3,bk.tok⟩;generalize({ U6 with M:=Xp++.obj it (J2 mb (Jt (K h.cl)).length (seen.push q))::Yp }:Qa T)=U7 at a2 a7 ⊢;have be:U1.frz.lg U7:=⟨λ x q H=>a7.imm x q (an.imm x q H),Zz3,a7.tok.trans an.tok⟩
   repeat refine⟨rfl,?_⟩
   conv=>whnf
   refine Y3 (b:=mb) (r:=it) (seen:=seen) (enc:=QY) (l:=Jt (K h.cl)) rfl (.inr (a2.mem _ S1)) (.inr (a2.mem _ S1)) (T4 hql) ?_;rw[dz];refine⟨_,(hB.imI be.imm).sees3 (o:=1) rfl,Nat,λ k=>[(2,.pb B),(4,.pb V),(5,.slice (some ⟨N,0,none⟩) h.cl h.cl),(10,.pb z),(11,.map (some mb)),(14,.int .i64 kk),(15,.int .i64 q),(122,.pb it),(131,.int .i64 h.cl),(132,.int .i64 k)],
    λ k U'=>U7.frz.lg U'/\k<=h.cl/\QX U' ⟨ra,rl,rc,sa,sl,sc⟩ (Bk.mk b.rs (b.woL (K h.cl) λ p=>if p=q then Bk.afK o.testBit (L.getD kk 0) k else if p∈seen then G p else[])) (.obj it (J2 mb (Jt (K h.cl)).length (seen.push q))::WD mb z N V (.slice ra rl rc) (.slice sa sl sc) (Jt (K h.cl)) L U.M),λ k=>h.cl-k,0,T1,⟨⟨λ _ _ h=>h,Zz3,rfl⟩,O1,?_⟩,?_⟩
   .rw[Bk.woL_congr (b:=b) (g':=λ p=>if p∈seen then G p else[]) λ p hp=>?_]
    .exact a2
    .by_cases e:p=q
     .subst e;rw[if_pos rfl,if_neg d3];rfl
     .rw[if_neg e]
   rintro k f U8⟨ah,hk,Y⟩;have ak:Je ((k:Int)+1):=I1
   have e4:U1.frz.lg U8:=⟨λ x q H=>ah.imm x q (be.imm x q H),Zz3,ah.tok.trans be.tok⟩
   repeat refine⟨rfl,?_⟩
   conv=>whnf
   apply Qe<;>intro hc
   .have hkt:k<h.cl:=by simpa using hc
    cases a1:o.testBit k with
    |true=>
     have c4:lk ((k:Nat):Int) (Jt (K h.cl))=none:=LW λ hm=>by
      have:=(Bk.kpt_lt hm).2;rw[a1]at this;cases this
     conv=>whnf
     refine KL (b:=mb) (k:=((k:Nat):Int)) (l:=Jt (K h.cl)) Pq VC HO rfl rfl (.inr (Y.mem _ S1)) ?_;rw[c4];refine⟨ak,?_⟩
     conv=>whnf
     exact⟨rfl,k+1,T1,⟨ah,O1,by rw[Bk.afK_out a1];exact Y⟩,L1⟩
    |false=>
     obtain⟨d7,e6⟩:=Mk (f:=o.testBit) hkt a1
     have c4:lk ((k:Nat):Int) (Jt (K h.cl))=some (.int .i64 ((K k).length:Nat)):=by
      have:=Mh el d7
      rwa [show(K h.cl).getD (Bk.kpt o.testBit k).length 0=k from e6]at this
     have a4:=HU (bq kk) (show k<60 by omega)
     have ea:U8.sees ((Addr.mk N 0 none).add (kk*1)) (.int .i64 (L.getD kk 0:Nat)):=by
      rw[Nat.mul_one];exact J3 (b:=N) (e:=3) (vs:=ZX L) (Y.mem _ S1) kk _ (Td (by rw[bm.len];exact c3.1))
     have az:=Bk.afK_in (out:=o.testBit) (w:=L.getD kk 0) (j:=k) a1
     conv=>whnf
     refine KL (b:=mb) (k:=((k:Nat):Int)) (l:=Jt (K h.cl)) Pq VC HO rfl rfl (.inr (Y.mem _ S1)) ?_;rw[c4];refine⟨⟨N,0,none⟩,kk,⟨rfl,rfl,c3.1⟩,_,ea,O1,?_⟩
     repeat refine⟨rfl,?_⟩
     conv=>whnf
     apply Qe<;>intro hc
     .have hb1:(L.getD kk 0).testBit k=true:=a4.symm.trans hc;rw[hb1,if_pos rfl]at az
      have d8:q<(Bk.mk b.rs (b.woL (K h.cl) λ p=>if p=q then Bk.afK o.testBit (L.getD kk 0) k else if p∈seen then G p else[])).cs.length:=by
       show q<(b.woL _ _).length;rw[Bk.woL_len];exact hql
      have er:(Bk.mk b.rs (b.woL (K h.cl) λ p=>if p=q then Bk.afK o.testBit (L.getD kk 0) k else if p∈seen then G p else[])).cas q={ b.cas ((K h.cl).getD q 0)with af:=Bk.afK o.testBit (L.getD kk 0) k }:=by
       rw[Bk.cas_at (Bk.woL_at hql),if_pos rfl]
      obtain⟨a0,l0,c0,kF,cb,cc,rest,au⟩:=Y.openC d8;have bs:=au.acc;rw[er]at bs;have fv:=au.acc.src;have ez:=Bk.afK_len (out:=o.testBit) (L.getD kk 0) k
      let bd:=rest++(.obj it (J2 mb (Jt (K h.cl)).length (seen.push q))::WD mb z N V (.slice ra rl rc) (.slice sa sl sc) (Jt (K h.cl)) L U.M)
      let Us:Qa T:={ U8 with M:=kF++(.obj cb (.cells cc.toList.toArray 46 (0,0))::bd) }
      let Ub:Qa T:={ U8 with M:=.obj cb (.cells cc.toList.toArray 46 (0,0))::bd }
      have dj:Ub.lg Us:=⟨λ _ _ h=>h,⟨kF,rfl⟩,rfl⟩;have fq:(some ⟨cb,0,none⟩:Option Addr)=sa:=au.ca.symm;have d9:q<sl:=au.lt;have bx:Ju Ub ⟨z,0,none⟩ [.slice ra rl rc,.slice sa sl sc]:=J3 (e:=25) (by show _∈_::bd;simp[bd])
      have e7:Ub.sees (((Addr.mk cb 0 none).add (q*4)).add 3) (.slice a0 l0 c0):=by
       have:=J3 (U:=Ub) (b:=cb) (e:=46) (vs:=cc.toList) (by show _∈_::bd;simp) (q*4+3) _ au.at3;rw[Qu]at this;rw[Qu,Qu,Nat.add_assoc];exact this
      conv=>whnf
      intro fo bu;refine LH (Hf au.pm) ?_
      refine Uv (mu:=[1039]) (ops:=PN Tryz.f57 39) (id:=39) (U:=Us) bu Ub dj [10,11] [[0,1,2,3,4,5,6,7,8,9,10,11]] [12,13,14] Se RZ Qd K1 K1 K1 K1 K1
       (λ f' db U'=>db=[]/\∃(va:Option Addr)(vl vc:Nat)(F':List Q2),XH f' [(2,.pb B),(4,.pb V),(5,.slice (some ⟨N,0,none⟩) h.cl h.cl),(10,.pb z),(11,.map (some mb)),(14,.int .i64 kk),(15,.int .i64 q),(122,.pb it),(131,.int .i64 h.cl),(132,.int .i64 k),(153,.slice sa sl sc),(154,.int .i64 q),(163,.slice va vl vc)]/\Jx 3 1 (.slice va vl vc) ((Bk.afK o.testBit (L.getD kk 0) (k+1)).map λ n=>.int .i64 n) F'/\U8.frz.lg U'/\U'.M=F'++(.obj cb (.cells cc.toList.toArray 46 (0,0))::bd)) ?_ ?_
      .intro l hl;simp only[Se,mem_cons,not_mem_nil,or_false]at hl;subst hl;refine⟨_,bx.cell (i:=1) rfl,_,bx.cell (i:=1) rfl,⟨cb,0,none⟩,q,⟨au.ca,rfl,d9⟩,_,e7,λ v U'=>∃ae,v=.slice (some ⟨ae,0,none⟩) 1 1/\Zo U' ae #[.int .i64 ((K k).length:Nat)]/\Us.le U',λ v U1 U2⟨ae,e1,hb,hl⟩am=>⟨ae,e1,hb.le am,hl.trans am⟩,λ v U'⟨ae,e1,hb,hl⟩=>dj.trans hl.lg,λ U' hC=>?_,λ v hv=>?_⟩
       .have am:=hC
        conv=>whnf
        intro ae c2;exact Zm c2 λ U3 aq hb=>⟨U3,.refl _,ae,rfl,hb,Qa.le.trans am aq⟩
       obtain⟨_,ae,rfl,-⟩:=hv;refine⟨λ v U'=>∃(F':List Q2),(∃va vl vc,v=.slice va vl vc)/\Jx 3 1 v ((Bk.afK o.testBit (L.getD kk 0) (k+1)).map λ n=>.int .i64 n) F'/\U8.frz.lg U'/\U'.M=F'++(.obj cb (.cells cc.toList.toArray 46 (0,0))::bd),λ v U1 U2⟨F',hs,h1,h2,h3⟩am=>⟨F',hs,h1,h2.trans am.lg,am.own.trans h3⟩,λ v U'⟨F',hs,h1,h2,h3⟩=>⟨h2.imm,⟨F',h3⟩,h2.tok⟩,λ U' hC=>?_,λ v hv=>?_⟩
       .obtain⟨b162',e1,hb162,am⟩:=hC;cases e1
        conv=>whnf
        refine Wv (v:=.slice a0 l0 c0) (cs:=(Bk.afK o.testBit (L.getD kk 0) k).map λ n=>.int .i64 n) (new:=[.int .i64 ((K k).length:Nat)]) (M₀:=.obj cb (.cells cc.toList.toArray 46 (0,0))::bd) Hc rfl rfl (by rw[am.own];exact bs _) (.inr ⟨_,rfl,hb162.rd⟩) rfl (by simp[Value.single]) (by rw[length_map,length_cons,length_nil];omega) λ v' M' cx _=>?_;obtain⟨F',cq,b2⟩:=cx.split;refine⟨_,.refl _,F',?_,by rw[az];simpa using b2,⟨λ x q H=>am.imm x q H,Zz3,am.tok⟩,cq⟩;obtain⟨ta,tl,tc,e2,-⟩:=b2.src;exact⟨ta,tl,tc,e2⟩
       obtain⟨_,F',⟨va,vl,vc,rfl⟩,-⟩:=hv
       conv=>whnf
       rintro U'⟨ei,-,h1,h2,h3⟩;exact⟨rfl,va,vl,vc,ei,T1,h1,h2,h3⟩
      rintro f' db U9⟨rfl,va,vl,vc,F',dw,b2,ey,em⟩;rw[<- dw.ovr];clear dw;refine⟨⟨cb,0,none⟩,q,⟨au.ca,rfl,d9⟩,rfl,?_⟩;rw[show((Addr.mk cb 0 none).add (q*4)).add 3=(Addr.mk cb 0 none).add (q*4+3) by rw[Qu,Qu,Qu,Nat.add_assoc]];refine WS (i:=q*4+3) (v:=.slice va vl vc) F' em (by simpa using au.sz) rfl λ Ua cp c8 ct=>?_;have b0:U8.frz.lg Ua.frz:=ey.frz2.trans ⟨λ x q H=>by show Ua.I x=_;rw[cp];exact H,⟨[],rfl⟩,c8⟩;have e3:=Bk.afK_len (out:=o.testBit) (L.getD kk 0) (k+1);have bf:=au.back Ua (.slice va vl vc) F' (Bk.afK o.testBit (L.getD kk 0) (k+1)) (.obj it (J2 mb (Jt (K h.cl)).length (seen.push q))::WD mb z N V (.slice ra rl rc) (.slice sa sl sc) (Jt (K h.cl)) L U.M) b0 b2 O1 (by rw[ct]);rw[Bk.woL_set hql]at bf;rw[Bk.woL_congr (b:=b) (g':=λ p=>if p=q then Bk.afK o.testBit (L.getD kk 0) (k+1)else if p∈seen then G p else[]) λ p _=>by by_cases e:p=q <;> simp[e]]at bf
      conv=>whnf
      intro a' b3;refine⟨by rw[b3.size,bu.size],_,b3.get,?_⟩;rw[b3.ds];clear b3 bu;refine⟨ak,?_⟩
      conv=>whnf
      exact⟨rfl,k+1,T1,⟨⟨λ x q H=>b0.imm x q (ah.imm x q H),Zz3,b0.tok.trans ah.tok⟩,O1,bf⟩,L1⟩
     .have hb1:(L.getD kk 0).testBit k=false:=a4.symm.trans hc;rw[hb1,if_neg S1,append_nil]at az;refine⟨ak,?_⟩
      conv=>whnf
      exact⟨rfl,k+1,T1,⟨ah,O1,by rw[az];exact Y⟩,L1⟩
   .have aj:k=h.cl:=by simp at hc;omega
    subst aj;rw[Bk.woL_congr (b:=b) (g':=λ p=>if p∈seen.push q then G p else[]) λ p hp=>?_]at Y
    .conv=>whnf
     exact⟨rfl,seen.push q,T1,⟨⟨λ x q H=>ah.imm x q (a7.imm x q H),Zz3,ah.tok.trans a7.tok⟩,Y,cj,bw⟩,dr⟩
    .by_cases e:p=q
     .subst e;rw[if_pos rfl,if_pos S1];show _=Bk.afK o.testBit (L.getD ((K h.cl).getD p 0) 0) h.cl;rw[dz]
     .rw[if_neg e];by_cases hs:p∈seen
      .rw[if_pos hs,if_pos (by simp[hs])]
      .rw[if_neg hs,if_neg (by simp[hs,e])]
 refine eh.okv λ v U' hw⟨⟨h',Z,hv,d5⟩,hI,ht⟩=>?_
 have d0:(b.wo o.testBit).cs.length<=1000:=by
  show((b.kept o.testBit).map _).length<=_;rw[length_map];exact Nat.le_trans (Bk.kpt_len (out:=o.testBit) b.cs.length) O1
 obtain⟨U'',k1,k2,k3,k4⟩:=d5.freeze hw d0;exact⟨{ U'' with M:=U.M },k1.trans (Z2 (by rw[k2];exact sublist_append_right ..)),⟨h',hv,k4,d5.rc⟩,⟨λ x q H=>k3.imm x q (hI x q H),rfl,k3.tok.trans ht⟩⟩
end
def WU(x:List Int):Nat:=Ja (x.map Int.toNat)
def Bk.every(b:Bk):List Int:=(range b.cs.length).map λ(k:Nat)=>(k:Int)
def Bk.wdP(b:Bk)(r:Nat)(x:List Int):Bool:=(b.wo (WU x).testBit).fatR r==1
def Bk.wdL(b:Bk)(r:Nat):List Int:=(WR b.every (b.wdP r) 0 (b.cs.length+1)).getD []
def Bk.wdF(b:Bk)(r:Int):List Int:=if b.askF r=0 then b.wdL r.toNat else[]
def Ec(h:b.cs.length<=5)(f:l.Sublist b.every):(∀n∈l,0<=n/\n<60)/\l.length<=5/\WU l<2^60:=by
 have e:∀n∈l,0<=n/\n<60:=λ n w=>by
  have:=f.subset w;simp only[Bk.every,mem_map,mem_range]at this;obtain⟨k,z,rfl⟩:=this;omega
 refine⟨e,?_,Hi (toNat_lt e)⟩;have:=f.length_le;simp[Bk.every]at this;omega
section
attribute [local irreducible] Qb Zr W5
def Co(h:BH)(b:Bk)(L:Zu U.frz h b)(F:b.Ok)(r:Nat)(hr:r<b.rs.length)(E:Zo U m #[.slice h.ra h.rl h.rc,.slice h.ca h.cl h.cc])(B:Zo U p #[.int .i64 r]) :
  On S 56 #[] #[.pb m,.pb p] (b.wdP r) b.every U:=by
 rintro q a cap W hq⟨X,V,hI,rfl⟩I;obtain⟨Q,q5,qo⟩:=Ec F.nc hq;have z:U.lg (⟨V,X++U.M,U.tok⟩:Qa T):=⟨hI,⟨X,rfl⟩,rfl⟩;generalize(⟨V,X++U.M,U.tok⟩:Qa T)=W at I z;refine Qb.pure' (Qb.of (args:=[_,_,_]) Dz Qd S1 ?_);have E:=E.lg z;have B:=B.lg z;refine⟨_,⟨rfl,E.rd⟩,?_⟩;refine⟨.int .i64 (WU q:Nat),λ U' f _=>?_,?_⟩
 .refine⟨XW.any,(Jf a q.length cap q (I.lg (Qy.trans f.lg)) O1 Q).mono ?_⟩;rintro _ U''⟨rfl,hU⟩-;exact⟨rfl,_,.refl _,hU▸.refl _⟩
 refine⟨_,B.sees3 (o:=0) rfl,λ v U'=>∃w:BH,v=w.v/\Zu U'.frz w (b.wo (WU q).testBit),λ v W U2⟨w,e,L⟩f=>⟨w,e,L.lg f.lg.frz2⟩,λ U' f _=>?_,λ v hv=>?_⟩
 .refine⟨YF.any,(TR h b (L.lg (z.frz2.trans f.lg.frz2)) F (WU q) qo).mono ?_⟩;rintro v U''⟨⟨w,e,N,-⟩,H⟩-;exact⟨U'',.refl _,⟨w,e,N⟩,H⟩
 obtain⟨_,-,-,w,rfl,-⟩:=hv
 conv=>whnf
 intro U2 K hC;obtain⟨-,G,e,P⟩:=hC;have e':=Value.agg.inj e
 obtain rfl:w=G:=by
  obtain⟨x1,x2,x3,x4,x5,x6⟩:=w;obtain⟨y1,y2,y3,y4,y5,y6⟩:=G;simp at e';simp[e']
 refine⟨Gm.any,(Vc w _ P (F.wo _) r hr).go λ _=>?_⟩
 repeat refine⟨rfl,?_⟩
 conv=>whnf
 exact K.lg
def Ns(h:BH)(b:Bk)(Y:Zu U.frz h b)(hk:JU U)(r:Int):Qb S 21 #[h.v,.int .i64 r] (λ v U'=>(∃E,v=.tuple #[E,.int .i64 (b.askF r)]/\JW U'.frz E (b.wdF r))/\U.le U') U:=by
 refine Qb.grown (R:=λ v U'=>∃E,v=.tuple #[E,.int .i64 (b.askF r)]/\JW U' E (b.wdF r)) (λ v W X hl⟨E,e,h1⟩=>⟨E,e,h1.lg hl⟩) (Qb.of (args:=[_,_]) Dv Qd S1 ?_);have Q:=Y.cs.1
 repeat refine⟨rfl,?_⟩
 conv=>whnf
 intro B W aa K;have K:=Zz4 h K
 conv=>whnf
 intro b3 X P z;have z:Zo X b3 #[.int .i64 r]:=z;have K:=K.le P;have w:=aa.trans P;refine⟨_,⟨rfl,K.rd⟩,?_⟩;refine⟨_,z.sees3 (o:=0) rfl,Pp.any,(Va h b (Y.lg w.lg.frz2) (hk.lg w.lg) r).go λ _=>?_⟩
 conv=>whnf
 intro b6 T;refine⟨_,.refl _,?_⟩;by_cases L:b.askF r=0
 .obtain⟨hok,hr0,hr1⟩:=Bk.askF_ok L;obtain⟨q,rfl⟩:=Int.eq_ofNat_of_zero_le hr0;have hq:q<b.rs.length:=by unfold Bk.nr at hr1;omega
  have ae:=hok.nc;have N:b.wdF (q:Int)=b.wdL q:=by unfold Bk.wdF;rw[if_pos L,Int.toNat_natCast]
  rw[if_pos L,L,N];refine⟨rfl,Zy (vs:=[.slice h.ra h.rl h.rc,.slice h.ca h.cl h.cc]) T rfl (by simp[Value.single]) λ Z F G=>?_⟩;have G:=Zz4 h G;have z:=z.le F;have K:=K.le F;have I:=w.trans F
  repeat refine⟨rfl,?_⟩
  refine⟨_,⟨rfl,G.rd⟩,?_⟩;refine⟨_,K.sees3 (o:=1) rfl,λ v U'=>J1 U'.frz v b.every,λ v W X V f=>V.lg f.lg.frz2,λ U' f _=>?_,λ v M=>?_⟩
  .refine⟨YE.any,(TZ h b (Y.lg (I.lg.frz2.trans f.lg.frz2)) O1).mono ?_⟩;rintro v U''⟨M,H⟩-;exact⟨U'',.refl _,M,H⟩
  obtain⟨_,-,-,ea,ec,rfl,-⟩:=M;have ac:b.every.length=h.cl:=by simp[Bk.every,Q]
  refine⟨λ v U'=>∃E,v=.tuple #[E,.bool (WR b.every (b.wdP q) 0 (b.cs.length+1)).isSome]/\JW U'.frz E (b.wdL q),λ v W X⟨E,e,V⟩f=>⟨E,e,V.lg f.lg.frz2⟩,λ U' f hC=>?_,λ v M=>?_⟩
  .obtain⟨-,ea',ec',e1,hei⟩:=hC;cases e1;have hz:Z.frz.lg U'.frz:=f.lg.frz2;have hl:=S0 (S:=S) (U:=U') b.every ea ec (Sb hei) (by rw[ac];omega) b.cs.length O1 56 #[] #[.pb b6,.pb b3] Dz.any (b.wdP q) (Co h b (Y.lg (I.lg.frz2.trans hz)) hok q hq (G.le f) (z.le f))
   conv=>whnf
   rw[<- Q];refine⟨YD.any,hl.mono ?_⟩;rintro v U''⟨M,H⟩-;exact⟨U'',.refl _,M,H⟩
  obtain⟨_,-,-,E,rfl,wa,wc,rfl,-⟩:=M
  conv=>whnf
  intro U4 ab hC;obtain⟨-,ad,e1,V⟩:=hC
  obtain⟨e2,-⟩:(Value.slice wa (b.wdL q).length wc=ad)/\True:=by
   have:=Value.tuple.inj e1;simp at this;exact⟨this,trivial⟩
  subst e2
  repeat refine⟨rfl,?_⟩
  conv=>whnf
  exact⟨⟨_,rfl,V⟩,(I.trans ab).lg⟩
 .have N:b.wdF r=[]:=by unfold Bk.wdF;rw[if_neg L]
  rw[if_neg L,N];refine⟨rfl,Zy (vs:=[.nl,.nl]) T rfl (by simp[Value.single]) λ Z F G=>?_⟩
  repeat refine⟨rfl,?_⟩
  conv=>whnf
  apply Qe<;>intro hc
  .repeat refine⟨rfl,?_⟩
   conv=>whnf
   exact⟨⟨_,rfl,.nil⟩,(w.trans F).lg⟩
  .exact absurd (by simpa using hc) L
def Nz(h:BH)(b:Bk)(B:Zu U.frz h b)(E:JU U)(r:Int):Qb S 21 #[h.v,.int .i64 r] (λ v U'=>(∃f,v=.tuple #[f,.int .i64 (b.askF r)]/\J1 U'.frz f (b.wdF r))/\U.le U') U:=
 (Ns h b B E r).mono λ v U'⟨⟨f,e,w⟩,z⟩=>⟨⟨f,e,w.v⟩,z⟩
end
def Bk.dcS(b:Bk)(r d:Nat):Int:=(b.wo d.testBit).fatR r
def Bk.dcP(b:Bk)(r:Nat)(x:List Int):Bool:=(range (2^b.cs.length)).all λ d=>!(d&&&WU x==0&&b.dcS r d != b.dcS r 0)
def Bk.dcL(b:Bk)(r:Nat):List Int:=(WR b.every (b.dcP r) 0 (b.cs.length+1)).getD []
def Bk.dcF(b:Bk)(r:Int):List Int:=if b.askF r=0 then b.dcL r.toNat else[]
def Bk.dcM(b:Bk)(r m:Nat):List (Int×Value):=JL m (λ d=>(d:Nat)) λ d=>.int .i64 (b.dcS r d)
def Bk.dcM_succ(b:Bk)(r m:Nat):ups ((m:Nat):Int) (.int .i64 (b.dcS r m)) (b.dcM r m)=b.dcM r (m+1):=by
 unfold Bk.dcM
 rw[(KG (m:=m) (k:=((m:Nat):Int)) (ky:=λ d=>(d:Nat)) (vl:=λ d=>.int .i64 (b.dcS r d)) λ q f e=>by
  have:=Int.ofNat.inj e;omega).2,Di]
def Bk.dcM_at(b:Bk)(h:p<m):lk ((p:Nat):Int) (b.dcM r m)=some (.int .i64 (b.dcS r p)):=
 Tb (m:=m) (ky:=λ p=>((p:Nat):Int)) (vl:=λ p=>.int .i64 (b.dcS r p)) h λ q r _ _ e=>Int.ofNat.inj e
def Bk.dcM_len(b:Bk)(r m:Nat):(b.dcM r m).length=m:=Eo _ _ _
def Bk.dcM_get(b:Bk)(h:q<m):(b.dcM r m)[q]?=some (((q:Nat):Int),.int .i64 (b.dcS r q)):=YW h
def Er(h:m<=5):2^m<=32:=by
 have:=Nat.pow_le_pow_right (show 0<2 by omega) h;simpa using this
section
attribute [local irreducible] Qb Zr W5
def BT(b:Bk)(ag:b.cs.length<=5)(r:Nat){mb:Nat}(L:Zo U m #[.map (some mb)])(hm:U.has mb (Q0 QY (b.dcM r (2^b.cs.length)))) :
  On S 58 #[] #[.pb m] (b.dcP r) b.every U:=by
 rintro q a cap E hq⟨X,I',hI,rfl⟩ai;obtain⟨am,q5,qo⟩:=Ec ag hq;have ac:U.lg (⟨I',X++U.M,U.tok⟩:Qa T):=⟨hI,⟨X,rfl⟩,rfl⟩;have hm:(⟨I',X++U.M,U.tok⟩:Qa T).has mb (Q0 QY (b.dcM r (2^b.cs.length))):=hm.imp (hI _ _) λ h=>mem_append_right _ h;generalize(⟨I',X++U.M,U.tok⟩:Qa T)=E at ai ac hm;have ao:=Er ag;have ah:0<2^b.cs.length:=Nat.two_pow_pos _;refine Qb.pure' (Qb.of (args:=[_,_]) DA Qd S1 ?_);have L:=L.lg ac;refine⟨_,L.sees3 (o:=0) rfl,?_⟩
 conv=>whnf
 refine Y4 (b:=mb) (enc:=QY) (l:=b.dcM r (2^b.cs.length)) Yc rfl hm λ it an=>?_;rw[Bk.dcM_len];have aj:=Z6 (U:=E) it (J2 mb (2^b.cs.length) #[])
 refine⟨Array Nat,λ _=>[(0,.slice a q.length cap),(1,.pb m),(7,.pb it)],
  λ seen U'=>E.frz.lg U'/\U'.M=.obj it (J2 mb (2^b.cs.length) seen)::E.M/\seen.toList.Nodup/\(∀i∈seen.toList,i<2^b.cs.length)/\∀i∈seen,(!(i&&&WU q==0&&b.dcS r i != b.dcS r 0))=true,λ seen=>2^b.cs.length-seen.size,#[],T1,⟨Qy.trans aj,rfl,S1,S1,S1⟩,?_⟩
 rintro seen f U2⟨z,hM,ak,ad,G⟩;have ae:∀U':Qa T,(∀x o,E.I x=some o->U'.I x=some o)->(∀r∈E.M,r∈U'.M)->U'.has mb (Q0 QY (b.dcM r (2^b.cs.length))):=λ U' Y h2=>hm.imp (Y _ _) (h2 _);have H:∀s,J2 mb (2^b.cs.length) s=J2 mb (b.dcM r (2^b.cs.length)).length s:=λ s=>by rw[Bk.dcM_len]
 conv=>whnf
 refine YR (b:=mb) (r:=it) (seen:=seen) (enc:=QY) (l:=b.dcM r (2^b.cs.length)) (λ o=>.obj it o::E.M) rfl (ae _ z.imm λ r hr=>by rw[hM];exact mem_cons_of_mem _ hr) (λ o=>by rw[hM,H];exact .here) (λ Z=>?_) (λ d p hp al=>?_)
 .have hP:b.dcP r q=true:=by
   unfold Bk.dcP;rw[all_eq_true];intro d hd;rw[mem_range]at hd;exact G d (Z d (by rw[Bk.dcM_len];exact hd))
  rw[hP]
  repeat refine⟨rfl,?_⟩
  conv=>whnf
  exact⟨z.imm,⟨[_],hM⟩,z.tok⟩
 .have hdl:d<2^b.cs.length:=by have:=(List.getElem?_eq_some_iff.1 hp).1;rwa [Bk.dcM_len]at this
  rw[b.dcM_get hdl]at hp;cases hp;have ab:d<2^60:=Nat.lt_of_lt_of_le (by omega:d<32) D1
  have K:(seen.push d).toList.Nodup:=by
   rw[Array.toList_push,nodup_append];refine⟨ak,S1,λ x hx y hy=>?_⟩;rw[mem_singleton.1 hy];rintro rfl;exact al (by simpa using hx)
  have B:∀j∈(seen.push d).toList,j<2^b.cs.length:=by
   intro j W;rw[Array.toList_push,mem_append]at W;rcases W with W|W
   .exact ad j W
   .rw[mem_singleton.1 W];exact hdl
  have Q:2^b.cs.length-(seen.push d).size<2^b.cs.length-seen.size:=by
   have:=Xi K B;rw[Array.length_toList,Array.size_push]at this;rw[Array.size_push];omega
  have e:E.frz.lg ({ U2 with M:=.obj it (J2 mb (b.dcM r (2^b.cs.length)).length (seen.push d))::E.M }:Qa T):=⟨z.imm,Zz3,z.tok⟩;have F:({ U2 with M:=.obj it (J2 mb (b.dcM r (2^b.cs.length)).length (seen.push d))::E.M }:Qa T).M=.obj it (J2 mb (2^b.cs.length) (seen.push d))::E.M:=by rw[H]
  generalize({ U2 with M:=.obj it (J2 mb (b.dcM r (2^b.cs.length)).length (seen.push d))::E.M }:Qa T)=U3 at e F ⊢;have af:=ae U3 e.imm λ r hr=>by rw[F];exact mem_cons_of_mem _ hr
  have aa:=L.imI e.imm;have V:E.lg U3:=⟨e.imm,⟨[_],F⟩,e.tok⟩
  have w:∀h:(!(d&&&WU q==0&&b.dcS r d != b.dcS r 0))=true,∀i∈seen.push d,(!(i&&&WU q==0&&b.dcS r i != b.dcS r 0))=true:=λ h i hi=>by
   rcases Array.mem_push.1 hi with hi|rfl
   .exact G i hi
   .exact h
  have P:(d&&&WU q==0&&b.dcS r d != b.dcS r 0)=true->b.dcP r q=false:=λ h=>by
   cases hh:b.dcP r q with
   |false=>rfl
   |true=>
    unfold Bk.dcP at hh;rw[all_eq_true]at hh;have:=hh d (by simpa using hdl);rw[h]at this;cases this
  repeat refine⟨rfl,?_⟩
  conv=>whnf
  refine Y3 (b:=mb) (r:=it) (seen:=seen) (enc:=QY) (l:=b.dcM r (2^b.cs.length)) rfl af (.inr (by rw[F,H];exact mem_cons_self ..)) (b.dcM_get hdl) ?_;refine⟨XW.any,(Jf a q.length cap q (ai.lg e) O1 am).go λ _=>?_⟩;have hand:=Ks ab qo
  have N:((IntKind.wrap .i64 ((BitVec.ofInt 64 ((d:Nat):Int)&&&BitVec.ofInt 64 ((WU q:Nat):Int)).toNat:Int))==0)=(d&&&WU q==0):=by
   rw[hand,Bool.eq_iff_iff,beq_iff_eq,beq_iff_eq];omega
  repeat refine⟨rfl,?_⟩
  conv=>whnf
  apply Jb<;>intro hc
  .have Y:(d&&&WU q==0)=true:=N.symm.trans hc;rw[Y,Bool.true_and]at P w;refine⟨_,aa.sees3 (o:=0) rfl,?_⟩
   conv=>whnf
   refine KW (b:=mb) (k:=((0:Nat):Int)) (l:=b.dcM r (2^b.cs.length)) Pq Yc Lx rfl rfl af ?_;rw[b.dcM_at ah,Option.getD_some]
   repeat refine⟨rfl,?_⟩
   conv=>whnf
   apply Qe<;>intro hc
   .rw[P hc]
    repeat refine⟨rfl,?_⟩
    conv=>whnf
    exact V
   .have hc':(b.dcS r d != b.dcS r 0)=false:=hc;rw[hc']at w
    conv=>whnf
    exact⟨rfl,seen.push d,T1,⟨e,F,K,B,w rfl⟩,Q⟩
  .have Y:(d&&&WU q==0)=false:=N.symm.trans hc;rw[Y,Bool.false_and]at w
   conv=>whnf
   exact⟨rfl,seen.push d,T1,⟨e,F,K,B,w rfl⟩,Q⟩
def NH(h:BH)(b:Bk)(hb:Zu U.frz h b)(hk:JU U)(r:Int):Qb S 22 #[h.v,.int .i64 r] (λ v U'=>(∃K,v=.tuple #[K,.int .i64 (b.askF r)]/\JW U'.frz K (b.dcF r))/\U.le U') U:=by
 refine Qb.grown (R:=λ v U'=>∃K,v=.tuple #[K,.int .i64 (b.askF r)]/\JW U' K (b.dcF r)) (λ v U1 Y hl⟨K,e,h1⟩=>⟨K,e,h1.lg hl⟩) (Qb.of (args:=[_,_]) Yo Qd S1 ?_);have ab:=hb.cs.1
 repeat refine⟨rfl,?_⟩
 conv=>whnf
 intro B U1 Q hB;have hB:=Zz4 h hB;refine⟨_,⟨rfl,hB.rd⟩,?_⟩;refine⟨Pp.any,(Va h b (hb.lg Q.lg.frz2) (hk.lg Q.lg) r).go λ _=>?_⟩
 conv=>whnf
 intro b6 ad;refine⟨_,.refl _,?_⟩;by_cases hF:b.askF r=0
 .obtain⟨hok,hr0,hr1⟩:=Bk.askF_ok hF;obtain⟨q,rfl⟩:=Int.eq_ofNat_of_zero_le hr0;have hq:q<b.rs.length:=by unfold Bk.nr at hr1;omega
  have ah:=hok.nc;have ap:=Er ah;have ac:b.dcF (q:Int)=b.dcL q:=by unfold Bk.dcF;rw[if_pos hF,Int.toNat_natCast]
  rw[if_pos hF,hF,ac];refine⟨rfl,Zy (vs:=[.slice h.ra h.rl h.rc,.slice h.ca h.cl h.cc]) ad rfl (by simp[Value.single]) λ Y af T=>?_⟩;have T:=Zz4 h T;have hB:=hB.le af;have F:=Q.trans af
  repeat refine⟨rfl,?_⟩
  conv=>whnf
  refine P6 QY λ mb an=>?_
  conv=>whnf
  intro b8 ag;refine⟨_,.refl _,rfl,Zy (vs:=[.map (some mb)]) ag rfl (by simp[Value.single]) λ U3 H ak=>?_⟩
  have ae:U3.M=.obj mb (Q0 QY (b.dcM q 0))::U.M:=by
   rw[H.own];show _::Y.M=_;rw[F.own];rfl
  have G:Y.frz.lg U3:=⟨λ x o X=>H.imm x o X,Zz3,H.tok⟩
  have e1:IntKind.wrap .i64 ((1:Int)*2^(min ((h.cl:Int).toNat) (IntKind.bits .i64)))=((2^b.cs.length:Nat):Int):=by
   rw[ab,<- Nat.one_shiftLeft];exact Ke O1
  clear ad ag an H;refine⟨_,(hB.imI G.imm).sees3 (o:=1) rfl,O1,?_⟩;rw[e1]
  refine⟨Nat,λ m=>[(1,.int .i64 q),(2,.pb B),(6,.pb b6),(8,.pb b8),(25,.int .i64 (2^b.cs.length:Nat)),(26,.int .i64 m)],
   λ m U'=>U3.frz.lg U'/\U'.M=.obj mb (Q0 QY (b.dcM q m))::U.M/\m<=2^b.cs.length,λ m=>2^b.cs.length-m,0,T1,⟨⟨λ _ _ h=>h,Zz3,rfl⟩,ae,Nat.zero_le _⟩,?_⟩
  rintro m f U4⟨N,hM,hm⟩;have am:Je ((m:Int)+1):=I1
  have L:∀x o,Y.I x=some o->U4.I x=some o:=λ x o X=>N.imm x o (G.imm x o X);have Z:=T.imI L;have aa:=ak.imI N.imm;have V:U.frz.lg U4.frz:=⟨λ x o X=>L x o (F.imm x o X),⟨[],rfl⟩,N.tok.trans (G.tok.trans F.tok)⟩
  repeat refine⟨rfl,?_⟩
  conv=>whnf
  apply Qe<;>intro hc
  .have hlt:m<2^b.cs.length:=Int.ofNat_lt.1 (of_decide_eq_true hc);refine⟨_,aa.sees3 (o:=0) rfl,_,⟨rfl,Z.rd⟩,?_⟩;refine⟨λ v U'=>∃P:BH,v=P.v/\Zu U'.frz P (b.wo m.testBit),λ v U1 Y⟨P,e,hb⟩w=>⟨P,e,hb.lg w.lg.frz2⟩,λ U' w _=>?_,λ v W=>?_⟩
   .refine⟨YF.any,(TR h b (hb.lg (V.trans w.lg.frz2)) hok m (Nat.lt_of_lt_of_le (by omega:m<32) D1)).mono ?_⟩;rintro v U''⟨⟨P,e,aj,-⟩,z⟩-;exact⟨U'',.refl _,⟨P,e,aj⟩,z⟩
   obtain⟨_,-,-,P,rfl,-⟩:=W;refine⟨.int .i64 (b.dcS q m),λ U' w hC=>?_,?_⟩
   .obtain⟨-,h'',e,hbw⟩:=hC;have e':=Value.agg.inj e
    obtain rfl:P=h'':=by
     obtain⟨x1,x2,x3,x4,x5,x6⟩:=P;obtain⟨y1,y2,y3,y4,y5,y6⟩:=h'';simp at e';simp[e']
    refine⟨Gm.any,(Vc P _ hbw (hok.wo _) q hq).mono ?_⟩;rintro _ U''⟨rfl,hU⟩-;exact⟨rfl,_,.refl _,hU▸.refl _⟩
   conv=>whnf
   intro U5 E _
   conv=>whnf
   refine KB (b:=mb) (k:=((m:Nat):Int)) (l:=b.dcM q m) (v:=.int .i64 (b.dcS q m)) (M':=.obj mb (Q0 QY (b.dcM q (m+1)))::U.M) Pq Yc rfl rfl rfl (by rw[E.own,hM,b.dcM_succ];exact .here) ?_;refine⟨am,?_⟩
   conv=>whnf
   exact⟨rfl,m+1,T1,⟨⟨λ x o X=>E.imm x o (N.imm x o X),Zz3,E.tok.trans N.tok⟩,rfl,O1⟩,L1⟩
  .have hge:m=2^b.cs.length:=Nat.le_antisymm hm (Nat.le_of_not_lt λ h=>absurd (Int.ofNat_lt.2 h) (of_decide_eq_false hc));subst hge;have ai:=hB.imI L;refine⟨_,⟨rfl,Z.rd⟩,?_⟩;refine⟨_,ai.sees3 (o:=1) rfl,λ v U'=>J1 U'.frz v b.every,λ v U1 Y hi w=>hi.lg w.lg.frz2,λ U' w _=>?_,λ v W=>?_⟩
   .refine⟨YE.any,(TZ h b (hb.lg (V.trans w.lg.frz2)) O1).mono ?_⟩;rintro v U''⟨W,z⟩-;exact⟨U'',.refl _,W,z⟩
   obtain⟨_,-,-,ea,ec,rfl,-⟩:=W;have al:b.every.length=h.cl:=by simp[Bk.every,ab]
   refine⟨λ v U'=>∃K,v=.tuple #[K,.bool (WR b.every (b.dcP q) 0 (b.cs.length+1)).isSome]/\JW U'.frz K (b.dcL q),λ v U1 Y⟨K,e,hi⟩w=>⟨K,e,hi.lg w.lg.frz2⟩,λ U' w hC=>?_,λ v W=>?_⟩
   .obtain⟨-,ea',ec',e1,hei⟩:=hC;cases e1;have hl:=S0 (S:=S) (U:=U') b.every ea ec (Sb hei) (by rw[al];omega) b.cs.length O1 58 #[] #[.pb b8] DA.any (b.dcP q) (BT b ah q (aa.le w) (.inr (by rw[w.own,hM];exact mem_cons_self ..)))
    conv=>whnf
    rw[<- ab];refine⟨YD.any,hl.mono ?_⟩;rintro v U''⟨W,z⟩-;exact⟨U'',.refl _,W,z⟩
   obtain⟨_,-,-,K,rfl,wa,wc,rfl,-⟩:=W
   conv=>whnf
   intro U5 E hC;obtain⟨-,ao,e1,hi⟩:=hC
   obtain⟨e2,-⟩:(Value.slice wa (b.dcL q).length wc=ao)/\True:=by
    have:=Value.tuple.inj e1;simp at this;exact⟨this,trivial⟩
   subst e2
   repeat refine⟨rfl,?_⟩
   refine⟨⟨_,rfl,hi⟩,⟨λ x o X=>E.imm x o (V.imm x o X),⟨[_],E.own.trans hM⟩,E.tok.trans V.tok⟩⟩
 .have ac:b.dcF r=[]:=by unfold Bk.dcF;rw[if_neg hF]
  rw[if_neg hF,ac];refine⟨rfl,Zy (vs:=[.nl,.nl]) ad rfl (by simp[Value.single]) λ U3 H T=>?_⟩
  repeat refine⟨rfl,?_⟩
  conv=>whnf
  apply Qe<;>intro hc
  .repeat refine⟨rfl,?_⟩
   conv=>whnf
   exact⟨⟨_,rfl,.nil⟩,(Q.trans H).lg⟩
  .exact absurd (by simpa using hc) hF
def TJ(h:BH)(b:Bk)(B:Zu U.frz h b)(E:JU U)(r:Int):Qb S 22 #[h.v,.int .i64 r] (λ v U'=>(∃f,v=.tuple #[f,.int .i64 (b.askF r)]/\J1 U'.frz f (b.dcF r))/\U.le U') U:=
 (NH h b B E r).mono λ v U'⟨⟨f,e,w⟩,z⟩=>⟨⟨f,e,w.v⟩,z⟩
end
variable{s:Int×Int}
def T5{n:Int}:∀{l:List Int},l.Pairwise (· < ·)->n∉l->(ZI n l).Pairwise (· < ·)
 |[],_,_=>by simp[ZI]
 |y::l,h,z=>by
  obtain⟨w,B⟩:=pairwise_cons.1 h;unfold ZI;split
  .refine pairwise_cons.2 ⟨λ x f=>?_,T5 B λ E=>z (by simp[E])⟩;rcases(Ps n x l).1 f with rfl|f
   .assumption
   .exact w x f
  .rename_i hge;have F:n≠y:=λ e=>z (by simp[e]);refine pairwise_cons.2 ⟨λ x f=>?_,h⟩;rcases mem_cons.1 f with rfl|f
   .omega
   .have:=w x f;omega
structure Bk.Ok1(b:Bk):Prop where
 nr:b.rs.length<=6
 nc:b.cs.length<=5
 ag:∀c∈b.cs,0<=c.ag/\c.ag<b.nr
 gl:∀c∈b.cs,c.gs.length<=3
 gs:∀c∈b.cs,∀g∈c.gs,g.length<=3/\∀n∈g,0<=n/\n<b.nr
 ri:∀c∈b.cs,c.af.Pairwise (· < ·)
 af:∀c∈b.cs,∀n∈c.af,0<=n/\n<b.nc
def Bk.Ok.ok1(h:b.Ok):b.Ok1:=⟨h.nr,h.nc,h.ag,h.gl,h.gs,λ _ e=>(h.asc e).2,h.af⟩
def Bk.Ok1.ok(h:b.Ok1)(w:W4 b.A=false):b.Ok:=
 ⟨h.nr,h.nc,h.ag,h.gl,h.gs,λ c f=>O9 (h.ri c f) (h.af c f) (λ m e=>by cases e),h.af,w⟩
def Bk.Ok1.low(h:b.Ok1):b.Low:=⟨h.nc,h.af⟩
structure Bk.Fr(b:Bk)(s:Int×Int):Prop where
 c0:0<=s.1
 cl:s.1.toNat<b.cs.length
 u0:0<=s.2
 ul:s.2<b.nc
 no:s.2∉(b.cas s.1.toNat).af
def Bk.sty_cs(b:Bk)(s:Int×Int)(h:j∈(b.sty s).cs):j∈b.cs\/j={ b.cas s.1.toNat with af:=ZI s.2 (b.cas s.1.toNat).af }:=mem_or_eq_of_mem_set h
def Bk.Ok1.sty{b:Bk}(h:b.Ok1){s:Int×Int}(z:b.Fr s):(b.sty s).Ok1:=by
 have f:=Bk.cas_mem z.cl;have w:(b.sty s).nc=b.nc:=by unfold Bk.nc;rw[b.sty_len]
 refine⟨h.nr,by rw[b.sty_len];exact h.nc,λ c e=>?_,λ c e=>?_,λ c e=>?_,λ c e=>?_,λ c e=>?_⟩ <;> rcases b.sty_cs s e with e|rfl
 .exact h.ag c e
 .exact h.ag (b.cas s.1.toNat) f
 .exact h.gl c e
 .exact h.gl (b.cas s.1.toNat) f
 .exact h.gs c e
 .exact h.gs (b.cas s.1.toNat) f
 .exact h.ri c e
 .exact T5 (h.ri _ f) z.no
 .rw[w];exact h.af c e
 .rw[w];intro n B;rcases(Ps s.2 n _).1 B with rfl|B
  .exact⟨z.u0,z.ul⟩
  .exact h.af _ f n B
def Bk.Fr.sty{b:Bk}{s f:Int×Int}(B:b.Fr s)(h:b.Fr f)(z:f≠s):(b.sty s).Fr f:=by
 refine⟨h.c0,by rw[b.sty_len];exact h.cl,h.u0,by unfold Bk.nc;rw[b.sty_len];exact h.ul,?_⟩;by_cases e:s.1.toNat=f.1.toNat
 .have e2:f.1=s.1:=by have:=B.c0;have:=h.c0;omega
  have:(b.sty s).cas f.1.toNat={ b.cas s.1.toNat with af:=ZI s.2 (b.cas s.1.toNat).af }:=by
   refine Bk.cas_at ?_;show(b.cs.set s.1.toNat _)[f.1.toNat]?=_;rw[getElem?_set,if_pos e,if_pos B.cl]
  rw[this];intro w;rcases(Ps s.2 f.2 _).1 w with E|w
  .exact z (Prod.ext e2 E)
  .exact h.no (by rw[<- e];exact w)
 .have:(b.sty s).cas f.1.toNat=b.cas f.1.toNat:=by
   show(b.cs.set s.1.toNat _).getD f.1.toNat default=_;rw[getD_eq_getElem?_getD,getElem?_set,if_neg e,<- getD_eq_getElem?_getD];rfl
  rw[this];exact h.no
def Bk.Ok1.stys{b:Bk}(h:b.Ok1):∀{l:List (Int×Int)},(∀s∈l,b.Fr s)->l.Nodup->(b.stys l).Ok1:=by
 intro l
 induction l generalizing b with
 |nil=>exact λ _ _=>h
 |cons s l F=>
  intro w E;obtain⟨z,B⟩:=nodup_cons.1 E;exact F (b:=b.sty s) (h.sty (w s S1)) (λ G f=>(w s S1).sty (w G (by simp[f])) λ e=>z (e▸f)) B
def Bk.stys_rs(b:Bk)(l:List (Int×Int)):(b.stys l).rs=b.rs:=by
 induction l generalizing b with
 |nil=>rfl
 |cons s l e=>exact e (b.sty s)
def Bk.cans_fr(h:s∈b.cans):b.Fr s:=by
 simp only[Bk.cans,mem_flatMap,mem_range,mem_map,mem_filter,Bool.and_eq_true,Bool.not_eq_true',contains_eq_mem,decide_eq_false_iff_not]at h;obtain⟨i,f,k,⟨w,-,e⟩,rfl⟩:=h;exact⟨S1,by simpa using f,S1,by unfold Bk.nc;simp only;omega,by simpa using e⟩
def Bk.good(b:Bk)(r:Nat)(w:Int)(l:List (Int×Int)):Bool:=!W4 (b.stys l).A&&(b.stys l).fatR r==w
section
attribute [local irreducible] Qb Zr W5
def NL(h:BH)(b:Bk)(G:Zu U.frz h b)(e:b.Ok)(l:List (Int×Int))(a:Option Addr)(c:Nat)(H:Zd U a l.length 2 l (λ x vs=>vs=encII x))(w:l.length<=6)(f:∀s∈l,b.Fr s) :
  Qb S 64 #[h.v,.slice a l.length c] (λ v U'=>(∃z:BH,v=z.v/\Zu U'.frz z (b.stys l))/\U.le U') U:=by
 have I:=e.nc;refine(NW h b G e.sml l a c H w e.srt λ s B=>⟨(f s B).c0,(f s B).cl⟩).okv λ v U' N⟨⟨z,M,K⟩,F,L⟩=>?_;obtain⟨U'',Q,T,E,V⟩:=K.freeze N (by rw[Bk.stys_len];omega);exact⟨U'',Q,⟨z,M,V⟩,⟨λ x q P=>E.imm x q (F x q P),T,E.tok.trans L⟩⟩
