/- Lemmas. No conditions. -/
import Derived.Test.YtnjljnhoaafkiaaGreatDoorB37
import Derived.Test.YtnjljnhoaafkiaaGreatDoorB34
import Derived.Test.YtnjljnhoaafkiaaGreatDoorB04
import Derived.Test.YtnjljnhoaafkiaaGreatDoorB30
set_option linter.all false
open List
open Go.Proofs.Tryz (prog)
set_option maxRecDepth 100000
namespace Go.TM
variable{T:Type}{P:Program}{S:Sys P T}{U U':Qa T}
def WK{α:Type}(l:List α)(p:List α->Bool):Nat->Nat->Option (List α)
 |_,0=>none
 |m,n+1=>match(TM.parts l m).find? p with
  |some x=>some x
  |none=>WK l p (m+1) n
def Nm{α:Type}(l:List α)(p:List α->Bool)(m n:Nat):WK l p m (n+1)=match(TM.parts l m).find? p with
  |some x=>some x
  |none=>WK l p (m+1) n:=rfl
end Go.TM
namespace Go.Proofs
open Go.TM
variable{T:Type}{S:TM.Sys prog T}{U:Qa T}
attribute [local irreducible] Qb Zm Wo
def qN(l:List (Int×Int))(la:Option Addr)(lc:Nat)(Q:Q7 U.frz la l.length 2 l (λ x vs=>vs=encII x))(hl:l.length<=1000)(f:Nat)(hm:f<=1000)(g:FuncId)(first z:Array Value)(hg:(prog.funcs[g]?.any λ fd=>fd.body.isSome&&fd.name != "runtime.NumGoroutine")=true){I:Nat->Qa T->Prop}{E:Qa T->Prop}
  (Z:∀k U1 U2,U1.le U2->I k U1->I k U2) (ae:Gx S g first z encII 2 (TM.parts l f) I E U) (hI:I 0 U) :
  Qb S 88 #[.agg #[.slice la l.length lc],.int .i64 f,.func (.func g) first z] (λ v U'=>(v=.bool false/\U.frz.lg U'.frz/\I (TM.parts l f).length U')\/(v=.bool true/\E U'/\∀x o,U.I x=some o->U'.I x=some o)) U:=by
 refine Qb.post (R:=λ v U'=>(v=.bool false/\U.frz.lg U'.frz/\I (TM.parts l f).length U')\/(v=.bool true/\∃X' w,U'.M=X'++w/\E ⟨U'.I,w,U'.tok⟩/\∀x o,U.I x=some o->U'.I x=some o)) (Qb.of (args:=[_,_,_]) UZ Qe S1 ?_) λ v U' hv=>?_
 .conv=>whnf
  intro b3 U1 ab L;have L:Zi U1 b3 #[.slice la l.length lc]:=L
  conv=>whnf
  intro b4 U2 V N;have N:Zi U2 b4 #[.int .i64 f]:=N
  conv=>whnf
  intro b5 U3 K P;have P:Zi U3 b5 #[.func (.func g) first z]:=P
  conv=>whnf
  intro b7 ad;refine⟨_,.refl _,rfl,Zv (vs:=[.func (.func 113) #[] #[.pointer (some ⟨b4,0,none⟩),.pointer (some ⟨b5,0,none⟩),.pointer (some ⟨b3,0,none⟩),.pointer (some ⟨b7,0,none⟩)]]) ad rfl (by simp[Value.single]) λ U4 G X=>?_⟩;have F:=((ab.trans V).trans K).trans G;have ac:GP U4 l f g first z b4 b5 b3 b7:=⟨N.le (K.trans G),P.le G,⟨la,lc,L.le ((V.trans K).trans G),Q.lg F.lg.frz2 λ _ _ h=>h⟩,X⟩
  refine⟨_,X.sees3 (o:=0) rfl,VV.any,(zi l hl f hm g first z hg Z ae f [] 0 0 (.slice none 0 0) U4 [] U4.M S1 O1 F.lg.frz2 ac .nil (λ i' q hq=>by rw[Nat.zero_add];exact hq) (Z 0 U U4 F hI)).mono ?_⟩;rintro v U5 (⟨rfl,Y,w,W,H⟩|⟨rfl,X',w,aa,hE,B⟩) -
  .rcases W with⟨_,_,hM⟩|⟨b,c,len,cap,e1,_⟩
   .rw[Nat.zero_add]at H
    repeat refine⟨rfl,?_⟩
    conv=>whnf
    refine .inl ⟨rfl,F.lg.frz2.trans Y,?_⟩;have:U5.M=w:=hM;obtain⟨i5,m5,t5⟩:=U5;simp only at this;subst this;exact H
   .cases e1
  .repeat refine⟨rfl,?_⟩
   conv=>whnf
   exact .inr ⟨rfl,X',w,aa,hE,λ x o hx=>B x o (F.imm x o hx)⟩
 .rcases hv with h|⟨rfl,X',w,hM,hE,B⟩
  .exact⟨U',.refl _,.inl h⟩
  .exact⟨{ U' with M:=w },Zx (by rw[hM];exact sublist_append_right ..),.inr ⟨rfl,hE,B⟩⟩
def qM(l:List Int)(la:Option Addr)(lc:Nat)(Q:Q7 U.frz la l.length 1 l (λ x vs=>vs=Zy x))(hl:l.length<=1000)(f:Nat)(hm:f<=1000)(g:FuncId)(first z:Array Value)(hg:(prog.funcs[g]?.any λ fd=>fd.body.isSome&&fd.name != "runtime.NumGoroutine")=true){I:Nat->Qa T->Prop}{E:Qa T->Prop}
  (Z:∀k U1 U2,U1.le U2->I k U1->I k U2) (ae:Gx S g first z Zy 1 (TM.parts l f) I E U) (hI:I 0 U) :
  Qb S 77 #[.agg #[.slice la l.length lc],.int .i64 f,.func (.func g) first z] (λ v U'=>(v=.bool false/\U.frz.lg U'.frz/\I (TM.parts l f).length U')\/(v=.bool true/\E U'/\∀x o,U.I x=some o->U'.I x=some o)) U:=by
 refine Qb.post (R:=λ v U'=>(v=.bool false/\U.frz.lg U'.frz/\I (TM.parts l f).length U')\/(v=.bool true/\∃X' w,U'.M=X'++w/\E ⟨U'.I,w,U'.tok⟩/\∀x o,U.I x=some o->U'.I x=some o)) (Qb.of (args:=[_,_,_]) UV Qe S1 ?_) λ v U' hv=>?_
 .conv=>whnf
  intro b3 U1 ab L;have L:Zi U1 b3 #[.slice la l.length lc]:=L
  conv=>whnf
  intro b4 U2 V N;have N:Zi U2 b4 #[.int .i64 f]:=N
  conv=>whnf
  intro b5 U3 K P;have P:Zi U3 b5 #[.func (.func g) first z]:=P
  conv=>whnf
  intro b7 ad;refine⟨_,.refl _,rfl,Zv (vs:=[.func (.func 108) #[] #[.pointer (some ⟨b4,0,none⟩),.pointer (some ⟨b5,0,none⟩),.pointer (some ⟨b3,0,none⟩),.pointer (some ⟨b7,0,none⟩)]]) ad rfl (by simp[Value.single]) λ U4 G X=>?_⟩;have F:=((ab.trans V).trans K).trans G;have ac:GO U4 l f g first z b4 b5 b3 b7:=⟨N.le (K.trans G),P.le G,⟨la,lc,L.le ((V.trans K).trans G),Q.lg F.lg.frz2 λ _ _ h=>h⟩,X⟩
  refine⟨_,X.sees3 (o:=0) rfl,VU.any,(zh l hl f hm g first z hg Z ae f [] 0 0 (.slice none 0 0) U4 [] U4.M S1 O1 F.lg.frz2 ac .nil (λ i' q hq=>by rw[Nat.zero_add];exact hq) (Z 0 U U4 F hI)).mono ?_⟩;rintro v U5 (⟨rfl,Y,w,W,H⟩|⟨rfl,X',w,aa,hE,B⟩) -
  .rcases W with⟨_,_,hM⟩|⟨b,c,len,cap,e1,_⟩
   .rw[Nat.zero_add]at H
    repeat refine⟨rfl,?_⟩
    conv=>whnf
    refine .inl ⟨rfl,F.lg.frz2.trans Y,?_⟩;have:U5.M=w:=hM;obtain⟨i5,m5,t5⟩:=U5;simp only at this;subst this;exact H
   .cases e1
  .repeat refine⟨rfl,?_⟩
   conv=>whnf
   exact .inr ⟨rfl,X',w,aa,hE,λ x o hx=>B x o (F.imm x o hx)⟩
 .rcases hv with h|⟨rfl,X',w,hM,hE,B⟩
  .exact⟨U',.refl _,.inl h⟩
  .exact⟨{ U' with M:=w },Zx (by rw[hM];exact sublist_append_right ..),.inr ⟨rfl,hE,B⟩⟩
def SU(S:TM.Sys prog T)(g:FuncId)(first b:Array Value)(p:List Int->Bool)(l:List Int)(U₀:Qa T):Prop:=
 ∀(q:List Int)(a:Option Addr)(cap:Nat)(U:Qa T),q.Sublist l->(∃X f,(∀x o,U₀.I x=some o->f x=some o)/\U=⟨f,X++U₀.M,U₀.tok⟩)->Z6 U.frz a q.length q->Qb S g (first.toList++[Value.slice a q.length cap]++b.toList).toArray (λ v U'=>v=.bool (p q)/\U'=U) U
def gh{a:Option Addr}{l:List Int}(h:Q7 U a l.length 1 l (λ x vs=>vs=Zy x)):Z6 U a l.length l:=by
 refine⟨rfl,λ i x hx=>?_⟩;obtain⟨f,vs,e,z,rfl,_,w⟩:=h.2 i x hx;have b:=w 0 (.int .i64 x) rfl;obtain⟨bb,B,E⟩:=f;cases z;refine⟨_,e,rfl,?_⟩;rw[Qo,Qo,Nat.add_zero]at b;rw[Qo];exact b
set_option maxHeartbeats 1000000 in
def E0(l:List Int)(la:Option Addr)(lc:Nat)(ag:Q7 U.frz la l.length 1 l (λ x vs=>vs=Zy x))(hl:l.length<=1000)(Zui:Nat)(hm:Zui<=900)(g:FuncId)(first w:Array Value)(hg:(prog.funcs[g]?.any λ fd=>fd.body.isSome&&fd.name != "runtime.NumGoroutine")=true)(p:List Int->Bool)
  (av:SU S g first w p l U) :
  Qb S 43 #[.slice la l.length lc,.int .i64 Zui,.func (.func g) first w] (λ v U'=>(∃v1,v=.tuple #[v1,.bool (WK l p 0 (Zui+1)).isSome]/\JT U'.frz v1 ((WK l p 0 (Zui+1)).getD []))/\U.le U') U:=by
 refine Qb.grown (R:=λ v U'=>∃v1,v=.tuple #[v1,.bool (WK l p 0 (Zui+1)).isSome]/\JT U' v1 ((WK l p 0 (Zui+1)).getD [])) (λ v L Q hl⟨v1,e,h1⟩=>⟨v1,e,h1.lg hl⟩) (Qb.of (args:=[_,_,_]) OO Qe S1 ?_)
 conv=>whnf
 intro b5 L B ae;have ae:Zi L b5 #[.func (.func g) first w]:=ae;refine⟨I1,?_⟩
 refine⟨Nat,λ i=>[(0,.slice la l.length lc),(5,.pointer (some ⟨b5,0,none⟩)),(11,.int .i64 ((Zui:Int)+1)),(12,.int .i64 i)],
  λ i U'=>L.frz.lg U'.frz/\(∃X,U'.M=X++U.M)/\i<=Zui+1/\WK l p 0 (Zui+1)=WK l p i (Zui+1-i),λ i=>Zui+1-i,0,T1,⟨⟨λ _ _ h=>h,⟨[],rfl⟩,rfl⟩,⟨[],by rw[B.own];rfl⟩,O1,rfl⟩,?_⟩
 rintro i f Q⟨Z,⟨X,hX⟩,hi,b⟩;have an:Z7 ((i:Int)+1):=I1
 repeat refine⟨rfl,?_⟩
 conv=>whnf
 apply Qg<;>intro hc
 .have hlt:i<Zui+1:=by simp at hc;omega
  rw[show Zui+1-i=(Zui+1-(i+1))+1 by omega,Nm l p i]at b
  conv=>whnf
  intro N ay;refine⟨_,.refl _,?_⟩;have ab:L.frz.lg (Q.put N (.cells #[.slice none 0 0] 29)).frz:=Z;have aj:Zi (Q.put N (.cells #[.slice none 0 0] 29)) b5 #[.func (.func g) first w]:=ae.imI Z.imm
  let ps:=TM.parts l i
  let J:Nat->Qa T->Prop:=λ k U'=>L.frz.lg U'.frz/\(∃P,U'.M=.obj N (.cells #[P] 29 (0,0))::(X++U.M))/\∀q∈ps.take k,p q=false
  let E:Qa T->Prop:=λ U'=>L.frz.lg U'.frz/\∃P q,U'.M=.obj N (.cells #[P] 29 (0,0))::(X++U.M)/\JT U'.frz P q/\ps.find? p=some q
  have hJ:∀k L Q,L.le Q->J k L->J k Q:=λ k s1 s2 ak⟨h1,⟨P,hv⟩,h3⟩=>⟨h1.trans ak.lg.frz2,⟨P,ak.own.trans hv⟩,h3⟩
  have ax:Gx S 78 #[] #[.pointer (some ⟨N,0,none⟩),.pointer (some ⟨b5,0,none⟩)] Zy 1 ps J E (Q.put N (.cells #[.slice none 0 0] 29)):=by
   intro k q qa qc s Xs Mc hq h0 hr aw hM⟨W,⟨P,ad⟩,ah⟩;have ad:Mc=.obj N (.cells #[P] 29 (0,0))::(X++U.M):=ad;subst ad;have ai:Zi s b5 #[.func (.func g) first w]:=aj.imI h0.imm;have aa:=gh hr;have aq:=(G4.1 (mem_of_getElem? hq)).1;refine Qb.of (args:=[_,_,_]) UW Qe S1 ?_;refine⟨rfl,Wd (vs:=[.slice qa q.length qc]) Xs hM rfl (by simp[Value.single]) λ s1 V am Y=>?_⟩;have af:Zi s1 b5 #[.func (.func g) first w]:=ai.imI λ x o hx=>by rw[V];exact hx
   have hz:s.frz.lg s1.frz:=⟨λ x o hx=>by show s1.I x=_;rw[V];exact hx,⟨[],rfl⟩,am⟩
   have ac:s1.tok=U.tok:=by
    have e1:s.tok=L.tok:=W.tok;rw[am,e1,B.tok]
   refine⟨_,af.sees3 (o:=0) rfl,hg,(av q qa qc s1 aq ⟨Xs++(.obj N (.cells [.slice qa q.length qc].toArray 29 (0,0))::X),s1.I,λ x o hx=>by rw[V];exact W.imm x o (B.imm x o hx),by
    obtain⟨i1,m1,t1⟩:=s1;simp only at Y ac;subst ac;rw[Y];simp⟩ (aa.lg hz)).mono ?_⟩
   rintro _ s'⟨rfl,au⟩-;obtain rfl:=au.symm;cases al:p q with
   |false=>
    repeat refine⟨rfl,?_⟩
    conv=>whnf
    refine .inl ⟨rfl,hz,_,Y,⟨W.trans hz,⟨_,rfl⟩,λ q' K=>?_⟩⟩;rw[Wf hq,mem_append]at K;rcases K with K|K
    .exact ah q' K
    .rw[mem_singleton.1 K];exact al
   |true=>
    repeat refine⟨rfl,?_⟩
    conv=>whnf
    refine .inr ⟨rfl,_,_,Y,⟨W.trans hz,_,q,rfl,⟨qa,qc,rfl,aa.lg hz,aw.2⟩,?_⟩,λ x o hx=>by rw[V];exact hx⟩;rw[find?_eq_some_iff_getElem];obtain⟨hk,ao⟩:=List.getElem?_eq_some_iff.1 hq;refine⟨al,k,hk,ao,λ j hj=>?_⟩;have:=ah ps[j] (mem_take_iff_getElem.2 ⟨j,O1,rfl⟩);simp[this]
  refine⟨UV.any,(qM (U:=Q.put N (.cells #[.slice none 0 0] 29)) l la lc (ag.lg (B.lg.frz2.trans ab) λ _ _ h=>h) hl i O1 78 #[] #[.pointer (some ⟨N,0,none⟩),.pointer (some ⟨b5,0,none⟩)] UW.any hJ ax ⟨ab,⟨_,by show _::Q.M=_;rw[hX]⟩,S1⟩).mono ?_⟩;rintro v U3 (⟨rfl,-,z,⟨P,H⟩,ap⟩|⟨rfl,⟨z,P,q,H,⟨qa,qc,rfl,aa⟩,F⟩,-⟩) -
  .have G:ps.find? p=none:=by
    rw[find?_eq_none];intro q hq;rw[ap q (by rw[take_length];exact hq)];simp
   have G:(TM.parts l i).find? p=none:=G;rw[G]at b
   repeat refine⟨rfl,?_⟩
   refine⟨an,?_⟩
   conv=>whnf
   exact⟨rfl,i+1,T1,⟨z,⟨_::X,H⟩,O1,b⟩,L1⟩
  .have F:(TM.parts l i).find? p=some q:=F;rw[F]at b;simp only at b
   repeat refine⟨rfl,?_⟩
   refine⟨_,Q9 [] H 0 _ rfl,?_⟩
   repeat refine⟨rfl,?_⟩
   conv=>whnf
   rw[b];exact⟨⟨_,rfl,⟨qa,qc,rfl,aa⟩⟩,⟨λ x o hx=>z.imm x o (B.imm x o hx),⟨_::X,H⟩,z.tok.trans B.tok⟩⟩
 .have hge:i=Zui+1:=by simp at hc;omega
  subst hge;rw[Nat.sub_self,WK]at b
  repeat refine⟨rfl,?_⟩
  conv=>whnf
  rw[b];exact⟨⟨_,rfl,.nil⟩,⟨λ x o hx=>Z.imm x o (B.imm x o hx),⟨X,hX⟩,Z.tok.trans B.tok⟩⟩
end Go.Proofs
namespace Go.TM
variable{T:Type}{P:Program}{S:Sys P T}{U U':Qa T}
def JM(a b:Int×Int):Int:=if a=b then 0 else if a.1<b.1\/a.1=b.1/\a.2<b.2 then -1 else 1
def QZ:List (Int×Int)->List (Int×Int)->Int
 |[],[]=>0
 |[],_::_=>-1
 |_::_,[]=>1
 |a::l,b::r=>if JM a b≠0 then JM a b else QZ l r
structure Bk.Srt(b:Bk)(n:Nat):Prop where
 s:∀c∈b.cs,Xg c.af
 l:∀c∈b.cs,c.af.length<=n
def Lm{b:Int}:∀{l:List Int}{m:Int},m<b->QV b (some m) l=0->(l.length:Int)<=b-1-m/\l.Pairwise (· < ·)/\∀x∈l,m<x
 |[],m,hm,_=>⟨S3,.nil,S1⟩
 |n::l,m,hm,h=>by
  rw[Pq]at h;split at h
  .rename_i hb;simp only[QP,Bool.and_eq_true,decide_eq_true_eq]at hb;simp only at h;split at h
   .cases h
   .obtain⟨h1,h2,h3⟩:=Lm (l:=l) (m:=n) O1 h;refine⟨by rw[length_cons];omega,pairwise_cons.2 ⟨h3,h2⟩,λ x hx=>?_⟩;rcases mem_cons.1 hx with rfl|hx
    .omega
    .have:=h3 x hx;omega
  .cases h
def vQ{b:Int}{l:List Int}(hb:0<=b)(h:QV b none l=0):(l.length:Int)<=b/\l.Pairwise (· < ·):=by
 cases l with
 |nil=>exact⟨by simpa using hb,.nil⟩
 |cons n l=>
  rw[Pq]at h;split at h
  .rename_i hb';simp only[QP,Bool.and_eq_true,decide_eq_true_eq]at hb';obtain⟨h1,h2,f⟩:=Lm (l:=l) (m:=n) O1 h;exact⟨by rw[length_cons];omega,pairwise_cons.2 ⟨f,h2⟩⟩
  .cases h
def Bk.Ok.asc{b:Bk}(h:b.Ok){c:Cs}(f:c∈b.cs):c.af.length<=5/\c.af.Pairwise (· < ·):=by
 have w:b.nc<=5:=by have:=h.nc;unfold Bk.nc;omega
 obtain⟨h1,h2⟩:=vQ (b:=b.nc) (by unfold Bk.nc;omega) (h.ri c f);exact⟨O1,h2⟩
def Bk.Ok.srt{b:Bk}(h:b.Ok):b.Srt 5:=⟨λ c f=>(h.asc f).2.imp λ h=>Int.le_of_lt h,λ c f=>(h.asc f).1⟩
def Bk.Ok.sml{b:Bk}(h:b.Ok):b.Sml:=by
 have h1:=h.nr;have h2:=h.nc;refine⟨O1,O1,λ c f=>⟨?_,λ g w=>?_,?_⟩⟩
 .have:=h.gl c f;omega
 .have:=(h.gs c f g w).1;omega
 .have:=(h.asc f).1;omega
def Bk.Srt.sty{b:Bk}{n:Nat}(h:b.Srt n)(s:Int×Int)(z:s.1.toNat<b.cs.length):(b.sty s).Srt (n+1):=by
 have w:b.cas s.1.toNat∈b.cs:=by
  simp only[Bk.cas,getD_eq_getElem?_getD,getElem?_eq_getElem z,Option.getD_some];exact getElem_mem z
 refine⟨λ c f=>?_,λ c f=>?_⟩
 .rcases mem_or_eq_of_mem_set f with h1|rfl
  .exact h.s c h1
  .exact S8 _ _ (h.s _ w)
 .rcases mem_or_eq_of_mem_set f with h1|rfl
  .have:=h.l c h1;omega
  .have:=h.l _ w;show(ZB _ _).length<=_;rw[(VS _ _).length_eq];simp;omega
def Bk.sty_len(b:Bk)(s:Int×Int):(b.sty s).cs.length=b.cs.length:=by simp[Bk.sty]
def Bk.stys_snoc(b:Bk)(l:List (Int×Int))(s:Int×Int):b.stys (l++[s])=(b.stys l).sty s:=by simp[Bk.stys]
def Bk.stys_len(b:Bk)(l:List (Int×Int)):(b.stys l).cs.length=b.cs.length:=by
 induction l generalizing b with
 |nil=>rfl
 |cons s l f=>exact(f (b.sty s)).trans (b.sty_len s)
def Bk.stys_srt{b:Bk}{n:Nat}(h:b.Srt n):∀(l:List (Int×Int)),(∀s∈l,s.1.toNat<b.cs.length)->(b.stys l).Srt (n+l.length):=by
 intro l
 induction l generalizing b n with
 |nil=>exact λ _=>h
 |cons s l w=>
  intro hl;have:=w (h.sty s (hl s S1)) λ z f=>by rw[b.sty_len];exact hl z (by simp[f])
  rw[length_cons,show n+(l.length+1)=n+1+l.length by omega];exact this
end Go.TM
namespace Go.Proofs
open Go.TM
variable{T:Type}{S:TM.Sys prog T}{U:Qa T}
attribute [local irreducible] Qb Zm Wo
def DW(h:BH)(b:Bk)(hb:Zs U.frz h b)(Z:b.cs.length<=1000):Qb S 44 #[h.v] (λ v U'=>Jw U'.frz v ((range b.cs.length).map λ(k:Nat)=>(k:Int))/\U.le U') U:=by
 refine Qb.ints (e:=3) (Qb.of (args:=[_]) OP Qe S1 ?_);have Y:=hb.cs.1
 repeat refine⟨rfl,?_⟩
 conv=>whnf
 intro B W F L;have L:Zi W B #[.slice h.ra h.rl h.rc,.slice h.ca h.cl h.cc]:=L;refine⟨_,L.sees3 (o:=1) rfl,Nat×Value,λ y=>[(3,y.2),(8,.int .i64 h.cl),(9,.int .i64 y.1)],λ y U'=>(∀x o,U.I x=some o->U'.I x=some o)/\U'.tok=U.tok/\Acc 3 1 y.2 (((range y.1).map λ(k:Nat)=>(k:Int)).map λ n=>.int .i64 n) U'.M U.M/\y.1<=h.cl,λ y=>h.cl-y.1,(0,.slice none 0 0),T1,⟨F.imm,F.tok,by rw[F.own];exact .nil,O1⟩,?_⟩;rintro⟨i,v⟩f X⟨T,ht,w,hi⟩;simp only at w hi;obtain⟨sa,sl,sc,rfl,aa,-⟩:=Acc.src (U:=X) w;have P:Z7 ((i:Int)+1):=I1
 repeat refine⟨rfl,?_⟩
 conv=>whnf
 apply Qg<;>intro V
 .have hlt:i<h.cl:=by simpa using V
  conv=>whnf
  intro K H;refine Zh H λ Q G z=>?_;have z:Zi Q K #[.int .i64 i]:=z
  conv=>whnf
  refine Wn (v:=.slice sa sl sc) (cs:=((range i).map λ(k:Nat)=>(k:Int)).map λ n=>.int .i64 n) (new:=[.int .i64 (i:Int)]) (M₀:=U.M) H2 rfl rfl (by rw[G.own];exact w) (.inr ⟨_,rfl,z.rd⟩) rfl (by simp[Value.single]) S3 λ v' M' N _=>?_;have E:Acc 3 1 v' (((range (i+1)).map λ(k:Nat)=>(k:Int)).map λ n=>.int .i64 n) M' U.M:=by rw[range_succ,map_append,map_append];exact N
  obtain⟨ta,tl,tc,rfl,-,-⟩:=Acc.src (U:={ Q with M:=M' }) E;refine⟨P,?_⟩
  conv=>whnf
  exact⟨rfl,(i+1,.slice ta tl tc),T1,⟨λ x o h=>G.imm x o (T x o h),G.tok.trans ht,E,by show i+1<=h.cl;omega⟩,L1⟩
 .have hge:i=b.cs.length:=by simp at V;omega
  subst hge
  repeat refine⟨rfl,?_⟩
  conv=>whnf
  exact⟨w,T,ht⟩
def UK:Ga prog 75 (Yu prog 75):=.of K1
def qw(x y:Int×Int):Qb S 95 #[.agg #[.int .i64 x.1,.int .i64 x.2],.agg #[.int .i64 y.1,.int .i64 y.2]] (λ v U'=>v=.int .i64 (JM x y)/\U'=U) U:=by
 obtain⟨a,b⟩:=x;obtain⟨c,d⟩:=y;refine Qb.pure' (Qb.of (args:=[_,_]) D5 Qe S1 ?_)
 repeat refine⟨rfl,?_⟩
 conv=>whnf
 intro K H F f;have f:Zi H K #[.int .i64 a,.int .i64 b]:=f
 conv=>whnf
 intro L I E h;have h:Zi I L #[.int .i64 c,.int .i64 d]:=h;have f:=f.le E;have w:=(F.trans E).lg;refine⟨_,⟨rfl,f.rd⟩,?_⟩;refine⟨_,⟨rfl,h.rd⟩,?_⟩
 conv=>whnf
 refine yd UK (vs:=[.int .i64 a,.int .i64 b]) (ws:=[.int .i64 c,.int .i64 d]) rfl rfl K1 K1 ?_
 have G:ZF [.int .i64 a,.int .i64 b] [.int .i64 c,.int .i64 d]=decide ((a,b)=(c,d)):=by
  simp[ZF,HT,Prod.mk.injEq,Bool.decide_and];rfl
 rw[G];by_cases e:(a,b)=(c,d)
 .have z:JM (a,b) (c,d)=0:=by unfold JM;rw[if_pos e]
  rw[decide_eq_true e,z]
  repeat refine⟨rfl,?_⟩
  conv=>whnf
  exact w
 rw[decide_eq_false e];have M:¬(a=c/\b=d):=λ⟨h1,h2⟩=>e (by rw[h1,h2]);refine⟨_,f.sees3 (o:=0) rfl,_,h.sees3 (o:=0) rfl,?_⟩
 repeat refine⟨rfl,?_⟩
 conv=>whnf
 apply Jt<;>intro B
 .have h1:¬a<c:=by simpa using B
  refine⟨_,f.sees3 (o:=0) rfl,_,h.sees3 (o:=0) rfl,?_⟩
  repeat refine⟨rfl,?_⟩
  conv=>whnf
  apply Jt<;>intro B
  .have h2:a=c:=by simpa using B
   refine⟨_,f.sees3 (o:=1) rfl,_,h.sees3 (o:=1) rfl,?_⟩
   repeat refine⟨rfl,?_⟩
   conv=>whnf
   apply Qg<;>intro B
   .have h3:b<d:=by simpa using B
    have z:JM (a,b) (c,d) = -1:=by unfold JM;rw[if_neg e,if_pos (.inr ⟨h2,h3⟩)]
    rw[z]
    repeat refine⟨rfl,?_⟩
    conv=>whnf
    exact w
   .have h3:¬b<d:=by simpa using B
    have z:JM (a,b) (c,d)=1:=by unfold JM;rw[if_neg e,if_neg (by simp only;omega)]
    rw[z]
    repeat refine⟨rfl,?_⟩
    conv=>whnf
    exact w
  .have h2:a≠c:=by simpa using B
   have z:JM (a,b) (c,d)=1:=by unfold JM;rw[if_neg e,if_neg (by simp only;omega)]
   rw[z]
   repeat refine⟨rfl,?_⟩
   conv=>whnf
   exact w
 .have h1:a<c:=by simpa using B
  have z:JM (a,b) (c,d) = -1:=by unfold JM;rw[if_neg e,if_pos (.inl h1)]
  rw[z]
  repeat refine⟨rfl,?_⟩
  conv=>whnf
  exact w
end Go.Proofs
namespace Go.TM
variable{T:Type}{P:Program}{S:Sys P T}{U U':Qa T}
def Qa.sees.mem{a:Addr}{v:Value}(h:U.sees a v)(f:∀x o,U.I x=some o->U'.I x=some o)(b:∀r∈U.M,r∈U'.M):U'.sees a v:=
 ⟨h.1,h.2.imp (λ⟨c,t,fr,x,y⟩=>⟨c,t,fr,x.imp (f _ _) (b _),y⟩) λ⟨t,n,x⟩=>⟨t,n,b _ x⟩⟩
def Je.mem{a:Addr}{vs:List Value}(h:Je U a vs)(b:∀x o,U.I x=some o->U'.I x=some o)(f:∀r∈U.M,r∈U'.M):Je U' a vs:=λ i v w=>(h i v w).mem b f
def Q7.mem{a:Option Addr}{len n:Nat}{α:Type}{l:List α}{R:α->List Value->Prop}(h:Q7 U a len n l R)(b:∀x o,U.I x=some o->U'.I x=some o)(f:∀r∈U.M,r∈U'.M):Q7 U' a len n l R:=
 ⟨h.1,λ i x hx=>let ⟨ad,vs,e,s,r,hl,hr⟩:=h.2 i x hx;⟨ad,vs,e,s,r,hl,hr.mem b f⟩⟩
def Src.mem{a:Option Addr}{cs:List Value}(h:Src U a cs)(f:∀x o,U.I x=some o->U'.I x=some o)(w:∀r∈U.M,r∈U'.M):Src U' a cs:=h.imp id λ⟨b,e,r⟩=>⟨b,e,r.mem f w⟩
def QR.mem{h:BH}{b:Bk}{M₀:List Qw}(k:QR U h b M₀):∀r∈M₀,r∈U.M:=by
 obtain⟨z,A,-,-,-,f⟩:=k.ex;intro r w;rw[f.mem_iff];simp[w]
def QR.imI{h:BH}{b:Bk}{M₀:List Qw}(k:QR U h b M₀)(f:∀x o,U.I x=some o->U'.I x=some o)(ht:U'.tok=U.tok)(w:U'.M.Perm U.M):QR U' h b M₀:=
 have hl:U.frz.lg U'.frz:=⟨f,⟨[],rfl⟩,ht⟩
 let ⟨ps,A,h1,h2,h3,h4⟩:=k.ex
 ⟨⟨ps,A,h1,λ p z=>(h2 p z).lg hl,h3,w.trans h4⟩,k.rs.lg hl λ _ _ h=>h,k.rl,k.rn,k.rc⟩
def QR.pick{h:BH}{b:Bk}{o:Qw}{M₀:List Qw}(k:QR U h b (o::M₀)):∃X Y,U.M=X++o::Y/\(∀(U':Qa T)z,(∀x q,U.I x=some q->U'.I x=some q)->U'.tok=U.tok->U'.M=X++z::Y->QR U' h b (z::M₀))/\(X++Y).Sublist U.M/\QR { U with M:=X++Y } h b M₀:=by
 obtain⟨X,Y,e⟩:=append_of_mem (k.mem o S1);obtain⟨w,A,h1,h2,B,H⟩:=k.ex
 have f:(X++Y).Perm (A++(w.flatMap (·.2.F)++M₀)):=by
  have E:(o::(X++Y)).Perm U.M:=by rw[e];exact perm_middle.symm
  have G:(A++(w.flatMap (·.2.F)++o::M₀)).Perm (o::(A++(w.flatMap (·.2.F)++M₀))):=by
   rw[<- append_assoc,<- append_assoc];exact perm_middle
  exact(E.trans (H.trans G)).cons_inv
 refine⟨X,Y,e,λ U' z K ht L=>?_,?_,⟨⟨w,A,h1,λ p f=>(h2 p f).lg ⟨λ _ _ h=>h,⟨[],rfl⟩,rfl⟩,B,f⟩,k.rs.lg ⟨λ _ _ h=>h,⟨[],rfl⟩,rfl⟩ λ _ _ h=>h,k.rl,k.rn,k.rc⟩⟩
 .have hl:U.frz.lg U'.frz:=⟨K,⟨[],rfl⟩,ht⟩;refine⟨⟨w,A,h1,λ p f=>(h2 p f).lg hl,B,?_⟩,k.rs.lg hl λ _ _ h=>h,k.rl,k.rn,k.rc⟩;rw[L];refine perm_middle.trans ((f.cons z).trans ?_);rw[<- append_assoc,<- append_assoc];exact perm_middle.symm
 .rw[e];exact Sublist.append_left (sublist_cons_self _ _) _
def kx(a b:Int×Int)(l r:List (Int×Int)):QZ (a::l) (b::r)=if JM a b≠0 then JM a b else QZ l r:=rfl
def kz(a:Int×Int)(l:List (Int×Int)):QZ (a::l) []=1:=rfl
def kA(b:Int×Int)(r:List (Int×Int)):QZ [] (b::r) = -1:=rfl
def kB:QZ [] []=0:=rfl
def Bk.cas_mem{b:Bk}{k:Nat}(h:k<b.cs.length):b.cas k∈b.cs:=by
 simp only[Bk.cas,getD_eq_getElem?_getD,getElem?_eq_getElem h,Option.getD_some];exact getElem_mem h
end Go.TM
namespace Go.Proofs
open Go.TM
variable{T:Type}{S:TM.Sys prog T}{U:Qa T}
attribute [local irreducible] Qb Zm Wo
def zz(l r:List (Int×Int))(a a':Option Addr)(c c':Nat)(hl:Q7 U a l.length 2 l (λ x vs=>vs=encII x))(hr:Q7 U a' r.length 2 r (λ x vs=>vs=encII x))(h1:l.length<=1000)(h2:r.length<=1000) :
  Qb S 94 #[.slice a l.length c,.slice a' r.length c',.func (.func 95) #[] #[]] (λ v U'=>v=.int .i64 (QZ l r)/\U'=U) U:=by
 refine Qb.pure' (Qb.of (args:=[_,_,_]) D4 Qe S1 ?_)
 refine⟨Nat,λ i=>[(0,.slice a l.length c),(1,.slice a' r.length c'),(2,.func (.func 95) #[] #[]),(11,.slice a l.length c),(12,.int .i64 l.length),(13,.int .i64 i)],
  λ i U'=>U.lg U'/\i<=l.length/\i<=r.length/\QZ l r=QZ (l.drop i) (r.drop i),λ i=>l.length-i,0,T1,⟨(Qa.le.refl _).lg,O1,O1,rfl⟩,?_⟩
 rintro i f U1⟨E,hi,Z,b⟩;have Q:Z7 ((i:Int)+1):=I1
 repeat refine⟨rfl,?_⟩
 conv=>whnf
 apply Qg<;>intro z
 .have hlt:i<l.length:=by simpa using z
  obtain⟨X,x,vs,hx,rfl,aa,rfl,-,T⟩:=(hl.lg E λ _ _ h=>h).at hlt;rw[Hj hx]at b;refine⟨X,i,⟨rfl,rfl,hlt⟩,_,⟨rfl,T⟩,?_⟩
  conv=>whnf
  intro Y N;refine⟨_,.refl _,rfl,Zv (vs:=encII x) N rfl (by simp[encII,Value.single]) λ U2 L G=>?_⟩;have w:=E.trans L.lg
  repeat refine⟨rfl,?_⟩
  conv=>whnf
  apply Qg<;>intro z
  .have hge:r.length<=i:=by simpa using z
   rw[drop_eq_nil_of_le hge,kz]at b;rw[b]
   repeat refine⟨rfl,?_⟩
   conv=>whnf
   exact w
  have F:i<r.length:=by simp at z;omega
  obtain⟨K,y,vs,hy,rfl,V,rfl,-,I⟩:=(hr.lg w λ _ _ h=>h).at F;rw[Hj hy,kx]at b;refine⟨K,i,⟨rfl,rfl,F⟩,_,⟨rfl,I⟩,?_⟩
  conv=>whnf
  intro b9 P;refine⟨_,.refl _,rfl,Zv (vs:=encII y) P rfl (by simp[encII,Value.single]) λ W H M=>?_⟩;have B:=w.trans H.lg;have G:Zi W Y (encII x).toArray:=G.le H;refine⟨_,⟨rfl,G.rd⟩,?_⟩;refine⟨_,⟨rfl,M.rd⟩,?_⟩;refine⟨D5.any,(qw x y).go λ _=>?_⟩
  repeat refine⟨rfl,?_⟩
  conv=>whnf
  apply Qg<;>intro z
  .have hne:JM x y≠0:=by simpa using z
   rw[if_pos hne]at b;rw[b]
   repeat refine⟨rfl,?_⟩
   conv=>whnf
   exact B
  .have hne:¬JM x y≠0:=by simpa using z
   rw[if_neg hne]at b
   repeat refine⟨rfl,?_⟩
   refine⟨Q,?_⟩
   conv=>whnf
   exact⟨rfl,i+1,T1,⟨B,O1,O1,b⟩,L1⟩
 .have hge:i=l.length:=by simp at z;omega
  subst hge;rw[drop_length]at b
  repeat refine⟨rfl,?_⟩
  conv=>whnf
  apply Qg<;>intro z
  .have hlt:l.length<r.length:=by simpa using z
   have:r.drop l.length=r[l.length]::r.drop (l.length+1):=drop_eq_getElem_cons hlt;rw[this,kA]at b;rw[b]
   repeat refine⟨rfl,?_⟩
   conv=>whnf
   exact E
  .have hge:r.length<=l.length:=by simp at z;omega
   rw[drop_eq_nil_of_le hge,kB]at b;rw[b]
   repeat refine⟨rfl,?_⟩
   conv=>whnf
   exact E
def qG(h:BH)(b:Bk)(hb:Zs U.frz h b)(hs:b.Sml)(l:List (Int×Int))(a:Option Addr)(c:Nat)(hl:Q7 U a l.length 2 l (λ x vs=>vs=encII x))(a3:l.length<=6)(ak:b.Srt 5)(ag:∀s∈l,0<=s.1/\s.1.toNat<b.cs.length) :
  Qb S 90 #[h.v,.slice a l.length c] (λ v U'=>(∃w:BH,v=w.v/\QR U' w (b.stys l) U.M)/\(∀x o,U.I x=some o->U'.I x=some o)/\U'.tok=U.tok) U:=by
 have ap:Qb S 90 #[h.v,.slice a l.length c] (λ v U'=>(∃(w:BH)(o:Qw),v=w.v/\QR U' w (b.stys l) (o::U.M))/\(∀x o,U.I x=some o->U'.I x=some o)/\U'.tok=U.tok) U:=by
  refine Qb.of (args:=[_,_]) D0 Qe S1 ?_
  repeat refine⟨rfl,?_⟩
  conv=>whnf
  intro B U1 F hB;have hB:Zi U1 B #[.slice h.ra h.rl h.rc,.slice h.ca h.cl h.cc]:=hB
  conv=>whnf
  intro V a4;refine⟨_,.refl _,?_⟩;have aa:=Z2 (U:=U1) V (.cells #[.slice none 0 0,.slice none 0 0] 92);refine⟨_,⟨rfl,(hB.lg aa).rd⟩,?_⟩;refine⟨FO.any,(MP (S:=S) (U:=U1.put V (.cells #[.slice none 0 0,.slice none 0 0] 92)) h b (hb.lg (F.lg.frz2.trans aa.frz2)) hs).mono ?_⟩;rintro _ U2⟨⟨w,rfl,E⟩,K,Q⟩-;have aq:∀x o,U.I x=some o->U2.I x=some o:=λ x o hx=>K x o (F.imm x o hx);have a1:U2.tok=U.tok:=Q.trans F.tok
  have E:QR U2 w b (.obj V (.cells [.slice none 0 0,.slice none 0 0].toArray 92 (0,0))::U.M):=by
   have e:(U1.put V (.cells #[.slice none 0 0,.slice none 0 0] 92)).M=.obj V (.cells [.slice none 0 0,.slice none 0 0].toArray 92 (0,0))::U.M:=by show _::U1.M=_;rw[F.own]
   rw[<- e];exact E
  clear aa K Q
  conv=>whnf
  intro b5 av;refine⟨_,.refl _,rfl,Zv (vs:=[.slice w.ra w.rl w.rc,.slice w.ca w.cl w.cc]) av rfl (by simp[Value.single]) λ U3 W H=>?_⟩;have H:Zi U3 b5 #[.slice w.ra w.rl w.rc,.slice w.ca w.cl w.cc]:=H
  refine⟨Nat,λ i=>[(1,.slice a l.length c),(4,.pointer (some ⟨V,0,none⟩)),(5,.pointer (some ⟨b5,0,none⟩)),(10,.slice a l.length c),(11,.int .i64 l.length),(12,.int .i64 i)],
   λ i U'=>U3.frz.lg U'/\i<=l.length/\QR U' w (b.stys (l.take i)) (.obj V (.cells [.slice none 0 0,.slice none 0 0].toArray 92 (0,0))::U.M),λ i=>l.length-i,0,T1,⟨⟨λ _ _ h=>h,⟨_,(append_nil _).symm⟩,rfl⟩,O1,E.le W⟩,?_⟩
  rintro i f U4⟨z,hi,E⟩;have ah:Z7 ((i:Int)+1):=I1
  have ab:∀x o,U.I x=some o->U4.I x=some o:=λ x o hx=>z.imm x o (W.imm x o (aq x o hx))
  repeat refine⟨rfl,?_⟩
  conv=>whnf
  apply Qg<;>intro hc
  .have hlt:i<l.length:=by simpa using hc
   obtain⟨ad,x,vs,hx,rfl,a5,rfl,-,a0⟩:=(hl.mem ab λ r hr=>E.mem r (mem_cons_of_mem _ hr)).at hlt;obtain⟨a6,ao⟩:=ag x (mem_of_getElem? hx);refine⟨ad,i,⟨rfl,rfl,hlt⟩,_,⟨rfl,a0⟩,?_⟩
   conv=>whnf
   intro b7 aw;refine⟨_,.refl _,rfl,Zv (vs:=encII x) aw rfl (by simp[encII,Value.single]) λ U5 G au=>?_⟩;have af:Zi U5 b5 #[.slice w.ra w.rl w.rc,.slice w.ca w.cl w.cc]:=H.imI λ x o hx=>G.imm x o (z.imm x o hx);refine⟨_,⟨rfl,af.rd⟩,?_⟩;refine⟨_,⟨rfl,au.rd⟩,?_⟩;have aj:=Bk.stys_srt ak (l.take i) λ s hs=>(ag s (mem_of_mem_take hs)).2;have P:=Bk.cas_mem (b:=b.stys (l.take i)) (k:=x.1.toNat) (by rw[Bk.stys_len];exact ao);have ax:=aj.l _ P;have a2:((x.1.toNat:Nat):Int)=x.1:=O1
   have al:=zO (S:=S) (U:=U5) w (b.stys (l.take i)) _ (E.le G) x.1.toNat x.2 (by rw[Bk.stys_len];exact ao) (aj.s _ P) (by rw[length_take]at ax;omega);rw[a2]at al;refine⟨FP.any,al.mono ?_⟩;rintro v U6⟨az,ac,an⟩-;have Z:U3.frz.lg U6:=⟨λ x o hx=>ac x o (G.imm x o (z.imm x o hx)),⟨_,(append_nil _).symm⟩,an.trans (G.tok.trans z.tok)⟩;refine⟨ah,?_⟩
   conv=>whnf
   exact⟨rfl,i+1,T1,⟨Z,O1,by rw[Wf hx,Bk.stys_snoc];exact az⟩,L1⟩
  .have hge:i=l.length:=by simp at hc;omega
   subst hge;rw[take_length]at E;have ae:Zi U4 b5 #[.slice w.ra w.rl w.rc,.slice w.ca w.cl w.cc]:=H.imI z.imm;obtain⟨X,Y,hM,ai,-,-⟩:=E.pick;refine⟨_,⟨rfl,ae.rd⟩,?_⟩;refine⟨rfl,Wd (vs:=[.slice w.ra w.rl w.rc,.slice w.ca w.cl w.cc]) X hM rfl (by simp[Value.single]) λ U5 L T N=>?_⟩;refine⟨_,⟨rfl,Q9 X N⟩,⟨w,_,rfl,ai U5 _ (λ x q hx=>by rw[L];exact hx) T N⟩,λ x o hx=>by rw[L];exact ab x o hx,?_⟩;rw[T];exact z.tok.trans (W.tok.trans a1)
 refine ap.post λ v U'⟨⟨w,o,hv,E⟩,hI,ht⟩=>?_;obtain⟨X,Y,-,-,am,ay⟩:=E.pick;exact⟨_,Zx am,⟨w,hv,ay⟩,hI,ht⟩
end Go.Proofs
namespace Go.TM
variable{T:Type}{P:Program}{S:Sys P T}{U U':Qa T}
def Bk.canI(b:Bk)(i m:Nat):List (Int×Int):=((range m).filter λ k=>k != i&&!(b.cas i).af.contains (k:Int)).map λ(k:Nat)=>((i:Int),(k:Int))
def Bk.cansTo(b:Bk)(i:Nat):List (Int×Int):=(range i).flatMap λ i=>b.canI i b.cs.length
def Bk.cansTo_all(b:Bk):b.cansTo b.cs.length=b.cans:=rfl
def Bk.cansTo_succ(b:Bk)(i:Nat):b.cansTo (i+1)=b.cansTo i++b.canI i b.cs.length:=by simp[Bk.cansTo,range_succ]
def Bk.canI_succ(b:Bk)(i m:Nat):b.canI i (m+1)=b.canI i m++(if(m != i&&!(b.cas i).af.contains (m:Int))=true then[((i:Int),(m:Int))]else[]):=by
 unfold Bk.canI;rw[range_succ,filter_append,map_append];congr 1;by_cases h:(m != i&&!(b.cas i).af.contains (m:Int))=true
 .rw[if_pos h,show List.filter (λ k=>k != i&&!(b.cas i).af.contains ((k:Nat):Int)) [m]=[m] from filter_cons_of_pos (p:=λ k=>k != i&&!(b.cas i).af.contains ((k:Nat):Int)) h];rfl
 .rw[if_neg h,show List.filter (λ k=>k != i&&!(b.cas i).af.contains ((k:Nat):Int)) [m]=[] from filter_cons_of_neg (p:=λ k=>k != i&&!(b.cas i).af.contains ((k:Nat):Int)) h];rfl
def Bk.canI_len(b:Bk)(i m:Nat):(b.canI i m).length<=m:=by
 unfold Bk.canI;rw[length_map];exact Nat.le_trans (length_filter_le _ _) S1
def Bk.cansTo_len(b:Bk):∀i,(b.cansTo i).length<=i*b.cs.length
 |0=>by simp[Bk.cansTo]
 |i+1=>by
  rw[Bk.cansTo_succ,length_append,Nat.succ_mul];have:=b.cansTo_len i;have:=b.canI_len i b.cs.length;omega
def Bk.cas_at{b:Bk}{i:Nat}{c:Cs}(h:b.cs[i]?=some c):b.cas i=c:=by simp[Bk.cas,getD_eq_getElem?_getD,h]
end Go.TM
namespace Go.Proofs
open Go.TM
variable{T:Type}{S:TM.Sys prog T}{U:Qa T}
attribute [local irreducible] Qb Zm Wo
def M7(h:BH)(b:Bk)(hb:Zs U.frz h b)(ap:b.cs.length<=5):Qb S 85 #[h.v] (λ v U'=>(∃a c,v=.slice a b.cans.length c/\Q7 U'.frz a b.cans.length 2 b.cans (λ x vs=>vs=encII x)/\b.cans.length<=c/\∀ad,a=some ad->ad.spot=none)/\U.le U') U:=by
 have a0:=hb.cs.1
 have aj:Qb S 85 #[h.v] (λ v U'=>Acc 75 2 v (b.cans.flatMap encII) U'.M U.M/\(∀x o,U.I x=some o->U'.I x=some o)/\U'.tok=U.tok) U:=by
  refine Qb.of (args:=[_]) UY Qe S1 ?_
  repeat refine⟨rfl,?_⟩
  conv=>whnf
  intro B U1 K hB;have hB:Zi U1 B #[.slice h.ra h.rl h.rc,.slice h.ca h.cl h.cc]:=hB;refine⟨_,hB.sees3 (o:=1) rfl,Nat×Value,λ y=>[(1,.pointer (some ⟨B,0,none⟩)),(3,y.2),(9,.slice h.ca h.cl h.cc),(10,.int .i64 h.cl),(11,.int .i64 y.1)],λ y U'=>U1.frz.lg U'/\Acc 75 2 y.2 ((b.cansTo y.1).flatMap encII) U'.M U.M/\y.1<=h.cl,λ y=>h.cl-y.1,(0,.slice none 0 0),T1,⟨⟨λ _ _ h=>h,⟨_,(append_nil _).symm⟩,rfl⟩,by rw[K.own];exact .nil,O1⟩,?_⟩;rintro⟨i,v⟩f U2⟨L,w,hi⟩;simp only at w hi;obtain⟨sa,sl,sc,rfl,a4,-⟩:=Acc.src (U:=U2) w;have av:Z7 ((i:Int)+1):=I1
  have Z:U.frz.lg U2.frz:=K.lg.frz2.trans L.frz2
  repeat refine⟨rfl,?_⟩
  conv=>whnf
  apply Qg<;>intro P
  .have hlt:i<h.cl:=by simpa using P
   obtain⟨ad,c,ga,gl,gc,aa,al,ac,hx,aq,ay,aw,-,-,ha,an,ax⟩:=(hb.lg Z).case hlt;have W:=Bk.cas_at hx;refine⟨ad,i,⟨aq,rfl,hlt⟩,_,⟨rfl,aw.lg Qr⟩,?_⟩
   conv=>whnf
   intro b5 au;refine⟨_,.refl _,rfl,Zv (vs:=[.string c.nm,.int .i64 c.ag,.slice ga gl gc,.slice aa al ac]) au rfl (by simp[Value.single]) λ U3 Q ao=>?_⟩;have F:=L.trans Q.lg;refine⟨_,(hB.imI F.imm).sees3 (o:=1) rfl,Nat×Value,λ y=>[(1,.pointer (some ⟨B,0,none⟩)),(3,y.2),(4,.int .i64 i),(5,.pointer (some ⟨b5,0,none⟩)),(9,.slice h.ca h.cl h.cc),(10,.int .i64 h.cl),(11,.int .i64 i),(19,.int .i64 h.cl),(20,.int .i64 y.1)],λ y U'=>U3.frz.lg U'/\Acc 75 2 y.2 ((b.cansTo i++b.canI i y.1).flatMap encII) U'.M U.M/\y.1<=h.cl,λ y=>h.cl-y.1,(0,.slice sa sl sc),T1,⟨⟨λ _ _ h=>h,⟨_,(append_nil _).symm⟩,rfl⟩,by rw[Q.own];simpa[Bk.canI]using w,O1⟩,?_⟩;rintro⟨k,v⟩f U4⟨z,w,hk⟩;simp only at w hk;obtain⟨ua,ul,uc,rfl,a5,-⟩:=Acc.src (U:=U4) w;have H:Z7 ((k:Int)+1):=I1
   have E:=b.canI_succ i k;rw[W]at E;have a1:=b.cansTo_len i;have a2:=b.canI_len i k;have a3:i*b.cs.length<=5*5:=Nat.mul_le_mul O1 ap;have ab:U1.frz.lg U4:=⟨λ x o hx=>z.imm x o (F.imm x o hx),⟨_,(append_nil _).symm⟩,z.tok.trans F.tok⟩
   repeat refine⟨rfl,?_⟩
   conv=>whnf
   apply Qg<;>intro P
   .have hkt:k<h.cl:=by simpa using P
    repeat refine⟨rfl,?_⟩
    conv=>whnf
    apply Jt<;>intro P
    .have hne:(k != i)=true:=by simp at P ⊢;omega
     refine⟨_,(ao.imI z.imm).sees3 (o:=3) rfl,ON.any,(DB aa al ac c.af ((ha.lg (Q.lg.frz2.trans z.frz2)).lg Qr) an (k:Int)).go λ _=>?_⟩;rw[hne,Bool.true_and]at E;cases X:c.af.contains (k:Int)with
     |true=>
      rw[X]at E
      repeat refine⟨rfl,?_⟩
      refine⟨H,?_⟩
      conv=>whnf
      exact⟨rfl,(k+1,.slice ua ul uc),T1,⟨z,by rw[E];simpa using w,by show k+1<=h.cl;omega⟩,L1⟩
     |false=>
      rw[X]at E
      conv=>whnf
      intro ak Y;refine Zh Y λ U5 T G=>?_;have G:Zi U5 ak (encII ((i:Int),(k:Int))).toArray:=G
      conv=>whnf
      refine Wn (v:=.slice ua ul uc) (cs:=(b.cansTo i++b.canI i k).flatMap encII) (new:=encII ((i:Int),(k:Int))) (M₀:=U.M) VZ rfl rfl (by rw[T.own];exact w) (.inr ⟨_,rfl,G.rd⟩) rfl (by simp[encII,Value.single]) (by
       rw[Qz (f:=encII) (n:=2) (λ _=>rfl)];simp[encII];omega) λ v' M' am _=>?_
      have N:Acc 75 2 v' ((b.cansTo i++b.canI i (k+1)).flatMap encII) M' U.M:=by
       rw[E];simpa using am
      obtain⟨ta,tl,tc,rfl,-,-⟩:=Acc.src (U:={ U5 with M:=M' }) N;refine⟨H,?_⟩
      conv=>whnf
      exact⟨rfl,(k+1,.slice ta tl tc),T1,⟨⟨λ x o hx=>T.imm x o (z.imm x o hx),⟨_,(append_nil _).symm⟩,T.tok.trans z.tok⟩,N,by show k+1<=h.cl;omega⟩,L1⟩
    .have hne:(k != i)=false:=by simp at P ⊢;omega
     rw[hne,Bool.false_and]at E
     repeat refine⟨rfl,?_⟩
     refine⟨H,?_⟩
     conv=>whnf
     exact⟨rfl,(k+1,.slice ua ul uc),T1,⟨z,by rw[E];simpa using w,by show k+1<=h.cl;omega⟩,L1⟩
   .have hge:k=b.cs.length:=by simp at P;omega
    subst hge;rw[<- Bk.cansTo_succ]at w;refine⟨av,?_⟩
    conv=>whnf
    exact⟨rfl,(i+1,.slice ua ul uc),T1,⟨ab,w,by show i+1<=h.cl;omega⟩,L1⟩
  .have hge:i=b.cs.length:=by simp at P;omega
   subst hge;rw[Bk.cansTo_all]at w
   repeat refine⟨rfl,?_⟩
   conv=>whnf
   exact⟨w,λ x o hx=>L.imm x o (K.imm x o hx),L.tok.trans K.tok⟩
 refine aj.sep λ v U' hs⟨ha,hI,ht⟩=>?_
 have V:∀a l c,v=.slice a l c->l<=c:=λ a l c e=>by
  rcases ha with⟨e1,_,_⟩|⟨b',c',az,cap',e1,_,g2,_⟩
  .rw[e1]at e;cases e;exact Nat.le_refl _
  .rw[e1]at e;cases e;exact g2
 obtain⟨U'',k1,k2,a,len,cap,rfl,hl,ai,ah,_⟩:=ha.freeze hs hI ht;have ae:b.cans.length=len:=by have e:=(Qz (f:=encII) (n:=2) (λ _=>rfl) b.cans).symm.trans hl;omega
 subst ae;exact⟨U'',k1,⟨a,cap,rfl,HC (enc:=encII) (n:=2) (λ _=>rfl) ai ah D1,V _ _ _ rfl,ah⟩,k2⟩
end Go.Proofs
namespace Go.TM
variable{T:Type}{P:Program}{S:Sys P T}{U U':Qa T}
def Jy{b:Nat}{e:TypeId}{vs:List Value}(h:Qw.obj b (.cells vs.toArray e (0,0))∈U.M):Je U ⟨b,0,none⟩ vs:=by
 obtain⟨X,Y,f⟩:=append_of_mem h;exact Q9 X f
def SN{M L₁ L₂:List Qw}{r:Qw}(h:M.Perm (L₁++r::L₂)):∃X Y,M=X++r::Y/\(X++Y).Perm (L₁++L₂):=by
 obtain⟨X,Y,e⟩:=append_of_mem (h.mem_iff.2 S1:r∈M);refine⟨X,Y,e,?_⟩;have b:(r::(X++Y)).Perm M:=by rw[e];exact perm_middle.symm
 exact(b.trans (h.trans perm_middle)).cons_inv
def Uf{X Y L₁ L₂:List Qw}(h:(X++Y).Perm (L₁++L₂))(r:Qw):(X++r::Y).Perm (L₁++r::L₂):=perm_middle.trans ((h.cons r).trans perm_middle.symm)
def oj{b i:Nat}{e:TypeId}{c:Array Value}{v:Value}{L₁ L₂:List Qw}{Q:Qa T->Prop}(G:U.M.Perm (L₁++.obj b (.cells c e (0,0))::L₂))(H:i<c.size)(N:v.single=true)
  (h:∀f:Qa T,f.I=U.I->f.tok=U.tok->f.M=L₁++.obj b (.cells (c.setIfInBounds i v) e (0,0))::L₂->Q f):QX ((Addr.mk b 0 none).add i) [v] 0 (λ U'=>∃f,Qv U' f/\Q f) U:=by
 obtain⟨X,Y,B,L⟩:=SN G;refine QX.mono (K:=λ U'=>∃f,Qv U' f/\∃z,Qv f z/\Q z) (λ U'⟨f,h1,z,h2,E⟩=>⟨z,h1.trans h2,E⟩) _ _ _ (WM X B H N λ f F ht w=>?_);exact⟨{ f with M:=L₁++.obj b (.cells (c.setIfInBounds i v) e (0,0))::L₂ },Wp (by rw[w];exact Uf L _),h _ F ht rfl⟩
def Yj{b:Nat}{e:TypeId}{c:Array Value}{vs:List Value}{L₁ L₂:List Qw}{Q:Qa T->Prop}(H:U.M.Perm (L₁++.obj b (.cells c e (0,0))::L₂))(B:c.size=vs.length)(N:∀v∈vs,v.single=true)
  (h:∀f:Qa T,f.I=U.I->f.tok=U.tok->f.M=L₁++.obj b (.cells vs.toArray e (0,0))::L₂->Q f):QX ⟨b,0,none⟩ vs 0 (λ U'=>∃f,Qv U' f/\Q f) U:=by
 obtain⟨X,Y,E,L⟩:=SN H;refine QX.mono (K:=λ U'=>∃f,Qv U' f/\∃z,Qv f z/\Q z) (λ U'⟨f,h1,z,h2,F⟩=>⟨z,h1.trans h2,F⟩) _ _ _ (Wd X E B N λ f G ht w=>?_);exact⟨{ f with M:=L₁++.obj b (.cells vs.toArray e (0,0))::L₂ },Wp (by rw[w];exact Uf L _),h _ G ht rfl⟩
def yU{b:Nat}{o:Obj}{M L₁ L₂:List Qw}(h:M.Perm (L₁++.obj b o::L₂)):∃M':Obj->List Qw,∀f,J0 b f o M (M' f)/\(M' f).Perm (L₁++.obj b f::L₂):=by
 obtain⟨X,Y,e,w⟩:=SN h;exact⟨λ f=>X++.obj b f::Y,λ f=>⟨by rw[e];exact P9 .here X,Uf w _⟩⟩
def jD{b:Nat}{c:Array Value}{t:TypeId}{M' M₀:List Qw}{Q:Qa T->Prop}(hf:U.free b)(w:U.M.Perm (M'++M₀))(h:∀f:Qa T,(∀x o,U.I x=some o->f.I x=some o)->f.tok=U.tok->f.M=M'->Zi f b c->Q f):∃f,Qv (U.put b (.cells c t)) f/\Q f:=
 ⟨_,(Wa (b:=b) (M':=U.M) (Perm.refl _)).trans (IG (M':=M') ⟨M₀,w⟩),h _ (Gt (o:=.cells c t) hf).imm rfl rfl Zi.new⟩
def ZR(L:List Nat):List Value:=L.map λ n=>.int .i64 (n:Nat)
def Dr(L:List Nat):(ZR L).length=L.length:=by simp[ZR]
def Lh{L:List Nat}{i:Nat}(h:i<L.length):(ZR L)[i]?=some (.int .i64 (L.getD i 0:Nat)):=by
 simp[ZR,getD_eq_getElem?_getD,getElem?_eq_getElem h]
def Ds(L:List Nat)(i v:Nat):(ZR L).toArray.setIfInBounds i (.int .i64 (v:Nat))=(ZR (L.set i v)).toArray:=by
 simp[ZR,map_set]
def gb(n:Nat):replicate n (Value.int .i64 0)=ZR (replicate n 0):=by simp[ZR]
abbrev QQ:Int->Value:=λ k=>.int .i64 k
def JE(m:Nat)(ky:Nat->Int)(vl:Nat->Value):List (Int×Value):=(range m).map λ p=>(ky p,vl p)
def Dl(m:Nat)(ky:Nat->Int)(vl:Nat->Value):(JE m ky vl).length=m:=by simp[JE]
def Ii(m:Nat)(ky:Nat->Int)(vl:Nat->Value):JE (m+1) ky vl=JE m ky vl++[(ky m,vl m)]:=by simp[JE,range_succ]
def SR{m p:Nat}{ky:Nat->Int}{vl:Nat->Value}(h:p<m):(JE m ky vl)[p]?=some (ky p,vl p):=by simp[JE,h]
def ji{m:Nat}{ky b:Nat->Int}{vl f:Nat->Value}(h:∀p,p<m->ky p=b p/\vl p=f p):JE m ky vl=JE m b f:=
 map_congr_left λ p w=>by obtain⟨h1,h2⟩:=h p (by simpa using w);rw[h1,h2]
def IS{κ:Type}[DecidableEq κ]{k:κ}{v:Value}:∀{l:List (κ×Value)}(i:Nat),l.Pairwise (λ a b=>a.1≠b.1)->(k,v)∈l->(QL k l i).map (·.2)=some v
 |[],_,_,h=>by cases h
 |p::l,i,f,h=>by
  obtain⟨h1,h2⟩:=pairwise_cons.1 f;simp only[QL];rcases mem_cons.1 h with e|h
  .subst e;simp
  .rw[if_neg λ e=>h1 _ h e.symm];exact IS (i+1) h2 h
def IT{κ:Type}[DecidableEq κ]{k:κ}:∀{l:List (κ×Value)}(i:Nat),(∀p∈l,p.1≠k)->QL k l i=none
 |[],_,_=>rfl
 |p::l,i,h=>by
  simp only[QL];rw[if_neg λ e=>h p S1 e.symm];exact IT (i+1) λ q b=>h q (by simp[b])
def Le{m p:Nat}{ky:Nat->Int}{vl:Nat->Value}(h:p<m)(w:∀q r,q<m->r<m->ky q=ky r->q=r):lk (ky p) (JE m ky vl)=some (vl p):=by
 refine IS 0 ?_ (mem_of_getElem? (SR h));unfold JE;rw[pairwise_map];refine Pairwise.imp_of_mem (R:=λ a b=>a≠b) (λ{a b}ha hb f e=>f (w a b (by simpa using ha) (by simpa using hb) e)) nodup_range
def YH{m:Nat}{k:Int}{ky:Nat->Int}{vl:Nat->Value}(h:∀q,q<m->ky q≠k):lk k (JE m ky vl)=none/\∀v,ZA k v (JE m ky vl)=JE m ky vl++[(k,v)]:=by
 have:QL k (JE m ky vl) 0=none:=IT 0 λ p b=>by
  unfold JE at b;obtain⟨q,f,rfl⟩:=mem_map.1 b;exact h q (by simpa using f)
 exact⟨by unfold lk;rw[this];rfl,λ v=>Sq this⟩
end Go.TM
namespace Go.Proofs
open Go.TM
def PB{T:Type}:WG T prog 3 QQ:=by
 have b:prog.underlying 3=some (.int .i64):=K1
 exact .simple b rfl (λ k k'=>by simp[Instr.sameNow];rfl) (λ k=>by simp[Instr.sameBits])
def VL:prog.underlying 143=some (.map 3 3):=K1
def Oz:prog.underlying 130=some (.map 3 53):=K1
def vk:Xa prog 53=some (.int .i64 0):=K1
end Go.Proofs
namespace Go.TM
variable{T:Type}{U:Qa T}
def Ef{a:Option Addr}{l:List Int}(h:Z6 U a l.length l):Q7 U a l.length 1 l (λ x vs=>vs=[.int .i64 x]):=by
 refine⟨rfl,λ i x hx=>?_⟩;obtain⟨f,e,w,z⟩:=h.2 i x hx;refine⟨f,_,e,w,rfl,rfl,λ k v b=>?_⟩;cases k with
 |zero=>
  simp at b;subst b;obtain⟨bb,B,E⟩:=f;cases w;rw[Qo]at z;rw[Qo,Qo,Nat.add_zero];exact z
 |succ k=>simp at b
end Go.TM
namespace Go.TM
variable{T:Type}{P:Program}{S:Sys P T}{U U':Qa T}
def Bk.setA(b:Bk)(q:Nat)(l:List Int):Bk:=⟨b.rs,b.cs.set q { b.cas q with af:=l }⟩
structure yF(U:Qa T)(h:BH)(b:Bk)(M₀:List Qw)(q:Nat)(a0:Option Addr)(l0 c0:Nat)(kF:List Qw)(cb:Nat)(cc:Array Value)(rest:List Qw):Prop where
 ca:h.ca=some ⟨cb,0,none⟩
 lt:q<h.cl
 sz:q*4+3<cc.size
 at3:cc.toList[q*4+3]?=some (.slice a0 l0 c0)
 acc:Jo 3 1 (.slice a0 l0 c0) ((b.cas q).af.map λ n=>.int .i64 n) kF
 len:(b.cas q).af.length<=1000
 pm:U.M.Perm (kF++(.obj cb (.cells cc.toList.toArray 44 (0,0))::(rest++M₀)))
 back:∀(U':Qa T)(v':Value)(F':List Qw)(l':List Int)(M0':List Qw),U.frz.lg U'.frz->Jo 3 1 v' (l'.map λ n=>.int .i64 n) F'->l'.length<=1000->U'.M.Perm (F'++(.obj cb (.cells (cc.setIfInBounds (q*4+3) v') 44 (0,0))::(rest++M0')))->QR U' h (b.setA q l') M0'
def QR.openC{h:BH}{b:Bk}{M₀:List Qw}(ho:QR U h b M₀){q:Nat}(hq:q<b.cs.length):∃N l0 c0 M cb cc rest,yF U h b M₀ q N l0 c0 M cb cc rest:=by
 obtain⟨ps,A,K,I,S,hM⟩:=ho.ex;have aj:q<ps.length:=by rw[<- K,length_map]at hq;exact hq
 obtain⟨p,hp⟩:∃p,ps[q]?=some p:=⟨_,getElem?_eq_getElem aj⟩;obtain⟨X,Y,rfl,hX,ac⟩:=Dk hp;obtain⟨c,ae,ah,ag,kv,M⟩:=p
 have w:b.cas q=c:=by
  have:=congrArg (λ l=>l[q]?) K;simp only[getElem?_map,hp]at this;simp[Bk.cas,getD_eq_getElem?_getD,<- this]
 have B:=I _ (mem_of_getElem? hp);obtain⟨N,l0,c0,e0,ak⟩:=B.af.src;obtain rfl:kv=.slice N l0 c0:=e0;have hF:Jo 3 1 (.slice N l0 c0) (c.af.map λ n=>.int .i64 n) M:=B.af;obtain⟨cb,cc,Q,P,H,Z,aa,G,rfl,W⟩:=S.blk (by simp[Q_]);have ai:h.cl=Q:=by have:=Value.slice.inj H;exact this.2.1
 have T:h.ca=some ⟨cb,0,none⟩:=by have:=Value.slice.inj H;exact this.1
 have V:h.cc=P:=by have:=Value.slice.inj H;exact this.2.2
 have z:=Z;rw[Qz Zz]at z;have ab:q<h.cl:=O1
 have ad:q*4+3<cc.size:=by rw[G];omega
 refine⟨N,l0,c0,M,cb,cc,X.flatMap (·.2.F)++Y.flatMap (·.2.F),⟨T,ab,ad,?_,by rw[w];exact hF,by rw[w];exact B.al,?_,?_⟩⟩
 .rw[Array.getElem?_toList];exact W _ _ (P5 Zz hp (by omega:3<4))
 .refine hM.trans ?_;rw[flatMap_append,flatMap_cons];show Perm (.obj cb (.cells cc 44 (0,0))::(X.flatMap (·.2.F)++(M++Y.flatMap (·.2.F))++M₀)) _;refine Perm.trans (Perm.cons _ ?_) perm_middle.symm;rw[<- append_assoc M];refine Perm.append_right _ ?_;rw[<- append_assoc,<- append_assoc];exact Perm.append_right _ perm_append_comm
 .intro U' v' F' l' M0' hz hF' hl' hM';refine⟨⟨X++({ c with af:=l' },⟨ae,ah,ag,v',F'⟩)::Y,[.obj cb (.cells (cc.setIfInBounds (q*4+3) v') 44 (0,0))],?_,?_,?_,?_⟩,ho.rs.lg hz λ _ _ h=>h,ho.rl,ho.rn,ho.rc⟩
  .show _=(b.cs.set q { b.cas q with af:=l' });rw[w,<- K,<- map_set (f:=λ p:Cs×ZK=>p.1) (a:=({ c with af:=l' },(⟨ae,ah,ag,v',F'⟩:ZK)))];rw[ac]
  .intro r L;rw[mem_append,mem_cons]at L;rcases L with L|rfl|L
   .exact(I r (by simp[L])).lg hz
   .have:=B.lg hz;exact⟨this.gs,this.gl,hF',this.nm,hl'⟩
   .exact(I r (by simp[L])).lg hz
  .rw[T,ai,V];refine .ofBlk ?_ aa (by simp[G]) λ i x hx=>?_
   .rw[Qz Zz];simpa using z
   .have hlen1:(X.flatMap Q_).length=q*4:=by rw[Qz Zz,hX]
    rw[Array.getElem?_setIfInBounds];rw[flatMap_append,flatMap_cons]at hx;have E:=W i;rw[flatMap_append,flatMap_cons]at E;by_cases e:q*4+3=i
    .subst e;rw[if_pos rfl,if_pos ad];rw[getElem?_append_right O1,hlen1,Nat.add_sub_cancel_left,getElem?_append_left (by rw[Zz];omega)]at hx;exact hx
    .rw[if_neg e];refine E x ?_;by_cases h1:i<q*4
     .rw[getElem?_append_left O1]at hx ⊢;exact hx
     .rw[getElem?_append_right O1,hlen1]at hx ⊢;by_cases h2:i-q*4<4
      .rw[getElem?_append_left (by rw[Zz];exact h2)]at hx ⊢;have:i-q*4=0\/i-q*4=1\/i-q*4=2:=O1
       rcases this with e|e|e <;> rw[e]at hx ⊢ <;> exact hx
      .rw[getElem?_append_right (by rw[Zz];omega)]at hx ⊢;exact hx
  .refine hM'.trans ?_;rw[flatMap_append,flatMap_cons];show Perm _ (.obj cb _::(X.flatMap (·.2.F)++(F'++Y.flatMap (·.2.F))++M0'));refine Perm.trans perm_middle (Perm.cons _ ?_);rw[<- append_assoc F'];refine Perm.append_right _ ?_;rw[<- append_assoc,<- append_assoc];exact Perm.append_right _ perm_append_comm
def Bk.woL(b:Bk)(K:List Nat)(g:Nat->List Int):List Cs:=(range K.length).map λ p=>{ b.cas (K.getD p 0)with af:=g p }
def Bk.woL_len(b:Bk)(K:List Nat)(g:Nat->List Int):(b.woL K g).length=K.length:=by simp[Bk.woL]
def Bk.woL_at{b:Bk}{K:List Nat}{g:Nat->List Int}{q:Nat}(h:q<K.length):(b.woL K g)[q]?=some { b.cas (K.getD q 0)with af:=g q }:=by simp[Bk.woL,h]
def Bk.woL_set{b:Bk}{K:List Nat}{g:Nat->List Int}{q:Nat}(h:q<K.length)(l:List Int):(Bk.mk b.rs (b.woL K g)).setA q l=Bk.mk b.rs (b.woL K λ p=>if p=q then l else g p):=by
 have w:(Bk.mk b.rs (b.woL K g)).cas q={ b.cas (K.getD q 0)with af:=g q }:=Bk.cas_at (Bk.woL_at h);unfold Bk.setA;rw[w];congr 1;apply ext_getElem?;intro i;rw[getElem?_set];by_cases e:q=i
 .subst e;rw[if_pos rfl,if_pos (by rw[Bk.woL_len];exact h),Bk.woL_at h,if_pos rfl]
 .rw[if_neg e];by_cases f:i<K.length
  .rw[Bk.woL_at f,Bk.woL_at f,if_neg (Ne.symm e)]
  .rw[getElem?_eq_none (by rw[Bk.woL_len];omega),getElem?_eq_none (by rw[Bk.woL_len];omega)]
def Bk.woL_snoc(b:Bk)(K:List Nat)(k:Nat):b.woL (K++[k]) (λ _=>[])=b.woL K (λ _=>[])++[{ b.cas k with af:=[] }]:=by
 unfold Bk.woL;rw[length_append,length_cons,length_nil,range_succ,map_append];congr 1
 .refine map_congr_left λ p f=>?_;rw[mem_range]at f;rw[getD_eq_getElem?_getD,getElem?_append_left f,<- getD_eq_getElem?_getD]
 .simp[getD_eq_getElem?_getD]
def Bk.woL_congr{b:Bk}{K:List Nat}{g g':Nat->List Int}(h:∀p,p<K.length->g p=g' p):b.woL K g=b.woL K g':=
 map_congr_left λ p f=>by rw[h p (by simpa using f)]
def Bk.wo_woL{b:Bk}{f:Nat->Bool}{W:List Nat}(z:∀i,i<b.cs.length->∀k,(W.getD i 0).testBit k=QN b.A f b.cs.length i k) :
  b.wo f=Bk.mk b.rs (b.woL (Bk.kpt f b.cs.length) λ p=>Bk.afK f (W.getD ((Bk.kpt f b.cs.length).getD p 0) 0) b.cs.length):=by
 have h:=Bk.wo_cs (out:=f) b W z;have:b.wo f=Bk.mk b.rs (b.wo f).cs:=rfl;rw[this,h];congr 1;unfold Bk.woL;apply ext_getElem?;intro i;rw[Bk.kpt_all];by_cases w:i<(b.kept f).length
 .simp[w,getD_eq_getElem?_getD]
 .rw[getElem?_eq_none (by simpa using w),getElem?_eq_none (by simpa using w)]
abbrev JX(mb b h f:Nat)(r v:Value)(E:List (Int×Value))(L:List Nat)(M:List Qw):List Qw:=
 .obj mb (Qt QQ E)::.obj b (.cells [r,v].toArray 38 (0,0))::.obj h (.cells (ZR L).toArray 3 (0,0))::.obj f (.cells [.slice none 0 0,.slice none 0 0].toArray 92 (0,0))::M
def Jn(K:List Nat):List (Int×Value):=JE K.length (λ p=>(K.getD p 0:Nat)) λ p=>.int .i64 (p:Nat)
def Dp(K:List Nat):(Jn K).length=K.length:=Dl _ _ _
def IN{K:List Nat}{p:Nat}(h:p<K.length):(Jn K)[p]?=some (((K.getD p 0:Nat):Int),.int .i64 (p:Nat)):=SR h
def p_{K:List Nat}(b:K.Nodup){q r:Nat}(f:q<K.length)(w:r<K.length)(h:K.getD q 0=K.getD r 0):q=r:=by
 simp only[getD_eq_getElem?_getD,getElem?_eq_getElem f,getElem?_eq_getElem w,Option.getD_some]at h;exact(getElem_inj b).1 h
def S7{K:List Nat}{q:Nat}(b:q<K.length):K.getD q 0∈K:=by
 simp only[getD_eq_getElem?_getD,getElem?_eq_getElem b,Option.getD_some];exact getElem_mem b
def x_{K:List Nat}{k:Nat}(h:k∉K):ZA ((k:Nat):Int) (.int .i64 (K.length:Nat)) (Jn K)=Jn (K++[k]):=by
 have h1:=(YH (m:=K.length) (k:=((k:Nat):Int)) (ky:=λ p=>(K.getD p 0:Nat)) (vl:=λ p=>.int .i64 (p:Nat)) λ q f e=>h (by
  have e':K.getD q 0=k:=Int.ofNat.inj e;rw[<- e'];exact S7 f)).2 (.int .i64 (K.length:Nat))
 unfold Jn;rw[h1,length_append,length_cons,length_nil,Ii];congr 1
 .refine ji λ p b=>⟨?_,rfl⟩;rw[getD_eq_getElem?_getD,getD_eq_getElem?_getD,getElem?_append_left b]
 .simp[getD_eq_getElem?_getD]
def kh{K:List Nat}(b:K.Nodup){p:Nat}(f:p<K.length):lk ((K.getD p 0:Nat):Int) (Jn K)=some (.int .i64 (p:Nat)):=
 Le (m:=K.length) (ky:=λ p=>((K.getD p 0:Nat):Int)) (vl:=λ p=>.int .i64 (p:Nat)) f λ q r h w e=>p_ b h w (Int.ofNat.inj e)
def vH{K:List Nat}{k:Nat}(h:k∉K):lk ((k:Nat):Int) (Jn K)=none:=
 (YH (m:=K.length) (ky:=λ p=>((K.getD p 0:Nat):Int)) (vl:=λ p=>.int .i64 (p:Nat)) λ q b e=>h (by
  have e':K.getD q 0=k:=Int.ofNat.inj e;rw[<- e'];exact S7 b)).1
def IQ{f:Nat->Bool}{j:Nat}:∀{n:Nat},j<=n->∃Y,Bk.kpt f n=Bk.kpt f j++Y
 |0,h=>⟨[],by rw[Nat.le_zero.1 h];simp⟩
 |n+1,h=>by
  by_cases e:j=n+1
  .exact⟨[],by rw[e];simp⟩
  .obtain⟨Y,hY⟩:=IQ (f:=f) (j:=j) (n:=n) O1;cases hf:f n with
   |true=>exact⟨Y,by rw[Bk.kpt_out hf,hY]⟩
   |false=>exact⟨Y++[n],by rw[Bk.kpt_in hf,hY,append_assoc]⟩
def kR{f:Nat->Bool}{j n:Nat}(h:j<n)(hf:f j=false):(Bk.kpt f j).length<(Bk.kpt f n).length/\(Bk.kpt f n).getD (Bk.kpt f j).length 0=j:=by
 obtain⟨Y,b⟩:=IQ (f:=f) (show j+1<=n by omega);rw[Bk.kpt_in hf]at b;rw[b];constructor
 .simp
 .simp[getD_eq_getElem?_getD]
end Go.TM
namespace Go.Proofs
open Go.TM
variable{T:Type}{S:TM.Sys prog T}{U:Qa T}
attribute [local irreducible] Qb Zm Wo
set_option maxHeartbeats 4000000 in
def DK(h:BH)(b:Bk)(hb:Zs U.frz h b)(a8:b.Ok)(o:Nat)(ho:o<2^60):Qb S 46 #[h.v,.int .i64 o] (λ v U'=>(∃h':BH,v=h'.v/\Zs U'.frz h' (b.wo o.testBit)/\h'.rl<=h'.rc)/\U.le U') U:=by
 have bo:=hb.cs.1;have fz:=hb.rs.1;have fw:=a8.nc;have fx:=a8.nr;obtain⟨i3,fc,fe,ff,f1⟩:=IX;generalize dk:GN o.testBit b.cs.length b.cs.length (b.A.map Z4)=W;have hW:=a8.wlW o.testBit;rw[dk]at hW
 have dl:WB b.cs.length 5 (b.A.map Z4):=⟨by simp[b.A_length],λ x hx=>by
  obtain⟨l,hl,rfl⟩:=mem_map.1 hx;refine Nat.lt_of_lt_of_le (kw (n:=5) λ k hk=>?_) (Nat.le_refl _);simp only[Bk.A,mem_map]at hl;obtain⟨c,Y,rfl⟩:=hl;obtain⟨n,hn,rfl⟩:=mem_map.1 hk;have:=a8.af c Y n hn;unfold Bk.nc at this;omega⟩
 have eh:Qb S 46 #[h.v,.int .i64 o] (λ v U'=>(∃(h':BH)(Z:List Qw),v=h'.v/\QR U' h' (b.wo o.testBit) (Z++U.M))/\(∀x q,U.I x=some q->U'.I x=some q)/\U'.tok=U.tok) U:=by
  refine Qb.of (args:=[_,_]) OQ Qe S1 ?_
  repeat refine⟨rfl,?_⟩
  conv=>whnf
  intro B U1 bn hB;have hB:Zi U1 B #[.slice h.ra h.rl h.rc,.slice h.ca h.cl h.cc]:=hB
  conv=>whnf
  intro Q fq;refine⟨_,.refl _,?_⟩;have d1:=Z2 (U:=U1) Q (.cells #[.slice none 0 0,.slice none 0 0] 92);refine⟨_,(hB.lg d1).sees3 (o:=1) rfl,?_⟩
  conv=>whnf
  refine Ed (n:=h.cl) Pv fc fe rfl ff O1 rfl rfl O1 λ H f0=>?_;have cg:=d1.trans (Z2 (U:=U1.put Q (.cells #[.slice none 0 0,.slice none 0 0] 92)) H (.cells (replicate h.cl (Value.int .i64 0)).toArray 3));refine⟨_,(hB.lg cg).sees3 (o:=1) rfl,Nat,λ i=>[(1,.int .i64 o),(2,.pointer (some ⟨B,0,none⟩)),(4,.pointer (some ⟨Q,0,none⟩)),(5,.slice (some ⟨H,0,none⟩) h.cl h.cl),(26,.slice h.ca h.cl h.cc),(27,.int .i64 h.cl),(28,.int .i64 i)],
   λ i U'=>U1.frz.lg U'/\i<=h.cl/\U'.M=.obj H (.cells (ZR (Xw (b.A.map Z4) h.cl i)).toArray 3 (0,0))::.obj Q (.cells [.slice none 0 0,.slice none 0 0].toArray 92 (0,0))::U.M,λ i=>h.cl-i,0,T1,⟨Qr.trans cg,O1,?_⟩,?_⟩
  .rw[jv,<- gb];show _::_::U1.M=_;rw[bn.own]
  rintro i f U2⟨N,hi,hM⟩;have a5:Z7 ((i:Int)+1):=I1
  repeat refine⟨rfl,?_⟩
  conv=>whnf
  apply Qg<;>intro Y
  .have hlt:i<h.cl:=by simpa using Y
   obtain⟨ad,c,ga,gl,gc,aa,al,ac,hx,c1,ed,bg,-,-,ha,dm,ax⟩:=(hb.lg (bn.lg.frz2.trans N.frz2)).case hlt;have cy:=a8.toLow.lt ax;refine⟨ad,i,⟨c1,rfl,hlt⟩,_,⟨rfl,bg.lg Qr⟩,?_⟩
   conv=>whnf
   intro b7 es;refine⟨_,.refl _,rfl,Zv (vs:=[.string c.nm,.int .i64 c.ag,.slice ga gl gc,.slice aa al ac]) es rfl (by simp[Value.single]) λ U3 aq ep=>?_⟩;refine⟨_,ep.sees3 (o:=3) rfl,XN.any,(Z9 aa al ac c.af ((ha.lg aq.lg.frz2).lg Qr) dm cy).go λ _=>?_⟩;have eo:(b.A.map Z4)[i]?=some (Z4 (c.af.map Int.toNat)):=by simp[Bk.A,hx]
   have eu:=xW (X:=b.A.map Z4) (n:=h.cl) (i:=i) (by simp[b.A_length,bo]) hi;refine⟨⟨H,0,none⟩,i,⟨rfl,rfl,hlt⟩,rfl,?_⟩;rw[Nat.mul_one];refine WM (i:=i) (v:=.int .i64 (Z4 (c.af.map Int.toNat):Nat)) [] (aq.own.trans hM) (by simp[Dr,eu];omega) rfl λ U4 dc e9 ay=>?_;rw[Ds,xX eo (by simp[b.A_length,bo])]at ay;refine⟨a5,?_⟩
   conv=>whnf
   exact⟨rfl,i+1,T1,⟨⟨λ x q hx=>by rw[dc];exact aq.imm x q (N.imm x q hx),⟨_,(append_nil _).symm⟩,e9.trans (aq.tok.trans N.tok)⟩,O1,ay⟩,L1⟩
  have aj:i=h.cl:=by simp at Y;omega
  subst aj;rw[xV (by simp[b.A_length,bo])]at hM;refine⟨_,(hB.imI N.imm).sees3 (o:=1) rfl,Nat×List Nat,λ y=>[(1,.int .i64 o),(2,.pointer (some ⟨B,0,none⟩)),(4,.pointer (some ⟨Q,0,none⟩)),(5,.slice (some ⟨H,0,none⟩) h.cl h.cl),(43,.int .i64 h.cl),(44,.int .i64 y.1)],
   λ y U'=>U1.frz.lg U'/\y.1<=h.cl/\U'.M=.obj H (.cells (ZR y.2).toArray 3 (0,0))::.obj Q (.cells [.slice none 0 0,.slice none 0 0].toArray 92 (0,0))::U.M/\WB h.cl 5 y.2/\GN o.testBit h.cl (h.cl-y.1) y.2=W,λ y=>h.cl-y.1,(0,b.A.map Z4),T1,⟨N,O1,hM,by rw[<- bo];exact dl,by rw[<- dk,bo];rfl⟩,?_⟩
  clear hM N a5 hi;rintro⟨r,L⟩f U2⟨N,hr,hM,bm,a6⟩;simp only at hr hM bm a6;have dy:Z7 ((r:Int)+1):=I1
  repeat refine⟨rfl,?_⟩
  conv=>whnf
  apply Qg<;>intro Y
  .have hrt:r<h.cl:=by simpa using Y
   rw[show h.cl-r=(h.cl-(r+1))+1 by omega]at a6
   refine⟨Nat,λ i=>[(1,.int .i64 o),(2,.pointer (some ⟨B,0,none⟩)),(4,.pointer (some ⟨Q,0,none⟩)),(5,.slice (some ⟨H,0,none⟩) h.cl h.cl),(43,.int .i64 h.cl),(44,.int .i64 r),(47,.int .i64 h.cl),(48,.int .i64 i)],
    λ i U'=>U1.frz.lg U'/\i<=h.cl/\U'.M=.obj H (.cells (ZR (XE o.testBit h.cl L i)).toArray 3 (0,0))::.obj Q (.cells [.slice none 0 0,.slice none 0 0].toArray 92 (0,0))::U.M,λ i=>h.cl-i,0,T1,⟨N,O1,hM⟩,?_⟩
   rintro i f U3⟨ab,hi,av⟩;have a5:Z7 ((i:Int)+1):=I1
   have ef:=bm.rto (out:=o.testBit) i
   repeat refine⟨rfl,?_⟩
   conv=>whnf
   apply Qg<;>intro Y
   .have hit:i<h.cl:=by simpa using Y
    refine⟨_,(hB.imI ab.imm).sees3 (o:=1) rfl,Nat,λ k=>[(1,.int .i64 o),(2,.pointer (some ⟨B,0,none⟩)),(4,.pointer (some ⟨Q,0,none⟩)),(5,.slice (some ⟨H,0,none⟩) h.cl h.cl),(8,.int .i64 i),(43,.int .i64 h.cl),(44,.int .i64 r),(47,.int .i64 h.cl),(48,.int .i64 i),(54,.int .i64 h.cl),(55,.int .i64 k)],
     λ k U'=>U1.frz.lg U'/\k<=h.cl/\U'.M=.obj H (.cells (ZR (XZ o.testBit i (XE o.testBit h.cl L i) k)).toArray 3 (0,0))::.obj Q (.cells [.slice none 0 0,.slice none 0 0].toArray 92 (0,0))::U.M,λ k=>h.cl-k,0,T1,⟨ab,O1,av⟩,?_⟩
    rintro k f U4⟨ao,hk,ay⟩;have ak:Z7 ((k:Int)+1):=I1
    have b5:=ef.to (out:=o.testBit) (i:=i) k;have P:=Il o.testBit i (XE o.testBit h.cl L i) k;generalize de:XZ o.testBit i (XE o.testBit h.cl L i) k=Lk at ay b5 P;unfold WR at P;have bq:∀j,Lk.getD j 0<2^60:=λ j=>Nat.lt_trans (b5.at j) D1
    have bg:∀j,j<h.cl->U4.sees ((Addr.mk H 0 none).add (j*1)) (.int .i64 (Lk.getD j 0:Nat)):=λ j hj=>by
     rw[Nat.mul_one];exact Q9 [] ay j _ (Lh (by rw[b5.len];exact hj))
    repeat refine⟨rfl,?_⟩
    conv=>whnf
    apply Qg<;>intro Y
    .have hkt:k<h.cl:=by simpa using Y
     have a4:=HO (bq i) (show k<60 by omega);have bt:=HO ho (show k<60 by omega);refine⟨⟨H,0,none⟩,i,⟨rfl,rfl,hit⟩,_,bg i hit,O1,?_⟩
     repeat refine⟨rfl,?_⟩
     conv=>whnf
     apply Jt<;>intro Y
     .have hb1:(Lk.getD i 0).testBit k=true:=a4.symm.trans Y;rw[hb1,Bool.true_and]at P;refine⟨O1,?_⟩
      repeat refine⟨rfl,?_⟩
      conv=>whnf
      apply Qg<;>intro Y
      .have hb2:o.testBit k=true:=bt.symm.trans Y;rw[if_pos hb2]at P;refine⟨⟨H,0,none⟩,i,⟨rfl,rfl,hit⟩,_,bg i hit,⟨H,0,none⟩,k,⟨rfl,rfl,hkt⟩,_,bg k hkt,?_⟩
       conv=>whnf
       intro U5 cv _;refine⟨rfl,⟨H,0,none⟩,i,⟨rfl,rfl,hit⟩,rfl,?_⟩;rw[Nat.mul_one];refine WM (i:=i) [] (cv.own.trans ay) (by simp[Dr,b5.len];omega) rfl λ U6 dd ee dg=>?_
       have df:U6.M=.obj H (.cells (ZR (XZ o.testBit i (XE o.testBit h.cl L i) (k+1))).toArray 3 (0,0))::.obj Q (.cells [.slice none 0 0,.slice none 0 0].toArray 92 (0,0))::U.M:=by
        rw[P,<- Ds,<- Ul (bq i) (bq k)];exact dg
       refine⟨ak,?_⟩
       conv=>whnf
       exact⟨rfl,k+1,T1,⟨⟨λ x q hx=>by rw[dd];exact cv.imm x q (ao.imm x q hx),⟨_,(append_nil _).symm⟩,ee.trans (cv.tok.trans ao.tok)⟩,O1,df⟩,L1⟩
      .have hb2:o.testBit k=false:=bt.symm.trans Y;rw[hb2,if_neg S1]at P;refine⟨ak,?_⟩
       conv=>whnf
       exact⟨rfl,k+1,T1,⟨ao,O1,by rw[P];exact ay⟩,L1⟩
     .have hb1:(Lk.getD i 0).testBit k=false:=a4.symm.trans Y;rw[hb1,Bool.false_and,if_neg S1]at P;refine⟨ak,?_⟩
      conv=>whnf
      exact⟨rfl,k+1,T1,⟨ao,O1,by rw[P];exact ay⟩,L1⟩
    .have aj:k=h.cl:=by simp at Y;omega
     subst aj;rw[Do,<- In]at de;subst de;refine⟨a5,?_⟩
     conv=>whnf
     exact⟨rfl,i+1,T1,⟨ao,O1,ay⟩,L1⟩
   .have aj:i=h.cl:=by simp at Y;omega
    subst aj;refine⟨dy,?_⟩
    conv=>whnf
    exact⟨rfl,(r+1,XE o.testBit h.cl L h.cl),T1,⟨ab,by show r+1<=h.cl;omega,av,ef,a6⟩,L1⟩
  have aj:r=h.cl:=by simp at Y;omega
  subst aj;rw[Nat.sub_self]at a6;obtain rfl:L=W:=a6;have bq:∀j,L.getD j 0<2^60:=λ j=>Nat.lt_trans (bm.at j) D1;have dv:U.frz.lg U2.frz:=bn.lg.frz2.trans N.frz2;refine⟨_,(hB.imI N.imm).sees3 (o:=0) rfl,Tf.any,(DO h.ra h.rl h.rc b.rs ((hb.rs.lg dv λ _ _ h=>h).lg Qr λ _ _ h=>h) O1).mono ?_⟩;rintro _ U3⟨⟨ra,rl,rc,rfl,c6,eb⟩,aq⟩-
  conv=>whnf
  intro z dt;refine⟨_,.refl _,rfl,HK (vs:=[.slice ra rl rc,.slice none 0 0]) rfl (by simp[Value.single]) ?_⟩
  conv=>whnf
  refine P1 QQ λ mb e4=>?_;have ab:U1.frz.lg U3:=N.trans aq.lg;have fk:=eb.1
  let K:Nat->List Nat:=λ j=>Bk.kpt o.testBit j
  have av:((U3.put z (.cells [.slice ra rl rc,.slice none 0 0].toArray 38)).put mb (Qt QQ [])).M=JX mb z H Q (.slice ra rl rc) (.slice none 0 0) (Jn (K 0)) L U.M:=by
   show _::_::U3.M=_;rw[aq.own,hM];rfl
  have bj:U1.frz.lg ((U3.put z (.cells [.slice ra rl rc,.slice none 0 0].toArray 38)).put mb (Qt QQ [])):=⟨ab.imm,⟨_,(append_nil _).symm⟩,ab.tok⟩;have bz:Q7 ((U3.put z (.cells [.slice ra rl rc,.slice none 0 0].toArray 38)).put mb (Qt QQ [])).frz ra rl 1 b.rs λ s vs=>vs=[.string s]:=eb;generalize((U3.put z (.cells [.slice ra rl rc,.slice none 0 0].toArray 38)).put mb (Qt QQ []))=U4 at av bj bz ⊢;refine⟨_,(hB.imI bj.imm).sees3 (o:=1) rfl,Nat×Value,λ y=>[(1,.int .i64 o),(2,.pointer (some ⟨B,0,none⟩)),(4,.pointer (some ⟨Q,0,none⟩)),(5,.slice (some ⟨H,0,none⟩) h.cl h.cl),(10,.pointer (some ⟨z,0,none⟩)),(11,.map (some mb)),(94,.slice h.ca h.cl h.cc),(95,.int .i64 h.cl),(96,.int .i64 y.1)],
   λ y U'=>U4.frz.lg U'/\y.1<=h.cl/\∃(ps:List (Cs×ZK))(A:List Qw),ps.map (·.1)=b.woL (K y.1) (λ _=>[])/\(∀p∈ps,WY U' p/\p.2.F=[])/\Jo 44 4 y.2 (ps.flatMap Q_) A/\U'.M=A++JX mb z H Q (.slice ra rl rc) y.2 (Jn (K y.1)) L U.M,λ y=>h.cl-y.1,(0,.slice none 0 0),T1,⟨⟨λ _ _ h=>h,⟨_,(append_nil _).symm⟩,rfl⟩,O1,[],[],rfl,S1,.nil,av⟩,?_⟩
  clear hM N av aq ab dt e4;rintro⟨i,v⟩f U5⟨N,hi,ps,A,bp,ap,aw,hM⟩;simp only at bp aw hM hi;obtain⟨sa,sl,sc,rfl,e7⟩:=aw.src;rw[Qz Zz]at e7
  have fy:ps.length=(K i).length:=by
   have:=congrArg List.length bp
   rwa [length_map,Bk.woL_len]at this
  have fo:(K i).length<=i:=Bk.kpt_len i;have a5:Z7 ((i:Int)+1):=I1
  have an:U1.frz.lg U5:=⟨λ x q hx=>N.imm x q (bj.imm x q hx),⟨_,(append_nil _).symm⟩,N.tok.trans bj.tok⟩
  repeat refine⟨rfl,?_⟩
  conv=>whnf
  apply Qg<;>intro Y
  .have hlt:i<h.cl:=by simpa using Y
   have bt:=HO ho (show i<60 by omega);obtain⟨ad,c,ga,gl,gc,aa,al,ac,hx,c1,ed,bg,dx,ft,ha,dm,ax⟩:=(hb.lg (bn.lg.frz2.trans an.frz2)).case hlt;have dp:=Bk.cas_at hx;have ev:=a8.gs c ax;have fh:=a8.gl c ax;have dq:=hb.cn c ax;have fg:=(a8.asc ax).1;have fi:=dx.1;have cf:=ha.1;refine⟨ad,i,⟨c1,rfl,hlt⟩,_,⟨rfl,bg.lg Qr⟩,?_⟩
   conv=>whnf
   intro ai du;refine⟨_,.refl _,?_⟩;cases a1:o.testBit i with
   |true=>
    have br:K (i+1)=K i:=Bk.kpt_out a1;refine⟨rfl,Zv (vs:=[.string c.nm,.int .i64 c.ag,.slice ga gl gc,.slice aa al ac]) du rfl (by simp[Value.single]) λ U6 cw _=>?_⟩;refine⟨O1,?_⟩
    repeat refine⟨rfl,?_⟩
    conv=>whnf
    apply Qg<;>intro Y
    .refine⟨a5,?_⟩
     conv=>whnf
     exact⟨rfl,(i+1,.slice sa sl sc),T1,⟨N.trans cw.lg,by show i+1<=h.cl;omega,ps,A,by show _=b.woL (K (i+1)) _;rw[br];exact bp,λ p hp=>⟨(ap p hp).1.lg cw.lg.frz2,(ap p hp).2⟩,aw,by show _=A++JX mb z H Q _ _ (Jn (K (i+1))) L U.M;rw[br];exact cw.own.trans hM⟩,L1⟩
    .have:=bt.symm.trans Y;rw[a1]at this;cases this
   |false=>
    have br:K (i+1)=K i++[i]:=Bk.kpt_in a1;have d4:i∉K i:=λ hm=>absurd (Bk.kpt_lt hm).1 (Nat.lt_irrefl _);refine⟨rfl,HK (vs:=[.string c.nm,.int .i64 c.ag,.slice ga gl gc,.slice aa al ac]) rfl (by simp[Value.single]) ?_⟩
    have cr:(U5.put ai (.cells [.string c.nm,.int .i64 c.ag,.slice ga gl gc,.slice aa al ac].toArray 44)).M=(.obj ai (.cells [.string c.nm,.int .i64 c.ag,.slice ga gl gc,.slice aa al ac].toArray 44 (0,0))::A)++JX mb z H Q (.slice ra rl rc) (.slice sa sl sc) (Jn (K i)) L U.M:=by
     show _::U5.M=_;rw[hM];rfl
    have c9:U5.frz.lg (U5.put ai (.cells [.string c.nm,.int .i64 c.ag,.slice ga gl gc,.slice aa al ac].toArray 44)):=⟨λ _ _ h=>h,⟨_,(append_nil _).symm⟩,rfl⟩;generalize(U5.put ai (.cells [.string c.nm,.int .i64 c.ag,.slice ga gl gc,.slice aa al ac].toArray 44))=U6 at cr c9 ⊢;refine⟨O1,?_⟩
    repeat refine⟨rfl,?_⟩
    conv=>whnf
    apply Qg<;>intro Y
    .have:=bt.symm.trans Y;rw[a1]at this;cases this
    refine⟨_,(Jy (b:=z) (e:=38) (vs:=[.slice ra rl rc,.slice sa sl sc]) (by rw[cr];simp)).cell (i:=1) rfl,?_⟩
    conv=>whnf
    obtain⟨Mu,di⟩:=yU (M:=U6.M) (b:=mb) (o:=Qt QQ (Jn (K i))) (L₁:=.obj ai (.cells [.string c.nm,.int .i64 c.ag,.slice ga gl gc,.slice aa al ac].toArray 44 (0,0))::A) (L₂:=.obj z (.cells [.slice ra rl rc,.slice sa sl sc].toArray 38 (0,0))::.obj H (.cells (ZR L).toArray 3 (0,0))::.obj Q (.cells [.slice none 0 0,.slice none 0 0].toArray 92 (0,0))::U.M) (by rw[cr]);have ec:(.int .i64 (sl:Int):Value)=.int .i64 ((K i).length:Nat):=by rw[show sl=(K i).length by omega]
    refine YF (b:=mb) (k:=((i:Nat):Int)) (l:=Jn (K i)) (v:=.int .i64 sl) (M':=Mu (Qt QQ (Jn (K (i+1))))) PB VL rfl rfl rfl (by rw[ec,x_ d4,<- br];exact(di _).1) ?_;have c5:({ U6 with M:=Mu (Qt QQ (Jn (K (i+1)))) }:Qa T).M.Perm _:=(di (Qt QQ (Jn (K (i+1))))).2;have b1:U5.frz.lg ({ U6 with M:=Mu (Qt QQ (Jn (K (i+1)))) }:Qa T):=⟨c9.imm,⟨_,(append_nil _).symm⟩,c9.tok⟩;generalize({ U6 with M:=Mu (Qt QQ (Jn (K (i+1)))) }:Qa T)=Ux at c5 b1 ⊢;refine⟨_,⟨rfl,Jy (b:=ai) (e:=44) (vs:=[.string c.nm,.int .i64 c.ag,.slice ga gl gc,.slice aa al ac]) (c5.mem_iff.2 S1)⟩,?_⟩;refine⟨Tg.any,(DJ (U:=Ux) c ga aa gl gc al ac (dx.lg b1.frz2) O1 (ha.lg b1.frz2) O1 (λ g hg=>by have:=(ev g hg).1;omega) dq).mono ?_⟩;rintro _ U7⟨⟨⟨a9,bc,ba,kv,kF⟩,rfl,hk,bi⟩,bh,bl⟩-;obtain⟨a0,l0,c0,e0,-⟩:=hk.af.src;obtain rfl:kv=.slice a0 l0 c0:=e0
    have d6:U7.M.Perm (kF++(.obj ai (.cells [.string c.nm,.int .i64 c.ag,.slice ga gl gc,.slice aa al ac].toArray 44 (0,0))::(A++JX mb z H Q (.slice ra rl rc) (.slice sa sl sc) (Jn (K (i+1))) L U.M))):=by
     rw[bi];exact Perm.append_left _ c5
    have ej:∀x q,U5.I x=some q->U7.I x=some q:=λ x q hx=>bh x q (b1.imm x q hx);have fa:U7.tok=U5.tok:=bl.trans b1.tok;refine⟨rfl,Yj (vs:=[.string c.nm,.int .i64 c.ag,.slice a9 bc ba,.slice a0 l0 c0]) d6 rfl (by simp[Value.single]) λ U8 b8 ck dh=>?_⟩;refine⟨rfl,oj (b:=ai) (e:=44) (c:=[.string c.nm,.int .i64 c.ag,.slice a9 bc ba,.slice a0 l0 c0].toArray) (L₁:=kF) (L₂:=A++JX mb z H Q (.slice ra rl rc) (.slice sa sl sc) (Jn (K (i+1))) L U.M) (i:=3) (v:=.slice none 0 0) (by rw[dh]) (by show 3<4;omega) rfl λ U9 b9 cm a3=>?_⟩;have a3:U9.M=kF++.obj ai (.cells [.string c.nm,.int .i64 c.ag,.slice a9 bc ba,.slice none 0 0].toArray 44 (0,0))::(A++JX mb z H Q (.slice ra rl rc) (.slice sa sl sc) (Jn (K (i+1))) L U.M):=a3;have da:U5.frz.lg U9.frz:=⟨λ x q hx=>by show U9.I x=_;rw[b9,b8];exact ej x q hx,⟨[],rfl⟩,by show U9.tok=_;rw[cm,ck];exact fa⟩;have eg:U7.frz.lg U9.frz:=⟨λ x q hx=>by show U9.I x=_;rw[b9,b8];exact hx,⟨[],rfl⟩,by show U9.tok=_;rw[cm,ck];rfl⟩;refine⟨_,(Jy (b:=z) (e:=38) (vs:=[.slice ra rl rc,.slice sa sl sc]) (by rw[a3];simp)).cell (i:=1) rfl,?_⟩;refine⟨_,⟨rfl,Jy (b:=ai) (e:=44) (vs:=[.string c.nm,.int .i64 c.ag,.slice a9 bc ba,.slice none 0 0]) (by rw[a3];simp)⟩,?_⟩
    conv=>whnf
    intro bb et
    refine jD (M':=A++JX mb z H Q (.slice ra rl rc) (.slice sa sl sc) (Jn (K (i+1))) L U.M) (M₀:=kF++[.obj ai (.cells [.string c.nm,.int .i64 c.ag,.slice a9 bc ba,.slice none 0 0].toArray 44 (0,0))]) et (by
     rw[a3];refine Perm.trans ?_ perm_append_comm;rw[append_assoc];exact Perm.refl _) λ Ua cp c8 ct cz=>?_
    have b0:U9.frz.lg Ua.frz:=⟨cp,⟨[],rfl⟩,c8⟩;have cz:Zi Ua bb (Q_ (({ c with af:=[] }:Cs),(⟨a9,bc,ba,.slice none 0 0,[]⟩:ZK))).toArray:=cz
    conv=>whnf
    refine Wn (v:=.slice sa sl sc) (cs:=ps.flatMap Q_) (new:=Q_ (({ c with af:=[] }:Cs),(⟨a9,bc,ba,.slice none 0 0,[]⟩:ZK))) (M₀:=JX mb z H Q (.slice ra rl rc) (.slice sa sl sc) (Jn (K (i+1))) L U.M) If rfl rfl (by rw[ct];exact aw _) (.inr ⟨_,rfl,cz.rd⟩) rfl (by simp[Q_,Value.single]) (by rw[Qz Zz,Zz];omega) λ v' M' cx _=>?_;obtain⟨co,cq,ce⟩:=cx.split;obtain⟨ta,tl,tc,rfl,-⟩:=ce.src;refine⟨rfl,WM (b:=z) (e:=38) (c:=[.slice ra rl rc,.slice sa sl sc].toArray) (M₀:=.obj H (.cells (ZR L).toArray 3 (0,0))::.obj Q (.cells [.slice none 0 0,.slice none 0 0].toArray 92 (0,0))::U.M) (i:=1) (v:=.slice ta tl tc) (co++[.obj mb (Qt QQ (Jn (K (i+1))))]) (by show M'=_;rw[cq];simp) (by show 1<2;omega) rfl λ Uc ek fb cu=>?_⟩;have cu:Uc.M=co++JX mb z H Q (.slice ra rl rc) (.slice ta tl tc) (Jn (K (i+1))) L U.M:=by rw[cu];simp
    have b6:U9.frz.lg Uc.frz:=b0.trans ⟨λ x q hx=>by show Uc.I x=_;rw[ek];exact hx,⟨[],rfl⟩,fb⟩;refine⟨a5,rfl,(i+1,.slice ta tl tc),T1,⟨⟨λ x q hx=>b6.imm x q (da.imm x q (N.imm x q hx)),⟨_,(append_nil _).symm⟩,b6.tok.trans (da.tok.trans N.tok)⟩,by show i+1<=h.cl;omega,ps++[(({ c with af:=[] }:Cs),(⟨a9,bc,ba,.slice none 0 0,[]⟩:ZK))],co,?_,?_,?_,cu⟩,L1⟩
    .show _=b.woL (K (i+1)) _;rw[br,Bk.woL_snoc,map_append,bp,dp];rfl
    .intro p hp;rcases mem_append.1 hp with hp|hp
     .exact⟨(ap p hp).1.lg (da.trans b6),(ap p hp).2⟩
     .rw[mem_singleton.1 hp];have:=hk.lg (eg.trans b6);exact⟨⟨this.gs,this.gl,.nil,this.nm,by show 0<=_;omega⟩,rfl⟩
    .rw[flatMap_append];simpa using ce
  have aj:i=h.cl:=by simp at Y;omega
  subst aj
  have E:QR U5 ⟨ra,rl,rc,sa,sl,sc⟩ (Bk.mk b.rs (b.woL (K h.cl) λ _=>[])) (JX mb z H Q (.slice ra rl rc) (.slice sa sl sc) (Jn (K h.cl)) L U.M):=by
   refine⟨⟨ps,A,bp,λ p hp=>(ap p hp).1,aw,?_⟩,bz.lg N.frz2 λ _ _ h=>h,by show rl<_;omega,hb.rn,c6⟩
   have:ps.flatMap (·.2.F)=[]:=by
    rw[flatMap_eq_nil_iff];exact λ p hp=>(ap p hp).2
   rw[this,hM];exact Perm.refl _
  clear hM aw bp ap a5 bz
  conv=>whnf
  refine OH (b:=mb) (enc:=QQ) (l:=Jn (K h.cl)) VL rfl (.inr (E.mem _ S1)) λ it fj=>?_;have el:(K h.cl).Nodup:=Bk.kpt_nodup _;have fv:(K h.cl).length<=5:=Nat.le_trans (Bk.kpt_len _) O1
  let G:Nat->List Int:=λ p=>Bk.afK o.testBit (L.getD ((K h.cl).getD p 0) 0) h.cl
  have E:QR (U5.put it (Jx mb (Jn (K h.cl)).length #[])) ⟨ra,rl,rc,sa,sl,sc⟩ (Bk.mk b.rs (b.woL (K h.cl) λ p=>if p∈(#[]:Array Nat)then G p else[])) (.obj it (Jx mb (Jn (K h.cl)).length #[])::JX mb z H Q (.slice ra rl rc) (.slice sa sl sc) (Jn (K h.cl)) L U.M):=by
   rw[show(λ p=>if p∈(#[]:Array Nat)then G p else[])=(λ _=>([]:List Int)) by funext p;simp];obtain⟨ps,A,h1,h2,h3,h4⟩:=E.ex;refine⟨⟨ps,A,h1,λ p hp=>(h2 p hp).lg ⟨λ _ _ h=>h,⟨[],rfl⟩,rfl⟩,h3,?_⟩,E.rs.lg ⟨λ _ _ h=>h,⟨[],rfl⟩,rfl⟩ λ _ _ h=>h,E.rl,E.rn,E.rc⟩;show(_::U5.M).Perm _;rw[<- append_assoc];refine(h4.cons _).trans ?_;rw[<- append_assoc];exact perm_middle.symm
  refine⟨Array Nat,λ _=>[(2,.pointer (some ⟨B,0,none⟩)),(4,.pointer (some ⟨Q,0,none⟩)),(5,.slice (some ⟨H,0,none⟩) h.cl h.cl),(10,.pointer (some ⟨z,0,none⟩)),(11,.map (some mb)),(122,.pointer (some ⟨it,0,none⟩))],
   λ seen U'=>U5.frz.lg U'/\QR U' ⟨ra,rl,rc,sa,sl,sc⟩ (Bk.mk b.rs (b.woL (K h.cl) λ p=>if p∈seen then G p else[])) (.obj it (Jx mb (Jn (K h.cl)).length seen)::JX mb z H Q (.slice ra rl rc) (.slice sa sl sc) (Jn (K h.cl)) L U.M)/\seen.toList.Nodup/\∀i∈seen.toList,i<(K h.cl).length,λ seen=>(K h.cl).length-seen.size,#[],T1,⟨⟨λ _ _ h=>h,⟨_,(append_nil _).symm⟩,rfl⟩,E,S1,S1⟩,?_⟩
  clear E;rintro seen f U6⟨bk,E,d2,ch⟩
  have e8:seen.size<=(K h.cl).length:=by
   have:=XM d2 ch;simpa using this
  have bv:U1.frz.lg U6:=⟨λ x q hx=>bk.imm x q (an.imm x q hx),⟨_,(append_nil _).symm⟩,bk.tok.trans an.tok⟩;obtain⟨Xp,Yp,en,c7,-,-⟩:=E.pick
  conv=>whnf
  refine Ss (b:=mb) (r:=it) (seen:=seen) (enc:=QQ) (l:=Jn (K h.cl)) (λ q=>Xp++.obj it q::Yp) rfl (.inr (E.mem _ S1)) (λ q=>by rw[en];exact P9 .here _) (λ cf=>?_) (λ q p hp d3=>?_)
  .have hfin:(Bk.mk b.rs (b.woL (K h.cl) λ p=>if p∈seen then G p else[]))=b.wo o.testBit:=by
    rw[Bk.wo_woL hW,bo];congr 1;refine Bk.woL_congr λ p hp=>?_;rw[if_pos (cf p (by rw[Dp];exact hp))]
   rw[hfin]at E
   repeat refine⟨rfl,?_⟩
   refine⟨_,⟨rfl,Jy (b:=z) (e:=38) (vs:=[.slice ra rl rc,.slice sa sl sc]) (E.mem _ S1)⟩,?_⟩
   conv=>whnf
   obtain⟨ps,A,h1,h2,h3,h4⟩:=E.ex;refine⟨rfl,Yj (b:=Q) (e:=92) (c:=[.slice none 0 0,.slice none 0 0].toArray) (vs:=[.slice ra rl rc,.slice sa sl sc]) (L₁:=A++(ps.flatMap (·.2.F)++[.obj it (Jx mb (Jn (K h.cl)).length seen),.obj mb (Qt QQ (Jn (K h.cl))),.obj z (.cells [.slice ra rl rc,.slice sa sl sc].toArray 38 (0,0)),.obj H (.cells (ZR L).toArray 3 (0,0))])) (L₂:=U.M) (by simpa using h4) rfl (by simp[Value.single]) λ U7 bh bl bi=>?_⟩;refine⟨_,⟨rfl,Jy (b:=Q) (e:=92) (vs:=[.slice ra rl rc,.slice sa sl sc]) (by rw[bi];simp)⟩,?_⟩;have hz:U6.frz.lg U7.frz:=⟨λ x q hx=>by show U7.I x=_;rw[bh];exact hx,⟨[],rfl⟩,bl⟩;refine⟨⟨⟨ra,rl,rc,sa,sl,sc⟩,[.obj it (Jx mb (Jn (K h.cl)).length seen),.obj mb (Qt QQ (Jn (K h.cl))),.obj z (.cells [.slice ra rl rc,.slice sa sl sc].toArray 38 (0,0)),.obj H (.cells (ZR L).toArray 3 (0,0)),.obj Q (.cells [.slice ra rl rc,.slice sa sl sc].toArray 92 (0,0))],rfl,⟨⟨ps,A,h1,λ p hp=>(h2 p hp).lg hz,h3,by rw[bi];simp⟩,E.rs.lg hz λ _ _ h=>h,E.rl,E.rn,E.rc⟩⟩,λ x q hx=>by rw[bh];exact bv.imm x q (bn.imm x q hx),bl.trans (bv.tok.trans bn.tok)⟩
  .have hql:q<(K h.cl).length:=by have:=(List.getElem?_eq_some_iff.1 hp).1;rwa [Dp]at this
   rw[IN hql]at hp;cases hp;have c3:=Bk.kpt_lt (S7 hql:(K h.cl).getD q 0∈Bk.kpt o.testBit h.cl);generalize dz:(K h.cl).getD q 0=kk at c3
   have cj:(seen.push q).toList.Nodup:=by
    rw[Array.toList_push,nodup_append];refine⟨d2,S1,λ x hx y hy=>?_⟩;rw[mem_singleton.1 hy];rintro rfl;exact d3 (by simpa using hx)
   have bw:∀j∈(seen.push q).toList,j<(K h.cl).length:=by
    intro j hj;rw[Array.toList_push,mem_append]at hj;rcases hj with hj|hj
    .exact ch j hj
    .rw[mem_singleton.1 hj];exact hql
   have dr:(K h.cl).length-(seen.push q).size<(K h.cl).length-seen.size:=by
    have:=XM cj bw;rw[Array.length_toList,Array.size_push]at this;rw[Array.size_push];omega
   have a2:=c7 ({ U6 with M:=Xp++.obj it (Jx mb (Jn (K h.cl)).length (seen.push q))::Yp }:Qa T) (.obj it (Jx mb (Jn (K h.cl)).length (seen.push q))) (λ _ _ h=>h) rfl rfl;have a7:U5.frz.lg ({ U6 with M:=Xp++.obj it (Jx mb (Jn (K h.cl)).length (seen.push q))::Yp }:Qa T):=⟨bk.imm,⟨_,(append_nil _).symm⟩,bk.tok⟩;generalize({ U6 with M:=Xp++.obj it (Jx mb (Jn (K h.cl)).length (seen.push q))::Yp }:Qa T)=U7 at a2 a7 ⊢;have be:U1.frz.lg U7:=⟨λ x q hx=>a7.imm x q (an.imm x q hx),⟨_,(append_nil _).symm⟩,a7.tok.trans an.tok⟩
   repeat refine⟨rfl,?_⟩
   conv=>whnf
   refine OG (b:=mb) (r:=it) (seen:=seen) (enc:=QQ) (l:=Jn (K h.cl)) rfl (.inr (a2.mem _ S1)) (.inr (a2.mem _ S1)) (IN hql) ?_;rw[dz];refine⟨_,(hB.imI be.imm).sees3 (o:=1) rfl,Nat,λ k=>[(2,.pointer (some ⟨B,0,none⟩)),(4,.pointer (some ⟨Q,0,none⟩)),(5,.slice (some ⟨H,0,none⟩) h.cl h.cl),(10,.pointer (some ⟨z,0,none⟩)),(11,.map (some mb)),(14,.int .i64 kk),(15,.int .i64 q),(122,.pointer (some ⟨it,0,none⟩)),(131,.int .i64 h.cl),(132,.int .i64 k)],
    λ k U'=>U7.frz.lg U'/\k<=h.cl/\QR U' ⟨ra,rl,rc,sa,sl,sc⟩ (Bk.mk b.rs (b.woL (K h.cl) λ p=>if p=q then Bk.afK o.testBit (L.getD kk 0) k else if p∈seen then G p else[])) (.obj it (Jx mb (Jn (K h.cl)).length (seen.push q))::JX mb z H Q (.slice ra rl rc) (.slice sa sl sc) (Jn (K h.cl)) L U.M),λ k=>h.cl-k,0,T1,⟨⟨λ _ _ h=>h,⟨_,(append_nil _).symm⟩,rfl⟩,O1,?_⟩,?_⟩
   .rw[Bk.woL_congr (b:=b) (g':=λ p=>if p∈seen then G p else[]) λ p hp=>?_]
    .exact a2
    .by_cases e:p=q
     .subst e;rw[if_pos rfl,if_neg d3];rfl
     .rw[if_neg e]
   rintro k f U8⟨ah,hk,V⟩;have ak:Z7 ((k:Int)+1):=I1
   have e3:U1.frz.lg U8:=⟨λ x q hx=>ah.imm x q (be.imm x q hx),⟨_,(append_nil _).symm⟩,ah.tok.trans be.tok⟩
   repeat refine⟨rfl,?_⟩
   conv=>whnf
   apply Qg<;>intro Y
   .have hkt:k<h.cl:=by simpa using Y
    cases a1:o.testBit k with
    |true=>
     have c4:lk ((k:Nat):Int) (Jn (K h.cl))=none:=vH λ hm=>by
      have:=(Bk.kpt_lt hm).2;rw[a1]at this;cases this
     conv=>whnf
     refine YU (b:=mb) (k:=((k:Nat):Int)) (l:=Jn (K h.cl)) PB VL HH rfl rfl (.inr (V.mem _ S1)) ?_;rw[c4];refine⟨ak,?_⟩
     conv=>whnf
     exact⟨rfl,k+1,T1,⟨ah,O1,by rw[Bk.afK_out a1];exact V⟩,L1⟩
    |false=>
     obtain⟨d7,e5⟩:=kR (f:=o.testBit) hkt a1
     have c4:lk ((k:Nat):Int) (Jn (K h.cl))=some (.int .i64 ((K k).length:Nat)):=by
      have:=kh el d7
      rwa [show(K h.cl).getD (Bk.kpt o.testBit k).length 0=k from e5]at this
     have a4:=HO (bq kk) (show k<60 by omega)
     have ea:U8.sees ((Addr.mk H 0 none).add (kk*1)) (.int .i64 (L.getD kk 0:Nat)):=by
      rw[Nat.mul_one];exact Jy (b:=H) (e:=3) (vs:=ZR L) (V.mem _ S1) kk _ (Lh (by rw[bm.len];exact c3.1))
     have az:=Bk.afK_in (out:=o.testBit) (w:=L.getD kk 0) (j:=k) a1
     conv=>whnf
     refine YU (b:=mb) (k:=((k:Nat):Int)) (l:=Jn (K h.cl)) PB VL HH rfl rfl (.inr (V.mem _ S1)) ?_;rw[c4];refine⟨⟨H,0,none⟩,kk,⟨rfl,rfl,c3.1⟩,_,ea,O1,?_⟩
     repeat refine⟨rfl,?_⟩
     conv=>whnf
     apply Qg<;>intro Y
     .have hb1:(L.getD kk 0).testBit k=true:=a4.symm.trans Y;rw[hb1,if_pos rfl]at az
      have d8:q<(Bk.mk b.rs (b.woL (K h.cl) λ p=>if p=q then Bk.afK o.testBit (L.getD kk 0) k else if p∈seen then G p else[])).cs.length:=by
       show q<(b.woL _ _).length;rw[Bk.woL_len];exact hql
      have er:(Bk.mk b.rs (b.woL (K h.cl) λ p=>if p=q then Bk.afK o.testBit (L.getD kk 0) k else if p∈seen then G p else[])).cas q={ b.cas ((K h.cl).getD q 0)with af:=Bk.afK o.testBit (L.getD kk 0) k }:=by
       rw[Bk.cas_at (Bk.woL_at hql),if_pos rfl]
      obtain⟨a0,l0,c0,kF,cb,cc,rest,au⟩:=V.openC d8;have bs:=au.acc;rw[er]at bs;have fu:=au.acc.src;have ey:=Bk.afK_len (out:=o.testBit) (L.getD kk 0) k
      let bd:=rest++(.obj it (Jx mb (Jn (K h.cl)).length (seen.push q))::JX mb z H Q (.slice ra rl rc) (.slice sa sl sc) (Jn (K h.cl)) L U.M)
      let Us:Qa T:={ U8 with M:=kF++(.obj cb (.cells cc.toList.toArray 44 (0,0))::bd) }
      let Ub:Qa T:={ U8 with M:=.obj cb (.cells cc.toList.toArray 44 (0,0))::bd }
      have dj:Ub.lg Us:=⟨λ _ _ h=>h,⟨kF,rfl⟩,rfl⟩;have fp:(some ⟨cb,0,none⟩:Option Addr)=sa:=au.ca.symm;have d9:q<sl:=au.lt;have bx:Je Ub ⟨z,0,none⟩ [.slice ra rl rc,.slice sa sl sc]:=Jy (e:=38) (by show _∈_::bd;simp[bd])
      have e6:Ub.sees (((Addr.mk cb 0 none).add (q*4)).add 3) (.slice a0 l0 c0):=by
       have:=Jy (U:=Ub) (b:=cb) (e:=44) (vs:=cc.toList) (by show _∈_::bd;simp) (q*4+3) _ au.at3;rw[Qo]at this;rw[Qo,Qo,Nat.add_assoc];exact this
      conv=>whnf
      intro fl bu;refine vx (Wp au.pm) ?_
      refine Is (mu:=[1039]) (ops:=GY Tryz.f46 39) (id:=39) (U:=Us) bu Ub dj [10,11] [[0,1,2,3,4,5,6,7,8,9,10,11]] [12,13,14] E6 zI Qe K1 K1 K1 K1 K1
       (λ f' db U'=>db=[]/\∃(va:Option Addr)(vl vc:Nat)(F':List Qw),Xu f' [(2,.pointer (some ⟨B,0,none⟩)),(4,.pointer (some ⟨Q,0,none⟩)),(5,.slice (some ⟨H,0,none⟩) h.cl h.cl),(10,.pointer (some ⟨z,0,none⟩)),(11,.map (some mb)),(14,.int .i64 kk),(15,.int .i64 q),(122,.pointer (some ⟨it,0,none⟩)),(131,.int .i64 h.cl),(132,.int .i64 k),(153,.slice sa sl sc),(154,.int .i64 q),(163,.slice va vl vc)]/\Jo 3 1 (.slice va vl vc) ((Bk.afK o.testBit (L.getD kk 0) (k+1)).map λ n=>.int .i64 n) F'/\U8.frz.lg U'/\U'.M=F'++(.obj cb (.cells cc.toList.toArray 44 (0,0))::bd)) ?_ ?_
      .intro l hl;simp only[E6,mem_cons,not_mem_nil,or_false]at hl;subst hl;refine⟨_,bx.cell (i:=1) rfl,_,bx.cell (i:=1) rfl,⟨cb,0,none⟩,q,⟨au.ca,rfl,d9⟩,_,e6,λ v U'=>∃ae,v=.slice (some ⟨ae,0,none⟩) 1 1/\Zi U' ae #[.int .i64 ((K k).length:Nat)]/\Us.le U',λ v U1 U2⟨ae,e1,hb,hl⟩am=>⟨ae,e1,hb.le am,hl.trans am⟩,λ v U'⟨ae,e1,hb,hl⟩=>dj.trans hl.lg,λ U' hC=>?_,λ v hv=>?_⟩
       .have am:=hC
        conv=>whnf
        intro ae c2;exact Zh c2 λ U3 aq hb=>⟨U3,.refl _,ae,rfl,hb,Qa.le.trans am aq⟩
       obtain⟨_,ae,rfl,-⟩:=hv;refine⟨λ v U'=>∃(F':List Qw),(∃va vl vc,v=.slice va vl vc)/\Jo 3 1 v ((Bk.afK o.testBit (L.getD kk 0) (k+1)).map λ n=>.int .i64 n) F'/\U8.frz.lg U'/\U'.M=F'++(.obj cb (.cells cc.toList.toArray 44 (0,0))::bd),λ v U1 U2⟨F',hs,h1,h2,h3⟩am=>⟨F',hs,h1,h2.trans am.lg,am.own.trans h3⟩,λ v U'⟨F',hs,h1,h2,h3⟩=>⟨h2.imm,⟨F',h3⟩,h2.tok⟩,λ U' hC=>?_,λ v hv=>?_⟩
       .obtain⟨b162',e1,hb162,am⟩:=hC;cases e1
        conv=>whnf
        refine Wn (v:=.slice a0 l0 c0) (cs:=(Bk.afK o.testBit (L.getD kk 0) k).map λ n=>.int .i64 n) (new:=[.int .i64 ((K k).length:Nat)]) (M₀:=.obj cb (.cells cc.toList.toArray 44 (0,0))::bd) H2 rfl rfl (by rw[am.own];exact bs _) (.inr ⟨_,rfl,hb162.rd⟩) rfl (by simp[Value.single]) (by rw[length_map,length_cons,length_nil];omega) λ v' M' cx _=>?_;obtain⟨F',cq,b2⟩:=cx.split;refine⟨_,.refl _,F',?_,by rw[az];simpa using b2,⟨λ x q hx=>am.imm x q hx,⟨_,(append_nil _).symm⟩,am.tok⟩,cq⟩;obtain⟨ta,tl,tc,e2,-⟩:=b2.src;exact⟨ta,tl,tc,e2⟩
       obtain⟨_,F',⟨va,vl,vc,rfl⟩,-⟩:=hv
       conv=>whnf
       rintro U'⟨ei,-,h1,h2,h3⟩;exact⟨rfl,va,vl,vc,ei,T1,h1,h2,h3⟩
      rintro f' db U9⟨rfl,va,vl,vc,F',dw,b2,ew,em⟩;rw[<- dw.ovr];clear dw;refine⟨⟨cb,0,none⟩,q,⟨au.ca,rfl,d9⟩,rfl,?_⟩;rw[show((Addr.mk cb 0 none).add (q*4)).add 3=(Addr.mk cb 0 none).add (q*4+3) by rw[Qo,Qo,Qo,Nat.add_assoc]];refine WM (i:=q*4+3) (v:=.slice va vl vc) F' em (by simpa using au.sz) rfl λ Ua cp c8 ct=>?_;have b0:U8.frz.lg Ua.frz:=ew.frz2.trans ⟨λ x q hx=>by show Ua.I x=_;rw[cp];exact hx,⟨[],rfl⟩,c8⟩;have ez:=Bk.afK_len (out:=o.testBit) (L.getD kk 0) (k+1);have bf:=au.back Ua (.slice va vl vc) F' (Bk.afK o.testBit (L.getD kk 0) (k+1)) (.obj it (Jx mb (Jn (K h.cl)).length (seen.push q))::JX mb z H Q (.slice ra rl rc) (.slice sa sl sc) (Jn (K h.cl)) L U.M) b0 b2 O1 (by rw[ct]);rw[Bk.woL_set hql]at bf;rw[Bk.woL_congr (b:=b) (g':=λ p=>if p=q then Bk.afK o.testBit (L.getD kk 0) (k+1)else if p∈seen then G p else[]) λ p _=>by by_cases e:p=q <;> simp[e]]at bf
      conv=>whnf
      intro a' b3;refine⟨by rw[b3.size,bu.size],_,b3.get,?_⟩;rw[b3.ds];clear b3 bu;refine⟨ak,?_⟩
      conv=>whnf
      exact⟨rfl,k+1,T1,⟨⟨λ x q hx=>b0.imm x q (ah.imm x q hx),⟨_,(append_nil _).symm⟩,b0.tok.trans ah.tok⟩,O1,bf⟩,L1⟩
     .have hb1:(L.getD kk 0).testBit k=false:=a4.symm.trans Y;rw[hb1,if_neg S1,append_nil]at az;refine⟨ak,?_⟩
      conv=>whnf
      exact⟨rfl,k+1,T1,⟨ah,O1,by rw[az];exact V⟩,L1⟩
   .have aj:k=h.cl:=by simp at Y;omega
    subst aj;rw[Bk.woL_congr (b:=b) (g':=λ p=>if p∈seen.push q then G p else[]) λ p hp=>?_]at V
    .conv=>whnf
     exact⟨rfl,seen.push q,T1,⟨⟨λ x q hx=>ah.imm x q (a7.imm x q hx),⟨_,(append_nil _).symm⟩,ah.tok.trans a7.tok⟩,V,cj,bw⟩,dr⟩
    .by_cases e:p=q
     .subst e;rw[if_pos rfl,if_pos S1];show _=Bk.afK o.testBit (L.getD ((K h.cl).getD p 0) 0) h.cl;rw[dz]
     .rw[if_neg e];by_cases hs:p∈seen
      .rw[if_pos hs,if_pos (by simp[hs])]
      .rw[if_neg hs,if_neg (by simp[hs,e])]
 refine eh.okv λ v U' hw⟨⟨h',Z,hv,d5⟩,hI,ht⟩=>?_
 have d0:(b.wo o.testBit).cs.length<=1000:=by
  show((b.kept o.testBit).map _).length<=_;rw[length_map];exact Nat.le_trans (Bk.kpt_len (out:=o.testBit) b.cs.length) O1
 obtain⟨U'',k1,k2,k3,k4⟩:=d5.freeze hw d0;exact⟨{ U'' with M:=U.M },k1.trans (Zx (by rw[k2];exact sublist_append_right ..)),⟨h',hv,k4,d5.rc⟩,⟨λ x q hx=>k3.imm x q (hI x q hx),rfl,k3.tok.trans ht⟩⟩
end Go.Proofs
namespace Go.TM
variable{T:Type}{P:Program}{S:Sys P T}{U U':Qa T}
def WO(x:List Int):Nat:=Z4 (x.map Int.toNat)
def Bk.every(b:Bk):List Int:=(range b.cs.length).map λ(k:Nat)=>(k:Int)
def Bk.wdP(b:Bk)(r:Nat)(x:List Int):Bool:=(b.wo (WO x).testBit).fatR r==1
def Bk.wdL(b:Bk)(r:Nat):List Int:=(WK b.every (b.wdP r) 0 (b.cs.length+1)).getD []
def Bk.wdF(b:Bk)(r:Int):List Int:=if b.askF r=0 then b.wdL r.toNat else[]
def Dc{b:Bk}(h:b.cs.length<=5){q:List Int}(f:q.Sublist b.every):(∀n∈q,0<=n/\n<60)/\q.length<=5/\WO q<2^60:=by
 have h1:∀n∈q,0<=n/\n<60:=λ n w=>by
  have:=f.subset w;simp only[Bk.every,mem_map,mem_range]at this;obtain⟨k,z,rfl⟩:=this;omega
 refine⟨h1,?_,Ha (toNat_lt h1)⟩;have:=f.length_le;simp[Bk.every]at this;omega
end Go.TM
namespace Go.Proofs
open Go.TM
variable{T:Type}{S:TM.Sys prog T}{U:Qa T}
attribute [local irreducible] Qb Zm Wo
def Bw(h:BH)(b:Bk)(hb:Zs U.frz h b)(F:b.Ok)(r:Nat)(hr:r<b.rs.length){Y W:Nat}(E:Zi U Y #[.slice h.ra h.rl h.rc,.slice h.ca h.cl h.cc])(B:Zi U W #[.int .i64 r]) :
  SU S 45 #[] #[.pointer (some ⟨Y,0,none⟩),.pointer (some ⟨W,0,none⟩)] (b.wdP r) b.every U:=by
 rintro q a cap V hq⟨X,Q,hI,rfl⟩I;obtain⟨P,q5,qo⟩:=Dc F.nc hq;have z:U.lg (⟨Q,X++U.M,U.tok⟩:Qa T):=⟨hI,⟨X,rfl⟩,rfl⟩;generalize(⟨Q,X++U.M,U.tok⟩:Qa T)=V at I z;refine Qb.pure' (Qb.of (args:=[_,_,_]) UP Qe S1 ?_);have E:=E.lg z;have B:=B.lg z;refine⟨_,⟨rfl,E.rd⟩,?_⟩;refine⟨.int .i64 (WO q:Nat),λ U' f _=>?_,?_⟩
 .refine⟨XN.any,(Z9 a q.length cap q (I.lg (Qr.trans f.lg)) O1 P).mono ?_⟩;rintro _ U''⟨rfl,hU⟩-;exact⟨rfl,_,.refl _,hU▸.refl _⟩
 refine⟨_,B.sees3 (o:=0) rfl,λ v U'=>∃w:BH,v=w.v/\Zs U'.frz w (b.wo (WO q).testBit),λ v V Z⟨w,e,hb⟩f=>⟨w,e,hb.lg f.lg.frz2⟩,λ U' f _=>?_,λ v hv=>?_⟩
 .refine⟨OQ.any,(DK h b (hb.lg (z.frz2.trans f.lg.frz2)) F (WO q) qo).mono ?_⟩;rintro v U''⟨⟨w,e,L,-⟩,H⟩-;exact⟨U'',.refl _,⟨w,e,L⟩,H⟩
 obtain⟨_,-,-,w,rfl,-⟩:=hv
 conv=>whnf
 intro Z K hC;obtain⟨-,G,e,N⟩:=hC;have e':=Value.agg.inj e
 obtain rfl:w=G:=by
  obtain⟨x1,x2,x3,x4,x5,x6⟩:=w;obtain⟨y1,y2,y3,y4,y5,y6⟩:=G;simp at e';simp[e']
 refine⟨Gc.any,(Vd w _ N (F.wo _) r hr).go λ _=>?_⟩
 repeat refine⟨rfl,?_⟩
 conv=>whnf
 exact K.lg
def C0(h:BH)(b:Bk)(hb:Zs U.frz h b)(hk:JY U)(r:Int):Qb S 15 #[h.v,.int .i64 r] (λ v U'=>(∃E,v=.tuple #[E,.int .i64 (b.askF r)]/\JT U'.frz E (b.wdF r))/\U.le U') U:=by
 refine Qb.grown (R:=λ v U'=>∃E,v=.tuple #[E,.int .i64 (b.askF r)]/\JT U' E (b.wdF r)) (λ v W X hl⟨E,e,h1⟩=>⟨E,e,h1.lg hl⟩) (Qb.of (args:=[_,_]) UL Qe S1 ?_);have Q:=hb.cs.1
 repeat refine⟨rfl,?_⟩
 conv=>whnf
 intro B W aa K;have K:Zi W B #[.slice h.ra h.rl h.rc,.slice h.ca h.cl h.cc]:=K
 conv=>whnf
 intro b3 X P z;have z:Zi X b3 #[.int .i64 r]:=z;have K:=K.le P;have w:=aa.trans P;refine⟨_,⟨rfl,K.rd⟩,?_⟩;refine⟨_,z.sees3 (o:=0) rfl,PA.any,(Vb h b (hb.lg w.lg.frz2) (hk.lg w.lg) r).go λ _=>?_⟩
 conv=>whnf
 intro b6 T;refine⟨_,.refl _,?_⟩;by_cases L:b.askF r=0
 .obtain⟨hok,hr0,hr1⟩:=Bk.askF_ok L;obtain⟨q,rfl⟩:=Int.eq_ofNat_of_zero_le hr0;have hq:q<b.rs.length:=by unfold Bk.nr at hr1;omega
  have ae:=hok.nc;have N:b.wdF (q:Int)=b.wdL q:=by unfold Bk.wdF;rw[if_pos L,Int.toNat_natCast]
  rw[if_pos L,L,N];refine⟨rfl,Zv (vs:=[.slice h.ra h.rl h.rc,.slice h.ca h.cl h.cc]) T rfl (by simp[Value.single]) λ Y F G=>?_⟩;have G:Zi Y b6 #[.slice h.ra h.rl h.rc,.slice h.ca h.cl h.cc]:=G;have z:=z.le F;have K:=K.le F;have I:=w.trans F
  repeat refine⟨rfl,?_⟩
  refine⟨_,⟨rfl,G.rd⟩,?_⟩;refine⟨_,K.sees3 (o:=1) rfl,λ v U'=>Jw U'.frz v b.every,λ v W X V f=>V.lg f.lg.frz2,λ U' f _=>?_,λ v M=>?_⟩
  .refine⟨OP.any,(DW h b (hb.lg (I.lg.frz2.trans f.lg.frz2)) O1).mono ?_⟩;rintro v U''⟨M,H⟩-;exact⟨U'',.refl _,M,H⟩
  obtain⟨_,-,-,ea,ec,rfl,-⟩:=M;have ac:b.every.length=h.cl:=by simp[Bk.every,Q]
  refine⟨λ v U'=>∃E,v=.tuple #[E,.bool (WK b.every (b.wdP q) 0 (b.cs.length+1)).isSome]/\JT U'.frz E (b.wdL q),λ v W X⟨E,e,V⟩f=>⟨E,e,V.lg f.lg.frz2⟩,λ U' f hC=>?_,λ v M=>?_⟩
  .obtain⟨-,ea',ec',Z,hei⟩:=hC;cases Z;have hz:Y.frz.lg U'.frz:=f.lg.frz2;have hl:=E0 (S:=S) (U:=U') b.every ea ec (Ef hei) (by rw[ac];omega) b.cs.length O1 45 #[] #[.pointer (some ⟨b6,0,none⟩),.pointer (some ⟨b3,0,none⟩)] UP.any (b.wdP q) (Bw h b (hb.lg (I.lg.frz2.trans hz)) hok q hq (G.le f) (z.le f))
   conv=>whnf
   rw[<- Q];refine⟨OO.any,hl.mono ?_⟩;rintro v U''⟨M,H⟩-;exact⟨U'',.refl _,M,H⟩
  obtain⟨_,-,-,E,rfl,wa,wc,rfl,-⟩:=M
  conv=>whnf
  intro U4 ab hC;obtain⟨-,ad,Z,V⟩:=hC
  obtain⟨e2,-⟩:(Value.slice wa (b.wdL q).length wc=ad)/\True:=by
   have:=Value.tuple.inj Z;simp at this;exact⟨this,trivial⟩
  subst e2
  repeat refine⟨rfl,?_⟩
  conv=>whnf
  exact⟨⟨_,rfl,V⟩,(I.trans ab).lg⟩
 .have N:b.wdF r=[]:=by unfold Bk.wdF;rw[if_neg L]
  rw[if_neg L,N];refine⟨rfl,Zv (vs:=[.slice none 0 0,.slice none 0 0]) T rfl (by simp[Value.single]) λ Y F G=>?_⟩
  repeat refine⟨rfl,?_⟩
  conv=>whnf
  apply Qg<;>intro hc
  .repeat refine⟨rfl,?_⟩
   conv=>whnf
   exact⟨⟨_,rfl,.nil⟩,(w.trans F).lg⟩
  .exact absurd (by simpa using hc) L
def C5(h:BH)(b:Bk)(hb:Zs U.frz h b)(w:JY U)(r:Int):Qb S 15 #[h.v,.int .i64 r] (λ v U'=>(∃f,v=.tuple #[f,.int .i64 (b.askF r)]/\Jw U'.frz f (b.wdF r))/\U.le U') U:=
 (C0 h b hb w r).mono λ v U'⟨⟨f,e,h1⟩,h2⟩=>⟨⟨f,e,h1.v⟩,h2⟩
end Go.Proofs
namespace Go.TM
variable{T:Type}{P:Program}{S:Sys P T}{U U':Qa T}
def Bk.dcS(b:Bk)(r d:Nat):Int:=(b.wo d.testBit).fatR r
def Bk.dcP(b:Bk)(r:Nat)(x:List Int):Bool:=(range (2^b.cs.length)).all λ d=>!(d&&&WO x==0&&b.dcS r d != b.dcS r 0)
def Bk.dcL(b:Bk)(r:Nat):List Int:=(WK b.every (b.dcP r) 0 (b.cs.length+1)).getD []
def Bk.dcF(b:Bk)(r:Int):List Int:=if b.askF r=0 then b.dcL r.toNat else[]
def Bk.dcM(b:Bk)(r m:Nat):List (Int×Value):=JE m (λ d=>(d:Nat)) λ d=>.int .i64 (b.dcS r d)
def Bk.dcM_succ(b:Bk)(r m:Nat):ZA ((m:Nat):Int) (.int .i64 (b.dcS r m)) (b.dcM r m)=b.dcM r (m+1):=by
 unfold Bk.dcM
 rw[(YH (m:=m) (k:=((m:Nat):Int)) (ky:=λ d=>(d:Nat)) (vl:=λ d=>.int .i64 (b.dcS r d)) λ q f e=>by
  have:=Int.ofNat.inj e;omega).2,Ii]
def Bk.dcM_at(b:Bk){r m d:Nat}(h:d<m):lk ((d:Nat):Int) (b.dcM r m)=some (.int .i64 (b.dcS r d)):=
 Le (m:=m) (ky:=λ d=>((d:Nat):Int)) (vl:=λ d=>.int .i64 (b.dcS r d)) h λ q r _ _ e=>Int.ofNat.inj e
def Bk.dcM_len(b:Bk)(r m:Nat):(b.dcM r m).length=m:=Dl _ _ _
def Bk.dcM_get(b:Bk){r m d:Nat}(h:d<m):(b.dcM r m)[d]?=some (((d:Nat):Int),.int .i64 (b.dcS r d)):=SR h
def Dm{n:Nat}(h:n<=5):2^n<=32:=by
 have:=Nat.pow_le_pow_right (show 0<2 by omega) h;simpa using this
end Go.TM
namespace Go.Proofs
open Go.TM
variable{T:Type}{S:TM.Sys prog T}{U:Qa T}
attribute [local irreducible] Qb Zm Wo
def NQ(b:Bk)(ag:b.cs.length<=5)(r:Nat){b8 mb:Nat}(N:Zi U b8 #[.map (some mb)])(hm:U.has mb (Qt QQ (b.dcM r (2^b.cs.length)))) :
  SU S 59 #[] #[.pointer (some ⟨b8,0,none⟩)] (b.dcP r) b.every U:=by
 rintro q a cap F hq⟨X,I',hI,rfl⟩ai;obtain⟨am,q5,qo⟩:=Dc ag hq;have ac:U.lg (⟨I',X++U.M,U.tok⟩:Qa T):=⟨hI,⟨X,rfl⟩,rfl⟩;have hm:(⟨I',X++U.M,U.tok⟩:Qa T).has mb (Qt QQ (b.dcM r (2^b.cs.length))):=hm.imp (hI _ _) λ h=>mem_append_right _ h;generalize(⟨I',X++U.M,U.tok⟩:Qa T)=F at ai ac hm;have ao:=Dm ag;have ah:0<2^b.cs.length:=Nat.two_pow_pos _;refine Qb.pure' (Qb.of (args:=[_,_]) UR Qe S1 ?_);have N:=N.lg ac;refine⟨_,N.sees3 (o:=0) rfl,?_⟩
 conv=>whnf
 refine OH (b:=mb) (enc:=QQ) (l:=b.dcM r (2^b.cs.length)) Oz rfl hm λ it an=>?_;rw[Bk.dcM_len];have aj:=Z2 (U:=F) it (Jx mb (2^b.cs.length) #[])
 refine⟨Array Nat,λ _=>[(0,.slice a q.length cap),(1,.pointer (some ⟨b8,0,none⟩)),(7,.pointer (some ⟨it,0,none⟩))],
  λ seen U'=>F.frz.lg U'/\U'.M=.obj it (Jx mb (2^b.cs.length) seen)::F.M/\seen.toList.Nodup/\(∀i∈seen.toList,i<2^b.cs.length)/\∀i∈seen,(!(i&&&WO q==0&&b.dcS r i != b.dcS r 0))=true,λ seen=>2^b.cs.length-seen.size,#[],T1,⟨Qr.trans aj,rfl,S1,S1,S1⟩,?_⟩
 rintro seen f U2⟨B,hM,ak,ad,H⟩;have ae:∀U':Qa T,(∀x o,F.I x=some o->U'.I x=some o)->(∀r∈F.M,r∈U'.M)->U'.has mb (Qt QQ (b.dcM r (2^b.cs.length))):=λ U' h1 h2=>hm.imp (h1 _ _) (h2 _);have K:∀s,Jx mb (2^b.cs.length) s=Jx mb (b.dcM r (2^b.cs.length)).length s:=λ s=>by rw[Bk.dcM_len]
 conv=>whnf
 refine Ss (b:=mb) (r:=it) (seen:=seen) (enc:=QQ) (l:=b.dcM r (2^b.cs.length)) (λ o=>.obj it o::F.M) rfl (ae _ B.imm λ r hr=>by rw[hM];exact mem_cons_of_mem _ hr) (λ o=>by rw[hM,K];exact .here) (λ Z=>?_) (λ d p hp al=>?_)
 .have hP:b.dcP r q=true:=by
   unfold Bk.dcP;rw[all_eq_true];intro d hd;rw[mem_range]at hd;exact H d (Z d (by rw[Bk.dcM_len];exact hd))
  rw[hP]
  repeat refine⟨rfl,?_⟩
  conv=>whnf
  exact⟨B.imm,⟨[_],hM⟩,B.tok⟩
 .have hdl:d<2^b.cs.length:=by have:=(List.getElem?_eq_some_iff.1 hp).1;rwa [Bk.dcM_len]at this
  rw[b.dcM_get hdl]at hp;cases hp;have ab:d<2^60:=Nat.lt_of_lt_of_le (by omega:d<32) D1
  have L:(seen.push d).toList.Nodup:=by
   rw[Array.toList_push,nodup_append];refine⟨ak,S1,λ x hx y hy=>?_⟩;rw[mem_singleton.1 hy];rintro rfl;exact al (by simpa using hx)
  have E:∀j∈(seen.push d).toList,j<2^b.cs.length:=by
   intro j Y;rw[Array.toList_push,mem_append]at Y;rcases Y with Y|Y
   .exact ad j Y
   .rw[mem_singleton.1 Y];exact hdl
  have V:2^b.cs.length-(seen.push d).size<2^b.cs.length-seen.size:=by
   have:=XM L E;rw[Array.length_toList,Array.size_push]at this;rw[Array.size_push];omega
  have w:F.frz.lg ({ U2 with M:=.obj it (Jx mb (b.dcM r (2^b.cs.length)).length (seen.push d))::F.M }:Qa T):=⟨B.imm,⟨_,(append_nil _).symm⟩,B.tok⟩;have G:({ U2 with M:=.obj it (Jx mb (b.dcM r (2^b.cs.length)).length (seen.push d))::F.M }:Qa T).M=.obj it (Jx mb (2^b.cs.length) (seen.push d))::F.M:=by rw[K]
  generalize({ U2 with M:=.obj it (Jx mb (b.dcM r (2^b.cs.length)).length (seen.push d))::F.M }:Qa T)=U3 at w G ⊢;have af:=ae U3 w.imm λ r hr=>by rw[G];exact mem_cons_of_mem _ hr
  have aa:=N.imI w.imm;have W:F.lg U3:=⟨w.imm,⟨[_],G⟩,w.tok⟩
  have z:∀h:(!(d&&&WO q==0&&b.dcS r d != b.dcS r 0))=true,∀i∈seen.push d,(!(i&&&WO q==0&&b.dcS r i != b.dcS r 0))=true:=λ h i hi=>by
   rcases Array.mem_push.1 hi with hi|rfl
   .exact H i hi
   .exact h
  have Q:(d&&&WO q==0&&b.dcS r d != b.dcS r 0)=true->b.dcP r q=false:=λ h=>by
   cases hh:b.dcP r q with
   |false=>rfl
   |true=>
    unfold Bk.dcP at hh;rw[all_eq_true]at hh;have:=hh d (by simpa using hdl);rw[h]at this;cases this
  repeat refine⟨rfl,?_⟩
  conv=>whnf
  refine OG (b:=mb) (r:=it) (seen:=seen) (enc:=QQ) (l:=b.dcM r (2^b.cs.length)) rfl af (.inr (by rw[G,K];exact mem_cons_self ..)) (b.dcM_get hdl) ?_;refine⟨XN.any,(Z9 a q.length cap q (ai.lg w) O1 am).go λ _=>?_⟩;have hand:=Uh ab qo
  have P:((IntKind.wrap .i64 ((BitVec.ofInt 64 ((d:Nat):Int)&&&BitVec.ofInt 64 ((WO q:Nat):Int)).toNat:Int))==0)=(d&&&WO q==0):=by
   rw[hand,Bool.eq_iff_iff,beq_iff_eq,beq_iff_eq];omega
  repeat refine⟨rfl,?_⟩
  conv=>whnf
  apply Jt<;>intro hc
  .have h1:(d&&&WO q==0)=true:=P.symm.trans hc;rw[h1,Bool.true_and]at Q z;refine⟨_,aa.sees3 (o:=0) rfl,?_⟩
   conv=>whnf
   refine Of (b:=mb) (k:=((0:Nat):Int)) (l:=b.dcM r (2^b.cs.length)) PB Oz vk rfl rfl af ?_;rw[b.dcM_at ah,Option.getD_some]
   repeat refine⟨rfl,?_⟩
   conv=>whnf
   apply Qg<;>intro hc
   .rw[Q hc]
    repeat refine⟨rfl,?_⟩
    conv=>whnf
    exact W
   .have hc':(b.dcS r d != b.dcS r 0)=false:=hc;rw[hc']at z
    conv=>whnf
    exact⟨rfl,seen.push d,T1,⟨w,G,L,E,z rfl⟩,V⟩
  .have h1:(d&&&WO q==0)=false:=P.symm.trans hc;rw[h1,Bool.false_and]at z
   conv=>whnf
   exact⟨rfl,seen.push d,T1,⟨w,G,L,E,z rfl⟩,V⟩
def CZ(h:BH)(b:Bk)(hb:Zs U.frz h b)(hk:JY U)(r:Int):Qb S 22 #[h.v,.int .i64 r] (λ v U'=>(∃K,v=.tuple #[K,.int .i64 (b.askF r)]/\JT U'.frz K (b.dcF r))/\U.le U') U:=by
 refine Qb.grown (R:=λ v U'=>∃K,v=.tuple #[K,.int .i64 (b.askF r)]/\JT U' K (b.dcF r)) (λ v U1 X hl⟨K,e,h1⟩=>⟨K,e,h1.lg hl⟩) (Qb.of (args:=[_,_]) OJ Qe S1 ?_);have aa:=hb.cs.1
 repeat refine⟨rfl,?_⟩
 conv=>whnf
 intro B U1 Q hB;have hB:Zi U1 B #[.slice h.ra h.rl h.rc,.slice h.ca h.cl h.cc]:=hB;refine⟨_,⟨rfl,hB.rd⟩,?_⟩;refine⟨PA.any,(Vb h b (hb.lg Q.lg.frz2) (hk.lg Q.lg) r).go λ _=>?_⟩
 conv=>whnf
 intro b6 ac;refine⟨_,.refl _,?_⟩;by_cases hF:b.askF r=0
 .obtain⟨hok,hr0,hr1⟩:=Bk.askF_ok hF;obtain⟨q,rfl⟩:=Int.eq_ofNat_of_zero_le hr0;have hq:q<b.rs.length:=by unfold Bk.nr at hr1;omega
  have ag:=hok.nc;have ao:=Dm ag;have ab:b.dcF (q:Int)=b.dcL q:=by unfold Bk.dcF;rw[if_pos hF,Int.toNat_natCast]
  rw[if_pos hF,hF,ab];refine⟨rfl,Zv (vs:=[.slice h.ra h.rl h.rc,.slice h.ca h.cl h.cc]) ac rfl (by simp[Value.single]) λ X ae T=>?_⟩;have T:Zi X b6 #[.slice h.ra h.rl h.rc,.slice h.ca h.cl h.cc]:=T;have hB:=hB.le ae;have F:=Q.trans ae
  repeat refine⟨rfl,?_⟩
  conv=>whnf
  refine P1 QQ λ mb am=>?_
  conv=>whnf
  intro b8 af;refine⟨_,.refl _,rfl,Zv (vs:=[.map (some mb)]) af rfl (by simp[Value.single]) λ U3 H aj=>?_⟩
  have ad:U3.M=.obj mb (Qt QQ (b.dcM q 0))::U.M:=by
   rw[H.own];show _::X.M=_;rw[F.own];rfl
  have G:X.frz.lg U3:=⟨λ x o hx=>H.imm x o hx,⟨_,(append_nil _).symm⟩,H.tok⟩
  have e1:IntKind.wrap .i64 ((1:Int)*2^(min ((h.cl:Int).toNat) (IntKind.bits .i64)))=((2^b.cs.length:Nat):Int):=by
   rw[aa,<- Nat.one_shiftLeft];exact Yh O1
  clear ac af am H;refine⟨_,(hB.imI G.imm).sees3 (o:=1) rfl,O1,?_⟩;rw[e1]
  refine⟨Nat,λ m=>[(1,.int .i64 q),(2,.pointer (some ⟨B,0,none⟩)),(6,.pointer (some ⟨b6,0,none⟩)),(8,.pointer (some ⟨b8,0,none⟩)),(25,.int .i64 (2^b.cs.length:Nat)),(26,.int .i64 m)],
   λ m U'=>U3.frz.lg U'/\U'.M=.obj mb (Qt QQ (b.dcM q m))::U.M/\m<=2^b.cs.length,λ m=>2^b.cs.length-m,0,T1,⟨⟨λ _ _ h=>h,⟨_,(append_nil _).symm⟩,rfl⟩,ad,Nat.zero_le _⟩,?_⟩
  rintro m f U4⟨N,hM,hm⟩;have al:Z7 ((m:Int)+1):=I1
  have L:∀x o,X.I x=some o->U4.I x=some o:=λ x o hx=>N.imm x o (G.imm x o hx);have Y:=T.imI L;have Z:=aj.imI N.imm;have V:U.frz.lg U4.frz:=⟨λ x o hx=>L x o (F.imm x o hx),⟨[],rfl⟩,N.tok.trans (G.tok.trans F.tok)⟩
  repeat refine⟨rfl,?_⟩
  conv=>whnf
  apply Qg<;>intro hc
  .have hlt:m<2^b.cs.length:=Int.ofNat_lt.1 (of_decide_eq_true hc);refine⟨_,Z.sees3 (o:=0) rfl,_,⟨rfl,Y.rd⟩,?_⟩;refine⟨λ v U'=>∃P:BH,v=P.v/\Zs U'.frz P (b.wo m.testBit),λ v U1 X⟨P,e,hb⟩w=>⟨P,e,hb.lg w.lg.frz2⟩,λ U' w _=>?_,λ v W=>?_⟩
   .refine⟨OQ.any,(DK h b (hb.lg (V.trans w.lg.frz2)) hok m (Nat.lt_of_lt_of_le (by omega:m<32) D1)).mono ?_⟩;rintro v U''⟨⟨P,e,ai,-⟩,z⟩-;exact⟨U'',.refl _,⟨P,e,ai⟩,z⟩
   obtain⟨_,-,-,P,rfl,-⟩:=W;refine⟨.int .i64 (b.dcS q m),λ U' w hC=>?_,?_⟩
   .obtain⟨-,h'',e,hbw⟩:=hC;have e':=Value.agg.inj e
    obtain rfl:P=h'':=by
     obtain⟨x1,x2,x3,x4,x5,x6⟩:=P;obtain⟨y1,y2,y3,y4,y5,y6⟩:=h'';simp at e';simp[e']
    refine⟨Gc.any,(Vd P _ hbw (hok.wo _) q hq).mono ?_⟩;rintro _ U''⟨rfl,hU⟩-;exact⟨rfl,_,.refl _,hU▸.refl _⟩
   conv=>whnf
   intro U5 E _
   conv=>whnf
   refine YF (b:=mb) (k:=((m:Nat):Int)) (l:=b.dcM q m) (v:=.int .i64 (b.dcS q m)) (M':=.obj mb (Qt QQ (b.dcM q (m+1)))::U.M) PB Oz rfl rfl rfl (by rw[E.own,hM,b.dcM_succ];exact .here) ?_;refine⟨al,?_⟩
   conv=>whnf
   exact⟨rfl,m+1,T1,⟨⟨λ x o hx=>E.imm x o (N.imm x o hx),⟨_,(append_nil _).symm⟩,E.tok.trans N.tok⟩,rfl,O1⟩,L1⟩
  .have hge:m=2^b.cs.length:=Nat.le_antisymm hm (Nat.le_of_not_lt λ h=>absurd (Int.ofNat_lt.2 h) (of_decide_eq_false hc));subst hge;have ah:=hB.imI L;refine⟨_,⟨rfl,Y.rd⟩,?_⟩;refine⟨_,ah.sees3 (o:=1) rfl,λ v U'=>Jw U'.frz v b.every,λ v U1 X hi w=>hi.lg w.lg.frz2,λ U' w _=>?_,λ v W=>?_⟩
   .refine⟨OP.any,(DW h b (hb.lg (V.trans w.lg.frz2)) O1).mono ?_⟩;rintro v U''⟨W,z⟩-;exact⟨U'',.refl _,W,z⟩
   obtain⟨_,-,-,ea,ec,rfl,-⟩:=W;have ak:b.every.length=h.cl:=by simp[Bk.every,aa]
   refine⟨λ v U'=>∃K,v=.tuple #[K,.bool (WK b.every (b.dcP q) 0 (b.cs.length+1)).isSome]/\JT U'.frz K (b.dcL q),λ v U1 X⟨K,e,hi⟩w=>⟨K,e,hi.lg w.lg.frz2⟩,λ U' w hC=>?_,λ v W=>?_⟩
   .obtain⟨-,ea',ec',e1,hei⟩:=hC;cases e1;have hl:=E0 (S:=S) (U:=U') b.every ea ec (Ef hei) (by rw[ak];omega) b.cs.length O1 59 #[] #[.pointer (some ⟨b8,0,none⟩)] UR.any (b.dcP q) (NQ b ag q (Z.le w) (.inr (by rw[w.own,hM];exact mem_cons_self ..)))
    conv=>whnf
    rw[<- aa];refine⟨OO.any,hl.mono ?_⟩;rintro v U''⟨W,z⟩-;exact⟨U'',.refl _,W,z⟩
   obtain⟨_,-,-,K,rfl,wa,wc,rfl,-⟩:=W
   conv=>whnf
   intro U5 E hC;obtain⟨-,an,e1,hi⟩:=hC
   obtain⟨e2,-⟩:(Value.slice wa (b.dcL q).length wc=an)/\True:=by
    have:=Value.tuple.inj e1;simp at this;exact⟨this,trivial⟩
   subst e2
   repeat refine⟨rfl,?_⟩
   refine⟨⟨_,rfl,hi⟩,⟨λ x o hx=>E.imm x o (V.imm x o hx),⟨[_],E.own.trans hM⟩,E.tok.trans V.tok⟩⟩
 .have ab:b.dcF r=[]:=by unfold Bk.dcF;rw[if_neg hF]
  rw[if_neg hF,ab];refine⟨rfl,Zv (vs:=[.slice none 0 0,.slice none 0 0]) ac rfl (by simp[Value.single]) λ U3 H T=>?_⟩
  repeat refine⟨rfl,?_⟩
  conv=>whnf
  apply Qg<;>intro hc
  .repeat refine⟨rfl,?_⟩
   conv=>whnf
   exact⟨⟨_,rfl,.nil⟩,(Q.trans H).lg⟩
  .exact absurd (by simpa using hc) hF
def DN(h:BH)(b:Bk)(hb:Zs U.frz h b)(w:JY U)(r:Int):Qb S 22 #[h.v,.int .i64 r] (λ v U'=>(∃f,v=.tuple #[f,.int .i64 (b.askF r)]/\Jw U'.frz f (b.dcF r))/\U.le U') U:=
 (CZ h b hb w r).mono λ v U'⟨⟨f,e,h1⟩,h2⟩=>⟨⟨f,e,h1.v⟩,h2⟩
end Go.Proofs
namespace Go.TM
variable{T:Type}{P:Program}{S:Sys P T}{U U':Qa T}
def IP{n:Int}:∀{l:List Int},l.Pairwise (· < ·)->n∉l->(ZB n l).Pairwise (· < ·)
 |[],_,_=>by simp[ZB]
 |y::l,h,b=>by
  obtain⟨h1,h2⟩:=pairwise_cons.1 h;unfold ZB;split
  .refine pairwise_cons.2 ⟨λ x hx=>?_,IP h2 λ hm=>b (by simp[hm])⟩;rcases(PF n x l).1 hx with rfl|hx
   .assumption
   .exact h1 x hx
  .rename_i hge;have f:n≠y:=λ e=>b (by simp[e]);refine pairwise_cons.2 ⟨λ x hx=>?_,h⟩;rcases mem_cons.1 hx with rfl|hx
   .omega
   .have:=h1 x hx;omega
structure Bk.Ok1(b:Bk):Prop where
 nr:b.rs.length<=6
 nc:b.cs.length<=5
 ag:∀c∈b.cs,0<=c.ag/\c.ag<b.nr
 gl:∀c∈b.cs,c.gs.length<=3
 gs:∀c∈b.cs,∀g∈c.gs,g.length<=3/\∀n∈g,0<=n/\n<b.nr
 ri:∀c∈b.cs,c.af.Pairwise (· < ·)
 af:∀c∈b.cs,∀n∈c.af,0<=n/\n<b.nc
def Bk.Ok.ok1{b:Bk}(h:b.Ok):b.Ok1:=⟨h.nr,h.nc,h.ag,h.gl,h.gs,λ _ f=>(h.asc f).2,h.af⟩
def Bk.Ok1.ok{b:Bk}(h:b.Ok1)(hl:Wy b.A=false):b.Ok:=
 ⟨h.nr,h.nc,h.ag,h.gl,h.gs,λ c f=>SO (h.ri c f) (h.af c f) (λ m e=>by cases e),h.af,hl⟩
def Bk.Ok1.low{b:Bk}(h:b.Ok1):b.Low:=⟨h.nc,h.af⟩
structure Bk.Fr(b:Bk)(s:Int×Int):Prop where
 c0:0<=s.1
 cl:s.1.toNat<b.cs.length
 u0:0<=s.2
 ul:s.2<b.nc
 no:s.2∉(b.cas s.1.toNat).af
def Bk.sty_cs(b:Bk)(s:Int×Int){c:Cs}(h:c∈(b.sty s).cs):c∈b.cs\/c={ b.cas s.1.toNat with af:=ZB s.2 (b.cas s.1.toNat).af }:=mem_or_eq_of_mem_set h
def Bk.Ok1.sty{b:Bk}(h:b.Ok1){s:Int×Int}(B:b.Fr s):(b.sty s).Ok1:=by
 have w:=Bk.cas_mem B.cl;have z:(b.sty s).nc=b.nc:=by unfold Bk.nc;rw[b.sty_len]
 refine⟨h.nr,by rw[b.sty_len];exact h.nc,λ c f=>?_,λ c f=>?_,λ c f=>?_,λ c f=>?_,λ c f=>?_⟩ <;> rcases b.sty_cs s f with f|rfl
 .exact h.ag c f
 .exact h.ag (b.cas s.1.toNat) w
 .exact h.gl c f
 .exact h.gl (b.cas s.1.toNat) w
 .exact h.gs c f
 .exact h.gs (b.cas s.1.toNat) w
 .exact h.ri c f
 .exact IP (h.ri _ w) B.no
 .rw[z];exact h.af c f
 .rw[z];intro n E;rcases(PF s.2 n _).1 E with rfl|E
  .exact⟨B.u0,B.ul⟩
  .exact h.af _ w n E
def Bk.Fr.sty{b:Bk}{s f:Int×Int}(z:b.Fr s)(h:b.Fr f)(w:f≠s):(b.sty s).Fr f:=by
 refine⟨h.c0,by rw[b.sty_len];exact h.cl,h.u0,by unfold Bk.nc;rw[b.sty_len];exact h.ul,?_⟩;by_cases e:s.1.toNat=f.1.toNat
 .have e2:f.1=s.1:=by have:=z.c0;have:=h.c0;omega
  have:(b.sty s).cas f.1.toNat={ b.cas s.1.toNat with af:=ZB s.2 (b.cas s.1.toNat).af }:=by
   refine Bk.cas_at ?_;show(b.cs.set s.1.toNat _)[f.1.toNat]?=_;rw[getElem?_set,if_pos e,if_pos z.cl]
  rw[this];intro hm;rcases(PF s.2 f.2 _).1 hm with B|hm
  .exact w (Prod.ext e2 B)
  .exact h.no (by rw[<- e];exact hm)
 .have:(b.sty s).cas f.1.toNat=b.cas f.1.toNat:=by
   show(b.cs.set s.1.toNat _).getD f.1.toNat default=_;rw[getD_eq_getElem?_getD,getElem?_set,if_neg e,<- getD_eq_getElem?_getD];rfl
  rw[this];exact h.no
def Bk.Ok1.stys{b:Bk}(h:b.Ok1):∀{l:List (Int×Int)},(∀s∈l,b.Fr s)->l.Nodup->(b.stys l).Ok1:=by
 intro l
 induction l generalizing b with
 |nil=>exact λ _ _=>h
 |cons s l z=>
  intro hl w;obtain⟨h1,h2⟩:=nodup_cons.1 w;exact z (b:=b.sty s) (h.sty (hl s S1)) (λ B f=>(hl s S1).sty (hl B (by simp[f])) λ e=>h1 (e▸f)) h2
def Bk.stys_rs(b:Bk)(l:List (Int×Int)):(b.stys l).rs=b.rs:=by
 induction l generalizing b with
 |nil=>rfl
 |cons s l f=>exact f (b.sty s)
def Bk.cans_fr{b:Bk}{s:Int×Int}(h:s∈b.cans):b.Fr s:=by
 simp only[Bk.cans,mem_flatMap,mem_range,mem_map,mem_filter,Bool.and_eq_true,Bool.not_eq_true',contains_eq_mem,decide_eq_false_iff_not]at h;obtain⟨i,w,k,⟨z,-,f⟩,rfl⟩:=h;exact⟨S1,by simpa using w,S1,by unfold Bk.nc;simp only;omega,by simpa using f⟩
def Bk.good(b:Bk)(r:Nat)(w:Int)(l:List (Int×Int)):Bool:=!Wy (b.stys l).A&&(b.stys l).fatR r==w
end Go.TM
namespace Go.Proofs
open Go.TM
variable{T:Type}{S:TM.Sys prog T}{U:Qa T}
attribute [local irreducible] Qb Zm Wo
def qe(h:BH)(b:Bk)(hb:Zs U.frz h b)(f:b.Ok)(l:List (Int×Int))(a:Option Addr)(c:Nat)(hl:Q7 U a l.length 2 l (λ x vs=>vs=encII x))(z:l.length<=6)(w:∀s∈l,b.Fr s) :
  Qb S 90 #[h.v,.slice a l.length c] (λ v U'=>(∃B:BH,v=B.v/\Zs U'.frz B (b.stys l))/\U.le U') U:=by
 have H:=f.nc;refine(qG h b hb f.sml l a c hl z f.srt λ s E=>⟨(w s E).c0,(w s E).cl⟩).okv λ v U' L⟨⟨B,K,I⟩,G,ht⟩=>?_;obtain⟨U'',M,N,F,P⟩:=I.freeze L (by rw[Bk.stys_len];omega);exact⟨U'',M,⟨B,K,P⟩,⟨λ x q hx=>F.imm x q (G x q hx),N,F.tok.trans ht⟩⟩
end Go.Proofs
namespace Go.TM
open Go.Proofs (encII)
variable{T:Type}{P:Program}{S:Sys P T}{U U':Qa T}
def gm{α:Type}{enc:α->List Value}{n:Nat}(F:∀x,(enc x).length=n){a:Option Addr}{l:List α}(h:Q7 U a l.length n l λ x vs=>vs=enc x)(f:0<n):Src U a (l.flatMap enc):=by
 cases a with
 |none=>
  cases l with
  |nil=>exact .inl ⟨rfl,rfl⟩
  |cons x l=>
   obtain⟨w,vs,e,_⟩:=h.2 0 x rfl;cases e
 |some w=>
  refine .inr ⟨w,rfl,λ j v G=>?_⟩;have E:=(List.getElem?_eq_some_iff.1 G).1;rw[Qz F]at E;have B:j / n<l.length:=Nat.div_lt_of_lt_mul (by rw[Nat.mul_comm];exact E);have I:j % n<n:=Nat.mod_lt _ f;obtain⟨H,vs,e,z,rfl,hl,K⟩:=h.2 (j / n) _ (getElem?_eq_getElem B);cases e;have b:j / n*n+j % n=j:=by rw[Nat.mul_comm];exact Nat.div_add_mod j n
  have h1:=P5 F (getElem?_eq_getElem B) I;rw[b,G]at h1;have h2:=K (j % n) v h1.symm;obtain⟨bb,L,M⟩:=w;cases z;rw[Qo,Qo,Nat.add_assoc,b]at h2;rw[Qo];exact h2
def ZD:Option (List (Int×Int))->Option (List (Int×Int))->Option (List (Int×Int))
 |none,y=>y
 |some x,none=>some x
 |some x,some y=>some (if QZ x y<0 then x else y)
def nb(l:List (Int×Int)):Option (List (Int×Int))->List (Int×Int)
 |none=>l
 |some y=>if QZ l y<0 then l else y
def Ui(f:Fm)(x:Operand)(v:Value)(h:Zf f x=v):((#[]++Array.map (Zf f) #[x])++#[]:Array Value)=#[v]:=by simp[h]
def V3(fb bb:Nat)(o:Option (List (Int×Int)))(M:List Qw):Prop:=∃a l c A,Jo 75 2 (.slice a l c) ((o.getD []).flatMap encII) A/\(∀x,o=some x->l=x.length)/\M=.obj fb (.cells [.bool o.isSome].toArray 4 (0,0))::.obj bb (.cells [.slice a l c].toArray 68 (0,0))::A
def JF(fb bb:Nat)(f h:Option (List (Int×Int)))(a b:Bool):TM.Spec:=V3 fb bb (ZD (if a then f else none) (if b then h else none))
structure HQ(U:Qa T)(h:BH)(b:Bk)(r:Nat)(w:Int)(i:Nat)(bcan bfst bbk brt bwt:Nat):Prop where
 can:∃a c,Zi U bcan #[.slice a b.cans.length c]/\Q7 U.frz a b.cans.length 2 b.cans (λ x vs=>vs=encII x)/\b.cans.length<=c
 fst:Zi U bfst #[.int .i64 i]
 bk:Zi U bbk #[.slice h.ra h.rl h.rc,.slice h.ca h.cl h.cc]
 bv:Zs U.frz h b
 rt:Zi U brt #[.int .i64 r]
 wt:Zi U bwt #[.int .i64 w]
def HQ.imI{h:BH}{b:Bk}{r i:Nat}{w:Int}{bcan bfst bbk brt bwt:Nat}(k:HQ U h b r w i bcan bfst bbk brt bwt)(f:∀x o,U.I x=some o->U'.I x=some o)(ht:U'.tok=U.tok):HQ U' h b r w i bcan bfst bbk brt bwt:=
 ⟨let ⟨a,c,h1,h2,h3⟩:=k.can;⟨a,c,h1.imI f,h2.lg ⟨f,⟨[],rfl⟩,ht⟩ (λ _ _ h=>h),h3⟩,k.fst.imI f,k.bk.imI f,k.bv.lg ⟨f,⟨[],rfl⟩,ht⟩,k.rt.imI f,k.wt.imI f⟩
end Go.TM
namespace Go.Proofs
open Go.TM
attribute [local irreducible] Qb Zm Wo
set_option maxHeartbeats 2000000 in
def zk{U₀:Qa Tk}(h:BH)(b:Bk)(br:b.Ok)(b8:b.cans.Nodup)(r:Nat)(Z:r<b.rs.length)(w:Int)(i:Nat){bcan bfst bbk brt bwt lm fb bb g:Nat}{D:TM.Spec}{ci:Int×Int}(a6:b.cans[i]?=some ci)(he:HQ U₀ h b r w i bcan bfst bbk brt bwt)
  (E F:Option (List (Int×Int))) (a4:∀x,E=some x\/F=some x->x.length<=1000) (bu:∀x y,E=some x->F=some y->(if QZ y x<0 then y else x)=(if QZ x y<0 then x else y))
  (m:Nat) (hm:m<=5) (mt:Option ZO) (cm:U₀.tok=⟨0,.wrk g D,mt⟩)
  (au:∀k q,(TM.parts (b.cans.drop (i+1)) m)[k]?=some q->(∀q'∈(TM.parts (b.cans.drop (i+1)) m).take k,b.good r w (ci::q')=false)->b.good r w (ci::q)=true->∃s lo,mt=some (.lok ⟨lm,169,JF fb bb E F⟩ s .idle lo)/\(if s then F else E)=some (ci::q)) :
  Gx Q5 89 #[] #[.pointer (some ⟨bcan,0,none⟩),.pointer (some ⟨bfst,0,none⟩),.pointer (some ⟨bbk,0,none⟩),.pointer (some ⟨brt,0,none⟩),.pointer (some ⟨bwt,0,none⟩),.pointer (some ⟨lm,0,none⟩),.pointer (some ⟨fb,0,none⟩),.pointer (some ⟨bb,0,none⟩)] encII 2 (TM.parts (b.cans.drop (i+1)) m)
   (λ k U'=>U'.tok=⟨0,.wrk g D,mt⟩/\∀q∈(TM.parts (b.cans.drop (i+1)) m).take k,b.good r w (ci::q)=false)
   (λ U'=>∃s lo,U'.tok=⟨0,.wrk g D,some (.lok ⟨lm,169,JF fb bb E F⟩ s .fin lo)⟩) U₀:=by
 intro k q qa qc U X Mc hq h0 ba aw hM⟨ax,bq⟩;have ax:U.tok=⟨0,.wrk g D,mt⟩:=ax;have he:=HQ.imI (U':=U) he h0.imm h0.tok;obtain⟨b9,co⟩:=G4.1 (mem_of_getElem? hq)
 have a3:(ci::q).Sublist b.cans:=by
  have h1:b.cans.drop i=ci::b.cans.drop (i+1):=Hj a6;have h2:(ci::q).Sublist (b.cans.drop i):=by rw[h1];exact b9.cons_cons ci
  exact h2.trans (drop_sublist i b.cans)
 have bm:∀s∈ci::q,b.Fr s:=λ s hs=>Bk.cans_fr (a3.subset hs);have a1:(b.stys (ci::q)).Ok1:=br.ok1.stys bm (b8.sublist a3);have bp:(ci::q).length<=6:=S3
 have bo:i<b.cans.length:=(List.getElem?_eq_some_iff.1 a6).1;refine Qb.post (R:=λ v U'=>(v=.bool false/\b.good r w (ci::q)=false/\U.lg U')\/(v=.bool true/\(∃s lo,U'.tok=⟨0,.wrk g D,some (.lok ⟨lm,169,JF fb bb E F⟩ s .fin lo)⟩)/\∀x o,U.I x=some o->U'.I x=some o)) ?_ λ v U' hv=>?_
 rotate_left
 .rcases hv with⟨rfl,hg,av⟩|⟨rfl,ht,hI⟩
  .obtain⟨A,hA⟩:=av.own;refine⟨{ U' with M:=U.M },Zx (by rw[hA];exact sublist_append_right ..),.inl ⟨rfl,⟨av.imm,⟨[],rfl⟩,av.tok⟩,Mc,hM,av.tok.trans ax,λ q' W=>?_⟩⟩;rw[Wf hq,mem_append]at W;rcases W with W|W
   .exact bq q' W
   .rw[mem_singleton.1 W];exact hg
  .exact⟨U',.refl _,.inr ⟨rfl,[],U'.M,rfl,ht,hI⟩⟩
 refine Qb.ofD (args:=[_,_,_,_,_,_,_,_,_]) U_ Qe S1 ?_;obtain⟨ca,cc,b3,b4,-⟩:=he.can;obtain⟨ad,x,vs,hx,rfl,ck,rfl,-,ce⟩:=b4.at bo;rw[a6]at hx;cases hx;refine⟨_,b3.sees3 (o:=0) rfl,_,he.fst.sees3 (o:=0) rfl,ad,i,⟨rfl,rfl,bo⟩,_,⟨rfl,ce.lg Qr⟩,?_⟩
 conv=>whnf
 intro K bl;refine⟨U.put K (.cells (encII ci).toArray 75),.refl _,?_⟩;have H:=Z2 (U:=U) K (.cells (encII ci).toArray 75);have a5:(U.put K (.cells (encII ci).toArray 75)).M=.obj K (.cells (encII ci).toArray 75 (0,0))::U.M:=rfl;generalize U.put K (.cells (encII ci).toArray 75)=Up at H a5 ⊢
 conv=>whnf
 refine Wn (v:=.slice (some ⟨K,0,none⟩) 1 1) (cs:=encII ci) (new:=q.flatMap encII) (M₀:=U.M) VZ rfl rfl (.inr ⟨K,(encII ci).toArray,1,1,rfl,rfl,Nat.le_refl _,rfl,a5,λ k v hv=>by simpa using hv⟩) (gm (enc:=encII) (n:=2) (λ _=>rfl) (ba.lg (Qr.trans H) λ _ _ h=>h) D1) (Qz (f:=encII) (n:=2) (λ _=>rfl) q) (λ v hv=>by
  obtain⟨y,-,hy⟩:=mem_flatMap.1 hv;simp[encII]at hy;rcases hy with rfl|rfl <;> rfl) (by rw[Qz (f:=encII) (n:=2) (λ _=>rfl)];simp[encII];omega) λ v' M' ai _=>?_
 have ai:Acc 75 2 v' ((ci::q).flatMap encII) M' U.M:=by simpa using ai
 obtain⟨A,bd,hA⟩:=ai.split;obtain⟨V,ll,lc,rfl,a8⟩:=hA.src;have a8:(ci::q).length=ll:=by have e:=(Qz (f:=encII) (n:=2) (λ _=>rfl) (ci::q)).symm.trans a8;omega
 subst a8;have T:U.lg ({ Up with M:=M' }:Qa Tk):=⟨H.imm,⟨A,bd⟩,H.tok⟩
 have a7:Q7 ({ Up with M:=M' }:Qa Tk) V (ci::q).length 2 (ci::q) λ x vs=>vs=encII x:=by
  obtain⟨a2,l2,c2,e2,h2,h3⟩:=Acc.src (U:={ Up with M:=M' }) ai;obtain⟨rfl,-,-⟩:=Value.slice.inj e2;refine HC (enc:=encII) (n:=2) (λ _=>rfl) h3 (λ ad e=>?_) D1;subst e;rcases ai with⟨e1,_,_⟩|⟨b',c',bx,cap',e1,_⟩
  .cases e1
  .cases e1;rfl
 generalize bg:({ Up with M:=M' }:Qa Tk)=U1 at T a7 ⊢;have be:U1.M=A++U.M:=by rw[<- bg];exact bd
 clear bg bl H a5;have aj:=he.imI T.imm T.tok;refine⟨_,⟨rfl,aj.bk.rd⟩,?_⟩;refine⟨D0.any,(qe (S:=Q5) (U:=U1) h b aj.bv br (ci::q) V lc a7 bp bm).mono ?_⟩;rintro _ U2⟨⟨P,rfl,aq⟩,b2⟩-
 conv=>whnf
 intro bz bj;refine⟨_,.refl _,rfl,Zv (vs:=[.slice P.ra P.rl P.rc,.slice P.ca P.cl P.cc]) bj rfl (by simp[Value.single]) λ U3 bh Q=>?_⟩;have Q:Zi U3 bz #[.slice P.ra P.rl P.rc,.slice P.ca P.cl P.cc]:=Q;have ak:=b2.trans bh;have aq:=aq.lg bh.lg.frz2;have bf:=ak.own.trans be;have bi:=aj.imI ak.imm ak.tok;have am:=T.trans ak.lg;refine⟨_,⟨rfl,Q.rd⟩,?_⟩;refine⟨.int .i64 (if Wy (b.stys (ci::q)).A then 8 else 0),λ U' al _=>?_,?_⟩
 .refine⟨Ti.any,(E1 P _ ((aq.lg al.lg.frz2).lg Qr) a1.low).mono ?_⟩;rintro _ U''⟨rfl,hU⟩-;exact⟨rfl,_,.refl _,hU▸.refl _⟩
 cases H:Wy (b.stys (ci::q)).A with
 |true=>
  have hg:b.good r w (ci::q)=false:=by unfold Bk.good;rw[H];rfl
  refine⟨rfl,?_⟩
  conv=>whnf
  intro U4 ah _
  repeat refine⟨rfl,?_⟩
  conv=>whnf
  exact .inl ⟨rfl,hg,am.trans ah.lg⟩
 |false=>
 have bs:=a1.ok H;have bn:b.good r w (ci::q)=((b.stys (ci::q)).fatR r==w):=by unfold Bk.good;rw[H];rfl
 refine⟨rfl,_,⟨rfl,Q.rd⟩,?_⟩;refine⟨_,bi.rt.sees3 (o:=0) rfl,.int .i64 ((b.stys (ci::q)).fatR r),λ U' al _=>?_,?_⟩
 .refine⟨Gc.any,(Vd P _ (aq.lg al.lg.frz2) bs r (by rw[Bk.stys_rs];exact Z)).mono ?_⟩;rintro _ U''⟨rfl,hU⟩-;exact⟨rfl,_,.refl _,hU▸.refl _⟩
 refine⟨_,bi.wt.sees3 (o:=0) rfl,?_⟩
 conv=>whnf
 intro U4 ah _;have bc:=ah.own.trans bf;have N:=am.trans ah.lg;have b5:Q7 U4 V (ci::q).length 2 (ci::q) λ x vs=>vs=encII x:=a7.lg (ak.trans ah).lg λ _ _ h=>h
 repeat refine⟨rfl,?_⟩
 conv=>whnf
 apply Qg<;>intro hc
 .have hg:b.good r w (ci::q)=false:=by
   rw[bn];have:(b.stys (ci::q)).fatR r≠w:=by simpa using hc
   simpa using this
  repeat refine⟨rfl,?_⟩
  conv=>whnf
  exact .inl ⟨rfl,hg,N⟩
 have hg:b.good r w (ci::q)=true:=by
  rw[bn];have:(b.stys (ci::q)).fatR r=w:=by simpa using hc
  simpa using this
 obtain⟨s,lo,rfl,L⟩:=au k q hq bq hg;have cf:U4.tok=⟨0,.wrk g D,some (.lok ⟨lm,169,JF fb bb E F⟩ s .idle lo)⟩:=N.tok.trans ax
 have a9:Qb Q5 92 #[.pointer (some ⟨lm,0,none⟩)] (λ v U'=>v=.tuple #[]/\∃B M lo',JF fb bb E F (if s then B else false) (if s then false else B) M/\U'.M=M++U4.M/\(∀x o,U4.I x=some o->U'.I x=some o)/\U'.tok=⟨0,.wrk g D,some (.lok ⟨lm,169,JF fb bb E F⟩ s (.own B) lo')⟩) U4:=by
  refine Qb.post (R:=λ v U'=>v=.tuple #[]/\∃B M lo',JF fb bb E F (if s then B else false) (if s then false else B) M/\U'.M=U4.M++M/\(∀x o,U4.I x=some o->U'.I x=some o)/\U'.tok=⟨0,.wrk g D,some (.lok ⟨lm,169,JF fb bb E F⟩ s (.own B) lo')⟩) (R6 cf λ B M lo' aw=>⟨rfl,B,M,lo',aw,rfl,λ _ _ h=>h,rfl⟩) λ v U'⟨hv,B,M,lo',aw,ae,hI,ht⟩=>?_;exact⟨{ U' with M:=M++U4.M },Wp (by rw[ae];exact perm_append_comm),hv,B,M,lo',aw,rfl,hI,ht⟩
 refine⟨NN,a9.mono ?_⟩;rintro _ U5⟨rfl,B,MS,lo',b1,z,az,bw⟩-;obtain⟨ya,yl,yc,Y,aa,ay,rfl⟩:=b1;have z:U5.M=.obj fb (.cells [.bool (ZD (if(if s then B else false)then E else none) (if(if s then false else B)then F else none)).isSome].toArray 4 (0,0))::.obj bb (.cells [.slice ya yl yc].toArray 68 (0,0))::(Y++(A++U.M)):=by rw[z,bc];simp
 have fin:∀(M₁ M₂:List Qw)(U6:Qa Tk),U6.tok=U5.tok->(∀x o,U5.I x=some o->U6.I x=some o)->U6.M=M₁++M₂->JF fb bb E F (if s then B else true) (if s then true else B) M₁ ->
   Xy Q5 93 #[.pointer (some ⟨lm,0,none⟩)] (λ U'=>(Value.bool true=.bool false/\b.good r w (ci::q)=false/\U.lg U')\/(Value.bool true=.bool true/\(∃s lo,U'.tok=⟨0,.wrk g D,some (.lok ⟨lm,169,JF fb bb E F⟩ s .fin lo)⟩)/\∀x o,U.I x=some o->U'.I x=some o)) U6:=by
  intro M₁ M₂ U6 ht hI ae hD;exact zQ (ht.trans bw) ae hD (.inr ⟨rfl,⟨s,lo',rfl⟩,λ x o hx=>hI x o (az x o (N.imm x o hx))⟩)
 generalize G:ZD (if(if s then B else false)then E else none) (if(if s then false else B)then F else none)=o at aa ay z
 have an:ZD (if(if s then B else true)then E else none) (if(if s then true else B)then F else none)=some (nb (ci::q) o):=by
  cases s with
  |false=>
   have L:E=some (ci::q):=L;have G:ZD none (if B then F else none)=o:=G;show ZD E (if B then F else none)=_;rw[L];have G:(if B then F else none)=o:=G;rw[G];cases o <;> rfl
  |true=>
   have L:F=some (ci::q):=L;have G:ZD (if B then E else none) none=o:=G;show ZD (if B then E else none) F=_;rw[L]
   have G:(if B then E else none)=o:=by
    rw[<- G];cases(if B then E else none) <;> rfl
   rw[G];cases o with
   |none=>rfl
   |some y=>
    have b0:E=some y:=by
     cases B with
     |true=>exact G
     |false=>cases G
    show some (if QZ y (ci::q)<0 then y else ci::q)=some (if QZ (ci::q) y<0 then ci::q else y);rw[bu y (ci::q) b0 L]
 have bt:(Value.slice V (ci::q).length lc).single=true:=rfl
 have cj:∀U':Qa Tk,U'.M=U5.M->U'.sees ((Addr.mk fb 0 none)) (.bool o.isSome):=λ U' ae=>by
  have:=Jy (U:=U') (b:=fb) (e:=4) (vs:=[.bool o.isSome]) (by rw[ae,z];simp) 0 _ rfl;exact this
 repeat refine⟨rfl,?_⟩
 refine⟨_,cj U5 rfl,?_⟩;cases o with
 |none=>
  refine⟨rfl,Yj (b:=bb) (e:=68) (c:=[.slice ya yl yc].toArray) (L₁:=[.obj fb (.cells [.bool false].toArray 4 (0,0))]) (L₂:=A++(Y++U.M)) (vs:=[.slice V (ci::q).length lc]) (by
   rw[z];refine Perm.cons _ (Perm.cons _ ?_);exact perm_append_comm_assoc _ _ _) rfl (by simp[Value.single]) λ U6 ab ao af=>?_⟩
  refine⟨rfl,Wd (b:=fb) (e:=4) (c:=[.bool false].toArray) (vs:=[.bool true]) (M₀:=.obj bb (.cells [.slice V (ci::q).length lc].toArray 68 (0,0))::(A++(Y++U.M))) [] af rfl (by simp[Value.single]) λ U7 ac ap ag=>?_⟩
  have hd:=fin (.obj fb (.cells [.bool true].toArray 4 (0,0))::.obj bb (.cells [.slice V (ci::q).length lc].toArray 68 (0,0))::A) (Y++U.M) U7 (ap.trans ao) (λ x o hx=>by rw[ac,ab];exact hx) (by rw[ag];simp) (by
   unfold JF;rw[an];exact⟨V,_,lc,A,hA,λ x hx=>by cases hx;rfl,rfl⟩)
  refine⟨rfl,O6,?_⟩;refine cast (congrArg (λ a=>Xy Q5 93 a _ _) (Ui _ (.t 6) (.pointer (some ⟨lm,0,none⟩)) rfl).symm) ?_;exact hd.mono λ U' hq=>by(conv=>whnf);exact hq
 |some y=>
  have ay:=ay y rfl;subst ay;have aa:Jo 75 2 (.slice ya y.length yc) (y.flatMap encII) Y:=aa
  have ch:U5.sees (Addr.mk bb 0 none) (.slice ya y.length yc):=by
   have:=Jy (U:=U5) (b:=bb) (e:=68) (vs:=[.slice ya y.length yc]) (by rw[z];simp) 0 _ rfl;exact this
  have b7:Q7 U5 ya y.length 2 y λ x vs=>vs=encII x:=by
   have a0:=aa [];obtain⟨a2,l2,c2,e2,h2,h3⟩:=Acc.src (U:={ U5 with M:=Y++[] }) a0;obtain⟨rfl,-,-⟩:=Value.slice.inj e2
   refine(HC (enc:=encII) (n:=2) (λ _=>rfl) h3 (λ ad e=>?_) D1).mem (λ _ _ h=>h) (λ r Z=>by
    have Z:r∈Y:=by simpa using Z
    rw[z];simp[Z])
   subst e;rcases a0 with⟨e1,_,_⟩|⟨b',c',bx,cap',e1,_⟩
   .cases e1
   .cases e1;rfl
  have b6:Q7 U5 V (ci::q).length 2 (ci::q) λ x vs=>vs=encII x:=b5.mem az λ r Z=>by
   rw[bc]at Z;rw[z];simp at Z ⊢;rcases Z with Z|Z <;> simp[Z]
  have cg:y.length<=1000:=by
   refine a4 y ?_;cases s with
   |false=>
    have G:(if B then F else none)=some y:=G;cases B with
    |true=>exact .inr G
    |false=>cases G
   |true=>
    have G:ZD (if B then E else none) none=some y:=G;cases B with
    |true=>
     have G:ZD E none=some y:=G;refine .inl ?_;rw[<- G];cases E <;> rfl
    |false=>cases G
  repeat refine⟨rfl,?_⟩
  refine⟨_,ch,D4.any,(zz (ci::q) y V ya lc yc b6 b7 O1 cg).go λ _=>?_⟩
  repeat refine⟨rfl,?_⟩
  conv=>whnf
  apply Qg<;>intro hc
  .have hlt:QZ (ci::q) y<0:=by simpa using hc
   refine⟨rfl,Yj (b:=bb) (e:=68) (c:=[.slice ya y.length yc].toArray) (L₁:=[.obj fb (.cells [.bool true].toArray 4 (0,0))]) (L₂:=A++(Y++U.M)) (vs:=[.slice V (ci::q).length lc]) (by
    rw[z];refine Perm.cons _ (Perm.cons _ ?_);exact perm_append_comm_assoc _ _ _) rfl (by simp[Value.single]) λ U6 ab ao af=>?_⟩
   refine⟨rfl,Wd (b:=fb) (e:=4) (c:=[.bool true].toArray) (vs:=[.bool true]) (M₀:=.obj bb (.cells [.slice V (ci::q).length lc].toArray 68 (0,0))::(A++(Y++U.M))) [] af rfl (by simp[Value.single]) λ U7 ac ap ag=>?_⟩
   have hd:=fin (.obj fb (.cells [.bool true].toArray 4 (0,0))::.obj bb (.cells [.slice V (ci::q).length lc].toArray 68 (0,0))::A) (Y++U.M) U7 (ap.trans ao) (λ x o hx=>by rw[ac,ab];exact hx) (by rw[ag];simp) (by
    unfold JF;rw[an];show V3 fb bb (some (if QZ (ci::q) y<0 then ci::q else y)) _;rw[if_pos hlt];exact⟨V,_,lc,A,hA,λ x hx=>by cases hx;rfl,rfl⟩)
   refine⟨rfl,O6,?_⟩;refine cast (congrArg (λ a=>Xy Q5 93 a _ _) (Ui _ (.t 6) (.pointer (some ⟨lm,0,none⟩)) rfl).symm) ?_;exact hd.mono λ U' hq=>by(conv=>whnf);exact hq
  .have hlt:¬QZ (ci::q) y<0:=by simpa using hc
   have hd:=fin (.obj fb (.cells [.bool true].toArray 4 (0,0))::.obj bb (.cells [.slice ya y.length yc].toArray 68 (0,0))::Y) (A++U.M) U5 rfl (λ _ _ h=>h) (by rw[z];simp) (by
    unfold JF;rw[an];show V3 fb bb (some (if QZ (ci::q) y<0 then ci::q else y)) _;rw[if_neg hlt];exact⟨ya,_,yc,Y,aa,λ x hx=>by cases hx;rfl,rfl⟩)
   refine⟨rfl,O6,?_⟩;refine cast (congrArg (λ a=>Xy Q5 93 a _ _) (Ui _ (.t 6) (.pointer (some ⟨lm,0,none⟩)) rfl).symm) ?_;exact hd.mono λ U' hq=>by(conv=>whnf);exact hq
end Go.Proofs
namespace Go.TM
variable{T:Type}{P:Program}{S:Sys P T}{U:Qa T}
def Zl.code{g:FuncId}{N:Nat}{cc:C}{rl:List RV}(k:Zl P g N cc rl)(hm:P.follows .mixedOrders=true){args:List Value}(w:args.length<=N){U:Qa T}{n:Zj T}{x:Nat->Zj T}{r:Zj T}
  (h:ZY S g none cc n x r (fm args) [] U):∃fd:Func,P.funcs[g]?=some fd/\fd.body=some (fd.body.getD .skip)/\fd.ntmps=N/\Zq S g none (fd.body.getD .skip) (Gw N n x r) { tmps:=args.toArray++Array.replicate (fd.ntmps-args.toArray.size) undef,defers:=[] } U:=by
 obtain⟨fd,mu,dets,hf,hb,f,rfl,z,-⟩:=k.ok;refine⟨fd,hf,hb,rfl,?_⟩
 have b:FR fd.ntmps { tmps:=args.toArray++Array.replicate (fd.ntmps-args.toArray.size) undef,defers:=[] } (fm args) []:=by
  refine⟨rfl,S3,λ t=>?_⟩;simp only[fm,Array.getD_eq_getD_getElem?,getD_eq_getElem?_getD,Array.getElem?_append,size_toArray,getElem?_toArray];split
  .rfl
  .rename_i hlt;rw[getElem?_eq_none O1,Array.getElem?_replicate];split <;> rfl
 subst f;exact G6 hm _ b h
def Q7.drop{a:Option Addr}{cap n:Nat}{α:Type}{l:List α}{R:α->List Value->Prop}(h:Q7 U a l.length n l R)(F:l.length<=cap){j:Nat}(G:j<=l.length):Q7 U (if cap=j then a else a.map (·.add (j*n))) (l.length-j) n (l.drop j) R:=by
 refine⟨S1,λ i x hx=>?_⟩;rw[getElem?_drop]at hx;have z:=(List.getElem?_eq_some_iff.1 hx).1;obtain⟨b,vs,e,f,w,hl,B⟩:=h.2 (j+i) x hx;rw[if_neg O1];refine⟨b.add (j*n),vs,by rw[e];rfl,by obtain⟨E,H,I⟩:=b;cases f;rw[Qo],w,hl,?_⟩;rw[show(b.add (j*n)).add (i*n)=b.add ((j+i)*n) by rw[ku b f,Nat.add_mul]];exact B
end Go.TM
namespace Go.Proofs
open Go.TM
attribute [local irreducible] Qb Zm Wo
section
variable(g bcan bm bbk brt bwt lm fb bb:Nat)(i:Int)(T:Array Value)(todo:List Go.Item)
def Hu:List Value:=[.pointer (some ⟨g,0,none⟩),.pointer (some ⟨bcan,0,none⟩),.pointer (some ⟨bm,0,none⟩),.pointer (some ⟨bbk,0,none⟩),.pointer (some ⟨brt,0,none⟩),.pointer (some ⟨bwt,0,none⟩),.pointer (some ⟨lm,0,none⟩),.pointer (some ⟨fb,0,none⟩),.pointer (some ⟨bb,0,none⟩)]
def PZ:List Value:=.int .i64 i::Hu g bcan bm bbk brt bwt lm fb bb
def UE:Deferred:={ target:=.fn (.func 86) (Hu g bcan bm bbk brt bwt lm fb bb).toArray,args:=#[.int .i64 i] }
def V6:Frame:={ (default:Frame)with fn:=86,kind:=.deferred }
def GA:Deferred:={ target:=.fn (.func 87) #[],args:=#[]++#[.pointer (some ⟨g,0,none⟩)] }
def xO:Qm prog 176 false 1 (Gq prog (UE g bcan bm bbk brt bwt lm fb bb i))=some []:=K1
def wR:Qj prog 176 false 1 (Gq prog (UE g bcan bm bbk brt bwt lm fb bb i))=R V6 { tmps:=(PZ g bcan bm bbk brt bwt lm fb bb i).toArray++Array.replicate (Tryz.f86.ntmps-(PZ g bcan bm bbk brt bwt lm fb bb i).toArray.size) undef,defers:=[] } [.code (Tryz.f86.body.getD .skip)] [Pc]:=K1
def xM:Qm prog 176 false 1 (Rf { fr V6 ⟨T,[GA g]⟩ todo with mode:=.returning } [Pc])=some []:=K1
def xN:Qj prog 176 false 1 (Rf { fr V6 ⟨T,[GA g]⟩ todo with mode:=.returning } [Pc])=OV g T todo:=K1
end
def Bx(g:Nat)(D:TM.Spec)(T:Array Value)(todo:List Go.Item){U:Qa Tk}{mu:Option ZO}(ht:U.tok=⟨0,.wrk g D,mu⟩)(f:mu=none\/∃x s lo,mu=some (.lok x s .fin lo))(h:D U.M){Stop:QI Tk}:J Q5 Stop false (Rf { fr V6 ⟨T,[GA g]⟩ todo with mode:=.returning } [Pc]) U:=by
 refine J.calm0 (xM g T todo) ?_;rw[xN];refine J.calm (b:=g) (by rw[ht];rfl) (qZ g T todo) Q3 ?_;show J _ Stop false (Kc g T todo) U;exact .syn (QC.lay (Qn (SE.of_info (g:=Kc g T todo) (DU g T todo))) ht f h Qf (W4 (DU g T todo) rfl) (N0 g T todo))
structure Un(b:Bk)(r:Nat)(w:Int)(m i:Nat)(mt:Option ZO)(lm fb bb:Nat)(Lf Lt:Option (List (Int×Int))):Prop where
 first:∀ci,b.cans[i]?=some ci->∀k q,(TM.parts (b.cans.drop (i+1)) m)[k]?=some q->(∀q'∈(TM.parts (b.cans.drop (i+1)) m).take k,b.good r w (ci::q')=false)->b.good r w (ci::q)=true->∃s lo,mt=some (.lok ⟨lm,169,JF fb bb Lf Lt⟩ s .idle lo)/\(if s then Lt else Lf)=some (ci::q)
 none:∀ci,b.cans[i]?=some ci->(∀q∈TM.parts (b.cans.drop (i+1)) m,b.good r w (ci::q)=false)->mt=none
def zo{U:Qa Tk}(h:BH)(b:Bk)(al:b.Ok)(aj:b.cans.Nodup)(r:Nat)(hr:r<b.rs.length)(w:Int)(i:Nat){bcan bm bbk brt bwt lm fb bb g:Nat}(hi:i<b.cans.length)
  (he:∀(U':Qa Tk)bfst,(∀x o,U.I x=some o->U'.I x=some o)->U'.tok=U.tok->Zi U' bfst #[.int .i64 i]->HQ U' h b r w i bcan bfst bbk brt bwt) (an:b.cans.length<=900)
  (Q T:Option (List (Int×Int))) (L:∀x,Q=some x\/T=some x->x.length<=1000) (ad:∀x y,Q=some x->T=some y->(if QZ y x<0 then y else x)=(if QZ x y<0 then x else y))
  (m:Nat) (hm:m<=5) (af:Zi U bm #[.int .i64 (m+1:Nat)]) (mt:Option ZO) (D:TM.Spec) (G:U.tok=⟨0,.wrk g D,mt⟩) (hw:Un b r w m i mt lm fb bb Q T) {K:List Deferred->Qa Tk->Prop}
  (hK:∀U':Qa Tk,(∃mu,U'.tok=⟨0,.wrk g D,mu⟩/\(mu=none\/∃x s lo,mu=some (.lok x s .fin lo)))->K [GA g] U') :
  ZY Q5 86 none UF (λ _ ds U=>K ds U) (λ _ _ _ _=>False) (λ _ _ _=>False) (fm (PZ g bcan bm bbk brt bwt lm fb bb i)) [] U:=by
 obtain⟨ci,N⟩:∃ci,b.cans[i]?=some ci:=⟨_,getElem?_eq_getElem hi⟩
 conv=>whnf
 intro H U1 B z;have z:Zi U1 H #[.int .i64 i]:=z;have Y:=he U1 H B.imm B.tok z;have V:=af.le B;obtain⟨ca,cc,ae,ag,W⟩:=Y.can;have ab:Z7 ((i:Int)+1):=I1
 have ac:Z7 (((m+1:Nat):Int)-1):=I1
 have ai:((m+1:Nat):Int)-1=(m:Int):=O1
 have F:(b.cans.drop (i+1)).length=b.cans.length-(i+1):=S1
 have P:=Q7.drop (cap:=cc) ag W (j:=i+1) O1;have am:=zk (U₀:=U1) h b al aj r hr w i (bcan:=bcan) (bfst:=H) (bbk:=bbk) (brt:=brt) (bwt:=bwt) (lm:=lm) (fb:=fb) (bb:=bb) (g:=g) (D:=D) N Y Q T L ad m hm mt (B.tok.trans G) (hw.first ci N);have aa:∀f:Fm,f 1=.pointer (some ⟨g,0,none⟩)->(#[]++Array.map (Zf f) #[Operand.tmp 1]:Array Value)=#[]++#[.pointer (some ⟨g,0,none⟩)]:=λ f hf=>by simp[Zf,hf]
 refine⟨rfl,_,ae.sees3 (o:=0) rfl,_,z.sees3 (o:=0) rfl,ab,i+1,b.cans.length,⟨O1,rfl,O1,W⟩,_,V.sees3 (o:=0) rfl,ac,?_⟩
 conv=>whnf
 intro U2 M _
 have Z:=qN (S:=Q5) (U:=U2) (b.cans.drop (i+1)) _ (cc-(i+1)) (by rw[F];exact P.lg M.lg.frz2 λ _ _ h=>h) O1 m O1 89 #[] _ U_.any (I:=λ k U'=>U'.tok=⟨0,.wrk g D,mt⟩/\∀q∈(TM.parts (b.cans.drop (i+1)) m).take k,b.good r w (ci::q)=false) (E:=λ U'=>∃s lo,U'.tok=⟨0,.wrk g D,some (.lok ⟨lm,169,JF fb bb Q T⟩ s .fin lo)⟩)
  (λ k U1 U2 ah⟨h1,h2⟩=>⟨ah.tok.trans h1,h2⟩) (λ k p a cap U X Mc hp h0=>am k p a cap U X Mc hp (M.lg.frz2.trans h0)) ⟨M.tok.trans (B.tok.trans G),S1⟩
 rw[F]at Z;rw[ai];refine⟨UZ.any,Z.mono ?_⟩;rintro v U3 (⟨rfl,-,ht,ak⟩|⟨rfl,⟨s,lo,ht⟩,-⟩) -
 .have hmt:=hw.none ci N λ q hq=>ak q (by rw[take_length];exact hq)
  repeat refine⟨rfl,?_⟩
  conv=>whnf
  exact cast (congrArg (λ a=>K [{ target:=.fn (.func 87) #[],args:=a }] U3) (aa _ rfl).symm) (hK U3 ⟨mt,ht,.inl hmt⟩)
 .repeat refine⟨rfl,?_⟩
  conv=>whnf
  exact cast (congrArg (λ a=>K [{ target:=.fn (.func 87) #[],args:=a }] U3) (aa _ rfl).symm) (hK U3 ⟨_,ht,.inr ⟨_,_,_,rfl⟩⟩)
def zn{U:Qa Tk}(h:BH)(b:Bk)(X:b.Ok)(W:b.cans.Nodup)(r:Nat)(hr:r<b.rs.length)(w:Int)(i:Nat){bcan bm bbk brt bwt lm fb bb g:Nat}(hi:i<b.cans.length)
  (he:∀(U':Qa Tk)bfst,(∀x o,U.I x=some o->U'.I x=some o)->U'.tok=U.tok->Zi U' bfst #[.int .i64 i]->HQ U' h b r w i bcan bfst bbk brt bwt) (M:b.cans.length<=900)
  (G H:Option (List (Int×Int))) (f:∀x,G=some x\/H=some x->x.length<=1000) (E:∀x y,G=some x->H=some y->(if QZ y x<0 then y else x)=(if QZ x y<0 then x else y))
  (m:Nat) (hm:m<=5) (L:Zi U bm #[.int .i64 (m+1:Nat)]) (Y:Option ZO) (F:U.tok=⟨0,.wrk g λ _=>True,Y⟩) (hw:Un b r w m i Y lm fb bb G H) (Stop:QI Tk) :
  J Q5 Stop false (Gq prog (UE g bcan bm bbk brt bwt lm fb bb i)) U:=by
 refine J.calm0 (xO ..) ?_;rw[wR]
 obtain⟨fd,V,ab,hN,z⟩:=pP.code (S:=Q5) Qe (args:=PZ g bcan bm bbk brt bwt lm fb bb i) (by simp[PZ,Hu])
  (zo (K:=λ ds U'=>ds=[GA g]/\∃mu,U'.tok=⟨0,.wrk g λ _=>True,mu⟩/\(mu=none\/∃x s lo,mu=some (.lok x s .fin lo))) h b X W r hr w i hi he M G H f E m hm L Y _ F hw λ U' h=>⟨rfl,h⟩)
 have:fd=Tryz.f86:=Option.some.inj (V.symm.trans Tryz.func86);subst this;refine J.body (fn:=86) (Q:=_) ⟨rfl,rfl,by simp[V6],S1⟩ z λ e' a' U' B=>?_;obtain⟨f',aa,P,B⟩:=B;cases e' with
 |normal=>
  obtain⟨rfl,mu,h2,h3⟩:=B;refine⟨.inl rfl,λ todo=>?_⟩;obtain⟨T,Z⟩:=a';have N:Z=[GA g]:=P.ds;subst N;exact Bx g _ T todo h2 h3 trivial
 |exit i=>exact B.elim
 |ret=>exact B.elim
end Go.Proofs

