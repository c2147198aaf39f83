/- Lemmas. No conditions. -/
import Derived.Test.YtignaaddghcanaaGreatDoorB37
import Derived.Test.YtignaaddghcanaaGreatDoorB05
set_option linter.all false
set_option maxRecDepth 100000
set_option maxHeartbeats 4000000
open List
open Go.Proofs.Tryz (prog)
namespace Go.TM
open Go.Proofs
variable{T α:Type}{U U':Qa T}{a:Option Addr}{len:Nat}{d R':α->List Value->Prop}
def Z3.mem{a:Option Addr}{len:Nat}{l:List Int}(h:Z3 U a len l)(b:∀x o,U.I x=some o->U'.I x=some o)(f:∀r∈U.M,r∈U'.M):Z3 U' a len l:=
 ⟨h.1,λ i x w=>let ⟨ad,e,s,hs⟩:=h.2 i x w;⟨ad,e,s,hs.mem b f⟩⟩
def Q8.mem2{n:Nat}{l:List α}(h:Q8 U a len n l d)(b:∀x o,U.I x=some o->U'.I x=some o)(f:∀r∈U.M,r∈U'.M)(w:∀x vs,d x vs->R' x vs):Q8 U' a len n l R':=
 ⟨h.1,λ i x z=>let ⟨ad,vs,e,s,r,hl,hr⟩:=h.2 i x z;⟨ad,vs,e,s,w _ _ r,hl,hr.mem b f⟩⟩
def Wl.mem{a:Option Addr}{len:Nat}{B:List (List Int)}(h:Wl U a len B)(w:∀x o,U.I x=some o->U'.I x=some o)(z:∀r∈U.M,r∈U'.M):Wl U' a len B:=
 Q8.mem2 h w z λ _ _⟨a',f,b,e,E,F⟩=>⟨a',f,b,e,E.mem w z,F⟩
def Zq.mem{h:BH}{b:Bk}(k:Zq U h b)(f:∀x o,U.I x=some o->U'.I x=some o)(w:∀r∈U.M,r∈U'.M):Zq U' h b:=
 ⟨k.rs.mem2 f w λ _ _ h=>h,k.cs.mem2 f w λ _ _⟨ga,gl,gc,z,al,ac,e,B,E,F,G⟩=>⟨ga,gl,gc,z,al,ac,e,B.mem f w,E,F.mem f w,G⟩,k.rl,k.cl,k.rn,k.cn⟩
variable{b:Nat->Option Bool}{i:Nat}{s:Bool}{p:α->Bool}{e:List α}{q:α}{B:Option (List (Int×Int))}
section
attribute [local irreducible] Qb Zp Wv
def Hk(U:Qa T)(v:Value)(l:List (Int×Int)):Prop:=∃a c,v=.slice a l.length c/\Q8 U a l.length 2 l (λ x vs=>vs=encII x)
structure HG(b:Bk)(r:Nat)(w:Int)(m:Nat)(sd:Nat->Option Bool)(Lf Lt:Option (List (Int×Int))):Prop where
 n:b.cans.Nodup
 pos:0<b.cans.length
 six:b.cans.length<=6
 m5:m<=5
 len:∀x,Lf=some x\/Lt=some x->x.length<=1000
 sym:∀x y,Lf=some x->Lt=some y->(if QX y x<0 then y else x)=(if QX x y<0 then x else y)
 no:∀i ci,b.cans[i]?=some ci->(TM.parts (b.cans.drop (i+1)) m).find? (λ q=>b.good r w (ci::q))=none->sd i=none
 yes:∀i ci q,b.cans[i]?=some ci->(TM.parts (b.cans.drop (i+1)) m).find? (λ q=>b.good r w (ci::q))=some q->∃s,sd i=some s/\(if s then Lt else Lf)=some (ci::q)
 one:∀i j s,sd i=some s->sd j=some s->i=j
 out:∀s,((range b.cans.length).any λ i=>sd i==some s)=false->(if s then Lt else Lf)=none
def ZV(b:Nat->Option Bool)(i:Nat)(s:Bool):Bool:=(range i).any λ j=>b j==some s
def vr(h:b i=none):ZV b (i+1)=ZV b i:=by
 funext s;unfold ZV;rw[range_succ,any_append];simp[h]
def vu(h:b i=some s)(f:∀i j s,b i=some s->b j=some s->i=j):ZV b i s=false/\ZV b (i+1)=ZI (ZV b i) s true:=by
 have w:ZV b i s=false:=by
  unfold ZV;rw[any_eq_false];intro j z e;rw[mem_range]at z;have:=f j i s (by simpa using e) h;omega
 refine⟨w,?_⟩;funext s';unfold ZV ZI;rw[range_succ,any_append];by_cases e:s'=s
 .subst e;simp[h]
 .rw[if_neg e];simp[h,Ne.symm e]
abbrev XU(lm fb bb:Nat)(b f:Option (List (Int×Int))):QV:=⟨lm,166,JD fb bb b f⟩
abbrev Xv:TM.Spec:=λ _=>True
def wJ(h:∀q∈e,p q=false):e.find? p=none:=by
 rw[find?_eq_none];intro q b;rw[h q b];simp
def vW(b:e[len]?=some q)(h:∀q'∈e.take len,p q'=false)(w:p q=true):e.find? p=some q:=by
 rw[find?_eq_some_iff_getElem];obtain⟨b,f⟩:=List.getElem?_eq_some_iff.1 b;refine⟨w,len,b,f,λ j z=>?_⟩;have:=h e[j] (mem_take_iff_getElem.2 ⟨j,O1,rfl⟩);simp[this]
def Dt{U:Qa Tk}(al:U.tok=⟨0,.out,none⟩)(h:BH)(b:Bk)(hb:Zq U.frz h b)(bc:b.Ok)(r:Nat)(hr:r<b.rs.length)(w:Int)(m:Nat){P:Nat->Option Bool}{z:Option (List (Int×Int))}(W:HG b r w m P z B) :
  Qb Q6 61 #[h.v,.int .i64 r,.int .i64 (m+1:Nat),.int .i64 w] (λ v U'=>(∃v1,v=.tuple #[v1,.bool (ZC z B).isSome]/\Hk U'.frz v1 ((ZC z B).getD []))/\U.le U') U:=by
 have bw:=bc.nc
 have bg:Qb Q6 61 #[h.v,.int .i64 r,.int .i64 (m+1:Nat),.int .i64 w] (λ v U'=>∃a l c A Z,v=.tuple #[.slice a l c,.bool (ZC z B).isSome]/\Js 60 2 (.slice a l c) (((ZC z B).getD []).flatMap encII) A/\U'.M.Perm (A++(Z++U.M))/\(∀x o,U.I x=some o->U'.I x=some o)/\U'.tok=U.tok) U:=by
  refine Qb.of (args:=[_,_,_,_]) OC Qf S1 ?_
  conv=>whnf
  intro b4 U1 bn G;have G:Zj U1 b4 #[.slice h.ra h.rl h.rc,.slice h.ca h.cl h.cc]:=G
  conv=>whnf
  intro b5 U2 a0 H;have H:Zj U2 b5 #[.int .i64 r]:=H
  conv=>whnf
  intro b6 U3 an K;have K:Zj U3 b6 #[.int .i64 (m+1:Nat)]:=K
  conv=>whnf
  intro b7 U4 ad aa;have aa:Zj U4 b7 #[.int .i64 w]:=aa;have ak:=((bn.trans a0).trans an).trans ad;have G:=G.le ((a0.trans an).trans ad);have H:=H.le (an.trans ad);have K:=K.le ad;refine⟨_,⟨rfl,G.rd⟩,?_⟩;refine⟨UD.any,(Mj h b (hb.lg ak.lg.frz2) bw).mono ?_⟩;rintro _ U5⟨⟨ca,cc,rfl,ap,br,-⟩,bo⟩-
  conv=>whnf
  intro b10 aj;refine⟨_,.refl _,rfl,Zv (vs:=[.slice ca b.cans.length cc]) aj rfl (by simp[Value.single]) λ V a3 L=>?_⟩;have L:Zj V b10 #[.slice ca b.cans.length cc]:=L;have E:=bo.trans a3;have N:=ak.trans E;have G:=G.le E;have H:=H.le E;have K:=K.le E;have aa:=aa.le E;have bq:Zq V.frz h b:=hb.lg N.lg.frz2;have ap:Q8 V.frz ca b.cans.length 2 b.cans (λ x vs=>vs=encII x):=ap.lg a3.lg.frz2 λ _ _ h=>h
  conv=>whnf
  intro lm a7;refine⟨_,.refl _,?_⟩
  conv=>whnf
  intro F a8;refine⟨_,.refl _,?_⟩
  conv=>whnf
  intro bb a5;refine⟨_,.refl _,?_⟩
  conv=>whnf
  intro fb a6;refine⟨_,.refl _,rfl,HC (vs:=[.bool false]) rfl (by simp[Value.single]) ?_⟩
  have az:((((V.put lm (.cells #[.int .i32 0,.int .u32 0] 166)).put F (.cells #[.int .u64 0,.int .u32 0] 173)).put bb (.cells #[.nl] 49)).put fb (.cells [.bool false].toArray 4)).M=[.cl fb [.bool false] 4,.cl bb [.nl] 49]++.obj F (.cells #[Q0 0 0,Qp 0] 173 (0,0))::(.obj lm (.cells #[Zb 0,Qp 0] 166 (0,0))::U.M):=by
   show _::_::_::_::V.M=_;rw[N.own];rfl
  have am:∀x o,V.I x=some o->((((V.put lm (.cells #[.int .i32 0,.int .u32 0] 166)).put F (.cells #[.int .u64 0,.int .u32 0] 173)).put bb (.cells #[.nl] 49)).put fb (.cells [.bool false].toArray 4)).I x=some o:=λ _ _ h=>h;have be:((((V.put lm (.cells #[.int .i32 0,.int .u32 0] 166)).put F (.cells #[.int .u64 0,.int .u32 0] 173)).put bb (.cells #[.nl] 49)).put fb (.cells [.bool false].toArray 4)).tok=⟨0,.out,none⟩:=N.tok.trans al;generalize((((V.put lm (.cells #[.int .i32 0,.int .u32 0] 166)).put F (.cells #[.int .u64 0,.int .u32 0] 173)).put bb (.cells #[.nl] 49)).put fb (.cells [.bool false].toArray 4))=U7 at az am be ⊢;clear a7 a8 a5 a6 aj;refine⟨_,(L.imI am).sees3 (o:=0) rfl,Nat,λ i=>[(12,.pb F),(13,.pb bb),(14,.pb fb),(15,.func (.func 87) #[] (Ho F b10 b6 b4 b5 b7 lm fb bb).toArray),(21,.int .i64 b.cans.length),(22,.int .i64 i)],
   λ i U'=>(∀x o,U7.I x=some o->U'.I x=some o)/\i<=b.cans.length/\((i=0/\U'.tok=⟨0,.out,none⟩/\U'.M=[.cl fb [.bool false] 4,.cl bb [.nl] 49]++.obj F (.cells #[Q0 0 0,Qp 0] 173 (0,0))::(.obj lm (.cells #[Zb 0,Qp 0] 166 (0,0))::U.M)) \/
    (0<i/\U'.tok=⟨0,.par F (replicate i Xv) false .run,some (.par (XU lm fb bb z B) (ZV P i))⟩/\U'.M=U.M)),λ i=>b.cans.length-i,0,T1,⟨λ _ _ h=>h,O1,.inl ⟨rfl,be,az⟩⟩,?_⟩
  rintro i f U8⟨ay,hi,ag⟩;have bs:Ja ((i:Int)+1):=by have:=W.six;unfold Ja;omega
  have ah:∀x o,V.I x=some o->U8.I x=some o:=λ x o T=>ay x o (am x o T)
  repeat refine⟨rfl,?_⟩
  conv=>whnf
  apply Qg<;>intro hc
  .have hlt:i<b.cans.length:=by simpa using hc
   obtain⟨ci,ae⟩:∃ci,b.cans[i]?=some ci:=⟨_,getElem?_eq_getElem hlt⟩;have h6:=W.six
   have a4:Qb Q6 97 #[.pb F,.int .i64 1] (λ v U'=>U'.I=U8.I/\U'.tok=⟨0,.par F (replicate i Xv) true .run,some (.par (XU lm fb bb z B) (ZV P i))⟩/\U'.M=U.M) U8:=by
    rcases ag with⟨rfl,S,X⟩|⟨b2,S,X⟩
    .refine Qb.make (M₁:=[.cl fb [.bool false] 4,.cl bb [.nl] 49]) (M₂:=.obj lm (.cells #[Zb 0,Qp 0] 166 (0,0))::U.M) S X ?_;refine Qb.shift (U':=⟨U8.I,.obj lm (.cells #[Zb 0,Qp 0] 166 (0,0))::([.cl fb [.bool false] 4,.cl bb [.nl] 49]++U.M),⟨0,.par F [] false .run,none⟩⟩) (W3 perm_middle) ?_;refine Qb.makeM (x:=XU lm fb bb z B) (M₁:=[.cl fb [.bool false] 4,.cl bb [.nl] 49]) (M₂:=U.M) rfl rfl ⟨none,0,0,[],.nil,(λ x T=>by cases T),rfl⟩ ?_;exact Fl (ds:=[]) S1 rfl ⟨rfl,rfl,rfl⟩
    .exact Fl (ds:=replicate i Xv) S3 S ⟨rfl,by show(⟨0,_,U8.tok.mu⟩:Tk)=_;rw[S],X⟩
   refine⟨Nw,a4.mono ?_⟩;rintro v U9⟨ac,av,Y⟩-;have ai:∀x o,V.I x=some o->U9.I x=some o:=λ x o T=>by rw[ac];exact ah x o T
   conv=>whnf
   intro a ha;rw[za];refine FE ?_;rw[LV];refine kY λ⟨wd,bz⟩=>?_;have bh:a.eval (.t 15)=.func (.func 87) #[] (Ho F b10 b6 b4 b5 b7 lm fb bb).toArray:=ha.get 15;refine XP NZ (Wk MG) (.inl rfl) ?_;unfold HP;simp only[execOp,zp,Qd,Qk,Ye,bh];rw[MD];have ao:=ha.put (some 26) (.func (.func 87) #[] (Ho F b10 b6 b4 b5 b7 lm fb bb).toArray) (by intro d hd;cases hd;decide);generalize a.put (some 26) (.func (.func 87) #[] (Ho F b10 b6 b4 b5 b7 lm fb bb).toArray)=a1 at ao ⊢;have bi:a1.eval (.t 16)=.int .i64 i:=ao.get 16;refine XP N_ (Wk MH) (.inl rfl) ?_;unfold HP;simp only[execOp,zq,Qd,Qk,Ye,bi];rw[ME];have Q:=ao.put (some 27) (.int .i64 i) (by intro d hd;cases hd;decide);generalize a1.put (some 27) (.int .i64 i)=a2 at Q ⊢;have bj:a2.eval (.t 26)=.func (.func 87) #[] (Ho F b10 b6 b4 b5 b7 lm fb bb).toArray:=Q.get 26
   have bk:(#[]++#[Operand.tmp 27].map a2.eval:Array Value)=#[.int .i64 i]:=by
    have:a2.eval (.t 27)=.int .i64 i:=Q.get 27;simp[this]
   obtain⟨ax,mc,bv,ba,bt,bu⟩:∃ax mc,Yj (some (.par (XU lm fb bb z B) (ZV P i))) ax mc/\ax=some (.par (XU lm fb bb z B) (ZV P (i+1)))/\(∀s,P i=some s->mc=some (.lok (XU lm fb bb z B) s .idle 0))/\(P i=none->mc=none):=by
    cases hs:P i with
    |none=>exact⟨_,none,.inl ⟨rfl,rfl⟩,by rw[vr hs],λ s h=>by(cases h),λ _=>rfl⟩
    |some s=>
     obtain⟨u1,u2⟩:=vu hs W.one;exact⟨_,some (.lok (XU lm fb bb z B) s .idle 0),.inr ⟨_,_,s,rfl,u1,rfl,rfl⟩,by rw[u2],λ s' h=>by cases h;rfl,λ h=>by cases h⟩
   subst ba
   have b0:Ug b r w m i mc lm fb bb z B:=by
    refine⟨λ ci ae k q hk au hg=>?_,λ ci ae au=>bu (W.no i ci ae (wJ au))⟩;obtain⟨s,hs,hL⟩:=W.yes i ci q ae (vW hk au hg);exact⟨s,0,bt s hs,hL⟩
   refine kZ (D:=Xv) (ds:=replicate i Xv) (Up:=⟨U9.I,U9.M,⟨0,.par F (replicate (i+1) Xv) false .run,some (.par (XU lm fb bb z B) (ZV P (i+1)))⟩⟩) (Uc:=⟨U9.I,[],⟨0,.wrk F Xv,mc⟩⟩) R0 (Wk MJ) zr bj av (FK bz (M₁:=[]) (M₂:=U9.M) (Perm.refl _)) rfl rfl bv (λ Stop=>?_) ?_
   .rw[bk];have bf:=qz (U:=⟨U9.I,[],⟨0,.wrk F Xv,mc⟩⟩) h b bc W.n r hr w i (bcan:=b10) (bm:=b6) (bbk:=b4) (brt:=b5) (bwt:=b7) (lm:=lm) (fb:=fb) (bb:=bb) (g:=F) hlt (λ U' bfst hI ht bp=>?_) O1 z B W.len W.sym m W.m5 (K.imI ai) mc rfl b0 Stop
    .exact bf
    .have hI6':∀x o,V.I x=some o->U'.I x=some o:=λ x o T=>hI x o (ai x o T);exact⟨⟨ca,cc,L.imI hI6',ap.mem hI6' (λ r hr=>by cases hr),br⟩,bp,G.imI hI6',bq.mem hI6' (λ r hr=>by cases hr),H.imI hI6',aa.imI hI6'⟩
   .refine Ll ?_;rw[MF];refine⟨by rw[Act.put,Q.size,ha.size],_,Q.get,?_⟩;refine⟨bs,by simpa[Act.put]using Q.ds,i+1,T1,⟨λ x o T=>by show U9.I x=_;rw[ac];exact ay x o T,O1,.inr ⟨O1,rfl,Y⟩⟩,L1⟩
  .have hge:i=b.cans.length:=by simp at hc;omega
   subst hge
   obtain⟨-,S,X⟩:0<b.cans.length/\U8.tok=⟨0,.par F (replicate b.cans.length Xv) false .run,some (.par (XU lm fb bb z B) (ZV P b.cans.length))⟩/\U8.M=U.M:=by
    rcases ag with⟨h0,_⟩|ag
    .have:=W.pos;omega
    .exact ag
   have hu:∀s,(if ZV P b.cans.length s then(if s then B else z)else none)=(if s then B else z):=λ s=>by
    cases bx:ZV P b.cans.length s with
    |true=>rfl
    |false=>rw[W.out s bx];rfl
   have aw:Qb Q6 98 #[.pb F] (λ v U'=>v=.tuple #[]/\U'.I=U8.I/\U'.tok=⟨0,.out,none⟩/\∃M',PP fb bb (ZC z B) M'/\U'.M=M'++U.M) U8:=by
    refine Qb.post (R:=λ v U'=>v=.tuple #[]/\U'.I=U8.I/\U'.tok=⟨0,.out,none⟩/\∃Ms M',PP fb bb (ZC z B) M'/\U'.M=(U.M++Ms)++M') (BJ (ds:=replicate b.cans.length Xv) (by simp;exact W.six) S λ Ms M' b8 ab=>⟨rfl,rfl,rfl,Ms.flatten,M',?_,by rw[X]⟩) λ v U'⟨hv,hI,ht,Ms,M',ab,bl⟩=>?_
    .have h1:=hu false;have h2:=hu true;simp only[Bool.false_eq_true,if_false,if_true]at h1 h2;have:JD fb bb z B (ZV P b.cans.length false) (ZV P b.cans.length true) M':=ab;unfold JD at this
     rwa [h1,h2]at this
    .refine⟨{ U' with M:=M'++U.M },In ⟨Ms,?_⟩,hv,hI,ht,M',ab,rfl⟩;rw[bl,append_assoc,append_assoc];refine(perm_append_comm (l₁:=U.M) (l₂:=Ms++M')).trans ?_;rw[append_assoc];refine(perm_append_comm (l₁:=Ms) (l₂:=M'++U.M)).trans ?_;rw[append_assoc]
   refine⟨Ny,aw.mono ?_⟩;rintro _ U9⟨rfl,ac,av,M',⟨a,l,c,A,hA,-,rfl⟩,Y⟩-;refine⟨_,Jz (b:=bb) (e:=49) (vs:=[.slice a l c]) (by rw[Y];simp) 0 _ rfl,?_⟩;refine⟨_,Jz (b:=fb) (e:=4) (vs:=[.bool (ZC z B).isSome]) (by rw[Y];simp) 0 _ rfl,?_⟩
   conv=>whnf
   intro Ua aq _;refine⟨a,l,c,A,[.cl fb [.bool (ZC z B).isSome] 4,.cl bb [.slice a l c] 49],rfl,hA,?_,λ x o T=>aq.imm x o (by rw[ac];exact ah x o (N.imm x o T)),by rw[aq.tok,av,al]⟩;rw[aq.own,Y];refine Perm.trans ?_ (perm_append_comm_assoc [.cl fb [.bool (ZC z B).isSome] 4,.cl bb [.slice a l c] 49] A U.M);exact Perm.refl _
 refine bg.okv λ v U' hw⟨a,l,c,A,Z,hv,hA,hM,hI,ht⟩=>?_;obtain⟨U1,k1,k2,k3,a',b3,b1,e,hl,bd,ab⟩:=hA.freeze (KQ hw) hM;cases e;have a9:((ZC z B).getD []).length=l:=by have e:=(Qz (f:=encII) (n:=2) (λ _=>rfl) ((ZC z B).getD [])).symm.trans hl;omega
 subst a9;exact⟨{ U1 with M:=U.M },k1.trans (Zz (by rw[k2];exact sublist_append_right ..)),⟨_,hv,a,c,rfl,Hv (enc:=encII) (n:=2) (λ _=>rfl) bd ab D1⟩,⟨λ x o T=>k3.imm x o (hI x o T),rfl,k3.tok.trans ht⟩⟩
end
def X6{α:Type}(F:Nat->Option α):Nat->Nat->Option α
 |_,0=>none
 |m,n+1=>match F m with
  |some x=>some x
  |none=>X6 F (m+1) n
def Ea(F:Nat->Option α)(m n:Nat):X6 F m (n+1)=match F m with
  |some x=>some x
  |none=>X6 F (m+1) n:=rfl
def X9(b:Bool):Int:=if b then 1 else 2
def Bk.staF(b:Bk)(r:Int)(f:Bool)(F:Nat->Option (List (Int×Int))):Option (List (Int×Int)):=
 if b.askF r=0 then(if b.fatR r.toNat=X9 f then some []else if b.fatR r.toNat=X9 (!f)then none else X6 F 0 (b.cs.length-1))else none
section
attribute [local irreducible] Qb Zp Wv
def Hk.nil:Hk U .nl []:=⟨none,0,rfl,rfl,λ i x b=>by simp at b⟩
def Hk.lg{T:Type}{U U':Qa T}{v:Value}{l:List (Int×Int)}(h:Hk U v l)(k:U.lg U'):Hk U' v l:=let ⟨a,c,e,h⟩:=h;⟨a,c,e,h.lg k λ _ _ h=>h⟩
def DA{U:Qa Tk}(ab:U.tok=⟨0,.out,none⟩)(h:BH)(b:Bk)(hb:Zq U.frz h b)(hk:JY U)(r:Int)(w:Bool)(F:Nat->Option (List (Int×Int)))
  (hC:b.askF r=0->b.fatR r.toNat≠X9 w->b.fatR r.toNat≠X9 (!w)->∀m,m+1<b.cs.length->(∀P,P<m->F P=none)->∃sd Lf Lt,HG b r.toNat (X9 w) m sd Lf Lt/\ZC Lf Lt=F m) :
  Qb Q6 17 #[h.v,.int .i64 r,.bool w] (λ v U'=>(∃v1,v=.tuple #[v1,.bool (b.staF r w F).isSome,.int .i64 (b.askF r)]/\Hk U'.frz v1 ((b.staF r w F).getD []))/\U.le U') U:=by
 refine Qb.grown (R:=λ v U'=>∃v1,v=.tuple #[v1,.bool (b.staF r w F).isSome,.int .i64 (b.askF r)]/\Hk U' v1 ((b.staF r w F).getD [])) (λ v U1 U2 hl⟨v1,e,h1⟩=>⟨v1,e,h1.lg hl⟩) (Qb.of (args:=[_,_,_]) OR Qf S1 ?_);have al:=hb.cs.1
 repeat refine⟨rfl,?_⟩
 conv=>whnf
 intro B U1 aa hB;have hB:Zj U1 B #[.slice h.ra h.rl h.rc,.slice h.ca h.cl h.cc]:=hB;refine⟨_,⟨rfl,hB.rd⟩,?_⟩;refine⟨Pk.any,(PY h b (hb.lg aa.lg.frz2) (hk.lg aa.lg) r).go λ _=>?_⟩
 conv=>whnf
 intro b9 ai;refine⟨_,.refl _,?_⟩;by_cases hF:b.askF r=0
 .obtain⟨hok,hr0,N⟩:=Bk.askF_ok hF;obtain⟨q,rfl⟩:=Int.eq_ofNat_of_zero_le hr0;have hq:q<b.rs.length:=by unfold Bk.nr at N;omega
  have am:=hok.nc;have ad:b.staF (q:Int) w F=(if b.fatR q=X9 w then some []else if b.fatR q=X9 (!w)then none else X6 F 0 (b.cs.length-1)):=by unfold Bk.staF;rw[if_pos hF,Int.toNat_natCast]
  have hC:=hC hF;rw[Int.toNat_natCast]at hC;rw[if_pos hF,hF,ad];refine⟨rfl,Zv (vs:=[.slice h.ra h.rl h.rc,.slice h.ca h.cl h.cc]) ai rfl (by simp[Value.single]) λ U2 ah Q=>?_⟩;have Q:Zj U2 b9 #[.slice h.ra h.rl h.rc,.slice h.ca h.cl h.cc]:=Q;have E:=aa.trans ah;have hB:=hB.le ah;have W:=P_ (S:=Q6) (U:=U2) h b (hb.lg E.lg.frz2) hok q hq;cases w with
  |true=>
   have ae:X9 true=1:=rfl;have ag:X9 (!true)=2:=rfl;rw[ae,ag]at hC ⊢
   repeat refine⟨rfl,?_⟩
   refine⟨_,⟨rfl,Q.rd⟩,?_⟩;refine⟨G4.any,W.go λ _=>?_⟩
   repeat refine⟨rfl,?_⟩
   conv=>whnf
   apply Qg<;>intro I
   .have Y:b.fatR q=1:=by simpa using I
    rw[if_pos Y]
    repeat refine⟨rfl,?_⟩
    conv=>whnf
    exact⟨⟨_,rfl,.nil⟩,E.lg⟩
   have Y:b.fatR q≠1:=by simpa using I
   rw[if_neg Y]
   repeat refine⟨rfl,?_⟩
   conv=>whnf
   apply Qg<;>intro I
   .have Z:b.fatR q=2:=by simpa using I
    rw[if_pos Z]
    repeat refine⟨rfl,?_⟩
    conv=>whnf
    exact⟨⟨_,rfl,.nil⟩,E.lg⟩
   have Z:b.fatR q≠2:=by simpa using I
   rw[if_neg Z]
   refine⟨Nat,λ m=>[(1,.int .i64 q),(3,.pb B),(9,.pb b9),(10,.int .i64 1),(12,.int .i64 (m+1:Nat))],
    λ m U'=>U2.le U'/\(m=0\/m+1<=b.cs.length)/\(∀P,P<m->F P=none)/\X6 F 0 (b.cs.length-1)=X6 F m (b.cs.length-1-m),λ m=>b.cs.length-m,0,T1,⟨.refl _,.inl rfl,S1,rfl⟩,?_⟩
   rintro m f U3⟨K,hm,X,z⟩;have ac:Ja (((m+1:Nat):Int)+1):=I1
   have G:=E.trans K;refine⟨_,(hB.le K).sees3 (o:=1) rfl,?_⟩
   repeat refine⟨rfl,?_⟩
   conv=>whnf
   apply Qg<;>intro I
   .have hlt:m+1<b.cs.length:=by simp at I;omega
    obtain⟨sd,Lf,Lt,hD,V⟩:=hC Y Z m hlt X;rw[show b.cs.length-1-m=(b.cs.length-1-(m+1))+1 by omega,Ea]at z;refine⟨_,⟨rfl,(Q.le K).rd⟩,?_⟩;refine⟨OC.any,(Dt (U:=U3) (G.tok.trans ab) h b (hb.lg G.lg.frz2) hok q hq 1 m hD).mono ?_⟩;rintro _ U4⟨⟨v1,rfl,H⟩,T⟩-;rw[V]at H ⊢;cases L:F m with
    |some x=>
     rw[L]at H z;obtain⟨a1,c1,rfl,N⟩:=H;rw[z]
     repeat refine⟨rfl,?_⟩
     conv=>whnf
     exact⟨⟨_,rfl,⟨a1,c1,rfl,N⟩⟩,(G.trans T).lg⟩
    |none=>
     rw[L]at H z;obtain⟨a1,c1,rfl,N⟩:=H
     repeat refine⟨rfl,?_⟩
     refine⟨ac,?_⟩
     conv=>whnf
     exact⟨rfl,m+1,T1,⟨K.trans T,.inr O1,λ P ak=>by
      by_cases e:P=m
      .rw[e];exact L
      .exact X P O1,z⟩,L1⟩
   .have hge:b.cs.length<=m+1:=by simp at I;omega
    rw[show b.cs.length-1-m=0 by omega]at z;have z:X6 F 0 (b.cs.length-1)=none:=z;rw[z]
    repeat refine⟨rfl,?_⟩
    conv=>whnf
    exact⟨⟨_,rfl,.nil⟩,G.lg⟩
  |false=>
   have ae:X9 false=2:=rfl;have ag:X9 (!false)=1:=rfl;rw[ae,ag]at hC ⊢
   repeat refine⟨rfl,?_⟩
   refine⟨_,⟨rfl,Q.rd⟩,?_⟩;refine⟨G4.any,W.go λ _=>?_⟩
   repeat refine⟨rfl,?_⟩
   conv=>whnf
   apply Qg<;>intro I
   .have Y:b.fatR q=2:=by simpa using I
    rw[if_pos Y]
    repeat refine⟨rfl,?_⟩
    conv=>whnf
    exact⟨⟨_,rfl,.nil⟩,E.lg⟩
   have Y:b.fatR q≠2:=by simpa using I
   rw[if_neg Y]
   repeat refine⟨rfl,?_⟩
   conv=>whnf
   apply Qg<;>intro I
   .have Z:b.fatR q=1:=by simpa using I
    rw[if_pos Z]
    repeat refine⟨rfl,?_⟩
    conv=>whnf
    exact⟨⟨_,rfl,.nil⟩,E.lg⟩
   have Z:b.fatR q≠1:=by simpa using I
   rw[if_neg Z]
   refine⟨Nat,λ m=>[(1,.int .i64 q),(3,.pb B),(9,.pb b9),(10,.int .i64 2),(12,.int .i64 (m+1:Nat))],
    λ m U'=>U2.le U'/\(m=0\/m+1<=b.cs.length)/\(∀P,P<m->F P=none)/\X6 F 0 (b.cs.length-1)=X6 F m (b.cs.length-1-m),λ m=>b.cs.length-m,0,T1,⟨.refl _,.inl rfl,S1,rfl⟩,?_⟩
   rintro m f U3⟨K,hm,X,z⟩;have ac:Ja (((m+1:Nat):Int)+1):=I1
   have G:=E.trans K;refine⟨_,(hB.le K).sees3 (o:=1) rfl,?_⟩
   repeat refine⟨rfl,?_⟩
   conv=>whnf
   apply Qg<;>intro I
   .have hlt:m+1<b.cs.length:=by simp at I;omega
    obtain⟨sd,Lf,Lt,hD,V⟩:=hC Y Z m hlt X;rw[show b.cs.length-1-m=(b.cs.length-1-(m+1))+1 by omega,Ea]at z;refine⟨_,⟨rfl,(Q.le K).rd⟩,?_⟩;refine⟨OC.any,(Dt (U:=U3) (G.tok.trans ab) h b (hb.lg G.lg.frz2) hok q hq 2 m hD).mono ?_⟩;rintro _ U4⟨⟨v1,rfl,H⟩,T⟩-;rw[V]at H ⊢;cases L:F m with
    |some x=>
     rw[L]at H z;obtain⟨a1,c1,rfl,N⟩:=H;rw[z]
     repeat refine⟨rfl,?_⟩
     conv=>whnf
     exact⟨⟨_,rfl,⟨a1,c1,rfl,N⟩⟩,(G.trans T).lg⟩
    |none=>
     rw[L]at H z;obtain⟨a1,c1,rfl,N⟩:=H
     repeat refine⟨rfl,?_⟩
     refine⟨ac,?_⟩
     conv=>whnf
     exact⟨rfl,m+1,T1,⟨K.trans T,.inr O1,λ P ak=>by
      by_cases e:P=m
      .rw[e];exact L
      .exact X P O1,z⟩,L1⟩
   .have hge:b.cs.length<=m+1:=by simp at I;omega
    rw[show b.cs.length-1-m=0 by omega]at z;have z:X6 F 0 (b.cs.length-1)=none:=z;rw[z]
    repeat refine⟨rfl,?_⟩
    conv=>whnf
    exact⟨⟨_,rfl,.nil⟩,G.lg⟩
 .have ad:b.staF r w F=none:=by unfold Bk.staF;rw[if_neg hF]
  rw[if_neg hF,ad];refine⟨rfl,Zv (vs:=[.nl,.nl]) ai rfl (by simp[Value.single]) λ U3 aj _=>?_⟩
  repeat refine⟨rfl,?_⟩
  conv=>whnf
  apply Qg<;>intro I
  .repeat refine⟨rfl,?_⟩
   conv=>whnf
   exact⟨⟨_,rfl,.nil⟩,(aa.trans aj).lg⟩
  .exact absurd (by simpa using I) hF
end
variable{l:List Bool}
def WT(U:Qa T)(a:Option Addr)(len:Nat)(l:List Bool):Prop:=l.length=len/\∀i x,l[i]?=some x->∃b,a=some b/\b.spot=none/\U.sees (b.add (i*1)) (.bool x)
def WT.lg{a:Option Addr}{len:Nat}{l:List Bool}(h:WT U a len l)(k:U.lg U'):WT U' a len l:=⟨h.1,λ i x b=>let ⟨ad,e,s,hs⟩:=h.2 i x b;⟨ad,e,s,hs.lg k⟩⟩
def WT.at(h:WT U a len l)(z:i<len):∃b x,l[i]?=some x/\a=some b/\b.spot=none/\U.sees (b.add (i*1)) (.bool x):=by
 have f:i<l.length:=by rw[h.1];exact z
 have w:l[i]?=some l[i]:=getElem?_eq_getElem f;obtain⟨b,e,s,B⟩:=h.2 i _ w;exact⟨b,_,w,e,s,B⟩
def VM(h:Zj U len (l.map .bool).toArray):WT U (some ⟨len,0,none⟩) l.length l:=
 ⟨rfl,λ i x f=>⟨_,rfl,rfl,by rw[Nat.mul_one,Qo];exact h.sees (by rw[Nat.zero_add];simp[f])⟩⟩
variable{S:Sys prog T}
section
attribute [local irreducible] Qb Zp Wv
def Dm(a a':Option Addr)(len cap b z:Nat)(l l':List Int)(L:Z3 U a len l)(F:Z3 U a' b l')(N:len<2^60) :
  Qb S 21 #[.slice a len cap,.slice a' b z] (λ v U'=>v=.bool (decide (l=l'))/\U'=U) U:=by
 refine Qb.pure' (Qb.of (args:=[_,_]) OT Qf S1 ?_);have V:=L.1;have W:=F.1
 repeat refine⟨rfl,?_⟩
 conv=>whnf
 apply Qg<;>intro B
 .have hne:len≠b:=by intro e;subst e;simp at B
  repeat refine⟨rfl,?_⟩
  refine⟨?_,(Qa.le.refl _).lg⟩;rw[decide_eq_false (λ e=>hne (by rw[<- V,<- W,e]))]
 have H:len=b:=Int.ofNat.inj (by simpa using B:(len:Int)=b);subst H;refine⟨Nat,λ i=>[(0,.slice a len cap),(1,.slice a' len z),(5,.int .i64 i)],λ i U'=>U.le U'/\i<=len/\l.take i=l'.take i,λ i=>len-i,0,T1,⟨.refl _,O1,rfl⟩,?_⟩;rintro i f Y⟨h,hi,E⟩
 repeat refine⟨rfl,?_⟩
 conv=>whnf
 apply Qg<;>intro B
 .have hlt:i<len:=by simpa using B
  obtain⟨T,x,P,rfl,-,X⟩:=(L.lg h.lg).at hlt;obtain⟨G,y,Q,rfl,-,K⟩:=(F.lg h.lg).at hlt;have I:Ja (i+1):=I1
  refine⟨T,i,⟨rfl,rfl,hlt⟩,_,X,G,i,⟨rfl,rfl,hlt⟩,_,K,?_⟩
  conv=>whnf
  intro Z w _
  repeat refine⟨rfl,?_⟩
  conv=>whnf
  apply Qg<;>intro B
  .have hne:x≠y:=by simpa using B
   repeat refine⟨rfl,?_⟩
   conv=>whnf
   exact⟨by rw[decide_eq_false (Kh P Q hne)],(h.trans w).lg⟩
  .have hxy:x=y:=by simpa using B
   refine⟨I,?_⟩
   conv=>whnf
   exact⟨rfl,i+1,T1,⟨h.trans w,O1,V3 P Q E hxy⟩,L1⟩
 .have hge:len<=i:=by simpa using B
  rw[take_of_length_le O1,take_of_length_le O1]at E
  repeat refine⟨rfl,?_⟩
  conv=>whnf
  exact⟨by rw[decide_eq_true E],h.lg⟩
def Ww(a a':Option Addr)(len cap b z:Nat)(l l':List Bool)(L:WT U a len l)(F:WT U a' b l')(N:len<2^60) :
  Qb S 20 #[.slice a len cap,.slice a' b z] (λ v U'=>v=.bool (decide (l=l'))/\U'=U) U:=by
 refine Qb.pure' (Qb.of (args:=[_,_]) Pj Qf S1 ?_);have V:=L.1;have W:=F.1
 repeat refine⟨rfl,?_⟩
 conv=>whnf
 apply Qg<;>intro B
 .have hne:len≠b:=by intro e;subst e;simp at B
  repeat refine⟨rfl,?_⟩
  refine⟨?_,(Qa.le.refl _).lg⟩;rw[decide_eq_false (λ e=>hne (by rw[<- V,<- W,e]))]
 have H:len=b:=Int.ofNat.inj (by simpa using B:(len:Int)=b);subst H;refine⟨Nat,λ i=>[(0,.slice a len cap),(1,.slice a' len z),(5,.int .i64 i)],λ i U'=>U.le U'/\i<=len/\l.take i=l'.take i,λ i=>len-i,0,T1,⟨.refl _,O1,rfl⟩,?_⟩;rintro i f Y⟨h,hi,E⟩
 repeat refine⟨rfl,?_⟩
 conv=>whnf
 apply Qg<;>intro B
 .have hlt:i<len:=by simpa using B
  obtain⟨T,x,P,rfl,-,X⟩:=(L.lg h.lg).at hlt;obtain⟨G,y,Q,rfl,-,K⟩:=(F.lg h.lg).at hlt;have I:Ja (i+1):=I1
  refine⟨T,i,⟨rfl,rfl,hlt⟩,_,X,G,i,⟨rfl,rfl,hlt⟩,_,K,?_⟩
  conv=>whnf
  intro Z w _
  repeat refine⟨rfl,?_⟩
  conv=>whnf
  apply Qg<;>intro B
  .have hne:x≠y:=by simpa using B
   repeat refine⟨rfl,?_⟩
   conv=>whnf
   exact⟨by rw[decide_eq_false (Kh P Q hne)],(h.trans w).lg⟩
  .have hxy:x=y:=by simpa using B
   refine⟨I,?_⟩
   conv=>whnf
   exact⟨rfl,i+1,T1,⟨h.trans w,O1,V3 P Q E hxy⟩,L1⟩
 .have hge:len<=i:=by simpa using B
  rw[take_of_length_le O1,take_of_length_le O1]at E
  repeat refine⟨rfl,?_⟩
  conv=>whnf
  exact⟨by rw[decide_eq_true E],h.lg⟩
def Dk(a a':Option Addr)(len cap b B:Nat)(l l':List (Int×Int))(P:Q8 U a len 2 l λ x vs=>vs=encII x)(G:Q8 U a' b 2 l' λ x vs=>vs=encII x)(Q:len<2^60) :
  Qb S 23 #[.slice a len cap,.slice a' b B] (λ v U'=>v=.bool (decide (l=l'))/\U'=U) U:=by
 refine Qb.pure' (Qb.of (args:=[_,_]) OU Qf S1 ?_);have X:=P.1;have Y:=G.1
 repeat refine⟨rfl,?_⟩
 conv=>whnf
 apply Qg<;>intro E
 .have hne:len≠b:=by intro e;subst e;simp at E
  repeat refine⟨rfl,?_⟩
  refine⟨?_,(Qa.le.refl _).lg⟩;rw[decide_eq_false (λ e=>hne (by rw[<- X,<- Y,e]))]
 have I:len=b:=Int.ofNat.inj (by simpa using E:(len:Int)=b);subst I;refine⟨Nat,λ i=>[(0,.slice a len cap),(1,.slice a' len B),(5,.int .i64 i)],λ i U'=>U.le U'/\i<=len/\l.take i=l'.take i,λ i=>len-i,0,T1,⟨.refl _,O1,rfl⟩,?_⟩;rintro i f U1⟨w,hi,F⟩
 repeat refine⟨rfl,?_⟩
 conv=>whnf
 apply Qg<;>intro E
 .have hlt:i<len:=by simpa using E
  obtain⟨W,x,vs,T,rfl,-,rfl,-,Z⟩:=(P.lg w.lg λ _ _ h=>h).at hlt;obtain⟨H,y,vs,V,rfl,-,rfl,-,N⟩:=(G.lg w.lg λ _ _ h=>h).at hlt;have L:Ja (i+1):=I1
  refine⟨W,i,⟨rfl,rfl,hlt⟩,_,⟨rfl,Z⟩,H,i,⟨rfl,rfl,hlt⟩,_,⟨rfl,N⟩,?_⟩
  conv=>whnf
  intro U2 z _
  conv=>whnf
  refine kg UL (vs:=encII x) (ws:=encII y) rfl rfl K1 K1 ?_
  have K:ZE (encII x) (encII y)=decide (x=y):=by
   obtain⟨a1,b1⟩:=x;obtain⟨a2,b2⟩:=y;simp[encII,ZE,HM,Prod.mk.injEq,Bool.decide_and];rfl
  rw[K]
  repeat refine⟨rfl,?_⟩
  conv=>whnf
  apply Qg<;>intro E
  .have hne:x≠y:=by simpa using E
   repeat refine⟨rfl,?_⟩
   conv=>whnf
   exact⟨by rw[decide_eq_false (Kh T V hne)],(w.trans z).lg⟩
  .have hxy:x=y:=by simpa using E
   refine⟨L,?_⟩
   conv=>whnf
   exact⟨rfl,i+1,T1,⟨w.trans z,O1,V3 T V F hxy⟩,L1⟩
 .have hge:len<=i:=by simpa using E
  rw[take_of_length_le O1,take_of_length_le O1]at F
  repeat refine⟨rfl,?_⟩
  conv=>whnf
  exact⟨by rw[decide_eq_true F],w.lg⟩
def CP:Qb S 13 #[] (λ v U'=>(∃h:BH,v=h.v/\Zq U'.frz h Jb)/\U.le U') U:=by
 refine Qb.grown (R:=λ v U'=>∃h:BH,v=h.v/\Zq U' h Jb) (λ v U1 U2 hl⟨h,e,W⟩=>⟨h,e,W.lg hl⟩) (Qb.of (args:=[]) Uo Qf S1 ?_)
 conv=>whnf
 intro H am;refine⟨_,.refl _,?_⟩;have B:=Z2 (U:=U) H (.cells #[.nl,.nl] 25);have L:(U.put H (.cells #[.nl,.nl] 25)).M=.cl H [.nl,.nl] 25::U.M:=rfl;generalize U.put H (.cells #[.nl,.nl] 25)=s0 at B L ⊢
 conv=>whnf
 intro V ag;refine Zi ag λ s1 W Y=>?_
 conv=>whnf
 intro b2 ah;refine Zi ah λ s2 h2 Z=>?_
 conv=>whnf
 intro b3 ai;refine Zi ai λ s3 h3 aa=>?_
 conv=>whnf
 intro b5 aj;refine Zi aj λ s4 h4 ab=>?_
 conv=>whnf
 intro b7 ak;refine Zi ak λ s5 h5 ac=>?_
 conv=>whnf
 intro b8 al;refine Zi al λ s6 h6 ad=>?_
 conv=>whnf
 intro b10 Q;refine Zi Q λ w h7 P=>?_;have g6:=h7;have g5:=h6.trans g6;have g4:=h5.trans g5;have g3:=h4.trans g4;have g2:=h3.trans g3;have g1:=h2.trans g2;have E:=W.trans g1;have X:=E.own.trans L
 have ae:Zq w.frz ⟨some ⟨V,0,none⟩,3,3,some ⟨b10,0,none⟩,3,3⟩ Jb:=by
  have k1:Zj w.frz V _:=(Y.le g1).imI λ _ _ h=>h;have k2:Zj w.frz b2 _:=(Z.le g2).imI λ _ _ h=>h;have k3:Zj w.frz b3 _:=(aa.le g3).imI λ _ _ h=>h;have k5:Zj w.frz b5 _:=(ab.le g4).imI λ _ _ h=>h;have k7:Zj w.frz b7 _:=(ac.le g5).imI λ _ _ h=>h;have k8:Zj w.frz b8 _:=(ad.le g6).imI λ _ _ h=>h;have F:Zj w.frz b10 _:=P.imI λ _ _ h=>h
  have one:∀(b:Nat)(n:Int),Zj w.frz b #[.int .i64 n]->Z3 w.frz (some ⟨b,0,none⟩) 1 [n]:=λ b n h=>Zj.ints (l:=[n]) h λ i x f=>by
   cases i with
   |zero=>simp at f;subst f;rfl
   |succ i=>simp at f
  have lst:∀(b:Nat)(a:Option Addr)(len cap:Nat)(g:List Int),Zj w.frz b #[.slice a len cap]->Z3 w.frz a len g->len<2^60->Wl w.frz (some ⟨b,0,none⟩) 1 [g]:=λ b a len cap g h hg hl=>by
   refine⟨rfl,λ i x f=>?_⟩;cases i with
   |zero=>
    simp at f;subst f;exact⟨_,_,rfl,rfl,⟨a,len,cap,rfl,hg,hl⟩,rfl,by rw[Nat.zero_mul];exact h.rd⟩
   |succ i=>simp at f
  have G:∀(o:Nat)(v0 v1 v2 v3:Value)(c:Array Value),Zj w.frz b10 c->c[o]?=some v0->c[o+1]?=some v1->c[o+2]?=some v2->c[o+3]?=some v3->Jj w.frz ⟨b10,o,none⟩ [v0,v1,v2,v3]:=by
   intro o v0 v1 v2 v3 c h e0 e1 e2 e3;refine h.reads λ k v z=>?_;have hk:=(List.getElem?_eq_some_iff.1 z).1;simp at hk;obtain rfl|rfl|rfl|rfl:k=0\/k=1\/k=2\/k=3:=O1
   .cases z;exact e0
   .cases z;exact e1
   .cases z;exact e2
   .cases z;exact e3
  have nil:Z3 w.frz none 0 []:=⟨rfl,λ i x f=>by simp at f⟩;refine⟨⟨rfl,λ i x f=>?_⟩,⟨rfl,λ i x f=>?_⟩,by show 3<2^60;decide,by show 3<2^60;decide,D1,D1⟩
  .refine⟨_,_,rfl,rfl,rfl,rfl,λ k v z=>?_⟩;have hk:k=0:=by have:=(List.getElem?_eq_some_iff.1 z).1;simp at this;omega
   subst hk;simp at z;subst z;rw[Qo,Qo];refine k1.sees ?_;have hi:i<3:=by have:=(List.getElem?_eq_some_iff.1 f).1;exact this
   obtain rfl|rfl|rfl:i=0\/i=1\/i=2:=O1
   all_goals(cases f;rfl)
  .have hi:i<3:=by have:=(List.getElem?_eq_some_iff.1 f).1;exact this
   obtain rfl|rfl|rfl:i=0\/i=1\/i=2:=O1
   .cases f;exact⟨_,_,rfl,rfl,⟨_,_,_,_,_,_,rfl,lst b3 _ 1 1 _ k3 (one b2 0 k2) D1,D1,nil,D1⟩,rfl,by rw[Qo];exact G _ _ _ _ _ _ F rfl rfl rfl rfl⟩
   .cases f;exact⟨_,_,rfl,rfl,⟨_,_,_,_,_,_,rfl,lst b5 _ 0 0 _ k5 nil D1,D1,nil,D1⟩,rfl,by rw[Qo];exact G _ _ _ _ _ _ F rfl rfl rfl rfl⟩
   .cases f;exact⟨_,_,rfl,rfl,⟨_,_,_,_,_,_,rfl,lst b8 _ 1 1 _ k8 (one b7 1 k7) D1,D1,nil,D1⟩,rfl,by rw[Qo];exact G _ _ _ _ _ _ F rfl rfl rfl rfl⟩
 refine⟨rfl,Wd (b:=H) (e:=25) (c:=#[.nl,.nl]) (M₀:=U.M) (vs:=[.slice (some ⟨V,0,none⟩) 3 3,.slice (some ⟨b10,0,none⟩) 3 3]) [] X rfl (by simp[Value.single]) λ s8 K T N=>?_⟩;refine⟨_,⟨rfl,Q9 [] N⟩,⟨⟨_,_,_,_,_,_⟩,rfl,ae.lg ⟨λ x o f=>by show s8.I x=_;rw[K];exact f,⟨[],rfl⟩,T⟩⟩,⟨λ x o f=>by rw[K];exact E.imm x o (B.imm x o f),⟨[_],N⟩,T.trans (E.tok.trans B.tok)⟩⟩
end
variable{j:Bk}{r:Nat}{w:Int}{z:Nat->Option Bool}{E:Option (List (Int×Int))}
def FH:Jb.flaw Zh=0:=K1
def vT:(Jb.outF [0,1,2],Jb.ends [0,1,2])=(0,[false,false,true],[true,true,false]):=K1
def vU:(Jb.outF [1,0,2],Jb.ends [1,0,2])=(0,[false,true,false],[false,true,true]):=K1
def vV:Jb.wdF 1=[0]:=K1
def pP:Jb.dcF 0=[1]:=K1
def pQ:Jb.dcF 1=[0,1]:=K1
def H_:(Jb.askF 0,Jb.askF 1,Jb.askF 2)=(0,0,0):=K1
def HJ(b:Bk)(r:Nat)(w:Int)(m:Nat)(f:Nat->Option Bool)(h z:Option (List (Int×Int))):Bool:=(range b.cans.length).all λ i=>match b.cans[i]? with
 |none=>true
 |some ci=>match(TM.parts (b.cans.drop (i+1)) m).find? (λ q=>b.good r w (ci::q))with
  |none=>f i==none
  |some q=>match f i with
   |some s=>(if s then z else h)==some (ci::q)
   |none=>false
def Se(h:HJ j r w len z B E=true):∀i ci,j.cans[i]?=some ci->(TM.parts (j.cans.drop (i+1)) len).find? (λ q=>j.good r w (ci::q))=none->z i=none:=by
 intro i ci f F;unfold HJ at h;rw[all_eq_true]at h;have:=h i (by simpa using(List.getElem?_eq_some_iff.1 f).1);rw[f]at this;simp only[F]at this;simpa using this
def Oh(h:HJ j r w len z B E=true):∀i ci q,j.cans[i]?=some ci->(TM.parts (j.cans.drop (i+1)) len).find? (λ q=>j.good r w (ci::q))=some q->∃s,z i=some s/\(if s then E else B)=some (ci::q):=by
 intro i ci q f G;unfold HJ at h;rw[all_eq_true]at h;have:=h i (by simpa using(List.getElem?_eq_some_iff.1 f).1);rw[f]at this;simp only[G]at this;cases F:z i with
 |none=>rw[F]at this;cases this
 |some s=>
  rw[F]at this;exact⟨s,rfl,by simpa using this⟩
def Uk:Nat->Option Bool:=λ i=>if i=0 then some false else none
def LS:Nat->Option Bool:=λ _=>none
def Ul:Nat->Option Bool:=λ i=>if i=2 then some false else if i=3 then some true else none
def Lj:HJ Jb 1 1 0 Uk (some [(0,1)]) none=true:=K1
def Lo:HJ Jb 2 1 0 LS none none=true:=K1
def Lp:HJ Jb 2 1 1 Ul (some [(1,0),(2,0)]) (some [(1,2),(2,0)])=true:=K1
def YO:Jb.cans.Nodup:=by rw[FG];decide
def H7:Jb.cans.length=6:=by rw[FG];rfl
def yC:HG Jb 1 1 0 Uk (some [(0,1)]) none where
 n:=YO
 pos:=by rw[H7];decide
 six:=by rw[H7];decide
 m5:=D1
 len:=λ x w=>by rcases w with h|h <;> cases h;decide
 sym:=λ x y _ h=>by cases h
 no:=Se Lj
 yes:=Oh Lj
 one:=λ i j s b f=>by
  unfold Uk at b f;split at b <;> split at f <;> simp_all
 out:=λ s h=>by cases s <;> first|rfl|(rw[H7]at h;exact absurd h D1)
def yD:HG Jb 2 1 0 LS none none where
 n:=YO
 pos:=by rw[H7];decide
 six:=by rw[H7];decide
 m5:=D1
 len:=λ x f=>by rcases f with h|h <;> cases h
 sym:=λ x y _ h=>by cases h
 no:=Se Lo
 yes:=Oh Lo
 one:=λ i j s b w=>by cases b
 out:=λ s h=>by cases s <;> rfl
def yE:HG Jb 2 1 1 Ul (some [(1,0),(2,0)]) (some [(1,2),(2,0)]) where
 n:=YO
 pos:=by rw[H7];decide
 six:=by rw[H7];decide
 m5:=D1
 len:=λ x w=>by rcases w with h|h <;> cases h <;> decide
 sym:=λ x y f b=>by cases f;cases b;rfl
 no:=Se Lp
 yes:=Oh Lp
 one:=λ i j s f b=>by
  unfold Ul at f b;split at f
  .cases f;split at b
   .omega
   .split at b <;> cases b
  .split at f
   .cases f;split at b
    .cases b
    .split at b
     .omega
     .cases b
   .cases f
 out:=λ s h=>by
  rw[H7]at h;cases s <;> exact absurd h D1
def GH:Nat->Option (List (Int×Int)):=λ _=>some [(0,1)]
def GJ:Nat->Option (List (Int×Int)):=λ m=>if m=0 then none else some [(1,0),(2,0)]
def Lr:(Jb.staF 1 true GH,Jb.staF 2 true GJ)=(some [(0,1)],some [(1,0),(2,0)]):=K1
def yu:∀m,m+1<Jb.cs.length->(∀w,w<m->GH w=none)->∃z f h,HG Jb 1 1 m z f h/\ZC f h=GH m:=by
 intro m B b;cases m with
 |zero=>exact⟨_,_,_,yC,rfl⟩
 |succ m=>cases b 0 O1
def yv:∀m,m+1<Jb.cs.length->(∀h,h<m->GJ h=none)->∃z b f,HG Jb 2 1 m z b f/\ZC b f=GJ m:=by
 intro m B w
 have:m=0\/m=1:=by
  have:Jb.cs.length=3:=rfl;omega
 rcases this with rfl|rfl
 .exact⟨_,_,_,yD,rfl⟩
 .exact⟨_,_,_,yE,rfl⟩
def WK.c(h:WK U (.slice a len i) l):len=l.length/\WT U a l.length l:=by
 obtain⟨a',b,e,h⟩:=h;cases e;exact⟨rfl,rfl,h⟩
def XI{l:List Int}(h:Zj U len (l.map λ n=>Value.int .i64 n).toArray):Z3 U (some ⟨len,0,none⟩) l.length l:=
 h.ints λ i x f=>by simp[f]
def Io{l:List (Int×Int)}(h:Zj U len (l.flatMap encII).toArray):Q8 U (some ⟨len,0,none⟩) l.length 2 l (λ x vs=>vs=encII x):=
 Hv (enc:=encII) (n:=2) (λ _=>rfl) (.inr ⟨_,rfl,h.rd⟩) (λ f e=>by cases e;rfl) D1
section
attribute [local irreducible] Qb Zp Wv
def Zlw{U:Qa Tk}(a0:U.tok=⟨0,.out,none⟩)(hk:JY U):Qb Q6 6 #[] (λ v U'=>v=.bool true/\U'=U) U:=by
 refine Qb.pure' (Qb.of (args:=[]) p_ Qf S1 ?_);refine⟨Uo.any,CP.mono ?_⟩;rintro _ s1⟨⟨h,rfl,I⟩,h1⟩-
 conv=>whnf
 intro b1 dm;refine⟨_,.refl _,rfl,Zv (vs:=[.slice h.ra h.rl h.rc,.slice h.ca h.cl h.cc]) dm rfl (by simp[Value.single]) λ s2 h2 b=>?_⟩;have b:Zj s2 b1 #[.slice h.ra h.rl h.rc,.slice h.ca h.cl h.cc]:=b;have I:Zq s2.frz h Jb:=I.lg h2.lg.frz2;have e2:U.le s2:=h1.trans h2;refine⟨_,⟨rfl,b.rd⟩,?_⟩
 conv=>whnf
 intro c3 dk;refine Zi dk λ s3 h3 dp=>?_;have z3:s2.frz.lg s3.frz:=h3.lg.frz2;have e3:U.le s3:=e2.trans h3;have b:=b.le h3;have I:=I.lg z3;have il:Z3 s3.frz (some ⟨c3,0,none⟩) 3 [0,1,2]:=XI (l:=[0,1,2]) (dp.imI λ _ _ h=>h);refine⟨OQ.any,(Ds h Jb I (hk.lg e3.lg) _ 3 3 [0,1,2] il D1).mono ?_⟩;rintro _ s4⟨⟨v1,v2,rfl,K,hy⟩,h4⟩-;obtain⟨aj,ai⟩:=Prod.mk.inj vT;have ai:Jb.ends (List.map Int.toNat [0,1,2])=_:=ai;rw[aj,if_pos rfl,ai]at K hy;rw[aj];obtain⟨xa,xc,rfl,-⟩:=id K;obtain⟨ya,yc,rfl,-⟩:=id hy;have f:=K.c.2;have w:=hy.c.2;clear il K hy aj ai;have z4:s3.frz.lg s4.frz:=h4.lg.frz2;have e4:U.le s4:=e3.trans h4;have b:=b.le h4;have I:=I.lg z4;refine⟨_,⟨rfl,b.rd⟩,?_⟩
 conv=>whnf
 intro c5 dl;refine Zi dl λ s5 h5 dq=>?_;have z5:s4.frz.lg s5.frz:=h5.lg.frz2;have e5:U.le s5:=e4.trans h5;have b:=b.le h5;have I:=I.lg z5;have f:=f.lg z5;have w:=w.lg z5;have il:Z3 s5.frz (some ⟨c5,0,none⟩) 3 [1,0,2]:=XI (l:=[1,0,2]) (dq.imI λ _ _ h=>h);refine⟨OQ.any,(Ds h Jb I (hk.lg e5.lg) _ 3 3 [1,0,2] il D1).mono ?_⟩;rintro _ s6⟨⟨v1,v2,rfl,K,hy⟩,h6⟩-;obtain⟨aj,ai⟩:=Prod.mk.inj vU;have ai:Jb.ends (List.map Int.toNat [1,0,2])=_:=ai;rw[aj,if_pos rfl,ai]at K hy;rw[aj];obtain⟨ua,uc,rfl,-⟩:=id K;obtain⟨va,vc,rfl,-⟩:=id hy;have z:=K.c.2;have B:=hy.c.2;clear il K hy aj ai;have z6:s5.frz.lg s6.frz:=h6.lg.frz2;have e6:U.le s6:=e5.trans h6;have b:=b.le h6;have I:=I.lg z6;have f:=f.lg z6;have w:=w.lg z6;refine⟨_,⟨rfl,b.rd⟩,?_⟩;refine⟨Uq.any,(qD h Jb I (hk.lg e6.lg)).mono ?_⟩;rintro _ s7⟨⟨v1,v2,rfl,K,hy⟩,h7⟩-;rw[FH,if_pos rfl]at K hy;rw[FH];rw[F2.1]at K;rw[F2.2]at hy;obtain⟨ra,rc,rfl,fr⟩:=K;obtain⟨ca,cc,rfl,E⟩:=hy;have z7:s6.frz.lg s7.frz:=h7.lg.frz2;have e7:U.le s7:=e6.trans h7;have b:=b.le h7;have I:=I.lg z7;have f:=f.lg z7;have w:=w.lg z7;have z:=z.lg z7;have B:=B.lg z7;refine⟨_,⟨rfl,b.rd⟩,?_⟩;refine⟨Ur.any,(qg h Jb I (hk.lg e7.lg) 1).mono ?_⟩;rintro _ s8⟨⟨v1,v2,rfl,K,hy⟩,h8⟩-;have ea:Jb.askF 1=0:=(Prod.mk.inj (Prod.mk.inj H_).2).1;rw[ea,if_pos rfl]at K hy;rw[ea];have bc:(Jb.difS (Int.toNat 1) true).map (λ(k:Nat)=>(k:Int))=[1,0,2]:=by rw[show Jb.difS (Int.toNat 1) true=_ from D0.1];rfl
 have bd:(Jb.difS (Int.toNat 1) false).map (λ(k:Nat)=>(k:Int))=[0,1,2]:=by rw[show Jb.difS (Int.toNat 1) false=_ from D0.2];rfl
 rw[bc]at K;rw[bd]at hy;obtain⟨la,lc,rfl,G⟩:=K;obtain⟨ka,kc,rfl,F⟩:=hy;clear ea bc bd;have z8:s7.frz.lg s8.frz:=h8.lg.frz2;have e8:U.le s8:=e7.trans h8;have b:=b.le h8;have I:=I.lg z8;have f:=f.lg z8;have w:=w.lg z8;have z:=z.lg z8;have B:=B.lg z8;have fr:=fr.lg z8;have E:=E.lg z8;refine⟨_,⟨rfl,b.rd⟩,?_⟩;refine⟨OR.any,(DA (e8.tok.trans a0) h Jb I (hk.lg e8.lg) 1 true GH λ _ _ _=>yu).mono ?_⟩;rintro _ s9⟨⟨v1,rfl,K⟩,h9⟩-;have es:Jb.staF 1 true GH=some [(0,1)]:=(Prod.mk.inj Lr).1;have ea:Jb.askF 1=0:=(Prod.mk.inj (Prod.mk.inj H_).2).1;rw[es]at K;rw[es,ea];obtain⟨sa,sc,rfl,H⟩:=K;have H:Q8 s9.frz sa 1 2 [(0,1)] (λ x vs=>vs=encII x):=H;clear es ea;have z9:s8.frz.lg s9.frz:=h9.lg.frz2;have e9:U.le s9:=e8.trans h9;have b:=b.le h9;have I:=I.lg z9;have f:=f.lg z9;have w:=w.lg z9;have z:=z.lg z9;have B:=B.lg z9;have fr:=fr.lg z9;have E:=E.lg z9;have G:=G.lg z9;have F:=F.lg z9;refine⟨_,⟨rfl,b.rd⟩,?_⟩;refine⟨OR.any,(DA (e9.tok.trans a0) h Jb I (hk.lg e9.lg) 2 true GJ λ _ _ _=>yv).mono ?_⟩;rintro _ ak⟨⟨v1,rfl,K⟩,a1⟩-;have es:Jb.staF 2 true GJ=some [(1,0),(2,0)]:=(Prod.mk.inj Lr).2;have ea:Jb.askF 2=0:=(Prod.mk.inj (Prod.mk.inj H_).2).2;rw[es]at K;rw[es,ea];obtain⟨ta,tc,rfl,ft⟩:=K;have ft:Q8 ak.frz ta 2 2 [(1,0),(2,0)] (λ x vs=>vs=encII x):=ft;clear es ea;have ah:s9.frz.lg ak.frz:=a1.lg.frz2;have a9:U.le ak:=e9.trans a1;have b:=b.le a1;have I:=I.lg ah;have f:=f.lg ah;have w:=w.lg ah;have z:=z.lg ah;have B:=B.lg ah;have fr:=fr.lg ah;have E:=E.lg ah;have G:=G.lg ah;have F:=F.lg ah;have H:=H.lg ah λ _ _ h=>h;refine⟨_,⟨rfl,b.rd⟩,?_⟩;refine⟨Ut.any,(C3 h Jb I (hk.lg a9.lg) 1).mono ?_⟩;rintro _ a5⟨⟨v1,rfl,K⟩,a2⟩-;have ea:Jb.askF 1=0:=(Prod.mk.inj (Prod.mk.inj H_).2).1;rw[vV]at K;rw[ea];obtain⟨wa,wc,rfl,L⟩:=K;clear ea;have ag:ak.frz.lg a5.frz:=a2.lg.frz2;have ba:U.le a5:=a9.trans a2;have b:=b.le a2;have I:=I.lg ag;have f:=f.lg ag;have w:=w.lg ag;have z:=z.lg ag;have B:=B.lg ag;have fr:=fr.lg ag;have E:=E.lg ag;have G:=G.lg ag;have F:=F.lg ag;have H:=H.lg ag λ _ _ h=>h;have ft:=ft.lg ag λ _ _ h=>h;refine⟨_,⟨rfl,b.rd⟩,?_⟩;refine⟨OS.any,(Dx h Jb I (hk.lg ba.lg) 0).mono ?_⟩;rintro _ a6⟨⟨v1,rfl,K⟩,a3⟩-;have ea:Jb.askF 0=0:=(Prod.mk.inj H_).1;rw[pP]at K;rw[ea];obtain⟨ma,mc,rfl,fm⟩:=K;clear ea;have ae:a5.frz.lg a6.frz:=a3.lg.frz2;have bb:U.le a6:=ba.trans a3;have b:=b.le a3;have I:=I.lg ae;have f:=f.lg ae;have w:=w.lg ae;have z:=z.lg ae;have B:=B.lg ae;have fr:=fr.lg ae;have E:=E.lg ae;have G:=G.lg ae;have F:=F.lg ae;have H:=H.lg ae λ _ _ h=>h;have ft:=ft.lg ae λ _ _ h=>h;have L:=L.lg ae;refine⟨_,⟨rfl,b.rd⟩,?_⟩;refine⟨OS.any,(Dx h Jb I (hk.lg bb.lg) 1).mono ?_⟩;rintro _ a7⟨⟨v1,rfl,K⟩,a4⟩-;have ea:Jb.askF 1=0:=(Prod.mk.inj (Prod.mk.inj H_).2).1;rw[pQ]at K;rw[ea];obtain⟨na,nc,rfl,fn⟩:=K;clear ea;have N:a6.frz.lg a7.frz:=a4.lg.frz2;have c6:U.le a7:=bb.trans a4;have b:=b.le a4;have I:=I.lg N;have f:=f.lg N;have w:=w.lg N;have z:=z.lg N;have B:=B.lg N;have fr:=fr.lg N;have E:=E.lg N;have G:=G.lg N;have F:=F.lg N;have H:=H.lg N λ _ _ h=>h;have ft:=ft.lg N λ _ _ h=>h;have L:=L.lg N;have fm:=fm.lg N
 repeat refine⟨rfl,?_⟩
 conv=>whnf
 intro cq br;refine Zi br λ al be b6=>?_;have P:a7.frz.lg al.frz:=be.lg.frz2;have c7:U.le al:=c6.trans be;have f:=f.lg P;have w:=w.lg P;have z:=z.lg P;have B:=B.lg P;have fr:=fr.lg P;have E:=E.lg P;have G:=G.lg P;have F:=F.lg P;have H:=H.lg P λ _ _ h=>h;have ft:=ft.lg P λ _ _ h=>h;have L:=L.lg P;have fm:=fm.lg P;have fn:=fn.lg P;have q:WT al.frz (some ⟨cq,0,none⟩) 3 [false,false,true]:=VM (l:=[false,false,true]) (b6.imI λ _ _ h=>h);refine⟨Pj.any,(Ww xa _ 3 xc 3 3 [false,false,true] [false,false,true] (f.lg Qr) (q.lg Qr) D1).go λ _=>?_⟩;rw[decide_eq_true (rfl:([false,false,true]:List Bool)=[false,false,true])];clear q
 conv=>whnf
 intro cr bs;refine Zi bs λ am bf b7=>?_;have Q:al.frz.lg am.frz:=bf.lg.frz2;have c8:U.le am:=c7.trans bf;have f:=f.lg Q;have w:=w.lg Q;have z:=z.lg Q;have B:=B.lg Q;have fr:=fr.lg Q;have E:=E.lg Q;have G:=G.lg Q;have F:=F.lg Q;have H:=H.lg Q λ _ _ h=>h;have ft:=ft.lg Q λ _ _ h=>h;have L:=L.lg Q;have fm:=fm.lg Q;have fn:=fn.lg Q;have q:WT am.frz (some ⟨cr,0,none⟩) 3 [true,true,false]:=VM (l:=[true,true,false]) (b7.imI λ _ _ h=>h);refine⟨Pj.any,(Ww ya _ 3 yc 3 3 [true,true,false] [true,true,false] (w.lg Qr) (q.lg Qr) D1).go λ _=>?_⟩;rw[decide_eq_true (rfl:([true,true,false]:List Bool)=[true,true,false])];clear q
 conv=>whnf
 intro ct bt;refine Zi bt λ an bg b8=>?_;have S:am.frz.lg an.frz:=bg.lg.frz2;have c9:U.le an:=c8.trans bg;have f:=f.lg S;have w:=w.lg S;have z:=z.lg S;have B:=B.lg S;have fr:=fr.lg S;have E:=E.lg S;have G:=G.lg S;have F:=F.lg S;have H:=H.lg S λ _ _ h=>h;have ft:=ft.lg S λ _ _ h=>h;have L:=L.lg S;have fm:=fm.lg S;have fn:=fn.lg S;have q:WT an.frz (some ⟨ct,0,none⟩) 3 [false,true,false]:=VM (l:=[false,true,false]) (b8.imI λ _ _ h=>h);refine⟨Pj.any,(Ww ua _ 3 uc 3 3 [false,true,false] [false,true,false] (z.lg Qr) (q.lg Qr) D1).go λ _=>?_⟩;rw[decide_eq_true (rfl:([false,true,false]:List Bool)=[false,true,false])];clear q
 conv=>whnf
 intro cu bu;refine Zi bu λ ao bh b9=>?_;have T:an.frz.lg ao.frz:=bh.lg.frz2;have da:U.le ao:=c9.trans bh;have f:=f.lg T;have w:=w.lg T;have z:=z.lg T;have B:=B.lg T;have fr:=fr.lg T;have E:=E.lg T;have G:=G.lg T;have F:=F.lg T;have H:=H.lg T λ _ _ h=>h;have ft:=ft.lg T λ _ _ h=>h;have L:=L.lg T;have fm:=fm.lg T;have fn:=fn.lg T;have q:WT ao.frz (some ⟨cu,0,none⟩) 3 [false,true,true]:=VM (l:=[false,true,true]) (b9.imI λ _ _ h=>h);refine⟨Pj.any,(Ww va _ 3 vc 3 3 [false,true,true] [false,true,true] (B.lg Qr) (q.lg Qr) D1).go λ _=>?_⟩;rw[decide_eq_true (rfl:([false,true,true]:List Bool)=[false,true,true])];clear q
 conv=>whnf
 intro cv bv;refine Zi bv λ ap bi ce=>?_;have V:ao.frz.lg ap.frz:=bi.lg.frz2;have db:U.le ap:=da.trans bi;have f:=f.lg V;have w:=w.lg V;have z:=z.lg V;have B:=B.lg V;have fr:=fr.lg V;have E:=E.lg V;have G:=G.lg V;have F:=F.lg V;have H:=H.lg V λ _ _ h=>h;have ft:=ft.lg V λ _ _ h=>h;have L:=L.lg V;have fm:=fm.lg V;have fn:=fn.lg V;have q:Z3 ap.frz (some ⟨cv,0,none⟩) 3 [2,0,0]:=XI (l:=[2,0,0]) (ce.imI λ _ _ h=>h);refine⟨OT.any,(Dm ra _ 3 rc 3 3 [2,0,0] [2,0,0] (fr.lg Qr) (q.lg Qr) D1).go λ _=>?_⟩;rw[decide_eq_true (rfl:([2,0,0]:List Int)=[2,0,0])];clear q
 conv=>whnf
 intro cw bw;refine Zi bw λ aq bj cf=>?_;have W:ap.frz.lg aq.frz:=bj.lg.frz2;have dc:U.le aq:=db.trans bj;have f:=f.lg W;have w:=w.lg W;have z:=z.lg W;have B:=B.lg W;have fr:=fr.lg W;have E:=E.lg W;have G:=G.lg W;have F:=F.lg W;have H:=H.lg W λ _ _ h=>h;have ft:=ft.lg W λ _ _ h=>h;have L:=L.lg W;have fm:=fm.lg W;have fn:=fn.lg W;have q:Z3 aq.frz (some ⟨cw,0,none⟩) 3 [0,1,0]:=XI (l:=[0,1,0]) (cf.imI λ _ _ h=>h);refine⟨OT.any,(Dm ca _ 3 cc 3 3 [0,1,0] [0,1,0] (E.lg Qr) (q.lg Qr) D1).go λ _=>?_⟩;rw[decide_eq_true (rfl:([0,1,0]:List Int)=[0,1,0])];clear q
 conv=>whnf
 intro cx bx;refine Zi bx λ au bk cg=>?_;have X:aq.frz.lg au.frz:=bk.lg.frz2;have dd:U.le au:=dc.trans bk;have f:=f.lg X;have w:=w.lg X;have z:=z.lg X;have B:=B.lg X;have fr:=fr.lg X;have E:=E.lg X;have G:=G.lg X;have F:=F.lg X;have H:=H.lg X λ _ _ h=>h;have ft:=ft.lg X λ _ _ h=>h;have L:=L.lg X;have fm:=fm.lg X;have fn:=fn.lg X;have q:Z3 au.frz (some ⟨cx,0,none⟩) 3 [1,0,2]:=XI (l:=[1,0,2]) (cg.imI λ _ _ h=>h);refine⟨G2.any,(GR la _ 3 lc 3 3 [1,0,2] [1,0,2] (G.lg Qr) (q.lg Qr) D1).go λ _=>?_⟩;rw[decide_eq_true (rfl:([1,0,2]:List Int)=[1,0,2])];clear q
 conv=>whnf
 intro cy bz;refine Zi bz λ av bl ch=>?_;have Y:au.frz.lg av.frz:=bl.lg.frz2;have de:U.le av:=dd.trans bl;have f:=f.lg Y;have w:=w.lg Y;have z:=z.lg Y;have B:=B.lg Y;have fr:=fr.lg Y;have E:=E.lg Y;have G:=G.lg Y;have F:=F.lg Y;have H:=H.lg Y λ _ _ h=>h;have ft:=ft.lg Y λ _ _ h=>h;have L:=L.lg Y;have fm:=fm.lg Y;have fn:=fn.lg Y;have q:Z3 av.frz (some ⟨cy,0,none⟩) 3 [0,1,2]:=XI (l:=[0,1,2]) (ch.imI λ _ _ h=>h);refine⟨G2.any,(GR ka _ 3 kc 3 3 [0,1,2] [0,1,2] (F.lg Qr) (q.lg Qr) D1).go λ _=>?_⟩;rw[decide_eq_true (rfl:([0,1,2]:List Int)=[0,1,2])];clear q
 conv=>whnf
 intro cz b0;refine Zi b0 λ aw bm cj=>?_;have Z:av.frz.lg aw.frz:=bm.lg.frz2;have df:U.le aw:=de.trans bm;have f:=f.lg Z;have w:=w.lg Z;have z:=z.lg Z;have B:=B.lg Z;have fr:=fr.lg Z;have E:=E.lg Z;have G:=G.lg Z;have F:=F.lg Z;have H:=H.lg Z λ _ _ h=>h;have ft:=ft.lg Z λ _ _ h=>h;have L:=L.lg Z;have fm:=fm.lg Z;have fn:=fn.lg Z;have q:Q8 aw.frz (some ⟨cz,0,none⟩) 1 2 [(0,1)] (λ x vs=>vs=encII x):=Io (l:=[(0,1)]) (cj.imI λ _ _ h=>h);refine⟨OU.any,(Dk sa _ 1 sc 1 1 [(0,1)] [(0,1)] (H.lg Qr λ _ _ h=>h) (q.lg Qr λ _ _ h=>h) D1).go λ _=>?_⟩;rw[decide_eq_true (rfl:([(0,1)]:List (Int×Int))=[(0,1)])];clear q
 conv=>whnf
 intro c0 b2;refine Zi b2 λ ax bn ck=>?_;have aa:aw.frz.lg ax.frz:=bn.lg.frz2;have dg:U.le ax:=df.trans bn;have f:=f.lg aa;have w:=w.lg aa;have z:=z.lg aa;have B:=B.lg aa;have fr:=fr.lg aa;have E:=E.lg aa;have G:=G.lg aa;have F:=F.lg aa;have H:=H.lg aa λ _ _ h=>h;have ft:=ft.lg aa λ _ _ h=>h;have L:=L.lg aa;have fm:=fm.lg aa;have fn:=fn.lg aa;have q:Q8 ax.frz (some ⟨c0,0,none⟩) 2 2 [(1,0),(2,0)] (λ x vs=>vs=encII x):=Io (l:=[(1,0),(2,0)]) (ck.imI λ _ _ h=>h);refine⟨OU.any,(Dk ta _ 2 tc 2 2 [(1,0),(2,0)] [(1,0),(2,0)] (ft.lg Qr λ _ _ h=>h) (q.lg Qr λ _ _ h=>h) D1).go λ _=>?_⟩;rw[decide_eq_true (rfl:([(1,0),(2,0)]:List (Int×Int))=[(1,0),(2,0)])];clear q
 conv=>whnf
 intro c1 b3;refine Zi b3 λ ay bo cm=>?_;have ab:ax.frz.lg ay.frz:=bo.lg.frz2;have dh:U.le ay:=dg.trans bo;have f:=f.lg ab;have w:=w.lg ab;have z:=z.lg ab;have B:=B.lg ab;have fr:=fr.lg ab;have E:=E.lg ab;have G:=G.lg ab;have F:=F.lg ab;have H:=H.lg ab λ _ _ h=>h;have ft:=ft.lg ab λ _ _ h=>h;have L:=L.lg ab;have fm:=fm.lg ab;have fn:=fn.lg ab;have q:Z3 ay.frz (some ⟨c1,0,none⟩) 1 [0]:=XI (l:=[0]) (cm.imI λ _ _ h=>h);refine⟨G2.any,(GR wa _ 1 wc 1 1 [0] [0] (L.lg Qr) (q.lg Qr) D1).go λ _=>?_⟩;rw[decide_eq_true (rfl:([0]:List Int)=[0])];clear q
 conv=>whnf
 intro c2 b4;refine Zi b4 λ az bp co=>?_;have ac:ay.frz.lg az.frz:=bp.lg.frz2;have di:U.le az:=dh.trans bp;have f:=f.lg ac;have w:=w.lg ac;have z:=z.lg ac;have B:=B.lg ac;have fr:=fr.lg ac;have E:=E.lg ac;have G:=G.lg ac;have F:=F.lg ac;have H:=H.lg ac λ _ _ h=>h;have ft:=ft.lg ac λ _ _ h=>h;have L:=L.lg ac;have fm:=fm.lg ac;have fn:=fn.lg ac;have q:Z3 az.frz (some ⟨c2,0,none⟩) 1 [1]:=XI (l:=[1]) (co.imI λ _ _ h=>h);refine⟨G2.any,(GR ma _ 1 mc 1 1 [1] [1] (fm.lg Qr) (q.lg Qr) D1).go λ _=>?_⟩;rw[decide_eq_true (rfl:([1]:List Int)=[1])];clear q
 conv=>whnf
 intro c4 b5;refine Zi b5 λ a8 bq cp=>?_;have ad:az.frz.lg a8.frz:=bq.lg.frz2;have dj:U.le a8:=di.trans bq;have f:=f.lg ad;have w:=w.lg ad;have z:=z.lg ad;have B:=B.lg ad;have fr:=fr.lg ad;have E:=E.lg ad;have G:=G.lg ad;have F:=F.lg ad;have H:=H.lg ad λ _ _ h=>h;have ft:=ft.lg ad λ _ _ h=>h;have L:=L.lg ad;have fm:=fm.lg ad;have fn:=fn.lg ad;have q:Z3 a8.frz (some ⟨c4,0,none⟩) 2 [0,1]:=XI (l:=[0,1]) (cp.imI λ _ _ h=>h);refine⟨G2.any,(GR na _ 2 nc 2 2 [0,1] [0,1] (fn.lg Qr) (q.lg Qr) D1).go λ _=>?_⟩;rw[decide_eq_true (rfl:([0,1]:List Int)=[0,1])];clear q
 repeat refine⟨rfl,?_⟩
 conv=>whnf
 exact dj.lg
