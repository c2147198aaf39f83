/- Lemmas. No conditions. -/
import Derived.Test.YtnjljnhoaafkiaaGreatDoorB38
import Derived.Test.YtnjljnhoaafkiaaGreatDoorB05
import Derived.Test.YtnjljnhoaafkiaaGreatDoorB06
set_option linter.all false
set_option maxRecDepth 100000
set_option maxHeartbeats 4000000
open List
open Go.Proofs.Tryz (prog)
namespace Go.TM
open Go.Proofs
attribute [local irreducible] Qb Zm Wo
variable{T α:Type}{P:Program}{k:Sys P T}{U:Qa T}{fn:FuncId}{ro:Option Nat}{c':Code}{Q:Ex->Act->Qa T->Prop}{n:Act}{U':Qa T}{a:Option Addr}{len:Nat}{d R':α->List Value->Prop}
def vZ{c:Code}(e:c=c')(h:Zq k fn ro c' Q n U):Zq k fn ro c Q n U:=e▸h
def Z6.mem{a:Option Addr}{len:Nat}{l:List Int}(h:Z6 U a len l)(b:∀x o,U.I x=some o->U'.I x=some o)(f:∀r∈U.M,r∈U'.M):Z6 U' a len l:=
 ⟨h.1,λ i x hx=>let ⟨ad,e,s,hs⟩:=h.2 i x hx;⟨ad,e,s,hs.mem b f⟩⟩
def Q7.mem2{n:Nat}{l:List α}(h:Q7 U a len n l d)(b:∀x o,U.I x=some o->U'.I x=some o)(f:∀r∈U.M,r∈U'.M)(w:∀x vs,d x vs->R' x vs):Q7 U' a len n l R':=
 ⟨h.1,λ i x hx=>let ⟨ad,vs,e,s,r,hl,hr⟩:=h.2 i x hx;⟨ad,vs,e,s,w _ _ r,hl,hr.mem b f⟩⟩
def Wx.mem{a:Option Addr}{len:Nat}{B:List (List Int)}(h:Wx U a len B)(f:∀x o,U.I x=some o->U'.I x=some o)(w:∀r∈U.M,r∈U'.M):Wx U' a len B:=
 Q7.mem2 h f w λ _ _⟨a',b,cap',e,h1,h2⟩=>⟨a',b,cap',e,h1.mem f w,h2⟩
def Zr.mem{h:BH}{b:Bk}(k:Zr U h b)(f:∀x o,U.I x=some o->U'.I x=some o)(w:∀r∈U.M,r∈U'.M):Zr U' h b:=
 ⟨k.rs.mem2 f w λ _ _ h=>h,k.cs.mem2 f w λ _ _⟨ga,gl,gc,aa,al,ac,e,h1,h2,B,E⟩=>⟨ga,gl,gc,aa,al,ac,e,h1.mem f w,h2,B.mem f w,E⟩,k.rl,k.cl,k.rn,k.cn⟩
variable{b:Nat->Option Bool}{i:Nat}{s:Bool}{p:α->Bool}{e:List α}{q:α}{E:Option (List (Int×Int))}
def Hs(U:Qa T)(v:Value)(l:List (Int×Int)):Prop:=∃a c,v=.slice a l.length c/\Q7 U a l.length 2 l (λ x vs=>vs=encII x)
structure HS(b:Bk)(r:Nat)(w:Int)(m:Nat)(sd:Nat->Option Bool)(Lf Lt:Option (List (Int×Int))):Prop where
 n:b.cans.Nodup
 pos:0<b.cans.length
 six:b.cans.length<=6
 m5:m<=5
 len:∀x,Lf=some x\/Lt=some x->x.length<=1000
 sym:∀x y,Lf=some x->Lt=some y->(if QZ y x<0 then y else x)=(if QZ x y<0 then x else y)
 no:∀i ci,b.cans[i]?=some ci->(TM.parts (b.cans.drop (i+1)) m).find? (λ q=>b.good r w (ci::q))=none->sd i=none
 yes:∀i ci q,b.cans[i]?=some ci->(TM.parts (b.cans.drop (i+1)) m).find? (λ q=>b.good r w (ci::q))=some q->∃s,sd i=some s/\(if s then Lt else Lf)=some (ci::q)
 one:∀i j s,sd i=some s->sd j=some s->i=j
 out:∀s,((range b.cans.length).any λ i=>sd i==some s)=false->(if s then Lt else Lf)=none
def ZY(b:Nat->Option Bool)(i:Nat)(s:Bool):Bool:=(range i).any λ j=>b j==some s
def pt(h:b i=none):ZY b (i+1)=ZY b i:=by
 funext s;unfold ZY;rw[range_succ,any_append];simp[h]
def pu(h:b i=some s)(h1:∀i j s,b i=some s->b j=some s->i=j):ZY b i s=false/\ZY b (i+1)=ZJ (ZY b i) s true:=by
 have h2:ZY b i s=false:=by
  unfold ZY;rw[any_eq_false];intro j f e;rw[mem_range]at f;have:=h1 j i s (by simpa using e) h;omega
 refine⟨h2,?_⟩;funext s';unfold ZY ZJ;rw[range_succ,any_append];by_cases e:s'=s
 .subst e;simp[h]
 .rw[if_neg e];simp[h,Ne.symm e]
abbrev XX(lm fb bb:Nat)(b f:Option (List (Int×Int))):QW:=⟨lm,169,JG fb bb b f⟩
abbrev XA:TM.Spec:=λ _=>True
def xj(h:∀q∈e,p q=false):e.find? p=none:=by
 rw[find?_eq_none];intro q b;rw[h q b];simp
def pW(b:e[len]?=some q)(h:∀q'∈e.take len,p q'=false)(w:p q=true):e.find? p=some q:=by
 rw[find?_eq_some_iff_getElem];obtain⟨b,f⟩:=List.getElem?_eq_some_iff.1 b;refine⟨w,len,b,f,λ j B=>?_⟩;have:=h e[j] (mem_take_iff_getElem.2 ⟨j,O1,rfl⟩);simp[this]
def DL{U:Qa Tk}(al:U.tok=⟨0,.out,none⟩)(h:BH)(b:Bk)(hb:Zr U.frz h b)(bc:b.Ok)(r:Nat)(hr:r<b.rs.length)(w:Int)(m:Nat){S:Nat->Option Bool}{B:Option (List (Int×Int))}(X:HS b r w m S B E) :
  Qb Q6 58 #[h.v,.int .i64 r,.int .i64 (m+1:Nat),.int .i64 w] (λ v U'=>(∃v1,v=.tuple #[v1,.bool (ZD B E).isSome]/\Hs U'.frz v1 ((ZD B E).getD []))/\U.le U') U:=by
 have bw:=bc.nc
 have bg:Qb Q6 58 #[h.v,.int .i64 r,.int .i64 (m+1:Nat),.int .i64 w] (λ v U'=>∃a l c A Z,v=.tuple #[.slice a l c,.bool (ZD B E).isSome]/\Jo 75 2 (.slice a l c) (((ZD B E).getD []).flatMap encII) A/\U'.M.Perm (A++(Z++U.M))/\(∀x o,U.I x=some o->U'.I x=some o)/\U'.tok=U.tok) U:=by
  refine Qb.of (args:=[_,_,_,_]) OW Qf S1 ?_
  conv=>whnf
  intro b4 U1 bn H;have H:Zi U1 b4 #[.slice h.ra h.rl h.rc,.slice h.ca h.cl h.cc]:=H
  conv=>whnf
  intro b5 U2 a0 L;have L:Zi U2 b5 #[.int .i64 r]:=L
  conv=>whnf
  intro b6 U3 an N;have N:Zi U3 b6 #[.int .i64 (m+1:Nat)]:=N
  conv=>whnf
  intro b7 U4 ae ab;have ab:Zi U4 b7 #[.int .i64 w]:=ab;have ak:=((bn.trans a0).trans an).trans ae;have H:=H.le ((a0.trans an).trans ae);have L:=L.le (an.trans ae);have N:=N.le ae;refine⟨_,⟨rfl,H.rd⟩,?_⟩;refine⟨D0.any,(MD h b (hb.lg ak.lg.frz2) bw).mono ?_⟩;rintro _ U5⟨⟨ca,cc,rfl,ap,br,-⟩,bo⟩-
  conv=>whnf
  intro K aj;refine⟨_,.refl _,rfl,Zv (vs:=[.slice ca b.cans.length cc]) aj rfl Zz1 λ W a3 P=>?_⟩;have P:Zi W K #[.slice ca b.cans.length cc]:=P;have F:=bo.trans a3;have Q:=ak.trans F;have H:=H.le F;have L:=L.le F;have N:=N.le F;have ab:=ab.le F;have bq:Zr W.frz h b:=hb.lg Q.lg.frz2;have ap:Q7 W.frz ca b.cans.length 2 b.cans (λ x vs=>vs=encII x):=ap.lg a3.lg.frz2 λ _ _ h=>h
  conv=>whnf
  intro lm a7;refine⟨_,.refl _,?_⟩
  conv=>whnf
  intro G a8;refine⟨_,.refl _,?_⟩
  conv=>whnf
  intro bb a5;refine⟨_,.refl _,?_⟩
  conv=>whnf
  intro fb a6;refine⟨_,.refl _,rfl,HO (vs:=[.bool false]) rfl Zz1 ?_⟩
  have az:((((W.put lm (.cells #[.int .i32 0,.int .u32 0] 169)).put G (.cells #[.int .u64 0,.int .u32 0] 176)).put bb (.cells #[.nl] 68)).put fb (.cells [.bool false].toArray 4)).M=[.cl fb [.bool false] 4,.cl bb [.nl] 68]++.obj G (.cells #[Q0 0 0,Qp 0] 176 (0,0))::(.obj lm (.cells #[Zb 0,Qp 0] 169 (0,0))::U.M):=by
   show _::_::_::_::W.M=_;rw[Q.own];rfl
  have am:∀x o,W.I x=some o->((((W.put lm (.cells #[.int .i32 0,.int .u32 0] 169)).put G (.cells #[.int .u64 0,.int .u32 0] 176)).put bb (.cells #[.nl] 68)).put fb (.cells [.bool false].toArray 4)).I x=some o:=λ _ _ h=>h;have be:((((W.put lm (.cells #[.int .i32 0,.int .u32 0] 169)).put G (.cells #[.int .u64 0,.int .u32 0] 176)).put bb (.cells #[.nl] 68)).put fb (.cells [.bool false].toArray 4)).tok=⟨0,.out,none⟩:=Q.tok.trans al;generalize((((W.put lm (.cells #[.int .i32 0,.int .u32 0] 169)).put G (.cells #[.int .u64 0,.int .u32 0] 176)).put bb (.cells #[.nl] 68)).put fb (.cells [.bool false].toArray 4))=U7 at az am be ⊢;clear a7 a8 a5 a6 aj;refine⟨_,(P.imI am).sees3 (o:=0) rfl,Nat,λ i=>[(12,.pb G),(13,.pb bb),(14,.pb fb),(15,.func (.func 86) #[] (Hx G K b6 b4 b5 b7 lm fb bb).toArray),(21,.int .i64 b.cans.length),(22,.int .i64 i)],
   λ i U'=>(∀x o,U7.I x=some o->U'.I x=some o)/\i<=b.cans.length/\((i=0/\U'.tok=⟨0,.out,none⟩/\U'.M=[.cl fb [.bool false] 4,.cl bb [.nl] 68]++.obj G (.cells #[Q0 0 0,Qp 0] 176 (0,0))::(.obj lm (.cells #[Zb 0,Qp 0] 169 (0,0))::U.M)) \/
    (0<i/\U'.tok=⟨0,.par G (replicate i XA) false .run,some (.par (XX lm fb bb B E) (ZY S i))⟩/\U'.M=U.M)),λ i=>b.cans.length-i,0,T1,⟨λ _ _ h=>h,O1,.inl ⟨rfl,be,az⟩⟩,?_⟩
  rintro i f U8⟨ay,hi,ag⟩;have bs:Z9 ((i:Int)+1):=by have:=X.six;unfold Z9;omega
  have ah:∀x o,W.I x=some o->U8.I x=some o:=λ x o hx=>ay x o (am x o hx)
  repeat refine⟨rfl,?_⟩
  conv=>whnf
  apply Qg<;>intro hc
  .have hlt:i<b.cans.length:=by simpa using hc
   obtain⟨ci,af⟩:∃ci,b.cans[i]?=some ci:=⟨_,getElem?_eq_getElem hlt⟩;have h6:=X.six
   have a4:Qb Q6 96 #[.pb G,.int .i64 1] (λ v U'=>U'.I=U8.I/\U'.tok=⟨0,.par G (replicate i XA) true .run,some (.par (XX lm fb bb B E) (ZY S i))⟩/\U'.M=U.M) U8:=by
    rcases ag with⟨rfl,V,Y⟩|⟨b1,V,Y⟩
    .refine Qb.make (M₁:=[.cl fb [.bool false] 4,.cl bb [.nl] 68]) (M₂:=.obj lm (.cells #[Zb 0,Qp 0] 169 (0,0))::U.M) V Y ?_;refine Qb.shift (U':=⟨U8.I,.obj lm (.cells #[Zb 0,Qp 0] 169 (0,0))::([.cl fb [.bool false] 4,.cl bb [.nl] 68]++U.M),⟨0,.par G [] false .run,none⟩⟩) (Wp perm_middle) ?_;refine Qb.makeM (x:=XX lm fb bb B E) (M₁:=[.cl fb [.bool false] 4,.cl bb [.nl] 68]) (M₂:=U.M) rfl rfl ⟨none,0,0,[],.nil,(λ x hx=>by cases hx),rfl⟩ ?_;exact FE (ds:=[]) S1 rfl ⟨rfl,rfl,rfl⟩
    .exact FE (ds:=replicate i XA) S3 V ⟨rfl,by show(⟨0,_,U8.tok.mu⟩:Tk)=_;rw[V],Y⟩
   refine⟨NN,a4.mono ?_⟩;rintro v U9⟨ad,av,aa⟩-;have ai:∀x o,W.I x=some o->U9.I x=some o:=λ x o hx=>by rw[ad];exact ah x o hx
   conv=>whnf
   intro a ha;refine vZ (c':=.region (kH HF) (GF HF) false) K1 ?_;refine Ip ?_;rw[Mf];refine vY λ⟨wd,bz⟩=>?_;have bh:a.eval (.t 15)=.func (.func 86) #[] (Hx G K b6 b4 b5 b7 lm fb bb).toArray:=ha.get 15;refine XS NH (Wl MZ) (.inl rfl) ?_;unfold G0;simp only[execOp,zK,Qd,Qi,Ys,bh];rw[MW];have ao:=ha.put (some 26) (.func (.func 86) #[] (Hx G K b6 b4 b5 b7 lm fb bb).toArray) (by intro d hd;cases hd;decide);generalize a.put (some 26) (.func (.func 86) #[] (Hx G K b6 b4 b5 b7 lm fb bb).toArray)=a1 at ao ⊢;have bi:a1.eval (.t 16)=.int .i64 i:=ao.get 16;refine XS Ri (Wl M_) (.inl rfl) ?_;unfold G0;simp only[execOp,zL,Qd,Qi,Ys,bi];rw[MX];have T:=ao.put (some 27) (.int .i64 i) (by intro d hd;cases hd;decide);generalize a1.put (some 27) (.int .i64 i)=a2 at T ⊢;have bj:a2.eval (.t 26)=.func (.func 86) #[] (Hx G K b6 b4 b5 b7 lm fb bb).toArray:=T.get 26
   have bk:(#[]++#[Operand.tmp 27].map a2.eval:Array Value)=#[.int .i64 i]:=by
    have:a2.eval (.t 27)=.int .i64 i:=T.get 27;simp[this]
   obtain⟨ax,mc,bv,ba,bt,bu⟩:∃ax mc,Yy (some (.par (XX lm fb bb B E) (ZY S i))) ax mc/\ax=some (.par (XX lm fb bb B E) (ZY S (i+1)))/\(∀s,S i=some s->mc=some (.lok (XX lm fb bb B E) s .idle 0))/\(S i=none->mc=none):=by
    cases hs:S i with
    |none=>exact⟨_,none,.inl ⟨rfl,rfl⟩,by rw[pt hs],λ s h=>by(cases h),λ _=>rfl⟩
    |some s=>
     obtain⟨u1,u2⟩:=pu hs X.one;exact⟨_,some (.lok (XX lm fb bb B E) s .idle 0),.inr ⟨_,_,s,rfl,u1,rfl,rfl⟩,by rw[u2],λ s' h=>by cases h;rfl,λ h=>by cases h⟩
   subst ba
   have b0:UD b r w m i mc lm fb bb B E:=by
    refine⟨λ ci af k q hk au hg=>?_,λ ci af au=>bu (X.no i ci af (xj au))⟩;obtain⟨s,hs,hL⟩:=X.yes i ci q af (pW hk au hg);exact⟨s,0,bt s hs,hL⟩
   refine vG (D:=XA) (ds:=replicate i XA) (Up:=⟨U9.I,U9.M,⟨0,.par G (replicate (i+1) XA) false .run,some (.par (XX lm fb bb B E) (ZY S (i+1)))⟩⟩) (Uc:=⟨U9.I,[],⟨0,.wrk G XA,mc⟩⟩) Rj (Wl N0) zM bj av (It bz (M₁:=[]) (M₂:=U9.M) (Perm.refl _)) rfl rfl bv (λ Stop=>?_) ?_
   .rw[bk];have bf:=zt (U:=⟨U9.I,[],⟨0,.wrk G XA,mc⟩⟩) h b bc X.n r hr w i (bcan:=K) (bm:=b6) (bbk:=b4) (brt:=b5) (bwt:=b7) (lm:=lm) (fb:=fb) (bb:=bb) (g:=G) hlt (λ U' bfst hI ht bp=>?_) O1 B E X.len X.sym m X.m5 (N.imI ai) mc rfl b0 Stop
    .exact bf
    .have hI6':∀x o,W.I x=some o->U'.I x=some o:=λ x o hx=>hI x o (ai x o hx);exact⟨⟨ca,cc,P.imI hI6',ap.mem hI6' (λ r hr=>by cases hr),br⟩,bp,H.imI hI6',bq.mem hI6' (λ r hr=>by cases hr),L.imI hI6',ab.imI hI6'⟩
   .refine Ly ?_;rw[MY];refine⟨by rw[Act.put,T.size,ha.size],_,T.get,?_⟩;refine⟨bs,by simpa[Act.put]using T.ds,i+1,T1,⟨λ x o hx=>by show U9.I x=_;rw[ad];exact ay x o hx,O1,.inr ⟨O1,rfl,aa⟩⟩,L1⟩
  .have hge:i=b.cans.length:=by simp at hc;omega
   subst hge
   obtain⟨-,V,Y⟩:0<b.cans.length/\U8.tok=⟨0,.par G (replicate b.cans.length XA) false .run,some (.par (XX lm fb bb B E) (ZY S b.cans.length))⟩/\U8.M=U.M:=by
    rcases ag with⟨h0,_⟩|ag
    .have:=X.pos;omega
    .exact ag
   have hu:∀s,(if ZY S b.cans.length s then(if s then E else B)else none)=(if s then E else B):=λ s=>by
    cases bx:ZY S b.cans.length s with
    |true=>rfl
    |false=>rw[X.out s bx];rfl
   have aw:Qb Q6 97 #[.pb G] (λ v U'=>v=.tuple #[]/\U'.I=U8.I/\U'.tok=⟨0,.out,none⟩/\∃M',V5 fb bb (ZD B E) M'/\U'.M=M'++U.M) U8:=by
    refine Qb.post (R:=λ v U'=>v=.tuple #[]/\U'.I=U8.I/\U'.tok=⟨0,.out,none⟩/\∃Ms M',V5 fb bb (ZD B E) M'/\U'.M=(U.M++Ms)++M') (C4 (ds:=replicate b.cans.length XA) (by simp;exact X.six) V λ Ms M' b3 ac=>⟨rfl,rfl,rfl,Ms.flatten,M',?_,by rw[Y]⟩) λ v U'⟨hv,hI,ht,Ms,M',ac,bl⟩=>?_
    .have h1:=hu false;have h2:=hu true;simp only[Bool.false_eq_true,if_false,if_true]at h1 h2;have:JG fb bb B E (ZY S b.cans.length false) (ZY S b.cans.length true) M':=ac;unfold JG at this
     rwa [h1,h2]at this
    .refine⟨{ U' with M:=M'++U.M },IC ⟨Ms,?_⟩,hv,hI,ht,M',ac,rfl⟩;rw[bl,append_assoc,append_assoc];refine(perm_append_comm (l₁:=U.M) (l₂:=Ms++M')).trans ?_;rw[append_assoc];refine(perm_append_comm (l₁:=Ms) (l₂:=M'++U.M)).trans ?_;rw[append_assoc]
   refine⟨NO,aw.mono ?_⟩;rintro _ U9⟨rfl,ad,av,M',⟨a,l,c,A,hA,-,rfl⟩,aa⟩-;refine⟨_,Jy (b:=bb) (e:=68) (vs:=[.slice a l c]) (by rw[aa];simp) 0 _ rfl,?_⟩;refine⟨_,Jy (b:=fb) (e:=4) (vs:=[.bool (ZD B E).isSome]) (by rw[aa];simp) 0 _ rfl,?_⟩
   conv=>whnf
   intro Ua aq _;refine⟨a,l,c,A,[.cl fb [.bool (ZD B E).isSome] 4,.cl bb [.slice a l c] 68],rfl,hA,?_,λ x o hx=>aq.imm x o (by rw[ad];exact ah x o (Q.imm x o hx)),by rw[aq.tok,av,al]⟩;rw[aq.own,aa];refine Perm.trans ?_ (perm_append_comm_assoc [.cl fb [.bool (ZD B E).isSome] 4,.cl bb [.slice a l c] 68] A U.M);exact Perm.refl _
 refine bg.okv λ v U' hw⟨a,l,c,A,Z,hv,hA,hM,hI,ht⟩=>?_;obtain⟨U1,k1,k2,k3,a',b2,cap',e,hl,bd,ac⟩:=hA.freeze (Ya hw) hM;cases e;have a9:((ZD B E).getD []).length=l:=by have e:=(Qz (f:=encII) (n:=2) (λ _=>rfl) ((ZD B E).getD [])).symm.trans hl;omega
 subst a9;exact⟨{ U1 with M:=U.M },k1.trans (Zx (by rw[k2];exact sublist_append_right ..)),⟨_,hv,a,c,rfl,HG (enc:=encII) (n:=2) (λ _=>rfl) bd ac D1⟩,⟨λ x o hx=>k3.imm x o (hI x o hx),rfl,k3.tok.trans ht⟩⟩
def Xa{α:Type}(F:Nat->Option α):Nat->Nat->Option α
 |_,0=>none
 |m,n+1=>match F m with
  |some x=>some x
  |none=>Xa F (m+1) n
def Ep(F:Nat->Option α)(m n:Nat):Xa F m (n+1)=match F m with
  |some x=>some x
  |none=>Xa F (m+1) n:=rfl
def Xd(b:Bool):Int:=if b then 1 else 2
def Bk.staF(b:Bk)(r:Int)(f:Bool)(F:Nat->Option (List (Int×Int))):Option (List (Int×Int)):=
 if b.askF r=0 then(if b.fatR r.toNat=Xd f then some []else if b.fatR r.toNat=Xd (!f)then none else Xa F 0 (b.cs.length-1))else none
def Hs.nil:Hs U .nl []:=⟨none,0,rfl,rfl,λ i x hx=>by simp at hx⟩
def Hs.lg{T:Type}{U U':Qa T}{v:Value}{l:List (Int×Int)}(h:Hs U v l)(k:U.lg U'):Hs U' v l:=let ⟨a,c,e,h⟩:=h;⟨a,c,e,h.lg k λ _ _ h=>h⟩
def DW{U:Qa Tk}(ab:U.tok=⟨0,.out,none⟩)(h:BH)(b:Bk)(hb:Zr U.frz h b)(hk:JU U)(r:Int)(w:Bool)(F:Nat->Option (List (Int×Int)))
  (hC:b.askF r=0->b.fatR r.toNat≠Xd w->b.fatR r.toNat≠Xd (!w)->∀m,m+1<b.cs.length->(∀P,P<m->F P=none)->∃sd Lf Lt,HS b r.toNat (Xd w) m sd Lf Lt/\ZD Lf Lt=F m) :
  Qb Q6 21 #[h.v,.int .i64 r,.bool w] (λ v U'=>(∃v1,v=.tuple #[v1,.bool (b.staF r w F).isSome,.int .i64 (b.askF r)]/\Hs U'.frz v1 ((b.staF r w F).getD []))/\U.le U') U:=by
 refine Qb.grown (R:=λ v U'=>∃v1,v=.tuple #[v1,.bool (b.staF r w F).isSome,.int .i64 (b.askF r)]/\Hs U' v1 ((b.staF r w F).getD [])) (λ v U1 U2 hl⟨v1,e,h1⟩=>⟨v1,e,h1.lg hl⟩) (Qb.of (args:=[_,_,_]) T9 Qf S1 ?_);have ak:=hb.cs.1
 repeat refine⟨rfl,?_⟩
 conv=>whnf
 intro B U1 aa hB;have hB:Zi U1 B #[.slice h.ra h.rl h.rc,.slice h.ca h.cl h.cc]:=hB;refine⟨_,⟨rfl,hB.rd⟩,?_⟩;refine⟨PC.any,(Ve h b (hb.lg aa.lg.frz2) (hk.lg aa.lg) r).go λ _=>?_⟩
 conv=>whnf
 intro b9 ah;refine⟨_,.refl _,?_⟩;by_cases hF:b.askF r=0
 .obtain⟨hok,hr0,N⟩:=Bk.askF_ok hF;obtain⟨q,rfl⟩:=Int.eq_ofNat_of_zero_le hr0;have hq:q<b.rs.length:=by unfold Bk.nr at N;omega
  have al:=hok.nc;have ad:b.staF (q:Int) w F=(if b.fatR q=Xd w then some []else if b.fatR q=Xd (!w)then none else Xa F 0 (b.cs.length-1)):=by unfold Bk.staF;rw[if_pos hF,Int.toNat_natCast]
  have hC:=hC hF;rw[Int.toNat_natCast]at hC;rw[if_pos hF,hF,ad];refine⟨rfl,Zv (vs:=[.slice h.ra h.rl h.rc,.slice h.ca h.cl h.cc]) ah rfl Zz1 λ U2 ag Q=>?_⟩;have Q:Zi U2 b9 #[.slice h.ra h.rl h.rc,.slice h.ca h.cl h.cc]:=Q;have G:=aa.trans ag;have hB:=hB.le ag;have W:=Vg (S:=Q6) (U:=U2) h b (hb.lg G.lg.frz2) hok q hq;cases w with
  |true=>
   have ae:Xd true=1:=rfl;have af:Xd (!true)=2:=rfl;rw[ae,af]at hC ⊢
   repeat refine⟨rfl,?_⟩
   refine⟨_,⟨rfl,Q.rd⟩,?_⟩;refine⟨Gg.any,W.go λ _=>?_⟩
   repeat refine⟨rfl,?_⟩
   conv=>whnf
   apply Qg<;>intro K
   .have Y:b.fatR q=1:=by simpa using K
    rw[if_pos Y]
    repeat refine⟨rfl,?_⟩
    conv=>whnf
    exact⟨⟨_,rfl,.nil⟩,G.lg⟩
   have Y:b.fatR q≠1:=by simpa using K
   rw[if_neg Y]
   repeat refine⟨rfl,?_⟩
   conv=>whnf
   apply Qg<;>intro K
   .have Z:b.fatR q=2:=by simpa using K
    rw[if_pos Z]
    repeat refine⟨rfl,?_⟩
    conv=>whnf
    exact⟨⟨_,rfl,.nil⟩,G.lg⟩
   have Z:b.fatR q≠2:=by simpa using K
   rw[if_neg Z]
   refine⟨Nat,λ m=>[(1,.int .i64 q),(3,.pb B),(9,.pb b9),(10,.int .i64 1),(12,.int .i64 (m+1:Nat))],
    λ m U'=>U2.le U'/\(m=0\/m+1<=b.cs.length)/\(∀P,P<m->F P=none)/\Xa F 0 (b.cs.length-1)=Xa F m (b.cs.length-1-m),λ m=>b.cs.length-m,0,T1,⟨.refl _,.inl rfl,S1,rfl⟩,?_⟩
   rintro m f U3⟨L,hm,X,E⟩;have ac:Z9 (((m+1:Nat):Int)+1):=I1
   have H:=G.trans L;refine⟨_,(hB.le L).sees3 (o:=1) rfl,?_⟩
   repeat refine⟨rfl,?_⟩
   conv=>whnf
   apply Qg<;>intro K
   .have hlt:m+1<b.cs.length:=by simp at K;omega
    obtain⟨sd,Lf,Lt,hD,V⟩:=hC Y Z m hlt X;rw[show b.cs.length-1-m=(b.cs.length-1-(m+1))+1 by omega,Ep]at E;refine⟨_,⟨rfl,(Q.le L).rd⟩,?_⟩;refine⟨OW.any,(DL (U:=U3) (H.tok.trans ab) h b (hb.lg H.lg.frz2) hok q hq 1 m hD).mono ?_⟩;rintro _ U4⟨⟨v1,rfl,I⟩,T⟩-;rw[V]at I ⊢;cases M:F m with
    |some x=>
     rw[M]at I E;obtain⟨a1,c1,rfl,N⟩:=I;rw[E]
     repeat refine⟨rfl,?_⟩
     conv=>whnf
     exact⟨⟨_,rfl,⟨a1,c1,rfl,N⟩⟩,(H.trans T).lg⟩
    |none=>
     rw[M]at I E;obtain⟨a1,c1,rfl,N⟩:=I
     repeat refine⟨rfl,?_⟩
     refine⟨ac,?_⟩
     conv=>whnf
     exact⟨rfl,m+1,T1,⟨L.trans T,.inr O1,λ P aj=>by
      by_cases e:P=m
      .rw[e];exact M
      .exact X P O1,E⟩,L1⟩
   .have hge:b.cs.length<=m+1:=by simp at K;omega
    rw[show b.cs.length-1-m=0 by omega]at E;have E:Xa F 0 (b.cs.length-1)=none:=E;rw[E]
    repeat refine⟨rfl,?_⟩
    conv=>whnf
    exact⟨⟨_,rfl,.nil⟩,H.lg⟩
  |false=>
   have ae:Xd false=2:=rfl;have af:Xd (!false)=1:=rfl;rw[ae,af]at hC ⊢
   repeat refine⟨rfl,?_⟩
   refine⟨_,⟨rfl,Q.rd⟩,?_⟩;refine⟨Gg.any,W.go λ _=>?_⟩
   repeat refine⟨rfl,?_⟩
   conv=>whnf
   apply Qg<;>intro K
   .have Y:b.fatR q=2:=by simpa using K
    rw[if_pos Y]
    repeat refine⟨rfl,?_⟩
    conv=>whnf
    exact⟨⟨_,rfl,.nil⟩,G.lg⟩
   have Y:b.fatR q≠2:=by simpa using K
   rw[if_neg Y]
   repeat refine⟨rfl,?_⟩
   conv=>whnf
   apply Qg<;>intro K
   .have Z:b.fatR q=1:=by simpa using K
    rw[if_pos Z]
    repeat refine⟨rfl,?_⟩
    conv=>whnf
    exact⟨⟨_,rfl,.nil⟩,G.lg⟩
   have Z:b.fatR q≠1:=by simpa using K
   rw[if_neg Z]
   refine⟨Nat,λ m=>[(1,.int .i64 q),(3,.pb B),(9,.pb b9),(10,.int .i64 2),(12,.int .i64 (m+1:Nat))],
    λ m U'=>U2.le U'/\(m=0\/m+1<=b.cs.length)/\(∀P,P<m->F P=none)/\Xa F 0 (b.cs.length-1)=Xa F m (b.cs.length-1-m),λ m=>b.cs.length-m,0,T1,⟨.refl _,.inl rfl,S1,rfl⟩,?_⟩
   rintro m f U3⟨L,hm,X,E⟩;have ac:Z9 (((m+1:Nat):Int)+1):=I1
   have H:=G.trans L;refine⟨_,(hB.le L).sees3 (o:=1) rfl,?_⟩
   repeat refine⟨rfl,?_⟩
   conv=>whnf
   apply Qg<;>intro K
   .have hlt:m+1<b.cs.length:=by simp at K;omega
    obtain⟨sd,Lf,Lt,hD,V⟩:=hC Y Z m hlt X;rw[show b.cs.length-1-m=(b.cs.length-1-(m+1))+1 by omega,Ep]at E;refine⟨_,⟨rfl,(Q.le L).rd⟩,?_⟩;refine⟨OW.any,(DL (U:=U3) (H.tok.trans ab) h b (hb.lg H.lg.frz2) hok q hq 2 m hD).mono ?_⟩;rintro _ U4⟨⟨v1,rfl,I⟩,T⟩-;rw[V]at I ⊢;cases M:F m with
    |some x=>
     rw[M]at I E;obtain⟨a1,c1,rfl,N⟩:=I;rw[E]
     repeat refine⟨rfl,?_⟩
     conv=>whnf
     exact⟨⟨_,rfl,⟨a1,c1,rfl,N⟩⟩,(H.trans T).lg⟩
    |none=>
     rw[M]at I E;obtain⟨a1,c1,rfl,N⟩:=I
     repeat refine⟨rfl,?_⟩
     refine⟨ac,?_⟩
     conv=>whnf
     exact⟨rfl,m+1,T1,⟨L.trans T,.inr O1,λ P aj=>by
      by_cases e:P=m
      .rw[e];exact M
      .exact X P O1,E⟩,L1⟩
   .have hge:b.cs.length<=m+1:=by simp at K;omega
    rw[show b.cs.length-1-m=0 by omega]at E;have E:Xa F 0 (b.cs.length-1)=none:=E;rw[E]
    repeat refine⟨rfl,?_⟩
    conv=>whnf
    exact⟨⟨_,rfl,.nil⟩,H.lg⟩
 .have ad:b.staF r w F=none:=by unfold Bk.staF;rw[if_neg hF]
  rw[if_neg hF,ad];refine⟨rfl,Zv (vs:=[.nl,.nl]) ah rfl Zz1 λ U3 ai _=>?_⟩
  repeat refine⟨rfl,?_⟩
  conv=>whnf
  apply Qg<;>intro K
  .repeat refine⟨rfl,?_⟩
   conv=>whnf
   exact⟨⟨_,rfl,.nil⟩,(aa.trans ai).lg⟩
  .exact absurd (by simpa using K) hF
variable{l:List Bool}
def WW(U:Qa T)(a:Option Addr)(len:Nat)(l:List Bool):Prop:=l.length=len/\∀i x,l[i]?=some x->∃b,a=some b/\b.spot=none/\U.sees (b.add (i*1)) (.bool x)
def WW.lg{a:Option Addr}{len:Nat}{l:List Bool}(h:WW U a len l)(k:U.lg U'):WW U' a len l:=⟨h.1,λ i x hx=>let ⟨ad,e,s,hs⟩:=h.2 i x hx;⟨ad,e,s,hs.lg k⟩⟩
def WW.at(h:WW U a len l)(hi:i<len):∃b x,l[i]?=some x/\a=some b/\b.spot=none/\U.sees (b.add (i*1)) (.bool x):=by
 have f:i<l.length:=by rw[h.1];exact hi
 have hx:l[i]?=some l[i]:=getElem?_eq_getElem f;obtain⟨b,e,s,w⟩:=h.2 i _ hx;exact⟨b,_,hx,e,s,w⟩
def VS(h:Zi U len (l.map .bool).toArray):WW U (some ⟨len,0,none⟩) l.length l:=
 ⟨rfl,λ i x hx=>⟨_,rfl,rfl,by rw[Nat.mul_one,Qo];exact h.sees (by rw[Nat.zero_add];simp[hx])⟩⟩
variable{S:Sys prog T}
def DF(a a':Option Addr)(len cap b cap':Nat)(l l':List Int)(hl:Z6 U a len l)(hl':Z6 U a' b l')(K:len<2^60) :
  Qb S 24 #[.slice a len cap,.slice a' b cap'] (λ v U'=>v=.bool (decide (l=l'))/\U'=U) U:=by
 refine Qb.pure' (Qb.of (args:=[_,_]) Tb Qf S1 ?_);have h1:=hl.1;have h2:=hl'.1
 repeat refine⟨rfl,?_⟩
 conv=>whnf
 apply Qg<;>intro B
 .have hne:len≠b:=by intro e;subst e;simp at B
  repeat refine⟨rfl,?_⟩
  refine⟨?_,(Qa.le.refl _).lg⟩;rw[decide_eq_false (λ e=>hne (by rw[<- h1,<- h2,e]))]
 have G:len=b:=Int.ofNat.inj (by simpa using B:(len:Int)=b);subst G;refine⟨Nat,λ i=>[(0,.slice a len cap),(1,.slice a' len cap'),(5,.int .i64 i)],λ i U'=>U.le U'/\i<=len/\l.take i=l'.take i,λ i=>len-i,0,T1,⟨.refl _,O1,rfl⟩,?_⟩;rintro i f N⟨h,hi,E⟩
 repeat refine⟨rfl,?_⟩
 conv=>whnf
 apply Qg<;>intro B
 .have hlt:i<len:=by simpa using B
  obtain⟨L,x,hx,rfl,-,M⟩:=(hl.lg h.lg).at hlt;obtain⟨F,y,hy,rfl,-,I⟩:=(hl'.lg h.lg).at hlt;have H:Z9 (i+1):=I1
  refine⟨L,i,⟨rfl,rfl,hlt⟩,_,M,F,i,⟨rfl,rfl,hlt⟩,_,I,?_⟩
  conv=>whnf
  intro P w _
  repeat refine⟨rfl,?_⟩
  conv=>whnf
  apply Qg<;>intro B
  .have hne:x≠y:=by simpa using B
   repeat refine⟨rfl,?_⟩
   conv=>whnf
   exact⟨by rw[decide_eq_false (KY hx hy hne)],(h.trans w).lg⟩
  .have hxy:x=y:=by simpa using B
   refine⟨H,?_⟩
   conv=>whnf
   exact⟨rfl,i+1,T1,⟨h.trans w,O1,Vi hx hy E hxy⟩,L1⟩
 .have hge:len<=i:=by simpa using B
  rw[take_of_length_le O1,take_of_length_le O1]at E
  repeat refine⟨rfl,?_⟩
  conv=>whnf
  exact⟨by rw[decide_eq_true E],h.lg⟩
def Wz(a a':Option Addr)(len cap b cap':Nat)(l l':List Bool)(hl:WW U a len l)(hl':WW U a' b l')(K:len<2^60) :
  Qb S 23 #[.slice a len cap,.slice a' b cap'] (λ v U'=>v=.bool (decide (l=l'))/\U'=U) U:=by
 refine Qb.pure' (Qb.of (args:=[_,_]) PA Qf S1 ?_);have h1:=hl.1;have h2:=hl'.1
 repeat refine⟨rfl,?_⟩
 conv=>whnf
 apply Qg<;>intro B
 .have hne:len≠b:=by intro e;subst e;simp at B
  repeat refine⟨rfl,?_⟩
  refine⟨?_,(Qa.le.refl _).lg⟩;rw[decide_eq_false (λ e=>hne (by rw[<- h1,<- h2,e]))]
 have G:len=b:=Int.ofNat.inj (by simpa using B:(len:Int)=b);subst G;refine⟨Nat,λ i=>[(0,.slice a len cap),(1,.slice a' len cap'),(5,.int .i64 i)],λ i U'=>U.le U'/\i<=len/\l.take i=l'.take i,λ i=>len-i,0,T1,⟨.refl _,O1,rfl⟩,?_⟩;rintro i f N⟨h,hi,E⟩
 repeat refine⟨rfl,?_⟩
 conv=>whnf
 apply Qg<;>intro B
 .have hlt:i<len:=by simpa using B
  obtain⟨L,x,hx,rfl,-,M⟩:=(hl.lg h.lg).at hlt;obtain⟨F,y,hy,rfl,-,I⟩:=(hl'.lg h.lg).at hlt;have H:Z9 (i+1):=I1
  refine⟨L,i,⟨rfl,rfl,hlt⟩,_,M,F,i,⟨rfl,rfl,hlt⟩,_,I,?_⟩
  conv=>whnf
  intro P w _
  repeat refine⟨rfl,?_⟩
  conv=>whnf
  apply Qg<;>intro B
  .have hne:x≠y:=by simpa using B
   repeat refine⟨rfl,?_⟩
   conv=>whnf
   exact⟨by rw[decide_eq_false (KY hx hy hne)],(h.trans w).lg⟩
  .have hxy:x=y:=by simpa using B
   refine⟨H,?_⟩
   conv=>whnf
   exact⟨rfl,i+1,T1,⟨h.trans w,O1,Vi hx hy E hxy⟩,L1⟩
 .have hge:len<=i:=by simpa using B
  rw[take_of_length_le O1,take_of_length_le O1]at E
  repeat refine⟨rfl,?_⟩
  conv=>whnf
  exact⟨by rw[decide_eq_true E],h.lg⟩
def DD(a a':Option Addr)(len cap b cap':Nat)(l l':List (Int×Int))(hl:Q7 U a len 2 l λ x vs=>vs=encII x)(hl':Q7 U a' b 2 l' λ x vs=>vs=encII x)(M:len<2^60) :
  Qb S 25 #[.slice a len cap,.slice a' b cap'] (λ v U'=>v=.bool (decide (l=l'))/\U'=U) U:=by
 refine Qb.pure' (Qb.of (args:=[_,_]) ON Qf S1 ?_);have h1:=hl.1;have h2:=hl'.1
 repeat refine⟨rfl,?_⟩
 conv=>whnf
 apply Qg<;>intro E
 .have hne:len≠b:=by intro e;subst e;simp at E
  repeat refine⟨rfl,?_⟩
  refine⟨?_,(Qa.le.refl _).lg⟩;rw[decide_eq_false (λ e=>hne (by rw[<- h1,<- h2,e]))]
 have H:len=b:=Int.ofNat.inj (by simpa using E:(len:Int)=b);subst H;refine⟨Nat,λ i=>[(0,.slice a len cap),(1,.slice a' len cap'),(5,.int .i64 i)],λ i U'=>U.le U'/\i<=len/\l.take i=l'.take i,λ i=>len-i,0,T1,⟨.refl _,O1,rfl⟩,?_⟩;rintro i f Q⟨w,hi,F⟩
 repeat refine⟨rfl,?_⟩
 conv=>whnf
 apply Qg<;>intro E
 .have hlt:i<len:=by simpa using E
  obtain⟨N,x,vs,hx,rfl,-,rfl,-,P⟩:=(hl.lg w.lg λ _ _ h=>h).at hlt;obtain⟨G,y,vs,hy,rfl,-,rfl,-,L⟩:=(hl'.lg w.lg λ _ _ h=>h).at hlt;have K:Z9 (i+1):=I1
  refine⟨N,i,⟨rfl,rfl,hlt⟩,_,⟨rfl,P⟩,G,i,⟨rfl,rfl,hlt⟩,_,⟨rfl,L⟩,?_⟩
  conv=>whnf
  intro T B _
  conv=>whnf
  refine pF Da (vs:=encII x) (ws:=encII y) rfl rfl K1 K1 ?_
  have I:ZF (encII x) (encII y)=decide (x=y):=by
   obtain⟨V,X⟩:=x;obtain⟨W,Y⟩:=y;simp[encII,ZF,HY,Prod.mk.injEq,Bool.decide_and];rfl
  rw[I]
  repeat refine⟨rfl,?_⟩
  conv=>whnf
  apply Qg<;>intro E
  .have hne:x≠y:=by simpa using E
   repeat refine⟨rfl,?_⟩
   conv=>whnf
   exact⟨by rw[decide_eq_false (KY hx hy hne)],(w.trans B).lg⟩
  .have hxy:x=y:=by simpa using E
   refine⟨K,?_⟩
   conv=>whnf
   exact⟨rfl,i+1,T1,⟨w.trans B,O1,Vi hx hy F hxy⟩,L1⟩
 .have hge:len<=i:=by simpa using E
  rw[take_of_length_le O1,take_of_length_le O1]at F
  repeat refine⟨rfl,?_⟩
  conv=>whnf
  exact⟨by rw[decide_eq_true F],w.lg⟩
def qq:Qb S 18 #[] (λ v U'=>(∃h:BH,v=h.v/\Zr U'.frz h Ja)/\U.le U') U:=by
 refine Qb.grown (R:=λ v U'=>∃h:BH,v=h.v/\Zr U' h Ja) (λ v U1 U2 hl⟨h,e,h1⟩=>⟨h,e,h1.lg hl⟩) (Qb.of (args:=[]) UO Qf S1 ?_)
 conv=>whnf
 intro K al;refine⟨_,.refl _,?_⟩;have E:=Z2 (U:=U) K (.cells #[.nl,.nl] 38);have N:(U.put K (.cells #[.nl,.nl] 38)).M=.cl K [.nl,.nl] 38::U.M:=rfl;generalize U.put K (.cells #[.nl,.nl] 38)=s0 at E N ⊢
 conv=>whnf
 intro W af;refine Zl af λ s1 h1 Y=>?_
 conv=>whnf
 intro b2 ag;refine Zl ag λ s2 h2 Z=>?_
 conv=>whnf
 intro b3 ah;refine Zl ah λ s3 h3 aa=>?_
 conv=>whnf
 intro b5 ai;refine Zl ai λ s4 h4 ab=>?_
 conv=>whnf
 intro b7 aj;refine Zl aj λ s5 h5 ac=>?_
 conv=>whnf
 intro b8 ak;refine Zl ak λ s6 h6 ad=>?_
 conv=>whnf
 intro w T;refine Zl T λ f h7 Q=>?_;have g6:=h7;have g5:=h6.trans g6;have g4:=h5.trans g5;have g3:=h4.trans g4;have g2:=h3.trans g3;have g1:=h2.trans g2;have F:=h1.trans g1;have X:=F.own.trans N
 have ae:Zr f.frz ⟨some ⟨W,0,none⟩,3,3,some ⟨w,0,none⟩,3,3⟩ Ja:=by
  have k1:Zi f.frz W _:=(Y.le g1).imI λ _ _ h=>h;have k2:Zi f.frz b2 _:=(Z.le g2).imI λ _ _ h=>h;have k3:Zi f.frz b3 _:=(aa.le g3).imI λ _ _ h=>h;have k5:Zi f.frz b5 _:=(ab.le g4).imI λ _ _ h=>h;have k7:Zi f.frz b7 _:=(ac.le g5).imI λ _ _ h=>h;have k8:Zi f.frz b8 _:=(ad.le g6).imI λ _ _ h=>h;have G:Zi f.frz w _:=Q.imI λ _ _ h=>h
  have one:∀(b:Nat)(n:Int),Zi f.frz b #[.int .i64 n]->Z6 f.frz (some ⟨b,0,none⟩) 1 [n]:=λ b n h=>Zi.ints (l:=[n]) h λ i x hx=>by
   cases i with
   |zero=>simp at hx;subst hx;rfl
   |succ i=>simp at hx
  have lst:∀(b:Nat)(a:Option Addr)(len cap:Nat)(g:List Int),Zi f.frz b #[.slice a len cap]->Z6 f.frz a len g->len<2^60->Wx f.frz (some ⟨b,0,none⟩) 1 [g]:=λ b a len cap g h hg hl=>by
   refine⟨rfl,λ i x hx=>?_⟩;cases i with
   |zero=>
    simp at hx;subst hx;exact⟨_,_,rfl,rfl,⟨a,len,cap,rfl,hg,hl⟩,rfl,by rw[Nat.zero_mul];exact h.rd⟩
   |succ i=>simp at hx
  have H:∀(o:Nat)(v0 v1 v2 v3:Value)(c:Array Value),Zi f.frz w c->c[o]?=some v0->c[o+1]?=some v1->c[o+2]?=some v2->c[o+3]?=some v3->Je f.frz ⟨w,o,none⟩ [v0,v1,v2,v3]:=by
   intro o v0 v1 v2 v3 c h e0 e1 e2 e3;refine h.reads λ k v B=>?_;have hk:=(Zz4 B);simp at hk;obtain rfl|rfl|rfl|rfl:k=0\/k=1\/k=2\/k=3:=O1
   .cases B;exact e0
   .cases B;exact e1
   .cases B;exact e2
   .cases B;exact e3
  have nil:Z6 f.frz none 0 []:=⟨rfl,λ i x hx=>by simp at hx⟩;refine⟨⟨rfl,λ i x hx=>?_⟩,⟨rfl,λ i x hx=>?_⟩,by show 3<2^60;decide,by show 3<2^60;decide,D1,D1⟩
  .refine⟨_,_,rfl,rfl,rfl,rfl,λ k v B=>?_⟩;have hk:k=0:=by have:=(Zz4 B);simp at this;omega
   subst hk;simp at B;subst B;rw[Qo,Qo];refine k1.sees ?_;have hi:i<3:=by have:=(Zz4 hx);exact this
   obtain rfl|rfl|rfl:i=0\/i=1\/i=2:=O1
   all_goals(cases hx;rfl)
  .have hi:i<3:=by have:=(Zz4 hx);exact this
   obtain rfl|rfl|rfl:i=0\/i=1\/i=2:=O1
   .cases hx;exact⟨_,_,rfl,rfl,⟨_,_,_,_,_,_,rfl,lst b3 _ 1 1 _ k3 (one b2 0 k2) D1,D1,nil,D1⟩,rfl,by rw[Qo];exact H _ _ _ _ _ _ G rfl rfl rfl rfl⟩
   .cases hx;exact⟨_,_,rfl,rfl,⟨_,_,_,_,_,_,rfl,lst b5 _ 0 0 _ k5 nil D1,D1,nil,D1⟩,rfl,by rw[Qo];exact H _ _ _ _ _ _ G rfl rfl rfl rfl⟩
   .cases hx;exact⟨_,_,rfl,rfl,⟨_,_,_,_,_,_,rfl,lst b8 _ 1 1 _ k8 (one b7 1 k7) D1,D1,nil,D1⟩,rfl,by rw[Qo];exact H _ _ _ _ _ _ G rfl rfl rfl rfl⟩
 refine⟨rfl,Wd (b:=K) (e:=38) (c:=#[.nl,.nl]) (M₀:=U.M) (vs:=[.slice (some ⟨W,0,none⟩) 3 3,.slice (some ⟨w,0,none⟩) 3 3]) [] X rfl Zz1 λ s8 L V P=>?_⟩;refine⟨_,⟨rfl,Q9 [] P⟩,⟨⟨_,_,_,_,_,_⟩,rfl,ae.lg ⟨λ x o hx=>by show s8.I x=_;rw[L];exact hx,⟨[],rfl⟩,V⟩⟩,⟨λ x o hx=>by rw[L];exact F.imm x o (E.imm x o hx),⟨[_],P⟩,V.trans (F.tok.trans E.tok)⟩⟩
variable{r:Nat}{w:Int}{B:Nat->Option Bool}{F:Option (List (Int×Int))}
def Is:Ja.flaw Zg=0:=K1
def pT:(Ja.outF [0,1,2],Ja.ends [0,1,2])=(0,[false,false,true],[true,true,false]):=K1
def pU:(Ja.outF [1,0,2],Ja.ends [1,0,2])=(0,[false,true,false],[false,true,true]):=K1
def pV:Ja.wdF 1=[0]:=K1
def gQ:Ja.dcF 0=[1]:=K1
def gR:Ja.dcF 1=[0,1]:=K1
def Gd:(Ja.askF 0,Ja.askF 1,Ja.askF 2)=(0,0,0):=K1
def HU(b:Bk)(r:Nat)(w:Int)(m:Nat)(f:Nat->Option Bool)(h B:Option (List (Int×Int))):Bool:=(range b.cans.length).all λ i=>match b.cans[i]? with
 |none=>true
 |some ci=>match(TM.parts (b.cans.drop (i+1)) m).find? (λ q=>b.good r w (ci::q))with
  |none=>f i==none
  |some q=>match f i with
   |some s=>(if s then B else h)==some (ci::q)
   |none=>false
def Sw{b:Bk}(h:HU b r w len B E F=true):∀i ci,b.cans[i]?=some ci->(TM.parts (b.cans.drop (i+1)) len).find? (λ q=>b.good r w (ci::q))=none->B i=none:=by
 intro i ci f hf;unfold HU at h;rw[all_eq_true]at h;have:=h i (by simpa using(Zz4 f));rw[f]at this;simp only[hf]at this;simpa using this
def OH{b:Bk}(h:HU b r w len B E F=true):∀i ci q,b.cans[i]?=some ci->(TM.parts (b.cans.drop (i+1)) len).find? (λ q=>b.good r w (ci::q))=some q->∃s,B i=some s/\(if s then F else E)=some (ci::q):=by
 intro i ci q f hf;unfold HU at h;rw[all_eq_true]at h;have:=h i (by simpa using(Zz4 f));rw[f]at this;simp only[hf]at this;cases G:B i with
 |none=>rw[G]at this;cases this
 |some s=>
  rw[G]at this;exact⟨s,rfl,by simpa using this⟩
def UI:Nat->Option Bool:=λ i=>if i=0 then some false else none
def Md:Nat->Option Bool:=λ _=>none
def UJ:Nat->Option Bool:=λ i=>if i=2 then some false else if i=3 then some true else none
def LA:HU Ja 1 1 0 UI (some [(0,1)]) none=true:=K1
def LB:HU Ja 2 1 0 Md none none=true:=K1
def LC:HU Ja 2 1 1 UJ (some [(1,0),(2,0)]) (some [(1,2),(2,0)])=true:=K1
def Og:Ja.cans.Nodup:=by rw[Ir];decide
def H5:Ja.cans.length=6:=by rw[Ir];rfl
def kN:HS Ja 1 1 0 UI (some [(0,1)]) none where
 n:=Og
 pos:=by rw[H5];decide
 six:=by rw[H5];decide
 m5:=D1
 len:=λ x hx=>by rcases hx with h|h <;> cases h;decide
 sym:=λ x y _ h=>by cases h
 no:=Sw LA
 yes:=OH LA
 one:=λ i j s h1 h2=>by
  unfold UI at h1 h2;split at h1 <;> split at h2 <;> simp_all
 out:=λ s h=>by cases s <;> first|rfl|(rw[H5]at h;exact absurd h D1)
def kO:HS Ja 2 1 0 Md none none where
 n:=Og
 pos:=by rw[H5];decide
 six:=by rw[H5];decide
 m5:=D1
 len:=λ x hx=>by rcases hx with h|h <;> cases h
 sym:=λ x y _ h=>by cases h
 no:=Sw LB
 yes:=OH LB
 one:=λ i j s h1 h2=>by cases h1
 out:=λ s h=>by cases s <;> rfl
def kx:HS Ja 2 1 1 UJ (some [(1,0),(2,0)]) (some [(1,2),(2,0)]) where
 n:=Og
 pos:=by rw[H5];decide
 six:=by rw[H5];decide
 m5:=D1
 len:=λ x hx=>by rcases hx with h|h <;> cases h <;> decide
 sym:=λ x y h1 h2=>by cases h1;cases h2;rfl
 no:=Sw LC
 yes:=OH LC
 one:=λ i j s h1 h2=>by
  unfold UJ at h1 h2;split at h1
  .cases h1;split at h2
   .omega
   .split at h2 <;> cases h2
  .split at h1
   .cases h1;split at h2
    .cases h2
    .split at h2
     .omega
     .cases h2
   .cases h1
 out:=λ s h=>by
  rw[H5]at h;cases s <;> exact absurd h D1
def GT:Nat->Option (List (Int×Int)):=λ _=>some [(0,1)]
def GU:Nat->Option (List (Int×Int)):=λ m=>if m=0 then none else some [(1,0),(2,0)]
def LF:(Ja.staF 1 true GT,Ja.staF 2 true GU)=(some [(0,1)],some [(1,0),(2,0)]):=K1
def v_:∀m,m+1<Ja.cs.length->(∀w,w<m->GT w=none)->∃B f h,HS Ja 1 1 m B f h/\ZD f h=GT m:=by
 intro m hm b;cases m with
 |zero=>exact⟨_,_,_,kN,rfl⟩
 |succ m=>cases b 0 O1
def kb:∀m,m+1<Ja.cs.length->(∀h,h<m->GU h=none)->∃B b f,HS Ja 2 1 m B b f/\ZD b f=GU m:=by
 intro m hm w
 have:m=0\/m=1:=by
  have:Ja.cs.length=3:=rfl;omega
 rcases this with rfl|rfl
 .exact⟨_,_,_,kO,rfl⟩
 .exact⟨_,_,_,kx,rfl⟩
def WM.c(h:WM U (.slice a len i) l):len=l.length/\WW U a l.length l:=by
 obtain⟨a',cap',e,h⟩:=h;cases e;exact⟨rfl,rfl,h⟩
def XM{l:List Int}(h:Zi U len (l.map λ n=>Value.int .i64 n).toArray):Z6 U (some ⟨len,0,none⟩) l.length l:=
 h.ints λ i x hx=>by simp[hx]
def ID{l:List (Int×Int)}(h:Zi U len (l.flatMap encII).toArray):Q7 U (some ⟨len,0,none⟩) l.length 2 l (λ x vs=>vs=encII x):=
 HG (enc:=encII) (n:=2) (λ _=>rfl) (.inr ⟨_,rfl,h.rd⟩) (λ f e=>by cases e;rfl) D1
section
def Zjw{U:Qa Tk}(ax:U.tok=⟨0,.out,none⟩)(hk:JU U):Qb Q6 6 #[] (λ v U'=>v=.bool true/\U'=U) U:=by
 refine Qb.pure' (Qb.of (args:=[]) gY Qf S1 ?_);refine⟨UO.any,qq.mono ?_⟩;rintro _ s1⟨⟨h,rfl,ht⟩,h1⟩-
 conv=>whnf
 intro b1 dj;refine⟨_,.refl _,rfl,Zv (vs:=[.slice h.ra h.rl h.rc,.slice h.ca h.cl h.cc]) dj rfl Zz1 λ s2 h2 b=>?_⟩;have b:Zi s2 b1 #[.slice h.ra h.rl h.rc,.slice h.ca h.cl h.cc]:=b;have ht:Zr s2.frz h Ja:=ht.lg h2.lg.frz2;have e2:U.le s2:=h1.trans h2;refine⟨_,⟨rfl,b.rd⟩,?_⟩
 conv=>whnf
 intro c3 dh;refine Zl dh λ s3 h3 dk=>?_;have z3:s2.frz.lg s3.frz:=h3.lg.frz2;have e3:U.le s3:=e2.trans h3;have b:=b.le h3;have ht:=ht.lg z3;have il:Z6 s3.frz (some ⟨c3,0,none⟩) 3 [0,1,2]:=XM (l:=[0,1,2]) (dk.imI λ _ _ h=>h);refine⟨T8.any,(DK h Ja ht (hk.lg e3.lg) _ 3 3 [0,1,2] il D1).mono ?_⟩;rintro _ s4⟨⟨v1,v2,rfl,hx,hy⟩,h4⟩-;obtain⟨ag,af⟩:=Prod.mk.inj pT;have af:Ja.ends (List.map Int.toNat [0,1,2])=_:=af;rw[ag,if_pos rfl,af]at hx hy;rw[ag];obtain⟨xa,xc,rfl,-⟩:=id hx;obtain⟨ya,yc,rfl,-⟩:=id hy;have f:=hx.c.2;have w:=hy.c.2;clear il hx hy ag af;have z4:s3.frz.lg s4.frz:=h4.lg.frz2;have e4:U.le s4:=e3.trans h4;have b:=b.le h4;have ht:=ht.lg z4;refine⟨_,⟨rfl,b.rd⟩,?_⟩
 conv=>whnf
 intro c5 di;refine Zl di λ s5 h5 dl=>?_;have z5:s4.frz.lg s5.frz:=h5.lg.frz2;have e5:U.le s5:=e4.trans h5;have b:=b.le h5;have ht:=ht.lg z5;have f:=f.lg z5;have w:=w.lg z5;have il:Z6 s5.frz (some ⟨c5,0,none⟩) 3 [1,0,2]:=XM (l:=[1,0,2]) (dl.imI λ _ _ h=>h);refine⟨T8.any,(DK h Ja ht (hk.lg e5.lg) _ 3 3 [1,0,2] il D1).mono ?_⟩;rintro _ s6⟨⟨v1,v2,rfl,hx,hy⟩,h6⟩-;obtain⟨ag,af⟩:=Prod.mk.inj pU;have af:Ja.ends (List.map Int.toNat [1,0,2])=_:=af;rw[ag,if_pos rfl,af]at hx hy;rw[ag];obtain⟨ua,uc,rfl,-⟩:=id hx;obtain⟨va,vc,rfl,-⟩:=id hy;have B:=hx.c.2;have E:=hy.c.2;clear il hx hy ag af;have z6:s5.frz.lg s6.frz:=h6.lg.frz2;have e6:U.le s6:=e5.trans h6;have b:=b.le h6;have ht:=ht.lg z6;have f:=f.lg z6;have w:=w.lg z6;refine⟨_,⟨rfl,b.rd⟩,?_⟩;refine⟨T7.any,(DV h Ja ht (hk.lg e6.lg)).mono ?_⟩;rintro _ s7⟨⟨v1,v2,rfl,hx,hy⟩,h7⟩-;rw[Is,if_pos rfl]at hx hy;rw[Is];rw[Fk.1]at hx;rw[Fk.2]at hy;obtain⟨ra,rc,rfl,fr⟩:=hx;obtain⟨ca,cc,rfl,F⟩:=hy;have z7:s6.frz.lg s7.frz:=h7.lg.frz2;have e7:U.le s7:=e6.trans h7;have b:=b.le h7;have ht:=ht.lg z7;have f:=f.lg z7;have w:=w.lg z7;have B:=B.lg z7;have E:=E.lg z7;refine⟨_,⟨rfl,b.rd⟩,?_⟩;refine⟨UP.any,(qG h Ja ht (hk.lg e7.lg) 1).mono ?_⟩;rintro _ s8⟨⟨v1,v2,rfl,hx,hy⟩,h8⟩-;have ea:Ja.askF 1=0:=(Prod.mk.inj (Prod.mk.inj Gd).2).1;rw[ea,if_pos rfl]at hx hy;rw[ea];have a9:(Ja.difS (Int.toNat 1) true).map (λ(k:Nat)=>(k:Int))=[1,0,2]:=by rw[show Ja.difS (Int.toNat 1) true=_ from Dn.1];rfl
 have ed2:(Ja.difS (Int.toNat 1) false).map (λ(k:Nat)=>(k:Int))=[0,1,2]:=by rw[show Ja.difS (Int.toNat 1) false=_ from Dn.2];rfl
 rw[a9]at hx;rw[ed2]at hy;obtain⟨la,lc,rfl,H⟩:=hx;obtain⟨ka,kc,rfl,G⟩:=hy;clear ea a9 ed2;have z8:s7.frz.lg s8.frz:=h8.lg.frz2;have e8:U.le s8:=e7.trans h8;have b:=b.le h8;have ht:=ht.lg z8;have f:=f.lg z8;have w:=w.lg z8;have B:=B.lg z8;have E:=E.lg z8;have fr:=fr.lg z8;have F:=F.lg z8;refine⟨_,⟨rfl,b.rd⟩,?_⟩;refine⟨T9.any,(DW (e8.tok.trans ax) h Ja ht (hk.lg e8.lg) 1 true GT λ _ _ _=>v_).mono ?_⟩;rintro _ s9⟨⟨v1,rfl,hx⟩,h9⟩-;have es:Ja.staF 1 true GT=some [(0,1)]:=(Prod.mk.inj LF).1;have ea:Ja.askF 1=0:=(Prod.mk.inj (Prod.mk.inj Gd).2).1;rw[es]at hx;rw[es,ea];obtain⟨sa,sc,rfl,I⟩:=hx;have I:Q7 s9.frz sa 1 2 [(0,1)] (λ x vs=>vs=encII x):=I;clear es ea;have z9:s8.frz.lg s9.frz:=h9.lg.frz2;have e9:U.le s9:=e8.trans h9;have b:=b.le h9;have ht:=ht.lg z9;have f:=f.lg z9;have w:=w.lg z9;have B:=B.lg z9;have E:=E.lg z9;have fr:=fr.lg z9;have F:=F.lg z9;have H:=H.lg z9;have G:=G.lg z9;refine⟨_,⟨rfl,b.rd⟩,?_⟩;refine⟨T9.any,(DW (e9.tok.trans ax) h Ja ht (hk.lg e9.lg) 2 true GU λ _ _ _=>kb).mono ?_⟩;rintro _ ah⟨⟨v1,rfl,hx⟩,ay⟩-;have es:Ja.staF 2 true GU=some [(1,0),(2,0)]:=(Prod.mk.inj LF).2;have ea:Ja.askF 2=0:=(Prod.mk.inj (Prod.mk.inj Gd).2).2;rw[es]at hx;rw[es,ea];obtain⟨ta,tc,rfl,ft⟩:=hx;have ft:Q7 ah.frz ta 2 2 [(1,0),(2,0)] (λ x vs=>vs=encII x):=ft;clear es ea;have ae:s9.frz.lg ah.frz:=ay.lg.frz2;have a6:U.le ah:=e9.trans ay;have b:=b.le ay;have ht:=ht.lg ae;have f:=f.lg ae;have w:=w.lg ae;have B:=B.lg ae;have E:=E.lg ae;have fr:=fr.lg ae;have F:=F.lg ae;have H:=H.lg ae;have G:=G.lg ae;have I:=I.lg ae λ _ _ h=>h;refine⟨_,⟨rfl,b.rd⟩,?_⟩;refine⟨UN.any,(Cg h Ja ht (hk.lg a6.lg) 1).mono ?_⟩;rintro _ a2⟨⟨v1,rfl,hx⟩,az⟩-;have ea:Ja.askF 1=0:=(Prod.mk.inj (Prod.mk.inj Gd).2).1;rw[pV]at hx;rw[ea];obtain⟨wa,wc,rfl,K⟩:=hx;clear ea;have ad:ah.frz.lg a2.frz:=az.lg.frz2;have a7:U.le a2:=a6.trans az;have b:=b.le az;have ht:=ht.lg ad;have f:=f.lg ad;have w:=w.lg ad;have B:=B.lg ad;have E:=E.lg ad;have fr:=fr.lg ad;have F:=F.lg ad;have H:=H.lg ad;have G:=G.lg ad;have I:=I.lg ad λ _ _ h=>h;have ft:=ft.lg ad λ _ _ h=>h;refine⟨_,⟨rfl,b.rd⟩,?_⟩;refine⟨Ta.any,(DQ h Ja ht (hk.lg a7.lg) 0).mono ?_⟩;rintro _ a3⟨⟨v1,rfl,hx⟩,a0⟩-;have ea:Ja.askF 0=0:=(Prod.mk.inj Gd).1;rw[gQ]at hx;rw[ea];obtain⟨ma,mc,rfl,fm⟩:=hx;clear ea;have ac:a2.frz.lg a3.frz:=a0.lg.frz2;have a8:U.le a3:=a7.trans a0;have b:=b.le a0;have ht:=ht.lg ac;have f:=f.lg ac;have w:=w.lg ac;have B:=B.lg ac;have E:=E.lg ac;have fr:=fr.lg ac;have F:=F.lg ac;have H:=H.lg ac;have G:=G.lg ac;have I:=I.lg ac λ _ _ h=>h;have ft:=ft.lg ac λ _ _ h=>h;have K:=K.lg ac;refine⟨_,⟨rfl,b.rd⟩,?_⟩;refine⟨Ta.any,(DQ h Ja ht (hk.lg a8.lg) 1).mono ?_⟩;rintro _ a4⟨⟨v1,rfl,hx⟩,a1⟩-;have ea:Ja.askF 1=0:=(Prod.mk.inj (Prod.mk.inj Gd).2).1;rw[gR]at hx;rw[ea];obtain⟨na,nc,rfl,fn⟩:=hx;clear ea;have L:a3.frz.lg a4.frz:=a1.lg.frz2;have c1:U.le a4:=a8.trans a1;have b:=b.le a1;have ht:=ht.lg L;have f:=f.lg L;have w:=w.lg L;have B:=B.lg L;have E:=E.lg L;have fr:=fr.lg L;have F:=F.lg L;have H:=H.lg L;have G:=G.lg L;have I:=I.lg L λ _ _ h=>h;have ft:=ft.lg L λ _ _ h=>h;have K:=K.lg L;have fm:=fm.lg L
 repeat refine⟨rfl,?_⟩
 conv=>whnf
 intro ck bn;refine Zl bn λ ai ba b2=>?_;have M:a4.frz.lg ai.frz:=ba.lg.frz2;have c2:U.le ai:=c1.trans ba;have f:=f.lg M;have w:=w.lg M;have B:=B.lg M;have E:=E.lg M;have fr:=fr.lg M;have F:=F.lg M;have H:=H.lg M;have G:=G.lg M;have I:=I.lg M λ _ _ h=>h;have ft:=ft.lg M λ _ _ h=>h;have K:=K.lg M;have fm:=fm.lg M;have fn:=fn.lg M;have q:WW ai.frz (some ⟨ck,0,none⟩) 3 [false,false,true]:=VS (l:=[false,false,true]) (b2.imI λ _ _ h=>h);refine⟨PA.any,(Wz xa _ 3 xc 3 3 [false,false,true] [false,false,true] (f.lg Qr) (q.lg Qr) D1).go λ _=>?_⟩;rw[decide_eq_true (rfl:([false,false,true]:List Bool)=[false,false,true])];clear q
 conv=>whnf
 intro cm bo;refine Zl bo λ aj bb b3=>?_;have N:ai.frz.lg aj.frz:=bb.lg.frz2;have c4:U.le aj:=c2.trans bb;have f:=f.lg N;have w:=w.lg N;have B:=B.lg N;have E:=E.lg N;have fr:=fr.lg N;have F:=F.lg N;have H:=H.lg N;have G:=G.lg N;have I:=I.lg N λ _ _ h=>h;have ft:=ft.lg N λ _ _ h=>h;have K:=K.lg N;have fm:=fm.lg N;have fn:=fn.lg N;have q:WW aj.frz (some ⟨cm,0,none⟩) 3 [true,true,false]:=VS (l:=[true,true,false]) (b3.imI λ _ _ h=>h);refine⟨PA.any,(Wz ya _ 3 yc 3 3 [true,true,false] [true,true,false] (w.lg Qr) (q.lg Qr) D1).go λ _=>?_⟩;rw[decide_eq_true (rfl:([true,true,false]:List Bool)=[true,true,false])];clear q
 conv=>whnf
 intro co bp;refine Zl bp λ ak bc b4=>?_;have P:aj.frz.lg ak.frz:=bc.lg.frz2;have c6:U.le ak:=c4.trans bc;have f:=f.lg P;have w:=w.lg P;have B:=B.lg P;have E:=E.lg P;have fr:=fr.lg P;have F:=F.lg P;have H:=H.lg P;have G:=G.lg P;have I:=I.lg P λ _ _ h=>h;have ft:=ft.lg P λ _ _ h=>h;have K:=K.lg P;have fm:=fm.lg P;have fn:=fn.lg P;have q:WW ak.frz (some ⟨co,0,none⟩) 3 [false,true,false]:=VS (l:=[false,true,false]) (b4.imI λ _ _ h=>h);refine⟨PA.any,(Wz ua _ 3 uc 3 3 [false,true,false] [false,true,false] (B.lg Qr) (q.lg Qr) D1).go λ _=>?_⟩;rw[decide_eq_true (rfl:([false,true,false]:List Bool)=[false,true,false])];clear q
 conv=>whnf
 intro cp bq;refine Zl bq λ al bd b5=>?_;have Q:ak.frz.lg al.frz:=bd.lg.frz2;have c7:U.le al:=c6.trans bd;have f:=f.lg Q;have w:=w.lg Q;have B:=B.lg Q;have E:=E.lg Q;have fr:=fr.lg Q;have F:=F.lg Q;have H:=H.lg Q;have G:=G.lg Q;have I:=I.lg Q λ _ _ h=>h;have ft:=ft.lg Q λ _ _ h=>h;have K:=K.lg Q;have fm:=fm.lg Q;have fn:=fn.lg Q;have q:WW al.frz (some ⟨cp,0,none⟩) 3 [false,true,true]:=VS (l:=[false,true,true]) (b5.imI λ _ _ h=>h);refine⟨PA.any,(Wz va _ 3 vc 3 3 [false,true,true] [false,true,true] (E.lg Qr) (q.lg Qr) D1).go λ _=>?_⟩;rw[decide_eq_true (rfl:([false,true,true]:List Bool)=[false,true,true])];clear q
 conv=>whnf
 intro cq br;refine Zl br λ am be b6=>?_;have S:al.frz.lg am.frz:=be.lg.frz2;have c8:U.le am:=c7.trans be;have f:=f.lg S;have w:=w.lg S;have B:=B.lg S;have E:=E.lg S;have fr:=fr.lg S;have F:=F.lg S;have H:=H.lg S;have G:=G.lg S;have I:=I.lg S λ _ _ h=>h;have ft:=ft.lg S λ _ _ h=>h;have K:=K.lg S;have fm:=fm.lg S;have fn:=fn.lg S;have q:Z6 am.frz (some ⟨cq,0,none⟩) 3 [2,0,0]:=XM (l:=[2,0,0]) (b6.imI λ _ _ h=>h);refine⟨Tb.any,(DF ra _ 3 rc 3 3 [2,0,0] [2,0,0] (fr.lg Qr) (q.lg Qr) D1).go λ _=>?_⟩;rw[decide_eq_true (rfl:([2,0,0]:List Int)=[2,0,0])];clear q
 conv=>whnf
 intro cr bs;refine Zl bs λ an bf b7=>?_;have T:am.frz.lg an.frz:=bf.lg.frz2;have c9:U.le an:=c8.trans bf;have f:=f.lg T;have w:=w.lg T;have B:=B.lg T;have E:=E.lg T;have fr:=fr.lg T;have F:=F.lg T;have H:=H.lg T;have G:=G.lg T;have I:=I.lg T λ _ _ h=>h;have ft:=ft.lg T λ _ _ h=>h;have K:=K.lg T;have fm:=fm.lg T;have fn:=fn.lg T;have q:Z6 an.frz (some ⟨cr,0,none⟩) 3 [0,1,0]:=XM (l:=[0,1,0]) (b7.imI λ _ _ h=>h);refine⟨Tb.any,(DF ca _ 3 cc 3 3 [0,1,0] [0,1,0] (F.lg Qr) (q.lg Qr) D1).go λ _=>?_⟩;rw[decide_eq_true (rfl:([0,1,0]:List Int)=[0,1,0])];clear q
 conv=>whnf
 intro ct bt;refine Zl bt λ ao bg b8=>?_;have V:an.frz.lg ao.frz:=bg.lg.frz2;have da:U.le ao:=c9.trans bg;have f:=f.lg V;have w:=w.lg V;have B:=B.lg V;have E:=E.lg V;have fr:=fr.lg V;have F:=F.lg V;have H:=H.lg V;have G:=G.lg V;have I:=I.lg V λ _ _ h=>h;have ft:=ft.lg V λ _ _ h=>h;have K:=K.lg V;have fm:=fm.lg V;have fn:=fn.lg V;have q:Z6 ao.frz (some ⟨ct,0,none⟩) 3 [1,0,2]:=XM (l:=[1,0,2]) (b8.imI λ _ _ h=>h);refine⟨Gf.any,(P0 la _ 3 lc 3 3 [1,0,2] [1,0,2] (H.lg Qr) (q.lg Qr) D1).go λ _=>?_⟩;rw[decide_eq_true (rfl:([1,0,2]:List Int)=[1,0,2])];clear q
 conv=>whnf
 intro cu bu;refine Zl bu λ ap bh b9=>?_;have W:ao.frz.lg ap.frz:=bh.lg.frz2;have db:U.le ap:=da.trans bh;have f:=f.lg W;have w:=w.lg W;have B:=B.lg W;have E:=E.lg W;have fr:=fr.lg W;have F:=F.lg W;have H:=H.lg W;have G:=G.lg W;have I:=I.lg W λ _ _ h=>h;have ft:=ft.lg W λ _ _ h=>h;have K:=K.lg W;have fm:=fm.lg W;have fn:=fn.lg W;have q:Z6 ap.frz (some ⟨cu,0,none⟩) 3 [0,1,2]:=XM (l:=[0,1,2]) (b9.imI λ _ _ h=>h);refine⟨Gf.any,(P0 ka _ 3 kc 3 3 [0,1,2] [0,1,2] (G.lg Qr) (q.lg Qr) D1).go λ _=>?_⟩;rw[decide_eq_true (rfl:([0,1,2]:List Int)=[0,1,2])];clear q
 conv=>whnf
 intro cv bv;refine Zl bv λ aq bi ce=>?_;have X:ap.frz.lg aq.frz:=bi.lg.frz2;have dc:U.le aq:=db.trans bi;have f:=f.lg X;have w:=w.lg X;have B:=B.lg X;have E:=E.lg X;have fr:=fr.lg X;have F:=F.lg X;have H:=H.lg X;have G:=G.lg X;have I:=I.lg X λ _ _ h=>h;have ft:=ft.lg X λ _ _ h=>h;have K:=K.lg X;have fm:=fm.lg X;have fn:=fn.lg X;have q:Q7 aq.frz (some ⟨cv,0,none⟩) 1 2 [(0,1)] (λ x vs=>vs=encII x):=ID (l:=[(0,1)]) (ce.imI λ _ _ h=>h);refine⟨ON.any,(DD sa _ 1 sc 1 1 [(0,1)] [(0,1)] (I.lg Qr λ _ _ h=>h) (q.lg Qr λ _ _ h=>h) D1).go λ _=>?_⟩;rw[decide_eq_true (rfl:([(0,1)]:List (Int×Int))=[(0,1)])];clear q
 conv=>whnf
 intro cw bw;refine Zl bw λ au bj cf=>?_;have Y:aq.frz.lg au.frz:=bj.lg.frz2;have dd:U.le au:=dc.trans bj;have f:=f.lg Y;have w:=w.lg Y;have B:=B.lg Y;have E:=E.lg Y;have fr:=fr.lg Y;have F:=F.lg Y;have H:=H.lg Y;have G:=G.lg Y;have I:=I.lg Y λ _ _ h=>h;have ft:=ft.lg Y λ _ _ h=>h;have K:=K.lg Y;have fm:=fm.lg Y;have fn:=fn.lg Y;have q:Q7 au.frz (some ⟨cw,0,none⟩) 2 2 [(1,0),(2,0)] (λ x vs=>vs=encII x):=ID (l:=[(1,0),(2,0)]) (cf.imI λ _ _ h=>h);refine⟨ON.any,(DD ta _ 2 tc 2 2 [(1,0),(2,0)] [(1,0),(2,0)] (ft.lg Qr λ _ _ h=>h) (q.lg Qr λ _ _ h=>h) D1).go λ _=>?_⟩;rw[decide_eq_true (rfl:([(1,0),(2,0)]:List (Int×Int))=[(1,0),(2,0)])];clear q
 conv=>whnf
 intro cx bx;refine Zl bx λ av bk cg=>?_;have Z:au.frz.lg av.frz:=bk.lg.frz2;have de:U.le av:=dd.trans bk;have f:=f.lg Z;have w:=w.lg Z;have B:=B.lg Z;have E:=E.lg Z;have fr:=fr.lg Z;have F:=F.lg Z;have H:=H.lg Z;have G:=G.lg Z;have I:=I.lg Z λ _ _ h=>h;have ft:=ft.lg Z λ _ _ h=>h;have K:=K.lg Z;have fm:=fm.lg Z;have fn:=fn.lg Z;have q:Z6 av.frz (some ⟨cx,0,none⟩) 1 [0]:=XM (l:=[0]) (cg.imI λ _ _ h=>h);refine⟨Gf.any,(P0 wa _ 1 wc 1 1 [0] [0] (K.lg Qr) (q.lg Qr) D1).go λ _=>?_⟩;rw[decide_eq_true (rfl:([0]:List Int)=[0])];clear q
 conv=>whnf
 intro cy bz;refine Zl bz λ aw bl ch=>?_;have aa:av.frz.lg aw.frz:=bl.lg.frz2;have df:U.le aw:=de.trans bl;have f:=f.lg aa;have w:=w.lg aa;have B:=B.lg aa;have E:=E.lg aa;have fr:=fr.lg aa;have F:=F.lg aa;have H:=H.lg aa;have G:=G.lg aa;have I:=I.lg aa λ _ _ h=>h;have ft:=ft.lg aa λ _ _ h=>h;have K:=K.lg aa;have fm:=fm.lg aa;have fn:=fn.lg aa;have q:Z6 aw.frz (some ⟨cy,0,none⟩) 1 [1]:=XM (l:=[1]) (ch.imI λ _ _ h=>h);refine⟨Gf.any,(P0 ma _ 1 mc 1 1 [1] [1] (fm.lg Qr) (q.lg Qr) D1).go λ _=>?_⟩;rw[decide_eq_true (rfl:([1]:List Int)=[1])];clear q
 conv=>whnf
 intro c0 b0;refine Zl b0 λ a5 bm cj=>?_;have ab:aw.frz.lg a5.frz:=bm.lg.frz2;have dg:U.le a5:=df.trans bm;have f:=f.lg ab;have w:=w.lg ab;have B:=B.lg ab;have E:=E.lg ab;have fr:=fr.lg ab;have F:=F.lg ab;have H:=H.lg ab;have G:=G.lg ab;have I:=I.lg ab λ _ _ h=>h;have ft:=ft.lg ab λ _ _ h=>h;have K:=K.lg ab;have fm:=fm.lg ab;have fn:=fn.lg ab;have q:Z6 a5.frz (some ⟨c0,0,none⟩) 2 [0,1]:=XM (l:=[0,1]) (cj.imI λ _ _ h=>h);refine⟨Gf.any,(P0 na _ 2 nc 2 2 [0,1] [0,1] (fn.lg Qr) (q.lg Qr) D1).go λ _=>?_⟩;rw[decide_eq_true (rfl:([0,1]:List Int)=[0,1])];clear q
 repeat refine⟨rfl,?_⟩
 conv=>whnf
 exact dg.lg
def Zhy(h:BH)(b:Bk)(hb:Zr U.frz h b)(T:JU U)(hf:b.flaw Zg=0)(r:Nat)(M:r<h.rl):Qb S 14 #[h.v,.int .i64 r] (λ v U'=>v=.tuple #[.int .i64 (b.fatR r),.bool true]/\U'=U) U:=by
 refine Qb.pure' (Qb.of (args:=[_,_]) xZ Qf S1 ?_);have I:=hb.rs.1
 repeat refine⟨rfl,?_⟩
 conv=>whnf
 intro B N f E;have E:Zi N B #[.slice h.ra h.rl h.rc,.slice h.ca h.cl h.cc]:=E;refine⟨_,⟨rfl,E.rd⟩,?_⟩;refine⟨T7.any,(DV h b (hb.lg f.lg.frz2) (T.lg f.lg)).mono ?_⟩;rintro _ W⟨⟨_,_,rfl,⟨ra,rc,rfl,F⟩,⟨ca,cc,rfl,X⟩⟩,w⟩-;rw[hf]at F ⊢;rw[if_pos rfl]at F;rw[if_pos rfl];have hl:b.fatesR.length=h.rl:=by simp[Bk.fatesR,I]
 rw[hl]at F ⊢;obtain⟨G,V,L,H,P,K⟩:=F.at M;obtain rfl:b.fatR r=V:=Option.some.inj ((show b.fatesR[r]?=some (b.fatR r) by simp[Bk.fatesR,show r<b.rs.length by omega]).symm.trans L)
 repeat refine⟨rfl,?_⟩
 refine⟨_,(E.lg w.lg).sees3 (o:=0) rfl,?_⟩
 repeat refine⟨rfl,?_⟩
 conv=>whnf
 apply Qg<;>intro Q
 .exact absurd Q S1
 refine⟨G,r,⟨H,rfl,M⟩,_,K.lg Qr,?_⟩
 repeat refine⟨rfl,?_⟩
 conv=>whnf
 exact(f.trans w).lg
