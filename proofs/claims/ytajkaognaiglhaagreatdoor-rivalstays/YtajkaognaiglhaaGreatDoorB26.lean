/- Lemmas. No conditions. -/
import Derived.Test.YtajkaognaiglhaaGreatDoorB21
import Derived.Test.YtajkaognaiglhaaGreatDoorB25
import Derived.Test.YtajkaognaiglhaaGreatDoorB04
import Derived.Test.YtajkaognaiglhaaGreatDoorB05
set_option linter.all false
set_option maxRecDepth 100000
set_option maxHeartbeats 2000000
open List
open Go.Proofs.Tryz (prog)
namespace Go.TM
open Go.Proofs
variable{T α:Type}{P:Program}{U:Qa T}{enc:α->List Value}{n:Nat}{a:Option Addr}{l:List α}{U':Qa T}
section
variable{S:Sys P T}
def I9(I:∀x,(enc x).length=n)(h:Zd U a l.length n l λ x vs=>vs=enc x)(w:0<n):Src U a (l.flatMap enc):=by
 cases a with
 |none=>
  cases l with
  |nil=>exact .inl ⟨rfl,rfl⟩
  |cons x l=>
   obtain⟨z,vs,e,_⟩:=h.2 0 x rfl;cases e
 |some z=>
  refine .inr ⟨z,rfl,λ j v K=>?_⟩;have H:=(List.getElem?_eq_some_iff.1 K).1;rw[Q6 I]at H;have G:j / n<l.length:=Nat.div_lt_of_lt_mul (by rw[Nat.mul_comm];exact H);have M:j % n<n:=Nat.mod_lt _ w;obtain⟨L,vs,e,B,rfl,P,N⟩:=h.2 (j / n) _ (getElem?_eq_getElem G);cases e;have f:j / n*n+j % n=j:=by rw[Nat.mul_comm];exact Nat.div_add_mod j n
  have E:=P2 I (getElem?_eq_getElem G) M;rw[f,K]at E;have F:=N (j % n) v E.symm;obtain⟨bb,Q,S⟩:=z;cases B;rw[Qu,Qu,Nat.add_assoc,f]at F;rw[Qu];exact F
end
def Kt(f:Fm)(x:Operand)(v:Value)(h:Zc f x=v):((#[]++Array.map (Zc f) #[x])++#[]:Array Value)=#[v]:=by simp[h]
def Kj(fb bb:Nat)(o:Option (List (Int×Int)))(M:List Q2):Prop:=∃a l c A,Jx 62 2 (.slice a l c) ((o.getD []).flatMap encII) A/\(∀x,o=some x->l=x.length)/\M=.cl fb [.bool o.isSome] 4::.cl bb [.slice a l c] 26::A
def WO(fb bb:Nat)(L:Nat->Option (List (Int×Int)))(n:Nat)(R:Nat->Bool):TM.Spec:=λ M=>∃o,W9 L n R o/\Kj fb bb o M
structure HZ(U:Qa T)(h:BH)(b:Bk)(r:Nat)(w:Int)(i:Nat)(bcan bfst bbk brt bwt:Nat):Prop where
 can:∃a c,Zo U bcan #[.slice a b.cans.length c]/\Zd U.frz a b.cans.length 2 b.cans (λ x vs=>vs=encII x)/\b.cans.length<=c
 fst:Zo U bfst #[.int .i64 i]
 bk:Zo U bbk #[.slice h.ra h.rl h.rc,.slice h.ca h.cl h.cc]
 bv:Zu U.frz h b
 rt:Zo U brt #[.int .i64 r]
 wt:Zo U bwt #[.int .i64 w]
def HZ.imI{h:BH}{b:Bk}{r i:Nat}{w:Int}{bcan bfst bbk brt bwt:Nat}(k:HZ U h b r w i bcan bfst bbk brt bwt)(e:∀x o,U.I x=some o->U'.I x=some o)(f:U'.tok=U.tok):HZ U' h b r w i bcan bfst bbk brt bwt:=
 ⟨let ⟨a,c,h1,h2,h3⟩:=k.can;⟨a,c,h1.imI e,h2.lg ⟨e,⟨[],rfl⟩,f⟩ (λ _ _ h=>h),h3⟩,k.fst.imI e,k.bk.imI e,k.bv.lg ⟨e,⟨[],rfl⟩,f⟩,k.rt.imI e,k.wt.imI e⟩
variable{U₀:Qa Tk}{bcan bbk brt bwt lm fb bb g:Nat}{D:Spec}{ci:Int×Int}
section
attribute [local irreducible] Qb Zr W5
def Rk(h:BH)(b:Bk)(bt:b.Ok)(ce:b.cans.Nodup)(r:Nat)(W:r<b.rs.length)(w:Int)(i:Nat){bfst:Nat}(a5:b.cans[i]?=some ci)(he:HZ U₀ h b r w i bcan bfst bbk brt bwt)
  (L:Nat->Option (List (Int×Int))) (n:Nat) (a3:∀s x,L s=some x->x.length<=1000)
  (m:Nat) (hm:m<=5) (mt:Option ZL) (cq:U₀.tok=⟨0,.wrk g D,mt⟩)
  (aq:∀k q,(TM.parts (b.cans.drop (i+1)) m)[k]?=some q->(∀q'∈(TM.parts (b.cans.drop (i+1)) m).take k,b.good r w (ci::q')=false)->b.good r w (ci::q)=true->∃s lo,s<n/\mt=some (.lok ⟨lm,111,WO fb bb L n⟩ s .idle lo)/\L s=some (ci::q)) :
  GJ Zs 63 #[] #[.pb bcan,.pb bfst,.pb bbk,.pb brt,.pb bwt,.pb lm,.pb fb,.pb bb] encII 2 (TM.parts (b.cans.drop (i+1)) m)
   (λ k U'=>U'.tok=⟨0,.wrk g D,mt⟩/\∀q∈(TM.parts (b.cans.drop (i+1)) m).take k,b.good r w (ci::q)=false)
   (λ U'=>∃s lo,U'.tok=⟨0,.wrk g D,some (.lok ⟨lm,111,WO fb bb L n⟩ s .fin lo)⟩) U₀:=by
 intro k q qa qc U X Mc hq h0 a9 av hM⟨aw,bs⟩;have aw:U.tok=⟨0,.wrk g D,mt⟩:=aw;have he:=HZ.imI (U':=U) he h0.imm h0.tok;obtain⟨cf,cr⟩:=HG.1 (mem_of_getElem? hq)
 have a1:(ci::q).Sublist b.cans:=by
  have h1:b.cans.drop i=ci::b.cans.drop (i+1):=Hk a5;have h2:(ci::q).Sublist (b.cans.drop i):=by rw[h1];exact cf.cons_cons ci
  exact h2.trans (drop_sublist i b.cans)
 have bo:∀s∈ci::q,b.Fr s:=λ s hs=>Bk.cans_fr (a1.subset hs);have a0:(b.stys (ci::q)).Ok1:=bt.ok1.stys bo (ce.sublist a1);have br:(ci::q).length<=6:=S3
 have bq:i<b.cans.length:=(List.getElem?_eq_some_iff.1 a5).1;refine Qb.post (R:=λ v U'=>(v=.bool false/\b.good r w (ci::q)=false/\U.lg U')\/(v=.bool true/\(∃s lo,U'.tok=⟨0,.wrk g D,some (.lok ⟨lm,111,WO fb bb L n⟩ s .fin lo)⟩)/\∀x o,U.I x=some o->U'.I x=some o)) ?_ λ v U' hv=>?_
 rotate_left
 .rcases hv with⟨rfl,hg,au⟩|⟨rfl,ht,hI⟩
  .obtain⟨A,hA⟩:=au.own;refine⟨{ U' with M:=U.M },Z2 (by rw[hA];exact sublist_append_right ..),.inl ⟨rfl,⟨au.imm,⟨[],rfl⟩,au.tok⟩,Mc,hM,au.tok.trans aw,λ q' T=>?_⟩⟩;rw[Wm hq,mem_append]at T;rcases T with T|T
   .exact bs q' T
   .rw[mem_singleton.1 T];exact hg
  .exact⟨U',.refl _,.inr ⟨rfl,[],U'.M,rfl,ht,hI⟩⟩
 refine Qb.ofD (κ:=Nat) (p:=(0,.nl)) (args:=[_,_,_,_,_,_,_,_,_]) DD Qd S1 ?_;obtain⟨ca,cc,b5,b6,-⟩:=he.can;obtain⟨ad,x,vs,N,rfl,cp,rfl,-,cg⟩:=b6.at bq;rw[a5]at N;cases N;refine⟨_,b5.sees3 (o:=0) rfl,_,he.fst.sees3 (o:=0) rfl,ad,i,⟨rfl,rfl,bq⟩,_,⟨rfl,cg.lg Qy⟩,?_⟩
 conv=>whnf
 intro E bn;refine⟨U.put E (.cells (encII ci).toArray 62),.refl _,?_⟩;have B:=Z6 (U:=U) E (.cells (encII ci).toArray 62);have a4:(U.put E (.cells (encII ci).toArray 62)).M=.obj E (.cells (encII ci).toArray 62 (0,0))::U.M:=rfl;generalize U.put E (.cells (encII ci).toArray 62)=Up at B a4 ⊢
 conv=>whnf
 refine Wv (v:=.slice (some ⟨E,0,none⟩) 1 1) (cs:=encII ci) (new:=q.flatMap encII) (M₀:=U.M) VA rfl rfl (.inr ⟨E,(encII ci).toArray,1,1,rfl,rfl,Nat.le_refl _,rfl,a4,λ k v hv=>by simpa using hv⟩) (I9 (enc:=encII) (n:=2) (λ _=>rfl) (a9.lg (Qy.trans B) λ _ _ h=>h) D1) (Q6 (f:=encII) (n:=2) (λ _=>rfl) q) (λ v hv=>by
  obtain⟨y,-,hy⟩:=mem_flatMap.1 hv;simp[encII]at hy;rcases hy with rfl|rfl <;> rfl) (by rw[Q6 (f:=encII) (n:=2) (λ _=>rfl)];simp[encII];omega) λ v' M' ag _=>?_
 have ag:Acc 62 2 v' ((ci::q).flatMap encII) M' U.M:=by simpa using ag
 obtain⟨A,bf,hA⟩:=ag.split;obtain⟨P,ll,lc,rfl,a7⟩:=hA.src;have a7:(ci::q).length=ll:=by have e:=(Q6 (f:=encII) (n:=2) (λ _=>rfl) (ci::q)).symm.trans a7;omega
 subst a7;have K:U.lg ({ Up with M:=M' }:Qa Tk):=⟨B.imm,⟨A,bf⟩,B.tok⟩
 have a6:Zd ({ Up with M:=M' }:Qa Tk) P (ci::q).length 2 (ci::q) λ x vs=>vs=encII x:=by
  obtain⟨a2,l2,c2,e2,h2,h3⟩:=Acc.src (U:={ Up with M:=M' }) ag;obtain⟨rfl,-,-⟩:=Value.slice.inj e2;refine HH (enc:=encII) (n:=2) (λ _=>rfl) h3 (λ ad e=>?_) D1;subst e;rcases ag with⟨e1,_,_⟩|⟨b',c',bz,bc,e1,_⟩
  .cases e1
  .cases e1;rfl
 generalize bi:({ Up with M:=M' }:Qa Tk)=U1 at K a6 ⊢;have bg:U1.M=A++U.M:=by rw[<- bi];exact bf
 clear bi bn B a4;have ah:=he.imI K.imm K.tok;refine⟨_,⟨rfl,ah.bk.rd⟩,?_⟩;refine⟨DE.any,(NL (S:=Zs) (U:=U1) h b ah.bv bt (ci::q) P lc a6 br bo).mono ?_⟩;rintro _ U2⟨⟨G,rfl,ap⟩,b4⟩-
 conv=>whnf
 intro b1 bm;refine⟨_,.refl _,rfl,Zy (vs:=[.slice G.ra G.rl G.rc,.slice G.ca G.cl G.cc]) bm rfl (by simp[Value.single]) λ U3 bj H=>?_⟩;have H:Zo U3 b1 #[.slice G.ra G.rl G.rc,.slice G.ca G.cl G.cc]:=H;have ai:=b4.trans bj;have ap:=ap.lg bj.lg.frz2;have bh:=ai.own.trans bg;have bl:=ah.imI ai.imm ai.tok;have ak:=K.trans ai.lg;refine⟨_,⟨rfl,H.rd⟩,?_⟩;refine⟨.int .i64 (if W4 (b.stys (ci::q)).A then 8 else 0),λ U' aj _=>?_,?_⟩
 .refine⟨Yt.any,(S4 G _ ((ap.lg aj.lg.frz2).lg Qy) a0.low).mono ?_⟩;rintro _ U''⟨rfl,hU⟩-;exact⟨rfl,_,.refl _,hU▸.refl _⟩
 cases B:W4 (b.stys (ci::q)).A with
 |true=>
  have hg:b.good r w (ci::q)=false:=by unfold Bk.good;rw[B];rfl
  refine⟨rfl,?_⟩
  conv=>whnf
  intro U4 af _
  repeat refine⟨rfl,?_⟩
  conv=>whnf
  exact .inl ⟨rfl,hg,ak.trans af.lg⟩
 |false=>
 have bu:=a0.ok B;have bp:b.good r w (ci::q)=((b.stys (ci::q)).fatR r==w):=by unfold Bk.good;rw[B];rfl
 refine⟨rfl,_,⟨rfl,H.rd⟩,?_⟩;refine⟨_,bl.rt.sees3 (o:=0) rfl,.int .i64 ((b.stys (ci::q)).fatR r),λ U' aj _=>?_,?_⟩
 .refine⟨Gm.any,(Vc G _ (ap.lg aj.lg.frz2) bu r (by rw[Bk.stys_rs];exact W)).mono ?_⟩;rintro _ U''⟨rfl,hU⟩-;exact⟨rfl,_,.refl _,hU▸.refl _⟩
 refine⟨_,bl.wt.sees3 (o:=0) rfl,?_⟩
 conv=>whnf
 intro U4 af _;have be:=af.own.trans bh;have F:=ak.trans af.lg;have b7:Zd U4 P (ci::q).length 2 (ci::q) λ x vs=>vs=encII x:=a6.lg (ai.trans af).lg λ _ _ h=>h
 repeat refine⟨rfl,?_⟩
 conv=>whnf
 apply Qe<;>intro hc
 .have hg:b.good r w (ci::q)=false:=by
   rw[bp];have:(b.stys (ci::q)).fatR r≠w:=by simpa using hc
   simpa using this
  repeat refine⟨rfl,?_⟩
  conv=>whnf
  exact .inl ⟨rfl,hg,F⟩
 have hg:b.good r w (ci::q)=true:=by
  rw[bp];have:(b.stys (ci::q)).fatR r=w:=by simpa using hc
  simpa using this
 obtain⟨s,lo,ch,rfl,b2⟩:=aq k q hq bs hg;have cj:U4.tok=⟨0,.wrk g D,some (.lok ⟨lm,111,WO fb bb L n⟩ s .idle lo)⟩:=F.tok.trans aw
 have a8:Qb Zs 65 #[.pb lm] (λ v U'=>v=.tuple #[]/\∃Q M lo',Q s=false/\WO fb bb L n Q M/\U'.M=M++U4.M/\(∀x o,U4.I x=some o->U'.I x=some o)/\U'.tok=⟨0,.wrk g D,some (.lok ⟨lm,111,WO fb bb L n⟩ s (.own Q) lo')⟩) U4:=by
  refine Qb.post (R:=λ v U'=>v=.tuple #[]/\∃Q M lo',Q s=false/\WO fb bb L n Q M/\U'.M=U4.M++M/\(∀x o,U4.I x=some o->U'.I x=some o)/\U'.tok=⟨0,.wrk g D,some (.lok ⟨lm,111,WO fb bb L n⟩ s (.own Q) lo')⟩) (C3 cj λ Q M lo' ax av=>⟨rfl,Q,M,lo',ax,av,rfl,λ _ _ h=>h,rfl⟩) λ v U'⟨hv,Q,M,lo',ax,av,ab,hI,ht⟩=>?_;exact⟨{ U' with M:=M++U4.M },Hf (by rw[ab];exact perm_append_comm),hv,Q,M,lo',ax,av,rfl,hI,ht⟩
 refine⟨BN,a8.mono ?_⟩;rintro _ Y⟨rfl,Q,MS,lo',ax,b3,z,ay,bx⟩-;obtain⟨o,bd,ya,yl,yc,V,ao,ba,rfl⟩:=b3;have z:Y.M=.cl fb [.bool o.isSome] 4::.cl bb [.slice ya yl yc] 26::(V++(A++U.M)):=by rw[z,be];simp
 have fin:∀(M₁ M₂:List Q2)(U6:Qa Tk),U6.tok=Y.tok->(∀x o,Y.I x=some o->U6.I x=some o)->U6.M=M₁++M₂->WO fb bb L n (Q9 Q s true) M₁ ->
   X6 Zs 66 #[.pb lm] (λ U'=>(Value.bool true=.bool false/\b.good r w (ci::q)=false/\U.lg U')\/(Value.bool true=.bool true/\(∃s lo,U'.tok=⟨0,.wrk g D,some (.lok ⟨lm,111,WO fb bb L n⟩ s .fin lo)⟩)/\∀x o,U.I x=some o->U'.I x=some o)) U6:=by
  intro M₁ M₂ U6 ht hI ab hD;exact RK (ht.trans bx) ab hD (λ b0=>.inr ⟨rfl,⟨s,b0,rfl⟩,λ x o N=>hI x o (ay x o (F.imm x o N))⟩)
 have al:W9 L n (Q9 Q s true) (some (GQ (ci::q) o)):=bd.put ch b2;have bw:(Value.slice P (ci::q).length lc).single=true:=rfl
 have co:∀U':Qa Tk,U'.M=Y.M->U'.sees ((Addr.mk fb 0 none)) (.bool o.isSome):=λ U' ab=>by
  have:=J3 (U:=U') (b:=fb) (e:=4) (vs:=[.bool o.isSome]) (by rw[ab,z];simp) 0 _ rfl;exact this
 repeat refine⟨rfl,?_⟩
 refine⟨_,co Y rfl,?_⟩;cases o with
 |none=>
  refine⟨rfl,Ka (b:=bb) (e:=26) (c:=[.slice ya yl yc].toArray) (L₁:=[.cl fb [.bool false] 4]) (L₂:=A++(V++U.M)) (vs:=[.slice P (ci::q).length lc]) (by
   rw[z];refine Perm.cons _ (Perm.cons _ ?_);exact perm_append_comm_assoc _ _ _) rfl (by simp[Value.single]) λ U6 Z am ac=>?_⟩
  refine⟨rfl,Wk (b:=fb) (e:=4) (c:=#[.bool false]) (vs:=[.bool true]) (M₀:=.cl bb [.slice P (ci::q).length lc] 26::(A++(V++U.M))) [] ac rfl (by simp[Value.single]) λ U7 aa an ae=>?_⟩
  have hd:=fin (.cl fb [.bool true] 4::.cl bb [.slice P (ci::q).length lc] 26::A) (V++U.M) U7 (an.trans am) (λ x o N=>by rw[aa,Z];exact N) (by rw[ae];simp) (by
   refine⟨_,al,?_⟩;show Kj fb bb (some (ci::q)) _;exact⟨P,_,lc,A,hA,λ x N=>by cases N;rfl,rfl⟩)
  refine⟨rfl,KZ,?_⟩;refine cast (congrArg (λ a=>X6 Zs 66 a _ _) (Kt _ (.tmp 6) (.pb lm) rfl).symm) ?_;exact hd.mono λ U' hq=>by(conv=>whnf);exact hq
 |some y=>
  have ba:=ba y rfl;subst ba;have ao:Jx 62 2 (.slice ya y.length yc) (y.flatMap encII) V:=ao
  have cm:Y.sees (Addr.mk bb 0 none) (.slice ya y.length yc):=by
   have:=J3 (U:=Y) (b:=bb) (e:=26) (vs:=[.slice ya y.length yc]) (by rw[z];simp) 0 _ rfl;exact this
  have b9:Zd Y ya y.length 2 y λ x vs=>vs=encII x:=by
   have az:=ao [];obtain⟨a2,l2,c2,e2,h2,h3⟩:=Acc.src (U:={ Y with M:=V++[] }) az;obtain⟨rfl,-,-⟩:=Value.slice.inj e2
   refine(HH (enc:=encII) (n:=2) (λ _=>rfl) h3 (λ ad e=>?_) D1).mem (λ _ _ h=>h) (λ r W=>by
    have W:r∈V:=by simpa using W
    rw[z];simp[W])
   subst e;rcases az with⟨e1,_,_⟩|⟨b',c',bz,bc,e1,_⟩
   .cases e1
   .cases e1;rfl
  have b8:Zd Y P (ci::q).length 2 (ci::q) λ x vs=>vs=encII x:=b7.mem ay λ r W=>by
   rw[be]at W;rw[z];simp at W ⊢;rcases W with W|W <;> simp[W]
  have ck:y.length<=1000:=by
   obtain⟨i',-,-,h3⟩:=bd.2 y rfl;exact a3 i' y h3
  repeat refine⟨rfl,?_⟩
  refine⟨_,cm,DF.any,(Rx (ci::q) y P ya lc yc b8 b9 O1 ck).go λ _=>?_⟩
  repeat refine⟨rfl,?_⟩
  conv=>whnf
  apply Qe<;>intro hc
  .have hlt:Wi (ci::q) y<0:=by simpa using hc
   refine⟨rfl,Ka (b:=bb) (e:=26) (c:=[.slice ya y.length yc].toArray) (L₁:=[.cl fb [.bool true] 4]) (L₂:=A++(V++U.M)) (vs:=[.slice P (ci::q).length lc]) (by
    rw[z];refine Perm.cons _ (Perm.cons _ ?_);exact perm_append_comm_assoc _ _ _) rfl (by simp[Value.single]) λ U6 Z am ac=>?_⟩
   refine⟨rfl,Wk (b:=fb) (e:=4) (c:=#[.bool true]) (vs:=[.bool true]) (M₀:=.cl bb [.slice P (ci::q).length lc] 26::(A++(V++U.M))) [] ac rfl (by simp[Value.single]) λ U7 aa an ae=>?_⟩
   have hd:=fin (.cl fb [.bool true] 4::.cl bb [.slice P (ci::q).length lc] 26::A) (V++U.M) U7 (an.trans am) (λ x o N=>by rw[aa,Z];exact N) (by rw[ae];simp) (by
    refine⟨_,al,?_⟩;show Kj fb bb (some (if Wi (ci::q) y<0 then ci::q else y)) _;rw[if_pos hlt];exact⟨P,_,lc,A,hA,λ x N=>by cases N;rfl,rfl⟩)
   refine⟨rfl,KZ,?_⟩;refine cast (congrArg (λ a=>X6 Zs 66 a _ _) (Kt _ (.tmp 6) (.pb lm) rfl).symm) ?_;exact hd.mono λ U' hq=>by(conv=>whnf);exact hq
  .have hlt:¬Wi (ci::q) y<0:=by simpa using hc
   have hd:=fin (.cl fb [.bool true] 4::.cl bb [.slice ya y.length yc] 26::V) (A++U.M) Y rfl (λ _ _ h=>h) (by rw[z];simp) (by
    refine⟨_,al,?_⟩;show Kj fb bb (some (if Wi (ci::q) y<0 then ci::q else y)) _;rw[if_neg hlt];exact⟨ya,_,yc,V,ao,λ x N=>by cases N;rfl,rfl⟩)
   refine⟨rfl,KZ,?_⟩;refine cast (congrArg (λ a=>X6 Zs 66 a _ _) (Kt _ (.tmp 6) (.pb lm) rfl).symm) ?_;exact hd.mono λ U' hq=>by(conv=>whnf);exact hq
end
variable{j:FuncId}{cc:C}{rl:List RV}{args:List Value}{r:Zh T}
section
variable{S:Sys P T}
def Zg.code(k:Zg P j lm cc rl)(B:P.follows .mixedOrders=true)(E:args.length<=lm){n:Zh T}{x:Nat->Zh T}
  (h:JM S j none cc n x r (fm args) [] U):∃fd:Func,P.funcs[j]?=some fd/\fd.body=some (fd.body.getD .skip)/\fd.ntmps=lm/\Zt S j none (fd.body.getD .skip) (GH lm n x r) { tmps:=args.toArray++Array.replicate (fd.ntmps-args.toArray.size) undef,defers:=[] } U:=by
 obtain⟨fd,mu,dets,z,f,w,rfl,F,-⟩:=k.ok;refine⟨fd,z,f,rfl,?_⟩
 have e:FR fd.ntmps { tmps:=args.toArray++Array.replicate (fd.ntmps-args.toArray.size) undef,defers:=[] } (fm args) []:=by
  refine⟨rfl,S3,λ t=>?_⟩;simp only[fm,Array.getD_eq_getD_getElem?,getD_eq_getElem?_getD,Array.getElem?_append,size_toArray,getElem?_toArray];split
  .rfl
  .rename_i hlt;rw[getElem?_eq_none O1,Array.getElem?_replicate];split <;> rfl
 subst w;exact Hh B _ e h
end
def Zd.drop{a:Option Addr}{cap n:Nat}{α:Type}{l:List α}{R:α->List Value->Prop}(h:Zd U a l.length n l R)(I:l.length<=cap){j:Nat}(K:j<=l.length):Zd U (if cap=j then a else a.map (·.add (j*n))) (l.length-j) n (l.drop j) R:=by
 refine⟨S1,λ i x z=>?_⟩;rw[getElem?_drop]at z;have F:=(List.getElem?_eq_some_iff.1 z).1;obtain⟨f,vs,e,w,B,E,G⟩:=h.2 (j+i) x z;rw[if_neg O1];refine⟨f.add (j*n),vs,by rw[e];rfl,by obtain⟨H,o1,L⟩:=f;cases w;rw[Qu],B,E,?_⟩;rw[show(f.add (j*n)).add (i*n)=f.add ((j+i)*n) by rw[Mw f w,Nat.add_mul]];exact G
section
attribute [local irreducible] Qb Zr W5
variable(g bcan bm bbk brt bwt lm fb bb:Nat)(i:Int)(T:Array Value)(todo:List Go.Item)
def Hr:List Value:=[.pb g,.pb bcan,.pb bm,.pb bbk,.pb brt,.pb bwt,.pb lm,.pb fb,.pb bb]
def PJ:List Value:=.int .i64 i::Hr g bcan bm bbk brt bwt lm fb bb
def OF:Deferred:={ target:=.fn (.func 60) (Hr g bcan bm bbk brt bwt lm fb bb).toArray,args:=#[.int .i64 i] }
def PT:Frame:={ (default:Frame)with fn:=60,kind:=.deferred }
def GM:Deferred:={ target:=.fn (.func 61) #[],args:=#[]++#[.pb g] }
def Fz:JX Tryz.prog 118 false 1 (GE Tryz.prog (OF g bcan bm bbk brt bwt lm fb bb i))=some []:=K1
def FA:JY Tryz.prog 118 false 1 (GE Tryz.prog (OF g bcan bm bbk brt bwt lm fb bb i))=R PT { tmps:=(PJ g bcan bm bbk brt bwt lm fb bb i).toArray++Array.replicate (Tryz.f60.ntmps-(PJ g bcan bm bbk brt bwt lm fb bb i).toArray.size) undef,defers:=[] } [.code (Tryz.f60.body.getD .skip)] [P1]:=K1
def Fx:JX Tryz.prog 118 false 1 (Rf { fr PT ⟨T,[GM g]⟩ todo with mode:=.returning } [P1])=some []:=K1
def Fy:JY Tryz.prog 118 false 1 (Rf { fr PT ⟨T,[GM g]⟩ todo with mode:=.returning } [P1])=Yw g T todo:=K1
end
variable{mu:Option ZL}{Stop:QK Tk}{K:List Deferred->Qa Tk->Prop}
section
attribute [local irreducible] Qb Zr W5
def Cp(g:Nat)(D:TM.Spec)(T:Array Value)(todo:List Go.Item)(f:U₀.tok=⟨0,.wrk g D,mu⟩)(e:mu=none\/∃x s lo,mu=some (.lok x s .fin lo))(w:D U₀.M):J Zs Stop false (Rf { fr PT ⟨T,[GM g]⟩ todo with mode:=.returning } [P1]) U₀:=by
 refine J.calm0 (Fx g T todo) ?_;rw[Fy];refine J.calm (b:=g) (by rw[f];rfl) (R0 g T todo) Z9 ?_;show J _ Stop false (VK g T todo) U₀;exact .syn (QC.lay (Zp (SE.of_info (g:=VK g T todo) (TW g T todo))) f e w Z0 (HM (TW g T todo) rfl) (Bj g T todo))
structure Oo(b:Bk)(r:Nat)(w:Int)(m i:Nat)(mt:Option ZL)(lm fb bb:Nat)(L:Nat->Option (List (Int×Int)))(n:Nat):Prop where
 first:∀ci,b.cans[i]?=some ci->∀k q,(TM.parts (b.cans.drop (i+1)) m)[k]?=some q->(∀q'∈(TM.parts (b.cans.drop (i+1)) m).take k,b.good r w (ci::q')=false)->b.good r w (ci::q)=true->∃s lo,s<n/\mt=some (.lok ⟨lm,111,WO fb bb L n⟩ s .idle lo)/\L s=some (ci::q)
 none:∀ci,b.cans[i]?=some ci->(∀q∈TM.parts (b.cans.drop (i+1)) m,b.good r w (ci::q)=false)->mt=none
def Rn{U:Qa Tk}(h:BH)(b:Bk)(ai:b.Ok)(ag:b.cans.Nodup)(r:Nat)(hr:r<b.rs.length)(w:Int)(i:Nat){bm:Nat}(hi:i<b.cans.length)
  (he:∀(U':Qa Tk)bfst,(∀x o,U.I x=some o->U'.I x=some o)->U'.tok=U.tok->Zo U' bfst #[.int .i64 i]->HZ U' h b r w i bcan bfst bbk brt bwt) (ak:b.cans.length<=900)
  (L:Nat->Option (List (Int×Int))) (n:Nat) (H:∀s x,L s=some x->x.length<=1000)
  (m:Nat) (hm:m<=5) (ac:Zo U bm #[.int .i64 (m+1:Nat)]) (mt:Option ZL) (D:TM.Spec) (F:U.tok=⟨0,.wrk g D,mt⟩) (hw:Oo b r w m i mt lm fb bb L n) 
  (hK:∀U':Qa Tk,(∃mu,U'.tok=⟨0,.wrk g D,mu⟩/\(mu=none\/∃x s lo,mu=some (.lok x s .fin lo)))->K [GM g] U') :
  JM Zs 60 none Ds (λ _ ds U=>K ds U) (λ _ _ _ _=>False) (λ _ _ _=>False) (fm (PJ g bcan bm bbk brt bwt lm fb bb i)) [] U:=by
 obtain⟨ci,N⟩:∃ci,b.cans[i]?=some ci:=⟨_,getElem?_eq_getElem hi⟩
 conv=>whnf
 intro G U1 z e;have e:Zo U1 G #[.int .i64 i]:=e;have V:=he U1 G z.imm z.tok e;have Q:=ac.le z;obtain⟨ca,cc,ab,ad,T⟩:=V.can;have Z:Je ((i:Int)+1):=I1
 have aa:Je (((m+1:Nat):Int)-1):=I1
 have af:((m+1:Nat):Int)-1=(m:Int):=O1
 have B:(b.cans.drop (i+1)).length=b.cans.length-(i+1):=S1
 have P:=Zd.drop (cap:=cc) ad T (j:=i+1) O1;have aj:=Rk (U₀:=U1) h b ai ag r hr w i (bcan:=bcan) (bfst:=G) (bbk:=bbk) (brt:=brt) (bwt:=bwt) (lm:=lm) (fb:=fb) (bb:=bb) (g:=g) (D:=D) N V L n H m hm mt (z.tok.trans F) (hw.first ci N);have Y:∀f:Fm,f 1=.pb g->(#[]++Array.map (Zc f) #[Operand.tmp 1]:Array Value)=#[]++#[.pb g]:=λ f hf=>by simp[Zc,hf]
 refine⟨rfl,_,ab.sees3 (o:=0) rfl,_,e.sees3 (o:=0) rfl,Z,i+1,b.cans.length,⟨O1,rfl,O1,T⟩,_,Q.sees3 (o:=0) rfl,aa,?_⟩
 conv=>whnf
 intro U2 M _
 have W:=R6 (S:=Zs) (U:=U2) (b.cans.drop (i+1)) _ (cc-(i+1)) (by rw[B];exact P.lg M.lg.frz2 λ _ _ h=>h) O1 m O1 63 #[] _ DD.any (I:=λ k U'=>U'.tok=⟨0,.wrk g D,mt⟩/\∀q∈(TM.parts (b.cans.drop (i+1)) m).take k,b.good r w (ci::q)=false) (E:=λ U'=>∃s lo,U'.tok=⟨0,.wrk g D,some (.lok ⟨lm,111,WO fb bb L n⟩ s .fin lo)⟩)
  (λ k U1 U2 ae⟨h1,h2⟩=>⟨ae.tok.trans h1,h2⟩) (λ k p a cap U X Mc hp h0=>aj k p a cap U X Mc hp (M.lg.frz2.trans h0)) ⟨M.tok.trans (z.tok.trans F),S1⟩
 rw[B]at W;rw[af];refine⟨DC.any,W.mono ?_⟩;rintro v U3 (⟨rfl,-,ht,ah⟩|⟨rfl,⟨s,lo,ht⟩,-⟩) -
 .have hmt:=hw.none ci N λ q hq=>ah q (by rw[take_length];exact hq)
  repeat refine⟨rfl,?_⟩
  conv=>whnf
  exact cast (congrArg (λ a=>K [{ target:=.fn (.func 61) #[],args:=a }] U3) (Y _ rfl).symm) (hK U3 ⟨mt,ht,.inl hmt⟩)
 .repeat refine⟨rfl,?_⟩
  conv=>whnf
  exact cast (congrArg (λ a=>K [{ target:=.fn (.func 61) #[],args:=a }] U3) (Y _ rfl).symm) (hK U3 ⟨_,ht,.inr ⟨_,_,_,rfl⟩⟩)
def Rm{U:Qa Tk}(h:BH)(b:Bk)(P:b.Ok)(N:b.cans.Nodup)(r:Nat)(hr:r<b.rs.length)(w:Int)(i:Nat){bm:Nat}(hi:i<b.cans.length)
  (he:∀(U':Qa Tk)bfst,(∀x o,U.I x=some o->U'.I x=some o)->U'.tok=U.tok->Zo U' bfst #[.int .i64 i]->HZ U' h b r w i bcan bfst bbk brt bwt) (F:b.cans.length<=900)
  (L:Nat->Option (List (Int×Int))) (n:Nat) (e:∀s x,L s=some x->x.length<=1000)
  (m:Nat) (hm:m<=5) (E:Zo U bm #[.int .i64 (m+1:Nat)]) (V:Option ZL) (B:U.tok=⟨0,.wrk g λ _=>True,V⟩) (hw:Oo b r w m i V lm fb bb L n) (Stop:QK Tk) :
  J Zs Stop false (GE Tryz.prog (OF g bcan bm bbk brt bwt lm fb bb i)) U:=by
 refine J.calm0 (Fz ..) ?_;rw[FA]
 obtain⟨fd,M,aa,hN,f⟩:=Lm.code (S:=Zs) Qd (args:=PJ g bcan bm bbk brt bwt lm fb bb i) (by simp[PJ,Hr])
  (Rn (K:=λ ds U'=>ds=[GM g]/\∃mu,U'.tok=⟨0,.wrk g λ _=>True,mu⟩/\(mu=none\/∃x s lo,mu=some (.lok x s .fin lo))) h b P N r hr w i hi he F L n e m hm E V _ B hw λ U' h=>⟨rfl,h⟩)
 have:fd=Tryz.f60:=Option.some.inj (M.symm.trans Tryz.func60);subst this;refine J.body (fn:=60) (Q:=_) ⟨rfl,rfl,by simp[PT],S1⟩ f λ e' a' U' z=>?_;obtain⟨f',X,H,z⟩:=z;cases e' with
 |normal=>
  obtain⟨rfl,mu,Y,Z⟩:=z;refine⟨.inl rfl,λ todo=>?_⟩;obtain⟨T,W⟩:=a';have G:W=[GM g]:=H.ds;subst G;exact Cp g _ T todo Y Z trivial
 |exit i=>exact z.elim
 |ret=>exact z.elim
end
variable{c R':α->List Value->Prop}{b:Bk}{w:Int}{i:Nat}{L:Nat->Option (List (Int×Int))}{x:List (Int×Int)}
def Z8.mem{a:Option Addr}{len:Nat}{l:List Int}(h:Z8 U a len l)(f:∀x o,U.I x=some o->U'.I x=some o)(w:∀r∈U.M,r∈U'.M):Z8 U' a len l:=
 ⟨h.1,λ i x z=>let ⟨ad,e,s,hs⟩:=h.2 i x z;⟨ad,e,s,hs.mem f w⟩⟩
def Zd.mem2(h:Zd U a lm n l c)(f:∀x o,U.I x=some o->U'.I x=some o)(w:∀r∈U.M,r∈U'.M)(z:∀x vs,c x vs->R' x vs):Zd U' a lm n l R':=
 ⟨h.1,λ i x B=>let ⟨ad,vs,e,s,r,hl,hr⟩:=h.2 i x B;⟨ad,vs,e,s,z _ _ r,hl,hr.mem f w⟩⟩
def Wt.mem{a:Option Addr}{len:Nat}{E:List (List Int)}(h:Wt U a len E)(z:∀x o,U.I x=some o->U'.I x=some o)(B:∀r∈U.M,r∈U'.M):Wt U' a len E:=
 Zd.mem2 h z B λ _ _⟨a',w,f,e,F,G⟩=>⟨a',w,f,e,F.mem z B,G⟩
def Zu.mem{h:BH}{b:Bk}(k:Zu U h b)(f:∀x o,U.I x=some o->U'.I x=some o)(w:∀r∈U.M,r∈U'.M):Zu U' h b:=
 ⟨k.rs.mem2 f w λ _ _ h=>h,k.cs.mem2 f w λ _ _⟨ga,gl,gc,z,al,ac,e,B,E,F,G⟩=>⟨ga,gl,gc,z,al,ac,e,B.mem f w,E,F.mem f w,G⟩,k.rl,k.cl,k.rn,k.cn⟩
def Bk.crL(b:Bk)(r:Nat)(w:Int)(m i:Nat):Option (List (Int×Int)):=(b.cans[i]?).bind λ ci=>((TM.parts (b.cans.drop (i+1)) m).find? λ q=>b.good r w (ci::q)).map (ci::·)
structure Ko(b:Bk)(m:Nat):Prop where
 n:b.cans.Nodup
 pos:0<b.cans.length
 six:b.cans.length<=20
 m5:m<=5
def Bk.crL_len(f:i<=5)(s:Nat)(x:List (Int×Int))(h:b.crL lm w i s=some x):x.length<=1000:=by
 unfold Bk.crL at h;obtain⟨ci,-,h⟩:=Option.bind_eq_some_iff.1 h;obtain⟨q,e,rfl⟩:=Option.map_eq_some_iff.1 h;have:=(HG.1 (mem_of_find?_eq_some e)).2;simp;omega
def ZH(L:Nat->Option (List (Int×Int)))(i:Nat)(s:Nat):Bool:=decide (s<i)&&(L s).isSome
def Es(h:L i=none):ZH L (i+1)=ZH L i:=by
 funext s;unfold ZH;by_cases e:s=i
 .subst e;simp[h]
 .congr 1;simp only[decide_eq_decide];omega
def Et(h:L i=some x):ZH L i i=false/\ZH L (i+1)=Q9 (ZH L i) i true:=by
 refine⟨by simp[ZH],?_⟩;funext s;by_cases e:s=i
 .subst e;rw[Qf];simp[ZH,h]
 .rw[Qv _ _ e];unfold ZH;congr 1;simp only[decide_eq_decide];omega
def Eu(L:Nat->Option (List (Int×Int))):ZH L 0=λ _=>false:=by funext s;simp[ZH]
variable{p:α->Bool}{q:α}
section
attribute [local irreducible] Qb Zr W5
def X_(U:Qa T)(v:Value)(l:List (Int×Int)):Prop:=∃a c,v=.slice a l.length c/\Zd U a l.length 2 l (λ x vs=>vs=encII x)/\l.length<=c
abbrev Hb(lm fb bb:Nat)(L:Nat->Option (List (Int×Int)))(n:Nat):ZA:=⟨lm,111,WO fb bb L n⟩
abbrev XK:TM.Spec:=λ _=>True
def FO(h:∀q∈l,p q=false):l.find? p=none:=by
 rw[find?_eq_none];intro q e;rw[h q e];simp
def MV(e:l[lm]?=some q)(h:∀q'∈l.take lm,p q'=false)(w:p q=true):l.find? p=some q:=by
 rw[find?_eq_some_iff_getElem];obtain⟨e,f⟩:=List.getElem?_eq_some_iff.1 e;refine⟨w,lm,e,f,λ j z=>?_⟩;have:=h l[j] (mem_take_iff_getElem.2 ⟨j,O1,rfl⟩);simp[this]
def TP{U:Qa Tk}(ai:U.tok=⟨0,.out,none⟩)(h:BH)(b:Bk)(hb:Zu U.frz h b)(ba:b.Ok)(r:Nat)(hr:r<b.rs.length)(w:Int)(m:Nat)(hC:Ko b m) :
  Qb Zs 28 #[h.v,.int .i64 r,.int .i64 (m+1:Nat),.int .i64 w] (λ v U'=>(∃o,W9 (b.crL r w m) b.cans.length (ZH (b.crL r w m) b.cans.length) o/\∃v1,v=.tuple #[v1,.bool o.isSome]/\X_ U'.frz v1 (o.getD []))/\U.le U') U:=by
 have bv:=ba.nc
 have bf:Qb Zs 28 #[h.v,.int .i64 r,.int .i64 (m+1:Nat),.int .i64 w] (λ v U'=>∃o a l c A Z,W9 (b.crL r w m) b.cans.length (ZH (b.crL r w m) b.cans.length) o/\v=.tuple #[.slice a l c,.bool o.isSome]/\Jx 62 2 (.slice a l c) ((o.getD []).flatMap encII) A/\U'.M.Perm (A++(Z++U.M))/\(∀x o,U.I x=some o->U'.I x=some o)/\U'.tok=U.tok) U:=by
  refine Qb.of (args:=[_,_,_,_]) Yr Qd S1 ?_
  conv=>whnf
  intro b4 U1 bl E;have E:=Zz4 h E
  conv=>whnf
  intro b5 U2 az G;have G:Zo U2 b5 #[.int .i64 r]:=G
  conv=>whnf
  intro b6 U3 al H;have H:Zo U3 b6 #[.int .i64 (m+1:Nat)]:=H
  conv=>whnf
  intro b7 U4 ab W;have W:Zo U4 b7 #[.int .i64 w]:=W;have ah:=((bl.trans az).trans al).trans ab;have E:=E.le ((az.trans al).trans ab);have G:=G.le (al.trans ab);have H:=H.le ab;refine⟨_,⟨rfl,E.rd⟩,?_⟩;refine⟨DB.any,(Aw h b (hb.lg ah.lg.frz2) bv).mono ?_⟩;rintro _ U5⟨⟨ca,cc,rfl,an,bq,-⟩,bn⟩-
  conv=>whnf
  intro F ag;refine⟨_,.refl _,rfl,Zy (vs:=[.slice ca b.cans.length cc]) ag rfl (by simp[Value.single]) λ S a0 K=>?_⟩;have K:Zo S F #[.slice ca b.cans.length cc]:=K;have z:=bn.trans a0;have L:=ah.trans z;have E:=E.le z;have G:=G.le z;have H:=H.le z;have W:=W.le z;have bp:Zu S.frz h b:=hb.lg L.lg.frz2;have an:Zd S.frz ca b.cans.length 2 b.cans (λ x vs=>vs=encII x):=an.lg a0.lg.frz2 λ _ _ h=>h
  conv=>whnf
  intro lm a6;refine⟨_,.refl _,?_⟩
  conv=>whnf
  intro B a7;refine⟨_,.refl _,?_⟩
  conv=>whnf
  intro bb a4;refine⟨_,.refl _,?_⟩
  conv=>whnf
  intro fb a5;refine⟨_,.refl _,rfl,HR (vs:=[.bool false]) rfl (by simp[Value.single]) ?_⟩
  have ay:((((S.put lm (.cells #[.int .i32 0,.int .u32 0] 111)).put B (.cells #[.int .u64 0,.int .u32 0] 118)).put bb (.cells #[.nl] 26)).put fb (.cells [.bool false].toArray 4)).M=[.cl fb [.bool false] 4,.cl bb [.nl] 26]++.obj B (.cells #[Jh 0 0,Zx 0] 118 (0,0))::(.obj lm (.cells #[QB 0,Zx 0] 111 (0,0))::U.M):=by
   show _::_::_::_::S.M=_;rw[L.own];rfl
  have aj:∀x o,S.I x=some o->((((S.put lm (.cells #[.int .i32 0,.int .u32 0] 111)).put B (.cells #[.int .u64 0,.int .u32 0] 118)).put bb (.cells #[.nl] 26)).put fb (.cells [.bool false].toArray 4)).I x=some o:=λ _ _ h=>h;have bd:((((S.put lm (.cells #[.int .i32 0,.int .u32 0] 111)).put B (.cells #[.int .u64 0,.int .u32 0] 118)).put bb (.cells #[.nl] 26)).put fb (.cells [.bool false].toArray 4)).tok=⟨0,.out,none⟩:=L.tok.trans ai;generalize((((S.put lm (.cells #[.int .i32 0,.int .u32 0] 111)).put B (.cells #[.int .u64 0,.int .u32 0] 118)).put bb (.cells #[.nl] 26)).put fb (.cells [.bool false].toArray 4))=U7 at ay aj bd ⊢;clear a6 a7 a4 a5 ag;refine⟨_,(K.imI aj).sees3 (o:=0) rfl,Nat,λ i=>[(12,.pb B),(13,.pb bb),(14,.pb fb),(15,.func (.func 60) #[] (Hr B F b6 b4 b5 b7 lm fb bb).toArray),(21,.int .i64 b.cans.length),(22,.int .i64 i)],
   λ i U'=>(∀x o,U7.I x=some o->U'.I x=some o)/\i<=b.cans.length/\((i=0/\U'.tok=⟨0,.out,none⟩/\U'.M=[.cl fb [.bool false] 4,.cl bb [.nl] 26]++.obj B (.cells #[Jh 0 0,Zx 0] 118 (0,0))::(.obj lm (.cells #[QB 0,Zx 0] 111 (0,0))::U.M)) \/
    (0<i/\U'.tok=⟨0,.par B (replicate i XK) false .run,some (.par (Hb lm fb bb (b.crL r w m) b.cans.length) (ZH (b.crL r w m) i))⟩/\U'.M=U.M)),λ i=>b.cans.length-i,0,T1,⟨λ _ _ h=>h,O1,.inl ⟨rfl,bd,ay⟩⟩,?_⟩
  rintro i f Y⟨ax,hi,ad⟩;have br:Je ((i:Int)+1):=by have:=hC.six;unfold Je;omega
  have ae:∀x o,S.I x=some o->Y.I x=some o:=λ x o Q=>ax x o (aj x o Q)
  repeat refine⟨rfl,?_⟩
  conv=>whnf
  apply Qe<;>intro hc
  .have hlt:i<b.cans.length:=by simpa using hc
   obtain⟨ci,ac⟩:∃ci,b.cans[i]?=some ci:=⟨_,getElem?_eq_getElem hlt⟩;have h6:=hC.six
   have a3:Qb Zs 69 #[.pb B,.int .i64 1] (λ v U'=>U'.I=Y.I/\U'.tok=⟨0,.par B (replicate i XK) true .run,some (.par (Hb lm fb bb (b.crL r w m) b.cans.length) (ZH (b.crL r w m) i))⟩/\U'.M=U.M) Y:=by
    rcases ad with⟨rfl,P,T⟩|⟨b0,P,T⟩
    .refine Qb.make (M₁:=[.cl fb [.bool false] 4,.cl bb [.nl] 26]) (M₂:=.obj lm (.cells #[QB 0,Zx 0] 111 (0,0))::U.M) P T ?_;refine Qb.shift (U':=⟨Y.I,.obj lm (.cells #[QB 0,Zx 0] 111 (0,0))::([.cl fb [.bool false] 4,.cl bb [.nl] 26]++U.M),⟨0,.par B [] false .run,none⟩⟩) (Hf perm_middle) ?_;refine Qb.makeM (x:=Hb lm fb bb (b.crL r w m) b.cans.length) (M₁:=[.cl fb [.bool false] 4,.cl bb [.nl] 26]) (M₂:=U.M) rfl rfl ⟨none,.nil λ _=>rfl,none,0,0,[],.nil,(λ x Q=>by cases Q),rfl⟩ ?_;rw[Eu];exact Uh (ds:=[]) S1 rfl ⟨rfl,rfl,rfl⟩
    .exact Uh (ds:=replicate i XK) S3 P ⟨rfl,by show(⟨0,_,Y.tok.mu⟩:Tk)=_;rw[P],T⟩
   refine⟨BO,a3.mono ?_⟩;rintro v U9⟨aa,au,V⟩-;have af:∀x o,S.I x=some o->U9.I x=some o:=λ x o Q=>by rw[aa];exact ae x o Q
   conv=>whnf
   intro a ha;rw[RO];refine Yf ?_;rw[At];refine CY λ⟨wd,bw⟩=>?_;have bg:a.eval (.tmp 15)=.func (.func 60) #[] (Hr B F b6 b4 b5 b7 lm fb bb).toArray:=ha.get 15;refine Xl C4 (Jr AN) (.inl rfl) ?_;unfold HC;simp only[execOp,A0,Qc,Qi,PL,bg];rw[AK];have am:=ha.put (some 26) (.func (.func 60) #[] (Hr B F b6 b4 b5 b7 lm fb bb).toArray) (by intro d hd;cases hd;decide);generalize a.put (some 26) (.func (.func 60) #[] (Hr B F b6 b4 b5 b7 lm fb bb).toArray)=a1 at am ⊢;have bh:a1.eval (.tmp 16)=.int .i64 i:=am.get 16;refine Xl C5 (Jr AO) (.inl rfl) ?_;unfold HC;simp only[execOp,A3,Qc,Qi,PL,bh];rw[AL];have N:=am.put (some 27) (.int .i64 i) (by intro d hd;cases hd;decide);generalize a1.put (some 27) (.int .i64 i)=a2 at N ⊢;have bi:a2.eval (.tmp 26)=.func (.func 60) #[] (Hr B F b6 b4 b5 b7 lm fb bb).toArray:=N.get 26
   have bj:(#[]++#[Operand.tmp 27].map a2.eval:Array Value)=#[.int .i64 i]:=by
    have:a2.eval (.tmp 27)=.int .i64 i:=N.get 27;simp[this]
   obtain⟨aw,mc,bu,a9,bs,bt⟩:∃aw mc,V5 20 (some (.par (Hb lm fb bb (b.crL r w m) b.cans.length) (ZH (b.crL r w m) i))) aw mc/\aw=some (.par (Hb lm fb bb (b.crL r w m) b.cans.length) (ZH (b.crL r w m) (i+1)))/\(∀x,b.crL r w m i=some x->mc=some (.lok (Hb lm fb bb (b.crL r w m) b.cans.length) i .idle (0,0)))/\(b.crL r w m i=none->mc=none):=by
    cases hs:b.crL r w m i with
    |none=>exact⟨_,none,.inl ⟨rfl,rfl⟩,by rw[Es hs],λ s h=>by(cases h),λ _=>rfl⟩
    |some x=>
     obtain⟨u1,u2⟩:=Et hs;exact⟨_,some (.lok (Hb lm fb bb (b.crL r w m) b.cans.length) i .idle (0,0)),.inr ⟨_,_,i,rfl,u1,O1,rfl,rfl⟩,by rw[u2],λ s' h=>by cases h;rfl,λ h=>by cases h⟩
   subst a9
   have bx:Oo b r w m i mc lm fb bb (b.crL r w m) b.cans.length:=by
    refine⟨λ ci ac k q hk ap hg=>?_,λ ci ac ap=>bt ?_⟩
    .have hL:b.crL r w m i=some (ci::q):=by unfold Bk.crL;rw[ac];show((TM.parts (b.cans.drop (i+1)) m).find? λ q=>b.good r w (ci::q)).map (ci::·)=_;rw[MV hk ap hg];rfl
     exact⟨i,(0,0),hlt,bs _ hL,hL⟩
    .unfold Bk.crL;rw[ac];show((TM.parts (b.cans.drop (i+1)) m).find? λ q=>b.good r w (ci::q)).map (ci::·)=_;rw[FO ap];rfl
   refine CZ (D:=XK) (ds:=replicate i XK) (Up:=⟨U9.I,U9.M,⟨0,.par B (replicate (i+1) XK) false .run,some (.par (Hb lm fb bb (b.crL r w m) b.cans.length) (ZH (b.crL r w m) (i+1)))⟩⟩) (Uc:=⟨U9.I,[],⟨0,.wrk B XK,mc⟩⟩) C6 (Jr AP) A4 bi au (D0 bw (M₁:=[]) (M₂:=U9.M) (Perm.refl _)) rfl rfl bu (λ Stop=>?_) ?_
   .rw[bj];have be:=Rm (U:=⟨U9.I,[],⟨0,.wrk B XK,mc⟩⟩) h b ba hC.n r hr w i (bcan:=F) (bm:=b6) (bbk:=b4) (brt:=b5) (bwt:=b7) (lm:=lm) (fb:=fb) (bb:=bb) (g:=B) hlt (λ U' bfst hI ht bo=>?_) O1 (b.crL r w m) b.cans.length (Bk.crL_len hC.m5) m hC.m5 (H.imI af) mc rfl bx Stop
    .exact be
    .have hI6':∀x o,S.I x=some o->U'.I x=some o:=λ x o Q=>hI x o (af x o Q);exact⟨⟨ca,cc,K.imI hI6',an.mem hI6' (λ r hr=>by cases hr),bq⟩,bo,E.imI hI6',bp.mem hI6' (λ r hr=>by cases hr),G.imI hI6',W.imI hI6'⟩
   .refine Og ?_;rw[AM];refine⟨by rw[Act.put,N.size,ha.size],_,N.get,?_⟩;refine⟨br,by simpa[Act.put]using N.ds,i+1,T1,⟨λ x o Q=>by show U9.I x=_;rw[aa];exact ax x o Q,O1,.inr ⟨O1,rfl,V⟩⟩,L1⟩
  .have hge:i=b.cans.length:=by simp at hc;omega
   subst hge
   obtain⟨-,P,T⟩:0<b.cans.length/\Y.tok=⟨0,.par B (replicate b.cans.length XK) false .run,some (.par (Hb lm fb bb (b.crL r w m) b.cans.length) (ZH (b.crL r w m) b.cans.length))⟩/\Y.M=U.M:=by
    rcases ad with⟨h0,_⟩|ad
    .have:=hC.pos;omega
    .exact ad
   have av:Qb Zs 70 #[.pb B] (λ v U'=>v=.tuple #[]/\U'.I=Y.I/\U'.tok=⟨0,.out,none⟩/\∃M',WO fb bb (b.crL r w m) b.cans.length (ZH (b.crL r w m) b.cans.length) M'/\U'.M=M'++U.M) Y:=by
    refine Qb.post (R:=λ v U'=>v=.tuple #[]/\U'.I=Y.I/\U'.tok=⟨0,.out,none⟩/\∃Ms M',WO fb bb (b.crL r w m) b.cans.length (ZH (b.crL r w m) b.cans.length) M'/\U'.M=(U.M++Ms)++M') (Cm (ds:=replicate b.cans.length XK) (by simp;exact hC.six) P λ Ms M' b2 X=>⟨rfl,rfl,rfl,Ms.flatten,M',X,by rw[T]⟩) λ v U'⟨hv,hI,ht,Ms,M',X,bk⟩=>?_
    .refine⟨{ U' with M:=M'++U.M },Dc ⟨Ms,?_⟩,hv,hI,ht,M',X,rfl⟩;rw[bk,append_assoc,append_assoc];refine(perm_append_comm (l₁:=U.M) (l₂:=Ms++M')).trans ?_;rw[append_assoc];refine(perm_append_comm (l₁:=Ms) (l₂:=M'++U.M)).trans ?_;rw[append_assoc]
   refine⟨BP,av.mono ?_⟩;rintro _ U9⟨rfl,aa,au,M',⟨o,ak,a,l,c,A,hA,-,rfl⟩,V⟩-;refine⟨_,J3 (b:=bb) (e:=26) (vs:=[.slice a l c]) (by rw[V];simp) 0 _ rfl,?_⟩;refine⟨_,J3 (b:=fb) (e:=4) (vs:=[.bool o.isSome]) (by rw[V];simp) 0 _ rfl,?_⟩
   conv=>whnf
   intro Ua ao _;refine⟨o,a,l,c,A,[.cl fb [.bool o.isSome] 4,.cl bb [.slice a l c] 26],ak,rfl,hA,?_,λ x o Q=>ao.imm x o (by rw[aa];exact ae x o (L.imm x o Q)),by rw[ao.tok,au,ai]⟩;rw[ao.own,V];refine Perm.trans ?_ (perm_append_comm_assoc [.cl fb [.bool o.isSome] 4,.cl bb [.slice a l c] 26] A U.M);exact Perm.refl _
 refine bf.okv λ v U' hw⟨o,a,l,c,A,Z,ak,hv,hA,hM,hI,ht⟩=>?_
 have aq:l<=c:=by
  rcases hA []with⟨e,-,-⟩|⟨_,_,_,_,e,-,h,-⟩ <;> cases e
  .exact Nat.le_refl _
  .exact h
 obtain⟨U1,k1,k2,k3,a',b1,bz,e,hl,bc,X⟩:=hA.freeze (K0 hw) hM;cases e;have a8:(o.getD []).length=l:=by have e:=(Q6 (f:=encII) (n:=2) (λ _=>rfl) (o.getD [])).symm.trans hl;omega
 subst a8;exact⟨{ U1 with M:=U.M },k1.trans (Z2 (by rw[k2];exact sublist_append_right ..)),⟨o,ak,_,hv,a,c,rfl,HH (enc:=encII) (n:=2) (λ _=>rfl) bc X D1,aq⟩,⟨λ x o Q=>k3.imm x o (hI x o Q),rfl,k3.tok.trans ht⟩⟩
end
def Xm{α:Type}(F:Nat->Option α):Nat->Nat->Option α
 |_,0=>none
 |m,n+1=>match F m with
  |some x=>some x
  |none=>Xm F (m+1) n
def SC(F:Nat->Option α)(m n:Nat):Xm F m (n+1)=match F m with
  |some x=>some x
  |none=>Xm F (m+1) n:=rfl
def X5(e:Bool):Int:=if e then 1 else 2
def Bk.staF(b:Bk)(r:Int)(e:Bool)(F:Nat->Option (List (Int×Int))):Option (List (Int×Int)):=
 if b.askF r=0 then(if b.fatR r.toNat=X5 e then some []else if b.fatR r.toNat=X5 (!e)then none else Xm F 0 (b.cs.length-1))else none
section
attribute [local irreducible] Qb Zr W5
def X_.nil:X_ U .nl []:=⟨none,0,rfl,⟨rfl,λ i x e=>by simp at e⟩,Nat.le_refl _⟩
def X_.lg{T:Type}{U U':Qa T}{v:Value}{l:List (Int×Int)}(h:X_ U v l)(k:U.lg U'):X_ U' v l:=let ⟨a,c,e,h,r⟩:=h;⟨a,c,e,h.lg k λ _ _ h=>h,r⟩
def Ra(aa:U₀.tok=⟨0,.out,none⟩)(h:BH)(b:Bk)(hb:Zu U₀.frz h b)(hk:JU U₀)(r:Int)(w:Bool)(F:Nat->Option (List (Int×Int)))
  (hC:b.askF r=0->b.fatR r.toNat≠X5 w->b.fatR r.toNat≠X5 (!w)->∀m,m+1<b.cs.length->(∀N,N<m->F N=none)->Ko b m/\W9 (b.crL r.toNat (X5 w) m) b.cans.length (ZH (b.crL r.toNat (X5 w) m) b.cans.length) (F m)) :
  Qb Zs 7 #[h.v,.int .i64 r,.bool w] (λ v U'=>(∃v1,v=.tuple #[v1,.bool (b.staF r w F).isSome,.int .i64 (b.askF r)]/\X_ U'.frz v1 ((b.staF r w F).getD []))/\U₀.le U') U₀:=by
 refine Qb.grown (R:=λ v U'=>∃v1,v=.tuple #[v1,.bool (b.staF r w F).isSome,.int .i64 (b.askF r)]/\X_ U' v1 ((b.staF r w F).getD [])) (λ v U1 U2 hl⟨v1,e,h1⟩=>⟨v1,e,h1.lg hl⟩) (Qb.of (args:=[_,_,_]) YT Qd S1 ?_);have ak:=hb.cs.1
 repeat refine⟨rfl,?_⟩
 conv=>whnf
 intro B U1 Z hB;have hB:=Zz4 h hB;refine⟨_,⟨rfl,hB.rd⟩,?_⟩;refine⟨Pp.any,(Va h b (hb.lg Z.lg.frz2) (hk.lg Z.lg) r).go λ _=>?_⟩
 conv=>whnf
 intro b9 ah;refine⟨_,.refl _,?_⟩;by_cases hF:b.askF r=0
 .obtain⟨hok,hr0,M⟩:=Bk.askF_ok hF;obtain⟨q,rfl⟩:=Int.eq_ofNat_of_zero_le hr0;have hq:q<b.rs.length:=by unfold Bk.nr at M;omega
  have al:=hok.nc;have ad:b.staF (q:Int) w F=(if b.fatR q=X5 w then some []else if b.fatR q=X5 (!w)then none else Xm F 0 (b.cs.length-1)):=by unfold Bk.staF;rw[if_pos hF,Int.toNat_natCast]
  have hC:=hC hF;rw[Int.toNat_natCast]at hC;rw[if_pos hF,hF,ad];refine⟨rfl,Zy (vs:=[.slice h.ra h.rl h.rc,.slice h.ca h.cl h.cc]) ah rfl (by simp[Value.single]) λ U2 ag P=>?_⟩;have P:=Zz4 h P;have E:=Z.trans ag;have hB:=hB.le ag;have V:=Vc (S:=Zs) (U:=U2) h b (hb.lg E.lg.frz2) hok q hq;cases w with
  |true=>
   have ae:X5 true=1:=rfl;have af:X5 (!true)=2:=rfl;rw[ae,af]at hC ⊢
   repeat refine⟨rfl,?_⟩
   refine⟨_,⟨rfl,P.rd⟩,?_⟩;refine⟨Gm.any,V.go λ _=>?_⟩
   repeat refine⟨rfl,?_⟩
   conv=>whnf
   apply Qe<;>intro H
   .have X:b.fatR q=1:=by simpa using H
    rw[if_pos X]
    repeat refine⟨rfl,?_⟩
    conv=>whnf
    exact⟨⟨_,rfl,.nil⟩,E.lg⟩
   have X:b.fatR q≠1:=by simpa using H
   rw[if_neg X]
   repeat refine⟨rfl,?_⟩
   conv=>whnf
   apply Qe<;>intro H
   .have Y:b.fatR q=2:=by simpa using H
    rw[if_pos Y]
    repeat refine⟨rfl,?_⟩
    conv=>whnf
    exact⟨⟨_,rfl,.nil⟩,E.lg⟩
   have Y:b.fatR q≠2:=by simpa using H
   rw[if_neg Y]
   refine⟨Nat,λ m=>[(1,.int .i64 q),(3,.pb B),(9,.pb b9),(10,.int .i64 1),(12,.int .i64 (m+1:Nat))],
    λ m U'=>U2.le U'/\(m=0\/m+1<=b.cs.length)/\(∀N,N<m->F N=none)/\Xm F 0 (b.cs.length-1)=Xm F m (b.cs.length-1-m),λ m=>b.cs.length-m,0,T1,⟨.refl _,.inl rfl,S1,rfl⟩,?_⟩
   rintro m f U3⟨I,hm,W,z⟩;have ac:Je (((m+1:Nat):Int)+1):=I1
   have G:=E.trans I;refine⟨_,(hB.le I).sees3 (o:=1) rfl,?_⟩
   repeat refine⟨rfl,?_⟩
   conv=>whnf
   apply Qe<;>intro H
   .have hlt:m+1<b.cs.length:=by simp at H;omega
    obtain⟨hD,T⟩:=hC X Y m hlt W;rw[show b.cs.length-1-m=(b.cs.length-1-(m+1))+1 by omega,SC]at z;refine⟨_,⟨rfl,(P.le I).rd⟩,?_⟩;refine⟨Yr.any,(TP (U:=U3) (G.tok.trans aa) h b (hb.lg G.lg.frz2) hok q hq 1 m hD).mono ?_⟩;rintro _ U4⟨⟨o,ab,v1,rfl,K⟩,Q⟩-;obtain rfl:=ab.uniq T;cases L:F m with
    |some x=>
     rw[L]at K z;obtain⟨a1,c1,rfl,M⟩:=K;rw[z]
     repeat refine⟨rfl,?_⟩
     conv=>whnf
     exact⟨⟨_,rfl,⟨a1,c1,rfl,M⟩⟩,(G.trans Q).lg⟩
    |none=>
     rw[L]at K z;obtain⟨a1,c1,rfl,M⟩:=K
     repeat refine⟨rfl,?_⟩
     refine⟨ac,?_⟩
     conv=>whnf
     exact⟨rfl,m+1,T1,⟨I.trans Q,.inr O1,λ N aj=>by
      by_cases e:N=m
      .rw[e];exact L
      .exact W N O1,z⟩,L1⟩
   .have hge:b.cs.length<=m+1:=by simp at H;omega
    rw[show b.cs.length-1-m=0 by omega]at z;have z:Xm F 0 (b.cs.length-1)=none:=z;rw[z]
    repeat refine⟨rfl,?_⟩
    conv=>whnf
    exact⟨⟨_,rfl,.nil⟩,G.lg⟩
  |false=>
   have ae:X5 false=2:=rfl;have af:X5 (!false)=1:=rfl;rw[ae,af]at hC ⊢
   repeat refine⟨rfl,?_⟩
   refine⟨_,⟨rfl,P.rd⟩,?_⟩;refine⟨Gm.any,V.go λ _=>?_⟩
   repeat refine⟨rfl,?_⟩
   conv=>whnf
   apply Qe<;>intro H
   .have X:b.fatR q=2:=by simpa using H
    rw[if_pos X]
    repeat refine⟨rfl,?_⟩
    conv=>whnf
    exact⟨⟨_,rfl,.nil⟩,E.lg⟩
   have X:b.fatR q≠2:=by simpa using H
   rw[if_neg X]
   repeat refine⟨rfl,?_⟩
   conv=>whnf
   apply Qe<;>intro H
   .have Y:b.fatR q=1:=by simpa using H
    rw[if_pos Y]
    repeat refine⟨rfl,?_⟩
    conv=>whnf
    exact⟨⟨_,rfl,.nil⟩,E.lg⟩
   have Y:b.fatR q≠1:=by simpa using H
   rw[if_neg Y]
   refine⟨Nat,λ m=>[(1,.int .i64 q),(3,.pb B),(9,.pb b9),(10,.int .i64 2),(12,.int .i64 (m+1:Nat))],
    λ m U'=>U2.le U'/\(m=0\/m+1<=b.cs.length)/\(∀N,N<m->F N=none)/\Xm F 0 (b.cs.length-1)=Xm F m (b.cs.length-1-m),λ m=>b.cs.length-m,0,T1,⟨.refl _,.inl rfl,S1,rfl⟩,?_⟩
   rintro m f U3⟨I,hm,W,z⟩;have ac:Je (((m+1:Nat):Int)+1):=I1
   have G:=E.trans I;refine⟨_,(hB.le I).sees3 (o:=1) rfl,?_⟩
   repeat refine⟨rfl,?_⟩
   conv=>whnf
   apply Qe<;>intro H
   .have hlt:m+1<b.cs.length:=by simp at H;omega
    obtain⟨hD,T⟩:=hC X Y m hlt W;rw[show b.cs.length-1-m=(b.cs.length-1-(m+1))+1 by omega,SC]at z;refine⟨_,⟨rfl,(P.le I).rd⟩,?_⟩;refine⟨Yr.any,(TP (U:=U3) (G.tok.trans aa) h b (hb.lg G.lg.frz2) hok q hq 2 m hD).mono ?_⟩;rintro _ U4⟨⟨o,ab,v1,rfl,K⟩,Q⟩-;obtain rfl:=ab.uniq T;cases L:F m with
    |some x=>
     rw[L]at K z;obtain⟨a1,c1,rfl,M⟩:=K;rw[z]
     repeat refine⟨rfl,?_⟩
     conv=>whnf
     exact⟨⟨_,rfl,⟨a1,c1,rfl,M⟩⟩,(G.trans Q).lg⟩
    |none=>
     rw[L]at K z;obtain⟨a1,c1,rfl,M⟩:=K
     repeat refine⟨rfl,?_⟩
     refine⟨ac,?_⟩
     conv=>whnf
     exact⟨rfl,m+1,T1,⟨I.trans Q,.inr O1,λ N aj=>by
      by_cases e:N=m
      .rw[e];exact L
      .exact W N O1,z⟩,L1⟩
   .have hge:b.cs.length<=m+1:=by simp at H;omega
    rw[show b.cs.length-1-m=0 by omega]at z;have z:Xm F 0 (b.cs.length-1)=none:=z;rw[z]
    repeat refine⟨rfl,?_⟩
    conv=>whnf
    exact⟨⟨_,rfl,.nil⟩,G.lg⟩
 .have ad:b.staF r w F=none:=by unfold Bk.staF;rw[if_neg hF]
  rw[if_neg hF,ad];refine⟨rfl,Zy (vs:=[.nl,.nl]) ah rfl (by simp[Value.single]) λ U3 ai _=>?_⟩
  repeat refine⟨rfl,?_⟩
  conv=>whnf
  apply Qe<;>intro H
  .repeat refine⟨rfl,?_⟩
   conv=>whnf
   exact⟨⟨_,rfl,.nil⟩,(Z.trans ai).lg⟩
  .exact absurd (by simpa using H) hF
end
variable{d:List Bool}
def X3(U:Qa T)(a:Option Addr)(len:Nat)(l:List Bool):Prop:=l.length=len/\∀i x,l[i]?=some x->∃e,a=some e/\e.spot=none/\U.sees (e.add (i*1)) (.bool x)
def X3.lg{a:Option Addr}{len:Nat}{l:List Bool}(h:X3 U a len l)(k:U.lg U'):X3 U' a len l:=⟨h.1,λ i x f=>let ⟨ad,e,s,hs⟩:=h.2 i x f;⟨ad,e,s,hs.lg k⟩⟩
def X3.at(h:X3 U a lm d)(B:i<lm):∃f x,d[i]?=some x/\a=some f/\f.spot=none/\U.sees (f.add (i*1)) (.bool x):=by
 have w:i<d.length:=by rw[h.1];exact B
 have z:d[i]?=some d[i]:=getElem?_eq_getElem w;obtain⟨f,e,s,E⟩:=h.2 i _ z;exact⟨f,_,z,e,s,E⟩
def Vo{l:List Bool}(h:Zo U lm (l.map .bool).toArray):X3 U (some ⟨lm,0,none⟩) l.length l:=
 ⟨rfl,λ i x e=>⟨_,rfl,rfl,by rw[Nat.mul_one,Qu];exact h.sees (by rw[Nat.zero_add];simp[e])⟩⟩
variable{S:Sys prog T}
section
attribute [local irreducible] Qb Zr W5
def TD(a a':Option Addr)(len cap w E:Nat)(l l':List Int)(N:Z8 U a len l)(H:Z8 U a' w l')(P:len<2^60) :
  Qb S 24 #[.slice a len cap,.slice a' w E] (λ v U'=>v=.bool (decide (l=l'))/\U'=U) U:=by
 refine Qb.pure' (Qb.of (args:=[_,_]) Yq Qd S1 ?_);have W:=N.1;have X:=H.1
 repeat refine⟨rfl,?_⟩
 conv=>whnf
 apply Qe<;>intro F
 .have hne:len≠w:=by intro e;subst e;simp at F
  repeat refine⟨rfl,?_⟩
  refine⟨?_,(Qa.le.refl _).lg⟩;rw[decide_eq_false (λ e=>hne (by rw[<- W,<- X,e]))]
 have K:len=w:=Int.ofNat.inj (by simpa using F:(len:Int)=w);subst K;refine⟨Nat,λ i=>[(0,.slice a len cap),(1,.slice a' len E),(5,.int .i64 i)],λ i U'=>U.le U'/\i<=len/\l.take i=l'.take i,λ i=>len-i,0,T1,⟨.refl _,O1,rfl⟩,?_⟩;rintro i f Z⟨z,hi,G⟩
 repeat refine⟨rfl,?_⟩
 conv=>whnf
 apply Qe<;>intro F
 .have hlt:i<len:=by simpa using F
  obtain⟨V,x,Q,rfl,-,Y⟩:=(N.lg z.lg).at hlt;obtain⟨I,y,T,rfl,-,M⟩:=(H.lg z.lg).at hlt;have L:Je (i+1):=I1
  refine⟨V,i,⟨rfl,rfl,hlt⟩,_,Y,I,i,⟨rfl,rfl,hlt⟩,_,M,?_⟩
  conv=>whnf
  intro U2 B _
  repeat refine⟨rfl,?_⟩
  conv=>whnf
  apply Qe<;>intro F
  .have hne:x≠y:=by simpa using F
   repeat refine⟨rfl,?_⟩
   conv=>whnf
   exact⟨by rw[decide_eq_false (VU Q T hne)],(z.trans B).lg⟩
  .have hxy:x=y:=by simpa using F
   refine⟨L,?_⟩
   conv=>whnf
   exact⟨rfl,i+1,T1,⟨z.trans B,O1,Ve Q T G hxy⟩,L1⟩
 .have hge:len<=i:=by simpa using F
  rw[take_of_length_le O1,take_of_length_le O1]at G
  repeat refine⟨rfl,?_⟩
  conv=>whnf
  exact⟨by rw[decide_eq_true G],z.lg⟩
def W6(a a':Option Addr)(len cap w E:Nat)(l l':List Bool)(N:X3 U a len l)(H:X3 U a' w l')(P:len<2^60) :
  Qb S 23 #[.slice a len cap,.slice a' w E] (λ v U'=>v=.bool (decide (l=l'))/\U'=U) U:=by
 refine Qb.pure' (Qb.of (args:=[_,_]) Po Qd S1 ?_);have W:=N.1;have X:=H.1
 repeat refine⟨rfl,?_⟩
 conv=>whnf
 apply Qe<;>intro F
 .have hne:len≠w:=by intro e;subst e;simp at F
  repeat refine⟨rfl,?_⟩
  refine⟨?_,(Qa.le.refl _).lg⟩;rw[decide_eq_false (λ e=>hne (by rw[<- W,<- X,e]))]
 have K:len=w:=Int.ofNat.inj (by simpa using F:(len:Int)=w);subst K;refine⟨Nat,λ i=>[(0,.slice a len cap),(1,.slice a' len E),(5,.int .i64 i)],λ i U'=>U.le U'/\i<=len/\l.take i=l'.take i,λ i=>len-i,0,T1,⟨.refl _,O1,rfl⟩,?_⟩;rintro i f Z⟨z,hi,G⟩
 repeat refine⟨rfl,?_⟩
 conv=>whnf
 apply Qe<;>intro F
 .have hlt:i<len:=by simpa using F
  obtain⟨V,x,Q,rfl,-,Y⟩:=(N.lg z.lg).at hlt;obtain⟨I,y,T,rfl,-,M⟩:=(H.lg z.lg).at hlt;have L:Je (i+1):=I1
  refine⟨V,i,⟨rfl,rfl,hlt⟩,_,Y,I,i,⟨rfl,rfl,hlt⟩,_,M,?_⟩
  conv=>whnf
  intro U2 B _
  repeat refine⟨rfl,?_⟩
  conv=>whnf
  apply Qe<;>intro F
  .have hne:x≠y:=by simpa using F
   repeat refine⟨rfl,?_⟩
   conv=>whnf
   exact⟨by rw[decide_eq_false (VU Q T hne)],(z.trans B).lg⟩
  .have hxy:x=y:=by simpa using F
   refine⟨L,?_⟩
   conv=>whnf
   exact⟨rfl,i+1,T1,⟨z.trans B,O1,Ve Q T G hxy⟩,L1⟩
 .have hge:len<=i:=by simpa using F
  rw[take_of_length_le O1,take_of_length_le O1]at G
  repeat refine⟨rfl,?_⟩
  conv=>whnf
  exact⟨by rw[decide_eq_true G],z.lg⟩
def TC(a a':Option Addr)(len cap w E:Nat)(l l':List (Int×Int))(P:Zd U a len 2 l λ x vs=>vs=encII x)(H:Zd U a' w 2 l' λ x vs=>vs=encII x)(Q:len<2^60) :
  Qb S 9 #[.slice a len cap,.slice a' w E] (λ v U'=>v=.bool (decide (l=l'))/\U'=U) U:=by
 refine Qb.pure' (Qb.of (args:=[_,_]) YU Qd S1 ?_);have X:=P.1;have Y:=H.1
 repeat refine⟨rfl,?_⟩
 conv=>whnf
 apply Qe<;>intro F
 .have hne:len≠w:=by intro e;subst e;simp at F
  repeat refine⟨rfl,?_⟩
  refine⟨?_,(Qa.le.refl _).lg⟩;rw[decide_eq_false (λ e=>hne (by rw[<- X,<- Y,e]))]
 have K:len=w:=Int.ofNat.inj (by simpa using F:(len:Int)=w);subst K;refine⟨Nat,λ i=>[(0,.slice a len cap),(1,.slice a' len E),(5,.int .i64 i)],λ i U'=>U.le U'/\i<=len/\l.take i=l'.take i,λ i=>len-i,0,T1,⟨.refl _,O1,rfl⟩,?_⟩;rintro i f U1⟨z,hi,G⟩
 repeat refine⟨rfl,?_⟩
 conv=>whnf
 apply Qe<;>intro F
 .have hlt:i<len:=by simpa using F
  obtain⟨W,x,vs,T,rfl,-,rfl,-,Z⟩:=(P.lg z.lg λ _ _ h=>h).at hlt;obtain⟨I,y,vs,V,rfl,-,rfl,-,N⟩:=(H.lg z.lg λ _ _ h=>h).at hlt;have M:Je (i+1):=I1
  refine⟨W,i,⟨rfl,rfl,hlt⟩,_,⟨rfl,Z⟩,I,i,⟨rfl,rfl,hlt⟩,_,⟨rfl,N⟩,?_⟩
  conv=>whnf
  intro U2 B _
  conv=>whnf
  refine Ng E0 (vs:=encII x) (ws:=encII y) rfl rfl K1 K1 ?_
  have L:ZJ (encII x) (encII y)=decide (x=y):=by
   obtain⟨a1,b1⟩:=x;obtain⟨a2,b2⟩:=y;simp[encII,ZJ,H_,Prod.mk.injEq,Bool.decide_and];rfl
  rw[L]
  repeat refine⟨rfl,?_⟩
  conv=>whnf
  apply Qe<;>intro F
  .have hne:x≠y:=by simpa using F
   repeat refine⟨rfl,?_⟩
   conv=>whnf
   exact⟨by rw[decide_eq_false (VU T V hne)],(z.trans B).lg⟩
  .have hxy:x=y:=by simpa using F
   refine⟨M,?_⟩
   conv=>whnf
   exact⟨rfl,i+1,T1,⟨z.trans B,O1,Ve T V G hxy⟩,L1⟩
 .have hge:len<=i:=by simpa using F
  rw[take_of_length_le O1,take_of_length_le O1]at G
  repeat refine⟨rfl,?_⟩
  conv=>whnf
  exact⟨by rw[decide_eq_true G],z.lg⟩
def NJ:Qb S 17 #[] (λ v U'=>(∃h:BH,v=h.v/\Zu U'.frz h Wc)/\U.le U') U:=by
 refine Qb.grown (R:=λ v U'=>∃h:BH,v=h.v/\Zu U' h Wc) (λ v U1 U2 hl⟨h,e,X⟩=>⟨h,e,X.lg hl⟩) (Qb.of (args:=[]) Dp Qd S1 ?_)
 conv=>whnf
 intro K am;refine⟨_,.refl _,?_⟩;have E:=Z6 (U:=U) K (.cells #[.nl,.nl] 25);have N:(U.put K (.cells #[.nl,.nl] 25)).M=.cl K [.nl,.nl] 25::U.M:=rfl;generalize U.put K (.cells #[.nl,.nl] 25)=s0 at E N ⊢
 conv=>whnf
 intro W ag;refine Zm ag λ s1 X Z=>?_
 conv=>whnf
 intro b2 ah;refine Zm ah λ s2 h2 aa=>?_
 conv=>whnf
 intro b3 ai;refine Zm ai λ s3 h3 ab=>?_
 conv=>whnf
 intro b5 aj;refine Zm aj λ s4 h4 ac=>?_
 conv=>whnf
 intro b7 ak;refine Zm ak λ s5 h5 ad=>?_
 conv=>whnf
 intro b8 al;refine Zm al λ s6 h6 ae=>?_
 conv=>whnf
 intro z T;refine Zm T λ w h7 Q=>?_;have g6:=h7;have g5:=h6.trans g6;have g4:=h5.trans g5;have g3:=h4.trans g4;have g2:=h3.trans g3;have g1:=h2.trans g2;have F:=X.trans g1;have Y:=F.own.trans N
 have af:Zu w.frz ⟨some ⟨W,0,none⟩,3,3,some ⟨z,0,none⟩,3,3⟩ Wc:=by
  have k1:Zo w.frz W _:=(Z.le g1).imI λ _ _ h=>h;have k2:Zo w.frz b2 _:=(aa.le g2).imI λ _ _ h=>h;have k3:Zo w.frz b3 _:=(ab.le g3).imI λ _ _ h=>h;have k5:Zo w.frz b5 _:=(ac.le g4).imI λ _ _ h=>h;have k7:Zo w.frz b7 _:=(ad.le g5).imI λ _ _ h=>h;have k8:Zo w.frz b8 _:=(ae.le g6).imI λ _ _ h=>h;have G:Zo w.frz z _:=Q.imI λ _ _ h=>h
  have one:∀(b:Nat)(n:Int),Zo w.frz b #[.int .i64 n]->Z8 w.frz (some ⟨b,0,none⟩) 1 [n]:=λ b n h=>Zo.ints (l:=[n]) h λ i x f=>by
   cases i with
   |zero=>simp at f;subst f;rfl
   |succ i=>simp at f
  have lst:∀(b:Nat)(a:Option Addr)(len cap:Nat)(g:List Int),Zo w.frz b #[.slice a len cap]->Z8 w.frz a len g->len<2^60->Wt w.frz (some ⟨b,0,none⟩) 1 [g]:=λ b a len cap g h hg hl=>by
   refine⟨rfl,λ i x f=>?_⟩;cases i with
   |zero=>
    simp at f;subst f;exact⟨_,_,rfl,rfl,⟨a,len,cap,rfl,hg,hl⟩,rfl,by rw[Nat.zero_mul];exact h.rd⟩
   |succ i=>simp at f
  have H:∀(o:Nat)(v0 v1 v2 v3:Value)(c:Array Value),Zo w.frz z c->c[o]?=some v0->c[o+1]?=some v1->c[o+2]?=some v2->c[o+3]?=some v3->Ju w.frz ⟨z,o,none⟩ [v0,v1,v2,v3]:=by
   intro o v0 v1 v2 v3 c h e0 e1 e2 e3;refine h.reads λ k v B=>?_;have hk:=(List.getElem?_eq_some_iff.1 B).1;simp at hk;obtain rfl|rfl|rfl|rfl:k=0\/k=1\/k=2\/k=3:=O1
   .cases B;exact e0
   .cases B;exact e1
   .cases B;exact e2
   .cases B;exact e3
  have nil:Z8 w.frz none 0 []:=⟨rfl,λ i x f=>by simp at f⟩;refine⟨⟨rfl,λ i x f=>?_⟩,⟨rfl,λ i x f=>?_⟩,by show 3<2^60;decide,by show 3<2^60;decide,D1,D1⟩
  .refine⟨_,_,rfl,rfl,rfl,rfl,λ k v B=>?_⟩;have hk:k=0:=by have:=(List.getElem?_eq_some_iff.1 B).1;simp at this;omega
   subst hk;simp at B;subst B;rw[Qu,Qu];refine k1.sees ?_;have hi:i<3:=by have:=(List.getElem?_eq_some_iff.1 f).1;exact this
   obtain rfl|rfl|rfl:i=0\/i=1\/i=2:=O1
   all_goals(cases f;rfl)
  .have hi:i<3:=by have:=(List.getElem?_eq_some_iff.1 f).1;exact this
   obtain rfl|rfl|rfl:i=0\/i=1\/i=2:=O1
   .cases f;exact⟨_,_,rfl,rfl,⟨_,_,_,_,_,_,rfl,lst b3 _ 1 1 _ k3 (one b2 0 k2) D1,D1,nil,D1⟩,rfl,by rw[Qu];exact H _ _ _ _ _ _ G rfl rfl rfl rfl⟩
   .cases f;exact⟨_,_,rfl,rfl,⟨_,_,_,_,_,_,rfl,lst b5 _ 0 0 _ k5 nil D1,D1,nil,D1⟩,rfl,by rw[Qu];exact H _ _ _ _ _ _ G rfl rfl rfl rfl⟩
   .cases f;exact⟨_,_,rfl,rfl,⟨_,_,_,_,_,_,rfl,lst b8 _ 1 1 _ k8 (one b7 1 k7) D1,D1,nil,D1⟩,rfl,by rw[Qu];exact H _ _ _ _ _ _ G rfl rfl rfl rfl⟩
 refine⟨rfl,Wk (b:=K) (e:=25) (c:=#[.nl,.nl]) (M₀:=U.M) (vs:=[.slice (some ⟨W,0,none⟩) 3 3,.slice (some ⟨z,0,none⟩) 3 3]) [] Y rfl (by simp[Value.single]) λ s8 L V P=>?_⟩;refine⟨_,⟨rfl,Ze [] P⟩,⟨⟨_,_,_,_,_,_⟩,rfl,af.lg ⟨λ x o f=>by show s8.I x=_;rw[L];exact f,⟨[],rfl⟩,V⟩⟩,⟨λ x o f=>by rw[L];exact F.imm x o (E.imm x o f),⟨[_],P⟩,V.trans (F.tok.trans E.tok)⟩⟩
