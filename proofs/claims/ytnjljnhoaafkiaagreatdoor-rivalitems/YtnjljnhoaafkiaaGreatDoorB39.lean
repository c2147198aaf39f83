/- Lemmas. No conditions. -/
import Derived.Test.YtnjljnhoaafkiaaGreatDoorB38
import Derived.Test.YtnjljnhoaafkiaaGreatDoorB05
import Derived.Test.YtnjljnhoaafkiaaGreatDoorB06
set_option linter.all false
set_option maxRecDepth 100000
open List
namespace Go.TM
variable{T:Type}{P:Program}{S:Sys P T}{U U':Qa T}
def Z6.mem{a:Option Addr}{len:Nat}{l:List Int}(h:Z6 U a len l)(b:∀x o,U.I x=some o->U'.I x=some o)(f:∀r∈U.M,r∈U'.M):Z6 U' a len l:=
 ⟨h.1,λ i x hx=>let ⟨ad,e,s,hs⟩:=h.2 i x hx;⟨ad,e,s,hs.mem b f⟩⟩
def Q7.mem2{a:Option Addr}{len n:Nat}{α:Type}{l:List α}{R R':α->List Value->Prop}(h:Q7 U a len n l R)(b:∀x o,U.I x=some o->U'.I x=some o)(f:∀r∈U.M,r∈U'.M)(w:∀x vs,R x vs->R' x vs):Q7 U' a len n l R':=
 ⟨h.1,λ i x hx=>let ⟨ad,vs,e,s,r,hl,hr⟩:=h.2 i x hx;⟨ad,vs,e,s,w _ _ r,hl,hr.mem b f⟩⟩
def Wx.mem{a:Option Addr}{len:Nat}{z:List (List Int)}(h:Wx U a len z)(f:∀x o,U.I x=some o->U'.I x=some o)(w:∀r∈U.M,r∈U'.M):Wx U' a len z:=
 Q7.mem2 h f w λ _ _⟨a',b,cap',e,h1,h2⟩=>⟨a',b,cap',e,h1.mem f w,h2⟩
def Zs.mem{h:BH}{b:Bk}(k:Zs U h b)(f:∀x o,U.I x=some o->U'.I x=some o)(w:∀r∈U.M,r∈U'.M):Zs U' h b:=
 ⟨k.rs.mem2 f w λ _ _ h=>h,k.cs.mem2 f w λ _ _⟨ga,gl,gc,aa,al,ac,e,h1,h2,z,B⟩=>⟨ga,gl,gc,aa,al,ac,e,h1.mem f w,h2,z.mem f w,B⟩,k.rl,k.cl,k.rn,k.cn⟩
end Go.TM
namespace Go.Proofs
open Go.TM
attribute [local irreducible] Qb Zm Wo
def Hp{T:Type}(U:Qa T)(v:Value)(l:List (Int×Int)):Prop:=∃a c,v=.slice a l.length c/\Q7 U a l.length 2 l (λ x vs=>vs=encII x)
structure HN(b:Bk)(r:Nat)(w:Int)(m:Nat)(sd:Nat->Option Bool)(Lf Lt:Option (List (Int×Int))):Prop where
 n:b.cans.Nodup
 pos:0<b.cans.length
 six:b.cans.length<=6
 m5:m<=5
 len:∀x,Lf=some x\/Lt=some x->x.length<=1000
 sym:∀x y,Lf=some x->Lt=some y->(if QZ y x<0 then y else x)=(if QZ x y<0 then x else y)
 no:∀i ci,b.cans[i]?=some ci->(TM.parts (b.cans.drop (i+1)) m).find? (λ q=>b.good r w (ci::q))=none->sd i=none
 yes:∀i ci q,b.cans[i]?=some ci->(TM.parts (b.cans.drop (i+1)) m).find? (λ q=>b.good r w (ci::q))=some q->∃s,sd i=some s/\(if s then Lt else Lf)=some (ci::q)
 one:∀i j s,sd i=some s->sd j=some s->i=j
 out:∀s,((range b.cans.length).any λ i=>sd i==some s)=false->(if s then Lt else Lf)=none
def ZX(b:Nat->Option Bool)(i:Nat)(s:Bool):Bool:=(range i).any λ j=>b j==some s
def vB{b:Nat->Option Bool}{i:Nat}(h:b i=none):ZX b (i+1)=ZX b i:=by
 funext s;unfold ZX;rw[range_succ,any_append];simp[h]
def vC{b:Nat->Option Bool}{i:Nat}{s:Bool}(h:b i=some s)(h1:∀i j s,b i=some s->b j=some s->i=j):ZX b i s=false/\ZX b (i+1)=ZJ (ZX b i) s true:=by
 have h2:ZX b i s=false:=by
  unfold ZX;rw[any_eq_false];intro j f e;rw[mem_range]at f;have:=h1 j i s (by simpa using e) h;omega
 refine⟨h2,?_⟩;funext s';unfold ZX ZJ;rw[range_succ,any_append];by_cases e:s'=s
 .subst e;simp[h]
 .rw[if_neg e];simp[h,Ne.symm e]
abbrev XV(lm fb bb:Nat)(b f:Option (List (Int×Int))):QW:=⟨lm,169,JF fb bb b f⟩
abbrev Xx:TM.Spec:=λ _=>True
def xY{α:Type}{p:α->Bool}{l:List α}(h:∀q∈l,p q=false):l.find? p=none:=by
 rw[find?_eq_none];intro q b;rw[h q b];simp
def kg{α:Type}{p:α->Bool}{l:List α}{k:Nat}{q:α}(b:l[k]?=some q)(h:∀q'∈l.take k,p q'=false)(w:p q=true):l.find? p=some q:=by
 rw[find?_eq_some_iff_getElem];obtain⟨b,f⟩:=List.getElem?_eq_some_iff.1 b;refine⟨w,k,b,f,λ j z=>?_⟩;have:=h l[j] (mem_take_iff_getElem.2 ⟨j,O1,rfl⟩);simp[this]
set_option maxHeartbeats 2000000 in
def DI{U:Qa Tk}(ak:U.tok=⟨0,.out,none⟩)(h:BH)(b:Bk)(hb:Zs U.frz h b)(ba:b.Ok)(r:Nat)(hr:r<b.rs.length)(w:Int)(m:Nat){Q:Nat->Option Bool}{z B:Option (List (Int×Int))}(W:HN b r w m Q z B) :
  Qb Q5 58 #[h.v,.int .i64 r,.int .i64 (m+1:Nat),.int .i64 w] (λ v U'=>(∃v1,v=.tuple #[v1,.bool (ZD z B).isSome]/\Hp U'.frz v1 ((ZD z B).getD []))/\U.le U') U:=by
 have bv:=ba.nc
 have bf:Qb Q5 58 #[h.v,.int .i64 r,.int .i64 (m+1:Nat),.int .i64 w] (λ v U'=>∃a l c A Z,v=.tuple #[.slice a l c,.bool (ZD z B).isSome]/\Jo 75 2 (.slice a l c) (((ZD z B).getD []).flatMap encII) A/\U'.M.Perm (A++(Z++U.M))/\(∀x o,U.I x=some o->U'.I x=some o)/\U'.tok=U.tok) U:=by
  refine Qb.of (args:=[_,_,_,_]) Td Qe S1 ?_
  conv=>whnf
  intro b4 U1 bl G;have G:Zi U1 b4 #[.slice h.ra h.rl h.rc,.slice h.ca h.cl h.cc]:=G
  conv=>whnf
  intro b5 U2 az K;have K:Zi U2 b5 #[.int .i64 r]:=K
  conv=>whnf
  intro b6 U3 am L;have L:Zi U3 b6 #[.int .i64 (m+1:Nat)]:=L
  conv=>whnf
  intro b7 U4 ad aa;have aa:Zi U4 b7 #[.int .i64 w]:=aa;have aj:=((bl.trans az).trans am).trans ad;have G:=G.le ((az.trans am).trans ad);have K:=K.le (am.trans ad);have L:=L.le ad;refine⟨_,⟨rfl,G.rd⟩,?_⟩;refine⟨UY.any,(M7 h b (hb.lg aj.lg.frz2) bv).mono ?_⟩;rintro _ U5⟨⟨ca,cc,rfl,ao,bq,-⟩,bn⟩-
  conv=>whnf
  intro H ai;refine⟨_,.refl _,rfl,Zv (vs:=[.slice ca b.cans.length cc]) ai rfl (by simp[Value.single]) λ V a0 N=>?_⟩;have N:Zi V H #[.slice ca b.cans.length cc]:=N;have E:=bn.trans a0;have P:=aj.trans E;have G:=G.le E;have K:=K.le E;have L:=L.le E;have aa:=aa.le E;have bp:Zs V.frz h b:=hb.lg P.lg.frz2;have ao:Q7 V.frz ca b.cans.length 2 b.cans (λ x vs=>vs=encII x):=ao.lg a0.lg.frz2 λ _ _ h=>h
  conv=>whnf
  intro lm a6;refine⟨_,.refl _,?_⟩
  conv=>whnf
  intro F a7;refine⟨_,.refl _,?_⟩
  conv=>whnf
  intro bb a4;refine⟨_,.refl _,?_⟩
  conv=>whnf
  intro fb a5;refine⟨_,.refl _,rfl,HK (vs:=[.bool false]) rfl (by simp[Value.single]) ?_⟩
  have ay:((((V.put lm (.cells #[.int .i32 0,.int .u32 0] 169)).put F (.cells #[.int .u64 0,.int .u32 0] 176)).put bb (.cells #[.slice none 0 0] 68)).put fb (.cells [.bool false].toArray 4)).M=[.obj fb (.cells [.bool false].toArray 4 (0,0)),.obj bb (.cells [.slice none 0 0].toArray 68 (0,0))]++.obj F (.cells #[Q0 0 0,Qp 0] 176 (0,0))::(.obj lm (.cells #[Zc 0,Qp 0] 169 (0,0))::U.M):=by
   show _::_::_::_::V.M=_;rw[P.own];rfl
  have al:∀x o,V.I x=some o->((((V.put lm (.cells #[.int .i32 0,.int .u32 0] 169)).put F (.cells #[.int .u64 0,.int .u32 0] 176)).put bb (.cells #[.slice none 0 0] 68)).put fb (.cells [.bool false].toArray 4)).I x=some o:=λ _ _ h=>h;have bd:((((V.put lm (.cells #[.int .i32 0,.int .u32 0] 169)).put F (.cells #[.int .u64 0,.int .u32 0] 176)).put bb (.cells #[.slice none 0 0] 68)).put fb (.cells [.bool false].toArray 4)).tok=⟨0,.out,none⟩:=P.tok.trans ak;generalize((((V.put lm (.cells #[.int .i32 0,.int .u32 0] 169)).put F (.cells #[.int .u64 0,.int .u32 0] 176)).put bb (.cells #[.slice none 0 0] 68)).put fb (.cells [.bool false].toArray 4))=U7 at ay al bd ⊢;clear a6 a7 a4 a5 ai;refine⟨_,(N.imI al).sees3 (o:=0) rfl,Nat,λ i=>[(12,.pointer (some ⟨F,0,none⟩)),(13,.pointer (some ⟨bb,0,none⟩)),(14,.pointer (some ⟨fb,0,none⟩)),(15,.func (.func 86) #[] (Hu F H b6 b4 b5 b7 lm fb bb).toArray),(21,.int .i64 b.cans.length),(22,.int .i64 i)],
   λ i U'=>(∀x o,U7.I x=some o->U'.I x=some o)/\i<=b.cans.length/\((i=0/\U'.tok=⟨0,.out,none⟩/\U'.M=[.obj fb (.cells [.bool false].toArray 4 (0,0)),.obj bb (.cells [.slice none 0 0].toArray 68 (0,0))]++.obj F (.cells #[Q0 0 0,Qp 0] 176 (0,0))::(.obj lm (.cells #[Zc 0,Qp 0] 169 (0,0))::U.M)) \/
    (0<i/\U'.tok=⟨0,.par F (replicate i Xx) false .run,some (.par (XV lm fb bb z B) (ZX Q i))⟩/\U'.M=U.M)),λ i=>b.cans.length-i,0,T1,⟨λ _ _ h=>h,O1,.inl ⟨rfl,bd,ay⟩⟩,?_⟩
  rintro i f U8⟨ax,hi,af⟩;have br:Z7 ((i:Int)+1):=by have:=W.six;unfold Z7;omega
  have ag:∀x o,V.I x=some o->U8.I x=some o:=λ x o hx=>ax x o (al x o hx)
  repeat refine⟨rfl,?_⟩
  conv=>whnf
  apply Qg<;>intro hc
  .have hlt:i<b.cans.length:=by simpa using hc
   obtain⟨ci,ae⟩:∃ci,b.cans[i]?=some ci:=⟨_,getElem?_eq_getElem hlt⟩;have h6:=W.six
   have a3:Qb Q5 96 #[.pointer (some ⟨F,0,none⟩),.int .i64 1] (λ v U'=>U'.I=U8.I/\U'.tok=⟨0,.par F (replicate i Xx) true .run,some (.par (XV lm fb bb z B) (ZX Q i))⟩/\U'.M=U.M) U8:=by
    rcases af with⟨rfl,T,X⟩|⟨b0,T,X⟩
    .refine Qb.make (M₁:=[.obj fb (.cells [.bool false].toArray 4 (0,0)),.obj bb (.cells [.slice none 0 0].toArray 68 (0,0))]) (M₂:=.obj lm (.cells #[Zc 0,Qp 0] 169 (0,0))::U.M) T X ?_;refine Qb.shift (U':=⟨U8.I,.obj lm (.cells #[Zc 0,Qp 0] 169 (0,0))::([.obj fb (.cells [.bool false].toArray 4 (0,0)),.obj bb (.cells [.slice none 0 0].toArray 68 (0,0))]++U.M),⟨0,.par F [] false .run,none⟩⟩) (Wp perm_middle) ?_;refine Qb.makeM (x:=XV lm fb bb z B) (M₁:=[.obj fb (.cells [.bool false].toArray 4 (0,0)),.obj bb (.cells [.slice none 0 0].toArray 68 (0,0))]) (M₂:=U.M) rfl rfl ⟨none,0,0,[],.nil,(λ x hx=>by cases hx),rfl⟩ ?_;exact Fu (ds:=[]) S1 rfl ⟨rfl,rfl,rfl⟩
    .exact Fu (ds:=replicate i Xx) S3 T ⟨rfl,by show(⟨0,_,U8.tok.mu⟩:Tk)=_;rw[T],X⟩
   refine⟨NO,a3.mono ?_⟩;rintro v U9⟨ac,au,Y⟩-;have ah:∀x o,V.I x=some o->U9.I x=some o:=λ x o hx=>by rw[ac];exact ag x o hx
   conv=>whnf
   intro a ha;rw[zA];refine It ?_;rw[Mb];refine yI λ⟨wd,bx⟩=>?_;have bg:a.eval (.t 15)=.func (.func 86) #[] (Hu F H b6 b4 b5 b7 lm fb bb).toArray:=ha.get 15;refine XQ Ri (Wl MH) (.inl rfl) ?_;unfold HW;simp only[execOp,zK,Qd,Qi,Yr,bg];rw[MW];have an:=ha.put (some 26) (.func (.func 86) #[] (Hu F H b6 b4 b5 b7 lm fb bb).toArray) (by intro d hd;cases hd;decide);generalize a.put (some 26) (.func (.func 86) #[] (Hu F H b6 b4 b5 b7 lm fb bb).toArray)=a1 at an ⊢;have bh:a1.eval (.t 16)=.int .i64 i:=an.get 16;refine XQ Rj (Wl MJ) (.inl rfl) ?_;unfold HW;simp only[execOp,zL,Qd,Qi,Yr,bh];rw[MX];have S:=an.put (some 27) (.int .i64 i) (by intro d hd;cases hd;decide);generalize a1.put (some 27) (.int .i64 i)=a2 at S ⊢;have bi:a2.eval (.t 26)=.func (.func 86) #[] (Hu F H b6 b4 b5 b7 lm fb bb).toArray:=S.get 26
   have bj:(#[]++#[Operand.tmp 27].map a2.eval:Array Value)=#[.int .i64 i]:=by
    have:a2.eval (.t 27)=.int .i64 i:=S.get 27;simp[this]
   obtain⟨aw,mc,bu,a9,bs,bt⟩:∃aw mc,Yv (some (.par (XV lm fb bb z B) (ZX Q i))) aw mc/\aw=some (.par (XV lm fb bb z B) (ZX Q (i+1)))/\(∀s,Q i=some s->mc=some (.lok (XV lm fb bb z B) s .idle 0))/\(Q i=none->mc=none):=by
    cases hs:Q i with
    |none=>exact⟨_,none,.inl ⟨rfl,rfl⟩,by rw[vB hs],λ s h=>by(cases h),λ _=>rfl⟩
    |some s=>
     obtain⟨u1,u2⟩:=vC hs W.one;exact⟨_,some (.lok (XV lm fb bb z B) s .idle 0),.inr ⟨_,_,s,rfl,u1,rfl,rfl⟩,by rw[u2],λ s' h=>by cases h;rfl,λ h=>by cases h⟩
   subst a9
   have bz:Un b r w m i mc lm fb bb z B:=by
    refine⟨λ ci ae k q hk aq hg=>?_,λ ci ae aq=>bt (W.no i ci ae (xY aq))⟩;obtain⟨s,hs,hL⟩:=W.yes i ci q ae (kg hk aq hg);exact⟨s,0,bs s hs,hL⟩
   refine yJ (D:=Xx) (ds:=replicate i Xx) (Up:=⟨U9.I,U9.M,⟨0,.par F (replicate (i+1) Xx) false .run,some (.par (XV lm fb bb z B) (ZX Q (i+1)))⟩⟩) (Uc:=⟨U9.I,[],⟨0,.wrk F Xx,mc⟩⟩) Rk (Wl ML) zM bi au (Ix bx (M₁:=[]) (M₂:=U9.M) (Perm.refl _)) rfl rfl bu (λ Stop=>?_) ?_
   .rw[bj];have be:=zn (U:=⟨U9.I,[],⟨0,.wrk F Xx,mc⟩⟩) h b ba W.n r hr w i (bcan:=H) (bm:=b6) (bbk:=b4) (brt:=b5) (bwt:=b7) (lm:=lm) (fb:=fb) (bb:=bb) (g:=F) hlt (λ U' bfst hI ht bo=>?_) O1 z B W.len W.sym m W.m5 (L.imI ah) mc rfl bz Stop
    .exact be
    .have hI6':∀x o,V.I x=some o->U'.I x=some o:=λ x o hx=>hI x o (ah x o hx);exact⟨⟨ca,cc,N.imI hI6',ao.mem hI6' (λ r hr=>by cases hr),bq⟩,bo,G.imI hI6',bp.mem hI6' (λ r hr=>by cases hr),K.imI hI6',aa.imI hI6'⟩
   .refine LJ ?_;rw[MG];refine⟨by rw[Act.put,S.size,ha.size],_,S.get,?_⟩;refine⟨br,by simpa[Act.put]using S.ds,i+1,T1,⟨λ x o hx=>by show U9.I x=_;rw[ac];exact ax x o hx,O1,.inr ⟨O1,rfl,Y⟩⟩,L1⟩
  .have hge:i=b.cans.length:=by simp at hc;omega
   subst hge
   obtain⟨-,T,X⟩:0<b.cans.length/\U8.tok=⟨0,.par F (replicate b.cans.length Xx) false .run,some (.par (XV lm fb bb z B) (ZX Q b.cans.length))⟩/\U8.M=U.M:=by
    rcases af with⟨h0,_⟩|af
    .have:=W.pos;omega
    .exact af
   have hu:∀s,(if ZX Q b.cans.length s then(if s then B else z)else none)=(if s then B else z):=λ s=>by
    cases bw:ZX Q b.cans.length s with
    |true=>rfl
    |false=>rw[W.out s bw];rfl
   have av:Qb Q5 97 #[.pointer (some ⟨F,0,none⟩)] (λ v U'=>v=.tuple #[]/\U'.I=U8.I/\U'.tok=⟨0,.out,none⟩/\∃M',V3 fb bb (ZD z B) M'/\U'.M=M'++U.M) U8:=by
    refine Qb.post (R:=λ v U'=>v=.tuple #[]/\U'.I=U8.I/\U'.tok=⟨0,.out,none⟩/\∃Ms M',V3 fb bb (ZD z B) M'/\U'.M=(U.M++Ms)++M') (Bv (ds:=replicate b.cans.length Xx) (by simp;exact W.six) T λ Ms M' b2 ab=>⟨rfl,rfl,rfl,Ms.flatten,M',?_,by rw[X]⟩) λ v U'⟨hv,hI,ht,Ms,M',ab,bk⟩=>?_
    .have h1:=hu false;have h2:=hu true;simp only[Bool.false_eq_true,if_false,if_true]at h1 h2;have:JF fb bb z B (ZX Q b.cans.length false) (ZX Q b.cans.length true) M':=ab;unfold JF at this
     rwa [h1,h2]at this
    .refine⟨{ U' with M:=M'++U.M },IG ⟨Ms,?_⟩,hv,hI,ht,M',ab,rfl⟩;rw[bk,append_assoc,append_assoc];refine(perm_append_comm (l₁:=U.M) (l₂:=Ms++M')).trans ?_;rw[append_assoc];refine(perm_append_comm (l₁:=Ms) (l₂:=M'++U.M)).trans ?_;rw[append_assoc]
   refine⟨NP,av.mono ?_⟩;rintro _ U9⟨rfl,ac,au,M',⟨a,l,c,A,hA,-,rfl⟩,Y⟩-;refine⟨_,Jy (b:=bb) (e:=68) (vs:=[.slice a l c]) (by rw[Y];simp) 0 _ rfl,?_⟩;refine⟨_,Jy (b:=fb) (e:=4) (vs:=[.bool (ZD z B).isSome]) (by rw[Y];simp) 0 _ rfl,?_⟩
   conv=>whnf
   intro Ua ap _;refine⟨a,l,c,A,[.obj fb (.cells [.bool (ZD z B).isSome].toArray 4 (0,0)),.obj bb (.cells [.slice a l c].toArray 68 (0,0))],rfl,hA,?_,λ x o hx=>ap.imm x o (by rw[ac];exact ag x o (P.imm x o hx)),by rw[ap.tok,au,ak]⟩;rw[ap.own,Y];refine Perm.trans ?_ (perm_append_comm_assoc [.obj fb (.cells [.bool (ZD z B).isSome].toArray 4 (0,0)),.obj bb (.cells [.slice a l c].toArray 68 (0,0))] A U.M);exact Perm.refl _
 refine bf.okv λ v U' hw⟨a,l,c,A,Z,hv,hA,hM,hI,ht⟩=>?_;obtain⟨U1,k1,k2,k3,a',b1,cap',e,hl,bc,ab⟩:=hA.freeze (Y9 hw) hM;cases e;have a8:((ZD z B).getD []).length=l:=by have e:=(Qz (f:=encII) (n:=2) (λ _=>rfl) ((ZD z B).getD [])).symm.trans hl;omega
 subst a8;exact⟨{ U1 with M:=U.M },k1.trans (Zx (by rw[k2];exact sublist_append_right ..)),⟨_,hv,a,c,rfl,HC (enc:=encII) (n:=2) (λ _=>rfl) bc ab D1⟩,⟨λ x o hx=>k3.imm x o (hI x o hx),rfl,k3.tok.trans ht⟩⟩
end Go.Proofs
namespace Go.TM
def X9{α:Type}(F:Nat->Option α):Nat->Nat->Option α
 |_,0=>none
 |m,n+1=>match F m with
  |some x=>some x
  |none=>X9 F (m+1) n
def ER{α:Type}(F:Nat->Option α)(m n:Nat):X9 F m (n+1)=match F m with
  |some x=>some x
  |none=>X9 F (m+1) n:=rfl
def Xc(stands:Bool):Int:=if stands then 1 else 2
def Bk.staF(b:Bk)(r:Int)(stands:Bool)(F:Nat->Option (List (Int×Int))):Option (List (Int×Int)):=
 if b.askF r=0 then(if b.fatR r.toNat=Xc stands then some []else if b.fatR r.toNat=Xc (!stands)then none else X9 F 0 (b.cs.length-1))else none
end Go.TM
namespace Go.Proofs
open Go.TM
attribute [local irreducible] Qb Zm Wo
def Hp.nil{T:Type}{U:Qa T}:Hp U (.slice none 0 0) []:=⟨none,0,rfl,rfl,λ i x hx=>by simp at hx⟩
def Hp.lg{T:Type}{U U':Qa T}{v:Value}{l:List (Int×Int)}(h:Hp U v l)(k:U.lg U'):Hp U' v l:=let ⟨a,c,e,h⟩:=h;⟨a,c,e,h.lg k λ _ _ h=>h⟩
set_option maxHeartbeats 1000000 in
def DS{U:Qa Tk}(aa:U.tok=⟨0,.out,none⟩)(h:BH)(b:Bk)(hb:Zs U.frz h b)(hk:JY U)(r:Int)(stands:Bool)(F:Nat->Option (List (Int×Int)))
  (hC:b.askF r=0->b.fatR r.toNat≠Xc stands->b.fatR r.toNat≠Xc (!stands)->∀m,m+1<b.cs.length->(∀M,M<m->F M=none)->∃sd Lf Lt,HN b r.toNat (Xc stands) m sd Lf Lt/\ZD Lf Lt=F m) :
  Qb Q5 21 #[h.v,.int .i64 r,.bool stands] (λ v U'=>(∃Z,v=.tuple #[Z,.bool (b.staF r stands F).isSome,.int .i64 (b.askF r)]/\Hp U'.frz Z ((b.staF r stands F).getD []))/\U.le U') U:=by
 refine Qb.grown (R:=λ v U'=>∃Z,v=.tuple #[Z,.bool (b.staF r stands F).isSome,.int .i64 (b.askF r)]/\Hp U' Z ((b.staF r stands F).getD [])) (λ v U1 U2 hl⟨Z,e,h1⟩=>⟨Z,e,h1.lg hl⟩) (Qb.of (args:=[_,_,_]) OI Qe S1 ?_);have aj:=hb.cs.1
 repeat refine⟨rfl,?_⟩
 conv=>whnf
 intro B U1 Y hB;have hB:Zi U1 B #[.slice h.ra h.rl h.rc,.slice h.ca h.cl h.cc]:=hB;refine⟨_,⟨rfl,hB.rd⟩,?_⟩;refine⟨PA.any,(Vb h b (hb.lg Y.lg.frz2) (hk.lg Y.lg) r).go λ _=>?_⟩
 conv=>whnf
 intro b9 ag;refine⟨_,.refl _,?_⟩;by_cases hF:b.askF r=0
 .obtain⟨hok,hr0,L⟩:=Bk.askF_ok hF;obtain⟨q,rfl⟩:=Int.eq_ofNat_of_zero_le hr0;have hq:q<b.rs.length:=by unfold Bk.nr at L;omega
  have ak:=hok.nc;have ac:b.staF (q:Int) stands F=(if b.fatR q=Xc stands then some []else if b.fatR q=Xc (!stands)then none else X9 F 0 (b.cs.length-1)):=by unfold Bk.staF;rw[if_pos hF,Int.toNat_natCast]
  have hC:=hC hF;rw[Int.toNat_natCast]at hC;rw[if_pos hF,hF,ac];refine⟨rfl,Zv (vs:=[.slice h.ra h.rl h.rc,.slice h.ca h.cl h.cc]) ag rfl (by simp[Value.single]) λ U2 af N=>?_⟩;have N:Zi U2 b9 #[.slice h.ra h.rl h.rc,.slice h.ca h.cl h.cc]:=N;have z:=Y.trans af;have hB:=hB.le af;have T:=Vd (S:=Q5) (U:=U2) h b (hb.lg z.lg.frz2) hok q hq;cases stands with
  |true=>
   have ad:Xc true=1:=rfl;have ae:Xc (!true)=2:=rfl;rw[ad,ae]at hC ⊢
   repeat refine⟨rfl,?_⟩
   refine⟨_,⟨rfl,N.rd⟩,?_⟩;refine⟨Gc.any,T.go λ _=>?_⟩
   repeat refine⟨rfl,?_⟩
   conv=>whnf
   apply Qg<;>intro H
   .have W:b.fatR q=1:=by simpa using H
    rw[if_pos W]
    repeat refine⟨rfl,?_⟩
    conv=>whnf
    exact⟨⟨_,rfl,.nil⟩,z.lg⟩
   have W:b.fatR q≠1:=by simpa using H
   rw[if_neg W]
   repeat refine⟨rfl,?_⟩
   conv=>whnf
   apply Qg<;>intro H
   .have X:b.fatR q=2:=by simpa using H
    rw[if_pos X]
    repeat refine⟨rfl,?_⟩
    conv=>whnf
    exact⟨⟨_,rfl,.nil⟩,z.lg⟩
   have X:b.fatR q≠2:=by simpa using H
   rw[if_neg X]
   refine⟨Nat,λ m=>[(1,.int .i64 q),(3,.pointer (some ⟨B,0,none⟩)),(9,.pointer (some ⟨b9,0,none⟩)),(10,.int .i64 1),(12,.int .i64 (m+1:Nat))],
    λ m U'=>U2.le U'/\(m=0\/m+1<=b.cs.length)/\(∀M,M<m->F M=none)/\X9 F 0 (b.cs.length-1)=X9 F m (b.cs.length-1-m),λ m=>b.cs.length-m,0,T1,⟨.refl _,.inl rfl,S1,rfl⟩,?_⟩
   rintro m f U3⟨I,hm,V,w⟩;have ab:Z7 (((m+1:Nat):Int)+1):=I1
   have E:=z.trans I;refine⟨_,(hB.le I).sees3 (o:=1) rfl,?_⟩
   repeat refine⟨rfl,?_⟩
   conv=>whnf
   apply Qg<;>intro H
   .have hlt:m+1<b.cs.length:=by simp at H;omega
    obtain⟨sd,Lf,Lt,hD,Q⟩:=hC W X m hlt V;rw[show b.cs.length-1-m=(b.cs.length-1-(m+1))+1 by omega,ER]at w;refine⟨_,⟨rfl,(N.le I).rd⟩,?_⟩;refine⟨Td.any,(DI (U:=U3) (E.tok.trans aa) h b (hb.lg E.lg.frz2) hok q hq 1 m hD).mono ?_⟩;rintro _ U4⟨⟨Z,rfl,G⟩,P⟩-;rw[Q]at G ⊢;cases K:F m with
    |some x=>
     rw[K]at G w;obtain⟨a1,c1,rfl,L⟩:=G;rw[w]
     repeat refine⟨rfl,?_⟩
     conv=>whnf
     exact⟨⟨_,rfl,⟨a1,c1,rfl,L⟩⟩,(E.trans P).lg⟩
    |none=>
     rw[K]at G w;obtain⟨a1,c1,rfl,L⟩:=G
     repeat refine⟨rfl,?_⟩
     refine⟨ab,?_⟩
     conv=>whnf
     exact⟨rfl,m+1,T1,⟨I.trans P,.inr O1,λ M ai=>by
      by_cases e:M=m
      .rw[e];exact K
      .exact V M O1,w⟩,L1⟩
   .have hge:b.cs.length<=m+1:=by simp at H;omega
    rw[show b.cs.length-1-m=0 by omega]at w;have w:X9 F 0 (b.cs.length-1)=none:=w;rw[w]
    repeat refine⟨rfl,?_⟩
    conv=>whnf
    exact⟨⟨_,rfl,.nil⟩,E.lg⟩
  |false=>
   have ad:Xc false=2:=rfl;have ae:Xc (!false)=1:=rfl;rw[ad,ae]at hC ⊢
   repeat refine⟨rfl,?_⟩
   refine⟨_,⟨rfl,N.rd⟩,?_⟩;refine⟨Gc.any,T.go λ _=>?_⟩
   repeat refine⟨rfl,?_⟩
   conv=>whnf
   apply Qg<;>intro H
   .have W:b.fatR q=2:=by simpa using H
    rw[if_pos W]
    repeat refine⟨rfl,?_⟩
    conv=>whnf
    exact⟨⟨_,rfl,.nil⟩,z.lg⟩
   have W:b.fatR q≠2:=by simpa using H
   rw[if_neg W]
   repeat refine⟨rfl,?_⟩
   conv=>whnf
   apply Qg<;>intro H
   .have X:b.fatR q=1:=by simpa using H
    rw[if_pos X]
    repeat refine⟨rfl,?_⟩
    conv=>whnf
    exact⟨⟨_,rfl,.nil⟩,z.lg⟩
   have X:b.fatR q≠1:=by simpa using H
   rw[if_neg X]
   refine⟨Nat,λ m=>[(1,.int .i64 q),(3,.pointer (some ⟨B,0,none⟩)),(9,.pointer (some ⟨b9,0,none⟩)),(10,.int .i64 2),(12,.int .i64 (m+1:Nat))],
    λ m U'=>U2.le U'/\(m=0\/m+1<=b.cs.length)/\(∀M,M<m->F M=none)/\X9 F 0 (b.cs.length-1)=X9 F m (b.cs.length-1-m),λ m=>b.cs.length-m,0,T1,⟨.refl _,.inl rfl,S1,rfl⟩,?_⟩
   rintro m f U3⟨I,hm,V,w⟩;have ab:Z7 (((m+1:Nat):Int)+1):=I1
   have E:=z.trans I;refine⟨_,(hB.le I).sees3 (o:=1) rfl,?_⟩
   repeat refine⟨rfl,?_⟩
   conv=>whnf
   apply Qg<;>intro H
   .have hlt:m+1<b.cs.length:=by simp at H;omega
    obtain⟨sd,Lf,Lt,hD,Q⟩:=hC W X m hlt V;rw[show b.cs.length-1-m=(b.cs.length-1-(m+1))+1 by omega,ER]at w;refine⟨_,⟨rfl,(N.le I).rd⟩,?_⟩;refine⟨Td.any,(DI (U:=U3) (E.tok.trans aa) h b (hb.lg E.lg.frz2) hok q hq 2 m hD).mono ?_⟩;rintro _ U4⟨⟨Z,rfl,G⟩,P⟩-;rw[Q]at G ⊢;cases K:F m with
    |some x=>
     rw[K]at G w;obtain⟨a1,c1,rfl,L⟩:=G;rw[w]
     repeat refine⟨rfl,?_⟩
     conv=>whnf
     exact⟨⟨_,rfl,⟨a1,c1,rfl,L⟩⟩,(E.trans P).lg⟩
    |none=>
     rw[K]at G w;obtain⟨a1,c1,rfl,L⟩:=G
     repeat refine⟨rfl,?_⟩
     refine⟨ab,?_⟩
     conv=>whnf
     exact⟨rfl,m+1,T1,⟨I.trans P,.inr O1,λ M ai=>by
      by_cases e:M=m
      .rw[e];exact K
      .exact V M O1,w⟩,L1⟩
   .have hge:b.cs.length<=m+1:=by simp at H;omega
    rw[show b.cs.length-1-m=0 by omega]at w;have w:X9 F 0 (b.cs.length-1)=none:=w;rw[w]
    repeat refine⟨rfl,?_⟩
    conv=>whnf
    exact⟨⟨_,rfl,.nil⟩,E.lg⟩
 .have ac:b.staF r stands F=none:=by unfold Bk.staF;rw[if_neg hF]
  rw[if_neg hF,ac];refine⟨rfl,Zv (vs:=[.slice none 0 0,.slice none 0 0]) ag rfl (by simp[Value.single]) λ U3 ah _=>?_⟩
  repeat refine⟨rfl,?_⟩
  conv=>whnf
  apply Qg<;>intro H
  .repeat refine⟨rfl,?_⟩
   conv=>whnf
   exact⟨⟨_,rfl,.nil⟩,(Y.trans ah).lg⟩
  .exact absurd (by simpa using H) hF
end Go.Proofs
namespace Go.TM
variable{T:Type}{P:Program}{S:Sys P T}{U U':Qa T}
def WV(U:Qa T)(a:Option Addr)(len:Nat)(l:List Bool):Prop:=l.length=len/\∀i x,l[i]?=some x->∃b,a=some b/\b.spot=none/\U.sees (b.add (i*1)) (.bool x)
def WV.lg{a:Option Addr}{len:Nat}{l:List Bool}(h:WV U a len l)(k:U.lg U'):WV U' a len l:=⟨h.1,λ i x hx=>let ⟨ad,e,s,hs⟩:=h.2 i x hx;⟨ad,e,s,hs.lg k⟩⟩
def WV.at{a:Option Addr}{len:Nat}{l:List Bool}(h:WV U a len l){i:Nat}(w:i<len):∃b x,l[i]?=some x/\a=some b/\b.spot=none/\U.sees (b.add (i*1)) (.bool x):=by
 have f:i<l.length:=by rw[h.1];exact w
 have hx:l[i]?=some l[i]:=getElem?_eq_getElem f;obtain⟨b,e,s,z⟩:=h.2 i _ hx;exact⟨b,_,hx,e,s,z⟩
def VP{b:Nat}{l:List Bool}(h:Zi U b (l.map .bool).toArray):WV U (some ⟨b,0,none⟩) l.length l:=
 ⟨rfl,λ i x hx=>⟨_,rfl,rfl,by rw[Nat.mul_one,Qo];exact h.sees (by rw[Nat.zero_add];simp[hx])⟩⟩
end Go.TM
namespace Go.Proofs
open Go.TM
section
variable{T:Type}{S:TM.Sys Tryz.prog T}{U:Qa T}
attribute [local irreducible] Qb Zm Wo
def DC(a a':Option Addr)(len cap b cap':Nat)(l l':List Int)(hl:Z6 U a len l)(hl':Z6 U a' b l')(I:len<2^60) :
  Qb S 24 #[.slice a len cap,.slice a' b cap'] (λ v U'=>v=.bool (decide (l=l'))/\U'=U) U:=by
 refine Qb.pure' (Qb.of (args:=[_,_]) OK Qe S1 ?_);have h1:=hl.1;have h2:=hl'.1
 repeat refine⟨rfl,?_⟩
 conv=>whnf
 apply Qg<;>intro z
 .have hne:len≠b:=by intro e;subst e;simp at z
  repeat refine⟨rfl,?_⟩
  refine⟨?_,(Qa.le.refl _).lg⟩;rw[decide_eq_false (λ e=>hne (by rw[<- h1,<- h2,e]))]
 have F:len=b:=Int.ofNat.inj (by simpa using z:(len:Int)=b);subst F;refine⟨Nat,λ i=>[(0,.slice a len cap),(1,.slice a' len cap'),(5,.int .i64 i)],λ i U'=>U.le U'/\i<=len/\l.take i=l'.take i,λ i=>len-i,0,T1,⟨.refl _,O1,rfl⟩,?_⟩;rintro i f M⟨h,P,B⟩
 repeat refine⟨rfl,?_⟩
 conv=>whnf
 apply Qg<;>intro z
 .have hlt:i<len:=by simpa using z
  obtain⟨K,x,hx,rfl,-,L⟩:=(hl.lg h.lg).at hlt;obtain⟨E,y,hy,rfl,-,H⟩:=(hl'.lg h.lg).at hlt;have G:Z7 (i+1):=I1
  refine⟨K,i,⟨rfl,rfl,hlt⟩,_,L,E,i,⟨rfl,rfl,hlt⟩,_,H,?_⟩
  conv=>whnf
  intro N w _
  repeat refine⟨rfl,?_⟩
  conv=>whnf
  apply Qg<;>intro z
  .have hne:x≠y:=by simpa using z
   repeat refine⟨rfl,?_⟩
   conv=>whnf
   exact⟨by rw[decide_eq_false (KU hx hy hne)],(h.trans w).lg⟩
  .have hxy:x=y:=by simpa using z
   refine⟨G,?_⟩
   conv=>whnf
   exact⟨rfl,i+1,T1,⟨h.trans w,O1,Vf hx hy B hxy⟩,L1⟩
 .have hge:len<=i:=by simpa using z
  rw[take_of_length_le O1,take_of_length_le O1]at B
  repeat refine⟨rfl,?_⟩
  conv=>whnf
  exact⟨by rw[decide_eq_true B],h.lg⟩
def Wz(a a':Option Addr)(len cap b cap':Nat)(l l':List Bool)(hl:WV U a len l)(hl':WV U a' b l')(I:len<2^60) :
  Qb S 23 #[.slice a len cap,.slice a' b cap'] (λ v U'=>v=.bool (decide (l=l'))/\U'=U) U:=by
 refine Qb.pure' (Qb.of (args:=[_,_]) Py Qe S1 ?_);have h1:=hl.1;have h2:=hl'.1
 repeat refine⟨rfl,?_⟩
 conv=>whnf
 apply Qg<;>intro z
 .have hne:len≠b:=by intro e;subst e;simp at z
  repeat refine⟨rfl,?_⟩
  refine⟨?_,(Qa.le.refl _).lg⟩;rw[decide_eq_false (λ e=>hne (by rw[<- h1,<- h2,e]))]
 have F:len=b:=Int.ofNat.inj (by simpa using z:(len:Int)=b);subst F;refine⟨Nat,λ i=>[(0,.slice a len cap),(1,.slice a' len cap'),(5,.int .i64 i)],λ i U'=>U.le U'/\i<=len/\l.take i=l'.take i,λ i=>len-i,0,T1,⟨.refl _,O1,rfl⟩,?_⟩;rintro i f M⟨h,P,B⟩
 repeat refine⟨rfl,?_⟩
 conv=>whnf
 apply Qg<;>intro z
 .have hlt:i<len:=by simpa using z
  obtain⟨K,x,hx,rfl,-,L⟩:=(hl.lg h.lg).at hlt;obtain⟨E,y,hy,rfl,-,H⟩:=(hl'.lg h.lg).at hlt;have G:Z7 (i+1):=I1
  refine⟨K,i,⟨rfl,rfl,hlt⟩,_,L,E,i,⟨rfl,rfl,hlt⟩,_,H,?_⟩
  conv=>whnf
  intro N w _
  repeat refine⟨rfl,?_⟩
  conv=>whnf
  apply Qg<;>intro z
  .have hne:x≠y:=by simpa using z
   repeat refine⟨rfl,?_⟩
   conv=>whnf
   exact⟨by rw[decide_eq_false (KU hx hy hne)],(h.trans w).lg⟩
  .have hxy:x=y:=by simpa using z
   refine⟨G,?_⟩
   conv=>whnf
   exact⟨rfl,i+1,T1,⟨h.trans w,O1,Vf hx hy B hxy⟩,L1⟩
 .have hge:len<=i:=by simpa using z
  rw[take_of_length_le O1,take_of_length_le O1]at B
  repeat refine⟨rfl,?_⟩
  conv=>whnf
  exact⟨by rw[decide_eq_true B],h.lg⟩
def DA(a a':Option Addr)(len cap b cap':Nat)(l l':List (Int×Int))(hl:Q7 U a len 2 l λ x vs=>vs=encII x)(hl':Q7 U a' b 2 l' λ x vs=>vs=encII x)(L:len<2^60) :
  Qb S 25 #[.slice a len cap,.slice a' b cap'] (λ v U'=>v=.bool (decide (l=l'))/\U'=U) U:=by
 refine Qb.pure' (Qb.of (args:=[_,_]) OL Qe S1 ?_);have h1:=hl.1;have h2:=hl'.1
 repeat refine⟨rfl,?_⟩
 conv=>whnf
 apply Qg<;>intro B
 .have hne:len≠b:=by intro e;subst e;simp at B
  repeat refine⟨rfl,?_⟩
  refine⟨?_,(Qa.le.refl _).lg⟩;rw[decide_eq_false (λ e=>hne (by rw[<- h1,<- h2,e]))]
 have G:len=b:=Int.ofNat.inj (by simpa using B:(len:Int)=b);subst G;refine⟨Nat,λ i=>[(0,.slice a len cap),(1,.slice a' len cap'),(5,.int .i64 i)],λ i U'=>U.le U'/\i<=len/\l.take i=l'.take i,λ i=>len-i,0,T1,⟨.refl _,O1,rfl⟩,?_⟩;rintro i f P⟨w,Y,E⟩
 repeat refine⟨rfl,?_⟩
 conv=>whnf
 apply Qg<;>intro B
 .have hlt:i<len:=by simpa using B
  obtain⟨M,x,vs,hx,rfl,-,rfl,-,N⟩:=(hl.lg w.lg λ _ _ h=>h).at hlt;obtain⟨F,y,vs,hy,rfl,-,rfl,-,K⟩:=(hl'.lg w.lg λ _ _ h=>h).at hlt;have I:Z7 (i+1):=I1
  refine⟨M,i,⟨rfl,rfl,hlt⟩,_,⟨rfl,N⟩,F,i,⟨rfl,rfl,hlt⟩,_,⟨rfl,K⟩,?_⟩
  conv=>whnf
  intro Q z _
  conv=>whnf
  refine ye UK (vs:=encII x) (ws:=encII y) rfl rfl K1 K1 ?_
  have H:ZF (encII x) (encII y)=decide (x=y):=by
   obtain⟨T,W⟩:=x;obtain⟨V,X⟩:=y;simp[encII,ZF,HT,Prod.mk.injEq,Bool.decide_and];rfl
  rw[H]
  repeat refine⟨rfl,?_⟩
  conv=>whnf
  apply Qg<;>intro B
  .have hne:x≠y:=by simpa using B
   repeat refine⟨rfl,?_⟩
   conv=>whnf
   exact⟨by rw[decide_eq_false (KU hx hy hne)],(w.trans z).lg⟩
  .have hxy:x=y:=by simpa using B
   refine⟨I,?_⟩
   conv=>whnf
   exact⟨rfl,i+1,T1,⟨w.trans z,O1,Vf hx hy E hxy⟩,L1⟩
 .have hge:len<=i:=by simpa using B
  rw[take_of_length_le O1,take_of_length_le O1]at E
  repeat refine⟨rfl,?_⟩
  conv=>whnf
  exact⟨by rw[decide_eq_true E],w.lg⟩
def qb:Qb S 18 #[] (λ v U'=>(∃h:BH,v=h.v/\Zs U'.frz h Ja)/\U.le U') U:=by
 refine Qb.grown (R:=λ v U'=>∃h:BH,v=h.v/\Zs U' h Ja) (λ v U1 U2 hl⟨h,e,h1⟩=>⟨h,e,h1.lg hl⟩) (Qb.of (args:=[]) UM Qe S1 ?_)
 conv=>whnf
 intro H ak;refine⟨_,.refl _,?_⟩;have B:=Z2 (U:=U) H (.cells #[.slice none 0 0,.slice none 0 0] 38);have L:(U.put H (.cells #[.slice none 0 0,.slice none 0 0] 38)).M=.obj H (.cells [.slice none 0 0,.slice none 0 0].toArray 38 (0,0))::U.M:=rfl;generalize U.put H (.cells #[.slice none 0 0,.slice none 0 0] 38)=s0 at B L ⊢
 conv=>whnf
 intro V ae;refine Zh ae λ s1 h1 X=>?_
 conv=>whnf
 intro b2 af;refine Zh af λ s2 h2 Y=>?_
 conv=>whnf
 intro b3 ag;refine Zh ag λ s3 h3 Z=>?_
 conv=>whnf
 intro b5 ah;refine Zh ah λ s4 h4 aa=>?_
 conv=>whnf
 intro b7 ai;refine Zh ai λ s5 h5 ab=>?_
 conv=>whnf
 intro b8 aj;refine Zh aj λ s6 h6 ac=>?_
 conv=>whnf
 intro w Q;refine Zh Q λ f h7 P=>?_;have g6:=h7;have g5:=h6.trans g6;have g4:=h5.trans g5;have g3:=h4.trans g4;have g2:=h3.trans g3;have g1:=h2.trans g2;have E:=h1.trans g1;have W:=E.own.trans L
 have ad:Zs f.frz ⟨some ⟨V,0,none⟩,3,3,some ⟨w,0,none⟩,3,3⟩ Ja:=by
  have k1:Zi f.frz V _:=(X.le g1).imI λ _ _ h=>h;have k2:Zi f.frz b2 _:=(Y.le g2).imI λ _ _ h=>h;have k3:Zi f.frz b3 _:=(Z.le g3).imI λ _ _ h=>h;have k5:Zi f.frz b5 _:=(aa.le g4).imI λ _ _ h=>h;have k7:Zi f.frz b7 _:=(ab.le g5).imI λ _ _ h=>h;have k8:Zi f.frz b8 _:=(ac.le g6).imI λ _ _ h=>h;have F:Zi f.frz w _:=P.imI λ _ _ h=>h
  have one:∀(b:Nat)(n:Int),Zi f.frz b #[.int .i64 n]->Z6 f.frz (some ⟨b,0,none⟩) 1 [n]:=λ b n h=>Zi.ints (l:=[n]) h λ i x hx=>by
   cases i with
   |zero=>simp at hx;subst hx;rfl
   |succ i=>simp at hx
  have lst:∀(b:Nat)(a:Option Addr)(len cap:Nat)(g:List Int),Zi f.frz b #[.slice a len cap]->Z6 f.frz a len g->len<2^60->Wx f.frz (some ⟨b,0,none⟩) 1 [g]:=λ b a len cap g h hg hl=>by
   refine⟨rfl,λ i x hx=>?_⟩;cases i with
   |zero=>
    simp at hx;subst hx;exact⟨_,_,rfl,rfl,⟨a,len,cap,rfl,hg,hl⟩,rfl,by rw[Nat.zero_mul];exact h.rd⟩
   |succ i=>simp at hx
  have G:∀(o:Nat)(v0 v1 v2 v3:Value)(c:Array Value),Zi f.frz w c->c[o]?=some v0->c[o+1]?=some v1->c[o+2]?=some v2->c[o+3]?=some v3->Je f.frz ⟨w,o,none⟩ [v0,v1,v2,v3]:=by
   intro o v0 v1 v2 v3 c h e0 e1 e2 e3;refine h.reads λ k v z=>?_;have hk:=(List.getElem?_eq_some_iff.1 z).1;simp at hk;obtain rfl|rfl|rfl|rfl:k=0\/k=1\/k=2\/k=3:=O1
   .cases z;exact e0
   .cases z;exact e1
   .cases z;exact e2
   .cases z;exact e3
  have nil:Z6 f.frz none 0 []:=⟨rfl,λ i x hx=>by simp at hx⟩;refine⟨⟨rfl,λ i x hx=>?_⟩,⟨rfl,λ i x hx=>?_⟩,by show 3<2^60;decide,by show 3<2^60;decide,D1,D1⟩
  .refine⟨_,_,rfl,rfl,rfl,rfl,λ k v z=>?_⟩;have hk:k=0:=by have:=(List.getElem?_eq_some_iff.1 z).1;simp at this;omega
   subst hk;simp at z;subst z;rw[Qo,Qo];refine k1.sees ?_;have hi:i<3:=by have:=(List.getElem?_eq_some_iff.1 hx).1;exact this
   obtain rfl|rfl|rfl:i=0\/i=1\/i=2:=O1
   all_goals(cases hx;rfl)
  .have hi:i<3:=by have:=(List.getElem?_eq_some_iff.1 hx).1;exact this
   obtain rfl|rfl|rfl:i=0\/i=1\/i=2:=O1
   .cases hx;exact⟨_,_,rfl,rfl,⟨_,_,_,_,_,_,rfl,lst b3 _ 1 1 _ k3 (one b2 0 k2) D1,D1,nil,D1⟩,rfl,by rw[Qo];exact G _ _ _ _ _ _ F rfl rfl rfl rfl⟩
   .cases hx;exact⟨_,_,rfl,rfl,⟨_,_,_,_,_,_,rfl,lst b5 _ 0 0 _ k5 nil D1,D1,nil,D1⟩,rfl,by rw[Qo];exact G _ _ _ _ _ _ F rfl rfl rfl rfl⟩
   .cases hx;exact⟨_,_,rfl,rfl,⟨_,_,_,_,_,_,rfl,lst b8 _ 1 1 _ k8 (one b7 1 k7) D1,D1,nil,D1⟩,rfl,by rw[Qo];exact G _ _ _ _ _ _ F rfl rfl rfl rfl⟩
 refine⟨rfl,Wd (b:=H) (e:=38) (c:=#[.slice none 0 0,.slice none 0 0]) (M₀:=U.M) (vs:=[.slice (some ⟨V,0,none⟩) 3 3,.slice (some ⟨w,0,none⟩) 3 3]) [] W rfl (by simp[Value.single]) λ s8 K T N=>?_⟩;refine⟨_,⟨rfl,Q9 [] N⟩,⟨⟨_,_,_,_,_,_⟩,rfl,ad.lg ⟨λ x o hx=>by show s8.I x=_;rw[K];exact hx,⟨[],rfl⟩,T⟩⟩,⟨λ x o hx=>by rw[K];exact E.imm x o (B.imm x o hx),⟨[_],N⟩,T.trans (E.tok.trans B.tok)⟩⟩
end
end Go.Proofs
namespace Go.TM
def Iw:Ja.flaw Zk=0:=K1
def vZ:(Ja.outF [0,1,2],Ja.ends [0,1,2])=(0,[false,false,true],[true,true,false]):=K1
def v_:(Ja.outF [1,0,2],Ja.ends [1,0,2])=(0,[false,true,false],[false,true,true]):=K1
def kb:Ja.wdF 1=[0]:=K1
def pW:Ja.dcF 0=[1]:=K1
def pX:Ja.dcF 1=[0,1]:=K1
def G9:(Ja.askF 0,Ja.askF 1,Ja.askF 2)=(0,0,0):=K1
end Go.TM
namespace Go.Proofs
open Go.TM
def HP(b:Bk)(r:Nat)(w:Int)(m:Nat)(f:Nat->Option Bool)(h z:Option (List (Int×Int))):Bool:=(range b.cans.length).all λ i=>match b.cans[i]? with
 |none=>true
 |some ci=>match(TM.parts (b.cans.drop (i+1)) m).find? (λ q=>b.good r w (ci::q))with
  |none=>f i==none
  |some q=>match f i with
   |some s=>(if s then z else h)==some (ci::q)
   |none=>false
def So{b:Bk}{r:Nat}{w:Int}{m:Nat}{z:Nat->Option Bool}{B E:Option (List (Int×Int))}(h:HP b r w m z B E=true):∀i ci,b.cans[i]?=some ci->(TM.parts (b.cans.drop (i+1)) m).find? (λ q=>b.good r w (ci::q))=none->z i=none:=by
 intro i ci f hf;unfold HP at h;rw[all_eq_true]at h;have:=h i (by simpa using(List.getElem?_eq_some_iff.1 f).1);rw[f]at this;simp only[hf]at this;simpa using this
def OC{b:Bk}{r:Nat}{w:Int}{m:Nat}{z:Nat->Option Bool}{B E:Option (List (Int×Int))}(h:HP b r w m z B E=true):∀i ci q,b.cans[i]?=some ci->(TM.parts (b.cans.drop (i+1)) m).find? (λ q=>b.good r w (ci::q))=some q->∃s,z i=some s/\(if s then E else B)=some (ci::q):=by
 intro i ci q f hf;unfold HP at h;rw[all_eq_true]at h;have:=h i (by simpa using(List.getElem?_eq_some_iff.1 f).1);rw[f]at this;simp only[hf]at this;cases F:z i with
 |none=>rw[F]at this;cases this
 |some s=>
  rw[F]at this;exact⟨s,rfl,by simpa using this⟩
def UC:Nat->Option Bool:=λ i=>if i=0 then some false else none
def M5:Nat->Option Bool:=λ _=>none
def UD:Nat->Option Bool:=λ i=>if i=2 then some false else if i=3 then some true else none
def Lz:HP Ja 1 1 0 UC (some [(0,1)]) none=true:=K1
def LA:HP Ja 2 1 0 M5 none none=true:=K1
def LB:HP Ja 2 1 1 UD (some [(1,0),(2,0)]) (some [(1,2),(2,0)])=true:=K1
def Ob:Ja.cans.Nodup:=by rw[Iv];decide
def H3:Ja.cans.length=6:=by rw[Iv];rfl
def ou:HN Ja 1 1 0 UC (some [(0,1)]) none where
 n:=Ob
 pos:=by rw[H3];decide
 six:=by rw[H3];decide
 m5:=D1
 len:=λ x hx=>by rcases hx with h|h <;> cases h;decide
 sym:=λ x y _ h=>by cases h
 no:=So Lz
 yes:=OC Lz
 one:=λ i j s h1 h2=>by
  unfold UC at h1 h2;split at h1 <;> split at h2 <;> simp_all
 out:=λ s h=>by cases s <;> first|rfl|(rw[H3]at h;exact absurd h D1)
def ov:HN Ja 2 1 0 M5 none none where
 n:=Ob
 pos:=by rw[H3];decide
 six:=by rw[H3];decide
 m5:=D1
 len:=λ x hx=>by rcases hx with h|h <;> cases h
 sym:=λ x y _ h=>by cases h
 no:=So LA
 yes:=OC LA
 one:=λ i j s h1 h2=>by cases h1
 out:=λ s h=>by cases s <;> rfl
def ow:HN Ja 2 1 1 UD (some [(1,0),(2,0)]) (some [(1,2),(2,0)]) where
 n:=Ob
 pos:=by rw[H3];decide
 six:=by rw[H3];decide
 m5:=D1
 len:=λ x hx=>by rcases hx with h|h <;> cases h <;> decide
 sym:=λ x y h1 h2=>by cases h1;cases h2;rfl
 no:=So LB
 yes:=OC LB
 one:=λ i j s h1 h2=>by
  unfold UD at h1 h2;split at h1
  .cases h1;split at h2
   .omega
   .split at h2 <;> cases h2
  .split at h1
   .cases h1;split at h2
    .cases h2
    .split at h2
     .omega
     .cases h2
   .cases h1
 out:=λ s h=>by
  rw[H3]at h;cases s <;> exact absurd h D1
def GQ:Nat->Option (List (Int×Int)):=λ _=>some [(0,1)]
def GR:Nat->Option (List (Int×Int)):=λ m=>if m=0 then none else some [(1,0),(2,0)]
def Lw:(Ja.staF 1 true GQ,Ja.staF 2 true GR)=(some [(0,1)],some [(1,0),(2,0)]):=K1
def yX:∀m,m+1<Ja.cs.length->(∀w,w<m->GQ w=none)->∃z f h,HN Ja 1 1 m z f h/\ZD f h=GQ m:=by
 intro m hm b;cases m with
 |zero=>exact⟨_,_,_,ou,rfl⟩
 |succ m=>cases b 0 O1
def yY:∀m,m+1<Ja.cs.length->(∀h,h<m->GR h=none)->∃z b f,HN Ja 2 1 m z b f/\ZD b f=GR m:=by
 intro m hm w
 have:m=0\/m=1:=by
  have:Ja.cs.length=3:=rfl;omega
 rcases this with rfl|rfl
 .exact⟨_,_,_,ov,rfl⟩
 .exact⟨_,_,_,ow,rfl⟩
end Go.Proofs
namespace Go.TM
variable{T:Type}{U U':Qa T}
def WL.c{a:Option Addr}{l:List Bool}{len cap:Nat}(h:WL U (.slice a len cap) l):len=l.length/\WV U a l.length l:=by
 obtain⟨a',cap',e,h⟩:=h;cases e;exact⟨rfl,rfl,h⟩
def XL{b:Nat}{l:List Int}(h:Zi U b (l.map λ n=>Value.int .i64 n).toArray):Z6 U (some ⟨b,0,none⟩) l.length l:=
 h.ints λ i x hx=>by simp[hx]
def IH{b:Nat}{l:List (Int×Int)}(h:Zi U b (l.flatMap Go.Proofs.encII).toArray):Q7 U (some ⟨b,0,none⟩) l.length 2 l (λ x vs=>vs=Go.Proofs.encII x):=
 HC (enc:=Go.Proofs.encII) (n:=2) (λ _=>rfl) (.inr ⟨_,rfl,h.rd⟩) (λ f e=>by cases e;rfl) D1
end Go.TM
namespace Go.Proofs
open Go.TM
attribute [local irreducible] Qb Zm Wo
set_option maxHeartbeats 4000000 in
def Zmd{U:Qa Tk}(aw:U.tok=⟨0,.out,none⟩)(hk:JY U):Qb Q5 6 #[] (λ v U'=>v=.bool true/\U'=U) U:=by
 refine Qb.pure' (Qb.of (args:=[]) kn Qe S1 ?_);refine⟨UM.any,qb.mono ?_⟩;rintro _ s1⟨⟨h,rfl,ht⟩,h1⟩-
 conv=>whnf
 intro b1 dh;refine⟨_,.refl _,rfl,Zv (vs:=[.slice h.ra h.rl h.rc,.slice h.ca h.cl h.cc]) dh rfl (by simp[Value.single]) λ s2 h2 b=>?_⟩;have b:Zi s2 b1 #[.slice h.ra h.rl h.rc,.slice h.ca h.cl h.cc]:=b;have ht:Zs s2.frz h Ja:=ht.lg h2.lg.frz2;have e2:U.le s2:=h1.trans h2;refine⟨_,⟨rfl,b.rd⟩,?_⟩
 conv=>whnf
 intro c3 df;refine Zh df λ s3 h3 di=>?_;have z3:s2.frz.lg s3.frz:=h3.lg.frz2;have e3:U.le s3:=e2.trans h3;have b:=b.le h3;have ht:=ht.lg z3;have il:Z6 s3.frz (some ⟨c3,0,none⟩) 3 [0,1,2]:=XL (l:=[0,1,2]) (di.imI λ _ _ h=>h);refine⟨O_.any,(DH h Ja ht (hk.lg e3.lg) _ 3 3 [0,1,2] il D1).mono ?_⟩;rintro _ s4⟨⟨v1,v2,rfl,hx,hy⟩,h4⟩-;obtain⟨af,ae⟩:=Prod.mk.inj vZ;have ae:Ja.ends (List.map Int.toNat [0,1,2])=_:=ae;rw[af,if_pos rfl,ae]at hx hy;rw[af];obtain⟨xa,xc,rfl,-⟩:=id hx;obtain⟨ya,yc,rfl,-⟩:=id hy;have f:=hx.c.2;have w:=hy.c.2;clear il hx hy af ae;have z4:s3.frz.lg s4.frz:=h4.lg.frz2;have e4:U.le s4:=e3.trans h4;have b:=b.le h4;have ht:=ht.lg z4;refine⟨_,⟨rfl,b.rd⟩,?_⟩
 conv=>whnf
 intro c5 dg;refine Zh dg λ s5 h5 dj=>?_;have z5:s4.frz.lg s5.frz:=h5.lg.frz2;have e5:U.le s5:=e4.trans h5;have b:=b.le h5;have ht:=ht.lg z5;have f:=f.lg z5;have w:=w.lg z5;have il:Z6 s5.frz (some ⟨c5,0,none⟩) 3 [1,0,2]:=XL (l:=[1,0,2]) (dj.imI λ _ _ h=>h);refine⟨O_.any,(DH h Ja ht (hk.lg e5.lg) _ 3 3 [1,0,2] il D1).mono ?_⟩;rintro _ s6⟨⟨v1,v2,rfl,hx,hy⟩,h6⟩-;obtain⟨af,ae⟩:=Prod.mk.inj v_;have ae:Ja.ends (List.map Int.toNat [1,0,2])=_:=ae;rw[af,if_pos rfl,ae]at hx hy;rw[af];obtain⟨ua,uc,rfl,-⟩:=id hx;obtain⟨va,vc,rfl,-⟩:=id hy;have z:=hx.c.2;have B:=hy.c.2;clear il hx hy af ae;have z6:s5.frz.lg s6.frz:=h6.lg.frz2;have e6:U.le s6:=e5.trans h6;have b:=b.le h6;have ht:=ht.lg z6;have f:=f.lg z6;have w:=w.lg z6;refine⟨_,⟨rfl,b.rd⟩,?_⟩;refine⟨UJ.any,(qV h Ja ht (hk.lg e6.lg)).mono ?_⟩;rintro _ s7⟨⟨v1,v2,rfl,hx,hy⟩,h7⟩-;rw[Iw,if_pos rfl]at hx hy;rw[Iw];rw[Fa.1]at hx;rw[Fa.2]at hy;obtain⟨ra,rc,rfl,fr⟩:=hx;obtain⟨ca,cc,rfl,E⟩:=hy;have z7:s6.frz.lg s7.frz:=h7.lg.frz2;have e7:U.le s7:=e6.trans h7;have b:=b.le h7;have ht:=ht.lg z7;have f:=f.lg z7;have w:=w.lg z7;have z:=z.lg z7;have B:=B.lg z7;refine⟨_,⟨rfl,b.rd⟩,?_⟩;refine⟨UN.any,(qv h Ja ht (hk.lg e7.lg) 1).mono ?_⟩;rintro _ s8⟨⟨v1,v2,rfl,hx,hy⟩,h8⟩-;have ea:Ja.askF 1=0:=(Prod.mk.inj (Prod.mk.inj G9).2).1;rw[ea,if_pos rfl]at hx hy;rw[ea];have a8:(Ja.difS (Int.toNat 1) true).map (λ(k:Nat)=>(k:Int))=[1,0,2]:=by rw[show Ja.difS (Int.toNat 1) true=_ from Dd.1];rfl
 have ed2:(Ja.difS (Int.toNat 1) false).map (λ(k:Nat)=>(k:Int))=[0,1,2]:=by rw[show Ja.difS (Int.toNat 1) false=_ from Dd.2];rfl
 rw[a8]at hx;rw[ed2]at hy;obtain⟨la,lc,rfl,G⟩:=hx;obtain⟨ka,kc,rfl,F⟩:=hy;clear ea a8 ed2;have z8:s7.frz.lg s8.frz:=h8.lg.frz2;have e8:U.le s8:=e7.trans h8;have b:=b.le h8;have ht:=ht.lg z8;have f:=f.lg z8;have w:=w.lg z8;have z:=z.lg z8;have B:=B.lg z8;have fr:=fr.lg z8;have E:=E.lg z8;refine⟨_,⟨rfl,b.rd⟩,?_⟩;refine⟨OI.any,(DS (e8.tok.trans aw) h Ja ht (hk.lg e8.lg) 1 true GQ λ _ _ _=>yX).mono ?_⟩;rintro _ s9⟨⟨v1,rfl,hx⟩,h9⟩-;have es:Ja.staF 1 true GQ=some [(0,1)]:=(Prod.mk.inj Lw).1;have ea:Ja.askF 1=0:=(Prod.mk.inj (Prod.mk.inj G9).2).1;rw[es]at hx;rw[es,ea];obtain⟨sa,sc,rfl,H⟩:=hx;have H:Q7 s9.frz sa 1 2 [(0,1)] (λ x vs=>vs=encII x):=H;clear es ea;have z9:s8.frz.lg s9.frz:=h9.lg.frz2;have e9:U.le s9:=e8.trans h9;have b:=b.le h9;have ht:=ht.lg z9;have f:=f.lg z9;have w:=w.lg z9;have z:=z.lg z9;have B:=B.lg z9;have fr:=fr.lg z9;have E:=E.lg z9;have G:=G.lg z9;have F:=F.lg z9;refine⟨_,⟨rfl,b.rd⟩,?_⟩;refine⟨OI.any,(DS (e9.tok.trans aw) h Ja ht (hk.lg e9.lg) 2 true GR λ _ _ _=>yY).mono ?_⟩;rintro _ ag⟨⟨v1,rfl,hx⟩,ax⟩-;have es:Ja.staF 2 true GR=some [(1,0),(2,0)]:=(Prod.mk.inj Lw).2;have ea:Ja.askF 2=0:=(Prod.mk.inj (Prod.mk.inj G9).2).2;rw[es]at hx;rw[es,ea];obtain⟨ta,tc,rfl,ft⟩:=hx;have ft:Q7 ag.frz ta 2 2 [(1,0),(2,0)] (λ x vs=>vs=encII x):=ft;clear es ea;have ad:s9.frz.lg ag.frz:=ax.lg.frz2;have a5:U.le ag:=e9.trans ax;have b:=b.le ax;have ht:=ht.lg ad;have f:=f.lg ad;have w:=w.lg ad;have z:=z.lg ad;have B:=B.lg ad;have fr:=fr.lg ad;have E:=E.lg ad;have G:=G.lg ad;have F:=F.lg ad;have H:=H.lg ad λ _ _ h=>h;refine⟨_,⟨rfl,b.rd⟩,?_⟩;refine⟨UL.any,(C5 h Ja ht (hk.lg a5.lg) 1).mono ?_⟩;rintro _ a1⟨⟨v1,rfl,hx⟩,ay⟩-;have ea:Ja.askF 1=0:=(Prod.mk.inj (Prod.mk.inj G9).2).1;rw[kb]at hx;rw[ea];obtain⟨wa,wc,rfl,I⟩:=hx;clear ea;have ac:ag.frz.lg a1.frz:=ay.lg.frz2;have a6:U.le a1:=a5.trans ay;have b:=b.le ay;have ht:=ht.lg ac;have f:=f.lg ac;have w:=w.lg ac;have z:=z.lg ac;have B:=B.lg ac;have fr:=fr.lg ac;have E:=E.lg ac;have G:=G.lg ac;have F:=F.lg ac;have H:=H.lg ac λ _ _ h=>h;have ft:=ft.lg ac λ _ _ h=>h;refine⟨_,⟨rfl,b.rd⟩,?_⟩;refine⟨OJ.any,(DN h Ja ht (hk.lg a6.lg) 0).mono ?_⟩;rintro _ a2⟨⟨v1,rfl,hx⟩,az⟩-;have ea:Ja.askF 0=0:=(Prod.mk.inj G9).1;rw[pW]at hx;rw[ea];obtain⟨ma,mc,rfl,fm⟩:=hx;clear ea;have ab:a1.frz.lg a2.frz:=az.lg.frz2;have a7:U.le a2:=a6.trans az;have b:=b.le az;have ht:=ht.lg ab;have f:=f.lg ab;have w:=w.lg ab;have z:=z.lg ab;have B:=B.lg ab;have fr:=fr.lg ab;have E:=E.lg ab;have G:=G.lg ab;have F:=F.lg ab;have H:=H.lg ab λ _ _ h=>h;have ft:=ft.lg ab λ _ _ h=>h;have I:=I.lg ab;refine⟨_,⟨rfl,b.rd⟩,?_⟩;refine⟨OJ.any,(DN h Ja ht (hk.lg a7.lg) 1).mono ?_⟩;rintro _ a3⟨⟨v1,rfl,hx⟩,a0⟩-;have ea:Ja.askF 1=0:=(Prod.mk.inj (Prod.mk.inj G9).2).1;rw[pX]at hx;rw[ea];obtain⟨na,nc,rfl,fn⟩:=hx;clear ea;have K:a2.frz.lg a3.frz:=a0.lg.frz2;have cz:U.le a3:=a7.trans a0;have b:=b.le a0;have ht:=ht.lg K;have f:=f.lg K;have w:=w.lg K;have z:=z.lg K;have B:=B.lg K;have fr:=fr.lg K;have E:=E.lg K;have G:=G.lg K;have F:=F.lg K;have H:=H.lg K λ _ _ h=>h;have ft:=ft.lg K λ _ _ h=>h;have I:=I.lg K;have fm:=fm.lg K
 repeat refine⟨rfl,?_⟩
 conv=>whnf
 intro cj bm;refine Zh bm λ ah a9 b0=>?_;have L:a3.frz.lg ah.frz:=a9.lg.frz2;have c0:U.le ah:=cz.trans a9;have f:=f.lg L;have w:=w.lg L;have z:=z.lg L;have B:=B.lg L;have fr:=fr.lg L;have E:=E.lg L;have G:=G.lg L;have F:=F.lg L;have H:=H.lg L λ _ _ h=>h;have ft:=ft.lg L λ _ _ h=>h;have I:=I.lg L;have fm:=fm.lg L;have fn:=fn.lg L;have q:WV ah.frz (some ⟨cj,0,none⟩) 3 [false,false,true]:=VP (l:=[false,false,true]) (b0.imI λ _ _ h=>h);refine⟨Py.any,(Wz xa _ 3 xc 3 3 [false,false,true] [false,false,true] (f.lg Qr) (q.lg Qr) D1).go λ _=>?_⟩;rw[decide_eq_true (rfl:([false,false,true]:List Bool)=[false,false,true])];clear q
 conv=>whnf
 intro ck bn;refine Zh bn λ ai ba b2=>?_;have M:ah.frz.lg ai.frz:=ba.lg.frz2;have c1:U.le ai:=c0.trans ba;have f:=f.lg M;have w:=w.lg M;have z:=z.lg M;have B:=B.lg M;have fr:=fr.lg M;have E:=E.lg M;have G:=G.lg M;have F:=F.lg M;have H:=H.lg M λ _ _ h=>h;have ft:=ft.lg M λ _ _ h=>h;have I:=I.lg M;have fm:=fm.lg M;have fn:=fn.lg M;have q:WV ai.frz (some ⟨ck,0,none⟩) 3 [true,true,false]:=VP (l:=[true,true,false]) (b2.imI λ _ _ h=>h);refine⟨Py.any,(Wz ya _ 3 yc 3 3 [true,true,false] [true,true,false] (w.lg Qr) (q.lg Qr) D1).go λ _=>?_⟩;rw[decide_eq_true (rfl:([true,true,false]:List Bool)=[true,true,false])];clear q
 conv=>whnf
 intro cm bo;refine Zh bo λ aj bb b3=>?_;have N:ai.frz.lg aj.frz:=bb.lg.frz2;have c2:U.le aj:=c1.trans bb;have f:=f.lg N;have w:=w.lg N;have z:=z.lg N;have B:=B.lg N;have fr:=fr.lg N;have E:=E.lg N;have G:=G.lg N;have F:=F.lg N;have H:=H.lg N λ _ _ h=>h;have ft:=ft.lg N λ _ _ h=>h;have I:=I.lg N;have fm:=fm.lg N;have fn:=fn.lg N;have q:WV aj.frz (some ⟨cm,0,none⟩) 3 [false,true,false]:=VP (l:=[false,true,false]) (b3.imI λ _ _ h=>h);refine⟨Py.any,(Wz ua _ 3 uc 3 3 [false,true,false] [false,true,false] (z.lg Qr) (q.lg Qr) D1).go λ _=>?_⟩;rw[decide_eq_true (rfl:([false,true,false]:List Bool)=[false,true,false])];clear q
 conv=>whnf
 intro co bp;refine Zh bp λ ak bc b4=>?_;have P:aj.frz.lg ak.frz:=bc.lg.frz2;have c4:U.le ak:=c2.trans bc;have f:=f.lg P;have w:=w.lg P;have z:=z.lg P;have B:=B.lg P;have fr:=fr.lg P;have E:=E.lg P;have G:=G.lg P;have F:=F.lg P;have H:=H.lg P λ _ _ h=>h;have ft:=ft.lg P λ _ _ h=>h;have I:=I.lg P;have fm:=fm.lg P;have fn:=fn.lg P;have q:WV ak.frz (some ⟨co,0,none⟩) 3 [false,true,true]:=VP (l:=[false,true,true]) (b4.imI λ _ _ h=>h);refine⟨Py.any,(Wz va _ 3 vc 3 3 [false,true,true] [false,true,true] (B.lg Qr) (q.lg Qr) D1).go λ _=>?_⟩;rw[decide_eq_true (rfl:([false,true,true]:List Bool)=[false,true,true])];clear q
 conv=>whnf
 intro cp bq;refine Zh bq λ al bd b5=>?_;have Q:ak.frz.lg al.frz:=bd.lg.frz2;have c6:U.le al:=c4.trans bd;have f:=f.lg Q;have w:=w.lg Q;have z:=z.lg Q;have B:=B.lg Q;have fr:=fr.lg Q;have E:=E.lg Q;have G:=G.lg Q;have F:=F.lg Q;have H:=H.lg Q λ _ _ h=>h;have ft:=ft.lg Q λ _ _ h=>h;have I:=I.lg Q;have fm:=fm.lg Q;have fn:=fn.lg Q;have q:Z6 al.frz (some ⟨cp,0,none⟩) 3 [2,0,0]:=XL (l:=[2,0,0]) (b5.imI λ _ _ h=>h);refine⟨OK.any,(DC ra _ 3 rc 3 3 [2,0,0] [2,0,0] (fr.lg Qr) (q.lg Qr) D1).go λ _=>?_⟩;rw[decide_eq_true (rfl:([2,0,0]:List Int)=[2,0,0])];clear q
 conv=>whnf
 intro cq br;refine Zh br λ am be b6=>?_;have S:al.frz.lg am.frz:=be.lg.frz2;have c7:U.le am:=c6.trans be;have f:=f.lg S;have w:=w.lg S;have z:=z.lg S;have B:=B.lg S;have fr:=fr.lg S;have E:=E.lg S;have G:=G.lg S;have F:=F.lg S;have H:=H.lg S λ _ _ h=>h;have ft:=ft.lg S λ _ _ h=>h;have I:=I.lg S;have fm:=fm.lg S;have fn:=fn.lg S;have q:Z6 am.frz (some ⟨cq,0,none⟩) 3 [0,1,0]:=XL (l:=[0,1,0]) (b6.imI λ _ _ h=>h);refine⟨OK.any,(DC ca _ 3 cc 3 3 [0,1,0] [0,1,0] (E.lg Qr) (q.lg Qr) D1).go λ _=>?_⟩;rw[decide_eq_true (rfl:([0,1,0]:List Int)=[0,1,0])];clear q
 conv=>whnf
 intro cr bs;refine Zh bs λ an bf b7=>?_;have T:am.frz.lg an.frz:=bf.lg.frz2;have c8:U.le an:=c7.trans bf;have f:=f.lg T;have w:=w.lg T;have z:=z.lg T;have B:=B.lg T;have fr:=fr.lg T;have E:=E.lg T;have G:=G.lg T;have F:=F.lg T;have H:=H.lg T λ _ _ h=>h;have ft:=ft.lg T λ _ _ h=>h;have I:=I.lg T;have fm:=fm.lg T;have fn:=fn.lg T;have q:Z6 an.frz (some ⟨cr,0,none⟩) 3 [1,0,2]:=XL (l:=[1,0,2]) (b7.imI λ _ _ h=>h);refine⟨Gb.any,(GZ la _ 3 lc 3 3 [1,0,2] [1,0,2] (G.lg Qr) (q.lg Qr) D1).go λ _=>?_⟩;rw[decide_eq_true (rfl:([1,0,2]:List Int)=[1,0,2])];clear q
 conv=>whnf
 intro ct bt;refine Zh bt λ ao bg b8=>?_;have V:an.frz.lg ao.frz:=bg.lg.frz2;have c9:U.le ao:=c8.trans bg;have f:=f.lg V;have w:=w.lg V;have z:=z.lg V;have B:=B.lg V;have fr:=fr.lg V;have E:=E.lg V;have G:=G.lg V;have F:=F.lg V;have H:=H.lg V λ _ _ h=>h;have ft:=ft.lg V λ _ _ h=>h;have I:=I.lg V;have fm:=fm.lg V;have fn:=fn.lg V;have q:Z6 ao.frz (some ⟨ct,0,none⟩) 3 [0,1,2]:=XL (l:=[0,1,2]) (b8.imI λ _ _ h=>h);refine⟨Gb.any,(GZ ka _ 3 kc 3 3 [0,1,2] [0,1,2] (F.lg Qr) (q.lg Qr) D1).go λ _=>?_⟩;rw[decide_eq_true (rfl:([0,1,2]:List Int)=[0,1,2])];clear q
 conv=>whnf
 intro cu bu;refine Zh bu λ ap bh b9=>?_;have W:ao.frz.lg ap.frz:=bh.lg.frz2;have da:U.le ap:=c9.trans bh;have f:=f.lg W;have w:=w.lg W;have z:=z.lg W;have B:=B.lg W;have fr:=fr.lg W;have E:=E.lg W;have G:=G.lg W;have F:=F.lg W;have H:=H.lg W λ _ _ h=>h;have ft:=ft.lg W λ _ _ h=>h;have I:=I.lg W;have fm:=fm.lg W;have fn:=fn.lg W;have q:Q7 ap.frz (some ⟨cu,0,none⟩) 1 2 [(0,1)] (λ x vs=>vs=encII x):=IH (l:=[(0,1)]) (b9.imI λ _ _ h=>h);refine⟨OL.any,(DA sa _ 1 sc 1 1 [(0,1)] [(0,1)] (H.lg Qr λ _ _ h=>h) (q.lg Qr λ _ _ h=>h) D1).go λ _=>?_⟩;rw[decide_eq_true (rfl:([(0,1)]:List (Int×Int))=[(0,1)])];clear q
 conv=>whnf
 intro cv bv;refine Zh bv λ aq bi ce=>?_;have X:ap.frz.lg aq.frz:=bi.lg.frz2;have db:U.le aq:=da.trans bi;have f:=f.lg X;have w:=w.lg X;have z:=z.lg X;have B:=B.lg X;have fr:=fr.lg X;have E:=E.lg X;have G:=G.lg X;have F:=F.lg X;have H:=H.lg X λ _ _ h=>h;have ft:=ft.lg X λ _ _ h=>h;have I:=I.lg X;have fm:=fm.lg X;have fn:=fn.lg X;have q:Q7 aq.frz (some ⟨cv,0,none⟩) 2 2 [(1,0),(2,0)] (λ x vs=>vs=encII x):=IH (l:=[(1,0),(2,0)]) (ce.imI λ _ _ h=>h);refine⟨OL.any,(DA ta _ 2 tc 2 2 [(1,0),(2,0)] [(1,0),(2,0)] (ft.lg Qr λ _ _ h=>h) (q.lg Qr λ _ _ h=>h) D1).go λ _=>?_⟩;rw[decide_eq_true (rfl:([(1,0),(2,0)]:List (Int×Int))=[(1,0),(2,0)])];clear q
 conv=>whnf
 intro cw bw;refine Zh bw λ au bj cf=>?_;have Y:aq.frz.lg au.frz:=bj.lg.frz2;have dc:U.le au:=db.trans bj;have f:=f.lg Y;have w:=w.lg Y;have z:=z.lg Y;have B:=B.lg Y;have fr:=fr.lg Y;have E:=E.lg Y;have G:=G.lg Y;have F:=F.lg Y;have H:=H.lg Y λ _ _ h=>h;have ft:=ft.lg Y λ _ _ h=>h;have I:=I.lg Y;have fm:=fm.lg Y;have fn:=fn.lg Y;have q:Z6 au.frz (some ⟨cw,0,none⟩) 1 [0]:=XL (l:=[0]) (cf.imI λ _ _ h=>h);refine⟨Gb.any,(GZ wa _ 1 wc 1 1 [0] [0] (I.lg Qr) (q.lg Qr) D1).go λ _=>?_⟩;rw[decide_eq_true (rfl:([0]:List Int)=[0])];clear q
 conv=>whnf
 intro cx bx;refine Zh bx λ av bk cg=>?_;have Z:au.frz.lg av.frz:=bk.lg.frz2;have dd:U.le av:=dc.trans bk;have f:=f.lg Z;have w:=w.lg Z;have z:=z.lg Z;have B:=B.lg Z;have fr:=fr.lg Z;have E:=E.lg Z;have G:=G.lg Z;have F:=F.lg Z;have H:=H.lg Z λ _ _ h=>h;have ft:=ft.lg Z λ _ _ h=>h;have I:=I.lg Z;have fm:=fm.lg Z;have fn:=fn.lg Z;have q:Z6 av.frz (some ⟨cx,0,none⟩) 1 [1]:=XL (l:=[1]) (cg.imI λ _ _ h=>h);refine⟨Gb.any,(GZ ma _ 1 mc 1 1 [1] [1] (fm.lg Qr) (q.lg Qr) D1).go λ _=>?_⟩;rw[decide_eq_true (rfl:([1]:List Int)=[1])];clear q
 conv=>whnf
 intro cy bz;refine Zh bz λ a4 bl ch=>?_;have aa:av.frz.lg a4.frz:=bl.lg.frz2;have de:U.le a4:=dd.trans bl;have f:=f.lg aa;have w:=w.lg aa;have z:=z.lg aa;have B:=B.lg aa;have fr:=fr.lg aa;have E:=E.lg aa;have G:=G.lg aa;have F:=F.lg aa;have H:=H.lg aa λ _ _ h=>h;have ft:=ft.lg aa λ _ _ h=>h;have I:=I.lg aa;have fm:=fm.lg aa;have fn:=fn.lg aa;have q:Z6 a4.frz (some ⟨cy,0,none⟩) 2 [0,1]:=XL (l:=[0,1]) (ch.imI λ _ _ h=>h);refine⟨Gb.any,(GZ na _ 2 nc 2 2 [0,1] [0,1] (fn.lg Qr) (q.lg Qr) D1).go λ _=>?_⟩;rw[decide_eq_true (rfl:([0,1]:List Int)=[0,1])];clear q
 repeat refine⟨rfl,?_⟩
 conv=>whnf
 exact de.lg
end Go.Proofs
namespace Go.TM
variable{T:Type}{P:Program}{S:Sys P T}{f:Fm}{U:Qa T}{K:Value->Qa T->Prop}
def k_{t z B:TypeId}{x y:Operand}{a b:ByteArray}(hx:Zf f x=.string a)(hy:Zf f y=.string b)(hl:a.size+b.size<2^60)(h:K (.string (a++b)) U) :
  OX S (.raw { dst:=none,op:=.binOp .add t x y z,type:=B,pos := "", after:=#[],guard:=none }) f K U:=by
 intro a' ha;simp only[execOp,ha,hx,hy];refine rq ?_;rw[Qd];show Qq P (Op.stringOp .add a b) _ U;unfold Op.stringOp;have hm:IntKind.i64.max=9223372036854775807:=D1
 have w:¬((a.size+b.size:Nat):Int) > IntKind.i64.max:=by rw[hm];omega
 simp only[w,if_false];exact⟨U,.refl _,h⟩
def vO{t E e H cap u:Nat}{B:Addr}{x:Operand}(G:P.underlying t=some (.slice e))(w:P.underlying E=some .string)(z:P.underlying e=some (.int .u8))(hx:Zf f x=.slice (some B) 1 cap)(F:U.sees B (.int .u8 u))(h:K (.string (ByteArray.empty.push (UInt8.ofNat u))) U) :
  OX S (.raw { dst:=none,op:=.convert t E x,type:=H,pos := "", after:=#[],guard:=none }) f K U:=by
 intro a' ha;simp only[execOp,ha,hx];refine rq ?_;unfold convert;simp only[Qd,Zb G,Zb w,Zb z,Conv.bytesToString,loadCells];refine YI [.int .u8 (u:Int)] 0 #[] (λ j v b=>?_) ?_
 .obtain rfl:j=0:=by
   rcases j with _|j
   .rfl
   .simp at b
  simp only[getElem?_cons_zero,Option.some.injEq]at b;rw[<- b];simpa[Addr.add]using F
 simp[Qd,Qi];exact⟨U,.refl _,h⟩
end Go.TM
namespace Go.Proofs
open Go.TM
variable{T:Type}{S:TM.Sys Tryz.prog T}{U:Qa T}
attribute [local irreducible] Qb Zm Wo
def xm:Tryz.prog.underlying 135=some (.slice 5):=K1
def qx(k:Nat)(E:k<10):Qb S 29 #[.int .i64 k] (λ v U'=>v=.string (ByteArray.empty.push (UInt8.ofNat (48+k)))/\U'=U) U:=by
 refine Qb.pure' (Qb.of (args:=[_]) UO Qe S1 ?_)
 have e:IntKind.wrap .u8 (48+(k:Int))=((48+k:Nat):Int):=by
  have h1:IntKind.wrap .u8 ((48+k:Nat):Int)=((48+k:Nat):Int):=by
   have key:∀k,k<10->IntKind.wrap .u8 ((48+k:Nat):Int)=((48+k:Nat):Int):=D1
   exact key k E
  rw[<- h1];congr 1
 repeat refine⟨rfl,?_⟩
 conv=>whnf
 apply Qg<;>intro B
 .refine⟨I1,?_⟩
  conv=>whnf
  rw[e]
  conv=>whnf
  intro w z;refine Zh z λ h b f=>?_;have f:Zi h w #[.int .u8 ((48+k:Nat):Int)]:=f
  conv=>whnf
  refine vO (e:=5) xm IY De rfl (f.sees3 (o:=0) rfl) ?_
  repeat refine⟨rfl,?_⟩
  conv=>whnf
  exact b.lg
 .exact absurd B S3
def Zkl(w:ByteArray)(f:w.size<2^50)(k:Nat)(b:k<10):Qb S 9 #[.string w,.int .i64 k] (λ v U'=>v=.string (w++ByteArray.empty.push (UInt8.ofNat (48+k)))/\U'=U) U:=by
 refine Qb.of (args:=[_,_]) ko Qe S1 ?_;refine⟨UO.any,(qx k b).go λ _=>?_⟩
 conv=>whnf
 refine k_ rfl rfl (by show w.size+1<_;omega) ?_
 repeat refine⟨rfl,?_⟩
 conv=>whnf
 first|done|exact⟨rfl,rfl⟩
end Go.Proofs

