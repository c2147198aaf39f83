/- Lemmas. No conditions. -/
import Derived.Test.YtnjljnhoaafkiaaGreatDoorC03
set_option linter.all false
set_option maxRecDepth 100000
set_option maxHeartbeats 4000000
open List
open Go.Proofs.Tryz (prog)
noncomputable section
namespace Go.TM
open Go.Proofs
attribute [local irreducible] Qb Zm Wo
variable{T α:Type}{U:Qa T}{a:Option Addr}{y n cap i:Nat}{u:List α}
def Q3y(p:Int×Int)(r:List (Int×Int)):List (Int×Int):=r.filter λ q=>!(q.1==p.1|| q.2==p.2)
def Zp0(la:List Int)(need:Nat):List (Int×Int)->Option ((Int×Int)×List (Int×Int))
 |[]=>none
 |p::r=>if need<=Qz2 la (Q3y p r)then some (p,Q3y p r)else Zp0 la need r
def Qlh(la:List Int):Nat->List (Int×Int)->Option (List (Int×Int))
 |0,_=>some []
 |n+1,ps=>match Zp0 la n ps with
  |none=>none
  |some x=>(Qlh la n x.2).map (x.1::·)
def Zty{R:α->List Value->Prop}(h:Q7 U a y n u R)(hi:i<=y)(H:y<=cap):Q7 U (if cap=i then a else a.map (·.add (i*n))) (y-i) n (u.drop i) R:=by
 refine⟨by rw[length_drop,h.1],λ k x hx=>?_⟩;rw[getElem?_drop]at hx;obtain⟨w,vs,rfl,f,F,E,G⟩:=h.2 _ x hx;have B:i+k<y:=by have:=(Zz4 hx);rw[h.1]at this;exact this
 rw[if_neg O1];refine⟨w.add (i*n),vs,rfl,?_,F,E,?_⟩
 .obtain⟨b,o,s⟩:=w;cases f;rw[Qo]
 .rw[pe _ f,<- Nat.add_mul];exact G
variable{S:Sys prog T}
def Zqg(h:TH)(k:KH)(tk:Qvl)(ha:Z6 U.frz k.aa k.al tk.a)(a6:k.al<2^60)(v0:Value)(X:List (Int×Int))(bc:Zmw U.frz v0 X)(ah:X.length<=1000)(many:Nat)(ba:many<=1000)(L:List (Int×Int))(hL:Qlh tk.a many X=some L) :
  Qb S 41 #[KH.v h k tk,v0,.int .i64 many] (λ v U'=>Acc 41 2 v (L.flatMap Qam) U'.M U.M/\(∀x o,U.I x=some o->U'.I x=some o)/\U'.tok=U.tok) U:=by
 obtain⟨a0,a1,rfl,ag,ab⟩:=bc;refine Qb.of (args:=[_,_,_]) Zr9 Qf S1 ?_
 repeat refine⟨rfl,?_⟩
 conv=>whnf
 intro b3 U1 Y K;have K:Zi U1 b3 (KH.cs h k tk).toArray:=K
 refine⟨Value×Value×List (Int×Int)×Nat×List (Int×Int),λ y=>[(1,y.2.1),(2,.int .i64 many),(3,.pb b3),(7,y.1)],
  λ y U'=>(∀x o,U1.I x=some o->U'.I x=some o)/\U'.tok=U.tok/\Acc 41 2 y.1 (y.2.2.2.2.flatMap Qam) U'.M U.M/\Zmw U'.frz y.2.1 y.2.2.1/\y.2.2.1.length<=1000/\y.2.2.2.2.length+y.2.2.2.1=many/\∃L',Qlh tk.a y.2.2.2.1 y.2.2.1=some L'/\L=y.2.2.2.2++L',
  λ y=>y.2.2.2.1,(.nl,.slice a0 X.length a1,X,many,[]),T1,⟨λ _ _ h=>h,Y.tok,by rw[Y.own];exact .nil,⟨a0,a1,rfl,ag,ab.lg (Qr.trans Y.lg).frz2 λ _ _ h=>h⟩,ah,S1,L,hL,rfl⟩,?_⟩
 rintro⟨vo,vp,ps,n,out⟩f U2⟨H,w,G,ay,ah,hn,L',hL',ac⟩;simp only at G ay ah hn hL' ac;obtain⟨oa,oc,rfl,-⟩:=Zlo G;obtain⟨pa,pc,rfl,ap,W⟩:=ay;have N:U.frz.lg U2:=⟨λ x o h=>H x o (Y.imm x o h),Zz3,w⟩
 repeat refine⟨rfl,?_⟩
 conv=>whnf
 apply Qg<;>intro hc
 .have hlt:out.length<many:=by simpa using hc
  obtain⟨n',rfl⟩:∃n',n=n'+1:=⟨n-1,O1⟩;rw[Qlh]at hL';cases F:Zp0 tk.a n' ps with
  |none=>rw[F]at hL';cases hL'
  |some pr=>
  obtain⟨p1,aj⟩:=pr;rw[F]at hL';simp only at hL';obtain⟨L1,a3,rfl⟩:=Option.map_eq_some_iff.1 hL'
  repeat refine⟨rfl,?_⟩
  refine⟨Nat,λ j=>[(1,.slice pa ps.length pc),(2,.int .i64 many),(3,.pb b3),(7,.slice oa out.length oc),(15,.slice pa ps.length pc),(16,.int .i64 ps.length),(17,.int .i64 j)],
   λ j U'=>(∀x o,U2.I x=some o->U'.I x=some o)/\U'.tok=U.tok/\U'.M=U2.M/\j<=ps.length/\Zp0 tk.a n' (ps.drop j)=some (p1,aj),
   λ j=>ps.length-j,0,T1,⟨λ _ _ h=>h,w,rfl,O1,by simpa using F⟩,?_⟩
  rintro j f U3⟨a2,bf,a4,hj,B⟩;have E:U2.le U3:=⟨a2,a4,bf.trans w.symm⟩;have bh:U.frz.lg U3:=Uf N E
  repeat refine⟨rfl,?_⟩
  conv=>whnf
  apply Qg<;>intro hc
  .have hltj:j<ps.length:=by simpa using hc
   obtain⟨ad,p,vs,hx,bb,bi,rfl,-,bd⟩:=Q7.at W hltj;rw[Hl hx,Zp0]at B;have ax:Z9 (j+1):=I1
   have av:U2.frz.lg U3:=Qr.trans E.lg;refine⟨ad,j,⟨bb,rfl,hltj⟩,Qam p,⟨rfl,bd.lg av⟩,?_⟩
   conv=>whnf
   intro b9 a7;refine⟨_,.refl _,rfl,Zv (vs:=Qam p) a7 rfl (by simp[Qam,Value.single]) λ U4 a5 an=>?_⟩;have Q:=E.trans a5;refine⟨ax,j+1,ps.length,⟨rfl,rfl,O1,O1⟩,?_⟩;have au:=Zty (i:=j+1) (W.lg (Qr.trans Q.lg) λ _ _ h=>h) O1 ap;generalize(if pc=j+1 then pa else pa.map (·.add ((j+1)*2)))=da at au ⊢;refine⟨Zsi.any,(Zpa da (ps.length-(j+1)) (pc-(j+1)) (ps.drop (j+1)) au O1).mono ?_⟩;rintro cv U5⟨am,ak,bg⟩-;obtain⟨ca,cc,rfl,-⟩:=Zlo am
   have aq:=(Zo3 (S:=S) (U:=U5) _ (ps.drop (j+1)) U4.M am (by rw[length_drop];omega) 76 #[] #[.pb b9] (λ q=>q.1==p.1|| q.2==p.2) Zsj.any λ U6 a9 x _=>Zpr b9 p x ((an.imI ak).imI a9.imm)).sep
    (R':=λ v U''=>U4.le U''/\Zmw U''.frz v (Q3y p (ps.drop (j+1)))) λ v U' hs⟨h1,h2,h3⟩=>by
     obtain⟨U'',k1,k2,k3⟩:=h1.pairsN (U:=U4) hs (λ x o h=>h2 x o (ak x o h)) (h3.trans bg);exact⟨U'',k1,k2,k3⟩
   refine⟨Zsh.any,aq.mono ?_⟩;rintro _ U6⟨V,ra,rc,rfl,ai,az⟩-;have b:=Q.trans V;have aw:U.frz.lg U6.frz:=(Uf N b).frz2;have ao:Zi U6 b3 (KH.cs h k tk).toArray:=K.imI λ x o h=>b.imm x o (H x o h)
   have be:(Q3y p (ps.drop (j+1))).length<=1000:=by
    have h1:=length_filter_le (λ q:Int×Int=>!(q.1==p.1|| q.2==p.2)) (ps.drop (j+1));rw[length_drop]at h1;unfold Q3y;omega
   refine⟨KH.cs h k tk,⟨rfl,Zi.rdI ao (λ _ _ h=>h)⟩,Zph.any,(Zn6 h k tk (ha.lg aw) a6 ra _ rc (Q3y p (ps.drop (j+1))) az O1).go λ _=>?_⟩
   repeat refine⟨rfl,?_⟩
   refine⟨I1,?_⟩;refine⟨I1,?_⟩
   repeat refine⟨rfl,?_⟩
   conv=>whnf
   apply Qg<;>intro hc
   .have hge:n'<=Qz2 tk.a (Q3y p (ps.drop (j+1))):=by simp at hc;omega
    rw[if_pos hge]at B;simp only[Option.some.injEq,Prod.mk.injEq]at B;obtain⟨rfl,rfl⟩:=B;refine⟨Qam p,⟨rfl,Zi.rdI (an.imI V.imm) (λ _ _ h=>h)⟩,?_⟩
    conv=>whnf
    intro bn a8;refine Zl a8 λ U7 ae af=>?_;have af:Zi U7 bn (Qam p).toArray:=af;have P:=b.trans ae
    conv=>whnf
    refine Wn (v:=.slice oa out.length oc) (cs:=out.flatMap Qam) (new:=Qam p) (M₀:=U.M) Zoq rfl rfl (by rw[P.own];exact G) (.inr ⟨_,rfl,Zi.rdI af (λ _ _ h=>h)⟩) rfl (by simp[Qam,Value.single]) (by rw[Qvu];show _+2<=_;omega) λ v' M' Z _=>?_;have Z:Acc 41 2 v' ((out++[p]).flatMap Qam) M' U.M:=by simpa using Z
    obtain⟨ta,tc,rfl,-⟩:=Zlo (U:={ U7 with M:=M' }) Z;refine⟨rfl,(_,_,Q3y p (ps.drop (j+1)),n',out++[p]),T1,⟨λ x o h=>P.imm x o (H x o h),P.tok.trans w,Z,⟨ra,rc,rfl,ai,az.lg (⟨ae.imm,⟨[],rfl⟩,ae.tok⟩:U6.frz.lg ({ U7 with M:=M' }:Qa T).frz) λ _ _ h=>h⟩,be,S3,L1,a3,by rw[ac];simp⟩,by show n'<n'+1;omega⟩
   .have hlt2:¬n'<=Qz2 tk.a (Q3y p (ps.drop (j+1))):=by simp at hc;omega
    rw[if_neg hlt2]at B
    repeat refine⟨rfl,?_⟩
    refine⟨ax,rfl,j+1,T1,⟨b.imm,b.tok.trans w,b.own,O1,B⟩,by show _-_<_-_;omega⟩
  .have hge:ps.length<=j:=by simpa using hc
   rw[show ps.drop j=[] from drop_eq_nil_of_le hge]at B;cases B
 .have hge:¬out.length<many:=by simpa using hc
  obtain rfl:n=0:=O1
  rw[Qlh]at hL';cases hL'
  repeat refine⟨rfl,?_⟩
  conv=>whnf
  rw[ac,append_nil];exact⟨G,N.imm,w⟩
variable{U0:Qa T}{x:Nat}{z:Int}{M₀:List Qw}{l:List Int}
structure Zlu(U0:Qa T)(h:Nat)(n:Int)(M1:List Qw)(U:Qa T):Prop where
 imm:∀x o,U0.I x=some o->U.I x=some o
 tok:U.tok=U0.tok
 mem:U.M=.obj h (.cells #[.int .i64 n] 3 (0,0))::M1
 non:0<=n
def Zlu.ints(k:Zlu U0 x z M₀ U)(hl:Z6 ({ U0 with M:=M₀ }:Qa T) a y l):Z6 U a y l:=
 hl.lg ⟨k.imm,⟨[_],k.mem⟩,k.tok⟩
def Zlu.le{U0 U U':Qa T}{h:Nat}{n:Int}{b:List Qw}(k:Zlu U0 h n b U)(hl:U.le U'):Zlu U0 h n b U':=
 ⟨λ x o g=>hl.imm x o (k.imm x o g),hl.tok.trans k.tok,hl.own.trans k.mem,k.non⟩
def Zcd(a:Option Addr)(len cap:Nat)(l:List Int)(f:List Qw)(hl:Z6 ({ U0 with M:=f }:Qa T) a len l)(G:len<2^40)(h:Nat)(n:Int)(X:n<2^40)(b:Zlu U0 h n f U)(i j:Nat)(hi:i<len)(F:j<len) :
  Qb S 174 #[.slice a len cap,.int .i64 i,.int .i64 j,.pb h] (λ v U'=>∃(B E:Nat)(n':Int),v=.tuple #[.int .i64 B,.int .i64 E]/\((B=i/\E=j)\/(B=j/\E=i))/\n'<=n+1/\Zlu U0 h n' f U') U:=by
 refine Qb.of (args:=[_,_,_,_]) Znf Qf S1 ?_;have H:=b.ints hl;obtain⟨V,x,hx,rfl,L,N⟩:=H.at F;obtain⟨K,y,hy,e,I,P⟩:=H.at hi;cases e;refine⟨_,j,⟨rfl,rfl,F⟩,_,N,_,i,⟨rfl,rfl,hi⟩,_,P,?_⟩
 conv=>whnf
 intro Q w _;have b:=b.le w;refine⟨FP.any,(zI x y).go λ _=>?_⟩
 repeat refine⟨rfl,?_⟩
 conv=>whnf
 apply Qg<;>intro W
 .refine⟨_,Q9 [] b.mem 0 _ rfl,by have:=b.non;unfold Z9;omega,?_⟩;refine⟨rfl,?_⟩;show QX ⟨h,0,none⟩ [.int .i64 (n+1)] 0 _ _;refine Yl [] b.mem rfl Zz1 ?_
  repeat refine⟨rfl,?_⟩
  conv=>whnf
  exact⟨j,i,n+1,rfl,.inr ⟨rfl,rfl⟩,Int.le_refl _,b.imm,b.tok,rfl,by have:=b.non;omega⟩
 .repeat refine⟨rfl,?_⟩
  conv=>whnf
  exact⟨i,j,n,rfl,.inl ⟨rfl,rfl⟩,O1,b⟩
def Zb8(a:Option Addr)(len cap:Nat)(l:List Int)(f:List Qw)(hl:Z6 ({ U0 with M:=f }:Qa T) a len l)(b:len<2^40)(h:Nat)(n:Int)(hn:n<2^30)(N:Zlu U0 h n f U)(i j k:Nat)(hi:i<len)(P:j<len)(Q:k<len) :
  Qb S 165 #[.slice a len cap,.int .i64 i,.int .i64 j,.int .i64 k,.pb h] (λ v U'=>∃(r:Nat)(n':Int),v=.int .i64 r/\(r=i\/r=j\/r=k)/\n'<=n+3/\Zlu U0 h n' f U') U:=by
 refine Qb.of (args:=[_,_,_,_,_]) Zne Qf S1 ?_;refine⟨Znf.any,(Zcd a len cap l f hl b h n O1 N i j hi P).mono ?_⟩;rintro _ U1⟨I,K,Y,rfl,e1,k1,w⟩-;have F:I<len:=O1
 have G:K<len:=O1
 refine⟨Znf.any,(Zcd a len cap l f hl b h Y O1 w K k G Q).mono ?_⟩;rintro _ U2⟨L,k2,Z,rfl,e2,W,B⟩-;have H:L<len:=O1
 refine⟨Znf.any,(Zcd a len cap l f hl b h Z O1 B I L F H).mono ?_⟩;rintro _ U3⟨i3,V,n3,rfl,e3,X,E⟩-
 repeat refine⟨rfl,?_⟩
 conv=>whnf
 grind
def Za8(a:Option Addr)(len cap:Nat)(l:List Int)(w:List Qw)(hl:Z6 ({ U0 with M:=w }:Qa T) a len l)(f:len<2^40)(h:Nat)(n:Int)(H:n<2^30)(F:Zlu U0 h n w U)(i:Nat)(G:1<=i)(hi:i+1<len) :
  Qb S 164 #[.slice a len cap,.int .i64 i,.pb h] (λ v U'=>∃(r:Nat)(n':Int),v=.int .i64 r/\(i<=r+1/\r<=i+1)/\n'<=n+3/\Zlu U0 h n' w U') U:=by
 refine Qb.of (args:=[_,_,_]) Znd Qf S1 ?_;refine⟨I1,?_⟩;refine⟨I1,?_⟩;have B:(i:Int)-1=((i-1:Nat):Int):=O1
 have E:(i:Int)+1=((i+1:Nat):Int):=O1
 rw[B,E];refine⟨Zne.any,(Zb8 a len cap l w hl f h n H F (i-1) i (i+1) O1 O1 hi).mono ?_⟩;rintro _ L⟨r,K,rfl,e,I,b⟩-
 repeat refine⟨rfl,?_⟩
 conv=>whnf
 grind
def Zue(n:Nat)(h:n<2^50):IntKind.wrap .i64 ((n:Int).tdiv 4)=((n / 4:Nat):Int):=by
 have e:(n:Int).tdiv 4=((n / 4:Nat):Int):=by rw[Int.tdiv_eq_ediv_of_nonneg O1];omega
 rw[e,Gl I1]
def Znm(E:Option Addr)(len cap:Nat)(l:List Int)(hl:Z6 U E len l)(w:len<2^40)(a b:Nat)(X:a+8<b)(hb:b<=len) :
  Qb S 141 #[.slice E len cap,.int .i64 a,.int .i64 b] (λ v U'=>(∃(p:Nat)(k:Int),v=.tuple #[.int .i64 p,.int .i64 k]/\a<=p/\p<b)/\U'=U) U:=by
 refine Qb.pure' (Q:=λ v=>∃(p:Nat)(k:Int),v=.tuple #[.int .i64 p,.int .i64 k]/\a<=p/\p<b) (Qb.of (args:=[_,_,_]) Zok Qf S1 ?_);refine⟨I1,?_⟩;have V:(b:Int)-a=((b-a:Nat):Int):=O1
 rw[V];generalize hn:b-a=n
 conv=>whnf
 intro F Y;refine⟨_,.refl _,?_⟩;have I:Zlu U F 0 U.M (U.put F (.cells #[.int .i64 0] 3)):=⟨(Z2 _ _).imm,rfl,rfl,Int.le_refl _⟩;have h:Z6 ({ U with M:=U.M }:Qa T) E len l:=hl;generalize(U.put F (.cells #[.int .i64 0] 3))=U1 at I ⊢
 repeat refine⟨rfl,?_⟩
 refine⟨D1,?_⟩;rw[Zue n O1];refine⟨I1,?_⟩;refine⟨I1,?_⟩;rw[show(a:Int)+((n / 4:Nat):Int)*1=((a+n / 4*1:Nat):Int) by omega]
 repeat refine⟨rfl,?_⟩
 refine⟨D1,?_⟩;rw[Zue n O1];refine⟨I1,?_⟩;refine⟨I1,?_⟩;rw[show(a:Int)+((n / 4:Nat):Int)*2=((a+n / 4*2:Nat):Int) by omega]
 repeat refine⟨rfl,?_⟩
 refine⟨D1,?_⟩;rw[Zue n O1];refine⟨I1,?_⟩;refine⟨I1,?_⟩;rw[show(a:Int)+((n / 4:Nat):Int)*3=((a+n / 4*3:Nat):Int) by omega];generalize hi:a+n / 4*1=i;generalize hj:a+n / 4*2=j;generalize hk:a+n / 4*3=k;have q1:a<i:=O1
 have q2:i<j:=O1
 have q3:j<k:=O1
 have q4:k+1<b:=O1
 repeat refine⟨rfl,?_⟩
 conv=>whnf
 rw[show decide ((n:Int) ≥ 8)=true from decide_eq_true O1]
 repeat refine⟨rfl,?_⟩
 conv=>whnf
 apply Qg<;>intro G
 .refine⟨Znd.any,(Za8 E len cap l U.M h w F 0 O1 I i O1 O1).mono ?_⟩;rintro _ U2⟨Z,m0,rfl,e0,u0,K⟩-;refine⟨Znd.any,(Za8 E len cap l U.M h w F m0 O1 K j O1 O1).mono ?_⟩;rintro _ U3⟨j2,m1,rfl,V,u1,L⟩-;refine⟨Znd.any,(Za8 E len cap l U.M h w F m1 O1 L k O1 O1).mono ?_⟩;rintro _ U4⟨k2,m2,rfl,e2,u2,N⟩-;refine⟨Zne.any,(Zb8 E len cap l U.M h w F m2 O1 N Z j2 k2 O1 O1 O1).mono ?_⟩;rintro _ H⟨r,m9,rfl,W,P,f⟩-;have B:U.lg H:=⟨f.imm,⟨[_],f.mem⟩,f.tok⟩;refine⟨_,Q9 [] f.mem 0 _ rfl,?_⟩
  repeat refine⟨rfl,?_⟩
  conv=>whnf
  apply Qg<;>intro G
  .repeat refine⟨rfl,?_⟩
   conv=>whnf
   exact⟨⟨r,1,rfl,O1,O1⟩,B⟩
  repeat refine⟨rfl,?_⟩
  conv=>whnf
  apply Qg<;>intro G
  .repeat refine⟨rfl,?_⟩
   conv=>whnf
   exact⟨⟨r,2,rfl,O1,O1⟩,B⟩
  repeat refine⟨rfl,?_⟩
  conv=>whnf
  exact⟨⟨r,0,rfl,O1,O1⟩,B⟩
 refine⟨Zne.any,(Zb8 E len cap l U.M h w F 0 O1 I i j k O1 O1 O1).mono ?_⟩;rintro _ H⟨r,m9,rfl,W,P,f⟩-;have B:U.lg H:=⟨f.imm,⟨[_],f.mem⟩,f.tok⟩;refine⟨_,Q9 [] f.mem 0 _ rfl,?_⟩
 repeat refine⟨rfl,?_⟩
 conv=>whnf
 apply Qg<;>intro G
 .repeat refine⟨rfl,?_⟩
  conv=>whnf
  exact⟨⟨r,1,rfl,O1,O1⟩,B⟩
 repeat refine⟨rfl,?_⟩
 conv=>whnf
 apply Qg<;>intro G
 .repeat refine⟨rfl,?_⟩
  conv=>whnf
  simp_all
 repeat refine⟨rfl,?_⟩
 conv=>whnf
 exact⟨⟨r,0,rfl,O1,O1⟩,B⟩
variable{Q:Qa T->Prop}
structure Qaa(U0:Qa T)(b cap:Nat)(M₀:List Qw)(l:List Int)(U:Qa T):Prop where
 imm:∀x o,U0.I x=some o->U.I x=some o
 tok:U.tok=U0.tok
 mem:∃c:Array Value,U.M=.obj b (.cells c 3 (0,0))::M₀/\c.size=cap/\HP c l
def Qaa.le{b cap:Nat}{M₀:List Qw}{l:List Int}{U U':Qa T}(h:Qaa U0 b cap M₀ l U)(hl:U.le U'):Qaa U0 b cap M₀ l U':=
 ⟨λ x o g=>hl.imm x o (h.imm x o g),hl.tok.trans h.tok,let ⟨c,h1,h2⟩:=h.mem;⟨c,hl.own.trans h1,h2⟩⟩
def Qaa.at(h:Qaa U0 x cap M₀ l U)(f:y<l.length):U.sees ((Addr.mk x 0 none).add (y*1)) (.int .i64 (ga l y)):=
 let ⟨_,h1,_,h3⟩:=h.mem;Yc h1 (h3 y _ (Zu9 f))
def Qaa.st(h:Qaa U0 y cap M₀ l U)(E:l.length<=cap)(k:Nat)(x:Int)(F:k<l.length)(B:∀f,Qaa U0 y cap M₀ (l.set k x) f->Q f) :
  QX ((Addr.mk y 0 none).add (k*1)) [.int .i64 x] 0 (λ U'=>∃f,Qv U' f/\Q f) U:=by
 obtain⟨c,h1,h2,w⟩:=h.mem;rw[Nat.mul_one];exact G_ [] h1 O1 rfl (B _ ⟨h.imm,h.tok,_,rfl,by simpa using h2,w.set O1 k x⟩)
def Qaa.ints(h:Qaa U0 y cap M₀ l U):Z6 U (some ⟨y,0,none⟩) l.length l:=
 ⟨rfl,λ i x hx=>⟨_,rfl,rfl,by have:=h.at (Zz4 hx);rwa [Zss hx]at this⟩⟩
def Zmt(b cap:Nat)(l:List Int)(M₀:List Qw)(h:Qaa U0 b cap M₀ l U)(G:l.length<=cap)(W:l.length<2^40)(x y:Nat)(N:x<y)(hy:y<=l.length) :
  Qb S 142 #[.slice (some ⟨b,0,none⟩) l.length cap,.int .i64 x,.int .i64 y] (λ _ U'=>∃l',Mix x y l l'/\Qaa U0 b cap M₀ l' U') U:=by
 refine Qb.of (args:=[_,_,_]) Zol Qf S1 ?_
 repeat refine⟨rfl,?_⟩
 refine⟨I1,?_⟩;rw[show(y:Int)-1=((y-1:Nat):Int) by omega]
 refine⟨Nat×Nat×List Int,λ z=>[(0,.slice (some ⟨b,0,none⟩) l.length cap),(6,.int .i64 z.1),(7,.int .i64 z.2.1)],
  λ z U'=>Qaa U0 b cap M₀ z.2.2 U'/\Mix x y l z.2.2/\x<=z.1/\z.2.1<y/\x<=z.2.1+1/\z.1<=y,λ z=>z.2.1+1-z.1,(x,y-1,l),T1,⟨h,.refl ..,Zz2,Zz2,Zz2,Zz2⟩,?_⟩
 rintro⟨i,j,m⟩f P⟨w,hm,h1,h2,I,K⟩;simp only at w hm h1 h2 I K;have M:=hm.len
 repeat refine⟨rfl,?_⟩
 conv=>whnf
 apply Qg<;>intro G
 .have hlt:i<j:=by simpa using G
  have hi:i<m.length:=O1
  have H:j<m.length:=O1
  refine⟨λ U'=>Qaa U0 b cap M₀ (m.set i (ga m j)) U',λ _ _ h F=>h.le F,_,j,⟨rfl,rfl,O1⟩,_,w.at H,_,i,⟨rfl,rfl,O1⟩,_,w.at hi,_,i,⟨rfl,rfl,O1⟩,?_⟩
  conv=>whnf
  intro Q E _;refine⟨⟨rfl,(w.le E).st O1 i _ hi λ _ h=>⟨rfl,_,.refl _,h⟩⟩,λ T L=>?_⟩;refine⟨_,j,⟨rfl,rfl,O1⟩,rfl,L.st (by simp_all) j _ (by simpa using H) λ V B=>?_⟩;refine⟨I1,?_⟩;refine⟨by grind[Z9],?_⟩
  conv=>whnf
  exact⟨rfl,(i+1,j-1,sw m i j),⟨rfl,rfl,by show Value.int .i64 ((j:Int)-1)=.int .i64 ((j-1:Nat):Int);grind,trivial⟩,
   ⟨B,hm.trans (Mix.sw O1 O1 O1 O1 O1),Zz2,Zz2,Zz2,Zz2⟩,by grind⟩
 .repeat refine⟨rfl,?_⟩
  conv=>whnf
  exact⟨m,hm,w⟩
def Zpb(b cap:Nat)(l:List Int)(M₀:List Qw)(h:Qaa U0 b cap M₀ l U)(Y:l.length<=cap)(hn:l.length<2^40)(x y:Nat)(N:x<=y)(hy:y<=l.length) :
  Qb S 138 #[.slice (some ⟨b,0,none⟩) l.length cap,.int .i64 x,.int .i64 y] (λ _ U'=>∃l',Mix x y l l'/\Srt l' x y/\Qaa U0 b cap M₀ l' U') U:=by
 refine Qb.of (args:=[_,_,_]) VZ Qf S1 ?_
 repeat refine⟨rfl,?_⟩
 refine⟨I1,?_⟩
 refine⟨Nat×List Int,λ z=>[(0,.slice (some ⟨b,0,none⟩) l.length cap),(1,.int .i64 x),(2,.int .i64 y),(6,.int .i64 z.1)],
  λ z U'=>Qaa U0 b cap M₀ z.2 U'/\Mix x y l z.2/\Srt z.2 x z.1/\x<z.1/\z.1<2^41,
  λ z=>y-z.1,(x+1,l),T1,⟨h,.refl ..,.one _ _ _ (Nat.le_refl _),Zz2,Zz2⟩,?_⟩
 rintro⟨i,m⟩f U1⟨w,hm,I,B,W⟩;simp only at w hm I B W
 repeat refine⟨rfl,?_⟩
 conv=>whnf
 apply Qg<;>intro K
 .have hlt:i<y:=by simpa using K
  have P:Z9 ((i:Int)+1):=I1
  refine⟨Nat×List Int,λ z=>[(0,.slice (some ⟨b,0,none⟩) l.length cap),(1,.int .i64 x),(2,.int .i64 y),(6,.int .i64 i),(7,.int .i64 z.1)],
   λ z U'=>Qaa U0 b cap M₀ z.2 U'/\Mix x y l z.2/\SB z.2 x i z.1/\x<=z.1/\z.1<=i,
   λ z=>z.1,(i,m),T1,⟨w,hm,.start I,Zz2,Zz2⟩,?_⟩
  clear w hm I;rintro⟨j,m⟩f U2⟨w,hm,H,M,Q⟩;simp only at w hm H M Q;have aa:=hm.len;have G:j<m.length:=O1
  repeat refine⟨rfl,?_⟩
  conv=>whnf
  apply Jt<;>intro K
  .have h0:x<j:=by simp at K;omega
   have B:Z9 ((j:Int)-1):=I1
   have F:(j:Int)-1=((j-1:Nat):Int):=O1
   have E:j-1<m.length:=O1
   repeat refine⟨rfl,?_⟩
   refine⟨_,j,⟨rfl,rfl,O1⟩,_,w.at G,?_⟩
   repeat refine⟨rfl,?_⟩
   refine⟨B,_,j-1,⟨rfl,F,O1⟩,_,w.at E,?_⟩
   conv=>whnf
   intro Z L _;have w:=w.le L;refine⟨FP.any,(zI (ga m j) (ga m (j-1))).go λ _=>?_⟩
   repeat refine⟨rfl,?_⟩
   conv=>whnf
   apply Qg<;>intro K
   .have N:ga m j<ga m (j-1):=of_decide_eq_true K;refine⟨λ U'=>Qaa U0 b cap M₀ (m.set j (ga m (j-1))) U',λ _ _ h X=>h.le X,B,B,_,j-1,⟨rfl,F,O1⟩,_,w.at E,_,j,⟨rfl,rfl,O1⟩,_,w.at G,_,j,⟨rfl,rfl,O1⟩,?_⟩
    conv=>whnf
    intro U4 V _;refine⟨⟨rfl,(w.le V).st O1 j _ G λ _ h=>⟨rfl,_,.refl _,h⟩⟩,λ U5 hG=>?_⟩;refine⟨_,j-1,⟨rfl,F,O1⟩,rfl,hG.st (by simp_all) (j-1) _ (by simpa using E) λ U6 T=>?_⟩;refine⟨B,?_⟩
    conv=>whnf
    exact⟨rfl,(j-1,sw m j (j-1)),⟨rfl,rfl,rfl,rfl,by rw[<- F];rfl,trivial⟩,⟨T,hm.trans (Mix.sw O1 O1 O1 O1 O1),H.step h0 Q G N,Zz2,Zz2⟩,by show j-1<j;omega⟩
   .have N:¬ga m j<ga m (j-1):=of_decide_eq_false K;refine⟨P,?_⟩
    conv=>whnf
    exact⟨rfl,(i+1,m),T1,⟨w,hm,H.done M Q (.inr O1),Zz2,Zz2⟩,L1⟩
  .have h0:j=x:=by simp at K;omega
   conv=>whnf
   intro Z L _
   repeat refine⟨rfl,?_⟩
   refine⟨P,?_⟩
   conv=>whnf
   exact⟨rfl,(i+1,m),T1,⟨w.le L,hm,H.done M Q (.inl h0),Zz2,Zz2⟩,L1⟩
 .have hge:y<=i:=by simpa using K
  repeat refine⟨rfl,?_⟩
  conv=>whnf
  exact⟨m,hm,I.sub (Nat.le_refl _) hge,w⟩
def Zn9(b cap:Nat)(l:List Int)(M₀:List Qw)(h:Qaa U0 b cap M₀ l U)(aa:l.length<=cap)(hn:l.length<2^40)(lo hi f:Nat)(hf:f+hi<=l.length)(ab:lo<2^40)(hh:Hp l f (lo+1) hi) :
  Qb S 161 #[.slice (some ⟨b,0,none⟩) l.length cap,.int .i64 lo,.int .i64 hi,.int .i64 f] (λ _ U'=>∃l',Mix f (f+hi) l l'/\Hp l' f lo hi/\Qaa U0 b cap M₀ l' U') U:=by
 refine Qb.of (args:=[_,_,_,_]) Zoo Qf S1 ?_
 repeat refine⟨rfl,?_⟩
 refine⟨Nat×List Int,λ z=>[(0,.slice (some ⟨b,0,none⟩) l.length cap),(2,.int .i64 hi),(3,.int .i64 f),(8,.int .i64 z.1)],
  λ z U'=>Qaa U0 b cap M₀ z.2 U'/\Mix f (f+hi) l z.2/\Zov z.2 f lo hi z.1/\lo<=z.1/\z.1<2^40,
  λ z=>hi-z.1,(lo,l),T1,⟨h,.refl ..,.start hh,Zz2,Zz2⟩,?_⟩
 rintro⟨r,m⟩fm U1⟨w,hm,hb,W,Z⟩;simp only at w hm hb W Z;have ac:=hm.len;refine⟨by grind[Z9],?_⟩;refine⟨by grind[Z9],?_⟩;rw[show(2*(r:Int)+1)=((2*r+1:Nat):Int) by omega]
 repeat refine⟨rfl,?_⟩
 conv=>whnf
 apply Qg<;>intro G
 .have hge:hi<=2*r+1:=by have:=of_decide_eq_true G;omega
  repeat refine⟨rfl,?_⟩
  conv=>whnf
  exact⟨m,hm,hb.done λ c k h=>by grind[Kid],w⟩
 have P:2*r+1<hi:=by have:=of_decide_eq_false G;omega
 have X:f+(2*r+1)<m.length:=O1
 repeat refine⟨rfl,?_⟩
 refine⟨by grind[Z9],?_⟩
 repeat refine⟨rfl,?_⟩
 conv=>whnf
 by_cases h2:2*r+2<hi
 .rw[show decide (((2*r+1:Nat):Int)+1<(hi:Int))=true from decide_eq_true O1];have Y:f+(2*r+1)+1<m.length:=O1
  refine⟨by grind[Z9],?_⟩;refine⟨_,f+(2*r+1),⟨rfl,rfl,O1⟩,_,w.at X,by grind[Z9],?_⟩;refine⟨by grind[Z9],?_⟩;refine⟨_,f+(2*r+1)+1,⟨rfl,rfl,O1⟩,_,w.at Y,?_⟩
  conv=>whnf
  intro U2 Q _;have w:=w.le Q;refine⟨FP.any,(zI (ga m (f+(2*r+1))) (ga m (f+(2*r+1)+1))).go λ _=>?_⟩
  repeat refine⟨rfl,?_⟩
  conv=>whnf
  apply Qg<;>intro G
  .have hlt:ga m (f+(2*r+1))<ga m (f+(2*r+1)+1):=of_decide_eq_true G;have L:2*r+2<hi:=h2
   have F:∀c',Kid r c'->c'<hi->ga m (f+c')<=ga m (f+(2*r+2)):=λ c' k' _=>by
    rcases k' with rfl|rfl
    .exact Int.le_of_lt hlt
    simp_all
   refine⟨by grind[Z9],?_⟩;rw[show((2*r+1:Nat):Int)+1=((2*r+2:Nat):Int) by omega];have M:Kid r (2*r+2):=.inr rfl;have B:f+(2*r+2)<m.length:=O1
   have E:f+r<m.length:=O1
   refine⟨by grind[Z9],?_⟩;refine⟨_,f+r,⟨rfl,rfl,O1⟩,_,w.at E,by grind[Z9],?_⟩;refine⟨_,f+(2*r+2),⟨rfl,rfl,O1⟩,_,w.at B,?_⟩
   conv=>whnf
   intro U3 I _;have w:=w.le I;refine⟨FP.any,(zI (ga m (f+r)) (ga m (f+(2*r+2)))).go λ _=>?_⟩
   repeat refine⟨rfl,?_⟩
   conv=>whnf
   apply Qg<;>intro G
   .have hge:¬ga m (f+r)<ga m (f+(2*r+2)):=by simpa using G
    repeat refine⟨rfl,?_⟩
    conv=>whnf
    exact⟨m,hm,hb.done λ c' k' T=>by grind,w⟩
   .have hlt:ga m (f+r)<ga m (f+(2*r+2)):=by simpa using G
    refine⟨λ U'=>Qaa U0 b cap M₀ (m.set (f+r) (ga m (f+(2*r+2)))) U',λ _ _ h N=>h.le N,by grind[Z9],?_⟩;refine⟨by grind[Z9],?_⟩;refine⟨by grind[Z9],?_⟩;refine⟨_,f+(2*r+2),⟨rfl,rfl,O1⟩,_,w.at B,by grind[Z9],?_⟩;refine⟨_,f+r,⟨rfl,rfl,O1⟩,_,w.at E,_,f+r,⟨rfl,rfl,O1⟩,?_⟩
    conv=>whnf
    intro U4 K _;refine⟨⟨rfl,(w.le K).st O1 (f+r) _ E λ _ h=>⟨rfl,_,.refl _,h⟩⟩,λ U5 V=>?_⟩;refine⟨_,f+(2*r+2),⟨rfl,rfl,O1⟩,rfl,V.st (by simp_all) (f+(2*r+2)) _ (by simpa using B) λ U6 H=>?_⟩
    conv=>whnf
    exact⟨rfl,(2*r+2,sw m (f+r) (f+(2*r+2))),T1,⟨H,hm.trans (Mix.sw O1 O1 O1 O1 O1),hb.step W M L O1 F hlt,by grind,Zz2⟩,by grind⟩
  .have hge:¬ga m (f+(2*r+1))<ga m (f+(2*r+1)+1):=of_decide_eq_false G;have L:2*r+1<hi:=P
   have F:∀c',Kid r c'->c'<hi->ga m (f+c')<=ga m (f+(2*r+1)):=λ c' k' _=>by
    rcases k' with rfl|rfl
    .exact Int.le_refl _
    grind
   have M:Kid r (2*r+1):=.inl rfl;have B:f+(2*r+1)<m.length:=O1
   have E:f+r<m.length:=O1
   refine⟨by grind[Z9],?_⟩;refine⟨_,f+r,⟨rfl,rfl,O1⟩,_,w.at E,by grind[Z9],?_⟩;refine⟨_,f+(2*r+1),⟨rfl,rfl,O1⟩,_,w.at B,?_⟩
   conv=>whnf
   intro U3 I _;have w:=w.le I;refine⟨FP.any,(zI (ga m (f+r)) (ga m (f+(2*r+1)))).go λ _=>?_⟩
   repeat refine⟨rfl,?_⟩
   conv=>whnf
   apply Qg<;>intro G
   .have hge:¬ga m (f+r)<ga m (f+(2*r+1)):=by simpa using G
    repeat refine⟨rfl,?_⟩
    conv=>whnf
    exact⟨m,hm,hb.done λ c' k' T=>by grind,w⟩
   .have hlt:ga m (f+r)<ga m (f+(2*r+1)):=by simpa using G
    refine⟨λ U'=>Qaa U0 b cap M₀ (m.set (f+r) (ga m (f+(2*r+1)))) U',λ _ _ h N=>h.le N,by grind[Z9],?_⟩;refine⟨by grind[Z9],?_⟩;refine⟨by grind[Z9],?_⟩;refine⟨_,f+(2*r+1),⟨rfl,rfl,O1⟩,_,w.at B,by grind[Z9],?_⟩;refine⟨_,f+r,⟨rfl,rfl,O1⟩,_,w.at E,_,f+r,⟨rfl,rfl,O1⟩,?_⟩
    conv=>whnf
    intro U4 K _;refine⟨⟨rfl,(w.le K).st O1 (f+r) _ E λ _ h=>⟨rfl,_,.refl _,h⟩⟩,λ U5 V=>?_⟩;refine⟨_,f+(2*r+1),⟨rfl,rfl,O1⟩,rfl,V.st (by simp_all) (f+(2*r+1)) _ (by simpa using B) λ U6 H=>?_⟩
    conv=>whnf
    exact⟨rfl,(2*r+1,sw m (f+r) (f+(2*r+1))),T1,⟨H,hm.trans (Mix.sw O1 O1 O1 O1 O1),hb.step W M L O1 F hlt,by grind,Zz2⟩,by grind⟩
 .rw[show decide (((2*r+1:Nat):Int)+1<(hi:Int))=false from decide_eq_false O1];have L:2*r+1<hi:=P
  have F:∀c',Kid r c'->c'<hi->ga m (f+c')<=ga m (f+(2*r+1)):=λ c' k' T=>by
   rcases k' with rfl|rfl
   .simp_all
   .omega
  conv=>whnf
  intro U2 Q _;have w:=w.le Q;have M:Kid r (2*r+1):=.inl rfl;have B:f+(2*r+1)<m.length:=O1
  have E:f+r<m.length:=O1
  refine⟨by grind[Z9],?_⟩;refine⟨_,f+r,⟨rfl,rfl,O1⟩,_,w.at E,by grind[Z9],?_⟩;refine⟨_,f+(2*r+1),⟨rfl,rfl,O1⟩,_,w.at B,?_⟩
  conv=>whnf
  intro U3 I _;have w:=w.le I;refine⟨FP.any,(zI (ga m (f+r)) (ga m (f+(2*r+1)))).go λ _=>?_⟩
  repeat refine⟨rfl,?_⟩
  conv=>whnf
  apply Qg<;>intro G
  .have hge:¬ga m (f+r)<ga m (f+(2*r+1)):=by simpa using G
   repeat refine⟨rfl,?_⟩
   conv=>whnf
   exact⟨m,hm,hb.done λ c' k' T=>by grind,w⟩
  .have hlt:ga m (f+r)<ga m (f+(2*r+1)):=by simpa using G
   refine⟨λ U'=>Qaa U0 b cap M₀ (m.set (f+r) (ga m (f+(2*r+1)))) U',λ _ _ h N=>h.le N,by grind[Z9],?_⟩;refine⟨by grind[Z9],?_⟩;refine⟨by grind[Z9],?_⟩;refine⟨_,f+(2*r+1),⟨rfl,rfl,O1⟩,_,w.at B,by grind[Z9],?_⟩;refine⟨_,f+r,⟨rfl,rfl,O1⟩,_,w.at E,_,f+r,⟨rfl,rfl,O1⟩,?_⟩
   conv=>whnf
   intro U4 K _;refine⟨⟨rfl,(w.le K).st O1 (f+r) _ E λ _ h=>⟨rfl,_,.refl _,h⟩⟩,λ U5 V=>?_⟩;refine⟨_,f+(2*r+1),⟨rfl,rfl,O1⟩,rfl,V.st (by simp_all) (f+(2*r+1)) _ (by simpa using B) λ U6 H=>?_⟩
   conv=>whnf
   exact⟨rfl,(2*r+1,sw m (f+r) (f+(2*r+1))),T1,⟨H,hm.trans (Mix.sw O1 O1 O1 O1 O1),hb.step W M L O1 F hlt,by grind,Zz2⟩,by grind⟩
variable{m:List Int}
def Ztp(hy:y<=m.length)(hi:x+i<y)(b:Hp m x 0 (i+1)):Hp (sw m x (x+i)) x (0+1) i:=λ p c h1 h2 f=>by
 have h:1<=c:=by unfold Kid at h2;omega
 have hp:p<c:=by unfold Kid at h2;omega
 rw[Ze2 O1 O1,Ze2 O1 O1,if_neg O1,if_neg O1,if_neg O1,if_neg O1];exact b p c O1 h2 O1
def Zto(hy:y<=m.length)(hi:x+i<y)(E:Hp m x 0 (i+1))(F:Srt m (x+(i+1)) y)(hl:Low m x (x+(i+1)) (x+(i+1)) y)(hm:Mix x (x+i) (sw m x (x+i)) l) :
  Srt l (x+i) y/\Low l x (x+i) (x+i) y:=by
 have get:∀k,ga (sw m x (x+i)) k=if k=x+i then ga m x else if k=x then ga m (x+i)else ga m k:=Ze2 O1 O1
 have top:=E.top
 have I:Srt (sw m x (x+i)) (x+i) y:=λ p q h1 h2 b=>by
  rw[get,get,if_neg (show ¬q=x+i by omega),if_neg (show ¬q=x by omega)];by_cases e:p=x+i
  .rw[if_pos e];exact hl x q (Nat.le_refl _) O1 O1 b
  .rw[if_neg e,if_neg O1];exact F p q O1 h2 b
 have H:Low (sw m x (x+i)) x (x+i) (x+i) y:=λ p q h1 h2 b w=>by
  rw[get,get,if_neg (show ¬p=x+i by omega)]
  have G:∃c,c<i+1/\(if p=x then ga m (x+i)else ga m p)=ga m (x+c):=by
   by_cases e:p=x
   .rw[if_pos e];exact⟨i,O1,rfl⟩
   .rw[if_neg e];exact⟨p-x,O1,by simp_all⟩
  obtain⟨c,B,h⟩:=G;rw[h];by_cases e:q=x+i
  .simp_all
  .rw[if_neg e,if_neg O1];exact hl (x+c) q O1 O1 O1 w
 exact⟨I.keep hm (.inr (Nat.le_refl _)),H.mix_l hm (Nat.le_refl _)⟩
def Zvk(n:Nat)(h:n<2^50):IntKind.wrap .i64 ((n:Int).tdiv 2)=((n / 2:Nat):Int):=by
 have e:(n:Int).tdiv 2=((n / 2:Nat):Int):=by rw[Int.tdiv_eq_ediv_of_nonneg O1];omega
 rw[e,Gl I1]
def Zre(b cap:Nat)(l:List Int)(M₀:List Qw)(h:Qaa U0 b cap M₀ l U)(Z:l.length<=cap)(hn:l.length<2^40)(x y:Nat)(aa:x<y)(hy:y<=l.length) :
  Qb S 139 #[.slice (some ⟨b,0,none⟩) l.length cap,.int .i64 x,.int .i64 y] (λ _ U'=>∃l',Mix x y l l'/\Srt l' x y/\Qaa U0 b cap M₀ l' U') U:=by
 refine Qb.of (args:=[_,_,_]) Zqq Qf S1 ?_;refine⟨I1,?_⟩;rw[show(y:Int)-x=((y-x:Nat):Int) by omega];generalize hk:y-x=n;refine⟨I1,?_⟩;rw[show(n:Int)-1=((n-1:Nat):Int) by omega]
 repeat refine⟨rfl,?_⟩
 refine⟨D1,?_⟩;rw[Zvk (n-1) O1]
 refine⟨Int×List Int,λ z=>[(0,.slice (some ⟨b,0,none⟩) l.length cap),(6,.int .i64 x),(7,.int .i64 0),(8,.int .i64 n),(9,.int .i64 z.1)],
  λ z U'=>Qaa U0 b cap M₀ z.2 U'/\Mix x y l z.2 /\ -1<=z.1/\z.1<2^40/\Hp z.2 x (z.1+1).toNat n,
  λ z=>(z.1+1).toNat,(((n-1) / 2:Nat),l),T1,⟨h,.refl ..,Zz2,Zz2,λ p c h1 h2 h3=>by grind[Kid]⟩,?_⟩
 rintro⟨i,m⟩f U1⟨E,hm,K,L,w⟩;simp only at E hm K L w;have F:=hm.len
 repeat refine⟨rfl,?_⟩
 conv=>whnf
 apply Qg<;>intro N
 .have h0:0<=i:=by simpa using N
  obtain⟨k,rfl⟩:=Int.eq_ofNat_of_zero_le h0;have Q:((k:Int)+1).toNat=k+1:=O1
  rw[Q]at w
  conv=>whnf
  have M:=Zn9 (S:=S) b cap m M₀ E O1 O1 k n x O1 O1 w;rw[F]at M;refine⟨Zoo.any,M.mono ?_⟩;rintro _ U2⟨Y,B,I,G⟩-;rw[show x+n=y by omega]at B
  repeat refine⟨rfl,?_⟩
  refine⟨by grind[Z9],?_⟩
  conv=>whnf
  exact⟨rfl,((k:Int)-1,Y),⟨rfl,rfl,rfl,rfl,rfl,trivial⟩,⟨G,hm.trans B,by simp only;omega,by simp only;omega,by simp_all⟩,by simp_all⟩
 .have h0:i = -1:=by have:¬(0<=i):=(by simpa using N);omega
  subst h0;have w:Hp m x 0 n:=w
  repeat refine⟨rfl,?_⟩
  refine⟨I1,?_⟩
  refine⟨Int×List Int,λ z=>[(0,.slice (some ⟨b,0,none⟩) l.length cap),(6,.int .i64 x),(7,.int .i64 0),(8,.int .i64 n),(10,.int .i64 z.1)],
   λ z U'=>Qaa U0 b cap M₀ z.2 U'/\Mix x y l z.2 /\ -1<=z.1/\z.1<n/\Hp z.2 x 0 (z.1+1).toNat/\Srt z.2 (x+(z.1+1).toNat) y/\Low z.2 x (x+(z.1+1).toNat) (x+(z.1+1).toNat) y,
   λ z=>(z.1+1).toNat,((n:Int)-1,m),T1,⟨E,hm,Zz2,Zz2,by simp_all,.one _ _ _ (Zz2),λ p q _ _ h1 h2=>by grind⟩,?_⟩
  clear E hm w F;rintro⟨i,m⟩f U1⟨E,hm,K,L,w,M,hl⟩;simp only at E hm K L w M hl;have F:=hm.len
  repeat refine⟨rfl,?_⟩
  conv=>whnf
  apply Qg<;>intro N
  .have h0:0<=i:=by simpa using N
   obtain⟨k,rfl⟩:=Int.eq_ofNat_of_zero_le h0;have Q:((k:Int)+1).toNat=k+1:=O1
   rw[Q]at w M hl;have hx:x<m.length:=O1
   have P:x+k<m.length:=O1
   refine⟨λ U'=>Qaa U0 b cap M₀ (m.set x (ga m (x+k))) U',λ _ _ h W=>h.le W,by grind[Z9],?_⟩;refine⟨by grind[Z9],?_⟩;refine⟨_,x+k,⟨rfl,rfl,O1⟩,_,E.at P,_,x,⟨rfl,rfl,O1⟩,_,E.at hx,_,x,⟨rfl,rfl,O1⟩,?_⟩
   conv=>whnf
   intro U4 V _;refine⟨⟨rfl,(E.le V).st O1 x _ hx λ _ h=>⟨rfl,_,.refl _,h⟩⟩,λ U5 hG=>?_⟩;refine⟨_,x+k,⟨rfl,rfl,O1⟩,rfl,hG.st (by simp_all) (x+k) _ (by simpa using P) λ U6 H=>?_⟩;have H:Qaa U0 b cap M₀ (sw m x (x+k)) U6:=H;have X:=Zu6 m x (x+k);have hq:=Zn9 (S:=S) b cap (sw m x (x+k)) M₀ H O1 O1 0 k x O1 O1 (Ztp (y:=y) O1 O1 w);rw[X,F]at hq;refine⟨Zoo.any,hq.mono ?_⟩;rintro _ U2⟨Y,B,I,G⟩-;obtain⟨s2,l2⟩:=Zto O1 O1 w M hl B
   repeat refine⟨rfl,?_⟩
   refine⟨by grind[Z9],?_⟩
   conv=>whnf
   have T:((k:Int)-1+1).toNat=k:=O1
   exact⟨rfl,((k:Int)-1,Y),T1,⟨G,hm.trans ((Mix.sw O1 O1 O1 O1 O1).trans (B.widen (Nat.le_refl _) O1)),Zz2,Zz2,by rw[T];exact I,by rw[T];exact s2,by rw[T];exact l2⟩,by simp_all⟩
  .have h0:i = -1:=by have:¬(0<=i):=(by simpa using N);omega
   subst h0
   repeat refine⟨rfl,?_⟩
   conv=>whnf
   grind
variable{t:TypeId}{E v:Value}
def Zrs(X:List Qw)(w:U.M=X++.obj y (.cells #[E] t (0,0))::M₀)(B:v.single=true)
  (h:∀τ:Qa T,(∀x o,U.I x=some o->τ.I x=some o)->τ.tok=U.tok->τ.M=X++.obj y (.cells #[v] t (0,0))::M₀->Q τ):QX ⟨y,0,none⟩ [v] 0 (λ U'=>∃f,Qv U' f/\Q f) U:=
 Yl X w rfl (by simpa using B) (h _ (λ _ _ h=>h) rfl rfl)
def Zqf(h:Nat)(e:Int)(X Z:List Qw)(U0:Qa T)(hI:∀x o,U0.I x=some o->U.I x=some o)(ht:U.tok=U0.tok)(V:U.M=X++.obj h (.cells #[.int .u64 e] 244 (0,0))::Z) :
  Qb S 163 #[.pb h] (λ v U'=>∃e':Int,v=.int .u64 e'/\(∀x o,U0.I x=some o->U'.I x=some o)/\U'.tok=U0.tok/\U'.M=X++.obj h (.cells #[.int .u64 e'] 244 (0,0))::Z) U:=by
 refine Qb.of (args:=[_]) Zqv Qf S1 ?_;refine⟨_,Q9 X V 0 _ rfl,_,Q9 X V 0 _ rfl,D1,?_⟩
 conv=>whnf
 intro U1 K _;have P:=K.own.trans V;refine⟨rfl,rfl,?_⟩;show QX ⟨h,0,none⟩ [.int .u64 _] 0 _ _;refine Zrs X P rfl λ τ₁ b F B=>?_;have b:∀x o,U0.I x=some o->τ₁.I x=some o:=λ x o g=>b x o (K.imm x o (hI x o g));have F:=F.trans (K.tok.trans ht);refine⟨_,Q9 X B 0 _ rfl,_,Q9 X B 0 _ rfl,D1,?_⟩
 conv=>whnf
 intro U2 L _;have W:=L.own.trans B;refine⟨rfl,rfl,?_⟩;show QX ⟨h,0,none⟩ [.int .u64 _] 0 _ _;refine Zrs X W rfl λ τ₂ f G E=>?_;have f:∀x o,U0.I x=some o->τ₂.I x=some o:=λ x o g=>f x o (L.imm x o (b x o g));have G:=G.trans (L.tok.trans F);refine⟨_,Q9 X E 0 _ rfl,_,Q9 X E 0 _ rfl,D1,?_⟩
 conv=>whnf
 intro U3 N _;have Y:=N.own.trans E;refine⟨rfl,rfl,?_⟩;show QX ⟨h,0,none⟩ [.int .u64 _] 0 _ _;refine Zrs X Y rfl λ τ₃ w H Q=>?_;have w:∀x o,U0.I x=some o->τ₃.I x=some o:=λ x o g=>w x o (N.imm x o (f x o g));have H:=H.trans (N.tok.trans G);refine⟨_,Q9 X Q 0 _ rfl,?_⟩
 conv=>whnf
 simp_all
variable{o:UInt8->Prop}
def lenT:ByteArray:=⟨#[0,1,2,2,3,3,3,3,4,4,4,4,4,4,4,4,5,5,5,5,5,5,5,5,5,5,5,5,5,5,5,5,6,6,6,6,6,6,6,6,6,6,6,6,6,6,6,6,6,6,6,6,6,6,6,6,6,6,6,6,6,6,6,6,7,7,7,7,7,7,7,7,7,7,7,7,7,7,7,7,7,7,7,7,7,7,7,7,7,7,7,7,7,7,7,7,7,7,7,7,7,7,7,7,7,7,7,7,7,7,7,7,7,7,7,7,7,7,7,7,7,7,7,7,7,7,7,7,8,8,8,8,8,8,8,8,8,8,8,8,8,8,8,8,8,8,8,8,8,8,8,8,8,8,8,8,8,8,8,8,8,8,8,8,8,8,8,8,8,8,8,8,8,8,8,8,8,8,8,8,8,8,8,8,8,8,8,8,8,8,8,8,8,8,8,8,8,8,8,8,8,8,8,8,8,8,8,8,8,8,8,8,8,8,8,8,8,8,8,8,8,8,8,8,8,8,8,8,8,8,8,8,8,8,8,8,8,8,8,8,8,8,8,8,8,8,8,8,8,8,8,8,8,8,8,8]⟩
def Zur:((range 256).all λ n=>match lenT[n]? with|some b=>decide (b.toNat<=8)&&(n==0|| decide (2^b.toNat<=2*n))|none=>false)=true:=K1
def Zu2(h:n<256)(h1:1<=n)(f:∀c:UInt8,c.toNat<=8->2^c.toNat<=2*n->o c):∃(j:Nat)(b:UInt8),((n:Int)=j/\lenT[j]?=some b)/\o b:=by
 have:=all_eq_true.1 Zur n (mem_range.2 h);grind
def Zo8(n:Nat)(E:n<256)(h1:1<=n):Qb S 148 #[.int .u64 n] (λ v U'=>(∃m:Nat,v=.int .i64 m/\m<=8/\2^m<=2*n)/\U'=U) U:=by
 refine Qb.pure' (Q:=λ v=>∃m:Nat,v=.int .i64 m/\m<=8/\2^m<=2*n) (Qb.of (args:=[_]) FQ Qf S1 ?_)
 repeat refine⟨rfl,?_⟩
 conv=>whnf
 apply Qg<;>intro b
 .simp at b;omega
 repeat refine⟨rfl,?_⟩
 conv=>whnf
 apply Qg<;>intro b
 .simp at b;omega
 repeat refine⟨rfl,?_⟩
 conv=>whnf
 apply Qg<;>intro b
 .simp at b;omega
 conv=>whnf
 have F:IntKind.wrap .u8 (n:Int)=n:=by
  have B:(2:Int)^8=256:=D1
  simp only[IntKind.wrap,IntKind.bits,IntKind.signed,Bool.false_and,B];simp;omega
 rw[F];refine Zu2 E h1 λ c h f=>?_;have w:IntKind.wrap .i64 (c.toNat:Int)=c.toNat:=Gl I1
 conv=>whnf
 rw[w];refine⟨I1,?_⟩;refine⟨⟨c.toNat,?_,h,f⟩,(Qa.le.refl _).lg⟩;simp_all
def Zmk(n:Nat)(f:n<256)(h1:1<=n):Qb S 105 #[.int .u64 n] (λ v U'=>(∃m:Nat,v=.int .i64 m/\m<=8/\2^m<=2*n)/\U'=U) U:=by
 refine Qb.pure' (Q:=λ v=>∃m:Nat,v=.int .i64 m/\m<=8/\2^m<=2*n) (Qb.of (args:=[_]) Fv Qf S1 ?_);refine⟨FQ.any,(Zo8 n f h1).mono ?_⟩;rintro _ U'⟨⟨m,rfl,h,w⟩,b⟩-;obtain rfl:=b.symm
 repeat refine⟨rfl,?_⟩
 conv=>whnf
 exact⟨⟨m,rfl,h,w⟩,(Qa.le.refl _).lg⟩
def Zrk(n:Nat)(h:n<256)(h1:1<=n):Qb S 162 #[.int .i64 n] (λ v U'=>(∃m:Nat,v=.int .u64 m/\1<=m/\m<=2*n)/\U'=U) U:=by
 refine Qb.pure' (Q:=λ v=>∃m:Nat,v=.int .u64 m/\1<=m/\m<=2*n) (Qb.of (args:=[_]) Zqu Qf S1 ?_)
 conv=>whnf
 have w:IntKind.wrap .u64 (n:Int)=n:=by
  have f:(2:Int)^64=18446744073709551616:=D1
  simp only[IntKind.wrap,IntKind.bits,IntKind.signed,Bool.false_and,f];simp;omega
 rw[w];refine⟨Fv.any,(Zmk n h h1).mono ?_⟩;rintro _ U'⟨⟨m,rfl,E,B⟩,b⟩-;obtain rfl:=b.symm;refine⟨O1,⟨2^m,?_,Nat.one_le_two_pow,B⟩,(Qa.le.refl _).lg⟩;congr 1;have key:∀m:_root_.Fin 9,IntKind.wrap .u64 (1*2^min ((m.1:Nat):Int).toNat IntKind.u64.bits)=((2^m.1:Nat):Int):=D1
 exact key ⟨m,O1⟩
def Zu1(e:Int)(m:Nat)(h1:1<=m)(h2:m<2^20):∃r:Nat,IntKind.wrap .u64 ((BitVec.ofInt (IntKind.bits .u64) e&&&BitVec.ofInt (IntKind.bits .u64) ((m-1:Nat):Int)).toNat:Nat)=(r:Int)/\r<m:=by
 show ∃r:Nat,IntKind.wrap .u64 (((BitVec.ofInt 64 e&&&BitVec.ofInt 64 ((m-1:Nat):Int)).toNat:Nat):Int)=(r:Int)/\r<m;have f:(BitVec.ofInt 64 ((m-1:Nat):Int)).toNat=m-1:=by rw[BitVec.ofInt_natCast,BitVec.toNat_ofNat,Nat.mod_eq_of_lt O1]
 have h:(BitVec.ofInt 64 e&&&BitVec.ofInt 64 ((m-1:Nat):Int)).toNat<=m-1:=by
  rw[BitVec.toNat_and,f];exact Nat.and_le_right
 generalize(BitVec.ofInt 64 e&&&BitVec.ofInt 64 ((m-1:Nat):Int)).toNat=r at h;refine⟨r,?_,O1⟩;show IntKind.wrap .u64 (r:Int)=r;have b:(2:Int)^64=18446744073709551616:=D1
 simp only[IntKind.wrap,IntKind.bits,IntKind.signed,Bool.false_and,b];simp;omega
def Zui(h:n<2^60):IntKind.wrap .u64 (n:Int)=n:=by
 have b:(2:Int)^64=18446744073709551616:=D1
 simp only[IntKind.wrap,IntKind.bits,IntKind.signed,Bool.false_and,b];simp;omega
def Zqb(b cap:Nat)(l:List Int)(M₀:List Qw)(h:Qaa U0 b cap M₀ l U)(ad:l.length<=cap)(hn:l.length<200)(x y:Nat)(ah:x<y)(hy:y<=l.length) :
  Qb S 140 #[.slice (some ⟨b,0,none⟩) l.length cap,.int .i64 x,.int .i64 y] (λ _ U'=>∃l',Mix x y l l'/\Qaa U0 b cap M₀ l' U') U:=by
 refine Qb.post (R:=λ _ U'=>∃l':List Int,Mix x y l l'/\∃A,Qaa U0 b cap (A++M₀) l' U') (Qb.of (args:=[_,_,_]) Zqr Qf S1 ?_) ?_
 rotate_left
 .rintro v U' ⟨l',hm,A,w⟩;obtain⟨c,h1,h2⟩:=w.mem;exact⟨{ U' with M:=.obj b (.cells c 3 (0,0))::M₀ },Zx (M':=.obj b (.cells c 3 (0,0))::M₀) (by simp_all),l',hm,w.imm,w.tok,c,rfl,h2⟩
 refine⟨I1,?_⟩;rw[show(y:Int)-x=((y-x:Nat):Int) by omega];generalize hk:y-x=n
 repeat refine⟨rfl,?_⟩
 conv=>whnf
 apply Qg<;>intro P
 .have h8:8<=n:=by have:=of_decide_eq_true P;omega
  conv=>whnf
  rw[Zui O1];obtain⟨c,T,Q,E⟩:=h.mem;intro B ae;refine⟨{ U.put B (.cells #[.int .u64 0] 244)with M:=.obj b (.cells c 3 (0,0))::.obj B (.cells #[.int .u64 0] 244 (0,0))::M₀ },?_,?_⟩
  .refine Wp ?_;show Perm (.obj B _::U.M) _;rw[T];exact Perm.swap ..
  have hI:∀x o,U0.I x=some o->(U.put B (.cells #[.int .u64 0] 244)).I x=some o:=λ x o g=>(Z2 _ _).imm x o (h.imm x o g);refine⟨rfl,?_⟩;show QX ⟨B,0,none⟩ [.int .u64 n] 0 _ _;refine Zrs [.obj b (.cells c 3 (0,0))] rfl rfl λ τ hJ hT hN=>?_;have w:Qaa U0 b cap (.obj B (.cells #[.int .u64 n] 244 (0,0))::M₀) l τ:=⟨λ x o g=>hJ x o (hI x o g),hT.trans h.tok,c,hN,Q,E⟩;clear hJ hT hN hI T E;refine⟨Zqu.any,(Zrk n O1 O1).mono ?_⟩;rintro _ U'⟨⟨m,rfl,ac,af⟩,Z⟩-;obtain rfl:=Z.symm
  repeat refine⟨rfl,?_⟩
  refine⟨D1,?_⟩;rw[Zue n O1];refine⟨I1,?_⟩;refine⟨I1,?_⟩;refine⟨I1,?_⟩;rw[show(x:Int)+((n / 4:Nat):Int)*2-1=((x+n / 4*2-1:Nat):Int) by omega]
  refine⟨Nat×List Int×Int,λ z=>[(0,.slice (some ⟨b,0,none⟩) l.length cap),(1,.int .i64 x),(6,.int .i64 n),(7,.pb B),(8,.int .u64 m),(9,.int .i64 z.1)],
   λ z U'=>Qaa U0 b cap (.obj B (.cells #[.int .u64 z.2.2] 244 (0,0))::M₀) z.2.1 U'/\Mix x y l z.2.1/\x+1<=z.1/\z.1<=x+n / 4*2+2,λ z=>x+n / 4*2+2-z.1,(x+n / 4*2-1,l,n),T1,⟨w,.refl ..,Zz2,Zz2⟩,?_⟩
  clear w;rintro⟨i,q,e⟩f U1⟨w,hm,aa,ab⟩;simp only at w hm aa ab;have ag:=hm.len
  repeat refine⟨rfl,?_⟩
  refine⟨D1,?_⟩;rw[Zue n O1];refine⟨I1,?_⟩;refine⟨I1,?_⟩;refine⟨I1,?_⟩
  repeat refine⟨rfl,?_⟩
  conv=>whnf
  apply Qg<;>intro P
  .have H:i<=x+n / 4*2+1:=by have:=of_decide_eq_true P;simp only at this;omega
   obtain⟨c,T,Q,E⟩:=w.mem;refine⟨Zqv.any,(Zqf B e [.obj b (.cells c 3 (0,0))] M₀ U0 w.imm w.tok T).mono ?_⟩;rintro _ U2⟨e',rfl,K,W,V⟩-;have w:Qaa U0 b cap (.obj B (.cells #[.int .u64 e'] 244 (0,0))::M₀) q U2:=⟨K,W,c,V,Q,E⟩;clear K W V T E;refine⟨rfl,?_⟩;have ew:IntKind.wrap .u64 ((m:Int)-1)=((m-1:Nat):Int):=by rw[show(m:Int)-1=((m-1:Nat):Int) by omega,Zui O1]
   rw[ew];refine⟨rfl,?_⟩;obtain⟨r,er,hr⟩:=Zu1 e' m ac O1;rw[er];have X:IntKind.wrap .i64 (r:Int)=r:=Gl I1
   conv=>whnf
   rw[X]
   repeat refine⟨rfl,?_⟩
   conv=>whnf
   apply Qg<;>intro P
   .have hge:n<=r:=by have:=of_decide_eq_true P;omega
    refine⟨by grind[Z9],?_⟩;rw[show(r:Int)-n=((r-n:Nat):Int) by omega];have G:x+(r-n)<q.length:=O1
    have F:i<q.length:=O1
    refine⟨λ U'=>Qaa U0 b cap (.obj B (.cells #[.int .u64 e'] 244 (0,0))::M₀) (q.set i (ga q (x+(r-n)))) U',λ _ _ h H=>h.le H,by grind[Z9],?_⟩;refine⟨by grind[Z9],?_⟩;refine⟨_,x+(r-n),⟨rfl,rfl,O1⟩,_,w.at G,_,i,⟨rfl,rfl,O1⟩,_,w.at F,_,i,⟨rfl,rfl,O1⟩,?_⟩
    conv=>whnf
    intro U4 N _;refine⟨⟨rfl,(w.le N).st O1 i _ F λ _ h=>⟨rfl,_,.refl _,h⟩⟩,λ U5 Y=>?_⟩;refine⟨_,x+(r-n),⟨rfl,rfl,O1⟩,rfl,Y.st (by simp_all) (x+(r-n)) _ (by simpa using G) λ U6 L=>?_⟩;refine⟨by grind[Z9],?_⟩
    conv=>whnf
    exact⟨rfl,(i+1,sw q i (x+(r-n)),e'),T1,⟨L,hm.trans (Mix.sw O1 O1 O1 O1 O1),Zz2,Zz2⟩,by grind⟩
   .have hlt:r<n:=by have:=of_decide_eq_false P;omega
    have G:x+r<q.length:=O1
    have F:i<q.length:=O1
    refine⟨λ U'=>Qaa U0 b cap (.obj B (.cells #[.int .u64 e'] 244 (0,0))::M₀) (q.set i (ga q (x+r))) U',λ _ _ h H=>h.le H,by grind[Z9],?_⟩;refine⟨by grind[Z9],?_⟩;refine⟨_,x+r,⟨rfl,rfl,O1⟩,_,w.at G,_,i,⟨rfl,rfl,O1⟩,_,w.at F,_,i,⟨rfl,rfl,O1⟩,?_⟩
    conv=>whnf
    intro U4 N _;refine⟨⟨rfl,(w.le N).st O1 i _ F λ _ h=>⟨rfl,_,.refl _,h⟩⟩,λ U5 Y=>?_⟩;refine⟨_,x+r,⟨rfl,rfl,O1⟩,rfl,Y.st (by simp_all) (x+r) _ (by simpa using G) λ U6 L=>?_⟩;refine⟨by grind[Z9],?_⟩
    conv=>whnf
    exact⟨rfl,(i+1,sw q i (x+r),e'),T1,⟨L,hm.trans (Mix.sw O1 O1 O1 O1 O1),Zz2,Zz2⟩,by grind⟩
  .have hge:x+n / 4*2+1<i:=by have:=of_decide_eq_false P;simp only at this;omega
   repeat refine⟨rfl,?_⟩
   conv=>whnf
   exact⟨q,hm,[_],w⟩
 .repeat refine⟨rfl,?_⟩
  conv=>whnf
  exact⟨l,.refl ..,[],h⟩
def Zpp(b cap:Nat)(l:List Int)(M₀:List Qw)(h:Qaa U0 b cap M₀ l U)(ai:l.length<=cap)(hn:l.length<2^40)(x y p:Nat)(al:x<=p)(ak:p<y)(hy:y<=l.length) :
  Qb S 145 #[.slice (some ⟨b,0,none⟩) l.length cap,.int .i64 x,.int .i64 y,.int .i64 p] (λ v U'=>∃(q:Nat)(l':List Int),v=.int .i64 q/\Mix x y l l'/\x<q/\q<=y/\(∀k,x<=k->k<q->ga l' k<=ga l p)/\(∀k,q<=k->k<y->ga l p<ga l' k)/\Qaa U0 b cap M₀ l' U') U:=by
 refine Qb.of (args:=[_,_,_,_]) Zqs Qf S1 ?_;have B:=h;have hi:x<l.length:=O1
 have K:p<l.length:=O1
 refine⟨λ U'=>Qaa U0 b cap M₀ (l.set (x) (ga l (p))) U',λ _ _ h F=>h.le F,_,p,⟨rfl,rfl,O1⟩,_,B.at K,_,x,⟨rfl,rfl,O1⟩,_,B.at hi,_,x,⟨rfl,rfl,O1⟩,?_⟩
 conv=>whnf
 intro Us P _;refine⟨⟨rfl,(B.le P).st O1 (x) _ hi λ _ h=>⟨rfl,_,.refl _,h⟩⟩,λ Ut N=>?_⟩;refine⟨_,p,⟨rfl,rfl,O1⟩,rfl,N.st (by simp_all) (p) _ (by simpa using K) λ V B=>?_⟩;clear N P;have B:Qaa U0 b cap M₀ (sw l (x) (p)) V:=B
 have L:ga (sw l x p) x=ga l p:=by
  rw[Ze2 hi K];by_cases e:x=p
  .rw[if_pos e,e]
  .simp_all
 have ab:Mix x y l (sw l x p):=Mix.sw O1 O1 O1 O1 O1;clear hi K h;refine⟨I1,?_⟩;refine⟨I1,?_⟩;rw[show(y:Int)-1=((y-1:Nat):Int) by omega]
 refine⟨Nat×Nat×List Int,λ z=>[(0,.slice (some ⟨b,0,none⟩) l.length cap),(1,.int .i64 x),(9,.int .i64 z.1),(10,.int .i64 z.2.1)],
  λ z U'=>Qaa U0 b cap M₀ z.2.2 U'/\Mix x y l z.2.2/\ga z.2.2 x=ga l p/\x<z.1/\z.1<=z.2.1+1/\z.2.1<y/\(∀k,x<=k->k<z.1->ga z.2.2 k<=ga l p)/\(∀k,z.2.1<k->k<y->ga l p<ga z.2.2 k),λ z=>z.2.1+1-z.1,(x+1,y-1,sw l x p),
  by trivial,⟨B,ab,L,Zz2,Zz2,Zz2,λ k h1(h2:k<x+1)=>by grind,λ k(h1:y-1<k)h2=>O1⟩,?_⟩
 clear B ab L;rintro⟨i,j,m⟩f U1⟨B,hm,L,ad,aa,ae,G,E⟩;simp only at B hm L ad aa ae G E;have aj:=hm.len;have Y:x<m.length:=O1
 refine⟨Nat,λ z=>[(0,.slice (some ⟨b,0,none⟩) l.length cap),(1,.int .i64 x),(9,.int .i64 z),(10,.int .i64 j)],
  λ z U'=>Qaa U0 b cap M₀ m U'/\i<=z/\z<=j+1/\(∀k,x<=k->k<z->ga m k<=ga l p),λ z=>j+1-z,i,T1,⟨B,Nat.le_refl _,aa,G⟩,?_⟩
 clear B G;rintro z f U1⟨B,am,ac,G⟩;have after:∀{Q:Prop},Q->Q:=λ h=>h
 repeat refine⟨rfl,?_⟩
 conv=>whnf
 by_cases hz:z<=j
 .rw[show decide ((z:Int)<=(j:Int))=true from decide_eq_true O1];have ah:z<m.length:=O1
  refine⟨_,x,⟨rfl,rfl,O1⟩,_,B.at Y,_,z,⟨rfl,rfl,O1⟩,_,B.at ah,?_⟩
  conv=>whnf
  intro U3 H _;have B:=B.le H;refine⟨FP.any,(zI (ga m (x)) (ga m (z))).go λ _=>?_⟩
  repeat refine⟨rfl,?_⟩
  conv=>whnf
  apply Qg<;>intro I
  .have hge:¬ga m x<ga m z:=by simpa using I
   refine⟨I1,?_⟩;refine⟨rfl,z+1,T1,⟨B,O1,O1,λ k h1 h2=>?_⟩,L1⟩;grind
  .have hlt:ga m x<ga m z:=by simpa using I
   have T:z<=j->ga l p<ga m z:=λ _=>O1
   refine⟨Nat,λ w=>[(0,.slice (some ⟨b,0,none⟩) l.length cap),(1,.int .i64 x),(9,.int .i64 z),(10,.int .i64 w)],
    λ w U'=>Qaa U0 b cap M₀ m U'/\w<=j/\z<=w+1/\(∀k,w<k->k<y->ga l p<ga m k),λ w=>w+1-z,j,T1,⟨B,Nat.le_refl _,ac,E⟩,?_⟩
   clear B E;rintro w f U1⟨B,af,ag,E⟩
   repeat refine⟨rfl,?_⟩
   conv=>whnf
   by_cases Z:z<=w
   .rw[show decide ((z:Int)<=(w:Int))=true from decide_eq_true O1];have X:w<m.length:=O1
    refine⟨_,x,⟨rfl,rfl,O1⟩,_,B.at Y,_,w,⟨rfl,rfl,O1⟩,_,B.at X,?_⟩
    conv=>whnf
    intro U3 H _;have B:=B.le H;refine⟨FP.any,(zI (ga m (x)) (ga m (w))).go λ _=>?_⟩
    repeat refine⟨rfl,?_⟩
    conv=>whnf
    apply Qg<;>intro I
    .have hlt:ga m x<ga m w:=of_decide_eq_true I;refine⟨I1,?_⟩;rw[show(w:Int)-1=((w-1:Nat):Int) by omega];refine⟨rfl,w-1,T1,⟨B,O1,O1,λ k h1 h2=>?_⟩,by show(w-1)+1-z<w+1-z;omega⟩;grind
    .have hge:¬ga m x<ga m w:=of_decide_eq_false I;have M:z<=w->ga m w<=ga l p:=λ _=>O1
     repeat refine⟨rfl,?_⟩
     conv=>whnf
     apply Qg<;>intro I
     .have hgt:w<z:=by have:=of_decide_eq_true I;omega
      repeat refine⟨rfl,?_⟩
      conv=>whnf
      grind
     .have F:z<=w:=by have:=of_decide_eq_false I;omega
      have T:=T O1;have M:=M F;have W:z≠w:=by rintro rfl;omega
      have hi:z<m.length:=O1
      have K:w<m.length:=O1
      refine⟨λ U'=>Qaa U0 b cap M₀ (m.set (z) (ga m (w))) U',λ _ _ h F=>h.le F,_,w,⟨rfl,rfl,O1⟩,_,B.at K,_,z,⟨rfl,rfl,O1⟩,_,B.at hi,_,z,⟨rfl,rfl,O1⟩,?_⟩
      conv=>whnf
      intro Us P _;refine⟨⟨rfl,(B.le P).st O1 (z) _ hi λ _ h=>⟨rfl,_,.refl _,h⟩⟩,λ Ut N=>?_⟩;refine⟨_,w,⟨rfl,rfl,O1⟩,rfl,N.st (by simp_all) (w) _ (by simpa using K) λ V B=>?_⟩;clear N P;have B:Qaa U0 b cap M₀ (sw m (z) (w)) V:=B;have get:∀k,ga (sw m z w) k=if k=w then ga m z else if k=z then ga m w else ga m k:=Ze2 hi K
      refine⟨by grind[Z9],?_⟩;refine⟨by grind[Z9],?_⟩
      conv=>whnf
      exact⟨rfl,(z+1,w-1,sw m z w),⟨rfl,rfl,rfl,by show Value.int .i64 ((w:Int)-1)=.int .i64 ((w-1:Nat):Int);grind,trivial⟩,
       ⟨B,hm.trans (Mix.sw O1 O1 O1 O1 O1),by grind,Zz2,Zz2,Zz2,
        λ k h1(h2:k<z+1)=>by
         grind,
        λ k(h1:w-1<k)h2=>by
         grind⟩,by grind⟩
   .rw[show decide ((z:Int)<=(w:Int))=false from decide_eq_false O1];have M:z<=w->ga m w<=ga l p:=λ h=>absurd h Z
    conv=>whnf
    intro U3 H _;have B:=B.le H
    repeat refine⟨rfl,?_⟩
    conv=>whnf
    apply Qg<;>intro I
    .have hgt:w<z:=by have:=of_decide_eq_true I;omega
     repeat refine⟨rfl,?_⟩
     conv=>whnf
     grind
    .have F:z<=w:=by have:=of_decide_eq_false I;omega
     have T:=T O1;have M:=M F;have W:z≠w:=by rintro rfl;omega
     have hi:z<m.length:=O1
     have K:w<m.length:=O1
     refine⟨λ U'=>Qaa U0 b cap M₀ (m.set (z) (ga m (w))) U',λ _ _ h F=>h.le F,_,w,⟨rfl,rfl,O1⟩,_,B.at K,_,z,⟨rfl,rfl,O1⟩,_,B.at hi,_,z,⟨rfl,rfl,O1⟩,?_⟩
     conv=>whnf
     intro Us P _;refine⟨⟨rfl,(B.le P).st O1 (z) _ hi λ _ h=>⟨rfl,_,.refl _,h⟩⟩,λ Ut N=>?_⟩;refine⟨_,w,⟨rfl,rfl,O1⟩,rfl,N.st (by simp_all) (w) _ (by simpa using K) λ V B=>?_⟩;clear N P;have B:Qaa U0 b cap M₀ (sw m (z) (w)) V:=B;have get:∀k,ga (sw m z w) k=if k=w then ga m z else if k=z then ga m w else ga m k:=Ze2 hi K
     refine⟨by simp_all,?_⟩;refine⟨by simp_all,?_⟩
     conv=>whnf
     exact⟨rfl,(z+1,w-1,sw m z w),⟨rfl,rfl,rfl,by show Value.int .i64 ((w:Int)-1)=.int .i64 ((w-1:Nat):Int);simp_all,trivial⟩,
      ⟨B,hm.trans (Mix.sw O1 O1 O1 O1 O1),by simp_all,Zz2,Zz2,Zz2,
       λ k h1(h2:k<z+1)=>by
        simp_all,
       λ k(h1:w-1<k)h2=>by
        simp_all⟩,by simp_all⟩
 .rw[show decide ((z:Int)<=(j:Int))=false from decide_eq_false O1];have T:z<=j->ga l p<ga m z:=λ h=>absurd h hz
  conv=>whnf
  intro U3 H _;have B:=B.le H
  refine⟨Nat,λ w=>[(0,.slice (some ⟨b,0,none⟩) l.length cap),(1,.int .i64 x),(9,.int .i64 z),(10,.int .i64 w)],
   λ w U'=>Qaa U0 b cap M₀ m U'/\w<=j/\z<=w+1/\(∀k,w<k->k<y->ga l p<ga m k),λ w=>w+1-z,j,T1,⟨B,Nat.le_refl _,ac,E⟩,?_⟩
  clear B E;rintro w f U1⟨B,af,ag,E⟩
  repeat refine⟨rfl,?_⟩
  conv=>whnf
  by_cases Z:z<=w
  .rw[show decide ((z:Int)<=(w:Int))=true from decide_eq_true O1];have X:w<m.length:=O1
   refine⟨_,x,⟨rfl,rfl,O1⟩,_,B.at Y,_,w,⟨rfl,rfl,O1⟩,_,B.at X,?_⟩
   conv=>whnf
   intro U3 H _;have B:=B.le H;refine⟨FP.any,(zI (ga m (x)) (ga m (w))).go λ _=>?_⟩
   repeat refine⟨rfl,?_⟩
   conv=>whnf
   apply Qg<;>intro I
   .have hlt:ga m x<ga m w:=of_decide_eq_true I;refine⟨I1,?_⟩;grind
   .have hge:¬ga m x<ga m w:=of_decide_eq_false I;have M:z<=w->ga m w<=ga l p:=λ _=>O1
    repeat refine⟨rfl,?_⟩
    conv=>whnf
    apply Qg<;>intro I
    .have hgt:w<z:=by have:=of_decide_eq_true I;omega
     repeat refine⟨rfl,?_⟩
     conv=>whnf
     grind
    .have F:z<=w:=by have:=of_decide_eq_false I;omega
     have T:=T O1;have M:=M F;have W:z≠w:=by rintro rfl;omega
     have hi:z<m.length:=O1
     have K:w<m.length:=O1
     refine⟨λ U'=>Qaa U0 b cap M₀ (m.set (z) (ga m (w))) U',λ _ _ h F=>h.le F,_,w,⟨rfl,rfl,O1⟩,_,B.at K,_,z,⟨rfl,rfl,O1⟩,_,B.at hi,_,z,⟨rfl,rfl,O1⟩,?_⟩
     conv=>whnf
     intro Us P _;refine⟨⟨rfl,(B.le P).st O1 (z) _ hi λ _ h=>⟨rfl,_,.refl _,h⟩⟩,λ Ut N=>?_⟩;refine⟨_,w,⟨rfl,rfl,O1⟩,rfl,N.st (by simp_all) (w) _ (by simpa using K) λ V B=>?_⟩;clear N P;have B:Qaa U0 b cap M₀ (sw m (z) (w)) V:=B;have get:∀k,ga (sw m z w) k=if k=w then ga m z else if k=z then ga m w else ga m k:=Ze2 hi K
     refine⟨by grind,?_⟩;refine⟨by grind,?_⟩
     conv=>whnf
     exact⟨rfl,(z+1,w-1,sw m z w),⟨rfl,rfl,rfl,by show Value.int .i64 ((w:Int)-1)=.int .i64 ((w-1:Nat):Int);grind,trivial⟩,
      ⟨B,hm.trans (Mix.sw O1 O1 O1 O1 O1),by grind,Zz2,Zz2,Zz2,
       λ k h1(h2:k<z+1)=>by
        grind,
       λ k(h1:w-1<k)h2=>by
        grind⟩,by grind⟩
  .rw[show decide ((z:Int)<=(w:Int))=false from decide_eq_false O1];have M:z<=w->ga m w<=ga l p:=λ h=>absurd h Z
   conv=>whnf
   intro U3 H _;have B:=B.le H
   repeat refine⟨rfl,?_⟩
   conv=>whnf
   apply Qg<;>intro I
   .have hgt:w<z:=by have:=of_decide_eq_true I;omega
    repeat refine⟨rfl,?_⟩
    conv=>whnf
    grind
   .have F:z<=w:=by have:=of_decide_eq_false I;omega
    have T:=T O1;have M:=M F;have W:z≠w:=by rintro rfl;omega
    have hi:z<m.length:=O1
    have K:w<m.length:=O1
    refine⟨λ U'=>Qaa U0 b cap M₀ (m.set (z) (ga m (w))) U',λ _ _ h F=>h.le F,_,w,⟨rfl,rfl,O1⟩,_,B.at K,_,z,⟨rfl,rfl,O1⟩,_,B.at hi,_,z,⟨rfl,rfl,O1⟩,?_⟩
    conv=>whnf
    intro Us P _;refine⟨⟨rfl,(B.le P).st O1 (z) _ hi λ _ h=>⟨rfl,_,.refl _,h⟩⟩,λ Ut N=>?_⟩;refine⟨_,w,⟨rfl,rfl,O1⟩,rfl,N.st (by simp_all) (w) _ (by simpa using K) λ V B=>?_⟩;clear N P;have B:Qaa U0 b cap M₀ (sw m (z) (w)) V:=B;have get:∀k,ga (sw m z w) k=if k=w then ga m z else if k=z then ga m w else ga m k:=Ze2 hi K
    refine⟨by simp_all,?_⟩;refine⟨by simp_all,?_⟩
    conv=>whnf
    exact⟨rfl,(z+1,w-1,sw m z w),⟨rfl,rfl,rfl,by show Value.int .i64 ((w:Int)-1)=.int .i64 ((w-1:Nat):Int);simp_all,trivial⟩,
     ⟨B,hm.trans (Mix.sw O1 O1 O1 O1 O1),by simp_all,Zz2,Zz2,Zz2,
      λ k h1(h2:k<z+1)=>by
       simp_all,
      λ k(h1:w-1<k)h2=>by
       simp_all⟩,by simp_all⟩
variable{p q:Bool}{A e g:Prop}{P:Program}{d:Sys P T}{ro:Option Nat}{G:Qa T->Prop}{s:St}{K B r:Zk T}{ds:List Deferred}{w:(Qa T->Prop)->Zk T->Zk T}{f:Fm}{fn:FuncId}{b:Zk T->(Nat->Zk T)->Zk T->Zk T}{j:Nat->Zk T}{c:C}
def Zs7{E:Prop}(ha:A->g)(hb:e->E)(h:GB p q A e):GB p q g E:=by
 cases p <;> cases q <;> first|exact ha h|exact hb h
def Zn0{K w:Zk T}(B:∀f ds U,K f ds U->w f ds U):∀(l:List St)(f:Fm)(ds:List Deferred)(U:Qa T),JV d ro l K f ds U->JV d ro l w f ds U
 |[],f,ds,U=>B f ds U
 |st::l,f,ds,U=>by
  intro h;rw[OY]at h ⊢;have b:=Zn0 B l;unfold V7 at h ⊢;split at h
  .split at h
   .exact Zs7 (λ h=>OX.mono (λ v U' h=>b _ _ _ h) h) (λ h=>b _ _ _ h) h
   .exact b _ _ _ h
   .exact h.elim
  .split at h
   .grind
   .exact OX.mono (λ v U' h=>b _ _ _ h) h
def DXr(S:Sys P T)(G:Qa T->Prop)(kd:Nat)(st:St)(B:(Qa T->Prop)->Zk T->Zk T)(C:Qa T->Prop)(K:Zk T)(ds:List Deferred)(U:Qa T)(f:Fm):Prop:=match kd with
   |0=>OX S st.o f (λ v _=>B C K (ZC f st.dst v) ds U) U
   |1=>∃v,(∀U',U.le U'->C U'->OX S st.o f (λ w h=>w=v/\∃b,Qv h b/\U'.le b) U')/\B C K (ZC f st.dst v) ds U
   |3=>∃v,(∀U',U.le U'->C U'->OX S st.o f (λ w h=>w=v/\∃b,Qv h b/\U'.le b) U')/\(∀U',G U'->OX S st.o f (λ w h=>w=v/\∃b,Qv h b/\U'.le b) U')/\B C K (ZC f st.dst v) ds U
   |_=>∃F:Value->Qa T->Prop,(∀v,XC (F v))/\(∀U',U.le U'->C U'->OX S st.o f (λ w h=>∃b,Qv h b/\F w b/\U'.le b) U') /\
     ∀v,(∃U',U.le U'/\C U'/\F v U')->B (λ U'=>C U'/\F v U') K (ZC f st.dst v) ds U
def Zrv{b:(Qa T->Prop)->Zk T->Zk T}(hi:∀Q f ds U,b Q K f ds U->b Q B f ds U)(f:Fm)(h:DXr d G x s b Q K ds U f):DXr d G x s b Q B ds U f:=by
 rcases x with _|_|_|_|x
 .exact OX.mono (λ v U' h=>hi _ _ _ _ h) h
 .obtain⟨v,h1,h2⟩:=h;exact⟨v,h1,hi _ _ _ _ h2⟩
 .obtain⟨F,h1,h3,h2⟩:=h;exact⟨F,h1,h3,λ v w=>hi _ _ _ _ (h2 v w)⟩
 .obtain⟨v,h1,h3,h2⟩:=h;exact⟨v,h1,h3,hi _ _ _ _ h2⟩
 .obtain⟨F,h1,h3,h2⟩:=h;exact⟨F,h1,h3,λ v w=>hi _ _ _ _ (h2 v w)⟩
def Zuy:Vc d G x s w Q K f ds U=(match s.g with
  |some (j,h)=>(match f j with
   |.bool b=>GB b h (DXr d G x s w Q K ds U (JH f j (.bool h))) (w Q K (ZC (JH f j (.bool !h)) s.dst undef) ds U)
   |.tuple _=>w Q K (ZC f s.dst undef) ds U
   |_=>False)
  |none=>DXr d G x s w Q K ds U f):=rfl
def Zq9{G:Qa T->Prop}{K w:Zk T}(B:∀f ds U,K f ds U->w f ds U):∀(l:List (Nat×St))(C:Qa T->Prop)(f:Fm)(ds:List Deferred)(U:Qa T),DX d G l C K f ds U->DX d G l C w f ds U
 |[],C,f,ds,U=>λ h U' h1 h2=>B _ _ _ (h U' h1 h2)
 |(kd,st)::l,C,f,ds,U=>by
  intro h;rw[IM]at h ⊢;have b:=Zq9 (G:=G) B l;rw[Zuy]at h ⊢;split at h
  .split at h
   .exact Zs7 (Zrv b _) (λ h=>b _ _ _ _ h) h
   .exact b _ _ _ _ h
   .exact h.elim
  .exact Zrv b _ h
def Q30(c:C):Bool:=C.rec (motive:=λ _=>Bool) true (λ _ _ a b=>a&&b) (λ _ _ _ a b=>a&&b) (λ _ _ a=>a) (λ _ a=>a) (λ _=>true) true (λ _ a=>a) (λ _=>true) (λ _ _=>true) (λ _ _ _=>true) (λ _ _ _ _ _ _ _ _ _=>false) (λ _ _=>false) false c
def Zu8(S:Sys P T)(fn:FuncId)(ro:Option Nat)(c:C):Prop:=∀(n n':Zk T)(x h:Nat->Zk T)(r b:Zk T),(∀f ds U,n f ds U->n' f ds U)->(∀i f ds U,x i f ds U->h i f ds U)->(∀f ds U,r f ds U->b f ds U) ->
  ∀f ds U,ZT S fn ro c n x r f ds U->ZT S fn ro c n' h b f ds U
def Zp7(c:C):Q30 c=true->Zu8 d fn ro c:=by
 induction c with
 |skip=>exact λ _ _ _ _ _ _ _ w _ _=>w
 |seq a b E F=>
  intro hp n n' x M r K w hx B;have hp:(Q30 a&&Q30 b)=true:=hp;rw[Bool.and_eq_true]at hp;exact E hp.1 _ _ _ _ _ _ (F hp.2 _ _ _ _ _ _ w hx B) hx B
 |ite c a b E F=>
  intro hp n n' x M r K w hx B f ds U h;have hp:(Q30 a&&Q30 b)=true:=hp;rw[Bool.and_eq_true]at hp;have h:UE c (ZT d fn ro a n x r) (ZT d fn ro b n x r) f ds U:=h;show UE c (ZT d fn ro a n' M K) (ZT d fn ro b n' M K) f ds U;unfold UE at h ⊢;split at h
  .rename_i t _;cases t
   .exact F hp.2 _ _ _ _ _ _ w hx B _ _ _ h
   .exact E hp.1 _ _ _ _ _ _ w hx B _ _ _ h
  .exact h.elim
 |block id b H=>
  intro hp n n' x M r K w hx B;refine H hp _ _ _ _ _ _ w (λ i f ds U h=>?_) B;grind
 |loop b H=>
  intro hp n n' x M r K w hx B f ds U⟨α,L,I,μ,T,h1,h2,N⟩;exact⟨α,L,I,μ,T,h1,h2,λ y f U Q=>H hp _ _ _ _ _ _ (λ _ _ _ h=>h) hx B _ _ _ (N y f U Q)⟩
 |exit i=>exact λ _ _ _ _ _ _ _ _ hx _=>hx i
 |ret=>exact λ _ _ _ _ _ _ _ _ _ B=>B
 |scope b H=>exact λ hp _ _ _ _ _ _ w hx B=>H hp _ _ _ _ _ _ w hx B
 |reg l=>exact λ _ _ _ _ _ _ _ w _ _=>Zn0 w l
 |drw qs ts=>exact λ _ _ _ _ _ _ _ w _ _=>Zq9 (Zn0 w ts) qs _
 |drs qs st ts=>exact λ _ _ _ _ _ _ _ w _ _ f ds U⟨G,P,h⟩=>⟨G,P,Zq9 (λ f ds U h=>⟨h.1,λ U' g=>Zn0 w ts _ _ _ (h.2 U' g)⟩) qs _ _ _ _ h⟩
 |rng=>intro hp;cases hp
 |cd=>intro hp;cases hp
 |bad=>intro hp;cases hp
def Zsy(hx:x<=cap)(B:cap<y)(hy:y<=m.length)(b:∀k,x<k->k<cap+1->ga m k<=ga m x)(f:∀k,cap<k->k<y->ga m x<=ga m k)(_:x<cap->ga m cap<=ga m x) :
  (∀k,x<=k->k<cap->ga (sw m cap x) k<=ga (sw m cap x) cap)/\(∀k,cap<k->k<y->ga (sw m cap x) cap<=ga (sw m cap x) k):=by
 have get:∀k,ga (sw m cap x) k=if k=x then ga m cap else if k=cap then ga m x else ga m k:=Ze2 O1 O1
 grind
def Zt0(b:Zk T->(Nat->Zk T)->Zk T->Zk T):Prop:=∀(n:Zk T)(x w:Nat->Zk T)(r h:Zk T),(∀i f ds U,x i f ds U->w i f ds U)->(∀f ds U,r f ds U->h f ds U)->∀f ds U,b n x r f ds U->b n w h f ds U
def Zsq(id:Nat)(E:Fm->List Deferred->Qa T->Prop)(hb:Zt0 b)
  (h:kn b (λ i f ds U=>i=id/\E f ds U) (λ _ _ _=>False) f ds U) (hx:∀f ds U,E f ds U->j id f ds U) :
  ∃(α:Type)(L:α->List (Nat×Value))(I:α->Qa T->Prop)(μ:α->Nat)(w:α),Xx f (L w)/\I w U /\
   ∀y f U,I y U->b (λ G B U'=>B=ds/\∃F,Xx G (L F)/\I F U'/\μ F<μ y) j r (ovr (L y) f) ds U:=
 let ⟨α,L,I,μ,w,h1,h2,h3⟩:=h
 ⟨α,L,I,μ,w,h1,h2,λ y f U H=>hb _ _ _ _ _ (λ i f ds U h=>by simp_all) (λ _ _ _ h=>h.elim) _ _ _ (h3 y f U H)⟩
def Zva{S:Sys P T}(h:Q30 c=true):Zt0 (ZT S fn ro c):=λ n _ _ _ _ hx b=>Zp7 c h n n _ _ _ _ (λ _ _ _ h=>h) hx b
def Zoz(S:Sys P T)(fn:FuncId)(ro:Option Nat)(c:C)(h:Q30 c=true):Zt0 (C.rec (motive:=λ _=>Zk T->(Nat->Zk T)->Zk T->Zk T)
  (λ n _ _=>n)
  (λ _ _ a b n x r=>a (b n x r) x r)
  (λ c _ _ a b n x r=>UE c (a n x r) (b n x r))
  (λ id _ b n x r=>b n (λ i f ds U=>bif Nat.beq i id then n f ds U else x i f ds U) r)
  (λ _ b _ x r=>kn b x r)
  (λ i _ x _=>x i)
  (λ _ _ r=>r)
  (λ _ b n x r=>b n x r)
  (λ l n _ _=>JV S ro l n)
  (λ qs ts n _ _=>DX S (λ _=>False) qs (λ _=>True) (JV S ro ts n))
  (λ qs st ts n _ _ f ds U=>∃G,XC G/\DX S G qs (λ _=>True) (LS S G st (JV S ro ts n)) f ds U)
  (λ N mu dets c params a' w _ _ n x r=>Wo S fn ro N mu dets c params a' w n x r)
  (λ N c n x r=>UF S fn ro N c n x r)
  (λ _ _ _ _ _ _=>False) c):=Zva (S:=S) (fn:=fn) (ro:=ro) h
def Zn8(b cap:Nat)(l:List Int)(M₀:List Qw)(h:Qaa U0 b cap M₀ l U)(aj:l.length<=cap)(hn:l.length<2^40)(x y p:Nat)(al:x<=p)(ak:p<y)(hy:y<=l.length) :
  Qb S 146 #[.slice (some ⟨b,0,none⟩) l.length cap,.int .i64 x,.int .i64 y,.int .i64 p] (λ v U'=>∃(q:Nat)(l':List Int)(B:Bool),v=.tuple #[.int .i64 q,.bool B]/\Mix x y l l'/\x<=q/\q<y/\((∀k,x<=k->k<q->ga l' k<=ga l' q)/\(∀k,q<k->k<y->ga l' q<=ga l' k))/\Qaa U0 b cap M₀ l' U') U:=by
 refine Qb.of (args:=[_,_,_,_]) Zon Qf S1 ?_;have E:=h;have hi:x<l.length:=O1
 have N:p<l.length:=O1
 refine⟨λ U'=>Qaa U0 b cap M₀ (l.set (x) (ga l (p))) U',λ _ _ h K=>h.le K,_,p,⟨rfl,rfl,O1⟩,_,E.at N,_,x,⟨rfl,rfl,O1⟩,_,E.at hi,_,x,⟨rfl,rfl,O1⟩,?_⟩
 conv=>whnf
 intro Us T _;refine⟨⟨rfl,(E.le T).st O1 (x) _ hi λ _ h=>⟨rfl,_,.refl _,h⟩⟩,λ Ut Q=>?_⟩;refine⟨_,p,⟨rfl,rfl,O1⟩,rfl,Q.st (by simp_all) (p) _ (by simpa using N) λ Uu E=>?_⟩;clear Q T;have E:Qaa U0 b cap M₀ (sw l (x) (p)) Uu:=E;have hm:Mix x y l (sw l x p):=Mix.sw O1 O1 O1 O1 O1;clear hi N h;generalize sw l x p=m at E hm;have ad:=hm.len;have W:x<m.length:=O1
 refine⟨I1,?_⟩;refine⟨I1,?_⟩;rw[show(y:Int)-1=((y-1:Nat):Int) by omega];have F:∀k,x<k->k<x+1->ga m k<=ga m x:=λ k h1 h2=>O1
 have G:∀k,y-1<k->k<y->ga m x<=ga m k:=λ k h1 h2=>O1
 conv=>whnf
 refine Zsq 0 (λ Y L U'=>L=[]/\∃z:Nat,Xx Y [(0,.slice (some ⟨b,0,none⟩) l.length cap),(1,.int .i64 x),(10,.int .i64 z),(11,.int .i64 ((y-1):Nat))]/\Qaa U0 b cap M₀ m U'/\(x+1)<=z/\z<=(y-1)+1/\(∀k,x<k->k<z->ga m k<=ga m x)/\(z<=(y-1)->ga m x<=ga m z)) ?_ ?_ ?_
 .generalize I:C.seq _ _=c;exact Zoz S 146 none c (by rw[<- I];rfl)
 .refine⟨Nat,λ z=>[(0,.slice (some ⟨b,0,none⟩) l.length cap),(1,.int .i64 x),(10,.int .i64 z),(11,.int .i64 ((y-1):Nat))],
   λ z U'=>Qaa U0 b cap M₀ m U'/\(x+1)<=z/\z<=(y-1)+1/\(∀k,x<k->k<z->ga m k<=ga m x),λ z=>(y-1)+1-z,(x+1),T1,⟨E,Nat.le_refl _,O1,F⟩,?_⟩
  clear E F;rintro z f U1⟨E,P,M,F⟩
  repeat refine⟨rfl,?_⟩
  conv=>whnf
  by_cases hz:z<=(y-1)
  .rw[show decide ((z:Int)<=(((y-1):Nat):Int))=true from decide_eq_true O1];have ac:z<m.length:=O1
   refine⟨_,z,⟨rfl,rfl,O1⟩,_,E.at ac,_,x,⟨rfl,rfl,O1⟩,_,E.at W,?_⟩
   conv=>whnf
   intro U3 H _;have E:=E.le H;refine⟨FP.any,(zI (ga m (z)) (ga m (x))).go λ _=>?_⟩
   repeat refine⟨rfl,?_⟩
   conv=>whnf
   apply Qg<;>intro I
   .have hlt:ga m z<ga m x:=of_decide_eq_true I;refine⟨I1,?_⟩;refine⟨rfl,z+1,T1,⟨E,O1,O1,λ k h1 h2=>?_⟩,L1⟩;grind
   .have hge:¬ga m z<ga m x:=of_decide_eq_false I
    conv=>whnf
    exact⟨rfl,rfl,z,T1,E,P,M,F,λ _=>O1⟩
  .rw[show decide ((z:Int)<=(((y-1):Nat):Int))=false from decide_eq_false O1]
   conv=>whnf
   intro U3 H _
   conv=>whnf
   exact⟨rfl,rfl,z,T1,E.le H,P,M,F,λ h=>absurd h hz⟩
 clear E F;rintro Y L U1⟨rfl,z,hf,E,P,M,F,hB⟩;rw[<- hf.ovr];clear hf
 conv=>whnf
 refine Zsq 2 (λ Y L U'=>L=[]/\∃w:Nat,Xx Y [(0,.slice (some ⟨b,0,none⟩) l.length cap),(1,.int .i64 x),(10,.int .i64 z),(11,.int .i64 w)]/\Qaa U0 b cap M₀ m U'/\w<=(y-1)/\z<=w+1/\(∀k,w<k->k<y->ga m x<=ga m k)/\(z<=w->ga m w<ga m x)) ?_ ?_ ?_
 .generalize I:C.seq _ _=c;exact Zoz S 146 none c (by rw[<- I];rfl)
 .refine⟨Nat,λ w=>[(0,.slice (some ⟨b,0,none⟩) l.length cap),(1,.int .i64 x),(10,.int .i64 z),(11,.int .i64 w)],
   λ w U'=>Qaa U0 b cap M₀ m U'/\w<=(y-1)/\z<=w+1/\(∀k,w<k->k<y->ga m x<=ga m k),λ w=>w+1-z,(y-1),T1,⟨E,Nat.le_refl _,M,G⟩,?_⟩
  clear E G;rintro w f U1⟨E,Z,aa,G⟩
  repeat refine⟨rfl,?_⟩
  conv=>whnf
  by_cases X:z<=w
  .rw[show decide ((z:Int)<=(w:Int))=true from decide_eq_true O1];have ab:w<m.length:=O1
   refine⟨_,w,⟨rfl,rfl,O1⟩,_,E.at ab,_,x,⟨rfl,rfl,O1⟩,_,E.at W,?_⟩
   conv=>whnf
   intro U3 H _;have E:=E.le H;refine⟨FP.any,(zI (ga m (w)) (ga m (x))).go λ _=>?_⟩
   repeat refine⟨rfl,?_⟩
   conv=>whnf
   apply Qg<;>intro I
   .have hge:¬ga m w<ga m x:=by simpa using I
    refine⟨I1,?_⟩;rw[show(w:Int)-1=((w-1:Nat):Int) by omega];refine⟨rfl,w-1,T1,⟨E,O1,O1,λ k h1 h2=>?_⟩,by show(w-1)+1-z<w+1-z;omega⟩;grind
   .have hlt:ga m w<ga m x:=by simpa using I
    conv=>whnf
    exact⟨rfl,rfl,w,T1,E,Z,aa,G,λ _=>hlt⟩
  .rw[show decide ((z:Int)<=(w:Int))=false from decide_eq_false O1]
   conv=>whnf
   intro U3 H _
   conv=>whnf
   exact⟨rfl,rfl,w,T1,E.le H,Z,aa,G,λ h=>absurd h X⟩
 clear E G;rintro Y L U1⟨rfl,w,hf,E,af,X,G,hC⟩;rw[<- hf.ovr];clear hf
 repeat refine⟨rfl,?_⟩
 conv=>whnf
 apply Qg<;>intro I
 .have hgt:w<z:=by have:=of_decide_eq_true I;omega
  obtain rfl:z=w+1:=O1
  have hi:w<m.length:=O1
  have N:x<m.length:=O1
  refine⟨λ U'=>Qaa U0 b cap M₀ (m.set (w) (ga m (x))) U',λ _ _ h K=>h.le K,_,x,⟨rfl,rfl,O1⟩,_,E.at N,_,w,⟨rfl,rfl,O1⟩,_,E.at hi,_,w,⟨rfl,rfl,O1⟩,?_⟩
  conv=>whnf
  intro Us T _;refine⟨⟨rfl,(E.le T).st O1 (w) _ hi λ _ h=>⟨rfl,_,.refl _,h⟩⟩,λ Ut Q=>?_⟩;refine⟨_,x,⟨rfl,rfl,O1⟩,rfl,Q.st (by simp_all) (x) _ (by simpa using N) λ Uu E=>?_⟩;clear Q T;have E:Qaa U0 b cap M₀ (sw m (w) (x)) Uu:=E
  repeat refine⟨rfl,?_⟩
  conv=>whnf
  exact⟨w,sw m w x,_,rfl,hm.trans (Mix.sw O1 O1 O1 O1 O1),O1,O1,Zsy O1 O1 O1 F G (λ h=>by simp_all),E⟩
 have K:z<=w:=by have:=of_decide_eq_false I;omega
 have hB:=hB O1;have hC:=hC O1;have ae:z≠w:=by rintro rfl;omega
 have hi:z<m.length:=O1
 have N:w<m.length:=O1
 refine⟨λ U'=>Qaa U0 b cap M₀ (m.set (z) (ga m (w))) U',λ _ _ h K=>h.le K,_,w,⟨rfl,rfl,O1⟩,_,E.at N,_,z,⟨rfl,rfl,O1⟩,_,E.at hi,_,z,⟨rfl,rfl,O1⟩,?_⟩
 conv=>whnf
 intro Us T _;refine⟨⟨rfl,(E.le T).st O1 (z) _ hi λ _ h=>⟨rfl,_,.refl _,h⟩⟩,λ Ut Q=>?_⟩;refine⟨_,w,⟨rfl,rfl,O1⟩,rfl,Q.st (by simp_all) (w) _ (by simpa using N) λ Uu E=>?_⟩;clear Q T;have E:Qaa U0 b cap M₀ (sw m (z) (w)) Uu:=E;have get:∀k,ga (sw m z w) k=if k=w then ga m z else if k=z then ga m w else ga m k:=Ze2 hi N
 have hm:=hm.trans (Mix.sw (a:=x) (b:=y) (l:=m) (i:=z) (j:=w) O1 O1 O1 O1 O1);have V:ga (sw m z w) x=ga m x:=by rw[get,if_neg O1,if_neg O1]
 have F:∀k,x<k->k<z+1->ga (sw m z w) k<=ga (sw m z w) x:=λ k h1 h2=>by
  grind
 have G:∀k,w-1<k->k<y->ga (sw m z w) x<=ga (sw m z w) k:=λ k h1 h2=>by
  grind
 refine⟨by grind[Z9],?_⟩;refine⟨by grind[Z9],?_⟩
 refine⟨Nat×Nat×List Int,λ z=>[(0,.slice (some ⟨b,0,none⟩) l.length cap),(1,.int .i64 x),(10,.int .i64 z.1),(11,.int .i64 z.2.1)],
  λ z U'=>Qaa U0 b cap M₀ z.2.2 U'/\Mix x y l z.2.2/\x<z.1/\z.1<=z.2.1+1/\z.2.1<y/\(∀k,x<k->k<z.1->ga z.2.2 k<=ga z.2.2 x)/\(∀k,z.2.1<k->k<y->ga z.2.2 x<=ga z.2.2 k),λ z=>z.2.1+1-z.1,(z+1,w-1,sw m z w),
  ⟨rfl,rfl,rfl,by show Value.int .i64 ((w:Int)-1)=.int .i64 ((w-1:Nat):Int);grind,trivial⟩,⟨E,hm,Zz2,Zz2,Zz2,F,G⟩,?_⟩
 clear E hm F G hB hC get V hi N M P X af K ae ad W;rintro⟨i,j,m⟩f U1⟨E,hm,ai,ag,ah,F,G⟩;simp only at E hm ai ag ah F G;have ad:=hm.len;have W:x<m.length:=O1
 conv=>whnf
 refine Zsq 6 (λ Y L U'=>L=[]/\∃z:Nat,Xx Y [(0,.slice (some ⟨b,0,none⟩) l.length cap),(1,.int .i64 x),(10,.int .i64 z),(11,.int .i64 (j:Nat))]/\Qaa U0 b cap M₀ m U'/\i<=z/\z<=j+1/\(∀k,x<k->k<z->ga m k<=ga m x)/\(z<=j->ga m x<=ga m z)) ?_ ?_ ?_
 .generalize I:C.seq _ _=c;exact Zoz S 146 none c (by rw[<- I];rfl)
 .refine⟨Nat,λ z=>[(0,.slice (some ⟨b,0,none⟩) l.length cap),(1,.int .i64 x),(10,.int .i64 z),(11,.int .i64 (j:Nat))],
   λ z U'=>Qaa U0 b cap M₀ m U'/\i<=z/\z<=j+1/\(∀k,x<k->k<z->ga m k<=ga m x),λ z=>j+1-z,i,T1,⟨E,Nat.le_refl _,O1,F⟩,?_⟩
  clear E F;rintro z f U1⟨E,P,M,F⟩
  repeat refine⟨rfl,?_⟩
  conv=>whnf
  by_cases hz:z<=j
  .rw[show decide ((z:Int)<=((j:Nat):Int))=true from decide_eq_true O1];have ac:z<m.length:=O1
   refine⟨_,z,⟨rfl,rfl,O1⟩,_,E.at ac,_,x,⟨rfl,rfl,O1⟩,_,E.at W,?_⟩
   conv=>whnf
   intro U3 H _;have E:=E.le H;refine⟨FP.any,(zI (ga m (z)) (ga m (x))).go λ _=>?_⟩
   repeat refine⟨rfl,?_⟩
   conv=>whnf
   apply Qg<;>intro I
   .have hlt:ga m z<ga m x:=of_decide_eq_true I;refine⟨I1,?_⟩;refine⟨rfl,z+1,T1,⟨E,O1,O1,λ k h1 h2=>?_⟩,L1⟩;grind
   .have hge:¬ga m z<ga m x:=of_decide_eq_false I
    conv=>whnf
    exact⟨rfl,rfl,z,T1,E,P,M,F,λ _=>O1⟩
  .rw[show decide ((z:Int)<=((j:Nat):Int))=false from decide_eq_false O1]
   conv=>whnf
   intro U3 H _
   conv=>whnf
   exact⟨rfl,rfl,z,T1,E.le H,P,M,F,λ h=>absurd h hz⟩
 clear E F;rintro Y L U1⟨rfl,z,hf,E,P,M,F,hB⟩;rw[<- hf.ovr];clear hf
 conv=>whnf
 refine Zsq 8 (λ Y L U'=>L=[]/\∃w:Nat,Xx Y [(0,.slice (some ⟨b,0,none⟩) l.length cap),(1,.int .i64 x),(10,.int .i64 z),(11,.int .i64 w)]/\Qaa U0 b cap M₀ m U'/\w<=j/\z<=w+1/\(∀k,w<k->k<y->ga m x<=ga m k)/\(z<=w->ga m w<ga m x)) ?_ ?_ ?_
 .generalize I:C.seq _ _=c;exact Zoz S 146 none c (by rw[<- I];rfl)
 .refine⟨Nat,λ w=>[(0,.slice (some ⟨b,0,none⟩) l.length cap),(1,.int .i64 x),(10,.int .i64 z),(11,.int .i64 w)],
   λ w U'=>Qaa U0 b cap M₀ m U'/\w<=j/\z<=w+1/\(∀k,w<k->k<y->ga m x<=ga m k),λ w=>w+1-z,j,T1,⟨E,Nat.le_refl _,M,G⟩,?_⟩
  clear E G;rintro w f U1⟨E,Z,aa,G⟩
  repeat refine⟨rfl,?_⟩
  conv=>whnf
  by_cases X:z<=w
  .rw[show decide ((z:Int)<=(w:Int))=true from decide_eq_true O1];have ab:w<m.length:=O1
   refine⟨_,w,⟨rfl,rfl,O1⟩,_,E.at ab,_,x,⟨rfl,rfl,O1⟩,_,E.at W,?_⟩
   conv=>whnf
   intro U3 H _;have E:=E.le H;refine⟨FP.any,(zI (ga m (w)) (ga m (x))).go λ _=>?_⟩
   repeat refine⟨rfl,?_⟩
   conv=>whnf
   apply Qg<;>intro I
   .have hge:¬ga m w<ga m x:=by simpa using I
    refine⟨I1,?_⟩;rw[show(w:Int)-1=((w-1:Nat):Int) by omega];refine⟨rfl,w-1,T1,⟨E,O1,O1,λ k h1 h2=>?_⟩,by show(w-1)+1-z<w+1-z;omega⟩;grind
   .have hlt:ga m w<ga m x:=by simpa using I
    conv=>whnf
    exact⟨rfl,rfl,w,T1,E,Z,aa,G,λ _=>hlt⟩
  .rw[show decide ((z:Int)<=(w:Int))=false from decide_eq_false O1]
   conv=>whnf
   intro U3 H _
   conv=>whnf
   exact⟨rfl,rfl,w,T1,E.le H,Z,aa,G,λ h=>absurd h X⟩
 clear E G;rintro Y L U1⟨rfl,w,hf,E,af,X,G,hC⟩;rw[<- hf.ovr];clear hf
 repeat refine⟨rfl,?_⟩
 conv=>whnf
 apply Qg<;>intro I
 .have hgt:w<z:=by have:=of_decide_eq_true I;omega
  obtain rfl:z=w+1:=O1
  have hi:w<m.length:=O1
  have N:x<m.length:=O1
  refine⟨λ U'=>Qaa U0 b cap M₀ (m.set (w) (ga m (x))) U',λ _ _ h K=>h.le K,_,x,⟨rfl,rfl,O1⟩,_,E.at N,_,w,⟨rfl,rfl,O1⟩,_,E.at hi,_,w,⟨rfl,rfl,O1⟩,?_⟩
  conv=>whnf
  intro Us T _;refine⟨⟨rfl,(E.le T).st O1 (w) _ hi λ _ h=>⟨rfl,_,.refl _,h⟩⟩,λ Ut Q=>?_⟩;refine⟨_,x,⟨rfl,rfl,O1⟩,rfl,Q.st (by simp_all) (x) _ (by simpa using N) λ Uu E=>?_⟩;clear Q T;have E:Qaa U0 b cap M₀ (sw m (w) (x)) Uu:=E
  repeat refine⟨rfl,?_⟩
  conv=>whnf
  exact⟨w,sw m w x,_,rfl,hm.trans (Mix.sw O1 O1 O1 O1 O1),O1,O1,Zsy O1 O1 O1 F G (λ h=>by simp_all),E⟩
 have K:z<=w:=by have:=of_decide_eq_false I;omega
 have hB:=hB O1;have hC:=hC O1;have ae:z≠w:=by rintro rfl;omega
 have hi:z<m.length:=O1
 have N:w<m.length:=O1
 refine⟨λ U'=>Qaa U0 b cap M₀ (m.set (z) (ga m (w))) U',λ _ _ h K=>h.le K,_,w,⟨rfl,rfl,O1⟩,_,E.at N,_,z,⟨rfl,rfl,O1⟩,_,E.at hi,_,z,⟨rfl,rfl,O1⟩,?_⟩
 conv=>whnf
 intro Us T _;refine⟨⟨rfl,(E.le T).st O1 (z) _ hi λ _ h=>⟨rfl,_,.refl _,h⟩⟩,λ Ut Q=>?_⟩;refine⟨_,w,⟨rfl,rfl,O1⟩,rfl,Q.st (by simp_all) (w) _ (by simpa using N) λ Uu E=>?_⟩;clear Q T;have E:Qaa U0 b cap M₀ (sw m (z) (w)) Uu:=E;have get:∀k,ga (sw m z w) k=if k=w then ga m z else if k=z then ga m w else ga m k:=Ze2 hi N
 have hm:=hm.trans (Mix.sw (a:=x) (b:=y) (l:=m) (i:=z) (j:=w) O1 O1 O1 O1 O1);have V:ga (sw m z w) x=ga m x:=by rw[get,if_neg O1,if_neg O1]
 have F:∀k,x<k->k<z+1->ga (sw m z w) k<=ga (sw m z w) x:=λ k h1 h2=>by
  grind
 have G:∀k,w-1<k->k<y->ga (sw m z w) x<=ga (sw m z w) k:=λ k h1 h2=>by
  rw[V,get];grind
 refine⟨by grind[Z9],?_⟩;refine⟨by grind[Z9],?_⟩
 conv=>whnf
 exact⟨rfl,(z+1,w-1,sw m z w),⟨rfl,rfl,rfl,by show Value.int .i64 ((w:Int)-1)=.int .i64 ((w-1:Nat):Int);grind,trivial⟩,
  ⟨E,hm,Zz2,Zz2,Zz2,F,G⟩,by show(w-1)+1-(z+1)<j+1-i;omega⟩
def Zow(l:List Int)(x y:Nat):Prop:=∀k,0<x->x<=k->k<y->ga l (x-1)<=ga l k
def Zow.mix(h:Zow l x y)(hm:Mix x y l m):Zow m x y:=λ k b h1 h2=>by
 obtain⟨q,f,w,e⟩:=hm.ins k h1 h2;rw[e,hm.out (x-1) O1];exact h q b f w
def Srt.snoc(h:Srt l x y)(w:x<y)(b:ga l (y-1)<=ga l y):Srt l x (y+1):=λ i j h1 h2 f=>by
 by_cases e:j=y
 .rw[e];by_cases e':i=y-1
  .rw[e'];exact b
  .exact Int.le_trans (h i (y-1) h1 O1 O1) b
 .exact h i j h1 h2 O1
def Zmo(b cap:Nat)(l:List Int)(M₀:List Qw)(h:Qaa U0 b cap M₀ l U)(al:l.length<=cap)(hn:l.length<2^40)(x y:Nat)(an:x<y)(hy:y<=l.length)(hu:Zow l x y) :
  Qb S 143 #[.slice (some ⟨b,0,none⟩) l.length cap,.int .i64 x,.int .i64 y] (λ v U'=>∃(B:Bool)(l':List Int),v=.bool B/\Mix x y l l'/\(B=true->Srt l' x y)/\Qaa U0 b cap M₀ l' U') U:=by
 refine Qb.of (args:=[_,_,_]) Zom Qf S1 ?_
 repeat refine⟨rfl,?_⟩
 refine⟨I1,?_⟩
 refine⟨Nat×Nat×List Int,λ z=>[(0,.slice (some ⟨b,0,none⟩) l.length cap),(1,.int .i64 x),(2,.int .i64 y),(7,.int .i64 z.2.1),(8,.int .i64 z.1)],
  λ z U'=>Qaa U0 b cap M₀ z.2.2 U'/\Mix x y l z.2.2/\z.1<=5/\x<z.2.1/\z.2.1<=y/\Srt z.2.2 x z.2.1,λ z=>5-z.1,(0,x+1,l),T1,⟨h,.refl ..,Zz2,Zz2,Zz2,Srt.one _ _ _ (Nat.le_refl _)⟩,?_⟩
 rintro⟨s,i,m⟩f U1⟨w,hm,ai,af,ae,E⟩;simp only at w hm ai af ae E;have am:=hm.len
 repeat refine⟨rfl,?_⟩
 conv=>whnf
 apply Qg<;>intro F
 .have T:s<5:=by have:(s:Int)<5:=of_decide_eq_true F;omega
  conv=>whnf
  refine Zsq 2 (λ V G U'=>G=[]/\∃z:Nat,Xx V [(0,.slice (some ⟨b,0,none⟩) l.length cap),(1,.int .i64 x),(2,.int .i64 y),(7,.int .i64 z),(8,.int .i64 s)]/\Qaa U0 b cap M₀ m U'/\i<=z/\z<=y/\Srt m x z) ?_ ?_ ?_
  .generalize F:C.seq _ _=c;exact Zoz S 143 none c (by rw[<- F];rfl)
  .refine⟨Nat,λ z=>[(0,.slice (some ⟨b,0,none⟩) l.length cap),(1,.int .i64 x),(2,.int .i64 y),(7,.int .i64 z),(8,.int .i64 s)],
    λ z U'=>Qaa U0 b cap M₀ m U'/\i<=z/\z<=y/\Srt m x z,λ z=>y-z,i,T1,⟨w,Nat.le_refl _,ae,E⟩,?_⟩
   clear w E;rintro z f U1⟨w,ad,P,E⟩
   repeat refine⟨rfl,?_⟩
   conv=>whnf
   by_cases hz:z<y
   .rw[show decide ((z:Int)<(y:Int))=true from decide_eq_true O1];have ak:z<m.length:=O1
    have aj:z-1<m.length:=O1
    refine⟨_,z,⟨rfl,rfl,O1⟩,_,w.at ak,by grind[Z9],?_⟩;refine⟨_,z-1,⟨rfl,O1,O1⟩,_,w.at aj,?_⟩
    conv=>whnf
    intro U3 K _;have w:=w.le K;refine⟨FP.any,(zI (ga m z) (ga m (z-1))).go λ _=>?_⟩
    repeat refine⟨rfl,?_⟩
    conv=>whnf
    apply Qg<;>intro F
    .have hge:¬ga m z<ga m (z-1):=by simpa using F
     refine⟨I1,?_⟩
     conv=>whnf
     exact⟨rfl,z+1,T1,⟨w,O1,O1,E.snoc O1 O1⟩,L1⟩
    .conv=>whnf
     exact⟨rfl,rfl,z,T1,w,ad,P,E⟩
   .rw[show decide ((z:Int)<(y:Int))=false from decide_eq_false O1]
    conv=>whnf
    intro U3 K _
    conv=>whnf
    exact⟨rfl,rfl,z,T1,w.le K,ad,P,E⟩
  clear w E;rintro V G U1⟨rfl,z,hf,w,ad,P,E⟩;rw[<- hf.ovr];clear hf
  repeat refine⟨rfl,?_⟩
  conv=>whnf
  apply Qg<;>intro F
  .have P:z=y:=by have:(z:Int)=(y:Int):=(by simpa using F);omega
   subst P
   repeat refine⟨rfl,?_⟩
   conv=>whnf
   grind
  have P:z<y:=by have:(z:Int)≠(y:Int):=(by simpa using F);omega
  repeat refine⟨rfl,?_⟩
  refine⟨I1,?_⟩
  repeat refine⟨rfl,?_⟩
  conv=>whnf
  apply Qg<;>intro F
  .repeat refine⟨rfl,?_⟩
   conv=>whnf
   grind
  have hi:z<m.length:=O1
  have X:z-1<m.length:=O1
  have Q:((z:Nat):Int)-1=((z-1:Nat):Int):=O1
  have H:Z9 (((z:Nat):Int)-1):=I1
  refine⟨λ U'=>Qaa U0 b cap M₀ (m.set z (ga m (z-1))) U',λ _ _ h M=>h.le M,H,H,_,z-1,⟨rfl,Q,O1⟩,_,w.at X,_,z,⟨rfl,rfl,O1⟩,_,w.at hi,_,z,⟨rfl,rfl,O1⟩,?_⟩
  conv=>whnf
  intro Us T _;refine⟨⟨rfl,(w.le T).st O1 z _ hi λ _ h=>⟨rfl,_,.refl _,h⟩⟩,λ Ut W=>?_⟩;refine⟨_,z-1,⟨rfl,Q,O1⟩,rfl,W.st (by simp_all) (z-1) _ (by simpa using X) λ Uu w=>?_⟩;clear W T;have w:Qaa U0 b cap M₀ (sw m z (z-1)) Uu:=w;have hm:Mix x y l (sw m z (z-1)):=hm.trans (Mix.sw O1 O1 O1 O1 O1);have E:Srt (sw m z (z-1)) x (z-1):=(E.sub (Nat.le_refl _) O1).keep (Mix.sw (a:=z-1) (b:=y) (l:=m) (i:=z) (j:=z-1) O1 O1 O1 O1 O1) (.inl (Nat.le_refl _));generalize sw m z (z-1)=q at w hm E;have I:=hm.len
  repeat refine⟨rfl,?_⟩
  refine⟨I1,?_⟩
  repeat refine⟨rfl,?_⟩
  conv=>whnf
  apply Qg<;>intro F
  .have hz2:x+2<=z:=by have:(z:Int)-(x:Int) ≥ 2:=of_decide_eq_true F;omega
   refine⟨by simp_all,?_⟩;rw[show(z:Int)-1=((z-1:Nat):Int) by omega]
   conv=>whnf
   refine Zsq 4 (λ V G U'=>G=[]/\∃q:List Int,Xx V [(0,.slice (some ⟨b,0,none⟩) l.length cap),(1,.int .i64 x),(2,.int .i64 y),(7,.int .i64 z),(8,.int .i64 s)]/\Qaa U0 b cap M₀ q U'/\Mix x y l q/\Srt q x z) ?_ ?_ ?_
   .generalize F:C.seq _ _=c;exact Zoz S 143 none c (by rw[<- F];rfl)
   .refine⟨Nat×List Int,λ u=>[(0,.slice (some ⟨b,0,none⟩) l.length cap),(1,.int .i64 x),(2,.int .i64 y),(7,.int .i64 z),(8,.int .i64 s),(9,.int .i64 u.1)],
     λ u U'=>Qaa U0 b cap M₀ u.2 U'/\Mix x y l u.2/\SB u.2 x (z-1) u.1/\x<=u.1/\u.1<=z-1,λ u=>u.1,(z-1,q),T1,⟨w,hm,.start E,Zz2,Zz2⟩,?_⟩
    clear w hm E I;rintro⟨j,q⟩f U1⟨w,hm,ac,N,ab⟩;simp only at w hm ac N ab;have I:=hm.len;have fin:(j=x\/ga q (j-1)<=ga q j)->Srt q x z:=λ h=>by have:=ac.done N ab h;grind
    repeat refine⟨rfl,?_⟩
    conv=>whnf
    apply Qg<;>intro F
    .have L:1<=j:=by have:(j:Int) ≥ 1:=of_decide_eq_true F;omega
     have Y:j<q.length:=O1
     have L:j-1<q.length:=O1
     refine⟨_,j,⟨rfl,rfl,O1⟩,_,w.at Y,by grind[Z9],?_⟩;refine⟨_,j-1,⟨rfl,by grind,O1⟩,?_⟩;refine⟨_,w.at L,?_⟩
     conv=>whnf
     intro U3 K _;have w:=w.le K;refine⟨FP.any,(zI (ga q j) (ga q (j-1))).go λ _=>?_⟩
     repeat refine⟨rfl,?_⟩
     conv=>whnf
     apply Qg<;>intro F
     .have hge:¬ga q j<ga q (j-1):=by simpa using F
      conv=>whnf
      exact⟨rfl,rfl,q,T1,w,hm,fin (.inr O1)⟩
     have ah:ga q j<ga q (j-1):=by simpa using F
     have ag:x<j:=by
      by_cases e:j=x
      .have:=hu.mix hm j O1 O1 O1;grind
      .omega
     have hi:j<q.length:=O1
     have X:j-1<q.length:=O1
     have Q:((j:Nat):Int)-1=((j-1:Nat):Int):=O1
     have H:Z9 (((j:Nat):Int)-1):=I1
     refine⟨λ U'=>Qaa U0 b cap M₀ (q.set j (ga q (j-1))) U',λ _ _ h M=>h.le M,H,H,_,j-1,⟨rfl,Q,O1⟩,_,w.at X,_,j,⟨rfl,rfl,O1⟩,_,w.at hi,_,j,⟨rfl,rfl,O1⟩,?_⟩
     conv=>whnf
     intro Us T _;refine⟨⟨rfl,(w.le T).st O1 j _ hi λ _ h=>⟨rfl,_,.refl _,h⟩⟩,λ Ut W=>?_⟩;refine⟨_,j-1,⟨rfl,Q,O1⟩,rfl,W.st (by simp_all) (j-1) _ (by simpa using X) λ Uu w=>?_⟩;clear W T;have w:Qaa U0 b cap M₀ (sw q j (j-1)) Uu:=w;refine⟨by simp_all,?_⟩
     conv=>whnf
     exact⟨rfl,(j-1,sw q j (j-1)),⟨rfl,rfl,rfl,rfl,rfl,by show Value.int .i64 ((j:Int)-1)=.int .i64 ((j-1:Nat):Int);rw[Q],trivial⟩,⟨w,hm.trans (Mix.sw O1 O1 O1 O1 O1),ac.step ag ab O1 ah,Zz2,Zz2⟩,by show j-1<j;omega⟩
    .have L:j=0:=by have:¬((j:Int) ≥ 1):=of_decide_eq_false F;omega
     conv=>whnf
     exact⟨rfl,rfl,q,T1,w,hm,fin (.inl O1)⟩
   clear w hm E I;rintro V G U1⟨rfl,q,hf,w,hm,E⟩;have I:=hm.len;rw[<- hf.ovr];clear hf
   repeat refine⟨rfl,?_⟩
   refine⟨I1,?_⟩
   repeat refine⟨rfl,?_⟩
   conv=>whnf
   apply Qg<;>intro F
   .refine⟨by grind[Z9],?_⟩
    conv=>whnf
    refine Zsq 6 (λ V G U'=>G=[]/\∃q:List Int,Xx V [(0,.slice (some ⟨b,0,none⟩) l.length cap),(1,.int .i64 x),(2,.int .i64 y),(7,.int .i64 z),(8,.int .i64 s)]/\Qaa U0 b cap M₀ q U'/\Mix x y l q/\Srt q x z) ?_ ?_ ?_
    .generalize F:C.seq _ _=c;exact Zoz S 143 none c (by rw[<- F];rfl)
    .refine⟨Nat×List Int,λ u=>[(0,.slice (some ⟨b,0,none⟩) l.length cap),(1,.int .i64 x),(2,.int .i64 y),(7,.int .i64 z),(8,.int .i64 s),(10,.int .i64 u.1)],
      λ u U'=>Qaa U0 b cap M₀ u.2 U'/\Mix x y l u.2/\Srt u.2 x z/\z+1<=u.1/\u.1<=y,λ u=>y-u.1,(z+1,q),T1,⟨w,hm,E,Zz2,Zz2⟩,?_⟩
     clear w hm E I;rintro⟨j,q⟩f U1⟨w,hm,E,N,Z⟩;simp only at w hm E N Z;have I:=hm.len
     repeat refine⟨rfl,?_⟩
     conv=>whnf
     apply Qg<;>intro F
     .have Z:j<y:=by have:(j:Int)<(y:Int):=of_decide_eq_true F;omega
      have Y:j<q.length:=O1
      have L:j-1<q.length:=O1
      refine⟨_,j,⟨rfl,rfl,O1⟩,_,w.at Y,by grind[Z9],?_⟩;refine⟨_,j-1,⟨rfl,by grind,O1⟩,?_⟩;refine⟨_,w.at L,?_⟩
      conv=>whnf
      intro U3 K _;have w:=w.le K;refine⟨FP.any,(zI (ga q j) (ga q (j-1))).go λ _=>?_⟩
      repeat refine⟨rfl,?_⟩
      conv=>whnf
      apply Qg<;>intro F
      .conv=>whnf
       exact⟨rfl,rfl,q,T1,w,hm,E⟩
      have hi:j<q.length:=O1
      have X:j-1<q.length:=O1
      have Q:((j:Nat):Int)-1=((j-1:Nat):Int):=O1
      have H:Z9 (((j:Nat):Int)-1):=I1
      refine⟨λ U'=>Qaa U0 b cap M₀ (q.set j (ga q (j-1))) U',λ _ _ h M=>h.le M,H,H,_,j-1,⟨rfl,Q,O1⟩,_,w.at X,_,j,⟨rfl,rfl,O1⟩,_,w.at hi,_,j,⟨rfl,rfl,O1⟩,?_⟩
      conv=>whnf
      intro Us T _;refine⟨⟨rfl,(w.le T).st O1 j _ hi λ _ h=>⟨rfl,_,.refl _,h⟩⟩,λ Ut W=>?_⟩;refine⟨_,j-1,⟨rfl,Q,O1⟩,rfl,W.st (by simp_all) (j-1) _ (by simpa using X) λ Uu w=>?_⟩;clear W T;have w:Qaa U0 b cap M₀ (sw q j (j-1)) Uu:=w;refine⟨by grind[Z9],?_⟩
      conv=>whnf
      have aa:Mix z y q (sw q j (j-1)):=Mix.sw O1 O1 O1 O1 O1;exact⟨rfl,(j+1,sw q j (j-1)),T1,⟨w,hm.trans (aa.widen O1 (Nat.le_refl _)),E.keep aa (.inl (Nat.le_refl _)),Zz2,Zz2⟩,L1⟩
     .conv=>whnf
      exact⟨rfl,rfl,q,T1,w,hm,E⟩
    clear w hm E I;rintro V G U1⟨rfl,q,hf,w,hm,E⟩;rw[<- hf.ovr];clear hf;refine⟨by grind[Z9],?_⟩
    conv=>whnf
    exact⟨rfl,(s+1,z,q),T1,⟨w,hm,Zz2,Zz2,Zz2,E⟩,by grind⟩
   .refine⟨by grind[Z9],?_⟩
    conv=>whnf
    exact⟨rfl,(s+1,z,q),T1,⟨w,hm,Zz2,Zz2,Zz2,E⟩,by grind⟩
  .have hz2:z=x+1:=by have:¬((z:Int)-(x:Int) ≥ 2):=of_decide_eq_false F;omega
   have E:Srt q x z:=Srt.one _ _ _ O1
   repeat refine⟨rfl,?_⟩
   refine⟨I1,?_⟩
   repeat refine⟨rfl,?_⟩
   conv=>whnf
   apply Qg<;>intro F
   .refine⟨by grind[Z9],?_⟩
    conv=>whnf
    refine Zsq 6 (λ V G U'=>G=[]/\∃q:List Int,Xx V [(0,.slice (some ⟨b,0,none⟩) l.length cap),(1,.int .i64 x),(2,.int .i64 y),(7,.int .i64 z),(8,.int .i64 s)]/\Qaa U0 b cap M₀ q U'/\Mix x y l q/\Srt q x z) ?_ ?_ ?_
    .generalize F:C.seq _ _=c;exact Zoz S 143 none c (by rw[<- F];rfl)
    .refine⟨Nat×List Int,λ u=>[(0,.slice (some ⟨b,0,none⟩) l.length cap),(1,.int .i64 x),(2,.int .i64 y),(7,.int .i64 z),(8,.int .i64 s),(10,.int .i64 u.1)],
      λ u U'=>Qaa U0 b cap M₀ u.2 U'/\Mix x y l u.2/\Srt u.2 x z/\z+1<=u.1/\u.1<=y,λ u=>y-u.1,(z+1,q),T1,⟨w,hm,E,Zz2,Zz2⟩,?_⟩
     clear w hm E I;rintro⟨j,q⟩f U1⟨w,hm,E,N,Z⟩;simp only at w hm E N Z;have I:=hm.len
     repeat refine⟨rfl,?_⟩
     conv=>whnf
     apply Qg<;>intro F
     .have Z:j<y:=by have:(j:Int)<(y:Int):=of_decide_eq_true F;omega
      have Y:j<q.length:=O1
      have L:j-1<q.length:=O1
      refine⟨_,j,⟨rfl,rfl,O1⟩,_,w.at Y,by grind[Z9],?_⟩;refine⟨_,j-1,⟨rfl,by grind,O1⟩,?_⟩;refine⟨_,w.at L,?_⟩
      conv=>whnf
      intro U3 K _;have w:=w.le K;refine⟨FP.any,(zI (ga q j) (ga q (j-1))).go λ _=>?_⟩
      repeat refine⟨rfl,?_⟩
      conv=>whnf
      apply Qg<;>intro F
      .conv=>whnf
       exact⟨rfl,rfl,q,T1,w,hm,E⟩
      have hi:j<q.length:=O1
      have X:j-1<q.length:=O1
      have Q:((j:Nat):Int)-1=((j-1:Nat):Int):=O1
      have H:Z9 (((j:Nat):Int)-1):=I1
      refine⟨λ U'=>Qaa U0 b cap M₀ (q.set j (ga q (j-1))) U',λ _ _ h M=>h.le M,H,H,_,j-1,⟨rfl,Q,O1⟩,_,w.at X,_,j,⟨rfl,rfl,O1⟩,_,w.at hi,_,j,⟨rfl,rfl,O1⟩,?_⟩
      conv=>whnf
      intro Us T _;refine⟨⟨rfl,(w.le T).st O1 j _ hi λ _ h=>⟨rfl,_,.refl _,h⟩⟩,λ Ut W=>?_⟩;refine⟨_,j-1,⟨rfl,Q,O1⟩,rfl,W.st (by simp_all) (j-1) _ (by simpa using X) λ Uu w=>?_⟩;clear W T;have w:Qaa U0 b cap M₀ (sw q j (j-1)) Uu:=w;refine⟨by grind[Z9],?_⟩
      conv=>whnf
      have aa:Mix z y q (sw q j (j-1)):=Mix.sw O1 O1 O1 O1 O1;exact⟨rfl,(j+1,sw q j (j-1)),T1,⟨w,hm.trans (aa.widen O1 (Nat.le_refl _)),E.keep aa (.inl (Nat.le_refl _)),Zz2,Zz2⟩,L1⟩
     .conv=>whnf
      exact⟨rfl,rfl,q,T1,w,hm,E⟩
    clear w hm E I;rintro V G U1⟨rfl,q,hf,w,hm,E⟩;rw[<- hf.ovr];clear hf;refine⟨by grind[Z9],?_⟩
    conv=>whnf
    exact⟨rfl,(s+1,z,q),T1,⟨w,hm,Zz2,Zz2,Zz2,E⟩,by grind⟩
   .refine⟨by grind,?_⟩
    conv=>whnf
    exact⟨rfl,(s+1,z,q),T1,⟨w,hm,Zz2,Zz2,Zz2,E⟩,by grind⟩
 .repeat refine⟨rfl,?_⟩
  conv=>whnf
  grind
def Ztw:Nat->C->C
 |0,_=>.skip
 |k+1,.seq a b=>.seq a (Ztw k b)
 |_+1,c=>c
def Zu5:Nat->C->C
 |0,c=>c
 |k+1,.seq _ b=>Zu5 k b
 |_+1,_=>.skip
def Zuh:∀(k:Nat)(c:C){n E:Zk T}{x:Nat->Zk T}{r:Zk T}{f:Fm}{ds:List Deferred}{U:Qa T},Q30 (Ztw k c)=true->ZT d fn ro (Ztw k c) E x r f ds U->(∀f ds U,E f ds U->ZT d fn ro (Zu5 k c) n x r f ds U)->ZT d fn ro c n x r f ds U
 |0,c,n,E,x,r,f,ds,U=>λ _ h1 h2=>h2 _ _ _ h1
 |k+1,c,n,E,x,r,f,ds,U=>by
  have w:Q30 c=true->ZT d fn ro c E x r f ds U->(∀f ds U,E f ds U->ZT d fn ro .skip n x r f ds U)->ZT d fn ro c n x r f ds U:=λ hp h1 h2=>Zp7 c hp _ _ _ _ _ _ (λ f ds U h=>h2 f ds U h) (λ _ _ _ _ h=>h) (λ _ _ _ h=>h) _ _ _ h1;cases c with
  |seq a b=>
   intro hp h1 h2;have hp:(Q30 a&&Q30 (Ztw k b))=true:=hp;rw[Bool.and_eq_true]at hp;exact Zp7 a hp.1 _ _ _ _ _ _ (λ f ds U h=>Zuh k b hp.2 h h2) (λ _ _ _ _ h=>h) (λ _ _ _ h=>h) _ _ _ h1
  |_=>exact w
def Zvi(S:Sys P T)(fn:FuncId)(ro:Option Nat)(c:C)(k id:Nat)(hp:Q30 (Ztw k c)=true)(E:Zk T)
  (h1:ZT S fn ro (Ztw k c) E (λ i f ds U=>bif Nat.beq i id then K f ds U else j i f ds U) r f ds U) (h2:∀f ds U,E f ds U->ZT S fn ro (Zu5 k c) K (λ i f ds U=>bif Nat.beq i id then K f ds U else j i f ds U) r f ds U):C.rec (motive:=λ _=>Zk T->(Nat->Zk T)->Zk T->Zk T)
  (λ K _ _=>K)
  (λ _ _ a b K j r=>a (b K j r) j r)
  (λ c _ _ a b K j r=>UE c (a K j r) (b K j r))
  (λ id _ b K j r=>b K (λ i f ds U=>bif Nat.beq i id then K f ds U else j i f ds U) r)
  (λ _ b _ j r=>kn b j r)
  (λ i _ j _=>j i)
  (λ _ _ r=>r)
  (λ _ b K j r=>b K j r)
  (λ l K _ _=>JV S ro l K)
  (λ qs ts K _ _=>DX S (λ _=>False) qs (λ _=>True) (JV S ro ts K))
  (λ qs st ts K _ _ f ds U=>∃G,XC G/\DX S G qs (λ _=>True) (LS S G st (JV S ro ts K)) f ds U)
  (λ N mu dets c params a' h _ _ K j r=>Wo S fn ro N mu dets c params a' h K j r)
  (λ N c K j r=>UF S fn ro N c K j r)
  (λ _ _ _ _ _ _=>False) (.block id c) K j r f ds U:=Zuh k c hp h1 h2
def Zrj(b cap:Nat)(M₀:List Qw)(U0:Qa T):∀(n:Nat)(l:List Int)(U:Qa T)(w:Int)(x y:Nat),Qaa U0 b cap M₀ l U->l.length<=cap->l.length<200->y-x<n->x<=y->y<=l.length->Zow l x y->0<=w->w<2^30 ->
  Qb S 104 #[.slice (some ⟨b,0,none⟩) l.length cap,.int .i64 x,.int .i64 y,.int .i64 w] (λ _ U'=>∃l',Mix x y l l'/\Srt l' x y/\Qaa U0 b cap M₀ l' U') U:=by
 intro n
 induction n with
 |zero=>simp_all
 |succ n ih=>
 intro l U w x y E a6 hn a8 a5 hy hu ag ah;refine Qb.of (args:=[_,_,_,_]) Fu Qf S1 ?_
 repeat refine⟨rfl,?_⟩
 refine⟨Nat×Nat×Int×Bool×Bool×List Int,λ z=>[(0,.slice (some ⟨b,0,none⟩) l.length cap),(1,.int .i64 z.1),(2,.int .i64 z.2.1),(3,.int .i64 z.2.2.1),(8,.bool z.2.2.2.1),(9,.bool z.2.2.2.2.1)],
  λ z U'=>Qaa U0 b cap M₀ z.2.2.2.2.2 U'/\Mix x y l z.2.2.2.2.2/\x<=z.1/\z.1<=z.2.1/\z.2.1<=y/\0<=z.2.2.1/\z.2.2.1<2^30/\Zow z.2.2.2.2.2 z.1 z.2.1 /\
   (∀L,Mix z.1 z.2.1 z.2.2.2.2.2 L->Srt L z.1 z.2.1->Srt L x y),λ z=>z.2.1-z.1,(x,y,w,true,true,l),T1,⟨E,.refl ..,Nat.le_refl _,a5,Nat.le_refl _,ag,ah,hu,λ L _ h=>h⟩,?_⟩
 clear E ag ah;rintro⟨u,v,w,wb,wp,m⟩f U1⟨E,hm,Q,a1,P,ag,ah,an,M⟩;simp only at E hm Q a1 P ag ah an M;have X:=hm.len;have done:∀L U',Mix u v m L->Srt L u v->Qaa U0 b cap M₀ L U'->∃l',Mix x y l l'/\Srt l' x y/\Qaa U0 b cap M₀ l' U':=λ L U' h1 h2 h3=>⟨L,hm.trans (h1.widen Q P),M L h1 h2,h3⟩;generalize aa:C.seq _ _=code;refine Zvi S 104 none code 7 1 (by rw[<- aa];rfl) (λ f' ax U'=>ax=[]/\∃(p:Nat)(am:Int)(aw a2:Bool)(q:List Int),Xx f' [(0,.slice (some ⟨b,0,none⟩) l.length cap),(1,.int .i64 u),(2,.int .i64 v),(3,.int .i64 am),(8,.bool aw),(9,.bool a2),(10,.int .i64 ((v-u:Nat):Int)),(11,.int .i64 p)]/\Qaa U0 b cap M₀ q U'/\Mix u v m q/\u<=p/\p<v/\0<=am/\am<2^30) ?_ ?_
 .subst aa;refine⟨by grind[Z9],?_⟩;rw[show(v:Int)-u=((v-u:Nat):Int) by omega]
  repeat refine⟨rfl,?_⟩
  conv=>whnf
  apply Qg<;>intro W
  .have hi:=Zpb (S:=S) b cap m M₀ E O1 O1 u v a1 O1;rw[X]at hi;refine⟨VZ.any,hi.mono ?_⟩;rintro _ U2⟨L,h1,h2,h3⟩-
   repeat refine⟨rfl,?_⟩
   conv=>whnf
   grind
  have a7:12<v-u:=by have:=of_decide_eq_false W;omega
  repeat refine⟨rfl,?_⟩
  conv=>whnf
  apply Qg<;>intro W
  .have hi:=Zre (S:=S) b cap m M₀ E O1 O1 u v O1 O1;rw[X]at hi;refine⟨Zqq.any,hi.mono ?_⟩;rintro _ U2⟨L,h1,h2,h3⟩-
   repeat refine⟨rfl,?_⟩
   conv=>whnf
   grind
  have hl:1<=w:=by have:w≠0:=(by simpa using W);omega
  cases wb with
  |false=>
   have ay:=Zqb (S:=S) b cap m M₀ E O1 O1 u v O1 O1;rw[X]at ay;refine⟨Zqr.any,ay.mono ?_⟩;rintro _ U2⟨q,F,E⟩-;refine⟨by grind[Z9],?_⟩;have G:q.length=l.length:=F.len.trans X;have Y:=Znm (S:=S) (some ⟨b,0,none⟩) q.length cap q E.ints O1 u v O1 O1;rw[G]at Y;refine⟨Zok.any,Y.mono ?_⟩;rintro _ U'⟨⟨p,k,rfl,K,I⟩,ao⟩-;obtain rfl:=ao.symm
   repeat refine⟨rfl,?_⟩
   conv=>whnf
   apply Qg<;>intro W
   .have hrv:=Zmt (S:=S) b cap q M₀ E O1 O1 u v O1 O1;rw[G]at hrv;refine⟨Zol.any,hrv.mono ?_⟩;rintro _ U4⟨q2,ak,E⟩-;have F:=F.trans ak;clear ak;obtain⟨p',aq⟩:∃p':Nat,p'=(v-1)-(p-u):=⟨_,rfl⟩;refine⟨by grind[Z9],?_⟩;refine⟨by grind[Z9],?_⟩;refine⟨by grind[Z9],?_⟩;rw[show(v:Int)-1-((p:Int)-(u:Int))=(p':Int) by omega];have K:u<=p':=O1
    have I:p'<v:=O1
    generalize q2=q at E F;clear G;have G:q.length=l.length:=F.len.trans X;clear aq;generalize p'=p at K I ⊢
    repeat refine⟨rfl,?_⟩
    conv=>whnf
    exact⟨p,(w-1),false,_,q,T1,E,F,K,I,by simp_all,by grind⟩
   repeat refine⟨rfl,?_⟩
   conv=>whnf
   exact⟨p,(w-1),false,_,q,T1,E,F,K,I,by simp_all,by grind⟩
  |true=>
   obtain⟨q,au⟩:∃q,q=m:=⟨m,rfl⟩;rw[<- au]at E;have F:Mix u v m q:=au▸Mix.refl u v m;clear au;have G:q.length=l.length:=F.len.trans X;have Y:=Znm (S:=S) (some ⟨b,0,none⟩) q.length cap q E.ints O1 u v O1 O1;rw[G]at Y;refine⟨Zok.any,Y.mono ?_⟩;rintro _ U'⟨⟨p,k,rfl,K,I⟩,ao⟩-;obtain rfl:=ao.symm
   repeat refine⟨rfl,?_⟩
   conv=>whnf
   apply Qg<;>intro W
   .have hrv:=Zmt (S:=S) b cap q M₀ E O1 O1 u v O1 O1;rw[G]at hrv;refine⟨Zol.any,hrv.mono ?_⟩;rintro _ U4⟨q2,ak,E⟩-;have F:=F.trans ak;clear ak;obtain⟨p',aq⟩:∃p':Nat,p'=(v-1)-(p-u):=⟨_,rfl⟩;refine⟨by grind[Z9],?_⟩;refine⟨by grind[Z9],?_⟩;refine⟨by grind[Z9],?_⟩;rw[show(v:Int)-1-((p:Int)-(u:Int))=(p':Int) by omega];have K:u<=p':=O1
    have I:p'<v:=O1
    generalize q2=q at E F;clear G;have G:q.length=l.length:=F.len.trans X;clear aq;generalize p'=p at K I ⊢;cases wp with
    |false=>
     repeat refine⟨rfl,?_⟩
     conv=>whnf
     exact⟨p,w,true,_,q,T1,E,F,K,I,by simp_all,by simp_all⟩
    |true=>
     refine⟨rfl,?_⟩;have ac:=Zmo (S:=S) b cap q M₀ E O1 O1 u v O1 O1 (an.mix F);rw[G]at ac;refine⟨Zom.any,ac.mono ?_⟩;rintro _ U5⟨B1,q3,rfl,ad,ai,E⟩-;cases B1 with
     |true=>
      repeat refine⟨rfl,?_⟩
      conv=>whnf
      exact done q3 U5 (F.trans ad) (ai rfl) E
     |false=>
     have F:=F.trans ad;clear ad ai ac G;generalize q3=q at E F
     repeat refine⟨rfl,?_⟩
     conv=>whnf
     exact⟨p,w,true,_,q,T1,E,F,K,I,by simp_all,by simp_all⟩
   cases wp with
   |false=>
    repeat refine⟨rfl,?_⟩
    conv=>whnf
    exact⟨p,w,true,_,q,T1,E,F,K,I,by simp_all,by simp_all⟩
   |true=>
    repeat refine⟨rfl,?_⟩
    conv=>whnf
    by_cases a0:k=1
    .subst a0;have ac:=Zmo (S:=S) b cap q M₀ E O1 O1 u v O1 O1 (an.mix F);rw[G]at ac;refine⟨Zom.any,ac.mono ?_⟩;rintro _ U5⟨B1,q3,rfl,ad,ai,E⟩-;cases B1 with
     |true=>
      repeat refine⟨rfl,?_⟩
      conv=>whnf
      exact done q3 U5 (F.trans ad) (ai rfl) E
     |false=>
     have F:=F.trans ad;clear ad ai ac G;generalize q3=q at E F
     repeat refine⟨rfl,?_⟩
     conv=>whnf
     exact⟨p,w,true,_,q,T1,E,F,K,I,by simp_all,by simp_all⟩
    .rw[show(k==1)=false by simp[a0]]
     repeat refine⟨rfl,?_⟩
     conv=>whnf
     exact⟨p,w,true,_,q,T1,E,F,K,I,by simp_all,by simp_all⟩
 subst aa;clear E ag ah;rintro f' ax U1⟨rfl,p,w,aw,a2,q,az,E,F,K,I,ag,ah⟩;rw[<- az.ovr];clear az;have av:=an.mix F;have ae:q.length=l.length:=F.len.trans X;have a3:p<q.length:=O1
 repeat refine⟨rfl,?_⟩
 conv=>whnf
 by_cases h0:0<u
 .rw[show decide ((u:Int) > 0)=true from decide_eq_true O1];have a4:u-1<q.length:=O1
  refine⟨by grind[Z9],?_⟩;refine⟨_,u-1,⟨rfl,by grind,O1⟩,?_⟩;refine⟨_,E.at a4,_,p,⟨rfl,rfl,O1⟩,_,E.at a3,?_⟩
  conv=>whnf
  intro U3 ap _;have E:=E.le ap;refine⟨FP.any,(zI (ga q (u-1)) (ga q p)).go λ _=>?_⟩
  repeat refine⟨rfl,?_⟩
  conv=>whnf
  apply Qg<;>intro W
  .have hge:¬ga q (u-1)<ga q p:=by simpa using W
   have he:=Zpp (S:=S) b cap q M₀ E O1 O1 u v p K I O1;rw[ae]at he;refine⟨Zqs.any,he.mono ?_⟩;rintro _ U5⟨r,q',rfl,H,r1,r2,lo,hi,E⟩-
   have low:∀k,u<=k->k<v->ga q p<=ga q' k:=λ k a b=>by
    obtain⟨c,c1,c2,e⟩:=H.ins k a b;have:=av c h0 c1 c2;rw[e];omega
   conv=>whnf
   exact⟨rfl,(r,v,w,aw,_,q'),T1,⟨E,hm.trans ((F.trans H).widen Q P),by show x<=r;omega,r2,P,by simp_all,by simp_all,
    λ k h1 h2 h3=>Int.le_trans (lo (r-1) O1 O1) (Int.le_of_lt (hi k h2 h3)),λ L h8 s8=>M L ((F.trans H).trans (h8.widen O1 (Nat.le_refl _))) (Zua O1 r2 low lo h8 s8)⟩,by grind⟩
  have aj:=Zn8 (S:=S) b cap q M₀ E O1 O1 u v p K I O1;rw[ae]at aj;refine⟨Zon.any,aj.mono ?_⟩;rintro _ U6⟨r,q',B,rfl,H,r1,r2,⟨lo,hi⟩,E⟩-;have Z:=H.len;have V:=Piv.of lo hi;have al:=av.mix H
  repeat refine⟨rfl,?_⟩
  refine⟨by grind[Z9],?_⟩;refine⟨by grind[Z9],?_⟩
  repeat refine⟨rfl,?_⟩
  refine⟨D1,?_⟩
  repeat refine⟨rfl,?_⟩
  conv=>whnf
  apply Qg<;>intro W
  .have W:=of_decide_eq_true W;have N:=ih q' U6 (w) u r E O1 O1 O1 r1 O1 (λ k h0 h1 h2=>al k h0 h1 O1) O1 O1;rw[Z,ae]at N;refine⟨rfl,Fu.any,N.mono ?_⟩;rintro _ U7⟨l',h7,s7,E⟩-;refine⟨by grind[Z9],?_⟩
   conv=>whnf
   exact⟨rfl,(r+1,v,w,_,B,l'),T1,⟨E,hm.trans (((F.trans H).trans (h7.widen (Nat.le_refl _) O1)).widen Q P),by show x<=r+1;omega,by show r+1<=v;omega,P,by simp_all,by simp_all,
    λ k h0 h1 h2=>(V.left h7).hi r k (Nat.le_refl _) (Nat.lt_succ_self _) h1 h2,λ L h8 s8=>M L (((F.trans H).trans (h7.widen (Nat.le_refl _) O1)).trans (h8.widen O1 (Nat.le_refl _))) (V.lr h7 s7 h8 s8)⟩,by grind⟩
  .have W:=of_decide_eq_false W
   repeat refine⟨rfl,?_⟩
   refine⟨by grind[Z9],?_⟩;have N:=ih q' U6 (w) (r+1) v E O1 O1 O1 O1 O1 (λ k h0 h1 h2=>V.hi r k (Nat.le_refl _) (Nat.lt_succ_self _) h1 h2) O1 O1;rw[Z,ae]at N;refine⟨Fu.any,N.mono ?_⟩;rintro _ U7⟨l',h7,s7,E⟩-
   conv=>whnf
   have w7:Mix u v q' l':=h7.widen O1 (Nat.le_refl _);have af:Zow l' u r:=λ k h0 h1 h2=>(al.mix w7) k h0 h1 O1;have ab:∀L,Mix u r l' L->Srt L u r->Srt L x y:=λ L h8 s8=>M L (((F.trans H).trans w7).trans (h8.widen (Nat.le_refl _) O1)) (V.rl h7 s7 h8 s8)
   exact⟨rfl,(u,r,w,_,B,l'),T1,⟨E,hm.trans (((F.trans H).trans w7).widen Q P),Q,r1,by show r<=y;omega,by simp_all,by simp_all,
    af,ab⟩,by grind⟩
 .rw[show decide ((u:Int) > 0)=false from decide_eq_false O1]
  conv=>whnf
  intro U3 ap _;have E:=E.le ap;have aj:=Zn8 (S:=S) b cap q M₀ E O1 O1 u v p K I O1;rw[ae]at aj;refine⟨Zon.any,aj.mono ?_⟩;rintro _ U6⟨r,q',B,rfl,H,r1,r2,⟨lo,hi⟩,E⟩-;have Z:=H.len;have V:=Piv.of lo hi;have al:=av.mix H
  repeat refine⟨rfl,?_⟩
  refine⟨by grind[Z9],?_⟩;refine⟨by grind[Z9],?_⟩
  repeat refine⟨rfl,?_⟩
  refine⟨D1,?_⟩
  repeat refine⟨rfl,?_⟩
  conv=>whnf
  apply Qg<;>intro W
  .have W:=of_decide_eq_true W;have N:=ih q' U6 (w) u r E O1 O1 O1 r1 O1 (λ k h0 h1 h2=>al k h0 h1 O1) O1 O1;rw[Z,ae]at N;refine⟨rfl,Fu.any,N.mono ?_⟩;rintro _ U7⟨l',h7,s7,E⟩-;refine⟨by grind[Z9],?_⟩
   conv=>whnf
   exact⟨rfl,(r+1,v,w,_,B,l'),T1,⟨E,hm.trans (((F.trans H).trans (h7.widen (Nat.le_refl _) O1)).widen Q P),by show x<=r+1;omega,by show r+1<=v;omega,P,by simp_all,by simp_all,
    λ k h0 h1 h2=>(V.left h7).hi r k (Nat.le_refl _) (Nat.lt_succ_self _) h1 h2,λ L h8 s8=>M L (((F.trans H).trans (h7.widen (Nat.le_refl _) O1)).trans (h8.widen O1 (Nat.le_refl _))) (V.lr h7 s7 h8 s8)⟩,by grind⟩
  .have W:=of_decide_eq_false W
   repeat refine⟨rfl,?_⟩
   refine⟨by grind[Z9],?_⟩;have N:=ih q' U6 (w) (r+1) v E O1 O1 O1 O1 O1 (λ k h0 h1 h2=>V.hi r k (Nat.le_refl _) (Nat.lt_succ_self _) h1 h2) O1 O1;rw[Z,ae]at N;refine⟨Fu.any,N.mono ?_⟩;rintro _ U7⟨l',h7,s7,E⟩-
   conv=>whnf
   have w7:Mix u v q' l':=h7.widen O1 (Nat.le_refl _);have af:Zow l' u r:=λ k h0 h1 h2=>(al.mix w7) k h0 h1 O1;have ab:∀L,Mix u r l' L->Srt L u r->Srt L x y:=λ L h8 s8=>M L (((F.trans H).trans w7).trans (h8.widen (Nat.le_refl _) O1)) (V.rl h7 s7 h8 s8)
   exact⟨rfl,(u,r,w,_,B,l'),T1,⟨E,hm.trans (((F.trans H).trans w7).widen Q P),Q,r1,by show r<=y;omega,by simp_all,by simp_all,
    af,ab⟩,by simp_all⟩
def Znn(v:Value)(l:List Int)(M₀:List Qw)(ha:Acc 3 1 v (l.map λ n=>.int .i64 n) U.M M₀)(E:l.length<200) :
  Qb S 71 #[v] (λ _ U'=>(∀x o,U.I x=some o->U'.I x=some o)/\U'.tok=U.tok/\∃l',l'.Perm l/\Xc l' l.length/\Acc 3 1 v (l'.map λ n=>.int .i64 n) U'.M M₀) U:=by
 by_cases B:l.length<=12
 .exact zN v l M₀ ha B
 rcases ha with⟨h1,h2,P⟩|⟨b,c,len,cap,h1,h2,N,Z,P,h5⟩
 .simp_all
 have w:len=l.length:=by simpa using h2.symm
 subst w;subst h1;have T:Qaa U b cap M₀ l U:=⟨λ _ _ h=>h,rfl,c,P,O1,λ k x hx=>h5 k _ (by simp[hx])⟩;refine Qb.of (args:=[_]) UX Qf S1 ?_;have X:IntKind.wrap .u64 (l.length:Int)=l.length:=Zui O1
 conv=>whnf
 rw[X];refine⟨Fv.any,(Zmk l.length O1 O1).mono ?_⟩;rintro _ U'⟨⟨m,rfl,V,-⟩,H⟩-;obtain rfl:=H.symm;have hp:=Zrj (S:=S) b cap M₀ U (l.length+1) l U m 0 l.length T N E O1 (Nat.zero_le _) (Nat.le_refl _) (λ k Q=>absurd Q (Nat.lt_irrefl _)) O1 O1;refine⟨Fu.any,hp.mono ?_⟩;rintro _ Y⟨l',F,L,f⟩-
 repeat refine⟨rfl,?_⟩
 conv=>whnf
 obtain⟨c',G,W,K⟩:=f.mem;refine⟨f.imm,f.tok,l',F.perm,λ p q x y h1 h2 hx hy=>?_,.inr ⟨b,c',l.length,cap,rfl,by simp[F.len],N,O1,G,λ k x hx=>?_⟩⟩
 .have:=L p q (Nat.zero_le _) h1 h2
  rwa [Zss hx,Zss hy]at this
 .rw[getElem?_map]at hx;cases hy:l'[k]? with
  |none=>simp_all
  |some y=>rw[hy]at hx;cases hx;exact K k y hy
variable{U':Qa T}
def Zp4{b:Nat}{o o':Obj}{M:List Qw}:∀X:List Qw,J0 b o' o (X++.obj b o::M) (X++.obj b o'::M)
 |[]=>.here
 |_::X=>.there (Zp4 X)
def Zld(U:Qa T)(v:Value)(l:List Int):Prop:=∃a cap,v=.slice a l.length cap/\(a=none↔l=[])/\Z6 U a l.length l
def Zld.lg{U':Qa T}{v:Value}{l:List Int}(h:Zld U v l)(hl:U.lg U'):Zld U' v l:=let ⟨a,c,e,k,h⟩:=h;⟨a,c,e,k,h.lg hl⟩
def Zld.nil:Zld U .nl []:=⟨none,0,rfl,⟨λ _=>rfl,λ _=>rfl⟩,rfl,S1⟩
def Acc.intsN(F:JS U')(h:Acc 3 1 v (l.map λ n=>.int .i64 n) U'.M U.M)(B:l=[]->v=.nl)(E:∀x w,U.I x=some w->U'.I x=some w)(ht:U'.tok=U.tok):∃U'',Qv U' U''/\U.le U''/\Zld U''.frz v l:=by
 obtain⟨U'',G,H,a,len,cap,rfl,hl,b,f,_⟩:=h.freeze F E ht;have hl:l.length=len*1:=by simpa using hl
 obtain rfl:len=l.length:=O1
 refine⟨U'',G,H,a,cap,rfl,⟨λ e=>?_,λ e=>?_⟩,KV b f⟩
 .subst e;rcases b with⟨_,h⟩|⟨K,h,_⟩
  .simpa using h
  .cases h
 simp_all
def WK.LeftOut(t:WK)(tk:Qvl)(x out:List Int):Prop:=∃l',l'.Perm ((t.reach tk x []).map Prod.snd)/\Xc l' l'.length/\out=cpt none l'
section
def Zoj:Qb S 72 #[.nl] (λ v U'=>v=.nl/\U'=U) U:=by
 refine Qb.of (args:=[_]) Zn5 Qf S1 ?_
 repeat refine⟨rfl,?_⟩
 conv=>whnf
def Zs5(q:Int×Int):Value:=.int .i64 q.2
def Zri(h:TH)(t:WK)(ht:GK U.frz h t)(k:KH)(tk:Qvl)(ha:Z6 U.frz k.aa k.al tk.a)(hb:Z6 U.frz k.ba k.bl tk.b)(bi:k.al<=8)(bj:k.bl<=8)(xa:Option Addr)(xl xc:Nat)(x:List Int)(hx:Z6 U.frz xa xl x)(bg:xl<2^60)(au:(t.reach tk x []).length<=64) :
  Qb S 39 #[KH.v h k tk,.slice xa xl xc] (λ v U'=>(∃out,t.LeftOut tk x out/\Zld U'.frz v out)/\U.le U') U:=by
 refine Qb.sep (R:=λ v U'=>∃out,t.LeftOut tk x out/\(out=[]->v=.nl)/\(∃A Y,U'.M.Perm (Y++(A++U.M))/\Jo 3 1 v (out.map λ n=>.int .i64 n) A)/\(∀x o,U.I x=some o->U'.I x=some o)/\U'.tok=U.tok) ?_ ?_
 rotate_left
 .rintro v U' hs ⟨out,hout,h0,⟨A,Y,hM,hacc⟩,hI,htk⟩
  let F:Qa T:={ U' with M:=A++U.M }
  have bb:Qv U' F:=(Wp hM).trans (Zx (U:={ U' with M:=Y++(A++U.M) }) (M':=A++U.M) (sublist_append_right ..));have a9:JS F:=λ r hr=>hs r (hM.mem_iff.2 (mem_append_right _ hr));obtain⟨U'',k1,k2,k3⟩:=Acc.intsN (U':=F) a9 (hacc U.M) h0 hI htk;exact⟨U'',bb.trans k1,⟨out,hout,k3⟩,k2⟩
 refine Qb.of (args:=[_,_]) Zr8 Qf S1 ?_
 repeat refine⟨rfl,?_⟩
 conv=>whnf
 intro b2 F E af;have af:Zi F b2 (KH.cs h k tk).toArray:=af
 conv=>whnf
 intro w bk;refine⟨_,.refl _,KH.cs h k tk,⟨rfl,Zi.rdI af (λ _ _ h=>h)⟩,Zn4.any,(Zkk h k tk xa none xl xc 0 0).mono ?_⟩;rintro _ U2⟨⟨p3,p4,p5,rfl,a6,a7,a8⟩,ae⟩-;have a1:U2.M=.obj w (.cells #[.nl] 29 (0,0))::U.M:=by rw[ae.own];show _::F.M=_;rw[E.own]
 have N:U.frz.lg U2:=⟨λ x o h=>ae.imm x o (E.imm x o h),Zz3,ae.tok.trans E.tok⟩
 have ao:∀l G,U2.frz.lg G->ku S 62 #[.func (.yield l) #[] #[],.pb p3,.pb p4,.pb p5] l ((t.reach tk x []).map Zqi) G:=λ l G hl=>by
  have hl':=hl.frz2;have hf:=N.frz2.trans hl';exact Zmn h t (ht.lg hf) k tk (ha.lg hf) (hb.lg hf) xa none xl xc 0 0 x [] (hx.lg hf) ⟨rfl,S1⟩ O1 O1 bg O1 p3 p4 p5 l (a6.imI hl.imm) (a7.imI hl.imm) (a8.imI hl.imm)
 generalize ap:t.reach tk x []=ps at ao au
 conv=>whnf
 let Inv:Nat->Qa T->Prop:=λ k U'=>U2.frz.lg U'/\∃v A,U'.M=A++.obj w (.cells #[v] 29 (0,0))::U.M/\Jo 3 1 v ((ps.take k).map Zs5) A/\(k=0->v=.nl)
 refine Zlk Qf (ps.map Zqi) Inv (λ _ _=>False) (λ _=>False) rfl rfl Zpj.any (λ l F hl=>ao l F ⟨hl.imm,Zz3,hl.tok⟩) ?_ ⟨?_,?_⟩ ?_ ?_ ?_ ?_ ?_
 .intro p hp;obtain⟨q,_,rfl⟩:=mem_map.1 hp;rfl
 .rintro k U' U'' hle ⟨hl,v,A,hM,ha,h0⟩;exact⟨Uf hl hle,v,A,hle.own.trans hM,ha,h0⟩
 .rintro k U' ⟨hl,_⟩;exact⟨hl.imm,Zz3,hl.tok⟩
 .exact⟨⟨λ _ _ h=>h,Zz3,rfl⟩,.nl,[],a1,.nil,λ _=>rfl⟩
 .intro l A' B D k p U0 KN KX KR KA hp ⟨hl,v,A,hM,ha,h0⟩ hKN hKX hKR hKA
  obtain⟨q,hq,rfl⟩:∃q,ps[k]?=some q/\p=Zqi q:=by
   rw[getElem?_map]at hp;cases hq:ps[k]? with
   |none=>rw[hq]at hp;cases hp
   |some q=>rw[hq]at hp;cases hp;exact⟨q,rfl,rfl⟩
  have hk:k<ps.length:=(Zz4 hq);obtain⟨sa,sl,sc,rfl,bc⟩:=ha.src
  conv=>whnf
  intro b6 an;refine⟨_,.refl _,rfl,Zv (vs:=Qam q) an rfl (by simp[Qam,Value.single]) λ F E am=>?_⟩
  conv=>whnf
  have e1:F=({ F with M:=U0.M }:Qa T).on A' D:=by
   have:=E.own;obtain⟨i1,m1,t1⟩:=F;simp only[Qa.on]at this ⊢;rw[this]
  rw[e1];refine hKA _ _ ?_;have ad:(({ F with M:=U0.M }:Qa T).on B D).M=B::D::(A++.obj w (.cells #[.slice sa sl sc] 29 (0,0))::U.M):=by show B::D::U0.M=_;rw[hM]
  have aw:∀x o,U0.I x=some o->F.I x=some o:=λ x o h=>E.imm x o h;have Z:Zi (({ F with M:=U0.M }:Qa T).on B D) b6 #[.int .i64 q.1,.int .i64 q.2]:=am;generalize K:(({ F with M:=U0.M }:Qa T).on B D)=G at ad Z ⊢;have ax:∀x o,U2.I x=some o->G.I x=some o:=λ x o h=>by rw[<- K];exact aw x o (hl.imm x o h)
  have bd:G.tok=U2.tok:=by rw[<- K];exact E.tok.trans hl.tok
  clear K e1 E am an;refine⟨_,Q9 (B::D::A) ad 0 _ rfl,_,Z.sees3 (o:=1) rfl,?_⟩
  conv=>whnf
  intro bn a5;refine Zoe (M':=A++B::D::.obj w (.cells #[.slice sa sl sc] 29 (0,0))::U.M) a5 (by rw[ad];exact Zni B D A _) λ U4 ay be a2 ag=>?_;have ag:Zi U4 bn #[Zs5 q]:=ag
  conv=>whnf
  refine Wn (v:=.slice sa sl sc) (cs:=(ps.take k).map Zs5) (new:=[Zs5 q]) (M₀:=B::D::.obj w (.cells #[.slice sa sl sc] 29 (0,0))::U.M) H4 rfl rfl (by rw[a2];exact ha _) (.inr ⟨_,rfl,Zi.rdI (vs:=[Zs5 q]) ag (λ _ _ h=>h)⟩) rfl (by simp[Zs5,Value.single]) S3 λ v' M' L H=>?_;have L:Acc 3 1 v' ((ps.take (k+1)).map Zs5) M' (B::D::.obj w (.cells #[.slice sa sl sc] 29 (0,0))::U.M):=by rw[Wf hq];simpa using L
  obtain⟨A2,a0,ak⟩:=L.split;obtain⟨ta,tl,tc,rfl,-⟩:=ak.src;refine⟨rfl,?_⟩;refine Yd (M₀:=U.M) (e:=29) (A2++[B,D]) [.slice ta tl tc] 0 #[.slice sa sl sc] _ (by show M'=_;rw[a0];simp) Zz1 S1 ?_;refine⟨({ U4 with M:=A2++.obj w (.cells #[.slice ta tl tc] 29 (0,0))::U.M }:Qa T).on B D,?_,?_⟩
  .refine Wp ?_;show Perm ((A2++[B,D])++.obj w _::U.M) (B::D::(A2++_));simpa[ZU]using(Zni B D A2 (.obj w (.cells #[.slice ta tl tc] 29 (0,0))::U.M)).symm
  conv=>whnf
  exact hKN _ _ _ ⟨⟨λ x o h=>ay x o (ax x o h),Zz3,be.trans bd⟩,_,A2,rfl,ak,λ h=>absurd h (Nat.succ_ne_zero _)⟩
 .rintro d l OA G ⟨hl,v,A1,hM,ha,h0⟩;rw[take_of_length_le S1]at ha;rw[length_map]at h0;obtain⟨sa,sl,sc,rfl,bc⟩:=ha.src;have P:(G.on (.obj l OA) (.obj d (.deferred (some [])))).M=.obj l OA::.obj d (.deferred (some []))::(A1++.obj w (.cells #[.slice sa sl sc] 29 (0,0))::U.M):=by show _::_::G.M=_;rw[hM]
  have ab:∀x o,U.I x=some o->(G.on (.obj l OA) (.obj d (.deferred (some [])))).I x=some o:=λ x o h=>hl.imm x o (N.imm x o h);have ah:(G.on (.obj l OA) (.obj d (.deferred (some [])))).tok=U.tok:=hl.tok.trans N.tok;generalize hU:G.on (.obj l OA) (.obj d (.deferred (some [])))=U4 at P ab ah ⊢;clear hU;refine⟨_,Q9 (.obj l OA::.obj d (.deferred (some []))::A1) P 0 _ rfl,?_⟩;have L:Jo 3 1 (.slice sa sl sc) ((ps.map Prod.snd).map λ n=>.int .i64 n) A1:=by rw[map_map];exact ha
  by_cases H:ps=[]
  .have h0:=h0 (by rw[H];rfl);simp only[Value.slice.injEq]at h0;obtain⟨rfl,rfl,rfl⟩:=h0;subst H
   have av:A1=[]:=by
    rcases ha []with⟨_,_,h⟩|⟨b,c,len,cap,h,_⟩
    .simpa using h
    .cases h
   subst av;refine⟨UX.any,(Znn .nl [] _ .nil S1).mono ?_⟩;rintro v5 U5⟨ac,ai,l',hp,aq,V⟩-;obtain rfl:=hp.eq_nil
   have Q:U5.M=.obj l OA::.obj d (.deferred (some []))::.obj w (.cells #[.nl] 29 (0,0))::U.M:=by
    rcases V with⟨_,_,h⟩|⟨b,c,len,cap,h,_⟩
    .exact h.trans P
    .cases h
   refine⟨_,Q9 [.obj l OA,.obj d (.deferred (some []))] Q 0 _ rfl,Zn5.any,(Zoj).go λ _=>?_⟩;refine⟨.obj l OA::.obj d (.deferred none)::.obj w (.cells #[.nl] 29 (0,0))::U.M,by rw[Q];exact .there .here,?_⟩;refine⟨[],⟨[],by rw[ap];exact .nil,by simp[Xc],rfl⟩,λ _=>rfl,⟨[],[.obj l OA,.obj d (.deferred none),.obj w (.cells #[.nl] 29 (0,0))],.refl _,.nil⟩,λ x o h=>ac x o (ab x o h),ai.trans ah⟩
  .refine⟨UX.any,Qb.shift (Wp (M':=A1++.obj l OA::.obj d (.deferred (some []))::.obj w (.cells #[.slice sa sl sc] 29 (0,0))::U.M) (by rw[P];exact Zni _ _ A1 _)) ((Znn (.slice sa sl sc) (ps.map Prod.snd) (.obj l OA::.obj d (.deferred (some []))::.obj w (.cells #[.slice sa sl sc] 29 (0,0))::U.M) (L _) (by rw[length_map];omega)).mono ?_)⟩;rintro v5 U5⟨ac,ai,l',hp,aq,V⟩-;obtain⟨A5,Q,bh⟩:=V.split;have aj:U5.M=(A5++[.obj l OA,.obj d (.deferred (some []))])++.obj w (.cells #[.slice sa sl sc] 29 (0,0))::U.M:=by rw[Q];simp
   refine⟨_,Q9 _ aj 0 _ rfl,?_⟩;have W:=hp.length_eq;rw[length_map]at W;refine⟨Zn5.any,(Zo2 (.slice sa sl sc) l' _ V O1).mono ?_⟩;rintro v6 U6⟨a4,az,bf⟩-;obtain⟨A6,a3,X⟩:=a4.split;obtain⟨ta,tl,tc,rfl,bm⟩:=X.src;refine⟨A6++.obj l OA::.obj d (.deferred none)::.obj w (.cells #[.slice sa sl sc] 29 (0,0))::U.M,by rw[a3];have:=Zp4 (b:=d) (o:=.deferred (some [])) (o':=.deferred none) (M:=.obj w (.cells #[.slice sa sl sc] 29 (0,0))::U.M) (A6++[.obj l OA]);rwa [append_assoc,append_assoc]at this,?_⟩;refine⟨cpt none l',⟨l',by rw[ap];exact hp,by rw[W,<- length_map (f:=Prod.snd)];exact aq,rfl⟩,λ h=>?_,⟨A6,[.obj l OA,.obj d (.deferred none),.obj w (.cells #[.slice sa sl sc] 29 (0,0))],?_,X⟩,λ x o h=>az x o (ac x o (ab x o h)),bf.trans (ai.trans ah)⟩
   .exfalso;cases l' with
    |nil=>simp at W;exact H (length_eq_zero_iff.1 W.symm)
    |cons a r=>cases h
   .show Perm (A6++.obj l OA::.obj d (.deferred none)::.obj w (.cells #[.slice sa sl sc] 29 (0,0))::U.M) _;refine((Zni (.obj l OA) (.obj d (.deferred none)) A6 (.obj w (.cells #[.slice sa sl sc] 29 (0,0))::U.M)).symm).trans ?_;exact Perm.cons _ (Perm.cons _ perm_middle)
 .exact λ d l A i G h=>h.elim
 simp_all
