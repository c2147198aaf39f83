/- Lemmas. No conditions. -/
import Derived.Test.YtnjljnhoaafkiaaGreatDoorC06
set_option linter.all false
set_option maxRecDepth 100000
set_option maxHeartbeats 1000000
open List
open Go.Proofs.Tryz (prog)
namespace Go.TM
open Go.Proofs
attribute [local irreducible] Qb Zm Wo
variable{s:ByteArray}{i:Nat}{c:UInt8}
def Zte(c:UInt8):IntKind.wrap .i64 (c.toNat:Int)=c.toNat:=by
 have:=c.toNat_lt;simp only[IntKind.wrap,IntKind.signed,IntKind.bits];simp;omega
def Zun(s:ByteArray):∀(n i:Nat)(r:List UInt8),s.size-i=n->ByteArray.toList.loop s i r=r.reverse++s.data.toList.drop i:=by
 intro n
 induction n with
 |zero=>
  intro i r h;have b:s.size=s.data.toList.length:=(Array.length_toList (xs:=s.data)).symm;rw[ByteArray.toList.loop,if_neg O1,drop_eq_nil_of_le O1];simp
 |succ n f=>
  intro i r h;have b:s.size=s.data.toList.length:=(Array.length_toList (xs:=s.data)).symm;rw[ByteArray.toList.loop,if_pos O1,f (i+1) _ O1]
  have:s.get! i=s.data.toList[i]' O1:=by
   have h1:s.get! i=s.data[i]!:=rfl;rw[h1,getElem!_pos s.data i (by rw[Array.length_toList]at b;omega)];rfl
  rw[this,reverse_cons,append_assoc,drop_eq_getElem_cons (by omega:i<s.data.toList.length)];rfl
def Zq1(s:ByteArray):s.toList=s.data.toList:=by
 have:=Zun s _ 0 [] rfl;simpa[ByteArray.toList]using this
def Zuv(a b:ByteArray):(a.toList==b.toList)=decide (a=b):=by
 rw[Zq1,Zq1,Bool.eq_iff_iff,beq_iff_eq,decide_eq_true_iff];constructor
 .intro h;exact ByteArray.ext (Array.ext' h)
 .rintro rfl;rfl
def Zpy{κ:Type}[DecidableEq κ](k x:κ)(s:List κ):inS k (s++[x])=(inS k s|| decide (k=x)):=by
 unfold inS;rw[Bool.eq_iff_iff];simp
def Zro{κ:Type}[DecidableEq κ]{k:κ}{s:List κ}:inS k s=true↔k∈s:=by unfold inS;exact decide_eq_true_iff
def Zuw(h:s.data.toList[i]?=some c):s[i]?=some c:=by
 rw[<- h];have:s[i]?=s.data[i]?:=rfl;rw[this,Array.getElem?_toList]
variable{T:Type}{S:Sys prog T}{U:Qa T}
def Zqe(s:ByteArray)(K:s.size<2^60):Qb S 81 #[.string s] (λ v U'=>v=.bool (Zg s)/\U'=U) U:=by
 refine Qb.pure' (Qb.of (args:=[_]) Zlv Qf S1 ?_);rw[Ztt];have H:s.size=s.data.toList.length:=(Array.length_toList (xs:=s.data)).symm
 repeat refine⟨rfl,?_⟩
 conv=>whnf
 apply Jt<;>intro w
 .have h0:s.size≠0:=by simpa using w
  repeat refine⟨rfl,?_⟩
  conv=>whnf
  apply Qg<;>intro w
  .have:QP s.size 1 10=false:=by unfold QP;simp at w ⊢;omega
   rw[this]
   repeat refine⟨rfl,?_⟩
   conv=>whnf
   exact(Qa.le.refl _).lg
  .have:QP s.size 1 10=true:=by unfold QP;simp at w ⊢;omega
   rw[this,Bool.true_and];refine⟨Nat,λ i=>[(0,.string s),(3,.int .i64 i)],λ i U'=>U.le U'/\i<=s.size/\Zo5 s.data.toList 0=Zo5 (s.data.toList.drop i) i,λ i=>s.size-i,0,T1,⟨.refl _,O1,rfl⟩,?_⟩;rintro i f U0⟨B,hi,b⟩
   repeat refine⟨rfl,?_⟩
   conv=>whnf
   apply Qg<;>intro w
   .have hlt:i<s.size:=by simpa using w
    obtain⟨c,hx⟩:∃c,s.data.toList[i]?=some c:=⟨_,getElem?_eq_getElem O1⟩;rw[Hl hx,Zo5]at b;refine⟨i,c,⟨rfl,Zuw hx⟩,.bool (Zqj c),λ U' E _=>?_,?_⟩
    .refine⟨x_.any,(Zkn _ _ _ _).mono ?_⟩;rintro _ U''⟨rfl,G⟩-;exact⟨by rw[Zte];rfl,_,.refl _,G▸.refl _⟩
    refine⟨i,c,⟨rfl,Zuw hx⟩,?_⟩
    conv=>whnf
    intro I E _;refine⟨x_.any,(Zkn _ _ _ _).go λ _=>?_⟩;rw[Zte];have F:Z9 (i+1):=I1
    have next:Zo5 s.data.toList 0=Zo5 (s.data.toList.drop (i+1)) (i+1)->i+1<=s.size/\Zo5 s.data.toList 0=Zo5 (s.data.toList.drop (i+1)) (i+1):=λ h=>⟨O1,h⟩
    repeat refine⟨rfl,?_⟩
    conv=>whnf
    apply Jt<;>intro w
    .have h1:Zqj c=false:=by simpa using w
     repeat refine⟨rfl,?_⟩
     conv=>whnf
     apply Jt<;>intro w
     .have h2:Zsr c=true:=by simpa[Zsr]using w
      repeat refine⟨rfl,?_⟩
      conv=>whnf
      apply Qg<;>intro w
      .have h3:i=0:=by simpa using w
       repeat refine⟨rfl,?_⟩
       conv=>whnf
       exact⟨by rw[b,h1,h3];simp,(B.trans E).lg⟩
      .have h3:i≠0:=by simpa using w
       refine⟨F,rfl,i+1,T1,⟨B.trans E,next (by rw[b,h1,h2];simp[h3])⟩,L1⟩
     .have h2:Zsr c=false:=by simpa[Zsr]using w
      repeat refine⟨rfl,?_⟩
      conv=>whnf
      exact⟨by rw[b,h1,h2];simp,(B.trans E).lg⟩
    .have h1:Zqj c=true:=by simpa using w
     repeat refine⟨rfl,?_⟩
     refine⟨F,rfl,i+1,T1,⟨B.trans E,next (by rw[b,h1];simp)⟩,L1⟩
   .have hge:s.size<=i:=by simpa using w
    rw[drop_eq_nil_of_le O1]at b
    repeat refine⟨rfl,?_⟩
    conv=>whnf
    exact⟨by rw[b];rfl,B.lg⟩
 .have h0:s.size=0:=by simpa using w
  have:QP s.size 1 10=false:=by unfold QP;rw[h0];rfl
  rw[this]
  repeat refine⟨rfl,?_⟩
  conv=>whnf
  exact(Qa.le.refl _).lg
def Zmx(a:Option Addr)(len cap:Nat)(l:List Hv)(hl:Q7 U a len 2 l λ it vs=>vs=[.string it.name,.int .i64 it.cls])(Z:len<2^60)(hn:∀it∈l,it.name.size<2^60) :
  Qb S 50 #[.agg #[.slice a len cap]] (λ v U'=>v=.int .i64 (edF l)/\U'=U) U:=by
 refine Qb.pure' (Qb.of (args:=[_]) Zsa Qf S1 ?_);have N:=hl.1
 repeat refine⟨rfl,?_⟩
 conv=>whnf
 intro b Y G hb;have hb:Zi Y b #[.slice a len cap]:=hb;refine⟨_,hb.sees3 (o:=0) rfl,?_⟩
 repeat refine⟨rfl,?_⟩
 conv=>whnf
 apply Qg<;>intro F
 .have W:8<l.length:=by rw[N];simp at F;omega
  repeat refine⟨rfl,?_⟩
  conv=>whnf
  exact⟨by unfold edF;rw[if_pos W],G.lg⟩
 have W:¬8<l.length:=by rw[N];simp at F;omega
 have K:edF l=Zoc l []:=by unfold edF;rw[if_neg W]
 rw[K];refine⟨Nat,λ i=>[(1,.pb b),(3,.int .i64 i)],λ i U'=>Y.le U'/\i<=len/\Zoc l []=Zoc (l.drop i) ((l.take i).map (·.name)),λ i=>len-i,0,T1,⟨.refl _,O1,rfl⟩,?_⟩;rintro i f U2⟨B,hi,w⟩;refine⟨_,(hb.le B).sees3 (o:=0) rfl,?_⟩
 repeat refine⟨rfl,?_⟩
 conv=>whnf
 apply Qg<;>intro F
 .have hlt:i<len:=by simpa using F
  obtain⟨V,it,vs,hx,rfl,ab,rfl,-,I⟩:=(hl.lg (G.trans B).lg (λ _ _ h=>h)).at hlt;have X:Z9 (i+1):=I1
  rw[Hl hx,Zoc]at w;refine⟨_,(hb.le B).sees3 (o:=0) rfl,V,i,⟨rfl,rfl,hlt⟩,_,I 0 _ rfl,Zlv.any,(Zqe it.name (hn it (mem_of_getElem? hx))).go λ _=>?_⟩
  repeat refine⟨rfl,?_⟩
  conv=>whnf
  apply Qg<;>intro F
  .have h1:Zg it.name=false:=by simpa using F
   repeat refine⟨rfl,?_⟩
   conv=>whnf
   exact⟨by rw[w,h1];rfl,(G.trans B).lg⟩
  have h1:Zg it.name=true:=by simpa using F
  rw[if_pos h1]at w;refine⟨Nat,λ k=>[(1,.pb b),(3,.int .i64 i),(4,.int .i64 k)],λ k U'=>U2.le U'/\k<=i/\inS it.name ((l.take k).map (·.name))=false,λ k=>i-k,0,T1,⟨.refl _,O1,rfl⟩,?_⟩;rintro k f U3⟨E,hk,P⟩;have H:=hb.le (B.trans E)
  repeat refine⟨rfl,?_⟩
  conv=>whnf
  apply Qg<;>intro F
  .have hlk:k<i:=by simpa using F
   obtain⟨_,L,vs,T,e,aa,rfl,-,Q⟩:=(hl.lg (G.trans B).lg (λ _ _ h=>h)).at (show k<len by omega);cases e;refine⟨_,H.sees3 (o:=0) rfl,V,k,⟨rfl,rfl,O1⟩,_,(Q 0 _ rfl).lg E.lg,_,H.sees3 (o:=0) rfl,V,i,⟨rfl,rfl,hlt⟩,_,(I 0 _ rfl).lg E.lg,?_⟩
   conv=>whnf
   intro U4 M _
   repeat refine⟨rfl,?_⟩
   conv=>whnf
   rw[Zuv];apply Qg<;>intro F
   .have he:L.name=it.name:=by simpa using F
    have hs:inS it.name ((l.take i).map (·.name))=true:=by
     refine Zro.2 (mem_map.2 ?_);exact⟨L,mem_of_getElem? (i:=k) (by rw[getElem?_take,if_pos hlk];exact T),he⟩
    repeat refine⟨rfl,?_⟩
    conv=>whnf
    exact⟨by rw[w,hs];rfl,(G.trans (B.trans (E.trans M))).lg⟩
   .have he:L.name≠it.name:=by simpa using F
    refine⟨I1,?_⟩;refine⟨rfl,k+1,T1,⟨E.trans M,O1,?_⟩,L1⟩;rw[Wf T,map_append,map_cons,map_nil,Zpy,P];simpa using Ne.symm he
  .have hge:i<=k:=by simpa using F
   obtain rfl:k=i:=O1
   rw[if_neg (by rw[P];simp)]at w;refine⟨_,H.sees3 (o:=0) rfl,V,k,⟨rfl,rfl,hlt⟩,_,(I 1 _ rfl).lg E.lg,x_.any,(Zkn _ _ _ _).go λ _=>?_⟩
   repeat refine⟨rfl,?_⟩
   conv=>whnf
   apply Qg<;>intro F
   .have h2:QP it.cls 1 45=false:=by simpa using F
    repeat refine⟨rfl,?_⟩
    conv=>whnf
    exact⟨by rw[w,h2];rfl,(G.trans (B.trans E)).lg⟩
   .have h2:QP it.cls 1 45=true:=by simpa using F
    rw[if_pos h2]at w;refine⟨X,rfl,k+1,T1,⟨B.trans E,O1,?_⟩,L1⟩;rw[w,Wf hx,map_append];rfl
 .have hge:len<=i:=by simpa using F
  rw[drop_eq_nil_of_le O1]at w
  repeat refine⟨rfl,?_⟩
  conv=>whnf
  exact⟨by rw[w];rfl,(G.trans B).lg⟩
variable{h:TH}{t:WK}{e:Int}
def WK.isEd_at(ht:GK U h t)(B:t.isEd e=true) :
  ∃(k:Nat)(b:Addr)(a:Option Addr)(len cap:Nat),e=k/\k<h.el/\h.ea=some b/\U.sees ((b.add (k*1)).add 0) (.slice a len cap)/\Q7 U a len 2 (t.items e) (λ it vs=>vs=[.string it.name,.int .i64 it.cls]):=by
 have hb:=WK.isEd_lt B;have E:=ht.eds.1;obtain⟨k,rfl⟩:=Int.eq_ofNat_of_zero_le hb.1;obtain⟨b,x,vs,hx,f,G,⟨v,rfl,a,len,cap,rfl,F⟩,-,w⟩:=ht.eds.at (show k<h.el by omega);refine⟨k,b,a,len,cap,rfl,O1,f,w 0 _ rfl,?_⟩;have:t.items (k:Int)=x:=by unfold WK.items;rw[if_pos B,getD_eq_getElem?_getD,Int.toNat_natCast,hx];rfl
 rw[this];exact F
def WK.isItem_btw(t:WK)(e n:Int):QP n 0 ((t.items e).length-1)=t.isItem e n:=rfl
def WK.ed2(t:WK)(e:Int):QP e 0 (t.eds.length-2)=(t.isEd e&&t.isEd (e+1)):=by
 unfold WK.isEd QP;rw[Bool.eq_iff_iff];simp only[Bool.and_eq_true,decide_eq_true_eq];omega
def Zvj(a b c a' f c':Int):ZF [.int .i64 a',.int .i64 f,.int .i64 c'] [.int .i64 a,.int .i64 b,.int .i64 c]=decide ((a,b,c)=(a',f,c')):=by
 simp only[ZF,HY];rw[Bool.eq_iff_iff];simp only[Bool.and_eq_true,beq_iff_eq,decide_eq_true_iff,Prod.mk.injEq,and_true];constructor
 .rintro⟨h1,h2,h3⟩;exact⟨h1.symm,h2.symm,h3.symm⟩
 .rintro⟨h1,h2,h3⟩;exact⟨h1.symm,h2.symm,h3.symm⟩
def mv3(m:YF):Int×Int×Int:=(m.ed,m.fr,m.to)
def kn3(k:YE):Int×Int×Int:=(k.ed,k.one,k.two)
def Zn2(h:TH)(t:WK)(ht:GK U h t)(i:Nat)(m:YF)(hx:t.mvs[i]?=some m) :
  Qb S 51 #[h.v,.int .i64 i] (λ v U'=>v=.int .i64 (t.chkMv m ((t.mvs.take i).map mv3))/\U'=U) U:=by
 refine Qb.pure' (Qb.of (args:=[_,_]) Zsb Qf S1 ?_);have aj:=ht.eds.1;have a0:=ht.el;have a5:=ht.mvs.1;have a3:=ht.ml;have ab:i<h.ml:=by have:=(Zz4 hx);omega
 obtain⟨ad,E,vs,ae,P,a6,rfl,-,ax⟩:=ht.mvs.at ab;obtain rfl:m=E:=by rw[hx]at ae;exact Option.some.inj ae
 repeat refine⟨rfl,?_⟩
 conv=>whnf
 intro b U1 T hb;have hb:Zi U1 b #[.slice h.ea h.el h.ec,.slice h.ma h.ml h.mc,.slice h.ka h.kl h.kc]:=hb;refine⟨_,hb.sees3 (o:=1) rfl,ad,i,⟨P,rfl,ab⟩,[.int .i64 m.ed,.int .i64 m.fr,.int .i64 m.to],⟨rfl,ax.lg T.lg⟩,?_⟩
 conv=>whnf
 intro b5 al;refine⟨_,.refl _,rfl,Zv (vs:=[.int .i64 m.ed,.int .i64 m.fr,.int .i64 m.to]) al rfl Zz1 λ U2 V w=>?_⟩;have w:Zi U2 b5 #[.int .i64 m.ed,.int .i64 m.fr,.int .i64 m.to]:=w;have K:=hb.le V;have G:=(T.trans V).lg;refine⟨_,w.sees3 (o:=0) rfl,_,K.sees3 (o:=0) rfl,I1,?_⟩;refine⟨.bool (t.isEd m.ed&&t.isEd (m.ed+1)),λ U' av _=>?_,?_⟩
 .refine⟨x_.any,(Zkn _ _ _ _).mono ?_⟩;rintro _ U''⟨rfl,hU⟩-;exact⟨by rw[<- WK.ed2,aj],_,.refl _,hU▸.refl _⟩
 repeat refine⟨rfl,?_⟩
 conv=>whnf
 apply Jt<;>intro F
 .have hee:t.isEd m.ed=true/\t.isEd (m.ed+1)=true:=by simpa using F
  obtain⟨ke,ag,ia,il,ic,Z,aq,ai,ay,an⟩:=WK.isEd_at ht hee.1;obtain⟨kf,ah,ja,jl,jc,aa,au,Y,az,ap⟩:=WK.isEd_at ht hee.2;have am:=an.1;have a1:=ht.items_lt m.ed;have ao:=ap.1;have a2:=ht.items_lt (m.ed+1);refine⟨_,w.sees3 (o:=1) rfl,_,K.sees3 (o:=0) rfl,_,w.sees3 (o:=0) rfl,ag,ke,⟨ai,Z,aq⟩,_,ay.lg G,I1,?_⟩;refine⟨.bool (t.isItem m.ed m.fr),λ U' av _=>?_,?_⟩
  .refine⟨x_.any,(Zkn _ _ _ _).mono ?_⟩;rintro _ U''⟨rfl,hU⟩-;exact⟨by rw[<- WK.isItem_btw,am],_,.refl _,hU▸.refl _⟩
  repeat refine⟨rfl,?_⟩
  conv=>whnf
  apply Jt<;>intro F
  .have hi1:t.isItem m.ed m.fr=true:=by simpa using F
   refine⟨_,w.sees3 (o:=2) rfl,_,K.sees3 (o:=0) rfl,_,w.sees3 (o:=0) rfl,I1,?_⟩;refine⟨ah,kf,⟨Y,aa,au⟩,_,az.lg G,I1,?_⟩
   conv=>whnf
   intro U3 B _;have M:=G.trans B.lg;refine⟨x_.any,(Zkn _ _ _ _).go λ _=>?_⟩;rw[show QP m.to 0 ((jl:Int)-1)=t.isItem (m.ed+1) m.to by rw[<- ao];rfl]
   repeat refine⟨rfl,?_⟩
   conv=>whnf
   apply Qg<;>intro F
   .have N:t.isItem (m.ed+1) m.to=false:=by simpa using F
    repeat refine⟨rfl,?_⟩
    conv=>whnf
    exact⟨by unfold WK.chkMv WK.mvOk;rw[hee.1,hee.2,hi1,N];rfl,M⟩
   have N:t.isItem (m.ed+1) m.to=true:=by simpa using F
   have aw:t.mvOk m=true:=by unfold WK.mvOk;rw[hee.1,hee.2,hi1,N];rfl
   have Q:t.chkMv m ((t.mvs.take i).map mv3)=if inS (mv3 m) ((t.mvs.take i).map mv3)then 5 else 0:=by unfold WK.chkMv;rw[if_pos aw];rfl
   rw[Q];refine⟨Nat,λ k=>[(1,.int .i64 i),(2,.pb b),(5,.pb b5),(6,.int .i64 k)],λ k U'=>U3.le U'/\k<=i/\inS (mv3 m) ((t.mvs.take k).map mv3)=false,λ k=>i-k,0,T1,⟨.refl _,O1,rfl⟩,?_⟩;rintro k f U4⟨I,hk,L⟩;have X:=K.le (B.trans I);have w:=w.le (B.trans I);have H:=M.trans I.lg
   repeat refine⟨rfl,?_⟩
   conv=>whnf
   apply Qg<;>intro F
   .have hlk:k<i:=by simpa using F
    obtain⟨_,E,vs,af,e,a4,rfl,-,ac⟩:=ht.mvs.at (show k<h.ml by omega);rw[P]at e;cases e;refine⟨_,X.sees3 (o:=1) rfl,ad,k,⟨P,rfl,O1⟩,[.int .i64 E.ed,.int .i64 E.fr,.int .i64 E.to],⟨rfl,ac.lg H⟩,[.int .i64 m.ed,.int .i64 m.fr,.int .i64 m.to],⟨rfl,w.rd⟩,?_⟩
    conv=>whnf
    intro U5 W _;refine pE Zqw (vs:=[.int .i64 E.ed,.int .i64 E.fr,.int .i64 E.to]) (ws:=[.int .i64 m.ed,.int .i64 m.fr,.int .i64 m.to]) rfl rfl K1 K1 ?_;have ak:ZF [.int .i64 E.ed,.int .i64 E.fr,.int .i64 E.to] [.int .i64 m.ed,.int .i64 m.fr,.int .i64 m.to]=decide (mv3 m=mv3 E):=Zvj ..;rw[ak]
    repeat refine⟨rfl,?_⟩
    conv=>whnf
    apply Qg<;>intro F
    .have he:mv3 m=mv3 E:=by simpa using F
     have hs:inS (mv3 m) ((t.mvs.take i).map mv3)=true:=
      Zro.2 (mem_map.2 ⟨E,mem_of_getElem? (i:=k) (by rw[getElem?_take,if_pos hlk];exact af),he.symm⟩)
     repeat refine⟨rfl,?_⟩
     conv=>whnf
     exact⟨by rw[hs];rfl,H.trans W.lg⟩
    .have he:mv3 m≠mv3 E:=by simpa using F
     refine⟨I1,?_⟩;refine⟨rfl,k+1,T1,⟨I.trans W,O1,?_⟩,L1⟩;rw[Wf af,map_append,map_cons,map_nil,Zpy,L,Bool.false_or];exact decide_eq_false he
   .have hge:i<=k:=by simpa using F
    obtain rfl:k=i:=O1
    repeat refine⟨rfl,?_⟩
    conv=>whnf
    exact⟨by rw[L];rfl,H⟩
  .have hi1:t.isItem m.ed m.fr=false:=by simpa using F
   conv=>whnf
   intro U3 B _
   repeat refine⟨rfl,?_⟩
   conv=>whnf
   exact⟨by unfold WK.chkMv WK.mvOk;rw[hee.1,hee.2,hi1];rfl,G.trans B.lg⟩
 .have hee:(t.isEd m.ed&&t.isEd (m.ed+1))=false:=Bool.not_inj F;have L:t.mvOk m=false:=by unfold WK.mvOk;rw[<- Bool.and_assoc,hee];rfl
  rw[hee]
  repeat refine⟨rfl,?_⟩
  conv=>whnf
  intro U3 B _
  repeat refine⟨rfl,?_⟩
  conv=>whnf
  exact⟨by unfold WK.chkMv;rw[L];rfl,G.trans B.lg⟩
def Zpq(h:TH)(t:WK)(ht:GK U h t)(i:Nat)(m:YE)(hx:t.kns[i]?=some m) :
  Qb S 52 #[h.v,.int .i64 i] (λ v U'=>v=.int .i64 (t.chkKn m ((t.kns.take i).map kn3))/\U'=U) U:=by
 refine Qb.pure' (Qb.of (args:=[_,_]) Zsc Qf S1 ?_);have aq:=ht.eds.1;have ax:=ht.el;have a1:=ht.kns.1;have az:=ht.kl;have am:i<h.kl:=by have:=(Zz4 hx);omega
 obtain⟨ad,N,vs,ao,L,a2,rfl,-,aw⟩:=ht.kns.at am;obtain rfl:m=N:=by rw[hx]at ao;exact Option.some.inj ao
 repeat refine⟨rfl,?_⟩
 conv=>whnf
 intro b U1 ag hb;have hb:Zi U1 b #[.slice h.ea h.el h.ec,.slice h.ma h.ml h.mc,.slice h.ka h.kl h.kc]:=hb;refine⟨_,hb.sees3 (o:=2) rfl,ad,i,⟨L,rfl,am⟩,[.int .i64 m.ed,.int .i64 m.one,.int .i64 m.two,.int .i64 m.lev],⟨rfl,aw.lg ag.lg⟩,?_⟩
 conv=>whnf
 intro b5 au;refine⟨_,.refl _,rfl,Zv (vs:=[.int .i64 m.ed,.int .i64 m.one,.int .i64 m.two,.int .i64 m.lev]) au rfl Zz1 λ U2 ah w=>?_⟩;have w:Zi U2 b5 #[.int .i64 m.ed,.int .i64 m.one,.int .i64 m.two,.int .i64 m.lev]:=w;have Q:=hb.le ah;have K:=(ag.trans ah).lg;refine⟨_,w.sees3 (o:=0) rfl,_,Q.sees3 (o:=0) rfl,I1,?_⟩;refine⟨.bool (t.isEd m.ed),λ U' ab _=>?_,?_⟩
 .refine⟨x_.any,(Zkn _ _ _ _).mono ?_⟩;rintro _ U''⟨rfl,hU⟩-;exact⟨by unfold WK.isEd;rw[aq],_,.refl _,hU▸.refl _⟩
 repeat refine⟨rfl,?_⟩
 conv=>whnf
 apply Jt<;>intro B
 .have hee:t.isEd m.ed=true:=by simpa using B
  obtain⟨ke,af,ia,il,ic,X,al,aj,an,av⟩:=WK.isEd_at ht hee;have ak:=av.1;have ay:=ht.items_lt m.ed;refine⟨_,w.sees3 (o:=1) rfl,_,Q.sees3 (o:=0) rfl,_,w.sees3 (o:=0) rfl,af,ke,⟨aj,X,al⟩,_,an.lg K,I1,?_⟩;refine⟨.bool (t.isItem m.ed m.one),λ U' ab _=>?_,?_⟩
  .refine⟨x_.any,(Zkn _ _ _ _).mono ?_⟩;rintro _ U''⟨rfl,hU⟩-;exact⟨by rw[<- WK.isItem_btw,ak],_,.refl _,hU▸.refl _⟩
  repeat refine⟨rfl,?_⟩
  conv=>whnf
  apply Jt<;>intro B
  .have hi1:t.isItem m.ed m.one=true:=by simpa using B
   refine⟨_,w.sees3 (o:=2) rfl,_,Q.sees3 (o:=0) rfl,_,w.sees3 (o:=0) rfl,af,ke,⟨aj,X,al⟩,_,an.lg K,I1,?_⟩
   conv=>whnf
   intro U3 F _;have G:=K.trans F.lg;refine⟨x_.any,(Zkn _ _ _ _).go λ _=>?_⟩;rw[show QP m.two 0 ((il:Int)-1)=t.isItem m.ed m.two by rw[<- ak];rfl]
   repeat refine⟨rfl,?_⟩
   conv=>whnf
   apply Qg<;>intro B
   .have Y:t.isItem m.ed m.two=false:=by simpa using B
    repeat refine⟨rfl,?_⟩
    conv=>whnf
    exact⟨by unfold WK.chkKn WK.knOk;rw[hee,hi1,Y];rfl,G⟩
   have Y:t.isItem m.ed m.two=true:=by simpa using B
   have ac:t.knOk m=true:=by unfold WK.knOk;rw[hee,hi1,Y];rfl
   have ai:=Q.le F;have w:=w.le F;refine⟨_,w.sees3 (o:=1) rfl,_,w.sees3 (o:=2) rfl,?_⟩
   repeat refine⟨rfl,?_⟩
   conv=>whnf
   apply Qg<;>intro B
   .have V:¬m.one<m.two:=by simpa using B
    repeat refine⟨rfl,?_⟩
    conv=>whnf
    exact⟨by unfold WK.chkKn;rw[if_pos ac,if_neg V],G⟩
   have V:m.one<m.two:=by simpa using B
   refine⟨_,w.sees3 (o:=3) rfl,x_.any,(Zkn _ _ _ _).go λ _=>?_⟩
   repeat refine⟨rfl,?_⟩
   conv=>whnf
   apply Qg<;>intro B
   .have Z:QP m.lev 1 5=false:=by simpa using B
    repeat refine⟨rfl,?_⟩
    conv=>whnf
    exact⟨by unfold WK.chkKn;rw[if_pos ac,if_pos V,Z];rfl,G⟩
   have Z:QP m.lev 1 5=true:=by simpa using B
   have ae:t.chkKn m ((t.kns.take i).map kn3)=if inS (kn3 m) ((t.kns.take i).map kn3)then 5 else 0:=by unfold WK.chkKn;rw[if_pos ac,if_pos V,if_pos Z];rfl
   rw[ae];refine⟨Nat,λ k=>[(1,.int .i64 i),(2,.pb b),(5,.pb b5),(6,.int .i64 k)],λ k U'=>U3.le U'/\k<=i/\inS (kn3 m) ((t.kns.take k).map kn3)=false,λ k=>i-k,0,T1,⟨.refl _,O1,rfl⟩,?_⟩;rintro k f U4⟨P,hk,W⟩;have I:=ai.le P;have w:=w.le P;have E:=G.trans P.lg
   repeat refine⟨rfl,?_⟩
   conv=>whnf
   apply Qg<;>intro B
   .have hlk:k<i:=by simpa using B
    obtain⟨_,N,vs,ap,e,a0,rfl,-,M⟩:=ht.kns.at (show k<h.kl by omega);rw[L]at e;cases e;have aa:Z9 (k+1):=I1
    have next:∀U':Qa T,U4.le U'->kn3 m≠kn3 N->U3.le U'/\k+1<=i/\inS (kn3 m) ((t.kns.take (k+1)).map kn3)=false:=λ U' ab he=>⟨P.trans ab,O1,by
     rw[Wf ap,map_append,map_cons,map_nil,Zpy,W,Bool.false_or];exact decide_eq_false he⟩
    refine⟨_,I.sees3 (o:=2) rfl,ad,k,⟨L,rfl,O1⟩,_,(M 0 _ rfl).lg E,_,w.sees3 (o:=0) rfl,?_⟩
    repeat refine⟨rfl,?_⟩
    conv=>whnf
    apply Jt<;>intro B
    .have e1:N.ed=m.ed:=by simpa using B
     refine⟨_,I.sees3 (o:=2) rfl,ad,k,⟨L,rfl,O1⟩,_,(M 1 _ rfl).lg E,_,w.sees3 (o:=1) rfl,?_⟩
     repeat refine⟨rfl,?_⟩
     conv=>whnf
     apply Jt<;>intro B
     .have e2:N.one=m.one:=by simpa using B
      refine⟨_,I.sees3 (o:=2) rfl,ad,k,⟨L,rfl,O1⟩,_,(M 2 _ rfl).lg E,_,w.sees3 (o:=2) rfl,?_⟩
      conv=>whnf
      intro U5 H _
      repeat refine⟨rfl,?_⟩
      conv=>whnf
      apply Qg<;>intro B
      .have e3:N.two=m.two:=by simpa using B
       have hs:inS (kn3 m) ((t.kns.take i).map kn3)=true:=
        Zro.2 (mem_map.2 ⟨N,mem_of_getElem? (i:=k) (by rw[getElem?_take,if_pos hlk];exact ap),by unfold kn3;rw[e1,e2,e3]⟩)
       repeat refine⟨rfl,?_⟩
       conv=>whnf
       exact⟨by rw[hs];rfl,E.trans H.lg⟩
      .have e3:N.two≠m.two:=by simpa using B
       refine⟨aa,?_⟩
       conv=>whnf
       exact⟨rfl,k+1,T1,next _ H (λ e=>e3 (by unfold kn3 at e;simp only[Prod.mk.injEq]at e;exact e.2.2.symm)),L1⟩
     .have e2:N.one≠m.one:=by simpa using B
      conv=>whnf
      intro U5 H _
      repeat refine⟨rfl,?_⟩
      refine⟨aa,?_⟩
      conv=>whnf
      exact⟨rfl,k+1,T1,next _ H (λ e=>e2 (by unfold kn3 at e;simp only[Prod.mk.injEq]at e;exact e.2.1.symm)),L1⟩
    .have e1:N.ed≠m.ed:=by simpa using B
     conv=>whnf
     intro U5 H _
     repeat refine⟨rfl,?_⟩
     refine⟨aa,?_⟩
     conv=>whnf
     exact⟨rfl,k+1,T1,next _ H (λ e=>e1 (by unfold kn3 at e;simp only[Prod.mk.injEq]at e;exact e.1.symm)),L1⟩
   .have hge:i<=k:=by simpa using B
    obtain rfl:k=i:=O1
    repeat refine⟨rfl,?_⟩
    conv=>whnf
    exact⟨by rw[W];rfl,E⟩
  .have hi1:t.isItem m.ed m.one=false:=by simpa using B
   conv=>whnf
   intro U3 F _
   repeat refine⟨rfl,?_⟩
   conv=>whnf
   exact⟨by unfold WK.chkKn WK.knOk;rw[hee,hi1];rfl,K.trans F.lg⟩
 .have hee:t.isEd m.ed=false:=by simpa using B
  have W:t.knOk m=false:=by unfold WK.knOk;rw[hee];rfl
  repeat refine⟨rfl,?_⟩
  conv=>whnf
  intro U3 F _
  repeat refine⟨rfl,?_⟩
  conv=>whnf
  exact⟨by unfold WK.chkKn;rw[W];rfl,K.trans F.lg⟩
variable{l:List (List Hv)}{x:List Hv}
def WK.edsF_at(h:l[i]?=some x):Zqh (l.drop i)=if edF x=0 then Zqh (l.drop (i+1))else edF x:=by rw[Hl h,Zqh]
section
def Zop(h:TH)(t:WK)(ht:GK U h t):Qb S 17 #[h.v] (λ v U'=>v=.int .i64 t.flaw/\U'=U) U:=by
 refine Qb.pure' (Qb.of (args:=[_]) Zr5 Qf S1 ?_);have ac:=ht.eds.1;have af:=ht.el;have Z:=ht.mvs.1;have ah:=ht.ml;have Y:=ht.kns.1;have ag:=ht.kl;unfold WK.flaw;rw[WK.chkItems_eq]
 repeat refine⟨rfl,?_⟩
 conv=>whnf
 intro b U1 W hb;have hb:Zi U1 b #[.slice h.ea h.el h.ec,.slice h.ma h.ml h.mc,.slice h.ka h.kl h.kc]:=hb;refine⟨_,hb.sees3 (o:=0) rfl,x_.any,(Zkn _ _ _ _).go λ _=>?_⟩;rw[ac]
 repeat refine⟨rfl,?_⟩
 conv=>whnf
 apply Qg<;>intro E
 .have h1:QP h.el 1 3=false:=by simpa using E
  rw[h1]
  repeat refine⟨rfl,?_⟩
  conv=>whnf
  exact W.lg
 have h1:QP h.el 1 3=true:=by simpa using E
 rw[if_pos h1];refine⟨Nat,λ i=>[(1,.pb b),(3,.int .i64 i)],λ i U'=>U1.le U'/\i<=h.el/\Zqh t.eds=Zqh (t.eds.drop i),λ i=>h.el-i,0,T1,⟨.refl _,O1,rfl⟩,?_⟩;rintro i f U2⟨P,hi,F⟩;have L:=hb.le P;have G:=(W.trans P).lg;refine⟨_,L.sees3 (o:=0) rfl,?_⟩
 repeat refine⟨rfl,?_⟩
 conv=>whnf
 apply Qg<;>intro E
 .have hlt:i<h.el:=by simpa using E
  obtain⟨ad,x,vs,hx,ab,aa,⟨v,rfl,a,len,cap,rfl,hr⟩,-,V⟩:=ht.eds.at hlt;rw[WK.edsF_at hx]at F;refine⟨_,L.sees3 (o:=0) rfl,ad,i,⟨ab,rfl,hlt⟩,[.slice a len cap],⟨rfl,V.lg G⟩,Zsa.any,(Zmx a len cap x (hr.lg G λ _ _ h=>h) (by rw[<- hr.1];exact ht.il x (mem_of_getElem? hx)) (ht.nl x (mem_of_getElem? hx))).go λ _=>?_⟩
  repeat refine⟨rfl,?_⟩
  conv=>whnf
  apply Qg<;>intro E
  .have h2:edF x≠0:=by simpa using E
   rw[if_neg h2]at F
   repeat refine⟨rfl,?_⟩
   conv=>whnf
   exact⟨by rw[F,if_neg h2],G⟩
  .have h2:edF x=0:=by simpa using E
   rw[if_pos h2]at F;refine⟨I1,?_⟩
   conv=>whnf
   exact⟨rfl,i+1,T1,⟨P,O1,F⟩,L1⟩
 have X:h.el<=i:=by simpa using E
 have e0:Zqh t.eds=0:=by rw[F,drop_eq_nil_of_le O1];rfl
 rw[if_pos e0];unfold WK.chkMoves WK.chkKins;refine⟨_,L.sees3 (o:=1) rfl,?_⟩
 repeat refine⟨rfl,?_⟩
 conv=>whnf
 apply Qg<;>intro E
 .have h2:16<t.mvs.length:=by rw[Z];simp at E;omega
  rw[if_pos h2]
  repeat refine⟨rfl,?_⟩
  conv=>whnf
  exact G
 have h2:¬16<t.mvs.length:=by rw[Z];simp at E;omega
 rw[if_neg h2];refine⟨Nat,λ i=>[(1,.pb b),(5,.int .i64 i)],λ i U'=>U2.le U'/\i<=h.ml/\t.chkMvs t.mvs []=t.chkMvs (t.mvs.drop i) ((t.mvs.take i).map mv3),λ i=>h.ml-i,0,T1,⟨.refl _,O1,rfl⟩,?_⟩;rintro j f U3⟨Q,hj,B⟩;have H:=L.le Q;have I:=G.trans Q.lg;refine⟨_,H.sees3 (o:=1) rfl,?_⟩
 repeat refine⟨rfl,?_⟩
 conv=>whnf
 apply Qg<;>intro E
 .have hlt:j<h.ml:=by simpa using E
  obtain⟨ad,x,vs,hx,ae,aa,rfl,-,V⟩:=ht.mvs.at hlt;rw[Hl hx,WK.chkMvs]at B;refine⟨_,⟨rfl,H.rdT λ _ _ h=>h⟩,Zsb.any,(Zn2 h t (ht.lg I) j x hx).go λ _=>?_⟩
  repeat refine⟨rfl,?_⟩
  conv=>whnf
  apply Qg<;>intro E
  .have M:t.chkMv x ((t.mvs.take j).map mv3)≠0:=by simpa using E
   rw[if_neg M]at B
   repeat refine⟨rfl,?_⟩
   conv=>whnf
   exact⟨by rw[B,if_neg M],I⟩
  .have M:t.chkMv x ((t.mvs.take j).map mv3)=0:=by simpa using E
   rw[if_pos M]at B;refine⟨I1,?_⟩
   conv=>whnf
   exact⟨rfl,j+1,T1,⟨Q,O1,by rw[B,Wf hx,map_append];rfl⟩,L1⟩
 have X:h.ml<=j:=by simpa using E
 have e1:t.chkMvs t.mvs []=0:=by rw[B,drop_eq_nil_of_le O1];rfl
 rw[if_pos e1];refine⟨_,H.sees3 (o:=2) rfl,?_⟩
 repeat refine⟨rfl,?_⟩
 conv=>whnf
 apply Qg<;>intro E
 .have M:10<t.kns.length:=by rw[Y];simp at E;omega
  rw[if_pos M]
  repeat refine⟨rfl,?_⟩
  conv=>whnf
  exact I
 have M:¬10<t.kns.length:=by rw[Y];simp at E;omega
 rw[if_neg M];refine⟨Nat,λ i=>[(1,.pb b),(7,.int .i64 i)],λ i U'=>U3.le U'/\i<=h.kl/\t.chkKns t.kns []=t.chkKns (t.kns.drop i) ((t.kns.take i).map kn3),λ i=>h.kl-i,0,T1,⟨.refl _,O1,rfl⟩,?_⟩;rintro k f U4⟨T,hk,w⟩;have N:=H.le T;have K:=I.trans T.lg;refine⟨_,N.sees3 (o:=2) rfl,?_⟩
 repeat refine⟨rfl,?_⟩
 conv=>whnf
 apply Qg<;>intro E
 .have hlt:k<h.kl:=by simpa using E
  obtain⟨ad,x,vs,hx,ae,aa,rfl,-,V⟩:=ht.kns.at hlt;rw[Hl hx,WK.chkKns]at w;refine⟨_,⟨rfl,N.rdT λ _ _ h=>h⟩,Zsc.any,(Zpq h t (ht.lg K) k x hx).go λ _=>?_⟩
  repeat refine⟨rfl,?_⟩
  conv=>whnf
  apply Qg<;>intro E
  .have h4:t.chkKn x ((t.kns.take k).map kn3)≠0:=by simpa using E
   rw[if_neg h4]at w
   repeat refine⟨rfl,?_⟩
   conv=>whnf
   exact⟨by rw[w],K⟩
  .have h4:t.chkKn x ((t.kns.take k).map kn3)=0:=by simpa using E
   rw[if_pos h4]at w;refine⟨I1,?_⟩
   conv=>whnf
   exact⟨rfl,k+1,T1,⟨T,O1,by rw[w,Wf hx,map_append];rfl⟩,L1⟩
 have X:h.kl<=k:=by simpa using E
 have e2:t.chkKns t.kns []=0:=by rw[w,drop_eq_nil_of_le O1];rfl
 rw[e2]
 repeat refine⟨rfl,?_⟩
 conv=>whnf
 exact K
def Zr0(h:TH)(t:WK)(ht:GK U h t):Qb S 16 #[h.v] (λ v U'=>(∃B:Bool,v=.bool B)/\U'=U) U:=by
 refine Qb.pure' (Qb.of (args:=[_]) Zr4 Qf S1 ?_);have V:=ht.eds.1;have P:=ht.el
 repeat refine⟨rfl,?_⟩
 conv=>whnf
 intro b L E hb;have hb:Zi L b #[.slice h.ea h.el h.ec,.slice h.ma h.ml h.mc,.slice h.ka h.kl h.kc]:=hb;have w:∃B:Bool,Value.bool true=.bool B:=⟨true,rfl⟩;have loop:h.el<2^60:=O1
 refine⟨_,hb.sees3 (o:=0) rfl,?_⟩
 repeat refine⟨rfl,?_⟩
 conv=>whnf
 apply Jt<;>intro F
 .refine⟨_,hb.sees3 (o:=1) rfl,?_⟩
  repeat refine⟨rfl,?_⟩
  conv=>whnf
  apply Jt<;>intro F
  .refine⟨_,hb.sees3 (o:=2) rfl,?_⟩
   repeat refine⟨rfl,?_⟩
   conv=>whnf
   apply Qg<;>intro F
   .conv=>whnf
    exact⟨w,E.lg⟩
   refine⟨Nat,λ i=>[(1,.pb b),(3,.int .i64 i)],λ i U'=>U'=L/\i<=h.el,λ i=>h.el-i,0,T1,⟨rfl,O1⟩,?_⟩;rintro i f U'⟨G,hi⟩;obtain rfl:=G.symm;refine⟨_,hb.sees3 (o:=0) rfl,?_⟩
   repeat refine⟨rfl,?_⟩
   conv=>whnf
   apply Qg<;>intro F
   .have hlt:i<h.el:=by simpa using F
    obtain⟨M,x,vs,hx,H,X,⟨v,rfl,a,len,cap,rfl,Q⟩,-,I⟩:=ht.eds.at hlt;have Z:=ht.il x (mem_of_getElem? hx);have W:=Q.1;refine⟨_,hb.sees3 (o:=0) rfl,M,i,⟨H,rfl,hlt⟩,_,(I 0 _ rfl).lg E.lg,?_⟩
    repeat refine⟨rfl,?_⟩
    conv=>whnf
    apply Qg<;>intro F
    .conv=>whnf
     exact⟨w,E.lg⟩
    refine⟨Nat,λ k=>[(1,.pb b),(3,.int .i64 i),(4,.int .i64 k)],λ k U'=>U'=L/\k<=len,λ k=>len-k,0,T1,⟨rfl,O1⟩,?_⟩;rintro k f U'⟨G,hk⟩;obtain rfl:=G.symm;refine⟨_,hb.sees3 (o:=0) rfl,M,i,⟨H,rfl,hlt⟩,_,(I 0 _ rfl).lg E.lg,?_⟩
    repeat refine⟨rfl,?_⟩
    conv=>whnf
    apply Qg<;>intro F
    .have hkt:k<len:=by simpa using F
     obtain⟨N,it,vs,Y,rfl,T,rfl,-,K⟩:=Q.at hkt;refine⟨_,hb.sees3 (o:=0) rfl,M,i,⟨H,rfl,hlt⟩,_,(I 0 _ rfl).lg E.lg,N,k,⟨rfl,rfl,hkt⟩,_,(K 0 _ rfl).lg E.lg,?_⟩
     repeat refine⟨rfl,?_⟩
     conv=>whnf
     apply Qg<;>intro F
     .conv=>whnf
      exact⟨w,E.lg⟩
     .refine⟨I1,?_⟩
      conv=>whnf
      exact⟨rfl,k+1,T1,⟨rfl,O1⟩,L1⟩
    .refine⟨I1,?_⟩
     conv=>whnf
     exact⟨rfl,i+1,T1,⟨rfl,O1⟩,L1⟩
   .conv=>whnf
    exact⟨⟨false,rfl⟩,E.lg⟩
  .have F:decide ((h.ml:Int) > 20)=true:=F;rw[F]
   repeat refine⟨rfl,?_⟩
   conv=>whnf
   exact⟨w,E.lg⟩
 .have F:decide ((h.el:Int) > 20)=true:=F;rw[F]
  repeat refine⟨rfl,?_⟩
  conv=>whnf
  exact⟨w,E.lg⟩
