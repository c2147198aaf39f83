/- Lemmas. No conditions. -/
import Derived.Test.YtnjljnhoaafkiaaGreatDoorC00
import Derived.Test.YtnjljnhoaafkiaaGreatDoorB39
import Derived.Test.YtnjljnhoaafkiaaGreatDoorC02
set_option linter.all false
set_option maxRecDepth 100000
set_option maxHeartbeats 2000000
open List
open Go.Proofs.Tryz (prog)
namespace Go.TM
open Go.Proofs
attribute [local irreducible] Qb Zm Wo
variable{T α:Type}{S:Sys prog T}{U:Qa T}
def Qde(U:Qa T)(n a b:Int):Qb S 60 #[.int .i64 n,.int .i64 a,.int .i64 b] (λ v U'=>v=.bool (QP n a b)/\U'=U) U:=by
 refine Qb.of (args:=[_,_,_]) Qyt Qf S1 ?_
 repeat refine⟨rfl,?_⟩
 conv=>whnf
 apply Jt<;>intro f
 .repeat refine⟨rfl,?_⟩
  conv=>whnf
  grind[QP]
 .repeat refine⟨rfl,?_⟩
  conv=>whnf
  grind[QP]
def Qn9(h:TH)(t:WK)(ht:GK U h t)(n:Int):Qb S 66 #[h.v,.int .i64 n] (λ v U'=>v=.bool (t.isEd n)/\U'=U) U:=by
 refine Qb.pure' (Qb.of (args:=[_,_]) Zm5 Qf S1 ?_);have f:=ht.eds.1;have:=ht.el
 repeat apply R1
 conv=>whnf
 intro b B w hb;refine⟨_,hb.sees3 rfl,I1,?_⟩;refine⟨Qyt.any,(Qde _ _ _ _).mono ?_⟩;rintro v U'⟨rfl,rfl⟩-
 repeat apply R1
 conv=>whnf
 exact⟨by rw[<- f];rfl,w.lg⟩
def Zqc(h:TH)(t:WK)(ht:GK U h t)(n:Int):Qb S 103 #[h.v,.int .i64 n] (λ v U'=>Gt U v (t.items n)/\U'=U) U:=by
 refine Qb.pure' (Qb.of (args:=[_,_]) Zqn Qf S1 ?_);have E:=ht.eds.1;have:=ht.el
 repeat apply R1
 conv=>whnf
 intro b N f hb;refine⟨_,hb.sees3 rfl,I1,?_⟩;refine⟨Qyt.any,(Qde _ _ _ _).mono ?_⟩;rintro v U'⟨rfl,rfl⟩-;have K:QP n 0 ((h.el:Int)-1)=t.isEd n:=by rw[<- E];rfl
 rw[K]
 conv=>whnf
 apply Qg<;>intro G
 .repeat apply R1
  conv=>whnf
  have w:t.isEd n=false:=by simpa using G
  exact⟨⟨none,0,0,rfl,by simp[WK.items,w],λ i x hx=>by grind[WK.items]⟩,f.lg⟩
 .have w:t.isEd n=true:=by simpa using G
  obtain⟨k,rfl,H⟩:∃k:Nat,n=k/\k<h.el:=by
   unfold WK.isEd QP at w;simp only[Bool.and_eq_true,decide_eq_true_eq]at w;exact⟨n.toNat,O1,O1⟩
  obtain⟨I,x,vs,hx,B,M,⟨v,rfl,a,len,cap,rfl,L⟩,-,F⟩:=ht.eds.at H;refine⟨_,hb.sees3 rfl,I,k,⟨B,rfl,H⟩,_,(F 0 _ rfl).lg f.lg,?_⟩
  repeat apply R1
  refine⟨⟨a,len,cap,rfl,?_⟩,f.lg⟩;grind[WK.items]
def Qpx(h:TH)(t:WK)(ht:GK U h t)(e n:Int):Qb S 67 #[h.v,.int .i64 e,.int .i64 n] (λ v U'=>v=.bool (t.isItem e n)/\U'=U) U:=by
 refine Qb.pure' (Qb.of (args:=[_,_,_]) Zlf Qf S1 ?_)
 repeat apply R1
 conv=>whnf
 intro b F w hb;refine⟨_,⟨rfl,hb.rdT λ _ _ h=>h⟩,Zqn.any,(Zqc h t (ht.lg w.lg) e).mono ?_⟩;rintro v U'⟨⟨a,len,cap,rfl,E⟩,rfl⟩-;have f:(t.items e).length=len:=E.1;have B:len<2^60:=by rw[<- f];exact ht.items_lt e
 refine⟨I1,?_⟩;refine⟨Qyt.any,(Qde _ _ _ _).mono ?_⟩;rintro v U'⟨rfl,rfl⟩-
 repeat apply R1
 conv=>whnf
 exact⟨by grind[WK.isItem],w.lg⟩
def Zix(h:TH)(t:WK)(ht:GK U h t)(e:Int)(a:Option Addr)(len cap:Nat)(l:List Int)(hl:Z6 U a len l)(K:len<2^60) :
  Qb S 33 #[h.v,.int .i64 e,.slice a len cap] (λ v U'=>v=.int .i64 (t.chk e none l)/\U'=U) U:=by
 refine Qb.pure' (Qb.of (args:=[_,_,_]) Zpg Qf S1 ?_)
 repeat refine⟨rfl,?_⟩
 conv=>whnf
 intro b N B hb
 refine⟨Nat,λ i=>[(1,.int .i64 e),(2,.slice a len cap),(3,.pb b),(9,.slice a len cap),(10,.int .i64 len),(11,.int .i64 i)],
  λ i U'=>U'=N/\i<=len/\t.chk e none l=t.chk e (if i=0 then none else l[i-1]?) (l.drop i),λ i=>len-i,0,T1,⟨rfl,O1,S1⟩,?_⟩
 rintro i f _⟨rfl,hi,w⟩
 repeat refine⟨rfl,?_⟩
 conv=>whnf
 apply Qg<;>intro E
 .have hlt:i<len:=by simpa using E
  obtain⟨I,x,hx,rfl,T,Q⟩:=hl.at hlt;refine⟨I,i,⟨rfl,rfl,hlt⟩,_,Q.lg B.lg,_,⟨rfl,hb.rdT λ _ _ h=>h⟩,Zlf.any,(Qpx h t (ht.lg B.lg) e x).mono ?_⟩;rintro v U'⟨rfl,rfl⟩-;rw[Hl hx,WK.chk_cons]at w
  conv=>whnf
  apply Qg<;>intro E
  .have h':t.isItem e x=false:=by simpa using E
   repeat refine⟨rfl,?_⟩
   conv=>whnf
   exact⟨by rw[w,h'];rfl,B.lg⟩
  .have h':t.isItem e x=true:=by simpa using E
   rw[if_pos h']at w
   repeat refine⟨rfl,?_⟩
   conv=>whnf
   apply Jt<;>intro E
   .have hpos:0<i:=by simpa using E
    refine⟨I1,?_⟩;obtain⟨P,M,H,F,L,G⟩:=hl.at (show i-1<len by omega);cases F;refine⟨I,i-1,⟨rfl,O1,O1⟩,_,G.lg B.lg,?_⟩
    repeat refine⟨rfl,?_⟩
    conv=>whnf
    rw[if_neg O1,H]at w;apply Qg<;>intro E
    .have hc':x<=M:=by simpa using E
     repeat refine⟨rfl,?_⟩
     conv=>whnf
     exact⟨by rw[w];simp[hc'],B.lg⟩
    .have hc':¬x<=M:=by simpa using E
     refine⟨I1,?_⟩;refine⟨rfl,i+1,T1,⟨rfl,O1,?_⟩,L1⟩;simp_all
   .have hpos:i=0:=by simpa using E
    subst hpos
    repeat refine⟨rfl,?_⟩
    refine⟨I1,?_⟩;refine⟨rfl,1,T1,⟨rfl,O1,?_⟩,L1⟩;rw[w];simp[hx]
 .have hge:len<=i:=by simpa using E
  repeat refine⟨rfl,?_⟩
  refine⟨?_,B.lg⟩;rw[w,drop_eq_nil_of_le (by rw[hl.1];exact hge)];rfl
def Zrg(enc:α->List Value)(a:Option Addr)(len cap:Nat)(l:List α)(E:Q7 U a len 2 l λ x vs=>vs=enc x)(F:len<2^60)(g:FuncId)(first h:Array Value)(p:α->Bool)
  (hf:WXq S U g first h (λ x=>.agg (enc x).toArray) l p):Qb S 107 #[.slice a len cap,.func (.func g) first h] (λ v U'=>v=.int .i64 (XE p l)/\U'=U) U:=by
 refine Qb.of (args:=[_,_]) Zqo Qf S1 ?_;have hl:=E.1
 repeat refine⟨rfl,?_⟩
 refine⟨Nat,λ i=>[(0,.slice a len cap),(1,.func (.func g) first h),(6,.slice a len cap),(7,.int .i64 len),(8,.int .i64 i)],
  λ i U'=>U'=U/\i<=len/\∀x∈l.take i,p x=false,λ i=>len-i,0,T1,⟨rfl,O1,S1⟩,?_⟩
 rintro i f _⟨rfl,hi,b⟩
 repeat refine⟨rfl,?_⟩
 conv=>whnf
 apply Qg<;>intro B
 .have hlt:i<len:=by simpa using B
  obtain⟨G,x,vs,hx,rfl,K,rfl,H,I⟩:=E.at hlt;have w:=hf.2 x (mem_of_getElem? hx);refine⟨G,i,⟨rfl,rfl,hlt⟩,_,⟨H,I⟩,hf.1,w.mono ?_⟩;rintro v U'⟨rfl,rfl⟩-
  conv=>whnf
  apply Qg<;>intro B
  .repeat refine⟨rfl,?_⟩
   conv=>whnf
   exact⟨by rw[VU hx B b],rfl⟩
  .refine⟨I1,?_⟩;refine⟨rfl,i+1,T1,⟨rfl,O1,?_⟩,L1⟩;intro y hy;rw[Wf hx,mem_append]at hy;grind
 .have hge:len<=i:=by simpa using B
  repeat refine⟨rfl,?_⟩
  refine⟨?_,rfl⟩;rw[take_of_length_le O1]at b;rw[VT b]
def Zrf(enc:α->List Value)(a:Option Addr)(len cap:Nat)(l:List α)(E:Q7 U a len 4 l λ x vs=>vs=enc x)(F:len<2^60)(g:FuncId)(first h:Array Value)(p:α->Bool)
  (hf:WXq S U g first h (λ x=>.agg (enc x).toArray) l p):Qb S 98 #[.slice a len cap,.func (.func g) first h] (λ v U'=>v=.int .i64 (XE p l)/\U'=U) U:=by
 refine Qb.of (args:=[_,_]) Zsk Qf S1 ?_;have hl:=E.1
 repeat refine⟨rfl,?_⟩
 refine⟨Nat,λ i=>[(0,.slice a len cap),(1,.func (.func g) first h),(6,.slice a len cap),(7,.int .i64 len),(8,.int .i64 i)],
  λ i U'=>U'=U/\i<=len/\∀x∈l.take i,p x=false,λ i=>len-i,0,T1,⟨rfl,O1,S1⟩,?_⟩
 rintro i f _⟨rfl,hi,b⟩
 repeat refine⟨rfl,?_⟩
 conv=>whnf
 apply Qg<;>intro B
 .have hlt:i<len:=by simpa using B
  obtain⟨G,x,vs,hx,rfl,K,rfl,H,I⟩:=E.at hlt;have w:=hf.2 x (mem_of_getElem? hx);refine⟨G,i,⟨rfl,rfl,hlt⟩,_,⟨H,I⟩,hf.1,w.mono ?_⟩;rintro v U'⟨rfl,rfl⟩-
  conv=>whnf
  apply Qg<;>intro B
  .repeat refine⟨rfl,?_⟩
   conv=>whnf
   exact⟨by rw[VU hx B b],rfl⟩
  .refine⟨I1,?_⟩;refine⟨rfl,i+1,T1,⟨rfl,O1,?_⟩,L1⟩;intro y hy;rw[Wf hx,mem_append]at hy;grind
 .have hge:len<=i:=by simpa using B
  repeat refine⟨rfl,?_⟩
  refine⟨?_,rfl⟩;rw[take_of_length_le O1]at b;rw[VT b]
def Zpz(e:Int)(x y:Int)(k:YE):Bool:=k.ed==e&&(k.one==min x y&&k.two==max x y)
def Zpo(B E h:Nat)(e x y:Int)(G:U.sees ⟨B,0,none⟩ (.int .i64 e))(hx:U.sees ⟨E,0,none⟩ (.int .i64 x))(hy:U.sees ⟨h,0,none⟩ (.int .i64 y))(k:YE) :
  Qb S 99 #[.agg #[.int .i64 k.ed,.int .i64 k.one,.int .i64 k.two,.int .i64 k.lev],.pb B,.pb E,.pb h] (λ v U'=>v=.bool (Zpz e x y k)/\U'=U) U:=by
 refine Qb.pure' (Qb.of (args:=[_,_,_,_]) Zsl Qf S1 ?_)
 repeat refine⟨rfl,?_⟩
 conv=>whnf
 intro b H f hb;refine⟨_,hb.sees3 rfl,_,G.lg f.lg,?_⟩
 repeat refine⟨rfl,?_⟩
 conv=>whnf
 have w:Zpz e x y k=(k.ed==e&&(k.one==min x y&&k.two==max x y)):=rfl;apply Jt<;>intro F
 .refine⟨_,hb.sees3 rfl,_,hx.lg f.lg,_,hy.lg f.lg,?_⟩
  conv=>whnf
  refine Zmr rfl rfl ?_
  repeat refine⟨rfl,?_⟩
  conv=>whnf
  apply Jt<;>intro F
  .refine⟨_,hb.sees3 rfl,_,hx.lg f.lg,_,hy.lg f.lg,?_⟩
   conv=>whnf
   refine Zmq rfl rfl ?_
   repeat refine⟨rfl,?_⟩
   conv=>whnf
   exact⟨by rw[w];simp_all,f.lg⟩
  .repeat refine⟨rfl,?_⟩
   conv=>whnf
   exact⟨by rw[w];simp_all,f.lg⟩
 .repeat refine⟨rfl,?_⟩
  conv=>whnf
  exact⟨by rw[w];simp_all,f.lg⟩
def Zo7(c:UInt8):Qb S 160 #[.int .u8 c.toNat] (λ v U'=>v=.bool (GD c)/\U'=U) U:=by
 refine Qb.of (args:=[_]) Zqt Qf S1 ?_;have b:GD c=((decide ((c.toNat:Int)<97)|| decide ((c.toNat:Int) > 122))&&(decide ((c.toNat:Int)<48)|| decide ((c.toNat:Int) > 57))):=rfl
 repeat refine⟨rfl,?_⟩
 conv=>whnf
 apply Jt<;>intro f
 .repeat refine⟨rfl,?_⟩
  conv=>whnf
  apply Jt<;>intro f
  .repeat refine⟨rfl,?_⟩
   conv=>whnf
   apply Jt<;>intro f
   .repeat refine⟨rfl,?_⟩
    conv=>whnf
    exact⟨by rw[b];first|(simp_all;done)|(simp_all;omega),rfl⟩
   grind
  .repeat refine⟨rfl,?_⟩
   conv=>whnf
   simp_all
 .repeat refine⟨rfl,?_⟩
  conv=>whnf
  apply Jt<;>intro f
  .repeat refine⟨rfl,?_⟩
   conv=>whnf
   simp_all
  .repeat refine⟨rfl,?_⟩
   conv=>whnf
   simp_all
def Znu(a:Option Addr)(len cap:Nat)(l:List UInt8)(hl:l.length=len)(h:∀(i:Nat)x,l[i]?=some x->∃f,a=some f/\f.spot=none/\U.sees (f.add (i*1)) (.int .u8 x.toNat))(b:len<2^60) :
  Qb S 159 #[.slice a len cap,.func (.func 160) #[] #[]] (λ v U'=>v=.bool (l.any GD)/\U'=U) U:=by
 refine Qb.of (args:=[_,_]) FU Qf S1 ?_;refine⟨FV.any,(zF (λ c:UInt8=>.int .u8 c.toNat) a len cap l hl h (λ x=>⟨_,_,rfl⟩) b 160 #[] #[] GD ⟨Zqt.any,λ x _=>Zo7 x⟩).mono ?_⟩;rintro v U'⟨rfl,rfl⟩-
 repeat refine⟨rfl,?_⟩
 refine⟨?_,rfl⟩;show Value.bool _=_;rw[Y9]
def Zti:prog.underlying 135=some (.slice 5):=K1
def Zt3:prog.underlying 5=some (.int .u8):=K1
def Zo4(s:ByteArray)(G:s.size<2^60):Qb S 137 #[.string s] (λ v U'=>v=.bool (Zg s)/\U'=U) U:=by
 refine Qb.pure' (Qb.of (args:=[_]) Zqp Qf S1 ?_);have w:s.size=s.data.toList.length:=by rw[Array.length_toList];rfl
 refine⟨Qyt.any,(Qde _ _ _ _).mono ?_⟩;rintro v U'⟨rfl,rfl⟩-
 conv=>whnf
 apply Jt<;>intro f
 .have hb:QP (s.size:Int) 1 10=true:=by simpa using f
  cases h:s.data.toList with
  |nil=>rw[w,h]at hb;simp[QP]at hb
  |cons c r=>
   have F:Zg s=(!(decide ((c.toNat:Int)<97))&&!(decide ((c.toNat:Int) > 122))&&!((c::r).any GD)):=by unfold Zg;rw[hb,h];rfl
   refine⟨0,c,⟨rfl,M6 h⟩,?_⟩
   repeat refine⟨rfl,?_⟩
   conv=>whnf
   apply Jt<;>intro f
   .have h1:decide ((c.toNat:Int)<97)=false:=by simpa using f
    refine⟨0,c,⟨rfl,M6 h⟩,?_⟩
    repeat refine⟨rfl,?_⟩
    conv=>whnf
    apply Qg<;>intro f
    .repeat refine⟨rfl,?_⟩
     conv=>whnf
     exact⟨by rw[F,f];simp,Qa.le.lg (.refl _)⟩
    .conv=>whnf
     refine xA gZ Zti Zt3 rfl λ b cap cs fr B E=>?_;refine⟨FU.any,(Znu (some ⟨b,0,none⟩) s.size cap (c::r) (by rw[w,h]) (λ i x hx=>⟨_,rfl,rfl,?_⟩) G).mono ?_⟩
     .rw[Qo];refine⟨rfl,.inl ⟨cs,5,fr,.inl (by simp[JD]),?_⟩⟩;have:=E i x (by rw[<- Array.getElem?_toList,h];exact hx);simpa using this
     rintro v U''⟨rfl,rfl⟩-
     repeat refine⟨rfl,?_⟩
     refine⟨?_,(Gv B).lg⟩;simp_all
   .have h1:decide ((c.toNat:Int)<97)=true:=by simpa using f
    repeat refine⟨rfl,?_⟩
    conv=>whnf
    exact⟨by rw[F,h1];rfl,Qa.le.lg (.refl _)⟩
 .have hb:QP (s.size:Int) 1 10=false:=by simpa using f
  repeat refine⟨rfl,?_⟩
  conv=>whnf
  exact⟨by grind[Zg],Qa.le.lg (.refl _)⟩
def WK.lev(t:WK)(e x y:Int):Int:=if x=y then 5 else match t.kns.find? (Zpz e x y)with|some k=>k.lev|none=>0
variable{p:α->Bool}{d:List α}
def Ztq(h:¬XE p d<0):∃i x,XE p d=(i:Nat)/\d[i]?=some x/\d.find? p=some x:=by
 unfold XE at h ⊢;cases hf:d.findIdx? p with
 |none=>simp_all
 |some i=>
  rw[findIdx?_eq_some_iff_getElem]at hf;obtain⟨b,hp,f⟩:=hf;refine⟨i,d[i],rfl,S1,?_⟩;grind[find?_eq_some_iff_getElem]
def Zsu(h:XE p d<0):d.find? p=none:=by
 grind[XE,findIdx?_eq_none_iff,find?_eq_none]
def Zqd(h:TH)(t:WK)(ht:GK U h t)(e x y:Int):Qb S 63 #[h.v,.int .i64 e,.int .i64 x,.int .i64 y] (λ v U'=>v=.int .i64 (t.lev e x y)/\U'=U) U:=by
 refine Qb.pure' (Qb.of (args:=[_,_,_,_]) Zse Qf S1 ?_)
 repeat refine⟨rfl,?_⟩
 conv=>whnf
 intro b1 U1 V b
 conv=>whnf
 intro P U2 I H
 conv=>whnf
 intro Q U3 G f
 conv=>whnf
 intro T U4 B E;have w:U.lg U4:=(((V.trans I).trans G).trans B).lg;have b:=b.le ((I.trans G).trans B);have H:=H.le (G.trans B);have f:=f.le B;refine⟨_,f.sees rfl,_,E.sees rfl,?_⟩
 repeat refine⟨rfl,?_⟩
 conv=>whnf
 apply Qg<;>intro K
 .have hxy:x=y:=by simpa using K
  repeat refine⟨rfl,?_⟩
  conv=>whnf
  grind[WK.lev]
 .have hxy:x≠y:=by simpa using K
  have F:t.lev e x y=match t.kns.find? (Zpz e x y)with|some k=>k.lev|none=>0:=by simp[WK.lev,hxy]
  refine⟨_,b.sees3 rfl,?_⟩;have Z:=ht.kl;rw[ht.kns.1]at Z;refine⟨Zsk.any,(Zrf (λ k:YE=>[.int .i64 k.ed,.int .i64 k.one,.int .i64 k.two,.int .i64 k.lev]) _ _ _ _ (ht.kns.lg w λ _ _ h=>h) Z 99 #[] #[_,_,_] (Zpz e x y) ⟨Zsl.any,λ k _=>Zpo P Q T e x y (H.sees rfl) (f.sees rfl) (E.sees rfl) k⟩).mono ?_⟩;rintro v U'⟨rfl,rfl⟩-
  repeat refine⟨rfl,?_⟩
  conv=>whnf
  apply Qg<;>intro K
  .have hlt:XE (Zpz e x y) t.kns<0:=by simpa using K
   repeat refine⟨rfl,?_⟩
   conv=>whnf
   exact⟨by rw[F,Zsu hlt],w⟩
  .have hlt:¬XE (Zpz e x y) t.kns<0:=by simpa using K
   obtain⟨i,k,hi,M,W⟩:=Ztq hlt;have L:i<h.kl:=by rw[<- ht.kns.1];exact(Zz4 M)
   obtain⟨ad,k',vs,N,X,aa,rfl,-,Y⟩:=ht.kns.at L;cases M.symm.trans N;refine⟨_,b.sees3 rfl,ad,i,⟨X,hi,L⟩,_,(Y 3 _ rfl).lg w,?_⟩
   repeat refine⟨rfl,?_⟩
   conv=>whnf
   simp_all
variable{κ:Type}
def Qp3(s:List κ):List (κ×Value):=s.map λ k=>(k,.bool true)
def Ztd{κ:Type}[DecidableEq κ](k:κ):∀(s:List κ)(i:Nat),(QL k (Qp3 s) i).map (·.2)=if k∈s then some (.bool true)else none
 |[],i=>rfl
 |a::s,i=>by
  simp only[Qp3,map_cons,QL];by_cases e:k=a
  .simp[e]
  .rw[if_neg e];have:=Ztd k s (i+1);grind[Qp3]
def inS{κ:Type}[DecidableEq κ](k:κ)(s:List κ):Bool:=decide (k∈s)
def Zrq{κ:Type}[DecidableEq κ](k:κ)(s:List κ):(lk k (Qp3 s)).getD (.bool false)=.bool (inS k s):=by
 unfold lk inS;rw[Ztd];grind
def Zp6{κ:Type}[DecidableEq κ](k:κ):∀(s:List κ),k∉s->ZA k (.bool true) (Qp3 s)=Qp3 (s++[k])
 |[],_=>rfl
 |a::s,h=>by
  simp only[mem_cons,not_or]at h;simp only[Qp3,map_cons,cons_append,ZA,if_neg h.1];have:=Zp6 k s h.2;grind[Qp3]
def Zru{κ:Type}[DecidableEq κ]{k:κ}{s:List κ}(h:inS k s=false):ZA k (.bool true) (Qp3 s)=Qp3 (s++[k]):=Zp6 k s (by simpa[inS]using h)
def Zm7(e:Int)(it:Hv)(s:List (Int×ByteArray)):Int:=if Zg it.name then(if inS (e,it.name) s then 5 else if QP it.cls 1 45 then 0 else 1)else 4
def Zcf(e:Int):List Hv->List (Int×ByteArray)->Int×List (Int×ByteArray)
 |[],s=>(0,s)
 |it::r,s=>if Zm7 e it s=0 then Zcf e r (s++[(e,it.name)])else(Zm7 e it s,s)
def Zkm:Int->List (List Hv)->List (Int×ByteArray)->Int
 |_,[],_=>0
 |e,l::r,s=>if 8<l.length then 2 else if(Zcf e l s).1=0 then Zkm (e+1) r (Zcf e l s).2 else(Zcf e l s).1
def WK.chkItems(t:WK):Int:=if QP t.eds.length 1 3 then Zkm 0 t.eds []else 2
def Zth:Ge prog 218 (YA prog 218):=.of K1
def Zs4(k:Int×ByteArray):List Value:=[.int .i64 k.1,.string k.2]
def Zpn:WI T prog 218 (λ k=>.agg (Zs4 k).toArray):=by
 refine .struct Zth (λ k=>?_) (λ k k'=>?_) (λ k=>?_)
 .kernel_rfl
 .obtain⟨a,b⟩:=k;obtain⟨c,d⟩:=k';simp only[Zs4,ZF,HY,Lv];grind
 .simp[Instr.sameBits,Zs4,Lv]
def Zqx:prog.underlying 216=some (.map 218 4):=K1
def Zo6:Xb prog 4=some (.bool false):=K1
def Znr(h:TH)(t:WK)(ht:GK U h t):Qb S 100 #[h.v] (λ v U'=>v=.int .i64 t.chkItems/\U'=U) U:=by
 refine Qb.pure' (Qb.of (args:=[_]) Zqk Qf S1 ?_);have af:=ht.eds.1;have au:=ht.el
 repeat refine⟨rfl,?_⟩
 conv=>whnf
 intro b U1 V hb;refine⟨_,hb.sees3 rfl,Qyt.any,(Qde _ _ _ _).mono ?_⟩;rintro v U'⟨rfl,rfl⟩-
 conv=>whnf
 apply Qg<;>intro F
 .have X:QP (h.el:Int) 1 3=false:=by simpa using F
  repeat refine⟨rfl,?_⟩
  conv=>whnf
  exact⟨by grind[WK.chkItems],V.lg⟩
 have X:QP (h.el:Int) 1 3=true:=by simpa using F
 have E:t.chkItems=Zkm 0 t.eds []:=by unfold WK.chkItems;rw[af,X];rfl
 conv=>whnf
 refine P3 (λ k=>.agg (Zs4 k).toArray) λ mb ax=>?_;refine⟨_,Qa.sees.lg (hb.sees3 rfl) (Z2 mb _),Nat×List (Int×ByteArray),λ y=>[(1,.pb b),(3,.map (some mb)),(18,.slice h.ea h.el h.ec),(19,.int .i64 h.el),(20,.int .i64 y.1)],
  λ y U'=>U'.lg U'/\U.lg U'/\U'.M=.obj mb (Qt (λ k=>.agg (Zs4 k).toArray) (Qp3 y.2))::U.M/\y.1<=h.el/\Zkm 0 t.eds []=Zkm y.1 (t.eds.drop y.1) y.2,
  λ y=>h.el-y.1,(0,[]),T1,⟨Qa.le.lg (.refl _),V.lg.trans (Z2 _ _),?_,S1,S1⟩,?_⟩
 .show _::_=_;rw[V.own];rfl
 rintro⟨i,s⟩f U2⟨-,Z,hM,hi,B⟩;simp only at hM hi B
 repeat refine⟨rfl,?_⟩
 conv=>whnf
 apply Qg<;>intro F
 .have hlt:i<h.el:=by simpa using F
  obtain⟨ad,its,vs,hx,al,ay,⟨v,rfl,ia,il,ic,rfl,hr⟩,-,aq⟩:=ht.eds.at hlt;rw[Hl hx,Zkm]at B;refine⟨ad,i,⟨al,rfl,hlt⟩,[_],⟨rfl,aq.lg Z⟩,?_⟩
  conv=>whnf
  intro b5 am;refine⟨_,.refl _,rfl,Zv (vs:=[.slice ia il ic]) am rfl Zz1 λ U3 ab P=>?_⟩;have Q:=Z.trans ab.lg;have ak:U3.M=_:=ab.own.trans hM;have ag:=hr.1;have av:=ht.il its (mem_of_getElem? hx);refine⟨_,P.sees3 (o:=0) rfl,?_⟩
  repeat refine⟨rfl,?_⟩
  conv=>whnf
  apply Qg<;>intro F
  .have I:8<its.length:=by rw[ag];simp at F;omega
   repeat refine⟨rfl,?_⟩
   conv=>whnf
   simp_all
  have I:¬8<its.length:=by rw[ag];simp at F;omega
  rw[if_neg I]at B;refine⟨_,P.sees3 (o:=0) rfl,Nat×List (Int×ByteArray),λ y=>[(1,.pb b),(3,.map (some mb)),(4,.int .i64 i),(18,.slice h.ea h.el h.ec),(19,.int .i64 h.el),(20,.int .i64 i),(30,.slice ia il ic),(31,.int .i64 il),(32,.int .i64 y.1)],
   λ y U'=>U.lg U'/\U'.M=.obj mb (Qt (λ k=>.agg (Zs4 k).toArray) (Qp3 y.2))::U.M/\y.1<=il/\Zcf i its s=Zcf i (its.drop y.1) y.2,
   λ y=>il-y.1,(0,s),T1,⟨Q,ak,S1,S1⟩,?_⟩
  rintro⟨j,N⟩f U4⟨L,T,hj,w⟩;simp only at T hj w
  repeat refine⟨rfl,?_⟩
  conv=>whnf
  apply Qg<;>intro F
  .have hjl:j<il:=by simpa using F
   obtain⟨aj,it,vs,ai,rfl,aw,rfl,-,ah⟩:=hr.at hjl;rw[Hl ai,Zcf]at w;have ap:=ht.nl its (mem_of_getElem? hx) it (mem_of_getElem? ai);refine⟨aj,j,⟨rfl,rfl,hjl⟩,_,⟨rfl,ah.lg L⟩,?_⟩
   conv=>whnf
   intro b7 an;refine⟨_,.refl _,rfl,Zv (vs:=[.string it.name,.int .i64 it.cls]) an rfl Zz1 λ U5 ac H=>?_⟩;refine⟨_,H.sees3 (o:=0) rfl,?_⟩
   conv=>whnf
   intro b8 ao;refine⟨_,.refl _,rfl,Zv (vs:=[.int .i64 i,.string it.name]) ao rfl Zz1 λ U6 W ae=>?_⟩;have H:=H.le W;have G:=L.trans (ac.trans W).lg;have aa:U6.M=_:=(ac.trans W).own.trans T;refine⟨_,H.sees3 (o:=0) rfl,Zqp.any,(Zo4 it.name ap).mono ?_⟩;rintro v U'⟨rfl,rfl⟩-
   conv=>whnf
   apply Qg<;>intro F
   .have hn:Zg it.name=false:=by simpa using F
    repeat refine⟨rfl,?_⟩
    conv=>whnf
    grind[Zm7]
   have hn:Zg it.name=true:=by simpa using F
   refine⟨[.int .i64 i,.string it.name],⟨rfl,ae.rd⟩,?_⟩
   conv=>whnf
   refine Ol (k:=((i:Int),it.name)) Zpn Zqx Zo6 rfl rfl (.inr (by rw[aa];exact mem_cons_self ..)) ?_;rw[Zrq]
   repeat refine⟨rfl,?_⟩
   conv=>whnf
   apply Qg<;>intro F
   .have K:inS ((i:Int),it.name) N=true:=by simpa using F
    repeat refine⟨rfl,?_⟩
    conv=>whnf
    simp_all[Zm7,if_pos]
   have K:inS ((i:Int),it.name) N=false:=by simpa using F
   refine⟨_,H.sees3 (o:=1) rfl,Qyt.any,(Qde _ _ _ _).mono ?_⟩;rintro v U'⟨rfl,rfl⟩-
   conv=>whnf
   apply Qg<;>intro F
   .have Y:QP it.cls 1 45=false:=by simpa using F
    repeat refine⟨rfl,?_⟩
    conv=>whnf
    simp_all[Zm7,if_pos]
   have Y:QP it.cls 1 45=true:=by simpa using F
   have hf:Zm7 i it N=0:=by unfold Zm7;rw[if_pos hn,K,Y];rfl
   rw[if_pos hf]at w;refine⟨[.int .i64 i,.string it.name],⟨rfl,ae.rd⟩,?_⟩
   conv=>whnf
   refine YL (v:=.bool true) (k:=((i:Int),it.name)) (l:=Qp3 N) (M':=.obj mb (Qt (λ k=>.agg (Zs4 k).toArray) (Qp3 (N++[((i:Int),it.name)])))::U.M) Zpn Zqx rfl rfl rfl (by rw[aa,Zru K];exact .here) ?_;refine⟨I1,?_⟩;refine⟨rfl,(j+1,N++[((i:Int),it.name)]),T1,⟨⟨G.imm,⟨[_],rfl⟩,G.tok⟩,rfl,by grind,w⟩,L1⟩
  .have hge:il<=j:=by simpa using F
   rw[drop_eq_nil_of_le O1,Zcf]at w;rw[w,if_pos rfl]at B;refine⟨I1,?_⟩;refine⟨rfl,(i+1,N),T1,⟨Qa.le.lg (.refl _),L,T,by grind,?_⟩,L1⟩;rw[B];simp
 .have hge:h.el<=i:=by simpa using F
  repeat refine⟨rfl,?_⟩
  conv=>whnf
  rw[drop_eq_nil_of_le O1]at B;exact⟨by rw[E,B];rfl,Z⟩
variable{t:WK}{e:Int}
def WK.mvOk(t:WK)(m:YF):Bool:=t.isEd m.ed&&(t.isEd (m.ed+1)&&(t.isItem m.ed m.fr&&t.isItem (m.ed+1) m.to))
def WK.chkMv(t:WK)(m:YF)(s:List (Int×Int×Int)):Int:=if t.mvOk m then(if inS (m.ed,m.fr,m.to) s then 5 else 0)else 6
def WK.chkMvs(t:WK):List YF->List (Int×Int×Int)->Int
 |[],_=>0
 |m::r,s=>if t.chkMv m s=0 then t.chkMvs r (s++[(m.ed,m.fr,m.to)])else t.chkMv m s
def WK.chkMoves(t:WK):Int:=if 16<t.mvs.length then 2 else t.chkMvs t.mvs []
def WK.knOk(t:WK)(k:YE):Bool:=t.isEd k.ed&&(t.isItem k.ed k.one&&t.isItem k.ed k.two)
def WK.chkKn(t:WK)(k:YE)(s:List (Int×Int×Int)):Int:=if t.knOk k then(if k.one<k.two then(if QP k.lev 1 5 then(if inS (k.ed,k.one,k.two) s then 5 else 0)else 1)else 7)else 6
def WK.chkKns(t:WK):List YE->List (Int×Int×Int)->Int
 |[],_=>0
 |k::r,s=>if t.chkKn k s=0 then t.chkKns r (s++[(k.ed,k.one,k.two)])else t.chkKn k s
def WK.chkKins(t:WK):Int:=if 10<t.kns.length then 2 else t.chkKns t.kns []
def WK.flaw(t:WK):Int:=if t.chkItems=0 then(if t.chkMoves=0 then t.chkKins else t.chkMoves)else t.chkItems
def WK.isEd_lt(h:t.isEd e=true):0<=e/\e<t.eds.length:=by
 unfold WK.isEd QP at h;grind
def Zqw:Ge prog 157 (YA prog 157):=.of K1
def Ztk(k:Int×Int×Int):List Value:=[.int .i64 k.1,.int .i64 k.2.1,.int .i64 k.2.2]
def Zpl:WI T prog 157 (λ k=>.agg (Ztk k).toArray):=by
 refine .struct Zqw (λ k=>?_) (λ k k'=>?_) (λ k=>?_)
 .kernel_rfl
 .obtain⟨a,b,c⟩:=k;obtain⟨a',f,c'⟩:=k';simp only[Ztk,ZF,HY];grind
 .simp[Instr.sameBits,Ztk]
def Ztg:Ge prog 159 (YA prog 159):=.of K1
def Ztl(k:Int×Int×Int):List Value:=[.int .i64 k.1,.int .i64 k.2.1,.int .i64 k.2.2,.int .i64 0]
def Zpm:WI T prog 159 (λ k=>.agg (Ztl k).toArray):=by
 refine .struct Ztg (λ k=>?_) (λ k k'=>?_) (λ k=>?_)
 .kernel_rfl
 .obtain⟨a,b,c⟩:=k;obtain⟨a',f,c'⟩:=k';simp only[Ztl,ZF,HY];grind
 .simp[Instr.sameBits,Ztl]
def Zqy:prog.underlying 219=some (.map 157 4):=K1
def Zqz:prog.underlying 220=some (.map 159 4):=K1
def Zns(h:TH)(t:WK)(ht:GK U h t):Qb S 101 #[h.v] (λ v U'=>v=.int .i64 t.chkMoves/\U'=U) U:=by
 refine Qb.pure' (Qb.of (args:=[_]) Zql Qf S1 ?_);have X:=ht.mvs.1;have ag:=ht.ml;have hed:=ht.el
 repeat refine⟨rfl,?_⟩
 conv=>whnf
 intro b Y P hb;refine⟨_,hb.sees3 rfl,?_⟩
 repeat refine⟨rfl,?_⟩
 conv=>whnf
 apply Qg<;>intro F
 .have L:16<t.mvs.length:=by rw[X];simp at F;omega
  repeat refine⟨rfl,?_⟩
  conv=>whnf
  exact⟨by unfold WK.chkMoves;rw[if_pos L],P.lg⟩
 have L:¬16<t.mvs.length:=by rw[X];simp at F;omega
 have G:t.chkMoves=t.chkMvs t.mvs []:=by unfold WK.chkMoves;rw[if_neg L]
 conv=>whnf
 refine P3 (λ k=>.agg (Ztk k).toArray) λ mb af=>?_;refine⟨_,Qa.sees.lg (hb.sees3 rfl) (Z2 mb _),?_⟩;have ae:Y.lg Y:=Qa.le.lg (.refl _)
 refine⟨Nat×List (Int×Int×Int),λ y=>[(1,.pb b),(3,.map (some mb)),(14,.slice h.ma h.ml h.mc),(15,.int .i64 h.ml),(16,.int .i64 y.1)],
  λ y U'=>Y.lg U'/\U.lg U'/\U'.M=.obj mb (Qt (λ k=>.agg (Ztk k).toArray) (Qp3 y.2))::U.M/\y.1<=h.ml/\t.chkMvs t.mvs []=t.chkMvs (t.mvs.drop y.1) y.2,
  λ y=>h.ml-y.1,(0,[]),T1,⟨Z2 _ _,P.lg.trans (Z2 _ _),?_,S1,S1⟩,?_⟩
 .show _::_=_;rw[P.own];rfl
 rintro⟨i,s⟩f U2⟨hg,V,hM,hi,w⟩;simp only at hM hi w
 repeat refine⟨rfl,?_⟩
 conv=>whnf
 apply Qg<;>intro F
 .have hlt:i<h.ml:=by simpa using F
  obtain⟨ad,m,vs,hx,aa,ah,rfl,-,ab⟩:=ht.mvs.at hlt;rw[Hl hx,WK.chkMvs]at w;refine⟨ad,i,⟨aa,rfl,hlt⟩,_,⟨rfl,ab.lg V⟩,?_⟩
  conv=>whnf
  intro b5 Z;refine⟨_,.refl _,rfl,Zv (vs:=[.int .i64 m.ed,.int .i64 m.fr,.int .i64 m.to]) Z rfl Zz1 λ U3 K B=>?_⟩;have E:=V.trans K.lg;have W:U3.M=_:=K.own.trans hM;have I:=hb.lg (hg.trans K.lg);have Q:=ht.lg E;have N:t.mvOk m=(t.isEd m.ed&&(t.isEd (m.ed+1)&&(t.isItem m.ed m.fr&&t.isItem (m.ed+1) m.to))):=rfl;refine⟨[.slice h.ea h.el h.ec,.slice h.ma h.ml h.mc,.slice h.ka h.kl h.kc],⟨rfl,I.rd⟩,?_⟩;refine⟨_,B.sees3 (o:=0) rfl,Zm5.any,(Qn9 h t Q m.ed).mono ?_⟩;rintro v U'⟨rfl,rfl⟩-
  conv=>whnf
  have H:t.mvOk m=false->t.chkMoves=6:=λ hf=>by
   have h6:t.chkMv m s=6:=by unfold WK.chkMv;rw[hf];rfl
   rw[G,w,h6];rfl
  apply Jt<;>intro F
  .have h1:t.isEd m.ed=true:=by simpa using F
   have ac:=WK.isEd_lt h1;refine⟨[.slice h.ea h.el h.ec,.slice h.ma h.ml h.mc,.slice h.ka h.kl h.kc],⟨rfl,I.rd⟩,?_⟩;refine⟨_,B.sees3 (o:=0) rfl,I1,?_⟩;refine⟨Zm5.any,(Qn9 h t Q (m.ed+1)).mono ?_⟩;rintro v U'⟨rfl,rfl⟩-
   conv=>whnf
   apply Jt<;>intro F
   .have h2:t.isEd (m.ed+1)=true:=by simpa using F
    refine⟨[.slice h.ea h.el h.ec,.slice h.ma h.ml h.mc,.slice h.ka h.kl h.kc],⟨rfl,I.rd⟩,?_⟩;refine⟨_,B.sees3 (o:=0) rfl,_,B.sees3 (o:=1) rfl,Zlf.any,(Qpx h t Q m.ed m.fr).mono ?_⟩;rintro v U'⟨rfl,rfl⟩-
    conv=>whnf
    apply Jt<;>intro F
    .have h3:t.isItem m.ed m.fr=true:=by simpa using F
     refine⟨[.slice h.ea h.el h.ec,.slice h.ma h.ml h.mc,.slice h.ka h.kl h.kc],⟨rfl,I.rd⟩,?_⟩;refine⟨_,B.sees3 (o:=0) rfl,I1,?_⟩;refine⟨_,B.sees3 (o:=2) rfl,Zlf.any,(Qpx h t Q (m.ed+1) m.to).mono ?_⟩;rintro v U'⟨rfl,rfl⟩-
     conv=>whnf
     apply Qg<;>intro F
     .repeat refine⟨rfl,?_⟩
      conv=>whnf
      exact⟨by rw[H];rw[N];simp_all,E⟩
     .have h4:t.isItem (m.ed+1) m.to=true:=by simpa using F
      have T:t.mvOk m=true:=by rw[N,h1,h2,h3,h4];rfl
      refine⟨[.int .i64 m.ed,.int .i64 m.fr,.int .i64 m.to],⟨rfl,B.rd⟩,?_⟩
      conv=>whnf
      refine Ol (k:=(m.ed,m.fr,m.to)) Zpl Zqy Zo6 rfl rfl (.inr (by rw[W];exact mem_cons_self ..)) ?_;rw[Zrq]
      repeat refine⟨rfl,?_⟩
      conv=>whnf
      apply Qg<;>intro F
      .repeat refine⟨rfl,?_⟩
       conv=>whnf
       have h5:t.chkMv m s=5:=by unfold WK.chkMv;rw[T,F];rfl
       rw[h5]at w;exact⟨by rw[G,w];rfl,E⟩
      .have hin:=F;have h5:t.chkMv m s=0:=by unfold WK.chkMv;rw[T,F];rfl
       rw[h5,if_pos rfl]at w;refine⟨[.int .i64 m.ed,.int .i64 m.fr,.int .i64 m.to],⟨rfl,B.rd⟩,?_⟩
       conv=>whnf
       refine YL (v:=.bool true) (k:=(m.ed,m.fr,m.to)) (l:=Qp3 s) (M':=.obj mb (Qt (λ k=>.agg (Ztk k).toArray) (Qp3 (s++[(m.ed,m.fr,m.to)])))::U.M) Zpl Zqy rfl rfl rfl (by rw[W,Zru hin];exact .here) ?_;refine⟨I1,?_⟩;refine⟨rfl,(i+1,s++[(m.ed,m.fr,m.to)]),T1,⟨⟨(hg.trans K.lg).imm,⟨[_],by show _::U.M=_;rw[P.own];rfl⟩,(hg.trans K.lg).tok⟩,⟨E.imm,⟨[_],rfl⟩,E.tok⟩,rfl,by show i+1<=h.ml;omega,by rw[w]⟩,L1⟩
    .repeat refine⟨rfl,?_⟩
     conv=>whnf
     exact⟨by rw[H];rw[N];simp_all,E⟩
   .repeat refine⟨rfl,?_⟩
    conv=>whnf
    exact⟨by rw[H];rw[N];simp_all,E⟩
  .repeat refine⟨rfl,?_⟩
   conv=>whnf
   exact⟨by rw[H];rw[N];simp_all,E⟩
 .have hge:h.ml<=i:=by simpa using F
  repeat refine⟨rfl,?_⟩
  conv=>whnf
  rw[drop_eq_nil_of_le O1]at w;exact⟨by rw[G,w];rfl,V⟩
def Zoi(h:TH)(t:WK)(ht:GK U h t):Qb S 102 #[h.v] (λ v U'=>v=.int .i64 t.chkKins/\U'=U) U:=by
 refine Qb.pure' (Qb.of (args:=[_]) Zqm Qf S1 ?_);have aa:=ht.kns.1;have ah:=ht.kl
 repeat refine⟨rfl,?_⟩
 conv=>whnf
 intro b U1 T hb;refine⟨_,hb.sees3 rfl,?_⟩
 repeat refine⟨rfl,?_⟩
 conv=>whnf
 apply Qg<;>intro G
 .have Q:10<t.kns.length:=by rw[aa];simp at G;omega
  repeat refine⟨rfl,?_⟩
  conv=>whnf
  exact⟨by unfold WK.chkKins;rw[if_pos Q],T.lg⟩
 have Q:¬10<t.kns.length:=by rw[aa];simp at G;omega
 have F:t.chkKins=t.chkKns t.kns []:=by unfold WK.chkKins;rw[if_neg Q]
 conv=>whnf
 refine P3 (λ k=>.agg (Ztl k).toArray) λ mb ag=>?_;refine⟨_,Qa.sees.lg (hb.sees3 rfl) (Z2 mb _),Nat×List (Int×Int×Int),λ y=>[(1,.pb b),(3,.map (some mb)),(15,.slice h.ka h.kl h.kc),(16,.int .i64 h.kl),(17,.int .i64 y.1)],
  λ y U'=>U1.lg U'/\U.lg U'/\U'.M=.obj mb (Qt (λ k=>.agg (Ztl k).toArray) (Qp3 y.2))::U.M/\y.1<=h.kl/\t.chkKns t.kns []=t.chkKns (t.kns.drop y.1) y.2,
  λ y=>h.kl-y.1,(0,[]),T1,⟨Z2 _ _,T.lg.trans (Z2 _ _),?_,S1,S1⟩,?_⟩
 .show _::_=_;rw[T.own];rfl
 rintro⟨i,s⟩f U2⟨hg,X,hM,hi,w⟩;simp only at hM hi w
 repeat refine⟨rfl,?_⟩
 conv=>whnf
 apply Qg<;>intro G
 .have hlt:i<h.kl:=by simpa using G
  obtain⟨ad,m,vs,hx,ae,ai,rfl,-,af⟩:=ht.kns.at hlt;rw[Hl hx,WK.chkKns]at w;refine⟨ad,i,⟨ae,rfl,hlt⟩,_,⟨rfl,af.lg X⟩,?_⟩
  conv=>whnf
  intro b5 ab;refine⟨_,.refl _,rfl,Zv (vs:=[.int .i64 m.ed,.int .i64 m.one,.int .i64 m.two,.int .i64 m.lev]) ab rfl Zz1 λ U3 N B=>?_⟩;refine⟨[.int .i64 m.ed,.int .i64 m.one,.int .i64 m.two,.int .i64 m.lev],⟨rfl,B.rd⟩,?_⟩
  conv=>whnf
  intro b6 ac;refine⟨_,.refl _,rfl,HO (vs:=[.int .i64 m.ed,.int .i64 m.one,.int .i64 m.two,.int .i64 m.lev]) rfl Zz1 ?_⟩;refine⟨rfl,vy (i:=3) ac S1 rfl λ U4 K V=>?_⟩;have V:Zi U4 b6 #[.int .i64 m.ed,.int .i64 m.one,.int .i64 m.two,.int .i64 0]:=V;have B:=B.le K;have E:=X.trans (N.trans K).lg;have Z:U4.M=_:=(N.trans K).own.trans hM;have P:=hb.lg (hg.trans (N.trans K).lg);have Y:=ht.lg E;have W:t.knOk m=(t.isEd m.ed&&(t.isItem m.ed m.one&&t.isItem m.ed m.two)):=rfl;refine⟨[.slice h.ea h.el h.ec,.slice h.ma h.ml h.mc,.slice h.ka h.kl h.kc],⟨rfl,P.rd⟩,?_⟩;refine⟨_,B.sees3 (o:=0) rfl,Zm5.any,(Qn9 h t Y m.ed).mono ?_⟩;rintro v U'⟨rfl,rfl⟩-
  conv=>whnf
  have L:t.knOk m=false->t.chkKins=6:=λ hf=>by
   have h6:t.chkKn m s=6:=by unfold WK.chkKn;rw[hf];rfl
   rw[F,w,h6];rfl
  apply Jt<;>intro G
  .have h1:t.isEd m.ed=true:=by simpa using G
   refine⟨[.slice h.ea h.el h.ec,.slice h.ma h.ml h.mc,.slice h.ka h.kl h.kc],⟨rfl,P.rd⟩,?_⟩;refine⟨_,B.sees3 (o:=0) rfl,_,B.sees3 (o:=1) rfl,Zlf.any,(Qpx h t Y m.ed m.one).mono ?_⟩;rintro v U'⟨rfl,rfl⟩-
   conv=>whnf
   apply Jt<;>intro G
   .have h2:t.isItem m.ed m.one=true:=by simpa using G
    refine⟨[.slice h.ea h.el h.ec,.slice h.ma h.ml h.mc,.slice h.ka h.kl h.kc],⟨rfl,P.rd⟩,?_⟩;refine⟨_,B.sees3 (o:=0) rfl,_,B.sees3 (o:=2) rfl,Zlf.any,(Qpx h t Y m.ed m.two).mono ?_⟩;rintro v U'⟨rfl,rfl⟩-
    conv=>whnf
    apply Qg<;>intro G
    .repeat refine⟨rfl,?_⟩
     conv=>whnf
     exact⟨by rw[L];rw[W];simp_all,E⟩
    .have h4:t.isItem m.ed m.two=true:=by simpa using G
     have I:t.knOk m=true:=by rw[W,h1,h2,h4];rfl
     refine⟨_,B.sees3 (o:=1) rfl,_,B.sees3 (o:=2) rfl,?_⟩
     repeat refine⟨rfl,?_⟩
     conv=>whnf
     apply Qg<;>intro G
     .have H:¬m.one<m.two:=by simp at G;omega
      repeat refine⟨rfl,?_⟩
      conv=>whnf
      have h5:t.chkKn m s=7:=by unfold WK.chkKn;rw[I];simp[H]
      rw[h5]at w;exact⟨by rw[F,w];rfl,E⟩
     have H:m.one<m.two:=by simp at G;omega
     refine⟨_,B.sees3 (o:=3) rfl,Qyt.any,(Qde _ _ _ _).mono ?_⟩;rintro v U'⟨rfl,rfl⟩-
     conv=>whnf
     apply Qg<;>intro G
     .have hl:QP m.lev 1 5=false:=by simpa using G
      repeat refine⟨rfl,?_⟩
      conv=>whnf
      have h5:t.chkKn m s=1:=by unfold WK.chkKn;rw[I,if_pos H,hl];rfl
      rw[h5]at w;exact⟨by rw[F,w];rfl,E⟩
     have hl:QP m.lev 1 5=true:=by simpa using G
     refine⟨[.int .i64 m.ed,.int .i64 m.one,.int .i64 m.two,.int .i64 0],⟨rfl,V.rd⟩,?_⟩
     conv=>whnf
     refine Ol (k:=(m.ed,m.one,m.two)) Zpm Zqz Zo6 rfl rfl (.inr (by rw[Z];exact mem_cons_self ..)) ?_;rw[Zrq]
     repeat refine⟨rfl,?_⟩
     conv=>whnf
     apply Qg<;>intro G
     .repeat refine⟨rfl,?_⟩
      conv=>whnf
      have h5:t.chkKn m s=5:=by unfold WK.chkKn;rw[I,if_pos H,hl,G];rfl
      rw[h5]at w;exact⟨by rw[F,w];rfl,E⟩
     .have hin:=G;have h5:t.chkKn m s=0:=by unfold WK.chkKn;rw[I,if_pos H,hl,G];rfl
      rw[h5,if_pos rfl]at w;refine⟨[.int .i64 m.ed,.int .i64 m.one,.int .i64 m.two,.int .i64 0],⟨rfl,V.rd⟩,?_⟩
      conv=>whnf
      refine YL (v:=.bool true) (k:=(m.ed,m.one,m.two)) (l:=Qp3 s) (M':=.obj mb (Qt (λ k=>.agg (Ztl k).toArray) (Qp3 (s++[(m.ed,m.one,m.two)])))::U.M) Zpm Zqz rfl rfl rfl (by rw[Z,Zru hin];exact .here) ?_;refine⟨I1,?_⟩;refine⟨rfl,(i+1,s++[(m.ed,m.one,m.two)]),T1,⟨⟨(hg.trans (N.trans K).lg).imm,⟨[_],by show _::U.M=_;rw[T.own];rfl⟩,(hg.trans (N.trans K).lg).tok⟩,⟨E.imm,⟨[_],rfl⟩,E.tok⟩,rfl,by show i+1<=h.kl;omega,by rw[w]⟩,L1⟩
   .repeat refine⟨rfl,?_⟩
    conv=>whnf
    exact⟨by rw[L];rw[W];simp_all,E⟩
  .repeat refine⟨rfl,?_⟩
   conv=>whnf
   exact⟨by rw[L];rw[W];simp_all,E⟩
 .have hge:h.kl<=i:=by simpa using G
  repeat refine⟨rfl,?_⟩
  conv=>whnf
  rw[drop_eq_nil_of_le O1]at w;exact⟨by rw[F,w];rfl,X⟩
def Znt(h:TH)(t:WK)(ht:GK U h t):Qb S 65 #[h.v] (λ v U'=>v=.int .i64 t.flaw/\U'=U) U:=by
 refine Qb.pure' (Qb.of (args:=[_]) Zsf Qf S1 ?_)
 repeat refine⟨rfl,?_⟩
 conv=>whnf
 intro b X L hb;refine⟨[.slice h.ea h.el h.ec,.slice h.ma h.ml h.mc,.slice h.ka h.kl h.kc],⟨rfl,hb.rd⟩,?_⟩
 conv=>whnf
 intro V P;refine⟨_,.refl _,rfl,Zv (vs:=[.slice h.ea h.el h.ec,.slice h.ma h.ml h.mc,.slice h.ka h.kl h.kc]) P rfl Zz1 λ T M H=>?_⟩;have F:Je T ⟨V,0,none⟩ [.slice h.ea h.el h.ec,.slice h.ma h.ml h.mc,.slice h.ka h.kl h.kc]:=H.rd;refine⟨_,⟨rfl,F⟩,_,⟨rfl,F⟩,_,⟨rfl,F⟩,?_⟩
 conv=>whnf
 intro K Q;refine Zl Q λ I N w=>?_;have w:Zi I K #[.func (.func 100) #[h.v] #[],.func (.func 101) #[h.v] #[],.func (.func 102) #[h.v] #[]]:=w;have E:U.lg I:=(L.trans (M.trans N)).lg;have G:=ht.lg E
 refine⟨Nat,λ i=>[(15,.slice (some ⟨K,0,none⟩) 3 3),(16,.int .i64 3),(17,.int .i64 i)],λ i U'=>U'=I/\i<=3/\(0<i->t.chkItems=0)/\(1<i->t.chkMoves=0)/\(2<i->t.chkKins=0),λ i=>3-i,0,T1,
  ⟨rfl,O1,λ h=>O1,λ h=>O1,λ h=>O1⟩,?_⟩
 rintro i f _⟨rfl,hi,h1,h2,W⟩
 repeat refine⟨rfl,?_⟩
 conv=>whnf
 apply Qg<;>intro B
 .have hlt:i<3:=by simp at B;omega
  refine⟨⟨K,0,none⟩,i,⟨rfl,rfl,hlt⟩,?_⟩
  conv=>whnf
  obtain rfl|rfl|rfl:i=0\/i=1\/i=2:=O1
  .refine⟨_,w.sees3 (o:=0*1) rfl,Zqk.any,(Znr h t G).mono ?_⟩;rintro v U'⟨rfl,rfl⟩-
   repeat refine⟨rfl,?_⟩
   conv=>whnf
   apply Qg<;>intro B
   .have hn:t.chkItems≠0:=by simpa using B
    repeat refine⟨rfl,?_⟩
    conv=>whnf
    simp_all[WK.flaw,if_neg]
   .have hn:t.chkItems=0:=by simpa using B
    refine⟨I1,?_⟩
    conv=>whnf
    exact⟨rfl,1,T1,⟨rfl,O1,λ _=>hn,λ h=>O1,λ h=>O1⟩,by simp_all⟩
  .refine⟨_,w.sees3 (o:=1*1) rfl,Zql.any,(Zns h t G).mono ?_⟩;rintro v U'⟨rfl,rfl⟩-
   repeat refine⟨rfl,?_⟩
   conv=>whnf
   apply Qg<;>intro B
   .have hn:t.chkMoves≠0:=by simpa using B
    repeat refine⟨rfl,?_⟩
    conv=>whnf
    simp_all[WK.flaw,if_pos,O1,if_neg]
   .have hn:t.chkMoves=0:=by simpa using B
    refine⟨I1,?_⟩
    conv=>whnf
    exact⟨rfl,2,T1,⟨rfl,O1,λ _=>h1 O1,λ _=>hn,λ h=>O1⟩,by simp_all⟩
  .refine⟨_,w.sees3 (o:=2*1) rfl,Zqm.any,(Zoi h t G).mono ?_⟩;rintro v U'⟨rfl,rfl⟩-
   repeat refine⟨rfl,?_⟩
   conv=>whnf
   apply Qg<;>intro B
   .have hn:t.chkKins≠0:=by simpa using B
    repeat refine⟨rfl,?_⟩
    conv=>whnf
    simp_all[WK.flaw,if_pos,O1]
   .have hn:t.chkKins=0:=by simpa using B
    refine⟨I1,?_⟩
    conv=>whnf
    exact⟨rfl,3,T1,⟨rfl,O1,λ _=>h1 O1,λ _=>h2 O1,λ _=>hn⟩,by simp_all⟩
 .have hge:i=3:=by simp at B;omega
  subst hge
  repeat refine⟨rfl,?_⟩
  conv=>whnf
  simp_all[WK.flaw,if_pos,O1]
def WK.chkAll(t:WK)(e:Int):List (List Int)->Int
 |[]=>0
 |l::r=>if t.chk e none l=0 then t.chkAll e r else t.chk e none l
def WK.openF(t:WK)(e:Int)(b:List (List Int)):Int:=if t.flaw=0 then(if t.isEd e then t.chkAll e b else 6)else t.flaw
def Zn7(h:TH)(t:WK)(ht:GK U h t)(e:Int)(a:Option Addr)(len cap:Nat)(N:List (List Int))(hl:Wx U a len N)(ac:len<2^60) :
  Qb S 32 #[h.v,.int .i64 e,.slice a len cap] (λ v U'=>v=.tuple #[h.v,.int .i64 (t.openF e N)]/\U'=U) U:=by
 refine Qb.pure' (Qb.of (args:=[_,_,_]) Zpf Qf S1 ?_);have af:=hl.1
 repeat refine⟨rfl,?_⟩
 conv=>whnf
 intro b1 U1 P H
 conv=>whnf
 intro L ae;refine⟨_,.refl _,[.slice h.ea h.el h.ec,.slice h.ma h.ml h.mc,.slice h.ka h.kl h.kc],⟨rfl,(H.lg (Z2 L _)).rd⟩,?_⟩
 conv=>whnf
 intro b8 aa;refine⟨_,.refl _,rfl,Zv (vs:=[.slice h.ea h.el h.ec,.slice h.ma h.ml h.mc,.slice h.ka h.kl h.kc]) aa rfl Zz1 λ K I Y=>?_⟩;have G:U.lg K:=P.lg.trans ((Z2 L _).trans I.lg);have W:K.M=.obj L (.cells #[.nl,.nl,.nl] 80 (0,0))::U.M:=by rw[I.own];show _::U1.M=_;rw[P.own]
 have F:=ht.lg G;have B:Je K ⟨b8,0,none⟩ [.slice h.ea h.el h.ec,.slice h.ma h.ml h.mc,.slice h.ka h.kl h.kc]:=Y.rd;have V:Je K ⟨b1,0,none⟩ [.slice h.ea h.el h.ec,.slice h.ma h.ml h.mc,.slice h.ka h.kl h.kc]:=(H.lg ((Z2 L _).trans I.lg)).rd;have w:∀o,U.lg { K with M:=.obj L o::U.M }:=λ o=>⟨G.imm,⟨[_],rfl⟩,G.tok⟩;refine⟨_,⟨rfl,V⟩,Zsf.any,(Znt h t F).go λ _=>?_⟩
 repeat refine⟨rfl,?_⟩
 conv=>whnf
 apply Qg<;>intro E
 .have hf:t.flaw≠0:=by simpa using E
  refine⟨_,⟨rfl,B⟩,rfl,Zms (vs:=[.slice h.ea h.el h.ec,.slice h.ma h.ml h.mc,.slice h.ka h.kl h.kc]) W rfl Zz1 ?_⟩;refine⟨_,⟨rfl,Zkv⟩,?_⟩
  conv=>whnf
  exact⟨by unfold WK.openF;rw[if_neg hf];rfl,w _⟩
 have hf:t.flaw=0:=by simpa using E
 have X:t.openF e N=if t.isEd e then t.chkAll e N else 6:=by unfold WK.openF;rw[if_pos hf]
 refine⟨_,⟨rfl,B⟩,Zm5.any,(Qn9 h t F e).go λ _=>?_⟩
 conv=>whnf
 apply Qg<;>intro E
 .have Z:t.isEd e=false:=by simpa using E
  refine⟨_,⟨rfl,B⟩,rfl,Zms (vs:=[.slice h.ea h.el h.ec,.slice h.ma h.ml h.mc,.slice h.ka h.kl h.kc]) W rfl Zz1 ?_⟩;refine⟨_,⟨rfl,Zkv⟩,?_⟩
  conv=>whnf
  exact⟨by rw[X,Z];rfl,w _⟩
 have Z:t.isEd e=true:=by simpa using E
 rw[if_pos Z]at X;have Q:=hl.lg G
 refine⟨Nat,λ i=>[(1,.int .i64 e),(6,.pb L),(8,.pb b8),(26,.slice a len cap),(27,.int .i64 len),(28,.int .i64 i)],
  λ i U'=>K=U'/\i<=len/\t.chkAll e N=t.chkAll e (N.drop i),λ i=>len-i,0,T1,⟨rfl,O1,S1⟩,?_⟩
 rintro i f _⟨rfl,hi,b⟩
 repeat refine⟨rfl,?_⟩
 conv=>whnf
 apply Qg<;>intro E
 .have hlt:i<len:=by simpa using E
  obtain⟨ad,l,vs,hx,rfl,ag,⟨a',l',c',rfl,ab,T⟩,-,hr⟩:=Q7.at Q hlt;rw[Hl hx,WK.chkAll]at b;refine⟨ad,i,⟨rfl,rfl,hlt⟩,_,hr 0 _ rfl,_,⟨rfl,B⟩,Zpg.any,(Zix h t F e a' l' c' l ab T).go λ _=>?_⟩
  repeat refine⟨rfl,?_⟩
  conv=>whnf
  apply Qg<;>intro E
  .have hn:t.chk e none l≠0:=by simpa using E
   refine⟨_,⟨rfl,B⟩,rfl,Zms (vs:=[.slice h.ea h.el h.ec,.slice h.ma h.ml h.mc,.slice h.ka h.kl h.kc]) W rfl Zz1 ?_⟩;refine⟨_,⟨rfl,Zkv⟩,?_⟩
   conv=>whnf
   exact⟨by rw[X,b,if_neg hn];rfl,w _⟩
  .have hn:t.chk e none l=0:=by simpa using E
   refine⟨I1,?_⟩;refine⟨rfl,i+1,T1,⟨rfl,O1,by rw[b,if_pos hn]⟩,L1⟩
 .have hge:len<=i:=by simpa using E
  rw[drop_eq_nil_of_le O1]at b;refine⟨_,⟨rfl,B⟩,rfl,Zms (vs:=[.slice h.ea h.el h.ec,.slice h.ma h.ml h.mc,.slice h.ka h.kl h.kc]) W rfl Zz1 ?_⟩;refine⟨_,⟨rfl,Zkv⟩,?_⟩
  conv=>whnf
  exact⟨by rw[X,b];rfl,w _⟩
variable{i:Nat}{w:α}{F:Int}
def Qam(p:Int×Int):List Value:=[.int .i64 p.1,.int .i64 p.2]
def Ztm(h:d[i]?=some w)(hf:p w=true):(d.filter p)[((d.take i).filter p).length]?=some w:=by
 have e:d=d.take i++w::d.drop (i+1):=by rw[<- Hl h,take_append_drop]
 grind
def WK.flaw_0(h:t.flaw=0):t.chkItems=0/\t.chkMoves=0/\t.chkKins=0:=by
 grind[WK.flaw,absurd]
def Zps:∀{b:List (List Hv)}{e:Int}{s:List (Int×ByteArray)},Zkm e b s=0->∀l∈b,l.length<=8
 |[],_,_,_,_,h=>by cases h
 |l::r,e,s,h,x,hx=>by
  unfold Zkm at h;split at h
  .cases h
  .split at h
   .rcases mem_cons.1 hx with rfl|hx
    .omega
    .exact Zps h x hx
   simp_all
def WK.flaw_eds(h:t.flaw=0):1<=t.eds.length/\t.eds.length<=3/\∀l∈t.eds,l.length<=8:=by
 have:=(WK.flaw_0 h).1;unfold WK.chkItems at this;split at this
 .rename_i hb;unfold QP at hb;simp only[Bool.and_eq_true,decide_eq_true_eq]at hb;exact⟨O1,O1,Zps this⟩
 .cases this
def WK.item_lt(h:t.flaw=0)(b:t.isItem e F=true):0<=F/\F<8:=by
 unfold WK.isItem QP at b;simp only[Bool.and_eq_true,decide_eq_true_eq]at b
 have:(t.items e).length<=8:=by
  unfold WK.items;split
  .rw[getD_eq_getElem?_getD];cases hx:t.eds[e.toNat]? with
   |none=>simp
   |some l=>exact(WK.flaw_eds h).2.2 l (mem_of_getElem? hx)
  .simp
 omega
def Zpx(p:α->Bool)(l:List α):(XE p l = -1/\∀x∈l,p x=false)\/∃(i:Nat)(x:α),XE p l=i/\l[i]?=some x/\p x=true/\∀y∈l.take i,p y=false:=by
 unfold XE;cases h:l.findIdx? p with
 |none=>simp_all
 |some i=>
  rw[findIdx?_eq_some_iff_getElem]at h;obtain⟨f,hp,w⟩:=h;refine .inr ⟨i,l[i],rfl,S1,hp,λ y hy=>?_⟩;obtain⟨k,b,rfl⟩:=mem_iff_getElem.1 hy;grind
def Znv(v:Value)(l:List Int)(M₀:List Qw)(ha:Acc 3 1 v (l.map λ n=>.int .i64 n) U.M M₀)(ah:l.length<=1000000)(g:FuncId)(first E:Array Value)(p:Int->Bool)
  (hg:(prog.funcs[g]?.any λ fd=>fd.body.isSome&&fd.name != "runtime.NumGoroutine")=true)
  (L:∀V,U.frz.lg V->∀n∈l,Qb S g (first.toList++[Value.int .i64 n]++E.toList).toArray (λ v U'=>v=.bool (p n)/\U'=V) V) :
  Qb S 35 #[v,.func (.func g) first E] (λ v' U'=>Acc 3 1 v' ((l.filter λ n=>!p n).map λ n=>.int .i64 n) U'.M M₀/\(∀x o,U.I x=some o->U'.I x=some o)/\U'.tok=U.tok) U:=by
 obtain⟨sa,sc,rfl,af⟩:=SF ha;refine Qb.of (args:=[_,_]) Zr6 Qf S1 ?_;refine⟨UT.any,(zG (λ n=>.int .i64 n) sa l.length sc l rfl af.2 (λ x=>⟨_,_,rfl⟩) O1 g first E p ⟨hg,λ n hn=>L U Qr n hn⟩).go λ _=>?_⟩;rcases Zpx p l with⟨hi,P⟩|⟨i0,x0,hi,T,ag,P⟩
 .rw[hi]
  repeat refine⟨rfl,?_⟩
  refine⟨?_,λ _ _ h=>h,rfl⟩;rw[filter_eq_self.2 λ n hn=>by simp[P n hn]];exact ha
 .have hi_0:i0<l.length:=(Zz4 T);rcases ha with⟨h1,h2,_⟩|⟨b,c,len,cap,h1,h2,h3,h4,hM,h5⟩
  .rw[map_eq_nil_iff]at h2;subst h2;simp at T
  simp at h2;subst h2;cases h1;rw[hi]
  repeat refine⟨rfl,?_⟩
  refine⟨I1,?_⟩
  refine⟨Nat×Nat×Array Value,λ y=>[(0,.slice (some ⟨b,0,none⟩) l.length sc),(1,.func (.func g) first E),(5,.int .i64 y.2.1),(6,.int .i64 y.1)],
   λ y U'=>(∀x o,U.I x=some o->U'.I x=some o)/\U'.tok=U.tok/\U'.M=.obj b (.cells y.2.2 3 (0,0))::M₀/\y.2.2.size=sc/\y.1<=l.length/\y.2.1<y.1/\((l.take y.1).filter λ n=>!p n).length=y.2.1 /\
    (∀(k:Nat)(x:Int),((l.take y.1).filter λ n=>!p n)[k]?=some x->y.2.2[k]?=some (.int .i64 x))/\(∀(k:Nat)(x:Int),y.1<=k->l[k]?=some x->y.2.2[k]?=some (.int .i64 x)),
   λ y=>l.length-y.1,(i0+1,i0,c),T1,?_,?_⟩
  .have W:(l.take (i0+1)).filter (λ n=>!p n)=l.take i0:=by
    rw[Wf T,filter_append,filter_eq_self.2 λ n hn=>by simp[P n hn]];simp[ag]
   refine⟨λ _ _ h=>h,rfl,hM,by show c.size=sc;omega,Zz2,Zz2,by simp only[W];simp;omega,λ k x hx=>?_,λ k x _ hx=>h5 k _ (by simp[hx])⟩;grind
  rintro⟨j,i,c'⟩f V⟨hI,ht,B,Q,hj,ad,F,G,K⟩;simp only at B Q hj ad F G K;have aa:U.frz.lg V:=⟨hI,Zz3,ht⟩
  repeat refine⟨rfl,?_⟩
  conv=>whnf
  apply Qg<;>intro Y
  .have hlt:j<l.length:=by simpa using Y
   have hx:l[j]?=some (l[j]'hlt):=S1
   generalize l[j]'hlt=x at hx;have Z:Z9 (j+1):=I1
   have ae:Z9 (i+1):=I1
   refine⟨_,j,⟨rfl,rfl,hlt⟩,.int .i64 x,?_,?_⟩
   .rw[Nat.mul_one,Qo];exact⟨rfl,.inl ⟨c',3,(0,0),.inr (by simp_all),by simp_all⟩⟩
   refine⟨hg,(L V aa x (mem_of_getElem? hx)).go λ _=>?_⟩
   repeat refine⟨rfl,?_⟩
   conv=>whnf
   apply Qg<;>intro Y
   .have hp:p x=false:=by simpa using Y
    have H:(l.take (j+1)).filter (λ n=>!p n)=(l.take j).filter (λ n=>!p n)++[x]:=by
     rw[Wf hx,filter_append];simp[hp]
    refine⟨_,i,⟨rfl,rfl,O1⟩,rfl,?_⟩;show QX ((Addr.mk b 0 none).add (i*1)) [.int .i64 x] 0 _ _;rw[Nat.mul_one];refine G_ [] B O1 rfl ?_;refine⟨ae,Z,rfl,(j+1,i+1,c'.setIfInBounds i (.int .i64 x)),T1,⟨hI,ht,rfl,by simpa using Q,Zz2,Zz2,by simp only[H];simp[F],λ k y hy=>?_,λ k y W hy=>?_⟩,L1⟩
    .simp only[H]at hy;by_cases e:k<i
     .rw[getElem?_append_left O1]at hy;rw[Array.getElem?_setIfInBounds_ne O1];exact G k y hy
     .rw[getElem?_append_right O1,F]at hy
      have:k=i:=by
       have:=(Zz4 hy);simp at this;omega
      subst this;simp at hy;subst hy;rw[Array.getElem?_setIfInBounds_self_of_lt O1]
    grind
   .have hp:p x=true:=by simpa using Y
    have H:(l.take (j+1)).filter (λ n=>!p n)=(l.take j).filter (λ n=>!p n):=by
     rw[Wf hx,filter_append];simp[hp]
    refine⟨Z,rfl,(j+1,i,c'),T1,⟨hI,ht,B,Q,Zz2,Zz2,by simp_all,λ k y hy=>G k y (by simp_all),λ k y W hy=>K k y (by grind) hy⟩,L1⟩
  .have hge:l.length<=j:=by simpa using Y
   rw[take_of_length_le hge]at F G;refine⟨i,l.length,⟨rfl,rfl,O1,O1⟩,?_⟩
   have X:(if sc=i then some (Addr.mk b 0 none)else(some (Addr.mk b 0 none)).map (·.add (i*1)))=some ⟨b,i,none⟩:=by
    rw[if_neg O1];simp[Qo]
   rw[X]
   conv=>whnf
   obtain⟨ak,ab,ac,ai,aj⟩:=IP;refine Zlj (len:=l.length-i) (cap:=sc-i) (off:=i) (b:=b) Px ab ac (n:=1) rfl ?_ rfl B O1 ?_
   .rw[Zh1 rfl];intro w hw;rw[eq_of_mem_replicate hw];rfl
   rw[Zh1 rfl];refine⟨0,i,⟨rfl,rfl,O1,O1⟩,?_⟩
   have N:(if sc=0 then some (Addr.mk b 0 none)else(some (Addr.mk b 0 none)).map (·.add (0*1)))=some ⟨b,0,none⟩:=by
    rw[if_neg O1];simp[Qo]
   rw[N]
   repeat refine⟨rfl,?_⟩
   refine⟨?_,hI,ht⟩;refine .inr ⟨b,_,i,sc,rfl,by simp[F],O1,by rw[VK];omega,rfl,λ k x hx=>?_⟩;rw[Po _ _ _ _ _ S3,if_neg]
   .rw[getElem?_map]at hx;cases hy:(l.filter λ n=>!p n)[k]? with
    |none=>rw[hy]at hx;cases hx
    |some y=>rw[hy]at hx;cases hx;exact G k y hy
   grind
variable{P:Program}{q:Sys P T}{f:FuncId}{args:Array Value}{l l':List Int}{b len n m:Nat}{a a':Option Addr}
def Qb.listed(h:Qb q f args (λ v U'=>∃b,v=.tuple #[b,.int .i64 F]/\Acc 3 1 b (l.map λ n=>.int .i64 n) U'.M U.M/\(∀x E,U.I x=some E->U'.I x=some E)/\U'.tok=U.tok) U) :
  Qb q f args (λ v U'=>(∃b,v=.tuple #[b,.int .i64 F]/\Jw U'.frz b l)/\U.le U') U:=by
 refine h.sep λ v U' H⟨b,K,ha,G,ht⟩=>?_;obtain⟨U'',L,N,a,len,cap,rfl,hl,w,B,_⟩:=ha.freeze H G ht;simp at hl;refine⟨U'',L,⟨_,K,a,cap,by rw[hl],KV w B⟩,N⟩
structure Qzr where
 items:List Int
 keep:Bool
def Zmu(U:Qa T)(a:Option Addr)(len:Nat)(cs:List Qzr):Prop:=Q7 U a len 2 cs λ c vs=>∃a' b cap',vs=[.slice a' b cap',.bool c.keep]/\Z6 U a' b c.items/\b<2^60
def Zmu.lg{U':Qa T}{a:Option Addr}{len:Nat}{cs:List Qzr}(h:Zmu U a len cs)(hl:U.lg U'):Zmu U' a len cs:=
 Q7.lg h hl λ _ _⟨a',l',c',e,h,k⟩=>⟨a',l',c',e,h.lg hl,k⟩
def Qzr.on(c:Qzr)(l:List Int):List Int:=l.filter λ n=>!(c.items.contains n != c.keep)
def Zkt(cs:List Qzr)(l:List Int):List Int:=cs.foldl (λ l c=>c.on l) l
def WK.cutF(t:WK)(e:Int)(l:List Int)(cs:List Qzr):Int:=if t.openF e [l]=0 then(if 4<cs.length then 2 else t.chkAll e (cs.map (·.items)))else t.openF e [l]
def WK.cutL(t:WK)(e:Int)(l:List Int)(cs:List Qzr):List Int:=if t.cutF e l cs=0 then Zkt cs l else[]
def Qzr.on_len(c:Qzr)(l:List Int):(c.on l).length<=l.length:=length_filter_le ..
def Wx.two{cap':Nat}(hb:Zi U b #[.slice a len m,.slice a' n cap'])(h:Z6 U a len l)(B:Z6 U a' n l')(k:len<2^60)(k':n<2^60):Wx U (some ⟨b,0,none⟩) 2 [l,l']:=by
 refine⟨rfl,λ i x hx=>?_⟩;have hi:i=0\/i=1:=by have:=(Zz4 hx);simp at this;omega
 rcases hi with rfl|rfl <;> cases hx
 .refine⟨_,_,rfl,rfl,⟨a,len,m,rfl,h,k⟩,rfl,λ i v w=>?_⟩;cases i with
  |zero=>simp at w;subst w;rw[Nat.zero_mul,Qo,Qo];exact hb.sees rfl
  |succ i=>simp at w
 .refine⟨_,_,rfl,rfl,⟨a',n,cap',rfl,B,k'⟩,rfl,λ i v w=>?_⟩;cases i with
  |zero=>simp at w;subst w;rw[Qo,Qo];exact hb.sees rfl
  |succ i=>simp at w
def Wx.one(hb:Zi U b #[.slice a len n])(h:Z6 U a len l)(k:len<2^60):Wx U (some ⟨b,0,none⟩) 1 [l]:=by
 refine⟨rfl,λ i x hx=>?_⟩;obtain rfl:i=0:=by grind
 cases hx;refine⟨_,_,rfl,rfl,⟨a,len,n,rfl,h,k⟩,rfl,λ i v f=>?_⟩;cases i with
 |zero=>simp at f;subst f;rw[Nat.zero_mul,Qo,Qo];exact hb.sees rfl
 |succ i=>simp at f
def Zrc(n:Int)(b:Nat)(a:Option Addr)(len cap:Nat)(l:List Int)(keep:Bool)(hb:Zi U b #[.slice a len cap,.bool keep])(hl:Z6 U a len l)(h:len<2^60) :
  Qb S 36 #[.int .i64 n,.pb b] (λ v U'=>v=.bool (l.contains n != keep)/\U'=U) U:=by
 refine Qb.pure' (Qb.of (args:=[_,_]) Zr7 Qf S1 ?_)
 repeat refine⟨rfl,?_⟩
 refine⟨_,hb.sees3 rfl,.bool (l.contains n),λ U' f _=>?_,?_⟩
 .refine⟨OP.any,(DE a len cap l (hl.le f) h n).mono ?_⟩;rintro _ U''⟨rfl,w⟩-;exact⟨rfl,_,.refl _,w▸.refl _⟩
 repeat refine⟨rfl,?_⟩
 refine⟨_,hb.sees3 rfl,?_⟩
 conv=>whnf
 intro U' f _
 repeat refine⟨rfl,?_⟩
 conv=>whnf
 exact f.lg
variable{u:List Qzr}{A:Qzr}
def Zs3(cs:List Qzr):∀(l:List Int),(Zkt cs l).length<=l.length:=by
 induction cs with
 |nil=>exact λ l=>Nat.le_refl _
 |cons c cs b=>exact λ l=>Nat.le_trans (b _) (Qzr.on_len c l)
def Ztj(h:u[i]?=some A)(l:List Int):Zkt (u.take (i+1)) l=A.on (Zkt (u.take i) l):=by
 rw[Wf h];unfold Zkt;rw[foldl_append];rfl
def Zry(h:TH)(t:WK)(ht:GK U h t)(e:Int)(a ca:Option Addr)(len cap cl cc:Nat)(l:List Int)(cs:List Qzr)(hl:Z6 U a len l)(af:Zmu U.frz ca cl cs)(ay:len<=1000000)(be:cl<2^60) :
  Qb S 11 #[h.v,.int .i64 e,.slice a len cap,.slice ca cl cc] (λ v U'=>(∃v1,v=.tuple #[v1,.int .i64 (t.cutF e l cs)]/\Jw U'.frz v1 (t.cutL e l cs))/\U.le U') U:=by
 refine Qb.listed (Qb.of (args:=[_,_,_,_]) Zpc Qf S1 ?_);have aq:=af.1;have bg:=hl.1
 repeat refine⟨rfl,?_⟩
 conv=>whnf
 intro b4 U1 a3 ap;refine⟨_,⟨rfl,ap.rdT λ _ _ h=>h⟩,?_⟩
 conv=>whnf
 intro aj ax;refine Zl ax λ U2 a4 Q=>?_;have Q:Zi U2 aj #[.slice a len cap]:=Q;have H:=a3.trans a4;refine⟨Zpf.any,(Zn7 h t (ht.lg H.lg) e (some ⟨aj,0,none⟩) 1 1 [l] (.one Q (hl.lg H.lg) O1) O1).go λ _=>?_⟩
 conv=>whnf
 intro az au;refine⟨_,.refl _,rfl,Zv (vs:=[.slice h.ea h.el h.ec,.slice h.ma h.ml h.mc,.slice h.ka h.kl h.kc]) au rfl Zz1 λ U3 a5 ao=>?_⟩;have w:=H.trans a5;have a6:Zmu U3 ca cl cs:=af.lg (Uf Qr w);have a7:Zmu U3.frz ca cl cs:=af.lg w.lg.frz2;have a9:=ht.lg w.lg
 repeat refine⟨rfl,?_⟩
 conv=>whnf
 apply Qg<;>intro K
 .have hf:t.openF e [l]≠0:=by simpa using K
  have hF:t.cutF e l cs=t.openF e [l]:=by unfold WK.cutF;rw[if_neg hf]
  have hL:t.cutL e l cs=[]:=by unfold WK.cutL;rw[hF,if_neg hf]
  repeat refine⟨rfl,?_⟩
  conv=>whnf
  exact⟨_,by rw[hF];rfl,by rw[hL,w.own];exact .nil,w.imm,w.tok⟩
 have hf:t.openF e [l]=0:=by simpa using K
 repeat refine⟨rfl,?_⟩
 conv=>whnf
 apply Qg<;>intro K
 .have T:4<cs.length:=by rw[aq];simp at K;omega
  have hF:t.cutF e l cs=2:=by unfold WK.cutF;rw[if_pos hf,if_pos T]
  have hL:t.cutL e l cs=[]:=by unfold WK.cutL;rw[hF];rfl
  repeat refine⟨rfl,?_⟩
  conv=>whnf
  exact⟨_,by rw[hF];rfl,by rw[hL,w.own];exact .nil,w.imm,w.tok⟩
 have T:¬4<cs.length:=by rw[aq];simp at K;omega
 have hF:t.cutF e l cs=t.chkAll e (cs.map (·.items)):=by unfold WK.cutF;rw[if_pos hf,if_neg T]
 refine⟨Nat,λ i=>[(1,.int .i64 e),(2,.slice a len cap),(3,.slice ca cl cc),(10,.pb az),(32,.slice ca cl cc),(33,.int .i64 cl),(34,.int .i64 i)],
  λ i U'=>U3.le U'/\i<=cl/\t.chkAll e (cs.map (·.items))=t.chkAll e ((cs.drop i).map (·.items)),λ i=>cl-i,0,T1,⟨.refl _,O1,S1⟩,?_⟩
 rintro i f U4⟨F,hi,E⟩;have B:=w.trans F
 repeat refine⟨rfl,?_⟩
 conv=>whnf
 apply Qg<;>intro K
 .have hlt:i<cl:=by simpa using K
  obtain⟨ad,c,vs,hx,rfl,a8,⟨a',l',c',rfl,ai,W⟩,-,hr⟩:=Q7.at (a6.lg F.lg) hlt;rw[Hl hx,map_cons,WK.chkAll]at E;have ag:Z9 (i+1):=I1
  refine⟨ad,i,⟨rfl,rfl,hlt⟩,_,⟨rfl,hr⟩,?_⟩
  conv=>whnf
  intro a0 av;refine⟨_,.refl _,rfl,Zv (vs:=[.slice a' l' c',.bool c.keep]) av rfl Zz1 λ U5 G N=>?_⟩;have N:Zi U5 a0 #[.slice a' l' c',.bool c.keep]:=N;refine⟨_,⟨rfl,Zi.rdI (vs:=[.slice h.ea h.el h.ec,.slice h.ma h.ml h.mc,.slice h.ka h.kl h.kc]) ao (F.trans G).imm⟩,?_⟩
  repeat refine⟨rfl,?_⟩
  refine⟨_,N.sees3 rfl,Zpg.any,(Zix h t (a9.lg (F.trans G).lg) e a' l' c' c.items (ai.lg G.lg) W).go λ _=>?_⟩
  repeat refine⟨rfl,?_⟩
  conv=>whnf
  apply Qg<;>intro K
  .have hn:t.chk e none c.items≠0:=by simpa using K
   have al:t.cutF e l cs=t.chk e none c.items:=by rw[hF,E,if_neg hn]
   have hL:t.cutL e l cs=[]:=by unfold WK.cutL;rw[al,if_neg hn]
   repeat refine⟨rfl,?_⟩
   conv=>whnf
   exact⟨_,by rw[al];rfl,by rw[hL,(B.trans G).own];exact .nil,(B.trans G).imm,(B.trans G).tok⟩
  .have hn:t.chk e none c.items=0:=by simpa using K
   refine⟨ag,?_⟩
   conv=>whnf
   exact⟨rfl,i+1,T1,⟨F.trans G,O1,by rw[E,if_pos hn]⟩,L1⟩
 .have hge:cl<=i:=by simpa using K
  rw[drop_eq_nil_of_le O1]at E;have am:t.cutF e l cs=0:=by rw[hF,E];rfl
  have hL:t.cutL e l cs=Zkt cs l:=by unfold WK.cutL;rw[am,if_pos rfl]
  refine⟨PB.any,(DY a len cap l (hl.lg B.lg) ay).mono ?_⟩;rintro v U5⟨ha,a1,ba⟩-;obtain⟨sa,sc,rfl,-⟩:=SF ha
  refine⟨Nat×Value,λ y=>[(3,.slice ca cl cc),(15,y.2),(49,.slice ca cl cc),(50,.int .i64 cl),(51,.int .i64 y.1)],
   λ y U'=>(∀x o,U4.I x=some o->U'.I x=some o)/\U'.tok=U4.tok/\Acc 3 1 y.2 ((Zkt (cs.take y.1) l).map λ n=>.int .i64 n) U'.M U4.M/\y.1<=cl,λ y=>cl-y.1,(0,.slice sa l.length sc),T1,⟨a1,ba,ha,O1⟩,?_⟩
  rintro⟨j,v⟩f U6⟨X,Z,L,hj⟩;simp only at L hj;have ah:=Zs3 (cs.take j) l;generalize V:Zkt (cs.take j) l=ak at L ah;obtain⟨sa,sc,rfl,-⟩:=SF L;have bf:U4.frz.lg U6:=⟨X,Zz3,Z⟩;have aa:U3.frz.lg U6:=⟨λ b o h=>X b o (F.imm b o h),Zz3,Z.trans F.tok⟩
  repeat refine⟨rfl,?_⟩
  conv=>whnf
  apply Qg<;>intro K
  .have hlt:j<cl:=by simpa using K
   obtain⟨ad,c,vs,hx,rfl,a8,⟨a',l',c',rfl,ai,W⟩,-,hr⟩:=Q7.at a7 hlt;have ag:Z9 (j+1):=I1
   refine⟨ad,j,⟨rfl,rfl,hlt⟩,_,⟨rfl,hr.lg aa⟩,?_⟩
   conv=>whnf
   intro ac aw;refine⟨_,.refl _,rfl,Zv (vs:=[.slice a' l' c',.bool c.keep]) aw rfl Zz1 λ U7 Y P=>?_⟩;have P:Zi U7 ac #[.slice a' l' c',.bool c.keep]:=P;have ab:=Uf aa Y
   refine⟨Zr6.any,(Znv (.slice sa ak.length sc) ak U4.M (by rw[Y.own];exact L) O1 36 #[] #[.pb ac] (λ n=>c.items.contains n != c.keep) Zr7.any
    (λ U8 ae n _=>Zrc n ac a' l' c' c.items c.keep (P.imI ae.imm) (ai.lg ⟨λ b o h=>ae.imm b o (ab.imm b o h),Zz3,ae.tok.trans ab.tok⟩) W)).mono ?_⟩
   rintro v8 U8⟨an,a2,bb⟩-;obtain⟨bc,bd,rfl,-⟩:=SF an;refine⟨ag,?_⟩
   conv=>whnf
   exact⟨rfl,(j+1,.slice bc _ bd),T1,⟨λ b o h=>a2 b o (Y.imm b o (X b o h)),bb.trans (Y.tok.trans Z),by rw[Ztj hx,V];exact an,O1⟩,L1⟩
  .have hge:cl<=j:=by simpa using K
   rw[take_of_length_le O1]at V
   repeat refine⟨rfl,?_⟩
   conv=>whnf
   exact⟨_,by rw[am];rfl,by rw[hL,V,<- B.own];exact L,λ b o h=>X b o (B.imm b o h),Z.trans B.tok⟩
variable{lv:Int}
def Zrb(U:Qa T)(a:Option Addr)(len:Nat)(l:List (Int×Int)):Prop:=Q7 U a len 2 l λ p vs=>vs=Qam p
def Zrb.lg{U':Qa T}{a:Option Addr}{len:Nat}{l:List (Int×Int)}(h:Zrb U a len l)(hl:U.lg U'):Zrb U' a len l:=Q7.lg h hl λ _ _ h=>h
def cpt:Option Int->List Int->List Int
 |_,[]=>[]
 |p,x::r=>if p=some x then cpt (some x) r else x::cpt (some x) r
def Zso(x y:Int):∀(l:List Int)(p:Option Int),cpt p (l++[y]++[x])=cpt p (l++[y])++(if y=x then[]else[x])
 |[],p=>by
  simp only[nil_append,singleton_append,cpt];grind
 |a::l,p=>by
  simp only[cons_append,cpt];have:=Zso x y l (some a);grind
def Zsp(b:0<i)(hx:l[i]?=some F)(hy:l[i-1]?=some lv):cpt none (l.take (i+1))=cpt none (l.take i)++(if lv=F then[]else[F]):=by
 have e:l.take i=l.take (i-1)++[lv]:=by
  have:=Wf hy
  grind
 rw[Wf hx,e];exact Zso F lv _ _
variable{k:Nat}{c:Array Value}{j:TypeId}{M₀:List Qw}
def Zp1{v:Value}(f:U.M=.obj b (.cells c j (0,0))::M₀)(h:c[i+k]?=some v):U.sees ((Addr.mk b i none).add (k*1)) v:=by
 rw[Nat.mul_one,Qo];exact⟨rfl,.inl ⟨c,j,(0,0),.inr (by simp_all),by simpa using h⟩⟩
def Zo2(v:Value)(l:List Int)(M₀:List Qw)(ha:Acc 3 1 v (l.map λ n=>.int .i64 n) U.M M₀)(aq:l.length<=1000000) :
  Qb S 72 #[v] (λ v' U'=>Acc 3 1 v' ((cpt none l).map λ n=>.int .i64 n) U'.M M₀/\(∀x o,U.I x=some o->U'.I x=some o)/\U'.tok=U.tok) U:=by
 obtain⟨sa,sc,rfl,aw⟩:=SF ha;refine Qb.of (args:=[_]) Zn5 Qf S1 ?_
 repeat refine⟨rfl,?_⟩
 conv=>whnf
 apply Qg<;>intro G
 .have hsm:l.length<2:=by have:=of_decide_eq_true G;omega
  repeat refine⟨rfl,?_⟩
  refine⟨?_,λ _ _ h=>h,rfl⟩
  have:cpt none l=l:=by
   match l,hsm with
   |[],_=>rfl
   |[x],_=>rfl
  rw[this];exact ha
 have ae:2<=l.length:=by have:=of_decide_eq_false G;omega
 rcases ha with⟨h1,h2,_⟩|⟨b,c,len,cap,h1,h2,h3,h4,hM,h5⟩
 .rw[map_eq_nil_iff]at h2;subst h2;simp at ae
 cases h1;have Y:HP c l:=λ k x hx=>h5 k _ (by simp[hx]);have an:c.size=sc:=O1
 refine⟨Nat,λ i=>[(0,.slice (some ⟨b,0,none⟩) l.length sc),(3,.int .i64 i)],λ i U'=>U.le U'/\1<=i/\i<=l.length/\cpt none (l.take i)=l.take i,λ i=>l.length-i,1,T1,⟨.refl _,O1,O1,?_⟩,?_⟩
 .match l,ae with
  |x::r,_=>rfl
 rintro i f U1⟨X,ag,hi,Z⟩;have F:=X.own.trans hM
 repeat refine⟨rfl,?_⟩
 conv=>whnf
 apply Qg<;>intro G
 .have hlt:i<l.length:=by simpa using G
  have hx:l[i]?=some (l[i]'hlt):=S1
  generalize l[i]'hlt=x at hx;have hy:l[i-1]?=some (l[i-1]' O1):=S1
  generalize l[i-1]' O1=y at hy;have ac:(i:Int)-1=((i-1:Nat):Int):=O1
  have al:Z9 (i+1):=I1
  have V:=Zsp O1 hx hy;refine⟨_,i,⟨rfl,rfl,hlt⟩,_,Yc F (Y i x hx),I1,?_⟩;refine⟨_,i-1,⟨rfl,ac,O1⟩,_,Yc F (Y (i-1) y hy),?_⟩
  conv=>whnf
  intro U2 ad _;have aj:=ad.own.trans F;have L:=X.trans ad
  repeat refine⟨rfl,?_⟩
  conv=>whnf
  apply Qg<;>intro G
  .have hxy:y=x:=by have:x=y:=by simpa using G
                    exact this.symm
   rw[if_pos hxy,append_nil,Z]at V;refine⟨i,l.length,⟨rfl,rfl,O1,O1⟩,?_⟩
   have P:(if sc=i then some (Addr.mk b 0 none)else(some (Addr.mk b 0 none)).map (·.add (i*1)))=some ⟨b,i,none⟩:=by
    rw[if_neg O1];simp[Qo]
   rw[P]
   refine⟨Nat×Nat×Array Value,λ y=>[(0,.slice (some ⟨b,0,none⟩) l.length sc),(3,.int .i64 y.2.1),(4,.slice (some ⟨b,i,none⟩) (l.length-i) (sc-i)),(5,.int .i64 y.1)],
    λ y U'=>(∀x o,U.I x=some o->U'.I x=some o)/\U'.tok=U.tok/\U'.M=.obj b (.cells y.2.2 3 (0,0))::M₀/\y.2.2.size=sc/\1<=y.1/\i+y.1<=l.length/\y.2.1<i+y.1/\(cpt none (l.take (i+y.1))).length=y.2.1 /\
     (∀(k:Nat)(z:Int),(cpt none (l.take (i+y.1)))[k]?=some z->y.2.2[k]?=some (.int .i64 z))/\(∀(k:Nat)(z:Int),i+y.1<=k+1->l[k]?=some z->y.2.2[k]?=some (.int .i64 z)),
    λ y=>l.length-y.1,(1,i,c),T1,⟨L.imm,L.tok,aj,an,Zz2,Zz2,Zz2,by simp_all,λ k z E=>?_,λ k z _ E=>Y k z E⟩,?_⟩
   .grind
   rintro⟨j,w,c'⟩f U3⟨hI,ht,K,W,ac,am,ao,H,Q,T⟩;simp only at K W ac am ao H Q T
   repeat refine⟨rfl,?_⟩
   conv=>whnf
   apply Qg<;>intro G
   .have hlt:i+j<l.length:=by have:=of_decide_eq_true G;omega
    have hx:l[i+j]?=some (l[i+j]'hlt):=S1
    generalize l[i+j]'hlt=x at hx;have hy:l[i+j-1]?=some (l[i+j-1]' O1):=S1
    generalize l[i+j-1]' O1=y at hy;have ah:(j:Int)-1=((j-1:Nat):Int):=O1
    have ai:Z9 (j+1):=I1
    have ap:Z9 (w+1):=I1
    have B:=Zsp O1 hx hy;have af:=T (i+j) x O1 hx;refine⟨_,j,⟨rfl,rfl,O1⟩,_,Zp1 K af,I1,?_⟩;refine⟨_,j-1,⟨rfl,ah,O1⟩,_,Zp1 K (by rw[show i+(j-1)=i+j-1 by omega];exact T (i+j-1) y O1 hy),?_⟩
    conv=>whnf
    intro U4 N _;have aa:=N.own.trans K
    repeat refine⟨rfl,?_⟩
    conv=>whnf
    apply Qg<;>intro G
    .have hxy:¬y=x:=by intro e;subst e;simp at G
     rw[if_neg hxy]at B;refine⟨_,j,⟨rfl,rfl,O1⟩,_,Zp1 aa af,_,w,⟨rfl,rfl,O1⟩,rfl,?_⟩;show QX ((Addr.mk b 0 none).add (w*1)) [.int .i64 x] 0 _ _;rw[Nat.mul_one];refine G_ [] aa O1 rfl ?_;refine⟨ap,ai,rfl,(j+1,w+1,c'.setIfInBounds w (.int .i64 x)),T1,⟨λ x o h=>N.imm x o (hI x o h),N.tok.trans ht,rfl,by simpa using W,Zz2,Zz2,Zz2,?_,λ k z E=>?_,λ k z Z E=>?_⟩,L1⟩
     .show(cpt none (l.take (i+(j+1)))).length=w+1;rw[<- Nat.add_assoc,B];simp[H]
     .simp only at E;rw[<- Nat.add_assoc,B]at E;by_cases e:k<w
      .rw[getElem?_append_left O1]at E;rw[Array.getElem?_setIfInBounds_ne O1];exact Q k z E
      .rw[getElem?_append_right O1,H]at E
       have:k=w:=by
        have:=(Zz4 E);simp at this;omega
       subst this;simp at E;subst E;rw[Array.getElem?_setIfInBounds_self_of_lt O1]
     grind
    .have hxy:y=x:=by
      have h:x=y:=by simpa using G
      exact h.symm
     rw[if_pos hxy,append_nil]at B;refine⟨ai,rfl,(j+1,w,c'),T1,⟨λ x o h=>N.imm x o (hI x o h),N.tok.trans ht,aa,W,Zz2,Zz2,Zz2,?_,λ k z E=>?_,λ k z Z E=>T k z (by simp only at Z;omega) E⟩,L1⟩
     .show(cpt none (l.take (i+(j+1)))).length=w;rw[<- Nat.add_assoc,B];exact H
     grind
   .have hge:i+j=l.length:=by have:=of_decide_eq_false G;omega
    rw[hge,take_of_length_le (Nat.le_refl _)]at H Q;refine⟨w,l.length,⟨rfl,rfl,O1,O1⟩,?_⟩
    have P:(if sc=w then some (Addr.mk b 0 none)else(some (Addr.mk b 0 none)).map (·.add (w*1)))=some ⟨b,w,none⟩:=by
     rw[if_neg O1];simp[Qo]
    rw[P]
    conv=>whnf
    obtain⟨ax,ag,ak,au,av⟩:=IP;refine Zlj (len:=l.length-w) (cap:=sc-w) (off:=w) (b:=b) Px ag ak (n:=1) rfl ?_ rfl K O1 ?_
    .rw[Zh1 rfl];intro w hw;rw[eq_of_mem_replicate hw];rfl
    rw[Zh1 rfl];refine⟨0,w,⟨rfl,rfl,O1,O1⟩,?_⟩
    have ab:(if sc=0 then some (Addr.mk b 0 none)else(some (Addr.mk b 0 none)).map (·.add (0*1)))=some ⟨b,0,none⟩:=by
     rw[if_neg O1];simp[Qo]
    rw[ab]
    repeat refine⟨rfl,?_⟩
    refine⟨?_,hI,ht⟩;refine .inr ⟨b,_,w,sc,rfl,by simp[H],O1,by rw[VK];omega,rfl,λ k x hx=>?_⟩;rw[Po _ _ _ _ _ S3,if_neg]
    .rw[getElem?_map]at hx;cases hy:(cpt none l)[k]? with
     |none=>rw[hy]at hx;cases hx
     |some y=>rw[hy]at hx;cases hx;exact Q k y hy
    grind
  .have hxy:¬y=x:=by intro e;subst e;simp at G
   rw[if_neg hxy,Z]at V;refine⟨al,?_⟩
   conv=>whnf
   exact⟨rfl,i+1,T1,⟨L,O1,O1,by rw[V,Wf hx]⟩,L1⟩
 .have hge:l.length<=i:=by simpa using G
  rw[take_of_length_le hge]at Z
  repeat refine⟨rfl,?_⟩
  refine⟨?_,X.imm,X.tok⟩;rw[Z];exact .inr ⟨b,c,l.length,sc,rfl,S1,h3,h4,F,h5⟩
variable{ws:List Value}{M:List Qw}
def Acc.own{v:Value}(h:Acc i n v ws M M₀):∃A,M=A++M₀:=by
 rcases h with⟨_,_,rfl⟩|⟨b,c,len,cap,_,_,_,_,rfl,_⟩
 .exact⟨[],rfl⟩
 .exact⟨[_],rfl⟩
def Zrl{t:WK}(hf:t.flaw=0){e:Int}:∀{l:List Int}{p:Option Int},t.chk e p l=0->(∀m,p=some m->0<=m)->l=[]\/(match p with|some m=>m+l.length<=7|none=>l.length<=8)
 |[],_,_,_=>.inl rfl
 |a::l,p,h,hp=>by
  rw[WK.chk_cons]at h;split at h
  .rename_i hi;have ha:=WK.item_lt hf hi;right
   have key:t.chk e (some a) l=0->a+(l.length+1:Int)<=8:=λ h=>by
    rcases Zrl hf h (λ m hm=>by cases hm;exact ha.1)with rfl|h2
    .simp;omega
    .simp only at h2;omega
   grind
  .cases h
structure Qvl where
 ed:Int
 lv:Int
 a:List Int
 b:List Int
structure KH where
 aa:Option Addr
 al:Nat
 ac:Nat
 ba:Option Addr
 bl:Nat
 bc:Nat
def KH.cs(h:TH)(k:KH)(x:Qvl):List Value:=[.slice h.ea h.el h.ec,.slice h.ma h.ml h.mc,.slice h.ka h.kl h.kc,.int .i64 x.ed,.int .i64 x.lv,.slice k.aa k.al k.ac,.slice k.ba k.bl k.bc]
abbrev KH.v(h:TH)(k:KH)(x:Qvl):Value:=.agg #[.slice h.ea h.el h.ec,.slice h.ma h.ml h.mc,.slice h.ka h.kl h.kc,.int .i64 x.ed,.int .i64 x.lv,.slice k.aa k.al k.ac,.slice k.ba k.bl k.bc]
def WK.talkF(t:WK)(e:Int)(a b:List Int)(lv:Int):Int:=if t.openF e [a,b]=0 then(if QP lv 1 5 then 0 else 1)else t.openF e [a,b]
def Zoa(h:TH)(t:WK)(ht:GK U h t)(e lv:Int)(a a':Option Addr)(len cap f cap':Nat)(l l':List Int)(hl:Z6 U a len l)(hl':Z6 U a' f l')(W:len<2^60)(H:f<2^60) :
  Qb S 26 #[h.v,.int .i64 e,.slice a len cap,.slice a' f cap',.int .i64 lv] (λ v U'=>v=.tuple #[KH.v h ⟨a,len,cap,a',f,cap'⟩ ⟨e,lv,l,l'⟩,.int .i64 (t.talkF e l l' lv)]/\U'=U) U:=by
 refine Qb.pure' (Qb.of (args:=[_,_,_,_,_]) Zpd Qf S1 ?_)
 repeat refine⟨rfl,?_⟩
 conv=>whnf
 intro b5 U1 F P
 conv=>whnf
 intro X aa;refine⟨_,.refl _,_,⟨rfl,P.rdT λ _ _ h=>h⟩,?_⟩
 conv=>whnf
 intro I V;refine Zl V λ Z L E=>?_;have E:Zi Z I #[.slice a len cap,.slice a' f cap']:=E;have w:U.lg Z:=F.lg.trans ((Z2 X _).trans L.lg);have Y:=L.own;refine⟨Zpf.any,(Zn7 h t (ht.lg w) e (some ⟨I,0,none⟩) 2 2 [l,l'] (.two E (hl.lg w) (hl'.lg w) W H) O1).go λ _=>?_⟩
 conv=>whnf
 intro ab T;refine⟨_,.refl _,rfl,Zv (vs:=[.slice h.ea h.el h.ec,.slice h.ma h.ml h.mc,.slice h.ka h.kl h.kc]) T rfl Zz1 λ U3 N B=>?_⟩;have w:=w.trans N.lg;have G:U3.M=_:=N.own.trans Y
 repeat refine⟨rfl,?_⟩
 conv=>whnf
 apply Jt<;>intro Q
 .have hf:t.openF e [l,l']=0:=by simpa using Q
  refine⟨Qyt.any,(Qde _ lv 1 5).go λ _=>?_⟩
  repeat refine⟨rfl,?_⟩
  conv=>whnf
  apply Qg<;>intro Q
  .have hb:QP lv 1 5=false:=by simpa using Q
   have K:t.talkF e l l' lv=1:=by unfold WK.talkF;rw[if_pos hf,hb];rfl
   refine⟨_,⟨rfl,B.rdT λ _ _ h=>h⟩,rfl,Yl (vs:=KH.cs h ⟨a,len,cap,a',f,cap'⟩ ⟨e,lv,l,l'⟩) [] G rfl (by simp[KH.cs,Value.single]) ?_⟩;refine⟨KH.cs h ⟨a,len,cap,a',f,cap'⟩ ⟨e,lv,l,l'⟩,⟨rfl,Q9 [] rfl⟩,?_⟩
   conv=>whnf
   exact⟨by rw[K];rfl,λ b o hb=>w.imm b o hb,⟨[_],by rw[<- F.own];rfl⟩,w.tok⟩
  .have hb:QP lv 1 5=true:=by simpa using Q
   have K:t.talkF e l l' lv=0:=by unfold WK.talkF;rw[if_pos hf,hb];rfl
   refine⟨_,⟨rfl,B.rdT λ _ _ h=>h⟩,rfl,Yl (vs:=KH.cs h ⟨a,len,cap,a',f,cap'⟩ ⟨e,lv,l,l'⟩) [] G rfl (by simp[KH.cs,Value.single]) ?_⟩;refine⟨KH.cs h ⟨a,len,cap,a',f,cap'⟩ ⟨e,lv,l,l'⟩,⟨rfl,Q9 [] rfl⟩,?_⟩
   conv=>whnf
   exact⟨by rw[K,hf];rfl,λ b o hb=>w.imm b o hb,⟨[_],by rw[<- F.own];rfl⟩,w.tok⟩
 .have hf:t.openF e [l,l']≠0:=by simpa using Q
  have K:t.talkF e l l' lv=t.openF e [l,l']:=by unfold WK.talkF;rw[if_neg hf]
  repeat refine⟨rfl,?_⟩
  refine⟨_,⟨rfl,B.rdT λ _ _ h=>h⟩,rfl,Yl (vs:=KH.cs h ⟨a,len,cap,a',f,cap'⟩ ⟨e,lv,l,l'⟩) [] G rfl (by simp[KH.cs,Value.single]) ?_⟩;refine⟨KH.cs h ⟨a,len,cap,a',f,cap'⟩ ⟨e,lv,l,l'⟩,⟨rfl,Q9 [] rfl⟩,?_⟩
  conv=>whnf
  exact⟨by rw[K];rfl,λ b o hb=>w.imm b o hb,⟨[_],by rw[<- F.own];rfl⟩,w.tok⟩
variable{vs:List Value}
def Zqi(p:Int×Int):List Value:=[.agg #[.int .i64 p.1,.int .i64 p.2]]
def WK.okP(t:WK)(k:Qvl)(x y:List Int)(one two:Int):Bool:=!(x.contains one|| y.contains two|| decide (t.lev k.ed one two<k.lv))
def WK.reachRow(t:WK)(k:Qvl)(x y:List Int)(one:Int):List (Int×Int):=(k.b.filter (t.okP k x y one)).map λ two=>(one,two)
def WK.reach(t:WK)(k:Qvl)(x y:List Int):List (Int×Int):=k.a.flatMap (t.reachRow k x y)
def Zox{z:T}{f:α->List T}(h:d[i]?=some w)(b:(f w)[m]?=some z):(d.flatMap f)[((d.take i).flatMap f).length+m]?=some z:=by
 have e:d=d.take i++w::d.drop (i+1):=by rw[<- Hl h,take_append_drop]
 grind
def Zi.rdPre(h:Zi U b (vs++ws).toArray):Je U ⟨b,0,none⟩ vs:=λ i v f=>
 h.sees3 (by grind)
def Zmn(h:TH)(t:WK)(ht:GK U.frz h t)(k:KH)(tk:Qvl)(ha:Z6 U.frz k.aa k.al tk.a)(hb:Z6 U.frz k.ba k.bl tk.b)(xa ya:Option Addr)(xl xc yl yc:Nat)(x y:List Int)(hx:Z6 U.frz xa xl x)(hy:Z6 U.frz ya yl y)
  (aq:k.al<2^60) (au:k.bl<2^60) (am:xl<2^60) (an:yl<2^60) (V Y Z l:Nat) (H:Zi U.frz V (KH.cs h k tk).toArray) (af:Zi U.frz Y #[.slice xa xl xc]) (ag:Zi U.frz Z #[.slice ya yl yc]) :
  ku S 62 #[.func (.yield l) #[] #[],.pb V,.pb Y,.pb Z] l ((t.reach tk x y).map Zqi) U:=by
 intro I E T hR h0;refine Qb.of (args:=[_,_,_,_]) Zpj Qf S1 ?_;have aj:=T.lg 0 _ h0;have ao:=ha.1;have ap:=hb.1;have H:Zi U.frz V #[.slice h.ea h.el h.ec,.slice h.ma h.ml h.mc,.slice h.ka h.kl h.kc,.int .i64 tk.ed,.int .i64 tk.lv,.slice k.aa k.al k.ac,.slice k.ba k.bl k.bc]:=H
 repeat refine⟨rfl,?_⟩
 refine⟨_,(H.lg aj).sees3 rfl,?_⟩
 repeat refine⟨rfl,?_⟩
 refine⟨Nat,λ i=>[(0,.func (.yield l) #[] #[]),(1,.pb V),(2,.pb Y),(3,.pb Z),(10,.slice k.aa k.al k.ac),(11,.int .i64 k.al),(12,.int .i64 i)],
  λ i U'=>I (((tk.a.take i).flatMap (t.reachRow tk x y)).length) U'/\i<=k.al,λ i=>k.al-i,0,T1,⟨by simpa using h0,O1⟩,?_⟩
 rintro i f U1⟨F,hi⟩;have w:=T.lg _ _ F
 repeat refine⟨rfl,?_⟩
 conv=>whnf
 apply Qg<;>intro K
 .have hlt:i<k.al:=by simpa using K
  obtain⟨ad,one,P,ae,-,hs⟩:=(ha.lg w).at hlt;have ai:Z9 (i+1):=I1
  refine⟨ad,i,⟨ae,rfl,hlt⟩,_,hs,?_⟩
  repeat refine⟨rfl,?_⟩
  refine⟨_,(H.lg w).sees3 rfl,?_⟩
  repeat refine⟨rfl,?_⟩
  refine⟨Nat,λ j=>[(0,.func (.yield l) #[] #[]),(1,.pb V),(2,.pb Y),(3,.pb Z),(6,.int .i64 one),(10,.slice k.aa k.al k.ac),(11,.int .i64 k.al),(12,.int .i64 i),(17,.slice k.ba k.bl k.bc),(18,.int .i64 k.bl),(19,.int .i64 j)],
   λ j U'=>I (((tk.a.take i).flatMap (t.reachRow tk x y)).length+((tk.b.take j).filter (t.okP tk x y one)).length) U'/\j<=k.bl,λ j=>k.bl-j,0,T1,⟨by simpa using F,O1⟩,?_⟩
  rintro j f U2⟨F,hj⟩;have w:=T.lg _ _ F
  repeat refine⟨rfl,?_⟩
  conv=>whnf
  apply Qg<;>intro K
  .have hltj:j<k.bl:=by simpa using K
   obtain⟨ab,two,G,ah,-,ak⟩:=(hb.lg w).at hltj;have N:Z9 (j+1):=I1
   refine⟨ab,j,⟨ah,rfl,hltj⟩,_,ak,_,(af.lg w).sees rfl,.bool (x.contains one),λ U' L _=>?_,?_⟩
   .refine⟨OP.any,(DE xa xl xc x (hx.lg (Uf w L)) am one).mono ?_⟩;rintro _ U''⟨rfl,W⟩-;exact⟨rfl,_,.refl _,W▸.refl _⟩
   repeat refine⟨rfl,?_⟩
   conv=>whnf
   apply Jt<;>intro K
   .have hx1:x.contains one=false:=by simpa using K
    refine⟨_,(ag.lg w).sees rfl,.bool (y.contains two),λ U' L _=>?_,?_⟩
    .refine⟨OP.any,(DE ya yl yc y (hy.lg (Uf w L)) an two).mono ?_⟩;rintro _ U''⟨rfl,W⟩-;exact⟨rfl,_,.refl _,W▸.refl _⟩
    repeat refine⟨rfl,?_⟩
    conv=>whnf
    apply Jt<;>intro K
    .have hy1:y.contains two=false:=by simpa using K
     refine⟨_,⟨rfl,Zi.rdPre (vs:=[.slice h.ea h.el h.ec,.slice h.ma h.ml h.mc,.slice h.ka h.kl h.kc]) (ws:=[.int .i64 tk.ed,.int .i64 tk.lv,.slice k.aa k.al k.ac,.slice k.ba k.bl k.bc]) (H.lg w)⟩,_,(H.lg w).sees3 rfl,.int .i64 (t.lev tk.ed one two),λ U' L _=>?_,?_⟩
     .refine⟨Zse.any,(Zqd h t (ht.lg (Uf w L)) tk.ed one two).mono ?_⟩;rintro _ U''⟨rfl,W⟩-;exact⟨rfl,_,.refl _,W▸.refl _⟩
     refine⟨_,(H.lg w).sees3 rfl,?_⟩
     conv=>whnf
     intro U3 B _;have F:=T.le _ _ _ B F;have w:=Uf w B
     repeat refine⟨rfl,?_⟩
     conv=>whnf
     apply Qg<;>intro K
     .have hlt':t.lev tk.ed one two<tk.lv:=by simpa using K
      have M:t.okP tk x y one two=false:=by unfold WK.okP;rw[hx1,hy1];simp[hlt']
      repeat refine⟨rfl,?_⟩
      refine⟨N,rfl,j+1,T1,⟨by rw[Wf G,filter_append,filter_cons,if_neg (by simp_all),filter_nil,append_nil];exact F,O1⟩,L1⟩
     .have hge':¬t.lev tk.ed one two<tk.lv:=by simpa using K
      have X:t.okP tk x y one two=true:=by unfold WK.okP;rw[hx1,hy1];simp[hge']
      have hp:((t.reach tk x y).map Zqi)[((tk.a.take i).flatMap (t.reachRow tk x y)).length+((tk.b.take j).filter (t.okP tk x y one)).length]?=some (Zqi (one,two)):=by
       rw[getElem?_map];unfold WK.reach;rw[Zox (z:=(one,two)) P (by unfold WK.reachRow;rw[getElem?_map,Ztm G X];rfl)];rfl
      conv=>whnf
      refine hR _ _ U3 _ hp F (λ U4 Q=>?_) (λ U4 Q=>?_)
      .repeat refine⟨rfl,?_⟩
       refine⟨N,rfl,j+1,T1,⟨?_,O1⟩,L1⟩;rw[Wf G,filter_append,filter_cons,if_pos X,filter_nil,length_append,length_singleton,<- Nat.add_assoc];exact Q
      .repeat refine⟨rfl,?_⟩
       conv=>whnf
       exact .inr Q
    .have hy1:y.contains two=true:=by simpa using K
     conv=>whnf
     intro U3 B _;have F:=T.le _ _ _ B F;have w:=Uf w B;have M:t.okP tk x y one two=false:=by unfold WK.okP;rw[hy1];simp
     repeat refine⟨rfl,?_⟩
     refine⟨N,rfl,j+1,T1,⟨by rw[Wf G,filter_append,filter_cons,if_neg (by simp_all),filter_nil,append_nil];exact F,O1⟩,L1⟩
   .have hx1:x.contains one=true:=by simpa using K
    conv=>whnf
    intro U3 B _;have F:=T.le _ _ _ B F;have w:=Uf w B;have M:t.okP tk x y one two=false:=by unfold WK.okP;rw[hx1];simp
    repeat refine⟨rfl,?_⟩
    refine⟨N,rfl,j+1,T1,⟨by rw[Wf G,filter_append,filter_cons,if_neg (by simp_all),filter_nil,append_nil];exact F,O1⟩,L1⟩
  .have hge:k.bl<=j:=by simpa using K
   rw[take_of_length_le (l:=tk.b) O1]at F
   repeat refine⟨rfl,?_⟩
   refine⟨ai,rfl,i+1,T1,⟨?_,O1⟩,L1⟩;rw[Wf P,flatMap_append,length_append];grind[WK.reachRow]
 .have hge:k.al<=i:=by simpa using K
  rw[take_of_length_le O1]at F
  repeat refine⟨rfl,?_⟩
  conv=>whnf
  grind[WK.reach]
variable{M':List Qw}{Q:Qa T->Prop}{enc:α->List Value}{U':Qa T}{g:List (Int×Int)}
def Zoe(hf:U.free b)(hp:U.M.Perm M')(h:∀f:Qa T,(∀x o,U.I x=some o->f.I x=some o)->f.tok=U.tok->f.M=M'->Zi f b c->Q f):∃f,Qv (U.put b (.cells c j)) f/\Q f:=
 ⟨_,(Wa (b:=b) (M':=U.M) (Perm.refl _)).trans (Wp (M':=M') hp),h _ (Gv (o:=.cells c j) hf).imm rfl rfl Zi.new⟩
def Zni(B D:Qw)(A R:List Qw):(B::D::(A++R)).Perm (A++B::D::R):=
 (((perm_middle (a:=B) (l₁:=A) (l₂:=D::R)).trans (Perm.cons B (perm_middle (a:=D) (l₁:=A) (l₂:=R))))).symm
def Zsz(F:∀x,(enc x).length=n)(h:Src U a (d.flatMap enc))(E:∀b,a=some b->b.spot=none)(G:0<n):Q7 U a d.length n d λ x vs=>vs=enc x:=by
 refine⟨rfl,λ i x hx=>?_⟩
 have w:∀k,k<=d.length->((d.take k).flatMap enc).length=k*n:=by
  intro k H;rw[length_flatMap];have:(d.take k).map (λ x=>(enc x).length)=(d.take k).map λ _=>n:=by congr 1;funext x;exact F x
  rw[this,map_const',sum_replicate_nat,length_take];simp_all
 have hi:i<d.length:=(Zz4 hx);rcases h with⟨_,B⟩|⟨b,rfl,I⟩
 .have h0:=flatMap_eq_nil_iff.1 B x (mem_of_getElem? hx);grind
 .refine⟨b,enc x,rfl,E b rfl,rfl,F x,λ j v K=>?_⟩;rw[pe _ (E b rfl)];refine I (i*n+j) v ?_;have:=Zox (f:=enc) hx K
  grind
def Qvu(l:List (Int×Int)):(l.flatMap Qam).length=l.length*2:=by
 simp_all[length_flatMap,Qam,map_const',sum_replicate_nat]
def Zmw(U:Qa T)(v:Value)(l:List (Int×Int)):Prop:=∃a cap,v=.slice a l.length cap/\l.length<=cap/\Q7 U a l.length 2 l λ p vs=>vs=Qam p
def Acc.cap{e n:Nat}{v:Value}{cs:List Value}{M M₀:List Qw}(h:Acc e n v cs M M₀):∀a len cap,v=.slice a len cap->len<=cap:=by
 rcases h with⟨rfl,_⟩|⟨b,c,len,cap,rfl,_,h2,_⟩
 .intro a len cap e;cases e;exact Nat.le_refl _
 simp_all
def Acc.pairsN{v:Value}(G:JS U')(h:Acc 41 2 v (g.flatMap Qam) U'.M U.M)(F:∀x B,U.I x=some B->U'.I x=some B)(ht:U'.tok=U.tok):∃U'',Qv U' U''/\U.le U''/\Zmw U''.frz v g:=by
 have b:=h.cap;obtain⟨U'',H,K,a,len,cap,rfl,hl,f,w,_⟩:=h.freeze G F ht;have b:=b _ _ _ rfl
 have:len=g.length:=by
  have h2:=Qvu g;have E:g.length*2=len*2:=h2.symm.trans hl;exact(Nat.eq_of_mul_eq_mul_right D1 E).symm
 subst this;exact⟨U'',H,K,a,cap,rfl,b,Zsz (n:=2) (λ _=>rfl) f w D1⟩
def Zoq:X7 prog 31 41 2:=.of K1
def Zkk(h:TH)(k:KH)(tk:Qvl)(xa K:Option Addr)(xl xc yl L:Nat) :
  Qb S 28 #[KH.v h k tk,.slice xa xl xc,.slice K yl L] (λ v U'=>(∃F G H,v=.func (.func 62) #[] #[.pb F,.pb G,.pb H]/\Zi U' F (KH.cs h k tk).toArray/\Zi U' G #[.slice xa xl xc]/\Zi U' H #[.slice K yl L])/\U.le U') U:=by
 refine Qb.of (args:=[_,_,_]) Zn4 Qf S1 ?_
 repeat apply R1
 conv=>whnf
 intro F M I w
 conv=>whnf
 intro G N f B
 conv=>whnf
 intro H P b E
 repeat apply R1
 conv=>whnf
 exact⟨⟨F,G,H,rfl,w.le (f.trans b),B.le b,E⟩,(I.trans f).trans b⟩
def Zn1(g:FuncId)(F:Array Value)(ps:List (Int×Int))(hg:(prog.funcs[g]?.any λ fd=>fd.body.isSome&&fd.name != "runtime.NumGoroutine")=true)
  (ae:∀l b,U.frz.lg b->ku S g ([Value.func (.yield l) #[] #[]]++F.toList).toArray l (ps.map Zqi) b) (ai:ps.length<=400000) :
  Qb S 61 #[.nl,.func (.func g) #[] F] (λ v U'=>Acc 41 2 v (ps.flatMap Qam) U'.M U.M/\(∀x o,U.I x=some o->U'.I x=some o)/\U'.tok=U.tok) U:=by
 refine Qb.accs (Qb.of (args:=[_,_]) Zsd Qf S1 ?_)
 repeat apply R1
 conv=>whnf
 intro w aj
 repeat apply R1
 conv=>whnf
 let Inv:Nat->Qa T->Prop:=λ k U'=>U.frz.lg U'/\∃v A,U'.M=A++.obj w (.cells #[v] 31 (0,0))::U.M/\Jo 41 2 v ((ps.take k).flatMap Qam) A
 refine Zlk Qf (ps.map Zqi) Inv (λ _ _=>False) (λ _=>False) rfl rfl hg (λ l b hl=>ae l b ⟨hl.imm,Zz3,hl.tok⟩) ?_ ⟨?_,?_⟩ ?_ ?_ ?_ ?_ ?_
 .intro p hp;obtain⟨q,_,rfl⟩:=mem_map.1 hp;rfl
 .rintro k U' U'' hle ⟨hl,v,A,hM,ha⟩;exact⟨Uf hl hle,v,A,hle.own.trans hM,ha⟩
 .rintro k U' ⟨hl,_⟩;exact⟨hl.imm,Zz3,hl.tok⟩
 .exact⟨⟨λ _ _ h=>h,Zz3,rfl⟩,.nl,[],rfl,.nil⟩
 .intro l A' B D k p U0 KN KX KR KA hp ⟨hl,v,A,hM,ha⟩ hKN hKX hKR hKA
  obtain⟨q,X,rfl⟩:∃q,ps[k]?=some q/\p=Zqi q:=by
   rw[getElem?_map]at hp;cases X:ps[k]? with
   |none=>rw[X]at hp;cases hp
   |some q=>rw[X]at hp;cases hp;exact⟨q,rfl,rfl⟩
  have hk:k<ps.length:=(Zz4 X);obtain⟨sa,sl,sc,rfl,af⟩:=ha.src
  conv=>whnf
  intro b5 W;refine⟨_,.refl _,rfl,Zv (vs:=Qam q) W rfl (by simp[Qam,Value.single]) λ b E H=>?_⟩
  conv=>whnf
  have e1:b=({ b with M:=U0.M }:Qa T).on A' D:=by
   have:=E.own;obtain⟨i1,m1,t1⟩:=b;simp only[Qa.on]at this ⊢;rw[this]
  rw[e1];refine hKA _ _ ?_;have L:(({ b with M:=U0.M }:Qa T).on B D).M=B::D::(A++.obj w (.cells #[.slice sa sl sc] 31 (0,0))::U.M):=by show B::D::U0.M=_;rw[hM]
  have Y:∀x o,U0.I x=some o->b.I x=some o:=λ x o h=>E.imm x o h;have G:Zi (({ b with M:=U0.M }:Qa T).on B D) b5 (Qam q).toArray:=H;generalize f:(({ b with M:=U0.M }:Qa T).on B D)=U2 at L G ⊢;have Z:∀x o,U.I x=some o->U2.I x=some o:=λ x o h=>by rw[<- f];exact Y x o (hl.imm x o h)
  have ag:U2.tok=U.tok:=by rw[<- f];exact E.tok.trans hl.tok
  clear f e1 E H W;refine⟨_,Q9 (B::D::A) L 0 _ rfl,Qam q,⟨rfl,Zi.rdI G (λ _ _ h=>h)⟩,?_⟩
  conv=>whnf
  intro bn ad;refine Zoe (M':=A++B::D::.obj w (.cells #[.slice sa sl sc] 31 (0,0))::U.M) ad (by rw[L];exact Zni B D A _) λ K aa ah ac P=>?_;have P:Zi K bn (Qam q).toArray:=P
  conv=>whnf
  refine Wn (v:=.slice sa sl sc) (cs:=(ps.take k).flatMap Qam) (new:=Qam q) (M₀:=B::D::.obj w (.cells #[.slice sa sl sc] 31 (0,0))::U.M) Zoq rfl rfl (by rw[ac];exact ha _) (.inr ⟨_,rfl,Zi.rdI P (λ _ _ h=>h)⟩) rfl (by simp[Qam,Value.single]) (by rw[Qvu,length_take];show _+2<=_;omega) λ v' M' N _=>?_;have N:Acc 41 2 v' ((ps.take (k+1)).flatMap Qam) M' (B::D::.obj w (.cells #[.slice sa sl sc] 31 (0,0))::U.M):=by rw[Wf X];simpa using N
  obtain⟨Q,ab,V⟩:=N.split;obtain⟨ta,tl,tc,rfl,-⟩:=V.src;refine⟨rfl,?_⟩;refine Yd (M₀:=U.M) (e:=31) (Q++[B,D]) [.slice ta tl tc] 0 #[.slice sa sl sc] _ (by show M'=_;rw[ab];simp) Zz1 S1 ?_;refine⟨({ K with M:=Q++.obj w (.cells #[.slice ta tl tc] 31 (0,0))::U.M }:Qa T).on B D,?_,?_⟩
  .refine Wp ?_;show Perm ((Q++[B,D])++.obj w _::U.M) (B::D::(Q++_));simpa[ZU]using(Zni B D Q (.obj w (.cells #[.slice ta tl tc] 31 (0,0))::U.M)).symm
  conv=>whnf
  exact hKN _ _ _ ⟨⟨λ x o h=>aa x o (Z x o h),Zz3,ah.trans ag⟩,_,Q,rfl,V⟩
 .rintro d l A K ⟨hl,v,A1,hM,ha⟩;rw[take_of_length_le S1]at ha;obtain⟨sa,sl,sc,rfl,af⟩:=ha.src;refine⟨_,Q9 (.obj l A::.obj d (.deferred (some []))::A1) (by show _::_::K.M=_;rw[hM];rfl) 0 _ rfl,?_⟩;refine⟨_,.there .here,⟨A1,[.obj l A,.obj d (.deferred none),.obj w (.cells #[.slice sa sl sc] 31 (0,0))],?_,ha⟩,hl.imm,hl.tok⟩;show Perm (.obj l A::.obj d (.deferred none)::K.M) _;rw[hM];exact Perm.cons _ (Perm.cons _ perm_middle)
 .exact λ d l A i K h=>h.elim
 simp_all
variable{o:List (Int×Int)->Prop}
def Qb.pairsE(h:Qb q f args (λ v U'=>∃b l,v=.tuple #[b,.int .i64 F]/\o l/\Acc 41 2 b (l.flatMap Qam) U'.M U.M/\(∀x w,U.I x=some w->U'.I x=some w)/\U'.tok=U.tok) U) :
  Qb q f args (λ v U'=>(∃b l,v=.tuple #[b,.int .i64 F]/\o l/\Zmw U'.frz b l)/\U.le U') U:=by
 refine h.sep λ v U' G⟨b,l,H,E,ha,B,ht⟩=>?_;obtain⟨U'',K,L,N⟩:=ha.pairsN G B ht;grind
def WK.pairsL(t:WK)(e:Int)(a b:List Int)(lv:Int):List (Int×Int):=if t.talkF e a b lv=0 then t.reach ⟨e,lv,a,b⟩ [] []else[]
def WK.reach_len(t:WK)(k:Qvl)(x y:List Int):(t.reach k x y).length<=k.a.length*k.b.length:=by
 unfold WK.reach;rw[length_flatMap]
 have:∀l:List Int,(l.map λ a=>(t.reachRow k x y a).length).sum<=l.length*k.b.length:=by
  intro l
  induction l with
  |nil=>simp
  |cons a l f=>
   have h1:(t.reachRow k x y a).length<=k.b.length:=by unfold WK.reachRow;rw[length_map];exact length_filter_le ..
   simp only[map_cons,sum_cons,length_cons,Nat.succ_mul];omega
 exact this _
def WK.open_two(h:t.openF e [l,l']=0):t.flaw=0/\t.isEd e=true/\t.chk e none l=0/\t.chk e none l'=0:=by
 grind[WK.openF,WK.chkAll,absurd]
def WK.talk_two(h:t.talkF e l l' lv=0):t.flaw=0/\t.isEd e=true/\t.chk e none l=0/\t.chk e none l'=0/\QP lv 1 5=true:=by
 unfold WK.talkF at h;split at h
 .rename_i ho;split at h
  .obtain⟨h1,h2,h3,h4⟩:=WK.open_two ho;exact⟨h1,h2,h3,h4,‹_›⟩
  .cases h
 simp_all
def Zob(hf:t.flaw=0)(h:t.chk e none l=0):l.length<=8:=by
 rcases Zrl hf h S1 with rfl|h
 .simp
 .exact h
def Zo1(g:FuncId)(b:Array Value)(ps:List (Int×Int))(E:(prog.funcs[g]?.any λ fd=>fd.body.isSome&&fd.name != "runtime.NumGoroutine")=true)
  (h:∀l w,U.frz.lg w->ku S g ([Value.func (.yield l) #[] #[]]++b.toList).toArray l (ps.map Zqi) w) (f:ps.length<=400000) :
  Qb S 27 #[.func (.func g) #[] b] (λ v U'=>Acc 41 2 v (ps.flatMap Qam) U'.M U.M/\(∀x o,U.I x=some o->U'.I x=some o)/\U'.tok=U.tok) U:=by
 refine Qb.of (args:=[_]) Zpe Qf S1 ?_;refine⟨Zsd.any,(Zn1 g b ps E h f).mono ?_⟩;rintro v U'⟨ha,B,ht⟩-;obtain⟨sa,sl,sc,rfl,-⟩:=Acc.src ha
 repeat apply R1
 conv=>whnf
 simp_all
def Zju(h:TH)(t:WK)(ht:GK U.frz h t)(k:KH)(tk:Qvl)(ha:Z6 U.frz k.aa k.al tk.a)(hb:Z6 U.frz k.ba k.bl tk.b)(K:k.al<=8)(L:k.bl<=8)(f w B:Nat)(xa:Option Addr)(xl xc:Nat)(x:List Int)(hx:Z6 U.frz xa xl x)(H:xl<2^60)
  (E:Zi U.frz f (KH.cs h k tk).toArray) (F:Zi U.frz w #[.slice xa xl xc]) (G:Zi U.frz B #[.nl]) :
  Qb S 27 #[.func (.func 62) #[] #[.pb f,.pb w,.pb B]] (λ v U'=>Acc 41 2 v ((t.reach tk x []).flatMap Qam) U'.M U.M/\(∀x o,U.I x=some o->U'.I x=some o)/\U'.tok=U.tok) U:=by
 refine Zo1 62 _ (t.reach tk x []) Zpj.any (λ l N hl=>?_) ?_
 .have hl:=hl.frz2;exact Zmn h t (ht.lg hl) k tk (ha.lg hl) (hb.lg hl) xa none xl xc 0 0 x [] (hx.lg hl) ⟨rfl,S1⟩ O1 O1 H O1 f w B l (E.lg hl) (F.lg hl) (G.lg hl)
 .have h1:=t.reach_len tk x [];have h2:=ha.1;have P:=hb.1;have:tk.a.length*tk.b.length<=8*8:=Nat.mul_le_mul O1 O1;omega
def Zqa(h:TH)(t:WK)(ht:GK U.frz h t)(e lv:Int)(a a':Option Addr)(len cap b cap':Nat)(l l':List Int)(hl:Z6 U.frz a len l)(hl':Z6 U.frz a' b l')(N:len<2^60)(E:b<2^60) :
  Qb S 8 #[h.v,.int .i64 e,.slice a len cap,.slice a' b cap',.int .i64 lv] (λ v U'=>(∃v1 ps,v=.tuple #[v1,.int .i64 (t.talkF e l l' lv)]/\ps=t.pairsL e l l' lv/\Zmw U'.frz v1 ps)/\U.le U') U:=by
 refine Qb.pairsE (Qb.of (args:=[_,_,_,_,_]) Zlp Qf S1 ?_)
 repeat refine⟨rfl,?_⟩
 conv=>whnf
 intro b5 U1 F I;refine⟨_,⟨rfl,I.rdT λ _ _ h=>h⟩,?_⟩;have B:U.frz.lg U1:=Qr.trans F.lg;refine⟨Zpd.any,(Zoa h t (ht.lg B) e lv a a' len cap b cap' l l' (hl.lg B) (hl'.lg B) N E).go λ _=>?_⟩
 conv=>whnf
 intro ab K;refine⟨_,.refl _,rfl,Zv (vs:=KH.cs h ⟨a,len,cap,a',b,cap'⟩ ⟨e,lv,l,l'⟩) K rfl (by simp[KH.cs,Value.single]) λ U2 Q H=>?_⟩;have f:=F.trans Q;have L:U.frz.lg U2:=Qr.trans f.lg
 repeat refine⟨rfl,?_⟩
 conv=>whnf
 apply Qg<;>intro hc
 .have hf:t.talkF e l l' lv≠0:=by simpa using hc
  repeat refine⟨rfl,?_⟩
  conv=>whnf
  exact⟨_,[],rfl,by unfold WK.pairsL;rw[if_neg hf],by rw[f.own];exact .nil,f.imm,f.tok⟩
 have hf:t.talkF e l l' lv=0:=by simpa using hc
 obtain⟨M,hed,X,Y,ad⟩:=WK.talk_two hf;have l8:l.length<=8:=Zob M X;have ae:l'.length<=8:=Zob M Y;have ac:=hl.1;have aa:=hl'.1;refine⟨KH.cs h ⟨a,len,cap,a',b,cap'⟩ ⟨e,lv,l,l'⟩,⟨rfl,Zi.rdI H (λ _ _ h=>h)⟩,Zn4.any,(Zkk h ⟨a,len,cap,a',b,cap'⟩ ⟨e,lv,l,l'⟩ none none 0 0 0 0).mono ?_⟩;rintro _ U3⟨⟨b3,b4,P,rfl,T,V,W⟩,G⟩-;have f:=f.trans G;have w:U.frz.lg U3.frz:=(L.trans G.lg).frz2;refine⟨Zpe.any,(Zju h t (ht.lg w) ⟨a,len,cap,a',b,cap'⟩ ⟨e,lv,l,l'⟩ (hl.lg w) (hl'.lg w) (by show len<=8;omega) (by show b<=8;omega) b3 b4 P none 0 0 [] ⟨rfl,S1⟩ O1 T V W).mono ?_⟩;rintro v U4⟨ha,hI,Z⟩-;obtain⟨sa,sl,sc,rfl,-⟩:=Acc.src ha
 repeat refine⟨rfl,?_⟩
 conv=>whnf
 exact⟨_,_,by rw[hf];rfl,by unfold WK.pairsL;rw[if_pos hf],by rw[f.own]at ha;exact ha,λ x o hx=>hI x o (f.imm x o hx),Z.trans f.tok⟩
def Qpa(n:Int):Value:=.int .i64 n
def Qzt(m:List (Int×Int)):List (Int×Value):=m.map λ p=>(p.1,.int .i64 p.2)
def Ztc(y:Int):∀(m:List (Int×Int))(i:Nat),(QL y (Qzt m) i).map (·.2)=(look y m).map (Value.int .i64)
 |[],i=>rfl
 |p::m,i=>by
  simp only[Qzt,map_cons,QL,look];by_cases e:y=p.1
  .simp[e]
  .rw[if_neg e,if_neg e];exact Ztc y m (i+1)
def Zu3(y:Int)(m:List (Int×Int)):lk y (Qzt m)=(look y m).map (Value.int .i64):=Ztc y m 0
def Zrt(y x:Int):∀m:List (Int×Int),ZA y (.int .i64 x) (Qzt m)=Qzt (Qzw y x m)
 |[]=>rfl
 |p::m=>by
  simp only[Qzt,map_cons,ZA,Qzw];by_cases e:y=p.1
  .simp_all
  .rw[if_neg e,if_neg e];have:=Zrt y x m;grind[Qzt]
def Zt2:prog.underlying 3=some (.int .i64):=K1
def Zlh:WI T prog 3 Qpa:=by
 refine .simple Zt2 rfl (λ k k'=>?_) (λ k=>?_)
 .show some (k==k')=some (decide (k=k'));congr 1
 .simp[Instr.sameBits,Qpa]
def Zor:prog.underlying 143=some (.map 3 3):=K1
def Zq0:prog.underlying 144=some (.map 3 4):=K1
def Zux(f w h b:Nat):Array Value:=#[.pb f,.pb w,.pb h,.pb b]
def Zrd(pa:Option Addr)(pl pc:Nat)(ps:List (Int×Int))(b3 b9 b5 W H G:Nat)(U:Qa T)(ak:Q7 U.frz pa pl 2 ps λ p vs=>vs=Qam p)(ay:pl<2^60)
  (h3:Zi U.frz b3 #[.slice pa pl pc]) (h9:Zi U.frz b9 #[.map (some H)]) (h5:Zi U.frz b5 #[.map (some G)]) (an:Zi U.frz W #[.func (.func 70) #[] (Zux b3 b9 b5 W)]) (M₀:List Qw) :
  ∀(n:Nat)(one:Int)(s:GS)(U0:Qa T),U.frz.lg U0->Qbg ps s.seen<n->U0.M=.obj H (Qt Qpa (Qp3 s.seen))::.obj G (Qt Qpa (Qzt s.own))::M₀ ->
  Qb S 70 #[.int .i64 one,.pb b3,.pb b9,.pb b5,.pb W] (λ v U'=>v=.bool (Zlq ps n one s).1/\U'.M=.obj H (Qt Qpa (Qp3 (Zlq ps n one s).2.seen))::.obj G (Qt Qpa (Qzt (Zlq ps n one s).2.own))::M₀ /\
   (∀x o,U0.I x=some o->U'.I x=some o)/\U'.tok=U0.tok) U0:=by
 intro n
 induction n with
 |zero=>simp_all
 |succ n ih=>
 intro one s U0 hl hn hM;refine Qb.of (args:=[_,_,_,_,_]) Zpk Qf S1 ?_;have ax:=ak.1;refine⟨_,(h3.lg hl).sees rfl,Nat×GS,λ y=>[(0,.int .i64 one),(1,.pb b3),(2,.pb b9),(3,.pb b5),(4,.pb W),(11,.slice pa pl pc),(12,.int .i64 pl),(13,.int .i64 y.1)],
  λ y U'=>U.frz.lg U'/\(∀x o,U0.I x=some o->U'.I x=some o)/\U'.M=.obj H (Qt Qpa (Qp3 y.2.seen))::.obj G (Qt Qpa (Qzt y.2.own))::M₀/\y.1<=pl/\Qbg ps y.2.seen<n+1/\Zlq ps (n+1) one s=Qdf (Zlq ps n) one (ps.drop y.1) y.2,
  λ y=>pl-y.1,(0,s),T1,⟨hl,λ _ _ h=>h,hM,O1,hn,rfl⟩,?_⟩
 rintro⟨i,s⟩f U1⟨P,ab,N,hi,hn,w⟩;simp only at N hi hn w
 repeat refine⟨rfl,?_⟩
 conv=>whnf
 apply Qg<;>intro hc
 .have hlt:i<pl:=by simpa using hc
  obtain⟨ad,p,vs,hx,ap,az,rfl,-,au⟩:=Q7.at ak hlt;have aq:=mem_of_getElem? hx;have ag:Z9 (i+1):=I1
  rw[Hl hx]at w;rw[Qdf]at w;refine⟨ad,i,⟨ap,rfl,hlt⟩,_,⟨rfl,au.lg P⟩,?_⟩
  conv=>whnf
  intro b8 ao;refine⟨_,.refl _,rfl,Zv (vs:=Qam p) ao rfl (by simp[Qam,Value.single]) λ V af K=>?_⟩;have K:Zi V b8 #[.int .i64 p.1,.int .i64 p.2]:=K;have B:=Uf P af;have L:∀x o,U0.I x=some o->V.I x=some o:=λ x o h=>af.imm x o (ab x o h);have X:=af.own.trans N;refine⟨_,K.sees3 (o:=0) rfl,?_⟩
  repeat refine⟨rfl,?_⟩
  conv=>whnf
  apply Jt<;>intro hc
  .have h1:p.1=one:=by simpa using hc
   refine⟨_,(h9.lg B).sees rfl,_,K.sees3 (o:=1) rfl,?_⟩
   conv=>whnf
   refine Ol (k:=p.2) (l:=Qp3 s.seen) Zlh Zq0 Zo6 rfl rfl (.inr (by simp_all)) ?_;rw[Zrq]
   repeat refine⟨rfl,?_⟩
   conv=>whnf
   apply Qg<;>intro hc
   .have hin2:p.2∈s.seen:=by simpa[inS]using hc
    rw[if_pos (.inr hin2)]at w
    repeat refine⟨rfl,?_⟩
    refine⟨ag,rfl,(i+1,s),T1,⟨B,L,X,O1,hn,w⟩,L1⟩
   have ah:p.2∉s.seen:=by simpa[inS]using hc
   rw[if_neg (by simp_all)]at w;have aw:Qbg ps (s.seen++[p.2])<Qbg ps s.seen:=Znj (λ y hy=>mem_append_left _ hy) aq ah S1;refine⟨_,(h9.lg B).sees rfl,_,K.sees3 (o:=1) rfl,?_⟩
   conv=>whnf
   refine YL (k:=p.2) (v:=.bool true) (l:=Qp3 s.seen) (M':=.obj H (Qt Qpa (Qp3 (s.seen++[p.2])))::.obj G (Qt Qpa (Qzt s.own))::M₀) Zlh Zq0 rfl rfl rfl (by rw[X,Zp6 _ _ ah];exact .here) ?_;have E:U.frz.lg { V with M:=.obj H (Qt Qpa (Qp3 (s.seen++[p.2])))::.obj G (Qt Qpa (Qzt s.own))::M₀ }:=⟨B.imm,Zz3,B.tok⟩;have F:Zi ({ V with M:=.obj H (Qt Qpa (Qp3 (s.seen++[p.2])))::.obj G (Qt Qpa (Qzt s.own))::M₀ }:Qa T) b8 #[.int .i64 p.1,.int .i64 p.2]:=K;have Y:({ V with M:=.obj H (Qt Qpa (Qp3 (s.seen++[p.2])))::.obj G (Qt Qpa (Qzt s.own))::M₀ }:Qa T).M=.obj H (Qt Qpa (Qp3 (s.seen++[p.2])))::.obj G (Qt Qpa (Qzt s.own))::M₀:=rfl;have ac:∀x o,U0.I x=some o->({ V with M:=.obj H (Qt Qpa (Qp3 (s.seen++[p.2])))::.obj G (Qt Qpa (Qzt s.own))::M₀ }:Qa T).I x=some o:=L;have av:({ V with M:=.obj H (Qt Qpa (Qp3 (s.seen++[p.2])))::.obj G (Qt Qpa (Qzt s.own))::M₀ }:Qa T).tok=V.tok:=rfl;generalize hU:({ V with M:=.obj H (Qt Qpa (Qp3 (s.seen++[p.2])))::.obj G (Qt Qpa (Qzt s.own))::M₀ }:Qa T)=U3 at E F Y ac av ⊢;clear hU;have am:U3.tok=U0.tok:=E.tok.trans hl.tok.symm;refine⟨_,(h5.lg E).sees rfl,_,F.sees3 (o:=1) rfl,?_⟩
   conv=>whnf
   refine YZ (k:=p.2) (l:=Qzt s.own) Zlh Zor HL rfl rfl (.inr (by simp_all)) ?_;rw[Zu3];cases Q:TM.look p.2 s.own with
   |none=>
    rw[Q]at w;simp only at w
    repeat refine⟨rfl,?_⟩
    refine⟨_,(h5.lg E).sees rfl,_,F.sees3 (o:=1) rfl,?_⟩
    conv=>whnf
    refine YL (k:=p.2) (v:=.int .i64 one) (l:=Qzt s.own) (M':=.obj H (Qt Qpa (Qp3 (s.seen++[p.2])))::.obj G (Qt Qpa (Qzt (Qzw p.2 one s.own)))::M₀) Zlh Zor rfl rfl rfl (by rw[Y,Zrt];exact .there .here) ?_
    repeat refine⟨rfl,?_⟩
    conv=>whnf
    simp_all
   |some o=>
    rw[Q]at w;simp only at w
    repeat refine⟨rfl,?_⟩
    refine⟨_,(an.lg E).sees rfl,Zpk.any,(ih o ⟨s.seen++[p.2],s.own⟩ U3 E (by grind) Y).mono ?_⟩;rintro _ U4⟨rfl,Z,ae,al⟩-;have aj:U.frz.lg U4:=⟨λ b o h=>ae _ _ (E.imm b o h),Zz3,al.trans E.tok⟩;have ai:=F.imI ae;have aa:∀x o,U0.I x=some o->U4.I x=some o:=λ x o h=>ae x o (ac x o h);cases hg:Zlq ps n o ⟨s.seen++[p.2],s.own⟩with
    |mk b s'=>
    rw[hg]at w Z;simp only at Z;cases b with
    |true=>
     simp only at w
     repeat refine⟨rfl,?_⟩
     refine⟨_,(h5.lg aj).sees rfl,_,ai.sees3 (o:=1) rfl,?_⟩
     conv=>whnf
     refine YL (k:=p.2) (v:=.int .i64 one) (l:=Qzt s'.own) (M':=.obj H (Qt Qpa (Qp3 s'.seen))::.obj G (Qt Qpa (Qzt (Qzw p.2 one s'.own)))::M₀) Zlh Zor rfl rfl rfl (by rw[Z,Zrt];exact .there .here) ?_
     repeat refine⟨rfl,?_⟩
     conv=>whnf
     simp_all
    |false=>
     simp only at w;have hu:=Q3z (ps:=ps) (Zhw n o ⟨s.seen++[p.2],s.own⟩ s' (by grind) hg).sub;simp only at hu
     repeat refine⟨rfl,?_⟩
     refine⟨ag,rfl,(i+1,s'),T1,⟨aj,aa,Z,O1,by grind,w⟩,L1⟩
  .have h1:p.1≠one:=by simpa using hc
   rw[if_pos (.inl h1)]at w
   repeat refine⟨rfl,?_⟩
   refine⟨ag,rfl,(i+1,s),T1,⟨B,L,X,O1,hn,w⟩,L1⟩
 .have hge:pl<=i:=by simpa using hc
  rw[drop_eq_nil_of_le O1,Qdf]at w
  repeat refine⟨rfl,?_⟩
  conv=>whnf
  rw[w];exact⟨rfl,N,ab,P.tok.trans hl.tok.symm⟩
def Zo0(ps:List (Int×Int))(st:Nat×List (Int×Int))(a:Int):Qgb ps st a=(if(Zlq ps (ps.length+1) a ⟨[],st.2⟩).1 then st.1+1 else st.1,(Zlq ps (ps.length+1) a ⟨[],st.2⟩).2.own):=by
 grind[Qgb,Zlq]
def Zn6(h:TH)(k:KH)(tk:Qvl)(ha:Z6 U.frz k.aa k.al tk.a)(a4:k.al<2^60)(pa:Option Addr)(pl pc:Nat)(ps:List (Int×Int))(a2:Q7 U.frz pa pl 2 ps λ p vs=>vs=Qam p)(a1:pl<2^60) :
  Qb S 38 #[KH.v h k tk,.slice pa pl pc] (λ v U'=>v=.int .i64 (Qz2 tk.a ps)/\U'=U) U:=by
 refine Qb.pure' (Qb.of (args:=[_,_]) Zph Qf S1 ?_);have a3:=ha.1
 repeat refine⟨rfl,?_⟩
 conv=>whnf
 intro b2 U1 au B;have B:Zi U1 b2 (KH.cs h k tk).toArray:=B
 conv=>whnf
 intro b3 U2 ag F;have B:=B.le ag;have E:=au.trans ag
 conv=>whnf
 refine P3 Qpa λ ob a5=>?_
 conv=>whnf
 intro b5 aw;refine⟨_,.refl _,rfl,Zv (vs:=[.map (some ob)]) aw rfl Zz1 λ U3 X ah=>?_⟩;have ap:U3.M=.obj ob (Qt Qpa [])::U.M:=by rw[X.own];show _::U2.M=_;rw[E.own]
 have V:∀x o,U2.I x=some o->U3.I x=some o:=λ x o h=>X.imm x o h;have G:U.frz.lg U3:=⟨λ x o h=>V x o (E.imm x o h),Zz3,(X.tok.trans E.tok)⟩;have B:=B.imI V;have F:=F.imI V;refine⟨_,B.sees3 (o:=5) rfl,Nat×Nat×List (Int×Int),λ y=>[(2,.pb b2),(3,.pb b3),(5,.pb b5),(6,.int .i64 y.2.1),(13,.slice k.aa k.al k.ac),(14,.int .i64 k.al),(15,.int .i64 y.1)],
  λ y U'=>(∀x o,U3.I x=some o->U'.I x=some o)/\U'.tok=U.tok/\U'.M=.obj ob (Qt Qpa (Qzt y.2.2))::U.M/\y.1<=k.al/\y.2.1<=y.1/\(tk.a.take y.1).foldl (Qgb ps) (0,[])=y.2,
  λ y=>k.al-y.1,(0,0,[]),T1,⟨λ _ _ h=>h,G.tok,ap,O1,S1,rfl⟩,?_⟩
 rintro⟨i,many,own⟩f U4⟨af,Z,W,hi,a0,w⟩;simp only at W a0 hi w;have T:U.frz.lg U4:=⟨λ x o h=>af x o (G.imm x o h),Zz3,Z⟩
 repeat refine⟨rfl,?_⟩
 conv=>whnf
 apply Qg<;>intro hc
 .have hlt:i<k.al:=by simpa using hc
  obtain⟨ad,a,hx,az,-,hs⟩:=(ha.lg T).at hlt;have ak:Z9 (i+1):=I1
  have w:(tk.a.take (i+1)).foldl (Qgb ps) (0,[])=Qgb ps (many,own) a:=by rw[Wf hx,foldl_append,w];rfl
  have am:Z9 (many+1):=I1
  refine⟨ad,i,⟨az,rfl,hlt⟩,_,hs,?_⟩
  conv=>whnf
  refine P3 Qpa λ sb a6=>?_
  conv=>whnf
  intro b9 ax;refine⟨_,.refl _,rfl,Zv (vs:=[.map (some sb)]) ax rfl Zz1 λ U5 Y av=>?_⟩
  conv=>whnf
  intro ae ai;refine⟨_,.refl _,rfl,Zv (vs:=[.func (.func 70) #[] (Zux b3 b9 b5 ae)]) ai rfl Zz1 λ N L Q=>?_⟩;have aq:N.M=.obj sb (Qt Qpa [])::.obj ob (Qt Qpa (Qzt own))::U.M:=by rw[L.own,Y.own];show _::U4.M=_;rw[W]
  have H:∀x o,U3.I x=some o->N.I x=some o:=λ x o h=>L.imm x o (Y.imm x o (af x o h));have ab:N.tok=U.tok:=L.tok.trans (Y.tok.trans Z);have aj:U.frz.lg N.frz:=⟨λ x o h=>H x o (G.imm x o h),⟨[],rfl⟩,ab⟩
  have hg:=(Zrd (S:=S) pa pl pc ps b3 b9 b5 ae sb ob N (a2.lg aj λ _ _ h=>h) a1 (F.imI H) (av.imI L.imm) (ah.imI H) Q U.M (ps.length+1) a ⟨[],own⟩ N Qr (by grind[Qbg]) aq).post
   (R':=λ v U'=>v=.bool (Zlq ps (ps.length+1) a ⟨[],own⟩).1/\U'.M=.obj ob (Qt Qpa (Qzt (Zlq ps (ps.length+1) a ⟨[],own⟩).2.own))::U.M/\(∀x o,N.I x=some o->U'.I x=some o)/\U'.tok=N.tok)
   λ v U'⟨h1,h2,h3,h4⟩=>⟨_,Zx (M':=.obj ob (Qt Qpa (Qzt (Zlq ps (ps.length+1) a ⟨[],own⟩).2.own))::U.M) (by simp_all),h1,rfl,h3,h4⟩
  refine⟨_,Q.sees rfl,Zpk.any,hg.mono ?_⟩;rintro _ U7⟨rfl,K,ao,an⟩-;have P:∀x o,U3.I x=some o->U7.I x=some o:=λ x o h=>ao x o (H x o h);rw[Zo0]at w;cases ay:Zlq ps (ps.length+1) a ⟨[],own⟩with
  |mk b s'=>
  rw[ay]at K w;simp only at K w;cases b with
  |true=>
   simp only[if_true]at w
   repeat refine⟨rfl,?_⟩
   refine⟨am,ak,rfl,(i+1,many+1,s'.own),T1,⟨P,an.trans ab,K,O1,by simp_all,w⟩,L1⟩
  |false=>
   simp only[Bool.false_eq_true,if_false]at w
   repeat refine⟨rfl,?_⟩
   refine⟨ak,rfl,(i+1,many,s'.own),T1,⟨P,an.trans ab,K,O1,by grind,w⟩,L1⟩
 .have hge:k.al<=i:=by simpa using hc
  rw[take_of_length_le O1]at w
  repeat refine⟨rfl,?_⟩
  conv=>whnf
  exact⟨by unfold Qz2;rw[w],λ x o h=>T.imm x o h,⟨[_],W⟩,Z⟩
def Qn8:List Int->List Int->Int
 |[],[]=>0
 |[],_::_=>-1
 |_::_,[]=>1
 |a::l,b::r=>if a<b then -1 else if b<a then 1 else Qn8 l r
def Znl(a:Int):Qb S 106 #[.int .i64 a] (λ v U'=>v=.bool false/\U'=U) U:=by
 refine Qb.of (args:=[_]) Fw Qf S1 ?_
 repeat refine⟨rfl,?_⟩
 conv=>whnf
 exact⟨S1,rfl⟩
def Zr1(a b:Int):Qb S 73 #[.int .i64 a,.int .i64 b] (λ v U'=>v=.int .i64 (if a<b then -1 else if b<a then 1 else 0)/\U'=U) U:=by
 refine Qb.of (args:=[_,_]) Zsg Qf S1 ?_;refine⟨Fw.any,(Znl a).go λ _=>?_⟩;refine⟨Fw.any,(Znl b).go λ _=>?_⟩
 repeat refine⟨rfl,?_⟩
 conv=>whnf
 apply Qg<;>intro f
 .have h:a<b:=by simpa using f
  repeat refine⟨rfl,?_⟩
  conv=>whnf
  exact⟨by rw[if_pos h],rfl⟩
 have h:¬a<b:=by simpa using f
 repeat refine⟨rfl,?_⟩
 conv=>whnf
 apply Qg<;>intro f
 .have h2:b<a:=by simpa using f
  repeat refine⟨rfl,?_⟩
  conv=>whnf
  exact⟨by rw[if_neg h,if_pos h2],rfl⟩
 have h2:¬b<a:=by simpa using f
 repeat refine⟨rfl,?_⟩
 conv=>whnf
 grind
def Zmm(a a':Option Addr)(len cap h cap':Nat)(l l':List Int)(hl:Z6 U a len l)(hl':Z6 U a' h l')(H:len<2^60)(G:h<2^60) :
  Qb S 40 #[.slice a len cap,.slice a' h cap'] (λ v U'=>v=.int .i64 (Qn8 l l')/\U'=U) U:=by
 refine Qb.of (args:=[_,_]) Zpi Qf S1 ?_;have M:=hl.1;have I:=hl'.1
 repeat refine⟨rfl,?_⟩
 refine⟨Nat,λ i=>[(0,.slice a len cap),(1,.slice a' h cap'),(9,.slice a len cap),(10,.int .i64 len),(11,.int .i64 i)],
  λ i U'=>U'=U/\i<=len/\i<=h/\Qn8 l l'=Qn8 (l.drop i) (l'.drop i),λ i=>len-i,0,T1,⟨rfl,O1,O1,S1⟩,?_⟩
 rintro i f _⟨rfl,hi,L,b⟩
 repeat refine⟨rfl,?_⟩
 conv=>whnf
 apply Qg<;>intro w
 .have hlt:i<len:=by simpa using w
  obtain⟨K,x,hx,rfl,P,N⟩:=hl.at hlt;refine⟨K,i,⟨rfl,rfl,hlt⟩,_,N,?_⟩
  repeat refine⟨rfl,?_⟩
  conv=>whnf
  apply Qg<;>intro w
  .have hge:h<=i:=by simp at w;omega
   repeat refine⟨rfl,?_⟩
   conv=>whnf
   rw[b,Hl hx,show l'.drop i=[] from drop_eq_nil_of_le O1];exact⟨rfl,rfl⟩
  .have hlt':i<h:=by simp at w;omega
   obtain⟨B,y,hy,rfl,F,E⟩:=hl'.at hlt';rw[Hl hx,Hl hy,Qn8]at b;refine⟨B,i,⟨rfl,rfl,hlt'⟩,_,E,Zsg.any,(Zr1 x y).go λ _=>?_⟩;by_cases h1:x<y
   .rw[if_pos h1]at b ⊢
    repeat refine⟨rfl,?_⟩
    conv=>whnf
    simp_all
   .rw[if_neg h1]at b ⊢;by_cases h2:y<x
    .rw[if_pos h2]at b ⊢
     repeat refine⟨rfl,?_⟩
     conv=>whnf
     simp_all
    .rw[if_neg h2]at b ⊢
     repeat refine⟨rfl,?_⟩
     refine⟨I1,?_⟩
     conv=>whnf
     exact⟨rfl,i+1,T1,⟨rfl,O1,O1,b⟩,L1⟩
 .have hge:i=len:=by simp at w;omega
  subst hge;rw[show l.drop i=[] from drop_eq_nil_of_le O1]at b
  repeat refine⟨rfl,?_⟩
  conv=>whnf
  apply Qg<;>intro w
  .have hlt:i<h:=by simpa using w
   obtain⟨B,y,hy,rfl,F,E⟩:=hl'.at hlt;rw[Hl hy]at b
   repeat refine⟨rfl,?_⟩
   conv=>whnf
   exact⟨by rw[b];rfl,rfl⟩
  .have hge:h<=i:=by simpa using w
   rw[show l'.drop i=[] from drop_eq_nil_of_le O1]at b
   repeat refine⟨rfl,?_⟩
   conv=>whnf
   exact⟨by rw[b];rfl,rfl⟩
variable{x y:Int×Int}
def Zlo{v:Value}(h:Acc 41 2 v (g.flatMap Qam) U.M M₀):∃a cap,v=.slice a g.length cap/\Q7 U a g.length 2 g λ p vs=>vs=Qam p:=by
 obtain⟨a,len,cap,rfl,hl,w⟩:=h.src
 have:len=g.length:=by
  have h2:=Qvu g;have f:g.length*2=len*2:=h2.symm.trans hl;exact(Nat.eq_of_mul_eq_mul_right D1 f).symm
 subst this;refine⟨a,cap,rfl,Zsz (n:=2) (λ _=>rfl) w ?_ D1⟩;rintro B rfl;rcases h with⟨h1,_⟩|⟨b,c,len,cap',h1,_⟩
 .cases h1
 .cases h1;rfl
def Zs6(c:Array Value)(k:Nat)(x:Int×Int):Prop:=c[k*2]?=some (.int .i64 x.1)/\c[k*2+1]?=some (.int .i64 x.2)
def Zrn:∀{l:List (Int×Int)}{k:Nat}{x:Int×Int},l[k]?=some x->(l.flatMap Qam)[k*2]?=some (.int .i64 x.1)/\(l.flatMap Qam)[k*2+1]?=some (.int .i64 x.2)
 |y::l,0,x,h=>by simp at h;subst h;exact⟨rfl,rfl⟩
 |y::l,k+1,x,h=>by
  have:=Zrn (l:=l) (k:=k) (by simpa using h);rw[show(k+1)*2=k*2+1+1 by omega,show k*2+1+1+1=(k*2+1)+1+1 by omega];exact this
def Zpw:∀{l:List (Int×Int)}{i:Nat}{v:Value},(l.flatMap Qam)[i]?=some v->∃k x,l[k]?=some x/\((i=k*2/\v=.int .i64 x.1)\/(i=k*2+1/\v=.int .i64 x.2))
 |[],i,v,h=>by simp at h
 |y::l,0,v,h=>by
  have h:some (Value.int .i64 y.1)=some v:=h;exact⟨0,y,rfl,.inl ⟨rfl,(Option.some.inj h).symm⟩⟩
 |y::l,1,v,h=>by
  have h:some (Value.int .i64 y.2)=some v:=h;exact⟨0,y,rfl,.inr ⟨rfl,(Option.some.inj h).symm⟩⟩
 |y::l,i+2,v,h=>by
  obtain⟨k,x,h1,h2⟩:=Zpw (l:=l) (i:=i) h;exact⟨k+1,x,by simpa using h1,h2.imp (λ⟨a,b⟩=>⟨O1,b⟩) λ⟨a,b⟩=>⟨O1,b⟩⟩
def Ztx(w:U.M=.obj b (.cells c j (0,0))::M₀)(h:Zs6 c k x):Je U ((Addr.mk b 0 none).add (k*2)) (Qam x):=by
 intro i v f;rw[Qo,Qo];have:i=0\/i=1:=by have:=(Zz4 f);simp[Qam]at this;omega
 refine⟨rfl,.inl ⟨c,j,(0,0),.inr (by rw[w];exact mem_cons_self ..),?_⟩⟩;rcases this with rfl|rfl
 .simp[Qam]at f;subst f;simpa using h.1
 .simp[Qam]at f;subst f;simpa using h.2
def Zuq(hi:i*2+1<c.size):Zs6 (ZU c (i*2) (Qam x) 0) i x:=by
 constructor
 .rw[Po _ _ _ _ _ (by simp[Qam];omega),if_pos (by simp[Qam])];simp[Qam]
 .rw[Po _ _ _ _ _ (by simp[Qam];omega),if_pos (by simp[Qam])];simp[Qam]
def Zq5(hi:i*2+1<c.size)(b:k≠i)(h:Zs6 c k y):Zs6 (ZU c (i*2) (Qam x) 0) k y:=by
 constructor
 .rw[Po _ _ _ _ _ (by simp[Qam];omega),if_neg (by simp[Qam];omega)];exact h.1
 .rw[Po _ _ _ _ _ (by simp[Qam];omega),if_neg (by simp[Qam];omega)];exact h.2
section
def Zsm:prog.underlying 31=some (.slice 41):=K1
def Zt1:∃b,prog.info? 41=some b/\b.zero=some (.agg #[.int .i64 0,.int .i64 0]):=by
 have h1:(prog.info? 41).map (·.zero)=some (some (.agg #[.int .i64 0,.int .i64 0])):=K1
 simp_all
def Zpa(a:Option Addr)(len cap:Nat)(l:List (Int×Int))(hl:Q7 U a len 2 l λ p vs=>vs=Qam p)(H:len<=400000) :
  Qb S 75 #[.slice a len cap] (λ v U'=>Acc 41 2 v (l.flatMap Qam) U'.M U.M/\(∀x o,U.I x=some o->U'.I x=some o)/\U'.tok=U.tok) U:=by
 refine Qb.of (args:=[_]) Zsi Qf S1 ?_;have F:=hl.1
 conv=>whnf
 refine K6 Zsm rfl ?_
 conv=>whnf
 apply Qg<;>intro G
 .have ha:a=none:=by simpa using G
  subst ha
  have:l=[]:=by
   cases l with
   |nil=>rfl
   |cons x r=>obtain⟨b,vs,h,_⟩:=hl.2 0 x rfl;cases h
  subst this
  repeat apply R1
  conv=>whnf
  exact⟨.nil,λ _ _ h=>h,rfl⟩
 .obtain⟨b,rfl⟩:∃b,a=some b:=by cases a with|none=>cases G|some b=>exact⟨b,rfl⟩
  conv=>whnf
  intro E P;refine⟨_,.refl _,?_⟩
  conv=>whnf
  refine Wn (v:=.slice (some ⟨E,0,none⟩) 0 0) (cs:=[]) (new:=l.flatMap Qam) (M₀:=U.M) Zoq rfl rfl .empty (.inr ⟨_,rfl,λ i v Q=>?_⟩) (by rw[Qvu,F]) (by intro w T;obtain⟨q,_,K⟩:=mem_flatMap.1 T;simp[Qam]at K;rcases K with rfl|rfl <;> rfl) (by rw[Qvu];simp;omega) λ X M' f _=>?_
  .obtain⟨k,x,hx,h⟩:=Zpw Q;obtain⟨N,vs,e,B,rfl,_,L⟩:=hl.2 k x hx;cases e;rcases h with⟨rfl,rfl⟩|⟨rfl,rfl⟩
   .have:=L 0 _ rfl;rw[pe _ B]at this;exact this.lg (Z2 E _)
   .have:=L 1 _ rfl;rw[pe _ B]at this;exact this.lg (Z2 E _)
  obtain⟨V,W,tc,rfl,-,-⟩:=Acc.src (U:={ U with M:=M' }) f
  repeat apply R1
  conv=>whnf
  exact⟨by simpa using f,λ _ _ h=>h,rfl⟩
def Zu7(n:Nat):∀w∈(Builtin.zeroCells (Value.agg #[.int .i64 0,.int .i64 0]).cells n).toList,w.single=true:=by
 intro w b;simp only[Builtin.zeroCells,Value.cells,Array.toList_map,mem_map]at b;obtain⟨i,_,rfl⟩:=b;have:i % 2=0\/i % 2=1:=O1
 show(#[Value.int .i64 0,.int .i64 0][i % 2]!).single=true;rcases this with h|h <;> rw[h] <;> rfl
def Zo3(v:Value)(l:List (Int×Int))(M₀:List Qw)(ha:Acc 41 2 v (l.flatMap Qam) U.M M₀)(am:l.length<=400000)(g:FuncId)(first w:Array Value)(p:Int×Int->Bool)
  (hg:(prog.funcs[g]?.any λ fd=>fd.body.isSome&&fd.name != "runtime.NumGoroutine")=true)
  (P:∀Y,U.frz.lg Y->∀x∈l,Qb S g (first.toList++[Value.agg (Qam x).toArray]++w.toList).toArray (λ v U'=>v=.bool (p x)/\U'=Y) Y) :
  Qb S 74 #[v,.func (.func g) first w] (λ v' U'=>Acc 41 2 v' ((l.filter λ x=>!p x).flatMap Qam) U'.M M₀/\(∀x o,U.I x=some o->U'.I x=some o)/\U'.tok=U.tok) U:=by
 obtain⟨sa,sc,rfl,ak⟩:=Zlo ha;refine Qb.of (args:=[_,_]) Zsh Qf S1 ?_;refine⟨Zqo.any,(Zrg Qam sa l.length sc l ak O1 g first w p ⟨hg,λ n hn=>P U Qr n hn⟩).go λ _=>?_⟩;rcases Zpx p l with⟨hi,V⟩|⟨i0,x0,hi,ae,al,V⟩
 .rw[hi]
  repeat refine⟨rfl,?_⟩
  refine⟨?_,λ _ _ h=>h,rfl⟩;rw[filter_eq_self.2 λ n hn=>by simp[V n hn]];exact ha
 .have hi_0:i0<l.length:=(Zz4 ae);rcases ha with⟨h1,h2,_⟩|⟨b,c,len,cap,h1,h2,h3,h4,hM,h5⟩
  .have:=Qvu l;rw[h2]at this;simp at this;omega
  rw[Qvu]at h2;obtain rfl:len=l.length:=(Nat.eq_of_mul_eq_mul_right D1 h2).symm;cases h1;rw[hi];have h5:∀k x,l[k]?=some x->Zs6 c k x:=λ k x hx=>⟨h5 _ _ (Zrn hx).1,h5 _ _ (Zrn hx).2⟩
  repeat refine⟨rfl,?_⟩
  refine⟨I1,?_⟩
  refine⟨Nat×Nat×Array Value,λ y=>[(0,.slice (some ⟨b,0,none⟩) l.length sc),(1,.func (.func g) first w),(5,.int .i64 y.2.1),(6,.int .i64 y.1)],
   λ y U'=>(∀x o,U.I x=some o->U'.I x=some o)/\U'.tok=U.tok/\U'.M=.obj b (.cells y.2.2 41 (0,0))::M₀/\y.2.2.size=sc*2/\y.1<=l.length/\y.2.1<y.1/\((l.take y.1).filter λ n=>!p n).length=y.2.1 /\
    (∀(k:Nat)x,((l.take y.1).filter λ n=>!p n)[k]?=some x->Zs6 y.2.2 k x)/\(∀(k:Nat)x,y.1<=k->l[k]?=some x->Zs6 y.2.2 k x),
   λ y=>l.length-y.1,(i0+1,i0,c),T1,?_,?_⟩
  .have X:(l.take (i0+1)).filter (λ n=>!p n)=l.take i0:=by
    rw[Wf ae,filter_append,filter_eq_self.2 λ n hn=>by simp[V n hn]];simp[al]
   refine⟨λ _ _ h=>h,rfl,hM,by show c.size=sc*2;omega,Zz2,Zz2,by simp only[X];simp;omega,λ k x hx=>?_,λ k x _ hx=>h5 k _ hx⟩;grind
  rintro⟨j,i,c'⟩f Y⟨hI,ht,B,W,hj,ai,F,E,L⟩;simp only at B W hj ai F E L;have G:U.frz.lg Y:=⟨hI,Zz3,ht⟩
  repeat refine⟨rfl,?_⟩
  conv=>whnf
  apply Qg<;>intro hc
  .have hlt:j<l.length:=by simpa using hc
   have hx:l[j]?=some (l[j]'hlt):=S1
   generalize l[j]'hlt=x at hx;have ad:Z9 (j+1):=I1
   have aj:Z9 (i+1):=I1
   refine⟨_,j,⟨rfl,rfl,hlt⟩,Qam x,⟨rfl,Ztx B (L j x (Nat.le_refl _) hx)⟩,?_⟩
   conv=>whnf
   intro b7 af;refine⟨_,.refl _,rfl,Zv (vs:=Qam x) af rfl (by simp[Qam,Value.single]) λ U2 aa ac=>?_⟩;have Z:=aa.own.trans B;have G:=Uf G aa;have N:∀x o,U.I x=some o->U2.I x=some o:=G.imm;have Q:U2.tok=U.tok:=G.tok;refine⟨Qam x,⟨rfl,Zi.rdI ac (λ _ _ h=>h)⟩,hg,(P U2 G x (mem_of_getElem? hx)).go λ _=>?_⟩
   repeat refine⟨rfl,?_⟩
   conv=>whnf
   apply Qg<;>intro hc
   .have hp:p x=false:=by simpa using hc
    have H:(l.take (j+1)).filter (λ n=>!p n)=(l.take j).filter (λ n=>!p n)++[x]:=by
     rw[Wf hx,filter_append];simp[hp]
    refine⟨Qam x,⟨rfl,Zi.rdI ac (λ _ _ h=>h)⟩,_,i,⟨rfl,rfl,O1⟩,rfl,?_⟩;show QX ((Addr.mk b 0 none).add (i*2)) (Qam x) 0 _ _;rw[Qo,Nat.zero_add];refine Yd (M₀:=M₀) (e:=41) [] (Qam x) 0 c' _ Z (by simp[Qam,Value.single]) (by simp[Qam];omega) ⟨_,.refl _,?_⟩;have K:i*2+1<c'.size:=O1
    refine⟨aj,ad,rfl,(j+1,i+1,ZU c' (i*2) (Qam x) 0),T1,⟨N,Q,rfl,by show(ZU _ _ _ _).size=_;rw[VK];exact W,Zz2,Zz2,by simp_all,λ k y hy=>?_,λ k y X hy=>?_⟩,L1⟩
    .simp only[H]at hy;by_cases e:k<i
     .rw[getElem?_append_left O1]at hy;exact Zq5 K O1 (E k y hy)
     .rw[getElem?_append_right O1,F]at hy
      have:k=i:=by
       have:=(Zz4 hy);simp at this;omega
      subst this;simp at hy;subst hy;exact Zuq K
    .simp only at X;exact Zq5 K O1 (L k y O1 hy)
   .have hp:p x=true:=by simpa using hc
    have H:(l.take (j+1)).filter (λ n=>!p n)=(l.take j).filter (λ n=>!p n):=by
     rw[Wf hx,filter_append];simp[hp]
    refine⟨ad,rfl,(j+1,i,c'),T1,⟨N,Q,Z,W,Zz2,Zz2,by simp_all,λ k y hy=>E k y (by simp_all),λ k y X hy=>L k y (by grind) hy⟩,L1⟩
  .have hge:l.length<=j:=by simpa using hc
   rw[take_of_length_le hge]at F E;refine⟨i,l.length,⟨rfl,rfl,O1,O1⟩,?_⟩
   have ab:(if sc=i then some (Addr.mk b 0 none)else(some (Addr.mk b 0 none)).map (·.add (i*2)))=some ⟨b,i*2,none⟩:=by
    rw[if_neg O1];simp[Qo]
   rw[ab]
   conv=>whnf
   obtain⟨an,ag,ah⟩:=Zt1;refine Zlj (len:=l.length-i) (cap:=sc-i) (off:=i*2) (b:=b) Zsm ag ah (n:=2) rfl (Zu7 _) rfl B O1 ?_;refine⟨0,i,⟨rfl,rfl,O1,O1⟩,?_⟩
   have T:(if sc=0 then some (Addr.mk b 0 none)else(some (Addr.mk b 0 none)).map (·.add (0*2)))=some ⟨b,0,none⟩:=by
    rw[if_neg O1];simp[Qo]
   rw[T]
   repeat refine⟨rfl,?_⟩
   refine⟨?_,hI,ht⟩;refine .inr ⟨b,_,i,sc,rfl,by rw[Qvu,F],O1,by rw[VK];omega,rfl,λ k v hv=>?_⟩;obtain⟨q,x,hx,h⟩:=Zpw hv;have hq:q<i:=by have:=(Zz4 hx);omega
   rw[Po _ _ _ _ _ (by rw[BK (n:=2) rfl];omega),if_neg O1];rcases h with⟨rfl,rfl⟩|⟨rfl,rfl⟩
   .exact(E q x hx).1
   .exact(E q x hx).2
def Zpr(b:Nat)(p q:Int×Int)(hb:Zi U b (Qam p).toArray):Qb S 76 #[.agg (Qam q).toArray,.pb b] (λ v U'=>v=.bool (q.1==p.1|| q.2==p.2)/\U'=U) U:=by
 refine Qb.pure' (Qb.of (args:=[_,_]) Zsj Qf S1 ?_);have hb:Zi U b #[.int .i64 p.1,.int .i64 p.2]:=hb
 repeat refine⟨rfl,?_⟩
 conv=>whnf
 intro E B h f;have f:Zi B E #[.int .i64 q.1,.int .i64 q.2]:=f;have hb:=hb.le h;refine⟨_,f.sees3 (o:=0) rfl,_,hb.sees3 (o:=0) rfl,?_⟩
 repeat refine⟨rfl,?_⟩
 conv=>whnf
 apply Jt<;>intro w
 .have h1:(q.1==p.1)=false:=by simpa using w
  refine⟨_,f.sees3 (o:=1) rfl,_,hb.sees3 (o:=1) rfl,?_⟩
  repeat refine⟨rfl,?_⟩
  conv=>whnf
  exact⟨by rw[h1];rfl,h.lg⟩
 .have h1:(q.1==p.1)=true:=by simpa using w
  repeat refine⟨rfl,?_⟩
  conv=>whnf
  exact⟨by rw[h1];rfl,h.lg⟩
