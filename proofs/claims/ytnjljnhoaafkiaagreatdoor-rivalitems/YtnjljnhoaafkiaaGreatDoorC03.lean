/- Lemmas. No conditions. -/
import Derived.Test.YtnjljnhoaafkiaaGreatDoorC00
import Derived.Test.YtnjljnhoaafkiaaGreatDoorB39
import Derived.Test.YtnjljnhoaafkiaaGreatDoorC02
set_option linter.all false
open List
open Go.Proofs.Tryz (prog)
set_option maxRecDepth 100000
namespace Go.Proofs
open Go.TM
variable{T:Type}{S:TM.Sys prog T}{U:Qa T}
attribute [local irreducible] Qb Zm
def Qab(U:Qa T)(n a b:Int):Qb S 60 #[.int .i64 n,.int .i64 a,.int .i64 b] (λ v U'=>v=.bool (QP n a b)/\U'=U) U:=by
 refine Qb.of (args:=[_,_,_]) Qdb Qe S1 ?_
 repeat refine⟨rfl,?_⟩
 conv=>whnf
 apply Jt<;>intro f
 .repeat refine⟨rfl,?_⟩
  conv=>whnf
  exact⟨by unfold QP;rw[f];rfl,rfl⟩
 .repeat refine⟨rfl,?_⟩
  conv=>whnf
  exact⟨by unfold QP;rw[f];rfl,rfl⟩
def Qan(h:TH)(t:WJ)(ht:GG U h t)(n:Int):Qb S 66 #[h.v,.int .i64 n] (λ v U'=>v=.bool (t.isEd n)/\U'=U) U:=by
 refine Qb.pure' (Qb.of (args:=[_,_]) Qy0 Qe S1 ?_);have f:=ht.eds.1;have:=ht.el
 repeat refine⟨rfl,?_⟩
 conv=>whnf
 intro b z w hb;refine⟨_,hb.sees3 rfl,I1,?_⟩;refine⟨Qdb.any,(Qab _ _ _ _).mono ?_⟩;rintro v U'⟨rfl,rfl⟩-
 repeat refine⟨rfl,?_⟩
 conv=>whnf
 exact⟨by rw[<- f];rfl,w.lg⟩
def Zo6(h:TH)(t:WJ)(ht:GG U h t)(n:Int):Qb S 103 #[h.v,.int .i64 n] (λ v U'=>Gn U v (t.items n)/\U'=U) U:=by
 refine Qb.pure' (Qb.of (args:=[_,_]) Zpq Qe S1 ?_);have B:=ht.eds.1;have:=ht.el
 repeat refine⟨rfl,?_⟩
 conv=>whnf
 intro b M f hb;refine⟨_,hb.sees3 rfl,I1,?_⟩;refine⟨Qdb.any,(Qab _ _ _ _).mono ?_⟩;rintro v U'⟨rfl,rfl⟩-;have I:QP n 0 ((h.el:Int)-1)=t.isEd n:=by rw[<- B];rfl
 rw[I]
 conv=>whnf
 apply Qg<;>intro F
 .repeat refine⟨rfl,?_⟩
  conv=>whnf
  have w:t.isEd n=false:=by simpa using F
  exact⟨⟨none,0,0,rfl,by simp[WJ.items,w],λ i x hx=>by simp[WJ.items,w]at hx⟩,f.lg⟩
 .have w:t.isEd n=true:=by simpa using F
  obtain⟨k,rfl,G⟩:∃k:Nat,n=k/\k<h.el:=by
   unfold WJ.isEd QP at w;simp only[Bool.and_eq_true,decide_eq_true_eq]at w;exact⟨n.toNat,O1,O1⟩
  obtain⟨H,x,vs,hx,z,L,⟨v,rfl,a,len,cap,rfl,K⟩,-,E⟩:=ht.eds.at G;refine⟨_,hb.sees3 rfl,H,k,⟨z,rfl,G⟩,_,(E 0 _ rfl).lg f.lg,?_⟩
  repeat refine⟨rfl,?_⟩
  refine⟨⟨a,len,cap,rfl,?_⟩,f.lg⟩;simpa[WJ.items,w,hx]using K
def Qbh(h:TH)(t:WJ)(ht:GG U h t)(e n:Int):Qb S 67 #[h.v,.int .i64 e,.int .i64 n] (λ v U'=>v=.bool (t.isItem e n)/\U'=U) U:=by
 refine Qb.pure' (Qb.of (args:=[_,_,_]) Qoa Qe S1 ?_)
 repeat refine⟨rfl,?_⟩
 conv=>whnf
 intro b E w hb;refine⟨_,⟨rfl,hb.rdT λ _ _ h=>h⟩,Zpq.any,(Zo6 h t (ht.lg w.lg) e).mono ?_⟩;rintro v U'⟨⟨a,len,cap,rfl,B⟩,rfl⟩-;have f:(t.items e).length=len:=B.1;have z:len<2^60:=by rw[<- f];exact ht.items_lt e
 refine⟨I1,?_⟩;refine⟨Qdb.any,(Qab _ _ _ _).mono ?_⟩;rintro v U'⟨rfl,rfl⟩-
 repeat refine⟨rfl,?_⟩
 conv=>whnf
 exact⟨by unfold WJ.isItem;rw[f],w.lg⟩
def Qi0(h:TH)(t:WJ)(ht:GG U h t)(e:Int)(a:Option Addr)(len cap:Nat)(l:List Int)(hl:Z6 U a len l)(I:len<2^60) :
  Qb S 33 #[h.v,.int .i64 e,.slice a len cap] (λ v U'=>v=.int .i64 (t.chk e none l)/\U'=U) U:=by
 refine Qb.pure' (Qb.of (args:=[_,_,_]) Zn1 Qe S1 ?_)
 repeat refine⟨rfl,?_⟩
 conv=>whnf
 intro b M z hb
 refine⟨Nat,λ i=>[(1,.int .i64 e),(2,.slice a len cap),(3,.pointer (some ⟨b,0,none⟩)),(9,.slice a len cap),(10,.int .i64 len),(11,.int .i64 i)],
  λ i U'=>U'=M/\i<=len/\t.chk e none l=t.chk e (if i=0 then none else l[i-1]?) (l.drop i),λ i=>len-i,0,T1,⟨rfl,O1,S1⟩,?_⟩
 rintro i f _⟨rfl,T,w⟩
 repeat refine⟨rfl,?_⟩
 conv=>whnf
 apply Qg<;>intro B
 .have hlt:i<len:=by simpa using B
  obtain⟨H,x,hx,rfl,Q,P⟩:=hl.at hlt;refine⟨H,i,⟨rfl,rfl,hlt⟩,_,P.lg z.lg,_,⟨rfl,hb.rdT λ _ _ h=>h⟩,Qoa.any,(Qbh h t (ht.lg z.lg) e x).mono ?_⟩;rintro v U'⟨rfl,rfl⟩-;rw[Hj hx,WJ.chk_cons]at w
  conv=>whnf
  apply Qg<;>intro B
  .have h':t.isItem e x=false:=by simpa using B
   repeat refine⟨rfl,?_⟩
   conv=>whnf
   exact⟨by rw[w,h'];rfl,z.lg⟩
  .have h':t.isItem e x=true:=by simpa using B
   rw[if_pos h']at w
   repeat refine⟨rfl,?_⟩
   conv=>whnf
   apply Jt<;>intro B
   .have hpos:0<i:=by simpa using B
    refine⟨I1,?_⟩;obtain⟨N,L,G,E,K,F⟩:=hl.at (show i-1<len by omega);cases E;refine⟨H,i-1,⟨rfl,O1,O1⟩,_,F.lg z.lg,?_⟩
    repeat refine⟨rfl,?_⟩
    conv=>whnf
    rw[if_neg O1,G]at w;apply Qg<;>intro B
    .have hc':x<=L:=by simpa using B
     repeat refine⟨rfl,?_⟩
     conv=>whnf
     exact⟨by rw[w];simp[hc'],z.lg⟩
    .have hc':¬x<=L:=by simpa using B
     refine⟨I1,?_⟩;refine⟨rfl,i+1,T1,⟨rfl,O1,?_⟩,L1⟩;rw[w];simp[hc',hx]
   .have hpos:i=0:=by simpa using B
    subst hpos
    repeat refine⟨rfl,?_⟩
    refine⟨I1,?_⟩;refine⟨rfl,1,T1,⟨rfl,O1,?_⟩,L1⟩;rw[w];simp[hx]
 .have hge:len<=i:=by simpa using B
  repeat refine⟨rfl,?_⟩
  refine⟨?_,z.lg⟩;rw[w,drop_eq_nil_of_le (by rw[hl.1];exact hge)];rfl
def Zp9{α:Type}(enc:α->List Value)(a:Option Addr)(len cap:Nat)(l:List α)(B:Q7 U a len 4 l λ x vs=>vs=enc x)(E:len<2^60)(g:FuncId)(first h:Array Value)(p:α->Bool)
  (hf:WW S U g first h (λ x=>.agg (enc x).toArray) l p):Qb S 98 #[.slice a len cap,.func (.func g) first h] (λ v U'=>v=.int .i64 (XB p l)/\U'=U) U:=by
 refine Qb.of (args:=[_,_]) Zq1 Qe S1 ?_;have hl:=B.1
 repeat refine⟨rfl,?_⟩
 refine⟨Nat,λ i=>[(0,.slice a len cap),(1,.func (.func g) first h),(6,.slice a len cap),(7,.int .i64 len),(8,.int .i64 i)],
  λ i U'=>U'=U/\i<=len/\∀x∈l.take i,p x=false,λ i=>len-i,0,T1,⟨rfl,O1,S1⟩,?_⟩
 rintro i f _⟨rfl,K,b⟩
 repeat refine⟨rfl,?_⟩
 conv=>whnf
 apply Qg<;>intro z
 .have hlt:i<len:=by simpa using z
  obtain⟨F,x,vs,hx,rfl,I,rfl,G,H⟩:=B.at hlt;have w:=hf.2 x (mem_of_getElem? hx);refine⟨F,i,⟨rfl,rfl,hlt⟩,_,⟨G,H⟩,hf.1,w.mono ?_⟩;rintro v U'⟨rfl,rfl⟩-
  conv=>whnf
  apply Qg<;>intro z
  .repeat refine⟨rfl,?_⟩
   conv=>whnf
   exact⟨by rw[VR hx z b],rfl⟩
  .refine⟨I1,?_⟩;refine⟨rfl,i+1,T1,⟨rfl,O1,?_⟩,L1⟩;intro y hy;rw[Wf hx,mem_append]at hy;rcases hy with hy|hy
   .exact b y hy
   .simp at hy;subst hy;exact z
 .have hge:len<=i:=by simpa using z
  repeat refine⟨rfl,?_⟩
  refine⟨?_,rfl⟩;rw[take_of_length_le O1]at b;rw[VQ b]
def Zo0(e:Int)(x y:Int)(k:YA):Bool:=k.ed==e&&(k.one==min x y&&k.two==max x y)
def Zn5(z B h:Nat)(e x y:Int)(F:U.sees ⟨z,0,none⟩ (.int .i64 e))(hx:U.sees ⟨B,0,none⟩ (.int .i64 x))(hy:U.sees ⟨h,0,none⟩ (.int .i64 y))(k:YA) :
  Qb S 99 #[.agg #[.int .i64 k.ed,.int .i64 k.one,.int .i64 k.two,.int .i64 k.lev],.pointer (some ⟨z,0,none⟩),.pointer (some ⟨B,0,none⟩),.pointer (some ⟨h,0,none⟩)] (λ v U'=>v=.bool (Zo0 e x y k)/\U'=U) U:=by
 refine Qb.pure' (Qb.of (args:=[_,_,_,_]) Zq2 Qe S1 ?_)
 repeat refine⟨rfl,?_⟩
 conv=>whnf
 intro b G f hb;refine⟨_,hb.sees3 rfl,_,F.lg f.lg,?_⟩
 repeat refine⟨rfl,?_⟩
 conv=>whnf
 have w:Zo0 e x y k=(k.ed==e&&(k.one==min x y&&k.two==max x y)):=rfl;apply Jt<;>intro E
 .refine⟨_,hb.sees3 rfl,_,hx.lg f.lg,_,hy.lg f.lg,?_⟩
  conv=>whnf
  refine Zo4 rfl rfl ?_
  repeat refine⟨rfl,?_⟩
  conv=>whnf
  apply Jt<;>intro E
  .refine⟨_,hb.sees3 rfl,_,hx.lg f.lg,_,hy.lg f.lg,?_⟩
   conv=>whnf
   refine Zo3 rfl rfl ?_
   repeat refine⟨rfl,?_⟩
   conv=>whnf
   exact⟨by rw[w];simp_all,f.lg⟩
  .repeat refine⟨rfl,?_⟩
   conv=>whnf
   exact⟨by rw[w];simp_all,f.lg⟩
 .repeat refine⟨rfl,?_⟩
  conv=>whnf
  exact⟨by rw[w];simp_all,f.lg⟩
def Znu(c:UInt8):Qb S 160 #[.int .u8 c.toNat] (λ v U'=>v=.bool (Gz c)/\U'=U) U:=by
 refine Qb.of (args:=[_]) Zps Qe S1 ?_;have b:Gz c=((decide ((c.toNat:Int)<97)|| decide ((c.toNat:Int) > 122))&&(decide ((c.toNat:Int)<48)|| decide ((c.toNat:Int) > 57))):=rfl
 repeat refine⟨rfl,?_⟩
 conv=>whnf
 apply Jt<;>intro f
 .repeat refine⟨rfl,?_⟩
  conv=>whnf
  apply Jt<;>intro f
  .repeat refine⟨rfl,?_⟩
   conv=>whnf
   apply Jt<;>intro f
   .repeat refine⟨rfl,?_⟩
    conv=>whnf
    exact⟨by rw[b];first|(simp_all;done)|(simp_all;omega),rfl⟩
   .repeat refine⟨rfl,?_⟩
    conv=>whnf
    exact⟨by rw[b];first|(simp_all;done)|(simp_all;omega),rfl⟩
  .repeat refine⟨rfl,?_⟩
   conv=>whnf
   exact⟨by rw[b];first|(simp_all;done)|(simp_all;omega),rfl⟩
 .repeat refine⟨rfl,?_⟩
  conv=>whnf
  apply Jt<;>intro f
  .repeat refine⟨rfl,?_⟩
   conv=>whnf
   exact⟨by rw[b];first|(simp_all;done)|(simp_all;omega),rfl⟩
  .repeat refine⟨rfl,?_⟩
   conv=>whnf
   exact⟨by rw[b];first|(simp_all;done)|(simp_all;omega),rfl⟩
def Q39(a:Option Addr)(len cap:Nat)(l:List UInt8)(hl:l.length=len)(h:∀(i:Nat)x,l[i]?=some x->∃f,a=some f/\f.spot=none/\U.sees (f.add (i*1)) (.int .u8 x.toNat))(b:len<2^60) :
  Qb S 159 #[.slice a len cap,.func (.func 160) #[] #[]] (λ v U'=>v=.bool (l.any Gz)/\U'=U) U:=by
 refine Qb.of (args:=[_,_]) FV Qe S1 ?_;refine⟨FW.any,(zC (λ c:UInt8=>.int .u8 c.toNat) a len cap l hl h (λ x=>⟨_,_,rfl⟩) b 160 #[] #[] Gz ⟨Zps.any,λ x _=>Znu x⟩).mono ?_⟩;rintro v U'⟨rfl,rfl⟩-
 repeat refine⟨rfl,?_⟩
 refine⟨?_,rfl⟩;show Value.bool _=_;rw[Y8]
def Zse:prog.underlying 135=some (.slice 5):=K1
def Ztf:prog.underlying 5=some (.int .u8):=K1
def Zm1(s:ByteArray)(F:s.size<2^60):Qb S 137 #[.string s] (λ v U'=>v=.bool (Zk s)/\U'=U) U:=by
 refine Qb.pure' (Qb.of (args:=[_]) Zpr Qe S1 ?_);have w:s.size=s.data.toList.length:=by rw[Array.length_toList];rfl
 refine⟨Qdb.any,(Qab _ _ _ _).mono ?_⟩;rintro v U'⟨rfl,rfl⟩-
 conv=>whnf
 apply Jt<;>intro f
 .have hb:QP (s.size:Int) 1 10=true:=by simpa using f
  cases h:s.data.toList with
  |nil=>rw[w,h]at hb;simp[QP]at hb
  |cons c r=>
   have E:Zk s=(!(decide ((c.toNat:Int)<97))&&!(decide ((c.toNat:Int) > 122))&&!((c::r).any Gz)):=by unfold Zk;rw[hb,h];rfl
   refine⟨0,c,⟨rfl,M0 h⟩,?_⟩
   repeat refine⟨rfl,?_⟩
   conv=>whnf
   apply Jt<;>intro f
   .have h1:decide ((c.toNat:Int)<97)=false:=by simpa using f
    refine⟨0,c,⟨rfl,M0 h⟩,?_⟩
    repeat refine⟨rfl,?_⟩
    conv=>whnf
    apply Qg<;>intro f
    .repeat refine⟨rfl,?_⟩
     conv=>whnf
     exact⟨by rw[E,f];simp,Qa.le.lg (.refl _)⟩
    .conv=>whnf
     refine gf IY Zse Ztf rfl λ b cap cs fr z B=>?_;refine⟨FV.any,(Q39 (some ⟨b,0,none⟩) s.size cap (c::r) (by rw[w,h]) (λ i x hx=>⟨_,rfl,rfl,?_⟩) F).mono ?_⟩
     .rw[Qo];refine⟨rfl,.inl ⟨cs,5,fr,.inl (by simp[JC]),?_⟩⟩;have:=B i x (by rw[<- Array.getElem?_toList,h];exact hx);simpa using this
     rintro v U''⟨rfl,rfl⟩-
     repeat refine⟨rfl,?_⟩
     refine⟨?_,(Gt z).lg⟩;show Value.bool _=_;rw[E,h1,f];simp
   .have h1:decide ((c.toNat:Int)<97)=true:=by simpa using f
    repeat refine⟨rfl,?_⟩
    conv=>whnf
    exact⟨by rw[E,h1];rfl,Qa.le.lg (.refl _)⟩
 .have hb:QP (s.size:Int) 1 10=false:=by simpa using f
  repeat refine⟨rfl,?_⟩
  conv=>whnf
  exact⟨by unfold Zk;rw[hb];rfl,Qa.le.lg (.refl _)⟩
end Go.Proofs
namespace Go.TM
open Go.Proofs
def WJ.lev(t:WJ)(e x y:Int):Int:=if x=y then 5 else match t.kns.find? (Zo0 e x y)with|some k=>k.lev|none=>0
end Go.TM
namespace Go.Proofs
open Go.TM
variable{T:Type}{S:TM.Sys prog T}{U:Qa T}
attribute [local irreducible] Qb Zm
def Zsj{α:Type}{p:α->Bool}{l:List α}(h:¬XB p l<0):∃i x,XB p l=(i:Nat)/\l[i]?=some x/\l.find? p=some x:=by
 unfold XB at h ⊢;cases hf:l.findIdx? p with
 |none=>rw[hf]at h;simp at h
 |some i=>
  rw[findIdx?_eq_some_iff_getElem]at hf;obtain⟨b,z,f⟩:=hf;refine⟨i,l[i],rfl,S1,?_⟩;rw[find?_eq_some_iff_getElem];exact⟨z,i,b,rfl,λ j w=>by have:=f j w;simpa using this⟩
def Zq9{α:Type}{p:α->Bool}{l:List α}(h:XB p l<0):l.find? p=none:=by
 unfold XB at h;cases hf:l.findIdx? p with
 |none=>rw[findIdx?_eq_none_iff]at hf;rw[find?_eq_none];intro x hx;simp[hf x hx]
 |some i=>rw[hf]at h;simp at h;omega
def Zo7(h:TH)(t:WJ)(ht:GG U h t)(e x y:Int):Qb S 63 #[h.v,.int .i64 e,.int .i64 x,.int .i64 y] (λ v U'=>v=.int .i64 (t.lev e x y)/\U'=U) U:=by
 refine Qb.pure' (Qb.of (args:=[_,_,_,_]) Zqz Qe S1 ?_)
 repeat refine⟨rfl,?_⟩
 conv=>whnf
 intro b1 U1 T b
 conv=>whnf
 intro N U2 H G
 conv=>whnf
 intro P U3 F f
 conv=>whnf
 intro Q Z z B;have w:U.lg Z:=(((T.trans H).trans F).trans z).lg;have b:=b.le ((H.trans F).trans z);have G:=G.le (F.trans z);have f:=f.le z;refine⟨_,f.sees rfl,_,B.sees rfl,?_⟩
 repeat refine⟨rfl,?_⟩
 conv=>whnf
 apply Qg<;>intro I
 .have hxy:x=y:=by simpa using I
  repeat refine⟨rfl,?_⟩
  conv=>whnf
  exact⟨by simp[WJ.lev,hxy],w⟩
 .have hxy:x≠y:=by simpa using I
  have E:t.lev e x y=match t.kns.find? (Zo0 e x y)with|some k=>k.lev|none=>0:=by simp[WJ.lev,hxy]
  refine⟨_,b.sees3 rfl,?_⟩;have Y:=ht.kl;rw[ht.kns.1]at Y;refine⟨Zq1.any,(Zp9 (λ k:YA=>[.int .i64 k.ed,.int .i64 k.one,.int .i64 k.two,.int .i64 k.lev]) _ _ _ _ (ht.kns.lg w λ _ _ h=>h) Y 99 #[] #[_,_,_] (Zo0 e x y) ⟨Zq2.any,λ k _=>Zn5 N P Q e x y (G.sees rfl) (f.sees rfl) (B.sees rfl) k⟩).mono ?_⟩;rintro v U'⟨rfl,rfl⟩-
  repeat refine⟨rfl,?_⟩
  conv=>whnf
  apply Qg<;>intro I
  .have hlt:XB (Zo0 e x y) t.kns<0:=by simpa using I
   repeat refine⟨rfl,?_⟩
   conv=>whnf
   exact⟨by rw[E,Zq9 hlt],w⟩
  .have hlt:¬XB (Zo0 e x y) t.kns<0:=by simpa using I
   obtain⟨i,k,hi,L,V⟩:=Zsj hlt;have K:i<h.kl:=by rw[<- ht.kns.1];exact(List.getElem?_eq_some_iff.1 L).1
   obtain⟨ad,k',vs,M,W,aa,rfl,-,X⟩:=ht.kns.at K;cases L.symm.trans M;refine⟨_,b.sees3 rfl,ad,i,⟨W,hi,K⟩,_,(X 3 _ rfl).lg w,?_⟩
   repeat refine⟨rfl,?_⟩
   conv=>whnf
   exact⟨by rw[E,V],w⟩
end Go.Proofs
namespace Go.TM
def Qp0{κ:Type}(s:List κ):List (κ×Value):=s.map λ k=>(k,.bool true)
def Zr1{κ:Type}[DecidableEq κ](k:κ):∀(s:List κ)(i:Nat),(QL k (Qp0 s) i).map (·.2)=if k∈s then some (.bool true)else none
 |[],i=>rfl
 |a::s,i=>by
  simp only[Qp0,map_cons,QL];by_cases e:k=a
  .simp[e]
  .rw[if_neg e];have:=Zr1 k s (i+1);simp only[Qp0]at this;rw[this];simp[e]
def inS{κ:Type}[DecidableEq κ](k:κ)(s:List κ):Bool:=decide (k∈s)
def Zrz{κ:Type}[DecidableEq κ](k:κ)(s:List κ):(lk k (Qp0 s)).getD (.bool false)=.bool (inS k s):=by
 unfold lk inS;rw[Zr1];by_cases h:k∈s <;> simp[h]
def Zrj{κ:Type}[DecidableEq κ](k:κ):∀(s:List κ),k∉s->ZA k (.bool true) (Qp0 s)=Qp0 (s++[k])
 |[],_=>rfl
 |a::s,h=>by
  simp only[mem_cons,not_or]at h;simp only[Qp0,map_cons,cons_append,ZA,if_neg h.1];have:=Zrj k s h.2;simp only[Qp0]at this;rw[this]
def Zqi{κ:Type}[DecidableEq κ]{k:κ}{s:List κ}(h:inS k s=false):ZA k (.bool true) (Qp0 s)=Qp0 (s++[k]):=Zrj k s (by simpa[inS]using h)
def Qzw(e:Int)(it:Hs)(s:List (Int×ByteArray)):Int:=if Zk it.name then(if inS (e,it.name) s then 5 else if QP it.cls 1 45 then 0 else 1)else 4
def Qgb(e:Int):List Hs->List (Int×ByteArray)->Int×List (Int×ByteArray)
 |[],s=>(0,s)
 |it::r,s=>if Qzw e it s=0 then Qgb e r (s++[(e,it.name)])else(Qzw e it s,s)
def Qjn:Int->List (List Hs)->List (Int×ByteArray)->Int
 |_,[],_=>0
 |e,l::r,s=>if 8<l.length then 2 else if(Qgb e l s).1=0 then Qjn (e+1) r (Qgb e l s).2 else(Qgb e l s).1
def WJ.chkItems(t:WJ):Int:=if QP t.eds.length 1 3 then Qjn 0 t.eds []else 2
end Go.TM
namespace Go.Proofs
open Go.TM
variable{T:Type}{S:TM.Sys prog T}{U:Qa T}
attribute [local irreducible] Qb Zm
def Zsc:Ga prog 218 (Yu prog 218):=.of K1
def Zru(k:Int×ByteArray):List Value:=[.int .i64 k.1,.string k.2]
def Zn4:WG T prog 218 (λ k=>.agg (Zru k).toArray):=by
 refine .struct Zsc (λ k=>?_) (λ k k'=>?_) (λ k=>?_)
 .kernel_rfl
 .obtain⟨a,b⟩:=k;obtain⟨c,d⟩:=k';simp only[Zru,ZF,HT,Lx];rw[Bool.eq_iff_iff];simp
 .simp[Instr.sameBits,Zru,Lx]
def Zpu:prog.underlying 216=some (.map 218 4):=K1
def Zqd:Xa prog 4=some (.bool false):=K1
def Qz3(h:TH)(t:WJ)(ht:GG U h t):Qb S 100 #[h.v] (λ v U'=>v=.int .i64 t.chkItems/\U'=U) U:=by
 refine Qb.pure' (Qb.of (args:=[_]) Zpm Qe S1 ?_);have ae:=ht.eds.1;have aq:=ht.el
 repeat refine⟨rfl,?_⟩
 conv=>whnf
 intro b U1 T hb;refine⟨_,hb.sees3 rfl,Qdb.any,(Qab _ _ _ _).mono ?_⟩;rintro v U'⟨rfl,rfl⟩-
 conv=>whnf
 apply Qg<;>intro E
 .have W:QP (h.el:Int) 1 3=false:=by simpa using E
  repeat refine⟨rfl,?_⟩
  conv=>whnf
  exact⟨by unfold WJ.chkItems;rw[ae,W];rfl,T.lg⟩
 have W:QP (h.el:Int) 1 3=true:=by simpa using E
 have B:t.chkItems=Qjn 0 t.eds []:=by unfold WJ.chkItems;rw[ae,W];rfl
 conv=>whnf
 refine P1 (λ k=>.agg (Zru k).toArray) λ mb aw=>?_;refine⟨_,Qa.sees.lg (hb.sees3 rfl) (Z2 mb _),Nat×List (Int×ByteArray),λ y=>[(1,.pointer (some ⟨b,0,none⟩)),(3,.map (some mb)),(18,.slice h.ea h.el h.ec),(19,.int .i64 h.el),(20,.int .i64 y.1)],
  λ y U'=>U'.lg U'/\U.lg U'/\U'.M=.obj mb (Qt (λ k=>.agg (Zru k).toArray) (Qp0 y.2))::U.M/\y.1<=h.el/\Qjn 0 t.eds []=Qjn y.1 (t.eds.drop y.1) y.2,
  λ y=>h.el-y.1,(0,[]),T1,⟨Qa.le.lg (.refl _),T.lg.trans (Z2 _ _),?_,S1,S1⟩,?_⟩
 .show _::_=_;rw[T.own];rfl
 rintro⟨i,s⟩f U2⟨-,Y,hM,hi,z⟩;simp only at hM hi z
 repeat refine⟨rfl,?_⟩
 conv=>whnf
 apply Qg<;>intro E
 .have hlt:i<h.el:=by simpa using E
  obtain⟨ad,its,vs,hx,ak,ax,⟨v,rfl,ia,il,ic,rfl,hr⟩,-,ap⟩:=ht.eds.at hlt;rw[Hj hx,Qjn]at z;refine⟨ad,i,⟨ak,rfl,hlt⟩,[_],⟨rfl,ap.lg Y⟩,?_⟩
  conv=>whnf
  intro b5 al;refine⟨_,.refl _,rfl,Zv (vs:=[.slice ia il ic]) al rfl (by simp[Value.single]) λ U3 aa N=>?_⟩;have P:=Y.trans aa.lg;have aj:U3.M=_:=aa.own.trans hM;have af:=hr.1;have au:=ht.il its (mem_of_getElem? hx);refine⟨_,N.sees3 (o:=0) rfl,?_⟩
  repeat refine⟨rfl,?_⟩
  conv=>whnf
  apply Qg<;>intro E
  .have H:8<its.length:=by rw[af];simp at E;omega
   repeat refine⟨rfl,?_⟩
   conv=>whnf
   exact⟨by rw[B,z,if_pos H],P⟩
  have H:¬8<its.length:=by rw[af];simp at E;omega
  rw[if_neg H]at z;refine⟨_,N.sees3 (o:=0) rfl,Nat×List (Int×ByteArray),λ y=>[(1,.pointer (some ⟨b,0,none⟩)),(3,.map (some mb)),(4,.int .i64 i),(18,.slice h.ea h.el h.ec),(19,.int .i64 h.el),(20,.int .i64 i),(30,.slice ia il ic),(31,.int .i64 il),(32,.int .i64 y.1)],
   λ y U'=>U.lg U'/\U'.M=.obj mb (Qt (λ k=>.agg (Zru k).toArray) (Qp0 y.2))::U.M/\y.1<=il/\Qgb i its s=Qgb i (its.drop y.1) y.2,
   λ y=>il-y.1,(0,s),T1,⟨P,aj,S1,S1⟩,?_⟩
  rintro⟨j,L⟩f U4⟨K,Q,hj,w⟩;simp only at Q hj w
  repeat refine⟨rfl,?_⟩
  conv=>whnf
  apply Qg<;>intro E
  .have hjl:j<il:=by simpa using E
   obtain⟨ai,it,vs,ah,rfl,av,rfl,-,ag⟩:=hr.at hjl;rw[Hj ah,Qgb]at w;have ao:=ht.nl its (mem_of_getElem? hx) it (mem_of_getElem? ah);refine⟨ai,j,⟨rfl,rfl,hjl⟩,_,⟨rfl,ag.lg K⟩,?_⟩
   conv=>whnf
   intro b7 am;refine⟨_,.refl _,rfl,Zv (vs:=[.string it.name,.int .i64 it.cls]) am rfl (by simp[Value.single]) λ U5 ab G=>?_⟩;refine⟨_,G.sees3 (o:=0) rfl,?_⟩
   conv=>whnf
   intro b8 an;refine⟨_,.refl _,rfl,Zv (vs:=[.int .i64 i,.string it.name]) an rfl (by simp[Value.single]) λ U6 V ac=>?_⟩;have G:=G.le V;have F:=K.trans (ab.trans V).lg;have Z:U6.M=_:=(ab.trans V).own.trans Q;refine⟨_,G.sees3 (o:=0) rfl,Zpr.any,(Zm1 it.name ao).mono ?_⟩;rintro v U'⟨rfl,rfl⟩-
   conv=>whnf
   apply Qg<;>intro E
   .have hn:Zk it.name=false:=by simpa using E
    repeat refine⟨rfl,?_⟩
    conv=>whnf
    have hf:Qzw i it L=4:=by unfold Qzw;rw[hn];rfl
    rw[hf]at w;exact⟨by rw[B,z,w];rfl,F⟩
   have hn:Zk it.name=true:=by simpa using E
   refine⟨[.int .i64 i,.string it.name],⟨rfl,ac.rd⟩,?_⟩
   conv=>whnf
   refine Of (k:=((i:Int),it.name)) Zn4 Zpu Zqd rfl rfl (.inr (by rw[Z];exact mem_cons_self ..)) ?_;rw[Zrz]
   repeat refine⟨rfl,?_⟩
   conv=>whnf
   apply Qg<;>intro E
   .have I:inS ((i:Int),it.name) L=true:=by simpa using E
    repeat refine⟨rfl,?_⟩
    conv=>whnf
    have hf:Qzw i it L=5:=by unfold Qzw;rw[if_pos hn,if_pos I]
    rw[hf]at w;exact⟨by rw[B,z,w];rfl,F⟩
   have I:inS ((i:Int),it.name) L=false:=by simpa using E
   refine⟨_,G.sees3 (o:=1) rfl,Qdb.any,(Qab _ _ _ _).mono ?_⟩;rintro v U'⟨rfl,rfl⟩-
   conv=>whnf
   apply Qg<;>intro E
   .have X:QP it.cls 1 45=false:=by simpa using E
    repeat refine⟨rfl,?_⟩
    conv=>whnf
    have hf:Qzw i it L=1:=by unfold Qzw;rw[if_pos hn,I,X];rfl
    rw[hf]at w;exact⟨by rw[B,z,w];rfl,F⟩
   have X:QP it.cls 1 45=true:=by simpa using E
   have hf:Qzw i it L=0:=by unfold Qzw;rw[if_pos hn,I,X];rfl
   rw[if_pos hf]at w;refine⟨[.int .i64 i,.string it.name],⟨rfl,ac.rd⟩,?_⟩
   conv=>whnf
   refine YF (v:=.bool true) (k:=((i:Int),it.name)) (l:=Qp0 L) (M':=.obj mb (Qt (λ k=>.agg (Zru k).toArray) (Qp0 (L++[((i:Int),it.name)])))::U.M) Zn4 Zpu rfl rfl rfl (by rw[Z,Zqi I];exact .here) ?_;refine⟨I1,?_⟩;refine⟨rfl,(j+1,L++[((i:Int),it.name)]),T1,⟨⟨F.imm,⟨[_],rfl⟩,F.tok⟩,rfl,by show j+1<=il;omega,w⟩,L1⟩
  .have hge:il<=j:=by simpa using E
   rw[drop_eq_nil_of_le O1,Qgb]at w;rw[w,if_pos rfl]at z;refine⟨I1,?_⟩;refine⟨rfl,(i+1,L),T1,⟨Qa.le.lg (.refl _),K,Q,by show i+1<=h.el;omega,?_⟩,L1⟩;rw[z];simp
 .have hge:h.el<=i:=by simpa using E
  repeat refine⟨rfl,?_⟩
  conv=>whnf
  rw[drop_eq_nil_of_le O1]at z;exact⟨by rw[B,z];rfl,Y⟩
end Go.Proofs
namespace Go.TM
variable{T:Type}{U:Qa T}
def WJ.mvOk(t:WJ)(m:YB):Bool:=t.isEd m.ed&&(t.isEd (m.ed+1)&&(t.isItem m.ed m.fr&&t.isItem (m.ed+1) m.to))
def WJ.chkMv(t:WJ)(m:YB)(s:List (Int×Int×Int)):Int:=if t.mvOk m then(if inS (m.ed,m.fr,m.to) s then 5 else 0)else 6
def WJ.chkMvs(t:WJ):List YB->List (Int×Int×Int)->Int
 |[],_=>0
 |m::r,s=>if t.chkMv m s=0 then t.chkMvs r (s++[(m.ed,m.fr,m.to)])else t.chkMv m s
def WJ.chkMoves(t:WJ):Int:=if 16<t.mvs.length then 2 else t.chkMvs t.mvs []
def WJ.knOk(t:WJ)(k:YA):Bool:=t.isEd k.ed&&(t.isItem k.ed k.one&&t.isItem k.ed k.two)
def WJ.chkKn(t:WJ)(k:YA)(s:List (Int×Int×Int)):Int:=if t.knOk k then(if k.one<k.two then(if QP k.lev 1 5 then(if inS (k.ed,k.one,k.two) s then 5 else 0)else 1)else 7)else 6
def WJ.chkKns(t:WJ):List YA->List (Int×Int×Int)->Int
 |[],_=>0
 |k::r,s=>if t.chkKn k s=0 then t.chkKns r (s++[(k.ed,k.one,k.two)])else t.chkKn k s
def WJ.chkKins(t:WJ):Int:=if 10<t.kns.length then 2 else t.chkKns t.kns []
def WJ.flaw(t:WJ):Int:=if t.chkItems=0 then(if t.chkMoves=0 then t.chkKins else t.chkMoves)else t.chkItems
def WJ.isEd_lt{t:WJ}{e:Int}(h:t.isEd e=true):0<=e/\e<t.eds.length:=by
 unfold WJ.isEd QP at h;simp only[Bool.and_eq_true,decide_eq_true_eq]at h;omega
end Go.TM
namespace Go.Proofs
open Go.TM
variable{T:Type}{S:TM.Sys prog T}{U:Qa T}
attribute [local irreducible] Qb Zm
def Zpt:Ga prog 157 (Yu prog 157):=.of K1
def Zsg(k:Int×Int×Int):List Value:=[.int .i64 k.1,.int .i64 k.2.1,.int .i64 k.2.2]
def Zn2:WG T prog 157 (λ k=>.agg (Zsg k).toArray):=by
 refine .struct Zpt (λ k=>?_) (λ k k'=>?_) (λ k=>?_)
 .kernel_rfl
 .obtain⟨a,b,c⟩:=k;obtain⟨a',f,c'⟩:=k';simp only[Zsg,ZF,HT];rw[Bool.eq_iff_iff];simp
 .simp[Instr.sameBits,Zsg]
def Zsb:Ga prog 159 (Yu prog 159):=.of K1
def Zsh(k:Int×Int×Int):List Value:=[.int .i64 k.1,.int .i64 k.2.1,.int .i64 k.2.2,.int .i64 0]
def Zn3:WG T prog 159 (λ k=>.agg (Zsh k).toArray):=by
 refine .struct Zsb (λ k=>?_) (λ k k'=>?_) (λ k=>?_)
 .kernel_rfl
 .obtain⟨a,b,c⟩:=k;obtain⟨a',f,c'⟩:=k';simp only[Zsh,ZF,HT];rw[Bool.eq_iff_iff];simp
 .simp[Instr.sameBits,Zsh]
def Zpv:prog.underlying 219=some (.map 157 4):=K1
def Zpw:prog.underlying 220=some (.map 159 4):=K1
def Qz4(h:TH)(t:WJ)(ht:GG U h t):Qb S 101 #[h.v] (λ v U'=>v=.int .i64 t.chkMoves/\U'=U) U:=by
 refine Qb.pure' (Qb.of (args:=[_]) Zpo Qe S1 ?_);have W:=ht.mvs.1;have ag:=ht.ml;have hed:=ht.el
 repeat refine⟨rfl,?_⟩
 conv=>whnf
 intro b X N hb;refine⟨_,hb.sees3 rfl,?_⟩
 repeat refine⟨rfl,?_⟩
 conv=>whnf
 apply Qg<;>intro E
 .have K:16<t.mvs.length:=by rw[W];simp at E;omega
  repeat refine⟨rfl,?_⟩
  conv=>whnf
  exact⟨by unfold WJ.chkMoves;rw[if_pos K],N.lg⟩
 have K:¬16<t.mvs.length:=by rw[W];simp at E;omega
 have F:t.chkMoves=t.chkMvs t.mvs []:=by unfold WJ.chkMoves;rw[if_neg K]
 conv=>whnf
 refine P1 (λ k=>.agg (Zsg k).toArray) λ mb af=>?_;refine⟨_,Qa.sees.lg (hb.sees3 rfl) (Z2 mb _),?_⟩;have ae:X.lg X:=Qa.le.lg (.refl _)
 refine⟨Nat×List (Int×Int×Int),λ y=>[(1,.pointer (some ⟨b,0,none⟩)),(3,.map (some mb)),(14,.slice h.ma h.ml h.mc),(15,.int .i64 h.ml),(16,.int .i64 y.1)],
  λ y U'=>X.lg U'/\U.lg U'/\U'.M=.obj mb (Qt (λ k=>.agg (Zsg k).toArray) (Qp0 y.2))::U.M/\y.1<=h.ml/\t.chkMvs t.mvs []=t.chkMvs (t.mvs.drop y.1) y.2,
  λ y=>h.ml-y.1,(0,[]),T1,⟨Z2 _ _,N.lg.trans (Z2 _ _),?_,S1,S1⟩,?_⟩
 .show _::_=_;rw[N.own];rfl
 rintro⟨i,s⟩f U2⟨Z,T,hM,hi,w⟩;simp only at hM hi w
 repeat refine⟨rfl,?_⟩
 conv=>whnf
 apply Qg<;>intro E
 .have hlt:i<h.ml:=by simpa using E
  obtain⟨ad,m,vs,hx,aa,ah,rfl,-,ab⟩:=ht.mvs.at hlt;rw[Hj hx,WJ.chkMvs]at w;refine⟨ad,i,⟨aa,rfl,hlt⟩,_,⟨rfl,ab.lg T⟩,?_⟩
  conv=>whnf
  intro b5 Y;refine⟨_,.refl _,rfl,Zv (vs:=[.int .i64 m.ed,.int .i64 m.fr,.int .i64 m.to]) Y rfl (by simp[Value.single]) λ U3 I z=>?_⟩;have B:=T.trans I.lg;have V:U3.M=_:=I.own.trans hM;have H:=hb.lg (Z.trans I.lg);have P:=ht.lg B;have L:t.mvOk m=(t.isEd m.ed&&(t.isEd (m.ed+1)&&(t.isItem m.ed m.fr&&t.isItem (m.ed+1) m.to))):=rfl;refine⟨[.slice h.ea h.el h.ec,.slice h.ma h.ml h.mc,.slice h.ka h.kl h.kc],⟨rfl,H.rd⟩,?_⟩;refine⟨_,z.sees3 (o:=0) rfl,Qy0.any,(Qan h t P m.ed).mono ?_⟩;rintro v U'⟨rfl,rfl⟩-
  conv=>whnf
  have G:t.mvOk m=false->t.chkMoves=6:=λ hf=>by
   have h6:t.chkMv m s=6:=by unfold WJ.chkMv;rw[hf];rfl
   rw[F,w,h6];rfl
  apply Jt<;>intro E
  .have h1:t.isEd m.ed=true:=by simpa using E
   have ac:=WJ.isEd_lt h1;refine⟨[.slice h.ea h.el h.ec,.slice h.ma h.ml h.mc,.slice h.ka h.kl h.kc],⟨rfl,H.rd⟩,?_⟩;refine⟨_,z.sees3 (o:=0) rfl,I1,?_⟩;refine⟨Qy0.any,(Qan h t P (m.ed+1)).mono ?_⟩;rintro v U'⟨rfl,rfl⟩-
   conv=>whnf
   apply Jt<;>intro E
   .have h2:t.isEd (m.ed+1)=true:=by simpa using E
    refine⟨[.slice h.ea h.el h.ec,.slice h.ma h.ml h.mc,.slice h.ka h.kl h.kc],⟨rfl,H.rd⟩,?_⟩;refine⟨_,z.sees3 (o:=0) rfl,_,z.sees3 (o:=1) rfl,Qoa.any,(Qbh h t P m.ed m.fr).mono ?_⟩;rintro v U'⟨rfl,rfl⟩-
    conv=>whnf
    apply Jt<;>intro E
    .have h3:t.isItem m.ed m.fr=true:=by simpa using E
     refine⟨[.slice h.ea h.el h.ec,.slice h.ma h.ml h.mc,.slice h.ka h.kl h.kc],⟨rfl,H.rd⟩,?_⟩;refine⟨_,z.sees3 (o:=0) rfl,I1,?_⟩;refine⟨_,z.sees3 (o:=2) rfl,Qoa.any,(Qbh h t P (m.ed+1) m.to).mono ?_⟩;rintro v U'⟨rfl,rfl⟩-
     conv=>whnf
     apply Qg<;>intro E
     .repeat refine⟨rfl,?_⟩
      conv=>whnf
      exact⟨by rw[G];rw[L];simp_all,B⟩
     .have h4:t.isItem (m.ed+1) m.to=true:=by simpa using E
      have Q:t.mvOk m=true:=by rw[L,h1,h2,h3,h4];rfl
      refine⟨[.int .i64 m.ed,.int .i64 m.fr,.int .i64 m.to],⟨rfl,z.rd⟩,?_⟩
      conv=>whnf
      refine Of (k:=(m.ed,m.fr,m.to)) Zn2 Zpv Zqd rfl rfl (.inr (by rw[V];exact mem_cons_self ..)) ?_;rw[Zrz]
      repeat refine⟨rfl,?_⟩
      conv=>whnf
      apply Qg<;>intro E
      .repeat refine⟨rfl,?_⟩
       conv=>whnf
       have h5:t.chkMv m s=5:=by unfold WJ.chkMv;rw[Q,E];rfl
       rw[h5]at w;exact⟨by rw[F,w];rfl,B⟩
      .have hin:=E;have h5:t.chkMv m s=0:=by unfold WJ.chkMv;rw[Q,E];rfl
       rw[h5,if_pos rfl]at w;refine⟨[.int .i64 m.ed,.int .i64 m.fr,.int .i64 m.to],⟨rfl,z.rd⟩,?_⟩
       conv=>whnf
       refine YF (v:=.bool true) (k:=(m.ed,m.fr,m.to)) (l:=Qp0 s) (M':=.obj mb (Qt (λ k=>.agg (Zsg k).toArray) (Qp0 (s++[(m.ed,m.fr,m.to)])))::U.M) Zn2 Zpv rfl rfl rfl (by rw[V,Zqi hin];exact .here) ?_;refine⟨I1,?_⟩;refine⟨rfl,(i+1,s++[(m.ed,m.fr,m.to)]),T1,⟨⟨(Z.trans I.lg).imm,⟨[_],by show _::U.M=_;rw[N.own];rfl⟩,(Z.trans I.lg).tok⟩,⟨B.imm,⟨[_],rfl⟩,B.tok⟩,rfl,by show i+1<=h.ml;omega,by rw[w]⟩,L1⟩
    .repeat refine⟨rfl,?_⟩
     conv=>whnf
     exact⟨by rw[G];rw[L];simp_all,B⟩
   .repeat refine⟨rfl,?_⟩
    conv=>whnf
    exact⟨by rw[G];rw[L];simp_all,B⟩
  .repeat refine⟨rfl,?_⟩
   conv=>whnf
   exact⟨by rw[G];rw[L];simp_all,B⟩
 .have hge:h.ml<=i:=by simpa using E
  repeat refine⟨rfl,?_⟩
  conv=>whnf
  rw[drop_eq_nil_of_le O1]at w;exact⟨by rw[F,w];rfl,T⟩
def Zj9(h:TH)(t:WJ)(ht:GG U h t):Qb S 102 #[h.v] (λ v U'=>v=.int .i64 t.chkKins/\U'=U) U:=by
 refine Qb.pure' (Qb.of (args:=[_]) Zpp Qe S1 ?_);have Z:=ht.kns.1;have ag:=ht.kl
 repeat refine⟨rfl,?_⟩
 conv=>whnf
 intro b U1 Q hb;refine⟨_,hb.sees3 rfl,?_⟩
 repeat refine⟨rfl,?_⟩
 conv=>whnf
 apply Qg<;>intro F
 .have P:10<t.kns.length:=by rw[Z];simp at F;omega
  repeat refine⟨rfl,?_⟩
  conv=>whnf
  exact⟨by unfold WJ.chkKins;rw[if_pos P],Q.lg⟩
 have P:¬10<t.kns.length:=by rw[Z];simp at F;omega
 have E:t.chkKins=t.chkKns t.kns []:=by unfold WJ.chkKins;rw[if_neg P]
 conv=>whnf
 refine P1 (λ k=>.agg (Zsh k).toArray) λ mb af=>?_;refine⟨_,Qa.sees.lg (hb.sees3 rfl) (Z2 mb _),Nat×List (Int×Int×Int),λ y=>[(1,.pointer (some ⟨b,0,none⟩)),(3,.map (some mb)),(15,.slice h.ka h.kl h.kc),(16,.int .i64 h.kl),(17,.int .i64 y.1)],
  λ y U'=>U1.lg U'/\U.lg U'/\U'.M=.obj mb (Qt (λ k=>.agg (Zsh k).toArray) (Qp0 y.2))::U.M/\y.1<=h.kl/\t.chkKns t.kns []=t.chkKns (t.kns.drop y.1) y.2,
  λ y=>h.kl-y.1,(0,[]),T1,⟨Z2 _ _,Q.lg.trans (Z2 _ _),?_,S1,S1⟩,?_⟩
 .show _::_=_;rw[Q.own];rfl
 rintro⟨i,s⟩f U2⟨hg,W,hM,hi,w⟩;simp only at hM hi w
 repeat refine⟨rfl,?_⟩
 conv=>whnf
 apply Qg<;>intro F
 .have hlt:i<h.kl:=by simpa using F
  obtain⟨ad,m,vs,hx,ac,ah,rfl,-,ae⟩:=ht.kns.at hlt;rw[Hj hx,WJ.chkKns]at w;refine⟨ad,i,⟨ac,rfl,hlt⟩,_,⟨rfl,ae.lg W⟩,?_⟩
  conv=>whnf
  intro b5 aa;refine⟨_,.refl _,rfl,Zv (vs:=[.int .i64 m.ed,.int .i64 m.one,.int .i64 m.two,.int .i64 m.lev]) aa rfl (by simp[Value.single]) λ U3 L z=>?_⟩;refine⟨[.int .i64 m.ed,.int .i64 m.one,.int .i64 m.two,.int .i64 m.lev],⟨rfl,z.rd⟩,?_⟩
  conv=>whnf
  intro b6 ab;refine⟨_,.refl _,rfl,HK (vs:=[.int .i64 m.ed,.int .i64 m.one,.int .i64 m.two,.int .i64 m.lev]) rfl (by simp[Value.single]) ?_⟩;refine⟨rfl,kJ (i:=3) ab S1 rfl λ U4 I T=>?_⟩;have T:Zi U4 b6 #[.int .i64 m.ed,.int .i64 m.one,.int .i64 m.two,.int .i64 0]:=T;have z:=z.le I;have B:=W.trans (L.trans I).lg;have Y:U4.M=_:=(L.trans I).own.trans hM;have N:=hb.lg (hg.trans (L.trans I).lg);have X:=ht.lg B;have V:t.knOk m=(t.isEd m.ed&&(t.isItem m.ed m.one&&t.isItem m.ed m.two)):=rfl;refine⟨[.slice h.ea h.el h.ec,.slice h.ma h.ml h.mc,.slice h.ka h.kl h.kc],⟨rfl,N.rd⟩,?_⟩;refine⟨_,z.sees3 (o:=0) rfl,Qy0.any,(Qan h t X m.ed).mono ?_⟩;rintro v U'⟨rfl,rfl⟩-
  conv=>whnf
  have K:t.knOk m=false->t.chkKins=6:=λ hf=>by
   have h6:t.chkKn m s=6:=by unfold WJ.chkKn;rw[hf];rfl
   rw[E,w,h6];rfl
  apply Jt<;>intro F
  .have h1:t.isEd m.ed=true:=by simpa using F
   refine⟨[.slice h.ea h.el h.ec,.slice h.ma h.ml h.mc,.slice h.ka h.kl h.kc],⟨rfl,N.rd⟩,?_⟩;refine⟨_,z.sees3 (o:=0) rfl,_,z.sees3 (o:=1) rfl,Qoa.any,(Qbh h t X m.ed m.one).mono ?_⟩;rintro v U'⟨rfl,rfl⟩-
   conv=>whnf
   apply Jt<;>intro F
   .have h2:t.isItem m.ed m.one=true:=by simpa using F
    refine⟨[.slice h.ea h.el h.ec,.slice h.ma h.ml h.mc,.slice h.ka h.kl h.kc],⟨rfl,N.rd⟩,?_⟩;refine⟨_,z.sees3 (o:=0) rfl,_,z.sees3 (o:=2) rfl,Qoa.any,(Qbh h t X m.ed m.two).mono ?_⟩;rintro v U'⟨rfl,rfl⟩-
    conv=>whnf
    apply Qg<;>intro F
    .repeat refine⟨rfl,?_⟩
     conv=>whnf
     exact⟨by rw[K];rw[V];simp_all,B⟩
    .have h4:t.isItem m.ed m.two=true:=by simpa using F
     have H:t.knOk m=true:=by rw[V,h1,h2,h4];rfl
     refine⟨_,z.sees3 (o:=1) rfl,_,z.sees3 (o:=2) rfl,?_⟩
     repeat refine⟨rfl,?_⟩
     conv=>whnf
     apply Qg<;>intro F
     .have G:¬m.one<m.two:=by simp at F;omega
      repeat refine⟨rfl,?_⟩
      conv=>whnf
      have h5:t.chkKn m s=7:=by unfold WJ.chkKn;rw[H];simp[G]
      rw[h5]at w;exact⟨by rw[E,w];rfl,B⟩
     have G:m.one<m.two:=by simp at F;omega
     refine⟨_,z.sees3 (o:=3) rfl,Qdb.any,(Qab _ _ _ _).mono ?_⟩;rintro v U'⟨rfl,rfl⟩-
     conv=>whnf
     apply Qg<;>intro F
     .have hl:QP m.lev 1 5=false:=by simpa using F
      repeat refine⟨rfl,?_⟩
      conv=>whnf
      have h5:t.chkKn m s=1:=by unfold WJ.chkKn;rw[H,if_pos G,hl];rfl
      rw[h5]at w;exact⟨by rw[E,w];rfl,B⟩
     have hl:QP m.lev 1 5=true:=by simpa using F
     refine⟨[.int .i64 m.ed,.int .i64 m.one,.int .i64 m.two,.int .i64 0],⟨rfl,T.rd⟩,?_⟩
     conv=>whnf
     refine Of (k:=(m.ed,m.one,m.two)) Zn3 Zpw Zqd rfl rfl (.inr (by rw[Y];exact mem_cons_self ..)) ?_;rw[Zrz]
     repeat refine⟨rfl,?_⟩
     conv=>whnf
     apply Qg<;>intro F
     .repeat refine⟨rfl,?_⟩
      conv=>whnf
      have h5:t.chkKn m s=5:=by unfold WJ.chkKn;rw[H,if_pos G,hl,F];rfl
      rw[h5]at w;exact⟨by rw[E,w];rfl,B⟩
     .have hin:=F;have h5:t.chkKn m s=0:=by unfold WJ.chkKn;rw[H,if_pos G,hl,F];rfl
      rw[h5,if_pos rfl]at w;refine⟨[.int .i64 m.ed,.int .i64 m.one,.int .i64 m.two,.int .i64 0],⟨rfl,T.rd⟩,?_⟩
      conv=>whnf
      refine YF (v:=.bool true) (k:=(m.ed,m.one,m.two)) (l:=Qp0 s) (M':=.obj mb (Qt (λ k=>.agg (Zsh k).toArray) (Qp0 (s++[(m.ed,m.one,m.two)])))::U.M) Zn3 Zpw rfl rfl rfl (by rw[Y,Zqi hin];exact .here) ?_;refine⟨I1,?_⟩;refine⟨rfl,(i+1,s++[(m.ed,m.one,m.two)]),T1,⟨⟨(hg.trans (L.trans I).lg).imm,⟨[_],by show _::U.M=_;rw[Q.own];rfl⟩,(hg.trans (L.trans I).lg).tok⟩,⟨B.imm,⟨[_],rfl⟩,B.tok⟩,rfl,by show i+1<=h.kl;omega,by rw[w]⟩,L1⟩
   .repeat refine⟨rfl,?_⟩
    conv=>whnf
    exact⟨by rw[K];rw[V];simp_all,B⟩
  .repeat refine⟨rfl,?_⟩
   conv=>whnf
   exact⟨by rw[K];rw[V];simp_all,B⟩
 .have hge:h.kl<=i:=by simpa using F
  repeat refine⟨rfl,?_⟩
  conv=>whnf
  rw[drop_eq_nil_of_le O1]at w;exact⟨by rw[E,w];rfl,W⟩
def Qz8(h:TH)(t:WJ)(ht:GG U h t):Qb S 65 #[h.v] (λ v U'=>v=.int .i64 t.flaw/\U'=U) U:=by
 refine Qb.pure' (Qb.of (args:=[_]) Zq0 Qe S1 ?_)
 repeat refine⟨rfl,?_⟩
 conv=>whnf
 intro b W K hb;refine⟨[.slice h.ea h.el h.ec,.slice h.ma h.ml h.mc,.slice h.ka h.kl h.kc],⟨rfl,hb.rd⟩,?_⟩
 conv=>whnf
 intro T N;refine⟨_,.refl _,rfl,Zv (vs:=[.slice h.ea h.el h.ec,.slice h.ma h.ml h.mc,.slice h.ka h.kl h.kc]) N rfl (by simp[Value.single]) λ Q L G=>?_⟩;have E:Je Q ⟨T,0,none⟩ [.slice h.ea h.el h.ec,.slice h.ma h.ml h.mc,.slice h.ka h.kl h.kc]:=G.rd;refine⟨_,⟨rfl,E⟩,_,⟨rfl,E⟩,_,⟨rfl,E⟩,?_⟩
 conv=>whnf
 intro I P;refine Zh P λ H M w=>?_;have w:Zi H I #[.func (.func 100) #[h.v] #[],.func (.func 101) #[h.v] #[],.func (.func 102) #[h.v] #[]]:=w;have B:U.lg H:=(K.trans (L.trans M)).lg;have F:=ht.lg B
 refine⟨Nat,λ i=>[(15,.slice (some ⟨I,0,none⟩) 3 3),(16,.int .i64 3),(17,.int .i64 i)],λ i U'=>U'=H/\i<=3/\(0<i->t.chkItems=0)/\(1<i->t.chkMoves=0)/\(2<i->t.chkKins=0),λ i=>3-i,0,T1,
  ⟨rfl,O1,λ h=>O1,λ h=>O1,λ h=>O1⟩,?_⟩
 rintro i f _⟨rfl,X,h1,h2,V⟩
 repeat refine⟨rfl,?_⟩
 conv=>whnf
 apply Qg<;>intro z
 .have hlt:i<3:=by simp at z;omega
  refine⟨⟨I,0,none⟩,i,⟨rfl,rfl,hlt⟩,?_⟩
  conv=>whnf
  obtain rfl|rfl|rfl:i=0\/i=1\/i=2:=O1
  .refine⟨_,w.sees3 (o:=0*1) rfl,Zpm.any,(Qz3 h t F).mono ?_⟩;rintro v U'⟨rfl,rfl⟩-
   repeat refine⟨rfl,?_⟩
   conv=>whnf
   apply Qg<;>intro z
   .have hn:t.chkItems≠0:=by simpa using z
    repeat refine⟨rfl,?_⟩
    conv=>whnf
    exact⟨by unfold WJ.flaw;rw[if_neg hn],B⟩
   .have hn:t.chkItems=0:=by simpa using z
    refine⟨I1,?_⟩
    conv=>whnf
    exact⟨rfl,1,T1,⟨rfl,O1,λ _=>hn,λ h=>O1,λ h=>O1⟩,by show 3-1<3-0;omega⟩
  .refine⟨_,w.sees3 (o:=1*1) rfl,Zpo.any,(Qz4 h t F).mono ?_⟩;rintro v U'⟨rfl,rfl⟩-
   repeat refine⟨rfl,?_⟩
   conv=>whnf
   apply Qg<;>intro z
   .have hn:t.chkMoves≠0:=by simpa using z
    repeat refine⟨rfl,?_⟩
    conv=>whnf
    exact⟨by unfold WJ.flaw;rw[if_pos (h1 O1),if_neg hn],B⟩
   .have hn:t.chkMoves=0:=by simpa using z
    refine⟨I1,?_⟩
    conv=>whnf
    exact⟨rfl,2,T1,⟨rfl,O1,λ _=>h1 O1,λ _=>hn,λ h=>O1⟩,by show 3-2<3-1;omega⟩
  .refine⟨_,w.sees3 (o:=2*1) rfl,Zpp.any,(Zj9 h t F).mono ?_⟩;rintro v U'⟨rfl,rfl⟩-
   repeat refine⟨rfl,?_⟩
   conv=>whnf
   apply Qg<;>intro z
   .have hn:t.chkKins≠0:=by simpa using z
    repeat refine⟨rfl,?_⟩
    conv=>whnf
    exact⟨by unfold WJ.flaw;rw[if_pos (h1 O1),if_pos (h2 O1)],B⟩
   .have hn:t.chkKins=0:=by simpa using z
    refine⟨I1,?_⟩
    conv=>whnf
    exact⟨rfl,3,T1,⟨rfl,O1,λ _=>h1 O1,λ _=>h2 O1,λ _=>hn⟩,by show 3-3<3-2;omega⟩
 .have hge:i=3:=by simp at z;omega
  subst hge
  repeat refine⟨rfl,?_⟩
  conv=>whnf
  exact⟨by unfold WJ.flaw;rw[if_pos (h1 O1),if_pos (h2 O1),V O1],B⟩
end Go.Proofs
namespace Go.TM
variable{T:Type}{U:Qa T}
def WJ.chkAll(t:WJ)(e:Int):List (List Int)->Int
 |[]=>0
 |l::r=>if t.chk e none l=0 then t.chkAll e r else t.chk e none l
def WJ.openF(t:WJ)(e:Int)(b:List (List Int)):Int:=if t.flaw=0 then(if t.isEd e then t.chkAll e b else 6)else t.flaw
end Go.TM
namespace Go.Proofs
open Go.TM
variable{T:Type}{S:TM.Sys prog T}{U:Qa T}
attribute [local irreducible] Qb Zm
def Q4g(h:TH)(t:WJ)(ht:GG U h t)(e:Int)(a:Option Addr)(len cap:Nat)(L:List (List Int))(hl:Wx U a len L)(ab:len<2^60) :
  Qb S 32 #[h.v,.int .i64 e,.slice a len cap] (λ v U'=>v=.tuple #[h.v,.int .i64 (t.openF e L)]/\U'=U) U:=by
 refine Qb.pure' (Qb.of (args:=[_,_,_]) Znw Qe S1 ?_);have ae:=hl.1
 repeat refine⟨rfl,?_⟩
 conv=>whnf
 intro b1 U1 N G
 conv=>whnf
 intro K ac;refine⟨_,.refl _,[.slice h.ea h.el h.ec,.slice h.ma h.ml h.mc,.slice h.ka h.kl h.kc],⟨rfl,(G.lg (Z2 K _)).rd⟩,?_⟩
 conv=>whnf
 intro b8 Y;refine⟨_,.refl _,rfl,Zv (vs:=[.slice h.ea h.el h.ec,.slice h.ma h.ml h.mc,.slice h.ka h.kl h.kc]) Y rfl (by simp[Value.single]) λ I H W=>?_⟩;have F:U.lg I:=N.lg.trans ((Z2 K _).trans H.lg);have T:I.M=.obj K (.cells #[.slice none 0 0,.slice none 0 0,.slice none 0 0] 80 (0,0))::U.M:=by rw[H.own];show _::U1.M=_;rw[N.own]
 have E:=ht.lg F;have z:Je I ⟨b8,0,none⟩ [.slice h.ea h.el h.ec,.slice h.ma h.ml h.mc,.slice h.ka h.kl h.kc]:=W.rd;have Q:Je I ⟨b1,0,none⟩ [.slice h.ea h.el h.ec,.slice h.ma h.ml h.mc,.slice h.ka h.kl h.kc]:=(G.lg ((Z2 K _).trans H.lg)).rd;have w:∀o,U.lg { I with M:=.obj K o::U.M }:=λ o=>⟨F.imm,⟨[_],rfl⟩,F.tok⟩;refine⟨_,⟨rfl,Q⟩,Zq0.any,(Qz8 h t E).go λ _=>?_⟩
 repeat refine⟨rfl,?_⟩
 conv=>whnf
 apply Qg<;>intro B
 .have hf:t.flaw≠0:=by simpa using B
  refine⟨_,⟨rfl,z⟩,rfl,Zo5 (vs:=[.slice h.ea h.el h.ec,.slice h.ma h.ml h.mc,.slice h.ka h.kl h.kc]) T rfl (by simp[Value.single]) ?_⟩;refine⟨_,⟨rfl,Zna⟩,?_⟩
  conv=>whnf
  exact⟨by unfold WJ.openF;rw[if_neg hf];rfl,w _⟩
 have hf:t.flaw=0:=by simpa using B
 have V:t.openF e L=if t.isEd e then t.chkAll e L else 6:=by unfold WJ.openF;rw[if_pos hf]
 refine⟨_,⟨rfl,z⟩,Qy0.any,(Qan h t E e).go λ _=>?_⟩
 conv=>whnf
 apply Qg<;>intro B
 .have X:t.isEd e=false:=by simpa using B
  refine⟨_,⟨rfl,z⟩,rfl,Zo5 (vs:=[.slice h.ea h.el h.ec,.slice h.ma h.ml h.mc,.slice h.ka h.kl h.kc]) T rfl (by simp[Value.single]) ?_⟩;refine⟨_,⟨rfl,Zna⟩,?_⟩
  conv=>whnf
  exact⟨by rw[V,X];rfl,w _⟩
 have X:t.isEd e=true:=by simpa using B
 rw[if_pos X]at V;have Z:=hl.lg F
 refine⟨Nat,λ i=>[(1,.int .i64 e),(6,.pointer (some ⟨K,0,none⟩)),(8,.pointer (some ⟨b8,0,none⟩)),(26,.slice a len cap),(27,.int .i64 len),(28,.int .i64 i)],
  λ i U'=>I=U'/\i<=len/\t.chkAll e L=t.chkAll e (L.drop i),λ i=>len-i,0,T1,⟨rfl,O1,S1⟩,?_⟩
 rintro i f _⟨rfl,hi,b⟩
 repeat refine⟨rfl,?_⟩
 conv=>whnf
 apply Qg<;>intro B
 .have hlt:i<len:=by simpa using B
  obtain⟨ad,l,vs,hx,rfl,af,⟨a',l',c',rfl,aa,P⟩,-,hr⟩:=Q7.at Z hlt;rw[Hj hx,WJ.chkAll]at b;refine⟨ad,i,⟨rfl,rfl,hlt⟩,_,hr 0 _ rfl,_,⟨rfl,z⟩,Zn1.any,(Qi0 h t E e a' l' c' l aa P).go λ _=>?_⟩
  repeat refine⟨rfl,?_⟩
  conv=>whnf
  apply Qg<;>intro B
  .have hn:t.chk e none l≠0:=by simpa using B
   refine⟨_,⟨rfl,z⟩,rfl,Zo5 (vs:=[.slice h.ea h.el h.ec,.slice h.ma h.ml h.mc,.slice h.ka h.kl h.kc]) T rfl (by simp[Value.single]) ?_⟩;refine⟨_,⟨rfl,Zna⟩,?_⟩
   conv=>whnf
   exact⟨by rw[V,b,if_neg hn];rfl,w _⟩
  .have hn:t.chk e none l=0:=by simpa using B
   refine⟨I1,?_⟩;refine⟨rfl,i+1,T1,⟨rfl,O1,by rw[b,if_pos hn]⟩,L1⟩
 .have hge:len<=i:=by simpa using B
  rw[drop_eq_nil_of_le O1]at b;refine⟨_,⟨rfl,z⟩,rfl,Zo5 (vs:=[.slice h.ea h.el h.ec,.slice h.ma h.ml h.mc,.slice h.ka h.kl h.kc]) T rfl (by simp[Value.single]) ?_⟩;refine⟨_,⟨rfl,Zna⟩,?_⟩
  conv=>whnf
  exact⟨by rw[V,b];rfl,w _⟩
end Go.Proofs
namespace Go.TM
variable{T:Type}{U:Qa T}
def Qde(p:Int×Int):List Value:=[.int .i64 p.1,.int .i64 p.2]
def Zsi{α:Type}{l:List α}{i:Nat}{x:α}{f:α->Bool}(h:l[i]?=some x)(hf:f x=true):(l.filter f)[((l.take i).filter f).length]?=some x:=by
 have e:l=l.take i++x::l.drop (i+1):=by rw[<- Hj h,take_append_drop]
 conv=>lhs;arg 1;rw[e]
 rw[filter_append,filter_cons,if_pos hf];simp
def WJ.flaw_0{t:WJ}(h:t.flaw=0):t.chkItems=0/\t.chkMoves=0/\t.chkKins=0:=by
 unfold WJ.flaw at h;split at h
 .split at h
  .exact⟨‹_›,‹_›,h⟩
  .exact absurd h ‹_›
 .exact absurd h ‹_›
def Zn9:∀{b:List (List Hs)}{e:Int}{s:List (Int×ByteArray)},Qjn e b s=0->∀l∈b,l.length<=8
 |[],_,_,_,_,h=>by cases h
 |l::r,e,s,h,x,hx=>by
  unfold Qjn at h;split at h
  .cases h
  .split at h
   .rcases mem_cons.1 hx with rfl|hx
    .omega
    .exact Zn9 h x hx
   .exact absurd h ‹_›
def WJ.flaw_eds{t:WJ}(h:t.flaw=0):1<=t.eds.length/\t.eds.length<=3/\∀l∈t.eds,l.length<=8:=by
 have:=(WJ.flaw_0 h).1;unfold WJ.chkItems at this;split at this
 .rename_i hb;unfold QP at hb;simp only[Bool.and_eq_true,decide_eq_true_eq]at hb;exact⟨O1,O1,Zn9 this⟩
 .cases this
def WJ.item_lt{t:WJ}(h:t.flaw=0){e n:Int}(b:t.isItem e n=true):0<=n/\n<8:=by
 unfold WJ.isItem QP at b;simp only[Bool.and_eq_true,decide_eq_true_eq]at b
 have:(t.items e).length<=8:=by
  unfold WJ.items;split
  .rw[getD_eq_getElem?_getD];cases hx:t.eds[e.toNat]? with
   |none=>simp
   |some l=>exact(WJ.flaw_eds h).2.2 l (mem_of_getElem? hx)
  .simp
 omega
end Go.TM
namespace Go.Proofs
open Go.TM
variable{T:Type}{S:TM.Sys prog T}{U:Qa T}
attribute [local irreducible] Qb Zm Wo
def Zrv{α:Type}(p:α->Bool)(l:List α):(XB p l = -1/\∀x∈l,p x=false)\/∃(i:Nat)(x:α),XB p l=i/\l[i]?=some x/\p x=true/\∀y∈l.take i,p y=false:=by
 unfold XB;cases h:l.findIdx? p with
 |none=>exact .inl ⟨rfl,findIdx?_eq_none_iff.1 h⟩
 |some i=>
  rw[findIdx?_eq_some_iff_getElem]at h;obtain⟨f,z,w⟩:=h;refine .inr ⟨i,l[i],rfl,S1,z,λ y hy=>?_⟩;obtain⟨k,b,rfl⟩:=mem_iff_getElem.1 hy;simp only[length_take]at b;rw[getElem_take];simpa using w k O1
def Q4a(v:Value)(l:List Int)(M₀:List Qw)(ha:Acc 3 1 v (l.map λ n=>.int .i64 n) U.M M₀)(ah:l.length<=1000000)(g:FuncId)(first B:Array Value)(p:Int->Bool)
  (hg:(prog.funcs[g]?.any λ fd=>fd.body.isSome&&fd.name != "runtime.NumGoroutine")=true)
  (K:∀T,U.frz.lg T->∀n∈l,Qb S g (first.toList++[Value.int .i64 n]++B.toList).toArray (λ v U'=>v=.bool (p n)/\U'=T) T) :
  Qb S 35 #[v,.func (.func g) first B] (λ v' U'=>Acc 3 1 v' ((l.filter λ n=>!p n).map λ n=>.int .i64 n) U'.M M₀/\(∀x o,U.I x=some o->U'.I x=some o)/\U'.tok=U.tok) U:=by
 obtain⟨sa,sc,rfl,af⟩:=Sv ha;refine Qb.of (args:=[_,_]) Zqs Qe S1 ?_;refine⟨US.any,(zD (λ n=>.int .i64 n) sa l.length sc l rfl af.2 (λ x=>⟨_,_,rfl⟩) O1 g first B p ⟨hg,λ n Z=>K U Qr n Z⟩).go λ _=>?_⟩;rcases Zrv p l with⟨hi,N⟩|⟨i0,x0,hi,Q,ag,N⟩
 .rw[hi]
  repeat refine⟨rfl,?_⟩
  refine⟨?_,λ _ _ h=>h,rfl⟩;rw[filter_eq_self.2 λ n Z=>by simp[N n Z]];exact ha
 .have hi0:i0<l.length:=(List.getElem?_eq_some_iff.1 Q).1;rcases ha with⟨h1,h2,_⟩|⟨b,c,len,cap,h1,h2,h3,h4,hM,h5⟩
  .rw[map_eq_nil_iff]at h2;subst h2;simp at Q
  simp at h2;subst h2;cases h1;rw[hi]
  repeat refine⟨rfl,?_⟩
  refine⟨I1,?_⟩
  refine⟨Nat×Nat×Array Value,λ y=>[(0,.slice (some ⟨b,0,none⟩) l.length sc),(1,.func (.func g) first B),(5,.int .i64 y.2.1),(6,.int .i64 y.1)],
   λ y U'=>(∀x o,U.I x=some o->U'.I x=some o)/\U'.tok=U.tok/\U'.M=.obj b (.cells y.2.2 3 (0,0))::M₀/\y.2.2.size=sc/\y.1<=l.length/\y.2.1<y.1/\((l.take y.1).filter λ n=>!p n).length=y.2.1 /\
    (∀(k:Nat)(x:Int),((l.take y.1).filter λ n=>!p n)[k]?=some x->y.2.2[k]?=some (.int .i64 x))/\(∀(k:Nat)(x:Int),y.1<=k->l[k]?=some x->y.2.2[k]?=some (.int .i64 x)),
   λ y=>l.length-y.1,(i0+1,i0,c),T1,?_,?_⟩
  .have V:(l.take (i0+1)).filter (λ n=>!p n)=l.take i0:=by
    rw[Wf Q,filter_append,filter_eq_self.2 λ n Z=>by simp[N n Z]];simp[ag]
   refine⟨λ _ _ h=>h,rfl,hM,by show c.size=sc;omega,by simp only;omega,by simp only;omega,by simp only[V];simp;omega,λ k x hx=>?_,λ k x _ hx=>h5 k _ (by simp[hx])⟩;simp only[V]at hx;rw[getElem?_take]at hx;split at hx
   .exact h5 k _ (by simp[hx])
   .cases hx
  rintro⟨j,i,c'⟩f T⟨hI,ht,z,P,hj,ad,E,F,H⟩;simp only at z P hj ad E F H;have aa:U.frz.lg T:=⟨hI,⟨_,(append_nil _).symm⟩,ht⟩
  repeat refine⟨rfl,?_⟩
  conv=>whnf
  apply Qg<;>intro X
  .have hlt:j<l.length:=by simpa using X
   have hx:l[j]?=some (l[j]'hlt):=S1
   generalize l[j]'hlt=x at hx;have Y:Z7 (j+1):=I1
   have ae:Z7 (i+1):=I1
   refine⟨_,j,⟨rfl,rfl,hlt⟩,.int .i64 x,?_,?_⟩
   .rw[Nat.mul_one,Qo];exact⟨rfl,.inl ⟨c',3,(0,0),.inr (by rw[z];exact mem_cons_self ..),by simpa using H j x (Nat.le_refl _) hx⟩⟩
   refine⟨hg,(K T aa x (mem_of_getElem? hx)).go λ _=>?_⟩
   repeat refine⟨rfl,?_⟩
   conv=>whnf
   apply Qg<;>intro X
   .have hp:p x=false:=by simpa using X
    have G:(l.take (j+1)).filter (λ n=>!p n)=(l.take j).filter (λ n=>!p n)++[x]:=by
     rw[Wf hx,filter_append];simp[hp]
    refine⟨_,i,⟨rfl,rfl,O1⟩,rfl,?_⟩;show QX ((Addr.mk b 0 none).add (i*1)) [.int .i64 x] 0 _ _;rw[Nat.mul_one];refine GV [] z O1 rfl ?_;refine⟨ae,Y,rfl,(j+1,i+1,c'.setIfInBounds i (.int .i64 x)),T1,⟨hI,ht,rfl,by simpa using P,by simp only;omega,by simp only;omega,by simp only[G];simp[E],λ k y hy=>?_,λ k y V hy=>?_⟩,L1⟩
    .simp only[G]at hy;by_cases e:k<i
     .rw[getElem?_append_left O1]at hy;rw[Array.getElem?_setIfInBounds_ne O1];exact F k y hy
     .rw[getElem?_append_right O1,E]at hy
      have:k=i:=by
       have:=(List.getElem?_eq_some_iff.1 hy).1;simp at this;omega
      subst this;simp at hy;subst hy;rw[Array.getElem?_setIfInBounds_self_of_lt O1]
    .simp only at V;rw[Array.getElem?_setIfInBounds_ne O1];exact H k y O1 hy
   .have hp:p x=true:=by simpa using X
    have G:(l.take (j+1)).filter (λ n=>!p n)=(l.take j).filter (λ n=>!p n):=by
     rw[Wf hx,filter_append];simp[hp]
    refine⟨Y,rfl,(j+1,i,c'),T1,⟨hI,ht,z,P,by simp only;omega,by simp only;omega,by simp only[G];exact E,λ k y hy=>F k y (by simpa only[G]using hy),λ k y V hy=>H k y (by simp only at V;omega) hy⟩,L1⟩
  .have hge:l.length<=j:=by simpa using X
   rw[take_of_length_le hge]at E F;refine⟨i,l.length,⟨rfl,rfl,O1,O1⟩,?_⟩
   have W:(if sc=i then some (Addr.mk b 0 none)else(some (Addr.mk b 0 none)).map (·.add (i*1)))=some ⟨b,i,none⟩:=by
    rw[if_neg O1];simp[Qo]
   rw[W]
   conv=>whnf
   obtain⟨ak,ab,ac,ai,aj⟩:=IX;refine Zny (len:=l.length-i) (cap:=sc-i) (off:=i) (b:=b) Pv ab ac (n:=1) rfl ?_ rfl z O1 ?_
   .rw[Zke rfl];intro w hw;rw[eq_of_mem_replicate hw];rfl
   rw[Zke rfl];refine⟨0,i,⟨rfl,rfl,O1,O1⟩,?_⟩
   have L:(if sc=0 then some (Addr.mk b 0 none)else(some (Addr.mk b 0 none)).map (·.add (0*1)))=some ⟨b,0,none⟩:=by
    rw[if_neg O1];simp[Qo]
   rw[L]
   repeat refine⟨rfl,?_⟩
   refine⟨?_,hI,ht⟩;refine .inr ⟨b,_,i,sc,rfl,by simp[E],O1,by rw[VG];omega,rfl,λ k x hx=>?_⟩;rw[Pk _ _ _ _ _ S3,if_neg]
   .rw[getElem?_map]at hx;cases hy:(l.filter λ n=>!p n)[k]? with
    |none=>rw[hy]at hx;cases hx
    |some y=>rw[hy]at hx;cases hx;exact F k y hy
   .have:=(List.getElem?_eq_some_iff.1 hx).1;simp at this;omega
end Go.Proofs
namespace Go.TM
variable{T:Type}{P:Program}{S:Sys P T}{U:Qa T}
def Qb.listed{f:FuncId}{args:Array Value}{l:List Int}{F:Int}(h:Qb S f args (λ v U'=>∃b,v=.tuple #[b,.int .i64 F]/\Acc 3 1 b (l.map λ n=>.int .i64 n) U'.M U.M/\(∀x B,U.I x=some B->U'.I x=some B)/\U'.tok=U.tok) U) :
  Qb S f args (λ v U'=>(∃b,v=.tuple #[b,.int .i64 F]/\Jw U'.frz b l)/\U.le U') U:=by
 refine h.sep λ v U' G⟨b,H,ha,E,ht⟩=>?_;obtain⟨U'',K,L,a,len,cap,rfl,hl,w,z,_⟩:=ha.freeze G E ht;simp at hl;refine⟨U'',K,⟨_,H,a,cap,by rw[hl],KS w z⟩,L⟩
structure Qek where
 items:List Int
 keep:Bool
def Qz0(U:Qa T)(a:Option Addr)(len:Nat)(cs:List Qek):Prop:=Q7 U a len 2 cs λ c vs=>∃a' b cap',vs=[.slice a' b cap',.bool c.keep]/\Z6 U a' b c.items/\b<2^60
def Qz0.lg{U':Qa T}{a:Option Addr}{len:Nat}{cs:List Qek}(h:Qz0 U a len cs)(hl:U.lg U'):Qz0 U' a len cs:=
 Q7.lg h hl λ _ _⟨a',l',c',e,h,k⟩=>⟨a',l',c',e,h.lg hl,k⟩
def Qek.on(c:Qek)(l:List Int):List Int:=l.filter λ n=>!(c.items.contains n != c.keep)
def Qli(cs:List Qek)(l:List Int):List Int:=cs.foldl (λ l c=>c.on l) l
def WJ.cutF(t:WJ)(e:Int)(l:List Int)(cs:List Qek):Int:=if t.openF e [l]=0 then(if 4<cs.length then 2 else t.chkAll e (cs.map (·.items)))else t.openF e [l]
def WJ.cutL(t:WJ)(e:Int)(l:List Int)(cs:List Qek):List Int:=if t.cutF e l cs=0 then Qli cs l else[]
def Qek.on_len(c:Qek)(l:List Int):(c.on l).length<=l.length:=length_filter_le ..
def Wx.two{b:Nat}{a a':Option Addr}{len f cap cap':Nat}{l l':List Int}(hb:Zi U b #[.slice a len cap,.slice a' f cap'])(h:Z6 U a len l)(z:Z6 U a' f l')(k:len<2^60)(k':f<2^60):Wx U (some ⟨b,0,none⟩) 2 [l,l']:=by
 refine⟨rfl,λ i x hx=>?_⟩;have B:i=0\/i=1:=by have:=(List.getElem?_eq_some_iff.1 hx).1;simp at this;omega
 rcases B with rfl|rfl <;> cases hx
 .refine⟨_,_,rfl,rfl,⟨a,len,cap,rfl,h,k⟩,rfl,λ i v w=>?_⟩;cases i with
  |zero=>simp at w;subst w;rw[Nat.zero_mul,Qo,Qo];exact hb.sees rfl
  |succ i=>simp at w
 .refine⟨_,_,rfl,rfl,⟨a',f,cap',rfl,z,k'⟩,rfl,λ i v w=>?_⟩;cases i with
  |zero=>simp at w;subst w;rw[Qo,Qo];exact hb.sees rfl
  |succ i=>simp at w
def Wx.one{b:Nat}{a:Option Addr}{len cap:Nat}{l:List Int}(hb:Zi U b #[.slice a len cap])(h:Z6 U a len l)(k:len<2^60):Wx U (some ⟨b,0,none⟩) 1 [l]:=by
 refine⟨rfl,λ i x hx=>?_⟩;obtain rfl:i=0:=by have:=(List.getElem?_eq_some_iff.1 hx).1;simp at this;omega
 cases hx;refine⟨_,_,rfl,rfl,⟨a,len,cap,rfl,h,k⟩,rfl,λ i v f=>?_⟩;cases i with
 |zero=>simp at f;subst f;rw[Nat.zero_mul,Qo,Qo];exact hb.sees rfl
 |succ i=>simp at f
end Go.TM
namespace Go.Proofs
open Go.TM
variable{T:Type}{S:TM.Sys prog T}{U:Qa T}
attribute [local irreducible] Qb Zm Wo
def Zp8(n:Int)(b:Nat)(a:Option Addr)(len cap:Nat)(l:List Int)(keep:Bool)(hb:Zi U b #[.slice a len cap,.bool keep])(hl:Z6 U a len l)(h:len<2^60) :
  Qb S 36 #[.int .i64 n,.pointer (some ⟨b,0,none⟩)] (λ v U'=>v=.bool (l.contains n != keep)/\U'=U) U:=by
 refine Qb.pure' (Qb.of (args:=[_,_]) Zqt Qe S1 ?_)
 repeat refine⟨rfl,?_⟩
 refine⟨_,hb.sees3 rfl,.bool (l.contains n),λ U' f _=>?_,?_⟩
 .refine⟨ON.any,(DB a len cap l (hl.le f) h n).mono ?_⟩;rintro _ U''⟨rfl,w⟩-;exact⟨rfl,_,.refl _,w▸.refl _⟩
 repeat refine⟨rfl,?_⟩
 refine⟨_,hb.sees3 rfl,?_⟩
 conv=>whnf
 intro U' f _
 repeat refine⟨rfl,?_⟩
 conv=>whnf
 exact f.lg
end Go.Proofs
namespace Go.TM
def Zrs(cs:List Qek):∀(l:List Int),(Qli cs l).length<=l.length:=by
 induction cs with
 |nil=>exact λ l=>Nat.le_refl _
 |cons c cs b=>exact λ l=>Nat.le_trans (b _) (Qek.on_len c l)
def Zsf{cs:List Qek}{i:Nat}{c:Qek}(h:cs[i]?=some c)(l:List Int):Qli (cs.take (i+1)) l=c.on (Qli (cs.take i) l):=by
 rw[Wf h];unfold Qli;rw[foldl_append];rfl
end Go.TM
namespace Go.Proofs
open Go.TM
variable{T:Type}{S:TM.Sys prog T}{U:Qa T}
attribute [local irreducible] Qb Zm Wo
def Zqj(h:TH)(t:WJ)(ht:GG U h t)(e:Int)(a ca:Option Addr)(len cap cl cc:Nat)(l:List Int)(cs:List Qek)(hl:Z6 U a len l)(ae:Qz0 U.frz ca cl cs)(ax:len<=1000000)(bd:cl<2^60) :
  Qb S 11 #[h.v,.int .i64 e,.slice a len cap,.slice ca cl cc] (λ v U'=>(∃v1,v=.tuple #[v1,.int .i64 (t.cutF e l cs)]/\Jw U'.frz v1 (t.cutL e l cs))/\U.le U') U:=by
 refine Qb.listed (Qb.of (args:=[_,_,_,_]) Zqm Qe S1 ?_);have ap:=ae.1;have bf:=hl.1
 repeat refine⟨rfl,?_⟩
 conv=>whnf
 intro b4 U1 a2 ao;refine⟨_,⟨rfl,ao.rdT λ _ _ h=>h⟩,?_⟩
 conv=>whnf
 intro ai aw;refine Zh aw λ U2 a3 P=>?_;have P:Zi U2 ai #[.slice a len cap]:=P;have G:=a2.trans a3;refine⟨Znw.any,(Q4g h t (ht.lg G.lg) e (some ⟨ai,0,none⟩) 1 1 [l] (.one P (hl.lg G.lg) O1) O1).go λ _=>?_⟩
 conv=>whnf
 intro ay aq;refine⟨_,.refl _,rfl,Zv (vs:=[.slice h.ea h.el h.ec,.slice h.ma h.ml h.mc,.slice h.ka h.kl h.kc]) aq rfl (by simp[Value.single]) λ U3 a4 an=>?_⟩;have w:=G.trans a4;have a5:Qz0 U3 ca cl cs:=ae.lg (SY Qr w);have a6:Qz0 U3.frz ca cl cs:=ae.lg w.lg.frz2;have a8:=ht.lg w.lg
 repeat refine⟨rfl,?_⟩
 conv=>whnf
 apply Qg<;>intro H
 .have hf:t.openF e [l]≠0:=by simpa using H
  have Y:t.cutF e l cs=t.openF e [l]:=by unfold WJ.cutF;rw[if_neg hf]
  have hL:t.cutL e l cs=[]:=by unfold WJ.cutL;rw[Y,if_neg hf]
  repeat refine⟨rfl,?_⟩
  conv=>whnf
  exact⟨_,by rw[Y];rfl,by rw[hL,w.own];exact .nil,w.imm,w.tok⟩
 have hf:t.openF e [l]=0:=by simpa using H
 repeat refine⟨rfl,?_⟩
 conv=>whnf
 apply Qg<;>intro H
 .have Q:4<cs.length:=by rw[ap];simp at H;omega
  have Y:t.cutF e l cs=2:=by unfold WJ.cutF;rw[if_pos hf,if_pos Q]
  have hL:t.cutL e l cs=[]:=by unfold WJ.cutL;rw[Y];rfl
  repeat refine⟨rfl,?_⟩
  conv=>whnf
  exact⟨_,by rw[Y];rfl,by rw[hL,w.own];exact .nil,w.imm,w.tok⟩
 have Q:¬4<cs.length:=by rw[ap];simp at H;omega
 have Y:t.cutF e l cs=t.chkAll e (cs.map (·.items)):=by unfold WJ.cutF;rw[if_pos hf,if_neg Q]
 refine⟨Nat,λ i=>[(1,.int .i64 e),(2,.slice a len cap),(3,.slice ca cl cc),(10,.pointer (some ⟨ay,0,none⟩)),(32,.slice ca cl cc),(33,.int .i64 cl),(34,.int .i64 i)],
  λ i U'=>U3.le U'/\i<=cl/\t.chkAll e (cs.map (·.items))=t.chkAll e ((cs.drop i).map (·.items)),λ i=>cl-i,0,T1,⟨.refl _,O1,S1⟩,?_⟩
 rintro i f U4⟨E,hi,B⟩;have z:=w.trans E
 repeat refine⟨rfl,?_⟩
 conv=>whnf
 apply Qg<;>intro H
 .have hlt:i<cl:=by simpa using H
  obtain⟨ad,c,vs,hx,rfl,a7,⟨a',l',c',rfl,ah,V⟩,-,hr⟩:=Q7.at (a5.lg E.lg) hlt;rw[Hj hx,map_cons,WJ.chkAll]at B;have af:Z7 (i+1):=I1
  refine⟨ad,i,⟨rfl,rfl,hlt⟩,_,⟨rfl,hr⟩,?_⟩
  conv=>whnf
  intro az au;refine⟨_,.refl _,rfl,Zv (vs:=[.slice a' l' c',.bool c.keep]) au rfl (by simp[Value.single]) λ U5 F L=>?_⟩;have L:Zi U5 az #[.slice a' l' c',.bool c.keep]:=L;refine⟨_,⟨rfl,Zi.rdI (vs:=[.slice h.ea h.el h.ec,.slice h.ma h.ml h.mc,.slice h.ka h.kl h.kc]) an (E.trans F).imm⟩,?_⟩
  repeat refine⟨rfl,?_⟩
  refine⟨_,L.sees3 rfl,Zn1.any,(Qi0 h t (a8.lg (E.trans F).lg) e a' l' c' c.items (ah.lg F.lg) V).go λ _=>?_⟩
  repeat refine⟨rfl,?_⟩
  conv=>whnf
  apply Qg<;>intro H
  .have hn:t.chk e none c.items≠0:=by simpa using H
   have ak:t.cutF e l cs=t.chk e none c.items:=by rw[Y,B,if_neg hn]
   have hL:t.cutL e l cs=[]:=by unfold WJ.cutL;rw[ak,if_neg hn]
   repeat refine⟨rfl,?_⟩
   conv=>whnf
   exact⟨_,by rw[ak];rfl,by rw[hL,(z.trans F).own];exact .nil,(z.trans F).imm,(z.trans F).tok⟩
  .have hn:t.chk e none c.items=0:=by simpa using H
   refine⟨af,?_⟩
   conv=>whnf
   exact⟨rfl,i+1,T1,⟨E.trans F,O1,by rw[B,if_pos hn]⟩,L1⟩
 .have hge:cl<=i:=by simpa using H
  rw[drop_eq_nil_of_le O1]at B;have al:t.cutF e l cs=0:=by rw[Y,B];rfl
  have hL:t.cutL e l cs=Qli cs l:=by unfold WJ.cutL;rw[al,if_pos rfl]
  refine⟨Pz.any,(DT a len cap l (hl.lg z.lg) ax).mono ?_⟩;rintro v U5⟨ha,a0,a9⟩-;obtain⟨sa,sc,rfl,-⟩:=Sv ha
  refine⟨Nat×Value,λ y=>[(3,.slice ca cl cc),(15,y.2),(49,.slice ca cl cc),(50,.int .i64 cl),(51,.int .i64 y.1)],
   λ y U'=>(∀x o,U4.I x=some o->U'.I x=some o)/\U'.tok=U4.tok/\Acc 3 1 y.2 ((Qli (cs.take y.1) l).map λ n=>.int .i64 n) U'.M U4.M/\y.1<=cl,λ y=>cl-y.1,(0,.slice sa l.length sc),T1,⟨a0,a9,ha,O1⟩,?_⟩
  rintro⟨j,v⟩f U6⟨W,X,K,hj⟩;simp only at K hj;have ag:=Zrs (cs.take j) l;generalize T:Qli (cs.take j) l=aj at K ag;obtain⟨sa,sc,rfl,-⟩:=Sv K;have be:U4.frz.lg U6:=⟨W,⟨_,(append_nil _).symm⟩,X⟩;have Z:U3.frz.lg U6:=⟨λ b o h=>W b o (E.imm b o h),⟨_,(append_nil _).symm⟩,X.trans E.tok⟩
  repeat refine⟨rfl,?_⟩
  conv=>whnf
  apply Qg<;>intro H
  .have hlt:j<cl:=by simpa using H
   obtain⟨ad,c,vs,hx,rfl,a7,⟨a',l',c',rfl,ah,V⟩,-,hr⟩:=Q7.at a6 hlt;have af:Z7 (j+1):=I1
   refine⟨ad,j,⟨rfl,rfl,hlt⟩,_,⟨rfl,hr.lg Z⟩,?_⟩
   conv=>whnf
   intro ab av;refine⟨_,.refl _,rfl,Zv (vs:=[.slice a' l' c',.bool c.keep]) av rfl (by simp[Value.single]) λ U7 h7 N=>?_⟩;have N:Zi U7 ab #[.slice a' l' c',.bool c.keep]:=N;have aa:=SY Z h7
   refine⟨Zqs.any,(Q4a (.slice sa aj.length sc) aj U4.M (by rw[h7.own];exact K) O1 36 #[] #[.pointer (some ⟨ab,0,none⟩)] (λ n=>c.items.contains n != c.keep) Zqt.any
    (λ U8 ac n _=>Zp8 n ab a' l' c' c.items c.keep (N.imI ac.imm) (ah.lg ⟨λ b o h=>ac.imm b o (aa.imm b o h),⟨_,(append_nil _).symm⟩,ac.tok.trans aa.tok⟩) V)).mono ?_⟩
   rintro v8 U8⟨am,a1,ba⟩-;obtain⟨bb,bc,rfl,-⟩:=Sv am;refine⟨af,?_⟩
   conv=>whnf
   exact⟨rfl,(j+1,.slice bb _ bc),T1,⟨λ b o h=>a1 b o (h7.imm b o (W b o h)),ba.trans (h7.tok.trans X),by rw[Zsf hx,T];exact am,O1⟩,L1⟩
  .have hge:cl<=j:=by simpa using H
   rw[take_of_length_le O1]at T
   repeat refine⟨rfl,?_⟩
   conv=>whnf
   exact⟨_,by rw[al];rfl,by rw[hL,T,<- z.own];exact K,λ b o h=>W b o (z.imm b o h),X.trans z.tok⟩
end Go.Proofs
namespace Go.TM
variable{T:Type}{U:Qa T}
def Zp6(U:Qa T)(a:Option Addr)(len:Nat)(l:List (Int×Int)):Prop:=Q7 U a len 2 l λ p vs=>vs=Qde p
def Zp6.lg{U':Qa T}{a:Option Addr}{len:Nat}{l:List (Int×Int)}(h:Zp6 U a len l)(hl:U.lg U'):Zp6 U' a len l:=Q7.lg h hl λ _ _ h=>h
end Go.TM
namespace Go.TM
variable{T:Type}{P:Program}{S:Sys P T}{U:Qa T}
def Acc.own{e n:Nat}{v:Value}{cs:List Value}{M M₀:List Qw}(h:Acc e n v cs M M₀):∃A,M=A++M₀:=by
 rcases h with⟨_,_,rfl⟩|⟨b,c,len,cap,_,_,_,_,rfl,_⟩
 .exact⟨[],rfl⟩
 .exact⟨[_],rfl⟩
def Zqe{t:WJ}(hf:t.flaw=0){e:Int}:∀{l:List Int}{p:Option Int},t.chk e p l=0->(∀m,p=some m->0<=m)->l=[]\/(match p with|some m=>m+l.length<=7|none=>l.length<=8)
 |[],_,_,_=>.inl rfl
 |a::l,p,h,b=>by
  rw[WJ.chk_cons]at h;split at h
  .rename_i hi;have ha:=WJ.item_lt hf hi;right
   have key:t.chk e (some a) l=0->a+(l.length+1:Int)<=8:=λ h=>by
    rcases Zqe hf h (λ m hm=>by cases hm;exact ha.1)with rfl|h2
    .simp;omega
    .simp only at h2;omega
   cases p with
   |none=>simp only at h ⊢;have:=key h;simp;omega
   |some m=>
    simp only at h ⊢;split at h
    .cases h
    .have:=key h;simp;omega
  .cases h
end Go.TM
namespace Go.TM
variable{T:Type}{U:Qa T}
structure Qp6 where
 ed:Int
 lv:Int
 a:List Int
 b:List Int
structure KH where
 aa:Option Addr
 al:Nat
 ac:Nat
 ba:Option Addr
 bl:Nat
 bc:Nat
def KH.cs(h:TH)(k:KH)(x:Qp6):List Value:=[.slice h.ea h.el h.ec,.slice h.ma h.ml h.mc,.slice h.ka h.kl h.kc,.int .i64 x.ed,.int .i64 x.lv,.slice k.aa k.al k.ac,.slice k.ba k.bl k.bc]
abbrev KH.v(h:TH)(k:KH)(x:Qp6):Value:=.agg #[.slice h.ea h.el h.ec,.slice h.ma h.ml h.mc,.slice h.ka h.kl h.kc,.int .i64 x.ed,.int .i64 x.lv,.slice k.aa k.al k.ac,.slice k.ba k.bl k.bc]
def WJ.talkF(t:WJ)(e:Int)(a b:List Int)(lv:Int):Int:=if t.openF e [a,b]=0 then(if QP lv 1 5 then 0 else 1)else t.openF e [a,b]
end Go.TM
namespace Go.Proofs
open Go.TM
variable{T:Type}{S:TM.Sys prog T}{U:Qa T}
attribute [local irreducible] Qb Zm Wo
set_option maxHeartbeats 2000000 in
def Zqc(h:TH)(t:WJ)(ht:GG U h t)(e lv:Int)(a a':Option Addr)(len cap f cap':Nat)(l l':List Int)(hl:Z6 U a len l)(hl':Z6 U a' f l')(V:len<2^60)(G:f<2^60) :
  Qb S 26 #[h.v,.int .i64 e,.slice a len cap,.slice a' f cap',.int .i64 lv] (λ v U'=>v=.tuple #[KH.v h ⟨a,len,cap,a',f,cap'⟩ ⟨e,lv,l,l'⟩,.int .i64 (t.talkF e l l' lv)]/\U'=U) U:=by
 refine Qb.pure' (Qb.of (args:=[_,_,_,_,_]) Zqp Qe S1 ?_)
 repeat refine⟨rfl,?_⟩
 conv=>whnf
 intro b5 U1 E N
 conv=>whnf
 intro W Z;refine⟨_,.refl _,_,⟨rfl,N.rdT λ _ _ h=>h⟩,?_⟩
 conv=>whnf
 intro H T;refine Zh T λ Y K B=>?_;have B:Zi Y H #[.slice a len cap,.slice a' f cap']:=B;have w:U.lg Y:=E.lg.trans ((Z2 W _).trans K.lg);have X:=K.own;refine⟨Znw.any,(Q4g h t (ht.lg w) e (some ⟨H,0,none⟩) 2 2 [l,l'] (.two B (hl.lg w) (hl'.lg w) V G) O1).go λ _=>?_⟩
 conv=>whnf
 intro aa Q;refine⟨_,.refl _,rfl,Zv (vs:=[.slice h.ea h.el h.ec,.slice h.ma h.ml h.mc,.slice h.ka h.kl h.kc]) Q rfl (by simp[Value.single]) λ U3 L z=>?_⟩;have w:=w.trans L.lg;have F:U3.M=_:=L.own.trans X
 repeat refine⟨rfl,?_⟩
 conv=>whnf
 apply Jt<;>intro P
 .have hf:t.openF e [l,l']=0:=by simpa using P
  refine⟨Qdb.any,(Qab _ lv 1 5).go λ _=>?_⟩
  repeat refine⟨rfl,?_⟩
  conv=>whnf
  apply Qg<;>intro P
  .have hb:QP lv 1 5=false:=by simpa using P
   have I:t.talkF e l l' lv=1:=by unfold WJ.talkF;rw[if_pos hf,hb];rfl
   refine⟨_,⟨rfl,z.rdT λ _ _ h=>h⟩,rfl,Yi (vs:=KH.cs h ⟨a,len,cap,a',f,cap'⟩ ⟨e,lv,l,l'⟩) [] F rfl (by simp[KH.cs,Value.single]) ?_⟩;refine⟨KH.cs h ⟨a,len,cap,a',f,cap'⟩ ⟨e,lv,l,l'⟩,⟨rfl,Q9 [] rfl⟩,?_⟩
   conv=>whnf
   exact⟨by rw[I];rfl,λ b o hb=>w.imm b o hb,⟨[_],by rw[<- E.own];rfl⟩,w.tok⟩
  .have hb:QP lv 1 5=true:=by simpa using P
   have I:t.talkF e l l' lv=0:=by unfold WJ.talkF;rw[if_pos hf,hb];rfl
   refine⟨_,⟨rfl,z.rdT λ _ _ h=>h⟩,rfl,Yi (vs:=KH.cs h ⟨a,len,cap,a',f,cap'⟩ ⟨e,lv,l,l'⟩) [] F rfl (by simp[KH.cs,Value.single]) ?_⟩;refine⟨KH.cs h ⟨a,len,cap,a',f,cap'⟩ ⟨e,lv,l,l'⟩,⟨rfl,Q9 [] rfl⟩,?_⟩
   conv=>whnf
   exact⟨by rw[I,hf];rfl,λ b o hb=>w.imm b o hb,⟨[_],by rw[<- E.own];rfl⟩,w.tok⟩
 .have hf:t.openF e [l,l']≠0:=by simpa using P
  have I:t.talkF e l l' lv=t.openF e [l,l']:=by unfold WJ.talkF;rw[if_neg hf]
  repeat refine⟨rfl,?_⟩
  refine⟨_,⟨rfl,z.rdT λ _ _ h=>h⟩,rfl,Yi (vs:=KH.cs h ⟨a,len,cap,a',f,cap'⟩ ⟨e,lv,l,l'⟩) [] F rfl (by simp[KH.cs,Value.single]) ?_⟩;refine⟨KH.cs h ⟨a,len,cap,a',f,cap'⟩ ⟨e,lv,l,l'⟩,⟨rfl,Q9 [] rfl⟩,?_⟩
  conv=>whnf
  exact⟨by rw[I];rfl,λ b o hb=>w.imm b o hb,⟨[_],by rw[<- E.own];rfl⟩,w.tok⟩
end Go.Proofs
namespace Go.TM
variable{T:Type}{U:Qa T}
def Zrt(p:Int×Int):List Value:=[.agg #[.int .i64 p.1,.int .i64 p.2]]
def WJ.okP(t:WJ)(k:Qp6)(x y:List Int)(one two:Int):Bool:=!(x.contains one|| y.contains two|| decide (t.lev k.ed one two<k.lv))
def WJ.reachRow(t:WJ)(k:Qp6)(x y:List Int)(one:Int):List (Int×Int):=(k.b.filter (t.okP k x y one)).map λ two=>(one,two)
def WJ.reach(t:WJ)(k:Qp6)(x y:List Int):List (Int×Int):=k.a.flatMap (t.reachRow k x y)
def Zkd{α β:Type}{l:List α}{i m:Nat}{x:α}{z:β}{f:α->List β}(h:l[i]?=some x)(b:(f x)[m]?=some z):(l.flatMap f)[((l.take i).flatMap f).length+m]?=some z:=by
 have e:l=l.take i++x::l.drop (i+1):=by rw[<- Hj h,take_append_drop]
 conv=>lhs;arg 1;rw[e]
 rw[flatMap_append,flatMap_cons,getElem?_append_right O1,Nat.add_sub_cancel_left,getElem?_append_left (List.getElem?_eq_some_iff.1 b).1];exact b
def Zi.rdPre{b:Nat}{vs ws:List Value}(h:Zi U b (vs++ws).toArray):Je U ⟨b,0,none⟩ vs:=λ i v f=>
 h.sees3 (by have:=(List.getElem?_eq_some_iff.1 f).1;simp[getElem?_append_left this,f])
end Go.TM
namespace Go.Proofs
open Go.TM
variable{T:Type}{S:TM.Sys prog T}{U:Qa T}
attribute [local irreducible] Qb Zm Wo
def Zm8(h:TH)(t:WJ)(ht:GG U.frz h t)(k:KH)(tk:Qp6)(ha:Z6 U.frz k.aa k.al tk.a)(hb:Z6 U.frz k.ba k.bl tk.b)(xa ya:Option Addr)(xl xc yl yc:Nat)(x y:List Int)(hx:Z6 U.frz xa xl x)(hy:Z6 U.frz ya yl y)
  (aq:k.al<2^60) (au:k.bl<2^60) (am:xl<2^60) (an:yl<2^60) (V Y Z l:Nat) (H:Zi U.frz V (KH.cs h k tk).toArray) (af:Zi U.frz Y #[.slice xa xl xc]) (ag:Zi U.frz Z #[.slice ya yl yc]) :
  yE S 62 #[.func (.yield l) #[] #[],.pointer (some ⟨V,0,none⟩),.pointer (some ⟨Y,0,none⟩),.pointer (some ⟨Z,0,none⟩)] l ((t.reach tk x y).map Zrt) U:=by
 intro I E T hR h0;refine Qb.of (args:=[_,_,_,_]) Zqy Qe S1 ?_;have aj:=T.lg 0 _ h0;have ao:=ha.1;have ap:=hb.1;have H:Zi U.frz V #[.slice h.ea h.el h.ec,.slice h.ma h.ml h.mc,.slice h.ka h.kl h.kc,.int .i64 tk.ed,.int .i64 tk.lv,.slice k.aa k.al k.ac,.slice k.ba k.bl k.bc]:=H
 repeat refine⟨rfl,?_⟩
 refine⟨_,(H.lg aj).sees3 rfl,?_⟩
 repeat refine⟨rfl,?_⟩
 refine⟨Nat,λ i=>[(0,.func (.yield l) #[] #[]),(1,.pointer (some ⟨V,0,none⟩)),(2,.pointer (some ⟨Y,0,none⟩)),(3,.pointer (some ⟨Z,0,none⟩)),(10,.slice k.aa k.al k.ac),(11,.int .i64 k.al),(12,.int .i64 i)],
  λ i U'=>I (((tk.a.take i).flatMap (t.reachRow tk x y)).length) U'/\i<=k.al,λ i=>k.al-i,0,T1,⟨by simpa using h0,O1⟩,?_⟩
 rintro i f U1⟨F,hi⟩;have w:=T.lg _ _ F
 repeat refine⟨rfl,?_⟩
 conv=>whnf
 apply Qg<;>intro K
 .have hlt:i<k.al:=by simpa using K
  obtain⟨ad,one,P,ae,-,hs⟩:=(ha.lg w).at hlt;have ai:Z7 (i+1):=I1
  refine⟨ad,i,⟨ae,rfl,hlt⟩,_,hs,?_⟩
  repeat refine⟨rfl,?_⟩
  refine⟨_,(H.lg w).sees3 rfl,?_⟩
  repeat refine⟨rfl,?_⟩
  refine⟨Nat,λ j=>[(0,.func (.yield l) #[] #[]),(1,.pointer (some ⟨V,0,none⟩)),(2,.pointer (some ⟨Y,0,none⟩)),(3,.pointer (some ⟨Z,0,none⟩)),(6,.int .i64 one),(10,.slice k.aa k.al k.ac),(11,.int .i64 k.al),(12,.int .i64 i),(17,.slice k.ba k.bl k.bc),(18,.int .i64 k.bl),(19,.int .i64 j)],
   λ j U'=>I (((tk.a.take i).flatMap (t.reachRow tk x y)).length+((tk.b.take j).filter (t.okP tk x y one)).length) U'/\j<=k.bl,λ j=>k.bl-j,0,T1,⟨by simpa using F,O1⟩,?_⟩
  rintro j f U2⟨F,hj⟩;have w:=T.lg _ _ F
  repeat refine⟨rfl,?_⟩
  conv=>whnf
  apply Qg<;>intro K
  .have hltj:j<k.bl:=by simpa using K
   obtain⟨ab,two,G,ah,-,ak⟩:=(hb.lg w).at hltj;have N:Z7 (j+1):=I1
   refine⟨ab,j,⟨ah,rfl,hltj⟩,_,ak,_,(af.lg w).sees rfl,.bool (x.contains one),λ U' L _=>?_,?_⟩
   .refine⟨ON.any,(DB xa xl xc x (hx.lg (SY w L)) am one).mono ?_⟩;rintro _ U''⟨rfl,W⟩-;exact⟨rfl,_,.refl _,W▸.refl _⟩
   repeat refine⟨rfl,?_⟩
   conv=>whnf
   apply Jt<;>intro K
   .have hx1:x.contains one=false:=by simpa using K
    refine⟨_,(ag.lg w).sees rfl,.bool (y.contains two),λ U' L _=>?_,?_⟩
    .refine⟨ON.any,(DB ya yl yc y (hy.lg (SY w L)) an two).mono ?_⟩;rintro _ U''⟨rfl,W⟩-;exact⟨rfl,_,.refl _,W▸.refl _⟩
    repeat refine⟨rfl,?_⟩
    conv=>whnf
    apply Jt<;>intro K
    .have hy1:y.contains two=false:=by simpa using K
     refine⟨_,⟨rfl,Zi.rdPre (vs:=[.slice h.ea h.el h.ec,.slice h.ma h.ml h.mc,.slice h.ka h.kl h.kc]) (ws:=[.int .i64 tk.ed,.int .i64 tk.lv,.slice k.aa k.al k.ac,.slice k.ba k.bl k.bc]) (H.lg w)⟩,_,(H.lg w).sees3 rfl,.int .i64 (t.lev tk.ed one two),λ U' L _=>?_,?_⟩
     .refine⟨Zqz.any,(Zo7 h t (ht.lg (SY w L)) tk.ed one two).mono ?_⟩;rintro _ U''⟨rfl,W⟩-;exact⟨rfl,_,.refl _,W▸.refl _⟩
     refine⟨_,(H.lg w).sees3 rfl,?_⟩
     conv=>whnf
     intro U3 B _;have F:=T.le _ _ _ B F;have w:=SY w B
     repeat refine⟨rfl,?_⟩
     conv=>whnf
     apply Qg<;>intro K
     .have hlt':t.lev tk.ed one two<tk.lv:=by simpa using K
      have M:t.okP tk x y one two=false:=by unfold WJ.okP;rw[hx1,hy1];simp[hlt']
      repeat refine⟨rfl,?_⟩
      refine⟨N,rfl,j+1,T1,⟨by rw[Wf G,filter_append,filter_cons,if_neg (by rw[M];exact Bool.false_ne_true),filter_nil,append_nil];exact F,O1⟩,L1⟩
     .have hge':¬t.lev tk.ed one two<tk.lv:=by simpa using K
      have X:t.okP tk x y one two=true:=by unfold WJ.okP;rw[hx1,hy1];simp[hge']
      have hp:((t.reach tk x y).map Zrt)[((tk.a.take i).flatMap (t.reachRow tk x y)).length+((tk.b.take j).filter (t.okP tk x y one)).length]?=some (Zrt (one,two)):=by
       rw[getElem?_map];unfold WJ.reach;rw[Zkd (z:=(one,two)) P (by unfold WJ.reachRow;rw[getElem?_map,Zsi G X];rfl)];rfl
      conv=>whnf
      refine hR _ _ U3 _ hp F (λ U4 Q=>?_) (λ U4 Q=>?_)
      .repeat refine⟨rfl,?_⟩
       refine⟨N,rfl,j+1,T1,⟨?_,O1⟩,L1⟩;rw[Wf G,filter_append,filter_cons,if_pos X,filter_nil,length_append,length_singleton,<- Nat.add_assoc];exact Q
      .repeat refine⟨rfl,?_⟩
       conv=>whnf
       exact .inr Q
    .have hy1:y.contains two=true:=by simpa using K
     conv=>whnf
     intro U3 B _;have F:=T.le _ _ _ B F;have w:=SY w B;have M:t.okP tk x y one two=false:=by unfold WJ.okP;rw[hy1];simp
     repeat refine⟨rfl,?_⟩
     refine⟨N,rfl,j+1,T1,⟨by rw[Wf G,filter_append,filter_cons,if_neg (by rw[M];exact Bool.false_ne_true),filter_nil,append_nil];exact F,O1⟩,L1⟩
   .have hx1:x.contains one=true:=by simpa using K
    conv=>whnf
    intro U3 B _;have F:=T.le _ _ _ B F;have w:=SY w B;have M:t.okP tk x y one two=false:=by unfold WJ.okP;rw[hx1];simp
    repeat refine⟨rfl,?_⟩
    refine⟨N,rfl,j+1,T1,⟨by rw[Wf G,filter_append,filter_cons,if_neg (by rw[M];exact Bool.false_ne_true),filter_nil,append_nil];exact F,O1⟩,L1⟩
  .have hge:k.bl<=j:=by simpa using K
   rw[take_of_length_le (l:=tk.b) O1]at F
   repeat refine⟨rfl,?_⟩
   refine⟨ai,rfl,i+1,T1,⟨?_,O1⟩,L1⟩;rw[Wf P,flatMap_append,length_append];simpa[WJ.reachRow]using F
 .have hge:k.al<=i:=by simpa using K
  rw[take_of_length_le O1]at F
  repeat refine⟨rfl,?_⟩
  conv=>whnf
  exact .inl (by unfold WJ.reach;simpa using F)
end Go.Proofs
namespace Go.TM
variable{T:Type}{P:Program}{S:Sys P T}{U:Qa T}
def Zqh{b:Nat}{c:Array Value}{t:TypeId}{M':List Qw}{Q:Qa T->Prop}(hf:U.free b)(w:U.M.Perm M')(h:∀f:Qa T,(∀x o,U.I x=some o->f.I x=some o)->f.tok=U.tok->f.M=M'->Zi f b c->Q f):∃f,Qv (U.put b (.cells c t)) f/\Q f:=
 ⟨_,(Wa (b:=b) (M':=U.M) (Perm.refl _)).trans (Wp (M':=M') w),h _ (Gt (o:=.cells c t) hf).imm rfl rfl Zi.new⟩
def Zr2(B D:Qw)(A R:List Qw):(B::D::(A++R)).Perm (A++B::D::R):=
 (((perm_middle (a:=B) (l₁:=A) (l₂:=D::R)).trans (Perm.cons B (perm_middle (a:=D) (l₁:=A) (l₂:=R))))).symm
def Zrg{α:Type}{enc:α->List Value}{n:Nat}(E:∀x,(enc x).length=n){a:Option Addr}{l:List α}(h:Src U a (l.flatMap enc))(B:∀b,a=some b->b.spot=none)(F:0<n):Q7 U a l.length n l λ x vs=>vs=enc x:=by
 refine⟨rfl,λ i x hx=>?_⟩
 have w:∀k,k<=l.length->((l.take k).flatMap enc).length=k*n:=by
  intro k G;rw[length_flatMap];have:(l.take k).map (λ x=>(enc x).length)=(l.take k).map λ _=>n:=by congr 1;funext x;exact E x
  rw[this,map_const',sum_replicate_nat,length_take];rw[Nat.min_eq_left G]
 have K:i<l.length:=(List.getElem?_eq_some_iff.1 hx).1;rcases h with⟨_,z⟩|⟨b,rfl,H⟩
 .have h0:=flatMap_eq_nil_iff.1 z x (mem_of_getElem? hx);have:=E x;rw[h0]at this;simp at this;omega
 .refine⟨b,enc x,rfl,B b rfl,rfl,E x,λ j v I=>?_⟩;rw[ku _ (B b rfl)];refine H (i*n+j) v ?_;have:=Zkd (f:=enc) hx I
  rwa [w i O1]at this
def Zp1(l:List (Int×Int)):(l.flatMap Qde).length=l.length*2:=by
 rw[length_flatMap];have e:l.map (λ p=>(Qde p).length)=l.map λ _=>2:=rfl;rw[e,map_const',sum_replicate_nat]
def Zrl(U:Qa T)(v:Value)(l:List (Int×Int)):Prop:=∃a cap,v=.slice a l.length cap/\l.length<=cap/\Q7 U a l.length 2 l λ p vs=>vs=Qde p
def Acc.cap{e n:Nat}{v:Value}{cs:List Value}{M M₀:List Qw}(h:Acc e n v cs M M₀):∀a len cap,v=.slice a len cap->len<=cap:=by
 rcases h with⟨rfl,_⟩|⟨b,c,len,cap,rfl,_,h2,_⟩
 .intro a len cap e;cases e;exact Nat.le_refl _
 .intro a len cap e;cases e;exact h2
def Acc.pairsN{U':Qa T}{v:Value}{l:List (Int×Int)}(F:WI U')(h:Acc 41 2 v (l.flatMap Qde) U'.M U.M)(E:∀x z,U.I x=some z->U'.I x=some z)(ht:U'.tok=U.tok):∃U'',Qv U' U''/\U.le U''/\Zrl U''.frz v l:=by
 have b:=h.cap;obtain⟨U'',G,H,a,len,cap,rfl,hl,f,w,_⟩:=h.freeze F E ht;have b:=b _ _ _ rfl
 have:len=l.length:=by
  have h2:=Zp1 l;have B:l.length*2=len*2:=h2.symm.trans hl;exact(Nat.eq_of_mul_eq_mul_right D1 B).symm
 subst this;exact⟨U'',G,H,a,cap,rfl,b,Zrg (n:=2) (λ _=>rfl) f w D1⟩
end Go.TM
namespace Go.Proofs
open Go.TM
variable{T:Type}{S:TM.Sys prog T}{U:Qa T}
attribute [local irreducible] Qb Zm Wo
def Zsd:X6 prog 31 41 2:=.of K1
def Zpa(h:TH)(k:KH)(tk:Qp6)(xa I:Option Addr)(xl xc yl K:Nat) :
  Qb S 28 #[KH.v h k tk,.slice xa xl xc,.slice I yl K] (λ v U'=>(∃E F G,v=.func (.func 62) #[] #[.pointer (some ⟨E,0,none⟩),.pointer (some ⟨F,0,none⟩),.pointer (some ⟨G,0,none⟩)]/\Zi U' E (KH.cs h k tk).toArray/\Zi U' F #[.slice xa xl xc]/\Zi U' G #[.slice I yl K])/\U.le U') U:=by
 refine Qb.of (args:=[_,_,_]) Zqr Qe S1 ?_
 repeat refine⟨rfl,?_⟩
 conv=>whnf
 intro E L H w
 conv=>whnf
 intro F M f z
 conv=>whnf
 intro G N b B
 repeat refine⟨rfl,?_⟩
 conv=>whnf
 exact⟨⟨E,F,G,rfl,w.le (f.trans b),z.le b,B⟩,(H.trans f).trans b⟩
def Q4d(g:FuncId)(E:Array Value)(f:List (Int×Int))(hg:(prog.funcs[g]?.any λ fd=>fd.body.isSome&&fd.name != "runtime.NumGoroutine")=true)
  (ae:∀l b,U.frz.lg b->yE S g ([Value.func (.yield l) #[] #[]]++E.toList).toArray l (f.map Zrt) b) (ai:f.length<=400000) :
  Qb S 61 #[.slice none 0 0,.func (.func g) #[] E] (λ v U'=>Acc 41 2 v (f.flatMap Qde) U'.M U.M/\(∀x o,U.I x=some o->U'.I x=some o)/\U'.tok=U.tok) U:=by
 refine Qb.accs (Qb.of (args:=[_,_]) Zqx Qe S1 ?_)
 repeat refine⟨rfl,?_⟩
 conv=>whnf
 intro w aj
 repeat refine⟨rfl,?_⟩
 conv=>whnf
 let Inv:Nat->Qa T->Prop:=λ k U'=>U.frz.lg U'/\∃v A,U'.M=A++.obj w (.cells #[v] 31 (0,0))::U.M/\Jo 41 2 v ((f.take k).flatMap Qde) A
 refine Znz Qe (f.map Zrt) Inv (λ _ _=>False) (λ _=>False) rfl rfl hg (λ l b hl=>ae l b ⟨hl.imm,⟨_,(append_nil _).symm⟩,hl.tok⟩) ?_ ⟨?_,?_⟩ ?_ ?_ ?_ ?_ ?_
 .intro p hp;obtain⟨q,_,rfl⟩:=mem_map.1 hp;rfl
 .rintro k U' U'' hle ⟨hl,v,A,hM,ha⟩;exact⟨SY hl hle,v,A,hle.own.trans hM,ha⟩
 .rintro k U' ⟨hl,_⟩;exact⟨hl.imm,⟨_,(append_nil _).symm⟩,hl.tok⟩
 .exact⟨⟨λ _ _ h=>h,⟨_,(append_nil _).symm⟩,rfl⟩,.slice none 0 0,[],rfl,.nil⟩
 .intro l A' B D k p U0 KN KX KR KA hp ⟨hl,v,A,hM,ha⟩ hKN hKX hKR hKA
  obtain⟨q,X,rfl⟩:∃q,f[k]?=some q/\p=Zrt q:=by
   rw[getElem?_map]at hp;cases X:f[k]? with
   |none=>rw[X]at hp;cases hp
   |some q=>rw[X]at hp;cases hp;exact⟨q,rfl,rfl⟩
  have hk:k<f.length:=(List.getElem?_eq_some_iff.1 X).1;obtain⟨sa,sl,sc,rfl,af⟩:=ha.src
  conv=>whnf
  intro b5 W;refine⟨_,.refl _,rfl,Zv (vs:=Qde q) W rfl (by simp[Qde,Value.single]) λ b z G=>?_⟩
  conv=>whnf
  have e1:b=({ b with M:=U0.M }:Qa T).on A' D:=by
   have:=z.own;obtain⟨i1,m1,t1⟩:=b;simp only[Qa.on]at this ⊢;rw[this]
  rw[e1];refine hKA _ _ ?_;have K:(({ b with M:=U0.M }:Qa T).on B D).M=B::D::(A++.obj w (.cells #[.slice sa sl sc] 31 (0,0))::U.M):=by show B::D::U0.M=_;rw[hM]
  have Y:∀x o,U0.I x=some o->b.I x=some o:=λ x o h=>z.imm x o h;have F:Zi (({ b with M:=U0.M }:Qa T).on B D) b5 (Qde q).toArray:=G;generalize L:(({ b with M:=U0.M }:Qa T).on B D)=U2 at K F ⊢;have Z:∀x o,U.I x=some o->U2.I x=some o:=λ x o h=>by rw[<- L];exact Y x o (hl.imm x o h)
  have ag:U2.tok=U.tok:=by rw[<- L];exact z.tok.trans hl.tok
  clear L e1 z G W;refine⟨_,Q9 (B::D::A) K 0 _ rfl,Qde q,⟨rfl,Zi.rdI F (λ _ _ h=>h)⟩,?_⟩
  conv=>whnf
  intro bn ad;refine Zqh (M':=A++B::D::.obj w (.cells #[.slice sa sl sc] 31 (0,0))::U.M) ad (by rw[K];exact Zr2 B D A _) λ H aa ah ac P=>?_;have P:Zi H bn (Qde q).toArray:=P
  conv=>whnf
  refine Wn (v:=.slice sa sl sc) (cs:=(f.take k).flatMap Qde) (new:=Qde q) (M₀:=B::D::.obj w (.cells #[.slice sa sl sc] 31 (0,0))::U.M) Zsd rfl rfl (by rw[ac];exact ha _) (.inr ⟨_,rfl,Zi.rdI P (λ _ _ h=>h)⟩) rfl (by simp[Qde,Value.single]) (by rw[Zp1,length_take];show _+2<=_;omega) λ v' M' N _=>?_;have N:Acc 41 2 v' ((f.take (k+1)).flatMap Qde) M' (B::D::.obj w (.cells #[.slice sa sl sc] 31 (0,0))::U.M):=by rw[Wf X];simpa using N
  obtain⟨Q,ab,V⟩:=N.split;obtain⟨ta,tl,tc,rfl,-⟩:=V.src;refine⟨rfl,?_⟩;refine Yc (M₀:=U.M) (e:=31) (Q++[B,D]) [.slice ta tl tc] 0 #[.slice sa sl sc] _ (by show M'=_;rw[ab];simp) (by simp[Value.single]) S1 ?_;refine⟨({ H with M:=Q++.obj w (.cells #[.slice ta tl tc] 31 (0,0))::U.M }:Qa T).on B D,?_,?_⟩
  .refine Wp ?_;show Perm ((Q++[B,D])++.obj w _::U.M) (B::D::(Q++_));simpa[ZT]using(Zr2 B D Q (.obj w (.cells #[.slice ta tl tc] 31 (0,0))::U.M)).symm
  conv=>whnf
  exact hKN _ _ _ ⟨⟨λ x o h=>aa x o (Z x o h),⟨_,(append_nil _).symm⟩,ah.trans ag⟩,_,Q,rfl,V⟩
 .rintro d l A H ⟨hl,v,A1,hM,ha⟩;rw[take_of_length_le S1]at ha;obtain⟨sa,sl,sc,rfl,af⟩:=ha.src;refine⟨_,Q9 (.obj l A::.obj d (.deferred (some []))::A1) (by show _::_::H.M=_;rw[hM];rfl) 0 _ rfl,?_⟩;refine⟨_,.there .here,⟨A1,[.obj l A,.obj d (.deferred none),.obj w (.cells #[.slice sa sl sc] 31 (0,0))],?_,ha⟩,hl.imm,hl.tok⟩;show Perm (.obj l A::.obj d (.deferred none)::H.M) _;rw[hM];exact Perm.cons _ (Perm.cons _ perm_middle)
 .exact λ d l A i H h=>h.elim
 .exact λ d l A H h=>h.elim
end Go.Proofs
namespace Go.TM
variable{T:Type}{P:Program}{S:Sys P T}{U:Qa T}
def Qb.pairsE{f:FuncId}{args:Array Value}{F:Int}{R:List (Int×Int)->Prop}(h:Qb S f args (λ v U'=>∃b l,v=.tuple #[b,.int .i64 F]/\R l/\Acc 41 2 b (l.flatMap Qde) U'.M U.M/\(∀x w,U.I x=some w->U'.I x=some w)/\U'.tok=U.tok) U) :
  Qb S f args (λ v U'=>(∃b l,v=.tuple #[b,.int .i64 F]/\R l/\Zrl U'.frz b l)/\U.le U') U:=by
 refine h.sep λ v U' E⟨b,l,G,B,ha,z,ht⟩=>?_;obtain⟨U'',H,K,L⟩:=ha.pairsN E z ht;exact⟨U'',H,⟨_,l,G,B,L⟩,K⟩
def WJ.pairsL(t:WJ)(e:Int)(a b:List Int)(lv:Int):List (Int×Int):=if t.talkF e a b lv=0 then t.reach ⟨e,lv,a,b⟩ [] []else[]
def WJ.reach_len(t:WJ)(k:Qp6)(x y:List Int):(t.reach k x y).length<=k.a.length*k.b.length:=by
 unfold WJ.reach;rw[length_flatMap]
 have:∀l:List Int,(l.map λ a=>(t.reachRow k x y a).length).sum<=l.length*k.b.length:=by
  intro l
  induction l with
  |nil=>simp
  |cons a l f=>
   have h1:(t.reachRow k x y a).length<=k.b.length:=by unfold WJ.reachRow;rw[length_map];exact length_filter_le ..
   simp only[map_cons,sum_cons,length_cons,Nat.succ_mul];omega
 exact this _
def WJ.open_two{t:WJ}{e:Int}{a b:List Int}(h:t.openF e [a,b]=0):t.flaw=0/\t.isEd e=true/\t.chk e none a=0/\t.chk e none b=0:=by
 unfold WJ.openF at h;split at h
 .split at h
  .simp only[WJ.chkAll]at h;split at h
   .split at h
    .exact⟨‹_›,‹_›,‹_›,‹_›⟩
    .exact absurd h ‹_›
   .exact absurd h ‹_›
  .cases h
 .exact absurd h ‹_›
def WJ.talk_two{t:WJ}{e lv:Int}{a b:List Int}(h:t.talkF e a b lv=0):t.flaw=0/\t.isEd e=true/\t.chk e none a=0/\t.chk e none b=0/\QP lv 1 5=true:=by
 unfold WJ.talkF at h;split at h
 .rename_i ho;split at h
  .obtain⟨h1,h2,h3,h4⟩:=WJ.open_two ho;exact⟨h1,h2,h3,h4,‹_›⟩
  .cases h
 .exact absurd h ‹_›
def Zq4{t:WJ}(hf:t.flaw=0){e:Int}{l:List Int}(h:t.chk e none l=0):l.length<=8:=by
 rcases Zqe hf h S1 with rfl|h
 .simp
 .exact h
end Go.TM
namespace Go.Proofs
open Go.TM
variable{T:Type}{S:TM.Sys prog T}{U:Qa T}
attribute [local irreducible] Qb Zm Wo
def Zmz(g:FuncId)(b:Array Value)(h:List (Int×Int))(E:(prog.funcs[g]?.any λ fd=>fd.body.isSome&&fd.name != "runtime.NumGoroutine")=true)
  (w:∀l z,U.frz.lg z->yE S g ([Value.func (.yield l) #[] #[]]++b.toList).toArray l (h.map Zrt) z) (f:h.length<=400000) :
  Qb S 27 #[.func (.func g) #[] b] (λ v U'=>Acc 41 2 v (h.flatMap Qde) U'.M U.M/\(∀x o,U.I x=some o->U'.I x=some o)/\U'.tok=U.tok) U:=by
 refine Qb.of (args:=[_]) Zqq Qe S1 ?_;refine⟨Zqx.any,(Q4d g b h E w f).mono ?_⟩;rintro v U'⟨ha,B,ht⟩-;obtain⟨sa,sl,sc,rfl,-⟩:=Acc.src ha
 repeat refine⟨rfl,?_⟩
 conv=>whnf
 exact⟨ha,B,ht⟩
def Zck(h:TH)(t:WJ)(ht:GG U.frz h t)(k:KH)(tk:Qp6)(ha:Z6 U.frz k.aa k.al tk.a)(hb:Z6 U.frz k.ba k.bl tk.b)(H:k.al<=8)(K:k.bl<=8)(f w z:Nat)(xa:Option Addr)(xl xc:Nat)(x:List Int)(hx:Z6 U.frz xa xl x)(G:xl<2^60)
  (B:Zi U.frz f (KH.cs h k tk).toArray) (E:Zi U.frz w #[.slice xa xl xc]) (F:Zi U.frz z #[.slice none 0 0]) :
  Qb S 27 #[.func (.func 62) #[] #[.pointer (some ⟨f,0,none⟩),.pointer (some ⟨w,0,none⟩),.pointer (some ⟨z,0,none⟩)]] (λ v U'=>Acc 41 2 v ((t.reach tk x []).flatMap Qde) U'.M U.M/\(∀x o,U.I x=some o->U'.I x=some o)/\U'.tok=U.tok) U:=by
 refine Zmz 62 _ (t.reach tk x []) Zqy.any (λ l L hl=>?_) ?_
 .have hl:=hl.frz2;exact Zm8 h t (ht.lg hl) k tk (ha.lg hl) (hb.lg hl) xa none xl xc 0 0 x [] (hx.lg hl) ⟨rfl,S1⟩ O1 O1 G O1 f w z l (B.lg hl) (E.lg hl) (F.lg hl)
 .have h1:=t.reach_len tk x [];have h2:=ha.1;have N:=hb.1;have:tk.a.length*tk.b.length<=8*8:=Nat.mul_le_mul O1 O1;omega
def Zo1(h:TH)(t:WJ)(ht:GG U.frz h t)(e lv:Int)(a a':Option Addr)(len cap b cap':Nat)(l l':List Int)(hl:Z6 U.frz a len l)(hl':Z6 U.frz a' b l')(M:len<2^60)(B:b<2^60) :
  Qb S 8 #[h.v,.int .i64 e,.slice a len cap,.slice a' b cap',.int .i64 lv] (λ v U'=>(∃v1 ps,v=.tuple #[v1,.int .i64 (t.talkF e l l' lv)]/\ps=t.pairsL e l l' lv/\Zrl U'.frz v1 ps)/\U.le U') U:=by
 refine Qb.pairsE (Qb.of (args:=[_,_,_,_,_]) Zqb Qe S1 ?_)
 repeat refine⟨rfl,?_⟩
 conv=>whnf
 intro b5 U1 E H;refine⟨_,⟨rfl,H.rdT λ _ _ h=>h⟩,?_⟩;have w:U.frz.lg U1:=Qr.trans E.lg;refine⟨Zqp.any,(Zqc h t (ht.lg w) e lv a a' len cap b cap' l l' (hl.lg w) (hl'.lg w) M B).go λ _=>?_⟩
 conv=>whnf
 intro ab I;refine⟨_,.refl _,rfl,Zv (vs:=KH.cs h ⟨a,len,cap,a',b,cap'⟩ ⟨e,lv,l,l'⟩) I rfl (by simp[KH.cs,Value.single]) λ U2 P G=>?_⟩;have f:=E.trans P;have K:U.frz.lg U2:=Qr.trans f.lg
 repeat refine⟨rfl,?_⟩
 conv=>whnf
 apply Qg<;>intro Z
 .have hf:t.talkF e l l' lv≠0:=by simpa using Z
  repeat refine⟨rfl,?_⟩
  conv=>whnf
  exact⟨_,[],rfl,by unfold WJ.pairsL;rw[if_neg hf],by rw[f.own];exact .nil,f.imm,f.tok⟩
 have hf:t.talkF e l l' lv=0:=by simpa using Z
 obtain⟨L,hed,W,X,ad⟩:=WJ.talk_two hf;have l8:l.length<=8:=Zq4 L W;have ae:l'.length<=8:=Zq4 L X;have ac:=hl.1;have aa:=hl'.1;refine⟨KH.cs h ⟨a,len,cap,a',b,cap'⟩ ⟨e,lv,l,l'⟩,⟨rfl,Zi.rdI G (λ _ _ h=>h)⟩,Zqr.any,(Zpa h ⟨a,len,cap,a',b,cap'⟩ ⟨e,lv,l,l'⟩ none none 0 0 0 0).mono ?_⟩;rintro _ U3⟨⟨b3,b4,N,rfl,Q,T,V⟩,F⟩-;have f:=f.trans F;have z:U.frz.lg U3.frz:=(K.trans F.lg).frz2;refine⟨Zqq.any,(Zck h t (ht.lg z) ⟨a,len,cap,a',b,cap'⟩ ⟨e,lv,l,l'⟩ (hl.lg z) (hl'.lg z) (by show len<=8;omega) (by show b<=8;omega) b3 b4 N none 0 0 [] ⟨rfl,S1⟩ O1 Q T V).mono ?_⟩;rintro v U4⟨ha,hI,Y⟩-;obtain⟨sa,sl,sc,rfl,-⟩:=Acc.src ha
 repeat refine⟨rfl,?_⟩
 conv=>whnf
 exact⟨_,_,by rw[hf];rfl,by unfold WJ.pairsL;rw[if_pos hf],by rw[f.own]at ha;exact ha,λ x o hx=>hI x o (f.imm x o hx),Y.trans f.tok⟩
end Go.Proofs
namespace Go.TM
variable{T:Type}{U:Qa T}
end Go.TM
namespace Go.TM
variable{T:Type}{U U0:Qa T}
end Go.TM
namespace Go.TM
def lenT:ByteArray:=⟨#[0,1,2,2,3,3,3,3,4,4,4,4,4,4,4,4,5,5,5,5,5,5,5,5,5,5,5,5,5,5,5,5,6,6,6,6,6,6,6,6,6,6,6,6,6,6,6,6,6,6,6,6,6,6,6,6,6,6,6,6,6,6,6,6,7,7,7,7,7,7,7,7,7,7,7,7,7,7,7,7,7,7,7,7,7,7,7,7,7,7,7,7,7,7,7,7,7,7,7,7,7,7,7,7,7,7,7,7,7,7,7,7,7,7,7,7,7,7,7,7,7,7,7,7,7,7,7,7,8,8,8,8,8,8,8,8,8,8,8,8,8,8,8,8,8,8,8,8,8,8,8,8,8,8,8,8,8,8,8,8,8,8,8,8,8,8,8,8,8,8,8,8,8,8,8,8,8,8,8,8,8,8,8,8,8,8,8,8,8,8,8,8,8,8,8,8,8,8,8,8,8,8,8,8,8,8,8,8,8,8,8,8,8,8,8,8,8,8,8,8,8,8,8,8,8,8,8,8,8,8,8,8,8,8,8,8,8,8,8,8,8,8,8,8,8,8,8,8,8,8,8,8,8,8,8,8]⟩
def Asc(l:List Int):Prop:=l.Pairwise (· < ·)
def Asc.filter{l:List Int}(h:Asc l)(p:Int->Bool):Asc (l.filter p):=Pairwise.filter _ h
variable{T:Type}{P:Program}{S:Sys P T}{U:Qa T}
end Go.TM
namespace Go.TM
variable{T:Type}{P:Program}{S:Sys P T}
structure Hlr(U:Qa T)(b:Nat)(e:TypeId)(c:Array Value)(U':Qa T):Prop where
 imm:∀x o,U.I x=some o->U'.I x=some o
 own:U'.M=.obj b (.cells c e (0,0))::U.M
 tok:U'.tok=U.tok
 new:U.I b=none
def Hlr.le{U U' U'':Qa T}{b:Nat}{e:TypeId}{c:Array Value}(h:Hlr U b e c U')(k:U'.le U''):Hlr U b e c U'':=⟨λ x o i=>k.imm x o (h.imm x o i),k.own.trans h.own,k.tok.trans h.tok,h.new⟩
def Hlr.frz2{U U':Qa T}{b:Nat}{e:TypeId}{c:Array Value}(h:Hlr U b e c U'):U.frz.lg U'.frz:=⟨h.imm,⟨[],rfl⟩,h.tok⟩
def Hlr.frz1{U U':Qa T}{b:Nat}{e:TypeId}{c:Array Value}(h:Hlr U b e c U'):U.frz.lg U':=⟨h.imm,⟨_,(append_nil _).symm⟩,h.tok⟩
def Hlr.made{U U':Qa T}{b:Nat}{e:TypeId}{c:Array Value}(h:U.le U')(hf:U'.free b):Hlr U b e c (U'.put b (.cells c e)):=by
 refine⟨h.imm,by show _::U'.M=_;rw[h.own],h.tok,?_⟩;cases hb:U.I b with
 |none=>rfl
 |some o=>have:=h.imm b o hb;rw[hf.1]at this;cases this
def Hlr.write{U U':Qa T}{b:Nat}{e:TypeId}{c:Array Value}{vs:List Value}{Q:Qa T->Prop}(h:Hlr U b e c U')(w:c.size=vs.length)(B:∀v∈vs,v.single=true)(z:∀f,U.le f->Zi f b vs.toArray->Q f):QX ⟨b,0,none⟩ vs 0 (λ U'=>∃f,Qv U' f/\Q f) U':=by
 refine Yc [] vs 0 c U' h.own B O1 ?_;rw[Pj w];refine⟨_,Wa (b:=b) (M':=U.M) (Perm.refl _),z _ ⟨λ x o i=>?_,rfl,h.tok⟩ Zi.new⟩;show JC U'.I b _ x=_;unfold JC;rw[if_neg]
 .exact h.imm x o i
 .rintro rfl;rw[h.new]at i;cases i
end Go.TM
namespace Go.TM
variable{T:Type}{P:Program}{S:Sys P T}{U U' U'':Qa T}
def Qzy{m:Nat}:∀{L:List (List Value)},(∀r∈L,r.length=m)->L.flatten.length=L.length*m
 |[],_=>S1
 |r::L,h=>by
  rw[flatten_cons,length_append,h r (mem_cons_self ..),Qzy λ x hx=>h x (mem_cons_of_mem _ hx),length_cons,Nat.succ_mul];omega
def Zq7{m:Nat}:∀{L:List (List Value)},(∀r∈L,r.length=m)->∀{j k:Nat}{r:List Value},L[j]?=some r->k<m->L.flatten[j*m+k]?=r[k]?
 |[],_,j,k,r,b,_=>by simp at b
 |a::L,h,0,k,r,b,f=>by
  simp at b;subst b;rw[flatten_cons,Nat.zero_mul,Nat.zero_add,getElem?_append_left (by rw[h a (mem_cons_self ..)];exact f)]
 |a::L,h,j+1,k,r,b,f=>by
  simp at b;have ha:=h a (mem_cons_self ..);rw[flatten_cons,getElem?_append_right (by rw[ha,Nat.succ_mul];omega),ha,show(j+1)*m+k-m=j*m+k by rw[Nat.succ_mul];omega];exact Zq7 (λ x hx=>h x (mem_cons_of_mem _ hx)) b f
def Qn9(U:Qa T)(rows:List (List Value))(cs:List Cs):Prop:=rows.length=cs.length/\∀(i:Nat)(c:Cs),cs[i]?=some c->∃r,rows[i]?=some r/\P_ U.frz c r
def Qn9.lg{rows:List (List Value)}{cs:List Cs}(h:Qn9 U rows cs)(k:U.frz.lg U'.frz):Qn9 U' rows cs:=⟨h.1,λ i c b=>let ⟨r,e,hr⟩:=h.2 i c b;⟨r,e,hr.lg k⟩⟩
def Qn9.nil:Qn9 U [] []:=⟨rfl,λ i c h=>by simp at h⟩
def Qn9.snoc{rows:List (List Value)}{cs:List Cs}{c:Cs}{r:List Value}(h:Qn9 U rows cs)(f:P_ U.frz c r):Qn9 U (rows++[r]) (cs++[c]):=by
 refine⟨by simp[h.1],λ i x hx=>?_⟩;rw[getElem?_append]at hx;split at hx
 .rename_i hlt;obtain⟨w,e,b⟩:=h.2 i x hx;exact⟨w,by rw[getElem?_append_left (by rw[h.1];exact hlt)];exact e,b⟩
 .rename_i hge;have:i=cs.length:=by have:=(List.getElem?_eq_some_iff.1 hx).1;simp at this;omega
  subst this;simp at hx;subst hx;exact⟨r,by rw[<- h.1];simp,f⟩
def Qn9.row{rows:List (List Value)}{cs:List Cs}(h:Qn9 U rows cs):∀r∈rows,r.length=4:=by
 intro r w;obtain⟨i,f⟩:=getElem?_of_mem w;have b:i<cs.length:=by rw[<- h.1];exact(List.getElem?_eq_some_iff.1 f).1
 obtain⟨z,e,ga,gl,gc,aa,al,ac,rfl,-⟩:=h.2 i _ (getElem?_eq_getElem b);rw[f]at e;cases e;rfl
def Qn9.rows{rows:List (List Value)}{cs:List Cs}{a:Option Addr}(h:Qn9 U rows cs)(H:Src U.frz a rows.flatten)(w:∀b,a=some b->b.spot=none):Q7 U.frz a cs.length 4 cs (P_ U.frz):=by
 refine⟨rfl,λ i c B=>?_⟩;obtain⟨r,e,G⟩:=h.2 i c B;have hl:=h.row r (mem_of_getElem? e);rcases H with⟨_,F⟩|⟨b,ha,f⟩
 .have h1:=Qzy h.row;rw[F]at h1;have h2:=(List.getElem?_eq_some_iff.1 e).1;simp at h1;omega
 .have hs0:=w b ha;refine⟨b,r,ha,hs0,G,hl,λ j v z=>?_⟩;have E:j<4:=by rw[<- hl];exact(List.getElem?_eq_some_iff.1 z).1
  have h5:=f (i*4+j) v (by rw[Zq7 h.row e E];exact z);obtain⟨bb,I,K⟩:=b;cases hs0;rw[Qo]at h5;rw[Qo,Qo,Nat.add_assoc];exact h5
def HqV(h:Qa T)(R:Qa T->Prop)(b:Nat)(e:TypeId)(z:Array Value)(U':Qa T):Prop:=∃f,h.le f/\R f/\Hlr f b e z U'
def HqV.le{f:Qa T}{R:Qa T->Prop}{b:Nat}{e:TypeId}{z:Array Value}(h:HqV f R b e z U')(k:U'.le U''):HqV f R b e z U'':=let ⟨d,h1,h2,h3⟩:=h;⟨d,h1,h2,h3.le k⟩
def HqV.frz{f:Qa T}{R:Qa T->Prop}{b:Nat}{e:TypeId}{z:Array Value}(h:HqV f R b e z U'):f.frz.lg U':=let ⟨_,h1,_,h3⟩:=h;h1.lg.frz2.trans h3.frz1
def HqV.of{f:Qa T}{R:Qa T->Prop}{b:Nat}{e:TypeId}{z:Array Value}(h:Hlr f b e z U')(w:U'.le U'')(E:WI U'')(B:R { U'' with M:=f.M }):HqV f R b e z U'':=by
 have h2:=h.le w;refine⟨{ U'' with M:=f.M },⟨h2.imm,rfl,h2.tok⟩,B,⟨λ _ _ h=>h,h2.own,rfl,?_⟩⟩;exact E (.obj b (.cells z e (0,0))) (by rw[h2.own];exact mem_cons_self ..)
end Go.TM





