/- Lemmas. No conditions. -/
import Derived.Test.YtajkaognaiglhaaGreatDoorB19
import Derived.Test.YtajkaognaiglhaaGreatDoorB02
import Derived.Test.YtajkaognaiglhaaGreatDoorB15
set_option linter.all false
set_option maxRecDepth 100000
set_option maxHeartbeats 1000000
open List
open Go.Proofs.Tryz (prog)
namespace Go.TM
open Go.Proofs
def Qd:prog.follows .mixedOrders=true:=K1
variable{T α:Type}{S:Sys prog T}{p:α->Bool}{l':List α}{i:Nat}{V:α}{U:Qa T}
section
attribute [local irreducible] Qb Zr W5
def Wy(U:Qa T)(n a b:Int):Qb S 38 #[.int .i64 n,.int .i64 a,.int .i64 b] (λ v U'=>v=.bool (Q_ n a b)/\U'=U) U:=by
 refine Qb.of (args:=[_,_,_]) Gn Qd S1 ?_
 repeat refine⟨rfl,?_⟩
 conv=>whnf
 apply Jb<;>intro e
 .repeat refine⟨rfl,?_⟩
  conv=>whnf
  grind[Q_]
 .repeat refine⟨rfl,?_⟩
  conv=>whnf
  grind[Q_]
def Za1(U:Qa T)(n a b:Int):Qb S 44 #[.int .i64 n,.int .i64 a,.int .i64 b] (λ v U'=>v=.bool (Q_ n a b)/\U'=U) U:=by
 refine Qb.of (args:=[_,_,_]) Ll Qd S1 ?_
 repeat refine⟨rfl,?_⟩
 conv=>whnf
 apply Jb<;>intro e
 .repeat refine⟨rfl,?_⟩
  conv=>whnf
  grind[Q_]
 .repeat refine⟨rfl,?_⟩
  conv=>whnf
  grind[Q_]
def Ot(S:TM.Sys prog T)(U:Qa T)(g:FuncId)(first e:Array Value)(enc:α->Value)(l:List α)(p:α->Bool):Prop:=
 (prog.funcs[g]?.any λ fd=>fd.body.isSome&&fd.name != "runtime.NumGoroutine")=true/\∀x∈l,Qb S g (first.toList++[enc x]++e.toList).toArray (λ v U'=>v=.bool (p x)/\U'=U) U
def XO(p:α->Bool)(l:List α):Int:=match l.findIdx? p with|some i=>i|none=>-1
def Vp(h:∀x∈l',p x=false):XO p l' = -1:=by
 grind[XO]
def Vq(z:l'[i]?=some V)(w:p V=true)(h:∀y∈l'.take i,p y=false):XO p l'=i:=by
 unfold XO
 have:l'.findIdx? p=some i:=by
  obtain⟨e,rfl⟩:=List.getElem?_eq_some_iff.1 z;rw[findIdx?_eq_some_iff_getElem];refine⟨e,w,λ j B=>?_⟩
  have f:l'[j]' O1∈l'.take i:=by
   rw[mem_take_iff_getElem];exact⟨j,O1,rfl⟩
  simpa using h _ f
 rw[this]
def V_:decide (XO p l' ≥ 0)=l'.any p:=by
 unfold XO;grind
def RQ(enc:α->Value)(a:Option Addr)(len cap:Nat)(l:List α)(T:l.length=len)(H:∀i x,l[i]?=some x->∃E,a=some E/\E.spot=none/\U.sees (E.add (i*1)) (enc x))(I:∀x,∃k n,enc x=.int k n)(L:len<2^60)(g:FuncId)(first w:Array Value)(p:α->Bool)
  (K:Ot S U g first w enc l p):Qb S 181 #[.slice a len cap,.func (.func g) first w] (λ v U'=>v=.int .i64 (XO p l)/\U'=U) U:=by
 refine Qb.of (args:=[_,_]) UP Qd S1 ?_
 repeat refine⟨rfl,?_⟩
 refine⟨Nat,λ i=>[(0,.slice a len cap),(1,.func (.func g) first w),(6,.slice a len cap),(7,.int .i64 len),(8,.int .i64 i)],
  λ i U'=>U'=U/\i<=len/\∀x∈l.take i,p x=false,λ i=>len-i,0,T1,⟨rfl,O1,S1⟩,?_⟩
 rintro i f _⟨rfl,Q,e⟩
 repeat refine⟨rfl,?_⟩
 conv=>whnf
 apply Qe<;>intro F
 .have hlt:i<len:=by simpa using F
  have G:l[i]?=some (l[i]' O1):=S1
  generalize l[i]' O1=x at G;obtain⟨E,rfl,P,M⟩:=H i x G;obtain⟨k,n,N⟩:=I x;have z:=K.2 x (mem_of_getElem? G);rw[N]at z M;refine⟨E,i,⟨rfl,rfl,hlt⟩,_,M,K.1,z.mono ?_⟩;rintro v U'⟨rfl,rfl⟩-
  conv=>whnf
  apply Qe<;>intro F
  .repeat refine⟨rfl,?_⟩
   conv=>whnf
   exact⟨by rw[Vq G F e],rfl⟩
  .refine⟨I1,?_⟩;refine⟨rfl,i+1,T1,⟨rfl,O1,?_⟩,L1⟩;intro y B;rw[Wm G,mem_append]at B;grind
 .have hge:len<=i:=by simpa using F
  repeat refine⟨rfl,?_⟩
  refine⟨?_,rfl⟩;rw[take_of_length_le O1]at e;rw[Vp e]
def RS(enc:α->Value)(a:Option Addr)(len cap:Nat)(l:List α)(T:l.length=len)(H:∀i x,l[i]?=some x->∃E,a=some E/\E.spot=none/\U.sees (E.add (i*1)) (enc x))(I:∀x,∃k n,enc x=.int k n)(L:len<2^60)(g:FuncId)(first w:Array Value)(p:α->Bool)
  (K:Ot S U g first w enc l p):Qb S 142 #[.slice a len cap,.func (.func g) first w] (λ v U'=>v=.int .i64 (XO p l)/\U'=U) U:=by
 refine Qb.of (args:=[_,_]) UH Qd S1 ?_
 repeat refine⟨rfl,?_⟩
 refine⟨Nat,λ i=>[(0,.slice a len cap),(1,.func (.func g) first w),(6,.slice a len cap),(7,.int .i64 len),(8,.int .i64 i)],
  λ i U'=>U'=U/\i<=len/\∀x∈l.take i,p x=false,λ i=>len-i,0,T1,⟨rfl,O1,S1⟩,?_⟩
 rintro i f _⟨rfl,Q,e⟩
 repeat refine⟨rfl,?_⟩
 conv=>whnf
 apply Qe<;>intro F
 .have hlt:i<len:=by simpa using F
  have G:l[i]?=some (l[i]' O1):=S1
  generalize l[i]' O1=x at G;obtain⟨E,rfl,P,M⟩:=H i x G;obtain⟨k,n,N⟩:=I x;have z:=K.2 x (mem_of_getElem? G);rw[N]at z M;refine⟨E,i,⟨rfl,rfl,hlt⟩,_,M,K.1,z.mono ?_⟩;rintro v U'⟨rfl,rfl⟩-
  conv=>whnf
  apply Qe<;>intro F
  .repeat refine⟨rfl,?_⟩
   conv=>whnf
   exact⟨by rw[Vq G F e],rfl⟩
  .refine⟨I1,?_⟩;refine⟨rfl,i+1,T1,⟨rfl,O1,?_⟩,L1⟩;intro y B;rw[Wm G,mem_append]at B;grind
 .have hge:len<=i:=by simpa using F
  repeat refine⟨rfl,?_⟩
  refine⟨?_,rfl⟩;rw[take_of_length_le O1]at e;rw[Vp e]
def Rc(a:Option Addr)(len cap:Nat)(l:List Int)(B:Z8 U a len l)(E:len<2^60)(n:Int) :
  Qb S 77 #[.slice a len cap,.int .i64 n] (λ v U'=>v=.int .i64 (XO (λ y=>n==y) l)/\U'=U) U:=by
 refine Qb.of (args:=[_,_]) DH Qd S1 ?_;have H:=B.1
 repeat refine⟨rfl,?_⟩
 refine⟨Nat,λ i=>[(0,.slice a len cap),(1,.int .i64 n),(6,.slice a len cap),(7,.int .i64 len),(8,.int .i64 i)],
  λ i U'=>U'=U/\i<=len/\∀x∈l.take i,(n==x)=false,λ i=>len-i,0,T1,⟨rfl,O1,S1⟩,?_⟩
 rintro i f _⟨rfl,L,e⟩
 repeat refine⟨rfl,?_⟩
 conv=>whnf
 apply Qe<;>intro z
 .have hlt:i<len:=by simpa using z
  obtain⟨G,x,F,rfl,K,I⟩:=B.at hlt;refine⟨G,i,⟨rfl,rfl,hlt⟩,_,I,?_⟩
  repeat refine⟨rfl,?_⟩
  conv=>whnf
  apply Qe<;>intro z
  .repeat refine⟨rfl,?_⟩
   conv=>whnf
   exact⟨by rw[Vq (p:=λ y=>n==y) F z e],rfl⟩
  .refine⟨I1,?_⟩;refine⟨rfl,i+1,T1,⟨rfl,O1,?_⟩,L1⟩;intro y w;rw[Wm F,mem_append]at w;grind
 .have hge:len<=i:=by simpa using z
  repeat refine⟨rfl,?_⟩
  refine⟨?_,rfl⟩;rw[take_of_length_le O1]at e;rw[Vp e]
def TB(a:Option Addr)(len cap:Nat)(l:List Int)(f:Z8 U a len l)(e:len<2^60)(n:Int) :
  Qb S 39 #[.slice a len cap,.int .i64 n] (λ v U'=>v=.bool (l.contains n)/\U'=U) U:=by
 refine Qb.of (args:=[_,_]) Ys Qd S1 ?_;refine⟨DH.any,(Rc a len cap l f e n).mono ?_⟩;rintro v U'⟨rfl,rfl⟩-
 repeat refine⟨rfl,?_⟩
 refine⟨?_,rfl⟩;show Value.bool _=_;rw[V_];grind
end
def GL(c:UInt8):Bool:=(decide ((c.toNat:Int)<97)|| decide ((c.toNat:Int) > 122))&&(decide ((c.toNat:Int)<48)|| decide ((c.toNat:Int) > 57))
section
attribute [local irreducible] Qb Zr
def Rb(c:UInt8):Qb S 180 #[.int .u8 c.toNat] (λ v U'=>v=.bool (GL c)/\U'=U) U:=by
 refine Qb.of (args:=[_]) UO Qd S1 ?_;have e:GL c=((decide ((c.toNat:Int)<97)|| decide ((c.toNat:Int) > 122))&&(decide ((c.toNat:Int)<48)|| decide ((c.toNat:Int) > 57))):=rfl
 repeat refine⟨rfl,?_⟩
 conv=>whnf
 apply Jb<;>intro f
 .repeat refine⟨rfl,?_⟩
  conv=>whnf
  apply Jb<;>intro f
  .repeat refine⟨rfl,?_⟩
   conv=>whnf
   apply Jb<;>intro f
   .repeat refine⟨rfl,?_⟩
    conv=>whnf
    exact⟨by rw[e];first|(simp_all;done)|(simp_all;omega),rfl⟩
   grind
  .repeat refine⟨rfl,?_⟩
   conv=>whnf
   simp_all
 .repeat refine⟨rfl,?_⟩
  conv=>whnf
  apply Jb<;>intro f
  .repeat refine⟨rfl,?_⟩
   conv=>whnf
   simp_all
  .repeat refine⟨rfl,?_⟩
   conv=>whnf
   simp_all
end
def Zk(s:ByteArray):Bool:=Q_ s.size 1 10&&((match s.data.toList with|c::_=>!(decide ((c.toNat:Int)<97))&&!(decide ((c.toNat:Int) > 122))|[]=>false)&&!(s.data.toList.any GL))
variable{s:ByteArray}{ζ:UInt8}{γ:List UInt8}
section
attribute [local irreducible] Qb Zr
def Nu(a:Option Addr)(len cap:Nat)(l:List UInt8)(z:l.length=len)(w:∀(i:Nat)x,l[i]?=some x->∃f,a=some f/\f.spot=none/\U.sees (f.add (i*1)) (.int .u8 x.toNat))(e:len<2^60) :
  Qb S 179 #[.slice a len cap,.func (.func 180) #[] #[]] (λ v U'=>v=.bool (l.any GL)/\U'=U) U:=by
 refine Qb.of (args:=[_,_]) UN Qd S1 ?_;refine⟨UP.any,(RQ (λ c:UInt8=>.int .u8 c.toNat) a len cap l z w (λ x=>⟨_,_,rfl⟩) e 180 #[] #[] GL ⟨UO.any,λ x _=>Rb x⟩).mono ?_⟩;rintro v U'⟨rfl,rfl⟩-
 repeat refine⟨rfl,?_⟩
 refine⟨?_,rfl⟩;show Value.bool _=_;rw[V_]
def Mp:prog.underlying 9=some .string:=K1
def Fw:prog.underlying 228=some (.slice 5):=K1
def Lu:prog.underlying 5=some (.int .u8):=K1
def EM(h:s.data.toList=ζ::γ):s[0]?=some ζ:=by
 have f:s.data[0]?=some ζ:=by rw[<- Array.getElem?_toList,h];rfl
 obtain⟨e,w⟩:=Array.getElem?_eq_some_iff.1 f;rw[getElem?_pos s 0 (by simpa using e)];exact congrArg some w
def NO(s:ByteArray)(F:s.size<2^60):Qb S 178 #[.string s] (λ v U'=>v=.bool (Zk s)/\U'=U) U:=by
 refine Qb.pure' (Qb.of (args:=[_]) UM Qd S1 ?_);have w:s.size=s.data.toList.length:=by rw[Array.length_toList];rfl
 refine⟨Gn.any,(Wy _ _ _ _).mono ?_⟩;rintro v U'⟨rfl,rfl⟩-
 conv=>whnf
 apply Jb<;>intro e
 .have hb:Q_ (s.size:Int) 1 10=true:=by simpa using e
  cases f:s.data.toList with
  |nil=>grind[Q_]
  |cons c r=>
   have E:Zk s=(!(decide ((c.toNat:Int)<97))&&!(decide ((c.toNat:Int) > 122))&&!((c::r).any GL)):=by unfold Zk;rw[hb,f];rfl
   refine⟨0,c,⟨rfl,EM f⟩,?_⟩
   repeat refine⟨rfl,?_⟩
   conv=>whnf
   apply Jb<;>intro e
   .have h1:decide ((c.toNat:Int)<97)=false:=by simpa using e
    refine⟨0,c,⟨rfl,EM f⟩,?_⟩
    repeat refine⟨rfl,?_⟩
    conv=>whnf
    apply Qe<;>intro e
    .repeat refine⟨rfl,?_⟩
     conv=>whnf
     exact⟨by rw[E,e];simp,Qa.le.lg (.refl _)⟩
    .conv=>whnf
     refine Fp Mp Fw Lu rfl λ b cap cs fr z B=>?_;refine⟨UN.any,(Nu (some ⟨b,0,none⟩) s.size cap (c::r) (by rw[w,f]) (λ i x G=>⟨_,rfl,rfl,?_⟩) F).mono ?_⟩
     .rw[Qu];refine⟨rfl,.inl ⟨cs,5,fr,.inl (by simp[JI]),?_⟩⟩;have:=B i x (by rw[<- Array.getElem?_toList,f];exact G);simpa using this
     rintro v U''⟨rfl,rfl⟩-
     repeat refine⟨rfl,?_⟩
     refine⟨?_,(GA z).lg⟩;simp_all
   .have h1:decide ((c.toNat:Int)<97)=true:=by simpa using e
    repeat refine⟨rfl,?_⟩
    conv=>whnf
    exact⟨by rw[E,h1];rfl,Qa.le.lg (.refl _)⟩
 .have hb:Q_ (s.size:Int) 1 10=false:=by simpa using e
  repeat refine⟨rfl,?_⟩
  conv=>whnf
  exact⟨by grind[Zk],Qa.le.lg (.refl _)⟩
end
variable{v:Value}{l:List Int}{M₀:List Q2}
def YS(h:Acc 3 1 v (l.map λ n=>.int .i64 n) U.M M₀):∃a cap,v=.slice a l.length cap/\Z8 U a l.length l:=by
 obtain⟨a,len,cap,rfl,z,I⟩:=h.src;simp at z;subst z;refine⟨a,cap,rfl,rfl,λ i x B=>?_⟩;rcases h with⟨w,e,_⟩|⟨b,c,len,f,w,e,G,H,F,E⟩
 .simp_all
 .cases w;refine⟨_,rfl,rfl,?_⟩;rw[Qu];exact⟨rfl,.inl ⟨c,3,(0,0),.inr (by simp_all),by simp_all⟩⟩
section
attribute [local irreducible] Qb Zr W5
def Hc:Xf prog 44 3 1:=.of K1
def Pr:prog.underlying 44=some (.slice 3):=K1
def TV(a:Option Addr)(len cap:Nat)(l:List Int)(B:Z8 U a len l)(K:len<=1000000) :
  Qb S 112 #[.slice a len cap] (λ v U'=>Acc 3 1 v (l.map λ n=>.int .i64 n) U'.M U.M/\(∀x o,U.I x=some o->U'.I x=some o)/\U'.tok=U.tok) U:=by
 refine Qb.of (args:=[_]) P9 Qd S1 ?_;have E:=B.1
 conv=>whnf
 refine Vv Pr rfl ?_
 conv=>whnf
 apply Qe<;>intro H
 .have ha:a=none:=by simpa using H
  subst ha
  have:l=[]:=by
   cases l with
   |nil=>rfl
   |cons x r=>obtain⟨f,h,_⟩:=B.2 0 x rfl;cases h
  subst this
  repeat refine⟨rfl,?_⟩
  conv=>whnf
  exact⟨.nil,λ _ _ h=>h,rfl⟩
 .obtain⟨f,rfl⟩:∃f,a=some f:=by cases a with|none=>cases H|some f=>exact⟨f,rfl⟩
  conv=>whnf
  intro G P;refine⟨_,.refl _,?_⟩
  conv=>whnf
  refine Wv (v:=.slice (some ⟨G,0,none⟩) 0 0) (cs:=[]) (new:=l.map λ n=>.int .i64 n) (M₀:=U.M) Hc rfl rfl .empty (.inr ⟨_,rfl,λ i v z=>?_⟩) (by simp[E]) (by simp[Value.single]) S3 λ V M' w _=>?_
  .rw[getElem?_map]at z;cases F:l[i]? with
   |none=>rw[F]at z;cases z
   |some x=>
    rw[F]at z;cases z;obtain⟨N,e,_,L⟩:=B.2 i x F;cases e;rw[Nat.mul_one]at L;exact L.lg (Z6 G _)
  obtain⟨Q,T,tc,rfl,-,-⟩:=Acc.src (U:={ U with M:=M' }) w
  repeat refine⟨rfl,?_⟩
  conv=>whnf
  exact⟨by simpa using w,λ _ _ h=>h,rfl⟩
end
variable{b:Nat}{c:Array Value}{t:TypeId}{Q:Qa T->Prop}{vs:List Value}{o:List α}{W:α}
def Zm(f:U.free b)(h:∀e,U.le e->Zo e b c->Q e):∃e,Q1 (U.put b (.cells c t)) e/\Q e:=
 ⟨_,Wf (b:=b) (M':=U.M) (Perm.refl _),h _ (GA f) Zo.new⟩
def HR(e:c.size=vs.length)(w:∀v∈vs,v.single=true)(h:Q (U.put b (.cells vs.toArray t))) :
  ZG ⟨b,0,none⟩ vs 0 (λ U'=>∃f,Q1 U' f/\Q f) (U.put b (.cells c t)):=by
 refine Gu vs 0 c _ rfl w O1 ?_;rw[Vs e];exact⟨_,.refl _,h⟩
def MW(f:U.free b)(z:i<c.size)(w:v.single=true)(h:∀e,U.le e->Zo e b (c.setIfInBounds i v)->Q e) :
  ZG ((Addr.mk b 0 none).add i) [v] 0 (λ U'=>∃e,Q1 U' e/\Q e) (U.put b (.cells c t)):=by
 rw[Qu];refine Gu [v] 0 c _ rfl (by simpa using w) S3 ?_;simp only[JZ,Nat.zero_add,Nat.add_zero];exact Zm f h
def Ve(f:o[i]?=some V)(w:l'[i]?=some W)(h:o.take i=l'.take i)(e:V=W):o.take (i+1)=l'.take (i+1):=by
 rw[Wm f,Wm w,h,e]
def VU(f:o[i]?=some V)(w:l'[i]?=some W)(e:V≠W):o≠l':=by
 grind
section
attribute [local irreducible] Qb Zr W5
def P0(a a':Option Addr)(len cap w E:Nat)(l l':List Int)(N:Z8 U a len l)(H:Z8 U a' w l')(P:len<2^60) :
  Qb S 25 #[.slice a len cap,.slice a' w E] (λ v U'=>v=.bool (decide (l=l'))/\U'=U) U:=by
 refine Qb.pure' (Qb.of (args:=[_,_]) Gl Qd S1 ?_);have W:=N.1;have X:=H.1
 repeat refine⟨rfl,?_⟩
 conv=>whnf
 apply Qe<;>intro F
 .have hne:len≠w:=by intro e;subst e;simp at F
  repeat refine⟨rfl,?_⟩
  refine⟨?_,(Qa.le.refl _).lg⟩;rw[decide_eq_false (λ e=>hne (by rw[<- W,<- X,e]))]
 have K:len=w:=Int.ofNat.inj (by simpa using F:(len:Int)=w);subst K;refine⟨Nat,λ i=>[(0,.slice a len cap),(1,.slice a' len E),(5,.int .i64 i)],λ i U'=>U.le U'/\i<=len/\l.take i=l'.take i,λ i=>len-i,0,T1,⟨.refl _,O1,rfl⟩,?_⟩;rintro i f Z⟨z,hi,G⟩
 repeat refine⟨rfl,?_⟩
 conv=>whnf
 apply Qe<;>intro F
 .have hlt:i<len:=by simpa using F
  obtain⟨V,x,Q,rfl,-,Y⟩:=(N.lg z.lg).at hlt;obtain⟨I,y,T,rfl,-,M⟩:=(H.lg z.lg).at hlt;have L:Je (i+1):=I1
  refine⟨V,i,⟨rfl,rfl,hlt⟩,_,Y,I,i,⟨rfl,rfl,hlt⟩,_,M,?_⟩
  conv=>whnf
  intro U2 B _
  repeat refine⟨rfl,?_⟩
  conv=>whnf
  apply Qe<;>intro F
  .have hne:x≠y:=by simpa using F
   repeat refine⟨rfl,?_⟩
   conv=>whnf
   exact⟨by rw[decide_eq_false (VU Q T hne)],(z.trans B).lg⟩
  .have hxy:x=y:=by simpa using F
   refine⟨L,?_⟩
   conv=>whnf
   exact⟨rfl,i+1,T1,⟨z.trans B,O1,Ve Q T G hxy⟩,L1⟩
 .have hge:len<=i:=by simpa using F
  rw[take_of_length_le O1,take_of_length_le O1]at G
  repeat refine⟨rfl,?_⟩
  conv=>whnf
  exact⟨by simp_all,z.lg⟩
end
variable{j:Nat}{y:Int}
def Hn(l:List Int)(i j:Nat):Prop:=(∀p q x y,p<q->q<=i->p≠j->q≠j->l[p]?=some x->l[q]?=some y->x<=y)/\(∀q x y,j<q->q<=i->l[j]?=some x->l[q]?=some y->x<=y)
def Xq(l:List Int)(i:Nat):Prop:=∀p q x y,p<q->q<i->l[p]?=some x->l[q]?=some y->x<=y
def Hn.start(h:Xq l i):Hn l i i:=
 ⟨λ p q x y e f _ B w z=>h p q x y e O1 w z,λ q x y e f=>O1⟩
def Hn.done(h:Hn l i j)(I:j<=i)(G:j=0\/∃x y,l[j]?=some x/\l[j-1]?=some y/\y<=x):Xq l (i+1):=by
 intro p q x y f K w B;by_cases e:q=j
 .subst e;rcases G with G|⟨L,H,F,z,E⟩
  .omega
  .rw[F]at B;cases B;by_cases e':p=q-1
   .simp_all
   .have:=h.1 p (q-1) x H O1 O1 O1 O1 w z;omega
 .by_cases e':p=j
  .subst e';exact h.2 q x y f O1 w B
  .exact h.1 p q x y f O1 e' e w B
def Hn.step{x:Int}(h:Hn l i j)(N:j<=i)(M:0<j)(I:l[j]?=some x)(K:l[j-1]?=some y)(L:x<y):Hn ((l.set j y).set (j-1) x) i (j-1):=by
 have z:j<l.length:=(List.getElem?_eq_some_iff.1 I).1
 have get:∀k,((l.set j y).set (j-1) x)[k]?=if k=j-1 then some x else if k=j then some y else l[k]?:=by
  intro k;rw[getElem?_set,getElem?_set];by_cases e:j-1=k
  .subst e;rw[if_pos rfl,if_pos S3,if_pos rfl]
  .have e2:¬k=j-1:=λ h=>e h.symm;rw[if_neg e,if_neg e2];by_cases e':j=k
   .subst e';rw[if_pos rfl,if_pos z,if_pos rfl]
   .have e3:¬k=j:=λ h=>e' h.symm;rw[if_neg e',if_neg e3]
 refine⟨λ p q u v E F B G w f=>?_,λ q u v F H w f=>?_⟩
 .rw[get,if_neg B]at w;rw[get,if_neg G]at f;by_cases e:p=j
  .subst e;rw[if_pos rfl]at w;cases w;rw[if_neg O1]at f;exact h.1 (p-1) q y v O1 F O1 O1 K f
  .rw[if_neg e]at w;by_cases e':q=j
   .subst e';rw[if_pos rfl]at f;cases f;exact h.1 p (q-1) u y O1 O1 O1 O1 w K
   .rw[if_neg e']at f;exact h.1 p q u v E F e e' w f
 .rw[get,if_pos rfl]at w;cases w;rw[get,if_neg O1]at f;by_cases e:q=j
  .grind
  .rw[if_neg e]at f;exact h.2 q x v O1 H I f
variable{n:Nat}{X:UInt8->Prop}
section
attribute [local irreducible] Qb Zr W5
def AX(n:Int):Qb S 155 #[.int .i64 n] (λ v U'=>v=.bool false/\U'=U) U:=by
 refine Qb.pure' (Qb.of (args:=[_]) UI Qd S1 ?_)
 repeat refine⟨rfl,?_⟩
 conv=>whnf
 exact⟨S1,(Qa.le.refl _).lg⟩
def RU(a b:Int):Qb S 136 #[.int .i64 a,.int .i64 b] (λ v U'=>v=.bool (decide (a<b))/\U'=U) U:=by
 refine Qb.pure' (Qb.of (args:=[_,_]) UE Qd S1 ?_);refine⟨UI.any,(AX a).mono ?_⟩;rintro _ U'⟨rfl,rfl⟩-
 repeat refine⟨rfl,?_⟩
 conv=>whnf
 exact(Qa.le.refl _).lg
def No(h:n<s.size)(e:∀c,X c):∃(j:Nat)(b:UInt8),((n:Int)=j/\s[j]?=some b)/\X b:=
 ⟨n,_,⟨rfl,getElem?_pos s n h⟩,e _⟩
def RE(n:Nat)(z:n<256):Qb S 140 #[.int .u64 n] (λ v U'=>(∃m,v=.int .i64 m)/\U'=U) U:=by
 refine Qb.pure' (Qb.of (args:=[_]) UF Qd S1 ?_)
 repeat refine⟨rfl,?_⟩
 conv=>whnf
 apply Qe<;>intro e
 .simp at e;omega
 repeat refine⟨rfl,?_⟩
 conv=>whnf
 apply Qe<;>intro e
 .simp at e;omega
 repeat refine⟨rfl,?_⟩
 conv=>whnf
 apply Qe<;>intro e
 .simp at e;omega
 conv=>whnf
 have B:IntKind.wrap .u8 (n:Int)=n:=by
  have w:(2:Int)^8=256:=D1
  simp only[IntKind.wrap,IntKind.bits,IntKind.signed,Bool.false_and,w];simp;omega
 rw[B];refine No (by exact z) λ c=>?_;have e:=c.toNat_lt;have f:IntKind.wrap .i64 (c.toNat:Int)=c.toNat:=Gk I1
 conv=>whnf
 rw[f];refine⟨I1,?_⟩
 conv=>whnf
 exact⟨⟨_,rfl⟩,(Qa.le.refl _).lg⟩
end
variable{w:Nat}{e:TypeId}{L:Int}
def K5(f:U.M=.obj b (.cells c e (0,0))::M₀)(h:c[w]?=some v):U.sees ((Addr.mk b 0 none).add (w*1)) v:=by
 rw[Nat.mul_one,Qu];exact⟨rfl,.inl ⟨c,e,(0,0),.inr (by simp_all),by simpa using h⟩⟩
def Xq.le(h:Xq l i)(f:j<=i):Xq l j:=λ p q x y e w=>h p q x y e O1
def HS(c:Array Value)(l:List Int):Prop:=∀(k:Nat)(x:Int),l[k]?=some x->c[k]?=some (.int .i64 x)
def HS.set{c:Array Value}{l:List Int}(h:HS c l)(w:l.length<=c.size)(i:Nat)(x:Int):HS (c.setIfInBounds i (.int .i64 x)) (l.set i x):=by
 intro k y f;rw[getElem?_set]at f;by_cases e:i=k
 .grind
 .rw[if_neg e]at f;rw[Array.getElem?_setIfInBounds_ne e];exact h k y f
def If(B:0<j)(w:l[j]?=some L)(z:l[j-1]?=some y):((l.set j y).set (j-1) L).Perm l:=by
 grind
section
attribute [local irreducible] Qb Zr W5
def Rd(b cap:Nat)(l:List Int)(H:Array Value)(M₀:List Q2)(ab:U.M=.obj b (.cells H 3 (0,0))::M₀)(ai:l.length<=cap)(af:H.size=cap)(ad:HS H l)(hn:l.length<2^40) :
  Qb S 130 #[.slice (some ⟨b,0,none⟩) l.length cap,.int .i64 0,.int .i64 l.length] (λ _ U'=>(∀x o,U.I x=some o->U'.I x=some o)/\U'.tok=U.tok/\∃l' c',l'.Perm l/\Xq l' l.length/\U'.M=.obj b (.cells c' 3 (0,0))::M₀/\c'.size=cap/\HS c' l') U:=by
 refine Qb.of (args:=[_,_,_]) Vy Qd S1 ?_
 repeat refine⟨rfl,?_⟩
 refine⟨I1,?_⟩
 refine⟨Nat×List Int×Array Value,λ y=>[(0,.slice (some ⟨b,0,none⟩) l.length cap),(1,.int .i64 0),(2,.int .i64 l.length),(6,.int .i64 y.1)],
  λ y U'=>(∀x o,U.I x=some o->U'.I x=some o)/\U'.tok=U.tok/\U'.M=.obj b (.cells y.2.2 3 (0,0))::M₀/\y.2.2.size=cap/\HS y.2.2 y.2.1/\y.2.1.Perm l/\Xq y.2.1 y.1/\1<=y.1/\y.1<2^41,
  λ y=>l.length-y.1,(1,l,H),T1,⟨λ _ _ h=>h,rfl,ab,af,ad,.refl _,λ p q _ _ h1 h2=>O1,by simp only;omega,by simp only;omega⟩,?_⟩
 rintro⟨i,e,c⟩f U1⟨W,X,K,F,w,E,V,G,ah⟩;simp only at K F w E V G ah
 repeat refine⟨rfl,?_⟩
 conv=>whnf
 apply Qe<;>intro P
 .have hlt:i<l.length:=by simpa using P
  have ae:Je (i+1):=I1
  refine⟨Nat×List Int×Array Value,λ y=>[(0,.slice (some ⟨b,0,none⟩) l.length cap),(1,.int .i64 0),(2,.int .i64 l.length),(6,.int .i64 i),(7,.int .i64 y.1)],
   λ y U'=>(∀x o,U.I x=some o->U'.I x=some o)/\U'.tok=U.tok/\U'.M=.obj b (.cells y.2.2 3 (0,0))::M₀/\y.2.2.size=cap/\HS y.2.2 y.2.1/\y.2.1.Perm l/\Hn y.2.1 i y.1/\y.1<=i,
   λ y=>y.1,(i,e,c),T1,⟨W,X,K,F,w,E,.start V,by simp only;omega⟩,?_⟩
  rintro⟨j,e,c⟩f U2⟨W,X,K,F,w,E,N,hj⟩;simp only at K F w E N hj;have aj:=E.length_eq
  repeat refine⟨rfl,?_⟩
  conv=>whnf
  apply Jb<;>intro P
  .have h0:0<j:=by simp at P;omega
   have Y:e[j]?=some (e[j]' O1):=S1
   generalize e[j]' O1=x at Y;have Z:e[j-1]?=some (e[j-1]' O1):=S1
   generalize e[j-1]' O1=y at Z;have G:Je ((j:Int)-1):=I1
   have L:(j:Int)-1=((j-1:Nat):Int):=O1
   repeat refine⟨rfl,?_⟩
   refine⟨_,j,⟨rfl,rfl,O1⟩,_,K5 K (w j x Y),?_⟩
   repeat refine⟨rfl,?_⟩
   refine⟨G,_,j-1,⟨rfl,L,O1⟩,_,K5 K (w (j-1) y Z),?_⟩
   conv=>whnf
   intro U3 B _;have z:=B.own.trans K;refine⟨UE.any,(RU x y).go λ _=>?_⟩
   repeat refine⟨rfl,?_⟩
   conv=>whnf
   apply Qe<;>intro P
   .have hxy:x<y:=of_decide_eq_true P;refine⟨λ U'=>(∀x o,U.I x=some o->U'.I x=some o)/\U'.tok=U.tok/\U'.M=.obj b (.cells (c.setIfInBounds j (.int .i64 y)) 3 (0,0))::M₀,λ U U'⟨a,b,c⟩T=>⟨λ x o h=>T.imm x o (a x o h),T.tok.trans b,T.own.trans c⟩,G,G,_,j-1,⟨rfl,L,O1⟩,_,K5 z (w (j-1) y Z),_,j,⟨rfl,rfl,O1⟩,_,K5 z (w j x Y),_,j,⟨rfl,rfl,O1⟩,?_⟩
    conv=>whnf
    intro U4 Q _;refine⟨⟨rfl,?_⟩,λ U5 hG=>?_⟩
    .show ZG ((Addr.mk b 0 none).add (j*1)) [.int .i64 y] 0 _ _;rw[Nat.mul_one];exact PO [] (Q.own.trans z) O1 rfl ⟨rfl,_,.refl _,λ x o h=>Q.imm x o (B.imm x o (W x o h)),Q.tok.trans (B.tok.trans X),rfl⟩
    obtain⟨aa,ag,ac⟩:=hG;refine⟨_,j-1,⟨rfl,L,O1⟩,rfl,?_⟩;show ZG ((Addr.mk b 0 none).add ((j-1)*1)) [.int .i64 x] 0 _ _;rw[Nat.mul_one];refine PO [] ac S3 rfl ?_;refine⟨G,?_⟩
    conv=>whnf
    exact⟨rfl,(j-1,(e.set j y).set (j-1) x,(c.setIfInBounds j (.int .i64 y)).setIfInBounds (j-1) (.int .i64 x)),⟨rfl,rfl,rfl,rfl,by rw[<- L];rfl,trivial⟩,⟨aa,ag,rfl,by simpa using F,(w.set O1 j y).set S3 (j-1) x,(If h0 Y Z).trans E,N.step hj h0 Y Z hxy,by simp only;omega⟩,by show j-1<j;omega⟩
   .have hxy:¬x<y:=of_decide_eq_false P;refine⟨ae,?_⟩
    conv=>whnf
    exact⟨rfl,(i+1,e,c),T1,⟨λ x o h=>B.imm x o (W x o h),B.tok.trans X,z,F,w,E,N.done hj (.inr ⟨x,y,Y,Z,O1⟩),by simp only;omega,by simp only;omega⟩,L1⟩
  .have h0:j=0:=by simp at P;omega
   conv=>whnf
   intro U3 B _;have z:=B.own.trans K
   repeat refine⟨rfl,?_⟩
   refine⟨ae,?_⟩
   conv=>whnf
   exact⟨rfl,(i+1,e,c),T1,⟨λ x o h=>B.imm x o (W x o h),B.tok.trans X,z,F,w,E,N.done hj (.inl h0),by simp only;omega,by simp only;omega⟩,L1⟩
 .have hge:l.length<=i:=by simpa using P
  repeat refine⟨rfl,?_⟩
  conv=>whnf
  exact⟨W,X,e,c,E,V.le hge,K,F,w⟩
def NP:Qb S 130 #[.nl,.int .i64 0,.int .i64 (0:Nat)] (λ _ U'=>U'=U) U:=by
 refine(Qb.pure' (Q:=λ _=>True) (Qb.of (args:=[_,_,_]) Vy Qd S1 ?_)).mono λ _ _ h=>h.2
 repeat refine⟨rfl,?_⟩
 refine⟨I1,?_⟩;refine⟨Unit,λ _=>[(2,.int .i64 (0:Nat)),(6,.int .i64 1)],λ _ U'=>U'=U,λ _=>0,(),T1,rfl,?_⟩;rintro _ f _ rfl
 repeat refine⟨rfl,?_⟩
 conv=>whnf
 exact⟨trivial,(Qa.le.refl _).lg⟩
def NI(n:Nat)(e:n<256):Qb S 114 #[.int .u64 n] (λ v U'=>(∃m,v=.int .i64 m)/\U'=U) U:=by
 refine Qb.pure' (Qb.of (args:=[_]) Ul Qd S1 ?_);refine⟨UF.any,(RE n e).mono ?_⟩;rintro _ U'⟨⟨m,rfl⟩,rfl⟩-
 repeat refine⟨rfl,?_⟩
 conv=>whnf
 exact⟨⟨_,rfl⟩,(Qa.le.refl _).lg⟩
def AZ(v:Value)(l:List Int)(M₀:List Q2)(m:Int)(L:Acc 3 1 v (l.map λ n=>.int .i64 n) U.M M₀)(N:l.length<=12) :
  Qb S 113 #[v,.int .i64 0,.int .i64 l.length,.int .i64 m] (λ _ U'=>(∀x o,U.I x=some o->U'.I x=some o)/\U'.tok=U.tok/\∃l',l'.Perm l/\Xq l' l.length/\Acc 3 1 v (l'.map λ n=>.int .i64 n) U'.M M₀) U:=by
 obtain⟨sa,sc,rfl,-⟩:=YS L;refine Qb.of (args:=[_,_,_,_]) Uk Qd S1 ?_
 repeat refine⟨rfl,?_⟩
 refine⟨Unit,λ _=>[(0,.slice sa l.length sc),(1,.int .i64 0),(2,.int .i64 l.length),(3,.int .i64 m)],λ _ U'=>U'=U,λ _=>0,(),T1,rfl,?_⟩;rintro _ f U' e;obtain rfl:=e.symm
 repeat refine⟨rfl,?_⟩
 refine⟨I1,?_⟩
 repeat refine⟨rfl,?_⟩
 conv=>whnf
 apply Qe<;>intro W
 .conv=>whnf
  rcases L with⟨B,z,E⟩|⟨b,c,len,cap,B,z,K,h4,E,T⟩
  .rw[map_eq_nil_iff]at z;subst z;cases B;refine⟨Vy.any,NP.mono ?_⟩;rintro _ U' e -;obtain rfl:=e.symm
   repeat refine⟨rfl,?_⟩
   conv=>whnf
   exact⟨λ _ _ h=>h,rfl,[],.refl _,λ p q _ _ B z=>by simp at z,.inl ⟨rfl,rfl,E⟩⟩
  .cases B;refine⟨Vy.any,(Rd b sc l c M₀ E K O1 (λ k x w=>T k _ (by simp[w])) O1).mono ?_⟩;rintro v U'⟨V,Z,l',Q,P,X,F,Y,G⟩-
   repeat refine⟨rfl,?_⟩
   refine⟨V,Z,l',P,X,.inr ⟨b,Q,l.length,sc,rfl,by simp[P.length_eq],K,O1,F,λ k x w=>?_⟩⟩;rw[getElem?_map]at w;cases H:l'[k]? with
   |none=>rw[H]at w;cases w
   |some y=>rw[H]at w;cases w;exact G k y H
 .simp at W;omega
def RH(v:Value)(l:List Int)(M₀:List Q2)(w:Acc 3 1 v (l.map λ n=>.int .i64 n) U.M M₀)(e:l.length<=12) :
  Qb S 78 #[v] (λ _ U'=>(∀x o,U.I x=some o->U'.I x=some o)/\U'.tok=U.tok/\∃l',l'.Perm l/\Xq l' l.length/\Acc 3 1 v (l'.map λ n=>.int .i64 n) U'.M M₀) U:=by
 obtain⟨sa,sc,rfl,-⟩:=YS w;refine Qb.of (args:=[_]) DI Qd S1 ?_
 have E:IntKind.wrap .u64 (l.length:Int)=l.length:=by
  have z:(2:Int)^64=18446744073709551616:=D1
  simp only[IntKind.wrap,IntKind.bits,IntKind.signed,Bool.false_and,z];simp;omega
 conv=>whnf
 rw[E];refine⟨Ul.any,(NI l.length O1).mono ?_⟩;rintro _ U'⟨⟨m,rfl⟩,f⟩-;obtain rfl:=f.symm;refine⟨Uk.any,(AZ _ l M₀ m w e).mono ?_⟩;rintro v U' B -;cases v <;> (conv=>whnf) <;> exact B
end
variable{H:List ByteArray}
def Ti(a b:ByteArray):(a==b)=decide (a=b):=by
 rw[Bool.eq_iff_iff]
 cases a with|mk x=>cases b with|mk y=>
 show(ByteArray.beq ⟨x⟩ ⟨y⟩)=true↔_;simp[ByteArray.beq]
def Ig(e:l[i]?=some y):(if i+1=0 then none else l[i+1-1]?)=some y:=by simpa using e
def ZW:Nat->List ByteArray->List (ByteArray×Value)
 |_,[]=>[]
 |j,s::l=>(s,.int .i64 j)::ZW (j+1) l
def O6(s:ByteArray):∀(l:List ByteArray)(j i:Nat),if JK l s then ∃n:Int,(QM s (ZW j l) i).map (·.2)=some (.int .i64 n)else(QM s (ZW j l) i).map (·.2)=none
 |[],_,_=>rfl
 |a::l,j,i=>by
  simp only[ZW,QM,JK,any_cons];by_cases e:s=a
  .simp[e]
  .rw[if_neg e];have h:=O6 s l (j+1) (i+1);simp only[JK]at h;grind
def Bx(h:JK H s=true):∃n:Int,lk s (ZW 0 H)=some (.int .i64 n):=by
 have:=O6 s H 0 0
 rwa [if_pos h]at this
def Bw(h:JK H s=false):lk s (ZW 0 H)=none:=by
 have:=O6 s H 0 0
 rwa [h]at this
def Tf(s:ByteArray):∀(l:List ByteArray)(j:Nat),JK l s=false->ups s (.int .i64 ((j+l.length:Nat):Int)) (ZW j l)=ZW j (l++[s])
 |[],j,_=>rfl
 |a::l,j,h=>by
  simp only[JK,any_cons,Bool.or_eq_false_iff,decide_eq_false_iff_not]at h;simp only[ZW,cons_append,ups];rw[if_neg (λ e=>h.1 e.symm),<- Tf s l (j+1) h.2];grind
section
attribute [local irreducible] Qb Zr W5
def S5(a:Option Addr)(len cap:Nat)(l:List Int)(G:Z8 U a len l)(L:len<2^60)(n:Nat)(hn:n<2^60) :
  Qb S 177 #[.slice a len cap,.int .i64 n] (λ v U'=>v=.int .i64 (ZB n none l)/\U'=U) U:=by
 refine Qb.of (args:=[_,_]) Yb Qd S1 ?_;have W:=G.1
 repeat refine⟨rfl,?_⟩
 refine⟨Nat,λ i=>[(0,.slice a len cap),(1,.int .i64 n),(7,.slice a len cap),(8,.int .i64 len),(9,.int .i64 i)],
  λ i U'=>U'=U/\i<=len/\ZB n none l=ZB n (if i=0 then none else l[i-1]?) (l.drop i),λ i=>len-i,0,T1,⟨rfl,O1,rfl⟩,?_⟩
 rintro i f _⟨rfl,Z,e⟩;have z:Je ((i:Int)+1):=I1
 have B:Je ((n:Int)-1):=I1
 repeat refine⟨rfl,?_⟩
 conv=>whnf
 apply Qe<;>intro w
 .have hlt:i<len:=by simpa using w
  obtain⟨I,x,N,rfl,Y,X⟩:=G.at hlt;rw[Hk N,Pm]at e;refine⟨I,i,⟨rfl,rfl,hlt⟩,_,X,B,Gn.any,(Wy _ _ _ _).mono ?_⟩;rintro v U'⟨rfl,rfl⟩-;cases K:Q_ x 0 ((n:Int)-1)with
  |false=>
   rw[K]at e
   repeat refine⟨rfl,?_⟩
   conv=>whnf
   simp_all
  |true=>
   rw[if_pos K]at e;have next:ZB n none l=ZB n (some x) (l.drop (i+1))->ZB n none l=ZB n (if i+1=0 then none else l[i+1-1]?) (l.drop (i+1)):=λ h=>by rw[Ig N];exact h
   repeat refine⟨rfl,?_⟩
   conv=>whnf
   apply Jb<;>intro w
   .have h0:0<i:=by simpa using w
    obtain⟨y,P⟩:∃y,l[i-1]?=some y:=⟨_,getElem?_eq_getElem O1⟩;rw[if_neg O1,P]at e;have E:Je ((i:Int)-1):=I1
    have T:((i:Int)-1)=((i-1:Nat):Int):=O1
    obtain⟨Q,y',F,V,M,H⟩:=G.at (show i-1<len by omega);cases V;rw[P]at F;cases F;simp only at e;refine⟨E,I,i-1,⟨rfl,T,O1⟩,_,H,?_⟩
    repeat refine⟨rfl,?_⟩
    conv=>whnf
    apply Qe<;>intro w
    .have h1:x<=y:=by simpa using w
     repeat refine⟨rfl,?_⟩
     conv=>whnf
     simp_all
    .have h1:¬x<=y:=by simpa using w
     rw[if_neg h1]at e;refine⟨z,?_⟩
     conv=>whnf
     exact⟨rfl,i+1,T1,⟨rfl,O1,next e⟩,L1⟩
   .have h0:i=0:=by simp at w;omega
    rw[if_pos h0]at e;simp only at e
    repeat refine⟨rfl,?_⟩
    refine⟨z,?_⟩
    conv=>whnf
    exact⟨rfl,i+1,T1,⟨rfl,O1,next e⟩,L1⟩
 .have hge:len<=i:=by simpa using w
  rw[drop_eq_nil_of_le O1]at e
  repeat refine⟨rfl,?_⟩
  conv=>whnf
  exact⟨by rw[e];rfl,rfl⟩
def DQ:WM T prog 9 Value.string:=by
 refine .simple (d:=.string) K1 rfl (λ k k'=>?_) (λ k=>?_)
 .show some (k==k')=_;rw[Ti]
 .simp[Instr.sameBits,Ti]
def UZ:prog.underlying 224=some (.map 9 3):=K1
def HO:Xo prog 3=some (.int .i64 0):=K1
def Sl(mb:Nat)(seen:List ByteArray)(s:ByteArray)(B:s.size<2^60)(M₀:List Q2)(e:U.M=.obj mb (Q0 Value.string (ZW 0 seen))::M₀) :
  Qb S 175 #[.map (some mb),.string s,.int .i64 seen.length] (λ v U'=>v=.int .i64 (if Zk s then(if JK seen s then 5 else 0)else 4)/\U'={ U with M:=.obj mb (Q0 Value.string (ZW 0 (if Zk s&&!JK seen s then seen++[s]else seen)))::M₀ }) U:=by
 refine Qb.of (args:=[_,_,_]) Ya Qd S1 ?_;refine⟨UM.any,(NO s B).mono ?_⟩;rintro v U'⟨rfl,f⟩-;obtain rfl:=f.symm;cases F:Zk s with
 |false=>
  repeat refine⟨rfl,?_⟩
  conv=>whnf
  show _={ U with M:=.obj mb (Q0 Value.string (ZW 0 seen))::M₀ };rw[<- e]
 |true=>
  conv=>whnf
  refine KL (k:=s) (l:=ZW 0 seen) DQ UZ HO rfl rfl (.inr (by simp_all)) ?_;cases z:JK seen s with
  |true=>
   obtain⟨w,E⟩:=Bx z;rw[E]
   repeat refine⟨rfl,?_⟩
   conv=>whnf
   show _={ U with M:=.obj mb (Q0 Value.string (ZW 0 seen))::M₀ };rw[<- e]
  |false=>
   rw[Bw z]
   conv=>whnf
   refine KB (v:=.int .i64 seen.length) (k:=s) (l:=ZW 0 seen) (M':=.obj mb (Q0 Value.string (ZW 0 (seen++[s])))::M₀) DQ UZ rfl rfl rfl (by rw[e,<- Tf s seen 0 z,Nat.zero_add];exact .here) ?_
   repeat refine⟨rfl,?_⟩
   conv=>whnf
   rfl
def NU(h:BH)(b:Bk)(Q:Zu U h b):Qb S 173 #[h.v] (λ v U'=>v=.int .i64 (b.rsF Zk)/\U'=U) U:=by
 refine Qb.pure' (Qb.of (args:=[_]) UJ Qd S1 ?_);have L:=Q.rs.1;have aa:=Q.rl
 repeat refine⟨rfl,?_⟩
 conv=>whnf
 intro B U1 F P;have P:=Zz4 h P;refine⟨_,P.sees3 (o:=0) rfl,?_⟩
 repeat refine⟨rfl,?_⟩
 conv=>whnf
 apply Qe<;>intro K
 .have w:b.rs.length > 6:=by rw[L];simp at K;omega
  repeat refine⟨rfl,?_⟩
  conv=>whnf
  exact⟨by unfold Bk.rsF;rw[if_pos w],F.lg⟩
 have w:¬b.rs.length > 6:=by rw[L];simp at K;omega
 have G:b.rsF Zk=G8 Zk [] b.rs:=by unfold Bk.rsF;rw[if_neg w]
 rw[G]
 conv=>whnf
 refine P6 Value.string λ mb ab=>?_;refine⟨_,Qa.sees.lg (P.sees3 (o:=0) rfl) (Z6 mb _),Nat×List ByteArray,λ y=>[(1,.pb B),(3,.map (some mb)),(15,.slice h.ra h.rl h.rc),(16,.int .i64 h.rl),(17,.int .i64 y.1)],
  λ y U'=>U.lg U'/\U'.M=.obj mb (Q0 Value.string (ZW 0 y.2))::U.M/\y.1<=h.rl/\y.2.length=y.1/\G8 Zk [] b.rs=G8 Zk y.2 (b.rs.drop y.1),
  λ y=>h.rl-y.1,(0,[]),T1,⟨F.lg.trans (Z6 _ _),?_,S1,rfl,S1⟩,?_⟩
 .show _::_=_;rw[F.own];rfl
 rintro⟨i,s⟩f U2⟨E,hM,hi,N,e⟩;simp only at hM hi N e;have W:Je ((i:Int)+1):=I1
 repeat refine⟨rfl,?_⟩
 conv=>whnf
 apply Qe<;>intro K
 .have hlt:i<h.rl:=by simpa using K
  obtain⟨ad,x,vs,hx,T,ac,rfl,-,Y⟩:=(Q.rs.lg E λ _ _ h=>h).at hlt;rw[Hk hx,G8]at e;have Z:=Q.rn x (mem_of_getElem? hx);refine⟨ad,i,⟨T,rfl,hlt⟩,_,Y 0 _ rfl,?_⟩;subst N;refine⟨Ya.any,(Sl mb s x Z U.M hM).mono ?_⟩;rintro _ U'⟨rfl,I⟩-;have z:U.lg U':=I▸⟨E.imm,⟨[_],rfl⟩,E.tok⟩;have H:U'.M=.obj mb (Q0 Value.string (ZW 0 (if Zk x&&!JK s x then s++[x]else s)))::U.M:=by rw[I]
  cases X:Zk x with
  |false=>
   rw[X]at e
   repeat refine⟨rfl,?_⟩
   conv=>whnf
   exact⟨by rw[e];rfl,z⟩
  |true=>
   rw[if_pos X]at e;cases V:JK s x with
   |true=>
    rw[if_pos V]at e
    repeat refine⟨rfl,?_⟩
    conv=>whnf
    exact⟨by rw[e];rfl,z⟩
   |false=>
    rw[V]at e;rw[X,V]at H
    repeat refine⟨rfl,?_⟩
    refine⟨W,rfl,(s.length+1,s++[x]),T1,⟨z,H,by show s.length+1<=h.rl;omega,S1,e⟩,L1⟩
 .have hge:h.rl<=i:=by simpa using K
  rw[drop_eq_nil_of_le O1]at e
  repeat refine⟨rfl,?_⟩
  conv=>whnf
  exact⟨by rw[e];rfl,E⟩
end
variable{a m:Nat}{mu:List Nat}{D:Bk}{ε:Cs}{A:List (List Nat)}
def JD(h:n<2^63):IntKind.wrap .i64 (n:Int)=n:=by
 have f:(2:Int)^64=18446744073709551616:=D1
 have w:(2:Int)^63=9223372036854775808:=D1
 have e:(2:Nat)^63=9223372036854775808:=D1
 grind[IntKind.wrap,IntKind.bits,IntKind.signed]
def Gv(n:Nat):BitVec.ofInt 64 (n:Int)=BitVec.ofNat 64 n:=BitVec.ofInt_natCast _ _
def EG(h:n<60):IntKind.wrap .i64 ((1:Int)*2^(min ((n:Int).toNat) 64))=((1<<<n:Nat):Int):=by
 have e:min ((n:Int).toNat) 64=n:=by rw[Int.toNat_natCast];omega
 have f:(1<<<n:Nat)<2^63:=by rw[Nat.one_shiftLeft];exact Nat.pow_lt_pow_right O1 O1
 have w:(1:Int)*(2:Int)^n=((1<<<n:Nat):Int):=by rw[Nat.one_shiftLeft];simp
 rw[e,w,JD f]
def EN(w:a<2^60)(z:b<2^60):IntKind.wrap .i64 ((BitVec.ofInt 64 (a:Int)||| BitVec.ofInt 64 (b:Int)).toNat:Int)=((a||| b:Nat):Int):=by
 have h:(a||| b)<2^60:=Nat.or_lt_two_pow w z;have e:(2:Nat)^60<2^63:=Nat.pow_lt_pow_right O1 O1;have f:(2:Nat)^63<2^64:=Nat.pow_lt_pow_right O1 O1;rw[Gv,Gv,BitVec.toNat_or,BitVec.toNat_ofNat,BitVec.toNat_ofNat,Nat.mod_eq_of_lt O1,Nat.mod_eq_of_lt O1,JD O1]
def Ks(w:a<2^60)(z:b<2^60):IntKind.wrap .i64 ((BitVec.ofInt 64 (a:Int)&&&BitVec.ofInt 64 (b:Int)).toNat:Int)=((a&&&b:Nat):Int):=by
 have h:(a&&&b)<2^60:=Nat.lt_of_le_of_lt Nat.and_le_left w;have e:(2:Nat)^60<2^63:=Nat.pow_lt_pow_right O1 O1;have f:(2:Nat)^63<2^64:=Nat.pow_lt_pow_right O1 O1;rw[Gv,Gv,BitVec.toNat_and,BitVec.toNat_ofNat,BitVec.toNat_ofNat,Nat.mod_eq_of_lt O1,Nat.mod_eq_of_lt O1,JD O1]
def YL(H:a<2^60)(E:b<2^60):(IntKind.wrap .i64 ((BitVec.ofInt 64 (a:Int)&&&~~~BitVec.ofInt 64 (b:Int)).toNat:Int)=0↔∀k,a.testBit k=true->b.testBit k=true):=by
 have F:(2:Nat)^60<2^63:=Nat.pow_lt_pow_right O1 O1;have G:(2:Nat)^63<2^64:=Nat.pow_lt_pow_right O1 O1
 have z:(BitVec.ofNat 64 a&&&~~~BitVec.ofNat 64 b).toNat<2^63:=by
  rw[BitVec.toNat_and];refine Nat.lt_of_le_of_lt Nat.and_le_left ?_;rw[BitVec.toNat_ofNat,Nat.mod_eq_of_lt O1];omega
 rw[Gv,Gv,JD z];constructor
 .intro h k f
  have w:BitVec.ofNat 64 a&&&~~~BitVec.ofNat 64 b=0#64:=by
   apply BitVec.eq_of_toNat_eq;simpa using h
  have e:k<64:=by
   apply Classical.byContradiction;intro I;have:a<2^k:=Nat.lt_of_lt_of_le H (Nat.pow_le_pow_right O1 O1);rw[Nat.testBit_lt_two_pow this]at f;cases f
  have B:(BitVec.ofNat 64 a&&&~~~BitVec.ofNat 64 b).getLsbD k=false:=by rw[w];simp
  grind
 .intro h
  have w:BitVec.ofNat 64 a&&&~~~BitVec.ofNat 64 b=0#64:=by
   apply BitVec.eq_of_getLsbD_eq;intro k f;rw[BitVec.getLsbD_and,BitVec.getLsbD_not,BitVec.getLsbD_ofNat,BitVec.getLsbD_ofNat];cases E:a.testBit k with
   |false=>simp
   |true=>simp[h k E]
  rw[w];rfl
def Kw(h:n<60):Int.fdiv (a:Int) (2^(min ((n:Int).toNat) 64))=((a>>>n:Nat):Int):=by
 have e:min ((n:Int).toNat) 64=n:=by rw[Int.toNat_natCast];omega
 rw[e,Nat.shiftRight_eq_div_pow];grind
def HU(w:a<2^60)(h:n<60):(IntKind.wrap .i64 ((BitVec.ofInt 64 (Int.fdiv (a:Int) (2^(min ((n:Int).toNat) 64)))&&&BitVec.ofInt 64 1).toNat:Int)==1)=a.testBit n:=by
 have f:a>>>n<2^60:=Nat.lt_of_le_of_lt (Nat.shiftRight_le a n) w;have e:=Ks f (show 1<2^60 by decide);rw[Kw h];rw[show((1:Nat):Int)=1 from rfl]at e;rw[e,Nat.and_one_is_mod];rw[Bool.eq_iff_iff,beq_iff_eq,Nat.testBit];grind
def Ke(h:n<60):IntKind.wrap .i64 ((1:Int)*2^(min ((n:Int).toNat) (IntKind.bits .i64)))=((1<<<n:Nat):Int):=EG h
def Kv(e:a<2^60)(f:b<2^60):IntKind.wrap .i64 ((BitVec.ofInt (IntKind.bits .i64) (a:Int)||| BitVec.ofInt (IntKind.bits .i64) (b:Int)).toNat:Int)=((a||| b:Nat):Int):=EN e f
def Hi(h:∀x∈mu,x<m):Ja mu<2^m:=by
 apply Nat.lt_pow_two_of_testBit;intro i f;rw[W3,contains_eq_any_beq,any_eq_false];grind
def BZ(l:List Nat)(x:Nat):Ja (l++[x])=Ja l||| (1<<<x):=by simp[Ja]
def Pa{x m:Nat}(h:x<m):(1<<<x:Nat)<2^m:=by rw[Nat.one_shiftLeft];exact Nat.pow_lt_pow_right O1 h
structure Bk.Low(b:Bk):Prop where
 nc:b.cs.length<=5
 af:∀c∈b.cs,∀n∈c.af,0<=n/\n<b.nc
def Bk.Ok.toLow(h:D.Ok):D.Low:=⟨h.nc,h.af⟩
def Bk.Low.lt(h:D.Low)(e:ε∈D.cs):∀n∈ε.af,0<=n/\n<60:=λ n f=>by
 have:=h.af ε e n f;have:=h.nc;grind[Bk.nc]
def Bk.A_len(b:Bk):b.A.length=b.cs.length:=by simp[Bk.A]
def Bk.aft1_at(h:D.cs[i]?=some ε):Jd D.A i=ε.af.map Int.toNat:=by
 simp[Jd,Bk.A,getD_eq_getElem?_getD,h]
def toNat_lt(h:∀n∈l,0<=n/\n<m):∀x∈l.map Int.toNat,x<m:=by
 simp_all
def Ny(f:α->Nat->α)(a:α)(i:Nat):(range (i+1)).foldl f a=f ((range i).foldl f a) i:=by
 rw[range_succ,foldl_append];rfl
def LJ(e:w<2^m)(f:i<m):WI A w i<2^m:=by
 unfold WI;split
 .exact Nat.or_lt_two_pow e (Pa f)
 .exact e
def Yz{A:List (List Nat)}{m:Nat}:∀(l:List Nat)(d:Nat),(∀i∈l,i<m)->d<2^m->l.foldl (WI A) d<2^m
 |[],_,_,h=>h
 |x::l,d,e,h=>Yz l _ (λ i f=>e i (mem_cons_of_mem _ f)) (LJ h (e x (mem_cons_self ..)))
def Bk.dn(b:Bk)(r j:Nat):Nat:=(range j).foldl (WI b.A) (JP b.A r)
def Bk.dn_succ(b:Bk)(r j:Nat):b.dn r (j+1)=WI b.A (b.dn r j) j:=Ny _ _ _
def Bk.dn_end(b:Bk)(r:Nat):b.dn r b.cs.length=JP b.A (r+1):=by rw[<- Bk.A_len];rfl
def LK(k:Nat):JP A k<2^A.length:=by
 induction k with
 |zero=>exact Nat.two_pow_pos _
 |succ k f=>exact Yz _ _ (λ i e=>mem_range.1 e) f
def Bk.dn_lt(r:Nat)(f:D.cs.length<=5)(w:j<=D.cs.length):D.dn r j<2^5:=
 Yz _ _ (λ i e=>by grind) (Nat.lt_of_lt_of_le (LK r) (Nat.pow_le_pow_right O1 (by rw[D.A_len];omega)))
section
attribute [local irreducible] Qb Zr W5
def Jf(a:Option Addr)(len cap:Nat)(l:List Int)(F:Z8 U a len l)(G:len<2^60)(w:∀n∈l,0<=n/\n<60) :
  Qb S 49 #[.slice a len cap] (λ v U'=>v=.int .i64 (Ja (l.map Int.toNat):Nat)/\U'=U) U:=by
 refine Qb.of (args:=[_]) XW Qd S1 ?_;have L:=F.1
 repeat refine⟨rfl,?_⟩
 refine⟨Nat,λ i=>[(3,.int .i64 (Ja ((l.take i).map Int.toNat):Nat)),(6,.slice a len cap),(7,.int .i64 len),(8,.int .i64 i)],
  λ i U'=>U'=U/\i<=len,λ i=>len-i,0,T1,⟨rfl,O1⟩,?_⟩
 rintro i f _⟨rfl,Q⟩;have z:Je ((i:Int)+1):=I1
 repeat refine⟨rfl,?_⟩
 conv=>whnf
 apply Qe<;>intro B
 .have hlt:i<len:=by simpa using B
  obtain⟨I,x,H,rfl,P,N⟩:=F.at hlt;have e:=w x (mem_of_getElem? H);obtain⟨k,rfl⟩:=Int.eq_ofNat_of_zero_le e.1;have E:k<60:=O1
  have K:Ja ((l.take i).map Int.toNat)<2^60:=Hi (toNat_lt λ n M=>w n (mem_of_mem_take M))
  have key:Value.int .i64 (IntKind.wrap .i64 ((BitVec.ofInt 64 ((Ja ((l.take i).map Int.toNat):Nat):Int)||| BitVec.ofInt 64 (IntKind.wrap .i64 ((1:Int)*2^(min ((k:Int).toNat) 64)))).toNat:Int))=.int .i64 (Ja ((l.take (i+1)).map Int.toNat):Nat):=by
   rw[EG E,EN K (Pa E),Wm H,map_append,map_singleton,Int.toNat_natCast,BZ]
  refine⟨I,i,⟨rfl,rfl,hlt⟩,_,N,e.1,?_⟩
  repeat refine⟨rfl,?_⟩
  refine⟨z,?_⟩
  conv=>whnf
  exact⟨rfl,i+1,⟨key,rfl,rfl,rfl,trivial⟩,⟨rfl,O1⟩,L1⟩
 .have hge:len<=i:=by simpa using B
  repeat refine⟨rfl,?_⟩
  conv=>whnf
  grind
end
variable{h:BH}
def YK(h:∀n∈l,0<=n/\n<60):(∀k,(Ja (l.map Int.toNat)).testBit k=true->w.testBit k=true)↔((l.map Int.toNat).all λ k=>w.testBit k)=true:=by
 rw[all_eq_true];constructor
 .intro g k hk;exact g k (by rw[W3];simpa using hk)
 .intro g k hk;rw[W3]at hk;grind
def Zu.case(k:Zu U h D)(K:i<h.cl) :
  ∃e c ga gl gc f al ac,D.cs[i]?=some c/\h.ca=some e/\e.spot=none/\Ju U (e.add (i*4)) [.string c.nm,.int .i64 c.ag,.slice ga gl gc,.slice f al ac]/\Wt U ga gl c.gs/\gl<2^60/\Z8 U f al c.af/\al<2^60/\c∈D.cs:=by
 obtain⟨e,c,vs,E,w,B,⟨ga,gl,gc,f,al,ac,rfl,F,G,H,I⟩,-,z⟩:=k.cs.at K;grind
def Zu.right(k:Zu U h D)(E:i<h.rl) :
  ∃e s,D.rs[i]?=some s/\h.ra=some e/\e.spot=none/\U.sees ((e.add (i*1)).add 0) (.string s)/\s∈D.rs:=by
 obtain⟨e,s,vs,B,f,z,rfl,-,w⟩:=k.rs.at E;exact⟨e,s,B,f,z,w 0 _ rfl,mem_of_getElem? B⟩
section
attribute [local irreducible] Qb Zr W5
def S4(h:BH)(b:Bk)(hb:Zu U h b)(Y:b.Low):Qb S 41 #[h.v] (λ v U'=>v=.int .i64 (if W4 b.A then 8 else 0)/\U'=U) U:=by
 refine Qb.pure' (Qb.of (args:=[_]) Yt Qd S1 ?_);have V:=hb.cs.1;have hA:=b.A_len;have h5:=Y.nc
 repeat refine⟨rfl,?_⟩
 conv=>whnf
 intro B U1 L P;have P:=Zz4 h P;refine⟨_,P.sees3 (o:=1) rfl,Nat,λ r=>[(1,.pb B),(3,.int .i64 (JP b.A r:Nat)),(9,.int .i64 h.cl),(10,.int .i64 r)],
  λ r U'=>U1.lg U'/\r<=h.cl,λ r=>h.cl-r,0,T1,⟨(Qa.le.refl _).lg,O1⟩,?_⟩
 rintro r f U2⟨F,hr⟩;have X:Je ((r:Int)+1):=I1
 repeat refine⟨rfl,?_⟩
 conv=>whnf
 apply Qe<;>intro E
 .have hrt:r<h.cl:=by simpa using E
  refine⟨_,(P.lg F).sees3 (o:=1) rfl,Nat,λ j=>[(1,.pb B),(3,.int .i64 (b.dn r j:Nat)),(9,.int .i64 h.cl),(10,.int .i64 r),(14,.slice h.ca h.cl h.cc),(15,.int .i64 h.cl),(16,.int .i64 j)],
   λ j U'=>U1.lg U'/\j<=h.cl,λ j=>h.cl-j,0,T1,⟨F,O1⟩,?_⟩
  rintro j f U3⟨z,hj⟩;have I:Je ((j:Int)+1):=I1
  have hd:b.dn r j<2^5:=Bk.dn_lt r h5 O1;have H:b.dn r j<2^60:=Nat.lt_trans hd D1;have w:=b.dn_succ r j
  repeat refine⟨rfl,?_⟩
  conv=>whnf
  apply Qe<;>intro E
  .have hjt:j<h.cl:=by simpa using E
   obtain⟨ad,c,ga,gl,gc,aa,al,ac,hx,aj,au,aq,-,-,ha,ae,Z⟩:=(hb.lg (L.lg.trans z)).case hjt;have K:=Y.lt Z;have ah:=Bk.aft1_at hx;refine⟨ad,j,⟨aj,rfl,hjt⟩,_,⟨rfl,aq⟩,?_⟩
   conv=>whnf
   intro b5 am;refine⟨_,.refl _,rfl,Zy (vs:=[.string c.nm,.int .i64 c.ag,.slice ga gl gc,.slice aa al ac]) am rfl (by simp[Value.single]) λ U4 Q T=>?_⟩;have G:=z.trans Q.lg;refine⟨_,T.sees3 (o:=3) rfl,XW.any,(Jf aa al ac c.af (ha.lg Q.lg) ae K).go λ _=>?_⟩;have ai:Ja (c.af.map Int.toNat)<2^60:=Hi (toNat_lt K);have key:_↔(Jd b.A j).all (λ k=>(b.dn r j).testBit k)=true:=(YL ai H).trans ((YK K).trans (by rw[ah]))
   repeat refine⟨rfl,?_⟩
   conv=>whnf
   apply Qe<;>intro E
   .have hall:(Jd b.A j).all (λ k=>(b.dn r j).testBit k)=true:=key.1 (eq_of_beq E);have M:WI b.A (b.dn r j) j=b.dn r j||| (1<<<j):=by unfold WI;rw[if_pos hall]
    rw[M]at w;refine⟨O1,?_⟩
    repeat refine⟨rfl,?_⟩
    refine⟨I,?_⟩
    conv=>whnf
    have e2:IntKind.wrap .i64 ((BitVec.ofInt (IntKind.bits .i64) ((b.dn r j:Nat):Int)||| BitVec.ofInt (IntKind.bits .i64) (IntKind.wrap .i64 ((1:Int)*2^(min ((j:Int).toNat) (IntKind.bits .i64))))).toNat:Int)=((b.dn r (j+1):Nat):Int):=by
     rw[Ke O1,Kv H (Pa O1),<- w]
    exact⟨rfl,j+1,⟨rfl,congrArg (Value.int .i64) e2,rfl,rfl,rfl,rfl,rfl,trivial⟩,⟨G,O1⟩,L1⟩
   .have hall:(Jd b.A j).all (λ k=>(b.dn r j).testBit k)=false:=by
     cases hh:(Jd b.A j).all (λ k=>(b.dn r j).testBit k)with
     |false=>rfl
     |true=>exact absurd (key.2 hh) (ne_of_beq_false E)
    have M:WI b.A (b.dn r j) j=b.dn r j:=by unfold WI;rw[hall];rfl
    rw[M]at w;refine⟨I,?_⟩
    conv=>whnf
    exact⟨rfl,j+1,⟨rfl,congrArg (λ q:Nat=>Value.int .i64 (q:Int)) w.symm,rfl,rfl,rfl,rfl,rfl,trivial⟩,⟨G,O1⟩,L1⟩
  .have hge:h.cl<=j:=by simpa using E
   obtain rfl:j=h.cl:=O1
   have N:b.dn r h.cl=JP b.A (r+1):=by rw[<- V];exact b.dn_end r
   refine⟨X,?_⟩
   conv=>whnf
   exact⟨rfl,r+1,⟨rfl,congrArg (λ q:Nat=>Value.int .i64 (q:Int)) N,rfl,rfl,trivial⟩,⟨z,O1⟩,L1⟩
 .have hge:h.cl<=r:=by simpa using E
  obtain rfl:r=h.cl:=O1
  have e1:IntKind.wrap .i64 ((1:Int)*2^(min ((h.cl:Int).toNat) (IntKind.bits .i64)))=((1<<<h.cl:Nat):Int):=Ke O1;have ap:=@Pa h.cl 6 O1;have ab:0<1<<<h.cl:=by rw[Nat.one_shiftLeft];exact Nat.two_pow_pos _
  have an:W4 b.A=decide (JP b.A h.cl≠1<<<h.cl-1):=by unfold W4;rw[hA,V,<- Nat.one_shiftLeft]
  rw[an];generalize(1<<<h.cl:Nat)=q at e1 ap ab
  have W:Je (IntKind.wrap .i64 ((1:Int)*2^(min ((h.cl:Int).toNat) (IntKind.bits .i64)))-1):=by
   rw[e1];unfold Je;omega
  refine⟨_,(P.lg F).sees3 (o:=1) rfl,O1,W,?_⟩
  repeat refine⟨rfl,?_⟩
  conv=>whnf
  apply Qe<;>intro E
  .rw[e1]at E
   have ao:JP b.A h.cl≠q-1:=by
    intro e;rw[e]at E;simp at E;omega
   rw[decide_eq_true ao]
   repeat refine⟨rfl,?_⟩
   conv=>whnf
   exact L.lg.trans F
  .rw[e1]at E
   have ak:¬JP b.A h.cl≠q-1:=by
    simp at E;omega
   rw[decide_eq_false ak]
   repeat refine⟨rfl,?_⟩
   conv=>whnf
   exact L.lg.trans F
end
variable{P:Program}{q:Sys P T}{f:Fm}{K:Value->Qa T->Prop}{len:Nat}{d:TypeDesc}{k:IntKind}{cs:Array Value}{x:Operand}{nameB:ByteArray->Bool}
def KV{y:Operand}{w:TypeInfo}(I:P.underlying b=some (.array len n))(F:P.underlying n=some d)(z:TypeDesc.agg d=false)(G:P.info? n=some w)(B:w.size=1)
  (M:Zc f x=.agg cs) (N:Zc f y=.int k i) (H:i<len) (L:cs[i]?=some v) (h:K v U) :
  OX q (.rw (.index b x y) j) f K U:=by
 intro a' E;simp only[execOp,E,M,N];refine rq ?_;simp only[Instr.index,Qc,asIntOf,Qi,Zi I];rw[if_pos O1];simp only[Qc,Ji G,B,Nat.mul_one,Int.toNat_natCast];simp only[part,Qc,Hq F,z,Bool.false_eq_true,if_false,L];exact⟨U,.refl _,h⟩
def V7:Array Value:=#[.func (.func 173) #[] #[],.func (.func 174) #[] #[],.func (.func 41) #[] #[]]
def JU(U:Qa T):Prop:=Zo U 0 V7
def JU.lg{U':Qa T}(h:JU U)(k:U.lg U'):JU U':=Zo.lg h k
def Bk.low_of(h:D.csF nameB=0):D.Low:=by
 unfold Bk.csF at h;split at h
 .cases h
 .exact⟨O1,λ c e=>K4 (YZ h c e).2.2⟩
section
attribute [local irreducible] Qb Zr W5
def NK(h:BH)(b:Bk)(Y:Zu U h b)(a:Option Addr)(len cap:Nat)(F:List (List Int))(hl:Wt U a len F)(aa:len<2^60) :
  Qb S 176 #[h.v,.slice a len cap] (λ v U'=>v=.int .i64 (H9 b.nr F)/\U'=U) U:=by
 refine Qb.pure' (Qb.of (args:=[_,_]) UL Qd S1 ?_);have I:=hl.1;have W:=Y.rs.1;have K:=Y.rl;have T:b.nr=(h.rl:Int):=by unfold Bk.nr;rw[W]
 repeat refine⟨rfl,?_⟩
 conv=>whnf
 intro B X w N;have N:=Zz4 h N
 repeat refine⟨rfl,?_⟩
 conv=>whnf
 apply Qe<;>intro E
 .have z:F.length > 3:=by rw[I];simp at E;omega
  repeat refine⟨rfl,?_⟩
  conv=>whnf
  exact⟨by unfold H9;rw[if_pos z],w.lg⟩
 have z:¬F.length > 3:=by rw[I];simp at E;omega
 have G:H9 b.nr F=Hy b.nr F:=by unfold H9;rw[if_neg z]
 rw[G]
 refine⟨Nat,λ i=>[(2,.pb B),(11,.slice a len cap),(12,.int .i64 len),(13,.int .i64 i)],
  λ i U'=>U'=X/\i<=len/\Hy b.nr F=Hy b.nr (F.drop i),λ i=>len-i,0,T1,⟨rfl,O1,rfl⟩,?_⟩
 rintro i f U'⟨hU,hi,e⟩;obtain rfl:=hU.symm;have Q:Je ((i:Int)+1):=I1
 repeat refine⟨rfl,?_⟩
 conv=>whnf
 apply Qe<;>intro E
 .have hlt:i<len:=by simpa using E
  obtain⟨ad,g,vs,hx,rfl,ab,⟨ga,gl,gc,rfl,Z,P⟩,-,V⟩:=Zd.at (hl.lg w.lg) hlt;have H:=Z.1;rw[Hk hx,Hy]at e;refine⟨ad,i,⟨rfl,rfl,hlt⟩,_,V 0 _ rfl,?_⟩
  repeat refine⟨rfl,?_⟩
  conv=>whnf
  apply Qe<;>intro E
  .have M:g.length > 3:=by rw[H];simp at E;omega
   repeat refine⟨rfl,?_⟩
   conv=>whnf
   exact⟨by rw[e,if_pos M],w.lg⟩
  have M:¬g.length > 3:=by rw[H];simp at E;omega
  rw[if_neg M]at e;refine⟨_,N.sees3 (o:=0) rfl,Yb.any,(S5 ga gl gc g Z P h.rl K).go λ _=>?_⟩;rw[T]at e ⊢;by_cases L:ZB (h.rl:Int) none g=0
  .rw[if_pos L]at e;rw[L]
   repeat refine⟨rfl,?_⟩
   refine⟨Q,?_⟩
   conv=>whnf
   exact⟨rfl,i+1,T1,⟨rfl,O1,e⟩,L1⟩
  .rw[if_neg L]at e
   repeat refine⟨rfl,?_⟩
   conv=>whnf
   apply Qe<;>intro E
   .repeat refine⟨rfl,?_⟩
    conv=>whnf
    exact⟨by rw[e],w.lg⟩
   .exact absurd (by simpa using E) L
 .have hge:len<=i:=by simpa using E
  rw[drop_eq_nil_of_le O1]at e
  repeat refine⟨rfl,?_⟩
  conv=>whnf
  exact⟨by rw[e];rfl,w.lg⟩
def NZ(h:BH)(b:Bk)(N:Zu U h b):Qb S 174 #[h.v] (λ v U'=>v=.int .i64 (b.csF Zk)/\U'=U) U:=by
 refine Qb.pure' (Qb.of (args:=[_]) UK Qd S1 ?_);have P:=N.cs.1;have ah:=N.cl;have ax:=N.rs.1;have az:=N.rl;have ak:b.nr=(h.rl:Int):=by unfold Bk.nr;rw[ax]
 have av:b.nc=(h.cl:Int):=by unfold Bk.nc;rw[P]
 repeat refine⟨rfl,?_⟩
 conv=>whnf
 intro B U1 z W;have W:=Zz4 h W;refine⟨_,W.sees3 (o:=1) rfl,?_⟩
 repeat refine⟨rfl,?_⟩
 conv=>whnf
 apply Qe<;>intro L
 .have H:b.cs.length > 5:=by rw[P];simp at L;omega
  repeat refine⟨rfl,?_⟩
  conv=>whnf
  exact⟨by unfold Bk.csF;rw[if_pos H],z.lg⟩
 have H:¬b.cs.length > 5:=by rw[P];simp at L;omega
 have V:b.csF Zk=Hw Zk h.rl h.cl [] b.cs:=by unfold Bk.csF;rw[if_neg H,ak,av]
 rw[V]
 conv=>whnf
 refine P6 Value.string λ mb a0=>?_;refine⟨_,Qa.sees.lg (W.sees3 (o:=1) rfl) (Z6 mb _),Nat×List ByteArray,λ y=>[(1,.pb B),(3,.map (some mb)),(17,.slice h.ca h.cl h.cc),(18,.int .i64 h.cl),(19,.int .i64 y.1)],
  λ y U'=>U1.lg U'/\U'.M=.obj mb (Q0 Value.string (ZW 0 y.2))::U.M/\y.1<=h.cl/\y.2.length=y.1/\Hw Zk h.rl h.cl [] b.cs=Hw Zk h.rl h.cl y.2 (b.cs.drop y.1),
  λ y=>h.cl-y.1,(0,[]),T1,⟨Z6 _ _,?_,S1,rfl,S1⟩,?_⟩
 .show _::_=_;rw[z.own];rfl
 rintro⟨i,s⟩f U2⟨Q,hM,hi,am,e⟩;simp only at hM hi am e;have au:Je ((i:Int)+1):=I1
 have ai:Je ((h.rl:Int)-1):=I1
 repeat refine⟨rfl,?_⟩
 conv=>whnf
 apply Qe<;>intro L
 .have hlt:i<h.cl:=by simpa using L
  obtain⟨ad,c,ga,gl,gc,aa,al,ac,hx,ao,a1,aw,hg,aq,ha,an,aj⟩:=(N.lg z.lg).case hlt;rw[Hk hx,Hw]at e;have ay:=N.cn c aj;subst am;refine⟨ad,s.length,⟨ao,rfl,hlt⟩,_,⟨rfl,aw.lg Q⟩,?_⟩
  conv=>whnf
  intro b5 ap;refine⟨_,.refl _,rfl,Zy (vs:=[.string c.nm,.int .i64 c.ag,.slice ga gl gc,.slice aa al ac]) ap rfl (by simp[Value.single]) λ U3 ab E=>?_⟩;have Z:U3.M=_:=ab.own.trans hM;have K:=Q.trans ab.lg;refine⟨_,E.sees3 (o:=0) rfl,Ya.any,(Sl mb s c.nm ay U.M Z).mono ?_⟩;rintro _ U4⟨rfl,F⟩-;have T:U3.frz.lg U4:=F▸⟨λ _ _ h=>h,Zz3,rfl⟩;have w:U1.lg U4:=F▸⟨K.imm,⟨[_],by rw[z.own];rfl⟩,K.tok⟩;have Y:U4.M=.obj mb (Q0 Value.string (ZW 0 (if Zk c.nm&&!JK s c.nm then s++[c.nm]else s)))::U.M:=by rw[F]
  have X:∀x o,U3.I x=some o->U4.I x=some o:=T.imm;have E:=E.imI X;have G:=W.lg w;clear F;cases hn:Zk c.nm with
  |false=>
   rw[hn]at e
   repeat refine⟨rfl,?_⟩
   conv=>whnf
   exact⟨by rw[e];rfl,z.lg.trans w⟩
  |true=>
  rw[if_pos hn]at e;cases hh:JK s c.nm with
  |true=>
   rw[if_pos hh]at e
   repeat refine⟨rfl,?_⟩
   conv=>whnf
   exact⟨by rw[e];rfl,z.lg.trans w⟩
  |false=>
  rw[hh]at e;simp only[Bool.false_eq_true,if_false]at e;rw[hn,hh]at Y
  repeat refine⟨rfl,?_⟩
  refine⟨_,E.sees3 (o:=1) rfl,_,G.sees3 (o:=0) rfl,ai,Gn.any,(Wy _ _ _ _).mono ?_⟩;rintro v U'⟨rfl,rfl⟩-;cases ae:Q_ c.ag 0 ((h.rl:Int)-1)with
  |false=>
   rw[ae]at e
   repeat refine⟨rfl,?_⟩
   conv=>whnf
   exact⟨by rw[e];rfl,z.lg.trans w⟩
  |true=>
  rw[if_pos ae]at e;refine⟨_,⟨rfl,G.rd⟩,?_⟩;refine⟨_,E.sees3 (o:=2) rfl,UL.any,(NK h b (N.lg (z.lg.trans w)) ga gl gc c.gs (hg.lg w) aq).mono ?_⟩;rintro _ U''⟨rfl,F⟩-;obtain rfl:=F.symm;rw[ak];by_cases hz:H9 (h.rl:Int) c.gs=0
  .rw[if_pos hz]at e;rw[hz]
   repeat refine⟨rfl,?_⟩
   refine⟨_,E.sees3 (o:=3) rfl,_,G.sees3 (o:=1) rfl,Yb.any,(S5 aa al ac c.af (ha.lg w) an h.cl ah).mono ?_⟩;rintro _ U''⟨rfl,F⟩-;obtain rfl:=F.symm;by_cases hy:ZB (h.cl:Int) none c.af=0
   .rw[if_pos hy]at e;rw[hy]
    repeat refine⟨rfl,?_⟩
    refine⟨au,rfl,(s.length+1,s++[c.nm]),T1,⟨w,Y,by grind,S1,e⟩,L1⟩
   .rw[if_neg hy]at e
    repeat refine⟨rfl,?_⟩
    conv=>whnf
    apply Qe<;>intro L
    .repeat refine⟨rfl,?_⟩
     conv=>whnf
     exact⟨by rw[e],z.lg.trans w⟩
    .exact absurd (by simpa using L) hy
  .rw[if_neg hz]at e
   repeat refine⟨rfl,?_⟩
   conv=>whnf
   apply Qe<;>intro L
   .repeat refine⟨rfl,?_⟩
    conv=>whnf
    exact⟨by rw[e],z.lg.trans w⟩
   .exact absurd (by simpa using L) hz
 .have hge:h.cl<=i:=by simpa using L
  rw[drop_eq_nil_of_le O1]at e
  repeat refine⟨rfl,?_⟩
  conv=>whnf
  exact⟨by rw[e];rfl,z.lg.trans Q⟩
def VB:prog.underlying 133=some (.array 3 132):=K1
def EA(P:Program)(t:TypeId):Bool:=match P.underlying t with|some d=>!TypeDesc.agg d&&(match P.info? t with|some e=>decide (e.size=1)|none=>false)|none=>false
def L8(h:EA P t=true):∃d e,P.underlying t=some d/\TypeDesc.agg d=false/\P.info? t=some e/\e.size=1:=by
 unfold EA at h;grind
def Lj:∃d e,prog.underlying 132=some d/\TypeDesc.agg d=false/\prog.info? 132=some e/\e.size=1:=L8 K1
def Ky(h:BH)(b:Bk)(N:Zu U h b)(X:JU U):Qb S 36 #[h.v] (λ v U'=>v=.int .i64 (b.flaw Zk)/\U'=U) U:=by
 refine Qb.pure' (Qb.of (args:=[_]) VL Qd S1 ?_);obtain⟨T,Z,P,F,E,H⟩:=Lj
 repeat refine⟨rfl,?_⟩
 conv=>whnf
 intro B Q e L;have L:=Zz4 h L;refine⟨_,⟨rfl,(X.lg e.lg).reads (vs:=V7.toList) (λ k v Y=>by simpa using Y)⟩,?_⟩
 refine⟨Nat,λ i=>[(1,.pb B),(6,.agg V7),(7,.int .i64 i)],
  λ i U'=>U'=Q/\i<=3/\(0<i->b.rsF Zk=0)/\(1<i->b.csF Zk=0)/\(2<i->W4 b.A=false),λ i=>3-i,0,T1,⟨rfl,O1,O1,O1,O1⟩,?_⟩
 rintro i f U'⟨W,hi,K,M,V⟩;obtain rfl:=W.symm;have G:Je ((i:Int)+1):=I1
 repeat refine⟨rfl,?_⟩
 conv=>whnf
 apply Qe<;>intro I
 .have hlt:i<3:=by simp at I;omega
  obtain rfl|rfl|rfl:i=0\/i=1\/i=2:=O1
  .conv=>whnf
   refine KV (v:=.func (.func 173) #[] #[]) VB P F E H rfl rfl O1 rfl ?_;refine⟨_,⟨rfl,L.rd⟩,?_⟩;refine⟨UJ.any,(NU h b (N.lg e.lg)).mono ?_⟩;rintro _ U''⟨rfl,z⟩-;obtain rfl:=z.symm;by_cases w:b.rsF Zk=0
   .rw[w]
    repeat refine⟨rfl,?_⟩
    refine⟨G,?_⟩
    conv=>whnf
    exact⟨rfl,1,T1,⟨rfl,O1,λ _=>by first|exact w|rfl,O1,O1⟩,D1⟩
   .repeat refine⟨rfl,?_⟩
    conv=>whnf
    apply Qe<;>intro I
    .repeat refine⟨rfl,?_⟩
     conv=>whnf
     exact⟨by unfold Bk.flaw;rw[if_neg w],e.lg⟩
    .exact absurd (by simpa using I) w
  .conv=>whnf
   refine KV (v:=.func (.func 174) #[] #[]) VB P F E H rfl rfl O1 rfl ?_;refine⟨_,⟨rfl,L.rd⟩,?_⟩;refine⟨UK.any,(NZ h b (N.lg e.lg)).mono ?_⟩;rintro _ U''⟨rfl,z⟩-;obtain rfl:=z.symm;by_cases w:b.csF Zk=0
   .rw[w]
    repeat refine⟨rfl,?_⟩
    refine⟨G,?_⟩
    conv=>whnf
    exact⟨rfl,2,T1,⟨rfl,O1,λ _=>K O1,λ _=>by first|exact w|rfl,O1⟩,D1⟩
   .repeat refine⟨rfl,?_⟩
    conv=>whnf
    apply Qe<;>intro I
    .repeat refine⟨rfl,?_⟩
     conv=>whnf
     exact⟨by simp_all[Bk.flaw,if_pos,O1,if_neg],e.lg⟩
    .exact absurd (by simpa using I) w
  .conv=>whnf
   refine KV (v:=.func (.func 41) #[] #[]) VB P F E H rfl rfl O1 rfl ?_;refine⟨_,⟨rfl,L.rd⟩,?_⟩;refine⟨Yt.any,(S4 h b (N.lg e.lg) (Bk.low_of (M O1))).mono ?_⟩;rintro _ U''⟨rfl,z⟩-;obtain rfl:=z.symm;cases w:W4 b.A with
   |false=>
    repeat refine⟨rfl,?_⟩
    refine⟨G,?_⟩
    conv=>whnf
    exact⟨rfl,3,T1,⟨rfl,O1,λ _=>K O1,λ _=>M O1,λ _=>by first|exact w|rfl⟩,D1⟩
   |true=>
    repeat refine⟨rfl,?_⟩
    conv=>whnf
    exact⟨by simp_all[Bk.flaw,if_pos,O1],e.lg⟩
 .have hge:i=3:=by simp at I;omega
  repeat refine⟨rfl,?_⟩
  conv=>whnf
  exact⟨by simp_all[Bk.flaw,if_pos,O1],e.lg⟩
end
variable{F G B:Operand}{z:TypeInfo}{u r:Nat->Bool}
def CD{cap:Nat}{a:Option Addr}(Q:P.underlying i=some (.slice j))(B:P.info? j=some z)(T:Zc f x=.slice a len cap)(L:Zc f F=.int .i64 n)(M:Zc f G=.int .i64 n)(N:n<=cap)
  (E:∀w,a=some w->w.spot=none) (h:K (.slice a n n) U) :
  OX q (.rw (.slice i x none (some F) (some G)) m) f K U:=by
 intro a' I;simp only[execOp,I,T,L,M,Option.map_some,Option.map_none];refine rq ?_;simp only[Instr.sliceAt,Instr.slice,Qc,Zi Q,Instr.sliceBounds];refine HQ rfl N ?_;refine HQ rfl (Nat.le_refl _) ?_;simp only[Qi,Ji B];refine⟨U,.refl _,?_⟩
 have H:(if n=0 then a else a.map λ x=>x.add (0*z.size))=a:=by
  split
  .rfl
  .cases a with
   |none=>rfl
   |some w=>
    have:=E w rfl;obtain⟨b,o,s⟩:=w;cases this;simp only[Option.map_some,Nat.zero_mul];rw[Qu];rfl
 rw[H];exact h
def Aj{N:Nat}{o:Nat}{w:TypeInfo}(I:P.underlying i=some (.array N j))(z:P.info? j=some w)(L:Zc f x=.pointer (some ⟨b,o,none⟩))(G:Zc f B=.int .i64 n)(H:n<=N)
  (h:K (.slice (some ⟨b,o,none⟩) n N) U) :
  OX q (.rw (.slice i x none (some B) none) a) f K U:=by
 intro a' F;simp only[execOp,F,L,G,Option.map_some,Option.map_none];refine rq ?_;simp only[Instr.sliceAt,Qc,Zi I,Instr.sliceBounds,Instr.sureAddr,Qi];refine HQ rfl H ?_;simp only[Qi,Ji z];refine⟨U,.refl _,?_⟩
 have E:(if N=0 then(⟨b,o,none⟩:Addr)else(⟨b,o,none⟩:Addr).add (0*w.size))=⟨b,o,none⟩:=by
  split
  .rfl
  .rw[Nat.zero_mul,Qu];rfl
 rw[E];exact h
def QT(s:Nat->Bool):List Value:=[.bool (s 0),.bool (s 1),.bool (s 2),.bool (s 3),.bool (s 4),.bool (s 5)]
def Gg(h:j<6):j=0\/j=1\/j=2\/j=3\/j=4\/j=5:=O1
def Oa(s:Nat->Bool)(h:j<6):(QT s)[j]?=some (.bool (s j)):=by
 rcases Gg h with rfl|rfl|rfl|rfl|rfl|rfl <;> rfl
def E8(s:Nat->Bool)(h:j<6)(v:Bool):(QT s).toArray.setIfInBounds j (.bool v)=(QT (Hz s j v)).toArray:=by
 rcases Gg h with rfl|rfl|rfl|rfl|rfl|rfl <;> rfl
def Uf(h:∀j,j<6->u j=r j):QT u=QT r:=by
 simp_all[QT,O1]
def KM(s:Nat->Bool):∀v∈QT s,v.single=true:=by simp[QT,Value.single]
def Y5(s:Nat->Bool):∀v∈QT s,fits .bool v=true:=by simp[QT,fits]
def Uw:ZJ (QT u) (QT r)=true↔∀j,j<6->u j=r j:=by
 simp only[QT,ZJ,H_,Bool.and_eq_true,beq_iff_eq,and_true];grind
abbrev OC(s:Nat->Bool):Value:=.agg #[.bool (s 0),.bool (s 1),.bool (s 2),.bool (s 3),.bool (s 4),.bool (s 5)]
def qE:Array Value:=#[.bool false,.bool false,.bool false,.bool false,.bool false,.bool false]
def W8(s:List Bool):Nat->Bool:=λ j=>s.getD j false
def Nq(n:Nat):W8 (replicate n true)=λ j=>decide (j<n):=by
 funext j;simp only[W8,getD_eq_getElem?_getD,getElem?_replicate];by_cases h:j<n <;> simp[h]
def Nr(s:List Bool)(i:Nat)(v:Bool)(e:i<s.length):Hz (W8 s) i v=W8 (s.set i v):=by
 funext k;simp only[Hz,W8,getD_eq_getElem?_getD,getElem?_set];grind
def J4(w:List Bool):Nat:=Ja ((range w.length).filter λ i=>w.getD i false)
def Pv(w:List Bool)(k:Nat):(J4 w).testBit k=w.getD k false:=by
 rw[J4,W3,Bool.eq_iff_iff,contains_iff_mem,mem_filter,mem_range];grind
def Mg(w:List Bool)(i:Nat)(e:i<w.length):J4 (w.set i true)=J4 w||| (1<<<i):=by
 apply Nat.eq_of_testBit_eq;intro k;rw[Nat.testBit_or,Pv,Pv,Py];grind
def Dl(n:Nat):J4 (replicate n false)=0:=by
 apply Nat.eq_of_testBit_eq;intro k;rw[Pv,Nat.zero_testBit,getD_eq_getElem?_getD,getElem?_replicate];grind
def YX(w:List Bool)(h:w.length<=m):J4 w<2^m:=
 Hi λ x e=>by
  grind
section
attribute [local irreducible] Qb Zr W5
def Sm(h:BH)(b:Bk)(X:Zu U h b)(h6:b.rs.length<=6):Qb S 48 #[h.v] (λ v U'=>v=OC (W8 b.ini.1)/\U'=U) U:=by
 refine Qb.pure' (Qb.of (args:=[_]) Yu Qd S1 ?_);have L:=X.rs.1;have w:W8 b.ini.1=λ j=>decide (j<h.rl):=by rw[<- L];exact Nq _
 rw[w]
 repeat refine⟨rfl,?_⟩
 conv=>whnf
 intro B U₀ K H;have H:=Zz4 h H
 conv=>whnf
 intro G Y;refine⟨_,.refl _,?_⟩
 conv=>whnf
 intro E Z;refine⟨_,.refl _,_,(H.lg ((Z6 G _).trans (Z6 E _))).sees3 (o:=0) rfl,Nat,λ i=>[(2,.pb G),(3,.pb E),(8,.int .i64 h.rl),(9,.int .i64 i)],
  λ i U'=>U₀.I=U'.I/\U₀.tok=U'.tok/\U'.M=.obj E (.cells (QT λ j=>decide (j<i)).toArray 87 (0,0))::.obj G (.cells qE 87 (0,0))::U₀.M/\i<=h.rl,λ i=>h.rl-i,0,T1,⟨rfl,rfl,rfl,O1⟩,?_⟩
 rintro i f V⟨N,T,F,hi⟩;have z:U₀.lg V:=⟨λ b o h=>by rw[<- N];exact h,⟨[_,_],F⟩,T.symm⟩
 repeat refine⟨rfl,?_⟩
 conv=>whnf
 apply Qe<;>intro P
 .have hlt:i<h.rl:=by simpa using P
  have e:i<6:=O1
  refine⟨i,⟨rfl,e⟩,rfl,?_⟩;show ZG ((Addr.mk E 0 none).add (i*1)) [.bool true] 0 _ _;rw[Nat.mul_one];refine PO [] F e rfl ?_
  have W:(QT λ j=>decide (j<i)).toArray.setIfInBounds i (.bool true)=(QT λ j=>decide (j<i+1)).toArray:=by
   rw[E8 _ e];congr 1;refine Uf λ k _=>?_;unfold Hz;by_cases Q:k=i
   .simp[Q]
   .grind
  rw[W];refine⟨I1,?_⟩;refine⟨rfl,i+1,T1,⟨N,T,rfl,O1⟩,L1⟩
 .have hge:i=h.rl:=by simp at P;omega
  subst hge;refine⟨_,⟨rfl,Ze [] F⟩,rfl,K9 (vs:=QT λ j=>decide (j<h.rl)) [_] F rfl (KM _) ?_⟩;refine⟨_,⟨rfl,Ze [_] rfl⟩,?_⟩
  conv=>whnf
  exact⟨rfl,(K.lg.trans ⟨z.imm,⟨[_,_],rfl⟩,z.tok⟩)⟩
def NV(b:Nat)(s:Nat->Bool)(f:Zo U b (QT s).toArray)(r:Nat)(e:r<6):Qb S 119 #[.int .i64 r,.pb b] (λ v U'=>v=.bool (!s r)/\U'=U) U:=by
 refine Qb.of (args:=[_,_]) UB Qd S1 ?_
 repeat refine⟨rfl,?_⟩
 refine⟨r,⟨rfl,e⟩,.bool (s r),?_,?_⟩
 .rw[Nat.mul_one,Qu];exact f.sees (by rw[Nat.zero_add,getElem?_toArray];exact Oa s e)
 repeat refine⟨rfl,?_⟩
 conv=>whnf
def Nv(a:Option Addr)(len cap:Nat)(l:List Int)(w:Z8 U a len l)(f:len<2^60)(g:FuncId)(first e:Array Value)(p:Int->Bool)(z:Ot S U g first e (λ n=>.int .i64 n) l p) :
  Qb S 118 #[.slice a len cap,.func (.func g) first e] (λ v U'=>v=.bool (l.any p)/\U'=U) U:=by
 refine Qb.of (args:=[_,_]) UA Qd S1 ?_;refine⟨UH.any,(RS (λ n=>.int .i64 n) a len cap l w.1 w.2 (λ x=>⟨_,_,rfl⟩) f g first e p z).mono ?_⟩;rintro v U'⟨rfl,rfl⟩-
 repeat refine⟨rfl,?_⟩
 refine⟨?_,rfl⟩;show Value.bool _=_;rw[V_]
def NS(b:Nat)(s:Nat->Bool)(z:Zo U b (QT s).toArray)(a:Option Addr)(len cap:Nat)(l:List Int)(B:Z8 U a len l)(e:len<2^60)(f:∀n∈l,0<=n/\n<6) :
  Qb S 117 #[.slice a len cap,.pb b] (λ v U'=>v=.bool (l.all λ r=>s r.toNat)/\U'=U) U:=by
 refine Qb.of (args:=[_,_]) Un Qd S1 ?_;refine⟨UA.any,(Nv a len cap l B e 119 #[] #[_] (λ r=>!s r.toNat) ⟨UB.any,λ n w=>?_⟩).mono ?_⟩
 .obtain⟨k,rfl⟩:=Int.eq_ofNat_of_zero_le (f n w).1;exact NV b s z k (by have:=(f _ w).2;omega)
 rintro v U'⟨rfl,rfl⟩-
 repeat refine⟨rfl,?_⟩
 refine⟨?_,rfl⟩;grind
def RT(a:Option Addr)(len cap:Nat)(l:List (List Int))(H:Wt U a len l)(M:len<2^60)(g:FuncId)(first B:Array Value)(p:List Int->Bool)
  (Q:(prog.funcs[g]?.any λ fd=>fd.body.isSome&&fd.name != "runtime.NumGoroutine")=true)
  (P:∀x∈l,∀a' e z,Z8 U a' e x->e<2^60->Qb S g (first.toList++[Value.slice a' e z]++B.toList).toArray (λ v U'=>v=.bool (p x)/\U'=U) U) :
  Qb S 141 #[.slice a len cap,.func (.func g) first B] (λ v U'=>v=.int .i64 (XO p l)/\U'=U) U:=by
 refine Qb.of (args:=[_,_]) UG Qd S1 ?_;have X:=H.1
 repeat refine⟨rfl,?_⟩
 refine⟨Nat,λ i=>[(0,.slice a len cap),(1,.func (.func g) first B),(6,.slice a len cap),(7,.int .i64 len),(8,.int .i64 i)],
  λ i U'=>U'=U/\i<=len/\∀x∈l.take i,p x=false,λ i=>len-i,0,T1,⟨rfl,O1,S1⟩,?_⟩
 rintro i f _⟨rfl,W,w⟩
 repeat refine⟨rfl,?_⟩
 conv=>whnf
 apply Qe<;>intro G
 .have hlt:i<len:=by simpa using G
  obtain⟨N,x,vs,I,rfl,V,⟨a',e,z,rfl,K,L⟩,Y,T⟩:=Zd.at H hlt;have E:=P x (mem_of_getElem? I) a' e z K L;refine⟨N,i,⟨rfl,rfl,hlt⟩,_,T 0 _ rfl,Q,E.mono ?_⟩;rintro v U'⟨rfl,rfl⟩-
  conv=>whnf
  apply Qe<;>intro G
  .repeat refine⟨rfl,?_⟩
   conv=>whnf
   exact⟨by rw[Vq I G w],rfl⟩
  .refine⟨I1,?_⟩;refine⟨rfl,i+1,T1,⟨rfl,O1,?_⟩,L1⟩;intro y F;rw[Wm I,mem_append]at F;grind
 .have hge:len<=i:=by simpa using G
  repeat refine⟨rfl,?_⟩
  refine⟨?_,rfl⟩;rw[take_of_length_le O1]at w;rw[Vp w]
theorem Nw(a:Option Addr)(len cap:Nat)(l:List (List Int))(B:Wt U a len l)(z:len<2^60)(g:FuncId)(first e:Array Value)(p:List Int->Bool)
  (F:(prog.funcs[g]?.any λ fd=>fd.body.isSome&&fd.name != "runtime.NumGoroutine")=true)
  (E:∀x∈l,∀a' f w,Z8 U a' f x->f<2^60->Qb S g (first.toList++[Value.slice a' f w]++e.toList).toArray (λ v U'=>v=.bool (p x)/\U'=U) U) :
  Qb S 116 #[.slice a len cap,.func (.func g) first e] (λ v U'=>v=.bool (l.any p)/\U'=U) U:=by
 refine Qb.of (args:=[_,_]) Um Qd S1 ?_;refine⟨UG.any,(RT a len cap l B z g first e p F E).mono ?_⟩;rintro v U'⟨rfl,rfl⟩-
 repeat refine⟨rfl,?_⟩
 refine⟨?_,rfl⟩;show Value.bool _=_;rw[V_]
def RL(P nm:Value)(ag:Value)(gc:Nat)(af:Value)(ga:Option Addr)(gl:Nat)(gs:List (List Int))(hg:Wt U ga gl gs)(I:gl<2^60)(s:Nat->Bool)(Y:∀g∈gs,∀n∈g,0<=n/\n<6)(h:BH)(hH:P=h.v)(c:ByteArray)(hN:nm=.string c)(n:Int)(Z:ag=.int .i64 n)(L:Option Addr)(N M:Nat)(hF:af=.slice L N M) :
  Qb S 82 #[P,.agg #[nm,ag,.slice ga gl gc,af],OC s] (λ v U'=>v=.bool (gs.any λ g=>g.all λ r=>s r.toNat)/\U'=U) U:=by
 subst hH hN Z hF;refine Qb.pure' (Qb.of (args:=[_,_,_]) DJ Qd S1 ?_)
 repeat refine⟨rfl,?_⟩
 conv=>whnf
 intro B3 U1 G aa
 conv=>whnf
 intro Q T H e;have e:Zo T Q #[.string c,.int .i64 n,.slice ga gl gc,.slice L N M]:=e
 conv=>whnf
 intro K V z f;have f:Zo V K (QT s).toArray:=f;have B:=(G.trans H).trans z;refine⟨_,(e.le z).sees3 (o:=2) rfl,Um.any,(Nw ga gl gc gs (hg.lg B.lg) I 117 #[] #[_] (λ g=>g.all λ r=>s r.toNat) Un.any λ x hx a' E w W X=>NS K s f a' E w x W X (Y x hx)).mono ?_⟩;rintro v U'⟨rfl,F⟩-;obtain rfl:=F.symm
 repeat refine⟨rfl,?_⟩
 conv=>whnf
 exact B.lg
end
variable{g:FuncId}{M:Option Addr}
def Ju.sub{o:Nat}(h:Ju U ⟨b,0,none⟩ vs):Ju U ((Addr.mk b 0 none).add o) ((vs.drop o).take n):=by
 intro i v e
 have f:vs[o+i]?=some v:=by
  have w:=(List.getElem?_eq_some_iff.1 e).1;rw[getElem?_take]at e;split at e
  .rwa [getElem?_drop]at e
  .cases e
 have:=h (o+i) v f;rw[Qu]at this ⊢;rw[Qu]
 simp_all
def WS(X:List Q2)(w:U.M=X++.obj b (.cells c e (0,0))::M₀)(z:i<c.size)(B:v.single=true)
  (h:∀f:Qa T,f.I=U.I->f.tok=U.tok->f.M=X++.obj b (.cells (c.setIfInBounds i v) e (0,0))::M₀->Q f):ZG ((Addr.mk b 0 none).add i) [v] 0 (λ U'=>∃f,Q1 U' f/\Q f) U:=
 PO X w z B (h _ rfl rfl rfl)
def Wk(X:List Q2)(z:U.M=X++.obj b (.cells c e (0,0))::M₀)(w:c.size=vs.length)(B:∀v∈vs,v.single=true)
  (h:∀f:Qa T,f.I=U.I->f.tok=U.tok->f.M=X++.obj b (.cells vs.toArray e (0,0))::M₀->Q f):ZG ⟨b,0,none⟩ vs 0 (λ U'=>∃f,Q1 U' f/\Q f) U:=
 K9 X z w B (h _ rfl rfl rfl)
def Qb.out{R:Value->Nat->Obj->Prop}(h:Qb q g c (λ v U'=>∃b o A,R v b o/\U'.M=.obj b o::(A++U.M)/\(∀x B,U.I x=some B->U'.I x=some B)/\U'.tok=U.tok) U) :
  Qb q g c (λ v U'=>∃b o,R v b o/\U'.I b=some o/\U.le U') U:=by
 refine h.sep λ v U' G⟨b,o,A,e,z,F,H⟩=>?_;have E:Q1 U' { U' with M:=.obj b o::U.M }:=Z2 (by simp_all)
 have w:JT { U' with M:=.obj b o::U.M }:=λ r e=>G r (by grind)
 obtain⟨U'',K,L,N⟩:=D5 (U':={ U' with M:=.obj b o::U.M }) w rfl F rfl H;exact⟨U'',E.trans K,b,o,e,N,L⟩
abbrev HY(a:Option Addr)(len cap:Nat)(s:Nat->Bool)(w:Nat):Value:=.agg #[.slice a len cap,.bool (s 0),.bool (s 1),.bool (s 2),.bool (s 3),.bool (s 4),.bool (s 5),.int .i64 w]
def QZ(v:Value)(s:Nat->Bool)(w:Nat):List Value:=[v,.bool (s 0),.bool (s 1),.bool (s 2),.bool (s 3),.bool (s 4),.bool (s 5),.int .i64 w]
def Fs(v:Value)(s:Nat->Bool)(w:Nat)(h:j<6)(u:Bool):(QZ v s w).toArray.setIfInBounds (1+j) (.bool u)=(QZ v (Hz s j u) w).toArray:=by
 rcases Gg h with rfl|rfl|rfl|rfl|rfl|rfl <;> rfl
def Hu(U:Qa T)(v:Value)(o:List Nat)(x:List Bool×List Bool):Prop:=∃a cap,v=HY a o.length cap (W8 x.1) (J4 x.2)/\Z8 U a o.length (o.map λ(k:Nat)=>(k:Int))/\o.length<=cap/\∀e,a=some e->e.spot=none
def Hu.lg{U':Qa T}{v:Value}{o:List Nat}{x:List Bool×List Bool}(h:Hu U v o x)(k:U.lg U'):Hu U' v o x:=let ⟨a,c,e,h1,h2⟩:=h;⟨a,c,e,h1.lg k,h2⟩
def Z8.src'(h:Z8 U M len l):Src U M (l.map λ n=>.int .i64 n):=by
 cases l with
 |nil=>
  cases M with
  |none=>exact .inl ⟨rfl,rfl⟩
  |some w=>exact .inr ⟨w,rfl,λ i v f=>by simp at f⟩
 |cons x l=>
  obtain⟨w,e,G,_⟩:=h.2 0 x rfl;refine .inr ⟨w,e,λ i v f=>?_⟩;rw[getElem?_map]at f;cases z:(x::l)[i]? with
  |none=>rw[z]at f;cases f
  |some y=>
   rw[z]at f;cases f;obtain⟨E,e',B,F⟩:=h.2 i y z;simp_all
section
attribute [local irreducible] Qb Zr W5
def TY(h:BH)(b:Bk)(hb:Zu U h b)(ah:b.Ok)(a:Option Addr)(cap:Nat)(o:List Nat)(x:List Bool×List Bool)(ho:Z8 U a o.length (o.map λ(k:Nat)=>(k:Int)))(bs:∀ad,a=some ad->ad.spot=none)(a2:o.length<=cap)(h5:o.length<=5)
  (h1:x.1.length=b.rs.length) (h2:x.2.length=b.cs.length) (i:Nat) (hi:i<b.cs.length) :
  Qb S 50 #[h.v,HY a o.length cap (W8 x.1) (J4 x.2),.int .i64 i] (λ v U'=>Hu U'.frz v (o++[i]) (b.stp x i)/\U.le U') U:=by
 have bz:=hb.cs.1;have b8:=hb.rs.1;have b3:=ah.nc;have b5:=ah.nr
 let R:Value->Nat->Obj->Prop:=λ v B O=>∃(cp:Nat)(c:Array Value),v=HY (some ⟨B,0,none⟩) (o.length+1) cp (W8 (b.stp x i).1) (J4 (b.stp x i).2)/\O=.cells c 3 (0,0)/\o.length+1<=cp/\∀(k:Nat)(u:Value),((o++[i]).map λ(k:Nat)=>Value.int .i64 (k:Int))[k]?=some u->c[k]?=some u
 have be:Qb S 50 #[h.v,HY a o.length cap (W8 x.1) (J4 x.2),.int .i64 i] (λ v U'=>∃B O A,R v B O/\U'.M=.obj B O::(A++U.M)/\(∀y E,U.I y=some E->U'.I y=some E)/\U'.tok=U.tok) U:=by
  refine Qb.of (args:=[_,_,_]) Yv Qd S1 ?_;obtain⟨c,ao⟩:∃c,b.cs[i]?=some c:=⟨_,getElem?_eq_getElem hi⟩;have a3:b.cas i=c:=by simp[Bk.cas,getD_eq_getElem?_getD,ao]
  have a4:=mem_of_getElem? ao;have bh:=ah.ag c a4;have bo:=ah.gs c a4;have bt:J4 x.2<2^5:=YX _ O1;have bd:J4 x.2<2^60:=Nat.lt_trans bt D1
  have h6:∀g∈c.gs,∀n∈g,0<=n/\n<6:=λ g hg n hn=>by
   have:=(bo g hg).2 n hn;unfold Bk.nr at this;omega
  have K:c.ag.toNat<6/\c.ag=(c.ag.toNat:Int)/\c.ag.toNat<x.1.length:=by unfold Bk.nr at bh;omega
  obtain⟨ce,-,a6,-⟩:=Hc.i
  have Q:b.stp x i=if(c.gs.any λ g=>g.all λ r=>W8 x.1 r.toNat)then(x.1.set c.ag.toNat false,x.2.set i true)else x:=by
   unfold Bk.stp EH;rw[a3];rfl
  repeat refine⟨rfl,?_⟩
  conv=>whnf
  intro B T G hB;have hB:=Zz4 h hB
  conv=>whnf
  intro b4 b0
  conv=>whnf
  intro b6 b1;refine⟨_,.refl _,?_⟩
  let L:List Value:=QZ (.slice a o.length cap) (W8 x.1) (J4 x.2)
  have hM:((T.put b4 (.cells L.toArray 90)).put b6 (.cells #[.nl,.bool false,.bool false,.bool false,.bool false,.bool false,.bool false,.int .i64 0] 90)).M=[.obj b6 (.cells #[.nl,.bool false,.bool false,.bool false,.bool false,.bool false,.bool false,.int .i64 0] 90 (0,0))]++.obj b4 (.cells L.toArray 90 (0,0))::T.M:=rfl;have bq:=Ze [_] hM;have au:=bq.cell (i:=0) (v:=.slice a o.length cap) rfl;refine⟨_,au,_,au,_,au,?_⟩
  conv=>whnf
  refine CD Pr a6 rfl rfl rfl a2 bs ?_
  conv=>whnf
  intro bf a5;refine Zm a5 λ U2 am Y=>?_;have Y:Zo U2 bf #[.int .i64 i]:=Y;have ap:U.lg U2:=G.lg.trans ((Z6 b4 _).trans ((Z6 b6 _).trans am.lg));have f:T.lg U2:=(Z6 b4 _).trans ((Z6 b6 _).trans am.lg);have ay:U2.M=_:=am.own.trans hM
  conv=>whnf
  refine Em (cs:=(o.map λ(k:Nat)=>(k:Int)).map λ n=>.int .i64 n) (new:=[.int .i64 i]) Hc rfl rfl (Z8.src' (ho.lg ap)) S1 (.inr ⟨_,rfl,Y.rd⟩) rfl S3 (λ h0=>by cases h0) (λ _ bn cn F b2 a7 b9 bj=>?_)
  let L1:List Value:=QZ (.slice (some ⟨bn,0,none⟩) (o.length+1) F) (W8 x.1) (J4 x.2)
  have az:(U2.put bn (.cells cn 3)).M=[.obj bn (.cells cn 3 (0,0)),.obj b6 (.cells #[.nl,.bool false,.bool false,.bool false,.bool false,.bool false,.bool false,.int .i64 0] 90 (0,0))]++.obj b4 (.cells L.toArray 90 (0,0))::T.M:=by
   show _::U2.M=_;rw[ay];rfl
  obtain⟨ad,c',ga,gl,gc,aa,al,ac,bu,bk,bw,a8,hg,bm,ha,bx,bv⟩:=(hb.lg G.lg).case (show i<h.cl by omega);obtain rfl:c=c':=Option.some.inj (ao.symm.trans bu);refine⟨rfl,PO (i:=0) [_,_] az (by show 0<8;omega) rfl ?_⟩;refine⟨_,Qa.sees.lg (hB.sees3 (o:=1) rfl) ⟨f.imm,⟨[_,_,_],rfl⟩,f.tok⟩,ad,i,⟨bk,rfl,O1⟩,_,⟨rfl,a8.lg ⟨f.imm,⟨[_,_,_],rfl⟩,f.tok⟩⟩,?_⟩
  conv=>whnf
  intro b7 bl;refine⟨_,.refl _,rfl,Zy (vs:=[.string c.nm,.int .i64 c.ag,.slice ga gl gc,.slice aa al ac]) bl rfl (by simp[Value.single]) λ U3 an N=>?_⟩;have ae:U3.M=[.obj bn (.cells cn 3 (0,0)),.obj b6 (.cells #[.nl,.bool false,.bool false,.bool false,.bool false,.bool false,.bool false,.int .i64 0] 90 (0,0))]++.obj b4 (.cells L1.toArray 90 (0,0))::T.M:=an.own;have V:∀y E,T.I y=some E->U3.I y=some E:=λ y E H=>an.imm y E (f.imm y E H);have ab:U3.tok=T.tok:=an.tok.trans f.tok;have P:T.lg U3:=⟨V,⟨[_,_,_],ae⟩,ab⟩;have Z:=Ze [_,_] ae;refine⟨_,⟨rfl,(hB.lg P).rd⟩,?_⟩;refine⟨_,⟨rfl,N.rd⟩,?_⟩;refine⟨QT (W8 x.1),⟨rfl,Z.sub (o:=1) (n:=6)⟩,DJ.any,(RL _ _ _ gc _ ga gl c.gs (hg.lg P) bm (W8 x.1) h6 h rfl c.nm rfl c.ag rfl aa al ac rfl).mono ?_⟩;rintro v U'⟨rfl,bg⟩-;obtain rfl:=bg.symm
  have done:∀s w,b.stp x i=(s,w)->R (HY (some ⟨bn,0,none⟩) (o.length+1) F (W8 s) (J4 w)) bn (.cells cn 3 (0,0)):=λ s w e=>
   ⟨F,cn,by rw[e],rfl,a7,λ k u hu=>bj k u (by simpa[Function.comp_def]using hu)⟩
  cases ak:(c.gs.any λ g=>g.all λ r=>W8 x.1 r.toNat)with
  |true=>
   rw[ak,if_pos rfl]at Q;have br:=Ke (show i<60 by omega);refine⟨_,Z.cell (i:=7) rfl,O1,?_⟩
   conv=>whnf
   intro U5 af _;have a0:=af.own.trans ae;have av:∀y E,T.I y=some E->U5.I y=some E:=λ y E H=>af.imm y E (V y E H);have a9:U5.tok=T.tok:=af.tok.trans ab;have N:=N.le af;have key:J4 x.2||| (1<<<i)=J4 (x.2.set i true):=(Mg x.2 i O1).symm
   have e2:IntKind.wrap .i64 ((BitVec.ofInt (IntKind.bits .i64) ((J4 x.2:Nat):Int)||| BitVec.ofInt (IntKind.bits .i64) (IntKind.wrap .i64 ((1:Int)*2^(min ((i:Int).toNat) (IntKind.bits .i64))))).toNat:Int)=((J4 (x.2.set i true):Nat):Int):=by
    rw[br,Kv bd (Pa O1),key]
   refine⟨rfl,rfl,?_⟩;rw[e2];refine WS (i:=7) (v:=.int .i64 (J4 (x.2.set i true):Nat)) [_,_] a0 (by show 7<8;omega) rfl λ U6 ai ba W=>?_;have W:U6.M=[_,_]++.obj b4 (.cells (QZ (.slice (some ⟨bn,0,none⟩) (o.length+1) F) (W8 x.1) (J4 (x.2.set i true))).toArray 90 (0,0))::T.M:=W;have a1:Zo U6 b7 #[.string c.nm,.int .i64 c.ag,.slice ga gl gc,.slice aa al ac]:=N.imI λ y E H=>by rw[ai];exact H
   refine⟨_,a1.sees3 (o:=1) rfl,c.ag.toNat,⟨K.2.1,K.1⟩,rfl,?_⟩;rw[show((Addr.mk b4 0 none).add 1).add (c.ag.toNat*1)=(Addr.mk b4 0 none).add (1+c.ag.toNat) by rw[Qu,Qu,Qu,Nat.mul_one,Nat.zero_add,Nat.zero_add]];refine WS (i:=1+c.ag.toNat) (v:=.bool false) [_,_] W (by show 1+c.ag.toNat<8;omega) rfl λ U7 aw bb X=>?_;rw[Fs _ _ _ K.1,Nr _ _ _ K.2.2]at X;have aq:=Ze [_,_] X;refine⟨_,⟨rfl,aq⟩,rfl,Wk (vs:=QZ (.slice (some ⟨bn,0,none⟩) (o.length+1) F) (W8 (x.1.set c.ag.toNat false)) (J4 (x.2.set i true))) [_] X rfl (by simp[QZ,Value.single]) λ U8 ax bc aj=>?_⟩;refine⟨_,⟨rfl,Ze [_] aj⟩,?_⟩
   conv=>whnf
   exact⟨bn,_,[_,_],done _ _ Q,by rw[aj,<- G.own];rfl,λ y E H=>by rw[ax,aw,ai];exact av y E (G.imm y E H),by rw[bc,bb,ba,a9];exact G.tok⟩
  |false=>
   rw[ak]at Q;refine⟨_,⟨rfl,Z⟩,rfl,K9 (vs:=L1) [_] ae rfl (by simp[L1,QZ,Value.single]) ?_⟩;refine⟨_,⟨rfl,Ze [_] rfl⟩,?_⟩
   conv=>whnf
   exact⟨bn,_,[_,_],done x.1 x.2 Q,by show _=_;rw[<- G.own];rfl,λ y E H=>V y E (G.imm y E H),ab.trans G.tok⟩
 refine(Qb.out (R:=R) be).mono ?_;rintro v U'⟨B,O,⟨cp,c,rfl,rfl,h3,h4⟩,hB,bp⟩;refine⟨⟨some ⟨B,0,none⟩,cp,S1,?_,by simpa using h3,by rintro _⟨⟩;rfl⟩,bp⟩;have bi:Zo U'.frz B c:=⟨3,(0,0),hB⟩;refine⟨S1,λ k y H=>⟨_,rfl,rfl,?_⟩⟩;rw[Nat.mul_one,Qu];refine bi.sees ?_;grind
end
variable{dets:List Nat}{params:Array Tmp}{sa Y:C}{β:Zh T}{δ:Nat->Zh T}{ds:List Deferred}{first:Array Value}
def Ey(S:Sys P T)(l n:Nat)(R:Nat->List Value->Qa T->Prop)(I:Nat->Qa T->Prop)(E:Qa T->Prop):Prop:=
 ∀(k:Nat)(p:List Value)(f:Qa T)(K:Value->Qa T->Prop),k<n->R k p f.frz->I k f->(∀e,f.frz.lg e->I (k+1) e->K (.bool true) e)->(∀e,E e->K (.bool false) e)->Zr S l p K f
def Kg(S:Sys P T)(g:FuncId)(args:Array Value)(l n:Nat)(R:Nat->List Value->Qa T->Prop)(U:Qa T):Prop:=
 ∀(I:Nat->Qa T->Prop)(E:Qa T->Prop),(∀k e f,e.le f->I k e->I k f)->Ey S l n R I E->I 0 U->Qb S g args (λ _ U'=>I n U'\/E U') U
def Db(hm:P.follows .mixedOrders=true){c:Operand}{r:Zh T}
  (len:Nat) (R:Nat->List Value->Qa T->Prop) (Inv:Nat->Qa T->Prop) (X:Nat->Qa T->Prop) (W:Qa T->Prop)
  (hc:Zc f c=.func (.func g) first cs) (hp:params.toList.all (λ t=>decide (t<j))=true) (hg:(P.funcs[g]?.any λ fd=>fd.body.isSome&&fd.name != "runtime.NumGoroutine")=true)
  (aa:∀l F,U.frz.lg F->Kg q g (first.toList++[Value.func (.yield l) #[] #[]]++cs.toList).toArray l len R F)
  (Q:∀k p U,R k p U->p.length=params.size) (ab:∀k F L,F.le L->Inv k F->Inv k L) (h0:Inv 0 U)
  (H:∀(l:Nat)(A B D:Q2)(k:Nat)(p:List Value)(U₀:Qa T)(KN:Zh T)(KX:Nat->Zh T)(KR KA:Zh T),k<len->R k p U₀.frz->Inv k U₀ ->
   (∀w z e,U₀.frz.lg e->Inv (k+1) e->KN w z (e.on B D))->(∀i w z e,X i e->KX i w z (e.on B D))->(∀w z e,W e->KR w z (e.on B D)) ->
   (∀w(F:Qa T),JM q b (some l) Y KN KX KR w [] (F.on B D)->KA w [] (F.on A D)) ->
   JM q b (some l) sa KA (λ _ _ _ _=>False) (λ _ _ _=>False) (G7 f params.toList p) [] (U₀.on A D))
  (hn:∀(d l:Nat)(A:Obj)e,Inv len e->β f (⟨.collected d,#[]⟩::ds) (e.on (.obj l A) (.obj d (.deferred (some [])))))
  (hx:∀(d l:Nat)(A:Obj)i e,X i e->δ i f (⟨.collected d,#[]⟩::ds) (e.on (.obj l A) (.obj d (.deferred (some [])))))
  (hr:∀(d l:Nat)(A:Obj)e,W e->r f (⟨.collected d,#[]⟩::ds) (e.on (.obj l A) (.obj d (.deferred (some []))))) :
  W5 q b none j mu dets c params sa Y β δ r f ds U:=by
 show JM q b none (.rng j mu dets c params sa Y) β δ r f ds U;refine N2 hm hc hp hg λ l d lo hd hl ac hR=>?_
 let D:Q2:=.obj d (.deferred (some []))
 let I:Nat->Qa T->Prop:=λ k F=>∃U₀,Inv k U₀/\F=U₀.on (.obj l (lo .ready none)) D
 let E:Qa T->Prop:=λ F=>∃U₀,(∃i,X i U₀/\F=U₀.on (.obj l (lo .done (some (.exit i)))) D)\/(W U₀/\F=U₀.on (.obj l (lo .done (some .ret))) D)
 have Z:U.frz.lg (U.on (.obj l (lo .ready none)) D):=⟨λ _ _ h=>h,Zz3,rfl⟩;refine(aa l _ Z I E ?_ ?_ ⟨U,h0,rfl⟩).mono ?_
 .rintro k _ L hle' ⟨U₀,hI,rfl⟩;refine⟨{ L with M:=U₀.M },ab k U₀ _ ⟨hle'.imm,rfl,hle'.tok⟩ hI,?_⟩;obtain⟨ad,ae,af⟩:=L;have:=hle'.own;grind[Qa.on]
 .rintro k p _ K hk hRk ⟨U₀,hI,rfl⟩ hK1 hK2;refine hR p K _ (Q k p _ hRk) (mem_cons_self ..) ?_;refine H l _ (.obj l (lo .busy none)) D k p U₀ _ _ _ _ hk hRk hI (λ w z e V h=>?_) (λ i w z e h=>?_) (λ w z e h=>?_) (λ w F h=>⟨rfl,_,.here,h⟩)
  .exact⟨_,.here,hK1 _ ⟨V.imm,Zz3,V.tok⟩ ⟨e,h,rfl⟩⟩
  .exact⟨_,.here,hK2 _ ⟨e,.inl ⟨i,h,rfl⟩⟩⟩
  .exact⟨_,.here,hK2 _ ⟨e,.inr ⟨h,rfl⟩⟩⟩
 .rintro v e (⟨U₀,hI,rfl⟩|⟨U₀,⟨i,hX,rfl⟩|⟨hR',rfl⟩⟩) -
  .exact⟨.ready,none,_,S1,.here,hn d l _ U₀ hI⟩
  .exact⟨.done,some (.exit i),_,S1,.here,hx d l _ i U₀ hX⟩
  .exact⟨.done,some .ret,_,S1,.here,hr d l _ U₀ hR'⟩
def Bk.ords_succ(b:Bk)(k:Nat)(o:List Nat):b.ords (k+1) o=(range b.cs.length).flatMap λ i=>if b.can o i then b.ords k (o++[i])else[]:=rfl
def Bk.ordsTo(b:Bk)(k:Nat)(o:List Nat)(m:Nat):List (List Nat):=(range m).flatMap λ i=>if b.can o i then b.ords k (o++[i])else[]
def Bk.ordsTo_succ(b:Bk)(k:Nat)(o:List Nat)(m:Nat):b.ordsTo k o (m+1)=b.ordsTo k o m++(if b.can o m then b.ords k (o++[m])else[]):=by
 simp[Bk.ordsTo,range_succ]
def Bk.ordsTo_le(b:Bk)(k:Nat)(o:List Nat)(h:m<=b.cs.length):∃r,b.ords (k+1) o=b.ordsTo k o m++r:=by
 refine⟨((range (b.cs.length-m)).map (m+·)).flatMap λ i=>if b.can o i then b.ords k (o++[i])else[],?_⟩;rw[Bk.ords_succ,Bk.ordsTo,<- flatMap_append];congr 1;rw[<- range_add];congr 1;omega
structure Bk.Run(b:Bk)(o:List Nat):Prop where
 low:∀i∈o,i<b.cs.length
 len:o.length<=b.cs.length
def Bk.ends_len(b:Bk):∀(o:List Nat),(b.ends o).1.length=b.rs.length/\(b.ends o).2.length=b.cs.length:=by
 intro o
 have key:∀(o:List Nat)(x:List Bool×List Bool),x.1.length=b.rs.length->x.2.length=b.cs.length->(o.foldl b.stp x).1.length=b.rs.length/\(o.foldl b.stp x).2.length=b.cs.length:=by
  intro o
  induction o with
  |nil=>simp_all
  |cons i o w=>
   intro x e f;refine w _ ?_ ?_ <;> unfold Bk.stp <;> split <;> simp[e,f]
 exact key o b.ini (by simp[Bk.ini]) (by simp[Bk.ini])
def Ye(o:List Nat):Ja ((o.map λ(k:Nat)=>(k:Int)).map Int.toNat)=Ja o:=by
 congr 1;rw[map_map]
 conv=>rhs;rw[<- map_id o]
 exact map_congr_left λ k _=>S1
structure GU(U:Qa T)(h:BH)(l B b2 b3:Nat):Prop where
 bk:Zo U B #[.slice h.ra h.rl h.rc,.slice h.ca h.cl h.cc]
 yl:Zo U b2 #[.func (.yield l) #[] #[]]
 nx:Zo U b3 #[.func (.func 85) #[] #[.pb B,.pb b2,.pb b3]]
def GU.lg{U':Qa T}{h:BH}{l B f w:Nat}(k:GU U h l B f w)(e:U.frz.lg U'):GU U' h l B f w:=⟨k.bk.imI e.imm,k.yl.imI e.imm,k.nx.imI e.imm⟩
def G5(b:Bk)(k:Nat)(p:List Value)(U:Qa T):Prop:=∃o v,b.all[k]?=some o/\p=[v]/\Hu U v o (b.ends o)
variable{I:Nat->Qa T->Prop}{E:Qa T->Prop}
section
attribute [local irreducible] Qb Zr W5
def R_(h:BH)(b:Bk)(aq:b.Ok){B b2 b3:Nat}(am:∀k V U2,V.le U2->I k V->I k U2)(bd:Ey S len b.all.length (G5 b) I E) :
  ∀(k:Nat)(o:List Nat)(j:Nat)(U:Qa T)(v:Value),o.length+k=b.cs.length->(∀i∈o,i<b.cs.length)->Zu U.frz h b->GU U h len B b2 b3->Hu U.frz v o (b.ends o)->(∀(i:Nat)q,(b.ords k o)[i]?=some q->b.all[j+i]?=some q)->I j U ->
   Qb S 85 #[v,.pb B,.pb b2,.pb b3] (λ v' U'=>(v'=.bool true/\I (j+(b.ords k o).length) U'/\U.frz.lg U')\/(v'=.bool false/\E U')) U:=by
 intro k
 induction k with
 |zero=>
  rintro o j U _ a1 Q hb hn⟨a,cap,rfl,ho,ab,au⟩X hI;have a9:=hb.cs.1;refine Qb.of (args:=[_,_,_,_]) VM Qd S1 ?_
  repeat refine⟨rfl,?_⟩
  conv=>whnf
  intro b4 V L F;have F:Zo V b4 (QZ (.slice a o.length cap) (W8 (b.ends o).1) (J4 (b.ends o).2)).toArray:=F;have z:=hn.lg L.lg.frz;refine⟨_,F.sees3 (o:=0) rfl,_,z.bk.sees3 (o:=1) rfl,?_⟩
  repeat refine⟨rfl,?_⟩
  conv=>whnf
  apply Qe<;>intro W
  .refine⟨_,z.yl.sees3 (o:=0) rfl,_,⟨rfl,F.reads (vs:=QZ (.slice a o.length cap) (W8 (b.ends o).1) (J4 (b.ends o).2)) (λ k v hv=>by simpa using hv)⟩,?_⟩
   conv=>whnf
   have av:=X 0 o rfl;refine bd j _ _ _ (List.getElem?_eq_some_iff.1 av).1 ⟨o,_,av,rfl,a,cap,rfl,ho.lg L.lg.frz2,ab,au⟩ (am _ _ _ L hI) (λ U2 ah K=>?_) (λ U2 hE=>?_)
   .repeat refine⟨rfl,?_⟩
    conv=>whnf
    exact .inl ⟨rfl,K,L.lg.frz2.trans ah⟩
   .repeat refine⟨rfl,?_⟩
    conv=>whnf
    simp_all
  .simp at W;omega
 |succ k ih=>
  rintro o j U _ a1 Q hb hn⟨a,cap,rfl,ho,ab,au⟩X hI;have a9:=hb.cs.1;have bf:=aq.nc;have a3:Ja o<2^60:=Hi λ x hx=>by grind
  have a5:∀n∈o.map (λ(k:Nat)=>(k:Int)),0<=n/\n<60:=by
   intro n hn;obtain⟨k,hk,rfl⟩:=mem_map.1 hn;have:=Q k hk;omega
  refine Qb.of (args:=[_,_,_,_]) VM Qd S1 ?_
  repeat refine⟨rfl,?_⟩
  conv=>whnf
  intro b4 V L F;have F:Zo V b4 (QZ (.slice a o.length cap) (W8 (b.ends o).1) (J4 (b.ends o).2)).toArray:=F;have G:=L.lg.frz2;have z:=hn.lg L.lg.frz;refine⟨_,F.sees3 (o:=0) rfl,_,z.bk.sees3 (o:=1) rfl,?_⟩
  repeat refine⟨rfl,?_⟩
  conv=>whnf
  apply Qe<;>intro W
  .simp at W;omega
  clear W;have Z:=Jf (S:=S) a o.length cap _ ((ho.lg G).lg Qy) O1 a5;rw[Ye]at Z;refine⟨_,F.sees3 (o:=0) rfl,XW.any,Z.go λ _=>?_⟩;refine⟨_,z.bk.sees3 (o:=1) rfl,Nat,λ m=>[(1,.pb B),(2,.pb b2),(3,.pb b3),(4,.pb b4),(6,.int .i64 (Ja o:Nat)),(25,.slice h.ca h.cl h.cc),(26,.int .i64 h.cl),(27,.int .i64 m)],
   λ m U'=>V.frz.lg U'/\m<=h.cl/\I (j+(b.ordsTo k o m).length) U',λ m=>h.cl-m,0,T1,⟨Qy,O1,am _ _ _ L hI⟩,?_⟩
  rintro m f U2⟨ah,hm,K⟩;have ao:Je ((m:Int)+1):=I1
  have H:=b.ordsTo_succ k o m
  repeat refine⟨rfl,?_⟩
  conv=>whnf
  apply Qe<;>intro W
  .have hmt:m<h.cl:=by simpa using W
   obtain⟨ad,c,ga,gl,gc,aa,al,ac,hx,ba,be,bc,-,-,ha,a6,a2⟩:=(hb.lg (G.trans ah)).case hmt;have a7:=Bk.aft1_at hx;have N:=aq.toLow.lt a2;have M:b.can o m=(!o.contains m&&(Jd b.A m).all λ k=>o.contains k):=rfl;refine⟨ad,m,⟨ba,rfl,hmt⟩,_,⟨rfl,bc⟩,?_⟩
   conv=>whnf
   intro b8 bb;refine⟨_,.refl _,rfl,Zy (vs:=[.string c.nm,.int .i64 c.ag,.slice ga gl gc,.slice aa al ac]) bb rfl (by simp[Value.single]) λ U3 ai az=>?_⟩;have w:V.frz.lg U3:=ah.trans ai.lg
   have skip:b.can o m=false->I (j+(b.ordsTo k o (m+1)).length) U3:=λ e=>by
    grind
   have Y:=HU a3 (show m<60 by omega);rw[W3]at Y;refine⟨O1,?_⟩
   repeat refine⟨rfl,?_⟩
   conv=>whnf
   apply Jb<;>intro W
   .have hno:o.contains m=false:=Y.symm.trans W;rw[hno]at M;have aj:=Jf (S:=S) aa al ac c.af (ha.lg ai.lg) a6 N;have a8:Ja (c.af.map Int.toNat)<2^60:=Hi (toNat_lt N);have key:_↔(Jd b.A m).all (λ k=>(Ja o).testBit k)=true:=(YL a8 a3).trans ((YK N).trans (by rw[a7]))
    have a4:(Jd b.A m).all (λ k=>(Ja o).testBit k)=(Jd b.A m).all λ k=>o.contains k:=by
     congr 1;funext k;exact W3 o k
    rw[a4]at key;refine⟨_,az.sees3 (o:=3) rfl,XW.any,aj.go λ _=>?_⟩
    repeat refine⟨rfl,?_⟩
    conv=>whnf
    apply Qe<;>intro W
    .have hno2:b.can o m=false:=by
      rw[M];cases hh:(Jd b.A m).all (λ k=>o.contains k)with
      |false=>rfl
      |true=>exact absurd (key.2 hh) (bne_iff_ne.1 W)
     refine⟨ao,?_⟩
     conv=>whnf
     exact⟨rfl,m+1,T1,⟨w,O1,skip hno2⟩,L1⟩
    .have hyes:b.can o m=true:=by
      rw[M];have:(Jd b.A m).all (λ k=>o.contains k)=true:=key.1 (bne_eq_false_iff_eq.1 W);rw[this];rfl
     rw[hyes,if_pos rfl]at H;have an:=z.lg w;have ay:=F.imI w.imm;have ae:=b.ends_len o;refine⟨_,an.nx.sees3 (o:=0) rfl,_,⟨rfl,an.bk.rd⟩,?_⟩;refine⟨_,⟨rfl,ay.reads (vs:=QZ (.slice a o.length cap) (W8 (b.ends o).1) (J4 (b.ends o).2)) (λ k v hv=>by simpa using hv)⟩,?_⟩;refine⟨λ v U'=>Hu U'.frz v (o++[m]) (b.ends (o++[m])),λ v V U2 hv ak=>hv.lg ak.lg.frz2,λ U' ak hC=>?_,λ v hv=>?_⟩
     .refine⟨Yv.any,(TY h b (hb.lg ((G.trans w).trans ak.lg)) aq a cap o (b.ends o) (ho.lg ((G.trans w).trans ak.lg)) au ab O1 ae.1 ae.2 m O1).mono ?_⟩;rintro v U''⟨hv,a0⟩-;exact⟨U'',.refl _,by rw[b.ends_snoc];exact hv,a0⟩
     obtain⟨_,-,-,a',c',rfl,-⟩:=hv
     conv=>whnf
     intro U4 ax hC;obtain⟨-,hv⟩:=hC;have P:V.frz.lg U4:=w.trans ax.lg;obtain⟨r,hr⟩:=b.ordsTo_le k o (show m+1<=b.cs.length by omega);rw[H]at hr
     refine⟨VM.any,(ih (o++[m]) (j+(b.ordsTo k o m).length) U4 _ S3 (λ i hi=>by
      rcases mem_append.1 hi with hi|hi
      .exact Q i hi
      .rw[mem_singleton.1 hi];omega) (hb.lg (G.trans (show V.frz.lg U4.frz from P.frz2))) (z.lg P) hv (λ i q hq=>by
       rw[Nat.add_assoc];refine X _ q ?_;rw[hr,append_assoc,getElem?_append_right O1,Nat.add_sub_cancel_left,getElem?_append_left (List.getElem?_eq_some_iff.1 hq).1];exact hq) (am _ _ _ (ai.trans ax) K)).mono ?_⟩
     rintro v' U5 (⟨rfl,aw,ap⟩|⟨rfl,hE⟩) -
     .have hlg5:V.frz.lg U5:=(show V.frz.lg U4.frz from P.frz2).trans ap
      repeat refine⟨rfl,?_⟩
      refine⟨ao,?_⟩
      conv=>whnf
      exact⟨rfl,m+1,T1,⟨hlg5,O1,by rw[H,length_append,<- Nat.add_assoc];exact aw⟩,L1⟩
     .repeat refine⟨rfl,?_⟩
      conv=>whnf
      exact .inr ⟨rfl,hE⟩
   .have hyes:o.contains m=true:=Y.symm.trans W;rw[hyes]at M
    repeat refine⟨rfl,?_⟩
    refine⟨ao,?_⟩
    conv=>whnf
    exact⟨rfl,m+1,T1,⟨w,O1,skip M⟩,L1⟩
  .have hge:m=b.cs.length:=by simp at W;omega
   subst hge
   repeat refine⟨rfl,?_⟩
   conv=>whnf
   exact .inl ⟨rfl,K,G.trans ah⟩
def TN(h:BH)(b:Bk)(Z:Zu U.frz h b)(K:b.Ok)(hB:Zo U j #[.slice h.ra h.rl h.rc,.slice h.ca h.cl h.cc]) :
  Kg S 84 #[.func (.yield n) #[] #[],.pb j] n b.all.length (G5 b) U:=by
 intro I E L V h0;refine Qb.of (args:=[_,_]) YJ Qd S1 ?_
 conv=>whnf
 intro M U1 N w;have w:Zo U1 M #[.func (.yield n) #[] #[]]:=w
 conv=>whnf
 intro Y Q;refine⟨_,.refl _,rfl,Zy (vs:=[.func (.func 85) #[] #[.pb j,.pb M,.pb Y]]) Q rfl (by simp[Value.single]) λ U2 F P=>?_⟩;have z:=N.trans F;have T:GU U2 h n j M Y:=⟨hB.le z,w.le F,P⟩;refine⟨_,T.nx.sees3 (o:=0) rfl,_,⟨rfl,T.bk.rd⟩,?_⟩;refine⟨OC (W8 b.ini.1),λ U' H _=>?_,?_⟩
 .refine⟨Yu.any,(Sm h b ((Z.lg (z.trans H).lg.frz2).lg Qy) K.nr).mono ?_⟩;rintro _ U''⟨rfl,hU⟩-;exact⟨rfl,_,.refl _,hU▸.refl _⟩
 conv=>whnf
 intro X G _;have f:=z.trans G;have W:J4 b.ini.2=0:=Dl _;have hv:Hu X.frz (HY none 0 0 (W8 b.ini.1) 0) [] (b.ends []):=⟨none,0,by show _=HY none 0 0 (W8 b.ini.1) (J4 b.ini.2);rw[W],⟨rfl,λ i x hx=>by simp at hx⟩,Nat.le_refl _,S1⟩;refine⟨VM.any,(R_ h b K L V b.cs.length [] 0 X _ S1 S1 (Z.lg f.lg.frz2) (T.lg G.lg.frz) hv (λ i q hq=>by rw[Nat.zero_add];exact hq) (L _ _ _ f h0)).mono ?_⟩;rintro v' U4 (⟨rfl,e,-⟩|⟨rfl,hE⟩) -
 .repeat refine⟨rfl,?_⟩
  conv=>whnf
  exact .inl (by rw[Nat.zero_add]at e;exact e)
 .repeat refine⟨rfl,?_⟩
  conv=>whnf
  exact .inr hE
def Sf(h:BH)(b:Bk)(z:Zu U h b):Qb S 53 #[h.v] (λ v U'=>(∃B,v=.func (.func 84) #[] #[.pb B]/\Zo U' B #[.slice h.ra h.rl h.rc,.slice h.ca h.cl h.cc])/\U.le U') U:=by
 refine Qb.of (args:=[_]) YC Qd S1 ?_
 repeat refine⟨rfl,?_⟩
 conv=>whnf
 intro B w e f
 repeat refine⟨rfl,?_⟩
 conv=>whnf
 simp_all
def Sq(a n:Nat):Qb S 83 #[.int .i64 a,.int .i64 n] (λ v U'=>v=.int .i64 (WC a n)/\U'=U) U:=by
 refine Qb.of (args:=[_,_]) YI Qd S1 ?_
 repeat refine⟨rfl,?_⟩
 conv=>whnf
 apply Qe<;>intro f
 .have e:a=n:=by simp at f;omega
  repeat refine⟨rfl,?_⟩
  conv=>whnf
  simp_all[WC,if_pos]
 have e:a≠n:=by simp at f;omega
 repeat refine⟨rfl,?_⟩
 conv=>whnf
 apply Qe<;>intro f
 .have e0:a=0:=by simp at f;omega
  repeat refine⟨rfl,?_⟩
  conv=>whnf
  simp_all[WC,if_neg,if_pos]
 .have e0:a≠0:=by simp at f;omega
  repeat refine⟨rfl,?_⟩
  conv=>whnf
  simp_all[WC,if_neg]
def UX:Xf prog 48 4 1:=.of K1
def R7(a n:Nat)(V:a<2^60)(hn:n<60):Qb S 51 #[.int .i64 a,.int .i64 n] (λ v U'=>Acc 4 1 v ((range n).map λ k=>.bool (a.testBit k)) U'.M U.M/\(∀x o,U.I x=some o->U'.I x=some o)/\U'.tok=U.tok) U:=by
 refine Qb.of (args:=[_,_]) Dy Qd S1 ?_
 repeat refine⟨rfl,?_⟩
 refine⟨Nat×Value,λ y=>[(0,.int .i64 a),(5,y.2),(7,.int .i64 n),(8,.int .i64 y.1)],
  λ y U'=>(∀x o,U.I x=some o->U'.I x=some o)/\U'.tok=U.tok/\Acc 4 1 y.2 ((range y.1).map λ k=>.bool (a.testBit k)) U'.M U.M/\y.1<=n,λ y=>n-y.1,(0,.nl),T1,⟨λ _ _ h=>h,rfl,.nil,O1⟩,?_⟩
 rintro⟨i,v⟩f T⟨N,Q,e,W⟩;simp only at e W;obtain⟨sa,sl,sc,rfl,X,-⟩:=Acc.src (U:=T) e;have K:Je ((i:Int)+1):=I1
 repeat refine⟨rfl,?_⟩
 conv=>whnf
 apply Qe<;>intro P
 .have hlt:i<n:=by simpa using P
  have E:=HU V (show i<60 by omega);refine⟨O1,rfl,rfl,?_⟩
  conv=>whnf
  intro G F;refine Zm F λ L B w=>?_;have w:Zo L G #[.bool (a.testBit i)]:=by rw[<- E];exact w
  conv=>whnf
  refine Wv (v:=.slice sa sl sc) (cs:=(range i).map λ k=>.bool (a.testBit k)) (new:=[.bool (a.testBit i)]) (M₀:=U.M) UX rfl rfl (by rw[B.own];exact e) (.inr ⟨_,rfl,w.rd⟩) rfl (by simp[Value.single]) S3 λ v' M' H _=>?_;have z:Acc 4 1 v' ((range (i+1)).map λ k=>.bool (a.testBit k)) M' U.M:=by rw[range_succ,map_append];exact H
  obtain⟨Y,Z,tc,rfl,-,-⟩:=Acc.src (U:={ L with M:=M' }) z;refine⟨K,?_⟩
  conv=>whnf
  exact⟨rfl,(i+1,.slice Y Z tc),T1,⟨λ x o h=>B.imm x o (N x o h),B.tok.trans Q,z,by show i+1<=n;omega⟩,L1⟩
 .have hge:i=n:=by simp at P;omega
  subst hge
  repeat refine⟨rfl,?_⟩
  conv=>whnf
  exact⟨e,N,Q⟩
end
structure Wd(w:Nat):Prop where
 a5:IntKind.wrap .i32 ((BitVec.ofInt (IntKind.bits .i32) (w:Int)&&&BitVec.ofInt (IntKind.bits .i32) 5).toNat:Int)=((w % 2+4*(w / 4 % 2):Nat):Int)
 a4:IntKind.wrap .i32 ((BitVec.ofInt (IntKind.bits .i32) (w:Int)&&&BitVec.ofInt (IntKind.bits .i32) 4).toNat:Int)=((4*(w / 4 % 2):Nat):Int)
 a1:IntKind.wrap .i32 ((BitVec.ofInt (IntKind.bits .i32) (w:Int)&&&BitVec.ofInt (IntKind.bits .i32) 1).toNat:Int)=((w % 2:Nat):Int)
 a2:IntKind.wrap .i32 ((BitVec.ofInt (IntKind.bits .i32) (w:Int)&&&BitVec.ofInt (IntKind.bits .i32) 2).toNat:Int)=((2*(w / 2 % 2):Nat):Int)
 a3:IntKind.wrap .i32 ((BitVec.ofInt (IntKind.bits .i32) (w:Int)&&&BitVec.ofInt (IntKind.bits .i32) 3).toNat:Int)=((w % 4:Nat):Int)
 a7:IntKind.wrap .i32 ((BitVec.ofInt (IntKind.bits .i32) (w:Int)&&&BitVec.ofInt (IntKind.bits .i32) 7).toNat:Int)=((w % 8:Nat):Int)
 o1:IntKind.wrap .i32 ((BitVec.ofInt (IntKind.bits .i32) (w:Int)||| BitVec.ofInt (IntKind.bits .i32) 1).toNat:Int)=((w-w % 2+1:Nat):Int)
 o4:IntKind.wrap .i32 ((BitVec.ofInt (IntKind.bits .i32) (w:Int)||| BitVec.ofInt (IntKind.bits .i32) 4).toNat:Int)=((w-4*(w / 4 % 2)+4:Nat):Int)
 o2:IntKind.wrap .i32 ((BitVec.ofInt (IntKind.bits .i32) (w:Int)||| BitVec.ofInt (IntKind.bits .i32) 2).toNat:Int)=((w-2*(w / 2 % 2)+2:Nat):Int)
 n2:IntKind.wrap .i32 ((BitVec.ofInt (IntKind.bits .i32) (w:Int)&&&~~~ BitVec.ofInt (IntKind.bits .i32) 2).toNat:Int)=((w-2*(w / 2 % 2):Nat):Int)
 p8:IntKind.wrap .i32 ((w:Int)+8)=((w+8:Nat):Int)
 s3:Int.fdiv (w:Int) (2^(min ((3:Int).toNat) (IntKind.bits .i32)))=((w / 8:Nat):Int)
def Wd.chk(w:Nat):Bool:=decide (IntKind.wrap .i32 ((BitVec.ofInt (IntKind.bits .i32) (w:Int)&&&BitVec.ofInt (IntKind.bits .i32) 5).toNat:Int)=((w % 2+4*(w / 4 % 2):Nat):Int))&&decide (IntKind.wrap .i32 ((BitVec.ofInt (IntKind.bits .i32) (w:Int)&&&BitVec.ofInt (IntKind.bits .i32) 4).toNat:Int)=((4*(w / 4 % 2):Nat):Int))&&decide (IntKind.wrap .i32 ((BitVec.ofInt (IntKind.bits .i32) (w:Int)&&&BitVec.ofInt (IntKind.bits .i32) 1).toNat:Int)=((w % 2:Nat):Int))&&decide (IntKind.wrap .i32 ((BitVec.ofInt (IntKind.bits .i32) (w:Int)&&&BitVec.ofInt (IntKind.bits .i32) 2).toNat:Int)=((2*(w / 2 % 2):Nat):Int))&&decide (IntKind.wrap .i32 ((BitVec.ofInt (IntKind.bits .i32) (w:Int)&&&BitVec.ofInt (IntKind.bits .i32) 3).toNat:Int)=((w % 4:Nat):Int))&&decide (IntKind.wrap .i32 ((BitVec.ofInt (IntKind.bits .i32) (w:Int)&&&BitVec.ofInt (IntKind.bits .i32) 7).toNat:Int)=((w % 8:Nat):Int))&&decide (IntKind.wrap .i32 ((BitVec.ofInt (IntKind.bits .i32) (w:Int)||| BitVec.ofInt (IntKind.bits .i32) 1).toNat:Int)=((w-w % 2+1:Nat):Int))&&decide (IntKind.wrap .i32 ((BitVec.ofInt (IntKind.bits .i32) (w:Int)||| BitVec.ofInt (IntKind.bits .i32) 4).toNat:Int)=((w-4*(w / 4 % 2)+4:Nat):Int))&&decide (IntKind.wrap .i32 ((BitVec.ofInt (IntKind.bits .i32) (w:Int)||| BitVec.ofInt (IntKind.bits .i32) 2).toNat:Int)=((w-2*(w / 2 % 2)+2:Nat):Int))&&decide (IntKind.wrap .i32 ((BitVec.ofInt (IntKind.bits .i32) (w:Int)&&&~~~ BitVec.ofInt (IntKind.bits .i32) 2).toNat:Int)=((w-2*(w / 2 % 2):Nat):Int))&&decide (IntKind.wrap .i32 ((w:Int)+8)=((w+8:Nat):Int))&&decide (Int.fdiv (w:Int) (2^(min ((3:Int).toNat) (IntKind.bits .i32)))=((w / 8:Nat):Int))
def Wd.of(h:w<512):Wd w:=by
 have key:(range 512).all Wd.chk=true:=K1
 have:=all_eq_true.1 key w (mem_range.2 h);simp only[Wd.chk,Bool.and_eq_true,decide_eq_true_eq]at this;obtain⟨⟨⟨⟨⟨⟨⟨⟨⟨⟨⟨e,f⟩,z⟩,B⟩,E⟩,F⟩,G⟩,H⟩,I⟩,K⟩,L⟩,M⟩:=this;exact⟨e,f,z,B,E,F,G,H,I,K,L,M⟩
def Qn(h:w<512):IntKind.wrap .i32 ((BitVec.ofInt (IntKind.bits .i32) (w:Int)&&&BitVec.ofInt (IntKind.bits .i32) 5).toNat:Int)=((w % 2+4*(w / 4 % 2):Nat):Int):=(Wd.of h).a5
def Qh(h:w<512):IntKind.wrap .i32 ((BitVec.ofInt (IntKind.bits .i32) (w:Int)&&&BitVec.ofInt (IntKind.bits .i32) 4).toNat:Int)=((4*(w / 4 % 2):Nat):Int):=(Wd.of h).a4
def Qk(h:w<512):IntKind.wrap .i32 ((BitVec.ofInt (IntKind.bits .i32) (w:Int)&&&BitVec.ofInt (IntKind.bits .i32) 1).toNat:Int)=((w % 2:Nat):Int):=(Wd.of h).a1
def Ql(h:w<512):IntKind.wrap .i32 ((BitVec.ofInt (IntKind.bits .i32) (w:Int)&&&BitVec.ofInt (IntKind.bits .i32) 2).toNat:Int)=((2*(w / 2 % 2):Nat):Int):=(Wd.of h).a2
def Qm(h:w<512):IntKind.wrap .i32 ((BitVec.ofInt (IntKind.bits .i32) (w:Int)&&&BitVec.ofInt (IntKind.bits .i32) 3).toNat:Int)=((w % 4:Nat):Int):=(Wd.of h).a3
def Qo(h:w<512):IntKind.wrap .i32 ((BitVec.ofInt (IntKind.bits .i32) (w:Int)&&&BitVec.ofInt (IntKind.bits .i32) 7).toNat:Int)=((w % 8:Nat):Int):=(Wd.of h).a7
def Qq(h:w<512):IntKind.wrap .i32 ((BitVec.ofInt (IntKind.bits .i32) (w:Int)||| BitVec.ofInt (IntKind.bits .i32) 1).toNat:Int)=((w-w % 2+1:Nat):Int):=(Wd.of h).o1
def Qs(h:w<512):IntKind.wrap .i32 ((BitVec.ofInt (IntKind.bits .i32) (w:Int)||| BitVec.ofInt (IntKind.bits .i32) 4).toNat:Int)=((w-4*(w / 4 % 2)+4:Nat):Int):=(Wd.of h).o4
def Qr(h:w<512):IntKind.wrap .i32 ((BitVec.ofInt (IntKind.bits .i32) (w:Int)||| BitVec.ofInt (IntKind.bits .i32) 2).toNat:Int)=((w-2*(w / 2 % 2)+2:Nat):Int):=(Wd.of h).o2
def Qp(h:w<512):IntKind.wrap .i32 ((BitVec.ofInt (IntKind.bits .i32) (w:Int)&&&~~~ BitVec.ofInt (IntKind.bits .i32) 2).toNat:Int)=((w-2*(w / 2 % 2):Nat):Int):=(Wd.of h).n2
def Qx(h:w<512):IntKind.wrap .i32 ((w:Int)+8)=((w+8:Nat):Int):=(Wd.of h).p8
def Qt(h:w<512):Int.fdiv (w:Int) (2^(min ((3:Int).toNat) (IntKind.bits .i32)))=((w / 8:Nat):Int):=(Wd.of h).s3
def PR(h:w<512):IntKind.wrap .i32 (w:Int)=(w:Int):=by
 have key:(range 512).all (λ w=>decide (IntKind.wrap .i32 ((w:Nat):Int)=((w:Nat):Int)))=true:=K1
 simp_all
def Z3(h:w<512)(e:8<=w):IntKind.wrap .i32 ((w:Int)-8)=((w-8:Nat):Int):=by
 rw[show((w:Int)-8)=((w-8:Nat):Int) by omega];exact PR O1
def Z4(h:w<511):IntKind.wrap .i32 ((w:Int)+1)=((w+1:Nat):Int):=by
 rw[show((w:Int)+1)=((w+1:Nat):Int) by omega];exact PR O1
abbrev Zs:=Zj prog 118 20
def Km(b bb:Nat)(D:TM.Spec)(sp:(Nat->Bool)->TM.Spec)(s:Nat)(K:Qa Tk->Prop)(U:Qa Tk):Prop:=
 ∀R M lo,R s=false->sp R M->K { U with M:=U.M++M,tok:=⟨0,.wrk bb D,some (.lok ⟨b,111,sp⟩ s (.own R) lo)⟩ }
def VD:Jl prog 121 (Extern.Atomic.casT (.int .i32)):=⟨_,Tryz.func121,K1,K1,K1⟩
def Yd:Jl prog 123 (Extern.Atomic.update (Op.intArith .add) .i32 true):=⟨_,Tryz.func123,K1,K1,K1⟩
def FB:Jl prog 147 Extern.Sync.semacquire:=⟨_,Tryz.func147,K1,K1,K1⟩
def U_:Jl prog 149 Extern.Sync.semrelease:=⟨_,Tryz.func149,K1,K1,K1⟩
def J8:Jl prog 94 (λ _=>do mark .enable;pure (Value.tuple #[])):=⟨_,Tryz.func94,K1,K1,K1⟩
def VE:Jl prog 93 (λ _=>do mark .disable;pure (Value.tuple #[])):=⟨_,Tryz.func93,K1,K1,K1⟩
def He:Jl prog 105 (Extern.Race.marked .acquire):=⟨_,Tryz.func105,K1,K1,K1⟩
def FC:Jl prog 92 (Extern.Race.marked .releaseMerge):=⟨_,Tryz.func92,K1,K1,K1⟩
def VO(b:Nat):GG prog 111 b:=λ k st sm es=>K1
def Bh:Extern.find Tryz.f143=some Extern.Sync.canSpin:=K1
def Bi:Extern.findNext Tryz.f143=none:=K1
def AB:Extern.find Tryz.f144=some Extern.Sync.nothing:=K1
def AC:Extern.findNext Tryz.f144=none:=K1
def HE:Extern.find Tryz.f146=some Extern.OsHooks.nano:=K1
def HF:Extern.findNext Tryz.f146=none:=K1
