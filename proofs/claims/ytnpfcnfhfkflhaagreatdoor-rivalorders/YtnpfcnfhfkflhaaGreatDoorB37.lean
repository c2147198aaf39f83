/- Lemmas. No conditions. -/
import Derived.Test.YtnpfcnfhfkflhaaGreatDoorB35
import Derived.Test.YtnpfcnfhfkflhaaGreatDoorB03
set_option linter.all false
open List
open Go.Proofs.Tryz (prog)
set_option maxRecDepth 100000
namespace Go.Proofs
open Go.TM
def Qf:prog.follows .mixedOrders=true:=K1
end Go.Proofs
namespace Go.Proofs
open Go.TM
variable{T:Type}{S:TM.Sys prog T}{U:Qa T}
attribute [local irreducible] Qb Zl Wt
def Wu(U:Qa T)(n a b:Int):Qb S 66 #[.int .i64 n,.int .i64 a,.int .i64 b] (λ v U'=>v=.bool (btw n a b)/\U'=U) U:=by
 refine Qb.of (args:=[_,_,_]) GG Qf S1 ?_
 repeat refine⟨rfl,?_⟩
 conv=>whnf
 apply Zr<;>intro e
 .repeat refine⟨rfl,?_⟩
  conv=>whnf
  exact⟨by unfold btw;rw[e];rfl,rfl⟩
 .repeat refine⟨rfl,?_⟩
  conv=>whnf
  exact⟨by unfold btw;rw[e];rfl,rfl⟩
def Ky(U:Qa T)(n a b:Int):Qb S 103 #[.int .i64 n,.int .i64 a,.int .i64 b] (λ v U'=>v=.bool (btw n a b)/\U'=U) U:=by
 refine Qb.of (args:=[_,_,_]) PM Qf S1 ?_
 repeat refine⟨rfl,?_⟩
 conv=>whnf
 apply Zr<;>intro e
 .repeat refine⟨rfl,?_⟩
  conv=>whnf
  exact⟨by unfold btw;rw[e];rfl,rfl⟩
 .repeat refine⟨rfl,?_⟩
  conv=>whnf
  exact⟨by unfold btw;rw[e];rfl,rfl⟩
def WW{α:Type}(S:TM.Sys prog T)(U:Qa T)(g:FuncId)(first b:Array Value)(enc:α->Value)(l:List α)(p:α->Bool):Prop:=
 (prog.funcs[g]?.any λ fd=>fd.body.isSome&&fd.name != "runtime.NumGoroutine")=true/\∀x∈l,Qb S g (first.toList++[enc x]++b.toList).toArray (λ v U'=>v=.bool (p x)/\U'=U) U
def XL{α:Type}(p:α->Bool)(l:List α):Int:=match l.findIdx? p with|some i=>i|none=>-1
def VL{α:Type}{p:α->Bool}{l:List α}(h:∀x∈l,p x=false):XL p l = -1:=by
 unfold XL;rw[findIdx?_eq_none_iff.2 h]
def VV{α:Type}{p:α->Bool}{l:List α}{i:Nat}{x:α}(w:l[i]?=some x)(f:p x=true)(h:∀y∈l.take i,p y=false):XL p l=i:=by
 unfold XL
 have:l.findIdx? p=some i:=by
  obtain⟨b,rfl⟩:=List.getElem?_eq_some_iff.1 w;rw[findIdx?_eq_some_iff_getElem];refine⟨b,f,λ j z=>?_⟩
  have e:l[j]' O1∈l.take i:=by
   rw[mem_take_iff_getElem];exact⟨j,O1,rfl⟩
  simpa using h _ e
 rw[this]
def K5{α:Type}{p:α->Bool}{l:List α}:decide (XL p l ≥ 0)=l.any p:=by
 unfold XL;cases h:l.findIdx? p with
 |none=>
  rw[findIdx?_eq_none_iff]at h;have:l.any p=false:=by rw[any_eq_false];intro x f;simp[h x f]
  rw[this];rfl
 |some i=>
  have:l.any p=true:=by
   rw[findIdx?_eq_some_iff_getElem]at h;obtain⟨b,e,_⟩:=h;exact any_eq_true.2 ⟨l[i],S1,e⟩
  rw[this];simp
def gg{α:Type}(enc:α->Value)(a:Option Addr)(len cap:Nat)(l:List α)(P:l.length=len)(F:∀i x,l[i]?=some x->∃z,a=some z/\z.spot=none/\U.sees (z.add (i*1)) (enc x))(G:∀x,∃k n,enc x=.int k n)(I:len<2^60)(g:FuncId)(first e:Array Value)(p:α->Bool)
  (H:WW S U g first e enc l p):Qb S 282 #[.slice a len cap,.func (.func g) first e] (λ v U'=>v=.int .i64 (XL p l)/\U'=U) U:=by
 refine Qb.of (args:=[_,_]) DI Qf S1 ?_
 repeat refine⟨rfl,?_⟩
 refine⟨Nat,λ i=>[(0,.slice a len cap),(1,.func (.func g) first e),(6,.slice a len cap),(7,.int .i64 len),(8,.int .i64 i)],
  λ i U'=>U'=U/\i<=len/\∀x∈l.take i,p x=false,λ i=>len-i,0,T1,⟨rfl,O1,S1⟩,?_⟩
 rintro i f _⟨rfl,N,b⟩
 repeat refine⟨rfl,?_⟩
 conv=>whnf
 apply Qe<;>intro B
 .have hlt:i<len:=by simpa using B
  have E:l[i]?=some (l[i]' O1):=S1
  generalize l[i]' O1=x at E;obtain⟨z,rfl,M,K⟩:=F i x E;obtain⟨k,n,L⟩:=G x;have h:=H.2 x (mem_of_getElem? E);rw[L]at h K;refine⟨z,i,⟨rfl,rfl,hlt⟩,_,K,H.1,h.mono ?_⟩;rintro v U'⟨rfl,rfl⟩-
  conv=>whnf
  apply Qe<;>intro B
  .repeat refine⟨rfl,?_⟩
   conv=>whnf
   exact⟨by rw[VV E B b],rfl⟩
  .refine⟨I1,?_⟩;refine⟨rfl,i+1,T1,⟨rfl,O1,?_⟩,L1⟩;intro y w;rw[Ji E,mem_append]at w;rcases w with w|w
   .exact b y w
   .simp at w;subst w;exact B
 .have hge:len<=i:=by simpa using B
  repeat refine⟨rfl,?_⟩
  refine⟨?_,rfl⟩;rw[take_of_length_le O1]at b;rw[VL b]
def Nq{α:Type}(enc:α->Value)(a:Option Addr)(len cap:Nat)(l:List α)(P:l.length=len)(F:∀i x,l[i]?=some x->∃z,a=some z/\z.spot=none/\U.sees (z.add (i*1)) (enc x))(G:∀x,∃k n,enc x=.int k n)(I:len<2^60)(g:FuncId)(first e:Array Value)(p:α->Bool)
  (H:WW S U g first e enc l p):Qb S 201 #[.slice a len cap,.func (.func g) first e] (λ v U'=>v=.int .i64 (XL p l)/\U'=U) U:=by
 refine Qb.of (args:=[_,_]) DF Qf S1 ?_
 repeat refine⟨rfl,?_⟩
 refine⟨Nat,λ i=>[(0,.slice a len cap),(1,.func (.func g) first e),(6,.slice a len cap),(7,.int .i64 len),(8,.int .i64 i)],
  λ i U'=>U'=U/\i<=len/\∀x∈l.take i,p x=false,λ i=>len-i,0,T1,⟨rfl,O1,S1⟩,?_⟩
 rintro i f _⟨rfl,N,b⟩
 repeat refine⟨rfl,?_⟩
 conv=>whnf
 apply Qe<;>intro B
 .have hlt:i<len:=by simpa using B
  have E:l[i]?=some (l[i]' O1):=S1
  generalize l[i]' O1=x at E;obtain⟨z,rfl,M,K⟩:=F i x E;obtain⟨k,n,L⟩:=G x;have h:=H.2 x (mem_of_getElem? E);rw[L]at h K;refine⟨z,i,⟨rfl,rfl,hlt⟩,_,K,H.1,h.mono ?_⟩;rintro v U'⟨rfl,rfl⟩-
  conv=>whnf
  apply Qe<;>intro B
  .repeat refine⟨rfl,?_⟩
   conv=>whnf
   exact⟨by rw[VV E B b],rfl⟩
  .refine⟨I1,?_⟩;refine⟨rfl,i+1,T1,⟨rfl,O1,?_⟩,L1⟩;intro y w;rw[Ji E,mem_append]at w;rcases w with w|w
   .exact b y w
   .simp at w;subst w;exact B
 .have hge:len<=i:=by simpa using B
  repeat refine⟨rfl,?_⟩
  refine⟨?_,rfl⟩;rw[take_of_length_le O1]at b;rw[VL b]
def BY(a:Option Addr)(len cap:Nat)(l:List Int)(w:Z5 U a len l)(z:len<2^60)(n:Int) :
  Qb S 125 #[.slice a len cap,.int .i64 n] (λ v U'=>v=.int .i64 (XL (λ y=>n==y) l)/\U'=U) U:=by
 refine Qb.of (args:=[_,_]) M8 Qf S1 ?_;have F:=w.1
 repeat refine⟨rfl,?_⟩
 refine⟨Nat,λ i=>[(0,.slice a len cap),(1,.int .i64 n),(6,.slice a len cap),(7,.int .i64 len),(8,.int .i64 i)],
  λ i U'=>U'=U/\i<=len/\∀x∈l.take i,(n==x)=false,λ i=>len-i,0,T1,⟨rfl,O1,S1⟩,?_⟩
 rintro i f _⟨rfl,I,b⟩
 repeat refine⟨rfl,?_⟩
 conv=>whnf
 apply Qe<;>intro h
 .have hlt:i<len:=by simpa using h
  obtain⟨E,x,B,rfl,H,G⟩:=w.at hlt;refine⟨E,i,⟨rfl,rfl,hlt⟩,_,G,?_⟩
  repeat refine⟨rfl,?_⟩
  conv=>whnf
  apply Qe<;>intro h
  .repeat refine⟨rfl,?_⟩
   conv=>whnf
   exact⟨by rw[VV (p:=λ y=>n==y) B h b],rfl⟩
  .refine⟨I1,?_⟩;refine⟨rfl,i+1,T1,⟨rfl,O1,?_⟩,L1⟩;intro y e;rw[Ji B,mem_append]at e;rcases e with e|e
   .exact b y e
   .simp at e;subst e;exact h
 .have hge:len<=i:=by simpa using h
  repeat refine⟨rfl,?_⟩
  refine⟨?_,rfl⟩;rw[take_of_length_le O1]at b;rw[VL b]
def UT(a:Option Addr)(len cap:Nat)(l:List Int)(e:Z5 U a len l)(b:len<2^60)(n:Int) :
  Qb S 67 #[.slice a len cap,.int .i64 n] (λ v U'=>v=.bool (l.contains n)/\U'=U) U:=by
 refine Qb.of (args:=[_,_]) OH Qf S1 ?_;refine⟨M8.any,(BY a len cap l e b n).mono ?_⟩;rintro v U'⟨rfl,rfl⟩-
 repeat refine⟨rfl,?_⟩
 refine⟨?_,rfl⟩;show Value.bool _=_;rw[K5];congr 1;rw[Bool.eq_iff_iff];simp
end Go.Proofs
namespace Go.TM
open Go.Proofs
def XW(c:UInt8):Bool:=(decide ((c.toNat:Int)<97)|| decide ((c.toNat:Int) > 122))&&(decide ((c.toNat:Int)<48)|| decide ((c.toNat:Int) > 57))
end Go.TM
namespace Go.Proofs
open Go.TM
variable{T:Type}{S:TM.Sys prog T}{U:Qa T}
attribute [local irreducible] Qb Zl
def tu(c:UInt8):Qb S 281 #[.int .u8 c.toNat] (λ v U'=>v=.bool (XW c)/\U'=U) U:=by
 refine Qb.of (args:=[_]) Lq Qf S1 ?_;have b:XW c=((decide ((c.toNat:Int)<97)|| decide ((c.toNat:Int) > 122))&&(decide ((c.toNat:Int)<48)|| decide ((c.toNat:Int) > 57))):=rfl
 repeat refine⟨rfl,?_⟩
 conv=>whnf
 apply Zr<;>intro e
 .repeat refine⟨rfl,?_⟩
  conv=>whnf
  apply Zr<;>intro e
  .repeat refine⟨rfl,?_⟩
   conv=>whnf
   apply Zr<;>intro e
   .repeat refine⟨rfl,?_⟩
    conv=>whnf
    exact⟨by rw[b];first|(simp_all;done)|(simp_all;omega),rfl⟩
   .repeat refine⟨rfl,?_⟩
    conv=>whnf
    exact⟨by rw[b];first|(simp_all;done)|(simp_all;omega),rfl⟩
  .repeat refine⟨rfl,?_⟩
   conv=>whnf
   exact⟨by rw[b];first|(simp_all;done)|(simp_all;omega),rfl⟩
 .repeat refine⟨rfl,?_⟩
  conv=>whnf
  apply Zr<;>intro e
  .repeat refine⟨rfl,?_⟩
   conv=>whnf
   exact⟨by rw[b];first|(simp_all;done)|(simp_all;omega),rfl⟩
  .repeat refine⟨rfl,?_⟩
   conv=>whnf
   exact⟨by rw[b];first|(simp_all;done)|(simp_all;omega),rfl⟩
end Go.Proofs
namespace Go.TM
open Go.Proofs
def Qu(s:ByteArray):Bool:=btw s.size 1 10&&((match s.data.toList with|c::_=>!(decide ((c.toNat:Int)<97))&&!(decide ((c.toNat:Int) > 122))|[]=>false)&&!(s.data.toList.any XW))
end Go.TM
namespace Go.Proofs
open Go.TM
variable{T:Type}{S:TM.Sys prog T}{U:Qa T}
attribute [local irreducible] Qb Zl
def NB(a:Option Addr)(len cap:Nat)(l:List UInt8)(h:l.length=len)(f:∀(i:Nat)x,l[i]?=some x->∃e,a=some e/\e.spot=none/\U.sees (e.add (i*1)) (.int .u8 x.toNat))(b:len<2^60) :
  Qb S 280 #[.slice a len cap,.func (.func 281) #[] #[]] (λ v U'=>v=.bool (l.any XW)/\U'=U) U:=by
 refine Qb.of (args:=[_,_]) F4 Qf S1 ?_;refine⟨DI.any,(gg (λ c:UInt8=>.int .u8 c.toNat) a len cap l h f (λ x=>⟨_,_,rfl⟩) b 281 #[] #[] XW ⟨Lq.any,λ x _=>tu x⟩).mono ?_⟩;rintro v U'⟨rfl,rfl⟩-
 repeat refine⟨rfl,?_⟩
 refine⟨?_,rfl⟩;show Value.bool _=_;rw[K5]
def jE:prog.underlying 9=some .string:=K1
def Ax:prog.underlying 136=some (.slice 5):=K1
def vL:prog.underlying 5=some (.int .u8):=K1
def Mo{s:ByteArray}{c:UInt8}{r:List UInt8}(h:s.data.toList=c::r):s[0]?=some c:=by
 have e:s.data[0]?=some c:=by rw[<- Array.getElem?_toList,h];rfl
 obtain⟨b,f⟩:=Array.getElem?_eq_some_iff.1 e;rw[getElem?_pos s 0 (by simpa using b)];exact congrArg some f
def qv(s:ByteArray)(F:s.size<2^60):Qb S 279 #[.string s] (λ v U'=>v=.bool (Qu s)/\U'=U) U:=by
 refine Qb.pure' (Qb.of (args:=[_]) En Qf S1 ?_);have h:s.size=s.data.toList.length:=by rw[Array.length_toList];rfl
 refine⟨GG.any,(Wu _ _ _ _).mono ?_⟩;rintro v U'⟨rfl,rfl⟩-
 conv=>whnf
 apply Zr<;>intro e
 .have hb:btw (s.size:Int) 1 10=true:=by simpa using e
  cases f:s.data.toList with
  |nil=>rw[h,f]at hb;simp[btw]at hb
  |cons c r=>
   have B:Qu s=(!(decide ((c.toNat:Int)<97))&&!(decide ((c.toNat:Int) > 122))&&!((c::r).any XW)):=by unfold Qu;rw[hb,f];rfl
   refine⟨0,c,⟨rfl,Mo f⟩,?_⟩
   repeat refine⟨rfl,?_⟩
   conv=>whnf
   apply Zr<;>intro e
   .have h1:decide ((c.toNat:Int)<97)=false:=by simpa using e
    refine⟨0,c,⟨rfl,Mo f⟩,?_⟩
    repeat refine⟨rfl,?_⟩
    conv=>whnf
    apply Qe<;>intro e
    .repeat refine⟨rfl,?_⟩
     conv=>whnf
     exact⟨by rw[B,e];simp,Qa.le.lg (.refl _)⟩
    .conv=>whnf
     refine vM jE Ax vL rfl λ b cap cs fr w z=>?_;refine⟨F4.any,(NB (some ⟨b,0,none⟩) s.size cap (c::r) (by rw[h,f]) (λ i x G=>⟨_,rfl,rfl,?_⟩) F).mono ?_⟩
     .rw[Qo];refine⟨rfl,.inl ⟨cs,5,fr,.inl (by simp[JI]),?_⟩⟩;have:=z i x (by rw[<- Array.getElem?_toList,f];exact G);simpa using this
     rintro v E⟨rfl,rfl⟩-
     repeat refine⟨rfl,?_⟩
     refine⟨?_,(GF w).lg⟩;show Value.bool _=_;rw[B,h1,e];simp
   .have h1:decide ((c.toNat:Int)<97)=true:=by simpa using e
    repeat refine⟨rfl,?_⟩
    conv=>whnf
    exact⟨by rw[B,h1];rfl,Qa.le.lg (.refl _)⟩
 .have hb:btw (s.size:Int) 1 10=false:=by simpa using e
  repeat refine⟨rfl,?_⟩
  conv=>whnf
  exact⟨by unfold Qu;rw[hb];rfl,Qa.le.lg (.refl _)⟩
end Go.Proofs
namespace Go.TM
variable{T:Type}{U:Qa T}
def SY{v:Value}{l:List Int}{M₀:List Qx}(h:Acc 3 1 v (l.map λ n=>.int .i64 n) U.M M₀):∃a cap,v=.slice a l.length cap/\Z5 U a l.length l:=by
 obtain⟨a,len,cap,rfl,z,I⟩:=h.src;simp at z;subst z;refine⟨a,cap,rfl,rfl,λ i x B=>?_⟩;rcases h with⟨w,e,_⟩|⟨b,c,len,f,w,e,G,H,F,E⟩
 .rw[map_eq_nil_iff]at e;subst e;simp at B
 .cases w;refine⟨_,rfl,rfl,?_⟩;rw[Qo];exact⟨rfl,.inl ⟨c,3,(0,0),.inr (by rw[F];exact mem_cons_self ..),by simpa using E i (.int .i64 x) (by simp[B])⟩⟩
end Go.TM
namespace Go.Proofs
open Go.TM
variable{T:Type}{S:TM.Sys prog T}{U:Qa T}
attribute [local irreducible] Qb Zl Wt
def Hf:Xa prog 26 3 1:=.of K1
def Pf:prog.underlying 26=some (.slice 3):=K1
def Md(a:Option Addr)(len cap:Nat)(l:List Int)(z:Z5 U a len l)(H:len<=1000000) :
  Qb S 168 #[.slice a len cap] (λ v U'=>Acc 3 1 v (l.map λ n=>.int .i64 n) U'.M U.M/\(∀x o,U.I x=some o->U'.I x=some o)/\U'.tok=U.tok) U:=by
 refine Qb.of (args:=[_]) GP Qf S1 ?_;have B:=z.1
 conv=>whnf
 refine K6 Pf rfl ?_
 conv=>whnf
 apply Qe<;>intro G
 .have ha:a=none:=by simpa using G
  subst ha
  have:l=[]:=by
   cases l with
   |nil=>rfl
   |cons x r=>obtain⟨b,h,_⟩:=z.2 0 x rfl;cases h
  subst this
  repeat refine⟨rfl,?_⟩
  conv=>whnf
  exact⟨.nil,λ _ _ h=>h,rfl⟩
 .obtain⟨b,rfl⟩:∃b,a=some b:=by cases a with|none=>cases G|some b=>exact⟨b,rfl⟩
  conv=>whnf
  intro F N;refine⟨_,.refl _,?_⟩
  conv=>whnf
  refine Ws (v:=.slice (some ⟨F,0,none⟩) 0 0) (cs:=[]) (new:=l.map λ n=>.int .i64 n) (M₀:=U.M) Hf rfl rfl .empty (.inr ⟨_,rfl,λ i v w=>?_⟩) (by simp[B]) (by simp[Value.single]) S3 λ T M' f _=>?_
  .rw[getElem?_map]at w;cases E:l[i]? with
   |none=>rw[E]at w;cases w
   |some x=>
    rw[E]at w;cases w;obtain⟨L,e,_,K⟩:=z.2 i x E;cases e;rw[Nat.mul_one]at K;exact K.lg (Z4 F _)
  obtain⟨P,Q,tc,rfl,-,-⟩:=Acc.src (U:={ U with M:=M' }) f
  repeat refine⟨rfl,?_⟩
  conv=>whnf
  exact⟨by simpa using f,λ _ _ h=>h,rfl⟩
end Go.Proofs
namespace Go.TM
variable{T:Type}{U:Qa T}
def Zk{b:Nat}{c:Array Value}{t:TypeId}{Q:Qa T->Prop}(f:U.free b)(h:∀e,U.le e->Zi e b c->Q e):∃e,Qw (U.put b (.cells c t)) e/\Q e:=
 ⟨_,We (b:=b) (M':=U.M) (Perm.refl _),h _ (GF f) Zi.new⟩
def HR{b:Nat}{c:Array Value}{t:TypeId}{vs:List Value}{Q:Qa T->Prop}(e:c.size=vs.length)(w:∀v∈vs,v.single=true)(h:Q (U.put b (.cells vs.toArray t))) :
  ZA ⟨b,0,none⟩ vs 0 (λ U'=>∃f,Qw U' f/\Q f) (U.put b (.cells c t)):=by
 refine GE vs 0 c _ rfl w O1 ?_;rw[Y7 e];exact⟨_,.refl _,h⟩
def qh{b i:Nat}{c:Array Value}{t:TypeId}{v:Value}{Q:Qa T->Prop}(f:U.free b)(z:i<c.size)(w:v.single=true)(h:∀e,U.le e->Zi e b (c.setIfInBounds i v)->Q e) :
  ZA ((Addr.mk b 0 none).add i) [v] 0 (λ U'=>∃e,Qw U' e/\Q e) (U.put b (.cells c t)):=by
 rw[Qo];refine GE [v] 0 c _ rfl (by simpa using w) S3 ?_;simp only[JX,Nat.zero_add,Nat.add_zero];exact Zk f h
def Ya{α:Type}{l l':List α}{i:Nat}{x y:α}(b:l[i]?=some x)(f:l'[i]?=some y)(h:l.take i=l'.take i)(e:x=y):l.take (i+1)=l'.take (i+1):=by
 rw[Ji b,Ji f,h,e]
def Yf{α:Type}{l l':List α}{i:Nat}{x y:α}(b:l[i]?=some x)(f:l'[i]?=some y)(e:x≠y):l≠l':=by
 rintro rfl;exact e (Option.some.inj (b.symm.trans f))
end Go.TM
namespace Go.Proofs
open Go.TM
variable{T:Type}{S:TM.Sys prog T}{U:Qa T}
attribute [local irreducible] Qb Zl Wt
def PP(a a':Option Addr)(len cap b z:Nat)(l l':List Int)(L:Z5 U a len l)(F:Z5 U a' b l')(M:len<2^60) :
  Qb S 31 #[.slice a len cap,.slice a' b z] (λ v U'=>v=.bool (decide (l=l'))/\U'=U) U:=by
 refine Qb.pure' (Qb.of (args:=[_,_]) Gx Qf S1 ?_);have T:=L.1;have V:=F.1
 repeat refine⟨rfl,?_⟩
 conv=>whnf
 apply Qe<;>intro B
 .have hne:len≠b:=by intro e;subst e;simp at B
  repeat refine⟨rfl,?_⟩
  refine⟨?_,(Qa.le.refl _).lg⟩;rw[decide_eq_false (λ e=>hne (by rw[<- T,<- V,e]))]
 have H:len=b:=Int.ofNat.inj (by simpa using B:(len:Int)=b);subst H;refine⟨Nat,λ i=>[(0,.slice a len cap),(1,.slice a' len z),(5,.int .i64 i)],λ i U'=>U.le U'/\i<=len/\l.take i=l'.take i,λ i=>len-i,0,T1,⟨.refl _,O1,rfl⟩,?_⟩;rintro i f X⟨h,Z,E⟩
 repeat refine⟨rfl,?_⟩
 conv=>whnf
 apply Qe<;>intro B
 .have hlt:i<len:=by simpa using B
  obtain⟨Q,x,N,rfl,-,W⟩:=(L.lg h.lg).at hlt;obtain⟨G,y,P,rfl,-,K⟩:=(F.lg h.lg).at hlt;have I:Zu (i+1):=I1
  refine⟨Q,i,⟨rfl,rfl,hlt⟩,_,W,G,i,⟨rfl,rfl,hlt⟩,_,K,?_⟩
  conv=>whnf
  intro Y w _
  repeat refine⟨rfl,?_⟩
  conv=>whnf
  apply Qe<;>intro B
  .have hne:x≠y:=by simpa using B
   repeat refine⟨rfl,?_⟩
   conv=>whnf
   exact⟨by rw[decide_eq_false (Yf N P hne)],(h.trans w).lg⟩
  .have hxy:x=y:=by simpa using B
   refine⟨I,?_⟩
   conv=>whnf
   exact⟨rfl,i+1,T1,⟨h.trans w,O1,Ya N P E hxy⟩,L1⟩
 .have hge:len<=i:=by simpa using B
  rw[take_of_length_le O1,take_of_length_le O1]at E
  repeat refine⟨rfl,?_⟩
  conv=>whnf
  exact⟨by rw[decide_eq_true E],h.lg⟩
end Go.Proofs
namespace Go.TM
variable{T:Type}{U:Qa T}
def Hp(l:List Int)(i j:Nat):Prop:=(∀p q x y,p<q->q<=i->p≠j->q≠j->l[p]?=some x->l[q]?=some y->x<=y)/\(∀q x y,j<q->q<=i->l[j]?=some x->l[q]?=some y->x<=y)
def Xr(l:List Int)(i:Nat):Prop:=∀p q x y,p<q->q<i->l[p]?=some x->l[q]?=some y->x<=y
def Hp.start{l:List Int}{i:Nat}(h:Xr l i):Hp l i i:=
 ⟨λ p q x y b e _ z f w=>h p q x y b O1 f w,λ q x y b e=>O1⟩
def Hp.done{l:List Int}{i j:Nat}(h:Hp l i j)(H:j<=i)(F:j=0\/∃x y,l[j]?=some x/\l[j-1]?=some y/\y<=x):Xr l (i+1):=by
 intro p q x y b I f z;by_cases e:q=j
 .subst e;rcases F with F|⟨K,G,E,w,B⟩
  .omega
  .rw[E]at z;cases z;by_cases e':p=q-1
   .subst e';rw[w]at f;cases f;exact B
   .have:=h.1 p (q-1) x G O1 O1 O1 O1 f w;omega
 .by_cases e':p=j
  .subst e';exact h.2 q x y b O1 f z
  .exact h.1 p q x y b O1 e' e f z
theorem Hp.step{l:List Int}{i j:Nat}{x y:Int}(h:Hp l i j)(M:j<=i)(L:0<j)(H:l[j]?=some x)(I:l[j-1]?=some y)(K:x<y):Hp ((l.set j y).set (j-1) x) i (j-1):=by
 have w:j<l.length:=(List.getElem?_eq_some_iff.1 H).1
 have get:∀k,((l.set j y).set (j-1) x)[k]?=if k=j-1 then some x else if k=j then some y else l[k]?:=by
  intro k;rw[getElem?_set,getElem?_set];by_cases e:j-1=k
  .subst e;rw[if_pos rfl,if_pos S3,if_pos rfl]
  .have e2:¬k=j-1:=λ h=>e h.symm;rw[if_neg e,if_neg e2];by_cases e':j=k
   .subst e';rw[if_pos rfl,if_pos w,if_pos rfl]
   .have e3:¬k=j:=λ h=>e' h.symm;rw[if_neg e',if_neg e3]
 refine⟨λ p q u v B E z F f b=>?_,λ q u v E G f b=>?_⟩
 .rw[get,if_neg z]at f;rw[get,if_neg F]at b;by_cases e:p=j
  .subst e;rw[if_pos rfl]at f;cases f;rw[if_neg O1]at b;exact h.1 (p-1) q y v O1 E O1 O1 I b
  .rw[if_neg e]at f;by_cases e':q=j
   .subst e';rw[if_pos rfl]at b;cases b;exact h.1 p (q-1) u y O1 O1 O1 O1 f I
   .rw[if_neg e']at b;exact h.1 p q u v B E e e' f b
 .rw[get,if_pos rfl]at f;cases f;rw[get,if_neg O1]at b;by_cases e:q=j
  .subst e;rw[if_pos rfl]at b;cases b;omega
  .rw[if_neg e]at b;exact h.2 q x v O1 G H b
end Go.TM
namespace Go.Proofs
open Go.TM
variable{T:Type}{S:TM.Sys prog T}{U:Qa T}
attribute [local irreducible] Qb Zl Wt
def A3(n:Int):Qb S 239 #[.int .i64 n] (λ v U'=>v=.bool false/\U'=U) U:=by
 refine Qb.pure' (Qb.of (args:=[_]) Ml Qf S1 ?_)
 repeat refine⟨rfl,?_⟩
 conv=>whnf
 exact⟨S1,(Qa.le.refl _).lg⟩
def Bj(a b:Int):Qb S 217 #[.int .i64 a,.int .i64 b] (λ v U'=>v=.bool (decide (a<b))/\U'=U) U:=by
 refine Qb.pure' (Qb.of (args:=[_,_]) Ed Qf S1 ?_);refine⟨Ml.any,(A3 a).mono ?_⟩;rintro _ U'⟨rfl,rfl⟩-
 repeat refine⟨rfl,?_⟩
 conv=>whnf
 exact(Qa.le.refl _).lg
def Aq{s:ByteArray}{n:Nat}{K:UInt8->Prop}(h:n<s.size)(e:∀c,K c):∃(j:Nat)(b:UInt8),((n:Int)=j/\s[j]?=some b)/\K b:=
 ⟨n,_,⟨rfl,getElem?_pos s n h⟩,e _⟩
def BC(n:Nat)(h:n<256):Qb S 221 #[.int .u64 n] (λ v U'=>(∃m,v=.int .i64 m)/\U'=U) U:=by
 refine Qb.pure' (Qb.of (args:=[_]) Me Qf S1 ?_)
 repeat refine⟨rfl,?_⟩
 conv=>whnf
 apply Qe<;>intro b
 .simp at b;omega
 repeat refine⟨rfl,?_⟩
 conv=>whnf
 apply Qe<;>intro b
 .simp at b;omega
 repeat refine⟨rfl,?_⟩
 conv=>whnf
 apply Qe<;>intro b
 .simp at b;omega
 conv=>whnf
 have w:IntKind.wrap .u8 (n:Int)=n:=by
  have f:(2:Int)^8=256:=D1
  simp only[IntKind.wrap,IntKind.bits,IntKind.signed,Bool.false_and,f];simp;omega
 rw[w];refine Aq (by exact h) λ c=>?_;have b:=c.toNat_lt;have e:IntKind.wrap .i64 (c.toNat:Int)=c.toNat:=Gb I1
 conv=>whnf
 rw[e];refine⟨I1,?_⟩
 conv=>whnf
 exact⟨⟨_,rfl⟩,(Qa.le.refl _).lg⟩
end Go.Proofs
namespace Go.TM
variable{T:Type}{U:Qa T}
def K9{b k:Nat}{c:Array Value}{e:TypeId}{v:Value}{M₀:List Qx}(f:U.M=.obj b (.cells c e (0,0))::M₀)(h:c[k]?=some v):U.sees ((Addr.mk b 0 none).add (k*1)) v:=by
 rw[Nat.mul_one,Qo];exact⟨rfl,.inl ⟨c,e,(0,0),.inr (by rw[f];exact mem_cons_self ..),by simpa using h⟩⟩
def Xr.le{l:List Int}{i j:Nat}(h:Xr l i)(e:j<=i):Xr l j:=λ p q x y b f=>h p q x y b O1
def HI(c:Array Value)(l:List Int):Prop:=∀(k:Nat)(x:Int),l[k]?=some x->c[k]?=some (.int .i64 x)
def HI.set{c:Array Value}{l:List Int}(h:HI c l)(f:l.length<=c.size)(i:Nat)(x:Int):HI (c.setIfInBounds i (.int .i64 x)) (l.set i x):=by
 intro k y b;rw[getElem?_set]at b;by_cases e:i=k
 .subst e;rw[if_pos rfl]at b;split at b
  .cases b;rw[Array.getElem?_setIfInBounds_self_of_lt O1]
  .cases b
 .rw[if_neg e]at b;rw[Array.getElem?_setIfInBounds_ne e];exact h k y b
def Ng{l:List Int}{j:Nat}{x y:Int}(w:0<j)(f:l[j]?=some x)(h:l[j-1]?=some y):((l.set j y).set (j-1) x).Perm l:=by
 obtain⟨b,rfl⟩:=List.getElem?_eq_some_iff.1 f;obtain⟨e,rfl⟩:=List.getElem?_eq_some_iff.1 h;exact set_set_perm b e
end Go.TM
namespace Go.Proofs
open Go.TM
variable{T:Type}{S:TM.Sys prog T}{U:Qa T}
attribute [local irreducible] Qb Zl Wt
def gD(b cap:Nat)(l:List Int)(H:Array Value)(M₀:List Qx)(ab:U.M=.obj b (.cells H 3 (0,0))::M₀)(ai:l.length<=cap)(af:H.size=cap)(ad:HI H l)(hn:l.length<2^40) :
  Qb S 211 #[.slice (some ⟨b,0,none⟩) l.length cap,.int .i64 0,.int .i64 l.length] (λ _ U'=>(∀x o,U.I x=some o->U'.I x=some o)/\U'.tok=U.tok/\∃l' c',l'.Perm l/\Xr l' l.length/\U'.M=.obj b (.cells c' 3 (0,0))::M₀/\c'.size=cap/\HI c' l') U:=by
 refine Qb.of (args:=[_,_,_]) VF Qf S1 ?_
 repeat refine⟨rfl,?_⟩
 refine⟨I1,?_⟩
 refine⟨Nat×List Int×Array Value,λ y=>[(0,.slice (some ⟨b,0,none⟩) l.length cap),(1,.int .i64 0),(2,.int .i64 l.length),(6,.int .i64 y.1)],
  λ y U'=>(∀x o,U.I x=some o->U'.I x=some o)/\U'.tok=U.tok/\U'.M=.obj b (.cells y.2.2 3 (0,0))::M₀/\y.2.2.size=cap/\HI y.2.2 y.2.1/\y.2.1.Perm l/\Xr y.2.1 y.1/\1<=y.1/\y.1<2^41,
  λ y=>l.length-y.1,(1,l,H),T1,⟨λ _ _ h=>h,rfl,ab,af,ad,.refl _,λ p q _ _ h1 h2=>O1,by simp only;omega,by simp only;omega⟩,?_⟩
 rintro⟨i,e,c⟩f U1⟨W,X,K,F,w,E,V,G,ah⟩;simp only at K F w E V G ah
 repeat refine⟨rfl,?_⟩
 conv=>whnf
 apply Qe<;>intro P
 .have hlt:i<l.length:=by simpa using P
  have ae:Zu (i+1):=I1
  refine⟨Nat×List Int×Array Value,λ y=>[(0,.slice (some ⟨b,0,none⟩) l.length cap),(1,.int .i64 0),(2,.int .i64 l.length),(6,.int .i64 i),(7,.int .i64 y.1)],
   λ y U'=>(∀x o,U.I x=some o->U'.I x=some o)/\U'.tok=U.tok/\U'.M=.obj b (.cells y.2.2 3 (0,0))::M₀/\y.2.2.size=cap/\HI y.2.2 y.2.1/\y.2.1.Perm l/\Hp y.2.1 i y.1/\y.1<=i,
   λ y=>y.1,(i,e,c),T1,⟨W,X,K,F,w,E,.start V,by simp only;omega⟩,?_⟩
  rintro⟨j,e,c⟩f U2⟨W,X,K,F,w,E,N,hj⟩;simp only at K F w E N hj;have aj:=E.length_eq
  repeat refine⟨rfl,?_⟩
  conv=>whnf
  apply Zr<;>intro P
  .have h0:0<j:=by simp at P;omega
   have Y:e[j]?=some (e[j]' O1):=S1
   generalize e[j]' O1=x at Y;have Z:e[j-1]?=some (e[j-1]' O1):=S1
   generalize e[j-1]' O1=y at Z;have G:Zu ((j:Int)-1):=I1
   have L:(j:Int)-1=((j-1:Nat):Int):=O1
   repeat refine⟨rfl,?_⟩
   refine⟨_,j,⟨rfl,rfl,O1⟩,_,K9 K (w j x Y),?_⟩
   repeat refine⟨rfl,?_⟩
   refine⟨G,_,j-1,⟨rfl,L,O1⟩,_,K9 K (w (j-1) y Z),?_⟩
   conv=>whnf
   intro U3 B _;have z:=B.own.trans K;refine⟨Ed.any,(Bj x y).go λ _=>?_⟩
   repeat refine⟨rfl,?_⟩
   conv=>whnf
   apply Qe<;>intro P
   .have hxy:x<y:=of_decide_eq_true P;refine⟨λ U'=>(∀x o,U.I x=some o->U'.I x=some o)/\U'.tok=U.tok/\U'.M=.obj b (.cells (c.setIfInBounds j (.int .i64 y)) 3 (0,0))::M₀,λ U U'⟨a,b,c⟩T=>⟨λ x o h=>T.imm x o (a x o h),T.tok.trans b,T.own.trans c⟩,G,G,_,j-1,⟨rfl,L,O1⟩,_,K9 z (w (j-1) y Z),_,j,⟨rfl,rfl,O1⟩,_,K9 z (w j x Y),_,j,⟨rfl,rfl,O1⟩,?_⟩
    conv=>whnf
    intro U4 Q _;refine⟨⟨rfl,?_⟩,λ U5 hG=>?_⟩
    .show ZA ((Addr.mk b 0 none).add (j*1)) [.int .i64 y] 0 _ _;rw[Nat.mul_one];exact P_ [] (Q.own.trans z) O1 rfl ⟨rfl,_,.refl _,λ x o h=>Q.imm x o (B.imm x o (W x o h)),Q.tok.trans (B.tok.trans X),rfl⟩
    obtain⟨aa,ag,ac⟩:=hG;refine⟨_,j-1,⟨rfl,L,O1⟩,rfl,?_⟩;show ZA ((Addr.mk b 0 none).add ((j-1)*1)) [.int .i64 x] 0 _ _;rw[Nat.mul_one];refine P_ [] ac S3 rfl ?_;refine⟨G,?_⟩
    conv=>whnf
    exact⟨rfl,(j-1,(e.set j y).set (j-1) x,(c.setIfInBounds j (.int .i64 y)).setIfInBounds (j-1) (.int .i64 x)),⟨rfl,rfl,rfl,rfl,by rw[<- L];rfl,trivial⟩,⟨aa,ag,rfl,by simpa using F,(w.set O1 j y).set S3 (j-1) x,(Ng h0 Y Z).trans E,N.step hj h0 Y Z hxy,by simp only;omega⟩,by show j-1<j;omega⟩
   .have hxy:¬x<y:=of_decide_eq_false P;refine⟨ae,?_⟩
    conv=>whnf
    exact⟨rfl,(i+1,e,c),T1,⟨λ x o h=>B.imm x o (W x o h),B.tok.trans X,z,F,w,E,N.done hj (.inr ⟨x,y,Y,Z,O1⟩),by simp only;omega,by simp only;omega⟩,L1⟩
  .have h0:j=0:=by simp at P;omega
   conv=>whnf
   intro U3 B _;have z:=B.own.trans K
   repeat refine⟨rfl,?_⟩
   refine⟨ae,?_⟩
   conv=>whnf
   exact⟨rfl,(i+1,e,c),T1,⟨λ x o h=>B.imm x o (W x o h),B.tok.trans X,z,F,w,E,N.done hj (.inl h0),by simp only;omega,by simp only;omega⟩,L1⟩
 .have hge:l.length<=i:=by simpa using P
  repeat refine⟨rfl,?_⟩
  conv=>whnf
  exact⟨W,X,e,c,E,V.le hge,K,F,w⟩
def N6:Qb S 211 #[.slice none 0 0,.int .i64 0,.int .i64 (0:Nat)] (λ _ U'=>U'=U) U:=by
 refine(Qb.pure' (Q:=λ _=>True) (Qb.of (args:=[_,_,_]) VF Qf S1 ?_)).mono λ _ _ h=>h.2
 repeat refine⟨rfl,?_⟩
 refine⟨I1,?_⟩;refine⟨Unit,λ _=>[(2,.int .i64 (0:Nat)),(6,.int .i64 1)],λ _ U'=>U'=U,λ _=>0,(),T1,rfl,?_⟩;rintro _ f _ rfl
 repeat refine⟨rfl,?_⟩
 conv=>whnf
 exact⟨trivial,(Qa.le.refl _).lg⟩
def gf(n:Nat)(b:n<256):Qb S 192 #[.int .u64 n] (λ v U'=>(∃m,v=.int .i64 m)/\U'=U) U:=by
 refine Qb.pure' (Qb.of (args:=[_]) L9 Qf S1 ?_);refine⟨Me.any,(BC n b).mono ?_⟩;rintro _ U'⟨⟨m,rfl⟩,rfl⟩-
 repeat refine⟨rfl,?_⟩
 conv=>whnf
 exact⟨⟨_,rfl⟩,(Qa.le.refl _).lg⟩
def pg(v:Value)(l:List Int)(M₀:List Qx)(m:Int)(L:Acc 3 1 v (l.map λ n=>.int .i64 n) U.M M₀)(N:l.length<=12) :
  Qb S 191 #[v,.int .i64 0,.int .i64 l.length,.int .i64 m] (λ _ U'=>(∀x o,U.I x=some o->U'.I x=some o)/\U'.tok=U.tok/\∃l',l'.Perm l/\Xr l' l.length/\Acc 3 1 v (l'.map λ n=>.int .i64 n) U'.M M₀) U:=by
 obtain⟨sa,sc,rfl,-⟩:=SY L;refine Qb.of (args:=[_,_,_,_]) Ef Qf S1 ?_
 repeat refine⟨rfl,?_⟩
 refine⟨Unit,λ _=>[(0,.slice sa l.length sc),(1,.int .i64 0),(2,.int .i64 l.length),(3,.int .i64 m)],λ _ U'=>U'=U,λ _=>0,(),T1,rfl,?_⟩;rintro _ f U' e;obtain rfl:=e.symm
 repeat refine⟨rfl,?_⟩
 refine⟨I1,?_⟩
 repeat refine⟨rfl,?_⟩
 conv=>whnf
 apply Qe<;>intro W
 .conv=>whnf
  rcases L with⟨B,z,E⟩|⟨b,c,len,cap,B,z,K,h4,E,T⟩
  .rw[map_eq_nil_iff]at z;subst z;cases B;refine⟨VF.any,N6.mono ?_⟩;rintro _ U' e -;obtain rfl:=e.symm
   repeat refine⟨rfl,?_⟩
   conv=>whnf
   exact⟨λ _ _ h=>h,rfl,[],.refl _,λ p q _ _ B z=>by simp at z,.inl ⟨rfl,rfl,E⟩⟩
  .cases B;refine⟨VF.any,(gD b sc l c M₀ E K O1 (λ k x w=>T k _ (by simp[w])) O1).mono ?_⟩;rintro v U'⟨V,Z,l',Q,P,X,F,Y,G⟩-
   repeat refine⟨rfl,?_⟩
   refine⟨V,Z,l',P,X,.inr ⟨b,Q,l.length,sc,rfl,by simp[P.length_eq],K,O1,F,λ k x w=>?_⟩⟩;rw[getElem?_map]at w;cases H:l'[k]? with
   |none=>rw[H]at w;cases w
   |some y=>rw[H]at w;cases w;exact G k y H
 .simp at W;omega
def wL(v:Value)(l:List Int)(M₀:List Qx)(f:Acc 3 1 v (l.map λ n=>.int .i64 n) U.M M₀)(b:l.length<=12) :
  Qb S 151 #[v] (λ _ U'=>(∀x o,U.I x=some o->U'.I x=some o)/\U'.tok=U.tok/\∃l',l'.Perm l/\Xr l' l.length/\Acc 3 1 v (l'.map λ n=>.int .i64 n) U'.M M₀) U:=by
 obtain⟨sa,sc,rfl,-⟩:=SY f;refine Qb.of (args:=[_]) IM Qf S1 ?_
 have z:IntKind.wrap .u64 (l.length:Int)=l.length:=by
  have h:(2:Int)^64=18446744073709551616:=D1
  simp only[IntKind.wrap,IntKind.bits,IntKind.signed,Bool.false_and,h];simp;omega
 conv=>whnf
 rw[z];refine⟨L9.any,(gf l.length O1).mono ?_⟩;rintro _ U'⟨⟨m,rfl⟩,e⟩-;obtain rfl:=e.symm;refine⟨Ef.any,(pg _ l M₀ m f b).mono ?_⟩;rintro v U' w -;cases v <;> (conv=>whnf) <;> exact w
end Go.Proofs
namespace Go.TM
def Fl(a b:ByteArray):(a==b)=decide (a=b):=by
 rw[Bool.eq_iff_iff]
 cases a with|mk x=>cases b with|mk y=>
 show(ByteArray.beq ⟨x⟩ ⟨y⟩)=true↔_;simp[ByteArray.beq]
def RA{l:List Int}{i:Nat}{x:Int}(b:l[i]?=some x):(if i+1=0 then none else l[i+1-1]?)=some x:=by simpa using b
def ZT:Nat->List ByteArray->List (ByteArray×Value)
 |_,[]=>[]
 |j,s::l=>(s,.int .i64 j)::ZT (j+1) l
def Tf(s:ByteArray):∀(l:List ByteArray)(j i:Nat),if QR l s then ∃n:Int,(QM s (ZT j l) i).map (·.2)=some (.int .i64 n)else(QM s (ZT j l) i).map (·.2)=none
 |[],_,_=>rfl
 |a::l,j,i=>by
  simp only[ZT,QM,QR,any_cons];by_cases e:s=a
  .simp[e]
  .rw[if_neg e];have h:=Tf s l (j+1) (i+1);simp only[QR]at h;rw[show decide (a=s)=false from decide_eq_false (Ne.symm e),Bool.false_or];exact h
def kA{s:ByteArray}{l:List ByteArray}(h:QR l s=true):∃n:Int,lk s (ZT 0 l)=some (.int .i64 n):=by
 have:=Tf s l 0 0
 rwa [if_pos h]at this
def wB{s:ByteArray}{l:List ByteArray}(h:QR l s=false):lk s (ZT 0 l)=none:=by
 have:=Tf s l 0 0
 rwa [h]at this
def Em(s:ByteArray):∀(l:List ByteArray)(j:Nat),QR l s=false->ZF s (.int .i64 ((j+l.length:Nat):Int)) (ZT j l)=ZT j (l++[s])
 |[],j,_=>rfl
 |a::l,j,h=>by
  simp only[QR,any_cons,Bool.or_eq_false_iff,decide_eq_false_iff_not]at h;simp only[ZT,cons_append,ZF];rw[if_neg (λ e=>h.1 e.symm),<- Em s l (j+1) h.2];congr 4;simp;omega
end Go.TM
namespace Go.Proofs
open Go.TM
variable{T:Type}{S:TM.Sys prog T}{U:Qa T}
attribute [local irreducible] Qb Zl Wt
def L6(a:Option Addr)(len cap:Nat)(l:List Int)(F:Z5 U a len l)(K:len<2^60)(n:Nat)(Z:n<2^60) :
  Qb S 92 #[.slice a len cap,.int .i64 n] (λ v U'=>v=.int .i64 (J1 n none l)/\U'=U) U:=by
 refine Qb.of (args:=[_,_]) YV Qf S1 ?_;have V:=F.1
 repeat refine⟨rfl,?_⟩
 refine⟨Nat,λ i=>[(0,.slice a len cap),(1,.int .i64 n),(7,.slice a len cap),(8,.int .i64 len),(9,.int .i64 i)],
  λ i U'=>U'=U/\i<=len/\J1 n none l=J1 n (if i=0 then none else l[i-1]?) (l.drop i),λ i=>len-i,0,T1,⟨rfl,O1,rfl⟩,?_⟩
 rintro i f _⟨rfl,Y,b⟩;have w:Zu ((i:Int)+1):=I1
 have z:Zu ((n:Int)-1):=I1
 repeat refine⟨rfl,?_⟩
 conv=>whnf
 apply Qe<;>intro e
 .have hlt:i<len:=by simpa using e
  obtain⟨H,x,M,rfl,X,W⟩:=F.at hlt;rw[WT M,Wm]at b;refine⟨H,i,⟨rfl,rfl,hlt⟩,_,W,z,GG.any,(Wu _ _ _ _).mono ?_⟩;rintro v U'⟨rfl,rfl⟩-;cases I:btw x 0 ((n:Int)-1)with
  |false=>
   rw[I]at b
   repeat refine⟨rfl,?_⟩
   conv=>whnf
   exact⟨by rw[b];rfl,rfl⟩
  |true=>
   rw[if_pos I]at b;have next:J1 n none l=J1 n (some x) (l.drop (i+1))->J1 n none l=J1 n (if i+1=0 then none else l[i+1-1]?) (l.drop (i+1)):=λ h=>by rw[RA M];exact h
   repeat refine⟨rfl,?_⟩
   conv=>whnf
   apply Zr<;>intro e
   .have h0:0<i:=by simpa using e
    obtain⟨y,N⟩:∃y,l[i-1]?=some y:=⟨_,getElem?_eq_getElem O1⟩;rw[if_neg O1,N]at b;have B:Zu ((i:Int)-1):=I1
    have Q:((i:Int)-1)=((i-1:Nat):Int):=O1
    obtain⟨P,y',E,T,L,G⟩:=F.at (show i-1<len by omega);cases T;rw[N]at E;cases E;simp only at b;refine⟨B,H,i-1,⟨rfl,Q,O1⟩,_,G,?_⟩
    repeat refine⟨rfl,?_⟩
    conv=>whnf
    apply Qe<;>intro e
    .have h1:x<=y:=by simpa using e
     repeat refine⟨rfl,?_⟩
     conv=>whnf
     rw[if_pos h1]at b;exact⟨by rw[b],rfl⟩
    .have h1:¬x<=y:=by simpa using e
     rw[if_neg h1]at b;refine⟨w,?_⟩
     conv=>whnf
     exact⟨rfl,i+1,T1,⟨rfl,O1,next b⟩,L1⟩
   .have h0:i=0:=by simp at e;omega
    rw[if_pos h0]at b;simp only at b
    repeat refine⟨rfl,?_⟩
    refine⟨w,?_⟩
    conv=>whnf
    exact⟨rfl,i+1,T1,⟨rfl,O1,next b⟩,L1⟩
 .have hge:len<=i:=by simpa using e
  rw[drop_eq_nil_of_le O1]at b
  repeat refine⟨rfl,?_⟩
  conv=>whnf
  exact⟨by rw[b];rfl,rfl⟩
def Im:WJ T prog 9 Value.string:=by
 refine .simple (d:=.string) K1 rfl (λ k k'=>?_) (λ k=>?_)
 .show some (k==k')=_;rw[Fl]
 .simp[Instr.sameBits,Fl]
def UR:prog.underlying 156=some (.map 9 3):=K1
def HW:Xq prog 3=some (.int .i64 0):=K1
def D4(mb:Nat)(seen:List ByteArray)(s:ByteArray)(h:s.size<2^60)(M₀:List Qx)(b:U.M=.obj mb (Qt Value.string (ZT 0 seen))::M₀) :
  Qb S 277 #[.map (some mb),.string s,.int .i64 seen.length] (λ v U'=>v=.int .i64 (if Qu s then(if QR seen s then 5 else 0)else 4)/\U'={ U with M:=.obj mb (Qt Value.string (ZT 0 (if Qu s&&!QR seen s then seen++[s]else seen)))::M₀ }) U:=by
 refine Qb.of (args:=[_,_,_]) Oo Qf S1 ?_;refine⟨En.any,(qv s h).mono ?_⟩;rintro v U'⟨rfl,e⟩-;obtain rfl:=e.symm;cases B:Qu s with
 |false=>
  repeat refine⟨rfl,?_⟩
  conv=>whnf
  show _={ U with M:=.obj mb (Qt Value.string (ZT 0 seen))::M₀ };rw[<- b]
 |true=>
  conv=>whnf
  refine TT (k:=s) (l:=ZT 0 seen) Im UR HW rfl rfl (.inr (by rw[b];exact mem_cons_self ..)) ?_;cases f:QR seen s with
  |true=>
   obtain⟨w,z⟩:=kA f;rw[z]
   repeat refine⟨rfl,?_⟩
   conv=>whnf
   show _={ U with M:=.obj mb (Qt Value.string (ZT 0 seen))::M₀ };rw[<- b]
  |false=>
   rw[wB f]
   conv=>whnf
   refine Uv (v:=.int .i64 seen.length) (k:=s) (l:=ZT 0 seen) (M':=.obj mb (Qt Value.string (ZT 0 (seen++[s])))::M₀) Im UR rfl rfl rfl (by rw[b,<- Em s seen 0 f,Nat.zero_add];exact .here) ?_
   repeat refine⟨rfl,?_⟩
   conv=>whnf
   rfl
def jL(h:BH)(b:Bk)(Q:Zq U h b):Qb S 275 #[h.v] (λ v U'=>v=.int .i64 (b.rsF Qu)/\U'=U) U:=by
 refine Qb.pure' (Qb.of (args:=[_]) IK Qf S1 ?_);have L:=Q.rs.1;have aa:=Q.rl
 repeat refine⟨rfl,?_⟩
 conv=>whnf
 intro B U1 F P;have P:Zi U1 B #[.slice h.ra h.rl h.rc,.slice h.ca h.cl h.cc]:=P;refine⟨_,P.sees3 (o:=0) rfl,?_⟩
 repeat refine⟨rfl,?_⟩
 conv=>whnf
 apply Qe<;>intro K
 .have w:b.rs.length > 6:=by rw[L];simp at K;omega
  repeat refine⟨rfl,?_⟩
  conv=>whnf
  exact⟨by unfold Bk.rsF;rw[if_pos w],F.lg⟩
 have w:¬b.rs.length > 6:=by rw[L];simp at K;omega
 have G:b.rsF Qu=Xl Qu [] b.rs:=by unfold Bk.rsF;rw[if_neg w]
 rw[G]
 conv=>whnf
 refine Pu Value.string λ mb ab=>?_;refine⟨_,Qa.sees.lg (P.sees3 (o:=0) rfl) (Z4 mb _),Nat×List ByteArray,λ y=>[(1,.pointer (some ⟨B,0,none⟩)),(3,.map (some mb)),(15,.slice h.ra h.rl h.rc),(16,.int .i64 h.rl),(17,.int .i64 y.1)],
  λ y U'=>U.lg U'/\U'.M=.obj mb (Qt Value.string (ZT 0 y.2))::U.M/\y.1<=h.rl/\y.2.length=y.1/\Xl Qu [] b.rs=Xl Qu y.2 (b.rs.drop y.1),
  λ y=>h.rl-y.1,(0,[]),T1,⟨F.lg.trans (Z4 _ _),?_,S1,rfl,S1⟩,?_⟩
 .show _::_=_;rw[F.own];rfl
 rintro⟨i,s⟩f U2⟨E,hM,hi,N,e⟩;simp only at hM hi N e;have W:Zu ((i:Int)+1):=I1
 repeat refine⟨rfl,?_⟩
 conv=>whnf
 apply Qe<;>intro K
 .have hlt:i<h.rl:=by simpa using K
  obtain⟨ad,x,vs,hx,T,ac,rfl,-,Y⟩:=(Q.rs.lg E λ _ _ h=>h).at hlt;rw[WT hx,Xl]at e;have Z:=Q.rn x (mem_of_getElem? hx);refine⟨ad,i,⟨T,rfl,hlt⟩,_,Y 0 _ rfl,?_⟩;subst N;refine⟨Oo.any,(D4 mb s x Z U.M hM).mono ?_⟩;rintro _ U'⟨rfl,I⟩-;have z:U.lg U':=I▸⟨E.imm,⟨[_],rfl⟩,E.tok⟩;have H:U'.M=.obj mb (Qt Value.string (ZT 0 (if Qu x&&!QR s x then s++[x]else s)))::U.M:=by rw[I]
  cases X:Qu x with
  |false=>
   rw[X]at e
   repeat refine⟨rfl,?_⟩
   conv=>whnf
   exact⟨by rw[e];rfl,z⟩
  |true=>
   rw[if_pos X]at e;cases V:QR s x with
   |true=>
    rw[if_pos V]at e
    repeat refine⟨rfl,?_⟩
    conv=>whnf
    exact⟨by rw[e];rfl,z⟩
   |false=>
    rw[V]at e;rw[X,V]at H
    repeat refine⟨rfl,?_⟩
    refine⟨W,rfl,(s.length+1,s++[x]),T1,⟨z,H,by show s.length+1<=h.rl;omega,S1,e⟩,L1⟩
 .have hge:h.rl<=i:=by simpa using K
  rw[drop_eq_nil_of_le O1]at e
  repeat refine⟨rfl,?_⟩
  conv=>whnf
  exact⟨by rw[e];rfl,E⟩
end Go.Proofs
namespace Go.TM
def ZZ{n:Nat}(h:n<2^63):IntKind.wrap .i64 (n:Int)=n:=by
 have e:(2:Int)^64=18446744073709551616:=D1
 have f:(2:Int)^63=9223372036854775808:=D1
 have b:(2:Nat)^63=9223372036854775808:=D1
 rw[b]at h;simp only[IntKind.wrap,IntKind.bits,IntKind.signed];simp;omega
def G1(n:Nat):BitVec.ofInt 64 (n:Int)=BitVec.ofNat 64 n:=BitVec.ofInt_natCast _ _
def Db{n:Nat}(h:n<60):IntKind.wrap .i64 ((1:Int)*2^(min ((n:Int).toNat) 64))=((1<<<n:Nat):Int):=by
 have b:min ((n:Int).toNat) 64=n:=by rw[Int.toNat_natCast];omega
 have e:(1<<<n:Nat)<2^63:=by rw[Nat.one_shiftLeft];exact Nat.pow_lt_pow_right O1 O1
 have f:(1:Int)*(2:Int)^n=((1<<<n:Nat):Int):=by rw[Nat.one_shiftLeft];simp
 rw[b,f,ZZ e]
def Is{a b:Nat}(w:a<2^60)(z:b<2^60):IntKind.wrap .i64 ((BitVec.ofInt 64 (a:Int)||| BitVec.ofInt 64 (b:Int)).toNat:Int)=((a||| b:Nat):Int):=by
 have h:(a||| b)<2^60:=Nat.or_lt_two_pow w z;have e:(2:Nat)^60<2^63:=Nat.pow_lt_pow_right O1 O1;have f:(2:Nat)^63<2^64:=Nat.pow_lt_pow_right O1 O1;rw[G1,G1,BitVec.toNat_or,BitVec.toNat_ofNat,BitVec.toNat_ofNat,Nat.mod_eq_of_lt O1,Nat.mod_eq_of_lt O1,ZZ O1]
def SS{a b:Nat}(w:a<2^60)(z:b<2^60):IntKind.wrap .i64 ((BitVec.ofInt 64 (a:Int)&&&BitVec.ofInt 64 (b:Int)).toNat:Int)=((a&&&b:Nat):Int):=by
 have h:(a&&&b)<2^60:=Nat.lt_of_le_of_lt Nat.and_le_left w;have e:(2:Nat)^60<2^63:=Nat.pow_lt_pow_right O1 O1;have f:(2:Nat)^63<2^64:=Nat.pow_lt_pow_right O1 O1;rw[G1,G1,BitVec.toNat_and,BitVec.toNat_ofNat,BitVec.toNat_ofNat,Nat.mod_eq_of_lt O1,Nat.mod_eq_of_lt O1,ZZ O1]
def Of{a b:Nat}(H:a<2^60)(E:b<2^60):(IntKind.wrap .i64 ((BitVec.ofInt 64 (a:Int)&&&~~~BitVec.ofInt 64 (b:Int)).toNat:Int)=0↔∀k,a.testBit k=true->b.testBit k=true):=by
 have F:(2:Nat)^60<2^63:=Nat.pow_lt_pow_right O1 O1;have G:(2:Nat)^63<2^64:=Nat.pow_lt_pow_right O1 O1
 have z:(BitVec.ofNat 64 a&&&~~~BitVec.ofNat 64 b).toNat<2^63:=by
  rw[BitVec.toNat_and];refine Nat.lt_of_le_of_lt Nat.and_le_left ?_;rw[BitVec.toNat_ofNat,Nat.mod_eq_of_lt O1];omega
 rw[G1,G1,ZZ z];constructor
 .intro h k f
  have w:BitVec.ofNat 64 a&&&~~~BitVec.ofNat 64 b=0#64:=by
   apply BitVec.eq_of_toNat_eq;simpa using h
  have e:k<64:=by
   apply Classical.byContradiction;intro I;have:a<2^k:=Nat.lt_of_lt_of_le H (Nat.pow_le_pow_right O1 O1);rw[Nat.testBit_lt_two_pow this]at f;cases f
  have B:(BitVec.ofNat 64 a&&&~~~BitVec.ofNat 64 b).getLsbD k=false:=by rw[w];simp
  rw[BitVec.getLsbD_and,BitVec.getLsbD_not,BitVec.getLsbD_ofNat,BitVec.getLsbD_ofNat,f]at B;simpa[e]using B
 .intro h
  have w:BitVec.ofNat 64 a&&&~~~BitVec.ofNat 64 b=0#64:=by
   apply BitVec.eq_of_getLsbD_eq;intro k f;rw[BitVec.getLsbD_and,BitVec.getLsbD_not,BitVec.getLsbD_ofNat,BitVec.getLsbD_ofNat];cases E:a.testBit k with
   |false=>simp
   |true=>simp[h k E]
  rw[w];rfl
def YT{a n:Nat}(h:n<60):Int.fdiv (a:Int) (2^(min ((n:Int).toNat) 64))=((a>>>n:Nat):Int):=by
 have b:min ((n:Int).toNat) 64=n:=by rw[Int.toNat_natCast];omega
 rw[b,Nat.shiftRight_eq_div_pow];have e:((2:Int)^n)=((2^n:Nat):Int):=S1
 rw[e,Int.fdiv_eq_ediv_of_nonneg _ (Int.natCast_nonneg _)];simp
def HX{a n:Nat}(f:a<2^60)(h:n<60):(IntKind.wrap .i64 ((BitVec.ofInt 64 (Int.fdiv (a:Int) (2^(min ((n:Int).toNat) 64)))&&&BitVec.ofInt 64 1).toNat:Int)==1)=a.testBit n:=by
 have e:a>>>n<2^60:=Nat.lt_of_le_of_lt (Nat.shiftRight_le a n) f;have b:=SS e (show 1<2^60 by decide);rw[YT h];rw[show((1:Nat):Int)=1 from rfl]at b;rw[b,Nat.and_one_is_mod];rw[Bool.eq_iff_iff,beq_iff_eq,Nat.testBit];simp only[Nat.one_and_eq_mod_two,bne_iff_ne];omega
def Yn{n:Nat}(h:n<60):IntKind.wrap .i64 ((1:Int)*2^(min ((n:Int).toNat) (IntKind.bits .i64)))=((1<<<n:Nat):Int):=Db h
def OQ{a b:Nat}(e:a<2^60)(f:b<2^60):IntKind.wrap .i64 ((BitVec.ofInt (IntKind.bits .i64) (a:Int)||| BitVec.ofInt (IntKind.bits .i64) (b:Int)).toNat:Int)=((a||| b:Nat):Int):=Is e f
def Hz{l:List Nat}{m:Nat}(h:∀x∈l,x<m):Z7 l<2^m:=by
 apply Nat.lt_pow_two_of_testBit;intro i e;rw[Wz,contains_eq_any_beq,any_eq_false];intro x b;have:=h x b;simp;omega
def qQ(l:List Nat)(x:Nat):Z7 (l++[x])=Z7 l||| (1<<<x):=by simp[Z7]
def Pe{x m:Nat}(h:x<m):(1<<<x:Nat)<2^m:=by rw[Nat.one_shiftLeft];exact Nat.pow_lt_pow_right O1 h
structure Bk.Low(b:Bk):Prop where
 nc:b.cs.length<=5
 af:∀c∈b.cs,∀n∈c.af,0<=n/\n<b.nc
def Bk.Ok.toLow{b:Bk}(h:b.Ok):b.Low:=⟨h.nc,h.af⟩
def Bk.Low.lt{b:Bk}(h:b.Low){c:Cs}(e:c∈b.cs):∀n∈c.af,0<=n/\n<60:=λ n f=>by
 have:=h.af c e n f;have:=h.nc;unfold Bk.nc at *;omega
def Bk.A_len(b:Bk):b.A.length=b.cs.length:=by simp[Bk.A]
def Bk.aft1_at{b:Bk}{i:Nat}{c:Cs}(h:b.cs[i]?=some c):Je b.A i=c.af.map Int.toNat:=by
 simp[Je,Bk.A,getD_eq_getElem?_getD,h]
def toNat_lt{l:List Int}{m:Nat}(h:∀n∈l,0<=n/\n<m):∀x∈l.map Int.toNat,x<m:=by
 intro x e;obtain⟨n,b,rfl⟩:=mem_map.1 e;have:=h n b;omega
def oI{α:Type}(f:α->Nat->α)(a:α)(i:Nat):(range (i+1)).foldl f a=f ((range i).foldl f a) i:=by
 rw[range_succ,foldl_append];rfl
def AH{A:List (List Nat)}{d i m:Nat}(b:d<2^m)(e:i<m):WD A d i<2^m:=by
 unfold WD;split
 .exact Nat.or_lt_two_pow b (Pe e)
 .exact b
def YN{A:List (List Nat)}{m:Nat}:∀(l:List Nat)(d:Nat),(∀i∈l,i<m)->d<2^m->l.foldl (WD A) d<2^m
 |[],_,_,h=>h
 |x::l,d,b,h=>YN l _ (λ i e=>b i (mem_cons_of_mem _ e)) (AH h (b x (mem_cons_self ..)))
def Bk.dn(b:Bk)(r j:Nat):Nat:=(range j).foldl (WD b.A) (JY b.A r)
def Bk.dn_succ(b:Bk)(r j:Nat):b.dn r (j+1)=WD b.A (b.dn r j) j:=oI _ _ _
def Bk.dn_end(b:Bk)(r:Nat):b.dn r b.cs.length=JY b.A (r+1):=by rw[<- Bk.A_len];rfl
def zF{A:List (List Nat)}(k:Nat):JY A k<2^A.length:=by
 induction k with
 |zero=>exact Nat.two_pow_pos _
 |succ k e=>exact YN _ _ (λ i b=>mem_range.1 b) e
def Bk.dn_lt{b:Bk}(r:Nat){j:Nat}(f:b.cs.length<=5)(h:j<=b.cs.length):b.dn r j<2^5:=
 YN _ _ (λ i e=>by have:=mem_range.1 e;omega) (Nat.lt_of_lt_of_le (zF r) (Nat.pow_le_pow_right O1 (by rw[b.A_len];omega)))
end Go.TM
namespace Go.Proofs
open Go.TM
variable{T:Type}{S:TM.Sys prog T}{U:Qa T}
attribute [local irreducible] Qb Zl Wt
def Ja(a:Option Addr)(len cap:Nat)(l:List Int)(B:Z5 U a len l)(E:len<2^60)(e:∀n∈l,0<=n/\n<60) :
  Qb S 68 #[.slice a len cap] (λ v U'=>v=.int .i64 (Z7 (l.map Int.toNat):Nat)/\U'=U) U:=by
 refine Qb.of (args:=[_]) XT Qf S1 ?_;have I:=B.1
 repeat refine⟨rfl,?_⟩
 refine⟨Nat,λ i=>[(3,.int .i64 (Z7 ((l.take i).map Int.toNat):Nat)),(6,.slice a len cap),(7,.int .i64 len),(8,.int .i64 i)],
  λ i U'=>U'=U/\i<=len,λ i=>len-i,0,T1,⟨rfl,O1⟩,?_⟩
 rintro i f _⟨rfl,N⟩;have h:Zu ((i:Int)+1):=I1
 repeat refine⟨rfl,?_⟩
 conv=>whnf
 apply Qe<;>intro w
 .have hlt:i<len:=by simpa using w
  obtain⟨G,x,F,rfl,M,L⟩:=B.at hlt;have b:=e x (mem_of_getElem? F);obtain⟨k,rfl⟩:=Int.eq_ofNat_of_zero_le b.1;have z:k<60:=O1
  have H:Z7 ((l.take i).map Int.toNat)<2^60:=Hz (toNat_lt λ n K=>e n (mem_of_mem_take K))
  have key:Value.int .i64 (IntKind.wrap .i64 ((BitVec.ofInt 64 ((Z7 ((l.take i).map Int.toNat):Nat):Int)||| BitVec.ofInt 64 (IntKind.wrap .i64 ((1:Int)*2^(min ((k:Int).toNat) 64)))).toNat:Int))=.int .i64 (Z7 ((l.take (i+1)).map Int.toNat):Nat):=by
   rw[Db z,Is H (Pe z),Ji F,map_append,map_singleton,Int.toNat_natCast,qQ]
  refine⟨G,i,⟨rfl,rfl,hlt⟩,_,L,b.1,?_⟩
  repeat refine⟨rfl,?_⟩
  refine⟨h,?_⟩
  conv=>whnf
  exact⟨rfl,i+1,⟨key,rfl,rfl,rfl,trivial⟩,⟨rfl,O1⟩,L1⟩
 .have hge:len<=i:=by simpa using w
  repeat refine⟨rfl,?_⟩
  conv=>whnf
  exact⟨by rw[take_of_length_le O1],rfl⟩
end Go.Proofs
namespace Go.TM
def OO{d:Nat}{l:List Int}(h:∀n∈l,0<=n/\n<60):(∀k,(Z7 (l.map Int.toNat)).testBit k=true->d.testBit k=true)↔((l.map Int.toNat).all λ k=>d.testBit k)=true:=by
 rw[all_eq_true];constructor
 .intro g k hk;exact g k (by rw[Wz];simpa using hk)
 .intro g k hk;rw[Wz]at hk;exact g k (by simpa using hk)
def Zq.case{T:Type}{U:Qa T}{h:BH}{b:Bk}(k:Zq U h b){i:Nat}(K:i<h.cl) :
  ∃e c ga gl gc f al ac,b.cs[i]?=some c/\h.ca=some e/\e.spot=none/\Jn U (e.add (i*4)) [.string c.nm,.int .i64 c.ag,.slice ga gl gc,.slice f al ac]/\J3 U ga gl c.gs/\gl<2^60/\Z5 U f al c.af/\al<2^60/\c∈b.cs:=by
 obtain⟨e,c,vs,E,w,B,⟨ga,gl,gc,f,al,ac,rfl,F,G,H,I⟩,-,z⟩:=k.cs.at K;exact⟨e,c,ga,gl,gc,f,al,ac,E,w,B,z,F,G,H,I,mem_of_getElem? E⟩
def Zq.right{T:Type}{U:Qa T}{h:BH}{b:Bk}(k:Zq U h b){i:Nat}(E:i<h.rl) :
  ∃e s,b.rs[i]?=some s/\h.ra=some e/\e.spot=none/\U.sees ((e.add (i*1)).add 0) (.string s)/\s∈b.rs:=by
 obtain⟨e,s,vs,B,f,z,rfl,-,w⟩:=k.rs.at E;exact⟨e,s,B,f,z,w 0 _ rfl,mem_of_getElem? B⟩
end Go.TM
namespace Go.Proofs
open Go.TM
variable{T:Type}{S:TM.Sys prog T}{U:Qa T}
attribute [local irreducible] Qb Zl Wt
def U_(h:BH)(b:Bk)(hb:Zq U h b)(Y:b.Low):Qb S 101 #[h.v] (λ v U'=>v=.int .i64 (if Wq b.A then 8 else 0)/\U'=U) U:=by
 refine Qb.pure' (Qb.of (args:=[_]) Te Qf S1 ?_);have V:=hb.cs.1;have hA:=b.A_len;have h5:=Y.nc
 repeat refine⟨rfl,?_⟩
 conv=>whnf
 intro B U1 L P;have P:Zi U1 B #[.slice h.ra h.rl h.rc,.slice h.ca h.cl h.cc]:=P;refine⟨_,P.sees3 (o:=1) rfl,Nat,λ r=>[(1,.pointer (some ⟨B,0,none⟩)),(3,.int .i64 (JY b.A r:Nat)),(9,.int .i64 h.cl),(10,.int .i64 r)],
  λ r U'=>U1.lg U'/\r<=h.cl,λ r=>h.cl-r,0,T1,⟨(Qa.le.refl _).lg,O1⟩,?_⟩
 rintro r f U2⟨F,hr⟩;have X:Zu ((r:Int)+1):=I1
 repeat refine⟨rfl,?_⟩
 conv=>whnf
 apply Qe<;>intro E
 .have hrt:r<h.cl:=by simpa using E
  refine⟨_,(P.lg F).sees3 (o:=1) rfl,Nat,λ j=>[(1,.pointer (some ⟨B,0,none⟩)),(3,.int .i64 (b.dn r j:Nat)),(9,.int .i64 h.cl),(10,.int .i64 r),(14,.slice h.ca h.cl h.cc),(15,.int .i64 h.cl),(16,.int .i64 j)],
   λ j U'=>U1.lg U'/\j<=h.cl,λ j=>h.cl-j,0,T1,⟨F,O1⟩,?_⟩
  rintro j f U3⟨z,hj⟩;have I:Zu ((j:Int)+1):=I1
  have hd:b.dn r j<2^5:=Bk.dn_lt r h5 O1;have H:b.dn r j<2^60:=Nat.lt_trans hd D1;have w:=b.dn_succ r j
  repeat refine⟨rfl,?_⟩
  conv=>whnf
  apply Qe<;>intro E
  .have hjt:j<h.cl:=by simpa using E
   obtain⟨ad,c,ga,gl,gc,aa,al,ac,hx,aj,au,aq,-,-,ha,ae,Z⟩:=(hb.lg (L.lg.trans z)).case hjt;have K:=Y.lt Z;have ah:=Bk.aft1_at hx;refine⟨ad,j,⟨aj,rfl,hjt⟩,_,⟨rfl,aq⟩,?_⟩
   conv=>whnf
   intro b5 am;refine⟨_,.refl _,rfl,Zt (vs:=[.string c.nm,.int .i64 c.ag,.slice ga gl gc,.slice aa al ac]) am rfl (by simp[Value.single]) λ U4 Q T=>?_⟩;have G:=z.trans Q.lg;refine⟨_,T.sees3 (o:=3) rfl,XT.any,(Ja aa al ac c.af (ha.lg Q.lg) ae K).go λ _=>?_⟩;have ai:Z7 (c.af.map Int.toNat)<2^60:=Hz (toNat_lt K);have key:_↔(Je b.A j).all (λ k=>(b.dn r j).testBit k)=true:=(Of ai H).trans ((OO K).trans (by rw[ah]))
   repeat refine⟨rfl,?_⟩
   conv=>whnf
   apply Qe<;>intro E
   .have hall:(Je b.A j).all (λ k=>(b.dn r j).testBit k)=true:=key.1 (eq_of_beq E);have M:WD b.A (b.dn r j) j=b.dn r j||| (1<<<j):=by unfold WD;rw[if_pos hall]
    rw[M]at w;refine⟨O1,?_⟩
    repeat refine⟨rfl,?_⟩
    refine⟨I,?_⟩
    conv=>whnf
    have e2:IntKind.wrap .i64 ((BitVec.ofInt (IntKind.bits .i64) ((b.dn r j:Nat):Int)||| BitVec.ofInt (IntKind.bits .i64) (IntKind.wrap .i64 ((1:Int)*2^(min ((j:Int).toNat) (IntKind.bits .i64))))).toNat:Int)=((b.dn r (j+1):Nat):Int):=by
     rw[Yn O1,OQ H (Pe O1),<- w]
    exact⟨rfl,j+1,⟨rfl,congrArg (Value.int .i64) e2,rfl,rfl,rfl,rfl,rfl,trivial⟩,⟨G,O1⟩,L1⟩
   .have hall:(Je b.A j).all (λ k=>(b.dn r j).testBit k)=false:=by
     cases hh:(Je b.A j).all (λ k=>(b.dn r j).testBit k)with
     |false=>rfl
     |true=>exact absurd (key.2 hh) (ne_of_beq_false E)
    have M:WD b.A (b.dn r j) j=b.dn r j:=by unfold WD;rw[hall];rfl
    rw[M]at w;refine⟨I,?_⟩
    conv=>whnf
    exact⟨rfl,j+1,⟨rfl,congrArg (λ q:Nat=>Value.int .i64 (q:Int)) w.symm,rfl,rfl,rfl,rfl,rfl,trivial⟩,⟨G,O1⟩,L1⟩
  .have hge:h.cl<=j:=by simpa using E
   obtain rfl:j=h.cl:=O1
   have N:b.dn r h.cl=JY b.A (r+1):=by rw[<- V];exact b.dn_end r
   refine⟨X,?_⟩
   conv=>whnf
   exact⟨rfl,r+1,⟨rfl,congrArg (λ q:Nat=>Value.int .i64 (q:Int)) N,rfl,rfl,trivial⟩,⟨z,O1⟩,L1⟩
 .have hge:h.cl<=r:=by simpa using E
  obtain rfl:r=h.cl:=O1
  have e1:IntKind.wrap .i64 ((1:Int)*2^(min ((h.cl:Int).toNat) (IntKind.bits .i64)))=((1<<<h.cl:Nat):Int):=Yn O1;have ap:=@Pe h.cl 6 O1;have ab:0<1<<<h.cl:=by rw[Nat.one_shiftLeft];exact Nat.two_pow_pos _
  have an:Wq b.A=decide (JY b.A h.cl≠1<<<h.cl-1):=by unfold Wq;rw[hA,V,<- Nat.one_shiftLeft]
  rw[an];generalize(1<<<h.cl:Nat)=q at e1 ap ab
  have W:Zu (IntKind.wrap .i64 ((1:Int)*2^(min ((h.cl:Int).toNat) (IntKind.bits .i64)))-1):=by
   rw[e1];unfold Zu;omega
  refine⟨_,(P.lg F).sees3 (o:=1) rfl,O1,W,?_⟩
  repeat refine⟨rfl,?_⟩
  conv=>whnf
  apply Qe<;>intro E
  .rw[e1]at E
   have ao:JY b.A h.cl≠q-1:=by
    intro e;rw[e]at E;simp at E;omega
   rw[decide_eq_true ao]
   repeat refine⟨rfl,?_⟩
   conv=>whnf
   exact L.lg.trans F
  .rw[e1]at E
   have ak:¬JY b.A h.cl≠q-1:=by
    simp at E;omega
   rw[decide_eq_false ak]
   repeat refine⟨rfl,?_⟩
   conv=>whnf
   exact L.lg.trans F
end Go.Proofs
namespace Go.TM
variable{T:Type}{P:Program}{S:Sys P T}{f:Fm}{K:Value->Qa T->Prop}{U:Qa T}
def TY{t e N len i:Nat}{d:TypeDesc}{k:IntKind}{cs:Array Value}{v:Value}{x y:Operand}{b:TypeInfo}(H:P.underlying t=some (.array len e))(E:P.underlying e=some d)(w:TypeDesc.agg d=false)(F:P.info? e=some b)(z:b.size=1)
  (L:Zj f x=.agg cs) (M:Zj f y=.int k i) (G:i<len) (I:cs[i]?=some v) (h:K v U) :
  OX S (.raw { dst:=none,op:=.index t x y,type:=N,pos := "", after:=#[],guard:=none }) f K U:=by
 intro a' B;simp only[execOp,B,L,M];refine rq ?_;simp only[Instr.index,Qd,asIntOf,Qk,Zg H];rw[if_pos O1];simp only[Qd,Jh F,z,Nat.mul_one,Int.toNat_natCast];simp only[part,Qd,Hi E,w,Bool.false_eq_true,if_false,I];exact⟨U,.refl _,h⟩
def YB:Array Value:=#[.func (.func 275) #[] #[],.func (.func 276) #[] #[],.func (.func 101) #[] #[]]
def WA(U:Qa T):Prop:=Zi U 0 YB
def WA.lg{U':Qa T}(h:WA U)(k:U.lg U'):WA U':=Zi.lg h k
def Bk.low_of{nameB:ByteArray->Bool}{b:Bk}(h:b.csF nameB=0):b.Low:=by
 unfold Bk.csF at h;split at h
 .cases h
 .exact⟨O1,λ c e=>Yk (TO h c e).2.2⟩
end Go.TM
namespace Go.Proofs
open Go.TM
variable{T:Type}{S:TM.Sys prog T}{U:Qa T}
attribute [local irreducible] Qb Zl Wt
def zK(h:BH)(b:Bk)(Y:Zq U h b)(a:Option Addr)(len cap:Nat)(F:List (List Int))(hl:J3 U a len F)(aa:len<2^60) :
  Qb S 278 #[h.v,.slice a len cap] (λ v U'=>v=.int .i64 (ZX b.nr F)/\U'=U) U:=by
 refine Qb.pure' (Qb.of (args:=[_,_]) ID Qf S1 ?_);have I:=hl.1;have W:=Y.rs.1;have K:=Y.rl;have T:b.nr=(h.rl:Int):=by unfold Bk.nr;rw[W]
 repeat refine⟨rfl,?_⟩
 conv=>whnf
 intro B X w N;have N:Zi X B #[.slice h.ra h.rl h.rc,.slice h.ca h.cl h.cc]:=N
 repeat refine⟨rfl,?_⟩
 conv=>whnf
 apply Qe<;>intro E
 .have z:F.length > 3:=by rw[I];simp at E;omega
  repeat refine⟨rfl,?_⟩
  conv=>whnf
  exact⟨by unfold ZX;rw[if_pos z],w.lg⟩
 have z:¬F.length > 3:=by rw[I];simp at E;omega
 have G:ZX b.nr F=WV b.nr F:=by unfold ZX;rw[if_neg z]
 rw[G]
 refine⟨Nat,λ i=>[(2,.pointer (some ⟨B,0,none⟩)),(11,.slice a len cap),(12,.int .i64 len),(13,.int .i64 i)],
  λ i U'=>U'=X/\i<=len/\WV b.nr F=WV b.nr (F.drop i),λ i=>len-i,0,T1,⟨rfl,O1,rfl⟩,?_⟩
 rintro i f U'⟨hU,hi,e⟩;obtain rfl:=hU.symm;have Q:Zu ((i:Int)+1):=I1
 repeat refine⟨rfl,?_⟩
 conv=>whnf
 apply Qe<;>intro E
 .have hlt:i<len:=by simpa using E
  obtain⟨ad,g,vs,hx,rfl,ab,⟨ga,gl,gc,rfl,Z,P⟩,-,V⟩:=Q5.at (hl.lg w.lg) hlt;have H:=Z.1;rw[WT hx,WV]at e;refine⟨ad,i,⟨rfl,rfl,hlt⟩,_,V 0 _ rfl,?_⟩
  repeat refine⟨rfl,?_⟩
  conv=>whnf
  apply Qe<;>intro E
  .have M:g.length > 3:=by rw[H];simp at E;omega
   repeat refine⟨rfl,?_⟩
   conv=>whnf
   exact⟨by rw[e,if_pos M],w.lg⟩
  have M:¬g.length > 3:=by rw[H];simp at E;omega
  rw[if_neg M]at e;refine⟨_,N.sees3 (o:=0) rfl,YV.any,(L6 ga gl gc g Z P h.rl K).go λ _=>?_⟩;rw[T]at e ⊢;by_cases L:J1 (h.rl:Int) none g=0
  .rw[if_pos L]at e;rw[L]
   repeat refine⟨rfl,?_⟩
   refine⟨Q,?_⟩
   conv=>whnf
   exact⟨rfl,i+1,T1,⟨rfl,O1,e⟩,L1⟩
  .rw[if_neg L]at e
   repeat refine⟨rfl,?_⟩
   conv=>whnf
   apply Qe<;>intro E
   .repeat refine⟨rfl,?_⟩
    conv=>whnf
    exact⟨by rw[e],w.lg⟩
   .exact absurd (by simpa using E) L
 .have hge:len<=i:=by simpa using E
  rw[drop_eq_nil_of_le O1]at e
  repeat refine⟨rfl,?_⟩
  conv=>whnf
  exact⟨by rw[e];rfl,w.lg⟩
def Rx(h:BH)(b:Bk)(N:Zq U h b):Qb S 276 #[h.v] (λ v U'=>v=.int .i64 (b.csF Qu)/\U'=U) U:=by
 refine Qb.pure' (Qb.of (args:=[_]) LU Qf S1 ?_);have P:=N.cs.1;have ah:=N.cl;have ay:=N.rs.1;have a0:=N.rl;have ak:b.nr=(h.rl:Int):=by unfold Bk.nr;rw[ay]
 have aw:b.nc=(h.cl:Int):=by unfold Bk.nc;rw[P]
 repeat refine⟨rfl,?_⟩
 conv=>whnf
 intro B U1 z W;have W:Zi U1 B #[.slice h.ra h.rl h.rc,.slice h.ca h.cl h.cc]:=W;refine⟨_,W.sees3 (o:=1) rfl,?_⟩
 repeat refine⟨rfl,?_⟩
 conv=>whnf
 apply Qe<;>intro L
 .have H:b.cs.length > 5:=by rw[P];simp at L;omega
  repeat refine⟨rfl,?_⟩
  conv=>whnf
  exact⟨by unfold Bk.csF;rw[if_pos H],z.lg⟩
 have H:¬b.cs.length > 5:=by rw[P];simp at L;omega
 have V:b.csF Qu=WC Qu h.rl h.cl [] b.cs:=by unfold Bk.csF;rw[if_neg H,ak,aw]
 rw[V]
 conv=>whnf
 refine Pu Value.string λ mb a1=>?_;refine⟨_,Qa.sees.lg (W.sees3 (o:=1) rfl) (Z4 mb _),Nat×List ByteArray,λ y=>[(1,.pointer (some ⟨B,0,none⟩)),(3,.map (some mb)),(17,.slice h.ca h.cl h.cc),(18,.int .i64 h.cl),(19,.int .i64 y.1)],
  λ y U'=>U1.lg U'/\U'.M=.obj mb (Qt Value.string (ZT 0 y.2))::U.M/\y.1<=h.cl/\y.2.length=y.1/\WC Qu h.rl h.cl [] b.cs=WC Qu h.rl h.cl y.2 (b.cs.drop y.1),
  λ y=>h.cl-y.1,(0,[]),T1,⟨Z4 _ _,?_,S1,rfl,S1⟩,?_⟩
 .show _::_=_;rw[z.own];rfl
 rintro⟨i,s⟩f U2⟨Q,hM,hi,am,e⟩;simp only at hM hi am e;have av:Zu ((i:Int)+1):=I1
 have ai:Zu ((h.rl:Int)-1):=I1
 repeat refine⟨rfl,?_⟩
 conv=>whnf
 apply Qe<;>intro L
 .have hlt:i<h.cl:=by simpa using L
  obtain⟨ad,c,ga,gl,gc,aa,al,ac,hx,ap,a2,ax,hg,au,ha,ao,aj⟩:=(N.lg z.lg).case hlt;rw[WT hx,WC]at e;have az:=N.cn c aj;subst am;refine⟨ad,s.length,⟨ap,rfl,hlt⟩,_,⟨rfl,ax.lg Q⟩,?_⟩
  conv=>whnf
  intro b5 aq;refine⟨_,.refl _,rfl,Zt (vs:=[.string c.nm,.int .i64 c.ag,.slice ga gl gc,.slice aa al ac]) aq rfl (by simp[Value.single]) λ U3 ab E=>?_⟩;have Z:U3.M=_:=ab.own.trans hM;have K:=Q.trans ab.lg;refine⟨_,E.sees3 (o:=0) rfl,Oo.any,(D4 mb s c.nm az U.M Z).mono ?_⟩;rintro _ U4⟨rfl,F⟩-;have T:U3.frz.lg U4:=F▸⟨λ _ _ h=>h,⟨_,(append_nil _).symm⟩,rfl⟩;have w:U1.lg U4:=F▸⟨K.imm,⟨[_],by rw[z.own];rfl⟩,K.tok⟩;have Y:U4.M=.obj mb (Qt Value.string (ZT 0 (if Qu c.nm&&!QR s c.nm then s++[c.nm]else s)))::U.M:=by rw[F]
  have X:∀x o,U3.I x=some o->U4.I x=some o:=T.imm;have E:=E.imI X;have G:=W.lg w;clear F;cases hn:Qu c.nm with
  |false=>
   rw[hn]at e
   repeat refine⟨rfl,?_⟩
   conv=>whnf
   exact⟨by rw[e];rfl,z.lg.trans w⟩
  |true=>
  rw[if_pos hn]at e;cases hh:QR s c.nm with
  |true=>
   rw[if_pos hh]at e
   repeat refine⟨rfl,?_⟩
   conv=>whnf
   exact⟨by rw[e];rfl,z.lg.trans w⟩
  |false=>
  rw[hh]at e;simp only[Bool.false_eq_true,if_false]at e;rw[hn,hh]at Y
  repeat refine⟨rfl,?_⟩
  refine⟨_,E.sees3 (o:=1) rfl,_,G.sees3 (o:=0) rfl,ai,GG.any,(Wu _ _ _ _).mono ?_⟩;rintro v U'⟨rfl,rfl⟩-;cases ae:btw c.ag 0 ((h.rl:Int)-1)with
  |false=>
   rw[ae]at e
   repeat refine⟨rfl,?_⟩
   conv=>whnf
   exact⟨by rw[e];rfl,z.lg.trans w⟩
  |true=>
  rw[if_pos ae]at e;refine⟨_,⟨rfl,G.rd⟩,?_⟩;refine⟨_,E.sees3 (o:=2) rfl,ID.any,(zK h b (N.lg (z.lg.trans w)) ga gl gc c.gs (hg.lg w) au).mono ?_⟩;rintro _ an⟨rfl,F⟩-;obtain rfl:=F.symm;rw[ak];by_cases hz:ZX (h.rl:Int) c.gs=0
  .rw[if_pos hz]at e;rw[hz]
   repeat refine⟨rfl,?_⟩
   refine⟨_,E.sees3 (o:=3) rfl,_,G.sees3 (o:=1) rfl,YV.any,(L6 aa al ac c.af (ha.lg w) ao h.cl ah).mono ?_⟩;rintro _ an⟨rfl,F⟩-;obtain rfl:=F.symm;by_cases hy:J1 (h.cl:Int) none c.af=0
   .rw[if_pos hy]at e;rw[hy]
    repeat refine⟨rfl,?_⟩
    refine⟨av,rfl,(s.length+1,s++[c.nm]),T1,⟨w,Y,by show s.length+1<=h.cl;omega,S1,e⟩,L1⟩
   .rw[if_neg hy]at e
    repeat refine⟨rfl,?_⟩
    conv=>whnf
    apply Qe<;>intro L
    .repeat refine⟨rfl,?_⟩
     conv=>whnf
     exact⟨by rw[e],z.lg.trans w⟩
    .exact absurd (by simpa using L) hy
  .rw[if_neg hz]at e
   repeat refine⟨rfl,?_⟩
   conv=>whnf
   apply Qe<;>intro L
   .repeat refine⟨rfl,?_⟩
    conv=>whnf
    exact⟨by rw[e],z.lg.trans w⟩
   .exact absurd (by simpa using L) hz
 .have hge:h.cl<=i:=by simpa using L
  rw[drop_eq_nil_of_le O1]at e
  repeat refine⟨rfl,?_⟩
  conv=>whnf
  exact⟨by rw[e];rfl,z.lg.trans Q⟩
def Kp:prog.underlying 100=some (.array 3 99):=K1
def Lj(P:Program)(t:TypeId):Bool:=match P.underlying t with|some d=>!TypeDesc.agg d&&(match P.info? t with|some b=>decide (b.size=1)|none=>false)|none=>false
def NE{P:Program}{t:TypeId}(h:Lj P t=true):∃d b,P.underlying t=some d/\TypeDesc.agg d=false/\P.info? t=some b/\b.size=1:=by
 unfold Lj at h;split at h
 .rename_i d hd;rw[Bool.and_eq_true]at h;obtain⟨f,e⟩:=h;split at e
  .rename_i b hi;exact⟨d,b,hd,by simpa using f,hi,by simpa using e⟩
  .cases e
 .cases h
def Nh:∃d b,prog.underlying 99=some d/\TypeDesc.agg d=false/\prog.info? 99=some b/\b.size=1:=NE K1
def O4(h:BH)(b:Bk)(P:Zq U h b)(Y:WA U):Qb S 23 #[h.v] (λ v U'=>v=.int .i64 (b.flaw Qu)/\U'=U) U:=by
 refine Qb.pure' (Qb.of (args:=[_]) VA Qf S1 ?_);obtain⟨V,aa,Q,F,E,H⟩:=Nh
 repeat refine⟨rfl,?_⟩
 conv=>whnf
 intro B T e M;have M:Zi T B #[.slice h.ra h.rl h.rc,.slice h.ca h.cl h.cc]:=M;refine⟨_,⟨rfl,(Y.lg e.lg).reads (vs:=YB.toList) (λ k v Z=>by simpa using Z)⟩,?_⟩
 refine⟨Nat,λ i=>[(1,.pointer (some ⟨B,0,none⟩)),(6,.agg YB),(7,.int .i64 i)],
  λ i U'=>U'=T/\i<=3/\(0<i->b.rsF Qu=0)/\(1<i->b.csF Qu=0)/\(2<i->Wq b.A=false),λ i=>3-i,0,T1,⟨rfl,O1,O1,O1,O1⟩,?_⟩
 rintro i f U'⟨X,hi,L,N,W⟩;obtain rfl:=X.symm;have G:Zu ((i:Int)+1):=I1
 repeat refine⟨rfl,?_⟩
 conv=>whnf
 apply Qe<;>intro I
 .have hlt:i<3:=by simp at I;omega
  obtain rfl|rfl|rfl:i=0\/i=1\/i=2:=O1
  .conv=>whnf
   refine TY (v:=.func (.func 275) #[] #[]) Kp Q F E H rfl rfl O1 rfl ?_;refine⟨_,⟨rfl,M.rd⟩,?_⟩;refine⟨IK.any,(jL h b (P.lg e.lg)).mono ?_⟩;rintro _ K⟨rfl,z⟩-;obtain rfl:=z.symm;by_cases w:b.rsF Qu=0
   .rw[w]
    repeat refine⟨rfl,?_⟩
    refine⟨G,?_⟩
    conv=>whnf
    exact⟨rfl,1,T1,⟨rfl,O1,λ _=>by first|exact w|rfl,O1,O1⟩,D1⟩
   .repeat refine⟨rfl,?_⟩
    conv=>whnf
    apply Qe<;>intro I
    .repeat refine⟨rfl,?_⟩
     conv=>whnf
     exact⟨by unfold Bk.flaw;rw[if_neg w],e.lg⟩
    .exact absurd (by simpa using I) w
  .conv=>whnf
   refine TY (v:=.func (.func 276) #[] #[]) Kp Q F E H rfl rfl O1 rfl ?_;refine⟨_,⟨rfl,M.rd⟩,?_⟩;refine⟨LU.any,(Rx h b (P.lg e.lg)).mono ?_⟩;rintro _ K⟨rfl,z⟩-;obtain rfl:=z.symm;by_cases w:b.csF Qu=0
   .rw[w]
    repeat refine⟨rfl,?_⟩
    refine⟨G,?_⟩
    conv=>whnf
    exact⟨rfl,2,T1,⟨rfl,O1,λ _=>L O1,λ _=>by first|exact w|rfl,O1⟩,D1⟩
   .repeat refine⟨rfl,?_⟩
    conv=>whnf
    apply Qe<;>intro I
    .repeat refine⟨rfl,?_⟩
     conv=>whnf
     exact⟨by unfold Bk.flaw;rw[if_pos (L O1),if_neg w],e.lg⟩
    .exact absurd (by simpa using I) w
  .conv=>whnf
   refine TY (v:=.func (.func 101) #[] #[]) Kp Q F E H rfl rfl O1 rfl ?_;refine⟨_,⟨rfl,M.rd⟩,?_⟩;refine⟨Te.any,(U_ h b (P.lg e.lg) (Bk.low_of (N O1))).mono ?_⟩;rintro _ K⟨rfl,z⟩-;obtain rfl:=z.symm;cases w:Wq b.A with
   |false=>
    repeat refine⟨rfl,?_⟩
    refine⟨G,?_⟩
    conv=>whnf
    exact⟨rfl,3,T1,⟨rfl,O1,λ _=>L O1,λ _=>N O1,λ _=>by first|exact w|rfl⟩,D1⟩
   |true=>
    repeat refine⟨rfl,?_⟩
    conv=>whnf
    exact⟨by unfold Bk.flaw;rw[if_pos (L O1),if_pos (N O1),w];first|done|rfl,e.lg⟩
 .have hge:i=3:=by simp at I;omega
  repeat refine⟨rfl,?_⟩
  conv=>whnf
  exact⟨by unfold Bk.flaw;rw[if_pos (L O1),if_pos (N O1),W O1];rfl,e.lg⟩
end Go.Proofs
namespace Go.TM
variable{T:Type}{P:Program}{S:Sys P T}{f:Fm}{K:Value->Qa T->Prop}{U:Qa T}
def zj{t e V n len cap:Nat}{a:Option Addr}{x F G:Operand}{z:TypeInfo}(Q:P.underlying t=some (.slice e))(B:P.info? e=some z)(T:Zj f x=.slice a len cap)(L:Zj f F=.int .i64 n)(M:Zj f G=.int .i64 n)(N:n<=cap)
  (E:∀w,a=some w->w.spot=none) (h:K (.slice a n n) U) :
  OX S (.raw { dst:=none,op:=.slice t x none (some F) (some G),type:=V,pos := "", after:=#[],guard:=none }) f K U:=by
 intro a' I;simp only[execOp,I,T,L,M,Option.map_some,Option.map_none];refine rq ?_;simp only[Instr.sliceAt,Instr.slice,Qd,Zg Q,Instr.sliceBounds];refine G7 rfl N ?_;refine G7 rfl (Nat.le_refl _) ?_;simp only[Qk,Jh B];refine⟨U,.refl _,?_⟩
 have H:(if n=0 then a else a.map λ x=>x.add (0*z.size))=a:=by
  split
  .rfl
  .cases a with
   |none=>rfl
   |some w=>
    have:=E w rfl;obtain⟨b,o,s⟩:=w;cases this;simp only[Option.map_some,Nat.zero_mul];rw[Qo];rfl
 rw[H];exact h
def qd{t e M n N:Nat}{b o:Nat}{x B:Operand}{w:TypeInfo}(I:P.underlying t=some (.array N e))(z:P.info? e=some w)(L:Zj f x=.pointer (some ⟨b,o,none⟩))(G:Zj f B=.int .i64 n)(H:n<=N)
  (h:K (.slice (some ⟨b,o,none⟩) n N) U) :
  OX S (.raw { dst:=none,op:=.slice t x none (some B) none,type:=M,pos := "", after:=#[],guard:=none }) f K U:=by
 intro a' F;simp only[execOp,F,L,G,Option.map_some,Option.map_none];refine rq ?_;simp only[Instr.sliceAt,Qd,Zg I,Instr.sliceBounds,Instr.sureAddr,Qk];refine G7 rfl H ?_;simp only[Qk,Jh z];refine⟨U,.refl _,?_⟩
 have E:(if N=0 then(⟨b,o,none⟩:Addr)else(⟨b,o,none⟩:Addr).add (0*w.size))=⟨b,o,none⟩:=by
  split
  .rfl
  .rw[Nat.zero_mul,Qo];rfl
 rw[E];exact h
def QO(s:Nat->Bool):List Value:=[.bool (s 0),.bool (s 1),.bool (s 2),.bool (s 3),.bool (s 4),.bool (s 5)]
def Gt{j:Nat}(h:j<6):j=0\/j=1\/j=2\/j=3\/j=4\/j=5:=O1
def Uj(s:Nat->Bool){j:Nat}(h:j<6):(QO s)[j]?=some (.bool (s j)):=by
 rcases Gt h with rfl|rfl|rfl|rfl|rfl|rfl <;> rfl
def UU(s:Nat->Bool){j:Nat}(h:j<6)(v:Bool):(QO s).toArray.setIfInBounds j (.bool v)=(QO (HE s j v)).toArray:=by
 rcases Gt h with rfl|rfl|rfl|rfl|rfl|rfl <;> rfl
def I5{s r:Nat->Bool}(h:∀j,j<6->s j=r j):QO s=QO r:=by
 unfold QO;simp only[h 0 O1,h 1 O1,h 2 O1,h 3 O1,h 4 O1,h 5 O1]
def Tz(s:Nat->Bool):∀v∈QO s,v.single=true:=by simp[QO,Value.single]
def O_(s:Nat->Bool):∀v∈QO s,X7 .bool v=true:=by simp[QO,X7]
def D7{s r:Nat->Bool}:ZJ (QO s) (QO r)=true↔∀j,j<6->s j=r j:=by
 simp only[QO,ZJ,HY,Bool.and_eq_true,beq_iff_eq,and_true];constructor
 .rintro⟨h0,h1,h2,h3,h4,h5⟩ j hj;rcases Gt hj with rfl|rfl|rfl|rfl|rfl|rfl <;> assumption
 .exact λ h=>⟨h 0 O1,h 1 O1,h 2 O1,h 3 O1,h 4 O1,h 5 O1⟩
abbrev YR(s:Nat->Bool):Value:=.agg #[.bool (s 0),.bool (s 1),.bool (s 2),.bool (s 3),.bool (s 4),.bool (s 5)]
def Bq:Array Value:=#[.bool false,.bool false,.bool false,.bool false,.bool false,.bool false]
def W1(s:List Bool):Nat->Bool:=λ j=>s.getD j false
def pt(n:Nat):W1 (replicate n true)=λ j=>decide (j<n):=by
 funext j;simp only[W1,getD_eq_getElem?_getD,getElem?_replicate];by_cases h:j<n <;> simp[h]
def kX(s:List Bool)(i:Nat)(v:Bool)(b:i<s.length):HE (W1 s) i v=W1 (s.set i v):=by
 funext k;simp only[HE,W1,getD_eq_getElem?_getD,getElem?_set];by_cases h:k=i
 .subst h;simp[b]
 .rw[if_neg h,if_neg (Ne.symm h)]
def J2(w:List Bool):Nat:=Z7 ((range w.length).filter λ i=>w.getD i false)
def GV(w:List Bool)(k:Nat):(J2 w).testBit k=w.getD k false:=by
 rw[J2,Wz,Bool.eq_iff_iff,contains_iff_mem,mem_filter,mem_range];constructor
 .exact λ h=>h.2
 .intro h;refine⟨?_,h⟩;apply Classical.byContradiction;intro b;rw[getD_eq_getElem?_getD,getElem?_eq_none O1]at h;cases h
def qA(w:List Bool)(i:Nat)(b:i<w.length):J2 (w.set i true)=J2 w||| (1<<<i):=by
 apply Nat.eq_of_testBit_eq;intro k;rw[Nat.testBit_or,GV,GV,PO];simp only[getD_eq_getElem?_getD,getElem?_set];by_cases h:k=i
 .subst h;simp[b]
 .rw[if_neg (Ne.symm h)];simp[h]
def Ff(n:Nat):J2 (replicate n false)=0:=by
 apply Nat.eq_of_testBit_eq;intro k;rw[GV,Nat.zero_testBit,getD_eq_getElem?_getD,getElem?_replicate];by_cases h:k<n <;> simp[h]
def Sb(w:List Bool){m:Nat}(h:w.length<=m):J2 w<2^m:=
 Hz λ x b=>by
  have:=mem_range.1 (mem_filter.1 b).1;omega
end Go.TM
namespace Go.Proofs
open Go.TM
variable{T:Type}{S:TM.Sys prog T}{U:Qa T}
attribute [local irreducible] Qb Zl Wt
def IH(h:BH)(b:Bk)(X:Zq U h b)(h6:b.rs.length<=6):Qb S 65 #[h.v] (λ v U'=>v=YR (W1 b.ini.1)/\U'=U) U:=by
 refine Qb.pure' (Qb.of (args:=[_]) YJ Qf S1 ?_);have L:=X.rs.1;have w:W1 b.ini.1=λ j=>decide (j<h.rl):=by rw[<- L];exact pt _
 rw[w]
 repeat refine⟨rfl,?_⟩
 conv=>whnf
 intro B U₀ K H;have H:Zi U₀ B #[.slice h.ra h.rl h.rc,.slice h.ca h.cl h.cc]:=H
 conv=>whnf
 intro G Y;refine⟨_,.refl _,?_⟩
 conv=>whnf
 intro E Z;refine⟨_,.refl _,_,(H.lg ((Z4 G _).trans (Z4 E _))).sees3 (o:=0) rfl,Nat,λ i=>[(2,.pointer (some ⟨G,0,none⟩)),(3,.pointer (some ⟨E,0,none⟩)),(8,.int .i64 h.rl),(9,.int .i64 i)],
  λ i U'=>U₀.I=U'.I/\U₀.tok=U'.tok/\U'.M=.obj E (.cells (QO λ j=>decide (j<i)).toArray 88 (0,0))::.obj G (.cells Bq 88 (0,0))::U₀.M/\i<=h.rl,λ i=>h.rl-i,0,T1,⟨rfl,rfl,rfl,O1⟩,?_⟩
 rintro i f V⟨N,T,F,hi⟩;have z:U₀.lg V:=⟨λ b o h=>by rw[<- N];exact h,⟨[_,_],F⟩,T.symm⟩
 repeat refine⟨rfl,?_⟩
 conv=>whnf
 apply Qe<;>intro P
 .have hlt:i<h.rl:=by simpa using P
  have e:i<6:=O1
  refine⟨i,⟨rfl,e⟩,rfl,?_⟩;show ZA ((Addr.mk E 0 none).add (i*1)) [.bool true] 0 _ _;rw[Nat.mul_one];refine P_ [] F e rfl ?_
  have W:(QO λ j=>decide (j<i)).toArray.setIfInBounds i (.bool true)=(QO λ j=>decide (j<i+1)).toArray:=by
   rw[UU _ e];congr 1;refine I5 λ k _=>?_;unfold HE;by_cases Q:k=i
   .simp[Q]
   .rw[if_neg Q];have:(k<i)=(k<i+1):=propext O1;simp[this]
  rw[W];refine⟨I1,?_⟩;refine⟨rfl,i+1,T1,⟨N,T,rfl,O1⟩,L1⟩
 .have hge:i=h.rl:=by simp at P;omega
  subst hge;refine⟨_,⟨rfl,Za [] F⟩,rfl,VG (vs:=QO λ j=>decide (j<h.rl)) [_] F rfl (Tz _) ?_⟩;refine⟨_,⟨rfl,Za [_] rfl⟩,?_⟩
  conv=>whnf
  exact⟨rfl,(K.lg.trans ⟨z.imm,⟨[_,_],rfl⟩,z.tok⟩)⟩
def xJ(b:Nat)(s:Nat->Bool)(f:Zi U b (QO s).toArray)(r:Nat)(e:r<6):Qb S 166 #[.int .i64 r,.pointer (some ⟨b,0,none⟩)] (λ v U'=>v=.bool (!s r)/\U'=U) U:=by
 refine Qb.of (args:=[_,_]) De Qf S1 ?_
 repeat refine⟨rfl,?_⟩
 refine⟨r,⟨rfl,e⟩,.bool (s r),?_,?_⟩
 .rw[Nat.mul_one,Qo];exact f.sees (by rw[Nat.zero_add,getElem?_toArray];exact Uj s e)
 repeat refine⟨rfl,?_⟩
 conv=>whnf
def kS(a:Option Addr)(len cap:Nat)(l:List Int)(f:Z5 U a len l)(e:len<2^60)(g:FuncId)(first b:Array Value)(p:Int->Bool)(h:WW S U g first b (λ n=>.int .i64 n) l p) :
  Qb S 165 #[.slice a len cap,.func (.func g) first b] (λ v U'=>v=.bool (l.any p)/\U'=U) U:=by
 refine Qb.of (args:=[_,_]) Dw Qf S1 ?_;refine⟨DF.any,(Nq (λ n=>.int .i64 n) a len cap l f.1 f.2 (λ x=>⟨_,_,rfl⟩) e g first b p h).mono ?_⟩;rintro v U'⟨rfl,rfl⟩-
 repeat refine⟨rfl,?_⟩
 refine⟨?_,rfl⟩;show Value.bool _=_;rw[K5]
def qL(b:Nat)(s:Nat->Bool)(w:Zi U b (QO s).toArray)(a:Option Addr)(len cap:Nat)(l:List Int)(z:Z5 U a len l)(e:len<2^60)(f:∀n∈l,0<=n/\n<6) :
  Qb S 164 #[.slice a len cap,.pointer (some ⟨b,0,none⟩)] (λ v U'=>v=.bool (l.all λ r=>s r.toNat)/\U'=U) U:=by
 refine Qb.of (args:=[_,_]) UY Qf S1 ?_;refine⟨Dw.any,(kS a len cap l z e 166 #[] #[_] (λ r=>!s r.toNat) ⟨De.any,λ n h=>?_⟩).mono ?_⟩
 .obtain⟨k,rfl⟩:=Int.eq_ofNat_of_zero_le (f n h).1;exact xJ b s w k (by have:=(f _ h).2;omega)
 rintro v U'⟨rfl,rfl⟩-
 repeat refine⟨rfl,?_⟩
 refine⟨?_,rfl⟩;show Value.bool _=_;congr 1;rw[Bool.eq_iff_iff];simp
def xO(a:Option Addr)(len cap:Nat)(l:List (List Int))(F:J3 U a len l)(K:len<2^60)(g:FuncId)(first w:Array Value)(p:List Int->Bool)
  (N:(prog.funcs[g]?.any λ fd=>fd.body.isSome&&fd.name != "runtime.NumGoroutine")=true)
  (M:∀x∈l,∀a' b h,Z5 U a' b x->b<2^60->Qb S g (first.toList++[Value.slice a' b h]++w.toList).toArray (λ v U'=>v=.bool (p x)/\U'=U) U) :
  Qb S 200 #[.slice a len cap,.func (.func g) first w] (λ v U'=>v=.int .i64 (XL p l)/\U'=U) U:=by
 refine Qb.of (args:=[_,_]) ER Qf S1 ?_;have V:=F.1
 repeat refine⟨rfl,?_⟩
 refine⟨Nat,λ i=>[(0,.slice a len cap),(1,.func (.func g) first w),(6,.slice a len cap),(7,.int .i64 len),(8,.int .i64 i)],
  λ i U'=>U'=U/\i<=len/\∀x∈l.take i,p x=false,λ i=>len-i,0,T1,⟨rfl,O1,S1⟩,?_⟩
 rintro i f _⟨rfl,T,e⟩
 repeat refine⟨rfl,?_⟩
 conv=>whnf
 apply Qe<;>intro E
 .have hlt:i<len:=by simpa using E
  obtain⟨L,x,vs,G,rfl,Q,⟨a',b,h,rfl,H,I⟩,W,P⟩:=Q5.at F hlt;have z:=M x (mem_of_getElem? G) a' b h H I;refine⟨L,i,⟨rfl,rfl,hlt⟩,_,P 0 _ rfl,N,z.mono ?_⟩;rintro v U'⟨rfl,rfl⟩-
  conv=>whnf
  apply Qe<;>intro E
  .repeat refine⟨rfl,?_⟩
   conv=>whnf
   exact⟨by rw[VV G E e],rfl⟩
  .refine⟨I1,?_⟩;refine⟨rfl,i+1,T1,⟨rfl,O1,?_⟩,L1⟩;intro y B;rw[Ji G,mem_append]at B;rcases B with B|B
   .exact e y B
   .simp at B;subst B;exact E
 .have hge:len<=i:=by simpa using E
  repeat refine⟨rfl,?_⟩
  refine⟨?_,rfl⟩;rw[take_of_length_le O1]at e;rw[VL e]
def gX(a:Option Addr)(len cap:Nat)(l:List (List Int))(w:J3 U a len l)(h:len<2^60)(g:FuncId)(first b:Array Value)(p:List Int->Bool)
  (B:(prog.funcs[g]?.any λ fd=>fd.body.isSome&&fd.name != "runtime.NumGoroutine")=true)
  (z:∀x∈l,∀a' e f,Z5 U a' e x->e<2^60->Qb S g (first.toList++[Value.slice a' e f]++b.toList).toArray (λ v U'=>v=.bool (p x)/\U'=U) U) :
  Qb S 163 #[.slice a len cap,.func (.func g) first b] (λ v U'=>v=.bool (l.any p)/\U'=U) U:=by
 refine Qb.of (args:=[_,_]) Ir Qf S1 ?_;refine⟨ER.any,(xO a len cap l w h g first b p B z).mono ?_⟩;rintro v U'⟨rfl,rfl⟩-
 repeat refine⟨rfl,?_⟩
 refine⟨?_,rfl⟩;show Value.bool _=_;rw[K5]
def qN(N nm:Value)(ag:Value)(gc:Nat)(af:Value)(ga:Option Addr)(gl:Nat)(gs:List (List Int))(hg:J3 U ga gl gs)(H:gl<2^60)(s:Nat->Bool)(X:∀g∈gs,∀n∈g,0<=n/\n<6)(h:BH)(hH:N=h.v)(c:ByteArray)(hN:nm=.string c)(n:Int)(Y:ag=.int .i64 n)(K:Option Addr)(M L:Nat)(hF:af=.slice K M L) :
  Qb S 126 #[N,.agg #[nm,ag,.slice ga gl gc,af],YR s] (λ v U'=>v=.bool (gs.any λ g=>g.all λ r=>s r.toNat)/\U'=U) U:=by
 subst hH hN Y hF;refine Qb.pure' (Qb.of (args:=[_,_,_]) IW Qf S1 ?_)
 repeat refine⟨rfl,?_⟩
 conv=>whnf
 intro B3 U1 F Z
 conv=>whnf
 intro P Q G b;have b:Zi Q P #[.string c,.int .i64 n,.slice ga gl gc,.slice K M L]:=b
 conv=>whnf
 intro I T w e;have e:Zi T I (QO s).toArray:=e;have z:=(F.trans G).trans w;refine⟨_,(b.le w).sees3 (o:=2) rfl,Ir.any,(gX ga gl gc gs (hg.lg z.lg) H 164 #[] #[_] (λ g=>g.all λ r=>s r.toNat) UY.any λ x hx a' B f V W=>qL I s e a' B f x V W (X x hx)).mono ?_⟩;rintro v U'⟨rfl,E⟩-;obtain rfl:=E.symm
 repeat refine⟨rfl,?_⟩
 conv=>whnf
 exact z.lg
end Go.Proofs
namespace Go.TM
variable{T:Type}{P:Program}{S:Sys P T}{U:Qa T}
def Jn.sub{b o n:Nat}{vs:List Value}(h:Jn U ⟨b,0,none⟩ vs):Jn U ((Addr.mk b 0 none).add o) ((vs.drop o).take n):=by
 intro i v e
 have f:vs[o+i]?=some v:=by
  have w:=(List.getElem?_eq_some_iff.1 e).1;rw[getElem?_take]at e;split at e
  .rwa [getElem?_drop]at e
  .cases e
 have:=h (o+i) v f;rw[Qo]at this ⊢;rw[Qo]
 rwa [Nat.zero_add,<- Nat.zero_add o,Nat.add_assoc,Nat.zero_add]at this ⊢
def WS{b i:Nat}{e:TypeId}{c:Array Value}{v:Value}{M₀:List Qx}{Q:Qa T->Prop}(X:List Qx)(w:U.M=X++.obj b (.cells c e (0,0))::M₀)(z:i<c.size)(B:v.single=true)
  (h:∀f:Qa T,f.I=U.I->f.tok=U.tok->f.M=X++.obj b (.cells (c.setIfInBounds i v) e (0,0))::M₀->Q f):ZA ((Addr.mk b 0 none).add i) [v] 0 (λ U'=>∃f,Qw U' f/\Q f) U:=
 P_ X w z B (h _ rfl rfl rfl)
def Wh{b:Nat}{e:TypeId}{c:Array Value}{vs:List Value}{M₀:List Qx}{Q:Qa T->Prop}(X:List Qx)(z:U.M=X++.obj b (.cells c e (0,0))::M₀)(w:c.size=vs.length)(B:∀v∈vs,v.single=true)
  (h:∀f:Qa T,f.I=U.I->f.tok=U.tok->f.M=X++.obj b (.cells vs.toArray e (0,0))::M₀->Q f):ZA ⟨b,0,none⟩ vs 0 (λ U'=>∃f,Qw U' f/\Q f) U:=
 VG X z w B (h _ rfl rfl rfl)
def Qb.out{f:FuncId}{args:Array Value}{R:Value->Nat->Obj->Prop}(h:Qb S f args (λ v U'=>∃b o A,R v b o/\U'.M=.obj b o::(A++U.M)/\(∀x E,U.I x=some E->U'.I x=some E)/\U'.tok=U.tok) U) :
  Qb S f args (λ v U'=>∃b o,R v b o/\U'.I b=some o/\U.le U') U:=by
 refine h.sep λ v U' H⟨b,o,A,e,B,G,K⟩=>?_;have F:Qw U' { U' with M:=.obj b o::U.M }:=Z1 (by rw[B];exact(sublist_append_right A U.M).cons₂ _)
 have z:WH { U' with M:=.obj b o::U.M }:=λ r e=>H r (by rw[B];rcases mem_cons.1 e with rfl|e;{simp};simp[e])
 obtain⟨w,L,N,P⟩:=EF (U':={ U' with M:=.obj b o::U.M }) z rfl G rfl K;exact⟨w,F.trans L,b,o,e,P,N⟩
abbrev HN(a:Option Addr)(len cap:Nat)(s:Nat->Bool)(w:Nat):Value:=.agg #[.slice a len cap,.bool (s 0),.bool (s 1),.bool (s 2),.bool (s 3),.bool (s 4),.bool (s 5),.int .i64 w]
def QT(v:Value)(s:Nat->Bool)(w:Nat):List Value:=[v,.bool (s 0),.bool (s 1),.bool (s 2),.bool (s 3),.bool (s 4),.bool (s 5),.int .i64 w]
def yj(v:Value)(s:Nat->Bool)(w:Nat){j:Nat}(h:j<6)(u:Bool):(QT v s w).toArray.setIfInBounds (1+j) (.bool u)=(QT v (HE s j u) w).toArray:=by
 rcases Gt h with rfl|rfl|rfl|rfl|rfl|rfl <;> rfl
def He(U:Qa T)(v:Value)(o:List Nat)(x:List Bool×List Bool):Prop:=∃a cap,v=HN a o.length cap (W1 x.1) (J2 x.2)/\Z5 U a o.length (o.map λ(k:Nat)=>(k:Int))/\o.length<=cap/\∀b,a=some b->b.spot=none
def He.lg{U':Qa T}{v:Value}{o:List Nat}{x:List Bool×List Bool}(h:He U v o x)(k:U.lg U'):He U' v o x:=let ⟨a,c,e,h1,h2⟩:=h;⟨a,c,e,h1.lg k,h2⟩
def Z5.src'{a:Option Addr}{len:Nat}{l:List Int}(h:Z5 U a len l):QS U a (l.map λ n=>.int .i64 n):=by
 cases l with
 |nil=>
  cases a with
  |none=>exact .inl ⟨rfl,rfl⟩
  |some f=>exact .inr ⟨f,rfl,λ i v b=>by simp at b⟩
 |cons x l=>
  obtain⟨f,e,F,_⟩:=h.2 0 x rfl;refine .inr ⟨f,e,λ i v b=>?_⟩;rw[getElem?_map]at b;cases w:(x::l)[i]? with
  |none=>rw[w]at b;cases b
  |some y=>
   rw[w]at b;cases b;obtain⟨B,e',z,E⟩:=h.2 i y w;rw[e]at e';cases e'
   rwa [Nat.mul_one]at E
end Go.TM
namespace Go.Proofs
open Go.TM
variable{T:Type}{S:TM.Sys prog T}{U:Qa T}
attribute [local irreducible] Qb Zl Wt
def LB(h:BH)(b:Bk)(hb:Zq U h b)(af:b.Ok)(a:Option Addr)(cap:Nat)(o:List Nat)(x:List Bool×List Bool)(ho:Z5 U a o.length (o.map λ(k:Nat)=>(k:Int)))(bs:∀ad,a=some ad->ad.spot=none)(a2:o.length<=cap)(h5:o.length<=5)
  (h1:x.1.length=b.rs.length) (h2:x.2.length=b.cs.length) (i:Nat) (hi:i<b.cs.length) :
  Qb S 69 #[h.v,HN a o.length cap (W1 x.1) (J2 x.2),.int .i64 i] (λ v U'=>He U'.frz v (o++[i]) (b.stp x i)/\U.le U') U:=by
 have bz:=hb.cs.1;have b8:=hb.rs.1;have b3:=af.nc;have b5:=af.nr
 let R:Value->Nat->Obj->Prop:=λ v B O=>∃(cp:Nat)(c:Array Value),v=HN (some ⟨B,0,none⟩) (o.length+1) cp (W1 (b.stp x i).1) (J2 (b.stp x i).2)/\O=.cells c 3 (0,0)/\o.length+1<=cp/\∀(k:Nat)(u:Value),((o++[i]).map λ(k:Nat)=>Value.int .i64 (k:Int))[k]?=some u->c[k]?=some u
 have be:Qb S 69 #[h.v,HN a o.length cap (W1 x.1) (J2 x.2),.int .i64 i] (λ v U'=>∃B O A,R v B O/\U'.M=.obj B O::(A++U.M)/\(∀y E,U.I y=some E->U'.I y=some E)/\U'.tok=U.tok) U:=by
  refine Qb.of (args:=[_,_,_]) T_ Qf S1 ?_;obtain⟨c,an⟩:∃c,b.cs[i]?=some c:=⟨_,getElem?_eq_getElem hi⟩;have a3:b.cas i=c:=by simp[Bk.cas,getD_eq_getElem?_getD,an]
  have a4:=mem_of_getElem? an;have bh:=af.ag c a4;have bo:=af.gs c a4;have bt:J2 x.2<2^5:=Sb _ O1;have bd:J2 x.2<2^60:=Nat.lt_trans bt D1
  have h6:∀g∈c.gs,∀n∈g,0<=n/\n<6:=λ g hg n hn=>by
   have:=(bo g hg).2 n hn;unfold Bk.nr at this;omega
  have K:c.ag.toNat<6/\c.ag=(c.ag.toNat:Int)/\c.ag.toNat<x.1.length:=by unfold Bk.nr at bh;omega
  obtain⟨ce,-,a6,-⟩:=Hf.i
  have Q:b.stp x i=if(c.gs.any λ g=>g.all λ r=>W1 x.1 r.toNat)then(x.1.set c.ag.toNat false,x.2.set i true)else x:=by
   unfold Bk.stp Iq;rw[a3];rfl
  repeat refine⟨rfl,?_⟩
  conv=>whnf
  intro B T G hB;have hB:Zi T B #[.slice h.ra h.rl h.rc,.slice h.ca h.cl h.cc]:=hB
  conv=>whnf
  intro b4 b0
  conv=>whnf
  intro b6 b1;refine⟨_,.refl _,?_⟩
  let L:List Value:=QT (.slice a o.length cap) (W1 x.1) (J2 x.2)
  have hM:((T.put b4 (.cells L.toArray 91)).put b6 (.cells #[.slice none 0 0,.bool false,.bool false,.bool false,.bool false,.bool false,.bool false,.int .i64 0] 91)).M=[.obj b6 (.cells #[.slice none 0 0,.bool false,.bool false,.bool false,.bool false,.bool false,.bool false,.int .i64 0] 91 (0,0))]++.obj b4 (.cells L.toArray 91 (0,0))::T.M:=rfl;have bq:=Za [_] hM;have aq:=bq.cell (i:=0) (v:=.slice a o.length cap) rfl;refine⟨_,aq,_,aq,_,aq,?_⟩
  conv=>whnf
  refine zj Pf a6 rfl rfl rfl a2 bs ?_
  conv=>whnf
  intro bf a5;refine Zk a5 λ U2 ak Y=>?_;have Y:Zi U2 bf #[.int .i64 i]:=Y;have ao:U.lg U2:=G.lg.trans ((Z4 b4 _).trans ((Z4 b6 _).trans ak.lg));have f:T.lg U2:=(Z4 b4 _).trans ((Z4 b6 _).trans ak.lg);have ay:U2.M=_:=ak.own.trans hM
  conv=>whnf
  refine UK (cs:=(o.map λ(k:Nat)=>(k:Int)).map λ n=>.int .i64 n) (new:=[.int .i64 i]) Hf rfl rfl (Z5.src' (ho.lg ao)) S1 (.inr ⟨_,rfl,Y.rd⟩) rfl S3 (λ h0=>by cases h0) (λ _ bn cn F b2 a7 b9 bj=>?_)
  let L1:List Value:=QT (.slice (some ⟨bn,0,none⟩) (o.length+1) F) (W1 x.1) (J2 x.2)
  have az:(U2.put bn (.cells cn 3)).M=[.obj bn (.cells cn 3 (0,0)),.obj b6 (.cells #[.slice none 0 0,.bool false,.bool false,.bool false,.bool false,.bool false,.bool false,.int .i64 0] 91 (0,0))]++.obj b4 (.cells L.toArray 91 (0,0))::T.M:=by
   show _::U2.M=_;rw[ay];rfl
  obtain⟨ad,c',ga,gl,gc,aa,al,ac,bu,bk,bw,a8,hg,bm,ha,bx,bv⟩:=(hb.lg G.lg).case (show i<h.cl by omega);obtain rfl:c=c':=Option.some.inj (an.symm.trans bu);refine⟨rfl,P_ (i:=0) [_,_] az (by show 0<8;omega) rfl ?_⟩;refine⟨_,Qa.sees.lg (hB.sees3 (o:=1) rfl) ⟨f.imm,⟨[_,_,_],rfl⟩,f.tok⟩,ad,i,⟨bk,rfl,O1⟩,_,⟨rfl,a8.lg ⟨f.imm,⟨[_,_,_],rfl⟩,f.tok⟩⟩,?_⟩
  conv=>whnf
  intro b7 bl;refine⟨_,.refl _,rfl,Zt (vs:=[.string c.nm,.int .i64 c.ag,.slice ga gl gc,.slice aa al ac]) bl rfl (by simp[Value.single]) λ U3 am N=>?_⟩;have ab:U3.M=[.obj bn (.cells cn 3 (0,0)),.obj b6 (.cells #[.slice none 0 0,.bool false,.bool false,.bool false,.bool false,.bool false,.bool false,.int .i64 0] 91 (0,0))]++.obj b4 (.cells L1.toArray 91 (0,0))::T.M:=am.own;have V:∀y E,T.I y=some E->U3.I y=some E:=λ y E H=>am.imm y E (f.imm y E H);have au:U3.tok=T.tok:=am.tok.trans f.tok;have P:T.lg U3:=⟨V,⟨[_,_,_],ab⟩,au⟩;have Z:=Za [_,_] ab;refine⟨_,⟨rfl,(hB.lg P).rd⟩,?_⟩;refine⟨_,⟨rfl,N.rd⟩,?_⟩;refine⟨QO (W1 x.1),⟨rfl,Z.sub (o:=1) (n:=6)⟩,IW.any,(qN _ _ _ gc _ ga gl c.gs (hg.lg P) bm (W1 x.1) h6 h rfl c.nm rfl c.ag rfl aa al ac rfl).mono ?_⟩;rintro v U'⟨rfl,bg⟩-;obtain rfl:=bg.symm
  have done:∀s w,b.stp x i=(s,w)->R (HN (some ⟨bn,0,none⟩) (o.length+1) F (W1 s) (J2 w)) bn (.cells cn 3 (0,0)):=λ s w e=>
   ⟨F,cn,by rw[e],rfl,a7,λ k u hu=>bj k u (by simpa[Function.comp_def]using hu)⟩
  cases aj:(c.gs.any λ g=>g.all λ r=>W1 x.1 r.toNat)with
  |true=>
   rw[aj,if_pos rfl]at Q;have br:=Yn (show i<60 by omega);refine⟨_,Z.cell (i:=7) rfl,O1,?_⟩
   conv=>whnf
   intro U5 ae _;have a0:=ae.own.trans ab;have av:∀y E,T.I y=some E->U5.I y=some E:=λ y E H=>ae.imm y E (V y E H);have a9:U5.tok=T.tok:=ae.tok.trans au;have N:=N.le ae;have key:J2 x.2||| (1<<<i)=J2 (x.2.set i true):=(qA x.2 i O1).symm
   have e2:IntKind.wrap .i64 ((BitVec.ofInt (IntKind.bits .i64) ((J2 x.2:Nat):Int)||| BitVec.ofInt (IntKind.bits .i64) (IntKind.wrap .i64 ((1:Int)*2^(min ((i:Int).toNat) (IntKind.bits .i64))))).toNat:Int)=((J2 (x.2.set i true):Nat):Int):=by
    rw[br,OQ bd (Pe O1),key]
   refine⟨rfl,rfl,?_⟩;rw[e2];refine WS (i:=7) (v:=.int .i64 (J2 (x.2.set i true):Nat)) [_,_] a0 (by show 7<8;omega) rfl λ U6 ah ba W=>?_;have W:U6.M=[_,_]++.obj b4 (.cells (QT (.slice (some ⟨bn,0,none⟩) (o.length+1) F) (W1 x.1) (J2 (x.2.set i true))).toArray 91 (0,0))::T.M:=W;have a1:Zi U6 b7 #[.string c.nm,.int .i64 c.ag,.slice ga gl gc,.slice aa al ac]:=N.imI λ y E H=>by rw[ah];exact H
   refine⟨_,a1.sees3 (o:=1) rfl,c.ag.toNat,⟨K.2.1,K.1⟩,rfl,?_⟩;rw[show((Addr.mk b4 0 none).add 1).add (c.ag.toNat*1)=(Addr.mk b4 0 none).add (1+c.ag.toNat) by rw[Qo,Qo,Qo,Nat.mul_one,Nat.zero_add,Nat.zero_add]];refine WS (i:=1+c.ag.toNat) (v:=.bool false) [_,_] W (by show 1+c.ag.toNat<8;omega) rfl λ U7 aw bb X=>?_;rw[yj _ _ _ K.1,kX _ _ _ K.2.2]at X;have ap:=Za [_,_] X;refine⟨_,⟨rfl,ap⟩,rfl,Wh (vs:=QT (.slice (some ⟨bn,0,none⟩) (o.length+1) F) (W1 (x.1.set c.ag.toNat false)) (J2 (x.2.set i true))) [_] X rfl (by simp[QT,Value.single]) λ U8 ax bc ai=>?_⟩;refine⟨_,⟨rfl,Za [_] ai⟩,?_⟩
   conv=>whnf
   exact⟨bn,_,[_,_],done _ _ Q,by rw[ai,<- G.own];rfl,λ y E H=>by rw[ax,aw,ah];exact av y E (G.imm y E H),by rw[bc,bb,ba,a9];exact G.tok⟩
  |false=>
   rw[aj]at Q;refine⟨_,⟨rfl,Z⟩,rfl,VG (vs:=L1) [_] ab rfl (by simp[L1,QT,Value.single]) ?_⟩;refine⟨_,⟨rfl,Za [_] rfl⟩,?_⟩
   conv=>whnf
   exact⟨bn,_,[_,_],done x.1 x.2 Q,by show _=_;rw[<- G.own];rfl,λ y E H=>V y E (G.imm y E H),au.trans G.tok⟩
 refine(Qb.out (R:=R) be).mono ?_;rintro v U'⟨B,O,⟨cp,c,rfl,rfl,h3,h4⟩,hB,bp⟩;refine⟨⟨some ⟨B,0,none⟩,cp,S1,?_,by simpa using h3,by rintro _⟨⟩;rfl⟩,bp⟩;have bi:Zi U'.frz B c:=⟨3,(0,0),hB⟩;refine⟨S1,λ k y H=>⟨_,rfl,rfl,?_⟩⟩;rw[Nat.mul_one,Qo];refine bi.sees ?_;rw[Nat.zero_add];refine h4 k _ ?_;rw[getElem?_map]at H ⊢;cases hz:(o++[i])[k]? with
 |none=>rw[hz]at H;cases H
 |some z=>rw[hz]at H;cases H;rfl
end Go.Proofs
namespace Go.TM
variable{T:Type}{P:Program}{S:Sys P T}{f:Fm}{U:Qa T}
def FG(S:Sys P T)(l n:Nat)(R:Nat->List Value->Qa T->Prop)(I:Nat->Qa T->Prop)(E:Qa T->Prop):Prop:=
 ∀(k:Nat)(p:List Value)(e:Qa T)(K:Value->Qa T->Prop),k<n->R k p e.frz->I k e->(∀b,e.frz.lg b->I (k+1) b->K (.bool true) b)->(∀b,E b->K (.bool false) b)->Zl S l p K e
def YA(S:Sys P T)(g:FuncId)(args:Array Value)(l n:Nat)(R:Nat->List Value->Qa T->Prop)(U:Qa T):Prop:=
 ∀(I:Nat->Qa T->Prop)(E:Qa T->Prop),(∀k b e,b.le e->I k b->I k e)->FG S l n R I E->I 0 U->Qb S g args (λ _ U'=>I n U'\/E U') U
def Eg(hm:P.follows .mixedOrders=true){fn N:Nat}{mu dets:List Nat}{c:Operand}{params:Array Tmp}{sa W:C}{n:Zm T}{x:Nat->Zm T}{r:Zm T}{ds:List Deferred}{g:FuncId}{first F:Array Value}
  (len:Nat) (R:Nat->List Value->Qa T->Prop) (ZE:Nat->Qa T->Prop) (X:Nat->Qa T->Prop) (V:Qa T->Prop)
  (hc:Zj f c=.func (.func g) first F) (hp:params.toList.all (λ t=>decide (t<N))=true) (hg:(P.funcs[g]?.any λ fd=>fd.body.isSome&&fd.name != "runtime.NumGoroutine")=true)
  (Z:∀l z,U.frz.lg z->YA S g (first.toList++[Value.func (.yield l) #[] #[]]++F.toList).toArray l len R z)
  (L:∀k p U,R k p U->p.length=params.size) (aa:∀k z H,z.le H->ZE k z->ZE k H) (h0:ZE 0 U)
  (G:∀(l:Nat)(A B D:Qx)(k:Nat)(p:List Value)(U₀:Qa T)(KN:Zm T)(KX:Nat->Zm T)(KR KA:Zm T),k<len->R k p U₀.frz->ZE k U₀ ->
   (∀e w b,U₀.frz.lg b->ZE (k+1) b->KN e w (b.on B D))->(∀i e w b,X i b->KX i e w (b.on B D))->(∀e w b,V b->KR e w (b.on B D)) ->
   (∀e(z:Qa T),JV S fn (some l) W KN KX KR e [] (z.on B D)->KA e [] (z.on A D)) ->
   JV S fn (some l) sa KA (λ _ _ _ _=>False) (λ _ _ _=>False) (Gq f params.toList p) [] (U₀.on A D))
  (hn:∀(d l:Nat)(A:Obj)b,ZE len b->n f (⟨.collected d,#[]⟩::ds) (b.on (.obj l A) (.obj d (.deferred (some [])))))
  (hx:∀(d l:Nat)(A:Obj)i b,X i b->x i f (⟨.collected d,#[]⟩::ds) (b.on (.obj l A) (.obj d (.deferred (some [])))))
  (hr:∀(d l:Nat)(A:Obj)b,V b->r f (⟨.collected d,#[]⟩::ds) (b.on (.obj l A) (.obj d (.deferred (some []))))) :
  Wt S fn none N mu dets c params sa W n x r f ds U:=by
 show JV S fn none (.rng N mu dets c params sa W) n x r f ds U;refine xh hm hc hp hg λ l d lo hd hl ab hR=>?_
 let D:Qx:=.obj d (.deferred (some []))
 let I:Nat->Qa T->Prop:=λ k z=>∃U₀,ZE k U₀/\z=U₀.on (.obj l (lo .ready none)) D
 let E:Qa T->Prop:=λ z=>∃U₀,(∃i,X i U₀/\z=U₀.on (.obj l (lo .done (some (.exit i)))) D)\/(V U₀/\z=U₀.on (.obj l (lo .done (some .ret))) D)
 have Y:U.frz.lg (U.on (.obj l (lo .ready none)) D):=⟨λ _ _ h=>h,⟨_,(append_nil _).symm⟩,rfl⟩;refine(Z l _ Y I E ?_ ?_ ⟨U,h0,rfl⟩).mono ?_
 .rintro k _ H hle' ⟨U₀,hI,rfl⟩;refine⟨{ H with M:=U₀.M },aa k U₀ _ ⟨hle'.imm,rfl,hle'.tok⟩ hI,?_⟩;obtain⟨ac,ad,ae⟩:=H;have:=hle'.own;simp only[Qa.on]at this ⊢;rw[this]
 .rintro k p _ K hk hRk ⟨U₀,hI,rfl⟩ hK1 hK2;refine hR p K _ (L k p _ hRk) (mem_cons_self ..) ?_;refine G l _ (.obj l (lo .busy none)) D k p U₀ _ _ _ _ hk hRk hI (λ e w b Q h=>?_) (λ i e w b h=>?_) (λ e w b h=>?_) (λ e z h=>⟨rfl,_,.here,h⟩)
  .exact⟨_,.here,hK1 _ ⟨Q.imm,⟨_,(append_nil _).symm⟩,Q.tok⟩ ⟨b,h,rfl⟩⟩
  .exact⟨_,.here,hK2 _ ⟨b,.inl ⟨i,h,rfl⟩⟩⟩
  .exact⟨_,.here,hK2 _ ⟨b,.inr ⟨h,rfl⟩⟩⟩
 .rintro v b (⟨U₀,hI,rfl⟩|⟨U₀,⟨i,hX,rfl⟩|⟨hR',rfl⟩⟩) -
  .exact⟨.ready,none,_,S1,.here,hn d l _ U₀ hI⟩
  .exact⟨.done,some (.exit i),_,S1,.here,hx d l _ i U₀ hX⟩
  .exact⟨.done,some .ret,_,S1,.here,hr d l _ U₀ hR'⟩
def Bk.ords_succ(b:Bk)(k:Nat)(o:List Nat):b.ords (k+1) o=(range b.cs.length).flatMap λ i=>if b.can o i then b.ords k (o++[i])else[]:=rfl
def Bk.ordsTo(b:Bk)(k:Nat)(o:List Nat)(m:Nat):List (List Nat):=(range m).flatMap λ i=>if b.can o i then b.ords k (o++[i])else[]
def Bk.ordsTo_succ(b:Bk)(k:Nat)(o:List Nat)(m:Nat):b.ordsTo k o (m+1)=b.ordsTo k o m++(if b.can o m then b.ords k (o++[m])else[]):=by
 simp[Bk.ordsTo,range_succ]
def Bk.ordsTo_le(b:Bk)(k:Nat)(o:List Nat){m:Nat}(h:m<=b.cs.length):∃r,b.ords (k+1) o=b.ordsTo k o m++r:=by
 refine⟨((range (b.cs.length-m)).map (m+·)).flatMap λ i=>if b.can o i then b.ords k (o++[i])else[],?_⟩;rw[Bk.ords_succ,Bk.ordsTo,<- flatMap_append];congr 1;rw[<- range_add];congr 1;omega
structure Bk.Run(b:Bk)(o:List Nat):Prop where
 low:∀i∈o,i<b.cs.length
 len:o.length<=b.cs.length
def Bk.ends_len(b:Bk):∀(o:List Nat),(b.ends o).1.length=b.rs.length/\(b.ends o).2.length=b.cs.length:=by
 intro o
 have key:∀(o:List Nat)(x:List Bool×List Bool),x.1.length=b.rs.length->x.2.length=b.cs.length->(o.foldl b.stp x).1.length=b.rs.length/\(o.foldl b.stp x).2.length=b.cs.length:=by
  intro o
  induction o with
  |nil=>exact λ x e f=>⟨e,f⟩
  |cons i o h=>
   intro x e f;refine h _ ?_ ?_ <;> unfold Bk.stp <;> split <;> simp[e,f]
 exact key o b.ini (by simp[Bk.ini]) (by simp[Bk.ini])
def TD(o:List Nat):Z7 ((o.map λ(k:Nat)=>(k:Int)).map Int.toNat)=Z7 o:=by
 congr 1;rw[map_map]
 conv=>rhs;rw[<- map_id o]
 exact map_congr_left λ k _=>S1
structure GT(U:Qa T)(h:BH)(l B b2 b3:Nat):Prop where
 bk:Zi U B #[.slice h.ra h.rl h.rc,.slice h.ca h.cl h.cc]
 yl:Zi U b2 #[.func (.yield l) #[] #[]]
 nx:Zi U b3 #[.func (.func 133) #[] #[.pointer (some ⟨B,0,none⟩),.pointer (some ⟨b2,0,none⟩),.pointer (some ⟨b3,0,none⟩)]]
def GT.lg{U':Qa T}{h:BH}{l B e f:Nat}(k:GT U h l B e f)(b:U.frz.lg U'):GT U' h l B e f:=⟨k.bk.imI b.imm,k.yl.imI b.imm,k.nx.imI b.imm⟩
def Gd(b:Bk)(k:Nat)(p:List Value)(U:Qa T):Prop:=∃o v,b.all[k]?=some o/\p=[v]/\He U v o (b.ends o)
end Go.TM
namespace Go.Proofs
open Go.TM
variable{T:Type}{S:TM.Sys prog T}{U:Qa T}
attribute [local irreducible] Qb Zl Wt
set_option maxHeartbeats 1000000 in
def BU(h:BH)(b:Bk)(aq:b.Ok){l B b2 b3:Nat}{I:Nat->Qa T->Prop}{E:Qa T->Prop}(am:∀k V U2,V.le U2->I k V->I k U2)(be:FG S l b.all.length (Gd b) I E) :
  ∀(k:Nat)(o:List Nat)(j:Nat)(U:Qa T)(v:Value),o.length+k=b.cs.length->(∀i∈o,i<b.cs.length)->Zq U.frz h b->GT U h l B b2 b3->He U.frz v o (b.ends o)->(∀(i:Nat)q,(b.ords k o)[i]?=some q->b.all[j+i]?=some q)->I j U ->
   Qb S 133 #[v,.pointer (some ⟨B,0,none⟩),.pointer (some ⟨b2,0,none⟩),.pointer (some ⟨b3,0,none⟩)] (λ v' U'=>(v'=.bool true/\I (j+(b.ords k o).length) U'/\U.frz.lg U')\/(v'=.bool false/\E U')) U:=by
 intro k
 induction k with
 |zero=>
  rintro o j U _ a1 Q hb hn⟨a,cap,rfl,ho,ab,au⟩X hI;have ba:=hb.cs.1;refine Qb.of (args:=[_,_,_,_]) KB Qf S1 ?_
  repeat refine⟨rfl,?_⟩
  conv=>whnf
  intro b4 V L F;have F:Zi V b4 (QT (.slice a o.length cap) (W1 (b.ends o).1) (J2 (b.ends o).2)).toArray:=F;have z:=hn.lg L.lg.frz;refine⟨_,F.sees3 (o:=0) rfl,_,z.bk.sees3 (o:=1) rfl,?_⟩
  repeat refine⟨rfl,?_⟩
  conv=>whnf
  apply Qe<;>intro W
  .refine⟨_,z.yl.sees3 (o:=0) rfl,_,⟨rfl,F.reads (vs:=QT (.slice a o.length cap) (W1 (b.ends o).1) (J2 (b.ends o).2)) (λ k v hv=>by simpa using hv)⟩,?_⟩
   conv=>whnf
   have av:=X 0 o rfl;refine be j _ _ _ (List.getElem?_eq_some_iff.1 av).1 ⟨o,_,av,rfl,a,cap,rfl,ho.lg L.lg.frz2,ab,au⟩ (am _ _ _ L hI) (λ U2 ah K=>?_) (λ U2 hE=>?_)
   .repeat refine⟨rfl,?_⟩
    conv=>whnf
    exact .inl ⟨rfl,K,L.lg.frz2.trans ah⟩
   .repeat refine⟨rfl,?_⟩
    conv=>whnf
    exact .inr ⟨rfl,hE⟩
  .simp at W;omega
 |succ k ih=>
  rintro o j U _ a1 Q hb hn⟨a,cap,rfl,ho,ab,au⟩X hI;have ba:=hb.cs.1;have bg:=aq.nc;have a3:Z7 o<2^60:=Hz λ x hx=>by have:=Q x hx;omega
  have a6:∀n∈o.map (λ(k:Nat)=>(k:Int)),0<=n/\n<60:=by
   intro n hn;obtain⟨k,hk,rfl⟩:=mem_map.1 hn;have:=Q k hk;omega
  refine Qb.of (args:=[_,_,_,_]) KB Qf S1 ?_
  repeat refine⟨rfl,?_⟩
  conv=>whnf
  intro b4 V L F;have F:Zi V b4 (QT (.slice a o.length cap) (W1 (b.ends o).1) (J2 (b.ends o).2)).toArray:=F;have G:=L.lg.frz2;have z:=hn.lg L.lg.frz;refine⟨_,F.sees3 (o:=0) rfl,_,z.bk.sees3 (o:=1) rfl,?_⟩
  repeat refine⟨rfl,?_⟩
  conv=>whnf
  apply Qe<;>intro W
  .simp at W;omega
  clear W;have Z:=Ja (S:=S) a o.length cap _ ((ho.lg G).lg Qp) O1 a6;rw[TD]at Z;refine⟨_,F.sees3 (o:=0) rfl,XT.any,Z.go λ _=>?_⟩;refine⟨_,z.bk.sees3 (o:=1) rfl,Nat,λ m=>[(1,.pointer (some ⟨B,0,none⟩)),(2,.pointer (some ⟨b2,0,none⟩)),(3,.pointer (some ⟨b3,0,none⟩)),(4,.pointer (some ⟨b4,0,none⟩)),(6,.int .i64 (Z7 o:Nat)),(25,.slice h.ca h.cl h.cc),(26,.int .i64 h.cl),(27,.int .i64 m)],
   λ m U'=>V.frz.lg U'/\m<=h.cl/\I (j+(b.ordsTo k o m).length) U',λ m=>h.cl-m,0,T1,⟨Qp,O1,am _ _ _ L hI⟩,?_⟩
  rintro m f U2⟨ah,hm,K⟩;have ao:Zu ((m:Int)+1):=I1
  have H:=b.ordsTo_succ k o m
  repeat refine⟨rfl,?_⟩
  conv=>whnf
  apply Qe<;>intro W
  .have hmt:m<h.cl:=by simpa using W
   obtain⟨ad,c,ga,gl,gc,aa,al,ac,hx,bb,bf,bd,-,-,ha,a7,a2⟩:=(hb.lg (G.trans ah)).case hmt;have a8:=Bk.aft1_at hx;have N:=aq.toLow.lt a2;have M:b.can o m=(!o.contains m&&(Je b.A m).all λ k=>o.contains k):=rfl;refine⟨ad,m,⟨bb,rfl,hmt⟩,_,⟨rfl,bd⟩,?_⟩
   conv=>whnf
   intro b8 bc;refine⟨_,.refl _,rfl,Zt (vs:=[.string c.nm,.int .i64 c.ag,.slice ga gl gc,.slice aa al ac]) bc rfl (by simp[Value.single]) λ U3 ai az=>?_⟩;have w:V.frz.lg U3:=ah.trans ai.lg
   have skip:b.can o m=false->I (j+(b.ordsTo k o (m+1)).length) U3:=λ e=>by
    rw[H,e];simp only[Bool.false_eq_true,if_false,append_nil];exact am _ _ _ ai K
   have Y:=HX a3 (show m<60 by omega);rw[Wz]at Y;refine⟨O1,?_⟩
   repeat refine⟨rfl,?_⟩
   conv=>whnf
   apply Zr<;>intro W
   .have hno:o.contains m=false:=Y.symm.trans W;rw[hno]at M;have aj:=Ja (S:=S) aa al ac c.af (ha.lg ai.lg) a7 N;have a9:Z7 (c.af.map Int.toNat)<2^60:=Hz (toNat_lt N);have key:_↔(Je b.A m).all (λ k=>(Z7 o).testBit k)=true:=(Of a9 a3).trans ((OO N).trans (by rw[a8]))
    have a4:(Je b.A m).all (λ k=>(Z7 o).testBit k)=(Je b.A m).all λ k=>o.contains k:=by
     congr 1;funext k;exact Wz o k
    rw[a4]at key;refine⟨_,az.sees3 (o:=3) rfl,XT.any,aj.go λ _=>?_⟩
    repeat refine⟨rfl,?_⟩
    conv=>whnf
    apply Qe<;>intro W
    .have hno2:b.can o m=false:=by
      rw[M];cases hh:(Je b.A m).all (λ k=>o.contains k)with
      |false=>rfl
      |true=>exact absurd (key.2 hh) (bne_iff_ne.1 W)
     refine⟨ao,?_⟩
     conv=>whnf
     exact⟨rfl,m+1,T1,⟨w,O1,skip hno2⟩,L1⟩
    .have hyes:b.can o m=true:=by
      rw[M];have:(Je b.A m).all (λ k=>o.contains k)=true:=key.1 (bne_eq_false_iff_eq.1 W);rw[this];rfl
     rw[hyes,if_pos rfl]at H;have an:=z.lg w;have ay:=F.imI w.imm;have ae:=b.ends_len o;refine⟨_,an.nx.sees3 (o:=0) rfl,_,⟨rfl,an.bk.rd⟩,?_⟩;refine⟨_,⟨rfl,ay.reads (vs:=QT (.slice a o.length cap) (W1 (b.ends o).1) (J2 (b.ends o).2)) (λ k v hv=>by simpa using hv)⟩,?_⟩;refine⟨λ v U'=>He U'.frz v (o++[m]) (b.ends (o++[m])),λ v V U2 hv ak=>hv.lg ak.lg.frz2,λ U' ak hC=>?_,λ v hv=>?_⟩
     .refine⟨T_.any,(LB h b (hb.lg ((G.trans w).trans ak.lg)) aq a cap o (b.ends o) (ho.lg ((G.trans w).trans ak.lg)) au ab O1 ae.1 ae.2 m O1).mono ?_⟩;rintro v a5⟨hv,a0⟩-;exact⟨a5,.refl _,by rw[b.ends_snoc];exact hv,a0⟩
     obtain⟨_,-,-,a',c',rfl,-⟩:=hv
     conv=>whnf
     intro U4 ax hC;obtain⟨-,hv⟩:=hC;have P:V.frz.lg U4:=w.trans ax.lg;obtain⟨r,hr⟩:=b.ordsTo_le k o (show m+1<=b.cs.length by omega);rw[H]at hr
     refine⟨KB.any,(ih (o++[m]) (j+(b.ordsTo k o m).length) U4 _ S3 (λ i hi=>by
      rcases mem_append.1 hi with hi|hi
      .exact Q i hi
      .rw[mem_singleton.1 hi];omega) (hb.lg (G.trans (show V.frz.lg U4.frz from P.frz2))) (z.lg P) hv (λ i q hq=>by
       rw[Nat.add_assoc];refine X _ q ?_;rw[hr,append_assoc,getElem?_append_right O1,Nat.add_sub_cancel_left,getElem?_append_left (List.getElem?_eq_some_iff.1 hq).1];exact hq) (am _ _ _ (ai.trans ax) K)).mono ?_⟩
     rintro v' U5 (⟨rfl,aw,ap⟩|⟨rfl,hE⟩) -
     .have hlg5:V.frz.lg U5:=(show V.frz.lg U4.frz from P.frz2).trans ap
      repeat refine⟨rfl,?_⟩
      refine⟨ao,?_⟩
      conv=>whnf
      exact⟨rfl,m+1,T1,⟨hlg5,O1,by rw[H,length_append,<- Nat.add_assoc];exact aw⟩,L1⟩
     .repeat refine⟨rfl,?_⟩
      conv=>whnf
      exact .inr ⟨rfl,hE⟩
   .have hyes:o.contains m=true:=Y.symm.trans W;rw[hyes]at M
    repeat refine⟨rfl,?_⟩
    refine⟨ao,?_⟩
    conv=>whnf
    exact⟨rfl,m+1,T1,⟨w,O1,skip M⟩,L1⟩
  .have hge:m=b.cs.length:=by simp at W;omega
   subst hge
   repeat refine⟨rfl,?_⟩
   conv=>whnf
   exact .inl ⟨rfl,K,G.trans ah⟩
def Dv(h:BH)(b:Bk)(Z:Zq U.frz h b)(K:b.Ok){l B:Nat}(hB:Zi U B #[.slice h.ra h.rl h.rc,.slice h.ca h.cl h.cc]) :
  YA S 132 #[.func (.yield l) #[] #[],.pointer (some ⟨B,0,none⟩)] l b.all.length (Gd b) U:=by
 intro I E L V h0;refine Qb.of (args:=[_,_]) OV Qf S1 ?_
 conv=>whnf
 intro M U1 N w;have w:Zi U1 M #[.func (.yield l) #[] #[]]:=w
 conv=>whnf
 intro Y Q;refine⟨_,.refl _,rfl,Zt (vs:=[.func (.func 133) #[] #[.pointer (some ⟨B,0,none⟩),.pointer (some ⟨M,0,none⟩),.pointer (some ⟨Y,0,none⟩)]]) Q rfl (by simp[Value.single]) λ U2 F P=>?_⟩;have z:=N.trans F;have T:GT U2 h l B M Y:=⟨hB.le z,w.le F,P⟩;refine⟨_,T.nx.sees3 (o:=0) rfl,_,⟨rfl,T.bk.rd⟩,?_⟩;refine⟨YR (W1 b.ini.1),λ U' H _=>?_,?_⟩
 .refine⟨YJ.any,(IH h b ((Z.lg (z.trans H).lg.frz2).lg Qp) K.nr).mono ?_⟩;rintro _ aa⟨rfl,hU⟩-;exact⟨rfl,_,.refl _,hU▸.refl _⟩
 conv=>whnf
 intro X G _;have f:=z.trans G;have W:J2 b.ini.2=0:=Ff _;have hv:He X.frz (HN none 0 0 (W1 b.ini.1) 0) [] (b.ends []):=⟨none,0,by show _=HN none 0 0 (W1 b.ini.1) (J2 b.ini.2);rw[W],⟨rfl,λ i x hx=>by simp at hx⟩,Nat.le_refl _,S1⟩;refine⟨KB.any,(BU h b K L V b.cs.length [] 0 X _ S1 S1 (Z.lg f.lg.frz2) (T.lg G.lg.frz) hv (λ i q hq=>by rw[Nat.zero_add];exact hq) (L _ _ _ f h0)).mono ?_⟩;rintro v' U4 (⟨rfl,e,-⟩|⟨rfl,hE⟩) -
 .repeat refine⟨rfl,?_⟩
  conv=>whnf
  exact .inl (by rw[Nat.zero_add]at e;exact e)
 .repeat refine⟨rfl,?_⟩
  conv=>whnf
  exact .inr hE
def F8(h:BH)(b:Bk)(z:Zq U h b):Qb S 80 #[h.v] (λ v U'=>(∃B,v=.func (.func 132) #[] #[.pointer (some ⟨B,0,none⟩)]/\Zi U' B #[.slice h.ra h.rl h.rc,.slice h.ca h.cl h.cc])/\U.le U') U:=by
 refine Qb.of (args:=[_]) TL Qf S1 ?_
 repeat refine⟨rfl,?_⟩
 conv=>whnf
 intro B w e f
 repeat refine⟨rfl,?_⟩
 conv=>whnf
 exact⟨⟨B,rfl,f⟩,e⟩
def Ek(a n:Nat):Qb S 130 #[.int .i64 a,.int .i64 n] (λ v U'=>v=.int .i64 (H9 a n)/\U'=U) U:=by
 refine Qb.of (args:=[_,_]) Sl Qf S1 ?_
 repeat refine⟨rfl,?_⟩
 conv=>whnf
 apply Qe<;>intro b
 .have e:a=n:=by simp at b;omega
  repeat refine⟨rfl,?_⟩
  conv=>whnf
  exact⟨by unfold H9;rw[if_pos e],rfl⟩
 have e:a≠n:=by simp at b;omega
 repeat refine⟨rfl,?_⟩
 conv=>whnf
 apply Qe<;>intro b
 .have e0:a=0:=by simp at b;omega
  repeat refine⟨rfl,?_⟩
  conv=>whnf
  exact⟨by unfold H9;rw[if_neg e,if_pos e0],rfl⟩
 .have e0:a≠0:=by simp at b;omega
  repeat refine⟨rfl,?_⟩
  conv=>whnf
  exact⟨by unfold H9;rw[if_neg e,if_neg e0],rfl⟩
def Mm:Xa prog 29 4 1:=.of K1
def Bl(a n:Nat)(T:a<2^60)(hn:n<60):Qb S 70 #[.int .i64 a,.int .i64 n] (λ v U'=>Acc 4 1 v ((range n).map λ k=>.bool (a.testBit k)) U'.M U.M/\(∀x o,U.I x=some o->U'.I x=some o)/\U'.tok=U.tok) U:=by
 refine Qb.of (args:=[_,_]) Lx Qf S1 ?_
 repeat refine⟨rfl,?_⟩
 refine⟨Nat×Value,λ y=>[(0,.int .i64 a),(5,y.2),(7,.int .i64 n),(8,.int .i64 y.1)],
  λ y U'=>(∀x o,U.I x=some o->U'.I x=some o)/\U'.tok=U.tok/\Acc 4 1 y.2 ((range y.1).map λ k=>.bool (a.testBit k)) U'.M U.M/\y.1<=n,λ y=>n-y.1,(0,.slice none 0 0),T1,⟨λ _ _ h=>h,rfl,.nil,O1⟩,?_⟩
 rintro⟨i,v⟩f Q⟨L,P,b,V⟩;simp only at b V;obtain⟨sa,sl,sc,rfl,W,-⟩:=Acc.src (U:=Q) b;have H:Zu ((i:Int)+1):=I1
 repeat refine⟨rfl,?_⟩
 conv=>whnf
 apply Qe<;>intro N
 .have hlt:i<n:=by simpa using N
  have B:=HX T (show i<60 by omega);refine⟨O1,rfl,rfl,?_⟩
  conv=>whnf
  intro F E;refine Zk E λ K z e=>?_;have e:Zi K F #[.bool (a.testBit i)]:=by rw[<- B];exact e
  conv=>whnf
  refine Ws (v:=.slice sa sl sc) (cs:=(range i).map λ k=>.bool (a.testBit k)) (new:=[.bool (a.testBit i)]) (M₀:=U.M) Mm rfl rfl (by rw[z.own];exact b) (.inr ⟨_,rfl,e.rd⟩) rfl (by simp[Value.single]) S3 λ Z M' G _=>?_;have w:Acc 4 1 Z ((range (i+1)).map λ k=>.bool (a.testBit k)) M' U.M:=by rw[range_succ,map_append];exact G
  obtain⟨X,Y,tc,rfl,-,-⟩:=Acc.src (U:={ K with M:=M' }) w;refine⟨H,?_⟩
  conv=>whnf
  exact⟨rfl,(i+1,.slice X Y tc),T1,⟨λ x o h=>z.imm x o (L x o h),z.tok.trans P,w,by show i+1<=n;omega⟩,L1⟩
 .have hge:i=n:=by simp at N;omega
  subst hge
  repeat refine⟨rfl,?_⟩
  conv=>whnf
  exact⟨b,L,P⟩
end Go.Proofs

