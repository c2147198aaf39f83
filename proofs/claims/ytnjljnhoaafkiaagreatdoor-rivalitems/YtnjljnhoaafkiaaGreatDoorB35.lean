/- Lemmas. No conditions. -/
import Derived.Test.YtnjljnhoaafkiaaGreatDoorB33
import Derived.Test.YtnjljnhoaafkiaaGreatDoorB02
set_option linter.all false
open List
open Go.Proofs.Tryz (prog)
set_option maxRecDepth 100000
namespace Go.Proofs
open Go.TM
def Qe:prog.follows .mixedOrders=true:=K1
end Go.Proofs
namespace Go.Proofs
open Go.TM
variable{T:Type}{S:TM.Sys prog T}{U:Qa T}
attribute [local irreducible] Qb Zm Wo
def Wq(U:Qa T)(n a b:Int):Qb S 54 #[.int .i64 n,.int .i64 a,.int .i64 b] (λ v U'=>v=.bool (QP n a b)/\U'=U) U:=by
 refine Qb.of (args:=[_,_,_]) Gd Qe S1 ?_
 repeat refine⟨rfl,?_⟩
 conv=>whnf
 apply Jt<;>intro f
 .repeat refine⟨rfl,?_⟩
  conv=>whnf
  exact⟨by unfold QP;rw[f];rfl,rfl⟩
 .repeat refine⟨rfl,?_⟩
  conv=>whnf
  exact⟨by unfold QP;rw[f];rfl,rfl⟩
def Zm2(U:Qa T)(n a b:Int):Qb S 49 #[.int .i64 n,.int .i64 a,.int .i64 b] (λ v U'=>v=.bool (QP n a b)/\U'=U) U:=by
 refine Qb.of (args:=[_,_,_]) pO Qe S1 ?_
 repeat refine⟨rfl,?_⟩
 conv=>whnf
 apply Jt<;>intro f
 .repeat refine⟨rfl,?_⟩
  conv=>whnf
  exact⟨by unfold QP;rw[f];rfl,rfl⟩
 .repeat refine⟨rfl,?_⟩
  conv=>whnf
  exact⟨by unfold QP;rw[f];rfl,rfl⟩
def WW{α:Type}(S:TM.Sys prog T)(U:Qa T)(g:FuncId)(first b:Array Value)(enc:α->Value)(l:List α)(p:α->Bool):Prop:=
 (prog.funcs[g]?.any λ fd=>fd.body.isSome&&fd.name != "runtime.NumGoroutine")=true/\∀x∈l,Qb S g (first.toList++[enc x]++b.toList).toArray (λ v U'=>v=.bool (p x)/\U'=U) U
def XB{α:Type}(p:α->Bool)(l:List α):Int:=match l.findIdx? p with|some i=>i|none=>-1
def VQ{α:Type}{p:α->Bool}{l:List α}(h:∀x∈l,p x=false):XB p l = -1:=by
 unfold XB;rw[findIdx?_eq_none_iff.2 h]
def VR{α:Type}{p:α->Bool}{l:List α}{i:Nat}{x:α}(hx:l[i]?=some x)(f:p x=true)(h:∀y∈l.take i,p y=false):XB p l=i:=by
 unfold XB
 have:l.findIdx? p=some i:=by
  obtain⟨b,rfl⟩:=List.getElem?_eq_some_iff.1 hx;rw[findIdx?_eq_some_iff_getElem];refine⟨b,f,λ j w=>?_⟩
  have hm:l[j]' O1∈l.take i:=by
   rw[mem_take_iff_getElem];exact⟨j,O1,rfl⟩
  simpa using h _ hm
 rw[this]
def Y8{α:Type}{p:α->Bool}{l:List α}:decide (XB p l ≥ 0)=l.any p:=by
 unfold XB;cases h:l.findIdx? p with
 |none=>
  rw[findIdx?_eq_none_iff]at h;have:l.any p=false:=by rw[any_eq_false];intro x hx;simp[h x hx]
  rw[this];rfl
 |some i=>
  have:l.any p=true:=by
   rw[findIdx?_eq_some_iff_getElem]at h;obtain⟨b,f,_⟩:=h;exact any_eq_true.2 ⟨l[i],S1,f⟩
  rw[this];simp
def zC{α:Type}(enc:α->Value)(a:Option Addr)(len cap:Nat)(l:List α)(hl:l.length=len)(E:∀i x,l[i]?=some x->∃z,a=some z/\z.spot=none/\U.sees (z.add (i*1)) (enc x))(F:∀x,∃k n,enc x=.int k n)(G:len<2^60)(g:FuncId)(first h:Array Value)(p:α->Bool)
  (hf:WW S U g first h enc l p):Qb S 173 #[.slice a len cap,.func (.func g) first h] (λ v U'=>v=.int .i64 (XB p l)/\U'=U) U:=by
 refine Qb.of (args:=[_,_]) FW Qe S1 ?_
 repeat refine⟨rfl,?_⟩
 refine⟨Nat,λ i=>[(0,.slice a len cap),(1,.func (.func g) first h),(6,.slice a len cap),(7,.int .i64 len),(8,.int .i64 i)],
  λ i U'=>U'=U/\i<=len/\∀x∈l.take i,p x=false,λ i=>len-i,0,T1,⟨rfl,O1,S1⟩,?_⟩
 rintro i f _⟨rfl,L,b⟩
 repeat refine⟨rfl,?_⟩
 conv=>whnf
 apply Qg<;>intro B
 .have hlt:i<len:=by simpa using B
  have hx:l[i]?=some (l[i]' O1):=S1
  generalize l[i]' O1=x at hx;obtain⟨z,rfl,K,H⟩:=E i x hx;obtain⟨k,n,I⟩:=F x;have w:=hf.2 x (mem_of_getElem? hx);rw[I]at w H;refine⟨z,i,⟨rfl,rfl,hlt⟩,_,H,hf.1,w.mono ?_⟩;rintro v U'⟨rfl,rfl⟩-
  conv=>whnf
  apply Qg<;>intro B
  .repeat refine⟨rfl,?_⟩
   conv=>whnf
   exact⟨by rw[VR hx B b],rfl⟩
  .refine⟨I1,?_⟩;refine⟨rfl,i+1,T1,⟨rfl,O1,?_⟩,L1⟩;intro y hy;rw[Wf hx,mem_append]at hy;rcases hy with hy|hy
   .exact b y hy
   .simp at hy;subst hy;exact B
 .have hge:len<=i:=by simpa using B
  repeat refine⟨rfl,?_⟩
  refine⟨?_,rfl⟩;rw[take_of_length_le O1]at b;rw[VQ b]
def zD{α:Type}(enc:α->Value)(a:Option Addr)(len cap:Nat)(l:List α)(hl:l.length=len)(E:∀i x,l[i]?=some x->∃z,a=some z/\z.spot=none/\U.sees (z.add (i*1)) (enc x))(F:∀x,∃k n,enc x=.int k n)(G:len<2^60)(g:FuncId)(first h:Array Value)(p:α->Bool)
  (hf:WW S U g first h enc l p):Qb S 68 #[.slice a len cap,.func (.func g) first h] (λ v U'=>v=.int .i64 (XB p l)/\U'=U) U:=by
 refine Qb.of (args:=[_,_]) US Qe S1 ?_
 repeat refine⟨rfl,?_⟩
 refine⟨Nat,λ i=>[(0,.slice a len cap),(1,.func (.func g) first h),(6,.slice a len cap),(7,.int .i64 len),(8,.int .i64 i)],
  λ i U'=>U'=U/\i<=len/\∀x∈l.take i,p x=false,λ i=>len-i,0,T1,⟨rfl,O1,S1⟩,?_⟩
 rintro i f _⟨rfl,L,b⟩
 repeat refine⟨rfl,?_⟩
 conv=>whnf
 apply Qg<;>intro B
 .have hlt:i<len:=by simpa using B
  have hx:l[i]?=some (l[i]' O1):=S1
  generalize l[i]' O1=x at hx;obtain⟨z,rfl,K,H⟩:=E i x hx;obtain⟨k,n,I⟩:=F x;have w:=hf.2 x (mem_of_getElem? hx);rw[I]at w H;refine⟨z,i,⟨rfl,rfl,hlt⟩,_,H,hf.1,w.mono ?_⟩;rintro v U'⟨rfl,rfl⟩-
  conv=>whnf
  apply Qg<;>intro B
  .repeat refine⟨rfl,?_⟩
   conv=>whnf
   exact⟨by rw[VR hx B b],rfl⟩
  .refine⟨I1,?_⟩;refine⟨rfl,i+1,T1,⟨rfl,O1,?_⟩,L1⟩;intro y hy;rw[Wf hx,mem_append]at hy;rcases hy with hy|hy
   .exact b y hy
   .simp at hy;subst hy;exact B
 .have hge:len<=i:=by simpa using B
  repeat refine⟨rfl,?_⟩
  refine⟨?_,rfl⟩;rw[take_of_length_le O1]at b;rw[VQ b]
def zf(a:Option Addr)(len cap:Nat)(l:List Int)(hl:Z6 U a len l)(w:len<2^60)(n:Int) :
  Qb S 69 #[.slice a len cap,.int .i64 n] (λ v U'=>v=.int .i64 (XB (λ y=>n==y) l)/\U'=U) U:=by
 refine Qb.of (args:=[_,_]) UT Qe S1 ?_;have B:=hl.1
 repeat refine⟨rfl,?_⟩
 refine⟨Nat,λ i=>[(0,.slice a len cap),(1,.int .i64 n),(6,.slice a len cap),(7,.int .i64 len),(8,.int .i64 i)],
  λ i U'=>U'=U/\i<=len/\∀x∈l.take i,(n==x)=false,λ i=>len-i,0,T1,⟨rfl,O1,S1⟩,?_⟩
 rintro i f _⟨rfl,G,b⟩
 repeat refine⟨rfl,?_⟩
 conv=>whnf
 apply Qg<;>intro h
 .have hlt:i<len:=by simpa using h
  obtain⟨z,x,hx,rfl,F,E⟩:=hl.at hlt;refine⟨z,i,⟨rfl,rfl,hlt⟩,_,E,?_⟩
  repeat refine⟨rfl,?_⟩
  conv=>whnf
  apply Qg<;>intro h
  .repeat refine⟨rfl,?_⟩
   conv=>whnf
   exact⟨by rw[VR (p:=λ y=>n==y) hx h b],rfl⟩
  .refine⟨I1,?_⟩;refine⟨rfl,i+1,T1,⟨rfl,O1,?_⟩,L1⟩;intro y hy;rw[Wf hx,mem_append]at hy;rcases hy with hy|hy
   .exact b y hy
   .simp at hy;subst hy;exact h
 .have hge:len<=i:=by simpa using h
  repeat refine⟨rfl,?_⟩
  refine⟨?_,rfl⟩;rw[take_of_length_le O1]at b;rw[VQ b]
def DB(a:Option Addr)(len cap:Nat)(l:List Int)(hl:Z6 U a len l)(b:len<2^60)(n:Int) :
  Qb S 37 #[.slice a len cap,.int .i64 n] (λ v U'=>v=.bool (l.contains n)/\U'=U) U:=by
 refine Qb.of (args:=[_,_]) ON Qe S1 ?_;refine⟨UT.any,(zf a len cap l hl b n).mono ?_⟩;rintro v U'⟨rfl,rfl⟩-
 repeat refine⟨rfl,?_⟩
 refine⟨?_,rfl⟩;show Value.bool _=_;rw[Y8];congr 1;rw[Bool.eq_iff_iff];simp
end Go.Proofs
namespace Go.TM
open Go.Proofs
def Gz(c:UInt8):Bool:=(decide ((c.toNat:Int)<97)|| decide ((c.toNat:Int) > 122))&&(decide ((c.toNat:Int)<48)|| decide ((c.toNat:Int) > 57))
end Go.TM
namespace Go.Proofs
open Go.TM
variable{T:Type}{S:TM.Sys prog T}{U:Qa T}
attribute [local irreducible] Qb Zm
def qW(c:UInt8):Qb S 197 #[.int .u8 c.toNat] (λ v U'=>v=.bool (Gz c)/\U'=U) U:=by
 refine Qb.of (args:=[_]) I0 Qe S1 ?_;have b:Gz c=((decide ((c.toNat:Int)<97)|| decide ((c.toNat:Int) > 122))&&(decide ((c.toNat:Int)<48)|| decide ((c.toNat:Int) > 57))):=rfl
 repeat refine⟨rfl,?_⟩
 conv=>whnf
 apply Jt<;>intro f
 .repeat refine⟨rfl,?_⟩
  conv=>whnf
  apply Jt<;>intro f
  .repeat refine⟨rfl,?_⟩
   conv=>whnf
   apply Jt<;>intro f
   .repeat refine⟨rfl,?_⟩
    conv=>whnf
    exact⟨by rw[b];first|(simp_all;done)|(simp_all;omega),rfl⟩
   .repeat refine⟨rfl,?_⟩
    conv=>whnf
    exact⟨by rw[b];first|(simp_all;done)|(simp_all;omega),rfl⟩
  .repeat refine⟨rfl,?_⟩
   conv=>whnf
   exact⟨by rw[b];first|(simp_all;done)|(simp_all;omega),rfl⟩
 .repeat refine⟨rfl,?_⟩
  conv=>whnf
  apply Jt<;>intro f
  .repeat refine⟨rfl,?_⟩
   conv=>whnf
   exact⟨by rw[b];first|(simp_all;done)|(simp_all;omega),rfl⟩
  .repeat refine⟨rfl,?_⟩
   conv=>whnf
   exact⟨by rw[b];first|(simp_all;done)|(simp_all;omega),rfl⟩
end Go.Proofs
namespace Go.TM
open Go.Proofs
def Zk(s:ByteArray):Bool:=QP s.size 1 10&&((match s.data.toList with|c::_=>!(decide ((c.toNat:Int)<97))&&!(decide ((c.toNat:Int) > 122))|[]=>false)&&!(s.data.toList.any Gz))
end Go.TM
namespace Go.Proofs
open Go.TM
variable{T:Type}{S:TM.Sys prog T}{U:Qa T}
attribute [local irreducible] Qb Zm
def C2(a:Option Addr)(len cap:Nat)(l:List UInt8)(hl:l.length=len)(h:∀(i:Nat)x,l[i]?=some x->∃f,a=some f/\f.spot=none/\U.sees (f.add (i*1)) (.int .u8 x.toNat))(b:len<2^60) :
  Qb S 159 #[.slice a len cap,.func (.func 197) #[] #[]] (λ v U'=>v=.bool (l.any Gz)/\U'=U) U:=by
 refine Qb.of (args:=[_,_]) FV Qe S1 ?_;refine⟨FW.any,(zC (λ c:UInt8=>.int .u8 c.toNat) a len cap l hl h (λ x=>⟨_,_,rfl⟩) b 197 #[] #[] Gz ⟨I0.any,λ x _=>qW x⟩).mono ?_⟩;rintro v U'⟨rfl,rfl⟩-
 repeat refine⟨rfl,?_⟩
 refine⟨?_,rfl⟩;show Value.bool _=_;rw[Y8]
def IY:prog.underlying 9=some .string:=K1
def xj:prog.underlying 135=some (.slice 5):=K1
def De:prog.underlying 5=some (.int .u8):=K1
def M0{s:ByteArray}{c:UInt8}{r:List UInt8}(h:s.data.toList=c::r):s[0]?=some c:=by
 have h1:s.data[0]?=some c:=by rw[<- Array.getElem?_toList,h];rfl
 obtain⟨b,f⟩:=Array.getElem?_eq_some_iff.1 h1;rw[getElem?_pos s 0 (by simpa using b)];exact congrArg some f
def qB(s:ByteArray)(F:s.size<2^60):Qb S 196 #[.string s] (λ v U'=>v=.bool (Zk s)/\U'=U) U:=by
 refine Qb.pure' (Qb.of (args:=[_]) F_ Qe S1 ?_);have w:s.size=s.data.toList.length:=by rw[Array.length_toList];rfl
 refine⟨Gd.any,(Wq _ _ _ _).mono ?_⟩;rintro v U'⟨rfl,rfl⟩-
 conv=>whnf
 apply Jt<;>intro f
 .have hb:QP (s.size:Int) 1 10=true:=by simpa using f
  cases h:s.data.toList with
  |nil=>rw[w,h]at hb;simp[QP]at hb
  |cons c r=>
   have E:Zk s=(!(decide ((c.toNat:Int)<97))&&!(decide ((c.toNat:Int) > 122))&&!((c::r).any Gz)):=by unfold Zk;rw[hb,h];rfl
   refine⟨0,c,⟨rfl,M0 h⟩,?_⟩
   repeat refine⟨rfl,?_⟩
   conv=>whnf
   apply Jt<;>intro f
   .have h1:decide ((c.toNat:Int)<97)=false:=by simpa using f
    refine⟨0,c,⟨rfl,M0 h⟩,?_⟩
    repeat refine⟨rfl,?_⟩
    conv=>whnf
    apply Qg<;>intro f
    .repeat refine⟨rfl,?_⟩
     conv=>whnf
     exact⟨by rw[E,f];simp,Qa.le.lg (.refl _)⟩
    .conv=>whnf
     refine gf IY xj De rfl λ b cap cs fr z B=>?_;refine⟨FV.any,(C2 (some ⟨b,0,none⟩) s.size cap (c::r) (by rw[w,h]) (λ i x hx=>⟨_,rfl,rfl,?_⟩) F).mono ?_⟩
     .rw[Qo];refine⟨rfl,.inl ⟨cs,5,fr,.inl (by simp[JC]),?_⟩⟩;have:=B i x (by rw[<- Array.getElem?_toList,h];exact hx);simpa using this
     rintro v U''⟨rfl,rfl⟩-
     repeat refine⟨rfl,?_⟩
     refine⟨?_,(Gt z).lg⟩;show Value.bool _=_;rw[E,h1,f];simp
   .have h1:decide ((c.toNat:Int)<97)=true:=by simpa using f
    repeat refine⟨rfl,?_⟩
    conv=>whnf
    exact⟨by rw[E,h1];rfl,Qa.le.lg (.refl _)⟩
 .have hb:QP (s.size:Int) 1 10=false:=by simpa using f
  repeat refine⟨rfl,?_⟩
  conv=>whnf
  exact⟨by unfold Zk;rw[hb];rfl,Qa.le.lg (.refl _)⟩
end Go.Proofs
namespace Go.TM
variable{T:Type}{U:Qa T}
def Sv{v:Value}{l:List Int}{M₀:List Qw}(h:Acc 3 1 v (l.map λ n=>.int .i64 n) U.M M₀):∃a cap,v=.slice a l.length cap/\Z6 U a l.length l:=by
 obtain⟨a,len,cap,rfl,hl,B⟩:=h.src;simp at hl;subst hl;refine⟨a,cap,rfl,rfl,λ i x hx=>?_⟩;rcases h with⟨h1,h2,_⟩|⟨b,c,len,cap',h1,h2,w,z,f,h5⟩
 .rw[map_eq_nil_iff]at h2;subst h2;simp at hx
 .cases h1;refine⟨_,rfl,rfl,?_⟩;rw[Qo];exact⟨rfl,.inl ⟨c,3,(0,0),.inr (by rw[f];exact mem_cons_self ..),by simpa using h5 i (.int .i64 x) (by simp[hx])⟩⟩
end Go.TM
namespace Go.Proofs
open Go.TM
variable{T:Type}{S:TM.Sys prog T}{U:Qa T}
attribute [local irreducible] Qb Zm Wo
def H2:X6 prog 29 3 1:=.of K1
def Pv:prog.underlying 29=some (.slice 3):=K1
def DT(a:Option Addr)(len cap:Nat)(l:List Int)(hl:Z6 U a len l)(F:len<=1000000) :
  Qb S 34 #[.slice a len cap] (λ v U'=>Acc 3 1 v (l.map λ n=>.int .i64 n) U'.M U.M/\(∀x o,U.I x=some o->U'.I x=some o)/\U'.tok=U.tok) U:=by
 refine Qb.of (args:=[_]) Pz Qe S1 ?_;have z:=hl.1
 conv=>whnf
 refine K0 Pv rfl ?_
 conv=>whnf
 apply Qg<;>intro E
 .have ha:a=none:=by simpa using E
  subst ha
  have:l=[]:=by
   cases l with
   |nil=>rfl
   |cons x r=>obtain⟨b,h,_⟩:=hl.2 0 x rfl;cases h
  subst this
  repeat refine⟨rfl,?_⟩
  conv=>whnf
  exact⟨.nil,λ _ _ h=>h,rfl⟩
 .obtain⟨b,rfl⟩:∃b,a=some b:=by cases a with|none=>cases E|some b=>exact⟨b,rfl⟩
  conv=>whnf
  intro B K;refine⟨_,.refl _,?_⟩
  conv=>whnf
  refine Wn (v:=.slice (some ⟨B,0,none⟩) 0 0) (cs:=[]) (new:=l.map λ n=>.int .i64 n) (M₀:=U.M) H2 rfl rfl .empty (.inr ⟨_,rfl,λ i v w=>?_⟩) (by simp[z]) (by simp[Value.single]) S3 λ P M' f _=>?_
  .rw[getElem?_map]at w;cases hx:l[i]? with
   |none=>rw[hx]at w;cases w
   |some x=>
    rw[hx]at w;cases w;obtain⟨H,e,_,G⟩:=hl.2 i x hx;cases e;rw[Nat.mul_one]at G;exact G.lg (Z2 B _)
  obtain⟨L,N,tc,rfl,-,-⟩:=Acc.src (U:={ U with M:=M' }) f
  repeat refine⟨rfl,?_⟩
  conv=>whnf
  exact⟨by simpa using f,λ _ _ h=>h,rfl⟩
end Go.Proofs
namespace Go.TM
variable{T:Type}{U:Qa T}
def Zh{b:Nat}{c:Array Value}{t:TypeId}{Q:Qa T->Prop}(hf:U.free b)(h:∀f,U.le f->Zi f b c->Q f):∃f,Qv (U.put b (.cells c t)) f/\Q f:=
 ⟨_,Wa (b:=b) (M':=U.M) (Perm.refl _),h _ (Gt hf) Zi.new⟩
def HK{b:Nat}{c:Array Value}{t:TypeId}{vs:List Value}{Q:Qa T->Prop}(f:c.size=vs.length)(z:∀v∈vs,v.single=true)(h:Q (U.put b (.cells vs.toArray t))) :
  QX ⟨b,0,none⟩ vs 0 (λ U'=>∃w,Qv U' w/\Q w) (U.put b (.cells c t)):=by
 refine H5 vs 0 c _ rfl z O1 ?_;rw[Pj f];exact⟨_,.refl _,h⟩
def kJ{b i:Nat}{c:Array Value}{t:TypeId}{v:Value}{Q:Qa T->Prop}(hf:U.free b)(z:i<c.size)(w:v.single=true)(h:∀f,U.le f->Zi f b (c.setIfInBounds i v)->Q f) :
  QX ((Addr.mk b 0 none).add i) [v] 0 (λ U'=>∃f,Qv U' f/\Q f) (U.put b (.cells c t)):=by
 rw[Qo];refine H5 [v] 0 c _ rfl (by simpa using w) S3 ?_;simp only[ZT,Nat.zero_add,Nat.add_zero];exact Zh hf h
def Zo5{b:Nat}{c:Array Value}{e:TypeId}{vs:List Value}{M₀:List Qw}{Q:Qa T->Prop}(z:U.M=.obj b (.cells c e (0,0))::M₀)(f:c.size=vs.length)(B:∀v∈vs,v.single=true)
  (h:Q { U with M:=.obj b (.cells vs.toArray e (0,0))::M₀ }):QX ⟨b,0,none⟩ vs 0 (λ U'=>∃w,Qv U' w/\Q w) U:=by
 refine H5 vs 0 c U z B O1 ?_;rw[Pj f];exact⟨_,.refl _,h⟩
def Zna{b:Nat}{e:TypeId}{vs:List Value}{M₀:List Qw}{I:Nat->Option Obj}{k:T}:Je (⟨I,.obj b (.cells vs.toArray e (0,0))::M₀,k⟩:Qa T) ⟨b,0,none⟩ vs:=
 Fo (M₀:=M₀) rfl λ i x h=>by simpa using h
def Vf{α:Type}{l l':List α}{i:Nat}{x y:α}(hx:l[i]?=some x)(hy:l'[i]?=some y)(h:l.take i=l'.take i)(e:x=y):l.take (i+1)=l'.take (i+1):=by
 rw[Wf hx,Wf hy,h,e]
def KU{α:Type}{l l':List α}{i:Nat}{x y:α}(hx:l[i]?=some x)(hy:l'[i]?=some y)(e:x≠y):l≠l':=by
 rintro rfl;exact e (Option.some.inj (hx.symm.trans hy))
end Go.TM
namespace Go.Proofs
open Go.TM
variable{T:Type}{S:TM.Sys prog T}{U:Qa T}
attribute [local irreducible] Qb Zm Wo
def GZ(a a':Option Addr)(len cap b cap':Nat)(l l':List Int)(hl:Z6 U a len l)(hl':Z6 U a' b l')(I:len<2^60) :
  Qb S 12 #[.slice a len cap,.slice a' b cap'] (λ v U'=>v=.bool (decide (l=l'))/\U'=U) U:=by
 refine Qb.pure' (Qb.of (args:=[_,_]) Gb Qe S1 ?_);have h1:=hl.1;have h2:=hl'.1
 repeat refine⟨rfl,?_⟩
 conv=>whnf
 apply Qg<;>intro z
 .have hne:len≠b:=by intro e;subst e;simp at z
  repeat refine⟨rfl,?_⟩
  refine⟨?_,(Qa.le.refl _).lg⟩;rw[decide_eq_false (λ e=>hne (by rw[<- h1,<- h2,e]))]
 have F:len=b:=Int.ofNat.inj (by simpa using z:(len:Int)=b);subst F;refine⟨Nat,λ i=>[(0,.slice a len cap),(1,.slice a' len cap'),(5,.int .i64 i)],λ i U'=>U.le U'/\i<=len/\l.take i=l'.take i,λ i=>len-i,0,T1,⟨.refl _,O1,rfl⟩,?_⟩;rintro i f M⟨h,P,B⟩
 repeat refine⟨rfl,?_⟩
 conv=>whnf
 apply Qg<;>intro z
 .have hlt:i<len:=by simpa using z
  obtain⟨K,x,hx,rfl,-,L⟩:=(hl.lg h.lg).at hlt;obtain⟨E,y,hy,rfl,-,H⟩:=(hl'.lg h.lg).at hlt;have G:Z7 (i+1):=I1
  refine⟨K,i,⟨rfl,rfl,hlt⟩,_,L,E,i,⟨rfl,rfl,hlt⟩,_,H,?_⟩
  conv=>whnf
  intro N w _
  repeat refine⟨rfl,?_⟩
  conv=>whnf
  apply Qg<;>intro z
  .have hne:x≠y:=by simpa using z
   repeat refine⟨rfl,?_⟩
   conv=>whnf
   exact⟨by rw[decide_eq_false (KU hx hy hne)],(h.trans w).lg⟩
  .have hxy:x=y:=by simpa using z
   refine⟨G,?_⟩
   conv=>whnf
   exact⟨rfl,i+1,T1,⟨h.trans w,O1,Vf hx hy B hxy⟩,L1⟩
 .have hge:len<=i:=by simpa using z
  rw[take_of_length_le O1,take_of_length_le O1]at B
  repeat refine⟨rfl,?_⟩
  conv=>whnf
  exact⟨by rw[decide_eq_true B],h.lg⟩
end Go.Proofs
namespace Go.TM
variable{T:Type}{U:Qa T}
def Ho(l:List Int)(i j:Nat):Prop:=(∀p q x y,p<q->q<=i->p≠j->q≠j->l[p]?=some x->l[q]?=some y->x<=y)/\(∀q x y,j<q->q<=i->l[j]?=some x->l[q]?=some y->x<=y)
def Xb(l:List Int)(i:Nat):Prop:=∀p q x y,p<q->q<i->l[p]?=some x->l[q]?=some y->x<=y
def Ho.start{l:List Int}{i:Nat}(h:Xb l i):Ho l i i:=
 ⟨λ p q x y h1 h2 _ b hx hy=>h p q x y h1 O1 hx hy,λ q x y h1 h2=>O1⟩
def Ho.done{l:List Int}{i j:Nat}(h:Ho l i j)(F:j<=i)(B:j=0\/∃x y,l[j]?=some x/\l[j-1]?=some y/\y<=x):Xb l (i+1):=by
 intro p q x y b G hx hy;by_cases e:q=j
 .subst e;rcases B with B|⟨H,E,z,f,w⟩
  .omega
  .rw[z]at hy;cases hy;by_cases e':p=q-1
   .subst e';rw[f]at hx;cases hx;exact w
   .have:=h.1 p (q-1) x E O1 O1 O1 O1 hx f;omega
 .by_cases e':p=j
  .subst e';exact h.2 q x y b O1 hx hy
  .exact h.1 p q x y b O1 e' e hx hy
def Ho.step{l:List Int}{i j:Nat}{x y:Int}(h:Ho l i j)(K:j<=i)(I:0<j)(hx:l[j]?=some x)(hy:l[j-1]?=some y)(H:x<y):Ho ((l.set j y).set (j-1) x) i (j-1):=by
 have w:j<l.length:=(List.getElem?_eq_some_iff.1 hx).1
 have get:∀k,((l.set j y).set (j-1) x)[k]?=if k=j-1 then some x else if k=j then some y else l[k]?:=by
  intro k;rw[getElem?_set,getElem?_set];by_cases e:j-1=k
  .subst e;rw[if_pos rfl,if_pos S3,if_pos rfl]
  .have e2:¬k=j-1:=λ h=>e h.symm;rw[if_neg e,if_neg e2];by_cases e':j=k
   .subst e';rw[if_pos rfl,if_pos w,if_pos rfl]
   .have e3:¬k=j:=λ h=>e' h.symm;rw[if_neg e',if_neg e3]
 refine⟨λ p q u v B E z F f b=>?_,λ q u v E G f b=>?_⟩
 .rw[get,if_neg z]at f;rw[get,if_neg F]at b;by_cases e:p=j
  .subst e;rw[if_pos rfl]at f;cases f;rw[if_neg O1]at b;exact h.1 (p-1) q y v O1 E O1 O1 hy b
  .rw[if_neg e]at f;by_cases e':q=j
   .subst e';rw[if_pos rfl]at b;cases b;exact h.1 p (q-1) u y O1 O1 O1 O1 f hy
   .rw[if_neg e']at b;exact h.1 p q u v B E e e' f b
 .rw[get,if_pos rfl]at f;cases f;rw[get,if_neg O1]at b;by_cases e:q=j
  .subst e;rw[if_pos rfl]at b;cases b;omega
  .rw[if_neg e]at b;exact h.2 q x v O1 G hx b
end Go.TM
namespace Go.Proofs
open Go.TM
variable{T:Type}{S:TM.Sys prog T}{U:Qa T}
attribute [local irreducible] Qb Zm Wo
def MU(n:Int):Qb S 106 #[.int .i64 n] (λ v U'=>v=.bool false/\U'=U) U:=by
 refine Qb.pure' (Qb.of (args:=[_]) Fy Qe S1 ?_)
 repeat refine⟨rfl,?_⟩
 conv=>whnf
 exact⟨S1,(Qa.le.refl _).lg⟩
def zF(a b:Int):Qb S 144 #[.int .i64 a,.int .i64 b] (λ v U'=>v=.bool (decide (a<b))/\U'=U) U:=by
 refine Qb.pure' (Qb.of (args:=[_,_]) FQ Qe S1 ?_);refine⟨Fy.any,(MU a).mono ?_⟩;rintro _ U'⟨rfl,rfl⟩-
 repeat refine⟨rfl,?_⟩
 conv=>whnf
 exact(Qa.le.refl _).lg
def yr{s:ByteArray}{n:Nat}{K:UInt8->Prop}(h:n<s.size)(f:∀c,K c):∃(j:Nat)(b:UInt8),((n:Int)=j/\s[j]?=some b)/\K b:=
 ⟨n,_,⟨rfl,getElem?_pos s n h⟩,f _⟩
def zu(n:Nat)(w:n<256):Qb S 148 #[.int .u64 n] (λ v U'=>(∃m,v=.int .i64 m)/\U'=U) U:=by
 refine Qb.pure' (Qb.of (args:=[_]) FT Qe S1 ?_)
 repeat refine⟨rfl,?_⟩
 conv=>whnf
 apply Qg<;>intro b
 .simp at b;omega
 repeat refine⟨rfl,?_⟩
 conv=>whnf
 apply Qg<;>intro b
 .simp at b;omega
 repeat refine⟨rfl,?_⟩
 conv=>whnf
 apply Qg<;>intro b
 .simp at b;omega
 conv=>whnf
 have z:IntKind.wrap .u8 (n:Int)=n:=by
  have h:(2:Int)^8=256:=D1
  simp only[IntKind.wrap,IntKind.bits,IntKind.signed,Bool.false_and,h];simp;omega
 rw[z];refine yr (by exact w) λ c=>?_;have b:=c.toNat_lt;have f:IntKind.wrap .i64 (c.toNat:Int)=c.toNat:=Gh I1
 conv=>whnf
 rw[f];refine⟨I1,?_⟩
 conv=>whnf
 exact⟨⟨_,rfl⟩,(Qa.le.refl _).lg⟩
end Go.Proofs
namespace Go.TM
variable{T:Type}{U:Qa T}
def Yb{b k:Nat}{c:Array Value}{e:TypeId}{v:Value}{M₀:List Qw}(f:U.M=.obj b (.cells c e (0,0))::M₀)(h:c[k]?=some v):U.sees ((Addr.mk b 0 none).add (k*1)) v:=by
 rw[Nat.mul_one,Qo];exact⟨rfl,.inl ⟨c,e,(0,0),.inr (by rw[f];exact mem_cons_self ..),by simpa using h⟩⟩
def Xb.le{l:List Int}{i j:Nat}(h:Xb l i)(b:j<=i):Xb l j:=λ p q x y h1 h2=>h p q x y h1 O1
def HL(c:Array Value)(l:List Int):Prop:=∀(k:Nat)(x:Int),l[k]?=some x->c[k]?=some (.int .i64 x)
def HL.set{c:Array Value}{l:List Int}(h:HL c l)(hl:l.length<=c.size)(i:Nat)(x:Int):HL (c.setIfInBounds i (.int .i64 x)) (l.set i x):=by
 intro k y hy;rw[getElem?_set]at hy;by_cases e:i=k
 .subst e;rw[if_pos rfl]at hy;split at hy
  .cases hy;rw[Array.getElem?_setIfInBounds_self_of_lt O1]
  .cases hy
 .rw[if_neg e]at hy;rw[Array.getElem?_setIfInBounds_ne e];exact h k y hy
def gt{l:List Int}{j:Nat}{x y:Int}(b:0<j)(hx:l[j]?=some x)(hy:l[j-1]?=some y):((l.set j y).set (j-1) x).Perm l:=by
 obtain⟨h1,rfl⟩:=List.getElem?_eq_some_iff.1 hx;obtain⟨h2,rfl⟩:=List.getElem?_eq_some_iff.1 hy;exact set_set_perm h1 h2
end Go.TM
namespace Go.Proofs
open Go.TM
variable{T:Type}{S:TM.Sys prog T}{U:Qa T}
attribute [local irreducible] Qb Zm Wo
def zg(b cap:Nat)(l:List Int)(K:Array Value)(M₀:List Qw)(Z:U.M=.obj b (.cells K 3 (0,0))::M₀)(ag:l.length<=cap)(ad:K.size=cap)(ab:HL K l)(hn:l.length<2^40) :
  Qb S 138 #[.slice (some ⟨b,0,none⟩) l.length cap,.int .i64 0,.int .i64 l.length] (λ _ U'=>(∀x o,U.I x=some o->U'.I x=some o)/\U'.tok=U.tok/\∃l' c',l'.Perm l/\Xb l' l.length/\U'.M=.obj b (.cells c' 3 (0,0))::M₀/\c'.size=cap/\HL c' l') U:=by
 refine Qb.of (args:=[_,_,_]) VW Qe S1 ?_
 repeat refine⟨rfl,?_⟩
 refine⟨I1,?_⟩
 refine⟨Nat×List Int×Array Value,λ y=>[(0,.slice (some ⟨b,0,none⟩) l.length cap),(1,.int .i64 0),(2,.int .i64 l.length),(6,.int .i64 y.1)],
  λ y U'=>(∀x o,U.I x=some o->U'.I x=some o)/\U'.tok=U.tok/\U'.M=.obj b (.cells y.2.2 3 (0,0))::M₀/\y.2.2.size=cap/\HL y.2.2 y.2.1/\y.2.1.Perm l/\Xb y.2.1 y.1/\1<=y.1/\y.1<2^41,
  λ y=>l.length-y.1,(1,l,K),T1,⟨λ _ _ h=>h,rfl,Z,ad,ab,.refl _,λ p q _ _ h1 h2=>O1,by simp only;omega,by simp only;omega⟩,?_⟩
 rintro⟨i,w,c⟩f U1⟨X,ht,L,G,z,F,W,H,af⟩;simp only at L G z F W H af
 repeat refine⟨rfl,?_⟩
 conv=>whnf
 apply Qg<;>intro Q
 .have hlt:i<l.length:=by simpa using Q
  have ac:Z7 (i+1):=I1
  refine⟨Nat×List Int×Array Value,λ y=>[(0,.slice (some ⟨b,0,none⟩) l.length cap),(1,.int .i64 0),(2,.int .i64 l.length),(6,.int .i64 i),(7,.int .i64 y.1)],
   λ y U'=>(∀x o,U.I x=some o->U'.I x=some o)/\U'.tok=U.tok/\U'.M=.obj b (.cells y.2.2 3 (0,0))::M₀/\y.2.2.size=cap/\HL y.2.2 y.2.1/\y.2.1.Perm l/\Ho y.2.1 i y.1/\y.1<=i,
   λ y=>y.1,(i,w,c),T1,⟨X,ht,L,G,z,F,.start W,by simp only;omega⟩,?_⟩
  rintro⟨j,w,c⟩f U2⟨X,ht,L,G,z,F,P,hj⟩;simp only at L G z F P hj;have ah:=F.length_eq
  repeat refine⟨rfl,?_⟩
  conv=>whnf
  apply Jt<;>intro Q
  .have h0:0<j:=by simp at Q;omega
   have hx:w[j]?=some (w[j]' O1):=S1
   generalize w[j]' O1=x at hx;have hy:w[j-1]?=some (w[j-1]' O1):=S1
   generalize w[j-1]' O1=y at hy;have H:Z7 ((j:Int)-1):=I1
   have N:(j:Int)-1=((j-1:Nat):Int):=O1
   repeat refine⟨rfl,?_⟩
   refine⟨_,j,⟨rfl,rfl,O1⟩,_,Yb L (z j x hx),?_⟩
   repeat refine⟨rfl,?_⟩
   refine⟨H,_,j-1,⟨rfl,N,O1⟩,_,Yb L (z (j-1) y hy),?_⟩
   conv=>whnf
   intro U3 E _;have B:=E.own.trans L;refine⟨FQ.any,(zF x y).go λ _=>?_⟩
   repeat refine⟨rfl,?_⟩
   conv=>whnf
   apply Qg<;>intro Q
   .have hxy:x<y:=of_decide_eq_true Q;refine⟨λ U'=>(∀x o,U.I x=some o->U'.I x=some o)/\U'.tok=U.tok/\U'.M=.obj b (.cells (c.setIfInBounds j (.int .i64 y)) 3 (0,0))::M₀,λ U U'⟨a,b,c⟩V=>⟨λ x o h=>V.imm x o (a x o h),V.tok.trans b,V.own.trans c⟩,H,H,_,j-1,⟨rfl,N,O1⟩,_,Yb B (z (j-1) y hy),_,j,⟨rfl,rfl,O1⟩,_,Yb B (z j x hx),_,j,⟨rfl,rfl,O1⟩,?_⟩
    conv=>whnf
    intro U4 T _;refine⟨⟨rfl,?_⟩,λ U5 hG=>?_⟩
    .show QX ((Addr.mk b 0 none).add (j*1)) [.int .i64 y] 0 _ _;rw[Nat.mul_one];exact GV [] (T.own.trans B) O1 rfl ⟨rfl,_,.refl _,λ x o h=>T.imm x o (E.imm x o (X x o h)),T.tok.trans (E.tok.trans ht),rfl⟩
    obtain⟨Y,ae,aa⟩:=hG;refine⟨_,j-1,⟨rfl,N,O1⟩,rfl,?_⟩;show QX ((Addr.mk b 0 none).add ((j-1)*1)) [.int .i64 x] 0 _ _;rw[Nat.mul_one];refine GV [] aa S3 rfl ?_;refine⟨H,?_⟩
    conv=>whnf
    exact⟨rfl,(j-1,(w.set j y).set (j-1) x,(c.setIfInBounds j (.int .i64 y)).setIfInBounds (j-1) (.int .i64 x)),⟨rfl,rfl,rfl,rfl,by rw[<- N];rfl,trivial⟩,⟨Y,ae,rfl,by simpa using G,(z.set O1 j y).set S3 (j-1) x,(gt h0 hx hy).trans F,P.step hj h0 hx hy hxy,by simp only;omega⟩,by show j-1<j;omega⟩
   .have hxy:¬x<y:=of_decide_eq_false Q;refine⟨ac,?_⟩
    conv=>whnf
    exact⟨rfl,(i+1,w,c),T1,⟨λ x o h=>E.imm x o (X x o h),E.tok.trans ht,B,G,z,F,P.done hj (.inr ⟨x,y,hx,hy,O1⟩),by simp only;omega,by simp only;omega⟩,L1⟩
  .have h0:j=0:=by simp at Q;omega
   conv=>whnf
   intro U3 E _;have B:=E.own.trans L
   repeat refine⟨rfl,?_⟩
   refine⟨ac,?_⟩
   conv=>whnf
   exact⟨rfl,(i+1,w,c),T1,⟨λ x o h=>E.imm x o (X x o h),E.tok.trans ht,B,G,z,F,P.done hj (.inl h0),by simp only;omega,by simp only;omega⟩,L1⟩
 .have hge:l.length<=i:=by simpa using Q
  repeat refine⟨rfl,?_⟩
  conv=>whnf
  exact⟨X,ht,w,c,F,W.le hge,L,G,z⟩
def qC:Qb S 138 #[.slice none 0 0,.int .i64 0,.int .i64 (0:Nat)] (λ _ U'=>U'=U) U:=by
 refine(Qb.pure' (Q:=λ _=>True) (Qb.of (args:=[_,_,_]) VW Qe S1 ?_)).mono λ _ _ h=>h.2
 repeat refine⟨rfl,?_⟩
 refine⟨I1,?_⟩;refine⟨Unit,λ _=>[(2,.int .i64 (0:Nat)),(6,.int .i64 1)],λ _ U'=>U'=U,λ _=>0,(),T1,rfl,?_⟩;rintro _ f _ rfl
 repeat refine⟨rfl,?_⟩
 conv=>whnf
 exact⟨trivial,(Qa.le.refl _).lg⟩
def C_(n:Nat)(b:n<256):Qb S 105 #[.int .u64 n] (λ v U'=>(∃m,v=.int .i64 m)/\U'=U) U:=by
 refine Qb.pure' (Qb.of (args:=[_]) Fx Qe S1 ?_);refine⟨FT.any,(zu n b).mono ?_⟩;rintro _ U'⟨⟨m,rfl⟩,rfl⟩-
 repeat refine⟨rfl,?_⟩
 conv=>whnf
 exact⟨⟨_,rfl⟩,(Qa.le.refl _).lg⟩
def MQ(v:Value)(l:List Int)(M₀:List Qw)(m:Int)(ha:Acc 3 1 v (l.map λ n=>.int .i64 n) U.M M₀)(G:l.length<=12) :
  Qb S 104 #[v,.int .i64 0,.int .i64 l.length,.int .i64 m] (λ _ U'=>(∀x o,U.I x=some o->U'.I x=some o)/\U'.tok=U.tok/\∃l',l'.Perm l/\Xb l' l.length/\Acc 3 1 v (l'.map λ n=>.int .i64 n) U'.M M₀) U:=by
 obtain⟨sa,sc,rfl,-⟩:=Sv ha;refine Qb.of (args:=[_,_,_,_]) Fw Qe S1 ?_
 repeat refine⟨rfl,?_⟩
 refine⟨Unit,λ _=>[(0,.slice sa l.length sc),(1,.int .i64 0),(2,.int .i64 l.length),(3,.int .i64 m)],λ _ U'=>U'=U,λ _=>0,(),T1,rfl,?_⟩;rintro _ f U' w;obtain rfl:=w.symm
 repeat refine⟨rfl,?_⟩
 refine⟨I1,?_⟩
 repeat refine⟨rfl,?_⟩
 conv=>whnf
 apply Qg<;>intro L
 .conv=>whnf
  rcases ha with⟨h1,h2,z⟩|⟨b,c,len,cap,h1,h2,F,Q,z,h5⟩
  .rw[map_eq_nil_iff]at h2;subst h2;cases h1;refine⟨VW.any,qC.mono ?_⟩;rintro _ U' w -;obtain rfl:=w.symm
   repeat refine⟨rfl,?_⟩
   conv=>whnf
   exact⟨λ _ _ h=>h,rfl,[],.refl _,λ p q _ _ h1 h2=>by simp at h2,.inl ⟨rfl,rfl,z⟩⟩
  .cases h1;refine⟨VW.any,(zg b sc l c M₀ z F O1 (λ k x hx=>h5 k _ (by simp[hx])) O1).mono ?_⟩;rintro v U'⟨K,ht,l',c',H,N,B,P,E⟩-
   repeat refine⟨rfl,?_⟩
   refine⟨K,ht,l',H,N,.inr ⟨b,c',l.length,sc,rfl,by simp[H.length_eq],F,O1,B,λ k x hx=>?_⟩⟩;rw[getElem?_map]at hx;cases hy:l'[k]? with
   |none=>rw[hy]at hx;cases hx
   |some y=>rw[hy]at hx;cases hx;exact E k y hy
 .simp at L;omega
def zN(v:Value)(l:List Int)(M₀:List Qw)(ha:Acc 3 1 v (l.map λ n=>.int .i64 n) U.M M₀)(b:l.length<=12) :
  Qb S 71 #[v] (λ _ U'=>(∀x o,U.I x=some o->U'.I x=some o)/\U'.tok=U.tok/\∃l',l'.Perm l/\Xb l' l.length/\Acc 3 1 v (l'.map λ n=>.int .i64 n) U'.M M₀) U:=by
 obtain⟨sa,sc,rfl,-⟩:=Sv ha;refine Qb.of (args:=[_]) UU Qe S1 ?_
 have z:IntKind.wrap .u64 (l.length:Int)=l.length:=by
  have h:(2:Int)^64=18446744073709551616:=D1
  simp only[IntKind.wrap,IntKind.bits,IntKind.signed,Bool.false_and,h];simp;omega
 conv=>whnf
 rw[z];refine⟨Fx.any,(C_ l.length O1).mono ?_⟩;rintro _ U'⟨⟨m,rfl⟩,f⟩-;obtain rfl:=f.symm;refine⟨Fw.any,(MQ _ l M₀ m ha b).mono ?_⟩;rintro v U' w -;cases v <;> (conv=>whnf) <;> exact w
end Go.Proofs
namespace Go.TM
def Lx(a b:ByteArray):(a==b)=decide (a=b):=by
 rw[Bool.eq_iff_iff]
 cases a with|mk x=>cases b with|mk y=>
 show(ByteArray.beq ⟨x⟩ ⟨y⟩)=true↔_;simp[ByteArray.beq]
def xP{l:List Int}{i:Nat}{x:Int}(hx:l[i]?=some x):(if i+1=0 then none else l[i+1-1]?)=some x:=by simpa using hx
def ZP:Nat->List ByteArray->List (ByteArray×Value)
 |_,[]=>[]
 |j,s::l=>(s,.int .i64 j)::ZP (j+1) l
def SL(s:ByteArray):∀(l:List ByteArray)(j i:Nat),if JW l s then ∃n:Int,(QL s (ZP j l) i).map (·.2)=some (.int .i64 n)else(QL s (ZP j l) i).map (·.2)=none
 |[],_,_=>rfl
 |a::l,j,i=>by
  simp only[ZP,QL,JW,any_cons];by_cases e:s=a
  .simp[e]
  .rw[if_neg e];have h:=SL s l (j+1) (i+1);simp only[JW]at h;rw[show decide (a=s)=false from decide_eq_false (Ne.symm e),Bool.false_or];exact h
def No{s:ByteArray}{l:List ByteArray}(h:JW l s=true):∃n:Int,lk s (ZP 0 l)=some (.int .i64 n):=by
 have:=SL s l 0 0
 rwa [if_pos h]at this
def Nn{s:ByteArray}{l:List ByteArray}(h:JW l s=false):lk s (ZP 0 l)=none:=by
 have:=SL s l 0 0
 rwa [h]at this
def Lr(s:ByteArray):∀(l:List ByteArray)(j:Nat),JW l s=false->ZA s (.int .i64 ((j+l.length:Nat):Int)) (ZP j l)=ZP j (l++[s])
 |[],j,_=>rfl
 |a::l,j,h=>by
  simp only[JW,any_cons,Bool.or_eq_false_iff,decide_eq_false_iff_not]at h;simp only[ZP,cons_append,ZA];rw[if_neg (λ e=>h.1 e.symm),<- Lr s l (j+1) h.2];congr 4;simp;omega
end Go.TM
namespace Go.Proofs
open Go.TM
variable{T:Type}{S:TM.Sys prog T}{U:Qa T}
attribute [local irreducible] Qb Zm Wo
def E2(a:Option Addr)(len cap:Nat)(l:List Int)(hl:Z6 U a len l)(I:len<2^60)(n:Nat)(W:n<2^60) :
  Qb S 195 #[.slice a len cap,.int .i64 n] (λ v U'=>v=.int .i64 (QV n none l)/\U'=U) U:=by
 refine Qb.of (args:=[_,_]) On Qe S1 ?_;have P:=hl.1
 repeat refine⟨rfl,?_⟩
 refine⟨Nat,λ i=>[(0,.slice a len cap),(1,.int .i64 n),(7,.slice a len cap),(8,.int .i64 len),(9,.int .i64 i)],
  λ i U'=>U'=U/\i<=len/\QV n none l=QV n (if i=0 then none else l[i-1]?) (l.drop i),λ i=>len-i,0,T1,⟨rfl,O1,rfl⟩,?_⟩
 rintro i f _⟨rfl,V,b⟩;have z:Z7 ((i:Int)+1):=I1
 have B:Z7 ((n:Int)-1):=I1
 repeat refine⟨rfl,?_⟩
 conv=>whnf
 apply Qg<;>intro w
 .have hlt:i<len:=by simpa using w
  obtain⟨H,x,hx,rfl,T,Q⟩:=hl.at hlt;rw[Hj hx,Pq]at b;refine⟨H,i,⟨rfl,rfl,hlt⟩,_,Q,B,Gd.any,(Wq _ _ _ _).mono ?_⟩;rintro v U'⟨rfl,rfl⟩-;cases hb:QP x 0 ((n:Int)-1)with
  |false=>
   rw[hb]at b
   repeat refine⟨rfl,?_⟩
   conv=>whnf
   exact⟨by rw[b];rfl,rfl⟩
  |true=>
   rw[if_pos hb]at b;have next:QV n none l=QV n (some x) (l.drop (i+1))->QV n none l=QV n (if i+1=0 then none else l[i+1-1]?) (l.drop (i+1)):=λ h=>by rw[xP hx];exact h
   repeat refine⟨rfl,?_⟩
   conv=>whnf
   apply Jt<;>intro w
   .have h0:0<i:=by simpa using w
    obtain⟨y,hy⟩:∃y,l[i-1]?=some y:=⟨_,getElem?_eq_getElem O1⟩;rw[if_neg O1,hy]at b;have E:Z7 ((i:Int)-1):=I1
    have M:((i:Int)-1)=((i-1:Nat):Int):=O1
    obtain⟨L,X,F,N,K,G⟩:=hl.at (show i-1<len by omega);cases N;rw[hy]at F;cases F;simp only at b;refine⟨E,H,i-1,⟨rfl,M,O1⟩,_,G,?_⟩
    repeat refine⟨rfl,?_⟩
    conv=>whnf
    apply Qg<;>intro w
    .have h1:x<=y:=by simpa using w
     repeat refine⟨rfl,?_⟩
     conv=>whnf
     rw[if_pos h1]at b;exact⟨by rw[b],rfl⟩
    .have h1:¬x<=y:=by simpa using w
     rw[if_neg h1]at b;refine⟨z,?_⟩
     conv=>whnf
     exact⟨rfl,i+1,T1,⟨rfl,O1,next b⟩,L1⟩
   .have h0:i=0:=by simp at w;omega
    rw[if_pos h0]at b;simp only at b
    repeat refine⟨rfl,?_⟩
    refine⟨z,?_⟩
    conv=>whnf
    exact⟨rfl,i+1,T1,⟨rfl,O1,next b⟩,L1⟩
 .have hge:len<=i:=by simpa using w
  rw[drop_eq_nil_of_le O1]at b
  repeat refine⟨rfl,?_⟩
  conv=>whnf
  exact⟨by rw[b];rfl,rfl⟩
def D6:WG T prog 9 Value.string:=by
 refine .simple (d:=.string) K1 rfl (λ k k'=>?_) (λ k=>?_)
 .show some (k==k')=_;rw[Lx]
 .simp[Instr.sameBits,Lx]
def FE:prog.underlying 270=some (.map 9 3):=K1
def HH:Xa prog 3=some (.int .i64 0):=K1
def Er(mb:Nat)(seen:List ByteArray)(s:ByteArray)(z:s.size<2^60)(M₀:List Qw)(b:U.M=.obj mb (Qt Value.string (ZP 0 seen))::M₀) :
  Qb S 193 #[.map (some mb),.string s,.int .i64 seen.length] (λ v U'=>v=.int .i64 (if Zk s then(if JW seen s then 5 else 0)else 4)/\U'={ U with M:=.obj mb (Qt Value.string (ZP 0 (if Zk s&&!JW seen s then seen++[s]else seen)))::M₀ }) U:=by
 refine Qb.of (args:=[_,_,_]) Om Qe S1 ?_;refine⟨F_.any,(qB s z).mono ?_⟩;rintro v U'⟨rfl,f⟩-;obtain rfl:=f.symm;cases E:Zk s with
 |false=>
  repeat refine⟨rfl,?_⟩
  conv=>whnf
  show _={ U with M:=.obj mb (Qt Value.string (ZP 0 seen))::M₀ };rw[<- b]
 |true=>
  conv=>whnf
  refine YU (k:=s) (l:=ZP 0 seen) D6 FE HH rfl rfl (.inr (by rw[b];exact mem_cons_self ..)) ?_;cases h:JW seen s with
  |true=>
   obtain⟨w,B⟩:=No h;rw[B]
   repeat refine⟨rfl,?_⟩
   conv=>whnf
   show _={ U with M:=.obj mb (Qt Value.string (ZP 0 seen))::M₀ };rw[<- b]
  |false=>
   rw[Nn h]
   conv=>whnf
   refine YF (v:=.int .i64 seen.length) (k:=s) (l:=ZP 0 seen) (M':=.obj mb (Qt Value.string (ZP 0 (seen++[s])))::M₀) D6 FE rfl rfl rfl (by rw[b,<- Lr s seen 0 h,Nat.zero_add];exact .here) ?_
   repeat refine⟨rfl,?_⟩
   conv=>whnf
   rfl
def qE(h:BH)(b:Bk)(hb:Zs U h b):Qb S 191 #[h.v] (λ v U'=>v=.int .i64 (b.rsF Zk)/\U'=U) U:=by
 refine Qb.pure' (Qb.of (args:=[_]) FX Qe S1 ?_);have N:=hb.rs.1;have aa:=hb.rl
 repeat refine⟨rfl,?_⟩
 conv=>whnf
 intro B U1 G Q;have Q:Zi U1 B #[.slice h.ra h.rl h.rc,.slice h.ca h.cl h.cc]:=Q;refine⟨_,Q.sees3 (o:=0) rfl,?_⟩
 repeat refine⟨rfl,?_⟩
 conv=>whnf
 apply Qg<;>intro L
 .have z:b.rs.length > 6:=by rw[N];simp at L;omega
  repeat refine⟨rfl,?_⟩
  conv=>whnf
  exact⟨by unfold Bk.rsF;rw[if_pos z],G.lg⟩
 have z:¬b.rs.length > 6:=by rw[N];simp at L;omega
 have H:b.rsF Zk=GJ Zk [] b.rs:=by unfold Bk.rsF;rw[if_neg z]
 rw[H]
 conv=>whnf
 refine P1 Value.string λ mb ab=>?_;refine⟨_,Qa.sees.lg (Q.sees3 (o:=0) rfl) (Z2 mb _),Nat×List ByteArray,λ y=>[(1,.pointer (some ⟨B,0,none⟩)),(3,.map (some mb)),(15,.slice h.ra h.rl h.rc),(16,.int .i64 h.rl),(17,.int .i64 y.1)],
  λ y U'=>U.lg U'/\U'.M=.obj mb (Qt Value.string (ZP 0 y.2))::U.M/\y.1<=h.rl/\y.2.length=y.1/\GJ Zk [] b.rs=GJ Zk y.2 (b.rs.drop y.1),
  λ y=>h.rl-y.1,(0,[]),T1,⟨G.lg.trans (Z2 _ _),?_,S1,rfl,S1⟩,?_⟩
 .show _::_=_;rw[G.own];rfl
 rintro⟨i,s⟩f U2⟨F,hM,hi,P,w⟩;simp only at hM hi P w;have W:Z7 ((i:Int)+1):=I1
 repeat refine⟨rfl,?_⟩
 conv=>whnf
 apply Qg<;>intro L
 .have hlt:i<h.rl:=by simpa using L
  obtain⟨ad,x,vs,hx,T,ac,rfl,-,Y⟩:=(hb.rs.lg F λ _ _ h=>h).at hlt;rw[Hj hx,GJ]at w;have Z:=hb.rn x (mem_of_getElem? hx);refine⟨ad,i,⟨T,rfl,hlt⟩,_,Y 0 _ rfl,?_⟩;subst P;refine⟨Om.any,(Er mb s x Z U.M hM).mono ?_⟩;rintro _ U'⟨rfl,K⟩-;have E:U.lg U':=K▸⟨F.imm,⟨[_],rfl⟩,F.tok⟩;have I:U'.M=.obj mb (Qt Value.string (ZP 0 (if Zk x&&!JW s x then s++[x]else s)))::U.M:=by rw[K]
  cases X:Zk x with
  |false=>
   rw[X]at w
   repeat refine⟨rfl,?_⟩
   conv=>whnf
   exact⟨by rw[w];rfl,E⟩
  |true=>
   rw[if_pos X]at w;cases V:JW s x with
   |true=>
    rw[if_pos V]at w
    repeat refine⟨rfl,?_⟩
    conv=>whnf
    exact⟨by rw[w];rfl,E⟩
   |false=>
    rw[V]at w;rw[X,V]at I
    repeat refine⟨rfl,?_⟩
    refine⟨W,rfl,(s.length+1,s++[x]),T1,⟨E,I,by show s.length+1<=h.rl;omega,S1,w⟩,L1⟩
 .have hge:h.rl<=i:=by simpa using L
  rw[drop_eq_nil_of_le O1]at w
  repeat refine⟨rfl,?_⟩
  conv=>whnf
  exact⟨by rw[w];rfl,F⟩
end Go.Proofs
namespace Go.TM
def ZZ{n:Nat}(h:n<2^63):IntKind.wrap .i64 (n:Int)=n:=by
 have f:(2:Int)^64=18446744073709551616:=D1
 have w:(2:Int)^63=9223372036854775808:=D1
 have b:(2:Nat)^63=9223372036854775808:=D1
 rw[b]at h;simp only[IntKind.wrap,IntKind.bits,IntKind.signed];simp;omega
def Gk(n:Nat):BitVec.ofInt 64 (n:Int)=BitVec.ofNat 64 n:=BitVec.ofInt_natCast _ _
def LX{n:Nat}(h:n<60):IntKind.wrap .i64 ((1:Int)*2^(min ((n:Int).toNat) 64))=((1<<<n:Nat):Int):=by
 have h1:min ((n:Int).toNat) 64=n:=by rw[Int.toNat_natCast];omega
 have h2:(1<<<n:Nat)<2^63:=by rw[Nat.one_shiftLeft];exact Nat.pow_lt_pow_right O1 O1
 have b:(1:Int)*(2:Int)^n=((1<<<n:Nat):Int):=by rw[Nat.one_shiftLeft];simp
 rw[h1,b,ZZ h2]
def M2{a b:Nat}(ha:a<2^60)(hb:b<2^60):IntKind.wrap .i64 ((BitVec.ofInt 64 (a:Int)||| BitVec.ofInt 64 (b:Int)).toNat:Int)=((a||| b:Nat):Int):=by
 have h:(a||| b)<2^60:=Nat.or_lt_two_pow ha hb;have f:(2:Nat)^60<2^63:=Nat.pow_lt_pow_right O1 O1;have w:(2:Nat)^63<2^64:=Nat.pow_lt_pow_right O1 O1;rw[Gk,Gk,BitVec.toNat_or,BitVec.toNat_ofNat,BitVec.toNat_ofNat,Nat.mod_eq_of_lt O1,Nat.mod_eq_of_lt O1,ZZ O1]
def Uh{a b:Nat}(ha:a<2^60)(hb:b<2^60):IntKind.wrap .i64 ((BitVec.ofInt 64 (a:Int)&&&BitVec.ofInt 64 (b:Int)).toNat:Int)=((a&&&b:Nat):Int):=by
 have h:(a&&&b)<2^60:=Nat.lt_of_le_of_lt Nat.and_le_left ha;have f:(2:Nat)^60<2^63:=Nat.pow_lt_pow_right O1 O1;have w:(2:Nat)^63<2^64:=Nat.pow_lt_pow_right O1 O1;rw[Gk,Gk,BitVec.toNat_and,BitVec.toNat_ofNat,BitVec.toNat_ofNat,Nat.mod_eq_of_lt O1,Nat.mod_eq_of_lt O1,ZZ O1]
def Sn{a b:Nat}(ha:a<2^60)(hb:b<2^60):(IntKind.wrap .i64 ((BitVec.ofInt 64 (a:Int)&&&~~~BitVec.ofInt 64 (b:Int)).toNat:Int)=0↔∀k,a.testBit k=true->b.testBit k=true):=by
 have E:(2:Nat)^60<2^63:=Nat.pow_lt_pow_right O1 O1;have F:(2:Nat)^63<2^64:=Nat.pow_lt_pow_right O1 O1
 have B:(BitVec.ofNat 64 a&&&~~~BitVec.ofNat 64 b).toNat<2^63:=by
  rw[BitVec.toNat_and];refine Nat.lt_of_le_of_lt Nat.and_le_left ?_;rw[BitVec.toNat_ofNat,Nat.mod_eq_of_lt O1];omega
 rw[Gk,Gk,ZZ B];constructor
 .intro h k w
  have z:BitVec.ofNat 64 a&&&~~~BitVec.ofNat 64 b=0#64:=by
   apply BitVec.eq_of_toNat_eq;simpa using h
  have f:k<64:=by
   apply Classical.byContradiction;intro G;have:a<2^k:=Nat.lt_of_lt_of_le ha (Nat.pow_le_pow_right O1 O1);rw[Nat.testBit_lt_two_pow this]at w;cases w
  have h1:(BitVec.ofNat 64 a&&&~~~BitVec.ofNat 64 b).getLsbD k=false:=by rw[z];simp
  rw[BitVec.getLsbD_and,BitVec.getLsbD_not,BitVec.getLsbD_ofNat,BitVec.getLsbD_ofNat,w]at h1;simpa[f]using h1
 .intro h
  have z:BitVec.ofNat 64 a&&&~~~BitVec.ofNat 64 b=0#64:=by
   apply BitVec.eq_of_getLsbD_eq;intro k w;rw[BitVec.getLsbD_and,BitVec.getLsbD_not,BitVec.getLsbD_ofNat,BitVec.getLsbD_ofNat];cases hb:a.testBit k with
   |false=>simp
   |true=>simp[h k hb]
  rw[z];rfl
def Um{a n:Nat}(h:n<60):Int.fdiv (a:Int) (2^(min ((n:Int).toNat) 64))=((a>>>n:Nat):Int):=by
 have h1:min ((n:Int).toNat) 64=n:=by rw[Int.toNat_natCast];omega
 rw[h1,Nat.shiftRight_eq_div_pow];have h2:((2:Int)^n)=((2^n:Nat):Int):=S1
 rw[h2,Int.fdiv_eq_ediv_of_nonneg _ (Int.natCast_nonneg _)];simp
def HO{a n:Nat}(ha:a<2^60)(h:n<60):(IntKind.wrap .i64 ((BitVec.ofInt 64 (Int.fdiv (a:Int) (2^(min ((n:Int).toNat) 64)))&&&BitVec.ofInt 64 1).toNat:Int)==1)=a.testBit n:=by
 have h1:a>>>n<2^60:=Nat.lt_of_le_of_lt (Nat.shiftRight_le a n) ha;have h2:=Uh h1 (show 1<2^60 by decide);rw[Um h];rw[show((1:Nat):Int)=1 from rfl]at h2;rw[h2,Nat.and_one_is_mod];rw[Bool.eq_iff_iff,beq_iff_eq,Nat.testBit];simp only[Nat.one_and_eq_mod_two,bne_iff_ne];omega
def Yh{n:Nat}(h:n<60):IntKind.wrap .i64 ((1:Int)*2^(min ((n:Int).toNat) (IntKind.bits .i64)))=((1<<<n:Nat):Int):=LX h
def Ul{a b:Nat}(ha:a<2^60)(hb:b<2^60):IntKind.wrap .i64 ((BitVec.ofInt (IntKind.bits .i64) (a:Int)||| BitVec.ofInt (IntKind.bits .i64) (b:Int)).toNat:Int)=((a||| b:Nat):Int):=M2 ha hb
def Ha{l:List Nat}{m:Nat}(h:∀x∈l,x<m):Z4 l<2^m:=by
 apply Nat.lt_pow_two_of_testBit;intro i b;rw[Wv,contains_eq_any_beq,any_eq_false];intro x hx;have:=h x hx;simp;omega
def js(l:List Nat)(x:Nat):Z4 (l++[x])=Z4 l||| (1<<<x):=by simp[Z4]
def P6{x m:Nat}(h:x<m):(1<<<x:Nat)<2^m:=by rw[Nat.one_shiftLeft];exact Nat.pow_lt_pow_right O1 h
structure Bk.Low(b:Bk):Prop where
 nc:b.cs.length<=5
 af:∀c∈b.cs,∀n∈c.af,0<=n/\n<b.nc
def Bk.Ok.toLow{b:Bk}(h:b.Ok):b.Low:=⟨h.nc,h.af⟩
def Bk.Low.lt{b:Bk}(h:b.Low){c:Cs}(f:c∈b.cs):∀n∈c.af,0<=n/\n<60:=λ n w=>by
 have:=h.af c f n w;have:=h.nc;unfold Bk.nc at *;omega
def Bk.A_len(b:Bk):b.A.length=b.cs.length:=by simp[Bk.A]
def Bk.aft1_at{b:Bk}{i:Nat}{c:Cs}(h:b.cs[i]?=some c):Jf b.A i=c.af.map Int.toNat:=by
 simp[Jf,Bk.A,getD_eq_getElem?_getD,h]
def toNat_lt{l:List Int}{m:Nat}(h:∀n∈l,0<=n/\n<m):∀x∈l.map Int.toNat,x<m:=by
 intro x hx;obtain⟨n,b,rfl⟩:=mem_map.1 hx;have:=h n b;omega
def CY{α:Type}(f:α->Nat->α)(a:α)(i:Nat):(range (i+1)).foldl f a=f ((range i).foldl f a) i:=by
 rw[range_succ,foldl_append];rfl
def vA{A:List (List Nat)}{d i m:Nat}(b:d<2^m)(f:i<m):WE A d i<2^m:=by
 unfold WE;split
 .exact Nat.or_lt_two_pow b (P6 f)
 .exact b
def S6{A:List (List Nat)}{m:Nat}:∀(l:List Nat)(d:Nat),(∀i∈l,i<m)->d<2^m->l.foldl (WE A) d<2^m
 |[],_,_,h=>h
 |x::l,d,hl,h=>S6 l _ (λ i b=>hl i (mem_cons_of_mem _ b)) (vA h (hl x (mem_cons_self ..)))
def Bk.dn(b:Bk)(r j:Nat):Nat:=(range j).foldl (WE b.A) (JJ b.A r)
def Bk.dn_succ(b:Bk)(r j:Nat):b.dn r (j+1)=WE b.A (b.dn r j) j:=CY _ _ _
def Bk.dn_end(b:Bk)(r:Nat):b.dn r b.cs.length=JJ b.A (r+1):=by rw[<- Bk.A_len];rfl
def pS{A:List (List Nat)}(k:Nat):JJ A k<2^A.length:=by
 induction k with
 |zero=>exact Nat.two_pow_pos _
 |succ k f=>exact S6 _ _ (λ i b=>mem_range.1 b) f
def Bk.dn_lt{b:Bk}(r:Nat){j:Nat}(hb:b.cs.length<=5)(h:j<=b.cs.length):b.dn r j<2^5:=
 S6 _ _ (λ i f=>by have:=mem_range.1 f;omega) (Nat.lt_of_lt_of_le (pS r) (Nat.pow_le_pow_right O1 (by rw[b.A_len];omega)))
end Go.TM
namespace Go.Proofs
open Go.TM
variable{T:Type}{S:TM.Sys prog T}{U:Qa T}
attribute [local irreducible] Qb Zm Wo
def Z9(a:Option Addr)(len cap:Nat)(l:List Int)(hl:Z6 U a len l)(E:len<2^60)(h:∀n∈l,0<=n/\n<60) :
  Qb S 47 #[.slice a len cap] (λ v U'=>v=.int .i64 (Z4 (l.map Int.toNat):Nat)/\U'=U) U:=by
 refine Qb.of (args:=[_]) XN Qe S1 ?_;have G:=hl.1
 repeat refine⟨rfl,?_⟩
 refine⟨Nat,λ i=>[(3,.int .i64 (Z4 ((l.take i).map Int.toNat):Nat)),(6,.slice a len cap),(7,.int .i64 len),(8,.int .i64 i)],
  λ i U'=>U'=U/\i<=len,λ i=>len-i,0,T1,⟨rfl,O1⟩,?_⟩
 rintro i f _⟨rfl,L⟩;have w:Z7 ((i:Int)+1):=I1
 repeat refine⟨rfl,?_⟩
 conv=>whnf
 apply Qg<;>intro z
 .have hlt:i<len:=by simpa using z
  obtain⟨F,x,hx,rfl,K,I⟩:=hl.at hlt;have b:=h x (mem_of_getElem? hx);obtain⟨k,rfl⟩:=Int.eq_ofNat_of_zero_le b.1;have B:k<60:=O1
  have hb:Z4 ((l.take i).map Int.toNat)<2^60:=Ha (toNat_lt λ n H=>h n (mem_of_mem_take H))
  have key:Value.int .i64 (IntKind.wrap .i64 ((BitVec.ofInt 64 ((Z4 ((l.take i).map Int.toNat):Nat):Int)||| BitVec.ofInt 64 (IntKind.wrap .i64 ((1:Int)*2^(min ((k:Int).toNat) 64)))).toNat:Int))=.int .i64 (Z4 ((l.take (i+1)).map Int.toNat):Nat):=by
   rw[LX B,M2 hb (P6 B),Wf hx,map_append,map_singleton,Int.toNat_natCast,js]
  refine⟨F,i,⟨rfl,rfl,hlt⟩,_,I,b.1,?_⟩
  repeat refine⟨rfl,?_⟩
  refine⟨w,?_⟩
  conv=>whnf
  exact⟨rfl,i+1,⟨key,rfl,rfl,rfl,trivial⟩,⟨rfl,O1⟩,L1⟩
 .have hge:len<=i:=by simpa using z
  repeat refine⟨rfl,?_⟩
  conv=>whnf
  exact⟨by rw[take_of_length_le O1],rfl⟩
end Go.Proofs
namespace Go.TM
def Sm{d:Nat}{l:List Int}(h:∀n∈l,0<=n/\n<60):(∀k,(Z4 (l.map Int.toNat)).testBit k=true->d.testBit k=true)↔((l.map Int.toNat).all λ k=>d.testBit k)=true:=by
 rw[all_eq_true];constructor
 .intro g k hk;exact g k (by rw[Wv];simpa using hk)
 .intro g k hk;rw[Wv]at hk;exact g k (by simpa using hk)
def Zs.case{T:Type}{U:Qa T}{h:BH}{b:Bk}(k:Zs U h b){i:Nat}(G:i<h.cl) :
  ∃f c ga gl gc aa al ac,b.cs[i]?=some c/\h.ca=some f/\f.spot=none/\Je U (f.add (i*4)) [.string c.nm,.int .i64 c.ag,.slice ga gl gc,.slice aa al ac]/\Wx U ga gl c.gs/\gl<2^60/\Z6 U aa al c.af/\al<2^60/\c∈b.cs:=by
 obtain⟨f,c,vs,hx,w,B,⟨ga,gl,gc,aa,al,ac,rfl,h1,h2,E,F⟩,-,z⟩:=k.cs.at G;exact⟨f,c,ga,gl,gc,aa,al,ac,hx,w,B,z,h1,h2,E,F,mem_of_getElem? hx⟩
def Zs.right{T:Type}{U:Qa T}{h:BH}{b:Bk}(k:Zs U h b){i:Nat}(E:i<h.rl) :
  ∃f s,b.rs[i]?=some s/\h.ra=some f/\f.spot=none/\U.sees ((f.add (i*1)).add 0) (.string s)/\s∈b.rs:=by
 obtain⟨f,s,vs,hx,w,B,rfl,-,z⟩:=k.rs.at E;exact⟨f,s,hx,w,B,z 0 _ rfl,mem_of_getElem? hx⟩
end Go.TM
namespace Go.Proofs
open Go.TM
variable{T:Type}{S:TM.Sys prog T}{U:Qa T}
attribute [local irreducible] Qb Zm Wo
def E1(h:BH)(b:Bk)(hb:Zs U h b)(Y:b.Low):Qb S 91 #[h.v] (λ v U'=>v=.int .i64 (if Wy b.A then 8 else 0)/\U'=U) U:=by
 refine Qb.pure' (Qb.of (args:=[_]) Ti Qe S1 ?_);have V:=hb.cs.1;have hA:=b.A_len;have h5:=Y.nc
 repeat refine⟨rfl,?_⟩
 conv=>whnf
 intro B U1 L P;have P:Zi U1 B #[.slice h.ra h.rl h.rc,.slice h.ca h.cl h.cc]:=P;refine⟨_,P.sees3 (o:=1) rfl,Nat,λ r=>[(1,.pointer (some ⟨B,0,none⟩)),(3,.int .i64 (JJ b.A r:Nat)),(9,.int .i64 h.cl),(10,.int .i64 r)],
  λ r U'=>U1.lg U'/\r<=h.cl,λ r=>h.cl-r,0,T1,⟨(Qa.le.refl _).lg,O1⟩,?_⟩
 rintro r f U2⟨F,hr⟩;have X:Z7 ((r:Int)+1):=I1
 repeat refine⟨rfl,?_⟩
 conv=>whnf
 apply Qg<;>intro E
 .have hrt:r<h.cl:=by simpa using E
  refine⟨_,(P.lg F).sees3 (o:=1) rfl,Nat,λ j=>[(1,.pointer (some ⟨B,0,none⟩)),(3,.int .i64 (b.dn r j:Nat)),(9,.int .i64 h.cl),(10,.int .i64 r),(14,.slice h.ca h.cl h.cc),(15,.int .i64 h.cl),(16,.int .i64 j)],
   λ j U'=>U1.lg U'/\j<=h.cl,λ j=>h.cl-j,0,T1,⟨F,O1⟩,?_⟩
  rintro j f U3⟨z,hj⟩;have I:Z7 ((j:Int)+1):=I1
  have hd:b.dn r j<2^5:=Bk.dn_lt r h5 O1;have H:b.dn r j<2^60:=Nat.lt_trans hd D1;have w:=b.dn_succ r j
  repeat refine⟨rfl,?_⟩
  conv=>whnf
  apply Qg<;>intro E
  .have hjt:j<h.cl:=by simpa using E
   obtain⟨ad,c,ga,gl,gc,aa,al,ac,hx,aj,au,aq,-,-,ha,ae,Z⟩:=(hb.lg (L.lg.trans z)).case hjt;have K:=Y.lt Z;have ah:=Bk.aft1_at hx;refine⟨ad,j,⟨aj,rfl,hjt⟩,_,⟨rfl,aq⟩,?_⟩
   conv=>whnf
   intro b5 am;refine⟨_,.refl _,rfl,Zv (vs:=[.string c.nm,.int .i64 c.ag,.slice ga gl gc,.slice aa al ac]) am rfl (by simp[Value.single]) λ U4 Q T=>?_⟩;have G:=z.trans Q.lg;refine⟨_,T.sees3 (o:=3) rfl,XN.any,(Z9 aa al ac c.af (ha.lg Q.lg) ae K).go λ _=>?_⟩;have ai:Z4 (c.af.map Int.toNat)<2^60:=Ha (toNat_lt K);have key:_↔(Jf b.A j).all (λ k=>(b.dn r j).testBit k)=true:=(Sn ai H).trans ((Sm K).trans (by rw[ah]))
   repeat refine⟨rfl,?_⟩
   conv=>whnf
   apply Qg<;>intro E
   .have hall:(Jf b.A j).all (λ k=>(b.dn r j).testBit k)=true:=key.1 (eq_of_beq E);have M:WE b.A (b.dn r j) j=b.dn r j||| (1<<<j):=by unfold WE;rw[if_pos hall]
    rw[M]at w;refine⟨O1,?_⟩
    repeat refine⟨rfl,?_⟩
    refine⟨I,?_⟩
    conv=>whnf
    have e2:IntKind.wrap .i64 ((BitVec.ofInt (IntKind.bits .i64) ((b.dn r j:Nat):Int)||| BitVec.ofInt (IntKind.bits .i64) (IntKind.wrap .i64 ((1:Int)*2^(min ((j:Int).toNat) (IntKind.bits .i64))))).toNat:Int)=((b.dn r (j+1):Nat):Int):=by
     rw[Yh O1,Ul H (P6 O1),<- w]
    exact⟨rfl,j+1,⟨rfl,congrArg (Value.int .i64) e2,rfl,rfl,rfl,rfl,rfl,trivial⟩,⟨G,O1⟩,L1⟩
   .have hall:(Jf b.A j).all (λ k=>(b.dn r j).testBit k)=false:=by
     cases hh:(Jf b.A j).all (λ k=>(b.dn r j).testBit k)with
     |false=>rfl
     |true=>exact absurd (key.2 hh) (ne_of_beq_false E)
    have M:WE b.A (b.dn r j) j=b.dn r j:=by unfold WE;rw[hall];rfl
    rw[M]at w;refine⟨I,?_⟩
    conv=>whnf
    exact⟨rfl,j+1,⟨rfl,congrArg (λ q:Nat=>Value.int .i64 (q:Int)) w.symm,rfl,rfl,rfl,rfl,rfl,trivial⟩,⟨G,O1⟩,L1⟩
  .have hge:h.cl<=j:=by simpa using E
   obtain rfl:j=h.cl:=O1
   have N:b.dn r h.cl=JJ b.A (r+1):=by rw[<- V];exact b.dn_end r
   refine⟨X,?_⟩
   conv=>whnf
   exact⟨rfl,r+1,⟨rfl,congrArg (λ q:Nat=>Value.int .i64 (q:Int)) N,rfl,rfl,trivial⟩,⟨z,O1⟩,L1⟩
 .have hge:h.cl<=r:=by simpa using E
  obtain rfl:r=h.cl:=O1
  have e1:IntKind.wrap .i64 ((1:Int)*2^(min ((h.cl:Int).toNat) (IntKind.bits .i64)))=((1<<<h.cl:Nat):Int):=Yh O1;have ap:=@P6 h.cl 6 O1;have ab:0<1<<<h.cl:=by rw[Nat.one_shiftLeft];exact Nat.two_pow_pos _
  have an:Wy b.A=decide (JJ b.A h.cl≠1<<<h.cl-1):=by unfold Wy;rw[hA,V,<- Nat.one_shiftLeft]
  rw[an];generalize(1<<<h.cl:Nat)=q at e1 ap ab
  have W:Z7 (IntKind.wrap .i64 ((1:Int)*2^(min ((h.cl:Int).toNat) (IntKind.bits .i64)))-1):=by
   rw[e1];unfold Z7;omega
  refine⟨_,(P.lg F).sees3 (o:=1) rfl,O1,W,?_⟩
  repeat refine⟨rfl,?_⟩
  conv=>whnf
  apply Qg<;>intro E
  .rw[e1]at E
   have ao:JJ b.A h.cl≠q-1:=by
    intro e;rw[e]at E;simp at E;omega
   rw[decide_eq_true ao]
   repeat refine⟨rfl,?_⟩
   conv=>whnf
   exact L.lg.trans F
  .rw[e1]at E
   have ak:¬JJ b.A h.cl≠q-1:=by
    simp at E;omega
   rw[decide_eq_false ak]
   repeat refine⟨rfl,?_⟩
   conv=>whnf
   exact L.lg.trans F
end Go.Proofs
namespace Go.TM
variable{T:Type}{P:Program}{S:Sys P T}{f:Fm}{K:Value->Qa T->Prop}{U:Qa T}
def Oe{t e I len i:Nat}{d:TypeDesc}{k:IntKind}{cs:Array Value}{v:Value}{x y:Operand}{b:TypeInfo}(G:P.underlying t=some (.array len e))(B:P.underlying e=some d)(w:TypeDesc.agg d=false)(E:P.info? e=some b)(z:b.size=1)
  (hx:Zf f x=.agg cs) (hy:Zf f y=.int k i) (F:i<len) (H:cs[i]?=some v) (h:K v U) :
  OX S (.raw { dst:=none,op:=.index t x y,type:=I,pos := "", after:=#[],guard:=none }) f K U:=by
 intro a' ha;simp only[execOp,ha,hx,hy];refine rq ?_;simp only[Instr.index,Qd,asIntOf,Qi,Zb G];rw[if_pos O1];simp only[Qd,Jd E,z,Nat.mul_one,Int.toNat_natCast];simp only[part,Qd,Hq B,w,Bool.false_eq_true,if_false,H];exact⟨U,.refl _,h⟩
def Yw:Array Value:=#[.func (.func 191) #[] #[],.func (.func 192) #[] #[],.func (.func 91) #[] #[]]
def JY(U:Qa T):Prop:=Zi U 0 Yw
def JY.lg{U':Qa T}(h:JY U)(k:U.lg U'):JY U':=Zi.lg h k
def Bk.low_of{nameB:ByteArray->Bool}{b:Bk}(h:b.csF nameB=0):b.Low:=by
 unfold Bk.csF at h;split at h
 .cases h
 .exact⟨O1,λ c f=>Ya (Sw h c f).2.2⟩
end Go.TM
namespace Go.Proofs
open Go.TM
variable{T:Type}{S:TM.Sys prog T}{U:Qa T}
attribute [local irreducible] Qb Zm Wo
def qd(h:BH)(b:Bk)(hb:Zs U h b)(a:Option Addr)(len cap:Nat)(G:List (List Int))(hl:Wx U a len G)(aa:len<2^60) :
  Qb S 194 #[h.v,.slice a len cap] (λ v U'=>v=.int .i64 (XT b.nr G)/\U'=U) U:=by
 refine Qb.pure' (Qb.of (args:=[_,_]) FZ Qe S1 ?_);have K:=hl.1;have X:=hb.rs.1;have L:=hb.rl;have V:b.nr=(h.rl:Int):=by unfold Bk.nr;rw[X]
 repeat refine⟨rfl,?_⟩
 conv=>whnf
 intro B Y z P;have P:Zi Y B #[.slice h.ra h.rl h.rc,.slice h.ca h.cl h.cc]:=P
 repeat refine⟨rfl,?_⟩
 conv=>whnf
 apply Qg<;>intro F
 .have E:G.length > 3:=by rw[K];simp at F;omega
  repeat refine⟨rfl,?_⟩
  conv=>whnf
  exact⟨by unfold XT;rw[if_pos E],z.lg⟩
 have E:¬G.length > 3:=by rw[K];simp at F;omega
 have H:XT b.nr G=X_ b.nr G:=by unfold XT;rw[if_neg E]
 rw[H]
 refine⟨Nat,λ i=>[(2,.pointer (some ⟨B,0,none⟩)),(11,.slice a len cap),(12,.int .i64 len),(13,.int .i64 i)],
  λ i U'=>U'=Y/\i<=len/\X_ b.nr G=X_ b.nr (G.drop i),λ i=>len-i,0,T1,⟨rfl,O1,rfl⟩,?_⟩
 rintro i f U'⟨hU,hi,w⟩;obtain rfl:=hU.symm;have T:Z7 ((i:Int)+1):=I1
 repeat refine⟨rfl,?_⟩
 conv=>whnf
 apply Qg<;>intro F
 .have hlt:i<len:=by simpa using F
  obtain⟨ad,g,vs,hx,rfl,ab,⟨ga,gl,gc,rfl,Z,Q⟩,-,W⟩:=Q7.at (hl.lg z.lg) hlt;have I:=Z.1;rw[Hj hx,X_]at w;refine⟨ad,i,⟨rfl,rfl,hlt⟩,_,W 0 _ rfl,?_⟩
  repeat refine⟨rfl,?_⟩
  conv=>whnf
  apply Qg<;>intro F
  .have N:g.length > 3:=by rw[I];simp at F;omega
   repeat refine⟨rfl,?_⟩
   conv=>whnf
   exact⟨by rw[w,if_pos N],z.lg⟩
  have N:¬g.length > 3:=by rw[I];simp at F;omega
  rw[if_neg N]at w;refine⟨_,P.sees3 (o:=0) rfl,On.any,(E2 ga gl gc g Z Q h.rl L).go λ _=>?_⟩;rw[V]at w ⊢;by_cases M:QV (h.rl:Int) none g=0
  .rw[if_pos M]at w;rw[M]
   repeat refine⟨rfl,?_⟩
   refine⟨T,?_⟩
   conv=>whnf
   exact⟨rfl,i+1,T1,⟨rfl,O1,w⟩,L1⟩
  .rw[if_neg M]at w
   repeat refine⟨rfl,?_⟩
   conv=>whnf
   apply Qg<;>intro F
   .repeat refine⟨rfl,?_⟩
    conv=>whnf
    exact⟨by rw[w],z.lg⟩
   .exact absurd (by simpa using F) M
 .have hge:len<=i:=by simpa using F
  rw[drop_eq_nil_of_le O1]at w
  repeat refine⟨rfl,?_⟩
  conv=>whnf
  exact⟨by rw[w];rfl,z.lg⟩
def qX(h:BH)(b:Bk)(hb:Zs U h b):Qb S 192 #[h.v] (λ v U'=>v=.int .i64 (b.csF Zk)/\U'=U) U:=by
 refine Qb.pure' (Qb.of (args:=[_]) FY Qe S1 ?_);have P:=hb.cs.1;have ah:=hb.cl;have ax:=hb.rs.1;have az:=hb.rl;have ak:b.nr=(h.rl:Int):=by unfold Bk.nr;rw[ax]
 have av:b.nc=(h.cl:Int):=by unfold Bk.nc;rw[P]
 repeat refine⟨rfl,?_⟩
 conv=>whnf
 intro B U1 E W;have W:Zi U1 B #[.slice h.ra h.rl h.rc,.slice h.ca h.cl h.cc]:=W;refine⟨_,W.sees3 (o:=1) rfl,?_⟩
 repeat refine⟨rfl,?_⟩
 conv=>whnf
 apply Qg<;>intro N
 .have K:b.cs.length > 5:=by rw[P];simp at N;omega
  repeat refine⟨rfl,?_⟩
  conv=>whnf
  exact⟨by unfold Bk.csF;rw[if_pos K],E.lg⟩
 have K:¬b.cs.length > 5:=by rw[P];simp at N;omega
 have V:b.csF Zk=XY Zk h.rl h.cl [] b.cs:=by unfold Bk.csF;rw[if_neg K,ak,av]
 rw[V]
 conv=>whnf
 refine P1 Value.string λ mb a0=>?_;refine⟨_,Qa.sees.lg (W.sees3 (o:=1) rfl) (Z2 mb _),Nat×List ByteArray,λ y=>[(1,.pointer (some ⟨B,0,none⟩)),(3,.map (some mb)),(17,.slice h.ca h.cl h.cc),(18,.int .i64 h.cl),(19,.int .i64 y.1)],
  λ y U'=>U1.lg U'/\U'.M=.obj mb (Qt Value.string (ZP 0 y.2))::U.M/\y.1<=h.cl/\y.2.length=y.1/\XY Zk h.rl h.cl [] b.cs=XY Zk h.rl h.cl y.2 (b.cs.drop y.1),
  λ y=>h.cl-y.1,(0,[]),T1,⟨Z2 _ _,?_,S1,rfl,S1⟩,?_⟩
 .show _::_=_;rw[E.own];rfl
 rintro⟨i,s⟩f U2⟨Q,hM,hi,am,w⟩;simp only at hM hi am w;have au:Z7 ((i:Int)+1):=I1
 have ai:Z7 ((h.rl:Int)-1):=I1
 repeat refine⟨rfl,?_⟩
 conv=>whnf
 apply Qg<;>intro N
 .have hlt:i<h.cl:=by simpa using N
  obtain⟨ad,c,ga,gl,gc,aa,al,ac,hx,ao,a1,aw,hg,aq,ha,an,aj⟩:=(hb.lg E.lg).case hlt;rw[Hj hx,XY]at w;have ay:=hb.cn c aj;subst am;refine⟨ad,s.length,⟨ao,rfl,hlt⟩,_,⟨rfl,aw.lg Q⟩,?_⟩
  conv=>whnf
  intro b5 ap;refine⟨_,.refl _,rfl,Zv (vs:=[.string c.nm,.int .i64 c.ag,.slice ga gl gc,.slice aa al ac]) ap rfl (by simp[Value.single]) λ U3 ab F=>?_⟩;have Z:U3.M=_:=ab.own.trans hM;have L:=Q.trans ab.lg;refine⟨_,F.sees3 (o:=0) rfl,Om.any,(Er mb s c.nm ay U.M Z).mono ?_⟩;rintro _ U4⟨rfl,G⟩-;have T:U3.frz.lg U4:=G▸⟨λ _ _ h=>h,⟨_,(append_nil _).symm⟩,rfl⟩;have z:U1.lg U4:=G▸⟨L.imm,⟨[_],by rw[E.own];rfl⟩,L.tok⟩;have Y:U4.M=.obj mb (Qt Value.string (ZP 0 (if Zk c.nm&&!JW s c.nm then s++[c.nm]else s)))::U.M:=by rw[G]
  have X:∀x o,U3.I x=some o->U4.I x=some o:=T.imm;have F:=F.imI X;have H:=W.lg z;clear G;cases hn:Zk c.nm with
  |false=>
   rw[hn]at w
   repeat refine⟨rfl,?_⟩
   conv=>whnf
   exact⟨by rw[w];rfl,E.lg.trans z⟩
  |true=>
  rw[if_pos hn]at w;cases hh:JW s c.nm with
  |true=>
   rw[if_pos hh]at w
   repeat refine⟨rfl,?_⟩
   conv=>whnf
   exact⟨by rw[w];rfl,E.lg.trans z⟩
  |false=>
  rw[hh]at w;simp only[Bool.false_eq_true,if_false]at w;rw[hn,hh]at Y
  repeat refine⟨rfl,?_⟩
  refine⟨_,F.sees3 (o:=1) rfl,_,H.sees3 (o:=0) rfl,ai,Gd.any,(Wq _ _ _ _).mono ?_⟩;rintro v U'⟨rfl,rfl⟩-;cases ae:QP c.ag 0 ((h.rl:Int)-1)with
  |false=>
   rw[ae]at w
   repeat refine⟨rfl,?_⟩
   conv=>whnf
   exact⟨by rw[w];rfl,E.lg.trans z⟩
  |true=>
  rw[if_pos ae]at w;refine⟨_,⟨rfl,H.rd⟩,?_⟩;refine⟨_,F.sees3 (o:=2) rfl,FZ.any,(qd h b (hb.lg (E.lg.trans z)) ga gl gc c.gs (hg.lg z) aq).mono ?_⟩;rintro _ U''⟨rfl,G⟩-;obtain rfl:=G.symm;rw[ak];by_cases hz:XT (h.rl:Int) c.gs=0
  .rw[if_pos hz]at w;rw[hz]
   repeat refine⟨rfl,?_⟩
   refine⟨_,F.sees3 (o:=3) rfl,_,H.sees3 (o:=1) rfl,On.any,(E2 aa al ac c.af (ha.lg z) an h.cl ah).mono ?_⟩;rintro _ U''⟨rfl,G⟩-;obtain rfl:=G.symm;by_cases hy:QV (h.cl:Int) none c.af=0
   .rw[if_pos hy]at w;rw[hy]
    repeat refine⟨rfl,?_⟩
    refine⟨au,rfl,(s.length+1,s++[c.nm]),T1,⟨z,Y,by show s.length+1<=h.cl;omega,S1,w⟩,L1⟩
   .rw[if_neg hy]at w
    repeat refine⟨rfl,?_⟩
    conv=>whnf
    apply Qg<;>intro N
    .repeat refine⟨rfl,?_⟩
     conv=>whnf
     exact⟨by rw[w],E.lg.trans z⟩
    .exact absurd (by simpa using N) hy
  .rw[if_neg hz]at w
   repeat refine⟨rfl,?_⟩
   conv=>whnf
   apply Qg<;>intro N
   .repeat refine⟨rfl,?_⟩
    conv=>whnf
    exact⟨by rw[w],E.lg.trans z⟩
   .exact absurd (by simpa using N) hz
 .have hge:h.cl<=i:=by simpa using N
  rw[drop_eq_nil_of_le O1]at w
  repeat refine⟨rfl,?_⟩
  conv=>whnf
  exact⟨by rw[w];rfl,E.lg.trans Q⟩
def VK:prog.underlying 137=some (.array 3 136):=K1
def LR(P:Program)(t:TypeId):Bool:=match P.underlying t with|some d=>!TypeDesc.agg d&&(match P.info? t with|some b=>decide (b.size=1)|none=>false)|none=>false
def vq{P:Program}{t:TypeId}(h:LR P t=true):∃d b,P.underlying t=some d/\TypeDesc.agg d=false/\P.info? t=some b/\b.size=1:=by
 unfold LR at h;split at h
 .rename_i d hd;rw[Bool.and_eq_true]at h;obtain⟨h1,h2⟩:=h;split at h2
  .rename_i b hi;exact⟨d,b,hd,by simpa using h1,hi,by simpa using h2⟩
  .cases h2
 .cases h
def pN:∃d b,prog.underlying 136=some d/\TypeDesc.agg d=false/\prog.info? 136=some b/\b.size=1:=vq K1
def YD(h:BH)(b:Bk)(hb:Zs U h b)(V:JY U):Qb S 30 #[h.v] (λ v U'=>v=.int .i64 (b.flaw Zk)/\U'=U) U:=by
 refine Qb.pure' (Qb.of (args:=[_]) Ke Qe S1 ?_);obtain⟨P,X,M,G,F,I⟩:=pN
 repeat refine⟨rfl,?_⟩
 conv=>whnf
 intro B N w L;have L:Zi N B #[.slice h.ra h.rl h.rc,.slice h.ca h.cl h.cc]:=L;refine⟨_,⟨rfl,(V.lg w.lg).reads (vs:=Yw.toList) (λ k v W=>by simpa using W)⟩,?_⟩
 refine⟨Nat,λ i=>[(1,.pointer (some ⟨B,0,none⟩)),(6,.agg Yw),(7,.int .i64 i)],
  λ i U'=>U'=N/\i<=3/\(0<i->b.rsF Zk=0)/\(1<i->b.csF Zk=0)/\(2<i->Wy b.A=false),λ i=>3-i,0,T1,⟨rfl,O1,O1,O1,O1⟩,?_⟩
 rintro i f U'⟨T,Y,h1,h2,Q⟩;obtain rfl:=T.symm;have H:Z7 ((i:Int)+1):=I1
 repeat refine⟨rfl,?_⟩
 conv=>whnf
 apply Qg<;>intro K
 .have hlt:i<3:=by simp at K;omega
  obtain rfl|rfl|rfl:i=0\/i=1\/i=2:=O1
  .conv=>whnf
   refine Oe (v:=.func (.func 191) #[] #[]) VK M G F I rfl rfl O1 rfl ?_;refine⟨_,⟨rfl,L.rd⟩,?_⟩;refine⟨FX.any,(qE h b (hb.lg w.lg)).mono ?_⟩;rintro _ U''⟨rfl,E⟩-;obtain rfl:=E.symm;by_cases z:b.rsF Zk=0
   .rw[z]
    repeat refine⟨rfl,?_⟩
    refine⟨H,?_⟩
    conv=>whnf
    exact⟨rfl,1,T1,⟨rfl,O1,λ _=>by first|exact z|rfl,O1,O1⟩,D1⟩
   .repeat refine⟨rfl,?_⟩
    conv=>whnf
    apply Qg<;>intro K
    .repeat refine⟨rfl,?_⟩
     conv=>whnf
     exact⟨by unfold Bk.flaw;rw[if_neg z],w.lg⟩
    .exact absurd (by simpa using K) z
  .conv=>whnf
   refine Oe (v:=.func (.func 192) #[] #[]) VK M G F I rfl rfl O1 rfl ?_;refine⟨_,⟨rfl,L.rd⟩,?_⟩;refine⟨FY.any,(qX h b (hb.lg w.lg)).mono ?_⟩;rintro _ U''⟨rfl,E⟩-;obtain rfl:=E.symm;by_cases z:b.csF Zk=0
   .rw[z]
    repeat refine⟨rfl,?_⟩
    refine⟨H,?_⟩
    conv=>whnf
    exact⟨rfl,2,T1,⟨rfl,O1,λ _=>h1 O1,λ _=>by first|exact z|rfl,O1⟩,D1⟩
   .repeat refine⟨rfl,?_⟩
    conv=>whnf
    apply Qg<;>intro K
    .repeat refine⟨rfl,?_⟩
     conv=>whnf
     exact⟨by unfold Bk.flaw;rw[if_pos (h1 O1),if_neg z],w.lg⟩
    .exact absurd (by simpa using K) z
  .conv=>whnf
   refine Oe (v:=.func (.func 91) #[] #[]) VK M G F I rfl rfl O1 rfl ?_;refine⟨_,⟨rfl,L.rd⟩,?_⟩;refine⟨Ti.any,(E1 h b (hb.lg w.lg) (Bk.low_of (h2 O1))).mono ?_⟩;rintro _ U''⟨rfl,E⟩-;obtain rfl:=E.symm;cases z:Wy b.A with
   |false=>
    repeat refine⟨rfl,?_⟩
    refine⟨H,?_⟩
    conv=>whnf
    exact⟨rfl,3,T1,⟨rfl,O1,λ _=>h1 O1,λ _=>h2 O1,λ _=>by first|exact z|rfl⟩,D1⟩
   |true=>
    repeat refine⟨rfl,?_⟩
    conv=>whnf
    exact⟨by unfold Bk.flaw;rw[if_pos (h1 O1),if_pos (h2 O1),z];first|done|rfl,w.lg⟩
 .have hge:i=3:=by simp at K;omega
  repeat refine⟨rfl,?_⟩
  conv=>whnf
  exact⟨by unfold Bk.flaw;rw[if_pos (h1 O1),if_pos (h2 O1),Q O1];rfl,w.lg⟩
end Go.Proofs
namespace Go.TM
variable{T:Type}{P:Program}{S:Sys P T}{f:Fm}{K:Value->Qa T->Prop}{U:Qa T}
def jd{t e N n len cap:Nat}{a:Option Addr}{x F G:Operand}{z:TypeInfo}(M:P.underlying t=some (.slice e))(B:P.info? e=some z)(hx:Zf f x=.slice a len cap)(I:Zf f F=.int .i64 n)(hm:Zf f G=.int .i64 n)(L:n<=cap)
  (E:∀w,a=some w->w.spot=none) (h:K (.slice a n n) U) :
  OX S (.raw { dst:=none,op:=.slice t x none (some F) (some G),type:=N,pos := "", after:=#[],guard:=none }) f K U:=by
 intro a' ha;simp only[execOp,ha,hx,I,hm,Option.map_some,Option.map_none];refine rq ?_;simp only[Instr.sliceAt,Instr.slice,Qd,Zb M,Instr.sliceBounds];refine HJ rfl L ?_;refine HJ rfl (Nat.le_refl _) ?_;simp only[Qi,Jd B];refine⟨U,.refl _,?_⟩
 have H:(if n=0 then a else a.map λ x=>x.add (0*z.size))=a:=by
  split
  .rfl
  .cases a with
   |none=>rfl
   |some w=>
    have:=E w rfl;obtain⟨b,o,s⟩:=w;cases this;simp only[Option.map_some,Nat.zero_mul];rw[Qo];rfl
 rw[H];exact h
def zV{t e I n N:Nat}{b o:Nat}{x B:Operand}{w:TypeInfo}(H:P.underlying t=some (.array N e))(z:P.info? e=some w)(hx:Zf f x=.pointer (some ⟨b,o,none⟩))(F:Zf f B=.int .i64 n)(G:n<=N)
  (h:K (.slice (some ⟨b,o,none⟩) n N) U) :
  OX S (.raw { dst:=none,op:=.slice t x none (some B) none,type:=I,pos := "", after:=#[],guard:=none }) f K U:=by
 intro a' ha;simp only[execOp,ha,hx,F,Option.map_some,Option.map_none];refine rq ?_;simp only[Instr.sliceAt,Qd,Zb H,Instr.sliceBounds,Instr.sureAddr,Qi];refine HJ rfl G ?_;simp only[Qi,Jd z];refine⟨U,.refl _,?_⟩
 have E:(if N=0 then(⟨b,o,none⟩:Addr)else(⟨b,o,none⟩:Addr).add (0*w.size))=⟨b,o,none⟩:=by
  split
  .rfl
  .rw[Nat.zero_mul,Qo];rfl
 rw[E];exact h
def QM(s:Nat->Bool):List Value:=[.bool (s 0),.bool (s 1),.bool (s 2),.bool (s 3),.bool (s 4),.bool (s 5)]
def G5{j:Nat}(h:j<6):j=0\/j=1\/j=2\/j=3\/j=4\/j=5:=O1
def SP(s:Nat->Bool){j:Nat}(h:j<6):(QM s)[j]?=some (.bool (s j)):=by
 rcases G5 h with rfl|rfl|rfl|rfl|rfl|rfl <;> rfl
def Dj(s:Nat->Bool){j:Nat}(h:j<6)(v:Bool):(QM s).toArray.setIfInBounds j (.bool v)=(QM (H0 s j v)).toArray:=by
 rcases G5 h with rfl|rfl|rfl|rfl|rfl|rfl <;> rfl
def Fs{s r:Nat->Bool}(h:∀j,j<6->s j=r j):QM s=QM r:=by
 unfold QM;simp only[h 0 O1,h 1 O1,h 2 O1,h 3 O1,h 4 O1,h 5 O1]
def YV(s:Nat->Bool):∀v∈QM s,v.single=true:=by simp[QM,Value.single]
def Oq(s:Nat->Bool):∀v∈QM s,X5 .bool v=true:=by simp[QM,X5]
def Iu{s r:Nat->Bool}:ZF (QM s) (QM r)=true↔∀j,j<6->s j=r j:=by
 simp only[QM,ZF,HT,Bool.and_eq_true,beq_iff_eq,and_true];constructor
 .rintro⟨h0,h1,h2,h3,h4,h5⟩ j hj;rcases G5 hj with rfl|rfl|rfl|rfl|rfl|rfl <;> assumption
 .exact λ h=>⟨h 0 O1,h 1 O1,h 2 O1,h 3 O1,h 4 O1,h 5 O1⟩
abbrev Uz(s:Nat->Bool):Value:=.agg #[.bool (s 0),.bool (s 1),.bool (s 2),.bool (s 3),.bool (s 4),.bool (s 5)]
def oe:Array Value:=#[.bool false,.bool false,.bool false,.bool false,.bool false,.bool false]
def W0(s:List Bool):Nat->Bool:=λ j=>s.getD j false
def yv(n:Nat):W0 (replicate n true)=λ j=>decide (j<n):=by
 funext j;simp only[W0,getD_eq_getElem?_getD,getElem?_replicate];by_cases h:j<n <;> simp[h]
def kI(s:List Bool)(i:Nat)(v:Bool)(b:i<s.length):H0 (W0 s) i v=W0 (s.set i v):=by
 funext k;simp only[H0,W0,getD_eq_getElem?_getD,getElem?_set];by_cases h:k=i
 .subst h;simp[b]
 .rw[if_neg h,if_neg (Ne.symm h)]
def Jz(w:List Bool):Nat:=Z4 ((range w.length).filter λ i=>w.getD i false)
def PH(w:List Bool)(k:Nat):(Jz w).testBit k=w.getD k false:=by
 rw[Jz,Wv,Bool.eq_iff_iff,contains_iff_mem,mem_filter,mem_range];constructor
 .exact λ h=>h.2
 .intro h;refine⟨?_,h⟩;apply Classical.byContradiction;intro b;rw[getD_eq_getElem?_getD,getElem?_eq_none O1]at h;cases h
def vE(w:List Bool)(i:Nat)(b:i<w.length):Jz (w.set i true)=Jz w||| (1<<<i):=by
 apply Nat.eq_of_testBit_eq;intro k;rw[Nat.testBit_or,PH,PH,PR];simp only[getD_eq_getElem?_getD,getElem?_set];by_cases h:k=i
 .subst h;simp[b]
 .rw[if_neg (Ne.symm h)];simp[h]
def Im(n:Nat):Jz (replicate n false)=0:=by
 apply Nat.eq_of_testBit_eq;intro k;rw[PH,Nat.zero_testBit,getD_eq_getElem?_getD,getElem?_replicate];by_cases h:k<n <;> simp[h]
def SS(w:List Bool){m:Nat}(h:w.length<=m):Jz w<2^m:=
 Ha λ x hx=>by
  have:=mem_range.1 (mem_filter.1 hx).1;omega
end Go.TM
namespace Go.Proofs
open Go.TM
variable{T:Type}{S:TM.Sys prog T}{U:Qa T}
attribute [local irreducible] Qb Zm Wo
def Es(h:BH)(b:Bk)(hb:Zs U h b)(Z:b.rs.length<=6):Qb S 53 #[h.v] (λ v U'=>v=Uz (W0 b.ini.1)/\U'=U) U:=by
 refine Qb.pure' (Qb.of (args:=[_]) OR Qe S1 ?_);have N:=hb.rs.1;have z:W0 b.ini.1=λ j=>decide (j<h.rl):=by rw[<- N];exact yv _
 rw[z]
 repeat refine⟨rfl,?_⟩
 conv=>whnf
 intro B U₀ L K;have K:Zi U₀ B #[.slice h.ra h.rl h.rc,.slice h.ca h.cl h.cc]:=K
 conv=>whnf
 intro H X;refine⟨_,.refl _,?_⟩
 conv=>whnf
 intro F Y;refine⟨_,.refl _,_,(K.lg ((Z2 H _).trans (Z2 F _))).sees3 (o:=0) rfl,Nat,λ i=>[(2,.pointer (some ⟨H,0,none⟩)),(3,.pointer (some ⟨F,0,none⟩)),(8,.int .i64 h.rl),(9,.int .i64 i)],
  λ i U'=>U₀.I=U'.I/\U₀.tok=U'.tok/\U'.M=.obj F (.cells (QM λ j=>decide (j<i)).toArray 119 (0,0))::.obj H (.cells oe 119 (0,0))::U₀.M/\i<=h.rl,λ i=>h.rl-i,0,T1,⟨rfl,rfl,rfl,O1⟩,?_⟩
 rintro i f V⟨P,ht,G,hi⟩;have E:U₀.lg V:=⟨λ b o h=>by rw[<- P];exact h,⟨[_,_],G⟩,ht.symm⟩
 repeat refine⟨rfl,?_⟩
 conv=>whnf
 apply Qg<;>intro Q
 .have hlt:i<h.rl:=by simpa using Q
  have w:i<6:=O1
  refine⟨i,⟨rfl,w⟩,rfl,?_⟩;show QX ((Addr.mk F 0 none).add (i*1)) [.bool true] 0 _ _;rw[Nat.mul_one];refine GV [] G w rfl ?_
  have W:(QM λ j=>decide (j<i)).toArray.setIfInBounds i (.bool true)=(QM λ j=>decide (j<i+1)).toArray:=by
   rw[Dj _ w];congr 1;refine Fs λ k _=>?_;unfold H0;by_cases T:k=i
   .simp[T]
   .rw[if_neg T];have:(k<i)=(k<i+1):=propext O1;simp[this]
  rw[W];refine⟨I1,?_⟩;refine⟨rfl,i+1,T1,⟨P,ht,rfl,O1⟩,L1⟩
 .have hge:i=h.rl:=by simp at Q;omega
  subst hge;refine⟨_,⟨rfl,Q9 [] G⟩,rfl,Yi (vs:=QM λ j=>decide (j<h.rl)) [_] G rfl (YV _) ?_⟩;refine⟨_,⟨rfl,Q9 [_] rfl⟩,?_⟩
  conv=>whnf
  exact⟨rfl,(L.lg.trans ⟨E.imm,⟨[_,_],rfl⟩,E.tok⟩)⟩
def qF(b:Nat)(s:Nat->Bool)(hb:Zi U b (QM s).toArray)(r:Nat)(f:r<6):Qb S 112 #[.int .i64 r,.pointer (some ⟨b,0,none⟩)] (λ v U'=>v=.bool (!s r)/\U'=U) U:=by
 refine Qb.of (args:=[_,_]) FM Qe S1 ?_
 repeat refine⟨rfl,?_⟩
 refine⟨r,⟨rfl,f⟩,.bool (s r),?_,?_⟩
 .rw[Nat.mul_one,Qo];exact hb.sees (by rw[Nat.zero_add,getElem?_toArray];exact SP s f)
 repeat refine⟨rfl,?_⟩
 conv=>whnf
def C3(a:Option Addr)(len cap:Nat)(l:List Int)(hl:Z6 U a len l)(f:len<2^60)(g:FuncId)(first b:Array Value)(p:Int->Bool)(hf:WW S U g first b (λ n=>.int .i64 n) l p) :
  Qb S 111 #[.slice a len cap,.func (.func g) first b] (λ v U'=>v=.bool (l.any p)/\U'=U) U:=by
 refine Qb.of (args:=[_,_]) FB Qe S1 ?_;refine⟨US.any,(zD (λ n=>.int .i64 n) a len cap l hl.1 hl.2 (λ x=>⟨_,_,rfl⟩) f g first b p hf).mono ?_⟩;rintro v U'⟨rfl,rfl⟩-
 repeat refine⟨rfl,?_⟩
 refine⟨?_,rfl⟩;show Value.bool _=_;rw[Y8]
def qA(b:Nat)(s:Nat->Bool)(hb:Zi U b (QM s).toArray)(a:Option Addr)(len cap:Nat)(l:List Int)(hl:Z6 U a len l)(f:len<2^60)(h:∀n∈l,0<=n/\n<6) :
  Qb S 110 #[.slice a len cap,.pointer (some ⟨b,0,none⟩)] (λ v U'=>v=.bool (l.all λ r=>s r.toNat)/\U'=U) U:=by
 refine Qb.of (args:=[_,_]) FA Qe S1 ?_;refine⟨FB.any,(C3 a len cap l hl f 112 #[] #[_] (λ r=>!s r.toNat) ⟨FM.any,λ n w=>?_⟩).mono ?_⟩
 .obtain⟨k,rfl⟩:=Int.eq_ofNat_of_zero_le (h n w).1;exact qF b s hb k (by have:=(h _ w).2;omega)
 rintro v U'⟨rfl,rfl⟩-
 repeat refine⟨rfl,?_⟩
 refine⟨?_,rfl⟩;show Value.bool _=_;congr 1;rw[Bool.eq_iff_iff];simp
def zE(a:Option Addr)(len cap:Nat)(l:List (List Int))(E:Wx U a len l)(H:len<2^60)(g:FuncId)(first w:Array Value)(p:List Int->Bool)
  (K:(prog.funcs[g]?.any λ fd=>fd.body.isSome&&fd.name != "runtime.NumGoroutine")=true)
  (hf:∀x∈l,∀a' b cap',Z6 U a' b x->b<2^60->Qb S g (first.toList++[Value.slice a' b cap']++w.toList).toArray (λ v U'=>v=.bool (p x)/\U'=U) U) :
  Qb S 149 #[.slice a len cap,.func (.func g) first w] (λ v U'=>v=.int .i64 (XB p l)/\U'=U) U:=by
 refine Qb.of (args:=[_,_]) FU Qe S1 ?_;have hl:=E.1
 repeat refine⟨rfl,?_⟩
 refine⟨Nat,λ i=>[(0,.slice a len cap),(1,.func (.func g) first w),(6,.slice a len cap),(7,.int .i64 len),(8,.int .i64 i)],
  λ i U'=>U'=U/\i<=len/\∀x∈l.take i,p x=false,λ i=>len-i,0,T1,⟨rfl,O1,S1⟩,?_⟩
 rintro i f _⟨rfl,N,h⟩
 repeat refine⟨rfl,?_⟩
 conv=>whnf
 apply Qg<;>intro B
 .have hlt:i<len:=by simpa using B
  obtain⟨I,x,vs,hx,rfl,M,⟨a',b,cap',rfl,F,G⟩,P,L⟩:=Q7.at E hlt;have z:=hf x (mem_of_getElem? hx) a' b cap' F G;refine⟨I,i,⟨rfl,rfl,hlt⟩,_,L 0 _ rfl,K,z.mono ?_⟩;rintro v U'⟨rfl,rfl⟩-
  conv=>whnf
  apply Qg<;>intro B
  .repeat refine⟨rfl,?_⟩
   conv=>whnf
   exact⟨by rw[VR hx B h],rfl⟩
  .refine⟨I1,?_⟩;refine⟨rfl,i+1,T1,⟨rfl,O1,?_⟩,L1⟩;intro y hy;rw[Wf hx,mem_append]at hy;rcases hy with hy|hy
   .exact h y hy
   .simp at hy;subst hy;exact B
 .have hge:len<=i:=by simpa using B
  repeat refine⟨rfl,?_⟩
  refine⟨?_,rfl⟩;rw[take_of_length_le O1]at h;rw[VQ h]
def C4(a:Option Addr)(len cap:Nat)(l:List (List Int))(w:Wx U a len l)(h:len<2^60)(g:FuncId)(first b:Array Value)(p:List Int->Bool)
  (z:(prog.funcs[g]?.any λ fd=>fd.body.isSome&&fd.name != "runtime.NumGoroutine")=true)
  (hf:∀x∈l,∀a' f cap',Z6 U a' f x->f<2^60->Qb S g (first.toList++[Value.slice a' f cap']++b.toList).toArray (λ v U'=>v=.bool (p x)/\U'=U) U) :
  Qb S 109 #[.slice a len cap,.func (.func g) first b] (λ v U'=>v=.bool (l.any p)/\U'=U) U:=by
 refine Qb.of (args:=[_,_]) Fz Qe S1 ?_;refine⟨FU.any,(zE a len cap l w h g first b p z hf).mono ?_⟩;rintro v U'⟨rfl,rfl⟩-
 repeat refine⟨rfl,?_⟩
 refine⟨?_,rfl⟩;show Value.bool _=_;rw[Y8]
def zR(N nm:Value)(ag:Value)(gc:Nat)(af:Value)(ga:Option Addr)(gl:Nat)(gs:List (List Int))(hg:Wx U ga gl gs)(H:gl<2^60)(s:Nat->Bool)(V:∀g∈gs,∀n∈g,0<=n/\n<6)(h:BH)(Z:N=h.v)(c:ByteArray)(hN:nm=.string c)(n:Int)(W:ag=.int .i64 n)(K:Option Addr)(M L:Nat)(Y:af=.slice K M L) :
  Qb S 82 #[N,.agg #[nm,ag,.slice ga gl gc,af],Uz s] (λ v U'=>v=.bool (gs.any λ g=>g.all λ r=>s r.toNat)/\U'=U) U:=by
 subst Z hN W Y;refine Qb.pure' (Qb.of (args:=[_,_,_]) UX Qe S1 ?_)
 repeat refine⟨rfl,?_⟩
 conv=>whnf
 intro B3 U1 F X
 conv=>whnf
 intro P Q G b;have b:Zi Q P #[.string c,.int .i64 n,.slice ga gl gc,.slice K M L]:=b
 conv=>whnf
 intro I T w f;have f:Zi T I (QM s).toArray:=f;have z:=(F.trans G).trans w;refine⟨_,(b.le w).sees3 (o:=2) rfl,Fz.any,(C4 ga gl gc gs (hg.lg z.lg) H 110 #[] #[_] (λ g=>g.all λ r=>s r.toNat) FA.any λ x hx a' B cap' h1 h2=>qA I s f a' B cap' x h1 h2 (V x hx)).mono ?_⟩;rintro v U'⟨rfl,E⟩-;obtain rfl:=E.symm
 repeat refine⟨rfl,?_⟩
 conv=>whnf
 exact z.lg
end Go.Proofs
namespace Go.TM
variable{T:Type}{P:Program}{S:Sys P T}{U:Qa T}
def Je.sub{b o n:Nat}{vs:List Value}(h:Je U ⟨b,0,none⟩ vs):Je U ((Addr.mk b 0 none).add o) ((vs.drop o).take n):=by
 intro i v f
 have h1:vs[o+i]?=some v:=by
  have w:=(List.getElem?_eq_some_iff.1 f).1;rw[getElem?_take]at f;split at f
  .rwa [getElem?_drop]at f
  .cases f
 have:=h (o+i) v h1;rw[Qo]at this ⊢;rw[Qo]
 rwa [Nat.zero_add,<- Nat.zero_add o,Nat.add_assoc,Nat.zero_add]at this ⊢
def WM{b i:Nat}{e:TypeId}{c:Array Value}{v:Value}{M₀:List Qw}{Q:Qa T->Prop}(X:List Qw)(w:U.M=X++.obj b (.cells c e (0,0))::M₀)(z:i<c.size)(B:v.single=true)
  (h:∀f:Qa T,f.I=U.I->f.tok=U.tok->f.M=X++.obj b (.cells (c.setIfInBounds i v) e (0,0))::M₀->Q f):QX ((Addr.mk b 0 none).add i) [v] 0 (λ U'=>∃f,Qv U' f/\Q f) U:=
 GV X w z B (h _ rfl rfl rfl)
def Wd{b:Nat}{e:TypeId}{c:Array Value}{vs:List Value}{M₀:List Qw}{Q:Qa T->Prop}(X:List Qw)(z:U.M=X++.obj b (.cells c e (0,0))::M₀)(w:c.size=vs.length)(B:∀v∈vs,v.single=true)
  (h:∀f:Qa T,f.I=U.I->f.tok=U.tok->f.M=X++.obj b (.cells vs.toArray e (0,0))::M₀->Q f):QX ⟨b,0,none⟩ vs 0 (λ U'=>∃f,Qv U' f/\Q f) U:=
 Yi X z w B (h _ rfl rfl rfl)
def Qb.out{f:FuncId}{args:Array Value}{R:Value->Nat->Obj->Prop}(h:Qb S f args (λ v U'=>∃b o A,R v b o/\U'.M=.obj b o::(A++U.M)/\(∀x E,U.I x=some E->U'.I x=some E)/\U'.tok=U.tok) U) :
  Qb S f args (λ v U'=>∃b o,R v b o/\U'.I b=some o/\U.le U') U:=by
 refine h.sep λ v U' G⟨b,o,A,w,B,F,ht⟩=>?_;have h1:Qv U' { U' with M:=.obj b o::U.M }:=Zx (by rw[B];exact(sublist_append_right A U.M).cons₂ _)
 have z:WI { U' with M:=.obj b o::U.M }:=λ r w=>G r (by rw[B];rcases mem_cons.1 w with rfl|w;{simp};simp[w])
 obtain⟨U'',H,K,L⟩:=Iz (U':={ U' with M:=.obj b o::U.M }) z rfl F rfl ht;exact⟨U'',h1.trans H,b,o,w,L,K⟩
abbrev HR(a:Option Addr)(len cap:Nat)(s:Nat->Bool)(w:Nat):Value:=.agg #[.slice a len cap,.bool (s 0),.bool (s 1),.bool (s 2),.bool (s 3),.bool (s 4),.bool (s 5),.int .i64 w]
def QS(v:Value)(s:Nat->Bool)(w:Nat):List Value:=[v,.bool (s 0),.bool (s 1),.bool (s 2),.bool (s 3),.bool (s 4),.bool (s 5),.int .i64 w]
def gi(v:Value)(s:Nat->Bool)(w:Nat){j:Nat}(h:j<6)(u:Bool):(QS v s w).toArray.setIfInBounds (1+j) (.bool u)=(QS v (H0 s j u) w).toArray:=by
 rcases G5 h with rfl|rfl|rfl|rfl|rfl|rfl <;> rfl
def Hv(U:Qa T)(v:Value)(o:List Nat)(x:List Bool×List Bool):Prop:=∃a cap,v=HR a o.length cap (W0 x.1) (Jz x.2)/\Z6 U a o.length (o.map λ(k:Nat)=>(k:Int))/\o.length<=cap/\∀b,a=some b->b.spot=none
def Hv.lg{U':Qa T}{v:Value}{o:List Nat}{x:List Bool×List Bool}(h:Hv U v o x)(k:U.lg U'):Hv U' v o x:=let ⟨a,c,e,h1,h2⟩:=h;⟨a,c,e,h1.lg k,h2⟩
def Z6.src'{a:Option Addr}{len:Nat}{l:List Int}(h:Z6 U a len l):Src U a (l.map λ n=>.int .i64 n):=by
 cases l with
 |nil=>
  cases a with
  |none=>exact .inl ⟨rfl,rfl⟩
  |some f=>exact .inr ⟨f,rfl,λ i v b=>by simp at b⟩
 |cons x l=>
  obtain⟨f,e,E,_⟩:=h.2 0 x rfl;refine .inr ⟨f,e,λ i v b=>?_⟩;rw[getElem?_map]at b;cases hx:(x::l)[i]? with
  |none=>rw[hx]at b;cases b
  |some y=>
   rw[hx]at b;cases b;obtain⟨z,e',w,B⟩:=h.2 i y hx;rw[e]at e';cases e'
   rwa [Nat.mul_one]at B
end Go.TM
namespace Go.Proofs
open Go.TM
variable{T:Type}{S:TM.Sys prog T}{U:Qa T}
attribute [local irreducible] Qb Zm Wo
def DV(h:BH)(b:Bk)(hb:Zs U h b)(af:b.Ok)(a:Option Addr)(cap:Nat)(o:List Nat)(x:List Bool×List Bool)(ho:Z6 U a o.length (o.map λ(k:Nat)=>(k:Int)))(bs:∀ad,a=some ad->ad.spot=none)(a2:o.length<=cap)(h5:o.length<=5)
  (h1:x.1.length=b.rs.length) (h2:x.2.length=b.cs.length) (i:Nat) (hi:i<b.cs.length) :
  Qb S 55 #[h.v,HR a o.length cap (W0 x.1) (Jz x.2),.int .i64 i] (λ v U'=>Hv U'.frz v (o++[i]) (b.stp x i)/\U.le U') U:=by
 have bz:=hb.cs.1;have b8:=hb.rs.1;have b3:=af.nc;have b5:=af.nr
 let R:Value->Nat->Obj->Prop:=λ v B O=>∃(cp:Nat)(c:Array Value),v=HR (some ⟨B,0,none⟩) (o.length+1) cp (W0 (b.stp x i).1) (Jz (b.stp x i).2)/\O=.cells c 3 (0,0)/\o.length+1<=cp/\∀(k:Nat)(u:Value),((o++[i]).map λ(k:Nat)=>Value.int .i64 (k:Int))[k]?=some u->c[k]?=some u
 have be:Qb S 55 #[h.v,HR a o.length cap (W0 x.1) (Jz x.2),.int .i64 i] (λ v U'=>∃B O A,R v B O/\U'.M=.obj B O::(A++U.M)/\(∀y E,U.I y=some E->U'.I y=some E)/\U'.tok=U.tok) U:=by
  refine Qb.of (args:=[_,_,_]) Tb Qe S1 ?_;obtain⟨c,an⟩:∃c,b.cs[i]?=some c:=⟨_,getElem?_eq_getElem hi⟩;have a3:b.cas i=c:=by simp[Bk.cas,getD_eq_getElem?_getD,an]
  have a4:=mem_of_getElem? an;have bh:=af.ag c a4;have bo:=af.gs c a4;have bt:Jz x.2<2^5:=SS _ O1;have bd:Jz x.2<2^60:=Nat.lt_trans bt D1
  have h6:∀g∈c.gs,∀n∈g,0<=n/\n<6:=λ g hg n hn=>by
   have:=(bo g hg).2 n hn;unfold Bk.nr at this;omega
  have H:c.ag.toNat<6/\c.ag=(c.ag.toNat:Int)/\c.ag.toNat<x.1.length:=by unfold Bk.nr at bh;omega
  obtain⟨ce,-,a6,-⟩:=H2.i
  have P:b.stp x i=if(c.gs.any λ g=>g.all λ r=>W0 x.1 r.toNat)then(x.1.set c.ag.toNat false,x.2.set i true)else x:=by
   unfold Bk.stp LY;rw[a3];rfl
  repeat refine⟨rfl,?_⟩
  conv=>whnf
  intro B Q G hB;have hB:Zi Q B #[.slice h.ra h.rl h.rc,.slice h.ca h.cl h.cc]:=hB
  conv=>whnf
  intro b4 b0
  conv=>whnf
  intro b6 b1;refine⟨_,.refl _,?_⟩
  let L:List Value:=QS (.slice a o.length cap) (W0 x.1) (Jz x.2)
  have hM:((Q.put b4 (.cells L.toArray 122)).put b6 (.cells #[.slice none 0 0,.bool false,.bool false,.bool false,.bool false,.bool false,.bool false,.int .i64 0] 122)).M=[.obj b6 (.cells #[.slice none 0 0,.bool false,.bool false,.bool false,.bool false,.bool false,.bool false,.int .i64 0] 122 (0,0))]++.obj b4 (.cells L.toArray 122 (0,0))::Q.M:=rfl;have bq:=Q9 [_] hM;have aq:=bq.cell (i:=0) (v:=.slice a o.length cap) rfl;refine⟨_,aq,_,aq,_,aq,?_⟩
  conv=>whnf
  refine jd Pv a6 rfl rfl rfl a2 bs ?_
  conv=>whnf
  intro bf a5;refine Zh a5 λ U2 ak X=>?_;have X:Zi U2 bf #[.int .i64 i]:=X;have ao:U.lg U2:=G.lg.trans ((Z2 b4 _).trans ((Z2 b6 _).trans ak.lg));have f:Q.lg U2:=(Z2 b4 _).trans ((Z2 b6 _).trans ak.lg);have ay:U2.M=_:=ak.own.trans hM
  conv=>whnf
  refine Dx (cs:=(o.map λ(k:Nat)=>(k:Int)).map λ n=>.int .i64 n) (new:=[.int .i64 i]) H2 rfl rfl (Z6.src' (ho.lg ao)) S1 (.inr ⟨_,rfl,X.rd⟩) rfl S3 (λ h0=>by cases h0) (λ _ Z cn F b2 a7 b9 bj=>?_)
  let L1:List Value:=QS (.slice (some ⟨Z,0,none⟩) (o.length+1) F) (W0 x.1) (Jz x.2)
  have az:(U2.put Z (.cells cn 3)).M=[.obj Z (.cells cn 3 (0,0)),.obj b6 (.cells #[.slice none 0 0,.bool false,.bool false,.bool false,.bool false,.bool false,.bool false,.int .i64 0] 122 (0,0))]++.obj b4 (.cells L.toArray 122 (0,0))::Q.M:=by
   show _::U2.M=_;rw[ay];rfl
  obtain⟨ad,c',ga,gl,gc,aa,al,ac,bu,bk,bw,a8,hg,bm,ha,bx,bv⟩:=(hb.lg G.lg).case (show i<h.cl by omega);obtain rfl:c=c':=Option.some.inj (an.symm.trans bu);refine⟨rfl,GV (i:=0) [_,_] az (by show 0<8;omega) rfl ?_⟩;refine⟨_,Qa.sees.lg (hB.sees3 (o:=1) rfl) ⟨f.imm,⟨[_,_,_],rfl⟩,f.tok⟩,ad,i,⟨bk,rfl,O1⟩,_,⟨rfl,a8.lg ⟨f.imm,⟨[_,_,_],rfl⟩,f.tok⟩⟩,?_⟩
  conv=>whnf
  intro b7 bl;refine⟨_,.refl _,rfl,Zv (vs:=[.string c.nm,.int .i64 c.ag,.slice ga gl gc,.slice aa al ac]) bl rfl (by simp[Value.single]) λ U3 am K=>?_⟩;have ab:U3.M=[.obj Z (.cells cn 3 (0,0)),.obj b6 (.cells #[.slice none 0 0,.bool false,.bool false,.bool false,.bool false,.bool false,.bool false,.int .i64 0] 122 (0,0))]++.obj b4 (.cells L1.toArray 122 (0,0))::Q.M:=am.own;have T:∀y E,Q.I y=some E->U3.I y=some E:=λ y E hy=>am.imm y E (f.imm y E hy);have au:U3.tok=Q.tok:=am.tok.trans f.tok;have N:Q.lg U3:=⟨T,⟨[_,_,_],ab⟩,au⟩;have Y:=Q9 [_,_] ab;refine⟨_,⟨rfl,(hB.lg N).rd⟩,?_⟩;refine⟨_,⟨rfl,K.rd⟩,?_⟩;refine⟨QM (W0 x.1),⟨rfl,Y.sub (o:=1) (n:=6)⟩,UX.any,(zR _ _ _ gc _ ga gl c.gs (hg.lg N) bm (W0 x.1) h6 h rfl c.nm rfl c.ag rfl aa al ac rfl).mono ?_⟩;rintro v U'⟨rfl,bg⟩-;obtain rfl:=bg.symm
  have done:∀s w,b.stp x i=(s,w)->R (HR (some ⟨Z,0,none⟩) (o.length+1) F (W0 s) (Jz w)) Z (.cells cn 3 (0,0)):=λ s w e=>
   ⟨F,cn,by rw[e],rfl,a7,λ k u hu=>bj k u (by simpa[Function.comp_def]using hu)⟩
  cases aj:(c.gs.any λ g=>g.all λ r=>W0 x.1 r.toNat)with
  |true=>
   rw[aj,if_pos rfl]at P;have br:=Yh (show i<60 by omega);refine⟨_,Y.cell (i:=7) rfl,O1,?_⟩
   conv=>whnf
   intro U5 ae _;have a0:=ae.own.trans ab;have av:∀y E,Q.I y=some E->U5.I y=some E:=λ y E hy=>ae.imm y E (T y E hy);have a9:U5.tok=Q.tok:=ae.tok.trans au;have K:=K.le ae;have key:Jz x.2||| (1<<<i)=Jz (x.2.set i true):=(vE x.2 i O1).symm
   have e2:IntKind.wrap .i64 ((BitVec.ofInt (IntKind.bits .i64) ((Jz x.2:Nat):Int)||| BitVec.ofInt (IntKind.bits .i64) (IntKind.wrap .i64 ((1:Int)*2^(min ((i:Int).toNat) (IntKind.bits .i64))))).toNat:Int)=((Jz (x.2.set i true):Nat):Int):=by
    rw[br,Ul bd (P6 O1),key]
   refine⟨rfl,rfl,?_⟩;rw[e2];refine WM (i:=7) (v:=.int .i64 (Jz (x.2.set i true):Nat)) [_,_] a0 (by show 7<8;omega) rfl λ U6 ah ba V=>?_;have V:U6.M=[_,_]++.obj b4 (.cells (QS (.slice (some ⟨Z,0,none⟩) (o.length+1) F) (W0 x.1) (Jz (x.2.set i true))).toArray 122 (0,0))::Q.M:=V;have a1:Zi U6 b7 #[.string c.nm,.int .i64 c.ag,.slice ga gl gc,.slice aa al ac]:=K.imI λ y E hy=>by rw[ah];exact hy
   refine⟨_,a1.sees3 (o:=1) rfl,c.ag.toNat,⟨H.2.1,H.1⟩,rfl,?_⟩;rw[show((Addr.mk b4 0 none).add 1).add (c.ag.toNat*1)=(Addr.mk b4 0 none).add (1+c.ag.toNat) by rw[Qo,Qo,Qo,Nat.mul_one,Nat.zero_add,Nat.zero_add]];refine WM (i:=1+c.ag.toNat) (v:=.bool false) [_,_] V (by show 1+c.ag.toNat<8;omega) rfl λ U7 aw bb W=>?_;rw[gi _ _ _ H.1,kI _ _ _ H.2.2]at W;have ap:=Q9 [_,_] W;refine⟨_,⟨rfl,ap⟩,rfl,Wd (vs:=QS (.slice (some ⟨Z,0,none⟩) (o.length+1) F) (W0 (x.1.set c.ag.toNat false)) (Jz (x.2.set i true))) [_] W rfl (by simp[QS,Value.single]) λ U8 ax bc ai=>?_⟩;refine⟨_,⟨rfl,Q9 [_] ai⟩,?_⟩
   conv=>whnf
   exact⟨Z,_,[_,_],done _ _ P,by rw[ai,<- G.own];rfl,λ y E hy=>by rw[ax,aw,ah];exact av y E (G.imm y E hy),by rw[bc,bb,ba,a9];exact G.tok⟩
  |false=>
   rw[aj]at P;refine⟨_,⟨rfl,Y⟩,rfl,Yi (vs:=L1) [_] ab rfl (by simp[L1,QS,Value.single]) ?_⟩;refine⟨_,⟨rfl,Q9 [_] rfl⟩,?_⟩
   conv=>whnf
   exact⟨Z,_,[_,_],done x.1 x.2 P,by show _=_;rw[<- G.own];rfl,λ y E hy=>T y E (G.imm y E hy),au.trans G.tok⟩
 refine(Qb.out (R:=R) be).mono ?_;rintro v U'⟨B,O,⟨cp,c,rfl,rfl,h3,h4⟩,hB,bp⟩;refine⟨⟨some ⟨B,0,none⟩,cp,S1,?_,by simpa using h3,by rintro _⟨⟩;rfl⟩,bp⟩;have bi:Zi U'.frz B c:=⟨3,(0,0),hB⟩;refine⟨S1,λ k y hy=>⟨_,rfl,rfl,?_⟩⟩;rw[Nat.mul_one,Qo];refine bi.sees ?_;rw[Nat.zero_add];refine h4 k _ ?_;rw[getElem?_map]at hy ⊢;cases hz:(o++[i])[k]? with
 |none=>rw[hz]at hy;cases hy
 |some z=>rw[hz]at hy;cases hy;rfl
end Go.Proofs
namespace Go.TM
variable{T:Type}{P:Program}{S:Sys P T}{f:Fm}{U:Qa T}
def IW(S:Sys P T)(l n:Nat)(R:Nat->List Value->Qa T->Prop)(I:Nat->Qa T->Prop)(E:Qa T->Prop):Prop:=
 ∀(k:Nat)(p:List Value)(f:Qa T)(K:Value->Qa T->Prop),k<n->R k p f.frz->I k f->(∀b,f.frz.lg b->I (k+1) b->K (.bool true) b)->(∀b,E b->K (.bool false) b)->Zm S l p K f
def Yo(S:Sys P T)(g:FuncId)(args:Array Value)(l n:Nat)(R:Nat->List Value->Qa T->Prop)(U:Qa T):Prop:=
 ∀(I:Nat->Qa T->Prop)(E:Qa T->Prop),(∀k b f,b.le f->I k b->I k f)->IW S l n R I E->I 0 U->Qb S g args (λ _ U'=>I n U'\/E U') U
def IF(hm:P.follows .mixedOrders=true){fn N:Nat}{mu dets:List Nat}{c:Operand}{params:Array Tmp}{sa Y:C}{n:Zj T}{x:Nat->Zj T}{r:Zj T}{ds:List Deferred}{g:FuncId}{first G:Array Value}
  (len:Nat) (R:Nat->List Value->Qa T->Prop) (Inv:Nat->Qa T->Prop) (X:Nat->Qa T->Prop) (W:Qa T->Prop)
  (hc:Zf f c=.func (.func g) first G) (hp:params.toList.all (λ t=>decide (t<N))=true) (hg:(P.funcs[g]?.any λ fd=>fd.body.isSome&&fd.name != "runtime.NumGoroutine")=true)
  (aa:∀l F,U.frz.lg F->Yo S g (first.toList++[Value.func (.yield l) #[] #[]]++G.toList).toArray l len R F)
  (Q:∀k p U,R k p U->p.length=params.size) (ab:∀k F L,F.le L->Inv k F->Inv k L) (h0:Inv 0 U)
  (H:∀(l:Nat)(A B D:Qw)(k:Nat)(p:List Value)(U₀:Qa T)(KN:Zj T)(KX:Nat->Zj T)(KR KA:Zj T),k<len->R k p U₀.frz->Inv k U₀ ->
   (∀w z b,U₀.frz.lg b->Inv (k+1) b->KN w z (b.on B D))->(∀i w z b,X i b->KX i w z (b.on B D))->(∀w z b,W b->KR w z (b.on B D)) ->
   (∀w(F:Qa T),ZY S fn (some l) Y KN KX KR w [] (F.on B D)->KA w [] (F.on A D)) ->
   ZY S fn (some l) sa KA (λ _ _ _ _=>False) (λ _ _ _=>False) (HS f params.toList p) [] (U₀.on A D))
  (hn:∀(d l:Nat)(A:Obj)b,Inv len b->n f (⟨.collected d,#[]⟩::ds) (b.on (.obj l A) (.obj d (.deferred (some [])))))
  (hx:∀(d l:Nat)(A:Obj)i b,X i b->x i f (⟨.collected d,#[]⟩::ds) (b.on (.obj l A) (.obj d (.deferred (some [])))))
  (hr:∀(d l:Nat)(A:Obj)b,W b->r f (⟨.collected d,#[]⟩::ds) (b.on (.obj l A) (.obj d (.deferred (some []))))) :
  Wo S fn none N mu dets c params sa Y n x r f ds U:=by
 show ZY S fn none (.rng N mu dets c params sa Y) n x r f ds U;refine Lu hm hc hp hg λ l d lo hd hl ac hR=>?_
 let D:Qw:=.obj d (.deferred (some []))
 let I:Nat->Qa T->Prop:=λ k F=>∃U₀,Inv k U₀/\F=U₀.on (.obj l (lo .ready none)) D
 let E:Qa T->Prop:=λ F=>∃U₀,(∃i,X i U₀/\F=U₀.on (.obj l (lo .done (some (.exit i)))) D)\/(W U₀/\F=U₀.on (.obj l (lo .done (some .ret))) D)
 have Z:U.frz.lg (U.on (.obj l (lo .ready none)) D):=⟨λ _ _ h=>h,⟨_,(append_nil _).symm⟩,rfl⟩;refine(aa l _ Z I E ?_ ?_ ⟨U,h0,rfl⟩).mono ?_
 .rintro k _ L hle' ⟨U₀,hI,rfl⟩;refine⟨{ L with M:=U₀.M },ab k U₀ _ ⟨hle'.imm,rfl,hle'.tok⟩ hI,?_⟩;obtain⟨ad,ae,af⟩:=L;have:=hle'.own;simp only[Qa.on]at this ⊢;rw[this]
 .rintro k p _ K hk hRk ⟨U₀,hI,rfl⟩ hK1 hK2;refine hR p K _ (Q k p _ hRk) (mem_cons_self ..) ?_;refine H l _ (.obj l (lo .busy none)) D k p U₀ _ _ _ _ hk hRk hI (λ w z b V h=>?_) (λ i w z b h=>?_) (λ w z b h=>?_) (λ w F h=>⟨rfl,_,.here,h⟩)
  .exact⟨_,.here,hK1 _ ⟨V.imm,⟨_,(append_nil _).symm⟩,V.tok⟩ ⟨b,h,rfl⟩⟩
  .exact⟨_,.here,hK2 _ ⟨b,.inl ⟨i,h,rfl⟩⟩⟩
  .exact⟨_,.here,hK2 _ ⟨b,.inr ⟨h,rfl⟩⟩⟩
 .rintro v b (⟨U₀,hI,rfl⟩|⟨U₀,⟨i,hX,rfl⟩|⟨hR',rfl⟩⟩) -
  .exact⟨.ready,none,_,S1,.here,hn d l _ U₀ hI⟩
  .exact⟨.done,some (.exit i),_,S1,.here,hx d l _ i U₀ hX⟩
  .exact⟨.done,some .ret,_,S1,.here,hr d l _ U₀ hR'⟩
def Bk.ords_succ(b:Bk)(k:Nat)(o:List Nat):b.ords (k+1) o=(range b.cs.length).flatMap λ i=>if b.can o i then b.ords k (o++[i])else[]:=rfl
def Bk.ordsTo(b:Bk)(k:Nat)(o:List Nat)(m:Nat):List (List Nat):=(range m).flatMap λ i=>if b.can o i then b.ords k (o++[i])else[]
def Bk.ordsTo_succ(b:Bk)(k:Nat)(o:List Nat)(m:Nat):b.ordsTo k o (m+1)=b.ordsTo k o m++(if b.can o m then b.ords k (o++[m])else[]):=by
 simp[Bk.ordsTo,range_succ]
def Bk.ordsTo_le(b:Bk)(k:Nat)(o:List Nat){m:Nat}(h:m<=b.cs.length):∃r,b.ords (k+1) o=b.ordsTo k o m++r:=by
 refine⟨((range (b.cs.length-m)).map (m+·)).flatMap λ i=>if b.can o i then b.ords k (o++[i])else[],?_⟩;rw[Bk.ords_succ,Bk.ordsTo,<- flatMap_append];congr 1;rw[<- range_add];congr 1;omega
structure Bk.Run(b:Bk)(o:List Nat):Prop where
 low:∀i∈o,i<b.cs.length
 len:o.length<=b.cs.length
def Bk.ends_len(b:Bk):∀(o:List Nat),(b.ends o).1.length=b.rs.length/\(b.ends o).2.length=b.cs.length:=by
 intro o
 have key:∀(o:List Nat)(x:List Bool×List Bool),x.1.length=b.rs.length->x.2.length=b.cs.length->(o.foldl b.stp x).1.length=b.rs.length/\(o.foldl b.stp x).2.length=b.cs.length:=by
  intro o
  induction o with
  |nil=>exact λ x h1 h2=>⟨h1,h2⟩
  |cons i o f=>
   intro x h1 h2;refine f _ ?_ ?_ <;> unfold Bk.stp <;> split <;> simp[h1,h2]
 exact key o b.ini (by simp[Bk.ini]) (by simp[Bk.ini])
def OB(o:List Nat):Z4 ((o.map λ(k:Nat)=>(k:Int)).map Int.toNat)=Z4 o:=by
 congr 1;rw[map_map]
 conv=>rhs;rw[<- map_id o]
 exact map_congr_left λ k _=>S1
structure GT(U:Qa T)(h:BH)(l B b2 b3:Nat):Prop where
 bk:Zi U B #[.slice h.ra h.rl h.rc,.slice h.ca h.cl h.cc]
 yl:Zi U b2 #[.func (.yield l) #[] #[]]
 nx:Zi U b3 #[.func (.func 84) #[] #[.pointer (some ⟨B,0,none⟩),.pointer (some ⟨b2,0,none⟩),.pointer (some ⟨b3,0,none⟩)]]
def GT.lg{U':Qa T}{h:BH}{l B b f:Nat}(k:GT U h l B b f)(hl:U.frz.lg U'):GT U' h l B b f:=⟨k.bk.imI hl.imm,k.yl.imI hl.imm,k.nx.imI hl.imm⟩
def GF(b:Bk)(k:Nat)(p:List Value)(U:Qa T):Prop:=∃o v,b.all[k]?=some o/\p=[v]/\Hv U v o (b.ends o)
end Go.TM
namespace Go.Proofs
open Go.TM
variable{T:Type}{S:TM.Sys prog T}{U:Qa T}
attribute [local irreducible] Qb Zm Wo
set_option maxHeartbeats 1000000 in
def zJ(h:BH)(b:Bk)(aq:b.Ok){l B b2 b3:Nat}{I:Nat->Qa T->Prop}{E:Qa T->Prop}(am:∀k V U2,V.le U2->I k V->I k U2)(bd:IW S l b.all.length (GF b) I E) :
  ∀(k:Nat)(o:List Nat)(j:Nat)(U:Qa T)(v:Value),o.length+k=b.cs.length->(∀i∈o,i<b.cs.length)->Zs U.frz h b->GT U h l B b2 b3->Hv U.frz v o (b.ends o)->(∀(i:Nat)q,(b.ords k o)[i]?=some q->b.all[j+i]?=some q)->I j U ->
   Qb S 84 #[v,.pointer (some ⟨B,0,none⟩),.pointer (some ⟨b2,0,none⟩),.pointer (some ⟨b3,0,none⟩)] (λ v' U'=>(v'=.bool true/\I (j+(b.ords k o).length) U'/\U.frz.lg U')\/(v'=.bool false/\E U')) U:=by
 intro k
 induction k with
 |zero=>
  rintro o j U _ a1 Q hb hn⟨a,cap,rfl,ho,ab,au⟩X hI;have a9:=hb.cs.1;refine Qb.of (args:=[_,_,_,_]) Kf Qe S1 ?_
  repeat refine⟨rfl,?_⟩
  conv=>whnf
  intro b4 V L F;have F:Zi V b4 (QS (.slice a o.length cap) (W0 (b.ends o).1) (Jz (b.ends o).2)).toArray:=F;have z:=hn.lg L.lg.frz;refine⟨_,F.sees3 (o:=0) rfl,_,z.bk.sees3 (o:=1) rfl,?_⟩
  repeat refine⟨rfl,?_⟩
  conv=>whnf
  apply Qg<;>intro W
  .refine⟨_,z.yl.sees3 (o:=0) rfl,_,⟨rfl,F.reads (vs:=QS (.slice a o.length cap) (W0 (b.ends o).1) (Jz (b.ends o).2)) (λ k v hv=>by simpa using hv)⟩,?_⟩
   conv=>whnf
   have av:=X 0 o rfl;refine bd j _ _ _ (List.getElem?_eq_some_iff.1 av).1 ⟨o,_,av,rfl,a,cap,rfl,ho.lg L.lg.frz2,ab,au⟩ (am _ _ _ L hI) (λ U2 ah K=>?_) (λ U2 hE=>?_)
   .repeat refine⟨rfl,?_⟩
    conv=>whnf
    exact .inl ⟨rfl,K,L.lg.frz2.trans ah⟩
   .repeat refine⟨rfl,?_⟩
    conv=>whnf
    exact .inr ⟨rfl,hE⟩
  .simp at W;omega
 |succ k ih=>
  rintro o j U _ a1 Q hb hn⟨a,cap,rfl,ho,ab,au⟩X hI;have a9:=hb.cs.1;have bf:=aq.nc;have a3:Z4 o<2^60:=Ha λ x hx=>by have:=Q x hx;omega
  have a5:∀n∈o.map (λ(k:Nat)=>(k:Int)),0<=n/\n<60:=by
   intro n hn;obtain⟨k,hk,rfl⟩:=mem_map.1 hn;have:=Q k hk;omega
  refine Qb.of (args:=[_,_,_,_]) Kf Qe S1 ?_
  repeat refine⟨rfl,?_⟩
  conv=>whnf
  intro b4 V L F;have F:Zi V b4 (QS (.slice a o.length cap) (W0 (b.ends o).1) (Jz (b.ends o).2)).toArray:=F;have G:=L.lg.frz2;have z:=hn.lg L.lg.frz;refine⟨_,F.sees3 (o:=0) rfl,_,z.bk.sees3 (o:=1) rfl,?_⟩
  repeat refine⟨rfl,?_⟩
  conv=>whnf
  apply Qg<;>intro W
  .simp at W;omega
  clear W;have Z:=Z9 (S:=S) a o.length cap _ ((ho.lg G).lg Qr) O1 a5;rw[OB]at Z;refine⟨_,F.sees3 (o:=0) rfl,XN.any,Z.go λ _=>?_⟩;refine⟨_,z.bk.sees3 (o:=1) rfl,Nat,λ m=>[(1,.pointer (some ⟨B,0,none⟩)),(2,.pointer (some ⟨b2,0,none⟩)),(3,.pointer (some ⟨b3,0,none⟩)),(4,.pointer (some ⟨b4,0,none⟩)),(6,.int .i64 (Z4 o:Nat)),(25,.slice h.ca h.cl h.cc),(26,.int .i64 h.cl),(27,.int .i64 m)],
   λ m U'=>V.frz.lg U'/\m<=h.cl/\I (j+(b.ordsTo k o m).length) U',λ m=>h.cl-m,0,T1,⟨Qr,O1,am _ _ _ L hI⟩,?_⟩
  rintro m f U2⟨ah,hm,K⟩;have ao:Z7 ((m:Int)+1):=I1
  have H:=b.ordsTo_succ k o m
  repeat refine⟨rfl,?_⟩
  conv=>whnf
  apply Qg<;>intro W
  .have hmt:m<h.cl:=by simpa using W
   obtain⟨ad,c,ga,gl,gc,aa,al,ac,hx,ba,be,bc,-,-,ha,a6,a2⟩:=(hb.lg (G.trans ah)).case hmt;have a7:=Bk.aft1_at hx;have N:=aq.toLow.lt a2;have M:b.can o m=(!o.contains m&&(Jf b.A m).all λ k=>o.contains k):=rfl;refine⟨ad,m,⟨ba,rfl,hmt⟩,_,⟨rfl,bc⟩,?_⟩
   conv=>whnf
   intro b8 bb;refine⟨_,.refl _,rfl,Zv (vs:=[.string c.nm,.int .i64 c.ag,.slice ga gl gc,.slice aa al ac]) bb rfl (by simp[Value.single]) λ U3 ai az=>?_⟩;have w:V.frz.lg U3:=ah.trans ai.lg
   have skip:b.can o m=false->I (j+(b.ordsTo k o (m+1)).length) U3:=λ e=>by
    rw[H,e];simp only[Bool.false_eq_true,if_false,append_nil];exact am _ _ _ ai K
   have Y:=HO a3 (show m<60 by omega);rw[Wv]at Y;refine⟨O1,?_⟩
   repeat refine⟨rfl,?_⟩
   conv=>whnf
   apply Jt<;>intro W
   .have hno:o.contains m=false:=Y.symm.trans W;rw[hno]at M;have aj:=Z9 (S:=S) aa al ac c.af (ha.lg ai.lg) a6 N;have a8:Z4 (c.af.map Int.toNat)<2^60:=Ha (toNat_lt N);have key:_↔(Jf b.A m).all (λ k=>(Z4 o).testBit k)=true:=(Sn a8 a3).trans ((Sm N).trans (by rw[a7]))
    have a4:(Jf b.A m).all (λ k=>(Z4 o).testBit k)=(Jf b.A m).all λ k=>o.contains k:=by
     congr 1;funext k;exact Wv o k
    rw[a4]at key;refine⟨_,az.sees3 (o:=3) rfl,XN.any,aj.go λ _=>?_⟩
    repeat refine⟨rfl,?_⟩
    conv=>whnf
    apply Qg<;>intro W
    .have hno2:b.can o m=false:=by
      rw[M];cases hh:(Jf b.A m).all (λ k=>o.contains k)with
      |false=>rfl
      |true=>exact absurd (key.2 hh) (bne_iff_ne.1 W)
     refine⟨ao,?_⟩
     conv=>whnf
     exact⟨rfl,m+1,T1,⟨w,O1,skip hno2⟩,L1⟩
    .have hyes:b.can o m=true:=by
      rw[M];have:(Jf b.A m).all (λ k=>o.contains k)=true:=key.1 (bne_eq_false_iff_eq.1 W);rw[this];rfl
     rw[hyes,if_pos rfl]at H;have an:=z.lg w;have ay:=F.imI w.imm;have ae:=b.ends_len o;refine⟨_,an.nx.sees3 (o:=0) rfl,_,⟨rfl,an.bk.rd⟩,?_⟩;refine⟨_,⟨rfl,ay.reads (vs:=QS (.slice a o.length cap) (W0 (b.ends o).1) (Jz (b.ends o).2)) (λ k v hv=>by simpa using hv)⟩,?_⟩;refine⟨λ v U'=>Hv U'.frz v (o++[m]) (b.ends (o++[m])),λ v V U2 hv ak=>hv.lg ak.lg.frz2,λ U' ak hC=>?_,λ v hv=>?_⟩
     .refine⟨Tb.any,(DV h b (hb.lg ((G.trans w).trans ak.lg)) aq a cap o (b.ends o) (ho.lg ((G.trans w).trans ak.lg)) au ab O1 ae.1 ae.2 m O1).mono ?_⟩;rintro v U''⟨hv,a0⟩-;exact⟨U'',.refl _,by rw[b.ends_snoc];exact hv,a0⟩
     obtain⟨_,-,-,a',c',rfl,-⟩:=hv
     conv=>whnf
     intro U4 ax hC;obtain⟨-,hv⟩:=hC;have P:V.frz.lg U4:=w.trans ax.lg;obtain⟨r,hr⟩:=b.ordsTo_le k o (show m+1<=b.cs.length by omega);rw[H]at hr
     refine⟨Kf.any,(ih (o++[m]) (j+(b.ordsTo k o m).length) U4 _ S3 (λ i hi=>by
      rcases mem_append.1 hi with hi|hi
      .exact Q i hi
      .rw[mem_singleton.1 hi];omega) (hb.lg (G.trans (show V.frz.lg U4.frz from P.frz2))) (z.lg P) hv (λ i q hq=>by
       rw[Nat.add_assoc];refine X _ q ?_;rw[hr,append_assoc,getElem?_append_right O1,Nat.add_sub_cancel_left,getElem?_append_left (List.getElem?_eq_some_iff.1 hq).1];exact hq) (am _ _ _ (ai.trans ax) K)).mono ?_⟩
     rintro v' U5 (⟨rfl,aw,ap⟩|⟨rfl,hE⟩) -
     .have hlg5:V.frz.lg U5:=(show V.frz.lg U4.frz from P.frz2).trans ap
      repeat refine⟨rfl,?_⟩
      refine⟨ao,?_⟩
      conv=>whnf
      exact⟨rfl,m+1,T1,⟨hlg5,O1,by rw[H,length_append,<- Nat.add_assoc];exact aw⟩,L1⟩
     .repeat refine⟨rfl,?_⟩
      conv=>whnf
      exact .inr ⟨rfl,hE⟩
   .have hyes:o.contains m=true:=Y.symm.trans W;rw[hyes]at M
    repeat refine⟨rfl,?_⟩
    refine⟨ao,?_⟩
    conv=>whnf
    exact⟨rfl,m+1,T1,⟨w,O1,skip M⟩,L1⟩
  .have hge:m=b.cs.length:=by simp at W;omega
   subst hge
   repeat refine⟨rfl,?_⟩
   conv=>whnf
   exact .inl ⟨rfl,K,G.trans ah⟩
def DM(h:BH)(b:Bk)(hb:Zs U.frz h b)(L:b.Ok){l B:Nat}(hB:Zi U B #[.slice h.ra h.rl h.rc,.slice h.ca h.cl h.cc]) :
  Yo S 83 #[.func (.yield l) #[] #[],.pointer (some ⟨B,0,none⟩)] l b.all.length (GF b) U:=by
 intro I E M W h0;refine Qb.of (args:=[_,_]) Th Qe S1 ?_
 conv=>whnf
 intro N U1 P z;have z:Zi U1 N #[.func (.yield l) #[] #[]]:=z
 conv=>whnf
 intro Z T;refine⟨_,.refl _,rfl,Zv (vs:=[.func (.func 84) #[] #[.pointer (some ⟨B,0,none⟩),.pointer (some ⟨N,0,none⟩),.pointer (some ⟨Z,0,none⟩)]]) T rfl (by simp[Value.single]) λ U2 G Q=>?_⟩;have F:=P.trans G;have V:GT U2 h l B N Z:=⟨hB.le F,z.le G,Q⟩;refine⟨_,V.nx.sees3 (o:=0) rfl,_,⟨rfl,V.bk.rd⟩,?_⟩;refine⟨Uz (W0 b.ini.1),λ U' K _=>?_,?_⟩
 .refine⟨OR.any,(Es h b ((hb.lg (F.trans K).lg.frz2).lg Qr) L.nr).mono ?_⟩;rintro _ U''⟨rfl,hU⟩-;exact⟨rfl,_,.refl _,hU▸.refl _⟩
 conv=>whnf
 intro Y H _;have w:=F.trans H;have X:Jz b.ini.2=0:=Im _;have hv:Hv Y.frz (HR none 0 0 (W0 b.ini.1) 0) [] (b.ends []):=⟨none,0,by show _=HR none 0 0 (W0 b.ini.1) (Jz b.ini.2);rw[X],⟨rfl,λ i x hx=>by simp at hx⟩,Nat.le_refl _,S1⟩;refine⟨Kf.any,(zJ h b L M W b.cs.length [] 0 Y _ S1 S1 (hb.lg w.lg.frz2) (V.lg H.lg.frz) hv (λ i q hq=>by rw[Nat.zero_add];exact hq) (M _ _ _ w h0)).mono ?_⟩;rintro v' U4 (⟨rfl,f,-⟩|⟨rfl,hE⟩) -
 .repeat refine⟨rfl,?_⟩
  conv=>whnf
  exact .inl (by rw[Nat.zero_add]at f;exact f)
 .repeat refine⟨rfl,?_⟩
  conv=>whnf
  exact .inr hE
def E7(h:BH)(b:Bk)(hb:Zs U h b):Qb S 57 #[h.v] (λ v U'=>(∃B,v=.func (.func 83) #[] #[.pointer (some ⟨B,0,none⟩)]/\Zi U' B #[.slice h.ra h.rl h.rc,.slice h.ca h.cl h.cc])/\U.le U') U:=by
 refine Qb.of (args:=[_]) Tc Qe S1 ?_
 repeat refine⟨rfl,?_⟩
 conv=>whnf
 intro B z f w
 repeat refine⟨rfl,?_⟩
 conv=>whnf
 exact⟨⟨B,rfl,w⟩,f⟩
def Ev(a n:Nat):Qb S 64 #[.int .i64 a,.int .i64 n] (λ v U'=>v=.int .i64 (H1 a n)/\U'=U) U:=by
 refine Qb.of (args:=[_,_]) Te Qe S1 ?_
 repeat refine⟨rfl,?_⟩
 conv=>whnf
 apply Qg<;>intro b
 .have e:a=n:=by simp at b;omega
  repeat refine⟨rfl,?_⟩
  conv=>whnf
  exact⟨by unfold H1;rw[if_pos e],rfl⟩
 have e:a≠n:=by simp at b;omega
 repeat refine⟨rfl,?_⟩
 conv=>whnf
 apply Qg<;>intro b
 .have e0:a=0:=by simp at b;omega
  repeat refine⟨rfl,?_⟩
  conv=>whnf
  exact⟨by unfold H1;rw[if_neg e,if_pos e0],rfl⟩
 .have e0:a≠0:=by simp at b;omega
  repeat refine⟨rfl,?_⟩
  conv=>whnf
  exact⟨by unfold H1;rw[if_neg e,if_neg e0],rfl⟩
def Ig:X6 prog 63 4 1:=.of K1
def qO(a n:Nat)(ha:a<2^60)(Z:n<60):Qb S 56 #[.int .i64 a,.int .i64 n] (λ v U'=>Acc 4 1 v ((range n).map λ k=>.bool (a.testBit k)) U'.M U.M/\(∀x o,U.I x=some o->U'.I x=some o)/\U'.tok=U.tok) U:=by
 refine Qb.of (args:=[_,_]) UQ Qe S1 ?_
 repeat refine⟨rfl,?_⟩
 refine⟨Nat×Value,λ y=>[(0,.int .i64 a),(5,y.2),(7,.int .i64 n),(8,.int .i64 y.1)],
  λ y U'=>(∀x o,U.I x=some o->U'.I x=some o)/\U'.tok=U.tok/\Acc 4 1 y.2 ((range y.1).map λ k=>.bool (a.testBit k)) U'.M U.M/\y.1<=n,λ y=>n-y.1,(0,.slice none 0 0),T1,⟨λ _ _ h=>h,rfl,.nil,O1⟩,?_⟩
 rintro⟨i,v⟩f Q⟨N,ht,b,T⟩;simp only at b T;obtain⟨sa,sl,sc,rfl,V,-⟩:=Acc.src (U:=Q) b;have K:Z7 ((i:Int)+1):=I1
 repeat refine⟨rfl,?_⟩
 conv=>whnf
 apply Qg<;>intro P
 .have hlt:i<n:=by simpa using P
  have E:=HO ha (show i<60 by omega);refine⟨O1,rfl,rfl,?_⟩
  conv=>whnf
  intro G F;refine Zh F λ L B w=>?_;have w:Zi L G #[.bool (a.testBit i)]:=by rw[<- E];exact w
  conv=>whnf
  refine Wn (v:=.slice sa sl sc) (cs:=(range i).map λ k=>.bool (a.testBit k)) (new:=[.bool (a.testBit i)]) (M₀:=U.M) Ig rfl rfl (by rw[B.own];exact b) (.inr ⟨_,rfl,w.rd⟩) rfl (by simp[Value.single]) S3 λ Y M' H _=>?_;have z:Acc 4 1 Y ((range (i+1)).map λ k=>.bool (a.testBit k)) M' U.M:=by rw[range_succ,map_append];exact H
  obtain⟨W,X,tc,rfl,-,-⟩:=Acc.src (U:={ L with M:=M' }) z;refine⟨K,?_⟩
  conv=>whnf
  exact⟨rfl,(i+1,.slice W X tc),T1,⟨λ x o h=>B.imm x o (N x o h),B.tok.trans ht,z,by show i+1<=n;omega⟩,L1⟩
 .have hge:i=n:=by simp at P;omega
  subst hge
  repeat refine⟨rfl,?_⟩
  conv=>whnf
  exact⟨b,N,ht⟩
end Go.Proofs

