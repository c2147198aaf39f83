/- Lemmas. No conditions. -/
import Derived.Test.YtcakpkianonbkaaGreatDoorB36
import Derived.Test.YtcakpkianonbkaaGreatDoorB03
set_option linter.all false
open List
open Go.Proofs.Tryz (prog)
set_option maxRecDepth 100000
namespace Go.Proofs
open Go.TM
def Qe:prog.follows .mixedOrders=true:=K1
end Go.Proofs
namespace Go.Proofs
open Go.TM
variable{T:Type}{S:TM.Sys prog T}{U:Qa T}
attribute [local irreducible] Qb Zh Wh
def Wz(U:Qa T)(n a b:Int):Qb S 48 #[.int .i64 n,.int .i64 a,.int .i64 b] (λ v U'=>v=.bool (Ws n a b)/\U'=U) U:=by
 refine Qb.of (args:=[_,_,_]) GN Qe S1 ?_
 repeat refine⟨rfl,?_⟩
 conv=>whnf
 apply Q7<;>intro e
 .repeat refine⟨rfl,?_⟩
  conv=>whnf
  exact⟨by unfold Ws;rw[e];rfl,rfl⟩
 .repeat refine⟨rfl,?_⟩
  conv=>whnf
  exact⟨by unfold Ws;rw[e];rfl,rfl⟩
def J6(U:Qa T)(n a b:Int):Qb S 55 #[.int .i64 n,.int .i64 a,.int .i64 b] (λ v U'=>v=.bool (Ws n a b)/\U'=U) U:=by
 refine Qb.of (args:=[_,_,_]) W0 Qe S1 ?_
 repeat refine⟨rfl,?_⟩
 conv=>whnf
 apply Q7<;>intro e
 .repeat refine⟨rfl,?_⟩
  conv=>whnf
  exact⟨by unfold Ws;rw[e];rfl,rfl⟩
 .repeat refine⟨rfl,?_⟩
  conv=>whnf
  exact⟨by unfold Ws;rw[e];rfl,rfl⟩
def WJ{α:Type}(S:TM.Sys prog T)(U:Qa T)(g:FuncId)(first b:Array Value)(enc:α->Value)(l:List α)(p:α->Bool):Prop:=
 (prog.funcs[g]?.any λ fd=>fd.body.isSome&&fd.name != "runtime.NumGoroutine")=true/\∀x∈l,Qb S g (first.toList++[enc x]++b.toList).toArray (λ v U'=>v=.bool (p x)/\U'=U) U
def XC{α:Type}(p:α->Bool)(l:List α):Int:=match l.findIdx? p with|some i=>i|none=>-1
def PU{α:Type}{p:α->Bool}{l:List α}(h:∀x∈l,p x=false):XC p l = -1:=by
 unfold XC;rw[findIdx?_eq_none_iff.2 h]
def PV{α:Type}{p:α->Bool}{l:List α}{i:Nat}{x:α}(z:l[i]?=some x)(w:p x=true)(h:∀y∈l.take i,p y=false):XC p l=i:=by
 unfold XC
 have:l.findIdx? p=some i:=by
  obtain⟨b,rfl⟩:=List.getElem?_eq_some_iff.1 z;rw[findIdx?_eq_some_iff_getElem];refine⟨b,w,λ j B=>?_⟩
  have e:l[j]' O1∈l.take i:=by
   rw[mem_take_iff_getElem];exact⟨j,O1,rfl⟩
  simpa using h _ e
 rw[this]
def Vv{α:Type}{p:α->Bool}{l:List α}:decide (XC p l ≥ 0)=l.any p:=by
 unfold XC;cases h:l.findIdx? p with
 |none=>
  rw[findIdx?_eq_none_iff]at h;have:l.any p=false:=by rw[any_eq_false];intro x w;simp[h x w]
  rw[this];rfl
 |some i=>
  have:l.any p=true:=by
   rw[findIdx?_eq_some_iff_getElem]at h;obtain⟨b,e,_⟩:=h;exact any_eq_true.2 ⟨l[i],S1,e⟩
  rw[this];simp
def Ro{α:Type}(enc:α->Value)(a:Option Addr)(len cap:Nat)(l:List α)(P:l.length=len)(F:∀i x,l[i]?=some x->∃z,a=some z/\z.spot=none/\U.sees (z.add (i*1)) (enc x))(G:∀x,∃k n,enc x=.int k n)(I:len<2^60)(g:FuncId)(first e:Array Value)(p:α->Bool)
  (H:WJ S U g first e enc l p):Qb S 199 #[.slice a len cap,.func (.func g) first e] (λ v U'=>v=.int .i64 (XC p l)/\U'=U) U:=by
 refine Qb.of (args:=[_,_]) M4 Qe S1 ?_
 repeat refine⟨rfl,?_⟩
 refine⟨Nat,λ i=>[(0,.slice a len cap),(1,.func (.func g) first e),(6,.slice a len cap),(7,.int .i64 len),(8,.int .i64 i)],
  λ i U'=>U'=U/\i<=len/\∀x∈l.take i,p x=false,λ i=>len-i,0,T1,⟨rfl,O1,S1⟩,?_⟩
 rintro i f _⟨rfl,N,b⟩
 repeat refine⟨rfl,?_⟩
 conv=>whnf
 apply Qd<;>intro B
 .have hlt:i<len:=by simpa using B
  have E:l[i]?=some (l[i]' O1):=S1
  generalize l[i]' O1=x at E;obtain⟨z,rfl,M,K⟩:=F i x E;obtain⟨k,n,L⟩:=G x;have h:=H.2 x (mem_of_getElem? E);rw[L]at h K;refine⟨z,i,⟨rfl,rfl,hlt⟩,_,K,H.1,h.mono ?_⟩;rintro v U'⟨rfl,rfl⟩-
  conv=>whnf
  apply Qd<;>intro B
  .repeat refine⟨rfl,?_⟩
   conv=>whnf
   exact⟨by rw[PV E B b],rfl⟩
  .refine⟨I1,?_⟩;refine⟨rfl,i+1,T1,⟨rfl,O1,?_⟩,L1⟩;intro y w;rw[Z3 E,mem_append]at w;rcases w with w|w
   .exact b y w
   .simp at w;subst w;exact B
 .have hge:len<=i:=by simpa using B
  repeat refine⟨rfl,?_⟩
  refine⟨?_,rfl⟩;rw[take_of_length_le O1]at b;rw[PU b]
def Rp{α:Type}(enc:α->Value)(a:Option Addr)(len cap:Nat)(l:List α)(P:l.length=len)(F:∀i x,l[i]?=some x->∃z,a=some z/\z.spot=none/\U.sees (z.add (i*1)) (enc x))(G:∀x,∃k n,enc x=.int k n)(I:len<2^60)(g:FuncId)(first e:Array Value)(p:α->Bool)
  (H:WJ S U g first e enc l p):Qb S 137 #[.slice a len cap,.func (.func g) first e] (λ v U'=>v=.int .i64 (XC p l)/\U'=U) U:=by
 refine Qb.of (args:=[_,_]) LR Qe S1 ?_
 repeat refine⟨rfl,?_⟩
 refine⟨Nat,λ i=>[(0,.slice a len cap),(1,.func (.func g) first e),(6,.slice a len cap),(7,.int .i64 len),(8,.int .i64 i)],
  λ i U'=>U'=U/\i<=len/\∀x∈l.take i,p x=false,λ i=>len-i,0,T1,⟨rfl,O1,S1⟩,?_⟩
 rintro i f _⟨rfl,N,b⟩
 repeat refine⟨rfl,?_⟩
 conv=>whnf
 apply Qd<;>intro B
 .have hlt:i<len:=by simpa using B
  have E:l[i]?=some (l[i]' O1):=S1
  generalize l[i]' O1=x at E;obtain⟨z,rfl,M,K⟩:=F i x E;obtain⟨k,n,L⟩:=G x;have h:=H.2 x (mem_of_getElem? E);rw[L]at h K;refine⟨z,i,⟨rfl,rfl,hlt⟩,_,K,H.1,h.mono ?_⟩;rintro v U'⟨rfl,rfl⟩-
  conv=>whnf
  apply Qd<;>intro B
  .repeat refine⟨rfl,?_⟩
   conv=>whnf
   exact⟨by rw[PV E B b],rfl⟩
  .refine⟨I1,?_⟩;refine⟨rfl,i+1,T1,⟨rfl,O1,?_⟩,L1⟩;intro y w;rw[Z3 E,mem_append]at w;rcases w with w|w
   .exact b y w
   .simp at w;subst w;exact B
 .have hge:len<=i:=by simpa using B
  repeat refine⟨rfl,?_⟩
  refine⟨?_,rfl⟩;rw[take_of_length_le O1]at b;rw[PU b]
def zM(a:Option Addr)(len cap:Nat)(l:List Int)(w:Z0 U a len l)(z:len<2^60)(n:Int) :
  Qb S 77 #[.slice a len cap,.int .i64 n] (λ v U'=>v=.int .i64 (XC (λ y=>n==y) l)/\U'=U) U:=by
 refine Qb.of (args:=[_,_]) Ez Qe S1 ?_;have F:=w.1
 repeat refine⟨rfl,?_⟩
 refine⟨Nat,λ i=>[(0,.slice a len cap),(1,.int .i64 n),(6,.slice a len cap),(7,.int .i64 len),(8,.int .i64 i)],
  λ i U'=>U'=U/\i<=len/\∀x∈l.take i,(n==x)=false,λ i=>len-i,0,T1,⟨rfl,O1,S1⟩,?_⟩
 rintro i f _⟨rfl,I,b⟩
 repeat refine⟨rfl,?_⟩
 conv=>whnf
 apply Qd<;>intro h
 .have hlt:i<len:=by simpa using h
  obtain⟨E,x,B,rfl,H,G⟩:=w.at hlt;refine⟨E,i,⟨rfl,rfl,hlt⟩,_,G,?_⟩
  repeat refine⟨rfl,?_⟩
  conv=>whnf
  apply Qd<;>intro h
  .repeat refine⟨rfl,?_⟩
   conv=>whnf
   exact⟨by rw[PV (p:=λ y=>n==y) B h b],rfl⟩
  .refine⟨I1,?_⟩;refine⟨rfl,i+1,T1,⟨rfl,O1,?_⟩,L1⟩;intro y e;rw[Z3 B,mem_append]at e;rcases e with e|e
   .exact b y e
   .simp at e;subst e;exact h
 .have hge:len<=i:=by simpa using h
  repeat refine⟨rfl,?_⟩
  refine⟨?_,rfl⟩;rw[take_of_length_le O1]at b;rw[PU b]
def OW(a:Option Addr)(len cap:Nat)(l:List Int)(e:Z0 U a len l)(b:len<2^60)(n:Int) :
  Qb S 49 #[.slice a len cap,.int .i64 n] (λ v U'=>v=.bool (l.contains n)/\U'=U) U:=by
 refine Qb.of (args:=[_,_]) Y5 Qe S1 ?_;refine⟨Ez.any,(zM a len cap l e b n).mono ?_⟩;rintro v U'⟨rfl,rfl⟩-
 repeat refine⟨rfl,?_⟩
 refine⟨?_,rfl⟩;show Value.bool _=_;rw[Vv];congr 1;rw[Bool.eq_iff_iff];simp
end Go.Proofs
namespace Go.TM
open Go.Proofs
def Hp(c:UInt8):Bool:=(decide ((c.toNat:Int)<97)|| decide ((c.toNat:Int) > 122))&&(decide ((c.toNat:Int)<48)|| decide ((c.toNat:Int) > 57))
end Go.TM
namespace Go.Proofs
open Go.TM
variable{T:Type}{S:TM.Sys prog T}{U:Qa T}
attribute [local irreducible] Qb Zh
def zF(c:UInt8):Qb S 198 #[.int .u8 c.toNat] (λ v U'=>v=.bool (Hp c)/\U'=U) U:=by
 refine Qb.of (args:=[_]) M2 Qe S1 ?_;have b:Hp c=((decide ((c.toNat:Int)<97)|| decide ((c.toNat:Int) > 122))&&(decide ((c.toNat:Int)<48)|| decide ((c.toNat:Int) > 57))):=rfl
 repeat refine⟨rfl,?_⟩
 conv=>whnf
 apply Q7<;>intro e
 .repeat refine⟨rfl,?_⟩
  conv=>whnf
  apply Q7<;>intro e
  .repeat refine⟨rfl,?_⟩
   conv=>whnf
   apply Q7<;>intro e
   .repeat refine⟨rfl,?_⟩
    conv=>whnf
    exact⟨by rw[b];first|(simp_all;done)|(simp_all;omega),rfl⟩
   .repeat refine⟨rfl,?_⟩
    conv=>whnf
    exact⟨by rw[b];first|(simp_all;done)|(simp_all;omega),rfl⟩
  .repeat refine⟨rfl,?_⟩
   conv=>whnf
   exact⟨by rw[b];first|(simp_all;done)|(simp_all;omega),rfl⟩
 .repeat refine⟨rfl,?_⟩
  conv=>whnf
  apply Q7<;>intro e
  .repeat refine⟨rfl,?_⟩
   conv=>whnf
   exact⟨by rw[b];first|(simp_all;done)|(simp_all;omega),rfl⟩
  .repeat refine⟨rfl,?_⟩
   conv=>whnf
   exact⟨by rw[b];first|(simp_all;done)|(simp_all;omega),rfl⟩
end Go.Proofs
namespace Go.TM
open Go.Proofs
def Qu(s:ByteArray):Bool:=Ws s.size 1 10&&((match s.data.toList with|c::_=>!(decide ((c.toNat:Int)<97))&&!(decide ((c.toNat:Int) > 122))|[]=>false)&&!(s.data.toList.any Hp))
end Go.TM
namespace Go.Proofs
open Go.TM
variable{T:Type}{S:TM.Sys prog T}{U:Qa T}
attribute [local irreducible] Qb Zh
def Cw(a:Option Addr)(len cap:Nat)(l:List UInt8)(w:l.length=len)(h:∀(i:Nat)x,l[i]?=some x->∃e,a=some e/\e.spot=none/\U.sees (e.add (i*1)) (.int .u8 x.toNat))(b:len<2^60) :
  Qb S 197 #[.slice a len cap,.func (.func 198) #[] #[]] (λ v U'=>v=.bool (l.any Hp)/\U'=U) U:=by
 refine Qb.of (args:=[_,_]) M1 Qe S1 ?_;refine⟨M4.any,(Ro (λ c:UInt8=>.int .u8 c.toNat) a len cap l w h (λ x=>⟨_,_,rfl⟩) b 198 #[] #[] Hp ⟨M2.any,λ x _=>zF x⟩).mono ?_⟩;rintro v U'⟨rfl,rfl⟩-
 repeat refine⟨rfl,?_⟩
 refine⟨?_,rfl⟩;show Value.bool _=_;rw[Vv]
def uE:prog.underlying 9=some .string:=K1
def vT:prog.underlying 139=some (.slice 5):=K1
def tx:prog.underlying 5=some (.int .u8):=K1
def NX{s:ByteArray}{c:UInt8}{r:List UInt8}(h:s.data.toList=c::r):s[0]?=some c:=by
 have e:s.data[0]?=some c:=by rw[<- Array.getElem?_toList,h];rfl
 obtain⟨b,w⟩:=Array.getElem?_eq_some_iff.1 e;rw[getElem?_pos s 0 (by simpa using b)];exact congrArg some w
def zg(s:ByteArray)(F:s.size<2^60):Qb S 196 #[.string s] (λ v U'=>v=.bool (Qu s)/\U'=U) U:=by
 refine Qb.pure' (Qb.of (args:=[_]) M0 Qe S1 ?_);have w:s.size=s.data.toList.length:=by rw[Array.length_toList];rfl
 refine⟨GN.any,(Wz _ _ _ _).mono ?_⟩;rintro v U'⟨rfl,rfl⟩-
 conv=>whnf
 apply Q7<;>intro e
 .have hb:Ws (s.size:Int) 1 10=true:=by simpa using e
  cases h:s.data.toList with
  |nil=>rw[w,h]at hb;simp[Ws]at hb
  |cons c r=>
   have E:Qu s=(!(decide ((c.toNat:Int)<97))&&!(decide ((c.toNat:Int) > 122))&&!((c::r).any Hp)):=by unfold Qu;rw[hb,h];rfl
   refine⟨0,c,⟨rfl,NX h⟩,?_⟩
   repeat refine⟨rfl,?_⟩
   conv=>whnf
   apply Q7<;>intro e
   .have h1:decide ((c.toNat:Int)<97)=false:=by simpa using e
    refine⟨0,c,⟨rfl,NX h⟩,?_⟩
    repeat refine⟨rfl,?_⟩
    conv=>whnf
    apply Qd<;>intro e
    .repeat refine⟨rfl,?_⟩
     conv=>whnf
     exact⟨by rw[E,e];simp,Qa.le.lg (.refl _)⟩
    .conv=>whnf
     refine yb uE vT tx rfl λ b cap cs fr z B=>?_;refine⟨M1.any,(Cw (some ⟨b,0,none⟩) s.size cap (c::r) (by rw[w,h]) (λ i x G=>⟨_,rfl,rfl,?_⟩) F).mono ?_⟩
     .rw[Qp];refine⟨rfl,.inl ⟨cs,5,fr,.inl (by simp[JF]),?_⟩⟩;have:=B i x (by rw[<- Array.getElem?_toList,h];exact G);simpa using this
     rintro v U''⟨rfl,rfl⟩-
     repeat refine⟨rfl,?_⟩
     refine⟨?_,(P1 z).lg⟩;show Value.bool _=_;rw[E,h1,e];simp
   .have h1:decide ((c.toNat:Int)<97)=true:=by simpa using e
    repeat refine⟨rfl,?_⟩
    conv=>whnf
    exact⟨by rw[E,h1];rfl,Qa.le.lg (.refl _)⟩
 .have hb:Ws (s.size:Int) 1 10=false:=by simpa using e
  repeat refine⟨rfl,?_⟩
  conv=>whnf
  exact⟨by unfold Qu;rw[hb];rfl,Qa.le.lg (.refl _)⟩
end Go.Proofs
namespace Go.TM
variable{T:Type}{U:Qa T}
def Df{v:Value}{l:List Int}{M₀:List Qw}(h:Acc 3 1 v (l.map λ n=>.int .i64 n) U.M M₀):∃a cap,v=.slice a l.length cap/\Z0 U a l.length l:=by
 obtain⟨a,len,cap,rfl,B,K⟩:=h.src;simp at B;subst B;refine⟨a,cap,rfl,rfl,λ i x E=>?_⟩;rcases h with⟨z,e,_⟩|⟨b,c,len,w,z,e,H,I,G,F⟩
 .rw[map_eq_nil_iff]at e;subst e;simp at E
 .cases z;refine⟨_,rfl,rfl,?_⟩;rw[Qp];exact⟨rfl,.inl ⟨c,3,(0,0),.inr (by rw[G];exact mem_cons_self ..),by simpa using F i (.int .i64 x) (by simp[E])⟩⟩
end Go.TM
namespace Go.Proofs
open Go.TM
variable{T:Type}{S:TM.Sys prog T}{U:Qa T}
attribute [local irreducible] Qb Zh Wh
def HA:Xh prog 22 3 1:=.of K1
def V7:prog.underlying 22=some (.slice 3):=K1
def FF(a:Option Addr)(len cap:Nat)(l:List Int)(B:Z0 U a len l)(K:len<=1000000) :
  Qb S 103 #[.slice a len cap] (λ v U'=>Acc 3 1 v (l.map λ n=>.int .i64 n) U'.M U.M/\(∀x o,U.I x=some o->U'.I x=some o)/\U'.tok=U.tok) U:=by
 refine Qb.of (args:=[_]) PZ Qe S1 ?_;have E:=B.1
 conv=>whnf
 refine Y3 V7 rfl ?_
 conv=>whnf
 apply Qd<;>intro H
 .have ha:a=none:=by simpa using H
  subst ha
  have:l=[]:=by
   cases l with
   |nil=>rfl
   |cons x r=>obtain⟨b,h,_⟩:=B.2 0 x rfl;cases h
  subst this
  repeat refine⟨rfl,?_⟩
  conv=>whnf
  exact⟨.nil,λ _ _ h=>h,rfl⟩
 .obtain⟨b,rfl⟩:∃b,a=some b:=by cases a with|none=>cases H|some b=>exact⟨b,rfl⟩
  conv=>whnf
  intro G P;refine⟨_,.refl _,?_⟩
  conv=>whnf
  refine Wy (v:=.slice (some ⟨G,0,none⟩) 0 0) (cs:=[]) (new:=l.map λ n=>.int .i64 n) (M₀:=U.M) HA rfl rfl .empty (.inr ⟨_,rfl,λ i v z=>?_⟩) (by simp[E]) (by simp[Value.single]) S3 λ V M' w _=>?_
  .rw[getElem?_map]at z;cases F:l[i]? with
   |none=>rw[F]at z;cases z
   |some x=>
    rw[F]at z;cases z;obtain⟨N,e,_,L⟩:=B.2 i x F;cases e;rw[Nat.mul_one]at L;exact L.lg (Z2 G _)
  obtain⟨Q,T,tc,rfl,-,-⟩:=Acc.src (U:={ U with M:=M' }) w
  repeat refine⟨rfl,?_⟩
  conv=>whnf
  exact⟨by simpa using w,λ _ _ h=>h,rfl⟩
end Go.Proofs
namespace Go.TM
variable{T:Type}{U:Qa T}
def Zl{b:Nat}{c:Array Value}{t:TypeId}{Q:Qa T->Prop}(w:U.free b)(h:∀e,U.le e->Zf e b c->Q e):∃e,Qx (U.put b (.cells c t)) e/\Q e:=
 ⟨_,Wi (b:=b) (M':=U.M) (Perm.refl _),h _ (P1 w) Zf.new⟩
def Gd{b:Nat}{c:Array Value}{t:TypeId}{vs:List Value}{Q:Qa T->Prop}(e:c.size=vs.length)(z:∀v∈vs,v.single=true)(h:Q (U.put b (.cells vs.toArray t))) :
  ZB ⟨b,0,none⟩ vs 0 (λ U'=>∃w,Qx U' w/\Q w) (U.put b (.cells c t)):=by
 refine GT vs 0 c _ rfl z O1 ?_;rw[KM e];exact⟨_,.refl _,h⟩
def dD{b i:Nat}{c:Array Value}{t:TypeId}{v:Value}{Q:Qa T->Prop}(w:U.free b)(B:i<c.size)(z:v.single=true)(h:∀e,U.le e->Zf e b (c.setIfInBounds i v)->Q e) :
  ZB ((Addr.mk b 0 none).add i) [v] 0 (λ U'=>∃e,Qx U' e/\Q e) (U.put b (.cells c t)):=by
 rw[Qp];refine GT [v] 0 c _ rfl (by simpa using z) S3 ?_;simp only[JW,Nat.zero_add,Nat.add_zero];exact Zl w h
def K5{α:Type}{l l':List α}{i:Nat}{x y:α}(b:l[i]?=some x)(w:l'[i]?=some y)(h:l.take i=l'.take i)(e:x=y):l.take (i+1)=l'.take (i+1):=by
 rw[Z3 b,Z3 w,h,e]
def YU{α:Type}{l l':List α}{i:Nat}{x y:α}(b:l[i]?=some x)(h:l'[i]?=some y)(e:x≠y):l≠l':=by
 rintro rfl;exact e (Option.some.inj (b.symm.trans h))
end Go.TM
namespace Go.Proofs
open Go.TM
variable{T:Type}{S:TM.Sys prog T}{U:Qa T}
attribute [local irreducible] Qb Zh Wh
def PC(a a':Option Addr)(len cap b z:Nat)(l l':List Int)(L:Z0 U a len l)(F:Z0 U a' b l')(M:len<2^60) :
  Qb S 26 #[.slice a len cap,.slice a' b z] (λ v U'=>v=.bool (decide (l=l'))/\U'=U) U:=by
 refine Qb.pure' (Qb.of (args:=[_,_]) GL Qe S1 ?_);have T:=L.1;have V:=F.1
 repeat refine⟨rfl,?_⟩
 conv=>whnf
 apply Qd<;>intro B
 .have hne:len≠b:=by intro e;subst e;simp at B
  repeat refine⟨rfl,?_⟩
  refine⟨?_,(Qa.le.refl _).lg⟩;rw[decide_eq_false (λ e=>hne (by rw[<- T,<- V,e]))]
 have H:len=b:=Int.ofNat.inj (by simpa using B:(len:Int)=b);subst H;refine⟨Nat,λ i=>[(0,.slice a len cap),(1,.slice a' len z),(5,.int .i64 i)],λ i U'=>U.le U'/\i<=len/\l.take i=l'.take i,λ i=>len-i,0,T1,⟨.refl _,O1,rfl⟩,?_⟩;rintro i f X⟨h,Z,E⟩
 repeat refine⟨rfl,?_⟩
 conv=>whnf
 apply Qd<;>intro B
 .have hlt:i<len:=by simpa using B
  obtain⟨Q,x,N,rfl,-,W⟩:=(L.lg h.lg).at hlt;obtain⟨G,y,P,rfl,-,K⟩:=(F.lg h.lg).at hlt;have I:Ze (i+1):=I1
  refine⟨Q,i,⟨rfl,rfl,hlt⟩,_,W,G,i,⟨rfl,rfl,hlt⟩,_,K,?_⟩
  conv=>whnf
  intro Y w _
  repeat refine⟨rfl,?_⟩
  conv=>whnf
  apply Qd<;>intro B
  .have hne:x≠y:=by simpa using B
   repeat refine⟨rfl,?_⟩
   conv=>whnf
   exact⟨by rw[decide_eq_false (YU N P hne)],(h.trans w).lg⟩
  .have hxy:x=y:=by simpa using B
   refine⟨I,?_⟩
   conv=>whnf
   exact⟨rfl,i+1,T1,⟨h.trans w,O1,K5 N P E hxy⟩,L1⟩
 .have hge:len<=i:=by simpa using B
  rw[take_of_length_le O1,take_of_length_le O1]at E
  repeat refine⟨rfl,?_⟩
  conv=>whnf
  exact⟨by rw[decide_eq_true E],h.lg⟩
def Znk(a:Option Addr)(len cap:Nat)(l:List Int)(w:Z0 U a len l)(z:len<2^60)(n:Int) :
  Qb S 52 #[.slice a len cap,.int .i64 n] (λ v U'=>v=.bool (l.contains n)/\U'=U) U:=by
 refine Qb.of (args:=[_,_]) tR Qe S1 ?_
 repeat refine⟨rfl,?_⟩
 refine⟨Nat,λ i=>[(0,.slice a len cap),(1,.int .i64 n),(5,.int .i64 i)],λ i U'=>U'=U/\i<=len/\n∉l.take i,λ i=>len-i,0,T1,⟨rfl,O1,S1⟩,?_⟩;rintro i f _⟨rfl,H,b⟩
 repeat refine⟨rfl,?_⟩
 conv=>whnf
 apply Qd<;>intro h
 .have hlt:i<len:=by simpa using h
  obtain⟨E,x,B,rfl,G,F⟩:=w.at hlt;refine⟨E,i,⟨rfl,rfl,hlt⟩,_,F,?_⟩
  repeat refine⟨rfl,?_⟩
  conv=>whnf
  apply Qd<;>intro h
  .repeat refine⟨rfl,?_⟩
   conv=>whnf
   have e:x=n:=by simpa using h
   refine⟨?_,rfl⟩;have:n∈l:=e▸mem_of_getElem? B;simp[this]
  .have e:x≠n:=by simpa using h
   refine⟨I1,?_⟩;refine⟨rfl,i+1,T1,⟨rfl,O1,?_⟩,L1⟩;rw[Z3 B];simp[b,Ne.symm e]
 .have hge:len<=i:=by simpa using h
  repeat refine⟨rfl,?_⟩
  refine⟨?_,rfl⟩;have:l.take i=l:=take_of_length_le (by rw[w.1];exact hge);rw[this]at b;simp[b]
end Go.Proofs
namespace Go.TM
variable{T:Type}{U:Qa T}
def HS(l:List Int)(i j:Nat):Prop:=(∀p q x y,p<q->q<=i->p≠j->q≠j->l[p]?=some x->l[q]?=some y->x<=y)/\(∀q x y,j<q->q<=i->l[j]?=some x->l[q]?=some y->x<=y)
def Xv(l:List Int)(i:Nat):Prop:=∀p q x y,p<q->q<i->l[p]?=some x->l[q]?=some y->x<=y
def HS.start{l:List Int}{i:Nat}(h:Xv l i):HS l i i:=
 ⟨λ p q x y b e _ B w z=>h p q x y b O1 w z,λ q x y b e=>O1⟩
def HS.done{l:List Int}{i j:Nat}(h:HS l i j)(I:j<=i)(G:j=0\/∃x y,l[j]?=some x/\l[j-1]?=some y/\y<=x):Xv l (i+1):=by
 intro p q x y b K w B;by_cases e:q=j
 .subst e;rcases G with G|⟨L,H,F,z,E⟩
  .omega
  .rw[F]at B;cases B;by_cases e':p=q-1
   .subst e';rw[z]at w;cases w;exact E
   .have:=h.1 p (q-1) x H O1 O1 O1 O1 w z;omega
 .by_cases e':p=j
  .subst e';exact h.2 q x y b O1 w B
  .exact h.1 p q x y b O1 e' e w B
def HS.step{l:List Int}{i j:Nat}{x y:Int}(h:HS l i j)(N:j<=i)(M:0<j)(I:l[j]?=some x)(K:l[j-1]?=some y)(L:x<y):HS ((l.set j y).set (j-1) x) i (j-1):=by
 have z:j<l.length:=(List.getElem?_eq_some_iff.1 I).1
 have get:∀k,((l.set j y).set (j-1) x)[k]?=if k=j-1 then some x else if k=j then some y else l[k]?:=by
  intro k;rw[getElem?_set,getElem?_set];by_cases e:j-1=k
  .subst e;rw[if_pos rfl,if_pos S3,if_pos rfl]
  .have e2:¬k=j-1:=λ h=>e h.symm;rw[if_neg e,if_neg e2];by_cases e':j=k
   .subst e';rw[if_pos rfl,if_pos z,if_pos rfl]
   .have e3:¬k=j:=λ h=>e' h.symm;rw[if_neg e',if_neg e3]
 refine⟨λ p q u v E F B G w b=>?_,λ q u v F H w b=>?_⟩
 .rw[get,if_neg B]at w;rw[get,if_neg G]at b;by_cases e:p=j
  .subst e;rw[if_pos rfl]at w;cases w;rw[if_neg O1]at b;exact h.1 (p-1) q y v O1 F O1 O1 K b
  .rw[if_neg e]at w;by_cases e':q=j
   .subst e';rw[if_pos rfl]at b;cases b;exact h.1 p (q-1) u y O1 O1 O1 O1 w K
   .rw[if_neg e']at b;exact h.1 p q u v E F e e' w b
 .rw[get,if_pos rfl]at w;cases w;rw[get,if_neg O1]at b;by_cases e:q=j
  .subst e;rw[if_pos rfl]at b;cases b;omega
  .rw[if_neg e]at b;exact h.2 q x v O1 H I b
end Go.TM
namespace Go.Proofs
open Go.TM
variable{T:Type}{S:TM.Sys prog T}{U:Qa T}
attribute [local irreducible] Qb Zh Wh
def An(n:Int):Qb S 173 #[.int .i64 n] (λ v U'=>v=.bool false/\U'=U) U:=by
 refine Qb.pure' (Qb.of (args:=[_]) LX Qe S1 ?_)
 repeat refine⟨rfl,?_⟩
 conv=>whnf
 exact⟨S1,(Qa.le.refl _).lg⟩
def R1(a b:Int):Qb S 163 #[.int .i64 a,.int .i64 b] (λ v U'=>v=.bool (decide (a<b))/\U'=U) U:=by
 refine Qb.pure' (Qb.of (args:=[_,_]) LV Qe S1 ?_);refine⟨LX.any,(An a).mono ?_⟩;rintro _ U'⟨rfl,rfl⟩-
 repeat refine⟨rfl,?_⟩
 conv=>whnf
 exact(Qa.le.refl _).lg
def dz{s:ByteArray}{n:Nat}{K:UInt8->Prop}(h:n<s.size)(e:∀c,K c):∃(j:Nat)(b:UInt8),((n:Int)=j/\s[j]?=some b)/\K b:=
 ⟨n,_,⟨rfl,getElem?_pos s n h⟩,e _⟩
def Ra(n:Nat)(w:n<256):Qb S 167 #[.int .u64 n] (λ v U'=>(∃m,v=.int .i64 m)/\U'=U) U:=by
 refine Qb.pure' (Qb.of (args:=[_]) LW Qe S1 ?_)
 repeat refine⟨rfl,?_⟩
 conv=>whnf
 apply Qd<;>intro b
 .simp at b;omega
 repeat refine⟨rfl,?_⟩
 conv=>whnf
 apply Qd<;>intro b
 .simp at b;omega
 repeat refine⟨rfl,?_⟩
 conv=>whnf
 apply Qd<;>intro b
 .simp at b;omega
 conv=>whnf
 have z:IntKind.wrap .u8 (n:Int)=n:=by
  have h:(2:Int)^8=256:=D1
  simp only[IntKind.wrap,IntKind.bits,IntKind.signed,Bool.false_and,h];simp;omega
 rw[z];refine dz (by exact w) λ c=>?_;have b:=c.toNat_lt;have e:IntKind.wrap .i64 (c.toNat:Int)=c.toNat:=G7 I1
 conv=>whnf
 rw[e];refine⟨I1,?_⟩
 conv=>whnf
 exact⟨⟨_,rfl⟩,(Qa.le.refl _).lg⟩
end Go.Proofs
namespace Go.TM
variable{T:Type}{U:Qa T}
def O9{b k:Nat}{c:Array Value}{e:TypeId}{v:Value}{M₀:List Qw}(w:U.M=.obj b (.cells c e (0,0))::M₀)(h:c[k]?=some v):U.sees ((Addr.mk b 0 none).add (k*1)) v:=by
 rw[Nat.mul_one,Qp];exact⟨rfl,.inl ⟨c,e,(0,0),.inr (by rw[w];exact mem_cons_self ..),by simpa using h⟩⟩
def Xv.le{l:List Int}{i j:Nat}(h:Xv l i)(e:j<=i):Xv l j:=λ p q x y b w=>h p q x y b O1
def Ge(c:Array Value)(l:List Int):Prop:=∀(k:Nat)(x:Int),l[k]?=some x->c[k]?=some (.int .i64 x)
def Ge.set{c:Array Value}{l:List Int}(h:Ge c l)(w:l.length<=c.size)(i:Nat)(x:Int):Ge (c.setIfInBounds i (.int .i64 x)) (l.set i x):=by
 intro k y b;rw[getElem?_set]at b;by_cases e:i=k
 .subst e;rw[if_pos rfl]at b;split at b
  .cases b;rw[Array.getElem?_setIfInBounds_self_of_lt O1]
  .cases b
 .rw[if_neg e]at b;rw[Array.getElem?_setIfInBounds_ne e];exact h k y b
def yv{l:List Int}{j:Nat}{x y:Int}(z:0<j)(h:l[j]?=some x)(w:l[j-1]?=some y):((l.set j y).set (j-1) x).Perm l:=by
 obtain⟨b,rfl⟩:=List.getElem?_eq_some_iff.1 h;obtain⟨e,rfl⟩:=List.getElem?_eq_some_iff.1 w;exact set_set_perm b e
end Go.TM
namespace Go.Proofs
open Go.TM
variable{T:Type}{S:TM.Sys prog T}{U:Qa T}
attribute [local irreducible] Qb Zh Wh
def zN(b cap:Nat)(l:List Int)(H:Array Value)(M₀:List Qw)(ab:U.M=.obj b (.cells H 3 (0,0))::M₀)(ai:l.length<=cap)(af:H.size=cap)(ad:Ge H l)(hn:l.length<2^40) :
  Qb S 157 #[.slice (some ⟨b,0,none⟩) l.length cap,.int .i64 0,.int .i64 l.length] (λ _ U'=>(∀x o,U.I x=some o->U'.I x=some o)/\U'.tok=U.tok/\∃l' c',l'.Perm l/\Xv l' l.length/\U'.M=.obj b (.cells c' 3 (0,0))::M₀/\c'.size=cap/\Ge c' l') U:=by
 refine Qb.of (args:=[_,_,_]) KV Qe S1 ?_
 repeat refine⟨rfl,?_⟩
 refine⟨I1,?_⟩
 refine⟨Nat×List Int×Array Value,λ y=>[(0,.slice (some ⟨b,0,none⟩) l.length cap),(1,.int .i64 0),(2,.int .i64 l.length),(6,.int .i64 y.1)],
  λ y U'=>(∀x o,U.I x=some o->U'.I x=some o)/\U'.tok=U.tok/\U'.M=.obj b (.cells y.2.2 3 (0,0))::M₀/\y.2.2.size=cap/\Ge y.2.2 y.2.1/\y.2.1.Perm l/\Xv y.2.1 y.1/\1<=y.1/\y.1<2^41,
  λ y=>l.length-y.1,(1,l,H),T1,⟨λ _ _ h=>h,rfl,ab,af,ad,.refl _,λ p q _ _ h1 h2=>O1,by simp only;omega,by simp only;omega⟩,?_⟩
 rintro⟨i,e,c⟩f U1⟨W,X,K,F,w,E,V,G,ah⟩;simp only at K F w E V G ah
 repeat refine⟨rfl,?_⟩
 conv=>whnf
 apply Qd<;>intro P
 .have hlt:i<l.length:=by simpa using P
  have ae:Ze (i+1):=I1
  refine⟨Nat×List Int×Array Value,λ y=>[(0,.slice (some ⟨b,0,none⟩) l.length cap),(1,.int .i64 0),(2,.int .i64 l.length),(6,.int .i64 i),(7,.int .i64 y.1)],
   λ y U'=>(∀x o,U.I x=some o->U'.I x=some o)/\U'.tok=U.tok/\U'.M=.obj b (.cells y.2.2 3 (0,0))::M₀/\y.2.2.size=cap/\Ge y.2.2 y.2.1/\y.2.1.Perm l/\HS y.2.1 i y.1/\y.1<=i,
   λ y=>y.1,(i,e,c),T1,⟨W,X,K,F,w,E,.start V,by simp only;omega⟩,?_⟩
  rintro⟨j,e,c⟩f U2⟨W,X,K,F,w,E,N,hj⟩;simp only at K F w E N hj;have aj:=E.length_eq
  repeat refine⟨rfl,?_⟩
  conv=>whnf
  apply Q7<;>intro P
  .have h0:0<j:=by simp at P;omega
   have Y:e[j]?=some (e[j]' O1):=S1
   generalize e[j]' O1=x at Y;have Z:e[j-1]?=some (e[j-1]' O1):=S1
   generalize e[j-1]' O1=y at Z;have G:Ze ((j:Int)-1):=I1
   have L:(j:Int)-1=((j-1:Nat):Int):=O1
   repeat refine⟨rfl,?_⟩
   refine⟨_,j,⟨rfl,rfl,O1⟩,_,O9 K (w j x Y),?_⟩
   repeat refine⟨rfl,?_⟩
   refine⟨G,_,j-1,⟨rfl,L,O1⟩,_,O9 K (w (j-1) y Z),?_⟩
   conv=>whnf
   intro U3 B _;have z:=B.own.trans K;refine⟨LV.any,(R1 x y).go λ _=>?_⟩
   repeat refine⟨rfl,?_⟩
   conv=>whnf
   apply Qd<;>intro P
   .have hxy:x<y:=of_decide_eq_true P;refine⟨λ U'=>(∀x o,U.I x=some o->U'.I x=some o)/\U'.tok=U.tok/\U'.M=.obj b (.cells (c.setIfInBounds j (.int .i64 y)) 3 (0,0))::M₀,λ U U'⟨a,b,c⟩T=>⟨λ x o h=>T.imm x o (a x o h),T.tok.trans b,T.own.trans c⟩,G,G,_,j-1,⟨rfl,L,O1⟩,_,O9 z (w (j-1) y Z),_,j,⟨rfl,rfl,O1⟩,_,O9 z (w j x Y),_,j,⟨rfl,rfl,O1⟩,?_⟩
    conv=>whnf
    intro U4 Q _;refine⟨⟨rfl,?_⟩,λ U5 hG=>?_⟩
    .show ZB ((Addr.mk b 0 none).add (j*1)) [.int .i64 y] 0 _ _;rw[Nat.mul_one];exact Px [] (Q.own.trans z) O1 rfl ⟨rfl,_,.refl _,λ x o h=>Q.imm x o (B.imm x o (W x o h)),Q.tok.trans (B.tok.trans X),rfl⟩
    obtain⟨aa,ag,ac⟩:=hG;refine⟨_,j-1,⟨rfl,L,O1⟩,rfl,?_⟩;show ZB ((Addr.mk b 0 none).add ((j-1)*1)) [.int .i64 x] 0 _ _;rw[Nat.mul_one];refine Px [] ac S3 rfl ?_;refine⟨G,?_⟩
    conv=>whnf
    exact⟨rfl,(j-1,(e.set j y).set (j-1) x,(c.setIfInBounds j (.int .i64 y)).setIfInBounds (j-1) (.int .i64 x)),⟨rfl,rfl,rfl,rfl,by rw[<- L];rfl,trivial⟩,⟨aa,ag,rfl,by simpa using F,(w.set O1 j y).set S3 (j-1) x,(yv h0 Y Z).trans E,N.step hj h0 Y Z hxy,by simp only;omega⟩,by show j-1<j;omega⟩
   .have hxy:¬x<y:=of_decide_eq_false P;refine⟨ae,?_⟩
    conv=>whnf
    exact⟨rfl,(i+1,e,c),T1,⟨λ x o h=>B.imm x o (W x o h),B.tok.trans X,z,F,w,E,N.done hj (.inr ⟨x,y,Y,Z,O1⟩),by simp only;omega,by simp only;omega⟩,L1⟩
  .have h0:j=0:=by simp at P;omega
   conv=>whnf
   intro U3 B _;have z:=B.own.trans K
   repeat refine⟨rfl,?_⟩
   refine⟨ae,?_⟩
   conv=>whnf
   exact⟨rfl,(i+1,e,c),T1,⟨λ x o h=>B.imm x o (W x o h),B.tok.trans X,z,F,w,E,N.done hj (.inl h0),by simp only;omega,by simp only;omega⟩,L1⟩
 .have hge:l.length<=i:=by simpa using P
  repeat refine⟨rfl,?_⟩
  conv=>whnf
  exact⟨W,X,e,c,E,V.le hge,K,F,w⟩
def zh:Qb S 157 #[.slice none 0 0,.int .i64 0,.int .i64 (0:Nat)] (λ _ U'=>U'=U) U:=by
 refine(Qb.pure' (Q:=λ _=>True) (Qb.of (args:=[_,_,_]) KV Qe S1 ?_)).mono λ _ _ h=>h.2
 repeat refine⟨rfl,?_⟩
 refine⟨I1,?_⟩;refine⟨Unit,λ _=>[(2,.int .i64 (0:Nat)),(6,.int .i64 1)],λ _ U'=>U'=U,λ _=>0,(),T1,rfl,?_⟩;rintro _ f _ rfl
 repeat refine⟨rfl,?_⟩
 conv=>whnf
 exact⟨trivial,(Qa.le.refl _).lg⟩
def qU(n:Nat)(b:n<256):Qb S 149 #[.int .u64 n] (λ v U'=>(∃m,v=.int .i64 m)/\U'=U) U:=by
 refine Qb.pure' (Qb.of (args:=[_]) LU Qe S1 ?_);refine⟨LW.any,(Ra n b).mono ?_⟩;rintro _ U'⟨⟨m,rfl⟩,rfl⟩-
 repeat refine⟨rfl,?_⟩
 conv=>whnf
 exact⟨⟨_,rfl⟩,(Qa.le.refl _).lg⟩
def AH(v:Value)(l:List Int)(M₀:List Qw)(m:Int)(L:Acc 3 1 v (l.map λ n=>.int .i64 n) U.M M₀)(N:l.length<=12) :
  Qb S 148 #[v,.int .i64 0,.int .i64 l.length,.int .i64 m] (λ _ U'=>(∀x o,U.I x=some o->U'.I x=some o)/\U'.tok=U.tok/\∃l',l'.Perm l/\Xv l' l.length/\Acc 3 1 v (l'.map λ n=>.int .i64 n) U'.M M₀) U:=by
 obtain⟨sa,sc,rfl,-⟩:=Df L;refine Qb.of (args:=[_,_,_,_]) LT Qe S1 ?_
 repeat refine⟨rfl,?_⟩
 refine⟨Unit,λ _=>[(0,.slice sa l.length sc),(1,.int .i64 0),(2,.int .i64 l.length),(3,.int .i64 m)],λ _ U'=>U'=U,λ _=>0,(),T1,rfl,?_⟩;rintro _ f U' e;obtain rfl:=e.symm
 repeat refine⟨rfl,?_⟩
 refine⟨I1,?_⟩
 repeat refine⟨rfl,?_⟩
 conv=>whnf
 apply Qd<;>intro W
 .conv=>whnf
  rcases L with⟨B,z,E⟩|⟨b,c,len,cap,B,z,K,h4,E,T⟩
  .rw[map_eq_nil_iff]at z;subst z;cases B;refine⟨KV.any,zh.mono ?_⟩;rintro _ U' e -;obtain rfl:=e.symm
   repeat refine⟨rfl,?_⟩
   conv=>whnf
   exact⟨λ _ _ h=>h,rfl,[],.refl _,λ p q _ _ B z=>by simp at z,.inl ⟨rfl,rfl,E⟩⟩
  .cases B;refine⟨KV.any,(zN b sc l c M₀ E K O1 (λ k x w=>T k _ (by simp[w])) O1).mono ?_⟩;rintro v U'⟨V,Z,l',Q,P,X,F,Y,G⟩-
   repeat refine⟨rfl,?_⟩
   refine⟨V,Z,l',P,X,.inr ⟨b,Q,l.length,sc,rfl,by simp[P.length_eq],K,O1,F,λ k x w=>?_⟩⟩;rw[getElem?_map]at w;cases H:l'[k]? with
   |none=>rw[H]at w;cases w
   |some y=>rw[H]at w;cases w;exact G k y H
 .simp at W;omega
def Ry(v:Value)(l:List Int)(M₀:List Qw)(h:Acc 3 1 v (l.map λ n=>.int .i64 n) U.M M₀)(b:l.length<=12) :
  Qb S 138 #[v] (λ _ U'=>(∀x o,U.I x=some o->U'.I x=some o)/\U'.tok=U.tok/\∃l',l'.Perm l/\Xv l' l.length/\Acc 3 1 v (l'.map λ n=>.int .i64 n) U'.M M₀) U:=by
 obtain⟨sa,sc,rfl,-⟩:=Df h;refine Qb.of (args:=[_]) LS Qe S1 ?_
 have B:IntKind.wrap .u64 (l.length:Int)=l.length:=by
  have w:(2:Int)^64=18446744073709551616:=D1
  simp only[IntKind.wrap,IntKind.bits,IntKind.signed,Bool.false_and,w];simp;omega
 conv=>whnf
 rw[B];refine⟨LU.any,(qU l.length O1).mono ?_⟩;rintro _ U'⟨⟨m,rfl⟩,e⟩-;obtain rfl:=e.symm;refine⟨LT.any,(AH _ l M₀ m h b).mono ?_⟩;rintro v U' z -;cases v <;> (conv=>whnf) <;> exact z
end Go.Proofs
namespace Go.TM
def Np(a b:ByteArray):(a==b)=decide (a=b):=by
 rw[Bool.eq_iff_iff]
 cases a with|mk x=>cases b with|mk y=>
 show(ByteArray.beq ⟨x⟩ ⟨y⟩)=true↔_;simp[ByteArray.beq]
def yw{l:List Int}{i:Nat}{x:Int}(b:l[i]?=some x):(if i+1=0 then none else l[i+1-1]?)=some x:=by simpa using b
def ZT:Nat->List ByteArray->List (ByteArray×Value)
 |_,[]=>[]
 |j,s::l=>(s,.int .i64 j)::ZT (j+1) l
def OP(s:ByteArray):∀(l:List ByteArray)(j i:Nat),if QQ l s then ∃n:Int,(QM s (ZT j l) i).map (·.2)=some (.int .i64 n)else(QM s (ZT j l) i).map (·.2)=none
 |[],_,_=>rfl
 |a::l,j,i=>by
  simp only[ZT,QM,QQ,any_cons];by_cases e:s=a
  .simp[e]
  .rw[if_neg e];have h:=OP s l (j+1) (i+1);simp only[QQ]at h;rw[show decide (a=s)=false from decide_eq_false (Ne.symm e),Bool.false_or];exact h
def AW{s:ByteArray}{l:List ByteArray}(h:QQ l s=true):∃n:Int,lk s (ZT 0 l)=some (.int .i64 n):=by
 have:=OP s l 0 0
 rwa [if_pos h]at this
def AV{s:ByteArray}{l:List ByteArray}(h:QQ l s=false):lk s (ZT 0 l)=none:=by
 have:=OP s l 0 0
 rwa [h]at this
def Nj(s:ByteArray):∀(l:List ByteArray)(j:Nat),QQ l s=false->ZC s (.int .i64 ((j+l.length:Nat):Int)) (ZT j l)=ZT j (l++[s])
 |[],j,_=>rfl
 |a::l,j,h=>by
  simp only[QQ,any_cons,Bool.or_eq_false_iff,decide_eq_false_iff_not]at h;simp only[ZT,cons_append,ZC];rw[if_neg (λ e=>h.1 e.symm),<- Nj s l (j+1) h.2];congr 4;simp;omega
end Go.TM
namespace Go.Proofs
open Go.TM
variable{T:Type}{S:TM.Sys prog T}{U:Qa T}
attribute [local irreducible] Qb Zh Wh
def FO(a:Option Addr)(len cap:Nat)(l:List Int)(F:Z0 U a len l)(K:len<2^60)(n:Nat)(Z:n<2^60) :
  Qb S 195 #[.slice a len cap,.int .i64 n] (λ v U'=>v=.int .i64 (J3 n none l)/\U'=U) U:=by
 refine Qb.of (args:=[_,_]) TS Qe S1 ?_;have V:=F.1
 repeat refine⟨rfl,?_⟩
 refine⟨Nat,λ i=>[(0,.slice a len cap),(1,.int .i64 n),(7,.slice a len cap),(8,.int .i64 len),(9,.int .i64 i)],
  λ i U'=>U'=U/\i<=len/\J3 n none l=J3 n (if i=0 then none else l[i-1]?) (l.drop i),λ i=>len-i,0,T1,⟨rfl,O1,rfl⟩,?_⟩
 rintro i f _⟨rfl,Y,b⟩;have w:Ze ((i:Int)+1):=I1
 have z:Ze ((n:Int)-1):=I1
 repeat refine⟨rfl,?_⟩
 conv=>whnf
 apply Qd<;>intro e
 .have hlt:i<len:=by simpa using e
  obtain⟨H,x,M,rfl,X,W⟩:=F.at hlt;rw[Ww M,Wq]at b;refine⟨H,i,⟨rfl,rfl,hlt⟩,_,W,z,GN.any,(Wz _ _ _ _).mono ?_⟩;rintro v U'⟨rfl,rfl⟩-;cases I:Ws x 0 ((n:Int)-1)with
  |false=>
   rw[I]at b
   repeat refine⟨rfl,?_⟩
   conv=>whnf
   exact⟨by rw[b];rfl,rfl⟩
  |true=>
   rw[if_pos I]at b;have next:J3 n none l=J3 n (some x) (l.drop (i+1))->J3 n none l=J3 n (if i+1=0 then none else l[i+1-1]?) (l.drop (i+1)):=λ h=>by rw[yw M];exact h
   repeat refine⟨rfl,?_⟩
   conv=>whnf
   apply Q7<;>intro e
   .have h0:0<i:=by simpa using e
    obtain⟨y,N⟩:∃y,l[i-1]?=some y:=⟨_,getElem?_eq_getElem O1⟩;rw[if_neg O1,N]at b;have B:Ze ((i:Int)-1):=I1
    have Q:((i:Int)-1)=((i-1:Nat):Int):=O1
    obtain⟨P,y',E,T,L,G⟩:=F.at (show i-1<len by omega);cases T;rw[N]at E;cases E;simp only at b;refine⟨B,H,i-1,⟨rfl,Q,O1⟩,_,G,?_⟩
    repeat refine⟨rfl,?_⟩
    conv=>whnf
    apply Qd<;>intro e
    .have h1:x<=y:=by simpa using e
     repeat refine⟨rfl,?_⟩
     conv=>whnf
     rw[if_pos h1]at b;exact⟨by rw[b],rfl⟩
    .have h1:¬x<=y:=by simpa using e
     rw[if_neg h1]at b;refine⟨w,?_⟩
     conv=>whnf
     exact⟨rfl,i+1,T1,⟨rfl,O1,next b⟩,L1⟩
   .have h0:i=0:=by simp at e;omega
    rw[if_pos h0]at b;simp only at b
    repeat refine⟨rfl,?_⟩
    refine⟨w,?_⟩
    conv=>whnf
    exact⟨rfl,i+1,T1,⟨rfl,O1,next b⟩,L1⟩
 .have hge:len<=i:=by simpa using e
  rw[drop_eq_nil_of_le O1]at b
  repeat refine⟨rfl,?_⟩
  conv=>whnf
  exact⟨by rw[b];rfl,rfl⟩
def Ee:WK T prog 9 Value.string:=by
 refine .simple (d:=.string) K1 rfl (λ k k'=>?_) (λ k=>?_)
 .show some (k==k')=_;rw[Np]
 .simp[Instr.sameBits,Np]
def Mj:prog.underlying 267=some (.map 9 3):=K1
def Gb:Xq prog 3=some (.int .i64 0):=K1
def Il(mb:Nat)(seen:List ByteArray)(s:ByteArray)(z:s.size<2^60)(M₀:List Qw)(b:U.M=.obj mb (Qt Value.string (ZT 0 seen))::M₀) :
  Qb S 193 #[.map (some mb),.string s,.int .i64 seen.length] (λ v U'=>v=.int .i64 (if Qu s then(if QQ seen s then 5 else 0)else 4)/\U'={ U with M:=.obj mb (Qt Value.string (ZT 0 (if Qu s&&!QQ seen s then seen++[s]else seen)))::M₀ }) U:=by
 refine Qb.of (args:=[_,_,_]) TR Qe S1 ?_;refine⟨M0.any,(zg s z).mono ?_⟩;rintro v U'⟨rfl,e⟩-;obtain rfl:=e.symm;cases E:Qu s with
 |false=>
  repeat refine⟨rfl,?_⟩
  conv=>whnf
  show _={ U with M:=.obj mb (Qt Value.string (ZT 0 seen))::M₀ };rw[<- b]
 |true=>
  conv=>whnf
  refine Tm (k:=s) (l:=ZT 0 seen) Ee Mj Gb rfl rfl (.inr (by rw[b];exact mem_cons_self ..)) ?_;cases h:QQ seen s with
  |true=>
   obtain⟨w,B⟩:=AW h;rw[B]
   repeat refine⟨rfl,?_⟩
   conv=>whnf
   show _={ U with M:=.obj mb (Qt Value.string (ZT 0 seen))::M₀ };rw[<- b]
  |false=>
   rw[AV h]
   conv=>whnf
   refine T4 (v:=.int .i64 seen.length) (k:=s) (l:=ZT 0 seen) (M':=.obj mb (Qt Value.string (ZT 0 (seen++[s])))::M₀) Ee Mj rfl rfl rfl (by rw[b,<- Nj s seen 0 h,Nat.zero_add];exact .here) ?_
   repeat refine⟨rfl,?_⟩
   conv=>whnf
   rfl
def zk(h:BH)(b:Bk)(Q:Zp U h b):Qb S 191 #[h.v] (λ v U'=>v=.int .i64 (b.rsF Qu)/\U'=U) U:=by
 refine Qb.pure' (Qb.of (args:=[_]) LY Qe S1 ?_);have L:=Q.rs.1;have aa:=Q.rl
 repeat refine⟨rfl,?_⟩
 conv=>whnf
 intro B U1 F P;have P:Zf U1 B #[.slice h.ra h.rl h.rc,.slice h.ca h.cl h.cc]:=P;refine⟨_,P.sees3 (o:=0) rfl,?_⟩
 repeat refine⟨rfl,?_⟩
 conv=>whnf
 apply Qd<;>intro K
 .have w:b.rs.length > 6:=by rw[L];simp at K;omega
  repeat refine⟨rfl,?_⟩
  conv=>whnf
  exact⟨by unfold Bk.rsF;rw[if_pos w],F.lg⟩
 have w:¬b.rs.length > 6:=by rw[L];simp at K;omega
 have G:b.rsF Qu=XE Qu [] b.rs:=by unfold Bk.rsF;rw[if_neg w]
 rw[G]
 conv=>whnf
 refine PH Value.string λ mb ab=>?_;refine⟨_,Qa.sees.lg (P.sees3 (o:=0) rfl) (Z2 mb _),Nat×List ByteArray,λ y=>[(1,.pointer (some ⟨B,0,none⟩)),(3,.map (some mb)),(15,.slice h.ra h.rl h.rc),(16,.int .i64 h.rl),(17,.int .i64 y.1)],
  λ y U'=>U.lg U'/\U'.M=.obj mb (Qt Value.string (ZT 0 y.2))::U.M/\y.1<=h.rl/\y.2.length=y.1/\XE Qu [] b.rs=XE Qu y.2 (b.rs.drop y.1),
  λ y=>h.rl-y.1,(0,[]),T1,⟨F.lg.trans (Z2 _ _),?_,S1,rfl,S1⟩,?_⟩
 .show _::_=_;rw[F.own];rfl
 rintro⟨i,s⟩f U2⟨E,hM,hi,N,e⟩;simp only at hM hi N e;have W:Ze ((i:Int)+1):=I1
 repeat refine⟨rfl,?_⟩
 conv=>whnf
 apply Qd<;>intro K
 .have hlt:i<h.rl:=by simpa using K
  obtain⟨ad,x,vs,hx,T,ac,rfl,-,Y⟩:=(Q.rs.lg E λ _ _ h=>h).at hlt;rw[Ww hx,XE]at e;have Z:=Q.rn x (mem_of_getElem? hx);refine⟨ad,i,⟨T,rfl,hlt⟩,_,Y 0 _ rfl,?_⟩;subst N;refine⟨TR.any,(Il mb s x Z U.M hM).mono ?_⟩;rintro _ U'⟨rfl,I⟩-;have z:U.lg U':=I▸⟨E.imm,⟨[_],rfl⟩,E.tok⟩;have H:U'.M=.obj mb (Qt Value.string (ZT 0 (if Qu x&&!QQ s x then s++[x]else s)))::U.M:=by rw[I]
  cases X:Qu x with
  |false=>
   rw[X]at e
   repeat refine⟨rfl,?_⟩
   conv=>whnf
   exact⟨by rw[e];rfl,z⟩
  |true=>
   rw[if_pos X]at e;cases V:QQ s x with
   |true=>
    rw[if_pos V]at e
    repeat refine⟨rfl,?_⟩
    conv=>whnf
    exact⟨by rw[e];rfl,z⟩
   |false=>
    rw[V]at e;rw[X,V]at H
    repeat refine⟨rfl,?_⟩
    refine⟨W,rfl,(s.length+1,s++[x]),T1,⟨z,H,by show s.length+1<=h.rl;omega,S1,e⟩,L1⟩
 .have hge:h.rl<=i:=by simpa using K
  rw[drop_eq_nil_of_le O1]at e
  repeat refine⟨rfl,?_⟩
  conv=>whnf
  exact⟨by rw[e];rfl,E⟩
end Go.Proofs
namespace Go.TM
def JB{n:Nat}(h:n<2^63):IntKind.wrap .i64 (n:Int)=n:=by
 have e:(2:Int)^64=18446744073709551616:=D1
 have w:(2:Int)^63=9223372036854775808:=D1
 have b:(2:Nat)^63=9223372036854775808:=D1
 rw[b]at h;simp only[IntKind.wrap,IntKind.bits,IntKind.signed];simp;omega
def GX(n:Nat):BitVec.ofInt 64 (n:Int)=BitVec.ofNat 64 n:=BitVec.ofInt_natCast _ _
def NM{n:Nat}(h:n<60):IntKind.wrap .i64 ((1:Int)*2^(min ((n:Int).toNat) 64))=((1<<<n:Nat):Int):=by
 have b:min ((n:Int).toNat) 64=n:=by rw[Int.toNat_natCast];omega
 have e:(1<<<n:Nat)<2^63:=by rw[Nat.one_shiftLeft];exact Nat.pow_lt_pow_right O1 O1
 have w:(1:Int)*(2:Int)^n=((1<<<n:Nat):Int):=by rw[Nat.one_shiftLeft];simp
 rw[b,w,JB e]
def NU{a b:Nat}(z:a<2^60)(B:b<2^60):IntKind.wrap .i64 ((BitVec.ofInt 64 (a:Int)||| BitVec.ofInt 64 (b:Int)).toNat:Int)=((a||| b:Nat):Int):=by
 have h:(a||| b)<2^60:=Nat.or_lt_two_pow z B;have e:(2:Nat)^60<2^63:=Nat.pow_lt_pow_right O1 O1;have w:(2:Nat)^63<2^64:=Nat.pow_lt_pow_right O1 O1;rw[GX,GX,BitVec.toNat_or,BitVec.toNat_ofNat,BitVec.toNat_ofNat,Nat.mod_eq_of_lt O1,Nat.mod_eq_of_lt O1,JB O1]
def Dr{a b:Nat}(z:a<2^60)(B:b<2^60):IntKind.wrap .i64 ((BitVec.ofInt 64 (a:Int)&&&BitVec.ofInt 64 (b:Int)).toNat:Int)=((a&&&b:Nat):Int):=by
 have h:(a&&&b)<2^60:=Nat.lt_of_le_of_lt Nat.and_le_left z;have e:(2:Nat)^60<2^63:=Nat.pow_lt_pow_right O1 O1;have w:(2:Nat)^63<2^64:=Nat.pow_lt_pow_right O1 O1;rw[GX,GX,BitVec.toNat_and,BitVec.toNat_ofNat,BitVec.toNat_ofNat,Nat.mod_eq_of_lt O1,Nat.mod_eq_of_lt O1,JB O1]
def D6{a b:Nat}(I:a<2^60)(F:b<2^60):(IntKind.wrap .i64 ((BitVec.ofInt 64 (a:Int)&&&~~~BitVec.ofInt 64 (b:Int)).toNat:Int)=0↔∀k,a.testBit k=true->b.testBit k=true):=by
 have G:(2:Nat)^60<2^63:=Nat.pow_lt_pow_right O1 O1;have H:(2:Nat)^63<2^64:=Nat.pow_lt_pow_right O1 O1
 have B:(BitVec.ofNat 64 a&&&~~~BitVec.ofNat 64 b).toNat<2^63:=by
  rw[BitVec.toNat_and];refine Nat.lt_of_le_of_lt Nat.and_le_left ?_;rw[BitVec.toNat_ofNat,Nat.mod_eq_of_lt O1];omega
 rw[GX,GX,JB B];constructor
 .intro h k w
  have z:BitVec.ofNat 64 a&&&~~~BitVec.ofNat 64 b=0#64:=by
   apply BitVec.eq_of_toNat_eq;simpa using h
  have e:k<64:=by
   apply Classical.byContradiction;intro K;have:a<2^k:=Nat.lt_of_lt_of_le I (Nat.pow_le_pow_right O1 O1);rw[Nat.testBit_lt_two_pow this]at w;cases w
  have E:(BitVec.ofNat 64 a&&&~~~BitVec.ofNat 64 b).getLsbD k=false:=by rw[z];simp
  rw[BitVec.getLsbD_and,BitVec.getLsbD_not,BitVec.getLsbD_ofNat,BitVec.getLsbD_ofNat,w]at E;simpa[e]using E
 .intro h
  have z:BitVec.ofNat 64 a&&&~~~BitVec.ofNat 64 b=0#64:=by
   apply BitVec.eq_of_getLsbD_eq;intro k w;rw[BitVec.getLsbD_and,BitVec.getLsbD_not,BitVec.getLsbD_ofNat,BitVec.getLsbD_ofNat];cases F:a.testBit k with
   |false=>simp
   |true=>simp[h k F]
  rw[z];rfl
def Dw{a n:Nat}(h:n<60):Int.fdiv (a:Int) (2^(min ((n:Int).toNat) 64))=((a>>>n:Nat):Int):=by
 have b:min ((n:Int).toNat) 64=n:=by rw[Int.toNat_natCast];omega
 rw[b,Nat.shiftRight_eq_div_pow];have e:((2:Int)^n)=((2^n:Nat):Int):=S1
 rw[e,Int.fdiv_eq_ediv_of_nonneg _ (Int.natCast_nonneg _)];simp
def Gi{a n:Nat}(w:a<2^60)(h:n<60):(IntKind.wrap .i64 ((BitVec.ofInt 64 (Int.fdiv (a:Int) (2^(min ((n:Int).toNat) 64)))&&&BitVec.ofInt 64 1).toNat:Int)==1)=a.testBit n:=by
 have e:a>>>n<2^60:=Nat.lt_of_le_of_lt (Nat.shiftRight_le a n) w;have b:=Dr e (show 1<2^60 by decide);rw[Dw h];rw[show((1:Nat):Int)=1 from rfl]at b;rw[b,Nat.and_one_is_mod];rw[Bool.eq_iff_iff,beq_iff_eq,Nat.testBit];simp only[Nat.one_and_eq_mod_two,bne_iff_ne];omega
def VU{n:Nat}(h:n<60):IntKind.wrap .i64 ((1:Int)*2^(min ((n:Int).toNat) (IntKind.bits .i64)))=((1<<<n:Nat):Int):=NM h
def Dv{a b:Nat}(e:a<2^60)(h:b<2^60):IntKind.wrap .i64 ((BitVec.ofInt (IntKind.bits .i64) (a:Int)||| BitVec.ofInt (IntKind.bits .i64) (b:Int)).toNat:Int)=((a||| b:Nat):Int):=NU e h
def HF{l:List Nat}{m:Nat}(h:∀x∈l,x<m):Jb l<2^m:=by
 apply Nat.lt_pow_two_of_testBit;intro i e;rw[W5,contains_eq_any_beq,any_eq_false];intro x b;have:=h x b;simp;omega
def gR(l:List Nat)(x:Nat):Jb (l++[x])=Jb l||| (1<<<x):=by simp[Jb]
def PP{x m:Nat}(h:x<m):(1<<<x:Nat)<2^m:=by rw[Nat.one_shiftLeft];exact Nat.pow_lt_pow_right O1 h
structure Bk.Low(b:Bk):Prop where
 nc:b.cs.length<=5
 af:∀c∈b.cs,∀n∈c.af,0<=n/\n<b.nc
def Bk.Ok.toLow{b:Bk}(h:b.Ok):b.Low:=⟨h.nc,h.af⟩
def Bk.Low.lt{b:Bk}(h:b.Low){c:Cs}(e:c∈b.cs):∀n∈c.af,0<=n/\n<60:=λ n w=>by
 have:=h.af c e n w;have:=h.nc;unfold Bk.nc at *;omega
def Bk.A_len(b:Bk):b.A.length=b.cs.length:=by simp[Bk.A]
def Bk.aft1_at{b:Bk}{i:Nat}{c:Cs}(h:b.cs[i]?=some c):Jg b.A i=c.af.map Int.toNat:=by
 simp[Jg,Bk.A,getD_eq_getElem?_getD,h]
def toNat_lt{l:List Int}{m:Nat}(h:∀n∈l,0<=n/\n<m):∀x∈l.map Int.toNat,x<m:=by
 intro x e;obtain⟨n,b,rfl⟩:=mem_map.1 e;have:=h n b;omega
def qj{α:Type}(f:α->Nat->α)(a:α)(i:Nat):(range (i+1)).foldl f a=f ((range i).foldl f a) i:=by
 rw[range_succ,foldl_append];rfl
def sK{A:List (List Nat)}{d i m:Nat}(b:d<2^m)(e:i<m):WG A d i<2^m:=by
 unfold WG;split
 .exact Nat.or_lt_two_pow b (PP e)
 .exact b
def UQ{A:List (List Nat)}{m:Nat}:∀(l:List Nat)(d:Nat),(∀i∈l,i<m)->d<2^m->l.foldl (WG A) d<2^m
 |[],_,_,h=>h
 |x::l,d,b,h=>UQ l _ (λ i e=>b i (mem_cons_of_mem _ e)) (sK h (b x (mem_cons_self ..)))
def Bk.dn(b:Bk)(r j:Nat):Nat:=(range j).foldl (WG b.A) (JO b.A r)
def Bk.dn_succ(b:Bk)(r j:Nat):b.dn r (j+1)=WG b.A (b.dn r j) j:=qj _ _ _
def Bk.dn_end(b:Bk)(r:Nat):b.dn r b.cs.length=JO b.A (r+1):=by rw[<- Bk.A_len];rfl
def sL{A:List (List Nat)}(k:Nat):JO A k<2^A.length:=by
 induction k with
 |zero=>exact Nat.two_pow_pos _
 |succ k e=>exact UQ _ _ (λ i b=>mem_range.1 b) e
def Bk.dn_lt{b:Bk}(r:Nat){j:Nat}(h:b.cs.length<=5)(w:j<=b.cs.length):b.dn r j<2^5:=
 UQ _ _ (λ i e=>by have:=mem_range.1 e;omega) (Nat.lt_of_lt_of_le (sL r) (Nat.pow_le_pow_right O1 (by rw[b.A_len];omega)))
end Go.TM
namespace Go.Proofs
open Go.TM
variable{T:Type}{S:TM.Sys prog T}{U:Qa T}
attribute [local irreducible] Qb Zh Wh
def Je(a:Option Addr)(len cap:Nat)(l:List Int)(B:Z0 U a len l)(E:len<2^60)(e:∀n∈l,0<=n/\n<60) :
  Qb S 41 #[.slice a len cap] (λ v U'=>v=.int .i64 (Jb (l.map Int.toNat):Nat)/\U'=U) U:=by
 refine Qb.of (args:=[_]) Hb Qe S1 ?_;have I:=B.1
 repeat refine⟨rfl,?_⟩
 refine⟨Nat,λ i=>[(3,.int .i64 (Jb ((l.take i).map Int.toNat):Nat)),(6,.slice a len cap),(7,.int .i64 len),(8,.int .i64 i)],
  λ i U'=>U'=U/\i<=len,λ i=>len-i,0,T1,⟨rfl,O1⟩,?_⟩
 rintro i f _⟨rfl,N⟩;have h:Ze ((i:Int)+1):=I1
 repeat refine⟨rfl,?_⟩
 conv=>whnf
 apply Qd<;>intro w
 .have hlt:i<len:=by simpa using w
  obtain⟨G,x,F,rfl,M,L⟩:=B.at hlt;have b:=e x (mem_of_getElem? F);obtain⟨k,rfl⟩:=Int.eq_ofNat_of_zero_le b.1;have z:k<60:=O1
  have H:Jb ((l.take i).map Int.toNat)<2^60:=HF (toNat_lt λ n K=>e n (mem_of_mem_take K))
  have key:Value.int .i64 (IntKind.wrap .i64 ((BitVec.ofInt 64 ((Jb ((l.take i).map Int.toNat):Nat):Int)||| BitVec.ofInt 64 (IntKind.wrap .i64 ((1:Int)*2^(min ((k:Int).toNat) 64)))).toNat:Int))=.int .i64 (Jb ((l.take (i+1)).map Int.toNat):Nat):=by
   rw[NM z,NU H (PP z),Z3 F,map_append,map_singleton,Int.toNat_natCast,gR]
  refine⟨G,i,⟨rfl,rfl,hlt⟩,_,L,b.1,?_⟩
  repeat refine⟨rfl,?_⟩
  refine⟨h,?_⟩
  conv=>whnf
  exact⟨rfl,i+1,⟨key,rfl,rfl,rfl,trivial⟩,⟨rfl,O1⟩,L1⟩
 .have hge:len<=i:=by simpa using w
  repeat refine⟨rfl,?_⟩
  conv=>whnf
  exact⟨by rw[take_of_length_le O1],rfl⟩
end Go.Proofs
namespace Go.TM
def D5{d:Nat}{l:List Int}(h:∀n∈l,0<=n/\n<60):(∀k,(Jb (l.map Int.toNat)).testBit k=true->d.testBit k=true)↔((l.map Int.toNat).all λ k=>d.testBit k)=true:=by
 rw[all_eq_true];constructor
 .intro g k hk;exact g k (by rw[W5];simpa using hk)
 .intro g k hk;rw[W5]at hk;exact g k (by simpa using hk)
def Zp.case{T:Type}{U:Qa T}{h:BH}{b:Bk}(k:Zp U h b){i:Nat}(K:i<h.cl) :
  ∃e c ga gl gc aa al ac,b.cs[i]?=some c/\h.ca=some e/\e.spot=none/\Z6 U (e.add (i*4)) [.string c.nm,.int .i64 c.ag,.slice ga gl gc,.slice aa al ac]/\J5 U ga gl c.gs/\gl<2^60/\Z0 U aa al c.af/\al<2^60/\c∈b.cs:=by
 obtain⟨e,c,vs,E,w,B,⟨ga,gl,gc,aa,al,ac,rfl,F,G,H,I⟩,-,z⟩:=k.cs.at K;exact⟨e,c,ga,gl,gc,aa,al,ac,E,w,B,z,F,G,H,I,mem_of_getElem? E⟩
def Zp.right{T:Type}{U:Qa T}{h:BH}{b:Bk}(k:Zp U h b){i:Nat}(F:i<h.rl) :
  ∃e s,b.rs[i]?=some s/\h.ra=some e/\e.spot=none/\U.sees ((e.add (i*1)).add 0) (.string s)/\s∈b.rs:=by
 obtain⟨e,s,vs,E,w,B,rfl,-,z⟩:=k.rs.at F;exact⟨e,s,E,w,B,z 0 _ rfl,mem_of_getElem? E⟩
end Go.TM
namespace Go.Proofs
open Go.TM
variable{T:Type}{S:TM.Sys prog T}{U:Qa T}
attribute [local irreducible] Qb Zh Wh
def FN(h:BH)(b:Bk)(hb:Zp U h b)(Y:b.Low):Qb S 91 #[h.v] (λ v U'=>v=.int .i64 (if Wp b.A then 8 else 0)/\U'=U) U:=by
 refine Qb.pure' (Qb.of (args:=[_]) Sp Qe S1 ?_);have V:=hb.cs.1;have hA:=b.A_len;have h5:=Y.nc
 repeat refine⟨rfl,?_⟩
 conv=>whnf
 intro B U1 L P;have P:Zf U1 B #[.slice h.ra h.rl h.rc,.slice h.ca h.cl h.cc]:=P;refine⟨_,P.sees3 (o:=1) rfl,Nat,λ r=>[(1,.pointer (some ⟨B,0,none⟩)),(3,.int .i64 (JO b.A r:Nat)),(9,.int .i64 h.cl),(10,.int .i64 r)],
  λ r U'=>U1.lg U'/\r<=h.cl,λ r=>h.cl-r,0,T1,⟨(Qa.le.refl _).lg,O1⟩,?_⟩
 rintro r f U2⟨F,hr⟩;have X:Ze ((r:Int)+1):=I1
 repeat refine⟨rfl,?_⟩
 conv=>whnf
 apply Qd<;>intro E
 .have hrt:r<h.cl:=by simpa using E
  refine⟨_,(P.lg F).sees3 (o:=1) rfl,Nat,λ j=>[(1,.pointer (some ⟨B,0,none⟩)),(3,.int .i64 (b.dn r j:Nat)),(9,.int .i64 h.cl),(10,.int .i64 r),(14,.slice h.ca h.cl h.cc),(15,.int .i64 h.cl),(16,.int .i64 j)],
   λ j U'=>U1.lg U'/\j<=h.cl,λ j=>h.cl-j,0,T1,⟨F,O1⟩,?_⟩
  rintro j f U3⟨z,hj⟩;have I:Ze ((j:Int)+1):=I1
  have hd:b.dn r j<2^5:=Bk.dn_lt r h5 O1;have H:b.dn r j<2^60:=Nat.lt_trans hd D1;have w:=b.dn_succ r j
  repeat refine⟨rfl,?_⟩
  conv=>whnf
  apply Qd<;>intro E
  .have hjt:j<h.cl:=by simpa using E
   obtain⟨ad,c,ga,gl,gc,aa,al,ac,hx,aj,au,aq,-,-,ha,ae,Z⟩:=(hb.lg (L.lg.trans z)).case hjt;have K:=Y.lt Z;have ah:=Bk.aft1_at hx;refine⟨ad,j,⟨aj,rfl,hjt⟩,_,⟨rfl,aq⟩,?_⟩
   conv=>whnf
   intro b5 am;refine⟨_,.refl _,rfl,Zu (vs:=[.string c.nm,.int .i64 c.ag,.slice ga gl gc,.slice aa al ac]) am rfl (by simp[Value.single]) λ U4 Q T=>?_⟩;have G:=z.trans Q.lg;refine⟨_,T.sees3 (o:=3) rfl,Hb.any,(Je aa al ac c.af (ha.lg Q.lg) ae K).go λ _=>?_⟩;have ai:Jb (c.af.map Int.toNat)<2^60:=HF (toNat_lt K);have key:_↔(Jg b.A j).all (λ k=>(b.dn r j).testBit k)=true:=(D6 ai H).trans ((D5 K).trans (by rw[ah]))
   repeat refine⟨rfl,?_⟩
   conv=>whnf
   apply Qd<;>intro E
   .have hall:(Jg b.A j).all (λ k=>(b.dn r j).testBit k)=true:=key.1 (eq_of_beq E);have M:WG b.A (b.dn r j) j=b.dn r j||| (1<<<j):=by unfold WG;rw[if_pos hall]
    rw[M]at w;refine⟨O1,?_⟩
    repeat refine⟨rfl,?_⟩
    refine⟨I,?_⟩
    conv=>whnf
    have e2:IntKind.wrap .i64 ((BitVec.ofInt (IntKind.bits .i64) ((b.dn r j:Nat):Int)||| BitVec.ofInt (IntKind.bits .i64) (IntKind.wrap .i64 ((1:Int)*2^(min ((j:Int).toNat) (IntKind.bits .i64))))).toNat:Int)=((b.dn r (j+1):Nat):Int):=by
     rw[VU O1,Dv H (PP O1),<- w]
    exact⟨rfl,j+1,⟨rfl,congrArg (Value.int .i64) e2,rfl,rfl,rfl,rfl,rfl,trivial⟩,⟨G,O1⟩,L1⟩
   .have hall:(Jg b.A j).all (λ k=>(b.dn r j).testBit k)=false:=by
     cases hh:(Jg b.A j).all (λ k=>(b.dn r j).testBit k)with
     |false=>rfl
     |true=>exact absurd (key.2 hh) (ne_of_beq_false E)
    have M:WG b.A (b.dn r j) j=b.dn r j:=by unfold WG;rw[hall];rfl
    rw[M]at w;refine⟨I,?_⟩
    conv=>whnf
    exact⟨rfl,j+1,⟨rfl,congrArg (λ q:Nat=>Value.int .i64 (q:Int)) w.symm,rfl,rfl,rfl,rfl,rfl,trivial⟩,⟨G,O1⟩,L1⟩
  .have hge:h.cl<=j:=by simpa using E
   obtain rfl:j=h.cl:=O1
   have N:b.dn r h.cl=JO b.A (r+1):=by rw[<- V];exact b.dn_end r
   refine⟨X,?_⟩
   conv=>whnf
   exact⟨rfl,r+1,⟨rfl,congrArg (λ q:Nat=>Value.int .i64 (q:Int)) N,rfl,rfl,trivial⟩,⟨z,O1⟩,L1⟩
 .have hge:h.cl<=r:=by simpa using E
  obtain rfl:r=h.cl:=O1
  have e1:IntKind.wrap .i64 ((1:Int)*2^(min ((h.cl:Int).toNat) (IntKind.bits .i64)))=((1<<<h.cl:Nat):Int):=VU O1;have ap:=@PP h.cl 6 O1;have ab:0<1<<<h.cl:=by rw[Nat.one_shiftLeft];exact Nat.two_pow_pos _
  have an:Wp b.A=decide (JO b.A h.cl≠1<<<h.cl-1):=by unfold Wp;rw[hA,V,<- Nat.one_shiftLeft]
  rw[an];generalize(1<<<h.cl:Nat)=q at e1 ap ab
  have W:Ze (IntKind.wrap .i64 ((1:Int)*2^(min ((h.cl:Int).toNat) (IntKind.bits .i64)))-1):=by
   rw[e1];unfold Ze;omega
  refine⟨_,(P.lg F).sees3 (o:=1) rfl,O1,W,?_⟩
  repeat refine⟨rfl,?_⟩
  conv=>whnf
  apply Qd<;>intro E
  .rw[e1]at E
   have ao:JO b.A h.cl≠q-1:=by
    intro e;rw[e]at E;simp at E;omega
   rw[decide_eq_true ao]
   repeat refine⟨rfl,?_⟩
   conv=>whnf
   exact L.lg.trans F
  .rw[e1]at E
   have ak:¬JO b.A h.cl≠q-1:=by
    simp at E;omega
   rw[decide_eq_false ak]
   repeat refine⟨rfl,?_⟩
   conv=>whnf
   exact L.lg.trans F
end Go.Proofs
namespace Go.TM
variable{T:Type}{P:Program}{S:Sys P T}{f:Fm}{K:Value->Qa T->Prop}{U:Qa T}
def TF{t e N len i:Nat}{d:TypeDesc}{k:IntKind}{cs:Array Value}{v:Value}{x y:Operand}{b:TypeInfo}(H:P.underlying t=some (.array len e))(E:P.underlying e=some d)(w:TypeDesc.agg d=false)(F:P.info? e=some b)(z:b.size=1)
  (L:Zo f x=.agg cs) (M:Zo f y=.int k i) (G:i<len) (I:cs[i]?=some v) (h:K v U) :
  OX S (.raw { dst:=none,op:=.index t x y,type:=N,pos := "", after:=#[],guard:=none }) f K U:=by
 intro a' B;simp only[execOp,B,L,M];refine rq ?_;simp only[Instr.index,Qf,asIntOf,Qk,Zk H];rw[if_pos O1];simp only[Qf,Jj F,z,Nat.mul_one,Int.toNat_natCast];simp only[part,Qf,HV E,w,Bool.false_eq_true,if_false,I];exact⟨U,.refl _,h⟩
def Oy:Array Value:=#[.func (.func 191) #[] #[],.func (.func 192) #[] #[],.func (.func 91) #[] #[]]
def WC(U:Qa T):Prop:=Zf U 0 Oy
def WC.lg{U':Qa T}(h:WC U)(k:U.lg U'):WC U':=Zf.lg h k
def Bk.low_of{nameB:ByteArray->Bool}{b:Bk}(h:b.csF nameB=0):b.Low:=by
 unfold Bk.csF at h;split at h
 .cases h
 .exact⟨O1,λ c e=>O8 (OK h c e).2.2⟩
end Go.TM
namespace Go.Proofs
open Go.TM
variable{T:Type}{S:TM.Sys prog T}{U:Qa T}
attribute [local irreducible] Qb Zh Wh
def qX(h:BH)(b:Bk)(Y:Zp U h b)(a:Option Addr)(len cap:Nat)(F:List (List Int))(hl:J5 U a len F)(aa:len<2^60) :
  Qb S 194 #[h.v,.slice a len cap] (λ v U'=>v=.int .i64 (ZY b.nr F)/\U'=U) U:=by
 refine Qb.pure' (Qb.of (args:=[_,_]) L_ Qe S1 ?_);have I:=hl.1;have W:=Y.rs.1;have K:=Y.rl;have T:b.nr=(h.rl:Int):=by unfold Bk.nr;rw[W]
 repeat refine⟨rfl,?_⟩
 conv=>whnf
 intro B X w N;have N:Zf X B #[.slice h.ra h.rl h.rc,.slice h.ca h.cl h.cc]:=N
 repeat refine⟨rfl,?_⟩
 conv=>whnf
 apply Qd<;>intro E
 .have z:F.length > 3:=by rw[I];simp at E;omega
  repeat refine⟨rfl,?_⟩
  conv=>whnf
  exact⟨by unfold ZY;rw[if_pos z],w.lg⟩
 have z:¬F.length > 3:=by rw[I];simp at E;omega
 have G:ZY b.nr F=X5 b.nr F:=by unfold ZY;rw[if_neg z]
 rw[G]
 refine⟨Nat,λ i=>[(2,.pointer (some ⟨B,0,none⟩)),(11,.slice a len cap),(12,.int .i64 len),(13,.int .i64 i)],
  λ i U'=>U'=X/\i<=len/\X5 b.nr F=X5 b.nr (F.drop i),λ i=>len-i,0,T1,⟨rfl,O1,rfl⟩,?_⟩
 rintro i f U'⟨hU,hi,e⟩;obtain rfl:=hU.symm;have Q:Ze ((i:Int)+1):=I1
 repeat refine⟨rfl,?_⟩
 conv=>whnf
 apply Qd<;>intro E
 .have hlt:i<len:=by simpa using E
  obtain⟨ad,g,vs,hx,rfl,ab,⟨ga,gl,gc,rfl,Z,P⟩,-,V⟩:=Qy.at (hl.lg w.lg) hlt;have H:=Z.1;rw[Ww hx,X5]at e;refine⟨ad,i,⟨rfl,rfl,hlt⟩,_,V 0 _ rfl,?_⟩
  repeat refine⟨rfl,?_⟩
  conv=>whnf
  apply Qd<;>intro E
  .have M:g.length > 3:=by rw[H];simp at E;omega
   repeat refine⟨rfl,?_⟩
   conv=>whnf
   exact⟨by rw[e,if_pos M],w.lg⟩
  have M:¬g.length > 3:=by rw[H];simp at E;omega
  rw[if_neg M]at e;refine⟨_,N.sees3 (o:=0) rfl,TS.any,(FO ga gl gc g Z P h.rl K).go λ _=>?_⟩;rw[T]at e ⊢;by_cases L:J3 (h.rl:Int) none g=0
  .rw[if_pos L]at e;rw[L]
   repeat refine⟨rfl,?_⟩
   refine⟨Q,?_⟩
   conv=>whnf
   exact⟨rfl,i+1,T1,⟨rfl,O1,e⟩,L1⟩
  .rw[if_neg L]at e
   repeat refine⟨rfl,?_⟩
   conv=>whnf
   apply Qd<;>intro E
   .repeat refine⟨rfl,?_⟩
    conv=>whnf
    exact⟨by rw[e],w.lg⟩
   .exact absurd (by simpa using E) L
 .have hge:len<=i:=by simpa using E
  rw[drop_eq_nil_of_le O1]at e
  repeat refine⟨rfl,?_⟩
  conv=>whnf
  exact⟨by rw[e];rfl,w.lg⟩
def zH(h:BH)(b:Bk)(N:Zp U h b):Qb S 192 #[h.v] (λ v U'=>v=.int .i64 (b.csF Qu)/\U'=U) U:=by
 refine Qb.pure' (Qb.of (args:=[_]) LZ Qe S1 ?_);have P:=N.cs.1;have ah:=N.cl;have ax:=N.rs.1;have az:=N.rl;have ak:b.nr=(h.rl:Int):=by unfold Bk.nr;rw[ax]
 have av:b.nc=(h.cl:Int):=by unfold Bk.nc;rw[P]
 repeat refine⟨rfl,?_⟩
 conv=>whnf
 intro B U1 z W;have W:Zf U1 B #[.slice h.ra h.rl h.rc,.slice h.ca h.cl h.cc]:=W;refine⟨_,W.sees3 (o:=1) rfl,?_⟩
 repeat refine⟨rfl,?_⟩
 conv=>whnf
 apply Qd<;>intro L
 .have H:b.cs.length > 5:=by rw[P];simp at L;omega
  repeat refine⟨rfl,?_⟩
  conv=>whnf
  exact⟨by unfold Bk.csF;rw[if_pos H],z.lg⟩
 have H:¬b.cs.length > 5:=by rw[P];simp at L;omega
 have V:b.csF Qu=WM Qu h.rl h.cl [] b.cs:=by unfold Bk.csF;rw[if_neg H,ak,av]
 rw[V]
 conv=>whnf
 refine PH Value.string λ mb a0=>?_;refine⟨_,Qa.sees.lg (W.sees3 (o:=1) rfl) (Z2 mb _),Nat×List ByteArray,λ y=>[(1,.pointer (some ⟨B,0,none⟩)),(3,.map (some mb)),(17,.slice h.ca h.cl h.cc),(18,.int .i64 h.cl),(19,.int .i64 y.1)],
  λ y U'=>U1.lg U'/\U'.M=.obj mb (Qt Value.string (ZT 0 y.2))::U.M/\y.1<=h.cl/\y.2.length=y.1/\WM Qu h.rl h.cl [] b.cs=WM Qu h.rl h.cl y.2 (b.cs.drop y.1),
  λ y=>h.cl-y.1,(0,[]),T1,⟨Z2 _ _,?_,S1,rfl,S1⟩,?_⟩
 .show _::_=_;rw[z.own];rfl
 rintro⟨i,s⟩f U2⟨Q,hM,hi,am,e⟩;simp only at hM hi am e;have au:Ze ((i:Int)+1):=I1
 have ai:Ze ((h.rl:Int)-1):=I1
 repeat refine⟨rfl,?_⟩
 conv=>whnf
 apply Qd<;>intro L
 .have hlt:i<h.cl:=by simpa using L
  obtain⟨ad,c,ga,gl,gc,aa,al,ac,hx,ao,a1,aw,hg,aq,ha,an,aj⟩:=(N.lg z.lg).case hlt;rw[Ww hx,WM]at e;have ay:=N.cn c aj;subst am;refine⟨ad,s.length,⟨ao,rfl,hlt⟩,_,⟨rfl,aw.lg Q⟩,?_⟩
  conv=>whnf
  intro b5 ap;refine⟨_,.refl _,rfl,Zu (vs:=[.string c.nm,.int .i64 c.ag,.slice ga gl gc,.slice aa al ac]) ap rfl (by simp[Value.single]) λ U3 ab E=>?_⟩;have Z:U3.M=_:=ab.own.trans hM;have K:=Q.trans ab.lg;refine⟨_,E.sees3 (o:=0) rfl,TR.any,(Il mb s c.nm ay U.M Z).mono ?_⟩;rintro _ U4⟨rfl,F⟩-;have T:U3.frz.lg U4:=F▸⟨λ _ _ h=>h,⟨_,(append_nil _).symm⟩,rfl⟩;have w:U1.lg U4:=F▸⟨K.imm,⟨[_],by rw[z.own];rfl⟩,K.tok⟩;have Y:U4.M=.obj mb (Qt Value.string (ZT 0 (if Qu c.nm&&!QQ s c.nm then s++[c.nm]else s)))::U.M:=by rw[F]
  have X:∀x o,U3.I x=some o->U4.I x=some o:=T.imm;have E:=E.imI X;have G:=W.lg w;clear F;cases hn:Qu c.nm with
  |false=>
   rw[hn]at e
   repeat refine⟨rfl,?_⟩
   conv=>whnf
   exact⟨by rw[e];rfl,z.lg.trans w⟩
  |true=>
  rw[if_pos hn]at e;cases hh:QQ s c.nm with
  |true=>
   rw[if_pos hh]at e
   repeat refine⟨rfl,?_⟩
   conv=>whnf
   exact⟨by rw[e];rfl,z.lg.trans w⟩
  |false=>
  rw[hh]at e;simp only[Bool.false_eq_true,if_false]at e;rw[hn,hh]at Y
  repeat refine⟨rfl,?_⟩
  refine⟨_,E.sees3 (o:=1) rfl,_,G.sees3 (o:=0) rfl,ai,GN.any,(Wz _ _ _ _).mono ?_⟩;rintro v U'⟨rfl,rfl⟩-;cases ae:Ws c.ag 0 ((h.rl:Int)-1)with
  |false=>
   rw[ae]at e
   repeat refine⟨rfl,?_⟩
   conv=>whnf
   exact⟨by rw[e];rfl,z.lg.trans w⟩
  |true=>
  rw[if_pos ae]at e;refine⟨_,⟨rfl,G.rd⟩,?_⟩;refine⟨_,E.sees3 (o:=2) rfl,L_.any,(qX h b (N.lg (z.lg.trans w)) ga gl gc c.gs (hg.lg w) aq).mono ?_⟩;rintro _ U''⟨rfl,F⟩-;obtain rfl:=F.symm;rw[ak];by_cases hz:ZY (h.rl:Int) c.gs=0
  .rw[if_pos hz]at e;rw[hz]
   repeat refine⟨rfl,?_⟩
   refine⟨_,E.sees3 (o:=3) rfl,_,G.sees3 (o:=1) rfl,TS.any,(FO aa al ac c.af (ha.lg w) an h.cl ah).mono ?_⟩;rintro _ U''⟨rfl,F⟩-;obtain rfl:=F.symm;by_cases hy:J3 (h.cl:Int) none c.af=0
   .rw[if_pos hy]at e;rw[hy]
    repeat refine⟨rfl,?_⟩
    refine⟨au,rfl,(s.length+1,s++[c.nm]),T1,⟨w,Y,by show s.length+1<=h.cl;omega,S1,e⟩,L1⟩
   .rw[if_neg hy]at e
    repeat refine⟨rfl,?_⟩
    conv=>whnf
    apply Qd<;>intro L
    .repeat refine⟨rfl,?_⟩
     conv=>whnf
     exact⟨by rw[e],z.lg.trans w⟩
    .exact absurd (by simpa using L) hy
  .rw[if_neg hz]at e
   repeat refine⟨rfl,?_⟩
   conv=>whnf
   apply Qd<;>intro L
   .repeat refine⟨rfl,?_⟩
    conv=>whnf
    exact⟨by rw[e],z.lg.trans w⟩
   .exact absurd (by simpa using L) hz
 .have hge:h.cl<=i:=by simpa using L
  rw[drop_eq_nil_of_le O1]at e
  repeat refine⟨rfl,?_⟩
  conv=>whnf
  exact⟨by rw[e];rfl,z.lg.trans Q⟩
def KF:prog.underlying 151=some (.array 3 150):=K1
def NR(P:Program)(t:TypeId):Bool:=match P.underlying t with|some d=>!TypeDesc.agg d&&(match P.info? t with|some b=>decide (b.size=1)|none=>false)|none=>false
def sD{P:Program}{t:TypeId}(h:NR P t=true):∃d b,P.underlying t=some d/\TypeDesc.agg d=false/\P.info? t=some b/\b.size=1:=by
 unfold NR at h;split at h
 .rename_i d hd;rw[Bool.and_eq_true]at h;obtain⟨w,e⟩:=h;split at e
  .rename_i b hi;exact⟨d,b,hd,by simpa using w,hi,by simpa using e⟩
  .cases e
 .cases h
def tP:∃d b,prog.underlying 150=some d/\TypeDesc.agg d=false/\prog.info? 150=some b/\b.size=1:=sD K1
def OY(h:BH)(b:Bk)(N:Zp U h b)(X:WC U):Qb S 45 #[h.v] (λ v U'=>v=.int .i64 (b.flaw Qu)/\U'=U) U:=by
 refine Qb.pure' (Qb.of (args:=[_]) Yf Qe S1 ?_);obtain⟨T,Z,P,F,E,H⟩:=tP
 repeat refine⟨rfl,?_⟩
 conv=>whnf
 intro B Q e L;have L:Zf Q B #[.slice h.ra h.rl h.rc,.slice h.ca h.cl h.cc]:=L;refine⟨_,⟨rfl,(X.lg e.lg).reads (vs:=Oy.toList) (λ k v Y=>by simpa using Y)⟩,?_⟩
 refine⟨Nat,λ i=>[(1,.pointer (some ⟨B,0,none⟩)),(6,.agg Oy),(7,.int .i64 i)],
  λ i U'=>U'=Q/\i<=3/\(0<i->b.rsF Qu=0)/\(1<i->b.csF Qu=0)/\(2<i->Wp b.A=false),λ i=>3-i,0,T1,⟨rfl,O1,O1,O1,O1⟩,?_⟩
 rintro i f U'⟨W,hi,K,M,V⟩;obtain rfl:=W.symm;have G:Ze ((i:Int)+1):=I1
 repeat refine⟨rfl,?_⟩
 conv=>whnf
 apply Qd<;>intro I
 .have hlt:i<3:=by simp at I;omega
  obtain rfl|rfl|rfl:i=0\/i=1\/i=2:=O1
  .conv=>whnf
   refine TF (v:=.func (.func 191) #[] #[]) KF P F E H rfl rfl O1 rfl ?_;refine⟨_,⟨rfl,L.rd⟩,?_⟩;refine⟨LY.any,(zk h b (N.lg e.lg)).mono ?_⟩;rintro _ U''⟨rfl,z⟩-;obtain rfl:=z.symm;by_cases w:b.rsF Qu=0
   .rw[w]
    repeat refine⟨rfl,?_⟩
    refine⟨G,?_⟩
    conv=>whnf
    exact⟨rfl,1,T1,⟨rfl,O1,λ _=>by first|exact w|rfl,O1,O1⟩,D1⟩
   .repeat refine⟨rfl,?_⟩
    conv=>whnf
    apply Qd<;>intro I
    .repeat refine⟨rfl,?_⟩
     conv=>whnf
     exact⟨by unfold Bk.flaw;rw[if_neg w],e.lg⟩
    .exact absurd (by simpa using I) w
  .conv=>whnf
   refine TF (v:=.func (.func 192) #[] #[]) KF P F E H rfl rfl O1 rfl ?_;refine⟨_,⟨rfl,L.rd⟩,?_⟩;refine⟨LZ.any,(zH h b (N.lg e.lg)).mono ?_⟩;rintro _ U''⟨rfl,z⟩-;obtain rfl:=z.symm;by_cases w:b.csF Qu=0
   .rw[w]
    repeat refine⟨rfl,?_⟩
    refine⟨G,?_⟩
    conv=>whnf
    exact⟨rfl,2,T1,⟨rfl,O1,λ _=>K O1,λ _=>by first|exact w|rfl,O1⟩,D1⟩
   .repeat refine⟨rfl,?_⟩
    conv=>whnf
    apply Qd<;>intro I
    .repeat refine⟨rfl,?_⟩
     conv=>whnf
     exact⟨by unfold Bk.flaw;rw[if_pos (K O1),if_neg w],e.lg⟩
    .exact absurd (by simpa using I) w
  .conv=>whnf
   refine TF (v:=.func (.func 91) #[] #[]) KF P F E H rfl rfl O1 rfl ?_;refine⟨_,⟨rfl,L.rd⟩,?_⟩;refine⟨Sp.any,(FN h b (N.lg e.lg) (Bk.low_of (M O1))).mono ?_⟩;rintro _ U''⟨rfl,z⟩-;obtain rfl:=z.symm;cases w:Wp b.A with
   |false=>
    repeat refine⟨rfl,?_⟩
    refine⟨G,?_⟩
    conv=>whnf
    exact⟨rfl,3,T1,⟨rfl,O1,λ _=>K O1,λ _=>M O1,λ _=>by first|exact w|rfl⟩,D1⟩
   |true=>
    repeat refine⟨rfl,?_⟩
    conv=>whnf
    exact⟨by unfold Bk.flaw;rw[if_pos (K O1),if_pos (M O1),w];first|done|rfl,e.lg⟩
 .have hge:i=3:=by simp at I;omega
  repeat refine⟨rfl,?_⟩
  conv=>whnf
  exact⟨by unfold Bk.flaw;rw[if_pos (K O1),if_pos (M O1),V O1];rfl,e.lg⟩
end Go.Proofs
namespace Go.TM
variable{T:Type}{P:Program}{S:Sys P T}{f:Fm}{K:Value->Qa T->Prop}{U:Qa T}
def gF{t e V n len cap:Nat}{a:Option Addr}{x F G:Operand}{z:TypeInfo}(Q:P.underlying t=some (.slice e))(B:P.info? e=some z)(T:Zo f x=.slice a len cap)(L:Zo f F=.int .i64 n)(M:Zo f G=.int .i64 n)(N:n<=cap)
  (E:∀w,a=some w->w.spot=none) (h:K (.slice a n n) U) :
  OX S (.raw { dst:=none,op:=.slice t x none (some F) (some G),type:=V,pos := "", after:=#[],guard:=none }) f K U:=by
 intro a' I;simp only[execOp,I,T,L,M,Option.map_some,Option.map_none];refine rq ?_;simp only[Instr.sliceAt,Instr.slice,Qf,Zk Q,Instr.sliceBounds];refine Gc rfl N ?_;refine Gc rfl (Nat.le_refl _) ?_;simp only[Qk,Jj B];refine⟨U,.refl _,?_⟩
 have H:(if n=0 then a else a.map λ x=>x.add (0*z.size))=a:=by
  split
  .rfl
  .cases a with
   |none=>rfl
   |some w=>
    have:=E w rfl;obtain⟨b,o,s⟩:=w;cases this;simp only[Option.map_some,Nat.zero_mul];rw[Qp];rfl
 rw[H];exact h
def Ru{t e M n N:Nat}{b o:Nat}{x B:Operand}{w:TypeInfo}(I:P.underlying t=some (.array N e))(z:P.info? e=some w)(L:Zo f x=.pointer (some ⟨b,o,none⟩))(G:Zo f B=.int .i64 n)(H:n<=N)
  (h:K (.slice (some ⟨b,o,none⟩) n N) U) :
  OX S (.raw { dst:=none,op:=.slice t x none (some B) none,type:=M,pos := "", after:=#[],guard:=none }) f K U:=by
 intro a' F;simp only[execOp,F,L,G,Option.map_some,Option.map_none];refine rq ?_;simp only[Instr.sliceAt,Qf,Zk I,Instr.sliceBounds,Instr.sureAddr,Qk];refine Gc rfl H ?_;simp only[Qk,Jj z];refine⟨U,.refl _,?_⟩
 have E:(if N=0 then(⟨b,o,none⟩:Addr)else(⟨b,o,none⟩:Addr).add (0*w.size))=⟨b,o,none⟩:=by
  split
  .rfl
  .rw[Nat.zero_mul,Qp];rfl
 rw[E];exact h
def QN(s:Nat->Bool):List Value:=[.bool (s 0),.bool (s 1),.bool (s 2),.bool (s 3),.bool (s 4),.bool (s 5)]
def GG{j:Nat}(h:j<6):j=0\/j=1\/j=2\/j=3\/j=4\/j=5:=O1
def OQ(s:Nat->Bool){j:Nat}(h:j<6):(QN s)[j]?=some (.bool (s j)):=by
 rcases GG h with rfl|rfl|rfl|rfl|rfl|rfl <;> rfl
def Ff(s:Nat->Bool){j:Nat}(h:j<6)(v:Bool):(QN s).toArray.setIfInBounds j (.bool v)=(QN (Hx s j v)).toArray:=by
 rcases GG h with rfl|rfl|rfl|rfl|rfl|rfl <;> rfl
def Lq{s r:Nat->Bool}(h:∀j,j<6->s j=r j):QN s=QN r:=by
 unfold QN;simp only[h 0 O1,h 1 O1,h 2 O1,h 3 O1,h 4 O1,h 5 O1]
def Tn(s:Nat->Bool):∀v∈QN s,v.single=true:=by simp[QN,Value.single]
def S4(s:Nat->Bool):∀v∈QN s,Xf .bool v=true:=by simp[QN,Xf]
def MA{s r:Nat->Bool}:ZG (QN s) (QN r)=true↔∀j,j<6->s j=r j:=by
 simp only[QN,ZG,Gp,Bool.and_eq_true,beq_iff_eq,and_true];constructor
 .rintro⟨h0,h1,h2,h3,h4,h5⟩ j hj;rcases GG hj with rfl|rfl|rfl|rfl|rfl|rfl <;> assumption
 .exact λ h=>⟨h 0 O1,h 1 O1,h 2 O1,h 3 O1,h 4 O1,h 5 O1⟩
abbrev DF(s:Nat->Bool):Value:=.agg #[.bool (s 0),.bool (s 1),.bool (s 2),.bool (s 3),.bool (s 4),.bool (s 5)]
def eB:Array Value:=#[.bool false,.bool false,.bool false,.bool false,.bool false,.bool false]
def W8(s:List Bool):Nat->Bool:=λ j=>s.getD j false
def dB(n:Nat):W8 (replicate n true)=λ j=>decide (j<n):=by
 funext j;simp only[W8,getD_eq_getElem?_getD,getElem?_replicate];by_cases h:j<n <;> simp[h]
def dC(s:List Bool)(i:Nat)(v:Bool)(b:i<s.length):Hx (W8 s) i v=W8 (s.set i v):=by
 funext k;simp only[Hx,W8,getD_eq_getElem?_getD,getElem?_set];by_cases h:k=i
 .subst h;simp[b]
 .rw[if_neg h,if_neg (Ne.symm h)]
def J4(w:List Bool):Nat:=Jb ((range w.length).filter λ i=>w.getD i false)
def Vm(w:List Bool)(k:Nat):(J4 w).testBit k=w.getD k false:=by
 rw[J4,W5,Bool.eq_iff_iff,contains_iff_mem,mem_filter,mem_range];constructor
 .exact λ h=>h.2
 .intro h;refine⟨?_,h⟩;apply Classical.byContradiction;intro b;rw[getD_eq_getElem?_getD,getElem?_eq_none O1]at h;cases h
def uw(w:List Bool)(i:Nat)(b:i<w.length):J4 (w.set i true)=J4 w||| (1<<<i):=by
 apply Nat.eq_of_testBit_eq;intro k;rw[Nat.testBit_or,Vm,Vm,VA];simp only[getD_eq_getElem?_getD,getElem?_set];by_cases h:k=i
 .subst h;simp[b]
 .rw[if_neg (Ne.symm h)];simp[h]
def DQ(n:Nat):J4 (replicate n false)=0:=by
 apply Nat.eq_of_testBit_eq;intro k;rw[Vm,Nat.zero_testBit,getD_eq_getElem?_getD,getElem?_replicate];by_cases h:k<n <;> simp[h]
def OT(w:List Bool){m:Nat}(h:w.length<=m):J4 w<2^m:=
 HF λ x b=>by
  have:=mem_range.1 (mem_filter.1 b).1;omega
end Go.TM
namespace Go.Proofs
open Go.TM
variable{T:Type}{S:TM.Sys prog T}{U:Qa T}
attribute [local irreducible] Qb Zh Wh
def Im(h:BH)(b:Bk)(X:Zp U h b)(h6:b.rs.length<=6):Qb S 47 #[h.v] (λ v U'=>v=DF (W8 b.ini.1)/\U'=U) U:=by
 refine Qb.pure' (Qb.of (args:=[_]) SG Qe S1 ?_);have L:=X.rs.1;have w:W8 b.ini.1=λ j=>decide (j<h.rl):=by rw[<- L];exact dB _
 rw[w]
 repeat refine⟨rfl,?_⟩
 conv=>whnf
 intro B U₀ K H;have H:Zf U₀ B #[.slice h.ra h.rl h.rc,.slice h.ca h.cl h.cc]:=H
 conv=>whnf
 intro G Y;refine⟨_,.refl _,?_⟩
 conv=>whnf
 intro E Z;refine⟨_,.refl _,_,(H.lg ((Z2 G _).trans (Z2 E _))).sees3 (o:=0) rfl,Nat,λ i=>[(2,.pointer (some ⟨G,0,none⟩)),(3,.pointer (some ⟨E,0,none⟩)),(8,.int .i64 h.rl),(9,.int .i64 i)],
  λ i U'=>U₀.I=U'.I/\U₀.tok=U'.tok/\U'.M=.obj E (.cells (QN λ j=>decide (j<i)).toArray 103 (0,0))::.obj G (.cells eB 103 (0,0))::U₀.M/\i<=h.rl,λ i=>h.rl-i,0,T1,⟨rfl,rfl,rfl,O1⟩,?_⟩
 rintro i f V⟨N,T,F,hi⟩;have z:U₀.lg V:=⟨λ b o h=>by rw[<- N];exact h,⟨[_,_],F⟩,T.symm⟩
 repeat refine⟨rfl,?_⟩
 conv=>whnf
 apply Qd<;>intro P
 .have hlt:i<h.rl:=by simpa using P
  have e:i<6:=O1
  refine⟨i,⟨rfl,e⟩,rfl,?_⟩;show ZB ((Addr.mk E 0 none).add (i*1)) [.bool true] 0 _ _;rw[Nat.mul_one];refine Px [] F e rfl ?_
  have W:(QN λ j=>decide (j<i)).toArray.setIfInBounds i (.bool true)=(QN λ j=>decide (j<i+1)).toArray:=by
   rw[Ff _ e];congr 1;refine Lq λ k _=>?_;unfold Hx;by_cases Q:k=i
   .simp[Q]
   .rw[if_neg Q];have:(k<i)=(k<i+1):=propext O1;simp[this]
  rw[W];refine⟨I1,?_⟩;refine⟨rfl,i+1,T1,⟨N,T,rfl,O1⟩,L1⟩
 .have hge:i=h.rl:=by simp at P;omega
  subst hge;refine⟨_,⟨rfl,Q9 [] F⟩,rfl,VV (vs:=QN λ j=>decide (j<h.rl)) [_] F rfl (Tn _) ?_⟩;refine⟨_,⟨rfl,Q9 [_] rfl⟩,?_⟩
  conv=>whnf
  exact⟨rfl,(K.lg.trans ⟨z.imm,⟨[_,_],rfl⟩,z.tok⟩)⟩
def zm(b:Nat)(s:Nat->Bool)(h:Zf U b (QN s).toArray)(r:Nat)(e:r<6):Qb S 109 #[.int .i64 r,.pointer (some ⟨b,0,none⟩)] (λ v U'=>v=.bool (!s r)/\U'=U) U:=by
 refine Qb.of (args:=[_,_]) LL Qe S1 ?_
 repeat refine⟨rfl,?_⟩
 refine⟨r,⟨rfl,e⟩,.bool (s r),?_,?_⟩
 .rw[Nat.mul_one,Qp];exact h.sees (by rw[Nat.zero_add,getElem?_toArray];exact OQ s e)
 repeat refine⟨rfl,?_⟩
 conv=>whnf
def Cx(a:Option Addr)(len cap:Nat)(l:List Int)(h:Z0 U a len l)(e:len<2^60)(g:FuncId)(first b:Array Value)(p:Int->Bool)(w:WJ S U g first b (λ n=>.int .i64 n) l p) :
  Qb S 108 #[.slice a len cap,.func (.func g) first b] (λ v U'=>v=.bool (l.any p)/\U'=U) U:=by
 refine Qb.of (args:=[_,_]) LK Qe S1 ?_;refine⟨LR.any,(Rp (λ n=>.int .i64 n) a len cap l h.1 h.2 (λ x=>⟨_,_,rfl⟩) e g first b p w).mono ?_⟩;rintro v U'⟨rfl,rfl⟩-
 repeat refine⟨rfl,?_⟩
 refine⟨?_,rfl⟩;show Value.bool _=_;rw[Vv]
def ze(b:Nat)(s:Nat->Bool)(z:Zf U b (QN s).toArray)(a:Option Addr)(len cap:Nat)(l:List Int)(B:Z0 U a len l)(e:len<2^60)(h:∀n∈l,0<=n/\n<6) :
  Qb S 107 #[.slice a len cap,.pointer (some ⟨b,0,none⟩)] (λ v U'=>v=.bool (l.all λ r=>s r.toNat)/\U'=U) U:=by
 refine Qb.of (args:=[_,_]) LJ Qe S1 ?_;refine⟨LK.any,(Cx a len cap l B e 109 #[] #[_] (λ r=>!s r.toNat) ⟨LL.any,λ n w=>?_⟩).mono ?_⟩
 .obtain⟨k,rfl⟩:=Int.eq_ofNat_of_zero_le (h n w).1;exact zm b s z k (by have:=(h _ w).2;omega)
 rintro v U'⟨rfl,rfl⟩-
 repeat refine⟨rfl,?_⟩
 refine⟨?_,rfl⟩;show Value.bool _=_;congr 1;rw[Bool.eq_iff_iff];simp
def Rq(a:Option Addr)(len cap:Nat)(l:List (List Int))(F:J5 U a len l)(K:len<2^60)(g:FuncId)(first w:Array Value)(p:List Int->Bool)
  (N:(prog.funcs[g]?.any λ fd=>fd.body.isSome&&fd.name != "runtime.NumGoroutine")=true)
  (M:∀x∈l,∀a' b h,Z0 U a' b x->b<2^60->Qb S g (first.toList++[Value.slice a' b h]++w.toList).toArray (λ v U'=>v=.bool (p x)/\U'=U) U) :
  Qb S 136 #[.slice a len cap,.func (.func g) first w] (λ v U'=>v=.int .i64 (XC p l)/\U'=U) U:=by
 refine Qb.of (args:=[_,_]) LQ Qe S1 ?_;have V:=F.1
 repeat refine⟨rfl,?_⟩
 refine⟨Nat,λ i=>[(0,.slice a len cap),(1,.func (.func g) first w),(6,.slice a len cap),(7,.int .i64 len),(8,.int .i64 i)],
  λ i U'=>U'=U/\i<=len/\∀x∈l.take i,p x=false,λ i=>len-i,0,T1,⟨rfl,O1,S1⟩,?_⟩
 rintro i f _⟨rfl,T,e⟩
 repeat refine⟨rfl,?_⟩
 conv=>whnf
 apply Qd<;>intro E
 .have hlt:i<len:=by simpa using E
  obtain⟨L,x,vs,G,rfl,Q,⟨a',b,h,rfl,H,I⟩,W,P⟩:=Qy.at F hlt;have z:=M x (mem_of_getElem? G) a' b h H I;refine⟨L,i,⟨rfl,rfl,hlt⟩,_,P 0 _ rfl,N,z.mono ?_⟩;rintro v U'⟨rfl,rfl⟩-
  conv=>whnf
  apply Qd<;>intro E
  .repeat refine⟨rfl,?_⟩
   conv=>whnf
   exact⟨by rw[PV G E e],rfl⟩
  .refine⟨I1,?_⟩;refine⟨rfl,i+1,T1,⟨rfl,O1,?_⟩,L1⟩;intro y B;rw[Z3 G,mem_append]at B;rcases B with B|B
   .exact e y B
   .simp at B;subst B;exact E
 .have hge:len<=i:=by simpa using E
  repeat refine⟨rfl,?_⟩
  refine⟨?_,rfl⟩;rw[take_of_length_le O1]at e;rw[PU e]
def Cy(a:Option Addr)(len cap:Nat)(l:List (List Int))(z:J5 U a len l)(w:len<2^60)(g:FuncId)(first b:Array Value)(p:List Int->Bool)
  (E:(prog.funcs[g]?.any λ fd=>fd.body.isSome&&fd.name != "runtime.NumGoroutine")=true)
  (B:∀x∈l,∀a' e h,Z0 U a' e x->e<2^60->Qb S g (first.toList++[Value.slice a' e h]++b.toList).toArray (λ v U'=>v=.bool (p x)/\U'=U) U) :
  Qb S 106 #[.slice a len cap,.func (.func g) first b] (λ v U'=>v=.bool (l.any p)/\U'=U) U:=by
 refine Qb.of (args:=[_,_]) LI Qe S1 ?_;refine⟨LQ.any,(Rq a len cap l z w g first b p E B).mono ?_⟩;rintro v U'⟨rfl,rfl⟩-
 repeat refine⟨rfl,?_⟩
 refine⟨?_,rfl⟩;show Value.bool _=_;rw[Vv]
def RD(P nm:Value)(ag:Value)(gc:Nat)(af:Value)(ga:Option Addr)(gl:Nat)(gs:List (List Int))(hg:J5 U ga gl gs)(I:gl<2^60)(s:Nat->Bool)(Y:∀g∈gs,∀n∈g,0<=n/\n<6)(h:BH)(hH:P=h.v)(c:ByteArray)(hN:nm=.string c)(n:Int)(Z:ag=.int .i64 n)(L:Option Addr)(N M:Nat)(hF:af=.slice L N M) :
  Qb S 78 #[P,.agg #[nm,ag,.slice ga gl gc,af],DF s] (λ v U'=>v=.bool (gs.any λ g=>g.all λ r=>s r.toNat)/\U'=U) U:=by
 subst hH hN Z hF;refine Qb.pure' (Qb.of (args:=[_,_,_]) EA Qe S1 ?_)
 repeat refine⟨rfl,?_⟩
 conv=>whnf
 intro B3 U1 G aa
 conv=>whnf
 intro Q T H b;have b:Zf T Q #[.string c,.int .i64 n,.slice ga gl gc,.slice L N M]:=b
 conv=>whnf
 intro K V z e;have e:Zf V K (QN s).toArray:=e;have B:=(G.trans H).trans z;refine⟨_,(b.le z).sees3 (o:=2) rfl,LI.any,(Cy ga gl gc gs (hg.lg B.lg) I 107 #[] #[_] (λ g=>g.all λ r=>s r.toNat) LJ.any λ x hx a' E w W X=>ze K s e a' E w x W X (Y x hx)).mono ?_⟩;rintro v U'⟨rfl,F⟩-;obtain rfl:=F.symm
 repeat refine⟨rfl,?_⟩
 conv=>whnf
 exact B.lg
end Go.Proofs
namespace Go.TM
variable{T:Type}{P:Program}{S:Sys P T}{U:Qa T}
def Z6.sub{b o n:Nat}{vs:List Value}(h:Z6 U ⟨b,0,none⟩ vs):Z6 U ((Addr.mk b 0 none).add o) ((vs.drop o).take n):=by
 intro i v e
 have w:vs[o+i]?=some v:=by
  have z:=(List.getElem?_eq_some_iff.1 e).1;rw[getElem?_take]at e;split at e
  .rwa [getElem?_drop]at e
  .cases e
 have:=h (o+i) v w;rw[Qp]at this ⊢;rw[Qp]
 rwa [Nat.zero_add,<- Nat.zero_add o,Nat.add_assoc,Nat.zero_add]at this ⊢
def WQ{b i:Nat}{e:TypeId}{c:Array Value}{v:Value}{M₀:List Qw}{Q:Qa T->Prop}(X:List Qw)(z:U.M=X++.obj b (.cells c e (0,0))::M₀)(B:i<c.size)(E:v.single=true)
  (h:∀w:Qa T,w.I=U.I->w.tok=U.tok->w.M=X++.obj b (.cells (c.setIfInBounds i v) e (0,0))::M₀->Q w):ZB ((Addr.mk b 0 none).add i) [v] 0 (λ U'=>∃w,Qx U' w/\Q w) U:=
 Px X z B E (h _ rfl rfl rfl)
def Jt{b:Nat}{e:TypeId}{c:Array Value}{vs:List Value}{M₀:List Qw}{Q:Qa T->Prop}(X:List Qw)(B:U.M=X++.obj b (.cells c e (0,0))::M₀)(z:c.size=vs.length)(E:∀v∈vs,v.single=true)
  (h:∀w:Qa T,w.I=U.I->w.tok=U.tok->w.M=X++.obj b (.cells vs.toArray e (0,0))::M₀->Q w):ZB ⟨b,0,none⟩ vs 0 (λ U'=>∃w,Qx U' w/\Q w) U:=
 VV X B z E (h _ rfl rfl rfl)
def Qb.out{f:FuncId}{args:Array Value}{R:Value->Nat->Obj->Prop}(h:Qb S f args (λ v U'=>∃b o A,R v b o/\U'.M=.obj b o::(A++U.M)/\(∀x B,U.I x=some B->U'.I x=some B)/\U'.tok=U.tok) U) :
  Qb S f args (λ v U'=>∃b o,R v b o/\U'.I b=some o/\U.le U') U:=by
 refine h.sep λ v U' G⟨b,o,A,e,z,F,H⟩=>?_;have E:Qx U' { U' with M:=.obj b o::U.M }:=Z5 (by rw[z];exact(sublist_append_right A U.M).cons₂ _)
 have w:WN { U' with M:=.obj b o::U.M }:=λ r e=>G r (by rw[z];rcases mem_cons.1 e with rfl|e;{simp};simp[e])
 obtain⟨U'',K,L,N⟩:=MF (U':={ U' with M:=.obj b o::U.M }) w rfl F rfl H;exact⟨U'',E.trans K,b,o,e,N,L⟩
abbrev Gn(a:Option Addr)(len cap:Nat)(s:Nat->Bool)(w:Nat):Value:=.agg #[.slice a len cap,.bool (s 0),.bool (s 1),.bool (s 2),.bool (s 3),.bool (s 4),.bool (s 5),.int .i64 w]
def QT(v:Value)(s:Nat->Bool)(w:Nat):List Value:=[v,.bool (s 0),.bool (s 1),.bool (s 2),.bool (s 3),.bool (s 4),.bool (s 5),.int .i64 w]
def yf(v:Value)(s:Nat->Bool)(w:Nat){j:Nat}(h:j<6)(u:Bool):(QT v s w).toArray.setIfInBounds (1+j) (.bool u)=(QT v (Hx s j u) w).toArray:=by
 rcases GG h with rfl|rfl|rfl|rfl|rfl|rfl <;> rfl
def Hs(U:Qa T)(v:Value)(o:List Nat)(x:List Bool×List Bool):Prop:=∃a cap,v=Gn a o.length cap (W8 x.1) (J4 x.2)/\Z0 U a o.length (o.map λ(k:Nat)=>(k:Int))/\o.length<=cap/\∀b,a=some b->b.spot=none
def Hs.lg{U':Qa T}{v:Value}{o:List Nat}{x:List Bool×List Bool}(h:Hs U v o x)(k:U.lg U'):Hs U' v o x:=let ⟨a,c,e,h1,h2⟩:=h;⟨a,c,e,h1.lg k,h2⟩
def Z0.src'{a:Option Addr}{len:Nat}{l:List Int}(h:Z0 U a len l):Src U a (l.map λ n=>.int .i64 n):=by
 cases l with
 |nil=>
  cases a with
  |none=>exact .inl ⟨rfl,rfl⟩
  |some w=>exact .inr ⟨w,rfl,λ i v b=>by simp at b⟩
 |cons x l=>
  obtain⟨w,e,G,_⟩:=h.2 0 x rfl;refine .inr ⟨w,e,λ i v b=>?_⟩;rw[getElem?_map]at b;cases z:(x::l)[i]? with
  |none=>rw[z]at b;cases b
  |some y=>
   rw[z]at b;cases b;obtain⟨E,e',B,F⟩:=h.2 i y z;rw[e]at e';cases e'
   rwa [Nat.mul_one]at F
end Go.TM
namespace Go.Proofs
open Go.TM
variable{T:Type}{S:TM.Sys prog T}{U:Qa T}
attribute [local irreducible] Qb Zh Wh
def FI(h:BH)(b:Bk)(hb:Zp U h b)(ah:b.Ok)(a:Option Addr)(cap:Nat)(o:List Nat)(x:List Bool×List Bool)(ho:Z0 U a o.length (o.map λ(k:Nat)=>(k:Int)))(bt:∀ad,a=some ad->ad.spot=none)(a3:o.length<=cap)(h5:o.length<=5)
  (h1:x.1.length=b.rs.length) (h2:x.2.length=b.cs.length) (i:Nat) (hi:i<b.cs.length) :
  Qb S 50 #[h.v,Gn a o.length cap (W8 x.1) (J4 x.2),.int .i64 i] (λ v U'=>Hs U'.frz v (o++[i]) (b.stp x i)/\U.le U') U:=by
 have b0:=hb.cs.1;have b9:=hb.rs.1;have b5:=ah.nc;have b8:=ah.nr
 let R:Value->Nat->Obj->Prop:=λ v B O=>∃(cp:Nat)(c:Array Value),v=Gn (some ⟨B,0,none⟩) (o.length+1) cp (W8 (b.stp x i).1) (J4 (b.stp x i).2)/\O=.cells c 3 (0,0)/\o.length+1<=cp/\∀(k:Nat)(u:Value),((o++[i]).map λ(k:Nat)=>Value.int .i64 (k:Int))[k]?=some u->c[k]?=some u
 have bf:Qb S 50 #[h.v,Gn a o.length cap (W8 x.1) (J4 x.2),.int .i64 i] (λ v U'=>∃B O A,R v B O/\U'.M=.obj B O::(A++U.M)/\(∀y F,U.I y=some F->U'.I y=some F)/\U'.tok=U.tok) U:=by
  refine Qb.of (args:=[_,_,_]) SH Qe S1 ?_;obtain⟨c,ao⟩:∃c,b.cs[i]?=some c:=⟨_,getElem?_eq_getElem hi⟩;have a4:b.cas i=c:=by simp[Bk.cas,getD_eq_getElem?_getD,ao]
  have a5:=mem_of_getElem? ao;have bi:=ah.ag c a5;have bp:=ah.gs c a5;have bu:J4 x.2<2^5:=OT _ O1;have be:J4 x.2<2^60:=Nat.lt_trans bu D1
  have h6:∀g∈c.gs,∀n∈g,0<=n/\n<6:=λ g hg n hn=>by
   have:=(bp g hg).2 n hn;unfold Bk.nr at this;omega
  have N:c.ag.toNat<6/\c.ag=(c.ag.toNat:Int)/\c.ag.toNat<x.1.length:=by unfold Bk.nr at bi;omega
  obtain⟨cf,-,a7,-⟩:=HA.i
  have T:b.stp x i=if(c.gs.any λ g=>g.all λ r=>W8 x.1 r.toNat)then(x.1.set c.ag.toNat false,x.2.set i true)else x:=by
   unfold Bk.stp NN;rw[a4];rfl
  repeat refine⟨rfl,?_⟩
  conv=>whnf
  intro B V H hB;have hB:Zf V B #[.slice h.ra h.rl h.rc,.slice h.ca h.cl h.cc]:=hB
  conv=>whnf
  intro b4 b1
  conv=>whnf
  intro b6 b2;refine⟨_,.refl _,?_⟩
  let L:List Value:=QT (.slice a o.length cap) (W8 x.1) (J4 x.2)
  have hM:((V.put b4 (.cells L.toArray 106)).put b6 (.cells #[.slice none 0 0,.bool false,.bool false,.bool false,.bool false,.bool false,.bool false,.int .i64 0] 106)).M=[.obj b6 (.cells #[.slice none 0 0,.bool false,.bool false,.bool false,.bool false,.bool false,.bool false,.int .i64 0] 106 (0,0))]++.obj b4 (.cells L.toArray 106 (0,0))::V.M:=rfl;have br:=Q9 [_] hM;have au:=br.cell (i:=0) (v:=.slice a o.length cap) rfl;refine⟨_,au,_,au,_,au,?_⟩
  conv=>whnf
  refine gF V7 a7 rfl rfl rfl a3 bt ?_
  conv=>whnf
  intro bg a6;refine Zl a6 λ U2 am Z=>?_;have Z:Zf U2 bg #[.int .i64 i]:=Z;have ap:U.lg U2:=H.lg.trans ((Z2 b4 _).trans ((Z2 b6 _).trans am.lg));have E:V.lg U2:=(Z2 b4 _).trans ((Z2 b6 _).trans am.lg);have az:U2.M=_:=am.own.trans hM
  conv=>whnf
  refine Fc (cs:=(o.map λ(k:Nat)=>(k:Int)).map λ n=>.int .i64 n) (new:=[.int .i64 i]) HA rfl rfl (Z0.src' (ho.lg ap)) S1 (.inr ⟨_,rfl,Z.rd⟩) rfl S3 (λ h0=>by cases h0) (λ _ bn cn G b3 a8 ce bk=>?_)
  let L1:List Value:=QT (.slice (some ⟨bn,0,none⟩) (o.length+1) G) (W8 x.1) (J4 x.2)
  have a0:(U2.put bn (.cells cn 3)).M=[.obj bn (.cells cn 3 (0,0)),.obj b6 (.cells #[.slice none 0 0,.bool false,.bool false,.bool false,.bool false,.bool false,.bool false,.int .i64 0] 106 (0,0))]++.obj b4 (.cells L.toArray 106 (0,0))::V.M:=by
   show _::U2.M=_;rw[az];rfl
  obtain⟨ad,c',ga,gl,gc,aa,al,ac,bv,bl,bx,a9,hg,bo,ha,bz,bw⟩:=(hb.lg H.lg).case (show i<h.cl by omega);obtain rfl:c=c':=Option.some.inj (ao.symm.trans bv);refine⟨rfl,Px (i:=0) [_,_] a0 (by show 0<8;omega) rfl ?_⟩;refine⟨_,Qa.sees.lg (hB.sees3 (o:=1) rfl) ⟨E.imm,⟨[_,_,_],rfl⟩,E.tok⟩,ad,i,⟨bl,rfl,O1⟩,_,⟨rfl,a9.lg ⟨E.imm,⟨[_,_,_],rfl⟩,E.tok⟩⟩,?_⟩
  conv=>whnf
  intro b7 bm;refine⟨_,.refl _,rfl,Zu (vs:=[.string c.nm,.int .i64 c.ag,.slice ga gl gc,.slice aa al ac]) bm rfl (by simp[Value.single]) λ U3 an P=>?_⟩;have ae:U3.M=[.obj bn (.cells cn 3 (0,0)),.obj b6 (.cells #[.slice none 0 0,.bool false,.bool false,.bool false,.bool false,.bool false,.bool false,.int .i64 0] 106 (0,0))]++.obj b4 (.cells L1.toArray 106 (0,0))::V.M:=an.own;have W:∀y F,V.I y=some F->U3.I y=some F:=λ y F K=>an.imm y F (E.imm y F K);have av:U3.tok=V.tok:=an.tok.trans E.tok;have Q:V.lg U3:=⟨W,⟨[_,_,_],ae⟩,av⟩;have ab:=Q9 [_,_] ae;refine⟨_,⟨rfl,(hB.lg Q).rd⟩,?_⟩;refine⟨_,⟨rfl,P.rd⟩,?_⟩;refine⟨QN (W8 x.1),⟨rfl,ab.sub (o:=1) (n:=6)⟩,EA.any,(RD _ _ _ gc _ ga gl c.gs (hg.lg Q) bo (W8 x.1) h6 h rfl c.nm rfl c.ag rfl aa al ac rfl).mono ?_⟩;rintro v U'⟨rfl,bh⟩-;obtain rfl:=bh.symm
  have done:∀s w,b.stp x i=(s,w)->R (Gn (some ⟨bn,0,none⟩) (o.length+1) G (W8 s) (J4 w)) bn (.cells cn 3 (0,0)):=λ s w e=>
   ⟨G,cn,by rw[e],rfl,a8,λ k u hu=>bk k u (by simpa[Function.comp_def]using hu)⟩
  cases ak:(c.gs.any λ g=>g.all λ r=>W8 x.1 r.toNat)with
  |true=>
   rw[ak,if_pos rfl]at T;have bs:=VU (show i<60 by omega);refine⟨_,ab.cell (i:=7) rfl,O1,?_⟩
   conv=>whnf
   intro U5 af _;have a1:=af.own.trans ae;have aw:∀y F,V.I y=some F->U5.I y=some F:=λ y F K=>af.imm y F (W y F K);have ba:U5.tok=V.tok:=af.tok.trans av;have P:=P.le af;have key:J4 x.2||| (1<<<i)=J4 (x.2.set i true):=(uw x.2 i O1).symm
   have e2:IntKind.wrap .i64 ((BitVec.ofInt (IntKind.bits .i64) ((J4 x.2:Nat):Int)||| BitVec.ofInt (IntKind.bits .i64) (IntKind.wrap .i64 ((1:Int)*2^(min ((i:Int).toNat) (IntKind.bits .i64))))).toNat:Int)=((J4 (x.2.set i true):Nat):Int):=by
    rw[bs,Dv be (PP O1),key]
   refine⟨rfl,rfl,?_⟩;rw[e2];refine WQ (i:=7) (v:=.int .i64 (J4 (x.2.set i true):Nat)) [_,_] a1 (by show 7<8;omega) rfl λ U6 ai bb X=>?_;have X:U6.M=[_,_]++.obj b4 (.cells (QT (.slice (some ⟨bn,0,none⟩) (o.length+1) G) (W8 x.1) (J4 (x.2.set i true))).toArray 106 (0,0))::V.M:=X;have a2:Zf U6 b7 #[.string c.nm,.int .i64 c.ag,.slice ga gl gc,.slice aa al ac]:=P.imI λ y F K=>by rw[ai];exact K
   refine⟨_,a2.sees3 (o:=1) rfl,c.ag.toNat,⟨N.2.1,N.1⟩,rfl,?_⟩;rw[show((Addr.mk b4 0 none).add 1).add (c.ag.toNat*1)=(Addr.mk b4 0 none).add (1+c.ag.toNat) by rw[Qp,Qp,Qp,Nat.mul_one,Nat.zero_add,Nat.zero_add]];refine WQ (i:=1+c.ag.toNat) (v:=.bool false) [_,_] X (by show 1+c.ag.toNat<8;omega) rfl λ U7 ax bc Y=>?_;rw[yf _ _ _ N.1,dC _ _ _ N.2.2]at Y;have aq:=Q9 [_,_] Y;refine⟨_,⟨rfl,aq⟩,rfl,Jt (vs:=QT (.slice (some ⟨bn,0,none⟩) (o.length+1) G) (W8 (x.1.set c.ag.toNat false)) (J4 (x.2.set i true))) [_] Y rfl (by simp[QT,Value.single]) λ U8 ay bd aj=>?_⟩;refine⟨_,⟨rfl,Q9 [_] aj⟩,?_⟩
   conv=>whnf
   exact⟨bn,_,[_,_],done _ _ T,by rw[aj,<- H.own];rfl,λ y F K=>by rw[ay,ax,ai];exact aw y F (H.imm y F K),by rw[bd,bc,bb,ba];exact H.tok⟩
  |false=>
   rw[ak]at T;refine⟨_,⟨rfl,ab⟩,rfl,VV (vs:=L1) [_] ae rfl (by simp[L1,QT,Value.single]) ?_⟩;refine⟨_,⟨rfl,Q9 [_] rfl⟩,?_⟩
   conv=>whnf
   exact⟨bn,_,[_,_],done x.1 x.2 T,by show _=_;rw[<- H.own];rfl,λ y F K=>W y F (H.imm y F K),av.trans H.tok⟩
 refine(Qb.out (R:=R) bf).mono ?_;rintro v U'⟨B,O,⟨cp,c,rfl,rfl,h3,h4⟩,hB,bq⟩;refine⟨⟨some ⟨B,0,none⟩,cp,S1,?_,by simpa using h3,by rintro _⟨⟩;rfl⟩,bq⟩;have bj:Zf U'.frz B c:=⟨3,(0,0),hB⟩;refine⟨S1,λ k y K=>⟨_,rfl,rfl,?_⟩⟩;rw[Nat.mul_one,Qp];refine bj.sees ?_;rw[Nat.zero_add];refine h4 k _ ?_;rw[getElem?_map]at K ⊢;cases hz:(o++[i])[k]? with
 |none=>rw[hz]at K;cases K
 |some z=>rw[hz]at K;cases K;rfl
end Go.Proofs
namespace Go.TM
variable{T:Type}{P:Program}{S:Sys P T}{f:Fm}{U:Qa T}
def MV(S:Sys P T)(l n:Nat)(R:Nat->List Value->Qa T->Prop)(I:Nat->Qa T->Prop)(E:Qa T->Prop):Prop:=
 ∀(k:Nat)(p:List Value)(e:Qa T)(K:Value->Qa T->Prop),k<n->R k p e.frz->I k e->(∀b,e.frz.lg b->I (k+1) b->K (.bool true) b)->(∀b,E b->K (.bool false) b)->Zh S l p K e
def Oi(S:Sys P T)(g:FuncId)(args:Array Value)(l n:Nat)(R:Nat->List Value->Qa T->Prop)(U:Qa T):Prop:=
 ∀(I:Nat->Qa T->Prop)(E:Qa T->Prop),(∀k b e,b.le e->I k b->I k e)->MV S l n R I E->I 0 U->Qb S g args (λ _ U'=>I n U'\/E U') U
def Mb(hm:P.follows .mixedOrders=true){fn N:Nat}{mu dets:List Nat}{c:Operand}{params:Array Tmp}{sa W:C}{n:Zq T}{x:Nat->Zq T}{r:Zq T}{ds:List Deferred}{g:FuncId}{first F:Array Value}
  (len:Nat) (R:Nat->List Value->Qa T->Prop) (Inv:Nat->Qa T->Prop) (X:Nat->Qa T->Prop) (V:Qa T->Prop)
  (hc:Zo f c=.func (.func g) first F) (hp:params.toList.all (λ t=>decide (t<N))=true) (hg:(P.funcs[g]?.any λ fd=>fd.body.isSome&&fd.name != "runtime.NumGoroutine")=true)
  (Z:∀l z,U.frz.lg z->Oi S g (first.toList++[Value.func (.yield l) #[] #[]]++F.toList).toArray l len R z)
  (L:∀k p U,R k p U->p.length=params.size) (aa:∀k z H,z.le H->Inv k z->Inv k H) (h0:Inv 0 U)
  (G:∀(l:Nat)(A B D:Qw)(k:Nat)(p:List Value)(U₀:Qa T)(KN:Zq T)(KX:Nat->Zq T)(KR KA:Zq T),k<len->R k p U₀.frz->Inv k U₀ ->
   (∀e w b,U₀.frz.lg b->Inv (k+1) b->KN e w (b.on B D))->(∀i e w b,X i b->KX i e w (b.on B D))->(∀e w b,V b->KR e w (b.on B D)) ->
   (∀e(z:Qa T),WA S fn (some l) W KN KX KR e [] (z.on B D)->KA e [] (z.on A D)) ->
   WA S fn (some l) sa KA (λ _ _ _ _=>False) (λ _ _ _=>False) (Pi f params.toList p) [] (U₀.on A D))
  (hn:∀(d l:Nat)(A:Obj)b,Inv len b->n f (⟨.collected d,#[]⟩::ds) (b.on (.obj l A) (.obj d (.deferred (some [])))))
  (hx:∀(d l:Nat)(A:Obj)i b,X i b->x i f (⟨.collected d,#[]⟩::ds) (b.on (.obj l A) (.obj d (.deferred (some [])))))
  (hr:∀(d l:Nat)(A:Obj)b,V b->r f (⟨.collected d,#[]⟩::ds) (b.on (.obj l A) (.obj d (.deferred (some []))))) :
  Wh S fn none N mu dets c params sa W n x r f ds U:=by
 show WA S fn none (.rng N mu dets c params sa W) n x r f ds U;refine Nl hm hc hp hg λ l d lo hd hl ab hR=>?_
 let D:Qw:=.obj d (.deferred (some []))
 let I:Nat->Qa T->Prop:=λ k z=>∃U₀,Inv k U₀/\z=U₀.on (.obj l (lo .ready none)) D
 let E:Qa T->Prop:=λ z=>∃U₀,(∃i,X i U₀/\z=U₀.on (.obj l (lo .done (some (.exit i)))) D)\/(V U₀/\z=U₀.on (.obj l (lo .done (some .ret))) D)
 have Y:U.frz.lg (U.on (.obj l (lo .ready none)) D):=⟨λ _ _ h=>h,⟨_,(append_nil _).symm⟩,rfl⟩;refine(Z l _ Y I E ?_ ?_ ⟨U,h0,rfl⟩).mono ?_
 .rintro k _ H hle' ⟨U₀,hI,rfl⟩;refine⟨{ H with M:=U₀.M },aa k U₀ _ ⟨hle'.imm,rfl,hle'.tok⟩ hI,?_⟩;obtain⟨ac,ad,ae⟩:=H;have:=hle'.own;simp only[Qa.on]at this ⊢;rw[this]
 .rintro k p _ K hk hRk ⟨U₀,hI,rfl⟩ hK1 hK2;refine hR p K _ (L k p _ hRk) (mem_cons_self ..) ?_;refine G l _ (.obj l (lo .busy none)) D k p U₀ _ _ _ _ hk hRk hI (λ e w b Q h=>?_) (λ i e w b h=>?_) (λ e w b h=>?_) (λ e z h=>⟨rfl,_,.here,h⟩)
  .exact⟨_,.here,hK1 _ ⟨Q.imm,⟨_,(append_nil _).symm⟩,Q.tok⟩ ⟨b,h,rfl⟩⟩
  .exact⟨_,.here,hK2 _ ⟨b,.inl ⟨i,h,rfl⟩⟩⟩
  .exact⟨_,.here,hK2 _ ⟨b,.inr ⟨h,rfl⟩⟩⟩
 .rintro v b (⟨U₀,hI,rfl⟩|⟨U₀,⟨i,hX,rfl⟩|⟨hR',rfl⟩⟩) -
  .exact⟨.ready,none,_,S1,.here,hn d l _ U₀ hI⟩
  .exact⟨.done,some (.exit i),_,S1,.here,hx d l _ i U₀ hX⟩
  .exact⟨.done,some .ret,_,S1,.here,hr d l _ U₀ hR'⟩
def Bk.ords_succ(b:Bk)(k:Nat)(o:List Nat):b.ords (k+1) o=(range b.cs.length).flatMap λ i=>if b.can o i then b.ords k (o++[i])else[]:=rfl
def Bk.ordsTo(b:Bk)(k:Nat)(o:List Nat)(m:Nat):List (List Nat):=(range m).flatMap λ i=>if b.can o i then b.ords k (o++[i])else[]
def Bk.ordsTo_succ(b:Bk)(k:Nat)(o:List Nat)(m:Nat):b.ordsTo k o (m+1)=b.ordsTo k o m++(if b.can o m then b.ords k (o++[m])else[]):=by
 simp[Bk.ordsTo,range_succ]
def Bk.ordsTo_le(b:Bk)(k:Nat)(o:List Nat){m:Nat}(h:m<=b.cs.length):∃r,b.ords (k+1) o=b.ordsTo k o m++r:=by
 refine⟨((range (b.cs.length-m)).map (m+·)).flatMap λ i=>if b.can o i then b.ords k (o++[i])else[],?_⟩;rw[Bk.ords_succ,Bk.ordsTo,<- flatMap_append];congr 1;rw[<- range_add];congr 1;omega
structure Bk.Run(b:Bk)(o:List Nat):Prop where
 low:∀i∈o,i<b.cs.length
 len:o.length<=b.cs.length
def Bk.ends_len(b:Bk):∀(o:List Nat),(b.ends o).1.length=b.rs.length/\(b.ends o).2.length=b.cs.length:=by
 intro o
 have key:∀(o:List Nat)(x:List Bool×List Bool),x.1.length=b.rs.length->x.2.length=b.cs.length->(o.foldl b.stp x).1.length=b.rs.length/\(o.foldl b.stp x).2.length=b.cs.length:=by
  intro o
  induction o with
  |nil=>exact λ x e h=>⟨e,h⟩
  |cons i o w=>
   intro x e h;refine w _ ?_ ?_ <;> unfold Bk.stp <;> split <;> simp[e,h]
 exact key o b.ini (by simp[Bk.ini]) (by simp[Bk.ini])
def TZ(o:List Nat):Jb ((o.map λ(k:Nat)=>(k:Int)).map Int.toNat)=Jb o:=by
 congr 1;rw[map_map]
 conv=>rhs;rw[<- map_id o]
 exact map_congr_left λ k _=>S1
structure Pq(U:Qa T)(h:BH)(l B b2 b3:Nat):Prop where
 bk:Zf U B #[.slice h.ra h.rl h.rc,.slice h.ca h.cl h.cc]
 yl:Zf U b2 #[.func (.yield l) #[] #[]]
 nx:Zf U b3 #[.func (.func 84) #[] #[.pointer (some ⟨B,0,none⟩),.pointer (some ⟨b2,0,none⟩),.pointer (some ⟨b3,0,none⟩)]]
def Pq.lg{U':Qa T}{h:BH}{l B e w:Nat}(k:Pq U h l B e w)(b:U.frz.lg U'):Pq U' h l B e w:=⟨k.bk.imI b.imm,k.yl.imI b.imm,k.nx.imI b.imm⟩
def Pc(b:Bk)(k:Nat)(p:List Value)(U:Qa T):Prop:=∃o v,b.all[k]?=some o/\p=[v]/\Hs U v o (b.ends o)
end Go.TM
namespace Go.Proofs
open Go.TM
variable{T:Type}{S:TM.Sys prog T}{U:Qa T}
attribute [local irreducible] Qb Zh Wh
set_option maxHeartbeats 1000000 in
def R6(h:BH)(b:Bk)(aq:b.Ok){l B b2 b3:Nat}{I:Nat->Qa T->Prop}{E:Qa T->Prop}(am:∀k V U2,V.le U2->I k V->I k U2)(bd:MV S l b.all.length (Pc b) I E) :
  ∀(k:Nat)(o:List Nat)(j:Nat)(U:Qa T)(v:Value),o.length+k=b.cs.length->(∀i∈o,i<b.cs.length)->Zp U.frz h b->Pq U h l B b2 b3->Hs U.frz v o (b.ends o)->(∀(i:Nat)q,(b.ords k o)[i]?=some q->b.all[j+i]?=some q)->I j U ->
   Qb S 84 #[v,.pointer (some ⟨B,0,none⟩),.pointer (some ⟨b2,0,none⟩),.pointer (some ⟨b3,0,none⟩)] (λ v' U'=>(v'=.bool true/\I (j+(b.ords k o).length) U'/\U.frz.lg U')\/(v'=.bool false/\E U')) U:=by
 intro k
 induction k with
 |zero=>
  rintro o j U _ a1 Q hb hn⟨a,cap,rfl,ho,ab,au⟩X hI;have a9:=hb.cs.1;refine Qb.of (args:=[_,_,_,_]) Y7 Qe S1 ?_
  repeat refine⟨rfl,?_⟩
  conv=>whnf
  intro b4 V L F;have F:Zf V b4 (QT (.slice a o.length cap) (W8 (b.ends o).1) (J4 (b.ends o).2)).toArray:=F;have z:=hn.lg L.lg.frz;refine⟨_,F.sees3 (o:=0) rfl,_,z.bk.sees3 (o:=1) rfl,?_⟩
  repeat refine⟨rfl,?_⟩
  conv=>whnf
  apply Qd<;>intro W
  .refine⟨_,z.yl.sees3 (o:=0) rfl,_,⟨rfl,F.reads (vs:=QT (.slice a o.length cap) (W8 (b.ends o).1) (J4 (b.ends o).2)) (λ k v hv=>by simpa using hv)⟩,?_⟩
   conv=>whnf
   have av:=X 0 o rfl;refine bd j _ _ _ (List.getElem?_eq_some_iff.1 av).1 ⟨o,_,av,rfl,a,cap,rfl,ho.lg L.lg.frz2,ab,au⟩ (am _ _ _ L hI) (λ U2 ah K=>?_) (λ U2 hE=>?_)
   .repeat refine⟨rfl,?_⟩
    conv=>whnf
    exact .inl ⟨rfl,K,L.lg.frz2.trans ah⟩
   .repeat refine⟨rfl,?_⟩
    conv=>whnf
    exact .inr ⟨rfl,hE⟩
  .simp at W;omega
 |succ k ih=>
  rintro o j U _ a1 Q hb hn⟨a,cap,rfl,ho,ab,au⟩X hI;have a9:=hb.cs.1;have bf:=aq.nc;have a3:Jb o<2^60:=HF λ x hx=>by have:=Q x hx;omega
  have a5:∀n∈o.map (λ(k:Nat)=>(k:Int)),0<=n/\n<60:=by
   intro n hn;obtain⟨k,hk,rfl⟩:=mem_map.1 hn;have:=Q k hk;omega
  refine Qb.of (args:=[_,_,_,_]) Y7 Qe S1 ?_
  repeat refine⟨rfl,?_⟩
  conv=>whnf
  intro b4 V L F;have F:Zf V b4 (QT (.slice a o.length cap) (W8 (b.ends o).1) (J4 (b.ends o).2)).toArray:=F;have G:=L.lg.frz2;have z:=hn.lg L.lg.frz;refine⟨_,F.sees3 (o:=0) rfl,_,z.bk.sees3 (o:=1) rfl,?_⟩
  repeat refine⟨rfl,?_⟩
  conv=>whnf
  apply Qd<;>intro W
  .simp at W;omega
  clear W;have Z:=Je (S:=S) a o.length cap _ ((ho.lg G).lg Qm) O1 a5;rw[TZ]at Z;refine⟨_,F.sees3 (o:=0) rfl,Hb.any,Z.go λ _=>?_⟩;refine⟨_,z.bk.sees3 (o:=1) rfl,Nat,λ m=>[(1,.pointer (some ⟨B,0,none⟩)),(2,.pointer (some ⟨b2,0,none⟩)),(3,.pointer (some ⟨b3,0,none⟩)),(4,.pointer (some ⟨b4,0,none⟩)),(6,.int .i64 (Jb o:Nat)),(25,.slice h.ca h.cl h.cc),(26,.int .i64 h.cl),(27,.int .i64 m)],
   λ m U'=>V.frz.lg U'/\m<=h.cl/\I (j+(b.ordsTo k o m).length) U',λ m=>h.cl-m,0,T1,⟨Qm,O1,am _ _ _ L hI⟩,?_⟩
  rintro m f U2⟨ah,hm,K⟩;have ao:Ze ((m:Int)+1):=I1
  have H:=b.ordsTo_succ k o m
  repeat refine⟨rfl,?_⟩
  conv=>whnf
  apply Qd<;>intro W
  .have hmt:m<h.cl:=by simpa using W
   obtain⟨ad,c,ga,gl,gc,aa,al,ac,hx,ba,be,bc,-,-,ha,a6,a2⟩:=(hb.lg (G.trans ah)).case hmt;have a7:=Bk.aft1_at hx;have N:=aq.toLow.lt a2;have M:b.can o m=(!o.contains m&&(Jg b.A m).all λ k=>o.contains k):=rfl;refine⟨ad,m,⟨ba,rfl,hmt⟩,_,⟨rfl,bc⟩,?_⟩
   conv=>whnf
   intro b8 bb;refine⟨_,.refl _,rfl,Zu (vs:=[.string c.nm,.int .i64 c.ag,.slice ga gl gc,.slice aa al ac]) bb rfl (by simp[Value.single]) λ U3 ai az=>?_⟩;have w:V.frz.lg U3:=ah.trans ai.lg
   have skip:b.can o m=false->I (j+(b.ordsTo k o (m+1)).length) U3:=λ e=>by
    rw[H,e];simp only[Bool.false_eq_true,if_false,append_nil];exact am _ _ _ ai K
   have Y:=Gi a3 (show m<60 by omega);rw[W5]at Y;refine⟨O1,?_⟩
   repeat refine⟨rfl,?_⟩
   conv=>whnf
   apply Q7<;>intro W
   .have hno:o.contains m=false:=Y.symm.trans W;rw[hno]at M;have aj:=Je (S:=S) aa al ac c.af (ha.lg ai.lg) a6 N;have a8:Jb (c.af.map Int.toNat)<2^60:=HF (toNat_lt N);have key:_↔(Jg b.A m).all (λ k=>(Jb o).testBit k)=true:=(D6 a8 a3).trans ((D5 N).trans (by rw[a7]))
    have a4:(Jg b.A m).all (λ k=>(Jb o).testBit k)=(Jg b.A m).all λ k=>o.contains k:=by
     congr 1;funext k;exact W5 o k
    rw[a4]at key;refine⟨_,az.sees3 (o:=3) rfl,Hb.any,aj.go λ _=>?_⟩
    repeat refine⟨rfl,?_⟩
    conv=>whnf
    apply Qd<;>intro W
    .have hno2:b.can o m=false:=by
      rw[M];cases hh:(Jg b.A m).all (λ k=>o.contains k)with
      |false=>rfl
      |true=>exact absurd (key.2 hh) (bne_iff_ne.1 W)
     refine⟨ao,?_⟩
     conv=>whnf
     exact⟨rfl,m+1,T1,⟨w,O1,skip hno2⟩,L1⟩
    .have hyes:b.can o m=true:=by
      rw[M];have:(Jg b.A m).all (λ k=>o.contains k)=true:=key.1 (bne_eq_false_iff_eq.1 W);rw[this];rfl
     rw[hyes,if_pos rfl]at H;have an:=z.lg w;have ay:=F.imI w.imm;have ae:=b.ends_len o;refine⟨_,an.nx.sees3 (o:=0) rfl,_,⟨rfl,an.bk.rd⟩,?_⟩;refine⟨_,⟨rfl,ay.reads (vs:=QT (.slice a o.length cap) (W8 (b.ends o).1) (J4 (b.ends o).2)) (λ k v hv=>by simpa using hv)⟩,?_⟩;refine⟨λ v U'=>Hs U'.frz v (o++[m]) (b.ends (o++[m])),λ v V U2 hv ak=>hv.lg ak.lg.frz2,λ U' ak hC=>?_,λ v hv=>?_⟩
     .refine⟨SH.any,(FI h b (hb.lg ((G.trans w).trans ak.lg)) aq a cap o (b.ends o) (ho.lg ((G.trans w).trans ak.lg)) au ab O1 ae.1 ae.2 m O1).mono ?_⟩;rintro v U''⟨hv,a0⟩-;exact⟨U'',.refl _,by rw[b.ends_snoc];exact hv,a0⟩
     obtain⟨_,-,-,a',c',rfl,-⟩:=hv
     conv=>whnf
     intro U4 ax hC;obtain⟨-,hv⟩:=hC;have P:V.frz.lg U4:=w.trans ax.lg;obtain⟨r,hr⟩:=b.ordsTo_le k o (show m+1<=b.cs.length by omega);rw[H]at hr
     refine⟨Y7.any,(ih (o++[m]) (j+(b.ordsTo k o m).length) U4 _ S3 (λ i hi=>by
      rcases mem_append.1 hi with hi|hi
      .exact Q i hi
      .rw[mem_singleton.1 hi];omega) (hb.lg (G.trans (show V.frz.lg U4.frz from P.frz2))) (z.lg P) hv (λ i q hq=>by
       rw[Nat.add_assoc];refine X _ q ?_;rw[hr,append_assoc,getElem?_append_right O1,Nat.add_sub_cancel_left,getElem?_append_left (List.getElem?_eq_some_iff.1 hq).1];exact hq) (am _ _ _ (ai.trans ax) K)).mono ?_⟩
     rintro v' U5 (⟨rfl,aw,ap⟩|⟨rfl,hE⟩) -
     .have hlg5:V.frz.lg U5:=(show V.frz.lg U4.frz from P.frz2).trans ap
      repeat refine⟨rfl,?_⟩
      refine⟨ao,?_⟩
      conv=>whnf
      exact⟨rfl,m+1,T1,⟨hlg5,O1,by rw[H,length_append,<- Nat.add_assoc];exact aw⟩,L1⟩
     .repeat refine⟨rfl,?_⟩
      conv=>whnf
      exact .inr ⟨rfl,hE⟩
   .have hyes:o.contains m=true:=Y.symm.trans W;rw[hyes]at M
    repeat refine⟨rfl,?_⟩
    refine⟨ao,?_⟩
    conv=>whnf
    exact⟨rfl,m+1,T1,⟨w,O1,skip M⟩,L1⟩
  .have hge:m=b.cs.length:=by simp at W;omega
   subst hge
   repeat refine⟨rfl,?_⟩
   conv=>whnf
   exact .inl ⟨rfl,K,G.trans ah⟩
def FA(h:BH)(b:Bk)(hb:Zp U.frz h b)(L:b.Ok){l B:Nat}(hB:Zf U B #[.slice h.ra h.rl h.rc,.slice h.ca h.cl h.cc]) :
  Oi S 83 #[.func (.yield l) #[] #[],.pointer (some ⟨B,0,none⟩)] l b.all.length (Pc b) U:=by
 intro I E M W h0;refine Qb.of (args:=[_,_]) So Qe S1 ?_
 conv=>whnf
 intro N U1 P z;have z:Zf U1 N #[.func (.yield l) #[] #[]]:=z
 conv=>whnf
 intro Z T;refine⟨_,.refl _,rfl,Zu (vs:=[.func (.func 84) #[] #[.pointer (some ⟨B,0,none⟩),.pointer (some ⟨N,0,none⟩),.pointer (some ⟨Z,0,none⟩)]]) T rfl (by simp[Value.single]) λ U2 G Q=>?_⟩;have F:=P.trans G;have V:Pq U2 h l B N Z:=⟨hB.le F,z.le G,Q⟩;refine⟨_,V.nx.sees3 (o:=0) rfl,_,⟨rfl,V.bk.rd⟩,?_⟩;refine⟨DF (W8 b.ini.1),λ U' K _=>?_,?_⟩
 .refine⟨SG.any,(Im h b ((hb.lg (F.trans K).lg.frz2).lg Qm) L.nr).mono ?_⟩;rintro _ U''⟨rfl,hU⟩-;exact⟨rfl,_,.refl _,hU▸.refl _⟩
 conv=>whnf
 intro Y H _;have w:=F.trans H;have X:J4 b.ini.2=0:=DQ _;have hv:Hs Y.frz (Gn none 0 0 (W8 b.ini.1) 0) [] (b.ends []):=⟨none,0,by show _=Gn none 0 0 (W8 b.ini.1) (J4 b.ini.2);rw[X],⟨rfl,λ i x hx=>by simp at hx⟩,Nat.le_refl _,S1⟩;refine⟨Y7.any,(R6 h b L M W b.cs.length [] 0 Y _ S1 S1 (hb.lg w.lg.frz2) (V.lg H.lg.frz) hv (λ i q hq=>by rw[Nat.zero_add];exact hq) (M _ _ _ w h0)).mono ?_⟩;rintro v' U4 (⟨rfl,e,-⟩|⟨rfl,hE⟩) -
 .repeat refine⟨rfl,?_⟩
  conv=>whnf
  exact .inl (by rw[Nat.zero_add]at e;exact e)
 .repeat refine⟨rfl,?_⟩
  conv=>whnf
  exact .inr hE
def F_(h:BH)(b:Bk)(E:Zp U h b):Qb S 58 #[h.v] (λ v U'=>(∃B,v=.func (.func 83) #[] #[.pointer (some ⟨B,0,none⟩)]/\Zf U' B #[.slice h.ra h.rl h.rc,.slice h.ca h.cl h.cc])/\U.le U') U:=by
 refine Qb.of (args:=[_]) Si Qe S1 ?_
 repeat refine⟨rfl,?_⟩
 conv=>whnf
 intro B z e w
 repeat refine⟨rfl,?_⟩
 conv=>whnf
 exact⟨⟨B,rfl,w⟩,e⟩
def Ip(a n:Nat):Qb S 76 #[.int .i64 a,.int .i64 n] (λ v U'=>v=.int .i64 (Hy a n)/\U'=U) U:=by
 refine Qb.of (args:=[_,_]) Sn Qe S1 ?_
 repeat refine⟨rfl,?_⟩
 conv=>whnf
 apply Qd<;>intro b
 .have e:a=n:=by simp at b;omega
  repeat refine⟨rfl,?_⟩
  conv=>whnf
  exact⟨by unfold Hy;rw[if_pos e],rfl⟩
 have e:a≠n:=by simp at b;omega
 repeat refine⟨rfl,?_⟩
 conv=>whnf
 apply Qd<;>intro b
 .have e0:a=0:=by simp at b;omega
  repeat refine⟨rfl,?_⟩
  conv=>whnf
  exact⟨by unfold Hy;rw[if_neg e,if_pos e0],rfl⟩
 .have e0:a≠0:=by simp at b;omega
  repeat refine⟨rfl,?_⟩
  conv=>whnf
  exact⟨by unfold Hy;rw[if_neg e,if_neg e0],rfl⟩
def LF:Xh prog 60 4 1:=.of K1
def zL(a n:Nat)(T:a<2^60)(hn:n<60):Qb S 51 #[.int .i64 a,.int .i64 n] (λ v U'=>Acc 4 1 v ((range n).map λ k=>.bool (a.testBit k)) U'.M U.M/\(∀x o,U.I x=some o->U'.I x=some o)/\U'.tok=U.tok) U:=by
 refine Qb.of (args:=[_,_]) Ej Qe S1 ?_
 repeat refine⟨rfl,?_⟩
 refine⟨Nat×Value,λ y=>[(0,.int .i64 a),(5,y.2),(7,.int .i64 n),(8,.int .i64 y.1)],
  λ y U'=>(∀x o,U.I x=some o->U'.I x=some o)/\U'.tok=U.tok/\Acc 4 1 y.2 ((range y.1).map λ k=>.bool (a.testBit k)) U'.M U.M/\y.1<=n,λ y=>n-y.1,(0,.slice none 0 0),T1,⟨λ _ _ h=>h,rfl,.nil,O1⟩,?_⟩
 rintro⟨i,v⟩f Q⟨L,P,b,V⟩;simp only at b V;obtain⟨sa,sl,sc,rfl,W,-⟩:=Acc.src (U:=Q) b;have H:Ze ((i:Int)+1):=I1
 repeat refine⟨rfl,?_⟩
 conv=>whnf
 apply Qd<;>intro N
 .have hlt:i<n:=by simpa using N
  have B:=Gi T (show i<60 by omega);refine⟨O1,rfl,rfl,?_⟩
  conv=>whnf
  intro F E;refine Zl E λ K z e=>?_;have e:Zf K F #[.bool (a.testBit i)]:=by rw[<- B];exact e
  conv=>whnf
  refine Wy (v:=.slice sa sl sc) (cs:=(range i).map λ k=>.bool (a.testBit k)) (new:=[.bool (a.testBit i)]) (M₀:=U.M) LF rfl rfl (by rw[z.own];exact b) (.inr ⟨_,rfl,e.rd⟩) rfl (by simp[Value.single]) S3 λ Z M' G _=>?_;have w:Acc 4 1 Z ((range (i+1)).map λ k=>.bool (a.testBit k)) M' U.M:=by rw[range_succ,map_append];exact G
  obtain⟨X,Y,tc,rfl,-,-⟩:=Acc.src (U:={ K with M:=M' }) w;refine⟨H,?_⟩
  conv=>whnf
  exact⟨rfl,(i+1,.slice X Y tc),T1,⟨λ x o h=>z.imm x o (L x o h),z.tok.trans P,w,by show i+1<=n;omega⟩,L1⟩
 .have hge:i=n:=by simp at N;omega
  subst hge
  repeat refine⟨rfl,?_⟩
  conv=>whnf
  exact⟨b,L,P⟩
end Go.Proofs

