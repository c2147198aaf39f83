/- Lemmas. No conditions. -/
import Derived.Test.YtcakpkianonbkaaGreatDoorB36
import Derived.Test.YtcakpkianonbkaaGreatDoorB03
set_option linter.all false
open List
open Go.Proofs.Tryz (prog)
set_option maxRecDepth 100000
namespace Go.Proofs
open Go.TM
def Qd:prog.follows .mixedOrders=true:=by kernel_rfl
end Go.Proofs
namespace Go.Proofs
open Go.TM
variable{T:Type}{S:TM.Sys prog T}{U:Qa T}
attribute [local irreducible] Qb Zh We
def Wt(U:Qa T)(n a b:Int):Qb S 48 #[.int .i64 n,.int .i64 a,.int .i64 b] (λ v U'=>v=.bool (W1 n a b)/\U'=U) U:=by
 refine Qb.of (args:=[_,_,_]) Qfg Qd (by simp) ?_
 repeat refine⟨rfl,?_⟩
 conv=>whnf
 apply Zc<;>intro hc
 .repeat refine⟨rfl,?_⟩
  conv=>whnf
  exact⟨by unfold W1;rw[hc];rfl,rfl⟩
 .repeat refine⟨rfl,?_⟩
  conv=>whnf
  exact⟨by unfold W1;rw[hc];rfl,rfl⟩
def Wq(U:Qa T)(n a b:Int):Qb S 55 #[.int .i64 n,.int .i64 a,.int .i64 b] (λ v U'=>v=.bool (W1 n a b)/\U'=U) U:=by
 refine Qb.of (args:=[_,_,_]) Qap Qd (by simp) ?_
 repeat refine⟨rfl,?_⟩
 conv=>whnf
 apply Zc<;>intro hc
 .repeat refine⟨rfl,?_⟩
  conv=>whnf
  exact⟨by unfold W1;rw[hc];rfl,rfl⟩
 .repeat refine⟨rfl,?_⟩
  conv=>whnf
  exact⟨by unfold W1;rw[hc];rfl,rfl⟩
def Qjv{α:Type}(S:TM.Sys prog T)(U:Qa T)(g:FuncId)(first capt:Array Value)(enc:α->Value)(l:List α)(p:α->Bool):Prop:=
 (prog.funcs[g]?.any λ fd=>fd.body.isSome&&fd.name != "runtime.NumGoroutine")=true/\∀x∈l,Qb S g (first.toList++[enc x]++capt.toList).toArray (λ v U'=>v=.bool (p x)/\U'=U) U
def Qvr{α:Type}(p:α->Bool)(l:List α):Int:=match l.findIdx? p with|some i=>i|none=>-1
def Qfx{α:Type}{p:α->Bool}{l:List α}(h:∀x∈l,p x=false):Qvr p l = -1:=by
 unfold Qvr;rw[findIdx?_eq_none_iff.2 h]
def Qfy{α:Type}{p:α->Bool}{l:List α}{i:Nat}{x:α}(hx:l[i]?=some x)(hp:p x=true)(h:∀y∈l.take i,p y=false):Qvr p l=i:=by
 unfold Qvr
 have:l.findIdx? p=some i:=by
  obtain⟨hlt,rfl⟩:=List.getElem?_eq_some_iff.1 hx;rw[findIdx?_eq_some_iff_getElem];refine⟨hlt,hp,λ j hj=>?_⟩
  have hm:l[j]'(by omega)∈l.take i:=by
   rw[mem_take_iff_getElem];exact⟨j,by omega,rfl⟩
  simpa using h _ hm
 rw[this]
def Qmc{α:Type}{p:α->Bool}{l:List α}:decide (Qvr p l ≥ 0)=l.any p:=by
 unfold Qvr;cases h:l.findIdx? p with
 |none=>
  rw[findIdx?_eq_none_iff]at h;have:l.any p=false:=by rw[any_eq_false];intro x hx;simp[h x hx]
  rw[this];rfl
 |some i=>
  have:l.any p=true:=by
   rw[findIdx?_eq_some_iff_getElem]at h;obtain⟨hlt,hp,_⟩:=h;exact any_eq_true.2 ⟨l[i],by simp,hp⟩
  rw[this];simp
def Qz7{α:Type}(enc:α->Value)(a:Option Addr)(len cap:Nat)(l:List α)(hl:l.length=len)(hrd:∀i x,l[i]?=some x->∃ad,a=some ad/\ad.spot=none/\U.sees (ad.add (i*1)) (enc x))(hsm:∀x,∃k n,enc x=.int k n)(hlen:len<2^60)(g:FuncId)(first capt:Array Value)(p:α->Bool)
  (hf:Qjv S U g first capt enc l p):Qb S 199 #[.slice a len cap,.func (.func g) first capt] (λ v U'=>v=.int .i64 (Qvr p l)/\U'=U) U:=by
 refine Qb.of (args:=[_,_]) Qye Qd (by simp) ?_
 repeat refine⟨rfl,?_⟩
 refine⟨Nat,λ i=>[(0,.slice a len cap),(1,.func (.func g) first capt),(6,.slice a len cap),(7,.int .i64 len),(8,.int .i64 i)],
  λ i U'=>U'=U/\i<=len/\∀x∈l.take i,p x=false,λ i=>len-i,0,by trivial,⟨rfl,by omega,by simp⟩,?_⟩
 rintro i f _⟨rfl,hi,hinv⟩
 repeat refine⟨rfl,?_⟩
 conv=>whnf
 apply Qe<;>intro hc
 .have hlt:i<len:=by simpa using hc
  have hx:l[i]?=some (l[i]'(by omega)):=by simp
  generalize l[i]'(by omega)=x at hx;obtain⟨ad,rfl,hsp,hs⟩:=hrd i x hx;obtain⟨k,n,he⟩:=hsm x;have hcall:=hf.2 x (mem_of_getElem? hx);rw[he]at hcall hs;refine⟨ad,i,⟨rfl,rfl,hlt⟩,_,hs,hf.1,hcall.mono ?_⟩;rintro v U'⟨rfl,rfl⟩-
  conv=>whnf
  apply Qe<;>intro hc
  .repeat refine⟨rfl,?_⟩
   conv=>whnf
   exact⟨by rw[Qfy hx hc hinv],rfl⟩
  .refine⟨by unfold Zm;omega,?_⟩;refine⟨rfl,i+1,by trivial,⟨rfl,by omega,?_⟩,by show _-_<_-_;omega⟩;intro y hy;rw[Jt hx,mem_append]at hy;rcases hy with hy|hy
   .exact hinv y hy
   .simp at hy;subst hy;exact hc
 .have hge:len<=i:=by simpa using hc
  repeat refine⟨rfl,?_⟩
  refine⟨?_,rfl⟩;rw[take_of_length_le (by omega)]at hinv;rw[Qfx hinv]
def Qz8{α:Type}(enc:α->Value)(a:Option Addr)(len cap:Nat)(l:List α)(hl:l.length=len)(hrd:∀i x,l[i]?=some x->∃ad,a=some ad/\ad.spot=none/\U.sees (ad.add (i*1)) (enc x))(hsm:∀x,∃k n,enc x=.int k n)(hlen:len<2^60)(g:FuncId)(first capt:Array Value)(p:α->Bool)
  (hf:Qjv S U g first capt enc l p):Qb S 137 #[.slice a len cap,.func (.func g) first capt] (λ v U'=>v=.int .i64 (Qvr p l)/\U'=U) U:=by
 refine Qb.of (args:=[_,_]) Qx1 Qd (by simp) ?_
 repeat refine⟨rfl,?_⟩
 refine⟨Nat,λ i=>[(0,.slice a len cap),(1,.func (.func g) first capt),(6,.slice a len cap),(7,.int .i64 len),(8,.int .i64 i)],
  λ i U'=>U'=U/\i<=len/\∀x∈l.take i,p x=false,λ i=>len-i,0,by trivial,⟨rfl,by omega,by simp⟩,?_⟩
 rintro i f _⟨rfl,hi,hinv⟩
 repeat refine⟨rfl,?_⟩
 conv=>whnf
 apply Qe<;>intro hc
 .have hlt:i<len:=by simpa using hc
  have hx:l[i]?=some (l[i]'(by omega)):=by simp
  generalize l[i]'(by omega)=x at hx;obtain⟨ad,rfl,hsp,hs⟩:=hrd i x hx;obtain⟨k,n,he⟩:=hsm x;have hcall:=hf.2 x (mem_of_getElem? hx);rw[he]at hcall hs;refine⟨ad,i,⟨rfl,rfl,hlt⟩,_,hs,hf.1,hcall.mono ?_⟩;rintro v U'⟨rfl,rfl⟩-
  conv=>whnf
  apply Qe<;>intro hc
  .repeat refine⟨rfl,?_⟩
   conv=>whnf
   exact⟨by rw[Qfy hx hc hinv],rfl⟩
  .refine⟨by unfold Zm;omega,?_⟩;refine⟨rfl,i+1,by trivial,⟨rfl,by omega,?_⟩,by show _-_<_-_;omega⟩;intro y hy;rw[Jt hx,mem_append]at hy;rcases hy with hy|hy
   .exact hinv y hy
   .simp at hy;subst hy;exact hc
 .have hge:len<=i:=by simpa using hc
  repeat refine⟨rfl,?_⟩
  refine⟨?_,rfl⟩;rw[take_of_length_le (by omega)]at hinv;rw[Qfx hinv]
def Qwu(a:Option Addr)(len cap:Nat)(l:List Int)(hl:Z3 U a len l)(hlen:len<2^60)(n:Int) :
  Qb S 77 #[.slice a len cap,.int .i64 n] (λ v U'=>v=.int .i64 (Qvr (λ y=>n==y) l)/\U'=U) U:=by
 refine Qb.of (args:=[_,_]) Q3x Qd (by simp) ?_;have hll:=hl.1
 repeat refine⟨rfl,?_⟩
 refine⟨Nat,λ i=>[(0,.slice a len cap),(1,.int .i64 n),(6,.slice a len cap),(7,.int .i64 len),(8,.int .i64 i)],
  λ i U'=>U'=U/\i<=len/\∀x∈l.take i,(n==x)=false,λ i=>len-i,0,by trivial,⟨rfl,by omega,by simp⟩,?_⟩
 rintro i f _⟨rfl,hi,hinv⟩
 repeat refine⟨rfl,?_⟩
 conv=>whnf
 apply Qe<;>intro hc
 .have hlt:i<len:=by simpa using hc
  obtain⟨ad,x,hx,rfl,hsp,hs⟩:=hl.at hlt;refine⟨ad,i,⟨rfl,rfl,hlt⟩,_,hs,?_⟩
  repeat refine⟨rfl,?_⟩
  conv=>whnf
  apply Qe<;>intro hc
  .repeat refine⟨rfl,?_⟩
   conv=>whnf
   exact⟨by rw[Qfy (p:=λ y=>n==y) hx hc hinv],rfl⟩
  .refine⟨by unfold Zm;omega,?_⟩;refine⟨rfl,i+1,by trivial,⟨rfl,by omega,?_⟩,by show _-_<_-_;omega⟩;intro y hy;rw[Jt hx,mem_append]at hy;rcases hy with hy|hy
   .exact hinv y hy
   .simp at hy;subst hy;exact hc
 .have hge:len<=i:=by simpa using hc
  repeat refine⟨rfl,?_⟩
  refine⟨?_,rfl⟩;rw[take_of_length_le (by omega)]at hinv;rw[Qfx hinv]
def Qbt(a:Option Addr)(len cap:Nat)(l:List Int)(hl:Z3 U a len l)(hlen:len<2^60)(n:Int) :
  Qb S 49 #[.slice a len cap,.int .i64 n] (λ v U'=>v=.bool (l.contains n)/\U'=U) U:=by
 refine Qb.of (args:=[_,_]) Qkt Qd (by simp) ?_;refine⟨Q3x.any,(Qwu a len cap l hl hlen n).mono ?_⟩;rintro v U'⟨rfl,rfl⟩-
 repeat refine⟨rfl,?_⟩
 refine⟨?_,rfl⟩;show Value.bool _=_;rw[Qmc];congr 1;rw[Bool.eq_iff_iff];simp
end Go.Proofs
namespace Go.TM
open Go.Proofs
def Ql7(c:UInt8):Bool:=(decide ((c.toNat:Int)<97)|| decide ((c.toNat:Int) > 122))&&(decide ((c.toNat:Int)<48)|| decide ((c.toNat:Int) > 57))
end Go.TM
namespace Go.Proofs
open Go.TM
variable{T:Type}{S:TM.Sys prog T}{U:Qa T}
attribute [local irreducible] Qb Zh
def Qwe(c:UInt8):Qb S 198 #[.int .u8 c.toNat] (λ v U'=>v=.bool (Ql7 c)/\U'=U) U:=by
 refine Qb.of (args:=[_]) Qyd Qd (by simp) ?_;have kk:Ql7 c=((decide ((c.toNat:Int)<97)|| decide ((c.toNat:Int) > 122))&&(decide ((c.toNat:Int)<48)|| decide ((c.toNat:Int) > 57))):=rfl
 repeat refine⟨rfl,?_⟩
 conv=>whnf
 apply Zc<;>intro hc
 .repeat refine⟨rfl,?_⟩
  conv=>whnf
  apply Zc<;>intro hc
  .repeat refine⟨rfl,?_⟩
   conv=>whnf
   apply Zc<;>intro hc
   .repeat refine⟨rfl,?_⟩
    conv=>whnf
    exact⟨by rw[kk];first|(simp_all;done)|(simp_all;omega),rfl⟩
   .repeat refine⟨rfl,?_⟩
    conv=>whnf
    exact⟨by rw[kk];first|(simp_all;done)|(simp_all;omega),rfl⟩
  .repeat refine⟨rfl,?_⟩
   conv=>whnf
   exact⟨by rw[kk];first|(simp_all;done)|(simp_all;omega),rfl⟩
 .repeat refine⟨rfl,?_⟩
  conv=>whnf
  apply Zc<;>intro hc
  .repeat refine⟨rfl,?_⟩
   conv=>whnf
   exact⟨by rw[kk];first|(simp_all;done)|(simp_all;omega),rfl⟩
  .repeat refine⟨rfl,?_⟩
   conv=>whnf
   exact⟨by rw[kk];first|(simp_all;done)|(simp_all;omega),rfl⟩
end Go.Proofs
namespace Go.TM
open Go.Proofs
def Zf(s:ByteArray):Bool:=W1 s.size 1 10&&((match s.data.toList with|c::_=>!(decide ((c.toNat:Int)<97))&&!(decide ((c.toNat:Int) > 122))|[]=>false)&&!(s.data.toList.any Ql7))
end Go.TM
namespace Go.Proofs
open Go.TM
variable{T:Type}{S:TM.Sys prog T}{U:Qa T}
attribute [local irreducible] Qb Zh
def Qkn(a:Option Addr)(len cap:Nat)(l:List UInt8)(hl:l.length=len)(hrd:∀(i:Nat)x,l[i]?=some x->∃ad,a=some ad/\ad.spot=none/\U.sees (ad.add (i*1)) (.int .u8 x.toNat))(hlen:len<2^60) :
  Qb S 197 #[.slice a len cap,.func (.func 198) #[] #[]] (λ v U'=>v=.bool (l.any Ql7)/\U'=U) U:=by
 refine Qb.of (args:=[_,_]) Qyc Qd (by simp) ?_;refine⟨Qye.any,(Qz7 (λ c:UInt8=>.int .u8 c.toNat) a len cap l hl hrd (λ x=>⟨_,_,rfl⟩) hlen 198 #[] #[] Ql7 ⟨Qyd.any,λ x _=>Qwe x⟩).mono ?_⟩;rintro v U'⟨rfl,rfl⟩-
 repeat refine⟨rfl,?_⟩
 refine⟨?_,rfl⟩;show Value.bool _=_;rw[Qmc]
def Zex:prog.underlying 9=some .string:=by kernel_rfl
def Zhx:prog.underlying 139=some (.slice 5):=by kernel_rfl
def Q4w:prog.underlying 5=some (.int .u8):=by kernel_rfl
def Ztj{s:ByteArray}{c:UInt8}{r:List UInt8}(h:s.data.toList=c::r):s[0]?=some c:=by
 have h1:s.data[0]?=some c:=by rw[<- Array.getElem?_toList,h];rfl
 obtain⟨hlt,he⟩:=Array.getElem?_eq_some_iff.1 h1;rw[getElem?_pos s 0 (by simpa using hlt)];exact congrArg some he
def Qsb(s:ByteArray)(hs:s.size<2^60):Qb S 196 #[.string s] (λ v U'=>v=.bool (Zf s)/\U'=U) U:=by
 refine Qb.pure' (Qb.of (args:=[_]) Qyb Qd (by simp) ?_);have hsz:s.size=s.data.toList.length:=by rw[Array.length_toList];rfl
 refine⟨Qfg.any,(Wt _ _ _ _).mono ?_⟩;rintro v U'⟨rfl,rfl⟩-
 conv=>whnf
 apply Zc<;>intro hc
 .have hb:W1 (s.size:Int) 1 10=true:=by simpa using hc
  cases hd:s.data.toList with
  |nil=>rw[hsz,hd]at hb;simp[W1]at hb
  |cons c r=>
   have hk:Zf s=(!(decide ((c.toNat:Int)<97))&&!(decide ((c.toNat:Int) > 122))&&!((c::r).any Ql7)):=by unfold Zf;rw[hb,hd];rfl
   refine⟨0,c,⟨rfl,Ztj hd⟩,?_⟩
   repeat refine⟨rfl,?_⟩
   conv=>whnf
   apply Zc<;>intro hc
   .have h1:decide ((c.toNat:Int)<97)=false:=by simpa using hc
    refine⟨0,c,⟨rfl,Ztj hd⟩,?_⟩
    repeat refine⟨rfl,?_⟩
    conv=>whnf
    apply Qe<;>intro hc
    .repeat refine⟨rfl,?_⟩
     conv=>whnf
     exact⟨by rw[hk,hc];simp,Qa.le.lg (.refl _)⟩
    .conv=>whnf
     refine Zjf Zex Zhx Q4w rfl λ b cap cs fr hb' hcs=>?_;refine⟨Qyc.any,(Qkn (some ⟨b,0,none⟩) s.size cap (c::r) (by rw[hsz,hd]) (λ i x hx=>⟨_,rfl,rfl,?_⟩) hs).mono ?_⟩
     .rw[Qo];refine⟨rfl,.inl ⟨cs,5,fr,.inl (by simp[Qg0]),?_⟩⟩;have:=hcs i x (by rw[<- Array.getElem?_toList,hd];exact hx);simpa using this
     rintro v U''⟨rfl,rfl⟩-
     repeat refine⟨rfl,?_⟩
     refine⟨?_,(Qor hb').lg⟩;show Value.bool _=_;rw[hk,h1,hc];simp
   .have h1:decide ((c.toNat:Int)<97)=true:=by simpa using hc
    repeat refine⟨rfl,?_⟩
    conv=>whnf
    exact⟨by rw[hk,h1];rfl,Qa.le.lg (.refl _)⟩
 .have hb:W1 (s.size:Int) 1 10=false:=by simpa using hc
  repeat refine⟨rfl,?_⟩
  conv=>whnf
  exact⟨by unfold Zf;rw[hb];rfl,Qa.le.lg (.refl _)⟩
end Go.Proofs
namespace Go.TM
variable{T:Type}{U:Qa T}
def Qv9{v:Value}{l:List Int}{M₀:List Qv}(h:Acc 3 1 v (l.map λ n=>.int .i64 n) U.M M₀):∃a cap,v=.slice a l.length cap/\Z3 U a l.length l:=by
 obtain⟨a,len,cap,rfl,hl,hs⟩:=h.src;simp at hl;subst hl;refine⟨a,cap,rfl,rfl,λ i x hx=>?_⟩;rcases h with⟨h1,h2,_⟩|⟨b,c,len,cap',h1,h2,h3,h4,hM,h5⟩
 .rw[map_eq_nil_iff]at h2;subst h2;simp at hx
 .cases h1;refine⟨_,rfl,rfl,?_⟩;rw[Qo];exact⟨rfl,.inl ⟨c,3,(0,0),.inr (by rw[hM];exact mem_cons_self ..),by simpa using h5 i (.int .i64 x) (by simp[hx])⟩⟩
end Go.TM
namespace Go.Proofs
open Go.TM
variable{T:Type}{S:TM.Sys prog T}{U:Qa T}
attribute [local irreducible] Qb Zh We
def Qay:SlT prog 22 3 1:=.of (by kernel_rfl)
def Qh0:prog.underlying 22=some (.slice 3):=by kernel_rfl
def Qjg(a:Option Addr)(len cap:Nat)(l:List Int)(hl:Z3 U a len l)(hlen:len<=1000000) :
  Qb S 103 #[.slice a len cap] (λ v U'=>Acc 3 1 v (l.map λ n=>.int .i64 n) U'.M U.M/\(∀x o,U.I x=some o->U'.I x=some o)/\U'.tok=U.tok) U:=by
 refine Qb.of (args:=[_]) Qfd Qd (by simp) ?_;have hll:=hl.1
 conv=>whnf
 refine Qi7 Qh0 rfl ?_
 conv=>whnf
 apply Qe<;>intro hc
 .have ha:a=none:=by simpa using hc
  subst ha
  have:l=[]:=by
   cases l with
   |nil=>rfl
   |cons x r=>obtain⟨ad,h,_⟩:=hl.2 0 x rfl;cases h
  subst this
  repeat refine⟨rfl,?_⟩
  conv=>whnf
  exact⟨.nil,λ _ _ h=>h,rfl⟩
 .obtain⟨ad,rfl⟩:∃ad,a=some ad:=by cases a with|none=>cases hc|some ad=>exact⟨ad,rfl⟩
  conv=>whnf
  intro b5 hf5;refine⟨_,.refl _,?_⟩
  conv=>whnf
  refine Ws (v:=.slice (some ⟨b5,0,none⟩) 0 0) (cs:=[]) (new:=l.map λ n=>.int .i64 n) (M₀:=U.M) Qay rfl rfl .empty (.inr ⟨_,rfl,λ i v hv=>?_⟩) (by simp[hll]) (by simp[Value.single]) (by simp;omega) λ v' M' ha' _=>?_
  .rw[getElem?_map]at hv;cases hx:l[i]? with
   |none=>rw[hx]at hv;cases hv
   |some x=>
    rw[hx]at hv;cases hv;obtain⟨ad',e,_,hs⟩:=hl.2 i x hx;cases e;rw[Nat.mul_one]at hs;exact hs.lg (Z0 b5 _)
  obtain⟨ta,tl,tc,rfl,-,-⟩:=Acc.src (U:={ U with M:=M' }) ha'
  repeat refine⟨rfl,?_⟩
  conv=>whnf
  exact⟨by simpa using ha',λ _ _ h=>h,rfl⟩
end Go.Proofs
namespace Go.TM
variable{T:Type}{U:Qa T}
def Zk{b:Nat}{c:Array Value}{t:TypeId}{Q:Qa T->Prop}(hf:U.free b)(h:∀U1,U.le U1->Zd U1 b c->Q U1):∃U1,Qw (U.put b (.cells c t)) U1/\Q U1:=
 ⟨_,Wf (b:=b) (M':=U.M) (Perm.refl _),h _ (Qor hf) Zd.new⟩
def Qgn{b:Nat}{c:Array Value}{t:TypeId}{vs:List Value}{Q:Qa T->Prop}(hsz:c.size=vs.length)(hs:∀v∈vs,v.single=true)(h:Q (U.put b (.cells vs.toArray t))) :
  StV ⟨b,0,none⟩ vs 0 (λ U'=>∃U1,Qw U' U1/\Q U1) (U.put b (.cells c t)):=by
 refine Qf7 vs 0 c _ rfl hs (by omega) ?_;rw[Qi2 hsz];exact⟨_,.refl _,h⟩
def Zq8{b i:Nat}{c:Array Value}{t:TypeId}{v:Value}{Q:Qa T->Prop}(hf:U.free b)(hi:i<c.size)(hs:v.single=true)(h:∀U1,U.le U1->Zd U1 b (c.setIfInBounds i v)->Q U1) :
  StV ((Addr.mk b 0 none).add i) [v] 0 (λ U'=>∃U1,Qw U' U1/\Q U1) (U.put b (.cells c t)):=by
 rw[Qo];refine Qf7 [v] 0 c _ rfl (by simpa using hs) (by simp;omega) ?_;simp only[Qcv,Nat.zero_add,Nat.add_zero];exact Zk hf h
def Qc2{α:Type}{l l':List α}{i:Nat}{x y:α}(hx:l[i]?=some x)(hy:l'[i]?=some y)(h:l.take i=l'.take i)(e:x=y):l.take (i+1)=l'.take (i+1):=by
 rw[Jt hx,Jt hy,h,e]
def Qmf{α:Type}{l l':List α}{i:Nat}{x y:α}(hx:l[i]?=some x)(hy:l'[i]?=some y)(e:x≠y):l≠l':=by
 rintro rfl;exact e (Option.some.inj (hx.symm.trans hy))
end Go.TM
namespace Go.Proofs
open Go.TM
variable{T:Type}{S:TM.Sys prog T}{U:Qa T}
attribute [local irreducible] Qb Zh We
def Qa7(a a':Option Addr)(len cap len' cap':Nat)(l l':List Int)(hl:Z3 U a len l)(hl':Z3 U a' len' l')(hlen:len<2^60) :
  Qb S 26 #[.slice a len cap,.slice a' len' cap'] (λ v U'=>v=.bool (decide (l=l'))/\U'=U) U:=by
 refine Qb.pure' (Qb.of (args:=[_,_]) Qfe Qd (by simp) ?_);have h1:=hl.1;have h2:=hl'.1
 repeat refine⟨rfl,?_⟩
 conv=>whnf
 apply Qe<;>intro hc
 .have hne:len≠len':=by intro e;subst e;simp at hc
  repeat refine⟨rfl,?_⟩
  refine⟨?_,(Qa.le.refl _).lg⟩;rw[decide_eq_false (λ e=>hne (by rw[<- h1,<- h2,e]))]
 have hee:len=len':=Int.ofNat.inj (by simpa using hc:(len:Int)=len');subst hee;refine⟨Nat,λ i=>[(0,.slice a len cap),(1,.slice a' len cap'),(5,.int .i64 i)],λ i U'=>U.le U'/\i<=len/\l.take i=l'.take i,λ i=>len-i,0,by trivial,⟨.refl _,by omega,rfl⟩,?_⟩;rintro i f U1⟨hle,hi,htk⟩
 repeat refine⟨rfl,?_⟩
 conv=>whnf
 apply Qe<;>intro hc
 .have hlt:i<len:=by simpa using hc
  obtain⟨ad,x,hx,rfl,-,hs⟩:=(hl.lg hle.lg).at hlt;obtain⟨ad',y,hy,rfl,-,hs'⟩:=(hl'.lg hle.lg).at hlt;have hin:Zm (i+1):=by unfold Zm;omega
  refine⟨ad,i,⟨rfl,rfl,hlt⟩,_,hs,ad',i,⟨rfl,rfl,hlt⟩,_,hs',?_⟩
  conv=>whnf
  intro U2 hle_2 _
  repeat refine⟨rfl,?_⟩
  conv=>whnf
  apply Qe<;>intro hc
  .have hne:x≠y:=by simpa using hc
   repeat refine⟨rfl,?_⟩
   conv=>whnf
   exact⟨by rw[decide_eq_false (Qmf hx hy hne)],(hle.trans hle_2).lg⟩
  .have hxy:x=y:=by simpa using hc
   refine⟨hin,?_⟩
   conv=>whnf
   exact⟨rfl,i+1,by trivial,⟨hle.trans hle_2,by omega,Qc2 hx hy htk hxy⟩,by show _-_<_-_;omega⟩
 .have hge:len<=i:=by simpa using hc
  rw[take_of_length_le (by omega),take_of_length_le (by omega)]at htk
  repeat refine⟨rfl,?_⟩
  conv=>whnf
  exact⟨by rw[decide_eq_true htk],hle.lg⟩
end Go.Proofs
namespace Go.TM
variable{T:Type}{U:Qa T}
def Qg8(l:List Int)(i j:Nat):Prop:=(∀p q x y,p<q->q<=i->p≠j->q≠j->l[p]?=some x->l[q]?=some y->x<=y)/\(∀q x y,j<q->q<=i->l[j]?=some x->l[q]?=some y->x<=y)
def Qg9(l:List Int)(i:Nat):Prop:=∀p q x y,p<q->q<i->l[p]?=some x->l[q]?=some y->x<=y
def Qg8.start{l:List Int}{i:Nat}(h:Qg9 l i):Qg8 l i i:=
 ⟨λ p q x y h1 h2 _ h4 hx hy=>h p q x y h1 (by omega) hx hy,λ q x y h1 h2=>by omega⟩
def Qg8.done{l:List Int}{i j:Nat}(h:Qg8 l i j)(hj:j<=i)(h0:j=0\/∃x y,l[j]?=some x/\l[j-1]?=some y/\y<=x):Qg9 l (i+1):=by
 intro p q x y hpq hq hx hy;by_cases e:q=j
 .subst e;rcases h0 with h0|⟨x',y',hx',hy',hle⟩
  .omega
  .rw[hx']at hy;cases hy;by_cases e':p=q-1
   .subst e';rw[hy']at hx;cases hx;exact hle
   .have:=h.1 p (q-1) x y' (by omega) (by omega) (by omega) (by omega) hx hy';omega
 .by_cases e':p=j
  .subst e';exact h.2 q x y hpq (by omega) hx hy
  .exact h.1 p q x y hpq (by omega) e' e hx hy
def Qg8.step{l:List Int}{i j:Nat}{x y:Int}(h:Qg8 l i j)(hj:j<=i)(h0:0<j)(hx:l[j]?=some x)(hy:l[j-1]?=some y)(hlt:x<y):Qg8 ((l.set j y).set (j-1) x) i (j-1):=by
 have hjl:j<l.length:=(List.getElem?_eq_some_iff.1 hx).1
 have get:∀k,((l.set j y).set (j-1) x)[k]?=if k=j-1 then some x else if k=j then some y else l[k]?:=by
  intro k;rw[getElem?_set,getElem?_set];by_cases e:j-1=k
  .subst e;rw[if_pos rfl,if_pos (by simp;omega),if_pos rfl]
  .have e2:¬k=j-1:=λ h=>e h.symm;rw[if_neg e,if_neg e2];by_cases e':j=k
   .subst e';rw[if_pos rfl,if_pos hjl,if_pos rfl]
   .have e3:¬k=j:=λ h=>e' h.symm;rw[if_neg e',if_neg e3]
 refine⟨λ p q u v hpq hq hp1 hq1 hu hv=>?_,λ q u v hq hqi hu hv=>?_⟩
 .rw[get,if_neg hp1]at hu;rw[get,if_neg hq1]at hv;by_cases e:p=j
  .subst e;rw[if_pos rfl]at hu;cases hu;rw[if_neg (by omega)]at hv;exact h.1 (p-1) q y v (by omega) hq (by omega) (by omega) hy hv
  .rw[if_neg e]at hu;by_cases e':q=j
   .subst e';rw[if_pos rfl]at hv;cases hv;exact h.1 p (q-1) u y (by omega) (by omega) (by omega) (by omega) hu hy
   .rw[if_neg e']at hv;exact h.1 p q u v hpq hq e e' hu hv
 .rw[get,if_pos rfl]at hu;cases hu;rw[get,if_neg (by omega)]at hv;by_cases e:q=j
  .subst e;rw[if_pos rfl]at hv;cases hv;omega
  .rw[if_neg e]at hv;exact h.2 q x v (by omega) hqi hx hv
end Go.TM
namespace Go.Proofs
open Go.TM
variable{T:Type}{S:TM.Sys prog T}{U:Qa T}
attribute [local irreducible] Qb Zh We
def Q4f(n:Int):Qb S 173 #[.int .i64 n] (λ v U'=>v=.bool false/\U'=U) U:=by
 refine Qb.pure' (Qb.of (args:=[_]) Qx7 Qd (by simp) ?_)
 repeat refine⟨rfl,?_⟩
 conv=>whnf
 exact⟨by simp,(Qa.le.refl _).lg⟩
def Q0b(a b:Int):Qb S 163 #[.int .i64 a,.int .i64 b] (λ v U'=>v=.bool (decide (a<b))/\U'=U) U:=by
 refine Qb.pure' (Qb.of (args:=[_,_]) Qx5 Qd (by simp) ?_);refine⟨Qx7.any,(Q4f a).mono ?_⟩;rintro _ U'⟨rfl,rfl⟩-
 repeat refine⟨rfl,?_⟩
 conv=>whnf
 exact(Qa.le.refl _).lg
def Zq4{s:ByteArray}{n:Nat}{K:UInt8->Prop}(h:n<s.size)(hK:∀c,K c):∃(j:Nat)(b:UInt8),((n:Int)=j/\s[j]?=some b)/\K b:=
 ⟨n,_,⟨rfl,getElem?_pos s n h⟩,hK _⟩
def Qz1(n:Nat)(hn:n<256):Qb S 167 #[.int .u64 n] (λ v U'=>(∃m,v=.int .i64 m)/\U'=U) U:=by
 refine Qb.pure' (Qb.of (args:=[_]) Qx6 Qd (by simp) ?_)
 repeat refine⟨rfl,?_⟩
 conv=>whnf
 apply Qe<;>intro hc
 .simp at hc;omega
 repeat refine⟨rfl,?_⟩
 conv=>whnf
 apply Qe<;>intro hc
 .simp at hc;omega
 repeat refine⟨rfl,?_⟩
 conv=>whnf
 apply Qe<;>intro hc
 .simp at hc;omega
 conv=>whnf
 have hw:IntKind.wrap .u8 (n:Int)=n:=by
  have e1:(2:Int)^8=256:=by decide
  simp only[IntKind.wrap,IntKind.bits,IntKind.signed,Bool.false_and,e1];simp;omega
 rw[hw];refine Zq4 (by exact hn) λ c=>?_;have hc:=c.toNat_lt;have hw2:IntKind.wrap .i64 (c.toNat:Int)=c.toNat:=Qdx (by unfold Zm;omega)
 conv=>whnf
 rw[hw2];refine⟨by unfold Zm;omega,?_⟩
 conv=>whnf
 exact⟨⟨_,rfl⟩,(Qa.le.refl _).lg⟩
end Go.Proofs
namespace Go.TM
variable{T:Type}{U:Qa T}
def Qrj{b k:Nat}{c:Array Value}{e:TypeId}{v:Value}{M₀:List Qv}(hM:U.M=.obj b (.cells c e (0,0))::M₀)(h:c[k]?=some v):U.sees ((Addr.mk b 0 none).add (k*1)) v:=by
 rw[Nat.mul_one,Qo];exact⟨rfl,.inl ⟨c,e,(0,0),.inr (by rw[hM];exact mem_cons_self ..),by simpa using h⟩⟩
def Qg9.le{l:List Int}{i j:Nat}(h:Qg9 l i)(hij:j<=i):Qg9 l j:=λ p q x y h1 h2=>h p q x y h1 (by omega)
def Qjw(c:Array Value)(l:List Int):Prop:=∀(k:Nat)(x:Int),l[k]?=some x->c[k]?=some (.int .i64 x)
def Qjw.set{c:Array Value}{l:List Int}(h:Qjw c l)(hl:l.length<=c.size)(i:Nat)(x:Int):Qjw (c.setIfInBounds i (.int .i64 x)) (l.set i x):=by
 intro k y hy;rw[getElem?_set]at hy;by_cases e:i=k
 .subst e;rw[if_pos rfl]at hy;split at hy
  .cases hy;rw[Array.getElem?_setIfInBounds_self_of_lt (by omega)]
  .cases hy
 .rw[if_neg e]at hy;rw[Array.getElem?_setIfInBounds_ne e];exact h k y hy
def Zjt{l:List Int}{j:Nat}{x y:Int}(h0:0<j)(hx:l[j]?=some x)(hy:l[j-1]?=some y):((l.set j y).set (j-1) x).Perm l:=by
 obtain⟨h1,rfl⟩:=List.getElem?_eq_some_iff.1 hx;obtain⟨h2,rfl⟩:=List.getElem?_eq_some_iff.1 hy;exact set_set_perm h1 h2
end Go.TM
namespace Go.Proofs
open Go.TM
variable{T:Type}{S:TM.Sys prog T}{U:Qa T}
attribute [local irreducible] Qb Zh We
def Qwv(b cap:Nat)(l:List Int)(c_0:Array Value)(M₀:List Qv)(hM_0:U.M=.obj b (.cells c_0 3 (0,0))::M₀)(hcap:l.length<=cap)(hsz0:c_0.size=cap)(hc_0:Qjw c_0 l)(hn:l.length<2^40) :
  Qb S 157 #[.slice (some ⟨b,0,none⟩) l.length cap,.int .i64 0,.int .i64 l.length] (λ _ U'=>(∀x o,U.I x=some o->U'.I x=some o)/\U'.tok=U.tok/\∃l' c',l'.Perm l/\Qg9 l' l.length/\U'.M=.obj b (.cells c' 3 (0,0))::M₀/\c'.size=cap/\Qjw c' l') U:=by
 refine Qb.of (args:=[_,_,_]) Qio Qd (by simp) ?_
 repeat refine⟨rfl,?_⟩
 refine⟨by unfold Zm;omega,?_⟩
 refine⟨Nat×List Int×Array Value,λ y=>[(0,.slice (some ⟨b,0,none⟩) l.length cap),(1,.int .i64 0),(2,.int .i64 l.length),(6,.int .i64 y.1)],
  λ y U'=>(∀x o,U.I x=some o->U'.I x=some o)/\U'.tok=U.tok/\U'.M=.obj b (.cells y.2.2 3 (0,0))::M₀/\y.2.2.size=cap/\Qjw y.2.2 y.2.1/\y.2.1.Perm l/\Qg9 y.2.1 y.1/\1<=y.1/\y.1<2^41,
  λ y=>l.length-y.1,(1,l,c_0),by trivial,⟨λ _ _ h=>h,rfl,hM_0,hsz0,hc_0,.refl _,λ p q _ _ h1 h2=>by omega,by simp only;omega,by simp only;omega⟩,?_⟩
 rintro⟨i,cur,c⟩f U1⟨hI,ht,hM,hsz,hcc,hpm,hst,hi1,hi2⟩;simp only at hM hsz hcc hpm hst hi1 hi2
 repeat refine⟨rfl,?_⟩
 conv=>whnf
 apply Qe<;>intro hc
 .have hlt:i<l.length:=by simpa using hc
  have hin:Zm (i+1):=by unfold Zm;omega
  refine⟨Nat×List Int×Array Value,λ y=>[(0,.slice (some ⟨b,0,none⟩) l.length cap),(1,.int .i64 0),(2,.int .i64 l.length),(6,.int .i64 i),(7,.int .i64 y.1)],
   λ y U'=>(∀x o,U.I x=some o->U'.I x=some o)/\U'.tok=U.tok/\U'.M=.obj b (.cells y.2.2 3 (0,0))::M₀/\y.2.2.size=cap/\Qjw y.2.2 y.2.1/\y.2.1.Perm l/\Qg8 y.2.1 i y.1/\y.1<=i,
   λ y=>y.1,(i,cur,c),by trivial,⟨hI,ht,hM,hsz,hcc,hpm,.start hst,by simp only;omega⟩,?_⟩
  rintro⟨j,cur,c⟩f U2⟨hI,ht,hM,hsz,hcc,hpm,hsb,hj⟩;simp only at hM hsz hcc hpm hsb hj;have hcl:=hpm.length_eq
  repeat refine⟨rfl,?_⟩
  conv=>whnf
  apply Zc<;>intro hc
  .have h0:0<j:=by simp at hc;omega
   have hx:cur[j]?=some (cur[j]'(by omega)):=by simp
   generalize cur[j]'(by omega)=x at hx;have hy:cur[j-1]?=some (cur[j-1]'(by omega)):=by simp
   generalize cur[j-1]'(by omega)=y at hy;have hi1:Zm ((j:Int)-1):=by unfold Zm;omega
   have hj1:(j:Int)-1=((j-1:Nat):Int):=by omega
   repeat refine⟨rfl,?_⟩
   refine⟨_,j,⟨rfl,rfl,by omega⟩,_,Qrj hM (hcc j x hx),?_⟩
   repeat refine⟨rfl,?_⟩
   refine⟨hi1,_,j-1,⟨rfl,hj1,by omega⟩,_,Qrj hM (hcc (j-1) y hy),?_⟩
   conv=>whnf
   intro U3 h_3 _;have hM_3:=h_3.own.trans hM;refine⟨Qx5.any,(Q0b x y).go λ _=>?_⟩
   repeat refine⟨rfl,?_⟩
   conv=>whnf
   apply Qe<;>intro hc
   .have hxy:x<y:=of_decide_eq_true hc;refine⟨λ U'=>(∀x o,U.I x=some o->U'.I x=some o)/\U'.tok=U.tok/\U'.M=.obj b (.cells (c.setIfInBounds j (.int .i64 y)) 3 (0,0))::M₀,λ U U'⟨a,b,c⟩hle=>⟨λ x o h=>hle.imm x o (a x o h),hle.tok.trans b,hle.own.trans c⟩,hi1,hi1,_,j-1,⟨rfl,hj1,by omega⟩,_,Qrj hM_3 (hcc (j-1) y hy),_,j,⟨rfl,rfl,by omega⟩,_,Qrj hM_3 (hcc j x hx),_,j,⟨rfl,rfl,by omega⟩,?_⟩
    conv=>whnf
    intro U4 h_4 _;refine⟨⟨rfl,?_⟩,λ U5 hG=>?_⟩
    .show StV ((Addr.mk b 0 none).add (j*1)) [.int .i64 y] 0 _ _;rw[Nat.mul_one];exact Q6s [] (h_4.own.trans hM_3) (by omega) rfl ⟨rfl,_,.refl _,λ x o h=>h_4.imm x o (h_3.imm x o (hI x o h)),h_4.tok.trans (h_3.tok.trans ht),rfl⟩
    obtain⟨hI_5,ht_5,hM_5⟩:=hG;refine⟨_,j-1,⟨rfl,hj1,by omega⟩,rfl,?_⟩;show StV ((Addr.mk b 0 none).add ((j-1)*1)) [.int .i64 x] 0 _ _;rw[Nat.mul_one];refine Q6s [] hM_5 (by simp;omega) rfl ?_;refine⟨hi1,?_⟩
    conv=>whnf
    exact⟨rfl,(j-1,(cur.set j y).set (j-1) x,(c.setIfInBounds j (.int .i64 y)).setIfInBounds (j-1) (.int .i64 x)),⟨rfl,rfl,rfl,rfl,by rw[<- hj1];rfl,trivial⟩,⟨hI_5,ht_5,rfl,by simpa using hsz,(hcc.set (by omega) j y).set (by simp;omega) (j-1) x,(Zjt h0 hx hy).trans hpm,hsb.step hj h0 hx hy hxy,by simp only;omega⟩,by show j-1<j;omega⟩
   .have hxy:¬x<y:=of_decide_eq_false hc;refine⟨hin,?_⟩
    conv=>whnf
    exact⟨rfl,(i+1,cur,c),by trivial,⟨λ x o h=>h_3.imm x o (hI x o h),h_3.tok.trans ht,hM_3,hsz,hcc,hpm,hsb.done hj (.inr ⟨x,y,hx,hy,by omega⟩),by simp only;omega,by simp only;omega⟩,by show _-_<_-_;omega⟩
  .have h0:j=0:=by simp at hc;omega
   conv=>whnf
   intro U3 h_3 _;have hM_3:=h_3.own.trans hM
   repeat refine⟨rfl,?_⟩
   refine⟨hin,?_⟩
   conv=>whnf
   exact⟨rfl,(i+1,cur,c),by trivial,⟨λ x o h=>h_3.imm x o (hI x o h),h_3.tok.trans ht,hM_3,hsz,hcc,hpm,hsb.done hj (.inl h0),by simp only;omega,by simp only;omega⟩,by show _-_<_-_;omega⟩
 .have hge:l.length<=i:=by simpa using hc
  repeat refine⟨rfl,?_⟩
  conv=>whnf
  exact⟨hI,ht,cur,c,hpm,hst.le hge,hM,hsz,hcc⟩
def Qsc:Qb S 157 #[.slice none 0 0,.int .i64 0,.int .i64 (0:Nat)] (λ _ U'=>U'=U) U:=by
 refine(Qb.pure' (Q:=λ _=>True) (Qb.of (args:=[_,_,_]) Qio Qd (by simp) ?_)).mono λ _ _ h=>h.2
 repeat refine⟨rfl,?_⟩
 refine⟨by unfold Zm;omega,?_⟩;refine⟨Unit,λ _=>[(2,.int .i64 (0:Nat)),(6,.int .i64 1)],λ _ U'=>U'=U,λ _=>0,(),by trivial,rfl,?_⟩;rintro _ f _ rfl
 repeat refine⟨rfl,?_⟩
 conv=>whnf
 exact⟨trivial,(Qa.le.refl _).lg⟩
def Qqk(n:Nat)(hn:n<256):Qb S 149 #[.int .u64 n] (λ v U'=>(∃m,v=.int .i64 m)/\U'=U) U:=by
 refine Qb.pure' (Qb.of (args:=[_]) Qx4 Qd (by simp) ?_);refine⟨Qx6.any,(Qz1 n hn).mono ?_⟩;rintro _ U'⟨⟨m,rfl⟩,rfl⟩-
 repeat refine⟨rfl,?_⟩
 conv=>whnf
 exact⟨⟨_,rfl⟩,(Qa.le.refl _).lg⟩
def Q4r(v:Value)(l:List Int)(M₀:List Qv)(m:Int)(ha:Acc 3 1 v (l.map λ n=>.int .i64 n) U.M M₀)(hlen:l.length<=12) :
  Qb S 148 #[v,.int .i64 0,.int .i64 l.length,.int .i64 m] (λ _ U'=>(∀x o,U.I x=some o->U'.I x=some o)/\U'.tok=U.tok/\∃l',l'.Perm l/\Qg9 l' l.length/\Acc 3 1 v (l'.map λ n=>.int .i64 n) U'.M M₀) U:=by
 obtain⟨sa,sc,rfl,-⟩:=Qv9 ha;refine Qb.of (args:=[_,_,_,_]) Qx3 Qd (by simp) ?_
 repeat refine⟨rfl,?_⟩
 refine⟨Unit,λ _=>[(0,.slice sa l.length sc),(1,.int .i64 0),(2,.int .i64 l.length),(3,.int .i64 m)],λ _ U'=>U'=U,λ _=>0,(),by trivial,rfl,?_⟩;rintro _ f U' hU';obtain rfl:=hU'.symm
 repeat refine⟨rfl,?_⟩
 refine⟨by unfold Zm;omega,?_⟩
 repeat refine⟨rfl,?_⟩
 conv=>whnf
 apply Qe<;>intro hc
 .conv=>whnf
  rcases ha with⟨h1,h2,hM⟩|⟨b,c,len,cap,h1,h2,h3,h4,hM,h5⟩
  .rw[map_eq_nil_iff]at h2;subst h2;cases h1;refine⟨Qio.any,Qsc.mono ?_⟩;rintro _ U' hU' -;obtain rfl:=hU'.symm
   repeat refine⟨rfl,?_⟩
   conv=>whnf
   exact⟨λ _ _ h=>h,rfl,[],.refl _,λ p q _ _ h1 h2=>by simp at h2,.inl ⟨rfl,rfl,hM⟩⟩
  .cases h1;refine⟨Qio.any,(Qwv b sc l c M₀ hM h3 (by omega) (λ k x hx=>h5 k _ (by simp[hx])) (by omega)).mono ?_⟩;rintro v U'⟨hI,ht,l',c',hp,hs,hM',hsz,hcc⟩-
   repeat refine⟨rfl,?_⟩
   refine⟨hI,ht,l',hp,hs,.inr ⟨b,c',l.length,sc,rfl,by simp[hp.length_eq],h3,by omega,hM',λ k x hx=>?_⟩⟩;rw[getElem?_map]at hx;cases hy:l'[k]? with
   |none=>rw[hy]at hx;cases hx
   |some y=>rw[hy]at hx;cases hx;exact hcc k y hy
 .simp at hc;omega
def Q0m(v:Value)(l:List Int)(M₀:List Qv)(ha:Acc 3 1 v (l.map λ n=>.int .i64 n) U.M M₀)(hlen:l.length<=12) :
  Qb S 138 #[v] (λ _ U'=>(∀x o,U.I x=some o->U'.I x=some o)/\U'.tok=U.tok/\∃l',l'.Perm l/\Qg9 l' l.length/\Acc 3 1 v (l'.map λ n=>.int .i64 n) U'.M M₀) U:=by
 obtain⟨sa,sc,rfl,-⟩:=Qv9 ha;refine Qb.of (args:=[_]) Qx2 Qd (by simp) ?_
 have hw:IntKind.wrap .u64 (l.length:Int)=l.length:=by
  have e1:(2:Int)^64=18446744073709551616:=by decide
  simp only[IntKind.wrap,IntKind.bits,IntKind.signed,Bool.false_and,e1];simp;omega
 conv=>whnf
 rw[hw];refine⟨Qx4.any,(Qqk l.length (by omega)).mono ?_⟩;rintro _ U'⟨⟨m,rfl⟩,hU'⟩-;obtain rfl:=hU'.symm;refine⟨Qx3.any,(Q4r _ l M₀ m ha hlen).mono ?_⟩;rintro v U' hq -;cases v <;> (conv=>whnf) <;> exact hq
end Go.Proofs
namespace Go.TM
def Zm7(a b:ByteArray):(a==b)=decide (a=b):=by
 rw[Bool.eq_iff_iff]
 cases a with|mk x=>cases b with|mk y=>
 show(ByteArray.beq ⟨x⟩ ⟨y⟩)=true↔_;simp[ByteArray.beq]
def Zju{l:List Int}{i:Nat}{x:Int}(hx:l[i]?=some x):(if i+1=0 then none else l[i+1-1]?)=some x:=by simpa using hx
def Qfw:Nat->List ByteArray->List (ByteArray×Value)
 |_,[]=>[]
 |j,s::l=>(s,.int .i64 j)::Qfw (j+1) l
def Q09(s:ByteArray):∀(l:List ByteArray)(j i:Nat),if Qg3 l s then ∃n:Int,(lkI s (Qfw j l) i).map (·.2)=some (.int .i64 n)else(lkI s (Qfw j l) i).map (·.2)=none
 |[],_,_=>rfl
 |a::l,j,i=>by
  simp only[Qfw,lkI,Qg3,any_cons];by_cases e:s=a
  .simp[e]
  .rw[if_neg e];have h:=Q09 s l (j+1) (i+1);simp only[Qg3]at h;rw[show decide (a=s)=false from decide_eq_false (Ne.symm e),Bool.false_or];exact h
def Q56{s:ByteArray}{l:List ByteArray}(h:Qg3 l s=true):∃n:Int,lk s (Qfw 0 l)=some (.int .i64 n):=by
 have:=Q09 s l 0 0
 rwa [if_pos h]at this
def Q55{s:ByteArray}{l:List ByteArray}(h:Qg3 l s=false):lk s (Qfw 0 l)=none:=by
 have:=Q09 s l 0 0
 rwa [h]at this
def Zfy(s:ByteArray):∀(l:List ByteArray)(j:Nat),Qg3 l s=false->ups s (.int .i64 ((j+l.length:Nat):Int)) (Qfw j l)=Qfw j (l++[s])
 |[],j,_=>rfl
 |a::l,j,h=>by
  simp only[Qg3,any_cons,Bool.or_eq_false_iff,decide_eq_false_iff_not]at h;simp only[Qfw,cons_append,ups];rw[if_neg (λ e=>h.1 e.symm),<- Zfy s l (j+1) h.2];congr 4;simp;omega
end Go.TM
namespace Go.Proofs
open Go.TM
variable{T:Type}{S:TM.Sys prog T}{U:Qa T}
attribute [local irreducible] Qb Zh We
def Qjn(a:Option Addr)(len cap:Nat)(l:List Int)(hl:Z3 U a len l)(hlen:len<2^60)(n:Nat)(hn:n<2^60) :
  Qb S 195 #[.slice a len cap,.int .i64 n] (λ v U'=>v=.int .i64 (Qb0 n none l)/\U'=U) U:=by
 refine Qb.of (args:=[_,_]) Qm1 Qd (by simp) ?_;have hll:=hl.1
 repeat refine⟨rfl,?_⟩
 refine⟨Nat,λ i=>[(0,.slice a len cap),(1,.int .i64 n),(7,.slice a len cap),(8,.int .i64 len),(9,.int .i64 i)],
  λ i U'=>U'=U/\i<=len/\Qb0 n none l=Qb0 n (if i=0 then none else l[i-1]?) (l.drop i),λ i=>len-i,0,by trivial,⟨rfl,by omega,rfl⟩,?_⟩
 rintro i f _⟨rfl,hi,hinv⟩;have hin:Zm ((i:Int)+1):=by unfold Zm;omega
 have hin2:Zm ((n:Int)-1):=by unfold Zm;omega
 repeat refine⟨rfl,?_⟩
 conv=>whnf
 apply Qe<;>intro hc
 .have hlt:i<len:=by simpa using hc
  obtain⟨ad,x,hx,rfl,hsp,hs⟩:=hl.at hlt;rw[Qbe hx,Qf5]at hinv;refine⟨ad,i,⟨rfl,rfl,hlt⟩,_,hs,hin2,Qfg.any,(Wt _ _ _ _).mono ?_⟩;rintro v U'⟨rfl,rfl⟩-;cases hb:W1 x 0 ((n:Int)-1)with
  |false=>
   rw[hb]at hinv
   repeat refine⟨rfl,?_⟩
   conv=>whnf
   exact⟨by rw[hinv];rfl,rfl⟩
  |true=>
   rw[if_pos hb]at hinv;have next:Qb0 n none l=Qb0 n (some x) (l.drop (i+1))->Qb0 n none l=Qb0 n (if i+1=0 then none else l[i+1-1]?) (l.drop (i+1)):=λ h=>by rw[Zju hx];exact h
   repeat refine⟨rfl,?_⟩
   conv=>whnf
   apply Zc<;>intro hc
   .have h0:0<i:=by simpa using hc
    obtain⟨y,hy⟩:∃y,l[i-1]?=some y:=⟨_,getElem?_eq_getElem (by omega)⟩;rw[if_neg (by omega),hy]at hinv;have hin3:Zm ((i:Int)-1):=by unfold Zm;omega
    have e1:((i:Int)-1)=((i-1:Nat):Int):=by omega
    obtain⟨ad',y',hy',e2,hsp',hs'⟩:=hl.at (show i-1<len by omega);cases e2;rw[hy]at hy';cases hy';simp only at hinv;refine⟨hin3,ad,i-1,⟨rfl,e1,by omega⟩,_,hs',?_⟩
    repeat refine⟨rfl,?_⟩
    conv=>whnf
    apply Qe<;>intro hc
    .have h1:x<=y:=by simpa using hc
     repeat refine⟨rfl,?_⟩
     conv=>whnf
     rw[if_pos h1]at hinv;exact⟨by rw[hinv],rfl⟩
    .have h1:¬x<=y:=by simpa using hc
     rw[if_neg h1]at hinv;refine⟨hin,?_⟩
     conv=>whnf
     exact⟨rfl,i+1,by trivial,⟨rfl,by omega,next hinv⟩,by show _-_<_-_;omega⟩
   .have h0:i=0:=by simp at hc;omega
    rw[if_pos h0]at hinv;simp only at hinv
    repeat refine⟨rfl,?_⟩
    refine⟨hin,?_⟩
    conv=>whnf
    exact⟨rfl,i+1,by trivial,⟨rfl,by omega,next hinv⟩,by show _-_<_-_;omega⟩
 .have hge:len<=i:=by simpa using hc
  rw[drop_eq_nil_of_le (by omega)]at hinv
  repeat refine⟨rfl,?_⟩
  conv=>whnf
  exact⟨by rw[hinv];rfl,rfl⟩
def Q4b:Qjx T prog 9 Value.string:=by
 refine .simple (d:=.string) (by kernel_rfl) rfl (λ k k'=>?_) (λ k=>?_)
 .show some (k==k')=_;rw[Zm7]
 .simp[Instr.sameBits,Zm7]
def Qyt:prog.underlying 267=some (.map 9 3):=by kernel_rfl
def Qgf:Qdy prog 3=some (.int .i64 0):=by kernel_rfl
def Qpc(mb:Nat)(seen:List ByteArray)(s:ByteArray)(hs:s.size<2^60)(M₀:List Qv)(hM:U.M=.obj mb (Qt Value.string (Qfw 0 seen))::M₀) :
  Qb S 193 #[.map (some mb),.string s,.int .i64 seen.length] (λ v U'=>v=.int .i64 (if Zf s then(if Qg3 seen s then 5 else 0)else 4)/\U'={ U with M:=.obj mb (Qt Value.string (Qfw 0 (if Zf s&&!Qg3 seen s then seen++[s]else seen)))::M₀ }) U:=by
 refine Qb.of (args:=[_,_,_]) Qm0 Qd (by simp) ?_;refine⟨Qyb.any,(Qsb s hs).mono ?_⟩;rintro v U'⟨rfl,hU'⟩-;obtain rfl:=hU'.symm;cases hn:Zf s with
 |false=>
  repeat refine⟨rfl,?_⟩
  conv=>whnf
  show _={ U with M:=.obj mb (Qt Value.string (Qfw 0 seen))::M₀ };rw[<- hM]
 |true=>
  conv=>whnf
  refine Qid (k:=s) (l:=Qfw 0 seen) Q4b Qyt Qgf rfl rfl (.inr (by rw[hM];exact mem_cons_self ..)) ?_;cases hh:Qg3 seen s with
  |true=>
   obtain⟨w,hw⟩:=Q56 hh;rw[hw]
   repeat refine⟨rfl,?_⟩
   conv=>whnf
   show _={ U with M:=.obj mb (Qt Value.string (Qfw 0 seen))::M₀ };rw[<- hM]
  |false=>
   rw[Q55 hh]
   conv=>whnf
   refine Qe7 (v:=.int .i64 seen.length) (k:=s) (l:=Qfw 0 seen) (M':=.obj mb (Qt Value.string (Qfw 0 (seen++[s])))::M₀) Q4b Qyt rfl rfl rfl (by rw[hM,<- Zfy s seen 0 hh,Nat.zero_add];exact .here) ?_
   repeat refine⟨rfl,?_⟩
   conv=>whnf
   rfl
def Qta(h:BH)(b:Bk)(hb:Zt U h b):Qb S 191 #[h.v] (λ v U'=>v=.int .i64 (b.rsF Zf)/\U'=U) U:=by
 refine Qb.pure' (Qb.of (args:=[_]) Qx8 Qd (by simp) ?_);have hrl:=hb.rs.1;have hrl':=hb.rl
 repeat refine⟨rfl,?_⟩
 conv=>whnf
 intro B U1 h_1 hB;have hB:Zd U1 B #[.slice h.ra h.rl h.rc,.slice h.ca h.cl h.cc]:=hB;refine⟨_,hB.sees3 (o:=0) rfl,?_⟩
 repeat refine⟨rfl,?_⟩
 conv=>whnf
 apply Qe<;>intro hc
 .have hbig:b.rs.length > 6:=by rw[hrl];simp at hc;omega
  repeat refine⟨rfl,?_⟩
  conv=>whnf
  exact⟨by unfold Bk.rsF;rw[if_pos hbig],h_1.lg⟩
 have hbig:¬b.rs.length > 6:=by rw[hrl];simp at hc;omega
 have hspec:b.rsF Zf=Zja Zf [] b.rs:=by unfold Bk.rsF;rw[if_neg hbig]
 rw[hspec]
 conv=>whnf
 refine Qck Value.string λ mb hmb=>?_;refine⟨_,Qa.sees.lg (hB.sees3 (o:=0) rfl) (Z0 mb _),Nat×List ByteArray,λ y=>[(1,.pointer (some ⟨B,0,none⟩)),(3,.map (some mb)),(15,.slice h.ra h.rl h.rc),(16,.int .i64 h.rl),(17,.int .i64 y.1)],
  λ y U'=>U.lg U'/\U'.M=.obj mb (Qt Value.string (Qfw 0 y.2))::U.M/\y.1<=h.rl/\y.2.length=y.1/\Zja Zf [] b.rs=Zja Zf y.2 (b.rs.drop y.1),
  λ y=>h.rl-y.1,(0,[]),by trivial,⟨h_1.lg.trans (Z0 _ _),?_,by simp,rfl,by simp⟩,?_⟩
 .show _::_=_;rw[h_1.own];rfl
 rintro⟨i,s⟩f U2⟨hlg,hM,hi,hsl,hinv⟩;simp only at hM hi hsl hinv;have hin:Zm ((i:Int)+1):=by unfold Zm;omega
 repeat refine⟨rfl,?_⟩
 conv=>whnf
 apply Qe<;>intro hc
 .have hlt:i<h.rl:=by simpa using hc
  obtain⟨ad,x,vs,hx,hea,hsp,rfl,-,hrd⟩:=(hb.rs.lg hlg λ _ _ h=>h).at hlt;rw[Qbe hx,Zja]at hinv;have hxn:=hb.rn x (mem_of_getElem? hx);refine⟨ad,i,⟨hea,rfl,hlt⟩,_,hrd 0 _ rfl,?_⟩;subst hsl;refine⟨Qm0.any,(Qpc mb s x hxn U.M hM).mono ?_⟩;rintro _ U'⟨rfl,hU'⟩-;have hlg':U.lg U':=hU'▸⟨hlg.imm,⟨[_],rfl⟩,hlg.tok⟩;have hM':U'.M=.obj mb (Qt Value.string (Qfw 0 (if Zf x&&!Qg3 s x then s++[x]else s)))::U.M:=by rw[hU']
  cases hn:Zf x with
  |false=>
   rw[hn]at hinv
   repeat refine⟨rfl,?_⟩
   conv=>whnf
   exact⟨by rw[hinv];rfl,hlg'⟩
  |true=>
   rw[if_pos hn]at hinv;cases hh:Qg3 s x with
   |true=>
    rw[if_pos hh]at hinv
    repeat refine⟨rfl,?_⟩
    conv=>whnf
    exact⟨by rw[hinv];rfl,hlg'⟩
   |false=>
    rw[hh]at hinv;rw[hn,hh]at hM'
    repeat refine⟨rfl,?_⟩
    refine⟨hin,rfl,(s.length+1,s++[x]),by trivial,⟨hlg',hM',by show s.length+1<=h.rl;omega,by simp,hinv⟩,by show _-_<_-_;omega⟩
 .have hge:h.rl<=i:=by simpa using hc
  rw[drop_eq_nil_of_le (by omega)]at hinv
  repeat refine⟨rfl,?_⟩
  conv=>whnf
  exact⟨by rw[hinv];rfl,hlg⟩
end Go.Proofs
namespace Go.TM
def wrap64{n:Nat}(h:n<2^63):IntKind.wrap .i64 (n:Int)=n:=by
 have e1:(2:Int)^64=18446744073709551616:=by decide
 have e2:(2:Int)^63=9223372036854775808:=by decide
 have e3:(2:Nat)^63=9223372036854775808:=by decide
 rw[e3]at h;simp only[IntKind.wrap,IntKind.bits,IntKind.signed];simp;omega
def Qi6(n:Nat):BitVec.ofInt 64 (n:Int)=BitVec.ofNat 64 n:=BitVec.ofInt_natCast _ _
def Zrv{n:Nat}(h:n<60):IntKind.wrap .i64 ((1:Int)*2^(min ((n:Int).toNat) 64))=((1<<<n:Nat):Int):=by
 have h1:min ((n:Int).toNat) 64=n:=by rw[Int.toNat_natCast];omega
 have h2:(1<<<n:Nat)<2^63:=by rw[Nat.one_shiftLeft];exact Nat.pow_lt_pow_right (by omega) (by omega)
 have h3:(1:Int)*(2:Int)^n=((1<<<n:Nat):Int):=by rw[Nat.one_shiftLeft];simp
 rw[h1,h3,wrap64 h2]
def Ztw{a b:Nat}(ha:a<2^60)(hb:b<2^60):IntKind.wrap .i64 ((BitVec.ofInt 64 (a:Int)||| BitVec.ofInt 64 (b:Int)).toNat:Int)=((a||| b:Nat):Int):=by
 have h:(a||| b)<2^60:=Nat.or_lt_two_pow ha hb;have h60:(2:Nat)^60<2^63:=Nat.pow_lt_pow_right (by omega) (by omega);have h64:(2:Nat)^63<2^64:=Nat.pow_lt_pow_right (by omega) (by omega);rw[Qi6,Qi6,BitVec.toNat_or,BitVec.toNat_ofNat,BitVec.toNat_ofNat,Nat.mod_eq_of_lt (by omega),Nat.mod_eq_of_lt (by omega),wrap64 (by omega)]
def Zm5{a b:Nat}(ha:a<2^60)(hb:b<2^60):IntKind.wrap .i64 ((BitVec.ofInt 64 (a:Int)&&&BitVec.ofInt 64 (b:Int)).toNat:Int)=((a&&&b:Nat):Int):=by
 have h:(a&&&b)<2^60:=Nat.lt_of_le_of_lt Nat.and_le_left ha;have h60:(2:Nat)^60<2^63:=Nat.pow_lt_pow_right (by omega) (by omega);have h64:(2:Nat)^63<2^64:=Nat.pow_lt_pow_right (by omega) (by omega);rw[Qi6,Qi6,BitVec.toNat_and,BitVec.toNat_ofNat,BitVec.toNat_ofNat,Nat.mod_eq_of_lt (by omega),Nat.mod_eq_of_lt (by omega),wrap64 (by omega)]
def Qu7{a b:Nat}(ha:a<2^60)(hb:b<2^60):(IntKind.wrap .i64 ((BitVec.ofInt 64 (a:Int)&&&~~~BitVec.ofInt 64 (b:Int)).toNat:Int)=0↔∀k,a.testBit k=true->b.testBit k=true):=by
 have h60:(2:Nat)^60<2^63:=Nat.pow_lt_pow_right (by omega) (by omega);have h64:(2:Nat)^63<2^64:=Nat.pow_lt_pow_right (by omega) (by omega)
 have hlt:(BitVec.ofNat 64 a&&&~~~BitVec.ofNat 64 b).toNat<2^63:=by
  rw[BitVec.toNat_and];refine Nat.lt_of_le_of_lt Nat.and_le_left ?_;rw[BitVec.toNat_ofNat,Nat.mod_eq_of_lt (by omega)];omega
 rw[Qi6,Qi6,wrap64 hlt];constructor
 .intro h k hk
  have h0:BitVec.ofNat 64 a&&&~~~BitVec.ofNat 64 b=0#64:=by
   apply BitVec.eq_of_toNat_eq;simpa using h
  have hk60:k<64:=by
   apply Classical.byContradiction;intro hge;have:a<2^k:=Nat.lt_of_lt_of_le ha (Nat.pow_le_pow_right (by omega) (by omega));rw[Nat.testBit_lt_two_pow this]at hk;cases hk
  have h1:(BitVec.ofNat 64 a&&&~~~BitVec.ofNat 64 b).getLsbD k=false:=by rw[h0];simp
  rw[BitVec.getLsbD_and,BitVec.getLsbD_not,BitVec.getLsbD_ofNat,BitVec.getLsbD_ofNat,hk]at h1;simpa[hk60]using h1
 .intro h
  have h0:BitVec.ofNat 64 a&&&~~~BitVec.ofNat 64 b=0#64:=by
   apply BitVec.eq_of_getLsbD_eq;intro k hk;rw[BitVec.getLsbD_and,BitVec.getLsbD_not,BitVec.getLsbD_ofNat,BitVec.getLsbD_ofNat];cases hb:a.testBit k with
   |false=>simp
   |true=>simp[h k hb]
  rw[h0];rfl
def Zol{a n:Nat}(h:n<60):Int.fdiv (a:Int) (2^(min ((n:Int).toNat) 64))=((a>>>n:Nat):Int):=by
 have h1:min ((n:Int).toNat) 64=n:=by rw[Int.toNat_natCast];omega
 rw[h1,Nat.shiftRight_eq_div_pow];have h2:((2:Int)^n)=((2^n:Nat):Int):=by simp
 rw[h2,Int.fdiv_eq_ediv_of_nonneg _ (Int.natCast_nonneg _)];simp
def Qva{a n:Nat}(ha:a<2^60)(h:n<60):(IntKind.wrap .i64 ((BitVec.ofInt 64 (Int.fdiv (a:Int) (2^(min ((n:Int).toNat) 64)))&&&BitVec.ofInt 64 1).toNat:Int)==1)=a.testBit n:=by
 have h1:a>>>n<2^60:=Nat.lt_of_le_of_lt (Nat.shiftRight_le a n) ha;have h2:=Zm5 h1 (show 1<2^60 by decide);rw[Zol h];rw[show((1:Nat):Int)=1 from rfl]at h2;rw[h2,Nat.and_one_is_mod];rw[Bool.eq_iff_iff,beq_iff_eq,Nat.testBit];simp only[Nat.one_and_eq_mod_two,bne_iff_ne];omega
def Q1m{n:Nat}(h:n<60):IntKind.wrap .i64 ((1:Int)*2^(min ((n:Int).toNat) (IntKind.bits .i64)))=((1<<<n:Nat):Int):=Zrv h
def Zn9{a b:Nat}(ha:a<2^60)(hb:b<2^60):IntKind.wrap .i64 ((BitVec.ofInt (IntKind.bits .i64) (a:Int)||| BitVec.ofInt (IntKind.bits .i64) (b:Int)).toNat:Int)=((a||| b:Nat):Int):=Ztw ha hb
def Qce{l:List Nat}{m:Nat}(h:∀x∈l,x<m):Ja l<2^m:=by
 apply Nat.lt_pow_two_of_testBit;intro i hi;rw[Wy,contains_eq_any_beq,any_eq_false];intro x hx;have:=h x hx;simp;omega
def Zdp(l:List Nat)(x:Nat):Ja (l++[x])=Ja l||| (1<<<x):=by simp[Ja]
def Qdq{x m:Nat}(h:x<m):(1<<<x:Nat)<2^m:=by rw[Nat.one_shiftLeft];exact Nat.pow_lt_pow_right (by omega) h
structure Bk.Low(b:Bk):Prop where
 nc:b.cs.length<=5
 af:∀c∈b.cs,∀n∈c.af,0<=n/\n<b.nc
def Bk.Ok.toLow{b:Bk}(h:b.Ok):b.Low:=⟨h.nc,h.af⟩
def Bk.Low.lt{b:Bk}(h:b.Low){c:Cs}(hc:c∈b.cs):∀n∈c.af,0<=n/\n<60:=λ n hn=>by
 have:=h.af c hc n hn;have:=h.nc;unfold Bk.nc at *;omega
def Bk.A_len(b:Bk):b.A.length=b.cs.length:=by simp[Bk.A]
def Bk.aft1_at{b:Bk}{i:Nat}{c:Cs}(h:b.cs[i]?=some c):Ji b.A i=c.af.map Int.toNat:=by
 simp[Ji,Bk.A,getD_eq_getElem?_getD,h]
def toNat_lt{l:List Int}{m:Nat}(h:∀n∈l,0<=n/\n<m):∀x∈l.map Int.toNat,x<m:=by
 intro x hx;obtain⟨n,hn,rfl⟩:=mem_map.1 hx;have:=h n hn;omega
def Qov{α:Type}(f:α->Nat->α)(a:α)(i:Nat):(range (i+1)).foldl f a=f ((range i).foldl f a) i:=by
 rw[range_succ,foldl_append];rfl
def Znm{A:List (List Nat)}{d i m:Nat}(hd:d<2^m)(hi:i<m):Qdg A d i<2^m:=by
 unfold Qdg;split
 .exact Nat.or_lt_two_pow hd (Qdq hi)
 .exact hd
def Qvn{A:List (List Nat)}{m:Nat}:∀(l:List Nat)(d:Nat),(∀i∈l,i<m)->d<2^m->l.foldl (Qdg A) d<2^m
 |[],_,_,h=>h
 |x::l,d,hl,h=>Qvn l _ (λ i hi=>hl i (mem_cons_of_mem _ hi)) (Znm h (hl x (mem_cons_self ..)))
def Bk.dn(b:Bk)(r j:Nat):Nat:=(range j).foldl (Qdg b.A) (Qcg b.A r)
def Bk.dn_succ(b:Bk)(r j:Nat):b.dn r (j+1)=Qdg b.A (b.dn r j) j:=Qov _ _ _
def Bk.dn_end(b:Bk)(r:Nat):b.dn r b.cs.length=Qcg b.A (r+1):=by rw[<- Bk.A_len];rfl
def Znn{A:List (List Nat)}(k:Nat):Qcg A k<2^A.length:=by
 induction k with
 |zero=>exact Nat.two_pow_pos _
 |succ k ih=>exact Qvn _ _ (λ i hi=>mem_range.1 hi) ih
def Bk.dn_lt{b:Bk}(r:Nat){j:Nat}(hb:b.cs.length<=5)(hj:j<=b.cs.length):b.dn r j<2^5:=
 Qvn _ _ (λ i hi=>by have:=mem_range.1 hi;omega) (Nat.lt_of_lt_of_le (Znn r) (Nat.pow_le_pow_right (by omega) (by rw[b.A_len];omega)))
end Go.TM
namespace Go.Proofs
open Go.TM
variable{T:Type}{S:TM.Sys prog T}{U:Qa T}
attribute [local irreducible] Qb Zh We
def Jd(a:Option Addr)(len cap:Nat)(l:List Int)(hl:Z3 U a len l)(hlen:len<2^60)(h60:∀n∈l,0<=n/\n<60) :
  Qb S 41 #[.slice a len cap] (λ v U'=>v=.int .i64 (Ja (l.map Int.toNat):Nat)/\U'=U) U:=by
 refine Qb.of (args:=[_]) Qa6 Qd (by simp) ?_;have hll:=hl.1
 repeat refine⟨rfl,?_⟩
 refine⟨Nat,λ i=>[(3,.int .i64 (Ja ((l.take i).map Int.toNat):Nat)),(6,.slice a len cap),(7,.int .i64 len),(8,.int .i64 i)],
  λ i U'=>U'=U/\i<=len,λ i=>len-i,0,by trivial,⟨rfl,by omega⟩,?_⟩
 rintro i f _⟨rfl,hi⟩;have hin:Zm ((i:Int)+1):=by unfold Zm;omega
 repeat refine⟨rfl,?_⟩
 conv=>whnf
 apply Qe<;>intro hc
 .have hlt:i<len:=by simpa using hc
  obtain⟨ad,x,hx,rfl,hsp,hs⟩:=hl.at hlt;have hx60:=h60 x (mem_of_getElem? hx);obtain⟨k,rfl⟩:=Int.eq_ofNat_of_zero_le hx60.1;have hk:k<60:=by omega
  have hb:Ja ((l.take i).map Int.toNat)<2^60:=Qce (toNat_lt λ n hn=>h60 n (mem_of_mem_take hn))
  have key:Value.int .i64 (IntKind.wrap .i64 ((BitVec.ofInt 64 ((Ja ((l.take i).map Int.toNat):Nat):Int)||| BitVec.ofInt 64 (IntKind.wrap .i64 ((1:Int)*2^(min ((k:Int).toNat) 64)))).toNat:Int))=.int .i64 (Ja ((l.take (i+1)).map Int.toNat):Nat):=by
   rw[Zrv hk,Ztw hb (Qdq hk),Jt hx,map_append,map_singleton,Int.toNat_natCast,Zdp]
  refine⟨ad,i,⟨rfl,rfl,hlt⟩,_,hs,hx60.1,?_⟩
  repeat refine⟨rfl,?_⟩
  refine⟨hin,?_⟩
  conv=>whnf
  exact⟨rfl,i+1,⟨key,rfl,rfl,rfl,trivial⟩,⟨rfl,by omega⟩,by show _-_<_-_;omega⟩
 .have hge:len<=i:=by simpa using hc
  repeat refine⟨rfl,?_⟩
  conv=>whnf
  exact⟨by rw[take_of_length_le (by omega)],rfl⟩
end Go.Proofs
namespace Go.TM
def Qu6{d:Nat}{l:List Int}(h:∀n∈l,0<=n/\n<60):(∀k,(Ja (l.map Int.toNat)).testBit k=true->d.testBit k=true)↔((l.map Int.toNat).all λ k=>d.testBit k)=true:=by
 rw[all_eq_true];constructor
 .intro g k hk;exact g k (by rw[Wy];simpa using hk)
 .intro g k hk;rw[Wy]at hk;exact g k (by simpa using hk)
def Zt.case{T:Type}{U:Qa T}{h:BH}{b:Bk}(k:Zt U h b){i:Nat}(hi:i<h.cl) :
  ∃ad c ga gl gc aa al ac,b.cs[i]?=some c/\h.ca=some ad/\ad.spot=none/\Z7 U (ad.add (i*4)) [.string c.nm,.int .i64 c.ag,.slice ga gl gc,.slice aa al ac]/\Wj U ga gl c.gs/\gl<2^60/\Z3 U aa al c.af/\al<2^60/\c∈b.cs:=by
 obtain⟨ad,c,vs,hx,hea,hsp,⟨ga,gl,gc,aa,al,ac,rfl,h1,h2,h3,h4⟩,-,hrd⟩:=k.cs.at hi;exact⟨ad,c,ga,gl,gc,aa,al,ac,hx,hea,hsp,hrd,h1,h2,h3,h4,mem_of_getElem? hx⟩
def Zt.right{T:Type}{U:Qa T}{h:BH}{b:Bk}(k:Zt U h b){i:Nat}(hi:i<h.rl) :
  ∃ad s,b.rs[i]?=some s/\h.ra=some ad/\ad.spot=none/\U.sees ((ad.add (i*1)).add 0) (.string s)/\s∈b.rs:=by
 obtain⟨ad,s,vs,hx,hea,hsp,rfl,-,hrd⟩:=k.rs.at hi;exact⟨ad,s,hx,hea,hsp,hrd 0 _ rfl,mem_of_getElem? hx⟩
end Go.TM
namespace Go.Proofs
open Go.TM
variable{T:Type}{S:TM.Sys prog T}{U:Qa T}
attribute [local irreducible] Qb Zh We
def Qjm(h:BH)(b:Bk)(hb:Zt U h b)(hlo:b.Low):Qb S 91 #[h.v] (λ v U'=>v=.int .i64 (if Wz b.A then 8 else 0)/\U'=U) U:=by
 refine Qb.pure' (Qb.of (args:=[_]) Qsx Qd (by simp) ?_);have hcl:=hb.cs.1;have hA:=b.A_len;have h5:=hlo.nc
 repeat refine⟨rfl,?_⟩
 conv=>whnf
 intro B U1 h_1 hB;have hB:Zd U1 B #[.slice h.ra h.rl h.rc,.slice h.ca h.cl h.cc]:=hB;refine⟨_,hB.sees3 (o:=1) rfl,Nat,λ r=>[(1,.pointer (some ⟨B,0,none⟩)),(3,.int .i64 (Qcg b.A r:Nat)),(9,.int .i64 h.cl),(10,.int .i64 r)],
  λ r U'=>U1.lg U'/\r<=h.cl,λ r=>h.cl-r,0,by trivial,⟨(Qa.le.refl _).lg,by omega⟩,?_⟩
 rintro r f U2⟨hlg,hr⟩;have hinr:Zm ((r:Int)+1):=by unfold Zm;omega
 repeat refine⟨rfl,?_⟩
 conv=>whnf
 apply Qe<;>intro hc
 .have hrt:r<h.cl:=by simpa using hc
  refine⟨_,(hB.lg hlg).sees3 (o:=1) rfl,Nat,λ j=>[(1,.pointer (some ⟨B,0,none⟩)),(3,.int .i64 (b.dn r j:Nat)),(9,.int .i64 h.cl),(10,.int .i64 r),(14,.slice h.ca h.cl h.cc),(15,.int .i64 h.cl),(16,.int .i64 j)],
   λ j U'=>U1.lg U'/\j<=h.cl,λ j=>h.cl-j,0,by trivial,⟨hlg,by omega⟩,?_⟩
  rintro j f U3⟨hlg_3,hj⟩;have hinj:Zm ((j:Int)+1):=by unfold Zm;omega
  have hd:b.dn r j<2^5:=Bk.dn_lt r h5 (by omega);have hd60:b.dn r j<2^60:=Nat.lt_trans hd (by decide);have hsucc:=b.dn_succ r j
  repeat refine⟨rfl,?_⟩
  conv=>whnf
  apply Qe<;>intro hc
  .have hjt:j<h.cl:=by simpa using hc
   obtain⟨ad,c,ga,gl,gc,aa,al,ac,hx,hea,hsp,hrd,-,-,ha,hal,hmem⟩:=(hb.lg (h_1.lg.trans hlg_3)).case hjt;have h60:=hlo.lt hmem;have hat:=Bk.aft1_at hx;refine⟨ad,j,⟨hea,rfl,hjt⟩,_,⟨rfl,hrd⟩,?_⟩
   conv=>whnf
   intro b5 hf5;refine⟨_,.refl _,rfl,Zs (vs:=[.string c.nm,.int .i64 c.ag,.slice ga gl gc,.slice aa al ac]) hf5 rfl (by simp[Value.single]) λ U4 h_4 hb_5=>?_⟩;have hlg_4:=hlg_3.trans h_4.lg;refine⟨_,hb_5.sees3 (o:=3) rfl,Qa6.any,(Jd aa al ac c.af (ha.lg h_4.lg) hal h60).go λ _=>?_⟩;have hbl:Ja (c.af.map Int.toNat)<2^60:=Qce (toNat_lt h60);have key:_↔(Ji b.A j).all (λ k=>(b.dn r j).testBit k)=true:=(Qu7 hbl hd60).trans ((Qu6 h60).trans (by rw[hat]))
   repeat refine⟨rfl,?_⟩
   conv=>whnf
   apply Qe<;>intro hc
   .have hall:(Ji b.A j).all (λ k=>(b.dn r j).testBit k)=true:=key.1 (eq_of_beq hc);have hd1:Qdg b.A (b.dn r j) j=b.dn r j||| (1<<<j):=by unfold Qdg;rw[if_pos hall]
    rw[hd1]at hsucc;refine⟨by omega,?_⟩
    repeat refine⟨rfl,?_⟩
    refine⟨hinj,?_⟩
    conv=>whnf
    have e2:IntKind.wrap .i64 ((BitVec.ofInt (IntKind.bits .i64) ((b.dn r j:Nat):Int)||| BitVec.ofInt (IntKind.bits .i64) (IntKind.wrap .i64 ((1:Int)*2^(min ((j:Int).toNat) (IntKind.bits .i64))))).toNat:Int)=((b.dn r (j+1):Nat):Int):=by
     rw[Q1m (by omega),Zn9 hd60 (Qdq (by omega)),<- hsucc]
    exact⟨rfl,j+1,⟨rfl,congrArg (Value.int .i64) e2,rfl,rfl,rfl,rfl,rfl,trivial⟩,⟨hlg_4,by omega⟩,by show _-_<_-_;omega⟩
   .have hall:(Ji b.A j).all (λ k=>(b.dn r j).testBit k)=false:=by
     cases hh:(Ji b.A j).all (λ k=>(b.dn r j).testBit k)with
     |false=>rfl
     |true=>exact absurd (key.2 hh) (ne_of_beq_false hc)
    have hd1:Qdg b.A (b.dn r j) j=b.dn r j:=by unfold Qdg;rw[hall];rfl
    rw[hd1]at hsucc;refine⟨hinj,?_⟩
    conv=>whnf
    exact⟨rfl,j+1,⟨rfl,congrArg (λ q:Nat=>Value.int .i64 (q:Int)) hsucc.symm,rfl,rfl,rfl,rfl,rfl,trivial⟩,⟨hlg_4,by omega⟩,by show _-_<_-_;omega⟩
  .have hge:h.cl<=j:=by simpa using hc
   obtain rfl:j=h.cl:=by omega
   have hnext:b.dn r h.cl=Qcg b.A (r+1):=by rw[<- hcl];exact b.dn_end r
   refine⟨hinr,?_⟩
   conv=>whnf
   exact⟨rfl,r+1,⟨rfl,congrArg (λ q:Nat=>Value.int .i64 (q:Int)) hnext,rfl,rfl,trivial⟩,⟨hlg_3,by omega⟩,by show _-_<_-_;omega⟩
 .have hge:h.cl<=r:=by simpa using hc
  obtain rfl:r=h.cl:=by omega
  have e1:IntKind.wrap .i64 ((1:Int)*2^(min ((h.cl:Int).toNat) (IntKind.bits .i64)))=((1<<<h.cl:Nat):Int):=Q1m (by omega);have hq6:=@Qdq h.cl 6 (by omega);have hpos:0<1<<<h.cl:=by rw[Nat.one_shiftLeft];exact Nat.two_pow_pos _
  have hlp:Wz b.A=decide (Qcg b.A h.cl≠1<<<h.cl-1):=by unfold Wz;rw[hA,hcl,<- Nat.one_shiftLeft]
  rw[hlp];generalize(1<<<h.cl:Nat)=q at e1 hq6 hpos
  have hin2:Zm (IntKind.wrap .i64 ((1:Int)*2^(min ((h.cl:Int).toNat) (IntKind.bits .i64)))-1):=by
   rw[e1];unfold Zm;omega
  refine⟨_,(hB.lg hlg).sees3 (o:=1) rfl,by omega,hin2,?_⟩
  repeat refine⟨rfl,?_⟩
  conv=>whnf
  apply Qe<;>intro hc
  .rw[e1]at hc
   have hne:Qcg b.A h.cl≠q-1:=by
    intro e;rw[e]at hc;simp at hc;omega
   rw[decide_eq_true hne]
   repeat refine⟨rfl,?_⟩
   conv=>whnf
   exact h_1.lg.trans hlg
  .rw[e1]at hc
   have heq:¬Qcg b.A h.cl≠q-1:=by
    simp at hc;omega
   rw[decide_eq_false heq]
   repeat refine⟨rfl,?_⟩
   conv=>whnf
   exact h_1.lg.trans hlg
end Go.Proofs
namespace Go.TM
variable{T:Type}{P:Program}{S:Sys P T}{f:Fm}{K:Value->Qa T->Prop}{U:Qa T}
def Qkd{t e ty len i:Nat}{d:TypeDesc}{k:IntKind}{cs:Array Value}{v:Value}{x y:Operand}{inf:TypeInfo}(hu:P.underlying t=some (.array len e))(hd:P.underlying e=some d)(hsd:TypeDesc.agg d=false)(hi:P.info? e=some inf)(hsz:inf.size=1)
  (hx:Zl f x=.agg cs) (hy:Zl f y=.int k i) (hlt:i<len) (hv:cs[i]?=some v) (h:K v U) :
  OX S (.raw { dst:=none,op:=.index t x y,type:=ty,pos := "", after:=#[],guard:=none }) f K U:=by
 intro a' ha;simp only[execOp,ha,hx,hy];refine rq ?_;simp only[Instr.index,Qf,asIntOf,Qi,Zg hu];rw[if_pos (by omega)];simp only[Qf,Jh hi,hsz,Nat.mul_one,Int.toNat_natCast];simp only[part,Qf,Qif hd,hsd,Bool.false_eq_true,if_false,hv];exact⟨U,.refl _,h⟩
def Zq9:Array Value:=#[.func (.func 191) #[] #[],.func (.func 192) #[] #[],.func (.func 91) #[] #[]]
def Chk(U:Qa T):Prop:=Zd U 0 Zq9
def Chk.lg{U':Qa T}(h:Chk U)(k:U.lg U'):Chk U':=Zd.lg h k
def Bk.low_of{nameB:ByteArray->Bool}{b:Bk}(h:b.csF nameB=0):b.Low:=by
 unfold Bk.csF at h;split at h
 .cases h
 .exact⟨by omega,λ c hc=>Qri (Q0z h c hc).2.2⟩
end Go.TM
namespace Go.Proofs
open Go.TM
variable{T:Type}{S:TM.Sys prog T}{U:Qa T}
attribute [local irreducible] Qb Zh We
def Qqn(h:BH)(b:Bk)(hb:Zt U h b)(a:Option Addr)(len cap:Nat)(ls:List (List Int))(hl:Wj U a len ls)(hlen:len<2^60) :
  Qb S 194 #[h.v,.slice a len cap] (λ v U'=>v=.int .i64 (Q04 b.nr ls)/\U'=U) U:=by
 refine Qb.pure' (Qb.of (args:=[_,_]) Qya Qd (by simp) ?_);have hll:=hl.1;have hrl:=hb.rs.1;have hrl':=hb.rl;have hnr:b.nr=(h.rl:Int):=by unfold Bk.nr;rw[hrl]
 repeat refine⟨rfl,?_⟩
 conv=>whnf
 intro B U1 h_1 hB;have hB:Zd U1 B #[.slice h.ra h.rl h.rc,.slice h.ca h.cl h.cc]:=hB
 repeat refine⟨rfl,?_⟩
 conv=>whnf
 apply Qe<;>intro hc
 .have hbig:ls.length > 3:=by rw[hll];simp at hc;omega
  repeat refine⟨rfl,?_⟩
  conv=>whnf
  exact⟨by unfold Q04;rw[if_pos hbig],h_1.lg⟩
 have hbig:¬ls.length > 3:=by rw[hll];simp at hc;omega
 have hspec:Q04 b.nr ls=Q5y b.nr ls:=by unfold Q04;rw[if_neg hbig]
 rw[hspec]
 refine⟨Nat,λ i=>[(2,.pointer (some ⟨B,0,none⟩)),(11,.slice a len cap),(12,.int .i64 len),(13,.int .i64 i)],
  λ i U'=>U'=U1/\i<=len/\Q5y b.nr ls=Q5y b.nr (ls.drop i),λ i=>len-i,0,by trivial,⟨rfl,by omega,rfl⟩,?_⟩
 rintro i f U'⟨hU,hi,hinv⟩;obtain rfl:=hU.symm;have hin:Zm ((i:Int)+1):=by unfold Zm;omega
 repeat refine⟨rfl,?_⟩
 conv=>whnf
 apply Qe<;>intro hc
 .have hlt:i<len:=by simpa using hc
  obtain⟨ad,g,vs,hx,rfl,hsp,⟨ga,gl,gc,rfl,hg,hgl⟩,-,hrd⟩:=Qx.at (hl.lg h_1.lg) hlt;have hg1:=hg.1;rw[Qbe hx,Q5y]at hinv;refine⟨ad,i,⟨rfl,rfl,hlt⟩,_,hrd 0 _ rfl,?_⟩
  repeat refine⟨rfl,?_⟩
  conv=>whnf
  apply Qe<;>intro hc
  .have h3:g.length > 3:=by rw[hg1];simp at hc;omega
   repeat refine⟨rfl,?_⟩
   conv=>whnf
   exact⟨by rw[hinv,if_pos h3],h_1.lg⟩
  have h3:¬g.length > 3:=by rw[hg1];simp at hc;omega
  rw[if_neg h3]at hinv;refine⟨_,hB.sees3 (o:=0) rfl,Qm1.any,(Qjn ga gl gc g hg hgl h.rl hrl').go λ _=>?_⟩;rw[hnr]at hinv ⊢;by_cases hz:Qb0 (h.rl:Int) none g=0
  .rw[if_pos hz]at hinv;rw[hz]
   repeat refine⟨rfl,?_⟩
   refine⟨hin,?_⟩
   conv=>whnf
   exact⟨rfl,i+1,by trivial,⟨rfl,by omega,hinv⟩,by show _-_<_-_;omega⟩
  .rw[if_neg hz]at hinv
   repeat refine⟨rfl,?_⟩
   conv=>whnf
   apply Qe<;>intro hc
   .repeat refine⟨rfl,?_⟩
    conv=>whnf
    exact⟨by rw[hinv],h_1.lg⟩
   .exact absurd (by simpa using hc) hz
 .have hge:len<=i:=by simpa using hc
  rw[drop_eq_nil_of_le (by omega)]at hinv
  repeat refine⟨rfl,?_⟩
  conv=>whnf
  exact⟨by rw[hinv];rfl,h_1.lg⟩
def Qwg(h:BH)(b:Bk)(hb:Zt U h b):Qb S 192 #[h.v] (λ v U'=>v=.int .i64 (b.csF Zf)/\U'=U) U:=by
 refine Qb.pure' (Qb.of (args:=[_]) Qx9 Qd (by simp) ?_);have hcl:=hb.cs.1;have hcl':=hb.cl;have hrl:=hb.rs.1;have hrl':=hb.rl;have hnr:b.nr=(h.rl:Int):=by unfold Bk.nr;rw[hrl]
 have hnc:b.nc=(h.cl:Int):=by unfold Bk.nc;rw[hcl]
 repeat refine⟨rfl,?_⟩
 conv=>whnf
 intro B U1 h_1 hB;have hB:Zd U1 B #[.slice h.ra h.rl h.rc,.slice h.ca h.cl h.cc]:=hB;refine⟨_,hB.sees3 (o:=1) rfl,?_⟩
 repeat refine⟨rfl,?_⟩
 conv=>whnf
 apply Qe<;>intro hc
 .have hbig:b.cs.length > 5:=by rw[hcl];simp at hc;omega
  repeat refine⟨rfl,?_⟩
  conv=>whnf
  exact⟨by unfold Bk.csF;rw[if_pos hbig],h_1.lg⟩
 have hbig:¬b.cs.length > 5:=by rw[hcl];simp at hc;omega
 have hspec:b.csF Zf=Q5j Zf h.rl h.cl [] b.cs:=by unfold Bk.csF;rw[if_neg hbig,hnr,hnc]
 rw[hspec]
 conv=>whnf
 refine Qck Value.string λ mb hmb=>?_;refine⟨_,Qa.sees.lg (hB.sees3 (o:=1) rfl) (Z0 mb _),Nat×List ByteArray,λ y=>[(1,.pointer (some ⟨B,0,none⟩)),(3,.map (some mb)),(17,.slice h.ca h.cl h.cc),(18,.int .i64 h.cl),(19,.int .i64 y.1)],
  λ y U'=>U1.lg U'/\U'.M=.obj mb (Qt Value.string (Qfw 0 y.2))::U.M/\y.1<=h.cl/\y.2.length=y.1/\Q5j Zf h.rl h.cl [] b.cs=Q5j Zf h.rl h.cl y.2 (b.cs.drop y.1),
  λ y=>h.cl-y.1,(0,[]),by trivial,⟨Z0 _ _,?_,by simp,rfl,by simp⟩,?_⟩
 .show _::_=_;rw[h_1.own];rfl
 rintro⟨i,s⟩f U2⟨hlg,hM,hi,hsl,hinv⟩;simp only at hM hi hsl hinv;have hin:Zm ((i:Int)+1):=by unfold Zm;omega
 have hinr:Zm ((h.rl:Int)-1):=by unfold Zm;omega
 repeat refine⟨rfl,?_⟩
 conv=>whnf
 apply Qe<;>intro hc
 .have hlt:i<h.cl:=by simpa using hc
  obtain⟨ad,c,ga,gl,gc,aa,al,ac,hx,hea,hsp,hrd,hg,hgl,ha,hal,hmem⟩:=(hb.lg h_1.lg).case hlt;rw[Qbe hx,Q5j]at hinv;have hxn:=hb.cn c hmem;subst hsl;refine⟨ad,s.length,⟨hea,rfl,hlt⟩,_,⟨rfl,hrd.lg hlg⟩,?_⟩
  conv=>whnf
  intro b5 hf5;refine⟨_,.refl _,rfl,Zs (vs:=[.string c.nm,.int .i64 c.ag,.slice ga gl gc,.slice aa al ac]) hf5 rfl (by simp[Value.single]) λ U3 h_3 hb_5=>?_⟩;have hM_3:U3.M=_:=h_3.own.trans hM;have hlg_3:=hlg.trans h_3.lg;refine⟨_,hb_5.sees3 (o:=0) rfl,Qm0.any,(Qpc mb s c.nm hxn U.M hM_3).mono ?_⟩;rintro _ U4⟨rfl,hU'⟩-;have hlg34:U3.frz.lg U4:=hU'▸⟨λ _ _ h=>h,⟨_,(append_nil _).symm⟩,rfl⟩;have hlg_4:U1.lg U4:=hU'▸⟨hlg_3.imm,⟨[_],by rw[h_1.own];rfl⟩,hlg_3.tok⟩;have hM4:U4.M=.obj mb (Qt Value.string (Qfw 0 (if Zf c.nm&&!Qg3 s c.nm then s++[c.nm]else s)))::U.M:=by rw[hU']
  have hI_4:∀x o,U3.I x=some o->U4.I x=some o:=hlg34.imm;have hb_5:=hb_5.imI hI_4;have hB_4:=hB.lg hlg_4;clear hU';cases hn:Zf c.nm with
  |false=>
   rw[hn]at hinv
   repeat refine⟨rfl,?_⟩
   conv=>whnf
   exact⟨by rw[hinv];rfl,h_1.lg.trans hlg_4⟩
  |true=>
  rw[if_pos hn]at hinv;cases hh:Qg3 s c.nm with
  |true=>
   rw[if_pos hh]at hinv
   repeat refine⟨rfl,?_⟩
   conv=>whnf
   exact⟨by rw[hinv];rfl,h_1.lg.trans hlg_4⟩
  |false=>
  rw[hh]at hinv;simp only[Bool.false_eq_true,if_false]at hinv;rw[hn,hh]at hM4
  repeat refine⟨rfl,?_⟩
  refine⟨_,hb_5.sees3 (o:=1) rfl,_,hB_4.sees3 (o:=0) rfl,hinr,Qfg.any,(Wt _ _ _ _).mono ?_⟩;rintro v U'⟨rfl,rfl⟩-;cases hbt:W1 c.ag 0 ((h.rl:Int)-1)with
  |false=>
   rw[hbt]at hinv
   repeat refine⟨rfl,?_⟩
   conv=>whnf
   exact⟨by rw[hinv];rfl,h_1.lg.trans hlg_4⟩
  |true=>
  rw[if_pos hbt]at hinv;refine⟨_,⟨rfl,hB_4.reads (λ k v hv=>by simpa using hv)⟩,?_⟩;refine⟨_,hb_5.sees3 (o:=2) rfl,Qya.any,(Qqn h b (hb.lg (h_1.lg.trans hlg_4)) ga gl gc c.gs (hg.lg hlg_4) hgl).mono ?_⟩;rintro _ U''⟨rfl,hU'⟩-;obtain rfl:=hU'.symm;rw[hnr];by_cases hz:Q04 (h.rl:Int) c.gs=0
  .rw[if_pos hz]at hinv;rw[hz]
   repeat refine⟨rfl,?_⟩
   refine⟨_,hb_5.sees3 (o:=3) rfl,_,hB_4.sees3 (o:=1) rfl,Qm1.any,(Qjn aa al ac c.af (ha.lg hlg_4) hal h.cl hcl').mono ?_⟩;rintro _ U''⟨rfl,hU'⟩-;obtain rfl:=hU'.symm;by_cases hy:Qb0 (h.cl:Int) none c.af=0
   .rw[if_pos hy]at hinv;rw[hy]
    repeat refine⟨rfl,?_⟩
    refine⟨hin,rfl,(s.length+1,s++[c.nm]),by trivial,⟨hlg_4,hM4,by show s.length+1<=h.cl;omega,by simp,hinv⟩,by show _-_<_-_;omega⟩
   .rw[if_neg hy]at hinv
    repeat refine⟨rfl,?_⟩
    conv=>whnf
    apply Qe<;>intro hc
    .repeat refine⟨rfl,?_⟩
     conv=>whnf
     exact⟨by rw[hinv],h_1.lg.trans hlg_4⟩
    .exact absurd (by simpa using hc) hy
  .rw[if_neg hz]at hinv
   repeat refine⟨rfl,?_⟩
   conv=>whnf
   apply Qe<;>intro hc
   .repeat refine⟨rfl,?_⟩
    conv=>whnf
    exact⟨by rw[hinv],h_1.lg.trans hlg_4⟩
   .exact absurd (by simpa using hc) hz
 .have hge:h.cl<=i:=by simpa using hc
  rw[drop_eq_nil_of_le (by omega)]at hinv
  repeat refine⟨rfl,?_⟩
  conv=>whnf
  exact⟨by rw[hinv];rfl,h_1.lg.trans hlg⟩
def Qiv:prog.underlying 151=some (.array 3 150):=by kernel_rfl
def Zrn(P:Program)(t:TypeId):Bool:=match P.underlying t with|some d=>!TypeDesc.agg d&&(match P.info? t with|some inf=>decide (inf.size=1)|none=>false)|none=>false
def Znb{P:Program}{t:TypeId}(h:Zrn P t=true):∃d inf,P.underlying t=some d/\TypeDesc.agg d=false/\P.info? t=some inf/\inf.size=1:=by
 unfold Zrn at h;split at h
 .rename_i d hd;rw[Bool.and_eq_true]at h;obtain⟨h1,h2⟩:=h;split at h2
  .rename_i inf hi;exact⟨d,inf,hd,by simpa using h1,hi,by simpa using h2⟩
  .cases h2
 .cases h
def Zmd:∃d inf,prog.underlying 150=some d/\TypeDesc.agg d=false/\prog.info? 150=some inf/\inf.size=1:=Znb (by kernel_rfl)
def Qa4(h:BH)(b:Bk)(hb:Zt U h b)(hk:Chk U):Qb S 45 #[h.v] (λ v U'=>v=.int .i64 (b.flaw Zf)/\U'=U) U:=by
 refine Qb.pure' (Qb.of (args:=[_]) Qks Qd (by simp) ?_);obtain⟨d99,inf,hd,hda,hi99,hsz⟩:=Zmd
 repeat refine⟨rfl,?_⟩
 conv=>whnf
 intro B U1 h_1 hB;have hB:Zd U1 B #[.slice h.ra h.rl h.rc,.slice h.ca h.cl h.cc]:=hB;refine⟨_,⟨rfl,(hk.lg h_1.lg).reads (vs:=Zq9.toList) (λ k v hv=>by simpa using hv)⟩,?_⟩
 refine⟨Nat,λ i=>[(1,.pointer (some ⟨B,0,none⟩)),(6,.agg Zq9),(7,.int .i64 i)],
  λ i U'=>U'=U1/\i<=3/\(0<i->b.rsF Zf=0)/\(1<i->b.csF Zf=0)/\(2<i->Wz b.A=false),λ i=>3-i,0,by trivial,⟨rfl,by omega,by omega,by omega,by omega⟩,?_⟩
 rintro i f U'⟨hU,hi,h1,h2,h3⟩;obtain rfl:=hU.symm;have hin:Zm ((i:Int)+1):=by unfold Zm;omega
 repeat refine⟨rfl,?_⟩
 conv=>whnf
 apply Qe<;>intro hc
 .have hlt:i<3:=by simp at hc;omega
  obtain rfl|rfl|rfl:i=0\/i=1\/i=2:=by omega
  .conv=>whnf
   refine Qkd (v:=.func (.func 191) #[] #[]) Qiv hd hda hi99 hsz rfl rfl (by omega) rfl ?_;refine⟨_,⟨rfl,hB.reads (λ k v hv=>by simpa using hv)⟩,?_⟩;refine⟨Qx8.any,(Qta h b (hb.lg h_1.lg)).mono ?_⟩;rintro _ U''⟨rfl,hU'⟩-;obtain rfl:=hU'.symm;by_cases hz:b.rsF Zf=0
   .rw[hz]
    repeat refine⟨rfl,?_⟩
    refine⟨hin,?_⟩
    conv=>whnf
    exact⟨rfl,1,by trivial,⟨rfl,by omega,λ _=>by first|exact hz|rfl,by omega,by omega⟩,by decide⟩
   .repeat refine⟨rfl,?_⟩
    conv=>whnf
    apply Qe<;>intro hc
    .repeat refine⟨rfl,?_⟩
     conv=>whnf
     exact⟨by unfold Bk.flaw;rw[if_neg hz],h_1.lg⟩
    .exact absurd (by simpa using hc) hz
  .conv=>whnf
   refine Qkd (v:=.func (.func 192) #[] #[]) Qiv hd hda hi99 hsz rfl rfl (by omega) rfl ?_;refine⟨_,⟨rfl,hB.reads (λ k v hv=>by simpa using hv)⟩,?_⟩;refine⟨Qx9.any,(Qwg h b (hb.lg h_1.lg)).mono ?_⟩;rintro _ U''⟨rfl,hU'⟩-;obtain rfl:=hU'.symm;by_cases hz:b.csF Zf=0
   .rw[hz]
    repeat refine⟨rfl,?_⟩
    refine⟨hin,?_⟩
    conv=>whnf
    exact⟨rfl,2,by trivial,⟨rfl,by omega,λ _=>h1 (by omega),λ _=>by first|exact hz|rfl,by omega⟩,by decide⟩
   .repeat refine⟨rfl,?_⟩
    conv=>whnf
    apply Qe<;>intro hc
    .repeat refine⟨rfl,?_⟩
     conv=>whnf
     exact⟨by unfold Bk.flaw;rw[if_pos (h1 (by omega)),if_neg hz],h_1.lg⟩
    .exact absurd (by simpa using hc) hz
  .conv=>whnf
   refine Qkd (v:=.func (.func 91) #[] #[]) Qiv hd hda hi99 hsz rfl rfl (by omega) rfl ?_;refine⟨_,⟨rfl,hB.reads (λ k v hv=>by simpa using hv)⟩,?_⟩;refine⟨Qsx.any,(Qjm h b (hb.lg h_1.lg) (Bk.low_of (h2 (by omega)))).mono ?_⟩;rintro _ U''⟨rfl,hU'⟩-;obtain rfl:=hU'.symm;cases hz:Wz b.A with
   |false=>
    repeat refine⟨rfl,?_⟩
    refine⟨hin,?_⟩
    conv=>whnf
    exact⟨rfl,3,by trivial,⟨rfl,by omega,λ _=>h1 (by omega),λ _=>h2 (by omega),λ _=>by first|exact hz|rfl⟩,by decide⟩
   |true=>
    repeat refine⟨rfl,?_⟩
    conv=>whnf
    exact⟨by unfold Bk.flaw;rw[if_pos (h1 (by omega)),if_pos (h2 (by omega)),hz];first|done|rfl,h_1.lg⟩
 .have hge:i=3:=by simp at hc;omega
  repeat refine⟨rfl,?_⟩
  conv=>whnf
  exact⟨by unfold Bk.flaw;rw[if_pos (h1 (by omega)),if_pos (h2 (by omega)),h3 (by omega)];rfl,h_1.lg⟩
end Go.Proofs
namespace Go.TM
variable{T:Type}{P:Program}{S:Sys P T}{f:Fm}{K:Value->Qa T->Prop}{U:Qa T}
def Zec{t e ty n len cap:Nat}{a:Option Addr}{x hi mx:Operand}{inf:TypeInfo}(hu:P.underlying t=some (.slice e))(hi':P.info? e=some inf)(hx:Zl f x=.slice a len cap)(hh:Zl f hi=.int .i64 n)(hm:Zl f mx=.int .i64 n)(hn:n<=cap)
  (hsp:∀ad,a=some ad->ad.spot=none) (h:K (.slice a n n) U) :
  OX S (.raw { dst:=none,op:=.slice t x none (some hi) (some mx),type:=ty,pos := "", after:=#[],guard:=none }) f K U:=by
 intro a' ha;simp only[execOp,ha,hx,hh,hm,Option.map_some,Option.map_none];refine rq ?_;simp only[Instr.sliceAt,Instr.slice,Qf,Zg hu,Instr.sliceBounds];refine Qgm rfl hn ?_;refine Qgm rfl (Nat.le_refl _) ?_;simp only[Qi,Jh hi'];refine⟨U,.refl _,?_⟩
 have e1:(if n=0 then a else a.map λ x=>x.add (0*inf.size))=a:=by
  split
  .rfl
  .cases a with
   |none=>rfl
   |some ad=>
    have:=hsp ad rfl;obtain⟨b,o,s⟩:=ad;cases this;simp only[Option.map_some,Nat.zero_mul];rw[Qo];rfl
 rw[e1];exact h
def Q1h{t e ty n N:Nat}{b o:Nat}{x hi:Operand}{inf:TypeInfo}(hu:P.underlying t=some (.array N e))(hi':P.info? e=some inf)(hx:Zl f x=.pointer (some ⟨b,o,none⟩))(hh:Zl f hi=.int .i64 n)(hn:n<=N)
  (h:K (.slice (some ⟨b,o,none⟩) n N) U) :
  OX S (.raw { dst:=none,op:=.slice t x none (some hi) none,type:=ty,pos := "", after:=#[],guard:=none }) f K U:=by
 intro a' ha;simp only[execOp,ha,hx,hh,Option.map_some,Option.map_none];refine rq ?_;simp only[Instr.sliceAt,Qf,Zg hu,Instr.sliceBounds,Instr.sureAddr,Qi];refine Qgm rfl hn ?_;simp only[Qi,Jh hi'];refine⟨U,.refl _,?_⟩
 have e1:(if N=0 then(⟨b,o,none⟩:Addr)else(⟨b,o,none⟩:Addr).add (0*inf.size))=⟨b,o,none⟩:=by
  split
  .rfl
  .rw[Nat.zero_mul,Qo];rfl
 rw[e1];exact h
def Qaj(s:Nat->Bool):List Value:=[.bool (s 0),.bool (s 1),.bool (s 2),.bool (s 3),.bool (s 4),.bool (s 5)]
def Qc8{j:Nat}(h:j<6):j=0\/j=1\/j=2\/j=3\/j=4\/j=5:=by omega
def Q1n(s:Nat->Bool){j:Nat}(h:j<6):(Qaj s)[j]?=some (.bool (s j)):=by
 rcases Qc8 h with rfl|rfl|rfl|rfl|rfl|rfl <;> rfl
def Q6q(s:Nat->Bool){j:Nat}(h:j<6)(v:Bool):(Qaj s).toArray.setIfInBounds j (.bool v)=(Qaj (Q6g s j v)).toArray:=by
 rcases Qc8 h with rfl|rfl|rfl|rfl|rfl|rfl <;> rfl
def Qv7{s r:Nat->Bool}(h:∀j,j<6->s j=r j):Qaj s=Qaj r:=by
 unfold Qaj;simp only[h 0 (by omega),h 1 (by omega),h 2 (by omega),h 3 (by omega),h 4 (by omega),h 5 (by omega)]
def Qie(s:Nat->Bool):∀v∈Qaj s,v.single=true:=by simp[Qaj,Value.single]
def Qo0(s:Nat->Bool):∀v∈Qaj s,Qq2 .bool v=true:=by simp[Qaj,Qq2]
def Qy9{s r:Nat->Bool}:Qdi (Qaj s) (Qaj r)=true↔∀j,j<6->s j=r j:=by
 simp only[Qaj,Qdi,eqv,Bool.and_eq_true,beq_iff_eq,and_true];constructor
 .rintro⟨h0,h1,h2,h3,h4,h5⟩ j hj;rcases Qc8 hj with rfl|rfl|rfl|rfl|rfl|rfl <;> assumption
 .exact λ h=>⟨h 0 (by omega),h 1 (by omega),h 2 (by omega),h 3 (by omega),h 4 (by omega),h 5 (by omega)⟩
abbrev Zsq(s:Nat->Bool):Value:=.agg #[.bool (s 0),.bool (s 1),.bool (s 2),.bool (s 3),.bool (s 4),.bool (s 5)]
def Ztu:Array Value:=#[.bool false,.bool false,.bool false,.bool false,.bool false,.bool false]
def W2(s:List Bool):Nat->Bool:=λ j=>s.getD j false
def Zq6(n:Nat):W2 (replicate n true)=λ j=>decide (j<n):=by
 funext j;simp only[W2,getD_eq_getElem?_getD,getElem?_replicate];by_cases h:j<n <;> simp[h]
def Zq7(s:List Bool)(i:Nat)(v:Bool)(hi:i<s.length):Q6g (W2 s) i v=W2 (s.set i v):=by
 funext k;simp only[Q6g,W2,getD_eq_getElem?_getD,getElem?_set];by_cases h:k=i
 .subst h;simp[hi]
 .rw[if_neg h,if_neg (Ne.symm h)]
def J3(w:List Bool):Nat:=Ja ((range w.length).filter λ i=>w.getD i false)
def Qij(w:List Bool)(k:Nat):(J3 w).testBit k=w.getD k false:=by
 rw[J3,Wy,Bool.eq_iff_iff,contains_iff_mem,mem_filter,mem_range];constructor
 .exact λ h=>h.2
 .intro h;refine⟨?_,h⟩;apply Classical.byContradiction;intro hk;rw[getD_eq_getElem?_getD,getElem?_eq_none (by omega)]at h;cases h
def Zo1(w:List Bool)(i:Nat)(hi:i<w.length):J3 (w.set i true)=J3 w||| (1<<<i):=by
 apply Nat.eq_of_testBit_eq;intro k;rw[Nat.testBit_or,Qij,Qij,Qmp];simp only[getD_eq_getElem?_getD,getElem?_set];by_cases h:k=i
 .subst h;simp[hi]
 .rw[if_neg (Ne.symm h)];simp[h]
def Qzw(n:Nat):J3 (replicate n false)=0:=by
 apply Nat.eq_of_testBit_eq;intro k;rw[Qij,Nat.zero_testBit,getD_eq_getElem?_getD,getElem?_replicate];by_cases h:k<n <;> simp[h]
def Q1v(w:List Bool){m:Nat}(h:w.length<=m):J3 w<2^m:=
 Qce λ x hx=>by
  have:=mem_range.1 (mem_filter.1 hx).1;omega
end Go.TM
namespace Go.Proofs
open Go.TM
variable{T:Type}{S:TM.Sys prog T}{U:Qa T}
attribute [local irreducible] Qb Zh We
def Qpd(h:BH)(b:Bk)(hb:Zt U h b)(h6:b.rs.length<=6):Qb S 47 #[h.v] (λ v U'=>v=Zsq (W2 b.ini.1)/\U'=U) U:=by
 refine Qb.pure' (Qb.of (args:=[_]) Qsn Qd (by simp) ?_);have hrl:=hb.rs.1;have hini:W2 b.ini.1=λ j=>decide (j<h.rl):=by rw[<- hrl];exact Zq6 _
 rw[hini]
 repeat refine⟨rfl,?_⟩
 conv=>whnf
 intro B U₀ h_0 hB;have hB:Zd U₀ B #[.slice h.ra h.rl h.rc,.slice h.ca h.cl h.cc]:=hB
 conv=>whnf
 intro b2 hf2;refine⟨_,.refl _,?_⟩
 conv=>whnf
 intro b3 hf3;refine⟨_,.refl _,_,(hB.lg ((Z0 b2 _).trans (Z0 b3 _))).sees3 (o:=0) rfl,Nat,λ i=>[(2,.pointer (some ⟨b2,0,none⟩)),(3,.pointer (some ⟨b3,0,none⟩)),(8,.int .i64 h.rl),(9,.int .i64 i)],
  λ i U'=>U₀.I=U'.I/\U₀.tok=U'.tok/\U'.M=.obj b3 (.cells (Qaj λ j=>decide (j<i)).toArray 103 (0,0))::.obj b2 (.cells Ztu 103 (0,0))::U₀.M/\i<=h.rl,λ i=>h.rl-i,0,by trivial,⟨rfl,rfl,rfl,by omega⟩,?_⟩
 rintro i f U1⟨hI,ht,hM,hi⟩;have hlg:U₀.lg U1:=⟨λ b o h=>by rw[<- hI];exact h,⟨[_,_],hM⟩,ht.symm⟩
 repeat refine⟨rfl,?_⟩
 conv=>whnf
 apply Qe<;>intro hc
 .have hlt:i<h.rl:=by simpa using hc
  have hi6:i<6:=by omega
  refine⟨i,⟨rfl,hi6⟩,rfl,?_⟩;show StV ((Addr.mk b3 0 none).add (i*1)) [.bool true] 0 _ _;rw[Nat.mul_one];refine Q6s [] hM hi6 rfl ?_
  have e1:(Qaj λ j=>decide (j<i)).toArray.setIfInBounds i (.bool true)=(Qaj λ j=>decide (j<i+1)).toArray:=by
   rw[Q6q _ hi6];congr 1;refine Qv7 λ k _=>?_;unfold Q6g;by_cases hk:k=i
   .simp[hk]
   .rw[if_neg hk];have:(k<i)=(k<i+1):=propext (by omega);simp[this]
  rw[e1];refine⟨by unfold Zm;omega,?_⟩;refine⟨rfl,i+1,by trivial,⟨hI,ht,rfl,by omega⟩,by show _-_<_-_;omega⟩
 .have hge:i=h.rl:=by simp at hc;omega
  subst hge;refine⟨_,⟨rfl,Q7 [] hM⟩,rfl,Q1p (vs:=Qaj λ j=>decide (j<h.rl)) [_] hM rfl (Qie _) ?_⟩;refine⟨_,⟨rfl,Q7 [_] rfl⟩,?_⟩
  conv=>whnf
  exact⟨rfl,(h_0.lg.trans ⟨hlg.imm,⟨[_,_],rfl⟩,hlg.tok⟩)⟩
def Qtd(b:Nat)(s:Nat->Bool)(hb:Zd U b (Qaj s).toArray)(r:Nat)(hr:r<6):Qb S 109 #[.int .i64 r,.pointer (some ⟨b,0,none⟩)] (λ v U'=>v=.bool (!s r)/\U'=U) U:=by
 refine Qb.of (args:=[_,_]) Qxw Qd (by simp) ?_
 repeat refine⟨rfl,?_⟩
 refine⟨r,⟨rfl,hr⟩,.bool (s r),?_,?_⟩
 .rw[Nat.mul_one,Qo];exact hb.sees (by rw[Nat.zero_add,getElem?_toArray];exact Q1n s hr)
 repeat refine⟨rfl,?_⟩
 conv=>whnf
def Qko(a:Option Addr)(len cap:Nat)(l:List Int)(hl:Z3 U a len l)(hlen:len<2^60)(g:FuncId)(first capt:Array Value)(p:Int->Bool)(hf:Qjv S U g first capt (λ n=>.int .i64 n) l p) :
  Qb S 108 #[.slice a len cap,.func (.func g) first capt] (λ v U'=>v=.bool (l.any p)/\U'=U) U:=by
 refine Qb.of (args:=[_,_]) Qxv Qd (by simp) ?_;refine⟨Qx1.any,(Qz8 (λ n=>.int .i64 n) a len cap l hl.1 hl.2 (λ x=>⟨_,_,rfl⟩) hlen g first capt p hf).mono ?_⟩;rintro v U'⟨rfl,rfl⟩-
 repeat refine⟨rfl,?_⟩
 refine⟨?_,rfl⟩;show Value.bool _=_;rw[Qmc]
def Qr8(b:Nat)(s:Nat->Bool)(hb:Zd U b (Qaj s).toArray)(a:Option Addr)(len cap:Nat)(l:List Int)(hl:Z3 U a len l)(hlen:len<2^60)(h6:∀n∈l,0<=n/\n<6) :
  Qb S 107 #[.slice a len cap,.pointer (some ⟨b,0,none⟩)] (λ v U'=>v=.bool (l.all λ r=>s r.toNat)/\U'=U) U:=by
 refine Qb.of (args:=[_,_]) Qxu Qd (by simp) ?_;refine⟨Qxv.any,(Qko a len cap l hl hlen 109 #[] #[_] (λ r=>!s r.toNat) ⟨Qxw.any,λ n hn=>?_⟩).mono ?_⟩
 .obtain⟨k,rfl⟩:=Int.eq_ofNat_of_zero_le (h6 n hn).1;exact Qtd b s hb k (by have:=(h6 _ hn).2;omega)
 rintro v U'⟨rfl,rfl⟩-
 repeat refine⟨rfl,?_⟩
 refine⟨?_,rfl⟩;show Value.bool _=_;congr 1;rw[Bool.eq_iff_iff];simp
def Qz9(a:Option Addr)(len cap:Nat)(l:List (List Int))(hrd:Wj U a len l)(hlen:len<2^60)(g:FuncId)(first capt:Array Value)(p:List Int->Bool)
  (hg:(prog.funcs[g]?.any λ fd=>fd.body.isSome&&fd.name != "runtime.NumGoroutine")=true)
  (hf:∀x∈l,∀a' len' cap',Z3 U a' len' x->len'<2^60->Qb S g (first.toList++[Value.slice a' len' cap']++capt.toList).toArray (λ v U'=>v=.bool (p x)/\U'=U) U) :
  Qb S 136 #[.slice a len cap,.func (.func g) first capt] (λ v U'=>v=.int .i64 (Qvr p l)/\U'=U) U:=by
 refine Qb.of (args:=[_,_]) Qx0 Qd (by simp) ?_;have hl:=hrd.1
 repeat refine⟨rfl,?_⟩
 refine⟨Nat,λ i=>[(0,.slice a len cap),(1,.func (.func g) first capt),(6,.slice a len cap),(7,.int .i64 len),(8,.int .i64 i)],
  λ i U'=>U'=U/\i<=len/\∀x∈l.take i,p x=false,λ i=>len-i,0,by trivial,⟨rfl,by omega,by simp⟩,?_⟩
 rintro i f _⟨rfl,hi,hinv⟩
 repeat refine⟨rfl,?_⟩
 conv=>whnf
 apply Qe<;>intro hc
 .have hlt:i<len:=by simpa using hc
  obtain⟨ad,x,vs,hx,rfl,hsp,⟨a',len',cap',rfl,hx1,hx2⟩,hn,hs⟩:=Qx.at hrd hlt;have hcall:=hf x (mem_of_getElem? hx) a' len' cap' hx1 hx2;refine⟨ad,i,⟨rfl,rfl,hlt⟩,_,hs 0 _ rfl,hg,hcall.mono ?_⟩;rintro v U'⟨rfl,rfl⟩-
  conv=>whnf
  apply Qe<;>intro hc
  .repeat refine⟨rfl,?_⟩
   conv=>whnf
   exact⟨by rw[Qfy hx hc hinv],rfl⟩
  .refine⟨by unfold Zm;omega,?_⟩;refine⟨rfl,i+1,by trivial,⟨rfl,by omega,?_⟩,by show _-_<_-_;omega⟩;intro y hy;rw[Jt hx,mem_append]at hy;rcases hy with hy|hy
   .exact hinv y hy
   .simp at hy;subst hy;exact hc
 .have hge:len<=i:=by simpa using hc
  repeat refine⟨rfl,?_⟩
  refine⟨?_,rfl⟩;rw[take_of_length_le (by omega)]at hinv;rw[Qfx hinv]
def Qkp(a:Option Addr)(len cap:Nat)(l:List (List Int))(hrd:Wj U a len l)(hlen:len<2^60)(g:FuncId)(first capt:Array Value)(p:List Int->Bool)
  (hg:(prog.funcs[g]?.any λ fd=>fd.body.isSome&&fd.name != "runtime.NumGoroutine")=true)
  (hf:∀x∈l,∀a' len' cap',Z3 U a' len' x->len'<2^60->Qb S g (first.toList++[Value.slice a' len' cap']++capt.toList).toArray (λ v U'=>v=.bool (p x)/\U'=U) U) :
  Qb S 106 #[.slice a len cap,.func (.func g) first capt] (λ v U'=>v=.bool (l.any p)/\U'=U) U:=by
 refine Qb.of (args:=[_,_]) Qxt Qd (by simp) ?_;refine⟨Qx0.any,(Qz9 a len cap l hrd hlen g first capt p hg hf).mono ?_⟩;rintro v U'⟨rfl,rfl⟩-
 repeat refine⟨rfl,?_⟩
 refine⟨?_,rfl⟩;show Value.bool _=_;rw[Qmc]
def Q0w(hv nm:Value)(ag:Value)(gc:Nat)(af:Value)(ga:Option Addr)(gl:Nat)(gs:List (List Int))(hg:Wj U ga gl gs)(hgl:gl<2^60)(s:Nat->Bool)(h6:∀g∈gs,∀n∈g,0<=n/\n<6)(h:BH)(hH:hv=h.v)(c:ByteArray)(hN:nm=.string c)(n:Int)(hA:ag=.int .i64 n)(fa:Option Addr)(fl fc:Nat)(hF:af=.slice fa fl fc) :
  Qb S 78 #[hv,.agg #[nm,ag,.slice ga gl gc,af],Zsq s] (λ v U'=>v=.bool (gs.any λ g=>g.all λ r=>s r.toNat)/\U'=U) U:=by
 subst hH hN hA hF;refine Qb.pure' (Qb.of (args:=[_,_,_]) Q3y Qd (by simp) ?_)
 repeat refine⟨rfl,?_⟩
 conv=>whnf
 intro B3 U1 h_1 hB3
 conv=>whnf
 intro B4 U2 h_2 hB4;have hB4:Zd U2 B4 #[.string c,.int .i64 n,.slice ga gl gc,.slice fa fl fc]:=hB4
 conv=>whnf
 intro B5 U3 h_3 hB5;have hB5:Zd U3 B5 (Qaj s).toArray:=hB5;have hle:=(h_1.trans h_2).trans h_3;refine⟨_,(hB4.le h_3).sees3 (o:=2) rfl,Qxt.any,(Qkp ga gl gc gs (hg.lg hle.lg) hgl 107 #[] #[_] (λ g=>g.all λ r=>s r.toNat) Qxu.any λ x hx a' len' cap' h1 h2=>Qr8 B5 s hB5 a' len' cap' x h1 h2 (h6 x hx)).mono ?_⟩;rintro v U'⟨rfl,hU'⟩-;obtain rfl:=hU'.symm
 repeat refine⟨rfl,?_⟩
 conv=>whnf
 exact hle.lg
end Go.Proofs
namespace Go.TM
variable{T:Type}{P:Program}{S:Sys P T}{U:Qa T}
def Z7.sub{b o n:Nat}{vs:List Value}(h:Z7 U ⟨b,0,none⟩ vs):Z7 U ((Addr.mk b 0 none).add o) ((vs.drop o).take n):=by
 intro i v hv
 have h1:vs[o+i]?=some v:=by
  have hlt:=(List.getElem?_eq_some_iff.1 hv).1;rw[getElem?_take]at hv;split at hv
  .rwa [getElem?_drop]at hv
  .cases hv
 have:=h (o+i) v h1;rw[Qo]at this ⊢;rw[Qo]
 rwa [Nat.zero_add,<- Nat.zero_add o,Nat.add_assoc,Nat.zero_add]at this ⊢
def Qbk{b i:Nat}{e:TypeId}{c:Array Value}{v:Value}{M₀:List Qv}{Q:Qa T->Prop}(X:List Qv)(hM:U.M=X++.obj b (.cells c e (0,0))::M₀)(hi:i<c.size)(hs:v.single=true)
  (h:∀U1:Qa T,U1.I=U.I->U1.tok=U.tok->U1.M=X++.obj b (.cells (c.setIfInBounds i v) e (0,0))::M₀->Q U1):StV ((Addr.mk b 0 none).add i) [v] 0 (λ U'=>∃U1,Qw U' U1/\Q U1) U:=
 Q6s X hM hi hs (h _ rfl rfl rfl)
def Js{b:Nat}{e:TypeId}{c:Array Value}{vs:List Value}{M₀:List Qv}{Q:Qa T->Prop}(X:List Qv)(hM:U.M=X++.obj b (.cells c e (0,0))::M₀)(hsz:c.size=vs.length)(hs:∀v∈vs,v.single=true)
  (h:∀U1:Qa T,U1.I=U.I->U1.tok=U.tok->U1.M=X++.obj b (.cells vs.toArray e (0,0))::M₀->Q U1):StV ⟨b,0,none⟩ vs 0 (λ U'=>∃U1,Qw U' U1/\Q U1) U:=
 Q1p X hM hsz hs (h _ rfl rfl rfl)
def Qb.out{f:FuncId}{args:Array Value}{R:Value->Nat->Obj->Prop}(h:Qb S f args (λ v U'=>∃b o A,R v b o/\U'.M=.obj b o::(A++U.M)/\(∀x ox,U.I x=some ox->U'.I x=some ox)/\U'.tok=U.tok) U) :
  Qb S f args (λ v U'=>∃b o,R v b o/\U'.I b=some o/\U.le U') U:=by
 refine h.sep λ v U' hs⟨b,o,A,hr,hM,hI,ht⟩=>?_;have h1:Qw U' { U' with M:=.obj b o::U.M }:=Z4 (by rw[hM];exact(sublist_append_right A U.M).cons₂ _)
 have hs':Sep { U' with M:=.obj b o::U.M }:=λ r hr=>hs r (by rw[hM];rcases mem_cons.1 hr with rfl|hr;{simp};simp[hr])
 obtain⟨U'',k1,k2,k3⟩:=Qze (U':={ U' with M:=.obj b o::U.M }) hs' rfl hI rfl ht;exact⟨U'',h1.trans k1,b,o,hr,k3,k2⟩
abbrev Zef(a:Option Addr)(len cap:Nat)(s:Nat->Bool)(w:Nat):Value:=.agg #[.slice a len cap,.bool (s 0),.bool (s 1),.bool (s 2),.bool (s 3),.bool (s 4),.bool (s 5),.int .i64 w]
def Qbj(v:Value)(s:Nat->Bool)(w:Nat):List Value:=[v,.bool (s 0),.bool (s 1),.bool (s 2),.bool (s 3),.bool (s 4),.bool (s 5),.int .i64 w]
def Zjk(v:Value)(s:Nat->Bool)(w:Nat){j:Nat}(h:j<6)(u:Bool):(Qbj v s w).toArray.setIfInBounds (1+j) (.bool u)=(Qbj v (Q6g s j u) w).toArray:=by
 rcases Qc8 h with rfl|rfl|rfl|rfl|rfl|rfl <;> rfl
def Q14(U:Qa T)(v:Value)(o:List Nat)(x:List Bool×List Bool):Prop:=∃a cap,v=Zef a o.length cap (W2 x.1) (J3 x.2)/\Z3 U a o.length (o.map λ(k:Nat)=>(k:Int))/\o.length<=cap/\∀ad,a=some ad->ad.spot=none
def Q14.lg{U':Qa T}{v:Value}{o:List Nat}{x:List Bool×List Bool}(h:Q14 U v o x)(k:U.lg U'):Q14 U' v o x:=let ⟨a,c,e,h1,h2⟩:=h;⟨a,c,e,h1.lg k,h2⟩
def Z3.src'{a:Option Addr}{len:Nat}{l:List Int}(h:Z3 U a len l):Src U a (l.map λ n=>.int .i64 n):=by
 cases l with
 |nil=>
  cases a with
  |none=>exact .inl ⟨rfl,rfl⟩
  |some ad=>exact .inr ⟨ad,rfl,λ i v hv=>by simp at hv⟩
 |cons x l=>
  obtain⟨ad,e,hsp,_⟩:=h.2 0 x rfl;refine .inr ⟨ad,e,λ i v hv=>?_⟩;rw[getElem?_map]at hv;cases hx:(x::l)[i]? with
  |none=>rw[hx]at hv;cases hv
  |some y=>
   rw[hx]at hv;cases hv;obtain⟨ad',e',hsp',hs⟩:=h.2 i y hx;rw[e]at e';cases e'
   rwa [Nat.mul_one]at hs
end Go.TM
namespace Go.Proofs
open Go.TM
variable{T:Type}{S:TM.Sys prog T}{U:Qa T}
attribute [local irreducible] Qb Zh We
def Qji(h:BH)(b:Bk)(hb:Zt U h b)(hok:b.Ok)(a:Option Addr)(cap:Nat)(o:List Nat)(x:List Bool×List Bool)(ho:Z3 U a o.length (o.map λ(k:Nat)=>(k:Int)))(hsp:∀ad,a=some ad->ad.spot=none)(hcap:o.length<=cap)(h5:o.length<=5)
  (h1:x.1.length=b.rs.length) (h2:x.2.length=b.cs.length) (i:Nat) (hi:i<b.cs.length) :
  Qb S 50 #[h.v,Zef a o.length cap (W2 x.1) (J3 x.2),.int .i64 i] (λ v U'=>Q14 U'.frz v (o++[i]) (b.stp x i)/\U.le U') U:=by
 have hcl:=hb.cs.1;have hrl:=hb.rs.1;have hnc:=hok.nc;have hnr:=hok.nr
 let R:Value->Nat->Obj->Prop:=λ v B O=>∃(cp:Nat)(c:Array Value),v=Zef (some ⟨B,0,none⟩) (o.length+1) cp (W2 (b.stp x i).1) (J3 (b.stp x i).2)/\O=.cells c 3 (0,0)/\o.length+1<=cp/\∀(k:Nat)(u:Value),((o++[i]).map λ(k:Nat)=>Value.int .i64 (k:Int))[k]?=some u->c[k]?=some u
 have main:Qb S 50 #[h.v,Zef a o.length cap (W2 x.1) (J3 x.2),.int .i64 i] (λ v U'=>∃B O A,R v B O/\U'.M=.obj B O::(A++U.M)/\(∀y oy,U.I y=some oy->U'.I y=some oy)/\U'.tok=U.tok) U:=by
  refine Qb.of (args:=[_,_,_]) Qso Qd (by simp) ?_;obtain⟨c,hcx⟩:∃c,b.cs[i]?=some c:=⟨_,getElem?_eq_getElem hi⟩;have hcas:b.cas i=c:=by simp[Bk.cas,getD_eq_getElem?_getD,hcx]
  have hcm:=mem_of_getElem? hcx;have hag:=hok.ag c hcm;have hgs:=hok.gs c hcm;have hw5:J3 x.2<2^5:=Q1v _ (by omega);have hw60:J3 x.2<2^60:=Nat.lt_trans hw5 (by decide)
  have h6:∀g∈c.gs,∀n∈g,0<=n/\n<6:=λ g hg n hn=>by
   have:=(hgs g hg).2 n hn;unfold Bk.nr at this;omega
  have hag6:c.ag.toNat<6/\c.ag=(c.ag.toNat:Int)/\c.ag.toNat<x.1.length:=by unfold Bk.nr at hag;omega
  obtain⟨inf,-,hinf,-⟩:=Qay.i
  have hstp:b.stp x i=if(c.gs.any λ g=>g.all λ r=>W2 x.1 r.toNat)then(x.1.set c.ag.toNat false,x.2.set i true)else x:=by
   unfold Bk.stp Zrw;rw[hcas];rfl
  repeat refine⟨rfl,?_⟩
  conv=>whnf
  intro B U1 h_1 hB;have hB:Zd U1 B #[.slice h.ra h.rl h.rc,.slice h.ca h.cl h.cc]:=hB
  conv=>whnf
  intro b4 hf4
  conv=>whnf
  intro b6 hf6;refine⟨_,.refl _,?_⟩
  let L:List Value:=Qbj (.slice a o.length cap) (W2 x.1) (J3 x.2)
  have hM:((U1.put b4 (.cells L.toArray 106)).put b6 (.cells #[.slice none 0 0,.bool false,.bool false,.bool false,.bool false,.bool false,.bool false,.int .i64 0] 106)).M=[.obj b6 (.cells #[.slice none 0 0,.bool false,.bool false,.bool false,.bool false,.bool false,.bool false,.int .i64 0] 106 (0,0))]++.obj b4 (.cells L.toArray 106 (0,0))::U1.M:=rfl;have hrd:=Q7 [_] hM;have hs0:=hrd.cell (i:=0) (v:=.slice a o.length cap) rfl;refine⟨_,hs0,_,hs0,_,hs0,?_⟩
  conv=>whnf
  refine Zec Qh0 hinf rfl rfl rfl hcap hsp ?_
  conv=>whnf
  intro b18 hf18;refine Zk hf18 λ U2 h_2 hb18=>?_;have hb18:Zd U2 b18 #[.int .i64 i]:=hb18;have hlg_2:U.lg U2:=h_1.lg.trans ((Z0 b4 _).trans ((Z0 b6 _).trans h_2.lg));have hlg12:U1.lg U2:=(Z0 b4 _).trans ((Z0 b6 _).trans h_2.lg);have hM_2:U2.M=_:=h_2.own.trans hM
  conv=>whnf
  refine Q6i (cs:=(o.map λ(k:Nat)=>(k:Int)).map λ n=>.int .i64 n) (new:=[.int .i64 i]) Qay rfl rfl (Z3.src' (ho.lg hlg_2)) (by simp) (.inr ⟨_,rfl,hb18.reads (λ k v hv=>by simpa using hv)⟩) rfl (by simp;omega) (λ h0=>by cases h0) (λ _ bn cn capn hfn hlen hsz hcc=>?_)
  let L1:List Value:=Qbj (.slice (some ⟨bn,0,none⟩) (o.length+1) capn) (W2 x.1) (J3 x.2)
  have hM_3:(U2.put bn (.cells cn 3)).M=[.obj bn (.cells cn 3 (0,0)),.obj b6 (.cells #[.slice none 0 0,.bool false,.bool false,.bool false,.bool false,.bool false,.bool false,.int .i64 0] 106 (0,0))]++.obj b4 (.cells L.toArray 106 (0,0))::U1.M:=by
   show _::U2.M=_;rw[hM_2];rfl
  obtain⟨ad,c',ga,gl,gc,aa,al,ac,hx',hea,hspa,hrdc,hg,hgl,ha,hal,hmem⟩:=(hb.lg h_1.lg).case (show i<h.cl by omega);obtain rfl:c=c':=Option.some.inj (hcx.symm.trans hx');refine⟨rfl,Q6s (i:=0) [_,_] hM_3 (by show 0<8;omega) rfl ?_⟩;refine⟨_,Qa.sees.lg (hB.sees3 (o:=1) rfl) ⟨hlg12.imm,⟨[_,_,_],rfl⟩,hlg12.tok⟩,ad,i,⟨hea,rfl,by omega⟩,_,⟨rfl,hrdc.lg ⟨hlg12.imm,⟨[_,_,_],rfl⟩,hlg12.tok⟩⟩,?_⟩
  conv=>whnf
  intro b7 hf7;refine⟨_,.refl _,rfl,Zs (vs:=[.string c.nm,.int .i64 c.ag,.slice ga gl gc,.slice aa al ac]) hf7 rfl (by simp[Value.single]) λ U3 h_3 hb_7=>?_⟩;have hM4:U3.M=[.obj bn (.cells cn 3 (0,0)),.obj b6 (.cells #[.slice none 0 0,.bool false,.bool false,.bool false,.bool false,.bool false,.bool false,.int .i64 0] 106 (0,0))]++.obj b4 (.cells L1.toArray 106 (0,0))::U1.M:=h_3.own;have hI13:∀y oy,U1.I y=some oy->U3.I y=some oy:=λ y oy hy=>h_3.imm y oy (hlg12.imm y oy hy);have ht3:U3.tok=U1.tok:=h_3.tok.trans hlg12.tok;have hlg_13:U1.lg U3:=⟨hI13,⟨[_,_,_],hM4⟩,ht3⟩;have hrd4:=Q7 [_,_] hM4;refine⟨_,⟨rfl,(hB.lg hlg_13).reads (λ k v hv=>by simpa using hv)⟩,?_⟩;refine⟨_,⟨rfl,hb_7.reads (λ k v hv=>by simpa using hv)⟩,?_⟩;refine⟨Qaj (W2 x.1),⟨rfl,hrd4.sub (o:=1) (n:=6)⟩,Q3y.any,(Q0w _ _ _ gc _ ga gl c.gs (hg.lg hlg_13) hgl (W2 x.1) h6 h rfl c.nm rfl c.ag rfl aa al ac rfl).mono ?_⟩;rintro v U'⟨rfl,hU'⟩-;obtain rfl:=hU'.symm
  have done:∀s w,b.stp x i=(s,w)->R (Zef (some ⟨bn,0,none⟩) (o.length+1) capn (W2 s) (J3 w)) bn (.cells cn 3 (0,0)):=λ s w e=>
   ⟨capn,cn,by rw[e],rfl,hlen,λ k u hu=>hcc k u (by simpa[Function.comp_def]using hu)⟩
  cases hwin:(c.gs.any λ g=>g.all λ r=>W2 x.1 r.toNat)with
  |true=>
   rw[hwin,if_pos rfl]at hstp;have hsh:=Q1m (show i<60 by omega);refine⟨_,hrd4.cell (i:=7) rfl,by omega,?_⟩
   conv=>whnf
   intro U5 h_5 _;have hM_5:=h_5.own.trans hM4;have hI15:∀y oy,U1.I y=some oy->U5.I y=some oy:=λ y oy hy=>h_5.imm y oy (hI13 y oy hy);have ht_5:U5.tok=U1.tok:=h_5.tok.trans ht3;have hb_7:=hb_7.le h_5;have key:J3 x.2||| (1<<<i)=J3 (x.2.set i true):=(Zo1 x.2 i (by omega)).symm
   have e2:IntKind.wrap .i64 ((BitVec.ofInt (IntKind.bits .i64) ((J3 x.2:Nat):Int)||| BitVec.ofInt (IntKind.bits .i64) (IntKind.wrap .i64 ((1:Int)*2^(min ((i:Int).toNat) (IntKind.bits .i64))))).toNat:Int)=((J3 (x.2.set i true):Nat):Int):=by
    rw[hsh,Zn9 hw60 (Qdq (by omega)),key]
   refine⟨rfl,rfl,?_⟩;rw[e2];refine Qbk (i:=7) (v:=.int .i64 (J3 (x.2.set i true):Nat)) [_,_] hM_5 (by show 7<8;omega) rfl λ U6 hI_6 ht_6 hM_6=>?_;have hM_6:U6.M=[_,_]++.obj b4 (.cells (Qbj (.slice (some ⟨bn,0,none⟩) (o.length+1) capn) (W2 x.1) (J3 (x.2.set i true))).toArray 106 (0,0))::U1.M:=hM_6;have hb_6:Zd U6 b7 #[.string c.nm,.int .i64 c.ag,.slice ga gl gc,.slice aa al ac]:=hb_7.imI λ y oy hy=>by rw[hI_6];exact hy
   refine⟨_,hb_6.sees3 (o:=1) rfl,c.ag.toNat,⟨hag6.2.1,hag6.1⟩,rfl,?_⟩;rw[show((Addr.mk b4 0 none).add 1).add (c.ag.toNat*1)=(Addr.mk b4 0 none).add (1+c.ag.toNat) by rw[Qo,Qo,Qo,Nat.mul_one,Nat.zero_add,Nat.zero_add]];refine Qbk (i:=1+c.ag.toNat) (v:=.bool false) [_,_] hM_6 (by show 1+c.ag.toNat<8;omega) rfl λ U7 hI_7 ht_7 hM_7=>?_;rw[Zjk _ _ _ hag6.1,Zq7 _ _ _ hag6.2.2]at hM_7;have hrd_7:=Q7 [_,_] hM_7;refine⟨_,⟨rfl,hrd_7⟩,rfl,Js (vs:=Qbj (.slice (some ⟨bn,0,none⟩) (o.length+1) capn) (W2 (x.1.set c.ag.toNat false)) (J3 (x.2.set i true))) [_] hM_7 rfl (by simp[Qbj,Value.single]) λ U8 hI_8 ht_8 hM_8=>?_⟩;refine⟨_,⟨rfl,Q7 [_] hM_8⟩,?_⟩
   conv=>whnf
   exact⟨bn,_,[_,_],done _ _ hstp,by rw[hM_8,<- h_1.own];rfl,λ y oy hy=>by rw[hI_8,hI_7,hI_6];exact hI15 y oy (h_1.imm y oy hy),by rw[ht_8,ht_7,ht_6,ht_5];exact h_1.tok⟩
  |false=>
   rw[hwin]at hstp;refine⟨_,⟨rfl,hrd4⟩,rfl,Q1p (vs:=L1) [_] hM4 rfl (by simp[L1,Qbj,Value.single]) ?_⟩;refine⟨_,⟨rfl,Q7 [_] rfl⟩,?_⟩
   conv=>whnf
   exact⟨bn,_,[_,_],done x.1 x.2 hstp,by show _=_;rw[<- h_1.own];rfl,λ y oy hy=>hI13 y oy (h_1.imm y oy hy),ht3.trans h_1.tok⟩
 refine(Qb.out (R:=R) main).mono ?_;rintro v U'⟨B,O,⟨cp,c,rfl,rfl,h3,h4⟩,hB,hle⟩;refine⟨⟨some ⟨B,0,none⟩,cp,by simp,?_,by simpa using h3,by rintro _⟨⟩;rfl⟩,hle⟩;have hbl:Zd U'.frz B c:=⟨3,(0,0),hB⟩;refine⟨by simp,λ k y hy=>⟨_,rfl,rfl,?_⟩⟩;rw[Nat.mul_one,Qo];refine hbl.sees ?_;rw[Nat.zero_add];refine h4 k _ ?_;rw[getElem?_map]at hy ⊢;cases hz:(o++[i])[k]? with
 |none=>rw[hz]at hy;cases hy
 |some z=>rw[hz]at hy;cases hy;rfl
end Go.Proofs
namespace Go.TM
variable{T:Type}{P:Program}{S:Sys P T}{f:Fm}{U:Qa T}
def Zeu(S:Sys P T)(l n:Nat)(R:Nat->List Value->Qa T->Prop)(I:Nat->Qa T->Prop)(E:Qa T->Prop):Prop:=
 ∀(k:Nat)(p:List Value)(U1:Qa T)(K:Value->Qa T->Prop),k<n->R k p U1.frz->I k U1->(∀U2,U1.frz.lg U2->I (k+1) U2->K (.bool true) U2)->(∀U2,E U2->K (.bool false) U2)->Zh S l p K U1
def Zer(S:Sys P T)(g:FuncId)(args:Array Value)(l n:Nat)(R:Nat->List Value->Qa T->Prop)(U:Qa T):Prop:=
 ∀(I:Nat->Qa T->Prop)(E:Qa T->Prop),(∀k U1 U2,U1.le U2->I k U1->I k U2)->Zeu S l n R I E->I 0 U->Qb S g args (λ _ U'=>I n U'\/E U') U
def Qzl(hm:P.follows .mixedOrders=true){fn N:Nat}{mu dets:List Nat}{c:Operand}{params:Array Tmp}{sa bd:C}{n:Zp T}{x:Nat->Zp T}{r:Zp T}{ds:List Deferred}{g:FuncId}{first capt:Array Value}
  (len:Nat) (R:Nat->List Value->Qa T->Prop) (Inv:Nat->Qa T->Prop) (X:Nat->Qa T->Prop) (Rt:Qa T->Prop)
  (hc:Zl f c=.func (.func g) first capt) (hp:params.toList.all (λ t=>decide (t<N))=true) (hg:(P.funcs[g]?.any λ fd=>fd.body.isSome&&fd.name != "runtime.NumGoroutine")=true)
  (hit:∀l U1,U.frz.lg U1->Zer S g (first.toList++[Value.func (.yield l) #[] #[]]++capt.toList).toArray l len R U1)
  (hlen:∀k p U,R k p U->p.length=params.size) (hle:∀k U1 U2,U1.le U2->Inv k U1->Inv k U2) (h0:Inv 0 U)
  (hbody:∀(l:Nat)(A B D:Qv)(k:Nat)(p:List Value)(U₀:Qa T)(KN:Zp T)(KX:Nat->Zp T)(KR KA:Zp T),k<len->R k p U₀.frz->Inv k U₀ ->
   (∀f_1 ds1 U3,U₀.frz.lg U3->Inv (k+1) U3->KN f_1 ds1 (U3.on B D))->(∀i f_1 ds1 U3,X i U3->KX i f_1 ds1 (U3.on B D))->(∀f_1 ds1 U3,Rt U3->KR f_1 ds1 (U3.on B D)) ->
   (∀f_1(U1:Qa T),wpC S fn (some l) bd KN KX KR f_1 [] (U1.on B D)->KA f_1 [] (U1.on A D)) ->
   wpC S fn (some l) sa KA (λ _ _ _ _=>False) (λ _ _ _=>False) (Zjl f params.toList p) [] (U₀.on A D))
  (hn:∀(d l:Nat)(A:Obj)U3,Inv len U3->n f (⟨.collected d,#[]⟩::ds) (U3.on (.obj l A) (.obj d (.deferred (some [])))))
  (hx:∀(d l:Nat)(A:Obj)i U3,X i U3->x i f (⟨.collected d,#[]⟩::ds) (U3.on (.obj l A) (.obj d (.deferred (some [])))))
  (hr:∀(d l:Nat)(A:Obj)U3,Rt U3->r f (⟨.collected d,#[]⟩::ds) (U3.on (.obj l A) (.obj d (.deferred (some []))))) :
  We S fn none N mu dets c params sa bd n x r f ds U:=by
 show wpC S fn none (.rng N mu dets c params sa bd) n x r f ds U;refine Zf2 hm hc hp hg λ l d lo hd hl hne hR=>?_
 let D:Qv:=.obj d (.deferred (some []))
 let I:Nat->Qa T->Prop:=λ k U1=>∃U₀,Inv k U₀/\U1=U₀.on (.obj l (lo .ready none)) D
 let E:Qa T->Prop:=λ U1=>∃U₀,(∃i,X i U₀/\U1=U₀.on (.obj l (lo .done (some (.exit i)))) D)\/(Rt U₀/\U1=U₀.on (.obj l (lo .done (some .ret))) D)
 have hfl:U.frz.lg (U.on (.obj l (lo .ready none)) D):=⟨λ _ _ h=>h,⟨_,(append_nil _).symm⟩,rfl⟩;refine(hit l _ hfl I E ?_ ?_ ⟨U,h0,rfl⟩).mono ?_
 .rintro k _ U2 hle' ⟨U₀,hI,rfl⟩;refine⟨{ U2 with M:=U₀.M },hle k U₀ _ ⟨hle'.imm,rfl,hle'.tok⟩ hI,?_⟩;obtain⟨i_2,m_2,t_2⟩:=U2;have:=hle'.own;simp only[Qa.on]at this ⊢;rw[this]
 .rintro k p _ K hk hRk ⟨U₀,hI,rfl⟩ hK1 hK2;refine hR p K _ (hlen k p _ hRk) (mem_cons_self ..) ?_;refine hbody l _ (.obj l (lo .busy none)) D k p U₀ _ _ _ _ hk hRk hI (λ f_1 ds1 U3 hlg h=>?_) (λ i f_1 ds1 U3 h=>?_) (λ f_1 ds1 U3 h=>?_) (λ f_1 U1 h=>⟨rfl,_,.here,h⟩)
  .exact⟨_,.here,hK1 _ ⟨hlg.imm,⟨_,(append_nil _).symm⟩,hlg.tok⟩ ⟨U3,h,rfl⟩⟩
  .exact⟨_,.here,hK2 _ ⟨U3,.inl ⟨i,h,rfl⟩⟩⟩
  .exact⟨_,.here,hK2 _ ⟨U3,.inr ⟨h,rfl⟩⟩⟩
 .rintro v U3 (⟨U₀,hI,rfl⟩|⟨U₀,⟨i,hX,rfl⟩|⟨hR',rfl⟩⟩) -
  .exact⟨.ready,none,_,by simp,.here,hn d l _ U₀ hI⟩
  .exact⟨.done,some (.exit i),_,by simp,.here,hx d l _ i U₀ hX⟩
  .exact⟨.done,some .ret,_,by simp,.here,hr d l _ U₀ hR'⟩
def Bk.ords_succ(b:Bk)(k:Nat)(o:List Nat):b.ords (k+1) o=(range b.cs.length).flatMap λ i=>if b.can o i then b.ords k (o++[i])else[]:=rfl
def Bk.ordsTo(b:Bk)(k:Nat)(o:List Nat)(m:Nat):List (List Nat):=(range m).flatMap λ i=>if b.can o i then b.ords k (o++[i])else[]
def Bk.ordsTo_succ(b:Bk)(k:Nat)(o:List Nat)(m:Nat):b.ordsTo k o (m+1)=b.ordsTo k o m++(if b.can o m then b.ords k (o++[m])else[]):=by
 simp[Bk.ordsTo,range_succ]
def Bk.ordsTo_le(b:Bk)(k:Nat)(o:List Nat){m:Nat}(h:m<=b.cs.length):∃r,b.ords (k+1) o=b.ordsTo k o m++r:=by
 refine⟨((range (b.cs.length-m)).map (m+·)).flatMap λ i=>if b.can o i then b.ords k (o++[i])else[],?_⟩;rw[Bk.ords_succ,Bk.ordsTo,<- flatMap_append];congr 1;rw[<- range_add];congr 1;omega
structure Bk.Run(b:Bk)(o:List Nat):Prop where
 low:∀i∈o,i<b.cs.length
 len:o.length<=b.cs.length
def Bk.ends_len(b:Bk):∀(o:List Nat),(b.ends o).1.length=b.rs.length/\(b.ends o).2.length=b.cs.length:=by
 intro o
 have key:∀(o:List Nat)(x:List Bool×List Bool),x.1.length=b.rs.length->x.2.length=b.cs.length->(o.foldl b.stp x).1.length=b.rs.length/\(o.foldl b.stp x).2.length=b.cs.length:=by
  intro o
  induction o with
  |nil=>exact λ x h1 h2=>⟨h1,h2⟩
  |cons i o ih=>
   intro x h1 h2;refine ih _ ?_ ?_ <;> unfold Bk.stp <;> split <;> simp[h1,h2]
 exact key o b.ini (by simp[Bk.ini]) (by simp[Bk.ini])
def Qol(o:List Nat):Ja ((o.map λ(k:Nat)=>(k:Int)).map Int.toNat)=Ja o:=by
 congr 1;rw[map_map]
 conv=>rhs;rw[<- map_id o]
 exact map_congr_left λ k _=>by simp
structure NxV(U:Qa T)(h:BH)(l B b2 b3:Nat):Prop where
 bk:Zd U B #[.slice h.ra h.rl h.rc,.slice h.ca h.cl h.cc]
 yl:Zd U b2 #[.func (.yield l) #[] #[]]
 nx:Zd U b3 #[.func (.func 84) #[] #[.pointer (some ⟨B,0,none⟩),.pointer (some ⟨b2,0,none⟩),.pointer (some ⟨b3,0,none⟩)]]
def NxV.lg{U':Qa T}{h:BH}{l B b2 b3:Nat}(k:NxV U h l B b2 b3)(hl:U.frz.lg U'):NxV U' h l B b2 b3:=⟨k.bk.imI hl.imm,k.yl.imI hl.imm,k.nx.imI hl.imm⟩
def Zf8(b:Bk)(k:Nat)(p:List Value)(U:Qa T):Prop:=∃o v,b.all[k]?=some o/\p=[v]/\Q14 U v o (b.ends o)
end Go.TM
namespace Go.Proofs
open Go.TM
variable{T:Type}{S:TM.Sys prog T}{U:Qa T}
attribute [local irreducible] Qb Zh We
set_option maxHeartbeats 1000000 in
def Q0f(h:BH)(b:Bk)(hok:b.Ok){l B b2 b3:Nat}{I:Nat->Qa T->Prop}{E:Qa T->Prop}(hst:∀k U1 U2,U1.le U2->I k U1->I k U2)(hro:Zeu S l b.all.length (Zf8 b) I E) :
  ∀(k:Nat)(o:List Nat)(j:Nat)(U:Qa T)(v:Value),o.length+k=b.cs.length->(∀i∈o,i<b.cs.length)->Zt U.frz h b->NxV U h l B b2 b3->Q14 U.frz v o (b.ends o)->(∀(i:Nat)q,(b.ords k o)[i]?=some q->b.all[j+i]?=some q)->I j U ->
   Qb S 84 #[v,.pointer (some ⟨B,0,none⟩),.pointer (some ⟨b2,0,none⟩),.pointer (some ⟨b3,0,none⟩)] (λ v' U'=>(v'=.bool true/\I (j+(b.ords k o).length) U'/\U.frz.lg U')\/(v'=.bool false/\E U')) U:=by
 intro k
 induction k with
 |zero=>
  rintro o j U _ hlen hlow hb hn⟨a,cap,rfl,ho,hcap,hsp⟩hall hI;have hcl:=hb.cs.1;refine Qb.of (args:=[_,_,_,_]) Qku Qd (by simp) ?_
  repeat refine⟨rfl,?_⟩
  conv=>whnf
  intro b4 U1 h_1 hb4;have hb4:Zd U1 b4 (Qbj (.slice a o.length cap) (W2 (b.ends o).1) (J3 (b.ends o).2)).toArray:=hb4;have hn_1:=hn.lg h_1.lg.frz;refine⟨_,hb4.sees3 (o:=0) rfl,_,hn_1.bk.sees3 (o:=1) rfl,?_⟩
  repeat refine⟨rfl,?_⟩
  conv=>whnf
  apply Qe<;>intro hc
  .refine⟨_,hn_1.yl.sees3 (o:=0) rfl,_,⟨rfl,hb4.reads (vs:=Qbj (.slice a o.length cap) (W2 (b.ends o).1) (J3 (b.ends o).2)) (λ k v hv=>by simpa using hv)⟩,?_⟩
   conv=>whnf
   have h00:=hall 0 o rfl;refine hro j _ _ _ (List.getElem?_eq_some_iff.1 h00).1 ⟨o,_,h00,rfl,a,cap,rfl,ho.lg h_1.lg.frz2,hcap,hsp⟩ (hst _ _ _ h_1 hI) (λ U2 hlg hI_2=>?_) (λ U2 hE=>?_)
   .repeat refine⟨rfl,?_⟩
    conv=>whnf
    exact .inl ⟨rfl,hI_2,h_1.lg.frz2.trans hlg⟩
   .repeat refine⟨rfl,?_⟩
    conv=>whnf
    exact .inr ⟨rfl,hE⟩
  .simp at hc;omega
 |succ k ih=>
  rintro o j U _ hlen hlow hb hn⟨a,cap,rfl,ho,hcap,hsp⟩hall hI;have hcl:=hb.cs.1;have hnc:=hok.nc;have hol:Ja o<2^60:=Qce λ x hx=>by have:=hlow x hx;omega
  have h60:∀n∈o.map (λ(k:Nat)=>(k:Int)),0<=n/\n<60:=by
   intro n hn;obtain⟨k,hk,rfl⟩:=mem_map.1 hn;have:=hlow k hk;omega
  refine Qb.of (args:=[_,_,_,_]) Qku Qd (by simp) ?_
  repeat refine⟨rfl,?_⟩
  conv=>whnf
  intro b4 U1 h_1 hb4;have hb4:Zd U1 b4 (Qbj (.slice a o.length cap) (W2 (b.ends o).1) (J3 (b.ends o).2)).toArray:=hb4;have hf_1:=h_1.lg.frz2;have hn_1:=hn.lg h_1.lg.frz;refine⟨_,hb4.sees3 (o:=0) rfl,_,hn_1.bk.sees3 (o:=1) rfl,?_⟩
  repeat refine⟨rfl,?_⟩
  conv=>whnf
  apply Qe<;>intro hc
  .simp at hc;omega
  clear hc;have hbits:=Jd (S:=S) a o.length cap _ ((ho.lg hf_1).lg Qq) (by omega) h60;rw[Qol]at hbits;refine⟨_,hb4.sees3 (o:=0) rfl,Qa6.any,hbits.go λ _=>?_⟩;refine⟨_,hn_1.bk.sees3 (o:=1) rfl,Nat,λ m=>[(1,.pointer (some ⟨B,0,none⟩)),(2,.pointer (some ⟨b2,0,none⟩)),(3,.pointer (some ⟨b3,0,none⟩)),(4,.pointer (some ⟨b4,0,none⟩)),(6,.int .i64 (Ja o:Nat)),(25,.slice h.ca h.cl h.cc),(26,.int .i64 h.cl),(27,.int .i64 m)],
   λ m U'=>U1.frz.lg U'/\m<=h.cl/\I (j+(b.ordsTo k o m).length) U',λ m=>h.cl-m,0,by trivial,⟨Qq,by omega,hst _ _ _ h_1 hI⟩,?_⟩
  rintro m f U2⟨hlg,hm,hI_2⟩;have hin:Zm ((m:Int)+1):=by unfold Zm;omega
  have hsucc:=b.ordsTo_succ k o m
  repeat refine⟨rfl,?_⟩
  conv=>whnf
  apply Qe<;>intro hc
  .have hmt:m<h.cl:=by simpa using hc
   obtain⟨ad,c,ga,gl,gc,aa,al,ac,hx,hea,hspa,hrd,-,-,ha,hal,hmem⟩:=(hb.lg (hf_1.trans hlg)).case hmt;have hat:=Bk.aft1_at hx;have haf60:=hok.toLow.lt hmem;have hcan:b.can o m=(!o.contains m&&(Ji b.A m).all λ k=>o.contains k):=rfl;refine⟨ad,m,⟨hea,rfl,hmt⟩,_,⟨rfl,hrd⟩,?_⟩
   conv=>whnf
   intro b8 hf8;refine⟨_,.refl _,rfl,Zs (vs:=[.string c.nm,.int .i64 c.ag,.slice ga gl gc,.slice aa al ac]) hf8 rfl (by simp[Value.single]) λ U3 h_3 hb_8=>?_⟩;have hlg_3:U1.frz.lg U3:=hlg.trans h_3.lg
   have skip:b.can o m=false->I (j+(b.ordsTo k o (m+1)).length) U3:=λ e=>by
    rw[hsucc,e];simp only[Bool.false_eq_true,if_false,append_nil];exact hst _ _ _ h_3 hI_2
   have hbit:=Qva hol (show m<60 by omega);rw[Wy]at hbit;refine⟨by omega,?_⟩
   repeat refine⟨rfl,?_⟩
   conv=>whnf
   apply Zc<;>intro hc
   .have hno:o.contains m=false:=hbit.symm.trans hc;rw[hno]at hcan;have hbits2:=Jd (S:=S) aa al ac c.af (ha.lg h_3.lg) hal haf60;have hbl:Ja (c.af.map Int.toNat)<2^60:=Qce (toNat_lt haf60);have key:_↔(Ji b.A m).all (λ k=>(Ja o).testBit k)=true:=(Qu7 hbl hol).trans ((Qu6 haf60).trans (by rw[hat]))
    have key2:(Ji b.A m).all (λ k=>(Ja o).testBit k)=(Ji b.A m).all λ k=>o.contains k:=by
     congr 1;funext k;exact Wy o k
    rw[key2]at key;refine⟨_,hb_8.sees3 (o:=3) rfl,Qa6.any,hbits2.go λ _=>?_⟩
    repeat refine⟨rfl,?_⟩
    conv=>whnf
    apply Qe<;>intro hc
    .have hno2:b.can o m=false:=by
      rw[hcan];cases hh:(Ji b.A m).all (λ k=>o.contains k)with
      |false=>rfl
      |true=>exact absurd (key.2 hh) (bne_iff_ne.1 hc)
     refine⟨hin,?_⟩
     conv=>whnf
     exact⟨rfl,m+1,by trivial,⟨hlg_3,by omega,skip hno2⟩,by show _-_<_-_;omega⟩
    .have hyes:b.can o m=true:=by
      rw[hcan];have:(Ji b.A m).all (λ k=>o.contains k)=true:=key.1 (bne_eq_false_iff_eq.1 hc);rw[this];rfl
     rw[hyes,if_pos rfl]at hsucc;have hn_3:=hn_1.lg hlg_3;have hb4₃:=hb4.imI hlg_3.imm;have hlens:=b.ends_len o;refine⟨_,hn_3.nx.sees3 (o:=0) rfl,_,⟨rfl,hn_3.bk.reads (λ k v hv=>by simpa using hv)⟩,?_⟩;refine⟨_,⟨rfl,hb4₃.reads (vs:=Qbj (.slice a o.length cap) (W2 (b.ends o).1) (J3 (b.ends o).2)) (λ k v hv=>by simpa using hv)⟩,?_⟩;refine⟨λ v U'=>Q14 U'.frz v (o++[m]) (b.ends (o++[m])),λ v U1 U2 hv hle=>hv.lg hle.lg.frz2,λ U' hle hC=>?_,λ v hv=>?_⟩
     .refine⟨Qso.any,(Qji h b (hb.lg ((hf_1.trans hlg_3).trans hle.lg)) hok a cap o (b.ends o) (ho.lg ((hf_1.trans hlg_3).trans hle.lg)) hsp hcap (by omega) hlens.1 hlens.2 m (by omega)).mono ?_⟩;rintro v U''⟨hv,hle'⟩-;exact⟨U'',.refl _,by rw[b.ends_snoc];exact hv,hle'⟩
     obtain⟨_,-,-,a',c',rfl,-⟩:=hv
     conv=>whnf
     intro U4 h_4 hC;obtain⟨-,hv⟩:=hC;have hlg_4:U1.frz.lg U4:=hlg_3.trans h_4.lg;obtain⟨r,hr⟩:=b.ordsTo_le k o (show m+1<=b.cs.length by omega);rw[hsucc]at hr
     refine⟨Qku.any,(ih (o++[m]) (j+(b.ordsTo k o m).length) U4 _ (by simp;omega) (λ i hi=>by
      rcases mem_append.1 hi with hi|hi
      .exact hlow i hi
      .rw[mem_singleton.1 hi];omega) (hb.lg (hf_1.trans (show U1.frz.lg U4.frz from hlg_4.frz2))) (hn_1.lg hlg_4) hv (λ i q hq=>by
       rw[Nat.add_assoc];refine hall _ q ?_;rw[hr,append_assoc,getElem?_append_right (by omega),Nat.add_sub_cancel_left,getElem?_append_left (List.getElem?_eq_some_iff.1 hq).1];exact hq) (hst _ _ _ (h_3.trans h_4) hI_2)).mono ?_⟩
     rintro v' U5 (⟨rfl,hI_5,hlg_5⟩|⟨rfl,hE⟩) -
     .have hlg5:U1.frz.lg U5:=(show U1.frz.lg U4.frz from hlg_4.frz2).trans hlg_5
      repeat refine⟨rfl,?_⟩
      refine⟨hin,?_⟩
      conv=>whnf
      exact⟨rfl,m+1,by trivial,⟨hlg5,by omega,by rw[hsucc,length_append,<- Nat.add_assoc];exact hI_5⟩,by show _-_<_-_;omega⟩
     .repeat refine⟨rfl,?_⟩
      conv=>whnf
      exact .inr ⟨rfl,hE⟩
   .have hyes:o.contains m=true:=hbit.symm.trans hc;rw[hyes]at hcan
    repeat refine⟨rfl,?_⟩
    refine⟨hin,?_⟩
    conv=>whnf
    exact⟨rfl,m+1,by trivial,⟨hlg_3,by omega,skip hcan⟩,by show _-_<_-_;omega⟩
  .have hge:m=b.cs.length:=by simp at hc;omega
   subst hge
   repeat refine⟨rfl,?_⟩
   conv=>whnf
   exact .inl ⟨rfl,hI_2,hf_1.trans hlg⟩
def Qhw(h:BH)(b:Bk)(hb:Zt U.frz h b)(hok:b.Ok){l B:Nat}(hB:Zd U B #[.slice h.ra h.rl h.rc,.slice h.ca h.cl h.cc]) :
  Zer S 83 #[.func (.yield l) #[] #[],.pointer (some ⟨B,0,none⟩)] l b.all.length (Zf8 b) U:=by
 intro I E hst hro h0;refine Qb.of (args:=[_,_]) Qsw Qd (by simp) ?_
 conv=>whnf
 intro b2 U1 h_1 hb2;have hb2:Zd U1 b2 #[.func (.yield l) #[] #[]]:=hb2
 conv=>whnf
 intro b3 hf3;refine⟨_,.refl _,rfl,Zs (vs:=[.func (.func 84) #[] #[.pointer (some ⟨B,0,none⟩),.pointer (some ⟨b2,0,none⟩),.pointer (some ⟨b3,0,none⟩)]]) hf3 rfl (by simp[Value.single]) λ U2 h_2 hb3=>?_⟩;have hle:=h_1.trans h_2;have hn:NxV U2 h l B b2 b3:=⟨hB.le hle,hb2.le h_2,hb3⟩;refine⟨_,hn.nx.sees3 (o:=0) rfl,_,⟨rfl,hn.bk.reads (λ k v hv=>by simpa using hv)⟩,?_⟩;refine⟨Zsq (W2 b.ini.1),λ U' hle' _=>?_,?_⟩
 .refine⟨Qsn.any,(Qpd h b ((hb.lg (hle.trans hle').lg.frz2).lg Qq) hok.nr).mono ?_⟩;rintro _ U''⟨rfl,hU⟩-;exact⟨rfl,_,.refl _,hU▸.refl _⟩
 conv=>whnf
 intro U3 h_3 _;have hle3:=hle.trans h_3;have hw0:J3 b.ini.2=0:=Qzw _;have hv:Q14 U3.frz (Zef none 0 0 (W2 b.ini.1) 0) [] (b.ends []):=⟨none,0,by show _=Zef none 0 0 (W2 b.ini.1) (J3 b.ini.2);rw[hw0],⟨rfl,λ i x hx=>by simp at hx⟩,Nat.le_refl _,by simp⟩;refine⟨Qku.any,(Q0f h b hok hst hro b.cs.length [] 0 U3 _ (by simp) (by simp) (hb.lg hle3.lg.frz2) (hn.lg h_3.lg.frz) hv (λ i q hq=>by rw[Nat.zero_add];exact hq) (hst _ _ _ hle3 h0)).mono ?_⟩;rintro v' U4 (⟨rfl,hI_4,-⟩|⟨rfl,hE⟩) -
 .repeat refine⟨rfl,?_⟩
  conv=>whnf
  exact .inl (by rw[Nat.zero_add]at hI_4;exact hI_4)
 .repeat refine⟨rfl,?_⟩
  conv=>whnf
  exact .inr hE
def Qk3(h:BH)(b:Bk)(hb:Zt U h b):Qb S 58 #[h.v] (λ v U'=>(∃B,v=.func (.func 83) #[] #[.pointer (some ⟨B,0,none⟩)]/\Zd U' B #[.slice h.ra h.rl h.rc,.slice h.ca h.cl h.cc])/\U.le U') U:=by
 refine Qb.of (args:=[_]) Qsq Qd (by simp) ?_
 repeat refine⟨rfl,?_⟩
 conv=>whnf
 intro B U1 h_1 hB
 repeat refine⟨rfl,?_⟩
 conv=>whnf
 exact⟨⟨B,rfl,hB⟩,h_1⟩
def Qpg(a n:Nat):Qb S 76 #[.int .i64 a,.int .i64 n] (λ v U'=>v=.int .i64 (Q6n a n)/\U'=U) U:=by
 refine Qb.of (args:=[_,_]) Qsv Qd (by simp) ?_
 repeat refine⟨rfl,?_⟩
 conv=>whnf
 apply Qe<;>intro hc
 .have e:a=n:=by simp at hc;omega
  repeat refine⟨rfl,?_⟩
  conv=>whnf
  exact⟨by unfold Q6n;rw[if_pos e],rfl⟩
 have e:a≠n:=by simp at hc;omega
 repeat refine⟨rfl,?_⟩
 conv=>whnf
 apply Qe<;>intro hc
 .have e0:a=0:=by simp at hc;omega
  repeat refine⟨rfl,?_⟩
  conv=>whnf
  exact⟨by unfold Q6n;rw[if_neg e,if_pos e0],rfl⟩
 .have e0:a≠0:=by simp at hc;omega
  repeat refine⟨rfl,?_⟩
  conv=>whnf
  exact⟨by unfold Q6n;rw[if_neg e,if_neg e0],rfl⟩
def Qyq:SlT prog 60 4 1:=.of (by kernel_rfl)
def Qwt(a n:Nat)(ha:a<2^60)(hn:n<60):Qb S 51 #[.int .i64 a,.int .i64 n] (λ v U'=>Acc 4 1 v ((range n).map λ k=>.bool (a.testBit k)) U'.M U.M/\(∀x o,U.I x=some o->U'.I x=some o)/\U'.tok=U.tok) U:=by
 refine Qb.of (args:=[_,_]) Q3l Qd (by simp) ?_
 repeat refine⟨rfl,?_⟩
 refine⟨Nat×Value,λ y=>[(0,.int .i64 a),(5,y.2),(7,.int .i64 n),(8,.int .i64 y.1)],
  λ y U'=>(∀x o,U.I x=some o->U'.I x=some o)/\U'.tok=U.tok/\Acc 4 1 y.2 ((range y.1).map λ k=>.bool (a.testBit k)) U'.M U.M/\y.1<=n,λ y=>n-y.1,(0,.slice none 0 0),by trivial,⟨λ _ _ h=>h,rfl,.nil,by omega⟩,?_⟩
 rintro⟨i,v⟩f U1⟨hI,ht,hacc,hi⟩;simp only at hacc hi;obtain⟨sa,sl,sc,rfl,hsl,-⟩:=Acc.src (U:=U1) hacc;have hin:Zm ((i:Int)+1):=by unfold Zm;omega
 repeat refine⟨rfl,?_⟩
 conv=>whnf
 apply Qe<;>intro hc
 .have hlt:i<n:=by simpa using hc
  have hbit:=Qva ha (show i<60 by omega);refine⟨by omega,rfl,rfl,?_⟩
  conv=>whnf
  intro b17 hf17;refine Zk hf17 λ U2 h_2 hb17=>?_;have hb17:Zd U2 b17 #[.bool (a.testBit i)]:=by rw[<- hbit];exact hb17
  conv=>whnf
  refine Ws (v:=.slice sa sl sc) (cs:=(range i).map λ k=>.bool (a.testBit k)) (new:=[.bool (a.testBit i)]) (M₀:=U.M) Qyq rfl rfl (by rw[h_2.own];exact hacc) (.inr ⟨_,rfl,hb17.reads (λ k v hv=>by simpa using hv)⟩) rfl (by simp[Value.single]) (by simp;omega) λ v' M' ha' _=>?_;have ha'':Acc 4 1 v' ((range (i+1)).map λ k=>.bool (a.testBit k)) M' U.M:=by rw[range_succ,map_append];exact ha'
  obtain⟨ta,tl,tc,rfl,-,-⟩:=Acc.src (U:={ U2 with M:=M' }) ha'';refine⟨hin,?_⟩
  conv=>whnf
  exact⟨rfl,(i+1,.slice ta tl tc),by trivial,⟨λ x o h=>h_2.imm x o (hI x o h),h_2.tok.trans ht,ha'',by show i+1<=n;omega⟩,by show _-_<_-_;omega⟩
 .have hge:i=n:=by simp at hc;omega
  subst hge
  repeat refine⟨rfl,?_⟩
  conv=>whnf
  exact⟨hacc,hI,ht⟩
end Go.Proofs
