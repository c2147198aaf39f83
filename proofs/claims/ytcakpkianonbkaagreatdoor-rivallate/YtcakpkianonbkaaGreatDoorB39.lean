/- Lemmas. No conditions. -/
import Derived.Test.YtcakpkianonbkaaGreatDoorB38
import Derived.Test.YtcakpkianonbkaaGreatDoorB08
set_option linter.all false
set_option maxRecDepth 100000
open List
namespace Go.TM
variable{T:Type}{U U':Qa T}
def Zdu:List Int->Int
 |[]=>0
 |n::l=>if n=0 then Zdu l else n
def Zp9{l:List Int}{i:Nat}{x:Int}(h:l[i]?=some x):Zdu (l.drop i)=if x=0 then Zdu (l.drop (i+1))else x:=by rw[Qbe h];rfl
def Zi7:Array Value:=#[.int .i64 31,.int .i64 28,.int .i64 31,.int .i64 30,.int .i64 31,.int .i64 30,.int .i64 31,.int .i64 31,.int .i64 30,.int .i64 31,.int .i64 30,.int .i64 31]
def Qzy(U:Qa T):Prop:=Zd U 1 Zi7
def Qzy.lg(h:Qzy U)(k:U.lg U'):Qzy U':=Zd.lg h k
def Zft(n u:Int):Int:=if W1 n 0 999&&W1 u 0 2 then 0 else 1
structure CH where
 wa:Option Addr
 wl:Nat
 wc:Nat
 sa:Option Addr
 sl:Nat
 sc:Nat
abbrev CH.v(h:CH):Value:=.agg #[.slice h.wa h.wl h.wc,.slice h.sa h.sl h.sc]
structure Qmu(U:Qa T)(h:CH)(c:Cal):Prop where
 wd:Z3 U h.wa h.wl c.wd
 sp:Qx U h.sa h.sl 2 c.sp λ s vs=>vs=[.int .i64 s.1,.int .i64 s.2]
 wl:h.wl<2^60
 sl:h.sl<2^60
def Qmu.lg{h:CH}{c:Cal}(k:Qmu U h c)(hl:U.lg U'):Qmu U' h c:=⟨k.wd.lg hl,k.sp.lg hl λ _ _ h=>h,k.wl,k.sl⟩
def Zty(n m:Nat)(h:n<2^60):IntKind.wrap .i64 ((n:Int).tdiv (m:Int))=((n / m:Nat):Int):=by
 have hd:n / m<=n:=Nat.div_le_self n m;rw[Int.tdiv_eq_ediv_of_nonneg (by omega)];show IntKind.wrap .i64 ((n / m:Nat):Int)=_;generalize n / m=q at hd;exact Qdx (by unfold Zm;omega)
def Zqx(n m:Nat):(n:Int).tmod (m:Int)=((n % m:Nat):Int):=by rw[Int.tmod_eq_emod_of_nonneg (by omega)];rfl
end Go.TM
namespace Go.Proofs
open Go.TM
variable{T:Type}{S:TM.Sys Tryz.prog T}{U:Qa T}
attribute [local irreducible] Qb Zh We
def Qa5(U:Qa T)(n a b:Int):Qb S 61 #[.int .i64 n,.int .i64 a,.int .i64 b] (λ v U'=>v=.bool (W1 n a b)/\U'=U) U:=by
 refine Qb.of (args:=[_,_,_]) Qfh Qd (by simp) ?_
 repeat refine⟨rfl,?_⟩
 conv=>whnf
 apply Zc<;>intro hc
 .repeat refine⟨rfl,?_⟩
  conv=>whnf
  exact⟨by unfold W1;rw[hc];rfl,rfl⟩
 .repeat refine⟨rfl,?_⟩
  conv=>whnf
  exact⟨by unfold W1;rw[hc];rfl,rfl⟩
def Qb4(U:Qa T)(n:Int):Qb S 31 #[.int .i64 n] (λ v U'=>v=.bool (Qg2 n)/\U'=U) U:=by
 refine Qb.of (args:=[_]) Qhm Qd (by simp) ?_;refine⟨Qfh.any,(Qa5 U n 0 36524).go λ _=>?_⟩
 repeat refine⟨rfl,?_⟩
 conv=>whnf
def W5(U:Qa T)(n:Int):Qb S 110 #[.int .i64 n] (λ v U'=>v=.bool (Qg2 n)/\U'=U) U:=by
 refine Qb.of (args:=[_]) Qc4 Qd (by simp) ?_;refine⟨Qap.any,(Wq U n 0 36524).go λ _=>?_⟩
 repeat refine⟨rfl,?_⟩
 conv=>whnf
def Qed(U:Qa T)(is:Bool)(n:Int):Qb S 30 #[.bool is,.int .i64 n] (λ v U'=>v=.int .i64 (if is then n else 0)/\U'=U) U:=by
 refine Qb.of (args:=[_,_]) Qhl Qd (by simp) ?_;cases is
 .repeat refine⟨rfl,?_⟩
  conv=>whnf
 .repeat refine⟨rfl,?_⟩
  conv=>whnf
def Qws(a:Option Addr)(len cap:Nat)(l:List Int)(hl:Z3 U a len l)(hlen:len<2^60):Qb S 28 #[.slice a len cap] (λ v U'=>v=.int .i64 (Zdu l)/\U'=U) U:=by
 refine Qb.of (args:=[_]) Q3e Qd (by simp) ?_;have hll:=hl.1
 repeat refine⟨rfl,?_⟩
 refine⟨Nat,λ i=>[(5,.slice a len cap),(6,.int .i64 len),(7,.int .i64 i)],λ i U'=>U'=U/\i<=len/\Zdu l=Zdu (l.drop i),λ i=>len-i,0,by trivial,⟨rfl,by omega,rfl⟩,?_⟩;rintro i f _⟨rfl,hi,hinv⟩;have hin:Zm ((i:Int)+1):=by unfold Zm;omega
 repeat refine⟨rfl,?_⟩
 conv=>whnf
 apply Qe<;>intro hc
 .have hlt:i<len:=by simpa using hc
  obtain⟨ad,x,hx,hea,hsp,hs⟩:=hl.at hlt;rw[Zp9 hx]at hinv;refine⟨ad,i,⟨hea,rfl,hlt⟩,_,hs,?_⟩
  repeat refine⟨rfl,?_⟩
  conv=>whnf
  apply Qe<;>intro hc
  .have hx0:x≠0:=by simpa using hc
   rw[if_neg hx0]at hinv;rw[hinv]
   repeat refine⟨rfl,?_⟩
   conv=>whnf
  .have hx0:x=0:=by simpa using hc
   rw[if_pos hx0]at hinv;refine⟨hin,?_⟩
   conv=>whnf
   exact⟨rfl,i+1,by trivial,⟨rfl,by omega,hinv⟩,by show _-_<_-_;omega⟩
 .have hge:i=len:=by simp at hc;omega
  rw[drop_eq_nil_of_le (by omega)]at hinv;rw[hinv]
  repeat refine⟨rfl,?_⟩
  conv=>whnf
  first|done|exact⟨rfl,rfl⟩
def Qm4(U:Qa T)(n u:Int):Qb S 32 #[.agg #[.int .i64 n,.int .i64 u]] (λ v U'=>v=.int .i64 (Zft n u)/\U'=U) U:=by
 refine Qb.pure' (Qb.of (args:=[_]) Q3g Qd (by simp) ?_)
 repeat refine⟨rfl,?_⟩
 conv=>whnf
 intro B U1 h_1 hB;have hB:Zd U1 B #[.int .i64 n,.int .i64 u]:=hB;refine⟨_,hB.sees3 (o:=0) rfl,Qfh.any,(Qa5 U1 n 0 999).go λ _=>?_⟩;unfold Zft
 repeat refine⟨rfl,?_⟩
 conv=>whnf
 apply Zc<;>intro hc
 .have hb:W1 n 0 999=true:=by simpa using hc
  rw[hb]
  repeat refine⟨rfl,?_⟩
  refine⟨_,hB.sees3 (o:=1) rfl,Qfh.any,(Qa5 U1 u 0 2).go λ _=>?_⟩;refine⟨Qhl.any,(Qed U1 (!W1 u 0 2) 1).go λ _=>?_⟩;cases W1 u 0 2
  .repeat refine⟨rfl,?_⟩
   conv=>whnf
   exact h_1.lg
  .repeat refine⟨rfl,?_⟩
   conv=>whnf
   exact h_1.lg
 .have hb:W1 n 0 999=false:=by simpa using hc
  rw[hb];refine⟨Qhl.any,(Qed U1 true 1).go λ _=>?_⟩
  repeat refine⟨rfl,?_⟩
  conv=>whnf
  exact h_1.lg
def Qge(U:Qa T)(n:Nat)(hn:n<1000):Qb S 101 #[.int .i64 (2000+n:Nat)] (λ v U'=>v=.int .i64 (Qct n:Nat)/\U'=U) U:=by
 refine Qb.of (args:=[_]) Qik Qd (by simp) ?_;have e:((2000+n:Nat):Int)-2000=(n:Int):=by omega
 have e1:IntKind.wrap .i64 ((n:Int).tdiv 4)=((n / 4:Nat):Int):=Zty n 4 (by omega);have e2:(n:Int).tmod 4=((n % 4:Nat):Int):=Zqx n 4;refine⟨by unfold Zm;omega,?_⟩;rw[e];refine⟨rfl,by decide,?_⟩;rw[e1];refine⟨by unfold Zm;omega,?_⟩;refine⟨rfl,by decide,?_⟩;rw[e2];refine⟨by unfold Zm;omega,?_⟩;refine⟨by unfold Zm;omega,?_⟩;refine⟨rfl,by decide,?_⟩;rw[e2]
 conv=>whnf
 refine Qrh rfl rfl ?_;refine⟨by unfold Zm;omega,?_⟩
 repeat refine⟨rfl,?_⟩
 conv=>whnf
 exact⟨by congr 1;unfold Qct;omega,rfl⟩
def Zqe(m:Nat)(hm:m<12):Zi7.toList[m]?=some (.int .i64 (([31,28,31,30,31,30,31,31,30,31,30,31].getD m 0:Nat):Int)):=by
 rcases m with _|_|_|_|_|_|_|_|_|_|_|_|m
 all_goals first|rfl|(exfalso;omega)
def Qcy(hL:Qzy U)(n m:Nat)(hn:n<1000)(hm:m<12):Qb S 67 #[.int .i64 (2000+n:Nat),.int .i64 (m+1:Nat)] (λ v U'=>v=.int .i64 (Qd3 n m:Nat)/\U'=U) U:=by
 refine Qb.of (args:=[_,_]) Qho Qd (by simp) ?_;have e2:((2000+n:Nat):Int).tmod 4=(((2000+n) % 4:Nat):Int):=Zqx _ 4;have hin:Zm (((m+1:Nat):Int)-1):=by unfold Zm;omega
 have e3:((m+1:Nat):Int)-1=(m:Int):=by omega
 have tab:¬(m=1/\n % 4=0)->Qd3 n m=[31,28,31,30,31,30,31,31,30,31,30,31].getD m 0:=λ h=>by unfold Qd3;rw[if_neg h]
 have hrd:∀ad:Addr,ad=⟨1,0,none⟩->U.sees (ad.add (m*1)) (.int .i64 (([31,28,31,30,31,30,31,31,30,31,30,31].getD m 0:Nat):Int)):=by
  rintro _ rfl;have h:Z7 U ⟨1,0,none⟩ Zi7.toList:=hL.reads λ k v hv=>by simpa using hv
  have:=h m _ (Zqe m hm);simpa using this
 repeat refine⟨rfl,?_⟩
 conv=>whnf
 apply Zc<;>intro hc
 .have h1:m=1:=by
   have:((m+1:Nat):Int)=2:=by simpa using hc
   omega
  refine⟨rfl,by decide,?_⟩;rw[e2]
  repeat refine⟨rfl,?_⟩
  conv=>whnf
  apply Qe<;>intro hc
  .have h4:n % 4=0:=by
    have:(((2000+n) % 4:Nat):Int)=0:=by simpa using hc
    omega
   repeat refine⟨rfl,?_⟩
   conv=>whnf
   exact⟨by congr 1;unfold Qd3;rw[if_pos ⟨h1,h4⟩];rfl,rfl⟩
  .have h4:n % 4≠0:=by
    have:(((2000+n) % 4:Nat):Int)≠0:=by simpa using hc
    omega
   rw[tab (by omega)];refine⟨hin,?_⟩;rw[e3];refine⟨m,⟨rfl,hm⟩,_,hrd _ rfl,?_⟩
   repeat refine⟨rfl,?_⟩
   conv=>whnf
 .have h1:m≠1:=by
   have:((m+1:Nat):Int)≠2:=by simpa using hc
   omega
  rw[tab (by omega)];refine⟨hin,?_⟩;rw[e3];refine⟨m,⟨rfl,hm⟩,_,hrd _ rfl,?_⟩
  repeat refine⟨rfl,?_⟩
  conv=>whnf
end Go.Proofs
namespace Go.TM
variable{T:Type}{U U':Qa T}
def Q5p(s:Int×Int):Value:=.agg #[.int .i64 s.1,.int .i64 s.2]
def Zox{l:List Int}{i:Nat}{x:Int}(h:l[i]?=some x):wdF ((l.take i).getLast?) (l.drop i)=if W1 x 0 6 then(match(l.take i).getLast? with|some m=>if x<=m then 7 else wdF ((l.take (i+1)).getLast?) (l.drop (i+1))|none=>wdF ((l.take (i+1)).getLast?) (l.drop (i+1)))else 1:=by
 rw[Qbe h,Zoy];have:(l.take (i+1)).getLast?=some x:=by rw[Jt h];simp
 rw[this];cases(l.take i).getLast? <;> rfl
def Qzs{l:List Int}{i:Nat}{x:Int}(h:l[i]?=some x):(l.take (i+1)).getLast?=some x:=by rw[Jt h];simp
def Zn0(s:Int×Int):Bool:=decide (0<=s.1)&&(decide (s.1<=s.2)&&decide (s.2<=36524))
def Zfq(s:Int×Int):spB s=!Zn0 s:=by
 unfold spB Zn0 Qg2 W1;by_cases h1:0<=s.1 <;> by_cases h2:s.1<=s.2 <;> by_cases h3:s.2<=36524 <;> by_cases h4:s.1<=36524 <;> by_cases h5:0<=s.2 <;> by_cases h6:s.1 > s.2 <;> simp[h1,h2,h3,h4,h5,h6] <;> omega
end Go.TM
namespace Go.Proofs
open Go.TM
variable{T:Type}{S:TM.Sys Tryz.prog T}{U:Qa T}
attribute [local irreducible] Qb Zh We
def Q0a(a:Option Addr)(len cap:Nat)(l:List (Int×Int))(hl:Qx U a len 2 l λ s vs=>vs=[.int .i64 s.1,.int .i64 s.2])(hlen:len<2^60)(g:FuncId)(first capt:Array Value)(p:Int×Int->Bool)
  (hf:Qjv S U g first capt Q5p l p):Qb S 98 #[.slice a len cap,.func (.func g) first capt] (λ v U'=>v=.int .i64 (Qvr p l)/\U'=U) U:=by
 refine Qb.of (args:=[_,_]) Q39 Qd (by simp) ?_;have hll:=hl.1
 repeat refine⟨rfl,?_⟩
 refine⟨Nat,λ i=>[(0,.slice a len cap),(1,.func (.func g) first capt),(6,.slice a len cap),(7,.int .i64 len),(8,.int .i64 i)],
  λ i U'=>U'=U/\i<=len/\∀x∈l.take i,p x=false,λ i=>len-i,0,by trivial,⟨rfl,by omega,by simp⟩,?_⟩
 rintro i f U1⟨hU,hi,hinv⟩;obtain rfl:=hU.symm
 repeat refine⟨rfl,?_⟩
 conv=>whnf
 apply Qe<;>intro hc
 .have hlt:i<len:=by simpa using hc
  obtain⟨ad,x,vs,hx,rfl,hsp,rfl,-,hrd⟩:=hl.at hlt;have hcall:=hf.2 x (mem_of_getElem? hx);refine⟨ad,i,⟨rfl,rfl,hlt⟩,_,⟨rfl,hrd⟩,hf.1,hcall.mono ?_⟩;rintro v U'⟨rfl,hU'⟩-;obtain rfl:=hU'.symm
  conv=>whnf
  apply Qe<;>intro hc
  .repeat refine⟨rfl,?_⟩
   conv=>whnf
   exact⟨by rw[Qfy hx hc hinv],rfl⟩
  .refine⟨by unfold Zm;omega,?_⟩;refine⟨rfl,i+1,by trivial,⟨rfl,by omega,?_⟩,by show _-_<_-_;omega⟩;intro y hy;rw[Jt hx,mem_append]at hy;rcases hy with hy|hy
   .exact hinv y hy
   .simp at hy;subst hy;exact hc
 .have hge:len<=i:=by simpa using hc
  repeat refine⟨rfl,?_⟩
  refine⟨?_,rfl⟩;rw[take_of_length_le (by omega)]at hinv;rw[Qfx hinv]
def Qjp(a:Option Addr)(len cap:Nat)(l:List (Int×Int))(hl:Qx U a len 2 l λ s vs=>vs=[.int .i64 s.1,.int .i64 s.2])(hlen:len<2^60)(g:FuncId)(first capt:Array Value)(p:Int×Int->Bool)
  (hf:Qjv S U g first capt Q5p l p):Qb S 63 #[.slice a len cap,.func (.func g) first capt] (λ v U'=>v=.bool (l.any p)/\U'=U) U:=by
 refine Qb.of (args:=[_,_]) Qss Qd (by simp) ?_;refine⟨Q39.any,(Q0a a len cap l hl hlen g first capt p hf).mono ?_⟩;rintro v U'⟨rfl,hU'⟩-;obtain rfl:=hU'.symm
 repeat refine⟨rfl,?_⟩
 refine⟨?_,rfl⟩;show Value.bool _=_;rw[Qmc]
def Qu2(s:Int×Int):Qb S 62 #[Q5p s] (λ v U'=>v=.bool (spB s)/\U'=U) U:=by
 refine Qb.pure' (Qb.of (args:=[_]) Q3q Qd (by simp) ?_);obtain⟨a,b⟩:=s
 repeat refine⟨rfl,?_⟩
 conv=>whnf
 intro B U1 h_1 hB;have hB:Zd U1 B #[.int .i64 a,.int .i64 b]:=hB;have kk:spB (a,b)=!(Qg2 a&&(Qg2 b&&!decide (a > b))):=rfl;rw[kk];refine⟨_,hB.sees3 (o:=0) rfl,Qhm.any,(Qb4 U1 a).go λ _=>?_⟩;cases hda:Qg2 a with
 |false=>
  repeat refine⟨rfl,?_⟩
  conv=>whnf
  first|exact h_1.lg|exact⟨rfl,h_1.lg⟩
 |true=>
  refine⟨_,hB.sees3 (o:=1) rfl,Qhm.any,(Qb4 U1 b).go λ _=>?_⟩;cases hdb:Qg2 b with
  |false=>
   repeat refine⟨rfl,?_⟩
   conv=>whnf
   first|exact h_1.lg|exact⟨rfl,h_1.lg⟩
  |true=>
   refine⟨_,hB.sees3 (o:=0) rfl,_,hB.sees3 (o:=1) rfl,?_⟩
   repeat refine⟨rfl,?_⟩
   conv=>whnf
   first|exact h_1.lg|exact⟨by simp,h_1.lg⟩
def Qsa(s:Int×Int):Qb S 79 #[Q5p s,.int .i64 0,.int .i64 36524] (λ v U'=>v=.bool (Zn0 s)/\U'=U) U:=by
 refine Qb.pure' (Qb.of (args:=[_,_,_]) Q3z Qd (by simp) ?_);obtain⟨a,b⟩:=s
 repeat refine⟨rfl,?_⟩
 conv=>whnf
 intro B U1 h_1 hB;have hB:Zd U1 B #[.int .i64 a,.int .i64 b]:=hB;have kk:Zn0 (a,b)=(decide (0<=a)&&(decide (a<=b)&&decide (b<=36524))):=rfl;rw[kk];refine⟨_,hB.sees3 (o:=0) rfl,?_⟩
 repeat refine⟨rfl,?_⟩
 conv=>whnf
 apply Zc<;>intro hc
 .have e1:decide (0<=a)=true:=hc;rw[e1];refine⟨_,hB.sees3 (o:=0) rfl,_,hB.sees3 (o:=1) rfl,?_⟩
  repeat refine⟨rfl,?_⟩
  conv=>whnf
  apply Zc<;>intro hc
  .have e2:decide (a<=b)=true:=hc;rw[e2];refine⟨_,hB.sees3 (o:=1) rfl,?_⟩
   repeat refine⟨rfl,?_⟩
   conv=>whnf
   first|exact h_1.lg|exact⟨by simp,h_1.lg⟩
  .have e2:decide (a<=b)=false:=hc;rw[e2]
   repeat refine⟨rfl,?_⟩
   conv=>whnf
   first|exact h_1.lg|exact⟨by simp,h_1.lg⟩
 .have e1:decide (0<=a)=false:=hc;rw[e1]
  repeat refine⟨rfl,?_⟩
  conv=>whnf
  first|exact h_1.lg|exact⟨by simp,h_1.lg⟩
def Qql(h:CH)(c:Cal)(hc':Qmu U h c):Qb S 29 #[h.v] (λ v U'=>v=.int .i64 c.flaw/\U'=U) U:=by
 refine Qb.pure' (Qb.of (args:=[_]) Q3f Qd (by simp) ?_);have hwl:=hc'.wd.1;have hwl':=hc'.wl;have hsl:=hc'.sp.1;have hsl':=hc'.sl;have kk:c.flaw=if wdF none c.wd=0 then(if c.sp.length > 6 then 2 else if c.sp.any spB then 1 else 0)else wdF none c.wd:=rfl
 repeat refine⟨rfl,?_⟩
 conv=>whnf
 intro B U1 h_1 hB;have hB:Zd U1 B #[.slice h.wa h.wl h.wc,.slice h.sa h.sl h.sc]:=hB;have hc_1:=hc'.lg h_1.lg;refine⟨_,hB.sees3 (o:=0) rfl,Nat,λ i=>[(1,.pointer (some ⟨B,0,none⟩)),(8,.slice h.wa h.wl h.wc),(9,.int .i64 h.wl),(10,.int .i64 i)],
  λ i U'=>U'=U1/\i<=h.wl/\wdF none c.wd=wdF ((c.wd.take i).getLast?) (c.wd.drop i),λ i=>h.wl-i,0,by trivial,⟨rfl,by omega,rfl⟩,?_⟩
 rintro i f U2⟨hU,hi,hinv⟩;obtain rfl:=hU.symm;have hin:Zm ((i:Int)+1):=by unfold Zm;omega
 repeat refine⟨rfl,?_⟩
 conv=>whnf
 apply Qe<;>intro hc
 .have hlt:i<h.wl:=by simpa using hc
  obtain⟨ad,x,hx,hea,hsp,hs⟩:=hc_1.wd.at hlt;rw[Zox hx]at hinv;refine⟨ad,i,⟨hea,rfl,hlt⟩,_,hs,Qfh.any,(Qa5 U1 x 0 6).go λ _=>?_⟩;cases hb:W1 x 0 6 with
  |false=>
   rw[hb,if_neg (by simp)]at hinv;rw[kk,hinv,if_neg (by decide)]
   repeat refine⟨rfl,?_⟩
   conv=>whnf
   exact h_1.lg
  |true=>
   rw[hb,if_pos rfl]at hinv
   repeat refine⟨rfl,?_⟩
   conv=>whnf
   apply Zc<;>intro hc
   .have h0:0<i:=by simpa using hc
    obtain⟨j,rfl⟩:∃j,i=j+1:=⟨i-1,by omega⟩;obtain⟨ad',y,hy,hea',hsp',hs'⟩:=hc_1.wd.at (show j<h.wl by omega);rw[Qzs hy]at hinv;simp only at hinv;have hj1:((j+1:Nat):Int)-1=(j:Int):=by omega
    refine⟨_,hB.sees3 (o:=0) rfl,by unfold Zm;omega,?_⟩;rw[hj1];refine⟨ad',j,⟨hea',rfl,by omega⟩,_,hs',?_⟩
    repeat refine⟨rfl,?_⟩
    conv=>whnf
    apply Qe<;>intro hc
    .have hle:x<=y:=by simpa using hc
     rw[if_pos hle]at hinv;rw[kk,hinv,if_neg (by decide)]
     repeat refine⟨rfl,?_⟩
     conv=>whnf
     exact h_1.lg
    .have hle:¬x<=y:=by simp at hc;omega
     rw[if_neg hle]at hinv;refine⟨hin,?_⟩
     conv=>whnf
     exact⟨rfl,j+1+1,by trivial,⟨rfl,by omega,hinv⟩,by show _-_<_-_;omega⟩
   .have h0:i=0:=by simp at hc;omega
    subst h0;refine⟨hin,?_⟩
    conv=>whnf
    exact⟨rfl,0+1,by trivial,⟨rfl,by omega,hinv⟩,by show _-_<_-_;omega⟩
 have hge:i=h.wl:=by simp at hc;omega
 rw[drop_eq_nil_of_le (by omega)]at hinv;have hw0:wdF none c.wd=0:=hinv;rw[kk,if_pos hw0];refine⟨_,hB.sees3 (o:=1) rfl,?_⟩
 repeat refine⟨rfl,?_⟩
 conv=>whnf
 apply Qe<;>intro hc
 .have h6:c.sp.length > 6:=by simp at hc;omega
  rw[if_pos h6]
  repeat refine⟨rfl,?_⟩
  conv=>whnf
  exact h_1.lg
 have h6:¬c.sp.length > 6:=by simp at hc;omega
 rw[if_neg h6];refine⟨_,hB.sees3 (o:=1) rfl,Qss.any,(Qjp h.sa h.sl h.sc c.sp hc_1.sp hsl' 62 #[] #[] spB ⟨Q3q.any,λ s _=>Qu2 s⟩).go λ _=>?_⟩;refine⟨Qhl.any,(Qed U1 (c.sp.any spB) 1).go λ _=>?_⟩
 repeat refine⟨rfl,?_⟩
 conv=>whnf
 exact h_1.lg
def Qm3(h:CH)(c:Cal)(hc':Qmu U h c):Qb S 54 #[h.v] (λ v U'=>v=.int .i64 c.flaw/\U'=U) U:=by
 refine Qb.pure' (Qb.of (args:=[_]) Q3n Qd (by simp) ?_);have hwl:=hc'.wd.1;have hwl':=hc'.wl;have hsl:=hc'.sp.1;have hsl':=hc'.sl;have kk:c.flaw=if wdF none c.wd=0 then(if c.sp.length > 6 then 2 else if c.sp.any spB then 1 else 0)else wdF none c.wd:=rfl
 repeat refine⟨rfl,?_⟩
 conv=>whnf
 intro B U1 h_1 hB;have hB:Zd U1 B #[.slice h.wa h.wl h.wc,.slice h.sa h.sl h.sc]:=hB;have hc_1:=hc'.lg h_1.lg
 refine⟨Nat,λ i=>[(1,.pointer (some ⟨B,0,none⟩)),(3,.int .i64 i)],
  λ i U'=>U1.lg U'/\i<=h.wl/\wdF none c.wd=wdF ((c.wd.take i).getLast?) (c.wd.drop i),λ i=>h.wl-i,0,by trivial,⟨(Qa.le.refl _).lg,by omega,rfl⟩,?_⟩
 rintro i f U2⟨hlg,hi,hinv⟩;have hin:Zm ((i:Int)+1):=by unfold Zm;omega
 have hB_2:=hB.lg hlg;have hc2:=hc_1.lg hlg;have hfin:∀{w:Qa T},U1.lg w->U.lg w:=λ k=>h_1.lg.trans k;refine⟨_,hB_2.sees3 (o:=0) rfl,?_⟩
 repeat refine⟨rfl,?_⟩
 conv=>whnf
 apply Qe<;>intro hc
 .have hlt:i<h.wl:=by simpa using hc
  obtain⟨ad,x,hx,hea,hsp,hs⟩:=hc2.wd.at hlt;rw[Zox hx]at hinv;refine⟨_,hB_2.sees3 (o:=0) rfl,ad,i,⟨hea,rfl,hlt⟩,_,hs,Qap.any,(Wq U2 x 0 6).go λ _=>?_⟩;cases hb:W1 x 0 6 with
  |false=>
   rw[hb,if_neg (by simp)]at hinv;rw[kk,hinv,if_neg (by decide)]
   repeat refine⟨rfl,?_⟩
   conv=>whnf
   exact hfin hlg
  |true=>
   rw[hb,if_pos rfl]at hinv
   repeat refine⟨rfl,?_⟩
   conv=>whnf
   apply Zc<;>intro hc
   .have h0:0<i:=by simpa using hc
    obtain⟨j,rfl⟩:∃j,i=j+1:=⟨i-1,by omega⟩;obtain⟨ad',y,hy,hea',hsp',hs'⟩:=hc2.wd.at (show j<h.wl by omega);rw[Qzs hy]at hinv;simp only at hinv;have hj1:((j+1:Nat):Int)-1=(j:Int):=by omega
    refine⟨_,hB_2.sees3 (o:=0) rfl,ad,j+1,⟨hea,rfl,hlt⟩,_,hs,_,hB_2.sees3 (o:=0) rfl,by unfold Zm;omega,?_⟩;rw[hj1];refine⟨ad',j,⟨hea',rfl,by omega⟩,_,hs',?_⟩
    conv=>whnf
    intro U3 h_3 _
    repeat refine⟨rfl,?_⟩
    conv=>whnf
    apply Qe<;>intro hc
    .have hle:x<=y:=by simpa using hc
     rw[if_pos hle]at hinv;rw[kk,hinv,if_neg (by decide)]
     repeat refine⟨rfl,?_⟩
     conv=>whnf
     exact hfin (hlg.trans h_3.lg)
    .have hle:¬x<=y:=by simp at hc;omega
     rw[if_neg hle]at hinv;refine⟨hin,?_⟩
     conv=>whnf
     exact⟨rfl,j+1+1,by trivial,⟨hlg.trans h_3.lg,by omega,hinv⟩,by show _-_<_-_;omega⟩
   .have h0:i=0:=by simp at hc;omega
    subst h0
    conv=>whnf
    intro U3 h_3 _;refine⟨hin,?_⟩
    conv=>whnf
    exact⟨rfl,0+1,by trivial,⟨hlg.trans h_3.lg,by omega,hinv⟩,by show _-_<_-_;omega⟩
 have hge:i=h.wl:=by simp at hc;omega
 rw[drop_eq_nil_of_le (by omega)]at hinv;have hw0:wdF none c.wd=0:=hinv;rw[kk,if_pos hw0];refine⟨_,hB_2.sees3 (o:=1) rfl,?_⟩
 repeat refine⟨rfl,?_⟩
 conv=>whnf
 apply Qe<;>intro hc
 .have h6:c.sp.length > 6:=by simp at hc;omega
  rw[if_pos h6]
  repeat refine⟨rfl,?_⟩
  conv=>whnf
  exact hfin hlg
 have h6:¬c.sp.length > 6:=by simp at hc;omega
 rw[if_neg h6];clear hin;refine⟨Nat,λ i=>[(1,.pointer (some ⟨B,0,none⟩)),(4,.int .i64 i)],λ i U'=>U'=U2/\i<=h.sl/\(c.sp.take i).any spB=false,λ i=>h.sl-i,0,by trivial,⟨rfl,by omega,rfl⟩,?_⟩;rintro k f U3⟨hU,hk,hno⟩;obtain rfl:=hU.symm;have hin:Zm ((k:Int)+1):=by unfold Zm;omega
 refine⟨_,hB_2.sees3 (o:=1) rfl,?_⟩
 repeat refine⟨rfl,?_⟩
 conv=>whnf
 apply Qe<;>intro hc
 .have hlt:k<h.sl:=by simpa using hc
  obtain⟨ad,x,vs,hx,hea,hsp,rfl,-,hrd⟩:=hc2.sp.at hlt;refine⟨_,hB_2.sees3 (o:=1) rfl,ad,k,⟨hea,rfl,hlt⟩,_,⟨rfl,hrd⟩,Q3z.any,(Qsa x).go λ _=>?_⟩;cases hb:Zn0 x with
  |false=>
   have hsb:spB x=true:=by rw[Zfq,hb];rfl
   rw[any_eq_true.2 ⟨x,mem_of_getElem? hx,hsb⟩]
   repeat refine⟨rfl,?_⟩
   conv=>whnf
   exact hfin hlg
  |true=>
   have hsb:spB x=false:=by rw[Zfq,hb];rfl
   refine⟨hin,?_⟩
   conv=>whnf
   exact⟨rfl,k+1,by trivial,⟨rfl,by omega,by rw[Jt hx,any_append,hno];simp[hsb]⟩,by show _-_<_-_;omega⟩
 have hge:k=h.sl:=by simp at hc;omega
 rw[take_of_length_le (by omega)]at hno;rw[hno]
 repeat refine⟨rfl,?_⟩
 conv=>whnf
 exact hfin hlg
end Go.Proofs
namespace Go.TM
def Qo8(n:Nat):∀{m r:Nat},m<r->W3 n m+Qd3 n m<=W3 n r
 |m,r+1,h=>by
  rcases Nat.lt_or_ge m r with l|l
  .have:=Qo8 n l;show _<=W3 n r+Qd3 n r;omega
  .obtain rfl:m=r:=by omega
   exact Nat.le_refl _
def Q1w(n:Nat):∀{m:Nat},m<=12->W3 n m<=31*m
 |0,_=>Nat.le_refl _
 |m+1,h=>by
  have:=Q1w n (m:=m) (by omega);have:=Qrl (n:=n) (m:=m) (by omega);show W3 n m+Qd3 n m<=_;omega
def Zjz{a b:Nat}(h:a<=b):Qct a<=Qct b:=by
 have:=Qc7 (a:=12*a) (b:=12*b) (by omega);unfold Wo at this;rw[show 12*a / 12=a by omega,show 12*b / 12=b by omega,show 12*a % 12=0 by omega,show 12*b % 12=0 by omega]at this;exact this
def Q58{k:Nat}(h:k<1200):Wo k+Qd1 k<=36525:=by
 have:=Qc7 (a:=k+1) (b:=1200) h;rw[Qot,Qbz]at this;exact this
def Zi9{k d:Nat}(hd:d<Qd1 k):Qct (k / 12)<=Wo k+d/\Wo k+d<Qct (k / 12+1):=by
 have h1:=Qbz k;have h2:=Qc7 (a:=k+1) (b:=12*(k / 12+1)) (by omega)
 have h3:Wo (12*(k / 12+1))=Qct (k / 12+1):=by
  unfold Wo;rw[show 12*(k / 12+1) / 12=k / 12+1 by omega,show 12*(k / 12+1) % 12=0 by omega];rfl
 refine⟨?_,by omega⟩;unfold Wo;omega
end Go.TM
namespace Go.Proofs
open Go.TM
variable{T:Type}{S:TM.Sys Tryz.prog T}{U:Qa T}
attribute [local irreducible] Qb Zh We
def Qw2(hL:Qzy U)(k d:Nat)(hk:k<1200)(hd:d<Qd1 k) :
  Qb S 65 #[.int .i64 (Wo k+d:Nat)] (λ v U'=>v=.tuple #[.int .i64 (2000+k / 12:Nat),.int .i64 (k % 12+1:Nat),.int .i64 (d+1:Nat)]/\U'=U) U:=by
 refine Qb.of (args:=[_]) Q3s Qd (by simp) ?_;have htop:=Q58 hk;obtain⟨hy1,hy2⟩:=Zi9 hd;have hq:Wo k=Qct (k / 12)+W3 (k / 12) (k % 12):=rfl;have hml:Qd1 k=Qd3 (k / 12) (k % 12):=rfl;have hmono:∀n,n<k / 12->Qct (n+1)<=Wo k+d:=λ n h=>Nat.le_trans (Zjz h) hy1;have hr12:k % 12<12:=by omega
 have hq100:k / 12<100:=by omega
 have hcl:=Q1w (k / 12) (m:=k % 12) (by omega);rw[hml]at hd;have hyl:=Qrl (n:=k / 12) hr12;generalize k / 12=q at *;generalize k % 12=r at *;refine⟨Nat,λ n=>[(0,.int .i64 (Wo k+d:Nat)),(2,.int .i64 (2000+n:Nat))],λ n U'=>U'=U/\n<=q,λ n=>q-n,0,by trivial,⟨rfl,by omega⟩,?_⟩;rintro n f U1⟨hU,hn⟩;obtain rfl:=hU.symm;have hin:Zm (((2000+n:Nat):Int)+1):=by unfold Zm;omega
 have e:((2000+n:Nat):Int)+1=((2000+(n+1):Nat):Int):=by omega
 repeat refine⟨rfl,?_⟩
 conv=>whnf
 refine Zc (λ hc=>?zqa) (λ hc=>?zqb)
 case' zqa=>
  refine⟨hin,?_⟩;rw[e];refine⟨Qik.any,(Qge U (n+1) (by omega)).go λ _=>?_⟩
  repeat refine⟨rfl,?_⟩
  conv=>whnf
  refine Qe (λ hc=>?zqc) (λ hc=>?zqd)
 case' zqc=>
  have hlt:n<q:=by
   have h1:((Qct (n+1):Nat):Int)<=((Wo k+d:Nat):Int):=by simpa using hc
   rcases Nat.lt_or_ge n q with l|l
   .exact l
   .obtain rfl:n=q:=by omega
    omega
  refine⟨hin,?_⟩;rw[e]
  conv=>whnf
  exact⟨rfl,n+1,by trivial,⟨rfl,by omega⟩,by show _-_<_-_;omega⟩
 case' zqb=>
  have hnq:n=q:=by
   have h1:¬((2000+n:Nat):Int)<2099:=by simpa using hc
   omega
 case' zqd=>
  have hnq:n=q:=by
   have h1:¬((Qct (n+1):Nat):Int)<=((Wo k+d:Nat):Int):=by simpa using hc
   rcases Nat.lt_or_ge n q with l|l
   .have:=hmono n l;omega
   .omega
 all_goals
  subst hnq;clear hc hin e
  have e0:((Wo k+d:Nat):Int)-((Qct n:Nat):Int)=((W3 n r+d-W3 n 0:Nat):Int):=by
   show _=((W3 n r+d-0:Nat):Int);omega
  refine⟨Qik.any,(Qge U n (by omega)).go λ _=>?_⟩;refine⟨by unfold Zm;omega,?_⟩;rw[e0];refine⟨Nat,λ m=>[(0,.int .i64 (W3 n r+d-W3 n m:Nat)),(2,.int .i64 (2000+n:Nat)),(3,.int .i64 (m+1:Nat))],λ m U'=>U'=U/\m<=r,λ m=>r-m,0,by trivial,⟨rfl,by omega⟩,?_⟩;rintro m f U1⟨hU,hm⟩;obtain rfl:=hU.symm;have hin:Zm (((m+1:Nat):Int)+1):=by unfold Zm;omega
  have e:((m+1:Nat):Int)+1=((m+1+1:Nat):Int):=by omega
  refine⟨Qho.any,(Qcy hL n m (by omega) (by omega)).go λ _=>?_⟩
  repeat refine⟨rfl,?_⟩
  conv=>whnf
  apply Qe<;>intro hc
  .have h1:((Qd3 n m:Nat):Int)<=((W3 n r+d-W3 n m:Nat):Int):=by simpa using hc
   have hlt:m<r:=by
    rcases Nat.lt_or_ge m r with l|l
    .exact l
    .obtain rfl:m=r:=by omega
     omega
   have hst:=Qo8 n hlt
   have e1:((W3 n r+d-W3 n m:Nat):Int)-((Qd3 n m:Nat):Int)=((W3 n r+d-W3 n (m+1):Nat):Int):=by
    show _=((W3 n r+d-(W3 n m+Qd3 n m):Nat):Int);omega
   refine⟨Qho.any,(Qcy hL n m (by omega) (by omega)).go λ _=>?_⟩;refine⟨by unfold Zm;omega,?_⟩;rw[e1];refine⟨hin,?_⟩;rw[e]
   conv=>whnf
   exact⟨rfl,m+1,by trivial,⟨rfl,by omega⟩,by show _-_<_-_;omega⟩
  .have h1:¬((Qd3 n m:Nat):Int)<=((W3 n r+d-W3 n m:Nat):Int):=by simpa using hc
   have hge:m=r:=by
    rcases Nat.lt_or_ge m r with l|l
    .have:=Qo8 n l;omega
    .omega
   subst hge;have e1:((W3 n m+d-W3 n m:Nat):Int)+1=((d+1:Nat):Int):=by omega
   refine⟨by unfold Zm;omega,?_⟩;rw[e1]
   repeat refine⟨rfl,?_⟩
   conv=>whnf
def Qwk(hL:Qzy U)(n m t:Nat)(hn:n<1000)(hm:m<12)(ht:t<100) :
  Qb S 66 #[.int .i64 (2000+n:Nat),.int .i64 (m+1:Nat),.int .i64 t] (λ v U'=>v=.int .i64 ((Qct n+W3 n m+t:Nat)-1)/\U'=U) U:=by
 refine Qb.of (args:=[_,_,_]) Q3t Qd (by simp) ?_;have hyb:Qct n<=1000*366:=by unfold Qct;omega
 refine⟨Qik.any,(Qge U n hn).go λ _=>?_⟩;refine⟨Nat,λ j=>[(0,.int .i64 (2000+n:Nat)),(1,.int .i64 (m+1:Nat)),(2,.int .i64 t),(7,.int .i64 (Qct n+W3 n j:Nat)),(8,.int .i64 (j+1:Nat))],λ j U'=>U'=U/\j<=m,λ j=>m-j,0,by trivial,⟨rfl,by omega⟩,?_⟩;rintro j f _⟨rfl,hj⟩;have hcj:=Q1w n (m:=j) (by omega);have hyj:=Qrl (n:=n) (m:=j) (by omega);have hin:Zm (((j+1:Nat):Int)+1):=by unfold Zm;omega
 have e:((j+1:Nat):Int)+1=((j+1+1:Nat):Int):=by omega
 repeat refine⟨rfl,?_⟩
 conv=>whnf
 apply Qe<;>intro hc
 .have hlt:j<m:=by
   have:((j+1:Nat):Int)<((m+1:Nat):Int):=by simpa using hc
   omega
  have e1:((Qct n+W3 n j:Nat):Int)+((Qd3 n j:Nat):Int)=((Qct n+W3 n (j+1):Nat):Int):=by
   show _=((Qct n+(W3 n j+Qd3 n j):Nat):Int);omega
  refine⟨Qho.any,(Qcy hL n j hn (by omega)).go λ _=>?_⟩;refine⟨by unfold Zm;omega,?_⟩;rw[e1];refine⟨hin,?_⟩;rw[e]
  conv=>whnf
  exact⟨rfl,j+1,by trivial,⟨rfl,by omega⟩,by show _-_<_-_;omega⟩
 .have hge:j=m:=by
   have:¬((j+1:Nat):Int)<((m+1:Nat):Int):=by simpa using hc
   omega
  subst hge;have e1:((Qct n+W3 n j:Nat):Int)+(t:Int)=((Qct n+W3 n j+t:Nat):Int):=by omega
  refine⟨by unfold Zm;omega,?_⟩;rw[e1];refine⟨by unfold Zm;omega,?_⟩
  repeat refine⟨rfl,?_⟩
  conv=>whnf
def Qww(hL:Qzy U)(u s c k d:Nat)(hu:u<=2)(hs:s=Wo k+d)(hk:k<1200)(hd:d<Qd1 k)(hc:c<=999) :
  Qb S 34 #[.int .i64 s,.agg #[.int .i64 c,.int .i64 u]] (λ v U'=>v=.int .i64 (Qia u s c k d:Nat)/\U'=U) U:=by
 refine Qb.pure' (Qb.of (args:=[_,_]) Q3i Qd (by simp) ?_);have htop:=Q58 hk
 repeat refine⟨rfl,?_⟩
 conv=>whnf
 intro B U1 h_1 hB;have hB:Zd U1 B #[.int .i64 c,.int .i64 u]:=hB;refine⟨_,hB.sees3 (o:=0) rfl,_,hB.sees3 (o:=1) rfl,?_⟩;obtain rfl|rfl|rfl:u=0\/u=1\/u=2:=by omega
 .repeat refine⟨rfl,?_⟩
  refine⟨by unfold Zm;omega,?_⟩
  conv=>whnf
  refine Qrh rfl rfl ?_
  repeat refine⟨rfl,?_⟩
  conv=>whnf
  exact⟨by congr 1;show _=((min 36524 (s+c):Nat):Int);omega,h_1.lg⟩
 .repeat refine⟨rfl,?_⟩
  refine⟨by unfold Zm;omega,?_⟩;refine⟨by unfold Zm;omega,?_⟩
  conv=>whnf
  refine Qrh rfl rfl ?_
  repeat refine⟨rfl,?_⟩
  conv=>whnf
  exact⟨by congr 1;show _=((min 36524 (s+c*7):Nat):Int);omega,h_1.lg⟩
 .subst hs;have e1:((k % 12+1:Nat):Int)+((c:Int)-1)=((k % 12+c:Nat):Int):=by omega
  have e2:IntKind.wrap .i64 (((k % 12+c:Nat):Int).tdiv 12)=(((k % 12+c) / 12:Nat):Int):=Zty _ 12 (by omega);have e3:((k % 12+c:Nat):Int).tmod 12=(((k % 12+c) % 12:Nat):Int):=Zqx _ 12;have e4:((2000+k / 12:Nat):Int)+(((k % 12+c) / 12:Nat):Int)=((2000+(k+c) / 12:Nat):Int):=by omega
  have e5:(((k % 12+c) % 12:Nat):Int)+1=(((k+c) % 12+1:Nat):Int):=by omega
  refine⟨rfl,rfl,Q3s.any,(Qw2 (hL.lg h_1.lg) k d hk hd).go λ _=>?_⟩;refine⟨_,hB.sees3 (o:=0) rfl,by unfold Zm;omega,?_⟩;refine⟨by unfold Zm;omega,?_⟩;rw[e1];refine⟨rfl,by decide,?_⟩;rw[e2];refine⟨by unfold Zm;omega,?_⟩;rw[e4];refine⟨rfl,by decide,?_⟩;rw[e3];refine⟨by unfold Zm;omega,?_⟩;rw[e5]
  repeat refine⟨rfl,?_⟩
  conv=>whnf
  apply Qe<;>intro hc
  .have h1:1200<=k+c:=by
    have:((2000+(k+c) / 12:Nat):Int) > 2099:=by simpa using hc
    omega
   repeat refine⟨rfl,?_⟩
   conv=>whnf
   exact⟨by congr 1;show _=((Qf0 k d c:Nat):Int);unfold Qf0;rw[if_pos h1];rfl,h_1.lg⟩
  .have h1:¬1200<=k+c:=by
    have:¬((2000+(k+c) / 12:Nat):Int) > 2099:=by simpa using hc
    omega
   have hml:Qd1 (k+c)=Qd3 ((k+c) / 12) ((k+c) % 12):=rfl;have hyl:=Qrf (k+c);have e6:min ((d+1:Nat):Int) ((Qd3 ((k+c) / 12) ((k+c) % 12):Nat):Int)=((min (d+1) (Qd1 (k+c)):Nat):Int):=by rw[hml];omega
   refine⟨Qho.any,(Qcy (hL.lg h_1.lg) ((k+c) / 12) ((k+c) % 12) (by omega) (by omega)).go λ _=>?_⟩
   conv=>whnf
   refine Qrh rfl rfl ?_;rw[e6];refine⟨Q3t.any,(Qwk (hL.lg h_1.lg) ((k+c) / 12) ((k+c) % 12) (min (d+1) (Qd1 (k+c))) (by omega) (by omega) (by omega)).go λ _=>?_⟩
   repeat refine⟨rfl,?_⟩
   refine⟨?_,h_1.lg⟩;congr 1;show _=((Qf0 k d c:Nat):Int);unfold Qf0;rw[if_neg h1];unfold Wo;omega
end Go.Proofs
namespace Go.TM
variable{T:Type}{U U':Qa T}
def Q63(U:Qa T)(X:List Qv)(bx:Nat)(n:Nat)(M₀:List Qv):Prop:=U.M=X++.obj bx (.cells #[.int .i64 n] 3 (0,0))::M₀
def Q63.reads{X:List Qv}{bx n:Nat}{M₀:List Qv}(h:Q63 U X bx n M₀):Z7 U ⟨bx,0,none⟩ [.int .i64 n]:=Q7 X h
end Go.TM
namespace Go.Proofs
open Go.TM
variable{T:Type}{S:TM.Sys Tryz.prog T}{U:Qa T}
attribute [local irreducible] Qb Zh We
def Q28(s:Int×Int){bx:Nat}(n:Nat)(hx:Z7 U ⟨bx,0,none⟩ [.int .i64 n]):Qb S 100 #[Q5p s,.pointer (some ⟨bx,0,none⟩)] (λ v U'=>v=.bool (W1 n s.1 s.2)/\U'=U) U:=by
 refine Qb.pure' (Qb.of (args:=[_,_]) Qxs Qd (by simp) ?_);obtain⟨a,b⟩:=s
 repeat refine⟨rfl,?_⟩
 conv=>whnf
 intro B U1 h_1 hB;have hB:Zd U1 B #[.int .i64 a,.int .i64 b]:=hB;refine⟨_,(hx.lg h_1.lg) 0 _ rfl,_,hB.sees3 (o:=0) rfl,_,hB.sees3 (o:=1) rfl,Qfh.any,(Qa5 U1 n a b).go λ _=>?_⟩
 repeat refine⟨rfl,?_⟩
 conv=>whnf
 first|exact h_1.lg|exact⟨rfl,h_1.lg⟩
def Qw1{h:CH}{c:Cal}(hc':Qmu U.frz h c){bc:Nat}(hbc:Zd U bc #[.slice h.wa h.wl h.wc,.slice h.sa h.sl h.sc]){X M₀:List Qv}{bx:Nat}(d:Nat)(hd:d<=36524)(hM:Q63 U X bx d M₀){l:Nat}{E:Qa T->Prop}
  (hY:∀U1 K,U.frz.lg U1->Q63 U1 X bx (nxt c.open d) M₀->(∀U2,E U2->K (.bool false) U2)->Zh S l [.int .i64 (nxt c.open d:Nat)] K U1) :
  Qb S 99 #[.func (.yield l) #[] #[],.pointer (some ⟨bx,0,none⟩),.pointer (some ⟨bc,0,none⟩)] (λ _ U'=>E U'\/(nxt c.open d=36524/\U.frz.lg U'/\∃n,Q63 U' X bx n M₀)) U:=by
 refine Qb.of (args:=[_,_,_]) Q4a Qd (by simp) ?_;have hwl:=hc'.wd.1;have hwl':=hc'.wl;refine⟨Nat,λ _=>[(0,.func (.yield l) #[] #[]),(1,.pointer (some ⟨bx,0,none⟩)),(2,.pointer (some ⟨bc,0,none⟩))],λ n U'=>U.frz.lg U'/\n<=36525/\nxt c.open d=nxt c.open n/\Q63 U' X bx n M₀,λ n=>36525-n,d,by trivial,⟨Qq,by omega,rfl,hM⟩,?_⟩;rintro n f U1⟨hlg,hn,hnx,hM_1⟩;have hin:Zm ((n:Int)+1):=by unfold Zm;omega
 have hin5:Zm ((n:Int)+5):=by unfold Zm;omega
 have e5:(n:Int)+5=((n+5:Nat):Int):=by omega
 have e7:((n+5:Nat):Int).tmod 7=(((n+5) % 7:Nat):Int):=Zqx _ 7;have hc_1:Qmu U1 h c:=(hc'.lg (hlg.frz2)).lg Qq;have hbc1:Zd U1 bc #[.slice h.wa h.wl h.wc,.slice h.sa h.sl h.sc]:=hbc.imI hlg.imm;refine⟨_,hM_1.reads 0 _ rfl,Qhm.any,(Qb4 U1 n).go λ _=>?_⟩;cases hdb:Qg2 n with
 |false=>
  have h1:36524<n:=by
   unfold Qg2 W1 at hdb;rcases Nat.lt_or_ge 36524 n with l|l
   .exact l
   .simp at hdb;omega
  rw[Q1c _ h1]at hnx
  repeat refine⟨rfl,?_⟩
  conv=>whnf
  exact .inr ⟨hnx,hlg,n,hM_1⟩
 |true=>
  have h1:n<=36524:=by
   unfold Qg2 W1 at hdb;simp at hdb;omega
  rw[Qvz h1]at hnx;have ko:c.open n=!(c.wd.contains (((n+5) % 7:Nat):Int)|| c.sp.any λ s=>W1 (n:Int) s.1 s.2):=rfl;have stepN:∀{U2:Qa T},U2=U1->True:=λ _=>trivial;refine⟨_,hbc1.sees3 (o:=0) rfl,_,hM_1.reads 0 _ rfl,hin5,?_⟩;rw[e5];refine⟨rfl,by decide,?_⟩;rw[e7];refine⟨Qkt.any,(Qbt h.wa h.wl h.wc c.wd hc_1.wd hwl' (((n+5) % 7:Nat):Int)).go λ _=>?_⟩;cases hct:c.wd.contains (((n+5) % 7:Nat):Int)with
  |true=>
   have hop:c.open n=false:=by rw[ko,hct];rfl
   rw[hop,if_neg (by simp)]at hnx
   repeat refine⟨rfl,?_⟩
   refine⟨_,hM_1.reads 0 _ rfl,hin,rfl,Js (vs:=[.int .i64 ((n:Int)+1)]) X hM_1 rfl (by simp[Value.single]) λ U2 hI_2 ht_2 hM_2=>?_⟩
   conv=>whnf
   exact⟨rfl,n+1,by trivial,⟨⟨λ x o hx=>by rw[hI_2];exact hlg.imm x o hx,⟨_,(append_nil _).symm⟩,ht_2.trans hlg.tok⟩,by omega,hnx,hM_2⟩,by show _-_<_-_;omega⟩
  |false=>
   refine⟨_,hbc1.sees3 (o:=1) rfl,Qss.any,(Qjp h.sa h.sl h.sc c.sp hc_1.sp hc'.sl 100 #[] #[.pointer (some ⟨bx,0,none⟩)] (λ s=>W1 (n:Int) s.1 s.2) ⟨Qxs.any,λ s _=>Q28 s n hM_1.reads⟩).go λ _=>?_⟩;cases hsp:c.sp.any λ s=>W1 (n:Int) s.1 s.2 with
   |true=>
    have hop:c.open n=false:=by rw[ko,hct,hsp];rfl
    rw[hop,if_neg (by simp)]at hnx
    repeat refine⟨rfl,?_⟩
    refine⟨_,hM_1.reads 0 _ rfl,hin,rfl,Js (vs:=[.int .i64 ((n:Int)+1)]) X hM_1 rfl (by simp[Value.single]) λ U2 hI_2 ht_2 hM_2=>?_⟩
    conv=>whnf
    exact⟨rfl,n+1,by trivial,⟨⟨λ x o hx=>by rw[hI_2];exact hlg.imm x o hx,⟨_,(append_nil _).symm⟩,ht_2.trans hlg.tok⟩,by omega,hnx,hM_2⟩,by show _-_<_-_;omega⟩
   |false=>
    have hop:c.open n=true:=by rw[ko,hct,hsp];rfl
    rw[hop,if_pos rfl]at hnx;rw[hnx]at hY;refine⟨_,hM_1.reads 0 _ rfl,?_⟩
    conv=>whnf
    refine hY U1 _ hlg hM_1 λ U2 hE=>?_
    repeat refine⟨rfl,?_⟩
    conv=>whnf
    exact .inl hE
def Q0j(h:CH)(d:Nat):Qb S 64 #[h.v,.int .i64 d] (λ v U'=>∃bx bc,v=.func (.func 99) #[] #[.pointer (some ⟨bx,0,none⟩),.pointer (some ⟨bc,0,none⟩)]/\Zd U' bc #[.slice h.wa h.wl h.wc,.slice h.sa h.sl h.sc]/\U.frz.lg U'/\Q63 U' [] bx d U.M) U:=by
 refine Qb.of (args:=[_,_]) Q3r Qd (by simp) ?_
 repeat refine⟨rfl,?_⟩
 conv=>whnf
 intro bc U1 h_1 hbc;have hbc:Zd U1 bc #[.slice h.wa h.wl h.wc,.slice h.sa h.sl h.sc]:=hbc
 conv=>whnf
 intro bx hbx;have hlp:=Z0 (U:=U1) bx (.cells #[.int .i64 d] 3)
 repeat refine⟨rfl,?_⟩
 conv=>whnf
 exact⟨bx,bc,rfl,hbc.lg hlp,h_1.lg.frz.trans hlp,by show _::U1.M=_;rw[h_1.own];rfl⟩
def Qwy(h:CH)(c:Cal)(hc':Qmu U.frz h c)(d:Nat)(hd:d<=36524):Qb S 33 #[h.v,.int .i64 d] (λ v U'=>v=.int .i64 (nxt c.open d:Nat)/\U'=U) U:=by
 refine Qb.pure' (Qb.of (args:=[_,_]) Q3h Qd (by simp) ?_)
 repeat refine⟨rfl,?_⟩
 conv=>whnf
 intro B U1 h_1 hB;have hB:Zd U1 B #[.slice h.wa h.wl h.wc,.slice h.sa h.sl h.sc]:=hB
 conv=>whnf
 intro b4 hf4;refine⟨_,.refl _,?_⟩;have hlp:=Z0 (U:=U1) b4 (.cells #[.int .i64 0] 3);refine⟨_,⟨rfl,(hB.lg hlp).reads (λ k v hv=>by simpa using hv)⟩,?_⟩;refine⟨Q3r.any,(Q0j h d).mono ?_⟩;rintro _ U2⟨bx,bc,rfl,hbc,hl_2,hM_2⟩-;have hf_2:U.frz.lg U2:=h_1.lg.frz2.trans (hlp.frz2.trans hl_2)
 have hM_2:U2.M=.obj bx (.cells #[.int .i64 d] 3 (0,0))::.obj b4 (.cells #[.int .i64 0] 3 (0,0))::U.M:=by
  have:U2.M=_::(U1.put b4 (.cells #[.int .i64 0] 3)).M:=hM_2;rw[this];show _::_::U1.M=_;rw[h_1.own]
 have hc2:∀{U3:Qa T},U2.frz.lg U3->Qmu U3.frz h c:=λ k=>hc'.lg (hf_2.frz2.trans k.frz2)
 conv=>whnf
 refine Zf2 Qd rfl rfl Q4a.any λ l dd lo hfd hfl hne hR=>?_;have hlg0:U2.frz.lg { U2 with M:=.obj l (lo .ready none)::.obj dd (.deferred (some []))::U2.M }:=⟨λ _ _ h=>h,⟨_,(append_nil _).symm⟩,rfl⟩
 refine(Qw1 (c:=c) (hc2 hlg0) (hbc.imI hlg0.imm) (X:=[.obj l (lo .ready none),.obj dd (.deferred (some []))]) (M₀:=.obj b4 (.cells #[.int .i64 0] 3 (0,0))::U.M) d hd (by show _::_::U2.M=_;rw[hM_2];rfl)
  (E:=λ U3=>U2.frz.lg U3/\∃n,U3.M=.obj l (lo .done (some .ret))::.obj dd (.deferred (some []))::.obj bx n::.obj b4 (.cells #[.int .i64 (nxt c.open d:Nat)] 3 (0,0))::U.M) λ U3 K hl_3 hM_3 hK=>?_).mono ?_
 .refine hR _ K _ rfl (by rw[hM_3];exact mem_cons_self ..) ?_;refine⟨rfl,.obj l (lo .busy none)::.obj dd (.deferred (some []))::.obj bx (.cells #[.int .i64 (nxt c.open d:Nat)] 3 (0,0))::.obj b4 (.cells #[.int .i64 0] 3 (0,0))::U.M,by rw[hM_3];exact .here,?_⟩;refine⟨rfl,Js (vs:=[.int .i64 (nxt c.open d:Nat)]) [.obj l (lo .busy none),.obj dd (.deferred (some [])),.obj bx (.cells #[.int .i64 (nxt c.open d:Nat)] 3 (0,0))] rfl rfl (by simp[Value.single]) λ U4 hI_4 ht4 hM4=>?_⟩;refine⟨.obj l (lo .done (some .ret))::.obj dd (.deferred (some []))::.obj bx (.cells #[.int .i64 (nxt c.open d:Nat)] 3 (0,0))::.obj b4 (.cells #[.int .i64 (nxt c.open d:Nat)] 3 (0,0))::U.M,by rw[hM4];exact .here,hK _ ⟨⟨λ x o hx=>?_,⟨_,(append_nil _).symm⟩,ht4.trans hl_3.tok⟩,_,rfl⟩⟩;show U4.I x=some o;rw[hI_4];exact hl_3.imm x o hx
 .rintro v U3 (⟨hl_3,n,hM_3⟩|⟨hn,hl_3,n,hM_3⟩) -
  .refine⟨.done,some .ret,.obj l (lo .exhausted (some .ret))::.obj dd (.deferred (some []))::.obj bx n::.obj b4 (.cells #[.int .i64 (nxt c.open d:Nat)] 3 (0,0))::U.M,by simp,by rw[hM_3];exact .here,?_⟩;refine⟨_,.there .here,_,Q7 (vs:=[.int .i64 (nxt c.open d:Nat)]) [.obj l (lo .exhausted (some .ret)),.obj dd (.deferred none),.obj bx n] rfl 0 _ rfl,?_⟩
   repeat refine⟨rfl,?_⟩
   conv=>whnf
   exact⟨λ x o hx=>hl_3.imm x o (hf_2.imm x o hx),⟨[_,_,_,_],rfl⟩,hl_3.tok.trans hf_2.tok⟩
  .refine⟨.ready,none,.obj l (lo .exhausted none)::.obj dd (.deferred (some []))::.obj bx (.cells #[.int .i64 n] 3 (0,0))::.obj b4 (.cells #[.int .i64 0] 3 (0,0))::U.M,by simp,by rw[hM_3];exact .here,?_⟩;refine⟨rfl,Js (vs:=[.int .i64 36524]) [.obj l (lo .exhausted none),.obj dd (.deferred (some [])),.obj bx (.cells #[.int .i64 n] 3 (0,0))] rfl rfl (by simp[Value.single]) λ U4 hI_4 ht4 hM4=>?_⟩;refine⟨_,by rw[hM4];exact .there .here,?_⟩;refine⟨_,Q7 (vs:=[.int .i64 36524]) [.obj l (lo .exhausted none),.obj dd (.deferred none),.obj bx (.cells #[.int .i64 n] 3 (0,0))] rfl 0 _ rfl,?_⟩;rw[hn]
   repeat refine⟨rfl,?_⟩
   conv=>whnf
   exact⟨λ x o hx=>by show U4.I x=_;rw[hI_4];exact hl_3.imm x o (hf_2.imm x o hx),⟨[_,_,_,_],rfl⟩,ht4.trans (hl_3.tok.trans hf_2.tok)⟩
end Go.Proofs
