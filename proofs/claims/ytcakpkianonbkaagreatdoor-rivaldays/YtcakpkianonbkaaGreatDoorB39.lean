/- Lemmas. No conditions. -/
import Derived.Test.YtcakpkianonbkaaGreatDoorB38
import Derived.Test.YtcakpkianonbkaaGreatDoorB08
set_option linter.all false
set_option maxRecDepth 100000
open List
namespace Go.TM
variable{T:Type}{U U':Qa T}
def Gl:List Int->Int
 |[]=>0
 |n::l=>if n=0 then Gl l else n
def uY{l:List Int}{i:Nat}{x:Int}(h:l[i]?=some x):Gl (l.drop i)=if x=0 then Gl (l.drop (i+1))else x:=by rw[Ww h];rfl
def VK:Array Value:=#[.int .i64 31,.int .i64 28,.int .i64 31,.int .i64 30,.int .i64 31,.int .i64 30,.int .i64 31,.int .i64 31,.int .i64 30,.int .i64 31,.int .i64 30,.int .i64 31]
def H4(U:Qa T):Prop:=Zf U 1 VK
def H4.lg(h:H4 U)(k:U.lg U'):H4 U':=Zf.lg h k
def On(n u:Int):Int:=if Ws n 0 999&&Ws u 0 2 then 0 else 1
structure CH where
 wa:Option Addr
 wl:Nat
 wc:Nat
 sa:Option Addr
 sl:Nat
 sc:Nat
abbrev CH.v(h:CH):Value:=.agg #[.slice h.wa h.wl h.wc,.slice h.sa h.sl h.sc]
structure X4(U:Qa T)(h:CH)(c:QV):Prop where
 wd:Z0 U h.wa h.wl c.wd
 sp:Qy U h.sa h.sl 2 c.sp λ s vs=>vs=[.int .i64 s.1,.int .i64 s.2]
 wl:h.wl<2^60
 sl:h.sl<2^60
def X4.lg{h:CH}{c:QV}(k:X4 U h c)(b:U.lg U'):X4 U' h c:=⟨k.wd.lg b,k.sp.lg b λ _ _ h=>h,k.wl,k.sl⟩
def NV(n m:Nat)(h:n<2^60):IntKind.wrap .i64 ((n:Int).tdiv (m:Int))=((n / m:Nat):Int):=by
 have b:n / m<=n:=Nat.div_le_self n m;rw[Int.tdiv_eq_ediv_of_nonneg O1];show IntKind.wrap .i64 ((n / m:Nat):Int)=_;generalize n / m=q at b;exact G7 I1
def Ou(n m:Nat):(n:Int).tmod (m:Int)=((n % m:Nat):Int):=by rw[Int.tmod_eq_emod_of_nonneg O1];rfl
end Go.TM
namespace Go.Proofs
open Go.TM
variable{T:Type}{S:TM.Sys Tryz.prog T}{U:Qa T}
attribute [local irreducible] Qb Zh Wh
def PB(U:Qa T)(n a b:Int):Qb S 61 #[.int .i64 n,.int .i64 a,.int .i64 b] (λ v U'=>v=.bool (Ws n a b)/\U'=U) U:=by
 refine Qb.of (args:=[_,_,_]) GO Qe S1 ?_
 repeat refine⟨rfl,?_⟩
 conv=>whnf
 apply Q7<;>intro e
 .repeat refine⟨rfl,?_⟩
  conv=>whnf
  exact⟨by unfold Ws;rw[e];rfl,rfl⟩
 .repeat refine⟨rfl,?_⟩
  conv=>whnf
  exact⟨by unfold Ws;rw[e];rfl,rfl⟩
def VY(U:Qa T)(n:Int):Qb S 31 #[.int .i64 n] (λ v U'=>v=.bool (JH n)/\U'=U) U:=by
 refine Qb.of (args:=[_]) Vc Qe S1 ?_;refine⟨GO.any,(PB U n 0 36524).go λ _=>?_⟩
 repeat refine⟨rfl,?_⟩
 conv=>whnf
def Pz(U:Qa T)(n:Int):Qb S 110 #[.int .i64 n] (λ v U'=>v=.bool (JH n)/\U'=U) U:=by
 refine Qb.of (args:=[_]) GC Qe S1 ?_;refine⟨W0.any,(J6 U n 0 36524).go λ _=>?_⟩
 repeat refine⟨rfl,?_⟩
 conv=>whnf
def Ki(U:Qa T)(is:Bool)(n:Int):Qb S 30 #[.bool is,.int .i64 n] (λ v U'=>v=.int .i64 (if is then n else 0)/\U'=U) U:=by
 refine Qb.of (args:=[_,_]) Vb Qe S1 ?_;cases is
 .repeat refine⟨rfl,?_⟩
  conv=>whnf
 .repeat refine⟨rfl,?_⟩
  conv=>whnf
def zK(a:Option Addr)(len cap:Nat)(l:List Int)(z:Z0 U a len l)(B:len<2^60):Qb S 28 #[.slice a len cap] (λ v U'=>v=.int .i64 (Gl l)/\U'=U) U:=by
 refine Qb.of (args:=[_]) D_ Qe S1 ?_;have F:=z.1
 repeat refine⟨rfl,?_⟩
 refine⟨Nat,λ i=>[(5,.slice a len cap),(6,.int .i64 len),(7,.int .i64 i)],λ i U'=>U'=U/\i<=len/\Gl l=Gl (l.drop i),λ i=>len-i,0,T1,⟨rfl,O1,rfl⟩,?_⟩;rintro i f _⟨rfl,K,b⟩;have w:Ze ((i:Int)+1):=I1
 repeat refine⟨rfl,?_⟩
 conv=>whnf
 apply Qd<;>intro e
 .have hlt:i<len:=by simpa using e
  obtain⟨E,x,I,h,H,G⟩:=z.at hlt;rw[uY I]at b;refine⟨E,i,⟨h,rfl,hlt⟩,_,G,?_⟩
  repeat refine⟨rfl,?_⟩
  conv=>whnf
  apply Qd<;>intro e
  .have hx0:x≠0:=by simpa using e
   rw[if_neg hx0]at b;rw[b]
   repeat refine⟨rfl,?_⟩
   conv=>whnf
  .have hx0:x=0:=by simpa using e
   rw[if_pos hx0]at b;refine⟨w,?_⟩
   conv=>whnf
   exact⟨rfl,i+1,T1,⟨rfl,O1,b⟩,L1⟩
 .have hge:i=len:=by simp at e;omega
  rw[drop_eq_nil_of_le O1]at b;rw[b]
  repeat refine⟨rfl,?_⟩
  conv=>whnf
  first|done|exact⟨rfl,rfl⟩
def CN(U:Qa T)(n u:Int):Qb S 32 #[.agg #[.int .i64 n,.int .i64 u]] (λ v U'=>v=.int .i64 (On n u)/\U'=U) U:=by
 refine Qb.pure' (Qb.of (args:=[_]) E1 Qe S1 ?_)
 repeat refine⟨rfl,?_⟩
 conv=>whnf
 intro B e b h;have h:Zf e B #[.int .i64 n,.int .i64 u]:=h;refine⟨_,h.sees3 (o:=0) rfl,GO.any,(PB e n 0 999).go λ _=>?_⟩;unfold On
 repeat refine⟨rfl,?_⟩
 conv=>whnf
 apply Q7<;>intro w
 .have hb:Ws n 0 999=true:=by simpa using w
  rw[hb]
  repeat refine⟨rfl,?_⟩
  refine⟨_,h.sees3 (o:=1) rfl,GO.any,(PB e u 0 2).go λ _=>?_⟩;refine⟨Vb.any,(Ki e (!Ws u 0 2) 1).go λ _=>?_⟩;cases Ws u 0 2
  .repeat refine⟨rfl,?_⟩
   conv=>whnf
   exact b.lg
  .repeat refine⟨rfl,?_⟩
   conv=>whnf
   exact b.lg
 .have hb:Ws n 0 999=false:=by simpa using w
  rw[hb];refine⟨Vb.any,(Ki e true 1).go λ _=>?_⟩
  repeat refine⟨rfl,?_⟩
  conv=>whnf
  exact b.lg
def T6(U:Qa T)(n:Nat)(w:n<1000):Qb S 101 #[.int .i64 (2000+n:Nat)] (λ v U'=>v=.int .i64 (ZA n:Nat)/\U'=U) U:=by
 refine Qb.of (args:=[_]) KP Qe S1 ?_;have e:((2000+n:Nat):Int)-2000=(n:Int):=O1
 have h:IntKind.wrap .i64 ((n:Int).tdiv 4)=((n / 4:Nat):Int):=NV n 4 O1;have b:(n:Int).tmod 4=((n % 4:Nat):Int):=Ou n 4;refine⟨I1,?_⟩;rw[e];refine⟨rfl,D1,?_⟩;rw[h];refine⟨I1,?_⟩;refine⟨rfl,D1,?_⟩;rw[b];refine⟨I1,?_⟩;refine⟨I1,?_⟩;refine⟨rfl,D1,?_⟩;rw[b]
 conv=>whnf
 refine O7 rfl rfl ?_;refine⟨I1,?_⟩
 repeat refine⟨rfl,?_⟩
 conv=>whnf
 exact⟨by congr 1;unfold ZA;omega,rfl⟩
def dg(m:Nat)(b:m<12):VK.toList[m]?=some (.int .i64 (([31,28,31,30,31,30,31,31,30,31,30,31].getD m 0:Nat):Int)):=by
 rcases m with _|_|_|_|_|_|_|_|_|_|_|_|m
 all_goals first|rfl|(exfalso;omega)
def K0(H:H4 U)(n m:Nat)(K:n<1000)(B:m<12):Qb S 67 #[.int .i64 (2000+n:Nat),.int .i64 (m+1:Nat)] (λ v U'=>v=.int .i64 (ZN n m:Nat)/\U'=U) U:=by
 refine Qb.of (args:=[_,_]) Ve Qe S1 ?_;have G:((2000+n:Nat):Int).tmod 4=(((2000+n) % 4:Nat):Int):=Ou _ 4;have e:Ze (((m+1:Nat):Int)-1):=I1
 have F:((m+1:Nat):Int)-1=(m:Int):=O1
 have z:¬(m=1/\n % 4=0)->ZN n m=[31,28,31,30,31,30,31,31,30,31,30,31].getD m 0:=λ h=>by unfold ZN;rw[if_neg h]
 have w:∀E:Addr,E=⟨1,0,none⟩->U.sees (E.add (m*1)) (.int .i64 (([31,28,31,30,31,30,31,31,30,31,30,31].getD m 0:Nat):Int)):=by
  rintro _ rfl;have h:Z6 U ⟨1,0,none⟩ VK.toList:=H.reads λ k v I=>by simpa using I
  have:=h m _ (dg m B);simpa using this
 repeat refine⟨rfl,?_⟩
 conv=>whnf
 apply Q7<;>intro b
 .have h1:m=1:=by
   have:((m+1:Nat):Int)=2:=by simpa using b
   omega
  refine⟨rfl,D1,?_⟩;rw[G]
  repeat refine⟨rfl,?_⟩
  conv=>whnf
  apply Qd<;>intro b
  .have h4:n % 4=0:=by
    have:(((2000+n) % 4:Nat):Int)=0:=by simpa using b
    omega
   repeat refine⟨rfl,?_⟩
   conv=>whnf
   exact⟨by congr 1;unfold ZN;rw[if_pos ⟨h1,h4⟩];rfl,rfl⟩
  .have h4:n % 4≠0:=by
    have:(((2000+n) % 4:Nat):Int)≠0:=by simpa using b
    omega
   rw[z O1];refine⟨e,?_⟩;rw[F];refine⟨m,⟨rfl,B⟩,_,w _ rfl,?_⟩
   repeat refine⟨rfl,?_⟩
   conv=>whnf
 .have h1:m≠1:=by
   have:((m+1:Nat):Int)≠2:=by simpa using b
   omega
  rw[z O1];refine⟨e,?_⟩;rw[F];refine⟨m,⟨rfl,B⟩,_,w _ rfl,?_⟩
  repeat refine⟨rfl,?_⟩
  conv=>whnf
end Go.Proofs
namespace Go.TM
variable{T:Type}{U U':Qa T}
def Ps(s:Int×Int):Value:=.agg #[.int .i64 s.1,.int .i64 s.2]
def NG{l:List Int}{i:Nat}{x:Int}(h:l[i]?=some x):wdF ((l.take i).getLast?) (l.drop i)=if Ws x 0 6 then(match(l.take i).getLast? with|some m=>if x<=m then 7 else wdF ((l.take (i+1)).getLast?) (l.drop (i+1))|none=>wdF ((l.take (i+1)).getLast?) (l.drop (i+1)))else 1:=by
 rw[Ww h,uv];have:(l.take (i+1)).getLast?=some x:=by rw[Z3 h];simp
 rw[this];cases(l.take i).getLast? <;> rfl
def DM{l:List Int}{i:Nat}{x:Int}(h:l[i]?=some x):(l.take (i+1)).getLast?=some x:=by rw[Z3 h];simp
def VJ(s:Int×Int):Bool:=decide (0<=s.1)&&(decide (s.1<=s.2)&&decide (s.2<=36524))
def Nd(s:Int×Int):Xi s=!VJ s:=by
 unfold Xi VJ JH Ws;by_cases b:0<=s.1 <;> by_cases e:s.1<=s.2 <;> by_cases h:s.2<=36524 <;> by_cases w:s.1<=36524 <;> by_cases z:0<=s.2 <;> by_cases B:s.1 > s.2 <;> simp[b,e,h,w,z,B] <;> omega
end Go.TM
namespace Go.Proofs
open Go.TM
variable{T:Type}{S:TM.Sys Tryz.prog T}{U:Qa T}
attribute [local irreducible] Qb Zh Wh
def R0(a:Option Addr)(len cap:Nat)(l:List (Int×Int))(H:Qy U a len 2 l λ s vs=>vs=[.int .i64 s.1,.int .i64 s.2])(I:len<2^60)(g:FuncId)(first e:Array Value)(p:Int×Int->Bool)
  (G:WJ S U g first e Ps l p):Qb S 98 #[.slice a len cap,.func (.func g) first e] (λ v U'=>v=.int .i64 (XC p l)/\U'=U) U:=by
 refine Qb.of (args:=[_,_]) Ec Qe S1 ?_;have M:=H.1
 repeat refine⟨rfl,?_⟩
 refine⟨Nat,λ i=>[(0,.slice a len cap),(1,.func (.func g) first e),(6,.slice a len cap),(7,.int .i64 len),(8,.int .i64 i)],
  λ i U'=>U'=U/\i<=len/\∀x∈l.take i,p x=false,λ i=>len-i,0,T1,⟨rfl,O1,S1⟩,?_⟩
 rintro i f P⟨L,Q,b⟩;obtain rfl:=L.symm
 repeat refine⟨rfl,?_⟩
 conv=>whnf
 apply Qd<;>intro z
 .have hlt:i<len:=by simpa using z
  obtain⟨K,x,vs,F,rfl,N,rfl,-,E⟩:=H.at hlt;have h:=G.2 x (mem_of_getElem? F);refine⟨K,i,⟨rfl,rfl,hlt⟩,_,⟨rfl,E⟩,G.1,h.mono ?_⟩;rintro v U'⟨rfl,B⟩-;obtain rfl:=B.symm
  conv=>whnf
  apply Qd<;>intro z
  .repeat refine⟨rfl,?_⟩
   conv=>whnf
   exact⟨by rw[PV F z b],rfl⟩
  .refine⟨I1,?_⟩;refine⟨rfl,i+1,T1,⟨rfl,O1,?_⟩,L1⟩;intro y w;rw[Z3 F,mem_append]at w;rcases w with w|w
   .exact b y w
   .simp at w;subst w;exact z
 .have hge:len<=i:=by simpa using z
  repeat refine⟨rfl,?_⟩
  refine⟨?_,rfl⟩;rw[take_of_length_le O1]at b;rw[PU b]
def FQ(a:Option Addr)(len cap:Nat)(l:List (Int×Int))(z:Qy U a len 2 l λ s vs=>vs=[.int .i64 s.1,.int .i64 s.2])(e:len<2^60)(g:FuncId)(first b:Array Value)(p:Int×Int->Bool)
  (w:WJ S U g first b Ps l p):Qb S 63 #[.slice a len cap,.func (.func g) first b] (λ v U'=>v=.bool (l.any p)/\U'=U) U:=by
 refine Qb.of (args:=[_,_]) Sk Qe S1 ?_;refine⟨Ec.any,(R0 a len cap l z e g first b p w).mono ?_⟩;rintro v U'⟨rfl,h⟩-;obtain rfl:=h.symm
 repeat refine⟨rfl,?_⟩
 refine⟨?_,rfl⟩;show Value.bool _=_;rw[Vv]
def zo(s:Int×Int):Qb S 62 #[Ps s] (λ v U'=>v=.bool (Xi s)/\U'=U) U:=by
 refine Qb.pure' (Qb.of (args:=[_]) Eo Qe S1 ?_);obtain⟨a,b⟩:=s
 repeat refine⟨rfl,?_⟩
 conv=>whnf
 intro B w e h;have h:Zf w B #[.int .i64 a,.int .i64 b]:=h;have F:Xi (a,b)=!(JH a&&(JH b&&!decide (a > b))):=rfl;rw[F];refine⟨_,h.sees3 (o:=0) rfl,Vc.any,(VY w a).go λ _=>?_⟩;cases z:JH a with
 |false=>
  repeat refine⟨rfl,?_⟩
  conv=>whnf
  first|exact e.lg|exact⟨rfl,e.lg⟩
 |true=>
  refine⟨_,h.sees3 (o:=1) rfl,Vc.any,(VY w b).go λ _=>?_⟩;cases E:JH b with
  |false=>
   repeat refine⟨rfl,?_⟩
   conv=>whnf
   first|exact e.lg|exact⟨rfl,e.lg⟩
  |true=>
   refine⟨_,h.sees3 (o:=0) rfl,_,h.sees3 (o:=1) rfl,?_⟩
   repeat refine⟨rfl,?_⟩
   conv=>whnf
   first|exact e.lg|exact⟨S1,e.lg⟩
def zf(s:Int×Int):Qb S 79 #[Ps s,.int .i64 0,.int .i64 36524] (λ v U'=>v=.bool (VJ s)/\U'=U) U:=by
 refine Qb.pure' (Qb.of (args:=[_,_,_]) EB Qe S1 ?_);obtain⟨a,b⟩:=s
 repeat refine⟨rfl,?_⟩
 conv=>whnf
 intro B z e h;have h:Zf z B #[.int .i64 a,.int .i64 b]:=h;have E:VJ (a,b)=(decide (0<=a)&&(decide (a<=b)&&decide (b<=36524))):=rfl;rw[E];refine⟨_,h.sees3 (o:=0) rfl,?_⟩
 repeat refine⟨rfl,?_⟩
 conv=>whnf
 apply Q7<;>intro w
 .have e1:decide (0<=a)=true:=w;rw[e1];refine⟨_,h.sees3 (o:=0) rfl,_,h.sees3 (o:=1) rfl,?_⟩
  repeat refine⟨rfl,?_⟩
  conv=>whnf
  apply Q7<;>intro w
  .have e2:decide (a<=b)=true:=w;rw[e2];refine⟨_,h.sees3 (o:=1) rfl,?_⟩
   repeat refine⟨rfl,?_⟩
   conv=>whnf
   first|exact e.lg|exact⟨S1,e.lg⟩
  .have e2:decide (a<=b)=false:=w;rw[e2]
   repeat refine⟨rfl,?_⟩
   conv=>whnf
   first|exact e.lg|exact⟨S1,e.lg⟩
 .have e1:decide (0<=a)=false:=w;rw[e1]
  repeat refine⟨rfl,?_⟩
  conv=>whnf
  first|exact e.lg|exact⟨S1,e.lg⟩
def qV(h:CH)(c:QV)(z:X4 U h c):Qb S 29 #[h.v] (λ v U'=>v=.int .i64 c.flaw/\U'=U) U:=by
 refine Qb.pure' (Qb.of (args:=[_]) E0 Qe S1 ?_);have ae:=z.wd.1;have Y:=z.wl;have ab:=z.sp.1;have I:=z.sl;have V:c.flaw=if wdF none c.wd=0 then(if c.sp.length > 6 then 2 else if c.sp.any Xi then 1 else 0)else wdF none c.wd:=rfl
 repeat refine⟨rfl,?_⟩
 conv=>whnf
 intro B K e F;have F:Zf K B #[.slice h.wa h.wl h.wc,.slice h.sa h.sl h.sc]:=F;have E:=z.lg e.lg;refine⟨_,F.sees3 (o:=0) rfl,Nat,λ i=>[(1,.pointer (some ⟨B,0,none⟩)),(8,.slice h.wa h.wl h.wc),(9,.int .i64 h.wl),(10,.int .i64 i)],
  λ i U'=>U'=K/\i<=h.wl/\wdF none c.wd=wdF ((c.wd.take i).getLast?) (c.wd.drop i),λ i=>h.wl-i,0,T1,⟨rfl,O1,rfl⟩,?_⟩
 rintro i f U2⟨hU,hi,b⟩;obtain rfl:=hU.symm;have H:Ze ((i:Int)+1):=I1
 repeat refine⟨rfl,?_⟩
 conv=>whnf
 apply Qd<;>intro w
 .have hlt:i<h.wl:=by simpa using w
  obtain⟨Z,x,hx,N,ac,hs⟩:=E.wd.at hlt;rw[NG hx]at b;refine⟨Z,i,⟨N,rfl,hlt⟩,_,hs,GO.any,(PB K x 0 6).go λ _=>?_⟩;cases W:Ws x 0 6 with
  |false=>
   rw[W,if_neg S1]at b;rw[V,b,if_neg D1]
   repeat refine⟨rfl,?_⟩
   conv=>whnf
   exact e.lg
  |true=>
   rw[W,if_pos rfl]at b
   repeat refine⟨rfl,?_⟩
   conv=>whnf
   apply Q7<;>intro w
   .have h0:0<i:=by simpa using w
    obtain⟨j,rfl⟩:∃j,i=j+1:=⟨i-1,O1⟩;obtain⟨L,y,hy,G,X,Q⟩:=E.wd.at (show j<h.wl by omega);rw[DM hy]at b;simp only at b;have P:((j+1:Nat):Int)-1=(j:Int):=O1
    refine⟨_,F.sees3 (o:=0) rfl,I1,?_⟩;rw[P];refine⟨L,j,⟨G,rfl,O1⟩,_,Q,?_⟩
    repeat refine⟨rfl,?_⟩
    conv=>whnf
    apply Qd<;>intro w
    .have hle:x<=y:=by simpa using w
     rw[if_pos hle]at b;rw[V,b,if_neg D1]
     repeat refine⟨rfl,?_⟩
     conv=>whnf
     exact e.lg
    .have hle:¬x<=y:=by simp at w;omega
     rw[if_neg hle]at b;refine⟨H,?_⟩
     conv=>whnf
     exact⟨rfl,j+1+1,T1,⟨rfl,O1,b⟩,L1⟩
   .have h0:i=0:=by simp at w;omega
    subst h0;refine⟨H,?_⟩
    conv=>whnf
    exact⟨rfl,0+1,T1,⟨rfl,O1,b⟩,L1⟩
 have aa:i=h.wl:=by simp at w;omega
 rw[drop_eq_nil_of_le O1]at b;have T:wdF none c.wd=0:=b;rw[V,if_pos T];refine⟨_,F.sees3 (o:=1) rfl,?_⟩
 repeat refine⟨rfl,?_⟩
 conv=>whnf
 apply Qd<;>intro w
 .have M:c.sp.length > 6:=by simp at w;omega
  rw[if_pos M]
  repeat refine⟨rfl,?_⟩
  conv=>whnf
  exact e.lg
 have M:¬c.sp.length > 6:=by simp at w;omega
 rw[if_neg M];refine⟨_,F.sees3 (o:=1) rfl,Sk.any,(FQ h.sa h.sl h.sc c.sp E.sp I 62 #[] #[] Xi ⟨Eo.any,λ s _=>zo s⟩).go λ _=>?_⟩;refine⟨Vb.any,(Ki K (c.sp.any Xi) 1).go λ _=>?_⟩
 repeat refine⟨rfl,?_⟩
 conv=>whnf
 exact e.lg
def CM(h:CH)(c:QV)(G:X4 U h c):Qb S 54 #[h.v] (λ v U'=>v=.int .i64 c.flaw/\U'=U) U:=by
 refine Qb.pure' (Qb.of (args:=[_]) El Qe S1 ?_);have am:=G.wd.1;have ak:=G.wl;have al:=G.sp.1;have ai:=G.sl;have kk:c.flaw=if wdF none c.wd=0 then(if c.sp.length > 6 then 2 else if c.sp.any Xi then 1 else 0)else wdF none c.wd:=rfl
 repeat refine⟨rfl,?_⟩
 conv=>whnf
 intro B Z P hB;have hB:Zf Z B #[.slice h.wa h.wl h.wc,.slice h.sa h.sl h.sc]:=hB;have V:=G.lg P.lg
 refine⟨Nat,λ i=>[(1,.pointer (some ⟨B,0,none⟩)),(3,.int .i64 i)],
  λ i U'=>Z.lg U'/\i<=h.wl/\wdF none c.wd=wdF ((c.wd.take i).getLast?) (c.wd.drop i),λ i=>h.wl-i,0,T1,⟨(Qa.le.refl _).lg,O1,rfl⟩,?_⟩
 rintro i f U2⟨z,hi,b⟩;have H:Ze ((i:Int)+1):=I1
 have e:=hB.lg z;have L:=V.lg z;have E:∀{w:Qa T},Z.lg w->U.lg w:=λ k=>P.lg.trans k;refine⟨_,e.sees3 (o:=0) rfl,?_⟩
 repeat refine⟨rfl,?_⟩
 conv=>whnf
 apply Qd<;>intro F
 .have hlt:i<h.wl:=by simpa using F
  obtain⟨X,x,Y,K,ag,hs⟩:=L.wd.at hlt;rw[NG Y]at b;refine⟨_,e.sees3 (o:=0) rfl,X,i,⟨K,rfl,hlt⟩,_,hs,W0.any,(J6 U2 x 0 6).go λ _=>?_⟩;cases Q:Ws x 0 6 with
  |false=>
   rw[Q,if_neg S1]at b;rw[kk,b,if_neg D1]
   repeat refine⟨rfl,?_⟩
   conv=>whnf
   exact E z
  |true=>
   rw[Q,if_pos rfl]at b
   repeat refine⟨rfl,?_⟩
   conv=>whnf
   apply Q7<;>intro F
   .have h0:0<i:=by simpa using F
    obtain⟨j,rfl⟩:∃j,i=j+1:=⟨i-1,O1⟩;obtain⟨aa,y,hy,W,aj,af⟩:=L.wd.at (show j<h.wl by omega);rw[DM hy]at b;simp only at b;have ac:((j+1:Nat):Int)-1=(j:Int):=O1
    refine⟨_,e.sees3 (o:=0) rfl,X,j+1,⟨K,rfl,hlt⟩,_,hs,_,e.sees3 (o:=0) rfl,I1,?_⟩;rw[ac];refine⟨aa,j,⟨W,rfl,O1⟩,_,af,?_⟩
    conv=>whnf
    intro U3 I _
    repeat refine⟨rfl,?_⟩
    conv=>whnf
    apply Qd<;>intro F
    .have hle:x<=y:=by simpa using F
     rw[if_pos hle]at b;rw[kk,b,if_neg D1]
     repeat refine⟨rfl,?_⟩
     conv=>whnf
     exact E (z.trans I.lg)
    .have hle:¬x<=y:=by simp at F;omega
     rw[if_neg hle]at b;refine⟨H,?_⟩
     conv=>whnf
     exact⟨rfl,j+1+1,T1,⟨z.trans I.lg,O1,b⟩,L1⟩
   .have h0:i=0:=by simp at F;omega
    subst h0
    conv=>whnf
    intro U3 I _;refine⟨H,?_⟩
    conv=>whnf
    exact⟨rfl,0+1,T1,⟨z.trans I.lg,O1,b⟩,L1⟩
 have ab:i=h.wl:=by simp at F;omega
 rw[drop_eq_nil_of_le O1]at b;have ah:wdF none c.wd=0:=b;rw[kk,if_pos ah];refine⟨_,e.sees3 (o:=1) rfl,?_⟩
 repeat refine⟨rfl,?_⟩
 conv=>whnf
 apply Qd<;>intro F
 .have h6:c.sp.length > 6:=by simp at F;omega
  rw[if_pos h6]
  repeat refine⟨rfl,?_⟩
  conv=>whnf
  exact E z
 have h6:¬c.sp.length > 6:=by simp at F;omega
 rw[if_neg h6];clear H;refine⟨Nat,λ i=>[(1,.pointer (some ⟨B,0,none⟩)),(4,.int .i64 i)],λ i U'=>U'=U2/\i<=h.sl/\(c.sp.take i).any Xi=false,λ i=>h.sl-i,0,T1,⟨rfl,O1,rfl⟩,?_⟩;rintro k f U3⟨hU,hk,M⟩;obtain rfl:=hU.symm;have H:Ze ((k:Int)+1):=I1
 refine⟨_,e.sees3 (o:=1) rfl,?_⟩
 repeat refine⟨rfl,?_⟩
 conv=>whnf
 apply Qd<;>intro F
 .have hlt:k<h.sl:=by simpa using F
  obtain⟨X,x,vs,Y,K,ag,rfl,-,ae⟩:=L.sp.at hlt;refine⟨_,e.sees3 (o:=1) rfl,X,k,⟨K,rfl,hlt⟩,_,⟨rfl,ae⟩,EB.any,(zf x).go λ _=>?_⟩;cases Q:VJ x with
  |false=>
   have N:Xi x=true:=by rw[Nd,Q];rfl
   rw[any_eq_true.2 ⟨x,mem_of_getElem? Y,N⟩]
   repeat refine⟨rfl,?_⟩
   conv=>whnf
   exact E z
  |true=>
   have N:Xi x=false:=by rw[Nd,Q];rfl
   refine⟨H,?_⟩
   conv=>whnf
   exact⟨rfl,k+1,T1,⟨rfl,O1,by rw[Z3 Y,any_append,M];simp[N]⟩,L1⟩
 have ab:k=h.sl:=by simp at F;omega
 rw[take_of_length_le O1]at M;rw[M]
 repeat refine⟨rfl,?_⟩
 conv=>whnf
 exact E z
end Go.Proofs
namespace Go.TM
def Sc(n:Nat):∀{m r:Nat},m<r->W9 n m+ZN n m<=W9 n r
 |m,r+1,h=>by
  rcases Nat.lt_or_ge m r with l|l
  .have:=Sc n l;show _<=W9 n r+ZN n r;omega
  .obtain rfl:m=r:=O1
   exact Nat.le_refl _
def OU(n:Nat):∀{m:Nat},m<=12->W9 n m<=31*m
 |0,_=>Nat.le_refl _
 |m+1,h=>by
  have:=OU n (m:=m) O1;have:=Od (n:=n) (m:=m) O1;show W9 n m+ZN n m<=_;omega
def yB{a b:Nat}(h:a<=b):ZA a<=ZA b:=by
 have:=GF (a:=12*a) (b:=12*b) O1;unfold Wt at this;rw[show 12*a / 12=a by omega,show 12*b / 12=b by omega,show 12*a % 12=0 by omega,show 12*b % 12=0 by omega]at this;exact this
def EN{k:Nat}(h:k<1200):Wt k+ZL k<=36525:=by
 have:=GF (a:=k+1) (b:=1200) h;rw[TU,G4]at this;exact this
def kj{k d:Nat}(z:d<ZL k):ZA (k / 12)<=Wt k+d/\Wt k+d<ZA (k / 12+1):=by
 have e:=G4 k;have h:=GF (a:=k+1) (b:=12*(k / 12+1)) O1
 have w:Wt (12*(k / 12+1))=ZA (k / 12+1):=by
  unfold Wt;rw[show 12*(k / 12+1) / 12=k / 12+1 by omega,show 12*(k / 12+1) % 12=0 by omega];rfl
 refine⟨?_,O1⟩;unfold Wt;omega
end Go.TM
namespace Go.Proofs
open Go.TM
variable{T:Type}{S:TM.Sys Tryz.prog T}{U:Qa T}
attribute [local irreducible] Qb Zh Wh
def zT(P:H4 U)(k d:Nat)(Y:k<1200)(Q:d<ZL k) :
  Qb S 65 #[.int .i64 (Wt k+d:Nat)] (λ v U'=>v=.tuple #[.int .i64 (2000+k / 12:Nat),.int .i64 (k % 12+1:Nat),.int .i64 (d+1:Nat)]/\U'=U) U:=by
 refine Qb.of (args:=[_]) Er Qe S1 ?_;have T:=EN Y;obtain⟨N,aa⟩:=kj Q;have hq:Wt k=ZA (k / 12)+W9 (k / 12) (k % 12):=rfl;have L:ZL k=ZN (k / 12) (k % 12):=rfl;have z:∀n,n<k / 12->ZA (n+1)<=Wt k+d:=λ n h=>Nat.le_trans (yB h) N;have F:k % 12<12:=O1
 have M:k / 12<100:=O1
 have X:=OU (k / 12) (m:=k % 12) O1;rw[L]at Q;have ab:=Od (n:=k / 12) F;generalize k / 12=q at *;generalize k % 12=r at *;refine⟨Nat,λ n=>[(0,.int .i64 (Wt k+d:Nat)),(2,.int .i64 (2000+n:Nat))],λ n U'=>U'=U/\n<=q,λ n=>q-n,0,T1,⟨rfl,O1⟩,?_⟩;rintro n f V⟨I,hn⟩;obtain rfl:=I.symm;have b:Ze (((2000+n:Nat):Int)+1):=I1
 have e:((2000+n:Nat):Int)+1=((2000+(n+1):Nat):Int):=O1
 repeat refine⟨rfl,?_⟩
 conv=>whnf
 refine Q7 (λ w=>?zqa) (λ w=>?zqb)
 case' zqa=>
  refine⟨b,?_⟩;rw[e];refine⟨KP.any,(T6 U (n+1) O1).go λ _=>?_⟩
  repeat refine⟨rfl,?_⟩
  conv=>whnf
  refine Qd (λ w=>?zqc) (λ w=>?zqd)
 case' zqc=>
  have B:n<q:=by
   have G:((ZA (n+1):Nat):Int)<=((Wt k+d:Nat):Int):=by simpa using w
   rcases Nat.lt_or_ge n q with l|l
   .exact l
   .obtain rfl:n=q:=O1
    omega
  refine⟨b,?_⟩;rw[e]
  conv=>whnf
  exact⟨rfl,n+1,T1,⟨rfl,O1⟩,L1⟩
 case' zqb=>
  have E:n=q:=by
   have G:¬((2000+n:Nat):Int)<2099:=by simpa using w
   omega
 case' zqd=>
  have E:n=q:=by
   have G:¬((ZA (n+1):Nat):Int)<=((Wt k+d:Nat):Int):=by simpa using w
   rcases Nat.lt_or_ge n q with l|l
   .have:=z n l;omega
   .omega
 all_goals
  subst E;clear w b e
  have W:((Wt k+d:Nat):Int)-((ZA n:Nat):Int)=((W9 n r+d-W9 n 0:Nat):Int):=by
   show _=((W9 n r+d-0:Nat):Int);omega
  refine⟨KP.any,(T6 U n O1).go λ _=>?_⟩;refine⟨I1,?_⟩;rw[W];refine⟨Nat,λ m=>[(0,.int .i64 (W9 n r+d-W9 n m:Nat)),(2,.int .i64 (2000+n:Nat)),(3,.int .i64 (m+1:Nat))],λ m U'=>U'=U/\m<=r,λ m=>r-m,0,T1,⟨rfl,O1⟩,?_⟩;rintro m f V⟨I,hm⟩;obtain rfl:=I.symm;have b:Ze (((m+1:Nat):Int)+1):=I1
  have e:((m+1:Nat):Int)+1=((m+1+1:Nat):Int):=O1
  refine⟨Ve.any,(K0 P n m O1 O1).go λ _=>?_⟩
  repeat refine⟨rfl,?_⟩
  conv=>whnf
  apply Qd<;>intro w
  .have G:((ZN n m:Nat):Int)<=((W9 n r+d-W9 n m:Nat):Int):=by simpa using w
   have B:m<r:=by
    rcases Nat.lt_or_ge m r with l|l
    .exact l
    .obtain rfl:m=r:=O1
     omega
   have Z:=Sc n B
   have H:((W9 n r+d-W9 n m:Nat):Int)-((ZN n m:Nat):Int)=((W9 n r+d-W9 n (m+1):Nat):Int):=by
    show _=((W9 n r+d-(W9 n m+ZN n m):Nat):Int);omega
   refine⟨Ve.any,(K0 P n m O1 O1).go λ _=>?_⟩;refine⟨I1,?_⟩;rw[H];refine⟨b,?_⟩;rw[e]
   conv=>whnf
   exact⟨rfl,m+1,T1,⟨rfl,O1⟩,L1⟩
  .have G:¬((ZN n m:Nat):Int)<=((W9 n r+d-W9 n m:Nat):Int):=by simpa using w
   have K:m=r:=by
    rcases Nat.lt_or_ge m r with l|l
    .have:=Sc n l;omega
    .omega
   subst K;have H:((W9 n m+d-W9 n m:Nat):Int)+1=((d+1:Nat):Int):=O1
   refine⟨I1,?_⟩;rw[H]
   repeat refine⟨rfl,?_⟩
   conv=>whnf
def zt(B:H4 U)(n m t:Nat)(z:n<1000)(I:m<12)(K:t<100) :
  Qb S 66 #[.int .i64 (2000+n:Nat),.int .i64 (m+1:Nat),.int .i64 t] (λ v U'=>v=.int .i64 ((ZA n+W9 n m+t:Nat)-1)/\U'=U) U:=by
 refine Qb.of (args:=[_,_,_]) Es Qe S1 ?_;have F:ZA n<=1000*366:=by unfold ZA;omega
 refine⟨KP.any,(T6 U n z).go λ _=>?_⟩;refine⟨Nat,λ j=>[(0,.int .i64 (2000+n:Nat)),(1,.int .i64 (m+1:Nat)),(2,.int .i64 t),(7,.int .i64 (ZA n+W9 n j:Nat)),(8,.int .i64 (j+1:Nat))],λ j U'=>U'=U/\j<=m,λ j=>m-j,0,T1,⟨rfl,O1⟩,?_⟩;rintro j f _⟨rfl,H⟩;have E:=OU n (m:=j) O1;have G:=Od (n:=n) (m:=j) O1;have h:Ze (((j+1:Nat):Int)+1):=I1
 have e:((j+1:Nat):Int)+1=((j+1+1:Nat):Int):=O1
 repeat refine⟨rfl,?_⟩
 conv=>whnf
 apply Qd<;>intro w
 .have hlt:j<m:=by
   have:((j+1:Nat):Int)<((m+1:Nat):Int):=by simpa using w
   omega
  have b:((ZA n+W9 n j:Nat):Int)+((ZN n j:Nat):Int)=((ZA n+W9 n (j+1):Nat):Int):=by
   show _=((ZA n+(W9 n j+ZN n j):Nat):Int);omega
  refine⟨Ve.any,(K0 B n j z O1).go λ _=>?_⟩;refine⟨I1,?_⟩;rw[b];refine⟨h,?_⟩;rw[e]
  conv=>whnf
  exact⟨rfl,j+1,T1,⟨rfl,O1⟩,L1⟩
 .have hge:j=m:=by
   have:¬((j+1:Nat):Int)<((m+1:Nat):Int):=by simpa using w
   omega
  subst hge;have b:((ZA n+W9 n j:Nat):Int)+(t:Int)=((ZA n+W9 n j+t:Nat):Int):=O1
  refine⟨I1,?_⟩;rw[b];refine⟨I1,?_⟩
  repeat refine⟨rfl,?_⟩
  conv=>whnf
def zO(h:H4 U)(u s c k d:Nat)(V:u<=2)(Q:s=Wt k+d)(E:k<1200)(P:d<ZL k)(w:c<=999) :
  Qb S 34 #[.int .i64 s,.agg #[.int .i64 c,.int .i64 u]] (λ v U'=>v=.int .i64 (Xw u s c k d:Nat)/\U'=U) U:=by
 refine Qb.pure' (Qb.of (args:=[_,_]) E3 Qe S1 ?_);have F:=EN E
 repeat refine⟨rfl,?_⟩
 conv=>whnf
 intro B G b e;have e:Zf G B #[.int .i64 c,.int .i64 u]:=e;refine⟨_,e.sees3 (o:=0) rfl,_,e.sees3 (o:=1) rfl,?_⟩;obtain rfl|rfl|rfl:u=0\/u=1\/u=2:=O1
 .repeat refine⟨rfl,?_⟩
  refine⟨I1,?_⟩
  conv=>whnf
  refine O7 rfl rfl ?_
  repeat refine⟨rfl,?_⟩
  conv=>whnf
  exact⟨by congr 1;show _=((min 36524 (s+c):Nat):Int);omega,b.lg⟩
 .repeat refine⟨rfl,?_⟩
  refine⟨I1,?_⟩;refine⟨I1,?_⟩
  conv=>whnf
  refine O7 rfl rfl ?_
  repeat refine⟨rfl,?_⟩
  conv=>whnf
  exact⟨by congr 1;show _=((min 36524 (s+c*7):Nat):Int);omega,b.lg⟩
 .subst Q;have H:((k % 12+1:Nat):Int)+((c:Int)-1)=((k % 12+c:Nat):Int):=O1
  have I:IntKind.wrap .i64 (((k % 12+c:Nat):Int).tdiv 12)=(((k % 12+c) / 12:Nat):Int):=NV _ 12 O1;have K:((k % 12+c:Nat):Int).tmod 12=(((k % 12+c) % 12:Nat):Int):=Ou _ 12;have L:((2000+k / 12:Nat):Int)+(((k % 12+c) / 12:Nat):Int)=((2000+(k+c) / 12:Nat):Int):=O1
  have M:(((k % 12+c) % 12:Nat):Int)+1=(((k+c) % 12+1:Nat):Int):=O1
  refine⟨rfl,rfl,Er.any,(zT (h.lg b.lg) k d E P).go λ _=>?_⟩;refine⟨_,e.sees3 (o:=0) rfl,I1,?_⟩;refine⟨I1,?_⟩;rw[H];refine⟨rfl,D1,?_⟩;rw[I];refine⟨I1,?_⟩;rw[L];refine⟨rfl,D1,?_⟩;rw[K];refine⟨I1,?_⟩;rw[M]
  repeat refine⟨rfl,?_⟩
  conv=>whnf
  apply Qd<;>intro w
  .have h1:1200<=k+c:=by
    have:((2000+(k+c) / 12:Nat):Int) > 2099:=by simpa using w
    omega
   repeat refine⟨rfl,?_⟩
   conv=>whnf
   exact⟨by congr 1;show _=((X0 k d c:Nat):Int);unfold X0;rw[if_pos h1];rfl,b.lg⟩
  .have h1:¬1200<=k+c:=by
    have:¬((2000+(k+c) / 12:Nat):Int) > 2099:=by simpa using w
    omega
   have z:ZL (k+c)=ZN ((k+c) / 12) ((k+c) % 12):=rfl;have T:=O5 (k+c);have N:min ((d+1:Nat):Int) ((ZN ((k+c) / 12) ((k+c) % 12):Nat):Int)=((min (d+1) (ZL (k+c)):Nat):Int):=by rw[z];omega
   refine⟨Ve.any,(K0 (h.lg b.lg) ((k+c) / 12) ((k+c) % 12) O1 O1).go λ _=>?_⟩
   conv=>whnf
   refine O7 rfl rfl ?_;rw[N];refine⟨Es.any,(zt (h.lg b.lg) ((k+c) / 12) ((k+c) % 12) (min (d+1) (ZL (k+c))) O1 O1 O1).go λ _=>?_⟩
   repeat refine⟨rfl,?_⟩
   refine⟨?_,b.lg⟩;congr 1;show _=((X0 k d c:Nat):Int);unfold X0;rw[if_neg h1];unfold Wt;omega
end Go.Proofs
namespace Go.TM
variable{T:Type}{U U':Qa T}
def G1(U:Qa T)(X:List Qw)(b:Nat)(n:Nat)(M₀:List Qw):Prop:=U.M=X++.obj b (.cells #[.int .i64 n] 3 (0,0))::M₀
def G1.reads{X:List Qw}{b n:Nat}{M₀:List Qw}(h:G1 U X b n M₀):Z6 U ⟨b,0,none⟩ [.int .i64 n]:=Q9 X h
end Go.TM
namespace Go.Proofs
open Go.TM
variable{T:Type}{S:TM.Sys Tryz.prog T}{U:Qa T}
attribute [local irreducible] Qb Zh Wh
def Ak(s:Int×Int){z:Nat}(n:Nat)(E:Z6 U ⟨z,0,none⟩ [.int .i64 n]):Qb S 100 #[Ps s,.pointer (some ⟨z,0,none⟩)] (λ v U'=>v=.bool (Ws n s.1 s.2)/\U'=U) U:=by
 refine Qb.pure' (Qb.of (args:=[_,_]) LH Qe S1 ?_);obtain⟨a,b⟩:=s
 repeat refine⟨rfl,?_⟩
 conv=>whnf
 intro B w e h;have h:Zf w B #[.int .i64 a,.int .i64 b]:=h;refine⟨_,(E.lg e.lg) 0 _ rfl,_,h.sees3 (o:=0) rfl,_,h.sees3 (o:=1) rfl,GO.any,(PB w n a b).go λ _=>?_⟩
 repeat refine⟨rfl,?_⟩
 conv=>whnf
 first|exact e.lg|exact⟨rfl,e.lg⟩
def zS{h:CH}{c:QV}(I:X4 U.frz h c){bc:Nat}(ab:Zf U bc #[.slice h.wa h.wl h.wc,.slice h.sa h.sl h.sc]){X M₀:List Qw}{Q:Nat}(d:Nat)(hd:d<=36524)(hM:G1 U X Q d M₀){l:Nat}{E:Qa T->Prop}
  (hY:∀H K,U.frz.lg H->G1 H X Q (QC c.open d) M₀->(∀P,E P->K (.bool false) P)->Zh S l [.int .i64 (QC c.open d:Nat)] K H) :
  Qb S 99 #[.func (.yield l) #[] #[],.pointer (some ⟨Q,0,none⟩),.pointer (some ⟨bc,0,none⟩)] (λ _ U'=>E U'\/(QC c.open d=36524/\U.frz.lg U'/\∃n,G1 U' X Q n M₀)) U:=by
 refine Qb.of (args:=[_,_,_]) Ed Qe S1 ?_;have ad:=I.wd.1;have aa:=I.wl;refine⟨Nat,λ _=>[(0,.func (.yield l) #[] #[]),(1,.pointer (some ⟨Q,0,none⟩)),(2,.pointer (some ⟨bc,0,none⟩))],λ n U'=>U.frz.lg U'/\n<=36525/\QC c.open d=QC c.open n/\G1 U' X Q n M₀,λ n=>36525-n,d,T1,⟨Qm,O1,rfl,hM⟩,?_⟩;rintro n f H⟨w,hn,e,b⟩;have W:Ze ((n:Int)+1):=I1
 have Y:Ze ((n:Int)+5):=I1
 have e5:(n:Int)+5=((n+5:Nat):Int):=O1
 have e7:((n+5:Nat):Int).tmod 7=(((n+5) % 7:Nat):Int):=Ou _ 7;have N:X4 H h c:=(I.lg (w.frz2)).lg Qm;have M:Zf H bc #[.slice h.wa h.wl h.wc,.slice h.sa h.sl h.sc]:=ab.imI w.imm;refine⟨_,b.reads 0 _ rfl,Vc.any,(VY H n).go λ _=>?_⟩;cases L:JH n with
 |false=>
  have h1:36524<n:=by
   unfold JH Ws at L;rcases Nat.lt_or_ge 36524 n with l|l
   .exact l
   .simp at L;omega
  rw[OB _ h1]at e
  repeat refine⟨rfl,?_⟩
  conv=>whnf
  exact .inr ⟨e,w,n,b⟩
 |true=>
  have h1:n<=36524:=by
   unfold JH Ws at L;simp at L;omega
  rw[Db h1]at e;have ko:c.open n=!(c.wd.contains (((n+5) % 7:Nat):Int)|| c.sp.any λ s=>Ws (n:Int) s.1 s.2):=rfl;have ac:∀{P:Qa T},P=H->True:=λ _=>trivial;refine⟨_,M.sees3 (o:=0) rfl,_,b.reads 0 _ rfl,Y,?_⟩;rw[e5];refine⟨rfl,D1,?_⟩;rw[e7];refine⟨Y5.any,(OW h.wa h.wl h.wc c.wd N.wd aa (((n+5) % 7:Nat):Int)).go λ _=>?_⟩;cases V:c.wd.contains (((n+5) % 7:Nat):Int)with
  |true=>
   have F:c.open n=false:=by rw[ko,V];rfl
   rw[F,if_neg S1]at e
   repeat refine⟨rfl,?_⟩
   refine⟨_,b.reads 0 _ rfl,W,rfl,Jt (vs:=[.int .i64 ((n:Int)+1)]) X b rfl (by simp[Value.single]) λ P z G B=>?_⟩
   conv=>whnf
   exact⟨rfl,n+1,T1,⟨⟨λ x o hx=>by rw[z];exact w.imm x o hx,⟨_,(append_nil _).symm⟩,G.trans w.tok⟩,O1,e,B⟩,L1⟩
  |false=>
   refine⟨_,M.sees3 (o:=1) rfl,Sk.any,(FQ h.sa h.sl h.sc c.sp N.sp I.sl 100 #[] #[.pointer (some ⟨Q,0,none⟩)] (λ s=>Ws (n:Int) s.1 s.2) ⟨LH.any,λ s _=>Ak s n b.reads⟩).go λ _=>?_⟩;cases Z:c.sp.any λ s=>Ws (n:Int) s.1 s.2 with
   |true=>
    have F:c.open n=false:=by rw[ko,V,Z];rfl
    rw[F,if_neg S1]at e
    repeat refine⟨rfl,?_⟩
    refine⟨_,b.reads 0 _ rfl,W,rfl,Jt (vs:=[.int .i64 ((n:Int)+1)]) X b rfl (by simp[Value.single]) λ P z G B=>?_⟩
    conv=>whnf
    exact⟨rfl,n+1,T1,⟨⟨λ x o hx=>by rw[z];exact w.imm x o hx,⟨_,(append_nil _).symm⟩,G.trans w.tok⟩,O1,e,B⟩,L1⟩
   |false=>
    have F:c.open n=true:=by rw[ko,V,Z];rfl
    rw[F,if_pos rfl]at e;rw[e]at hY;refine⟨_,b.reads 0 _ rfl,?_⟩
    conv=>whnf
    refine hY H _ w b λ P hE=>?_
    repeat refine⟨rfl,?_⟩
    conv=>whnf
    exact .inl hE
def Rw(h:CH)(d:Nat):Qb S 64 #[h.v,.int .i64 d] (λ v U'=>∃w e,v=.func (.func 99) #[] #[.pointer (some ⟨w,0,none⟩),.pointer (some ⟨e,0,none⟩)]/\Zf U' e #[.slice h.wa h.wl h.wc,.slice h.sa h.sl h.sc]/\U.frz.lg U'/\G1 U' [] w d U.M) U:=by
 refine Qb.of (args:=[_,_]) Ep Qe S1 ?_
 repeat refine⟨rfl,?_⟩
 conv=>whnf
 intro e E z b;have b:Zf E e #[.slice h.wa h.wl h.wc,.slice h.sa h.sl h.sc]:=b
 conv=>whnf
 intro w F;have B:=Z2 (U:=E) w (.cells #[.int .i64 d] 3)
 repeat refine⟨rfl,?_⟩
 conv=>whnf
 exact⟨w,e,rfl,b.lg B,z.lg.frz.trans B,by show _::E.M=_;rw[z.own];rfl⟩
def zP(h:CH)(c:QV)(ac:X4 U.frz h c)(d:Nat)(hd:d<=36524):Qb S 33 #[h.v,.int .i64 d] (λ v U'=>v=.int .i64 (QC c.open d:Nat)/\U'=U) U:=by
 refine Qb.pure' (Qb.of (args:=[_,_]) E2 Qe S1 ?_)
 repeat refine⟨rfl,?_⟩
 conv=>whnf
 intro B U1 Y hB;have hB:Zf U1 B #[.slice h.wa h.wl h.wc,.slice h.sa h.sl h.sc]:=hB
 conv=>whnf
 intro N ae;refine⟨_,.refl _,?_⟩;have aa:=Z2 (U:=U1) N (.cells #[.int .i64 0] 3);refine⟨_,⟨rfl,(hB.lg aa).rd⟩,?_⟩;refine⟨Ep.any,(Rw h d).mono ?_⟩;rintro _ L⟨H,bc,rfl,ab,Z,G⟩-;have w:U.frz.lg L:=Y.lg.frz2.trans (aa.frz2.trans Z)
 have G:L.M=.obj H (.cells #[.int .i64 d] 3 (0,0))::.obj N (.cells #[.int .i64 0] 3 (0,0))::U.M:=by
  have:L.M=_::(U1.put N (.cells #[.int .i64 0] 3)).M:=G;rw[this];show _::_::U1.M=_;rw[Y.own]
 have ad:∀{Q:Qa T},L.frz.lg Q->X4 Q.frz h c:=λ k=>ac.lg (w.frz2.trans k.frz2)
 conv=>whnf
 refine Nl Qe rfl rfl Ed.any λ l z lo af ag ah hR=>?_;have P:L.frz.lg { L with M:=.obj l (lo .ready none)::.obj z (.deferred (some []))::L.M }:=⟨λ _ _ h=>h,⟨_,(append_nil _).symm⟩,rfl⟩
 refine(zS (c:=c) (ad P) (ab.imI P.imm) (X:=[.obj l (lo .ready none),.obj z (.deferred (some []))]) (M₀:=.obj N (.cells #[.int .i64 0] 3 (0,0))::U.M) d hd (by show _::_::L.M=_;rw[G];rfl)
  (E:=λ Q=>L.frz.lg Q/\∃n,Q.M=.obj l (lo .done (some .ret))::.obj z (.deferred (some []))::.obj H n::.obj N (.cells #[.int .i64 (QC c.open d:Nat)] 3 (0,0))::U.M) λ Q K b e hK=>?_).mono ?_
 .refine hR _ K _ rfl (by rw[e];exact mem_cons_self ..) ?_;refine⟨rfl,.obj l (lo .busy none)::.obj z (.deferred (some []))::.obj H (.cells #[.int .i64 (QC c.open d:Nat)] 3 (0,0))::.obj N (.cells #[.int .i64 0] 3 (0,0))::U.M,by rw[e];exact .here,?_⟩;refine⟨rfl,Jt (vs:=[.int .i64 (QC c.open d:Nat)]) [.obj l (lo .busy none),.obj z (.deferred (some [])),.obj H (.cells #[.int .i64 (QC c.open d:Nat)] 3 (0,0))] rfl rfl (by simp[Value.single]) λ U4 F W V=>?_⟩;refine⟨.obj l (lo .done (some .ret))::.obj z (.deferred (some []))::.obj H (.cells #[.int .i64 (QC c.open d:Nat)] 3 (0,0))::.obj N (.cells #[.int .i64 (QC c.open d:Nat)] 3 (0,0))::U.M,by rw[V];exact .here,hK _ ⟨⟨λ x o hx=>?_,⟨_,(append_nil _).symm⟩,W.trans b.tok⟩,_,rfl⟩⟩;show U4.I x=some o;rw[F];exact b.imm x o hx
 .rintro v Q (⟨b,n,e⟩|⟨hn,b,n,e⟩) -
  .refine⟨.done,some .ret,.obj l (lo .exhausted (some .ret))::.obj z (.deferred (some []))::.obj H n::.obj N (.cells #[.int .i64 (QC c.open d:Nat)] 3 (0,0))::U.M,S1,by rw[e];exact .here,?_⟩;refine⟨_,.there .here,_,Q9 (vs:=[.int .i64 (QC c.open d:Nat)]) [.obj l (lo .exhausted (some .ret)),.obj z (.deferred none),.obj H n] rfl 0 _ rfl,?_⟩
   repeat refine⟨rfl,?_⟩
   conv=>whnf
   exact⟨λ x o hx=>b.imm x o (w.imm x o hx),⟨[_,_,_,_],rfl⟩,b.tok.trans w.tok⟩
  .refine⟨.ready,none,.obj l (lo .exhausted none)::.obj z (.deferred (some []))::.obj H (.cells #[.int .i64 n] 3 (0,0))::.obj N (.cells #[.int .i64 0] 3 (0,0))::U.M,S1,by rw[e];exact .here,?_⟩;refine⟨rfl,Jt (vs:=[.int .i64 36524]) [.obj l (lo .exhausted none),.obj z (.deferred (some [])),.obj H (.cells #[.int .i64 n] 3 (0,0))] rfl rfl (by simp[Value.single]) λ U4 F W V=>?_⟩;refine⟨_,by rw[V];exact .there .here,?_⟩;refine⟨_,Q9 (vs:=[.int .i64 36524]) [.obj l (lo .exhausted none),.obj z (.deferred none),.obj H (.cells #[.int .i64 n] 3 (0,0))] rfl 0 _ rfl,?_⟩;rw[hn]
   repeat refine⟨rfl,?_⟩
   conv=>whnf
   exact⟨λ x o hx=>by show U4.I x=_;rw[F];exact b.imm x o (w.imm x o hx),⟨[_,_,_,_],rfl⟩,W.trans (b.tok.trans w.tok)⟩
end Go.Proofs

