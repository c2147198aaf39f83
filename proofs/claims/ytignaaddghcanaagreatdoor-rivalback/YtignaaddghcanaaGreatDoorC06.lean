/- Lemmas. No conditions. -/
import Derived.Test.YtignaaddghcanaaGreatDoorC01
import Derived.Test.YtignaaddghcanaaGreatDoorC05
import Derived.Test.YtignaaddghcanaaGreatDoorC02
import Derived.Test.YtignaaddghcanaaGreatDoorB38
set_option linter.all false
set_option maxRecDepth 100000
set_option maxHeartbeats 1000000
open List
open Go.Proofs.Tryz (prog)
noncomputable section
namespace Go.TM
open Go.Proofs
variable{T:Type}{S:Sys prog T}{U:Qa T}{b:Nat}{lv v:Value}{M₀:List Qw}{r y:ByteArray}
section
attribute [local irreducible] Qb Zp Wv
def Zfu:prog.underlying 61=some (.pointer 64):=K1
def Zqd:prog.underlying 188=some .unsafePointer:=K1
def Znm:prog.underlying 62=some (.slice 5):=K1
def Ztt:prog.underlying 140=some (.pointer 5):=K1
def Zrf:X3 prog 62 5 1:=.of K1
def Zu9:Jr prog 64=some 2:=K1
def Zso:liesAt prog prog.depth 64 (2 / prog.cellsOf 64) 0 64 1=true:=K1
def Zsb:prog.cellsOf 5=1:=K1
def Zti:Extern.findNext Tryz.f103=none:=K1
def Zux:Extern.find Tryz.f103=some Go.Extern.AbiNoEscape.same:=K1
def Q34(E:lv=.pointer none\/lv=.pb b)(X:List Qw)(h:U.M=X++.cl b [lv,v] 64::M₀) :
  Qb S 67 #[.pb b] (λ _ U'=>U'.I=U.I/\U'.tok=U.tok/\U'.M=X++.cl b [.pb b,v] 64::M₀) U:=by
 refine Qb.of (args:=[_]) Zp8 Qf S1 ?_;obtain⟨H,z,F⟩:=HR Zu9;have f:U.has b (.cells [lv,v].toArray 64 (0,0)):=.inr (by rw[h];simp);rcases E with rfl|rfl
 .refine⟨_,(Q9 X h).cell (i:=0) rfl,?_⟩
  conv=>whnf
  refine Zql Zfu rfl ?_
  conv=>whnf
  refine Zr7 Zfu Zqd z O1 rfl S1 ⟨_,f⟩ ?_
  conv=>whnf
  refine Zqk (v:=.pb b) Tryz.func103 rfl Zti Zux rfl ?_
  conv=>whnf
  refine Zr6 Zfu Zqd z rfl Zso ⟨_,f⟩ ?_;refine⟨rfl,WJ (i:=0) X h S1 rfl λ K B G w=>?_⟩
  repeat refine⟨rfl,?_⟩
  conv=>whnf
  exact⟨B,G,w⟩
 .refine⟨_,(Q9 X h).cell (i:=0) rfl,?_⟩
  conv=>whnf
  refine Zql Zfu rfl ?_;refine⟨_,(Q9 X h).cell (i:=0) rfl,?_⟩
  conv=>whnf
  refine Ztx Zfu z O1 rfl rfl ?_
  conv=>whnf
  exact⟨rfl,rfl,h⟩
structure Bld{T:Type}(U:Qa T)(b:Nat)(s:ByteArray)(M₀:List Qw):Prop where
 ex:∃(p v:Value)(R:List Qw),(p=.pointer none\/p=.pb b)/\Js 5 1 v (Q33 s) R/\(0<Zwm v\/v=.nl)/\U.M.Perm (R++.cl b [p,v] 64::M₀)
def Bld.le{U U':Qa T}{b:Nat}{s:ByteArray}{M₀:List Qw}(h:Bld U b s M₀)(k:U.le U'):Bld U' b s M₀:=by
 obtain⟨p,v,R,f,w,z,B⟩:=h;exact⟨p,v,R,f,w,z,by rw[k.own];exact B⟩
def Qf1(h:Bld U b r M₀)(Y:r.size+y.size<=1048576) :
  Qb S 26 #[.pb b,.string y] (λ _ U'=>Bld U' b (r++y) M₀/\U.frz.lg U'.frz) U:=by
 obtain⟨p,v,R,Z,Q,z,X⟩:=h;refine Qb.shift (W3 X) (Qb.of (args:=[_,_]) Zm8 Qf S1 ?_);refine⟨Zp8.any,(Q34 Z R rfl).mono ?_⟩;rintro _ W⟨B,L,f⟩-;obtain⟨T,vl,V,rfl,-⟩:=Q.src;refine⟨_,(Q9 R f).cell (i:=1) rfl,?_⟩
 conv=>whnf
 refine Zw1 (v:=.slice T vl V) (cs:=Q33 r) (M₀:=.cl b [.pb b,.slice T vl V] 64::M₀) Zrf vb rfl rfl (by rw[f];exact Q _) (by rw[Znk];exact Y) (λ v' M' H K=>?_) z;obtain⟨R',F,w⟩:=H.split;obtain⟨xa,xl,xc,rfl,-⟩:=w.src;refine⟨rfl,WJ (i:=1) R' F S1 rfl λ P E N G=>?_⟩
 repeat refine⟨rfl,?_⟩
 refine⟨⟨_,_,R',.inr rfl,by rw[Zw7];exact w,K,?_⟩,⟨λ x o hx=>by show P.I x=_;rw[E];show W.I x=_;rw[B];exact hx,⟨[],rfl⟩,by show P.tok=_;rw[N];exact L⟩⟩;rw[G];exact Perm.refl _
def Zrp(h:Bld U b r M₀):Qb S 31 #[.pb b] (λ v U'=>v=.int .i64 r.size/\Bld U' b r M₀/\U.frz.lg U'.frz) U:=by
 obtain⟨p,v,R,E,z,f,B⟩:=h;refine Qb.shift (W3 B) (Qb.of (args:=[_]) Zse Qf S1 ?_);obtain⟨F,vl,G,rfl,w⟩:=z.src;rw[Znk,Nat.mul_one]at w;refine⟨_,(Q9 R rfl).cell (i:=1) rfl,?_⟩
 repeat refine⟨rfl,?_⟩
 conv=>whnf
 exact⟨by rw[w],⟨p,_,R,E,z,f,Perm.refl _⟩,⟨λ _ _ h=>h,⟨[],rfl⟩,rfl⟩⟩
def Zky(h:Bld U b r M₀)(W:r.size<2^60):Qb S 32 #[.pb b] (λ v U'=>v=.string r/\U'.M=M₀/\U.frz.lg U'.frz) U:=by
 obtain⟨p,v,R,hp,I,z,Q⟩:=h;refine Qb.shift (W3 Q) (Qb.post (R:=λ v U'=>v=.string r/\(∃X,U'.M=X++M₀)/\U.frz.lg U'.frz) (Qb.of (args:=[_]) Zp6 Qf S1 ?_) ?_)
 .obtain⟨va,vl,vc,rfl,hvl⟩:=I.src;rw[Znk,Nat.mul_one]at hvl;refine⟨_,(Q9 R rfl).cell (i:=1) rfl,?_⟩;refine⟨_,(Q9 R rfl).cell (i:=1) rfl,?_⟩
  conv=>whnf
  refine⟨λ v U'=>v=.pointer va,λ v Z G F _=>F,λ U' V _=>?_,λ v F=>?_⟩
  .conv=>whnf
   refine Zq2 rfl (λ T=>?_) ⟨U',.refl _,rfl,.refl _⟩;rcases z with h|h
   .exact Nat.ne_of_gt h
   .cases h;cases T
  obtain⟨_,-,-,rfl⟩:=F
  conv=>whnf
  intro G f hC
  conv=>whnf
  have K:U.frz.lg G.frz:=⟨λ x o Y=>f.imm x o Y,⟨[],rfl⟩,f.tok⟩;rcases I (.cl b [p,.slice va vl vc] 64::M₀)with⟨B,H,w⟩|⟨L,c,len,cap,B,H,e3,e4,w,N⟩
  .cases B;have P:r.size=0:=by rw[<- Znk,H];rfl
   have E:r=ByteArray.empty:=ByteArray.ext (Array.eq_empty_of_size_eq_zero P);subst E;refine Zqm rfl rfl ?_
   conv=>whnf
   exact⟨rfl,⟨R++[.cl b [p,.nl] 64],by rw[f.own];simp⟩,K⟩
  .cases B;refine Zq3 (M':=.cl b [p,.slice (some ⟨L,0,none⟩) vl vc] 64::M₀) Ztt Zsb rfl rfl hvl.symm O1 W (by rw[f.own];exact w) N ?_
   conv=>whnf
   exact⟨rfl,⟨[_],rfl⟩,K⟩
 .rintro v U' ⟨rfl,⟨X,hX⟩,hlg⟩;exact⟨{ U' with M:=M₀ },Zz (by rw[hX];exact sublist_append_right ..),rfl,rfl,hlg⟩
end
def Zo0:List (List (Nat×St)):=[[(0,.m 5 0),(0,⟨.nilc (.t 5),some 6,none,none⟩),(0,.xo 7 1 6),(0,.xl 8 7),(0,.m 11 1),(0,.m 14 0),(0,⟨.nilc (.t 14),some 15,none,none⟩),(0,.xo 16 1 15),(0,.xl 17 16),(0,.xn 18 17),(2,.d 9 (.rw (.call { callee:=.builtin .cap,args:=#[(.t 8)],argTypes:=#[62] }) 3)),(0,⟨.mul (.ci 2) (.t 9),some 10,none,none⟩),(0,.d 12 (.add (.t 10) (.t 11))),(2,.d 13 (.rw (.call { callee:=.value (.func 141),args:=#[(.t 12)],argTypes:=#[3] }) 62))]]
def Zry:List St:=[.d 19 (.sub3 1 (.t 13) none (some (.t 18))),.m 4 19]
variable{n:Nat}{j:Value->Qa T->Prop}
section
attribute [local irreducible] Qb Zp Wv
def Ztj:Extern.findNext Tryz.f141=none:=K1
def Zuy:Extern.find Tryz.f141=some (Go.Extern.BytealgMakeNoZero.makeNoZero #[3] #[62]):=K1
def Zpi:∀(n t:Nat)(acc:Array Value),(Go.Extern.BytealgMakeNoZero.digits n t acc).size=acc.size+n
 |0,_,acc=>rfl
 |n+1,t,acc=>by rw[Go.Extern.BytealgMakeNoZero.digits,Zpi n];simp;omega
def Zvo(G:n<=1048576)(h:∀(b cap:Nat)(c:Array Value),U.free b->n<=cap->c.size=cap->j (.slice (some ⟨b,0,none⟩) n cap) (U.put b (.cells c 5))) :
  Qq prog (Go.Extern.BytealgMakeNoZero.makeNoZero #[3] #[62] #[.int .i64 n]) j U:=by
 have w:Go.Extern.BytealgMakeNoZero.makeNoZero #[3] #[62] #[.int .i64 n] =
   (do
    let .slice elem <- underlying 62|stuck "bytealg.MakeNoZero: slice type expected"
    if(n:Int)<0|| (n:Int) > 2^48 then runtimePanic (.error "makeslice: len out of range")
    let cap <- choose (.appendCap (n:Int).toNat 0 elem)
    askRoom cap
    let bytes <- choose (.extern "internal/bytealg.MakeNoZero.bytes" 0)
    let a <- newRow elem (Go.Extern.BytealgMakeNoZero.digits cap bytes #[])
    pure (.slice (some a) (n:Int).toNat cap)):=rfl
 rw[w,Qd,Ze Znm];have B:¬(n:Int)<0:=O1
 have E:¬(281474976710656:Int)<(n:Int):=O1
 simp[B,E,Qd,choose];intro z;show Qq _ _ _ U;have f:n<=Question.cut (.appendCap n 0 5) z:=by simp only[Question.cut];omega
 refine PG ?_
 have fin:∀bytes,Qq prog (Functor.map (λ a=>Value.slice (some a) n (Question.cut (.appendCap n 0 5) z)) (newRow 5 (Go.Extern.BytealgMakeNoZero.digits (Question.cut (.appendCap n 0 5) z) bytes #[]))) j U:=λ bytes=>by
  show Qq prog (newRow 5 _ >>= λ a=>pure (Value.slice (some a) n (Question.cut (.appendCap n 0 5) z))) j U;rw[Qd];exact Jg λ b F=>h b _ _ F f (by rw[Zpi];simp)
 simp only[Qq];split
 .exact fin _
 .exact λ t=>fin _
def Zte:(if n=0 then some (Addr.mk b 0 none)else(some (Addr.mk b 0 none)).map (·.add (0*1)))=some ⟨b,0,none⟩:=by
 split
 .rfl
 .rfl
def Zrw(hn:0<n)(W:n<=1048576)(T:U.M=.cl b [lv,.nl] 64::M₀) :
  Qb S 104 #[.pb b,.int .i64 n] (λ _ U'=>(∃(f cap:Nat)(c:Array Value),n<=cap/\c.size=cap/\U'.M=.obj f (.cells c 5 (0,0))::.cl b [lv,.slice (some ⟨f,0,none⟩) 0 cap] 64::M₀)/\U.frz.lg U'.frz) U:=by
 refine Qb.of (args:=[_,_]) Zq6 Qf S1 ?_
 conv=>whnf
 intro ac w
 refine xB (mu:=[1000]) (ops:=GO Tryz.f104 0) (id:=0) w [4,8] [[0,1,2,3,6,9,10,11,12,13,4,5,7,8]] [14,15] Zo0 Zry Qf K1 K1 K1 K1 K1
  (λ f' L U'=>L=[]/\∃(f cap:Nat)(c:Array Value),Xr f' [(0,.pb b),(13,.slice (some ⟨f,0,none⟩) n cap),(18,.int .i64 0)]/\n<=cap/\c.size=cap/\U'.M=.obj f (.cells c 5 (0,0))::U.M/\U.frz.lg U'.frz) U (λ U' h=>h.lg) ?_ ?_
 .intro l' hl';simp only[Zo0,mem_cons,not_mem_nil,or_false]at hl';subst hl';refine⟨_,(Q9 [] T).cell (i:=1) rfl,_,(Q9 [] T).cell (i:=1) rfl,λ v U'=>v=.int .i64 0/\U.le U',λ v U1 Q⟨e,h⟩H=>⟨e,h.trans H⟩,λ v U'⟨_,h⟩=>h.lg,λ U' F=>?_,λ v X=>?_⟩
  .have F:U.le U':=F
   conv=>whnf
   exact Zub Znm rfl ⟨U',.refl _,rfl,F⟩
  obtain⟨_,rfl,-⟩:=X
  repeat refine⟨rfl,?_⟩
  refine⟨I1,?_⟩;refine⟨I1,?_⟩;rw[show(2*0+(n:Int))=n by omega];refine⟨λ v U'=>∃(f cap:Nat)(c:Array Value),v=.slice (some ⟨f,0,none⟩) n cap/\n<=cap/\c.size=cap/\U'.M=.obj f (.cells c 5 (0,0))::U.M/\U.frz.lg U'.frz,λ v U1 Q⟨f,cap,c,e,z,B,K,E⟩H=>⟨f,cap,c,e,z,B,H.own.trans K,E.trans (Qa.le.lg H).frz2⟩,λ v U'⟨f,cap,c,e,z,B,K,E⟩=>⟨E.imm,⟨[_],K⟩,E.tok⟩,λ U' F=>?_,λ v X=>?_⟩
  .obtain⟨-,F⟩:=F
   conv=>whnf
   refine Zud Tryz.func141 rfl Ztj Zuy ?_;refine Zvo W λ f cap c ab z B=>?_;exact⟨_,.refl _,_,.refl _,f,cap,c,rfl,z,B,by show _::U'.M=_;rw[F.own],⟨F.imm,⟨[],rfl⟩,F.tok⟩⟩
  obtain⟨_,f,cap,c,rfl,z,B,-⟩:=X
  conv=>whnf
  rintro U'⟨aa,Z,c',e,z,B,K,E⟩;cases e;exact⟨rfl,f,cap,c',T1,z,B,K,E⟩
 rintro f' L Q⟨rfl,f,cap,c,P,z,B,K,E⟩;rw[<- P.ovr];clear P;refine⟨0,0,⟨rfl,rfl,O1,O1⟩,?_⟩;rw[Zte,Nat.sub_zero,Nat.sub_zero]
 conv=>whnf
 intro a' G;refine⟨by rw[G.size,w.size],_,G.get,?_⟩;rw[G.ds];clear G w;have N:Q.M=[.obj f (.cells c 5 (0,0))]++.cl b [lv,.nl] 64::M₀:=by rw[K,T];rfl
 refine⟨_,(Q9 [_] N).cell (i:=1) rfl,?_⟩
 conv=>whnf
 obtain⟨ad,-,hi,-⟩:=Zrf.i;refine Zvj Znm hi rfl rfl ?_;refine⟨rfl,WJ (i:=1) [.obj f (.cells c 5 (0,0))] N S1 rfl λ Y hI ht V=>?_⟩;refine⟨⟨f,cap,c,z,B,V⟩,⟨λ x o hx=>by show Y.I x=_;rw[hI];exact E.imm x o hx,⟨[],rfl⟩,by show Y.tok=_;rw[ht];exact E.tok⟩⟩
def Zrq(G:n<=1048576)(N:U.M=.cl b [.pointer none,.nl] 64::M₀) :
  Qb S 68 #[.pb b,.int .i64 n] (λ _ U'=>Bld U' b ByteArray.empty M₀/\U.frz.lg U'.frz) U:=by
 refine Qb.of (args:=[_,_]) Zsl Qf S1 ?_;refine⟨Zp8.any,(Q34 (.inl rfl) [] N).mono ?_⟩;rintro _ K⟨E,H,h⟩-;have f:U.frz.lg K.frz:=⟨λ x o B=>by show K.I x=_;rw[E];exact B,⟨[],rfl⟩,H⟩
 repeat refine⟨rfl,?_⟩
 refine⟨_,(Q9 [] h).cell (i:=1) rfl,.int .i64 0,λ U' Q _=>?_,?_⟩
 .conv=>whnf
  exact Zub Znm rfl ⟨rfl,U',.refl _,.refl _⟩
 refine⟨_,(Q9 [] h).cell (i:=1) rfl,I1,?_⟩
 conv=>whnf
 intro T w _;have h:=w.own.trans h;have f:=f.trans w.lg.frz2
 repeat refine⟨rfl,?_⟩
 conv=>whnf
 apply Qg<;>intro P
 .have hn:0<n:=by
   have:(0:Int)<n:=by simpa using P
   omega
  refine⟨Zq6.any,(Zrw hn G h).mono ?_⟩;rintro _ V⟨⟨L,cap,c,W,X,F⟩,z⟩-;refine⟨⟨_,_,[.obj L (.cells c 5 (0,0))],.inr rfl,Js.ofBlk (len:=0) (cap:=cap) (by rw[Ztc];rfl) O1 O1 (λ i x B=>by rw[Ztc]at B;cases B),.inl (by show 0<cap;omega),?_⟩,f.trans z⟩;rw[F];exact Perm.refl _
 .conv=>whnf
  exact⟨⟨_,_,[],.inr rfl,.nil,.inr rfl,by rw[h]⟩,f⟩
end
variable{a:Option Addr}{s:List ByteArray}
def Qi9(U:Qa T)(a:Option Addr)(len:Nat)(l:List ByteArray):Prop:=Q8 U a len 1 l λ s vs=>vs=[.string s]
def Ztu(sep:ByteArray)(l:List ByteArray)(x:ByteArray)(h:l≠[]):Qal sep (l++[x])=Qal sep l++sep++x:=by
 cases l with
 |nil=>exact absurd rfl h
 |cons a r=>simp[Qal]
def Zqj(sep:ByteArray){m k:Nat}(f:sep.size<=k):∀(r:List ByteArray)(a:ByteArray),(∀s∈r,s.size<=m)->(r.foldl (λ x s=>x++sep++s) a).size<=a.size+r.length*(m+k)
 |[],a,_=>S1
 |s::r,a,h=>by
  have z:=h s (mem_cons_self ..);have b:=Zqj sep f r (a++sep++s) (λ x w=>h x (mem_cons_of_mem _ w));rw[ByteArray.size_append,ByteArray.size_append]at b;simp only[foldl_cons,length_cons,Nat.add_mul,Nat.one_mul];omega
def Qi9.get(h:Qi9 U a n s){i:Nat}(E:i<n):∃b x,s[i]?=some x/\a=some b/\U.sees (b.add (i*1)) (.string x)/\b.spot=none:=by
 obtain⟨b,x,vs,w,z,f,rfl,-,B⟩:=Q8.at h E;exact⟨b,x,w,z,by simpa[Addr.add]using B 0 _ rfl,f⟩
def Qi9.lg{T:Type}{U U':Qa T}{a:Option Addr}{len:Nat}{l:List ByteArray}(h:Qi9 U a len l)(k:U.lg U'):Qi9 U' a len l:=Q8.lg h k λ _ _ h=>h
variable{x:ByteArray}{P:Program}{t:TypeId}
section
attribute [local irreducible] Qb Zp Wv
def Zow(a:Option Addr)(len cap:Nat)(l:List ByteArray)(Y:Qi9 U.frz a len l)(aj:len<=100)(X:len<=cap)(hs:∀s∈l,s.size<=1000)(sep:ByteArray)(K:sep.size=1) :
  Qb S 27 #[.slice a len cap,.string sep] (λ v U'=>v=.string (Qal sep l)/\U.le U') U:=by
 refine Qb.of (args:=[_,_]) Zp4 Qf S1 ?_;have T:l.length=len:=Y.1
 repeat refine⟨rfl,?_⟩
 conv=>whnf
 apply Qg<;>intro w
 .have h0:len=0:=by simpa using w
  obtain rfl:l=[]:=eq_nil_of_length_eq_zero O1
  conv=>whnf
  exact⟨rfl,.refl _⟩
 have an:len≠0:=by simpa using w
 clear w
 repeat refine⟨rfl,?_⟩
 conv=>whnf
 apply Qg<;>intro w
 .have h1:len=1:=by
   have:(len:Int)=1:=by simpa using w
   omega
  obtain⟨P,x,G,rfl,z,-⟩:=Y.get (i:=0) O1;refine⟨P,0,⟨rfl,rfl,O1⟩,_,z.lg Qr,?_⟩
  conv=>whnf
  obtain⟨y,rfl⟩:=length_eq_one_iff.1 (T.trans h1);simp at G;subst G;exact⟨rfl,.refl _⟩
 have ak:len≠1:=by
  intro e;subst e;simp at w
 clear w
 obtain⟨a_0,r,rfl⟩:∃a_0 r,l=a_0::r:=by
  cases l with
  |nil=>simp at T;omega
  |cons a_0 r=>exact⟨a_0,r,rfl⟩
 have ao:r.length+1=len:=by simpa using T
 repeat refine⟨rfl,?_⟩
 conv=>whnf
 apply Qg<;>intro w
 rotate_left
 .rw[K]at w;simp at w
 clear w
 have hq:(9223372036854775807:Int).tdiv ((len:Int)-1) > 1:=by
  have e:(len:Int)-1=((len-1:Nat):Int):=O1
  rw[e,Int.tdiv_eq_ediv_of_nonneg D1];have:=Int.le_ediv_of_mul_le (a:=2) (b:=9223372036854775807) (c:=((len-1:Nat):Int)) O1 O1;omega
 have V:(9223372036854775807:Int).tdiv ((len:Int)-1)<=9223372036854775807:=by
  have e:(len:Int)-1=((len-1:Nat):Int):=O1
  rw[e,Int.tdiv_eq_ediv_of_nonneg D1];exact Int.ediv_le_self _ D1
 refine⟨I1,?_⟩;refine⟨rfl,O1,?_⟩;rw[Ga I1];generalize(9223372036854775807:Int).tdiv ((len:Int)-1)=q at hq V ⊢
 repeat refine⟨rfl,?_⟩
 conv=>whnf
 apply Qg<;>intro w
 .have w:((sep.size:Nat):Int) ≥ q:=of_decide_eq_true w;have:(1:Int) ≥ q:=by rw[K]at w;exact w
  have:False:=by clear V w;omega
  exact this.elim
 clear w hq V;refine⟨I1,?_⟩;rw[K];refine⟨I1,?_⟩;refine⟨I1,?_⟩
 conv=>whnf
 have W:∀(i:Nat)(x:ByteArray),(a_0::r)[i]?=some x->x.size<=1000:=λ i x G=>hs x (mem_of_getElem? G);refine⟨Nat×Nat,λ y=>[(0,.slice a len cap),(1,.string sep),(5,.int .i64 y.2),(39,.slice a len cap),(40,.int .i64 len),(41,.int .i64 y.1)],λ y U'=>U.le U'/\y.1<=len/\len-1<=y.2/\y.2<=100+y.1*1000,λ y=>len-y.1,(0,len-1),⟨rfl,rfl,?_,rfl,rfl,rfl,trivial⟩,⟨.refl _,O1,O1,O1⟩,?_⟩
 .show Value.int .i64 (0+((1:Nat):Int)*((len:Int)-1))=.int .i64 ((len-1:Nat):Int);congr 1;omega
 rintro⟨i,n⟩f U1⟨L,hi,Z,aa⟩;simp only at hi Z aa;have H:Ja ((i:Int)+1):=I1
 repeat refine⟨rfl,?_⟩
 conv=>whnf
 apply Qg<;>intro w
 .have hlt:i<len:=by simpa using w
  clear w;obtain⟨P,x,G,ea,z,-⟩:=(Y.lg L.lg.frz2).get hlt;have ai:=W i x G;refine⟨P,i,⟨ea,rfl,hlt⟩,_,z.lg Qr,I1,?_⟩
  repeat refine⟨rfl,?_⟩
  conv=>whnf
  apply Qg<;>intro w
  .have w:((x.size:Nat):Int) > 9223372036854775807-n:=of_decide_eq_true w;have:False:=O1
   exact this.elim
  clear w;refine⟨I1,?_⟩;refine⟨H,?_⟩
  conv=>whnf
  exact⟨rfl,(i+1,n+x.size),T1,⟨L,by show i+1<=_;omega,by show len-1<=n+x.size;omega,by show n+x.size<=100+(i+1)*1000;omega⟩,L1⟩
 clear w H
 have hn:n<=1048576:=by
  have:i*1000<=100*1000:=Nat.mul_le_mul_right _ O1;omega
 clear Z aa hi
 conv=>whnf
 intro b am;refine⟨_,.refl _,Zsl.any,(Zrq (M₀:=U1.M) hn rfl).mono ?_⟩;rintro _ U2⟨F,E⟩-;have E:U.frz.lg U2.frz:=L.lg.frz2.trans E;obtain⟨P,x,G,rfl,z,ah⟩:=(Y.lg E).get (i:=0) O1;obtain rfl:a_0=x:=by simpa using G
 have ap:=W 0 a_0 rfl;refine⟨P,0,⟨rfl,rfl,O1⟩,_,z.lg Qr,Zm8.any,(Qf1 F (by show 0+_<=_;omega)).mono ?_⟩;rintro _ U3⟨F,Q⟩-;rw[show ByteArray.empty++a_0=a_0 by simp]at F;have Q:=E.trans Q;refine⟨1,len,⟨rfl,rfl,O1,X⟩,?_⟩;rw[if_neg (by omega:¬cap=1)];refine⟨Nat,λ j=>[(1,.string sep),(8,.pb b),(63,.slice (some (P.add (1*1))) (len-1) (cap-1)),(64,.int .i64 ((len-1:Nat):Int)),(65,.int .i64 j)],λ j U'=>Bld U' b (Qal sep ((a_0::r).take (j+1))) U1.M/\U.frz.lg U'.frz/\j<=len-1,λ j=>len-1-j,0,T1,⟨F,Q,O1⟩,?_⟩;rintro j f U4⟨F,N,hj⟩;have H:Ja ((j:Int)+1):=I1
 have ab:∀k,k<len->(Qal sep ((a_0::r).take (k+1))).size<=1000+k*1001:=λ k hk=>by
  rw[take_succ_cons];have h1:=Zqj sep (m:=1000) (k:=1) O1 (r.take k) a_0 (λ s h=>hs s (mem_cons_of_mem _ (mem_of_mem_take h)));have h2:(r.take k).length<=k:=by rw[length_take];omega
  have h3:=Nat.mul_le_mul_right (1000+1) h2;exact Nat.le_trans h1 O1
 repeat refine⟨rfl,?_⟩
 conv=>whnf
 apply Qg<;>intro w
 .have hlt:j<len-1:=by
   have:(j:Int)<((len-1:Nat):Int):=by simpa using w
   omega
  clear w;obtain⟨al,x,G,ea,z,-⟩:=(Y.lg N).get (i:=j+1) O1;cases ea;have ai:=W _ x G;have hk:=ab j O1;have ag:j*1001<=99*1001:=Nat.mul_le_mul_right _ O1;refine⟨P.add (1*1),j,⟨rfl,rfl,hlt⟩,_,by rw[vF _ ah,<- Nat.add_mul,Nat.add_comm];exact z.lg Qr,?_⟩;refine⟨Zm8.any,(Qf1 F O1).mono ?_⟩;rintro _ U5⟨F,B⟩-;have B:=N.trans B;refine⟨Zm8.any,(Qf1 F (by rw[ByteArray.size_append];omega)).mono ?_⟩;rintro _ U6⟨F,I⟩-;have I:=B.trans I;have et:(a_0::r).take (j+1+1)=(a_0::r).take (j+1)++[x]:=by rw[take_add_one,G];rfl
  rw[<- Ztu sep _ x S1,<- et]at F;refine⟨H,?_⟩
  conv=>whnf
  exact⟨rfl,j+1,T1,⟨F,I,by show j+1<=_;omega⟩,L1⟩
 have ae:j=len-1:=by
  have:((len-1:Nat):Int)<=j:=by simpa using w
  omega
 subst ae;clear w H;have hk:=ab (len-1) O1;have ag:(len-1)*1001<=99*1001:=Nat.mul_le_mul_right _ O1;rw[take_of_length_le O1]at F hk;refine⟨Zp6.any,(Zky F O1).mono ?_⟩;rintro _ U5⟨rfl,ac,B⟩-
 conv=>whnf
 exact⟨rfl,⟨λ x o G=>B.imm x o (N.imm x o G),ac.trans L.own,B.tok.trans N.tok⟩⟩
def Ztk:Extern.findNext Tryz.f142=none:=K1
def Zuz:Extern.find Tryz.f142=some Go.Extern.BytealgIndexByte.indexByte:=K1
def Ztl:Extern.findNext Tryz.f186=none:=K1
def Zu0:Extern.find Tryz.f186=some Go.Extern.BytealgCount.count:=K1
def Zmj(s:ByteArray)(c:UInt8):Qb S 105 #[.string s,.int .u8 (c.toNat:Int)] (λ v U'=>v=.int .i64 (ixB s c)/\U'=U) U:=by
 refine Qb.of (args:=[_,_]) Zo9 Qf S1 ?_
 conv=>whnf
 refine Zqk (v:=.int .i64 (ixB s c)) Tryz.func142 rfl Ztk Zuz (Zx1 s c) ?_
 conv=>whnf
 exact⟨rfl,rfl⟩
def Zod(s:ByteArray)(c:UInt8):Qb S 71 #[.string s,.int .u8 (c.toNat:Int)] (λ v U'=>v=.int .i64 (ixB s c)/\U'=U) U:=by
 refine Qb.of (args:=[_,_]) Zp9 Qf S1 ?_;refine⟨Zo9.any,(Zmj s c).go λ _=>?_⟩
 conv=>whnf
 exact⟨rfl,rfl⟩
def Zob(s:ByteArray)(c:UInt8):Qb S 159 #[.string s,.string (byB c)] (λ v U'=>v=.int .i64 (ixB s c)/\U'=U) U:=by
 refine Qb.of (args:=[_,_]) Zpb Qf S1 ?_
 repeat refine⟨rfl,?_⟩
 conv=>whnf
 apply Qg<;>intro b
 .rw[Qvf]at b;have b:=of_decide_eq_true b;subst b
  conv=>whnf
  have f:ixB (byB c) c=0:=Zpm (x:=ByteArray.empty) ByteArray.empty (by simp[NoB]);exact⟨by rw[f],rfl⟩
 repeat refine⟨rfl,?_⟩
 refine⟨0,c,⟨rfl,rfl⟩,Zo9.any,(Zmj s c).go λ _=>?_⟩
 conv=>whnf
 exact⟨rfl,rfl⟩
def Zo7(s:ByteArray)(c:UInt8):Qb S 162 #[.string s,.string (byB c)] (λ v U'=>v=.int .i64 (ixB s c)/\U'=U) U:=by
 refine Qb.of (args:=[_,_]) Zre Qf S1 ?_;refine⟨Zpb.any,(Zob s c).go λ _=>?_⟩
 conv=>whnf
 exact⟨rfl,rfl⟩
def Zpq(x y:ByteArray)(c:UInt8)(w:NoB c x)(B:x.size+y.size<2^50):Qb S 143 #[.string (x++byB c++y),.string (byB c)] (λ v U'=>v=.tuple #[.string x,.string y,.bool true]/\U'=U) U:=by
 refine Qb.pure' (Qb.of (args:=[_,_]) Zra Qf S1 ?_);have h:=Qvj c x y;refine⟨Zpb.any,(Zob _ c).go λ _=>?_⟩;rw[Zpm y w]
 repeat refine⟨rfl,?_⟩
 refine⟨.string x,λ U' f _=>?_,?_⟩
 .conv=>whnf
  refine Qf5 0 x.size vb rfl rfl O1 O1 ?_;rw[Zwp];exact⟨rfl,U',.refl _,.refl _⟩
 refine⟨by unfold Ja;rw[Qbd];omega,?_⟩;refine⟨.string y,λ U' f _=>?_,?_⟩
 .conv=>whnf
  refine Qf5 (x.size+1) (x++byB c++y).size vb rfl rfl O1 O1 ?_;rw[Zwq];exact⟨rfl,U',.refl _,.refl _⟩
 conv=>whnf
 intro z b _
 conv=>whnf
 exact⟨rfl,b.lg⟩
def Zsa(x y:ByteArray)(c:UInt8)(f:NoB c x)(b:x.size+y.size<2^50):Qb S 106 #[.string (x++byB c++y),.string (byB c)] (λ v U'=>v=.tuple #[.string x,.string y,.bool true]/\U'=U) U:=by
 refine Qb.of (args:=[_,_]) Zq7 Qf S1 ?_;refine⟨Zra.any,(Zpq x y c f b).go λ _=>?_⟩
 conv=>whnf
 exact⟨rfl,rfl⟩
def Zqq(s:ByteArray)(c:UInt8):Qb S 161 #[.string s,.string (byB c)] (λ v U'=>v=.int .i64 (Lib.countByte s.data.toList c:Nat)/\U'=U) U:=by
 refine Qb.of (args:=[_,_]) Zrd Qf S1 ?_
 repeat refine⟨rfl,?_⟩
 refine⟨0,c,⟨rfl,rfl⟩,?_⟩
 conv=>whnf
 refine Zqk (v:=.int .i64 (Lib.countByte s.data.toList c:Nat)) Tryz.func186 rfl Ztl Zu0 (Zxq s c) ?_
 conv=>whnf
 exact⟨rfl,rfl⟩
def Zou(s:ByteArray)(c:UInt8)(f:s.size<2^60):Qb S 109 #[.string s,.string (byB c)] (λ v U'=>v=.bool (Zty s c)/\U'=U) U:=by
 refine Qb.of (args:=[_,_]) Zq9 Qf S1 ?_
 repeat refine⟨rfl,?_⟩
 conv=>whnf
 apply Jt<;>intro b
 .have h1:1<=s.size:=by
   have b:((s.size:Nat):Int) ≥ ((1:Nat):Int):=of_decide_eq_true b;omega
  refine⟨by unfold Ja;rw[Qbd];omega,?_⟩
  conv=>whnf
  refine Qf5 (s.size-1) s.size vb rfl (by show some (((s.size:Nat):Int)-((1:Nat):Int),((s.size:Nat):Int))=_;congr 2;omega) O1 O1 ?_
  conv=>whnf
  rw[Qvf];refine⟨?_,rfl⟩;unfold Zty;rw[decide_eq_true h1,Bool.true_and]
 .have h1:¬1<=s.size:=λ h=>by
   have b:=of_decide_eq_false b;exact b (by show((1:Nat):Int)<=((s.size:Nat):Int);omega)
  refine⟨?_,rfl⟩;unfold Zty;rw[decide_eq_false h1,Bool.false_and]
def Zpv(s x:ByteArray)(c:UInt8)(f:s.size<2^60)(b:s=x++byB c\/(NoB c s/\x=s)):Qb S 74 #[.string s,.string (byB c)] (λ v U'=>v=.string x/\U'=U) U:=by
 refine Qb.of (args:=[_,_]) Zsn Qf S1 ?_;refine⟨Zq9.any,(Zou s c f).go λ _=>?_⟩;rcases b with rfl|⟨b,rfl⟩
 .have hsz:(x++byB c).size=x.size+1:=by rw[ByteArray.size_append,Qbd]
  rw[Zw9];refine⟨by unfold Ja;rw[Qbd];omega,?_⟩
  conv=>whnf
  refine Qf5 0 x.size vb rfl (by show some ((0:Int),((x++byB c).size:Int)-((1:Nat):Int))=_;congr 2;omega) O1 O1 ?_;rw[Zwr]
  conv=>whnf
  exact⟨rfl,rfl⟩
 .rw[Zvn b]
  conv=>whnf
  exact⟨rfl,rfl⟩
def Zrr(s x:ByteArray)(c:UInt8)(b:s.size<2^60)(f:s=x++byB c\/(NoB c s/\x=s)):Qb S 39 #[.string s,.string (byB c)] (λ v U'=>v=.string x/\U'=U) U:=by
 refine Qb.of (args:=[_,_]) Zsg Qf S1 ?_;refine⟨Zsn.any,(Zpv s x c b f).go λ _=>?_⟩
 conv=>whnf
 exact⟨rfl,rfl⟩
def pcs(l:List ByteArray)(i:Nat):List Value:=(l.take i).map Value.string++replicate (l.length-i) (Value.string ByteArray.empty)
def Zt9(l:List ByteArray)(h:n<=l.length):(pcs l n).length=l.length:=by simp[pcs];omega
def Zua(l:List ByteArray)(h:l[n]?=some x):(pcs l n).toArray.setIfInBounds n (.string x)=(pcs l (n+1)).toArray:=by
 have z:=(List.getElem?_eq_some_iff.1 h).1;apply Array.ext';rw[Array.toList_setIfInBounds];unfold pcs;have b:l.take (n+1)=l.take n++[x]:=by rw[take_add_one,h];rfl
 have w:((l.take n).map Value.string).length=n:=S3
 obtain⟨k,f⟩:∃k,l.length-n=k+1:=⟨l.length-n-1,O1⟩;rw[b,map_append,append_assoc,f,show l.length-(n+1)=k by omega,replicate_succ];show((l.take n).map Value.string++Value.string ByteArray.empty::replicate k (Value.string ByteArray.empty)).set n (.string x)=_;rw[set_append_right _ _ O1,w,Nat.sub_self];rfl
def Zx3(P:Program)(t:TypeId):Bool:=match P.info? t with
 |some b=>b.size==1&&decide (b.bytes<=64)&&(match b.zero with|some (.string s)=>s.size==0|_=>false)
 |none=>false
def Zx4(h:Zx3 P t=true):∃b,P.info? t=some b/\b.zero=some (.string ByteArray.empty)/\b.size=1/\b.bytes<=64:=by
 unfold Zx3 at h;split at h
 .rename_i b hi;simp only[Bool.and_eq_true,beq_iff_eq,decide_eq_true_eq]at h;obtain⟨⟨w,z⟩,f⟩:=h;split at f
  .rename_i s hz;have:s=ByteArray.empty:=ByteArray.ext (Array.eq_empty_of_size_eq_zero (by simpa using f));subst this;exact⟨b,hi,hz,w,z⟩
  .cases f
 .cases h
def Zu8:Zx3 prog 9=true:=K1
def Zw8(h:Src U a (s.map Value.string))(f:∀b,a=some b->b.spot=none):Qi9 U a s.length s:=by
 refine⟨rfl,λ i x w=>?_⟩;rcases h with⟨_,e⟩|⟨b,rfl,z⟩
 .rw[map_eq_nil_iff.1 e]at w;cases w
 .exact⟨b,_,rfl,f b rfl,rfl,rfl,Zl8 (by rw[Nat.mul_one];exact z i _ (by simp[w]))⟩
def Zo8(l:List ByteArray)(c:UInt8)(ab:l≠[])(Q:∀x∈l,NoB c x)(ae:(Qal (byB c) l).size<=1000000) :
  Qb S 144 #[.string (Qal (byB c) l),.string (byB c),.int .i64 0,.int .i64 (-1)] (λ v U'=>(∃a cap,v=.slice a l.length cap/\Qi9 U'.frz a l.length l/\l.length<=cap)/\U.le U') U:=by
 refine Qb.sep (R:=λ v U'=>(∃a,v=.slice a l.length l.length)/\Acc 9 1 v (l.map Value.string) U'.M U.M/\(∀x o,U.I x=some o->U'.I x=some o)/\U'.tok=U.tok) (Qb.of (args:=[_,_,_,_]) Zrb Qf S1 ?_) ?_
 rotate_left
 .rintro v U' hs ⟨⟨a,rfl⟩,ha,hI,ht⟩;obtain⟨U'',k1,k2,a',len,cap,e,-,V,ad,-⟩:=ha.freeze (U:=U) hs hI ht;cases e;exact⟨U'',k1,⟨a,_,rfl,Zw8 V ad,Nat.le_refl _⟩,k2⟩
 have ai:=Zri c l ab Q;have N:=Zx0 c (Qal (byB c) l);obtain⟨an,Z,ah,ac,W⟩:=Zx4 Zu8
 repeat refine⟨rfl,?_⟩
 conv=>whnf
 apply Qg<;>intro E
 .rw[Qvf]at E;have:=of_decide_eq_true E;have:=congrArg ByteArray.size this;exact absurd this (by rw[Qbd];decide)
 clear E;refine⟨rfl,Zrd.any,(Zqq _ c).go λ _=>?_⟩;refine⟨I1,?_⟩;refine⟨I1,?_⟩
 conv=>whnf
 refine Zoh rfl rfl ?_;rw[show min (((Lib.countByte (Qal (byB c) l).data.toList c:Nat):Int)+1) (((Qal (byB c) l).size:Nat)+1)=(l.length:Int) by omega]
 conv=>whnf
 refine DV pg Z ah rfl ac W rfl rfl O1 λ b ak=>?_;refine⟨I1,?_⟩
 conv=>whnf
 have e0:(replicate l.length (Value.string ByteArray.empty)).toArray=(pcs l 0).toArray:=by simp[pcs]
 rw[e0];have al:1<=l.length:=O1
 refine⟨Nat,λ i=>[(0,.string (Qal (byB c) (l.drop i))),(1,.string (byB c)),(2,.int .i64 0),(3,.int .i64 ((l.length:Int)-1)),(9,.slice (some ⟨b,0,none⟩) l.length l.length),(10,.int .i64 i)],λ i U'=>U'.M=.obj b (.cells (pcs l i).toArray 9 (0,0))::U.M/\U.frz.lg U'.frz/\i<l.length/\(Qal (byB c) (l.drop i)).size<=1000000,λ i=>l.length-i,0,T1,⟨rfl,⟨λ _ _ h=>h,⟨[],rfl⟩,rfl⟩,O1,ae⟩,?_⟩;rintro i f U1⟨hM,z,B,am⟩;have P:Ja ((i:Int)+1):=I1
 have T:=Zt9 l (Nat.le_of_lt B)
 repeat refine⟨rfl,?_⟩
 conv=>whnf
 apply Qg<;>intro E
 .have hlt:i+1<l.length:=by
   have:(i:Int)<(l.length:Int)-1:=by simpa using E
   omega
  clear E;obtain⟨x,L⟩:∃x,l[i]?=some x:=⟨_,getElem?_eq_getElem B⟩;obtain⟨y,hy⟩:∃y,l[i+1]?=some y:=⟨_,getElem?_eq_getElem hlt⟩;have ag:=Q x (mem_of_getElem? L)
  have K:Qal (byB c) (l.drop i)=x++byB c++Qal (byB c) (l.drop (i+1)):=by
   rw[drop_eq_getElem_cons B,drop_eq_getElem_cons hlt,Qo5,<- drop_eq_getElem_cons hlt,(List.getElem?_eq_some_iff.1 L).2]
  have aj:(Qal (byB c) (l.drop i)).size=x.size+1+(Qal (byB c) (l.drop (i+1))).size:=by rw[K];exact Qvj ..
  have aa:ixB (Qal (byB c) (l.drop i)) c=x.size:=by rw[K];exact Zpm _ ag
  have N:(Qal (byB c) (l.drop i)).extract 0 x.size=x:=by rw[K];exact Zwp ..
  have X:(Qal (byB c) (l.drop i)).extract (x.size+1) (Qal (byB c) (l.drop i)).size=Qal (byB c) (l.drop (i+1)):=by rw[K];exact Zwq ..
  refine⟨Zre.any,(Zo7 _ c).go λ _=>?_⟩;rw[aa];refine⟨rfl,I1,?_⟩
  conv=>whnf
  refine Qf5 0 x.size vb rfl (by show some ((0:Int),((x.size:Nat):Int)+0)=_;rw[Int.add_zero];rfl) O1 O1 ?_;rw[N];refine⟨⟨b,0,none⟩,i,⟨rfl,rfl,B⟩,?_⟩;rw[Nat.mul_one];refine⟨rfl,WJ (i:=i) [] hM (by rw[size_toArray,T];exact B) rfl λ F G H w=>?_⟩;have w:F.M=[]++.obj b (.cells ((pcs l i).toArray.setIfInBounds i (.string x)) 9 (0,0))::U.M:=w;rw[Zua l L,nil_append]at w;refine⟨by unfold Ja;rw[Qbd];omega,?_⟩
  conv=>whnf
  refine Qf5 (x.size+1) (Qal (byB c) (l.drop i)).size vb rfl rfl O1 O1 ?_;rw[X];refine⟨P,?_⟩
  conv=>whnf
  exact⟨rfl,i+1,T1,⟨w,⟨λ y o h=>by show F.I y=_;rw[G];exact z.imm y o h,⟨[],rfl⟩,by show F.tok=_;rw[H];exact z.tok⟩,hlt,O1⟩,L1⟩
 have Y:i+1=l.length:=by
  have:(l.length:Int)-1<=i:=by simpa using E
  omega
 clear E;obtain⟨x,L⟩:∃x,l[i]?=some x:=⟨_,getElem?_eq_getElem B⟩
 have K:Qal (byB c) (l.drop i)=x:=by
  rw[drop_eq_getElem_cons B,drop_eq_nil_of_le O1,(List.getElem?_eq_some_iff.1 L).2];rfl
 refine⟨⟨b,0,none⟩,i,⟨rfl,rfl,B⟩,?_⟩;rw[Nat.mul_one];refine⟨rfl,WJ (i:=i) [] hM (by rw[size_toArray,T];exact B) rfl λ F G H w=>?_⟩;have w:F.M=[]++.obj b (.cells ((pcs l i).toArray.setIfInBounds i (.string (Qal (byB c) (l.drop i)))) 9 (0,0))::U.M:=w;rw[K,Zua l L,nil_append]at w;refine⟨P,0,l.length,⟨rfl,O1,O1,O1⟩,?_⟩;rw[Zte,Nat.sub_zero];refine⟨⟨_,rfl⟩,.inr ⟨b,_,l.length,l.length,rfl,S1,Nat.le_refl _,?_,w,λ j y hj=>?_⟩,λ y o h=>by show F.I y=_;rw[G];exact z.imm y o h,by show F.tok=_;rw[H];exact z.tok⟩
 .rw[size_toArray,Zt9 l O1,Nat.mul_one]
 .rw[Y];unfold pcs;rw[take_of_length_le (Nat.le_refl _),Nat.sub_self,replicate_zero,append_nil];simpa using hj
def Zoc(l:List ByteArray)(c:UInt8)(b:l≠[])(f:∀x∈l,NoB c x)(h:(Qal (byB c) l).size<=1000000) :
  Qb S 107 #[.string (Qal (byB c) l),.string (byB c)] (λ v U'=>(∃a cap,v=.slice a l.length cap/\Qi9 U'.frz a l.length l/\l.length<=cap)/\U.le U') U:=by
 refine Qb.of (args:=[_,_]) Zpa Qf S1 ?_;refine⟨Zrb.any,(Zo8 l c b f h).mono ?_⟩;rintro _ U'⟨⟨a,cap,rfl,w,z⟩,B⟩-
 conv=>whnf
 exact⟨⟨a,cap,rfl,w,z⟩,B⟩
def Zpr(a:Option Addr)(len cap:Nat)(l:List ByteArray)(H:Qi9 U.frz a len l)(E:len<2^60)(s:ByteArray)(I:s∉l) :
  Qb S 145 #[.slice a len cap,.string s] (λ v U'=>v=.int .i64 (-1)/\U'=U) U:=by
 refine Qb.of (args:=[_,_]) Zrc Qf S1 ?_;refine⟨Nat,λ i=>[(0,.slice a len cap),(1,.string s),(7,.int .i64 len),(8,.int .i64 i)],λ i U'=>U'=U/\i<=len,λ i=>len-i,0,T1,⟨rfl,O1⟩,?_⟩;rintro i f U'⟨w,L⟩;obtain rfl:=w.symm;have z:Ja ((i:Int)+1):=I1
 repeat refine⟨rfl,?_⟩
 conv=>whnf
 apply Qg<;>intro b
 .have hlt:i<len:=by simpa using b
  clear b;obtain⟨F,x,K,G,h,-⟩:=H.get hlt;have B:s≠x:=λ e=>I (e▸mem_of_getElem? K);refine⟨F,i,⟨G,rfl,hlt⟩,_,h.lg Qr,?_⟩
  conv=>whnf
  apply Qg<;>intro b
  .rw[Qvf]at b;exact absurd (of_decide_eq_true b) B
  refine⟨z,?_⟩
  conv=>whnf
  exact⟨rfl,i+1,T1,⟨rfl,O1⟩,L1⟩
 conv=>whnf
 exact⟨rfl,rfl⟩
def Zos(a:Option Addr)(len cap:Nat)(l:List ByteArray)(f:Qi9 U.frz a len l)(b:len<2^60)(s:ByteArray)(h:s∉l) :
  Qb S 108 #[.slice a len cap,.string s] (λ v U'=>v=.bool false/\U'=U) U:=by
 refine Qb.of (args:=[_,_]) Zq8 Qf S1 ?_;refine⟨Zrc.any,(Zpr a len cap l f b s h).go λ _=>?_⟩;refine⟨rfl,?_⟩
 conv=>whnf
 exact⟨rfl,rfl⟩
end
variable{c:List ByteArray}
def Zq4{a b:ByteArray}(h:a=b):(a.toList==b.toList)=true:=by rw[Qvf];simpa using h
def Zop{a b:ByteArray}(h:a≠b):(a.toList==b.toList)=false:=by rw[Qvf];simpa using h
def Zvm:(if n=0 then a else a.map (·.add (0*1)))=a:=by
 split
 .rfl
 .cases a <;> simp[Addr.add]
def Qi9.pre(h:Qi9 U a n (s++c)):Qi9 U a s.length s:=
 ⟨rfl,λ i x b=>h.2 i x (by rw[getElem?_append_left (List.getElem?_eq_some_iff.1 b).1];exact b)⟩
section
attribute [local irreducible] Qb Zp Wv
def Qp0(w:ByteArray)(f:List ByteArray)(W:w≠ByteArray.empty)(L:NoB 58 w)(H:∀x∈f,NoB 59 x)(Q:f.length<=1000)(V:w.size+(Qal (byB 59) (f++[ByteArray.empty])).size<=1000000) :
  Qb S 72 #[.string (w++byB 58++Qal (byB 59) (f++[ByteArray.empty]))] (λ v U'=>(∃a cap,v=.tuple #[.string w,.slice a f.length cap,.bool true]/\Qi9 U'.frz a f.length f/\f.length<=cap)/\U.le U') U:=by
 refine Qb.of (args:=[_]) Znf Qf S1 ?_
 have K:∀x∈f++[ByteArray.empty],NoB 59 x:=λ x N=>by
  rcases mem_append.1 N with h|h
  .exact H x h
  .obtain rfl:=mem_singleton.1 h;simp[NoB]
 refine⟨Zq7.any,(Zsa w (Qal (byB 59) (f++[ByteArray.empty])) 58 L O1).go λ _=>?_⟩;refine⟨Zpa.any,(Zoc (f++[ByteArray.empty]) 59 S1 K O1).mono ?_⟩;rintro _ X⟨⟨a,cap,rfl,I,B⟩,G⟩-;have E:(f++[ByteArray.empty]).length=f.length+1:=S1
 rw[E]at I B ⊢;refine⟨I1,?_⟩;refine⟨0,f.length,⟨rfl,O1,O1,O1⟩,?_⟩;rw[Zvm,Nat.sub_zero,Nat.sub_zero]
 conv=>whnf
 rw[Zop (b:=⟨#[]⟩) W];refine⟨I1,?_⟩
 conv=>whnf
 obtain⟨P,x,N,rfl,F,T⟩:=I.get (i:=f.length) O1;obtain rfl:ByteArray.empty=x:=by simpa using N
 refine⟨P,f.length,⟨rfl,O1,O1⟩,_,F.lg Qr,?_⟩
 conv=>whnf
 rw[Zq4 (a:=ByteArray.empty) (b:=⟨#[]⟩) rfl]
 conv=>whnf
 intro Y z _
 conv=>whnf
 exact⟨⟨_,_,rfl,I.pre.lg z.lg.frz2,O1⟩,G.trans z⟩
def Qk7(l:List ByteArray)(B:∀x∈l,NoB 44 x/\x≠ByteArray.empty)(N:l.length<=1000)(H:(Qal (byB 44) l).size<=1000000) :
  Qb S 73 #[.string (Qal (byB 44) l)] (λ v U'=>(∃a cap,v=.tuple #[.slice a l.length cap,.bool true]/\Qi9 U'.frz a l.length l/\l.length<=cap)/\U.le U') U:=by
 refine Qb.of (args:=[_]) Zft Qf S1 ?_;by_cases f:l=[]
 .subst f
  conv=>whnf
  rw[Zq4 (a:=Qal (byB 44) []) (b:=⟨#[]⟩) rfl]
  conv=>whnf
  exact⟨⟨none,0,rfl,⟨rfl,λ i x w=>by cases w⟩,Nat.le_refl _⟩,.refl _⟩
 have F:Qal (byB 44) l≠ByteArray.empty:=λ e=>by
  cases l with
  |nil=>exact f rfl
  |cons x r=>
   have w:=(B x (mem_cons_self ..)).2;have K:(Qal (byB 44) (x::r)).size=0:=by rw[e];rfl
   have L:x.size<=(Qal (byB 44) (x::r)).size:=by
    cases r with
    |nil=>exact Nat.le_refl _
    |cons y r=>rw[Qo5,Qvj];omega
   exact w (ByteArray.ext (Array.eq_empty_of_size_eq_zero (by show x.size=0;omega)))
 conv=>whnf
 rw[Zop (b:=⟨#[]⟩) F];refine⟨Zpa.any,(Zoc l 44 f (λ x w=>(B x w).1) O1).mono ?_⟩;rintro _ I⟨⟨a,cap,rfl,E,h⟩,z⟩-;refine⟨Zq8.any,(Zos a l.length cap l E O1 ⟨#[]⟩ (λ G=>(B _ G).2 rfl)).go λ _=>?_⟩
 conv=>whnf
 exact⟨⟨a,cap,rfl,E,h⟩,z⟩
end
structure Qyt(n:ByteArray):Prop where
 ne:n≠ByteArray.empty
 b10:NoB 10 n
 b44:NoB 44 n
 b59:NoB 59 n
 sz:n.size<=10
inductive Ent where
 |rt (n:ByteArray)
 |cs (n a:ByteArray)
 |gr (l:List ByteArray)
 |af (l:List ByteArray)
def Zjy(w:ByteArray)(b:List ByteArray):ByteArray:=w++byB 58++Qal (byB 59) (b++[ByteArray.empty])
def Ent.line:Ent->ByteArray
 |.rt n=>Zjy ⟨#[114,105,103,104,116]⟩ [n]
 |.cs n a=>Zjy ⟨#[99,97,115,101]⟩ [n,a]
 |.gr l=>Zjy ⟨#[103,114,111,117,110,100]⟩ [Qal (byB 44) l]
 |.af l=>Zjy ⟨#[97,102,116,101,114]⟩ [Qal (byB 44) l]
def Ent.ok:Ent->Prop
 |.rt n=>Qyt n
 |.cs n a=>Qyt n/\Qyt a
 |.gr l=>(∀x∈l,Qyt x)/\l.length<=10
 |.af l=>(∀x∈l,Qyt x)/\l.length<=10/\l≠[]
def Q32(U:Qa T):Ent->Value->Prop
 |.rt n,v=>v=.iface 95 (.agg #[.string n])
 |.cs n a,v=>v=.iface 98 (.agg #[.string n,.string a])
 |.gr l,v=>∃a cap,v=.iface 146 (.agg #[.slice a l.length cap])/\Qi9 U a l.length l/\l.length<=cap
 |.af l,v=>∃a cap,v=.iface 148 (.agg #[.slice a l.length cap])/\Qi9 U a l.length l/\l.length<=cap
def Zjx{c:UInt8}(b:c≠44):∀{l:List ByteArray},(∀x∈l,NoB c x)->NoB c (Qal (byB 44) l)
 |[],_=>by simp[NoB,Qal]
 |[x],h=>h x (mem_cons_self ..)
 |x::y::r,h=>by
  have f:=h x (mem_cons_self ..);have w:=Zjx b (l:=y::r) λ z B=>h z (mem_cons_of_mem _ B);rw[Qo5];unfold NoB at *;simp only[ByteArray.data_append,Array.toList_append,mem_append,not_or];exact⟨⟨f,by simpa[byB]using b⟩,w⟩
def Qpt:∀{l:List ByteArray},(∀x∈l,x.size<=10)->(Qal (byB 44) l).size<=l.length*11
 |[],_=>by simp[Qal]
 |[x],h=>by have:=h x (mem_cons_self ..);show x.size<=1*11;omega
 |x::y::r,h=>by
  have w:=h x (mem_cons_self ..);have b:=Qpt (l:=y::r) λ z f=>h z (mem_cons_of_mem _ f);rw[Qo5,Qvj];simp only[length_cons]at b ⊢;omega
def Qn0(s n:ByteArray):Qal s ([n]++[ByteArray.empty])=n++s:=by
 show n++s++ByteArray.empty=_;simp
def Zok(s n a:ByteArray):Qal s ([n,a]++[ByteArray.empty])=n++s++a++s:=by
 show n++s++a++s++ByteArray.empty=_;simp
section
attribute [local irreducible] Qb Zp Wv
def iB(P:Program)(t:TypeId):Bool:=match P.underlying t with|some (.interface _)=>false|some _=>true|none=>false
def Qpv(h:iB P t=true):∃d,P.underlying t=some d/\∀l,d≠.interface l:=by
 unfold iB at h;split at h
 .cases h
 .rename_i d hne hu;exact⟨d,hu,λ l e=>hne l e⟩
 .cases h
def Qz0:iB prog 95=true:=K1
def Zcd:iB prog 98=true:=K1
def Zcc:iB prog 146=true:=K1
def Zq5:iB prog 148=true:=K1
def Zpz(n:ByteArray)(w:Qyt n):Qb S 38 #[.string (Ent.line (.rt n))] (λ v U'=>Q32 U'.frz (.rt n) v/\U.le U') U:=by
 refine Qb.of (args:=[_]) Zna Qf S1 ?_;have I:=w.sz;refine⟨Znf.any,(Qp0 ⟨#[114,105,103,104,116]⟩ [n] D1 (by simp[NoB]) (by simpa using w.b59) S1 (by rw[Qn0,ByteArray.size_append,Qbd];show 5+_<=_;omega)).mono ?_⟩;rintro _ P⟨⟨a,cap,rfl,H,F⟩,B⟩-;obtain⟨z,x,N,rfl,f,K⟩:=H.get (i:=0) S1;obtain rfl:n=x:=by simpa using N
 repeat refine⟨rfl,?_⟩
 refine⟨z,0,⟨rfl,rfl,S1⟩,?_⟩;refine⟨_,f.lg Qr,?_⟩
 conv=>whnf
 rw[Zop (b:=⟨#[]⟩) w.ne];refine⟨z,0,⟨rfl,rfl,S1⟩,?_⟩;refine⟨_,f.lg Qr,Zft.any,(Qk7 [n] (by simpa using⟨w.b44,w.ne⟩) S1 (by show n.size<=_;omega)).mono ?_⟩;rintro _ Q⟨⟨T,E,rfl,-,-⟩,h⟩-;have f:=f.lg h.lg.frz2
 conv=>whnf
 rw[Zq4 (a:=⟨#[114,105,103,104,116]⟩) (b:=⟨#[114,105,103,104,116]⟩) rfl]
 repeat refine⟨rfl,?_⟩
 refine⟨z,0,⟨rfl,rfl,S1⟩,?_⟩;refine⟨_,f.lg Qr,?_⟩
 conv=>whnf
 obtain⟨d,L,G⟩:=Qpv Qz0;refine Zo5 L G rfl ?_
 conv=>whnf
 exact⟨rfl,B.trans h⟩
def Zpx(n m:ByteArray)(F:Qyt n)(I:Qyt m):Qb S 38 #[.string (Ent.line (.cs n m))] (λ v U'=>Q32 U'.frz (.cs n m) v/\U.le U') U:=by
 show Qb S 38 #[.string (Zjy ⟨#[99,97,115,101]⟩ [n,m])] _ U;obtain⟨w,B⟩:∃w:ByteArray,w=⟨#[99,97,115,101]⟩:=⟨_,rfl⟩;have Z:w.size=4:=by rw[B];rfl
 rw[<- B];refine Qb.of (args:=[_]) Zna Qf S1 ?_;have W:=F.sz;have V:=I.sz;refine⟨Znf.any,(Qp0 w [n,m] (by rw[B];decide) (by rw[B];simp[NoB]) (by simpa using⟨F.b59,I.b59⟩) S1 (by rw[Zok,ByteArray.size_append,Qvj,Qbd];omega)).mono ?_⟩;rintro _ U1⟨⟨a,cap,rfl,N,L⟩,G⟩-;obtain⟨E,x,hx,rfl,h,X⟩:=N.get (i:=0) S1;obtain rfl:n=x:=by simpa using hx
 obtain⟨P,y,hy,Q,f,-⟩:=N.get (i:=1) S1;cases Q;obtain rfl:m=y:=by simpa using hy
 repeat refine⟨rfl,?_⟩
 refine⟨E,0,⟨rfl,rfl,S1⟩,?_⟩;refine⟨_,h.lg Qr,?_⟩
 conv=>whnf
 rw[Zop (b:=⟨#[]⟩) F.ne];refine⟨E,0,⟨rfl,rfl,S1⟩,?_⟩;refine⟨_,h.lg Qr,Zft.any,(Qk7 [n] (by simpa using⟨F.b44,F.ne⟩) S1 (by show n.size<=_;omega)).mono ?_⟩;rintro _ U2⟨⟨a2,K,rfl,-,-⟩,z⟩-;have h:=h.lg z.lg.frz2;have f:=f.lg z.lg.frz2
 conv=>whnf
 rw[Zop (a:=w) (b:=⟨#[114,105,103,104,116]⟩) (by rw[B];decide)]
 conv=>whnf
 rw[Zq4 (a:=w) (b:=⟨#[99,97,115,101]⟩) B]
 repeat refine⟨rfl,?_⟩
 refine⟨E,1,⟨rfl,rfl,S1⟩,?_⟩;refine⟨_,f.lg Qr,?_⟩
 conv=>whnf
 rw[Zop (b:=⟨#[]⟩) I.ne];refine⟨E,0,⟨rfl,rfl,S1⟩,?_⟩;refine⟨_,h.lg Qr,E,1,⟨rfl,rfl,S1⟩,?_⟩;refine⟨_,f.lg Qr,?_⟩
 conv=>whnf
 intro U3 H _
 conv=>whnf
 obtain⟨d,Y,T⟩:=Qpv Zcd;refine Zo5 Y T rfl ?_
 conv=>whnf
 exact⟨rfl,G.trans (z.trans H)⟩
def Zpy(l:List ByteArray)(K:∀x∈l,Qyt x)(hn:l.length<=10):Qb S 38 #[.string (Ent.line (.gr l))] (λ v U'=>Q32 U'.frz (.gr l) v/\U.le U') U:=by
 show Qb S 38 #[.string (Zjy ⟨#[103,114,111,117,110,100]⟩ [Qal (byB 44) l])] _ U;obtain⟨w,z⟩:∃w:ByteArray,w=⟨#[103,114,111,117,110,100]⟩:=⟨_,rfl⟩;have ab:w.size=6:=by rw[z];rfl
 rw[<- z];refine Qb.of (args:=[_]) Zna Qf S1 ?_;have V:=Qpt λ x B=>(K x B).sz;have X:=Zjx (c:=59) D1 λ x B=>(K x B).b59;obtain⟨j,Q⟩:∃j,j=Qal (byB 44) l:=⟨_,rfl⟩;rw[<- Q]at V X ⊢;refine⟨Znf.any,(Qp0 w [j] (by rw[z];decide) (by rw[z];simp[NoB]) (by simpa using X) S1 (by rw[Qn0,ByteArray.size_append,Qbd];omega)).mono ?_⟩;rintro _ U1⟨⟨a,cap,rfl,T,Y⟩,I⟩-;obtain⟨N,x,B,rfl,h,aa⟩:=T.get (i:=0) S1;obtain rfl:j=x:=by simpa using B
 have G:=Qk7 (S:=S) (U:=U1) l (λ x B=>⟨(K x B).b44,(K x B).ne⟩) O1 (by rw[<- Q];omega);rw[<- Q]at G
 repeat refine⟨rfl,?_⟩
 refine⟨N,0,⟨rfl,rfl,S1⟩,?_⟩;refine⟨_,h.lg Qr,?_⟩
 conv=>whnf
 by_cases Z:j=⟨#[]⟩
 .rw[Zq4 (b:=⟨#[]⟩) Z]
  conv=>whnf
  rw[Zq4 (a:=w) (b:=⟨#[103,114,111,117,110,100]⟩) z];refine⟨N,0,⟨rfl,rfl,S1⟩,?_⟩;refine⟨_,h.lg Qr,Zft.any,G.mono ?_⟩;rintro _ U2⟨⟨L,f,rfl,H,F⟩,E⟩-
  conv=>whnf
  rw[Zop (a:=w) (b:=⟨#[114,105,103,104,116]⟩) (by rw[z];decide)]
  conv=>whnf
  rw[Zop (a:=w) (b:=⟨#[99,97,115,101]⟩) (by rw[z];decide)]
  conv=>whnf
  rw[Zq4 (a:=w) (b:=⟨#[103,114,111,117,110,100]⟩) z]
  repeat refine⟨rfl,?_⟩
  conv=>whnf
  obtain⟨d,W,P⟩:=Qpv Zcc;refine Zo5 W P rfl ?_
  conv=>whnf
  exact⟨⟨L,f,rfl,H,F⟩,I.trans E⟩
 rw[Zop (b:=⟨#[]⟩) Z];refine⟨N,0,⟨rfl,rfl,S1⟩,?_⟩;refine⟨_,h.lg Qr,Zft.any,G.mono ?_⟩;rintro _ U2⟨⟨L,f,rfl,H,F⟩,E⟩-
 conv=>whnf
 rw[Zop (a:=w) (b:=⟨#[114,105,103,104,116]⟩) (by rw[z];decide)]
 conv=>whnf
 rw[Zop (a:=w) (b:=⟨#[99,97,115,101]⟩) (by rw[z];decide)]
 conv=>whnf
 rw[Zq4 (a:=w) (b:=⟨#[103,114,111,117,110,100]⟩) z]
 repeat refine⟨rfl,?_⟩
 conv=>whnf
 obtain⟨d,W,P⟩:=Qpv Zcc;refine Zo5 W P rfl ?_
 conv=>whnf
 exact⟨⟨L,f,rfl,H,F⟩,I.trans E⟩
def Zpw(l:List ByteArray)(F:∀x∈l,Qyt x)(hn:l.length<=10)(N:l≠[]):Qb S 38 #[.string (Ent.line (.af l))] (λ v U'=>Q32 U'.frz (.af l) v/\U.le U') U:=by
 show Qb S 38 #[.string (Zjy ⟨#[97,102,116,101,114]⟩ [Qal (byB 44) l])] _ U;obtain⟨w,z⟩:∃w:ByteArray,w=⟨#[97,102,116,101,114]⟩:=⟨_,rfl⟩;have ab:w.size=5:=by rw[z];rfl
 rw[<- z];refine Qb.of (args:=[_]) Zna Qf S1 ?_;have Q:=Qpt λ x f=>(F x f).sz;have V:=Zjx (c:=59) D1 λ x f=>(F x f).b59;obtain⟨j,G⟩:∃j,j=Qal (byB 44) l:=⟨_,rfl⟩;rw[<- G]at Q V ⊢;refine⟨Znf.any,(Qp0 w [j] (by rw[z];decide) (by rw[z];simp[NoB]) (by simpa using V) S1 (by rw[Qn0,ByteArray.size_append,Qbd];omega)).mono ?_⟩;rintro _ X⟨⟨a,cap,rfl,L,W⟩,H⟩-;obtain⟨T,x,f,rfl,h,aa⟩:=L.get (i:=0) S1;obtain rfl:j=x:=by simpa using f
 have E:=Qk7 (S:=S) (U:=X) l (λ x f=>⟨(F x f).b44,(F x f).ne⟩) O1 (by rw[<- G];omega);rw[<- G]at E
 repeat refine⟨rfl,?_⟩
 refine⟨T,0,⟨rfl,rfl,S1⟩,?_⟩;refine⟨_,h.lg Qr,?_⟩
 conv=>whnf
 have he:j≠⟨#[]⟩:=λ e=>by
  cases l with
  |nil=>exact N rfl
  |cons x r=>
   have f:=(F x (mem_cons_self ..)).ne;have h0:j.size=0:=by rw[e];rfl
   have h1:x.size<=j.size:=by
    rw[G];cases r with
    |nil=>exact Nat.le_refl _
    |cons y r=>rw[Qo5,Qvj];omega
   exact f (ByteArray.ext (Array.eq_empty_of_size_eq_zero (by show x.size=0;omega)))
 rw[Zop (b:=⟨#[]⟩) he];refine⟨T,0,⟨rfl,rfl,S1⟩,?_⟩;refine⟨_,h.lg Qr,Zft.any,E.mono ?_⟩;rintro _ U2⟨⟨Y,B,rfl,P,K⟩,I⟩-
 conv=>whnf
 rw[Zop (a:=w) (b:=⟨#[114,105,103,104,116]⟩) (by rw[z];decide)]
 conv=>whnf
 rw[Zop (a:=w) (b:=⟨#[99,97,115,101]⟩) (by rw[z];decide)]
 conv=>whnf
 rw[Zop (a:=w) (b:=⟨#[103,114,111,117,110,100]⟩) (by rw[z];decide)]
 conv=>whnf
 rw[Zq4 (a:=w) (b:=⟨#[97,102,116,101,114]⟩) z]
 repeat refine⟨rfl,?_⟩
 conv=>whnf
 obtain⟨d,hu,Z⟩:=Qpv Zq5;refine Zo5 hu Z rfl ?_
 conv=>whnf
 exact⟨⟨Y,B,rfl,P,K⟩,H.trans I⟩
def Zpj(e:Ent)(b:e.ok):Qb S 38 #[.string e.line] (λ v U'=>Q32 U'.frz e v/\U.le U') U:=
 match e,b with
 |.rt n,h=>Zpz n h
 |.cs n a,h=>Zpx n a h.1 h.2
 |.gr l,h=>Zpy l h.1 h.2
 |.af l,h=>Zpw l h.1 h.2.1 h.2.2
end
def Ent.fol:Ent->Option Ent->Prop
 |.rt _,none=>True
 |.rt _,some (.rt _)=>True
 |.rt _,_=>False
 |.cs _ _,_=>True
 |_,some (.cs _ _)=>True
 |_,some (.gr _)=>True
 |_,_=>False
def Zpp(U:Qa T):Option Ent->Value->Prop
 |none,v=>v=.nilIface
 |some e,v=>Q32 U e v
def Q32.lg{T:Type}{U U':Qa T}{e:Ent}{v:Value}(h:Q32 U e v)(k:U.lg U'):Q32 U' e v:=by
 cases e with
 |rt n=>exact h
 |cs n a=>exact h
 |gr l=>obtain⟨a,c,e,b,f⟩:=h;exact⟨a,c,e,b.lg k,f⟩
 |af l=>obtain⟨a,c,e,b,f⟩:=h;exact⟨a,c,e,b.lg k,f⟩
def Q32.iface{T:Type}{U:Qa T}{e:Ent}{v:Value}(h:Q32 U e v):∃t w,v=.iface t w:=by
 cases e with
 |rt n=>exact⟨_,_,h⟩
 |cs n a=>exact⟨_,_,h⟩
 |gr l=>obtain⟨a,c,e,-⟩:=h;exact⟨_,_,e⟩
 |af l=>obtain⟨a,c,e,-⟩:=h;exact⟨_,_,e⟩
def Zpp.lg{T:Type}{U U':Qa T}{e:Option Ent}{v:Value}(h:Zpp U e v)(k:U.lg U'):Zpp U' e v:=by
 cases e with
 |none=>exact h
 |some e=>exact Q32.lg h k
section
attribute [local irreducible] Qb Zp Wv
def Zfy:X5 prog 95=some (.agg #[.string ⟨#[]⟩]):=K1
def Zoa:X5 prog 98=some (.agg #[.string ⟨#[]⟩,.string ⟨#[]⟩]):=K1
def Zqf:X5 prog 146=some (.agg #[.nl]):=K1
def Zu1:(match prog.underlying 87 with|some (.interface b)=>b.size==1|_=>false)=true:=K1
def Zqe:∃b,prog.underlying 87=some (.interface b):=by
 have h:=Zu1;split at h
 .rename_i b hu;exact⟨b,hu⟩
 .cases h
def Zru(n:ByteArray)(la:Option Ent)(lv:Value)(I:(Ent.rt n).fol la)(E:Zpp U.frz la lv):Qb S 212 #[.agg #[.string n],lv] (λ v U'=>v=.bool true/\U'=U) U:=by
 refine Qb.pure' (Qb.of (args:=[_,_]) Zu2 Qf S1 ?_);obtain⟨d,F,B⟩:=Qpv Qz0;obtain⟨N,K,L⟩:=GU Zfy;obtain⟨P,z⟩:=Zqe;cases la with
 |none=>
  obtain rfl:=E
  conv=>whnf
  intro b G f _
  conv=>whnf
  refine Qo9 F B K L (t':=0) (v:=undef) D1 (.inr rfl) ?_
  conv=>whnf
  intro b5 w;refine⟨_,.refl _,rfl,Zv (vs:=[.string ⟨#[]⟩]) w rfl (by simp[Value.single]) λ H h _=>?_⟩
  conv=>whnf
  refine Zs9 z (λ _=>?_) (λ u v e=>by cases e) (.inl rfl)
  conv=>whnf
  exact⟨rfl,(f.trans h).lg⟩
 |some e=>
  cases e with
  |rt m=>
   obtain rfl:=E
   conv=>whnf
   intro b G f _
   conv=>whnf
   refine Qzu F B rfl ?_
   conv=>whnf
   intro b5 w;refine⟨_,.refl _,rfl,Zv (vs:=[.string m]) w rfl (by simp[Value.single]) λ H h _=>?_⟩
   conv=>whnf
   exact⟨rfl,(f.trans h).lg⟩
  |_=>exact I.elim
def Zrt(n m:ByteArray)(lv:Value):Qb S 213 #[.agg #[.string n,.string m],lv] (λ v U'=>v=.bool true/\U'=U) U:=by
 refine Qb.pure' (Qb.of (args:=[_,_]) Zu3 Qf S1 ?_)
 conv=>whnf
 intro b h f _
 conv=>whnf
 exact⟨rfl,f.lg⟩
def Znj(e:Ent)(lv:Value)(G:(∃n m,e=.cs n m)\/∃l,e=.gr l)(B:Q32 U.frz e lv):Qb S 215 #[lv] (λ v U'=>v=.bool true/\U'=U) U:=by
 refine Qb.of (args:=[_]) Zpc Qf S1 ?_;obtain⟨d,E,z⟩:=Qpv Zcd;obtain⟨K,H,I⟩:=GU Zoa;obtain⟨d',f,b⟩:=Qpv Zcc;obtain⟨F,h,w⟩:=GU Zqf;rcases G with⟨n,m,rfl⟩|⟨l,rfl⟩
 .obtain rfl:=B
  conv=>whnf
  refine Qzu E z rfl ?_
  conv=>whnf
  refine Qo9 f b h w (t':=98) D1 (.inl rfl) ?_
  conv=>whnf
  exact⟨rfl,rfl⟩
 .obtain⟨a,cap,rfl,-,-⟩:=B
  conv=>whnf
  refine Qo9 E z H I (t':=146) D1 (.inl rfl) ?_
  conv=>whnf
  refine Qzu f b rfl ?_
  conv=>whnf
  exact⟨rfl,rfl⟩
def Zp0(x:Value)(e:Ent)(lv:Value)(z:(∃n m,e=.cs n m)\/∃l,e=.gr l)(h:Q32 U.frz e lv):Qb S 214 #[.agg #[x],lv] (λ v U'=>v=.bool true/\U'=U) U:=by
 obtain⟨t,w,rfl⟩:=h.iface;refine Qb.pure' (Qb.of (args:=[_,_]) Zu4 Qf S1 ?_)
 conv=>whnf
 intro b B f _;refine⟨Zpc.any,(Znj e _ z (h.lg f.lg.frz2)).go λ _=>?_⟩
 conv=>whnf
 exact⟨rfl,f.lg⟩
def Zp1(x:Value)(e:Ent)(lv:Value)(z:(∃n m,e=.cs n m)\/∃l,e=.gr l)(h:Q32 U.frz e lv):Qb S 216 #[.agg #[x],lv] (λ v U'=>v=.bool true/\U'=U) U:=by
 obtain⟨t,w,rfl⟩:=h.iface;refine Qb.pure' (Qb.of (args:=[_,_]) Zu5 Qf S1 ?_)
 conv=>whnf
 intro b B f _;refine⟨Zpc.any,(Znj e _ z (h.lg f.lg.frz2)).go λ _=>?_⟩
 conv=>whnf
 exact⟨rfl,f.lg⟩
def Zu6:Ztv prog 95 "touchmark/rival.follows" 212=true:=K1
def Zu7:Ztv prog 98 "touchmark/rival.follows" 213=true:=K1
def Ztm:Ztv prog 146 "touchmark/rival.follows" 214=true:=K1
def Ztn:Ztv prog 148 "touchmark/rival.follows" 216=true:=K1
end
variable{l:List Nat}{l':List Int}
def Zwx{s:ByteArray}:∀(l:List ByteArray)(j i k:Nat),l.Nodup->l[k]?=some s->QK s (ZO j l) i=some (i+k,.int .i64 ((j+k:Nat):Int))
 |[],_,_,_,_,h=>by cases h
 |a::l,j,i,k,z,h=>by
  obtain⟨f,w⟩:=nodup_cons.1 z;simp only[ZO,QK];cases k with
  |zero=>
   obtain rfl:a=s:=by simpa using h
   simp
  |succ k=>
   have h:l[k]?=some s:=by simpa using h
   have b:¬s=a:=λ e=>f (e▸mem_of_getElem? h);rw[if_neg b,Zwx l (j+1) (i+1) k w h];congr 2
   .omega
   .congr 2;omega
def Qky(l:List Nat):List Int:=l.map Int.ofNat
def Zj1(l:List Nat):(Qky l).length=l.length:=by simp[Qky]
def Zwz(h:l[n]?=some b):(Qky l)[n]?=some (b:Int):=by simp[Qky,h]
def Zwy(h:l.Pairwise (· < ·)):(Qky l).Pairwise (· < ·):=by
 unfold Qky;rw[pairwise_map];exact h.imp λ h=>Int.ofNat_lt.2 h
def Zx2{l:List Int}(z:l'.Perm l)(F:X8 l' l.length)(B:l.Pairwise (· < ·)):l'=l:=by
 refine Perm.eq_of_pairwise (le:=λ a b=>a<=b) (λ a b _ _ G H=>O1) ?_ (B.imp λ h=>O1) z;rw[pairwise_iff_getElem];intro i j E w f;exact F i j _ _ f (by rw[<- z.length_eq];exact w) (getElem?_eq_getElem E) (getElem?_eq_getElem w)
def Zx8(b:c.Nodup)(h:c[n]?=some r):lk r (ZO 0 c)=some (.int .i64 (n:Nat)):=by
 unfold lk;rw[Zwx c 0 0 n b h];simp
variable{m:Nat}{vs:List Value}{G:List Qw}{A:Qw}
section
attribute [local irreducible] Qb Zp Wv
def Zph(mb:Nat)(seen:List ByteArray)(s:ByteArray)(f:JB seen s=false)(X M₀:List Qw)(b:U.M=X++.obj mb (Qt Value.string (ZO 0 seen))::M₀) :
  Qb S 40 #[.map (some mb),.string s,.int .i64 seen.length] (λ _ U'=>U'={ U with M:=X++.obj mb (Qt Value.string (ZO 0 (seen++[s])))::M₀ }) U:=by
 refine Qb.of (args:=[_,_,_]) Zp7 Qf S1 ?_
 conv=>whnf
 refine YJ (k:=s) (l:=ZO 0 seen) UK I5 HA rfl rfl (.inr (by rw[b];simp)) ?_;rw[MW f]
 conv=>whnf
 refine Yv (v:=.int .i64 seen.length) (k:=s) (l:=ZO 0 seen) (M':=X++.obj mb (Qt Value.string (ZO 0 (seen++[s])))::M₀) UK I5 rfl rfl rfl (by rw[b,<- IM s seen 0 f,Nat.zero_add];exact P0 .here X) ?_
 repeat refine⟨rfl,?_⟩
 conv=>whnf
def Zxo(h:Acc m n v vs G M₀)(f:A∈M₀):A∈G:=by
 rcases h with⟨-,-,rfl⟩|⟨b,c,len,cap,-,-,-,-,rfl,-⟩
 .exact f
 .exact mem_cons_of_mem _ f
def Zb6(r:Value)(mb:Nat)(seen:List ByteArray)(Z:seen.Nodup)(hm:U.has mb (Qt Value.string (ZO 0 seen)))(a:Option Addr)(len cap:Nat)(B:List Nat)(l:List ByteArray)(hl:Qi9 U.frz a len l)
  (Y:∀(i:Nat)(x:ByteArray),l[i]?=some x->∃k,B[i]?=some k/\seen[k]?=some x) (aj:B.length=l.length) (ai:l.length<=12) (L:B.Pairwise (· < ·)) :
  Qb S 75 #[r,.map (some mb),.slice a len cap] (λ v U'=>(∃a' E,v=.slice a' B.length E/\Z3 U'.frz a' B.length (Qky B)/\B.length<=E)/\U.le U') U:=by
 have ak:=hl.1;refine Qb.sep (R:=λ v U'=>Acc 3 1 v ((Qky B).map λ n=>.int .i64 n) U'.M U.M/\(∀x o,U.I x=some o->U'.I x=some o)/\U'.tok=U.tok) (Qb.of (args:=[_,_,_]) Zoy Qf S1 ?_) ?_
 rotate_left
 .rintro v U' hs ⟨H,W,ht⟩;obtain⟨va,vl,vc,rfl,-⟩:=H.src;have hr:=H.room;obtain⟨U'',k1,k2,a',ah,E,e,P,T,ab,-⟩:=H.freeze (U:=U) hs W ht;cases e;rw[length_map,Zj1,Nat.mul_one]at P;subst P;refine⟨U'',k1,⟨va,vc,rfl,?_,hr⟩,k2⟩;have:=Kf T ab
  rwa [Zj1]at this
 obtain⟨i3,ag,ac,ae,am⟩:=IC
 conv=>whnf
 refine Na (n:=len) Pt ag ac rfl ae O1 rfl rfl O1 λ b hb=>?_;refine⟨Nat×Value,λ y=>[(0,r),(1,.map (some mb)),(2,.slice a len cap),(7,y.2),(15,.slice a len cap),(16,.int .i64 len),(17,.int .i64 y.1)],λ y U'=>Acc 3 1 y.2 ((Qky (B.take y.1)).map λ n=>.int .i64 n) U'.M U.M/\U.frz.lg U'.frz/\y.1<=len,λ y=>len-y.1,(0,.slice (some ⟨b,0,none⟩) 0 len),T1,⟨.inr ⟨b,_,0,len,rfl,rfl,Nat.zero_le _,S1,rfl,λ i x hx=>by simp[Qky]at hx⟩,⟨λ _ _ h=>h,⟨[],rfl⟩,rfl⟩,O1⟩,?_⟩;rintro⟨i,v⟩f U1⟨w,z,hi⟩;simp only at w hi;have N:Ja ((i:Int)+1):=I1
 obtain⟨sa,sl,sc,rfl,-⟩:=w.src
 repeat refine⟨rfl,?_⟩
 conv=>whnf
 apply Qg<;>intro V
 .have hlt:i<len:=by simpa using V
  clear V;obtain⟨ad,x,hx,ea,Q,-⟩:=(hl.lg z).get hlt;obtain⟨k,hk,aa⟩:=Y i x hx;refine⟨ad,i,⟨ea,rfl,hlt⟩,_,Q.lg Qr,?_⟩
  conv=>whnf
  refine YJ (k:=x) (l:=ZO 0 seen) UK I5 HA rfl rfl ?_ ?_
  .exact hm.imp (λ h=>z.imm _ _ h) (Zxo w)
  rw[Zx8 Z aa]
  conv=>whnf
  intro bb G;refine Zi G λ U2 F G=>?_;have et:Qky (B.take (i+1))=Qky (B.take i)++[(k:Int)]:=by rw[take_add_one,hk];simp[Qky]
  have al:(Qky (B.take i)).length<=12:=by rw[Zj1,length_take];omega
  conv=>whnf
  refine Wn (v:=.slice sa sl sc) (cs:=(Qky (B.take i)).map λ n=>.int .i64 n) (new:=[.int .i64 (k:Nat)]) (M₀:=U.M) H0 rfl rfl (by rw[F.own];exact w) (.inr ⟨_,rfl,G.rd⟩) rfl (by simp[Value.single]) (by rw[length_map];simp;omega) λ v' M' K _=>?_;obtain⟨ta,tl,tc,rfl,-⟩:=Acc.src (U:={ U2 with M:=M' }) K;refine⟨N,rfl,(i+1,.slice ta tl tc),T1,⟨?_,⟨λ y o h=>F.imm y o (z.imm y o h),⟨[],rfl⟩,F.tok.trans z.tok⟩,by show i+1<=_;omega⟩,L1⟩;show Acc 3 1 _ ((Qky (B.take (i+1))).map _) M' U.M;rw[et,map_append];exact K
 have X:i=len:=by
  have:(len:Int)<=i:=by simpa using V
  omega
 subst X;clear V N;rw[take_of_length_le O1]at w;refine⟨Fq.any,(zs _ (Qky B) U.M w (by rw[Zj1];omega)).mono ?_⟩;rintro _ U2⟨W,ht,l',hp,hs,H⟩-;rw[Zx2 hp hs (Zwy L)]at H
 conv=>whnf
 exact⟨H,λ y o h=>W y o (z.imm y o h),ht.trans z.tok⟩
end
variable{U' U'':Qa T}{e:TypeId}{first:Array Value}{Q:Qa T->Prop}{last:List (List Value)}{cs:List Cs}{H:Cs}{rm rb:Nat}{cells:List Value}{cur:Option Cs}{ca:Option Addr}{o:Int}{rs:List ByteArray}
structure Hlr(U:Qa T)(b:Nat)(e:TypeId)(c:Array Value)(U':Qa T):Prop where
 imm:∀x o,U.I x=some o->U'.I x=some o
 own:U'.M=.obj b (.cells c e (0,0))::U.M
 tok:U'.tok=U.tok
 new:U.I b=none
def Hlr.le{U U' U'':Qa T}{b:Nat}{e:TypeId}{c:Array Value}(h:Hlr U b e c U')(k:U'.le U''):Hlr U b e c U'':=⟨λ x o i=>k.imm x o (h.imm x o i),k.own.trans h.own,k.tok.trans h.tok,h.new⟩
def Hlr.frz2(h:Hlr U b e first U'):U.frz.lg U'.frz:=⟨h.imm,⟨[],rfl⟩,h.tok⟩
def Hlr.frz1(h:Hlr U b e first U'):U.frz.lg U':=⟨h.imm,⟨_,(append_nil _).symm⟩,h.tok⟩
def Hlr.made(h:U.le U')(w:U'.free b):Hlr U b e first (U'.put b (.cells first e)):=by
 refine⟨h.imm,by show _::U'.M=_;rw[h.own],h.tok,?_⟩;cases f:U.I b with
 |none=>rfl
 |some o=>have:=h.imm b o f;rw[w.1]at this;cases this
def Hlr.write(h:Hlr U b e first U')(w:first.size=vs.length)(B:∀v∈vs,v.single=true)(z:∀f,U.le f->Zj f b vs.toArray->Q f):QZ ⟨b,0,none⟩ vs 0 (λ U'=>∃f,Qv U' f/\Q f) U':=by
 refine KU [] vs 0 first U' h.own B O1 ?_;rw[VQ w];refine⟨_,Wa (b:=b) (M':=U.M) (Perm.refl _),z _ ⟨λ x o i=>?_,rfl,h.tok⟩ Zj.new⟩;show Z_ U'.I b _ x=_;unfold Z_;rw[if_neg]
 .exact h.imm x o i
 .rintro rfl;rw[h.new]at i;cases i
def Qu8{m:Nat}:∀{L:List (List Value)},(∀r∈L,r.length=m)->L.flatten.length=L.length*m
 |[],_=>S1
 |r::L,h=>by
  rw[flatten_cons,length_append,h r (mem_cons_self ..),Qu8 λ x b=>h x (mem_cons_of_mem _ b),length_cons,Nat.succ_mul];omega
def Zqi{m:Nat}:∀{L:List (List Value)},(∀r∈L,r.length=m)->∀{j k:Nat}{r:List Value},L[j]?=some r->k<m->L.flatten[j*m+k]?=r[k]?
 |[],_,j,k,r,b,_=>by simp at b
 |a::L,h,0,k,r,b,f=>by
  simp at b;subst b;rw[flatten_cons,Nat.zero_mul,Nat.zero_add,getElem?_append_left (by rw[h a (mem_cons_self ..)];exact f)]
 |a::L,h,j+1,k,r,b,f=>by
  simp at b;have w:=h a (mem_cons_self ..);rw[flatten_cons,getElem?_append_right (by rw[w,Nat.succ_mul];omega),w,show(j+1)*m+k-m=j*m+k by rw[Nat.succ_mul];omega];exact Zqi (λ x z=>h x (mem_cons_of_mem _ z)) b f
def Qvi(U:Qa T)(rows:List (List Value))(cs:List Cs):Prop:=rows.length=cs.length/\∀(i:Nat)(c:Cs),cs[i]?=some c->∃r,rows[i]?=some r/\HF U.frz c r
def Qvi.lg{rows:List (List Value)}{cs:List Cs}(h:Qvi U rows cs)(k:U.frz.lg U'.frz):Qvi U' rows cs:=⟨h.1,λ i c b=>let ⟨r,e,hr⟩:=h.2 i c b;⟨r,e,hr.lg k⟩⟩
def Qvi.nil:Qvi U [] []:=⟨rfl,λ i c h=>by simp at h⟩
def Qvi.snoc(h:Qvi U last cs)(w:HF U.frz H vs):Qvi U (last++[vs]) (cs++[H]):=by
 refine⟨by simp[h.1],λ i x b=>?_⟩;rw[getElem?_append]at b;split at b
 .rename_i hlt;obtain⟨z,e,f⟩:=h.2 i x b;exact⟨z,by rw[getElem?_append_left (by rw[h.1];exact hlt)];exact e,f⟩
 .rename_i hge;have:i=cs.length:=by have:=(List.getElem?_eq_some_iff.1 b).1;simp at this;omega
  subst this;simp at b;subst b;exact⟨vs,by rw[<- h.1];simp,w⟩
def Qvi.row(h:Qvi U last cs):∀r∈last,r.length=4:=by
 intro r w;obtain⟨i,f⟩:=getElem?_of_mem w;have b:i<cs.length:=by rw[<- h.1];exact(List.getElem?_eq_some_iff.1 f).1
 obtain⟨B,e,ga,gl,gc,z,al,ac,rfl,-⟩:=h.2 i _ (getElem?_eq_getElem b);rw[f]at e;cases e;rfl
def Qvi.rows{rows:List (List Value)}{cs:List Cs}{a:Option Addr}(h:Qvi U rows cs)(L:Src U.frz a rows.flatten)(w:∀b,a=some b->b.spot=none):Q8 U.frz a cs.length 4 cs (HF U.frz):=by
 refine⟨rfl,λ i c G=>?_⟩;obtain⟨r,e,K⟩:=h.2 i c G;have E:=h.row r (mem_of_getElem? e);rcases L with⟨_,I⟩|⟨b,B,f⟩
 .have h1:=Qu8 h.row;rw[I]at h1;have N:=(List.getElem?_eq_some_iff.1 e).1;simp at h1;omega
 .have hs0:=w b B;refine⟨b,r,B,hs0,K,E,λ j v F=>?_⟩;have H:j<4:=by rw[<- E];exact(List.getElem?_eq_some_iff.1 F).1
  have z:=f (i*4+j) v (by rw[Zqi h.row e H];exact F);obtain⟨bb,P,Q⟩:=b;cases hs0;rw[Qo]at z;rw[Qo,Qo,Nat.add_assoc];exact z
def HqV(h:Qa T)(R:Qa T->Prop)(b:Nat)(e:TypeId)(z:Array Value)(U':Qa T):Prop:=∃f,h.le f/\R f/\Hlr f b e z U'
def HqV.le{f:Qa T}{R:Qa T->Prop}{b:Nat}{e:TypeId}{z:Array Value}(h:HqV f R b e z U')(k:U'.le U''):HqV f R b e z U'':=let ⟨d,h1,h2,h3⟩:=h;⟨d,h1,h2,h3.le k⟩
def Qi9.one(h:Zj U b #[.string r]):Qi9 U (some ⟨b,0,none⟩) 1 [r]:=by
 refine⟨rfl,λ i x f=>?_⟩;obtain rfl:i=0:=by have:=(List.getElem?_eq_some_iff.1 f).1;simp at this;omega
 obtain rfl:r=x:=by simpa using f
 exact⟨_,_,rfl,rfl,rfl,rfl,Zl8 (by rw[Qo];exact h.sees rfl)⟩
def Js.cell(h:Js m n (.slice a rm rb) cells M₀)(z:cells≠[]) :
  ∃(b:Nat)(ca:Array Value),a=some ⟨b,0,none⟩/\M₀=[.obj b (.cells ca m (0,0))]/\cells.length=rm*n/\(∀(i:Nat)(x:Value),cells[i]?=some x->ca[i]?=some x)/\cells.length<=ca.size/\∀(i:Nat)(v:Value),i<cells.length->Js m n (.slice a rm rb) (cells.set i v) [.obj b (.cells (ca.setIfInBounds i v) m (0,0))]:=by
 rcases h []with⟨-,K,-⟩|⟨b,ca,len,cap,I,w,E,F,H,G⟩
 .exact absurd K z
 .cases I;rw[append_nil]at H;have B:cells.length<=ca.size:=by rw[w,F];exact Nat.mul_le_mul_right _ E
  refine⟨b,ca,rfl,H,w,G,B,λ i v N L=>.inr ⟨b,_,rm,rb,rfl,by simpa using w,E,by simpa using F,rfl,λ j x f=>?_⟩⟩;rw[getElem?_set]at f;rw[Array.getElem?_setIfInBounds];split at f
  .rename_i m;subst m;simp at f;subst f;simp;omega
  .rename_i hne';rw[if_neg hne'];exact G j x f
def Zs3(h:last.flatten.length=n):(last++[vs]).flatten.set (n+b) v=(last++[vs.set b v]).flatten:=by
 rw[flatten_append,flatten_append,set_append_right _ _ O1];congr 1;rw[h,Nat.add_sub_cancel_left];simp
structure Zxf{T:Type}(U:Qa T)(c:Cs)(row:List Value)(G:List Qw):Prop where
 ex:∃(ga:Option Addr)(gl gc:Nat)(aa:Option Addr)(ac:Nat)(vals:List Value),row=[.string c.nm,.int .i64 c.ag,.slice ga gl gc,.slice aa c.af.length ac]/\Js 37 1 (.slice ga gl gc) vals G/\vals.length=c.gs.length/\(∀(i:Nat)(l:List Int),c.gs[i]?=some l->l.length<2^60/\∃a cap,vals[i]?=some (.slice a l.length cap)/\Z3 U.frz a l.length l)/\Z3 U.frz aa c.af.length c.af/\c.gs.length<=40/\c.af.length<=40
def Zxf.lg{T:Type}{U U':Qa T}{c:Cs}{row:List Value}{G:List Qw}(h:Zxf U c row G)(k:U.frz.lg U'.frz):Zxf U' c row G:=by
 obtain⟨ga,gl,gc,f,ac,b,w,z,B,E,F,H⟩:=h;exact⟨ga,gl,gc,f,ac,b,w,z,B,λ i l I=>let ⟨h0,a,cap,e,hi⟩:=E i l I;⟨h0,a,cap,e,hi.lg k⟩,F.lg k,H⟩
def Zqp(U:Qa T)(cur:Option Cs)(last:List (List Value))(G:List Qw):Prop:=match cur with
 |none=>last=[]/\G=[]
 |some c=>∃row,last=[row]/\Zxf U c row G
def Zqp.lg{T:Type}{U U':Qa T}{cur:Option Cs}{last:List (List Value)}{G:List Qw}(h:Zqp U cur last G)(k:U.frz.lg U'.frz):Zqp U' cur last G:=by
 cases cur with
 |none=>exact h
 |some c=>obtain⟨row,e,b⟩:=h;exact⟨row,e,b.lg k⟩
def rdC(f b:Value)(rm cm:Nat)(ln:Int):List Value:=[f,b,.map (some rm),.map (some cm),.int .i64 ln]
def Zr5(R C G B:List Qw):Perm (R++(C++(G++B))) (G++(R++(C++B))):=
 (Perm.append_left R (perm_append_comm_assoc C G B)).trans (perm_append_comm_assoc R G _)
structure Rdg{T:Type}(U:Qa T)(rb rm cm:Nat)(ln:Int)(rs:List ByteArray)(cs:List Cs)(cur:Option Cs)(M₀:List Qw):Prop where
 ex:∃(ra:Option Addr)(rl rc:Nat)(ca:Option Addr)(cl cc:Nat)(R C G:List Qw)(rows last:List (List Value)),Js 9 1 (.slice ra rl rc) (rs.map Value.string) R/\Js 39 4 (.slice ca cl cc) (rows++last).flatten C/\Qvi U rows cs/\Zqp U cur last G/\rs.length<=40/\cs.length<=40 /\
  U.M.Perm (R++(C++(G++.obj rb (.cells (rdC (.slice ra rl rc) (.slice ca cl cc) rm cm ln).toArray 84 (0,0))::M₀)))
def Zqp.row{T:Type}{U:Qa T}{cur:Option Cs}{last:List (List Value)}{G:List Qw}(h:Zqp U cur last G):last.length=cur.toList.length/\∀r∈last,r.length=4:=by
 cases cur with
 |none=>obtain⟨rfl,-⟩:=h;exact⟨rfl,λ r b=>by cases b⟩
 |some c=>
  obtain⟨row,rfl,ga,gl,gc,w,ac,f,rfl,-⟩:=h;exact⟨rfl,λ r b=>by rw[mem_singleton.1 b];rfl⟩
def Zw3{rows:List (List Value)}(h:Qvi U rows cs)(k:Zqp U cur last G):∀r∈rows++last,r.length=4:=λ r b=>
 (mem_append.1 b).elim (h.row r) (k.row.2 r)
def Zxs{rows:List (List Value)}(h:Qvi U rows cs)(k:Zqp U cur last G)(f:Js 39 4 (.slice ca n m) (rows++last).flatten M₀):n=cs.length+cur.toList.length:=by
 obtain⟨a,l,c,e,b⟩:=f.src;cases e;rw[Qu8 (Zw3 h k),length_append,h.1,k.row.1]at b;omega
def Zw2{rows:List (List Value)}(h:Qvi U rows cs)(k:Zqp U cur last G)(b:Js 39 4 (.slice ca n m) (rows++last).flatten M₀)(z:cs.length<=40):n<=100:=by
 have f:=Zxs h k b;have w:cur.toList.length<=1:=by cases cur <;> simp
 omega
def Rdg.close(hs:JP U)(h:Rdg U rb rm n o rs cs cur M₀)(P:cs.length<40) :
  ∃U',Qv U U'/\Rdg U' rb rm n o rs (cs++cur.toList) none M₀/\U.frz.lg U'.frz:=by
 cases cur with
 |none=>exact⟨U,.refl _,by simpa using h,⟨λ _ _ h=>h,⟨[],rfl⟩,rfl⟩⟩
 |some c=>
  obtain⟨ra,rl,rc,ca,cl,cc,R,C,G,rows,last,W,Q,b,⟨row,rfl,ga,gl,gc,L,ac,K,rfl,S,ab,F,H,ae,ag⟩,B,Y,V⟩:=h;obtain⟨U',k1,k2,w,a,len,cap,e,X,f,E⟩:=S.freeze hs (V.trans (Zr5 R C G _));cases e;rw[Nat.mul_one]at X;refine⟨U',k1,⟨ra,rl,rc,ca,cl,cc,R,C,[],rows++[_],[],W,by rw[append_nil];exact Q,(b.lg w).snoc ⟨ga,gl,gc,L,c.af.length,ac,rfl,⟨O1,λ i l z=>?_⟩,?_,H.lg w,?_⟩,⟨rfl,rfl⟩,B,S3,by rw[k2];exact Perm.refl _⟩,w⟩
  .obtain⟨h0,a',cap',e',hi⟩:=F i l z;rcases f with⟨_,N⟩|⟨I,rfl,Z⟩
   .rw[N]at e';cases e'
   .refine⟨I,_,rfl,E I rfl,⟨a',l.length,cap',rfl,hi.lg w,h0⟩,rfl,Zl8 (by rw[Nat.mul_one];exact Z i _ e')⟩
  .omega
  .omega
def Zpe:List (List (Nat×St)):=[[(0,.m 20 0),(0,.m 21 0),(0,⟨.nilc (.t 21),some 22,none,none⟩),(0,.xo 23 0 22),(0,.xo 24 0 23),(0,.xl 25 24),(0,.xo 26 0 5),(0,.xl 27 26),(2,.d 28 (.bsl 9 1 #[(.string ⟨#[]⟩)] [(0,1,(.t 27))])),(2,.xz 29 25 28 22)]]
def Zsp:List St:=[⟨.nilc (.t 20),some 30,none,none⟩,.xo 31 0 30,.xo 32 0 31,⟨.st 1 (.t 32) (.t 29),none,none,none⟩]
def Zpf:List (List (Nat×St)):=[[(0,.m 36 0),(0,.m 37 0),(0,⟨.nilc (.t 37),some 38,none,none⟩),(0,.xo 39 0 38),(0,.xo 40 1 39),(0,.xl 41 40),(0,.xo 42 0 6),(0,.xl 43 42),(0,.m 44 0),(0,.m 45 0),(0,⟨.nilc (.t 45),some 46,none,none⟩),(0,.xo 47 2 46),(0,.xl 48 47),(0,.xo 49 1 6),(0,.xl 50 49),(2,.d 51 (.bsl 9 1 #[(.string ⟨#[]⟩)] [(0,1,(.t 50))])),(2,.d 52 (.call (.func 75) #[(.t 44),(.t 48),(.t 51)])),(0,.d 53 (.idx 1 (.t 52) (.ci 0))),(2,.xl 54 53),(0,⟨.build #[(.string ⟨#[]⟩),(.int .i64 0),.nl,.nl] [(0,1,(.t 43)),(1,1,(.t 54))],some 55,none,none⟩),(2,.d 56 (.bsl 39 1 #[(.string ⟨#[]⟩),(.int .i64 0),.nl,.nl] [(0,4,(.t 55))])),(2,.xz 57 41 56 23)]]
def Zsq:List St:=[⟨.nilc (.t 36),some 58,none,none⟩,.xo 59 0 58,.xo 60 1 59,⟨.st 1 (.t 60) (.t 57),none,none,none⟩]
def Zo1:List (List (Nat×St)):=[[(0,.m 64 0),(0,⟨.nilc (.t 64),some 65,none,none⟩),(0,.xo 66 0 65),(0,.xo 67 1 66),(0,.xl 68 67),(0,.m 69 4),(0,.m 70 0),(0,⟨.nilc (.t 70),some 71,none,none⟩),(0,.xo 72 0 71),(0,.xo 73 1 72),(0,.xl 74 73),(0,.m 75 4),(0,.xi 76 4 74 75),(0,.xo 77 2 76),(0,.xl 78 77),(0,.m 79 0),(0,.m 80 0),(0,⟨.nilc (.t 80),some 81,none,none⟩),(0,.xo 82 2 81),(0,.xl 83 82),(0,.xo 84 0 7),(0,.xl 85 84),(2,.d 86 (.call (.func 75) #[(.t 79),(.t 83),(.t 85)])),(2,.d 87 (.bsl 37 1 #[.nl] [(0,1,(.t 86))])),(2,.xz 88 78 87 36)]]
def Zrz:List St:=[.xi 89 4 68 69,.xo 90 2 89,⟨.st 1 (.t 90) (.t 88),none,none,none⟩]
def Zo2:List (List (Nat×St)):=[[(0,.m 94 0),(0,⟨.nilc (.t 94),some 95,none,none⟩),(0,.xo 96 0 95),(0,.xo 97 1 96),(0,.xl 98 97),(0,.m 99 4),(0,.m 100 0),(0,.m 101 0),(0,⟨.nilc (.t 101),some 102,none,none⟩),(0,.xo 103 3 102),(0,.xl 104 103),(0,.xo 105 0 8),(0,.xl 106 105),(2,.d 107 (.call (.func 75) #[(.t 100),(.t 104),(.t 106)]))]]
def Zr0:List St:=[.xi 108 4 98 99,.xo 109 3 108,⟨.st 1 (.t 109) (.t 107),none,none,none⟩]
section
attribute [local irreducible] Qb Zp Wv
def Zqy(rb rm cm:Nat)(ln:Int)(rs:List ByteArray)(cs:List Cs)(cur:Option Cs)(M₀:List Qw)(n:ByteArray)(h:Rdg U rb rm cm ln rs cs cur M₀)(hr:rs.length<40) :
  Qb S 41 #[.pb rb,.iface 95 (.agg #[.string n])] (λ _ U'=>Rdg U' rb rm cm ln (rs++[n]) cs cur M₀/\U.frz.lg U'.frz) U:=by
 obtain⟨ra,rl,rc,ca,cl,cc,R,C,G,rows,last,hR,X,E,L,a0,aj,hM⟩:=h;obtain⟨Y,hY⟩:∃Y,Y=C++(G++.obj rb (.cells (rdC (.slice ra rl rc) (.slice ca cl cc) rm cm ln).toArray 84 (0,0))::M₀):=⟨_,rfl⟩;have ag:Y=(C++G)++.obj rb (.cells (rdC (.slice ra rl rc) (.slice ca cl cc) rm cm ln).toArray 84 (0,0))::M₀:=by rw[hY];simp
 rw[<- hY]at hM;refine Qb.shift (W3 hM) (Qb.of (args:=[_,_]) Znc Qf S1 ?_);obtain⟨τ,hτ⟩:∃τ:Qa T,τ={ U with M:=R++Y }:=⟨_,rfl⟩;rw[<- hτ];have ae:τ.M=R++Y:=by rw[hτ]
 have ad:τ.M=(R++(C++G))++.obj rb (.cells (rdC (.slice ra rl rc) (.slice ca cl cc) rm cm ln).toArray 84 (0,0))::M₀:=by rw[ae,hY];simp
 have aw:U.frz.lg τ.frz:=by rw[hτ];exact⟨λ _ _ h=>h,⟨[],rfl⟩,rfl⟩
 have az:cl<=100:=Zw2 E L X aj;obtain⟨d,hu,hd⟩:=Qpv Qz0;refine⟨_,(Q9 _ ad).cell (i:=1) rfl,I1,?_⟩
 conv=>whnf
 refine Qzu hu hd rfl ?_
 conv=>whnf
 intro b5 av;refine⟨_,.refl _,rfl,Zv (vs:=[.string n]) av rfl (by simp[Value.single]) λ K Q al=>?_⟩;have P:K.M=R++Y:=Q.own.trans ae;have ay:=Q.own.trans ad;have ak:=aw.trans Q.lg.frz2
 conv=>whnf
 intro ac B
 refine xB (mu:=[1004,1007,1010,1013]) (ops:=GO Tryz.f41 4) (id:=4) B [8,9] [[0,1,2,3,4,5,6,7,8,9]] [10,11,12,13] Zpe Zsp Qf K1 K1 K1 K1 K1
  (λ f' aa U'=>aa=[]/\∃(w:Option Addr)(vl z:Nat)(R':List Qw),Xr f' [(20,.pb rb),(29,.slice w vl z)]/\Js 9 1 (.slice w vl z) (rs.map Value.string++[.string n]) R'/\U'.M=R'++Y/\K.frz.lg U'.frz) { K with M:=Y } (λ U' h=>⟨h.imm,⟨R,h.own.trans P⟩,h.tok⟩) ?_ ?_
 .intro l' hl';simp only[Zpe,mem_cons,not_mem_nil,or_false]at hl';subst hl';refine⟨_,(Q9 (U:={ K with M:=Y }) (C++G) ag).cell (i:=0) rfl,_,(Zj.imI (U':={ K with M:=Y }) al λ _ _ h=>h).sees3 (o:=0) rfl,λ v U'=>∃f,v=.slice (some ⟨f,0,none⟩) 1 1/\Zj U' f #[.string n]/\K.le U',λ v x y⟨f,e,Z,hl⟩b=>⟨f,e,Z.le b,hl.trans b⟩,λ v U'⟨f,e,Z,hl⟩=>⟨hl.imm,⟨R,hl.own.trans P⟩,hl.tok⟩,λ U' X=>?_,λ v hv=>?_⟩
  .have b:K.le U':=X
   conv=>whnf
   intro f ah;exact Zi ah λ U3 aq Z=>⟨U3,.refl _,f,rfl,Z,b.trans aq⟩
  obtain⟨_,f,rfl,-⟩:=hv;refine⟨λ v U'=>∃w vl z R',v=.slice w vl z/\Js 9 1 (.slice w vl z) (rs.map Value.string++[.string n]) R'/\U'.M=R'++Y/\K.frz.lg U'.frz,λ v x y⟨w,vl,z,R',e,h1,h2,W⟩b=>⟨w,vl,z,R',e,h1,b.own.trans h2,W.trans b.lg.frz2⟩,λ v U'⟨w,vl,z,R',e,h1,h2,W⟩=>⟨W.imm,⟨R',h2⟩,W.tok⟩,λ U' X=>?_,λ v hv=>?_⟩
  .obtain⟨b',e,Z,b⟩:=X;cases e
   conv=>whnf
   refine Wn (v:=.slice ra rl rc) (cs:=rs.map Value.string) (new:=[.string n]) (M₀:=Y) wB rfl rfl (by rw[b.own,P];exact hR Y) (.inr ⟨_,rfl,Z.rd⟩) rfl (by simp[Value.single]) (by rw[length_map];simp;omega) λ v' M' au _=>?_;obtain⟨R',an,F⟩:=au.split;obtain⟨xa,xl,xc,rfl,-⟩:=F.src;exact⟨_,.refl _,xa,xl,xc,R',rfl,F,an,⟨b.imm,⟨[],rfl⟩,b.tok⟩⟩
  obtain⟨_,w,vl,z,R',rfl,-⟩:=hv
  conv=>whnf
  rintro U'⟨a1,a3,a2,R',e,h1,h2,W⟩;cases e;exact⟨rfl,w,vl,z,R',T1,h1,h2,W⟩
 rintro f' aa U2⟨rfl,w,vl,z,R',ai,F,ao,N⟩;rw[<- ai.ovr];clear ai;have ab:U2.M=(R'++(C++G))++.obj rb (.cells (rdC (.slice ra rl rc) (.slice ca cl cc) rm cm ln).toArray 84 (0,0))::M₀:=by rw[ao,ag];simp
 refine⟨rfl,WJ (i:=0) (v:=.slice w vl z) (R'++(C++G)) ab (by show 0<5;omega) rfl λ U3 am ax ap=>?_⟩
 conv=>whnf
 intro a' H;refine⟨by rw[H.size,B.size],_,H.get,?_⟩;rw[H.ds];clear H B;have V:U.frz.lg U3.frz:=ak.trans ⟨λ x o hx=>by show U3.I x=_;rw[am];exact N.imm x o hx,⟨[],rfl⟩,by show U3.tok=_;rw[ax];exact N.tok⟩;refine⟨⟨w,vl,z,ca,cl,cc,R',C,G,rows,last,by rw[map_append];exact F,X,E.lg V,L.lg V,S3,aj,?_⟩,V⟩;rw[ap];simp only[append_assoc];exact Perm.refl _
def Zqw(rb rm cm:Nat)(ln:Int)(rs:List ByteArray)(cs:List Cs)(M₀:List Qw)(n m:ByteArray)(h:Rdg U rb rm cm ln rs cs none M₀)(hr:cs.length<40)
  (seen:List ByteArray) (ba:seen.Nodup) (bb:Qw.obj rm (Qt Value.string (ZO 0 seen))∈M₀) (k:Nat) (hk:seen[k]?=some m) :
  Qb S 41 #[.pb rb,.iface 98 (.agg #[.string n,.string m])] (λ _ U'=>Rdg U' rb rm cm ln rs cs (some ⟨n,k,[],[]⟩) M₀/\U.frz.lg U'.frz) U:=by
 obtain⟨ra,rl,rc,ca,cl,cc,R,C,G,rows,last,hR,P,B,⟨rfl,rfl⟩,a8,ap,hM⟩:=h;rw[append_nil]at P;obtain⟨Y,hY⟩:∃Y,Y=R++.obj rb (.cells (rdC (.slice ra rl rc) (.slice ca cl cc) rm cm ln).toArray 84 (0,0))::M₀:=⟨_,rfl⟩;have a2:U.M.Perm (C++Y):=by rw[hY];exact hM.trans (perm_append_comm_assoc R C _)
 clear hM;refine Qb.shift (W3 a2) (Qb.of (args:=[_,_]) Znc Qf S1 ?_);obtain⟨τ,hτ⟩:∃τ:Qa T,τ={ U with M:=C++Y }:=⟨_,rfl⟩;rw[<- hτ];have aj:τ.M=C++Y:=by rw[hτ]
 have a3:τ.M=(C++R)++.obj rb (.cells (rdC (.slice ra rl rc) (.slice ca cl cc) rm cm ln).toArray 84 (0,0))::M₀:=by rw[aj,hY];simp
 have a9:U.frz.lg τ.frz:=by rw[hτ];exact⟨λ _ _ h=>h,⟨[],rfl⟩,rfl⟩
 have be:cl<=100:=Zw2 B (cur:=none) (last:=[]) ⟨rfl,rfl⟩ (by rw[append_nil];exact P) ap;have a7:=Qu8 B.row;obtain⟨d,hu,hd⟩:=Qpv Qz0;obtain⟨bf,hi,hz⟩:=GU Zfy;obtain⟨d',bd,a6⟩:=Qpv Zcd;refine⟨_,(Q9 _ a3).cell (i:=1) rfl,I1,?_⟩
 conv=>whnf
 refine Qo9 hu hd hi hz (t':=98) D1 (.inl rfl) ?_
 conv=>whnf
 refine Qzu bd a6 rfl ?_
 conv=>whnf
 intro b6 a5;refine⟨_,.refl _,rfl,Zv (vs:=[.string n,.string m]) a5 rfl (by simp[Value.single]) λ F al ax=>?_⟩;have E:F.M=C++Y:=al.own.trans aj;have au:=a9.trans al.lg.frz2;have av:Qw.obj rm (Qt Value.string (ZO 0 seen))∈F.M:=by rw[E,hY];simp[bb]
 conv=>whnf
 intro ac Q
 refine xB (mu:=[1004,1007,1010,1013]) (ops:=GO Tryz.f41 7) (id:=7) Q [15,16,18,20,21] [[0,1,2,3,4,5,6,7,8,9,10,11,12,13,14,15,16,17,18,19,20,21]] [22,23,24,25] Zpf Zsq Qf K1 K1 K1 K1 K1
  (λ f' ah U'=>ah=[]/\∃(K:Option Addr)(vl L:Nat)(W:List Qw),Xr f' [(36,.pb rb),(57,.slice K vl L)]/\Js 39 4 (.slice K vl L) (rows.flatten++[.string n,.int .i64 k,.nl,.nl]) W/\U'.M=W++Y/\F.frz.lg U'.frz) { F with M:=Y } (λ U' h=>⟨h.imm,⟨C,h.own.trans E⟩,h.tok⟩) ?_ ?_
 .intro l' hl';simp only[Zpf,mem_cons,not_mem_nil,or_false]at hl';subst hl';have aa:=Zj.imI (U':={ F with M:=Y }) ax λ _ _ h=>h;refine⟨_,(Q9 (U:={ F with M:=Y }) R hY).cell (i:=1) rfl,_,aa.sees3 (o:=0) rfl,_,(Q9 (U:={ F with M:=Y }) R hY).cell (i:=2) rfl,_,aa.sees3 (o:=1) rfl,λ v U'=>∃f,v=.slice (some ⟨f,0,none⟩) 1 1/\Zj U' f #[.string m]/\F.le U',λ v x y⟨f,e,H,z⟩b=>⟨f,e,H.le b,z.trans b⟩,λ v U'⟨f,e,H,z⟩=>⟨z.imm,⟨C,z.own.trans E⟩,z.tok⟩,λ U' P=>?_,λ v Z=>?_⟩
  .have b:F.le U':=P
   conv=>whnf
   intro f am;exact Zi am λ U3 ag H=>⟨U3,.refl _,f,rfl,H,b.trans ag⟩
  obtain⟨_,f,rfl,-⟩:=Z;refine⟨λ v U'=>∃a' w,v=.slice (some a') 1 w/\a'.spot=none/\U'.frz.sees a' (.int .i64 k)/\F.le U',λ v x y⟨a',w,e,h0,h1,h2⟩b=>⟨a',w,e,h0,h1.lg b.lg.frz2,h2.trans b⟩,λ v U'⟨a',w,e,h0,h1,z⟩=>⟨z.imm,⟨C,z.own.trans E⟩,z.tok⟩,λ U' P=>?_,λ v Z=>?_⟩
  .obtain⟨b',e,H,b⟩:=P;cases e;refine⟨Zoy.any,(Zb6 _ rm seen ba (.inr (by rw[b.own];exact av)) (some ⟨f,0,none⟩) 1 1 [k] [m] ⟨rfl,λ i x hx=>?_⟩ (λ i x hx=>?_) rfl S1 S1).mono ?_⟩
   .exact(Qi9.one (U:=U'.frz) (Zj.imI H λ _ _ h=>h)).2 i x hx
   .obtain rfl:i=0:=by have:=(List.getElem?_eq_some_iff.1 hx).1;simp at this;omega
    obtain rfl:m=x:=by simpa using hx
    exact⟨k,rfl,hk⟩
   .rintro _ U4 ⟨⟨a',w,rfl,hi',-⟩,h_4⟩ -;obtain⟨ad,rfl,aw,V⟩:=hi'.2 0 k (Zwz (l:=[k]) rfl);exact⟨_,.refl _,ad,w,rfl,aw,by simpa[Addr.add]using V,b.trans h_4⟩
  obtain⟨_,a',w,rfl,aw,-⟩:=Z;refine⟨a',0,⟨rfl,rfl,O1⟩,λ v U'=>v=.int .i64 k/\F.le U',λ v x y⟨e,h⟩b=>⟨e,h.trans b⟩,λ v U'⟨_,z⟩=>⟨z.imm,⟨C,z.own.trans E⟩,z.tok⟩,λ U' P=>?_,λ v Z=>?_⟩
  .obtain⟨a'',cap'',e,-,V,b⟩:=P;cases e;refine⟨_,by simpa[Addr.add]using V.lg Qr,?_⟩;exact⟨_,.refl _,rfl,b⟩
  obtain⟨_,rfl,-⟩:=Z;refine⟨λ v U'=>∃N,v=.slice (some ⟨N,0,none⟩) 1 1/\Zj U' N #[.string n,.int .i64 k,.nl,.nl]/\F.le U',λ v x y⟨f,e,H,z⟩b=>⟨f,e,H.le b,z.trans b⟩,λ v U'⟨f,e,H,z⟩=>⟨z.imm,⟨C,z.own.trans E⟩,z.tok⟩,λ U' P=>?_,λ v Z=>?_⟩
  .obtain⟨-,b⟩:=P
   conv=>whnf
   intro N an;exact Zi an λ U3 ag H=>⟨U3,.refl _,N,rfl,H,b.trans ag⟩
  obtain⟨_,N,rfl,-⟩:=Z;refine⟨λ v U'=>∃K vl L W,v=.slice K vl L/\Js 39 4 (.slice K vl L) (rows.flatten++[.string n,.int .i64 k,.nl,.nl]) W/\U'.M=W++Y/\F.frz.lg U'.frz,λ v x y⟨K,vl,L,R',e,h1,h2,h3⟩b=>⟨K,vl,L,R',e,h1,b.own.trans h2,h3.trans b.lg.frz2⟩,λ v U'⟨K,vl,L,R',e,h1,h2,h3⟩=>⟨h3.imm,⟨R',h2⟩,h3.tok⟩,λ U' ae=>?_,λ v Z=>?_⟩
  .obtain⟨b',e,H,b⟩:=ae;cases e
   conv=>whnf
   refine Wn (v:=.slice ca cl cc) (cs:=rows.flatten) (new:=[.string n,.int .i64 k,.nl,.nl]) (M₀:=Y) FZ rfl rfl (by rw[b.own,E];exact P Y) (.inr ⟨_,rfl,H.rd⟩) rfl (by simp[Value.single]) (by rw[a7,B.1];simp;omega) λ v' M' a4 _=>?_;obtain⟨R',az,ak⟩:=a4.split;obtain⟨xa,xl,xc,rfl,-⟩:=ak.src;exact⟨_,.refl _,xa,xl,xc,R',rfl,ak,az,⟨b.imm,⟨[],rfl⟩,b.tok⟩⟩
  obtain⟨_,K,vl,L,R',rfl,-⟩:=Z
  conv=>whnf
  rintro U'⟨bg,bi,bh,R',e,h1,h2,h3⟩;cases e;exact⟨rfl,K,vl,L,R',T1,h1,h2,h3⟩
 rintro f' ah U2⟨rfl,K,vl,L,W,ao,ae,a0,ab⟩;rw[<- ao.ovr];clear ao;have ai:U2.M=(W++R)++.obj rb (.cells (rdC (.slice ra rl rc) (.slice ca cl cc) rm cm ln).toArray 84 (0,0))::M₀:=by rw[a0,hY];simp
 refine⟨rfl,WJ (i:=1) (v:=.slice K vl L) (W++R) ai (by show 1<5;omega) rfl λ U3 ay bc a1=>?_⟩
 conv=>whnf
 intro a' X;refine⟨by rw[X.size,Q.size],_,X.get,?_⟩;rw[X.ds];clear X Q;have aq:U.frz.lg U3.frz:=au.trans ⟨λ x o hx=>by show U3.I x=_;rw[ay];exact ab.imm x o hx,⟨[],rfl⟩,by show U3.tok=_;rw[bc];exact ab.tok⟩;refine⟨⟨ra,rl,rc,K,vl,L,R,W,[],rows,[[.string n,.int .i64 k,.nl,.nl]],hR,by rw[flatten_append];simpa using ae,B.lg aq,⟨_,rfl,none,0,0,none,0,[],rfl,.nil,rfl,λ i l h=>absurd h S1,⟨rfl,λ i x h=>absurd h S1⟩,Nat.zero_le 40,Nat.zero_le 40⟩,a8,ap,?_⟩,aq⟩;rw[a1];simp only[append_assoc,nil_append];exact perm_append_comm_assoc W R _
def Zqx(rb rm cm:Nat)(ln:Int)(rs:List ByteArray)(cs:List Cs)(c:Cs)(M₀:List Qw)(a:Option Addr)(len cap:Nat)(l:List ByteArray)(bv:Qi9 U.frz a len l)(h:Rdg U rb rm cm ln rs cs (some c) M₀)(hg:c.gs.length<40)
  (seen:List ByteArray) (bz:seen.Nodup) (b0:Qw.obj rm (Qt Value.string (ZO 0 seen))∈M₀) (z:List Nat) (bs:∀(i:Nat)(x:ByteArray),l[i]?=some x->∃k,z[i]?=some k/\seen[k]?=some x) (br:z.length=l.length) (a8:l.length<=12) (a2:z.Pairwise (· < ·)) :
  Qb S 41 #[.pb rb,.iface 146 (.agg #[.slice a len cap])] (λ _ U'=>Rdg U' rb rm cm ln rs cs (some { c with gs:=c.gs++[Qky z] }) M₀/\U.frz.lg U'.frz) U:=by
 obtain⟨ra,rl,rc,ca,cl,cc,R,C,G,rows,last,hR,hC,w,⟨row,rfl,ga,gl,gc,aa,ac,K,rfl,hG,a7,b4,b5,ch,b7⟩,bt,bu,hM⟩:=h;have ad:=Qu8 w.row;rw[w.1]at ad;obtain⟨L,cb,rfl,rfl,am,bm,cg,bn⟩:=hC.cell S1
 have am:cl=cs.length+1:=by
  rw[flatten_append,length_append,ad]at am;simp at am;omega
 have ap:∀r∈rows++[[Value.string c.nm,.int .i64 c.ag,.slice ga gl gc,.slice aa c.af.length ac]],r.length=4:=λ r hr=>(mem_append.1 hr).elim (w.row r) λ h=>by rw[mem_singleton.1 h];rfl
 have ah:(rows++[[Value.string c.nm,.int .i64 c.ag,.slice ga gl gc,.slice aa c.af.length ac]])[cs.length]?=some [Value.string c.nm,.int .i64 c.ag,.slice ga gl gc,.slice aa c.af.length ac]:=by rw[<- w.1];simp
 obtain⟨Y,hY⟩:∃Y,Y=.obj L (.cells cb 39 (0,0))::(R++.obj rb (.cells (rdC (.slice ra rl rc) (.slice (some ⟨L,0,none⟩) cl cc) rm cm ln).toArray 84 (0,0))::M₀):=⟨_,rfl⟩
 have bh:U.M.Perm (G++Y):=by
  rw[hY];refine hM.trans ((Zr5 R [.obj L (.cells cb 39 (0,0))] G _).trans (Perm.append_left G ?_));exact perm_append_comm_assoc R [_] _
 clear hM;have al:Y=(.obj L (.cells cb 39 (0,0))::R)++.obj rb (.cells (rdC (.slice ra rl rc) (.slice (some ⟨L,0,none⟩) cl cc) rm cm ln).toArray 84 (0,0))::M₀:=by rw[hY];simp
 refine Qb.shift (W3 bh) (Qb.of (args:=[_,_]) Znc Qf S1 ?_);obtain⟨τ,hτ⟩:∃τ:Qa T,τ={ U with M:=G++Y }:=⟨_,rfl⟩;rw[<- hτ];have ax:τ.M=G++Y:=by rw[hτ]
 have bi:τ.M=(G++(.obj L (.cells cb 39 (0,0))::R))++.obj rb (.cells (rdC (.slice ra rl rc) (.slice (some ⟨L,0,none⟩) cl cc) rm cm ln).toArray 84 (0,0))::M₀:=by rw[ax,al];simp
 have bx:U.frz.lg τ.frz:=by rw[hτ];exact⟨λ _ _ h=>h,⟨[],rfl⟩,rfl⟩
 obtain⟨d0,hu,hd⟩:=Qpv Qz0;obtain⟨b9,hi,hz⟩:=GU Zfy;obtain⟨d1,b3,bp⟩:=Qpv Zcd;obtain⟨ce,bq,b8⟩:=GU Zoa;obtain⟨d',b2,bo⟩:=Qpv Zcc;refine⟨_,(Q9 _ bi).cell (i:=1) rfl,I1,?_⟩
 conv=>whnf
 refine Qo9 hu hd hi hz (t':=146) D1 (.inl rfl) ?_
 conv=>whnf
 refine Qo9 b3 bp bq b8 (t':=146) D1 (.inl rfl) ?_
 conv=>whnf
 refine Qzu b2 bo rfl ?_
 conv=>whnf
 intro b6 bl;refine⟨_,.refl _,rfl,Zv (vs:=[.slice a len cap]) bl rfl (by simp[Value.single]) λ X az a9=>?_⟩;have Q:X.M=G++Y:=az.own.trans ax;have aj:=bx.trans az.lg.frz2;have a6:Qw.obj rm (Qt Value.string (ZO 0 seen))∈X.M:=by rw[Q,al];simp[b0]
 conv=>whnf
 intro cf V
 refine xB (mu:=[1004,1007,1010,1013]) (ops:=GO Tryz.f41 10) (id:=10) V [22,23,24] [[0,1,2,3,4,5,6,7,8,9,10,11,12,13,14,15,16,17,18,19,20,21,22,23,24]] [25,26,27] Zo1 Zrz Qf K1 K1 K1 K1 K1
  (λ f' au U'=>au=[]/\∃(a':Option Addr)(b:Nat)(F:Option Addr)(vl H:Nat)(N:List Qw),Xr f' [(68,.slice (some ⟨L,0,none⟩) cl cc),(69,.int .i64 ((cl:Int)-1)),(88,.slice F vl H)]/\Js 37 1 (.slice F vl H) (K++[.slice a' z.length b]) N/\Z3 U'.frz a' z.length (Qky z)/\U'.M=N++Y/\X.frz.lg U'.frz) { X with M:=Y } (λ U' h=>⟨h.imm,⟨G,h.own.trans Q⟩,h.tok⟩) ?_ ?_
 .intro l' hl';simp only[Zo1,mem_cons,not_mem_nil,or_false]at hl';subst hl';have av:=Zj.imI (U':={ X with M:=Y }) a9 λ _ _ h=>h;have W:=Q9 (U:={ X with M:=Y }) _ al;refine⟨_,W.cell (i:=1) rfl,_,W.cell (i:=1) rfl,⟨L,0,none⟩,cs.length,⟨rfl,O1,O1⟩,.slice ga gl gc,?_,?_⟩
  .rw[vF _ rfl,Qo,Nat.zero_add];exact⟨rfl,.inl ⟨cb,39,(0,0),.inr (by show _∈Y;rw[hY];exact mem_cons_self ..),bm _ _ (Zqi ap ah (by decide:2<4))⟩⟩
  refine⟨_,W.cell (i:=2) rfl,_,av.sees3 (o:=0) rfl,λ v U'=>∃a' b,v=.slice a' z.length b/\Z3 U'.frz a' z.length (Qky z)/\X.le U',λ v x y⟨a',b,e,Z,h1⟩f=>⟨a',b,e,Z.lg f.lg.frz2,h1.trans f⟩,λ v U'⟨a',b,e,Z,hl⟩=>⟨hl.imm,⟨G,hl.own.trans Q⟩,hl.tok⟩,λ U' hC=>?_,λ v hv=>?_⟩
  .have f:X.le U':=hC;refine⟨Zoy.any,(Zb6 _ rm seen bz (.inr (by rw[f.own];exact a6)) a len cap z l (bv.lg (aj.trans f.lg.frz2)) bs br a8 a2).mono ?_⟩;rintro _ U4⟨⟨a',b,rfl,E,-⟩,bj⟩-;exact⟨_,.refl _,a',b,rfl,E,f.trans bj⟩
  obtain⟨_,a',b,rfl,-⟩:=hv;refine⟨λ v U'=>∃P,v=.slice (some ⟨P,0,none⟩) 1 1/\Zj U' P #[.slice a' z.length b]/\Z3 U'.frz a' z.length (Qky z)/\X.le U',λ v x y⟨aq,e,hb,hi,hl⟩f=>⟨aq,e,hb.le f,hi.lg f.lg.frz2,hl.trans f⟩,λ v U'⟨aq,e,hb,hi,hl⟩=>⟨hl.imm,⟨G,hl.own.trans Q⟩,hl.tok⟩,λ U' hC=>?_,λ v hv=>?_⟩
  .obtain⟨a'',cap'',e,E,f⟩:=hC;cases e
   conv=>whnf
   intro P a3;exact Zi a3 λ U3 a1 hb=>⟨U3,.refl _,P,rfl,hb,E.lg a1.lg.frz2,f.trans a1⟩
  obtain⟨_,P,rfl,-⟩:=hv;refine⟨λ v U'=>∃F vl H N,v=.slice F vl H/\Js 37 1 (.slice F vl H) (K++[.slice a' z.length b]) N/\Z3 U'.frz a' z.length (Qky z)/\U'.M=N++Y/\X.frz.lg U'.frz,λ v x y⟨F,vl,H,R',e,h1,Z,h2,h3⟩f=>⟨F,vl,H,R',e,h1,Z.lg f.lg.frz2,f.own.trans h2,h3.trans f.lg.frz2⟩,λ v U'⟨F,vl,H,R',e,h1,Z,h2,h3⟩=>⟨h3.imm,⟨R',h2⟩,h3.tok⟩,λ U' ba=>?_,λ v hv=>?_⟩
  .obtain⟨b',e,hb,E,f⟩:=ba;cases e
   conv=>whnf
   refine Wn (v:=.slice ga gl gc) (cs:=K) (new:=[.slice a' z.length b]) (M₀:=Y) wC rfl rfl (by rw[f.own,Q];exact hG Y) (.inr ⟨_,rfl,hb.rd⟩) rfl (by simp[Value.single]) S3 λ v' M' bk _=>?_;obtain⟨R',be,ay⟩:=bk.split;obtain⟨xa,xl,xc,rfl,-⟩:=ay.src;exact⟨_,.refl _,xa,xl,xc,R',rfl,ay,E,be,⟨f.imm,⟨[],rfl⟩,f.tok⟩⟩
  obtain⟨_,F,vl,H,R',rfl,-⟩:=hv
  conv=>whnf
  rintro U'⟨cj,co,ck,R',e,h1,Z,h2,h3⟩;cases e;exact⟨rfl,a',b,F,vl,H,R',T1,h1,Z,h2,h3⟩
 rintro f' au U2⟨rfl,a',b,F,vl,H,N,a4,bb,E,bf,a5⟩;have aw:U2.M=N++.obj L (.cells cb 39 (0,0))::(R++.obj rb (.cells (rdC (.slice ra rl rc) (.slice (some ⟨L,0,none⟩) cl cc) rm cm ln).toArray 84 (0,0))::M₀):=by rw[bf,hY]
 rw[<- a4.ovr];clear a4;have bw:cs.length*4+2<(rows++[[Value.string c.nm,.int .i64 c.ag,.slice ga gl gc,.slice aa c.af.length ac]]).flatten.length:=by rw[flatten_append,length_append,ad];simp
 refine⟨⟨L,0,none⟩,cs.length,⟨rfl,O1,O1⟩,rfl,?_⟩;rw[vF _ rfl];refine WJ (i:=cs.length*4+2) (v:=.slice F vl H) N aw O1 rfl λ U3 bd b1 bg=>?_
 conv=>whnf
 intro act' ab;refine⟨by rw[ab.size,V.size],_,ab.get,?_⟩;rw[ab.ds];clear ab V;have ai:U2.frz.lg U3.frz:=⟨λ x o hx=>by show U3.I x=_;rw[bd];exact hx,⟨[],rfl⟩,b1⟩;have ae:U.frz.lg U3.frz:=aj.trans (a5.trans ai);have ak:=bn (cs.length*4+2) (.slice F vl H) bw;rw[Zs3 ad]at ak;refine⟨⟨ra,rl,rc,some ⟨L,0,none⟩,cl,cc,R,_,N,rows,[[.string c.nm,.int .i64 c.ag,.slice F vl H,.slice aa c.af.length ac]],hR,ak,w.lg ae,⟨_,rfl,F,vl,H,aa,ac,K++[.slice a' z.length b],rfl,bb,by simp[a7],λ i l0 B=>?_,b5.lg ae,S3,b7⟩,bt,bu,?_⟩,ae⟩
 .have B:(c.gs++[Qky z])[i]?=some l0:=B;rw[getElem?_append]at B;split at B
  .rename_i hlt';obtain⟨Z,a0,c0,e0,an⟩:=b4 i l0 B;exact⟨Z,a0,c0,by rw[getElem?_append_left O1];exact e0,an.lg ae⟩
  .rename_i hge;have an:i=c.gs.length:=by have:=(List.getElem?_eq_some_iff.1 B).1;simp at this;omega
   subst an;simp at B;subst B;have ao:(Qky z).length=z.length:=Zj1 z;exact⟨by rw[ao];omega,a',b,by rw[ao,<- a7];simp,by rw[ao];exact E.lg ai⟩
 .rw[bg];refine(perm_append_comm_assoc N [_] _).trans ?_;refine((Perm.append_left _ (perm_append_comm_assoc N R _))).trans ?_;exact perm_append_comm_assoc [_] R _
def Zqv(rb rm cm:Nat)(ln:Int)(rs:List ByteArray)(cs:List Cs)(c:Cs)(M₀:List Qw)(a:Option Addr)(len cap:Nat)(l:List ByteArray)(bg:Qi9 U.frz a len l)(h:Rdg U rb rm cm ln rs cs (some c) M₀)(hg:True)
  (seen:List ByteArray) (bj:seen.Nodup) (bk:Qw.obj cm (Qt Value.string (ZO 0 seen))∈M₀) (z:List Nat) (bb:∀(i:Nat)(x:ByteArray),l[i]?=some x->∃k,z[i]?=some k/\seen[k]?=some x) (ba:z.length=l.length) (av:l.length<=12) (ak:z.Pairwise (· < ·)) :
  Qb S 41 #[.pb rb,.iface 148 (.agg #[.slice a len cap])] (λ _ U'=>Rdg U' rb rm cm ln rs cs (some { c with af:=Qky z }) M₀/\U.frz.lg U'.frz) U:=by
 obtain⟨ra,rl,rc,ca,cl,cc,R,C,G,rows,last,hR,hC,w,⟨row,rfl,ga,gl,gc,aa,ac,ap,rfl,hG,bq,br,b3,bs,b4⟩,be,bf,hM⟩:=h;have L:=Qu8 w.row;rw[w.1]at L;obtain⟨B,cb,rfl,rfl,Z,b1,b2,a4⟩:=hC.cell S1
 have Z:cl=cs.length+1:=by
  rw[flatten_append,length_append,L]at Z;simp at Z;omega
 have bl:∀r∈rows++[[Value.string c.nm,.int .i64 c.ag,.slice ga gl gc,.slice aa c.af.length ac]],r.length=4:=λ r hr=>(mem_append.1 hr).elim (w.row r) λ h=>by rw[mem_singleton.1 h];rfl
 have aq:(rows++[[Value.string c.nm,.int .i64 c.ag,.slice ga gl gc,.slice aa c.af.length ac]])[cs.length]?=some [Value.string c.nm,.int .i64 c.ag,.slice ga gl gc,.slice aa c.af.length ac]:=by rw[<- w.1];simp
 obtain⟨Y,hY⟩:∃Y,Y=.obj B (.cells cb 39 (0,0))::(R++(G++.obj rb (.cells (rdC (.slice ra rl rc) (.slice (some ⟨B,0,none⟩) cl cc) rm cm ln).toArray 84 (0,0))::M₀)):=⟨_,rfl⟩
 have az:U.M.Perm ([]++Y):=by
  rw[hY];exact hM.trans (perm_append_comm_assoc R [_] _)
 clear hM;have X:Y=(.obj B (.cells cb 39 (0,0))::(R++G))++.obj rb (.cells (rdC (.slice ra rl rc) (.slice (some ⟨B,0,none⟩) cl cc) rm cm ln).toArray 84 (0,0))::M₀:=by rw[hY];simp
 refine Qb.shift (W3 az) (Qb.of (args:=[_,_]) Znc Qf S1 ?_);obtain⟨τ,hτ⟩:∃τ:Qa T,τ={ U with M:=[]++Y }:=⟨_,rfl⟩;rw[<- hτ];have ai:τ.M=[]++Y:=by rw[hτ]
 have a1:τ.M=([]++(.obj B (.cells cb 39 (0,0))::(R++G)))++.obj rb (.cells (rdC (.slice ra rl rc) (.slice (some ⟨B,0,none⟩) cl cc) rm cm ln).toArray 84 (0,0))::M₀:=by rw[ai,X];simp
 have bi:U.frz.lg τ.frz:=by rw[hτ];exact⟨λ _ _ h=>h,⟨[],rfl⟩,rfl⟩
 obtain⟨d0,hu,hd⟩:=Qpv Qz0;obtain⟨bv,hi,hz⟩:=GU Zfy;obtain⟨d1,bo,a6⟩:=Qpv Zcd;obtain⟨bw,a8,bt⟩:=GU Zoa;obtain⟨d2,bp,a7⟩:=Qpv Zcc;obtain⟨bx,a9,bu⟩:=GU Zqf;obtain⟨d',bn,a5⟩:=Qpv Zq5;refine⟨_,(Q9 _ a1).cell (i:=1) rfl,I1,?_⟩
 conv=>whnf
 refine Qo9 hu hd hi hz (t':=148) D1 (.inl rfl) ?_
 conv=>whnf
 refine Qo9 bo a6 a8 bt (t':=148) D1 (.inl rfl) ?_
 conv=>whnf
 refine Qo9 bp a7 a9 bu (t':=148) D1 (.inl rfl) ?_
 conv=>whnf
 refine Qzu bn a5 rfl ?_
 conv=>whnf
 intro b6 a3;refine⟨_,.refl _,rfl,Zv (vs:=[.slice a len cap]) a3 rfl (by simp[Value.single]) λ N aj aw=>?_⟩;have H:N.M=[]++Y:=aj.own.trans ai;have Q:=bi.trans aj.lg.frz2;have an:Qw.obj cm (Qt Value.string (ZO 0 seen))∈N.M:=by rw[H,X];simp[bk]
 conv=>whnf
 intro b0 E
 refine xB (mu:=[1004,1007,1010,1013]) (ops:=GO Tryz.f41 13) (id:=13) E [13] [[0,1,2,3,4,5,6,7,8,9,10,11,12,13]] [14,15,16] Zo2 Zr0 Qf K1 K1 K1 K1 K1
  (λ f' ad U'=>ad=[]/\∃(a':Option Addr)(b:Nat),Xr f' [(98,.slice (some ⟨B,0,none⟩) cl cc),(99,.int .i64 ((cl:Int)-1)),(107,.slice a' z.length b)]/\Z3 U'.frz a' z.length (Qky z)/\N.le U') { N with M:=Y } (λ U' h=>⟨h.imm,⟨[],h.own.trans H⟩,h.tok⟩) ?_ ?_
 .intro l' hl';simp only[Zo2,mem_cons,not_mem_nil,or_false]at hl';subst hl';have ae:=Zj.imI (U':={ N with M:=Y }) aw λ _ _ h=>h;have V:=Q9 (U:={ N with M:=Y }) _ X;refine⟨_,V.cell (i:=1) rfl,_,V.cell (i:=3) rfl,_,ae.sees3 (o:=0) rfl,λ v U'=>∃a' b,v=.slice a' z.length b/\Z3 U'.frz a' z.length (Qky z)/\N.le U',λ v x y⟨a',b,e,h0,h1⟩f=>⟨a',b,e,h0.lg f.lg.frz2,h1.trans f⟩,λ v U'⟨a',b,e,h0,hl⟩=>⟨hl.imm,⟨[],hl.own.trans H⟩,hl.tok⟩,λ U' hC=>?_,λ v hv=>?_⟩
  .have f:N.le U':=hC;refine⟨Zoy.any,(Zb6 _ cm seen bj (.inr (by rw[f.own];exact an)) a len cap z l (bg.lg (Q.trans f.lg.frz2)) bb ba av ak).mono ?_⟩;rintro _ U4⟨⟨a',b,rfl,F,-⟩,a2⟩-;exact⟨_,.refl _,a',b,rfl,F,f.trans a2⟩
  obtain⟨_,a',b,rfl,-⟩:=hv
  conv=>whnf
  rintro U'⟨bz,au,e,F,f⟩;cases e;exact⟨rfl,a',b,T1,F,f⟩
 rintro f' ad U2⟨rfl,a',b,al,F,f⟩;have am:=f.lg.frz2;have ah:U2.M=[]++.obj B (.cells cb 39 (0,0))::(R++(G++.obj rb (.cells (rdC (.slice ra rl rc) (.slice (some ⟨B,0,none⟩) cl cc) rm cm ln).toArray 84 (0,0))::M₀)):=by rw[f.own,H,hY]
 rw[<- al.ovr];clear al;have bh:cs.length*4+3<(rows++[[Value.string c.nm,.int .i64 c.ag,.slice ga gl gc,.slice aa c.af.length ac]]).flatten.length:=by rw[flatten_append,length_append,L];simp
 refine⟨⟨B,0,none⟩,cs.length,⟨rfl,O1,O1⟩,rfl,?_⟩;rw[vF _ rfl];refine WJ (i:=cs.length*4+3) (v:=.slice a' z.length b) [] ah O1 rfl λ U3 ax bm ay=>?_
 conv=>whnf
 intro act' K;refine⟨by rw[K.size,E.size],_,K.get,?_⟩;rw[K.ds];clear K E;have P:U2.frz.lg U3.frz:=⟨λ x o hx=>by show U3.I x=_;rw[ax];exact hx,⟨[],rfl⟩,bm⟩;have ab:U.frz.lg U3.frz:=Q.trans (am.trans P);have W:=a4 (cs.length*4+3) (.slice a' z.length b) bh;rw[Zs3 L]at W
 conv=>whnf
 have ao:(Qky z).length=z.length:=Zj1 z;refine⟨⟨ra,rl,rc,some ⟨B,0,none⟩,cl,cc,R,_,G,rows,[[.string c.nm,.int .i64 c.ag,.slice ga gl gc,.slice a' z.length b]],hR,W,w.lg ab,⟨_,rfl,ga,gl,gc,a',b,ap,by show _=[_,_,_,Value.slice a' (Qky z).length b];rw[ao],hG,bq,λ i l0 bd=>?_,by show Z3 _ _ (Qky z).length (Qky z);rw[ao];exact F.lg P,bs,by show(Qky z).length<=40;omega⟩,be,bf,?_⟩,ab⟩
 .obtain⟨h0,a0,c0,e0,hi0⟩:=br i l0 bd;exact⟨h0,a0,c0,e0,hi0.lg ab⟩
 .rw[ay];exact perm_append_comm_assoc [_] R _
end
variable{f:Fm}{L₂:List Qw}{mu dets:List Nat}{params:Array Tmp}{sa Z:C}{ds:List Deferred}{g:FuncId}{L:Array Value}
def Qzp(r:ByteArray):Obj:=.cells [Value.string r].toArray 9 (0,0)
def Zx5(b:Nat)(J:ByteArray->Qa T->Prop):Prop:=∀(r:ByteArray)(f:Qa T),J r f->∃M',f.M.Perm (.obj b (Qzp r)::M') /\
 ∀(z:ByteArray)(h:Qa T),f.frz.lg h.frz->h.M=.obj b (Qzp z)::M'->∃w,Qv h w/\J z w
def Zxu(b:Nat)(J:ByteArray->Qa T->Prop):Prop:=∀(r:ByteArray)(f:Qa T),J r f->∃M',f.M.Perm (.obj b (Qzp r)::M') /\
 ∀(w:ByteArray)(h:Qa T),f.frz.lg h.frz->h.M.Perm (.obj b (Qzp w)::M')->J w h
def Zue{c:Array Value}{L₁:List Qw}(H:U.M.Perm (L₁++.obj b (.cells c e (0,0))::L₂))(z:c.size=vs.length)(L:∀v∈vs,v.single=true)
  (h:∀f:Qa T,f.I=U.I->f.tok=U.tok->f.M=L₁++.obj b (.cells vs.toArray e (0,0))::L₂->∃B,Qv f B/\Q B):QZ ⟨b,0,none⟩ vs 0 (λ U'=>∃f,Qv U' f/\Q f) U:=
 QZ.mono (K:=λ U'=>∃f,Qv U' f/\∃w,Qv f w/\Q w) (λ _⟨_,E,w,F,G⟩=>⟨w,E.trans F,G⟩) _ _ _ (Y9 H z L h)
def Zxi(S:Sys P T)(l:Nat)(yl:List ByteArray)(rest:Nat->ByteArray)(J:Nat->ByteArray->Qa T->Prop)(E:Qa T->Prop):Prop:=
 ∀(k:Nat)(y:ByteArray)(f:Qa T)(K:Value->Qa T->Prop),yl[k]?=some y->J k (rest (k+1)) f->(∀b,J (k+1) (rest (k+1)) b->K (.bool true) b)->(∀b,E b->K (.bool false) b)->Zp S l [.string y] K f
def Zxv(S:Sys P T)(g:FuncId)(args:Array Value)(l b:Nat)(yl:List ByteArray)(rest:Nat->ByteArray):Prop:=
 ∀(J:Nat->ByteArray->Qa T->Prop)(E:Qa T->Prop)(U:Qa T),(∀k,Zx5 b (J k))->(∀k r f h,f.le h->J k r f->J k r h)->Zxi S l yl rest J E->J 0 (rest 0) U->Qb S g args (λ _ U'=>J yl.length (rest yl.length) U'\/E U') U
section
variable{S:Sys P T}
def Zvk(hm:P.follows .mixedOrders=true){c:Operand}{n:Zl T}{x:Nat->Zl T}{r:Zl T}
  (b:Nat) (yl:List ByteArray) (rest:Nat->ByteArray) (Inv:Nat->ByteArray->Qa T->Prop)
  (hc:Zg f c=.func (.func g) first L) (hp:params.toList.all (λ t=>decide (t<rm))=true) (hg:(P.funcs[g]?.any λ fd=>fd.body.isSome&&fd.name != "runtime.NumGoroutine")=true)
  (ab:∀l,Zxv S g (first.toList++[Value.func (.yield l) #[] #[]]++L.toList).toArray l b yl rest)
  (W:params.size=1) (hH:∀k,Zxu b (Inv k)) (ac:∀k r F E,F.le E->Inv k r F->Inv k r E) (h0:Inv 0 (rest 0) U)
  (Q:∀(l:Nat)(A B D:Qw)(k:Nat)(y:ByteArray)(w:Qa T)(KN:Zl T)(KX:Nat->Zl T)(KR KA:Zl T),yl[k]?=some y->Inv k (rest (k+1)) w ->
   (∀z V H,Inv (k+1) (rest (k+1)) H->KN z V (H.on B D)) ->
   (∀z(F:Qa T),JX S m (some l) Z KN KX KR z [] (F.on B D)->KA z [] (F.on A D)) ->
   JX S m (some l) sa KA (λ _ _ _ _=>False) (λ _ _ _=>False) (GC f params.toList [.string y]) [] (w.on A D))
  (hn:∀(d l:Nat)(A:Obj)H,Inv yl.length (rest yl.length) H->n f (⟨.collected d,#[]⟩::ds) (H.on (.obj l A) (.obj d (.deferred (some []))))) :
  Wv S m none rm mu dets c params sa Z n x r f ds U:=by
 show JX S m none (.rng rm mu dets c params sa Z) n x r f ds U;refine kG hm hc hp hg λ l d lo hd hl ag hR=>?_
 let D:Qw:=.obj d (.deferred (some []))
 let I:Nat->ByteArray->Qa T->Prop:=λ k r F=>∃w,Inv k r w/\F=w.on (.obj l (lo .ready none)) D
 refine(ab l I (λ _=>False) _ (λ k r F G=>?_) ?_ ?_ ⟨U,h0,rfl⟩).mono ?_
 .obtain⟨w,G,rfl⟩:=G;obtain⟨M',ad,ae⟩:=hH k r w G;refine⟨.obj l (lo .ready none)::D::M',?_,λ Y E X aa=>?_⟩
  .show Perm (.obj l (lo .ready none)::D::w.M) _;exact((ad.cons _).cons _).trans (((Perm.swap _ _ _).cons _).trans (Perm.swap _ _ _))
  .refine⟨Qa.on { E with M:=.obj b (Qzp Y)::M' } (.obj l (lo .ready none)) D,W3 (U:=E) (M':=.obj l (lo .ready none)::D::.obj b (Qzp Y)::M') ?_,{ E with M:=.obj b (Qzp Y)::M' },ae Y { E with M:=.obj b (Qzp Y)::M' } ⟨X.imm,⟨[],rfl⟩,X.tok⟩ (Perm.refl _),rfl⟩;rw[aa];exact(Perm.swap _ _ _).trans ((Perm.swap _ _ _).cons _)
 .rintro k r _ E hle' ⟨w,G,rfl⟩;refine⟨{ E with M:=w.M },ac k r w _ ⟨hle'.imm,rfl,hle'.tok⟩ G,?_⟩;obtain⟨i2,ah,ai⟩:=E;have:=hle'.own;simp only[Qa.on]at this ⊢;rw[this]
 .rintro k y _ K hk ⟨w,G,rfl⟩ hK1 hK2;refine hR [.string y] K _ (by rw[W];rfl) (mem_cons_self ..) ?_;refine Q l _ (.obj l (lo .busy none)) D k y w _ _ _ _ hk G (λ z V H h=>?_) (λ z F h=>⟨rfl,_,.here,h⟩);exact⟨_,.here,hK1 _ ⟨H,h,rfl⟩⟩
 .rintro v H (⟨w,G,rfl⟩|h) -
  .exact⟨.ready,none,_,S1,.here,hn d l _ w G⟩
  .exact h.elim
end
def Qdb(l:List ByteArray):ByteArray:=l.foldr (λ x y=>x++y) ByteArray.empty
def Zx6(yl:List ByteArray)(k:Nat)(y:ByteArray):Prop:=(∃x,y=x++byB 10/\NoB 10 x)\/(k+1=yl.length/\NoB 10 y/\y≠ByteArray.empty)
def Zrh(h:s[n]?=some y):Qdb (s.drop n)=y++Qdb (s.drop (n+1)):=by
 have b:=(List.getElem?_eq_some_iff.1 h).1;rw[drop_eq_getElem_cons b,(List.getElem?_eq_some_iff.1 h).2];rfl
section
attribute [local irreducible] Qb Zp Wv
def Zps(l b:Nat)(yl:List ByteArray)(ab:∀(k:Nat)(y:ByteArray),yl[k]?=some y->Zx6 yl k y)(ah:(Qdb yl).size<=1000000) :
  Zxv S 70 #[.func (.yield l) #[] #[],.pb b] l b yl (λ k=>Qdb (yl.drop k)):=by
 intro J E U hH Z hR h0;refine Qb.of (args:=[_,_]) Zsm Qf S1 ?_;refine⟨Nat,λ k=>[(0,.func (.yield l) #[] #[]),(1,.pb b)],λ k U'=>J k (Qdb (yl.drop k)) U'/\k<=yl.length/\(Qdb (yl.drop k)).size<=1000000,λ k=>yl.length-k,0,T1,⟨h0,O1,ah⟩,?_⟩;rintro k f U1⟨hJ,hk,hs⟩;obtain⟨M',hM,B⟩:=hH k _ U1 hJ;have w:U1.sees ⟨b,0,none⟩ (.string (Qdb (yl.drop k))):=⟨rfl,.inl ⟨_,9,(0,0),.inr (hM.mem_iff.2 (mem_cons_self ..)),rfl⟩⟩;refine⟨_,w,?_⟩
 repeat refine⟨rfl,?_⟩
 conv=>whnf
 apply Qg<;>intro hc
 .have hpos:0<(Qdb (yl.drop k)).size:=by
   have:(0:Int)<(Qdb (yl.drop k)).size:=by simpa using hc
   omega
  clear hc
  have P:k<yl.length:=Nat.lt_of_not_le λ h=>by
   rw[drop_eq_nil_of_le h]at hpos;exact absurd hpos D1
  obtain⟨y,T⟩:∃y,yl[k]?=some y:=⟨_,getElem?_eq_getElem P⟩;have X:=Zrh T;rcases ab k y T with⟨x,rfl,hx⟩|⟨ag,ai,aa⟩
  .have hsz1:(Qdb (yl.drop k)).size=x.size+1+(Qdb (yl.drop (k+1))).size:=by rw[X];exact Qvj ..
   have N:ixB (Qdb (yl.drop k)) 10=x.size:=by rw[X];exact Zpm _ hx
   have ad:(Qdb (yl.drop k)).extract 0 (x.size+1)=x++byB 10:=by rw[X];exact Zx7 ..
   have ac:(Qdb (yl.drop k)).extract (x.size+1) (Qdb (yl.drop k)).size=Qdb (yl.drop (k+1)):=by rw[X];exact Zwq ..
   refine⟨_,w,Zp9.any,(Zod _ 10).go λ _=>?_⟩;rw[N]
   repeat refine⟨rfl,?_⟩
   refine⟨_,w,I1,?_⟩;refine⟨.string (x++byB 10),λ U' Z _=>?_,?_⟩
   .conv=>whnf
    refine Qf5 0 (x.size+1) vb rfl rfl O1 O1 ?_;rw[ad];exact⟨rfl,U',.refl _,.refl _⟩
   refine⟨_,w,I1,?_⟩;refine⟨.string (Qdb (yl.drop (k+1))),λ U' Z _=>?_,?_⟩
   .conv=>whnf
    refine Qf5 (x.size+1) (Qdb (yl.drop k)).size vb rfl rfl O1 O1 ?_;rw[ac];exact⟨rfl,U',.refl _,.refl _⟩
   conv=>whnf
   intro U2 L _;refine⟨rfl,Zue (L₁:=[]) (L₂:=M') (c:=[Value.string (Qdb (yl.drop k))].toArray) (e:=9) (vs:=[.string (Qdb (yl.drop (k+1)))]) (by rw[L.own];exact hM) rfl (by simp[Value.single]) λ V G Q K=>?_⟩;obtain⟨W,k4,H⟩:=B (Qdb (yl.drop (k+1))) V ⟨λ z o h=>by show V.I z=_;rw[G];exact L.imm z o h,⟨[],rfl⟩,Q.trans L.tok⟩ K;refine⟨W,k4,?_⟩
   conv=>whnf
   refine hR k _ W _ T H (λ U5 F=>?_) (λ U5 F=>?_)
   .conv=>whnf
    exact⟨rfl,k+1,T1,⟨F,by show k+1<=_;omega,O1⟩,L1⟩
   .conv=>whnf
    exact .inr F
  .have e0:Qdb (yl.drop (k+1))=ByteArray.empty:=by rw[drop_eq_nil_of_le O1];rfl
   have ey:Qdb (yl.drop k)=y:=by rw[X,e0];simp
   have N:ixB (Qdb (yl.drop k)) 10 = -1:=by rw[ey];exact Zww ai
   refine⟨_,w,Zp9.any,(Zod _ 10).go λ _=>?_⟩;rw[N]
   repeat refine⟨rfl,?_⟩
   refine⟨_,w,rfl,Zue (L₁:=[]) (L₂:=M') (c:=[Value.string (Qdb (yl.drop k))].toArray) (e:=9) (vs:=[.string ⟨#[]⟩]) hM rfl (by simp[Value.single]) λ V G Q K=>?_⟩;obtain⟨W,k4,H⟩:=B (Qdb (yl.drop (k+1))) V ⟨λ z o h=>by show V.I z=_;rw[G];exact h,⟨[],rfl⟩,Q⟩ (by rw[e0];exact K);refine⟨W,k4,?_⟩
   conv=>whnf
   rw[ey];refine hR k _ W _ T H (λ U5 F=>?_) (λ U5 F=>?_)
   .conv=>whnf
    exact⟨rfl,k+1,T1,⟨F,by show k+1<=_;omega,by rw[e0];decide⟩,L1⟩
   .conv=>whnf
    exact .inr F
 have Y:(Qdb (yl.drop k)).size=0:=by
  have:((Qdb (yl.drop k)).size:Int)<=0:=by simpa using hc
  omega
 have ae:k=yl.length:=by
  refine Nat.le_antisymm hk (Nat.le_of_not_lt λ P=>?_);obtain⟨y,T⟩:∃y,yl[k]?=some y:=⟨_,getElem?_eq_getElem P⟩;rw[Zrh T,ByteArray.size_append]at Y;rcases ab k y T with⟨x,rfl,hx⟩|⟨-,-,aa⟩
  .rw[ByteArray.size_append,Qbd]at Y;omega
  .exact aa (ByteArray.ext (Array.eq_empty_of_size_eq_zero (by show y.size=0;omega)))
 subst ae
 conv=>whnf
 exact .inl hJ
end
variable{Stop:QH T}{p:Bool}{I:Gr}{k:Sys P T}{cc:C}{rl:List RV}
section
variable{S:Sys P T}
def Zsx:∀{n:Nat}{g g':Gr},JI P t p n g=some (g',[])->J S Stop p g' U->J S Stop p g U
 |0,g,g',h,k=>by
  simp only[JI,Option.some.injEq,Prod.mk.injEq]at h;rw[h.1];exact k
 |n+1,g,g',h,k=>by
  obtain⟨f,bs,l',E,b,B,z⟩:=Pg h;obtain⟨rfl,rfl⟩:=append_eq_nil_iff.1 z.symm;exact J.still E (λ w=>YT (b undef undef) w) (Zsx B k)
end
section
variable{S:Sys P T}
def J.calmS(h:Qm P t p n I=some [])(k:J S Stop p (Qi P t p n I) U):J S Stop p I U:=Zsx (P4 h) k
end
def Ztg(S:Sys P T)(rl:List RV)(Q:Value->Qa T->Prop)(f:Fm)(l:List Deferred):Qa T->Prop:=
 List.rec (motive:=λ _=>Qa T->Prop) (λ U=>Ht f Q rl [] U) (λ d _ w U=>match d.target with
  |.collected b=>∃M',J1 b (.deferred none) (.deferred (some [])) U.M M'/\w { U with M:=M' }
  |.fn (.func g) h=>(P.funcs[g]?.any λ fd=>fd.body.isSome&&fd.name != "runtime.NumGoroutine")=true/\Xy S g (d.args++h) (λ U'=>w U') U
  |_=>False) l
section
variable{m:Bool}
def Ztg.step{rl:List RV}{B:Fm}{fd:Func}{Q:Value->Qa T->Prop}{b:Frame}{tmps:Array Value}{c:Frame}{cs:List Frame}(F:fd.results.toList.mapM (XA P)=some rl)(Y:∀t,tmps.getD t undef=B t)
  (V:P.funcs[b.fn]?=some fd) (W:b.kind=.normal\/b.kind=.wrapped) (X:∀v U',Q v U'->J k Stop m (Rf (c.finish v) cs) U') :
  ∀(ds:List Deferred)(todo:List Item)(U:Qa T),Ztg k rl Q B ds U->J k Stop m (Rf { fr b ⟨tmps,ds⟩ todo with mode:=.returning } (c::cs)) U:=by
 intro ds
 induction ds with
 |nil=>exact λ todo U h=>X0.step V W X [] todo U (Vt F [] U h tmps Y)
 |cons d ds I=>
  intro todo U h;obtain⟨Z,args⟩:=d;cases Z with
  |collected blk=>
   obtain⟨M',H,h⟩:=h
   have K:Qq P (Instr.takeDeferred blk) (λ calls U'=>calls=[]/\Ztg k rl Q B ds U') U:=by
    simp only[Instr.takeDeferred,Qd,getObj];refine⟨_,.inr H.mem,rfl,rfl,?_⟩;simp only[Qq,Qd,setObj];exact⟨_,M',H,rfl,rfl,rfl,rfl,h⟩
   refine .sem _ rfl K λ w x w' es z N=>⟨Rf { fr b ⟨tmps,x++ds⟩ todo with mode:=.returning } (c::cs),seen P b.fn es,?_,Jm P _ es,λ U' q=>?_⟩
   .obtain⟨F,he⟩:Sem.run P (Instr.takeDeferred blk) w=.ok x w'/\Sem.events P (Instr.takeDeferred blk) w #[]=es:=by simpa using z
    simp[Rf,stepG,unwind,fr,F,he,GStep.after]
   .obtain⟨rfl,q⟩:=q;exact I todo U' q
  |fn E G=>
   cases E with
   |func h'=>
    obtain⟨f,L⟩:=h;exact J.defer f L λ U' q=>I todo U' q
   |_=>exact h.elim
  |_=>exact h.elim
end
section
variable{S:Sys P T}
def Qb.ofE(k:Zk P g n cc rl)(V:P.follows .mixedOrders=true){args:List Value}(Y:args.length<=n)
  (h:JX S g none cc (λ f ds U=>Ztg S rl j f ds U) (λ _ _ _ _=>False) (λ f ds U=>Ztg S rl j f ds U) (fm args) [] U):Qb S g args.toArray j U:=by
 obtain⟨fd,mu,dets,H,K,L,rfl,X,-⟩:=k.ok;intro Stop p w cs W
 let b:Frame:={ (default:Frame)with fn:=g,kind:=.normal }
 have z:Rf (Frame.enter P g args.toArray .normal) (w::cs)=R b { tmps:=args.toArray++Array.replicate (fd.ntmps-args.toArray.size) undef,defers:=[] } [.code (fd.body.getD .skip)] (w::cs):=by
  simp only[Rf,R,Frame.enter,fr,H,b,Option.bind_some];rw[K];rfl
 rw[z]
 have G:FR fd.ntmps { tmps:=args.toArray++Array.replicate (fd.ntmps-args.toArray.size) undef,defers:=[] } (fm args) []:=by
  refine⟨rfl,S3,λ t=>?_⟩;simp only[fm,Array.getD_eq_getD_getElem?,getD_eq_getElem?_getD,Array.getElem?_append,size_toArray,getElem?_toArray];split
  .rfl
  .rename_i hlt;rw[getElem?_eq_none O1,Array.getElem?_replicate];split <;> rfl
 subst L;refine J.body (fn:=g) ⟨rfl,rfl,by simp[b],S1⟩ (HZ V _ G h) λ e a' U' q=>?_;obtain⟨I,B,E,F⟩:=q
 have fin:∀todo,Ztg S rl j I B U'->J S Stop p (Rf { fr b a' todo with mode:=.returning } (w::cs)) U':=λ todo F=>by
  have:=Ztg.step (m:=p) (Stop:=Stop) (b:=b) X E.get H (.inl rfl) W B todo U' F
  rwa [<- E.ds]at this
 cases e with
 |normal=>exact⟨.inl rfl,λ todo=>fin todo F⟩
 |ret=>exact⟨.inr rfl,λ todo=>fin todo F⟩
 |exit id=>exact F.elim
end
section
variable(p q r:Value)(fn:FuncId)(tm:Array Value)(todo:List Item)(ds:List Deferred)(kd:CallKind)(ro:Option Nat)(cs:List Frame)(m:Bool)
def Zsu:Frame:={ fn:=fn,tmps:=tm,todo:=todo,defers:=ds,mode:=.returning,kind:=kd,roundOf:=ro }
noncomputable def Znh:Gr:=Rf (Frame.enter prog 36 #[p,q,r] .deferred) (Zsu fn tm todo ds kd ro::cs)
def Zto:Qm prog 166 m 2 (Znh p q r fn tm todo ds kd ro cs)=some []:=K1
def Ztp:(Qi prog 166 m 2 (Znh p q r fn tm todo ds kd ro cs)).status=.running:=K1
def Zqb:Gr:=aft (Qi prog 166 m 2 (Znh p q r fn tm todo ds kd ro cs)) .nilIface
def Ztq(w:World):stepG prog m (Qi prog 166 m 2 (Znh p q r fn tm todo ds kd ro cs)) w=.go (Zqb p q r fn tm todo ds kd ro cs m) w #[]:=K1
def Ztr:Qm prog 166 m 13 (Zqb p q r fn tm todo ds kd ro cs m)=some []:=K1
def Zts:Qi prog 166 m 13 (Zqb p q r fn tm todo ds kd ro cs m)=Rf (Zsu fn tm todo ds kd ro) cs:=K1
end
variable{es:List Ent}{u:Ent}{av:Value}{d w:UInt8}{q:BH}{args:Array Value}
def Zsv(p q r:Value)(h:Q U):Xy S 36 #[p,q,r] Q U:=by
 intro Stop m c cs b k;obtain⟨fn,tm,todo,ds,f,kd,ro⟩:=c;obtain rfl:f=.returning:=b;show J S Stop m (Znh p q r fn tm todo ds kd ro cs) U;refine J.calmS (Zto p q r fn tm todo ds kd ro cs m) (J.still (Ztp ..) (Ztq p q r fn tm todo ds kd ro cs m) (J.calmS (Ztr ..) ?_));rw[Zts];exact k U h
def rsN(l:List Ent):List ByteArray:=l.filterMap λ e=>match e with|.rt n=>some n|_=>none
def csN(l:List Ent):List ByteArray:=l.filterMap λ e=>match e with|.cs n _=>some n|_=>none
def Zpn(l r:List Ent):rsN (l++r)=rsN l++rsN r:=filterMap_append
def Zo4(l r:List Ent):csN (l++r)=csN l++csN r:=filterMap_append
def Ztb(l:List Ent)(e:Ent):rsN (l++[e])=rsN l++rsN [e]:=by simp[rsN,filterMap_append]
def Zs0(l:List Ent)(e:Ent):csN (l++[e])=csN l++csN [e]:=by simp[csN,filterMap_append]
def Zxt(l:List Ent):(rsN l).length<=l.length:=length_filterMap_le ..
def Zxp(l:List Ent):(csN l).length<=l.length:=length_filterMap_le ..
def Zvl(h:es[n]?=some u):rsN es=rsN (es.take n)++rsN [u]++rsN (es.drop (n+1)):=by
 have f:es=es.take n++[u]++es.drop (n+1):=by
  have b:=(List.getElem?_eq_some_iff.1 h).1;have w:es.drop n=u::es.drop (n+1):=by rw[drop_eq_getElem_cons b,(List.getElem?_eq_some_iff.1 h).2]
  rw[append_assoc,singleton_append,<- w,take_append_drop]
 conv=>lhs;rw[f]
 rw[Zpn,Zpn]
def Zvd(h:es[n]?=some u):csN es=csN (es.take n)++csN [u]++csN (es.drop (n+1)):=by
 have f:es=es.take n++[u]++es.drop (n+1):=by
  have b:=(List.getElem?_eq_some_iff.1 h).1;have w:es.drop n=u::es.drop (n+1):=by rw[drop_eq_getElem_cons b,(List.getElem?_eq_some_iff.1 h).2]
  rw[append_assoc,singleton_append,<- w,take_append_drop]
 conv=>lhs;rw[f]
 rw[Zo4,Zo4]
def Zro:Option Ent->List Ent->Prop
 |_,[]=>True
 |la,e::r=>e.fol la/\Zro (some e) r
def Zsy{y:ByteArray}:∀{l:List ByteArray},y∈l->y.size<=(Qdb l).size
 |x::l,h=>by
  show _<=(x++Qdb l).size;rw[ByteArray.size_append];rcases mem_cons.1 h with rfl|h
  .omega
  .have:=Zsy h;omega
structure PI where
 bs:Nat
 b2:Nat
 b3:Nat
 b4:Nat
 rm:Nat
 cm:Nat
 rb:Nat
 b5:Nat
 b6:Nat
 b7:Nat
 b8:Nat
 b9:Nat
variable{i:PI}
def PI.M(i:PI)(r:ByteArray)(s c:List ByteArray)(av lv:Value)(n m:Nat)(M₀:List Qw):List Qw:=
 .obj i.bs (Qzp r)::.cl i.b9 [.int .i64 m] 3::.cl i.b8 [.int .i64 n] 3::.cl i.b7 [lv] 87::.cl i.b6 [av] 85::.cl i.b5 [.pb i.rb] 80 ::
 .obj i.rb (.cells (rdC .nl .nl i.rm i.cm 0).toArray 84 (0,0))::.obj i.cm (Qt Value.string (ZO 0 c))::.obj i.rm (Qt Value.string (ZO 0 s)) ::
 .cl i.b4 [.int .i64 0] 28::.cl i.b3 [.int .i64 0] 3::.cl i.b2 [.nl,.nl] 25::M₀
def PI.preC(i:PI)(r:ByteArray)(av lv:Value)(n m:Nat):List Qw:=[.obj i.bs (Qzp r),.cl i.b9 [.int .i64 m] 3,.cl i.b8 [.int .i64 n] 3,.cl i.b7 [lv] 87,.cl i.b6 [av] 85,.cl i.b5 [.pb i.rb] 80,.obj i.rb (.cells (rdC .nl .nl i.rm i.cm 0).toArray 84 (0,0))]
def PI.preR(i:PI)(r:ByteArray)(c:List ByteArray)(av lv:Value)(n m:Nat):List Qw:=[.obj i.bs (Qzp r),.cl i.b9 [.int .i64 m] 3,.cl i.b8 [.int .i64 n] 3,.cl i.b7 [lv] 87,.cl i.b6 [av] 85,.cl i.b5 [.pb i.rb] 80,.obj i.rb (.cells (rdC .nl .nl i.rm i.cm 0).toArray 84 (0,0)),.obj i.cm (Qt Value.string (ZO 0 c))]
def PI.post(i:PI)(M₀:List Qw):List Qw:=.cl i.b4 [.int .i64 0] 28::.cl i.b3 [.int .i64 0] 3::.cl i.b2 [.nl,.nl] 25::M₀
def PI.rd9(X:List Qw)(h:U.M=X++i.M r s c av lv n m M₀):Jj U ⟨i.b9,0,none⟩ [.int .i64 m]:=Q9 (X++[.obj i.bs (Qzp r)]) (by rw[h,append_assoc];rfl)
def PI.st9(X:List Qw)(f:Nat)(h:U.M=X++i.M r s c av lv n m M₀)(k:∀b:Qa T,b.I=U.I->b.tok=U.tok->b.M=X++i.M r s c av lv n f M₀->Q b):QZ ((Addr.mk i.b9 0 none).add 0) [(.int .i64 f)] 0 (λ U'=>∃b,Qv U' b/\Q b) U:=
 WJ (c:=[.int .i64 m].toArray) (i:=0) (v:=(.int .i64 f)) (X++[.obj i.bs (Qzp r)]) (by rw[h,append_assoc];rfl) (by show 0<1;decide) rfl λ b w B z=>k b w B (by rw[z,append_assoc];rfl)
def PI.rd8(X:List Qw)(h:U.M=X++i.M r s c av lv n m M₀):Jj U ⟨i.b8,0,none⟩ [.int .i64 n]:=Q9 (X++[.obj i.bs (Qzp r),.cl i.b9 [.int .i64 m] 3]) (by rw[h,append_assoc];rfl)
def PI.st8(X:List Qw)(n':Nat)(h:U.M=X++i.M r s c av lv n m M₀)(k:∀b:Qa T,b.I=U.I->b.tok=U.tok->b.M=X++i.M r s c av lv n' m M₀->Q b):QZ ((Addr.mk i.b8 0 none).add 0) [(.int .i64 n')] 0 (λ U'=>∃b,Qv U' b/\Q b) U:=
 WJ (c:=[.int .i64 n].toArray) (i:=0) (v:=(.int .i64 n')) (X++[.obj i.bs (Qzp r),.cl i.b9 [.int .i64 m] 3]) (by rw[h,append_assoc];rfl) (by show 0<1;decide) rfl λ b f z w=>k b f z (by rw[w,append_assoc];rfl)
def PI.rd7(X:List Qw)(h:U.M=X++i.M r s c av lv n m M₀):Jj U ⟨i.b7,0,none⟩ [lv]:=Q9 (X++[.obj i.bs (Qzp r),.cl i.b9 [.int .i64 m] 3,.cl i.b8 [.int .i64 n] 3]) (by rw[h,append_assoc];rfl)
def PI.st7(X:List Qw)(w:Value)(E:w.single=true)(h:U.M=X++i.M r s c av lv n m M₀)(k:∀b:Qa T,b.I=U.I->b.tok=U.tok->b.M=X++i.M r s c av w n m M₀->Q b):QZ ((Addr.mk i.b7 0 none).add 0) [w] 0 (λ U'=>∃b,Qv U' b/\Q b) U:=
 WJ (c:=[lv].toArray) (i:=0) (v:=w) (X++[.obj i.bs (Qzp r),.cl i.b9 [.int .i64 m] 3,.cl i.b8 [.int .i64 n] 3]) (by rw[h,append_assoc];rfl) (by show 0<1;decide) E λ b f B z=>k b f B (by rw[z,append_assoc];rfl)
def PI.rd6(X:List Qw)(h:U.M=X++i.M r s c av lv n m M₀):Jj U ⟨i.b6,0,none⟩ [av]:=Q9 (X++[.obj i.bs (Qzp r),.cl i.b9 [.int .i64 m] 3,.cl i.b8 [.int .i64 n] 3,.cl i.b7 [lv] 87]) (by rw[h,append_assoc];rfl)
def PI.st6(X:List Qw)(w:Value)(E:w.single=true)(h:U.M=X++i.M r s c av lv n m M₀)(k:∀b:Qa T,b.I=U.I->b.tok=U.tok->b.M=X++i.M r s c w lv n m M₀->Q b):QZ ((Addr.mk i.b6 0 none).add 0) [w] 0 (λ U'=>∃b,Qv U' b/\Q b) U:=
 WJ (c:=[av].toArray) (i:=0) (v:=w) (X++[.obj i.bs (Qzp r),.cl i.b9 [.int .i64 m] 3,.cl i.b8 [.int .i64 n] 3,.cl i.b7 [lv] 87]) (by rw[h,append_assoc];rfl) (by show 0<1;decide) E λ b f B z=>k b f B (by rw[z,append_assoc];rfl)
def PI.rd5(X:List Qw)(h:U.M=X++i.M r s c av lv n m M₀):Jj U ⟨i.b5,0,none⟩ [.pb i.rb]:=Q9 (X++[.obj i.bs (Qzp r),.cl i.b9 [.int .i64 m] 3,.cl i.b8 [.int .i64 n] 3,.cl i.b7 [lv] 87,.cl i.b6 [av] 85]) (by rw[h,append_assoc];rfl)
def PI.rdb(X:List Qw)(h:U.M=X++i.M r s c av lv n m M₀):Jj U ⟨i.rb,0,none⟩ (rdC .nl .nl i.rm i.cm 0):=Q9 (X++[.obj i.bs (Qzp r),.cl i.b9 [.int .i64 m] 3,.cl i.b8 [.int .i64 n] 3,.cl i.b7 [lv] 87,.cl i.b6 [av] 85,.cl i.b5 [.pb i.rb] 80]) (by rw[h,append_assoc];rfl)
def PI.splR(X:List Qw):X++i.M r s c av lv n m M₀=(X++i.preR r c av lv n m)++.obj i.rm (Qt Value.string (ZO 0 s))::i.post M₀:=by rw[append_assoc];rfl
def PI.splC(X:List Qw):X++i.M r s c av lv n m M₀=(X++i.preC r av lv n m)++.obj i.cm (Qt Value.string (ZO 0 c))::.obj i.rm (Qt Value.string (ZO 0 s))::i.post M₀:=by rw[append_assoc];rfl
def PI.perm(i:PI)(r:ByteArray)(s c:List ByteArray)(av lv:Value)(n m:Nat)(V M₀ X:List Qw):Perm (X++i.M r s c av lv n m (V++M₀)) (V++(X++i.M r s c av lv n m M₀)):=by
 show Perm (X++(i.M r s c av lv n m []++(V++M₀))) (V++(X++(i.M r s c av lv n m []++M₀)));exact(Perm.append_left X (perm_append_comm_assoc _ V M₀)).trans (perm_append_comm_assoc X V _)
def Zor(U:Qa T)(es:List Ent)(b:List Value):Prop:=b.length=es.length/\∀(i:Nat)(e:Ent),es[i]?=some e->∃v,b[i]?=some v/\Q32 U e v
def Zor.lg{T:Type}{U U':Qa T}{es:List Ent}{b:List Value}(h:Zor U es b)(k:U.lg U'):Zor U' es b:=⟨h.1,λ i e f=>let ⟨v,h1,h2⟩:=h.2 i e f;⟨v,h1,h2.lg k⟩⟩
def Zor.snoc(h:Zor U es vs)(k:Q32 U u v):Zor U (es++[u]) (vs++[v]):=by
 refine⟨by simp[h.1],λ i x f=>?_⟩;rw[getElem?_append]at f;split at f
 .rename_i hlt;obtain⟨w,z,B⟩:=h.2 i x f;exact⟨w,by rw[getElem?_append_left (by rw[h.1];exact hlt)];exact z,B⟩
 .rename_i hge;have:i=es.length:=by have:=(List.getElem?_eq_some_iff.1 f).1;simp at this;omega
  subst this;simp at f;subst f;exact⟨v,by rw[<- h.1];simp,k⟩
structure Zth{T:Type}(U:Qa T)(i:PI)(es:List Ent)(M₀:List Qw)(k:Nat)(r:ByteArray):Prop where
 ex:∃(av lv:Value)(vals:List Value)(V:List Qw)(la:Option Ent),U.M.Perm (i.M r (rsN (es.take k)) (csN (es.take k)) av lv (rsN (es.take k)).length (csN (es.take k)).length (V++M₀))/\Js 87 1 av vals V/\Zor U.frz (es.take k) vals/\Zpp U.frz la lv/\Zro la (es.drop k)
def Zth.held(i:PI)(es:List Ent)(M₀:List Qw)(k:Nat):Zxu (T:=T) i.bs (λ r h=>Zth h i es M₀ k r):=by
 rintro r h⟨av,lv,b,V,la,G,z,B,E,F⟩;exact⟨_,G,λ I H w f=>⟨av,lv,b,V,la,f,z,B.lg w,E.lg w,F⟩⟩
def Zth.le{T:Type}{w z:Qa T}{i:PI}{es:List Ent}{M₀:List Qw}{k:Nat}{r:ByteArray}(b:w.le z)(h:Zth w i es M₀ k r):Zth z i es M₀ k r:=by
 obtain⟨av,lv,f,V,la,H,B,E,F,G⟩:=h;exact⟨av,lv,f,V,la,by rw[b.own];exact H,B,E.lg b.lg.frz2,F.lg b.lg.frz2,G⟩
def NoB.app(b:NoB d x)(f:NoB d y):NoB d (x++y):=by
 unfold NoB at *;simp only[ByteArray.data_append,Array.toList_append,mem_append,not_or];exact⟨b,f⟩
def NoB.by1(h:w≠d):NoB w (byB d):=by simpa[NoB,byB]using h
def Ent.no10(h:u.ok):NoB 10 u.line:=by
 have f:NoB 10 ByteArray.empty:=by simp[NoB]
 cases u with
 |rt n=>
  have h:Qyt n:=h;show NoB 10 (_++byB 58++Qal (byB 59) ([n]++[ByteArray.empty]));rw[Qn0];exact .app (.app (by unfold NoB;decide) (.by1 D1)) (.app h.b10 (.by1 D1))
 |cs n a=>
  have h:Qyt n/\Qyt a:=h;show NoB 10 (_++byB 58++Qal (byB 59) ([n,a]++[ByteArray.empty]));rw[Zok];exact .app (.app (by unfold NoB;decide) (.by1 D1)) (.app (.app (.app h.1.b10 (.by1 D1)) h.2.b10) (.by1 D1))
 |gr l=>
  have h:(∀x∈l,Qyt x)/\l.length<=10:=h;show NoB 10 (_++byB 58++Qal (byB 59) ([Qal (byB 44) l]++[ByteArray.empty]));rw[Qn0];exact .app (.app (by unfold NoB;decide) (.by1 D1)) (.app (Zjx D1 λ x b=>(h.1 x b).b10) (.by1 D1))
 |af l=>
  have h:(∀x∈l,Qyt x)/\l.length<=10/\l≠[]:=h;show NoB 10 (_++byB 58++Qal (byB 59) ([Qal (byB 44) l]++[ByteArray.empty]));rw[Qn0];exact .app (.app (by unfold NoB;decide) (.by1 D1)) (.app (Zjx D1 λ x b=>(h.1 x b).b10) (.by1 D1))
def Ent.line_ne(e:Ent):e.line≠ByteArray.empty:=by
 have:0<e.line.size:=by
  cases e <;> (show 0<(_++byB 58++_:ByteArray).size;rw[ByteArray.size_append,ByteArray.size_append];have:=Qbd 58;omega)
 intro h;rw[h]at this;exact absurd this D1
def Zvb(es:List Ent)(yl:List ByteArray):Prop:=yl.length=es.length/\∀(k:Nat)(e:Ent)(y:ByteArray),es[k]?=some e->yl[k]?=some y->y=e.line++byB 10\/(k+1=yl.length/\y=e.line)
def Zvb.ln(h:Zvb es s)(E:∀e∈es,e.ok)(k:Nat)(y:ByteArray)(w:s[k]?=some y):Zx6 s k y:=by
 have f:k<es.length:=by rw[<- h.1];exact(List.getElem?_eq_some_iff.1 w).1
 have z:=getElem?_eq_getElem f;have b:=Ent.no10 (E _ (getElem_mem f));rcases h.2 k _ y z w with rfl|⟨B,rfl⟩
 .exact .inl ⟨_,rfl,b⟩
 .exact .inr ⟨B,b,Ent.line_ne _⟩
abbrev RSt:=List ByteArray×List Cs×Option Cs
def Zxg(seen:List ByteArray)(l:List ByteArray)(b:List Nat):Prop:=(∀(i:Nat)(x:ByteArray),l[i]?=some x->∃k,b[i]?=some k/\seen[k]?=some x)/\b.length=l.length/\l.length<=12/\b.Pairwise (· < ·)
def Zxw(ra ca:List ByteArray)(s:RSt):Ent->RSt->Prop
 |.rt n,b=>b=(s.1++[n],s.2.1,s.2.2)/\s.1.length<40
 |.cs n m,b=>∃k:Nat,ra[k]?=some m/\b=(s.1,s.2.1++s.2.2.toList,some ⟨n,k,[],[]⟩)/\s.2.1.length<39
 |.gr l,b=>∃c f,s.2.2=some c/\Zxg ra l f/\c.gs.length<40/\b=(s.1,s.2.1,some { c with gs:=c.gs++[Qky f] })
 |.af l,b=>∃c f,s.2.2=some c/\Zxg ca l f/\b=(s.1,s.2.1,some { c with af:=Qky f })
def Qzw(ra ca:List ByteArray):RSt->List Ent->RSt->Prop
 |s,[],b=>s=b
 |s,e::r,b=>∃f,Zxw ra ca s e f/\Qzw ra ca f r b
def Rdg.mem(h:Rdg U rb rm n o rs cs cur M₀)(E:A∈M₀):A∈U.M:=by
 obtain⟨ra,rl,rc,ca,cl,cc,R,C,G,rows,last,H,F,b,f,z,B,w⟩:=h;exact w.mem_iff.2 (by simp[E])
def Rdg.line{ln:Int}(h:Rdg U rb rm n ln rs cs cur M₀)(z:Int)
  (k:∀b:Qa T,U.frz.lg b.frz->Rdg b rb rm n z rs cs cur M₀->Q b):QZ ((Addr.mk rb 0 none).add 4) [.int .i64 z] 0 (λ U'=>∃b,Qv U' b/\Q b) U:=by
 obtain⟨ra,rl,rc,ca,cl,cc,R,C,G,rows,last,P,K,f,w,F,H,N⟩:=h;refine yj (L₁:=R++(C++G)) (L₂:=M₀) (i:=4) (by simpa only[append_assoc]using N) (by show 4<5;decide) rfl λ b L S B=>?_;have E:U.frz.lg b.frz:=⟨λ x o h=>by show b.I x=_;rw[L];exact h,⟨[],rfl⟩,S⟩;exact k b E ⟨ra,rl,rc,ca,cl,cc,R,C,G,rows,last,P,K,f.lg E,w.lg E,F,H,by rw[B];simp only[append_assoc];exact Perm.refl _⟩
def Zr9(U:Qa T)(h:BH)(rb rm cm:Nat)(ln:Int)(rs:List ByteArray)(cs:List Cs)(cur:Option Cs)(M₀:List Qw):Prop:=
 ∃(R C G:List Qw)(rows last:List (List Value)),Js 9 1 (.slice h.ra h.rl h.rc) (rs.map Value.string) R/\Js 39 4 (.slice h.ca h.cl h.cc) (rows++last).flatten C/\Qvi U rows cs/\Zqp U cur last G/\rs.length<=40/\cs.length<=40 /\
  U.M.Perm (R++(C++(G++.obj rb (.cells (rdC (.slice h.ra h.rl h.rc) (.slice h.ca h.cl h.cc) rm cm ln).toArray 84 (0,0))::M₀)))
def Rdg.opn(h:Rdg U rb rm n o rs cs cur M₀):∃q:BH,Zr9 U q rb rm n o rs cs cur M₀:=by
 obtain⟨ra,rl,rc,ca,cl,cc,R,C,G,rows,last,h⟩:=h;exact⟨⟨ra,rl,rc,ca,cl,cc⟩,R,C,G,rows,last,h⟩
def Zr9.cell(h:Zr9 U q rb rm n o rs cs cur M₀):Qw.obj rb (.cells (rdC (.slice q.ra q.rl q.rc) (.slice q.ca q.cl q.cc) rm n o).toArray 84 (0,0))∈U.M:=by
 obtain⟨R,C,G,rows,last,-,-,-,-,-,-,b⟩:=h;exact b.mem_iff.2 S1
def Zr9.mem(h:Zr9 U q rb rm n o rs cs cur M₀)(E:A∈M₀):A∈U.M:=by
 obtain⟨R,C,G,rows,last,H,F,b,f,z,B,w⟩:=h;exact w.mem_iff.2 (by simp[E])
def Zpd(E:Src U a (rs.map Value.string))(h:∀b,a=some b->b.spot=none):Q8 U a rs.length 1 rs λ s vs=>vs=[.string s]:=by
 refine⟨rfl,λ i x z=>?_⟩;rcases E with⟨_,B⟩|⟨b,w,f⟩
 .have h1:(rs.map Value.string).length=0:=by rw[B];rfl
  have:=(List.getElem?_eq_some_iff.1 z).1;rw[length_map]at h1;omega
 .refine⟨b,_,w,h b w,rfl,rfl,Zl8 (by rw[Nat.mul_one];exact f i _ (by simp[z]))⟩
def Zr9.calls{S:Sys P T}{Q:Value->Qa T->Prop}(h:Zr9 U q rb rm n o rs cs cur M₀)(aq:cs.length<40)
  (ai:∀s∈rs,s.size<2^60) (Z:∀c∈cs++cur.toList,c.nm.size<2^60)
  (k:∀U',U.frz.lg U'.frz->U'.M=.obj rb (.cells (rdC (.slice q.ra q.rl q.rc) (.slice q.ca q.cl q.cc) rm n o).toArray 84 (0,0))::M₀->Zq U'.frz q ⟨rs,cs++cur.toList⟩->q.rl<=q.rc->Qb S g args Q U'):Qb S g args Q U:=by
 have w:∀(k1:∀U',U.frz.lg U'.frz->Zr9 U' q rb rm n o rs (cs++cur.toList) none M₀->Qb S g args Q U'),Qb S g args Q U:=by
  intro k1;cases cur with
  |none=>exact k1 U ⟨λ _ _ h=>h,⟨[],rfl⟩,rfl⟩ (by simpa using h)
  |some c=>
   obtain⟨R,C,G,rows,last,W,N,f,⟨row,rfl,ga,gl,gc,aa,ac,ap,rfl,hG,aw,am,an,ax,ay⟩,B,ae,V⟩:=h;refine Qb.sep0 λ H=>?_;obtain⟨U',ao,k2,X,a,len,cap,e,hl,L,ak⟩:=hG.freeze H (V.trans (Zr5 R C G _));cases e;rw[Nat.mul_one]at hl;refine Qb.shift ao (k1 U' X ⟨R,C,[],rows++[_],[],W,by rw[append_nil];exact N,(f.lg X).snoc ⟨ga,gl,gc,aa,c.af.length,ac,rfl,⟨O1,λ i l ab=>?_⟩,?_,an.lg X,?_⟩,⟨rfl,rfl⟩,B,S3,by rw[k2];exact Perm.refl _⟩)
   .obtain⟨h0,a',cap',e',hi⟩:=am i l ab;rcases L with⟨_,e2⟩|⟨ad,rfl,hr⟩
    .rw[e2]at e';cases e'
    .refine⟨ad,_,rfl,ak ad rfl,⟨a',l.length,cap',rfl,hi.lg X,h0⟩,rfl,Zl8 (by rw[Nat.mul_one];exact hr i _ e')⟩
   .omega
   .omega
 refine w λ U1 E h=>?_;obtain⟨R,C,G,rows,last,W,N,f,⟨rfl,rfl⟩,B,ae,V⟩:=h;rw[append_nil]at N;rw[nil_append]at V
 have ag:q.rl<=q.rc:=by
  rcases W []with⟨e,-,-⟩|⟨b,c,len,cap,e,h1,h2,-⟩
  .simp only[Value.slice.injEq]at e;omega
  .simp only[Value.slice.injEq]at e;omega
 refine Qb.sep0 λ H=>?_;obtain⟨U2,f1,f2,f3,ra,rl,rc,e,ah,al,K⟩:=W.freeze H V;cases e;refine Qb.shift f1 (Qb.sep0 λ H=>?_);obtain⟨U3,g1,g2,Y,ca,cl,cc,e,au,aj,I⟩:=N.freeze H (by rw[f2]);cases e;have av:=Qu8 f.row;have F:rs.length=q.rl:=by rw[length_map]at ah;omega
 have z:(cs++cur.toList).length=q.cl:=by rw[<- f.1];omega
 refine Qb.shift g1 (k U3 (E.trans (f3.trans Y)) g2 ⟨?_,?_,?_,?_,ai,Z⟩ ag)
 .have:=(Zpd al K).lg Y (R':=λ s vs=>vs=[.string s]) λ _ _ h=>h;rw[F]at this;exact this
 .have:=(f.lg (f3.trans Y)).rows aj I;rw[z]at this;exact this
 .omega
 .omega
def PI.oth(i:PI)(r:ByteArray)(s c:List ByteArray)(av lv:Value)(n m:Nat)(X M₀:List Qw):List Qw:=
 X++(.obj i.bs (Qzp r)::.cl i.b9 [.int .i64 m] 3::.cl i.b8 [.int .i64 n] 3::.cl i.b7 [lv] 87::.cl i.b6 [av] 85::.cl i.b5 [.pb i.rb] 80 ::
 .obj i.cm (Qt Value.string (ZO 0 c))::.obj i.rm (Qt Value.string (ZO 0 s))::i.post M₀)
def PI.othP(i:PI)(r:ByteArray)(s c:List ByteArray)(av lv:Value)(n m:Nat)(X M₀:List Qw):Perm (X++i.M r s c av lv n m M₀) (.obj i.rb (.cells (rdC .nl .nl i.rm i.cm 0).toArray 84 (0,0))::i.oth r s c av lv n m X M₀):=by
 have h:X++i.M r s c av lv n m M₀=(X++[.obj i.bs (Qzp r),.cl i.b9 [.int .i64 m] 3,.cl i.b8 [.int .i64 n] 3,.cl i.b7 [lv] 87,.cl i.b6 [av] 85,.cl i.b5 [.pb i.rb] 80])++.obj i.rb (.cells (rdC .nl .nl i.rm i.cm 0).toArray 84 (0,0))::(.obj i.cm (Qt Value.string (ZO 0 c))::.obj i.rm (Qt Value.string (ZO 0 s))::i.post M₀):=by rw[append_assoc];rfl
 rw[h];refine perm_middle.trans (Perm.cons _ ?_);rw[append_assoc];exact Perm.refl _
def PI.preO(i:PI)(r:ByteArray)(s c:List ByteArray)(av lv:Value)(n m:Nat):List Qw:=
 [.obj i.bs (Qzp r),.cl i.b9 [.int .i64 m] 3,.cl i.b8 [.int .i64 n] 3,.cl i.b7 [lv] 87,.cl i.b6 [av] 85,.cl i.b5 [.pb i.rb] 80,.obj i.cm (Qt Value.string (ZO 0 c)),.obj i.rm (Qt Value.string (ZO 0 s))]
def PI.oth_post(i:PI)(r:ByteArray)(s c:List ByteArray)(av lv:Value)(n m:Nat)(V:List Qw)(a d:Qw)(M₀:List Qw):i.oth r s c av lv n m (V++[a,d]) M₀=(V++[a])++d::(i.preO r s c av lv n m++i.post M₀):=by
 show(V++[a,d])++_=_;rw[append_assoc,append_assoc];rfl
def Zt3{x:List ByteArray}(h:(s++r::x).Nodup):JB s r=false:=by
 have:r∉s:=λ b=>(nodup_append.1 h).2.2 r b r (mem_cons_self ..) rfl;simp only[JB];simpa using λ(x:ByteArray)(f:x∈s)(e:x=r)=>this (e▸f)
section
attribute [local irreducible] Qb Zp Wv
def Zqs(s:ByteArray):Qb S 37 #[.string s] (λ v U'=>(∃bs,v=.func (.func 70) #[] #[.pb bs]/\U'.M=.obj bs (Qzp s)::U.M)/\U'.I=U.I/\U'.tok=U.tok) U:=by
 refine Qb.of (args:=[_]) Zsf Qf S1 ?_
 conv=>whnf
 intro bs b
 conv=>whnf
 exact⟨⟨bs,rfl,rfl⟩,rfl,rfl⟩
