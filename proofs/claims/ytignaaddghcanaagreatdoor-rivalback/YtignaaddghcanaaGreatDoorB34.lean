/- Lemmas. No conditions. -/
import Derived.Test.YtignaaddghcanaaGreatDoorB32
import Derived.Test.YtignaaddghcanaaGreatDoorB02
set_option linter.all false
set_option maxRecDepth 100000
set_option maxHeartbeats 1000000
open List
open Go.Proofs.Tryz (prog)
namespace Go.TM
open Go.Proofs
def Qf:prog.follows .mixedOrders=true:=K1
variable{T α:Type}{S:Sys prog T}{p:α->Bool}{l':List α}{i:Nat}{W:α}{U:Qa T}
section
attribute [local irreducible] Qb Zp Wv
def Wo(U:Qa T)(n a b:Int):Qb S 52 #[.int .i64 n,.int .i64 a,.int .i64 b] (λ v U'=>v=.bool (QR n a b)/\U'=U) U:=by
 refine Qb.of (args:=[_,_,_]) G3 Qf S1 ?_
 repeat apply R1
 conv=>whnf
 apply Jt<;>intro f
 .repeat apply R1
  conv=>whnf
  exact⟨by unfold QR;rw[f];rfl,rfl⟩
 .repeat apply R1
  conv=>whnf
  exact⟨by unfold QR;rw[f];rfl,rfl⟩
def Zmk(U:Qa T)(n a b:Int):Qb S 78 #[.int .i64 n,.int .i64 a,.int .i64 b] (λ v U'=>v=.bool (QR n a b)/\U'=U) U:=by
 refine Qb.of (args:=[_,_,_]) gW Qf S1 ?_
 repeat apply R1
 conv=>whnf
 apply Jt<;>intro f
 .repeat apply R1
  conv=>whnf
  exact⟨by unfold QR;rw[f];rfl,rfl⟩
 .repeat apply R1
  conv=>whnf
  exact⟨by unfold QR;rw[f];rfl,rfl⟩
def WUq(S:TM.Sys prog T)(U:Qa T)(g:FuncId)(first b:Array Value)(enc:α->Value)(l:List α)(p:α->Bool):Prop:=
 (prog.funcs[g]?.any λ fd=>fd.body.isSome&&fd.name != "runtime.NumGoroutine")=true/\∀x∈l,Qb S g (first.toList++[enc x]++b.toList).toArray (λ v U'=>v=.bool (p x)/\U'=U) U
def Xx(p:α->Bool)(l:List α):Int:=match l.findIdx? p with|some i=>i|none=>-1
def VN(h:∀x∈l',p x=false):Xx p l' = -1:=by
 unfold Xx;rw[findIdx?_eq_none_iff.2 h]
def VO(z:l'[i]?=some W)(w:p W=true)(h:∀y∈l'.take i,p y=false):Xx p l'=i:=by
 unfold Xx
 have:l'.findIdx? p=some i:=by
  obtain⟨b,rfl⟩:=List.getElem?_eq_some_iff.1 z;rw[findIdx?_eq_some_iff_getElem];refine⟨b,w,λ j B=>?_⟩
  have f:l'[j]' O1∈l'.take i:=by
   rw[mem_take_iff_getElem];exact⟨j,O1,rfl⟩
  simpa using h _ f
 rw[this]
def KP:decide (Xx p l' ≥ 0)=l'.any p:=by
 unfold Xx;cases h:l'.findIdx? p with
 |none=>
  rw[findIdx?_eq_none_iff]at h;have:l'.any p=false:=by rw[any_eq_false];intro x w;simp[h x w]
  rw[this];rfl
 |some i=>
  have:l'.any p=true:=by
   rw[findIdx?_eq_some_iff_getElem]at h;obtain⟨b,f,_⟩:=h;exact any_eq_true.2 ⟨l'[i],S1,f⟩
  rw[this];simp
def zc(enc:α->Value)(a:Option Addr)(len cap:Nat)(l:List α)(T:l.length=len)(G:∀i x,l[i]?=some x->∃B,a=some B/\B.spot=none/\U.sees (B.add (i*1)) (enc x))(H:∀x,∃k n,enc x=.int k n)(K:len<2^60)(g:FuncId)(first h:Array Value)(p:α->Bool)
  (I:WUq S U g first h enc l p):Qb S 226 #[.slice a len cap,.func (.func g) first h] (λ v U'=>v=.int .i64 (Xx p l)/\U'=U) U:=by
 refine Qb.of (args:=[_,_]) FM Qf S1 ?_
 repeat apply R1
 refine⟨Nat,λ i=>[(0,.slice a len cap),(1,.func (.func g) first h),(6,.slice a len cap),(7,.int .i64 len),(8,.int .i64 i)],
  λ i U'=>U'=U/\i<=len/\∀x∈l.take i,p x=false,λ i=>len-i,0,T1,⟨rfl,O1,S1⟩,?_⟩
 rintro i f _⟨rfl,Q,b⟩
 repeat apply R1
 conv=>whnf
 apply Qg<;>intro E
 .have hlt:i<len:=by simpa using E
  have F:l[i]?=some (l[i]' O1):=S1
  generalize l[i]' O1=x at F;obtain⟨B,rfl,P,L⟩:=G i x F;obtain⟨k,n,N⟩:=H x;have w:=I.2 x (mem_of_getElem? F);rw[N]at w L;refine⟨B,i,⟨rfl,rfl,hlt⟩,_,L,I.1,w.mono ?_⟩;rintro v U'⟨rfl,rfl⟩-
  conv=>whnf
  apply Qg<;>intro E
  .repeat apply R1
   conv=>whnf
   exact⟨by rw[VO F E b],rfl⟩
  .refine⟨I1,?_⟩;refine⟨rfl,i+1,T1,⟨rfl,O1,?_⟩,L1⟩;intro y z;rw[Wf F,mem_append]at z;rcases z with z|z
   .exact b y z
   .simp at z;subst z;exact E
 .have hge:len<=i:=by simpa using E
  repeat apply R1
  refine⟨?_,rfl⟩;rw[take_of_length_le O1]at b;rw[VN b]
def zd(enc:α->Value)(a:Option Addr)(len cap:Nat)(l:List α)(T:l.length=len)(G:∀i x,l[i]?=some x->∃B,a=some B/\B.spot=none/\U.sees (B.add (i*1)) (enc x))(H:∀x,∃k n,enc x=.int k n)(K:len<2^60)(g:FuncId)(first h:Array Value)(p:α->Bool)
  (I:WUq S U g first h enc l p):Qb S 149 #[.slice a len cap,.func (.func g) first h] (λ v U'=>v=.int .i64 (Xx p l)/\U'=U) U:=by
 refine Qb.of (args:=[_,_]) Fa Qf S1 ?_
 repeat apply R1
 refine⟨Nat,λ i=>[(0,.slice a len cap),(1,.func (.func g) first h),(6,.slice a len cap),(7,.int .i64 len),(8,.int .i64 i)],
  λ i U'=>U'=U/\i<=len/\∀x∈l.take i,p x=false,λ i=>len-i,0,T1,⟨rfl,O1,S1⟩,?_⟩
 rintro i f _⟨rfl,Q,b⟩
 repeat apply R1
 conv=>whnf
 apply Qg<;>intro E
 .have hlt:i<len:=by simpa using E
  have F:l[i]?=some (l[i]' O1):=S1
  generalize l[i]' O1=x at F;obtain⟨B,rfl,P,L⟩:=G i x F;obtain⟨k,n,N⟩:=H x;have w:=I.2 x (mem_of_getElem? F);rw[N]at w L;refine⟨B,i,⟨rfl,rfl,hlt⟩,_,L,I.1,w.mono ?_⟩;rintro v U'⟨rfl,rfl⟩-
  conv=>whnf
  apply Qg<;>intro E
  .repeat apply R1
   conv=>whnf
   exact⟨by rw[VO F E b],rfl⟩
  .refine⟨I1,?_⟩;refine⟨rfl,i+1,T1,⟨rfl,O1,?_⟩,L1⟩;intro y z;rw[Wf F,mem_append]at z;rcases z with z|z
   .exact b y z
   .simp at z;subst z;exact E
 .have hge:len<=i:=by simpa using E
  repeat apply R1
  refine⟨?_,rfl⟩;rw[take_of_length_le O1]at b;rw[VN b]
def qP(a:Option Addr)(len cap:Nat)(l:List Int)(z:Z3 U a len l)(B:len<2^60)(n:Int) :
  Qb S 81 #[.slice a len cap,.int .i64 n] (λ v U'=>v=.int .i64 (Xx (λ y=>n==y) l)/\U'=U) U:=by
 refine Qb.of (args:=[_,_]) Uy Qf S1 ?_;have G:=z.1
 repeat apply R1
 refine⟨Nat,λ i=>[(0,.slice a len cap),(1,.int .i64 n),(6,.slice a len cap),(7,.int .i64 len),(8,.int .i64 i)],
  λ i U'=>U'=U/\i<=len/\∀x∈l.take i,(n==x)=false,λ i=>len-i,0,T1,⟨rfl,O1,S1⟩,?_⟩
 rintro i f _⟨rfl,K,b⟩
 repeat apply R1
 conv=>whnf
 apply Qg<;>intro w
 .have hlt:i<len:=by simpa using w
  obtain⟨F,x,E,rfl,I,H⟩:=z.at hlt;refine⟨F,i,⟨rfl,rfl,hlt⟩,_,H,?_⟩
  repeat apply R1
  conv=>whnf
  apply Qg<;>intro w
  .repeat apply R1
   conv=>whnf
   exact⟨by rw[VO (p:=λ y=>n==y) E w b],rfl⟩
  .refine⟨I1,?_⟩;refine⟨rfl,i+1,T1,⟨rfl,O1,?_⟩,L1⟩;intro y h;rw[Wf E,mem_append]at h;rcases h with h|h
   .exact b y h
   .simp at h;subst h;exact w
 .have hge:len<=i:=by simpa using w
  repeat apply R1
  refine⟨?_,rfl⟩;rw[take_of_length_le O1]at b;rw[VN b]
def Dl(a:Option Addr)(len cap:Nat)(l:List Int)(f:Z3 U a len l)(b:len<2^60)(n:Int) :
  Qb S 53 #[.slice a len cap,.int .i64 n] (λ v U'=>v=.bool (l.contains n)/\U'=U) U:=by
 refine Qb.of (args:=[_,_]) OW Qf S1 ?_;refine⟨Uy.any,(qP a len cap l f b n).mono ?_⟩;rintro v U'⟨rfl,rfl⟩-
 repeat apply R1
 refine⟨?_,rfl⟩;show Value.bool _=_;rw[KP];congr 1;rw[Bool.eq_iff_iff];simp
end
def Gs(c:UInt8):Bool:=(decide ((c.toNat:Int)<97)|| decide ((c.toNat:Int) > 122))&&(decide ((c.toNat:Int)<48)|| decide ((c.toNat:Int) > 57))
section
attribute [local irreducible] Qb Zp
def qE(c:UInt8):Qb S 225 #[.int .u8 c.toNat] (λ v U'=>v=.bool (Gs c)/\U'=U) U:=by
 refine Qb.of (args:=[_]) Fk Qf S1 ?_;have b:Gs c=((decide ((c.toNat:Int)<97)|| decide ((c.toNat:Int) > 122))&&(decide ((c.toNat:Int)<48)|| decide ((c.toNat:Int) > 57))):=rfl
 repeat apply R1
 conv=>whnf
 apply Jt<;>intro f
 .repeat apply R1
  conv=>whnf
  apply Jt<;>intro f
  .repeat apply R1
   conv=>whnf
   apply Jt<;>intro f
   .repeat apply R1
    conv=>whnf
    exact⟨by rw[b];first|(simp_all;done)|(simp_all;omega),rfl⟩
   .repeat apply R1
    conv=>whnf
    exact⟨by rw[b];first|(simp_all;done)|(simp_all;omega),rfl⟩
  .repeat apply R1
   conv=>whnf
   exact⟨by rw[b];first|(simp_all;done)|(simp_all;omega),rfl⟩
 .repeat apply R1
  conv=>whnf
  apply Jt<;>intro f
  .repeat apply R1
   conv=>whnf
   exact⟨by rw[b];first|(simp_all;done)|(simp_all;omega),rfl⟩
  .repeat apply R1
   conv=>whnf
   exact⟨by rw[b];first|(simp_all;done)|(simp_all;omega),rfl⟩
end
def Zh(s:ByteArray):Bool:=QR s.size 1 10&&((match s.data.toList with|c::_=>!(decide ((c.toNat:Int)<97))&&!(decide ((c.toNat:Int) > 122))|[]=>false)&&!(s.data.toList.any Gs))
variable{s:ByteArray}{η:UInt8}{δ:List UInt8}
section
attribute [local irreducible] Qb Zp
def BR(a:Option Addr)(len cap:Nat)(l:List UInt8)(w:l.length=len)(h:∀(i:Nat)x,l[i]?=some x->∃f,a=some f/\f.spot=none/\U.sees (f.add (i*1)) (.int .u8 x.toNat))(b:len<2^60) :
  Qb S 224 #[.slice a len cap,.func (.func 225) #[] #[]] (λ v U'=>v=.bool (l.any Gs)/\U'=U) U:=by
 refine Qb.of (args:=[_,_]) Fj Qf S1 ?_;refine⟨FM.any,(zc (λ c:UInt8=>.int .u8 c.toNat) a len cap l w h (λ x=>⟨_,_,rfl⟩) b 225 #[] #[] Gs ⟨Fk.any,λ x _=>qE x⟩).mono ?_⟩;rintro v U'⟨rfl,rfl⟩-
 repeat apply R1
 refine⟨?_,rfl⟩;show Value.bool _=_;rw[KP]
def vb:prog.underlying 9=some .string:=K1
def jN:prog.underlying 62=some (.slice 5):=K1
def pn:prog.underlying 5=some (.int .u8):=K1
def LR(h:s.data.toList=η::δ):s[0]?=some η:=by
 have f:s.data[0]?=some η:=by rw[<- Array.getElem?_toList,h];rfl
 obtain⟨b,w⟩:=Array.getElem?_eq_some_iff.1 f;rw[getElem?_pos s 0 (by simpa using b)];exact congrArg some w
def qj(s:ByteArray)(F:s.size<2^60):Qb S 223 #[.string s] (λ v U'=>v=.bool (Zh s)/\U'=U) U:=by
 refine Qb.pure' (Qb.of (args:=[_]) Fi Qf S1 ?_);have w:s.size=s.data.toList.length:=by rw[Array.length_toList];rfl
 refine⟨G3.any,(Wo _ _ _ _).mono ?_⟩;rintro v U'⟨rfl,rfl⟩-
 conv=>whnf
 apply Jt<;>intro f
 .have hb:QR (s.size:Int) 1 10=true:=by simpa using f
  cases h:s.data.toList with
  |nil=>rw[w,h]at hb;simp[QR]at hb
  |cons c r=>
   have E:Zh s=(!(decide ((c.toNat:Int)<97))&&!(decide ((c.toNat:Int) > 122))&&!((c::r).any Gs)):=by unfold Zh;rw[hb,h];rfl
   refine⟨0,c,⟨rfl,LR h⟩,?_⟩
   repeat apply R1
   conv=>whnf
   apply Jt<;>intro f
   .have h1:decide ((c.toNat:Int)<97)=false:=by simpa using f
    refine⟨0,c,⟨rfl,LR h⟩,?_⟩
    repeat apply R1
    conv=>whnf
    apply Qg<;>intro f
    .repeat apply R1
     conv=>whnf
     exact⟨by rw[E,f];simp,Qa.le.lg (.refl _)⟩
    .conv=>whnf
     refine wQ vb jN pn rfl λ b cap cs fr z B=>?_;refine⟨Fj.any,(BR (some ⟨b,0,none⟩) s.size cap (c::r) (by rw[w,h]) (λ i x G=>⟨_,rfl,rfl,?_⟩) F).mono ?_⟩
     .rw[Qo];refine⟨rfl,.inl ⟨cs,5,fr,.inl (by simp[Z_]),?_⟩⟩;have:=B i x (by rw[<- Array.getElem?_toList,h];exact G);simpa using this
     rintro v U''⟨rfl,rfl⟩-
     repeat apply R1
     refine⟨?_,(Gj z).lg⟩;show Value.bool _=_;rw[E,h1,f];simp
   .have h1:decide ((c.toNat:Int)<97)=true:=by simpa using f
    repeat apply R1
    conv=>whnf
    exact⟨by rw[E,h1];rfl,Qa.le.lg (.refl _)⟩
 .have hb:QR (s.size:Int) 1 10=false:=by simpa using f
  repeat apply R1
  conv=>whnf
  exact⟨by unfold Zh;rw[hb];rfl,Qa.le.lg (.refl _)⟩
end
variable{v:Value}{l:List Int}{M₀:List Qw}
def Sk(h:Acc 3 1 v (l.map λ n=>.int .i64 n) U.M M₀):∃a cap,v=.slice a l.length cap/\Z3 U a l.length l:=by
 obtain⟨a,len,cap,rfl,B,K⟩:=h.src;simp at B;subst B;refine⟨a,cap,rfl,rfl,λ i x E=>?_⟩;rcases h with⟨z,f,_⟩|⟨b,c,len,w,z,f,H,I,G,F⟩
 .rw[map_eq_nil_iff]at f;subst f;simp at E
 .cases z;refine⟨_,rfl,rfl,?_⟩;rw[Qo];exact⟨rfl,.inl ⟨c,3,(0,0),.inr (by rw[G];exact mem_cons_self ..),by simpa using F i (.int .i64 x) (by simp[E])⟩⟩
section
attribute [local irreducible] Qb Zp Wv
def H0:X3 prog 37 3 1:=.of K1
def Pt:prog.underlying 37=some (.slice 3):=K1
def DB(a:Option Addr)(len cap:Nat)(l:List Int)(z:Z3 U a len l)(G:len<=1000000) :
  Qb S 140 #[.slice a len cap] (λ v U'=>Acc 3 1 v (l.map λ n=>.int .i64 n) U'.M U.M/\(∀x o,U.I x=some o->U'.I x=some o)/\U'.tok=U.tok) U:=by
 refine Qb.of (args:=[_]) Pb Qf S1 ?_;have B:=z.1
 conv=>whnf
 refine Vy Pt rfl ?_
 conv=>whnf
 apply Qg<;>intro F
 .have ha:a=none:=by simpa using F
  subst ha
  have:l=[]:=by
   cases l with
   |nil=>rfl
   |cons x r=>obtain⟨b,h,_⟩:=z.2 0 x rfl;cases h
  subst this
  repeat apply R1
  conv=>whnf
  exact⟨.nil,λ _ _ h=>h,rfl⟩
 .obtain⟨b,rfl⟩:∃b,a=some b:=by cases a with|none=>cases F|some b=>exact⟨b,rfl⟩
  conv=>whnf
  intro b5 L;refine⟨_,.refl _,?_⟩
  conv=>whnf
  refine Wn (v:=.slice (some ⟨b5,0,none⟩) 0 0) (cs:=[]) (new:=l.map λ n=>.int .i64 n) (M₀:=U.M) H0 rfl rfl .empty (.inr ⟨_,rfl,λ i v w=>?_⟩) (by simp[B]) (by simp[Value.single]) S3 λ Q M' f _=>?_
  .rw[getElem?_map]at w;cases E:l[i]? with
   |none=>rw[E]at w;cases w
   |some x=>
    rw[E]at w;cases w;obtain⟨K,e,_,H⟩:=z.2 i x E;cases e;rw[Nat.mul_one]at H;exact H.lg (Z2 b5 _)
  obtain⟨N,P,tc,rfl,-,-⟩:=Acc.src (U:={ U with M:=M' }) f
  repeat apply R1
  conv=>whnf
  exact⟨by simpa using f,λ _ _ h=>h,rfl⟩
end
variable{b:Nat}{c:Array Value}{t:TypeId}{Q:Qa T->Prop}{vs:List Value}{q:List α}{X:α}
def Zi(w:U.free b)(h:∀f,U.le f->Zj f b c->Q f):∃f,Qv (U.put b (.cells c t)) f/\Q f:=
 ⟨_,Wa (b:=b) (M':=U.M) (Perm.refl _),h _ (Gj w) Zj.new⟩
def HC(f:c.size=vs.length)(z:∀v∈vs,v.single=true)(h:Q (U.put b (.cells vs.toArray t))) :
  QZ ⟨b,0,none⟩ vs 0 (λ U'=>∃w,Qv U' w/\Q w) (U.put b (.cells c t)):=by
 refine G8 vs 0 c _ rfl z O1 ?_;rw[VQ f];exact⟨_,.refl _,h⟩
def kx(w:U.free b)(B:i<c.size)(z:v.single=true)(h:∀f,U.le f->Zj f b (c.setIfInBounds i v)->Q f) :
  QZ ((Addr.mk b 0 none).add i) [v] 0 (λ U'=>∃f,Qv U' f/\Q f) (U.put b (.cells c t)):=by
 rw[Qo];refine G8 [v] 0 c _ rfl (by simpa using z) S3 ?_;simp only[JS,Nat.zero_add,Nat.add_zero];exact Zi w h
def V3(b:q[i]?=some W)(f:l'[i]?=some X)(h:q.take i=l'.take i)(e:W=X):q.take (i+1)=l'.take (i+1):=by
 rw[Wf b,Wf f,h,e]
def Kh(b:q[i]?=some W)(f:l'[i]?=some X)(e:W≠X):q≠l':=by
 rintro rfl;exact e (Option.some.inj (b.symm.trans f))
section
attribute [local irreducible] Qb Zp Wv
def GR(a a':Option Addr)(len cap b z:Nat)(l l':List Int)(L:Z3 U a len l)(F:Z3 U a' b l')(N:len<2^60) :
  Qb S 22 #[.slice a len cap,.slice a' b z] (λ v U'=>v=.bool (decide (l=l'))/\U'=U) U:=by
 refine Qb.pure' (Qb.of (args:=[_,_]) G2 Qf S1 ?_);have V:=L.1;have W:=F.1
 repeat apply R1
 conv=>whnf
 apply Qg<;>intro B
 .have hne:len≠b:=by intro e;subst e;simp at B
  repeat apply R1
  refine⟨?_,(Qa.le.refl _).lg⟩;rw[decide_eq_false (λ e=>hne (by rw[<- V,<- W,e]))]
 have H:len=b:=Int.ofNat.inj (by simpa using B:(len:Int)=b);subst H;refine⟨Nat,λ i=>[(0,.slice a len cap),(1,.slice a' len z),(5,.int .i64 i)],λ i U'=>U.le U'/\i<=len/\l.take i=l'.take i,λ i=>len-i,0,T1,⟨.refl _,O1,rfl⟩,?_⟩;rintro i f Y⟨h,hi,E⟩
 repeat apply R1
 conv=>whnf
 apply Qg<;>intro B
 .have hlt:i<len:=by simpa using B
  obtain⟨T,x,P,rfl,-,X⟩:=(L.lg h.lg).at hlt;obtain⟨G,y,Q,rfl,-,K⟩:=(F.lg h.lg).at hlt;have I:Ja (i+1):=I1
  refine⟨T,i,⟨rfl,rfl,hlt⟩,_,X,G,i,⟨rfl,rfl,hlt⟩,_,K,?_⟩
  conv=>whnf
  intro Z w _
  repeat apply R1
  conv=>whnf
  apply Qg<;>intro B
  .have hne:x≠y:=by simpa using B
   repeat apply R1
   conv=>whnf
   exact⟨by rw[decide_eq_false (Kh P Q hne)],(h.trans w).lg⟩
  .have hxy:x=y:=by simpa using B
   refine⟨I,?_⟩
   conv=>whnf
   exact⟨rfl,i+1,T1,⟨h.trans w,O1,V3 P Q E hxy⟩,L1⟩
 .have hge:len<=i:=by simpa using B
  rw[take_of_length_le O1,take_of_length_le O1]at E
  repeat apply R1
  conv=>whnf
  exact⟨by rw[decide_eq_true E],h.lg⟩
end
variable{j:Nat}{M y:Int}
def Hj(l:List Int)(i j:Nat):Prop:=(∀p q x y,p<q->q<=i->p≠j->q≠j->l[p]?=some x->l[q]?=some y->x<=y)/\(∀q x y,j<q->q<=i->l[j]?=some x->l[q]?=some y->x<=y)
def X8(l:List Int)(i:Nat):Prop:=∀p q x y,p<q->q<i->l[p]?=some x->l[q]?=some y->x<=y
def Hj.start(h:X8 l i):Hj l i i:=
 ⟨λ p q x y b f _ B w z=>h p q x y b O1 w z,λ q x y b f=>O1⟩
def Hj.done(h:Hj l i j)(H:j<=i)(F:j=0\/∃x y,l[j]?=some x/\l[j-1]?=some y/\y<=x):X8 l (i+1):=by
 intro p q x y b I f z;by_cases e:q=j
 .subst e;rcases F with F|⟨K,G,E,w,B⟩
  .omega
  .rw[E]at z;cases z;by_cases e':p=q-1
   .subst e';rw[w]at f;cases f;exact B
   .have:=h.1 p (q-1) x G O1 O1 O1 O1 f w;omega
 .by_cases e':p=j
  .subst e';exact h.2 q x y b O1 f z
  .exact h.1 p q x y b O1 e' e f z
def Hj.step(h:Hj l i j)(N:j<=i)(L:0<j)(H:l[j]?=some M)(I:l[j-1]?=some y)(K:M<y):Hj ((l.set j y).set (j-1) M) i (j-1):=by
 have w:j<l.length:=(List.getElem?_eq_some_iff.1 H).1
 have get:∀k,((l.set j y).set (j-1) M)[k]?=if k=j-1 then some M else if k=j then some y else l[k]?:=by
  intro k;rw[getElem?_set,getElem?_set];by_cases e:j-1=k
  .subst e;rw[if_pos rfl,if_pos S3,if_pos rfl]
  .have e2:¬k=j-1:=λ h=>e h.symm;rw[if_neg e,if_neg e2];by_cases e':j=k
   .subst e';rw[if_pos rfl,if_pos w,if_pos rfl]
   .have e3:¬k=j:=λ h=>e' h.symm;rw[if_neg e',if_neg e3]
 refine⟨λ p q u v B E z F f b=>?_,λ q u v E G f b=>?_⟩
 .rw[get,if_neg z]at f;rw[get,if_neg F]at b;by_cases e:p=j
  .subst e;rw[if_pos rfl]at f;cases f;rw[if_neg O1]at b;exact h.1 (p-1) q y v O1 E O1 O1 I b
  .rw[if_neg e]at f;by_cases e':q=j
   .subst e';rw[if_pos rfl]at b;cases b;exact h.1 p (q-1) u y O1 O1 O1 O1 f I
   .rw[if_neg e']at b;exact h.1 p q u v B E e e' f b
 .rw[get,if_pos rfl]at f;cases f;rw[get,if_neg O1]at b;by_cases e:q=j
  .subst e;rw[if_pos rfl]at b;cases b;omega
  .rw[if_neg e]at b;exact h.2 q M v O1 G H b
variable{n:Nat}{Z:UInt8->Prop}
section
attribute [local irreducible] Qb Zp Wv
def MB(n:Int):Qb S 192 #[.int .i64 n] (λ v U'=>v=.bool false/\U'=U) U:=by
 refine Qb.pure' (Qb.of (args:=[_]) Fe Qf S1 ?_)
 repeat apply R1
 conv=>whnf
 exact⟨S1,(Qa.le.refl _).lg⟩
def zk(a b:Int):Qb S 169 #[.int .i64 a,.int .i64 b] (λ v U'=>v=.bool (decide (a<b))/\U'=U) U:=by
 refine Qb.pure' (Qb.of (args:=[_,_]) Fb Qf S1 ?_);refine⟨Fe.any,(MB a).mono ?_⟩;rintro _ U'⟨rfl,rfl⟩-
 repeat apply R1
 conv=>whnf
 exact(Qa.le.refl _).lg
def kq(h:n<s.size)(f:∀c,Z c):∃(j:Nat)(b:UInt8),((n:Int)=j/\s[j]?=some b)/\Z b:=
 ⟨n,_,⟨rfl,getElem?_pos s n h⟩,f _⟩
def zf(n:Nat)(w:n<256):Qb S 173 #[.int .u64 n] (λ v U'=>(∃m,v=.int .i64 m)/\U'=U) U:=by
 refine Qb.pure' (Qb.of (args:=[_]) Fc Qf S1 ?_)
 repeat apply R1
 conv=>whnf
 apply Qg<;>intro b
 .simp at b;omega
 repeat apply R1
 conv=>whnf
 apply Qg<;>intro b
 .simp at b;omega
 repeat apply R1
 conv=>whnf
 apply Qg<;>intro b
 .simp at b;omega
 conv=>whnf
 have z:IntKind.wrap .u8 (n:Int)=n:=by
  have h:(2:Int)^8=256:=D1
  simp only[IntKind.wrap,IntKind.bits,IntKind.signed,Bool.false_and,h];simp;omega
 rw[z];refine kq (by exact w) λ c=>?_;have b:=c.toNat_lt;have f:IntKind.wrap .i64 (c.toNat:Int)=c.toNat:=Ga I1
 conv=>whnf
 rw[f];refine⟨I1,?_⟩
 conv=>whnf
 exact⟨⟨_,rfl⟩,(Qa.le.refl _).lg⟩
end
variable{e:TypeId}
def KT(f:U.M=.obj b (.cells c e (0,0))::M₀)(h:c[i]?=some v):U.sees ((Addr.mk b 0 none).add (i*1)) v:=by
 rw[Nat.mul_one,Qo];exact⟨rfl,.inl ⟨c,e,(0,0),.inr (by rw[f];exact mem_cons_self ..),by simpa using h⟩⟩
def X8.le(h:X8 l i)(f:j<=i):X8 l j:=λ p q x y b w=>h p q x y b O1
def HE(c:Array Value)(l:List Int):Prop:=∀(k:Nat)(x:Int),l[k]?=some x->c[k]?=some (.int .i64 x)
def HE.set{c:Array Value}{l:List Int}(h:HE c l)(f:l.length<=c.size)(i:Nat)(x:Int):HE (c.setIfInBounds i (.int .i64 x)) (l.set i x):=by
 intro k y b;rw[getElem?_set]at b;by_cases e:i=k
 .subst e;rw[if_pos rfl]at b;split at b
  .cases b;rw[Array.getElem?_setIfInBounds_self_of_lt O1]
  .cases b
 .rw[if_neg e]at b;rw[Array.getElem?_setIfInBounds_ne e];exact h k y b
def xY(z:0<j)(h:l[j]?=some M)(w:l[j-1]?=some y):((l.set j y).set (j-1) M).Perm l:=by
 obtain⟨b,rfl⟩:=List.getElem?_eq_some_iff.1 h;obtain⟨f,rfl⟩:=List.getElem?_eq_some_iff.1 w;exact set_set_perm b f
section
attribute [local irreducible] Qb Zp Wv
def qQ(b cap:Nat)(l:List Int)(H:Array Value)(M₀:List Qw)(ab:U.M=.obj b (.cells H 3 (0,0))::M₀)(aj:l.length<=cap)(ag:H.size=cap)(ad:HE H l)(hn:l.length<2^40) :
  Qb S 163 #[.slice (some ⟨b,0,none⟩) l.length cap,.int .i64 0,.int .i64 l.length] (λ _ U'=>(∀x o,U.I x=some o->U'.I x=some o)/\U'.tok=U.tok/\∃l' c',l'.Perm l/\X8 l' l.length/\U'.M=.obj b (.cells c' 3 (0,0))::M₀/\c'.size=cap/\HE c' l') U:=by
 refine Qb.of (args:=[_,_,_]) VC Qf S1 ?_
 repeat apply R1
 refine⟨I1,?_⟩
 refine⟨Nat×List Int×Array Value,λ y=>[(0,.slice (some ⟨b,0,none⟩) l.length cap),(1,.int .i64 0),(2,.int .i64 l.length),(6,.int .i64 y.1)],
  λ y U'=>(∀x o,U.I x=some o->U'.I x=some o)/\U'.tok=U.tok/\U'.M=.obj b (.cells y.2.2 3 (0,0))::M₀/\y.2.2.size=cap/\HE y.2.2 y.2.1/\y.2.1.Perm l/\X8 y.2.1 y.1/\1<=y.1/\y.1<2^41,
  λ y=>l.length-y.1,(1,l,H),T1,⟨λ _ _ h=>h,rfl,ab,ag,ad,.refl _,λ p q _ _ h1 h2=>O1,by simp only;omega,by simp only;omega⟩,?_⟩
 rintro⟨i,cur,c⟩f U1⟨W,X,K,F,w,E,V,G,ai⟩;simp only at K F w E V G ai
 repeat apply R1
 conv=>whnf
 apply Qg<;>intro P
 .have hlt:i<l.length:=by simpa using P
  have ae:Ja (i+1):=I1
  refine⟨Nat×List Int×Array Value,λ y=>[(0,.slice (some ⟨b,0,none⟩) l.length cap),(1,.int .i64 0),(2,.int .i64 l.length),(6,.int .i64 i),(7,.int .i64 y.1)],
   λ y U'=>(∀x o,U.I x=some o->U'.I x=some o)/\U'.tok=U.tok/\U'.M=.obj b (.cells y.2.2 3 (0,0))::M₀/\y.2.2.size=cap/\HE y.2.2 y.2.1/\y.2.1.Perm l/\Hj y.2.1 i y.1/\y.1<=i,
   λ y=>y.1,(i,cur,c),T1,⟨W,X,K,F,w,E,.start V,by simp only;omega⟩,?_⟩
  rintro⟨j,cur,c⟩f U2⟨W,X,K,F,w,E,N,hj⟩;simp only at K F w E N hj;have ak:=E.length_eq
  repeat apply R1
  conv=>whnf
  apply Jt<;>intro P
  .have h0:0<j:=by simp at P;omega
   have Y:cur[j]?=some (cur[j]' O1):=S1
   generalize cur[j]' O1=x at Y;have Z:cur[j-1]?=some (cur[j-1]' O1):=S1
   generalize cur[j-1]' O1=y at Z;have G:Ja ((j:Int)-1):=I1
   have L:(j:Int)-1=((j-1:Nat):Int):=O1
   repeat apply R1
   refine⟨_,j,⟨rfl,rfl,O1⟩,_,KT K (w j x Y),?_⟩
   repeat apply R1
   refine⟨G,_,j-1,⟨rfl,L,O1⟩,_,KT K (w (j-1) y Z),?_⟩
   conv=>whnf
   intro U3 B _;have z:=B.own.trans K;refine⟨Fb.any,(zk x y).go λ _=>?_⟩
   repeat apply R1
   conv=>whnf
   apply Qg<;>intro P
   .have hxy:x<y:=of_decide_eq_true P;refine⟨λ U'=>(∀x o,U.I x=some o->U'.I x=some o)/\U'.tok=U.tok/\U'.M=.obj b (.cells (c.setIfInBounds j (.int .i64 y)) 3 (0,0))::M₀,λ U U'⟨a,b,c⟩T=>⟨λ x o h=>T.imm x o (a x o h),T.tok.trans b,T.own.trans c⟩,G,G,_,j-1,⟨rfl,L,O1⟩,_,KT z (w (j-1) y Z),_,j,⟨rfl,rfl,O1⟩,_,KT z (w j x Y),_,j,⟨rfl,rfl,O1⟩,?_⟩
    conv=>whnf
    intro U4 Q _;refine⟨⟨rfl,?_⟩,λ U5 hG=>?_⟩
    .show QZ ((Addr.mk b 0 none).add (j*1)) [.int .i64 y] 0 _ _;rw[Nat.mul_one];exact GP [] (Q.own.trans z) O1 rfl ⟨rfl,_,.refl _,λ x o h=>Q.imm x o (B.imm x o (W x o h)),Q.tok.trans (B.tok.trans X),rfl⟩
    obtain⟨aa,ah,ac⟩:=hG;refine⟨_,j-1,⟨rfl,L,O1⟩,rfl,?_⟩;show QZ ((Addr.mk b 0 none).add ((j-1)*1)) [.int .i64 x] 0 _ _;rw[Nat.mul_one];refine GP [] ac S3 rfl ?_;refine⟨G,?_⟩
    conv=>whnf
    exact⟨rfl,(j-1,(cur.set j y).set (j-1) x,(c.setIfInBounds j (.int .i64 y)).setIfInBounds (j-1) (.int .i64 x)),⟨rfl,rfl,rfl,rfl,by rw[<- L];rfl,trivial⟩,⟨aa,ah,rfl,by simpa using F,(w.set O1 j y).set S3 (j-1) x,(xY h0 Y Z).trans E,N.step hj h0 Y Z hxy,by simp only;omega⟩,by show j-1<j;omega⟩
   .have hxy:¬x<y:=of_decide_eq_false P;refine⟨ae,?_⟩
    conv=>whnf
    exact⟨rfl,(i+1,cur,c),T1,⟨λ x o h=>B.imm x o (W x o h),B.tok.trans X,z,F,w,E,N.done hj (.inr ⟨x,y,Y,Z,O1⟩),by simp only;omega,by simp only;omega⟩,L1⟩
  .have h0:j=0:=by simp at P;omega
   conv=>whnf
   intro U3 B _;have z:=B.own.trans K
   repeat apply R1
   refine⟨ae,?_⟩
   conv=>whnf
   exact⟨rfl,(i+1,cur,c),T1,⟨λ x o h=>B.imm x o (W x o h),B.tok.trans X,z,F,w,E,N.done hj (.inl h0),by simp only;omega,by simp only;omega⟩,L1⟩
 .have hge:l.length<=i:=by simpa using P
  repeat apply R1
  conv=>whnf
  exact⟨W,X,cur,c,E,V.le hge,K,F,w⟩
def qk:Qb S 163 #[.nl,.int .i64 0,.int .i64 (0:Nat)] (λ _ U'=>U'=U) U:=by
 refine(Qb.pure' (Q:=λ _=>True) (Qb.of (args:=[_,_,_]) VC Qf S1 ?_)).mono λ _ _ h=>h.2
 repeat apply R1
 refine⟨I1,?_⟩;refine⟨Unit,λ _=>[(2,.int .i64 (0:Nat)),(6,.int .i64 1)],λ _ U'=>U'=U,λ _=>0,(),T1,rfl,?_⟩;rintro _ f _ rfl
 repeat apply R1
 conv=>whnf
 exact⟨trivial,(Qa.le.refl _).lg⟩
def CO(n:Nat)(b:n<256):Qb S 147 #[.int .u64 n] (λ v U'=>(∃m,v=.int .i64 m)/\U'=U) U:=by
 refine Qb.pure' (Qb.of (args:=[_]) FA Qf S1 ?_);refine⟨Fc.any,(zf n b).mono ?_⟩;rintro _ U'⟨⟨m,rfl⟩,rfl⟩-
 repeat apply R1
 conv=>whnf
 exact⟨⟨_,rfl⟩,(Qa.le.refl _).lg⟩
def MP(v:Value)(l:List Int)(M₀:List Qw)(m:Int)(N:Acc 3 1 v (l.map λ n=>.int .i64 n) U.M M₀)(P:l.length<=12) :
  Qb S 146 #[v,.int .i64 0,.int .i64 l.length,.int .i64 m] (λ _ U'=>(∀x o,U.I x=some o->U'.I x=some o)/\U'.tok=U.tok/\∃l',l'.Perm l/\X8 l' l.length/\Acc 3 1 v (l'.map λ n=>.int .i64 n) U'.M M₀) U:=by
 obtain⟨sa,sc,rfl,-⟩:=Sk N;refine Qb.of (args:=[_,_,_,_]) Fz Qf S1 ?_
 repeat apply R1
 refine⟨Unit,λ _=>[(0,.slice sa l.length sc),(1,.int .i64 0),(2,.int .i64 l.length),(3,.int .i64 m)],λ _ U'=>U'=U,λ _=>0,(),T1,rfl,?_⟩;rintro _ f U' w;obtain rfl:=w.symm
 repeat apply R1
 refine⟨I1,?_⟩
 repeat apply R1
 conv=>whnf
 apply Qg<;>intro X
 .conv=>whnf
  rcases N with⟨E,B,F⟩|⟨b,c,len,cap,E,B,L,h4,F,V⟩
  .rw[map_eq_nil_iff]at B;subst B;cases E;refine⟨VC.any,qk.mono ?_⟩;rintro _ U' w -;obtain rfl:=w.symm
   repeat apply R1
   conv=>whnf
   exact⟨λ _ _ h=>h,rfl,[],.refl _,λ p q _ _ E B=>by simp at B,.inl ⟨rfl,rfl,F⟩⟩
  .cases E;refine⟨VC.any,(qQ b sc l c M₀ F L O1 (λ k x z=>V k _ (by simp[z])) O1).mono ?_⟩;rintro v U'⟨W,ht,l',T,Q,Y,G,Z,H⟩-
   repeat apply R1
   refine⟨W,ht,l',Q,Y,.inr ⟨b,T,l.length,sc,rfl,by simp[Q.length_eq],L,O1,G,λ k x z=>?_⟩⟩;rw[getElem?_map]at z;cases K:l'[k]? with
   |none=>rw[K]at z;cases z
   |some y=>rw[K]at z;cases z;exact H k y K
 .simp at X;omega
def zs(v:Value)(l:List Int)(M₀:List Qw)(h:Acc 3 1 v (l.map λ n=>.int .i64 n) U.M M₀)(b:l.length<=12) :
  Qb S 110 #[v] (λ _ U'=>(∀x o,U.I x=some o->U'.I x=some o)/\U'.tok=U.tok/\∃l',l'.Perm l/\X8 l' l.length/\Acc 3 1 v (l'.map λ n=>.int .i64 n) U'.M M₀) U:=by
 obtain⟨sa,sc,rfl,-⟩:=Sk h;refine Qb.of (args:=[_]) Fq Qf S1 ?_
 have B:IntKind.wrap .u64 (l.length:Int)=l.length:=by
  have w:(2:Int)^64=18446744073709551616:=D1
  simp only[IntKind.wrap,IntKind.bits,IntKind.signed,Bool.false_and,w];simp;omega
 conv=>whnf
 rw[B];refine⟨FA.any,(CO l.length O1).mono ?_⟩;rintro _ U'⟨⟨m,rfl⟩,f⟩-;obtain rfl:=f.symm;refine⟨Fz.any,(MP _ l M₀ m h b).mono ?_⟩;rintro v U' z -;cases v <;> (conv=>whnf) <;> exact z
end
variable{L:List ByteArray}
def Lg(a b:ByteArray):(a==b)=decide (a=b):=by
 rw[Bool.eq_iff_iff]
 cases a with|mk x=>cases b with|mk y=>
 show(ByteArray.beq ⟨x⟩ ⟨y⟩)=true↔_;simp[ByteArray.beq]
def xZ(b:l[i]?=some y):(if i+1=0 then none else l[i+1-1]?)=some y:=by simpa using b
def ZO:Nat->List ByteArray->List (ByteArray×Value)
 |_,[]=>[]
 |j,s::l=>(s,.int .i64 j)::ZO (j+1) l
def Sn(s:ByteArray):∀(l:List ByteArray)(j i:Nat),if JB l s then ∃n:Int,(QK s (ZO j l) i).map (·.2)=some (.int .i64 n)else(QK s (ZO j l) i).map (·.2)=none
 |[],_,_=>rfl
 |a::l,j,i=>by
  simp only[ZO,QK,JB,any_cons];by_cases e:s=a
  .simp[e]
  .rw[if_neg e];have h:=Sn s l (j+1) (i+1);simp only[JB]at h;rw[show decide (a=s)=false from decide_eq_false (Ne.symm e),Bool.false_or];exact h
def N7(h:JB L s=true):∃n:Int,lk s (ZO 0 L)=some (.int .i64 n):=by
 have:=Sn s L 0 0
 rwa [if_pos h]at this
def MW(h:JB L s=false):lk s (ZO 0 L)=none:=by
 have:=Sn s L 0 0
 rwa [h]at this
def IM(s:ByteArray):∀(l:List ByteArray)(j:Nat),JB l s=false->Q_ s (.int .i64 ((j+l.length:Nat):Int)) (ZO j l)=ZO j (l++[s])
 |[],j,_=>rfl
 |a::l,j,h=>by
  simp only[JB,any_cons,Bool.or_eq_false_iff,decide_eq_false_iff_not]at h;simp only[ZO,cons_append,Q_];rw[if_neg (λ e=>h.1 e.symm),<- IM s l (j+1) h.2];congr 4;simp;omega
section
attribute [local irreducible] Qb Zp Wv
def DI(a:Option Addr)(len cap:Nat)(l:List Int)(G:Z3 U a len l)(L:len<2^60)(n:Nat)(hn:n<2^60) :
  Qb S 222 #[.slice a len cap,.int .i64 n] (λ v U'=>v=.int .i64 (QU n none l)/\U'=U) U:=by
 refine Qb.of (args:=[_,_]) Oe Qf S1 ?_;have X:=G.1
 repeat apply R1
 refine⟨Nat,λ i=>[(0,.slice a len cap),(1,.int .i64 n),(7,.slice a len cap),(8,.int .i64 len),(9,.int .i64 i)],
  λ i U'=>U'=U/\i<=len/\QU n none l=QU n (if i=0 then none else l[i-1]?) (l.drop i),λ i=>len-i,0,T1,⟨rfl,O1,rfl⟩,?_⟩
 rintro i f _⟨rfl,hi,b⟩;have z:Ja ((i:Int)+1):=I1
 have B:Ja ((n:Int)-1):=I1
 repeat apply R1
 conv=>whnf
 apply Qg<;>intro w
 .have hlt:i<len:=by simpa using w
  obtain⟨I,x,P,rfl,Z,Y⟩:=G.at hlt;rw[Ha P,Pf]at b;refine⟨I,i,⟨rfl,rfl,hlt⟩,_,Y,B,G3.any,(Wo _ _ _ _).mono ?_⟩;rintro v U'⟨rfl,rfl⟩-;cases K:QR x 0 ((n:Int)-1)with
  |false=>
   rw[K]at b
   repeat apply R1
   conv=>whnf
   exact⟨by rw[b];rfl,rfl⟩
  |true=>
   rw[if_pos K]at b;have next:QU n none l=QU n (some x) (l.drop (i+1))->QU n none l=QU n (if i+1=0 then none else l[i+1-1]?) (l.drop (i+1)):=λ h=>by rw[xZ P];exact h
   repeat apply R1
   conv=>whnf
   apply Jt<;>intro w
   .have h0:0<i:=by simpa using w
    obtain⟨y,Q⟩:∃y,l[i-1]?=some y:=⟨_,getElem?_eq_getElem O1⟩;rw[if_neg O1,Q]at b;have E:Ja ((i:Int)-1):=I1
    have V:((i:Int)-1)=((i-1:Nat):Int):=O1
    obtain⟨T,y',F,W,N,H⟩:=G.at (show i-1<len by omega);cases W;rw[Q]at F;cases F;simp only at b;refine⟨E,I,i-1,⟨rfl,V,O1⟩,_,H,?_⟩
    repeat apply R1
    conv=>whnf
    apply Qg<;>intro w
    .have h1:x<=y:=by simpa using w
     repeat apply R1
     conv=>whnf
     rw[if_pos h1]at b;exact⟨by rw[b],rfl⟩
    .have h1:¬x<=y:=by simpa using w
     rw[if_neg h1]at b;refine⟨z,?_⟩
     conv=>whnf
     exact⟨rfl,i+1,T1,⟨rfl,O1,next b⟩,L1⟩
   .have h0:i=0:=by simp at w;omega
    rw[if_pos h0]at b;simp only at b
    repeat apply R1
    refine⟨z,?_⟩
    conv=>whnf
    exact⟨rfl,i+1,T1,⟨rfl,O1,next b⟩,L1⟩
 .have hge:len<=i:=by simpa using w
  rw[drop_eq_nil_of_le O1]at b
  repeat apply R1
  conv=>whnf
  exact⟨by rw[b];rfl,rfl⟩
def UK:WG T prog 9 Value.string:=by
 refine .simple (d:=.string) K1 rfl (λ k k'=>?_) (λ k=>?_)
 .show some (k==k')=_;rw[Lg]
 .simp[Instr.sameBits,Lg]
def I5:prog.underlying 82=some (.map 9 3):=K1
def HA:X5 prog 3=some (.int .i64 0):=K1
def D_(mb:Nat)(seen:List ByteArray)(s:ByteArray)(z:s.size<2^60)(M₀:List Qw)(b:U.M=.obj mb (Qt Value.string (ZO 0 seen))::M₀) :
  Qb S 220 #[.map (some mb),.string s,.int .i64 seen.length] (λ v U'=>v=.int .i64 (if Zh s then(if JB seen s then 5 else 0)else 4)/\U'={ U with M:=.obj mb (Qt Value.string (ZO 0 (if Zh s&&!JB seen s then seen++[s]else seen)))::M₀ }) U:=by
 refine Qb.of (args:=[_,_,_]) Od Qf S1 ?_;refine⟨Fi.any,(qj s z).mono ?_⟩;rintro v U'⟨rfl,f⟩-;obtain rfl:=f.symm;cases E:Zh s with
 |false=>
  repeat apply R1
  conv=>whnf
  show _={ U with M:=.obj mb (Qt Value.string (ZO 0 seen))::M₀ };rw[<- b]
 |true=>
  conv=>whnf
  refine YJ (k:=s) (l:=ZO 0 seen) UK I5 HA rfl rfl (.inr (by rw[b];exact mem_cons_self ..)) ?_;cases h:JB seen s with
  |true=>
   obtain⟨w,B⟩:=N7 h;rw[B]
   repeat apply R1
   conv=>whnf
   show _={ U with M:=.obj mb (Qt Value.string (ZO 0 seen))::M₀ };rw[<- b]
  |false=>
   rw[MW h]
   conv=>whnf
   refine Yv (v:=.int .i64 seen.length) (k:=s) (l:=ZO 0 seen) (M':=.obj mb (Qt Value.string (ZO 0 (seen++[s])))::M₀) UK I5 rfl rfl rfl (by rw[b,<- IM s seen 0 h,Nat.zero_add];exact .here) ?_
   repeat apply R1
   conv=>whnf
   rfl
def qm(h:BH)(b:Bk)(T:Zq U h b):Qb S 218 #[h.v] (λ v U'=>v=.int .i64 (b.rsF Zh)/\U'=U) U:=by
 refine Qb.pure' (Qb.of (args:=[_]) Ff Qf S1 ?_);have N:=T.rs.1;have ab:=T.rl
 repeat apply R1
 conv=>whnf
 intro B U1 G Q;have Q:Zj U1 B #[.slice h.ra h.rl h.rc,.slice h.ca h.cl h.cc]:=Q;refine⟨_,Q.sees3 (o:=0) rfl,?_⟩
 repeat apply R1
 conv=>whnf
 apply Qg<;>intro L
 .have z:b.rs.length > 6:=by rw[N];simp at L;omega
  repeat apply R1
  conv=>whnf
  exact⟨by unfold Bk.rsF;rw[if_pos z],G.lg⟩
 have z:¬b.rs.length > 6:=by rw[N];simp at L;omega
 have H:b.rsF Zh=Gx Zh [] b.rs:=by unfold Bk.rsF;rw[if_neg z]
 rw[H]
 conv=>whnf
 refine GT Value.string λ mb ac=>?_;refine⟨_,Qa.sees.lg (Q.sees3 (o:=0) rfl) (Z2 mb _),Nat×List ByteArray,λ y=>[(1,.pb B),(3,.map (some mb)),(15,.slice h.ra h.rl h.rc),(16,.int .i64 h.rl),(17,.int .i64 y.1)],
  λ y U'=>U.lg U'/\U'.M=.obj mb (Qt Value.string (ZO 0 y.2))::U.M/\y.1<=h.rl/\y.2.length=y.1/\Gx Zh [] b.rs=Gx Zh y.2 (b.rs.drop y.1),
  λ y=>h.rl-y.1,(0,[]),T1,⟨G.lg.trans (Z2 _ _),?_,S1,rfl,S1⟩,?_⟩
 .show _::_=_;rw[G.own];rfl
 rintro⟨i,s⟩f U2⟨F,hM,hi,P,w⟩;simp only at hM hi P w;have X:Ja ((i:Int)+1):=I1
 repeat apply R1
 conv=>whnf
 apply Qg<;>intro L
 .have hlt:i<h.rl:=by simpa using L
  obtain⟨ad,x,vs,hx,V,ae,rfl,-,Z⟩:=(T.rs.lg F λ _ _ h=>h).at hlt;rw[Ha hx,Gx]at w;have aa:=T.rn x (mem_of_getElem? hx);refine⟨ad,i,⟨V,rfl,hlt⟩,_,Z 0 _ rfl,?_⟩;subst P;refine⟨Od.any,(D_ mb s x aa U.M hM).mono ?_⟩;rintro _ U'⟨rfl,K⟩-;have E:U.lg U':=K▸⟨F.imm,⟨[_],rfl⟩,F.tok⟩;have I:U'.M=.obj mb (Qt Value.string (ZO 0 (if Zh x&&!JB s x then s++[x]else s)))::U.M:=by rw[K]
  cases Y:Zh x with
  |false=>
   rw[Y]at w
   repeat apply R1
   conv=>whnf
   exact⟨by rw[w];rfl,E⟩
  |true=>
   rw[if_pos Y]at w;cases W:JB s x with
   |true=>
    rw[if_pos W]at w
    repeat apply R1
    conv=>whnf
    exact⟨by rw[w];rfl,E⟩
   |false=>
    rw[W]at w;rw[Y,W]at I
    repeat apply R1
    refine⟨X,rfl,(s.length+1,s++[x]),T1,⟨E,I,by show s.length+1<=h.rl;omega,S1,w⟩,L1⟩
 .have hge:h.rl<=i:=by simpa using L
  rw[drop_eq_nil_of_le O1]at w
  repeat apply R1
  conv=>whnf
  exact⟨by rw[w];rfl,F⟩
end
variable{a m:Nat}{mu:List Nat}{H:Bk}{ζ:Cs}{A:List (List Nat)}
def ZW(h:n<2^63):IntKind.wrap .i64 (n:Int)=n:=by
 have f:(2:Int)^64=18446744073709551616:=D1
 have w:(2:Int)^63=9223372036854775808:=D1
 have b:(2:Nat)^63=9223372036854775808:=D1
 rw[b]at h;simp only[IntKind.wrap,IntKind.bits,IntKind.signed];simp;omega
def Gb(n:Nat):BitVec.ofInt 64 (n:Int)=BitVec.ofNat 64 n:=BitVec.ofInt_natCast _ _
def LJ(h:n<60):IntKind.wrap .i64 ((1:Int)*2^(min ((n:Int).toNat) 64))=((1<<<n:Nat):Int):=by
 have b:min ((n:Int).toNat) 64=n:=by rw[Int.toNat_natCast];omega
 have f:(1<<<n:Nat)<2^63:=by rw[Nat.one_shiftLeft];exact Nat.pow_lt_pow_right O1 O1
 have w:(1:Int)*(2:Int)^n=((1<<<n:Nat):Int):=by rw[Nat.one_shiftLeft];simp
 rw[b,w,ZW f]
def LN(z:a<2^60)(B:b<2^60):IntKind.wrap .i64 ((BitVec.ofInt 64 (a:Int)||| BitVec.ofInt 64 (b:Int)).toNat:Int)=((a||| b:Nat):Int):=by
 have h:(a||| b)<2^60:=Nat.or_lt_two_pow z B;have f:(2:Nat)^60<2^63:=Nat.pow_lt_pow_right O1 O1;have w:(2:Nat)^63<2^64:=Nat.pow_lt_pow_right O1 O1;rw[Gb,Gb,BitVec.toNat_or,BitVec.toNat_ofNat,BitVec.toNat_ofNat,Nat.mod_eq_of_lt O1,Nat.mod_eq_of_lt O1,ZW O1]
def SO(z:a<2^60)(B:b<2^60):IntKind.wrap .i64 ((BitVec.ofInt 64 (a:Int)&&&BitVec.ofInt 64 (b:Int)).toNat:Int)=((a&&&b:Nat):Int):=by
 have h:(a&&&b)<2^60:=Nat.lt_of_le_of_lt Nat.and_le_left z;have f:(2:Nat)^60<2^63:=Nat.pow_lt_pow_right O1 O1;have w:(2:Nat)^63<2^64:=Nat.pow_lt_pow_right O1 O1;rw[Gb,Gb,BitVec.toNat_and,BitVec.toNat_ofNat,BitVec.toNat_ofNat,Nat.mod_eq_of_lt O1,Nat.mod_eq_of_lt O1,ZW O1]
def Sd(I:a<2^60)(F:b<2^60):(IntKind.wrap .i64 ((BitVec.ofInt 64 (a:Int)&&&~~~BitVec.ofInt 64 (b:Int)).toNat:Int)=0↔∀k,a.testBit k=true->b.testBit k=true):=by
 have G:(2:Nat)^60<2^63:=Nat.pow_lt_pow_right O1 O1;have H:(2:Nat)^63<2^64:=Nat.pow_lt_pow_right O1 O1
 have B:(BitVec.ofNat 64 a&&&~~~BitVec.ofNat 64 b).toNat<2^63:=by
  rw[BitVec.toNat_and];refine Nat.lt_of_le_of_lt Nat.and_le_left ?_;rw[BitVec.toNat_ofNat,Nat.mod_eq_of_lt O1];omega
 rw[Gb,Gb,ZW B];constructor
 .intro h k w
  have z:BitVec.ofNat 64 a&&&~~~BitVec.ofNat 64 b=0#64:=by
   apply BitVec.eq_of_toNat_eq;simpa using h
  have f:k<64:=by
   apply Classical.byContradiction;intro K;have:a<2^k:=Nat.lt_of_lt_of_le I (Nat.pow_le_pow_right O1 O1);rw[Nat.testBit_lt_two_pow this]at w;cases w
  have E:(BitVec.ofNat 64 a&&&~~~BitVec.ofNat 64 b).getLsbD k=false:=by rw[z];simp
  rw[BitVec.getLsbD_and,BitVec.getLsbD_not,BitVec.getLsbD_ofNat,BitVec.getLsbD_ofNat,w]at E;simpa[f]using E
 .intro h
  have z:BitVec.ofNat 64 a&&&~~~BitVec.ofNat 64 b=0#64:=by
   apply BitVec.eq_of_getLsbD_eq;intro k w;rw[BitVec.getLsbD_and,BitVec.getLsbD_not,BitVec.getLsbD_ofNat,BitVec.getLsbD_ofNat];cases F:a.testBit k with
   |false=>simp
   |true=>simp[h k F]
  rw[z];rfl
def SS(h:n<60):Int.fdiv (a:Int) (2^(min ((n:Int).toNat) 64))=((a>>>n:Nat):Int):=by
 have b:min ((n:Int).toNat) 64=n:=by rw[Int.toNat_natCast];omega
 rw[b,Nat.shiftRight_eq_div_pow];have f:((2:Int)^n)=((2^n:Nat):Int):=S1
 rw[f,Int.fdiv_eq_ediv_of_nonneg _ (Int.natCast_nonneg _)];simp
def HI(w:a<2^60)(h:n<60):(IntKind.wrap .i64 ((BitVec.ofInt 64 (Int.fdiv (a:Int) (2^(min ((n:Int).toNat) 64)))&&&BitVec.ofInt 64 1).toNat:Int)==1)=a.testBit n:=by
 have f:a>>>n<2^60:=Nat.lt_of_le_of_lt (Nat.shiftRight_le a n) w;have b:=SO f (show 1<2^60 by decide);rw[SS h];rw[show((1:Nat):Int)=1 from rfl]at b;rw[b,Nat.and_one_is_mod];rw[Bool.eq_iff_iff,beq_iff_eq,Nat.testBit];simp only[Nat.one_and_eq_mod_two,bne_iff_ne];omega
def Y7(h:n<60):IntKind.wrap .i64 ((1:Int)*2^(min ((n:Int).toNat) (IntKind.bits .i64)))=((1<<<n:Nat):Int):=LJ h
def SR(f:a<2^60)(h:b<2^60):IntKind.wrap .i64 ((BitVec.ofInt (IntKind.bits .i64) (a:Int)||| BitVec.ofInt (IntKind.bits .i64) (b:Int)).toNat:Int)=((a||| b:Nat):Int):=LN f h
def H6(h:∀x∈mu,x<m):Z5 mu<2^m:=by
 apply Nat.lt_pow_two_of_testBit;intro i f;rw[Wt,contains_eq_any_beq,any_eq_false];intro x b;have:=h x b;simp;omega
def Bm(l:List Nat)(x:Nat):Z5 (l++[x])=Z5 l||| (1<<<x):=by simp[Z5]
def GY{x m:Nat}(h:x<m):(1<<<x:Nat)<2^m:=by rw[Nat.one_shiftLeft];exact Nat.pow_lt_pow_right O1 h
structure Bk.Low(b:Bk):Prop where
 nc:b.cs.length<=5
 af:∀c∈b.cs,∀n∈c.af,0<=n/\n<b.nc
def Bk.Ok.toLow(h:H.Ok):H.Low:=⟨h.nc,h.af⟩
def Bk.Low.lt(h:H.Low)(f:ζ∈H.cs):∀n∈ζ.af,0<=n/\n<60:=λ n w=>by
 have:=h.af ζ f n w;have:=h.nc;unfold Bk.nc at *;omega
def Bk.A_len(b:Bk):b.A.length=b.cs.length:=by simp[Bk.A]
def Bk.aft1_at(h:H.cs[i]?=some ζ):Jf H.A i=ζ.af.map Int.toNat:=by
 simp[Jf,Bk.A,getD_eq_getElem?_getD,h]
def toNat_lt(h:∀n∈l,0<=n/\n<m):∀x∈l.map Int.toNat,x<m:=by
 intro x f;obtain⟨n,b,rfl⟩:=mem_map.1 f;have:=h n b;omega
def CM(f:α->Nat->α)(a:α)(i:Nat):(range (i+1)).foldl f a=f ((range i).foldl f a) i:=by
 rw[range_succ,foldl_append];rfl
def pK(b:n<2^m)(f:i<m):WD A n i<2^m:=by
 unfold WD;split
 .exact Nat.or_lt_two_pow b (GY f)
 .exact b
def Si{A:List (List Nat)}{m:Nat}:∀(l:List Nat)(d:Nat),(∀i∈l,i<m)->d<2^m->l.foldl (WD A) d<2^m
 |[],_,_,h=>h
 |x::l,d,b,h=>Si l _ (λ i f=>b i (mem_cons_of_mem _ f)) (pK h (b x (mem_cons_self ..)))
def Bk.dn(b:Bk)(r j:Nat):Nat:=(range j).foldl (WD b.A) (JJ b.A r)
def Bk.dn_succ(b:Bk)(r j:Nat):b.dn r (j+1)=WD b.A (b.dn r j) j:=CM _ _ _
def Bk.dn_end(b:Bk)(r:Nat):b.dn r b.cs.length=JJ b.A (r+1):=by rw[<- Bk.A_len];rfl
def pL(k:Nat):JJ A k<2^A.length:=by
 induction k with
 |zero=>exact Nat.two_pow_pos _
 |succ k f=>exact Si _ _ (λ i b=>mem_range.1 b) f
def Bk.dn_lt(r:Nat)(h:H.cs.length<=5)(w:j<=H.cs.length):H.dn r j<2^5:=
 Si _ _ (λ i f=>by have:=mem_range.1 f;omega) (Nat.lt_of_lt_of_le (pL r) (Nat.pow_le_pow_right O1 (by rw[H.A_len];omega)))
section
attribute [local irreducible] Qb Zp Wv
def Z8(a:Option Addr)(len cap:Nat)(l:List Int)(E:Z3 U a len l)(F:len<2^60)(h:∀n∈l,0<=n/\n<60) :
  Qb S 54 #[.slice a len cap] (λ v U'=>v=.int .i64 (Z5 (l.map Int.toNat):Nat)/\U'=U) U:=by
 refine Qb.of (args:=[_]) XL Qf S1 ?_;have K:=E.1
 repeat apply R1
 refine⟨Nat,λ i=>[(3,.int .i64 (Z5 ((l.take i).map Int.toNat):Nat)),(6,.slice a len cap),(7,.int .i64 len),(8,.int .i64 i)],
  λ i U'=>U'=U/\i<=len,λ i=>len-i,0,T1,⟨rfl,O1⟩,?_⟩
 rintro i f _⟨rfl,Q⟩;have w:Ja ((i:Int)+1):=I1
 repeat apply R1
 conv=>whnf
 apply Qg<;>intro z
 .have hlt:i<len:=by simpa using z
  obtain⟨H,x,G,rfl,P,N⟩:=E.at hlt;have b:=h x (mem_of_getElem? G);obtain⟨k,rfl⟩:=Int.eq_ofNat_of_zero_le b.1;have B:k<60:=O1
  have I:Z5 ((l.take i).map Int.toNat)<2^60:=H6 (toNat_lt λ n L=>h n (mem_of_mem_take L))
  have key:Value.int .i64 (IntKind.wrap .i64 ((BitVec.ofInt 64 ((Z5 ((l.take i).map Int.toNat):Nat):Int)||| BitVec.ofInt 64 (IntKind.wrap .i64 ((1:Int)*2^(min ((k:Int).toNat) 64)))).toNat:Int))=.int .i64 (Z5 ((l.take (i+1)).map Int.toNat):Nat):=by
   rw[LJ B,LN I (GY B),Wf G,map_append,map_singleton,Int.toNat_natCast,Bm]
  refine⟨H,i,⟨rfl,rfl,hlt⟩,_,N,b.1,?_⟩
  repeat apply R1
  refine⟨w,?_⟩
  conv=>whnf
  exact⟨rfl,i+1,⟨key,rfl,rfl,rfl,trivial⟩,⟨rfl,O1⟩,L1⟩
 .have hge:len<=i:=by simpa using z
  repeat apply R1
  conv=>whnf
  exact⟨by rw[take_of_length_le O1],rfl⟩
end
variable{h:BH}
def Sc(h:∀n∈l,0<=n/\n<60):(∀k,(Z5 (l.map Int.toNat)).testBit k=true->i.testBit k=true)↔((l.map Int.toNat).all λ k=>i.testBit k)=true:=by
 rw[all_eq_true];constructor
 .intro g k hk;exact g k (by rw[Wt];simpa using hk)
 .intro g k hk;rw[Wt]at hk;exact g k (by simpa using hk)
def Zq.case{b:Bk}(k:Zq U h b)(L:i<h.cl) :
  ∃f c ga gl gc w al ac,b.cs[i]?=some c/\h.ca=some f/\f.spot=none/\Jj U (f.add (i*4)) [.string c.nm,.int .i64 c.ag,.slice ga gl gc,.slice w al ac]/\Wl U ga gl c.gs/\gl<2^60/\Z3 U w al c.af/\al<2^60/\c∈b.cs:=by
 obtain⟨f,c,vs,F,z,E,⟨ga,gl,gc,w,al,ac,rfl,G,H,I,K⟩,-,B⟩:=k.cs.at L;exact⟨f,c,ga,gl,gc,w,al,ac,F,z,E,B,G,H,I,K,mem_of_getElem? F⟩
def Zq.right(k:Zq U h H)(F:i<h.rl) :
  ∃f s,H.rs[i]?=some s/\h.ra=some f/\f.spot=none/\U.sees ((f.add (i*1)).add 0) (.string s)/\s∈H.rs:=by
 obtain⟨f,s,vs,E,w,B,rfl,-,z⟩:=k.rs.at F;exact⟨f,s,E,w,B,z 0 _ rfl,mem_of_getElem? E⟩
section
attribute [local irreducible] Qb Zp Wv
def DH(h:BH)(b:Bk)(hb:Zq U h b)(Z:b.Low):Qb S 92 #[h.v] (λ v U'=>v=.int .i64 (if Wu b.A then 8 else 0)/\U'=U) U:=by
 refine Qb.pure' (Qb.of (args:=[_]) OI Qf S1 ?_);have W:=hb.cs.1;have hA:=b.A_len;have h5:=Z.nc
 repeat apply R1
 conv=>whnf
 intro B U1 L Q;have Q:Zj U1 B #[.slice h.ra h.rl h.rc,.slice h.ca h.cl h.cc]:=Q;refine⟨_,Q.sees3 (o:=1) rfl,Nat,λ r=>[(1,.pb B),(3,.int .i64 (JJ b.A r:Nat)),(9,.int .i64 h.cl),(10,.int .i64 r)],
  λ r U'=>U1.lg U'/\r<=h.cl,λ r=>h.cl-r,0,T1,⟨(Qa.le.refl _).lg,O1⟩,?_⟩
 rintro r f U2⟨F,hr⟩;have Y:Ja ((r:Int)+1):=I1
 repeat apply R1
 conv=>whnf
 apply Qg<;>intro E
 .have hrt:r<h.cl:=by simpa using E
  refine⟨_,(Q.lg F).sees3 (o:=1) rfl,Nat,λ j=>[(1,.pb B),(3,.int .i64 (b.dn r j:Nat)),(9,.int .i64 h.cl),(10,.int .i64 r),(14,.slice h.ca h.cl h.cc),(15,.int .i64 h.cl),(16,.int .i64 j)],
   λ j U'=>U1.lg U'/\j<=h.cl,λ j=>h.cl-j,0,T1,⟨F,O1⟩,?_⟩
  rintro j f U3⟨z,hj⟩;have I:Ja ((j:Int)+1):=I1
  have hd:b.dn r j<2^5:=Bk.dn_lt r h5 O1;have H:b.dn r j<2^60:=Nat.lt_trans hd D1;have w:=b.dn_succ r j
  repeat apply R1
  conv=>whnf
  apply Qg<;>intro E
  .have hjt:j<h.cl:=by simpa using E
   obtain⟨ad,c,ga,gl,gc,aa,al,ac,hx,ak,av,au,-,-,ha,ah,ab⟩:=(hb.lg (L.lg.trans z)).case hjt;have K:=Z.lt ab;have ai:=Bk.aft1_at hx;refine⟨ad,j,⟨ak,rfl,hjt⟩,_,⟨rfl,au⟩,?_⟩
   conv=>whnf
   intro b5 an;refine⟨_,.refl _,rfl,Zv (vs:=[.string c.nm,.int .i64 c.ag,.slice ga gl gc,.slice aa al ac]) an rfl (by simp[Value.single]) λ U4 T V=>?_⟩;have G:=z.trans T.lg;refine⟨_,V.sees3 (o:=3) rfl,XL.any,(Z8 aa al ac c.af (ha.lg T.lg) ah K).go λ _=>?_⟩;have aj:Z5 (c.af.map Int.toNat)<2^60:=H6 (toNat_lt K);have key:_↔(Jf b.A j).all (λ k=>(b.dn r j).testBit k)=true:=(Sd aj H).trans ((Sc K).trans (by rw[ai]))
   repeat apply R1
   conv=>whnf
   apply Qg<;>intro E
   .have hall:(Jf b.A j).all (λ k=>(b.dn r j).testBit k)=true:=key.1 (eq_of_beq E);have N:WD b.A (b.dn r j) j=b.dn r j||| (1<<<j):=by unfold WD;rw[if_pos hall]
    rw[N]at w;refine⟨O1,?_⟩
    repeat apply R1
    refine⟨I,?_⟩
    conv=>whnf
    have e2:IntKind.wrap .i64 ((BitVec.ofInt (IntKind.bits .i64) ((b.dn r j:Nat):Int)||| BitVec.ofInt (IntKind.bits .i64) (IntKind.wrap .i64 ((1:Int)*2^(min ((j:Int).toNat) (IntKind.bits .i64))))).toNat:Int)=((b.dn r (j+1):Nat):Int):=by
     rw[Y7 O1,SR H (GY O1),<- w]
    exact⟨rfl,j+1,⟨rfl,congrArg (Value.int .i64) e2,rfl,rfl,rfl,rfl,rfl,trivial⟩,⟨G,O1⟩,L1⟩
   .have hall:(Jf b.A j).all (λ k=>(b.dn r j).testBit k)=false:=by
     cases hh:(Jf b.A j).all (λ k=>(b.dn r j).testBit k)with
     |false=>rfl
     |true=>exact absurd (key.2 hh) (ne_of_beq_false E)
    have N:WD b.A (b.dn r j) j=b.dn r j:=by unfold WD;rw[hall];rfl
    rw[N]at w;refine⟨I,?_⟩
    conv=>whnf
    exact⟨rfl,j+1,⟨rfl,congrArg (λ q:Nat=>Value.int .i64 (q:Int)) w.symm,rfl,rfl,rfl,rfl,rfl,trivial⟩,⟨G,O1⟩,L1⟩
  .have hge:h.cl<=j:=by simpa using E
   obtain rfl:j=h.cl:=O1
   have P:b.dn r h.cl=JJ b.A (r+1):=by rw[<- W];exact b.dn_end r
   refine⟨Y,?_⟩
   conv=>whnf
   exact⟨rfl,r+1,⟨rfl,congrArg (λ q:Nat=>Value.int .i64 (q:Int)) P,rfl,rfl,trivial⟩,⟨z,O1⟩,L1⟩
 .have hge:h.cl<=r:=by simpa using E
  obtain rfl:r=h.cl:=O1
  have e1:IntKind.wrap .i64 ((1:Int)*2^(min ((h.cl:Int).toNat) (IntKind.bits .i64)))=((1<<<h.cl:Nat):Int):=Y7 O1;have aq:=@GY h.cl 6 O1;have ae:0<1<<<h.cl:=by rw[Nat.one_shiftLeft];exact Nat.two_pow_pos _
  have ao:Wu b.A=decide (JJ b.A h.cl≠1<<<h.cl-1):=by unfold Wu;rw[hA,W,<- Nat.one_shiftLeft]
  rw[ao];generalize(1<<<h.cl:Nat)=q at e1 aq ae
  have X:Ja (IntKind.wrap .i64 ((1:Int)*2^(min ((h.cl:Int).toNat) (IntKind.bits .i64)))-1):=by
   rw[e1];unfold Ja;omega
  refine⟨_,(Q.lg F).sees3 (o:=1) rfl,O1,X,?_⟩
  repeat apply R1
  conv=>whnf
  apply Qg<;>intro E
  .rw[e1]at E
   have ap:JJ b.A h.cl≠q-1:=by
    intro e;rw[e]at E;simp at E;omega
   rw[decide_eq_true ap]
   repeat apply R1
   conv=>whnf
   exact L.lg.trans F
  .rw[e1]at E
   have am:¬JJ b.A h.cl≠q-1:=by
    simp at E;omega
   rw[decide_eq_false am]
   repeat apply R1
   conv=>whnf
   exact L.lg.trans F
end
variable{P:Program}{u:Sys P T}{f:Fm}{K:Value->Qa T->Prop}{len:Nat}{d:TypeDesc}{k:IntKind}{cs:Array Value}{x:Operand}{nameB:ByteArray->Bool}
def YR{y:Operand}{b:TypeInfo}(H:P.underlying n=some (.array len j))(E:P.underlying j=some d)(w:TypeDesc.agg d=false)(F:P.info? j=some b)(z:b.size=1)
  (L:Zg f x=.agg cs) (N:Zg f y=.int k i) (G:i<len) (I:cs[i]?=some v) (h:K v U) :
  OX u (.rw (.index n x y) a) f K U:=by
 intro a' B;simp only[execOp,B,L,N];refine rq ?_;simp only[Instr.index,Qd,asIntOf,Qk,Ze H];rw[if_pos O1];simp only[Qd,Je F,z,Nat.mul_one,Int.toNat_natCast];simp only[part,Qd,Hm E,w,Bool.false_eq_true,if_false,I];exact⟨U,.refl _,h⟩
def Yn:Array Value:=#[.func (.func 218) #[] #[],.func (.func 219) #[] #[],.func (.func 92) #[] #[]]
def JY(U:Qa T):Prop:=Zj U 0 Yn
def JY.lg{U':Qa T}(h:JY U)(k:U.lg U'):JY U':=Zj.lg h k
def Bk.low_of(h:H.csF nameB=0):H.Low:=by
 unfold Bk.csF at h;split at h
 .cases h
 .exact⟨O1,λ c f=>KS (Sx h c f).2.2⟩
section
attribute [local irreducible] Qb Zp Wv
def CQ(h:BH)(b:Bk)(hb:Zq U h b)(a:Option Addr)(len cap:Nat)(G:List (List Int))(hl:Wl U a len G)(aa:len<2^60) :
  Qb S 221 #[h.v,.slice a len cap] (λ v U'=>v=.int .i64 (XS b.nr G)/\U'=U) U:=by
 refine Qb.pure' (Qb.of (args:=[_,_]) Fh Qf S1 ?_);have K:=hl.1;have Y:=hb.rs.1;have L:=hb.rl;have W:b.nr=(h.rl:Int):=by unfold Bk.nr;rw[Y]
 repeat apply R1
 conv=>whnf
 intro B Z z Q;have Q:Zj Z B #[.slice h.ra h.rl h.rc,.slice h.ca h.cl h.cc]:=Q
 repeat apply R1
 conv=>whnf
 apply Qg<;>intro F
 .have E:G.length > 3:=by rw[K];simp at F;omega
  repeat apply R1
  conv=>whnf
  exact⟨by unfold XS;rw[if_pos E],z.lg⟩
 have E:¬G.length > 3:=by rw[K];simp at F;omega
 have H:XS b.nr G=XV b.nr G:=by unfold XS;rw[if_neg E]
 rw[H]
 refine⟨Nat,λ i=>[(2,.pb B),(11,.slice a len cap),(12,.int .i64 len),(13,.int .i64 i)],
  λ i U'=>U'=Z/\i<=len/\XV b.nr G=XV b.nr (G.drop i),λ i=>len-i,0,T1,⟨rfl,O1,rfl⟩,?_⟩
 rintro i f U'⟨hU,hi,w⟩;obtain rfl:=hU.symm;have V:Ja ((i:Int)+1):=I1
 repeat apply R1
 conv=>whnf
 apply Qg<;>intro F
 .have hlt:i<len:=by simpa using F
  obtain⟨ad,g,vs,hx,rfl,ab,⟨ga,gl,gc,rfl,hg,T⟩,-,X⟩:=Q8.at (hl.lg z.lg) hlt;have I:=hg.1;rw[Ha hx,XV]at w;refine⟨ad,i,⟨rfl,rfl,hlt⟩,_,X 0 _ rfl,?_⟩
  repeat apply R1
  conv=>whnf
  apply Qg<;>intro F
  .have P:g.length > 3:=by rw[I];simp at F;omega
   repeat apply R1
   conv=>whnf
   exact⟨by rw[w,if_pos P],z.lg⟩
  have P:¬g.length > 3:=by rw[I];simp at F;omega
  rw[if_neg P]at w;refine⟨_,Q.sees3 (o:=0) rfl,Oe.any,(DI ga gl gc g hg T h.rl L).go λ _=>?_⟩;rw[W]at w ⊢;by_cases N:QU (h.rl:Int) none g=0
  .rw[if_pos N]at w;rw[N]
   repeat apply R1
   refine⟨V,?_⟩
   conv=>whnf
   exact⟨rfl,i+1,T1,⟨rfl,O1,w⟩,L1⟩
  .rw[if_neg N]at w
   repeat apply R1
   conv=>whnf
   apply Qg<;>intro F
   .repeat apply R1
    conv=>whnf
    exact⟨by rw[w],z.lg⟩
   .exact absurd (by simpa using F) N
 .have hge:len<=i:=by simpa using F
  rw[drop_eq_nil_of_le O1]at w
  repeat apply R1
  conv=>whnf
  exact⟨by rw[w];rfl,z.lg⟩
def qF(h:BH)(b:Bk)(P:Zq U h b):Qb S 219 #[h.v] (λ v U'=>v=.int .i64 (b.csF Zh)/\U'=U) U:=by
 refine Qb.pure' (Qb.of (args:=[_]) Fg Qf S1 ?_);have Q:=P.cs.1;have ai:=P.cl;have ay:=P.rs.1;have a0:=P.rl;have am:b.nr=(h.rl:Int):=by unfold Bk.nr;rw[ay]
 have aw:b.nc=(h.cl:Int):=by unfold Bk.nc;rw[Q]
 repeat apply R1
 conv=>whnf
 intro B U1 E X;have X:Zj U1 B #[.slice h.ra h.rl h.rc,.slice h.ca h.cl h.cc]:=X;refine⟨_,X.sees3 (o:=1) rfl,?_⟩
 repeat apply R1
 conv=>whnf
 apply Qg<;>intro N
 .have K:b.cs.length > 5:=by rw[Q];simp at N;omega
  repeat apply R1
  conv=>whnf
  exact⟨by unfold Bk.csF;rw[if_pos K],E.lg⟩
 have K:¬b.cs.length > 5:=by rw[Q];simp at N;omega
 have W:b.csF Zh=XW Zh h.rl h.cl [] b.cs:=by unfold Bk.csF;rw[if_neg K,am,aw]
 rw[W]
 conv=>whnf
 refine GT Value.string λ mb a1=>?_;refine⟨_,Qa.sees.lg (X.sees3 (o:=1) rfl) (Z2 mb _),Nat×List ByteArray,λ y=>[(1,.pb B),(3,.map (some mb)),(17,.slice h.ca h.cl h.cc),(18,.int .i64 h.cl),(19,.int .i64 y.1)],
  λ y U'=>U1.lg U'/\U'.M=.obj mb (Qt Value.string (ZO 0 y.2))::U.M/\y.1<=h.cl/\y.2.length=y.1/\XW Zh h.rl h.cl [] b.cs=XW Zh h.rl h.cl y.2 (b.cs.drop y.1),
  λ y=>h.cl-y.1,(0,[]),T1,⟨Z2 _ _,?_,S1,rfl,S1⟩,?_⟩
 .show _::_=_;rw[E.own];rfl
 rintro⟨i,s⟩f U2⟨T,hM,hi,an,w⟩;simp only at hM hi an w;have av:Ja ((i:Int)+1):=I1
 have aj:Ja ((h.rl:Int)-1):=I1
 repeat apply R1
 conv=>whnf
 apply Qg<;>intro N
 .have hlt:i<h.cl:=by simpa using N
  obtain⟨ad,c,ga,gl,gc,aa,al,ac,hx,ap,a2,ax,hg,au,ha,ao,ak⟩:=(P.lg E.lg).case hlt;rw[Ha hx,XW]at w;have az:=P.cn c ak;subst an;refine⟨ad,s.length,⟨ap,rfl,hlt⟩,_,⟨rfl,ax.lg T⟩,?_⟩
  conv=>whnf
  intro b5 aq;refine⟨_,.refl _,rfl,Zv (vs:=[.string c.nm,.int .i64 c.ag,.slice ga gl gc,.slice aa al ac]) aq rfl (by simp[Value.single]) λ U3 ae F=>?_⟩;have ab:U3.M=_:=ae.own.trans hM;have L:=T.trans ae.lg;refine⟨_,F.sees3 (o:=0) rfl,Od.any,(D_ mb s c.nm az U.M ab).mono ?_⟩;rintro _ U4⟨rfl,G⟩-;have V:U3.frz.lg U4:=G▸⟨λ _ _ h=>h,⟨_,(append_nil _).symm⟩,rfl⟩;have z:U1.lg U4:=G▸⟨L.imm,⟨[_],by rw[E.own];rfl⟩,L.tok⟩;have Z:U4.M=.obj mb (Qt Value.string (ZO 0 (if Zh c.nm&&!JB s c.nm then s++[c.nm]else s)))::U.M:=by rw[G]
  have Y:∀x o,U3.I x=some o->U4.I x=some o:=V.imm;have F:=F.imI Y;have H:=X.lg z;clear G;cases hn:Zh c.nm with
  |false=>
   rw[hn]at w
   repeat apply R1
   conv=>whnf
   exact⟨by rw[w];rfl,E.lg.trans z⟩
  |true=>
  rw[if_pos hn]at w;cases hh:JB s c.nm with
  |true=>
   rw[if_pos hh]at w
   repeat apply R1
   conv=>whnf
   exact⟨by rw[w];rfl,E.lg.trans z⟩
  |false=>
  rw[hh]at w;simp only[Bool.false_eq_true,if_false]at w;rw[hn,hh]at Z
  repeat apply R1
  refine⟨_,F.sees3 (o:=1) rfl,_,H.sees3 (o:=0) rfl,aj,G3.any,(Wo _ _ _ _).mono ?_⟩;rintro v U'⟨rfl,rfl⟩-;cases ah:QR c.ag 0 ((h.rl:Int)-1)with
  |false=>
   rw[ah]at w
   repeat apply R1
   conv=>whnf
   exact⟨by rw[w];rfl,E.lg.trans z⟩
  |true=>
  rw[if_pos ah]at w;refine⟨_,⟨rfl,H.rd⟩,?_⟩;refine⟨_,F.sees3 (o:=2) rfl,Fh.any,(CQ h b (P.lg (E.lg.trans z)) ga gl gc c.gs (hg.lg z) au).mono ?_⟩;rintro _ U''⟨rfl,G⟩-;obtain rfl:=G.symm;rw[am];by_cases hz:XS (h.rl:Int) c.gs=0
  .rw[if_pos hz]at w;rw[hz]
   repeat apply R1
   refine⟨_,F.sees3 (o:=3) rfl,_,H.sees3 (o:=1) rfl,Oe.any,(DI aa al ac c.af (ha.lg z) ao h.cl ai).mono ?_⟩;rintro _ U''⟨rfl,G⟩-;obtain rfl:=G.symm;by_cases hy:QU (h.cl:Int) none c.af=0
   .rw[if_pos hy]at w;rw[hy]
    repeat apply R1
    refine⟨av,rfl,(s.length+1,s++[c.nm]),T1,⟨z,Z,by show s.length+1<=h.cl;omega,S1,w⟩,L1⟩
   .rw[if_neg hy]at w
    repeat apply R1
    conv=>whnf
    apply Qg<;>intro N
    .repeat apply R1
     conv=>whnf
     exact⟨by rw[w],E.lg.trans z⟩
    .exact absurd (by simpa using N) hy
  .rw[if_neg hz]at w
   repeat apply R1
   conv=>whnf
   apply Qg<;>intro N
   .repeat apply R1
    conv=>whnf
    exact⟨by rw[w],E.lg.trans z⟩
   .exact absurd (by simpa using N) hz
 .have hge:h.cl<=i:=by simpa using N
  rw[drop_eq_nil_of_le O1]at w
  repeat apply R1
  conv=>whnf
  exact⟨by rw[w];rfl,E.lg.trans T⟩
def VG:prog.underlying 138=some (.array 3 137):=K1
def LD(P:Program)(t:TypeId):Bool:=match P.underlying t with|some d=>!TypeDesc.agg d&&(match P.info? t with|some b=>decide (b.size=1)|none=>false)|none=>false
def gT(h:LD P t=true):∃d b,P.underlying t=some d/\TypeDesc.agg d=false/\P.info? t=some b/\b.size=1:=by
 unfold LD at h;split at h
 .rename_i d hd;rw[Bool.and_eq_true]at h;obtain⟨w,f⟩:=h;split at f
  .rename_i b hi;exact⟨d,b,hd,by simpa using w,hi,by simpa using f⟩
  .cases f
 .cases h
def gV:∃d b,prog.underlying 137=some d/\TypeDesc.agg d=false/\prog.info? 137=some b/\b.size=1:=gT K1
def Yt(h:BH)(b:Bk)(Q:Zq U h b)(Z:JY U):Qb S 24 #[h.v] (λ v U'=>v=.int .i64 (b.flaw Zh)/\U'=U) U:=by
 refine Qb.pure' (Qb.of (args:=[_]) K6 Qf S1 ?_);obtain⟨W,aa,T,G,F,I⟩:=gV
 repeat apply R1
 conv=>whnf
 intro B V w N;have N:Zj V B #[.slice h.ra h.rl h.rc,.slice h.ca h.cl h.cc]:=N;refine⟨_,⟨rfl,(Z.lg w.lg).reads (vs:=Yn.toList) (λ k v hv=>by simpa using hv)⟩,?_⟩
 refine⟨Nat,λ i=>[(1,.pb B),(6,.agg Yn),(7,.int .i64 i)],
  λ i U'=>U'=V/\i<=3/\(0<i->b.rsF Zh=0)/\(1<i->b.csF Zh=0)/\(2<i->Wu b.A=false),λ i=>3-i,0,T1,⟨rfl,O1,O1,O1,O1⟩,?_⟩
 rintro i f U'⟨Y,hi,L,P,X⟩;obtain rfl:=Y.symm;have H:Ja ((i:Int)+1):=I1
 repeat apply R1
 conv=>whnf
 apply Qg<;>intro K
 .have hlt:i<3:=by simp at K;omega
  obtain rfl|rfl|rfl:i=0\/i=1\/i=2:=O1
  .conv=>whnf
   refine YR (v:=.func (.func 218) #[] #[]) VG T G F I rfl rfl O1 rfl ?_;refine⟨_,⟨rfl,N.rd⟩,?_⟩;refine⟨Ff.any,(qm h b (Q.lg w.lg)).mono ?_⟩;rintro _ U''⟨rfl,E⟩-;obtain rfl:=E.symm;by_cases z:b.rsF Zh=0
   .rw[z]
    repeat apply R1
    refine⟨H,?_⟩
    conv=>whnf
    exact⟨rfl,1,T1,⟨rfl,O1,λ _=>by first|exact z|rfl,O1,O1⟩,D1⟩
   .repeat apply R1
    conv=>whnf
    apply Qg<;>intro K
    .repeat apply R1
     conv=>whnf
     exact⟨by unfold Bk.flaw;rw[if_neg z],w.lg⟩
    .exact absurd (by simpa using K) z
  .conv=>whnf
   refine YR (v:=.func (.func 219) #[] #[]) VG T G F I rfl rfl O1 rfl ?_;refine⟨_,⟨rfl,N.rd⟩,?_⟩;refine⟨Fg.any,(qF h b (Q.lg w.lg)).mono ?_⟩;rintro _ U''⟨rfl,E⟩-;obtain rfl:=E.symm;by_cases z:b.csF Zh=0
   .rw[z]
    repeat apply R1
    refine⟨H,?_⟩
    conv=>whnf
    exact⟨rfl,2,T1,⟨rfl,O1,λ _=>L O1,λ _=>by first|exact z|rfl,O1⟩,D1⟩
   .repeat apply R1
    conv=>whnf
    apply Qg<;>intro K
    .repeat apply R1
     conv=>whnf
     exact⟨by unfold Bk.flaw;rw[if_pos (L O1),if_neg z],w.lg⟩
    .exact absurd (by simpa using K) z
  .conv=>whnf
   refine YR (v:=.func (.func 92) #[] #[]) VG T G F I rfl rfl O1 rfl ?_;refine⟨_,⟨rfl,N.rd⟩,?_⟩;refine⟨OI.any,(DH h b (Q.lg w.lg) (Bk.low_of (P O1))).mono ?_⟩;rintro _ U''⟨rfl,E⟩-;obtain rfl:=E.symm;cases z:Wu b.A with
   |false=>
    repeat apply R1
    refine⟨H,?_⟩
    conv=>whnf
    exact⟨rfl,3,T1,⟨rfl,O1,λ _=>L O1,λ _=>P O1,λ _=>by first|exact z|rfl⟩,D1⟩
   |true=>
    repeat apply R1
    conv=>whnf
    exact⟨by unfold Bk.flaw;rw[if_pos (L O1),if_pos (P O1),z];first|done|rfl,w.lg⟩
 .have hge:i=3:=by simp at K;omega
  repeat apply R1
  conv=>whnf
  exact⟨by unfold Bk.flaw;rw[if_pos (L O1),if_pos (P O1),X O1];rfl,w.lg⟩
end
variable{F G B:Operand}{z w:TypeInfo}{o:Nat}{D r:Nat->Bool}
def jb{cap:Nat}{a:Option Addr}(T:P.underlying i=some (.slice j))(B:P.info? j=some z)(V:Zg f x=.slice a len cap)(L:Zg f F=.int .i64 n)(N:Zg f G=.int .i64 n)(Q:n<=cap)
  (E:∀w,a=some w->w.spot=none) (h:K (.slice a n n) U) :
  OX u (.rw (.slice i x none (some F) (some G)) m) f K U:=by
 intro a' I;simp only[execOp,I,V,L,N,Option.map_some,Option.map_none];refine rq ?_;simp only[Instr.sliceAt,Instr.slice,Qd,Ze T,Instr.sliceBounds];refine HB rfl Q ?_;refine HB rfl (Nat.le_refl _) ?_;simp only[Qk,Je B];refine⟨U,.refl _,?_⟩
 have H:(if n=0 then a else a.map λ x=>x.add (0*z.size))=a:=by
  split
  .rfl
  .cases a with
   |none=>rfl
   |some w=>
    have:=E w rfl;obtain⟨b,o,s⟩:=w;cases this;simp only[Option.map_some,Nat.zero_mul];rw[Qo];rfl
 rw[H];exact h
def zK{N:Nat}(I:P.underlying i=some (.array N j))(z:P.info? j=some w)(L:Zg f x=.pointer (some ⟨b,o,none⟩))(G:Zg f B=.int .i64 n)(H:n<=N)
  (h:K (.slice (some ⟨b,o,none⟩) n N) U) :
  OX u (.rw (.slice i x none (some B) none) a) f K U:=by
 intro a' F;simp only[execOp,F,L,G,Option.map_some,Option.map_none];refine rq ?_;simp only[Instr.sliceAt,Qd,Ze I,Instr.sliceBounds,Instr.sureAddr,Qk];refine HB rfl H ?_;simp only[Qk,Je z];refine⟨U,.refl _,?_⟩
 have E:(if N=0 then(⟨b,o,none⟩:Addr)else(⟨b,o,none⟩:Addr).add (0*w.size))=⟨b,o,none⟩:=by
  split
  .rfl
  .rw[Nat.zero_mul,Qo];rfl
 rw[E];exact h
def QL(s:Nat->Bool):List Value:=[.bool (s 0),.bool (s 1),.bool (s 2),.bool (s 3),.bool (s 4),.bool (s 5)]
def HY(h:j<6):j=0\/j=1\/j=2\/j=3\/j=4\/j=5:=O1
def SC(s:Nat->Bool)(h:j<6):(QL s)[j]?=some (.bool (s j)):=by
 rcases HY h with rfl|rfl|rfl|rfl|rfl|rfl <;> rfl
def De(s:Nat->Bool)(h:j<6)(v:Bool):(QL s).toArray.setIfInBounds j (.bool v)=(QL (XY s j v)).toArray:=by
 rcases HY h with rfl|rfl|rfl|rfl|rfl|rfl <;> rfl
def F8(h:∀j,j<6->D j=r j):QL D=QL r:=by
 unfold QL;simp only[h 0 O1,h 1 O1,h 2 O1,h 3 O1,h 4 O1,h 5 O1]
def YK(s:Nat->Bool):∀v∈QL s,v.single=true:=by simp[QL,Value.single]
def Oq(s:Nat->Bool):∀v∈QL s,X2 .bool v=true:=by simp[QL,X2]
def FF:ZE (QL D) (QL r)=true↔∀j,j<6->D j=r j:=by
 simp only[QL,ZE,HM,Bool.and_eq_true,beq_iff_eq,and_true];constructor
 .rintro⟨h0,h1,h2,h3,h4,h5⟩ j hj;rcases HY hj with rfl|rfl|rfl|rfl|rfl|rfl <;> assumption
 .exact λ h=>⟨h 0 O1,h 1 O1,h 2 O1,h 3 O1,h 4 O1,h 5 O1⟩
abbrev SV(s:Nat->Bool):Value:=.agg #[.bool (s 0),.bool (s 1),.bool (s 2),.bool (s 3),.bool (s 4),.bool (s 5)]
def ye:Array Value:=#[.bool false,.bool false,.bool false,.bool false,.bool false,.bool false]
def Wx(s:List Bool):Nat->Bool:=λ j=>s.getD j false
def ku(n:Nat):Wx (replicate n true)=λ j=>decide (j<n):=by
 funext j;simp only[Wx,getD_eq_getElem?_getD,getElem?_replicate];by_cases h:j<n <;> simp[h]
def kw(s:List Bool)(i:Nat)(v:Bool)(b:i<s.length):XY (Wx s) i v=Wx (s.set i v):=by
 funext k;simp only[XY,Wx,getD_eq_getElem?_getD,getElem?_set];by_cases h:k=i
 .subst h;simp[b]
 .rw[if_neg h,if_neg (Ne.symm h)]
def J0(w:List Bool):Nat:=Z5 ((range w.length).filter λ i=>w.getD i false)
def Pv(w:List Bool)(k:Nat):(J0 w).testBit k=w.getD k false:=by
 rw[J0,Wt,Bool.eq_iff_iff,contains_iff_mem,mem_filter,mem_range];constructor
 .exact λ h=>h.2
 .intro h;refine⟨?_,h⟩;apply Classical.byContradiction;intro b;rw[getD_eq_getElem?_getD,getElem?_eq_none O1]at h;cases h
def vw(w:List Bool)(i:Nat)(b:i<w.length):J0 (w.set i true)=J0 w||| (1<<<i):=by
 apply Nat.eq_of_testBit_eq;intro k;rw[Nat.testBit_or,Pv,Pv,PF];simp only[getD_eq_getElem?_getD,getElem?_set];by_cases h:k=i
 .subst h;simp[b]
 .rw[if_neg (Ne.symm h)];simp[h]
def Ix(n:Nat):J0 (replicate n false)=0:=by
 apply Nat.eq_of_testBit_eq;intro k;rw[Pv,Nat.zero_testBit,getD_eq_getElem?_getD,getElem?_replicate];by_cases h:k<n <;> simp[h]
def SG(w:List Bool)(h:w.length<=m):J0 w<2^m:=
 H6 λ x b=>by
  have:=mem_range.1 (mem_filter.1 b).1;omega
section
attribute [local irreducible] Qb Zp Wv
def E0(h:BH)(b:Bk)(W:Zq U h b)(Z:b.rs.length<=6):Qb S 51 #[h.v] (λ v U'=>v=SV (Wx b.ini.1)/\U'=U) U:=by
 refine Qb.pure' (Qb.of (args:=[_]) OV Qf S1 ?_);have K:=W.rs.1;have z:Wx b.ini.1=λ j=>decide (j<h.rl):=by rw[<- K];exact ku _
 rw[z]
 repeat apply R1
 conv=>whnf
 intro B U₀ H G;have G:Zj U₀ B #[.slice h.ra h.rl h.rc,.slice h.ca h.cl h.cc]:=G
 conv=>whnf
 intro b2 X;refine⟨_,.refl _,?_⟩
 conv=>whnf
 intro b3 Y;refine⟨_,.refl _,_,(G.lg ((Z2 b2 _).trans (Z2 b3 _))).sees3 (o:=0) rfl,Nat,λ i=>[(2,.pb b2),(3,.pb b3),(8,.int .i64 h.rl),(9,.int .i64 i)],
  λ i U'=>U₀.I=U'.I/\U₀.tok=U'.tok/\U'.M=.obj b3 (.cells (QL λ j=>decide (j<i)).toArray 113 (0,0))::.obj b2 (.cells ye 113 (0,0))::U₀.M/\i<=h.rl,λ i=>h.rl-i,0,T1,⟨rfl,rfl,rfl,O1⟩,?_⟩
 rintro i f T⟨L,Q,F,hi⟩;have E:U₀.lg T:=⟨λ b o h=>by rw[<- L];exact h,⟨[_,_],F⟩,Q.symm⟩
 repeat apply R1
 conv=>whnf
 apply Qg<;>intro N
 .have hlt:i<h.rl:=by simpa using N
  have w:i<6:=O1
  refine⟨i,⟨rfl,w⟩,rfl,?_⟩;show QZ ((Addr.mk b3 0 none).add (i*1)) [.bool true] 0 _ _;rw[Nat.mul_one];refine GP [] F w rfl ?_
  have V:(QL λ j=>decide (j<i)).toArray.setIfInBounds i (.bool true)=(QL λ j=>decide (j<i+1)).toArray:=by
   rw[De _ w];congr 1;refine F8 λ k _=>?_;unfold XY;by_cases P:k=i
   .simp[P]
   .rw[if_neg P];have:(k<i)=(k<i+1):=propext O1;simp[this]
  rw[V];refine⟨I1,?_⟩;refine⟨rfl,i+1,T1,⟨L,Q,rfl,O1⟩,L1⟩
 .have hge:i=h.rl:=by simp at N;omega
  subst hge;refine⟨_,⟨rfl,Q9 [] F⟩,rfl,Y8 (vs:=QL λ j=>decide (j<h.rl)) [_] F rfl (YK _) ?_⟩;refine⟨_,⟨rfl,Q9 [_] rfl⟩,?_⟩
  conv=>whnf
  exact⟨rfl,(H.lg.trans ⟨E.imm,⟨[_,_],rfl⟩,E.tok⟩)⟩
def qn(b:Nat)(s:Nat->Bool)(h:Zj U b (QL s).toArray)(r:Nat)(f:r<6):Qb S 114 #[.int .i64 r,.pb b] (λ v U'=>v=.bool (!s r)/\U'=U) U:=by
 refine Qb.of (args:=[_,_]) Fv Qf S1 ?_
 repeat apply R1
 refine⟨r,⟨rfl,f⟩,.bool (s r),?_,?_⟩
 .rw[Nat.mul_one,Qo];exact h.sees (by rw[Nat.zero_add,getElem?_toArray];exact SC s f)
 repeat apply R1
 conv=>whnf
def BS(a:Option Addr)(len cap:Nat)(l:List Int)(h:Z3 U a len l)(f:len<2^60)(g:FuncId)(first b:Array Value)(p:Int->Bool)(w:WUq S U g first b (λ n=>.int .i64 n) l p) :
  Qb S 113 #[.slice a len cap,.func (.func g) first b] (λ v U'=>v=.bool (l.any p)/\U'=U) U:=by
 refine Qb.of (args:=[_,_]) Fu Qf S1 ?_;refine⟨Fa.any,(zd (λ n=>.int .i64 n) a len cap l h.1 h.2 (λ x=>⟨_,_,rfl⟩) f g first b p w).mono ?_⟩;rintro v U'⟨rfl,rfl⟩-
 repeat apply R1
 refine⟨?_,rfl⟩;show Value.bool _=_;rw[KP]
def qi(b:Nat)(s:Nat->Bool)(z:Zj U b (QL s).toArray)(a:Option Addr)(len cap:Nat)(l:List Int)(B:Z3 U a len l)(f:len<2^60)(h:∀n∈l,0<=n/\n<6) :
  Qb S 112 #[.slice a len cap,.pb b] (λ v U'=>v=.bool (l.all λ r=>s r.toNat)/\U'=U) U:=by
 refine Qb.of (args:=[_,_]) Ft Qf S1 ?_;refine⟨Fu.any,(BS a len cap l B f 114 #[] #[_] (λ r=>!s r.toNat) ⟨Fv.any,λ n w=>?_⟩).mono ?_⟩
 .obtain⟨k,rfl⟩:=Int.eq_ofNat_of_zero_le (h n w).1;exact qn b s z k (by have:=(h _ w).2;omega)
 rintro v U'⟨rfl,rfl⟩-
 repeat apply R1
 refine⟨?_,rfl⟩;show Value.bool _=_;congr 1;rw[Bool.eq_iff_iff];simp
def ze(a:Option Addr)(len cap:Nat)(l:List (List Int))(G:Wl U a len l)(L:len<2^60)(g:FuncId)(first z:Array Value)(p:List Int->Bool)
  (Q:(prog.funcs[g]?.any λ fd=>fd.body.isSome&&fd.name != "runtime.NumGoroutine")=true)
  (P:∀x∈l,∀a' b w,Z3 U a' b x->b<2^60->Qb S g (first.toList++[Value.slice a' b w]++z.toList).toArray (λ v U'=>v=.bool (p x)/\U'=U) U) :
  Qb S 148 #[.slice a len cap,.func (.func g) first z] (λ v U'=>v=.int .i64 (Xx p l)/\U'=U) U:=by
 refine Qb.of (args:=[_,_]) FB Qf S1 ?_;have X:=G.1
 repeat apply R1
 refine⟨Nat,λ i=>[(0,.slice a len cap),(1,.func (.func g) first z),(6,.slice a len cap),(7,.int .i64 len),(8,.int .i64 i)],
  λ i U'=>U'=U/\i<=len/\∀x∈l.take i,p x=false,λ i=>len-i,0,T1,⟨rfl,O1,S1⟩,?_⟩
 rintro i f _⟨rfl,W,h⟩
 repeat apply R1
 conv=>whnf
 apply Qg<;>intro F
 .have hlt:i<len:=by simpa using F
  obtain⟨N,x,vs,H,rfl,V,⟨a',b,w,rfl,I,K⟩,Y,T⟩:=Q8.at G hlt;have B:=P x (mem_of_getElem? H) a' b w I K;refine⟨N,i,⟨rfl,rfl,hlt⟩,_,T 0 _ rfl,Q,B.mono ?_⟩;rintro v U'⟨rfl,rfl⟩-
  conv=>whnf
  apply Qg<;>intro F
  .repeat apply R1
   conv=>whnf
   exact⟨by rw[VO H F h],rfl⟩
  .refine⟨I1,?_⟩;refine⟨rfl,i+1,T1,⟨rfl,O1,?_⟩,L1⟩;intro y E;rw[Wf H,mem_append]at E;rcases E with E|E
   .exact h y E
   .simp at E;subst E;exact F
 .have hge:len<=i:=by simpa using F
  repeat apply R1
  refine⟨?_,rfl⟩;rw[take_of_length_le O1]at h;rw[VN h]
def BT(a:Option Addr)(len cap:Nat)(l:List (List Int))(z:Wl U a len l)(w:len<2^60)(g:FuncId)(first b:Array Value)(p:List Int->Bool)
  (E:(prog.funcs[g]?.any λ fd=>fd.body.isSome&&fd.name != "runtime.NumGoroutine")=true)
  (B:∀x∈l,∀a' f h,Z3 U a' f x->f<2^60->Qb S g (first.toList++[Value.slice a' f h]++b.toList).toArray (λ v U'=>v=.bool (p x)/\U'=U) U) :
  Qb S 111 #[.slice a len cap,.func (.func g) first b] (λ v U'=>v=.bool (l.any p)/\U'=U) U:=by
 refine Qb.of (args:=[_,_]) Fs Qf S1 ?_;refine⟨FB.any,(ze a len cap l z w g first b p E B).mono ?_⟩;rintro v U'⟨rfl,rfl⟩-
 repeat apply R1
 refine⟨?_,rfl⟩;show Value.bool _=_;rw[KP]
def zw(Q nm:Value)(ag:Value)(gc:Nat)(af:Value)(ga:Option Addr)(gl:Nat)(gs:List (List Int))(hg:Wl U ga gl gs)(I:gl<2^60)(s:Nat->Bool)(Z:∀g∈gs,∀n∈g,0<=n/\n<6)(h:BH)(hH:Q=h.v)(c:ByteArray)(hN:nm=.string c)(n:Int)(hA:ag=.int .i64 n)(L:Option Addr)(P N:Nat)(hF:af=.slice L P N) :
  Qb S 82 #[Q,.agg #[nm,ag,.slice ga gl gc,af],SV s] (λ v U'=>v=.bool (gs.any λ g=>g.all λ r=>s r.toNat)/\U'=U) U:=by
 subst hH hN hA hF;refine Qb.pure' (Qb.of (args:=[_,_,_]) UC Qf S1 ?_)
 repeat apply R1
 conv=>whnf
 intro B3 U1 G aa
 conv=>whnf
 intro T V H b;have b:Zj V T #[.string c,.int .i64 n,.slice ga gl gc,.slice L P N]:=b
 conv=>whnf
 intro K W z f;have f:Zj W K (QL s).toArray:=f;have B:=(G.trans H).trans z;refine⟨_,(b.le z).sees3 (o:=2) rfl,Fs.any,(BT ga gl gc gs (hg.lg B.lg) I 112 #[] #[_] (λ g=>g.all λ r=>s r.toNat) Ft.any λ x hx a' E w X Y=>qi K s f a' E w x X Y (Z x hx)).mono ?_⟩;rintro v U'⟨rfl,F⟩-;obtain rfl:=F.symm
 repeat apply R1
 conv=>whnf
 exact B.lg
end
variable{g:FuncId}{N:Option Addr}
def Jj.sub(h:Jj U ⟨b,0,none⟩ vs):Jj U ((Addr.mk b 0 none).add o) ((vs.drop o).take n):=by
 intro i v f
 have w:vs[o+i]?=some v:=by
  have z:=(List.getElem?_eq_some_iff.1 f).1;rw[getElem?_take]at f;split at f
  .rwa [getElem?_drop]at f
  .cases f
 have:=h (o+i) v w;rw[Qo]at this ⊢;rw[Qo]
 rwa [Nat.zero_add,<- Nat.zero_add o,Nat.add_assoc,Nat.zero_add]at this ⊢
def WJ(X:List Qw)(w:U.M=X++.obj b (.cells c e (0,0))::M₀)(z:i<c.size)(B:v.single=true)
  (h:∀f:Qa T,f.I=U.I->f.tok=U.tok->f.M=X++.obj b (.cells (c.setIfInBounds i v) e (0,0))::M₀->Q f):QZ ((Addr.mk b 0 none).add i) [v] 0 (λ U'=>∃f,Qv U' f/\Q f) U:=
 GP X w z B (h _ rfl rfl rfl)
def Wd(X:List Qw)(z:U.M=X++.obj b (.cells c e (0,0))::M₀)(w:c.size=vs.length)(B:∀v∈vs,v.single=true)
  (h:∀f:Qa T,f.I=U.I->f.tok=U.tok->f.M=X++.obj b (.cells vs.toArray e (0,0))::M₀->Q f):QZ ⟨b,0,none⟩ vs 0 (λ U'=>∃f,Qv U' f/\Q f) U:=
 Y8 X z w B (h _ rfl rfl rfl)
def Qb.out{R:Value->Nat->Obj->Prop}(h:Qb u g c (λ v U'=>∃b o A,R v b o/\U'.M=.obj b o::(A++U.M)/\(∀x E,U.I x=some E->U'.I x=some E)/\U'.tok=U.tok) U) :
  Qb u g c (λ v U'=>∃b o,R v b o/\U'.I b=some o/\U.le U') U:=by
 refine h.sep λ v U' H⟨b,o,A,w,B,G,K⟩=>?_;have F:Qv U' { U' with M:=.obj b o::U.M }:=Zz (by rw[B];exact(sublist_append_right A U.M).cons₂ _)
 have z:JP { U' with M:=.obj b o::U.M }:=λ r w=>H r (by rw[B];rcases mem_cons.1 w with rfl|w;{simp};simp[w])
 obtain⟨U'',L,N,P⟩:=Ig (U':={ U' with M:=.obj b o::U.M }) z rfl G rfl K;exact⟨U'',F.trans L,b,o,w,P,N⟩
abbrev HL(a:Option Addr)(len cap:Nat)(s:Nat->Bool)(w:Nat):Value:=.agg #[.slice a len cap,.bool (s 0),.bool (s 1),.bool (s 2),.bool (s 3),.bool (s 4),.bool (s 5),.int .i64 w]
def QP(v:Value)(s:Nat->Bool)(w:Nat):List Value:=[v,.bool (s 0),.bool (s 1),.bool (s 2),.bool (s 3),.bool (s 4),.bool (s 5),.int .i64 w]
def xQ(v:Value)(s:Nat->Bool)(w:Nat)(h:j<6)(u:Bool):(QP v s w).toArray.setIfInBounds (1+j) (.bool u)=(QP v (XY s j u) w).toArray:=by
 rcases HY h with rfl|rfl|rfl|rfl|rfl|rfl <;> rfl
def Hp(U:Qa T)(v:Value)(o:List Nat)(x:List Bool×List Bool):Prop:=∃a cap,v=HL a o.length cap (Wx x.1) (J0 x.2)/\Z3 U a o.length (o.map λ(k:Nat)=>(k:Int))/\o.length<=cap/\∀b,a=some b->b.spot=none
def Hp.lg{U':Qa T}{v:Value}{o:List Nat}{x:List Bool×List Bool}(h:Hp U v o x)(k:U.lg U'):Hp U' v o x:=let ⟨a,c,e,h1,h2⟩:=h;⟨a,c,e,h1.lg k,h2⟩
def Z3.src'(h:Z3 U N len l):Src U N (l.map λ n=>.int .i64 n):=by
 cases l with
 |nil=>
  cases N with
  |none=>exact .inl ⟨rfl,rfl⟩
  |some f=>exact .inr ⟨f,rfl,λ i v b=>by simp at b⟩
 |cons x l=>
  obtain⟨f,e,F,_⟩:=h.2 0 x rfl;refine .inr ⟨f,e,λ i v b=>?_⟩;rw[getElem?_map]at b;cases w:(x::l)[i]? with
  |none=>rw[w]at b;cases b
  |some y=>
   rw[w]at b;cases b;obtain⟨B,e',z,E⟩:=h.2 i y w;rw[e]at e';cases e'
   rwa [Nat.mul_one]at E
section
attribute [local irreducible] Qb Zp Wv
def DD(h:BH)(b:Bk)(hb:Zq U h b)(ah:b.Ok)(a:Option Addr)(cap:Nat)(o:List Nat)(x:List Bool×List Bool)(ho:Z3 U a o.length (o.map λ(k:Nat)=>(k:Int)))(bt:∀ad,a=some ad->ad.spot=none)(a3:o.length<=cap)(h5:o.length<=5)
  (h1:x.1.length=b.rs.length) (h2:x.2.length=b.cs.length) (i:Nat) (hi:i<b.cs.length) :
  Qb S 55 #[h.v,HL a o.length cap (Wx x.1) (J0 x.2),.int .i64 i] (λ v U'=>Hp U'.frz v (o++[i]) (b.stp x i)/\U.le U') U:=by
 have b0:=hb.cs.1;have b9:=hb.rs.1;have b5:=ah.nc;have b8:=ah.nr
 let R:Value->Nat->Obj->Prop:=λ v B O=>∃(cp:Nat)(c:Array Value),v=HL (some ⟨B,0,none⟩) (o.length+1) cp (Wx (b.stp x i).1) (J0 (b.stp x i).2)/\O=.cells c 3 (0,0)/\o.length+1<=cp/\∀(k:Nat)(u:Value),((o++[i]).map λ(k:Nat)=>Value.int .i64 (k:Int))[k]?=some u->c[k]?=some u
 have bf:Qb S 55 #[h.v,HL a o.length cap (Wx x.1) (J0 x.2),.int .i64 i] (λ v U'=>∃B O A,R v B O/\U'.M=.obj B O::(A++U.M)/\(∀y E,U.I y=some E->U'.I y=some E)/\U'.tok=U.tok) U:=by
  refine Qb.of (args:=[_,_,_]) OY Qf S1 ?_;obtain⟨c,ao⟩:∃c,b.cs[i]?=some c:=⟨_,getElem?_eq_getElem hi⟩;have a4:b.cas i=c:=by simp[Bk.cas,getD_eq_getElem?_getD,ao]
  have a5:=mem_of_getElem? ao;have bi:=ah.ag c a5;have bp:=ah.gs c a5;have bu:J0 x.2<2^5:=SG _ O1;have be:J0 x.2<2^60:=Nat.lt_trans bu D1
  have h6:∀g∈c.gs,∀n∈g,0<=n/\n<6:=λ g hg n hn=>by
   have:=(bp g hg).2 n hn;unfold Bk.nr at this;omega
  have K:c.ag.toNat<6/\c.ag=(c.ag.toNat:Int)/\c.ag.toNat<x.1.length:=by unfold Bk.nr at bi;omega
  obtain⟨cf,-,a7,-⟩:=H0.i
  have Q:b.stp x i=if(c.gs.any λ g=>g.all λ r=>Wx x.1 r.toNat)then(x.1.set c.ag.toNat false,x.2.set i true)else x:=by
   unfold Bk.stp LL;rw[a4];rfl
  repeat apply R1
  conv=>whnf
  intro B T G hB;have hB:Zj T B #[.slice h.ra h.rl h.rc,.slice h.ca h.cl h.cc]:=hB
  conv=>whnf
  intro b4 b1
  conv=>whnf
  intro b6 b2;refine⟨_,.refl _,?_⟩
  let L:List Value:=QP (.slice a o.length cap) (Wx x.1) (J0 x.2)
  have hM:((T.put b4 (.cells L.toArray 116)).put b6 (.cells #[.nl,.bool false,.bool false,.bool false,.bool false,.bool false,.bool false,.int .i64 0] 116)).M=[.obj b6 (.cells #[.nl,.bool false,.bool false,.bool false,.bool false,.bool false,.bool false,.int .i64 0] 116 (0,0))]++.obj b4 (.cells L.toArray 116 (0,0))::T.M:=rfl;have br:=Q9 [_] hM;have au:=br.cell (i:=0) (v:=.slice a o.length cap) rfl;refine⟨_,au,_,au,_,au,?_⟩
  conv=>whnf
  refine jb Pt a7 rfl rfl rfl a3 bt ?_
  conv=>whnf
  intro bg a6;refine Zi a6 λ U2 am Y=>?_;have Y:Zj U2 bg #[.int .i64 i]:=Y;have ap:U.lg U2:=G.lg.trans ((Z2 b4 _).trans ((Z2 b6 _).trans am.lg));have f:T.lg U2:=(Z2 b4 _).trans ((Z2 b6 _).trans am.lg);have az:U2.M=_:=am.own.trans hM
  conv=>whnf
  refine Db (cs:=(o.map λ(k:Nat)=>(k:Int)).map λ n=>.int .i64 n) (new:=[.int .i64 i]) H0 rfl rfl (Z3.src' (ho.lg ap)) S1 (.inr ⟨_,rfl,Y.rd⟩) rfl S3 (λ h0=>by cases h0) (λ _ bn cn F b3 a8 ce bk=>?_)
  let L1:List Value:=QP (.slice (some ⟨bn,0,none⟩) (o.length+1) F) (Wx x.1) (J0 x.2)
  have a0:(U2.put bn (.cells cn 3)).M=[.obj bn (.cells cn 3 (0,0)),.obj b6 (.cells #[.nl,.bool false,.bool false,.bool false,.bool false,.bool false,.bool false,.int .i64 0] 116 (0,0))]++.obj b4 (.cells L.toArray 116 (0,0))::T.M:=by
   show _::U2.M=_;rw[az];rfl
  obtain⟨ad,c',ga,gl,gc,aa,al,ac,bv,bl,bx,a9,hg,bo,ha,bz,bw⟩:=(hb.lg G.lg).case (show i<h.cl by omega);obtain rfl:c=c':=Option.some.inj (ao.symm.trans bv);refine⟨rfl,GP (i:=0) [_,_] a0 (by show 0<8;omega) rfl ?_⟩;refine⟨_,Qa.sees.lg (hB.sees3 (o:=1) rfl) ⟨f.imm,⟨[_,_,_],rfl⟩,f.tok⟩,ad,i,⟨bl,rfl,O1⟩,_,⟨rfl,a9.lg ⟨f.imm,⟨[_,_,_],rfl⟩,f.tok⟩⟩,?_⟩
  conv=>whnf
  intro b7 bm;refine⟨_,.refl _,rfl,Zv (vs:=[.string c.nm,.int .i64 c.ag,.slice ga gl gc,.slice aa al ac]) bm rfl (by simp[Value.single]) λ U3 an N=>?_⟩;have ab:U3.M=[.obj bn (.cells cn 3 (0,0)),.obj b6 (.cells #[.nl,.bool false,.bool false,.bool false,.bool false,.bool false,.bool false,.int .i64 0] 116 (0,0))]++.obj b4 (.cells L1.toArray 116 (0,0))::T.M:=an.own;have V:∀y E,T.I y=some E->U3.I y=some E:=λ y E H=>an.imm y E (f.imm y E H);have av:U3.tok=T.tok:=an.tok.trans f.tok;have P:T.lg U3:=⟨V,⟨[_,_,_],ab⟩,av⟩;have Z:=Q9 [_,_] ab;refine⟨_,⟨rfl,(hB.lg P).rd⟩,?_⟩;refine⟨_,⟨rfl,N.rd⟩,?_⟩;refine⟨QL (Wx x.1),⟨rfl,Z.sub (o:=1) (n:=6)⟩,UC.any,(zw _ _ _ gc _ ga gl c.gs (hg.lg P) bo (Wx x.1) h6 h rfl c.nm rfl c.ag rfl aa al ac rfl).mono ?_⟩;rintro v U'⟨rfl,bh⟩-;obtain rfl:=bh.symm
  have done:∀s w,b.stp x i=(s,w)->R (HL (some ⟨bn,0,none⟩) (o.length+1) F (Wx s) (J0 w)) bn (.cells cn 3 (0,0)):=λ s w e=>
   ⟨F,cn,by rw[e],rfl,a8,λ k u hu=>bk k u (by simpa[Function.comp_def]using hu)⟩
  cases ak:(c.gs.any λ g=>g.all λ r=>Wx x.1 r.toNat)with
  |true=>
   rw[ak,if_pos rfl]at Q;have bs:=Y7 (show i<60 by omega);refine⟨_,Z.cell (i:=7) rfl,O1,?_⟩
   conv=>whnf
   intro U5 ae _;have a1:=ae.own.trans ab;have aw:∀y E,T.I y=some E->U5.I y=some E:=λ y E H=>ae.imm y E (V y E H);have ba:U5.tok=T.tok:=ae.tok.trans av;have N:=N.le ae;have key:J0 x.2||| (1<<<i)=J0 (x.2.set i true):=(vw x.2 i O1).symm
   have e2:IntKind.wrap .i64 ((BitVec.ofInt (IntKind.bits .i64) ((J0 x.2:Nat):Int)||| BitVec.ofInt (IntKind.bits .i64) (IntKind.wrap .i64 ((1:Int)*2^(min ((i:Int).toNat) (IntKind.bits .i64))))).toNat:Int)=((J0 (x.2.set i true):Nat):Int):=by
    rw[bs,SR be (GY O1),key]
   refine⟨rfl,rfl,?_⟩;rw[e2];refine WJ (i:=7) (v:=.int .i64 (J0 (x.2.set i true):Nat)) [_,_] a1 (by show 7<8;omega) rfl λ U6 ai bb W=>?_;have W:U6.M=[_,_]++.obj b4 (.cells (QP (.slice (some ⟨bn,0,none⟩) (o.length+1) F) (Wx x.1) (J0 (x.2.set i true))).toArray 116 (0,0))::T.M:=W;have a2:Zj U6 b7 #[.string c.nm,.int .i64 c.ag,.slice ga gl gc,.slice aa al ac]:=N.imI λ y E H=>by rw[ai];exact H
   refine⟨_,a2.sees3 (o:=1) rfl,c.ag.toNat,⟨K.2.1,K.1⟩,rfl,?_⟩;rw[show((Addr.mk b4 0 none).add 1).add (c.ag.toNat*1)=(Addr.mk b4 0 none).add (1+c.ag.toNat) by rw[Qo,Qo,Qo,Nat.mul_one,Nat.zero_add,Nat.zero_add]];refine WJ (i:=1+c.ag.toNat) (v:=.bool false) [_,_] W (by show 1+c.ag.toNat<8;omega) rfl λ U7 ax bc X=>?_;rw[xQ _ _ _ K.1,kw _ _ _ K.2.2]at X;have aq:=Q9 [_,_] X;refine⟨_,⟨rfl,aq⟩,rfl,Wd (vs:=QP (.slice (some ⟨bn,0,none⟩) (o.length+1) F) (Wx (x.1.set c.ag.toNat false)) (J0 (x.2.set i true))) [_] X rfl (by simp[QP,Value.single]) λ U8 ay bd aj=>?_⟩;refine⟨_,⟨rfl,Q9 [_] aj⟩,?_⟩
   conv=>whnf
   exact⟨bn,_,[_,_],done _ _ Q,by rw[aj,<- G.own];rfl,λ y E H=>by rw[ay,ax,ai];exact aw y E (G.imm y E H),by rw[bd,bc,bb,ba];exact G.tok⟩
  |false=>
   rw[ak]at Q;refine⟨_,⟨rfl,Z⟩,rfl,Y8 (vs:=L1) [_] ab rfl (by simp[L1,QP,Value.single]) ?_⟩;refine⟨_,⟨rfl,Q9 [_] rfl⟩,?_⟩
   conv=>whnf
   exact⟨bn,_,[_,_],done x.1 x.2 Q,by show _=_;rw[<- G.own];rfl,λ y E H=>V y E (G.imm y E H),av.trans G.tok⟩
 refine(Qb.out (R:=R) bf).mono ?_;rintro v U'⟨B,O,⟨cp,c,rfl,rfl,h3,h4⟩,hB,bq⟩;refine⟨⟨some ⟨B,0,none⟩,cp,S1,?_,by simpa using h3,by rintro _⟨⟩;rfl⟩,bq⟩;have bj:Zj U'.frz B c:=⟨3,(0,0),hB⟩;refine⟨S1,λ k y H=>⟨_,rfl,rfl,?_⟩⟩;rw[Nat.mul_one,Qo];refine bj.sees ?_;rw[Nat.zero_add];refine h4 k _ ?_;rw[getElem?_map]at H ⊢;cases hz:(o++[i])[k]? with
 |none=>rw[hz]at H;cases H
 |some z=>rw[hz]at H;cases H;rfl
end
variable{dets:List Nat}{params:Array Tmp}{sa Y:C}{β γ:Zl T}{ε:Nat->Zl T}{ds:List Deferred}{first:Array Value}
def IB(S:Sys P T)(l n:Nat)(R:Nat->List Value->Qa T->Prop)(I:Nat->Qa T->Prop)(E:Qa T->Prop):Prop:=
 ∀(k:Nat)(p:List Value)(f:Qa T)(K:Value->Qa T->Prop),k<n->R k p f.frz->I k f->(∀b,f.frz.lg b->I (k+1) b->K (.bool true) b)->(∀b,E b->K (.bool false) b)->Zp S l p K f
def Yc(S:Sys P T)(g:FuncId)(args:Array Value)(l n:Nat)(R:Nat->List Value->Qa T->Prop)(U:Qa T):Prop:=
 ∀(I:Nat->Qa T->Prop)(E:Qa T->Prop),(∀k b f,b.le f->I k b->I k f)->IB S l n R I E->I 0 U->Qb S g args (λ _ U'=>I n U'\/E U') U
def Im(hm:P.follows .mixedOrders=true){c:Operand}
  (len:Nat) (R:Nat->List Value->Qa T->Prop) (Inv:Nat->Qa T->Prop) (X:Nat->Qa T->Prop) (W:Qa T->Prop)
  (hc:Zg f c=.func (.func g) first cs) (hp:params.toList.all (λ t=>decide (t<a))=true) (hg:(P.funcs[g]?.any λ fd=>fd.body.isSome&&fd.name != "runtime.NumGoroutine")=true)
  (aa:∀l F,U.frz.lg F->Yc u g (first.toList++[Value.func (.yield l) #[] #[]]++cs.toList).toArray l len R F)
  (Q:∀k p U,R k p U->p.length=params.size) (ab:∀k F L,F.le L->Inv k F->Inv k L) (h0:Inv 0 U)
  (H:∀(l:Nat)(A B D:Qw)(k:Nat)(p:List Value)(U₀:Qa T)(KN:Zl T)(KX:Nat->Zl T)(KR KA:Zl T),k<len->R k p U₀.frz->Inv k U₀ ->
   (∀w z b,U₀.frz.lg b->Inv (k+1) b->KN w z (b.on B D))->(∀i w z b,X i b->KX i w z (b.on B D))->(∀w z b,W b->KR w z (b.on B D)) ->
   (∀w(F:Qa T),JX u j (some l) Y KN KX KR w [] (F.on B D)->KA w [] (F.on A D)) ->
   JX u j (some l) sa KA (λ _ _ _ _=>False) (λ _ _ _=>False) (GC f params.toList p) [] (U₀.on A D))
  (hn:∀(d l:Nat)(A:Obj)b,Inv len b->β f (⟨.collected d,#[]⟩::ds) (b.on (.obj l A) (.obj d (.deferred (some [])))))
  (hx:∀(d l:Nat)(A:Obj)i b,X i b->ε i f (⟨.collected d,#[]⟩::ds) (b.on (.obj l A) (.obj d (.deferred (some [])))))
  (hr:∀(d l:Nat)(A:Obj)b,W b->γ f (⟨.collected d,#[]⟩::ds) (b.on (.obj l A) (.obj d (.deferred (some []))))) :
  Wv u j none a mu dets c params sa Y β ε γ f ds U:=by
 show JX u j none (.rng a mu dets c params sa Y) β ε γ f ds U;refine kG hm hc hp hg λ l d lo hd hl ac hR=>?_
 let D:Qw:=.obj d (.deferred (some []))
 let I:Nat->Qa T->Prop:=λ k F=>∃U₀,Inv k U₀/\F=U₀.on (.obj l (lo .ready none)) D
 let E:Qa T->Prop:=λ F=>∃U₀,(∃i,X i U₀/\F=U₀.on (.obj l (lo .done (some (.exit i)))) D)\/(W U₀/\F=U₀.on (.obj l (lo .done (some .ret))) D)
 have Z:U.frz.lg (U.on (.obj l (lo .ready none)) D):=⟨λ _ _ h=>h,⟨_,(append_nil _).symm⟩,rfl⟩;refine(aa l _ Z I E ?_ ?_ ⟨U,h0,rfl⟩).mono ?_
 .rintro k _ L hle' ⟨U₀,hI,rfl⟩;refine⟨{ L with M:=U₀.M },ab k U₀ _ ⟨hle'.imm,rfl,hle'.tok⟩ hI,?_⟩;obtain⟨ad,ae,ag⟩:=L;have:=hle'.own;simp only[Qa.on]at this ⊢;rw[this]
 .rintro k p _ K hk hRk ⟨U₀,hI,rfl⟩ hK1 hK2;refine hR p K _ (Q k p _ hRk) (mem_cons_self ..) ?_;refine H l _ (.obj l (lo .busy none)) D k p U₀ _ _ _ _ hk hRk hI (λ w z b V h=>?_) (λ i w z b h=>?_) (λ w z b h=>?_) (λ w F h=>⟨rfl,_,.here,h⟩)
  .exact⟨_,.here,hK1 _ ⟨V.imm,⟨_,(append_nil _).symm⟩,V.tok⟩ ⟨b,h,rfl⟩⟩
  .exact⟨_,.here,hK2 _ ⟨b,.inl ⟨i,h,rfl⟩⟩⟩
  .exact⟨_,.here,hK2 _ ⟨b,.inr ⟨h,rfl⟩⟩⟩
 .rintro v b (⟨U₀,hI,rfl⟩|⟨U₀,⟨i,hX,rfl⟩|⟨hR',rfl⟩⟩) -
  .exact⟨.ready,none,_,S1,.here,hn d l _ U₀ hI⟩
  .exact⟨.done,some (.exit i),_,S1,.here,hx d l _ i U₀ hX⟩
  .exact⟨.done,some .ret,_,S1,.here,hr d l _ U₀ hR'⟩
def Bk.ords_succ(b:Bk)(k:Nat)(o:List Nat):b.ords (k+1) o=(range b.cs.length).flatMap λ i=>if b.can o i then b.ords k (o++[i])else[]:=rfl
def Bk.ordsTo(b:Bk)(k:Nat)(o:List Nat)(m:Nat):List (List Nat):=(range m).flatMap λ i=>if b.can o i then b.ords k (o++[i])else[]
def Bk.ordsTo_succ(b:Bk)(k:Nat)(o:List Nat)(m:Nat):b.ordsTo k o (m+1)=b.ordsTo k o m++(if b.can o m then b.ords k (o++[m])else[]):=by
 simp[Bk.ordsTo,range_succ]
def Bk.ordsTo_le(b:Bk)(k:Nat)(o:List Nat)(h:m<=b.cs.length):∃r,b.ords (k+1) o=b.ordsTo k o m++r:=by
 refine⟨((range (b.cs.length-m)).map (m+·)).flatMap λ i=>if b.can o i then b.ords k (o++[i])else[],?_⟩;rw[Bk.ords_succ,Bk.ordsTo,<- flatMap_append];congr 1;rw[<- range_add];congr 1;omega
structure Bk.Run(b:Bk)(o:List Nat):Prop where
 low:∀i∈o,i<b.cs.length
 len:o.length<=b.cs.length
def Bk.ends_len(b:Bk):∀(o:List Nat),(b.ends o).1.length=b.rs.length/\(b.ends o).2.length=b.cs.length:=by
 intro o
 have key:∀(o:List Nat)(x:List Bool×List Bool),x.1.length=b.rs.length->x.2.length=b.cs.length->(o.foldl b.stp x).1.length=b.rs.length/\(o.foldl b.stp x).2.length=b.cs.length:=by
  intro o
  induction o with
  |nil=>exact λ x f h=>⟨f,h⟩
  |cons i o w=>
   intro x f h;refine w _ ?_ ?_ <;> unfold Bk.stp <;> split <;> simp[f,h]
 exact key o b.ini (by simp[Bk.ini]) (by simp[Bk.ini])
def Og(o:List Nat):Z5 ((o.map λ(k:Nat)=>(k:Int)).map Int.toNat)=Z5 o:=by
 congr 1;rw[map_map]
 conv=>rhs;rw[<- map_id o]
 exact map_congr_left λ k _=>S1
structure GK(U:Qa T)(h:BH)(l B b2 b3:Nat):Prop where
 bk:Zj U B #[.slice h.ra h.rl h.rc,.slice h.ca h.cl h.cc]
 yl:Zj U b2 #[.func (.yield l) #[] #[]]
 nx:Zj U b3 #[.func (.func 85) #[] #[.pb B,.pb b2,.pb b3]]
def GK.lg{U':Qa T}{h:BH}{l B b2 b3:Nat}(k:GK U h l B b2 b3)(b:U.frz.lg U'):GK U' h l B b2 b3:=⟨k.bk.imI b.imm,k.yl.imI b.imm,k.nx.imI b.imm⟩
def Gw(b:Bk)(k:Nat)(p:List Value)(U:Qa T):Prop:=∃o v,b.all[k]?=some o/\p=[v]/\Hp U v o (b.ends o)
variable{I:Nat->Qa T->Prop}{E:Qa T->Prop}
section
attribute [local irreducible] Qb Zp Wv
def zo(h:BH)(b:Bk)(au:b.Ok){B b2 b3:Nat}(an:∀k W U2,W.le U2->I k W->I k U2)(be:IB S len b.all.length (Gw b) I E) :
  ∀(k:Nat)(o:List Nat)(j:Nat)(U:Qa T)(v:Value),o.length+k=b.cs.length->(∀i∈o,i<b.cs.length)->Zq U.frz h b->GK U h len B b2 b3->Hp U.frz v o (b.ends o)->(∀(i:Nat)q,(b.ords k o)[i]?=some q->b.all[j+i]?=some q)->I j U ->
   Qb S 85 #[v,.pb B,.pb b2,.pb b3] (λ v' U'=>(v'=.bool true/\I (j+(b.ords k o).length) U'/\U.frz.lg U')\/(v'=.bool false/\E U')) U:=by
 intro k
 induction k with
 |zero=>
  rintro o j U _ a2 V hb hn⟨a,cap,rfl,ho,ae,av⟩Y hI;have ba:=hb.cs.1;refine Qb.of (args:=[_,_,_,_]) K7 Qf S1 ?_
  repeat apply R1
  conv=>whnf
  intro b4 W L F;have F:Zj W b4 (QP (.slice a o.length cap) (Wx (b.ends o).1) (J0 (b.ends o).2)).toArray:=F;have z:=hn.lg L.lg.frz;refine⟨_,F.sees3 (o:=0) rfl,_,z.bk.sees3 (o:=1) rfl,?_⟩
  repeat apply R1
  conv=>whnf
  apply Qg<;>intro X
  .refine⟨_,z.yl.sees3 (o:=0) rfl,_,⟨rfl,F.reads (vs:=QP (.slice a o.length cap) (Wx (b.ends o).1) (J0 (b.ends o).2)) (λ k v hv=>by simpa using hv)⟩,?_⟩
   conv=>whnf
   have aw:=Y 0 o rfl;refine be j _ _ _ (List.getElem?_eq_some_iff.1 aw).1 ⟨o,_,aw,rfl,a,cap,rfl,ho.lg L.lg.frz2,ae,av⟩ (an _ _ _ L hI) (λ U2 ai K=>?_) (λ U2 hE=>?_)
   .repeat apply R1
    conv=>whnf
    exact .inl ⟨rfl,K,L.lg.frz2.trans ai⟩
   .repeat apply R1
    conv=>whnf
    exact .inr ⟨rfl,hE⟩
  .simp at X;omega
 |succ k ih=>
  rintro o j U _ a2 V hb hn⟨a,cap,rfl,ho,ae,av⟩Y hI;have ba:=hb.cs.1;have bg:=au.nc;have a4:Z5 o<2^60:=H6 λ x hx=>by have:=V x hx;omega
  have a6:∀n∈o.map (λ(k:Nat)=>(k:Int)),0<=n/\n<60:=by
   intro n hn;obtain⟨k,hk,rfl⟩:=mem_map.1 hn;have:=V k hk;omega
  refine Qb.of (args:=[_,_,_,_]) K7 Qf S1 ?_
  repeat apply R1
  conv=>whnf
  intro b4 W L F;have F:Zj W b4 (QP (.slice a o.length cap) (Wx (b.ends o).1) (J0 (b.ends o).2)).toArray:=F;have G:=L.lg.frz2;have z:=hn.lg L.lg.frz;refine⟨_,F.sees3 (o:=0) rfl,_,z.bk.sees3 (o:=1) rfl,?_⟩
  repeat apply R1
  conv=>whnf
  apply Qg<;>intro X
  .simp at X;omega
  clear X;have ab:=Z8 (S:=S) a o.length cap _ ((ho.lg G).lg Qr) O1 a6;rw[Og]at ab;refine⟨_,F.sees3 (o:=0) rfl,XL.any,ab.go λ _=>?_⟩;refine⟨_,z.bk.sees3 (o:=1) rfl,Nat,λ m=>[(1,.pb B),(2,.pb b2),(3,.pb b3),(4,.pb b4),(6,.int .i64 (Z5 o:Nat)),(25,.slice h.ca h.cl h.cc),(26,.int .i64 h.cl),(27,.int .i64 m)],
   λ m U'=>W.frz.lg U'/\m<=h.cl/\I (j+(b.ordsTo k o m).length) U',λ m=>h.cl-m,0,T1,⟨Qr,O1,an _ _ _ L hI⟩,?_⟩
  rintro m f U2⟨ai,hm,K⟩;have ap:Ja ((m:Int)+1):=I1
  have H:=b.ordsTo_succ k o m
  repeat apply R1
  conv=>whnf
  apply Qg<;>intro X
  .have hmt:m<h.cl:=by simpa using X
   obtain⟨ad,c,ga,gl,gc,aa,al,ac,hx,bb,bf,bd,-,-,ha,a7,a3⟩:=(hb.lg (G.trans ai)).case hmt;have a8:=Bk.aft1_at hx;have P:=au.toLow.lt a3;have N:b.can o m=(!o.contains m&&(Jf b.A m).all λ k=>o.contains k):=rfl;refine⟨ad,m,⟨bb,rfl,hmt⟩,_,⟨rfl,bd⟩,?_⟩
   conv=>whnf
   intro b8 bc;refine⟨_,.refl _,rfl,Zv (vs:=[.string c.nm,.int .i64 c.ag,.slice ga gl gc,.slice aa al ac]) bc rfl (by simp[Value.single]) λ U3 aj a0=>?_⟩;have w:W.frz.lg U3:=ai.trans aj.lg
   have skip:b.can o m=false->I (j+(b.ordsTo k o (m+1)).length) U3:=λ e=>by
    rw[H,e];simp only[Bool.false_eq_true,if_false,append_nil];exact an _ _ _ aj K
   have Z:=HI a4 (show m<60 by omega);rw[Wt]at Z;refine⟨O1,?_⟩
   repeat apply R1
   conv=>whnf
   apply Jt<;>intro X
   .have hno:o.contains m=false:=Z.symm.trans X;rw[hno]at N;have ak:=Z8 (S:=S) aa al ac c.af (ha.lg aj.lg) a7 P;have a9:Z5 (c.af.map Int.toNat)<2^60:=H6 (toNat_lt P);have key:_↔(Jf b.A m).all (λ k=>(Z5 o).testBit k)=true:=(Sd a9 a4).trans ((Sc P).trans (by rw[a8]))
    have a5:(Jf b.A m).all (λ k=>(Z5 o).testBit k)=(Jf b.A m).all λ k=>o.contains k:=by
     congr 1;funext k;exact Wt o k
    rw[a5]at key;refine⟨_,a0.sees3 (o:=3) rfl,XL.any,ak.go λ _=>?_⟩
    repeat apply R1
    conv=>whnf
    apply Qg<;>intro X
    .have hno2:b.can o m=false:=by
      rw[N];cases hh:(Jf b.A m).all (λ k=>o.contains k)with
      |false=>rfl
      |true=>exact absurd (key.2 hh) (bne_iff_ne.1 X)
     refine⟨ap,?_⟩
     conv=>whnf
     exact⟨rfl,m+1,T1,⟨w,O1,skip hno2⟩,L1⟩
    .have hyes:b.can o m=true:=by
      rw[N];have:(Jf b.A m).all (λ k=>o.contains k)=true:=key.1 (bne_eq_false_iff_eq.1 X);rw[this];rfl
     rw[hyes,if_pos rfl]at H;have ao:=z.lg w;have az:=F.imI w.imm;have ah:=b.ends_len o;refine⟨_,ao.nx.sees3 (o:=0) rfl,_,⟨rfl,ao.bk.rd⟩,?_⟩;refine⟨_,⟨rfl,az.reads (vs:=QP (.slice a o.length cap) (Wx (b.ends o).1) (J0 (b.ends o).2)) (λ k v hv=>by simpa using hv)⟩,?_⟩;refine⟨λ v U'=>Hp U'.frz v (o++[m]) (b.ends (o++[m])),λ v W U2 hv am=>hv.lg am.lg.frz2,λ U' am hC=>?_,λ v hv=>?_⟩
     .refine⟨OY.any,(DD h b (hb.lg ((G.trans w).trans am.lg)) au a cap o (b.ends o) (ho.lg ((G.trans w).trans am.lg)) av ae O1 ah.1 ah.2 m O1).mono ?_⟩;rintro v U''⟨hv,a1⟩-;exact⟨U'',.refl _,by rw[b.ends_snoc];exact hv,a1⟩
     obtain⟨_,-,-,a',c',rfl,-⟩:=hv
     conv=>whnf
     intro U4 ay hC;obtain⟨-,hv⟩:=hC;have Q:W.frz.lg U4:=w.trans ay.lg;obtain⟨r,hr⟩:=b.ordsTo_le k o (show m+1<=b.cs.length by omega);rw[H]at hr
     refine⟨K7.any,(ih (o++[m]) (j+(b.ordsTo k o m).length) U4 _ S3 (λ i hi=>by
      rcases mem_append.1 hi with hi|hi
      .exact V i hi
      .rw[mem_singleton.1 hi];omega) (hb.lg (G.trans (show W.frz.lg U4.frz from Q.frz2))) (z.lg Q) hv (λ i q hq=>by
       rw[Nat.add_assoc];refine Y _ q ?_;rw[hr,append_assoc,getElem?_append_right O1,Nat.add_sub_cancel_left,getElem?_append_left (List.getElem?_eq_some_iff.1 hq).1];exact hq) (an _ _ _ (aj.trans ay) K)).mono ?_⟩
     rintro v' U5 (⟨rfl,ax,aq⟩|⟨rfl,hE⟩) -
     .have hlg5:W.frz.lg U5:=(show W.frz.lg U4.frz from Q.frz2).trans aq
      repeat apply R1
      refine⟨ap,?_⟩
      conv=>whnf
      exact⟨rfl,m+1,T1,⟨hlg5,O1,by rw[H,length_append,<- Nat.add_assoc];exact ax⟩,L1⟩
     .repeat apply R1
      conv=>whnf
      exact .inr ⟨rfl,hE⟩
   .have hyes:o.contains m=true:=Z.symm.trans X;rw[hyes]at N
    repeat apply R1
    refine⟨ap,?_⟩
    conv=>whnf
    exact⟨rfl,m+1,T1,⟨w,O1,skip N⟩,L1⟩
  .have hge:m=b.cs.length:=by simp at X;omega
   subst hge
   repeat apply R1
   conv=>whnf
   exact .inl ⟨rfl,K,G.trans ai⟩
def Dz(h:BH)(b:Bk)(Z:Zq U.frz h b)(L:b.Ok)(hB:Zj U j #[.slice h.ra h.rl h.rc,.slice h.ca h.cl h.cc]) :
  Yc S 84 #[.func (.yield n) #[] #[],.pb j] n b.all.length (Gw b) U:=by
 intro I E N W h0;refine Qb.of (args:=[_,_]) OH Qf S1 ?_
 conv=>whnf
 intro b2 U1 P z;have z:Zj U1 b2 #[.func (.yield n) #[] #[]]:=z
 conv=>whnf
 intro b3 T;refine⟨_,.refl _,rfl,Zv (vs:=[.func (.func 85) #[] #[.pb j,.pb b2,.pb b3]]) T rfl (by simp[Value.single]) λ U2 G Q=>?_⟩;have F:=P.trans G;have V:GK U2 h n j b2 b3:=⟨hB.le F,z.le G,Q⟩;refine⟨_,V.nx.sees3 (o:=0) rfl,_,⟨rfl,V.bk.rd⟩,?_⟩;refine⟨SV (Wx b.ini.1),λ U' K _=>?_,?_⟩
 .refine⟨OV.any,(E0 h b ((Z.lg (F.trans K).lg.frz2).lg Qr) L.nr).mono ?_⟩;rintro _ U''⟨rfl,hU⟩-;exact⟨rfl,_,.refl _,hU▸.refl _⟩
 conv=>whnf
 intro Y H _;have w:=F.trans H;have X:J0 b.ini.2=0:=Ix _;have hv:Hp Y.frz (HL none 0 0 (Wx b.ini.1) 0) [] (b.ends []):=⟨none,0,by show _=HL none 0 0 (Wx b.ini.1) (J0 b.ini.2);rw[X],⟨rfl,λ i x hx=>by simp at hx⟩,Nat.le_refl _,S1⟩;refine⟨K7.any,(zo h b L N W b.cs.length [] 0 Y _ S1 S1 (Z.lg w.lg.frz2) (V.lg H.lg.frz) hv (λ i q hq=>by rw[Nat.zero_add];exact hq) (N _ _ _ w h0)).mono ?_⟩;rintro v' U4 (⟨rfl,f,-⟩|⟨rfl,hE⟩) -
 .repeat apply R1
  conv=>whnf
  exact .inl (by rw[Nat.zero_add]at f;exact f)
 .repeat apply R1
  conv=>whnf
  exact .inr hE
def DR(h:BH)(b:Bk)(E:Zq U h b):Qb S 59 #[h.v] (λ v U'=>(∃B,v=.func (.func 84) #[] #[.pb B]/\Zj U' B #[.slice h.ra h.rl h.rc,.slice h.ca h.cl h.cc])/\U.le U') U:=by
 refine Qb.of (args:=[_]) OB Qf S1 ?_
 repeat apply R1
 conv=>whnf
 intro B z f w
 repeat apply R1
 conv=>whnf
 exact⟨⟨B,rfl,w⟩,f⟩
def E5(a n:Nat):Qb S 83 #[.int .i64 a,.int .i64 n] (λ v U'=>v=.int .i64 (XZ a n)/\U'=U) U:=by
 refine Qb.of (args:=[_,_]) OG Qf S1 ?_
 repeat apply R1
 conv=>whnf
 apply Qg<;>intro b
 .have e:a=n:=by simp at b;omega
  repeat apply R1
  conv=>whnf
  exact⟨by unfold XZ;rw[if_pos e],rfl⟩
 have e:a≠n:=by simp at b;omega
 repeat apply R1
 conv=>whnf
 apply Qg<;>intro b
 .have e0:a=0:=by simp at b;omega
  repeat apply R1
  conv=>whnf
  exact⟨by unfold XZ;rw[if_neg e,if_pos e0],rfl⟩
 .have e0:a≠0:=by simp at b;omega
  repeat apply R1
  conv=>whnf
  exact⟨by unfold XZ;rw[if_neg e,if_neg e0],rfl⟩
def F_:X3 prog 41 4 1:=.of K1
def qO(a n:Nat)(V:a<2^60)(hn:n<60):Qb S 56 #[.int .i64 a,.int .i64 n] (λ v U'=>Acc 4 1 v ((range n).map λ k=>.bool (a.testBit k)) U'.M U.M/\(∀x o,U.I x=some o->U'.I x=some o)/\U'.tok=U.tok) U:=by
 refine Qb.of (args:=[_,_]) Uu Qf S1 ?_
 repeat apply R1
 refine⟨Nat×Value,λ y=>[(0,.int .i64 a),(5,y.2),(7,.int .i64 n),(8,.int .i64 y.1)],
  λ y U'=>(∀x o,U.I x=some o->U'.I x=some o)/\U'.tok=U.tok/\Acc 4 1 y.2 ((range y.1).map λ k=>.bool (a.testBit k)) U'.M U.M/\y.1<=n,λ y=>n-y.1,(0,.nl),T1,⟨λ _ _ h=>h,rfl,.nil,O1⟩,?_⟩
 rintro⟨i,v⟩f T⟨N,Q,b,W⟩;simp only at b W;obtain⟨sa,sl,sc,rfl,X,-⟩:=Acc.src (U:=T) b;have K:Ja ((i:Int)+1):=I1
 repeat apply R1
 conv=>whnf
 apply Qg<;>intro P
 .have hlt:i<n:=by simpa using P
  have E:=HI V (show i<60 by omega);refine⟨O1,rfl,rfl,?_⟩
  conv=>whnf
  intro G F;refine Zi F λ L B w=>?_;have w:Zj L G #[.bool (a.testBit i)]:=by rw[<- E];exact w
  conv=>whnf
  refine Wn (v:=.slice sa sl sc) (cs:=(range i).map λ k=>.bool (a.testBit k)) (new:=[.bool (a.testBit i)]) (M₀:=U.M) F_ rfl rfl (by rw[B.own];exact b) (.inr ⟨_,rfl,w.rd⟩) rfl (by simp[Value.single]) S3 λ v' M' H _=>?_;have z:Acc 4 1 v' ((range (i+1)).map λ k=>.bool (a.testBit k)) M' U.M:=by rw[range_succ,map_append];exact H
  obtain⟨Y,Z,tc,rfl,-,-⟩:=Acc.src (U:={ L with M:=M' }) z;refine⟨K,?_⟩
  conv=>whnf
  exact⟨rfl,(i+1,.slice Y Z tc),T1,⟨λ x o h=>B.imm x o (N x o h),B.tok.trans Q,z,by show i+1<=n;omega⟩,L1⟩
 .have hge:i=n:=by simp at P;omega
  subst hge
  repeat apply R1
  conv=>whnf
  exact⟨b,N,Q⟩
