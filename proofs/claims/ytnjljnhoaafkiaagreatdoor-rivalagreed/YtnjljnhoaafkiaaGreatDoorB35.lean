/- Lemmas. No conditions. -/
import Derived.Test.YtnjljnhoaafkiaaGreatDoorB33
import Derived.Test.YtnjljnhoaafkiaaGreatDoorB02
set_option linter.all false
set_option maxRecDepth 100000
set_option maxHeartbeats 1000000
open List
open Go.Proofs.Tryz (prog)
namespace Go.TM
open Go.Proofs
def Qf:prog.follows .mixedOrders=true:=K1
variable{T α:Type}{S:Sys prog T}{p:α->Bool}{l':List α}{i:Nat}{M:α}{U:Qa T}
section
attribute [local irreducible] Qb Zm Wo
def Wq(U:Qa T)(n a b:Int):Qb S 54 #[.int .i64 n,.int .i64 a,.int .i64 b] (λ v U'=>v=.bool (QP n a b)/\U'=U) U:=by
 refine Qb.of (args:=[_,_,_]) Gh Qf S1 ?_
 repeat apply R1
 conv=>whnf
 apply Jt<;>intro f
 .repeat apply R1
  conv=>whnf
  exact⟨by unfold QP;rw[f];rfl,rfl⟩
 .repeat apply R1
  conv=>whnf
  exact⟨by unfold QP;rw[f];rfl,rfl⟩
def Zkn(U:Qa T)(n a b:Int):Qb S 49 #[.int .i64 n,.int .i64 a,.int .i64 b] (λ v U'=>v=.bool (QP n a b)/\U'=U) U:=by
 refine Qb.of (args:=[_,_,_]) x_ Qf S1 ?_
 repeat apply R1
 conv=>whnf
 apply Jt<;>intro f
 .repeat apply R1
  conv=>whnf
  exact⟨by unfold QP;rw[f];rfl,rfl⟩
 .repeat apply R1
  conv=>whnf
  exact⟨by unfold QP;rw[f];rfl,rfl⟩
def WXq(S:TM.Sys prog T)(U:Qa T)(g:FuncId)(first b:Array Value)(enc:α->Value)(l:List α)(p:α->Bool):Prop:=
 (prog.funcs[g]?.any λ fd=>fd.body.isSome&&fd.name != "runtime.NumGoroutine")=true/\∀x∈l,Qb S g (first.toList++[enc x]++b.toList).toArray (λ v U'=>v=.bool (p x)/\U'=U) U
def XE(p:α->Bool)(l:List α):Int:=match l.findIdx? p with|some i=>i|none=>-1
def VT(h:∀x∈l',p x=false):XE p l' = -1:=by
 unfold XE;rw[findIdx?_eq_none_iff.2 h]
def VU(hx:l'[i]?=some M)(hp:p M=true)(h:∀y∈l'.take i,p y=false):XE p l'=i:=by
 unfold XE
 have:l'.findIdx? p=some i:=by
  obtain⟨b,rfl⟩:=List.getElem?_eq_some_iff.1 hx;rw[findIdx?_eq_some_iff_getElem];refine⟨b,hp,λ j f=>?_⟩
  have hm:l'[j]' O1∈l'.take i:=by
   rw[mem_take_iff_getElem];exact⟨j,O1,rfl⟩
  simpa using h _ hm
 rw[this]
def Y9:decide (XE p l' ≥ 0)=l'.any p:=by
 unfold XE;cases h:l'.findIdx? p with
 |none=>
  rw[findIdx?_eq_none_iff]at h;have:l'.any p=false:=by rw[any_eq_false];intro x hx;simp[h x hx]
  rw[this];rfl
 |some i=>
  have:l'.any p=true:=by
   rw[findIdx?_eq_some_iff_getElem]at h;obtain⟨b,hp,_⟩:=h;exact any_eq_true.2 ⟨l'[i],S1,hp⟩
  rw[this];simp
def zF(enc:α->Value)(a:Option Addr)(len cap:Nat)(l:List α)(hl:l.length=len)(F:∀i x,l[i]?=some x->∃B,a=some B/\B.spot=none/\U.sees (B.add (i*1)) (enc x))(G:∀x,∃k n,enc x=.int k n)(H:len<2^60)(g:FuncId)(first h:Array Value)(p:α->Bool)
  (hf:WXq S U g first h enc l p):Qb S 173 #[.slice a len cap,.func (.func g) first h] (λ v U'=>v=.int .i64 (XE p l)/\U'=U) U:=by
 refine Qb.of (args:=[_,_]) FV Qf S1 ?_
 repeat apply R1
 refine⟨Nat,λ i=>[(0,.slice a len cap),(1,.func (.func g) first h),(6,.slice a len cap),(7,.int .i64 len),(8,.int .i64 i)],
  λ i U'=>U'=U/\i<=len/\∀x∈l.take i,p x=false,λ i=>len-i,0,T1,⟨rfl,O1,S1⟩,?_⟩
 rintro i f _⟨rfl,hi,b⟩
 repeat apply R1
 conv=>whnf
 apply Qg<;>intro E
 .have hlt:i<len:=by simpa using E
  have hx:l[i]?=some (l[i]' O1):=S1
  generalize l[i]' O1=x at hx;obtain⟨B,rfl,L,I⟩:=F i x hx;obtain⟨k,n,K⟩:=G x;have w:=hf.2 x (mem_of_getElem? hx);rw[K]at w I;refine⟨B,i,⟨rfl,rfl,hlt⟩,_,I,hf.1,w.mono ?_⟩;rintro v U'⟨rfl,rfl⟩-
  conv=>whnf
  apply Qg<;>intro E
  .repeat apply R1
   conv=>whnf
   exact⟨by rw[VU hx E b],rfl⟩
  .refine⟨I1,?_⟩;refine⟨rfl,i+1,T1,⟨rfl,O1,?_⟩,L1⟩;intro y hy;rw[Wf hx,mem_append]at hy;rcases hy with hy|hy
   .exact b y hy
   .simp at hy;subst hy;exact E
 .have hge:len<=i:=by simpa using E
  repeat apply R1
  refine⟨?_,rfl⟩;rw[take_of_length_le O1]at b;rw[VT b]
def zG(enc:α->Value)(a:Option Addr)(len cap:Nat)(l:List α)(hl:l.length=len)(F:∀i x,l[i]?=some x->∃B,a=some B/\B.spot=none/\U.sees (B.add (i*1)) (enc x))(G:∀x,∃k n,enc x=.int k n)(H:len<2^60)(g:FuncId)(first h:Array Value)(p:α->Bool)
  (hf:WXq S U g first h enc l p):Qb S 68 #[.slice a len cap,.func (.func g) first h] (λ v U'=>v=.int .i64 (XE p l)/\U'=U) U:=by
 refine Qb.of (args:=[_,_]) UT Qf S1 ?_
 repeat apply R1
 refine⟨Nat,λ i=>[(0,.slice a len cap),(1,.func (.func g) first h),(6,.slice a len cap),(7,.int .i64 len),(8,.int .i64 i)],
  λ i U'=>U'=U/\i<=len/\∀x∈l.take i,p x=false,λ i=>len-i,0,T1,⟨rfl,O1,S1⟩,?_⟩
 rintro i f _⟨rfl,hi,b⟩
 repeat apply R1
 conv=>whnf
 apply Qg<;>intro E
 .have hlt:i<len:=by simpa using E
  have hx:l[i]?=some (l[i]' O1):=S1
  generalize l[i]' O1=x at hx;obtain⟨B,rfl,L,I⟩:=F i x hx;obtain⟨k,n,K⟩:=G x;have w:=hf.2 x (mem_of_getElem? hx);rw[K]at w I;refine⟨B,i,⟨rfl,rfl,hlt⟩,_,I,hf.1,w.mono ?_⟩;rintro v U'⟨rfl,rfl⟩-
  conv=>whnf
  apply Qg<;>intro E
  .repeat apply R1
   conv=>whnf
   exact⟨by rw[VU hx E b],rfl⟩
  .refine⟨I1,?_⟩;refine⟨rfl,i+1,T1,⟨rfl,O1,?_⟩,L1⟩;intro y hy;rw[Wf hx,mem_append]at hy;rcases hy with hy|hy
   .exact b y hy
   .simp at hy;subst hy;exact E
 .have hge:len<=i:=by simpa using E
  repeat apply R1
  refine⟨?_,rfl⟩;rw[take_of_length_le O1]at b;rw[VT b]
def zm(a:Option Addr)(len cap:Nat)(l:List Int)(hl:Z6 U a len l)(w:len<2^60)(n:Int) :
  Qb S 69 #[.slice a len cap,.int .i64 n] (λ v U'=>v=.int .i64 (XE (λ y=>n==y) l)/\U'=U) U:=by
 refine Qb.of (args:=[_,_]) UW Qf S1 ?_;have E:=hl.1
 repeat apply R1
 refine⟨Nat,λ i=>[(0,.slice a len cap),(1,.int .i64 n),(6,.slice a len cap),(7,.int .i64 len),(8,.int .i64 i)],
  λ i U'=>U'=U/\i<=len/\∀x∈l.take i,(n==x)=false,λ i=>len-i,0,T1,⟨rfl,O1,S1⟩,?_⟩
 rintro i f _⟨rfl,hi,b⟩
 repeat apply R1
 conv=>whnf
 apply Qg<;>intro h
 .have hlt:i<len:=by simpa using h
  obtain⟨B,x,hx,rfl,G,F⟩:=hl.at hlt;refine⟨B,i,⟨rfl,rfl,hlt⟩,_,F,?_⟩
  repeat apply R1
  conv=>whnf
  apply Qg<;>intro h
  .repeat apply R1
   conv=>whnf
   exact⟨by rw[VU (p:=λ y=>n==y) hx h b],rfl⟩
  .refine⟨I1,?_⟩;refine⟨rfl,i+1,T1,⟨rfl,O1,?_⟩,L1⟩;intro y hy;rw[Wf hx,mem_append]at hy;rcases hy with hy|hy
   .exact b y hy
   .simp at hy;subst hy;exact h
 .have hge:len<=i:=by simpa using h
  repeat apply R1
  refine⟨?_,rfl⟩;rw[take_of_length_le O1]at b;rw[VT b]
def DE(a:Option Addr)(len cap:Nat)(l:List Int)(hl:Z6 U a len l)(b:len<2^60)(n:Int) :
  Qb S 37 #[.slice a len cap,.int .i64 n] (λ v U'=>v=.bool (l.contains n)/\U'=U) U:=by
 refine Qb.of (args:=[_,_]) OP Qf S1 ?_;refine⟨UW.any,(zm a len cap l hl b n).mono ?_⟩;rintro v U'⟨rfl,rfl⟩-
 repeat apply R1
 refine⟨?_,rfl⟩;show Value.bool _=_;rw[Y9];congr 1;rw[Bool.eq_iff_iff];simp
end
def GD(c:UInt8):Bool:=(decide ((c.toNat:Int)<97)|| decide ((c.toNat:Int) > 122))&&(decide ((c.toNat:Int)<48)|| decide ((c.toNat:Int) > 57))
section
attribute [local irreducible] Qb Zm
def ze(c:UInt8):Qb S 197 #[.int .u8 c.toNat] (λ v U'=>v=.bool (GD c)/\U'=U) U:=by
 refine Qb.of (args:=[_]) F_ Qf S1 ?_;have b:GD c=((decide ((c.toNat:Int)<97)|| decide ((c.toNat:Int) > 122))&&(decide ((c.toNat:Int)<48)|| decide ((c.toNat:Int) > 57))):=rfl
 repeat apply R1
 conv=>whnf
 apply Jt<;>intro f
 .repeat apply R1
  conv=>whnf
  apply Jt<;>intro f
  .repeat apply R1
   conv=>whnf
   apply Jt<;>intro f
   .repeat apply R1
    conv=>whnf
    exact⟨by rw[b];first|(simp_all;done)|(simp_all;omega),rfl⟩
   .repeat apply R1
    conv=>whnf
    exact⟨by rw[b];first|(simp_all;done)|(simp_all;omega),rfl⟩
  .repeat apply R1
   conv=>whnf
   exact⟨by rw[b];first|(simp_all;done)|(simp_all;omega),rfl⟩
 .repeat apply R1
  conv=>whnf
  apply Jt<;>intro f
  .repeat apply R1
   conv=>whnf
   exact⟨by rw[b];first|(simp_all;done)|(simp_all;omega),rfl⟩
  .repeat apply R1
   conv=>whnf
   exact⟨by rw[b];first|(simp_all;done)|(simp_all;omega),rfl⟩
end
def Zg(s:ByteArray):Bool:=QP s.size 1 10&&((match s.data.toList with|c::_=>!(decide ((c.toNat:Int)<97))&&!(decide ((c.toNat:Int) > 122))|[]=>false)&&!(s.data.toList.any GD))
variable{s:ByteArray}{ζ:UInt8}{γ:List UInt8}
section
attribute [local irreducible] Qb Zm
def Cd(a:Option Addr)(len cap:Nat)(l:List UInt8)(hl:l.length=len)(h:∀(i:Nat)x,l[i]?=some x->∃f,a=some f/\f.spot=none/\U.sees (f.add (i*1)) (.int .u8 x.toNat))(b:len<2^60) :
  Qb S 159 #[.slice a len cap,.func (.func 197) #[] #[]] (λ v U'=>v=.bool (l.any GD)/\U'=U) U:=by
 refine Qb.of (args:=[_,_]) FU Qf S1 ?_;refine⟨FV.any,(zF (λ c:UInt8=>.int .u8 c.toNat) a len cap l hl h (λ x=>⟨_,_,rfl⟩) b 197 #[] #[] GD ⟨F_.any,λ x _=>ze x⟩).mono ?_⟩;rintro v U'⟨rfl,rfl⟩-
 repeat apply R1
 refine⟨?_,rfl⟩;show Value.bool _=_;rw[Y9]
def gZ:prog.underlying 9=some .string:=K1
def wC:prog.underlying 135=some (.slice 5):=K1
def gq:prog.underlying 5=some (.int .u8):=K1
def M6(h:s.data.toList=ζ::γ):s[0]?=some ζ:=by
 have h1:s.data[0]?=some ζ:=by rw[<- Array.getElem?_toList,h];rfl
 obtain⟨b,f⟩:=Array.getElem?_eq_some_iff.1 h1;rw[getElem?_pos s 0 (by simpa using b)];exact congrArg some f
def qL(s:ByteArray)(G:s.size<2^60):Qb S 196 #[.string s] (λ v U'=>v=.bool (Zg s)/\U'=U) U:=by
 refine Qb.pure' (Qb.of (args:=[_]) FZ Qf S1 ?_);have w:s.size=s.data.toList.length:=by rw[Array.length_toList];rfl
 refine⟨Gh.any,(Wq _ _ _ _).mono ?_⟩;rintro v U'⟨rfl,rfl⟩-
 conv=>whnf
 apply Jt<;>intro f
 .have hb:QP (s.size:Int) 1 10=true:=by simpa using f
  cases h:s.data.toList with
  |nil=>rw[w,h]at hb;simp[QP]at hb
  |cons c r=>
   have F:Zg s=(!(decide ((c.toNat:Int)<97))&&!(decide ((c.toNat:Int) > 122))&&!((c::r).any GD)):=by unfold Zg;rw[hb,h];rfl
   refine⟨0,c,⟨rfl,M6 h⟩,?_⟩
   repeat apply R1
   conv=>whnf
   apply Jt<;>intro f
   .have h1:decide ((c.toNat:Int)<97)=false:=by simpa using f
    refine⟨0,c,⟨rfl,M6 h⟩,?_⟩
    repeat apply R1
    conv=>whnf
    apply Qg<;>intro f
    .repeat apply R1
     conv=>whnf
     exact⟨by rw[F,f];simp,Qa.le.lg (.refl _)⟩
    .conv=>whnf
     refine xA gZ wC gq rfl λ b cap cs fr B E=>?_;refine⟨FU.any,(Cd (some ⟨b,0,none⟩) s.size cap (c::r) (by rw[w,h]) (λ i x hx=>⟨_,rfl,rfl,?_⟩) G).mono ?_⟩
     .rw[Qo];refine⟨rfl,.inl ⟨cs,5,fr,.inl (by simp[JD]),?_⟩⟩;have:=E i x (by rw[<- Array.getElem?_toList,h];exact hx);simpa using this
     rintro v U''⟨rfl,rfl⟩-
     repeat apply R1
     refine⟨?_,(Gv B).lg⟩;show Value.bool _=_;rw[F,h1,f];simp
   .have h1:decide ((c.toNat:Int)<97)=true:=by simpa using f
    repeat apply R1
    conv=>whnf
    exact⟨by rw[F,h1];rfl,Qa.le.lg (.refl _)⟩
 .have hb:QP (s.size:Int) 1 10=false:=by simpa using f
  repeat apply R1
  conv=>whnf
  exact⟨by unfold Zg;rw[hb];rfl,Qa.le.lg (.refl _)⟩
end
variable{v:Value}{l:List Int}{M₀:List Qw}
def SF(h:Acc 3 1 v (l.map λ n=>.int .i64 n) U.M M₀):∃a cap,v=.slice a l.length cap/\Z6 U a l.length l:=by
 obtain⟨a,len,cap,rfl,hl,E⟩:=h.src;simp at hl;subst hl;refine⟨a,cap,rfl,rfl,λ i x hx=>?_⟩;rcases h with⟨h1,h2,_⟩|⟨b,c,len,cap',h1,h2,w,B,f,h5⟩
 .rw[map_eq_nil_iff]at h2;subst h2;simp at hx
 .cases h1;refine⟨_,rfl,rfl,?_⟩;rw[Qo];exact⟨rfl,.inl ⟨c,3,(0,0),.inr (by rw[f];exact mem_cons_self ..),by simpa using h5 i (.int .i64 x) (by simp[hx])⟩⟩
section
attribute [local irreducible] Qb Zm Wo
def H4:X7 prog 29 3 1:=.of K1
def Px:prog.underlying 29=some (.slice 3):=K1
def DY(a:Option Addr)(len cap:Nat)(l:List Int)(hl:Z6 U a len l)(G:len<=1000000) :
  Qb S 34 #[.slice a len cap] (λ v U'=>Acc 3 1 v (l.map λ n=>.int .i64 n) U'.M U.M/\(∀x o,U.I x=some o->U'.I x=some o)/\U'.tok=U.tok) U:=by
 refine Qb.of (args:=[_]) PB Qf S1 ?_;have B:=hl.1
 conv=>whnf
 refine K6 Px rfl ?_
 conv=>whnf
 apply Qg<;>intro F
 .have ha:a=none:=by simpa using F
  subst ha
  have:l=[]:=by
   cases l with
   |nil=>rfl
   |cons x r=>obtain⟨b,h,_⟩:=hl.2 0 x rfl;cases h
  subst this
  repeat apply R1
  conv=>whnf
  exact⟨.nil,λ _ _ h=>h,rfl⟩
 .obtain⟨b,rfl⟩:∃b,a=some b:=by cases a with|none=>cases F|some b=>exact⟨b,rfl⟩
  conv=>whnf
  intro E L;refine⟨_,.refl _,?_⟩
  conv=>whnf
  refine Wn (v:=.slice (some ⟨E,0,none⟩) 0 0) (cs:=[]) (new:=l.map λ n=>.int .i64 n) (M₀:=U.M) H4 rfl rfl .empty (.inr ⟨_,rfl,λ i v w=>?_⟩) (by simp[B]) Zz1 S3 λ Q M' f _=>?_
  .rw[getElem?_map]at w;cases hx:l[i]? with
   |none=>rw[hx]at w;cases w
   |some x=>
    rw[hx]at w;cases w;obtain⟨K,e,_,H⟩:=hl.2 i x hx;cases e;rw[Nat.mul_one]at H;exact H.lg (Z2 E _)
  obtain⟨N,P,tc,rfl,-,-⟩:=Acc.src (U:={ U with M:=M' }) f
  repeat apply R1
  conv=>whnf
  exact⟨by simpa using f,λ _ _ h=>h,rfl⟩
end
variable{b:Nat}{c:Array Value}{t e:TypeId}{Q:Qa T->Prop}{vs:List Value}{W:Nat->Option Obj}{η:T}{o:List α}{V:α}
def Zl(hf:U.free b)(h:∀f,U.le f->Zi f b c->Q f):∃f,Qv (U.put b (.cells c t)) f/\Q f:=
 ⟨_,Wa (b:=b) (M':=U.M) (Perm.refl _),h _ (Gv hf) Zi.new⟩
def HO(f:c.size=vs.length)(B:∀v∈vs,v.single=true)(h:Q (U.put b (.cells vs.toArray t))) :
  QX ⟨b,0,none⟩ vs 0 (λ U'=>∃w,Qv U' w/\Q w) (U.put b (.cells c t)):=by
 refine H7 vs 0 c _ rfl B O1 ?_;rw[Pm f];exact⟨_,.refl _,h⟩
def vy(hf:U.free b)(hi:i<c.size)(w:v.single=true)(h:∀f,U.le f->Zi f b (c.setIfInBounds i v)->Q f) :
  QX ((Addr.mk b 0 none).add i) [v] 0 (λ U'=>∃f,Qv U' f/\Q f) (U.put b (.cells c t)):=by
 rw[Qo];refine H7 [v] 0 c _ rfl (by simpa using w) S3 ?_;simp only[ZU,Nat.zero_add,Nat.add_zero];exact Zl hf h
def Zms(B:U.M=.obj b (.cells c e (0,0))::M₀)(f:c.size=vs.length)(E:∀v∈vs,v.single=true)
  (h:Q { U with M:=.obj b (.cells vs.toArray e (0,0))::M₀ }):QX ⟨b,0,none⟩ vs 0 (λ U'=>∃w,Qv U' w/\Q w) U:=by
 refine H7 vs 0 c U B E O1 ?_;rw[Pm f];exact⟨_,.refl _,h⟩
def Zkv:Je (⟨W,.obj b (.cells vs.toArray e (0,0))::M₀,η⟩:Qa T) ⟨b,0,none⟩ vs:=
 Fo (M₀:=M₀) rfl λ i x h=>by simpa using h
def Vi(hx:o[i]?=some M)(hy:l'[i]?=some V)(h:o.take i=l'.take i)(e:M=V):o.take (i+1)=l'.take (i+1):=by
 rw[Wf hx,Wf hy,h,e]
def KY(hx:o[i]?=some M)(hy:l'[i]?=some V)(e:M≠V):o≠l':=by
 rintro rfl;exact e (Option.some.inj (hx.symm.trans hy))
section
attribute [local irreducible] Qb Zm Wo
def P0(a a':Option Addr)(len cap b cap':Nat)(l l':List Int)(hl:Z6 U a len l)(hl':Z6 U a' b l')(K:len<2^60) :
  Qb S 12 #[.slice a len cap,.slice a' b cap'] (λ v U'=>v=.bool (decide (l=l'))/\U'=U) U:=by
 refine Qb.pure' (Qb.of (args:=[_,_]) Gf Qf S1 ?_);have h1:=hl.1;have h2:=hl'.1
 repeat apply R1
 conv=>whnf
 apply Qg<;>intro B
 .have hne:len≠b:=by intro e;subst e;simp at B
  repeat apply R1
  refine⟨?_,(Qa.le.refl _).lg⟩;rw[decide_eq_false (λ e=>hne (by rw[<- h1,<- h2,e]))]
 have G:len=b:=Int.ofNat.inj (by simpa using B:(len:Int)=b);subst G;refine⟨Nat,λ i=>[(0,.slice a len cap),(1,.slice a' len cap'),(5,.int .i64 i)],λ i U'=>U.le U'/\i<=len/\l.take i=l'.take i,λ i=>len-i,0,T1,⟨.refl _,O1,rfl⟩,?_⟩;rintro i f N⟨h,hi,E⟩
 repeat apply R1
 conv=>whnf
 apply Qg<;>intro B
 .have hlt:i<len:=by simpa using B
  obtain⟨L,x,hx,rfl,-,M⟩:=(hl.lg h.lg).at hlt;obtain⟨F,y,hy,rfl,-,I⟩:=(hl'.lg h.lg).at hlt;have H:Z9 (i+1):=I1
  refine⟨L,i,⟨rfl,rfl,hlt⟩,_,M,F,i,⟨rfl,rfl,hlt⟩,_,I,?_⟩
  conv=>whnf
  intro P w _
  repeat apply R1
  conv=>whnf
  apply Qg<;>intro B
  .have hne:x≠y:=by simpa using B
   repeat apply R1
   conv=>whnf
   exact⟨by rw[decide_eq_false (KY hx hy hne)],(h.trans w).lg⟩
  .have hxy:x=y:=by simpa using B
   refine⟨H,?_⟩
   conv=>whnf
   exact⟨rfl,i+1,T1,⟨h.trans w,O1,Vi hx hy E hxy⟩,L1⟩
 .have hge:len<=i:=by simpa using B
  rw[take_of_length_le O1,take_of_length_le O1]at E
  repeat apply R1
  conv=>whnf
  exact⟨by rw[decide_eq_true E],h.lg⟩
end
variable{j:Nat}{y:Int}
def Hr(l:List Int)(i j:Nat):Prop:=(∀p q x y,p<q->q<=i->p≠j->q≠j->l[p]?=some x->l[q]?=some y->x<=y)/\(∀q x y,j<q->q<=i->l[j]?=some x->l[q]?=some y->x<=y)
def Xc(l:List Int)(i:Nat):Prop:=∀p q x y,p<q->q<i->l[p]?=some x->l[q]?=some y->x<=y
def Hr.start(h:Xc l i):Hr l i i:=
 ⟨λ p q x y h1 h2 _ b hx hy=>h p q x y h1 O1 hx hy,λ q x y h1 h2=>O1⟩
def Hr.done(h:Hr l i j)(G:j<=i)(E:j=0\/∃x y,l[j]?=some x/\l[j-1]?=some y/\y<=x):Xc l (i+1):=by
 intro p q x y b H hx hy;by_cases e:q=j
 .subst e;rcases E with E|⟨I,F,B,f,w⟩
  .omega
  .rw[B]at hy;cases hy;by_cases e':p=q-1
   .subst e';rw[f]at hx;cases hx;exact w
   .have:=h.1 p (q-1) x F O1 O1 O1 O1 hx f;omega
 .by_cases e':p=j
  .subst e';exact h.2 q x y b O1 hx hy
  .exact h.1 p q x y b O1 e' e hx hy
def Hr.step{x:Int}(h:Hr l i j)(L:j<=i)(K:0<j)(hx:l[j]?=some x)(hy:l[j-1]?=some y)(I:x<y):Hr ((l.set j y).set (j-1) x) i (j-1):=by
 have w:j<l.length:=(Zz4 hx)
 have get:∀k,((l.set j y).set (j-1) x)[k]?=if k=j-1 then some x else if k=j then some y else l[k]?:=by
  intro k;rw[getElem?_set,getElem?_set];by_cases e:j-1=k
  .subst e;rw[if_pos rfl,if_pos S3,if_pos rfl]
  .have e2:¬k=j-1:=λ h=>e h.symm;rw[if_neg e,if_neg e2];by_cases e':j=k
   .subst e';rw[if_pos rfl,if_pos w,if_pos rfl]
   .have e3:¬k=j:=λ h=>e' h.symm;rw[if_neg e',if_neg e3]
 refine⟨λ p q u v E F B G f b=>?_,λ q u v F H f b=>?_⟩
 .rw[get,if_neg B]at f;rw[get,if_neg G]at b;by_cases e:p=j
  .subst e;rw[if_pos rfl]at f;cases f;rw[if_neg O1]at b;exact h.1 (p-1) q y v O1 F O1 O1 hy b
  .rw[if_neg e]at f;by_cases e':q=j
   .subst e';rw[if_pos rfl]at b;cases b;exact h.1 p (q-1) u y O1 O1 O1 O1 f hy
   .rw[if_neg e']at b;exact h.1 p q u v E F e e' f b
 .rw[get,if_pos rfl]at f;cases f;rw[get,if_neg O1]at b;by_cases e:q=j
  .subst e;rw[if_pos rfl]at b;cases b;omega
  .rw[if_neg e]at b;exact h.2 q x v O1 H hx b
variable{n:Nat}{X:UInt8->Prop}
section
attribute [local irreducible] Qb Zm Wo
def MU(n:Int):Qb S 106 #[.int .i64 n] (λ v U'=>v=.bool false/\U'=U) U:=by
 refine Qb.pure' (Qb.of (args:=[_]) Fw Qf S1 ?_)
 repeat apply R1
 conv=>whnf
 exact⟨S1,(Qa.le.refl _).lg⟩
def zI(a b:Int):Qb S 144 #[.int .i64 a,.int .i64 b] (λ v U'=>v=.bool (decide (a<b))/\U'=U) U:=by
 refine Qb.pure' (Qb.of (args:=[_,_]) FP Qf S1 ?_);refine⟨Fw.any,(MU a).mono ?_⟩;rintro _ U'⟨rfl,rfl⟩-
 repeat apply R1
 conv=>whnf
 exact(Qa.le.refl _).lg
def vu(h:n<s.size)(f:∀c,X c):∃(j:Nat)(b:UInt8),((n:Int)=j/\s[j]?=some b)/\X b:=
 ⟨n,_,⟨rfl,getElem?_pos s n h⟩,f _⟩
def zA(n:Nat)(w:n<256):Qb S 148 #[.int .u64 n] (λ v U'=>(∃m,v=.int .i64 m)/\U'=U) U:=by
 refine Qb.pure' (Qb.of (args:=[_]) FQ Qf S1 ?_)
 repeat apply R1
 conv=>whnf
 apply Qg<;>intro b
 .simp at b;omega
 repeat apply R1
 conv=>whnf
 apply Qg<;>intro b
 .simp at b;omega
 repeat apply R1
 conv=>whnf
 apply Qg<;>intro b
 .simp at b;omega
 conv=>whnf
 have B:IntKind.wrap .u8 (n:Int)=n:=by
  have h:(2:Int)^8=256:=D1
  simp only[IntKind.wrap,IntKind.bits,IntKind.signed,Bool.false_and,h];simp;omega
 rw[B];refine vu (by exact w) λ c=>?_;have b:=c.toNat_lt;have f:IntKind.wrap .i64 (c.toNat:Int)=c.toNat:=Gl I1
 conv=>whnf
 rw[f];refine⟨I1,?_⟩
 conv=>whnf
 exact⟨⟨_,rfl⟩,(Qa.le.refl _).lg⟩
end
variable{F:Int}
def Yc(f:U.M=.obj b (.cells c e (0,0))::M₀)(h:c[i]?=some v):U.sees ((Addr.mk b 0 none).add (i*1)) v:=by
 rw[Nat.mul_one,Qo];exact⟨rfl,.inl ⟨c,e,(0,0),.inr (by rw[f];exact mem_cons_self ..),by simpa using h⟩⟩
def Xc.le(h:Xc l i)(b:j<=i):Xc l j:=λ p q x y h1 h2=>h p q x y h1 O1
def HP(c:Array Value)(l:List Int):Prop:=∀(k:Nat)(x:Int),l[k]?=some x->c[k]?=some (.int .i64 x)
def HP.set{c:Array Value}{l:List Int}(h:HP c l)(hl:l.length<=c.size)(i:Nat)(x:Int):HP (c.setIfInBounds i (.int .i64 x)) (l.set i x):=by
 intro k y hy;rw[getElem?_set]at hy;by_cases e:i=k
 .subst e;rw[if_pos rfl]at hy;split at hy
  .cases hy;rw[Array.getElem?_setIfInBounds_self_of_lt O1]
  .cases hy
 .rw[if_neg e]at hy;rw[Array.getElem?_setIfInBounds_ne e];exact h k y hy
def xL(b:0<j)(hx:l[j]?=some F)(hy:l[j-1]?=some y):((l.set j y).set (j-1) F).Perm l:=by
 obtain⟨h1,rfl⟩:=List.getElem?_eq_some_iff.1 hx;obtain⟨h2,rfl⟩:=List.getElem?_eq_some_iff.1 hy;exact set_set_perm h1 h2
section
attribute [local irreducible] Qb Zm Wo
def zn(b cap:Nat)(l:List Int)(L:Array Value)(M₀:List Qw)(aa:U.M=.obj b (.cells L 3 (0,0))::M₀)(ah:l.length<=cap)(ae:L.size=cap)(ac:HP L l)(hn:l.length<2^40) :
  Qb S 138 #[.slice (some ⟨b,0,none⟩) l.length cap,.int .i64 0,.int .i64 l.length] (λ _ U'=>(∀x o,U.I x=some o->U'.I x=some o)/\U'.tok=U.tok/\∃l' c',l'.Perm l/\Xc l' l.length/\U'.M=.obj b (.cells c' 3 (0,0))::M₀/\c'.size=cap/\HP c' l') U:=by
 refine Qb.of (args:=[_,_,_]) VZ Qf S1 ?_
 repeat apply R1
 refine⟨I1,?_⟩
 refine⟨Nat×List Int×Array Value,λ y=>[(0,.slice (some ⟨b,0,none⟩) l.length cap),(1,.int .i64 0),(2,.int .i64 l.length),(6,.int .i64 y.1)],
  λ y U'=>(∀x o,U.I x=some o->U'.I x=some o)/\U'.tok=U.tok/\U'.M=.obj b (.cells y.2.2 3 (0,0))::M₀/\y.2.2.size=cap/\HP y.2.2 y.2.1/\y.2.1.Perm l/\Xc y.2.1 y.1/\1<=y.1/\y.1<2^41,
  λ y=>l.length-y.1,(1,l,L),T1,⟨λ _ _ h=>h,rfl,aa,ae,ac,.refl _,λ p q _ _ h1 h2=>O1,Zz2,Zz2⟩,?_⟩
 rintro⟨i,w,c⟩f U1⟨Y,ht,N,H,B,G,X,K,ag⟩;simp only at N H B G X K ag
 repeat apply R1
 conv=>whnf
 apply Qg<;>intro T
 .have hlt:i<l.length:=by simpa using T
  have ad:Z9 (i+1):=I1
  refine⟨Nat×List Int×Array Value,λ y=>[(0,.slice (some ⟨b,0,none⟩) l.length cap),(1,.int .i64 0),(2,.int .i64 l.length),(6,.int .i64 i),(7,.int .i64 y.1)],
   λ y U'=>(∀x o,U.I x=some o->U'.I x=some o)/\U'.tok=U.tok/\U'.M=.obj b (.cells y.2.2 3 (0,0))::M₀/\y.2.2.size=cap/\HP y.2.2 y.2.1/\y.2.1.Perm l/\Hr y.2.1 i y.1/\y.1<=i,
   λ y=>y.1,(i,w,c),T1,⟨Y,ht,N,H,B,G,.start X,Zz2⟩,?_⟩
  rintro⟨j,w,c⟩f U2⟨Y,ht,N,H,B,G,Q,hj⟩;simp only at N H B G Q hj;have ai:=G.length_eq
  repeat apply R1
  conv=>whnf
  apply Jt<;>intro T
  .have h0:0<j:=by simp at T;omega
   have hx:w[j]?=some (w[j]' O1):=S1
   generalize w[j]' O1=x at hx;have hy:w[j-1]?=some (w[j-1]' O1):=S1
   generalize w[j-1]' O1=y at hy;have K:Z9 ((j:Int)-1):=I1
   have P:(j:Int)-1=((j-1:Nat):Int):=O1
   repeat apply R1
   refine⟨_,j,⟨rfl,rfl,O1⟩,_,Yc N (B j x hx),?_⟩
   repeat apply R1
   refine⟨K,_,j-1,⟨rfl,P,O1⟩,_,Yc N (B (j-1) y hy),?_⟩
   conv=>whnf
   intro U3 F _;have E:=F.own.trans N;refine⟨FP.any,(zI x y).go λ _=>?_⟩
   repeat apply R1
   conv=>whnf
   apply Qg<;>intro T
   .have hxy:x<y:=of_decide_eq_true T;refine⟨λ U'=>(∀x o,U.I x=some o->U'.I x=some o)/\U'.tok=U.tok/\U'.M=.obj b (.cells (c.setIfInBounds j (.int .i64 y)) 3 (0,0))::M₀,λ U U'⟨a,b,c⟩W=>⟨λ x o h=>W.imm x o (a x o h),W.tok.trans b,W.own.trans c⟩,K,K,_,j-1,⟨rfl,P,O1⟩,_,Yc E (B (j-1) y hy),_,j,⟨rfl,rfl,O1⟩,_,Yc E (B j x hx),_,j,⟨rfl,rfl,O1⟩,?_⟩
    conv=>whnf
    intro U4 V _;refine⟨⟨rfl,?_⟩,λ U5 hG=>?_⟩
    .show QX ((Addr.mk b 0 none).add (j*1)) [.int .i64 y] 0 _ _;rw[Nat.mul_one];exact G_ [] (V.own.trans E) O1 rfl ⟨rfl,_,.refl _,λ x o h=>V.imm x o (F.imm x o (Y x o h)),V.tok.trans (F.tok.trans ht),rfl⟩
    obtain⟨Z,af,ab⟩:=hG;refine⟨_,j-1,⟨rfl,P,O1⟩,rfl,?_⟩;show QX ((Addr.mk b 0 none).add ((j-1)*1)) [.int .i64 x] 0 _ _;rw[Nat.mul_one];refine G_ [] ab S3 rfl ?_;refine⟨K,?_⟩
    conv=>whnf
    exact⟨rfl,(j-1,(w.set j y).set (j-1) x,(c.setIfInBounds j (.int .i64 y)).setIfInBounds (j-1) (.int .i64 x)),⟨rfl,rfl,rfl,rfl,by rw[<- P];rfl,trivial⟩,⟨Z,af,rfl,by simpa using H,(B.set O1 j y).set S3 (j-1) x,(xL h0 hx hy).trans G,Q.step hj h0 hx hy hxy,Zz2⟩,by show j-1<j;omega⟩
   .have hxy:¬x<y:=of_decide_eq_false T;refine⟨ad,?_⟩
    conv=>whnf
    exact⟨rfl,(i+1,w,c),T1,⟨λ x o h=>F.imm x o (Y x o h),F.tok.trans ht,E,H,B,G,Q.done hj (.inr ⟨x,y,hx,hy,O1⟩),Zz2,Zz2⟩,L1⟩
  .have h0:j=0:=by simp at T;omega
   conv=>whnf
   intro U3 F _;have E:=F.own.trans N
   repeat apply R1
   refine⟨ad,?_⟩
   conv=>whnf
   exact⟨rfl,(i+1,w,c),T1,⟨λ x o h=>F.imm x o (Y x o h),F.tok.trans ht,E,H,B,G,Q.done hj (.inl h0),Zz2,Zz2⟩,L1⟩
 .have hge:l.length<=i:=by simpa using T
  repeat apply R1
  conv=>whnf
  exact⟨Y,ht,w,c,G,X.le hge,N,H,B⟩
def qM:Qb S 138 #[.nl,.int .i64 0,.int .i64 (0:Nat)] (λ _ U'=>U'=U) U:=by
 refine(Qb.pure' (Q:=λ _=>True) (Qb.of (args:=[_,_,_]) VZ Qf S1 ?_)).mono λ _ _ h=>h.2
 repeat apply R1
 refine⟨I1,?_⟩;refine⟨Unit,λ _=>[(2,.int .i64 (0:Nat)),(6,.int .i64 1)],λ _ U'=>U'=U,λ _=>0,(),T1,rfl,?_⟩;rintro _ f _ rfl
 repeat apply R1
 conv=>whnf
 exact⟨trivial,(Qa.le.refl _).lg⟩
def qn(n:Nat)(b:n<256):Qb S 105 #[.int .u64 n] (λ v U'=>(∃m,v=.int .i64 m)/\U'=U) U:=by
 refine Qb.pure' (Qb.of (args:=[_]) Fv Qf S1 ?_);refine⟨FQ.any,(zA n b).mono ?_⟩;rintro _ U'⟨⟨m,rfl⟩,rfl⟩-
 repeat apply R1
 conv=>whnf
 exact⟨⟨_,rfl⟩,(Qa.le.refl _).lg⟩
def N5(v:Value)(l:List Int)(M₀:List Qw)(m:Int)(ha:Acc 3 1 v (l.map λ n=>.int .i64 n) U.M M₀)(H:l.length<=12) :
  Qb S 104 #[v,.int .i64 0,.int .i64 l.length,.int .i64 m] (λ _ U'=>(∀x o,U.I x=some o->U'.I x=some o)/\U'.tok=U.tok/\∃l',l'.Perm l/\Xc l' l.length/\Acc 3 1 v (l'.map λ n=>.int .i64 n) U'.M M₀) U:=by
 obtain⟨sa,sc,rfl,-⟩:=SF ha;refine Qb.of (args:=[_,_,_,_]) Fu Qf S1 ?_
 repeat apply R1
 refine⟨Unit,λ _=>[(0,.slice sa l.length sc),(1,.int .i64 0),(2,.int .i64 l.length),(3,.int .i64 m)],λ _ U'=>U'=U,λ _=>0,(),T1,rfl,?_⟩;rintro _ f U' w;obtain rfl:=w.symm
 repeat apply R1
 refine⟨I1,?_⟩
 repeat apply R1
 conv=>whnf
 apply Qg<;>intro L
 .conv=>whnf
  rcases ha with⟨h1,h2,B⟩|⟨b,c,len,cap,h1,h2,G,Q,B,h5⟩
  .rw[map_eq_nil_iff]at h2;subst h2;cases h1;refine⟨VZ.any,qM.mono ?_⟩;rintro _ U' w -;obtain rfl:=w.symm
   repeat apply R1
   conv=>whnf
   exact⟨λ _ _ h=>h,rfl,[],.refl _,λ p q _ _ h1 h2=>by simp at h2,.inl ⟨rfl,rfl,B⟩⟩
  .cases h1;refine⟨VZ.any,(zn b sc l c M₀ B G O1 (λ k x hx=>h5 k _ (by simp[hx])) O1).mono ?_⟩;rintro v U'⟨K,ht,l',c',hp,N,E,P,F⟩-
   repeat apply R1
   refine⟨K,ht,l',hp,N,.inr ⟨b,c',l.length,sc,rfl,by simp[hp.length_eq],G,O1,E,λ k x hx=>?_⟩⟩;rw[getElem?_map]at hx;cases hy:l'[k]? with
   |none=>rw[hy]at hx;cases hx
   |some y=>rw[hy]at hx;cases hx;exact F k y hy
 .simp at L;omega
def zN(v:Value)(l:List Int)(M₀:List Qw)(ha:Acc 3 1 v (l.map λ n=>.int .i64 n) U.M M₀)(b:l.length<=12) :
  Qb S 71 #[v] (λ _ U'=>(∀x o,U.I x=some o->U'.I x=some o)/\U'.tok=U.tok/\∃l',l'.Perm l/\Xc l' l.length/\Acc 3 1 v (l'.map λ n=>.int .i64 n) U'.M M₀) U:=by
 obtain⟨sa,sc,rfl,-⟩:=SF ha;refine Qb.of (args:=[_]) UX Qf S1 ?_
 have B:IntKind.wrap .u64 (l.length:Int)=l.length:=by
  have h:(2:Int)^64=18446744073709551616:=D1
  simp only[IntKind.wrap,IntKind.bits,IntKind.signed,Bool.false_and,h];simp;omega
 conv=>whnf
 rw[B];refine⟨Fv.any,(qn l.length O1).mono ?_⟩;rintro _ U'⟨⟨m,rfl⟩,f⟩-;obtain rfl:=f.symm;refine⟨Fu.any,(N5 _ l M₀ m ha b).mono ?_⟩;rintro v U' w -;cases v <;> (conv=>whnf) <;> exact w
end
variable{D:List ByteArray}
def Lv(a b:ByteArray):(a==b)=decide (a=b):=by
 rw[Bool.eq_iff_iff]
 cases a with|mk x=>cases b with|mk y=>
 show(ByteArray.beq ⟨x⟩ ⟨y⟩)=true↔_;simp[ByteArray.beq]
def xM(hx:l[i]?=some y):(if i+1=0 then none else l[i+1-1]?)=some y:=by simpa using hx
def ZP:Nat->List ByteArray->List (ByteArray×Value)
 |_,[]=>[]
 |j,s::l=>(s,.int .i64 j)::ZP (j+1) l
def SI(s:ByteArray):∀(l:List ByteArray)(j i:Nat),if JZ l s then ∃n:Int,(QL s (ZP j l) i).map (·.2)=some (.int .i64 n)else(QL s (ZP j l) i).map (·.2)=none
 |[],_,_=>rfl
 |a::l,j,i=>by
  simp only[ZP,QL,JZ,any_cons];by_cases e:s=a
  .simp[e]
  .rw[if_neg e];have h:=SI s l (j+1) (i+1);simp only[JZ]at h;rw[show decide (a=s)=false from decide_eq_false (Ne.symm e),Bool.false_or];exact h
def Na(h:JZ D s=true):∃n:Int,lk s (ZP 0 D)=some (.int .i64 n):=by
 have:=SI s D 0 0
 rwa [if_pos h]at this
def N9(h:JZ D s=false):lk s (ZP 0 D)=none:=by
 have:=SI s D 0 0
 rwa [h]at this
def Lq(s:ByteArray):∀(l:List ByteArray)(j:Nat),JZ l s=false->ZA s (.int .i64 ((j+l.length:Nat):Int)) (ZP j l)=ZP j (l++[s])
 |[],j,_=>rfl
 |a::l,j,h=>by
  simp only[JZ,any_cons,Bool.or_eq_false_iff,decide_eq_false_iff_not]at h;simp only[ZP,cons_append,ZA];rw[if_neg (λ e=>h.1 e.symm),<- Lq s l (j+1) h.2];congr 4;simp;omega
section
attribute [local irreducible] Qb Zm Wo
def E6(a:Option Addr)(len cap:Nat)(l:List Int)(hl:Z6 U a len l)(K:len<2^60)(n:Nat)(W:n<2^60) :
  Qb S 195 #[.slice a len cap,.int .i64 n] (λ v U'=>v=.int .i64 (QV n none l)/\U'=U) U:=by
 refine Qb.of (args:=[_,_]) Ov Qf S1 ?_;have Q:=hl.1
 repeat apply R1
 refine⟨Nat,λ i=>[(0,.slice a len cap),(1,.int .i64 n),(7,.slice a len cap),(8,.int .i64 len),(9,.int .i64 i)],
  λ i U'=>U'=U/\i<=len/\QV n none l=QV n (if i=0 then none else l[i-1]?) (l.drop i),λ i=>len-i,0,T1,⟨rfl,O1,rfl⟩,?_⟩
 rintro i f _⟨rfl,hi,b⟩;have B:Z9 ((i:Int)+1):=I1
 have E:Z9 ((n:Int)-1):=I1
 repeat apply R1
 conv=>whnf
 apply Qg<;>intro w
 .have hlt:i<len:=by simpa using w
  obtain⟨I,x,hx,rfl,V,T⟩:=hl.at hlt;rw[Hl hx,Ps]at b;refine⟨I,i,⟨rfl,rfl,hlt⟩,_,T,E,Gh.any,(Wq _ _ _ _).mono ?_⟩;rintro v U'⟨rfl,rfl⟩-;cases hb:QP x 0 ((n:Int)-1)with
  |false=>
   rw[hb]at b
   repeat apply R1
   conv=>whnf
   exact⟨by rw[b];rfl,rfl⟩
  |true=>
   rw[if_pos hb]at b;have next:QV n none l=QV n (some x) (l.drop (i+1))->QV n none l=QV n (if i+1=0 then none else l[i+1-1]?) (l.drop (i+1)):=λ h=>by rw[xM hx];exact h
   repeat apply R1
   conv=>whnf
   apply Jt<;>intro w
   .have h0:0<i:=by simpa using w
    obtain⟨y,hy⟩:∃y,l[i-1]?=some y:=⟨_,getElem?_eq_getElem O1⟩;rw[if_neg O1,hy]at b;have F:Z9 ((i:Int)-1):=I1
    have N:((i:Int)-1)=((i-1:Nat):Int):=O1
    obtain⟨M,X,G,P,L,H⟩:=hl.at (show i-1<len by omega);cases P;rw[hy]at G;cases G;simp only at b;refine⟨F,I,i-1,⟨rfl,N,O1⟩,_,H,?_⟩
    repeat apply R1
    conv=>whnf
    apply Qg<;>intro w
    .have h1:x<=y:=by simpa using w
     repeat apply R1
     conv=>whnf
     rw[if_pos h1]at b;exact⟨by rw[b],rfl⟩
    .have h1:¬x<=y:=by simpa using w
     rw[if_neg h1]at b;refine⟨B,?_⟩
     conv=>whnf
     exact⟨rfl,i+1,T1,⟨rfl,O1,next b⟩,L1⟩
   .have h0:i=0:=by simp at w;omega
    rw[if_pos h0]at b;simp only at b
    repeat apply R1
    refine⟨B,?_⟩
    conv=>whnf
    exact⟨rfl,i+1,T1,⟨rfl,O1,next b⟩,L1⟩
 .have hge:len<=i:=by simpa using w
  rw[drop_eq_nil_of_le O1]at b
  repeat apply R1
  conv=>whnf
  exact⟨by rw[b];rfl,rfl⟩
def D9:WI T prog 9 Value.string:=by
 refine .simple (d:=.string) K1 rfl (λ k k'=>?_) (λ k=>?_)
 .show some (k==k')=_;rw[Lv]
 .simp[Instr.sameBits,Lv]
def Ii:prog.underlying 270=some (.map 9 3):=K1
def HL:Xb prog 3=some (.int .i64 0):=K1
def Es(mb:Nat)(seen:List ByteArray)(s:ByteArray)(B:s.size<2^60)(M₀:List Qw)(b:U.M=.obj mb (Qt Value.string (ZP 0 seen))::M₀) :
  Qb S 193 #[.map (some mb),.string s,.int .i64 seen.length] (λ v U'=>v=.int .i64 (if Zg s then(if JZ seen s then 5 else 0)else 4)/\U'={ U with M:=.obj mb (Qt Value.string (ZP 0 (if Zg s&&!JZ seen s then seen++[s]else seen)))::M₀ }) U:=by
 refine Qb.of (args:=[_,_,_]) Ou Qf S1 ?_;refine⟨FZ.any,(qL s B).mono ?_⟩;rintro v U'⟨rfl,f⟩-;obtain rfl:=f.symm;cases F:Zg s with
 |false=>
  repeat apply R1
  conv=>whnf
  show _={ U with M:=.obj mb (Qt Value.string (ZP 0 seen))::M₀ };rw[<- b]
 |true=>
  conv=>whnf
  refine YZ (k:=s) (l:=ZP 0 seen) D9 Ii HL rfl rfl (.inr (by rw[b];exact mem_cons_self ..)) ?_;cases h:JZ seen s with
  |true=>
   obtain⟨w,E⟩:=Na h;rw[E]
   repeat apply R1
   conv=>whnf
   show _={ U with M:=.obj mb (Qt Value.string (ZP 0 seen))::M₀ };rw[<- b]
  |false=>
   rw[N9 h]
   conv=>whnf
   refine YL (v:=.int .i64 seen.length) (k:=s) (l:=ZP 0 seen) (M':=.obj mb (Qt Value.string (ZP 0 (seen++[s])))::M₀) D9 Ii rfl rfl rfl (by rw[b,<- Lq s seen 0 h,Nat.zero_add];exact .here) ?_
   repeat apply R1
   conv=>whnf
   rfl
def qO(h:BH)(b:Bk)(hb:Zr U h b):Qb S 191 #[h.v] (λ v U'=>v=.int .i64 (b.rsF Zg)/\U'=U) U:=by
 refine Qb.pure' (Qb.of (args:=[_]) FW Qf S1 ?_);have P:=hb.rs.1;have ab:=hb.rl
 repeat apply R1
 conv=>whnf
 intro B U1 H T;have T:Zi U1 B #[.slice h.ra h.rl h.rc,.slice h.ca h.cl h.cc]:=T;refine⟨_,T.sees3 (o:=0) rfl,?_⟩
 repeat apply R1
 conv=>whnf
 apply Qg<;>intro N
 .have E:b.rs.length > 6:=by rw[P];simp at N;omega
  repeat apply R1
  conv=>whnf
  exact⟨by unfold Bk.rsF;rw[if_pos E],H.lg⟩
 have E:¬b.rs.length > 6:=by rw[P];simp at N;omega
 have I:b.rsF Zg=GM Zg [] b.rs:=by unfold Bk.rsF;rw[if_neg E]
 rw[I]
 conv=>whnf
 refine P3 Value.string λ mb ac=>?_;refine⟨_,Qa.sees.lg (T.sees3 (o:=0) rfl) (Z2 mb _),Nat×List ByteArray,λ y=>[(1,.pb B),(3,.map (some mb)),(15,.slice h.ra h.rl h.rc),(16,.int .i64 h.rl),(17,.int .i64 y.1)],
  λ y U'=>U.lg U'/\U'.M=.obj mb (Qt Value.string (ZP 0 y.2))::U.M/\y.1<=h.rl/\y.2.length=y.1/\GM Zg [] b.rs=GM Zg y.2 (b.rs.drop y.1),
  λ y=>h.rl-y.1,(0,[]),T1,⟨H.lg.trans (Z2 _ _),?_,S1,rfl,S1⟩,?_⟩
 .show _::_=_;rw[H.own];rfl
 rintro⟨i,s⟩f U2⟨G,hM,hi,Q,w⟩;simp only at hM hi Q w;have X:Z9 ((i:Int)+1):=I1
 repeat apply R1
 conv=>whnf
 apply Qg<;>intro N
 .have hlt:i<h.rl:=by simpa using N
  obtain⟨ad,x,vs,hx,V,ae,rfl,-,Z⟩:=(hb.rs.lg G λ _ _ h=>h).at hlt;rw[Hl hx,GM]at w;have aa:=hb.rn x (mem_of_getElem? hx);refine⟨ad,i,⟨V,rfl,hlt⟩,_,Z 0 _ rfl,?_⟩;subst Q;refine⟨Ou.any,(Es mb s x aa U.M hM).mono ?_⟩;rintro _ U'⟨rfl,L⟩-;have F:U.lg U':=L▸⟨G.imm,⟨[_],rfl⟩,G.tok⟩;have K:U'.M=.obj mb (Qt Value.string (ZP 0 (if Zg x&&!JZ s x then s++[x]else s)))::U.M:=by rw[L]
  cases Y:Zg x with
  |false=>
   rw[Y]at w
   repeat apply R1
   conv=>whnf
   exact⟨by rw[w];rfl,F⟩
  |true=>
   rw[if_pos Y]at w;cases W:JZ s x with
   |true=>
    rw[if_pos W]at w
    repeat apply R1
    conv=>whnf
    exact⟨by rw[w];rfl,F⟩
   |false=>
    rw[W]at w;rw[Y,W]at K
    repeat apply R1
    refine⟨X,rfl,(s.length+1,s++[x]),T1,⟨F,K,by show s.length+1<=h.rl;omega,S1,w⟩,L1⟩
 .have hge:h.rl<=i:=by simpa using N
  rw[drop_eq_nil_of_le O1]at w
  repeat apply R1
  conv=>whnf
  exact⟨by rw[w];rfl,G⟩
end
variable{a m:Nat}{mu:List Nat}{z:Bk}{ε:Cs}{A:List (List Nat)}
def ZZ(h:n<2^63):IntKind.wrap .i64 (n:Int)=n:=by
 have f:(2:Int)^64=18446744073709551616:=D1
 have w:(2:Int)^63=9223372036854775808:=D1
 have b:(2:Nat)^63=9223372036854775808:=D1
 rw[b]at h;simp only[IntKind.wrap,IntKind.bits,IntKind.signed];simp;omega
def Gp(n:Nat):BitVec.ofInt 64 (n:Int)=BitVec.ofNat 64 n:=BitVec.ofInt_natCast _ _
def LY(h:n<60):IntKind.wrap .i64 ((1:Int)*2^(min ((n:Int).toNat) 64))=((1<<<n:Nat):Int):=by
 have h1:min ((n:Int).toNat) 64=n:=by rw[Int.toNat_natCast];omega
 have h2:(1<<<n:Nat)<2^63:=by rw[Nat.one_shiftLeft];exact Nat.pow_lt_pow_right O1 O1
 have b:(1:Int)*(2:Int)^n=((1<<<n:Nat):Int):=by rw[Nat.one_shiftLeft];simp
 rw[h1,b,ZZ h2]
def M8(ha:a<2^60)(hb:b<2^60):IntKind.wrap .i64 ((BitVec.ofInt 64 (a:Int)||| BitVec.ofInt 64 (b:Int)).toNat:Int)=((a||| b:Nat):Int):=by
 have h:(a||| b)<2^60:=Nat.or_lt_two_pow ha hb;have f:(2:Nat)^60<2^63:=Nat.pow_lt_pow_right O1 O1;have w:(2:Nat)^63<2^64:=Nat.pow_lt_pow_right O1 O1;rw[Gp,Gp,BitVec.toNat_or,BitVec.toNat_ofNat,BitVec.toNat_ofNat,Nat.mod_eq_of_lt O1,Nat.mod_eq_of_lt O1,ZZ O1]
def Ul(ha:a<2^60)(hb:b<2^60):IntKind.wrap .i64 ((BitVec.ofInt 64 (a:Int)&&&BitVec.ofInt 64 (b:Int)).toNat:Int)=((a&&&b:Nat):Int):=by
 have h:(a&&&b)<2^60:=Nat.lt_of_le_of_lt Nat.and_le_left ha;have f:(2:Nat)^60<2^63:=Nat.pow_lt_pow_right O1 O1;have w:(2:Nat)^63<2^64:=Nat.pow_lt_pow_right O1 O1;rw[Gp,Gp,BitVec.toNat_and,BitVec.toNat_ofNat,BitVec.toNat_ofNat,Nat.mod_eq_of_lt O1,Nat.mod_eq_of_lt O1,ZZ O1]
def Sv(ha:a<2^60)(hb:b<2^60):(IntKind.wrap .i64 ((BitVec.ofInt 64 (a:Int)&&&~~~BitVec.ofInt 64 (b:Int)).toNat:Int)=0↔∀k,a.testBit k=true->b.testBit k=true):=by
 have F:(2:Nat)^60<2^63:=Nat.pow_lt_pow_right O1 O1;have G:(2:Nat)^63<2^64:=Nat.pow_lt_pow_right O1 O1
 have E:(BitVec.ofNat 64 a&&&~~~BitVec.ofNat 64 b).toNat<2^63:=by
  rw[BitVec.toNat_and];refine Nat.lt_of_le_of_lt Nat.and_le_left ?_;rw[BitVec.toNat_ofNat,Nat.mod_eq_of_lt O1];omega
 rw[Gp,Gp,ZZ E];constructor
 .intro h k w
  have B:BitVec.ofNat 64 a&&&~~~BitVec.ofNat 64 b=0#64:=by
   apply BitVec.eq_of_toNat_eq;simpa using h
  have f:k<64:=by
   apply Classical.byContradiction;intro H;have:a<2^k:=Nat.lt_of_lt_of_le ha (Nat.pow_le_pow_right O1 O1);rw[Nat.testBit_lt_two_pow this]at w;cases w
  have h1:(BitVec.ofNat 64 a&&&~~~BitVec.ofNat 64 b).getLsbD k=false:=by rw[B];simp
  rw[BitVec.getLsbD_and,BitVec.getLsbD_not,BitVec.getLsbD_ofNat,BitVec.getLsbD_ofNat,w]at h1;simpa[f]using h1
 .intro h
  have B:BitVec.ofNat 64 a&&&~~~BitVec.ofNat 64 b=0#64:=by
   apply BitVec.eq_of_getLsbD_eq;intro k w;rw[BitVec.getLsbD_and,BitVec.getLsbD_not,BitVec.getLsbD_ofNat,BitVec.getLsbD_ofNat];cases hb:a.testBit k with
   |false=>simp
   |true=>simp[h k hb]
  rw[B];rfl
def Ur(h:n<60):Int.fdiv (a:Int) (2^(min ((n:Int).toNat) 64))=((a>>>n:Nat):Int):=by
 have h1:min ((n:Int).toNat) 64=n:=by rw[Int.toNat_natCast];omega
 rw[h1,Nat.shiftRight_eq_div_pow];have h2:((2:Int)^n)=((2^n:Nat):Int):=S1
 rw[h2,Int.fdiv_eq_ediv_of_nonneg _ (Int.natCast_nonneg _)];simp
def HT(ha:a<2^60)(h:n<60):(IntKind.wrap .i64 ((BitVec.ofInt 64 (Int.fdiv (a:Int) (2^(min ((n:Int).toNat) 64)))&&&BitVec.ofInt 64 1).toNat:Int)==1)=a.testBit n:=by
 have h1:a>>>n<2^60:=Nat.lt_of_le_of_lt (Nat.shiftRight_le a n) ha;have h2:=Ul h1 (show 1<2^60 by decide);rw[Ur h];rw[show((1:Nat):Int)=1 from rfl]at h2;rw[h2,Nat.and_one_is_mod];rw[Bool.eq_iff_iff,beq_iff_eq,Nat.testBit];simp only[Nat.one_and_eq_mod_two,bne_iff_ne];omega
def Yk(h:n<60):IntKind.wrap .i64 ((1:Int)*2^(min ((n:Int).toNat) (IntKind.bits .i64)))=((1<<<n:Nat):Int):=LY h
def Uo(ha:a<2^60)(hb:b<2^60):IntKind.wrap .i64 ((BitVec.ofInt (IntKind.bits .i64) (a:Int)||| BitVec.ofInt (IntKind.bits .i64) (b:Int)).toNat:Int)=((a||| b:Nat):Int):=M8 ha hb
def Hc(h:∀x∈mu,x<m):Z4 mu<2^m:=by
 apply Nat.lt_pow_two_of_testBit;intro i hi;rw[Wv,contains_eq_any_beq,any_eq_false];intro x hx;have:=h x hx;simp;omega
def BJ(l:List Nat)(x:Nat):Z4 (l++[x])=Z4 l||| (1<<<x):=by simp[Z4]
def P8{x m:Nat}(h:x<m):(1<<<x:Nat)<2^m:=by rw[Nat.one_shiftLeft];exact Nat.pow_lt_pow_right O1 h
structure Bk.Low(b:Bk):Prop where
 nc:b.cs.length<=5
 af:∀c∈b.cs,∀n∈c.af,0<=n/\n<b.nc
def Bk.Ok.toLow(h:z.Ok):z.Low:=⟨h.nc,h.af⟩
def Bk.Low.lt(h:z.Low)(f:ε∈z.cs):∀n∈ε.af,0<=n/\n<60:=λ n w=>by
 have:=h.af ε f n w;have:=h.nc;unfold Bk.nc at *;omega
def Bk.A_len(b:Bk):b.A.length=b.cs.length:=by simp[Bk.A]
def Bk.aft1_at(h:z.cs[i]?=some ε):Jf z.A i=ε.af.map Int.toNat:=by
 simp[Jf,Bk.A,getD_eq_getElem?_getD,h]
def toNat_lt(h:∀n∈l,0<=n/\n<m):∀x∈l.map Int.toNat,x<m:=by
 intro x hx;obtain⟨n,b,rfl⟩:=mem_map.1 hx;have:=h n b;omega
def qk(f:α->Nat->α)(a:α)(i:Nat):(range (i+1)).foldl f a=f ((range i).foldl f a) i:=by
 rw[range_succ,foldl_append];rfl
def gL(b:n<2^m)(hi:i<m):WG A n i<2^m:=by
 unfold WG;split
 .exact Nat.or_lt_two_pow b (P8 hi)
 .exact b
def Sd{A:List (List Nat)}{m:Nat}:∀(l:List Nat)(d:Nat),(∀i∈l,i<m)->d<2^m->l.foldl (WG A) d<2^m
 |[],_,_,h=>h
 |x::l,d,hl,h=>Sd l _ (λ i hi=>hl i (mem_cons_of_mem _ hi)) (gL h (hl x (mem_cons_self ..)))
def Bk.dn(b:Bk)(r j:Nat):Nat:=(range j).foldl (WG b.A) (JK b.A r)
def Bk.dn_succ(b:Bk)(r j:Nat):b.dn r (j+1)=WG b.A (b.dn r j) j:=qk _ _ _
def Bk.dn_end(b:Bk)(r:Nat):b.dn r b.cs.length=JK b.A (r+1):=by rw[<- Bk.A_len];rfl
def gM(k:Nat):JK A k<2^A.length:=by
 induction k with
 |zero=>exact Nat.two_pow_pos _
 |succ k b=>exact Sd _ _ (λ i hi=>mem_range.1 hi) b
def Bk.dn_lt(r:Nat)(hb:z.cs.length<=5)(f:j<=z.cs.length):z.dn r j<2^5:=
 Sd _ _ (λ i hi=>by have:=mem_range.1 hi;omega) (Nat.lt_of_lt_of_le (gM r) (Nat.pow_le_pow_right O1 (by rw[z.A_len];omega)))
section
attribute [local irreducible] Qb Zm Wo
def Z8(a:Option Addr)(len cap:Nat)(l:List Int)(hl:Z6 U a len l)(F:len<2^60)(h:∀n∈l,0<=n/\n<60) :
  Qb S 47 #[.slice a len cap] (λ v U'=>v=.int .i64 (Z4 (l.map Int.toNat):Nat)/\U'=U) U:=by
 refine Qb.of (args:=[_]) XO Qf S1 ?_;have H:=hl.1
 repeat apply R1
 refine⟨Nat,λ i=>[(3,.int .i64 (Z4 ((l.take i).map Int.toNat):Nat)),(6,.slice a len cap),(7,.int .i64 len),(8,.int .i64 i)],
  λ i U'=>U'=U/\i<=len,λ i=>len-i,0,T1,⟨rfl,O1⟩,?_⟩
 rintro i f _⟨rfl,hi⟩;have w:Z9 ((i:Int)+1):=I1
 repeat apply R1
 conv=>whnf
 apply Qg<;>intro B
 .have hlt:i<len:=by simpa using B
  obtain⟨G,x,hx,rfl,L,K⟩:=hl.at hlt;have b:=h x (mem_of_getElem? hx);obtain⟨k,rfl⟩:=Int.eq_ofNat_of_zero_le b.1;have E:k<60:=O1
  have hb:Z4 ((l.take i).map Int.toNat)<2^60:=Hc (toNat_lt λ n I=>h n (mem_of_mem_take I))
  have key:Value.int .i64 (IntKind.wrap .i64 ((BitVec.ofInt 64 ((Z4 ((l.take i).map Int.toNat):Nat):Int)||| BitVec.ofInt 64 (IntKind.wrap .i64 ((1:Int)*2^(min ((k:Int).toNat) 64)))).toNat:Int))=.int .i64 (Z4 ((l.take (i+1)).map Int.toNat):Nat):=by
   rw[LY E,M8 hb (P8 E),Wf hx,map_append,map_singleton,Int.toNat_natCast,BJ]
  refine⟨G,i,⟨rfl,rfl,hlt⟩,_,K,b.1,?_⟩
  repeat apply R1
  refine⟨w,?_⟩
  conv=>whnf
  exact⟨rfl,i+1,⟨key,rfl,rfl,rfl,trivial⟩,⟨rfl,O1⟩,L1⟩
 .have hge:len<=i:=by simpa using B
  repeat apply R1
  conv=>whnf
  exact⟨by rw[take_of_length_le O1],rfl⟩
end
variable{h:BH}
def Su(h:∀n∈l,0<=n/\n<60):(∀k,(Z4 (l.map Int.toNat)).testBit k=true->i.testBit k=true)↔((l.map Int.toNat).all λ k=>i.testBit k)=true:=by
 rw[all_eq_true];constructor
 .intro g k hk;exact g k (by rw[Wv];simpa using hk)
 .intro g k hk;rw[Wv]at hk;exact g k (by simpa using hk)
def Zr.case(k:Zr U h z)(hi:i<h.cl) :
  ∃f c ga gl gc aa al ac,z.cs[i]?=some c/\h.ca=some f/\f.spot=none/\Je U (f.add (i*4)) [.string c.nm,.int .i64 c.ag,.slice ga gl gc,.slice aa al ac]/\Wx U ga gl c.gs/\gl<2^60/\Z6 U aa al c.af/\al<2^60/\c∈z.cs:=by
 obtain⟨f,c,vs,hx,w,E,⟨ga,gl,gc,aa,al,ac,rfl,h1,h2,F,G⟩,-,B⟩:=k.cs.at hi;exact⟨f,c,ga,gl,gc,aa,al,ac,hx,w,E,B,h1,h2,F,G,mem_of_getElem? hx⟩
def Zr.right(k:Zr U h z)(hi:i<h.rl) :
  ∃f s,z.rs[i]?=some s/\h.ra=some f/\f.spot=none/\U.sees ((f.add (i*1)).add 0) (.string s)/\s∈z.rs:=by
 obtain⟨f,s,vs,hx,w,E,rfl,-,B⟩:=k.rs.at hi;exact⟨f,s,hx,w,E,B 0 _ rfl,mem_of_getElem? hx⟩
section
attribute [local irreducible] Qb Zm Wo
def E5(h:BH)(b:Bk)(hb:Zr U h b)(Z:b.Low):Qb S 91 #[h.v] (λ v U'=>v=.int .i64 (if Wy b.A then 8 else 0)/\U'=U) U:=by
 refine Qb.pure' (Qb.of (args:=[_]) Ts Qf S1 ?_);have W:=hb.cs.1;have hA:=b.A_len;have h5:=Z.nc
 repeat apply R1
 conv=>whnf
 intro B U1 M Q;have Q:Zi U1 B #[.slice h.ra h.rl h.rc,.slice h.ca h.cl h.cc]:=Q;refine⟨_,Q.sees3 (o:=1) rfl,Nat,λ r=>[(1,.pb B),(3,.int .i64 (JK b.A r:Nat)),(9,.int .i64 h.cl),(10,.int .i64 r)],
  λ r U'=>U1.lg U'/\r<=h.cl,λ r=>h.cl-r,0,T1,⟨(Qa.le.refl _).lg,O1⟩,?_⟩
 rintro r f U2⟨G,hr⟩;have Y:Z9 ((r:Int)+1):=I1
 repeat apply R1
 conv=>whnf
 apply Qg<;>intro F
 .have hrt:r<h.cl:=by simpa using F
  refine⟨_,(Q.lg G).sees3 (o:=1) rfl,Nat,λ j=>[(1,.pb B),(3,.int .i64 (b.dn r j:Nat)),(9,.int .i64 h.cl),(10,.int .i64 r),(14,.slice h.ca h.cl h.cc),(15,.int .i64 h.cl),(16,.int .i64 j)],
   λ j U'=>U1.lg U'/\j<=h.cl,λ j=>h.cl-j,0,T1,⟨G,O1⟩,?_⟩
  rintro j f U3⟨E,hj⟩;have K:Z9 ((j:Int)+1):=I1
  have hd:b.dn r j<2^5:=Bk.dn_lt r h5 O1;have I:b.dn r j<2^60:=Nat.lt_trans hd D1;have w:=b.dn_succ r j
  repeat apply R1
  conv=>whnf
  apply Qg<;>intro F
  .have hjt:j<h.cl:=by simpa using F
   obtain⟨ad,c,ga,gl,gc,aa,al,ac,hx,ak,av,au,-,-,ha,ah,ab⟩:=(hb.lg (M.lg.trans E)).case hjt;have L:=Z.lt ab;have ai:=Bk.aft1_at hx;refine⟨ad,j,⟨ak,rfl,hjt⟩,_,⟨rfl,au⟩,?_⟩
   conv=>whnf
   intro b5 an;refine⟨_,.refl _,rfl,Zv (vs:=[.string c.nm,.int .i64 c.ag,.slice ga gl gc,.slice aa al ac]) an rfl Zz1 λ U4 T V=>?_⟩;have H:=E.trans T.lg;refine⟨_,V.sees3 (o:=3) rfl,XO.any,(Z8 aa al ac c.af (ha.lg T.lg) ah L).go λ _=>?_⟩;have aj:Z4 (c.af.map Int.toNat)<2^60:=Hc (toNat_lt L);have key:_↔(Jf b.A j).all (λ k=>(b.dn r j).testBit k)=true:=(Sv aj I).trans ((Su L).trans (by rw[ai]))
   repeat apply R1
   conv=>whnf
   apply Qg<;>intro F
   .have hall:(Jf b.A j).all (λ k=>(b.dn r j).testBit k)=true:=key.1 (eq_of_beq F);have N:WG b.A (b.dn r j) j=b.dn r j||| (1<<<j):=by unfold WG;rw[if_pos hall]
    rw[N]at w;refine⟨O1,?_⟩
    repeat apply R1
    refine⟨K,?_⟩
    conv=>whnf
    have e2:IntKind.wrap .i64 ((BitVec.ofInt (IntKind.bits .i64) ((b.dn r j:Nat):Int)||| BitVec.ofInt (IntKind.bits .i64) (IntKind.wrap .i64 ((1:Int)*2^(min ((j:Int).toNat) (IntKind.bits .i64))))).toNat:Int)=((b.dn r (j+1):Nat):Int):=by
     rw[Yk O1,Uo I (P8 O1),<- w]
    exact⟨rfl,j+1,⟨rfl,congrArg (Value.int .i64) e2,rfl,rfl,rfl,rfl,rfl,trivial⟩,⟨H,O1⟩,L1⟩
   .have hall:(Jf b.A j).all (λ k=>(b.dn r j).testBit k)=false:=by
     cases hh:(Jf b.A j).all (λ k=>(b.dn r j).testBit k)with
     |false=>rfl
     |true=>exact absurd (key.2 hh) (ne_of_beq_false F)
    have N:WG b.A (b.dn r j) j=b.dn r j:=by unfold WG;rw[hall];rfl
    rw[N]at w;refine⟨K,?_⟩
    conv=>whnf
    exact⟨rfl,j+1,⟨rfl,congrArg (λ q:Nat=>Value.int .i64 (q:Int)) w.symm,rfl,rfl,rfl,rfl,rfl,trivial⟩,⟨H,O1⟩,L1⟩
  .have hge:h.cl<=j:=by simpa using F
   obtain rfl:j=h.cl:=O1
   have P:b.dn r h.cl=JK b.A (r+1):=by rw[<- W];exact b.dn_end r
   refine⟨Y,?_⟩
   conv=>whnf
   exact⟨rfl,r+1,⟨rfl,congrArg (λ q:Nat=>Value.int .i64 (q:Int)) P,rfl,rfl,trivial⟩,⟨E,O1⟩,L1⟩
 .have hge:h.cl<=r:=by simpa using F
  obtain rfl:r=h.cl:=O1
  have e1:IntKind.wrap .i64 ((1:Int)*2^(min ((h.cl:Int).toNat) (IntKind.bits .i64)))=((1<<<h.cl:Nat):Int):=Yk O1;have aq:=@P8 h.cl 6 O1;have ae:0<1<<<h.cl:=by rw[Nat.one_shiftLeft];exact Nat.two_pow_pos _
  have ao:Wy b.A=decide (JK b.A h.cl≠1<<<h.cl-1):=by unfold Wy;rw[hA,W,<- Nat.one_shiftLeft]
  rw[ao];generalize(1<<<h.cl:Nat)=q at e1 aq ae
  have X:Z9 (IntKind.wrap .i64 ((1:Int)*2^(min ((h.cl:Int).toNat) (IntKind.bits .i64)))-1):=by
   rw[e1];unfold Z9;omega
  refine⟨_,(Q.lg G).sees3 (o:=1) rfl,O1,X,?_⟩
  repeat apply R1
  conv=>whnf
  apply Qg<;>intro F
  .rw[e1]at F
   have ap:JK b.A h.cl≠q-1:=by
    intro e;rw[e]at F;simp at F;omega
   rw[decide_eq_true ap]
   repeat apply R1
   conv=>whnf
   exact M.lg.trans G
  .rw[e1]at F
   have am:¬JK b.A h.cl≠q-1:=by
    simp at F;omega
   rw[decide_eq_false am]
   repeat apply R1
   conv=>whnf
   exact M.lg.trans G
end
variable{P:Program}{q:Sys P T}{f:Fm}{K:Value->Qa T->Prop}{len:Nat}{d:TypeDesc}{k:IntKind}{cs:Array Value}{x:Operand}{nameB:ByteArray->Bool}
def Oj{y:Operand}{b:TypeInfo}(G:P.underlying n=some (.array len j))(E:P.underlying j=some d)(w:TypeDesc.agg d=false)(hi:P.info? j=some b)(B:b.size=1)
  (hx:Zf f x=.agg cs) (hy:Zf f y=.int k i) (F:i<len) (H:cs[i]?=some v) (h:K v U) :
  OX q (.rw (.index n x y) a) f K U:=by
 intro a' ha;simp only[execOp,ha,hx,hy];refine rq ?_;simp only[Instr.index,Qd,asIntOf,Qi,Ze G];rw[if_pos O1];simp only[Qd,Jd hi,B,Nat.mul_one,Int.toNat_natCast];simp only[part,Qd,Ht E,w,Bool.false_eq_true,if_false,H];exact⟨U,.refl _,h⟩
def YC:Array Value:=#[.func (.func 191) #[] #[],.func (.func 192) #[] #[],.func (.func 91) #[] #[]]
def JU(U:Qa T):Prop:=Zi U 0 YC
def JU.lg{U':Qa T}(h:JU U)(k:U.lg U'):JU U':=Zi.lg h k
def Bk.low_of(h:z.csF nameB=0):z.Low:=by
 unfold Bk.csF at h;split at h
 .cases h
 .exact⟨O1,λ c f=>Yb (SR h c f).2.2⟩
section
attribute [local irreducible] Qb Zm Wo
def qr(h:BH)(b:Bk)(hb:Zr U h b)(a:Option Addr)(len cap:Nat)(H:List (List Int))(hl:Wx U a len H)(aa:len<2^60) :
  Qb S 194 #[h.v,.slice a len cap] (λ v U'=>v=.int .i64 (XV b.nr H)/\U'=U) U:=by
 refine Qb.pure' (Qb.of (args:=[_,_]) FY Qf S1 ?_);have L:=hl.1;have Y:=hb.rs.1;have M:=hb.rl;have W:b.nr=(h.rl:Int):=by unfold Bk.nr;rw[Y]
 repeat apply R1
 conv=>whnf
 intro B Z E Q;have Q:Zi Z B #[.slice h.ra h.rl h.rc,.slice h.ca h.cl h.cc]:=Q
 repeat apply R1
 conv=>whnf
 apply Qg<;>intro G
 .have F:H.length > 3:=by rw[L];simp at G;omega
  repeat apply R1
  conv=>whnf
  exact⟨by unfold XV;rw[if_pos F],E.lg⟩
 have F:¬H.length > 3:=by rw[L];simp at G;omega
 have I:XV b.nr H=XZ b.nr H:=by unfold XV;rw[if_neg F]
 rw[I]
 refine⟨Nat,λ i=>[(2,.pb B),(11,.slice a len cap),(12,.int .i64 len),(13,.int .i64 i)],
  λ i U'=>U'=Z/\i<=len/\XZ b.nr H=XZ b.nr (H.drop i),λ i=>len-i,0,T1,⟨rfl,O1,rfl⟩,?_⟩
 rintro i f U'⟨hU,hi,w⟩;obtain rfl:=hU.symm;have V:Z9 ((i:Int)+1):=I1
 repeat apply R1
 conv=>whnf
 apply Qg<;>intro G
 .have hlt:i<len:=by simpa using G
  obtain⟨ad,g,vs,hx,rfl,ab,⟨ga,gl,gc,rfl,hg,T⟩,-,X⟩:=Q7.at (hl.lg E.lg) hlt;have K:=hg.1;rw[Hl hx,XZ]at w;refine⟨ad,i,⟨rfl,rfl,hlt⟩,_,X 0 _ rfl,?_⟩
  repeat apply R1
  conv=>whnf
  apply Qg<;>intro G
  .have P:g.length > 3:=by rw[K];simp at G;omega
   repeat apply R1
   conv=>whnf
   exact⟨by rw[w,if_pos P],E.lg⟩
  have P:¬g.length > 3:=by rw[K];simp at G;omega
  rw[if_neg P]at w;refine⟨_,Q.sees3 (o:=0) rfl,Ov.any,(E6 ga gl gc g hg T h.rl M).go λ _=>?_⟩;rw[W]at w ⊢;by_cases N:QV (h.rl:Int) none g=0
  .rw[if_pos N]at w;rw[N]
   repeat apply R1
   refine⟨V,?_⟩
   conv=>whnf
   exact⟨rfl,i+1,T1,⟨rfl,O1,w⟩,L1⟩
  .rw[if_neg N]at w
   repeat apply R1
   conv=>whnf
   apply Qg<;>intro G
   .repeat apply R1
    conv=>whnf
    exact⟨by rw[w],E.lg⟩
   .exact absurd (by simpa using G) N
 .have hge:len<=i:=by simpa using G
  rw[drop_eq_nil_of_le O1]at w
  repeat apply R1
  conv=>whnf
  exact⟨by rw[w];rfl,E.lg⟩
def zf(h:BH)(b:Bk)(hb:Zr U h b):Qb S 192 #[h.v] (λ v U'=>v=.int .i64 (b.csF Zg)/\U'=U) U:=by
 refine Qb.pure' (Qb.of (args:=[_]) FX Qf S1 ?_);have Q:=hb.cs.1;have ai:=hb.cl;have ay:=hb.rs.1;have a0:=hb.rl;have am:b.nr=(h.rl:Int):=by unfold Bk.nr;rw[ay]
 have aw:b.nc=(h.cl:Int):=by unfold Bk.nc;rw[Q]
 repeat apply R1
 conv=>whnf
 intro B U1 F X;have X:Zi U1 B #[.slice h.ra h.rl h.rc,.slice h.ca h.cl h.cc]:=X;refine⟨_,X.sees3 (o:=1) rfl,?_⟩
 repeat apply R1
 conv=>whnf
 apply Qg<;>intro P
 .have L:b.cs.length > 5:=by rw[Q];simp at P;omega
  repeat apply R1
  conv=>whnf
  exact⟨by unfold Bk.csF;rw[if_pos L],F.lg⟩
 have L:¬b.cs.length > 5:=by rw[Q];simp at P;omega
 have W:b.csF Zg=X_ Zg h.rl h.cl [] b.cs:=by unfold Bk.csF;rw[if_neg L,am,aw]
 rw[W]
 conv=>whnf
 refine P3 Value.string λ mb a1=>?_;refine⟨_,Qa.sees.lg (X.sees3 (o:=1) rfl) (Z2 mb _),Nat×List ByteArray,λ y=>[(1,.pb B),(3,.map (some mb)),(17,.slice h.ca h.cl h.cc),(18,.int .i64 h.cl),(19,.int .i64 y.1)],
  λ y U'=>U1.lg U'/\U'.M=.obj mb (Qt Value.string (ZP 0 y.2))::U.M/\y.1<=h.cl/\y.2.length=y.1/\X_ Zg h.rl h.cl [] b.cs=X_ Zg h.rl h.cl y.2 (b.cs.drop y.1),
  λ y=>h.cl-y.1,(0,[]),T1,⟨Z2 _ _,?_,S1,rfl,S1⟩,?_⟩
 .show _::_=_;rw[F.own];rfl
 rintro⟨i,s⟩f U2⟨T,hM,hi,an,w⟩;simp only at hM hi an w;have av:Z9 ((i:Int)+1):=I1
 have aj:Z9 ((h.rl:Int)-1):=I1
 repeat apply R1
 conv=>whnf
 apply Qg<;>intro P
 .have hlt:i<h.cl:=by simpa using P
  obtain⟨ad,c,ga,gl,gc,aa,al,ac,hx,ap,a2,ax,hg,au,ha,ao,ak⟩:=(hb.lg F.lg).case hlt;rw[Hl hx,X_]at w;have az:=hb.cn c ak;subst an;refine⟨ad,s.length,⟨ap,rfl,hlt⟩,_,⟨rfl,ax.lg T⟩,?_⟩
  conv=>whnf
  intro b5 aq;refine⟨_,.refl _,rfl,Zv (vs:=[.string c.nm,.int .i64 c.ag,.slice ga gl gc,.slice aa al ac]) aq rfl Zz1 λ U3 ae G=>?_⟩;have ab:U3.M=_:=ae.own.trans hM;have N:=T.trans ae.lg;refine⟨_,G.sees3 (o:=0) rfl,Ou.any,(Es mb s c.nm az U.M ab).mono ?_⟩;rintro _ U4⟨rfl,H⟩-;have V:U3.frz.lg U4:=H▸⟨λ _ _ h=>h,Zz3,rfl⟩;have E:U1.lg U4:=H▸⟨N.imm,⟨[_],by rw[F.own];rfl⟩,N.tok⟩;have Z:U4.M=.obj mb (Qt Value.string (ZP 0 (if Zg c.nm&&!JZ s c.nm then s++[c.nm]else s)))::U.M:=by rw[H]
  have Y:∀x o,U3.I x=some o->U4.I x=some o:=V.imm;have G:=G.imI Y;have K:=X.lg E;clear H;cases hn:Zg c.nm with
  |false=>
   rw[hn]at w
   repeat apply R1
   conv=>whnf
   exact⟨by rw[w];rfl,F.lg.trans E⟩
  |true=>
  rw[if_pos hn]at w;cases hh:JZ s c.nm with
  |true=>
   rw[if_pos hh]at w
   repeat apply R1
   conv=>whnf
   exact⟨by rw[w];rfl,F.lg.trans E⟩
  |false=>
  rw[hh]at w;simp only[Bool.false_eq_true,if_false]at w;rw[hn,hh]at Z
  repeat apply R1
  refine⟨_,G.sees3 (o:=1) rfl,_,K.sees3 (o:=0) rfl,aj,Gh.any,(Wq _ _ _ _).mono ?_⟩;rintro v U'⟨rfl,rfl⟩-;cases ah:QP c.ag 0 ((h.rl:Int)-1)with
  |false=>
   rw[ah]at w
   repeat apply R1
   conv=>whnf
   exact⟨by rw[w];rfl,F.lg.trans E⟩
  |true=>
  rw[if_pos ah]at w;refine⟨_,⟨rfl,K.rd⟩,?_⟩;refine⟨_,G.sees3 (o:=2) rfl,FY.any,(qr h b (hb.lg (F.lg.trans E)) ga gl gc c.gs (hg.lg E) au).mono ?_⟩;rintro _ U''⟨rfl,H⟩-;obtain rfl:=H.symm;rw[am];by_cases hz:XV (h.rl:Int) c.gs=0
  .rw[if_pos hz]at w;rw[hz]
   repeat apply R1
   refine⟨_,G.sees3 (o:=3) rfl,_,K.sees3 (o:=1) rfl,Ov.any,(E6 aa al ac c.af (ha.lg E) ao h.cl ai).mono ?_⟩;rintro _ U''⟨rfl,H⟩-;obtain rfl:=H.symm;by_cases hy:QV (h.cl:Int) none c.af=0
   .rw[if_pos hy]at w;rw[hy]
    repeat apply R1
    refine⟨av,rfl,(s.length+1,s++[c.nm]),T1,⟨E,Z,by show s.length+1<=h.cl;omega,S1,w⟩,L1⟩
   .rw[if_neg hy]at w
    repeat apply R1
    conv=>whnf
    apply Qg<;>intro P
    .repeat apply R1
     conv=>whnf
     exact⟨by rw[w],F.lg.trans E⟩
    .exact absurd (by simpa using P) hy
  .rw[if_neg hz]at w
   repeat apply R1
   conv=>whnf
   apply Qg<;>intro P
   .repeat apply R1
    conv=>whnf
    exact⟨by rw[w],F.lg.trans E⟩
   .exact absurd (by simpa using P) hz
 .have hge:h.cl<=i:=by simpa using P
  rw[drop_eq_nil_of_le O1]at w
  repeat apply R1
  conv=>whnf
  exact⟨by rw[w];rfl,F.lg.trans T⟩
def VN:prog.underlying 137=some (.array 3 136):=K1
def LN(P:Program)(t:TypeId):Bool:=match P.underlying t with|some d=>!TypeDesc.agg d&&(match P.info? t with|some b=>decide (b.size=1)|none=>false)|none=>false
def gE(h:LN P t=true):∃d b,P.underlying t=some d/\TypeDesc.agg d=false/\P.info? t=some b/\b.size=1:=by
 unfold LN at h;split at h
 .rename_i d hd;rw[Bool.and_eq_true]at h;obtain⟨h1,h2⟩:=h;split at h2
  .rename_i b hi;exact⟨d,b,hd,by simpa using h1,hi,by simpa using h2⟩
  .cases h2
 .cases h
def xY:∃d b,prog.underlying 136=some d/\TypeDesc.agg d=false/\prog.info? 136=some b/\b.size=1:=gE K1
def YJ(h:BH)(b:Bk)(hb:Zr U h b)(W:JU U):Qb S 30 #[h.v] (λ v U'=>v=.int .i64 (b.flaw Zg)/\U'=U) U:=by
 refine Qb.pure' (Qb.of (args:=[_]) Kh Qf S1 ?_);obtain⟨Q,Y,N,H,G,K⟩:=xY
 repeat apply R1
 conv=>whnf
 intro B P w M;have M:Zi P B #[.slice h.ra h.rl h.rc,.slice h.ca h.cl h.cc]:=M;refine⟨_,⟨rfl,(W.lg w.lg).reads (vs:=YC.toList) (λ k v X=>by simpa using X)⟩,?_⟩
 refine⟨Nat,λ i=>[(1,.pb B),(6,.agg YC),(7,.int .i64 i)],
  λ i U'=>U'=P/\i<=3/\(0<i->b.rsF Zg=0)/\(1<i->b.csF Zg=0)/\(2<i->Wy b.A=false),λ i=>3-i,0,T1,⟨rfl,O1,O1,O1,O1⟩,?_⟩
 rintro i f U'⟨V,hi,h1,h2,T⟩;obtain rfl:=V.symm;have I:Z9 ((i:Int)+1):=I1
 repeat apply R1
 conv=>whnf
 apply Qg<;>intro L
 .have hlt:i<3:=by simp at L;omega
  obtain rfl|rfl|rfl:i=0\/i=1\/i=2:=O1
  .conv=>whnf
   refine Oj (v:=.func (.func 191) #[] #[]) VN N H G K rfl rfl O1 rfl ?_;refine⟨_,⟨rfl,M.rd⟩,?_⟩;refine⟨FW.any,(qO h b (hb.lg w.lg)).mono ?_⟩;rintro _ U''⟨rfl,F⟩-;obtain rfl:=F.symm;by_cases E:b.rsF Zg=0
   .rw[E]
    repeat apply R1
    refine⟨I,?_⟩
    conv=>whnf
    exact⟨rfl,1,T1,⟨rfl,O1,λ _=>by first|exact E|rfl,O1,O1⟩,D1⟩
   .repeat apply R1
    conv=>whnf
    apply Qg<;>intro L
    .repeat apply R1
     conv=>whnf
     exact⟨by unfold Bk.flaw;rw[if_neg E],w.lg⟩
    .exact absurd (by simpa using L) E
  .conv=>whnf
   refine Oj (v:=.func (.func 192) #[] #[]) VN N H G K rfl rfl O1 rfl ?_;refine⟨_,⟨rfl,M.rd⟩,?_⟩;refine⟨FX.any,(zf h b (hb.lg w.lg)).mono ?_⟩;rintro _ U''⟨rfl,F⟩-;obtain rfl:=F.symm;by_cases E:b.csF Zg=0
   .rw[E]
    repeat apply R1
    refine⟨I,?_⟩
    conv=>whnf
    exact⟨rfl,2,T1,⟨rfl,O1,λ _=>h1 O1,λ _=>by first|exact E|rfl,O1⟩,D1⟩
   .repeat apply R1
    conv=>whnf
    apply Qg<;>intro L
    .repeat apply R1
     conv=>whnf
     exact⟨by unfold Bk.flaw;rw[if_pos (h1 O1),if_neg E],w.lg⟩
    .exact absurd (by simpa using L) E
  .conv=>whnf
   refine Oj (v:=.func (.func 91) #[] #[]) VN N H G K rfl rfl O1 rfl ?_;refine⟨_,⟨rfl,M.rd⟩,?_⟩;refine⟨Ts.any,(E5 h b (hb.lg w.lg) (Bk.low_of (h2 O1))).mono ?_⟩;rintro _ U''⟨rfl,F⟩-;obtain rfl:=F.symm;cases E:Wy b.A with
   |false=>
    repeat apply R1
    refine⟨I,?_⟩
    conv=>whnf
    exact⟨rfl,3,T1,⟨rfl,O1,λ _=>h1 O1,λ _=>h2 O1,λ _=>by first|exact E|rfl⟩,D1⟩
   |true=>
    repeat apply R1
    conv=>whnf
    exact⟨by unfold Bk.flaw;rw[if_pos (h1 O1),if_pos (h2 O1),E];first|done|rfl,w.lg⟩
 .have hge:i=3:=by simp at L;omega
  repeat apply R1
  conv=>whnf
  exact⟨by unfold Bk.flaw;rw[if_pos (h1 O1),if_pos (h2 O1),T O1];rfl,w.lg⟩
end
variable{N:Nat}{hi G:Operand}{B w:TypeInfo}{u r:Nat->Bool}
def jz{a:Option Addr}(M:P.underlying i=some (.slice j))(E:P.info? j=some B)(hx:Zf f x=.slice a len m)(I:Zf f hi=.int .i64 n)(hm:Zf f G=.int .i64 n)(L:n<=m)
  (F:∀w,a=some w->w.spot=none) (h:K (.slice a n n) U) :
  OX q (.rw (.slice i x none (some hi) (some G)) N) f K U:=by
 intro a' ha;simp only[execOp,ha,hx,I,hm,Option.map_some,Option.map_none];refine rq ?_;simp only[Instr.sliceAt,Instr.slice,Qd,Ze M,Instr.sliceBounds];refine HN rfl L ?_;refine HN rfl (Nat.le_refl _) ?_;simp only[Qi,Jd E];refine⟨U,.refl _,?_⟩
 have H:(if n=0 then a else a.map λ x=>x.add (0*B.size))=a:=by
  split
  .rfl
  .cases a with
   |none=>rfl
   |some w=>
    have:=F w rfl;obtain⟨b,o,s⟩:=w;cases this;simp only[Option.map_some,Nat.zero_mul];rw[Qo];rfl
 rw[H];exact h
def je{o:Nat}(H:P.underlying i=some (.array N j))(B:P.info? j=some w)(hx:Zf f x=.pointer (some ⟨b,o,none⟩))(F:Zf f hi=.int .i64 n)(G:n<=N)
  (h:K (.slice (some ⟨b,o,none⟩) n N) U) :
  OX q (.rw (.slice i x none (some hi) none) a) f K U:=by
 intro a' ha;simp only[execOp,ha,hx,F,Option.map_some,Option.map_none];refine rq ?_;simp only[Instr.sliceAt,Qd,Ze H,Instr.sliceBounds,Instr.sureAddr,Qi];refine HN rfl G ?_;simp only[Qi,Jd B];refine⟨U,.refl _,?_⟩
 have E:(if N=0 then(⟨b,o,none⟩:Addr)else(⟨b,o,none⟩:Addr).add (0*w.size))=⟨b,o,none⟩:=by
  split
  .rfl
  .rw[Nat.zero_mul,Qo];rfl
 rw[E];exact h
def QM(s:Nat->Bool):List Value:=[.bool (s 0),.bool (s 1),.bool (s 2),.bool (s 3),.bool (s 4),.bool (s 5)]
def G9(h:j<6):j=0\/j=1\/j=2\/j=3\/j=4\/j=5:=O1
def SW(s:Nat->Bool)(h:j<6):(QM s)[j]?=some (.bool (s j)):=by
 rcases G9 h with rfl|rfl|rfl|rfl|rfl|rfl <;> rfl
def Dx(s:Nat->Bool)(h:j<6)(v:Bool):(QM s).toArray.setIfInBounds j (.bool v)=(QM (H1 s j v)).toArray:=by
 rcases G9 h with rfl|rfl|rfl|rfl|rfl|rfl <;> rfl
def Fs(h:∀j,j<6->u j=r j):QM u=QM r:=by
 unfold QM;simp only[h 0 O1,h 1 O1,h 2 O1,h 3 O1,h 4 O1,h 5 O1]
def Y_(s:Nat->Bool):∀v∈QM s,v.single=true:=by simp[QM,Value.single]
def Ox(s:Nat->Bool):∀v∈QM s,X6 .bool v=true:=by simp[QM,X6]
def Iq:ZF (QM u) (QM r)=true↔∀j,j<6->u j=r j:=by
 simp only[QM,ZF,HY,Bool.and_eq_true,beq_iff_eq,and_true];constructor
 .rintro⟨h0,h1,h2,h3,h4,h5⟩ j hj;rcases G9 hj with rfl|rfl|rfl|rfl|rfl|rfl <;> assumption
 .exact λ h=>⟨h 0 O1,h 1 O1,h 2 O1,h 3 O1,h 4 O1,h 5 O1⟩
abbrev Uw(s:Nat->Bool):Value:=.agg #[.bool (s 0),.bool (s 1),.bool (s 2),.bool (s 3),.bool (s 4),.bool (s 5)]
def kE:Array Value:=#[.bool false,.bool false,.bool false,.bool false,.bool false,.bool false]
def W0(s:List Bool):Nat->Bool:=λ j=>s.getD j false
def vw(n:Nat):W0 (replicate n true)=λ j=>decide (j<n):=by
 funext j;simp only[W0,getD_eq_getElem?_getD,getElem?_replicate];by_cases h:j<n <;> simp[h]
def vx(s:List Bool)(i:Nat)(v:Bool)(hi:i<s.length):H1 (W0 s) i v=W0 (s.set i v):=by
 funext k;simp only[H1,W0,getD_eq_getElem?_getD,getElem?_set];by_cases h:k=i
 .subst h;simp[hi]
 .rw[if_neg h,if_neg (Ne.symm h)]
def Jz(w:List Bool):Nat:=Z4 ((range w.length).filter λ i=>w.getD i false)
def PJ(w:List Bool)(k:Nat):(Jz w).testBit k=w.getD k false:=by
 rw[Jz,Wv,Bool.eq_iff_iff,contains_iff_mem,mem_filter,mem_range];constructor
 .exact λ h=>h.2
 .intro h;refine⟨?_,h⟩;apply Classical.byContradiction;intro b;rw[getD_eq_getElem?_getD,getElem?_eq_none O1]at h;cases h
def pw(w:List Bool)(i:Nat)(hi:i<w.length):Jz (w.set i true)=Jz w||| (1<<<i):=by
 apply Nat.eq_of_testBit_eq;intro k;rw[Nat.testBit_or,PJ,PJ,PU];simp only[getD_eq_getElem?_getD,getElem?_set];by_cases h:k=i
 .subst h;simp[hi]
 .rw[if_neg (Ne.symm h)];simp[h]
def Il(n:Nat):Jz (replicate n false)=0:=by
 apply Nat.eq_of_testBit_eq;intro k;rw[PJ,Nat.zero_testBit,getD_eq_getElem?_getD,getElem?_replicate];by_cases h:k<n <;> simp[h]
def SZ(w:List Bool)(h:w.length<=m):Jz w<2^m:=
 Hc λ x hx=>by
  have:=mem_range.1 (mem_filter.1 hx).1;omega
section
attribute [local irreducible] Qb Zm Wo
def Et(h:BH)(b:Bk)(hb:Zr U h b)(h6:b.rs.length<=6):Qb S 53 #[h.v] (λ v U'=>v=Uw (W0 b.ini.1)/\U'=U) U:=by
 refine Qb.pure' (Qb.of (args:=[_]) OT Qf S1 ?_);have P:=hb.rs.1;have E:W0 b.ini.1=λ j=>decide (j<h.rl):=by rw[<- P];exact vw _
 rw[E]
 repeat apply R1
 conv=>whnf
 intro B U₀ N L;have L:Zi U₀ B #[.slice h.ra h.rl h.rc,.slice h.ca h.cl h.cc]:=L
 conv=>whnf
 intro K Y;refine⟨_,.refl _,?_⟩
 conv=>whnf
 intro G Z;refine⟨_,.refl _,_,(L.lg ((Z2 K _).trans (Z2 G _))).sees3 (o:=0) rfl,Nat,λ i=>[(2,.pb K),(3,.pb G),(8,.int .i64 h.rl),(9,.int .i64 i)],
  λ i U'=>U₀.I=U'.I/\U₀.tok=U'.tok/\U'.M=.obj G (.cells (QM λ j=>decide (j<i)).toArray 119 (0,0))::.obj K (.cells kE 119 (0,0))::U₀.M/\i<=h.rl,λ i=>h.rl-i,0,T1,⟨rfl,rfl,rfl,O1⟩,?_⟩
 rintro i f W⟨Q,ht,H,hi⟩;have F:U₀.lg W:=⟨λ b o h=>by rw[<- Q];exact h,⟨[_,_],H⟩,ht.symm⟩
 repeat apply R1
 conv=>whnf
 apply Qg<;>intro T
 .have hlt:i<h.rl:=by simpa using T
  have w:i<6:=O1
  refine⟨i,⟨rfl,w⟩,rfl,?_⟩;show QX ((Addr.mk G 0 none).add (i*1)) [.bool true] 0 _ _;rw[Nat.mul_one];refine G_ [] H w rfl ?_
  have X:(QM λ j=>decide (j<i)).toArray.setIfInBounds i (.bool true)=(QM λ j=>decide (j<i+1)).toArray:=by
   rw[Dx _ w];congr 1;refine Fs λ k _=>?_;unfold H1;by_cases V:k=i
   .simp[V]
   .rw[if_neg V];have:(k<i)=(k<i+1):=propext O1;simp[this]
  rw[X];refine⟨I1,?_⟩;refine⟨rfl,i+1,T1,⟨Q,ht,rfl,O1⟩,L1⟩
 .have hge:i=h.rl:=by simp at T;omega
  subst hge;refine⟨_,⟨rfl,Q9 [] H⟩,rfl,Yl (vs:=QM λ j=>decide (j<h.rl)) [_] H rfl (Y_ _) ?_⟩;refine⟨_,⟨rfl,Q9 [_] rfl⟩,?_⟩
  conv=>whnf
  exact⟨rfl,(N.lg.trans ⟨F.imm,⟨[_,_],rfl⟩,F.tok⟩)⟩
def qP(b:Nat)(s:Nat->Bool)(hb:Zi U b (QM s).toArray)(r:Nat)(f:r<6):Qb S 112 #[.int .i64 r,.pb b] (λ v U'=>v=.bool (!s r)/\U'=U) U:=by
 refine Qb.of (args:=[_,_]) FA Qf S1 ?_
 repeat apply R1
 refine⟨r,⟨rfl,f⟩,.bool (s r),?_,?_⟩
 .rw[Nat.mul_one,Qo];exact hb.sees (by rw[Nat.zero_add,getElem?_toArray];exact SW s f)
 repeat apply R1
 conv=>whnf
def Ce(a:Option Addr)(len cap:Nat)(l:List Int)(hl:Z6 U a len l)(f:len<2^60)(g:FuncId)(first b:Array Value)(p:Int->Bool)(hf:WXq S U g first b (λ n=>.int .i64 n) l p) :
  Qb S 111 #[.slice a len cap,.func (.func g) first b] (λ v U'=>v=.bool (l.any p)/\U'=U) U:=by
 refine Qb.of (args:=[_,_]) Fz Qf S1 ?_;refine⟨UT.any,(zG (λ n=>.int .i64 n) a len cap l hl.1 hl.2 (λ x=>⟨_,_,rfl⟩) f g first b p hf).mono ?_⟩;rintro v U'⟨rfl,rfl⟩-
 repeat apply R1
 refine⟨?_,rfl⟩;show Value.bool _=_;rw[Y9]
def qK(b:Nat)(s:Nat->Bool)(hb:Zi U b (QM s).toArray)(a:Option Addr)(len cap:Nat)(l:List Int)(hl:Z6 U a len l)(f:len<2^60)(h:∀n∈l,0<=n/\n<6) :
  Qb S 110 #[.slice a len cap,.pb b] (λ v U'=>v=.bool (l.all λ r=>s r.toNat)/\U'=U) U:=by
 refine Qb.of (args:=[_,_]) Fy Qf S1 ?_;refine⟨Fz.any,(Ce a len cap l hl f 112 #[] #[_] (λ r=>!s r.toNat) ⟨FA.any,λ n w=>?_⟩).mono ?_⟩
 .obtain⟨k,rfl⟩:=Int.eq_ofNat_of_zero_le (h n w).1;exact qP b s hb k (by have:=(h _ w).2;omega)
 rintro v U'⟨rfl,rfl⟩-
 repeat apply R1
 refine⟨?_,rfl⟩;show Value.bool _=_;congr 1;rw[Bool.eq_iff_iff];simp
def zH(a:Option Addr)(len cap:Nat)(l:List (List Int))(F:Wx U a len l)(I:len<2^60)(g:FuncId)(first w:Array Value)(p:List Int->Bool)
  (L:(prog.funcs[g]?.any λ fd=>fd.body.isSome&&fd.name != "runtime.NumGoroutine")=true)
  (hf:∀x∈l,∀a' b cap',Z6 U a' b x->b<2^60->Qb S g (first.toList++[Value.slice a' b cap']++w.toList).toArray (λ v U'=>v=.bool (p x)/\U'=U) U) :
  Qb S 149 #[.slice a len cap,.func (.func g) first w] (λ v U'=>v=.int .i64 (XE p l)/\U'=U) U:=by
 refine Qb.of (args:=[_,_]) FT Qf S1 ?_;have hl:=F.1
 repeat apply R1
 refine⟨Nat,λ i=>[(0,.slice a len cap),(1,.func (.func g) first w),(6,.slice a len cap),(7,.int .i64 len),(8,.int .i64 i)],
  λ i U'=>U'=U/\i<=len/\∀x∈l.take i,p x=false,λ i=>len-i,0,T1,⟨rfl,O1,S1⟩,?_⟩
 rintro i f _⟨rfl,hi,h⟩
 repeat apply R1
 conv=>whnf
 apply Qg<;>intro E
 .have hlt:i<len:=by simpa using E
  obtain⟨K,x,vs,hx,rfl,N,⟨a',b,cap',rfl,G,H⟩,P,M⟩:=Q7.at F hlt;have B:=hf x (mem_of_getElem? hx) a' b cap' G H;refine⟨K,i,⟨rfl,rfl,hlt⟩,_,M 0 _ rfl,L,B.mono ?_⟩;rintro v U'⟨rfl,rfl⟩-
  conv=>whnf
  apply Qg<;>intro E
  .repeat apply R1
   conv=>whnf
   exact⟨by rw[VU hx E h],rfl⟩
  .refine⟨I1,?_⟩;refine⟨rfl,i+1,T1,⟨rfl,O1,?_⟩,L1⟩;intro y hy;rw[Wf hx,mem_append]at hy;rcases hy with hy|hy
   .exact h y hy
   .simp at hy;subst hy;exact E
 .have hge:len<=i:=by simpa using E
  repeat apply R1
  refine⟨?_,rfl⟩;rw[take_of_length_le O1]at h;rw[VT h]
def Cf(a:Option Addr)(len cap:Nat)(l:List (List Int))(w:Wx U a len l)(h:len<2^60)(g:FuncId)(first b:Array Value)(p:List Int->Bool)
  (B:(prog.funcs[g]?.any λ fd=>fd.body.isSome&&fd.name != "runtime.NumGoroutine")=true)
  (hf:∀x∈l,∀a' f cap',Z6 U a' f x->f<2^60->Qb S g (first.toList++[Value.slice a' f cap']++b.toList).toArray (λ v U'=>v=.bool (p x)/\U'=U) U) :
  Qb S 109 #[.slice a len cap,.func (.func g) first b] (λ v U'=>v=.bool (l.any p)/\U'=U) U:=by
 refine Qb.of (args:=[_,_]) Fx Qf S1 ?_;refine⟨FT.any,(zH a len cap l w h g first b p B hf).mono ?_⟩;rintro v U'⟨rfl,rfl⟩-
 repeat apply R1
 refine⟨?_,rfl⟩;show Value.bool _=_;rw[Y9]
def zR(P nm:Value)(ag:Value)(gc:Nat)(af:Value)(ga:Option Addr)(gl:Nat)(gs:List (List Int))(hg:Wx U ga gl gs)(I:gl<2^60)(s:Nat->Bool)(W:∀g∈gs,∀n∈g,0<=n/\n<6)(h:BH)(hH:P=h.v)(c:ByteArray)(hN:nm=.string c)(n:Int)(X:ag=.int .i64 n)(L:Option Addr)(N M:Nat)(Z:af=.slice L N M) :
  Qb S 82 #[P,.agg #[nm,ag,.slice ga gl gc,af],Uw s] (λ v U'=>v=.bool (gs.any λ g=>g.all λ r=>s r.toNat)/\U'=U) U:=by
 subst hH hN X Z;refine Qb.pure' (Qb.of (args:=[_,_,_]) U_ Qf S1 ?_)
 repeat apply R1
 conv=>whnf
 intro B3 U1 G Y
 conv=>whnf
 intro Q T H b;have b:Zi T Q #[.string c,.int .i64 n,.slice ga gl gc,.slice L N M]:=b
 conv=>whnf
 intro K V w f;have f:Zi V K (QM s).toArray:=f;have B:=(G.trans H).trans w;refine⟨_,(b.le w).sees3 (o:=2) rfl,Fx.any,(Cf ga gl gc gs (hg.lg B.lg) I 110 #[] #[_] (λ g=>g.all λ r=>s r.toNat) Fy.any λ x hx a' E cap' h1 h2=>qK K s f a' E cap' x h1 h2 (W x hx)).mono ?_⟩;rintro v U'⟨rfl,F⟩-;obtain rfl:=F.symm
 repeat apply R1
 conv=>whnf
 exact B.lg
end
variable{g:FuncId}{H:Option Addr}
def Je.sub{o:Nat}(h:Je U ⟨b,0,none⟩ vs):Je U ((Addr.mk b 0 none).add o) ((vs.drop o).take n):=by
 intro i v f
 have h1:vs[o+i]?=some v:=by
  have w:=(Zz4 f);rw[getElem?_take]at f;split at f
  .rwa [getElem?_drop]at f
  .cases f
 have:=h (o+i) v h1;rw[Qo]at this ⊢;rw[Qo]
 rwa [Nat.zero_add,<- Nat.zero_add o,Nat.add_assoc,Nat.zero_add]at this ⊢
def WN(X:List Qw)(w:U.M=X++.obj b (.cells c e (0,0))::M₀)(hi:i<c.size)(B:v.single=true)
  (h:∀f:Qa T,f.I=U.I->f.tok=U.tok->f.M=X++.obj b (.cells (c.setIfInBounds i v) e (0,0))::M₀->Q f):QX ((Addr.mk b 0 none).add i) [v] 0 (λ U'=>∃f,Qv U' f/\Q f) U:=
 G_ X w hi B (h _ rfl rfl rfl)
def Wd(X:List Qw)(B:U.M=X++.obj b (.cells c e (0,0))::M₀)(w:c.size=vs.length)(E:∀v∈vs,v.single=true)
  (h:∀f:Qa T,f.I=U.I->f.tok=U.tok->f.M=X++.obj b (.cells vs.toArray e (0,0))::M₀->Q f):QX ⟨b,0,none⟩ vs 0 (λ U'=>∃f,Qv U' f/\Q f) U:=
 Yl X B w E (h _ rfl rfl rfl)
def Qb.out{R:Value->Nat->Obj->Prop}(h:Qb q g c (λ v U'=>∃b o A,R v b o/\U'.M=.obj b o::(A++U.M)/\(∀x F,U.I x=some F->U'.I x=some F)/\U'.tok=U.tok) U) :
  Qb q g c (λ v U'=>∃b o,R v b o/\U'.I b=some o/\U.le U') U:=by
 refine h.sep λ v U' H⟨b,o,A,w,E,G,ht⟩=>?_;have h1:Qv U' { U' with M:=.obj b o::U.M }:=Zx (by rw[E];exact(sublist_append_right A U.M).cons₂ _)
 have B:JS { U' with M:=.obj b o::U.M }:=λ r w=>H r (by rw[E];rcases mem_cons.1 w with rfl|w;{simp};simp[w])
 obtain⟨U'',K,L,N⟩:=Iv (U':={ U' with M:=.obj b o::U.M }) B rfl G rfl ht;exact⟨U'',h1.trans K,b,o,w,N,L⟩
abbrev HW(a:Option Addr)(len cap:Nat)(s:Nat->Bool)(w:Nat):Value:=.agg #[.slice a len cap,.bool (s 0),.bool (s 1),.bool (s 2),.bool (s 3),.bool (s 4),.bool (s 5),.int .i64 w]
def QR(v:Value)(s:Nat->Bool)(w:Nat):List Value:=[v,.bool (s 0),.bool (s 1),.bool (s 2),.bool (s 3),.bool (s 4),.bool (s 5),.int .i64 w]
def xD(v:Value)(s:Nat->Bool)(w:Nat)(h:j<6)(u:Bool):(QR v s w).toArray.setIfInBounds (1+j) (.bool u)=(QR v (H1 s j u) w).toArray:=by
 rcases G9 h with rfl|rfl|rfl|rfl|rfl|rfl <;> rfl
def Hz(U:Qa T)(v:Value)(o:List Nat)(x:List Bool×List Bool):Prop:=∃a cap,v=HW a o.length cap (W0 x.1) (Jz x.2)/\Z6 U a o.length (o.map λ(k:Nat)=>(k:Int))/\o.length<=cap/\∀b,a=some b->b.spot=none
def Hz.lg{U':Qa T}{v:Value}{o:List Nat}{x:List Bool×List Bool}(h:Hz U v o x)(k:U.lg U'):Hz U' v o x:=let ⟨a,c,e,h1,h2⟩:=h;⟨a,c,e,h1.lg k,h2⟩
def Z6.src'(h:Z6 U H len l):Src U H (l.map λ n=>.int .i64 n):=by
 cases l with
 |nil=>
  cases H with
  |none=>exact .inl ⟨rfl,rfl⟩
  |some f=>exact .inr ⟨f,rfl,λ i v b=>by simp at b⟩
 |cons x l=>
  obtain⟨f,e,F,_⟩:=h.2 0 x rfl;refine .inr ⟨f,e,λ i v b=>?_⟩;rw[getElem?_map]at b;cases hx:(x::l)[i]? with
  |none=>rw[hx]at b;cases b
  |some y=>
   rw[hx]at b;cases b;obtain⟨B,e',w,E⟩:=h.2 i y hx;rw[e]at e';cases e'
   rwa [Nat.mul_one]at E
section
attribute [local irreducible] Qb Zm Wo
def D_(h:BH)(b:Bk)(hb:Zr U h b)(af:b.Ok)(a:Option Addr)(cap:Nat)(o:List Nat)(x:List Bool×List Bool)(ho:Z6 U a o.length (o.map λ(k:Nat)=>(k:Int)))(bs:∀ad,a=some ad->ad.spot=none)(a2:o.length<=cap)(h5:o.length<=5)
  (h1:x.1.length=b.rs.length) (h2:x.2.length=b.cs.length) (i:Nat) (hi:i<b.cs.length) :
  Qb S 55 #[h.v,HW a o.length cap (W0 x.1) (Jz x.2),.int .i64 i] (λ v U'=>Hz U'.frz v (o++[i]) (b.stp x i)/\U.le U') U:=by
 have bz:=hb.cs.1;have b8:=hb.rs.1;have b3:=af.nc;have b5:=af.nr
 let R:Value->Nat->Obj->Prop:=λ v B O=>∃(cp:Nat)(c:Array Value),v=HW (some ⟨B,0,none⟩) (o.length+1) cp (W0 (b.stp x i).1) (Jz (b.stp x i).2)/\O=.cells c 3 (0,0)/\o.length+1<=cp/\∀(k:Nat)(u:Value),((o++[i]).map λ(k:Nat)=>Value.int .i64 (k:Int))[k]?=some u->c[k]?=some u
 have be:Qb S 55 #[h.v,HW a o.length cap (W0 x.1) (Jz x.2),.int .i64 i] (λ v U'=>∃B O A,R v B O/\U'.M=.obj B O::(A++U.M)/\(∀y E,U.I y=some E->U'.I y=some E)/\U'.tok=U.tok) U:=by
  refine Qb.of (args:=[_,_,_]) OU Qf S1 ?_;obtain⟨c,an⟩:∃c,b.cs[i]?=some c:=⟨_,getElem?_eq_getElem hi⟩;have a3:b.cas i=c:=by simp[Bk.cas,getD_eq_getElem?_getD,an]
  have a4:=mem_of_getElem? an;have bh:=af.ag c a4;have bo:=af.gs c a4;have bt:Jz x.2<2^5:=SZ _ O1;have bd:Jz x.2<2^60:=Nat.lt_trans bt D1
  have h6:∀g∈c.gs,∀n∈g,0<=n/\n<6:=λ g hg n hn=>by
   have:=(bo g hg).2 n hn;unfold Bk.nr at this;omega
  have H:c.ag.toNat<6/\c.ag=(c.ag.toNat:Int)/\c.ag.toNat<x.1.length:=by unfold Bk.nr at bh;omega
  obtain⟨ce,-,a6,-⟩:=H4.i
  have P:b.stp x i=if(c.gs.any λ g=>g.all λ r=>W0 x.1 r.toNat)then(x.1.set c.ag.toNat false,x.2.set i true)else x:=by
   unfold Bk.stp L_;rw[a3];rfl
  repeat apply R1
  conv=>whnf
  intro B Q G hB;have hB:Zi Q B #[.slice h.ra h.rl h.rc,.slice h.ca h.cl h.cc]:=hB
  conv=>whnf
  intro b4 b0
  conv=>whnf
  intro b6 b1;refine⟨_,.refl _,?_⟩
  let L:List Value:=QR (.slice a o.length cap) (W0 x.1) (Jz x.2)
  have hM:((Q.put b4 (.cells L.toArray 122)).put b6 (.cells #[.nl,.bool false,.bool false,.bool false,.bool false,.bool false,.bool false,.int .i64 0] 122)).M=[.obj b6 (.cells #[.nl,.bool false,.bool false,.bool false,.bool false,.bool false,.bool false,.int .i64 0] 122 (0,0))]++.obj b4 (.cells L.toArray 122 (0,0))::Q.M:=rfl;have bq:=Q9 [_] hM;have aq:=bq.cell (i:=0) (v:=.slice a o.length cap) rfl;refine⟨_,aq,_,aq,_,aq,?_⟩
  conv=>whnf
  refine jz Px a6 rfl rfl rfl a2 bs ?_
  conv=>whnf
  intro bf a5;refine Zl a5 λ U2 ak X=>?_;have X:Zi U2 bf #[.int .i64 i]:=X;have ao:U.lg U2:=G.lg.trans ((Z2 b4 _).trans ((Z2 b6 _).trans ak.lg));have f:Q.lg U2:=(Z2 b4 _).trans ((Z2 b6 _).trans ak.lg);have ay:U2.M=_:=ak.own.trans hM
  conv=>whnf
  refine Du (cs:=(o.map λ(k:Nat)=>(k:Int)).map λ n=>.int .i64 n) (new:=[.int .i64 i]) H4 rfl rfl (Z6.src' (ho.lg ao)) S1 (.inr ⟨_,rfl,X.rd⟩) rfl S3 (λ h0=>by cases h0) (λ _ Z cn F b2 a7 b9 bj=>?_)
  let L1:List Value:=QR (.slice (some ⟨Z,0,none⟩) (o.length+1) F) (W0 x.1) (Jz x.2)
  have az:(U2.put Z (.cells cn 3)).M=[.obj Z (.cells cn 3 (0,0)),.obj b6 (.cells #[.nl,.bool false,.bool false,.bool false,.bool false,.bool false,.bool false,.int .i64 0] 122 (0,0))]++.obj b4 (.cells L.toArray 122 (0,0))::Q.M:=by
   show _::U2.M=_;rw[ay];rfl
  obtain⟨ad,c',ga,gl,gc,aa,al,ac,bu,bk,bw,a8,hg,bm,ha,bx,bv⟩:=(hb.lg G.lg).case (show i<h.cl by omega);obtain rfl:c=c':=Option.some.inj (an.symm.trans bu);refine⟨rfl,G_ (i:=0) [_,_] az (by show 0<8;omega) rfl ?_⟩;refine⟨_,Qa.sees.lg (hB.sees3 (o:=1) rfl) ⟨f.imm,⟨[_,_,_],rfl⟩,f.tok⟩,ad,i,⟨bk,rfl,O1⟩,_,⟨rfl,a8.lg ⟨f.imm,⟨[_,_,_],rfl⟩,f.tok⟩⟩,?_⟩
  conv=>whnf
  intro b7 bl;refine⟨_,.refl _,rfl,Zv (vs:=[.string c.nm,.int .i64 c.ag,.slice ga gl gc,.slice aa al ac]) bl rfl Zz1 λ U3 am K=>?_⟩;have ab:U3.M=[.obj Z (.cells cn 3 (0,0)),.obj b6 (.cells #[.nl,.bool false,.bool false,.bool false,.bool false,.bool false,.bool false,.int .i64 0] 122 (0,0))]++.obj b4 (.cells L1.toArray 122 (0,0))::Q.M:=am.own;have T:∀y E,Q.I y=some E->U3.I y=some E:=λ y E hy=>am.imm y E (f.imm y E hy);have au:U3.tok=Q.tok:=am.tok.trans f.tok;have N:Q.lg U3:=⟨T,⟨[_,_,_],ab⟩,au⟩;have Y:=Q9 [_,_] ab;refine⟨_,⟨rfl,(hB.lg N).rd⟩,?_⟩;refine⟨_,⟨rfl,K.rd⟩,?_⟩;refine⟨QM (W0 x.1),⟨rfl,Y.sub (o:=1) (n:=6)⟩,U_.any,(zR _ _ _ gc _ ga gl c.gs (hg.lg N) bm (W0 x.1) h6 h rfl c.nm rfl c.ag rfl aa al ac rfl).mono ?_⟩;rintro v U'⟨rfl,bg⟩-;obtain rfl:=bg.symm
  have done:∀s w,b.stp x i=(s,w)->R (HW (some ⟨Z,0,none⟩) (o.length+1) F (W0 s) (Jz w)) Z (.cells cn 3 (0,0)):=λ s w e=>
   ⟨F,cn,by rw[e],rfl,a7,λ k u hu=>bj k u (by simpa[Function.comp_def]using hu)⟩
  cases aj:(c.gs.any λ g=>g.all λ r=>W0 x.1 r.toNat)with
  |true=>
   rw[aj,if_pos rfl]at P;have br:=Yk (show i<60 by omega);refine⟨_,Y.cell (i:=7) rfl,O1,?_⟩
   conv=>whnf
   intro U5 ae _;have a0:=ae.own.trans ab;have av:∀y E,Q.I y=some E->U5.I y=some E:=λ y E hy=>ae.imm y E (T y E hy);have a9:U5.tok=Q.tok:=ae.tok.trans au;have K:=K.le ae;have key:Jz x.2||| (1<<<i)=Jz (x.2.set i true):=(pw x.2 i O1).symm
   have e2:IntKind.wrap .i64 ((BitVec.ofInt (IntKind.bits .i64) ((Jz x.2:Nat):Int)||| BitVec.ofInt (IntKind.bits .i64) (IntKind.wrap .i64 ((1:Int)*2^(min ((i:Int).toNat) (IntKind.bits .i64))))).toNat:Int)=((Jz (x.2.set i true):Nat):Int):=by
    rw[br,Uo bd (P8 O1),key]
   refine⟨rfl,rfl,?_⟩;rw[e2];refine WN (i:=7) (v:=.int .i64 (Jz (x.2.set i true):Nat)) [_,_] a0 (by show 7<8;omega) rfl λ U6 ah ba V=>?_;have V:U6.M=[_,_]++.obj b4 (.cells (QR (.slice (some ⟨Z,0,none⟩) (o.length+1) F) (W0 x.1) (Jz (x.2.set i true))).toArray 122 (0,0))::Q.M:=V;have a1:Zi U6 b7 #[.string c.nm,.int .i64 c.ag,.slice ga gl gc,.slice aa al ac]:=K.imI λ y E hy=>by rw[ah];exact hy
   refine⟨_,a1.sees3 (o:=1) rfl,c.ag.toNat,⟨H.2.1,H.1⟩,rfl,?_⟩;rw[show((Addr.mk b4 0 none).add 1).add (c.ag.toNat*1)=(Addr.mk b4 0 none).add (1+c.ag.toNat) by rw[Qo,Qo,Qo,Nat.mul_one,Nat.zero_add,Nat.zero_add]];refine WN (i:=1+c.ag.toNat) (v:=.bool false) [_,_] V (by show 1+c.ag.toNat<8;omega) rfl λ U7 aw bb W=>?_;rw[xD _ _ _ H.1,vx _ _ _ H.2.2]at W;have ap:=Q9 [_,_] W;refine⟨_,⟨rfl,ap⟩,rfl,Wd (vs:=QR (.slice (some ⟨Z,0,none⟩) (o.length+1) F) (W0 (x.1.set c.ag.toNat false)) (Jz (x.2.set i true))) [_] W rfl (by simp[QR,Value.single]) λ U8 ax bc ai=>?_⟩;refine⟨_,⟨rfl,Q9 [_] ai⟩,?_⟩
   conv=>whnf
   exact⟨Z,_,[_,_],done _ _ P,by rw[ai,<- G.own];rfl,λ y E hy=>by rw[ax,aw,ah];exact av y E (G.imm y E hy),by rw[bc,bb,ba,a9];exact G.tok⟩
  |false=>
   rw[aj]at P;refine⟨_,⟨rfl,Y⟩,rfl,Yl (vs:=L1) [_] ab rfl (by simp[L1,QR,Value.single]) ?_⟩;refine⟨_,⟨rfl,Q9 [_] rfl⟩,?_⟩
   conv=>whnf
   exact⟨Z,_,[_,_],done x.1 x.2 P,by show _=_;rw[<- G.own];rfl,λ y E hy=>T y E (G.imm y E hy),au.trans G.tok⟩
 refine(Qb.out (R:=R) be).mono ?_;rintro v U'⟨B,O,⟨cp,c,rfl,rfl,h3,h4⟩,hB,bp⟩;refine⟨⟨some ⟨B,0,none⟩,cp,S1,?_,by simpa using h3,by rintro _⟨⟩;rfl⟩,bp⟩;have bi:Zi U'.frz B c:=⟨3,(0,0),hB⟩;refine⟨S1,λ k y hy=>⟨_,rfl,rfl,?_⟩⟩;rw[Nat.mul_one,Qo];refine bi.sees ?_;rw[Nat.zero_add];refine h4 k _ ?_;rw[getElem?_map]at hy ⊢;cases hz:(o++[i])[k]? with
 |none=>rw[hz]at hy;cases hy
 |some z=>rw[hz]at hy;cases hy;rfl
end
variable{dets:List Nat}{params:Array Tmp}{sa Z:C}{β:Zk T}{δ:Nat->Zk T}{ds:List Deferred}{first:Array Value}
def IN(S:Sys P T)(l n:Nat)(R:Nat->List Value->Qa T->Prop)(I:Nat->Qa T->Prop)(E:Qa T->Prop):Prop:=
 ∀(k:Nat)(p:List Value)(f:Qa T)(K:Value->Qa T->Prop),k<n->R k p f.frz->I k f->(∀b,f.frz.lg b->I (k+1) b->K (.bool true) b)->(∀b,E b->K (.bool false) b)->Zm S l p K f
def Yq(S:Sys P T)(g:FuncId)(args:Array Value)(l n:Nat)(R:Nat->List Value->Qa T->Prop)(U:Qa T):Prop:=
 ∀(I:Nat->Qa T->Prop)(E:Qa T->Prop),(∀k b f,b.le f->I k b->I k f)->IN S l n R I E->I 0 U->Qb S g args (λ _ U'=>I n U'\/E U') U
def IB(hm:P.follows .mixedOrders=true){r:Zk T}
  (len:Nat) (R:Nat->List Value->Qa T->Prop) (Inv:Nat->Qa T->Prop) (X:Nat->Qa T->Prop) (Y:Qa T->Prop)
  (hc:Zf f hi=.func (.func g) first cs) (hp:params.toList.all (λ t=>decide (t<N))=true) (hg:(P.funcs[g]?.any λ fd=>fd.body.isSome&&fd.name != "runtime.NumGoroutine")=true)
  (ab:∀l G,U.frz.lg G->Yq q g (first.toList++[Value.func (.yield l) #[] #[]]++cs.toList).toArray l len R G)
  (V:∀k p U,R k p U->p.length=params.size) (ac:∀k G Q,G.le Q->Inv k G->Inv k Q) (h0:Inv 0 U)
  (L:∀(l:Nat)(A B D:Qw)(k:Nat)(p:List Value)(U₀:Qa T)(KN:Zk T)(KX:Nat->Zk T)(KR KA:Zk T),k<len->R k p U₀.frz->Inv k U₀ ->
   (∀w F b,U₀.frz.lg b->Inv (k+1) b->KN w F (b.on B D))->(∀i w F b,X i b->KX i w F (b.on B D))->(∀w F b,Y b->KR w F (b.on B D)) ->
   (∀w(G:Qa T),ZT q j (some l) Z KN KX KR w [] (G.on B D)->KA w [] (G.on A D)) ->
   ZT q j (some l) sa KA (λ _ _ _ _=>False) (λ _ _ _=>False) (HX f params.toList p) [] (U₀.on A D))
  (hn:∀(d l:Nat)(A:Obj)b,Inv len b->β f (⟨.collected d,#[]⟩::ds) (b.on (.obj l A) (.obj d (.deferred (some [])))))
  (hx:∀(d l:Nat)(A:Obj)i b,X i b->δ i f (⟨.collected d,#[]⟩::ds) (b.on (.obj l A) (.obj d (.deferred (some [])))))
  (hr:∀(d l:Nat)(A:Obj)b,Y b->r f (⟨.collected d,#[]⟩::ds) (b.on (.obj l A) (.obj d (.deferred (some []))))) :
  Wo q j none N mu dets hi params sa Z β δ r f ds U:=by
 show ZT q j none (.rng N mu dets hi params sa Z) β δ r f ds U;refine Ls hm hc hp hg λ l d lo hd hl ad hR=>?_
 let D:Qw:=.obj d (.deferred (some []))
 let I:Nat->Qa T->Prop:=λ k G=>∃U₀,Inv k U₀/\G=U₀.on (.obj l (lo .ready none)) D
 let E:Qa T->Prop:=λ G=>∃U₀,(∃i,X i U₀/\G=U₀.on (.obj l (lo .done (some (.exit i)))) D)\/(Y U₀/\G=U₀.on (.obj l (lo .done (some .ret))) D)
 have aa:U.frz.lg (U.on (.obj l (lo .ready none)) D):=⟨λ _ _ h=>h,Zz3,rfl⟩;refine(ab l _ aa I E ?_ ?_ ⟨U,h0,rfl⟩).mono ?_
 .rintro k _ Q hle' ⟨U₀,hI,rfl⟩;refine⟨{ Q with M:=U₀.M },ac k U₀ _ ⟨hle'.imm,rfl,hle'.tok⟩ hI,?_⟩;obtain⟨ae,af,ag⟩:=Q;have:=hle'.own;simp only[Qa.on]at this ⊢;rw[this]
 .rintro k p _ K hk hRk ⟨U₀,hI,rfl⟩ hK1 hK2;refine hR p K _ (V k p _ hRk) (mem_cons_self ..) ?_;refine L l _ (.obj l (lo .busy none)) D k p U₀ _ _ _ _ hk hRk hI (λ w F b W h=>?_) (λ i w F b h=>?_) (λ w F b h=>?_) (λ w G h=>⟨rfl,_,.here,h⟩)
  .exact⟨_,.here,hK1 _ ⟨W.imm,Zz3,W.tok⟩ ⟨b,h,rfl⟩⟩
  .exact⟨_,.here,hK2 _ ⟨b,.inl ⟨i,h,rfl⟩⟩⟩
  .exact⟨_,.here,hK2 _ ⟨b,.inr ⟨h,rfl⟩⟩⟩
 .rintro v b (⟨U₀,hI,rfl⟩|⟨U₀,⟨i,hX,rfl⟩|⟨hR',rfl⟩⟩) -
  .exact⟨.ready,none,_,S1,.here,hn d l _ U₀ hI⟩
  .exact⟨.done,some (.exit i),_,S1,.here,hx d l _ i U₀ hX⟩
  .exact⟨.done,some .ret,_,S1,.here,hr d l _ U₀ hR'⟩
def Bk.ords_succ(b:Bk)(k:Nat)(o:List Nat):b.ords (k+1) o=(range b.cs.length).flatMap λ i=>if b.can o i then b.ords k (o++[i])else[]:=rfl
def Bk.ordsTo(b:Bk)(k:Nat)(o:List Nat)(m:Nat):List (List Nat):=(range m).flatMap λ i=>if b.can o i then b.ords k (o++[i])else[]
def Bk.ordsTo_succ(b:Bk)(k:Nat)(o:List Nat)(m:Nat):b.ordsTo k o (m+1)=b.ordsTo k o m++(if b.can o m then b.ords k (o++[m])else[]):=by
 simp[Bk.ordsTo,range_succ]
def Bk.ordsTo_le(b:Bk)(k:Nat)(o:List Nat)(h:m<=b.cs.length):∃r,b.ords (k+1) o=b.ordsTo k o m++r:=by
 refine⟨((range (b.cs.length-m)).map (m+·)).flatMap λ i=>if b.can o i then b.ords k (o++[i])else[],?_⟩;rw[Bk.ords_succ,Bk.ordsTo,<- flatMap_append];congr 1;rw[<- range_add];congr 1;omega
structure Bk.Run(b:Bk)(o:List Nat):Prop where
 low:∀i∈o,i<b.cs.length
 len:o.length<=b.cs.length
def Bk.ends_len(b:Bk):∀(o:List Nat),(b.ends o).1.length=b.rs.length/\(b.ends o).2.length=b.cs.length:=by
 intro o
 have key:∀(o:List Nat)(x:List Bool×List Bool),x.1.length=b.rs.length->x.2.length=b.cs.length->(o.foldl b.stp x).1.length=b.rs.length/\(o.foldl b.stp x).2.length=b.cs.length:=by
  intro o
  induction o with
  |nil=>exact λ x h1 h2=>⟨h1,h2⟩
  |cons i o f=>
   intro x h1 h2;refine f _ ?_ ?_ <;> unfold Bk.stp <;> split <;> simp[h1,h2]
 exact key o b.ini (by simp[Bk.ini]) (by simp[Bk.ini])
def OG(o:List Nat):Z4 ((o.map λ(k:Nat)=>(k:Int)).map Int.toNat)=Z4 o:=by
 congr 1;rw[map_map]
 conv=>rhs;rw[<- map_id o]
 exact map_congr_left λ k _=>S1
structure GV(U:Qa T)(h:BH)(l B b2 b3:Nat):Prop where
 bk:Zi U B #[.slice h.ra h.rl h.rc,.slice h.ca h.cl h.cc]
 yl:Zi U b2 #[.func (.yield l) #[] #[]]
 nx:Zi U b3 #[.func (.func 84) #[] #[.pb B,.pb b2,.pb b3]]
def GV.lg{U':Qa T}{h:BH}{l B b f:Nat}(k:GV U h l B b f)(hl:U.frz.lg U'):GV U' h l B b f:=⟨k.bk.imI hl.imm,k.yl.imI hl.imm,k.nx.imI hl.imm⟩
def GJ(b:Bk)(k:Nat)(p:List Value)(U:Qa T):Prop:=∃o v,b.all[k]?=some o/\p=[v]/\Hz U v o (b.ends o)
variable{I:Nat->Qa T->Prop}{E:Qa T->Prop}
section
attribute [local irreducible] Qb Zm Wo
def zJ(h:BH)(b:Bk)(au:b.Ok){B b2 b3:Nat}(an:∀k W U2,W.le U2->I k W->I k U2)(be:IN S len b.all.length (GJ b) I E) :
  ∀(k:Nat)(o:List Nat)(j:Nat)(U:Qa T)(v:Value),o.length+k=b.cs.length->(∀i∈o,i<b.cs.length)->Zr U.frz h b->GV U h len B b2 b3->Hz U.frz v o (b.ends o)->(∀(i:Nat)q,(b.ords k o)[i]?=some q->b.all[j+i]?=some q)->I j U ->
   Qb S 84 #[v,.pb B,.pb b2,.pb b3] (λ v' U'=>(v'=.bool true/\I (j+(b.ords k o).length) U'/\U.frz.lg U')\/(v'=.bool false/\E U')) U:=by
 intro k
 induction k with
 |zero=>
  rintro o j U _ a2 V hb hn⟨a,cap,rfl,ho,ae,av⟩Y hI;have ba:=hb.cs.1;refine Qb.of (args:=[_,_,_,_]) Ki Qf S1 ?_
  repeat apply R1
  conv=>whnf
  intro b4 W M G;have G:Zi W b4 (QR (.slice a o.length cap) (W0 (b.ends o).1) (Jz (b.ends o).2)).toArray:=G;have F:=hn.lg M.lg.frz;refine⟨_,G.sees3 (o:=0) rfl,_,F.bk.sees3 (o:=1) rfl,?_⟩
  repeat apply R1
  conv=>whnf
  apply Qg<;>intro X
  .refine⟨_,F.yl.sees3 (o:=0) rfl,_,⟨rfl,G.reads (vs:=QR (.slice a o.length cap) (W0 (b.ends o).1) (Jz (b.ends o).2)) (λ k v hv=>by simpa using hv)⟩,?_⟩
   conv=>whnf
   have aw:=Y 0 o rfl;refine be j _ _ _ (Zz4 aw) ⟨o,_,aw,rfl,a,cap,rfl,ho.lg M.lg.frz2,ae,av⟩ (an _ _ _ M hI) (λ U2 ai L=>?_) (λ U2 hE=>?_)
   .repeat apply R1
    conv=>whnf
    exact .inl ⟨rfl,L,M.lg.frz2.trans ai⟩
   .repeat apply R1
    conv=>whnf
    exact .inr ⟨rfl,hE⟩
  .simp at X;omega
 |succ k ih=>
  rintro o j U _ a2 V hb hn⟨a,cap,rfl,ho,ae,av⟩Y hI;have ba:=hb.cs.1;have bg:=au.nc;have a4:Z4 o<2^60:=Hc λ x hx=>by have:=V x hx;omega
  have a6:∀n∈o.map (λ(k:Nat)=>(k:Int)),0<=n/\n<60:=by
   intro n hn;obtain⟨k,hk,rfl⟩:=mem_map.1 hn;have:=V k hk;omega
  refine Qb.of (args:=[_,_,_,_]) Ki Qf S1 ?_
  repeat apply R1
  conv=>whnf
  intro b4 W M G;have G:Zi W b4 (QR (.slice a o.length cap) (W0 (b.ends o).1) (Jz (b.ends o).2)).toArray:=G;have H:=M.lg.frz2;have F:=hn.lg M.lg.frz;refine⟨_,G.sees3 (o:=0) rfl,_,F.bk.sees3 (o:=1) rfl,?_⟩
  repeat apply R1
  conv=>whnf
  apply Qg<;>intro X
  .simp at X;omega
  clear X;have ab:=Z8 (S:=S) a o.length cap _ ((ho.lg H).lg Qr) O1 a6;rw[OG]at ab;refine⟨_,G.sees3 (o:=0) rfl,XO.any,ab.go λ _=>?_⟩;refine⟨_,F.bk.sees3 (o:=1) rfl,Nat,λ m=>[(1,.pb B),(2,.pb b2),(3,.pb b3),(4,.pb b4),(6,.int .i64 (Z4 o:Nat)),(25,.slice h.ca h.cl h.cc),(26,.int .i64 h.cl),(27,.int .i64 m)],
   λ m U'=>W.frz.lg U'/\m<=h.cl/\I (j+(b.ordsTo k o m).length) U',λ m=>h.cl-m,0,T1,⟨Qr,O1,an _ _ _ M hI⟩,?_⟩
  rintro m f U2⟨ai,hm,L⟩;have ap:Z9 ((m:Int)+1):=I1
  have K:=b.ordsTo_succ k o m
  repeat apply R1
  conv=>whnf
  apply Qg<;>intro X
  .have hmt:m<h.cl:=by simpa using X
   obtain⟨ad,c,ga,gl,gc,aa,al,ac,hx,bb,bf,bd,-,-,ha,a7,a3⟩:=(hb.lg (H.trans ai)).case hmt;have a8:=Bk.aft1_at hx;have P:=au.toLow.lt a3;have N:b.can o m=(!o.contains m&&(Jf b.A m).all λ k=>o.contains k):=rfl;refine⟨ad,m,⟨bb,rfl,hmt⟩,_,⟨rfl,bd⟩,?_⟩
   conv=>whnf
   intro b8 bc;refine⟨_,.refl _,rfl,Zv (vs:=[.string c.nm,.int .i64 c.ag,.slice ga gl gc,.slice aa al ac]) bc rfl Zz1 λ U3 aj a0=>?_⟩;have w:W.frz.lg U3:=ai.trans aj.lg
   have skip:b.can o m=false->I (j+(b.ordsTo k o (m+1)).length) U3:=λ e=>by
    rw[K,e];simp only[Bool.false_eq_true,if_false,append_nil];exact an _ _ _ aj L
   have Z:=HT a4 (show m<60 by omega);rw[Wv]at Z;refine⟨O1,?_⟩
   repeat apply R1
   conv=>whnf
   apply Jt<;>intro X
   .have hno:o.contains m=false:=Z.symm.trans X;rw[hno]at N;have ak:=Z8 (S:=S) aa al ac c.af (ha.lg aj.lg) a7 P;have a9:Z4 (c.af.map Int.toNat)<2^60:=Hc (toNat_lt P);have key:_↔(Jf b.A m).all (λ k=>(Z4 o).testBit k)=true:=(Sv a9 a4).trans ((Su P).trans (by rw[a8]))
    have a5:(Jf b.A m).all (λ k=>(Z4 o).testBit k)=(Jf b.A m).all λ k=>o.contains k:=by
     congr 1;funext k;exact Wv o k
    rw[a5]at key;refine⟨_,a0.sees3 (o:=3) rfl,XO.any,ak.go λ _=>?_⟩
    repeat apply R1
    conv=>whnf
    apply Qg<;>intro X
    .have hno2:b.can o m=false:=by
      rw[N];cases hh:(Jf b.A m).all (λ k=>o.contains k)with
      |false=>rfl
      |true=>exact absurd (key.2 hh) (bne_iff_ne.1 X)
     refine⟨ap,?_⟩
     conv=>whnf
     exact⟨rfl,m+1,T1,⟨w,O1,skip hno2⟩,L1⟩
    .have hyes:b.can o m=true:=by
      rw[N];have:(Jf b.A m).all (λ k=>o.contains k)=true:=key.1 (bne_eq_false_iff_eq.1 X);rw[this];rfl
     rw[hyes,if_pos rfl]at K;have ao:=F.lg w;have az:=G.imI w.imm;have ah:=b.ends_len o;refine⟨_,ao.nx.sees3 (o:=0) rfl,_,⟨rfl,ao.bk.rd⟩,?_⟩;refine⟨_,⟨rfl,az.reads (vs:=QR (.slice a o.length cap) (W0 (b.ends o).1) (Jz (b.ends o).2)) (λ k v hv=>by simpa using hv)⟩,?_⟩;refine⟨λ v U'=>Hz U'.frz v (o++[m]) (b.ends (o++[m])),λ v W U2 hv am=>hv.lg am.lg.frz2,λ U' am hC=>?_,λ v hv=>?_⟩
     .refine⟨OU.any,(D_ h b (hb.lg ((H.trans w).trans am.lg)) au a cap o (b.ends o) (ho.lg ((H.trans w).trans am.lg)) av ae O1 ah.1 ah.2 m O1).mono ?_⟩;rintro v U''⟨hv,a1⟩-;exact⟨U'',.refl _,by rw[b.ends_snoc];exact hv,a1⟩
     obtain⟨_,-,-,a',c',rfl,-⟩:=hv
     conv=>whnf
     intro U4 ay hC;obtain⟨-,hv⟩:=hC;have Q:W.frz.lg U4:=w.trans ay.lg;obtain⟨r,hr⟩:=b.ordsTo_le k o (show m+1<=b.cs.length by omega);rw[K]at hr
     refine⟨Ki.any,(ih (o++[m]) (j+(b.ordsTo k o m).length) U4 _ S3 (λ i hi=>by
      rcases mem_append.1 hi with hi|hi
      .exact V i hi
      .rw[mem_singleton.1 hi];omega) (hb.lg (H.trans (show W.frz.lg U4.frz from Q.frz2))) (F.lg Q) hv (λ i q hq=>by
       rw[Nat.add_assoc];refine Y _ q ?_;rw[hr,append_assoc,getElem?_append_right O1,Nat.add_sub_cancel_left,getElem?_append_left (Zz4 hq)];exact hq) (an _ _ _ (aj.trans ay) L)).mono ?_⟩
     rintro v' U5 (⟨rfl,ax,aq⟩|⟨rfl,hE⟩) -
     .have hlg5:W.frz.lg U5:=(show W.frz.lg U4.frz from Q.frz2).trans aq
      repeat apply R1
      refine⟨ap,?_⟩
      conv=>whnf
      exact⟨rfl,m+1,T1,⟨hlg5,O1,by rw[K,length_append,<- Nat.add_assoc];exact ax⟩,L1⟩
     .repeat apply R1
      conv=>whnf
      exact .inr ⟨rfl,hE⟩
   .have hyes:o.contains m=true:=Z.symm.trans X;rw[hyes]at N
    repeat apply R1
    refine⟨ap,?_⟩
    conv=>whnf
    exact⟨rfl,m+1,T1,⟨w,O1,skip N⟩,L1⟩
  .have hge:m=b.cs.length:=by simp at X;omega
   subst hge
   repeat apply R1
   conv=>whnf
   exact .inl ⟨rfl,L,H.trans ai⟩
def DP(h:BH)(b:Bk)(hb:Zr U.frz h b)(M:b.Ok)(hB:Zi U j #[.slice h.ra h.rl h.rc,.slice h.ca h.cl h.cc]) :
  Yq S 83 #[.func (.yield n) #[] #[],.pb j] n b.all.length (GJ b) U:=by
 intro I E N X h0;refine Qb.of (args:=[_,_]) Tq Qf S1 ?_
 conv=>whnf
 intro P U1 Q F;have F:Zi U1 P #[.func (.yield n) #[] #[]]:=F
 conv=>whnf
 intro b3 V;refine⟨_,.refl _,rfl,Zv (vs:=[.func (.func 84) #[] #[.pb j,.pb P,.pb b3]]) V rfl Zz1 λ U2 H T=>?_⟩;have G:=Q.trans H;have W:GV U2 h n j P b3:=⟨hB.le G,F.le H,T⟩;refine⟨_,W.nx.sees3 (o:=0) rfl,_,⟨rfl,W.bk.rd⟩,?_⟩;refine⟨Uw (W0 b.ini.1),λ U' L _=>?_,?_⟩
 .refine⟨OT.any,(Et h b ((hb.lg (G.trans L).lg.frz2).lg Qr) M.nr).mono ?_⟩;rintro _ U''⟨rfl,hU⟩-;exact⟨rfl,_,.refl _,hU▸.refl _⟩
 conv=>whnf
 intro Z K _;have w:=G.trans K;have Y:Jz b.ini.2=0:=Il _;have hv:Hz Z.frz (HW none 0 0 (W0 b.ini.1) 0) [] (b.ends []):=⟨none,0,by show _=HW none 0 0 (W0 b.ini.1) (Jz b.ini.2);rw[Y],⟨rfl,λ i x hx=>by simp at hx⟩,Nat.le_refl _,S1⟩;refine⟨Ki.any,(zJ h b M N X b.cs.length [] 0 Z _ S1 S1 (hb.lg w.lg.frz2) (W.lg K.lg.frz) hv (λ i q hq=>by rw[Nat.zero_add];exact hq) (N _ _ _ w h0)).mono ?_⟩;rintro v' U4 (⟨rfl,f,-⟩|⟨rfl,hE⟩) -
 .repeat apply R1
  conv=>whnf
  exact .inl (by rw[Nat.zero_add]at f;exact f)
 .repeat apply R1
  conv=>whnf
  exact .inr hE
def Ea(h:BH)(b:Bk)(hb:Zr U h b):Qb S 57 #[h.v] (λ v U'=>(∃B,v=.func (.func 83) #[] #[.pb B]/\Zi U' B #[.slice h.ra h.rl h.rc,.slice h.ca h.cl h.cc])/\U.le U') U:=by
 refine Qb.of (args:=[_]) OV Qf S1 ?_
 repeat apply R1
 conv=>whnf
 intro B E f w
 repeat apply R1
 conv=>whnf
 exact⟨⟨B,rfl,w⟩,f⟩
def Eu(a n:Nat):Qb S 64 #[.int .i64 a,.int .i64 n] (λ v U'=>v=.int .i64 (H2 a n)/\U'=U) U:=by
 refine Qb.of (args:=[_,_]) Tn Qf S1 ?_
 repeat apply R1
 conv=>whnf
 apply Qg<;>intro b
 .have e:a=n:=by simp at b;omega
  repeat apply R1
  conv=>whnf
  exact⟨by unfold H2;rw[if_pos e],rfl⟩
 have e:a≠n:=by simp at b;omega
 repeat apply R1
 conv=>whnf
 apply Qg<;>intro b
 .have e0:a=0:=by simp at b;omega
  repeat apply R1
  conv=>whnf
  exact⟨by unfold H2;rw[if_neg e,if_pos e0],rfl⟩
 .have e0:a≠0:=by simp at b;omega
  repeat apply R1
  conv=>whnf
  exact⟨by unfold H2;rw[if_neg e,if_neg e0],rfl⟩
def If:X7 prog 63 4 1:=.of K1
def qV(a n:Nat)(ha:a<2^60)(Z:n<60):Qb S 56 #[.int .i64 a,.int .i64 n] (λ v U'=>Acc 4 1 v ((range n).map λ k=>.bool (a.testBit k)) U'.M U.M/\(∀x o,U.I x=some o->U'.I x=some o)/\U'.tok=U.tok) U:=by
 refine Qb.of (args:=[_,_]) UR Qf S1 ?_
 repeat apply R1
 refine⟨Nat×Value,λ y=>[(0,.int .i64 a),(5,y.2),(7,.int .i64 n),(8,.int .i64 y.1)],
  λ y U'=>(∀x o,U.I x=some o->U'.I x=some o)/\U'.tok=U.tok/\Acc 4 1 y.2 ((range y.1).map λ k=>.bool (a.testBit k)) U'.M U.M/\y.1<=n,λ y=>n-y.1,(0,.nl),T1,⟨λ _ _ h=>h,rfl,.nil,O1⟩,?_⟩
 rintro⟨i,v⟩f T⟨P,ht,b,hi⟩;simp only at b hi;obtain⟨sa,sl,sc,rfl,V,-⟩:=Acc.src (U:=T) b;have L:Z9 ((i:Int)+1):=I1
 repeat apply R1
 conv=>whnf
 apply Qg<;>intro Q
 .have hlt:i<n:=by simpa using Q
  have F:=HT ha (show i<60 by omega);refine⟨O1,rfl,rfl,?_⟩
  conv=>whnf
  intro H G;refine Zl G λ N E w=>?_;have w:Zi N H #[.bool (a.testBit i)]:=by rw[<- F];exact w
  conv=>whnf
  refine Wn (v:=.slice sa sl sc) (cs:=(range i).map λ k=>.bool (a.testBit k)) (new:=[.bool (a.testBit i)]) (M₀:=U.M) If rfl rfl (by rw[E.own];exact b) (.inr ⟨_,rfl,w.rd⟩) rfl Zz1 S3 λ Y M' K _=>?_;have B:Acc 4 1 Y ((range (i+1)).map λ k=>.bool (a.testBit k)) M' U.M:=by rw[range_succ,map_append];exact K
  obtain⟨W,X,tc,rfl,-,-⟩:=Acc.src (U:={ N with M:=M' }) B;refine⟨L,?_⟩
  conv=>whnf
  exact⟨rfl,(i+1,.slice W X tc),T1,⟨λ x o h=>E.imm x o (P x o h),E.tok.trans ht,B,by show i+1<=n;omega⟩,L1⟩
 .have hge:i=n:=by simp at Q;omega
  subst hge
  repeat apply R1
  conv=>whnf
  exact⟨b,P,ht⟩
