/- Lemmas. No conditions. -/
import Derived.Test.YtcakpkianonbkaaGreatDoorB43
import Derived.Test.YtcakpkianonbkaaGreatDoorB06
import Derived.Test.YtcakpkianonbkaaGreatDoorB07
import Derived.Test.YtcakpkianonbkaaGreatDoorB39
set_option linter.all false
set_option maxRecDepth 100000
open List
namespace Go.TM
variable{T:Type}{P:Program}{S:Sys P T}{U U':Qa T}
def Qfa(U:Qa T)(a:Option Addr)(len:Nat)(l:List Bool):Prop:=l.length=len/\∀i x,l[i]?=some x->∃ad,a=some ad/\ad.spot=none/\U.sees (ad.add (i*1)) (.bool x)
def Qfa.lg{a:Option Addr}{len:Nat}{l:List Bool}(h:Qfa U a len l)(k:U.lg U'):Qfa U' a len l:=⟨h.1,λ i x hx=>let ⟨ad,e,s,hs⟩:=h.2 i x hx;⟨ad,e,s,hs.lg k⟩⟩
def Qfa.at{a:Option Addr}{len:Nat}{l:List Bool}(h:Qfa U a len l){i:Nat}(hi:i<len):∃ad x,l[i]?=some x/\a=some ad/\ad.spot=none/\U.sees (ad.add (i*1)) (.bool x):=by
 have hil:i<l.length:=by rw[h.1];exact hi
 have hx:l[i]?=some l[i]:=getElem?_eq_getElem hil;obtain⟨ad,e,s,hs⟩:=h.2 i _ hx;exact⟨ad,_,hx,e,s,hs⟩
def Qi0{b:Nat}{l:List Bool}(h:Zd U b (l.map .bool).toArray):Qfa U (some ⟨b,0,none⟩) l.length l:=
 ⟨rfl,λ i x hx=>⟨_,rfl,rfl,by rw[Nat.mul_one,Qo];exact h.sees (by rw[Nat.zero_add];simp[hx])⟩⟩
end Go.TM
namespace Go.Proofs
open Go.TM
section
variable{T:Type}{S:TM.Sys Tryz.prog T}{U:Qa T}
attribute [local irreducible] Qb Zh We
def Qfj(a a':Option Addr)(len cap len' cap':Nat)(l l':List Int)(hl:Z3 U a len l)(hl':Z3 U a' len' l')(hlen:len<2^60) :
  Qb S 25 #[.slice a len cap,.slice a' len' cap'] (λ v U'=>v=.bool (decide (l=l'))/\U'=U) U:=by
 refine Qb.pure' (Qb.of (args:=[_,_]) Qsh Qd (by simp) ?_);have h1:=hl.1;have h2:=hl'.1
 repeat refine⟨rfl,?_⟩
 conv=>whnf
 apply Qe<;>intro hc
 .have hne:len≠len':=by intro e;subst e;simp at hc
  repeat refine⟨rfl,?_⟩
  refine⟨?_,(Qa.le.refl _).lg⟩;rw[decide_eq_false (λ e=>hne (by rw[<- h1,<- h2,e]))]
 have hee:len=len':=Int.ofNat.inj (by simpa using hc:(len:Int)=len');subst hee;refine⟨Nat,λ i=>[(0,.slice a len cap),(1,.slice a' len cap'),(5,.int .i64 i)],λ i U'=>U.le U'/\i<=len/\l.take i=l'.take i,λ i=>len-i,0,by trivial,⟨.refl _,by omega,rfl⟩,?_⟩;rintro i f U1⟨hle,hi,htk⟩
 repeat refine⟨rfl,?_⟩
 conv=>whnf
 apply Qe<;>intro hc
 .have hlt:i<len:=by simpa using hc
  obtain⟨ad,x,hx,rfl,-,hs⟩:=(hl.lg hle.lg).at hlt;obtain⟨ad',y,hy,rfl,-,hs'⟩:=(hl'.lg hle.lg).at hlt;have hin:Zm (i+1):=by unfold Zm;omega
  refine⟨ad,i,⟨rfl,rfl,hlt⟩,_,hs,ad',i,⟨rfl,rfl,hlt⟩,_,hs',?_⟩
  conv=>whnf
  intro U2 hle_2 _
  repeat refine⟨rfl,?_⟩
  conv=>whnf
  apply Qe<;>intro hc
  .have hne:x≠y:=by simpa using hc
   repeat refine⟨rfl,?_⟩
   conv=>whnf
   exact⟨by rw[decide_eq_false (Qmf hx hy hne)],(hle.trans hle_2).lg⟩
  .have hxy:x=y:=by simpa using hc
   refine⟨hin,?_⟩
   conv=>whnf
   exact⟨rfl,i+1,by trivial,⟨hle.trans hle_2,by omega,Qc2 hx hy htk hxy⟩,by show _-_<_-_;omega⟩
 .have hge:len<=i:=by simpa using hc
  rw[take_of_length_le (by omega),take_of_length_le (by omega)]at htk
  repeat refine⟨rfl,?_⟩
  conv=>whnf
  exact⟨by rw[decide_eq_true htk],hle.lg⟩
def W0(a a':Option Addr)(len cap len' cap':Nat)(l l':List Bool)(hl:Qfa U a len l)(hl':Qfa U a' len' l')(hlen:len<2^60) :
  Qb S 24 #[.slice a len cap,.slice a' len' cap'] (λ v U'=>v=.bool (decide (l=l'))/\U'=U) U:=by
 refine Qb.pure' (Qb.of (args:=[_,_]) Qhk Qd (by simp) ?_);have h1:=hl.1;have h2:=hl'.1
 repeat refine⟨rfl,?_⟩
 conv=>whnf
 apply Qe<;>intro hc
 .have hne:len≠len':=by intro e;subst e;simp at hc
  repeat refine⟨rfl,?_⟩
  refine⟨?_,(Qa.le.refl _).lg⟩;rw[decide_eq_false (λ e=>hne (by rw[<- h1,<- h2,e]))]
 have hee:len=len':=Int.ofNat.inj (by simpa using hc:(len:Int)=len');subst hee;refine⟨Nat,λ i=>[(0,.slice a len cap),(1,.slice a' len cap'),(5,.int .i64 i)],λ i U'=>U.le U'/\i<=len/\l.take i=l'.take i,λ i=>len-i,0,by trivial,⟨.refl _,by omega,rfl⟩,?_⟩;rintro i f U1⟨hle,hi,htk⟩
 repeat refine⟨rfl,?_⟩
 conv=>whnf
 apply Qe<;>intro hc
 .have hlt:i<len:=by simpa using hc
  obtain⟨ad,x,hx,rfl,-,hs⟩:=(hl.lg hle.lg).at hlt;obtain⟨ad',y,hy,rfl,-,hs'⟩:=(hl'.lg hle.lg).at hlt;have hin:Zm (i+1):=by unfold Zm;omega
  refine⟨ad,i,⟨rfl,rfl,hlt⟩,_,hs,ad',i,⟨rfl,rfl,hlt⟩,_,hs',?_⟩
  conv=>whnf
  intro U2 hle_2 _
  repeat refine⟨rfl,?_⟩
  conv=>whnf
  apply Qe<;>intro hc
  .have hne:x≠y:=by simpa using hc
   repeat refine⟨rfl,?_⟩
   conv=>whnf
   exact⟨by rw[decide_eq_false (Qmf hx hy hne)],(hle.trans hle_2).lg⟩
  .have hxy:x=y:=by simpa using hc
   refine⟨hin,?_⟩
   conv=>whnf
   exact⟨rfl,i+1,by trivial,⟨hle.trans hle_2,by omega,Qc2 hx hy htk hxy⟩,by show _-_<_-_;omega⟩
 .have hge:len<=i:=by simpa using hc
  rw[take_of_length_le (by omega),take_of_length_le (by omega)]at htk
  repeat refine⟨rfl,?_⟩
  conv=>whnf
  exact⟨by rw[decide_eq_true htk],hle.lg⟩
def Qei(a a':Option Addr)(len cap len' cap':Nat)(l l':List (Int×Int))(hl:Qx U a len 2 l λ x vs=>vs=encII x)(hl':Qx U a' len' 2 l' λ x vs=>vs=encII x)(hlen:len<2^60) :
  Qb S 27 #[.slice a len cap,.slice a' len' cap'] (λ v U'=>v=.bool (decide (l=l'))/\U'=U) U:=by
 refine Qb.pure' (Qb.of (args:=[_,_]) Qsi Qd (by simp) ?_);have h1:=hl.1;have h2:=hl'.1
 repeat refine⟨rfl,?_⟩
 conv=>whnf
 apply Qe<;>intro hc
 .have hne:len≠len':=by intro e;subst e;simp at hc
  repeat refine⟨rfl,?_⟩
  refine⟨?_,(Qa.le.refl _).lg⟩;rw[decide_eq_false (λ e=>hne (by rw[<- h1,<- h2,e]))]
 have hee:len=len':=Int.ofNat.inj (by simpa using hc:(len:Int)=len');subst hee;refine⟨Nat,λ i=>[(0,.slice a len cap),(1,.slice a' len cap'),(5,.int .i64 i)],λ i U'=>U.le U'/\i<=len/\l.take i=l'.take i,λ i=>len-i,0,by trivial,⟨.refl _,by omega,rfl⟩,?_⟩;rintro i f U1⟨hle,hi,htk⟩
 repeat refine⟨rfl,?_⟩
 conv=>whnf
 apply Qe<;>intro hc
 .have hlt:i<len:=by simpa using hc
  obtain⟨ad,x,vs,hx,rfl,-,rfl,-,hs⟩:=(hl.lg hle.lg λ _ _ h=>h).at hlt;obtain⟨ad',y,vs,hy,rfl,-,rfl,-,hs'⟩:=(hl'.lg hle.lg λ _ _ h=>h).at hlt;have hin:Zm (i+1):=by unfold Zm;omega
  refine⟨ad,i,⟨rfl,rfl,hlt⟩,_,⟨rfl,hs⟩,ad',i,⟨rfl,rfl,hlt⟩,_,⟨rfl,hs'⟩,?_⟩
  conv=>whnf
  intro U2 hle_2 _
  conv=>whnf
  refine Zqv Q4s (vs:=encII x) (ws:=encII y) rfl rfl (by kernel_rfl) (by kernel_rfl) ?_
  have heq:Qdi (encII x) (encII y)=decide (x=y):=by
   obtain⟨a1,b1⟩:=x;obtain⟨a2,b2⟩:=y;simp[encII,Qdi,eqv,Prod.mk.injEq,Bool.decide_and];rfl
  rw[heq]
  repeat refine⟨rfl,?_⟩
  conv=>whnf
  apply Qe<;>intro hc
  .have hne:x≠y:=by simpa using hc
   repeat refine⟨rfl,?_⟩
   conv=>whnf
   exact⟨by rw[decide_eq_false (Qmf hx hy hne)],(hle.trans hle_2).lg⟩
  .have hxy:x=y:=by simpa using hc
   refine⟨hin,?_⟩
   conv=>whnf
   exact⟨rfl,i+1,by trivial,⟨hle.trans hle_2,by omega,Qc2 hx hy htk hxy⟩,by show _-_<_-_;omega⟩
 .have hge:len<=i:=by simpa using hc
  rw[take_of_length_le (by omega),take_of_length_le (by omega)]at htk
  repeat refine⟨rfl,?_⟩
  conv=>whnf
  exact⟨by rw[decide_eq_true htk],hle.lg⟩
def Qqm:Qb S 20 #[] (λ v U'=>(∃h:BH,v=h.v/\Zt U'.frz h Je)/\U.le U') U:=by
 refine Qb.grown (R:=λ v U'=>∃h:BH,v=h.v/\Zt U' h Je) (λ v U1 U2 hl⟨h,e,h1⟩=>⟨h,e,h1.lg hl⟩) (Qb.of (args:=[]) Q3c Qd (by simp) ?_)
 conv=>whnf
 intro b0 hf0;refine⟨_,.refl _,?_⟩;have hl0:=Z0 (U:=U) b0 (.cells #[.slice none 0 0,.slice none 0 0] 43);have hM0:(U.put b0 (.cells #[.slice none 0 0,.slice none 0 0] 43)).M=.obj b0 (.cells [.slice none 0 0,.slice none 0 0].toArray 43 (0,0))::U.M:=rfl;generalize U.put b0 (.cells #[.slice none 0 0,.slice none 0 0] 43)=s0 at hl0 hM0 ⊢
 conv=>whnf
 intro b1 hf1;refine Zk hf1 λ s1 h1 hb1=>?_
 conv=>whnf
 intro b2 hf2;refine Zk hf2 λ s2 h2 hb2=>?_
 conv=>whnf
 intro b3 hf3;refine Zk hf3 λ s3 h3 hb3=>?_
 conv=>whnf
 intro b5 hf5;refine Zk hf5 λ s4 h4 hb5=>?_
 conv=>whnf
 intro b7 hf7;refine Zk hf7 λ s5 h5 hb7=>?_
 conv=>whnf
 intro b8 hf8;refine Zk hf8 λ s6 h6 hb8=>?_
 conv=>whnf
 intro b10 hf10;refine Zk hf10 λ s7 h7 hb10=>?_;have g6:=h7;have g5:=h6.trans g6;have g4:=h5.trans g5;have g3:=h4.trans g4;have g2:=h3.trans g3;have g1:=h2.trans g2;have hle:=h1.trans g1;have hM7:=hle.own.trans hM0
 have hbk:Zt s7.frz ⟨some ⟨b1,0,none⟩,3,3,some ⟨b10,0,none⟩,3,3⟩ Je:=by
  have k1:Zd s7.frz b1 _:=(hb1.le g1).imI λ _ _ h=>h;have k2:Zd s7.frz b2 _:=(hb2.le g2).imI λ _ _ h=>h;have k3:Zd s7.frz b3 _:=(hb3.le g3).imI λ _ _ h=>h;have k5:Zd s7.frz b5 _:=(hb5.le g4).imI λ _ _ h=>h;have k7:Zd s7.frz b7 _:=(hb7.le g5).imI λ _ _ h=>h;have k8:Zd s7.frz b8 _:=(hb8.le g6).imI λ _ _ h=>h;have k10:Zd s7.frz b10 _:=hb10.imI λ _ _ h=>h
  have one:∀(b:Nat)(n:Int),Zd s7.frz b #[.int .i64 n]->Z3 s7.frz (some ⟨b,0,none⟩) 1 [n]:=λ b n h=>Zd.ints (l:=[n]) h λ i x hx=>by
   cases i with
   |zero=>simp at hx;subst hx;rfl
   |succ i=>simp at hx
  have lst:∀(b:Nat)(a:Option Addr)(len cap:Nat)(g:List Int),Zd s7.frz b #[.slice a len cap]->Z3 s7.frz a len g->len<2^60->Wj s7.frz (some ⟨b,0,none⟩) 1 [g]:=λ b a len cap g h hg hl=>by
   refine⟨rfl,λ i x hx=>?_⟩;cases i with
   |zero=>
    simp at hx;subst hx;exact⟨_,_,rfl,rfl,⟨a,len,cap,rfl,hg,hl⟩,rfl,by rw[Nat.zero_mul];exact h.reads (λ k v hv=>by simpa using hv)⟩
   |succ i=>simp at hx
  have rd4:∀(o:Nat)(v0 v1 v2 v3:Value)(c:Array Value),Zd s7.frz b10 c->c[o]?=some v0->c[o+1]?=some v1->c[o+2]?=some v2->c[o+3]?=some v3->Z7 s7.frz ⟨b10,o,none⟩ [v0,v1,v2,v3]:=by
   intro o v0 v1 v2 v3 c h e0 e1 e2 e3;refine h.reads λ k v hv=>?_;have hk:=(List.getElem?_eq_some_iff.1 hv).1;simp at hk;obtain rfl|rfl|rfl|rfl:k=0\/k=1\/k=2\/k=3:=by omega
   .cases hv;exact e0
   .cases hv;exact e1
   .cases hv;exact e2
   .cases hv;exact e3
  have nil:Z3 s7.frz none 0 []:=⟨rfl,λ i x hx=>by simp at hx⟩;refine⟨⟨rfl,λ i x hx=>?_⟩,⟨rfl,λ i x hx=>?_⟩,by show 3<2^60;decide,by show 3<2^60;decide,by decide,by decide⟩
  .refine⟨_,_,rfl,rfl,rfl,rfl,λ k v hv=>?_⟩;have hk:k=0:=by have:=(List.getElem?_eq_some_iff.1 hv).1;simp at this;omega
   subst hk;simp at hv;subst hv;rw[Qo,Qo];refine k1.sees ?_;have hi:i<3:=by have:=(List.getElem?_eq_some_iff.1 hx).1;exact this
   obtain rfl|rfl|rfl:i=0\/i=1\/i=2:=by omega
   all_goals(cases hx;rfl)
  .have hi:i<3:=by have:=(List.getElem?_eq_some_iff.1 hx).1;exact this
   obtain rfl|rfl|rfl:i=0\/i=1\/i=2:=by omega
   .cases hx;exact⟨_,_,rfl,rfl,⟨_,_,_,_,_,_,rfl,lst b3 _ 1 1 _ k3 (one b2 0 k2) (by decide),by decide,nil,by decide⟩,rfl,by rw[Qo];exact rd4 _ _ _ _ _ _ k10 rfl rfl rfl rfl⟩
   .cases hx;exact⟨_,_,rfl,rfl,⟨_,_,_,_,_,_,rfl,lst b5 _ 0 0 _ k5 nil (by decide),by decide,nil,by decide⟩,rfl,by rw[Qo];exact rd4 _ _ _ _ _ _ k10 rfl rfl rfl rfl⟩
   .cases hx;exact⟨_,_,rfl,rfl,⟨_,_,_,_,_,_,rfl,lst b8 _ 1 1 _ k8 (one b7 1 k7) (by decide),by decide,nil,by decide⟩,rfl,by rw[Qo];exact rd4 _ _ _ _ _ _ k10 rfl rfl rfl rfl⟩
 refine⟨rfl,Js (b:=b0) (e:=43) (c:=#[.slice none 0 0,.slice none 0 0]) (M₀:=U.M) (vs:=[.slice (some ⟨b1,0,none⟩) 3 3,.slice (some ⟨b10,0,none⟩) 3 3]) [] hM7 rfl (by simp[Value.single]) λ s8 hI8 ht8 hM8=>?_⟩;refine⟨_,⟨rfl,Q7 [] hM8⟩,⟨⟨_,_,_,_,_,_⟩,rfl,hbk.lg ⟨λ x o hx=>by show s8.I x=_;rw[hI8];exact hx,⟨[],rfl⟩,ht8⟩⟩,⟨λ x o hx=>by rw[hI8];exact hle.imm x o (hl0.imm x o hx),⟨[_],hM8⟩,ht8.trans (hle.tok.trans hl0.tok)⟩⟩
end
end Go.Proofs
namespace Go.TM
def Qzb:Je.flaw Zf=0:=by kernel_rfl
def Zp4:(Je.outF [0,1,2],Je.ends [0,1,2])=(0,[false,false,true],[true,true,false]):=by kernel_rfl
def Zp5:(Je.outF [1,0,2],Je.ends [1,0,2])=(0,[false,true,false],[false,true,true]):=by kernel_rfl
def Zp6:Je.wdF 1=[0]:=by kernel_rfl
def Znr:Je.dcF 0=[1]:=by kernel_rfl
def Zns:Je.dcF 1=[0,1]:=by kernel_rfl
def Qfu:(Je.askF 0,Je.askF 1,Je.askF 2)=(0,0,0):=by kernel_rfl
end Go.TM
namespace Go.Proofs
open Go.TM
def Qvc(b:Bk)(r:Nat)(w:Int)(m:Nat)(sd:Nat->Option Bool)(Lf Lt:Option (List (Int×Int))):Bool:=(range b.cans.length).all λ i=>match b.cans[i]? with
 |none=>true
 |some ci=>match(TM.parts (b.cans.drop (i+1)) m).find? (λ q=>b.good r w (ci::q))with
  |none=>sd i==none
  |some q=>match sd i with
   |some s=>(if s then Lt else Lf)==some (ci::q)
   |none=>false
def Qvd{b:Bk}{r:Nat}{w:Int}{m:Nat}{sd:Nat->Option Bool}{Lf Lt:Option (List (Int×Int))}(h:Qvc b r w m sd Lf Lt=true):∀i ci,b.cans[i]?=some ci->(TM.parts (b.cans.drop (i+1)) m).find? (λ q=>b.good r w (ci::q))=none->sd i=none:=by
 intro i ci hci hf;unfold Qvc at h;rw[all_eq_true]at h;have:=h i (by simpa using(List.getElem?_eq_some_iff.1 hci).1);rw[hci]at this;simp only[hf]at this;simpa using this
def Qom{b:Bk}{r:Nat}{w:Int}{m:Nat}{sd:Nat->Option Bool}{Lf Lt:Option (List (Int×Int))}(h:Qvc b r w m sd Lf Lt=true):∀i ci q,b.cans[i]?=some ci->(TM.parts (b.cans.drop (i+1)) m).find? (λ q=>b.good r w (ci::q))=some q->∃s,sd i=some s/\(if s then Lt else Lf)=some (ci::q):=by
 intro i ci q hci hf;unfold Qvc at h;rw[all_eq_true]at h;have:=h i (by simpa using(List.getElem?_eq_some_iff.1 hci).1);rw[hci]at this;simp only[hf]at this;cases hs:sd i with
 |none=>rw[hs]at this;cases this
 |some s=>
  rw[hs]at this;exact⟨s,rfl,by simpa using this⟩
def sdA:Nat->Option Bool:=λ i=>if i=0 then some false else none
def sdB:Nat->Option Bool:=λ _=>none
def sdC:Nat->Option Bool:=λ i=>if i=2 then some false else if i=3 then some true else none
def Znc:Qvc Je 1 1 0 sdA (some [(0,1)]) none=true:=by kernel_rfl
def Znd:Qvc Je 2 1 0 sdB none none=true:=by kernel_rfl
def Zne:Qvc Je 2 1 1 sdC (some [(1,0),(2,0)]) (some [(1,2),(2,0)])=true:=by kernel_rfl
def Qka:Je.cans.Nodup:=by rw[Qza];decide
def Qch:Je.cans.length=6:=by rw[Qza];rfl
def Zui:Qrm Je 1 1 0 sdA (some [(0,1)]) none where
 n:=Qka
 pos:=by rw[Qch];decide
 six:=by rw[Qch];decide
 m5:=by decide
 len:=λ x hx=>by rcases hx with h|h <;> cases h;decide
 sym:=λ x y _ h=>by cases h
 no:=Qvd Znc
 yes:=Qom Znc
 one:=λ i j s h1 h2=>by
  unfold sdA at h1 h2;split at h1 <;> split at h2 <;> simp_all
 out:=λ s h=>by cases s <;> first|rfl|(rw[Qch]at h;exact absurd h (by decide))
def Zuj:Qrm Je 2 1 0 sdB none none where
 n:=Qka
 pos:=by rw[Qch];decide
 six:=by rw[Qch];decide
 m5:=by decide
 len:=λ x hx=>by rcases hx with h|h <;> cases h
 sym:=λ x y _ h=>by cases h
 no:=Qvd Znd
 yes:=Qom Znd
 one:=λ i j s h1 h2=>by cases h1
 out:=λ s h=>by cases s <;> rfl
def Zuk:Qrm Je 2 1 1 sdC (some [(1,0),(2,0)]) (some [(1,2),(2,0)]) where
 n:=Qka
 pos:=by rw[Qch];decide
 six:=by rw[Qch];decide
 m5:=by decide
 len:=λ x hx=>by rcases hx with h|h <;> cases h <;> decide
 sym:=λ x y h1 h2=>by cases h1;cases h2;rfl
 no:=Qvd Zne
 yes:=Qom Zne
 one:=λ i j s h1 h2=>by
  unfold sdC at h1 h2;split at h1
  .cases h1;split at h2
   .omega
   .split at h2 <;> cases h2
  .split at h1
   .cases h1;split at h2
    .cases h2
    .split at h2
     .omega
     .cases h2
   .cases h1
 out:=λ s h=>by
  rw[Qch]at h;cases s <;> exact absurd h (by decide)
def FA1:Nat->Option (List (Int×Int)):=λ _=>some [(0,1)]
def FA2:Nat->Option (List (Int×Int)):=λ m=>if m=0 then none else some [(1,0),(2,0)]
def Znt:(Je.staF 1 true FA1,Je.staF 2 true FA2)=(some [(0,1)],some [(1,0),(2,0)]):=by kernel_rfl
def Ztk:∀m,m+1<Je.cs.length->(∀m',m'<m->FA1 m'=none)->∃sd Lf Lt,Qrm Je 1 1 m sd Lf Lt/\bst Lf Lt=FA1 m:=by
 intro m hm hno;cases m with
 |zero=>exact⟨_,_,_,Zui,rfl⟩
 |succ m=>cases hno 0 (by omega)
def Ztl:∀m,m+1<Je.cs.length->(∀m',m'<m->FA2 m'=none)->∃sd Lf Lt,Qrm Je 2 1 m sd Lf Lt/\bst Lf Lt=FA2 m:=by
 intro m hm hno
 have:m=0\/m=1:=by
  have:Je.cs.length=3:=rfl;omega
 rcases this with rfl|rfl
 .exact⟨_,_,_,Zuj,rfl⟩
 .exact⟨_,_,_,Zuk,rfl⟩
end Go.Proofs
namespace Go.TM
variable{T:Type}{U U':Qa T}
def Qa1.c{a:Option Addr}{l:List Bool}{len cap:Nat}(h:Qa1 U (.slice a len cap) l):len=l.length/\Qfa U a l.length l:=by
 obtain⟨a',cap',e,h⟩:=h;cases e;exact⟨rfl,rfl,h⟩
def Qar{b:Nat}{l:List Int}(h:Zd U b (l.map λ n=>Value.int .i64 n).toArray):Z3 U (some ⟨b,0,none⟩) l.length l:=
 h.ints λ i x hx=>by simp[hx]
def Qo1{b:Nat}{l:List (Int×Int)}(h:Zd U b (l.flatMap Go.Proofs.encII).toArray):Qx U (some ⟨b,0,none⟩) l.length 2 l (λ x vs=>vs=Go.Proofs.encII x):=
 Qb1 (enc:=Go.Proofs.encII) (n:=2) (λ _=>rfl) (.inr ⟨_,rfl,h.reads (λ k v hv=>by simpa using hv)⟩) (λ ad e=>by cases e;rfl) (by decide)
end Go.TM
namespace Go.Proofs
open Go.TM
attribute [local irreducible] Qb Zh We
set_option maxHeartbeats 4000000 in
def Zrh{U:Qa Tk}(htok:U.tok=⟨0,.out,none⟩)(hk:Chk U):Qb Q8 6 #[] (λ v U'=>v=.bool true/\U'=U) U:=by
 refine Qb.pure' (Qb.of (args:=[]) Zpi Qd (by simp) ?_);refine⟨Q3c.any,Qqm.mono ?_⟩;rintro _ s1⟨⟨h,rfl,ht⟩,h1⟩-
 conv=>whnf
 intro b1 hf1;refine⟨_,.refl _,rfl,Zs (vs:=[.slice h.ra h.rl h.rc,.slice h.ca h.cl h.cc]) hf1 rfl (by simp[Value.single]) λ s2 h2 hb1=>?_⟩;have hb1:Zd s2 b1 #[.slice h.ra h.rl h.rc,.slice h.ca h.cl h.cc]:=hb1;have ht:Zt s2.frz h Je:=ht.lg h2.lg.frz2;have e2:U.le s2:=h1.trans h2;refine⟨_,⟨rfl,hb1.reads (λ k v hv=>by simpa using hv)⟩,?_⟩
 conv=>whnf
 intro c3 hc3;refine Zk hc3 λ s3 h3 hq3=>?_;have z3:s2.frz.lg s3.frz:=h3.lg.frz2;have e3:U.le s3:=e2.trans h3;have hb1:=hb1.le h3;have ht:=ht.lg z3;have il:Z3 s3.frz (some ⟨c3,0,none⟩) 3 [0,1,2]:=Qar (l:=[0,1,2]) (hq3.imI λ _ _ h=>h);refine⟨Qse.any,(Qgr h Je ht (hk.lg e3.lg) _ 3 3 [0,1,2] il (by decide)).mono ?_⟩;rintro _ s4⟨⟨v1,v2,rfl,hx,hy⟩,h4⟩-;obtain⟨eo1,eo2⟩:=Prod.mk.inj Zp4;have eo2:Je.ends (List.map Int.toNat [0,1,2])=_:=eo2;rw[eo1,if_pos rfl,eo2]at hx hy;rw[eo1];obtain⟨xa,xc,rfl,-⟩:=id hx;obtain⟨ya,yc,rfl,-⟩:=id hy;have fx:=hx.c.2;have fy:=hy.c.2;clear il hx hy eo1 eo2;have z4:s3.frz.lg s4.frz:=h4.lg.frz2;have e4:U.le s4:=e3.trans h4;have hb1:=hb1.le h4;have ht:=ht.lg z4;refine⟨_,⟨rfl,hb1.reads (λ k v hv=>by simpa using hv)⟩,?_⟩
 conv=>whnf
 intro c5 hc5;refine Zk hc5 λ s5 h5 hq5=>?_;have z5:s4.frz.lg s5.frz:=h5.lg.frz2;have e5:U.le s5:=e4.trans h5;have hb1:=hb1.le h5;have ht:=ht.lg z5;have fx:=fx.lg z5;have fy:=fy.lg z5;have il:Z3 s5.frz (some ⟨c5,0,none⟩) 3 [1,0,2]:=Qar (l:=[1,0,2]) (hq5.imI λ _ _ h=>h);refine⟨Qse.any,(Qgr h Je ht (hk.lg e5.lg) _ 3 3 [1,0,2] il (by decide)).mono ?_⟩;rintro _ s6⟨⟨v1,v2,rfl,hx,hy⟩,h6⟩-;obtain⟨eo1,eo2⟩:=Prod.mk.inj Zp5;have eo2:Je.ends (List.map Int.toNat [1,0,2])=_:=eo2;rw[eo1,if_pos rfl,eo2]at hx hy;rw[eo1];obtain⟨ua,uc,rfl,-⟩:=id hx;obtain⟨va,vc,rfl,-⟩:=id hy;have fu:=hx.c.2;have fv:=hy.c.2;clear il hx hy eo1 eo2;have z6:s5.frz.lg s6.frz:=h6.lg.frz2;have e6:U.le s6:=e5.trans h6;have hb1:=hb1.le h6;have ht:=ht.lg z6;have fx:=fx.lg z6;have fy:=fy.lg z6;refine⟨_,⟨rfl,hb1.reads (λ k v hv=>by simpa using hv)⟩,?_⟩;refine⟨Qsd.any,(Qje h Je ht (hk.lg e6.lg)).mono ?_⟩;rintro _ s7⟨⟨v1,v2,rfl,hx,hy⟩,h7⟩-;rw[Qzb,if_pos rfl]at hx hy;rw[Qzb];rw[Qvk.1]at hx;rw[Qvk.2]at hy;obtain⟨ra,rc,rfl,fr⟩:=hx;obtain⟨ca,cc,rfl,fc⟩:=hy;have z7:s6.frz.lg s7.frz:=h7.lg.frz2;have e7:U.le s7:=e6.trans h7;have hb1:=hb1.le h7;have ht:=ht.lg z7;have fx:=fx.lg z7;have fy:=fy.lg z7;have fu:=fu.lg z7;have fv:=fv.lg z7;refine⟨_,⟨rfl,hb1.reads (λ k v hv=>by simpa using hv)⟩,?_⟩;refine⟨Q3d.any,(Qrt h Je ht (hk.lg e7.lg) 1).mono ?_⟩;rintro _ s8⟨⟨v1,v2,rfl,hx,hy⟩,h8⟩-;have ea:Je.askF 1=0:=(Prod.mk.inj (Prod.mk.inj Qfu).2).1;rw[ea,if_pos rfl]at hx hy;rw[ea];have ed1:(Je.difS (Int.toNat 1) true).map (λ(k:Nat)=>(k:Int))=[1,0,2]:=by rw[show Je.difS (Int.toNat 1) true=_ from Q5t.1];rfl
 have ed2:(Je.difS (Int.toNat 1) false).map (λ(k:Nat)=>(k:Int))=[0,1,2]:=by rw[show Je.difS (Int.toNat 1) false=_ from Q5t.2];rfl
 rw[ed1]at hx;rw[ed2]at hy;obtain⟨la,lc,rfl,fl⟩:=hx;obtain⟨ka,kc,rfl,fk⟩:=hy;clear ea ed1 ed2;have z8:s7.frz.lg s8.frz:=h8.lg.frz2;have e8:U.le s8:=e7.trans h8;have hb1:=hb1.le h8;have ht:=ht.lg z8;have fx:=fx.lg z8;have fy:=fy.lg z8;have fu:=fu.lg z8;have fv:=fv.lg z8;have fr:=fr.lg z8;have fc:=fc.lg z8;refine⟨_,⟨rfl,hb1.reads (λ k v hv=>by simpa using hv)⟩,?_⟩;refine⟨Qsf.any,(Qjf (e8.tok.trans htok) h Je ht (hk.lg e8.lg) 1 true FA1 λ _ _ _=>Ztk).mono ?_⟩;rintro _ s9⟨⟨v1,rfl,hx⟩,h9⟩-;have es:Je.staF 1 true FA1=some [(0,1)]:=(Prod.mk.inj Znt).1;have ea:Je.askF 1=0:=(Prod.mk.inj (Prod.mk.inj Qfu).2).1;rw[es]at hx;rw[es,ea];obtain⟨sa,sc,rfl,fs⟩:=hx;have fs:Qx s9.frz sa 1 2 [(0,1)] (λ x vs=>vs=encII x):=fs;clear es ea;have z9:s8.frz.lg s9.frz:=h9.lg.frz2;have e9:U.le s9:=e8.trans h9;have hb1:=hb1.le h9;have ht:=ht.lg z9;have fx:=fx.lg z9;have fy:=fy.lg z9;have fu:=fu.lg z9;have fv:=fv.lg z9;have fr:=fr.lg z9;have fc:=fc.lg z9;have fl:=fl.lg z9;have fk:=fk.lg z9;refine⟨_,⟨rfl,hb1.reads (λ k v hv=>by simpa using hv)⟩,?_⟩;refine⟨Qsf.any,(Qjf (e9.tok.trans htok) h Je ht (hk.lg e9.lg) 2 true FA2 λ _ _ _=>Ztl).mono ?_⟩;rintro _ s10⟨⟨v1,rfl,hx⟩,h10⟩-;have es:Je.staF 2 true FA2=some [(1,0),(2,0)]:=(Prod.mk.inj Znt).2;have ea:Je.askF 2=0:=(Prod.mk.inj (Prod.mk.inj Qfu).2).2;rw[es]at hx;rw[es,ea];obtain⟨ta,tc,rfl,ft⟩:=hx;have ft:Qx s10.frz ta 2 2 [(1,0),(2,0)] (λ x vs=>vs=encII x):=ft;clear es ea;have z10:s9.frz.lg s10.frz:=h10.lg.frz2;have e10:U.le s10:=e9.trans h10;have hb1:=hb1.le h10;have ht:=ht.lg z10;have fx:=fx.lg z10;have fy:=fy.lg z10;have fu:=fu.lg z10;have fv:=fv.lg z10;have fr:=fr.lg z10;have fc:=fc.lg z10;have fl:=fl.lg z10;have fk:=fk.lg z10;have fs:=fs.lg z10 λ _ _ h=>h;refine⟨_,⟨rfl,hb1.reads (λ k v hv=>by simpa using hv)⟩,?_⟩;refine⟨Q29.any,(Qmx h Je ht (hk.lg e10.lg) 1).mono ?_⟩;rintro _ s11⟨⟨v1,rfl,hx⟩,h11⟩-;have ea:Je.askF 1=0:=(Prod.mk.inj (Prod.mk.inj Qfu).2).1;rw[Zp6]at hx;rw[ea];obtain⟨wa,wc,rfl,fw⟩:=hx;clear ea;have z11:s10.frz.lg s11.frz:=h11.lg.frz2;have e11:U.le s11:=e10.trans h11;have hb1:=hb1.le h11;have ht:=ht.lg z11;have fx:=fx.lg z11;have fy:=fy.lg z11;have fu:=fu.lg z11;have fv:=fv.lg z11;have fr:=fr.lg z11;have fc:=fc.lg z11;have fl:=fl.lg z11;have fk:=fk.lg z11;have fs:=fs.lg z11 λ _ _ h=>h;have ft:=ft.lg z11 λ _ _ h=>h;refine⟨_,⟨rfl,hb1.reads (λ k v hv=>by simpa using hv)⟩,?_⟩;refine⟨Qsg.any,(Qhb h Je ht (hk.lg e11.lg) 0).mono ?_⟩;rintro _ s12⟨⟨v1,rfl,hx⟩,h12⟩-;have ea:Je.askF 0=0:=(Prod.mk.inj Qfu).1;rw[Znr]at hx;rw[ea];obtain⟨ma,mc,rfl,fm⟩:=hx;clear ea;have z12:s11.frz.lg s12.frz:=h12.lg.frz2;have e12:U.le s12:=e11.trans h12;have hb1:=hb1.le h12;have ht:=ht.lg z12;have fx:=fx.lg z12;have fy:=fy.lg z12;have fu:=fu.lg z12;have fv:=fv.lg z12;have fr:=fr.lg z12;have fc:=fc.lg z12;have fl:=fl.lg z12;have fk:=fk.lg z12;have fs:=fs.lg z12 λ _ _ h=>h;have ft:=ft.lg z12 λ _ _ h=>h;have fw:=fw.lg z12;refine⟨_,⟨rfl,hb1.reads (λ k v hv=>by simpa using hv)⟩,?_⟩;refine⟨Qsg.any,(Qhb h Je ht (hk.lg e12.lg) 1).mono ?_⟩;rintro _ s13⟨⟨v1,rfl,hx⟩,h13⟩-;have ea:Je.askF 1=0:=(Prod.mk.inj (Prod.mk.inj Qfu).2).1;rw[Zns]at hx;rw[ea];obtain⟨na,nc,rfl,fn⟩:=hx;clear ea;have z13:s12.frz.lg s13.frz:=h13.lg.frz2;have e13:U.le s13:=e12.trans h13;have hb1:=hb1.le h13;have ht:=ht.lg z13;have fx:=fx.lg z13;have fy:=fy.lg z13;have fu:=fu.lg z13;have fv:=fv.lg z13;have fr:=fr.lg z13;have fc:=fc.lg z13;have fl:=fl.lg z13;have fk:=fk.lg z13;have fs:=fs.lg z13 λ _ _ h=>h;have ft:=ft.lg z13 λ _ _ h=>h;have fw:=fw.lg z13;have fm:=fm.lg z13
 repeat refine⟨rfl,?_⟩
 conv=>whnf
 intro c14 hc14;refine Zk hc14 λ s14 h14 hq14=>?_;have z14:s13.frz.lg s14.frz:=h14.lg.frz2;have e14:U.le s14:=e13.trans h14;have fx:=fx.lg z14;have fy:=fy.lg z14;have fu:=fu.lg z14;have fv:=fv.lg z14;have fr:=fr.lg z14;have fc:=fc.lg z14;have fl:=fl.lg z14;have fk:=fk.lg z14;have fs:=fs.lg z14 λ _ _ h=>h;have ft:=ft.lg z14 λ _ _ h=>h;have fw:=fw.lg z14;have fm:=fm.lg z14;have fn:=fn.lg z14;have q:Qfa s14.frz (some ⟨c14,0,none⟩) 3 [false,false,true]:=Qi0 (l:=[false,false,true]) (hq14.imI λ _ _ h=>h);refine⟨Qhk.any,(W0 xa _ 3 xc 3 3 [false,false,true] [false,false,true] (fx.lg Qq) (q.lg Qq) (by decide)).go λ _=>?_⟩;rw[decide_eq_true (rfl:([false,false,true]:List Bool)=[false,false,true])];clear q
 conv=>whnf
 intro c15 hc15;refine Zk hc15 λ s15 h15 hq15=>?_;have z15:s14.frz.lg s15.frz:=h15.lg.frz2;have e15:U.le s15:=e14.trans h15;have fx:=fx.lg z15;have fy:=fy.lg z15;have fu:=fu.lg z15;have fv:=fv.lg z15;have fr:=fr.lg z15;have fc:=fc.lg z15;have fl:=fl.lg z15;have fk:=fk.lg z15;have fs:=fs.lg z15 λ _ _ h=>h;have ft:=ft.lg z15 λ _ _ h=>h;have fw:=fw.lg z15;have fm:=fm.lg z15;have fn:=fn.lg z15;have q:Qfa s15.frz (some ⟨c15,0,none⟩) 3 [true,true,false]:=Qi0 (l:=[true,true,false]) (hq15.imI λ _ _ h=>h);refine⟨Qhk.any,(W0 ya _ 3 yc 3 3 [true,true,false] [true,true,false] (fy.lg Qq) (q.lg Qq) (by decide)).go λ _=>?_⟩;rw[decide_eq_true (rfl:([true,true,false]:List Bool)=[true,true,false])];clear q
 conv=>whnf
 intro c16 hc16;refine Zk hc16 λ s16 h16 hq16=>?_;have z16:s15.frz.lg s16.frz:=h16.lg.frz2;have e16:U.le s16:=e15.trans h16;have fx:=fx.lg z16;have fy:=fy.lg z16;have fu:=fu.lg z16;have fv:=fv.lg z16;have fr:=fr.lg z16;have fc:=fc.lg z16;have fl:=fl.lg z16;have fk:=fk.lg z16;have fs:=fs.lg z16 λ _ _ h=>h;have ft:=ft.lg z16 λ _ _ h=>h;have fw:=fw.lg z16;have fm:=fm.lg z16;have fn:=fn.lg z16;have q:Qfa s16.frz (some ⟨c16,0,none⟩) 3 [false,true,false]:=Qi0 (l:=[false,true,false]) (hq16.imI λ _ _ h=>h);refine⟨Qhk.any,(W0 ua _ 3 uc 3 3 [false,true,false] [false,true,false] (fu.lg Qq) (q.lg Qq) (by decide)).go λ _=>?_⟩;rw[decide_eq_true (rfl:([false,true,false]:List Bool)=[false,true,false])];clear q
 conv=>whnf
 intro c17 hc17;refine Zk hc17 λ s17 h17 hq17=>?_;have z17:s16.frz.lg s17.frz:=h17.lg.frz2;have e17:U.le s17:=e16.trans h17;have fx:=fx.lg z17;have fy:=fy.lg z17;have fu:=fu.lg z17;have fv:=fv.lg z17;have fr:=fr.lg z17;have fc:=fc.lg z17;have fl:=fl.lg z17;have fk:=fk.lg z17;have fs:=fs.lg z17 λ _ _ h=>h;have ft:=ft.lg z17 λ _ _ h=>h;have fw:=fw.lg z17;have fm:=fm.lg z17;have fn:=fn.lg z17;have q:Qfa s17.frz (some ⟨c17,0,none⟩) 3 [false,true,true]:=Qi0 (l:=[false,true,true]) (hq17.imI λ _ _ h=>h);refine⟨Qhk.any,(W0 va _ 3 vc 3 3 [false,true,true] [false,true,true] (fv.lg Qq) (q.lg Qq) (by decide)).go λ _=>?_⟩;rw[decide_eq_true (rfl:([false,true,true]:List Bool)=[false,true,true])];clear q
 conv=>whnf
 intro c18 hc18;refine Zk hc18 λ s18 h18 hq18=>?_;have z18:s17.frz.lg s18.frz:=h18.lg.frz2;have e18:U.le s18:=e17.trans h18;have fx:=fx.lg z18;have fy:=fy.lg z18;have fu:=fu.lg z18;have fv:=fv.lg z18;have fr:=fr.lg z18;have fc:=fc.lg z18;have fl:=fl.lg z18;have fk:=fk.lg z18;have fs:=fs.lg z18 λ _ _ h=>h;have ft:=ft.lg z18 λ _ _ h=>h;have fw:=fw.lg z18;have fm:=fm.lg z18;have fn:=fn.lg z18;have q:Z3 s18.frz (some ⟨c18,0,none⟩) 3 [2,0,0]:=Qar (l:=[2,0,0]) (hq18.imI λ _ _ h=>h);refine⟨Qsh.any,(Qfj ra _ 3 rc 3 3 [2,0,0] [2,0,0] (fr.lg Qq) (q.lg Qq) (by decide)).go λ _=>?_⟩;rw[decide_eq_true (rfl:([2,0,0]:List Int)=[2,0,0])];clear q
 conv=>whnf
 intro c19 hc19;refine Zk hc19 λ s19 h19 hq19=>?_;have z19:s18.frz.lg s19.frz:=h19.lg.frz2;have e19:U.le s19:=e18.trans h19;have fx:=fx.lg z19;have fy:=fy.lg z19;have fu:=fu.lg z19;have fv:=fv.lg z19;have fr:=fr.lg z19;have fc:=fc.lg z19;have fl:=fl.lg z19;have fk:=fk.lg z19;have fs:=fs.lg z19 λ _ _ h=>h;have ft:=ft.lg z19 λ _ _ h=>h;have fw:=fw.lg z19;have fm:=fm.lg z19;have fn:=fn.lg z19;have q:Z3 s19.frz (some ⟨c19,0,none⟩) 3 [0,1,0]:=Qar (l:=[0,1,0]) (hq19.imI λ _ _ h=>h);refine⟨Qsh.any,(Qfj ca _ 3 cc 3 3 [0,1,0] [0,1,0] (fc.lg Qq) (q.lg Qq) (by decide)).go λ _=>?_⟩;rw[decide_eq_true (rfl:([0,1,0]:List Int)=[0,1,0])];clear q
 conv=>whnf
 intro c20 hc20;refine Zk hc20 λ s20 h20 hq20=>?_;have z20:s19.frz.lg s20.frz:=h20.lg.frz2;have e20:U.le s20:=e19.trans h20;have fx:=fx.lg z20;have fy:=fy.lg z20;have fu:=fu.lg z20;have fv:=fv.lg z20;have fr:=fr.lg z20;have fc:=fc.lg z20;have fl:=fl.lg z20;have fk:=fk.lg z20;have fs:=fs.lg z20 λ _ _ h=>h;have ft:=ft.lg z20 λ _ _ h=>h;have fw:=fw.lg z20;have fm:=fm.lg z20;have fn:=fn.lg z20;have q:Z3 s20.frz (some ⟨c20,0,none⟩) 3 [1,0,2]:=Qar (l:=[1,0,2]) (hq20.imI λ _ _ h=>h);refine⟨Qfe.any,(Qa7 la _ 3 lc 3 3 [1,0,2] [1,0,2] (fl.lg Qq) (q.lg Qq) (by decide)).go λ _=>?_⟩;rw[decide_eq_true (rfl:([1,0,2]:List Int)=[1,0,2])];clear q
 conv=>whnf
 intro c21 hc21;refine Zk hc21 λ s21 h21 hq21=>?_;have z21:s20.frz.lg s21.frz:=h21.lg.frz2;have e21:U.le s21:=e20.trans h21;have fx:=fx.lg z21;have fy:=fy.lg z21;have fu:=fu.lg z21;have fv:=fv.lg z21;have fr:=fr.lg z21;have fc:=fc.lg z21;have fl:=fl.lg z21;have fk:=fk.lg z21;have fs:=fs.lg z21 λ _ _ h=>h;have ft:=ft.lg z21 λ _ _ h=>h;have fw:=fw.lg z21;have fm:=fm.lg z21;have fn:=fn.lg z21;have q:Z3 s21.frz (some ⟨c21,0,none⟩) 3 [0,1,2]:=Qar (l:=[0,1,2]) (hq21.imI λ _ _ h=>h);refine⟨Qfe.any,(Qa7 ka _ 3 kc 3 3 [0,1,2] [0,1,2] (fk.lg Qq) (q.lg Qq) (by decide)).go λ _=>?_⟩;rw[decide_eq_true (rfl:([0,1,2]:List Int)=[0,1,2])];clear q
 conv=>whnf
 intro c22 hc22;refine Zk hc22 λ s22 h22 hq22=>?_;have z22:s21.frz.lg s22.frz:=h22.lg.frz2;have e22:U.le s22:=e21.trans h22;have fx:=fx.lg z22;have fy:=fy.lg z22;have fu:=fu.lg z22;have fv:=fv.lg z22;have fr:=fr.lg z22;have fc:=fc.lg z22;have fl:=fl.lg z22;have fk:=fk.lg z22;have fs:=fs.lg z22 λ _ _ h=>h;have ft:=ft.lg z22 λ _ _ h=>h;have fw:=fw.lg z22;have fm:=fm.lg z22;have fn:=fn.lg z22;have q:Qx s22.frz (some ⟨c22,0,none⟩) 1 2 [(0,1)] (λ x vs=>vs=encII x):=Qo1 (l:=[(0,1)]) (hq22.imI λ _ _ h=>h);refine⟨Qsi.any,(Qei sa _ 1 sc 1 1 [(0,1)] [(0,1)] (fs.lg Qq λ _ _ h=>h) (q.lg Qq λ _ _ h=>h) (by decide)).go λ _=>?_⟩;rw[decide_eq_true (rfl:([(0,1)]:List (Int×Int))=[(0,1)])];clear q
 conv=>whnf
 intro c23 hc23;refine Zk hc23 λ s23 h23 hq23=>?_;have z23:s22.frz.lg s23.frz:=h23.lg.frz2;have e23:U.le s23:=e22.trans h23;have fx:=fx.lg z23;have fy:=fy.lg z23;have fu:=fu.lg z23;have fv:=fv.lg z23;have fr:=fr.lg z23;have fc:=fc.lg z23;have fl:=fl.lg z23;have fk:=fk.lg z23;have fs:=fs.lg z23 λ _ _ h=>h;have ft:=ft.lg z23 λ _ _ h=>h;have fw:=fw.lg z23;have fm:=fm.lg z23;have fn:=fn.lg z23;have q:Qx s23.frz (some ⟨c23,0,none⟩) 2 2 [(1,0),(2,0)] (λ x vs=>vs=encII x):=Qo1 (l:=[(1,0),(2,0)]) (hq23.imI λ _ _ h=>h);refine⟨Qsi.any,(Qei ta _ 2 tc 2 2 [(1,0),(2,0)] [(1,0),(2,0)] (ft.lg Qq λ _ _ h=>h) (q.lg Qq λ _ _ h=>h) (by decide)).go λ _=>?_⟩;rw[decide_eq_true (rfl:([(1,0),(2,0)]:List (Int×Int))=[(1,0),(2,0)])];clear q
 conv=>whnf
 intro c24 hc24;refine Zk hc24 λ s24 h24 hq24=>?_;have z24:s23.frz.lg s24.frz:=h24.lg.frz2;have e24:U.le s24:=e23.trans h24;have fx:=fx.lg z24;have fy:=fy.lg z24;have fu:=fu.lg z24;have fv:=fv.lg z24;have fr:=fr.lg z24;have fc:=fc.lg z24;have fl:=fl.lg z24;have fk:=fk.lg z24;have fs:=fs.lg z24 λ _ _ h=>h;have ft:=ft.lg z24 λ _ _ h=>h;have fw:=fw.lg z24;have fm:=fm.lg z24;have fn:=fn.lg z24;have q:Z3 s24.frz (some ⟨c24,0,none⟩) 1 [0]:=Qar (l:=[0]) (hq24.imI λ _ _ h=>h);refine⟨Qfe.any,(Qa7 wa _ 1 wc 1 1 [0] [0] (fw.lg Qq) (q.lg Qq) (by decide)).go λ _=>?_⟩;rw[decide_eq_true (rfl:([0]:List Int)=[0])];clear q
 conv=>whnf
 intro c25 hc25;refine Zk hc25 λ s25 h25 hq25=>?_;have z25:s24.frz.lg s25.frz:=h25.lg.frz2;have e25:U.le s25:=e24.trans h25;have fx:=fx.lg z25;have fy:=fy.lg z25;have fu:=fu.lg z25;have fv:=fv.lg z25;have fr:=fr.lg z25;have fc:=fc.lg z25;have fl:=fl.lg z25;have fk:=fk.lg z25;have fs:=fs.lg z25 λ _ _ h=>h;have ft:=ft.lg z25 λ _ _ h=>h;have fw:=fw.lg z25;have fm:=fm.lg z25;have fn:=fn.lg z25;have q:Z3 s25.frz (some ⟨c25,0,none⟩) 1 [1]:=Qar (l:=[1]) (hq25.imI λ _ _ h=>h);refine⟨Qfe.any,(Qa7 ma _ 1 mc 1 1 [1] [1] (fm.lg Qq) (q.lg Qq) (by decide)).go λ _=>?_⟩;rw[decide_eq_true (rfl:([1]:List Int)=[1])];clear q
 conv=>whnf
 intro c26 hc26;refine Zk hc26 λ s26 h26 hq26=>?_;have z26:s25.frz.lg s26.frz:=h26.lg.frz2;have e26:U.le s26:=e25.trans h26;have fx:=fx.lg z26;have fy:=fy.lg z26;have fu:=fu.lg z26;have fv:=fv.lg z26;have fr:=fr.lg z26;have fc:=fc.lg z26;have fl:=fl.lg z26;have fk:=fk.lg z26;have fs:=fs.lg z26 λ _ _ h=>h;have ft:=ft.lg z26 λ _ _ h=>h;have fw:=fw.lg z26;have fm:=fm.lg z26;have fn:=fn.lg z26;have q:Z3 s26.frz (some ⟨c26,0,none⟩) 2 [0,1]:=Qar (l:=[0,1]) (hq26.imI λ _ _ h=>h);refine⟨Qfe.any,(Qa7 na _ 2 nc 2 2 [0,1] [0,1] (fn.lg Qq) (q.lg Qq) (by decide)).go λ _=>?_⟩;rw[decide_eq_true (rfl:([0,1]:List Int)=[0,1])];clear q
 repeat refine⟨rfl,?_⟩
 conv=>whnf
 exact e26.lg
end Go.Proofs
namespace Go.TM
variable{T:Type}{P:Program}{S:Sys P T}{U:Qa T}
def Zf3(c:UInt8):IntKind.wrap .i64 (c.toNat:Int)=c.toNat:=by
 have:=c.toNat_lt;simp only[IntKind.wrap,IntKind.signed,IntKind.bits];simp;omega
def Zrm{s:ByteArray}{i:Nat}{c:UInt8}(h:s.data.toList[i]?=some c):s[i]?=some c:=by
 rw[<- h];have:s[i]?=s.data[i]?:=rfl;rw[this,Array.getElem?_toList]
def Qxb(c:UInt8):Bool:=W1 (c.toNat:Int) 97 122
def Q5n(c:UInt8):Bool:=W1 (c.toNat:Int) 48 57
def Q5f(c:UInt8):Ql7 c=(!Qxb c&&!Q5n c):=by
 unfold Ql7 Qxb Q5n W1;rw[Bool.eq_iff_iff];simp
def Qq3:List UInt8->Nat->Bool
 |[],_=>true
 |c::r,i=>(Qxb c|| (Q5n c&&!decide (i=0)))&&Qq3 r (i+1)
def Q6c:∀(l:List UInt8)(i:Nat),0<i->Qq3 l i=!(l.any Ql7)
 |[],_,_=>rfl
 |c::r,i,h=>by
  rw[Qq3,Q6c r (i+1) (by omega),any_cons,Q5f,Bool.not_or,Bool.not_and,Bool.not_not,Bool.not_not];have:decide (i=0)=false:=decide_eq_false (by omega);rw[this];cases Qxb c <;> cases Q5n c <;> rfl
def Zjb(s:ByteArray):Zf s=(W1 s.size 1 10&&Qq3 s.data.toList 0):=by
 unfold Zf;have hsz:s.size=s.data.toList.length:=(Array.length_toList (xs:=s.data)).symm;cases h:s.data.toList with
 |nil=>
  have:W1 (s.size:Int) 1 10=false:=by unfold W1;rw[hsz,h];rfl
  rw[this];rfl
 |cons c r=>
  congr 1;rw[Qq3,Q6c r 1 (by omega),any_cons,Q5f,Bool.not_or,Bool.not_and,Bool.not_not,Bool.not_not]
  have e1:(!(decide ((c.toNat:Int)<97))&&!(decide ((c.toNat:Int) > 122)))=Qxb c:=by
   unfold Qxb W1;rw[Bool.eq_iff_iff];simp only[Bool.and_eq_true,Bool.not_eq_true',decide_eq_false_iff_not,decide_eq_true_eq];omega
  simp only[e1];cases Qxb c <;> simp
def Qx.take{a:Option Addr}{len n i:Nat}{α:Type}{l:List α}{R:α->List Value->Prop}(h:Qx U a len n l R)(hi:i<=len):Qx U a i n (l.take i) R:=by
 refine⟨by rw[length_take,h.1];omega,λ k x hx=>?_⟩;have hk:=(List.getElem?_eq_some_iff.1 hx).1;rw[length_take]at hk;rw[getElem?_take_of_lt (by omega)]at hx;exact h.2 k x hx
def Wj.at{a:Option Addr}{len:Nat}{ls:List (List Int)}(h:Wj U a len ls){i:Nat}(hi:i<len) :
  ∃ad g ga gl gc,ls[i]?=some g/\a=some ad/\ad.spot=none/\U.sees ((ad.add (i*1)).add 0) (.slice ga gl gc)/\Z3 U ga gl g/\gl<2^60/\g∈ls:=by
 obtain⟨ad,g,vs,hx,hea,hsp,⟨ga,gl,gc,rfl,h1,h2⟩,-,hrd⟩:=Qx.at h hi;exact⟨ad,g,ga,gl,gc,hx,hea,hsp,hrd 0 _ rfl,h1,h2,mem_of_getElem? hx⟩
end Go.TM
namespace Go.Proofs
open Go.TM
variable{T:Type}{S:TM.Sys Tryz.prog T}{U:Qa T}
attribute [local irreducible] Qb Zh We
def Qwx(s:ByteArray)(hs:s.size<2^60):Qb S 72 #[.string s] (λ v U'=>v=.bool (Zf s)/\U'=U) U:=by
 refine Qb.pure' (Qb.of (args:=[_]) Q3w Qd (by simp) ?_);rw[Zjb];have hsz:s.size=s.data.toList.length:=(Array.length_toList (xs:=s.data)).symm
 repeat refine⟨rfl,?_⟩
 conv=>whnf
 apply Zc<;>intro hc
 .have h0:s.size≠0:=by simpa using hc
  repeat refine⟨rfl,?_⟩
  conv=>whnf
  apply Qe<;>intro hc
  .have:W1 s.size 1 10=false:=by unfold W1;simp at hc ⊢;omega
   rw[this]
   repeat refine⟨rfl,?_⟩
   conv=>whnf
   exact(Qa.le.refl _).lg
  .have:W1 s.size 1 10=true:=by unfold W1;simp at hc ⊢;omega
   rw[this,Bool.true_and];refine⟨Nat,λ i=>[(0,.string s),(3,.int .i64 i)],λ i U'=>U.le U'/\i<=s.size/\Qq3 s.data.toList 0=Qq3 (s.data.toList.drop i) i,λ i=>s.size-i,0,by trivial,⟨.refl _,by omega,rfl⟩,?_⟩;rintro i f U₀⟨hle0,hi,hinv⟩
   repeat refine⟨rfl,?_⟩
   conv=>whnf
   apply Qe<;>intro hc
   .have hlt:i<s.size:=by simpa using hc
    obtain⟨c,hx⟩:∃c,s.data.toList[i]?=some c:=⟨_,getElem?_eq_getElem (by omega)⟩;rw[Qbe hx,Qq3]at hinv;refine⟨i,c,⟨rfl,Zrm hx⟩,.bool (Qxb c),λ U' hle _=>?_,?_⟩
    .refine⟨Qap.any,(Wq _ _ _ _).mono ?_⟩;rintro _ U''⟨rfl,hU⟩-;exact⟨by rw[Zf3];rfl,_,.refl _,hU▸.refl _⟩
    refine⟨i,c,⟨rfl,Zrm hx⟩,?_⟩
    conv=>whnf
    intro U1 hle _;refine⟨Qap.any,(Wq _ _ _ _).go λ _=>?_⟩;rw[Zf3];have hin:Zm (i+1):=by unfold Zm;omega
    have next:Qq3 s.data.toList 0=Qq3 (s.data.toList.drop (i+1)) (i+1)->i+1<=s.size/\Qq3 s.data.toList 0=Qq3 (s.data.toList.drop (i+1)) (i+1):=λ h=>⟨by omega,h⟩
    repeat refine⟨rfl,?_⟩
    conv=>whnf
    apply Zc<;>intro hc
    .have h1:Qxb c=false:=by simpa using hc
     repeat refine⟨rfl,?_⟩
     conv=>whnf
     apply Zc<;>intro hc
     .have h2:Q5n c=true:=by simpa[Q5n]using hc
      repeat refine⟨rfl,?_⟩
      conv=>whnf
      apply Qe<;>intro hc
      .have h3:i=0:=by simpa using hc
       repeat refine⟨rfl,?_⟩
       conv=>whnf
       exact⟨by rw[hinv,h1,h3];simp,(hle0.trans hle).lg⟩
      .have h3:i≠0:=by simpa using hc
       refine⟨hin,rfl,i+1,by trivial,⟨hle0.trans hle,next (by rw[hinv,h1,h2];simp[h3])⟩,by show _-_<_-_;omega⟩
     .have h2:Q5n c=false:=by simpa[Q5n]using hc
      repeat refine⟨rfl,?_⟩
      conv=>whnf
      exact⟨by rw[hinv,h1,h2];simp,(hle0.trans hle).lg⟩
    .have h1:Qxb c=true:=by simpa using hc
     repeat refine⟨rfl,?_⟩
     refine⟨hin,rfl,i+1,by trivial,⟨hle0.trans hle,next (by rw[hinv,h1];simp)⟩,by show _-_<_-_;omega⟩
   .have hge:s.size<=i:=by simpa using hc
    rw[drop_eq_nil_of_le (by omega)]at hinv
    repeat refine⟨rfl,?_⟩
    conv=>whnf
    exact⟨by rw[hinv];rfl,hle0.lg⟩
 .have h0:s.size=0:=by simpa using hc
  have:W1 s.size 1 10=false:=by unfold W1;rw[h0];rfl
  rw[this]
  repeat refine⟨rfl,?_⟩
  conv=>whnf
  exact(Qa.le.refl _).lg
structure Ztb(b:Bk):Prop where
 r:∀s∈b.rs,s.size<2^50
 c:∀c∈b.cs,c.nm.size<2^50
end Go.Proofs
namespace Go.TM
variable{T:Type}{P:Program}{S:Sys P T}{f:Fm}{U:Qa T}{K:Value->Qa T->Prop}
def Zqs{t t' ty:TypeId}{x y:Operand}{a b:ByteArray}(hx:Zl f x=.string a)(hy:Zl f y=.string b)(hl:a.size+b.size<2^60)(h:K (.string (a++b)) U) :
  OX S (.raw { dst:=none,op:=.binOp .add t x y t',type:=ty,pos := "", after:=#[],guard:=none }) f K U:=by
 intro a' ha;simp only[execOp,ha,hx,hy];refine rq ?_;rw[Qf];show Qr P (Op.stringOp .add a b) _ U;unfold Op.stringOp;have hm:IntKind.i64.max=9223372036854775807:=by decide
 have hn:¬((a.size+b.size:Nat):Int) > IntKind.i64.max:=by rw[hm];omega
 simp only[hn,if_false];exact⟨U,.refl _,h⟩
def Zoc{t t' e ty cap u:Nat}{ad:Addr}{x:Operand}(hu:P.underlying t=some (.slice e))(hu':P.underlying t'=some .string)(hu8:P.underlying e=some (.int .u8))(hx:Zl f x=.slice (some ad) 1 cap)(hr:U.sees ad (.int .u8 u))(h:K (.string (ByteArray.empty.push (UInt8.ofNat u))) U) :
  OX S (.raw { dst:=none,op:=.convert t t' x,type:=ty,pos := "", after:=#[],guard:=none }) f K U:=by
 intro a' ha;simp only[execOp,ha,hx];refine rq ?_;unfold convert;simp only[Qf,Zg hu,Zg hu',Zg hu8,Conv.bytesToString,loadCells];refine Qgp [.int .u8 (u:Int)] 0 #[] (λ j v hj=>?_) ?_
 .obtain rfl:j=0:=by
   rcases j with _|j
   .rfl
   .simp at hj
  simp only[getElem?_cons_zero,Option.some.injEq]at hj;rw[<- hj];simpa[Addr.add]using hr
 simp[Qf,Qi];exact⟨U,.refl _,h⟩
end Go.TM
namespace Go.Proofs
open Go.TM
variable{T:Type}{S:TM.Sys Tryz.prog T}{U:Qa T}
attribute [local irreducible] Qb Zh We
def Zhy:Tryz.prog.underlying 139=some (.slice 5):=by kernel_rfl
def Qr3(k:Nat)(hk:k<10):Qb S 35 #[.int .i64 k] (λ v U'=>v=.string (ByteArray.empty.push (UInt8.ofNat (48+k)))/\U'=U) U:=by
 refine Qb.pure' (Qb.of (args:=[_]) Q3j Qd (by simp) ?_)
 have e:IntKind.wrap .u8 (48+(k:Int))=((48+k:Nat):Int):=by
  have h1:IntKind.wrap .u8 ((48+k:Nat):Int)=((48+k:Nat):Int):=by
   have key:∀k,k<10->IntKind.wrap .u8 ((48+k:Nat):Int)=((48+k:Nat):Int):=by decide
   exact key k hk
  rw[<- h1];congr 1
 repeat refine⟨rfl,?_⟩
 conv=>whnf
 apply Qe<;>intro hc
 .refine⟨by unfold Zm;omega,?_⟩
  conv=>whnf
  rw[e]
  conv=>whnf
  intro b8 h8;refine Zk h8 λ U1 h_1 hq=>?_;have hq:Zd U1 b8 #[.int .u8 ((48+k:Nat):Int)]:=hq
  conv=>whnf
  refine Zoc (e:=5) Zhy Zex Q4w rfl (hq.sees3 (o:=0) rfl) ?_
  repeat refine⟨rfl,?_⟩
  conv=>whnf
  exact h_1.lg
 .exact absurd hc (by simp;omega)
def Zpm(w:ByteArray)(hw:w.size<2^50)(k:Nat)(hk:k<10):Qb S 9 #[.string w,.int .i64 k] (λ v U'=>v=.string (w++ByteArray.empty.push (UInt8.ofNat (48+k)))/\U'=U) U:=by
 refine Qb.of (args:=[_,_]) Zpk Qd (by simp) ?_;refine⟨Q3j.any,(Qr3 k hk).go λ _=>?_⟩
 conv=>whnf
 refine Zqs rfl rfl (by show w.size+1<_;omega) ?_
 repeat refine⟨rfl,?_⟩
 conv=>whnf
 first|done|exact⟨rfl,rfl⟩
def Zo6(h:BH)(b:Bk)(hb:Zt U.frz h b)(hk:Chk U)(hf:b.flaw Zf=0)(r:Nat)(hr:r<h.rl):Qb S 10 #[h.v,.int .i64 r] (λ v U'=>v=.tuple #[.int .i64 (b.fatR r),.bool true]/\U'=U) U:=by
 refine Qb.pure' (Qb.of (args:=[_,_]) Zme Qd (by simp) ?_);have hrl:=hb.rs.1
 repeat refine⟨rfl,?_⟩
 conv=>whnf
 intro B U1 h_1 hB;have hB:Zd U1 B #[.slice h.ra h.rl h.rc,.slice h.ca h.cl h.cc]:=hB;refine⟨_,⟨rfl,hB.reads (λ k v hv=>by simpa using hv)⟩,?_⟩;refine⟨Qsd.any,(Qje h b (hb.lg h_1.lg.frz2) (hk.lg h_1.lg)).mono ?_⟩;rintro _ U2⟨⟨_,_,rfl,⟨ra,rc,rfl,hR⟩,⟨ca,cc,rfl,hC⟩⟩,h_2⟩-;rw[hf]at hR ⊢;rw[if_pos rfl]at hR;rw[if_pos rfl];have hl:b.fatesR.length=h.rl:=by simp[Bk.fatesR,hrl]
 rw[hl]at hR ⊢;obtain⟨adR,xR,hxR,hRa,hRs,hsR⟩:=hR.at hr;obtain rfl:b.fatR r=xR:=Option.some.inj ((show b.fatesR[r]?=some (b.fatR r) by simp[Bk.fatesR,show r<b.rs.length by omega]).symm.trans hxR)
 repeat refine⟨rfl,?_⟩
 refine⟨_,(hB.lg h_2.lg).sees3 (o:=0) rfl,?_⟩
 repeat refine⟨rfl,?_⟩
 conv=>whnf
 apply Qe<;>intro hc
 .exact absurd hc (by simp)
 refine⟨adR,r,⟨hRa,rfl,hr⟩,_,hsR.lg Qq,?_⟩
 repeat refine⟨rfl,?_⟩
 conv=>whnf
 exact(h_1.trans h_2).lg
end Go.Proofs
namespace Go.TM
variable{T:Type}{U U':Qa T}
structure Ap where
 nm:ByteArray
 ps:List (Int×Int)
 cs:List (Int×Int×List Int)
 ds:List (Nat->Int)
def Qf9(U:Qa T)(c:Int×Int×List Int)(vs:List Value):Prop:=∃ia il ic,vs=[.int .i64 c.1,.int .i64 c.2.1,.slice ia il ic]/\Z3 U ia il c.2.2/\il<2^60
def Zo9(d:Nat->Int)(vs:List Value):Prop:=vs=[.int .i64 (d 0),.int .i64 (d 1),.int .i64 (d 2),.int .i64 (d 3),.int .i64 (d 4),.int .i64 (d 5)]
def Zf4(U:Qa T)(x:Ap)(vs:List Value):Prop:=∃pa pl pc ca cl cc da dl dc,vs=[.string x.nm,.slice pa pl pc,.slice ca cl cc,.slice da dl dc] /\
 (Qx U pa pl 2 x.ps (λ s vs=>vs=[.int .i64 s.1,.int .i64 s.2])/\pl<2^60)/\(Qx U ca cl 3 x.cs (Qf9 U)/\cl<2^60)/\Qx U da dl 6 x.ds Zo9/\dl<2^60
def Qf9.lg{c:Int×Int×List Int}{vs:List Value}(h:Qf9 U c vs)(k:U.lg U'):Qf9 U' c vs:=let ⟨ia,il,ic,e,h1,h2⟩:=h;⟨ia,il,ic,e,h1.lg k,h2⟩
def Zf4.lg{x:Ap}{vs:List Value}(h:Zf4 U x vs)(k:U.lg U'):Zf4 U' x vs:=
 let ⟨pa,pl,pc,ca,cl,cc,da,dl,dc,e,⟨h1,h2⟩,⟨h3,h4⟩,h5,h6⟩:=h
 ⟨pa,pl,pc,ca,cl,cc,da,dl,dc,e,⟨h1.lg k λ _ _ h=>h,h2⟩,⟨h3.lg k λ _ _ h=>h.lg k,h4⟩,h5.lg k λ _ _ h=>h,h6⟩
def Z7.subA{a:Addr}{vs:List Value}(h:Z7 U a vs){o n:Nat}:Z7 U (a.add o) ((vs.drop o).take n):=by
 intro i v hv;rw[getElem?_take]at hv;split at hv
 .rw[getElem?_drop]at hv;have:=h (o+i) v hv;rw[show(a.add o).add i=a.add (o+i) by unfold Addr.add;by_cases h1:o=0 <;> by_cases h2:i=0 <;> simp[h1,h2,Nat.add_assoc]];exact this
 .cases hv
structure FH where
 c:CH
 n:Nat->Int
 aa:Option Addr
 al:Nat
 ac:Nat
abbrev FH.l(h:FH):List Value:=[.slice h.c.wa h.c.wl h.c.wc,.slice h.c.sa h.c.sl h.c.sc,.int .i64 (h.n 2),.int .i64 (h.n 3),.int .i64 (h.n 4),.int .i64 (h.n 5),.int .i64 (h.n 6),.int .i64 (h.n 7),.int .i64 (h.n 8),.int .i64 (h.n 9),.int .i64 (h.n 10),.int .i64 (h.n 11),.int .i64 (h.n 12),.int .i64 (h.n 13),.slice h.aa h.al h.ac]
abbrev FH.v(h:FH):Value:=.agg #[.slice h.c.wa h.c.wl h.c.wc,.slice h.c.sa h.c.sl h.c.sc,.int .i64 (h.n 2),.int .i64 (h.n 3),.int .i64 (h.n 4),.int .i64 (h.n 5),.int .i64 (h.n 6),.int .i64 (h.n 7),.int .i64 (h.n 8),.int .i64 (h.n 9),.int .i64 (h.n 10),.int .i64 (h.n 11),.int .i64 (h.n 12),.int .i64 (h.n 13),.slice h.aa h.al h.ac]
structure Qpa(U:Qa T)(h:FH)(c:Cal)(aps:List Ap):Prop where
 cal:Qmu U h.c c
 ap:Qx U h.aa h.al 4 aps (Zf4 U)
 al:h.al<2^60
 nm:∀x∈aps,x.nm.size<2^60
def Qpa.lg{h:FH}{c:Cal}{l:List Ap}(k:Qpa U h c l)(hl:U.lg U'):Qpa U' h c l:=⟨k.cal.lg hl,k.ap.lg hl λ _ _ h=>h.lg hl,k.al,k.nm⟩
end Go.TM
namespace Go.Proofs
open Go.TM
variable{T:Type}{S:TM.Sys Tryz.prog T}{U:Qa T}
attribute [local irreducible] Qb Zh We
def Qjo(U:Qa T)(n u:Int):Qb S 56 #[.agg #[.int .i64 n,.int .i64 u]] (λ v U'=>(∃n,v=.int .i64 n)/\U'=U) U:=by
 refine Qb.pure' (Qb.of (args:=[_]) Qsp Qd (by simp) ?_)
 repeat refine⟨rfl,?_⟩
 conv=>whnf
 intro B U1 h_1 hB;have hB:Zd U1 B #[.int .i64 n,.int .i64 u]:=hB;refine⟨_,hB.sees3 (o:=0) rfl,Qap.any,(Wq U1 n 0 999).go λ _=>?_⟩;cases hb:W1 n 0 999 with
 |false=>
  repeat refine⟨rfl,?_⟩
  conv=>whnf
  exact⟨⟨_,rfl⟩,h_1.lg⟩
 |true=>
  refine⟨_,hB.sees3 (o:=1) rfl,?_⟩
  repeat refine⟨rfl,?_⟩
  conv=>whnf
  apply Zc<;>intro hc
  .refine⟨_,hB.sees3 (o:=1) rfl,?_⟩
   repeat refine⟨rfl,?_⟩
   conv=>whnf
   apply Qe<;>intro hc
   .repeat refine⟨rfl,?_⟩
    conv=>whnf
    exact⟨⟨_,rfl⟩,h_1.lg⟩
   .repeat refine⟨rfl,?_⟩
    conv=>whnf
    exact⟨⟨_,rfl⟩,h_1.lg⟩
  .repeat refine⟨rfl,?_⟩
   conv=>whnf
   exact⟨⟨_,rfl⟩,h_1.lg⟩
def Qda(U:Qa T)(n:Int):Qb S 111 #[.int .i64 n] (λ v U'=>(∃b,v=.bool b)/\U'=U) U:=by
 refine Qb.of (args:=[_]) Qim Qd (by simp) ?_
 repeat refine⟨rfl,?_⟩
 conv=>whnf
 apply Zc<;>intro hc
 .refine⟨Qc4.any,(W5 U n).go λ _=>?_⟩
  repeat refine⟨rfl,?_⟩
  conv=>whnf
  exact⟨⟨_,rfl⟩,rfl⟩
 .repeat refine⟨rfl,?_⟩
  conv=>whnf
  exact⟨⟨_,rfl⟩,rfl⟩
def Qs8(a:Option Addr)(len cap:Nat)(l:List (Int×Int))(hl:Qx U a len 2 l λ s vs=>vs=[.int .i64 s.1,.int .i64 s.2])(hlen:len<2^60):Qb S 80 #[.slice a len cap] (λ v U'=>(∃n,v=.int .i64 n)/\U'=U) U:=by
 refine Qb.of (args:=[_]) Q30 Qd (by simp) ?_
 repeat refine⟨rfl,?_⟩
 conv=>whnf
 apply Qe<;>intro hc
 .repeat refine⟨rfl,?_⟩
  conv=>whnf
  exact⟨⟨_,rfl⟩,rfl⟩
 refine⟨Nat,λ i=>[(0,.slice a len cap),(3,.int .i64 i)],λ i U'=>U'=U/\i<=len,λ i=>len-i,0,by trivial,⟨rfl,by omega⟩,?_⟩;rintro i f U1⟨hU,hi⟩;obtain rfl:=hU.symm;have hin:Zm ((i:Int)+1):=by unfold Zm;omega
 repeat refine⟨rfl,?_⟩
 conv=>whnf
 apply Qe<;>intro hc
 .have hlt:i<len:=by simpa using hc
  obtain⟨ad,x,vs,hx,hea,hsp,rfl,-,hrd⟩:=hl.at hlt;refine⟨ad,i,⟨hea,rfl,hlt⟩,_,hrd.cell (i:=0) rfl,Qap.any,(Wq U x.1 0 3).go λ _=>?_⟩;cases W1 x.1 0 3 with
  |false=>
   repeat refine⟨rfl,?_⟩
   conv=>whnf
   exact⟨⟨_,rfl⟩,rfl⟩
  |true=>
   refine⟨ad,i,⟨hea,rfl,hlt⟩,_,hrd.cell (i:=1) rfl,Qc4.any,(W5 U x.2).go λ _=>?_⟩;cases Qg2 x.2 with
   |false=>
    repeat refine⟨rfl,?_⟩
    conv=>whnf
    exact⟨⟨_,rfl⟩,rfl⟩
   |true=>
    refine⟨hin,?_⟩
    conv=>whnf
    exact⟨rfl,i+1,by trivial,⟨rfl,by omega⟩,by show _-_<_-_;omega⟩
 .repeat refine⟨rfl,?_⟩
  conv=>whnf
  exact⟨⟨_,rfl⟩,rfl⟩
def Qz4(a:Option Addr)(len cap:Nat)(l:List (Nat->Int))(hl:Qx U a len 6 l Zo9)(hlen:len<2^60):Qb S 82 #[.slice a len cap] (λ v U'=>(∃n,v=.int .i64 n)/\U'=U) U:=by
 refine Qb.of (args:=[_]) Q32 Qd (by simp) ?_
 repeat refine⟨rfl,?_⟩
 conv=>whnf
 apply Qe<;>intro hc
 .repeat refine⟨rfl,?_⟩
  conv=>whnf
  exact⟨⟨_,rfl⟩,rfl⟩
 refine⟨Nat,λ i=>[(0,.slice a len cap),(3,.int .i64 i)],λ i U'=>U'=U/\i<=len,λ i=>len-i,0,by trivial,⟨rfl,by omega⟩,?_⟩;rintro i f U1⟨hU,hi⟩;obtain rfl:=hU.symm;have hin:Zm ((i:Int)+1):=by unfold Zm;omega
 repeat refine⟨rfl,?_⟩
 conv=>whnf
 apply Qe<;>intro hc
 .have hlt:i<len:=by simpa using hc
  obtain⟨ad,x,vs,hx,hea,hsp,hdr,-,hrd⟩:=hl.at hlt;obtain rfl:vs=[.int .i64 (x 0),.int .i64 (x 1),.int .i64 (x 2),.int .i64 (x 3),.int .i64 (x 4),.int .i64 (x 5)]:=hdr;refine⟨ad,i,⟨hea,rfl,hlt⟩,_,hrd.cell (i:=0) rfl,Qc4.any,(W5 U (x 0)).go λ _=>?_⟩;cases Qg2 (x 0)with
  |false=>
   repeat refine⟨rfl,?_⟩
   conv=>whnf
   exact⟨⟨_,rfl⟩,rfl⟩
  |true=>
   refine⟨ad,i,⟨hea,rfl,hlt⟩,_,⟨rfl,hrd.subA (o:=1) (n:=2)⟩,Qsp.any,(Qjo U (x 1) (x 2)).mono ?_⟩;rintro _ U'⟨⟨n,rfl⟩,hU'⟩-;obtain rfl:=hU'.symm
   repeat refine⟨rfl,?_⟩
   conv=>whnf
   apply Qe<;>intro hc
   .repeat refine⟨rfl,?_⟩
    conv=>whnf
    exact⟨⟨_,rfl⟩,rfl⟩
   refine⟨ad,i,⟨hea,rfl,hlt⟩,_,hrd.cell (i:=3) rfl,Qim.any,(Qda U (x 3)).mono ?_⟩;rintro _ U'⟨⟨b1,rfl⟩,hU'⟩-;obtain rfl:=hU'.symm;cases b1 with
   |false=>
    repeat refine⟨rfl,?_⟩
    conv=>whnf
    exact⟨⟨_,rfl⟩,rfl⟩
   |true=>
    refine⟨ad,i,⟨hea,rfl,hlt⟩,_,hrd.cell (i:=4) rfl,Qim.any,(Qda U (x 4)).mono ?_⟩;rintro _ U'⟨⟨b2,rfl⟩,hU'⟩-;obtain rfl:=hU'.symm;cases b2 with
    |false=>
     repeat refine⟨rfl,?_⟩
     conv=>whnf
     exact⟨⟨_,rfl⟩,rfl⟩
    |true=>
     refine⟨ad,i,⟨hea,rfl,hlt⟩,_,hrd.cell (i:=5) rfl,Qim.any,(Qda U (x 5)).mono ?_⟩;rintro _ U'⟨⟨b3,rfl⟩,hU'⟩-;obtain rfl:=hU'.symm;cases b3 with
     |false=>
      repeat refine⟨rfl,?_⟩
      conv=>whnf
      exact⟨⟨_,rfl⟩,rfl⟩
     |true=>
      refine⟨hin,?_⟩
      conv=>whnf
      exact⟨rfl,i+1,by trivial,⟨rfl,by omega⟩,by show _-_<_-_;omega⟩
 .repeat refine⟨rfl,?_⟩
  conv=>whnf
  exact⟨⟨_,rfl⟩,rfl⟩
def Qr2(h:FH)(hit:Zm (h.n 13-1))(a:Option Addr)(len cap:Nat)(l:List (Int×Int×List Int))(hl:Qx U a len 3 l (Qf9 U))(hlen:len<2^60):Qb S 81 #[h.v,.slice a len cap] (λ v U'=>(∃n,v=.int .i64 n)/\U'=U) U:=by
 refine Qb.pure' (Qb.of (args:=[_,_]) Q31 Qd (by simp) ?_)
 repeat refine⟨rfl,?_⟩
 conv=>whnf
 intro B U1 h_1 hB;have hB:Zd U1 B h.l.toArray:=hB;have hl_1:Qx U1 a len 3 l (Qf9 U1):=hl.lg h_1.lg λ _ _ h=>h.lg h_1.lg
 repeat refine⟨rfl,?_⟩
 conv=>whnf
 apply Qe<;>intro hc
 .repeat refine⟨rfl,?_⟩
  conv=>whnf
  exact⟨⟨_,rfl⟩,h_1.lg⟩
 refine⟨Nat,λ i=>[(1,.slice a len cap),(2,.pointer (some ⟨B,0,none⟩)),(5,.int .i64 i)],λ i U'=>U1.le U'/\i<=len,λ i=>len-i,0,by trivial,⟨.refl _,by omega⟩,?_⟩;rintro i f U2⟨h_2,hi⟩;have hin:Zm ((i:Int)+1):=by unfold Zm;omega
 have hl_2:Qx U2 a len 3 l (Qf9 U2):=hl_1.lg h_2.lg λ _ _ h=>h.lg h_2.lg;have hfin:∀{w:Qa T},U2.le w->U.lg w:=λ k=>(h_1.trans (h_2.trans k)).lg
 repeat refine⟨rfl,?_⟩
 conv=>whnf
 apply Qe<;>intro hc
 .have hlt:i<len:=by simpa using hc
  obtain⟨ad,x,vs,hx,hea,hsp,hcr,-,hrd⟩:=hl_2.at hlt;obtain⟨ia,il,ic,rfl,hii,hil⟩:=hcr;refine⟨ad,i,⟨hea,rfl,hlt⟩,_,hrd.cell (i:=0) rfl,Qc4.any,(W5 U2 x.1).go λ _=>?_⟩;cases Qg2 x.1 with
  |false=>
   repeat refine⟨rfl,?_⟩
   conv=>whnf
   exact⟨⟨_,rfl⟩,hfin (.refl _)⟩
  |true=>
   refine⟨ad,i,⟨hea,rfl,hlt⟩,_,hrd.cell (i:=1) rfl,Qc4.any,(W5 U2 x.2.1).go λ _=>?_⟩;cases Qg2 x.2.1 with
   |false=>
    repeat refine⟨rfl,?_⟩
    conv=>whnf
    exact⟨⟨_,rfl⟩,hfin (.refl _)⟩
   |true=>
    refine⟨Nat,λ k=>[(1,.slice a len cap),(2,.pointer (some ⟨B,0,none⟩)),(5,.int .i64 i),(6,.int .i64 k)],λ k U'=>U2.le U'/\k<=il,λ k=>il-k,0,by trivial,⟨.refl _,by omega⟩,?_⟩;rintro k f U3⟨h_3,hk⟩;have hink:Zm ((k:Int)+1):=by unfold Zm;omega
    have hrd3:=hrd.lg h_3.lg;have hii3:=hii.lg h_3.lg;have hB_3:=(hB.le h_2).le h_3;refine⟨ad,i,⟨hea,rfl,hlt⟩,_,hrd3.cell (i:=2) rfl,?_⟩
    repeat refine⟨rfl,?_⟩
    conv=>whnf
    apply Qe<;>intro hc
    .have hltk:k<il:=by simpa using hc
     obtain⟨ad2,y,hy,hea2,hsp2,hs2⟩:=hii3.at hltk;refine⟨ad,i,⟨hea,rfl,hlt⟩,_,hrd3.cell (i:=2) rfl,ad2,k,⟨hea2,rfl,hltk⟩,_,hs2,_,hB_3.sees3 (o:=13) rfl,hit,?_⟩
     conv=>whnf
     intro U4 h_4 _;refine⟨Qap.any,(Wq U4 y 0 (h.n 13-1)).go λ _=>?_⟩;cases W1 y 0 (h.n 13-1)with
     |false=>
      repeat refine⟨rfl,?_⟩
      conv=>whnf
      exact⟨⟨_,rfl⟩,hfin (h_3.trans h_4)⟩
     |true=>
      have hrd4:=hrd3.lg h_4.lg;have hs4:=hs2.lg h_4.lg;have hii4:=hii3.lg h_4.lg
      repeat refine⟨rfl,?_⟩
      conv=>whnf
      apply Zc<;>intro hc
      .have h0:0<k:=by simpa using hc
       obtain⟨j,rfl⟩:∃j,k=j+1:=⟨k-1,by omega⟩;obtain⟨ad3,z,hz,hea3,hsp3,hs3⟩:=hii4.at (show j<il by omega);have hj1:((j+1:Nat):Int)-1=(j:Int):=by omega
       refine⟨ad,i,⟨hea,rfl,hlt⟩,_,hrd4.cell (i:=2) rfl,ad2,j+1,⟨hea2,rfl,hltk⟩,_,hs4,ad,i,⟨hea,rfl,hlt⟩,_,hrd4.cell (i:=2) rfl,by unfold Zm;omega,?_⟩;rw[hj1];refine⟨ad3,j,⟨hea3,rfl,by omega⟩,_,hs3,?_⟩
       conv=>whnf
       intro U5 h_5 _
       repeat refine⟨rfl,?_⟩
       conv=>whnf
       apply Qe<;>intro hc
       .repeat refine⟨rfl,?_⟩
        conv=>whnf
        exact⟨⟨_,rfl⟩,hfin (h_3.trans (h_4.trans h_5))⟩
       .refine⟨hink,?_⟩
        conv=>whnf
        exact⟨rfl,j+1+1,by trivial,⟨h_3.trans (h_4.trans h_5),by omega⟩,by show _-_<_-_;omega⟩
      .have h0:k=0:=by simp at hc;omega
       subst h0
       conv=>whnf
       intro U5 h_5 _;refine⟨hink,?_⟩
       conv=>whnf
       exact⟨rfl,0+1,by trivial,⟨h_3.trans (h_4.trans h_5),by omega⟩,by show _-_<_-_;omega⟩
    .refine⟨hin,?_⟩
     conv=>whnf
     exact⟨rfl,i+1,by trivial,⟨h_2.trans h_3,by omega⟩,by show _-_<_-_;omega⟩
 .repeat refine⟨rfl,?_⟩
  conv=>whnf
  exact⟨⟨_,rfl⟩,hfin (.refl _)⟩
def Q0k(h:FH)(hit:Zm (h.n 13-1))(c:Cal)(l:List Ap)(hx:Qpa U.frz h c l)(i:Nat)(hi:i<h.al):Qb S 57 #[h.v,.int .i64 i] (λ v U'=>(∃n,v=.int .i64 n)/\U'=U) U:=by
 refine Qb.pure' (Qb.of (args:=[_,_]) Q3o Qd (by simp) ?_);have hal:=hx.al
 repeat refine⟨rfl,?_⟩
 conv=>whnf
 intro B U1 h_1 hB;have hB:Zd U1 B h.l.toArray:=hB;have hx_1:=hx.lg h_1.lg.frz2;obtain⟨ad,x,vs,hxi,hea,hsp,hcr,-,hrd⟩:=hx_1.ap.at hi;obtain⟨pa,pl,pc,ca,cl,cc,da,dl,dc,rfl,⟨hp,hpl⟩,⟨hcl,hcll⟩,hd,hdl⟩:=hcr;have hnm:=hx.nm x (mem_of_getElem? hxi);refine⟨_,hB.sees3 (o:=14) rfl,ad,i,⟨hea,rfl,hi⟩,_,⟨rfl,hrd.lg Qq⟩,?_⟩
 conv=>whnf
 intro b5 hf5;refine⟨_,.refl _,rfl,Zs (vs:=[.string x.nm,.slice pa pl pc,.slice ca cl cc,.slice da dl dc]) hf5 rfl (by simp[Value.single]) λ U2 h_2 hb5=>?_⟩;have hb5:Zd U2 b5 #[.string x.nm,.slice pa pl pc,.slice ca cl cc,.slice da dl dc]:=hb5;have h12:=h_1.trans h_2;have hB_2:=hB.le h_2;have hf_2:U1.frz.lg U2:=h_2.lg.frz;refine⟨_,hb5.sees3 (o:=0) rfl,Q3w.any,(Qwx x.nm hnm).go λ _=>?_⟩;cases Zf x.nm with
 |false=>
  repeat refine⟨rfl,?_⟩
  conv=>whnf
  exact⟨⟨_,rfl⟩,h12.lg⟩
 |true=>
  refine⟨Nat,λ k=>[(1,.int .i64 i),(2,.pointer (some ⟨B,0,none⟩)),(5,.pointer (some ⟨b5,0,none⟩)),(6,.int .i64 k)],λ k U'=>U2.le U'/\k<=i,λ k=>i-k,0,by trivial,⟨.refl _,by omega⟩,?_⟩;rintro k f U3⟨h_3,hk⟩;have hin:Zm ((k:Int)+1):=by unfold Zm;omega
  have hf_3:=hf_2.trans h_3.lg;have h13:=h12.trans h_3;have hB_3:=hB_2.le h_3;have hb5₃:=hb5.le h_3
  repeat refine⟨rfl,?_⟩
  conv=>whnf
  apply Qe<;>intro hc
  .have hlt:k<i:=by simpa using hc
   obtain⟨ad2,y,vs2,hyi,hea2,hsp2,hcr2,-,hrd2⟩:=hx_1.ap.at (show k<h.al by omega);obtain⟨_,_,_,_,_,_,_,_,_,rfl,-,-,-,-⟩:=hcr2;refine⟨_,hB_3.sees3 (o:=14) rfl,ad2,k,⟨hea2,rfl,by omega⟩,_,(hrd2.lg hf_3).cell (i:=0) rfl,_,hb5₃.sees3 (o:=0) rfl,?_⟩
   conv=>whnf
   intro U4 h_4 _
   repeat refine⟨rfl,?_⟩
   conv=>whnf
   apply Qe<;>intro hc
   .repeat refine⟨rfl,?_⟩
    conv=>whnf
    exact⟨⟨_,rfl⟩,(h13.trans h_4).lg⟩
   .refine⟨hin,?_⟩
    conv=>whnf
    exact⟨rfl,k+1,by trivial,⟨h_3.trans h_4,by omega⟩,by show _-_<_-_;omega⟩
  refine⟨_,hb5₃.sees3 (o:=1) rfl,Q30.any,(Qs8 pa pl pc x.ps (hp.lg hf_3 λ _ _ h=>h) hpl).mono ?_⟩;rintro _ U'⟨⟨n1,rfl⟩,hU'⟩-;obtain rfl:=hU'.symm
  repeat refine⟨rfl,?_⟩
  conv=>whnf
  apply Qe<;>intro hc
  .repeat refine⟨rfl,?_⟩
   conv=>whnf
   exact⟨⟨_,rfl⟩,h13.lg⟩
  refine⟨_,⟨rfl,hB_3.reads (vs:=h.l) (λ k v hv=>by simpa using hv)⟩,?_⟩;refine⟨_,hb5₃.sees3 (o:=2) rfl,Q31.any,(Qr2 h hit ca cl cc x.cs (hcl.lg hf_3 λ _ _ h=>h.lg hf_3) hcll).mono ?_⟩;rintro _ U'⟨⟨n2,rfl⟩,hU'⟩-;obtain rfl:=hU'.symm
  repeat refine⟨rfl,?_⟩
  conv=>whnf
  apply Qe<;>intro hc
  .repeat refine⟨rfl,?_⟩
   conv=>whnf
   exact⟨⟨_,rfl⟩,h13.lg⟩
  refine⟨_,hb5₃.sees3 (o:=3) rfl,Q32.any,(Qz4 da dl dc x.ds (hd.lg hf_3 λ _ _ h=>h) hdl).mono ?_⟩;rintro _ U'⟨⟨n3,rfl⟩,hU'⟩-;obtain rfl:=hU'.symm
  repeat refine⟨rfl,?_⟩
  conv=>whnf
  exact⟨⟨_,rfl⟩,h13.lg⟩
def Qw3(h:FH)(c:Cal)(l:List Ap)(hx:Qpa U.frz h c l):Qb S 19 #[h.v] (λ v U'=>(∃n,v=.int .i64 n/\(n=0->c.flaw=0))/\U'=U) U:=by
 refine Qb.pure' (Qb.of (args:=[_]) Q3b Qd (by simp) ?_);have hal:=hx.al
 repeat refine⟨rfl,?_⟩
 conv=>whnf
 intro B U1 h_1 hB;have hB:Zd U1 B h.l.toArray:=hB;have hx_1:=hx.lg h_1.lg.frz2;refine⟨_,⟨rfl,(hB.reads (vs:=h.l) (λ k v hv=>by simpa using hv)).sub (o:=0) (n:=2)⟩,?_⟩;refine⟨Q3n.any,(Qm3 h.c c (hx_1.cal.lg Qq)).go λ _=>?_⟩
 repeat refine⟨rfl,?_⟩
 conv=>whnf
 apply Qe<;>intro hc
 .have hf:c.flaw≠0:=by simpa using hc
  repeat refine⟨rfl,?_⟩
  conv=>whnf
  exact⟨⟨_,rfl,λ e=>absurd e hf⟩,h_1.lg⟩
 have hf:c.flaw=0:=by simpa using hc
 refine⟨_,hB.sees3 (o:=2) rfl,Qap.any,(Wq U1 (h.n 2) 1 4).go λ _=>?_⟩;cases W1 (h.n 2) 1 4 with
 |false=>
  repeat refine⟨rfl,?_⟩
  conv=>whnf
  exact⟨⟨_,rfl,λ _=>hf⟩,h_1.lg⟩
 |true=>
  have hr:Z7 U1 ⟨B,0,none⟩ h.l:=hB.reads (λ k v hv=>by simpa using hv);refine⟨_,⟨rfl,hr.sub (o:=3) (n:=2)⟩,_,⟨rfl,hr.sub (o:=5) (n:=2)⟩,_,⟨rfl,hr.sub (o:=7) (n:=2)⟩,_,⟨rfl,hr.sub (o:=9) (n:=2)⟩,_,⟨rfl,hr.sub (o:=11) (n:=2)⟩,?_⟩
  conv=>whnf
  intro b29 h29;refine Zk h29 λ U2 h_2 hq=>?_;have hT:Qx U2 (some ⟨b29,0,none⟩) 5 2 [(h.n 3,h.n 4),(h.n 5,h.n 6),(h.n 7,h.n 8),(h.n 9,h.n 10),(h.n 11,h.n 12)] (λ x vs=>vs=encII x):=Qo1 (l:=[(h.n 3,h.n 4),(h.n 5,h.n 6),(h.n 7,h.n 8),(h.n 9,h.n 10),(h.n 11,h.n 12)]) hq;have h12:=h_1.trans h_2;have hB_2:=hB.le h_2;have hx_2:=hx_1.lg h_2.lg.frz2;refine⟨Nat,λ i=>[(1,.pointer (some ⟨B,0,none⟩)),(4,.slice (some ⟨b29,0,none⟩) 5 5),(5,.int .i64 i)],λ i U'=>U'=U2/\i<=5,λ i=>5-i,0,by trivial,⟨rfl,by omega⟩,?_⟩;rintro i f U3⟨hU,hi⟩;obtain rfl:=hU.symm;have hin:Zm ((i:Int)+1):=by unfold Zm;omega
  repeat refine⟨rfl,?_⟩
  conv=>whnf
  apply Qe<;>intro hc
  .have hlt:i<5:=by
    have:(i:Int)<5:=by simpa using hc
    omega
   obtain⟨ad,x,vs,hxx,hea,hsp,hvs,-,hrd⟩:=hT.at hlt;obtain rfl:vs=[.int .i64 x.1,.int .i64 x.2]:=hvs;refine⟨ad,i,⟨hea,rfl,hlt⟩,_,⟨rfl,hrd⟩,Qsp.any,(Qjo U2 x.1 x.2).mono ?_⟩;rintro _ U'⟨⟨n,rfl⟩,hU'⟩-;obtain rfl:=hU'.symm
   repeat refine⟨rfl,?_⟩
   conv=>whnf
   apply Qe<;>intro hc
   .repeat refine⟨rfl,?_⟩
    conv=>whnf
    exact⟨⟨_,rfl,λ _=>hf⟩,h12.lg⟩
   .refine⟨hin,?_⟩
    conv=>whnf
    exact⟨rfl,i+1,by trivial,⟨rfl,by omega⟩,by show _-_<_-_;omega⟩
  clear hin;refine⟨_,hB_2.sees3 (o:=13) rfl,Qap.any,(Wq U2 (h.n 13) 0 5).go λ _=>?_⟩;cases hb13:W1 (h.n 13) 0 5 with
  |false=>
   repeat refine⟨rfl,?_⟩
   conv=>whnf
   exact⟨⟨_,rfl,λ _=>hf⟩,h12.lg⟩
  |true=>
   refine⟨_,hB_2.sees3 (o:=14) rfl,?_⟩
   repeat refine⟨rfl,?_⟩
   conv=>whnf
   apply Qe<;>intro hc
   .repeat refine⟨rfl,?_⟩
    conv=>whnf
    exact⟨⟨_,rfl,λ _=>hf⟩,h12.lg⟩
   refine⟨Nat,λ i=>[(1,.pointer (some ⟨B,0,none⟩)),(7,.int .i64 i)],λ i U'=>U'=U2/\i<=h.al,λ i=>h.al-i,0,by trivial,⟨rfl,by omega⟩,?_⟩;rintro k f U3⟨hU,hk⟩;obtain rfl:=hU.symm;have hin:Zm ((k:Int)+1):=by unfold Zm;omega
   refine⟨_,hB_2.sees3 (o:=14) rfl,?_⟩
   repeat refine⟨rfl,?_⟩
   conv=>whnf
   apply Qe<;>intro hc
   .have hlt:k<h.al:=by simpa using hc
    refine⟨_,⟨rfl,hB_2.reads (vs:=h.l) (λ k v hv=>by simpa using hv)⟩,?_⟩;refine⟨Q3o.any,(Q0k h (by unfold W1 at hb13;simp at hb13;unfold Zm;omega) c l hx_2 k hlt).mono ?_⟩;rintro _ U'⟨⟨n,rfl⟩,hU'⟩-;obtain rfl:=hU'.symm
    repeat refine⟨rfl,?_⟩
    conv=>whnf
    apply Qe<;>intro hc
    .repeat refine⟨rfl,?_⟩
     conv=>whnf
     exact⟨⟨_,rfl,λ _=>hf⟩,h12.lg⟩
    .refine⟨hin,?_⟩
     conv=>whnf
     exact⟨rfl,k+1,by trivial,⟨rfl,by omega⟩,by show _-_<_-_;omega⟩
   .repeat refine⟨rfl,?_⟩
    conv=>whnf
    exact⟨⟨_,rfl,λ _=>hf⟩,h12.lg⟩
def Q0v(h:CH)(c:Cal)(hc':Qmu U.frz h c):Qb S 53 #[h.v] (λ v U'=>(∃g,v=.bool g)/\U'=U) U:=by
 refine Qb.pure' (Qb.of (args:=[_]) Q3m Qd (by simp) ?_)
 repeat refine⟨rfl,?_⟩
 conv=>whnf
 intro B U1 h_1 hB;have hB:Zd U1 B #[.slice h.wa h.wl h.wc,.slice h.sa h.sl h.sc]:=hB;refine⟨_,hB.sees3 (o:=0) rfl,?_⟩
 repeat refine⟨rfl,?_⟩
 conv=>whnf
 apply Zc<;>intro hc
 .refine⟨_,hB.sees3 (o:=1) rfl,?_⟩
  repeat refine⟨rfl,?_⟩
  conv=>whnf
  exact⟨⟨_,rfl⟩,h_1.lg⟩
 .repeat refine⟨rfl,?_⟩
  conv=>whnf
  exact⟨⟨_,rfl⟩,h_1.lg⟩
def Q2x(h:FH)(c:Cal)(l:List Ap)(hx:Qpa U.frz h c l):Qb S 18 #[h.v] (λ v U'=>(∃g,v=.bool g)/\U'=U) U:=by
 refine Qb.pure' (Qb.of (args:=[_]) Q3a Qd (by simp) ?_);have hal:=hx.al
 repeat refine⟨rfl,?_⟩
 conv=>whnf
 intro B U1 h_1 hB;have hB:Zd U1 B h.l.toArray:=hB;have hx_1:=hx.lg h_1.lg.frz2;have hr:Z7 U1 ⟨B,0,none⟩ h.l:=hB.reads (λ k v hv=>by simpa using hv);refine⟨_,⟨rfl,hr.subA (o:=0) (n:=2)⟩,Q3m.any,(Q0v h.c c hx_1.cal).mono ?_⟩;rintro _ U'⟨⟨g,rfl⟩,hU'⟩-;obtain rfl:=hU'.symm;cases g with
 |true=>
  repeat refine⟨rfl,?_⟩
  conv=>whnf
  exact⟨⟨_,rfl⟩,h_1.lg⟩
 |false=>
  refine⟨_,hB.sees3 (o:=14) rfl,?_⟩
  repeat refine⟨rfl,?_⟩
  conv=>whnf
  apply Qe<;>intro hc
  .repeat refine⟨rfl,?_⟩
   conv=>whnf
   exact⟨⟨_,rfl⟩,h_1.lg⟩
  refine⟨Nat,λ i=>[(1,.pointer (some ⟨B,0,none⟩)),(3,.int .i64 i)],λ i U'=>U1.le U'/\i<=h.al,λ i=>h.al-i,0,by trivial,⟨.refl _,by omega⟩,?_⟩;rintro i f U2⟨h_2,hi⟩;have hin:Zm ((i:Int)+1):=by unfold Zm;omega
  have hB_2:=hB.le h_2;have hx_2:=hx_1.lg h_2.lg.frz2;have hfin:∀{w:Qa T},U2.le w->U.lg w:=λ k=>(h_1.trans (h_2.trans k)).lg;refine⟨_,hB_2.sees3 (o:=14) rfl,?_⟩
  repeat refine⟨rfl,?_⟩
  conv=>whnf
  apply Qe<;>intro hc
  .have hlt:i<h.al:=by simpa using hc
   obtain⟨ad,x,vs,hxi,hea,hsp,hcr,-,hrd⟩:=hx_2.ap.at hlt;obtain⟨pa,pl,pc,ca,cl,cc,da,dl,dc,rfl,⟨hp,hpl⟩,⟨hcl,hcll⟩,hd,hdl⟩:=hcr;refine⟨_,hB_2.sees3 (o:=14) rfl,ad,i,⟨hea,rfl,hlt⟩,_,⟨rfl,hrd.lg Qq⟩,?_⟩
   conv=>whnf
   intro b4 hf4;refine⟨_,.refl _,rfl,Zs (vs:=[.string x.nm,.slice pa pl pc,.slice ca cl cc,.slice da dl dc]) hf4 rfl (by simp[Value.single]) λ U3 h_3 hb4=>?_⟩;have hb4:Zd U3 b4 #[.string x.nm,.slice pa pl pc,.slice ca cl cc,.slice da dl dc]:=hb4;have hcl_3:=hcl.lg h_3.lg.frz λ _ _ h=>h;refine⟨_,hb4.sees3 (o:=0) rfl,?_⟩
   repeat refine⟨rfl,?_⟩
   conv=>whnf
   apply Zc<;>intro hc
   rotate_left
   .repeat refine⟨rfl,?_⟩
    conv=>whnf
    exact⟨⟨_,rfl⟩,hfin h_3⟩
   refine⟨_,hb4.sees3 (o:=1) rfl,?_⟩
   repeat refine⟨rfl,?_⟩
   conv=>whnf
   apply Zc<;>intro hc
   rotate_left
   .repeat refine⟨rfl,?_⟩
    conv=>whnf
    exact⟨⟨_,rfl⟩,hfin h_3⟩
   refine⟨_,hb4.sees3 (o:=2) rfl,?_⟩
   repeat refine⟨rfl,?_⟩
   conv=>whnf
   apply Zc<;>intro hc
   rotate_left
   .repeat refine⟨rfl,?_⟩
    conv=>whnf
    exact⟨⟨_,rfl⟩,hfin h_3⟩
   refine⟨_,hb4.sees3 (o:=3) rfl,?_⟩
   repeat refine⟨rfl,?_⟩
   conv=>whnf
   apply Qe<;>intro hc
   .repeat refine⟨rfl,?_⟩
    conv=>whnf
    exact⟨⟨_,rfl⟩,hfin h_3⟩
   refine⟨Nat,λ k=>[(1,.pointer (some ⟨B,0,none⟩)),(3,.int .i64 i),(4,.pointer (some ⟨b4,0,none⟩)),(5,.int .i64 k)],λ k U'=>U'=U3/\k<=cl,λ k=>cl-k,0,by trivial,⟨rfl,by omega⟩,?_⟩;rintro k f U4⟨hU,hk⟩;obtain rfl:=hU.symm;have hink:Zm ((k:Int)+1):=by unfold Zm;omega
   refine⟨_,hb4.sees3 (o:=2) rfl,?_⟩
   repeat refine⟨rfl,?_⟩
   conv=>whnf
   apply Qe<;>intro hc
   .have hltk:k<cl:=by simpa using hc
    obtain⟨ad2,y,vs2,hyi,hea2,hsp2,hcr2,-,hrd2⟩:=hcl_3.at hltk;obtain⟨ia,il,ic,rfl,-,-⟩:=hcr2;refine⟨_,hb4.sees3 (o:=2) rfl,ad2,k,⟨hea2,rfl,hltk⟩,_,hrd2.cell (i:=2) rfl,?_⟩
    repeat refine⟨rfl,?_⟩
    conv=>whnf
    apply Qe<;>intro hc
    .repeat refine⟨rfl,?_⟩
     conv=>whnf
     exact⟨⟨_,rfl⟩,hfin h_3⟩
    .refine⟨hink,?_⟩
     conv=>whnf
     exact⟨rfl,k+1,by trivial,⟨rfl,by omega⟩,by show _-_<_-_;omega⟩
   .refine⟨hin,?_⟩
    conv=>whnf
    exact⟨rfl,i+1,by trivial,⟨h_2.trans h_3,by omega⟩,by show _-_<_-_;omega⟩
  .repeat refine⟨rfl,?_⟩
   conv=>whnf
   exact⟨⟨_,rfl⟩,hfin (.refl _)⟩
def Zpg(h:FH)(c:Cal)(l:List Ap)(hx:Qpa U.frz h c l):Qb S 5 #[h.v] (λ v U'=>(∃g,v=.bool g/\(g=true->c.flaw=0))/\U'=U) U:=by
 refine Qb.pure' (Qb.of (args:=[_]) Zph Qd (by simp) ?_)
 repeat refine⟨rfl,?_⟩
 conv=>whnf
 intro B U1 h_1 hB;have hB:Zd U1 B h.l.toArray:=hB;have hx_1:=hx.lg h_1.lg.frz2;have hr:Z7 U1 ⟨B,0,none⟩ h.l:=hB.reads (λ k v hv=>by simpa using hv);refine⟨_,⟨rfl,hr⟩,Q3a.any,(Q2x h c l hx_1).mono ?_⟩;rintro _ U'⟨⟨g,rfl⟩,hU'⟩-;obtain rfl:=hU'.symm;cases g with
 |true=>
  repeat refine⟨rfl,?_⟩
  conv=>whnf
  exact⟨⟨_,rfl,λ h=>by cases h⟩,h_1.lg⟩
 |false=>
  refine⟨_,⟨rfl,hr⟩,Q3b.any,(Qw3 h c l hx_1).mono ?_⟩;rintro _ U'⟨⟨n,rfl,hn⟩,hU'⟩-;obtain rfl:=hU'.symm
  repeat refine⟨rfl,?_⟩
  conv=>whnf
  apply Zc<;>intro hc
  .have hn0:n=0:=by simpa using hc
   refine⟨_,hB.sees3 (o:=14) rfl,?_⟩
   repeat refine⟨rfl,?_⟩
   conv=>whnf
   exact⟨⟨_,rfl,λ _=>hn hn0⟩,h_1.lg⟩
  .have hn0:¬n=0:=by simpa using hc
   repeat refine⟨rfl,?_⟩
   conv=>whnf
   exact⟨⟨_,rfl,λ h=>by simp at h⟩,h_1.lg⟩
def Zo4(h:CH)(c:Cal)(hc':Qmu U.frz h c)(hL:Qzy U)(hf:c.flaw=0)(u s n:Nat)(hu:u<=2)(hs:s<=36524)(hn:n<=999) :
  Qb S 7 #[h.v,.int .i64 s,.agg #[.int .i64 n,.int .i64 u]] (λ v U'=>(∃e:Nat,v=.tuple #[.int .i64 e,.int .i64 0]/\c.Ends u s n e)/\U'=U) U:=by
 obtain⟨k,d,hk,hd,rfl⟩:=Zix s (by omega);refine Qb.pure' (Qb.of (args:=[_,_,_]) Zpj Qd (by simp) ?_)
 repeat refine⟨rfl,?_⟩
 conv=>whnf
 intro B U1 h_1 hB;have hB:Zd U1 B #[.slice h.wa h.wl h.wc,.slice h.sa h.sl h.sc]:=hB
 conv=>whnf
 intro b5 U2 h_2 hb5;have hb5:Zd U2 b5 #[.int .i64 n,.int .i64 u]:=hb5;refine⟨_,⟨rfl,(hB.le h_2).reads (λ k v hv=>by simpa using hv)⟩,?_⟩
 conv=>whnf
 intro b8 hf8;refine⟨_,.refl _,rfl,Zs (vs:=[.slice h.wa h.wl h.wc,.slice h.sa h.sl h.sc]) hf8 rfl (by simp[Value.single]) λ U3 h_3 hb8=>?_⟩;have hb8:Zd U3 b8 #[.slice h.wa h.wl h.wc,.slice h.sa h.sl h.sc]:=hb8;have h13:=h_1.trans (h_2.trans h_3);have hb5:=hb5.le h_3;have hd1:Qg2 ((Wo k+d:Nat):Int)=true:=by unfold Qg2 W1;simp;omega
 have ht1:Zft (n:Int) (u:Int)=0:=by
  unfold Zft W1;rw[if_pos];simp;omega
 refine⟨_,⟨rfl,hb8.reads (λ k v hv=>by simpa using hv)⟩,?_⟩;refine⟨.int .i64 0,λ U' hle _=>?_,?_⟩
 .refine⟨Q3f.any,(Qql h c ((hc'.lg (h13.trans hle).lg.frz2).lg Qq)).mono ?_⟩;rintro _ U''⟨rfl,hU'⟩-;obtain rfl:=hU'.symm;rw[hf];exact⟨rfl,_,.refl _,.refl _⟩
 refine⟨.bool true,λ U' hle _=>?_,?_⟩
 .refine⟨Qhm.any,(Qb4 U' ((Wo k+d:Nat):Int)).mono ?_⟩;rintro _ U''⟨rfl,hU'⟩-;obtain rfl:=hU'.symm;rw[hd1];exact⟨rfl,_,.refl _,.refl _⟩
 refine⟨.int .i64 0,λ U' hle _=>?_,?_⟩
 .refine⟨Qhl.any,(Qed U' false 1).mono ?_⟩;rintro _ U''⟨rfl,hU'⟩-;obtain rfl:=hU'.symm;exact⟨rfl,_,.refl _,.refl _⟩
 refine⟨_,⟨rfl,hb5.reads (λ k v hv=>by simpa using hv)⟩,?_⟩
 conv=>whnf
 intro U4 h_4 _;refine⟨Q3g.any,(Qm4 U4 n u).go λ _=>?_⟩;rw[ht1]
 conv=>whnf
 intro c20 hc20;refine Zk hc20 λ U5 h_5 hq=>?_;have hi:Z3 U5 (some ⟨c20,0,none⟩) 3 [0,0,0]:=Qar (l:=[0,0,0]) hq;refine⟨Q3e.any,(Qws _ 3 3 [0,0,0] hi (by decide)).go λ _=>?_⟩;have h15:=h13.trans (h_4.trans h_5);have hb8:=hb8.le (h_4.trans h_5);have hb5:=hb5.le (h_4.trans h_5);have hf0:Zdu [0,0,0]=0:=rfl;rw[hf0]
 repeat refine⟨rfl,?_⟩
 refine⟨_,⟨rfl,hb8.reads (λ k v hv=>by simpa using hv)⟩,?_⟩;refine⟨_,⟨rfl,hb5.reads (λ k v hv=>by simpa using hv)⟩,?_⟩;refine⟨.int .i64 (Qia u (Wo k+d) n k d:Nat),λ U' hle _=>?_,?_⟩
 .refine⟨Q3i.any,(Qww (hL.lg (h15.trans hle).lg) u (Wo k+d) n k d hu rfl hk hd hn).mono ?_⟩;rintro _ U''⟨rfl,hU'⟩-;obtain rfl:=hU'.symm;exact⟨rfl,_,.refl _,.refl _⟩
 conv=>whnf
 intro U6 h_6 _;refine⟨Q3h.any,(Qwy h c (hc'.lg (h15.trans h_6).lg.frz2) (Qia u (Wo k+d) n k d) (Qvt ..)).go λ _=>?_⟩
 repeat refine⟨rfl,?_⟩
 conv=>whnf
 exact⟨⟨_,rfl,k,d,hk,hd,rfl,rfl⟩,(h15.trans h_6).lg⟩
end Go.Proofs
