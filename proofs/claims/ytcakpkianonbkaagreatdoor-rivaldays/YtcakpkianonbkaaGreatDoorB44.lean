/- Lemmas. No conditions. -/
import Derived.Test.YtcakpkianonbkaaGreatDoorB43
import Derived.Test.YtcakpkianonbkaaGreatDoorB06
import Derived.Test.YtcakpkianonbkaaGreatDoorB07
import Derived.Test.YtcakpkianonbkaaGreatDoorB39
set_option linter.all false
set_option maxRecDepth 100000
open List
namespace Go.TM
variable{T:Type}{P:Program}{S:Sys P T}{U U':Qa T}
def X3(U:Qa T)(a:Option Addr)(len:Nat)(l:List Bool):Prop:=l.length=len/\∀i x,l[i]?=some x->∃b,a=some b/\b.spot=none/\U.sees (b.add (i*1)) (.bool x)
def X3.lg{a:Option Addr}{len:Nat}{l:List Bool}(h:X3 U a len l)(k:U.lg U'):X3 U' a len l:=⟨h.1,λ i x b=>let ⟨ad,e,s,hs⟩:=h.2 i x b;⟨ad,e,s,hs.lg k⟩⟩
def X3.at{a:Option Addr}{len:Nat}{l:List Bool}(h:X3 U a len l){i:Nat}(B:i<len):∃b x,l[i]?=some x/\a=some b/\b.spot=none/\U.sees (b.add (i*1)) (.bool x):=by
 have w:i<l.length:=by rw[h.1];exact B
 have z:l[i]?=some l[i]:=getElem?_eq_getElem w;obtain⟨b,e,s,E⟩:=h.2 i _ z;exact⟨b,_,z,e,s,E⟩
def KK{b:Nat}{l:List Bool}(h:Zf U b (l.map .bool).toArray):X3 U (some ⟨b,0,none⟩) l.length l:=
 ⟨rfl,λ i x e=>⟨_,rfl,rfl,by rw[Nat.mul_one,Qp];exact h.sees (by rw[Nat.zero_add];simp[e])⟩⟩
end Go.TM
namespace Go.Proofs
open Go.TM
section
variable{T:Type}{S:TM.Sys Tryz.prog T}{U:Qa T}
attribute [local irreducible] Qb Zh Wh
def Fo(a a':Option Addr)(len cap b z:Nat)(l l':List Int)(L:Z0 U a len l)(F:Z0 U a' b l')(M:len<2^60) :
  Qb S 25 #[.slice a len cap,.slice a' b z] (λ v U'=>v=.bool (decide (l=l'))/\U'=U) U:=by
 refine Qb.pure' (Qb.of (args:=[_,_]) Sy Qe S1 ?_);have T:=L.1;have V:=F.1
 repeat refine⟨rfl,?_⟩
 conv=>whnf
 apply Qd<;>intro B
 .have hne:len≠b:=by intro e;subst e;simp at B
  repeat refine⟨rfl,?_⟩
  refine⟨?_,(Qa.le.refl _).lg⟩;rw[decide_eq_false (λ e=>hne (by rw[<- T,<- V,e]))]
 have H:len=b:=Int.ofNat.inj (by simpa using B:(len:Int)=b);subst H;refine⟨Nat,λ i=>[(0,.slice a len cap),(1,.slice a' len z),(5,.int .i64 i)],λ i U'=>U.le U'/\i<=len/\l.take i=l'.take i,λ i=>len-i,0,T1,⟨.refl _,O1,rfl⟩,?_⟩;rintro i f X⟨h,Z,E⟩
 repeat refine⟨rfl,?_⟩
 conv=>whnf
 apply Qd<;>intro B
 .have hlt:i<len:=by simpa using B
  obtain⟨Q,x,N,rfl,-,W⟩:=(L.lg h.lg).at hlt;obtain⟨G,y,P,rfl,-,K⟩:=(F.lg h.lg).at hlt;have I:Ze (i+1):=I1
  refine⟨Q,i,⟨rfl,rfl,hlt⟩,_,W,G,i,⟨rfl,rfl,hlt⟩,_,K,?_⟩
  conv=>whnf
  intro Y w _
  repeat refine⟨rfl,?_⟩
  conv=>whnf
  apply Qd<;>intro B
  .have hne:x≠y:=by simpa using B
   repeat refine⟨rfl,?_⟩
   conv=>whnf
   exact⟨by rw[decide_eq_false (YU N P hne)],(h.trans w).lg⟩
  .have hxy:x=y:=by simpa using B
   refine⟨I,?_⟩
   conv=>whnf
   exact⟨rfl,i+1,T1,⟨h.trans w,O1,K5 N P E hxy⟩,L1⟩
 .have hge:len<=i:=by simpa using B
  rw[take_of_length_le O1,take_of_length_le O1]at E
  repeat refine⟨rfl,?_⟩
  conv=>whnf
  exact⟨by rw[decide_eq_true E],h.lg⟩
def W6(a a':Option Addr)(len cap b z:Nat)(l l':List Bool)(L:X3 U a len l)(F:X3 U a' b l')(M:len<2^60) :
  Qb S 24 #[.slice a len cap,.slice a' b z] (λ v U'=>v=.bool (decide (l=l'))/\U'=U) U:=by
 refine Qb.pure' (Qb.of (args:=[_,_]) Va Qe S1 ?_);have T:=L.1;have V:=F.1
 repeat refine⟨rfl,?_⟩
 conv=>whnf
 apply Qd<;>intro B
 .have hne:len≠b:=by intro e;subst e;simp at B
  repeat refine⟨rfl,?_⟩
  refine⟨?_,(Qa.le.refl _).lg⟩;rw[decide_eq_false (λ e=>hne (by rw[<- T,<- V,e]))]
 have H:len=b:=Int.ofNat.inj (by simpa using B:(len:Int)=b);subst H;refine⟨Nat,λ i=>[(0,.slice a len cap),(1,.slice a' len z),(5,.int .i64 i)],λ i U'=>U.le U'/\i<=len/\l.take i=l'.take i,λ i=>len-i,0,T1,⟨.refl _,O1,rfl⟩,?_⟩;rintro i f X⟨h,Z,E⟩
 repeat refine⟨rfl,?_⟩
 conv=>whnf
 apply Qd<;>intro B
 .have hlt:i<len:=by simpa using B
  obtain⟨Q,x,N,rfl,-,W⟩:=(L.lg h.lg).at hlt;obtain⟨G,y,P,rfl,-,K⟩:=(F.lg h.lg).at hlt;have I:Ze (i+1):=I1
  refine⟨Q,i,⟨rfl,rfl,hlt⟩,_,W,G,i,⟨rfl,rfl,hlt⟩,_,K,?_⟩
  conv=>whnf
  intro Y w _
  repeat refine⟨rfl,?_⟩
  conv=>whnf
  apply Qd<;>intro B
  .have hne:x≠y:=by simpa using B
   repeat refine⟨rfl,?_⟩
   conv=>whnf
   exact⟨by rw[decide_eq_false (YU N P hne)],(h.trans w).lg⟩
  .have hxy:x=y:=by simpa using B
   refine⟨I,?_⟩
   conv=>whnf
   exact⟨rfl,i+1,T1,⟨h.trans w,O1,K5 N P E hxy⟩,L1⟩
 .have hge:len<=i:=by simpa using B
  rw[take_of_length_le O1,take_of_length_le O1]at E
  repeat refine⟨rfl,?_⟩
  conv=>whnf
  exact⟨by rw[decide_eq_true E],h.lg⟩
def Fl(a a':Option Addr)(len cap b B:Nat)(l l':List (Int×Int))(N:Qy U a len 2 l λ x vs=>vs=encII x)(G:Qy U a' b 2 l' λ x vs=>vs=encII x)(P:len<2^60) :
  Qb S 27 #[.slice a len cap,.slice a' b B] (λ v U'=>v=.bool (decide (l=l'))/\U'=U) U:=by
 refine Qb.pure' (Qb.of (args:=[_,_]) SA Qe S1 ?_);have W:=N.1;have X:=G.1
 repeat refine⟨rfl,?_⟩
 conv=>whnf
 apply Qd<;>intro E
 .have hne:len≠b:=by intro e;subst e;simp at E
  repeat refine⟨rfl,?_⟩
  refine⟨?_,(Qa.le.refl _).lg⟩;rw[decide_eq_false (λ e=>hne (by rw[<- W,<- X,e]))]
 have I:len=b:=Int.ofNat.inj (by simpa using E:(len:Int)=b);subst I;refine⟨Nat,λ i=>[(0,.slice a len cap),(1,.slice a' len B),(5,.int .i64 i)],λ i U'=>U.le U'/\i<=len/\l.take i=l'.take i,λ i=>len-i,0,T1,⟨.refl _,O1,rfl⟩,?_⟩;rintro i f Z⟨w,hi,F⟩
 repeat refine⟨rfl,?_⟩
 conv=>whnf
 apply Qd<;>intro E
 .have hlt:i<len:=by simpa using E
  obtain⟨V,x,vs,Q,rfl,-,rfl,-,Y⟩:=(N.lg w.lg λ _ _ h=>h).at hlt;obtain⟨H,y,vs,T,rfl,-,rfl,-,M⟩:=(G.lg w.lg λ _ _ h=>h).at hlt;have L:Ze (i+1):=I1
  refine⟨V,i,⟨rfl,rfl,hlt⟩,_,⟨rfl,Y⟩,H,i,⟨rfl,rfl,hlt⟩,_,⟨rfl,M⟩,?_⟩
  conv=>whnf
  intro U2 z _
  conv=>whnf
  refine uL EL (vs:=encII x) (ws:=encII y) rfl rfl K1 K1 ?_
  have K:ZG (encII x) (encII y)=decide (x=y):=by
   obtain⟨a1,b1⟩:=x;obtain⟨a2,b2⟩:=y;simp[encII,ZG,Gp,Prod.mk.injEq,Bool.decide_and];rfl
  rw[K]
  repeat refine⟨rfl,?_⟩
  conv=>whnf
  apply Qd<;>intro E
  .have hne:x≠y:=by simpa using E
   repeat refine⟨rfl,?_⟩
   conv=>whnf
   exact⟨by rw[decide_eq_false (YU Q T hne)],(w.trans z).lg⟩
  .have hxy:x=y:=by simpa using E
   refine⟨L,?_⟩
   conv=>whnf
   exact⟨rfl,i+1,T1,⟨w.trans z,O1,K5 Q T F hxy⟩,L1⟩
 .have hge:len<=i:=by simpa using E
  rw[take_of_length_le O1,take_of_length_le O1]at F
  repeat refine⟨rfl,?_⟩
  conv=>whnf
  exact⟨by rw[decide_eq_true F],w.lg⟩
def qW:Qb S 20 #[] (λ v U'=>(∃h:BH,v=h.v/\Zp U'.frz h Jf)/\U.le U') U:=by
 refine Qb.grown (R:=λ v U'=>∃h:BH,v=h.v/\Zp U' h Jf) (λ v U1 U2 hl⟨h,e,Y⟩=>⟨h,e,Y.lg hl⟩) (Qb.of (args:=[]) DY Qe S1 ?_)
 conv=>whnf
 intro L an;refine⟨_,.refl _,?_⟩;have F:=Z2 (U:=U) L (.cells #[.slice none 0 0,.slice none 0 0] 43);have P:(U.put L (.cells #[.slice none 0 0,.slice none 0 0] 43)).M=.obj L (.cells [.slice none 0 0,.slice none 0 0].toArray 43 (0,0))::U.M:=rfl;generalize U.put L (.cells #[.slice none 0 0,.slice none 0 0] 43)=s0 at F P ⊢
 conv=>whnf
 intro X ah;refine Zl ah λ s1 Y aa=>?_
 conv=>whnf
 intro b2 ai;refine Zl ai λ s2 h2 ab=>?_
 conv=>whnf
 intro b3 aj;refine Zl aj λ s3 h3 ac=>?_
 conv=>whnf
 intro b5 ak;refine Zl ak λ s4 h4 ad=>?_
 conv=>whnf
 intro b7 al;refine Zl al λ s5 h5 ae=>?_
 conv=>whnf
 intro b8 am;refine Zl am λ s6 h6 af=>?_
 conv=>whnf
 intro B V;refine Zl V λ z h7 T=>?_;have g6:=h7;have g5:=h6.trans g6;have g4:=h5.trans g5;have g3:=h4.trans g4;have g2:=h3.trans g3;have g1:=h2.trans g2;have G:=Y.trans g1;have Z:=G.own.trans P
 have ag:Zp z.frz ⟨some ⟨X,0,none⟩,3,3,some ⟨B,0,none⟩,3,3⟩ Jf:=by
  have k1:Zf z.frz X _:=(aa.le g1).imI λ _ _ h=>h;have k2:Zf z.frz b2 _:=(ab.le g2).imI λ _ _ h=>h;have k3:Zf z.frz b3 _:=(ac.le g3).imI λ _ _ h=>h;have k5:Zf z.frz b5 _:=(ad.le g4).imI λ _ _ h=>h;have k7:Zf z.frz b7 _:=(ae.le g5).imI λ _ _ h=>h;have k8:Zf z.frz b8 _:=(af.le g6).imI λ _ _ h=>h;have H:Zf z.frz B _:=T.imI λ _ _ h=>h
  have one:∀(b:Nat)(n:Int),Zf z.frz b #[.int .i64 n]->Z0 z.frz (some ⟨b,0,none⟩) 1 [n]:=λ b n h=>Zf.ints (l:=[n]) h λ i x w=>by
   cases i with
   |zero=>simp at w;subst w;rfl
   |succ i=>simp at w
  have lst:∀(b:Nat)(a:Option Addr)(len cap:Nat)(g:List Int),Zf z.frz b #[.slice a len cap]->Z0 z.frz a len g->len<2^60->J5 z.frz (some ⟨b,0,none⟩) 1 [g]:=λ b a len cap g h hg hl=>by
   refine⟨rfl,λ i x w=>?_⟩;cases i with
   |zero=>
    simp at w;subst w;exact⟨_,_,rfl,rfl,⟨a,len,cap,rfl,hg,hl⟩,rfl,by rw[Nat.zero_mul];exact h.rd⟩
   |succ i=>simp at w
  have K:∀(o:Nat)(v0 v1 v2 v3:Value)(c:Array Value),Zf z.frz B c->c[o]?=some v0->c[o+1]?=some v1->c[o+2]?=some v2->c[o+3]?=some v3->Z6 z.frz ⟨B,o,none⟩ [v0,v1,v2,v3]:=by
   intro o v0 v1 v2 v3 c h e0 e1 e2 e3;refine h.reads λ k v E=>?_;have hk:=(List.getElem?_eq_some_iff.1 E).1;simp at hk;obtain rfl|rfl|rfl|rfl:k=0\/k=1\/k=2\/k=3:=O1
   .cases E;exact e0
   .cases E;exact e1
   .cases E;exact e2
   .cases E;exact e3
  have nil:Z0 z.frz none 0 []:=⟨rfl,λ i x w=>by simp at w⟩;refine⟨⟨rfl,λ i x w=>?_⟩,⟨rfl,λ i x w=>?_⟩,by show 3<2^60;decide,by show 3<2^60;decide,D1,D1⟩
  .refine⟨_,_,rfl,rfl,rfl,rfl,λ k v E=>?_⟩;have hk:k=0:=by have:=(List.getElem?_eq_some_iff.1 E).1;simp at this;omega
   subst hk;simp at E;subst E;rw[Qp,Qp];refine k1.sees ?_;have hi:i<3:=by have:=(List.getElem?_eq_some_iff.1 w).1;exact this
   obtain rfl|rfl|rfl:i=0\/i=1\/i=2:=O1
   all_goals(cases w;rfl)
  .have hi:i<3:=by have:=(List.getElem?_eq_some_iff.1 w).1;exact this
   obtain rfl|rfl|rfl:i=0\/i=1\/i=2:=O1
   .cases w;exact⟨_,_,rfl,rfl,⟨_,_,_,_,_,_,rfl,lst b3 _ 1 1 _ k3 (one b2 0 k2) D1,D1,nil,D1⟩,rfl,by rw[Qp];exact K _ _ _ _ _ _ H rfl rfl rfl rfl⟩
   .cases w;exact⟨_,_,rfl,rfl,⟨_,_,_,_,_,_,rfl,lst b5 _ 0 0 _ k5 nil D1,D1,nil,D1⟩,rfl,by rw[Qp];exact K _ _ _ _ _ _ H rfl rfl rfl rfl⟩
   .cases w;exact⟨_,_,rfl,rfl,⟨_,_,_,_,_,_,rfl,lst b8 _ 1 1 _ k8 (one b7 1 k7) D1,D1,nil,D1⟩,rfl,by rw[Qp];exact K _ _ _ _ _ _ H rfl rfl rfl rfl⟩
 refine⟨rfl,Jt (b:=L) (e:=43) (c:=#[.slice none 0 0,.slice none 0 0]) (M₀:=U.M) (vs:=[.slice (some ⟨X,0,none⟩) 3 3,.slice (some ⟨B,0,none⟩) 3 3]) [] Z rfl (by simp[Value.single]) λ s8 N W Q=>?_⟩;refine⟨_,⟨rfl,Q9 [] Q⟩,⟨⟨_,_,_,_,_,_⟩,rfl,ag.lg ⟨λ x o w=>by show s8.I x=_;rw[N];exact w,⟨[],rfl⟩,W⟩⟩,⟨λ x o w=>by rw[N];exact G.imm x o (F.imm x o w),⟨[_],Q⟩,W.trans (G.tok.trans F.tok)⟩⟩
end
end Go.Proofs
namespace Go.TM
def MC:Jf.flaw Qu=0:=K1
def uU:(Jf.outF [0,1,2],Jf.ends [0,1,2])=(0,[false,false,true],[true,true,false]):=K1
def uV:(Jf.outF [1,0,2],Jf.ends [1,0,2])=(0,[false,true,false],[false,true,true]):=K1
def uW:Jf.wdF 1=[0]:=K1
def sf:Jf.dcF 0=[1]:=K1
def sg:Jf.dcF 1=[0,1]:=K1
def GS:(Jf.askF 0,Jf.askF 1,Jf.askF 2)=(0,0,0):=K1
end Go.TM
namespace Go.Proofs
open Go.TM
def Gj(b:Bk)(r:Nat)(w:Int)(m:Nat)(e:Nat->Option Bool)(h z:Option (List (Int×Int))):Bool:=(range b.cans.length).all λ i=>match b.cans[i]? with
 |none=>true
 |some ci=>match(TM.parts (b.cans.drop (i+1)) m).find? (λ q=>b.good r w (ci::q))with
  |none=>e i==none
  |some q=>match e i with
   |some s=>(if s then z else h)==some (ci::q)
   |none=>false
def D7{b:Bk}{r:Nat}{w:Int}{m:Nat}{z:Nat->Option Bool}{B E:Option (List (Int×Int))}(h:Gj b r w m z B E=true):∀i ci,b.cans[i]?=some ci->(TM.parts (b.cans.drop (i+1)) m).find? (λ q=>b.good r w (ci::q))=none->z i=none:=by
 intro i ci e F;unfold Gj at h;rw[all_eq_true]at h;have:=h i (by simpa using(List.getElem?_eq_some_iff.1 e).1);rw[e]at this;simp only[F]at this;simpa using this
def T_{b:Bk}{r:Nat}{w:Int}{m:Nat}{z:Nat->Option Bool}{B E:Option (List (Int×Int))}(h:Gj b r w m z B E=true):∀i ci q,b.cans[i]?=some ci->(TM.parts (b.cans.drop (i+1)) m).find? (λ q=>b.good r w (ci::q))=some q->∃s,z i=some s/\(if s then E else B)=some (ci::q):=by
 intro i ci q e G;unfold Gj at h;rw[all_eq_true]at h;have:=h i (by simpa using(List.getElem?_eq_some_iff.1 e).1);rw[e]at this;simp only[G]at this;cases F:z i with
 |none=>rw[F]at this;cases this
 |some s=>
  rw[F]at this;exact⟨s,rfl,by simpa using this⟩
def DI:Nat->Option Bool:=λ i=>if i=0 then some false else none
def NZ:Nat->Option Bool:=λ _=>none
def DJ:Nat->Option Bool:=λ i=>if i=2 then some false else if i=3 then some true else none
def Nr:Gj Jf 1 1 0 DI (some [(0,1)]) none=true:=K1
def Ns:Gj Jf 2 1 0 NZ none none=true:=K1
def Nt:Gj Jf 2 1 1 DJ (some [(1,0),(2,0)]) (some [(1,2),(2,0)])=true:=K1
def TC:Jf.cans.Nodup:=by rw[MB];decide
def HG:Jf.cans.length=6:=by rw[MB];rfl
def eQ:Gh Jf 1 1 0 DI (some [(0,1)]) none where
 n:=TC
 pos:=by rw[HG];decide
 six:=by rw[HG];decide
 m5:=D1
 len:=λ x w=>by rcases w with h|h <;> cases h;decide
 sym:=λ x y _ h=>by cases h
 no:=D7 Nr
 yes:=T_ Nr
 one:=λ i j s b e=>by
  unfold DI at b e;split at b <;> split at e <;> simp_all
 out:=λ s h=>by cases s <;> first|rfl|(rw[HG]at h;exact absurd h D1)
def eR:Gh Jf 2 1 0 NZ none none where
 n:=TC
 pos:=by rw[HG];decide
 six:=by rw[HG];decide
 m5:=D1
 len:=λ x e=>by rcases e with h|h <;> cases h
 sym:=λ x y _ h=>by cases h
 no:=D7 Ns
 yes:=T_ Ns
 one:=λ i j s b w=>by cases b
 out:=λ s h=>by cases s <;> rfl
def eS:Gh Jf 2 1 1 DJ (some [(1,0),(2,0)]) (some [(1,2),(2,0)]) where
 n:=TC
 pos:=by rw[HG];decide
 six:=by rw[HG];decide
 m5:=D1
 len:=λ x w=>by rcases w with h|h <;> cases h <;> decide
 sym:=λ x y e b=>by cases e;cases b;rfl
 no:=D7 Nt
 yes:=T_ Nt
 one:=λ i j s e b=>by
  unfold DJ at e b;split at e
  .cases e;split at b
   .omega
   .split at b <;> cases b
  .split at e
   .cases e;split at b
    .cases b
    .split at b
     .omega
     .cases b
   .cases e
 out:=λ s h=>by
  rw[HG]at h;cases s <;> exact absurd h D1
def Pn:Nat->Option (List (Int×Int)):=λ _=>some [(0,1)]
def Po:Nat->Option (List (Int×Int)):=λ m=>if m=0 then none else some [(1,0),(2,0)]
def No:(Jf.staF 1 true Pn,Jf.staF 2 true Po)=(some [(0,1)],some [(1,0),(2,0)]):=K1
def eF:∀m,m+1<Jf.cs.length->(∀w,w<m->Pn w=none)->∃z e h,Gh Jf 1 1 m z e h/\ZF e h=Pn m:=by
 intro m B b;cases m with
 |zero=>exact⟨_,_,_,eQ,rfl⟩
 |succ m=>cases b 0 O1
def eG:∀m,m+1<Jf.cs.length->(∀h,h<m->Po h=none)->∃z b e,Gh Jf 2 1 m z b e/\ZF b e=Po m:=by
 intro m B w
 have:m=0\/m=1:=by
  have:Jf.cs.length=3:=rfl;omega
 rcases this with rfl|rfl
 .exact⟨_,_,_,eR,rfl⟩
 .exact⟨_,_,_,eS,rfl⟩
end Go.Proofs
namespace Go.TM
variable{T:Type}{U U':Qa T}
def WO.c{a:Option Addr}{l:List Bool}{len cap:Nat}(h:WO U (.slice a len cap) l):len=l.length/\X3 U a l.length l:=by
 obtain⟨a',b,e,h⟩:=h;cases e;exact⟨rfl,rfl,h⟩
def XK{b:Nat}{l:List Int}(h:Zf U b (l.map λ n=>Value.int .i64 n).toArray):Z0 U (some ⟨b,0,none⟩) l.length l:=
 h.ints λ i x e=>by simp[e]
def S5{b:Nat}{l:List (Int×Int)}(h:Zf U b (l.flatMap Go.Proofs.encII).toArray):Qy U (some ⟨b,0,none⟩) l.length 2 l (λ x vs=>vs=Go.Proofs.encII x):=
 G5 (enc:=Go.Proofs.encII) (n:=2) (λ _=>rfl) (.inr ⟨_,rfl,h.rd⟩) (λ w e=>by cases e;rfl) D1
end Go.TM
namespace Go.Proofs
open Go.TM
attribute [local irreducible] Qb Zh Wh
set_option maxHeartbeats 4000000 in
def Zsr{U:Qa Tk}(ay:U.tok=⟨0,.out,none⟩)(hk:WC U):Qb Za 6 #[] (λ v U'=>v=.bool true/\U'=U) U:=by
 refine Qb.pure' (Qb.of (args:=[]) uC Qe S1 ?_);refine⟨DY.any,qW.mono ?_⟩;rintro _ s1⟨⟨h,rfl,I⟩,h1⟩-
 conv=>whnf
 intro b1 d1;refine⟨_,.refl _,rfl,Zu (vs:=[.slice h.ra h.rl h.rc,.slice h.ca h.cl h.cc]) d1 rfl (by simp[Value.single]) λ s2 h2 b=>?_⟩;have b:Zf s2 b1 #[.slice h.ra h.rl h.rc,.slice h.ca h.cl h.cc]:=b;have I:Zp s2.frz h Jf:=I.lg h2.lg.frz2;have e2:U.le s2:=h1.trans h2;refine⟨_,⟨rfl,b.rd⟩,?_⟩
 conv=>whnf
 intro c3 dy;refine Zl dy λ s3 h3 d2=>?_;have z3:s2.frz.lg s3.frz:=h3.lg.frz2;have e3:U.le s3:=e2.trans h3;have b:=b.le h3;have I:=I.lg z3;have il:Z0 s3.frz (some ⟨c3,0,none⟩) 3 [0,1,2]:=XK (l:=[0,1,2]) (d2.imI λ _ _ h=>h);refine⟨Sv.any,(Fv h Jf I (hk.lg e3.lg) _ 3 3 [0,1,2] il D1).mono ?_⟩;rintro _ s4⟨⟨v1,v2,rfl,K,hy⟩,h4⟩-;obtain⟨ah,ag⟩:=Prod.mk.inj uU;have ag:Jf.ends (List.map Int.toNat [0,1,2])=_:=ag;rw[ah,if_pos rfl,ag]at K hy;rw[ah];obtain⟨xa,xc,rfl,-⟩:=id K;obtain⟨ya,yc,rfl,-⟩:=id hy;have e:=K.c.2;have w:=hy.c.2;clear il K hy ah ag;have z4:s3.frz.lg s4.frz:=h4.lg.frz2;have e4:U.le s4:=e3.trans h4;have b:=b.le h4;have I:=I.lg z4;refine⟨_,⟨rfl,b.rd⟩,?_⟩
 conv=>whnf
 intro c5 d0;refine Zl d0 λ s5 h5 d3=>?_;have z5:s4.frz.lg s5.frz:=h5.lg.frz2;have e5:U.le s5:=e4.trans h5;have b:=b.le h5;have I:=I.lg z5;have e:=e.lg z5;have w:=w.lg z5;have il:Z0 s5.frz (some ⟨c5,0,none⟩) 3 [1,0,2]:=XK (l:=[1,0,2]) (d3.imI λ _ _ h=>h);refine⟨Sv.any,(Fv h Jf I (hk.lg e5.lg) _ 3 3 [1,0,2] il D1).mono ?_⟩;rintro _ s6⟨⟨v1,v2,rfl,K,hy⟩,h6⟩-;obtain⟨ah,ag⟩:=Prod.mk.inj uV;have ag:Jf.ends (List.map Int.toNat [1,0,2])=_:=ag;rw[ah,if_pos rfl,ag]at K hy;rw[ah];obtain⟨ua,uc,rfl,-⟩:=id K;obtain⟨va,vc,rfl,-⟩:=id hy;have z:=K.c.2;have B:=hy.c.2;clear il K hy ah ag;have z6:s5.frz.lg s6.frz:=h6.lg.frz2;have e6:U.le s6:=e5.trans h6;have b:=b.le h6;have I:=I.lg z6;have e:=e.lg z6;have w:=w.lg z6;refine⟨_,⟨rfl,b.rd⟩,?_⟩;refine⟨DU.any,(zD h Jf I (hk.lg e6.lg)).mono ?_⟩;rintro _ s7⟨⟨v1,v2,rfl,K,hy⟩,h7⟩-;rw[MC,if_pos rfl]at K hy;rw[MC];rw[Lj.1]at K;rw[Lj.2]at hy;obtain⟨ra,rc,rfl,fr⟩:=K;obtain⟨ca,cc,rfl,E⟩:=hy;have z7:s6.frz.lg s7.frz:=h7.lg.frz2;have e7:U.le s7:=e6.trans h7;have b:=b.le h7;have I:=I.lg z7;have e:=e.lg z7;have w:=w.lg z7;have z:=z.lg z7;have B:=B.lg z7;refine⟨_,⟨rfl,b.rd⟩,?_⟩;refine⟨DZ.any,(qY h Jf I (hk.lg e7.lg) 1).mono ?_⟩;rintro _ s8⟨⟨v1,v2,rfl,K,hy⟩,h8⟩-;have ea:Jf.askF 1=0:=(Prod.mk.inj (Prod.mk.inj GS).2).1;rw[ea,if_pos rfl]at K hy;rw[ea];have ba:(Jf.difS (Int.toNat 1) true).map (λ(k:Nat)=>(k:Int))=[1,0,2]:=by rw[show Jf.difS (Int.toNat 1) true=_ from F5.1];rfl
 have bb:(Jf.difS (Int.toNat 1) false).map (λ(k:Nat)=>(k:Int))=[0,1,2]:=by rw[show Jf.difS (Int.toNat 1) false=_ from F5.2];rfl
 rw[ba]at K;rw[bb]at hy;obtain⟨la,lc,rfl,G⟩:=K;obtain⟨ka,kc,rfl,F⟩:=hy;clear ea ba bb;have z8:s7.frz.lg s8.frz:=h8.lg.frz2;have e8:U.le s8:=e7.trans h8;have b:=b.le h8;have I:=I.lg z8;have e:=e.lg z8;have w:=w.lg z8;have z:=z.lg z8;have B:=B.lg z8;have fr:=fr.lg z8;have E:=E.lg z8;refine⟨_,⟨rfl,b.rd⟩,?_⟩;refine⟨Sw.any,(FE (e8.tok.trans ay) h Jf I (hk.lg e8.lg) 1 true Pn λ _ _ _=>eF).mono ?_⟩;rintro _ s9⟨⟨v1,rfl,K⟩,h9⟩-;have es:Jf.staF 1 true Pn=some [(0,1)]:=(Prod.mk.inj No).1;have ea:Jf.askF 1=0:=(Prod.mk.inj (Prod.mk.inj GS).2).1;rw[es]at K;rw[es,ea];obtain⟨sa,sc,rfl,H⟩:=K;have H:Qy s9.frz sa 1 2 [(0,1)] (λ x vs=>vs=encII x):=H;clear es ea;have z9:s8.frz.lg s9.frz:=h9.lg.frz2;have e9:U.le s9:=e8.trans h9;have b:=b.le h9;have I:=I.lg z9;have e:=e.lg z9;have w:=w.lg z9;have z:=z.lg z9;have B:=B.lg z9;have fr:=fr.lg z9;have E:=E.lg z9;have G:=G.lg z9;have F:=F.lg z9;refine⟨_,⟨rfl,b.rd⟩,?_⟩;refine⟨Sw.any,(FE (e9.tok.trans ay) h Jf I (hk.lg e9.lg) 2 true Po λ _ _ _=>eG).mono ?_⟩;rintro _ ai⟨⟨v1,rfl,K⟩,az⟩-;have es:Jf.staF 2 true Po=some [(1,0),(2,0)]:=(Prod.mk.inj No).2;have ea:Jf.askF 2=0:=(Prod.mk.inj (Prod.mk.inj GS).2).2;rw[es]at K;rw[es,ea];obtain⟨ta,tc,rfl,ft⟩:=K;have ft:Qy ai.frz ta 2 2 [(1,0),(2,0)] (λ x vs=>vs=encII x):=ft;clear es ea;have af:s9.frz.lg ai.frz:=az.lg.frz2;have a7:U.le ai:=e9.trans az;have b:=b.le az;have I:=I.lg af;have e:=e.lg af;have w:=w.lg af;have z:=z.lg af;have B:=B.lg af;have fr:=fr.lg af;have E:=E.lg af;have G:=G.lg af;have F:=F.lg af;have H:=H.lg af λ _ _ h=>h;refine⟨_,⟨rfl,b.rd⟩,?_⟩;refine⟨E8.any,(Cz h Jf I (hk.lg a7.lg) 1).mono ?_⟩;rintro _ a3⟨⟨v1,rfl,K⟩,a0⟩-;have ea:Jf.askF 1=0:=(Prod.mk.inj (Prod.mk.inj GS).2).1;rw[uW]at K;rw[ea];obtain⟨wa,wc,rfl,L⟩:=K;clear ea;have ae:ai.frz.lg a3.frz:=a0.lg.frz2;have a8:U.le a3:=a7.trans a0;have b:=b.le a0;have I:=I.lg ae;have e:=e.lg ae;have w:=w.lg ae;have z:=z.lg ae;have B:=B.lg ae;have fr:=fr.lg ae;have E:=E.lg ae;have G:=G.lg ae;have F:=F.lg ae;have H:=H.lg ae λ _ _ h=>h;have ft:=ft.lg ae λ _ _ h=>h;refine⟨_,⟨rfl,b.rd⟩,?_⟩;refine⟨Sx.any,(FB h Jf I (hk.lg a8.lg) 0).mono ?_⟩;rintro _ a4⟨⟨v1,rfl,K⟩,a1⟩-;have ea:Jf.askF 0=0:=(Prod.mk.inj GS).1;rw[sf]at K;rw[ea];obtain⟨ma,mc,rfl,fm⟩:=K;clear ea;have ad:a3.frz.lg a4.frz:=a1.lg.frz2;have a9:U.le a4:=a8.trans a1;have b:=b.le a1;have I:=I.lg ad;have e:=e.lg ad;have w:=w.lg ad;have z:=z.lg ad;have B:=B.lg ad;have fr:=fr.lg ad;have E:=E.lg ad;have G:=G.lg ad;have F:=F.lg ad;have H:=H.lg ad λ _ _ h=>h;have ft:=ft.lg ad λ _ _ h=>h;have L:=L.lg ad;refine⟨_,⟨rfl,b.rd⟩,?_⟩;refine⟨Sx.any,(FB h Jf I (hk.lg a9.lg) 1).mono ?_⟩;rintro _ a5⟨⟨v1,rfl,K⟩,a2⟩-;have ea:Jf.askF 1=0:=(Prod.mk.inj (Prod.mk.inj GS).2).1;rw[sg]at K;rw[ea];obtain⟨na,nc,rfl,fn⟩:=K;clear ea;have M:a4.frz.lg a5.frz:=a2.lg.frz2;have c1:U.le a5:=a9.trans a2;have b:=b.le a2;have I:=I.lg M;have e:=e.lg M;have w:=w.lg M;have z:=z.lg M;have B:=B.lg M;have fr:=fr.lg M;have E:=E.lg M;have G:=G.lg M;have F:=F.lg M;have H:=H.lg M λ _ _ h=>h;have ft:=ft.lg M λ _ _ h=>h;have L:=L.lg M;have fm:=fm.lg M
 repeat refine⟨rfl,?_⟩
 conv=>whnf
 intro co bp;refine Zl bp λ aj bc b4=>?_;have N:a5.frz.lg aj.frz:=bc.lg.frz2;have c2:U.le aj:=c1.trans bc;have e:=e.lg N;have w:=w.lg N;have z:=z.lg N;have B:=B.lg N;have fr:=fr.lg N;have E:=E.lg N;have G:=G.lg N;have F:=F.lg N;have H:=H.lg N λ _ _ h=>h;have ft:=ft.lg N λ _ _ h=>h;have L:=L.lg N;have fm:=fm.lg N;have fn:=fn.lg N;have q:X3 aj.frz (some ⟨co,0,none⟩) 3 [false,false,true]:=KK (l:=[false,false,true]) (b4.imI λ _ _ h=>h);refine⟨Va.any,(W6 xa _ 3 xc 3 3 [false,false,true] [false,false,true] (e.lg Qm) (q.lg Qm) D1).go λ _=>?_⟩;rw[decide_eq_true (rfl:([false,false,true]:List Bool)=[false,false,true])];clear q
 conv=>whnf
 intro cp bq;refine Zl bq λ ak bd b5=>?_;have P:aj.frz.lg ak.frz:=bd.lg.frz2;have c4:U.le ak:=c2.trans bd;have e:=e.lg P;have w:=w.lg P;have z:=z.lg P;have B:=B.lg P;have fr:=fr.lg P;have E:=E.lg P;have G:=G.lg P;have F:=F.lg P;have H:=H.lg P λ _ _ h=>h;have ft:=ft.lg P λ _ _ h=>h;have L:=L.lg P;have fm:=fm.lg P;have fn:=fn.lg P;have q:X3 ak.frz (some ⟨cp,0,none⟩) 3 [true,true,false]:=KK (l:=[true,true,false]) (b5.imI λ _ _ h=>h);refine⟨Va.any,(W6 ya _ 3 yc 3 3 [true,true,false] [true,true,false] (w.lg Qm) (q.lg Qm) D1).go λ _=>?_⟩;rw[decide_eq_true (rfl:([true,true,false]:List Bool)=[true,true,false])];clear q
 conv=>whnf
 intro cq br;refine Zl br λ al be b6=>?_;have Q:ak.frz.lg al.frz:=be.lg.frz2;have c6:U.le al:=c4.trans be;have e:=e.lg Q;have w:=w.lg Q;have z:=z.lg Q;have B:=B.lg Q;have fr:=fr.lg Q;have E:=E.lg Q;have G:=G.lg Q;have F:=F.lg Q;have H:=H.lg Q λ _ _ h=>h;have ft:=ft.lg Q λ _ _ h=>h;have L:=L.lg Q;have fm:=fm.lg Q;have fn:=fn.lg Q;have q:X3 al.frz (some ⟨cq,0,none⟩) 3 [false,true,false]:=KK (l:=[false,true,false]) (b6.imI λ _ _ h=>h);refine⟨Va.any,(W6 ua _ 3 uc 3 3 [false,true,false] [false,true,false] (z.lg Qm) (q.lg Qm) D1).go λ _=>?_⟩;rw[decide_eq_true (rfl:([false,true,false]:List Bool)=[false,true,false])];clear q
 conv=>whnf
 intro cr bs;refine Zl bs λ am bf b7=>?_;have S:al.frz.lg am.frz:=bf.lg.frz2;have c7:U.le am:=c6.trans bf;have e:=e.lg S;have w:=w.lg S;have z:=z.lg S;have B:=B.lg S;have fr:=fr.lg S;have E:=E.lg S;have G:=G.lg S;have F:=F.lg S;have H:=H.lg S λ _ _ h=>h;have ft:=ft.lg S λ _ _ h=>h;have L:=L.lg S;have fm:=fm.lg S;have fn:=fn.lg S;have q:X3 am.frz (some ⟨cr,0,none⟩) 3 [false,true,true]:=KK (l:=[false,true,true]) (b7.imI λ _ _ h=>h);refine⟨Va.any,(W6 va _ 3 vc 3 3 [false,true,true] [false,true,true] (B.lg Qm) (q.lg Qm) D1).go λ _=>?_⟩;rw[decide_eq_true (rfl:([false,true,true]:List Bool)=[false,true,true])];clear q
 conv=>whnf
 intro cs bt;refine Zl bt λ an bg b8=>?_;have T:am.frz.lg an.frz:=bg.lg.frz2;have c8:U.le an:=c7.trans bg;have e:=e.lg T;have w:=w.lg T;have z:=z.lg T;have B:=B.lg T;have fr:=fr.lg T;have E:=E.lg T;have G:=G.lg T;have F:=F.lg T;have H:=H.lg T λ _ _ h=>h;have ft:=ft.lg T λ _ _ h=>h;have L:=L.lg T;have fm:=fm.lg T;have fn:=fn.lg T;have q:Z0 an.frz (some ⟨cs,0,none⟩) 3 [2,0,0]:=XK (l:=[2,0,0]) (b8.imI λ _ _ h=>h);refine⟨Sy.any,(Fo ra _ 3 rc 3 3 [2,0,0] [2,0,0] (fr.lg Qm) (q.lg Qm) D1).go λ _=>?_⟩;rw[decide_eq_true (rfl:([2,0,0]:List Int)=[2,0,0])];clear q
 conv=>whnf
 intro ct bu;refine Zl bu λ ao bh b9=>?_;have V:an.frz.lg ao.frz:=bh.lg.frz2;have c9:U.le ao:=c8.trans bh;have e:=e.lg V;have w:=w.lg V;have z:=z.lg V;have B:=B.lg V;have fr:=fr.lg V;have E:=E.lg V;have G:=G.lg V;have F:=F.lg V;have H:=H.lg V λ _ _ h=>h;have ft:=ft.lg V λ _ _ h=>h;have L:=L.lg V;have fm:=fm.lg V;have fn:=fn.lg V;have q:Z0 ao.frz (some ⟨ct,0,none⟩) 3 [0,1,0]:=XK (l:=[0,1,0]) (b9.imI λ _ _ h=>h);refine⟨Sy.any,(Fo ca _ 3 cc 3 3 [0,1,0] [0,1,0] (E.lg Qm) (q.lg Qm) D1).go λ _=>?_⟩;rw[decide_eq_true (rfl:([0,1,0]:List Int)=[0,1,0])];clear q
 conv=>whnf
 intro cu bv;refine Zl bv λ ap bi ce=>?_;have W:ao.frz.lg ap.frz:=bi.lg.frz2;have da:U.le ap:=c9.trans bi;have e:=e.lg W;have w:=w.lg W;have z:=z.lg W;have B:=B.lg W;have fr:=fr.lg W;have E:=E.lg W;have G:=G.lg W;have F:=F.lg W;have H:=H.lg W λ _ _ h=>h;have ft:=ft.lg W λ _ _ h=>h;have L:=L.lg W;have fm:=fm.lg W;have fn:=fn.lg W;have q:Z0 ap.frz (some ⟨cu,0,none⟩) 3 [1,0,2]:=XK (l:=[1,0,2]) (ce.imI λ _ _ h=>h);refine⟨GL.any,(PC la _ 3 lc 3 3 [1,0,2] [1,0,2] (G.lg Qm) (q.lg Qm) D1).go λ _=>?_⟩;rw[decide_eq_true (rfl:([1,0,2]:List Int)=[1,0,2])];clear q
 conv=>whnf
 intro cv bw;refine Zl bw λ aq bj cf=>?_;have X:ap.frz.lg aq.frz:=bj.lg.frz2;have db:U.le aq:=da.trans bj;have e:=e.lg X;have w:=w.lg X;have z:=z.lg X;have B:=B.lg X;have fr:=fr.lg X;have E:=E.lg X;have G:=G.lg X;have F:=F.lg X;have H:=H.lg X λ _ _ h=>h;have ft:=ft.lg X λ _ _ h=>h;have L:=L.lg X;have fm:=fm.lg X;have fn:=fn.lg X;have q:Z0 aq.frz (some ⟨cv,0,none⟩) 3 [0,1,2]:=XK (l:=[0,1,2]) (cf.imI λ _ _ h=>h);refine⟨GL.any,(PC ka _ 3 kc 3 3 [0,1,2] [0,1,2] (F.lg Qm) (q.lg Qm) D1).go λ _=>?_⟩;rw[decide_eq_true (rfl:([0,1,2]:List Int)=[0,1,2])];clear q
 conv=>whnf
 intro cw bx;refine Zl bx λ au bk cg=>?_;have Y:aq.frz.lg au.frz:=bk.lg.frz2;have dc:U.le au:=db.trans bk;have e:=e.lg Y;have w:=w.lg Y;have z:=z.lg Y;have B:=B.lg Y;have fr:=fr.lg Y;have E:=E.lg Y;have G:=G.lg Y;have F:=F.lg Y;have H:=H.lg Y λ _ _ h=>h;have ft:=ft.lg Y λ _ _ h=>h;have L:=L.lg Y;have fm:=fm.lg Y;have fn:=fn.lg Y;have q:Qy au.frz (some ⟨cw,0,none⟩) 1 2 [(0,1)] (λ x vs=>vs=encII x):=S5 (l:=[(0,1)]) (cg.imI λ _ _ h=>h);refine⟨SA.any,(Fl sa _ 1 sc 1 1 [(0,1)] [(0,1)] (H.lg Qm λ _ _ h=>h) (q.lg Qm λ _ _ h=>h) D1).go λ _=>?_⟩;rw[decide_eq_true (rfl:([(0,1)]:List (Int×Int))=[(0,1)])];clear q
 conv=>whnf
 intro cx bz;refine Zl bz λ av bl ch=>?_;have Z:au.frz.lg av.frz:=bl.lg.frz2;have dd:U.le av:=dc.trans bl;have e:=e.lg Z;have w:=w.lg Z;have z:=z.lg Z;have B:=B.lg Z;have fr:=fr.lg Z;have E:=E.lg Z;have G:=G.lg Z;have F:=F.lg Z;have H:=H.lg Z λ _ _ h=>h;have ft:=ft.lg Z λ _ _ h=>h;have L:=L.lg Z;have fm:=fm.lg Z;have fn:=fn.lg Z;have q:Qy av.frz (some ⟨cx,0,none⟩) 2 2 [(1,0),(2,0)] (λ x vs=>vs=encII x):=S5 (l:=[(1,0),(2,0)]) (ch.imI λ _ _ h=>h);refine⟨SA.any,(Fl ta _ 2 tc 2 2 [(1,0),(2,0)] [(1,0),(2,0)] (ft.lg Qm λ _ _ h=>h) (q.lg Qm λ _ _ h=>h) D1).go λ _=>?_⟩;rw[decide_eq_true (rfl:([(1,0),(2,0)]:List (Int×Int))=[(1,0),(2,0)])];clear q
 conv=>whnf
 intro cy b0;refine Zl b0 λ aw bm cj=>?_;have aa:av.frz.lg aw.frz:=bm.lg.frz2;have dl:U.le aw:=dd.trans bm;have e:=e.lg aa;have w:=w.lg aa;have z:=z.lg aa;have B:=B.lg aa;have fr:=fr.lg aa;have E:=E.lg aa;have G:=G.lg aa;have F:=F.lg aa;have H:=H.lg aa λ _ _ h=>h;have ft:=ft.lg aa λ _ _ h=>h;have L:=L.lg aa;have fm:=fm.lg aa;have fn:=fn.lg aa;have q:Z0 aw.frz (some ⟨cy,0,none⟩) 1 [0]:=XK (l:=[0]) (cj.imI λ _ _ h=>h);refine⟨GL.any,(PC wa _ 1 wc 1 1 [0] [0] (L.lg Qm) (q.lg Qm) D1).go λ _=>?_⟩;rw[decide_eq_true (rfl:([0]:List Int)=[0])];clear q
 conv=>whnf
 intro cz b2;refine Zl b2 λ ax bn ck=>?_;have ab:aw.frz.lg ax.frz:=bn.lg.frz2;have ds:U.le ax:=dl.trans bn;have e:=e.lg ab;have w:=w.lg ab;have z:=z.lg ab;have B:=B.lg ab;have fr:=fr.lg ab;have E:=E.lg ab;have G:=G.lg ab;have F:=F.lg ab;have H:=H.lg ab λ _ _ h=>h;have ft:=ft.lg ab λ _ _ h=>h;have L:=L.lg ab;have fm:=fm.lg ab;have fn:=fn.lg ab;have q:Z0 ax.frz (some ⟨cz,0,none⟩) 1 [1]:=XK (l:=[1]) (ck.imI λ _ _ h=>h);refine⟨GL.any,(PC ma _ 1 mc 1 1 [1] [1] (fm.lg Qm) (q.lg Qm) D1).go λ _=>?_⟩;rw[decide_eq_true (rfl:([1]:List Int)=[1])];clear q
 conv=>whnf
 intro c0 b3;refine Zl b3 λ a6 bo cm=>?_;have ac:ax.frz.lg a6.frz:=bo.lg.frz2;have dt:U.le a6:=ds.trans bo;have e:=e.lg ac;have w:=w.lg ac;have z:=z.lg ac;have B:=B.lg ac;have fr:=fr.lg ac;have E:=E.lg ac;have G:=G.lg ac;have F:=F.lg ac;have H:=H.lg ac λ _ _ h=>h;have ft:=ft.lg ac λ _ _ h=>h;have L:=L.lg ac;have fm:=fm.lg ac;have fn:=fn.lg ac;have q:Z0 a6.frz (some ⟨c0,0,none⟩) 2 [0,1]:=XK (l:=[0,1]) (cm.imI λ _ _ h=>h);refine⟨GL.any,(PC na _ 2 nc 2 2 [0,1] [0,1] (fn.lg Qm) (q.lg Qm) D1).go λ _=>?_⟩;rw[decide_eq_true (rfl:([0,1]:List Int)=[0,1])];clear q
 repeat refine⟨rfl,?_⟩
 conv=>whnf
 exact dt.lg
end Go.Proofs
namespace Go.TM
def Ob(a b:ByteArray):(a.toList==b.toList)=decide (a=b):=by
 by_cases h:a=b
 .simp[h]
 .have:a.toList≠b.toList:=λ e=>h (by
   rw[ByteArray.toList_eq,ByteArray.toList_eq]at e;exact ByteArray.ext (Array.toList_inj.1 e))
  simp[h,this]
variable{T:Type}{P:Program}{S:Sys P T}{U:Qa T}
def Hw(s:ByteArray):Nat->List ByteArray->Int
 |_,[]=>-1
 |i,x::l=>if x=s then i else Hw s (i+1) l
def F6(s:ByteArray):∀(l:List ByteArray)(i:Nat),decide (Hw s i l ≥ 0)=QQ l s
 |[],_=>rfl
 |x::l,i=>by
  unfold Hw QQ;rw[any_cons];by_cases e:x=s
  .rw[if_pos e];simp[e]
  .rw[if_neg e,decide_eq_false e,Bool.false_or];exact F6 s l (i+1)
def v_(s x:ByteArray)(i:Nat)(l:List ByteArray):Hw s i (x::l)=if x=s then(i:Int)else Hw s (i+1) l:=rfl
def Ma{b:Int}:∀{l:List Int}{p:Option Int}{n:Int},J3 b p l=0->J3 b p (l++[n])=if Ws n 0 (b-1)then(match(l.getLast?).or p with|some m=>if n<=m then 7 else 0|none=>0)else 6
 |[],p,n,_=>by
  rw[nil_append,Wq];cases p <;> rfl
 |x::l,p,n,h=>by
  rw[Wq]at h;rw[cons_append,Wq];split at h
  .rename_i hb;rw[if_pos hb]
   have key:J3 b (some x) l=0->J3 b (some x) (l++[n])=if Ws n 0 (b-1)then(match((x::l).getLast?).or p with|some m=>if n<=m then 7 else 0|none=>0)else 6:=λ h=>by
    rw[Ma h];cases l with
    |nil=>simp
    |cons y l=>
     rw[getLast?_cons_cons];obtain⟨z,e⟩:∃z,(y::l).getLast?=some z:=⟨_,getLast?_eq_some_getLast (cons_ne_nil y l)⟩;rw[e];rfl
   cases p with
   |none=>exact key h
   |some m=>
    simp only at h ⊢;split at h
    .cases h
    .rename_i hm;rw[if_neg hm];exact key h
  .cases h
def Dd{b:Int}:∀{l l':List Int}{p:Option Int},J3 b p l≠0->J3 b p (l++l')=J3 b p l
 |[],_,_,h=>absurd rfl h
 |x::l,l',p,h=>by
  rw[Wq]at h;rw[cons_append,Wq,Wq];split at h
  .rename_i hb;rw[if_pos hb,if_pos hb];cases p with
   |none=>exact Dd h
   |some m=>
    simp only at h ⊢;split at h
    .rename_i hm;rw[if_pos hm,if_pos hm]
    .rename_i hm;rw[if_neg hm,if_neg hm];exact Dd h
  .rename_i hb;rw[if_neg hb,if_neg hb]
end Go.TM
namespace Go.Proofs
open Go.TM
variable{T:Type}{S:TM.Sys Tryz.prog T}{U:Qa T}
attribute [local irreducible] Qb Zh Wh
def Rl(a:Option Addr)(len cap:Nat)(l:List ByteArray)(B:Qy U a len 1 l λ s vs=>vs=[.string s])(E:len<2^60)(s:ByteArray) :
  Qb S 73 #[.slice a len cap,.string s] (λ v U'=>v=.int .i64 (Hw s 0 l)/\U'=U) U:=by
 refine Qb.of (args:=[_,_]) Ev Qe S1 ?_;have G:=B.1;refine⟨Nat,λ i=>[(0,.slice a len cap),(1,.string s),(5,.int .i64 i)],λ i U'=>U'=U/\i<=len/\Hw s 0 l=Hw s i (l.drop i),λ i=>len-i,0,T1,⟨rfl,O1,rfl⟩,?_⟩;rintro i f _⟨rfl,K,b⟩;have w:Ze ((i:Int)+1):=I1
 repeat refine⟨rfl,?_⟩
 conv=>whnf
 apply Qd<;>intro h
 .have hlt:i<len:=by simpa using h
  obtain⟨F,x,vs,I,rfl,H,rfl,-,z⟩:=B.at hlt;rw[Ww I,v_]at b;refine⟨F,i,⟨rfl,rfl,hlt⟩,_,z 0 _ rfl,?_⟩
  repeat refine⟨rfl,?_⟩
  conv=>whnf
  apply Qd<;>intro h
  .have e:x=s:=by rw[Ob]at h;simpa using h
   rw[if_pos e]at b;rw[b]
   repeat refine⟨rfl,?_⟩
   conv=>whnf
  .have e:x≠s:=by rw[Ob]at h;simpa using h
   rw[if_neg e]at b;refine⟨w,?_⟩
   conv=>whnf
   exact⟨rfl,i+1,T1,⟨rfl,O1,b⟩,L1⟩
 .have hge:i=len:=by simp at h;omega
  rw[drop_eq_nil_of_le O1]at b;rw[b]
  repeat refine⟨rfl,?_⟩
  conv=>whnf
def Fz(a:Option Addr)(len cap:Nat)(l:List Int)(M:Z0 U a len l)(Q:len<2^60)(n:Nat)(hn:n<2^60) :
  Qb S 104 #[.slice a len cap,.int .i64 n] (λ v U'=>v=.int .i64 (J3 n none l)/\U'=U) U:=by
 refine Qb.pure' (Qb.of (args:=[_,_]) TQ Qe S1 ?_);have aa:=M.1;have H:Ze ((n:Int)-1):=I1
 refine⟨Nat,λ i=>[(0,.slice a len cap),(1,.int .i64 n),(5,.int .i64 i)],λ i U'=>U.lg U'/\i<=len/\J3 n none (l.take i)=0,λ i=>len-i,0,T1,⟨(Qa.le.refl _).lg,O1,rfl⟩,?_⟩;rintro i f X⟨e,hi,w⟩;have G:Ze ((i:Int)+1):=I1
 repeat refine⟨rfl,?_⟩
 conv=>whnf
 apply Qd<;>intro E
 .have hlt:i<len:=by simpa using E
  obtain⟨K,x,hx,rfl,ab,T⟩:=(M.lg e).at hlt;have b:J3 n none (l.take (i+1))=if Ws x 0 ((n:Int)-1)then(match((l.take i).getLast?).or none with|some m=>if x<=m then 7 else 0|none=>0)else 6:=by rw[Z3 hx];exact Ma w
  have B:J3 n none (l.take (i+1))≠0->J3 n none l=J3 n none (l.take (i+1)):=λ h=>by
   have:=Dd (l':=l.drop (i+1)) h
   rwa [take_append_drop]at this
  refine⟨K,i,⟨rfl,rfl,hlt⟩,_,T,H,W0.any,(J6 X x 0 ((n:Int)-1)).go λ _=>?_⟩;cases P:Ws x 0 ((n:Int)-1)with
  |false=>
   rw[P,if_neg S1]at b;rw[B (by rw[b];decide),b]
   repeat refine⟨rfl,?_⟩
   conv=>whnf
   exact e
  |true=>
   rw[if_pos P]at b
   repeat refine⟨rfl,?_⟩
   conv=>whnf
   apply Q7<;>intro E
   .have h0:0<i:=by simpa using E
    obtain⟨j,rfl⟩:∃j,i=j+1:=⟨i-1,O1⟩;obtain⟨y,W⟩:∃y,l[j]?=some y:=⟨_,getElem?_eq_getElem O1⟩;have F:(l.take (j+1)).getLast?=some y:=by rw[Z3 W];simp
    rw[F,Option.some_or]at b;simp only at b;obtain⟨Z,e',V,N⟩:=(M.lg e).2 j y W;cases e';have I:Ze (((j+1:Nat):Int)-1):=I1
    have L:((j+1:Nat):Int)-1=(j:Int):=O1
    refine⟨K,j+1,⟨rfl,rfl,hlt⟩,_,T,I,?_⟩;rw[L];refine⟨K,j,⟨rfl,rfl,O1⟩,_,N,?_⟩
    conv=>whnf
    intro Y z _
    repeat refine⟨rfl,?_⟩
    conv=>whnf
    apply Qd<;>intro E
    .have hle:x<=y:=by simpa using E
     rw[if_pos hle]at b;rw[B (by rw[b];decide),b]
     repeat refine⟨rfl,?_⟩
     conv=>whnf
     exact e.trans z.lg
    .have hle:¬x<=y:=by simp at E;omega
     rw[if_neg hle]at b;refine⟨G,?_⟩
     conv=>whnf
     exact⟨rfl,j+1+1,T1,⟨e.trans z.lg,O1,b⟩,L1⟩
   .have h0:i=0:=by simp at E;omega
    subst h0;have b:J3 n none (l.take (0+1))=0:=b
    conv=>whnf
    intro Y z _;refine⟨G,?_⟩
    conv=>whnf
    exact⟨rfl,0+1,T1,⟨e.trans z.lg,O1,b⟩,L1⟩
 .have hge:i=len:=by simp at E;omega
  rw[take_of_length_le O1]at w;rw[w]
  repeat refine⟨rfl,?_⟩
  conv=>whnf
  exact e
def R5(h:BH)(b:Bk)(hb:Zp U.frz h b)(ao:b.Low)(two:Nat)(h2:two<60):∀(s one:Nat),s<=60->one<b.cs.length ->
  Qb S 105 #[h.v,.int .i64 one,.int .i64 two,.int .i64 s] (λ v U'=>v=.bool (Wu b.A two s one)/\U'=U) U:=by
 have ay:=hb.cs.1;intro s
 induction s generalizing U with
 |zero=>
  intro one hs ae;refine Qb.pure' (Qb.of (args:=[_,_,_,_]) KS Qe S1 ?_)
  repeat refine⟨rfl,?_⟩
  conv=>whnf
  intro B Q z K;have K:Zf Q B #[.slice h.ra h.rl h.rc,.slice h.ca h.cl h.cc]:=K;obtain⟨W,c,ga,gl,gc,aa,al,ac,hx,F,ai,P,-,-,ha,ak,G⟩:=(hb.lg z.lg.frz2).case (show one<h.cl by omega);refine⟨Unit,λ _=>[(1,.int .i64 one),(2,.int .i64 two),(3,.int .i64 0),(4,.pointer (some ⟨B,0,none⟩)),(9,.int .i64 0)],λ _ U'=>U'=Q,λ _=>0,(),T1,rfl,?_⟩;rintro _ f _ rfl;refine⟨_,K.sees3 (o:=1) rfl,W,one,⟨F,rfl,O1⟩,_,(P.lg Qm).cell (i:=3) rfl,?_⟩
  repeat refine⟨rfl,?_⟩
  conv=>whnf
  apply Q7<;>intro V
  .repeat refine⟨rfl,?_⟩
   conv=>whnf
   exact z.lg
  .repeat refine⟨rfl,?_⟩
   conv=>whnf
   exact z.lg
 |succ s ih=>
  intro one hs ae;refine Qb.pure' (Qb.of (args:=[_,_,_,_]) KS Qe S1 ?_)
  repeat refine⟨rfl,?_⟩
  conv=>whnf
  intro B Q z K;have K:Zf Q B #[.slice h.ra h.rl h.rc,.slice h.ca h.cl h.cc]:=K;obtain⟨W,c,ga,gl,gc,aa,al,ac,hx,F,ai,P,-,-,ha,ak,G⟩:=(hb.lg z.lg.frz2).case (show one<h.cl by omega);have am:=Bk.aft1_at hx;have aw:=ha.1;have X:=ao.af c G;have hm:Wu b.A two (s+1) one=(c.af.map Int.toNat).any λ k=>k==two|| Wu b.A two s k:=by rw[<- am];rfl
  rw[hm];have Z:Ze (((s+1:Nat):Int)-1):=I1
  have ap:((s+1:Nat):Int)-1=(s:Int):=O1
  have ah:decide (((s+1:Nat):Int) > 0)=true:=decide_eq_true O1;refine⟨Nat,λ i=>[(1,.int .i64 one),(2,.int .i64 two),(3,.int .i64 (s+1:Nat)),(4,.pointer (some ⟨B,0,none⟩)),(9,.int .i64 i)],λ i U'=>Q.lg U'/\i<=al/\((c.af.take i).map Int.toNat).any (λ k=>k==two|| Wu b.A two s k)=false,λ i=>al-i,0,T1,⟨(Qa.le.refl _).lg,O1,S1⟩,?_⟩;rintro i f U2⟨e,hi,N⟩;have an:Ze ((i:Int)+1):=I1
  have H:Z6 U2 (W.add (one*4)) [.string c.nm,.int .i64 c.ag,.slice ga gl gc,.slice aa al ac]:=(P.lg Qm).lg e;have L:=K.lg e;have E:∀{w:Qa T},Q.lg w->U.lg w:=λ h=>z.lg.trans h;refine⟨_,L.sees3 (o:=1) rfl,W,one,⟨F,rfl,O1⟩,_,H.cell (i:=3) rfl,?_⟩
  repeat refine⟨rfl,?_⟩
  conv=>whnf
  apply Q7<;>intro V
  .have hlt:i<al:=by simpa using V
   repeat refine⟨rfl,?_⟩
   conv=>whnf
   rw[ah];obtain⟨aj,x,hy,rfl,ax,aq⟩:=((ha.lg Qm).lg e).at hlt;obtain⟨au,av⟩:=X x (mem_of_getElem? hy);obtain⟨k,rfl⟩:=Int.eq_ofNat_of_zero_le au;have hk:k<b.cs.length:=by unfold Bk.nc at av;omega
   have Y:((c.af.take (i+1)).map Int.toNat).any (λ k=>k==two|| Wu b.A two s k)=(k==two|| Wu b.A two s k):=by
    rw[Z3 hy,map_append,any_append,N];simp
   have I:(k==two|| Wu b.A two s k)=true->(c.af.map Int.toNat).any (λ k=>k==two|| Wu b.A two s k)=true:=λ h=>by
    rw[any_eq_true];exact⟨k,mem_map.2 ⟨(k:Int),mem_of_getElem? hy,S1⟩,h⟩
   refine⟨_,L.sees3 (o:=1) rfl,W,one,⟨F,rfl,O1⟩,_,H.cell (i:=3) rfl,aj,i,⟨rfl,rfl,hlt⟩,_,aq,?_⟩
   repeat refine⟨rfl,?_⟩
   conv=>whnf
   apply Q7<;>intro V
   .have hne:k≠two:=by
     have M:((k:Int)==(two:Int))=false:=V;have:=ne_of_beq_false M;omega
    refine⟨_,⟨rfl,L.rd⟩,?_⟩;refine⟨Z,?_⟩;rw[ap];refine⟨KS.any,(ih (U:=U2) ((hb.lg z.lg.frz2).lg e.frz2) k O1 hk).go λ _=>?_⟩;cases ab:Wu b.A two s k with
    |true=>
     rw[I (by rw[ab];simp)]
     repeat refine⟨rfl,?_⟩
     conv=>whnf
     exact E e
    |false=>
     refine⟨an,?_⟩
     conv=>whnf
     exact⟨rfl,i+1,T1,⟨e,O1,by rw[Y,ab];simpa using hne⟩,L1⟩
   .have he:k=two:=by
     have M:((k:Int)==(two:Int))=true:=V;have:=eq_of_beq M;omega
    rw[I (by simp[he])]
    repeat refine⟨rfl,?_⟩
    conv=>whnf
    exact E e
  .have hge:i=al:=by simp at V;omega
   rw[take_of_length_le O1]at N;rw[N]
   repeat refine⟨rfl,?_⟩
   conv=>whnf
   exact E e
end Go.Proofs
namespace Go.TM
variable{T:Type}{P:Program}{S:Sys P T}{U:Qa T}
def Nm(c:UInt8):IntKind.wrap .i64 (c.toNat:Int)=c.toNat:=by
 have:=c.toNat_lt;simp only[IntKind.wrap,IntKind.signed,IntKind.bits];simp;omega
def NQ{s:ByteArray}{i:Nat}{c:UInt8}(h:s.data.toList[i]?=some c):s[i]?=some c:=by
 rw[<- h];have:s[i]?=s.data[i]?:=rfl;rw[this,Array.getElem?_toList]
def H0(c:UInt8):Bool:=Ws (c.toNat:Int) 97 122
def Hu(c:UInt8):Bool:=Ws (c.toNat:Int) 48 57
def EU(c:UInt8):Hp c=(!H0 c&&!Hu c):=by
 unfold Hp H0 Hu Ws;rw[Bool.eq_iff_iff];simp
def Xg:List UInt8->Nat->Bool
 |[],_=>true
 |c::r,i=>(H0 c|| (Hu c&&!decide (i=0)))&&Xg r (i+1)
def ER:∀(l:List UInt8)(i:Nat),0<i->Xg l i=!(l.any Hp)
 |[],_,_=>rfl
 |c::r,i,h=>by
  rw[Xg,ER r (i+1) O1,any_cons,EU,Bool.not_or,Bool.not_and,Bool.not_not,Bool.not_not];have:decide (i=0)=false:=decide_eq_false O1;rw[this];cases H0 c <;> cases Hu c <;> rfl
def kX(s:ByteArray):Qu s=(Ws s.size 1 10&&Xg s.data.toList 0):=by
 unfold Qu;have b:s.size=s.data.toList.length:=(Array.length_toList (xs:=s.data)).symm;cases h:s.data.toList with
 |nil=>
  have:Ws (s.size:Int) 1 10=false:=by unfold Ws;rw[b,h];rfl
  rw[this];rfl
 |cons c r=>
  congr 1;rw[Xg,ER r 1 O1,any_cons,EU,Bool.not_or,Bool.not_and,Bool.not_not,Bool.not_not]
  have e:(!(decide ((c.toNat:Int)<97))&&!(decide ((c.toNat:Int) > 122)))=H0 c:=by
   unfold H0 Ws;rw[Bool.eq_iff_iff];simp only[Bool.and_eq_true,Bool.not_eq_true',decide_eq_false_iff_not,decide_eq_true_eq];omega
  simp only[e];cases H0 c <;> simp
def XZ(nr nc:Int)(seen:List ByteArray)(c:Cs):Int:=
 if Qu c.nm then(if QQ seen c.nm then 5 else if Ws c.ag 0 (nr-1)then(if ZY nr c.gs=0 then J3 nc none c.af else ZY nr c.gs)else 6)else 4
def kM(nr nc:Int)(seen:List ByteArray)(c:Cs)(l:List Cs):WM Qu nr nc seen (c::l)=if XZ nr nc seen c=0 then WM Qu nr nc (seen++[c.nm]) l else XZ nr nc seen c:=by
 have e:WM Qu nr nc seen (c::l)=if Qu c.nm then(if QQ seen c.nm then 5 else
   if Ws c.ag 0 (nr-1)then(if ZY nr c.gs=0 then(if J3 nc none c.af=0 then WM Qu nr nc (seen++[c.nm]) l else J3 nc none c.af)else ZY nr c.gs)else 6)else 4:=rfl
 rw[e];unfold XZ;split
 .split
  .rfl
  .split
   .split
    .rfl
    .rfl
   .rfl
 .rfl
def km(seen:List ByteArray)(s:ByteArray)(l:List ByteArray):XE Qu seen (s::l)=if Qu s then(if QQ seen s then 5 else XE Qu (seen++[s]) l)else 4:=rfl
def kg(l:List ByteArray)(x s:ByteArray):QQ (l++[x]) s=(QQ l s|| decide (x=s)):=by simp[QQ]
def kb(nr:Int)(g:List Int)(l:List (List Int)):X5 nr (g::l)=if g.length > 3 then 2 else if J3 nr none g=0 then X5 nr l else J3 nr none g:=rfl
def Qy.take{a:Option Addr}{len n i:Nat}{α:Type}{l:List α}{R:α->List Value->Prop}(h:Qy U a len n l R)(w:i<=len):Qy U a i n (l.take i) R:=by
 refine⟨by rw[length_take,h.1];omega,λ k x b=>?_⟩;have e:=(List.getElem?_eq_some_iff.1 b).1;rw[length_take]at e;rw[getElem?_take_of_lt O1]at b;exact h.2 k x b
def J5.at{a:Option Addr}{len:Nat}{B:List (List Int)}(h:J5 U a len B){i:Nat}(H:i<len) :
  ∃b g ga gl gc,B[i]?=some g/\a=some b/\b.spot=none/\U.sees ((b.add (i*1)).add 0) (.slice ga gl gc)/\Z0 U ga gl g/\gl<2^60/\g∈B:=by
 obtain⟨b,g,vs,E,e,z,⟨ga,gl,gc,rfl,F,G⟩,-,w⟩:=Qy.at h H;exact⟨b,g,ga,gl,gc,E,e,z,w 0 _ rfl,F,G,mem_of_getElem? E⟩
end Go.TM
namespace Go.Proofs
open Go.TM
variable{T:Type}{S:TM.Sys Tryz.prog T}{U:Qa T}
attribute [local irreducible] Qb Zh Wh
def T0(s:ByteArray)(K:s.size<2^60):Qb S 72 #[.string s] (λ v U'=>v=.bool (Qu s)/\U'=U) U:=by
 refine Qb.pure' (Qb.of (args:=[_]) Y6 Qe S1 ?_);rw[kX];have G:s.size=s.data.toList.length:=(Array.length_toList (xs:=s.data)).symm
 repeat refine⟨rfl,?_⟩
 conv=>whnf
 apply Q7<;>intro e
 .have h0:s.size≠0:=by simpa using e
  repeat refine⟨rfl,?_⟩
  conv=>whnf
  apply Qd<;>intro e
  .have:Ws s.size 1 10=false:=by unfold Ws;simp at e ⊢;omega
   rw[this]
   repeat refine⟨rfl,?_⟩
   conv=>whnf
   exact(Qa.le.refl _).lg
  .have:Ws s.size 1 10=true:=by unfold Ws;simp at e ⊢;omega
   rw[this,Bool.true_and];refine⟨Nat,λ i=>[(0,.string s),(3,.int .i64 i)],λ i U'=>U.le U'/\i<=s.size/\Xg s.data.toList 0=Xg (s.data.toList.drop i) i,λ i=>s.size-i,0,T1,⟨.refl _,O1,rfl⟩,?_⟩;rintro i f U₀⟨w,I,b⟩
   repeat refine⟨rfl,?_⟩
   conv=>whnf
   apply Qd<;>intro e
   .have hlt:i<s.size:=by simpa using e
    obtain⟨c,E⟩:∃c,s.data.toList[i]?=some c:=⟨_,getElem?_eq_getElem O1⟩;rw[Ww E,Xg]at b;refine⟨i,c,⟨rfl,NQ E⟩,.bool (H0 c),λ U' z _=>?_,?_⟩
    .refine⟨W0.any,(J6 _ _ _ _).mono ?_⟩;rintro _ U''⟨rfl,F⟩-;exact⟨by rw[Nm];rfl,_,.refl _,F▸.refl _⟩
    refine⟨i,c,⟨rfl,NQ E⟩,?_⟩
    conv=>whnf
    intro H z _;refine⟨W0.any,(J6 _ _ _ _).go λ _=>?_⟩;rw[Nm];have B:Ze (i+1):=I1
    have next:Xg s.data.toList 0=Xg (s.data.toList.drop (i+1)) (i+1)->i+1<=s.size/\Xg s.data.toList 0=Xg (s.data.toList.drop (i+1)) (i+1):=λ h=>⟨O1,h⟩
    repeat refine⟨rfl,?_⟩
    conv=>whnf
    apply Q7<;>intro e
    .have h1:H0 c=false:=by simpa using e
     repeat refine⟨rfl,?_⟩
     conv=>whnf
     apply Q7<;>intro e
     .have h2:Hu c=true:=by simpa[Hu]using e
      repeat refine⟨rfl,?_⟩
      conv=>whnf
      apply Qd<;>intro e
      .have h3:i=0:=by simpa using e
       repeat refine⟨rfl,?_⟩
       conv=>whnf
       exact⟨by rw[b,h1,h3];simp,(w.trans z).lg⟩
      .have h3:i≠0:=by simpa using e
       refine⟨B,rfl,i+1,T1,⟨w.trans z,next (by rw[b,h1,h2];simp[h3])⟩,L1⟩
     .have h2:Hu c=false:=by simpa[Hu]using e
      repeat refine⟨rfl,?_⟩
      conv=>whnf
      exact⟨by rw[b,h1,h2];simp,(w.trans z).lg⟩
    .have h1:H0 c=true:=by simpa using e
     repeat refine⟨rfl,?_⟩
     refine⟨B,rfl,i+1,T1,⟨w.trans z,next (by rw[b,h1];simp)⟩,L1⟩
   .have hge:s.size<=i:=by simpa using e
    rw[drop_eq_nil_of_le O1]at b
    repeat refine⟨rfl,?_⟩
    conv=>whnf
    exact⟨by rw[b];rfl,w.lg⟩
 .have h0:s.size=0:=by simpa using e
  have:Ws s.size 1 10=false:=by unfold Ws;rw[h0];rfl
  rw[this]
  repeat refine⟨rfl,?_⟩
  conv=>whnf
  exact(Qa.le.refl _).lg
def Cv(h:BH)(b:Bk)(hb:Zp U.frz h b)(i:Nat)(c:Cs)(hx:b.cs[i]?=some c) :
  Qb S 74 #[h.v,.int .i64 i] (λ v U'=>v=.int .i64 (XZ b.nr b.nc ((b.cs.take i).map Cs.nm) c)/\U'=U) U:=by
 refine Qb.pure' (Qb.of (args:=[_,_]) Ew Qe S1 ?_);have aq:=hb.cs.1;have au:=hb.cl;have bi:=hb.rs.1;have a2:=hb.rl;have hi:i<h.cl:=by rw[<- aq];exact(List.getElem?_eq_some_iff.1 hx).1
 have bg:b.nr=(h.rl:Int):=by unfold Bk.nr;rw[bi]
 have bf:b.nc=(h.cl:Int):=by unfold Bk.nc;rw[aq]
 have ay:Ze ((h.rl:Int)-1):=I1
 rw[bg,bf]
 repeat refine⟨rfl,?_⟩
 conv=>whnf
 intro B U1 am hB;have hB:Zf U1 B #[.slice h.ra h.rl h.rc,.slice h.ca h.cl h.cc]:=hB;have W:=hb.lg am.lg.frz2;obtain⟨ad,c',ga,gl,gc,aa,al,ac,bk,a9,bs,bh,hg,bq,ha,a8,az⟩:=W.case hi;obtain rfl:c=c':=Option.some.inj (hx.symm.trans bk);have bl:=hb.cn c az;refine⟨_,hB.sees3 (o:=1) rfl,ad,i,⟨a9,rfl,hi⟩,_,⟨rfl,bh.lg Qm⟩,?_⟩
 conv=>whnf
 intro b5 ba;refine⟨_,.refl _,rfl,Zu (vs:=[.string c.nm,.int .i64 c.ag,.slice ga gl gc,.slice aa al ac]) ba rfl (by simp[Value.single]) λ U2 N an=>?_⟩;have ak:=hB.lg N.lg;have ao:=W.lg N.lg.frz2;have hg:=(hg.lg N.lg.frz2);have ha:=(ha.lg N.lg.frz2);have Q:U.lg U2:=am.lg.trans N.lg;refine⟨_,an.sees3 (o:=0) rfl,Y6.any,(T0 c.nm bl).go λ _=>?_⟩;cases hn:Qu c.nm with
 |false=>
  have hs:XZ h.rl h.cl ((b.cs.take i).map Cs.nm) c=4:=by unfold XZ;rw[hn];rfl
  rw[hs]
  repeat refine⟨rfl,?_⟩
  conv=>whnf
  exact Q
 |true=>
 have hs:XZ h.rl h.cl ((b.cs.take i).map Cs.nm) c=(if QQ ((b.cs.take i).map Cs.nm) c.nm then 5 else if Ws c.ag 0 ((h.rl:Int)-1)then(if ZY h.rl c.gs=0 then J3 h.cl none c.af else ZY h.rl c.gs)else 6):=by unfold XZ;rw[hn];rfl
 rw[hs];refine⟨Nat,λ k=>[(1,.int .i64 i),(2,.pointer (some ⟨B,0,none⟩)),(5,.pointer (some ⟨b5,0,none⟩)),(6,.int .i64 k)],λ k U'=>U2.le U'/\k<=i/\QQ ((b.cs.take k).map Cs.nm) c.nm=false,λ k=>i-k,0,T1,⟨.refl _,O1,by simp[QQ]⟩,?_⟩;rintro k f U3⟨F,hk,a0⟩;have M:=ak.lg F.lg;have I:=an.lg F.lg;have ap:=ao.lg F.lg.frz2;have bd:Ze ((k:Int)+1):=I1
 repeat refine⟨rfl,?_⟩
 conv=>whnf
 apply Qd<;>intro E
 .have hlt:k<i:=by simpa using E
  obtain⟨T,c2,ah,aj,ai,bm,bo,bn,a5,L,a4,a1,-,-,-,-,be⟩:=ap.case (show k<h.cl by omega)
  have bj:QQ ((b.cs.take (k+1)).map Cs.nm) c.nm=decide (c2.nm=c.nm):=by
   rw[Z3 a5,map_append,map_cons,map_nil,kg,a0,Bool.false_or]
  refine⟨_,M.sees3 (o:=1) rfl,T,k,⟨L,rfl,O1⟩,_,(a1.lg Qm).cell (i:=0) rfl,_,I.sees3 (o:=0) rfl,?_⟩
  conv=>whnf
  intro U4 z _
  repeat refine⟨rfl,?_⟩
  conv=>whnf
  apply Qd<;>intro E
  .have e:c2.nm=c.nm:=by rw[Ob]at E;simpa using E
   have a6:QQ ((b.cs.take i).map Cs.nm) c.nm=true:=by
    rw[sq,mem_map];refine⟨c2,?_,e⟩;rw[mem_take_iff_getElem];obtain⟨hl,e2⟩:=List.getElem?_eq_some_iff.1 a5;exact⟨k,O1,e2⟩
   rw[a6]
   repeat refine⟨rfl,?_⟩
   conv=>whnf
   exact Q.trans (F.lg.trans z.lg)
  .have e:¬c2.nm=c.nm:=by rw[Ob]at E;simpa using E
   refine⟨bd,?_⟩
   conv=>whnf
   exact⟨rfl,k+1,T1,⟨F.trans z,O1,by rw[bj];simpa using e⟩,L1⟩
 have av:k=i:=by simp at E;omega
 subst av;rw[a0];have G:=Q.trans F.lg;refine⟨_,I.sees3 (o:=1) rfl,_,M.sees3 (o:=0) rfl,ay,W0.any,(J6 U3 c.ag 0 ((h.rl:Int)-1)).go λ _=>?_⟩;cases bp:Ws c.ag 0 ((h.rl:Int)-1)with
 |false=>
  repeat refine⟨rfl,?_⟩
  conv=>whnf
  exact G
 |true=>
 refine⟨_,I.sees3 (o:=2) rfl,?_⟩
 repeat refine⟨rfl,?_⟩
 conv=>whnf
 have Y:c.gs.length=gl:=hg.1;apply Qd<;>intro E
 .have ae:ZY h.rl c.gs=2:=by unfold ZY;rw[if_pos (by rw[Y];simp at E;omega)]
  rw[ae]
  repeat refine⟨rfl,?_⟩
  conv=>whnf
  exact G
 have ae:ZY h.rl c.gs=X5 h.rl c.gs:=by unfold ZY;rw[if_neg (by rw[Y];simp at E;omega)]
 rw[ae];refine⟨Nat,λ j=>[(1,.int .i64 k),(2,.pointer (some ⟨B,0,none⟩)),(5,.pointer (some ⟨b5,0,none⟩)),(7,.int .i64 j)],λ j U'=>U3.le U'/\j<=gl/\X5 h.rl c.gs=X5 h.rl (c.gs.drop j),λ j=>gl-j,0,T1,⟨.refl _,O1,rfl⟩,?_⟩;rintro j f U4⟨z,hj,w⟩;have V:=M.lg z.lg;have K:=I.lg z.lg;have bc:=(hg.lg F.lg.frz2).lg z.lg.frz2;have a7:=(ha.lg F.lg.frz2).lg z.lg.frz2;have H:=G.trans z.lg;have ax:Ze ((j:Int)+1):=I1
 refine⟨_,K.sees3 (o:=2) rfl,?_⟩
 repeat refine⟨rfl,?_⟩
 conv=>whnf
 apply Qd<;>intro E
 .have hlt:j<gl:=by simpa using E
  obtain⟨T,g,ah,aj,ai,bb,L,a4,a3,Z,aw,br⟩:=(J5.lg bc Qm).at hlt;have X:=Z.1;rw[Ww bb,kb]at w;refine⟨_,K.sees3 (o:=2) rfl,T,j,⟨L,rfl,hlt⟩,_,a3,?_⟩
  repeat refine⟨rfl,?_⟩
  conv=>whnf
  apply Qd<;>intro E
  .have P:g.length > 3:=by rw[X];simp at E;omega
   rw[if_pos P]at w;rw[w]
   repeat refine⟨rfl,?_⟩
   conv=>whnf
   exact H
  have P:¬g.length > 3:=by rw[X];simp at E;omega
  rw[if_neg P]at w;refine⟨_,K.sees3 (o:=2) rfl,T,j,⟨L,rfl,hlt⟩,_,a3,_,V.sees3 (o:=0) rfl,?_⟩
  conv=>whnf
  intro U5 ab _;refine⟨TQ.any,(Fz ah aj ai g (Z.lg ab.lg) aw h.rl a2).go λ _=>?_⟩;by_cases hz:J3 (h.rl:Nat) none g=0
  .rw[if_pos hz]at w;rw[hz]
   repeat refine⟨rfl,?_⟩
   refine⟨ax,?_⟩
   conv=>whnf
   exact⟨rfl,j+1,T1,⟨z.trans ab,O1,w⟩,L1⟩
  .rw[if_neg hz]at w;rw[w,if_neg hz]
   repeat refine⟨rfl,?_⟩
   conv=>whnf
   apply Qd<;>intro E
   .repeat refine⟨rfl,?_⟩
    conv=>whnf
    exact H.trans ab.lg
   .exact absurd (by simpa using E) hz
 have av:j=gl:=by simp at E;omega
 rw[drop_eq_nil_of_le O1]at w;rw[w];refine⟨_,K.sees3 (o:=3) rfl,_,V.sees3 (o:=1) rfl,TQ.any,(Fz aa al ac c.af (a7.lg Qm) a8 h.cl au).go λ _=>?_⟩
 repeat refine⟨rfl,?_⟩
 conv=>whnf
 exact H
def zl(h:BH)(b:Bk)(M:Zp U.frz h b)(E:b.Low):Qb S 75 #[h.v] (λ v U'=>v=.bool (Xu b.A)/\U'=U) U:=by
 refine Qb.pure' (Qb.of (args:=[_]) Ey Qe S1 ?_);have I:=M.cs.1;have Q:=E.nc;have w:b.A.length=h.cl:=by rw[b.A_len,I]
 repeat refine⟨rfl,?_⟩
 conv=>whnf
 intro B L e z;have z:Zf L B #[.slice h.ra h.rl h.rc,.slice h.ca h.cl h.cc]:=z;refine⟨Nat,λ i=>[(1,.pointer (some ⟨B,0,none⟩)),(3,.int .i64 i)],λ i U'=>U'=L/\i<=h.cl/\((range i).any λ i=>Wu b.A i h.cl i)=false,λ i=>h.cl-i,0,T1,⟨rfl,O1,rfl⟩,?_⟩;rintro i f _⟨rfl,T,F⟩;have K:Ze ((i:Int)+1):=I1
 refine⟨_,z.sees3 (o:=1) rfl,?_⟩
 repeat refine⟨rfl,?_⟩
 conv=>whnf
 apply Qd<;>intro N
 .have hlt:i<h.cl:=by simpa using N
  refine⟨_,⟨rfl,z.rd⟩,?_⟩;refine⟨_,z.sees3 (o:=1) rfl,KS.any,(R5 h b (M.lg e.lg.frz2) E i O1 h.cl i O1 O1).go λ _=>?_⟩;cases P:Wu b.A i h.cl i with
  |true=>
   have H:Xu b.A=true:=by
    unfold Xu;rw[w,any_eq_true];exact⟨i,mem_range.2 hlt,P⟩
   rw[H]
   repeat refine⟨rfl,?_⟩
   conv=>whnf
   exact e.lg
  |false=>
   refine⟨K,?_⟩
   conv=>whnf
   exact⟨rfl,i+1,T1,⟨rfl,O1,by rw[range_succ,any_append,F];simp[P]⟩,L1⟩
 .have hge:i=h.cl:=by simp at N;omega
  subst hge;have G:Xu b.A=false:=by unfold Xu;rw[w];exact F
  rw[G]
  repeat refine⟨rfl,?_⟩
  conv=>whnf
  exact e.lg
def zj(h:BH)(b:Bk)(X:Zp U.frz h b)(al:h.rl<=h.rc):Qb S 44 #[h.v] (λ v U'=>v=.int .i64 (b.flaw Qu)/\U'=U) U:=by
 refine Qb.pure' (Qb.of (args:=[_]) Ei Qe S1 ?_);have Z:=X.cs.1;have aj:=X.cl;have ag:=X.rs.1;have ak:=X.rl
 repeat refine⟨rfl,?_⟩
 conv=>whnf
 intro B U1 Q hB;have hB:Zf U1 B #[.slice h.ra h.rl h.rc,.slice h.ca h.cl h.cc]:=hB;have Y:=X.lg Q.lg.frz2;refine⟨_,hB.sees3 (o:=0) rfl,?_⟩
 repeat refine⟨rfl,?_⟩
 conv=>whnf
 apply Qd<;>intro H
 .have z:b.rs.length > 6:=by rw[ag];simp at H;omega
  have I:b.flaw Qu=2:=by unfold Bk.flaw Bk.rsF;rw[if_pos z];rfl
  rw[I]
  repeat refine⟨rfl,?_⟩
  conv=>whnf
  exact Q.lg
 have z:¬b.rs.length > 6:=by rw[ag];simp at H;omega
 have W:b.rsF Qu=XE Qu [] b.rs:=by unfold Bk.rsF;rw[if_neg z]
 refine⟨Nat,λ i=>[(1,.pointer (some ⟨B,0,none⟩)),(3,.int .i64 i)],λ i U'=>U1.le U'/\i<=h.rl/\XE Qu [] b.rs=XE Qu (b.rs.take i) (b.rs.drop i),λ i=>h.rl-i,0,T1,⟨.refl _,O1,rfl⟩,?_⟩;rintro i f U2⟨L,hi,e⟩;have w:=hB.lg L.lg;have G:=Y.lg L.lg.frz2;have F:=Q.lg.trans L.lg;have ai:Ze ((i:Int)+1):=I1
 refine⟨_,w.sees3 (o:=0) rfl,?_⟩
 repeat refine⟨rfl,?_⟩
 conv=>whnf
 apply Qd<;>intro H
 .have hlt:i<h.rl:=by simpa using H
  obtain⟨ad,s,P,V,am,hs,ae⟩:=(G.lg Qm).right hlt;rw[Ww P,km]at e
  have ab:(if h.rc=0 then h.ra else h.ra.map (·.add (0*1)))=h.ra:=by
   rw[V];split
   .rfl
   .rfl
  refine⟨_,w.sees3 (o:=0) rfl,ad,i,⟨V,rfl,hlt⟩,_,hs,Y6.any,(T0 s (X.rn s ae)).go λ _=>?_⟩;cases hn:Qu s with
  |false=>
   rw[hn]at e;have I:b.flaw Qu=4:=by unfold Bk.flaw;rw[W,e];rfl
   rw[I]
   repeat refine⟨rfl,?_⟩
   conv=>whnf
   exact F
  |true=>
  rw[if_pos hn]at e;refine⟨_,w.sees3 (o:=0) rfl,0,i,⟨rfl,rfl,O1,O1⟩,?_⟩;rw[ab];refine⟨_,w.sees3 (o:=0) rfl,ad,i,⟨V,rfl,hlt⟩,_,hs,?_⟩
  conv=>whnf
  intro U3 T _;refine⟨Ev.any,(Rl h.ra i (h.rc-0) (b.rs.take i) (((G.rs.lg Qm λ _ _ h=>h).lg T.lg λ _ _ h=>h).take O1) O1 s).go λ _=>?_⟩
  conv=>whnf
  rw[F6];cases hh:QQ (b.rs.take i) s with
  |true=>
   rw[if_pos hh]at e;have I:b.flaw Qu=5:=by unfold Bk.flaw;rw[W,e];rfl
   rw[I]
   repeat refine⟨rfl,?_⟩
   conv=>whnf
   exact F.trans T.lg
  |false=>
   rw[if_neg (by simp[hh])]at e
   repeat refine⟨rfl,?_⟩
   refine⟨ai,?_⟩
   conv=>whnf
   exact⟨rfl,i+1,T1,⟨L.trans T,O1,by rw[e,Z3 P]⟩,L1⟩
 have ah:i=h.rl:=by simp at H;omega
 rw[drop_eq_nil_of_le O1]at e;have K:b.rsF Qu=0:=by rw[W,e];rfl
 refine⟨_,w.sees3 (o:=1) rfl,?_⟩
 repeat refine⟨rfl,?_⟩
 conv=>whnf
 apply Qd<;>intro H
 .have z:b.cs.length > 5:=by rw[Z];simp at H;omega
  have I:b.flaw Qu=2:=by unfold Bk.flaw Bk.csF;rw[if_pos K,if_pos z];rfl
  rw[I]
  repeat refine⟨rfl,?_⟩
  conv=>whnf
  exact F
 have z:¬b.cs.length > 5:=by rw[Z];simp at H;omega
 have aa:b.csF Qu=WM Qu b.nr b.nc [] b.cs:=by unfold Bk.csF;rw[if_neg z]
 refine⟨Nat,λ k=>[(1,.pointer (some ⟨B,0,none⟩)),(4,.int .i64 k)],λ k U'=>U'=U2/\k<=h.cl/\WM Qu b.nr b.nc [] b.cs=WM Qu b.nr b.nc ((b.cs.take k).map Cs.nm) (b.cs.drop k),λ k=>h.cl-k,0,T1,⟨rfl,O1,rfl⟩,?_⟩;rintro k f _⟨rfl,hk,E⟩;have ac:Ze ((k:Int)+1):=I1
 refine⟨_,w.sees3 (o:=1) rfl,?_⟩
 repeat refine⟨rfl,?_⟩
 conv=>whnf
 apply Qd<;>intro H
 .have hlt:k<h.cl:=by simpa using H
  obtain⟨c,P⟩:∃c,b.cs[k]?=some c:=⟨_,getElem?_eq_getElem O1⟩;rw[Ww P,kM]at E;refine⟨_,⟨rfl,w.rd⟩,?_⟩;refine⟨Ew.any,(Cv h b G k c P).go λ _=>?_⟩;by_cases hz:XZ b.nr b.nc ((b.cs.take k).map Cs.nm) c=0
  .rw[if_pos hz]at E;rw[hz]
   repeat refine⟨rfl,?_⟩
   refine⟨ac,?_⟩
   conv=>whnf
   exact⟨rfl,k+1,T1,⟨rfl,O1,by rw[E,Z3 P,map_append];rfl⟩,L1⟩
  .rw[if_neg hz]at E;have I:b.flaw Qu=XZ b.nr b.nc ((b.cs.take k).map Cs.nm) c:=by unfold Bk.flaw;rw[if_pos K,aa,E,if_neg hz]
   rw[I]
   repeat refine⟨rfl,?_⟩
   conv=>whnf
   apply Qd<;>intro H
   .repeat refine⟨rfl,?_⟩
    conv=>whnf
    exact F
   .exact absurd (by simpa using H) hz
 have ah:k=h.cl:=by simp at H;omega
 rw[drop_eq_nil_of_le O1]at E;have M:b.csF Qu=0:=by rw[aa,E];rfl
 have N:=Bk.low_of M;refine⟨_,⟨rfl,w.rd⟩,?_⟩;refine⟨Ey.any,(zl h b G N).go λ _=>?_⟩
 have hA:∀i,i<b.A.length->∀k∈Jg b.A i,k<b.A.length:=by
  intro i hi k hk;rw[b.A_len]at hi ⊢;have P:b.cs[i]?=some (b.cs[i]):=getElem?_eq_getElem hi;rw[Bk.aft1_at P]at hk;obtain⟨n,hn,rfl⟩:=mem_map.1 hk;have:=N.af _ (getElem_mem hi) n hn;unfold Bk.nc at this;omega
 rw[<- EM hA];have I:b.flaw Qu=if Wp b.A then 8 else 0:=by unfold Bk.flaw;rw[if_pos K,if_pos M]
 rw[I];cases hl:Wp b.A with
 |true=>
  repeat refine⟨rfl,?_⟩
  conv=>whnf
  exact F
 |false=>
  repeat refine⟨rfl,?_⟩
  conv=>whnf
  exact F
structure DT(b:Bk):Prop where
 r:∀s∈b.rs,s.size<2^50
 c:∀c∈b.cs,c.nm.size<2^50
def zE(h:BH)(b:Bk)(Q:Zp U.frz h b)(X:DT b):Qb S 43 #[h.v] (λ v U'=>(∃g,v=.bool g)/\U'=U) U:=by
 refine Qb.pure' (Qb.of (args:=[_]) Eh Qe S1 ?_);have a2:=Q.cs.1;have aq:=Q.cl;have a6:=Q.rs.1;have aw:=Q.rl
 repeat refine⟨rfl,?_⟩
 conv=>whnf
 intro B Y z M;have M:Zf Y B #[.slice h.ra h.rl h.rc,.slice h.ca h.cl h.cc]:=M;have L:=Q.lg z.lg.frz2;refine⟨_,M.sees3 (o:=0) rfl,?_⟩
 repeat refine⟨rfl,?_⟩
 conv=>whnf
 apply Q7<;>intro w
 rotate_left
 .repeat refine⟨rfl,?_⟩
  conv=>whnf
  exact⟨⟨_,rfl⟩,z.lg⟩
 have av:h.rl<=40:=by simp at w;omega
 refine⟨_,M.sees3 (o:=1) rfl,?_⟩
 repeat refine⟨rfl,?_⟩
 conv=>whnf
 apply Qd<;>intro w
 .repeat refine⟨rfl,?_⟩
  conv=>whnf
  exact⟨⟨_,rfl⟩,z.lg⟩
 have ap:h.cl<=40:=by simp at w;omega
 refine⟨Nat×Nat,λ y=>[(1,.pointer (some ⟨B,0,none⟩)),(3,.int .i64 y.2),(4,.int .i64 y.1)],λ y U'=>U'=Y/\y.1<=h.rl/\y.2<=y.1*1125899906842624,λ y=>h.rl-y.1,(0,0),T1,⟨rfl,S1,S1⟩,?_⟩;rintro⟨i,n⟩f U2⟨hU,hi,hn⟩;obtain rfl:=hU.symm;simp only at hi hn;have I:Ze ((i:Int)+1):=I1
 refine⟨_,M.sees3 (o:=0) rfl,?_⟩
 repeat refine⟨rfl,?_⟩
 conv=>whnf
 apply Qd<;>intro w
 .have hlt:i<h.rl:=by simpa using w
  obtain⟨Z,s,hx,P,ao,hs,H⟩:=(L.lg Qm).right hlt;have a7:=X.r s H;have G:Ze ((n:Int)+(s.size:Nat)):=I1
  have ak:n+s.size<=(i+1)*1125899906842624:=O1
  refine⟨_,M.sees3 (o:=0) rfl,Z,i,⟨P,rfl,hlt⟩,_,hs,G,I,?_⟩
  conv=>whnf
  exact⟨rfl,(i+1,n+s.size),T1,⟨rfl,by show i+1<=_;omega,ak⟩,L1⟩
 have aj:n<=(40+0)*1125899906842624:=Nat.le_trans hn (Nat.mul_le_mul_right _ (by omega:i<=40+0));clear I;refine⟨Nat×Nat,λ y=>[(1,.pointer (some ⟨B,0,none⟩)),(3,.int .i64 y.2),(5,.int .i64 y.1)],λ y U'=>Y.le U'/\y.1<=h.cl/\y.2<=(40+y.1)*1125899906842624,λ y=>h.cl-y.1,(0,n),T1,⟨.refl _,S1,aj⟩,?_⟩;rintro⟨k,m⟩f U3⟨E,hk,hm⟩;simp only at hk hm;have I:Ze ((k:Int)+1):=I1
 have K:=M.lg E.lg;have T:=L.lg E.lg.frz2;refine⟨_,K.sees3 (o:=1) rfl,?_⟩
 repeat refine⟨rfl,?_⟩
 conv=>whnf
 apply Qd<;>intro w
 .have hlt:k<h.cl:=by simpa using w
  obtain⟨Z,c,ga,gl,gc,aa,al,ac,hx,P,ao,am,hg,a4,ha,a1,H⟩:=T.case hlt;have a8:=X.c c H;refine⟨_,K.sees3 (o:=1) rfl,Z,k,⟨P,rfl,hlt⟩,_,⟨rfl,am.lg Qm⟩,?_⟩
  conv=>whnf
  intro b5 ae;refine⟨_,.refl _,rfl,Zu (vs:=[.string c.nm,.int .i64 c.ag,.slice ga gl gc,.slice aa al ac]) ae rfl (by simp[Value.single]) λ U4 N F=>?_⟩;have e:U.lg U4:=z.lg.trans (E.lg.trans N.lg);have af:=(hg.lg N.lg.frz2);have G:Ze ((m:Int)+(c.nm.size:Nat)):=I1
  have ai:m+c.nm.size<=(40+(k+1))*1125899906842624:=O1
  refine⟨_,F.sees3 (o:=2) rfl,?_⟩
  repeat refine⟨rfl,?_⟩
  conv=>whnf
  apply Q7<;>intro w
  rotate_left
  .repeat refine⟨rfl,?_⟩
   conv=>whnf
   exact⟨⟨_,rfl⟩,e⟩
  refine⟨_,F.sees3 (o:=3) rfl,?_⟩
  repeat refine⟨rfl,?_⟩
  conv=>whnf
  apply Qd<;>intro w
  .repeat refine⟨rfl,?_⟩
   conv=>whnf
   exact⟨⟨_,rfl⟩,e⟩
  refine⟨Nat,λ j=>[(1,.pointer (some ⟨B,0,none⟩)),(3,.int .i64 m),(5,.int .i64 k),(6,.pointer (some ⟨b5,0,none⟩)),(7,.int .i64 j)],λ j U'=>U'=U4/\j<=gl,λ j=>gl-j,0,T1,⟨rfl,O1⟩,?_⟩;rintro j f U5⟨hU,hj⟩;obtain rfl:=hU.symm;have W:Ze ((j:Int)+1):=I1
  refine⟨_,F.sees3 (o:=2) rfl,?_⟩
  repeat refine⟨rfl,?_⟩
  conv=>whnf
  apply Qd<;>intro w
  .have hltj:j<gl:=by simpa using w
   obtain⟨ab,g,ay,a0,az,a3,V,ax,an,ah,au,a5⟩:=(J5.lg af Qm).at hltj;refine⟨_,F.sees3 (o:=2) rfl,ab,j,⟨V,rfl,hltj⟩,_,an,?_⟩
   repeat refine⟨rfl,?_⟩
   conv=>whnf
   apply Qd<;>intro w
   .repeat refine⟨rfl,?_⟩
    conv=>whnf
    exact⟨⟨_,rfl⟩,e⟩
   refine⟨W,?_⟩
   conv=>whnf
   exact⟨rfl,j+1,T1,⟨rfl,O1⟩,L1⟩
  refine⟨_,F.sees3 (o:=0) rfl,G,I,?_⟩
  conv=>whnf
  exact⟨rfl,(k+1,m+c.nm.size),T1,⟨E.trans N,by show k+1<=_;omega,ai⟩,L1⟩
 repeat refine⟨rfl,?_⟩
 conv=>whnf
 exact⟨⟨_,rfl⟩,z.lg.trans E.lg⟩
def Zsq(h:BH)(b:Bk)(I:Zp U.frz h b)(F:DT b)(G:h.rl<=h.rc):Qb S 12 #[h.v] (λ v U'=>(∃g,v=.bool g/\(g=true->b.flaw Qu=0))/\U'=U) U:=by
 refine Qb.pure' (Qb.of (args:=[_]) tQ Qe S1 ?_)
 repeat refine⟨rfl,?_⟩
 conv=>whnf
 intro B H w z;have z:Zf H B #[.slice h.ra h.rl h.rc,.slice h.ca h.cl h.cc]:=z;have e:=I.lg w.lg.frz2;refine⟨_,⟨rfl,z.rd⟩,?_⟩;refine⟨Eh.any,(zE h b e F).mono ?_⟩;rintro _ U'⟨⟨g,rfl⟩,E⟩-;obtain rfl:=E.symm
 repeat refine⟨rfl,?_⟩
 conv=>whnf
 apply Q7<;>intro K
 .refine⟨_,⟨rfl,z.rd⟩,?_⟩;refine⟨Ei.any,(zj h b e G).go λ _=>?_⟩
  repeat refine⟨rfl,?_⟩
  conv=>whnf
  exact⟨⟨_,rfl,λ h=>by simpa using h⟩,w.lg⟩
 .repeat refine⟨rfl,?_⟩
  conv=>whnf
  exact⟨⟨_,rfl,λ h=>by cases h⟩,w.lg⟩
end Go.Proofs
namespace Go.TM
variable{T:Type}{U U':Qa T}
structure Ap where
 nm:ByteArray
 ps:List (Int×Int)
 cs:List (Int×Int×List Int)
 ds:List (Nat->Int)
def Hn(U:Qa T)(c:Int×Int×List Int)(vs:List Value):Prop:=∃e b h,vs=[.int .i64 c.1,.int .i64 c.2.1,.slice e b h]/\Z0 U e b c.2.2/\b<2^60
def Oq(d:Nat->Int)(vs:List Value):Prop:=vs=[.int .i64 (d 0),.int .i64 (d 1),.int .i64 (d 2),.int .i64 (d 3),.int .i64 (d 4),.int .i64 (d 5)]
def Pd(U:Qa T)(x:Ap)(vs:List Value):Prop:=∃h pl pc ca cl cc e b w,vs=[.string x.nm,.slice h pl pc,.slice ca cl cc,.slice e b w] /\
 (Qy U h pl 2 x.ps (λ s vs=>vs=[.int .i64 s.1,.int .i64 s.2])/\pl<2^60)/\(Qy U ca cl 3 x.cs (Hn U)/\cl<2^60)/\Qy U e b 6 x.ds Oq/\b<2^60
def Hn.lg{c:Int×Int×List Int}{vs:List Value}(h:Hn U c vs)(k:U.lg U'):Hn U' c vs:=let ⟨ia,il,ic,e,h1,h2⟩:=h;⟨ia,il,ic,e,h1.lg k,h2⟩
def Pd.lg{x:Ap}{vs:List Value}(h:Pd U x vs)(k:U.lg U'):Pd U' x vs:=
 let ⟨pa,pl,pc,ca,cl,cc,da,dl,dc,e,⟨h1,h2⟩,⟨h3,h4⟩,h5,h6⟩:=h
 ⟨pa,pl,pc,ca,cl,cc,da,dl,dc,e,⟨h1.lg k λ _ _ h=>h,h2⟩,⟨h3.lg k λ _ _ h=>h.lg k,h4⟩,h5.lg k λ _ _ h=>h,h6⟩
def Z6.subA{a:Addr}{vs:List Value}(h:Z6 U a vs){o n:Nat}:Z6 U (a.add o) ((vs.drop o).take n):=by
 intro i v b;rw[getElem?_take]at b;split at b
 .rw[getElem?_drop]at b;have:=h (o+i) v b;rw[show(a.add o).add i=a.add (o+i) by unfold Addr.add;by_cases e:o=0 <;> by_cases w:i=0 <;> simp[e,w,Nat.add_assoc]];exact this
 .cases b
structure FH where
 c:CH
 n:Nat->Int
 aa:Option Addr
 al:Nat
 ac:Nat
abbrev FH.l(h:FH):List Value:=[.slice h.c.wa h.c.wl h.c.wc,.slice h.c.sa h.c.sl h.c.sc,.int .i64 (h.n 2),.int .i64 (h.n 3),.int .i64 (h.n 4),.int .i64 (h.n 5),.int .i64 (h.n 6),.int .i64 (h.n 7),.int .i64 (h.n 8),.int .i64 (h.n 9),.int .i64 (h.n 10),.int .i64 (h.n 11),.int .i64 (h.n 12),.int .i64 (h.n 13),.slice h.aa h.al h.ac]
abbrev FH.v(h:FH):Value:=.agg #[.slice h.c.wa h.c.wl h.c.wc,.slice h.c.sa h.c.sl h.c.sc,.int .i64 (h.n 2),.int .i64 (h.n 3),.int .i64 (h.n 4),.int .i64 (h.n 5),.int .i64 (h.n 6),.int .i64 (h.n 7),.int .i64 (h.n 8),.int .i64 (h.n 9),.int .i64 (h.n 10),.int .i64 (h.n 11),.int .i64 (h.n 12),.int .i64 (h.n 13),.slice h.aa h.al h.ac]
structure HW(U:Qa T)(h:FH)(c:QV)(aps:List Ap):Prop where
 cal:X4 U h.c c
 ap:Qy U h.aa h.al 4 aps (Pd U)
 al:h.al<2^60
 nm:∀x∈aps,x.nm.size<2^60
def HW.lg{h:FH}{c:QV}{l:List Ap}(k:HW U h c l)(b:U.lg U'):HW U' h c l:=⟨k.cal.lg b,k.ap.lg b λ _ _ h=>h.lg b,k.al,k.nm⟩
end Go.TM
namespace Go.Proofs
open Go.TM
variable{T:Type}{S:TM.Sys Tryz.prog T}{U:Qa T}
attribute [local irreducible] Qb Zh Wh
def FP(U:Qa T)(n u:Int):Qb S 56 #[.agg #[.int .i64 n,.int .i64 u]] (λ v U'=>(∃n,v=.int .i64 n)/\U'=U) U:=by
 refine Qb.pure' (Qb.of (args:=[_]) Sg Qe S1 ?_)
 repeat refine⟨rfl,?_⟩
 conv=>whnf
 intro B h b e;have e:Zf h B #[.int .i64 n,.int .i64 u]:=e;refine⟨_,e.sees3 (o:=0) rfl,W0.any,(J6 h n 0 999).go λ _=>?_⟩;cases z:Ws n 0 999 with
 |false=>
  repeat refine⟨rfl,?_⟩
  conv=>whnf
  exact⟨⟨_,rfl⟩,b.lg⟩
 |true=>
  refine⟨_,e.sees3 (o:=1) rfl,?_⟩
  repeat refine⟨rfl,?_⟩
  conv=>whnf
  apply Q7<;>intro w
  .refine⟨_,e.sees3 (o:=1) rfl,?_⟩
   repeat refine⟨rfl,?_⟩
   conv=>whnf
   apply Qd<;>intro w
   .repeat refine⟨rfl,?_⟩
    conv=>whnf
    exact⟨⟨_,rfl⟩,b.lg⟩
   .repeat refine⟨rfl,?_⟩
    conv=>whnf
    exact⟨⟨_,rfl⟩,b.lg⟩
  .repeat refine⟨rfl,?_⟩
   conv=>whnf
   exact⟨⟨_,rfl⟩,b.lg⟩
def O_(U:Qa T)(n:Int):Qb S 111 #[.int .i64 n] (λ v U'=>(∃b,v=.bool b)/\U'=U) U:=by
 refine Qb.of (args:=[_]) KT Qe S1 ?_
 repeat refine⟨rfl,?_⟩
 conv=>whnf
 apply Q7<;>intro e
 .refine⟨GC.any,(Pz U n).go λ _=>?_⟩
  repeat refine⟨rfl,?_⟩
  conv=>whnf
  exact⟨⟨_,rfl⟩,rfl⟩
 .repeat refine⟨rfl,?_⟩
  conv=>whnf
  exact⟨⟨_,rfl⟩,rfl⟩
def zi(a:Option Addr)(len cap:Nat)(l:List (Int×Int))(F:Qy U a len 2 l λ s vs=>vs=[.int .i64 s.1,.int .i64 s.2])(B:len<2^60):Qb S 80 #[.slice a len cap] (λ v U'=>(∃n,v=.int .i64 n)/\U'=U) U:=by
 refine Qb.of (args:=[_]) EC Qe S1 ?_
 repeat refine⟨rfl,?_⟩
 conv=>whnf
 apply Qd<;>intro z
 .repeat refine⟨rfl,?_⟩
  conv=>whnf
  exact⟨⟨_,rfl⟩,rfl⟩
 refine⟨Nat,λ i=>[(0,.slice a len cap),(3,.int .i64 i)],λ i U'=>U'=U/\i<=len,λ i=>len-i,0,T1,⟨rfl,O1⟩,?_⟩;rintro i f H⟨E,I⟩;obtain rfl:=E.symm;have h:Ze ((i:Int)+1):=I1
 repeat refine⟨rfl,?_⟩
 conv=>whnf
 apply Qd<;>intro z
 .have hlt:i<len:=by simpa using z
  obtain⟨w,x,vs,K,b,G,rfl,-,e⟩:=F.at hlt;refine⟨w,i,⟨b,rfl,hlt⟩,_,e.cell (i:=0) rfl,W0.any,(J6 U x.1 0 3).go λ _=>?_⟩;cases Ws x.1 0 3 with
  |false=>
   repeat refine⟨rfl,?_⟩
   conv=>whnf
   exact⟨⟨_,rfl⟩,rfl⟩
  |true=>
   refine⟨w,i,⟨b,rfl,hlt⟩,_,e.cell (i:=1) rfl,GC.any,(Pz U x.2).go λ _=>?_⟩;cases JH x.2 with
   |false=>
    repeat refine⟨rfl,?_⟩
    conv=>whnf
    exact⟨⟨_,rfl⟩,rfl⟩
   |true=>
    refine⟨h,?_⟩
    conv=>whnf
    exact⟨rfl,i+1,T1,⟨rfl,O1⟩,L1⟩
 .repeat refine⟨rfl,?_⟩
  conv=>whnf
  exact⟨⟨_,rfl⟩,rfl⟩
def Rk(a:Option Addr)(len cap:Nat)(l:List (Nat->Int))(L:Qy U a len 6 l Oq)(F:len<2^60):Qb S 82 #[.slice a len cap] (λ v U'=>(∃n,v=.int .i64 n)/\U'=U) U:=by
 refine Qb.of (args:=[_]) EE Qe S1 ?_
 repeat refine⟨rfl,?_⟩
 conv=>whnf
 apply Qd<;>intro z
 .repeat refine⟨rfl,?_⟩
  conv=>whnf
  exact⟨⟨_,rfl⟩,rfl⟩
 refine⟨Nat,λ i=>[(0,.slice a len cap),(3,.int .i64 i)],λ i U'=>U'=U/\i<=len,λ i=>len-i,0,T1,⟨rfl,O1⟩,?_⟩;rintro i f N⟨K,P⟩;obtain rfl:=K.symm;have E:Ze ((i:Int)+1):=I1
 repeat refine⟨rfl,?_⟩
 conv=>whnf
 apply Qd<;>intro z
 .have hlt:i<len:=by simpa using z
  obtain⟨w,x,vs,Q,e,M,B,-,h⟩:=L.at hlt;obtain rfl:vs=[.int .i64 (x 0),.int .i64 (x 1),.int .i64 (x 2),.int .i64 (x 3),.int .i64 (x 4),.int .i64 (x 5)]:=B;refine⟨w,i,⟨e,rfl,hlt⟩,_,h.cell (i:=0) rfl,GC.any,(Pz U (x 0)).go λ _=>?_⟩;cases JH (x 0)with
  |false=>
   repeat refine⟨rfl,?_⟩
   conv=>whnf
   exact⟨⟨_,rfl⟩,rfl⟩
  |true=>
   refine⟨w,i,⟨e,rfl,hlt⟩,_,⟨rfl,h.subA (o:=1) (n:=2)⟩,Sg.any,(FP U (x 1) (x 2)).mono ?_⟩;rintro _ U'⟨⟨n,rfl⟩,b⟩-;obtain rfl:=b.symm
   repeat refine⟨rfl,?_⟩
   conv=>whnf
   apply Qd<;>intro z
   .repeat refine⟨rfl,?_⟩
    conv=>whnf
    exact⟨⟨_,rfl⟩,rfl⟩
   refine⟨w,i,⟨e,rfl,hlt⟩,_,h.cell (i:=3) rfl,KT.any,(O_ U (x 3)).mono ?_⟩;rintro _ U'⟨⟨G,rfl⟩,b⟩-;obtain rfl:=b.symm;cases G with
   |false=>
    repeat refine⟨rfl,?_⟩
    conv=>whnf
    exact⟨⟨_,rfl⟩,rfl⟩
   |true=>
    refine⟨w,i,⟨e,rfl,hlt⟩,_,h.cell (i:=4) rfl,KT.any,(O_ U (x 4)).mono ?_⟩;rintro _ U'⟨⟨H,rfl⟩,b⟩-;obtain rfl:=b.symm;cases H with
    |false=>
     repeat refine⟨rfl,?_⟩
     conv=>whnf
     exact⟨⟨_,rfl⟩,rfl⟩
    |true=>
     refine⟨w,i,⟨e,rfl,hlt⟩,_,h.cell (i:=5) rfl,KT.any,(O_ U (x 5)).mono ?_⟩;rintro _ U'⟨⟨I,rfl⟩,b⟩-;obtain rfl:=b.symm;cases I with
     |false=>
      repeat refine⟨rfl,?_⟩
      conv=>whnf
      exact⟨⟨_,rfl⟩,rfl⟩
     |true=>
      refine⟨E,?_⟩
      conv=>whnf
      exact⟨rfl,i+1,T1,⟨rfl,O1⟩,L1⟩
 .repeat refine⟨rfl,?_⟩
  conv=>whnf
  exact⟨⟨_,rfl⟩,rfl⟩
def zd(h:FH)(ak:Ze (h.n 13-1))(a:Option Addr)(len cap:Nat)(l:List (Int×Int×List Int))(hl:Qy U a len 3 l (Hn U))(ao:len<2^60):Qb S 81 #[h.v,.slice a len cap] (λ v U'=>(∃n,v=.int .i64 n)/\U'=U) U:=by
 refine Qb.pure' (Qb.of (args:=[_,_]) ED Qe S1 ?_)
 repeat refine⟨rfl,?_⟩
 conv=>whnf
 intro B U1 I hB;have hB:Zf U1 B h.l.toArray:=hB;have ac:Qy U1 a len 3 l (Hn U1):=hl.lg I.lg λ _ _ h=>h.lg I.lg
 repeat refine⟨rfl,?_⟩
 conv=>whnf
 apply Qd<;>intro L
 .repeat refine⟨rfl,?_⟩
  conv=>whnf
  exact⟨⟨_,rfl⟩,I.lg⟩
 refine⟨Nat,λ i=>[(1,.slice a len cap),(2,.pointer (some ⟨B,0,none⟩)),(5,.int .i64 i)],λ i U'=>U1.le U'/\i<=len,λ i=>len-i,0,T1,⟨.refl _,O1⟩,?_⟩;rintro i f W⟨G,hi⟩;have aj:Ze ((i:Int)+1):=I1
 have ae:Qy W a len 3 l (Hn W):=ac.lg G.lg λ _ _ h=>h.lg G.lg;have e:∀{w:Qa T},W.le w->U.lg w:=λ k=>(I.trans (G.trans k)).lg
 repeat refine⟨rfl,?_⟩
 conv=>whnf
 apply Qd<;>intro L
 .have hlt:i<len:=by simpa using L
  obtain⟨X,x,vs,hx,F,av,ah,-,V⟩:=ae.at hlt;obtain⟨ia,il,ic,rfl,ai,au⟩:=ah;refine⟨X,i,⟨F,rfl,hlt⟩,_,V.cell (i:=0) rfl,GC.any,(Pz W x.1).go λ _=>?_⟩;cases JH x.1 with
  |false=>
   repeat refine⟨rfl,?_⟩
   conv=>whnf
   exact⟨⟨_,rfl⟩,e (.refl _)⟩
  |true=>
   refine⟨X,i,⟨F,rfl,hlt⟩,_,V.cell (i:=1) rfl,GC.any,(Pz W x.2.1).go λ _=>?_⟩;cases JH x.2.1 with
   |false=>
    repeat refine⟨rfl,?_⟩
    conv=>whnf
    exact⟨⟨_,rfl⟩,e (.refl _)⟩
   |true=>
    refine⟨Nat,λ k=>[(1,.slice a len cap),(2,.pointer (some ⟨B,0,none⟩)),(5,.int .i64 i),(6,.int .i64 k)],λ k U'=>W.le U'/\k<=il,λ k=>il-k,0,T1,⟨.refl _,O1⟩,?_⟩;rintro k f U3⟨b,hk⟩;have P:Ze ((k:Int)+1):=I1
    have H:=V.lg b.lg;have N:=ai.lg b.lg;have Z:=(hB.le G).le b;refine⟨X,i,⟨F,rfl,hlt⟩,_,H.cell (i:=2) rfl,?_⟩
    repeat refine⟨rfl,?_⟩
    conv=>whnf
    apply Qd<;>intro L
    .have hltk:k<il:=by simpa using L
     obtain⟨Y,y,hy,M,ap,af⟩:=N.at hltk;refine⟨X,i,⟨F,rfl,hlt⟩,_,H.cell (i:=2) rfl,Y,k,⟨M,rfl,hltk⟩,_,af,_,Z.sees3 (o:=13) rfl,ak,?_⟩
     conv=>whnf
     intro U4 E _;refine⟨W0.any,(J6 U4 y 0 (h.n 13-1)).go λ _=>?_⟩;cases Ws y 0 (h.n 13-1)with
     |false=>
      repeat refine⟨rfl,?_⟩
      conv=>whnf
      exact⟨⟨_,rfl⟩,e (b.trans E)⟩
     |true=>
      have Q:=H.lg E.lg;have an:=af.lg E.lg;have ab:=N.lg E.lg
      repeat refine⟨rfl,?_⟩
      conv=>whnf
      apply Q7<;>intro L
      .have h0:0<k:=by simpa using L
       obtain⟨j,rfl⟩:∃j,k=j+1:=⟨k-1,O1⟩;obtain⟨ag,z,hz,aa,aq,am⟩:=ab.at (show j<il by omega);have al:((j+1:Nat):Int)-1=(j:Int):=O1
       refine⟨X,i,⟨F,rfl,hlt⟩,_,Q.cell (i:=2) rfl,Y,j+1,⟨M,rfl,hltk⟩,_,an,X,i,⟨F,rfl,hlt⟩,_,Q.cell (i:=2) rfl,I1,?_⟩;rw[al];refine⟨ag,j,⟨aa,rfl,O1⟩,_,am,?_⟩
       conv=>whnf
       intro U5 K _
       repeat refine⟨rfl,?_⟩
       conv=>whnf
       apply Qd<;>intro L
       .repeat refine⟨rfl,?_⟩
        conv=>whnf
        exact⟨⟨_,rfl⟩,e (b.trans (E.trans K))⟩
       .refine⟨P,?_⟩
        conv=>whnf
        exact⟨rfl,j+1+1,T1,⟨b.trans (E.trans K),O1⟩,L1⟩
      .have h0:k=0:=by simp at L;omega
       subst h0
       conv=>whnf
       intro U5 K _;refine⟨P,?_⟩
       conv=>whnf
       exact⟨rfl,0+1,T1,⟨b.trans (E.trans K),O1⟩,L1⟩
    .refine⟨aj,?_⟩
     conv=>whnf
     exact⟨rfl,i+1,T1,⟨G.trans b,O1⟩,L1⟩
 .repeat refine⟨rfl,?_⟩
  conv=>whnf
  exact⟨⟨_,rfl⟩,e (.refl _)⟩
def Rx(h:FH)(ai:Ze (h.n 13-1))(c:QV)(l:List Ap)(hx:HW U.frz h c l)(i:Nat)(hi:i<h.al):Qb S 57 #[h.v,.int .i64 i] (λ v U'=>(∃n,v=.int .i64 n)/\U'=U) U:=by
 refine Qb.pure' (Qb.of (args:=[_,_]) Em Qe S1 ?_);have aq:=hx.al
 repeat refine⟨rfl,?_⟩
 conv=>whnf
 intro B U1 M X;have X:Zf U1 B h.l.toArray:=X;have H:=hx.lg M.lg.frz2;obtain⟨ad,x,vs,an,af,au,ac,-,am⟩:=H.ap.at hi;obtain⟨pa,pl,pc,ca,cl,cc,da,dl,dc,rfl,⟨hp,ak⟩,⟨ab,P⟩,hd,ae⟩:=ac;have aj:=hx.nm x (mem_of_getElem? an);refine⟨_,X.sees3 (o:=14) rfl,ad,i,⟨af,rfl,hi⟩,_,⟨rfl,am.lg Qm⟩,?_⟩
 conv=>whnf
 intro b5 ag;refine⟨_,.refl _,rfl,Zu (vs:=[.string x.nm,.slice pa pl pc,.slice ca cl cc,.slice da dl dc]) ag rfl (by simp[Value.single]) λ Z I F=>?_⟩;have F:Zf Z b5 #[.string x.nm,.slice pa pl pc,.slice ca cl cc,.slice da dl dc]:=F;have K:=M.trans I;have L:=X.le I;have V:U1.frz.lg Z:=I.lg.frz;refine⟨_,F.sees3 (o:=0) rfl,Y6.any,(T0 x.nm aj).go λ _=>?_⟩;cases Qu x.nm with
 |false=>
  repeat refine⟨rfl,?_⟩
  conv=>whnf
  exact⟨⟨_,rfl⟩,K.lg⟩
 |true=>
  refine⟨Nat,λ k=>[(1,.int .i64 i),(2,.pointer (some ⟨B,0,none⟩)),(5,.pointer (some ⟨b5,0,none⟩)),(6,.int .i64 k)],λ k U'=>Z.le U'/\k<=i,λ k=>i-k,0,T1,⟨.refl _,O1⟩,?_⟩;rintro k f U3⟨z,hk⟩;have ah:Ze ((k:Int)+1):=I1
  have b:=V.trans z.lg;have E:=K.trans z;have G:=L.le z;have e:=F.le z
  repeat refine⟨rfl,?_⟩
  conv=>whnf
  apply Qd<;>intro Y
  .have hlt:k<i:=by simpa using Y
   obtain⟨aa,y,aw,av,T,ao,Q,-,W⟩:=H.ap.at (show k<h.al by omega);obtain⟨_,_,_,_,_,_,_,_,_,rfl,-,-,-,-⟩:=Q;refine⟨_,G.sees3 (o:=14) rfl,aa,k,⟨T,rfl,O1⟩,_,(W.lg b).cell (i:=0) rfl,_,e.sees3 (o:=0) rfl,?_⟩
   conv=>whnf
   intro U4 N _
   repeat refine⟨rfl,?_⟩
   conv=>whnf
   apply Qd<;>intro Y
   .repeat refine⟨rfl,?_⟩
    conv=>whnf
    exact⟨⟨_,rfl⟩,(E.trans N).lg⟩
   .refine⟨ah,?_⟩
    conv=>whnf
    exact⟨rfl,k+1,T1,⟨z.trans N,O1⟩,L1⟩
  refine⟨_,e.sees3 (o:=1) rfl,EC.any,(zi pa pl pc x.ps (hp.lg b λ _ _ h=>h) ak).mono ?_⟩;rintro _ U'⟨⟨n1,rfl⟩,w⟩-;obtain rfl:=w.symm
  repeat refine⟨rfl,?_⟩
  conv=>whnf
  apply Qd<;>intro Y
  .repeat refine⟨rfl,?_⟩
   conv=>whnf
   exact⟨⟨_,rfl⟩,E.lg⟩
  refine⟨_,⟨rfl,G.reads (vs:=h.l) (λ k v hv=>by simpa using hv)⟩,?_⟩;refine⟨_,e.sees3 (o:=2) rfl,ED.any,(zd h ai ca cl cc x.cs (ab.lg b λ _ _ h=>h.lg b) P).mono ?_⟩;rintro _ U'⟨⟨n2,rfl⟩,w⟩-;obtain rfl:=w.symm
  repeat refine⟨rfl,?_⟩
  conv=>whnf
  apply Qd<;>intro Y
  .repeat refine⟨rfl,?_⟩
   conv=>whnf
   exact⟨⟨_,rfl⟩,E.lg⟩
  refine⟨_,e.sees3 (o:=3) rfl,EE.any,(Rk da dl dc x.ds (hd.lg b λ _ _ h=>h) ae).mono ?_⟩;rintro _ U'⟨⟨n3,rfl⟩,w⟩-;obtain rfl:=w.symm
  repeat refine⟨rfl,?_⟩
  conv=>whnf
  exact⟨⟨_,rfl⟩,E.lg⟩
def zU(h:FH)(c:QV)(l:List Ap)(hx:HW U.frz h c l):Qb S 19 #[h.v] (λ v U'=>(∃n,v=.int .i64 n/\(n=0->c.flaw=0))/\U'=U) U:=by
 refine Qb.pure' (Qb.of (args:=[_]) DW Qe S1 ?_);have ab:=hx.al
 repeat refine⟨rfl,?_⟩
 conv=>whnf
 intro B V z M;have M:Zf V B h.l.toArray:=M;have I:=hx.lg z.lg.frz2;refine⟨_,⟨rfl,(M.reads (vs:=h.l) (λ k v hv=>by simpa using hv)).sub (o:=0) (n:=2)⟩,?_⟩;refine⟨El.any,(CM h.c c (I.cal.lg Qm)).go λ _=>?_⟩
 repeat refine⟨rfl,?_⟩
 conv=>whnf
 apply Qd<;>intro E
 .have H:c.flaw≠0:=by simpa using E
  repeat refine⟨rfl,?_⟩
  conv=>whnf
  exact⟨⟨_,rfl,λ e=>absurd e H⟩,z.lg⟩
 have H:c.flaw=0:=by simpa using E
 refine⟨_,M.sees3 (o:=2) rfl,W0.any,(J6 V (h.n 2) 1 4).go λ _=>?_⟩;cases Ws (h.n 2) 1 4 with
 |false=>
  repeat refine⟨rfl,?_⟩
  conv=>whnf
  exact⟨⟨_,rfl,λ _=>H⟩,z.lg⟩
 |true=>
  have Q:Z6 V ⟨B,0,none⟩ h.l:=M.rd;refine⟨_,⟨rfl,Q.sub (o:=3) (n:=2)⟩,_,⟨rfl,Q.sub (o:=5) (n:=2)⟩,_,⟨rfl,Q.sub (o:=7) (n:=2)⟩,_,⟨rfl,Q.sub (o:=9) (n:=2)⟩,_,⟨rfl,Q.sub (o:=11) (n:=2)⟩,?_⟩
  conv=>whnf
  intro P W;refine Zl W λ N L hq=>?_;have hT:Qy N (some ⟨P,0,none⟩) 5 2 [(h.n 3,h.n 4),(h.n 5,h.n 6),(h.n 7,h.n 8),(h.n 9,h.n 10),(h.n 11,h.n 12)] (λ x vs=>vs=encII x):=S5 (l:=[(h.n 3,h.n 4),(h.n 5,h.n 6),(h.n 7,h.n 8),(h.n 9,h.n 10),(h.n 11,h.n 12)]) hq;have w:=z.trans L;have b:=M.le L;have T:=I.lg L.lg.frz2;refine⟨Nat,λ i=>[(1,.pointer (some ⟨B,0,none⟩)),(4,.slice (some ⟨P,0,none⟩) 5 5),(5,.int .i64 i)],λ i U'=>U'=N/\i<=5,λ i=>5-i,0,T1,⟨rfl,O1⟩,?_⟩;rintro i f U3⟨X,hi⟩;obtain rfl:=X.symm;have F:Ze ((i:Int)+1):=I1
  repeat refine⟨rfl,?_⟩
  conv=>whnf
  apply Qd<;>intro E
  .have hlt:i<5:=by
    have:(i:Int)<5:=by simpa using E
    omega
   obtain⟨ad,x,vs,ae,Y,ac,aa,-,Z⟩:=hT.at hlt;obtain rfl:vs=[.int .i64 x.1,.int .i64 x.2]:=aa;refine⟨ad,i,⟨Y,rfl,hlt⟩,_,⟨rfl,Z⟩,Sg.any,(FP N x.1 x.2).mono ?_⟩;rintro _ U'⟨⟨n,rfl⟩,K⟩-;obtain rfl:=K.symm
   repeat refine⟨rfl,?_⟩
   conv=>whnf
   apply Qd<;>intro E
   .repeat refine⟨rfl,?_⟩
    conv=>whnf
    exact⟨⟨_,rfl,λ _=>H⟩,w.lg⟩
   .refine⟨F,?_⟩
    conv=>whnf
    exact⟨rfl,i+1,T1,⟨rfl,O1⟩,L1⟩
  clear F;refine⟨_,b.sees3 (o:=13) rfl,W0.any,(J6 N (h.n 13) 0 5).go λ _=>?_⟩;cases G:Ws (h.n 13) 0 5 with
  |false=>
   repeat refine⟨rfl,?_⟩
   conv=>whnf
   exact⟨⟨_,rfl,λ _=>H⟩,w.lg⟩
  |true=>
   refine⟨_,b.sees3 (o:=14) rfl,?_⟩
   repeat refine⟨rfl,?_⟩
   conv=>whnf
   apply Qd<;>intro E
   .repeat refine⟨rfl,?_⟩
    conv=>whnf
    exact⟨⟨_,rfl,λ _=>H⟩,w.lg⟩
   refine⟨Nat,λ i=>[(1,.pointer (some ⟨B,0,none⟩)),(7,.int .i64 i)],λ i U'=>U'=N/\i<=h.al,λ i=>h.al-i,0,T1,⟨rfl,O1⟩,?_⟩;rintro k f U3⟨X,hk⟩;obtain rfl:=X.symm;have F:Ze ((k:Int)+1):=I1
   refine⟨_,b.sees3 (o:=14) rfl,?_⟩
   repeat refine⟨rfl,?_⟩
   conv=>whnf
   apply Qd<;>intro E
   .have hlt:k<h.al:=by simpa using E
    refine⟨_,⟨rfl,b.reads (vs:=h.l) (λ k v hv=>by simpa using hv)⟩,?_⟩;refine⟨Em.any,(Rx h (by unfold Ws at G;simp at G;unfold Ze;omega) c l T k hlt).mono ?_⟩;rintro _ U'⟨⟨n,rfl⟩,K⟩-;obtain rfl:=K.symm
    repeat refine⟨rfl,?_⟩
    conv=>whnf
    apply Qd<;>intro E
    .repeat refine⟨rfl,?_⟩
     conv=>whnf
     exact⟨⟨_,rfl,λ _=>H⟩,w.lg⟩
    .refine⟨F,?_⟩
     conv=>whnf
     exact⟨rfl,k+1,T1,⟨rfl,O1⟩,L1⟩
   .repeat refine⟨rfl,?_⟩
    conv=>whnf
    exact⟨⟨_,rfl,λ _=>H⟩,w.lg⟩
def RC(h:CH)(c:QV)(z:X4 U.frz h c):Qb S 53 #[h.v] (λ v U'=>(∃g,v=.bool g)/\U'=U) U:=by
 refine Qb.pure' (Qb.of (args:=[_]) Ek Qe S1 ?_)
 repeat refine⟨rfl,?_⟩
 conv=>whnf
 intro B w b e;have e:Zf w B #[.slice h.wa h.wl h.wc,.slice h.sa h.sl h.sc]:=e;refine⟨_,e.sees3 (o:=0) rfl,?_⟩
 repeat refine⟨rfl,?_⟩
 conv=>whnf
 apply Q7<;>intro E
 .refine⟨_,e.sees3 (o:=1) rfl,?_⟩
  repeat refine⟨rfl,?_⟩
  conv=>whnf
  exact⟨⟨_,rfl⟩,b.lg⟩
 .repeat refine⟨rfl,?_⟩
  conv=>whnf
  exact⟨⟨_,rfl⟩,b.lg⟩
def Ad(h:FH)(c:QV)(l:List Ap)(hx:HW U.frz h c l):Qb S 18 #[h.v] (λ v U'=>(∃g,v=.bool g)/\U'=U) U:=by
 refine Qb.pure' (Qb.of (args:=[_]) DV Qe S1 ?_);have ai:=hx.al
 repeat refine⟨rfl,?_⟩
 conv=>whnf
 intro B W E L;have L:Zf W B h.l.toArray:=L;have I:=hx.lg E.lg.frz2;have hr:Z6 W ⟨B,0,none⟩ h.l:=L.rd;refine⟨_,⟨rfl,hr.subA (o:=0) (n:=2)⟩,Ek.any,(RC h.c c I.cal).mono ?_⟩;rintro _ U'⟨⟨g,rfl⟩,Y⟩-;obtain rfl:=Y.symm;cases g with
 |true=>
  repeat refine⟨rfl,?_⟩
  conv=>whnf
  exact⟨⟨_,rfl⟩,E.lg⟩
 |false=>
  refine⟨_,L.sees3 (o:=14) rfl,?_⟩
  repeat refine⟨rfl,?_⟩
  conv=>whnf
  apply Qd<;>intro G
  .repeat refine⟨rfl,?_⟩
   conv=>whnf
   exact⟨⟨_,rfl⟩,E.lg⟩
  refine⟨Nat,λ i=>[(1,.pointer (some ⟨B,0,none⟩)),(3,.int .i64 i)],λ i U'=>W.le U'/\i<=h.al,λ i=>h.al-i,0,T1,⟨.refl _,O1⟩,?_⟩;rintro i f U2⟨F,hi⟩;have ae:Ze ((i:Int)+1):=I1
  have H:=L.le F;have V:=I.lg F.lg.frz2;have b:∀{w:Qa T},U2.le w->U.lg w:=λ k=>(E.trans (F.trans k)).lg;refine⟨_,H.sees3 (o:=14) rfl,?_⟩
  repeat refine⟨rfl,?_⟩
  conv=>whnf
  apply Qd<;>intro G
  .have hlt:i<h.al:=by simpa using G
   obtain⟨ad,x,vs,an,ab,am,aa,-,af⟩:=V.ap.at hlt;obtain⟨pa,pl,pc,ca,cl,cc,da,dl,dc,rfl,⟨hp,ak⟩,⟨Z,ag⟩,hd,aj⟩:=aa;refine⟨_,H.sees3 (o:=14) rfl,ad,i,⟨ab,rfl,hlt⟩,_,⟨rfl,af.lg Qm⟩,?_⟩
   conv=>whnf
   intro b4 ac;refine⟨_,.refl _,rfl,Zu (vs:=[.string x.nm,.slice pa pl pc,.slice ca cl cc,.slice da dl dc]) ac rfl (by simp[Value.single]) λ U3 z e=>?_⟩;have e:Zf U3 b4 #[.string x.nm,.slice pa pl pc,.slice ca cl cc,.slice da dl dc]:=e;have K:=Z.lg z.lg.frz λ _ _ h=>h;refine⟨_,e.sees3 (o:=0) rfl,?_⟩
   repeat refine⟨rfl,?_⟩
   conv=>whnf
   apply Q7<;>intro G
   rotate_left
   .repeat refine⟨rfl,?_⟩
    conv=>whnf
    exact⟨⟨_,rfl⟩,b z⟩
   refine⟨_,e.sees3 (o:=1) rfl,?_⟩
   repeat refine⟨rfl,?_⟩
   conv=>whnf
   apply Q7<;>intro G
   rotate_left
   .repeat refine⟨rfl,?_⟩
    conv=>whnf
    exact⟨⟨_,rfl⟩,b z⟩
   refine⟨_,e.sees3 (o:=2) rfl,?_⟩
   repeat refine⟨rfl,?_⟩
   conv=>whnf
   apply Q7<;>intro G
   rotate_left
   .repeat refine⟨rfl,?_⟩
    conv=>whnf
    exact⟨⟨_,rfl⟩,b z⟩
   refine⟨_,e.sees3 (o:=3) rfl,?_⟩
   repeat refine⟨rfl,?_⟩
   conv=>whnf
   apply Qd<;>intro G
   .repeat refine⟨rfl,?_⟩
    conv=>whnf
    exact⟨⟨_,rfl⟩,b z⟩
   refine⟨Nat,λ k=>[(1,.pointer (some ⟨B,0,none⟩)),(3,.int .i64 i),(4,.pointer (some ⟨b4,0,none⟩)),(5,.int .i64 k)],λ k U'=>U'=U3/\k<=cl,λ k=>cl-k,0,T1,⟨rfl,O1⟩,?_⟩;rintro k f U4⟨hU,hk⟩;obtain rfl:=hU.symm;have P:Ze ((k:Int)+1):=I1
   refine⟨_,e.sees3 (o:=2) rfl,?_⟩
   repeat refine⟨rfl,?_⟩
   conv=>whnf
   apply Qd<;>intro G
   .have hltk:k<cl:=by simpa using G
    obtain⟨X,y,aq,ao,N,ah,M,-,Q⟩:=K.at hltk;obtain⟨ia,il,ic,rfl,-,-⟩:=M;refine⟨_,e.sees3 (o:=2) rfl,X,k,⟨N,rfl,hltk⟩,_,Q.cell (i:=2) rfl,?_⟩
    repeat refine⟨rfl,?_⟩
    conv=>whnf
    apply Qd<;>intro G
    .repeat refine⟨rfl,?_⟩
     conv=>whnf
     exact⟨⟨_,rfl⟩,b z⟩
    .refine⟨P,?_⟩
     conv=>whnf
     exact⟨rfl,k+1,T1,⟨rfl,O1⟩,L1⟩
   .refine⟨ae,?_⟩
    conv=>whnf
    exact⟨rfl,i+1,T1,⟨F.trans z,O1⟩,L1⟩
  .repeat refine⟨rfl,?_⟩
   conv=>whnf
   exact⟨⟨_,rfl⟩,b (.refl _)⟩
def Zqr(h:FH)(c:QV)(l:List Ap)(I:HW U.frz h c l):Qb S 5 #[h.v] (λ v U'=>(∃g,v=.bool g/\(g=true->c.flaw=0))/\U'=U) U:=by
 refine Qb.pure' (Qb.of (args:=[_]) uB Qe S1 ?_)
 repeat refine⟨rfl,?_⟩
 conv=>whnf
 intro B E b z;have z:Zf E B h.l.toArray:=z;have e:=I.lg b.lg.frz2;have G:Z6 E ⟨B,0,none⟩ h.l:=z.rd;refine⟨_,⟨rfl,G⟩,DV.any,(Ad h c l e).mono ?_⟩;rintro _ U'⟨⟨g,rfl⟩,w⟩-;obtain rfl:=w.symm;cases g with
 |true=>
  repeat refine⟨rfl,?_⟩
  conv=>whnf
  exact⟨⟨_,rfl,λ h=>by cases h⟩,b.lg⟩
 |false=>
  refine⟨_,⟨rfl,G⟩,DW.any,(zU h c l e).mono ?_⟩;rintro _ U'⟨⟨n,rfl,H⟩,w⟩-;obtain rfl:=w.symm
  repeat refine⟨rfl,?_⟩
  conv=>whnf
  apply Q7<;>intro F
  .have hn0:n=0:=by simpa using F
   refine⟨_,z.sees3 (o:=14) rfl,?_⟩
   repeat refine⟨rfl,?_⟩
   conv=>whnf
   exact⟨⟨_,rfl,λ _=>H hn0⟩,b.lg⟩
  .have hn0:¬n=0:=by simpa using F
   repeat refine⟨rfl,?_⟩
   conv=>whnf
   exact⟨⟨_,rfl,λ h=>by simp at h⟩,b.lg⟩
def Zqh(h:CH)(c:QV)(N:X4 U.frz h c)(hL:H4 U)(hf:c.flaw=0)(u s n:Nat)(hu:u<=2)(hs:s<=36524)(hn:n<=999) :
  Qb S 7 #[h.v,.int .i64 s,.agg #[.int .i64 n,.int .i64 u]] (λ v U'=>(∃e:Nat,v=.tuple #[.int .i64 e,.int .i64 0]/\c.Ends u s n e)/\U'=U) U:=by
 obtain⟨k,d,hk,hd,rfl⟩:=kP s O1;refine Qb.pure' (Qb.of (args:=[_,_,_]) uD Qe S1 ?_)
 repeat refine⟨rfl,?_⟩
 conv=>whnf
 intro B U1 V T;have T:Zf U1 B #[.slice h.wa h.wl h.wc,.slice h.sa h.sl h.sc]:=T
 conv=>whnf
 intro b5 U2 K b;have b:Zf U2 b5 #[.int .i64 n,.int .i64 u]:=b;refine⟨_,⟨rfl,(T.le K).rd⟩,?_⟩
 conv=>whnf
 intro b8 Y;refine⟨_,.refl _,rfl,Zu (vs:=[.slice h.wa h.wl h.wc,.slice h.sa h.sl h.sc]) Y rfl (by simp[Value.single]) λ U3 L z=>?_⟩;have z:Zf U3 b8 #[.slice h.wa h.wl h.wc,.slice h.sa h.sl h.sc]:=z;have I:=V.trans (K.trans L);have b:=b.le L;have W:JH ((Wt k+d:Nat):Int)=true:=by unfold JH Ws;simp;omega
 have Z:On (n:Int) (u:Int)=0:=by
  unfold On Ws;rw[if_pos];simp;omega
 refine⟨_,⟨rfl,z.rd⟩,?_⟩;refine⟨.int .i64 0,λ U' E _=>?_,?_⟩
 .refine⟨E0.any,(qV h c ((N.lg (I.trans E).lg.frz2).lg Qm)).mono ?_⟩;rintro _ U''⟨rfl,w⟩-;obtain rfl:=w.symm;rw[hf];exact⟨rfl,_,.refl _,.refl _⟩
 refine⟨.bool true,λ U' E _=>?_,?_⟩
 .refine⟨Vc.any,(VY U' ((Wt k+d:Nat):Int)).mono ?_⟩;rintro _ U''⟨rfl,w⟩-;obtain rfl:=w.symm;rw[W];exact⟨rfl,_,.refl _,.refl _⟩
 refine⟨.int .i64 0,λ U' E _=>?_,?_⟩
 .refine⟨Vb.any,(Ki U' false 1).mono ?_⟩;rintro _ U''⟨rfl,w⟩-;obtain rfl:=w.symm;exact⟨rfl,_,.refl _,.refl _⟩
 refine⟨_,⟨rfl,b.rd⟩,?_⟩
 conv=>whnf
 intro U4 G _;refine⟨E1.any,(CN U4 n u).go λ _=>?_⟩;rw[Z]
 conv=>whnf
 intro Q P;refine Zl P λ U5 H hq=>?_;have hi:Z0 U5 (some ⟨Q,0,none⟩) 3 [0,0,0]:=XK (l:=[0,0,0]) hq;refine⟨D_.any,(zK _ 3 3 [0,0,0] hi D1).go λ _=>?_⟩;have F:=I.trans (G.trans H);have z:=z.le (G.trans H);have b:=b.le (G.trans H);have X:Gl [0,0,0]=0:=rfl;rw[X]
 repeat refine⟨rfl,?_⟩
 refine⟨_,⟨rfl,z.rd⟩,?_⟩;refine⟨_,⟨rfl,b.rd⟩,?_⟩;refine⟨.int .i64 (Xw u (Wt k+d) n k d:Nat),λ U' E _=>?_,?_⟩
 .refine⟨E3.any,(zO (hL.lg (F.trans E).lg) u (Wt k+d) n k d hu rfl hk hd hn).mono ?_⟩;rintro _ U''⟨rfl,w⟩-;obtain rfl:=w.symm;exact⟨rfl,_,.refl _,.refl _⟩
 conv=>whnf
 intro U6 M _;refine⟨E2.any,(zP h c (N.lg (F.trans M).lg.frz2) (Xw u (Wt k+d) n k d) (UT ..)).go λ _=>?_⟩
 repeat refine⟨rfl,?_⟩
 conv=>whnf
 exact⟨⟨_,rfl,k,d,hk,hd,rfl,rfl⟩,(F.trans M).lg⟩
end Go.Proofs

