/- Lemmas. No conditions. -/
import Derived.Test.YtnpfcnfhfkflhaaGreatDoorB41
import Derived.Test.YtnpfcnfhfkflhaaGreatDoorB06
import Derived.Test.YtnpfcnfhfkflhaaGreatDoorB07
set_option linter.all false
set_option maxRecDepth 100000
open List
namespace Go.TM
variable{T:Type}{P:Program}{S:Sys P T}{U U':Qa T}
def WX(U:Qa T)(a:Option Addr)(len:Nat)(l:List Bool):Prop:=l.length=len/\∀i x,l[i]?=some x->∃b,a=some b/\b.spot=none/\U.sees (b.add (i*1)) (.bool x)
def WX.lg{a:Option Addr}{len:Nat}{l:List Bool}(h:WX U a len l)(k:U.lg U'):WX U' a len l:=⟨h.1,λ i x b=>let ⟨ad,e,s,hs⟩:=h.2 i x b;⟨ad,e,s,hs.lg k⟩⟩
theorem WX.at{a:Option Addr}{len:Nat}{l:List Bool}(h:WX U a len l){i:Nat}(z:i<len):∃b x,l[i]?=some x/\a=some b/\b.spot=none/\U.sees (b.add (i*1)) (.bool x):=by
 have f:i<l.length:=by rw[h.1];exact z
 have w:l[i]?=some l[i]:=getElem?_eq_getElem f;obtain⟨b,e,s,B⟩:=h.2 i _ w;exact⟨b,_,w,e,s,B⟩
def Kc{b:Nat}{l:List Bool}(h:Zi U b (l.map .bool).toArray):WX U (some ⟨b,0,none⟩) l.length l:=
 ⟨rfl,λ i x e=>⟨_,rfl,rfl,by rw[Nat.mul_one,Qo];exact h.sees (by rw[Nat.zero_add];simp[e])⟩⟩
end Go.TM
namespace Go.Proofs
open Go.TM
section
variable{T:Type}{S:TM.Sys Tryz.prog T}{U:Qa T}
attribute [local irreducible] Qb Zl Wt
def LL(a a':Option Addr)(len cap b z:Nat)(l l':List Int)(L:Z5 U a len l)(F:Z5 U a' b l')(M:len<2^60) :
  Qb S 28 #[.slice a len cap,.slice a' b z] (λ v U'=>v=.bool (decide (l=l'))/\U'=U) U:=by
 refine Qb.pure' (Qb.of (args:=[_,_]) S4 Qf S1 ?_);have T:=L.1;have V:=F.1
 repeat refine⟨rfl,?_⟩
 conv=>whnf
 apply Qe<;>intro B
 .have hne:len≠b:=by intro e;subst e;simp at B
  repeat refine⟨rfl,?_⟩
  refine⟨?_,(Qa.le.refl _).lg⟩;rw[decide_eq_false (λ e=>hne (by rw[<- T,<- V,e]))]
 have H:len=b:=Int.ofNat.inj (by simpa using B:(len:Int)=b);subst H;refine⟨Nat,λ i=>[(0,.slice a len cap),(1,.slice a' len z),(5,.int .i64 i)],λ i U'=>U.le U'/\i<=len/\l.take i=l'.take i,λ i=>len-i,0,T1,⟨.refl _,O1,rfl⟩,?_⟩;rintro i f X⟨h,Z,E⟩
 repeat refine⟨rfl,?_⟩
 conv=>whnf
 apply Qe<;>intro B
 .have hlt:i<len:=by simpa using B
  obtain⟨Q,x,N,rfl,-,W⟩:=(L.lg h.lg).at hlt;obtain⟨G,y,P,rfl,-,K⟩:=(F.lg h.lg).at hlt;have I:Zu (i+1):=I1
  refine⟨Q,i,⟨rfl,rfl,hlt⟩,_,W,G,i,⟨rfl,rfl,hlt⟩,_,K,?_⟩
  conv=>whnf
  intro Y w _
  repeat refine⟨rfl,?_⟩
  conv=>whnf
  apply Qe<;>intro B
  .have hne:x≠y:=by simpa using B
   repeat refine⟨rfl,?_⟩
   conv=>whnf
   exact⟨by rw[decide_eq_false (Yf N P hne)],(h.trans w).lg⟩
  .have hxy:x=y:=by simpa using B
   refine⟨I,?_⟩
   conv=>whnf
   exact⟨rfl,i+1,T1,⟨h.trans w,O1,Ya N P E hxy⟩,L1⟩
 .have hge:len<=i:=by simpa using B
  rw[take_of_length_le O1,take_of_length_le O1]at E
  repeat refine⟨rfl,?_⟩
  conv=>whnf
  exact⟨by rw[decide_eq_true E],h.lg⟩
def W0(a a':Option Addr)(len cap b z:Nat)(l l':List Bool)(L:WX U a len l)(F:WX U a' b l')(M:len<2^60) :
  Qb S 25 #[.slice a len cap,.slice a' b z] (λ v U'=>v=.bool (decide (l=l'))/\U'=U) U:=by
 refine Qb.pure' (Qb.of (args:=[_,_]) PR Qf S1 ?_);have T:=L.1;have V:=F.1
 repeat refine⟨rfl,?_⟩
 conv=>whnf
 apply Qe<;>intro B
 .have hne:len≠b:=by intro e;subst e;simp at B
  repeat refine⟨rfl,?_⟩
  refine⟨?_,(Qa.le.refl _).lg⟩;rw[decide_eq_false (λ e=>hne (by rw[<- T,<- V,e]))]
 have H:len=b:=Int.ofNat.inj (by simpa using B:(len:Int)=b);subst H;refine⟨Nat,λ i=>[(0,.slice a len cap),(1,.slice a' len z),(5,.int .i64 i)],λ i U'=>U.le U'/\i<=len/\l.take i=l'.take i,λ i=>len-i,0,T1,⟨.refl _,O1,rfl⟩,?_⟩;rintro i f X⟨h,Z,E⟩
 repeat refine⟨rfl,?_⟩
 conv=>whnf
 apply Qe<;>intro B
 .have hlt:i<len:=by simpa using B
  obtain⟨Q,x,N,rfl,-,W⟩:=(L.lg h.lg).at hlt;obtain⟨G,y,P,rfl,-,K⟩:=(F.lg h.lg).at hlt;have I:Zu (i+1):=I1
  refine⟨Q,i,⟨rfl,rfl,hlt⟩,_,W,G,i,⟨rfl,rfl,hlt⟩,_,K,?_⟩
  conv=>whnf
  intro Y w _
  repeat refine⟨rfl,?_⟩
  conv=>whnf
  apply Qe<;>intro B
  .have hne:x≠y:=by simpa using B
   repeat refine⟨rfl,?_⟩
   conv=>whnf
   exact⟨by rw[decide_eq_false (Yf N P hne)],(h.trans w).lg⟩
  .have hxy:x=y:=by simpa using B
   refine⟨I,?_⟩
   conv=>whnf
   exact⟨rfl,i+1,T1,⟨h.trans w,O1,Ya N P E hxy⟩,L1⟩
 .have hge:len<=i:=by simpa using B
  rw[take_of_length_le O1,take_of_length_le O1]at E
  repeat refine⟨rfl,?_⟩
  conv=>whnf
  exact⟨by rw[decide_eq_true E],h.lg⟩
def Lp(a a':Option Addr)(len cap b B:Nat)(l l':List (Int×Int))(N:Q5 U a len 2 l λ x vs=>vs=encII x)(G:Q5 U a' b 2 l' λ x vs=>vs=encII x)(P:len<2^60) :
  Qb S 54 #[.slice a len cap,.slice a' b B] (λ v U'=>v=.bool (decide (l=l'))/\U'=U) U:=by
 refine Qb.pure' (Qb.of (args:=[_,_]) Tq Qf S1 ?_);have W:=N.1;have X:=G.1
 repeat refine⟨rfl,?_⟩
 conv=>whnf
 apply Qe<;>intro E
 .have hne:len≠b:=by intro e;subst e;simp at E
  repeat refine⟨rfl,?_⟩
  refine⟨?_,(Qa.le.refl _).lg⟩;rw[decide_eq_false (λ e=>hne (by rw[<- W,<- X,e]))]
 have I:len=b:=Int.ofNat.inj (by simpa using E:(len:Int)=b);subst I;refine⟨Nat,λ i=>[(0,.slice a len cap),(1,.slice a' len B),(5,.int .i64 i)],λ i U'=>U.le U'/\i<=len/\l.take i=l'.take i,λ i=>len-i,0,T1,⟨.refl _,O1,rfl⟩,?_⟩;rintro i f Z⟨w,hi,F⟩
 repeat refine⟨rfl,?_⟩
 conv=>whnf
 apply Qe<;>intro E
 .have hlt:i<len:=by simpa using E
  obtain⟨V,x,vs,Q,rfl,-,rfl,-,Y⟩:=(N.lg w.lg λ _ _ h=>h).at hlt;obtain⟨H,y,vs,T,rfl,-,rfl,-,M⟩:=(G.lg w.lg λ _ _ h=>h).at hlt;have L:Zu (i+1):=I1
  refine⟨V,i,⟨rfl,rfl,hlt⟩,_,⟨rfl,Y⟩,H,i,⟨rfl,rfl,hlt⟩,_,⟨rfl,M⟩,?_⟩
  conv=>whnf
  intro U2 z _
  conv=>whnf
  refine xj IE (vs:=encII x) (ws:=encII y) rfl rfl K1 K1 ?_
  have K:ZJ (encII x) (encII y)=decide (x=y):=by
   obtain⟨a1,b1⟩:=x;obtain⟨a2,b2⟩:=y;simp[encII,ZJ,HY,Prod.mk.injEq,Bool.decide_and];rfl
  rw[K]
  repeat refine⟨rfl,?_⟩
  conv=>whnf
  apply Qe<;>intro E
  .have hne:x≠y:=by simpa using E
   repeat refine⟨rfl,?_⟩
   conv=>whnf
   exact⟨by rw[decide_eq_false (Yf Q T hne)],(w.trans z).lg⟩
  .have hxy:x=y:=by simpa using E
   refine⟨L,?_⟩
   conv=>whnf
   exact⟨rfl,i+1,T1,⟨w.trans z,O1,Ya Q T F hxy⟩,L1⟩
 .have hge:len<=i:=by simpa using E
  rw[take_of_length_le O1,take_of_length_le O1]at F
  repeat refine⟨rfl,?_⟩
  conv=>whnf
  exact⟨by rw[decide_eq_true F],w.lg⟩
def pE:Qb S 64 #[] (λ v U'=>(∃h:BH,v=h.v/\Zq U'.frz h Jc)/\U.le U') U:=by
 refine Qb.grown (R:=λ v U'=>∃h:BH,v=h.v/\Zq U' h Jc) (λ v U1 U2 hl⟨h,e,X⟩=>⟨h,e,X.lg hl⟩) (Qb.of (args:=[]) Eh Qf S1 ?_)
 conv=>whnf
 intro K am;refine⟨_,.refl _,?_⟩;have E:=Z4 (U:=U) K (.cells #[.slice none 0 0,.slice none 0 0] 25);have N:(U.put K (.cells #[.slice none 0 0,.slice none 0 0] 25)).M=.obj K (.cells [.slice none 0 0,.slice none 0 0].toArray 25 (0,0))::U.M:=rfl;generalize U.put K (.cells #[.slice none 0 0,.slice none 0 0] 25)=s0 at E N ⊢
 conv=>whnf
 intro W ag;refine Zk ag λ s1 X Z=>?_
 conv=>whnf
 intro b2 ah;refine Zk ah λ s2 h2 aa=>?_
 conv=>whnf
 intro b3 ai;refine Zk ai λ s3 h3 ab=>?_
 conv=>whnf
 intro b5 aj;refine Zk aj λ s4 h4 ac=>?_
 conv=>whnf
 intro b7 ak;refine Zk ak λ s5 h5 ad=>?_
 conv=>whnf
 intro b8 al;refine Zk al λ s6 h6 ae=>?_
 conv=>whnf
 intro z T;refine Zk T λ w h7 Q=>?_;have g6:=h7;have g5:=h6.trans g6;have g4:=h5.trans g5;have g3:=h4.trans g4;have g2:=h3.trans g3;have g1:=h2.trans g2;have F:=X.trans g1;have Y:=F.own.trans N
 have af:Zq w.frz ⟨some ⟨W,0,none⟩,3,3,some ⟨z,0,none⟩,3,3⟩ Jc:=by
  have k1:Zi w.frz W _:=(Z.le g1).imI λ _ _ h=>h;have k2:Zi w.frz b2 _:=(aa.le g2).imI λ _ _ h=>h;have k3:Zi w.frz b3 _:=(ab.le g3).imI λ _ _ h=>h;have k5:Zi w.frz b5 _:=(ac.le g4).imI λ _ _ h=>h;have k7:Zi w.frz b7 _:=(ad.le g5).imI λ _ _ h=>h;have k8:Zi w.frz b8 _:=(ae.le g6).imI λ _ _ h=>h;have G:Zi w.frz z _:=Q.imI λ _ _ h=>h
  have one:∀(b:Nat)(n:Int),Zi w.frz b #[.int .i64 n]->Z5 w.frz (some ⟨b,0,none⟩) 1 [n]:=λ b n h=>Zi.ints (l:=[n]) h λ i x f=>by
   cases i with
   |zero=>simp at f;subst f;rfl
   |succ i=>simp at f
  have lst:∀(b:Nat)(a:Option Addr)(len cap:Nat)(g:List Int),Zi w.frz b #[.slice a len cap]->Z5 w.frz a len g->len<2^60->J3 w.frz (some ⟨b,0,none⟩) 1 [g]:=λ b a len cap g h hg hl=>by
   refine⟨rfl,λ i x f=>?_⟩;cases i with
   |zero=>
    simp at f;subst f;exact⟨_,_,rfl,rfl,⟨a,len,cap,rfl,hg,hl⟩,rfl,by rw[Nat.zero_mul];exact h.rd⟩
   |succ i=>simp at f
  have H:∀(o:Nat)(v0 v1 v2 v3:Value)(c:Array Value),Zi w.frz z c->c[o]?=some v0->c[o+1]?=some v1->c[o+2]?=some v2->c[o+3]?=some v3->Jn w.frz ⟨z,o,none⟩ [v0,v1,v2,v3]:=by
   intro o v0 v1 v2 v3 c h e0 e1 e2 e3;refine h.reads λ k v B=>?_;have hk:=(List.getElem?_eq_some_iff.1 B).1;simp at hk;obtain rfl|rfl|rfl|rfl:k=0\/k=1\/k=2\/k=3:=O1
   .cases B;exact e0
   .cases B;exact e1
   .cases B;exact e2
   .cases B;exact e3
  have nil:Z5 w.frz none 0 []:=⟨rfl,λ i x f=>by simp at f⟩;refine⟨⟨rfl,λ i x f=>?_⟩,⟨rfl,λ i x f=>?_⟩,by show 3<2^60;decide,by show 3<2^60;decide,D1,D1⟩
  .refine⟨_,_,rfl,rfl,rfl,rfl,λ k v B=>?_⟩;have hk:k=0:=by have:=(List.getElem?_eq_some_iff.1 B).1;simp at this;omega
   subst hk;simp at B;subst B;rw[Qo,Qo];refine k1.sees ?_;have hi:i<3:=by have:=(List.getElem?_eq_some_iff.1 f).1;exact this
   obtain rfl|rfl|rfl:i=0\/i=1\/i=2:=O1
   all_goals(cases f;rfl)
  .have hi:i<3:=by have:=(List.getElem?_eq_some_iff.1 f).1;exact this
   obtain rfl|rfl|rfl:i=0\/i=1\/i=2:=O1
   .cases f;exact⟨_,_,rfl,rfl,⟨_,_,_,_,_,_,rfl,lst b3 _ 1 1 _ k3 (one b2 0 k2) D1,D1,nil,D1⟩,rfl,by rw[Qo];exact H _ _ _ _ _ _ G rfl rfl rfl rfl⟩
   .cases f;exact⟨_,_,rfl,rfl,⟨_,_,_,_,_,_,rfl,lst b5 _ 0 0 _ k5 nil D1,D1,nil,D1⟩,rfl,by rw[Qo];exact H _ _ _ _ _ _ G rfl rfl rfl rfl⟩
   .cases f;exact⟨_,_,rfl,rfl,⟨_,_,_,_,_,_,rfl,lst b8 _ 1 1 _ k8 (one b7 1 k7) D1,D1,nil,D1⟩,rfl,by rw[Qo];exact H _ _ _ _ _ _ G rfl rfl rfl rfl⟩
 refine⟨rfl,Wh (b:=K) (e:=25) (c:=#[.slice none 0 0,.slice none 0 0]) (M₀:=U.M) (vs:=[.slice (some ⟨W,0,none⟩) 3 3,.slice (some ⟨z,0,none⟩) 3 3]) [] Y rfl (by simp[Value.single]) λ s8 L V P=>?_⟩;refine⟨_,⟨rfl,Za [] P⟩,⟨⟨_,_,_,_,_,_⟩,rfl,af.lg ⟨λ x o f=>by show s8.I x=_;rw[L];exact f,⟨[],rfl⟩,V⟩⟩,⟨λ x o f=>by rw[L];exact F.imm x o (E.imm x o f),⟨[_],P⟩,V.trans (F.tok.trans E.tok)⟩⟩
end
end Go.Proofs
namespace Go.TM
def F9:Jc.flaw Qu=0:=K1
def jJ:(Jc.outF [0,1,2],Jc.ends [0,1,2])=(0,[false,false,true],[true,true,false]):=K1
def jl:(Jc.outF [1,0,2],Jc.ends [1,0,2])=(0,[false,true,false],[false,true,true]):=K1
def yr:Jc.wdF 1=[0]:=K1
def yd:Jc.dcF 0=[1]:=K1
def Cw:Jc.dcF 1=[0,1]:=K1
def GN:(Jc.askF 0,Jc.askF 1,Jc.askF 2)=(0,0,0):=K1
end Go.TM
namespace Go.Proofs
open Go.TM
def HM(b:Bk)(r:Nat)(w:Int)(m:Nat)(e:Nat->Option Bool)(f h:Option (List (Int×Int))):Bool:=(range b.cans.length).all λ i=>match b.cans[i]? with
 |none=>true
 |some ci=>match(TM.parts (b.cans.drop (i+1)) m).find? (λ q=>b.good r w (ci::q))with
  |none=>e i==none
  |some q=>match e i with
   |some s=>(if s then h else f)==some (ci::q)
   |none=>false
def Ul{b:Bk}{r:Nat}{w:Int}{m:Nat}{f:Nat->Option Bool}{z B:Option (List (Int×Int))}(h:HM b r w m f z B=true):∀i ci,b.cans[i]?=some ci->(TM.parts (b.cans.drop (i+1)) m).find? (λ q=>b.good r w (ci::q))=none->f i=none:=by
 intro i ci e E;unfold HM at h;rw[all_eq_true]at h;have:=h i (by simpa using(List.getElem?_eq_some_iff.1 e).1);rw[e]at this;simp only[E]at this;simpa using this
def UE{b:Bk}{r:Nat}{w:Int}{m:Nat}{f:Nat->Option Bool}{z B:Option (List (Int×Int))}(h:HM b r w m f z B=true):∀i ci q,b.cans[i]?=some ci->(TM.parts (b.cans.drop (i+1)) m).find? (λ q=>b.good r w (ci::q))=some q->∃s,f i=some s/\(if s then B else z)=some (ci::q):=by
 intro i ci q e F;unfold HM at h;rw[all_eq_true]at h;have:=h i (by simpa using(List.getElem?_eq_some_iff.1 e).1);rw[e]at this;simp only[F]at this;cases E:f i with
 |none=>rw[E]at this;cases this
 |some s=>
  rw[E]at this;exact⟨s,rfl,by simpa using this⟩
def Ti:Nat->Option Bool:=λ i=>if i=0 then some false else none
def ED:Nat->Option Bool:=λ _=>none
def TA:Nat->Option Bool:=λ i=>if i=2 then some false else if i=3 then some true else none
def FF:HM Jc 1 1 0 Ti (some [(0,1)]) none=true:=K1
def Iv:HM Jc 2 1 0 ED none none=true:=K1
def Fp:HM Jc 2 1 1 TA (some [(1,0),(2,0)]) (some [(1,2),(2,0)])=true:=K1
def Ug:Jc.cans.Nodup:=by rw[M9];decide
def Ho:Jc.cans.length=6:=by rw[M9];rfl
def CJ:HL Jc 1 1 0 Ti (some [(0,1)]) none where
 n:=Ug
 pos:=by rw[Ho];decide
 six:=by rw[Ho];decide
 m5:=D1
 len:=λ x f=>by rcases f with h|h <;> cases h;decide
 sym:=λ x y _ h=>by cases h
 no:=Ul FF
 yes:=UE FF
 one:=λ i j s b e=>by
  unfold Ti at b e;split at b <;> split at e <;> simp_all
 out:=λ s h=>by cases s <;> first|rfl|(rw[Ho]at h;exact absurd h D1)
def C5:HL Jc 2 1 0 ED none none where
 n:=Ug
 pos:=by rw[Ho];decide
 six:=by rw[Ho];decide
 m5:=D1
 len:=λ x e=>by rcases e with h|h <;> cases h
 sym:=λ x y _ h=>by cases h
 no:=Ul Iv
 yes:=UE Iv
 one:=λ i j s b f=>by cases b
 out:=λ s h=>by cases s <;> rfl
def Ri:HL Jc 2 1 1 TA (some [(1,0),(2,0)]) (some [(1,2),(2,0)]) where
 n:=Ug
 pos:=by rw[Ho];decide
 six:=by rw[Ho];decide
 m5:=D1
 len:=λ x f=>by rcases f with h|h <;> cases h <;> decide
 sym:=λ x y e b=>by cases e;cases b;rfl
 no:=Ul Fp
 yes:=UE Fp
 one:=λ i j s e b=>by
  unfold TA at e b;split at e
  .cases e;split at b
   .omega
   .split at b <;> cases b
  .split at e
   .cases e;split at b
    .cases b
    .split at b
     .omega
     .cases b
   .cases e
 out:=λ s h=>by
  rw[Ho]at h;cases s <;> exact absurd h D1
def GX:Nat->Option (List (Int×Int)):=λ _=>some [(0,1)]
def Pi:Nat->Option (List (Int×Int)):=λ m=>if m=0 then none else some [(1,0),(2,0)]
def LZ:(Jc.staF 1 true GX,Jc.staF 2 true Pi)=(some [(0,1)],some [(1,0),(2,0)]):=K1
def tf:∀m,m+1<Jc.cs.length->(∀h,h<m->GX h=none)->∃w e f,HL Jc 1 1 m w e f/\ZG e f=GX m:=by
 intro m z b;cases m with
 |zero=>exact⟨_,_,_,CJ,rfl⟩
 |succ m=>cases b 0 O1
def jg:∀m,m+1<Jc.cs.length->(∀f,f<m->Pi f=none)->∃w b e,HL Jc 2 1 m w b e/\ZG b e=Pi m:=by
 intro m z h
 have:m=0\/m=1:=by
  have:Jc.cs.length=3:=rfl;omega
 rcases this with rfl|rfl
 .exact⟨_,_,_,C5,rfl⟩
 .exact⟨_,_,_,Ri,rfl⟩
end Go.Proofs
namespace Go.TM
variable{T:Type}{U U':Qa T}
def WQ.c{a:Option Addr}{l:List Bool}{len cap:Nat}(h:WQ U (.slice a len cap) l):len=l.length/\WX U a l.length l:=by
 obtain⟨a',b,e,h⟩:=h;cases e;exact⟨rfl,rfl,h⟩
def X_{b:Nat}{l:List Int}(h:Zi U b (l.map λ n=>Value.int .i64 n).toArray):Z5 U (some ⟨b,0,none⟩) l.length l:=
 h.ints λ i x e=>by simp[e]
def DY{b:Nat}{l:List (Int×Int)}(h:Zi U b (l.flatMap Go.Proofs.encII).toArray):Q5 U (some ⟨b,0,none⟩) l.length 2 l (λ x vs=>vs=Go.Proofs.encII x):=
 HV (enc:=Go.Proofs.encII) (n:=2) (λ _=>rfl) (.inr ⟨_,rfl,h.rd⟩) (λ f e=>by cases e;rfl) D1
end Go.TM
namespace Go.Proofs
open Go.TM
attribute [local irreducible] Qb Zl Wt
set_option maxHeartbeats 4000000 in
def Zm2{U:Qa Tk}(ax:U.tok=⟨0,.out,none⟩)(hk:WA U):Qb Q7 20 #[] (λ v U'=>v=.bool true/\U'=U) U:=by
 refine Qb.pure' (Qb.of (args:=[]) yL Qf S1 ?_);refine⟨Eh.any,pE.mono ?_⟩;rintro _ s1⟨⟨h,rfl,H⟩,h1⟩-
 conv=>whnf
 intro b1 di;refine⟨_,.refl _,rfl,Zt (vs:=[.slice h.ra h.rl h.rc,.slice h.ca h.cl h.cc]) di rfl (by simp[Value.single]) λ s2 h2 b=>?_⟩;have b:Zi s2 b1 #[.slice h.ra h.rl h.rc,.slice h.ca h.cl h.cc]:=b;have H:Zq s2.frz h Jc:=H.lg h2.lg.frz2;have e2:U.le s2:=h1.trans h2;refine⟨_,⟨rfl,b.rd⟩,?_⟩
 conv=>whnf
 intro c3 dg;refine Zk dg λ s3 h3 dj=>?_;have z3:s2.frz.lg s3.frz:=h3.lg.frz2;have e3:U.le s3:=e2.trans h3;have b:=b.le h3;have H:=H.lg z3;have il:Z5 s3.frz (some ⟨c3,0,none⟩) 3 [0,1,2]:=X_ (l:=[0,1,2]) (dj.imI λ _ _ h=>h);refine⟨YQ.any,(IR h Jc H (hk.lg e3.lg) _ 3 3 [0,1,2] il D1).mono ?_⟩;rintro _ s4⟨⟨v1,v2,rfl,I,hy⟩,h4⟩-;obtain⟨ag,af⟩:=Prod.mk.inj jJ;have af:Jc.ends (List.map Int.toNat [0,1,2])=_:=af;rw[ag,if_pos rfl,af]at I hy;rw[ag];obtain⟨xa,xc,rfl,-⟩:=id I;obtain⟨ya,yc,rfl,-⟩:=id hy;have e:=I.c.2;have f:=hy.c.2;clear il I hy ag af;have z4:s3.frz.lg s4.frz:=h4.lg.frz2;have e4:U.le s4:=e3.trans h4;have b:=b.le h4;have H:=H.lg z4;refine⟨_,⟨rfl,b.rd⟩,?_⟩
 conv=>whnf
 intro c5 dh;refine Zk dh λ s5 h5 dk=>?_;have z5:s4.frz.lg s5.frz:=h5.lg.frz2;have e5:U.le s5:=e4.trans h5;have b:=b.le h5;have H:=H.lg z5;have e:=e.lg z5;have f:=f.lg z5;have il:Z5 s5.frz (some ⟨c5,0,none⟩) 3 [1,0,2]:=X_ (l:=[1,0,2]) (dk.imI λ _ _ h=>h);refine⟨YQ.any,(IR h Jc H (hk.lg e5.lg) _ 3 3 [1,0,2] il D1).mono ?_⟩;rintro _ s6⟨⟨v1,v2,rfl,I,hy⟩,h6⟩-;obtain⟨ag,af⟩:=Prod.mk.inj jl;have af:Jc.ends (List.map Int.toNat [1,0,2])=_:=af;rw[ag,if_pos rfl,af]at I hy;rw[ag];obtain⟨ua,uc,rfl,-⟩:=id I;obtain⟨va,vc,rfl,-⟩:=id hy;have w:=I.c.2;have z:=hy.c.2;clear il I hy ag af;have z6:s5.frz.lg s6.frz:=h6.lg.frz2;have e6:U.le s6:=e5.trans h6;have b:=b.le h6;have H:=H.lg z6;have e:=e.lg z6;have f:=f.lg z6;refine⟨_,⟨rfl,b.rd⟩,?_⟩;refine⟨Fj.any,(yC h Jc H (hk.lg e6.lg)).mono ?_⟩;rintro _ s7⟨⟨v1,v2,rfl,I,hy⟩,h7⟩-;rw[F9,if_pos rfl]at I hy;rw[F9];rw[M4.1]at I;rw[M4.2]at hy;obtain⟨ra,rc,rfl,fr⟩:=I;obtain⟨ca,cc,rfl,B⟩:=hy;have z7:s6.frz.lg s7.frz:=h7.lg.frz2;have e7:U.le s7:=e6.trans h7;have b:=b.le h7;have H:=H.lg z7;have e:=e.lg z7;have f:=f.lg z7;have w:=w.lg z7;have z:=z.lg z7;refine⟨_,⟨rfl,b.rd⟩,?_⟩;refine⟨Lv.any,(pv h Jc H (hk.lg e7.lg) 1).mono ?_⟩;rintro _ s8⟨⟨v1,v2,rfl,I,hy⟩,h8⟩-;have ea:Jc.askF 1=0:=(Prod.mk.inj (Prod.mk.inj GN).2).1;rw[ea,if_pos rfl]at I hy;rw[ea];have a9:(Jc.difS (Int.toNat 1) true).map (λ(k:Nat)=>(k:Int))=[1,0,2]:=by rw[show Jc.difS (Int.toNat 1) true=_ from EH.1];rfl
 have ba:(Jc.difS (Int.toNat 1) false).map (λ(k:Nat)=>(k:Int))=[0,1,2]:=by rw[show Jc.difS (Int.toNat 1) false=_ from EH.2];rfl
 rw[a9]at I;rw[ba]at hy;obtain⟨la,lc,rfl,F⟩:=I;obtain⟨ka,kc,rfl,E⟩:=hy;clear ea a9 ba;have z8:s7.frz.lg s8.frz:=h8.lg.frz2;have e8:U.le s8:=e7.trans h8;have b:=b.le h8;have H:=H.lg z8;have e:=e.lg z8;have f:=f.lg z8;have w:=w.lg z8;have z:=z.lg z8;have fr:=fr.lg z8;have B:=B.lg z8;refine⟨_,⟨rfl,b.rd⟩,?_⟩;refine⟨TQ.any,(Mi (e8.tok.trans ax) h Jc H (hk.lg e8.lg) 1 true GX λ _ _ _=>tf).mono ?_⟩;rintro _ s9⟨⟨v1,rfl,I⟩,h9⟩-;have es:Jc.staF 1 true GX=some [(0,1)]:=(Prod.mk.inj LZ).1;have ea:Jc.askF 1=0:=(Prod.mk.inj (Prod.mk.inj GN).2).1;rw[es]at I;rw[es,ea];obtain⟨sa,sc,rfl,G⟩:=I;have G:Q5 s9.frz sa 1 2 [(0,1)] (λ x vs=>vs=encII x):=G;clear es ea;have z9:s8.frz.lg s9.frz:=h9.lg.frz2;have e9:U.le s9:=e8.trans h9;have b:=b.le h9;have H:=H.lg z9;have e:=e.lg z9;have f:=f.lg z9;have w:=w.lg z9;have z:=z.lg z9;have fr:=fr.lg z9;have B:=B.lg z9;have F:=F.lg z9;have E:=E.lg z9;refine⟨_,⟨rfl,b.rd⟩,?_⟩;refine⟨TQ.any,(Mi (e9.tok.trans ax) h Jc H (hk.lg e9.lg) 2 true Pi λ _ _ _=>jg).mono ?_⟩;rintro _ ah⟨⟨v1,rfl,I⟩,ay⟩-;have es:Jc.staF 2 true Pi=some [(1,0),(2,0)]:=(Prod.mk.inj LZ).2;have ea:Jc.askF 2=0:=(Prod.mk.inj (Prod.mk.inj GN).2).2;rw[es]at I;rw[es,ea];obtain⟨ta,tc,rfl,ft⟩:=I;have ft:Q5 ah.frz ta 2 2 [(1,0),(2,0)] (λ x vs=>vs=encII x):=ft;clear es ea;have ae:s9.frz.lg ah.frz:=ay.lg.frz2;have a6:U.le ah:=e9.trans ay;have b:=b.le ay;have H:=H.lg ae;have e:=e.lg ae;have f:=f.lg ae;have w:=w.lg ae;have z:=z.lg ae;have fr:=fr.lg ae;have B:=B.lg ae;have F:=F.lg ae;have E:=E.lg ae;have G:=G.lg ae λ _ _ h=>h;refine⟨_,⟨rfl,b.rd⟩,?_⟩;refine⟨Lr.any,(pJ h Jc H (hk.lg a6.lg) 1).mono ?_⟩;rintro _ a2⟨⟨v1,rfl,I⟩,az⟩-;have ea:Jc.askF 1=0:=(Prod.mk.inj (Prod.mk.inj GN).2).1;rw[yr]at I;rw[ea];obtain⟨wa,wc,rfl,K⟩:=I;clear ea;have ad:ah.frz.lg a2.frz:=az.lg.frz2;have a7:U.le a2:=a6.trans az;have b:=b.le az;have H:=H.lg ad;have e:=e.lg ad;have f:=f.lg ad;have w:=w.lg ad;have z:=z.lg ad;have fr:=fr.lg ad;have B:=B.lg ad;have F:=F.lg ad;have E:=E.lg ad;have G:=G.lg ad λ _ _ h=>h;have ft:=ft.lg ad λ _ _ h=>h;refine⟨_,⟨rfl,b.rd⟩,?_⟩;refine⟨T8.any,(DZ h Jc H (hk.lg a7.lg) 0).mono ?_⟩;rintro _ a3⟨⟨v1,rfl,I⟩,a0⟩-;have ea:Jc.askF 0=0:=(Prod.mk.inj GN).1;rw[yd]at I;rw[ea];obtain⟨ma,mc,rfl,fm⟩:=I;clear ea;have ac:a2.frz.lg a3.frz:=a0.lg.frz2;have a8:U.le a3:=a7.trans a0;have b:=b.le a0;have H:=H.lg ac;have e:=e.lg ac;have f:=f.lg ac;have w:=w.lg ac;have z:=z.lg ac;have fr:=fr.lg ac;have B:=B.lg ac;have F:=F.lg ac;have E:=E.lg ac;have G:=G.lg ac λ _ _ h=>h;have ft:=ft.lg ac λ _ _ h=>h;have K:=K.lg ac;refine⟨_,⟨rfl,b.rd⟩,?_⟩;refine⟨T8.any,(DZ h Jc H (hk.lg a8.lg) 1).mono ?_⟩;rintro _ a4⟨⟨v1,rfl,I⟩,a1⟩-;have ea:Jc.askF 1=0:=(Prod.mk.inj (Prod.mk.inj GN).2).1;rw[Cw]at I;rw[ea];obtain⟨na,nc,rfl,fn⟩:=I;clear ea;have L:a3.frz.lg a4.frz:=a1.lg.frz2;have c0:U.le a4:=a8.trans a1;have b:=b.le a1;have H:=H.lg L;have e:=e.lg L;have f:=f.lg L;have w:=w.lg L;have z:=z.lg L;have fr:=fr.lg L;have B:=B.lg L;have F:=F.lg L;have E:=E.lg L;have G:=G.lg L λ _ _ h=>h;have ft:=ft.lg L λ _ _ h=>h;have K:=K.lg L;have fm:=fm.lg L
 repeat refine⟨rfl,?_⟩
 conv=>whnf
 intro cm bo;refine Zk bo λ ai bb b3=>?_;have M:a4.frz.lg ai.frz:=bb.lg.frz2;have c1:U.le ai:=c0.trans bb;have e:=e.lg M;have f:=f.lg M;have w:=w.lg M;have z:=z.lg M;have fr:=fr.lg M;have B:=B.lg M;have F:=F.lg M;have E:=E.lg M;have G:=G.lg M λ _ _ h=>h;have ft:=ft.lg M λ _ _ h=>h;have K:=K.lg M;have fm:=fm.lg M;have fn:=fn.lg M;have q:WX ai.frz (some ⟨cm,0,none⟩) 3 [false,false,true]:=Kc (l:=[false,false,true]) (b3.imI λ _ _ h=>h);refine⟨PR.any,(W0 xa _ 3 xc 3 3 [false,false,true] [false,false,true] (e.lg Qp) (q.lg Qp) D1).go λ _=>?_⟩;rw[decide_eq_true (rfl:([false,false,true]:List Bool)=[false,false,true])];clear q
 conv=>whnf
 intro co bp;refine Zk bp λ aj bc b4=>?_;have N:ai.frz.lg aj.frz:=bc.lg.frz2;have c2:U.le aj:=c1.trans bc;have e:=e.lg N;have f:=f.lg N;have w:=w.lg N;have z:=z.lg N;have fr:=fr.lg N;have B:=B.lg N;have F:=F.lg N;have E:=E.lg N;have G:=G.lg N λ _ _ h=>h;have ft:=ft.lg N λ _ _ h=>h;have K:=K.lg N;have fm:=fm.lg N;have fn:=fn.lg N;have q:WX aj.frz (some ⟨co,0,none⟩) 3 [true,true,false]:=Kc (l:=[true,true,false]) (b4.imI λ _ _ h=>h);refine⟨PR.any,(W0 ya _ 3 yc 3 3 [true,true,false] [true,true,false] (f.lg Qp) (q.lg Qp) D1).go λ _=>?_⟩;rw[decide_eq_true (rfl:([true,true,false]:List Bool)=[true,true,false])];clear q
 conv=>whnf
 intro cp bq;refine Zk bq λ ak bd b5=>?_;have P:aj.frz.lg ak.frz:=bd.lg.frz2;have c4:U.le ak:=c2.trans bd;have e:=e.lg P;have f:=f.lg P;have w:=w.lg P;have z:=z.lg P;have fr:=fr.lg P;have B:=B.lg P;have F:=F.lg P;have E:=E.lg P;have G:=G.lg P λ _ _ h=>h;have ft:=ft.lg P λ _ _ h=>h;have K:=K.lg P;have fm:=fm.lg P;have fn:=fn.lg P;have q:WX ak.frz (some ⟨cp,0,none⟩) 3 [false,true,false]:=Kc (l:=[false,true,false]) (b5.imI λ _ _ h=>h);refine⟨PR.any,(W0 ua _ 3 uc 3 3 [false,true,false] [false,true,false] (w.lg Qp) (q.lg Qp) D1).go λ _=>?_⟩;rw[decide_eq_true (rfl:([false,true,false]:List Bool)=[false,true,false])];clear q
 conv=>whnf
 intro cq br;refine Zk br λ al be b6=>?_;have Q:ak.frz.lg al.frz:=be.lg.frz2;have c6:U.le al:=c4.trans be;have e:=e.lg Q;have f:=f.lg Q;have w:=w.lg Q;have z:=z.lg Q;have fr:=fr.lg Q;have B:=B.lg Q;have F:=F.lg Q;have E:=E.lg Q;have G:=G.lg Q λ _ _ h=>h;have ft:=ft.lg Q λ _ _ h=>h;have K:=K.lg Q;have fm:=fm.lg Q;have fn:=fn.lg Q;have q:WX al.frz (some ⟨cq,0,none⟩) 3 [false,true,true]:=Kc (l:=[false,true,true]) (b6.imI λ _ _ h=>h);refine⟨PR.any,(W0 va _ 3 vc 3 3 [false,true,true] [false,true,true] (z.lg Qp) (q.lg Qp) D1).go λ _=>?_⟩;rw[decide_eq_true (rfl:([false,true,true]:List Bool)=[false,true,true])];clear q
 conv=>whnf
 intro cr bs;refine Zk bs λ am bf b7=>?_;have S:al.frz.lg am.frz:=bf.lg.frz2;have c7:U.le am:=c6.trans bf;have e:=e.lg S;have f:=f.lg S;have w:=w.lg S;have z:=z.lg S;have fr:=fr.lg S;have B:=B.lg S;have F:=F.lg S;have E:=E.lg S;have G:=G.lg S λ _ _ h=>h;have ft:=ft.lg S λ _ _ h=>h;have K:=K.lg S;have fm:=fm.lg S;have fn:=fn.lg S;have q:Z5 am.frz (some ⟨cr,0,none⟩) 3 [2,0,0]:=X_ (l:=[2,0,0]) (b7.imI λ _ _ h=>h);refine⟨S4.any,(LL ra _ 3 rc 3 3 [2,0,0] [2,0,0] (fr.lg Qp) (q.lg Qp) D1).go λ _=>?_⟩;rw[decide_eq_true (rfl:([2,0,0]:List Int)=[2,0,0])];clear q
 conv=>whnf
 intro cs bt;refine Zk bt λ an bg b8=>?_;have T:am.frz.lg an.frz:=bg.lg.frz2;have c8:U.le an:=c7.trans bg;have e:=e.lg T;have f:=f.lg T;have w:=w.lg T;have z:=z.lg T;have fr:=fr.lg T;have B:=B.lg T;have F:=F.lg T;have E:=E.lg T;have G:=G.lg T λ _ _ h=>h;have ft:=ft.lg T λ _ _ h=>h;have K:=K.lg T;have fm:=fm.lg T;have fn:=fn.lg T;have q:Z5 an.frz (some ⟨cs,0,none⟩) 3 [0,1,0]:=X_ (l:=[0,1,0]) (b8.imI λ _ _ h=>h);refine⟨S4.any,(LL ca _ 3 cc 3 3 [0,1,0] [0,1,0] (B.lg Qp) (q.lg Qp) D1).go λ _=>?_⟩;rw[decide_eq_true (rfl:([0,1,0]:List Int)=[0,1,0])];clear q
 conv=>whnf
 intro ct bu;refine Zk bu λ ao bh b9=>?_;have V:an.frz.lg ao.frz:=bh.lg.frz2;have c9:U.le ao:=c8.trans bh;have e:=e.lg V;have f:=f.lg V;have w:=w.lg V;have z:=z.lg V;have fr:=fr.lg V;have B:=B.lg V;have F:=F.lg V;have E:=E.lg V;have G:=G.lg V λ _ _ h=>h;have ft:=ft.lg V λ _ _ h=>h;have K:=K.lg V;have fm:=fm.lg V;have fn:=fn.lg V;have q:Z5 ao.frz (some ⟨ct,0,none⟩) 3 [1,0,2]:=X_ (l:=[1,0,2]) (b9.imI λ _ _ h=>h);refine⟨Gx.any,(PP la _ 3 lc 3 3 [1,0,2] [1,0,2] (F.lg Qp) (q.lg Qp) D1).go λ _=>?_⟩;rw[decide_eq_true (rfl:([1,0,2]:List Int)=[1,0,2])];clear q
 conv=>whnf
 intro cu bv;refine Zk bv λ ap bi ce=>?_;have W:ao.frz.lg ap.frz:=bi.lg.frz2;have da:U.le ap:=c9.trans bi;have e:=e.lg W;have f:=f.lg W;have w:=w.lg W;have z:=z.lg W;have fr:=fr.lg W;have B:=B.lg W;have F:=F.lg W;have E:=E.lg W;have G:=G.lg W λ _ _ h=>h;have ft:=ft.lg W λ _ _ h=>h;have K:=K.lg W;have fm:=fm.lg W;have fn:=fn.lg W;have q:Z5 ap.frz (some ⟨cu,0,none⟩) 3 [0,1,2]:=X_ (l:=[0,1,2]) (ce.imI λ _ _ h=>h);refine⟨Gx.any,(PP ka _ 3 kc 3 3 [0,1,2] [0,1,2] (E.lg Qp) (q.lg Qp) D1).go λ _=>?_⟩;rw[decide_eq_true (rfl:([0,1,2]:List Int)=[0,1,2])];clear q
 conv=>whnf
 intro cv bw;refine Zk bw λ aq bj cf=>?_;have X:ap.frz.lg aq.frz:=bj.lg.frz2;have db:U.le aq:=da.trans bj;have e:=e.lg X;have f:=f.lg X;have w:=w.lg X;have z:=z.lg X;have fr:=fr.lg X;have B:=B.lg X;have F:=F.lg X;have E:=E.lg X;have G:=G.lg X λ _ _ h=>h;have ft:=ft.lg X λ _ _ h=>h;have K:=K.lg X;have fm:=fm.lg X;have fn:=fn.lg X;have q:Q5 aq.frz (some ⟨cv,0,none⟩) 1 2 [(0,1)] (λ x vs=>vs=encII x):=DY (l:=[(0,1)]) (cf.imI λ _ _ h=>h);refine⟨Tq.any,(Lp sa _ 1 sc 1 1 [(0,1)] [(0,1)] (G.lg Qp λ _ _ h=>h) (q.lg Qp λ _ _ h=>h) D1).go λ _=>?_⟩;rw[decide_eq_true (rfl:([(0,1)]:List (Int×Int))=[(0,1)])];clear q
 conv=>whnf
 intro cw bx;refine Zk bx λ au bk cg=>?_;have Y:aq.frz.lg au.frz:=bk.lg.frz2;have dc:U.le au:=db.trans bk;have e:=e.lg Y;have f:=f.lg Y;have w:=w.lg Y;have z:=z.lg Y;have fr:=fr.lg Y;have B:=B.lg Y;have F:=F.lg Y;have E:=E.lg Y;have G:=G.lg Y λ _ _ h=>h;have ft:=ft.lg Y λ _ _ h=>h;have K:=K.lg Y;have fm:=fm.lg Y;have fn:=fn.lg Y;have q:Q5 au.frz (some ⟨cw,0,none⟩) 2 2 [(1,0),(2,0)] (λ x vs=>vs=encII x):=DY (l:=[(1,0),(2,0)]) (cg.imI λ _ _ h=>h);refine⟨Tq.any,(Lp ta _ 2 tc 2 2 [(1,0),(2,0)] [(1,0),(2,0)] (ft.lg Qp λ _ _ h=>h) (q.lg Qp λ _ _ h=>h) D1).go λ _=>?_⟩;rw[decide_eq_true (rfl:([(1,0),(2,0)]:List (Int×Int))=[(1,0),(2,0)])];clear q
 conv=>whnf
 intro cx bz;refine Zk bz λ av bl ch=>?_;have Z:au.frz.lg av.frz:=bl.lg.frz2;have dd:U.le av:=dc.trans bl;have e:=e.lg Z;have f:=f.lg Z;have w:=w.lg Z;have z:=z.lg Z;have fr:=fr.lg Z;have B:=B.lg Z;have F:=F.lg Z;have E:=E.lg Z;have G:=G.lg Z λ _ _ h=>h;have ft:=ft.lg Z λ _ _ h=>h;have K:=K.lg Z;have fm:=fm.lg Z;have fn:=fn.lg Z;have q:Z5 av.frz (some ⟨cx,0,none⟩) 1 [0]:=X_ (l:=[0]) (ch.imI λ _ _ h=>h);refine⟨Gx.any,(PP wa _ 1 wc 1 1 [0] [0] (K.lg Qp) (q.lg Qp) D1).go λ _=>?_⟩;rw[decide_eq_true (rfl:([0]:List Int)=[0])];clear q
 conv=>whnf
 intro cy b0;refine Zk b0 λ aw bm cj=>?_;have aa:av.frz.lg aw.frz:=bm.lg.frz2;have de:U.le aw:=dd.trans bm;have e:=e.lg aa;have f:=f.lg aa;have w:=w.lg aa;have z:=z.lg aa;have fr:=fr.lg aa;have B:=B.lg aa;have F:=F.lg aa;have E:=E.lg aa;have G:=G.lg aa λ _ _ h=>h;have ft:=ft.lg aa λ _ _ h=>h;have K:=K.lg aa;have fm:=fm.lg aa;have fn:=fn.lg aa;have q:Z5 aw.frz (some ⟨cy,0,none⟩) 1 [1]:=X_ (l:=[1]) (cj.imI λ _ _ h=>h);refine⟨Gx.any,(PP ma _ 1 mc 1 1 [1] [1] (fm.lg Qp) (q.lg Qp) D1).go λ _=>?_⟩;rw[decide_eq_true (rfl:([1]:List Int)=[1])];clear q
 conv=>whnf
 intro cz b2;refine Zk b2 λ a5 bn ck=>?_;have ab:aw.frz.lg a5.frz:=bn.lg.frz2;have df:U.le a5:=de.trans bn;have e:=e.lg ab;have f:=f.lg ab;have w:=w.lg ab;have z:=z.lg ab;have fr:=fr.lg ab;have B:=B.lg ab;have F:=F.lg ab;have E:=E.lg ab;have G:=G.lg ab λ _ _ h=>h;have ft:=ft.lg ab λ _ _ h=>h;have K:=K.lg ab;have fm:=fm.lg ab;have fn:=fn.lg ab;have q:Z5 a5.frz (some ⟨cz,0,none⟩) 2 [0,1]:=X_ (l:=[0,1]) (ck.imI λ _ _ h=>h);refine⟨Gx.any,(PP na _ 2 nc 2 2 [0,1] [0,1] (fn.lg Qp) (q.lg Qp) D1).go λ _=>?_⟩;rw[decide_eq_true (rfl:([0,1]:List Int)=[0,1])];clear q
 repeat refine⟨rfl,?_⟩
 conv=>whnf
 exact df.lg
end Go.Proofs
namespace Go.TM
def Vj(a b:ByteArray):(a.toList==b.toList)=decide (a=b):=by
 by_cases h:a=b
 .simp[h]
 .have:a.toList≠b.toList:=λ e=>h (by
   rw[ByteArray.toList_eq,ByteArray.toList_eq]at e;exact ByteArray.ext (Array.toList_inj.1 e))
  simp[h,this]
variable{T:Type}{P:Program}{S:Sys P T}{U:Qa T}
def HC(s:ByteArray):Nat->List ByteArray->Int
 |_,[]=>-1
 |i,x::l=>if x=s then i else HC s (i+1) l
def EA(s:ByteArray):∀(l:List ByteArray)(i:Nat),decide (HC s i l ≥ 0)=QR l s
 |[],_=>rfl
 |x::l,i=>by
  unfold HC QR;rw[any_cons];by_cases e:x=s
  .rw[if_pos e];simp[e]
  .rw[if_neg e,decide_eq_false e,Bool.false_or];exact EA s l (i+1)
def zz(s x:ByteArray)(i:Nat)(l:List ByteArray):HC s i (x::l)=if x=s then(i:Int)else HC s (i+1) l:=rfl
def UM{b:Int}:∀{l:List Int}{p:Option Int}{n:Int},J1 b p l=0->J1 b p (l++[n])=if btw n 0 (b-1)then(match(l.getLast?).or p with|some m=>if n<=m then 7 else 0|none=>0)else 6
 |[],p,n,_=>by
  rw[nil_append,Wm];cases p <;> rfl
 |x::l,p,n,h=>by
  rw[Wm]at h;rw[cons_append,Wm];split at h
  .rename_i hb;rw[if_pos hb]
   have key:J1 b (some x) l=0->J1 b (some x) (l++[n])=if btw n 0 (b-1)then(match((x::l).getLast?).or p with|some m=>if n<=m then 7 else 0|none=>0)else 6:=λ h=>by
    rw[UM h];cases l with
    |nil=>simp
    |cons y l=>
     rw[getLast?_cons_cons];obtain⟨z,e⟩:∃z,(y::l).getLast?=some z:=⟨_,getLast?_eq_some_getLast (cons_ne_nil y l)⟩;rw[e];rfl
   cases p with
   |none=>exact key h
   |some m=>
    simp only at h ⊢;split at h
    .cases h
    .rename_i hm;rw[if_neg hm];exact key h
  .cases h
def Sm{b:Int}:∀{l l':List Int}{p:Option Int},J1 b p l≠0->J1 b p (l++l')=J1 b p l
 |[],_,_,h=>absurd rfl h
 |x::l,l',p,h=>by
  rw[Wm]at h;rw[cons_append,Wm,Wm];split at h
  .rename_i hb;rw[if_pos hb,if_pos hb];cases p with
   |none=>exact Sm h
   |some m=>
    simp only at h ⊢;split at h
    .rename_i hm;rw[if_pos hm,if_pos hm]
    .rename_i hm;rw[if_neg hm,if_neg hm];exact Sm h
  .rename_i hb;rw[if_neg hb,if_neg hb]
end Go.TM
namespace Go.Proofs
open Go.TM
variable{T:Type}{S:TM.Sys Tryz.prog T}{U:Qa T}
attribute [local irreducible] Qb Zl Wt
def N9(a:Option Addr)(len cap:Nat)(l:List ByteArray)(B:Q5 U a len 1 l λ s vs=>vs=[.string s])(E:len<2^60)(s:ByteArray) :
  Qb S 74 #[.slice a len cap,.string s] (λ v U'=>v=.int .i64 (HC s 0 l)/\U'=U) U:=by
 refine Qb.of (args:=[_,_]) ET Qf S1 ?_;have G:=B.1;refine⟨Nat,λ i=>[(0,.slice a len cap),(1,.string s),(5,.int .i64 i)],λ i U'=>U'=U/\i<=len/\HC s 0 l=HC s i (l.drop i),λ i=>len-i,0,T1,⟨rfl,O1,rfl⟩,?_⟩;rintro i f _⟨rfl,K,b⟩;have w:Zu ((i:Int)+1):=I1
 repeat refine⟨rfl,?_⟩
 conv=>whnf
 apply Qe<;>intro h
 .have hlt:i<len:=by simpa using h
  obtain⟨F,x,vs,I,rfl,H,rfl,-,z⟩:=B.at hlt;rw[WT I,zz]at b;refine⟨F,i,⟨rfl,rfl,hlt⟩,_,z 0 _ rfl,?_⟩
  repeat refine⟨rfl,?_⟩
  conv=>whnf
  apply Qe<;>intro h
  .have e:x=s:=by rw[Vj]at h;simpa using h
   rw[if_pos e]at b;rw[b]
   repeat refine⟨rfl,?_⟩
   conv=>whnf
  .have e:x≠s:=by rw[Vj]at h;simpa using h
   rw[if_neg e]at b;refine⟨w,?_⟩
   conv=>whnf
   exact⟨rfl,i+1,T1,⟨rfl,O1,b⟩,L1⟩
 .have hge:i=len:=by simp at h;omega
  rw[drop_eq_nil_of_le O1]at b;rw[b]
  repeat refine⟨rfl,?_⟩
  conv=>whnf
def Dr(a:Option Addr)(len cap:Nat)(l:List Int)(M:Z5 U a len l)(Q:len<2^60)(n:Nat)(hn:n<2^60) :
  Qb S 93 #[.slice a len cap,.int .i64 n] (λ v U'=>v=.int .i64 (J1 n none l)/\U'=U) U:=by
 refine Qb.pure' (Qb.of (args:=[_,_]) Sa Qf S1 ?_);have aa:=M.1;have H:Zu ((n:Int)-1):=I1
 refine⟨Nat,λ i=>[(0,.slice a len cap),(1,.int .i64 n),(5,.int .i64 i)],λ i U'=>U.lg U'/\i<=len/\J1 n none (l.take i)=0,λ i=>len-i,0,T1,⟨(Qa.le.refl _).lg,O1,rfl⟩,?_⟩;rintro i f X⟨e,hi,w⟩;have G:Zu ((i:Int)+1):=I1
 repeat refine⟨rfl,?_⟩
 conv=>whnf
 apply Qe<;>intro E
 .have hlt:i<len:=by simpa using E
  obtain⟨K,x,hx,rfl,ab,T⟩:=(M.lg e).at hlt;have b:J1 n none (l.take (i+1))=if btw x 0 ((n:Int)-1)then(match((l.take i).getLast?).or none with|some m=>if x<=m then 7 else 0|none=>0)else 6:=by rw[Ji hx];exact UM w
  have B:J1 n none (l.take (i+1))≠0->J1 n none l=J1 n none (l.take (i+1)):=λ h=>by
   have:=Sm (l':=l.drop (i+1)) h
   rwa [take_append_drop]at this
  refine⟨K,i,⟨rfl,rfl,hlt⟩,_,T,H,PM.any,(Ky X x 0 ((n:Int)-1)).go λ _=>?_⟩;cases P:btw x 0 ((n:Int)-1)with
  |false=>
   rw[P,if_neg S1]at b;rw[B (by rw[b];decide),b]
   repeat refine⟨rfl,?_⟩
   conv=>whnf
   exact e
  |true=>
   rw[if_pos P]at b
   repeat refine⟨rfl,?_⟩
   conv=>whnf
   apply Zr<;>intro E
   .have h0:0<i:=by simpa using E
    obtain⟨j,rfl⟩:∃j,i=j+1:=⟨i-1,O1⟩;obtain⟨y,W⟩:∃y,l[j]?=some y:=⟨_,getElem?_eq_getElem O1⟩;have F:(l.take (j+1)).getLast?=some y:=by rw[Ji W];simp
    rw[F,Option.some_or]at b;simp only at b;obtain⟨Z,e',V,N⟩:=(M.lg e).2 j y W;cases e';have I:Zu (((j+1:Nat):Int)-1):=I1
    have L:((j+1:Nat):Int)-1=(j:Int):=O1
    refine⟨K,j+1,⟨rfl,rfl,hlt⟩,_,T,I,?_⟩;rw[L];refine⟨K,j,⟨rfl,rfl,O1⟩,_,N,?_⟩
    conv=>whnf
    intro Y z _
    repeat refine⟨rfl,?_⟩
    conv=>whnf
    apply Qe<;>intro E
    .have hle:x<=y:=by simpa using E
     rw[if_pos hle]at b;rw[B (by rw[b];decide),b]
     repeat refine⟨rfl,?_⟩
     conv=>whnf
     exact e.trans z.lg
    .have hle:¬x<=y:=by simp at E;omega
     rw[if_neg hle]at b;refine⟨G,?_⟩
     conv=>whnf
     exact⟨rfl,j+1+1,T1,⟨e.trans z.lg,O1,b⟩,L1⟩
   .have h0:i=0:=by simp at E;omega
    subst h0;have b:J1 n none (l.take (0+1))=0:=b
    conv=>whnf
    intro Y z _;refine⟨G,?_⟩
    conv=>whnf
    exact⟨rfl,0+1,T1,⟨e.trans z.lg,O1,b⟩,L1⟩
 .have hge:i=len:=by simp at E;omega
  rw[take_of_length_le O1]at w;rw[w]
  repeat refine⟨rfl,?_⟩
  conv=>whnf
  exact e
def gN(h:BH)(b:Bk)(hb:Zq U.frz h b)(ao:b.Low)(two:Nat)(h2:two<60):∀(s one:Nat),s<=60->one<b.cs.length ->
  Qb S 129 #[h.v,.int .i64 one,.int .i64 two,.int .i64 s] (λ v U'=>v=.bool (Wo b.A two s one)/\U'=U) U:=by
 have ay:=hb.cs.1;intro s
 induction s generalizing U with
 |zero=>
  intro one hs ae;refine Qb.pure' (Qb.of (args:=[_,_,_,_]) VS Qf S1 ?_)
  repeat refine⟨rfl,?_⟩
  conv=>whnf
  intro B Q z K;have K:Zi Q B #[.slice h.ra h.rl h.rc,.slice h.ca h.cl h.cc]:=K;obtain⟨W,c,ga,gl,gc,aa,al,ac,hx,F,ai,P,-,-,ha,ak,G⟩:=(hb.lg z.lg.frz2).case (show one<h.cl by omega);refine⟨Unit,λ _=>[(1,.int .i64 one),(2,.int .i64 two),(3,.int .i64 0),(4,.pointer (some ⟨B,0,none⟩)),(9,.int .i64 0)],λ _ U'=>U'=Q,λ _=>0,(),T1,rfl,?_⟩;rintro _ f _ rfl;refine⟨_,K.sees3 (o:=1) rfl,W,one,⟨F,rfl,O1⟩,_,(P.lg Qp).cell (i:=3) rfl,?_⟩
  repeat refine⟨rfl,?_⟩
  conv=>whnf
  apply Zr<;>intro V
  .repeat refine⟨rfl,?_⟩
   conv=>whnf
   exact z.lg
  .repeat refine⟨rfl,?_⟩
   conv=>whnf
   exact z.lg
 |succ s ih=>
  intro one hs ae;refine Qb.pure' (Qb.of (args:=[_,_,_,_]) VS Qf S1 ?_)
  repeat refine⟨rfl,?_⟩
  conv=>whnf
  intro B Q z K;have K:Zi Q B #[.slice h.ra h.rl h.rc,.slice h.ca h.cl h.cc]:=K;obtain⟨W,c,ga,gl,gc,aa,al,ac,hx,F,ai,P,-,-,ha,ak,G⟩:=(hb.lg z.lg.frz2).case (show one<h.cl by omega);have am:=Bk.aft1_at hx;have aw:=ha.1;have X:=ao.af c G;have hm:Wo b.A two (s+1) one=(c.af.map Int.toNat).any λ k=>k==two|| Wo b.A two s k:=by rw[<- am];rfl
  rw[hm];have Z:Zu (((s+1:Nat):Int)-1):=I1
  have ap:((s+1:Nat):Int)-1=(s:Int):=O1
  have ah:decide (((s+1:Nat):Int) > 0)=true:=decide_eq_true O1;refine⟨Nat,λ i=>[(1,.int .i64 one),(2,.int .i64 two),(3,.int .i64 (s+1:Nat)),(4,.pointer (some ⟨B,0,none⟩)),(9,.int .i64 i)],λ i U'=>Q.lg U'/\i<=al/\((c.af.take i).map Int.toNat).any (λ k=>k==two|| Wo b.A two s k)=false,λ i=>al-i,0,T1,⟨(Qa.le.refl _).lg,O1,S1⟩,?_⟩;rintro i f U2⟨e,hi,N⟩;have an:Zu ((i:Int)+1):=I1
  have H:Jn U2 (W.add (one*4)) [.string c.nm,.int .i64 c.ag,.slice ga gl gc,.slice aa al ac]:=(P.lg Qp).lg e;have L:=K.lg e;have E:∀{w:Qa T},Q.lg w->U.lg w:=λ h=>z.lg.trans h;refine⟨_,L.sees3 (o:=1) rfl,W,one,⟨F,rfl,O1⟩,_,H.cell (i:=3) rfl,?_⟩
  repeat refine⟨rfl,?_⟩
  conv=>whnf
  apply Zr<;>intro V
  .have hlt:i<al:=by simpa using V
   repeat refine⟨rfl,?_⟩
   conv=>whnf
   rw[ah];obtain⟨aj,x,hy,rfl,ax,aq⟩:=((ha.lg Qp).lg e).at hlt;obtain⟨au,av⟩:=X x (mem_of_getElem? hy);obtain⟨k,rfl⟩:=Int.eq_ofNat_of_zero_le au;have hk:k<b.cs.length:=by unfold Bk.nc at av;omega
   have Y:((c.af.take (i+1)).map Int.toNat).any (λ k=>k==two|| Wo b.A two s k)=(k==two|| Wo b.A two s k):=by
    rw[Ji hy,map_append,any_append,N];simp
   have I:(k==two|| Wo b.A two s k)=true->(c.af.map Int.toNat).any (λ k=>k==two|| Wo b.A two s k)=true:=λ h=>by
    rw[any_eq_true];exact⟨k,mem_map.2 ⟨(k:Int),mem_of_getElem? hy,S1⟩,h⟩
   refine⟨_,L.sees3 (o:=1) rfl,W,one,⟨F,rfl,O1⟩,_,H.cell (i:=3) rfl,aj,i,⟨rfl,rfl,hlt⟩,_,aq,?_⟩
   repeat refine⟨rfl,?_⟩
   conv=>whnf
   apply Zr<;>intro V
   .have hne:k≠two:=by
     have M:((k:Int)==(two:Int))=false:=V;have:=ne_of_beq_false M;omega
    refine⟨_,⟨rfl,L.rd⟩,?_⟩;refine⟨Z,?_⟩;rw[ap];refine⟨VS.any,(ih (U:=U2) ((hb.lg z.lg.frz2).lg e.frz2) k O1 hk).go λ _=>?_⟩;cases ab:Wo b.A two s k with
    |true=>
     rw[I (by rw[ab];simp)]
     repeat refine⟨rfl,?_⟩
     conv=>whnf
     exact E e
    |false=>
     refine⟨an,?_⟩
     conv=>whnf
     exact⟨rfl,i+1,T1,⟨e,O1,by rw[Y,ab];simpa using hne⟩,L1⟩
   .have he:k=two:=by
     have M:((k:Int)==(two:Int))=true:=V;have:=eq_of_beq M;omega
    rw[I (by simp[he])]
    repeat refine⟨rfl,?_⟩
    conv=>whnf
    exact E e
  .have hge:i=al:=by simp at V;omega
   rw[take_of_length_le O1]at N;rw[N]
   repeat refine⟨rfl,?_⟩
   conv=>whnf
   exact E e
end Go.Proofs
namespace Go.TM
variable{T:Type}{P:Program}{S:Sys P T}{U:Qa T}
def Eb(c:UInt8):IntKind.wrap .i64 (c.toNat:Int)=c.toNat:=by
 have:=c.toNat_lt;simp only[IntKind.wrap,IntKind.signed,IntKind.bits];simp;omega
def I8{s:ByteArray}{i:Nat}{c:UInt8}(h:s.data.toList[i]?=some c):s[i]?=some c:=by
 rw[<- h];have:s[i]?=s.data[i]?:=rfl;rw[this,Array.getElem?_toList]
def XR(c:UInt8):Bool:=btw (c.toNat:Int) 97 122
def Hg(c:UInt8):Bool:=btw (c.toNat:Int) 48 57
def E2(c:UInt8):XW c=(!XR c&&!Hg c):=by
 unfold XW XR Hg btw;rw[Bool.eq_iff_iff];simp
def X6:List UInt8->Nat->Bool
 |[],_=>true
 |c::r,i=>(XR c|| (Hg c&&!decide (i=0)))&&X6 r (i+1)
def Fk:∀(l:List UInt8)(i:Nat),0<i->X6 l i=!(l.any XW)
 |[],_,_=>rfl
 |c::r,i,h=>by
  rw[X6,Fk r (i+1) O1,any_cons,E2,Bool.not_or,Bool.not_and,Bool.not_not,Bool.not_not];have:decide (i=0)=false:=decide_eq_false O1;rw[this];cases XR c <;> cases Hg c <;> rfl
def yN(s:ByteArray):Qu s=(btw s.size 1 10&&X6 s.data.toList 0):=by
 unfold Qu;have b:s.size=s.data.toList.length:=(Array.length_toList (xs:=s.data)).symm;cases h:s.data.toList with
 |nil=>
  have:btw (s.size:Int) 1 10=false:=by unfold btw;rw[b,h];rfl
  rw[this];rfl
 |cons c r=>
  congr 1;rw[X6,Fk r 1 O1,any_cons,E2,Bool.not_or,Bool.not_and,Bool.not_not,Bool.not_not]
  have e:(!(decide ((c.toNat:Int)<97))&&!(decide ((c.toNat:Int) > 122)))=XR c:=by
   unfold XR btw;rw[Bool.eq_iff_iff];simp only[Bool.and_eq_true,Bool.not_eq_true',decide_eq_false_iff_not,decide_eq_true_eq];omega
  simp only[e];cases XR c <;> simp
def XE(nr nc:Int)(seen:List ByteArray)(c:Cs):Int:=
 if Qu c.nm then(if QR seen c.nm then 5 else if btw c.ag 0 (nr-1)then(if ZX nr c.gs=0 then J1 nc none c.af else ZX nr c.gs)else 6)else 4
def By(nr nc:Int)(seen:List ByteArray)(c:Cs)(l:List Cs):WC Qu nr nc seen (c::l)=if XE nr nc seen c=0 then WC Qu nr nc (seen++[c.nm]) l else XE nr nc seen c:=by
 have e:WC Qu nr nc seen (c::l)=if Qu c.nm then(if QR seen c.nm then 5 else
   if btw c.ag 0 (nr-1)then(if ZX nr c.gs=0 then(if J1 nc none c.af=0 then WC Qu nr nc (seen++[c.nm]) l else J1 nc none c.af)else ZX nr c.gs)else 6)else 4:=rfl
 rw[e];unfold XE;split
 .split
  .rfl
  .split
   .split
    .rfl
    .rfl
   .rfl
 .rfl
def oE(seen:List ByteArray)(s:ByteArray)(l:List ByteArray):Xl Qu seen (s::l)=if Qu s then(if QR seen s then 5 else Xl Qu (seen++[s]) l)else 4:=rfl
def oh(l:List ByteArray)(x s:ByteArray):QR (l++[x]) s=(QR l s|| decide (x=s)):=by simp[QR]
def jG(nr:Int)(g:List Int)(l:List (List Int)):WV nr (g::l)=if g.length > 3 then 2 else if J1 nr none g=0 then WV nr l else J1 nr none g:=rfl
def Q5.take{a:Option Addr}{len n i:Nat}{α:Type}{l:List α}{R:α->List Value->Prop}(h:Q5 U a len n l R)(f:i<=len):Q5 U a i n (l.take i) R:=by
 refine⟨by rw[length_take,h.1];omega,λ k x b=>?_⟩;have e:=(List.getElem?_eq_some_iff.1 b).1;rw[length_take]at e;rw[getElem?_take_of_lt O1]at b;exact h.2 k x b
theorem J3.at{a:Option Addr}{len:Nat}{z:List (List Int)}(h:J3 U a len z){i:Nat}(G:i<len) :
  ∃b g ga gl gc,z[i]?=some g/\a=some b/\b.spot=none/\U.sees ((b.add (i*1)).add 0) (.slice ga gl gc)/\Z5 U ga gl g/\gl<2^60/\g∈z:=by
 obtain⟨b,g,vs,B,e,w,⟨ga,gl,gc,rfl,E,F⟩,-,f⟩:=Q5.at h G;exact⟨b,g,ga,gl,gc,B,e,w,f 0 _ rfl,E,F,mem_of_getElem? B⟩
end Go.TM
namespace Go.Proofs
open Go.TM
variable{T:Type}{S:TM.Sys Tryz.prog T}{U:Qa T}
attribute [local irreducible] Qb Zl Wt
def Lb(s:ByteArray)(L:s.size<2^60):Qb S 73 #[.string s] (λ v U'=>v=.bool (Qu s)/\U'=U) U:=by
 refine Qb.pure' (Qb.of (args:=[_]) SK Qf S1 ?_);rw[yN];have H:s.size=s.data.toList.length:=(Array.length_toList (xs:=s.data)).symm
 repeat refine⟨rfl,?_⟩
 conv=>whnf
 apply Zr<;>intro e
 .have h0:s.size≠0:=by simpa using e
  repeat refine⟨rfl,?_⟩
  conv=>whnf
  apply Qe<;>intro e
  .have:btw s.size 1 10=false:=by unfold btw;simp at e ⊢;omega
   rw[this]
   repeat refine⟨rfl,?_⟩
   conv=>whnf
   exact(Qa.le.refl _).lg
  .have:btw s.size 1 10=true:=by unfold btw;simp at e ⊢;omega
   rw[this,Bool.true_and];refine⟨Nat,λ i=>[(0,.string s),(3,.int .i64 i)],λ i U'=>U.le U'/\i<=s.size/\X6 s.data.toList 0=X6 (s.data.toList.drop i) i,λ i=>s.size-i,0,T1,⟨.refl _,O1,rfl⟩,?_⟩;rintro i f U₀⟨w,K,b⟩
   repeat refine⟨rfl,?_⟩
   conv=>whnf
   apply Qe<;>intro e
   .have hlt:i<s.size:=by simpa using e
    obtain⟨c,E⟩:∃c,s.data.toList[i]?=some c:=⟨_,getElem?_eq_getElem O1⟩;rw[WT E,X6]at b;refine⟨i,c,⟨rfl,I8 E⟩,.bool (XR c),λ U' z _=>?_,?_⟩
    .refine⟨PM.any,(Ky _ _ _ _).mono ?_⟩;rintro _ F⟨rfl,G⟩-;exact⟨by rw[Eb];rfl,_,.refl _,G▸.refl _⟩
    refine⟨i,c,⟨rfl,I8 E⟩,?_⟩
    conv=>whnf
    intro I z _;refine⟨PM.any,(Ky _ _ _ _).go λ _=>?_⟩;rw[Eb];have B:Zu (i+1):=I1
    have next:X6 s.data.toList 0=X6 (s.data.toList.drop (i+1)) (i+1)->i+1<=s.size/\X6 s.data.toList 0=X6 (s.data.toList.drop (i+1)) (i+1):=λ h=>⟨O1,h⟩
    repeat refine⟨rfl,?_⟩
    conv=>whnf
    apply Zr<;>intro e
    .have h1:XR c=false:=by simpa using e
     repeat refine⟨rfl,?_⟩
     conv=>whnf
     apply Zr<;>intro e
     .have h2:Hg c=true:=by simpa[Hg]using e
      repeat refine⟨rfl,?_⟩
      conv=>whnf
      apply Qe<;>intro e
      .have h3:i=0:=by simpa using e
       repeat refine⟨rfl,?_⟩
       conv=>whnf
       exact⟨by rw[b,h1,h3];simp,(w.trans z).lg⟩
      .have h3:i≠0:=by simpa using e
       refine⟨B,rfl,i+1,T1,⟨w.trans z,next (by rw[b,h1,h2];simp[h3])⟩,L1⟩
     .have h2:Hg c=false:=by simpa[Hg]using e
      repeat refine⟨rfl,?_⟩
      conv=>whnf
      exact⟨by rw[b,h1,h2];simp,(w.trans z).lg⟩
    .have h1:XR c=true:=by simpa using e
     repeat refine⟨rfl,?_⟩
     refine⟨B,rfl,i+1,T1,⟨w.trans z,next (by rw[b,h1];simp)⟩,L1⟩
   .have hge:s.size<=i:=by simpa using e
    rw[drop_eq_nil_of_le O1]at b
    repeat refine⟨rfl,?_⟩
    conv=>whnf
    exact⟨by rw[b];rfl,w.lg⟩
 .have h0:s.size=0:=by simpa using e
  have:btw s.size 1 10=false:=by unfold btw;rw[h0];rfl
  rw[this]
  repeat refine⟨rfl,?_⟩
  conv=>whnf
  exact(Qa.le.refl _).lg
def td(h:BH)(b:Bk)(hb:Zq U.frz h b)(i:Nat)(c:Cs)(hx:b.cs[i]?=some c) :
  Qb S 75 #[h.v,.int .i64 i] (λ v U'=>v=.int .i64 (XE b.nr b.nc ((b.cs.take i).map Cs.nm) c)/\U'=U) U:=by
 refine Qb.pure' (Qb.of (args:=[_,_]) DN Qf S1 ?_);have aq:=hb.cs.1;have au:=hb.cl;have bi:=hb.rs.1;have a2:=hb.rl;have hi:i<h.cl:=by rw[<- aq];exact(List.getElem?_eq_some_iff.1 hx).1
 have bg:b.nr=(h.rl:Int):=by unfold Bk.nr;rw[bi]
 have bf:b.nc=(h.cl:Int):=by unfold Bk.nc;rw[aq]
 have ay:Zu ((h.rl:Int)-1):=I1
 rw[bg,bf]
 repeat refine⟨rfl,?_⟩
 conv=>whnf
 intro B U1 am hB;have hB:Zi U1 B #[.slice h.ra h.rl h.rc,.slice h.ca h.cl h.cc]:=hB;have W:=hb.lg am.lg.frz2;obtain⟨ad,c',ga,gl,gc,aa,al,ac,bk,a9,bs,bh,hg,bq,ha,a8,az⟩:=W.case hi;obtain rfl:c=c':=Option.some.inj (hx.symm.trans bk);have bl:=hb.cn c az;refine⟨_,hB.sees3 (o:=1) rfl,ad,i,⟨a9,rfl,hi⟩,_,⟨rfl,bh.lg Qp⟩,?_⟩
 conv=>whnf
 intro b5 ba;refine⟨_,.refl _,rfl,Zt (vs:=[.string c.nm,.int .i64 c.ag,.slice ga gl gc,.slice aa al ac]) ba rfl (by simp[Value.single]) λ U2 N an=>?_⟩;have ak:=hB.lg N.lg;have ao:=W.lg N.lg.frz2;have hg:=(hg.lg N.lg.frz2);have ha:=(ha.lg N.lg.frz2);have Q:U.lg U2:=am.lg.trans N.lg;refine⟨_,an.sees3 (o:=0) rfl,SK.any,(Lb c.nm bl).go λ _=>?_⟩;cases hn:Qu c.nm with
 |false=>
  have hs:XE h.rl h.cl ((b.cs.take i).map Cs.nm) c=4:=by unfold XE;rw[hn];rfl
  rw[hs]
  repeat refine⟨rfl,?_⟩
  conv=>whnf
  exact Q
 |true=>
 have hs:XE h.rl h.cl ((b.cs.take i).map Cs.nm) c=(if QR ((b.cs.take i).map Cs.nm) c.nm then 5 else if btw c.ag 0 ((h.rl:Int)-1)then(if ZX h.rl c.gs=0 then J1 h.cl none c.af else ZX h.rl c.gs)else 6):=by unfold XE;rw[hn];rfl
 rw[hs];refine⟨Nat,λ k=>[(1,.int .i64 i),(2,.pointer (some ⟨B,0,none⟩)),(5,.pointer (some ⟨b5,0,none⟩)),(6,.int .i64 k)],λ k U'=>U2.le U'/\k<=i/\QR ((b.cs.take k).map Cs.nm) c.nm=false,λ k=>i-k,0,T1,⟨.refl _,O1,by simp[QR]⟩,?_⟩;rintro k f U3⟨F,hk,a0⟩;have M:=ak.lg F.lg;have I:=an.lg F.lg;have ap:=ao.lg F.lg.frz2;have bd:Zu ((k:Int)+1):=I1
 repeat refine⟨rfl,?_⟩
 conv=>whnf
 apply Qe<;>intro E
 .have hlt:k<i:=by simpa using E
  obtain⟨T,c2,ah,aj,ai,bm,bo,bn,a5,L,a4,a1,-,-,-,-,be⟩:=ap.case (show k<h.cl by omega)
  have bj:QR ((b.cs.take (k+1)).map Cs.nm) c.nm=decide (c2.nm=c.nm):=by
   rw[Ji a5,map_append,map_cons,map_nil,oh,a0,Bool.false_or]
  refine⟨_,M.sees3 (o:=1) rfl,T,k,⟨L,rfl,O1⟩,_,(a1.lg Qp).cell (i:=0) rfl,_,I.sees3 (o:=0) rfl,?_⟩
  conv=>whnf
  intro U4 z _
  repeat refine⟨rfl,?_⟩
  conv=>whnf
  apply Qe<;>intro E
  .have e:c2.nm=c.nm:=by rw[Vj]at E;simpa using E
   have a6:QR ((b.cs.take i).map Cs.nm) c.nm=true:=by
    rw[xL,mem_map];refine⟨c2,?_,e⟩;rw[mem_take_iff_getElem];obtain⟨hl,e2⟩:=List.getElem?_eq_some_iff.1 a5;exact⟨k,O1,e2⟩
   rw[a6]
   repeat refine⟨rfl,?_⟩
   conv=>whnf
   exact Q.trans (F.lg.trans z.lg)
  .have e:¬c2.nm=c.nm:=by rw[Vj]at E;simpa using E
   refine⟨bd,?_⟩
   conv=>whnf
   exact⟨rfl,k+1,T1,⟨F.trans z,O1,by rw[bj];simpa using e⟩,L1⟩
 have av:k=i:=by simp at E;omega
 subst av;rw[a0];have G:=Q.trans F.lg;refine⟨_,I.sees3 (o:=1) rfl,_,M.sees3 (o:=0) rfl,ay,PM.any,(Ky U3 c.ag 0 ((h.rl:Int)-1)).go λ _=>?_⟩;cases bp:btw c.ag 0 ((h.rl:Int)-1)with
 |false=>
  repeat refine⟨rfl,?_⟩
  conv=>whnf
  exact G
 |true=>
 refine⟨_,I.sees3 (o:=2) rfl,?_⟩
 repeat refine⟨rfl,?_⟩
 conv=>whnf
 have Y:c.gs.length=gl:=hg.1;apply Qe<;>intro E
 .have ae:ZX h.rl c.gs=2:=by unfold ZX;rw[if_pos (by rw[Y];simp at E;omega)]
  rw[ae]
  repeat refine⟨rfl,?_⟩
  conv=>whnf
  exact G
 have ae:ZX h.rl c.gs=WV h.rl c.gs:=by unfold ZX;rw[if_neg (by rw[Y];simp at E;omega)]
 rw[ae];refine⟨Nat,λ j=>[(1,.int .i64 k),(2,.pointer (some ⟨B,0,none⟩)),(5,.pointer (some ⟨b5,0,none⟩)),(7,.int .i64 j)],λ j U'=>U3.le U'/\j<=gl/\WV h.rl c.gs=WV h.rl (c.gs.drop j),λ j=>gl-j,0,T1,⟨.refl _,O1,rfl⟩,?_⟩;rintro j f U4⟨z,hj,w⟩;have V:=M.lg z.lg;have K:=I.lg z.lg;have bc:=(hg.lg F.lg.frz2).lg z.lg.frz2;have a7:=(ha.lg F.lg.frz2).lg z.lg.frz2;have H:=G.trans z.lg;have ax:Zu ((j:Int)+1):=I1
 refine⟨_,K.sees3 (o:=2) rfl,?_⟩
 repeat refine⟨rfl,?_⟩
 conv=>whnf
 apply Qe<;>intro E
 .have hlt:j<gl:=by simpa using E
  obtain⟨T,g,ah,aj,ai,bb,L,a4,a3,Z,aw,br⟩:=(J3.lg bc Qp).at hlt;have X:=Z.1;rw[WT bb,jG]at w;refine⟨_,K.sees3 (o:=2) rfl,T,j,⟨L,rfl,hlt⟩,_,a3,?_⟩
  repeat refine⟨rfl,?_⟩
  conv=>whnf
  apply Qe<;>intro E
  .have P:g.length > 3:=by rw[X];simp at E;omega
   rw[if_pos P]at w;rw[w]
   repeat refine⟨rfl,?_⟩
   conv=>whnf
   exact H
  have P:¬g.length > 3:=by rw[X];simp at E;omega
  rw[if_neg P]at w;refine⟨_,K.sees3 (o:=2) rfl,T,j,⟨L,rfl,hlt⟩,_,a3,_,V.sees3 (o:=0) rfl,?_⟩
  conv=>whnf
  intro U5 ab _;refine⟨Sa.any,(Dr ah aj ai g (Z.lg ab.lg) aw h.rl a2).go λ _=>?_⟩;by_cases hz:J1 (h.rl:Nat) none g=0
  .rw[if_pos hz]at w;rw[hz]
   repeat refine⟨rfl,?_⟩
   refine⟨ax,?_⟩
   conv=>whnf
   exact⟨rfl,j+1,T1,⟨z.trans ab,O1,w⟩,L1⟩
  .rw[if_neg hz]at w;rw[w,if_neg hz]
   repeat refine⟨rfl,?_⟩
   conv=>whnf
   apply Qe<;>intro E
   .repeat refine⟨rfl,?_⟩
    conv=>whnf
    exact H.trans ab.lg
   .exact absurd (by simpa using E) hz
 have av:j=gl:=by simp at E;omega
 rw[drop_eq_nil_of_le O1]at w;rw[w];refine⟨_,K.sees3 (o:=3) rfl,_,V.sees3 (o:=1) rfl,Sa.any,(Dr aa al ac c.af (a7.lg Qp) a8 h.cl au).go λ _=>?_⟩
 repeat refine⟨rfl,?_⟩
 conv=>whnf
 exact H
def RM(h:BH)(b:Bk)(M:Zq U.frz h b)(E:b.Low):Qb S 76 #[h.v] (λ v U'=>v=.bool (Xx b.A)/\U'=U) U:=by
 refine Qb.pure' (Qb.of (args:=[_]) Fc Qf S1 ?_);have I:=M.cs.1;have Q:=E.nc;have w:b.A.length=h.cl:=by rw[b.A_len,I]
 repeat refine⟨rfl,?_⟩
 conv=>whnf
 intro B L e z;have z:Zi L B #[.slice h.ra h.rl h.rc,.slice h.ca h.cl h.cc]:=z;refine⟨Nat,λ i=>[(1,.pointer (some ⟨B,0,none⟩)),(3,.int .i64 i)],λ i U'=>U'=L/\i<=h.cl/\((range i).any λ i=>Wo b.A i h.cl i)=false,λ i=>h.cl-i,0,T1,⟨rfl,O1,rfl⟩,?_⟩;rintro i f _⟨rfl,T,F⟩;have K:Zu ((i:Int)+1):=I1
 refine⟨_,z.sees3 (o:=1) rfl,?_⟩
 repeat refine⟨rfl,?_⟩
 conv=>whnf
 apply Qe<;>intro N
 .have hlt:i<h.cl:=by simpa using N
  refine⟨_,⟨rfl,z.rd⟩,?_⟩;refine⟨_,z.sees3 (o:=1) rfl,VS.any,(gN h b (M.lg e.lg.frz2) E i O1 h.cl i O1 O1).go λ _=>?_⟩;cases P:Wo b.A i h.cl i with
  |true=>
   have H:Xx b.A=true:=by
    unfold Xx;rw[w,any_eq_true];exact⟨i,mem_range.2 hlt,P⟩
   rw[H]
   repeat refine⟨rfl,?_⟩
   conv=>whnf
   exact e.lg
  |false=>
   refine⟨K,?_⟩
   conv=>whnf
   exact⟨rfl,i+1,T1,⟨rfl,O1,by rw[range_succ,any_append,F];simp[P]⟩,L1⟩
 .have hge:i=h.cl:=by simp at N;omega
  subst hge;have G:Xx b.A=false:=by unfold Xx;rw[w];exact F
  rw[G]
  repeat refine⟨rfl,?_⟩
  conv=>whnf
  exact e.lg
def xZ(h:BH)(b:Bk)(X:Zq U.frz h b)(al:h.rl<=h.rc):Qb S 24 #[h.v] (λ v U'=>v=.int .i64 (b.flaw Qu)/\U'=U) U:=by
 refine Qb.pure' (Qb.of (args:=[_]) D6 Qf S1 ?_);have Z:=X.cs.1;have aj:=X.cl;have ag:=X.rs.1;have ak:=X.rl
 repeat refine⟨rfl,?_⟩
 conv=>whnf
 intro B U1 Q hB;have hB:Zi U1 B #[.slice h.ra h.rl h.rc,.slice h.ca h.cl h.cc]:=hB;have Y:=X.lg Q.lg.frz2;refine⟨_,hB.sees3 (o:=0) rfl,?_⟩
 repeat refine⟨rfl,?_⟩
 conv=>whnf
 apply Qe<;>intro H
 .have z:b.rs.length > 6:=by rw[ag];simp at H;omega
  have I:b.flaw Qu=2:=by unfold Bk.flaw Bk.rsF;rw[if_pos z];rfl
  rw[I]
  repeat refine⟨rfl,?_⟩
  conv=>whnf
  exact Q.lg
 have z:¬b.rs.length > 6:=by rw[ag];simp at H;omega
 have W:b.rsF Qu=Xl Qu [] b.rs:=by unfold Bk.rsF;rw[if_neg z]
 refine⟨Nat,λ i=>[(1,.pointer (some ⟨B,0,none⟩)),(3,.int .i64 i)],λ i U'=>U1.le U'/\i<=h.rl/\Xl Qu [] b.rs=Xl Qu (b.rs.take i) (b.rs.drop i),λ i=>h.rl-i,0,T1,⟨.refl _,O1,rfl⟩,?_⟩;rintro i f U2⟨L,hi,e⟩;have w:=hB.lg L.lg;have G:=Y.lg L.lg.frz2;have F:=Q.lg.trans L.lg;have ai:Zu ((i:Int)+1):=I1
 refine⟨_,w.sees3 (o:=0) rfl,?_⟩
 repeat refine⟨rfl,?_⟩
 conv=>whnf
 apply Qe<;>intro H
 .have hlt:i<h.rl:=by simpa using H
  obtain⟨ad,s,P,V,am,hs,ae⟩:=(G.lg Qp).right hlt;rw[WT P,oE]at e
  have ab:(if h.rc=0 then h.ra else h.ra.map (·.add (0*1)))=h.ra:=by
   rw[V];split
   .rfl
   .rfl
  refine⟨_,w.sees3 (o:=0) rfl,ad,i,⟨V,rfl,hlt⟩,_,hs,SK.any,(Lb s (X.rn s ae)).go λ _=>?_⟩;cases hn:Qu s with
  |false=>
   rw[hn]at e;have I:b.flaw Qu=4:=by unfold Bk.flaw;rw[W,e];rfl
   rw[I]
   repeat refine⟨rfl,?_⟩
   conv=>whnf
   exact F
  |true=>
  rw[if_pos hn]at e;refine⟨_,w.sees3 (o:=0) rfl,0,i,⟨rfl,rfl,O1,O1⟩,?_⟩;rw[ab];refine⟨_,w.sees3 (o:=0) rfl,ad,i,⟨V,rfl,hlt⟩,_,hs,?_⟩
  conv=>whnf
  intro U3 T _;refine⟨ET.any,(N9 h.ra i (h.rc-0) (b.rs.take i) (((G.rs.lg Qp λ _ _ h=>h).lg T.lg λ _ _ h=>h).take O1) O1 s).go λ _=>?_⟩
  conv=>whnf
  rw[EA];cases hh:QR (b.rs.take i) s with
  |true=>
   rw[if_pos hh]at e;have I:b.flaw Qu=5:=by unfold Bk.flaw;rw[W,e];rfl
   rw[I]
   repeat refine⟨rfl,?_⟩
   conv=>whnf
   exact F.trans T.lg
  |false=>
   rw[if_neg (by simp[hh])]at e
   repeat refine⟨rfl,?_⟩
   refine⟨ai,?_⟩
   conv=>whnf
   exact⟨rfl,i+1,T1,⟨L.trans T,O1,by rw[e,Ji P]⟩,L1⟩
 have ah:i=h.rl:=by simp at H;omega
 rw[drop_eq_nil_of_le O1]at e;have K:b.rsF Qu=0:=by rw[W,e];rfl
 refine⟨_,w.sees3 (o:=1) rfl,?_⟩
 repeat refine⟨rfl,?_⟩
 conv=>whnf
 apply Qe<;>intro H
 .have z:b.cs.length > 5:=by rw[Z];simp at H;omega
  have I:b.flaw Qu=2:=by unfold Bk.flaw Bk.csF;rw[if_pos K,if_pos z];rfl
  rw[I]
  repeat refine⟨rfl,?_⟩
  conv=>whnf
  exact F
 have z:¬b.cs.length > 5:=by rw[Z];simp at H;omega
 have aa:b.csF Qu=WC Qu b.nr b.nc [] b.cs:=by unfold Bk.csF;rw[if_neg z]
 refine⟨Nat,λ k=>[(1,.pointer (some ⟨B,0,none⟩)),(4,.int .i64 k)],λ k U'=>U'=U2/\k<=h.cl/\WC Qu b.nr b.nc [] b.cs=WC Qu b.nr b.nc ((b.cs.take k).map Cs.nm) (b.cs.drop k),λ k=>h.cl-k,0,T1,⟨rfl,O1,rfl⟩,?_⟩;rintro k f _⟨rfl,hk,E⟩;have ac:Zu ((k:Int)+1):=I1
 refine⟨_,w.sees3 (o:=1) rfl,?_⟩
 repeat refine⟨rfl,?_⟩
 conv=>whnf
 apply Qe<;>intro H
 .have hlt:k<h.cl:=by simpa using H
  obtain⟨c,P⟩:∃c,b.cs[k]?=some c:=⟨_,getElem?_eq_getElem O1⟩;rw[WT P,By]at E;refine⟨_,⟨rfl,w.rd⟩,?_⟩;refine⟨DN.any,(td h b G k c P).go λ _=>?_⟩;by_cases hz:XE b.nr b.nc ((b.cs.take k).map Cs.nm) c=0
  .rw[if_pos hz]at E;rw[hz]
   repeat refine⟨rfl,?_⟩
   refine⟨ac,?_⟩
   conv=>whnf
   exact⟨rfl,k+1,T1,⟨rfl,O1,by rw[E,Ji P,map_append];rfl⟩,L1⟩
  .rw[if_neg hz]at E;have I:b.flaw Qu=XE b.nr b.nc ((b.cs.take k).map Cs.nm) c:=by unfold Bk.flaw;rw[if_pos K,aa,E,if_neg hz]
   rw[I]
   repeat refine⟨rfl,?_⟩
   conv=>whnf
   apply Qe<;>intro H
   .repeat refine⟨rfl,?_⟩
    conv=>whnf
    exact F
   .exact absurd (by simpa using H) hz
 have ah:k=h.cl:=by simp at H;omega
 rw[drop_eq_nil_of_le O1]at E;have M:b.csF Qu=0:=by rw[aa,E];rfl
 have N:=Bk.low_of M;refine⟨_,⟨rfl,w.rd⟩,?_⟩;refine⟨Fc.any,(RM h b G N).go λ _=>?_⟩
 have hA:∀i,i<b.A.length->∀k∈Je b.A i,k<b.A.length:=by
  intro i hi k hk;rw[b.A_len]at hi ⊢;have P:b.cs[i]?=some (b.cs[i]):=getElem?_eq_getElem hi;rw[Bk.aft1_at P]at hk;obtain⟨n,hn,rfl⟩:=mem_map.1 hk;have:=N.af _ (getElem_mem hi) n hn;unfold Bk.nc at this;omega
 rw[<- Fg hA];have I:b.flaw Qu=if Wq b.A then 8 else 0:=by unfold Bk.flaw;rw[if_pos K,if_pos M]
 rw[I];cases hl:Wq b.A with
 |true=>
  repeat refine⟨rfl,?_⟩
  conv=>whnf
  exact F
 |false=>
  repeat refine⟨rfl,?_⟩
  conv=>whnf
  exact F
structure DH(b:Bk):Prop where
 r:∀s∈b.rs,s.size<2^50
 c:∀c∈b.cs,c.nm.size<2^50
def vY(h:BH)(b:Bk)(Q:Zq U.frz h b)(X:DH b):Qb S 19 #[h.v] (λ v U'=>(∃g,v=.bool g)/\U'=U) U:=by
 refine Qb.pure' (Qb.of (args:=[_]) Er Qf S1 ?_);have a2:=Q.cs.1;have aq:=Q.cl;have a6:=Q.rs.1;have aw:=Q.rl
 repeat refine⟨rfl,?_⟩
 conv=>whnf
 intro B Y z M;have M:Zi Y B #[.slice h.ra h.rl h.rc,.slice h.ca h.cl h.cc]:=M;have L:=Q.lg z.lg.frz2;refine⟨_,M.sees3 (o:=0) rfl,?_⟩
 repeat refine⟨rfl,?_⟩
 conv=>whnf
 apply Zr<;>intro w
 rotate_left
 .repeat refine⟨rfl,?_⟩
  conv=>whnf
  exact⟨⟨_,rfl⟩,z.lg⟩
 have av:h.rl<=40:=by simp at w;omega
 refine⟨_,M.sees3 (o:=1) rfl,?_⟩
 repeat refine⟨rfl,?_⟩
 conv=>whnf
 apply Qe<;>intro w
 .repeat refine⟨rfl,?_⟩
  conv=>whnf
  exact⟨⟨_,rfl⟩,z.lg⟩
 have ap:h.cl<=40:=by simp at w;omega
 refine⟨Nat×Nat,λ y=>[(1,.pointer (some ⟨B,0,none⟩)),(3,.int .i64 y.2),(4,.int .i64 y.1)],λ y U'=>U'=Y/\y.1<=h.rl/\y.2<=y.1*1125899906842624,λ y=>h.rl-y.1,(0,0),T1,⟨rfl,S1,S1⟩,?_⟩;rintro⟨i,n⟩f U2⟨hU,hi,hn⟩;obtain rfl:=hU.symm;simp only at hi hn;have I:Zu ((i:Int)+1):=I1
 refine⟨_,M.sees3 (o:=0) rfl,?_⟩
 repeat refine⟨rfl,?_⟩
 conv=>whnf
 apply Qe<;>intro w
 .have hlt:i<h.rl:=by simpa using w
  obtain⟨Z,s,hx,P,ao,hs,H⟩:=(L.lg Qp).right hlt;have a7:=X.r s H;have G:Zu ((n:Int)+(s.size:Nat)):=I1
  have ak:n+s.size<=(i+1)*1125899906842624:=O1
  refine⟨_,M.sees3 (o:=0) rfl,Z,i,⟨P,rfl,hlt⟩,_,hs,G,I,?_⟩
  conv=>whnf
  exact⟨rfl,(i+1,n+s.size),T1,⟨rfl,by show i+1<=_;omega,ak⟩,L1⟩
 have aj:n<=(40+0)*1125899906842624:=Nat.le_trans hn (Nat.mul_le_mul_right _ (by omega:i<=40+0));clear I;refine⟨Nat×Nat,λ y=>[(1,.pointer (some ⟨B,0,none⟩)),(3,.int .i64 y.2),(5,.int .i64 y.1)],λ y U'=>Y.le U'/\y.1<=h.cl/\y.2<=(40+y.1)*1125899906842624,λ y=>h.cl-y.1,(0,n),T1,⟨.refl _,S1,aj⟩,?_⟩;rintro⟨k,m⟩f U3⟨E,hk,hm⟩;simp only at hk hm;have I:Zu ((k:Int)+1):=I1
 have K:=M.lg E.lg;have T:=L.lg E.lg.frz2;refine⟨_,K.sees3 (o:=1) rfl,?_⟩
 repeat refine⟨rfl,?_⟩
 conv=>whnf
 apply Qe<;>intro w
 .have hlt:k<h.cl:=by simpa using w
  obtain⟨Z,c,ga,gl,gc,aa,al,ac,hx,P,ao,am,hg,a4,ha,a1,H⟩:=T.case hlt;have a8:=X.c c H;refine⟨_,K.sees3 (o:=1) rfl,Z,k,⟨P,rfl,hlt⟩,_,⟨rfl,am.lg Qp⟩,?_⟩
  conv=>whnf
  intro b5 ae;refine⟨_,.refl _,rfl,Zt (vs:=[.string c.nm,.int .i64 c.ag,.slice ga gl gc,.slice aa al ac]) ae rfl (by simp[Value.single]) λ U4 N F=>?_⟩;have e:U.lg U4:=z.lg.trans (E.lg.trans N.lg);have af:=(hg.lg N.lg.frz2);have G:Zu ((m:Int)+(c.nm.size:Nat)):=I1
  have ai:m+c.nm.size<=(40+(k+1))*1125899906842624:=O1
  refine⟨_,F.sees3 (o:=2) rfl,?_⟩
  repeat refine⟨rfl,?_⟩
  conv=>whnf
  apply Zr<;>intro w
  rotate_left
  .repeat refine⟨rfl,?_⟩
   conv=>whnf
   exact⟨⟨_,rfl⟩,e⟩
  refine⟨_,F.sees3 (o:=3) rfl,?_⟩
  repeat refine⟨rfl,?_⟩
  conv=>whnf
  apply Qe<;>intro w
  .repeat refine⟨rfl,?_⟩
   conv=>whnf
   exact⟨⟨_,rfl⟩,e⟩
  refine⟨Nat,λ j=>[(1,.pointer (some ⟨B,0,none⟩)),(3,.int .i64 m),(5,.int .i64 k),(6,.pointer (some ⟨b5,0,none⟩)),(7,.int .i64 j)],λ j U'=>U'=U4/\j<=gl,λ j=>gl-j,0,T1,⟨rfl,O1⟩,?_⟩;rintro j f U5⟨hU,hj⟩;obtain rfl:=hU.symm;have W:Zu ((j:Int)+1):=I1
  refine⟨_,F.sees3 (o:=2) rfl,?_⟩
  repeat refine⟨rfl,?_⟩
  conv=>whnf
  apply Qe<;>intro w
  .have hltj:j<gl:=by simpa using w
   obtain⟨ab,g,ay,a0,az,a3,V,ax,an,ah,au,a5⟩:=(J3.lg af Qp).at hltj;refine⟨_,F.sees3 (o:=2) rfl,ab,j,⟨V,rfl,hltj⟩,_,an,?_⟩
   repeat refine⟨rfl,?_⟩
   conv=>whnf
   apply Qe<;>intro w
   .repeat refine⟨rfl,?_⟩
    conv=>whnf
    exact⟨⟨_,rfl⟩,e⟩
   refine⟨W,?_⟩
   conv=>whnf
   exact⟨rfl,j+1,T1,⟨rfl,O1⟩,L1⟩
  refine⟨_,F.sees3 (o:=0) rfl,G,I,?_⟩
  conv=>whnf
  exact⟨rfl,(k+1,m+c.nm.size),T1,⟨E.trans N,by show k+1<=_;omega,ai⟩,L1⟩
 repeat refine⟨rfl,?_⟩
 conv=>whnf
 exact⟨⟨_,rfl⟩,z.lg.trans E.lg⟩
def Zm1(h:BH)(b:Bk)(H:Zq U.frz h b)(E:DH b)(F:h.rl<=h.rc):Qb S 32 #[h.v] (λ v U'=>(∃g,v=.bool g/\(g=true->b.flaw Qu=0))/\U'=U) U:=by
 refine Qb.pure' (Qb.of (args:=[_]) kh Qf S1 ?_)
 repeat refine⟨rfl,?_⟩
 conv=>whnf
 intro B G f w;have w:Zi G B #[.slice h.ra h.rl h.rc,.slice h.ca h.cl h.cc]:=w;have e:=H.lg f.lg.frz2;refine⟨_,⟨rfl,w.rd⟩,?_⟩;refine⟨Er.any,(vY h b e E).mono ?_⟩;rintro _ U'⟨⟨g,rfl⟩,z⟩-;obtain rfl:=z.symm
 repeat refine⟨rfl,?_⟩
 conv=>whnf
 apply Zr<;>intro I
 .refine⟨_,⟨rfl,w.rd⟩,?_⟩;refine⟨D6.any,(xZ h b e F).go λ _=>?_⟩
  repeat refine⟨rfl,?_⟩
  conv=>whnf
  exact⟨⟨_,rfl,λ h=>by simpa using h⟩,f.lg⟩
 .repeat refine⟨rfl,?_⟩
  conv=>whnf
  exact⟨⟨_,rfl,λ h=>by cases h⟩,f.lg⟩
end Go.Proofs

