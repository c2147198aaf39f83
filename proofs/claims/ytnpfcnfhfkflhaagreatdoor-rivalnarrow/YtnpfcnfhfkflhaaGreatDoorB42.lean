/- Lemmas of the proof. No conditions of their own. -/
import Derived.Test.YtnpfcnfhfkflhaaGreatDoorB41
import Derived.Test.YtnpfcnfhfkflhaaGreatDoorB06
import Derived.Test.YtnpfcnfhfkflhaaGreatDoorB07
set_option linter.all false
set_option maxRecDepth 100000
open List
namespace Go.TM
variable {T:Type} {P:Program} {S:Sys P T} {U U':Qa T}
def Qel (U:Qa T) (a:Option Addr) (len:Nat) (l:List Bool):Prop:=l.length=len/\∀i x,l[i]?=some x->∃ad,a=some ad/\ad.spot=none/\U.sees (ad.add (i*1)) (.bool x)
theorem Qel.lg {a:Option Addr} {len:Nat} {l:List Bool} (h:Qel U a len l) (k:U.lg U'):Qel U' a len l:=⟨h.1,λ i x hx=>let ⟨ad,e,s,hs⟩:=h.2 i x hx;⟨ad,e,s,hs.lg k⟩⟩
theorem Qel.at {a:Option Addr} {len:Nat} {l:List Bool} (h:Qel U a len l) {i:Nat} (hi:i<len):∃ad x,l[i]?=some x/\a=some ad/\ad.spot=none/\U.sees (ad.add (i*1)) (.bool x):=by
 have hil:i<l.length:=by rw [h.1];exact hi
 have hx:l[i]?=some l[i]:=getElem?_eq_getElem hil;obtain⟨ad,e,s,hs⟩:=h.2 i _ hx;exact⟨ad,_,hx,e,s,hs⟩
theorem Qh3 {b:Nat} {l:List Bool} (h:Zi U b (l.map .bool).toArray):Qel U (some ⟨b,0,none⟩) l.length l:=
 ⟨rfl,λ i x hx=>⟨_,rfl,rfl,by rw [Nat.mul_one,Qo];exact h.sees (by rw [Nat.zero_add];simp [hx])⟩⟩
end Go.TM
namespace Go.Proofs
open Go.TM
section
variable {T:Type} {S:TM.Sys Tryz.prog T} {U:Qa T}
attribute [local irreducible] Qb Zl Wt
theorem Qev (a a':Option Addr) (len cap len' cap':Nat) (l l':List Int) (hl:Z5 U a len l) (hl':Z5 U a' len' l') (hlen:len<2 ^ 60) :
  Qb S 28 #[.slice a len cap,.slice a' len' cap'] (λ v U'=>v=.bool (decide (l=l'))/\U'=U) U:=by
 refine Qb.pure' (Qb.of (args:=[_,_]) Qq4 Qf (by simp) ?_);have h1:=hl.1;have h2:=hl'.1
 repeat refine⟨rfl,?_⟩
 conv=>whnf
 apply Qe<;>intro hc
 .have hne:len≠len':=by intro e;subst e;simp at hc
  repeat refine⟨rfl,?_⟩
  refine⟨?_,(Qa.le.refl _).lg⟩;rw [decide_eq_false (λ e=>hne (by rw [<- h1,<- h2,e]))]
 have hee:len=len':=Int.ofNat.inj (by simpa using hc:(len:Int)=len');subst hee;refine⟨Nat,λ i=>[(0,.slice a len cap),(1,.slice a' len cap'),(5,.int .i64 i)],λ i U'=>U.le U'/\i<=len/\l.take i=l'.take i,λ i=>len-i,0,by trivial,⟨.refl _,by omega,rfl⟩,?_⟩;rintro i f U1 ⟨hle,hi,htk⟩
 repeat refine⟨rfl,?_⟩
 conv=>whnf
 apply Qe<;>intro hc
 .have hlt:i<len:=by simpa using hc
  obtain⟨ad,x,hx,rfl,-,hs⟩:=(hl.lg hle.lg).at hlt;obtain⟨ad',y,hy,rfl,-,hs'⟩:=(hl'.lg hle.lg).at hlt;have hin:Zu (i+1):=by unfold Zu;omega
  refine⟨ad,i,⟨rfl,rfl,hlt⟩,_,hs,ad',i,⟨rfl,rfl,hlt⟩,_,hs',?_⟩
  conv=>whnf
  intro U2 hle_2 _
  repeat refine⟨rfl,?_⟩
  conv=>whnf
  apply Qe<;>intro hc
  .have hne:x≠y:=by simpa using hc
   repeat refine⟨rfl,?_⟩
   conv=>whnf
   exact⟨by rw [decide_eq_false (Qle hx hy hne)],(hle.trans hle_2).lg⟩
  .have hxy:x=y:=by simpa using hc
   refine⟨hin,?_⟩
   conv=>whnf
   exact⟨rfl,i+1,by trivial,⟨hle.trans hle_2,by omega,Qcm hx hy htk hxy⟩,by show _-_<_-_;omega⟩
 .have hge:len<=i:=by simpa using hc
  rw [take_of_length_le (by omega),take_of_length_le (by omega)] at htk
  repeat refine⟨rfl,?_⟩
  conv=>whnf
  exact⟨by rw [decide_eq_true htk],hle.lg⟩
theorem W0 (a a':Option Addr) (len cap len' cap':Nat) (l l':List Bool) (hl:Qel U a len l) (hl':Qel U a' len' l') (hlen:len<2 ^ 60) :
  Qb S 25 #[.slice a len cap,.slice a' len' cap'] (λ v U'=>v=.bool (decide (l=l'))/\U'=U) U:=by
 refine Qb.pure' (Qb.of (args:=[_,_]) Qgr Qf (by simp) ?_);have h1:=hl.1;have h2:=hl'.1
 repeat refine⟨rfl,?_⟩
 conv=>whnf
 apply Qe<;>intro hc
 .have hne:len≠len':=by intro e;subst e;simp at hc
  repeat refine⟨rfl,?_⟩
  refine⟨?_,(Qa.le.refl _).lg⟩;rw [decide_eq_false (λ e=>hne (by rw [<- h1,<- h2,e]))]
 have hee:len=len':=Int.ofNat.inj (by simpa using hc:(len:Int)=len');subst hee;refine⟨Nat,λ i=>[(0,.slice a len cap),(1,.slice a' len cap'),(5,.int .i64 i)],λ i U'=>U.le U'/\i<=len/\l.take i=l'.take i,λ i=>len-i,0,by trivial,⟨.refl _,by omega,rfl⟩,?_⟩;rintro i f U1 ⟨hle,hi,htk⟩
 repeat refine⟨rfl,?_⟩
 conv=>whnf
 apply Qe<;>intro hc
 .have hlt:i<len:=by simpa using hc
  obtain⟨ad,x,hx,rfl,-,hs⟩:=(hl.lg hle.lg).at hlt;obtain⟨ad',y,hy,rfl,-,hs'⟩:=(hl'.lg hle.lg).at hlt;have hin:Zu (i+1):=by unfold Zu;omega
  refine⟨ad,i,⟨rfl,rfl,hlt⟩,_,hs,ad',i,⟨rfl,rfl,hlt⟩,_,hs',?_⟩
  conv=>whnf
  intro U2 hle_2 _
  repeat refine⟨rfl,?_⟩
  conv=>whnf
  apply Qe<;>intro hc
  .have hne:x≠y:=by simpa using hc
   repeat refine⟨rfl,?_⟩
   conv=>whnf
   exact⟨by rw [decide_eq_false (Qle hx hy hne)],(hle.trans hle_2).lg⟩
  .have hxy:x=y:=by simpa using hc
   refine⟨hin,?_⟩
   conv=>whnf
   exact⟨rfl,i+1,by trivial,⟨hle.trans hle_2,by omega,Qcm hx hy htk hxy⟩,by show _-_<_-_;omega⟩
 .have hge:len<=i:=by simpa using hc
  rw [take_of_length_le (by omega),take_of_length_le (by omega)] at htk
  repeat refine⟨rfl,?_⟩
  conv=>whnf
  exact⟨by rw [decide_eq_true htk],hle.lg⟩
theorem Qdt (a a':Option Addr) (len cap len' cap':Nat) (l l':List (Int×Int)) (hl:Q5 U a len 2 l λ x vs=>vs=encII x) (hl':Q5 U a' len' 2 l' λ x vs=>vs=encII x) (hlen:len<2 ^ 60) :
  Qb S 54 #[.slice a len cap,.slice a' len' cap'] (λ v U'=>v=.bool (decide (l=l'))/\U'=U) U:=by
 refine Qb.pure' (Qb.of (args:=[_,_]) Qq7 Qf (by simp) ?_);have h1:=hl.1;have h2:=hl'.1
 repeat refine⟨rfl,?_⟩
 conv=>whnf
 apply Qe<;>intro hc
 .have hne:len≠len':=by intro e;subst e;simp at hc
  repeat refine⟨rfl,?_⟩
  refine⟨?_,(Qa.le.refl _).lg⟩;rw [decide_eq_false (λ e=>hne (by rw [<- h1,<- h2,e]))]
 have hee:len=len':=Int.ofNat.inj (by simpa using hc:(len:Int)=len');subst hee;refine⟨Nat,λ i=>[(0,.slice a len cap),(1,.slice a' len cap'),(5,.int .i64 i)],λ i U'=>U.le U'/\i<=len/\l.take i=l'.take i,λ i=>len-i,0,by trivial,⟨.refl _,by omega,rfl⟩,?_⟩;rintro i f U1 ⟨hle,hi,htk⟩
 repeat refine⟨rfl,?_⟩
 conv=>whnf
 apply Qe<;>intro hc
 .have hlt:i<len:=by simpa using hc
  obtain⟨ad,x,vs,hx,rfl,-,rfl,-,hs⟩:=(hl.lg hle.lg λ _ _ h=>h).at hlt;obtain⟨ad',y,vs,hy,rfl,-,rfl,-,hs'⟩:=(hl'.lg hle.lg λ _ _ h=>h).at hlt;have hin:Zu (i+1):=by unfold Zu;omega
  refine⟨ad,i,⟨rfl,rfl,hlt⟩,_,⟨rfl,hs⟩,ad',i,⟨rfl,rfl,hlt⟩,_,⟨rfl,hs'⟩,?_⟩
  conv=>whnf
  intro U2 hle_2 _
  conv=>whnf
  refine Zme Q2o (vs:=encII x) (ws:=encII y) rfl rfl (by kernel_rfl) (by kernel_rfl) ?_
  have heq:Qde (encII x) (encII y)=decide (x=y):=by
   obtain⟨a1,b1⟩:=x;obtain⟨a2,b2⟩:=y;simp [encII,Qde,eqv,Prod.mk.injEq,Bool.decide_and];rfl
  rw [heq]
  repeat refine⟨rfl,?_⟩
  conv=>whnf
  apply Qe<;>intro hc
  .have hne:x≠y:=by simpa using hc
   repeat refine⟨rfl,?_⟩
   conv=>whnf
   exact⟨by rw [decide_eq_false (Qle hx hy hne)],(hle.trans hle_2).lg⟩
  .have hxy:x=y:=by simpa using hc
   refine⟨hin,?_⟩
   conv=>whnf
   exact⟨rfl,i+1,by trivial,⟨hle.trans hle_2,by omega,Qcm hx hy htk hxy⟩,by show _-_<_-_;omega⟩
 .have hge:len<=i:=by simpa using hc
  rw [take_of_length_le (by omega),take_of_length_le (by omega)] at htk
  repeat refine⟨rfl,?_⟩
  conv=>whnf
  exact⟨by rw [decide_eq_true htk],hle.lg⟩
theorem Qpl:Qb S 64 #[] (λ v U'=>(∃h:BH,v=h.v/\Zq U'.frz h Jc)/\U.le U') U:=by
 refine Qb.grown (R:=λ v U'=>∃h:BH,v=h.v/\Zq U' h Jc) (λ v U1 U2 hl ⟨h,e,h1⟩=>⟨h,e,h1.lg hl⟩) (Qb.of (args:=[]) Q10 Qf (by simp) ?_)
 conv=>whnf
 intro b0 hf0;refine⟨_,.refl _,?_⟩;have hl0:=Z4 (U:=U) b0 (.cells #[.slice none 0 0,.slice none 0 0] 25);have hM0:(U.put b0 (.cells #[.slice none 0 0,.slice none 0 0] 25)).M=.obj b0 (.cells [.slice none 0 0,.slice none 0 0].toArray 25 (0,0))::U.M:=rfl;generalize U.put b0 (.cells #[.slice none 0 0,.slice none 0 0] 25)=s0 at hl0 hM0 ⊢
 conv=>whnf
 intro b1 hf1;refine Zk hf1 λ s1 h1 hb1=>?_
 conv=>whnf
 intro b2 hf2;refine Zk hf2 λ s2 h2 hb2=>?_
 conv=>whnf
 intro b3 hf3;refine Zk hf3 λ s3 h3 hb3=>?_
 conv=>whnf
 intro b5 hf5;refine Zk hf5 λ s4 h4 hb5=>?_
 conv=>whnf
 intro b7 hf7;refine Zk hf7 λ s5 h5 hb7=>?_
 conv=>whnf
 intro b8 hf8;refine Zk hf8 λ s6 h6 hb8=>?_
 conv=>whnf
 intro b10 hf10;refine Zk hf10 λ s7 h7 hb10=>?_;have g6:=h7;have g5:=h6.trans g6;have g4:=h5.trans g5;have g3:=h4.trans g4;have g2:=h3.trans g3;have g1:=h2.trans g2;have hle:=h1.trans g1;have hM7:=hle.own.trans hM0
 have hbk:Zq s7.frz ⟨some ⟨b1,0,none⟩,3,3,some ⟨b10,0,none⟩,3,3⟩ Jc:=by
  have k1:Zi s7.frz b1 _:=(hb1.le g1).imI λ _ _ h=>h;have k2:Zi s7.frz b2 _:=(hb2.le g2).imI λ _ _ h=>h;have k3:Zi s7.frz b3 _:=(hb3.le g3).imI λ _ _ h=>h;have k5:Zi s7.frz b5 _:=(hb5.le g4).imI λ _ _ h=>h;have k7:Zi s7.frz b7 _:=(hb7.le g5).imI λ _ _ h=>h;have k8:Zi s7.frz b8 _:=(hb8.le g6).imI λ _ _ h=>h;have k10:Zi s7.frz b10 _:=hb10.imI λ _ _ h=>h
  have one:∀(b:Nat) (n:Int),Zi s7.frz b #[.int .i64 n]->Z5 s7.frz (some ⟨b,0,none⟩) 1 [n]:=λ b n h=>Zi.ints (l:=[n]) h λ i x hx=>by
   cases i with
   | zero=>simp at hx;subst hx;rfl
   | succ i=>simp at hx
  have lst:∀(b:Nat) (a:Option Addr) (len cap:Nat) (g:List Int),Zi s7.frz b #[.slice a len cap]->Z5 s7.frz a len g->len<2 ^ 60->J3 s7.frz (some ⟨b,0,none⟩) 1 [g]:=λ b a len cap g h hg hl=>by
   refine⟨rfl,λ i x hx=>?_⟩;cases i with
   | zero=>
    simp at hx;subst hx;exact⟨_,_,rfl,rfl,⟨a,len,cap,rfl,hg,hl⟩,rfl,by rw [Nat.zero_mul];exact h.reads (λ k v hv=>by simpa using hv)⟩
   | succ i=>simp at hx
  have rd4:∀(o:Nat) (v0 v1 v2 v3:Value) (c:Array Value),Zi s7.frz b10 c->c[o]?=some v0->c[o+1]?=some v1->c[o+2]?=some v2->c[o+3]?=some v3->Jn s7.frz ⟨b10,o,none⟩ [v0,v1,v2,v3]:=by
   intro o v0 v1 v2 v3 c h e0 e1 e2 e3;refine h.reads λ k v hv=>?_;have hk:=(List.getElem?_eq_some_iff.1 hv).1;simp at hk;obtain rfl | rfl | rfl | rfl:k=0\/k=1\/k=2\/k=3:=by omega
   .cases hv;exact e0
   .cases hv;exact e1
   .cases hv;exact e2
   .cases hv;exact e3
  have nil:Z5 s7.frz none 0 []:=⟨rfl,λ i x hx=>by simp at hx⟩;refine⟨⟨rfl,λ i x hx=>?_⟩,⟨rfl,λ i x hx=>?_⟩,by show 3<2 ^ 60;decide,by show 3<2 ^ 60;decide,by decide,by decide⟩
  .refine⟨_,_,rfl,rfl,rfl,rfl,λ k v hv=>?_⟩;have hk:k=0:=by have:=(List.getElem?_eq_some_iff.1 hv).1;simp at this;omega
   subst hk;simp at hv;subst hv;rw [Qo,Qo];refine k1.sees ?_;have hi:i<3:=by have:=(List.getElem?_eq_some_iff.1 hx).1;exact this
   obtain rfl | rfl | rfl:i=0\/i=1\/i=2:=by omega
   all_goals (cases hx;rfl)
  .have hi:i<3:=by have:=(List.getElem?_eq_some_iff.1 hx).1;exact this
   obtain rfl | rfl | rfl:i=0\/i=1\/i=2:=by omega
   .cases hx;exact⟨_,_,rfl,rfl,⟨_,_,_,_,_,_,rfl,lst b3 _ 1 1 _ k3 (one b2 0 k2) (by decide),by decide,nil,by decide⟩,rfl,by rw [Qo];exact rd4 _ _ _ _ _ _ k10 rfl rfl rfl rfl⟩
   .cases hx;exact⟨_,_,rfl,rfl,⟨_,_,_,_,_,_,rfl,lst b5 _ 0 0 _ k5 nil (by decide),by decide,nil,by decide⟩,rfl,by rw [Qo];exact rd4 _ _ _ _ _ _ k10 rfl rfl rfl rfl⟩
   .cases hx;exact⟨_,_,rfl,rfl,⟨_,_,_,_,_,_,rfl,lst b8 _ 1 1 _ k8 (one b7 1 k7) (by decide),by decide,nil,by decide⟩,rfl,by rw [Qo];exact rd4 _ _ _ _ _ _ k10 rfl rfl rfl rfl⟩
 refine⟨rfl,Wh (b:=b0) (e:=25) (c:=#[.slice none 0 0,.slice none 0 0]) (M₀:=U.M) (vs:=[.slice (some ⟨b1,0,none⟩) 3 3,.slice (some ⟨b10,0,none⟩) 3 3]) [] hM7 rfl (by simp [Value.single]) λ s8 hI8 ht8 hM8=>?_⟩;refine⟨_,⟨rfl,Za [] hM8⟩,⟨⟨_,_,_,_,_,_⟩,rfl,hbk.lg ⟨λ x o hx=>by show s8.I x=_;rw [hI8];exact hx,⟨[],rfl⟩,ht8⟩⟩,⟨λ x o hx=>by rw [hI8];exact hle.imm x o (hl0.imm x o hx),⟨[_],hM8⟩,ht8.trans (hle.tok.trans hl0.tok)⟩⟩
end
end Go.Proofs
namespace Go.TM
theorem Qxt:Jc.flaw Qu=0:=by kernel_rfl
theorem Zls:(Jc.outF [0,1,2],Jc.ends [0,1,2])=(0,[false,false,true],[true,true,false]):=by kernel_rfl
theorem Zlt:(Jc.outF [1,0,2],Jc.ends [1,0,2])=(0,[false,true,false],[false,true,true]):=by kernel_rfl
theorem Zlu:Jc.wdF 1=[0]:=by kernel_rfl
theorem Zju:Jc.dcF 0=[1]:=by kernel_rfl
theorem Zjv:Jc.dcF 1=[0,1]:=by kernel_rfl
theorem Qe6:(Jc.askF 0,Jc.askF 1,Jc.askF 2)=(0,0,0):=by kernel_rfl
end Go.TM
namespace Go.Proofs
open Go.TM
def Qty (b:Bk) (r:Nat) (w:Int) (m:Nat) (sd:Nat->Option Bool) (Lf Lt:Option (List (Int×Int))):Bool:=(range b.cans.length).all λ i=>match b.cans[i]? with
 | none=>true
 | some ci=>match (TM.parts (b.cans.drop (i+1)) m).find? (λ q=>b.good r w (ci::q)) with
  | none=>sd i == none
  | some q=>match sd i with
   | some s=>(if s then Lt else Lf) == some (ci::q)
   | none=>false
theorem Qtz {b:Bk} {r:Nat} {w:Int} {m:Nat} {sd:Nat->Option Bool} {Lf Lt:Option (List (Int×Int))} (h:Qty b r w m sd Lf Lt=true):∀i ci,b.cans[i]?=some ci->(TM.parts (b.cans.drop (i+1)) m).find? (λ q=>b.good r w (ci::q))=none->sd i=none:=by
 intro i ci hci hf;unfold Qty at h;rw [all_eq_true] at h;have:=h i (by simpa using (List.getElem?_eq_some_iff.1 hci).1);rw [hci] at this;simp only [hf] at this;simpa using this
theorem Qnq {b:Bk} {r:Nat} {w:Int} {m:Nat} {sd:Nat->Option Bool} {Lf Lt:Option (List (Int×Int))} (h:Qty b r w m sd Lf Lt=true):∀i ci q,b.cans[i]?=some ci->(TM.parts (b.cans.drop (i+1)) m).find? (λ q=>b.good r w (ci::q))=some q->∃s,sd i=some s/\(if s then Lt else Lf)=some (ci::q):=by
 intro i ci q hci hf;unfold Qty at h;rw [all_eq_true] at h;have:=h i (by simpa using (List.getElem?_eq_some_iff.1 hci).1);rw [hci] at this;simp only [hf] at this;cases hs:sd i with
 | none=>rw [hs] at this;cases this
 | some s=>
  rw [hs] at this;exact⟨s,rfl,by simpa using this⟩
def sdA:Nat->Option Bool:=λ i=>if i=0 then some false else none
def sdB:Nat->Option Bool:=λ _=>none
def sdC:Nat->Option Bool:=λ i=>if i=2 then some false else if i=3 then some true else none
theorem Zjf:Qty Jc 1 1 0 sdA (some [(0,1)]) none=true:=by kernel_rfl
theorem Zjg:Qty Jc 2 1 0 sdB none none=true:=by kernel_rfl
theorem Zjh:Qty Jc 2 1 1 sdC (some [(1,0),(2,0)]) (some [(1,2),(2,0)])=true:=by kernel_rfl
theorem Qjb:Jc.cans.Nodup:=by rw [Qxs];decide
theorem Qb3:Jc.cans.length=6:=by rw [Qxs];rfl
theorem Zpr:Qqk Jc 1 1 0 sdA (some [(0,1)]) none where
 n:=Qjb
 pos:=by rw [Qb3];decide
 six:=by rw [Qb3];decide
 m5:=by decide
 len:=λ x hx=>by rcases hx with h | h <;> cases h;decide
 sym:=λ x y _ h=>by cases h
 no:=Qtz Zjf
 yes:=Qnq Zjf
 one:=λ i j s h1 h2=>by
  unfold sdA at h1 h2;split at h1 <;> split at h2 <;> simp_all
 out:=λ s h=>by cases s <;> first | rfl | (rw [Qb3] at h;exact absurd h (by decide))
theorem Zps:Qqk Jc 2 1 0 sdB none none where
 n:=Qjb
 pos:=by rw [Qb3];decide
 six:=by rw [Qb3];decide
 m5:=by decide
 len:=λ x hx=>by rcases hx with h | h <;> cases h
 sym:=λ x y _ h=>by cases h
 no:=Qtz Zjg
 yes:=Qnq Zjg
 one:=λ i j s h1 h2=>by cases h1
 out:=λ s h=>by cases s <;> rfl
theorem Zpt:Qqk Jc 2 1 1 sdC (some [(1,0),(2,0)]) (some [(1,2),(2,0)]) where
 n:=Qjb
 pos:=by rw [Qb3];decide
 six:=by rw [Qb3];decide
 m5:=by decide
 len:=λ x hx=>by rcases hx with h | h <;> cases h <;> decide
 sym:=λ x y h1 h2=>by cases h1;cases h2;rfl
 no:=Qtz Zjh
 yes:=Qnq Zjh
 one:=λ i j s h1 h2=>by
  unfold sdC at h1 h2;split at h1
  .cases h1;split at h2
   .omega
   .split at h2 <;> cases h2
  .split at h1
   .cases h1;split at h2
    .cases h2
    .split at h2
     .omega
     .cases h2
   .cases h1
 out:=λ s h=>by
  rw [Qb3] at h;cases s <;> exact absurd h (by decide)
def FA1:Nat->Option (List (Int×Int)):=λ _=>some [(0,1)]
def FA2:Nat->Option (List (Int×Int)):=λ m=>if m=0 then none else some [(1,0),(2,0)]
theorem Zjw:(Jc.staF 1 true FA1,Jc.staF 2 true FA2)=(some [(0,1)],some [(1,0),(2,0)]):=by kernel_rfl
theorem Zox:∀m,m+1<Jc.cs.length->(∀m',m'<m->FA1 m'=none)->∃sd Lf Lt,Qqk Jc 1 1 m sd Lf Lt/\bst Lf Lt=FA1 m:=by
 intro m hm hno;cases m with
 | zero=>exact⟨_,_,_,Zpr,rfl⟩
 | succ m=>cases hno 0 (by omega)
theorem Zoy:∀m,m+1<Jc.cs.length->(∀m',m'<m->FA2 m'=none)->∃sd Lf Lt,Qqk Jc 2 1 m sd Lf Lt/\bst Lf Lt=FA2 m:=by
 intro m hm hno
 have:m=0\/m=1:=by
  have:Jc.cs.length=3:=rfl;omega
 rcases this with rfl | rfl
 .exact⟨_,_,_,Zps,rfl⟩
 .exact⟨_,_,_,Zpt,rfl⟩
end Go.Proofs
namespace Go.TM
variable {T:Type} {U U':Qa T}
theorem Qaw.c {a:Option Addr} {l:List Bool} {len cap:Nat} (h:Qaw U (.slice a len cap) l):len=l.length/\Qel U a l.length l:=by
 obtain⟨a',cap',e,h⟩:=h;cases e;exact⟨rfl,rfl,h⟩
theorem Qa9 {b:Nat} {l:List Int} (h:Zi U b (l.map λ n=>Value.int .i64 n).toArray):Z5 U (some ⟨b,0,none⟩) l.length l:=
 h.ints λ i x hx=>by simp [hx]
theorem Qx7 {b:Nat} {l:List (Int×Int)} (h:Zi U b (l.flatMap Go.Proofs.encII).toArray):Q5 U (some ⟨b,0,none⟩) l.length 2 l (λ x vs=>vs=Go.Proofs.encII x):=
 Qbp (enc:=Go.Proofs.encII) (n:=2) (λ _=>rfl) (.inr ⟨_,rfl,h.reads (λ k v hv=>by simpa using hv)⟩) (λ ad e=>by cases e;rfl) (by decide)
end Go.TM
namespace Go.Proofs
open Go.TM
attribute [local irreducible] Qb Zl Wt
set_option maxHeartbeats 4000000 in
theorem Zm2 {U:Qa Tk} (htok:U.tok=⟨0,.out,none⟩) (hk:Chk U):Qb Q7 20 #[] (λ v U'=>v=.bool true/\U'=U) U:=by
 refine Qb.pure' (Qb.of (args:=[]) Zii Qf (by simp) ?_);refine⟨Q10.any,Qpl.mono ?_⟩;rintro _ s1 ⟨⟨h,rfl,ht⟩,h1⟩ -
 conv=>whnf
 intro b1 hf1;refine⟨_,.refl _,rfl,Zt (vs:=[.slice h.ra h.rl h.rc,.slice h.ca h.cl h.cc]) hf1 rfl (by simp [Value.single]) λ s2 h2 hb1=>?_⟩;have hb1:Zi s2 b1 #[.slice h.ra h.rl h.rc,.slice h.ca h.cl h.cc]:=hb1;have ht:Zq s2.frz h Jc:=ht.lg h2.lg.frz2;have e2:U.le s2:=h1.trans h2;refine⟨_,⟨rfl,hb1.reads (λ k v hv=>by simpa using hv)⟩,?_⟩
 conv=>whnf
 intro c3 hc3;refine Zk hc3 λ s3 h3 hq3=>?_;have z3:s2.frz.lg s3.frz:=h3.lg.frz2;have e3:U.le s3:=e2.trans h3;have hb1:=hb1.le h3;have ht:=ht.lg z3;have il:Z5 s3.frz (some ⟨c3,0,none⟩) 3 [0,1,2]:=Qa9 (l:=[0,1,2]) (hq3.imI λ _ _ h=>h);refine⟨Qq3.any,(Qfz h Jc ht (hk.lg e3.lg) _ 3 3 [0,1,2] il (by decide)).mono ?_⟩;rintro _ s4 ⟨⟨v1,v2,rfl,hx,hy⟩,h4⟩ -;obtain⟨eo1,eo2⟩:=Prod.mk.inj Zls;have eo2:Jc.ends (List.map Int.toNat [0,1,2])=_:=eo2;rw [eo1,if_pos rfl,eo2] at hx hy;rw [eo1];obtain⟨xa,xc,rfl,-⟩:=id hx;obtain⟨ya,yc,rfl,-⟩:=id hy;have fx:=hx.c.2;have fy:=hy.c.2;clear il hx hy eo1 eo2;have z4:s3.frz.lg s4.frz:=h4.lg.frz2;have e4:U.le s4:=e3.trans h4;have hb1:=hb1.le h4;have ht:=ht.lg z4;refine⟨_,⟨rfl,hb1.reads (λ k v hv=>by simpa using hv)⟩,?_⟩
 conv=>whnf
 intro c5 hc5;refine Zk hc5 λ s5 h5 hq5=>?_;have z5:s4.frz.lg s5.frz:=h5.lg.frz2;have e5:U.le s5:=e4.trans h5;have hb1:=hb1.le h5;have ht:=ht.lg z5;have fx:=fx.lg z5;have fy:=fy.lg z5;have il:Z5 s5.frz (some ⟨c5,0,none⟩) 3 [1,0,2]:=Qa9 (l:=[1,0,2]) (hq5.imI λ _ _ h=>h);refine⟨Qq3.any,(Qfz h Jc ht (hk.lg e5.lg) _ 3 3 [1,0,2] il (by decide)).mono ?_⟩;rintro _ s6 ⟨⟨v1,v2,rfl,hx,hy⟩,h6⟩ -;obtain⟨eo1,eo2⟩:=Prod.mk.inj Zlt;have eo2:Jc.ends (List.map Int.toNat [1,0,2])=_:=eo2;rw [eo1,if_pos rfl,eo2] at hx hy;rw [eo1];obtain⟨ua,uc,rfl,-⟩:=id hx;obtain⟨va,vc,rfl,-⟩:=id hy;have fu:=hx.c.2;have fv:=hy.c.2;clear il hx hy eo1 eo2;have z6:s5.frz.lg s6.frz:=h6.lg.frz2;have e6:U.le s6:=e5.trans h6;have hb1:=hb1.le h6;have ht:=ht.lg z6;have fx:=fx.lg z6;have fy:=fy.lg z6;refine⟨_,⟨rfl,hb1.reads (λ k v hv=>by simpa using hv)⟩,?_⟩;refine⟨Q1x.any,(Quz h Jc ht (hk.lg e6.lg)).mono ?_⟩;rintro _ s7 ⟨⟨v1,v2,rfl,hx,hy⟩,h7⟩ -;rw [Qxt,if_pos rfl] at hx hy;rw [Qxt];rw [Qt5.1] at hx;rw [Qt5.2] at hy;obtain⟨ra,rc,rfl,fr⟩:=hx;obtain⟨ca,cc,rfl,fc⟩:=hy;have z7:s6.frz.lg s7.frz:=h7.lg.frz2;have e7:U.le s7:=e6.trans h7;have hb1:=hb1.le h7;have ht:=ht.lg z7;have fx:=fx.lg z7;have fy:=fy.lg z7;have fu:=fu.lg z7;have fv:=fv.lg z7;refine⟨_,⟨rfl,hb1.reads (λ k v hv=>by simpa using hv)⟩,?_⟩;refine⟨Q1y.any,(Qqr h Jc ht (hk.lg e7.lg) 1).mono ?_⟩;rintro _ s8 ⟨⟨v1,v2,rfl,hx,hy⟩,h8⟩ -;have ea:Jc.askF 1=0:=(Prod.mk.inj (Prod.mk.inj Qe6).2).1;rw [ea,if_pos rfl] at hx hy;rw [ea];have ed1:(Jc.difS (Int.toNat 1) true).map (λ (k:Nat)=>(k:Int))=[1,0,2]:=by rw [show Jc.difS (Int.toNat 1) true=_ from Q3o.1];rfl
 have ed2:(Jc.difS (Int.toNat 1) false).map (λ (k:Nat)=>(k:Int))=[0,1,2]:=by rw [show Jc.difS (Int.toNat 1) false=_ from Q3o.2];rfl
 rw [ed1] at hx;rw [ed2] at hy;obtain⟨la,lc,rfl,fl⟩:=hx;obtain⟨ka,kc,rfl,fk⟩:=hy;clear ea ed1 ed2;have z8:s7.frz.lg s8.frz:=h8.lg.frz2;have e8:U.le s8:=e7.trans h8;have hb1:=hb1.le h8;have ht:=ht.lg z8;have fx:=fx.lg z8;have fy:=fy.lg z8;have fu:=fu.lg z8;have fv:=fv.lg z8;have fr:=fr.lg z8;have fc:=fc.lg z8;refine⟨_,⟨rfl,hb1.reads (λ k v hv=>by simpa using hv)⟩,?_⟩;refine⟨Qq6.any,(Qii (e8.tok.trans htok) h Jc ht (hk.lg e8.lg) 1 true FA1 λ _ _ _=>Zox).mono ?_⟩;rintro _ s9 ⟨⟨v1,rfl,hx⟩,h9⟩ -;have es:Jc.staF 1 true FA1=some [(0,1)]:=(Prod.mk.inj Zjw).1;have ea:Jc.askF 1=0:=(Prod.mk.inj (Prod.mk.inj Qe6).2).1;rw [es] at hx;rw [es,ea];obtain⟨sa,sc,rfl,fs⟩:=hx;have fs:Q5 s9.frz sa 1 2 [(0,1)] (λ x vs=>vs=encII x):=fs;clear es ea;have z9:s8.frz.lg s9.frz:=h9.lg.frz2;have e9:U.le s9:=e8.trans h9;have hb1:=hb1.le h9;have ht:=ht.lg z9;have fx:=fx.lg z9;have fy:=fy.lg z9;have fu:=fu.lg z9;have fv:=fv.lg z9;have fr:=fr.lg z9;have fc:=fc.lg z9;have fl:=fl.lg z9;have fk:=fk.lg z9;refine⟨_,⟨rfl,hb1.reads (λ k v hv=>by simpa using hv)⟩,?_⟩;refine⟨Qq6.any,(Qii (e9.tok.trans htok) h Jc ht (hk.lg e9.lg) 2 true FA2 λ _ _ _=>Zoy).mono ?_⟩;rintro _ s10 ⟨⟨v1,rfl,hx⟩,h10⟩ -;have es:Jc.staF 2 true FA2=some [(1,0),(2,0)]:=(Prod.mk.inj Zjw).2;have ea:Jc.askF 2=0:=(Prod.mk.inj (Prod.mk.inj Qe6).2).2;rw [es] at hx;rw [es,ea];obtain⟨ta,tc,rfl,ft⟩:=hx;have ft:Q5 s10.frz ta 2 2 [(1,0),(2,0)] (λ x vs=>vs=encII x):=ft;clear es ea;have z10:s9.frz.lg s10.frz:=h10.lg.frz2;have e10:U.le s10:=e9.trans h10;have hb1:=hb1.le h10;have ht:=ht.lg z10;have fx:=fx.lg z10;have fy:=fy.lg z10;have fu:=fu.lg z10;have fv:=fv.lg z10;have fr:=fr.lg z10;have fc:=fc.lg z10;have fl:=fl.lg z10;have fk:=fk.lg z10;have fs:=fs.lg z10 λ _ _ h=>h;refine⟨_,⟨rfl,hb1.reads (λ k v hv=>by simpa using hv)⟩,?_⟩;refine⟨Q1z.any,(Qlz h Jc ht (hk.lg e10.lg) 1).mono ?_⟩;rintro _ s11 ⟨⟨v1,rfl,hx⟩,h11⟩ -;have ea:Jc.askF 1=0:=(Prod.mk.inj (Prod.mk.inj Qe6).2).1;rw [Zlu] at hx;rw [ea];obtain⟨wa,wc,rfl,fw⟩:=hx;clear ea;have z11:s10.frz.lg s11.frz:=h11.lg.frz2;have e11:U.le s11:=e10.trans h11;have hb1:=hb1.le h11;have ht:=ht.lg z11;have fx:=fx.lg z11;have fy:=fy.lg z11;have fu:=fu.lg z11;have fv:=fv.lg z11;have fr:=fr.lg z11;have fc:=fc.lg z11;have fl:=fl.lg z11;have fk:=fk.lg z11;have fs:=fs.lg z11 λ _ _ h=>h;have ft:=ft.lg z11 λ _ _ h=>h;refine⟨_,⟨rfl,hb1.reads (λ k v hv=>by simpa using hv)⟩,?_⟩;refine⟨Qq5.any,(Qgh h Jc ht (hk.lg e11.lg) 0).mono ?_⟩;rintro _ s12 ⟨⟨v1,rfl,hx⟩,h12⟩ -;have ea:Jc.askF 0=0:=(Prod.mk.inj Qe6).1;rw [Zju] at hx;rw [ea];obtain⟨ma,mc,rfl,fm⟩:=hx;clear ea;have z12:s11.frz.lg s12.frz:=h12.lg.frz2;have e12:U.le s12:=e11.trans h12;have hb1:=hb1.le h12;have ht:=ht.lg z12;have fx:=fx.lg z12;have fy:=fy.lg z12;have fu:=fu.lg z12;have fv:=fv.lg z12;have fr:=fr.lg z12;have fc:=fc.lg z12;have fl:=fl.lg z12;have fk:=fk.lg z12;have fs:=fs.lg z12 λ _ _ h=>h;have ft:=ft.lg z12 λ _ _ h=>h;have fw:=fw.lg z12;refine⟨_,⟨rfl,hb1.reads (λ k v hv=>by simpa using hv)⟩,?_⟩;refine⟨Qq5.any,(Qgh h Jc ht (hk.lg e12.lg) 1).mono ?_⟩;rintro _ s13 ⟨⟨v1,rfl,hx⟩,h13⟩ -;have ea:Jc.askF 1=0:=(Prod.mk.inj (Prod.mk.inj Qe6).2).1;rw [Zjv] at hx;rw [ea];obtain⟨na,nc,rfl,fn⟩:=hx;clear ea;have z13:s12.frz.lg s13.frz:=h13.lg.frz2;have e13:U.le s13:=e12.trans h13;have hb1:=hb1.le h13;have ht:=ht.lg z13;have fx:=fx.lg z13;have fy:=fy.lg z13;have fu:=fu.lg z13;have fv:=fv.lg z13;have fr:=fr.lg z13;have fc:=fc.lg z13;have fl:=fl.lg z13;have fk:=fk.lg z13;have fs:=fs.lg z13 λ _ _ h=>h;have ft:=ft.lg z13 λ _ _ h=>h;have fw:=fw.lg z13;have fm:=fm.lg z13
 repeat refine⟨rfl,?_⟩
 conv=>whnf
 intro c14 hc14;refine Zk hc14 λ s14 h14 hq14=>?_;have z14:s13.frz.lg s14.frz:=h14.lg.frz2;have e14:U.le s14:=e13.trans h14;have fx:=fx.lg z14;have fy:=fy.lg z14;have fu:=fu.lg z14;have fv:=fv.lg z14;have fr:=fr.lg z14;have fc:=fc.lg z14;have fl:=fl.lg z14;have fk:=fk.lg z14;have fs:=fs.lg z14 λ _ _ h=>h;have ft:=ft.lg z14 λ _ _ h=>h;have fw:=fw.lg z14;have fm:=fm.lg z14;have fn:=fn.lg z14;have q:Qel s14.frz (some ⟨c14,0,none⟩) 3 [false,false,true]:=Qh3 (l:=[false,false,true]) (hq14.imI λ _ _ h=>h);refine⟨Qgr.any,(W0 xa _ 3 xc 3 3 [false,false,true] [false,false,true] (fx.lg Qp) (q.lg Qp) (by decide)).go λ _=>?_⟩;rw [decide_eq_true (rfl:([false,false,true]:List Bool)=[false,false,true])];clear q
 conv=>whnf
 intro c15 hc15;refine Zk hc15 λ s15 h15 hq15=>?_;have z15:s14.frz.lg s15.frz:=h15.lg.frz2;have e15:U.le s15:=e14.trans h15;have fx:=fx.lg z15;have fy:=fy.lg z15;have fu:=fu.lg z15;have fv:=fv.lg z15;have fr:=fr.lg z15;have fc:=fc.lg z15;have fl:=fl.lg z15;have fk:=fk.lg z15;have fs:=fs.lg z15 λ _ _ h=>h;have ft:=ft.lg z15 λ _ _ h=>h;have fw:=fw.lg z15;have fm:=fm.lg z15;have fn:=fn.lg z15;have q:Qel s15.frz (some ⟨c15,0,none⟩) 3 [true,true,false]:=Qh3 (l:=[true,true,false]) (hq15.imI λ _ _ h=>h);refine⟨Qgr.any,(W0 ya _ 3 yc 3 3 [true,true,false] [true,true,false] (fy.lg Qp) (q.lg Qp) (by decide)).go λ _=>?_⟩;rw [decide_eq_true (rfl:([true,true,false]:List Bool)=[true,true,false])];clear q
 conv=>whnf
 intro c16 hc16;refine Zk hc16 λ s16 h16 hq16=>?_;have z16:s15.frz.lg s16.frz:=h16.lg.frz2;have e16:U.le s16:=e15.trans h16;have fx:=fx.lg z16;have fy:=fy.lg z16;have fu:=fu.lg z16;have fv:=fv.lg z16;have fr:=fr.lg z16;have fc:=fc.lg z16;have fl:=fl.lg z16;have fk:=fk.lg z16;have fs:=fs.lg z16 λ _ _ h=>h;have ft:=ft.lg z16 λ _ _ h=>h;have fw:=fw.lg z16;have fm:=fm.lg z16;have fn:=fn.lg z16;have q:Qel s16.frz (some ⟨c16,0,none⟩) 3 [false,true,false]:=Qh3 (l:=[false,true,false]) (hq16.imI λ _ _ h=>h);refine⟨Qgr.any,(W0 ua _ 3 uc 3 3 [false,true,false] [false,true,false] (fu.lg Qp) (q.lg Qp) (by decide)).go λ _=>?_⟩;rw [decide_eq_true (rfl:([false,true,false]:List Bool)=[false,true,false])];clear q
 conv=>whnf
 intro c17 hc17;refine Zk hc17 λ s17 h17 hq17=>?_;have z17:s16.frz.lg s17.frz:=h17.lg.frz2;have e17:U.le s17:=e16.trans h17;have fx:=fx.lg z17;have fy:=fy.lg z17;have fu:=fu.lg z17;have fv:=fv.lg z17;have fr:=fr.lg z17;have fc:=fc.lg z17;have fl:=fl.lg z17;have fk:=fk.lg z17;have fs:=fs.lg z17 λ _ _ h=>h;have ft:=ft.lg z17 λ _ _ h=>h;have fw:=fw.lg z17;have fm:=fm.lg z17;have fn:=fn.lg z17;have q:Qel s17.frz (some ⟨c17,0,none⟩) 3 [false,true,true]:=Qh3 (l:=[false,true,true]) (hq17.imI λ _ _ h=>h);refine⟨Qgr.any,(W0 va _ 3 vc 3 3 [false,true,true] [false,true,true] (fv.lg Qp) (q.lg Qp) (by decide)).go λ _=>?_⟩;rw [decide_eq_true (rfl:([false,true,true]:List Bool)=[false,true,true])];clear q
 conv=>whnf
 intro c18 hc18;refine Zk hc18 λ s18 h18 hq18=>?_;have z18:s17.frz.lg s18.frz:=h18.lg.frz2;have e18:U.le s18:=e17.trans h18;have fx:=fx.lg z18;have fy:=fy.lg z18;have fu:=fu.lg z18;have fv:=fv.lg z18;have fr:=fr.lg z18;have fc:=fc.lg z18;have fl:=fl.lg z18;have fk:=fk.lg z18;have fs:=fs.lg z18 λ _ _ h=>h;have ft:=ft.lg z18 λ _ _ h=>h;have fw:=fw.lg z18;have fm:=fm.lg z18;have fn:=fn.lg z18;have q:Z5 s18.frz (some ⟨c18,0,none⟩) 3 [2,0,0]:=Qa9 (l:=[2,0,0]) (hq18.imI λ _ _ h=>h);refine⟨Qq4.any,(Qev ra _ 3 rc 3 3 [2,0,0] [2,0,0] (fr.lg Qp) (q.lg Qp) (by decide)).go λ _=>?_⟩;rw [decide_eq_true (rfl:([2,0,0]:List Int)=[2,0,0])];clear q
 conv=>whnf
 intro c19 hc19;refine Zk hc19 λ s19 h19 hq19=>?_;have z19:s18.frz.lg s19.frz:=h19.lg.frz2;have e19:U.le s19:=e18.trans h19;have fx:=fx.lg z19;have fy:=fy.lg z19;have fu:=fu.lg z19;have fv:=fv.lg z19;have fr:=fr.lg z19;have fc:=fc.lg z19;have fl:=fl.lg z19;have fk:=fk.lg z19;have fs:=fs.lg z19 λ _ _ h=>h;have ft:=ft.lg z19 λ _ _ h=>h;have fw:=fw.lg z19;have fm:=fm.lg z19;have fn:=fn.lg z19;have q:Z5 s19.frz (some ⟨c19,0,none⟩) 3 [0,1,0]:=Qa9 (l:=[0,1,0]) (hq19.imI λ _ _ h=>h);refine⟨Qq4.any,(Qev ca _ 3 cc 3 3 [0,1,0] [0,1,0] (fc.lg Qp) (q.lg Qp) (by decide)).go λ _=>?_⟩;rw [decide_eq_true (rfl:([0,1,0]:List Int)=[0,1,0])];clear q
 conv=>whnf
 intro c20 hc20;refine Zk hc20 λ s20 h20 hq20=>?_;have z20:s19.frz.lg s20.frz:=h20.lg.frz2;have e20:U.le s20:=e19.trans h20;have fx:=fx.lg z20;have fy:=fy.lg z20;have fu:=fu.lg z20;have fv:=fv.lg z20;have fr:=fr.lg z20;have fc:=fc.lg z20;have fl:=fl.lg z20;have fk:=fk.lg z20;have fs:=fs.lg z20 λ _ _ h=>h;have ft:=ft.lg z20 λ _ _ h=>h;have fw:=fw.lg z20;have fm:=fm.lg z20;have fn:=fn.lg z20;have q:Z5 s20.frz (some ⟨c20,0,none⟩) 3 [1,0,2]:=Qa9 (l:=[1,0,2]) (hq20.imI λ _ _ h=>h);refine⟨Qer.any,(Qa1 la _ 3 lc 3 3 [1,0,2] [1,0,2] (fl.lg Qp) (q.lg Qp) (by decide)).go λ _=>?_⟩;rw [decide_eq_true (rfl:([1,0,2]:List Int)=[1,0,2])];clear q
 conv=>whnf
 intro c21 hc21;refine Zk hc21 λ s21 h21 hq21=>?_;have z21:s20.frz.lg s21.frz:=h21.lg.frz2;have e21:U.le s21:=e20.trans h21;have fx:=fx.lg z21;have fy:=fy.lg z21;have fu:=fu.lg z21;have fv:=fv.lg z21;have fr:=fr.lg z21;have fc:=fc.lg z21;have fl:=fl.lg z21;have fk:=fk.lg z21;have fs:=fs.lg z21 λ _ _ h=>h;have ft:=ft.lg z21 λ _ _ h=>h;have fw:=fw.lg z21;have fm:=fm.lg z21;have fn:=fn.lg z21;have q:Z5 s21.frz (some ⟨c21,0,none⟩) 3 [0,1,2]:=Qa9 (l:=[0,1,2]) (hq21.imI λ _ _ h=>h);refine⟨Qer.any,(Qa1 ka _ 3 kc 3 3 [0,1,2] [0,1,2] (fk.lg Qp) (q.lg Qp) (by decide)).go λ _=>?_⟩;rw [decide_eq_true (rfl:([0,1,2]:List Int)=[0,1,2])];clear q
 conv=>whnf
 intro c22 hc22;refine Zk hc22 λ s22 h22 hq22=>?_;have z22:s21.frz.lg s22.frz:=h22.lg.frz2;have e22:U.le s22:=e21.trans h22;have fx:=fx.lg z22;have fy:=fy.lg z22;have fu:=fu.lg z22;have fv:=fv.lg z22;have fr:=fr.lg z22;have fc:=fc.lg z22;have fl:=fl.lg z22;have fk:=fk.lg z22;have fs:=fs.lg z22 λ _ _ h=>h;have ft:=ft.lg z22 λ _ _ h=>h;have fw:=fw.lg z22;have fm:=fm.lg z22;have fn:=fn.lg z22;have q:Q5 s22.frz (some ⟨c22,0,none⟩) 1 2 [(0,1)] (λ x vs=>vs=encII x):=Qx7 (l:=[(0,1)]) (hq22.imI λ _ _ h=>h);refine⟨Qq7.any,(Qdt sa _ 1 sc 1 1 [(0,1)] [(0,1)] (fs.lg Qp λ _ _ h=>h) (q.lg Qp λ _ _ h=>h) (by decide)).go λ _=>?_⟩;rw [decide_eq_true (rfl:([(0,1)]:List (Int×Int))=[(0,1)])];clear q
 conv=>whnf
 intro c23 hc23;refine Zk hc23 λ s23 h23 hq23=>?_;have z23:s22.frz.lg s23.frz:=h23.lg.frz2;have e23:U.le s23:=e22.trans h23;have fx:=fx.lg z23;have fy:=fy.lg z23;have fu:=fu.lg z23;have fv:=fv.lg z23;have fr:=fr.lg z23;have fc:=fc.lg z23;have fl:=fl.lg z23;have fk:=fk.lg z23;have fs:=fs.lg z23 λ _ _ h=>h;have ft:=ft.lg z23 λ _ _ h=>h;have fw:=fw.lg z23;have fm:=fm.lg z23;have fn:=fn.lg z23;have q:Q5 s23.frz (some ⟨c23,0,none⟩) 2 2 [(1,0),(2,0)] (λ x vs=>vs=encII x):=Qx7 (l:=[(1,0),(2,0)]) (hq23.imI λ _ _ h=>h);refine⟨Qq7.any,(Qdt ta _ 2 tc 2 2 [(1,0),(2,0)] [(1,0),(2,0)] (ft.lg Qp λ _ _ h=>h) (q.lg Qp λ _ _ h=>h) (by decide)).go λ _=>?_⟩;rw [decide_eq_true (rfl:([(1,0),(2,0)]:List (Int×Int))=[(1,0),(2,0)])];clear q
 conv=>whnf
 intro c24 hc24;refine Zk hc24 λ s24 h24 hq24=>?_;have z24:s23.frz.lg s24.frz:=h24.lg.frz2;have e24:U.le s24:=e23.trans h24;have fx:=fx.lg z24;have fy:=fy.lg z24;have fu:=fu.lg z24;have fv:=fv.lg z24;have fr:=fr.lg z24;have fc:=fc.lg z24;have fl:=fl.lg z24;have fk:=fk.lg z24;have fs:=fs.lg z24 λ _ _ h=>h;have ft:=ft.lg z24 λ _ _ h=>h;have fw:=fw.lg z24;have fm:=fm.lg z24;have fn:=fn.lg z24;have q:Z5 s24.frz (some ⟨c24,0,none⟩) 1 [0]:=Qa9 (l:=[0]) (hq24.imI λ _ _ h=>h);refine⟨Qer.any,(Qa1 wa _ 1 wc 1 1 [0] [0] (fw.lg Qp) (q.lg Qp) (by decide)).go λ _=>?_⟩;rw [decide_eq_true (rfl:([0]:List Int)=[0])];clear q
 conv=>whnf
 intro c25 hc25;refine Zk hc25 λ s25 h25 hq25=>?_;have z25:s24.frz.lg s25.frz:=h25.lg.frz2;have e25:U.le s25:=e24.trans h25;have fx:=fx.lg z25;have fy:=fy.lg z25;have fu:=fu.lg z25;have fv:=fv.lg z25;have fr:=fr.lg z25;have fc:=fc.lg z25;have fl:=fl.lg z25;have fk:=fk.lg z25;have fs:=fs.lg z25 λ _ _ h=>h;have ft:=ft.lg z25 λ _ _ h=>h;have fw:=fw.lg z25;have fm:=fm.lg z25;have fn:=fn.lg z25;have q:Z5 s25.frz (some ⟨c25,0,none⟩) 1 [1]:=Qa9 (l:=[1]) (hq25.imI λ _ _ h=>h);refine⟨Qer.any,(Qa1 ma _ 1 mc 1 1 [1] [1] (fm.lg Qp) (q.lg Qp) (by decide)).go λ _=>?_⟩;rw [decide_eq_true (rfl:([1]:List Int)=[1])];clear q
 conv=>whnf
 intro c26 hc26;refine Zk hc26 λ s26 h26 hq26=>?_;have z26:s25.frz.lg s26.frz:=h26.lg.frz2;have e26:U.le s26:=e25.trans h26;have fx:=fx.lg z26;have fy:=fy.lg z26;have fu:=fu.lg z26;have fv:=fv.lg z26;have fr:=fr.lg z26;have fc:=fc.lg z26;have fl:=fl.lg z26;have fk:=fk.lg z26;have fs:=fs.lg z26 λ _ _ h=>h;have ft:=ft.lg z26 λ _ _ h=>h;have fw:=fw.lg z26;have fm:=fm.lg z26;have fn:=fn.lg z26;have q:Z5 s26.frz (some ⟨c26,0,none⟩) 2 [0,1]:=Qa9 (l:=[0,1]) (hq26.imI λ _ _ h=>h);refine⟨Qer.any,(Qa1 na _ 2 nc 2 2 [0,1] [0,1] (fn.lg Qp) (q.lg Qp) (by decide)).go λ _=>?_⟩;rw [decide_eq_true (rfl:([0,1]:List Int)=[0,1])];clear q
 repeat refine⟨rfl,?_⟩
 conv=>whnf
 exact e26.lg
end Go.Proofs
namespace Go.TM
theorem Qqi (a b:ByteArray):(a.toList == b.toList)=decide (a=b):=by
 by_cases h:a=b
 .simp [h]
 .have:a.toList≠b.toList:=λ e=>h (by
   rw [ByteArray.toList_eq,ByteArray.toList_eq] at e;exact ByteArray.ext (Array.toList_inj.1 e))
  simp [h,this]
variable {T:Type} {P:Program} {S:Sys P T} {U:Qa T}
def Q3s (s:ByteArray):Nat->List ByteArray->Int
 | _,[]=>-1
 | i,x::l=>if x=s then i else Q3s s (i+1) l
theorem Q3t (s:ByteArray):∀(l:List ByteArray) (i:Nat),decide (Q3s s i l ≥ 0)=Qa8 l s
 | [],_=>rfl
 | x::l,i=>by
  unfold Q3s Qa8;rw [any_cons];by_cases e:x=s
  .rw [if_pos e];simp [e]
  .rw [if_neg e,decide_eq_false e,Bool.false_or];exact Q3t s l (i+1)
theorem Zf8 (s x:ByteArray) (i:Nat) (l:List ByteArray):Q3s s i (x::l)=if x=s then (i:Int) else Q3s s (i+1) l:=rfl
theorem Qx4 {b:Int}:∀{l:List Int} {p:Option Int} {n:Int},J1 b p l=0->J1 b p (l++[n])=if btw n 0 (b-1) then (match (l.getLast?).or p with | some m=>if n<=m then 7 else 0 | none=>0) else 6
 | [],p,n,_=>by
  rw [nil_append,Wm];cases p <;> rfl
 | x::l,p,n,h=>by
  rw [Wm] at h;rw [cons_append,Wm];split at h
  .rename_i hb;rw [if_pos hb]
   have key:J1 b (some x) l=0->J1 b (some x) (l++[n])=if btw n 0 (b-1) then (match ((x::l).getLast?).or p with | some m=>if n<=m then 7 else 0 | none=>0) else 6:=λ h=>by
    rw [Qx4 h];cases l with
    | nil=>simp
    | cons y l=>
     rw [getLast?_cons_cons];obtain⟨z,hz⟩:∃z,(y::l).getLast?=some z:=⟨_,getLast?_eq_some_getLast (cons_ne_nil y l)⟩;rw [hz];rfl
   cases p with
   | none=>exact key h
   | some m=>
    simp only at h ⊢;split at h
    .cases h
    .rename_i hm;rw [if_neg hm];exact key h
  .cases h
theorem Quo {b:Int}:∀{l l':List Int} {p:Option Int},J1 b p l≠0->J1 b p (l++l')=J1 b p l
 | [],_,_,h=>absurd rfl h
 | x::l,l',p,h=>by
  rw [Wm] at h;rw [cons_append,Wm,Wm];split at h
  .rename_i hb;rw [if_pos hb,if_pos hb];cases p with
   | none=>exact Quo h
   | some m=>
    simp only at h ⊢;split at h
    .rename_i hm;rw [if_pos hm,if_pos hm]
    .rename_i hm;rw [if_neg hm,if_neg hm];exact Quo h
  .rename_i hb;rw [if_neg hb,if_neg hb]
end Go.TM
namespace Go.Proofs
open Go.TM
variable {T:Type} {S:TM.Sys Tryz.prog T} {U:Qa T}
attribute [local irreducible] Qb Zl Wt
theorem Qyu (a:Option Addr) (len cap:Nat) (l:List ByteArray) (hl:Q5 U a len 1 l λ s vs=>vs=[.string s]) (hlen:len<2 ^ 60) (s:ByteArray) :
  Qb S 74 #[.slice a len cap,.string s] (λ v U'=>v=.int .i64 (Q3s s 0 l)/\U'=U) U:=by
 refine Qb.of (args:=[_,_]) Q12 Qf (by simp) ?_;have hll:=hl.1;refine⟨Nat,λ i=>[(0,.slice a len cap),(1,.string s),(5,.int .i64 i)],λ i U'=>U'=U/\i<=len/\Q3s s 0 l=Q3s s i (l.drop i),λ i=>len-i,0,by trivial,⟨rfl,by omega,rfl⟩,?_⟩;rintro i f _ ⟨rfl,hi,hinv⟩;have hin:Zu ((i:Int)+1):=by unfold Zu;omega
 repeat refine⟨rfl,?_⟩
 conv=>whnf
 apply Qe<;>intro hc
 .have hlt:i<len:=by simpa using hc
  obtain⟨ad,x,vs,hx,rfl,hsp,rfl,-,hrd⟩:=hl.at hlt;rw [Qad hx,Zf8] at hinv;refine⟨ad,i,⟨rfl,rfl,hlt⟩,_,hrd 0 _ rfl,?_⟩
  repeat refine⟨rfl,?_⟩
  conv=>whnf
  apply Qe<;>intro hc
  .have e:x=s:=by rw [Qqi] at hc;simpa using hc
   rw [if_pos e] at hinv;rw [hinv]
   repeat refine⟨rfl,?_⟩
   conv=>whnf
  .have e:x≠s:=by rw [Qqi] at hc;simpa using hc
   rw [if_neg e] at hinv;refine⟨hin,?_⟩
   conv=>whnf
   exact⟨rfl,i+1,by trivial,⟨rfl,by omega,hinv⟩,by show _-_<_-_;omega⟩
 .have hge:i=len:=by simp at hc;omega
  rw [drop_eq_nil_of_le (by omega)] at hinv;rw [hinv]
  repeat refine⟨rfl,?_⟩
  conv=>whnf
theorem Qg0 (a:Option Addr) (len cap:Nat) (l:List Int) (hl:Z5 U a len l) (hlen:len<2 ^ 60) (n:Nat) (hn:n<2 ^ 60) :
  Qb S 93 #[.slice a len cap,.int .i64 n] (λ v U'=>v=.int .i64 (J1 n none l)/\U'=U) U:=by
 refine Qb.pure' (Qb.of (args:=[_,_]) Qri Qf (by simp) ?_);have hll:=hl.1;have hin0:Zu ((n:Int)-1):=by unfold Zu;omega
 refine⟨Nat,λ i=>[(0,.slice a len cap),(1,.int .i64 n),(5,.int .i64 i)],λ i U'=>U.lg U'/\i<=len/\J1 n none (l.take i)=0,λ i=>len-i,0,by trivial,⟨(Qa.le.refl _).lg,by omega,rfl⟩,?_⟩;rintro i f U1 ⟨hlg,hi,hinv⟩;have hin:Zu ((i:Int)+1):=by unfold Zu;omega
 repeat refine⟨rfl,?_⟩
 conv=>whnf
 apply Qe<;>intro hc
 .have hlt:i<len:=by simpa using hc
  obtain⟨ad,x,hx,rfl,hsp,hs⟩:=(hl.lg hlg).at hlt;have hstep:J1 n none (l.take (i+1))=if btw x 0 ((n:Int)-1) then (match ((l.take i).getLast?).or none with | some m=>if x<=m then 7 else 0 | none=>0) else 6:=by rw [Ji hx];exact Qx4 hinv
  have hbad:J1 n none (l.take (i+1))≠0->J1 n none l=J1 n none (l.take (i+1)):=λ h=>by
   have:=Quo (l':=l.drop (i+1)) h
   rwa [take_append_drop] at this
  refine⟨ad,i,⟨rfl,rfl,hlt⟩,_,hs,hin0,Qep.any,(Qfk U1 x 0 ((n:Int)-1)).go λ _=>?_⟩;cases hb:btw x 0 ((n:Int)-1) with
  | false=>
   rw [hb,if_neg (by simp)] at hstep;rw [hbad (by rw [hstep];decide),hstep]
   repeat refine⟨rfl,?_⟩
   conv=>whnf
   exact hlg
  | true=>
   rw [if_pos hb] at hstep
   repeat refine⟨rfl,?_⟩
   conv=>whnf
   apply Zr<;>intro hc
   .have h0:0<i:=by simpa using hc
    obtain⟨j,rfl⟩:∃j,i=j+1:=⟨i-1,by omega⟩;obtain⟨y,hy⟩:∃y,l[j]?=some y:=⟨_,getElem?_eq_getElem (by omega)⟩;have hlast:(l.take (j+1)).getLast?=some y:=by rw [Ji hy];simp
    rw [hlast,Option.some_or] at hstep;simp only at hstep;obtain⟨ad',e',hsp',hs'⟩:=(hl.lg hlg).2 j y hy;cases e';have hinj:Zu (((j+1:Nat):Int)-1):=by unfold Zu;omega
    have hj1:((j+1:Nat):Int)-1=(j:Int):=by omega
    refine⟨ad,j+1,⟨rfl,rfl,hlt⟩,_,hs,hinj,?_⟩;rw [hj1];refine⟨ad,j,⟨rfl,rfl,by omega⟩,_,hs',?_⟩
    conv=>whnf
    intro U2 h_2 _
    repeat refine⟨rfl,?_⟩
    conv=>whnf
    apply Qe<;>intro hc
    .have hle:x<=y:=by simpa using hc
     rw [if_pos hle] at hstep;rw [hbad (by rw [hstep];decide),hstep]
     repeat refine⟨rfl,?_⟩
     conv=>whnf
     exact hlg.trans h_2.lg
    .have hle:¬x<=y:=by simp at hc;omega
     rw [if_neg hle] at hstep;refine⟨hin,?_⟩
     conv=>whnf
     exact⟨rfl,j+1+1,by trivial,⟨hlg.trans h_2.lg,by omega,hstep⟩,by show _-_<_-_;omega⟩
   .have h0:i=0:=by simp at hc;omega
    subst h0;have hstep:J1 n none (l.take (0+1))=0:=hstep
    conv=>whnf
    intro U2 h_2 _;refine⟨hin,?_⟩
    conv=>whnf
    exact⟨rfl,0+1,by trivial,⟨hlg.trans h_2.lg,by omega,hstep⟩,by show _-_<_-_;omega⟩
 .have hge:i=len:=by simp at hc;omega
  rw [take_of_length_le (by omega)] at hinv;rw [hinv]
  repeat refine⟨rfl,?_⟩
  conv=>whnf
  exact hlg
theorem Qy4 (h:BH) (b:Bk) (hb:Zq U.frz h b) (hlo:b.Low) (two:Nat) (h2:two<60):∀(s one:Nat),s<=60->one<b.cs.length ->
  Qb S 129 #[h.v,.int .i64 one,.int .i64 two,.int .i64 s] (λ v U'=>v=.bool (Wo b.A two s one)/\U'=U) U:=by
 have hcl:=hb.cs.1;intro s
 induction s generalizing U with
 | zero=>
  intro one hs hone;refine Qb.pure' (Qb.of (args:=[_,_,_,_]) Qho Qf (by simp) ?_)
  repeat refine⟨rfl,?_⟩
  conv=>whnf
  intro B U1 h_1 hB;have hB:Zi U1 B #[.slice h.ra h.rl h.rc,.slice h.ca h.cl h.cc]:=hB;obtain⟨ad,c,ga,gl,gc,aa,al,ac,hx,hea,hspa,hrd,-,-,ha,hal,hmem⟩:=(hb.lg h_1.lg.frz2).case (show one<h.cl by omega);refine⟨Unit,λ _=>[(1,.int .i64 one),(2,.int .i64 two),(3,.int .i64 0),(4,.pointer (some ⟨B,0,none⟩)),(9,.int .i64 0)],λ _ U'=>U'=U1,λ _=>0,(),by trivial,rfl,?_⟩;rintro _ f _ rfl;refine⟨_,hB.sees3 (o:=1) rfl,ad,one,⟨hea,rfl,by omega⟩,_,(hrd.lg Qp).cell (i:=3) rfl,?_⟩
  repeat refine⟨rfl,?_⟩
  conv=>whnf
  apply Zr<;>intro hc
  .repeat refine⟨rfl,?_⟩
   conv=>whnf
   exact h_1.lg
  .repeat refine⟨rfl,?_⟩
   conv=>whnf
   exact h_1.lg
 | succ s ih=>
  intro one hs hone;refine Qb.pure' (Qb.of (args:=[_,_,_,_]) Qho Qf (by simp) ?_)
  repeat refine⟨rfl,?_⟩
  conv=>whnf
  intro B U1 h_1 hB;have hB:Zi U1 B #[.slice h.ra h.rl h.rc,.slice h.ca h.cl h.cc]:=hB;obtain⟨ad,c,ga,gl,gc,aa,al,ac,hx,hea,hspa,hrd,-,-,ha,hal,hmem⟩:=(hb.lg h_1.lg.frz2).case (show one<h.cl by omega);have hat:=Bk.aft1_at hx;have hal':=ha.1;have hafr:=hlo.af c hmem;have hm:Wo b.A two (s+1) one=(c.af.map Int.toNat).any λ k=>k == two || Wo b.A two s k:=by rw [<- hat];rfl
  rw [hm];have hin0:Zu (((s+1:Nat):Int)-1):=by unfold Zu;omega
  have hs1:((s+1:Nat):Int)-1=(s:Int):=by omega
  have hpos:decide (((s+1:Nat):Int) > 0)=true:=decide_eq_true (by omega);refine⟨Nat,λ i=>[(1,.int .i64 one),(2,.int .i64 two),(3,.int .i64 (s+1:Nat)),(4,.pointer (some ⟨B,0,none⟩)),(9,.int .i64 i)],λ i U'=>U1.lg U'/\i<=al/\((c.af.take i).map Int.toNat).any (λ k=>k == two || Wo b.A two s k)=false,λ i=>al-i,0,by trivial,⟨(Qa.le.refl _).lg,by omega,by simp⟩,?_⟩;rintro i f U2 ⟨hlg,hi,hno⟩;have hin:Zu ((i:Int)+1):=by unfold Zu;omega
  have hrd2:Jn U2 (ad.add (one*4)) [.string c.nm,.int .i64 c.ag,.slice ga gl gc,.slice aa al ac]:=(hrd.lg Qp).lg hlg;have hB2:=hB.lg hlg;have hfin:∀{w:Qa T},U1.lg w->U.lg w:=λ h=>h_1.lg.trans h;refine⟨_,hB2.sees3 (o:=1) rfl,ad,one,⟨hea,rfl,by omega⟩,_,hrd2.cell (i:=3) rfl,?_⟩
  repeat refine⟨rfl,?_⟩
  conv=>whnf
  apply Zr<;>intro hc
  .have hlt:i<al:=by simpa using hc
   repeat refine⟨rfl,?_⟩
   conv=>whnf
   rw [hpos];obtain⟨ad2,x,hy,rfl,hsp2,hs2⟩:=((ha.lg Qp).lg hlg).at hlt;obtain⟨hx0,hx1⟩:=hafr x (mem_of_getElem? hy);obtain⟨k,rfl⟩:=Int.eq_ofNat_of_zero_le hx0;have hk:k<b.cs.length:=by unfold Bk.nc at hx1;omega
   have hany:((c.af.take (i+1)).map Int.toNat).any (λ k=>k == two || Wo b.A two s k)=(k == two || Wo b.A two s k):=by
    rw [Ji hy,map_append,any_append,hno];simp
   have hyes:(k == two || Wo b.A two s k)=true->(c.af.map Int.toNat).any (λ k=>k == two || Wo b.A two s k)=true:=λ h=>by
    rw [any_eq_true];exact⟨k,mem_map.2 ⟨(k:Int),mem_of_getElem? hy,by simp⟩,h⟩
   refine⟨_,hB2.sees3 (o:=1) rfl,ad,one,⟨hea,rfl,by omega⟩,_,hrd2.cell (i:=3) rfl,ad2,i,⟨rfl,rfl,hlt⟩,_,hs2,?_⟩
   repeat refine⟨rfl,?_⟩
   conv=>whnf
   apply Zr<;>intro hc
   .have hne:k≠two:=by
     have hc':((k:Int) == (two:Int))=false:=hc;have:=ne_of_beq_false hc';omega
    refine⟨_,⟨rfl,hB2.reads (λ k v hv=>by simpa using hv)⟩,?_⟩;refine⟨hin0,?_⟩;rw [hs1];refine⟨Qho.any,(ih (U:=U2) ((hb.lg h_1.lg.frz2).lg hlg.frz2) k (by omega) hk).go λ _=>?_⟩;cases hmk:Wo b.A two s k with
    | true=>
     rw [hyes (by rw [hmk];simp)]
     repeat refine⟨rfl,?_⟩
     conv=>whnf
     exact hfin hlg
    | false=>
     refine⟨hin,?_⟩
     conv=>whnf
     exact⟨rfl,i+1,by trivial,⟨hlg,by omega,by rw [hany,hmk];simpa using hne⟩,by show _-_<_-_;omega⟩
   .have he:k=two:=by
     have hc':((k:Int) == (two:Int))=true:=hc;have:=eq_of_beq hc';omega
    rw [hyes (by simp [he])]
    repeat refine⟨rfl,?_⟩
    conv=>whnf
    exact hfin hlg
  .have hge:i=al:=by simp at hc;omega
   rw [take_of_length_le (by omega)] at hno;rw [hno]
   repeat refine⟨rfl,?_⟩
   conv=>whnf
   exact hfin hlg
end Go.Proofs
namespace Go.TM
variable {T:Type} {P:Program} {S:Sys P T} {U:Qa T}
theorem Zc4 (c:UInt8):IntKind.wrap .i64 (c.toNat:Int)=c.toNat:=by
 have:=c.toNat_lt;simp only [IntKind.wrap,IntKind.signed,IntKind.bits];simp;omega
theorem Zm7 {s:ByteArray} {i:Nat} {c:UInt8} (h:s.data.toList[i]?=some c):s[i]?=some c:=by
 rw [<- h];have:s[i]?=s.data[i]?:=rfl;rw [this,Array.getElem?_toList]
def Qzw (c:UInt8):Bool:=btw (c.toNat:Int) 97 122
def Za1 (c:UInt8):Bool:=btw (c.toNat:Int) 48 57
theorem Q3d (c:UInt8):Qk7 c=(!Qzw c && !Za1 c):=by
 unfold Qk7 Qzw Za1 btw;rw [Bool.eq_iff_iff];simp
def Qp2:List UInt8->Nat->Bool
 | [],_=>true
 | c::r,i=>(Qzw c || (Za1 c && !decide (i=0))) && Qp2 r (i+1)
theorem Q36:∀(l:List UInt8) (i:Nat),0<i->Qp2 l i=!(l.any Qk7)
 | [],_,_=>rfl
 | c::r,i,h=>by
  rw [Qp2,Q36 r (i+1) (by omega),any_cons,Q3d,Bool.not_or,Bool.not_and,Bool.not_not,Bool.not_not];have:decide (i=0)=false:=decide_eq_false (by omega);rw [this];cases Qzw c <;> cases Za1 c <;> rfl
theorem Zgf (s:ByteArray):Qu s=(btw s.size 1 10 && Qp2 s.data.toList 0):=by
 unfold Qu;have hsz:s.size=s.data.toList.length:=(Array.length_toList (xs:=s.data)).symm;cases h:s.data.toList with
 | nil=>
  have:btw (s.size:Int) 1 10=false:=by unfold btw;rw [hsz,h];rfl
  rw [this];rfl
 | cons c r=>
  congr 1;rw [Qp2,Q36 r 1 (by omega),any_cons,Q3d,Bool.not_or,Bool.not_and,Bool.not_not,Bool.not_not]
  have e1:(!(decide ((c.toNat:Int)<97)) && !(decide ((c.toNat:Int) > 122)))=Qzw c:=by
   unfold Qzw btw;rw [Bool.eq_iff_iff];simp only [Bool.and_eq_true,Bool.not_eq_true',decide_eq_false_iff_not,decide_eq_true_eq];omega
  simp only [e1];cases Qzw c <;> simp
def Qvl (nr nc:Int) (seen:List ByteArray) (c:Cs):Int:=
 if Qu c.nm then (if Qa8 seen c.nm then 5 else if btw c.ag 0 (nr-1) then (if Qfp nr c.gs=0 then J1 nc none c.af else Qfp nr c.gs) else 6) else 4
theorem Zfz (nr nc:Int) (seen:List ByteArray) (c:Cs) (l:List Cs):Qi9 Qu nr nc seen (c::l)=if Qvl nr nc seen c=0 then Qi9 Qu nr nc (seen++[c.nm]) l else Qvl nr nc seen c:=by
 have e:Qi9 Qu nr nc seen (c::l)=if Qu c.nm then (if Qa8 seen c.nm then 5 else
   if btw c.ag 0 (nr-1) then (if Qfp nr c.gs=0 then (if J1 nc none c.af=0 then Qi9 Qu nr nc (seen++[c.nm]) l else J1 nc none c.af) else Qfp nr c.gs) else 6) else 4:=rfl
 rw [e];unfold Qvl;split
 .split
  .rfl
  .split
   .split
    .rfl
    .rfl
   .rfl
 .rfl
theorem Zge (seen:List ByteArray) (s:ByteArray) (l:List ByteArray):Quj Qu seen (s::l)=if Qu s then (if Qa8 seen s then 5 else Quj Qu (seen++[s]) l) else 4:=rfl
theorem Zgb (l:List ByteArray) (x s:ByteArray):Qa8 (l++[x]) s=(Qa8 l s || decide (x=s)):=by simp [Qa8]
theorem Zf9 (nr:Int) (g:List Int) (l:List (List Int)):Qnu nr (g::l)=if g.length > 3 then 2 else if J1 nr none g=0 then Qnu nr l else J1 nr none g:=rfl
theorem Q5.take {a:Option Addr} {len n i:Nat} {α:Type} {l:List α} {R:α->List Value->Prop} (h:Q5 U a len n l R) (hi:i<=len):Q5 U a i n (l.take i) R:=by
 refine⟨by rw [length_take,h.1];omega,λ k x hx=>?_⟩;have hk:=(List.getElem?_eq_some_iff.1 hx).1;rw [length_take] at hk;rw [getElem?_take_of_lt (by omega)] at hx;exact h.2 k x hx
theorem J3.at {a:Option Addr} {len:Nat} {ls:List (List Int)} (h:J3 U a len ls) {i:Nat} (hi:i<len) :
  ∃ad g ga gl gc,ls[i]?=some g/\a=some ad/\ad.spot=none/\U.sees ((ad.add (i*1)).add 0) (.slice ga gl gc)/\Z5 U ga gl g/\gl<2 ^ 60/\g∈ls:=by
 obtain⟨ad,g,vs,hx,hea,hsp,⟨ga,gl,gc,rfl,h1,h2⟩,-,hrd⟩:=Q5.at h hi;exact⟨ad,g,ga,gl,gc,hx,hea,hsp,hrd 0 _ rfl,h1,h2,mem_of_getElem? hx⟩
end Go.TM
namespace Go.Proofs
open Go.TM
variable {T:Type} {S:TM.Sys Tryz.prog T} {U:Qa T}
attribute [local irreducible] Qb Zl Wt
theorem Qiq (s:ByteArray) (hs:s.size<2 ^ 60):Qb S 73 #[.string s] (λ v U'=>v=.bool (Qu s)/\U'=U) U:=by
 refine Qb.pure' (Qb.of (args:=[_]) Qrb Qf (by simp) ?_);rw [Zgf];have hsz:s.size=s.data.toList.length:=(Array.length_toList (xs:=s.data)).symm
 repeat refine⟨rfl,?_⟩
 conv=>whnf
 apply Zr<;>intro hc
 .have h0:s.size≠0:=by simpa using hc
  repeat refine⟨rfl,?_⟩
  conv=>whnf
  apply Qe<;>intro hc
  .have:btw s.size 1 10=false:=by unfold btw;simp at hc ⊢;omega
   rw [this]
   repeat refine⟨rfl,?_⟩
   conv=>whnf
   exact (Qa.le.refl _).lg
  .have:btw s.size 1 10=true:=by unfold btw;simp at hc ⊢;omega
   rw [this,Bool.true_and];refine⟨Nat,λ i=>[(0,.string s),(3,.int .i64 i)],λ i U'=>U.le U'/\i<=s.size/\Qp2 s.data.toList 0=Qp2 (s.data.toList.drop i) i,λ i=>s.size-i,0,by trivial,⟨.refl _,by omega,rfl⟩,?_⟩;rintro i f U₀ ⟨hle0,hi,hinv⟩
   repeat refine⟨rfl,?_⟩
   conv=>whnf
   apply Qe<;>intro hc
   .have hlt:i<s.size:=by simpa using hc
    obtain⟨c,hx⟩:∃c,s.data.toList[i]?=some c:=⟨_,getElem?_eq_getElem (by omega)⟩;rw [Qad hx,Qp2] at hinv;refine⟨i,c,⟨rfl,Zm7 hx⟩,.bool (Qzw c),λ U' hle _=>?_,?_⟩
    .refine⟨Qep.any,(Qfk _ _ _ _).mono ?_⟩;rintro _ U'' ⟨rfl,hU⟩ -;exact⟨by rw [Zc4];rfl,_,.refl _,hU ▸ .refl _⟩
    refine⟨i,c,⟨rfl,Zm7 hx⟩,?_⟩
    conv=>whnf
    intro U1 hle _;refine⟨Qep.any,(Qfk _ _ _ _).go λ _=>?_⟩;rw [Zc4];have hin:Zu (i+1):=by unfold Zu;omega
    have next:Qp2 s.data.toList 0=Qp2 (s.data.toList.drop (i+1)) (i+1)->i+1<=s.size/\Qp2 s.data.toList 0=Qp2 (s.data.toList.drop (i+1)) (i+1):=λ h=>⟨by omega,h⟩
    repeat refine⟨rfl,?_⟩
    conv=>whnf
    apply Zr<;>intro hc
    .have h1:Qzw c=false:=by simpa using hc
     repeat refine⟨rfl,?_⟩
     conv=>whnf
     apply Zr<;>intro hc
     .have h2:Za1 c=true:=by simpa [Za1] using hc
      repeat refine⟨rfl,?_⟩
      conv=>whnf
      apply Qe<;>intro hc
      .have h3:i=0:=by simpa using hc
       repeat refine⟨rfl,?_⟩
       conv=>whnf
       exact⟨by rw [hinv,h1,h3];simp,(hle0.trans hle).lg⟩
      .have h3:i≠0:=by simpa using hc
       refine⟨hin,rfl,i+1,by trivial,⟨hle0.trans hle,next (by rw [hinv,h1,h2];simp [h3])⟩,by show _-_<_-_;omega⟩
     .have h2:Za1 c=false:=by simpa [Za1] using hc
      repeat refine⟨rfl,?_⟩
      conv=>whnf
      exact⟨by rw [hinv,h1,h2];simp,(hle0.trans hle).lg⟩
    .have h1:Qzw c=true:=by simpa using hc
     repeat refine⟨rfl,?_⟩
     refine⟨hin,rfl,i+1,by trivial,⟨hle0.trans hle,next (by rw [hinv,h1];simp)⟩,by show _-_<_-_;omega⟩
   .have hge:s.size<=i:=by simpa using hc
    rw [drop_eq_nil_of_le (by omega)] at hinv
    repeat refine⟨rfl,?_⟩
    conv=>whnf
    exact⟨by rw [hinv];rfl,hle0.lg⟩
 .have h0:s.size=0:=by simpa using hc
  have:btw s.size 1 10=false:=by unfold btw;rw [h0];rfl
  rw [this]
  repeat refine⟨rfl,?_⟩
  conv=>whnf
  exact (Qa.le.refl _).lg
theorem Qjo (h:BH) (b:Bk) (hb:Zq U.frz h b) (i:Nat) (c:Cs) (hx:b.cs[i]?=some c) :
  Qb S 75 #[h.v,.int .i64 i] (λ v U'=>v=.int .i64 (Qvl b.nr b.nc ((b.cs.take i).map Cs.nm) c)/\U'=U) U:=by
 refine Qb.pure' (Qb.of (args:=[_,_]) Q13 Qf (by simp) ?_);have hcl:=hb.cs.1;have hcl':=hb.cl;have hrl:=hb.rs.1;have hrl':=hb.rl;have hi:i<h.cl:=by rw [<- hcl];exact (List.getElem?_eq_some_iff.1 hx).1
 have hnr:b.nr=(h.rl:Int):=by unfold Bk.nr;rw [hrl]
 have hnc:b.nc=(h.cl:Int):=by unfold Bk.nc;rw [hcl]
 have hinr:Zu ((h.rl:Int)-1):=by unfold Zu;omega
 rw [hnr,hnc]
 repeat refine⟨rfl,?_⟩
 conv=>whnf
 intro B U1 h_1 hB;have hB:Zi U1 B #[.slice h.ra h.rl h.rc,.slice h.ca h.cl h.cc]:=hB;have hb_1:=hb.lg h_1.lg.frz2;obtain⟨ad,c',ga,gl,gc,aa,al,ac,hx',hea,hsp,hrd,hg,hgl,ha,hal,hmem⟩:=hb_1.case hi;obtain rfl:c=c':=Option.some.inj (hx.symm.trans hx');have hxn:=hb.cn c hmem;refine⟨_,hB.sees3 (o:=1) rfl,ad,i,⟨hea,rfl,hi⟩,_,⟨rfl,hrd.lg Qp⟩,?_⟩
 conv=>whnf
 intro b5 hf5;refine⟨_,.refl _,rfl,Zt (vs:=[.string c.nm,.int .i64 c.ag,.slice ga gl gc,.slice aa al ac]) hf5 rfl (by simp [Value.single]) λ U2 h_2 hb5=>?_⟩;have hB_2:=hB.lg h_2.lg;have hb_2:=hb_1.lg h_2.lg.frz2;have hg:=(hg.lg h_2.lg.frz2);have ha:=(ha.lg h_2.lg.frz2);have hend:U.lg U2:=h_1.lg.trans h_2.lg;refine⟨_,hb5.sees3 (o:=0) rfl,Qrb.any,(Qiq c.nm hxn).go λ _=>?_⟩;cases hn:Qu c.nm with
 | false=>
  have hs:Qvl h.rl h.cl ((b.cs.take i).map Cs.nm) c=4:=by unfold Qvl;rw [hn];rfl
  rw [hs]
  repeat refine⟨rfl,?_⟩
  conv=>whnf
  exact hend
 | true=>
 have hs:Qvl h.rl h.cl ((b.cs.take i).map Cs.nm) c=(if Qa8 ((b.cs.take i).map Cs.nm) c.nm then 5 else if btw c.ag 0 ((h.rl:Int)-1) then (if Qfp h.rl c.gs=0 then J1 h.cl none c.af else Qfp h.rl c.gs) else 6):=by unfold Qvl;rw [hn];rfl
 rw [hs];refine⟨Nat,λ k=>[(1,.int .i64 i),(2,.pointer (some ⟨B,0,none⟩)),(5,.pointer (some ⟨b5,0,none⟩)),(6,.int .i64 k)],λ k U'=>U2.le U'/\k<=i/\Qa8 ((b.cs.take k).map Cs.nm) c.nm=false,λ k=>i-k,0,by trivial,⟨.refl _,by omega,by simp [Qa8]⟩,?_⟩;rintro k f U3 ⟨h_3,hk,hno⟩;have hB_3:=hB_2.lg h_3.lg;have hb5₃:=hb5.lg h_3.lg;have hb_3:=hb_2.lg h_3.lg.frz2;have hin:Zu ((k:Int)+1):=by unfold Zu;omega
 repeat refine⟨rfl,?_⟩
 conv=>whnf
 apply Qe<;>intro hc
 .have hlt:k<i:=by simpa using hc
  obtain⟨ad2,c2,ga2,gl2,gc2,aa2,al2,ac2,hx2,hea2,hsp2,hrd2,-,-,-,-,hmem2⟩:=hb_3.case (show k<h.cl by omega)
  have htk:Qa8 ((b.cs.take (k+1)).map Cs.nm) c.nm=decide (c2.nm=c.nm):=by
   rw [Ji hx2,map_append,map_cons,map_nil,Zgb,hno,Bool.false_or]
  refine⟨_,hB_3.sees3 (o:=1) rfl,ad2,k,⟨hea2,rfl,by omega⟩,_,(hrd2.lg Qp).cell (i:=0) rfl,_,hb5₃.sees3 (o:=0) rfl,?_⟩
  conv=>whnf
  intro U4 h_4 _
  repeat refine⟨rfl,?_⟩
  conv=>whnf
  apply Qe<;>intro hc
  .have e:c2.nm=c.nm:=by rw [Qqi] at hc;simpa using hc
   have hyes:Qa8 ((b.cs.take i).map Cs.nm) c.nm=true:=by
    rw [Zj1,mem_map];refine⟨c2,?_,e⟩;rw [mem_take_iff_getElem];obtain⟨hl,e2⟩:=List.getElem?_eq_some_iff.1 hx2;exact⟨k,by omega,e2⟩
   rw [hyes]
   repeat refine⟨rfl,?_⟩
   conv=>whnf
   exact hend.trans (h_3.lg.trans h_4.lg)
  .have e:¬c2.nm=c.nm:=by rw [Qqi] at hc;simpa using hc
   refine⟨hin,?_⟩
   conv=>whnf
   exact⟨rfl,k+1,by trivial,⟨h_3.trans h_4,by omega,by rw [htk];simpa using e⟩,by show _-_<_-_;omega⟩
 have hge:k=i:=by simp at hc;omega
 subst hge;rw [hno];have hend3:=hend.trans h_3.lg;refine⟨_,hb5₃.sees3 (o:=1) rfl,_,hB_3.sees3 (o:=0) rfl,hinr,Qep.any,(Qfk U3 c.ag 0 ((h.rl:Int)-1)).go λ _=>?_⟩;cases hag:btw c.ag 0 ((h.rl:Int)-1) with
 | false=>
  repeat refine⟨rfl,?_⟩
  conv=>whnf
  exact hend3
 | true=>
 refine⟨_,hb5₃.sees3 (o:=2) rfl,?_⟩
 repeat refine⟨rfl,?_⟩
 conv=>whnf
 have hgl':c.gs.length=gl:=hg.1;apply Qe<;>intro hc
 .have hg3:Qfp h.rl c.gs=2:=by unfold Qfp;rw [if_pos (by rw [hgl'];simp at hc;omega)]
  rw [hg3]
  repeat refine⟨rfl,?_⟩
  conv=>whnf
  exact hend3
 have hg3:Qfp h.rl c.gs=Qnu h.rl c.gs:=by unfold Qfp;rw [if_neg (by rw [hgl'];simp at hc;omega)]
 rw [hg3];refine⟨Nat,λ j=>[(1,.int .i64 k),(2,.pointer (some ⟨B,0,none⟩)),(5,.pointer (some ⟨b5,0,none⟩)),(7,.int .i64 j)],λ j U'=>U3.le U'/\j<=gl/\Qnu h.rl c.gs=Qnu h.rl (c.gs.drop j),λ j=>gl-j,0,by trivial,⟨.refl _,by omega,rfl⟩,?_⟩;rintro j f U4 ⟨h_4,hj,hinv⟩;have hB_4:=hB_3.lg h_4.lg;have hb5₄:=hb5₃.lg h_4.lg;have hg4:=(hg.lg h_3.lg.frz2).lg h_4.lg.frz2;have ha4:=(ha.lg h_3.lg.frz2).lg h_4.lg.frz2;have hend4:=hend3.trans h_4.lg;have hinj:Zu ((j:Int)+1):=by unfold Zu;omega
 refine⟨_,hb5₄.sees3 (o:=2) rfl,?_⟩
 repeat refine⟨rfl,?_⟩
 conv=>whnf
 apply Qe<;>intro hc
 .have hlt:j<gl:=by simpa using hc
  obtain⟨ad2,g,ga2,gl2,gc2,hg2,hea2,hsp2,hs2,hin2,hgl2,hgm⟩:=(J3.lg hg4 Qp).at hlt;have hg2l:=hin2.1;rw [Qad hg2,Zf9] at hinv;refine⟨_,hb5₄.sees3 (o:=2) rfl,ad2,j,⟨hea2,rfl,hlt⟩,_,hs2,?_⟩
  repeat refine⟨rfl,?_⟩
  conv=>whnf
  apply Qe<;>intro hc
  .have hbig:g.length > 3:=by rw [hg2l];simp at hc;omega
   rw [if_pos hbig] at hinv;rw [hinv]
   repeat refine⟨rfl,?_⟩
   conv=>whnf
   exact hend4
  have hbig:¬g.length > 3:=by rw [hg2l];simp at hc;omega
  rw [if_neg hbig] at hinv;refine⟨_,hb5₄.sees3 (o:=2) rfl,ad2,j,⟨hea2,rfl,hlt⟩,_,hs2,_,hB_4.sees3 (o:=0) rfl,?_⟩
  conv=>whnf
  intro U5 h_5 _;refine⟨Qri.any,(Qg0 ga2 gl2 gc2 g (hin2.lg h_5.lg) hgl2 h.rl hrl').go λ _=>?_⟩;by_cases hz:J1 (h.rl:Nat) none g=0
  .rw [if_pos hz] at hinv;rw [hz]
   repeat refine⟨rfl,?_⟩
   refine⟨hinj,?_⟩
   conv=>whnf
   exact⟨rfl,j+1,by trivial,⟨h_4.trans h_5,by omega,hinv⟩,by show _-_<_-_;omega⟩
  .rw [if_neg hz] at hinv;rw [hinv,if_neg hz]
   repeat refine⟨rfl,?_⟩
   conv=>whnf
   apply Qe<;>intro hc
   .repeat refine⟨rfl,?_⟩
    conv=>whnf
    exact hend4.trans h_5.lg
   .exact absurd (by simpa using hc) hz
 have hge:j=gl:=by simp at hc;omega
 rw [drop_eq_nil_of_le (by omega)] at hinv;rw [hinv];refine⟨_,hb5₄.sees3 (o:=3) rfl,_,hB_4.sees3 (o:=1) rfl,Qri.any,(Qg0 aa al ac c.af (ha4.lg Qp) hal h.cl hcl').go λ _=>?_⟩
 repeat refine⟨rfl,?_⟩
 conv=>whnf
 exact hend4
theorem Qrx (h:BH) (b:Bk) (hb:Zq U.frz h b) (hlo:b.Low):Qb S 76 #[h.v] (λ v U'=>v=.bool (Qc5 b.A)/\U'=U) U:=by
 refine Qb.pure' (Qb.of (args:=[_]) Q14 Qf (by simp) ?_);have hcl:=hb.cs.1;have h5:=hlo.nc;have hAl:b.A.length=h.cl:=by rw [b.A_len,hcl]
 repeat refine⟨rfl,?_⟩
 conv=>whnf
 intro B U1 h_1 hB;have hB:Zi U1 B #[.slice h.ra h.rl h.rc,.slice h.ca h.cl h.cc]:=hB;refine⟨Nat,λ i=>[(1,.pointer (some ⟨B,0,none⟩)),(3,.int .i64 i)],λ i U'=>U'=U1/\i<=h.cl/\((range i).any λ i=>Wo b.A i h.cl i)=false,λ i=>h.cl-i,0,by trivial,⟨rfl,by omega,rfl⟩,?_⟩;rintro i f _ ⟨rfl,hi,hno⟩;have hin:Zu ((i:Int)+1):=by unfold Zu;omega
 refine⟨_,hB.sees3 (o:=1) rfl,?_⟩
 repeat refine⟨rfl,?_⟩
 conv=>whnf
 apply Qe<;>intro hc
 .have hlt:i<h.cl:=by simpa using hc
  refine⟨_,⟨rfl,hB.reads (λ k v hv=>by simpa using hv)⟩,?_⟩;refine⟨_,hB.sees3 (o:=1) rfl,Qho.any,(Qy4 h b (hb.lg h_1.lg.frz2) hlo i (by omega) h.cl i (by omega) (by omega)).go λ _=>?_⟩;cases hm:Wo b.A i h.cl i with
  | true=>
   have hyes:Qc5 b.A=true:=by
    unfold Qc5;rw [hAl,any_eq_true];exact⟨i,mem_range.2 hlt,hm⟩
   rw [hyes]
   repeat refine⟨rfl,?_⟩
   conv=>whnf
   exact h_1.lg
  | false=>
   refine⟨hin,?_⟩
   conv=>whnf
   exact⟨rfl,i+1,by trivial,⟨rfl,by omega,by rw [range_succ,any_append,hno];simp [hm]⟩,by show _-_<_-_;omega⟩
 .have hge:i=h.cl:=by simp at hc;omega
  subst hge;have hno':Qc5 b.A=false:=by unfold Qc5;rw [hAl];exact hno
  rw [hno']
  repeat refine⟨rfl,?_⟩
  conv=>whnf
  exact h_1.lg
theorem Qru (h:BH) (b:Bk) (hb:Zq U.frz h b) (hrc:h.rl<=h.rc):Qb S 24 #[h.v] (λ v U'=>v=.int .i64 (b.flaw Qu)/\U'=U) U:=by
 refine Qb.pure' (Qb.of (args:=[_]) Q1w Qf (by simp) ?_);have hcl:=hb.cs.1;have hcl':=hb.cl;have hrl:=hb.rs.1;have hrl':=hb.rl
 repeat refine⟨rfl,?_⟩
 conv=>whnf
 intro B U1 h_1 hB;have hB:Zi U1 B #[.slice h.ra h.rl h.rc,.slice h.ca h.cl h.cc]:=hB;have hb_1:=hb.lg h_1.lg.frz2;refine⟨_,hB.sees3 (o:=0) rfl,?_⟩
 repeat refine⟨rfl,?_⟩
 conv=>whnf
 apply Qe<;>intro hc
 .have hbig:b.rs.length > 6:=by rw [hrl];simp at hc;omega
  have hf:b.flaw Qu=2:=by unfold Bk.flaw Bk.rsF;rw [if_pos hbig];rfl
  rw [hf]
  repeat refine⟨rfl,?_⟩
  conv=>whnf
  exact h_1.lg
 have hbig:¬b.rs.length > 6:=by rw [hrl];simp at hc;omega
 have hrs:b.rsF Qu=Quj Qu [] b.rs:=by unfold Bk.rsF;rw [if_neg hbig]
 refine⟨Nat,λ i=>[(1,.pointer (some ⟨B,0,none⟩)),(3,.int .i64 i)],λ i U'=>U1.le U'/\i<=h.rl/\Quj Qu [] b.rs=Quj Qu (b.rs.take i) (b.rs.drop i),λ i=>h.rl-i,0,by trivial,⟨.refl _,by omega,rfl⟩,?_⟩;rintro i f U2 ⟨h_2,hi,hinv⟩;have hB_2:=hB.lg h_2.lg;have hb_2:=hb_1.lg h_2.lg.frz2;have hend:=h_1.lg.trans h_2.lg;have hin:Zu ((i:Int)+1):=by unfold Zu;omega
 refine⟨_,hB_2.sees3 (o:=0) rfl,?_⟩
 repeat refine⟨rfl,?_⟩
 conv=>whnf
 apply Qe<;>intro hc
 .have hlt:i<h.rl:=by simpa using hc
  obtain⟨ad,s,hx,hea,hsp,hs,hmem⟩:=(hb_2.lg Qp).right hlt;rw [Qad hx,Zge] at hinv
  have hcut:(if h.rc=0 then h.ra else h.ra.map (·.add (0*1)))=h.ra:=by
   rw [hea];split
   .rfl
   .rfl
  refine⟨_,hB_2.sees3 (o:=0) rfl,ad,i,⟨hea,rfl,hlt⟩,_,hs,Qrb.any,(Qiq s (hb.rn s hmem)).go λ _=>?_⟩;cases hn:Qu s with
  | false=>
   rw [hn] at hinv;have hf:b.flaw Qu=4:=by unfold Bk.flaw;rw [hrs,hinv];rfl
   rw [hf]
   repeat refine⟨rfl,?_⟩
   conv=>whnf
   exact hend
  | true=>
  rw [if_pos hn] at hinv;refine⟨_,hB_2.sees3 (o:=0) rfl,0,i,⟨rfl,rfl,by omega,by omega⟩,?_⟩;rw [hcut];refine⟨_,hB_2.sees3 (o:=0) rfl,ad,i,⟨hea,rfl,hlt⟩,_,hs,?_⟩
  conv=>whnf
  intro U3 h_3 _;refine⟨Q12.any,(Qyu h.ra i (h.rc-0) (b.rs.take i) (((hb_2.rs.lg Qp λ _ _ h=>h).lg h_3.lg λ _ _ h=>h).take (by omega)) (by omega) s).go λ _=>?_⟩
  conv=>whnf
  rw [Q3t];cases hh:Qa8 (b.rs.take i) s with
  | true=>
   rw [if_pos hh] at hinv;have hf:b.flaw Qu=5:=by unfold Bk.flaw;rw [hrs,hinv];rfl
   rw [hf]
   repeat refine⟨rfl,?_⟩
   conv=>whnf
   exact hend.trans h_3.lg
  | false=>
   rw [if_neg (by simp [hh])] at hinv
   repeat refine⟨rfl,?_⟩
   refine⟨hin,?_⟩
   conv=>whnf
   exact⟨rfl,i+1,by trivial,⟨h_2.trans h_3,by omega,by rw [hinv,Ji hx]⟩,by show _-_<_-_;omega⟩
 have hge:i=h.rl:=by simp at hc;omega
 rw [drop_eq_nil_of_le (by omega)] at hinv;have hrs0:b.rsF Qu=0:=by rw [hrs,hinv];rfl
 refine⟨_,hB_2.sees3 (o:=1) rfl,?_⟩
 repeat refine⟨rfl,?_⟩
 conv=>whnf
 apply Qe<;>intro hc
 .have hbig:b.cs.length > 5:=by rw [hcl];simp at hc;omega
  have hf:b.flaw Qu=2:=by unfold Bk.flaw Bk.csF;rw [if_pos hrs0,if_pos hbig];rfl
  rw [hf]
  repeat refine⟨rfl,?_⟩
  conv=>whnf
  exact hend
 have hbig:¬b.cs.length > 5:=by rw [hcl];simp at hc;omega
 have hcs:b.csF Qu=Qi9 Qu b.nr b.nc [] b.cs:=by unfold Bk.csF;rw [if_neg hbig]
 refine⟨Nat,λ k=>[(1,.pointer (some ⟨B,0,none⟩)),(4,.int .i64 k)],λ k U'=>U'=U2/\k<=h.cl/\Qi9 Qu b.nr b.nc [] b.cs=Qi9 Qu b.nr b.nc ((b.cs.take k).map Cs.nm) (b.cs.drop k),λ k=>h.cl-k,0,by trivial,⟨rfl,by omega,rfl⟩,?_⟩;rintro k f _ ⟨rfl,hk,hinc⟩;have hink:Zu ((k:Int)+1):=by unfold Zu;omega
 refine⟨_,hB_2.sees3 (o:=1) rfl,?_⟩
 repeat refine⟨rfl,?_⟩
 conv=>whnf
 apply Qe<;>intro hc
 .have hlt:k<h.cl:=by simpa using hc
  obtain⟨c,hx⟩:∃c,b.cs[k]?=some c:=⟨_,getElem?_eq_getElem (by omega)⟩;rw [Qad hx,Zfz] at hinc;refine⟨_,⟨rfl,hB_2.reads (λ k v hv=>by simpa using hv)⟩,?_⟩;refine⟨Q13.any,(Qjo h b hb_2 k c hx).go λ _=>?_⟩;by_cases hz:Qvl b.nr b.nc ((b.cs.take k).map Cs.nm) c=0
  .rw [if_pos hz] at hinc;rw [hz]
   repeat refine⟨rfl,?_⟩
   refine⟨hink,?_⟩
   conv=>whnf
   exact⟨rfl,k+1,by trivial,⟨rfl,by omega,by rw [hinc,Ji hx,map_append];rfl⟩,by show _-_<_-_;omega⟩
  .rw [if_neg hz] at hinc;have hf:b.flaw Qu=Qvl b.nr b.nc ((b.cs.take k).map Cs.nm) c:=by unfold Bk.flaw;rw [if_pos hrs0,hcs,hinc,if_neg hz]
   rw [hf]
   repeat refine⟨rfl,?_⟩
   conv=>whnf
   apply Qe<;>intro hc
   .repeat refine⟨rfl,?_⟩
    conv=>whnf
    exact hend
   .exact absurd (by simpa using hc) hz
 have hge:k=h.cl:=by simp at hc;omega
 rw [drop_eq_nil_of_le (by omega)] at hinc;have hcs0:b.csF Qu=0:=by rw [hcs,hinc];rfl
 have hlow:=Bk.low_of hcs0;refine⟨_,⟨rfl,hB_2.reads (λ k v hv=>by simpa using hv)⟩,?_⟩;refine⟨Q14.any,(Qrx h b hb_2 hlow).go λ _=>?_⟩
 have hA:∀i,i<b.A.length->∀k∈Je b.A i,k<b.A.length:=by
  intro i hi k hk;rw [b.A_len] at hi ⊢;have hx:b.cs[i]?=some (b.cs[i]):=getElem?_eq_getElem hi;rw [Bk.aft1_at hx] at hk;obtain⟨n,hn,rfl⟩:=mem_map.1 hk;have:=hlow.af _ (getElem_mem hi) n hn;unfold Bk.nc at this;omega
 rw [<- Q32 hA];have hf:b.flaw Qu=if Wq b.A then 8 else 0:=by unfold Bk.flaw;rw [if_pos hrs0,if_pos hcs0]
 rw [hf];cases hl:Wq b.A with
 | true=>
  repeat refine⟨rfl,?_⟩
  conv=>whnf
  exact hend
 | false=>
  repeat refine⟨rfl,?_⟩
  conv=>whnf
  exact hend
structure Q0n (b:Bk):Prop where
 r:∀s∈b.rs,s.size<2 ^ 50
 c:∀c∈b.cs,c.nm.size<2 ^ 50
theorem Qu0 (h:BH) (b:Bk) (hb:Zq U.frz h b) (hnl:Q0n b):Qb S 19 #[h.v] (λ v U'=>(∃g,v=.bool g)/\U'=U) U:=by
 refine Qb.pure' (Qb.of (args:=[_]) Q1v Qf (by simp) ?_);have hcl:=hb.cs.1;have hcl':=hb.cl;have hrl:=hb.rs.1;have hrl':=hb.rl
 repeat refine⟨rfl,?_⟩
 conv=>whnf
 intro B U1 h_1 hB;have hB:Zi U1 B #[.slice h.ra h.rl h.rc,.slice h.ca h.cl h.cc]:=hB;have hb_1:=hb.lg h_1.lg.frz2;refine⟨_,hB.sees3 (o:=0) rfl,?_⟩
 repeat refine⟨rfl,?_⟩
 conv=>whnf
 apply Zr<;>intro hc
 rotate_left
 .repeat refine⟨rfl,?_⟩
  conv=>whnf
  exact⟨⟨_,rfl⟩,h_1.lg⟩
 have hr40:h.rl<=40:=by simp at hc;omega
 refine⟨_,hB.sees3 (o:=1) rfl,?_⟩
 repeat refine⟨rfl,?_⟩
 conv=>whnf
 apply Qe<;>intro hc
 .repeat refine⟨rfl,?_⟩
  conv=>whnf
  exact⟨⟨_,rfl⟩,h_1.lg⟩
 have hc40:h.cl<=40:=by simp at hc;omega
 refine⟨Nat×Nat,λ y=>[(1,.pointer (some ⟨B,0,none⟩)),(3,.int .i64 y.2),(4,.int .i64 y.1)],λ y U'=>U'=U1/\y.1<=h.rl/\y.2<=y.1*1125899906842624,λ y=>h.rl-y.1,(0,0),by trivial,⟨rfl,by simp,by simp⟩,?_⟩;rintro⟨i,n⟩ f U2 ⟨hU,hi,hn⟩;obtain rfl:=hU.symm;simp only at hi hn;have hin:Zu ((i:Int)+1):=by unfold Zu;omega
 refine⟨_,hB.sees3 (o:=0) rfl,?_⟩
 repeat refine⟨rfl,?_⟩
 conv=>whnf
 apply Qe<;>intro hc
 .have hlt:i<h.rl:=by simpa using hc
  obtain⟨ad,s,hx,hea,hsp,hs,hmem⟩:=(hb_1.lg Qp).right hlt;have hsz:=hnl.r s hmem;have hin2:Zu ((n:Int)+(s.size:Nat)):=by unfold Zu;omega
  have hn2:n+s.size<=(i+1)*1125899906842624:=by omega
  refine⟨_,hB.sees3 (o:=0) rfl,ad,i,⟨hea,rfl,hlt⟩,_,hs,hin2,hin,?_⟩
  conv=>whnf
  exact⟨rfl,(i+1,n+s.size),by trivial,⟨rfl,by show i+1<=_;omega,hn2⟩,by show _-_<_-_;omega⟩
 have hn0:n<=(40+0)*1125899906842624:=Nat.le_trans hn (Nat.mul_le_mul_right _ (by omega:i<=40+0));clear hin;refine⟨Nat×Nat,λ y=>[(1,.pointer (some ⟨B,0,none⟩)),(3,.int .i64 y.2),(5,.int .i64 y.1)],λ y U'=>U1.le U'/\y.1<=h.cl/\y.2<=(40+y.1)*1125899906842624,λ y=>h.cl-y.1,(0,n),by trivial,⟨.refl _,by simp,hn0⟩,?_⟩;rintro⟨k,m⟩ f U3 ⟨h_3,hk,hm⟩;simp only at hk hm;have hin:Zu ((k:Int)+1):=by unfold Zu;omega
 have hB_3:=hB.lg h_3.lg;have hb_3:=hb_1.lg h_3.lg.frz2;refine⟨_,hB_3.sees3 (o:=1) rfl,?_⟩
 repeat refine⟨rfl,?_⟩
 conv=>whnf
 apply Qe<;>intro hc
 .have hlt:k<h.cl:=by simpa using hc
  obtain⟨ad,c,ga,gl,gc,aa,al,ac,hx,hea,hsp,hrd,hg,hgl,ha,hal,hmem⟩:=hb_3.case hlt;have hxn:=hnl.c c hmem;refine⟨_,hB_3.sees3 (o:=1) rfl,ad,k,⟨hea,rfl,hlt⟩,_,⟨rfl,hrd.lg Qp⟩,?_⟩
  conv=>whnf
  intro b5 hf5;refine⟨_,.refl _,rfl,Zt (vs:=[.string c.nm,.int .i64 c.ag,.slice ga gl gc,.slice aa al ac]) hf5 rfl (by simp [Value.single]) λ U4 h_4 hb5=>?_⟩;have hend4:U.lg U4:=h_1.lg.trans (h_3.lg.trans h_4.lg);have hg4:=(hg.lg h_4.lg.frz2);have hin2:Zu ((m:Int)+(c.nm.size:Nat)):=by unfold Zu;omega
  have hm2:m+c.nm.size<=(40+(k+1))*1125899906842624:=by omega
  refine⟨_,hb5.sees3 (o:=2) rfl,?_⟩
  repeat refine⟨rfl,?_⟩
  conv=>whnf
  apply Zr<;>intro hc
  rotate_left
  .repeat refine⟨rfl,?_⟩
   conv=>whnf
   exact⟨⟨_,rfl⟩,hend4⟩
  refine⟨_,hb5.sees3 (o:=3) rfl,?_⟩
  repeat refine⟨rfl,?_⟩
  conv=>whnf
  apply Qe<;>intro hc
  .repeat refine⟨rfl,?_⟩
   conv=>whnf
   exact⟨⟨_,rfl⟩,hend4⟩
  refine⟨Nat,λ j=>[(1,.pointer (some ⟨B,0,none⟩)),(3,.int .i64 m),(5,.int .i64 k),(6,.pointer (some ⟨b5,0,none⟩)),(7,.int .i64 j)],λ j U'=>U'=U4/\j<=gl,λ j=>gl-j,0,by trivial,⟨rfl,by omega⟩,?_⟩;rintro j f U5 ⟨hU,hj⟩;obtain rfl:=hU.symm;have hinj:Zu ((j:Int)+1):=by unfold Zu;omega
  refine⟨_,hb5.sees3 (o:=2) rfl,?_⟩
  repeat refine⟨rfl,?_⟩
  conv=>whnf
  apply Qe<;>intro hc
  .have hltj:j<gl:=by simpa using hc
   obtain⟨ad2,g,ga2,gl2,gc2,hg2,hea2,hsp2,hs2,hin2',hgl2,hgm⟩:=(J3.lg hg4 Qp).at hltj;refine⟨_,hb5.sees3 (o:=2) rfl,ad2,j,⟨hea2,rfl,hltj⟩,_,hs2,?_⟩
   repeat refine⟨rfl,?_⟩
   conv=>whnf
   apply Qe<;>intro hc
   .repeat refine⟨rfl,?_⟩
    conv=>whnf
    exact⟨⟨_,rfl⟩,hend4⟩
   refine⟨hinj,?_⟩
   conv=>whnf
   exact⟨rfl,j+1,by trivial,⟨rfl,by omega⟩,by show _-_<_-_;omega⟩
  refine⟨_,hb5.sees3 (o:=0) rfl,hin2,hin,?_⟩
  conv=>whnf
  exact⟨rfl,(k+1,m+c.nm.size),by trivial,⟨h_3.trans h_4,by show k+1<=_;omega,hm2⟩,by show _-_<_-_;omega⟩
 repeat refine⟨rfl,?_⟩
 conv=>whnf
 exact⟨⟨_,rfl⟩,h_1.lg.trans h_3.lg⟩
theorem Zm1 (h:BH) (b:Bk) (hb:Zq U.frz h b) (hnl:Q0n b) (hrc:h.rl<=h.rc):Qb S 32 #[h.v] (λ v U'=>(∃g,v=.bool g/\(g=true->b.flaw Qu=0))/\U'=U) U:=by
 refine Qb.pure' (Qb.of (args:=[_]) Zij Qf (by simp) ?_)
 repeat refine⟨rfl,?_⟩
 conv=>whnf
 intro B U1 h_1 hB;have hB:Zi U1 B #[.slice h.ra h.rl h.rc,.slice h.ca h.cl h.cc]:=hB;have hb_1:=hb.lg h_1.lg.frz2;refine⟨_,⟨rfl,hB.reads (λ k v hv=>by simpa using hv)⟩,?_⟩;refine⟨Q1v.any,(Qu0 h b hb_1 hnl).mono ?_⟩;rintro _ U' ⟨⟨g,rfl⟩,hU'⟩ -;obtain rfl:=hU'.symm
 repeat refine⟨rfl,?_⟩
 conv=>whnf
 apply Zr<;>intro hc
 .refine⟨_,⟨rfl,hB.reads (λ k v hv=>by simpa using hv)⟩,?_⟩;refine⟨Q1w.any,(Qru h b hb_1 hrc).go λ _=>?_⟩
  repeat refine⟨rfl,?_⟩
  conv=>whnf
  exact⟨⟨_,rfl,λ h=>by simpa using h⟩,h_1.lg⟩
 .repeat refine⟨rfl,?_⟩
  conv=>whnf
  exact⟨⟨_,rfl,λ h=>by cases h⟩,h_1.lg⟩
end Go.Proofs
