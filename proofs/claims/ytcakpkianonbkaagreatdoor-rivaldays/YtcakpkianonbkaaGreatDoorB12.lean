/- Lemmas. No conditions. -/
import Derived.Conc.CrowdStepC
import Derived.Conc.JoinWorld
import Derived.Test.YtcakpkianonbkaaGreatDoorB11
set_option linter.all false
open List
namespace Go.TM
open Go.Conc
def JX(n:Nat)(rk:Nat->Option Tr):List Tr:=(range n).filterMap rk
def PR(n:Nat)(rk:Nat->Option Tr):JX (n+1) rk=JX n rk++(rk n).toList:=by
 simp only[JX,range_succ,filterMap_append];cases h:rk n <;> simp[h]
def IM{n:Nat}{rk rk':Nat->Option Tr}(h:∀i,i<n->rk i=rk' i):JX n rk=JX n rk':=by
 induction n with
 |zero=>rfl
 |succ n b=>rw[PR,PR,b λ i e=>h i O1,h n O1]
def TV{n i:Nat}(rk:Nat->Option Tr)(x:Option Tr)(h:i<n):(JX n (Zt rk i x)).Perm (x.toList++JX n (Zt rk i none)):=by
 induction n with
 |zero=>omega
 |succ n b=>
  rw[PR,PR];by_cases e:i=n
  .subst e;rw[Qj,Qj,IM (rk:=Zt rk i x) (rk':=Zt rk i none) λ j w=>by rw[Qv _ _ O1,Qv _ _ O1]];simp only[Option.toList_none,append_nil];exact perm_append_comm
  .rw[Qv _ _ O1,Qv _ _ O1];have:=(b O1).append_right (rk n).toList
   rwa [append_assoc]at this
def Fb{n i:Nat}{rk:Nat->Option Tr}{r:Tr}(b:i<n)(h:rk i=some r):(JX n rk).Perm (r::JX n (Zt rk i none)):=by
 have:=TV rk (some r) b;have e:Zt rk i (some r)=rk:=by funext j;by_cases e:j=i <;> simp[Zt,e,h]
 rwa [e]at this
def uq{n i:Nat}{rk:Nat->Option Tr}{r:Tr}{x:Option Tr}(b:i<n)(w:rk i=some r)(z:∀e,x=some e->Tr.Sub e r):ZR (JX n (Zt rk i x)) (JX n rk):=
 ⟨r,JX n (Zt rk i none),x.toList,Fb b w,TV rk x b,λ c h=>z c (by simpa[Option.mem_toList]using h)⟩
def ur{n i:Nat}{rk:Nat->Option Tr}{r b e:Tr}(h:i<n)(B:rk i=some r)(w:Tr.Sub b r)(z:Tr.Sub e r):ZR (JX (n+1) (Zt (Zt rk i (some b)) n (some e))) (JX n rk):=by
 refine⟨r,JX n (Zt rk i none),[e,b],Fb h B,?_,by simp[w,z]⟩;rw[PR,Qj,IM (rk:=Zt (Zt rk i (some b)) n (some e)) (rk':=Zt rk i (some b)) λ j E=>Qv _ _ O1];have:=TV rk (some b) h;simp only[Option.toList_some]at this ⊢;refine(perm_append_comm).trans ?_;exact(this.cons e)
def ZP(p:Ph):Prop:=∃b D,p=.wrk b D
def Z9(V:Hd->Qa Tk)(i:Nat):Ph:=if i=0 then .out else(V (.run i)).tok.ph
def ZJ:Qa Tk:=Qa.bare ⟨0,.out,none⟩
def Q5(V:Hd->Qa Tk)(i:Nat):Option ZS:=(V (.run i)).tok.mu
def Jz(V:Hd->Qa Tk):Option Nat:=ZS.mb (Q5 V 0)
structure X6(gs:Array Gr)(w:World)(V:Hd->Qa Tk)(x:QW)(u:Bool->Bool)(lp:Bool->LP)(st sm:Nat):Prop where
 sh:Sh x.m x.t (Zg st) (Qq sm) w
 word:NO lp=some (st,sm)
 tk:∀i x' s me lo,Q5 V i=some (.lok x' s me lo)->x'=x/\me=lp s/\lo<=(lp (!s)).cls/\u s=true
 one:∀i j s x_1 m_1 l₁ x_2 m_2 l₂,Q5 V i=some (.lok x_1 s m_1 l₁)->Q5 V j=some (.lok x_2 s m_2 l₂)->i=j
 who:∀s,u s=true->lp s=.fin\/∃i me lo,Q5 V i=some (.lok x s me lo)
 idle:∀s,u s=false->lp s=.idle
 dep:((lp false).isOwn|| (lp true).isOwn)=true->V .lck=ZJ
 dep':((lp false).isOwn|| (lp true).isOwn)=false->x.dep lp (V .lck).M
 slp:∀i x' s me lo g,Q5 V i=some (.lok x' s me lo)->gs[i]?=some g->g.status≠.running->sm=0
def JL(gs:Array Gr)(w:World)(V:Hd->Qa Tk):Prop:=
 (∀i x u,i≠0->Q5 V i≠some (.par x u))/\(V .lck).I=(λ _=>none) /\
 match Q5 V 0 with
 |none=>(∀i,Q5 V i=none)/\V .lck=ZJ
 |some (.par x u)=>(∀j,QK x.m (V j))/\∃b st sm,X6 gs w V x u b st sm
 |some (.lok ..)=>False
def X6.at{gs z:Array Gr}{w w':World}{V V':Hd->Qa Tk}{x:QW}{u:Bool->Bool}{M:Bool->LP}{st sm:Nat}(h:X6 gs w V x u M st sm)(B:∀i,Q5 V' i=Q5 V i)(L:V' .lck=V .lck)
  (F:Sh x.m x.t (Zg st) (Qq sm) w') (E:∀i b s me lo g',Q5 V i=some (.lok b s me lo)->z[i]?=some g'->g'.status≠.running->∃g,gs[i]?=some g/\g.status≠.running):X6 z w' V' x u M st sm:=by
 refine⟨F,h.word,λ i b s me lo e=>h.tk i b s me lo (by rw[<- B];exact e),λ i j s I G l₁ K H l₂ e e'=>h.one i j s I G l₁ K H l₂ (by rw[<- B];exact e) (by rw[<- B];exact e'),λ s T=>(h.who s T).imp id λ⟨i,me,lo,e⟩=>⟨i,me,lo,by rw[B];exact e⟩,h.idle,λ e=>by rw[L];exact h.dep e,λ e=>by rw[L];exact h.dep' e,λ i b s me lo g' e Q S=>?_⟩;rw[B]at e;obtain⟨g,N,P⟩:=E i b s me lo g' e Q S;exact h.slp i b s me lo g e N P
def JL.at{gs z:Array Gr}{w w':World}{V V':Hd->Qa Tk}(h:JL gs w V)(E:∀i,Q5 V' i=Q5 V i)(H:V' .lck=V .lck)(B:∀m,(∀j,QK m (V j))->m<w.heap.size->∀j,QK m (V' j))
  (I:∀m t st sm,(∀j,QK m (V j))->Sh m t (Zg st) (Qq sm) w->Sh m t (Zg st) (Qq sm) w')
  (G:∀i Q s me lo g',Q5 V i=some (.lok Q s me lo)->z[i]?=some g'->g'.status≠.running->∃g,gs[i]?=some g/\g.status≠.running):JL z w' V':=by
 obtain⟨L,M,b⟩:=h;refine⟨λ i x u N=>by rw[E];exact L i x u N,by rw[H];exact M,?_⟩;rw[E];cases e:Q5 V 0 with
 |none=>rw[e]at b;exact⟨λ i=>by rw[E];exact b.1 i,by rw[H];exact b.2⟩
 |some mu=>
  rw[e]at b;cases mu with
  |lok=>exact b
  |par x u=>
   obtain⟨K,P,st,sm,F⟩:=b;exact⟨B _ K (Array.getElem?_eq_some_iff.1 F.sh).1,P,st,sm,F.at E H (I _ _ _ _ K F.sh) G⟩
def Dy(i:Nat)(tk:Tk):Prop:=(i=0/\∃b ds mu,tk=⟨1,.par b ds false .wait,mu⟩)\/∃d b D x s lo,tk=⟨d,.wrk b D,some (.lok x s .wai lo)⟩
def QI(t:TypeId)(N:Nat)(gs:Array Gr)(w:World)(V:Hd->Qa Tk)(rel:Nat->Option Nat):Prop:=
 match(V (.run 0)).tok.ph with
 |.out=>(∀i,i≠0->(V (.run i)).tok.ph=.out)/\∀i,rel i=none
 |.par b ds pend k=>(∀j,QK b (V j))/\∃W c wt s,Sh b t (Q2 c wt) (Qq s) w/\GI N b ds pend k (Z9 V) rel (λ i=>(V (.dep i)).M) W c wt s/\(∀g,gs[0]?=some g->g.status≠.running->s=0)
 |_=>False
structure MI(P:Program)(t:TypeId)(N:Nat)(Stop:QJ Tk)(ex:Option Nat)(gs:Array Gr)(w:World)(tr:Trace)(V:Hd->Qa Tk)(rk:Nat->Option Tr)(rel:Nat->Option Nat)(q:Nat->Nat):Prop where
 live:∀i r,ex≠some i->rk i=some r->∃g,JR (Zd P t N) Stop r (i==0) g (V (.run i)) /\
  (gs[i]?=some g\/(gs[i]?=some { g with status:=.blocked }/\g.offers=none/\Dy i (V (.run i)).tok))
 root:rk 0≠none
 gone:∀i g,rk i=none->gs[i]?=some g->(V (.run i)).tok.ph=.out->QuitsD P (q i) (Deaf tr i) g
 tail:∀i,rk i=none->(V (.run i)).tok.ph≠.out->∃g b,gs[i]?=some g/\(V (.run 0)).tok.ph.blk=some b/\Tl P t N b (q i) (Deaf tr i) (V (.run i)).tok.ph g
 above:∀i,gs.size<=i->rk i=none/\Deaf tr i=0/\rel i=none
 bare:∀i,rk i=none->(V (.run i)).I=(λ _=>none)/\(V (.run i)).M=[]
 wk:∀i,i≠0->rk i≠none->ZP (V (.run i)).tok.ph
 wk':∀i,ZP (V (.run i)).tok.ph->rk i≠none
 deaf:∀i,rk i≠none->Deaf tr i=(V (.run i)).tok.d
 deps:∀i,rel i=none->V (.dep i)=ZJ
 vi:VI V w
 ti:∃rm,TI (λ k=>(V k).canW) (λ k=>(V k).canR) rel (V (.run 0)).tok.ph.blk (Jz V) rm (λ i=>i=0\/(V (.run i)).tok.ph≠.out) (λ i=>ZP (V (.run i)).tok.ph) w.heap.size tr
 grp:QI t N gs w V rel
 mux:JL gs w V
 bareM:∀i,rk i=none->Q5 V i=none
section
variable{P:Program}{t:TypeId}{N:Nat}{Stop:QJ Tk}{gs:Array Gr}{w:World}{tr:Trace}{V:Hd->Qa Tk}{rk:Nat->Option Tr}{rel:Nat->Option Nat}{q:Nat->Nat}
def JR.running(e:∀m g U,Stop m g U->g.status=.running):∀{r:Tr}{m:Bool}{g:Gr}{U:Qa Tk},JR (Zd P t N) Stop r m g U->g.status=.running:=by
 intro r
 induction r using Tr.sub_wf.induction with
 |_ r B=>
  intro m g U h;obtain⟨E,_,h|h|h⟩:=h.step
  .exact e _ _ _ h
  .exact h.1
  .have h:QD P t N _ m g E:=h;cases h with
   |make G F k=>obtain⟨z,w,k⟩:=k;exact B z w k
   |makeM G F H k=>obtain⟨z,w,k⟩:=k;exact B z w k
   |quiet b|dis b|ena b|add b|said b|look b|sema b|look2 b|acq b|acqM b|go b|lay b|mu b|mblk b|macq b|mrel b=>exact b
def Wk{g g' h:Gr}{w':World}(b:h.status=.running):woken P g g' w' h=h:=by
 unfold woken;split
 .simp[Goroutine.again,b]
 .rfl
def yy{g g' h:Gr}{w':World}(e:h.status=.running)(b:h.offers=none):woken P g g' w' { h with status:=.blocked }=h\/woken P g g' w' { h with status:=.blocked }={ h with status:=.blocked }:=by
 unfold woken;split
 .exact .inl (again_blocked e b w')
 .exact .inr rfl
def behind(P:Program)(gs:Array Gr)(i:Nat)(g g':Gr)(w':World):Array Gr:=(gs.map (woken P g g' w')).setIfInBounds i g'
def Wo{i:Nat}{g g':Gr}{w':World}(b:gs[i]?=some g):(behind P gs i g g' w')[i]?=some g':=by
 have:=(Array.getElem?_eq_some_iff.1 b).1;simp[behind,this]
def Wa{i j:Nat}{g g':Gr}{w':World}(h:j≠i):(behind P gs i g g' w')[j]?=(gs[j]?).map (woken P g g' w'):=by
 simp only[behind];rw[Array.getElem?_setIfInBounds_ne (Ne.symm h),Array.getElem?_map]
def Jp{i:Nat}{g g':Gr}{w':World}:(behind P gs i g g' w').size=gs.size:=by simp[behind]
def Tl.running{b:Nat}:∀{n d:Nat}{p:Ph}{g:Gr},Tl P t N b n d p g->g.status=.running
 |0,_,_,_,h=>h.elim
 |_+1,_,_,_,h=>h.1
def MI.go{i:Nat}(h:MI P t N Stop (some i) gs w tr V rk rel q)(T:∀m g U,Stop m g U->g.status=.running){g g':Gr}{w':World}{es:Array Event}{V':Hd->Qa Tk}{rk':Nat->Option Tr}{rel':Nat->Option Nat}{q':Nat->Nat}
  (hi:gs[i]?=some g) (H:∀j,j≠i->V' (.run j)=V (.run j)) (F:∀j,j≠i->rk' j=rk j) (hq:∀j,j≠i->q' j=q j) (af:∀j,j≠i->rel' j=rel j\/rel' j=none) (Y:rk' 0≠none)
  (E:i≠0\/(V' (.run 0)).tok.ph.blk=(V (.run 0)).tok.ph.blk\/∀j,j≠0->(V (.run j)).tok.ph=.out)
  (G:∀r,rk' i=some r->JR (Zd P t N) Stop r (i==0) g' (V' (.run i))/\deafBehind (Deaf tr i) es=(V' (.run i)).tok.d/\(i≠0->ZP (V' (.run i)).tok.ph))
  (z:rk' i=none->i≠0/\(V' (.run i)).I=(λ _=>none)/\(V' (.run i)).M=[]/\¬ZP (V' (.run i)).tok.ph /\
   (((V' (.run i)).tok.ph=.out/\QuitsD P (q' i) (deafBehind (Deaf tr i) es) g')\/((V' (.run i)).tok.ph≠.out/\∃b,(V (.run 0)).tok.ph.blk=some b/\Tl P t N b (q' i) (deafBehind (Deaf tr i) es) (V' (.run i)).tok.ph g')))
  (W:∀j,rel' j=none->V' (.dep j)=ZJ) (ah:VI V' w')
  (ag:∃rm,TI (λ k=>(V' k).canW) (λ k=>(V' k).canR) rel' (V' (.run 0)).tok.ph.blk (Jz V') rm (λ i=>i=0\/(V' (.run i)).tok.ph≠.out) (λ i=>ZP (V' (.run i)).tok.ph) w'.heap.size (tr++MemOp.ofEvents i g.frame.fn g.frame.place es))
  (aa:QI t N (behind P gs i g g' w') w' V' rel') (ab:JL (behind P gs i g g' w') w' V') (ad:rk' i=none->Q5 V' i=none) :
  MI P t N Stop none (behind P gs i g g' w') w' (tr++MemOp.ofEvents i g.frame.fn g.frame.place es) V' rk' rel' q':=by
 have ai:=(Array.getElem?_eq_some_iff.1 hi).1
 have hD:∀j,j≠i->Deaf (tr++MemOp.ofEvents i g.frame.fn g.frame.place es) j=Deaf tr j:=by
  intro j K;refine Deaf_other tr (Ne.symm K) _ ?_;intro op ae;obtain⟨e,_,rfl⟩:=Go.Conc.mem_ofEvents ae;rfl
 have S:Deaf (tr++MemOp.ofEvents i g.frame.fn g.frame.place es) i=deafBehind (Deaf tr i) es:=Deaf_own ..;refine⟨?_,Y,?_,?_,?_,?_,?_,?_,?_,W,ah,ag,aa,ab,λ j K=>?_⟩
 .intro j r _ B;by_cases e:j=i
  .subst e;exact⟨g',(G r B).1,.inl (Wo hi)⟩
  .rw[F j e]at B;obtain⟨ac,hJ,hg⟩:=h.live j r (λ e'=>e (Option.some.inj e').symm) B;have L:=hJ.running T;rw[H j e];refine⟨ac,hJ,?_⟩;rw[Wa e];rcases hg with hg|⟨hg,ho,Z⟩
   .exact .inl (by rw[hg,Option.map_some,Wk L])
   .rw[hg,Option.map_some];rcases yy (P:=P) (g:=g) (g':=g') (w':=w') L ho with e|e
    .exact .inl (by rw[e])
    .exact .inr ⟨by rw[e],ho,Z⟩
 .intro j x B hx hp;by_cases e:j=i
  .subst e;rw[Wo hi]at hx;cases hx;rw[S];rcases(z B).2.2.2.2 with⟨_,Q⟩|⟨Q,_⟩
   .exact Q
   .exact absurd hp Q
  .rw[Wa e]at hx;obtain⟨y,hy,rfl⟩:=Option.map_eq_some_iff.1 hx;rw[F j e]at B;rw[H j e]at hp;have:=h.gone j y B hy hp;rw[woken_quitsD this,hD j e,hq j e];exact this
 .intro j B hp;by_cases e:j=i
  .subst e;rcases(z B).2.2.2.2 with⟨Q,_⟩|⟨_,b,Z,Q⟩
   .exact absurd Q hp
   .refine⟨g',b,Wo hi,?_,by rw[S];exact Q⟩;rw[H 0 (Ne.symm (z B).1)];exact Z
  .rw[F j e]at B;rw[H j e]at hp;obtain⟨y,b,hy,Z,ht⟩:=h.tail j B hp;refine⟨y,b,?_,?_,?_⟩
   .rw[Wa e,hy,Option.map_some,Wk ht.running]
   .by_cases e0:i=0
    .subst e0;rcases E with E|E|E
     .exact absurd rfl E
     .rw[E];exact Z
     .exact absurd (E j e) hp
    .rw[H 0 (Ne.symm e0)];exact Z
   .rw[hD j e,hq j e,H j e];exact ht
 .intro j K;rw[Jp]at K;have e:j≠i:=O1
  rw[F j e,hD j e];obtain⟨a1,a2,a3⟩:=h.above j K;exact⟨a1,a2,(af j e).elim (λ x=>x.trans a3) id⟩
 .intro j B;by_cases e:j=i
  .subst e;exact⟨(z B).2.1,(z B).2.2.1⟩
  .rw[H j e];rw[F j e]at B;exact h.bare j B
 .intro j h0 B;by_cases e:j=i
  .subst e;obtain⟨r,X⟩:=Option.ne_none_iff_exists'.1 B;exact(G r X).2.2 h0
  .rw[H j e];rw[F j e]at B;exact h.wk j h0 B
 .intro j hw;by_cases e:j=i
  .subst e;intro B;exact(z B).2.2.2.1 hw
  .rw[H j e]at hw;rw[F j e];exact h.wk' j hw
 .intro j B;by_cases e:j=i
  .subst e;obtain⟨r,X⟩:=Option.ne_none_iff_exists'.1 B;rw[S];exact(G r X).2.1
  .rw[H j e,hD j e];rw[F j e]at B;exact h.deaf j B
 .by_cases e:j=i
  .subst e;exact ad K
  .unfold Q5;rw[H j e];rw[F j e]at K;exact h.bareM j K
end
def WV:Nat->(Nat->Nat)->Nat
 |0,_=>0
 |n+1,f=>WV n f+f n
def DN{f b:Nat->Nat}:∀{n:Nat},(∀j,j<n->b j=f j)->WV n b=WV n f
 |0,_=>rfl
 |n+1,h=>by simp only[WV,DN (n:=n) λ j e=>h j O1,h n O1]
def Dp{f b:Nat->Nat}{i:Nat}:∀{n:Nat},i<n->(∀j,j<n->j≠i->b j=f j)->b i<f i->WV n b<WV n f
 |0,w,_,_=>O1
 |n+1,w,h,B=>by
  by_cases e:i=n
  .subst e;simp only[WV];rw[DN (n:=i) λ j z=>h j O1 O1];omega
  .have:=Dp (n:=n) O1 (λ j z E=>h j O1 E) B;simp only[WV,h n O1 O1];omega
def left(rk:Nat->Option Tr)(q:Nat->Nat)(i:Nat):Nat:=if(rk i).isSome then 0 else q i
def Nw{f:Nat->Nat}(h:∀j,f j<=1):∀n,WV n f<=n
 |0=>Nat.le_refl _
 |n+1=>by have:=Nw h n;have:=h n;simp only[WV];omega
def HZ(gs:Array Gr)(i:Nat):Nat:=if(gs[i]?).any (·.status==.running)then 1 else 0
def dU(gs:Array Gr)(i:Nat):HZ gs i<=1:=by unfold HZ;split <;> omega
def Du(gs:Array Gr):Nat:=WV gs.size (HZ gs)
def sR(gs:Array Gr):Du gs<=gs.size:=Nw (dU gs) _
def QF(gs:Array Gr)(rk:Nat->Option Tr)(q:Nat->Nat):List Tr×Nat:=(JX gs.size rk,(gs.size+1)*WV gs.size (left rk q)+Du gs)
def MH{gs b:Array Gr}{rk:Nat->Option Tr}{q q':Nat->Nat}{i:Nat}(G:b.size=gs.size)(w:i<gs.size)(F:rk i=none)(E:∀j,j≠i->q' j=q j)(B:q' i<q i):JD (QF b rk q') (QF gs rk q):=by
 unfold QF;rw[G];refine JD.num ?_;have e:WV gs.size (left rk q')<WV gs.size (left rk q):=Dp w (λ j _ z=>by simp[left,E j z]) (by simp[left,F,B]);have H:=sR b;have h:=Nat.mul_le_mul_left (gs.size+1) e;rw[Nat.mul_succ]at h;omega
def g_{gs:Array Gr}{rk:Nat->Option Tr}{q:Nat->Nat}{i:Nat}{g g':Gr}(h:gs[i]?=some g)(B:g.status=.running)(w:g'.status=.blocked):JD (QF (gs.setIfInBounds i g') rk q) (QF gs rk q):=by
 have b:=(Array.getElem?_eq_some_iff.1 h).1;unfold QF;have e:(gs.setIfInBounds i g').size=gs.size:=S1
 rw[e];refine JD.num (Nat.add_lt_add_left ?_ _);unfold Du;rw[e];refine Dp b (λ j _ z=>?_) ?_
 .unfold HZ;rw[Array.getElem?_setIfInBounds_ne (Ne.symm z)]
 .have h1:HZ gs i=1:=by unfold HZ;rw[h];simp[B]
  have E:HZ (gs.setIfInBounds i g') i=0:=by unfold HZ;simp[b,w]
  omega
section
variable{W R W' R':Hd->Loc->Prop}{rel:Nat->Option Nat}{blk mb rm:Option Nat}{act wk:Nat->Prop}{size size' i:Nat}{t:Trace}{fn:FuncId}{pos:String}{es:Array Event}
def TI.events(h:TI W R rel blk mb rm act wk size t)(K:size<=size')(B:∀e∈es,(MemAct.ofEvent e).low size')(I:∀e∈es,∀a,MemAct.ofEvent e≠.mark (.release a))
  (F:∀j a,touchAt t j=some a->∀e∈es,∀b,(MemAct.ofEvent e).touch?=some b->∀said,a.conflicts said b->Knows t i j)
  (M:∀k l,W' k l->W k l\/(k=.run i/\Loc.newN size l)) (L:∀k l,R' k l->R k l\/(k=.run i/\Loc.newN size l))
  (E:∀e∈es,∀a,(MemAct.ofEvent e).touch?=some a->∀k,k≠.run i->¬W k a.loc/\(a.write=true->¬R k a.loc))
  (H:∀e∈es,∀a,(MemAct.ofEvent e).touch?=some a->JE blk a.loc->a.kind≠.plain/\(a.kind=.said->i=0)) (G:∀e∈es,∀a,(MemAct.ofEvent e).touch?=some a->JE mb a.loc->a.kind=.atomic)
  (z:i=0\/wk i\/∀j,t.size<=j->¬(t++MemOp.ofEvents i fn pos es).counts j) :
  TI W' R' rel blk mb rm act wk size' (t++MemOp.ofEvents i fn pos es):=by
 refine h.step K ?_ ?_ ?_ ?_ M L ?_ ?_ ?_ z
 .intro op hop;obtain⟨e,_,rfl⟩:=Go.Conc.mem_ofEvents hop;rfl
 .intro op hop;obtain⟨e,w,rfl⟩:=Go.Conc.mem_ofEvents hop;exact B e w
 .intro op hop;obtain⟨e,w,rfl⟩:=Go.Conc.mem_ofEvents hop;exact I e w
 .intro j a ha op hop;obtain⟨e,w,rfl⟩:=Go.Conc.mem_ofEvents hop;exact F j a ha e w
 .intro op hop;obtain⟨e,w,rfl⟩:=Go.Conc.mem_ofEvents hop;exact E e w
 .intro op hop;obtain⟨e,w,rfl⟩:=Go.Conc.mem_ofEvents hop;exact H e w
 .intro op hop;obtain⟨e,w,rfl⟩:=Go.Conc.mem_ofEvents hop;exact G e w
def Dz(e:Event):Prop:=(MemAct.ofEvent e).touch?=none/\(∀n,(MemAct.ofEvent e).low n)/\∀a,MemAct.ofEvent e≠.mark (.release a)
def V4{e:Event}(h:e.mute=true):Dz e:=by
 obtain⟨loc,wr,b⟩:=e;cases loc <;> simp[Event.mute]at h;rename_i m;cases m <;> simp at h <;> exact⟨rfl,λ _=>trivial,λ _ h=>by cases h⟩
def TI.dumb(h:TI W R rel blk mb rm act wk size t)(z:∀e∈es,Dz e):TI W R rel blk mb rm act wk size (t++MemOp.ofEvents i fn pos es):=by
 refine h.events (Nat.le_refl _) (λ e h=>(z e h).2.1 _) (λ e h=>(z e h).2.2) (λ j a _ e h b F=>?_) (λ _ _=>.inl) (λ _ _=>.inl) (λ e h a w=>?_) (λ e h a w=>?_) (λ e h a w=>?_) ?_
 .rw[(z e h).1]at F;cases F
 .rw[(z e h).1]at w;cases w
 .rw[(z e h).1]at w;cases w
 .rw[(z e h).1]at w;cases w
 .refine .inr (.inr λ j K G=>?_);obtain⟨x,I,_⟩:=G;rcases Jm (t:=t) I with⟨H,_⟩|⟨_,op,E,B,_⟩
  .omega
  .obtain⟨e,he',rfl⟩:=Go.Conc.mem_ofEvents E;rw[(z e he').1]at B;cases B
end
section
variable{V:Hd->Qa Tk}{rel:Nat->Option Nat}{blk mb rm:Option Nat}{act wk:Nat->Prop}{i:Nat}{tr:Trace}{w w':World}{fn:FuncId}{pos:String}{es:Array Event}{U':Qa Tk}
def TB{U:Qa Tk}{e:Event}(h:JZ U w e)(F:H5 w' e):Dz e \/
  ((∃x,(MemAct.ofEvent e).touch?=some x/\x.kind=.plain/\x.loc=e.loc/\(x.write=true->U.canW e.loc\/Loc.new w e.loc)/\(U.canR e.loc\/Loc.new w e.loc))/\(MemAct.ofEvent e).low w'.heap.size/\∀a,MemAct.ofEvent e≠.mark (.release a)):=by
 obtain⟨loc,wr,H⟩:=e;cases loc with
 |cell a=>
  obtain⟨B,z⟩:=h;simp only at B z;subst B;refine .inr ⟨⟨_,rfl,rfl,rfl,λ E=>?_,?_⟩,F,λ _ h=>by cases h⟩
  .simp only at E;subst E;simpa using z
  .cases wr
   .simpa using z
   .simp only[if_true]at z;exact z.imp Zy id
 |obj b=>
  obtain⟨B,z⟩:=h;simp only at B z;subst B;have G:MemAct.ofEvent ⟨.obj b,wr,false⟩=.access ⟨.obj b,wr,false⟩:=by cases wr <;> rfl
  rw[G];refine .inr ⟨⟨_,rfl,rfl,rfl,λ E=>?_,?_⟩,F,λ _ h=>by cases h⟩
  .simp only at E;subst E;simpa using z
  .cases wr
   .simpa using z
   .simp only[if_true]at z;exact z.imp Zy id
 |mark m=>
  have h:Mark.still m=true:=h;left;cases m <;> simp[Mark.still]at h <;> exact⟨rfl,λ _=>trivial,λ _ h=>by cases h⟩
 |output=>exact h.elim
 |goroutines=>exact h.elim
def Tj{l:Loc}(h:Loc.new w l):Loc.newN w.heap.size l:=by cases l <;> exact h
def Nh(h:TI (λ k=>(V k).canW) (λ k=>(V k).canR) rel blk mb rm act wk w.heap.size tr)(S:VI V w)(hb:∀b,blk=some b->b<w.heap.size/\QK b (V (.run i)))(hm:∀b,mb=some b->b<w.heap.size/\QK b (V (.run i)))
  (E:∀e∈es,JZ (V (.run i)) w e/\H5 w' e) (X:ZV (V (.run i)) w w' U') (hi:i=0\/wk i) :
  TI (λ k=>(Q3 V (.run i) U' k).canW) (λ k=>(Q3 V (.run i) U' k).canR) rel blk mb rm act wk w'.heap.size (tr++MemOp.ofEvents i fn pos es):=by
 have key:∀e∈es,∀x,(MemAct.ofEvent e).touch?=some x->x.kind=.plain/\(x.write=true->(V (.run i)).canW x.loc\/Loc.new w x.loc)/\((V (.run i)).canR x.loc\/Loc.new w x.loc):=by
  intro e B x N;rcases TB (E e B).1 (E e B).2 with H|⟨⟨y,hy,P,F,z,h4⟩,_⟩
  .rw[H.1]at N;cases N
  .rw[hy]at N;cases N;rw[F];exact⟨P,z,h4⟩
 refine h.events X.size ?_ ?_ ?_ ?_ ?_ ?_ ?_ ?_ (hi.imp id .inl)
 .intro e B;rcases TB (E e B).1 (E e B).2 with H|⟨_,H,_⟩
  .exact H.2.1 _
  .exact H
 .intro e B;rcases TB (E e B).1 (E e B).2 with H|⟨_,_,H⟩
  .exact H.2.2
  .exact H
 .intro j a ha e B b hb' said hc;obtain⟨P,F,z⟩:=key e B b hb'
  have I:¬Loc.new w a.loc:=by
   obtain⟨x,N,aa⟩:=touch_of ha;exact λ Q=>MG (h.low x (Array.mem_of_getElem? N)) aa (Tj Q)
  obtain⟨W,_,Z,_⟩:=hc;rw[<- W]at F z;refine h.known (.run i) j a ha ?_;rcases Z with M|M
  .exact .inr ⟨z.resolve_right I,M⟩
  .exact .inl ((F M).resolve_right I)
 .intro k l hl;by_cases e:k=.run i
  .subst e;simp only[Ql]at hl;exact(X.cw l hl).imp id λ Q=>⟨rfl,Tj Q⟩
  .simp only[Qh _ _ e]at hl;exact .inl hl
 .intro k l hl;by_cases e:k=.run i
  .subst e;simp only[Ql]at hl;exact(X.cr l hl).imp id λ Q=>⟨rfl,Tj Q⟩
  .simp only[Qh _ _ e]at hl;exact .inl hl
 .intro e B a ha k hk;obtain⟨P,F,z⟩:=key e B a ha;refine⟨λ M=>?_,λ U hr=>?_⟩
  .rcases z with z|z
   .exact S.sep k (.run i) _ hk M z
   .exact YR (S.ok k) (Zy M) z
  .rcases F U with F|F
   .exact S.sep (.run i) k _ (Ne.symm hk) F hr
   .exact YR (S.ok k) hr F
 .intro e B a ha hib;exfalso;obtain⟨P,F,z⟩:=key e B a ha;obtain⟨loc,wr,kd⟩:=a;cases loc <;> simp only[JE]at hib;rename_i T;obtain⟨K,G⟩:=hib;obtain⟨Y,L⟩:=hb _ K;rcases z with z|z
  .exact L T rfl G z
  .simp only[Loc.new]at z;omega
 .intro e B a ha hib;exfalso;obtain⟨P,F,z⟩:=key e B a ha;obtain⟨loc,wr,kd⟩:=a;cases loc <;> simp only[JE]at hib;rename_i T;obtain⟨K,G⟩:=hib;obtain⟨Y,L⟩:=hm _ K;rcases z with z|z
  .exact L T rfl G z
  .simp only[Loc.new]at z;omega
def Oh(b:Nat)(parent:Bool)(e:Event):Prop:=
 Event.mute e=true\/(∃o wr,o<2/\e=⟨.cell ⟨b,o,none⟩,wr,true⟩)\/(parent=true/\∃o wr,o<2/\e=Z8 (bif wr then .write ⟨b,o,none⟩else .read ⟨b,o,none⟩))
def Nv{b:Nat}(h:TI (λ k=>(V k).canW) (λ k=>(V k).canR) rel (some b) mb rm act wk w.heap.size tr)(N:b<w.heap.size)(K:∀k,QK b (V k))(L:act i)
  (P:∀e∈es,Oh b (i==0) e) (Q:mb≠some b) (U:i=0\/wk i\/∀j,tr.size<=j->¬(tr++MemOp.ofEvents i fn pos es).counts j) :
  TI (λ k=>(V k).canW) (λ k=>(V k).canR) rel (some b) mb rm act wk w.heap.size (tr++MemOp.ofEvents i fn pos es):=by
 have key:∀e∈es,(MemAct.ofEvent e).low w.heap.size/\(∀a,MemAct.ofEvent e≠.mark (.release a))/\∀x,(MemAct.ofEvent e).touch?=some x->(∃o,o<2/\x.loc=.cell ⟨b,o,none⟩)/\(x.kind=.atomic\/(x.kind=.said/\i=0)):=by
  intro e z;rcases P e z with W|⟨o,wr,K,rfl⟩|⟨X,o,wr,K,rfl⟩
  .have:=V4 W;exact⟨this.2.1 _,this.2.2,λ x H=>by rw[this.1]at H;cases H⟩
  .refine⟨N,λ _ h=>(by cases h),λ x H=>?_⟩;cases H;exact⟨⟨o,K,rfl⟩,.inl rfl⟩
  .have B:i=0:=by simpa using X
   cases wr
   .refine⟨N,λ _ h=>(by cases h),λ x H=>?_⟩;cases H;exact⟨⟨o,K,rfl⟩,.inr ⟨rfl,B⟩⟩
   .refine⟨N,λ _ h=>(by cases h),λ x H=>?_⟩;cases H;exact⟨⟨o,K,rfl⟩,.inr ⟨rfl,B⟩⟩
 refine h.events (Nat.le_refl _) (λ e z=>(key e z).1) (λ e z=>(key e z).2.1) ?_ (λ _ _=>.inl) (λ _ _=>.inl) ?_ ?_ ?_ U
 .intro j a ha e z x H said hc;obtain⟨⟨o,G,M⟩,E⟩:=(key e z).2.2 x H;obtain⟨T,_,_,I⟩:=hc;have F:JE (some b) a.loc:=by rw[T,M];exact⟨rfl,G⟩
  rcases I with I|I|⟨_,I,S⟩
  .exact h.grpP j a ha F I i L
  .rcases E with E|⟨E,_⟩ <;> rw[E]at I <;> cases I
  .rcases E with E|⟨_,B⟩
   .rw[E]at S;cases S
   .subst B;exact h.grpS j a ha F I
 .intro e z a ha k _;obtain⟨⟨o,G,M⟩,_⟩:=(key e z).2.2 a ha;rw[M];exact⟨λ Z=>K k _ rfl G (Zy Z),λ _ Y=>K k _ rfl G Y⟩
 .intro e z a ha _;obtain⟨_,E⟩:=(key e z).2.2 a ha;rcases E with E|⟨E,B⟩ <;> rw[E]
  .exact⟨λ h=>(by cases h),λ h=>(by cases h)⟩
  .exact⟨λ h=>(by cases h),λ _=>B⟩
 .intro e z a ha F;obtain⟨⟨o,G,M⟩,_⟩:=(key e z).2.2 a ha;rw[M]at F;exact absurd F.1 Q
def eM{m:Nat}(h:TI (λ k=>(V k).canW) (λ k=>(V k).canR) rel blk (some m) rm act wk w.heap.size tr)(S:m<w.heap.size)(L:∀k,QK m (V k))(H:act i)
  (M:∀e∈es,Pa m e) (I:blk≠some m) (T:wk i) :
  TI (λ k=>(V k).canW) (λ k=>(V k).canR) rel blk (some m) rm act wk w.heap.size (tr++MemOp.ofEvents i fn pos es):=by
 have key:∀e∈es,(MemAct.ofEvent e).low w.heap.size/\(∀a,MemAct.ofEvent e≠.mark (.release a))/\∀x,(MemAct.ofEvent e).touch?=some x->(∃o,o<2/\x.loc=.cell ⟨m,o,none⟩)/\x.kind=.atomic:=by
  intro e b;rcases M e b with U|⟨o,wr,L,rfl⟩
  .have:=V4 U;exact⟨this.2.1 _,this.2.2,λ x F=>by rw[this.1]at F;cases F⟩
  .refine⟨S,λ _ h=>(by cases h),λ x F=>?_⟩;cases F;exact⟨⟨o,L,rfl⟩,rfl⟩
 refine h.events (Nat.le_refl _) (λ e b=>(key e b).1) (λ e b=>(key e b).2.1) ?_ (λ _ _=>.inl) (λ _ _=>.inl) ?_ ?_ ?_ (.inr (.inl T))
 .intro j a ha e b x F said hc;obtain⟨⟨o,z,K⟩,P⟩:=(key e b).2.2 x F;obtain⟨Q,_,_,E⟩:=hc;have B:JE (some m) a.loc:=by rw[Q,K];exact⟨rfl,z⟩
  by_cases G:a.kind=.atomic
  .exfalso;rcases E with E|E|⟨_,E,N⟩
   .rw[G]at E;cases E
   .rw[P]at E;cases E
   .rw[P]at N;cases N
  .exact h.grpM j a ha B G i H
 .intro e b a ha k _;obtain⟨⟨o,z,K⟩,_⟩:=(key e b).2.2 a ha;rw[K];exact⟨λ X=>L k _ rfl z (Zy X),λ _ W=>L k _ rfl z W⟩
 .intro e b a ha B;obtain⟨⟨o,z,K⟩,_⟩:=(key e b).2.2 a ha;rw[K]at B;exact absurd B.1 I
 .intro e b a ha _;exact((key e b).2.2 a ha).2
def Y0{b:Nat}(B:∀e∈es,Event.mute e=true\/∃o wr,e=⟨.cell ⟨b,o,none⟩,wr,true⟩)(K:∀j,j<es.size->deafBehind (Deaf tr i) (es.extract 0 j)≠0) :
  ∀j,tr.size<=j->¬(tr++MemOp.ofEvents i fn pos es).counts j:=by
 intro j L I;obtain⟨x,N,_,w⟩:=I;rcases Jm (t:=tr) N with⟨z,_⟩|⟨_,op,E,h,H⟩
 .omega
 .obtain⟨e,he,rfl⟩:=Go.Conc.mem_ofEvents E;rcases B e he with M|⟨o,wr,rfl⟩
  .rw[(V4 M).1]at h;cases h
  .cases h;rcases w with w|⟨g,G,w⟩
   .exact w rfl
   .have hgi:g=i:=by
     simp only[Trace.g?,H,Option.map_some,Option.some.injEq]at G;exact G.symm
    subst hgi;have z:=lt_size_of_getElem? H;have F:(MemOp.ofEvents g fn pos es).size=es.size:=by rw[ofEvents_eq];simp
    rw[Array.size_append,F]at z;obtain⟨k,rfl⟩:=Nat.exists_eq_add_of_le L;rw[deaf_inside tr g fn pos es k O1]at w;exact K k O1 w
end
section
variable{P:Program}{t:TypeId}{N:Nat}{Stop:QJ Tk}{gs:Array Gr}{w:World}{tr:Trace}{V V':Hd->Qa Tk}{rk:Nat->Option Tr}{rel:Nat->Option Nat}{q:Nat->Nat}
def QI.turn(h:QI t N gs w V rel)(e:∀j,(V' (.run j)).tok=(V (.run j)).tok)(I:∀j,V' (.dep j)=V (.dep j))(G:∀k l,(V' k).canR l->(V k).canR l):QI t N gs w V' rel:=by
 have L:Z9 V'=Z9 V:=by funext j;simp only[Z9,e]
 unfold QI at h ⊢;rw[e 0]
 revert h
 cases(V (.run 0)).tok.ph with
 |out=>exact λ h=>⟨λ i K=>by rw[e];exact h.1 i K,h.2⟩
 |par b ds pend k=>
  rintro⟨z,W,c,wt,s,B,E,F⟩;refine⟨λ j a H M P=>z j a H M (G _ _ P),W,c,wt,s,B,?_,F⟩;rw[L];simpa only[I]using E
 |_=>exact λ h=>h
def TI.tok{rel:Nat->Option Nat}{rm:Option Nat}{size:Nat}(h:TI (λ k=>(V k).canW) (λ k=>(V k).canR) rel (V (.run 0)).tok.ph.blk (Jz V) rm (λ i=>i=0\/(V (.run i)).tok.ph≠.out) (λ i=>ZP (V (.run i)).tok.ph) size tr)
  (e:∀j,(V' (.run j)).tok=(V (.run j)).tok) (z:∀k l,(V' k).canW l->(V k).canW l) (w:∀k l,(V' k).canR l->(V k).canR l) :
  TI (λ k=>(V' k).canW) (λ k=>(V' k).canR) rel (V' (.run 0)).tok.ph.blk (Jz V') rm (λ i=>i=0\/(V' (.run i)).tok.ph≠.out) (λ i=>ZP (V' (.run i)).tok.ph) size tr:=by
 have b:Jz V'=Jz V:=by simp only[Jz,Q5,e]
 rw[b];simp only[e];exact h.turn z w λ _ h=>h
def Sh.ne{b m:Nat}{t z:TypeId}{c wt a:Nat}{sm sm':Value}{w:World}(h:Sh b t (Q2 c wt) sm w)(k:Sh m z (Zg a) sm' w):m≠b:=by
 rintro rfl;have e:some (Obj.cells #[Q2 c wt,sm] t (0,0))=some (Obj.cells #[Zg a,sm'] z (0,0)):=h.symm.trans k;simp[Q2,Zg]at e
def Sh.two_other{b m:Nat}{t e:TypeId}{st sm x y:Value}{w:World}(k:Sh m e st sm w)(h:m≠b):Sh m e st sm (TM.two w b t x y):=by
 unfold Sh TM.two;simp only;rw[Array.getElem?_setIfInBounds_ne (Ne.symm h)];exact k
def JL.mb(h:JL gs w V){m:Nat}(b:Jz V=some m):m<w.heap.size/\(∀j,QK m (V j))/\∃t st sm,Sh m t (Zg st) (Qq sm) w:=by
 obtain⟨-,-,z⟩:=h;unfold Jz at b;cases e:Q5 V 0 with
 |none=>rw[e]at b;cases b
 |some mu=>
  rw[e]at b z;cases mu with
  |lok=>exact z.elim
  |par x u=>
   cases b;obtain⟨E,F,st,sm,B⟩:=z;exact⟨(Array.getElem?_eq_some_iff.1 B.sh).1,E,_,_,_,B.sh⟩
def JL.mb_ne(h:JL gs w V){b c wt:Nat}{t:TypeId}{s:Value}(z:Sh b t (Q2 c wt) s w):Jz V≠some b:=λ e=>by
 obtain⟨-,-,_,_,_,k⟩:=h.mb e;exact z.ne k rfl
def JL.step{i:Nat}{g g':Gr}{w' H:World}(h:JL gs w V)(L:gs[i]?=some g)(E:∀x s me lo,Q5 V i=some (.lok x s me lo)->g'.status=.running)(M:∀i,Q5 V' i=Q5 V i)(N:V' .lck=V .lck)
  (B:∀m,(∀j,QK m (V j))->m<w.heap.size->∀j,QK m (V' j)) (G:∀m t st sm,(∀j,QK m (V j))->Sh m t (Zg st) (Qq sm) w->Sh m t (Zg st) (Qq sm) w'):JL (behind P gs i g g' H) w' V':=by
 refine h.at M N B G λ j x s me lo y e F b=>?_;by_cases I:j=i
 .subst I;rw[Wo L]at F;cases F;exact absurd (E _ _ _ _ e) b
 .rw[Wa I]at F;obtain⟨z,Q,rfl⟩:=Option.map_eq_some_iff.1 F;exact⟨z,Q,λ K=>b (by rw[Wk K];exact K)⟩
def MI.shift{i:Nat}{r:Tr}{B:Qa Tk}(h:MI P t N Stop none gs w tr V rk rel q)(W:rk i=some r)(K:Qx (V (.run i)) B):MI P t N Stop (some i) gs w tr (Q3 V (.run i) B) rk rel q:=by
 have F:∀j,j≠i->Q3 V (.run i) B (.run j)=V (.run j):=λ j b=>Qh _ _ (by intro e;cases e;exact b rfl)
 have z:∀j,(Q3 V (.run i) B (.run j)).tok=(V (.run j)).tok:=by
  intro j;by_cases e:j=i
  .subst e;rw[Ql];exact K.1
  .rw[F j e]
 have L:∀j,Q3 V (.run i) B (.dep j)=V (.dep j):=λ j=>Qh _ _ S1;obtain⟨U,X,G⟩:=K.2 w (h.vi.ok (.run i))
 have M:∀k l,(Q3 V (.run i) B k).canW l->(V k).canW l:=by
  intro k l E;by_cases e:k=.run i
  .subst e;rw[Ql]at E;exact X l E
  .rwa [Qh _ _ e]at E
 have H:∀k l,(Q3 V (.run i) B k).canR l->(V k).canR l:=by
  intro k l E;by_cases e:k=.run i
  .subst e;rw[Ql]at E;exact G l E
  .rwa [Qh _ _ e]at E
 refine⟨?_,h.root,?_,?_,h.above,?_,?_,?_,?_,?_,h.vi.shift K,h.ti.imp λ _ x=>x.tok z M H,h.grp.turn z L H,h.mux.at (λ j=>by simp only[Q5,z]) (Qh _ _ S1) (λ m S _ j a Q T G=>S j a Q T (H _ _ G)) (λ _ _ _ _ _ x=>x) (λ j x s me lo y _ Y I=>⟨y,Y,I⟩),λ j b=>by simp only[Q5,z];exact h.bareM j b⟩
 .intro j r' b hr';have e:j≠i:=λ e=>b (by rw[e]);have:=h.live j r' S1 hr';rw[F j e];exact this
 .intro j g b hg hp;rw[z]at hp;exact h.gone j g b hg hp
 .intro j b hp;rw[z]at hp;simp only[z];exact h.tail j b hp
 .intro j b;have e:j≠i:=λ e=>by subst e;rw[W]at b;cases b
  rw[F j e];exact h.bare j b
 .intro j h0 b;rw[z];exact h.wk j h0 b
 .intro j b;rw[z]at b;exact h.wk' j b
 .intro j b;rw[z];exact h.deaf j b
 .intro j b;rw[L];exact h.deps j b
def JM(P:Program)(t:TypeId)(N:Nat)(Stop:QJ Tk)(gs:Array Gr)(w:World)(sl:Option (Nat×Nat))(tr:Trace)(rk:Nat->Option Tr)(q:Nat->Nat)(i:Nat):Prop:=
 ∃b w' ops V' rk' rel' q',runT P (crowd gs w sl) i=(.next (crowd b w' sl),ops)/\MI P t N Stop none b w' (tr++ops) V' rk' rel' q'/\JD (QF b rk' q') (QF gs rk q)/\WD w.os w'.os/\w'.output=w.output
variable{sl:Option (Nat×Nat)}
def XL{b:Array Gr}{q':Nat->Nat}{i:Nat}{r:Tr}{x:Option Tr}(z:b.size=gs.size)(h:i<gs.size)(w:rk i=some r)(B:∀e,x=some e->Tr.Sub e r):JD (QF b (Zt rk i x) q') (QF gs rk q):=by
 unfold QF;rw[z];exact JD.cut (uq h w B)
def MI.priv(B:∀m g U,Stop m g U->g.status=.running){i:Nat}{g:Gr}{r:Tr}(h:MI P t N Stop (some i) gs w tr V rk rel q)(Z:gs[i]?=some g)(hr:rk i=some r)
  (hp:Pb P (λ m g U=>∃r',Tr.Sub r' r/\JR (Zd P t N) Stop r' m g U) (i==0) g (V (.run i))):JM P t N Stop gs w sl tr rk q i:=by
 have ae:=(Array.getElem?_eq_some_iff.1 Z).1;obtain⟨hs,hp⟩:=hp;obtain⟨g',w',es,U',ai,Y,I,ag,H,r',ac,hJ⟩:=hp w (h.vi.ok (.run i))
 have M:deafBehind (Deaf tr i) es=Deaf tr i:=by
  refine deafBehind_still (λ e X=>?_) _;obtain⟨X,_⟩:=Y e X;obtain⟨loc,wr,sy⟩:=e;cases loc with
  |mark m=>have X:Mark.still m=true:=X;cases m <;> simp[Mark.still]at X ⊢
  |_=>simp
 have aa:∀j,j≠i->Q3 V (.run i) U' (.run j)=V (.run j):=λ j Q=>Qh _ _ (by intro e;cases e;exact Q rfl)
 have L:∀j,(Q3 V (.run i) U' (.run j)).tok=(V (.run j)).tok:=by
  intro j;by_cases e:j=i
  .subst e;rw[Ql];exact H
  .rw[aa j e]
 have hd:∀j,Q3 V (.run i) U' (.dep j)=V (.dep j):=λ j=>Qh _ _ S1;have ab:rk i≠none:=by rw[hr];simp
 have ad:i=0\/ZP (V (.run i)).tok.ph:=by
  by_cases e:i=0
  .exact .inl e
  .exact .inr (h.wk i e ab)
 have af:Jz (Q3 V (.run i) U')=Jz V:=by simp only[Jz,Q5,L]
 have G:∀b,(V (.run 0)).tok.ph.blk=some b->b<w.heap.size/\∀j,QK b (V j):=by
  intro b F;have E:=h.grp;unfold QI at E
  revert E F
  cases(V (.run 0)).tok.ph with
  |out=>intro F;cases F
  |par b' ds pend k=>
   intro F;cases F;rintro⟨S,W,c,wt,s,h2,_⟩;exact⟨(Array.getElem?_eq_some_iff.1 h2).1,S⟩
  |_=>intro _ E;exact E.elim
 refine⟨_,w',_,Q3 V (.run i) U',Zt rk i (some r'),rel,q,runT_crowd_go Z ai,?_,XL Jp ae hr λ aj e=>by cases e;exact ac,I.os,I.output⟩;refine h.go B (V':=Q3 V (.run i) U') (rk':=Zt rk i (some r')) (rel':=rel) (q':=q) (es:=es) Z aa (λ j Q=>Qv _ _ Q) (λ _ _=>rfl) (λ _ _=>.inl rfl) ?_ (.inr (.inl (by rw[L]))) ?_ ?_ (λ j Q=>by rw[hd];exact h.deps j Q) (h.vi.priv I ag) ?_ ?_ ?_ (λ e=>by rw[Qj]at e;cases e)
 .by_cases e:i=0
  .subst e;rw[Qj];simp
  .rw[Qv _ _ (Ne.symm e)];exact h.root
 .intro aj e;rw[Qj]at e;cases e;rw[Ql];refine⟨hJ,?_,λ h0=>?_⟩
  .rw[M,H];exact h.deaf i ab
  .rw[H];exact ad.resolve_left h0
 .intro e;rw[Qj]at e;cases e
 .obtain⟨rm,hti⟩:=h.ti;have:=Nh (fn:=g.frame.fn) (pos:=g.frame.place) hti h.vi (λ b F=>⟨(G b F).1,(G b F).2 _⟩) (λ b F=>⟨(h.mux.mb F).1,(h.mux.mb F).2.1 _⟩) Y I ad;refine⟨rm,?_⟩;rw[af];simp only[L];exact this
 .have E:=h.grp;unfold QI at E ⊢;rw[L 0];have hk:Z9 (Q3 V (.run i) U')=Z9 V:=by funext j;simp only[Z9,L]
  revert E
  cases ah:(V (.run 0)).tok.ph with
  |out=>exact λ E=>⟨λ j Q=>by rw[L];exact E.1 j Q,E.2⟩
  |par b ds pend k=>
   rintro⟨S,W,c,wt,s,h2,h3,h4⟩;obtain⟨ak,_⟩:=G b (by rw[ah];rfl);refine⟨λ j a T ho z=>?_,W,c,wt,s,h2.guar I (S _),?_,?_⟩
   .by_cases e:j=.run i
    .subst e;rw[Ql]at z;rcases I.cr _ z with z|z
     .exact S _ a T ho z
     .simp only[Loc.new]at z;omega
    .rw[Qh _ _ e]at z;exact S _ a T ho z
   .rw[hk];simpa only[hd]using h3
   .intro g0 hg0 hns;by_cases e:i=0
    .subst e;rw[Wo Z]at hg0;cases hg0;exact absurd (hJ.running B) hns
    .rw[Wa (Ne.symm e)]at hg0;obtain⟨y,hy,rfl⟩:=Option.map_eq_some_iff.1 hg0;refine h4 y hy λ K=>hns ?_;rw[Wk K];exact K
  |_=>exact λ E=>E
 .refine h.mux.step Z (λ _ _ _ _ _=>hJ.running B) (λ j=>by simp only[Q5,L]) (Qh _ _ S1) (λ m hm al j a T ho z=>?_) (λ m t st sm hm hs=>hs.guar I (hm _));by_cases e:j=.run i
  .subst e;rw[Ql]at z;rcases I.cr _ z with z|z
   .exact hm _ a T ho z
   .simp only[Loc.new]at z;omega
  .rw[Qh _ _ e]at z;exact hm _ a T ho z
def QI.woken{i:Nat}{g g':Gr}{w':World}(E:gs[i]?=some g)(w:i=0->g'.status=.running){s:Nat}(h:∀g,gs[0]?=some g->g.status≠.running->s=0) :
  ∀x,(behind P gs i g g' w')[0]?=some x->x.status≠.running->s=0:=by
 intro x z b;by_cases e:i=0
 .subst e;rw[Wo E]at z;cases z;exact absurd (w rfl) b
 .rw[Wa (Ne.symm e)]at z;obtain⟨y,F,rfl⟩:=Option.map_eq_some_iff.1 z;refine h y F λ B=>b ?_;rw[Wk B];exact B
def MI.leaver(F:∀m g U,Stop m g U->g.status=.running){i:Nat}{g:Gr}(h:MI P t N Stop none gs w tr V rk rel q)(H:gs[i]?=some g)(z:g.status=.running)(E:rk i=none)(T:(V (.run i)).tok.ph=.out) :
  JM P t N Stop gs w sl tr rk q i:=by
 have Q:=(Array.getElem?_eq_some_iff.1 H).1;have B:i≠0:=λ e=>by subst e;exact h.root E
 have I:=h.gone i g E H T;cases G:q i with
 |zero=>rw[G]at I;rw[I.1]at z;cases z
 |succ n=>
  rw[G]at I;rcases I with⟨hs,_⟩|⟨_,g',es,S,X,I⟩
  .rw[hs]at z;cases z
  have K:stepG P (i==0) g w=.go g' w es:=by
   rw[show(i==0)=false by simpa using B];exact X w
  have h':MI P t N Stop (some i) gs w tr V rk rel q:={ h with live:=λ j r _ E=>h.live j r S1 E };refine⟨_,w,_,V,rk,rel,Zt q i n,runT_crowd_go H K,?_,MH (i:=i) Jp Q E (λ j M=>Qv _ _ M) (by rw[Qj,G];omega),.refl _,rfl⟩;refine h'.go F (V':=V) (rk':=rk) (rel':=rel) (q':=Zt q i n) (es:=es) H (λ _ _=>rfl) (λ _ _=>rfl) (λ j M=>Qv _ _ M) (λ _ _=>.inl rfl) h.root (.inl B) (λ r e=>by rw[E]at e;cases e) ?_ h.deps h.vi ?_ ?_ (h.mux.step H (λ x s me lo e=>absurd e ?_) (λ _=>rfl) rfl (λ _ S _=>S) λ _ _ _ _ _ x=>x) (h.bareM i)
  .intro _;obtain⟨Y,Z⟩:=h.bare i E;have hw:¬ZP (V (.run i)).tok.ph:=by rw[T];rintro⟨b,D,e⟩;cases e
   refine⟨B,Y,Z,hw,.inl ⟨T,?_⟩⟩;rw[Qj];exact I
  .exact h.ti.imp λ _ x=>x.dumb λ e he=>V4 (S e he)
  .have L:=h.grp;unfold QI at L ⊢
   revert L
   cases(V (.run 0)).tok.ph with
   |par b ds pend k=>exact λ⟨h1,W,c,wt,s,h2,h3,h4⟩=>⟨h1,W,c,wt,s,h2,h3,QI.woken H (λ e=>absurd e B) h4⟩
   |_=>exact λ L=>L
  .rw[h.bareM i E];simp
def MI.parent(G:∀m g U,Stop m g U->g.status=.running){g g':Gr}{r r':Tr}{d d' b:Nat}{ds B:List Spec}{pend z:Bool}{k k':PS}{W:List Nat}{c wt s Q wt' T:Nat}{es:Array Event}{bs:List (Nat×Bool)}{mu:Option ZS}
  (h:MI P t N Stop (some 0) gs w tr V rk rel q) (Y:gs[0]?=some g) (L:rk 0=some r) (E:(V (.run 0)).tok=⟨d,.par b ds pend k,mu⟩)
  (I:∀j,QK b (V j)) (F:Sh b t (Q2 c wt) (Qq s) w)
  (an:Qc P t true g (Q2 c wt) (Qq s)=.go g' (Q2 Q wt') (Qq T) es bs) (ah:Jc b bs) (ai:∀e∈es,Oh b true e) (hd:deafBehind d es=d')
  (aj:GI N b B z k' (Z9 V) rel (λ i=>(V (.dep i)).M) W Q wt' T) (ab:Tr.Sub r' r) (hJ:JR (Zd P t N) Stop r' true g' ((V (.run 0)).at d' (.par b B z k'))) :
  JM P t N Stop gs w sl tr rk q 0:=by
 have ak:=(Array.getElem?_eq_some_iff.1 Y).1;have K:=hJ.running G;have aa:stepG P (0==0) g w=.go g' (two w b t (Q2 Q wt') (Qq T)) es:=HH an F ah;have H:∀j,j≠0->Q3 V (.run 0) ((V (.run 0)).at d' (.par b B z k')) (.run j)=V (.run j):=λ j Z=>Qh _ _ (by intro e;cases e;exact Z rfl);have X:∀j,Q3 V (.run 0) ((V (.run 0)).at d' (.par b B z k')) (.dep j)=V (.dep j):=λ j=>Qh _ _ S1
 have S:∀j,(Q3 V (.run 0) ((V (.run 0)).at d' (.par b B z k')) j).canW=(V j).canW/\(Q3 V (.run 0) ((V (.run 0)).at d' (.par b B z k')) j).canR=(V j).canR:=by
  intro j;by_cases e:j=.run 0
  .subst e;rw[Ql];exact⟨rfl,rfl⟩
  .rw[Qh _ _ e];exact⟨rfl,rfl⟩
 have ag:b<w.heap.size:=(Array.getElem?_eq_some_iff.1 F).1;refine⟨_,_,_,Q3 V (.run 0) ((V (.run 0)).at d' (.par b B z k')),Zt rk 0 (some r'),rel,q,runT_crowd_go Y aa,?_,XL Jp ak L λ ap e=>by cases e;exact ab,.refl _,rfl⟩;refine h.go G (rel':=rel) (q':=q) (es:=es) Y H (λ j Z=>Qv _ _ Z) (λ _ _=>rfl) (λ _ _=>.inl rfl) (by rw[Qj];simp) (.inr (.inl (by rw[Ql,E];rfl))) ?_ ?_ (λ j Z=>by rw[X];exact h.deps j Z) ?_ ?_ ?_ ?_ (λ e=>by rw[Qj]at e;cases e)
 .intro ap e;rw[Qj]at e;cases e;rw[Ql];refine⟨hJ,?_,λ h0=>absurd rfl h0⟩;rw[h.deaf 0 h.root,E,hd];rfl
 .intro e;rw[Qj]at e;cases e
 .refine⟨λ j=>?_,λ ac ad l hn hw L=>h.vi.sep ac ad l hn (by rw[<- (S ac).1];exact hw) (by rw[<- (S ad).2];exact L)⟩;have hv:=(h.vi.two (st':=Q2 Q wt') (sm':=Qq T) F I).ok;by_cases e:j=.run 0
  .subst e;rw[Ql];exact⟨(hv (.run 0)).imm,(hv (.run 0)).held,(hv (.run 0)).apart,(hv (.run 0)).sep⟩
  .rw[Qh _ _ e];exact hv j
 .obtain⟨rm,hti⟩:=h.ti;rw[E]at hti;have:=Nv (i:=0) (fn:=g.frame.fn) (pos:=g.frame.place) hti ag I (.inl rfl) ai (h.mux.mb_ne F) (.inl rfl);refine⟨rm,?_⟩;have al:Jz (Q3 V (.run 0) ((V (.run 0)).at d' (.par b B z k')))=Jz V:=by simp only[Jz,Q5,Ql];rfl
  rw[al];have e1:(Q3 V (.run 0) ((V (.run 0)).at d' (.par b B z k')) (.run 0)).tok.ph.blk=some b:=by rw[Ql];rfl
  have e2:∀j,j=0\/(Q3 V (.run 0) ((V (.run 0)).at d' (.par b B z k')) (.run j)).tok.ph≠.out↔j=0\/(V (.run j)).tok.ph≠.out:=by
   intro j;by_cases e:j=0
   .simp[e]
   .rw[H j e]
  have e3:∀j,ZP (Q3 V (.run 0) ((V (.run 0)).at d' (.par b B z k')) (.run j)).tok.ph↔ZP (V (.run j)).tok.ph:=by
   intro j;by_cases e:j=0
   .subst e;rw[Ql,E];constructor
    .rintro⟨b,D,e⟩;cases e
    .rintro⟨b,D,e⟩;cases e
   .rw[H j e]
  rw[e1];have ae:=funext λ j=>propext (e2 j);have af:=funext λ j=>propext (e3 j);rw[ae,af];have ao:(two w b t (Q2 Q wt') (Qq T)).heap.size=w.heap.size:=by simp[two]
  rw[ao];exact this.turn (λ k l hl=>by rw[<- (S k).1];exact hl) (λ k l hl=>by rw[<- (S k).2];exact hl) (λ _ x=>x)
 .unfold QI;rw[Ql]
  have hk:Z9 (Q3 V (.run 0) ((V (.run 0)).at d' (.par b B z k')))=Z9 V:=by
   funext j;by_cases e:j=0
   .simp[Z9,e]
   .simp only[Z9,if_neg e,H j e]
  refine⟨λ j a ha ho L=>I j a ha ho (by rw[<- (S j).2];exact L),W,Q,wt',T,F.two,?_,λ x hx am=>?_⟩
  .rw[hk];simpa only[X]using aj
  .rw[Wo Y]at hx;cases hx;exact absurd K am
 .refine h.mux.step Y (λ _ _ _ _ _=>K) (λ j=>?_) (Qh _ _ S1) (λ m hm _ j a ha ho L=>hm j a ha ho (by rw[<- (S j).2];exact L)) (λ m t st sm _ hs=>hs.two_other (F.ne hs));by_cases e:j=0
  .subst e;simp only[Q5,Ql];rfl
  .simp only[Q5,H j e]
end
section
variable{P:Program}{t:TypeId}{N:Nat}{Stop:QJ Tk}{gs:Array Gr}{w:World}{tr:Trace}{V V':Hd->Qa Tk}{rk:Nat->Option Tr}{rel:Nat->Option Nat}{q:Nat->Nat}{sl:Option (Nat×Nat)}
def MI.par(h:MI P t N Stop none gs w tr V rk rel q){b:Nat}(z:(V (.run 0)).tok.ph.blk=some b) :
  ∃ds pend k,(V (.run 0)).tok.ph=.par b ds pend k/\(∀j,QK b (V j))/\∃W c wt s,Sh b t (Q2 c wt) (Qq s) w/\GI N b ds pend k (Z9 V) rel (λ i=>(V (.dep i)).M) W c wt s/\(∀g,gs[0]?=some g->g.status≠.running->s=0):=by
 have e:=h.grp;unfold QI at e
 revert e z
 cases B:(V (.run 0)).tok.ph with
 |out=>intro z;cases z
 |par E ds pend k=>
  intro z e;cases z;exact⟨ds,pend,k,rfl,e⟩
 |_=>intro _ e;exact e.elim
def MI.tailGo(H:∀m g U,Stop m g U->g.status=.running){i n:Nat}{g g':Gr}{b:Nat}{ds:List Spec}{pend:Bool}{k:PS}{W:List Nat}{c wt s S wt' Q:Nat}{es:Array Event}{bs:List (Nat×Bool)}{p':Ph}
  (h:MI P t N Stop none gs w tr V rk rel q) (hi:gs[i]?=some g) (z:i≠0) (F:rk i=none) (ab:(V (.run i)).tok.ph≠.out) (L:(V (.run 0)).tok.ph=.par b ds pend k)
  (I:∀j,QK b (V j)) (G:Sh b t (Q2 c wt) (Qq s) w) (af:∀g,gs[0]?=some g->g.status≠.running->s=0)
  (ap:Qc P t false g (Q2 c wt) (Qq s)=.go g' (Q2 S wt') (Qq Q) es bs) (ah:Jc b bs) (ai:∀e∈es,Oh b false e) (ao:∀j,tr.size<=j->¬(tr++MemOp.ofEvents i g.frame.fn g.frame.place es).counts j)
  (aj:GI N b ds pend k (Zt (Z9 V) i p') rel (λ i=>(V (.dep i)).M) W S wt' Q) (au:Q=s\/(mayWake P g=true/\(g'.status=.running\/g'.status=.finished)))
  (hq:q i=n+1) (aa:¬ZP p')
  (hk:(p'=.out/\QuitsD P n (deafBehind (Deaf tr i) es) g')\/(p'≠.out/\Tl P t N b n (deafBehind (Deaf tr i) es) p' g')):JM P t N Stop gs w sl tr rk q i:=by
 have al:=(Array.getElem?_eq_some_iff.1 hi).1
 have ad:stepG P (i==0) g w=.go g' (two w b t (Q2 S wt') (Qq Q)) es:=by
  rw[show(i==0)=false by simpa using z];exact HH ap G ah
 have h':MI P t N Stop (some i) gs w tr V rk rel q:={ h with live:=λ j r _ F=>h.live j r S1 F };have B:∀j,j≠i->Q3 V (.run i) (Qa.bare ⟨1,p',none⟩) (.run j)=V (.run j):=λ j K=>Qh _ _ (by intro e;cases e;exact K rfl);have Y:∀j,Q3 V (.run i) (Qa.bare ⟨1,p',none⟩) (.dep j)=V (.dep j):=λ j=>Qh _ _ S1
 have hW:∀k l,(Q3 V (.run i) (Qa.bare ⟨1,p',none⟩) k).canW l->(V k).canW l:=by
  intro k l T;by_cases e:k=.run i
  .subst e;rw[Ql]at T;exact absurd T (Wn _ _)
  .rwa [Qh _ _ e]at T
 have hR:∀k l,(Q3 V (.run i) (Qa.bare ⟨1,p',none⟩) k).canR l->(V k).canR l:=by
  intro k l T;by_cases e:k=.run i
  .subst e;rw[Ql]at T;exact absurd T (Wm _ _)
  .rwa [Qh _ _ e]at T
 have ag:b<w.heap.size:=(Array.getElem?_eq_some_iff.1 G).1;refine⟨_,_,_,Q3 V (.run i) (Qa.bare ⟨1,p',none⟩),rk,rel,Zt q i n,runT_crowd_go hi ad,?_,MH (i:=i) Jp al F (λ j K=>Qv _ _ K) (by rw[Qj,hq];omega),.refl _,rfl⟩;refine h'.go H (rel':=rel) (q':=Zt q i n) (es:=es) hi B (λ _ _=>rfl) (λ j K=>Qv _ _ K) (λ _ _=>.inl rfl) h.root (.inl z) (λ r e=>by rw[F]at e;cases e) ?_ (λ j K=>by rw[Y];exact h.deps j K) ?_ ?_ ?_ ?_ (λ _=>by unfold Q5;rw[Ql];rfl)
 .intro _;rw[Ql,Qj];refine⟨z,rfl,rfl,aa,?_⟩;rcases hk with⟨h1,h2⟩|⟨h1,h2⟩
  .exact .inl ⟨h1,h2⟩
  .exact .inr ⟨h1,b,by rw[L];rfl,h2⟩
 .have hv:=h.vi.two (st':=Q2 S wt') (sm':=Qq Q) G I;refine⟨λ j=>?_,λ av aw l hn hw F=>hv.sep av aw l hn (hW _ _ hw) (hR _ _ F)⟩;by_cases e:j=.run i
  .subst e;rw[Ql];exact O0 _ _
  .rw[Qh _ _ e];exact hv.ok j
 .obtain⟨rm,hti⟩:=h.ti;rw[L]at hti;have:=Nv (i:=i) (fn:=g.frame.fn) (pos:=g.frame.place) hti ag I (.inr ab) (by rw[show(i==0)=false by simpa using z];exact ai) (h.mux.mb_ne G) (.inr (.inr ao));refine⟨rm,?_⟩;have am:Jz (Q3 V (.run i) (Qa.bare ⟨1,p',none⟩))=Jz V:=by simp only[Jz,Q5,B 0 (Ne.symm z)]
  rw[am];have aq:(two w b t (Q2 S wt') (Qq Q)).heap.size=w.heap.size:=by simp[two]
  rw[aq,B 0 (Ne.symm z),L]
  have e3:(λ j=>ZP (Q3 V (.run i) (Qa.bare ⟨1,p',none⟩) (.run j)).tok.ph)=λ j=>ZP (V (.run j)).tok.ph:=by
   funext j;by_cases e:j=i
   .subst e;rw[Ql];refine propext ⟨λ x=>absurd x aa,λ x=>absurd F (h.wk' j x)⟩
   .rw[B j e]
  rw[e3];refine this.turn hW hR ?_;rintro j (rfl|K)
  .exact .inl rfl
  .by_cases e:j=i
   .subst e;exact .inr ab
   .rw[B j e]at K;exact .inr K
 .unfold QI;rw[B 0 (Ne.symm z),L]
  have ak:Z9 (Q3 V (.run i) (Qa.bare ⟨1,p',none⟩))=Zt (Z9 V) i p':=by
   funext j;by_cases e:j=i
   .subst e;simp only[Z9,if_neg z,Ql,Qj];rfl
   .rw[Qv _ _ e];by_cases e0:j=0
    .simp[Z9,e0]
    .simp only[Z9,if_neg e0,B j e]
  refine⟨λ j a ha ho F=>I j a ha ho (hR _ _ F),W,S,wt',Q,G.two,?_,?_⟩
  .rw[ak];simpa only[Y]using aj
  .rcases au with rfl|⟨an,ae⟩
   .exact QI.woken hi (λ e=>absurd e z) af
   .intro x hx hns;exfalso;obtain⟨ax,ac⟩:=Option.ne_none_iff_exists'.1 h.root;obtain⟨X,hJ,Z⟩:=h.live 0 ax S1 ac;have E:=hJ.running H;rw[Wa (Ne.symm z)]at hx;rcases Z with Z|⟨Z,ho,_⟩
    .rw[Z,Option.map_some,Wk E]at hx;cases hx;exact hns E
    .rw[Z,Option.map_some]at hx
     have:woken P g g' (two w b t (Q2 S wt') (Qq Q)) { X with status:=.blocked }=X:=by
      unfold woken;rw[if_pos,again_blocked E ho];rcases ae with e|e <;> rw[e,an] <;> rfl
     rw[this]at hx;cases hx;exact hns E
 .refine h.mux.step hi (λ x s me lo e=>?_) (λ j=>?_) (Qh _ _ S1) (λ m hm _ j a ha ho F=>hm j a ha ho (hR _ _ F)) (λ m t st sm _ hs=>hs.two_other (G.ne hs))
  .rw[h.bareM i F]at e;cases e
  .by_cases e:j=i
   .subst e;rw[h.bareM j F];unfold Q5;rw[Ql];rfl
   .unfold Q5;rw[B j e]
def MI.tailStep(B:∀m g U,Stop m g U->g.status=.running){i:Nat}{g:Gr}(h:MI P t N Stop none gs w tr V rk rel q)(hi:gs[i]?=some g)(hr:rk i=none)(hp:(V (.run i)).tok.ph≠.out) :
  JM P t N Stop gs w sl tr rk q i:=by
 have Q:i≠0:=λ e=>by subst e;exact h.root hr
 obtain⟨ag,b,hg,hb,ht⟩:=h.tail i hr hp;rw[hi]at hg;cases hg;obtain⟨ds,pend,k,Y,I,W,c,wt,s,Z,H,X⟩:=h.par hb;have z:Z9 V i=(V (.run i)).tok.ph:=by simp[Z9,Q]
 cases M:q i with
 |zero=>rw[M]at ht;exact ht.elim
 |succ n=>
  rw[M]at ht;obtain⟨af,ht⟩:=ht;have K:∀(es:Array Event),Deaf tr i=1->∀j,(deafBehind 1 (es.extract 0 j)≠0)->deafBehind (Deaf tr i) (es.extract 0 j)≠0:=λ es e j hj=>by rw[e];exact hj
  rcases ht with⟨g',es,bs,hm,G,F,T⟩|⟨S,hd,F⟩|⟨S,hd,g',bs,G,F,T⟩|⟨S,hd,g',bs,G,F,T⟩|⟨S,hd,ad,g',bs,G,F,T⟩
  .have hup:Zt (Z9 V) i (V (.run i)).tok.ph=Z9 V:=by funext j;by_cases e:j=i <;> simp[Zt,e,z]
   refine h.tailGo B (p':=(V (.run i)).tok.ph) hi Q hr hp Y I Z X (F _ _) G (λ e E=>.inl (hm e E)) ?_ (by rw[hup];exact H) (.inl rfl) M (λ x=>absurd hr (h.wk' i x)) (.inr ⟨hp,T⟩);intro j hj hc;obtain⟨x,hx,_⟩:=hc;rcases Jm (t:=tr) hx with⟨ah,_⟩|⟨_,op,ae,ac,_⟩
   .omega
   .obtain⟨e,he',rfl⟩:=Go.Conc.mem_ofEvents ae;rw[(V4 (hm e he')).1]at ac;cases ac
  .rw[S]at z;obtain⟨h1,h2,h3,rfl⟩:=H.relC z;obtain⟨g',bs,G,F,T⟩:=F c wt h1 h2 h3
   have L:=Y0 (tr:=tr) (i:=i) (fn:=g.frame.fn) (pos:=g.frame.place) (b:=b) (es:=#[Ji b 0,QA b 0]) (by intro e E;simp at E;rcases E with rfl|rfl <;> exact .inr ⟨_,_,rfl⟩) (by
    intro j hj;refine K _ hd j ?_;have:j=0\/j=1:=by simp at hj;omega
    rcases this with rfl|rfl <;> simp[deafBehind,Ji,QA])
   have aa:∀e∈(#[Ji b 0,QA b 0]:Array Event),Oh b false e:=by
    intro e E;simp at E;rcases E with rfl|rfl <;> exact .inr (.inl ⟨0,_,O1,rfl⟩)
   by_cases hl:c=1/\wt=1
   .rw[if_pos hl]at T;obtain⟨rfl,rfl⟩:=hl;obtain⟨rfl,ab⟩:=H.last z;exact h.tailGo B (p':=.lst b 0) hi Q hr hp Y I Z X F G aa L ab (.inl rfl) M (by rintro⟨_,_,e⟩;cases e) (.inr ⟨S1,by rw[hd];exact T⟩)
   .rw[if_neg hl]at T;exact h.tailGo B (p':=.out) hi Q hr hp Y I Z X F G aa L (H.leave z hl) (.inl rfl) M (by rintro⟨_,_,e⟩;cases e) (.inl ⟨rfl,by rw[hd];exact T⟩)
  .rw[S]at z;obtain⟨rfl,rfl,rfl,h4,_⟩:=H.lstAt z;obtain rfl:wt=1:=O1
   have L:=Y0 (tr:=tr) (i:=i) (fn:=g.frame.fn) (pos:=g.frame.place) (b:=b) (es:=#[Ji b 0]) (by intro e E;simp at E;subst E;exact .inr ⟨_,_,rfl⟩) (by
    intro j hj;refine K _ hd j ?_;have:j=0:=by simp at hj;omega
    subst this;simp[deafBehind])
   exact h.tailGo B (p':=.lst b 1) hi Q hr hp Y I Z X F G (by intro e E;simp at E;subst E;exact .inr (.inl ⟨0,_,O1,rfl⟩)) L (H.next (wt':=1) z (.inl ⟨rfl,rfl⟩)) (.inl rfl) M (by rintro⟨_,_,e⟩;cases e) (.inr ⟨S1,by rw[hd];exact T⟩)
  .rw[S]at z;obtain⟨rfl,rfl,rfl,h4,_⟩:=H.lstAt z;obtain rfl:wt=1:=O1
   have L:=Y0 (tr:=tr) (i:=i) (fn:=g.frame.fn) (pos:=g.frame.place) (b:=b) (es:=#[QA b 0]) (by intro e E;simp at E;subst E;exact .inr ⟨_,_,rfl⟩) (by
    intro j hj;refine K _ hd j ?_;have:j=0:=by simp at hj;omega
    subst this;simp[deafBehind])
   exact h.tailGo B (p':=.lst b 2) hi Q hr hp Y I Z X F G (by intro e E;simp at E;subst E;exact .inr (.inl ⟨0,_,O1,rfl⟩)) L (H.next (wt':=0) z (.inr ⟨rfl,rfl⟩)) (.inl rfl) M (by rintro⟨_,_,e⟩;cases e) (.inr ⟨S1,by rw[hd];exact T⟩)
  .rw[S]at z;obtain⟨rfl,rfl,rfl,h4,_⟩:=H.lstAt z;obtain rfl:wt=0:=O1
   have L:=Y0 (tr:=tr) (i:=i) (fn:=g.frame.fn) (pos:=g.frame.place) (b:=b) (es:=#[Z8 .disable,Ji b 1,QA b 1,Z8 .enable]) (by intro e E;simp at E;rcases E with rfl|rfl|rfl|rfl <;> first|exact .inl rfl|exact .inr ⟨_,_,rfl⟩) (by
    intro j hj;refine K _ hd j ?_;have:j=0\/j=1\/j=2\/j=3:=by simp at hj;omega
    rcases this with rfl|rfl|rfl|rfl <;> simp[deafBehind,Ji,QA,Z8])
   exact h.tailGo B (p':=.out) hi Q hr hp Y I Z X F G (by intro e E;simp at E;rcases E with rfl|rfl|rfl|rfl <;> first|exact .inl rfl|exact .inr (.inl ⟨1,_,O1,rfl⟩)) L (H.wake z) (.inr ⟨ad,T.status⟩) M (by rintro⟨_,_,e⟩;cases e) (.inl ⟨rfl,by rw[hd];exact T⟩)
end
section
variable{P:Program}{t:TypeId}{N:Nat}{Stop:QJ Tk}{gs:Array Gr}{w:World}{tr:Trace}{V V':Hd->Qa Tk}{rk:Nat->Option Tr}{rel:Nat->Option Nat}{q:Nat->Nat}{sl:Option (Nat×Nat)}
def MI.par'{ex:Option Nat}(h:MI P t N Stop ex gs w tr V rk rel q){b:Nat}(z:(V (.run 0)).tok.ph.blk=some b) :
  ∃ds pend k,(V (.run 0)).tok.ph=.par b ds pend k/\(∀j,QK b (V j))/\∃W c wt s,Sh b t (Q2 c wt) (Qq s) w/\GI N b ds pend k (Z9 V) rel (λ i=>(V (.dep i)).M) W c wt s/\(∀g,gs[0]?=some g->g.status≠.running->s=0):=by
 have e:=h.grp;unfold QI at e
 revert e z
 cases B:(V (.run 0)).tok.ph with
 |out=>intro z;cases z
 |par E ds pend k=>intro z e;cases z;exact⟨ds,pend,k,rfl,e⟩
 |_=>intro _ e;exact e.elim
def gP{i:Nat}{g g':Gr}(h:gs[i]?=some g)(z:g'.status=.blocked):behind P gs i g g' w=gs.setIfInBounds i g':=by
 have b:=(Array.getElem?_eq_some_iff.1 h).1;apply Array.ext_getElem?;intro j;by_cases e:j=i
 .subst e;rw[Wo h];simp[b]
 .rw[Wa e,Array.getElem?_setIfInBounds_ne (Ne.symm e)];cases B:gs[j]? with
  |none=>rfl
  |some x=>
   simp only[Option.map_some];unfold woken;simp[z]
def MI.sleep{i:Nat}{g:Gr}{r:Tr}(h:MI P t N Stop (some i) gs w tr V rk rel q)(K:gs[i]?=some g)(H:g.status=.running)(X:g.offers=none)
  (T:rk i=some r) (Q:Dy i (V (.run i)).tok) (I:stepG P (i==0) g w=.go { g with status:=.blocked } w #[]) (W:JR (Zd P t N) Stop r (i==0) g (V (.run i)))
  (B:QI t N (gs.setIfInBounds i { g with status:=.blocked }) w V rel) (F:JL (gs.setIfInBounds i { g with status:=.blocked }) w V):JM P t N Stop gs w sl tr rk q i:=by
 have S:=(Array.getElem?_eq_some_iff.1 K).1;have G:rk i≠none:=by rw[T];simp
 have E:behind P gs i g { g with status:=.blocked } w=gs.setIfInBounds i { g with status:=.blocked }:=gP K rfl;refine⟨_,_,_,V,rk,rel,q,runT_crowd_go K I,?_,?_,.refl _,rfl⟩
 .have e1:tr++MemOp.ofEvents i g.frame.fn g.frame.place #[]=tr:=by rw[ofEvents_eq];simp
  show MI P t N Stop none (behind P gs i g { g with status:=.blocked } w) w _ V rk rel q;rw[E,e1];have z:∀j,j≠i->(gs.setIfInBounds i { g with status:=.blocked })[j]?=gs[j]?:=λ j b=>Array.getElem?_setIfInBounds_ne (Ne.symm b);refine⟨?_,h.root,?_,?_,?_,h.bare,h.wk,h.wk',h.deaf,h.deps,h.vi,h.ti,B,F,h.bareM⟩
  .intro j r'' _ hr'';by_cases e:j=i
   .subst e;rw[T]at hr'';cases hr'';exact⟨g,W,.inr ⟨by simp[S],X,Q⟩⟩
   .obtain⟨g_1,L,M⟩:=h.live j r'' (λ e'=>e (Option.some.inj e').symm) hr'';refine⟨g_1,L,?_⟩;rw[z j e];exact M
  .intro j x b hx hp;have e:j≠i:=λ e=>by subst e;exact G b
   rw[z j e]at hx;exact h.gone j x b hx hp
  .intro j b hp;have e:j≠i:=λ e=>by subst e;exact G b
   obtain⟨x,U,L,M⟩:=h.tail j b hp;exact⟨x,U,by rw[z j e];exact L,M⟩
  .intro j b;exact h.above j (by simpa using b)
 .show JD (QF (behind P gs i g { g with status:=.blocked } w) rk q) (QF gs rk q);rw[E];exact g_ K H rfl
def JL.sleep{i:Nat}{g g':Gr}(h:JL gs w V)(G:gs[i]?=some g)(F:∀x s me lo,Q5 V i≠some (.lok x s me lo)):JL (gs.setIfInBounds i g') w V:=by
 refine h.at (λ _=>rfl) rfl (λ _ E _=>E) (λ _ _ _ _ _ x=>x) λ j x s me lo y e z b=>?_;have B:j≠i:=λ e'=>by subst e';exact F _ _ _ _ e
 rw[Array.getElem?_setIfInBounds_ne (Ne.symm B)]at z;exact⟨y,z,b⟩
def MI.block{g:Gr}{r:Tr}{b:Nat}{ds:List Spec}{bs:List (Nat×Bool)}{mu:Option ZS}(h:MI P t N Stop (some 0) gs w tr V rk rel q)(L:gs[0]?=some g)(F:g.status=.running)(S:g.offers=none)
  (T:rk 0=some r) (z:(V (.run 0)).tok=⟨1,.par b ds false .wait,mu⟩) (E:∀j,QK b (V j)) {W:List Nat} {c wt:Nat} (B:Sh b t (Q2 c wt) (Qq 0) w) (I:GI N b ds false .wait (Z9 V) rel (λ i=>(V (.dep i)).M) W c wt 0)
  (K:Qc P t true g (Q2 c wt) (Qq 0)=.blocked { g with status:=.blocked } (Q2 c wt) (Qq 0) bs) (H:Jc b bs) (Q:JR (Zd P t N) Stop r true g (V (.run 0))):JM P t N Stop gs w sl tr rk q 0:=by
 have G:stepG P (0==0) g w=.go { g with status:=.blocked } w #[]:=by
  have:=FU K B H
  rwa [B.two_same]at this
 refine h.sleep L F S T (.inl ⟨rfl,b,ds,mu,z⟩) G Q ?_ (h.mux.sleep L λ x s me lo e=>?_)
 .unfold QI;rw[z];exact⟨E,W,c,wt,0,B,I,λ _ _ _=>rfl⟩
 .have h3:=h.mux.2.2;rw[e]at h3;exact h3.elim
def MI.calm(F:∀m g U,Stop m g U->g.status=.running){i:Nat}{g g':Gr}{r X:Tr}{b:Nat}{bs:List (Nat×Bool)}(h:MI P t N Stop (some i) gs w tr V rk rel q)(K:gs[i]?=some g)(hr:rk i=some r)(z:i≠0)(hb:(V (.run i)).tok.ph.blk=some b)
  (ac:∀st sm,Qc P t false g st sm=.go g' st sm #[] bs) (aa:Jc b bs) (S:Tr.Sub X r) (hJ:JR (Zd P t N) Stop X false g' (V (.run i))):JM P t N Stop gs w sl tr rk q i:=by
 have ab:=(Array.getElem?_eq_some_iff.1 K).1;have M:rk i≠none:=by rw[hr];simp
 have G:=h.wk i z M;have T:Z9 V i=(V (.run i)).tok.ph:=by simp[Z9,z]
 have E:=h.grp;unfold QI at E;cases B:(V (.run 0)).tok.ph with
 |out=>rw[B]at E;have:=E.1 i z;rw[this]at G;obtain⟨_,_,e⟩:=G;cases e
 |wrk _ _=>rw[B]at E;exact E.elim
 |rel _=>rw[B]at E;exact E.elim
 |lst _ _=>rw[B]at E;exact E.elim
 |par b' ds pend k=>
  rw[B]at E;obtain⟨L,W,c,wt,s,H,I,Y⟩:=E
  have Z:b'=b:=by
   obtain⟨ae,D,e⟩:=G;rw[e]at hb;cases hb;rw[e]at T;rcases I.ph i with e'|⟨D',e'⟩|e'|⟨j,e'⟩ <;> rw[T]at e' <;> cases e';rfl
  subst Z
  have Q:stepG P (i==0) g w=.go g' w #[]:=by
   rw[show(i==0)=false by simpa using z];have:=HH (ac (Q2 c wt) (Qq s)) H aa
   rwa [H.two_same]at this
  refine⟨_,_,_,V,Zt rk i (some X),rel,q,runT_crowd_go K Q,?_,XL Jp ab hr λ ad e=>by cases e;exact S,.refl _,rfl⟩;refine h.go F (V':=V) (rk':=Zt rk i (some X)) (rel':=rel) (q':=q) (es:=#[]) K (λ _ _=>rfl) (λ j hj=>Qv _ _ hj) (λ _ _=>rfl) (λ _ _=>.inl rfl) (by rw[Qv _ _ (Ne.symm z)];exact h.root) (.inl z) ?_ ?_ h.deps h.vi ?_ ?_ (h.mux.step K (λ _ _ _ _ _=>hJ.running F) (λ _=>rfl) rfl (λ _ hm _=>hm) λ _ _ _ _ _ x=>x) (λ e=>by rw[Qj]at e;cases e)
  .intro ad e;rw[Qj]at e;cases e;refine⟨by rw[show(i==0)=false by simpa using z];exact hJ,?_,λ _=>G⟩;rw[deafBehind_nil];exact h.deaf i M
  .intro e;rw[Qj]at e;cases e
  .exact h.ti.imp λ _ x=>x.dumb λ e he=>by simp at he
  .unfold QI;rw[B];exact⟨L,W,c,wt,s,H,I,QI.woken K (λ e=>absurd e z) Y⟩
def MI.lay(ac:∀m g U,Stop m g U->g.status=.running){i n:Nat}{g g':Gr}{r:Tr}{b:Nat}{D:Spec}{bs:List (Nat×Bool)}(h:MI P t N Stop (some i) gs w tr V rk rel q)(hi:gs[i]?=some g)(hr:rk i=some r)(B:i≠0)
  {mu:Option ZS} (K:(V (.run i)).tok=⟨0,.wrk b D,mu⟩) (ax:mu=none\/∃x s lo,mu=some (.lok x s .fin lo)) (hD:D (V (.run i)).M) (a0:∀st sm,Qc P t false g st sm=.go g' st sm #[Z8 (.releaseMerge ⟨b,0,none⟩)] bs) (aq:Jc b bs) (hT:Tl P t N b n 0 (.rel b) g'):JM P t N Stop gs w sl tr rk q i:=by
 have av:=(Array.getElem?_eq_some_iff.1 hi).1;have az:rk i≠none:=by rw[hr];simp
 have al:Z9 V i=.wrk b D:=by simp[Z9,B,K]
 have ag:Deaf tr i=0:=by rw[h.deaf i az,K]
 have T:=h.grp;unfold QI at T;cases I:(V (.run 0)).tok.ph with
 |out=>rw[I]at T;have:=T.1 i B;rw[K]at this;cases this
 |wrk _ _=>rw[I]at T;exact T.elim
 |rel _=>rw[I]at T;exact T.elim
 |lst _ _=>rw[I]at T;exact T.elim
 |par L ds pend k=>
  rw[I]at T;obtain⟨ab,W,c,wt,s,Z,ah,an⟩:=T
  have ao:L=b:=by
   rcases ah.ph i with e'|⟨D',e'⟩|e'|⟨j,e'⟩ <;> rw[al]at e' <;> cases e';rfl
  subst ao
  have ak:stepG P (i==0) g w=.go g' w #[Z8 (.releaseMerge ⟨L,0,none⟩)]:=by
   rw[show(i==0)=false by simpa using B];have:=HH (a0 (Q2 c wt) (Qq s)) Z aq
   rwa [Z.two_same]at this
  obtain⟨ai,aj⟩:=ah.rel_ (r:=tr.size) al hD;have ap:L<w.heap.size:=(Array.getElem?_eq_some_iff.1 Z).1
  let G:=Q3 (Q3 V (.run i) (Qa.bare ⟨0,.rel L,none⟩)) (.dep i) ⟨λ _=>none,(V (.run i)).M,⟨0,.out,none⟩⟩
  have v1:G (.run i)=Qa.bare ⟨0,.rel L,none⟩:=by show Q3 _ _ _ _=_;rw[Qh _ _ S1,Ql]
  have X:∀j,j≠i->G (.run j)=V (.run j):=λ j E=>by show Q3 _ _ _ _=_;rw[Qh _ _ S1,Qh _ _ (by intro e;cases e;exact E rfl)]
  have v3:G (.dep i)=⟨λ _=>none,(V (.run i)).M,⟨0,.out,none⟩⟩:=Ql ..;have v4:∀j,j≠i->G (.dep j)=V (.dep j):=λ j E=>by show Q3 _ _ _ _=_;rw[Qh _ _ (by intro e;cases e;exact E rfl),Qh _ _ S1]
  have v5:G .lck=V .lck:=by show Q3 _ _ _ _=_;rw[Qh _ _ S1,Qh _ _ S1]
  have ad:=sj (V (.run i)) (⟨0,.rel L,none⟩:Tk) ⟨0,.out,none⟩;have a1:VI G w:=h.vi.fork ad S1
  have hW:∀k l,(G k).canW l->(V k).canW l/\k≠.dep i\/(k=.dep i/\(V (.run i)).canW l):=by
   intro k l F;cases k with
   |run j=>
    by_cases e:j=i
    .subst e;rw[v1]at F;exact absurd F (Wn _ _)
    .rw[X j e]at F;exact .inl ⟨F,S1⟩
   |dep j=>
    by_cases e:j=i
    .subst e;rw[v3]at F;exact .inr ⟨rfl,ad.wc l F⟩
    .rw[v4 j e]at F;exact .inl ⟨F,by intro e';cases e';exact e rfl⟩
   |lck=>rw[v5]at F;exact .inl ⟨F,S1⟩
  have hR:∀k l,(G k).canR l->(V k).canR l/\k≠.dep i\/(k=.dep i/\(V (.run i)).canR l):=by
   intro k l F;cases k with
   |run j=>
    by_cases e:j=i
    .subst e;rw[v1]at F;exact absurd F (Wm _ _)
    .rw[X j e]at F;exact .inl ⟨F,S1⟩
   |dep j=>
    by_cases e:j=i
    .subst e;rw[v3]at F;exact .inr ⟨rfl,ad.rc l F⟩
    .rw[v4 j e]at F;exact .inl ⟨F,by intro e';cases e';exact e rfl⟩
   |lck=>rw[v5]at F;exact .inl ⟨F,S1⟩
  refine⟨_,_,_,G,Zt rk i none,Zt rel i (some tr.size),Zt q i n,runT_crowd_go hi ak,?_,XL Jp av hr λ a4 e=>(by cases e),.refl _,rfl⟩
  have e0:MemOp.ofEvents i g.frame.fn g.frame.place #[Z8 (.releaseMerge ⟨L,0,none⟩)]=#[{ g:=i,fn:=g.frame.fn,pos:=g.frame.place,act:=.mark (.releaseMerge ⟨L,0,none⟩) }]:=by
   rw[ofEvents_eq];simp[Z8,MemAct.ofEvent]
  refine h.go ac (V':=G) (rk':=Zt rk i none) (rel':=Zt rel i (some tr.size)) (q':=Zt q i n) (es:=#[Z8 (.releaseMerge ⟨L,0,none⟩)]) hi X (λ j E=>Qv _ _ E) (λ j E=>Qv _ _ E) (λ j E=>.inl (Qv _ _ E)) (by rw[Qv _ _ (Ne.symm B)];exact h.root) (.inl B) ?_ ?_ ?_ a1 ?_ ?_ ?_ (λ _=>by unfold Q5;rw[v1];rfl)
  .intro a4 e;rw[Qj]at e;cases e
  .intro _;rw[v1,Qj,ag];refine⟨B,rfl,rfl,?_,.inr ⟨λ e=>(by cases e),L,by rw[I];rfl,hT⟩⟩;rintro⟨_,_,e⟩;cases e
  .intro j E;have e:j≠i:=λ e=>by subst e;rw[Qj]at E;cases E
   rw[Qv _ _ e]at E;rw[v4 j e];exact h.deps j E
  .obtain⟨rm,hti⟩:=h.ti;have aw:Jz G=Jz V:=by simp only[Jz,Q5,X 0 (Ne.symm B)]
   refine⟨rm,?_⟩;rw[X 0 (Ne.symm B),e0,aw]
   have:=hti.release (W':=λ k=>(G k).canW) (R':=λ k=>(G k).canR) (wk':=λ j=>ZP (G (.run j)).tok.ph) (rel':=Zt rel i (some tr.size)) (y:={ g:=i,fn:=g.frame.fn,pos:=g.frame.place,act:=.mark (.releaseMerge ⟨L,0,none⟩) }) (b:=L) (by rw[I];rfl) rfl ap ag aj (λ k=>by simp[Zt]) hW hR (λ k hk=>by
    by_cases e:k=i
    .exact .inr e
    .left;rw[X k e];exact hk)
   refine this.turn (λ _ _ h=>h) (λ _ _ h=>h) ?_;rintro j (rfl|E)
   .exact .inl rfl
   .by_cases e:j=i
    .subst e;right;rw[K];simp
    .rw[X j e]at E;exact .inr E
  .unfold QI;rw[X 0 (Ne.symm B),I]
   have au:Z9 G=Zt (Z9 V) i (.rel L):=by
    funext j;by_cases e:j=i
    .subst e;simp only[Z9,if_neg B,v1,Qj];rfl
    .rw[Qv _ _ e];by_cases e0:j=0
     .simp[Z9,e0]
     .simp only[Z9,if_neg e0,X j e]
   have am:(λ j=>(G (.dep j)).M)=Zt (λ j=>(V (.dep j)).M) i (V (.run i)).M:=by
    funext j;by_cases e:j=i
    .subst e;rw[v3,Qj]
    .rw[v4 j e,Qv _ _ e]
   refine⟨λ j a ha ho af=>?_,W,c,wt,s,Z,by rw[au,am];exact ai,QI.woken hi (λ e=>absurd e B) an⟩;rcases hR _ _ af with⟨Y,_⟩|⟨_,Y⟩
   .exact ab _ a ha ho Y
   .exact ab _ a ha ho Y
  .have hmk:∀j,j≠i->Q5 G j=Q5 V j:=λ j E=>by unfold Q5;rw[X j E]
   have Q:Q5 G i=none:=by unfold Q5;rw[v1];rfl
   have aa:Q5 V i=mu:=by unfold Q5;rw[K]
   have ae:∀m,(∀j,QK m (V j))->∀j,QK m (G j):=λ m hm j a ha ho af=>by
    rcases hR _ _ af with⟨Y,_⟩|⟨_,Y⟩
    .exact hm _ a ha ho Y
    .exact hm _ a ha ho Y
   obtain⟨g1,g2,g3⟩:=h.mux;refine⟨λ j x u E e=>?_,by rw[v5];exact g2,?_⟩
   .by_cases H:j=i
    .subst H;rw[Q]at e;cases e
    .rw[hmk j H]at e;exact g1 j x u E e
   .rw[hmk 0 (Ne.symm B)]
    revert g3
    cases e0:Q5 V 0 with
    |none=>
     rintro⟨g3,S⟩;refine⟨λ j=>?_,by rw[v5];exact S⟩;by_cases H:j=i
     .subst H;exact Q
     .rw[hmk j H];exact g3 j
    |some m0=>
     cases m0 with
     |lok=>exact λ x=>x
     |par x u=>
      rintro⟨g3,lp,st,sm,S⟩;refine⟨ae _ g3,lp,st,sm,⟨S.sh,S.word,λ j x' s me lo e=>?_,λ j k s a5 a2 l₁ a6 a3 l₂ e e'=>?_,λ s hs=>?_,S.idle,λ e=>by rw[v5];exact S.dep e,λ e=>by rw[v5];exact S.dep' e,λ j x' s me lo y e hy ay=>?_⟩⟩
      .by_cases H:j=i
       .subst H;rw[Q]at e;cases e
       .rw[hmk j H]at e;exact S.tk j x' s me lo e
      .by_cases H:j=i
       .subst H;rw[Q]at e;cases e
       .by_cases ek:k=i
        .subst ek;rw[Q]at e';cases e'
        .rw[hmk j H]at e;rw[hmk k ek]at e';exact S.one j k s a5 a2 l₁ a6 a3 l₂ e e'
      .rcases S.who s hs with Y|⟨j,me,lo,e⟩
       .exact .inl Y
       .by_cases H:j=i
        .subst H;rw[aa]at e;rcases ax with rfl|⟨x',s',lo',rfl⟩
         .cases e
         .cases e;exact .inl (S.tk j _ _ _ _ aa).2.1.symm
        .exact .inr ⟨j,me,lo,by rw[hmk j H];exact e⟩
      .have H:j≠i:=λ H=>by subst H;rw[Q]at e;cases e
       rw[hmk j H]at e;rw[Wa H]at hy;obtain⟨z,hz,rfl⟩:=Option.map_eq_some_iff.1 hy;exact S.slp j x' s me lo z e hz λ hr=>ay (by rw[Wk hr];exact hr)
end
def WI(V:Hd->Qa Tk)(l:List Nat):Hd->Qa Tk
 |.run j=>if j=0 then(V (.run 0)).with (l.map λ i=>(V (.dep i)).M).flatten else V (.run j)
 |.dep j=>if j∈l then ZJ else V (.dep j)
 |.lck=>V .lck
def VI.joinAll{w:World}:∀{l:List Nat}{V:Hd->Qa Tk},l.Nodup->VI V w->VI (WI V l) w
 |[],V,_,h=>by
  have:WI V []=V:=by
   funext k;cases k with
   |run j=>
    simp only[WI];split
    .rename_i e;subst e;simp[Qa.with]
    .rfl
   |dep j=>simp[WI]
   |lck=>rfl
  rw[this];exact h
 |i::l,V,B,h=>by
  obtain⟨H,B⟩:=nodup_cons.1 B;have F:=h.join (k:=.run 0) (k':=.dep i) S1 (⟨0,.out,none⟩:Tk);have G:=VI.joinAll B F
  have e:WI (Q3 (Q3 V (.run 0) ((V (.run 0)).with (V (.dep i)).M)) (.dep i) (Qa.bare ⟨0,.out,none⟩)) l=WI V (i::l):=by
   funext k;cases k with
   |run j=>
    simp only[WI]
    have I:(l.map λ b=>(Q3 (Q3 V (.run 0) ((V (.run 0)).with (V (.dep i)).M)) (.dep i) (Qa.bare (⟨0,.out,none⟩:Tk)) (.dep b)).M)=l.map λ b=>(V (.dep b)).M:=by
     refine map_congr_left λ b z=>?_;have E:b≠i:=λ e=>H (e▸z);rw[Qh _ _ (by intro e;cases e;exact E rfl),Qh _ _ S1]
    rw[I];split
    .rename_i e;rw[Qh _ _ S1,Ql];simp[Qa.with]
    .rename_i e;rw[Qh _ _ S1,Qh _ _ (by intro e';cases e';exact e rfl)]
   |dep j=>
    simp only[WI];by_cases e:j=i
    .subst e;rw[Ql];simp[ZJ]
    .rw[Qh _ _ (by intro e';cases e';exact e rfl),Qh _ _ S1];simp[e]
   |lck=>simp only[WI];rw[Qh _ _ S1,Qh _ _ S1]
  rw[<- e];exact G
def DO{V:Hd->Qa Tk}{U:Qa Tk}{l:List Nat}{x:Loc}:((U.with (l.map λ i=>(V (.dep i)).M).flatten).canW x->U.canW x\/∃i∈l,(V (.dep i)).canW x)/\((U.with (l.map λ i=>(V (.dep i)).M).flatten).canR x->U.canR x\/∃i∈l,(V (.dep i)).canR x):=by
 have key:∀r,r∈U.M++(l.map λ i=>(V (.dep i)).M).flatten->r.lets x->U.canW x\/∃i∈l,(V (.dep i)).canW x:=by
  intro r b e;rcases mem_append.1 b with b|b
  .exact .inl (Q8.2 ⟨r,b,e⟩)
  .obtain⟨M,hM,hrM⟩:=mem_flatten.1 b;obtain⟨i,w,rfl⟩:=mem_map.1 hM;exact .inr ⟨i,w,Q8.2 ⟨r,hrM,e⟩⟩
 refine⟨λ h=>?_,λ h=>?_⟩
 .obtain⟨r,b,e⟩:=Q8.1 h;exact key r b e
 .rcases Qz.1 h with⟨r,b,e⟩|h
  .exact(key r b e).imp Zy λ⟨i,w,h⟩=>⟨i,w,Zy h⟩
  .exact .inl (Qz.2 (.inr h))
def Nb{U:Qa Tk}(w:U.I=λ _=>none)(e:U.M=[])(l:Loc):¬U.canW l/\¬U.canR l:=by
 have z:¬U.canW l:=λ h=>by obtain⟨r,b,_⟩:=Q8.1 h;rw[e]at b;cases b
 refine⟨z,λ h=>?_⟩;rcases Qz.1 h with⟨r,b,_⟩|h
 .rw[e]at b;cases b
 .cases l <;> simp[w]at h
section
variable{P:Program}{t:TypeId}{N:Nat}{Stop:QJ Tk}{gs:Array Gr}{w:World}{tr:Trace}{V V':Hd->Qa Tk}{rk:Nat->Option Tr}{rel:Nat->Option Nat}{q:Nat->Nat}{sl:Option (Nat×Nat)}
def MI.take(Q:∀m g U,Stop m g U->g.status=.running){g g':Gr}{r:Tr}{b:Nat}{ds:List Spec}{bs:List (Nat×Bool)}{mu:Option ZS}(h:MI P t N Stop (some 0) gs w tr V rk rel q)(S:gs[0]?=some g)(hr:rk 0=some r)
  (H:(V (.run 0)).tok=⟨0,.par b ds false .up,mu⟩) {W:List Nat} {c wt s:Nat} (T:Sh b t (Q2 c wt) (Qq s) w) (I:GI N b ds false .up (Z9 V) rel (λ i=>(V (.dep i)).M) W c wt s)
  (aj:∀st sm,Qc P t true g st sm=.go g' st sm #[Z8 (.acquire ⟨b,0,none⟩)] bs) (ag:Jc b bs)
  (hJ:∀Ms,JP ds Ms->∃r',Tr.Sub r' r/\JR (Zd P t N) Stop r' true g' { (V (.run 0))with M:=((V (.run 0)).M++Ms.flatten)++(V .lck).M,tok:=⟨0,.out,none⟩ }):JM P t N Stop gs w sl tr rk q 0:=by
 have ah:=(Array.getElem?_eq_some_iff.1 S).1;obtain⟨-,-,-,-,Z,F⟩:=I.up;obtain⟨r',ab,hJ⟩:=hJ _ I.deps;have K:∀j,j≠0->(V (.run j)).tok.ph=.out:=λ j E=>by have:=Z j;simpa[Z9,E]using this
 have G:∀j,j≠0->rk j=none:=by
  intro j E;cases e:rk j with
  |none=>rfl
  |some r=>
   obtain⟨b,D,e'⟩:=h.wk j E (by rw[e];simp);rw[K j E]at e';cases e'
 have X:Deaf tr 0=0:=by rw[h.deaf 0 h.root,H]
 have aa:stepG P (0==0) g w=.go g' w #[Z8 (.acquire ⟨b,0,none⟩)]:=by
  have:=HH (aj (Q2 c wt) (Qq s)) T ag
  rwa [T.two_same]at this
 have af:b<w.heap.size:=(Array.getElem?_eq_some_iff.1 T).1
 let L:Hd->Qa Tk:=Q3 (Q3 (WI V W) (.run 0) ((WI V W (.run 0)).with (WI V W .lck).M)) .lck (Qa.bare ⟨0,.out,none⟩)
 have z0:L (.run 0)=((V (.run 0)).with (W.map λ i=>(V (.dep i)).M).flatten).with (V .lck).M:=by show Q3 _ _ _ _=_;rw[Qh _ _ S1,Ql];simp[WI]
 let B:Hd->Qa Tk:=Q3 L (.run 0) { L (.run 0)with tok:=⟨0,.out,none⟩ }
 have v0:B (.run 0)={ (V (.run 0))with M:=((V (.run 0)).M++(W.map λ i=>(V (.dep i)).M).flatten)++(V .lck).M,tok:=⟨0,.out,none⟩ }:=by show Q3 _ _ _ _=_;rw[Ql,z0];rfl
 have v2:∀j,j≠0->B (.run j)=V (.run j):=λ j E=>by show Q3 _ _ _ _=_;rw[Qh _ _ (by intro e;cases e;exact E rfl)];show Q3 _ _ _ _=_;rw[Qh _ _ S1,Qh _ _ (by intro e;cases e;exact E rfl)];simp[WI,E]
 have vm:B .lck=ZJ:=by show Q3 _ _ _ _=_;rw[Qh _ _ S1];exact Ql ..
 have vd:∀j,B (.dep j)=ZJ:=by
  intro j;show Q3 _ _ _ _=_;rw[Qh _ _ S1];show Q3 _ _ _ _=_;rw[Qh _ _ S1,Qh _ _ S1];simp only[WI];split
  .rfl
  .rename_i E;refine h.deps j ?_;cases e:rel j with
   |none=>rfl
   |some x=>exact absurd (I.inW j (.inr (by rw[e];simp))) E
 have ak:VI B w:=by
  have:=(VI.joinAll I.nodup h.vi).join (k:=.run 0) (k':=.lck) S1 (⟨0,.out,none⟩:Tk)
  have hs:∀k,(B k).canW=(L k).canW/\(B k).canR=(L k).canR:=by
   intro k;by_cases e:k=.run 0
   .subst e;rw[show B (.run 0)=_ from Ql ..];exact⟨rfl,rfl⟩
   .rw[show B k=_ from Qh _ _ e];exact⟨rfl,rfl⟩
  refine⟨λ k=>?_,λ ad ae l Y hw hr=>this.sep ad ae l Y (by rw[<- (hs ad).1];exact hw) (by rw[<- (hs ae).2];exact hr)⟩;by_cases e:k=.run 0
  .subst e;rw[show B (.run 0)=_ from Ql ..];have:=this.ok (.run 0);exact⟨this.imm,this.held,this.apart,this.sep⟩
  .rw[show B k=_ from Qh _ _ e];exact this.ok k
 have ac:∀l,((B (.run 0)).canW l->(L (.run 0)).canW l)/\((B (.run 0)).canR l->(L (.run 0)).canR l):=λ l=>by
  rw[show B (.run 0)=_ from Ql ..];exact⟨λ x=>x,λ x=>x⟩
 have hW:∀k l,(B k).canW l->k=.run 0/\((V (.run 0)).canW l\/(∃g r,rel g=some r/\(V (.dep g)).canW l)\/(V .lck).canW l):=by
  intro k l z;cases k with
  |run j=>
   by_cases e:j=0
   .subst e;have z:=(ac l).1 z;rw[z0]at z;refine⟨rfl,?_⟩;rcases Sa (τ:=V .lck) z with z|z
    .refine(DO.1 z).imp id λ⟨i,S,h⟩=>?_;obtain⟨x,hx⟩:=F i S;exact .inl ⟨i,x,hx,h⟩
    .exact .inr (.inr z)
   .rw[v2 j e]at z;obtain⟨b1,b2⟩:=h.bare j (G j e);exact absurd z (Nb b1 b2 l).1
  |dep j=>rw[vd]at z;exact absurd z (Wn _ _)
  |lck=>rw[vm]at z;exact absurd z (Wn _ _)
 have hR:∀k l,(B k).canR l->k=.run 0/\((V (.run 0)).canR l\/(∃g r,rel g=some r/\(V (.dep g)).canR l)\/(V .lck).canR l):=by
  intro k l z;cases k with
  |run j=>
   by_cases e:j=0
   .subst e;have z:=(ac l).2 z;rw[z0]at z;refine⟨rfl,?_⟩;rcases S9 (τ:=V .lck) z with z|z
    .refine(DO.2 z).imp id λ⟨i,S,h⟩=>?_;obtain⟨x,hx⟩:=F i S;exact .inl ⟨i,x,hx,h⟩
    .exact .inr (.inr z)
   .rw[v2 j e]at z;obtain⟨b1,b2⟩:=h.bare j (G j e);exact absurd z (Nb b1 b2 l).2
  |dep j=>rw[vd]at z;exact absurd z (Wm _ _)
  |lck=>rw[vm]at z;exact absurd z (Wm _ _)
 refine⟨_,_,_,B,Zt rk 0 (some r'),λ _=>none,q,runT_crowd_go S aa,?_,XL Jp ah hr λ al e=>by cases e;exact ab,.refl _,rfl⟩
 have e0:MemOp.ofEvents 0 g.frame.fn g.frame.place #[Z8 (.acquire ⟨b,0,none⟩)]=#[{ g:=0,fn:=g.frame.fn,pos:=g.frame.place,act:=.mark (.acquire ⟨b,0,none⟩) }]:=by
  rw[ofEvents_eq];simp[Z8,MemAct.ofEvent]
 refine h.go Q (V':=B) (rk':=Zt rk 0 (some r')) (rel':=λ _=>none) (q':=q) (es:=#[Z8 (.acquire ⟨b,0,none⟩)]) S v2 (λ j E=>Qv _ _ E) (λ _ _=>rfl) (λ _ _=>.inr rfl) (by rw[Qj];simp) (.inr (.inr K)) ?_ ?_ (λ j _=>vd j) ak ?_ ?_ ?_ (λ e=>by rw[Qj]at e;cases e)
 .intro al e;rw[Qj]at e;cases e;rw[v0];refine⟨hJ,?_,λ h0=>absurd rfl h0⟩;rw[X];rfl
 .intro e;rw[Qj]at e;cases e
 .obtain⟨rm,hti⟩:=h.ti;have ai:Jz B=none:=by unfold Jz Q5;rw[v0];rfl
  refine⟨none,?_⟩;rw[e0,v0,ai]
  exact hti.acquire (y:={ g:=0,fn:=g.frame.fn,pos:=g.frame.place,act:=.mark (.acquire ⟨b,0,none⟩) }) (b:=b) (by rw[H];rfl) rfl rfl af X (λ j=>by
   by_cases e:j=0
   .subst e;rw[H];rintro⟨_,_,e⟩;cases e
   .rw[K j e];rintro⟨_,_,e⟩;cases e) (.inl rfl) hW hR
 .unfold QI;rw[v0];exact⟨λ j E=>by rw[v2 j E];exact K j E,λ _=>rfl⟩
 .have Y:∀j,Q5 B j=none:=by
   intro j;by_cases e:j=0
   .subst e;unfold Q5;rw[v0]
   .unfold Q5;rw[v2 j e];exact h.bareM j (G j e)
  refine⟨λ j x u _ e=>(by rw[Y]at e;cases e),by rw[vm];rfl,?_⟩;rw[Y];exact⟨Y,vm⟩
def MI.start(ah:∀m g U,Stop m g U->g.status=.running){g g' cg:Gr}{r ac ad:Tr}{b:Nat}{ds:List Spec}{D:Spec}{Up Uc:Qa Tk}{mu ap mc:Option ZS}(h:MI P t N Stop (some 0) gs w tr V rk rel q)(hi:gs[0]?=some g)(hr:rk 0=some r)
  (K:(V (.run 0)).tok=⟨0,.par b ds true .run,mu⟩) (av:∀j,QK b (V j)) {W:List Nat} {c wt s:Nat} (bj:Sh b t (Q2 c wt) (Qq s) w) (ax:GI N b ds true .run (Z9 V) rel (λ i=>(V (.dep i)).M) W c wt s)
  (bk:Qc P t true g undef undef=.spawn g' cg #[]) (hf:H_ (V (.run 0)) Up Uc) (hp:Up.tok=⟨0,.par b (D::ds) false .run,ap⟩) (hc:Uc.tok=⟨0,.wrk b D,mc⟩) (a0:Ot mu ap mc)
  (h1:Tr.Sub ac r) (h2:Tr.Sub ad r) (hJ:JR (Zd P t N) Stop ac true g' Up) (a9:JR (Zd P t N) Stop ad false cg Uc):JM P t N Stop gs w sl tr rk q 0:=by
 have az:=(Array.getElem?_eq_some_iff.1 hi).1;have bc:stepG P (0==0) g w=.spawn g' cg w #[]:=Bg bk w;obtain⟨a6,a7,a8⟩:=h.above gs.size (Nat.le_refl _);have T:gs.size≠0:=O1
 have aj:(V (.run gs.size)).tok.ph=.out:=by
  apply Classical.byContradiction;intro bi;obtain⟨x,_,L,_⟩:=h.tail gs.size a6 bi;rw[Array.getElem?_eq_none (Nat.le_refl _)]at L;cases L
 have aw:Z9 V gs.size=.out:=by simp[Z9,T,aj]
 have bf:gs.size∉W:=by
  intro hm;obtain⟨j,F,e⟩:=mem_iff_getElem.1 hm;have ay:j<ds.length:=by rw[<- ax.len];exact F
  rcases ax.spec j gs.size ds[j] (by rw[getElem?_eq_getElem F,e]) (getElem?_eq_getElem ay)with⟨x,_⟩|⟨_,⟨x,L⟩,_⟩
  .rw[aw]at x;cases x
  .rw[a8]at L;cases L
 have ba:Deaf tr 0=0:=by rw[h.deaf 0 h.root,K]
 let S:=Q3 (Q3 V (.run 0) Up) (.run gs.size) Uc
 have v0:S (.run 0)=Up:=by show Q3 _ _ _ _=_;rw[Qh _ _ (λ e=>T (Hd.run.inj e).symm),Ql]
 have vc:S (.run gs.size)=Uc:=Ql ..;have Z:∀j,j≠0->j≠gs.size->S (.run j)=V (.run j):=λ j F ay=>by show Q3 _ _ _ _=_;rw[Qh _ _ (by intro e;cases e;exact ay rfl),Qh _ _ (by intro e;cases e;exact F rfl)]
 have vd:∀j,S (.dep j)=V (.dep j):=λ j=>by show Q3 _ _ _ _=_;rw[Qh _ _ S1,Qh _ _ S1]
 have vm:S .lck=V .lck:=by show Q3 _ _ _ _=_;rw[Qh _ _ S1,Qh _ _ S1]
 have bl:VI S w:=h.vi.fork hf (λ e=>T (Hd.run.inj e).symm)
 have hW:∀k l,(S k).canW l->(V k).canW l\/(k=.run gs.size/\(V (.run 0)).canW l):=by
  intro k l H;cases k with
  |run j=>
   by_cases e:j=0
   .subst e;rw[v0]at H;exact .inl (hf.wp l H)
   .by_cases e2:j=gs.size
    .subst e2;rw[vc]at H;exact .inr ⟨rfl,hf.wc l H⟩
    .rw[Z j e e2]at H;exact .inl H
  |dep j=>rw[vd]at H;exact .inl H
  |lck=>rw[vm]at H;exact .inl H
 have hR:∀k l,(S k).canR l->(V k).canR l\/(k=.run gs.size/\(V (.run 0)).canR l):=by
  intro k l H;cases k with
  |run j=>
   by_cases e:j=0
   .subst e;rw[v0]at H;exact .inl (hf.rp l H)
   .by_cases e2:j=gs.size
    .subst e2;rw[vc]at H;exact .inr ⟨rfl,hf.rc l H⟩
    .rw[Z j e e2]at H;exact .inl H
  |dep j=>rw[vd]at H;exact .inl H
  |lck=>rw[vm]at H;exact .inl H
 let y:MemOp:={ g:=0,fn:=g.frame.fn,pos:=g.frame.place,act:=.go gs.size }
 let z:MemOp:={ g:=gs.size,fn:=cg.frame.fn,pos:=g.frame.place,act:=.start }
 have bb:((MemOp.ofEvents 0 g.frame.fn g.frame.place #[]).push y).push z=#[y,z]:=by rw[ofEvents_eq];simp
 have an:∀j,Deaf (tr++#[y,z]) j=Deaf tr j:=by
  intro j;have e:tr++#[y,z]=(tr++#[y])++#[z]:=by apply Array.ext';simp
  rw[e,Deaf_push,Deaf_push];rfl
 have aa:=hJ.running ah;refine⟨_,_,_,S,Zt (Zt rk 0 (some ac)) gs.size (some ad),rel,q,runT_crowd_spawn hi bc,?_,?_,.refl _,rfl⟩
 .show MI P t N Stop none ((gs.setIfInBounds 0 g').push cg) w (tr++((MemOp.ofEvents 0 g.frame.fn g.frame.place #[]).push y).push z) S _ rel q;rw[bb]
  have be:∀j x,((gs.setIfInBounds 0 g').push cg)[j]?=some x->(j=0/\x=g')\/(j=gs.size/\x=cg)\/(j≠0/\j≠gs.size/\gs[j]?=some x):=by
   intro j x L;rw[Array.getElem?_push]at L;simp only[Array.size_setIfInBounds]at L;split at L
   .rename_i e;subst e;cases L;exact .inr (.inl ⟨rfl,rfl⟩)
   .rename_i e;by_cases E:j=0
    .subst E;simp[az]at L;exact .inl ⟨rfl,L.symm⟩
    .rw[Array.getElem?_setIfInBounds_ne (Ne.symm E)]at L;exact .inr (.inr ⟨E,e,L⟩)
  have ai:((gs.setIfInBounds 0 g').push cg)[0]?=some g':=by
   rw[Array.getElem?_push];simp[az,Ne.symm T]
  have au:((gs.setIfInBounds 0 g').push cg)[gs.size]?=some cg:=by
   rw[Array.getElem?_push];simp
  have ae:∀j,j≠0->j≠gs.size->((gs.setIfInBounds 0 g').push cg)[j]?=gs[j]?:=by
   intro j h0 h1;rw[Array.getElem?_push];simp only[Array.size_setIfInBounds,if_neg h1];exact Array.getElem?_setIfInBounds_ne (Ne.symm h0)
  have Q:∀j,j≠0->j≠gs.size->Zt (Zt rk 0 (some ac)) gs.size (some ad) j=rk j:=λ j h0 h1=>by rw[Qv _ _ h1,Qv _ _ h0]
  have G:Zt (Zt rk 0 (some ac)) gs.size (some ad) 0=some ac:=by rw[Qv _ _ (Ne.symm T),Qj]
  have I:Zt (Zt rk 0 (some ac)) gs.size (some ad) gs.size=some ad:=Qj ..;refine⟨?_,by rw[G];simp,?_,?_,?_,?_,?_,?_,?_,λ j F=>by rw[vd];exact h.deps j F,bl,?_,?_,?_,?_⟩
  .intro j r'' _ hr'';by_cases E:j=0
   .subst E;rw[G]at hr'';cases hr'';exact⟨g',by rw[v0];exact hJ,.inl ai⟩
   .by_cases B:j=gs.size
    .subst B;rw[I]at hr'';cases hr'';exact⟨cg,by rw[vc,show(gs.size==0)=false by simpa using T];exact a9,.inl au⟩
    .rw[Q j E B]at hr'';obtain⟨x,k1,k2⟩:=h.live j r'' (λ e'=>E (Option.some.inj e').symm) hr'';refine⟨x,by rw[Z j E B];exact k1,?_⟩;rw[Z j E B,ae j E B];exact k2
  .intro j x F L hp';have E:j≠0:=λ e=>by subst e;rw[G]at F;cases F
   have B:j≠gs.size:=λ e=>by subst e;rw[I]at F;cases F
   rw[Q j E B]at F;rw[ae j E B]at L;rw[Z j E B]at hp';rw[an];exact h.gone j x F L hp'
  .intro j F hp';have E:j≠0:=λ e=>by subst e;rw[G]at F;cases F
   have B:j≠gs.size:=λ e=>by subst e;rw[I]at F;cases F
   rw[Q j E B]at F;rw[Z j E B]at hp';obtain⟨x,b',k1,k2,k3⟩:=h.tail j F hp';refine⟨x,b',by rw[ae j E B];exact k1,?_,by rw[an,Z j E B];exact k3⟩;rw[v0,hp];rw[K]at k2;exact k2
  .intro j F;simp at F;rw[Q j O1 O1,an];exact h.above j O1
  .intro j F;have E:j≠0:=λ e=>by subst e;rw[G]at F;cases F
   have B:j≠gs.size:=λ e=>by subst e;rw[I]at F;cases F
   rw[Q j E B]at F;rw[Z j E B];exact h.bare j F
  .intro j h0 F;by_cases B:j=gs.size
   .subst B;rw[vc,hc];exact⟨b,D,rfl⟩
   .rw[Q j h0 B]at F;rw[Z j h0 B];exact h.wk j h0 F
  .intro j F;by_cases E:j=0
   .subst E;rw[G];simp
   .by_cases B:j=gs.size
    .subst B;rw[I];simp
    .rw[Z j E B]at F;rw[Q j E B];exact h.wk' j F
  .intro j F;rw[an];by_cases E:j=0
   .subst E;rw[v0,hp,ba]
   .by_cases B:j=gs.size
    .subst B;rw[vc,hc,a7]
    .rw[Q j E B]at F;rw[Z j E B];exact h.deaf j F
  .obtain⟨rm,hti⟩:=h.ti;rw[K]at hti
   have bh:Jz S=Jz V:=by
    unfold Jz Q5;rw[v0,hp,K];rcases a0 with⟨rfl,_⟩|⟨x,u,s,rfl,_,rfl,_⟩ <;> rfl
   refine⟨rm,?_⟩;rw[bh,v0,hp];refine hti.fork (y:=y) (z:=z) (c:=gs.size) rfl rfl rfl rfl ba a7 T ?_ ?_ hW hR
   .rintro j (rfl|F)
    .exact .inl (.inl rfl)
    .by_cases E:j=0
     .exact .inl (.inl E)
     .by_cases B:j=gs.size
      .exact .inr ⟨B,.inl rfl⟩
      .rw[Z j E B]at F;exact .inl (.inr F)
   .intro j F;by_cases E:j=0
    .subst E;rw[K]at F;obtain⟨_,_,e⟩:=F;cases e
    .by_cases B:j=gs.size
     .subst B;rw[aj]at F;obtain⟨_,_,e⟩:=F;cases e
     .rw[Z j E B];exact F
  .unfold QI;rw[v0,hp]
   have bg:Z9 S=Zt (Z9 V) gs.size (.wrk b D):=by
    funext j;by_cases B:j=gs.size
    .subst B;simp only[Z9,if_neg T,vc,hc,Qj]
    .rw[Qv _ _ B];by_cases E:j=0
     .simp[Z9,E]
     .simp only[Z9,if_neg E,Z j E B]
   refine⟨λ j a ha ho a5=>?_,gs.size::W,c,wt,s,bj,?_,λ x L X=>?_⟩
   .rcases hR _ _ a5 with k1|⟨_,k1⟩
    .exact av _ a ha ho k1
    .exact av _ a ha ho k1
   .rw[bg];simp only[vd];exact ax.go aw a8 bf
   .rw[ai]at L;cases L;exact absurd aa X
  .have hk0:Q5 V 0=mu:=by unfold Q5;rw[K]
   have af:Q5 S 0=ap:=by unfold Q5;rw[v0,hp]
   have ak:Q5 S gs.size=mc:=by unfold Q5;rw[vc,hc]
   have al:Q5 V gs.size=none:=h.bareM _ a6;have ag:∀j,j≠0->j≠gs.size->Q5 S j=Q5 V j:=λ j E B=>by unfold Q5;rw[Z j E B]
   have am:∀m,(∀j,QK m (V j))->∀j,QK m (S j):=λ m hm j a ha ho a5=>by
    rcases hR _ _ a5 with h1|⟨_,h1⟩
    .exact hm _ a ha ho h1
    .exact hm _ a ha ho h1
   obtain⟨g1,g2,g3⟩:=h.mux;rw[hk0]at g3;refine⟨λ j x u F e=>?_,by rw[vm];exact g2,?_⟩
   .by_cases B:j=gs.size
    .subst B;rw[ak]at e;rcases a0 with⟨_,rfl⟩|⟨x,u,s,_,_,_,rfl⟩ <;> cases e
    .rw[ag j F B]at e;exact g1 j x u F e
   .rw[af];rcases a0 with⟨rfl,rfl⟩|⟨x,u,s,rfl,bd,rfl,rfl⟩
    .have hk:∀j,Q5 S j=Q5 V j:=by
      intro j;by_cases E:j=0
      .subst E;rw[hk0,af]
      .by_cases B:j=gs.size
       .subst B;rw[ak,al]
       .exact ag j E B
     cases ap with
     |none=>exact⟨λ j=>by rw[hk];exact g3.1 j,by rw[vm];exact g3.2⟩
     |some m0=>
      cases m0 with
      |lok=>exact g3
      |par x u=>
       obtain⟨g4,lp,st,sm,g5⟩:=g3;refine⟨am _ g4,lp,st,sm,g5.at hk vm g5.sh λ j x' s me lo y e hy X=>?_⟩;rcases be j y hy with⟨rfl,rfl⟩|⟨rfl,rfl⟩|⟨_,_,hz⟩
       .exact absurd aa X
       .rw[al]at e;cases e
       .exact⟨y,hz,X⟩
    .obtain⟨g4,lp,st,sm,g5⟩:=g3;refine⟨am _ g4,lp,st,sm,g5.sh,g5.word,λ j x' Y me lo e=>?_,λ j k Y aq ao l₁ bn bm l₂ e e'=>?_,λ Y ab=>?_,λ Y ab=>?_,λ e=>by rw[vm];exact g5.dep e,λ e=>by rw[vm];exact g5.dep' e,λ j x' Y me lo y e hy X=>?_⟩
     .by_cases E:j=0
      .subst E;rw[af]at e;cases e
      .by_cases B:j=gs.size
       .subst B;rw[ak]at e;cases e;exact⟨rfl,(g5.idle _ bd).symm,Nat.zero_le _,Wd ..⟩
       .rw[ag j E B]at e;obtain⟨a1,a2,a3,a4⟩:=g5.tk j x' Y me lo e;refine⟨a1,a2,a3,?_⟩;by_cases es:Y=s
        .subst es;rw[Wd]
        .rw[XN _ _ es];exact a4
     .have key:∀j aq ao l₁,Q5 S j=some (.lok aq Y ao l₁)->(j=gs.size/\Y=s)\/(Q5 V j=some (.lok aq Y ao l₁)/\Y≠s):=by
       intro j aq ao l₁ e;by_cases E:j=0
       .subst E;rw[af]at e;cases e
       .by_cases B:j=gs.size
        .subst B;rw[ak]at e;cases e;exact .inl ⟨rfl,rfl⟩
        .rw[ag j E B]at e;refine .inr ⟨e,λ es=>?_⟩;have:=(g5.tk j _ _ _ _ e).2.2.2;rw[es,bd]at this;cases this
      rcases key j _ _ _ e with⟨a1,a2⟩|⟨a1,a2⟩
      .rcases key k _ _ _ e' with⟨b1,b2⟩|⟨b1,b2⟩
       .rw[a1,b1]
       .exact absurd a2 b2
      .rcases key k _ _ _ e' with⟨b1,b2⟩|⟨b1,b2⟩
       .exact absurd b2 a2
       .exact g5.one j k Y _ _ _ _ _ _ a1 b1
     .by_cases es:Y=s
      .subst es;exact .inr ⟨gs.size,.idle,0,ak⟩
      .rw[XN _ _ es]at ab;rcases g5.who Y ab with h1|⟨j,me,lo,e⟩
       .exact .inl h1
       .refine .inr ⟨j,me,lo,?_⟩;by_cases E:j=0
        .subst E;rw[hk0]at e;cases e
        .by_cases B:j=gs.size
         .subst B;rw[al]at e;cases e
         .rw[ag j E B];exact e
     .by_cases es:Y=s
      .subst es;rw[Wd]at ab;cases ab
      .rw[XN _ _ es]at ab;exact g5.idle Y ab
     .by_cases B:j=gs.size
      .subst B;rw[au]at hy;cases hy;exact absurd (a9.running ah) X
      .by_cases E:j=0
       .subst E;rw[ai]at hy;cases hy;exact absurd aa X
       .rw[ag j E B]at e;rw[ae j E B]at hy;exact g5.slp j x' Y me lo y e hy X
  .intro j F;have E:j≠0:=λ e=>by subst e;rw[G]at F;cases F
   have B:j≠gs.size:=λ e=>by subst e;rw[I]at F;cases F
   rw[Q j E B]at F;unfold Q5;rw[Z j E B];exact h.bareM j F
 .show JD (QF ((gs.setIfInBounds 0 g').push cg) _ q) (QF gs rk q);unfold QF;have e:((gs.setIfInBounds 0 g').push cg).size=gs.size+1:=S1
  rw[e];exact JD.cut (ur az hr h1 h2)
end
def LP.word_own{q:LP}{z:Nat×Nat}(h:LP.word .got q=some z):LP.word (.own q.rels) q=some z/\q.isOwn=false:=by
 cases q <;> simp_all[LP.word,LP.rels,LP.isOwn]
def LP.word_rls{v:Bool}{q:LP}{z:Nat×Nat}(h:LP.word (.own v) q=some z):LP.word .rls q=some z/\v=q.rels/\q.isOwn=false:=by
 cases q <;> cases v <;> simp_all[LP.word,LP.rels,LP.isOwn]
section
variable{P:Program}{t:TypeId}{N:Nat}{Stop:QJ Tk}{gs:Array Gr}{w:World}{tr:Trace}{V V':Hd->Qa Tk}{rk:Nat->Option Tr}{rel:Nat->Option Nat}{q:Nat->Nat}{sl:Option (Nat×Nat)}
def MI.inGrp{ex:Option Nat}(h:MI P t N Stop ex gs w tr V rk rel q){i b:Nat}{D:Spec}(E:i≠0)(L:(V (.run i)).tok.ph=.wrk b D) :
  ∃ds pend k,(V (.run 0)).tok.ph=.par b ds pend k/\(∀j,QK b (V j))/\∃W c wt s,Sh b t (Q2 c wt) (Qq s) w/\GI N b ds pend k (Z9 V) rel (λ i=>(V (.dep i)).M) W c wt s/\(∀g,gs[0]?=some g->g.status≠.running->s=0):=by
 have K:Z9 V i=.wrk b D:=by simp[Z9,E,L]
 have e:=h.grp;unfold QI at e;cases z:(V (.run 0)).tok.ph with
 |out=>rw[z]at e;have:=e.1 i E;rw[L]at this;cases this
 |wrk _ _=>rw[z]at e;exact e.elim
 |rel _=>rw[z]at e;exact e.elim
 |lst _ _=>rw[z]at e;exact e.elim
 |par Q ds pend k=>
  rw[z]at e;obtain⟨F,W,c,wt,s,I,B,G⟩:=e
  have H:Q=b:=by
   rcases B.ph i with e'|⟨S,e'⟩|e'|⟨j,e'⟩ <;> rw[K]at e' <;> cases e';rfl
  subst H;exact⟨ds,pend,k,rfl,F,W,c,wt,s,I,B,G⟩
def MI.lock{ex:Option Nat}(h:MI P t N Stop ex gs w tr V rk rel q){i:Nat}{x:QW}{s:Bool}{me:LP}{lo:Nat}(B:Q5 V i=some (.lok x s me lo)) :
  ∃u z st sm,Q5 V 0=some (.par x u)/\(∀j,QK x.m (V j))/\X6 gs w V x u z st sm/\me=z s/\lo<=(z (!s)).cls/\u s=true:=by
 obtain⟨-,-,b⟩:=h.mux;cases e:Q5 V 0 with
 |none=>rw[e]at b;rw[b.1 i]at B;cases B
 |some K=>
  rw[e]at b;cases K with
  |lok=>exact b.elim
  |par L u=>
   obtain⟨I,z,st,sm,E⟩:=b;obtain⟨rfl,F,G,H⟩:=E.tk i _ _ _ _ B;exact⟨u,z,st,sm,rfl,I,E,F,G,H⟩
def X6.turn{gs K:Array Gr}{w w':World}{x:QW}{u:Bool->Bool}{G:Bool->LP}{st sm st' sm' i lo lo':Nat}{s:Bool}{me':LP}(h:X6 gs w V x u G st sm)(S:Q5 V i=some (.lok x s (G s) lo))
  (H:Q5 V' i=some (.lok x s me' lo')) (E:∀j,j≠i->Q5 V' j=Q5 V j) (U:Sh x.m x.t (Zg st') (Qq sm') w') (hw:LP.word me' (G (!s))=some (st',sm')) (hc:(G s).cls<=me'.cls) (T:lo'<=(G (!s)).cls)
  (hd:((ZM G s me' false).isOwn|| (ZM G s me' true).isOwn)=true->V' .lck=ZJ) (Q:((ZM G s me' false).isOwn|| (ZM G s me' true).isOwn)=false->x.dep (ZM G s me') (V' .lck).M)
  (hs:∀j P s me lo g,Q5 V' j=some (.lok P s me lo)->K[j]?=some g->g.status≠.running->sm'=0):X6 K w' V' x u (ZM G s me') st' sm':=by
 have L:=(h.tk i _ _ _ _ S).2.2.2
 have b:∀j P z me lo,j≠i->Q5 V j=some (.lok P z me lo)->z=!s:=by
  intro j P z me lo B e;by_cases es:z=s
  .subst es;exact absurd (h.one j i z _ _ _ _ _ _ e S) B
  .cases s <;> cases z <;> simp_all
 refine⟨U,?_,λ j P z me N e=>?_,λ j k z ac aa l₁ ad ab l₂ e e'=>?_,λ z F=>?_,λ z F=>?_,hd,Q,hs⟩
 .rw[HI _ s,Wd,YM];exact hw
 .by_cases B:j=i
  .subst B;rw[H]at e;cases e;refine⟨rfl,(Wd ..).symm,?_,L⟩;rw[YM];exact T
  .rw[E j B]at e;obtain⟨X,Y,W,Z⟩:=h.tk j _ _ _ _ e;have es:=b j _ _ _ _ B e;subst es;refine⟨X,by rw[YM];exact Y,?_,Z⟩;rw[Bool.not_not]at W ⊢;rw[Wd];exact Nat.le_trans W hc
 .by_cases B:j=i
  .subst B;by_cases I:k=j
   .exact I.symm
   .rw[H]at e;cases e;rw[E k I]at e';have:=b k _ _ _ _ I e';cases s <;> cases this
  .rw[E j B]at e;by_cases I:k=i
   .subst I;rw[H]at e';cases e';have:=b j _ _ _ _ B e;cases s <;> cases this
   .rw[E k I]at e';exact h.one j k z _ _ _ _ _ _ e e'
 .by_cases es:z=s
  .subst es;exact .inr ⟨i,me',lo',H⟩
  .rw[XN _ _ es];rcases h.who z F with h1|⟨j,me,N,e⟩
   .exact .inl h1
   .refine .inr ⟨j,me,N,?_⟩
    have B:j≠i:=λ B=>by
     subst B;rw[S]at e;cases e;exact es rfl
    rw[E j B];exact e
 .by_cases es:z=s
  .subst es;rw[L]at F;cases F
  .rw[XN _ _ es];exact h.idle z F
def yx(x:QW)(w:Bool->LP)(s:Bool)(me':LP)(M:List Qw)(h:me'.rels=(w s).rels):x.dep (ZM w s me') M↔x.dep w M:=by
 have:∀b,(ZM w s me' b).rels=(w b).rels:=by
  intro b;by_cases e:b=s
  .subst e;rw[Wd];exact h
  .rw[XN _ _ e]
 simp only[QW.dep,this]
def Fj(w:Bool->LP)(s:Bool)(me':LP)(h:me'.isOwn=(w s).isOwn):((ZM w s me' false).isOwn|| (ZM w s me' true).isOwn)=((w false).isOwn|| (w true).isOwn):=by
 have:∀b,(ZM w s me' b).isOwn=(w b).isOwn:=by
  intro b;by_cases e:b=s
  .subst e;rw[Wd];exact h
  .rw[XN _ _ e]
 simp only[this]
def Di(b:Bool->LP)(s:Bool):((b false).isOwn|| (b true).isOwn)=((b s).isOwn|| (b (!s)).isOwn):=by
 cases s
 .rfl
 .exact Bool.or_comm _ _
def MI.mu(F:∀m g U,Stop m g U->g.status=.running){i:Nat}{g g':Gr}{r r':Tr}{d d' b:Nat}{D:Spec}{x:QW}{s:Bool}{me':LP}{lo lo' st sm st' sm':Nat}{es:Array Event}{bs:List (Nat×Bool)}{u:Bool->Bool}{T:Bool->LP}(ai:lo'<=(T (!s)).cls)
  (h:MI P t N Stop (some i) gs w tr V rk rel q) (hi:gs[i]?=some g) (K:rk i=some r) (B:i≠0) (E:(V (.run i)).tok=⟨d,.wrk b D,some (.lok x s (T s) lo)⟩)
  (h0:Q5 V 0=some (.par x u)) (H:∀j,QK x.m (V j)) (hx:X6 gs w V x u T st sm)
  (a6:Qc P x.t false g (Zg st) (Qq sm)=.go g' (Zg st') (Qq sm') es bs) (ay:Jc x.m bs) (hw:LP.word me' (T (!s))=some (st',sm')) (ag:(T s).cls<=me'.cls) (am:me'.rels=(T s).rels) (Y:me'.isOwn=(T s).isOwn)
  (az:∀e∈es,Pa x.m e) (hd:deafBehind d es=d') (a8:sm'=sm\/sm'=0\/mayWake P g=true) (ap:Tr.Sub r' r) (hJ:JR (Zd P t N) Stop r' false g' ((V (.run i)).lk d' b D x s me' lo')) :
  JM P t N Stop gs w sl tr rk q i:=by
 have a1:=(Array.getElem?_eq_some_iff.1 hi).1;have an:rk i≠none:=by rw[K];simp
 have Z:=hJ.running F;have L:=hx.sh;have a2:Q5 V i=some (.lok x s (T s) lo):=by unfold Q5;rw[E]
 obtain⟨ds,pend,k,ak,ac,W,c,wt,bb,aa,a0,ax⟩:=h.inGrp B (b:=b) (D:=D) (by rw[E])
 have ao:stepG P (i==0) g w=.go g' (two w x.m x.t (Zg st') (Qq sm')) es:=by
  rw[show(i==0)=false by simpa using B];exact HH a6 L ay
 have af:b≠x.m:=λ e=>aa.ne L e.symm;generalize hU:(V (.run i)).lk d' b D x s me' lo'=U' at hJ;have S:∀j,j≠i->Q3 V (.run i) U' (.run j)=V (.run j):=λ j M=>Qh _ _ (by intro e;cases e;exact M rfl);have ah:∀j,Q3 V (.run i) U' (.dep j)=V (.dep j):=λ j=>Qh _ _ S1;have ab:Q3 V (.run i) U' .lck=V .lck:=Qh _ _ S1
 have hM:∀j,(Q3 V (.run i) U' j).canW=(V j).canW/\(Q3 V (.run i) U' j).canR=(V j).canR:=by
  intro j;by_cases e:j=.run i
  .subst e;rw[Ql,<- hU];exact⟨rfl,rfl⟩
  .rw[Qh _ _ e];exact⟨rfl,rfl⟩
 have I:∀j,(Q3 V (.run i) U' (.run j)).tok.ph=(V (.run j)).tok.ph:=by
  intro j;by_cases e:j=i
  .subst e;rw[Ql,<- hU,E];rfl
  .rw[S j e]
 have a3:x.m<w.heap.size:=(Array.getElem?_eq_some_iff.1 L).1;have aq:=h.wk i B an;have aj:Jz V=some x.m:=by unfold Jz;rw[h0];rfl
 refine⟨_,_,_,Q3 V (.run i) U',Zt rk i (some r'),rel,q,runT_crowd_go hi ao,?_,XL Jp a1 K λ a9 e=>by cases e;exact ap,.refl _,rfl⟩;refine h.go F (rel':=rel) (q':=q) (es:=es) hi S (λ j M=>Qv _ _ M) (λ _ _=>rfl) (λ _ _=>.inl rfl) (by rw[Qv _ _ (Ne.symm B)];exact h.root) (.inl B) ?_ ?_ (λ j M=>by rw[ah];exact h.deps j M) ?_ ?_ ?_ ?_ (λ e=>by rw[Qj]at e;cases e)
 .intro a9 e;rw[Qj]at e;cases e;rw[Ql];refine⟨by rw[show(i==0)=false by simpa using B];exact hJ,?_,λ _=>by rw[<- hU];exact⟨b,D,rfl⟩⟩;rw[h.deaf i an,E,<- hU];exact hd
 .intro e;rw[Qj]at e;cases e
 .refine⟨λ j=>?_,λ av aw l hn hw K=>h.vi.sep av aw l hn (by rw[<- (hM av).1];exact hw) (by rw[<- (hM aw).2];exact K)⟩;have hv:=(h.vi.two (st':=Zg st') (sm':=Qq sm') L H).ok;by_cases e:j=.run i
  .subst e;rw[Ql,<- hU];exact⟨(hv (.run i)).imm,(hv (.run i)).held,(hv (.run i)).apart,(hv (.run i)).sep⟩
  .rw[Qh _ _ e];exact hv j
 .obtain⟨rm,hti⟩:=h.ti;rw[aj]at hti;have:=eM (i:=i) (fn:=g.frame.fn) (pos:=g.frame.place) hti a3 H (.inr (by rw[E];simp)) az (by rw[ak];intro e;exact af (Option.some.inj e)) aq;refine⟨rm,?_⟩;have e0:Jz (Q3 V (.run i) U')=some x.m:=by unfold Jz Q5;rw[S 0 (Ne.symm B)];exact aj
  rw[e0];simp only[I];have a7:(two w x.m x.t (Zg st') (Qq sm')).heap.size=w.heap.size:=by simp[two]
  rw[a7];exact this.turn (λ k l hl=>by rw[<- (hM k).1];exact hl) (λ k l hl=>by rw[<- (hM k).2];exact hl) (λ _ x=>x)
 .unfold QI;rw[I 0,ak];have hk:Z9 (Q3 V (.run i) U')=Z9 V:=by funext j;simp only[Z9,I]
  refine⟨λ j a ha ho K=>ac j a ha ho (by rw[<- (hM j).2];exact K),W,c,wt,bb,aa.two_other af,?_,QI.woken hi (λ e=>absurd e B) ax⟩;rw[hk];simpa only[ah]using a0
 .have hmi:Q5 (Q3 V (.run i) U') i=some (.lok x s me' lo'):=by unfold Q5;rw[Ql,<- hU];rfl
  have Q:∀j,j≠i->Q5 (Q3 V (.run i) U') j=Q5 V j:=λ j M=>by unfold Q5;rw[S j M]
  obtain⟨g1,g2,-⟩:=h.mux;refine⟨λ j x u M e=>?_,by rw[ab];exact g2,?_⟩
  .by_cases X:j=i
   .subst X;rw[hmi]at e;cases e
   .rw[Q j X]at e;exact g1 j x u M e
  rw[Q 0 (Ne.symm B),h0];refine⟨λ j a ha ho K=>H j a ha ho (by rw[<- (hM j).2];exact K),ZM T s me',st',sm',hx.turn a2 hmi Q L.two hw ag ai ?_ ?_ ?_⟩
  .rw[Fj _ _ _ Y,ab];exact hx.dep
  .rw[Fj _ _ _ Y,ab,yx _ _ _ _ _ am];exact hx.dep'
  .intro j x' s' me lo1 y e hy hns
   have X:j≠i:=λ X=>by
    subst X;rw[Wo hi]at hy;cases hy;exact hns Z
   rw[Q j X]at e;rw[Wa X]at hy;obtain⟨z,hz,rfl⟩:=Option.map_eq_some_iff.1 hy;have au:z.status≠.running:=λ K=>hns (by rw[Wk K];exact K);rcases a8 with rfl|rfl|a4
   .exact hx.slp j _ _ _ _ z e hz au
   .rfl
   .exfalso;have a5:rk j≠none:=λ hn=>by rw[h.bareM j hn]at e;cases e
    obtain⟨ba,al⟩:=Option.ne_none_iff_exists'.1 a5;obtain⟨ad,ae,hg⟩:=h.live j ba (λ e'=>X (Option.some.inj e').symm) al;have G:=ae.running F;rcases hg with hg|⟨hg,ho,_⟩
    .rw[hz]at hg;cases hg;exact au G
    .rw[hz]at hg;cases hg;refine hns ?_
     have:woken P g g' (two w x.m x.t (Zg st') (Qq sm')) { ad with status:=.blocked }=ad:=by
      unfold woken;rw[if_pos,again_blocked G ho];rw[Z,a4];rfl
     rw[this];exact G
def MI.mblk{i:Nat}{g:Gr}{r:Tr}{d b:Nat}{D:Spec}{x:QW}{s:Bool}{lo st:Nat}{bs:List (Nat×Bool)}{u:Bool->Bool}{L:Bool->LP}
  (h:MI P t N Stop (some i) gs w tr V rk rel q) (S:gs[i]?=some g) (E:g.status=.running) (U:g.offers=none) (W:rk i=some r) (z:i≠0) (G:(V (.run i)).tok=⟨d,.wrk b D,some (.lok x s .wai lo)⟩)
  (M:Q5 V 0=some (.par x u)) (B:∀j,QK x.m (V j)) (e:X6 gs w V x u L st 0)
  (K:Qc P x.t false g (Zg st) (Qq 0)=.blocked { g with status:=.blocked } (Zg st) (Qq 0) bs) (I:Jc x.m bs) (Q:JR (Zd P t N) Stop r false g (V (.run i))):JM P t N Stop gs w sl tr rk q i:=by
 have F:stepG P (i==0) g w=.go { g with status:=.blocked } w #[]:=by
  rw[show(i==0)=false by simpa using z];have:=FU K e.sh I
  rwa [e.sh.two_same]at this
 have H:∀j,j≠i->(gs.setIfInBounds i { g with status:=.blocked })[j]?=gs[j]?:=λ j T=>Array.getElem?_setIfInBounds_ne (Ne.symm T);refine h.sleep S E U W (.inr ⟨d,b,D,x,s,lo,G⟩) F (by rw[show(i==0)=false by simpa using z];exact Q) ?_ ?_
 .have hG:=h.grp;unfold QI at hG ⊢;rw[H 0 (Ne.symm z)];exact hG
 .obtain⟨g1,g2,-⟩:=h.mux;refine⟨g1,g2,?_⟩;rw[M];exact⟨B,L,st,0,e.sh,e.word,e.tk,e.one,e.who,e.idle,e.dep,e.dep',λ _ _ _ _ _ _ _ _ _=>rfl⟩
def MI.macq(H:∀m g U,Stop m g U->g.status=.running){i:Nat}{g g':Gr}{r r':Tr}{b:Nat}{D:Spec}{x:QW}{s:Bool}{lo st sm:Nat}{bs:List (Nat×Bool)}{u:Bool->Bool}{Q:Bool->LP}
  (h:MI P t N Stop (some i) gs w tr V rk rel q) (hi:gs[i]?=some g) (hr:rk i=some r) (E:i≠0) (G:(V (.run i)).tok=⟨0,.wrk b D,some (.lok x s (Q s) lo)⟩) (ab:Q s=.got) (an:lo<=(Q (!s)).cls)
  (h0:Q5 V 0=some (.par x u)) (ac:∀j,QK x.m (V j)) (hx:X6 gs w V x u Q st sm)
  (ax:∀st sm,Qc P x.t false g st sm=.go g' st sm #[Z8 (.acquire ⟨x.m,0,none⟩)] bs) (al:Jc x.m bs) (ah:Tr.Sub r' r)
  (hJ:JR (Zd P t N) Stop r' false g' { (V (.run i))with M:=(V (.run i)).M++(V .lck).M,tok:=⟨0,.wrk b D,some (.lok x s (.own (Q (!s)).rels) lo)⟩ }):JM P t N Stop gs w sl tr rk q i:=by
 have ao:=(Array.getElem?_eq_some_iff.1 hi).1;have ad:rk i≠none:=by rw[hr];simp
 have ae:=hJ.running H;have X:=hx.sh;have aq:Q5 V i=some (.lok x s (Q s) lo):=by unfold Q5;rw[G]
 obtain⟨ds,pend,k,av,Z,W,c,wt,a1,af,am,ak⟩:=h.inGrp E (b:=b) (D:=D) (by rw[G])
 have ag:stepG P (i==0) g w=.go g' w #[Z8 (.acquire ⟨x.m,0,none⟩)]:=by
  rw[show(i==0)=false by simpa using E];have:=HH (ax (Zg st) (Qq sm)) X al
  rwa [X.two_same]at this
 have aa:Deaf tr i=0:=by rw[h.deaf i ad,G]
 have hw:=hx.word;rw[HI _ s,ab]at hw;obtain⟨az,a3⟩:=LP.word_own hw
 let V0:Hd->Qa Tk:=Q3 (Q3 V (.run i) ((V (.run i)).with (V .lck).M)) .lck (Qa.bare ⟨0,.out,none⟩)
 have L:VI V0 w:=h.vi.join (k:=.run i) (k':=.lck) S1 _
 let B:Hd->Qa Tk:=Q3 V0 (.run i) { (V (.run i))with M:=(V (.run i)).M++(V .lck).M,tok:=⟨0,.wrk b D,some (.lok x s (.own (Q (!s)).rels) lo)⟩ }
 have v1:B (.run i)={ (V (.run i))with M:=(V (.run i)).M++(V .lck).M,tok:=⟨0,.wrk b D,some (.lok x s (.own (Q (!s)).rels) lo)⟩ }:=Ql ..;have z1:V0 (.run i)=(V (.run i)).with (V .lck).M:=by show Q3 _ _ _ _=_;rw[Qh _ _ S1,Ql]
 have v2:∀j,j≠i->B (.run j)=V (.run j):=λ j S=>by show Q3 _ _ _ _=_;rw[Qh _ _ (by intro e;cases e;exact S rfl)];show Q3 _ _ _ _=_;rw[Qh _ _ S1,Qh _ _ (by intro e;cases e;exact S rfl)]
 have vd:∀j,B (.dep j)=V (.dep j):=λ j=>by show Q3 _ _ _ _=_;rw[Qh _ _ S1];show Q3 _ _ _ _=_;rw[Qh _ _ S1,Qh _ _ S1]
 have vm:B .lck=ZJ:=by show Q3 _ _ _ _=_;rw[Qh _ _ S1];exact Ql ..
 have hs:∀k,(B k).canW=(V0 k).canW/\(B k).canR=(V0 k).canR:=by
  intro k;by_cases e:k=.run i
  .subst e;rw[v1,z1];exact⟨rfl,rfl⟩
  .rw[show B k=_ from Qh _ _ e];exact⟨rfl,rfl⟩
 have ay:VI B w:=by
  refine⟨λ k=>?_,λ ai aj l hn hw hr=>L.sep ai aj l hn (by rw[<- (hs ai).1];exact hw) (by rw[<- (hs aj).2];exact hr)⟩;by_cases e:k=.run i
  .subst e;rw[v1];have:=L.ok (.run i);rw[z1]at this;exact⟨this.imm,this.held,this.apart,this.sep⟩
  .rw[show B k=_ from Qh _ _ e];exact L.ok k
 have hW:∀k l,(B k).canW l->k≠.lck/\((V k).canW l\/(k=.run i/\(V .lck).canW l)):=by
  intro k l F;cases k with
  |run j=>
   refine⟨S1,?_⟩;by_cases e:j=i
   .subst e;rw[(hs _).1,z1]at F;exact(Sa (τ:=V .lck) F).imp id λ h=>⟨rfl,h⟩
   .rw[v2 j e]at F;exact .inl F
  |dep j=>rw[vd]at F;exact⟨S1,.inl F⟩
  |lck=>rw[vm]at F;exact absurd F (Wn _ _)
 have hR:∀k l,(B k).canR l->k≠.lck/\((V k).canR l\/(k=.run i/\(V .lck).canR l)):=by
  intro k l F;cases k with
  |run j=>
   refine⟨S1,?_⟩;by_cases e:j=i
   .subst e;rw[(hs _).2,z1]at F;exact(S9 (τ:=V .lck) F).imp id λ h=>⟨rfl,h⟩
   .rw[v2 j e]at F;exact .inl F
  |dep j=>rw[vd]at F;exact⟨S1,.inl F⟩
  |lck=>rw[vm]at F;exact absurd F (Wm _ _)
 have I:∀m,(∀j,QK m (V j))->∀j,QK m (B j):=λ m hm j a ha ho aw=>by
  rcases(hR _ _ aw).2 with h1|⟨_,h1⟩
  .exact hm _ a ha ho h1
  .exact hm _ a ha ho h1
 have K:∀j,(B (.run j)).tok.ph=(V (.run j)).tok.ph:=by
  intro j;by_cases e:j=i
  .subst e;rw[v1,G]
  .rw[v2 j e]
 have au:x.m<w.heap.size:=(Array.getElem?_eq_some_iff.1 X).1;have a2:=h.wk i E ad;have ap:Jz V=some x.m:=by unfold Jz;rw[h0];rfl
 have e0:MemOp.ofEvents i g.frame.fn g.frame.place #[Z8 (.acquire ⟨x.m,0,none⟩)]=#[{ g:=i,fn:=g.frame.fn,pos:=g.frame.place,act:=.mark (.acquire ⟨x.m,0,none⟩) }]:=by
  rw[ofEvents_eq];simp[Z8,MemAct.ofEvent]
 refine⟨_,_,_,B,Zt rk i (some r'),rel,q,runT_crowd_go hi ag,?_,XL Jp ao hr λ a0 e=>by cases e;exact ah,.refl _,rfl⟩;refine h.go H (V':=B) (rel':=rel) (q':=q) (es:=#[Z8 (.acquire ⟨x.m,0,none⟩)]) hi v2 (λ j S=>Qv _ _ S) (λ _ _=>rfl) (λ _ _=>.inl rfl) (by rw[Qv _ _ (Ne.symm E)];exact h.root) (.inl E) ?_ ?_ (λ j S=>by rw[vd];exact h.deps j S) ay ?_ ?_ ?_ (λ e=>by rw[Qj]at e;cases e)
 .intro a0 e;rw[Qj]at e;cases e;rw[v1];refine⟨by rw[show(i==0)=false by simpa using E];exact hJ,?_,λ _=>⟨b,D,rfl⟩⟩;rw[aa];rfl
 .intro e;rw[Qj]at e;cases e
 .obtain⟨rm,hti⟩:=h.ti;refine⟨rm,?_⟩;have e1:Jz B=Jz V:=by unfold Jz Q5;rw[v2 0 (Ne.symm E)]
  rw[e1,e0];simp only[K];exact hti.macq (y:={ g:=i,fn:=g.frame.fn,pos:=g.frame.place,act:=.mark (.acquire ⟨x.m,0,none⟩) }) ap rfl au aa (.inr (by rw[G];simp)) hW hR
 .unfold QI;rw[K 0,av];have hk:Z9 B=Z9 V:=by funext j;simp only[Z9,K]
  refine⟨I _ Z,W,c,wt,a1,af,?_,QI.woken hi (λ e=>absurd e E) ak⟩;rw[hk];simpa only[vd]using am
 .have hmi:Q5 B i=some (.lok x s (.own (Q (!s)).rels) lo):=by unfold Q5;rw[v1]
  have T:∀j,j≠i->Q5 B j=Q5 V j:=λ j S=>by unfold Q5;rw[v2 j S]
  obtain⟨g1,g2,-⟩:=h.mux;refine⟨λ j x u S e=>?_,by rw[vm];rfl,?_⟩
  .by_cases Y:j=i
   .subst Y;rw[hmi]at e;cases e
   .rw[T j Y]at e;exact g1 j x u S e
  rw[T 0 (Ne.symm E),h0];refine⟨I _ ac,ZM Q s (.own (Q (!s)).rels),st,sm,hx.turn aq hmi T X az (by rw[ab];exact Nat.le_refl _) an (λ _=>vm) (λ e=>?_) ?_⟩
  .exfalso;rw[Di _ s,Wd]at e;simp[LP.isOwn]at e
  .intro j x' s' me lo1 y e hy hns
   have Y:j≠i:=λ Y=>by
    subst Y;rw[Wo hi]at hy;cases hy;exact hns ae
   rw[T j Y]at e;rw[Wa Y]at hy;obtain⟨z,hz,rfl⟩:=Option.map_eq_some_iff.1 hy;exact hx.slp j _ _ _ _ z e hz λ hr=>hns (by rw[Wk hr];exact hr)
def MI.mrel(H:∀m g U,Stop m g U->g.status=.running){i:Nat}{g g':Gr}{r r':Tr}{b:Nat}{D:Spec}{x:QW}{s v:Bool}{lo st sm:Nat}{bs:List (Nat×Bool)}{u:Bool->Bool}{Z:Bool->LP}{M₁ M₂:List Qw}
  (h:MI P t N Stop (some i) gs w tr V rk rel q) (hi:gs[i]?=some g) (hr:rk i=some r) (B:i≠0) (G:(V (.run i)).tok=⟨0,.wrk b D,some (.lok x s (Z s) lo)⟩) (ab:Z s=.own v) (an:lo<=(Z (!s)).cls)
  (h0:Q5 V 0=some (.par x u)) (ac:∀j,QK x.m (V j)) (hx:X6 gs w V x u Z st sm) (hM:(V (.run i)).M=M₁++M₂) (hD:x.sp (if s then v else true) (if s then true else v) M₁)
  (ay:∀st sm,Qc P x.t false g st sm=.go g' st sm #[Z8 (.releaseMerge ⟨x.m,0,none⟩)] bs) (al:Jc x.m bs) (ah:Tr.Sub r' r)
  (hJ:JR (Zd P t N) Stop r' false g' { (V (.run i))with M:=M₂,tok:=⟨0,.wrk b D,some (.lok x s .rls lo)⟩ }):JM P t N Stop gs w sl tr rk q i:=by
 have ao:=(Array.getElem?_eq_some_iff.1 hi).1;have ad:rk i≠none:=by rw[hr];simp
 have ae:=hJ.running H;have T:=hx.sh;have aq:Q5 V i=some (.lok x s (Z s) lo):=by unfold Q5;rw[G]
 obtain⟨ds,pend,k,av,Y,W,c,wt,a2,af,am,ak⟩:=h.inGrp B (b:=b) (D:=D) (by rw[G])
 have ag:stepG P (i==0) g w=.go g' w #[Z8 (.releaseMerge ⟨x.m,0,none⟩)]:=by
  rw[show(i==0)=false by simpa using B];have:=HH (ay (Zg st) (Qq sm)) T al
  rwa [T.two_same]at this
 have aa:Deaf tr i=0:=by rw[h.deaf i ad,G]
 have hw:=hx.word;rw[HI _ s,ab]at hw;obtain⟨a0,ai,aw⟩:=LP.word_rls hw;have hf:=La (tp:=(⟨0,.wrk b D,some (.lok x s .rls lo)⟩:Tk)) (tc:=(⟨0,.out,none⟩:Tk)) (h.vi.ok (.run i)) (M₁:=M₁) (M₂:=M₂) (by rw[hM])
 let F:Hd->Qa Tk:=Q3 (Q3 V (.run i) ⟨(V (.run i)).I,M₂,⟨0,.wrk b D,some (.lok x s .rls lo)⟩⟩) .lck ⟨λ _=>none,M₁,⟨0,.out,none⟩⟩
 have az:VI F w:=h.vi.fork hf S1;have v1:F (.run i)=⟨(V (.run i)).I,M₂,⟨0,.wrk b D,some (.lok x s .rls lo)⟩⟩:=by show Q3 _ _ _ _=_;rw[Qh _ _ S1,Ql]
 have v2:∀j,j≠i->F (.run j)=V (.run j):=λ j Q=>by show Q3 _ _ _ _=_;rw[Qh _ _ S1,Qh _ _ (by intro e;cases e;exact Q rfl)]
 have vd:∀j,F (.dep j)=V (.dep j):=λ j=>by show Q3 _ _ _ _=_;rw[Qh _ _ S1,Qh _ _ S1]
 have vm:F .lck=⟨λ _=>none,M₁,⟨0,.out,none⟩⟩:=Ql ..
 have hW:∀k l,(F k).canW l->((V k).canW l/\k≠.lck)\/(k=.lck/\(V (.run i)).canW l):=by
  intro k l E;cases k with
  |run j=>
   by_cases e:j=i
   .subst e;rw[v1]at E;exact .inl ⟨hf.wp l E,S1⟩
   .rw[v2 j e]at E;exact .inl ⟨E,S1⟩
  |dep j=>rw[vd]at E;exact .inl ⟨E,S1⟩
  |lck=>rw[vm]at E;exact .inr ⟨rfl,hf.wc l E⟩
 have hR:∀k l,(F k).canR l->((V k).canR l/\k≠.lck)\/(k=.lck/\(V (.run i)).canR l):=by
  intro k l E;cases k with
  |run j=>
   by_cases e:j=i
   .subst e;rw[v1]at E;exact .inl ⟨hf.rp l E,S1⟩
   .rw[v2 j e]at E;exact .inl ⟨E,S1⟩
  |dep j=>rw[vd]at E;exact .inl ⟨E,S1⟩
  |lck=>rw[vm]at E;exact .inr ⟨rfl,hf.rc l E⟩
 have K:∀m,(∀j,QK m (V j))->∀j,QK m (F j):=λ m hm j a ha ho ax=>by
  rcases hR _ _ ax with⟨h1,_⟩|⟨_,h1⟩
  .exact hm _ a ha ho h1
  .exact hm _ a ha ho h1
 have L:∀j,(F (.run j)).tok.ph=(V (.run j)).tok.ph:=by
  intro j;by_cases e:j=i
  .subst e;rw[v1,G]
  .rw[v2 j e]
 have au:x.m<w.heap.size:=(Array.getElem?_eq_some_iff.1 T).1;have aj:=h.wk i B ad;have ap:Jz V=some x.m:=by unfold Jz;rw[h0];rfl
 have e0:MemOp.ofEvents i g.frame.fn g.frame.place #[Z8 (.releaseMerge ⟨x.m,0,none⟩)]=#[{ g:=i,fn:=g.frame.fn,pos:=g.frame.place,act:=.mark (.releaseMerge ⟨x.m,0,none⟩) }]:=by
  rw[ofEvents_eq];simp[Z8,MemAct.ofEvent]
 refine⟨_,_,_,F,Zt rk i (some r'),rel,q,runT_crowd_go hi ag,?_,XL Jp ao hr λ a1 e=>by cases e;exact ah,.refl _,rfl⟩;refine h.go H (V':=F) (rel':=rel) (q':=q) (es:=#[Z8 (.releaseMerge ⟨x.m,0,none⟩)]) hi v2 (λ j Q=>Qv _ _ Q) (λ _ _=>rfl) (λ _ _=>.inl rfl) (by rw[Qv _ _ (Ne.symm B)];exact h.root) (.inl B) ?_ ?_ (λ j Q=>by rw[vd];exact h.deps j Q) az ?_ ?_ ?_ (λ e=>by rw[Qj]at e;cases e)
 .intro a1 e;rw[Qj]at e;cases e;rw[v1];refine⟨by rw[show(i==0)=false by simpa using B];exact hJ,?_,λ _=>⟨b,D,rfl⟩⟩;rw[aa];rfl
 .intro e;rw[Qj]at e;cases e
 .obtain⟨rm,hti⟩:=h.ti;refine⟨some tr.size,?_⟩;have e1:Jz F=Jz V:=by unfold Jz Q5;rw[v2 0 (Ne.symm B)]
  rw[e1,e0];simp only[L];exact hti.mrel (y:={ g:=i,fn:=g.frame.fn,pos:=g.frame.place,act:=.mark (.releaseMerge ⟨x.m,0,none⟩) }) ap rfl au aa aj hW hR
 .unfold QI;rw[L 0,av];have hk:Z9 F=Z9 V:=by funext j;simp only[Z9,L]
  refine⟨K _ Y,W,c,wt,a2,af,?_,QI.woken hi (λ e=>absurd e B) ak⟩;rw[hk];simpa only[vd]using am
 .have hmi:Q5 F i=some (.lok x s .rls lo):=by unfold Q5;rw[v1]
  have S:∀j,j≠i->Q5 F j=Q5 V j:=λ j Q=>by unfold Q5;rw[v2 j Q]
  obtain⟨g1,g2,-⟩:=h.mux;refine⟨λ j x u Q e=>?_,by rw[vm],?_⟩
  .by_cases X:j=i
   .subst X;rw[hmi]at e;cases e
   .rw[S j X]at e;exact g1 j x u Q e
  rw[S 0 (Ne.symm B),h0];refine⟨K _ ac,ZM Z s .rls,st,sm,hx.turn aq hmi S T a0 (by rw[ab];exact Nat.le_refl _) an (λ e=>?_) (λ _=>?_) ?_⟩
  .exfalso;rw[Di _ s,Wd,YM,aw]at e;simp[LP.isOwn]at e
  .rw[vm];unfold QW.dep;cases s
   .rw[Wd,XN _ _ S1];rw[ai]at hD;exact hD
   .rw[Wd,XN _ _ S1];rw[ai]at hD;exact hD
  .intro j x' s' me lo1 y e hy hns
   have X:j≠i:=λ X=>by
    subst X;rw[Wo hi]at hy;cases hy;exact hns ae
   rw[S j X]at e;rw[Wa X]at hy;obtain⟨z,hz,rfl⟩:=Option.map_eq_some_iff.1 hy;exact hx.slp j _ _ _ _ z e hz λ hr=>hns (by rw[Wk hr];exact hr)
end
end Go.TM

