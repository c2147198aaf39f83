/- Lemmas. No conditions. -/
import Derived.Conc.CrowdStepC
import Derived.Conc.JoinWorld
import Derived.Test.YtnpfcnfhfkflhaaGreatDoorB10
set_option linter.all false
open List
namespace Go.TM
open Go.Conc
def JS(n:Nat)(rk:Nat->Option Tr):List Tr:=(range n).filterMap rk
theorem Ym(n:Nat)(rk:Nat->Option Tr):JS (n+1) rk=JS n rk++(rk n).toList:=by
 simp only[JS,range_succ,filterMap_append];cases h:rk n <;> simp[h]
def Lw{n:Nat}{rk rk':Nat->Option Tr}(h:∀i,i<n->rk i=rk' i):JS n rk=JS n rk':=by
 induction n with
 |zero=>rfl
 |succ n b=>grind[Ym]
def Tu{n i:Nat}(rk:Nat->Option Tr)(x:Option Tr)(f:i<n):(JS n (Zp rk i x)).Perm (x.toList++JS n (Zp rk i none)):=by
 induction n with
 |zero=>omega
 |succ n b=>
  rw[Ym,Ym];by_cases e:i=n
  .subst e;rw[Qj,Qj,Lw (rk:=Zp rk i x) (rk':=Zp rk i none) λ j h=>by rw[Qv _ _ O1,Qv _ _ O1]];simp only[Option.toList_none,append_nil];exact perm_append_comm
  .rw[Qv _ _ O1,Qv _ _ O1];have:=(b O1).append_right (rk n).toList
   simp_all
def LV{n i:Nat}{rk:Nat->Option Tr}{r:Tr}(b:i<n)(f:rk i=some r):(JS n rk).Perm (r::JS n (Zp rk i none)):=by
 have:=Tu rk (some r) b;have e:Zp rk i (some r)=rk:=by funext j;grind[Zp]
 rwa [e]at this
theorem Rh{n i:Nat}{rk:Nat->Option Tr}{r:Tr}{x:Option Tr}(e:i<n)(h:rk i=some r)(f:∀b,x=some b->Tr.Sub b r):ZQ (JS n (Zp rk i x)) (JS n rk):=
 ⟨r,JS n (Zp rk i none),x.toList,LV e h,Tu rk x e,λ c w=>f c S2⟩
theorem vf{n i:Nat}{rk:Nat->Option Tr}{r b e:Tr}(f:i<n)(z:rk i=some r)(h:Tr.Sub b r)(w:Tr.Sub e r):ZQ (JS (n+1) (Zp (Zp rk i (some b)) n (some e))) (JS n rk):=by
 refine⟨r,JS n (Zp rk i none),[e,b],LV f z,?_,by simp[h,w]⟩;rw[Ym,Qj,Lw (rk:=Zp (Zp rk i (some b)) n (some e)) (rk':=Zp rk i (some b)) λ j B=>Qv _ _ O1];have:=Tu rk (some b) f;simp only[Option.toList_some]at this ⊢;refine(perm_append_comm).trans ?_;simp_all
def ZO(p:Ph):Prop:=∃b D,p=.wrk b D
def Z3(V:Hd->Qa Tk)(i:Nat):Ph:=if i=0 then .out else(V (.run i)).tok.ph
def ZL:Qa Tk:=Qa.bare ⟨0,.out,none⟩
def Q3(V:Hd->Qa Tk)(i:Nat):Option ZS:=(V (.run i)).tok.mu
def Jy(V:Hd->Qa Tk):Option Nat:=ZS.mb (Q3 V 0)
structure X8(gs:Array Gr)(w:World)(V:Hd->Qa Tk)(x:QY)(u:Bool->Bool)(lp:Bool->LP)(st sm:Nat):Prop where
 sh:Sh x.m x.t (Zc st) (Qq sm) w
 word:L7 lp=some (st,sm)
 tk:∀i x' s me lo,Q3 V i=some (.lok x' s me lo)->x'=x/\me=lp s/\lo<=(lp (!s)).cls/\u s=true
 one:∀i j s x_1 m_1 l₁ x_2 m_2 l₂,Q3 V i=some (.lok x_1 s m_1 l₁)->Q3 V j=some (.lok x_2 s m_2 l₂)->i=j
 who:∀s,u s=true->lp s=.fin\/∃i me lo,Q3 V i=some (.lok x s me lo)
 idle:∀s,u s=false->lp s=.idle
 dep:((lp false).isOwn|| (lp true).isOwn)=true->V .lck=ZL
 dep':((lp false).isOwn|| (lp true).isOwn)=false->x.dep lp (V .lck).M
 slp:∀i x' s me lo g,Q3 V i=some (.lok x' s me lo)->gs[i]?=some g->g.status≠.running->sm=0
def JK(gs:Array Gr)(w:World)(V:Hd->Qa Tk):Prop:=
 (∀i x u,i≠0->Q3 V i≠some (.par x u))/\(V .lck).I=(λ _=>none) /\
 match Q3 V 0 with
 |none=>(∀i,Q3 V i=none)/\V .lck=ZL
 |some (.par x u)=>(∀j,QL x.m (V j))/\∃b st sm,X8 gs w V x u b st sm
 |some (.lok ..)=>False
theorem X8.at{gs f:Array Gr}{w w':World}{V V':Hd->Qa Tk}{x:QY}{u:Bool->Bool}{K:Bool->LP}{st sm:Nat}(h:X8 gs w V x u K st sm)(L:∀i,Q3 V' i=Q3 V i)(I:V' .lck=V .lck)
  (G:Sh x.m x.t (Zc st) (Qq sm) w') (B:∀i b s me lo g',Q3 V i=some (.lok b s me lo)->f[i]?=some g'->g'.status≠.running->∃g,gs[i]?=some g/\g.status≠.running):X8 f w' V' x u K st sm:=by
 refine⟨G,h.word,λ i b s me lo e=>h.tk i b s me lo S2,λ i j s H z l₁ F E l₂ e e'=>h.one i j s H z l₁ F E l₂ S2 S2,λ s P=>(h.who s P).imp id λ⟨i,me,lo,e⟩=>⟨i,me,lo,by rw[L];exact e⟩,h.idle,λ e=>by rw[I];exact h.dep e,λ e=>by rw[I];exact h.dep' e,λ i b s me lo g' e N Q=>?_⟩;rw[L]at e;obtain⟨g,M,S⟩:=B i b s me lo g' e N Q;exact h.slp i b s me lo g e M S
theorem JK.at{gs b:Array Gr}{w w':World}{V V':Hd->Qa Tk}(h:JK gs w V)(I:∀i,Q3 V' i=Q3 V i)(G:V' .lck=V .lck)(f:∀m,(∀j,QL m (V j))->m<w.heap.size->∀j,QL m (V' j))
  (F:∀m t st sm,(∀j,QL m (V j))->Sh m t (Zc st) (Qq sm) w->Sh m t (Zc st) (Qq sm) w')
  (B:∀i L s me lo g',Q3 V i=some (.lok L s me lo)->b[i]?=some g'->g'.status≠.running->∃g,gs[i]?=some g/\g.status≠.running):JK b w' V':=by
 obtain⟨N,M,E⟩:=h;refine⟨λ i x u P=>S2,by rw[G];exact M,?_⟩;rw[I];cases e:Q3 V 0 with
 |none=>simp_all
 |some mu=>
  rw[e]at E;cases mu with
  |lok=>exact E
  |par x u=>
   obtain⟨H,K,st,sm,z⟩:=E;exact⟨f _ H (Array.getElem?_eq_some_iff.1 z.sh).1,K,st,sm,z.at I G (F _ _ _ _ H z.sh) B⟩
def SW(i:Nat)(tk:Tk):Prop:=(i=0/\∃b ds mu,tk=⟨1,.par b ds false .wait,mu⟩)\/∃d b D x s lo,tk=⟨d,.wrk b D,some (.lok x s .wai lo)⟩
def QK(t:TypeId)(N:Nat)(gs:Array Gr)(w:World)(V:Hd->Qa Tk)(rel:Nat->Option Nat):Prop:=
 match(V (.run 0)).tok.ph with
 |.out=>(∀i,i≠0->(V (.run i)).tok.ph=.out)/\∀i,rel i=none
 |.par b ds pend k=>(∀j,QL b (V j))/\∃W c wt s,Sh b t (Q1 c wt) (Qq s) w/\GI N b ds pend k (Z3 V) rel (λ i=>(V (.dep i)).M) W c wt s/\(∀g,gs[0]?=some g->g.status≠.running->s=0)
 |_=>False
structure MI(P:Program)(t:TypeId)(N:Nat)(Stop:QJ Tk)(ex:Option Nat)(gs:Array Gr)(w:World)(tr:Trace)(V:Hd->Qa Tk)(rk:Nat->Option Tr)(rel:Nat->Option Nat)(q:Nat->Nat):Prop where
 live:∀i r,ex≠some i->rk i=some r->∃g,JR (Zb P t N) Stop r (i==0) g (V (.run i)) /\
  (gs[i]?=some g\/(gs[i]?=some { g with status:=.blocked }/\g.offers=none/\SW i (V (.run i)).tok))
 root:rk 0≠none
 gone:∀i g,rk i=none->gs[i]?=some g->(V (.run i)).tok.ph=.out->QuitsD P (q i) (Deaf tr i) g
 tail:∀i,rk i=none->(V (.run i)).tok.ph≠.out->∃g b,gs[i]?=some g/\(V (.run 0)).tok.ph.blk=some b/\Tl P t N b (q i) (Deaf tr i) (V (.run i)).tok.ph g
 above:∀i,gs.size<=i->rk i=none/\Deaf tr i=0/\rel i=none
 bare:∀i,rk i=none->(V (.run i)).I=(λ _=>none)/\(V (.run i)).M=[]
 wk:∀i,i≠0->rk i≠none->ZO (V (.run i)).tok.ph
 wk':∀i,ZO (V (.run i)).tok.ph->rk i≠none
 deaf:∀i,rk i≠none->Deaf tr i=(V (.run i)).tok.d
 deps:∀i,rel i=none->V (.dep i)=ZL
 vi:VI V w
 ti:∃rm,TI (λ k=>(V k).canW) (λ k=>(V k).canR) rel (V (.run 0)).tok.ph.blk (Jy V) rm (λ i=>i=0\/(V (.run i)).tok.ph≠.out) (λ i=>ZO (V (.run i)).tok.ph) w.heap.size tr
 grp:QK t N gs w V rel
 mux:JK gs w V
 bareM:∀i,rk i=none->Q3 V i=none
section
variable{P:Program}{t:TypeId}{N:Nat}{Stop:QJ Tk}{gs:Array Gr}{w:World}{tr:Trace}{V:Hd->Qa Tk}{rk:Nat->Option Tr}{rel:Nat->Option Nat}{q:Nat->Nat}
def JR.running(e:∀m g U,Stop m g U->g.status=.running):∀{r:Tr}{m:Bool}{g:Gr}{U:Qa Tk},JR (Zb P t N) Stop r m g U->g.status=.running:=by
 intro r
 induction r using Tr.sub_wf.induction with
 |_ r B=>
  intro m g U h;obtain⟨w,_,h|h|h⟩:=h.step
  .grind
  .exact h.1
  .have h:QD P t N _ m g w:=h;cases h with
   |make f z k=>grind
   |makeM f z E k=>grind
   |quiet b|dis b|ena b|add b|said b|look b|sema b|look2 b|acq b|acqM b|go b|lay b|mu b|mblk b|macq b|mrel b=>exact b
theorem Wg{g g' h:Gr}{w':World}(b:h.status=.running):woken P g g' w' h=h:=by
 grind[woken,Goroutine.again]
def RU{g g' h:Gr}{w':World}(b:h.status=.running)(e:h.offers=none):woken P g g' w' { h with status:=.blocked }=h\/woken P g g' w' { h with status:=.blocked }={ h with status:=.blocked }:=by
 grind[woken,again_blocked]
def behind(P:Program)(gs:Array Gr)(i:Nat)(g g':Gr)(w':World):Array Gr:=(gs.map (woken P g g' w')).setIfInBounds i g'
theorem Wl{i:Nat}{g g':Gr}{w':World}(b:gs[i]?=some g):(behind P gs i g g' w')[i]?=some g':=by
 grind[behind]
def J7{i j:Nat}{g g':Gr}{w':World}(h:j≠i):(behind P gs i g g' w')[j]?=(gs[j]?).map (woken P g g' w'):=by
 simp_all[behind,Array.getElem?_setIfInBounds_ne,Ne.symm,Array.getElem?_map]
def Jp{i:Nat}{g g':Gr}{w':World}:(behind P gs i g g' w').size=gs.size:=by simp[behind]
def Tl.running{b:Nat}:∀{n d:Nat}{p:Ph}{g:Gr},Tl P t N b n d p g->g.status=.running
 |0,_,_,_,h=>h.elim
 |_+1,_,_,_,h=>h.1
theorem MI.go{i:Nat}(h:MI P t N Stop (some i) gs w tr V rk rel q)(K:∀m g U,Stop m g U->g.status=.running){g g':Gr}{w':World}{es:Array Event}{V':Hd->Qa Tk}{rk':Nat->Option Tr}{rel':Nat->Option Nat}{q':Nat->Nat}
  (hi:gs[i]?=some g) (B:∀j,j≠i->V' (.run j)=V (.run j)) (z:∀j,j≠i->rk' j=rk j) (hq:∀j,j≠i->q' j=q j) (ag:∀j,j≠i->rel' j=rel j\/rel' j=none) (H:rk' 0≠none)
  (f:i≠0\/(V' (.run 0)).tok.ph.blk=(V (.run 0)).tok.ph.blk\/∀j,j≠0->(V (.run j)).tok.ph=.out)
  (ab:∀r,rk' i=some r->JR (Zb P t N) Stop r (i==0) g' (V' (.run i))/\deafBehind (Deaf tr i) es=(V' (.run i)).tok.d/\(i≠0->ZO (V' (.run i)).tok.ph))
  (W:rk' i=none->i≠0/\(V' (.run i)).I=(λ _=>none)/\(V' (.run i)).M=[]/\¬ZO (V' (.run i)).tok.ph /\
   (((V' (.run i)).tok.ph=.out/\QuitsD P (q' i) (deafBehind (Deaf tr i) es) g')\/((V' (.run i)).tok.ph≠.out/\∃b,(V (.run 0)).tok.ph.blk=some b/\Tl P t N b (q' i) (deafBehind (Deaf tr i) es) (V' (.run i)).tok.ph g')))
  (F:∀j,rel' j=none->V' (.dep j)=ZL) (Y:VI V' w')
  (ac:∃rm,TI (λ k=>(V' k).canW) (λ k=>(V' k).canR) rel' (V' (.run 0)).tok.ph.blk (Jy V') rm (λ i=>i=0\/(V' (.run i)).tok.ph≠.out) (λ i=>ZO (V' (.run i)).tok.ph) w'.heap.size (tr++MemOp.ofEvents i g.frame.fn g.frame.place es))
  (Q:QK t N (behind P gs i g g' w') w' V' rel') (S:JK (behind P gs i g g' w') w' V') (ae:rk' i=none->Q3 V' i=none) :
  MI P t N Stop none (behind P gs i g g' w') w' (tr++MemOp.ofEvents i g.frame.fn g.frame.place es) V' rk' rel' q':=by
 have ah:=(Array.getElem?_eq_some_iff.1 hi).1
 have hD:∀j,j≠i->Deaf (tr++MemOp.ofEvents i g.frame.fn g.frame.place es) j=Deaf tr j:=by
  intro j G;refine Deaf_other tr (Ne.symm G) _ ?_;intro op aa;obtain⟨e,_,rfl⟩:=Go.Conc.mem_ofEvents aa;rfl
 have af:Deaf (tr++MemOp.ofEvents i g.frame.fn g.frame.place es) i=deafBehind (Deaf tr i) es:=Deaf_own ..;refine⟨?_,H,?_,?_,?_,?_,?_,?_,?_,F,Y,ac,Q,S,λ j G=>?_⟩
 .intro j r _ hr;by_cases e:j=i
  .grind[Wl]
  .rw[z j e]at hr;obtain⟨ad,hJ,L⟩:=h.live j r (λ e'=>e (Option.some.inj e').symm) hr;have E:=hJ.running K;rw[B j e];refine⟨ad,hJ,?_⟩;rw[J7 e];rcases L with L|⟨L,ho,T⟩
   .exact .inl (by rw[L,Option.map_some,Wg E])
   .rw[L,Option.map_some];rcases RU (P:=P) (g:=g) (g':=g') (w':=w') E ho with e|e
    .exact .inl (by rw[e])
    .exact .inr ⟨by rw[e],ho,T⟩
 .intro j x hr hx hp;by_cases e:j=i
  .grind[Wl,absurd]
  .rw[J7 e]at hx;obtain⟨y,X,rfl⟩:=Option.map_eq_some_iff.1 hx;rw[z j e]at hr;rw[B j e]at hp;have:=h.gone j y hr X hp;grind[woken_quitsD]
 .intro j hr hp;by_cases e:j=i
  .subst e;simp_all[absurd,Wl,Ne.symm]
  .rw[z j e]at hr;rw[B j e]at hp;obtain⟨y,b,X,T,ht⟩:=h.tail j hr hp;refine⟨y,b,?_,?_,?_⟩
   .rw[J7 e,X,Option.map_some,Wg ht.running]
   .by_cases e0:i=0
    .subst e0;rcases f with f|f|f
     .exact absurd rfl f
     .rw[f];exact T
     .exact absurd (f j e) hp
    .rw[B 0 (Ne.symm e0)];exact T
   simp_all
 .intro j G;rw[Jp]at G;have e:j≠i:=O1
  rw[z j e,hD j e];obtain⟨a1,a2,a3⟩:=h.above j G;grind
 .intro j hr;by_cases e:j=i
  .simp_all
  .rw[B j e];rw[z j e]at hr;exact h.bare j hr
 .intro j h0 hr;by_cases e:j=i
  .subst e;obtain⟨r,Z⟩:=Option.ne_none_iff_exists'.1 hr;simp_all
  .rw[B j e];rw[z j e]at hr;exact h.wk j h0 hr
 .intro j hw;by_cases e:j=i
  .simp_all
  .rw[B j e]at hw;rw[z j e];exact h.wk' j hw
 .intro j hr;by_cases e:j=i
  .subst e;obtain⟨r,Z⟩:=Option.ne_none_iff_exists'.1 hr;simp_all
  .rw[B j e,hD j e];rw[z j e]at hr;exact h.deaf j hr
 .by_cases e:j=i
  .simp_all
  .unfold Q3;rw[B j e];rw[z j e]at G;exact h.bareM j G
end
def WL:Nat->(Nat->Nat)->Nat
 |0,_=>0
 |n+1,f=>WL n f+f n
theorem IX{f b:Nat->Nat}:∀{n:Nat},(∀j,j<n->b j=f j)->WL n b=WL n f
 |0,_=>rfl
 |n+1,h=>by simp only[WL,IX (n:=n) λ j e=>h j O1,h n O1]
def UC{f b:Nat->Nat}{i:Nat}:∀{n:Nat},i<n->(∀j,j<n->j≠i->b j=f j)->b i<f i->WL n b<WL n f
 |0,z,_,_=>O1
 |n+1,z,h,w=>by
  by_cases e:i=n
  .grind[WL,IX]
  .have:=UC (n:=n) O1 (λ j E B=>h j O1 B) w;grind[WL]
def left(rk:Nat->Option Tr)(q:Nat->Nat)(i:Nat):Nat:=if(rk i).isSome then 0 else q i
def Dj{f:Nat->Nat}(h:∀j,f j<=1):∀n,WL n f<=n
 |0=>Nat.le_refl _
 |n+1=>by have:=Dj h n;have:=h n;simp only[WL];omega
def PD(gs:Array Gr)(i:Nat):Nat:=if(gs[i]?).any (·.status==.running)then 1 else 0
def vU(gs:Array Gr)(i:Nat):PD gs i<=1:=by grind[PD]
def SP(gs:Array Gr):Nat:=WL gs.size (PD gs)
def qm(gs:Array Gr):SP gs<=gs.size:=Dj (vU gs) _
def QI(gs:Array Gr)(rk:Nat->Option Tr)(q:Nat->Nat):List Tr×Nat:=(JS gs.size rk,(gs.size+1)*WL gs.size (left rk q)+SP gs)
def Ic{gs b:Array Gr}{rk:Nat->Option Tr}{q q':Nat->Nat}{i:Nat}(B:b.size=gs.size)(h:i<gs.size)(z:rk i=none)(E:∀j,j≠i->q' j=q j)(e:q' i<q i):JD (QI b rk q') (QI gs rk q):=by
 unfold QI;rw[B];refine JD.num ?_;have f:WL gs.size (left rk q')<WL gs.size (left rk q):=UC h (λ j _ w=>by simp[left,E j w]) (by simp[left,z,e]);have G:=qm b;have F:=Nat.mul_le_mul_left (gs.size+1) f;grind
theorem km{gs:Array Gr}{rk:Nat->Option Tr}{q:Nat->Nat}{i:Nat}{g g':Gr}(f:gs[i]?=some g)(z:g.status=.running)(w:g'.status=.blocked):JD (QI (gs.setIfInBounds i g') rk q) (QI gs rk q):=by
 have b:=(Array.getElem?_eq_some_iff.1 f).1;unfold QI;have e:(gs.setIfInBounds i g').size=gs.size:=S1
 rw[e];refine JD.num (Nat.add_lt_add_left ?_ _);unfold SP;rw[e];refine UC b (λ j _ h=>?_) ?_
 .unfold PD;rw[Array.getElem?_setIfInBounds_ne (Ne.symm h)]
 grind[PD]
section
variable{W R W' R':Hd->Loc->Prop}{rel:Nat->Option Nat}{blk mb rm:Option Nat}{act wk:Nat->Prop}{size size' i:Nat}{t:Trace}{fn:FuncId}{pos:String}{es:Array Event}
def TI.events(h:TI W R rel blk mb rm act wk size t)(H:size<=size')(B:∀e∈es,(MemAct.ofEvent e).low size')(G:∀e∈es,∀a,MemAct.ofEvent e≠.mark (.release a))
  (E:∀j a,touchAt t j=some a->∀e∈es,∀b,(MemAct.ofEvent e).touch?=some b->∀said,a.conflicts said b->Knows t i j)
  (L:∀k l,W' k l->W k l\/(k=.run i/\Loc.newN size l)) (I:∀k l,R' k l->R k l\/(k=.run i/\Loc.newN size l))
  (z:∀e∈es,∀a,(MemAct.ofEvent e).touch?=some a->∀k,k≠.run i->¬W k a.loc/\(a.write=true->¬R k a.loc))
  (F:∀e∈es,∀a,(MemAct.ofEvent e).touch?=some a->JG blk a.loc->a.kind≠.plain/\(a.kind=.said->i=0)) (K:∀e∈es,∀a,(MemAct.ofEvent e).touch?=some a->JG mb a.loc->a.kind=.atomic)
  (w:i=0\/wk i\/∀j,t.size<=j->¬(t++MemOp.ofEvents i fn pos es).counts j) :
  TI W' R' rel blk mb rm act wk size' (t++MemOp.ofEvents i fn pos es):=by
 refine h.step H ?_ ?_ ?_ ?_ L I ?_ ?_ ?_ w
 .intro op hop;obtain⟨e,_,rfl⟩:=Go.Conc.mem_ofEvents hop;rfl
 .intro op hop;obtain⟨e,f,rfl⟩:=Go.Conc.mem_ofEvents hop;exact B e f
 .intro op hop;obtain⟨e,f,rfl⟩:=Go.Conc.mem_ofEvents hop;exact G e f
 .intro j a ha op hop;obtain⟨e,f,rfl⟩:=Go.Conc.mem_ofEvents hop;exact E j a ha e f
 .intro op hop;obtain⟨e,f,rfl⟩:=Go.Conc.mem_ofEvents hop;exact z e f
 .intro op hop;obtain⟨e,f,rfl⟩:=Go.Conc.mem_ofEvents hop;exact F e f
 grind[Go.Conc.mem_ofEvents]
def Sy(e:Event):Prop:=(MemAct.ofEvent e).touch?=none/\(∀n,(MemAct.ofEvent e).low n)/\∀a,MemAct.ofEvent e≠.mark (.release a)
def G_{e:Event}(h:e.mute=true):Sy e:=by
 obtain⟨loc,wr,b⟩:=e;cases loc <;> simp[Event.mute]at h;rename_i m;cases m <;> simp at h <;> exact⟨rfl,λ _=>trivial,λ _ h=>by cases h⟩
def TI.dumb(h:TI W R rel blk mb rm act wk size t)(w:∀e∈es,Sy e):TI W R rel blk mb rm act wk size (t++MemOp.ofEvents i fn pos es):=by
 refine h.events (Nat.le_refl _) (λ e h=>(w e h).2.1 _) (λ e h=>(w e h).2.2) (λ j a _ e h b E=>?_) (λ _ _=>.inl) (λ _ _=>.inl) (λ e h a f=>?_) (λ e h a f=>?_) (λ e h a f=>?_) ?_
 .rw[(w e h).1]at E;cases E
 .rw[(w e h).1]at f;cases f
 .rw[(w e h).1]at f;cases f
 .rw[(w e h).1]at f;cases f
 .refine .inr (.inr λ j I G=>?_);obtain⟨x,F,_⟩:=G;rcases Jl (t:=t) F with⟨H,_⟩|⟨_,op,B,z,_⟩
  .omega
  .obtain⟨e,he',rfl⟩:=Go.Conc.mem_ofEvents B;rw[(w e he').1]at z;cases z
end
section
variable{V:Hd->Qa Tk}{rel:Nat->Option Nat}{blk mb rm:Option Nat}{act wk:Nat->Prop}{i:Nat}{tr:Trace}{w w':World}{fn:FuncId}{pos:String}{es:Array Event}{U':Qa Tk}
def SZ{U:Qa Tk}{e:Event}(h:JT U w e)(B:H3 w' e):Sy e \/
  ((∃x,(MemAct.ofEvent e).touch?=some x/\x.kind=.plain/\x.loc=e.loc/\(x.write=true->U.canW e.loc\/Loc.new w e.loc)/\(U.canR e.loc\/Loc.new w e.loc))/\(MemAct.ofEvent e).low w'.heap.size/\∀a,MemAct.ofEvent e≠.mark (.release a)):=by
 obtain⟨loc,wr,G⟩:=e;cases loc with
 |cell a=>
  obtain⟨z,f⟩:=h;simp only at z f;subst z;refine .inr ⟨⟨_,rfl,rfl,rfl,λ E=>?_,?_⟩,B,λ _ h=>by cases h⟩
  .simp_all
  .cases wr
   .simpa using f
   .simp only[if_true]at f;grind[Zx,id]
 |obj b=>
  obtain⟨z,f⟩:=h;simp only at z f;subst z;have F:MemAct.ofEvent ⟨.obj b,wr,false⟩=.access ⟨.obj b,wr,false⟩:=by cases wr <;> rfl
  rw[F];refine .inr ⟨⟨_,rfl,rfl,rfl,λ E=>?_,?_⟩,B,λ _ h=>by cases h⟩
  .simp_all
  .cases wr
   .simpa using f
   .simp only[if_true]at f;grind[Zx,id]
 |mark m=>
  have h:Mark.still m=true:=h;left;cases m <;> simp[Mark.still]at h <;> exact⟨rfl,λ _=>trivial,λ _ h=>by cases h⟩
 |output=>exact h.elim
 |goroutines=>exact h.elim
def Sf{l:Loc}(h:Loc.new w l):Loc.newN w.heap.size l:=by cases l <;> exact h
def Ee(h:TI (λ k=>(V k).canW) (λ k=>(V k).canR) rel blk mb rm act wk w.heap.size tr)(L:VI V w)(hb:∀b,blk=some b->b<w.heap.size/\QL b (V (.run i)))(hm:∀b,mb=some b->b<w.heap.size/\QL b (V (.run i)))
  (B:∀e∈es,JT (V (.run i)) w e/\H3 w' e) (P:ZU (V (.run i)) w w' U') (hi:i=0\/wk i) :
  TI (λ k=>(Q2 V (.run i) U' k).canW) (λ k=>(Q2 V (.run i) U' k).canR) rel blk mb rm act wk w'.heap.size (tr++MemOp.ofEvents i fn pos es):=by
 have key:∀e∈es,∀x,(MemAct.ofEvent e).touch?=some x->x.kind=.plain/\(x.write=true->(V (.run i)).canW x.loc\/Loc.new w x.loc)/\((V (.run i)).canR x.loc\/Loc.new w x.loc):=by
  intro e z x N;rcases SZ (B e z).1 (B e z).2 with G|⟨⟨y,hy,M,F,f,h4⟩,_⟩
  .rw[G.1]at N;cases N
  .simp_all
 refine h.events P.size ?_ ?_ ?_ ?_ ?_ ?_ ?_ ?_ (hi.imp id .inl)
 .intro e z;rcases SZ (B e z).1 (B e z).2 with G|⟨_,G,_⟩
  .exact G.2.1 _
  .exact G
 .intro e z;rcases SZ (B e z).1 (B e z).2 with G|⟨_,_,G⟩
  .exact G.2.2
  .exact G
 .intro j a ha e z b hb' said hc;obtain⟨M,F,f⟩:=key e z b hb'
  have X:¬Loc.new w a.loc:=by
   obtain⟨x,N,S⟩:=touch_of ha;exact λ K=>IZ (h.low x (Array.mem_of_getElem? N)) S (Sf K)
  obtain⟨T,_,aa,_⟩:=hc;rw[<- T]at F f;refine h.known (.run i) j a ha ?_;grind
 .intro k l hl;by_cases e:k=.run i
  .subst e;simp only[Ql]at hl;exact(P.cw l hl).imp id λ K=>⟨rfl,Sf K⟩
  grind[Qh]
 .intro k l hl;by_cases e:k=.run i
  .subst e;simp only[Ql]at hl;exact(P.cr l hl).imp id λ K=>⟨rfl,Sf K⟩
  grind[Qh]
 .intro e z a ha k hk;obtain⟨M,F,f⟩:=key e z a ha;refine⟨λ Y=>?_,λ W Z=>?_⟩
  .rcases f with f|f
   .exact L.sep k (.run i) _ hk Y f
   .exact VE (L.ok k) (Zx Y) f
  .rcases F W with F|F
   .exact L.sep (.run i) k _ (Ne.symm hk) F Z
   .exact VE (L.ok k) Z F
 .intro e z a ha hib;exfalso;obtain⟨M,F,f⟩:=key e z a ha;obtain⟨loc,wr,kd⟩:=a;cases loc <;> simp only[JG]at hib;rename_i Q;obtain⟨H,E⟩:=hib;obtain⟨U,I⟩:=hb _ H;rcases f with f|f
  .exact I Q rfl E f
  grind[Loc.new]
 .intro e z a ha hib;exfalso;obtain⟨M,F,f⟩:=key e z a ha;obtain⟨loc,wr,kd⟩:=a;cases loc <;> simp only[JG]at hib;rename_i Q;obtain⟨H,E⟩:=hib;obtain⟨U,I⟩:=hm _ H;rcases f with f|f
  .exact I Q rfl E f
  grind[Loc.new]
def V9(b:Nat)(parent:Bool)(e:Event):Prop:=
 Event.mute e=true\/(∃o wr,o<2/\e=⟨.cell ⟨b,o,none⟩,wr,true⟩)\/(parent=true/\∃o wr,o<2/\e=Z2 (bif wr then .write ⟨b,o,none⟩else .read ⟨b,o,none⟩))
def FM{b:Nat}(h:TI (λ k=>(V k).canW) (λ k=>(V k).canR) rel (some b) mb rm act wk w.heap.size tr)(L:b<w.heap.size)(K:∀k,QL b (V k))(G:act i)
  (M:∀e∈es,V9 b (i==0) e) (N:mb≠some b) (S:i=0\/wk i\/∀j,tr.size<=j->¬(tr++MemOp.ofEvents i fn pos es).counts j) :
  TI (λ k=>(V k).canW) (λ k=>(V k).canR) rel (some b) mb rm act wk w.heap.size (tr++MemOp.ofEvents i fn pos es):=by
 have key:∀e∈es,(MemAct.ofEvent e).low w.heap.size/\(∀a,MemAct.ofEvent e≠.mark (.release a))/\∀x,(MemAct.ofEvent e).touch?=some x->(∃o,o<2/\x.loc=.cell ⟨b,o,none⟩)/\(x.kind=.atomic\/(x.kind=.said/\i=0)):=by
  intro e f;rcases M e f with T|⟨o,wr,K,rfl⟩|⟨U,o,wr,K,rfl⟩
  .have:=G_ T;exact⟨this.2.1 _,this.2.2,λ x E=>by rw[this.1]at E;cases E⟩
  .refine⟨L,λ _ h=>(by cases h),λ x E=>?_⟩;cases E;simp_all
  .have I:i=0:=by simpa using U
   cases wr
   .refine⟨L,λ _ h=>(by cases h),λ x E=>?_⟩;cases E;simp_all
   .refine⟨L,λ _ h=>(by cases h),λ x E=>?_⟩;cases E;simp_all
 refine h.events (Nat.le_refl _) (λ e f=>(key e f).1) (λ e f=>(key e f).2.1) ?_ (λ _ _=>.inl) (λ _ _=>.inl) ?_ ?_ ?_ S
 .intro j a ha e f x E said hc;obtain⟨⟨o,B,H⟩,P⟩:=(key e f).2.2 x E;obtain⟨Q,_,_,F⟩:=hc;have z:JG (some b) a.loc:=by rw[Q,H];exact⟨rfl,B⟩
  rcases F with F|F|⟨_,F,Y⟩
  .exact h.grpP j a ha z F i G
  .simp_all
  .rcases P with P|⟨_,I⟩
   .simp_all
   .subst I;exact h.grpS j a ha z F
 .intro e f a ha k _;obtain⟨⟨o,B,H⟩,_⟩:=(key e f).2.2 a ha;rw[H];exact⟨λ W=>K k _ rfl B (Zx W),λ _ X=>K k _ rfl B X⟩
 .grind
 .intro e f a ha z;obtain⟨⟨o,B,H⟩,_⟩:=(key e f).2.2 a ha;rw[H]at z;exact absurd z.1 N
def vp{m:Nat}(h:TI (λ k=>(V k).canW) (λ k=>(V k).canR) rel blk (some m) rm act wk w.heap.size tr)(P:m<w.heap.size)(K:∀k,QL m (V k))(G:act i)
  (L:∀e∈es,GL m e) (I:blk≠some m) (S:wk i) :
  TI (λ k=>(V k).canW) (λ k=>(V k).canR) rel blk (some m) rm act wk w.heap.size (tr++MemOp.ofEvents i fn pos es):=by
 have key:∀e∈es,(MemAct.ofEvent e).low w.heap.size/\(∀a,MemAct.ofEvent e≠.mark (.release a))/\∀x,(MemAct.ofEvent e).touch?=some x->(∃o,o<2/\x.loc=.cell ⟨m,o,none⟩)/\x.kind=.atomic:=by
  intro e b;rcases L e b with T|⟨o,wr,K,rfl⟩
  .have:=G_ T;exact⟨this.2.1 _,this.2.2,λ x E=>by rw[this.1]at E;cases E⟩
  .refine⟨P,λ _ h=>(by cases h),λ x E=>?_⟩;cases E;exact⟨⟨o,K,rfl⟩,rfl⟩
 refine h.events (Nat.le_refl _) (λ e b=>(key e b).1) (λ e b=>(key e b).2.1) ?_ (λ _ _=>.inl) (λ _ _=>.inl) ?_ ?_ ?_ (.inr (.inl S))
 .intro j a ha e b x E said hc;obtain⟨⟨o,f,H⟩,N⟩:=(key e b).2.2 x E;obtain⟨Q,_,_,B⟩:=hc;have z:JG (some m) a.loc:=by rw[Q,H];exact⟨rfl,f⟩
  by_cases F:a.kind=.atomic
  .exfalso;rcases B with B|B|⟨_,B,M⟩
   .rw[F]at B;cases B
   .rw[N]at B;cases B
   .rw[N]at M;cases M
  .exact h.grpM j a ha z F i G
 .intro e b a ha k _;obtain⟨⟨o,f,H⟩,_⟩:=(key e b).2.2 a ha;rw[H];exact⟨λ U=>K k _ rfl f (Zx U),λ _ W=>K k _ rfl f W⟩
 .intro e b a ha z;obtain⟨⟨o,f,H⟩,_⟩:=(key e b).2.2 a ha;rw[H]at z;exact absurd z.1 I
 grind
def VO{b:Nat}(z:∀e∈es,Event.mute e=true\/∃o wr,e=⟨.cell ⟨b,o,none⟩,wr,true⟩)(L:∀j,j<es.size->deafBehind (Deaf tr i) (es.extract 0 j)≠0) :
  ∀j,tr.size<=j->¬(tr++MemOp.ofEvents i fn pos es).counts j:=by
 intro j K F;obtain⟨x,I,_,h⟩:=F;rcases Jl (t:=tr) I with⟨H,_⟩|⟨_,op,w,f,G⟩
 .omega
 .obtain⟨e,he,rfl⟩:=Go.Conc.mem_ofEvents w;rcases z e he with E|⟨o,wr,rfl⟩
  .rw[(G_ E).1]at f;cases f
  .cases f;rcases h with h|⟨g,B,h⟩
   .exact h rfl
   .have hgi:g=i:=by
     simp only[Trace.g?,G,Option.map_some,Option.some.injEq]at B;exact B.symm
    grind[lt_size_of_getElem?,MemOp.ofEvents,ofEvents_eq,Array.size_append,Nat.exists_eq_add_of_le,deaf_inside]
end
section
variable{P:Program}{t:TypeId}{N:Nat}{Stop:QJ Tk}{gs:Array Gr}{w:World}{tr:Trace}{V V':Hd->Qa Tk}{rk:Nat->Option Tr}{rel:Nat->Option Nat}{q:Nat->Nat}
def QK.turn(h:QK t N gs w V rel)(e:∀j,(V' (.run j)).tok=(V (.run j)).tok)(L:∀j,V' (.dep j)=V (.dep j))(z:∀k l,(V' k).canR l->(V k).canR l):QK t N gs w V' rel:=by
 have K:Z3 V'=Z3 V:=by funext j;simp only[Z3,e]
 unfold QK at h ⊢;rw[e 0]
 revert h
 cases(V (.run 0)).tok.ph with
 |out=>simp_all
 |par b ds pend k=>
  rintro⟨f,W,c,wt,s,F,I,G⟩;refine⟨λ j a H E B=>f j a H E (z _ _ B),W,c,wt,s,F,?_,G⟩;simp_all
 |_=>exact λ h=>h
def TI.tok{rel:Nat->Option Nat}{rm:Option Nat}{size:Nat}(h:TI (λ k=>(V k).canW) (λ k=>(V k).canR) rel (V (.run 0)).tok.ph.blk (Jy V) rm (λ i=>i=0\/(V (.run i)).tok.ph≠.out) (λ i=>ZO (V (.run i)).tok.ph) size tr)
  (e:∀j,(V' (.run j)).tok=(V (.run j)).tok) (f:∀k l,(V' k).canW l->(V k).canW l) (w:∀k l,(V' k).canR l->(V k).canR l) :
  TI (λ k=>(V' k).canW) (λ k=>(V' k).canR) rel (V' (.run 0)).tok.ph.blk (Jy V') rm (λ i=>i=0\/(V' (.run i)).tok.ph≠.out) (λ i=>ZO (V' (.run i)).tok.ph) size tr:=by
 have b:Jy V'=Jy V:=by simp only[Jy,Q3,e]
 rw[b];simp only[e];exact h.turn f w λ _ h=>h
def Sh.ne{b m:Nat}{t f:TypeId}{c wt a:Nat}{sm sm':Value}{w:World}(h:Sh b t (Q1 c wt) sm w)(k:Sh m f (Zc a) sm' w):m≠b:=by
 rintro rfl;have e:some (Obj.cells #[Q1 c wt,sm] t (0,0))=some (Obj.cells #[Zc a,sm'] f (0,0)):=h.symm.trans k;simp[Q1,Zc]at e
def Sh.two_other{b m:Nat}{t e:TypeId}{st sm x y:Value}{w:World}(k:Sh m e st sm w)(h:m≠b):Sh m e st sm (TM.two w b t x y):=by
 simp_all[Sh,TM.two,Array.getElem?_setIfInBounds_ne,Ne.symm]
def JK.mb(h:JK gs w V){m:Nat}(b:Jy V=some m):m<w.heap.size/\(∀j,QL m (V j))/\∃t st sm,Sh m t (Zc st) (Qq sm) w:=by
 obtain⟨-,-,f⟩:=h;unfold Jy at b;cases e:Q3 V 0 with
 |none=>rw[e]at b;cases b
 |some mu=>
  rw[e]at b f;cases mu with
  |lok=>exact f.elim
  |par x u=>
   cases b;obtain⟨B,E,st,sm,z⟩:=f;exact⟨(Array.getElem?_eq_some_iff.1 z.sh).1,B,_,_,_,z.sh⟩
def JK.mb_ne(h:JK gs w V){b c wt:Nat}{t:TypeId}{s:Value}(f:Sh b t (Q1 c wt) s w):Jy V≠some b:=λ e=>by
 obtain⟨-,-,_,_,_,k⟩:=h.mb e;exact f.ne k rfl
theorem JK.step{i:Nat}{g g':Gr}{w' f:World}(h:JK gs w V)(G:gs[i]?=some g)(E:∀x s me lo,Q3 V i=some (.lok x s me lo)->g'.status=.running)(I:∀i,Q3 V' i=Q3 V i)(H:V' .lck=V .lck)
  (b:∀m,(∀j,QL m (V j))->m<w.heap.size->∀j,QL m (V' j)) (z:∀m t st sm,(∀j,QL m (V j))->Sh m t (Zc st) (Qq sm) w->Sh m t (Zc st) (Qq sm) w'):JK (behind P gs i g g' f) w' V':=by
 refine h.at I H b z λ j x s me lo y e F K=>?_;by_cases B:j=i
 .subst B;rw[Wl G]at F;grind
 .rw[J7 B]at F;grind[Wg]
theorem MI.shift{i:Nat}{r:Tr}{z:Qa Tk}(h:MI P t N Stop none gs w tr V rk rel q)(X:rk i=some r)(G:Qw (V (.run i)) z):MI P t N Stop (some i) gs w tr (Q2 V (.run i) z) rk rel q:=by
 have B:∀j,j≠i->Q2 V (.run i) z (.run j)=V (.run j):=λ j b=>Qh _ _ S2
 have f:∀j,(Q2 V (.run i) z (.run j)).tok=(V (.run j)).tok:=by
  intro j;by_cases e:j=i
  .subst e;rw[Ql];exact G.1
  .rw[B j e]
 have I:∀j,Q2 V (.run i) z (.dep j)=V (.dep j):=λ j=>Qh _ _ S1;obtain⟨U,W,E⟩:=G.2 w (h.vi.ok (.run i))
 have T:∀k l,(Q2 V (.run i) z k).canW l->(V k).canW l:=by
  intro k l K;by_cases e:k=.run i
  .grind[Ql]
  .grind[Qh]
 have F:∀k l,(Q2 V (.run i) z k).canR l->(V k).canR l:=by
  intro k l K;by_cases e:k=.run i
  .grind[Ql]
  .grind[Qh]
 refine⟨?_,h.root,?_,?_,h.above,?_,?_,?_,?_,?_,h.vi.shift G,h.ti.imp λ _ x=>x.tok f T F,h.grp.turn f I F,h.mux.at (λ j=>by simp only[Q3,f]) (Qh _ _ S1) (λ m L _ j a S M E=>L j a S M (F _ _ E)) (λ _ _ _ _ _ x=>x) (λ j x s me lo y _ Q H=>⟨y,Q,H⟩),λ j b=>by simp only[Q3,f];exact h.bareM j b⟩
 .intro j r' b hr';have e:j≠i:=λ e=>b (by rw[e]);have:=h.live j r' S1 hr';simp_all
 .intro j g b hg hp;rw[f]at hp;exact h.gone j g b hg hp
 .intro j b hp;rw[f]at hp;simp only[f];exact h.tail j b hp
 .intro j b;have e:j≠i:=λ e=>S2
  rw[B j e];exact h.bare j b
 .intro j h0 b;rw[f];exact h.wk j h0 b
 .intro j b;rw[f]at b;exact h.wk' j b
 .intro j b;rw[f];exact h.deaf j b
 .intro j b;rw[I];exact h.deps j b
def JP(P:Program)(t:TypeId)(N:Nat)(Stop:QJ Tk)(gs:Array Gr)(w:World)(sl:Option (Nat×Nat))(tr:Trace)(rk:Nat->Option Tr)(q:Nat->Nat)(i:Nat):Prop:=
 ∃b w' ops V' rk' rel' q',runT P (crowd gs w sl) i=(.next (crowd b w' sl),ops)/\MI P t N Stop none b w' (tr++ops) V' rk' rel' q'/\JD (QI b rk' q') (QI gs rk q)/\WK w.os w'.os/\w'.output=w.output
variable{sl:Option (Nat×Nat)}
def XI{b:Array Gr}{q':Nat->Nat}{i:Nat}{r:Tr}{x:Option Tr}(z:b.size=gs.size)(f:i<gs.size)(w:rk i=some r)(h:∀e,x=some e->Tr.Sub e r):JD (QI b (Zp rk i x) q') (QI gs rk q):=by
 grind[QI,JD.cut,Rh]
def MI.priv(z:∀m g U,Stop m g U->g.status=.running){i:Nat}{g:Gr}{r:Tr}(h:MI P t N Stop (some i) gs w tr V rk rel q)(S:gs[i]?=some g)(hr:rk i=some r)
  (hp:G8 P (λ m g U=>∃Y,Tr.Sub Y r/\JR (Zb P t N) Stop Y m g U) (i==0) g (V (.run i))):JP P t N Stop gs w sl tr rk q i:=by
 have af:=(Array.getElem?_eq_some_iff.1 S).1;obtain⟨hs,hp⟩:=hp;obtain⟨g',w',es,U',ad,T,F,ae,G,Y,ag,hJ⟩:=hp w (h.vi.ok (.run i))
 have H:deafBehind (Deaf tr i) es=Deaf tr i:=by
  refine deafBehind_still (λ e he=>?_) _;obtain⟨he,_⟩:=T e he;obtain⟨loc,wr,sy⟩:=e;cases loc with
  |mark m=>have he:Mark.still m=true:=he;grind[Mark.still]
  |_=>simp
 have M:∀j,j≠i->Q2 V (.run i) U' (.run j)=V (.run j):=λ j hj=>Qh _ _ S2
 have X:∀j,(Q2 V (.run i) U' (.run j)).tok=(V (.run j)).tok:=by
  intro j;by_cases e:j=i
  .subst e;rw[Ql];exact G
  .rw[M j e]
 have hd:∀j,Q2 V (.run i) U' (.dep j)=V (.dep j):=λ j=>Qh _ _ S1;have Z:rk i≠none:=by rw[hr];simp
 have ac:i=0\/ZO (V (.run i)).tok.ph:=by
  by_cases e:i=0
  .exact .inl e
  .exact .inr (h.wk i e Z)
 have ah:Jy (Q2 V (.run i) U')=Jy V:=by simp only[Jy,Q3,X]
 have B:∀b,(V (.run 0)).tok.ph.blk=some b->b<w.heap.size/\∀j,QL b (V j):=by
  intro b E;have I:=h.grp;unfold QK at I
  revert I E
  cases(V (.run 0)).tok.ph with
  |out=>intro E;cases E
  |par b' ds pend k=>
   intro E;cases E;rintro⟨Q,W,c,wt,s,h2,_⟩;exact⟨(Array.getElem?_eq_some_iff.1 h2).1,Q⟩
  |_=>simp_all
 refine⟨_,w',_,Q2 V (.run i) U',Zp rk i (some Y),rel,q,runT_crowd_go S ad,?_,XI Jp af hr λ aa e=>S2,F.os,F.output⟩;refine h.go z (V':=Q2 V (.run i) U') (rk':=Zp rk i (some Y)) (rel':=rel) (q':=q) (es:=es) S M (λ j hj=>Qv _ _ hj) (λ _ _=>rfl) (λ _ _=>.inl rfl) ?_ (.inr (.inl (by rw[X]))) ?_ ?_ (λ j hj=>by rw[hd];exact h.deps j hj) (h.vi.priv F ae) ?_ ?_ ?_ (λ e=>by grind[Qj])
 .by_cases e:i=0
  .grind[Qj]
  .rw[Qv _ _ (Ne.symm e)];exact h.root
 .intro aa e;rw[Qj]at e;cases e;rw[Ql];refine⟨hJ,?_,λ h0=>?_⟩
  .rw[H,G];exact h.deaf i Z
  simp_all
 .grind[Qj]
 .obtain⟨rm,hti⟩:=h.ti;have:=Ee (fn:=g.frame.fn) (pos:=g.frame.place) hti h.vi (λ b E=>⟨(B b E).1,(B b E).2 _⟩) (λ b E=>⟨(h.mux.mb E).1,(h.mux.mb E).2.1 _⟩) T F ac;refine⟨rm,?_⟩;simp_all
 .have I:=h.grp;unfold QK at I ⊢;rw[X 0];have hk:Z3 (Q2 V (.run i) U')=Z3 V:=by funext j;simp only[Z3,X]
  revert I
  cases ab:(V (.run 0)).tok.ph with
  |out=>simp_all
  |par b ds pend k=>
   rintro⟨Q,W,c,wt,s,h2,h3,h4⟩;obtain⟨aj,_⟩:=B b (by rw[ab];rfl);refine⟨λ j a K L f=>?_,W,c,wt,s,h2.guar F (Q _),?_,?_⟩
   .by_cases e:j=.run i
    .subst e;rw[Ql]at f;rcases F.cr _ f with f|f
     .exact Q _ a K L f
     grind[Loc.new]
    .rw[Qh _ _ e]at f;exact Q _ a K L f
   .simp_all
   .intro g0 hg0 hns;by_cases e:i=0
    .subst e;rw[Wl S]at hg0;cases hg0;exact absurd (hJ.running z) hns
    .rw[J7 (Ne.symm e)]at hg0;grind[Wg]
  |_=>exact λ I=>I
 .refine h.mux.step S (λ _ _ _ _ _=>hJ.running z) (λ j=>by simp only[Q3,X]) (Qh _ _ S1) (λ m hm ai j a K L f=>?_) (λ m t st sm hm hs=>hs.guar F (hm _));by_cases e:j=.run i
  .subst e;rw[Ql]at f;rcases F.cr _ f with f|f
   .exact hm _ a K L f
   grind[Loc.new]
  .rw[Qh _ _ e]at f;exact hm _ a K L f
theorem QK.woken{i:Nat}{g g':Gr}{w':World}(z:gs[i]?=some g)(b:i=0->g'.status=.running){s:Nat}(h:∀g,gs[0]?=some g->g.status≠.running->s=0) :
  ∀x,(behind P gs i g g' w')[0]?=some x->x.status≠.running->s=0:=by
 intro x f w;by_cases e:i=0
 .grind[Wl,absurd]
 .rw[J7 (Ne.symm e)]at f;grind[Wg]
def MI.leaver(F:∀m g U,Stop m g U->g.status=.running){i:Nat}{g:Gr}(h:MI P t N Stop none gs w tr V rk rel q)(G:gs[i]?=some g)(f:g.status=.running)(z:rk i=none)(Y:(V (.run i)).tok.ph=.out) :
  JP P t N Stop gs w sl tr rk q i:=by
 have Q:=(Array.getElem?_eq_some_iff.1 G).1;have B:i≠0:=λ e=>by subst e;exact h.root z
 have I:=h.gone i g z G Y;cases E:q i with
 |zero=>rw[E]at I;rw[I.1]at f;cases f
 |succ n=>
  rw[E]at I;rcases I with⟨hs,_⟩|⟨_,g',es,L,S,I⟩
  .simp_all
  have H:stepG P (i==0) g w=.go g' w es:=by
   rw[show(i==0)=false by simpa using B];exact S w
  have h':MI P t N Stop (some i) gs w tr V rk rel q:={ h with live:=λ j r _ z=>h.live j r S1 z };refine⟨_,w,_,V,rk,rel,Zp q i n,runT_crowd_go G H,?_,Ic (i:=i) Jp Q z (λ j M=>Qv _ _ M) (by rw[Qj,E];omega),.refl _,rfl⟩;refine h'.go F (V':=V) (rk':=rk) (rel':=rel) (q':=Zp q i n) (es:=es) G (λ _ _=>rfl) (λ _ _=>rfl) (λ j M=>Qv _ _ M) (λ _ _=>.inl rfl) h.root (.inl B) (λ r e=>S2) ?_ h.deps h.vi ?_ ?_ (h.mux.step G (λ x s me lo e=>absurd e ?_) (λ _=>rfl) rfl (λ _ L _=>L) λ _ _ _ _ _ x=>x) (h.bareM i)
  .intro _;obtain⟨b1,b2⟩:=h.bare i z;grind[ZO,Qj]
  .exact h.ti.imp λ _ x=>x.dumb λ e T=>G_ (L e T)
  .have K:=h.grp;unfold QK at K ⊢
   revert K
   cases(V (.run 0)).tok.ph with
   |par b ds pend k=>exact λ⟨X,W,c,wt,s,h2,h3,Z⟩=>⟨X,W,c,wt,s,h2,h3,QK.woken G (λ e=>absurd e B) Z⟩
   |_=>exact λ K=>K
  .rw[h.bareM i z];simp
def MI.parent(F:∀m g U,Stop m g U->g.status=.running){g g':Gr}{r r':Tr}{d d' b:Nat}{ds z:List Spec}{pend f:Bool}{k k':PS}{W:List Nat}{c wt s S wt' X:Nat}{es:Array Event}{bs:List (Nat×Bool)}{mu:Option ZS}
  (h:MI P t N Stop (some 0) gs w tr V rk rel q) (hi:gs[0]?=some g) (I:rk 0=some r) (B:(V (.run 0)).tok=⟨d,.par b ds pend k,mu⟩)
  (G:∀j,QL b (V j)) (E:Sh b t (Q1 c wt) (Qq s) w)
  (ae:Qc P t true g (Q1 c wt) (Qq s)=.go g' (Q1 S wt') (Qq X) es bs) (ag:Z8 b bs) (af:∀e∈es,V9 b true e) (hd:deafBehind d es=d')
  (ad:GI N b z f k' (Z3 V) rel (λ i=>(V (.dep i)).M) W S wt' X) (ai:Tr.Sub r' r) (hJ:JR (Zb P t N) Stop r' true g' ((V (.run 0)).at d' (.par b z f k'))) :
  JP P t N Stop gs w sl tr rk q 0:=by
 have ah:=(Array.getElem?_eq_some_iff.1 hi).1;have Q:=hJ.running F;have Y:stepG P (0==0) g w=.go g' (two w b t (Q1 S wt') (Qq X)) es:=HD ae E ag;have H:∀j,j≠0->Q2 V (.run 0) ((V (.run 0)).at d' (.par b z f k')) (.run j)=V (.run j):=λ j hj=>Qh _ _ S2;have L:∀j,Q2 V (.run 0) ((V (.run 0)).at d' (.par b z f k')) (.dep j)=V (.dep j):=λ j=>Qh _ _ S1
 have hM:∀j,(Q2 V (.run 0) ((V (.run 0)).at d' (.par b z f k')) j).canW=(V j).canW/\(Q2 V (.run 0) ((V (.run 0)).at d' (.par b z f k')) j).canR=(V j).canR:=by
  intro j;by_cases e:j=.run 0
  .subst e;rw[Ql];exact⟨rfl,rfl⟩
  .grind[Qh]
 have ac:b<w.heap.size:=(Array.getElem?_eq_some_iff.1 E).1;refine⟨_,_,_,Q2 V (.run 0) ((V (.run 0)).at d' (.par b z f k')),Zp rk 0 (some r'),rel,q,runT_crowd_go hi Y,?_,XI Jp ah I λ aa e=>S2,.refl _,rfl⟩;refine h.go F (rel':=rel) (q':=q) (es:=es) hi H (λ j hj=>Qv _ _ hj) (λ _ _=>rfl) (λ _ _=>.inl rfl) (by rw[Qj];simp) (.inr (.inl (by rw[Ql,B];rfl))) ?_ ?_ (λ j hj=>by rw[L];exact h.deps j hj) ?_ ?_ ?_ ?_ (λ e=>by grind[Qj])
 .intro aa e;rw[Qj]at e;cases e;rw[Ql];refine⟨hJ,?_,λ h0=>absurd rfl h0⟩;rw[h.deaf 0 h.root,B,hd];rfl
 .grind[Qj]
 .refine⟨λ j=>?_,λ K T l hn hw I=>h.vi.sep K T l hn (by rw[<- (hM K).1];exact hw) (by rw[<- (hM T).2];exact I)⟩;have Z:=(h.vi.two (st':=Q1 S wt') (sm':=Qq X) E G).ok;by_cases e:j=.run 0
  .subst e;rw[Ql];exact⟨(Z (.run 0)).imm,(Z (.run 0)).held,(Z (.run 0)).apart,(Z (.run 0)).sep⟩
  grind[Qh]
 .obtain⟨rm,hti⟩:=h.ti;rw[B]at hti;have:=FM (i:=0) (fn:=g.frame.fn) (pos:=g.frame.place) hti ac G (.inl rfl) af (h.mux.mb_ne E) (.inl rfl);refine⟨rm,?_⟩;have ab:Jy (Q2 V (.run 0) ((V (.run 0)).at d' (.par b z f k')))=Jy V:=by simp only[Jy,Q3,Ql];rfl
  rw[ab];have e1:(Q2 V (.run 0) ((V (.run 0)).at d' (.par b z f k')) (.run 0)).tok.ph.blk=some b:=by rw[Ql];rfl
  have e2:∀j,j=0\/(Q2 V (.run 0) ((V (.run 0)).at d' (.par b z f k')) (.run j)).tok.ph≠.out↔j=0\/(V (.run j)).tok.ph≠.out:=by
   intro j;by_cases e:j=0
   .simp[e]
   .rw[H j e]
  have e3:∀j,ZO (Q2 V (.run 0) ((V (.run 0)).at d' (.par b z f k')) (.run j)).tok.ph↔ZO (V (.run j)).tok.ph:=by
   intro j;by_cases e:j=0
   .subst e;rw[Ql,B];constructor
    .rintro⟨b,D,e⟩;cases e
    .rintro⟨b,D,e⟩;cases e
   .rw[H j e]
  rw[e1];have al:=funext λ j=>propext (e2 j);have aj:=funext λ j=>propext (e3 j);grind[two,Q1,Qq]
 .unfold QK;rw[Ql]
  have hk:Z3 (Q2 V (.run 0) ((V (.run 0)).at d' (.par b z f k')))=Z3 V:=by
   funext j;by_cases e:j=0
   .simp[Z3,e]
   .simp only[Z3,if_neg e,H j e]
  refine⟨λ j a ha ho I=>G j a ha ho (by rw[<- (hM j).2];exact I),W,S,wt',X,E.two,?_,λ x hx ak=>?_⟩
  .rw[hk];simpa only[L]using ad
  grind[Wl,absurd]
 .refine h.mux.step hi (λ _ _ _ _ _=>Q) (λ j=>?_) (Qh _ _ S1) (λ m hm _ j a ha ho I=>hm j a ha ho (by rw[<- (hM j).2];exact I)) (λ m t st sm _ hs=>hs.two_other (E.ne hs));by_cases e:j=0
  .subst e;simp only[Q3,Ql];rfl
  grind[Q3]
end
section
variable{P:Program}{t:TypeId}{N:Nat}{Stop:QJ Tk}{gs:Array Gr}{w:World}{tr:Trace}{V V':Hd->Qa Tk}{rk:Nat->Option Tr}{rel:Nat->Option Nat}{q:Nat->Nat}{sl:Option (Nat×Nat)}
def MI.par(h:MI P t N Stop none gs w tr V rk rel q){b:Nat}(f:(V (.run 0)).tok.ph.blk=some b) :
  ∃ds pend k,(V (.run 0)).tok.ph=.par b ds pend k/\(∀j,QL b (V j))/\∃W c wt s,Sh b t (Q1 c wt) (Qq s) w/\GI N b ds pend k (Z3 V) rel (λ i=>(V (.dep i)).M) W c wt s/\(∀g,gs[0]?=some g->g.status≠.running->s=0):=by
 have e:=h.grp;unfold QK at e
 revert e f
 cases z:(V (.run 0)).tok.ph with
 |out=>intro f;cases f
 |par B ds pend k=>
  intro f e;cases f;exact⟨ds,pend,k,rfl,e⟩
 |_=>intro _ e;exact e.elim
def MI.tailGo(G:∀m g U,Stop m g U->g.status=.running){i n:Nat}{g g':Gr}{b:Nat}{ds:List Spec}{pend:Bool}{k:PS}{W:List Nat}{c wt s L wt' K:Nat}{es:Array Event}{bs:List (Nat×Bool)}{p':Ph}
  (h:MI P t N Stop none gs w tr V rk rel q) (Y:gs[i]?=some g) (f:i≠0) (B:rk i=none) (aj:(V (.run i)).tok.ph≠.out) (I:(V (.run 0)).tok.ph=.par b ds pend k)
  (H:∀j,QL b (V j)) (z:Sh b t (Q1 c wt) (Qq s) w) (ai:∀g,gs[0]?=some g->g.status≠.running->s=0)
  (ak:Qc P t false g (Q1 c wt) (Qq s)=.go g' (Q1 L wt') (Qq K) es bs) (aq:Z8 b bs) (ao:∀e∈es,V9 b false e) (av:∀j,tr.size<=j->¬(tr++MemOp.ofEvents i g.frame.fn g.frame.place es).counts j)
  (aw:GI N b ds pend k (Zp (Z3 V) i p') rel (λ i=>(V (.dep i)).M) W L wt' K) (ap:K=s\/(mayWake P g=true/\(g'.status=.running\/g'.status=.finished)))
  (hq:q i=n+1) (ab:¬ZO p')
  (hk:(p'=.out/\QuitsD P n (deafBehind (Deaf tr i) es) g')\/(p'≠.out/\Tl P t N b n (deafBehind (Deaf tr i) es) p' g')):JP P t N Stop gs w sl tr rk q i:=by
 have au:=(Array.getElem?_eq_some_iff.1 Y).1
 have aa:stepG P (i==0) g w=.go g' (two w b t (Q1 L wt') (Qq K)) es:=by
  rw[show(i==0)=false by simpa using f];exact HD ak z aq
 have h':MI P t N Stop (some i) gs w tr V rk rel q:={ h with live:=λ j r _ B=>h.live j r S1 B };have E:∀j,j≠i->Q2 V (.run i) (Qa.bare ⟨1,p',none⟩) (.run j)=V (.run j):=λ j Q=>Qh _ _ S2;have ae:∀j,Q2 V (.run i) (Qa.bare ⟨1,p',none⟩) (.dep j)=V (.dep j):=λ j=>Qh _ _ S1
 have hW:∀k l,(Q2 V (.run i) (Qa.bare ⟨1,p',none⟩) k).canW l->(V k).canW l:=by
  intro k l hl;by_cases e:k=.run i
  .grind[Ql,absurd,Wk]
  .grind[Qh]
 have hR:∀k l,(Q2 V (.run i) (Qa.bare ⟨1,p',none⟩) k).canR l->(V k).canR l:=by
  intro k l hl;by_cases e:k=.run i
  .grind[Ql,absurd,Wj]
  .grind[Qh]
 have ag:b<w.heap.size:=(Array.getElem?_eq_some_iff.1 z).1;refine⟨_,_,_,Q2 V (.run i) (Qa.bare ⟨1,p',none⟩),rk,rel,Zp q i n,runT_crowd_go Y aa,?_,Ic (i:=i) Jp au B (λ j Q=>Qv _ _ Q) (by rw[Qj,hq];omega),.refl _,rfl⟩;refine h'.go G (rel':=rel) (q':=Zp q i n) (es:=es) Y E (λ _ _=>rfl) (λ j Q=>Qv _ _ Q) (λ _ _=>.inl rfl) h.root (.inl f) (λ r e=>S2) ?_ (λ j Q=>by rw[ae];exact h.deps j Q) ?_ ?_ ?_ ?_ (λ _=>by unfold Q3;rw[Ql];rfl)
 .intro _;rw[Ql,Qj];refine⟨f,rfl,rfl,ab,?_⟩;rcases hk with⟨h1,h2⟩|⟨h1,h2⟩
  .exact .inl ⟨h1,h2⟩
  .exact .inr ⟨h1,b,by rw[I];rfl,h2⟩
 .have hv:=h.vi.two (st':=Q1 L wt') (sm':=Qq K) z H;refine⟨λ j=>?_,λ ad an l hn hw B=>hv.sep ad an l hn (hW _ _ hw) (hR _ _ B)⟩;by_cases e:j=.run i
  .grind[Ql,Ki]
  .rw[Qh _ _ e];exact hv.ok j
 .obtain⟨rm,hti⟩:=h.ti;rw[I]at hti;have:=FM (i:=i) (fn:=g.frame.fn) (pos:=g.frame.place) hti ag H (.inr aj) (by rw[show(i==0)=false by simpa using f];exact ao) (h.mux.mb_ne z) (.inr (.inr av));refine⟨rm,?_⟩;have af:Jy (Q2 V (.run i) (Qa.bare ⟨1,p',none⟩))=Jy V:=by simp only[Jy,Q3,E 0 (Ne.symm f)]
  rw[af];have ah:(two w b t (Q1 L wt') (Qq K)).heap.size=w.heap.size:=by simp[two]
  rw[ah,E 0 (Ne.symm f),I]
  have e3:(λ j=>ZO (Q2 V (.run i) (Qa.bare ⟨1,p',none⟩) (.run j)).tok.ph)=λ j=>ZO (V (.run j)).tok.ph:=by
   funext j;by_cases e:j=i
   .subst e;rw[Ql];refine propext ⟨λ x=>absurd x ab,λ x=>absurd B (h.wk' j x)⟩
   .rw[E j e]
  rw[e3];refine this.turn hW hR ?_;grind
 .unfold QK;rw[E 0 (Ne.symm f),I]
  have ax:Z3 (Q2 V (.run i) (Qa.bare ⟨1,p',none⟩))=Zp (Z3 V) i p':=by
   funext j;by_cases e:j=i
   .subst e;simp only[Z3,if_neg f,Ql,Qj];rfl
   .simp_all[Qv,Z3,if_neg]
  refine⟨λ j a ha T B=>H j a ha T (hR _ _ B),W,L,wt',K,z.two,?_,?_⟩
  .simp_all
  .rcases ap with rfl|⟨al,X⟩
   .exact QK.woken Y (λ e=>absurd e f) ai
   .intro x hx hns;exfalso;obtain⟨am,Z⟩:=Option.ne_none_iff_exists'.1 h.root;obtain⟨ac,hJ,S⟩:=h.live 0 am S1 Z;have F:=hJ.running G;rw[J7 (Ne.symm f)]at hx;rcases S with S|⟨S,T,_⟩
    .rw[S,Option.map_some,Wg F]at hx;cases hx;exact hns F
    .rw[S,Option.map_some]at hx
     have:woken P g g' (two w b t (Q1 L wt') (Qq K)) { ac with status:=.blocked }=ac:=by
      unfold woken;rw[if_pos,again_blocked F T];rcases X with e|e <;> rw[e,al] <;> rfl
     simp_all
 .refine h.mux.step Y (λ x s me lo e=>?_) (λ j=>?_) (Qh _ _ S1) (λ m hm _ j a ha T B=>hm j a ha T (hR _ _ B)) (λ m t st sm _ hs=>hs.two_other (z.ne hs))
  .rw[h.bareM i B]at e;cases e
  .by_cases e:j=i
   .subst e;rw[h.bareM j B];unfold Q3;rw[Ql];rfl
   grind[Q3]
def MI.tailStep(z:∀m g U,Stop m g U->g.status=.running){i:Nat}{g:Gr}(h:MI P t N Stop none gs w tr V rk rel q)(hi:gs[i]?=some g)(hr:rk i=none)(hp:(V (.run i)).tok.ph≠.out) :
  JP P t N Stop gs w sl tr rk q i:=by
 have L:i≠0:=λ e=>by subst e;exact h.root hr
 obtain⟨ah,b,hg,hb,ht⟩:=h.tail i hr hp;rw[hi]at hg;cases hg;obtain⟨ds,pend,k,Q,H,W,c,wt,s,X,F,T⟩:=h.par hb;have f:Z3 V i=(V (.run i)).tok.ph:=by simp[Z3,L]
 cases K:q i with
 |zero=>rw[K]at ht;exact ht.elim
 |succ n=>
  rw[K]at ht;obtain⟨af,ht⟩:=ht;have Y:∀(es:Array Event),Deaf tr i=1->∀j,(deafBehind 1 (es.extract 0 j)≠0)->deafBehind (Deaf tr i) (es.extract 0 j)≠0:=λ es e j hj=>by rw[e];exact hj
  rcases ht with⟨g',es,bs,hm,G,E,S⟩|⟨M,Z,E⟩|⟨M,Z,g',bs,G,E,S⟩|⟨M,Z,g',bs,G,E,S⟩|⟨M,Z,ae,g',bs,G,E,S⟩
  .have hup:Zp (Z3 V) i (V (.run i)).tok.ph=Z3 V:=by funext j;grind[Zp]
   refine h.tailGo z (p':=(V (.run i)).tok.ph) hi L hr hp Q H X T (E _ _) G (λ e B=>.inl (hm e B)) ?_ (by rw[hup];exact F) (.inl rfl) K (λ x=>absurd hr (h.wk' i x)) (.inr ⟨hp,S⟩);intro j hj hc;obtain⟨x,hx,_⟩:=hc;rcases Jl (t:=tr) hx with⟨ag,_⟩|⟨_,op,ad,aa,_⟩
   .omega
   .obtain⟨e,he',rfl⟩:=Go.Conc.mem_ofEvents ad;rw[(G_ (hm e he')).1]at aa;cases aa
  .rw[M]at f;obtain⟨h1,h2,h3,rfl⟩:=F.relC f;obtain⟨g',bs,G,E,S⟩:=E c wt h1 h2 h3
   have I:=VO (tr:=tr) (i:=i) (fn:=g.frame.fn) (pos:=g.frame.place) (b:=b) (es:=#[Jg b 0,QB b 0]) (by intro e B;simp at B;rcases B with rfl|rfl <;> exact .inr ⟨_,_,rfl⟩) (by
    intro j hj;refine Y _ Z j ?_;have:j=0\/j=1:=by simp at hj;omega
    grind[deafBehind,Jg,QB])
   have ac:∀e∈(#[Jg b 0,QB b 0]:Array Event),V9 b false e:=by
    intro e B;simp at B;rcases B with rfl|rfl <;> exact .inr (.inl ⟨0,_,O1,rfl⟩)
   by_cases hl:c=1/\wt=1
   .rw[if_pos hl]at S;obtain⟨rfl,rfl⟩:=hl;obtain⟨rfl,ab⟩:=F.last f;exact h.tailGo z (p':=.lst b 0) hi L hr hp Q H X T E G ac I ab (.inl rfl) K (by rintro⟨_,_,e⟩;cases e) (.inr ⟨S1,by rw[Z];exact S⟩)
   .rw[if_neg hl]at S;exact h.tailGo z (p':=.out) hi L hr hp Q H X T E G ac I (F.leave f hl) (.inl rfl) K (by rintro⟨_,_,e⟩;cases e) (.inl ⟨rfl,by rw[Z];exact S⟩)
  .rw[M]at f;obtain⟨rfl,rfl,rfl,h4,_⟩:=F.lstAt f;obtain rfl:wt=1:=O1
   have I:=VO (tr:=tr) (i:=i) (fn:=g.frame.fn) (pos:=g.frame.place) (b:=b) (es:=#[Jg b 0]) (by intro e B;simp at B;subst B;exact .inr ⟨_,_,rfl⟩) (by
    grind[deafBehind])
   exact h.tailGo z (p':=.lst b 1) hi L hr hp Q H X T E G (by intro e B;simp at B;subst B;exact .inr (.inl ⟨0,_,O1,rfl⟩)) I (F.next (wt':=1) f (.inl ⟨rfl,rfl⟩)) (.inl rfl) K (by rintro⟨_,_,e⟩;cases e) (.inr ⟨S1,by rw[Z];exact S⟩)
  .rw[M]at f;obtain⟨rfl,rfl,rfl,h4,_⟩:=F.lstAt f;obtain rfl:wt=1:=O1
   have I:=VO (tr:=tr) (i:=i) (fn:=g.frame.fn) (pos:=g.frame.place) (b:=b) (es:=#[QB b 0]) (by intro e B;simp at B;subst B;exact .inr ⟨_,_,rfl⟩) (by
    grind[deafBehind])
   exact h.tailGo z (p':=.lst b 2) hi L hr hp Q H X T E G (by intro e B;simp at B;subst B;exact .inr (.inl ⟨0,_,O1,rfl⟩)) I (F.next (wt':=0) f (.inr ⟨rfl,rfl⟩)) (.inl rfl) K (by rintro⟨_,_,e⟩;cases e) (.inr ⟨S1,by rw[Z];exact S⟩)
  .rw[M]at f;obtain⟨rfl,rfl,rfl,h4,_⟩:=F.lstAt f;obtain rfl:wt=0:=O1
   have I:=VO (tr:=tr) (i:=i) (fn:=g.frame.fn) (pos:=g.frame.place) (b:=b) (es:=#[Z2 .disable,Jg b 1,QB b 1,Z2 .enable]) (by intro e B;simp at B;rcases B with rfl|rfl|rfl|rfl <;> first|exact .inl rfl|exact .inr ⟨_,_,rfl⟩) (by
    intro j hj;refine Y _ Z j ?_;have:j=0\/j=1\/j=2\/j=3:=by simp at hj;omega
    rcases this with rfl|rfl|rfl|rfl <;> simp[deafBehind,Jg,QB,Z2])
   exact h.tailGo z (p':=.out) hi L hr hp Q H X T E G (by intro e B;simp at B;rcases B with rfl|rfl|rfl|rfl <;> first|exact .inl rfl|exact .inr (.inl ⟨1,_,O1,rfl⟩)) I (F.wake f) (.inr ⟨ae,S.status⟩) K (by rintro⟨_,_,e⟩;cases e) (.inl ⟨rfl,by rw[Z];exact S⟩)
end
section
variable{P:Program}{t:TypeId}{N:Nat}{Stop:QJ Tk}{gs:Array Gr}{w:World}{tr:Trace}{V V':Hd->Qa Tk}{rk:Nat->Option Tr}{rel:Nat->Option Nat}{q:Nat->Nat}{sl:Option (Nat×Nat)}
def MI.par'{ex:Option Nat}(h:MI P t N Stop ex gs w tr V rk rel q){b:Nat}(e:(V (.run 0)).tok.ph.blk=some b) :
  ∃ds pend k,(V (.run 0)).tok.ph=.par b ds pend k/\(∀j,QL b (V j))/\∃W c wt s,Sh b t (Q1 c wt) (Qq s) w/\GI N b ds pend k (Z3 V) rel (λ i=>(V (.dep i)).M) W c wt s/\(∀g,gs[0]?=some g->g.status≠.running->s=0):=by
 have f:=h.grp;unfold QK at f
 revert f e
 cases z:(V (.run 0)).tok.ph with
 |out=>intro e;cases e
 |par B ds pend k=>intro e f;cases e;grind
 |_=>simp_all
def BL{i:Nat}{g g':Gr}(f:gs[i]?=some g)(b:g'.status=.blocked):behind P gs i g g' w=gs.setIfInBounds i g':=by
 have h:=(Array.getElem?_eq_some_iff.1 f).1;apply Array.ext_getElem?;intro j;by_cases e:j=i
 .grind[Wl]
 .rw[J7 e,Array.getElem?_setIfInBounds_ne (Ne.symm e)];cases z:gs[j]? with
  |none=>rfl
  |some x=>
   simp only[Option.map_some];unfold woken;simp[b]
def MI.sleep{i:Nat}{g:Gr}{r:Tr}(h:MI P t N Stop (some i) gs w tr V rk rel q)(H:gs[i]?=some g)(S:g.status=.running)(U:g.offers=none)
  (Q:rk i=some r) (I:SW i (V (.run i)).tok) (z:stepG P (i==0) g w=.go { g with status:=.blocked } w #[]) (T:JR (Zb P t N) Stop r (i==0) g (V (.run i)))
  (B:QK t N (gs.setIfInBounds i { g with status:=.blocked }) w V rel) (E:JK (gs.setIfInBounds i { g with status:=.blocked }) w V):JP P t N Stop gs w sl tr rk q i:=by
 have K:=(Array.getElem?_eq_some_iff.1 H).1;have F:rk i≠none:=by rw[Q];simp
 have L:behind P gs i g { g with status:=.blocked } w=gs.setIfInBounds i { g with status:=.blocked }:=BL H rfl;refine⟨_,_,_,V,rk,rel,q,runT_crowd_go H z,?_,?_,.refl _,rfl⟩
 .have e1:tr++MemOp.ofEvents i g.frame.fn g.frame.place #[]=tr:=by rw[ofEvents_eq];simp
  show MI P t N Stop none (behind P gs i g { g with status:=.blocked } w) w _ V rk rel q;rw[L,e1];have f:∀j,j≠i->(gs.setIfInBounds i { g with status:=.blocked })[j]?=gs[j]?:=λ j b=>Array.getElem?_setIfInBounds_ne (Ne.symm b);refine⟨?_,h.root,?_,?_,?_,h.bare,h.wk,h.wk',h.deaf,h.deps,h.vi,h.ti,B,E,h.bareM⟩
  .intro j r'' _ hr'';by_cases e:j=i
   .subst e;rw[Q]at hr'';cases hr'';exact⟨g,T,.inr ⟨by simp[K],U,I⟩⟩
   .obtain⟨g_1,G,M⟩:=h.live j r'' (λ e'=>e (Option.some.inj e').symm) hr'';refine⟨g_1,G,?_⟩;rw[f j e];exact M
  .intro j x b hx hp;have e:j≠i:=λ e=>by subst e;exact F b
   rw[f j e]at hx;exact h.gone j x b hx hp
  .intro j b hp;have e:j≠i:=λ e=>by subst e;exact F b
   obtain⟨x,W,G,M⟩:=h.tail j b hp;exact⟨x,W,by rw[f j e];exact G,M⟩
  .intro j b;exact h.above j (by simpa using b)
 grind[JD,QI,behind,km]
def JK.sleep{i:Nat}{g g':Gr}(h:JK gs w V)(z:gs[i]?=some g)(E:∀x s me lo,Q3 V i≠some (.lok x s me lo)):JK (gs.setIfInBounds i g') w V:=by
 refine h.at (λ _=>rfl) rfl (λ _ b _=>b) (λ _ _ _ _ _ x=>x) λ j x s me lo y e B f=>?_;grind
def MI.block{g:Gr}{r:Tr}{b:Nat}{ds:List Spec}{bs:List (Nat×Bool)}{mu:Option ZS}(h:MI P t N Stop (some 0) gs w tr V rk rel q)(H:gs[0]?=some g)(E:g.status=.running)(S:g.offers=none)
  (L:rk 0=some r) (f:(V (.run 0)).tok=⟨1,.par b ds false .wait,mu⟩) (I:∀j,QL b (V j)) {W:List Nat} {c wt:Nat} (B:Sh b t (Q1 c wt) (Qq 0) w) (K:GI N b ds false .wait (Z3 V) rel (λ i=>(V (.dep i)).M) W c wt 0)
  (G:Qc P t true g (Q1 c wt) (Qq 0)=.blocked { g with status:=.blocked } (Q1 c wt) (Qq 0) bs) (F:Z8 b bs) (Q:JR (Zb P t N) Stop r true g (V (.run 0))):JP P t N Stop gs w sl tr rk q 0:=by
 have z:stepG P (0==0) g w=.go { g with status:=.blocked } w #[]:=by
  have:=E4 G B F
  rwa [B.two_same]at this
 refine h.sleep H E S L (.inl ⟨rfl,b,ds,mu,f⟩) z Q ?_ (h.mux.sleep H λ x s me lo e=>?_)
 .grind[QK]
 .have h3:=h.mux.2.2;simp_all
def MI.calm(z:∀m g U,Stop m g U->g.status=.running){i:Nat}{g g':Gr}{r S:Tr}{b:Nat}{bs:List (Nat×Bool)}(h:MI P t N Stop (some i) gs w tr V rk rel q)(H:gs[i]?=some g)(hr:rk i=some r)(f:i≠0)(hb:(V (.run i)).tok.ph.blk=some b)
  (ab:∀st sm,Qc P t false g st sm=.go g' st sm #[] bs) (Z:Z8 b bs) (ac:Tr.Sub S r) (hJ:JR (Zb P t N) Stop S false g' (V (.run i))):JP P t N Stop gs w sl tr rk q i:=by
 have aa:=(Array.getElem?_eq_some_iff.1 H).1;have Q:rk i≠none:=by rw[hr];simp
 have B:=h.wk i f Q;have I:Z3 V i=(V (.run i)).tok.ph:=by simp[Z3,f]
 have G:=h.grp;unfold QK at G;cases E:(V (.run 0)).tok.ph with
 |out=>rw[E]at G;have:=G.1 i f;rw[this]at B;obtain⟨_,_,e⟩:=B;cases e
 |wrk _ _=>simp_all
 |rel _=>simp_all
 |lst _ _=>simp_all
 |par b' ds pend k=>
  rw[E]at G;obtain⟨L,W,c,wt,s,F,K,Y⟩:=G
  have X:b'=b:=by
   obtain⟨ad,D,e⟩:=B;rw[e]at hb;cases hb;rw[e]at I;rcases K.ph i with e'|⟨D',e'⟩|e'|⟨j,e'⟩ <;> rw[I]at e' <;> cases e';rfl
  subst X
  have M:stepG P (i==0) g w=.go g' w #[]:=by
   rw[show(i==0)=false by simpa using f];have:=HD (ab (Q1 c wt) (Qq s)) F Z
   rwa [F.two_same]at this
  refine⟨_,_,_,V,Zp rk i (some S),rel,q,runT_crowd_go H M,?_,XI Jp aa hr λ T e=>S2,.refl _,rfl⟩;refine h.go z (V':=V) (rk':=Zp rk i (some S)) (rel':=rel) (q':=q) (es:=#[]) H (λ _ _=>rfl) (λ j hj=>Qv _ _ hj) (λ _ _=>rfl) (λ _ _=>.inl rfl) (by rw[Qv _ _ (Ne.symm f)];exact h.root) (.inl f) ?_ ?_ h.deps h.vi ?_ ?_ (h.mux.step H (λ _ _ _ _ _=>hJ.running z) (λ _=>rfl) rfl (λ _ hm _=>hm) λ _ _ _ _ _ x=>x) (λ e=>by grind[Qj])
  .intro T e;rw[Qj]at e;cases e;refine⟨by grind,?_,λ _=>B⟩;rw[deafBehind_nil];exact h.deaf i Q
  .grind[Qj]
  .exact h.ti.imp λ _ x=>x.dumb λ e he=>by simp at he
  .unfold QK;rw[E];exact⟨L,W,c,wt,s,F,K,QK.woken H (λ e=>absurd e f) Y⟩
def MI.lay(Y:∀m g U,Stop m g U->g.status=.running){i n:Nat}{g g':Gr}{r:Tr}{b:Nat}{D:Spec}{bs:List (Nat×Bool)}(h:MI P t N Stop (some i) gs w tr V rk rel q)(hi:gs[i]?=some g)(hr:rk i=some r)(f:i≠0)
  {mu:Option ZS} (G:(V (.run i)).tok=⟨0,.wrk b D,mu⟩) (au:mu=none\/∃x s lo,mu=some (.lok x s .fin lo)) (hD:D (V (.run i)).M) (am:∀st sm,Qc P t false g st sm=.go g' st sm #[Z2 (.releaseMerge ⟨b,0,none⟩)] bs) (av:Z8 b bs) (hT:Tl P t N b n 0 (.rel b) g'):JP P t N Stop gs w sl tr rk q i:=by
 have aq:=(Array.getElem?_eq_some_iff.1 hi).1;have aw:rk i≠none:=by rw[hr];simp
 have ab:Z3 V i=.wrk b D:=by simp[Z3,f,G]
 have af:Deaf tr i=0:=by rw[h.deaf i aw,G]
 have hG:=h.grp;unfold QK at hG;cases K:(V (.run 0)).tok.ph with
 |out=>grind
 |wrk _ _=>simp_all
 |rel _=>simp_all
 |lst _ _=>simp_all
 |par E ds pend k=>
  rw[K]at hG;obtain⟨S,W,c,wt,s,Q,ac,al⟩:=hG
  have ap:E=b:=by
   rcases ac.ph i with e'|⟨D',e'⟩|e'|⟨j,e'⟩ <;> rw[ab]at e' <;> cases e';rfl
  subst ap
  have ae:stepG P (i==0) g w=.go g' w #[Z2 (.releaseMerge ⟨E,0,none⟩)]:=by
   rw[show(i==0)=false by simpa using f];have:=HD (am (Q1 c wt) (Qq s)) Q av
   rwa [Q.two_same]at this
  obtain⟨ay,ad⟩:=ac.rel_ (r:=tr.size) ab hD;have ah:E<w.heap.size:=(Array.getElem?_eq_some_iff.1 Q).1
  let B:=Q2 (Q2 V (.run i) (Qa.bare ⟨0,.rel E,none⟩)) (.dep i) ⟨λ _=>none,(V (.run i)).M,⟨0,.out,none⟩⟩
  have v1:B (.run i)=Qa.bare ⟨0,.rel E,none⟩:=by show Q2 _ _ _ _=_;rw[Qh _ _ S1,Ql]
  have v2:∀j,j≠i->B (.run j)=V (.run j):=λ j F=>by grind[Q2,Qh]
  have v3:B (.dep i)=⟨λ _=>none,(V (.run i)).M,⟨0,.out,none⟩⟩:=Ql ..;have v4:∀j,j≠i->B (.dep j)=V (.dep j):=λ j F=>by grind[Q2,Qh]
  have v5:B .lck=V .lck:=by show Q2 _ _ _ _=_;rw[Qh _ _ S1,Qh _ _ S1]
  have aa:=qR (V (.run i)) (⟨0,.rel E,none⟩:Tk) ⟨0,.out,none⟩;have aj:VI B w:=h.vi.fork aa S1
  have hW:∀k l,(B k).canW l->(V k).canW l/\k≠.dep i\/(k=.dep i/\(V (.run i)).canW l):=by
   intro k l hl;cases k with
   |run j=>
    grind[absurd,Wk]
   |dep j=>
    by_cases e:j=i
    .subst e;rw[v3]at hl;exact .inr ⟨rfl,aa.wc l hl⟩
    simp_all
   |lck=>simp_all
  have hR:∀k l,(B k).canR l->(V k).canR l/\k≠.dep i\/(k=.dep i/\(V (.run i)).canR l):=by
   intro k l hl;cases k with
   |run j=>
    grind[absurd,Wj]
   |dep j=>
    by_cases e:j=i
    .subst e;rw[v3]at hl;exact .inr ⟨rfl,aa.rc l hl⟩
    simp_all
   |lck=>simp_all
  refine⟨_,_,_,B,Zp rk i none,Zp rel i (some tr.size),Zp q i n,runT_crowd_go hi ae,?_,XI Jp aq hr λ a0 e=>(by cases e),.refl _,rfl⟩
  have e0:MemOp.ofEvents i g.frame.fn g.frame.place #[Z2 (.releaseMerge ⟨E,0,none⟩)]=#[{ g:=i,fn:=g.frame.fn,pos:=g.frame.place,act:=.mark (.releaseMerge ⟨E,0,none⟩) }]:=by
   rw[ofEvents_eq];simp[Z2,MemAct.ofEvent]
  refine h.go Y (V':=B) (rk':=Zp rk i none) (rel':=Zp rel i (some tr.size)) (q':=Zp q i n) (es:=#[Z2 (.releaseMerge ⟨E,0,none⟩)]) hi v2 (λ j F=>Qv _ _ F) (λ j F=>Qv _ _ F) (λ j F=>.inl (Qv _ _ F)) (by rw[Qv _ _ (Ne.symm f)];exact h.root) (.inl f) ?_ ?_ ?_ aj ?_ ?_ ?_ (λ _=>by unfold Q3;rw[v1];rfl)
  .grind[Qj]
  .intro _;rw[v1,Qj,af];refine⟨f,rfl,rfl,?_,.inr ⟨λ e=>(by cases e),E,by rw[K];rfl,hT⟩⟩;rintro⟨_,_,e⟩;cases e
  .intro j F;have e:j≠i:=λ e=>by grind[Qj]
   rw[Qv _ _ e]at F;rw[v4 j e];exact h.deps j F
  .obtain⟨rm,hti⟩:=h.ti;have ag:Jy B=Jy V:=by simp only[Jy,Q3,v2 0 (Ne.symm f)]
   refine⟨rm,?_⟩;rw[v2 0 (Ne.symm f),e0,ag]
   have:=hti.release (W':=λ k=>(B k).canW) (R':=λ k=>(B k).canR) (wk':=λ j=>ZO (B (.run j)).tok.ph) (rel':=Zp rel i (some tr.size)) (y:={ g:=i,fn:=g.frame.fn,pos:=g.frame.place,act:=.mark (.releaseMerge ⟨E,0,none⟩) }) (b:=E) (by rw[K];rfl) rfl ah af ad (λ k=>by simp[Zp]) hW hR (λ k hk=>by
    by_cases e:k=i
    .exact .inr e
    .left;rw[v2 k e];exact hk)
   refine this.turn (λ _ _ h=>h) (λ _ _ h=>h) ?_;grind
  .unfold QK;rw[v2 0 (Ne.symm f),K]
   have a1:Z3 B=Zp (Z3 V) i (.rel E):=by
    funext j;by_cases e:j=i
    .subst e;simp only[Z3,if_neg f,v1,Qj];rfl
    .simp_all[Qv,Z3,if_neg]
   have a2:(λ j=>(B (.dep j)).M)=Zp (λ j=>(V (.dep j)).M) i (V (.run i)).M:=by
    funext j;by_cases e:j=i
    .grind[Qj]
    .grind[Qv]
   refine⟨λ j a ha ho Z=>?_,W,c,wt,s,Q,S2,QK.woken hi (λ e=>absurd e f) al⟩;rcases hR _ _ Z with⟨L,_⟩|⟨_,L⟩
   .exact S _ a ha ho L
   .exact S _ a ha ho L
  .have hmk:∀j,j≠i->Q3 B j=Q3 V j:=λ j F=>by grind[Q3]
   have az:Q3 B i=none:=by unfold Q3;rw[v1];rfl
   have T:Q3 V i=mu:=by unfold Q3;rw[G]
   have X:∀m,(∀j,QL m (V j))->∀j,QL m (B j):=λ m hm j a ha ho Z=>by
    rcases hR _ _ Z with⟨L,_⟩|⟨_,L⟩
    .exact hm _ a ha ho L
    .exact hm _ a ha ho L
   obtain⟨g1,g2,g3⟩:=h.mux;refine⟨λ j x u F e=>?_,by rw[v5];exact g2,?_⟩
   .grind
   .rw[hmk 0 (Ne.symm f)]
    revert g3
    cases e0:Q3 V 0 with
    |none=>
     grind
    |some m0=>
     cases m0 with
     |lok=>exact λ x=>x
     |par x u=>
      rintro⟨g3,lp,st,sm,H⟩;refine⟨X _ g3,lp,st,sm,⟨H.sh,H.word,λ j x' s me lo e=>?_,λ j k s ax an l₁ ak ao l₂ e e'=>?_,λ s hs=>?_,H.idle,λ e=>by rw[v5];exact H.dep e,λ e=>by rw[v5];exact H.dep' e,λ j x' s me lo y e hy ai=>?_⟩⟩
      .by_cases I:j=i
       .simp_all
       .rw[hmk j I]at e;exact H.tk j x' s me lo e
      .by_cases I:j=i
       .simp_all
       .by_cases ek:k=i
        .simp_all
        .rw[hmk j I]at e;rw[hmk k ek]at e';exact H.one j k s ax an l₁ ak ao l₂ e e'
      .rcases H.who s hs with L|⟨j,me,lo,e⟩
       .exact .inl L
       .by_cases I:j=i
        .subst I;rw[T]at e;rcases au with rfl|⟨x',s',lo',rfl⟩
         .cases e
         .cases e;exact .inl (H.tk j _ _ _ _ T).2.1.symm
        grind
      .have I:j≠i:=λ I=>S2
       rw[hmk j I]at e;rw[J7 I]at hy;obtain⟨z,hz,rfl⟩:=Option.map_eq_some_iff.1 hy;exact H.slp j x' s me lo z e hz λ hr=>ai (by grind[Wg])
end
def J_(V:Hd->Qa Tk)(l:List Nat):Hd->Qa Tk
 |.run j=>if j=0 then(V (.run 0)).with (l.map λ i=>(V (.dep i)).M).flatten else V (.run j)
 |.dep j=>if j∈l then ZL else V (.dep j)
 |.lck=>V .lck
def VI.joinAll{w:World}:∀{l:List Nat}{V:Hd->Qa Tk},l.Nodup->VI V w->VI (J_ V l) w
 |[],V,_,h=>by
  have:J_ V []=V:=by
   funext k;cases k with
   |run j=>
    simp_all[J_,Qa.with]
   |dep j=>simp[J_]
   |lck=>rfl
  rw[this];exact h
 |i::l,V,z,h=>by
  obtain⟨F,z⟩:=nodup_cons.1 z;have E:=h.join (k:=.run 0) (k':=.dep i) S1 (⟨0,.out,none⟩:Tk);have H:=VI.joinAll z E
  have e:J_ (Q2 (Q2 V (.run 0) ((V (.run 0)).with (V (.dep i)).M)) (.dep i) (Qa.bare ⟨0,.out,none⟩)) l=J_ V (i::l):=by
   funext k;cases k with
   |run j=>
    simp only[J_]
    have G:(l.map λ b=>(Q2 (Q2 V (.run 0) ((V (.run 0)).with (V (.dep i)).M)) (.dep i) (Qa.bare (⟨0,.out,none⟩:Tk)) (.dep b)).M)=l.map λ b=>(V (.dep b)).M:=by
     refine map_congr_left λ b f=>?_;have B:b≠i:=λ e=>F (e▸f);rw[Qh _ _ (by intro e;cases e;exact B rfl),Qh _ _ S1]
    rw[G];split
    .rename_i e;rw[Qh _ _ S1,Ql];simp[Qa.with]
    .rename_i e;rw[Qh _ _ S1,Qh _ _ (by intro e';cases e';exact e rfl)]
   |dep j=>
    simp only[J_];by_cases e:j=i
    .subst e;rw[Ql];simp[ZL]
    .rw[Qh _ _ (by intro e';cases e';exact e rfl),Qh _ _ S1];simp[e]
   |lck=>simp only[J_];rw[Qh _ _ S1,Qh _ _ S1]
  simp_all
def LT{V:Hd->Qa Tk}{U:Qa Tk}{l:List Nat}{x:Loc}:((U.with (l.map λ i=>(V (.dep i)).M).flatten).canW x->U.canW x\/∃i∈l,(V (.dep i)).canW x)/\((U.with (l.map λ i=>(V (.dep i)).M).flatten).canR x->U.canR x\/∃i∈l,(V (.dep i)).canR x):=by
 have key:∀r,r∈U.M++(l.map λ i=>(V (.dep i)).M).flatten->r.lets x->U.canW x\/∃i∈l,(V (.dep i)).canW x:=by
  intro r b e;rcases mem_append.1 b with b|b
  .exact .inl (Q6.2 ⟨r,b,e⟩)
  .obtain⟨M,hM,hrM⟩:=mem_flatten.1 b;obtain⟨i,f,rfl⟩:=mem_map.1 hM;exact .inr ⟨i,f,Q6.2 ⟨r,hrM,e⟩⟩
 refine⟨λ h=>?_,λ h=>?_⟩
 .obtain⟨r,b,e⟩:=Q6.1 h;exact key r b e
 .rcases Qy.1 h with⟨r,b,e⟩|h
  .exact(key r b e).imp Zx λ⟨i,f,h⟩=>⟨i,f,Zx h⟩
  .exact .inl (Qy.2 (.inr h))
def Ei{U:Qa Tk}(w:U.I=λ _=>none)(e:U.M=[])(l:Loc):¬U.canW l/\¬U.canR l:=by
 have f:¬U.canW l:=λ h=>by obtain⟨r,b,_⟩:=Q6.1 h;rw[e]at b;cases b
 refine⟨f,λ h=>?_⟩;rcases Qy.1 h with⟨r,b,_⟩|h
 .rw[e]at b;cases b
 grind
section
variable{P:Program}{t:TypeId}{N:Nat}{Stop:QJ Tk}{gs:Array Gr}{w:World}{tr:Trace}{V V':Hd->Qa Tk}{rk:Nat->Option Tr}{rel:Nat->Option Nat}{q:Nat->Nat}{sl:Option (Nat×Nat)}
def MI.take(L:∀m g U,Stop m g U->g.status=.running){g g':Gr}{r:Tr}{b:Nat}{ds:List Spec}{bs:List (Nat×Bool)}{mu:Option ZS}(h:MI P t N Stop (some 0) gs w tr V rk rel q)(Q:gs[0]?=some g)(hr:rk 0=some r)
  (F:(V (.run 0)).tok=⟨0,.par b ds false .up,mu⟩) {W:List Nat} {c wt s:Nat} (S:Sh b t (Q1 c wt) (Qq s) w) (I:GI N b ds false .up (Z3 V) rel (λ i=>(V (.dep i)).M) W c wt s)
  (ai:∀st sm,Qc P t true g st sm=.go g' st sm #[Z2 (.acquire ⟨b,0,none⟩)] bs) (aj:Z8 b bs)
  (hJ:∀Ms,JO ds Ms->∃r',Tr.Sub r' r/\JR (Zb P t N) Stop r' true g' { (V (.run 0))with M:=((V (.run 0)).M++Ms.flatten)++(V .lck).M,tok:=⟨0,.out,none⟩ }):JP P t N Stop gs w sl tr rk q 0:=by
 have ak:=(Array.getElem?_eq_some_iff.1 Q).1;obtain⟨-,-,-,-,T,G⟩:=I.up;obtain⟨r',Y,hJ⟩:=hJ _ I.deps;have H:∀j,j≠0->(V (.run j)).tok.ph=.out:=λ j B=>by have:=T j;simpa[Z3,B]using this
 have E:∀j,j≠0->rk j=none:=by
  intro j B;cases e:rk j with
  |none=>rfl
  |some r=>
   obtain⟨b,D,e'⟩:=h.wk j B (by rw[e];simp);rw[H j B]at e';cases e'
 have ad:Deaf tr 0=0:=by rw[h.deaf 0 h.root,F]
 have ac:stepG P (0==0) g w=.go g' w #[Z2 (.acquire ⟨b,0,none⟩)]:=by
  have:=HD (ai (Q1 c wt) (Qq s)) S aj
  rwa [S.two_same]at this
 have ag:b<w.heap.size:=(Array.getElem?_eq_some_iff.1 S).1
 let K:Hd->Qa Tk:=Q2 (Q2 (J_ V W) (.run 0) ((J_ V W (.run 0)).with (J_ V W .lck).M)) .lck (Qa.bare ⟨0,.out,none⟩)
 have z0:K (.run 0)=((V (.run 0)).with (W.map λ i=>(V (.dep i)).M).flatten).with (V .lck).M:=by show Q2 _ _ _ _=_;rw[Qh _ _ S1,Ql];simp[J_]
 let z:Hd->Qa Tk:=Q2 K (.run 0) { K (.run 0)with tok:=⟨0,.out,none⟩ }
 have v0:z (.run 0)={ (V (.run 0))with M:=((V (.run 0)).M++(W.map λ i=>(V (.dep i)).M).flatten)++(V .lck).M,tok:=⟨0,.out,none⟩ }:=by show Q2 _ _ _ _=_;rw[Ql,z0];rfl
 have v2:∀j,j≠0->z (.run j)=V (.run j):=λ j B=>by show Q2 _ _ _ _=_;rw[Qh _ _ (by intro e;cases e;exact B rfl)];show Q2 _ _ _ _=_;rw[Qh _ _ S1,Qh _ _ (by intro e;cases e;exact B rfl)];simp[J_,B]
 have vm:z .lck=ZL:=by show Q2 _ _ _ _=_;rw[Qh _ _ S1];exact Ql ..
 have vd:∀j,z (.dep j)=ZL:=by
  intro j;show Q2 _ _ _ _=_;rw[Qh _ _ S1];show Q2 _ _ _ _=_;rw[Qh _ _ S1,Qh _ _ S1];simp only[J_];split
  .rfl
  .rename_i B;refine h.deps j ?_;cases e:rel j with
   |none=>rfl
   |some x=>exact absurd (I.inW j (.inr (by rw[e];simp))) B
 have ah:VI z w:=by
  have:=(VI.joinAll I.nodup h.vi).join (k:=.run 0) (k':=.lck) S1 (⟨0,.out,none⟩:Tk)
  have hs:∀k,(z k).canW=(K k).canW/\(z k).canR=(K k).canR:=by
   intro k;by_cases e:k=.run 0
   .subst e;rw[show z (.run 0)=_ from Ql ..];exact⟨rfl,rfl⟩
   .rw[show z k=_ from Qh _ _ e];exact⟨rfl,rfl⟩
  refine⟨λ k=>?_,λ X ab l Z hw hr=>this.sep X ab l Z (by rw[<- (hs X).1];exact hw) (by rw[<- (hs ab).2];exact hr)⟩;by_cases e:k=.run 0
  .subst e;rw[show z (.run 0)=_ from Ql ..];have:=this.ok (.run 0);exact⟨this.imm,this.held,this.apart,this.sep⟩
  .rw[show z k=_ from Qh _ _ e];exact this.ok k
 have aa:∀l,((z (.run 0)).canW l->(K (.run 0)).canW l)/\((z (.run 0)).canR l->(K (.run 0)).canR l):=λ l=>by
  rw[show z (.run 0)=_ from Ql ..];exact⟨λ x=>x,λ x=>x⟩
 have hW:∀k l,(z k).canW l->k=.run 0/\((V (.run 0)).canW l\/(∃g r,rel g=some r/\(V (.dep g)).canW l)\/(V .lck).canW l):=by
  intro k l f;cases k with
  |run j=>
   by_cases e:j=0
   .subst e;have f:=(aa l).1 f;rw[z0]at f;refine⟨rfl,?_⟩;rcases Tc (τ:=V .lck) f with f|f
    .refine(LT.1 f).imp id λ⟨i,Q,h⟩=>?_;obtain⟨x,hx⟩:=G i Q;exact .inl ⟨i,x,hx,h⟩
    .exact .inr (.inr f)
   .rw[v2 j e]at f;obtain⟨b1,b2⟩:=h.bare j (E j e);exact absurd f (Ei b1 b2 l).1
  |dep j=>rw[vd]at f;exact absurd f (Wk _ _)
  |lck=>rw[vm]at f;exact absurd f (Wk _ _)
 have hR:∀k l,(z k).canR l->k=.run 0/\((V (.run 0)).canR l\/(∃g r,rel g=some r/\(V (.dep g)).canR l)\/(V .lck).canR l):=by
  intro k l f;cases k with
  |run j=>
   by_cases e:j=0
   .subst e;have f:=(aa l).2 f;rw[z0]at f;refine⟨rfl,?_⟩;rcases Om (τ:=V .lck) f with f|f
    .refine(LT.2 f).imp id λ⟨i,Q,h⟩=>?_;obtain⟨x,hx⟩:=G i Q;exact .inl ⟨i,x,hx,h⟩
    .exact .inr (.inr f)
   .rw[v2 j e]at f;obtain⟨b1,b2⟩:=h.bare j (E j e);exact absurd f (Ei b1 b2 l).2
  |dep j=>rw[vd]at f;exact absurd f (Wj _ _)
  |lck=>rw[vm]at f;exact absurd f (Wj _ _)
 refine⟨_,_,_,z,Zp rk 0 (some r'),λ _=>none,q,runT_crowd_go Q ac,?_,XI Jp ak hr λ ae e=>by cases e;exact Y,.refl _,rfl⟩
 have e0:MemOp.ofEvents 0 g.frame.fn g.frame.place #[Z2 (.acquire ⟨b,0,none⟩)]=#[{ g:=0,fn:=g.frame.fn,pos:=g.frame.place,act:=.mark (.acquire ⟨b,0,none⟩) }]:=by
  rw[ofEvents_eq];simp[Z2,MemAct.ofEvent]
 refine h.go L (V':=z) (rk':=Zp rk 0 (some r')) (rel':=λ _=>none) (q':=q) (es:=#[Z2 (.acquire ⟨b,0,none⟩)]) Q v2 (λ j B=>Qv _ _ B) (λ _ _=>rfl) (λ _ _=>.inr rfl) (by rw[Qj];simp) (.inr (.inr H)) ?_ ?_ (λ j _=>vd j) ah ?_ ?_ ?_ (λ e=>by rw[Qj]at e;cases e)
 .intro ae e;rw[Qj]at e;cases e;rw[v0];refine⟨hJ,?_,λ h0=>absurd rfl h0⟩;rw[ad];rfl
 .intro e;rw[Qj]at e;cases e
 .obtain⟨rm,hti⟩:=h.ti;have af:Jy z=none:=by unfold Jy Q3;rw[v0];rfl
  refine⟨none,?_⟩;rw[e0,v0,af]
  exact hti.acquire (y:={ g:=0,fn:=g.frame.fn,pos:=g.frame.place,act:=.mark (.acquire ⟨b,0,none⟩) }) (b:=b) (by rw[F];rfl) rfl rfl ag ad (λ j=>by
   by_cases e:j=0
   .subst e;rw[F];rintro⟨_,_,e⟩;cases e
   .rw[H j e];rintro⟨_,_,e⟩;cases e) (.inl rfl) hW hR
 .unfold QK;rw[v0];exact⟨λ j B=>by rw[v2 j B];exact H j B,λ _=>rfl⟩
 .have Z:∀j,Q3 z j=none:=by
   intro j;by_cases e:j=0
   .subst e;unfold Q3;rw[v0]
   .unfold Q3;rw[v2 j e];exact h.bareM j (E j e)
  refine⟨λ j x u _ e=>(by rw[Z]at e;cases e),by rw[vm];rfl,?_⟩;rw[Z];exact⟨Z,vm⟩
def MI.start(ak:∀m g U,Stop m g U->g.status=.running){g g' cg:Gr}{r Z aa:Tr}{b:Nat}{ds:List Spec}{D:Spec}{Up Uc:Qa Tk}{mu am mc:Option ZS}(h:MI P t N Stop (some 0) gs w tr V rk rel q)(hi:gs[0]?=some g)(hr:rk 0=some r)
  (K:(V (.run 0)).tok=⟨0,.par b ds true .run,mu⟩) (av:∀j,QL b (V j)) {W:List Nat} {c wt s:Nat} (bk:Sh b t (Q1 c wt) (Qq s) w) (ax:GI N b ds true .run (Z3 V) rel (λ i=>(V (.dep i)).M) W c wt s)
  (bf:Qc P t true g undef undef=.spawn g' cg #[]) (hf:HH (V (.run 0)) Up Uc) (hp:Up.tok=⟨0,.par b (D::ds) false .run,am⟩) (hc:Uc.tok=⟨0,.wrk b D,mc⟩) (az:Ye mu am mc)
  (h1:Tr.Sub Z r) (h2:Tr.Sub aa r) (hJ:JR (Zb P t N) Stop Z true g' Up) (a7:JR (Zb P t N) Stop aa false cg Uc):JP P t N Stop gs w sl tr rk q 0:=by
 have bc:=(Array.getElem?_eq_some_iff.1 hi).1;have bb:stepG P (0==0) g w=.spawn g' cg w #[]:=R7 bf w;obtain⟨a9,ba,a5⟩:=h.above gs.size (Nat.le_refl _);have S:gs.size≠0:=O1
 have al:(V (.run gs.size)).tok.ph=.out:=by
  apply Classical.byContradiction;intro bj;obtain⟨x,_,H,_⟩:=h.tail gs.size a9 bj;rw[Array.getElem?_eq_none (Nat.le_refl _)]at H;cases H
 have au:Z3 V gs.size=.out:=by simp[Z3,S,al]
 have bd:gs.size∉W:=by
  intro hm;obtain⟨j,E,e⟩:=mem_iff_getElem.1 hm;have ay:j<ds.length:=by rw[<- ax.len];exact E
  rcases ax.spec j gs.size ds[j] (by rw[getElem?_eq_getElem E,e]) (getElem?_eq_getElem ay)with⟨x,_⟩|⟨_,⟨x,H⟩,_⟩
  .rw[au]at x;cases x
  .rw[a5]at H;cases H
 have a6:Deaf tr 0=0:=by rw[h.deaf 0 h.root,K]
 let Q:=Q2 (Q2 V (.run 0) Up) (.run gs.size) Uc
 have v0:Q (.run 0)=Up:=by show Q2 _ _ _ _=_;rw[Qh _ _ (λ e=>S (Hd.run.inj e).symm),Ql]
 have vc:Q (.run gs.size)=Uc:=Ql ..;have Y:∀j,j≠0->j≠gs.size->Q (.run j)=V (.run j):=λ j E ay=>by show Q2 _ _ _ _=_;rw[Qh _ _ (by intro e;cases e;exact ay rfl),Qh _ _ (by intro e;cases e;exact E rfl)]
 have vd:∀j,Q (.dep j)=V (.dep j):=λ j=>by show Q2 _ _ _ _=_;rw[Qh _ _ S1,Qh _ _ S1]
 have vm:Q .lck=V .lck:=by show Q2 _ _ _ _=_;rw[Qh _ _ S1,Qh _ _ S1]
 have bi:VI Q w:=h.vi.fork hf (λ e=>S (Hd.run.inj e).symm)
 have hW:∀k l,(Q k).canW l->(V k).canW l\/(k=.run gs.size/\(V (.run 0)).canW l):=by
  intro k l G;cases k with
  |run j=>
   by_cases e:j=0
   .subst e;rw[v0]at G;exact .inl (hf.wp l G)
   .by_cases e2:j=gs.size
    .subst e2;rw[vc]at G;exact .inr ⟨rfl,hf.wc l G⟩
    .rw[Y j e e2]at G;exact .inl G
  |dep j=>rw[vd]at G;exact .inl G
  |lck=>rw[vm]at G;exact .inl G
 have hR:∀k l,(Q k).canR l->(V k).canR l\/(k=.run gs.size/\(V (.run 0)).canR l):=by
  intro k l G;cases k with
  |run j=>
   by_cases e:j=0
   .subst e;rw[v0]at G;exact .inl (hf.rp l G)
   .by_cases e2:j=gs.size
    .subst e2;rw[vc]at G;exact .inr ⟨rfl,hf.rc l G⟩
    .rw[Y j e e2]at G;exact .inl G
  |dep j=>rw[vd]at G;exact .inl G
  |lck=>rw[vm]at G;exact .inl G
 let y:MemOp:={ g:=0,fn:=g.frame.fn,pos:=g.frame.place,act:=.go gs.size }
 let z:MemOp:={ g:=gs.size,fn:=cg.frame.fn,pos:=g.frame.place,act:=.start }
 have a8:((MemOp.ofEvents 0 g.frame.fn g.frame.place #[]).push y).push z=#[y,z]:=by rw[ofEvents_eq];simp
 have ao:∀j,Deaf (tr++#[y,z]) j=Deaf tr j:=by
  intro j;have e:tr++#[y,z]=(tr++#[y])++#[z]:=by apply Array.ext';simp
  rw[e,Deaf_push,Deaf_push];rfl
 have ac:=hJ.running ak;refine⟨_,_,_,Q,Zp (Zp rk 0 (some Z)) gs.size (some aa),rel,q,runT_crowd_spawn hi bb,?_,?_,.refl _,rfl⟩
 .show MI P t N Stop none ((gs.setIfInBounds 0 g').push cg) w (tr++((MemOp.ofEvents 0 g.frame.fn g.frame.place #[]).push y).push z) Q _ rel q;rw[a8]
  have be:∀j x,((gs.setIfInBounds 0 g').push cg)[j]?=some x->(j=0/\x=g')\/(j=gs.size/\x=cg)\/(j≠0/\j≠gs.size/\gs[j]?=some x):=by
   intro j x H;rw[Array.getElem?_push]at H;simp only[Array.size_setIfInBounds]at H;split at H
   .rename_i e;subst e;cases H;exact .inr (.inl ⟨rfl,rfl⟩)
   .rename_i e;by_cases B:j=0
    .subst B;simp[bc]at H;exact .inl ⟨rfl,H.symm⟩
    .rw[Array.getElem?_setIfInBounds_ne (Ne.symm B)]at H;exact .inr (.inr ⟨B,e,H⟩)
  have ag:((gs.setIfInBounds 0 g').push cg)[0]?=some g':=by
   rw[Array.getElem?_push];simp[bc,Ne.symm S]
  have aq:((gs.setIfInBounds 0 g').push cg)[gs.size]?=some cg:=by
   rw[Array.getElem?_push];simp
  have ae:∀j,j≠0->j≠gs.size->((gs.setIfInBounds 0 g').push cg)[j]?=gs[j]?:=by
   intro j h0 h1;rw[Array.getElem?_push];simp only[Array.size_setIfInBounds,if_neg h1];exact Array.getElem?_setIfInBounds_ne (Ne.symm h0)
  have L:∀j,j≠0->j≠gs.size->Zp (Zp rk 0 (some Z)) gs.size (some aa) j=rk j:=λ j h0 h1=>by rw[Qv _ _ h1,Qv _ _ h0]
  have F:Zp (Zp rk 0 (some Z)) gs.size (some aa) 0=some Z:=by rw[Qv _ _ (Ne.symm S),Qj]
  have I:Zp (Zp rk 0 (some Z)) gs.size (some aa) gs.size=some aa:=Qj ..;refine⟨?_,by rw[F];simp,?_,?_,?_,?_,?_,?_,?_,λ j E=>by rw[vd];exact h.deps j E,bi,?_,?_,?_,?_⟩
  .intro j r'' _ hr'';by_cases B:j=0
   .subst B;rw[F]at hr'';cases hr'';exact⟨g',by rw[v0];exact hJ,.inl ag⟩
   .by_cases f:j=gs.size
    .subst f;rw[I]at hr'';cases hr'';exact⟨cg,by rw[vc,show(gs.size==0)=false by simpa using S];exact a7,.inl aq⟩
    .rw[L j B f]at hr'';obtain⟨x,k1,k2⟩:=h.live j r'' (λ e'=>B (Option.some.inj e').symm) hr'';refine⟨x,by rw[Y j B f];exact k1,?_⟩;rw[Y j B f,ae j B f];exact k2
  .intro j x E H hp';have B:j≠0:=λ e=>by subst e;rw[F]at E;cases E
   have f:j≠gs.size:=λ e=>by subst e;rw[I]at E;cases E
   rw[L j B f]at E;rw[ae j B f]at H;rw[Y j B f]at hp';rw[ao];exact h.gone j x E H hp'
  .intro j E hp';have B:j≠0:=λ e=>by subst e;rw[F]at E;cases E
   have f:j≠gs.size:=λ e=>by subst e;rw[I]at E;cases E
   rw[L j B f]at E;rw[Y j B f]at hp';obtain⟨x,b',k1,k2,k3⟩:=h.tail j E hp';refine⟨x,b',by rw[ae j B f];exact k1,?_,by rw[ao,Y j B f];exact k3⟩;rw[v0,hp];rw[K]at k2;exact k2
  .intro j E;simp at E;rw[L j O1 O1,ao];exact h.above j O1
  .intro j E;have B:j≠0:=λ e=>by subst e;rw[F]at E;cases E
   have f:j≠gs.size:=λ e=>by subst e;rw[I]at E;cases E
   rw[L j B f]at E;rw[Y j B f];exact h.bare j E
  .intro j h0 E;by_cases f:j=gs.size
   .subst f;rw[vc,hc];exact⟨b,D,rfl⟩
   .rw[L j h0 f]at E;rw[Y j h0 f];exact h.wk j h0 E
  .intro j E;by_cases B:j=0
   .subst B;rw[F];simp
   .by_cases f:j=gs.size
    .subst f;rw[I];simp
    .rw[Y j B f]at E;rw[L j B f];exact h.wk' j E
  .intro j E;rw[ao];by_cases B:j=0
   .subst B;rw[v0,hp,a6]
   .by_cases f:j=gs.size
    .subst f;rw[vc,hc,ba]
    .rw[L j B f]at E;rw[Y j B f];exact h.deaf j E
  .obtain⟨rm,hti⟩:=h.ti;rw[K]at hti
   have bh:Jy Q=Jy V:=by
    unfold Jy Q3;rw[v0,hp,K];rcases az with⟨rfl,_⟩|⟨x,u,s,rfl,_,rfl,_⟩ <;> rfl
   refine⟨rm,?_⟩;rw[bh,v0,hp];refine hti.fork (y:=y) (z:=z) (c:=gs.size) rfl rfl rfl rfl a6 ba S ?_ ?_ hW hR
   .rintro j (rfl|E)
    .exact .inl (.inl rfl)
    .by_cases B:j=0
     .exact .inl (.inl B)
     .by_cases f:j=gs.size
      .exact .inr ⟨f,.inl rfl⟩
      .rw[Y j B f]at E;exact .inl (.inr E)
   .intro j E;by_cases B:j=0
    .subst B;rw[K]at E;obtain⟨_,_,e⟩:=E;cases e
    .by_cases f:j=gs.size
     .subst f;rw[al]at E;obtain⟨_,_,e⟩:=E;cases e
     .rw[Y j B f];exact E
  .unfold QK;rw[v0,hp]
   have bg:Z3 Q=Zp (Z3 V) gs.size (.wrk b D):=by
    funext j;by_cases f:j=gs.size
    .subst f;simp only[Z3,if_neg S,vc,hc,Qj]
    .rw[Qv _ _ f];by_cases B:j=0
     .simp[Z3,B]
     .simp only[Z3,if_neg B,Y j B f]
   refine⟨λ j a ha ho aw=>?_,gs.size::W,c,wt,s,bk,?_,λ x H T=>?_⟩
   .rcases hR _ _ aw with k1|⟨_,k1⟩
    .exact av _ a ha ho k1
    .exact av _ a ha ho k1
   .rw[bg];simp only[vd];exact ax.go au a5 bd
   .rw[ag]at H;cases H;exact absurd ac T
  .have hk0:Q3 V 0=mu:=by unfold Q3;rw[K]
   have ad:Q3 Q 0=am:=by unfold Q3;rw[v0,hp]
   have ah:Q3 Q gs.size=mc:=by unfold Q3;rw[vc,hc]
   have aj:Q3 V gs.size=none:=h.bareM _ a9;have af:∀j,j≠0->j≠gs.size->Q3 Q j=Q3 V j:=λ j B f=>by unfold Q3;rw[Y j B f]
   have ai:∀m,(∀j,QL m (V j))->∀j,QL m (Q j):=λ m hm j a ha ho aw=>by
    rcases hR _ _ aw with h1|⟨_,h1⟩
    .exact hm _ a ha ho h1
    .exact hm _ a ha ho h1
   obtain⟨g1,g2,g3⟩:=h.mux;rw[hk0]at g3;refine⟨λ j x u E e=>?_,by rw[vm];exact g2,?_⟩
   .by_cases f:j=gs.size
    .subst f;rw[ah]at e;rcases az with⟨_,rfl⟩|⟨x,u,s,_,_,_,rfl⟩ <;> cases e
    .rw[af j E f]at e;exact g1 j x u E e
   .rw[ad];rcases az with⟨rfl,rfl⟩|⟨x,u,s,rfl,a0,rfl,rfl⟩
    .have hk:∀j,Q3 Q j=Q3 V j:=by
      intro j;by_cases B:j=0
      .subst B;rw[hk0,ad]
      .by_cases f:j=gs.size
       .subst f;rw[ah,aj]
       .exact af j B f
     cases am with
     |none=>exact⟨λ j=>by rw[hk];exact g3.1 j,by rw[vm];exact g3.2⟩
     |some m0=>
      cases m0 with
      |lok=>exact g3
      |par x u=>
       obtain⟨g4,lp,st,sm,g5⟩:=g3;refine⟨ai _ g4,lp,st,sm,g5.at hk vm g5.sh λ j x' s me lo y e hy T=>?_⟩;rcases be j y hy with⟨rfl,rfl⟩|⟨rfl,rfl⟩|⟨_,_,hz⟩
       .exact absurd ac T
       .rw[aj]at e;cases e
       .exact⟨y,hz,T⟩
    .obtain⟨g4,lp,st,sm,g5⟩:=g3;refine⟨ai _ g4,lp,st,sm,g5.sh,g5.word,λ j x' X me lo e=>?_,λ j k X an ap l₁ bl bm l₂ e e'=>?_,λ X ab=>?_,λ X ab=>?_,λ e=>by rw[vm];exact g5.dep e,λ e=>by rw[vm];exact g5.dep' e,λ j x' X me lo y e hy T=>?_⟩
     .by_cases B:j=0
      .subst B;rw[ad]at e;cases e
      .by_cases f:j=gs.size
       .subst f;rw[ah]at e;cases e;exact⟨rfl,(g5.idle _ a0).symm,Nat.zero_le _,Wa ..⟩
       .rw[af j B f]at e;obtain⟨a1,a2,a3,a4⟩:=g5.tk j x' X me lo e;refine⟨a1,a2,a3,?_⟩;by_cases es:X=s
        .subst es;rw[Wa]
        .rw[XG _ _ es];exact a4
     .have key:∀j an ap l₁,Q3 Q j=some (.lok an X ap l₁)->(j=gs.size/\X=s)\/(Q3 V j=some (.lok an X ap l₁)/\X≠s):=by
       intro j an ap l₁ e;by_cases B:j=0
       .subst B;rw[ad]at e;cases e
       .by_cases f:j=gs.size
        .subst f;rw[ah]at e;cases e;exact .inl ⟨rfl,rfl⟩
        .rw[af j B f]at e;refine .inr ⟨e,λ es=>?_⟩;have:=(g5.tk j _ _ _ _ e).2.2.2;rw[es,a0]at this;cases this
      rcases key j _ _ _ e with⟨a1,a2⟩|⟨a1,a2⟩
      .rcases key k _ _ _ e' with⟨b1,b2⟩|⟨b1,b2⟩
       .rw[a1,b1]
       .exact absurd a2 b2
      .rcases key k _ _ _ e' with⟨b1,b2⟩|⟨b1,b2⟩
       .exact absurd b2 a2
       .exact g5.one j k X _ _ _ _ _ _ a1 b1
     .by_cases es:X=s
      .subst es;exact .inr ⟨gs.size,.idle,0,ah⟩
      .rw[XG _ _ es]at ab;rcases g5.who X ab with h1|⟨j,me,lo,e⟩
       .exact .inl h1
       .refine .inr ⟨j,me,lo,?_⟩;by_cases B:j=0
        .subst B;rw[hk0]at e;cases e
        .by_cases f:j=gs.size
         .subst f;rw[aj]at e;cases e
         .rw[af j B f];exact e
     .by_cases es:X=s
      .subst es;rw[Wa]at ab;cases ab
      .rw[XG _ _ es]at ab;exact g5.idle X ab
     .by_cases f:j=gs.size
      .subst f;rw[aq]at hy;cases hy;exact absurd (a7.running ak) T
      .by_cases B:j=0
       .subst B;rw[ag]at hy;cases hy;exact absurd ac T
       .rw[af j B f]at e;rw[ae j B f]at hy;exact g5.slp j x' X me lo y e hy T
  .intro j E;have B:j≠0:=λ e=>by subst e;rw[F]at E;cases E
   have f:j≠gs.size:=λ e=>by subst e;rw[I]at E;cases E
   rw[L j B f]at E;unfold Q3;rw[Y j B f];exact h.bareM j E
 grind[JD,QI,JD.cut,vf]
end
def LP.word_own{q:LP}{z:Nat×Nat}(h:LP.word .got q=some z):LP.word (.own q.rels) q=some z/\q.isOwn=false:=by
 cases q <;> simp_all[LP.word,LP.rels,LP.isOwn]
def LP.word_rls{v:Bool}{q:LP}{z:Nat×Nat}(h:LP.word (.own v) q=some z):LP.word .rls q=some z/\v=q.rels/\q.isOwn=false:=by
 cases q <;> cases v <;> simp_all[LP.word,LP.rels,LP.isOwn]
section
variable{P:Program}{t:TypeId}{N:Nat}{Stop:QJ Tk}{gs:Array Gr}{w:World}{tr:Trace}{V V':Hd->Qa Tk}{rk:Nat->Option Tr}{rel:Nat->Option Nat}{q:Nat->Nat}{sl:Option (Nat×Nat)}
def MI.inGrp{ex:Option Nat}(h:MI P t N Stop ex gs w tr V rk rel q){i b:Nat}{D:Spec}(E:i≠0)(G:(V (.run i)).tok.ph=.wrk b D) :
  ∃ds pend k,(V (.run 0)).tok.ph=.par b ds pend k/\(∀j,QL b (V j))/\∃W c wt s,Sh b t (Q1 c wt) (Qq s) w/\GI N b ds pend k (Z3 V) rel (λ i=>(V (.dep i)).M) W c wt s/\(∀g,gs[0]?=some g->g.status≠.running->s=0):=by
 have z:Z3 V i=.wrk b D:=by simp[Z3,E,G]
 have e:=h.grp;unfold QK at e;cases f:(V (.run 0)).tok.ph with
 |out=>simp_all
 |wrk _ _=>simp_all
 |rel _=>simp_all
 |lst _ _=>simp_all
 |par L ds pend k=>
  rw[f]at e;obtain⟨F,W,c,wt,s,K,B,I⟩:=e
  have H:L=b:=by
   rcases B.ph i with e'|⟨Q,e'⟩|e'|⟨j,e'⟩ <;> rw[z]at e' <;> cases e';rfl
  grind
def MI.lock{ex:Option Nat}(h:MI P t N Stop ex gs w tr V rk rel q){i:Nat}{x:QY}{s:Bool}{me:LP}{lo:Nat}(z:Q3 V i=some (.lok x s me lo)) :
  ∃u b st sm,Q3 V 0=some (.par x u)/\(∀j,QL x.m (V j))/\X8 gs w V x u b st sm/\me=b s/\lo<=(b (!s)).cls/\u s=true:=by
 obtain⟨-,-,f⟩:=h.mux;cases e:Q3 V 0 with
 |none=>simp_all
 |some E=>
  rw[e]at f;cases E with
  |lok=>exact f.elim
  |par H u=>
   obtain⟨G,b,st,sm,B⟩:=f;obtain⟨rfl,F,I,K⟩:=B.tk i _ _ _ _ z;grind
def X8.turn{gs G:Array Gr}{w w':World}{x:QY}{u:Bool->Bool}{f:Bool->LP}{st sm st' sm' i lo lo':Nat}{s:Bool}{me':LP}(h:X8 gs w V x u f st sm)(P:Q3 V i=some (.lok x s (f s) lo))
  (I:Q3 V' i=some (.lok x s me' lo')) (E:∀j,j≠i->Q3 V' j=Q3 V j) (K:Sh x.m x.t (Zc st') (Qq sm') w') (hw:LP.word me' (f (!s))=some (st',sm')) (hc:(f s).cls<=me'.cls) (Y:lo'<=(f (!s)).cls)
  (hd:((ZK f s me' false).isOwn|| (ZK f s me' true).isOwn)=true->V' .lck=ZL) (L:((ZK f s me' false).isOwn|| (ZK f s me' true).isOwn)=false->x.dep (ZK f s me') (V' .lck).M)
  (U:∀j H s me lo g,Q3 V' j=some (.lok H s me lo)->G[j]?=some g->g.status≠.running->sm'=0):X8 G w' V' x u (ZK f s me') st' sm':=by
 have ab:=(h.tk i _ _ _ _ P).2.2.2
 have F:∀j H b me lo,j≠i->Q3 V j=some (.lok H b me lo)->b=!s:=by
  intro j H b me lo z e;by_cases es:b=s
  .subst es;exact absurd (h.one j i b _ _ _ _ _ _ e P) z
  .cases s <;> cases b <;> simp_all
 refine⟨K,?_,λ j H b me N e=>?_,λ j k b ac T l₁ aa X l₂ e e'=>?_,λ b B=>?_,λ b B=>?_,hd,L,U⟩
 .grind[Hq,Wa,KM]
 .by_cases z:j=i
  .subst z;rw[I]at e;grind[Wa,KM]
  .rw[E j z]at e;obtain⟨W,a2,a3,Z⟩:=h.tk j _ _ _ _ e;have es:=F j _ _ _ _ z e;subst es;refine⟨W,by rw[KM];exact a2,?_,Z⟩;rw[Bool.not_not]at a3 ⊢;grind[Wa,Nat.le_trans]
 .by_cases z:j=i
  .grind
  .rw[E j z]at e;by_cases S:k=i
   .grind
   .rw[E k S]at e';exact h.one j k b _ _ _ _ _ _ e e'
 .by_cases es:b=s
  .grind
  .rw[XG _ _ es];rcases h.who b B with Q|⟨j,me,N,e⟩
   .exact .inl Q
   grind
 .by_cases es:b=s
  .simp_all
  .rw[XG _ _ es];exact h.idle b B
def pR(x:QY)(b:Bool->LP)(s:Bool)(me':LP)(M:List Qx)(h:me'.rels=(b s).rels):x.dep (ZK b s me') M↔x.dep b M:=by
 grind[ZK,Wa,XG,QY.dep]
def EM(b:Bool->LP)(s:Bool)(me':LP)(h:me'.isOwn=(b s).isOwn):((ZK b s me' false).isOwn|| (ZK b s me' true).isOwn)=((b false).isOwn|| (b true).isOwn):=by
 grind[ZK,Wa,XG]
def YK(b:Bool->LP)(s:Bool):((b false).isOwn|| (b true).isOwn)=((b s).isOwn|| (b (!s)).isOwn):=by
 cases s
 .rfl
 grind
def MI.mu(B:∀m g U,Stop m g U->g.status=.running){i:Nat}{g g':Gr}{r r':Tr}{d d' b:Nat}{D:Spec}{x:QY}{s:Bool}{me':LP}{lo lo' st sm st' sm':Nat}{es:Array Event}{bs:List (Nat×Bool)}{u:Bool->Bool}{H:Bool->LP}(al:lo'<=(H (!s)).cls)
  (h:MI P t N Stop (some i) gs w tr V rk rel q) (hi:gs[i]?=some g) (M:rk i=some r) (E:i≠0) (f:(V (.run i)).tok=⟨d,.wrk b D,some (.lok x s (H s) lo)⟩)
  (h0:Q3 V 0=some (.par x u)) (F:∀j,QL x.m (V j)) (hx:X8 gs w V x u H st sm)
  (az:Qc P x.t false g (Zc st) (Qq sm)=.go g' (Zc st') (Qq sm') es bs) (a4:Z8 x.m bs) (hw:LP.word me' (H (!s))=some (st',sm')) (af:(H s).cls<=me'.cls) (aj:me'.rels=(H s).rels) (L:me'.isOwn=(H s).isOwn)
  (a2:∀e∈es,GL x.m e) (hd:deafBehind d es=d') (ax:sm'=sm\/sm'=0\/mayWake P g=true) (a8:Tr.Sub r' r) (hJ:JR (Zb P t N) Stop r' false g' ((V (.run i)).lk d' b D x s me' lo')) :
  JP P t N Stop gs w sl tr rk q i:=by
 have a5:=(Array.getElem?_eq_some_iff.1 hi).1;have an:rk i≠none:=by rw[M];simp
 have ae:=hJ.running B;have G:=hx.sh;have a3:Q3 V i=some (.lok x s (H s) lo):=by unfold Q3;rw[f]
 obtain⟨ds,pend,k,ab,T,W,c,wt,a6,I,a9,ay⟩:=h.inGrp E (b:=b) (D:=D) (by rw[f])
 have am:stepG P (i==0) g w=.go g' (two w x.m x.t (Zc st') (Qq sm')) es:=by
  rw[show(i==0)=false by simpa using E];exact HD az G a4
 have ai:b≠x.m:=λ e=>I.ne G e.symm;generalize Z:(V (.run i)).lk d' b D x s me' lo'=U' at hJ;have ac:∀j,j≠i->Q2 V (.run i) U' (.run j)=V (.run j):=λ j Y=>Qh _ _ S2;have aq:∀j,Q2 V (.run i) U' (.dep j)=V (.dep j):=λ j=>Qh _ _ S1;have X:Q2 V (.run i) U' .lck=V .lck:=Qh _ _ S1
 have hM:∀j,(Q2 V (.run i) U' j).canW=(V j).canW/\(Q2 V (.run i) U' j).canR=(V j).canR:=by
  intro j;by_cases e:j=.run i
  .subst e;rw[Ql,<- Z];exact⟨rfl,rfl⟩
  .grind[Qh]
 have K:∀j,(Q2 V (.run i) U' (.run j)).tok.ph=(V (.run j)).tok.ph:=by
  intro j;by_cases e:j=i
  .subst e;rw[Ql,<- Z,f];rfl
  .rw[ac j e]
 have a7:x.m<w.heap.size:=(Array.getElem?_eq_some_iff.1 G).1;have ag:=h.wk i E an;have av:Jy V=some x.m:=by unfold Jy;rw[h0];rfl
 refine⟨_,_,_,Q2 V (.run i) U',Zp rk i (some r'),rel,q,runT_crowd_go hi am,?_,XI Jp a5 M λ au e=>S2,.refl _,rfl⟩;refine h.go B (rel':=rel) (q':=q) (es:=es) hi ac (λ j Y=>Qv _ _ Y) (λ _ _=>rfl) (λ _ _=>.inl rfl) (by rw[Qv _ _ (Ne.symm E)];exact h.root) (.inl E) ?_ ?_ (λ j Y=>by rw[aq];exact h.deps j Y) ?_ ?_ ?_ ?_ (λ e=>by grind[Qj])
 .intro au e;rw[Qj]at e;cases e;rw[Ql];refine⟨by grind,?_,λ _=>by rw[<- Z];exact⟨b,D,rfl⟩⟩;rw[h.deaf i an,f,<- Z];exact hd
 .grind[Qj]
 .refine⟨λ j=>?_,λ aa ah l hn hw M=>h.vi.sep aa ah l hn (by rw[<- (hM aa).1];exact hw) (by rw[<- (hM ah).2];exact M)⟩;have hv:=(h.vi.two (st':=Zc st') (sm':=Qq sm') G F).ok;by_cases e:j=.run i
  .subst e;rw[Ql,<- Z];exact⟨(hv (.run i)).imm,(hv (.run i)).held,(hv (.run i)).apart,(hv (.run i)).sep⟩
  grind[Qh]
 .obtain⟨rm,hti⟩:=h.ti;rw[av]at hti;have:=vp (i:=i) (fn:=g.frame.fn) (pos:=g.frame.place) hti a7 F (.inr (by rw[f];simp)) a2 (by rw[ab];intro e;exact ai (Option.some.inj e)) ag;refine⟨rm,?_⟩;simp_all[Jy,Q2,Q3,Ne.symm,two,Zc,Qq]
 .unfold QK;rw[K 0,ab];have hk:Z3 (Q2 V (.run i) U')=Z3 V:=by funext j;simp only[Z3,K]
  refine⟨λ j a ha ho M=>T j a ha ho (by rw[<- (hM j).2];exact M),W,c,wt,a6,I.two_other ai,?_,QK.woken hi (λ e=>absurd e E) ay⟩;simp_all
 .have hmi:Q3 (Q2 V (.run i) U') i=some (.lok x s me' lo'):=by unfold Q3;rw[Ql,<- Z];rfl
  have Q:∀j,j≠i->Q3 (Q2 V (.run i) U') j=Q3 V j:=λ j Y=>by grind[Q3]
  obtain⟨g1,g2,-⟩:=h.mux;refine⟨λ j x u Y e=>?_,by rw[X];exact g2,?_⟩
  .grind
  rw[Q 0 (Ne.symm E),h0];refine⟨λ j a ha ho M=>F j a ha ho S2,ZK H s me',st',sm',hx.turn a3 hmi Q G.two hw af al ?_ ?_ ?_⟩
  .rw[EM _ _ _ L,X];exact hx.dep
  .rw[EM _ _ _ L,X,pR _ _ _ _ _ aj];exact hx.dep'
  .intro j x' s' me lo1 y e hy hns
   have ej:j≠i:=λ ej=>by
    grind[Wl]
   rw[Q j ej]at e;rw[J7 ej]at hy;obtain⟨z,hz,rfl⟩:=Option.map_eq_some_iff.1 hy;have aw:z.status≠.running:=λ M=>hns (by grind[Wg]);rcases ax with rfl|rfl|a0
   .exact hx.slp j _ _ _ _ z e hz aw
   .rfl
   .exfalso;have ap:rk j≠none:=λ hn=>by rw[h.bareM j hn]at e;cases e
    obtain⟨a1,ak⟩:=Option.ne_none_iff_exists'.1 ap;obtain⟨ao,ad,hg⟩:=h.live j a1 (λ e'=>ej (Option.some.inj e').symm) ak;have S:=ad.running B;rcases hg with hg|⟨hg,ho,_⟩
    .simp_all
    .rw[hz]at hg;cases hg;refine hns ?_
     have:woken P g g' (two w x.m x.t (Zc st') (Qq sm')) { ao with status:=.blocked }=ao:=by
      unfold woken;rw[if_pos,again_blocked S ho];rw[ae,a0];rfl
     simp_all
def MI.mblk{i:Nat}{g:Gr}{r:Tr}{d b:Nat}{D:Spec}{x:QY}{s:Bool}{lo st:Nat}{bs:List (Nat×Bool)}{u:Bool->Bool}{I:Bool->LP}
  (h:MI P t N Stop (some i) gs w tr V rk rel q) (L:gs[i]?=some g) (E:g.status=.running) (T:g.offers=none) (Q:rk i=some r) (G:i≠0) (f:(V (.run i)).tok=⟨d,.wrk b D,some (.lok x s .wai lo)⟩)
  (K:Q3 V 0=some (.par x u)) (z:∀j,QL x.m (V j)) (e:X8 gs w V x u I st 0)
  (H:Qc P x.t false g (Zc st) (Qq 0)=.blocked { g with status:=.blocked } (Zc st) (Qq 0) bs) (F:Z8 x.m bs) (U:JR (Zb P t N) Stop r false g (V (.run i))):JP P t N Stop gs w sl tr rk q i:=by
 have B:stepG P (i==0) g w=.go { g with status:=.blocked } w #[]:=by
  rw[show(i==0)=false by simpa using G];have:=E4 H e.sh F
  rwa [e.sh.two_same]at this
 have S:∀j,j≠i->(gs.setIfInBounds i { g with status:=.blocked })[j]?=gs[j]?:=λ j M=>Array.getElem?_setIfInBounds_ne (Ne.symm M);refine h.sleep L E T Q (.inr ⟨d,b,D,x,s,lo,f⟩) B (by grind) ?_ ?_
 .have hG:=h.grp;simp_all[QK,Ne.symm]
 .obtain⟨g1,g2,-⟩:=h.mux;refine⟨g1,g2,?_⟩;rw[K];exact⟨z,I,st,0,e.sh,e.word,e.tk,e.one,e.who,e.idle,e.dep,e.dep',λ _ _ _ _ _ _ _ _ _=>rfl⟩
def MI.macq(K:∀m g U,Stop m g U->g.status=.running){i:Nat}{g g':Gr}{r r':Tr}{b:Nat}{D:Spec}{x:QY}{s:Bool}{lo st sm:Nat}{bs:List (Nat×Bool)}{u:Bool->Bool}{G:Bool->LP}
  (h:MI P t N Stop (some i) gs w tr V rk rel q) (hi:gs[i]?=some g) (Z:rk i=some r) (B:i≠0) (F:(V (.run i)).tok=⟨0,.wrk b D,some (.lok x s (G s) lo)⟩) (ad:G s=.got) (au:lo<=(G (!s)).cls)
  (h0:Q3 V 0=some (.par x u)) (ah:∀j,QL x.m (V j)) (hx:X8 gs w V x u G st sm)
  (aq:∀st sm,Qc P x.t false g st sm=.go g' st sm #[Z2 (.acquire ⟨x.m,0,none⟩)] bs) (ay:Z8 x.m bs) (ab:Tr.Sub r' r)
  (hJ:JR (Zb P t N) Stop r' false g' { (V (.run i))with M:=(V (.run i)).M++(V .lck).M,tok:=⟨0,.wrk b D,some (.lok x s (.own (G (!s)).rels) lo)⟩ }):JP P t N Stop gs w sl tr rk q i:=by
 have az:=(Array.getElem?_eq_some_iff.1 hi).1;have aj:rk i≠none:=by rw[Z];simp
 have ae:=hJ.running K;have T:=hx.sh;have ax:Q3 V i=some (.lok x s (G s) lo):=by unfold Q3;rw[F]
 obtain⟨ds,pend,k,am,Y,W,c,wt,a0,ac,ao,ap⟩:=h.inGrp B (b:=b) (D:=D) (by rw[F])
 have ag:stepG P (i==0) g w=.go g' w #[Z2 (.acquire ⟨x.m,0,none⟩)]:=by
  rw[show(i==0)=false by simpa using B];have:=HD (aq (Zc st) (Qq sm)) T ay
  rwa [T.two_same]at this
 have ai:Deaf tr i=0:=by rw[h.deaf i aj,F]
 have hw:=hx.word;rw[Hq _ s,ad]at hw;obtain⟨aw,a3⟩:=LP.word_own hw
 let V0:Hd->Qa Tk:=Q2 (Q2 V (.run i) ((V (.run i)).with (V .lck).M)) .lck (Qa.bare ⟨0,.out,none⟩)
 have L:VI V0 w:=h.vi.join (k:=.run i) (k':=.lck) S1 _
 let f:Hd->Qa Tk:=Q2 V0 (.run i) { (V (.run i))with M:=(V (.run i)).M++(V .lck).M,tok:=⟨0,.wrk b D,some (.lok x s (.own (G (!s)).rels) lo)⟩ }
 have v1:f (.run i)={ (V (.run i))with M:=(V (.run i)).M++(V .lck).M,tok:=⟨0,.wrk b D,some (.lok x s (.own (G (!s)).rels) lo)⟩ }:=Ql ..;have z1:V0 (.run i)=(V (.run i)).with (V .lck).M:=by show Q2 _ _ _ _=_;rw[Qh _ _ S1,Ql]
 have v2:∀j,j≠i->f (.run j)=V (.run j):=λ j Q=>by show Q2 _ _ _ _=_;rw[Qh _ _ (by intro e;cases e;exact Q rfl)];show Q2 _ _ _ _=_;rw[Qh _ _ S1,Qh _ _ (by intro e;cases e;exact Q rfl)]
 have vd:∀j,f (.dep j)=V (.dep j):=λ j=>by show Q2 _ _ _ _=_;rw[Qh _ _ S1];show Q2 _ _ _ _=_;rw[Qh _ _ S1,Qh _ _ S1]
 have vm:f .lck=ZL:=by show Q2 _ _ _ _=_;rw[Qh _ _ S1];exact Ql ..
 have hs:∀k,(f k).canW=(V0 k).canW/\(f k).canR=(V0 k).canR:=by
  intro k;by_cases e:k=.run i
  .subst e;rw[v1,z1];exact⟨rfl,rfl⟩
  .rw[show f k=_ from Qh _ _ e];exact⟨rfl,rfl⟩
 have an:VI f w:=by
  refine⟨λ k=>?_,λ aa af l hn hw Z=>L.sep aa af l hn (by rw[<- (hs aa).1];exact hw) (by rw[<- (hs af).2];exact Z)⟩;by_cases e:k=.run i
  .subst e;rw[v1];have:=L.ok (.run i);rw[z1]at this;exact⟨this.imm,this.held,this.apart,this.sep⟩
  .rw[show f k=_ from Qh _ _ e];exact L.ok k
 have hW:∀k l,(f k).canW l->k≠.lck/\((V k).canW l\/(k=.run i/\(V .lck).canW l)):=by
  intro k l E;cases k with
  |run j=>
   refine⟨S1,?_⟩;by_cases e:j=i
   .subst e;rw[(hs _).1,z1]at E;exact(Tc (τ:=V .lck) E).imp id λ h=>⟨rfl,h⟩
   .rw[v2 j e]at E;exact .inl E
  |dep j=>rw[vd]at E;exact⟨S1,.inl E⟩
  |lck=>rw[vm]at E;exact absurd E (Wk _ _)
 have hR:∀k l,(f k).canR l->k≠.lck/\((V k).canR l\/(k=.run i/\(V .lck).canR l)):=by
  intro k l E;cases k with
  |run j=>
   refine⟨S1,?_⟩;by_cases e:j=i
   .subst e;rw[(hs _).2,z1]at E;exact(Om (τ:=V .lck) E).imp id λ h=>⟨rfl,h⟩
   .rw[v2 j e]at E;exact .inl E
  |dep j=>rw[vd]at E;exact⟨S1,.inl E⟩
  |lck=>rw[vm]at E;exact absurd E (Wj _ _)
 have H:∀m,(∀j,QL m (V j))->∀j,QL m (f j):=λ m hm j a ha ho av=>by
  rcases(hR _ _ av).2 with h1|⟨_,h1⟩
  .exact hm _ a ha ho h1
  .exact hm _ a ha ho h1
 have I:∀j,(f (.run j)).tok.ph=(V (.run j)).tok.ph:=by
  intro j;by_cases e:j=i
  .subst e;rw[v1,F]
  .rw[v2 j e]
 have a1:x.m<w.heap.size:=(Array.getElem?_eq_some_iff.1 T).1;have a2:=h.wk i B aj;have al:Jy V=some x.m:=by unfold Jy;rw[h0];rfl
 have e0:MemOp.ofEvents i g.frame.fn g.frame.place #[Z2 (.acquire ⟨x.m,0,none⟩)]=#[{ g:=i,fn:=g.frame.fn,pos:=g.frame.place,act:=.mark (.acquire ⟨x.m,0,none⟩) }]:=by
  rw[ofEvents_eq];simp[Z2,MemAct.ofEvent]
 refine⟨_,_,_,f,Zp rk i (some r'),rel,q,runT_crowd_go hi ag,?_,XI Jp az Z λ ak e=>by cases e;exact ab,.refl _,rfl⟩;refine h.go K (V':=f) (rel':=rel) (q':=q) (es:=#[Z2 (.acquire ⟨x.m,0,none⟩)]) hi v2 (λ j Q=>Qv _ _ Q) (λ _ _=>rfl) (λ _ _=>.inl rfl) (by rw[Qv _ _ (Ne.symm B)];exact h.root) (.inl B) ?_ ?_ (λ j Q=>by rw[vd];exact h.deps j Q) an ?_ ?_ ?_ (λ e=>by rw[Qj]at e;cases e)
 .intro ak e;rw[Qj]at e;cases e;rw[v1];refine⟨by rw[show(i==0)=false by simpa using B];exact hJ,?_,λ _=>⟨b,D,rfl⟩⟩;rw[ai];rfl
 .intro e;rw[Qj]at e;cases e
 .obtain⟨rm,hti⟩:=h.ti;refine⟨rm,?_⟩;have e1:Jy f=Jy V:=by unfold Jy Q3;rw[v2 0 (Ne.symm B)]
  rw[e1,e0];simp only[I];exact hti.macq (y:={ g:=i,fn:=g.frame.fn,pos:=g.frame.place,act:=.mark (.acquire ⟨x.m,0,none⟩) }) al rfl a1 ai (.inr (by rw[F];simp)) hW hR
 .unfold QK;rw[I 0,am];have hk:Z3 f=Z3 V:=by funext j;simp only[Z3,I]
  refine⟨H _ Y,W,c,wt,a0,ac,?_,QK.woken hi (λ e=>absurd e B) ap⟩;rw[hk];simpa only[vd]using ao
 .have hmi:Q3 f i=some (.lok x s (.own (G (!s)).rels) lo):=by unfold Q3;rw[v1]
  have S:∀j,j≠i->Q3 f j=Q3 V j:=λ j Q=>by unfold Q3;rw[v2 j Q]
  obtain⟨g1,g2,-⟩:=h.mux;refine⟨λ j x u Q e=>?_,by rw[vm];rfl,?_⟩
  .by_cases X:j=i
   .subst X;rw[hmi]at e;cases e
   .rw[S j X]at e;exact g1 j x u Q e
  rw[S 0 (Ne.symm B),h0];refine⟨H _ ah,ZK G s (.own (G (!s)).rels),st,sm,hx.turn ax hmi S T aw (by rw[ad];exact Nat.le_refl _) au (λ _=>vm) (λ e=>?_) ?_⟩
  .exfalso;rw[YK _ s,Wa]at e;simp[LP.isOwn]at e
  .intro j x' s' me lo1 y e hy hns
   have X:j≠i:=λ X=>by
    subst X;rw[Wl hi]at hy;cases hy;exact hns ae
   rw[S j X]at e;rw[J7 X]at hy;obtain⟨z,hz,rfl⟩:=Option.map_eq_some_iff.1 hy;exact hx.slp j _ _ _ _ z e hz λ Z=>hns (by rw[Wg Z];exact Z)
def MI.mrel(K:∀m g U,Stop m g U->g.status=.running){i:Nat}{g g':Gr}{r r':Tr}{b:Nat}{D:Spec}{x:QY}{s v:Bool}{lo st sm:Nat}{bs:List (Nat×Bool)}{u:Bool->Bool}{Y:Bool->LP}{M₁ M₂:List Qx}
  (h:MI P t N Stop (some i) gs w tr V rk rel q) (hi:gs[i]?=some g) (hr:rk i=some r) (f:i≠0) (F:(V (.run i)).tok=⟨0,.wrk b D,some (.lok x s (Y s) lo)⟩) (ac:Y s=.own v) (av:lo<=(Y (!s)).cls)
  (h0:Q3 V 0=some (.par x u)) (ah:∀j,QL x.m (V j)) (hx:X8 gs w V x u Y st sm) (hM:(V (.run i)).M=M₁++M₂) (hD:x.sp (if s then v else true) (if s then true else v) M₁)
  (au:∀st sm,Qc P x.t false g st sm=.go g' st sm #[Z2 (.releaseMerge ⟨x.m,0,none⟩)] bs) (az:Z8 x.m bs) (aa:Tr.Sub r' r)
  (hJ:JR (Zb P t N) Stop r' false g' { (V (.run i))with M:=M₂,tok:=⟨0,.wrk b D,some (.lok x s .rls lo)⟩ }):JP P t N Stop gs w sl tr rk q i:=by
 have a0:=(Array.getElem?_eq_some_iff.1 hi).1;have aj:rk i≠none:=by rw[hr];simp
 have ad:=hJ.running K;have S:=hx.sh;have ay:Q3 V i=some (.lok x s (Y s) lo):=by unfold Q3;rw[F]
 obtain⟨ds,pend,k,an,X,W,c,wt,a1,ab,ap,aq⟩:=h.inGrp f (b:=b) (D:=D) (by rw[F])
 have ag:stepG P (i==0) g w=.go g' w #[Z2 (.releaseMerge ⟨x.m,0,none⟩)]:=by
  rw[show(i==0)=false by simpa using f];have:=HD (au (Zc st) (Qq sm)) S az
  rwa [S.two_same]at this
 have ai:Deaf tr i=0:=by rw[h.deaf i aj,F]
 have hw:=hx.word;rw[Hq _ s,ac]at hw;obtain⟨ax,af,ak⟩:=LP.word_rls hw;have hf:=UI (tp:=(⟨0,.wrk b D,some (.lok x s .rls lo)⟩:Tk)) (tc:=(⟨0,.out,none⟩:Tk)) (h.vi.ok (.run i)) (M₁:=M₁) (M₂:=M₂) (by rw[hM])
 let E:Hd->Qa Tk:=Q2 (Q2 V (.run i) ⟨(V (.run i)).I,M₂,⟨0,.wrk b D,some (.lok x s .rls lo)⟩⟩) .lck ⟨λ _=>none,M₁,⟨0,.out,none⟩⟩
 have ao:VI E w:=h.vi.fork hf S1;have v1:E (.run i)=⟨(V (.run i)).I,M₂,⟨0,.wrk b D,some (.lok x s .rls lo)⟩⟩:=by show Q2 _ _ _ _=_;rw[Qh _ _ S1,Ql]
 have Z:∀j,j≠i->E (.run j)=V (.run j):=λ j Q=>by show Q2 _ _ _ _=_;rw[Qh _ _ S1,Qh _ _ (by intro e;cases e;exact Q rfl)]
 have vd:∀j,E (.dep j)=V (.dep j):=λ j=>by show Q2 _ _ _ _=_;rw[Qh _ _ S1,Qh _ _ S1]
 have vm:E .lck=⟨λ _=>none,M₁,⟨0,.out,none⟩⟩:=Ql ..
 have hW:∀k l,(E k).canW l->((V k).canW l/\k≠.lck)\/(k=.lck/\(V (.run i)).canW l):=by
  intro k l B;cases k with
  |run j=>
   by_cases e:j=i
   .subst e;rw[v1]at B;exact .inl ⟨hf.wp l B,S1⟩
   .rw[Z j e]at B;exact .inl ⟨B,S1⟩
  |dep j=>rw[vd]at B;exact .inl ⟨B,S1⟩
  |lck=>rw[vm]at B;exact .inr ⟨rfl,hf.wc l B⟩
 have hR:∀k l,(E k).canR l->((V k).canR l/\k≠.lck)\/(k=.lck/\(V (.run i)).canR l):=by
  intro k l B;cases k with
  |run j=>
   by_cases e:j=i
   .subst e;rw[v1]at B;exact .inl ⟨hf.rp l B,S1⟩
   .rw[Z j e]at B;exact .inl ⟨B,S1⟩
  |dep j=>rw[vd]at B;exact .inl ⟨B,S1⟩
  |lck=>rw[vm]at B;exact .inr ⟨rfl,hf.rc l B⟩
 have G:∀m,(∀j,QL m (V j))->∀j,QL m (E j):=λ m hm j a ha ho aw=>by
  rcases hR _ _ aw with⟨h1,_⟩|⟨_,h1⟩
  .exact hm _ a ha ho h1
  .exact hm _ a ha ho h1
 have H:∀j,(E (.run j)).tok.ph=(V (.run j)).tok.ph:=by
  intro j;by_cases e:j=i
  .subst e;rw[v1,F]
  .rw[Z j e]
 have a2:x.m<w.heap.size:=(Array.getElem?_eq_some_iff.1 S).1;have ae:=h.wk i f aj;have am:Jy V=some x.m:=by unfold Jy;rw[h0];rfl
 have e0:MemOp.ofEvents i g.frame.fn g.frame.place #[Z2 (.releaseMerge ⟨x.m,0,none⟩)]=#[{ g:=i,fn:=g.frame.fn,pos:=g.frame.place,act:=.mark (.releaseMerge ⟨x.m,0,none⟩) }]:=by
  rw[ofEvents_eq];simp[Z2,MemAct.ofEvent]
 refine⟨_,_,_,E,Zp rk i (some r'),rel,q,runT_crowd_go hi ag,?_,XI Jp a0 hr λ al e=>by cases e;exact aa,.refl _,rfl⟩;refine h.go K (V':=E) (rel':=rel) (q':=q) (es:=#[Z2 (.releaseMerge ⟨x.m,0,none⟩)]) hi Z (λ j Q=>Qv _ _ Q) (λ _ _=>rfl) (λ _ _=>.inl rfl) (by rw[Qv _ _ (Ne.symm f)];exact h.root) (.inl f) ?_ ?_ (λ j Q=>by rw[vd];exact h.deps j Q) ao ?_ ?_ ?_ (λ e=>by rw[Qj]at e;cases e)
 .intro al e;rw[Qj]at e;cases e;rw[v1];refine⟨by rw[show(i==0)=false by simpa using f];exact hJ,?_,λ _=>⟨b,D,rfl⟩⟩;rw[ai];rfl
 .intro e;rw[Qj]at e;cases e
 .obtain⟨rm,hti⟩:=h.ti;refine⟨some tr.size,?_⟩;have e1:Jy E=Jy V:=by unfold Jy Q3;rw[Z 0 (Ne.symm f)]
  rw[e1,e0];simp only[H];exact hti.mrel (y:={ g:=i,fn:=g.frame.fn,pos:=g.frame.place,act:=.mark (.releaseMerge ⟨x.m,0,none⟩) }) am rfl a2 ai ae hW hR
 .unfold QK;rw[H 0,an];have hk:Z3 E=Z3 V:=by funext j;simp only[Z3,H]
  refine⟨G _ X,W,c,wt,a1,ab,?_,QK.woken hi (λ e=>absurd e f) aq⟩;rw[hk];simpa only[vd]using ap
 .have hmi:Q3 E i=some (.lok x s .rls lo):=by unfold Q3;rw[v1]
  have L:∀j,j≠i->Q3 E j=Q3 V j:=λ j Q=>by unfold Q3;rw[Z j Q]
  obtain⟨g1,g2,-⟩:=h.mux;refine⟨λ j x u Q e=>?_,by rw[vm],?_⟩
  .by_cases T:j=i
   .subst T;rw[hmi]at e;cases e
   .rw[L j T]at e;exact g1 j x u Q e
  rw[L 0 (Ne.symm f),h0];refine⟨G _ ah,ZK Y s .rls,st,sm,hx.turn ay hmi L S ax (by rw[ac];exact Nat.le_refl _) av (λ e=>?_) (λ _=>?_) ?_⟩
  .exfalso;rw[YK _ s,Wa,KM,ak]at e;simp[LP.isOwn]at e
  .rw[vm];unfold QY.dep;cases s
   .rw[Wa,XG _ _ S1];rw[af]at hD;exact hD
   .rw[Wa,XG _ _ S1];rw[af]at hD;exact hD
  .intro j x' s' me lo1 y e hy hns
   have T:j≠i:=λ T=>by
    subst T;rw[Wl hi]at hy;cases hy;exact hns ad
   rw[L j T]at e;rw[J7 T]at hy;obtain⟨z,hz,rfl⟩:=Option.map_eq_some_iff.1 hy;exact hx.slp j _ _ _ _ z e hz λ hr=>hns (by rw[Wg hr];exact hr)
end
end Go.TM

