/- Lemmas. No conditions. -/
import Derived.Conc.CrowdStepC
import Derived.Conc.JoinWorld
import Derived.Test.YtnpfcnfhfkflhaaGreatDoorB10
set_option linter.all false
open List
namespace Go.TM
open Go.Conc
def JS(n:Nat)(rk:Nat->Option Tr):List Tr:=(range n).filterMap rk
theorem Ym(n:Nat)(rk:Nat->Option Tr):JS (n+1) rk=JS n rk++(rk n).toList:=by
 simp only[JS,range_succ,filterMap_append];cases h:rk n <;> simp[h]
def Lw{n:Nat}{rk rk':Nat->Option Tr}(h:∀i,i<n->rk i=rk' i):JS n rk=JS n rk':=by
 induction n with
 |zero=>rfl
 |succ n b=>grind[Ym]
def Tu{n i:Nat}(rk:Nat->Option Tr)(x:Option Tr)(f:i<n):(JS n (Zp rk i x)).Perm (x.toList++JS n (Zp rk i none)):=by
 induction n with
 |zero=>omega
 |succ n b=>
  rw[Ym,Ym];by_cases e:i=n
  .subst e;rw[Qj,Qj,Lw (rk:=Zp rk i x) (rk':=Zp rk i none) λ j h=>by rw[Qv _ _ O1,Qv _ _ O1]];simp only[Option.toList_none,append_nil];exact perm_append_comm
  .rw[Qv _ _ O1,Qv _ _ O1];have:=(b O1).append_right (rk n).toList
   simp_all
def LV{n i:Nat}{rk:Nat->Option Tr}{r:Tr}(b:i<n)(f:rk i=some r):(JS n rk).Perm (r::JS n (Zp rk i none)):=by
 have:=Tu rk (some r) b;have e:Zp rk i (some r)=rk:=by funext j;grind[Zp]
 rwa [e]at this
theorem Rh{n i:Nat}{rk:Nat->Option Tr}{r:Tr}{x:Option Tr}(b:i<n)(f:rk i=some r)(h:∀e,x=some e->Tr.Sub e r):ZQ (JS n (Zp rk i x)) (JS n rk):=
 ⟨r,JS n (Zp rk i none),x.toList,LV b f,Tu rk x b,λ c w=>h c S2⟩
theorem vf{n i:Nat}{rk:Nat->Option Tr}{r b e:Tr}(f:i<n)(z:rk i=some r)(h:Tr.Sub b r)(w:Tr.Sub e r):ZQ (JS (n+1) (Zp (Zp rk i (some b)) n (some e))) (JS n rk):=by
 refine⟨r,JS n (Zp rk i none),[e,b],LV f z,?_,by simp[h,w]⟩;rw[Ym,Qj,Lw (rk:=Zp (Zp rk i (some b)) n (some e)) (rk':=Zp rk i (some b)) λ j B=>Qv _ _ O1];have:=Tu rk (some b) f;simp only[Option.toList_some]at this ⊢;refine(perm_append_comm).trans ?_;simp_all
def ZO(p:Ph):Prop:=∃b D,p=.wrk b D
def Z3(V:Hd->Qa Tk)(i:Nat):Ph:=if i=0 then .out else(V (.run i)).tok.ph
def ZL:Qa Tk:=Qa.bare ⟨0,.out,none⟩
def Q3(V:Hd->Qa Tk)(i:Nat):Option ZS:=(V (.run i)).tok.mu
def Jy(V:Hd->Qa Tk):Option Nat:=ZS.mb (Q3 V 0)
structure X8(gs:Array Gr)(w:World)(V:Hd->Qa Tk)(x:QY)(u:Bool->Bool)(lp:Bool->LP)(st sm:Nat):Prop where
 sh:Sh x.m x.t (Zc st) (Qq sm) w
 word:L7 lp=some (st,sm)
 tk:∀i x' s me lo,Q3 V i=some (.lok x' s me lo)->x'=x/\me=lp s/\lo<=(lp (!s)).cls/\u s=true
 one:∀i j s x_1 m_1 l₁ x_2 m_2 l₂,Q3 V i=some (.lok x_1 s m_1 l₁)->Q3 V j=some (.lok x_2 s m_2 l₂)->i=j
 who:∀s,u s=true->lp s=.fin\/∃i me lo,Q3 V i=some (.lok x s me lo)
 idle:∀s,u s=false->lp s=.idle
 dep:((lp false).isOwn|| (lp true).isOwn)=true->V .lck=ZL
 dep':((lp false).isOwn|| (lp true).isOwn)=false->x.dep lp (V .lck).M
 slp:∀i x' s me lo g,Q3 V i=some (.lok x' s me lo)->gs[i]?=some g->g.status≠.running->sm=0
def JK(gs:Array Gr)(w:World)(V:Hd->Qa Tk):Prop:=
 (∀i x u,i≠0->Q3 V i≠some (.par x u))/\(V .lck).I=(λ _=>none) /\
 match Q3 V 0 with
 |none=>(∀i,Q3 V i=none)/\V .lck=ZL
 |some (.par x u)=>(∀j,QL x.m (V j))/\∃b st sm,X8 gs w V x u b st sm
 |some (.lok ..)=>False
theorem X8.at{gs f:Array Gr}{w w':World}{V V':Hd->Qa Tk}{x:QY}{u:Bool->Bool}{L:Bool->LP}{st sm:Nat}(h:X8 gs w V x u L st sm)(I:∀i,Q3 V' i=Q3 V i)(K:V' .lck=V .lck)
  (B:Sh x.m x.t (Zc st) (Qq sm) w') (z:∀i b s me lo g',Q3 V i=some (.lok b s me lo)->f[i]?=some g'->g'.status≠.running->∃g,gs[i]?=some g/\g.status≠.running):X8 f w' V' x u L st sm:=by
 refine⟨B,h.word,λ i b s me lo e=>h.tk i b s me lo S2,λ i j s G E l₁ H F l₂ e e'=>h.one i j s G E l₁ H F l₂ S2 S2,λ s S=>(h.who s S).imp id λ⟨i,me,lo,e⟩=>⟨i,me,lo,by rw[I];exact e⟩,h.idle,λ e=>by rw[K];exact h.dep e,λ e=>by rw[K];exact h.dep' e,λ i b s me lo g' e P Q=>?_⟩;rw[I]at e;obtain⟨g,M,N⟩:=z i b s me lo g' e P Q;exact h.slp i b s me lo g e M N
theorem JK.at{gs b:Array Gr}{w w':World}{V V':Hd->Qa Tk}(h:JK gs w V)(H:∀i,Q3 V' i=Q3 V i)(I:V' .lck=V .lck)(f:∀m,(∀j,QL m (V j))->m<w.heap.size->∀j,QL m (V' j))
  (F:∀m t st sm,(∀j,QL m (V j))->Sh m t (Zc st) (Qq sm) w->Sh m t (Zc st) (Qq sm) w')
  (E:∀i M s me lo g',Q3 V i=some (.lok M s me lo)->b[i]?=some g'->g'.status≠.running->∃g,gs[i]?=some g/\g.status≠.running):JK b w' V':=by
 obtain⟨N,K,z⟩:=h;refine⟨λ i x u P=>S2,by rw[I];exact K,?_⟩;rw[H];cases e:Q3 V 0 with
 |none=>simp_all
 |some mu=>
  rw[e]at z;cases mu with
  |lok=>exact z
  |par x u=>
   obtain⟨G,L,st,sm,B⟩:=z;exact⟨f _ G (Array.getElem?_eq_some_iff.1 B.sh).1,L,st,sm,B.at H I (F _ _ _ _ G B.sh) E⟩
def SW(i:Nat)(tk:Tk):Prop:=(i=0/\∃b ds mu,tk=⟨1,.par b ds false .wait,mu⟩)\/∃d b D x s lo,tk=⟨d,.wrk b D,some (.lok x s .wai lo)⟩
def QK(t:TypeId)(N:Nat)(gs:Array Gr)(w:World)(V:Hd->Qa Tk)(rel:Nat->Option Nat):Prop:=
 match(V (.run 0)).tok.ph with
 |.out=>(∀i,i≠0->(V (.run i)).tok.ph=.out)/\∀i,rel i=none
 |.par b ds pend k=>(∀j,QL b (V j))/\∃W c wt s,Sh b t (Q1 c wt) (Qq s) w/\GI N b ds pend k (Z3 V) rel (λ i=>(V (.dep i)).M) W c wt s/\(∀g,gs[0]?=some g->g.status≠.running->s=0)
 |_=>False
structure MI(P:Program)(t:TypeId)(N:Nat)(Stop:QJ Tk)(ex:Option Nat)(gs:Array Gr)(w:World)(tr:Trace)(V:Hd->Qa Tk)(rk:Nat->Option Tr)(rel:Nat->Option Nat)(q:Nat->Nat):Prop where
 live:∀i r,ex≠some i->rk i=some r->∃g,JR (Zb P t N) Stop r (i==0) g (V (.run i)) /\
  (gs[i]?=some g\/(gs[i]?=some { g with status:=.blocked }/\g.offers=none/\SW i (V (.run i)).tok))
 root:rk 0≠none
 gone:∀i g,rk i=none->gs[i]?=some g->(V (.run i)).tok.ph=.out->QuitsD P (q i) (Deaf tr i) g
 tail:∀i,rk i=none->(V (.run i)).tok.ph≠.out->∃g b,gs[i]?=some g/\(V (.run 0)).tok.ph.blk=some b/\Tl P t N b (q i) (Deaf tr i) (V (.run i)).tok.ph g
 above:∀i,gs.size<=i->rk i=none/\Deaf tr i=0/\rel i=none
 bare:∀i,rk i=none->(V (.run i)).I=(λ _=>none)/\(V (.run i)).M=[]
 wk:∀i,i≠0->rk i≠none->ZO (V (.run i)).tok.ph
 wk':∀i,ZO (V (.run i)).tok.ph->rk i≠none
 deaf:∀i,rk i≠none->Deaf tr i=(V (.run i)).tok.d
 deps:∀i,rel i=none->V (.dep i)=ZL
 vi:VI V w
 ti:∃rm,TI (λ k=>(V k).canW) (λ k=>(V k).canR) rel (V (.run 0)).tok.ph.blk (Jy V) rm (λ i=>i=0\/(V (.run i)).tok.ph≠.out) (λ i=>ZO (V (.run i)).tok.ph) w.heap.size tr
 grp:QK t N gs w V rel
 mux:JK gs w V
 bareM:∀i,rk i=none->Q3 V i=none
section
variable{P:Program}{t:TypeId}{N:Nat}{Stop:QJ Tk}{gs:Array Gr}{w:World}{tr:Trace}{V:Hd->Qa Tk}{rk:Nat->Option Tr}{rel:Nat->Option Nat}{q:Nat->Nat}
def JR.running(e:∀m g U,Stop m g U->g.status=.running):∀{r:Tr}{m:Bool}{g:Gr}{U:Qa Tk},JR (Zb P t N) Stop r m g U->g.status=.running:=by
 intro r
 induction r using Tr.sub_wf.induction with
 |_ r E=>
  intro m g U h;obtain⟨f,_,h|h|h⟩:=h.step
  .grind
  .exact h.1
  .have h:QD P t N _ m g f:=h;cases h with
   |make z w k=>grind
   |makeM z w B k=>grind
   |quiet b|dis b|ena b|add b|said b|look b|sema b|look2 b|acq b|acqM b|go b|lay b|mu b|mblk b|macq b|mrel b=>exact b
theorem Wg{g g' h:Gr}{w':World}(b:h.status=.running):woken P g g' w' h=h:=by
 grind[woken,Goroutine.again]
def RU{g g' h:Gr}{w':World}(e:h.status=.running)(b:h.offers=none):woken P g g' w' { h with status:=.blocked }=h\/woken P g g' w' { h with status:=.blocked }={ h with status:=.blocked }:=by
 grind[woken,again_blocked]
def behind(P:Program)(gs:Array Gr)(i:Nat)(g g':Gr)(w':World):Array Gr:=(gs.map (woken P g g' w')).setIfInBounds i g'
theorem Wl{i:Nat}{g g':Gr}{w':World}(b:gs[i]?=some g):(behind P gs i g g' w')[i]?=some g':=by
 grind[behind]
def J7{i j:Nat}{g g':Gr}{w':World}(h:j≠i):(behind P gs i g g' w')[j]?=(gs[j]?).map (woken P g g' w'):=by
 simp_all[behind,Array.getElem?_setIfInBounds_ne,Ne.symm,Array.getElem?_map]
def Jp{i:Nat}{g g':Gr}{w':World}:(behind P gs i g g' w').size=gs.size:=by simp[behind]
def Tl.running{b:Nat}:∀{n d:Nat}{p:Ph}{g:Gr},Tl P t N b n d p g->g.status=.running
 |0,_,_,_,h=>h.elim
 |_+1,_,_,_,h=>h.1
theorem MI.go{i:Nat}(h:MI P t N Stop (some i) gs w tr V rk rel q)(F:∀m g U,Stop m g U->g.status=.running){g g':Gr}{w':World}{es:Array Event}{V':Hd->Qa Tk}{rk':Nat->Option Tr}{rel':Nat->Option Nat}{q':Nat->Nat}
  (hi:gs[i]?=some g) (B:∀j,j≠i->V' (.run j)=V (.run j)) (z:∀j,j≠i->rk' j=rk j) (hq:∀j,j≠i->q' j=q j) (ag:∀j,j≠i->rel' j=rel j\/rel' j=none) (K:rk' 0≠none)
  (f:i≠0\/(V' (.run 0)).tok.ph.blk=(V (.run 0)).tok.ph.blk\/∀j,j≠0->(V (.run j)).tok.ph=.out)
  (Y:∀r,rk' i=some r->JR (Zb P t N) Stop r (i==0) g' (V' (.run i))/\deafBehind (Deaf tr i) es=(V' (.run i)).tok.d/\(i≠0->ZO (V' (.run i)).tok.ph))
  (X:rk' i=none->i≠0/\(V' (.run i)).I=(λ _=>none)/\(V' (.run i)).M=[]/\¬ZO (V' (.run i)).tok.ph /\
   (((V' (.run i)).tok.ph=.out/\QuitsD P (q' i) (deafBehind (Deaf tr i) es) g')\/((V' (.run i)).tok.ph≠.out/\∃b,(V (.run 0)).tok.ph.blk=some b/\Tl P t N b (q' i) (deafBehind (Deaf tr i) es) (V' (.run i)).tok.ph g')))
  (G:∀j,rel' j=none->V' (.dep j)=ZL) (ac:VI V' w')
  (ab:∃rm,TI (λ k=>(V' k).canW) (λ k=>(V' k).canR) rel' (V' (.run 0)).tok.ph.blk (Jy V') rm (λ i=>i=0\/(V' (.run i)).tok.ph≠.out) (λ i=>ZO (V' (.run i)).tok.ph) w'.heap.size (tr++MemOp.ofEvents i g.frame.fn g.frame.place es))
  (Q:QK t N (behind P gs i g g' w') w' V' rel') (S:JK (behind P gs i g g' w') w' V') (ae:rk' i=none->Q3 V' i=none) :
  MI P t N Stop none (behind P gs i g g' w') w' (tr++MemOp.ofEvents i g.frame.fn g.frame.place es) V' rk' rel' q':=by
 have af:=(Array.getElem?_eq_some_iff.1 hi).1
 have hD:∀j,j≠i->Deaf (tr++MemOp.ofEvents i g.frame.fn g.frame.place es) j=Deaf tr j:=by
  intro j H;refine Deaf_other tr (Ne.symm H) _ ?_;intro op Z;obtain⟨e,_,rfl⟩:=Go.Conc.mem_ofEvents Z;rfl
 have ad:Deaf (tr++MemOp.ofEvents i g.frame.fn g.frame.place es) i=deafBehind (Deaf tr i) es:=Deaf_own ..;refine⟨?_,K,?_,?_,?_,?_,?_,?_,?_,G,ac,ab,Q,S,λ j H=>?_⟩
 .intro j r _ hr;by_cases e:j=i
  .grind[Wl]
  .rw[z j e]at hr;obtain⟨W,hJ,L⟩:=h.live j r (λ e'=>e (Option.some.inj e').symm) hr;have E:=hJ.running F;rw[B j e];refine⟨W,hJ,?_⟩;rw[J7 e];rcases L with L|⟨L,ho,T⟩
   .exact .inl (by rw[L,Option.map_some,Wg E])
   .rw[L,Option.map_some];rcases RU (P:=P) (g:=g) (g':=g') (w':=w') E ho with e|e
    .exact .inl (by rw[e])
    .exact .inr ⟨by rw[e],ho,T⟩
 .intro j x hr hx hp;by_cases e:j=i
  .grind[Wl,absurd]
  .rw[J7 e]at hx;obtain⟨y,hy,rfl⟩:=Option.map_eq_some_iff.1 hx;rw[z j e]at hr;rw[B j e]at hp;have:=h.gone j y hr hy hp;grind[woken_quitsD]
 .intro j hr hp;by_cases e:j=i
  .subst e;simp_all[absurd,Wl,Ne.symm]
  .rw[z j e]at hr;rw[B j e]at hp;obtain⟨y,b,hy,T,ht⟩:=h.tail j hr hp;refine⟨y,b,?_,?_,?_⟩
   .rw[J7 e,hy,Option.map_some,Wg ht.running]
   .by_cases e0:i=0
    .subst e0;rcases f with f|f|f
     .exact absurd rfl f
     .rw[f];exact T
     .exact absurd (f j e) hp
    .rw[B 0 (Ne.symm e0)];exact T
   simp_all
 .intro j H;rw[Jp]at H;have e:j≠i:=O1
  rw[z j e,hD j e];obtain⟨a1,a2,a3⟩:=h.above j H;grind
 .intro j hr;by_cases e:j=i
  .simp_all
  .rw[B j e];rw[z j e]at hr;exact h.bare j hr
 .intro j h0 hr;by_cases e:j=i
  .subst e;obtain⟨r,aa⟩:=Option.ne_none_iff_exists'.1 hr;simp_all
  .rw[B j e];rw[z j e]at hr;exact h.wk j h0 hr
 .intro j hw;by_cases e:j=i
  .simp_all
  .rw[B j e]at hw;rw[z j e];exact h.wk' j hw
 .intro j hr;by_cases e:j=i
  .subst e;obtain⟨r,aa⟩:=Option.ne_none_iff_exists'.1 hr;simp_all
  .rw[B j e,hD j e];rw[z j e]at hr;exact h.deaf j hr
 .by_cases e:j=i
  .simp_all
  .unfold Q3;rw[B j e];rw[z j e]at H;exact h.bareM j H
end
def WL:Nat->(Nat->Nat)->Nat
 |0,_=>0
 |n+1,f=>WL n f+f n
theorem IX{f b:Nat->Nat}:∀{n:Nat},(∀j,j<n->b j=f j)->WL n b=WL n f
 |0,_=>rfl
 |n+1,h=>by simp only[WL,IX (n:=n) λ j e=>h j O1,h n O1]
def UC{f b:Nat->Nat}{i:Nat}:∀{n:Nat},i<n->(∀j,j<n->j≠i->b j=f j)->b i<f i->WL n b<WL n f
 |0,w,_,_=>O1
 |n+1,w,h,z=>by
  by_cases e:i=n
  .grind[WL,IX]
  .have:=UC (n:=n) O1 (λ j E B=>h j O1 B) z;grind[WL]
def left(rk:Nat->Option Tr)(q:Nat->Nat)(i:Nat):Nat:=if(rk i).isSome then 0 else q i
def Dj{f:Nat->Nat}(h:∀j,f j<=1):∀n,WL n f<=n
 |0=>Nat.le_refl _
 |n+1=>by have:=Dj h n;have:=h n;simp only[WL];omega
def PD(gs:Array Gr)(i:Nat):Nat:=if(gs[i]?).any (·.status==.running)then 1 else 0
def vU(gs:Array Gr)(i:Nat):PD gs i<=1:=by grind[PD]
def SP(gs:Array Gr):Nat:=WL gs.size (PD gs)
def qm(gs:Array Gr):SP gs<=gs.size:=Dj (vU gs) _
def QI(gs:Array Gr)(rk:Nat->Option Tr)(q:Nat->Nat):List Tr×Nat:=(JS gs.size rk,(gs.size+1)*WL gs.size (left rk q)+SP gs)
def Ic{gs b:Array Gr}{rk:Nat->Option Tr}{q q':Nat->Nat}{i:Nat}(E:b.size=gs.size)(f:i<gs.size)(B:rk i=none)(z:∀j,j≠i->q' j=q j)(w:q' i<q i):JD (QI b rk q') (QI gs rk q):=by
 unfold QI;rw[E];refine JD.num ?_;have e:WL gs.size (left rk q')<WL gs.size (left rk q):=UC f (λ j _ h=>by simp[left,z j h]) (by simp[left,B,w]);have F:=qm b;have G:=Nat.mul_le_mul_left (gs.size+1) e;grind
theorem km{gs:Array Gr}{rk:Nat->Option Tr}{q:Nat->Nat}{i:Nat}{g g':Gr}(f:gs[i]?=some g)(z:g.status=.running)(w:g'.status=.blocked):JD (QI (gs.setIfInBounds i g') rk q) (QI gs rk q):=by
 have b:=(Array.getElem?_eq_some_iff.1 f).1;unfold QI;have e:(gs.setIfInBounds i g').size=gs.size:=S1
 rw[e];refine JD.num (Nat.add_lt_add_left ?_ _);unfold SP;rw[e];refine UC b (λ j _ h=>?_) ?_
 .unfold PD;rw[Array.getElem?_setIfInBounds_ne (Ne.symm h)]
 grind[PD]
section
variable{W R W' R':Hd->Loc->Prop}{rel:Nat->Option Nat}{blk mb rm:Option Nat}{act wk:Nat->Prop}{size size' i:Nat}{t:Trace}{fn:FuncId}{pos:String}{es:Array Event}
def TI.events(h:TI W R rel blk mb rm act wk size t)(H:size<=size')(z:∀e∈es,(MemAct.ofEvent e).low size')(G:∀e∈es,∀a,MemAct.ofEvent e≠.mark (.release a))
  (E:∀j a,touchAt t j=some a->∀e∈es,∀b,(MemAct.ofEvent e).touch?=some b->∀said,a.conflicts said b->Knows t i j)
  (K:∀k l,W' k l->W k l\/(k=.run i/\Loc.newN size l)) (I:∀k l,R' k l->R k l\/(k=.run i/\Loc.newN size l))
  (B:∀e∈es,∀a,(MemAct.ofEvent e).touch?=some a->∀k,k≠.run i->¬W k a.loc/\(a.write=true->¬R k a.loc))
  (F:∀e∈es,∀a,(MemAct.ofEvent e).touch?=some a->JG blk a.loc->a.kind≠.plain/\(a.kind=.said->i=0)) (L:∀e∈es,∀a,(MemAct.ofEvent e).touch?=some a->JG mb a.loc->a.kind=.atomic)
  (w:i=0\/wk i\/∀j,t.size<=j->¬(t++MemOp.ofEvents i fn pos es).counts j) :
  TI W' R' rel blk mb rm act wk size' (t++MemOp.ofEvents i fn pos es):=by
 refine h.step H ?_ ?_ ?_ ?_ K I ?_ ?_ ?_ w
 .intro op hop;obtain⟨e,_,rfl⟩:=Go.Conc.mem_ofEvents hop;rfl
 .intro op hop;obtain⟨e,f,rfl⟩:=Go.Conc.mem_ofEvents hop;exact z e f
 .intro op hop;obtain⟨e,f,rfl⟩:=Go.Conc.mem_ofEvents hop;exact G e f
 .intro j a ha op hop;obtain⟨e,f,rfl⟩:=Go.Conc.mem_ofEvents hop;exact E j a ha e f
 .intro op hop;obtain⟨e,f,rfl⟩:=Go.Conc.mem_ofEvents hop;exact B e f
 .intro op hop;obtain⟨e,f,rfl⟩:=Go.Conc.mem_ofEvents hop;exact F e f
 grind[Go.Conc.mem_ofEvents]
def Sy(e:Event):Prop:=(MemAct.ofEvent e).touch?=none/\(∀n,(MemAct.ofEvent e).low n)/\∀a,MemAct.ofEvent e≠.mark (.release a)
def G_{e:Event}(h:e.mute=true):Sy e:=by
 obtain⟨loc,wr,b⟩:=e;cases loc <;> simp[Event.mute]at h;rename_i m;cases m <;> simp at h <;> exact⟨rfl,λ _=>trivial,λ _ h=>by cases h⟩
def TI.dumb(h:TI W R rel blk mb rm act wk size t)(w:∀e∈es,Sy e):TI W R rel blk mb rm act wk size (t++MemOp.ofEvents i fn pos es):=by
 refine h.events (Nat.le_refl _) (λ e h=>(w e h).2.1 _) (λ e h=>(w e h).2.2) (λ j a _ e h b E=>?_) (λ _ _=>.inl) (λ _ _=>.inl) (λ e h a f=>?_) (λ e h a f=>?_) (λ e h a f=>?_) ?_
 .rw[(w e h).1]at E;cases E
 .rw[(w e h).1]at f;cases f
 .rw[(w e h).1]at f;cases f
 .rw[(w e h).1]at f;cases f
 .refine .inr (.inr λ j I F=>?_);obtain⟨x,H,_⟩:=F;rcases Jl (t:=t) H with⟨G,_⟩|⟨_,op,B,z,_⟩
  .omega
  .obtain⟨e,he',rfl⟩:=Go.Conc.mem_ofEvents B;rw[(w e he').1]at z;cases z
end
section
variable{V:Hd->Qa Tk}{rel:Nat->Option Nat}{blk mb rm:Option Nat}{act wk:Nat->Prop}{i:Nat}{tr:Trace}{w w':World}{fn:FuncId}{pos:String}{es:Array Event}{U':Qa Tk}
def SZ{U:Qa Tk}{e:Event}(h:JT U w e)(B:H3 w' e):Sy e \/
  ((∃x,(MemAct.ofEvent e).touch?=some x/\x.kind=.plain/\x.loc=e.loc/\(x.write=true->U.canW e.loc\/Loc.new w e.loc)/\(U.canR e.loc\/Loc.new w e.loc))/\(MemAct.ofEvent e).low w'.heap.size/\∀a,MemAct.ofEvent e≠.mark (.release a)):=by
 obtain⟨loc,wr,G⟩:=e;cases loc with
 |cell a=>
  obtain⟨z,f⟩:=h;simp only at z f;subst z;refine .inr ⟨⟨_,rfl,rfl,rfl,λ F=>?_,?_⟩,B,λ _ h=>by cases h⟩
  .simp_all
  .cases wr
   .simpa using f
   .simp only[if_true]at f;grind[Zx,id]
 |obj b=>
  obtain⟨z,f⟩:=h;simp only at z f;subst z;have E:MemAct.ofEvent ⟨.obj b,wr,false⟩=.access ⟨.obj b,wr,false⟩:=by cases wr <;> rfl
  rw[E];refine .inr ⟨⟨_,rfl,rfl,rfl,λ F=>?_,?_⟩,B,λ _ h=>by cases h⟩
  .simp_all
  .cases wr
   .simpa using f
   .simp only[if_true]at f;grind[Zx,id]
 |mark m=>
  have h:Mark.still m=true:=h;left;cases m <;> simp[Mark.still]at h <;> exact⟨rfl,λ _=>trivial,λ _ h=>by cases h⟩
 |output=>exact h.elim
 |goroutines=>exact h.elim
def Sf{l:Loc}(h:Loc.new w l):Loc.newN w.heap.size l:=by cases l <;> exact h
def Ee(h:TI (λ k=>(V k).canW) (λ k=>(V k).canR) rel blk mb rm act wk w.heap.size tr)(M:VI V w)(hb:∀b,blk=some b->b<w.heap.size/\QL b (V (.run i)))(hm:∀b,mb=some b->b<w.heap.size/\QL b (V (.run i)))
  (B:∀e∈es,JT (V (.run i)) w e/\H3 w' e) (T:ZU (V (.run i)) w w' U') (hi:i=0\/wk i) :
  TI (λ k=>(Q2 V (.run i) U' k).canW) (λ k=>(Q2 V (.run i) U' k).canR) rel blk mb rm act wk w'.heap.size (tr++MemOp.ofEvents i fn pos es):=by
 have key:∀e∈es,∀x,(MemAct.ofEvent e).touch?=some x->x.kind=.plain/\(x.write=true->(V (.run i)).canW x.loc\/Loc.new w x.loc)/\((V (.run i)).canR x.loc\/Loc.new w x.loc):=by
  intro e z x N;rcases SZ (B e z).1 (B e z).2 with G|⟨⟨y,hy,L,F,f,h4⟩,_⟩
  .rw[G.1]at N;cases N
  .simp_all
 refine h.events T.size ?_ ?_ ?_ ?_ ?_ ?_ ?_ ?_ (hi.imp id .inl)
 .intro e z;rcases SZ (B e z).1 (B e z).2 with G|⟨_,G,_⟩
  .exact G.2.1 _
  .exact G
 .intro e z;rcases SZ (B e z).1 (B e z).2 with G|⟨_,_,G⟩
  .exact G.2.2
  .exact G
 .intro j a ha e z b hb' said hc;obtain⟨L,F,f⟩:=key e z b hb'
  have X:¬Loc.new w a.loc:=by
   obtain⟨x,N,W⟩:=touch_of ha;exact λ K=>IZ (h.low x (Array.mem_of_getElem? N)) W (Sf K)
  obtain⟨S,_,aa,_⟩:=hc;rw[<- S]at F f;refine h.known (.run i) j a ha ?_;grind
 .intro k l hl;by_cases e:k=.run i
  .subst e;simp only[Ql]at hl;exact(T.cw l hl).imp id λ K=>⟨rfl,Sf K⟩
  grind[Qh]
 .intro k l hl;by_cases e:k=.run i
  .subst e;simp only[Ql]at hl;exact(T.cr l hl).imp id λ K=>⟨rfl,Sf K⟩
  grind[Qh]
 .intro e z a ha k hk;obtain⟨L,F,f⟩:=key e z a ha;refine⟨λ Z=>?_,λ Q Y=>?_⟩
  .rcases f with f|f
   .exact M.sep k (.run i) _ hk Z f
   .exact VE (M.ok k) (Zx Z) f
  .rcases F Q with F|F
   .exact M.sep (.run i) k _ (Ne.symm hk) F Y
   .exact VE (M.ok k) Y F
 .intro e z a ha hib;exfalso;obtain⟨L,F,f⟩:=key e z a ha;obtain⟨loc,wr,kd⟩:=a;cases loc <;> simp only[JG]at hib;rename_i P;obtain⟨H,E⟩:=hib;obtain⟨U,I⟩:=hb _ H;rcases f with f|f
  .exact I P rfl E f
  grind[Loc.new]
 .intro e z a ha hib;exfalso;obtain⟨L,F,f⟩:=key e z a ha;obtain⟨loc,wr,kd⟩:=a;cases loc <;> simp only[JG]at hib;rename_i P;obtain⟨H,E⟩:=hib;obtain⟨U,I⟩:=hm _ H;rcases f with f|f
  .exact I P rfl E f
  grind[Loc.new]
def V9(b:Nat)(parent:Bool)(e:Event):Prop:=
 Event.mute e=true\/(∃o wr,o<2/\e=⟨.cell ⟨b,o,none⟩,wr,true⟩)\/(parent=true/\∃o wr,o<2/\e=Z2 (bif wr then .write ⟨b,o,none⟩else .read ⟨b,o,none⟩))
def FM{b:Nat}(h:TI (λ k=>(V k).canW) (λ k=>(V k).canR) rel (some b) mb rm act wk w.heap.size tr)(L:b<w.heap.size)(K:∀k,QL b (V k))(G:act i)
  (M:∀e∈es,V9 b (i==0) e) (N:mb≠some b) (S:i=0\/wk i\/∀j,tr.size<=j->¬(tr++MemOp.ofEvents i fn pos es).counts j) :
  TI (λ k=>(V k).canW) (λ k=>(V k).canR) rel (some b) mb rm act wk w.heap.size (tr++MemOp.ofEvents i fn pos es):=by
 have key:∀e∈es,(MemAct.ofEvent e).low w.heap.size/\(∀a,MemAct.ofEvent e≠.mark (.release a))/\∀x,(MemAct.ofEvent e).touch?=some x->(∃o,o<2/\x.loc=.cell ⟨b,o,none⟩)/\(x.kind=.atomic\/(x.kind=.said/\i=0)):=by
  intro e f;rcases M e f with T|⟨o,wr,K,rfl⟩|⟨U,o,wr,K,rfl⟩
  .have:=G_ T;exact⟨this.2.1 _,this.2.2,λ x E=>by rw[this.1]at E;cases E⟩
  .refine⟨L,λ _ h=>(by cases h),λ x E=>?_⟩;cases E;simp_all
  .have H:i=0:=by simpa using U
   cases wr
   .refine⟨L,λ _ h=>(by cases h),λ x E=>?_⟩;cases E;simp_all
   .refine⟨L,λ _ h=>(by cases h),λ x E=>?_⟩;cases E;simp_all
 refine h.events (Nat.le_refl _) (λ e f=>(key e f).1) (λ e f=>(key e f).2.1) ?_ (λ _ _=>.inl) (λ _ _=>.inl) ?_ ?_ ?_ S
 .intro j a ha e f x E said hc;obtain⟨⟨o,B,I⟩,P⟩:=(key e f).2.2 x E;obtain⟨Q,_,_,F⟩:=hc;have z:JG (some b) a.loc:=by rw[Q,I];exact⟨rfl,B⟩
  rcases F with F|F|⟨_,F,Y⟩
  .exact h.grpP j a ha z F i G
  .simp_all
  .rcases P with P|⟨_,H⟩
   .simp_all
   .subst H;exact h.grpS j a ha z F
 .intro e f a ha k _;obtain⟨⟨o,B,I⟩,_⟩:=(key e f).2.2 a ha;rw[I];exact⟨λ X=>K k _ rfl B (Zx X),λ _ W=>K k _ rfl B W⟩
 .grind
 .intro e f a ha z;obtain⟨⟨o,B,I⟩,_⟩:=(key e f).2.2 a ha;rw[I]at z;exact absurd z.1 N
def vp{m:Nat}(h:TI (λ k=>(V k).canW) (λ k=>(V k).canR) rel blk (some m) rm act wk w.heap.size tr)(Q:m<w.heap.size)(K:∀k,QL m (V k))(G:act i)
  (L:∀e∈es,GL m e) (H:blk≠some m) (S:wk i) :
  TI (λ k=>(V k).canW) (λ k=>(V k).canR) rel blk (some m) rm act wk w.heap.size (tr++MemOp.ofEvents i fn pos es):=by
 have key:∀e∈es,(MemAct.ofEvent e).low w.heap.size/\(∀a,MemAct.ofEvent e≠.mark (.release a))/\∀x,(MemAct.ofEvent e).touch?=some x->(∃o,o<2/\x.loc=.cell ⟨m,o,none⟩)/\x.kind=.atomic:=by
  intro e b;rcases L e b with T|⟨o,wr,K,rfl⟩
  .have:=G_ T;exact⟨this.2.1 _,this.2.2,λ x E=>by rw[this.1]at E;cases E⟩
  .refine⟨Q,λ _ h=>(by cases h),λ x E=>?_⟩;cases E;exact⟨⟨o,K,rfl⟩,rfl⟩
 refine h.events (Nat.le_refl _) (λ e b=>(key e b).1) (λ e b=>(key e b).2.1) ?_ (λ _ _=>.inl) (λ _ _=>.inl) ?_ ?_ ?_ (.inr (.inl S))
 .intro j a ha e b x E said hc;obtain⟨⟨o,f,I⟩,N⟩:=(key e b).2.2 x E;obtain⟨P,_,_,B⟩:=hc;have z:JG (some m) a.loc:=by rw[P,I];exact⟨rfl,f⟩
  by_cases F:a.kind=.atomic
  .exfalso;rcases B with B|B|⟨_,B,M⟩
   .rw[F]at B;cases B
   .rw[N]at B;cases B
   .rw[N]at M;cases M
  .exact h.grpM j a ha z F i G
 .intro e b a ha k _;obtain⟨⟨o,f,I⟩,_⟩:=(key e b).2.2 a ha;rw[I];exact⟨λ W=>K k _ rfl f (Zx W),λ _ U=>K k _ rfl f U⟩
 .intro e b a ha z;obtain⟨⟨o,f,I⟩,_⟩:=(key e b).2.2 a ha;rw[I]at z;exact absurd z.1 H
 grind
def VO{b:Nat}(w:∀e∈es,Event.mute e=true\/∃o wr,e=⟨.cell ⟨b,o,none⟩,wr,true⟩)(K:∀j,j<es.size->deafBehind (Deaf tr i) (es.extract 0 j)≠0) :
  ∀j,tr.size<=j->¬(tr++MemOp.ofEvents i fn pos es).counts j:=by
 intro j L E;obtain⟨x,I,_,h⟩:=E;rcases Jl (t:=tr) I with⟨F,_⟩|⟨_,op,z,f,H⟩
 .omega
 .obtain⟨e,he,rfl⟩:=Go.Conc.mem_ofEvents z;rcases w e he with G|⟨o,wr,rfl⟩
  .rw[(G_ G).1]at f;cases f
  .cases f;rcases h with h|⟨g,B,h⟩
   .exact h rfl
   .have hgi:g=i:=by
     simp only[Trace.g?,H,Option.map_some,Option.some.injEq]at B;exact B.symm
    grind[lt_size_of_getElem?,MemOp.ofEvents,ofEvents_eq,Array.size_append,Nat.exists_eq_add_of_le,deaf_inside]
end
section
variable{P:Program}{t:TypeId}{N:Nat}{Stop:QJ Tk}{gs:Array Gr}{w:World}{tr:Trace}{V V':Hd->Qa Tk}{rk:Nat->Option Tr}{rel:Nat->Option Nat}{q:Nat->Nat}
def QK.turn(h:QK t N gs w V rel)(e:∀j,(V' (.run j)).tok=(V (.run j)).tok)(K:∀j,V' (.dep j)=V (.dep j))(E:∀k l,(V' k).canR l->(V k).canR l):QK t N gs w V' rel:=by
 have L:Z3 V'=Z3 V:=by funext j;simp only[Z3,e]
 unfold QK at h ⊢;rw[e 0]
 revert h
 cases(V (.run 0)).tok.ph with
 |out=>simp_all
 |par b ds pend k=>
  rintro⟨f,W,c,wt,s,z,I,B⟩;refine⟨λ j a F G H=>f j a F G (E _ _ H),W,c,wt,s,z,?_,B⟩;simp_all
 |_=>exact λ h=>h
def TI.tok{rel:Nat->Option Nat}{rm:Option Nat}{size:Nat}(h:TI (λ k=>(V k).canW) (λ k=>(V k).canR) rel (V (.run 0)).tok.ph.blk (Jy V) rm (λ i=>i=0\/(V (.run i)).tok.ph≠.out) (λ i=>ZO (V (.run i)).tok.ph) size tr)
  (e:∀j,(V' (.run j)).tok=(V (.run j)).tok) (w:∀k l,(V' k).canW l->(V k).canW l) (f:∀k l,(V' k).canR l->(V k).canR l) :
  TI (λ k=>(V' k).canW) (λ k=>(V' k).canR) rel (V' (.run 0)).tok.ph.blk (Jy V') rm (λ i=>i=0\/(V' (.run i)).tok.ph≠.out) (λ i=>ZO (V' (.run i)).tok.ph) size tr:=by
 have b:Jy V'=Jy V:=by simp only[Jy,Q3,e]
 rw[b];simp only[e];exact h.turn w f λ _ h=>h
def Sh.ne{b m:Nat}{t f:TypeId}{c wt a:Nat}{sm sm':Value}{w:World}(h:Sh b t (Q1 c wt) sm w)(k:Sh m f (Zc a) sm' w):m≠b:=by
 rintro rfl;have e:some (Obj.cells #[Q1 c wt,sm] t (0,0))=some (Obj.cells #[Zc a,sm'] f (0,0)):=h.symm.trans k;simp[Q1,Zc]at e
def Sh.two_other{b m:Nat}{t e:TypeId}{st sm x y:Value}{w:World}(k:Sh m e st sm w)(h:m≠b):Sh m e st sm (TM.two w b t x y):=by
 simp_all[Sh,TM.two,Array.getElem?_setIfInBounds_ne,Ne.symm]
def JK.mb(h:JK gs w V){m:Nat}(b:Jy V=some m):m<w.heap.size/\(∀j,QL m (V j))/\∃t st sm,Sh m t (Zc st) (Qq sm) w:=by
 obtain⟨-,-,f⟩:=h;unfold Jy at b;cases e:Q3 V 0 with
 |none=>rw[e]at b;cases b
 |some mu=>
  rw[e]at b f;cases mu with
  |lok=>exact f.elim
  |par x u=>
   cases b;obtain⟨B,E,st,sm,z⟩:=f;exact⟨(Array.getElem?_eq_some_iff.1 z.sh).1,B,_,_,_,z.sh⟩
def JK.mb_ne(h:JK gs w V){b c wt:Nat}{t:TypeId}{s:Value}(f:Sh b t (Q1 c wt) s w):Jy V≠some b:=λ e=>by
 obtain⟨-,-,_,_,_,k⟩:=h.mb e;exact f.ne k rfl
theorem JK.step{i:Nat}{g g':Gr}{w' z:World}(h:JK gs w V)(G:gs[i]?=some g)(E:∀x s me lo,Q3 V i=some (.lok x s me lo)->g'.status=.running)(H:∀i,Q3 V' i=Q3 V i)(I:V' .lck=V .lck)
  (b:∀m,(∀j,QL m (V j))->m<w.heap.size->∀j,QL m (V' j)) (f:∀m t st sm,(∀j,QL m (V j))->Sh m t (Zc st) (Qq sm) w->Sh m t (Zc st) (Qq sm) w'):JK (behind P gs i g g' z) w' V':=by
 refine h.at H I b f λ j x s me lo y e F K=>?_;by_cases B:j=i
 .subst B;rw[Wl G]at F;grind
 .rw[J7 B]at F;grind[Wg]
theorem MI.shift{i:Nat}{r:Tr}{z:Qa Tk}(h:MI P t N Stop none gs w tr V rk rel q)(W:rk i=some r)(H:Qw (V (.run i)) z):MI P t N Stop (some i) gs w tr (Q2 V (.run i) z) rk rel q:=by
 have B:∀j,j≠i->Q2 V (.run i) z (.run j)=V (.run j):=λ j b=>Qh _ _ S2
 have f:∀j,(Q2 V (.run i) z (.run j)).tok=(V (.run j)).tok:=by
  intro j;by_cases e:j=i
  .subst e;rw[Ql];exact H.1
  .rw[B j e]
 have I:∀j,Q2 V (.run i) z (.dep j)=V (.dep j):=λ j=>Qh _ _ S1;obtain⟨T,X,E⟩:=H.2 w (h.vi.ok (.run i))
 have K:∀k l,(Q2 V (.run i) z k).canW l->(V k).canW l:=by
  intro k l M;by_cases e:k=.run i
  .grind[Ql]
  .grind[Qh]
 have F:∀k l,(Q2 V (.run i) z k).canR l->(V k).canR l:=by
  intro k l M;by_cases e:k=.run i
  .grind[Ql]
  .grind[Qh]
 refine⟨?_,h.root,?_,?_,h.above,?_,?_,?_,?_,?_,h.vi.shift H,h.ti.imp λ _ x=>x.tok f K F,h.grp.turn f I F,h.mux.at (λ j=>by simp only[Q3,f]) (Qh _ _ S1) (λ m Q _ j a L S E=>Q j a L S (F _ _ E)) (λ _ _ _ _ _ x=>x) (λ j x s me lo y _ U G=>⟨y,U,G⟩),λ j b=>by simp only[Q3,f];exact h.bareM j b⟩
 .intro j r' b hr';have e:j≠i:=λ e=>b (by rw[e]);have:=h.live j r' S1 hr';simp_all
 .intro j g b hg hp;rw[f]at hp;exact h.gone j g b hg hp
 .intro j b hp;rw[f]at hp;simp only[f];exact h.tail j b hp
 .intro j b;have e:j≠i:=λ e=>S2
  rw[B j e];exact h.bare j b
 .intro j h0 b;rw[f];exact h.wk j h0 b
 .intro j b;rw[f]at b;exact h.wk' j b
 .intro j b;rw[f];exact h.deaf j b
 .intro j b;rw[I];exact h.deps j b
def JP(P:Program)(t:TypeId)(N:Nat)(Stop:QJ Tk)(gs:Array Gr)(w:World)(sl:Option (Nat×Nat))(tr:Trace)(rk:Nat->Option Tr)(q:Nat->Nat)(i:Nat):Prop:=
 ∃b w' ops V' rk' rel' q',runT P (crowd gs w sl) i=(.next (crowd b w' sl),ops)/\MI P t N Stop none b w' (tr++ops) V' rk' rel' q'/\JD (QI b rk' q') (QI gs rk q)/\WK w.os w'.os/\w'.output=w.output
variable{sl:Option (Nat×Nat)}
def XI{b:Array Gr}{q':Nat->Nat}{i:Nat}{r:Tr}{x:Option Tr}(w:b.size=gs.size)(f:i<gs.size)(h:rk i=some r)(z:∀e,x=some e->Tr.Sub e r):JD (QI b (Zp rk i x) q') (QI gs rk q):=by
 grind[QI,JD.cut,Rh]
def MI.priv(z:∀m g U,Stop m g U->g.status=.running){i:Nat}{g:Gr}{r:Tr}(h:MI P t N Stop (some i) gs w tr V rk rel q)(S:gs[i]?=some g)(hr:rk i=some r)
  (hp:G8 P (λ m g U=>∃Z,Tr.Sub Z r/\JR (Zb P t N) Stop Z m g U) (i==0) g (V (.run i))):JP P t N Stop gs w sl tr rk q i:=by
 have aa:=(Array.getElem?_eq_some_iff.1 S).1;obtain⟨hs,hp⟩:=hp;obtain⟨g',w',es,U',ad,Q,F,ab,G,Z,ag,hJ⟩:=hp w (h.vi.ok (.run i))
 have I:deafBehind (Deaf tr i) es=Deaf tr i:=by
  refine deafBehind_still (λ e he=>?_) _;obtain⟨he,_⟩:=Q e he;obtain⟨loc,wr,sy⟩:=e;cases loc with
  |mark m=>have he:Mark.still m=true:=he;grind[Mark.still]
  |_=>simp
 have T:∀j,j≠i->Q2 V (.run i) U' (.run j)=V (.run j):=λ j hj=>Qh _ _ S2
 have L:∀j,(Q2 V (.run i) U' (.run j)).tok=(V (.run j)).tok:=by
  intro j;by_cases e:j=i
  .subst e;rw[Ql];exact G
  .rw[T j e]
 have hd:∀j,Q2 V (.run i) U' (.dep j)=V (.dep j):=λ j=>Qh _ _ S1;have Y:rk i≠none:=by rw[hr];simp
 have ae:i=0\/ZO (V (.run i)).tok.ph:=by
  by_cases e:i=0
  .exact .inl e
  .exact .inr (h.wk i e Y)
 have aj:Jy (Q2 V (.run i) U')=Jy V:=by simp only[Jy,Q3,L]
 have E:∀b,(V (.run 0)).tok.ph.blk=some b->b<w.heap.size/\∀j,QL b (V j):=by
  intro b B;have H:=h.grp;unfold QK at H
  revert H B
  cases(V (.run 0)).tok.ph with
  |out=>intro B;cases B
  |par b' ds pend k=>
   intro B;cases B;rintro⟨K,W,c,wt,s,h2,_⟩;exact⟨(Array.getElem?_eq_some_iff.1 h2).1,K⟩
  |_=>simp_all
 refine⟨_,w',_,Q2 V (.run i) U',Zp rk i (some Z),rel,q,runT_crowd_go S ad,?_,XI Jp aa hr λ af e=>S2,F.os,F.output⟩;refine h.go z (V':=Q2 V (.run i) U') (rk':=Zp rk i (some Z)) (rel':=rel) (q':=q) (es:=es) S T (λ j hj=>Qv _ _ hj) (λ _ _=>rfl) (λ _ _=>.inl rfl) ?_ (.inr (.inl (by rw[L]))) ?_ ?_ (λ j hj=>by rw[hd];exact h.deps j hj) (h.vi.priv F ab) ?_ ?_ ?_ (λ e=>by grind[Qj])
 .by_cases e:i=0
  .grind[Qj]
  .rw[Qv _ _ (Ne.symm e)];exact h.root
 .intro af e;rw[Qj]at e;cases e;rw[Ql];refine⟨hJ,?_,λ h0=>?_⟩
  .rw[I,G];exact h.deaf i Y
  simp_all
 .grind[Qj]
 .obtain⟨rm,hti⟩:=h.ti;have:=Ee (fn:=g.frame.fn) (pos:=g.frame.place) hti h.vi (λ b B=>⟨(E b B).1,(E b B).2 _⟩) (λ b B=>⟨(h.mux.mb B).1,(h.mux.mb B).2.1 _⟩) Q F ae;refine⟨rm,?_⟩;simp_all
 .have H:=h.grp;unfold QK at H ⊢;rw[L 0];have hk:Z3 (Q2 V (.run i) U')=Z3 V:=by funext j;simp only[Z3,L]
  revert H
  cases ac:(V (.run 0)).tok.ph with
  |out=>simp_all
  |par b ds pend k=>
   rintro⟨K,W,c,wt,s,h2,h3,h4⟩;obtain⟨ah,_⟩:=E b (by rw[ac];rfl);refine⟨λ j a M X f=>?_,W,c,wt,s,h2.guar F (K _),?_,?_⟩
   .by_cases e:j=.run i
    .subst e;rw[Ql]at f;rcases F.cr _ f with f|f
     .exact K _ a M X f
     grind[Loc.new]
    .rw[Qh _ _ e]at f;exact K _ a M X f
   .simp_all
   .intro g0 hg0 hns;by_cases e:i=0
    .subst e;rw[Wl S]at hg0;cases hg0;exact absurd (hJ.running z) hns
    .rw[J7 (Ne.symm e)]at hg0;grind[Wg]
  |_=>exact λ H=>H
 .refine h.mux.step S (λ _ _ _ _ _=>hJ.running z) (λ j=>by simp only[Q3,L]) (Qh _ _ S1) (λ m hm ai j a M X f=>?_) (λ m t st sm hm hs=>hs.guar F (hm _));by_cases e:j=.run i
  .subst e;rw[Ql]at f;rcases F.cr _ f with f|f
   .exact hm _ a M X f
   grind[Loc.new]
  .rw[Qh _ _ e]at f;exact hm _ a M X f
theorem QK.woken{i:Nat}{g g':Gr}{w':World}(z:gs[i]?=some g)(b:i=0->g'.status=.running){s:Nat}(h:∀g,gs[0]?=some g->g.status≠.running->s=0) :
  ∀x,(behind P gs i g g' w')[0]?=some x->x.status≠.running->s=0:=by
 intro x w f;by_cases e:i=0
 .grind[Wl,absurd]
 .rw[J7 (Ne.symm e)]at w;grind[Wg]
def MI.leaver(z:∀m g U,Stop m g U->g.status=.running){i:Nat}{g:Gr}(h:MI P t N Stop none gs w tr V rk rel q)(G:gs[i]?=some g)(f:g.status=.running)(F:rk i=none)(hp:(V (.run i)).tok.ph=.out) :
  JP P t N Stop gs w sl tr rk q i:=by
 have M:=(Array.getElem?_eq_some_iff.1 G).1;have B:i≠0:=λ e=>by subst e;exact h.root F
 have H:=h.gone i g F G hp;cases E:q i with
 |zero=>rw[E]at H;rw[H.1]at f;cases f
 |succ n=>
  rw[E]at H;rcases H with⟨hs,_⟩|⟨_,g',es,Q,S,H⟩
  .simp_all
  have I:stepG P (i==0) g w=.go g' w es:=by
   rw[show(i==0)=false by simpa using B];exact S w
  have T:MI P t N Stop (some i) gs w tr V rk rel q:={ h with live:=λ j r _ F=>h.live j r S1 F };refine⟨_,w,_,V,rk,rel,Zp q i n,runT_crowd_go G I,?_,Ic (i:=i) Jp M F (λ j L=>Qv _ _ L) (by rw[Qj,E];omega),.refl _,rfl⟩;refine T.go z (V':=V) (rk':=rk) (rel':=rel) (q':=Zp q i n) (es:=es) G (λ _ _=>rfl) (λ _ _=>rfl) (λ j L=>Qv _ _ L) (λ _ _=>.inl rfl) h.root (.inl B) (λ r e=>S2) ?_ h.deps h.vi ?_ ?_ (h.mux.step G (λ x s me lo e=>absurd e ?_) (λ _=>rfl) rfl (λ _ Q _=>Q) λ _ _ _ _ _ x=>x) (h.bareM i)
  .intro _;obtain⟨b1,b2⟩:=h.bare i F;grind[ZO,Qj]
  .exact h.ti.imp λ _ x=>x.dumb λ e he=>G_ (Q e he)
  .have K:=h.grp;unfold QK at K ⊢
   revert K
   cases(V (.run 0)).tok.ph with
   |par b ds pend k=>exact λ⟨X,W,c,wt,s,Y,Z,h4⟩=>⟨X,W,c,wt,s,Y,Z,QK.woken G (λ e=>absurd e B) h4⟩
   |_=>exact λ K=>K
  .rw[h.bareM i F];simp
def MI.parent(F:∀m g U,Stop m g U->g.status=.running){g g':Gr}{r r':Tr}{d d' b:Nat}{ds z:List Spec}{pend f:Bool}{k k':PS}{W:List Nat}{c wt s K wt' Y:Nat}{es:Array Event}{bs:List (Nat×Bool)}{mu:Option ZS}
  (h:MI P t N Stop (some 0) gs w tr V rk rel q) (hi:gs[0]?=some g) (I:rk 0=some r) (B:(V (.run 0)).tok=⟨d,.par b ds pend k,mu⟩)
  (G:∀j,QL b (V j)) (E:Sh b t (Q1 c wt) (Qq s) w)
  (ag:Qc P t true g (Q1 c wt) (Qq s)=.go g' (Q1 K wt') (Qq Y) es bs) (ab:Z8 b bs) (ac:∀e∈es,V9 b true e) (hd:deafBehind d es=d')
  (ad:GI N b z f k' (Z3 V) rel (λ i=>(V (.dep i)).M) W K wt' Y) (ai:Tr.Sub r' r) (hJ:JR (Zb P t N) Stop r' true g' ((V (.run 0)).at d' (.par b z f k'))) :
  JP P t N Stop gs w sl tr rk q 0:=by
 have ae:=(Array.getElem?_eq_some_iff.1 hi).1;have Q:=hJ.running F;have S:stepG P (0==0) g w=.go g' (two w b t (Q1 K wt') (Qq Y)) es:=HD ag E ab;have H:∀j,j≠0->Q2 V (.run 0) ((V (.run 0)).at d' (.par b z f k')) (.run j)=V (.run j):=λ j hj=>Qh _ _ S2;have L:∀j,Q2 V (.run 0) ((V (.run 0)).at d' (.par b z f k')) (.dep j)=V (.dep j):=λ j=>Qh _ _ S1
 have Z:∀j,(Q2 V (.run 0) ((V (.run 0)).at d' (.par b z f k')) j).canW=(V j).canW/\(Q2 V (.run 0) ((V (.run 0)).at d' (.par b z f k')) j).canR=(V j).canR:=by
  intro j;by_cases e:j=.run 0
  .subst e;rw[Ql];exact⟨rfl,rfl⟩
  .grind[Qh]
 have aa:b<w.heap.size:=(Array.getElem?_eq_some_iff.1 E).1;refine⟨_,_,_,Q2 V (.run 0) ((V (.run 0)).at d' (.par b z f k')),Zp rk 0 (some r'),rel,q,runT_crowd_go hi S,?_,XI Jp ae I λ ah e=>S2,.refl _,rfl⟩;refine h.go F (rel':=rel) (q':=q) (es:=es) hi H (λ j hj=>Qv _ _ hj) (λ _ _=>rfl) (λ _ _=>.inl rfl) (by rw[Qj];simp) (.inr (.inl (by rw[Ql,B];rfl))) ?_ ?_ (λ j hj=>by rw[L];exact h.deps j hj) ?_ ?_ ?_ ?_ (λ e=>by grind[Qj])
 .intro ah e;rw[Qj]at e;cases e;rw[Ql];refine⟨hJ,?_,λ h0=>absurd rfl h0⟩;rw[h.deaf 0 h.root,B,hd];rfl
 .grind[Qj]
 .refine⟨λ j=>?_,λ T X l hn hw I=>h.vi.sep T X l hn (by rw[<- (Z T).1];exact hw) (by rw[<- (Z X).2];exact I)⟩;have hv:=(h.vi.two (st':=Q1 K wt') (sm':=Qq Y) E G).ok;by_cases e:j=.run 0
  .subst e;rw[Ql];exact⟨(hv (.run 0)).imm,(hv (.run 0)).held,(hv (.run 0)).apart,(hv (.run 0)).sep⟩
  grind[Qh]
 .obtain⟨rm,hti⟩:=h.ti;rw[B]at hti;have:=FM (i:=0) (fn:=g.frame.fn) (pos:=g.frame.place) hti aa G (.inl rfl) ac (h.mux.mb_ne E) (.inl rfl);refine⟨rm,?_⟩;have af:Jy (Q2 V (.run 0) ((V (.run 0)).at d' (.par b z f k')))=Jy V:=by simp only[Jy,Q3,Ql];rfl
  rw[af];have e1:(Q2 V (.run 0) ((V (.run 0)).at d' (.par b z f k')) (.run 0)).tok.ph.blk=some b:=by rw[Ql];rfl
  have e2:∀j,j=0\/(Q2 V (.run 0) ((V (.run 0)).at d' (.par b z f k')) (.run j)).tok.ph≠.out↔j=0\/(V (.run j)).tok.ph≠.out:=by
   intro j;by_cases e:j=0
   .simp[e]
   .rw[H j e]
  have e3:∀j,ZO (Q2 V (.run 0) ((V (.run 0)).at d' (.par b z f k')) (.run j)).tok.ph↔ZO (V (.run j)).tok.ph:=by
   intro j;by_cases e:j=0
   .subst e;rw[Ql,B];constructor
    .rintro⟨b,D,e⟩;cases e
    .rintro⟨b,D,e⟩;cases e
   .rw[H j e]
  rw[e1];have aj:=funext λ j=>propext (e2 j);have ak:=funext λ j=>propext (e3 j);grind[two,Q1,Qq]
 .unfold QK;rw[Ql]
  have hk:Z3 (Q2 V (.run 0) ((V (.run 0)).at d' (.par b z f k')))=Z3 V:=by
   funext j;by_cases e:j=0
   .simp[Z3,e]
   .simp only[Z3,if_neg e,H j e]
  refine⟨λ j a ha ho I=>G j a ha ho (by rw[<- (Z j).2];exact I),W,K,wt',Y,E.two,?_,λ x hx al=>?_⟩
  .rw[hk];simpa only[L]using ad
  grind[Wl,absurd]
 .refine h.mux.step hi (λ _ _ _ _ _=>Q) (λ j=>?_) (Qh _ _ S1) (λ m hm _ j a ha ho I=>hm j a ha ho (by rw[<- (Z j).2];exact I)) (λ m t st sm _ hs=>hs.two_other (E.ne hs));by_cases e:j=0
  .subst e;simp only[Q3,Ql];rfl
  grind[Q3]
end
section
variable{P:Program}{t:TypeId}{N:Nat}{Stop:QJ Tk}{gs:Array Gr}{w:World}{tr:Trace}{V V':Hd->Qa Tk}{rk:Nat->Option Tr}{rel:Nat->Option Nat}{q:Nat->Nat}{sl:Option (Nat×Nat)}
def MI.par(h:MI P t N Stop none gs w tr V rk rel q){b:Nat}(f:(V (.run 0)).tok.ph.blk=some b) :
  ∃ds pend k,(V (.run 0)).tok.ph=.par b ds pend k/\(∀j,QL b (V j))/\∃W c wt s,Sh b t (Q1 c wt) (Qq s) w/\GI N b ds pend k (Z3 V) rel (λ i=>(V (.dep i)).M) W c wt s/\(∀g,gs[0]?=some g->g.status≠.running->s=0):=by
 have e:=h.grp;unfold QK at e
 revert e f
 cases z:(V (.run 0)).tok.ph with
 |out=>intro f;cases f
 |par B ds pend k=>
  intro f e;cases f;exact⟨ds,pend,k,rfl,e⟩
 |_=>intro _ e;exact e.elim
def MI.tailGo(E:∀m g U,Stop m g U->g.status=.running){i n:Nat}{g g':Gr}{b:Nat}{ds:List Spec}{pend:Bool}{k:PS}{W:List Nat}{c wt s L wt' K:Nat}{es:Array Event}{bs:List (Nat×Bool)}{p':Ph}
  (h:MI P t N Stop none gs w tr V rk rel q) (X:gs[i]?=some g) (f:i≠0) (B:rk i=none) (am:(V (.run i)).tok.ph≠.out) (I:(V (.run 0)).tok.ph=.par b ds pend k)
  (G:∀j,QL b (V j)) (z:Sh b t (Q1 c wt) (Qq s) w) (ad:∀g,gs[0]?=some g->g.status≠.running->s=0)
  (an:Qc P t false g (Q1 c wt) (Qq s)=.go g' (Q1 L wt') (Qq K) es bs) (af:Z8 b bs) (ah:∀e∈es,V9 b false e) (al:∀j,tr.size<=j->¬(tr++MemOp.ofEvents i g.frame.fn g.frame.place es).counts j)
  (aw:GI N b ds pend k (Zp (Z3 V) i p') rel (λ i=>(V (.dep i)).M) W L wt' K) (ap:K=s\/(mayWake P g=true/\(g'.status=.running\/g'.status=.finished)))
  (hq:q i=n+1) (Z:¬ZO p')
  (hk:(p'=.out/\QuitsD P n (deafBehind (Deaf tr i) es) g')\/(p'≠.out/\Tl P t N b n (deafBehind (Deaf tr i) es) p' g')):JP P t N Stop gs w sl tr rk q i:=by
 have ai:=(Array.getElem?_eq_some_iff.1 X).1
 have ab:stepG P (i==0) g w=.go g' (two w b t (Q1 L wt') (Qq K)) es:=by
  rw[show(i==0)=false by simpa using f];exact HD an z af
 have h':MI P t N Stop (some i) gs w tr V rk rel q:={ h with live:=λ j r _ B=>h.live j r S1 B };have F:∀j,j≠i->Q2 V (.run i) (Qa.bare ⟨1,p',none⟩) (.run j)=V (.run j):=λ j Q=>Qh _ _ S2;have ag:∀j,Q2 V (.run i) (Qa.bare ⟨1,p',none⟩) (.dep j)=V (.dep j):=λ j=>Qh _ _ S1
 have hW:∀k l,(Q2 V (.run i) (Qa.bare ⟨1,p',none⟩) k).canW l->(V k).canW l:=by
  intro k l hl;by_cases e:k=.run i
  .grind[Ql,absurd,Wk]
  .grind[Qh]
 have hR:∀k l,(Q2 V (.run i) (Qa.bare ⟨1,p',none⟩) k).canR l->(V k).canR l:=by
  intro k l hl;by_cases e:k=.run i
  .grind[Ql,absurd,Wj]
  .grind[Qh]
 have ae:b<w.heap.size:=(Array.getElem?_eq_some_iff.1 z).1;refine⟨_,_,_,Q2 V (.run i) (Qa.bare ⟨1,p',none⟩),rk,rel,Zp q i n,runT_crowd_go X ab,?_,Ic (i:=i) Jp ai B (λ j Q=>Qv _ _ Q) (by rw[Qj,hq];omega),.refl _,rfl⟩;refine h'.go E (rel':=rel) (q':=Zp q i n) (es:=es) X F (λ _ _=>rfl) (λ j Q=>Qv _ _ Q) (λ _ _=>.inl rfl) h.root (.inl f) (λ r e=>S2) ?_ (λ j Q=>by rw[ag];exact h.deps j Q) ?_ ?_ ?_ ?_ (λ _=>by unfold Q3;rw[Ql];rfl)
 .intro _;rw[Ql,Qj];refine⟨f,rfl,rfl,Z,?_⟩;rcases hk with⟨h1,h2⟩|⟨h1,h2⟩
  .exact .inl ⟨h1,h2⟩
  .exact .inr ⟨h1,b,by rw[I];rfl,h2⟩
 .have hv:=h.vi.two (st':=Q1 L wt') (sm':=Qq K) z G;refine⟨λ j=>?_,λ aq au l hn hw B=>hv.sep aq au l hn (hW _ _ hw) (hR _ _ B)⟩;by_cases e:j=.run i
  .grind[Ql,Ki]
  .rw[Qh _ _ e];exact hv.ok j
 .obtain⟨rm,hti⟩:=h.ti;rw[I]at hti;have:=FM (i:=i) (fn:=g.frame.fn) (pos:=g.frame.place) hti ae G (.inr am) (by rw[show(i==0)=false by simpa using f];exact ah) (h.mux.mb_ne z) (.inr (.inr al));refine⟨rm,?_⟩;have aj:Jy (Q2 V (.run i) (Qa.bare ⟨1,p',none⟩))=Jy V:=by simp only[Jy,Q3,F 0 (Ne.symm f)]
  rw[aj];have ao:(two w b t (Q1 L wt') (Qq K)).heap.size=w.heap.size:=by simp[two]
  rw[ao,F 0 (Ne.symm f),I]
  have e3:(λ j=>ZO (Q2 V (.run i) (Qa.bare ⟨1,p',none⟩) (.run j)).tok.ph)=λ j=>ZO (V (.run j)).tok.ph:=by
   funext j;by_cases e:j=i
   .subst e;rw[Ql];refine propext ⟨λ x=>absurd x Z,λ x=>absurd B (h.wk' j x)⟩
   .rw[F j e]
  rw[e3];refine this.turn hW hR ?_;grind
 .unfold QK;rw[F 0 (Ne.symm f),I]
  have ax:Z3 (Q2 V (.run i) (Qa.bare ⟨1,p',none⟩))=Zp (Z3 V) i p':=by
   funext j;by_cases e:j=i
   .subst e;simp only[Z3,if_neg f,Ql,Qj];rfl
   .simp_all[Qv,Z3,if_neg]
  refine⟨λ j a ha Y B=>G j a ha Y (hR _ _ B),W,L,wt',K,z.two,?_,?_⟩
  .simp_all
  .rcases ap with rfl|⟨ak,ac⟩
   .exact QK.woken X (λ e=>absurd e f) ad
   .intro x hx hns;exfalso;obtain⟨av,aa⟩:=Option.ne_none_iff_exists'.1 h.root;obtain⟨S,hJ,T⟩:=h.live 0 av S1 aa;have H:=hJ.running E;rw[J7 (Ne.symm f)]at hx;rcases T with T|⟨T,Y,_⟩
    .rw[T,Option.map_some,Wg H]at hx;cases hx;exact hns H
    .rw[T,Option.map_some]at hx
     have:woken P g g' (two w b t (Q1 L wt') (Qq K)) { S with status:=.blocked }=S:=by
      unfold woken;rw[if_pos,again_blocked H Y];rcases ac with e|e <;> rw[e,ak] <;> rfl
     simp_all
 .refine h.mux.step X (λ x s me lo e=>?_) (λ j=>?_) (Qh _ _ S1) (λ m hm _ j a ha Y B=>hm j a ha Y (hR _ _ B)) (λ m t st sm _ hs=>hs.two_other (z.ne hs))
  .rw[h.bareM i B]at e;cases e
  .by_cases e:j=i
   .subst e;rw[h.bareM j B];unfold Q3;rw[Ql];rfl
   grind[Q3]
def MI.tailStep(f:∀m g U,Stop m g U->g.status=.running){i:Nat}{g:Gr}(h:MI P t N Stop none gs w tr V rk rel q)(hi:gs[i]?=some g)(hr:rk i=none)(hp:(V (.run i)).tok.ph≠.out) :
  JP P t N Stop gs w sl tr rk q i:=by
 have L:i≠0:=λ e=>by subst e;exact h.root hr
 obtain⟨ag,b,hg,hb,ht⟩:=h.tail i hr hp;rw[hi]at hg;cases hg;obtain⟨ds,pend,k,T,H,W,c,wt,s,X,G,S⟩:=h.par hb;have z:Z3 V i=(V (.run i)).tok.ph:=by simp[Z3,L]
 cases K:q i with
 |zero=>rw[K]at ht;exact ht.elim
 |succ n=>
  rw[K]at ht;obtain⟨af,ht⟩:=ht;have Y:∀(es:Array Event),Deaf tr i=1->∀j,(deafBehind 1 (es.extract 0 j)≠0)->deafBehind (Deaf tr i) (es.extract 0 j)≠0:=λ es e j hj=>by rw[e];exact hj
  rcases ht with⟨g',es,bs,hm,F,E,Q⟩|⟨M,Z,E⟩|⟨M,Z,g',bs,F,E,Q⟩|⟨M,Z,g',bs,F,E,Q⟩|⟨M,Z,ad,g',bs,F,E,Q⟩
  .have hup:Zp (Z3 V) i (V (.run i)).tok.ph=Z3 V:=by funext j;grind[Zp]
   refine h.tailGo f (p':=(V (.run i)).tok.ph) hi L hr hp T H X S (E _ _) F (λ e B=>.inl (hm e B)) ?_ (by rw[hup];exact G) (.inl rfl) K (λ x=>absurd hr (h.wk' i x)) (.inr ⟨hp,Q⟩);intro j hj hc;obtain⟨x,hx,_⟩:=hc;rcases Jl (t:=tr) hx with⟨ah,_⟩|⟨_,op,ae,ac,_⟩
   .omega
   .obtain⟨e,he',rfl⟩:=Go.Conc.mem_ofEvents ae;rw[(G_ (hm e he')).1]at ac;cases ac
  .rw[M]at z;obtain⟨h1,h2,h3,rfl⟩:=G.relC z;obtain⟨g',bs,F,E,Q⟩:=E c wt h1 h2 h3
   have I:=VO (tr:=tr) (i:=i) (fn:=g.frame.fn) (pos:=g.frame.place) (b:=b) (es:=#[Jg b 0,QB b 0]) (by intro e B;simp at B;rcases B with rfl|rfl <;> exact .inr ⟨_,_,rfl⟩) (by
    intro j hj;refine Y _ Z j ?_;have:j=0\/j=1:=by simp at hj;omega
    grind[deafBehind,Jg,QB])
   have aa:∀e∈(#[Jg b 0,QB b 0]:Array Event),V9 b false e:=by
    intro e B;simp at B;rcases B with rfl|rfl <;> exact .inr (.inl ⟨0,_,O1,rfl⟩)
   by_cases hl:c=1/\wt=1
   .rw[if_pos hl]at Q;obtain⟨rfl,rfl⟩:=hl;obtain⟨rfl,ab⟩:=G.last z;exact h.tailGo f (p':=.lst b 0) hi L hr hp T H X S E F aa I ab (.inl rfl) K (by rintro⟨_,_,e⟩;cases e) (.inr ⟨S1,by rw[Z];exact Q⟩)
   .rw[if_neg hl]at Q;exact h.tailGo f (p':=.out) hi L hr hp T H X S E F aa I (G.leave z hl) (.inl rfl) K (by rintro⟨_,_,e⟩;cases e) (.inl ⟨rfl,by rw[Z];exact Q⟩)
  .rw[M]at z;obtain⟨rfl,rfl,rfl,h4,_⟩:=G.lstAt z;obtain rfl:wt=1:=O1
   have I:=VO (tr:=tr) (i:=i) (fn:=g.frame.fn) (pos:=g.frame.place) (b:=b) (es:=#[Jg b 0]) (by intro e B;simp at B;subst B;exact .inr ⟨_,_,rfl⟩) (by
    grind[deafBehind])
   exact h.tailGo f (p':=.lst b 1) hi L hr hp T H X S E F (by intro e B;simp at B;subst B;exact .inr (.inl ⟨0,_,O1,rfl⟩)) I (G.next (wt':=1) z (.inl ⟨rfl,rfl⟩)) (.inl rfl) K (by rintro⟨_,_,e⟩;cases e) (.inr ⟨S1,by rw[Z];exact Q⟩)
  .rw[M]at z;obtain⟨rfl,rfl,rfl,h4,_⟩:=G.lstAt z;obtain rfl:wt=1:=O1
   have I:=VO (tr:=tr) (i:=i) (fn:=g.frame.fn) (pos:=g.frame.place) (b:=b) (es:=#[QB b 0]) (by intro e B;simp at B;subst B;exact .inr ⟨_,_,rfl⟩) (by
    grind[deafBehind])
   exact h.tailGo f (p':=.lst b 2) hi L hr hp T H X S E F (by intro e B;simp at B;subst B;exact .inr (.inl ⟨0,_,O1,rfl⟩)) I (G.next (wt':=0) z (.inr ⟨rfl,rfl⟩)) (.inl rfl) K (by rintro⟨_,_,e⟩;cases e) (.inr ⟨S1,by rw[Z];exact Q⟩)
  .rw[M]at z;obtain⟨rfl,rfl,rfl,h4,_⟩:=G.lstAt z;obtain rfl:wt=0:=O1
   have I:=VO (tr:=tr) (i:=i) (fn:=g.frame.fn) (pos:=g.frame.place) (b:=b) (es:=#[Z2 .disable,Jg b 1,QB b 1,Z2 .enable]) (by intro e B;simp at B;rcases B with rfl|rfl|rfl|rfl <;> first|exact .inl rfl|exact .inr ⟨_,_,rfl⟩) (by
    intro j hj;refine Y _ Z j ?_;have:j=0\/j=1\/j=2\/j=3:=by simp at hj;omega
    rcases this with rfl|rfl|rfl|rfl <;> simp[deafBehind,Jg,QB,Z2])
   exact h.tailGo f (p':=.out) hi L hr hp T H X S E F (by intro e B;simp at B;rcases B with rfl|rfl|rfl|rfl <;> first|exact .inl rfl|exact .inr (.inl ⟨1,_,O1,rfl⟩)) I (G.wake z) (.inr ⟨ad,Q.status⟩) K (by rintro⟨_,_,e⟩;cases e) (.inl ⟨rfl,by rw[Z];exact Q⟩)
end
section
variable{P:Program}{t:TypeId}{N:Nat}{Stop:QJ Tk}{gs:Array Gr}{w:World}{tr:Trace}{V V':Hd->Qa Tk}{rk:Nat->Option Tr}{rel:Nat->Option Nat}{q:Nat->Nat}{sl:Option (Nat×Nat)}
def MI.par'{ex:Option Nat}(h:MI P t N Stop ex gs w tr V rk rel q){b:Nat}(e:(V (.run 0)).tok.ph.blk=some b) :
  ∃ds pend k,(V (.run 0)).tok.ph=.par b ds pend k/\(∀j,QL b (V j))/\∃W c wt s,Sh b t (Q1 c wt) (Qq s) w/\GI N b ds pend k (Z3 V) rel (λ i=>(V (.dep i)).M) W c wt s/\(∀g,gs[0]?=some g->g.status≠.running->s=0):=by
 have f:=h.grp;unfold QK at f
 revert f e
 cases z:(V (.run 0)).tok.ph with
 |out=>intro e;cases e
 |par B ds pend k=>intro e f;cases e;grind
 |_=>simp_all
def BL{i:Nat}{g g':Gr}(f:gs[i]?=some g)(b:g'.status=.blocked):behind P gs i g g' w=gs.setIfInBounds i g':=by
 have h:=(Array.getElem?_eq_some_iff.1 f).1;apply Array.ext_getElem?;intro j;by_cases e:j=i
 .grind[Wl]
 .rw[J7 e,Array.getElem?_setIfInBounds_ne (Ne.symm e)];cases z:gs[j]? with
  |none=>rfl
  |some x=>
   simp only[Option.map_some];unfold woken;simp[b]
def MI.sleep{i:Nat}{g:Gr}{r:Tr}(h:MI P t N Stop (some i) gs w tr V rk rel q)(L:gs[i]?=some g)(S:g.status=.running)(W:g.offers=none)
  (Q:rk i=some r) (I:SW i (V (.run i)).tok) (F:stepG P (i==0) g w=.go { g with status:=.blocked } w #[]) (U:JR (Zb P t N) Stop r (i==0) g (V (.run i)))
  (z:QK t N (gs.setIfInBounds i { g with status:=.blocked }) w V rel) (B:JK (gs.setIfInBounds i { g with status:=.blocked }) w V):JP P t N Stop gs w sl tr rk q i:=by
 have M:=(Array.getElem?_eq_some_iff.1 L).1;have E:rk i≠none:=by rw[Q];simp
 have K:behind P gs i g { g with status:=.blocked } w=gs.setIfInBounds i { g with status:=.blocked }:=BL L rfl;refine⟨_,_,_,V,rk,rel,q,runT_crowd_go L F,?_,?_,.refl _,rfl⟩
 .have e1:tr++MemOp.ofEvents i g.frame.fn g.frame.place #[]=tr:=by rw[ofEvents_eq];simp
  show MI P t N Stop none (behind P gs i g { g with status:=.blocked } w) w _ V rk rel q;rw[K,e1];have f:∀j,j≠i->(gs.setIfInBounds i { g with status:=.blocked })[j]?=gs[j]?:=λ j b=>Array.getElem?_setIfInBounds_ne (Ne.symm b);refine⟨?_,h.root,?_,?_,?_,h.bare,h.wk,h.wk',h.deaf,h.deps,h.vi,h.ti,z,B,h.bareM⟩
  .intro j r'' _ hr'';by_cases e:j=i
   .subst e;rw[Q]at hr'';cases hr'';exact⟨g,U,.inr ⟨by simp[M],W,I⟩⟩
   .obtain⟨g_1,G,H⟩:=h.live j r'' (λ e'=>e (Option.some.inj e').symm) hr'';refine⟨g_1,G,?_⟩;rw[f j e];exact H
  .intro j x b hx hp;have e:j≠i:=λ e=>by subst e;exact E b
   rw[f j e]at hx;exact h.gone j x b hx hp
  .intro j b hp;have e:j≠i:=λ e=>by subst e;exact E b
   obtain⟨x,T,G,H⟩:=h.tail j b hp;exact⟨x,T,by rw[f j e];exact G,H⟩
  .intro j b;exact h.above j (by simpa using b)
 grind[JD,QI,behind,km]
def JK.sleep{i:Nat}{g g':Gr}(h:JK gs w V)(z:gs[i]?=some g)(B:∀x s me lo,Q3 V i≠some (.lok x s me lo)):JK (gs.setIfInBounds i g') w V:=by
 refine h.at (λ _=>rfl) rfl (λ _ b _=>b) (λ _ _ _ _ _ x=>x) λ j x s me lo y e E f=>?_;grind
def MI.block{g:Gr}{r:Tr}{b:Nat}{ds:List Spec}{bs:List (Nat×Bool)}{mu:Option ZS}(h:MI P t N Stop (some 0) gs w tr V rk rel q)(H:gs[0]?=some g)(f:g.status=.running)(Q:g.offers=none)
  (S:rk 0=some r) (E:(V (.run 0)).tok=⟨1,.par b ds false .wait,mu⟩) (I:∀j,QL b (V j)) {W:List Nat} {c wt:Nat} (z:Sh b t (Q1 c wt) (Qq 0) w) (L:GI N b ds false .wait (Z3 V) rel (λ i=>(V (.dep i)).M) W c wt 0)
  (G:Qc P t true g (Q1 c wt) (Qq 0)=.blocked { g with status:=.blocked } (Q1 c wt) (Qq 0) bs) (F:Z8 b bs) (K:JR (Zb P t N) Stop r true g (V (.run 0))):JP P t N Stop gs w sl tr rk q 0:=by
 have B:stepG P (0==0) g w=.go { g with status:=.blocked } w #[]:=by
  have:=E4 G z F
  rwa [z.two_same]at this
 refine h.sleep H f Q S (.inl ⟨rfl,b,ds,mu,E⟩) B K ?_ (h.mux.sleep H λ x s me lo e=>?_)
 .grind[QK]
 .have h3:=h.mux.2.2;simp_all
def MI.calm(z:∀m g U,Stop m g U->g.status=.running){i:Nat}{g g':Gr}{r S:Tr}{b:Nat}{bs:List (Nat×Bool)}(h:MI P t N Stop (some i) gs w tr V rk rel q)(I:gs[i]?=some g)(hr:rk i=some r)(f:i≠0)(hb:(V (.run i)).tok.ph.blk=some b)
  (aa:∀st sm,Qc P t false g st sm=.go g' st sm #[] bs) (Y:Z8 b bs) (ac:Tr.Sub S r) (hJ:JR (Zb P t N) Stop S false g' (V (.run i))):JP P t N Stop gs w sl tr rk q i:=by
 have Z:=(Array.getElem?_eq_some_iff.1 I).1;have L:rk i≠none:=by rw[hr];simp
 have B:=h.wk i f L;have Q:Z3 V i=(V (.run i)).tok.ph:=by simp[Z3,f]
 have G:=h.grp;unfold QK at G;cases E:(V (.run 0)).tok.ph with
 |out=>rw[E]at G;have:=G.1 i f;rw[this]at B;obtain⟨_,_,e⟩:=B;cases e
 |wrk _ _=>simp_all
 |rel _=>simp_all
 |lst _ _=>simp_all
 |par b' ds pend k=>
  rw[E]at G;obtain⟨K,W,c,wt,s,F,H,T⟩:=G
  have X:b'=b:=by
   obtain⟨ad,D,e⟩:=B;rw[e]at hb;cases hb;rw[e]at Q;rcases H.ph i with e'|⟨D',e'⟩|e'|⟨j,e'⟩ <;> rw[Q]at e' <;> cases e';rfl
  subst X
  have M:stepG P (i==0) g w=.go g' w #[]:=by
   rw[show(i==0)=false by simpa using f];have:=HD (aa (Q1 c wt) (Qq s)) F Y
   rwa [F.two_same]at this
  refine⟨_,_,_,V,Zp rk i (some S),rel,q,runT_crowd_go I M,?_,XI Jp Z hr λ ab e=>S2,.refl _,rfl⟩;refine h.go z (V':=V) (rk':=Zp rk i (some S)) (rel':=rel) (q':=q) (es:=#[]) I (λ _ _=>rfl) (λ j hj=>Qv _ _ hj) (λ _ _=>rfl) (λ _ _=>.inl rfl) (by rw[Qv _ _ (Ne.symm f)];exact h.root) (.inl f) ?_ ?_ h.deps h.vi ?_ ?_ (h.mux.step I (λ _ _ _ _ _=>hJ.running z) (λ _=>rfl) rfl (λ _ hm _=>hm) λ _ _ _ _ _ x=>x) (λ e=>by grind[Qj])
  .intro ab e;rw[Qj]at e;cases e;refine⟨by grind,?_,λ _=>B⟩;rw[deafBehind_nil];exact h.deaf i L
  .grind[Qj]
  .exact h.ti.imp λ _ x=>x.dumb λ e he=>by simp at he
  .unfold QK;rw[E];exact⟨K,W,c,wt,s,F,H,QK.woken I (λ e=>absurd e f) T⟩
def MI.lay(X:∀m g U,Stop m g U->g.status=.running){i n:Nat}{g g':Gr}{r:Tr}{b:Nat}{D:Spec}{bs:List (Nat×Bool)}(h:MI P t N Stop (some i) gs w tr V rk rel q)(hi:gs[i]?=some g)(hr:rk i=some r)(f:i≠0)
  {mu:Option ZS} (G:(V (.run i)).tok=⟨0,.wrk b D,mu⟩) (am:mu=none\/∃x s lo,mu=some (.lok x s .fin lo)) (hD:D (V (.run i)).M) (ap:∀st sm,Qc P t false g st sm=.go g' st sm #[Z2 (.releaseMerge ⟨b,0,none⟩)] bs) (aj:Z8 b bs) (hT:Tl P t N b n 0 (.rel b) g'):JP P t N Stop gs w sl tr rk q i:=by
 have ak:=(Array.getElem?_eq_some_iff.1 hi).1;have ao:rk i≠none:=by rw[hr];simp
 have af:Z3 V i=.wrk b D:=by simp[Z3,f,G]
 have ab:Deaf tr i=0:=by rw[h.deaf i ao,G]
 have hG:=h.grp;unfold QK at hG;cases L:(V (.run 0)).tok.ph with
 |out=>grind
 |wrk _ _=>simp_all
 |rel _=>simp_all
 |lst _ _=>simp_all
 |par E ds pend k=>
  rw[L]at hG;obtain⟨T,W,c,wt,s,Q,ac,ag⟩:=hG
  have ah:E=b:=by
   rcases ac.ph i with e'|⟨D',e'⟩|e'|⟨j,e'⟩ <;> rw[af]at e' <;> cases e';rfl
  subst ah
  have ae:stepG P (i==0) g w=.go g' w #[Z2 (.releaseMerge ⟨E,0,none⟩)]:=by
   rw[show(i==0)=false by simpa using f];have:=HD (ap (Q1 c wt) (Qq s)) Q aj
   rwa [Q.two_same]at this
  obtain⟨ay,ad⟩:=ac.rel_ (r:=tr.size) af hD;have ai:E<w.heap.size:=(Array.getElem?_eq_some_iff.1 Q).1
  let B:=Q2 (Q2 V (.run i) (Qa.bare ⟨0,.rel E,none⟩)) (.dep i) ⟨λ _=>none,(V (.run i)).M,⟨0,.out,none⟩⟩
  have v1:B (.run i)=Qa.bare ⟨0,.rel E,none⟩:=by show Q2 _ _ _ _=_;rw[Qh _ _ S1,Ql]
  have v2:∀j,j≠i->B (.run j)=V (.run j):=λ j F=>by grind[Q2,Qh]
  have v3:B (.dep i)=⟨λ _=>none,(V (.run i)).M,⟨0,.out,none⟩⟩:=Ql ..;have v4:∀j,j≠i->B (.dep j)=V (.dep j):=λ j F=>by grind[Q2,Qh]
  have v5:B .lck=V .lck:=by show Q2 _ _ _ _=_;rw[Qh _ _ S1,Qh _ _ S1]
  have Y:=qR (V (.run i)) (⟨0,.rel E,none⟩:Tk) ⟨0,.out,none⟩;have aq:VI B w:=h.vi.fork Y S1
  have hW:∀k l,(B k).canW l->(V k).canW l/\k≠.dep i\/(k=.dep i/\(V (.run i)).canW l):=by
   intro k l hl;cases k with
   |run j=>
    grind[absurd,Wk]
   |dep j=>
    by_cases e:j=i
    .subst e;rw[v3]at hl;exact .inr ⟨rfl,Y.wc l hl⟩
    simp_all
   |lck=>simp_all
  have hR:∀k l,(B k).canR l->(V k).canR l/\k≠.dep i\/(k=.dep i/\(V (.run i)).canR l):=by
   intro k l hl;cases k with
   |run j=>
    grind[absurd,Wj]
   |dep j=>
    by_cases e:j=i
    .subst e;rw[v3]at hl;exact .inr ⟨rfl,Y.rc l hl⟩
    simp_all
   |lck=>simp_all
  refine⟨_,_,_,B,Zp rk i none,Zp rel i (some tr.size),Zp q i n,runT_crowd_go hi ae,?_,XI Jp ak hr λ a2 e=>(by cases e),.refl _,rfl⟩
  have e0:MemOp.ofEvents i g.frame.fn g.frame.place #[Z2 (.releaseMerge ⟨E,0,none⟩)]=#[{ g:=i,fn:=g.frame.fn,pos:=g.frame.place,act:=.mark (.releaseMerge ⟨E,0,none⟩) }]:=by
   rw[ofEvents_eq];simp[Z2,MemAct.ofEvent]
  refine h.go X (V':=B) (rk':=Zp rk i none) (rel':=Zp rel i (some tr.size)) (q':=Zp q i n) (es:=#[Z2 (.releaseMerge ⟨E,0,none⟩)]) hi v2 (λ j F=>Qv _ _ F) (λ j F=>Qv _ _ F) (λ j F=>.inl (Qv _ _ F)) (by rw[Qv _ _ (Ne.symm f)];exact h.root) (.inl f) ?_ ?_ ?_ aq ?_ ?_ ?_ (λ _=>by unfold Q3;rw[v1];rfl)
  .grind[Qj]
  .intro _;rw[v1,Qj,ab];refine⟨f,rfl,rfl,?_,.inr ⟨λ e=>(by cases e),E,by rw[L];rfl,hT⟩⟩;rintro⟨_,_,e⟩;cases e
  .intro j F;have e:j≠i:=λ e=>by grind[Qj]
   rw[Qv _ _ e]at F;rw[v4 j e];exact h.deps j F
  .obtain⟨rm,hti⟩:=h.ti;have al:Jy B=Jy V:=by simp only[Jy,Q3,v2 0 (Ne.symm f)]
   refine⟨rm,?_⟩;rw[v2 0 (Ne.symm f),e0,al]
   have:=hti.release (W':=λ k=>(B k).canW) (R':=λ k=>(B k).canR) (wk':=λ j=>ZO (B (.run j)).tok.ph) (rel':=Zp rel i (some tr.size)) (y:={ g:=i,fn:=g.frame.fn,pos:=g.frame.place,act:=.mark (.releaseMerge ⟨E,0,none⟩) }) (b:=E) (by rw[L];rfl) rfl ai ab ad (λ k=>by simp[Zp]) hW hR (λ k hk=>by
    by_cases e:k=i
    .exact .inr e
    .left;rw[v2 k e];exact hk)
   refine this.turn (λ _ _ h=>h) (λ _ _ h=>h) ?_;grind
  .unfold QK;rw[v2 0 (Ne.symm f),L]
   have a0:Z3 B=Zp (Z3 V) i (.rel E):=by
    funext j;by_cases e:j=i
    .subst e;simp only[Z3,if_neg f,v1,Qj];rfl
    .simp_all[Qv,Z3,if_neg]
   have az:(λ j=>(B (.dep j)).M)=Zp (λ j=>(V (.dep j)).M) i (V (.run i)).M:=by
    funext j;by_cases e:j=i
    .grind[Qj]
    .grind[Qv]
   refine⟨λ j a ha ho aa=>?_,W,c,wt,s,Q,S2,QK.woken hi (λ e=>absurd e f) ag⟩;rcases hR _ _ aa with⟨K,_⟩|⟨_,K⟩
   .exact T _ a ha ho K
   .exact T _ a ha ho K
  .have hmk:∀j,j≠i->Q3 B j=Q3 V j:=λ j F=>by grind[Q3]
   have a1:Q3 B i=none:=by unfold Q3;rw[v1];rfl
   have S:Q3 V i=mu:=by unfold Q3;rw[G]
   have Z:∀m,(∀j,QL m (V j))->∀j,QL m (B j):=λ m hm j a ha ho aa=>by
    rcases hR _ _ aa with⟨K,_⟩|⟨_,K⟩
    .exact hm _ a ha ho K
    .exact hm _ a ha ho K
   obtain⟨g1,g2,g3⟩:=h.mux;refine⟨λ j x u F e=>?_,by rw[v5];exact g2,?_⟩
   .grind
   .rw[hmk 0 (Ne.symm f)]
    revert g3
    cases e0:Q3 V 0 with
    |none=>
     grind
    |some m0=>
     cases m0 with
     |lok=>exact λ x=>x
     |par x u=>
      rintro⟨g3,lp,st,sm,H⟩;refine⟨Z _ g3,lp,st,sm,⟨H.sh,H.word,λ j x' s me lo e=>?_,λ j k s aw au l₁ ax av l₂ e e'=>?_,λ s hs=>?_,H.idle,λ e=>by rw[v5];exact H.dep e,λ e=>by rw[v5];exact H.dep' e,λ j x' s me lo y e hy an=>?_⟩⟩
      .by_cases I:j=i
       .simp_all
       .rw[hmk j I]at e;exact H.tk j x' s me lo e
      .by_cases I:j=i
       .simp_all
       .by_cases ek:k=i
        .simp_all
        .rw[hmk j I]at e;rw[hmk k ek]at e';exact H.one j k s aw au l₁ ax av l₂ e e'
      .rcases H.who s hs with K|⟨j,me,lo,e⟩
       .exact .inl K
       .by_cases I:j=i
        .subst I;rw[S]at e;rcases am with rfl|⟨x',s',lo',rfl⟩
         .cases e
         .cases e;exact .inl (H.tk j _ _ _ _ S).2.1.symm
        grind
      .have I:j≠i:=λ I=>S2
       rw[hmk j I]at e;rw[J7 I]at hy;obtain⟨z,hz,rfl⟩:=Option.map_eq_some_iff.1 hy;exact H.slp j x' s me lo z e hz λ hr=>an (by grind[Wg])
end
def J_(V:Hd->Qa Tk)(l:List Nat):Hd->Qa Tk
 |.run j=>if j=0 then(V (.run 0)).with (l.map λ i=>(V (.dep i)).M).flatten else V (.run j)
 |.dep j=>if j∈l then ZL else V (.dep j)
 |.lck=>V .lck
def VI.joinAll{w:World}:∀{l:List Nat}{V:Hd->Qa Tk},l.Nodup->VI V w->VI (J_ V l) w
 |[],V,_,h=>by
  have:J_ V []=V:=by
   funext k;cases k with
   |run j=>
    simp_all[J_,Qa.with]
   |dep j=>simp[J_]
   |lck=>rfl
  rw[this];exact h
 |i::l,V,z,h=>by
  obtain⟨F,z⟩:=nodup_cons.1 z;have E:=h.join (k:=.run 0) (k':=.dep i) S1 (⟨0,.out,none⟩:Tk);have H:=VI.joinAll z E
  have e:J_ (Q2 (Q2 V (.run 0) ((V (.run 0)).with (V (.dep i)).M)) (.dep i) (Qa.bare ⟨0,.out,none⟩)) l=J_ V (i::l):=by
   funext k;cases k with
   |run j=>
    simp only[J_]
    have G:(l.map λ b=>(Q2 (Q2 V (.run 0) ((V (.run 0)).with (V (.dep i)).M)) (.dep i) (Qa.bare (⟨0,.out,none⟩:Tk)) (.dep b)).M)=l.map λ b=>(V (.dep b)).M:=by
     refine map_congr_left λ b f=>?_;have B:b≠i:=λ e=>F (e▸f);rw[Qh _ _ (by intro e;cases e;exact B rfl),Qh _ _ S1]
    rw[G];split
    .rename_i e;rw[Qh _ _ S1,Ql];simp[Qa.with]
    .rename_i e;rw[Qh _ _ S1,Qh _ _ (by intro e';cases e';exact e rfl)]
   |dep j=>
    simp only[J_];by_cases e:j=i
    .subst e;rw[Ql];simp[ZL]
    .rw[Qh _ _ (by intro e';cases e';exact e rfl),Qh _ _ S1];simp[e]
   |lck=>simp only[J_];rw[Qh _ _ S1,Qh _ _ S1]
  simp_all
def LT{V:Hd->Qa Tk}{U:Qa Tk}{l:List Nat}{x:Loc}:((U.with (l.map λ i=>(V (.dep i)).M).flatten).canW x->U.canW x\/∃i∈l,(V (.dep i)).canW x)/\((U.with (l.map λ i=>(V (.dep i)).M).flatten).canR x->U.canR x\/∃i∈l,(V (.dep i)).canR x):=by
 have key:∀r,r∈U.M++(l.map λ i=>(V (.dep i)).M).flatten->r.lets x->U.canW x\/∃i∈l,(V (.dep i)).canW x:=by
  intro r b e;rcases mem_append.1 b with b|b
  .exact .inl (Q6.2 ⟨r,b,e⟩)
  .obtain⟨M,hM,hrM⟩:=mem_flatten.1 b;obtain⟨i,f,rfl⟩:=mem_map.1 hM;exact .inr ⟨i,f,Q6.2 ⟨r,hrM,e⟩⟩
 refine⟨λ h=>?_,λ h=>?_⟩
 .obtain⟨r,b,e⟩:=Q6.1 h;exact key r b e
 .rcases Qy.1 h with⟨r,b,e⟩|h
  .exact(key r b e).imp Zx λ⟨i,f,h⟩=>⟨i,f,Zx h⟩
  .exact .inl (Qy.2 (.inr h))
def Ei{U:Qa Tk}(w:U.I=λ _=>none)(e:U.M=[])(l:Loc):¬U.canW l/\¬U.canR l:=by
 have f:¬U.canW l:=λ h=>by obtain⟨r,b,_⟩:=Q6.1 h;rw[e]at b;cases b
 refine⟨f,λ h=>?_⟩;rcases Qy.1 h with⟨r,b,_⟩|h
 .rw[e]at b;cases b
 grind
section
variable{P:Program}{t:TypeId}{N:Nat}{Stop:QJ Tk}{gs:Array Gr}{w:World}{tr:Trace}{V V':Hd->Qa Tk}{rk:Nat->Option Tr}{rel:Nat->Option Nat}{q:Nat->Nat}{sl:Option (Nat×Nat)}
def MI.take(L:∀m g U,Stop m g U->g.status=.running){g g':Gr}{r:Tr}{b:Nat}{ds:List Spec}{bs:List (Nat×Bool)}{mu:Option ZS}(h:MI P t N Stop (some 0) gs w tr V rk rel q)(Q:gs[0]?=some g)(hr:rk 0=some r)
  (G:(V (.run 0)).tok=⟨0,.par b ds false .up,mu⟩) {W:List Nat} {c wt s:Nat} (S:Sh b t (Q1 c wt) (Qq s) w) (H:GI N b ds false .up (Z3 V) rel (λ i=>(V (.dep i)).M) W c wt s)
  (ai:∀st sm,Qc P t true g st sm=.go g' st sm #[Z2 (.acquire ⟨b,0,none⟩)] bs) (af:Z8 b bs)
  (hJ:∀Ms,JO ds Ms->∃r',Tr.Sub r' r/\JR (Zb P t N) Stop r' true g' { (V (.run 0))with M:=((V (.run 0)).M++Ms.flatten)++(V .lck).M,tok:=⟨0,.out,none⟩ }):JP P t N Stop gs w sl tr rk q 0:=by
 have ag:=(Array.getElem?_eq_some_iff.1 Q).1;obtain⟨-,-,-,-,Y,E⟩:=H.up;obtain⟨r',aa,hJ⟩:=hJ _ H.deps;have I:∀j,j≠0->(V (.run j)).tok.ph=.out:=λ j B=>by have:=Y j;simpa[Z3,B]using this
 have F:∀j,j≠0->rk j=none:=by
  intro j B;cases e:rk j with
  |none=>rfl
  |some r=>
   obtain⟨b,D,e'⟩:=h.wk j B (by rw[e];simp);rw[I j B]at e';cases e'
 have T:Deaf tr 0=0:=by rw[h.deaf 0 h.root,G]
 have Z:stepG P (0==0) g w=.go g' w #[Z2 (.acquire ⟨b,0,none⟩)]:=by
  have:=HD (ai (Q1 c wt) (Qq s)) S af
  rwa [S.two_same]at this
 have ae:b<w.heap.size:=(Array.getElem?_eq_some_iff.1 S).1
 let K:Hd->Qa Tk:=Q2 (Q2 (J_ V W) (.run 0) ((J_ V W (.run 0)).with (J_ V W .lck).M)) .lck (Qa.bare ⟨0,.out,none⟩)
 have z0:K (.run 0)=((V (.run 0)).with (W.map λ i=>(V (.dep i)).M).flatten).with (V .lck).M:=by show Q2 _ _ _ _=_;rw[Qh _ _ S1,Ql];simp[J_]
 let z:Hd->Qa Tk:=Q2 K (.run 0) { K (.run 0)with tok:=⟨0,.out,none⟩ }
 have v0:z (.run 0)={ (V (.run 0))with M:=((V (.run 0)).M++(W.map λ i=>(V (.dep i)).M).flatten)++(V .lck).M,tok:=⟨0,.out,none⟩ }:=by show Q2 _ _ _ _=_;rw[Ql,z0];rfl
 have v2:∀j,j≠0->z (.run j)=V (.run j):=λ j B=>by show Q2 _ _ _ _=_;rw[Qh _ _ (by intro e;cases e;exact B rfl)];show Q2 _ _ _ _=_;rw[Qh _ _ S1,Qh _ _ (by intro e;cases e;exact B rfl)];simp[J_,B]
 have vm:z .lck=ZL:=by show Q2 _ _ _ _=_;rw[Qh _ _ S1];exact Ql ..
 have vd:∀j,z (.dep j)=ZL:=by
  intro j;show Q2 _ _ _ _=_;rw[Qh _ _ S1];show Q2 _ _ _ _=_;rw[Qh _ _ S1,Qh _ _ S1];simp only[J_];split
  .rfl
  .rename_i B;refine h.deps j ?_;cases e:rel j with
   |none=>rfl
   |some x=>exact absurd (H.inW j (.inr (by rw[e];simp))) B
 have aj:VI z w:=by
  have:=(VI.joinAll H.nodup h.vi).join (k:=.run 0) (k':=.lck) S1 (⟨0,.out,none⟩:Tk)
  have hs:∀k,(z k).canW=(K k).canW/\(z k).canR=(K k).canR:=by
   intro k;by_cases e:k=.run 0
   .subst e;rw[show z (.run 0)=_ from Ql ..];exact⟨rfl,rfl⟩
   .rw[show z k=_ from Qh _ _ e];exact⟨rfl,rfl⟩
  refine⟨λ k=>?_,λ ac ad l X hw hr=>this.sep ac ad l X (by rw[<- (hs ac).1];exact hw) (by rw[<- (hs ad).2];exact hr)⟩;by_cases e:k=.run 0
  .subst e;rw[show z (.run 0)=_ from Ql ..];have:=this.ok (.run 0);exact⟨this.imm,this.held,this.apart,this.sep⟩
  .rw[show z k=_ from Qh _ _ e];exact this.ok k
 have ab:∀l,((z (.run 0)).canW l->(K (.run 0)).canW l)/\((z (.run 0)).canR l->(K (.run 0)).canR l):=λ l=>by
  rw[show z (.run 0)=_ from Ql ..];exact⟨λ x=>x,λ x=>x⟩
 have hW:∀k l,(z k).canW l->k=.run 0/\((V (.run 0)).canW l\/(∃g r,rel g=some r/\(V (.dep g)).canW l)\/(V .lck).canW l):=by
  intro k l f;cases k with
  |run j=>
   by_cases e:j=0
   .subst e;have f:=(ab l).1 f;rw[z0]at f;refine⟨rfl,?_⟩;rcases Tc (τ:=V .lck) f with f|f
    .refine(LT.1 f).imp id λ⟨i,Q,h⟩=>?_;obtain⟨x,hx⟩:=E i Q;exact .inl ⟨i,x,hx,h⟩
    .exact .inr (.inr f)
   .rw[v2 j e]at f;obtain⟨b1,b2⟩:=h.bare j (F j e);exact absurd f (Ei b1 b2 l).1
  |dep j=>rw[vd]at f;exact absurd f (Wk _ _)
  |lck=>rw[vm]at f;exact absurd f (Wk _ _)
 have hR:∀k l,(z k).canR l->k=.run 0/\((V (.run 0)).canR l\/(∃g r,rel g=some r/\(V (.dep g)).canR l)\/(V .lck).canR l):=by
  intro k l f;cases k with
  |run j=>
   by_cases e:j=0
   .subst e;have f:=(ab l).2 f;rw[z0]at f;refine⟨rfl,?_⟩;rcases Om (τ:=V .lck) f with f|f
    .refine(LT.2 f).imp id λ⟨i,Q,h⟩=>?_;obtain⟨x,hx⟩:=E i Q;exact .inl ⟨i,x,hx,h⟩
    .exact .inr (.inr f)
   .rw[v2 j e]at f;obtain⟨b1,b2⟩:=h.bare j (F j e);exact absurd f (Ei b1 b2 l).2
  |dep j=>rw[vd]at f;exact absurd f (Wj _ _)
  |lck=>rw[vm]at f;exact absurd f (Wj _ _)
 refine⟨_,_,_,z,Zp rk 0 (some r'),λ _=>none,q,runT_crowd_go Q Z,?_,XI Jp ag hr λ ak e=>by cases e;exact aa,.refl _,rfl⟩
 have e0:MemOp.ofEvents 0 g.frame.fn g.frame.place #[Z2 (.acquire ⟨b,0,none⟩)]=#[{ g:=0,fn:=g.frame.fn,pos:=g.frame.place,act:=.mark (.acquire ⟨b,0,none⟩) }]:=by
  rw[ofEvents_eq];simp[Z2,MemAct.ofEvent]
 refine h.go L (V':=z) (rk':=Zp rk 0 (some r')) (rel':=λ _=>none) (q':=q) (es:=#[Z2 (.acquire ⟨b,0,none⟩)]) Q v2 (λ j B=>Qv _ _ B) (λ _ _=>rfl) (λ _ _=>.inr rfl) (by rw[Qj];simp) (.inr (.inr I)) ?_ ?_ (λ j _=>vd j) aj ?_ ?_ ?_ (λ e=>by rw[Qj]at e;cases e)
 .intro ak e;rw[Qj]at e;cases e;rw[v0];refine⟨hJ,?_,λ h0=>absurd rfl h0⟩;rw[T];rfl
 .intro e;rw[Qj]at e;cases e
 .obtain⟨rm,hti⟩:=h.ti;have ah:Jy z=none:=by unfold Jy Q3;rw[v0];rfl
  refine⟨none,?_⟩;rw[e0,v0,ah]
  exact hti.acquire (y:={ g:=0,fn:=g.frame.fn,pos:=g.frame.place,act:=.mark (.acquire ⟨b,0,none⟩) }) (b:=b) (by rw[G];rfl) rfl rfl ae T (λ j=>by
   by_cases e:j=0
   .subst e;rw[G];rintro⟨_,_,e⟩;cases e
   .rw[I j e];rintro⟨_,_,e⟩;cases e) (.inl rfl) hW hR
 .unfold QK;rw[v0];exact⟨λ j B=>by rw[v2 j B];exact I j B,λ _=>rfl⟩
 .have X:∀j,Q3 z j=none:=by
   intro j;by_cases e:j=0
   .subst e;unfold Q3;rw[v0]
   .unfold Q3;rw[v2 j e];exact h.bareM j (F j e)
  refine⟨λ j x u _ e=>(by rw[X]at e;cases e),by rw[vm];rfl,?_⟩;rw[X];exact⟨X,vm⟩
def MI.start(ag:∀m g U,Stop m g U->g.status=.running){g g' cg:Gr}{r ab ac:Tr}{b:Nat}{ds:List Spec}{D:Spec}{Up Uc:Qa Tk}{mu ao mc:Option ZS}(h:MI P t N Stop (some 0) gs w tr V rk rel q)(hi:gs[0]?=some g)(hr:rk 0=some r)
  (I:(V (.run 0)).tok=⟨0,.par b ds true .run,mu⟩) (au:∀j,QL b (V j)) {W:List Nat} {c wt s:Nat} (bi:Sh b t (Q1 c wt) (Qq s) w) (aw:GI N b ds true .run (Z3 V) rel (λ i=>(V (.dep i)).M) W c wt s)
  (bj:Qc P t true g undef undef=.spawn g' cg #[]) (hf:HH (V (.run 0)) Up Uc) (hp:Up.tok=⟨0,.par b (D::ds) false .run,ao⟩) (hc:Uc.tok=⟨0,.wrk b D,mc⟩) (ay:Ye mu ao mc)
  (h1:Tr.Sub ab r) (h2:Tr.Sub ac r) (hJ:JR (Zb P t N) Stop ab true g' Up) (a7:JR (Zb P t N) Stop ac false cg Uc):JP P t N Stop gs w sl tr rk q 0:=by
 have a9:=(Array.getElem?_eq_some_iff.1 hi).1;have bb:stepG P (0==0) g w=.spawn g' cg w #[]:=R7 bj w;obtain⟨a0,a5,a6⟩:=h.above gs.size (Nat.le_refl _);have S:gs.size≠0:=O1
 have ai:(V (.run gs.size)).tok.ph=.out:=by
  apply Classical.byContradiction;intro bh;obtain⟨x,_,K,_⟩:=h.tail gs.size a0 bh;rw[Array.getElem?_eq_none (Nat.le_refl _)]at K;cases K
 have av:Z3 V gs.size=.out:=by simp[Z3,S,ai]
 have be:gs.size∉W:=by
  intro hm;obtain⟨j,E,e⟩:=mem_iff_getElem.1 hm;have ax:j<ds.length:=by rw[<- aw.len];exact E
  rcases aw.spec j gs.size ds[j] (by rw[getElem?_eq_getElem E,e]) (getElem?_eq_getElem ax)with⟨x,_⟩|⟨_,⟨x,K⟩,_⟩
  .rw[av]at x;cases x
  .rw[a6]at K;cases K
 have a8:Deaf tr 0=0:=by rw[h.deaf 0 h.root,I]
 let Q:=Q2 (Q2 V (.run 0) Up) (.run gs.size) Uc
 have v0:Q (.run 0)=Up:=by show Q2 _ _ _ _=_;rw[Qh _ _ (λ e=>S (Hd.run.inj e).symm),Ql]
 have vc:Q (.run gs.size)=Uc:=Ql ..;have Y:∀j,j≠0->j≠gs.size->Q (.run j)=V (.run j):=λ j E ax=>by show Q2 _ _ _ _=_;rw[Qh _ _ (by intro e;cases e;exact ax rfl),Qh _ _ (by intro e;cases e;exact E rfl)]
 have vd:∀j,Q (.dep j)=V (.dep j):=λ j=>by show Q2 _ _ _ _=_;rw[Qh _ _ S1,Qh _ _ S1]
 have vm:Q .lck=V .lck:=by show Q2 _ _ _ _=_;rw[Qh _ _ S1,Qh _ _ S1]
 have bk:VI Q w:=h.vi.fork hf (λ e=>S (Hd.run.inj e).symm)
 have hW:∀k l,(Q k).canW l->(V k).canW l\/(k=.run gs.size/\(V (.run 0)).canW l):=by
  intro k l G;cases k with
  |run j=>
   by_cases e:j=0
   .subst e;rw[v0]at G;exact .inl (hf.wp l G)
   .by_cases e2:j=gs.size
    .subst e2;rw[vc]at G;exact .inr ⟨rfl,hf.wc l G⟩
    .rw[Y j e e2]at G;exact .inl G
  |dep j=>rw[vd]at G;exact .inl G
  |lck=>rw[vm]at G;exact .inl G
 have hR:∀k l,(Q k).canR l->(V k).canR l\/(k=.run gs.size/\(V (.run 0)).canR l):=by
  intro k l G;cases k with
  |run j=>
   by_cases e:j=0
   .subst e;rw[v0]at G;exact .inl (hf.rp l G)
   .by_cases e2:j=gs.size
    .subst e2;rw[vc]at G;exact .inr ⟨rfl,hf.rc l G⟩
    .rw[Y j e e2]at G;exact .inl G
  |dep j=>rw[vd]at G;exact .inl G
  |lck=>rw[vm]at G;exact .inl G
 let y:MemOp:={ g:=0,fn:=g.frame.fn,pos:=g.frame.place,act:=.go gs.size }
 let z:MemOp:={ g:=gs.size,fn:=cg.frame.fn,pos:=g.frame.place,act:=.start }
 have ba:((MemOp.ofEvents 0 g.frame.fn g.frame.place #[]).push y).push z=#[y,z]:=by rw[ofEvents_eq];simp
 have am:∀j,Deaf (tr++#[y,z]) j=Deaf tr j:=by
  intro j;have e:tr++#[y,z]=(tr++#[y])++#[z]:=by apply Array.ext';simp
  rw[e,Deaf_push,Deaf_push];rfl
 have Z:=hJ.running ag;refine⟨_,_,_,Q,Zp (Zp rk 0 (some ab)) gs.size (some ac),rel,q,runT_crowd_spawn hi bb,?_,?_,.refl _,rfl⟩
 .show MI P t N Stop none ((gs.setIfInBounds 0 g').push cg) w (tr++((MemOp.ofEvents 0 g.frame.fn g.frame.place #[]).push y).push z) Q _ rel q;rw[ba]
  have bd:∀j x,((gs.setIfInBounds 0 g').push cg)[j]?=some x->(j=0/\x=g')\/(j=gs.size/\x=cg)\/(j≠0/\j≠gs.size/\gs[j]?=some x):=by
   intro j x K;rw[Array.getElem?_push]at K;simp only[Array.size_setIfInBounds]at K;split at K
   .rename_i e;subst e;cases K;exact .inr (.inl ⟨rfl,rfl⟩)
   .rename_i e;by_cases B:j=0
    .subst B;simp[a9]at K;exact .inl ⟨rfl,K.symm⟩
    .rw[Array.getElem?_setIfInBounds_ne (Ne.symm B)]at K;exact .inr (.inr ⟨B,e,K⟩)
  have ah:((gs.setIfInBounds 0 g').push cg)[0]?=some g':=by
   rw[Array.getElem?_push];simp[a9,Ne.symm S]
  have aq:((gs.setIfInBounds 0 g').push cg)[gs.size]?=some cg:=by
   rw[Array.getElem?_push];simp
  have ad:∀j,j≠0->j≠gs.size->((gs.setIfInBounds 0 g').push cg)[j]?=gs[j]?:=by
   intro j h0 h1;rw[Array.getElem?_push];simp only[Array.size_setIfInBounds,if_neg h1];exact Array.getElem?_setIfInBounds_ne (Ne.symm h0)
  have L:∀j,j≠0->j≠gs.size->Zp (Zp rk 0 (some ab)) gs.size (some ac) j=rk j:=λ j h0 h1=>by rw[Qv _ _ h1,Qv _ _ h0]
  have F:Zp (Zp rk 0 (some ab)) gs.size (some ac) 0=some ab:=by rw[Qv _ _ (Ne.symm S),Qj]
  have H:Zp (Zp rk 0 (some ab)) gs.size (some ac) gs.size=some ac:=Qj ..;refine⟨?_,by rw[F];simp,?_,?_,?_,?_,?_,?_,?_,λ j E=>by rw[vd];exact h.deps j E,bk,?_,?_,?_,?_⟩
  .intro j r'' _ hr'';by_cases B:j=0
   .subst B;rw[F]at hr'';cases hr'';exact⟨g',by rw[v0];exact hJ,.inl ah⟩
   .by_cases f:j=gs.size
    .subst f;rw[H]at hr'';cases hr'';exact⟨cg,by rw[vc,show(gs.size==0)=false by simpa using S];exact a7,.inl aq⟩
    .rw[L j B f]at hr'';obtain⟨x,k1,k2⟩:=h.live j r'' (λ e'=>B (Option.some.inj e').symm) hr'';refine⟨x,by rw[Y j B f];exact k1,?_⟩;rw[Y j B f,ad j B f];exact k2
  .intro j x E K hp';have B:j≠0:=λ e=>by subst e;rw[F]at E;cases E
   have f:j≠gs.size:=λ e=>by subst e;rw[H]at E;cases E
   rw[L j B f]at E;rw[ad j B f]at K;rw[Y j B f]at hp';rw[am];exact h.gone j x E K hp'
  .intro j E hp';have B:j≠0:=λ e=>by subst e;rw[F]at E;cases E
   have f:j≠gs.size:=λ e=>by subst e;rw[H]at E;cases E
   rw[L j B f]at E;rw[Y j B f]at hp';obtain⟨x,b',k1,k2,k3⟩:=h.tail j E hp';refine⟨x,b',by rw[ad j B f];exact k1,?_,by rw[am,Y j B f];exact k3⟩;rw[v0,hp];rw[I]at k2;exact k2
  .intro j E;simp at E;rw[L j O1 O1,am];exact h.above j O1
  .intro j E;have B:j≠0:=λ e=>by subst e;rw[F]at E;cases E
   have f:j≠gs.size:=λ e=>by subst e;rw[H]at E;cases E
   rw[L j B f]at E;rw[Y j B f];exact h.bare j E
  .intro j h0 E;by_cases f:j=gs.size
   .subst f;rw[vc,hc];exact⟨b,D,rfl⟩
   .rw[L j h0 f]at E;rw[Y j h0 f];exact h.wk j h0 E
  .intro j E;by_cases B:j=0
   .subst B;rw[F];simp
   .by_cases f:j=gs.size
    .subst f;rw[H];simp
    .rw[Y j B f]at E;rw[L j B f];exact h.wk' j E
  .intro j E;rw[am];by_cases B:j=0
   .subst B;rw[v0,hp,a8]
   .by_cases f:j=gs.size
    .subst f;rw[vc,hc,a5]
    .rw[L j B f]at E;rw[Y j B f];exact h.deaf j E
  .obtain⟨rm,hti⟩:=h.ti;rw[I]at hti
   have bg:Jy Q=Jy V:=by
    unfold Jy Q3;rw[v0,hp,I];rcases ay with⟨rfl,_⟩|⟨x,u,s,rfl,_,rfl,_⟩ <;> rfl
   refine⟨rm,?_⟩;rw[bg,v0,hp];refine hti.fork (y:=y) (z:=z) (c:=gs.size) rfl rfl rfl rfl a8 a5 S ?_ ?_ hW hR
   .rintro j (rfl|E)
    .exact .inl (.inl rfl)
    .by_cases B:j=0
     .exact .inl (.inl B)
     .by_cases f:j=gs.size
      .exact .inr ⟨f,.inl rfl⟩
      .rw[Y j B f]at E;exact .inl (.inr E)
   .intro j E;by_cases B:j=0
    .subst B;rw[I]at E;obtain⟨_,_,e⟩:=E;cases e
    .by_cases f:j=gs.size
     .subst f;rw[ai]at E;obtain⟨_,_,e⟩:=E;cases e
     .rw[Y j B f];exact E
  .unfold QK;rw[v0,hp]
   have bf:Z3 Q=Zp (Z3 V) gs.size (.wrk b D):=by
    funext j;by_cases f:j=gs.size
    .subst f;simp only[Z3,if_neg S,vc,hc,Qj]
    .rw[Qv _ _ f];by_cases B:j=0
     .simp[Z3,B]
     .simp only[Z3,if_neg B,Y j B f]
   refine⟨λ j a ha ho az=>?_,gs.size::W,c,wt,s,bi,?_,λ x K T=>?_⟩
   .rcases hR _ _ az with k1|⟨_,k1⟩
    .exact au _ a ha ho k1
    .exact au _ a ha ho k1
   .rw[bf];simp only[vd];exact aw.go av a6 be
   .rw[ah]at K;cases K;exact absurd Z T
  .have hk0:Q3 V 0=mu:=by unfold Q3;rw[I]
   have ae:Q3 Q 0=ao:=by unfold Q3;rw[v0,hp]
   have aj:Q3 Q gs.size=mc:=by unfold Q3;rw[vc,hc]
   have ak:Q3 V gs.size=none:=h.bareM _ a0;have af:∀j,j≠0->j≠gs.size->Q3 Q j=Q3 V j:=λ j B f=>by unfold Q3;rw[Y j B f]
   have al:∀m,(∀j,QL m (V j))->∀j,QL m (Q j):=λ m hm j a ha ho az=>by
    rcases hR _ _ az with h1|⟨_,h1⟩
    .exact hm _ a ha ho h1
    .exact hm _ a ha ho h1
   obtain⟨g1,g2,g3⟩:=h.mux;rw[hk0]at g3;refine⟨λ j x u E e=>?_,by rw[vm];exact g2,?_⟩
   .by_cases f:j=gs.size
    .subst f;rw[aj]at e;rcases ay with⟨_,rfl⟩|⟨x,u,s,_,_,_,rfl⟩ <;> cases e
    .rw[af j E f]at e;exact g1 j x u E e
   .rw[ae];rcases ay with⟨rfl,rfl⟩|⟨x,u,s,rfl,bc,rfl,rfl⟩
    .have hk:∀j,Q3 Q j=Q3 V j:=by
      intro j;by_cases B:j=0
      .subst B;rw[hk0,ae]
      .by_cases f:j=gs.size
       .subst f;rw[aj,ak]
       .exact af j B f
     cases ao with
     |none=>exact⟨λ j=>by rw[hk];exact g3.1 j,by rw[vm];exact g3.2⟩
     |some m0=>
      cases m0 with
      |lok=>exact g3
      |par x u=>
       obtain⟨g4,lp,st,sm,g5⟩:=g3;refine⟨al _ g4,lp,st,sm,g5.at hk vm g5.sh λ j x' s me lo y e hy T=>?_⟩;rcases bd j y hy with⟨rfl,rfl⟩|⟨rfl,rfl⟩|⟨_,_,hz⟩
       .exact absurd Z T
       .rw[ak]at e;cases e
       .exact⟨y,hz,T⟩
    .obtain⟨g4,lp,st,sm,g5⟩:=g3;refine⟨al _ g4,lp,st,sm,g5.sh,g5.word,λ j x' X me lo e=>?_,λ j k X ap an l₁ bm bl l₂ e e'=>?_,λ X aa=>?_,λ X aa=>?_,λ e=>by rw[vm];exact g5.dep e,λ e=>by rw[vm];exact g5.dep' e,λ j x' X me lo y e hy T=>?_⟩
     .by_cases B:j=0
      .subst B;rw[ae]at e;cases e
      .by_cases f:j=gs.size
       .subst f;rw[aj]at e;cases e;exact⟨rfl,(g5.idle _ bc).symm,Nat.zero_le _,Wa ..⟩
       .rw[af j B f]at e;obtain⟨a1,a2,a3,a4⟩:=g5.tk j x' X me lo e;refine⟨a1,a2,a3,?_⟩;by_cases es:X=s
        .subst es;rw[Wa]
        .rw[XG _ _ es];exact a4
     .have key:∀j ap an l₁,Q3 Q j=some (.lok ap X an l₁)->(j=gs.size/\X=s)\/(Q3 V j=some (.lok ap X an l₁)/\X≠s):=by
       intro j ap an l₁ e;by_cases B:j=0
       .subst B;rw[ae]at e;cases e
       .by_cases f:j=gs.size
        .subst f;rw[aj]at e;cases e;exact .inl ⟨rfl,rfl⟩
        .rw[af j B f]at e;refine .inr ⟨e,λ es=>?_⟩;have:=(g5.tk j _ _ _ _ e).2.2.2;rw[es,bc]at this;cases this
      rcases key j _ _ _ e with⟨a1,a2⟩|⟨a1,a2⟩
      .rcases key k _ _ _ e' with⟨b1,b2⟩|⟨b1,b2⟩
       .rw[a1,b1]
       .exact absurd a2 b2
      .rcases key k _ _ _ e' with⟨b1,b2⟩|⟨b1,b2⟩
       .exact absurd b2 a2
       .exact g5.one j k X _ _ _ _ _ _ a1 b1
     .by_cases es:X=s
      .subst es;exact .inr ⟨gs.size,.idle,0,aj⟩
      .rw[XG _ _ es]at aa;rcases g5.who X aa with h1|⟨j,me,lo,e⟩
       .exact .inl h1
       .refine .inr ⟨j,me,lo,?_⟩;by_cases B:j=0
        .subst B;rw[hk0]at e;cases e
        .by_cases f:j=gs.size
         .subst f;rw[ak]at e;cases e
         .rw[af j B f];exact e
     .by_cases es:X=s
      .subst es;rw[Wa]at aa;cases aa
      .rw[XG _ _ es]at aa;exact g5.idle X aa
     .by_cases f:j=gs.size
      .subst f;rw[aq]at hy;cases hy;exact absurd (a7.running ag) T
      .by_cases B:j=0
       .subst B;rw[ah]at hy;cases hy;exact absurd Z T
       .rw[af j B f]at e;rw[ad j B f]at hy;exact g5.slp j x' X me lo y e hy T
  .intro j E;have B:j≠0:=λ e=>by subst e;rw[F]at E;cases E
   have f:j≠gs.size:=λ e=>by subst e;rw[H]at E;cases E
   rw[L j B f]at E;unfold Q3;rw[Y j B f];exact h.bareM j E
 grind[JD,QI,JD.cut,vf]
end
def LP.word_own{q:LP}{z:Nat×Nat}(h:LP.word .got q=some z):LP.word (.own q.rels) q=some z/\q.isOwn=false:=by
 cases q <;> simp_all[LP.word,LP.rels,LP.isOwn]
def LP.word_rls{v:Bool}{q:LP}{z:Nat×Nat}(h:LP.word (.own v) q=some z):LP.word .rls q=some z/\v=q.rels/\q.isOwn=false:=by
 cases q <;> cases v <;> simp_all[LP.word,LP.rels,LP.isOwn]
section
variable{P:Program}{t:TypeId}{N:Nat}{Stop:QJ Tk}{gs:Array Gr}{w:World}{tr:Trace}{V V':Hd->Qa Tk}{rk:Nat->Option Tr}{rel:Nat->Option Nat}{q:Nat->Nat}{sl:Option (Nat×Nat)}
def MI.inGrp{ex:Option Nat}(h:MI P t N Stop ex gs w tr V rk rel q){i b:Nat}{D:Spec}(z:i≠0)(K:(V (.run i)).tok.ph=.wrk b D) :
  ∃ds pend k,(V (.run 0)).tok.ph=.par b ds pend k/\(∀j,QL b (V j))/\∃W c wt s,Sh b t (Q1 c wt) (Qq s) w/\GI N b ds pend k (Z3 V) rel (λ i=>(V (.dep i)).M) W c wt s/\(∀g,gs[0]?=some g->g.status≠.running->s=0):=by
 have E:Z3 V i=.wrk b D:=by simp[Z3,z,K]
 have e:=h.grp;unfold QK at e;cases B:(V (.run 0)).tok.ph with
 |out=>simp_all
 |wrk _ _=>simp_all
 |rel _=>simp_all
 |lst _ _=>simp_all
 |par G ds pend k=>
  rw[B]at e;obtain⟨F,W,c,wt,s,L,f,H⟩:=e
  have I:G=b:=by
   rcases f.ph i with e'|⟨Q,e'⟩|e'|⟨j,e'⟩ <;> rw[E]at e' <;> cases e';rfl
  grind
def MI.lock{ex:Option Nat}(h:MI P t N Stop ex gs w tr V rk rel q){i:Nat}{x:QY}{s:Bool}{me:LP}{lo:Nat}(B:Q3 V i=some (.lok x s me lo)) :
  ∃u b st sm,Q3 V 0=some (.par x u)/\(∀j,QL x.m (V j))/\X8 gs w V x u b st sm/\me=b s/\lo<=(b (!s)).cls/\u s=true:=by
 obtain⟨-,-,f⟩:=h.mux;cases e:Q3 V 0 with
 |none=>simp_all
 |some E=>
  rw[e]at f;cases E with
  |lok=>exact f.elim
  |par K u=>
   obtain⟨I,b,st,sm,z⟩:=f;obtain⟨rfl,F,G,H⟩:=z.tk i _ _ _ _ B;grind
def X8.turn{gs G:Array Gr}{w w':World}{x:QY}{u:Bool->Bool}{f:Bool->LP}{st sm st' sm' i lo lo':Nat}{s:Bool}{me':LP}(h:X8 gs w V x u f st sm)(P:Q3 V i=some (.lok x s (f s) lo))
  (K:Q3 V' i=some (.lok x s me' lo')) (B:∀j,j≠i->Q3 V' j=Q3 V j) (L:Sh x.m x.t (Zc st') (Qq sm') w') (hw:LP.word me' (f (!s))=some (st',sm')) (hc:(f s).cls<=me'.cls) (Z:lo'<=(f (!s)).cls)
  (Y:((ZK f s me' false).isOwn|| (ZK f s me' true).isOwn)=true->V' .lck=ZL) (I:((ZK f s me' false).isOwn|| (ZK f s me' true).isOwn)=false->x.dep (ZK f s me') (V' .lck).M)
  (hs:∀j H s me lo g,Q3 V' j=some (.lok H s me lo)->G[j]?=some g->g.status≠.running->sm'=0):X8 G w' V' x u (ZK f s me') st' sm':=by
 have aa:=(h.tk i _ _ _ _ P).2.2.2
 have F:∀j H b me lo,j≠i->Q3 V j=some (.lok H b me lo)->b=!s:=by
  intro j H b me lo z e;by_cases es:b=s
  .subst es;exact absurd (h.one j i b _ _ _ _ _ _ e P) z
  .cases s <;> cases b <;> simp_all
 refine⟨L,?_,λ j H b me N e=>?_,λ j k b ad ab l₁ ae ac l₂ e e'=>?_,λ b E=>?_,λ b E=>?_,Y,I,hs⟩
 .grind[Hq,Wa,KM]
 .by_cases z:j=i
  .subst z;rw[K]at e;grind[Wa,KM]
  .rw[B j z]at e;obtain⟨Q,S,T,U⟩:=h.tk j _ _ _ _ e;have es:=F j _ _ _ _ z e;subst es;refine⟨Q,by rw[KM];exact S,?_,U⟩;rw[Bool.not_not]at T ⊢;grind[Wa,Nat.le_trans]
 .by_cases z:j=i
  .grind
  .rw[B j z]at e;by_cases W:k=i
   .grind
   .rw[B k W]at e';exact h.one j k b _ _ _ _ _ _ e e'
 .by_cases es:b=s
  .grind
  .rw[XG _ _ es];rcases h.who b E with X|⟨j,me,N,e⟩
   .exact .inl X
   grind
 .by_cases es:b=s
  .simp_all
  .rw[XG _ _ es];exact h.idle b E
def pR(x:QY)(b:Bool->LP)(s:Bool)(me':LP)(M:List Qx)(h:me'.rels=(b s).rels):x.dep (ZK b s me') M↔x.dep b M:=by
 grind[ZK,Wa,XG,QY.dep]
def EM(b:Bool->LP)(s:Bool)(me':LP)(h:me'.isOwn=(b s).isOwn):((ZK b s me' false).isOwn|| (ZK b s me' true).isOwn)=((b false).isOwn|| (b true).isOwn):=by
 grind[ZK,Wa,XG]
def YK(b:Bool->LP)(s:Bool):((b false).isOwn|| (b true).isOwn)=((b s).isOwn|| (b (!s)).isOwn):=by
 cases s
 .rfl
 grind
def MI.mu(B:∀m g U,Stop m g U->g.status=.running){i:Nat}{g g':Gr}{r r':Tr}{d d' b:Nat}{D:Spec}{x:QY}{s:Bool}{me':LP}{lo lo' st sm st' sm':Nat}{es:Array Event}{bs:List (Nat×Bool)}{u:Bool->Bool}{H:Bool->LP}(ae:lo'<=(H (!s)).cls)
  (h:MI P t N Stop (some i) gs w tr V rk rel q) (hi:gs[i]?=some g) (L:rk i=some r) (E:i≠0) (f:(V (.run i)).tok=⟨d,.wrk b D,some (.lok x s (H s) lo)⟩)
  (h0:Q3 V 0=some (.par x u)) (F:∀j,QL x.m (V j)) (hx:X8 gs w V x u H st sm)
  (a2:Qc P x.t false g (Zc st) (Qq sm)=.go g' (Zc st') (Qq sm') es bs) (aq:Z8 x.m bs) (hw:LP.word me' (H (!s))=some (st',sm')) (ad:(H s).cls<=me'.cls) (ai:me'.rels=(H s).rels) (I:me'.isOwn=(H s).isOwn)
  (av:∀e∈es,GL x.m e) (hd:deafBehind d es=d') (a3:sm'=sm\/sm'=0\/mayWake P g=true) (a8:Tr.Sub r' r) (hJ:JR (Zb P t N) Stop r' false g' ((V (.run i)).lk d' b D x s me' lo')) :
  JP P t N Stop gs w sl tr rk q i:=by
 have aw:=(Array.getElem?_eq_some_iff.1 hi).1;have aj:rk i≠none:=by rw[L];simp
 have ak:=hJ.running B;have G:=hx.sh;have ay:Q3 V i=some (.lok x s (H s) lo):=by unfold Q3;rw[f]
 obtain⟨ds,pend,k,ag,T,W,c,wt,a7,M,a9,ap⟩:=h.inGrp E (b:=b) (D:=D) (by rw[f])
 have al:stepG P (i==0) g w=.go g' (two w x.m x.t (Zc st') (Qq sm')) es:=by
  rw[show(i==0)=false by simpa using E];exact HD a2 G aq
 have ac:b≠x.m:=λ e=>M.ne G e.symm;generalize Y:(V (.run i)).lk d' b D x s me' lo'=U' at hJ;have af:∀j,j≠i->Q2 V (.run i) U' (.run j)=V (.run j):=λ j Z=>Qh _ _ S2;have au:∀j,Q2 V (.run i) U' (.dep j)=V (.dep j):=λ j=>Qh _ _ S1;have S:Q2 V (.run i) U' .lck=V .lck:=Qh _ _ S1
 have hM:∀j,(Q2 V (.run i) U' j).canW=(V j).canW/\(Q2 V (.run i) U' j).canR=(V j).canR:=by
  intro j;by_cases e:j=.run i
  .subst e;rw[Ql,<- Y];exact⟨rfl,rfl⟩
  .grind[Qh]
 have K:∀j,(Q2 V (.run i) U' (.run j)).tok.ph=(V (.run j)).tok.ph:=by
  intro j;by_cases e:j=i
  .subst e;rw[Ql,<- Y,f];rfl
  .rw[af j e]
 have az:x.m<w.heap.size:=(Array.getElem?_eq_some_iff.1 G).1;have am:=h.wk i E aj;have ax:Jy V=some x.m:=by unfold Jy;rw[h0];rfl
 refine⟨_,_,_,Q2 V (.run i) U',Zp rk i (some r'),rel,q,runT_crowd_go hi al,?_,XI Jp aw L λ a5 e=>S2,.refl _,rfl⟩;refine h.go B (rel':=rel) (q':=q) (es:=es) hi af (λ j Z=>Qv _ _ Z) (λ _ _=>rfl) (λ _ _=>.inl rfl) (by rw[Qv _ _ (Ne.symm E)];exact h.root) (.inl E) ?_ ?_ (λ j Z=>by rw[au];exact h.deps j Z) ?_ ?_ ?_ ?_ (λ e=>by grind[Qj])
 .intro a5 e;rw[Qj]at e;cases e;rw[Ql];refine⟨by grind,?_,λ _=>by rw[<- Y];exact⟨b,D,rfl⟩⟩;rw[h.deaf i aj,f,<- Y];exact hd
 .grind[Qj]
 .refine⟨λ j=>?_,λ an ao l hn hw L=>h.vi.sep an ao l hn (by rw[<- (hM an).1];exact hw) (by rw[<- (hM ao).2];exact L)⟩;have hv:=(h.vi.two (st':=Zc st') (sm':=Qq sm') G F).ok;by_cases e:j=.run i
  .subst e;rw[Ql,<- Y];exact⟨(hv (.run i)).imm,(hv (.run i)).held,(hv (.run i)).apart,(hv (.run i)).sep⟩
  grind[Qh]
 .obtain⟨rm,hti⟩:=h.ti;rw[ax]at hti;have:=vp (i:=i) (fn:=g.frame.fn) (pos:=g.frame.place) hti az F (.inr (by rw[f];simp)) av (by rw[ag];intro e;exact ac (Option.some.inj e)) am;refine⟨rm,?_⟩;simp_all[Jy,Q2,Q3,Ne.symm,two,Zc,Qq]
 .unfold QK;rw[K 0,ag];have hk:Z3 (Q2 V (.run i) U')=Z3 V:=by funext j;simp only[Z3,K]
  refine⟨λ j a ha ho L=>T j a ha ho (by rw[<- (hM j).2];exact L),W,c,wt,a7,M.two_other ac,?_,QK.woken hi (λ e=>absurd e E) ap⟩;simp_all
 .have hmi:Q3 (Q2 V (.run i) U') i=some (.lok x s me' lo'):=by unfold Q3;rw[Ql,<- Y];rfl
  have Q:∀j,j≠i->Q3 (Q2 V (.run i) U') j=Q3 V j:=λ j Z=>by grind[Q3]
  obtain⟨g1,g2,-⟩:=h.mux;refine⟨λ j x u Z e=>?_,by rw[S];exact g2,?_⟩
  .grind
  rw[Q 0 (Ne.symm E),h0];refine⟨λ j a ha ho L=>F j a ha ho S2,ZK H s me',st',sm',hx.turn ay hmi Q G.two hw ad ae ?_ ?_ ?_⟩
  .rw[EM _ _ _ I,S];exact hx.dep
  .rw[EM _ _ _ I,S,pR _ _ _ _ _ ai];exact hx.dep'
  .intro j x' s' me lo1 y e hy hns
   have ej:j≠i:=λ ej=>by
    grind[Wl]
   rw[Q j ej]at e;rw[J7 ej]at hy;obtain⟨z,hz,rfl⟩:=Option.map_eq_some_iff.1 hy;have a4:z.status≠.running:=λ L=>hns (by grind[Wg]);rcases a3 with rfl|rfl|a0
   .exact hx.slp j _ _ _ _ z e hz a4
   .rfl
   .exfalso;have a1:rk j≠none:=λ hn=>by rw[h.bareM j hn]at e;cases e
    obtain⟨a6,ah⟩:=Option.ne_none_iff_exists'.1 a1;obtain⟨aa,ab,hg⟩:=h.live j a6 (λ e'=>ej (Option.some.inj e').symm) ah;have X:=ab.running B;rcases hg with hg|⟨hg,ho,_⟩
    .simp_all
    .rw[hz]at hg;cases hg;refine hns ?_
     have:woken P g g' (two w x.m x.t (Zc st') (Qq sm')) { aa with status:=.blocked }=aa:=by
      unfold woken;rw[if_pos,again_blocked X ho];rw[ak,a0];rfl
     simp_all
def MI.mblk{i:Nat}{g:Gr}{r:Tr}{d b:Nat}{D:Spec}{x:QY}{s:Bool}{lo st:Nat}{bs:List (Nat×Bool)}{u:Bool->Bool}{I:Bool->LP}
  (h:MI P t N Stop (some i) gs w tr V rk rel q) (M:gs[i]?=some g) (z:g.status=.running) (S:g.offers=none) (T:rk i=some r) (G:i≠0) (E:(V (.run i)).tok=⟨d,.wrk b D,some (.lok x s .wai lo)⟩)
  (K:Q3 V 0=some (.par x u)) (f:∀j,QL x.m (V j)) (e:X8 gs w V x u I st 0)
  (H:Qc P x.t false g (Zc st) (Qq 0)=.blocked { g with status:=.blocked } (Zc st) (Qq 0) bs) (F:Z8 x.m bs) (U:JR (Zb P t N) Stop r false g (V (.run i))):JP P t N Stop gs w sl tr rk q i:=by
 have B:stepG P (i==0) g w=.go { g with status:=.blocked } w #[]:=by
  rw[show(i==0)=false by simpa using G];have:=E4 H e.sh F
  rwa [e.sh.two_same]at this
 have L:∀j,j≠i->(gs.setIfInBounds i { g with status:=.blocked })[j]?=gs[j]?:=λ j Q=>Array.getElem?_setIfInBounds_ne (Ne.symm Q);refine h.sleep M z S T (.inr ⟨d,b,D,x,s,lo,E⟩) B (by grind) ?_ ?_
 .have hG:=h.grp;simp_all[QK,Ne.symm]
 .obtain⟨g1,g2,-⟩:=h.mux;refine⟨g1,g2,?_⟩;rw[K];exact⟨f,I,st,0,e.sh,e.word,e.tk,e.one,e.who,e.idle,e.dep,e.dep',λ _ _ _ _ _ _ _ _ _=>rfl⟩
def MI.macq(G:∀m g U,Stop m g U->g.status=.running){i:Nat}{g g':Gr}{r r':Tr}{b:Nat}{D:Spec}{x:QY}{s:Bool}{lo st sm:Nat}{bs:List (Nat×Bool)}{u:Bool->Bool}{L:Bool->LP}
  (h:MI P t N Stop (some i) gs w tr V rk rel q) (hi:gs[i]?=some g) (Z:rk i=some r) (B:i≠0) (F:(V (.run i)).tok=⟨0,.wrk b D,some (.lok x s (L s) lo)⟩) (ab:L s=.got) (an:lo<=(L (!s)).cls)
  (h0:Q3 V 0=some (.par x u)) (ac:∀j,QL x.m (V j)) (hx:X8 gs w V x u L st sm)
  (ax:∀st sm,Qc P x.t false g st sm=.go g' st sm #[Z2 (.acquire ⟨x.m,0,none⟩)] bs) (al:Z8 x.m bs) (ah:Tr.Sub r' r)
  (hJ:JR (Zb P t N) Stop r' false g' { (V (.run i))with M:=(V (.run i)).M++(V .lck).M,tok:=⟨0,.wrk b D,some (.lok x s (.own (L (!s)).rels) lo)⟩ }):JP P t N Stop gs w sl tr rk q i:=by
 have ao:=(Array.getElem?_eq_some_iff.1 hi).1;have ad:rk i≠none:=by rw[Z];simp
 have ae:=hJ.running G;have T:=hx.sh;have aq:Q3 V i=some (.lok x s (L s) lo):=by unfold Q3;rw[F]
 obtain⟨ds,pend,k,av,Y,W,c,wt,a1,af,am,ak⟩:=h.inGrp B (b:=b) (D:=D) (by rw[F])
 have ag:stepG P (i==0) g w=.go g' w #[Z2 (.acquire ⟨x.m,0,none⟩)]:=by
  rw[show(i==0)=false by simpa using B];have:=HD (ax (Zc st) (Qq sm)) T al
  rwa [T.two_same]at this
 have aa:Deaf tr i=0:=by rw[h.deaf i ad,F]
 have hw:=hx.word;rw[Hq _ s,ab]at hw;obtain⟨az,a3⟩:=LP.word_own hw
 let V0:Hd->Qa Tk:=Q2 (Q2 V (.run i) ((V (.run i)).with (V .lck).M)) .lck (Qa.bare ⟨0,.out,none⟩)
 have K:VI V0 w:=h.vi.join (k:=.run i) (k':=.lck) S1 _
 let f:Hd->Qa Tk:=Q2 V0 (.run i) { (V (.run i))with M:=(V (.run i)).M++(V .lck).M,tok:=⟨0,.wrk b D,some (.lok x s (.own (L (!s)).rels) lo)⟩ }
 have v1:f (.run i)={ (V (.run i))with M:=(V (.run i)).M++(V .lck).M,tok:=⟨0,.wrk b D,some (.lok x s (.own (L (!s)).rels) lo)⟩ }:=Ql ..;have z1:V0 (.run i)=(V (.run i)).with (V .lck).M:=by show Q2 _ _ _ _=_;rw[Qh _ _ S1,Ql]
 have v2:∀j,j≠i->f (.run j)=V (.run j):=λ j Q=>by show Q2 _ _ _ _=_;rw[Qh _ _ (by intro e;cases e;exact Q rfl)];show Q2 _ _ _ _=_;rw[Qh _ _ S1,Qh _ _ (by intro e;cases e;exact Q rfl)]
 have vd:∀j,f (.dep j)=V (.dep j):=λ j=>by show Q2 _ _ _ _=_;rw[Qh _ _ S1];show Q2 _ _ _ _=_;rw[Qh _ _ S1,Qh _ _ S1]
 have vm:f .lck=ZL:=by show Q2 _ _ _ _=_;rw[Qh _ _ S1];exact Ql ..
 have hs:∀k,(f k).canW=(V0 k).canW/\(f k).canR=(V0 k).canR:=by
  intro k;by_cases e:k=.run i
  .subst e;rw[v1,z1];exact⟨rfl,rfl⟩
  .rw[show f k=_ from Qh _ _ e];exact⟨rfl,rfl⟩
 have ay:VI f w:=by
  refine⟨λ k=>?_,λ ai aj l hn hw Z=>K.sep ai aj l hn (by rw[<- (hs ai).1];exact hw) (by rw[<- (hs aj).2];exact Z)⟩;by_cases e:k=.run i
  .subst e;rw[v1];have:=K.ok (.run i);rw[z1]at this;exact⟨this.imm,this.held,this.apart,this.sep⟩
  .rw[show f k=_ from Qh _ _ e];exact K.ok k
 have hW:∀k l,(f k).canW l->k≠.lck/\((V k).canW l\/(k=.run i/\(V .lck).canW l)):=by
  intro k l E;cases k with
  |run j=>
   refine⟨S1,?_⟩;by_cases e:j=i
   .subst e;rw[(hs _).1,z1]at E;exact(Tc (τ:=V .lck) E).imp id λ h=>⟨rfl,h⟩
   .rw[v2 j e]at E;exact .inl E
  |dep j=>rw[vd]at E;exact⟨S1,.inl E⟩
  |lck=>rw[vm]at E;exact absurd E (Wk _ _)
 have hR:∀k l,(f k).canR l->k≠.lck/\((V k).canR l\/(k=.run i/\(V .lck).canR l)):=by
  intro k l E;cases k with
  |run j=>
   refine⟨S1,?_⟩;by_cases e:j=i
   .subst e;rw[(hs _).2,z1]at E;exact(Om (τ:=V .lck) E).imp id λ h=>⟨rfl,h⟩
   .rw[v2 j e]at E;exact .inl E
  |dep j=>rw[vd]at E;exact⟨S1,.inl E⟩
  |lck=>rw[vm]at E;exact absurd E (Wj _ _)
 have H:∀m,(∀j,QL m (V j))->∀j,QL m (f j):=λ m hm j a ha ho aw=>by
  rcases(hR _ _ aw).2 with h1|⟨_,h1⟩
  .exact hm _ a ha ho h1
  .exact hm _ a ha ho h1
 have I:∀j,(f (.run j)).tok.ph=(V (.run j)).tok.ph:=by
  intro j;by_cases e:j=i
  .subst e;rw[v1,F]
  .rw[v2 j e]
 have au:x.m<w.heap.size:=(Array.getElem?_eq_some_iff.1 T).1;have a2:=h.wk i B ad;have ap:Jy V=some x.m:=by unfold Jy;rw[h0];rfl
 have e0:MemOp.ofEvents i g.frame.fn g.frame.place #[Z2 (.acquire ⟨x.m,0,none⟩)]=#[{ g:=i,fn:=g.frame.fn,pos:=g.frame.place,act:=.mark (.acquire ⟨x.m,0,none⟩) }]:=by
  rw[ofEvents_eq];simp[Z2,MemAct.ofEvent]
 refine⟨_,_,_,f,Zp rk i (some r'),rel,q,runT_crowd_go hi ag,?_,XI Jp ao Z λ a0 e=>by cases e;exact ah,.refl _,rfl⟩;refine h.go G (V':=f) (rel':=rel) (q':=q) (es:=#[Z2 (.acquire ⟨x.m,0,none⟩)]) hi v2 (λ j Q=>Qv _ _ Q) (λ _ _=>rfl) (λ _ _=>.inl rfl) (by rw[Qv _ _ (Ne.symm B)];exact h.root) (.inl B) ?_ ?_ (λ j Q=>by rw[vd];exact h.deps j Q) ay ?_ ?_ ?_ (λ e=>by rw[Qj]at e;cases e)
 .intro a0 e;rw[Qj]at e;cases e;rw[v1];refine⟨by rw[show(i==0)=false by simpa using B];exact hJ,?_,λ _=>⟨b,D,rfl⟩⟩;rw[aa];rfl
 .intro e;rw[Qj]at e;cases e
 .obtain⟨rm,hti⟩:=h.ti;refine⟨rm,?_⟩;have e1:Jy f=Jy V:=by unfold Jy Q3;rw[v2 0 (Ne.symm B)]
  rw[e1,e0];simp only[I];exact hti.macq (y:={ g:=i,fn:=g.frame.fn,pos:=g.frame.place,act:=.mark (.acquire ⟨x.m,0,none⟩) }) ap rfl au aa (.inr (by rw[F];simp)) hW hR
 .unfold QK;rw[I 0,av];have hk:Z3 f=Z3 V:=by funext j;simp only[Z3,I]
  refine⟨H _ Y,W,c,wt,a1,af,?_,QK.woken hi (λ e=>absurd e B) ak⟩;rw[hk];simpa only[vd]using am
 .have hmi:Q3 f i=some (.lok x s (.own (L (!s)).rels) lo):=by unfold Q3;rw[v1]
  have S:∀j,j≠i->Q3 f j=Q3 V j:=λ j Q=>by unfold Q3;rw[v2 j Q]
  obtain⟨g1,g2,-⟩:=h.mux;refine⟨λ j x u Q e=>?_,by rw[vm];rfl,?_⟩
  .by_cases X:j=i
   .subst X;rw[hmi]at e;cases e
   .rw[S j X]at e;exact g1 j x u Q e
  rw[S 0 (Ne.symm B),h0];refine⟨H _ ac,ZK L s (.own (L (!s)).rels),st,sm,hx.turn aq hmi S T az (by rw[ab];exact Nat.le_refl _) an (λ _=>vm) (λ e=>?_) ?_⟩
  .exfalso;rw[YK _ s,Wa]at e;simp[LP.isOwn]at e
  .intro j x' s' me lo1 y e hy hns
   have X:j≠i:=λ X=>by
    subst X;rw[Wl hi]at hy;cases hy;exact hns ae
   rw[S j X]at e;rw[J7 X]at hy;obtain⟨z,hz,rfl⟩:=Option.map_eq_some_iff.1 hy;exact hx.slp j _ _ _ _ z e hz λ Z=>hns (by rw[Wg Z];exact Z)
def MI.mrel(G:∀m g U,Stop m g U->g.status=.running){i:Nat}{g g':Gr}{r r':Tr}{b:Nat}{D:Spec}{x:QY}{s v:Bool}{lo st sm:Nat}{bs:List (Nat×Bool)}{u:Bool->Bool}{Y:Bool->LP}{M₁ M₂:List Qx}
  (h:MI P t N Stop (some i) gs w tr V rk rel q) (hi:gs[i]?=some g) (hr:rk i=some r) (f:i≠0) (F:(V (.run i)).tok=⟨0,.wrk b D,some (.lok x s (Y s) lo)⟩) (ab:Y s=.own v) (an:lo<=(Y (!s)).cls)
  (h0:Q3 V 0=some (.par x u)) (ac:∀j,QL x.m (V j)) (hx:X8 gs w V x u Y st sm) (hM:(V (.run i)).M=M₁++M₂) (hD:x.sp (if s then v else true) (if s then true else v) M₁)
  (ay:∀st sm,Qc P x.t false g st sm=.go g' st sm #[Z2 (.releaseMerge ⟨x.m,0,none⟩)] bs) (al:Z8 x.m bs) (ah:Tr.Sub r' r)
  (hJ:JR (Zb P t N) Stop r' false g' { (V (.run i))with M:=M₂,tok:=⟨0,.wrk b D,some (.lok x s .rls lo)⟩ }):JP P t N Stop gs w sl tr rk q i:=by
 have ao:=(Array.getElem?_eq_some_iff.1 hi).1;have ad:rk i≠none:=by rw[hr];simp
 have ae:=hJ.running G;have S:=hx.sh;have aq:Q3 V i=some (.lok x s (Y s) lo):=by unfold Q3;rw[F]
 obtain⟨ds,pend,k,av,X,W,c,wt,a2,af,am,ak⟩:=h.inGrp f (b:=b) (D:=D) (by rw[F])
 have ag:stepG P (i==0) g w=.go g' w #[Z2 (.releaseMerge ⟨x.m,0,none⟩)]:=by
  rw[show(i==0)=false by simpa using f];have:=HD (ay (Zc st) (Qq sm)) S al
  rwa [S.two_same]at this
 have aa:Deaf tr i=0:=by rw[h.deaf i ad,F]
 have hw:=hx.word;rw[Hq _ s,ab]at hw;obtain⟨a0,ai,aw⟩:=LP.word_rls hw;have hf:=UI (tp:=(⟨0,.wrk b D,some (.lok x s .rls lo)⟩:Tk)) (tc:=(⟨0,.out,none⟩:Tk)) (h.vi.ok (.run i)) (M₁:=M₁) (M₂:=M₂) (by rw[hM])
 let E:Hd->Qa Tk:=Q2 (Q2 V (.run i) ⟨(V (.run i)).I,M₂,⟨0,.wrk b D,some (.lok x s .rls lo)⟩⟩) .lck ⟨λ _=>none,M₁,⟨0,.out,none⟩⟩
 have az:VI E w:=h.vi.fork hf S1;have v1:E (.run i)=⟨(V (.run i)).I,M₂,⟨0,.wrk b D,some (.lok x s .rls lo)⟩⟩:=by show Q2 _ _ _ _=_;rw[Qh _ _ S1,Ql]
 have Z:∀j,j≠i->E (.run j)=V (.run j):=λ j L=>by show Q2 _ _ _ _=_;rw[Qh _ _ S1,Qh _ _ (by intro e;cases e;exact L rfl)]
 have vd:∀j,E (.dep j)=V (.dep j):=λ j=>by show Q2 _ _ _ _=_;rw[Qh _ _ S1,Qh _ _ S1]
 have vm:E .lck=⟨λ _=>none,M₁,⟨0,.out,none⟩⟩:=Ql ..
 have hW:∀k l,(E k).canW l->((V k).canW l/\k≠.lck)\/(k=.lck/\(V (.run i)).canW l):=by
  intro k l B;cases k with
  |run j=>
   by_cases e:j=i
   .subst e;rw[v1]at B;exact .inl ⟨hf.wp l B,S1⟩
   .rw[Z j e]at B;exact .inl ⟨B,S1⟩
  |dep j=>rw[vd]at B;exact .inl ⟨B,S1⟩
  |lck=>rw[vm]at B;exact .inr ⟨rfl,hf.wc l B⟩
 have hR:∀k l,(E k).canR l->((V k).canR l/\k≠.lck)\/(k=.lck/\(V (.run i)).canR l):=by
  intro k l B;cases k with
  |run j=>
   by_cases e:j=i
   .subst e;rw[v1]at B;exact .inl ⟨hf.rp l B,S1⟩
   .rw[Z j e]at B;exact .inl ⟨B,S1⟩
  |dep j=>rw[vd]at B;exact .inl ⟨B,S1⟩
  |lck=>rw[vm]at B;exact .inr ⟨rfl,hf.rc l B⟩
 have H:∀m,(∀j,QL m (V j))->∀j,QL m (E j):=λ m hm j a ha ho ax=>by
  rcases hR _ _ ax with⟨h1,_⟩|⟨_,h1⟩
  .exact hm _ a ha ho h1
  .exact hm _ a ha ho h1
 have K:∀j,(E (.run j)).tok.ph=(V (.run j)).tok.ph:=by
  intro j;by_cases e:j=i
  .subst e;rw[v1,F]
  .rw[Z j e]
 have au:x.m<w.heap.size:=(Array.getElem?_eq_some_iff.1 S).1;have aj:=h.wk i f ad;have ap:Jy V=some x.m:=by unfold Jy;rw[h0];rfl
 have e0:MemOp.ofEvents i g.frame.fn g.frame.place #[Z2 (.releaseMerge ⟨x.m,0,none⟩)]=#[{ g:=i,fn:=g.frame.fn,pos:=g.frame.place,act:=.mark (.releaseMerge ⟨x.m,0,none⟩) }]:=by
  rw[ofEvents_eq];simp[Z2,MemAct.ofEvent]
 refine⟨_,_,_,E,Zp rk i (some r'),rel,q,runT_crowd_go hi ag,?_,XI Jp ao hr λ a1 e=>by cases e;exact ah,.refl _,rfl⟩;refine h.go G (V':=E) (rel':=rel) (q':=q) (es:=#[Z2 (.releaseMerge ⟨x.m,0,none⟩)]) hi Z (λ j L=>Qv _ _ L) (λ _ _=>rfl) (λ _ _=>.inl rfl) (by rw[Qv _ _ (Ne.symm f)];exact h.root) (.inl f) ?_ ?_ (λ j L=>by rw[vd];exact h.deps j L) az ?_ ?_ ?_ (λ e=>by rw[Qj]at e;cases e)
 .intro a1 e;rw[Qj]at e;cases e;rw[v1];refine⟨by rw[show(i==0)=false by simpa using f];exact hJ,?_,λ _=>⟨b,D,rfl⟩⟩;rw[aa];rfl
 .intro e;rw[Qj]at e;cases e
 .obtain⟨rm,hti⟩:=h.ti;refine⟨some tr.size,?_⟩;have e1:Jy E=Jy V:=by unfold Jy Q3;rw[Z 0 (Ne.symm f)]
  rw[e1,e0];simp only[K];exact hti.mrel (y:={ g:=i,fn:=g.frame.fn,pos:=g.frame.place,act:=.mark (.releaseMerge ⟨x.m,0,none⟩) }) ap rfl au aa aj hW hR
 .unfold QK;rw[K 0,av];have hk:Z3 E=Z3 V:=by funext j;simp only[Z3,K]
  refine⟨H _ X,W,c,wt,a2,af,?_,QK.woken hi (λ e=>absurd e f) ak⟩;rw[hk];simpa only[vd]using am
 .have hmi:Q3 E i=some (.lok x s .rls lo):=by unfold Q3;rw[v1]
  have Q:∀j,j≠i->Q3 E j=Q3 V j:=λ j L=>by unfold Q3;rw[Z j L]
  obtain⟨g1,g2,-⟩:=h.mux;refine⟨λ j x u L e=>?_,by rw[vm],?_⟩
  .by_cases T:j=i
   .subst T;rw[hmi]at e;cases e
   .rw[Q j T]at e;exact g1 j x u L e
  rw[Q 0 (Ne.symm f),h0];refine⟨H _ ac,ZK Y s .rls,st,sm,hx.turn aq hmi Q S a0 (by rw[ab];exact Nat.le_refl _) an (λ e=>?_) (λ _=>?_) ?_⟩
  .exfalso;rw[YK _ s,Wa,KM,aw]at e;simp[LP.isOwn]at e
  .rw[vm];unfold QY.dep;cases s
   .rw[Wa,XG _ _ S1];rw[ai]at hD;exact hD
   .rw[Wa,XG _ _ S1];rw[ai]at hD;exact hD
  .intro j x' s' me lo1 y e hy hns
   have T:j≠i:=λ T=>by
    subst T;rw[Wl hi]at hy;cases hy;exact hns ae
   rw[Q j T]at e;rw[J7 T]at hy;obtain⟨z,hz,rfl⟩:=Option.map_eq_some_iff.1 hy;exact hx.slp j _ _ _ _ z e hz λ hr=>hns (by rw[Wg hr];exact hr)
end
end Go.TM

