/- Lemmas. No conditions. -/
import Derived.Conc.CrowdStepC
import Derived.Conc.JoinWorld
import Derived.Test.YtcakpkianonbkaaGreatDoorB11
set_option linter.all false
open List
namespace Go.TM
open Go.Conc
def Qcw(n:Nat)(rk:Nat->Option Tr):List Tr:=(range n).filterMap rk
def Qdt(n:Nat)(rk:Nat->Option Tr):Qcw (n+1) rk=Qcw n rk++(rk n).toList:=by
 simp only[Qcw,range_succ,filterMap_append];cases h:rk n <;> simp[h]
def Qqf{n:Nat}{rk rk':Nat->Option Tr}(h:∀i,i<n->rk i=rk' i):Qcw n rk=Qcw n rk':=by
 induction n with
 |zero=>rfl
 |succ n ih=>rw[Qdt,Qdt,ih λ i hi=>h i (by omega),h n (by omega)]
def Qow{n i:Nat}(rk:Nat->Option Tr)(x:Option Tr)(hi:i<n):(Qcw n (Zr rk i x)).Perm (x.toList++Qcw n (Zr rk i none)):=by
 induction n with
 |zero=>omega
 |succ n ih=>
  rw[Qdt,Qdt];by_cases e:i=n
  .subst e;rw[Qk,Qk,Qqf (rk:=Zr rk i x) (rk':=Zr rk i none) λ j hj=>by rw[Qu _ _ (by omega),Qu _ _ (by omega)]];simp only[Option.toList_none,append_nil];exact perm_append_comm
  .rw[Qu _ _ (by omega),Qu _ _ (by omega)];have:=(ih (by omega)).append_right (rk n).toList
   rwa [append_assoc]at this
def Q6h{n i:Nat}{rk:Nat->Option Tr}{r:Tr}(hi:i<n)(hr:rk i=some r):(Qcw n rk).Perm (r::Qcw n (Zr rk i none)):=by
 have:=Qow rk (some r) hi;have e:Zr rk i (some r)=rk:=by funext j;by_cases e:j=i <;> simp[Zr,e,hr]
 rwa [e]at this
def Zpw{n i:Nat}{rk:Nat->Option Tr}{r:Tr}{x:Option Tr}(hi:i<n)(hr:rk i=some r)(hx:∀r',x=some r'->Tr.Sub r' r):Cut (Qcw n (Zr rk i x)) (Qcw n rk):=
 ⟨r,Qcw n (Zr rk i none),x.toList,Q6h hi hr,Qow rk x hi,λ c hc=>hx c (by simpa[Option.mem_toList]using hc)⟩
def Zpx{n i:Nat}{rk:Nat->Option Tr}{r r_1 r_2:Tr}(hi:i<n)(hr:rk i=some r)(h1:Tr.Sub r_1 r)(h2:Tr.Sub r_2 r):Cut (Qcw (n+1) (Zr (Zr rk i (some r_1)) n (some r_2))) (Qcw n rk):=by
 refine⟨r,Qcw n (Zr rk i none),[r_2,r_1],Q6h hi hr,?_,by simp[h1,h2]⟩;rw[Qdt,Qk,Qqf (rk:=Zr (Zr rk i (some r_1)) n (some r_2)) (rk':=Zr rk i (some r_1)) λ j hj=>Qu _ _ (by omega)];have:=Qow rk (some r_1) hi;simp only[Option.toList_some]at this ⊢;refine(perm_append_comm).trans ?_;exact(this.cons r_2)
def isW(p:Ph):Prop:=∃b D,p=.wrk b D
def Z6(V:Hd->Qa Tk)(i:Nat):Ph:=if i=0 then .out else(V (.run i)).tok.ph
def Qal:Qa Tk:=Qa.bare ⟨0,.out,none⟩
def Q3(V:Hd->Qa Tk)(i:Nat):Option MuT:=(V (.run i)).tok.mu
def Jz(V:Hd->Qa Tk):Option Nat:=MuT.mb (Q3 V 0)
structure MuX(gs:Array Goroutine)(w:World)(V:Hd->Qa Tk)(x:Mux)(u:Bool->Bool)(lp:Bool->LP)(st sm:Nat):Prop where
 sh:Sh x.m x.t (Ze st) (Qp sm) w
 word:Zrx lp=some (st,sm)
 tk:∀i x' s me lo,Q3 V i=some (.lok x' s me lo)->x'=x/\me=lp s/\lo<=(lp (!s)).cls/\u s=true
 one:∀i j s x_1 m_1 l₁ x_2 m_2 l₂,Q3 V i=some (.lok x_1 s m_1 l₁)->Q3 V j=some (.lok x_2 s m_2 l₂)->i=j
 who:∀s,u s=true->lp s=.fin\/∃i me lo,Q3 V i=some (.lok x s me lo)
 idle:∀s,u s=false->lp s=.idle
 dep:((lp false).isOwn|| (lp true).isOwn)=true->V .lck=Qal
 dep':((lp false).isOwn|| (lp true).isOwn)=false->x.dep lp (V .lck).M
 slp:∀i x' s me lo g,Q3 V i=some (.lok x' s me lo)->gs[i]?=some g->g.status≠.running->sm=0
def MuG(gs:Array Goroutine)(w:World)(V:Hd->Qa Tk):Prop:=
 (∀i x u,i≠0->Q3 V i≠some (.par x u))/\(V .lck).I=(λ _=>none) /\
 match Q3 V 0 with
 |none=>(∀i,Q3 V i=none)/\V .lck=Qal
 |some (.par x u)=>(∀j,Off x.m (V j))/\∃lp st sm,MuX gs w V x u lp st sm
 |some (.lok ..)=>False
def MuX.at{gs gs':Array Goroutine}{w w':World}{V V':Hd->Qa Tk}{x:Mux}{u:Bool->Bool}{lp:Bool->LP}{st sm:Nat}(h:MuX gs w V x u lp st sm)(hk:∀i,Q3 V' i=Q3 V i)(hm:V' .lck=V .lck)
  (hsh:Sh x.m x.t (Ze st) (Qp sm) w') (hgs:∀i x' s me lo g',Q3 V i=some (.lok x' s me lo)->gs'[i]?=some g'->g'.status≠.running->∃g,gs[i]?=some g/\g.status≠.running):MuX gs' w' V' x u lp st sm:=by
 refine⟨hsh,h.word,λ i x' s me lo e=>h.tk i x' s me lo (by rw[<- hk];exact e),λ i j s x_1 m_1 l₁ x_2 m_2 l₂ e e'=>h.one i j s x_1 m_1 l₁ x_2 m_2 l₂ (by rw[<- hk];exact e) (by rw[<- hk];exact e'),λ s hs=>(h.who s hs).imp id λ⟨i,me,lo,e⟩=>⟨i,me,lo,by rw[hk];exact e⟩,h.idle,λ e=>by rw[hm];exact h.dep e,λ e=>by rw[hm];exact h.dep' e,λ i x' s me lo g' e hg hr=>?_⟩;rw[hk]at e;obtain⟨g,h1,h2⟩:=hgs i x' s me lo g' e hg hr;exact h.slp i x' s me lo g e h1 h2
def MuG.at{gs gs':Array Goroutine}{w w':World}{V V':Hd->Qa Tk}(h:MuG gs w V)(hk:∀i,Q3 V' i=Q3 V i)(hm:V' .lck=V .lck)(hoff:∀m,(∀j,Off m (V j))->m<w.heap.size->∀j,Off m (V' j))
  (hsh:∀m t st sm,(∀j,Off m (V j))->Sh m t (Ze st) (Qp sm) w->Sh m t (Ze st) (Qp sm) w')
  (hgs:∀i x' s me lo g',Q3 V i=some (.lok x' s me lo)->gs'[i]?=some g'->g'.status≠.running->∃g,gs[i]?=some g/\g.status≠.running):MuG gs' w' V':=by
 obtain⟨h1,h2,h3⟩:=h;refine⟨λ i x u hi=>by rw[hk];exact h1 i x u hi,by rw[hm];exact h2,?_⟩;rw[hk];cases e:Q3 V 0 with
 |none=>rw[e]at h3;exact⟨λ i=>by rw[hk];exact h3.1 i,by rw[hm];exact h3.2⟩
 |some mu=>
  rw[e]at h3;cases mu with
  |lok=>exact h3
  |par x u=>
   obtain⟨h4,lp,st,sm,h5⟩:=h3;exact⟨hoff _ h4 (Array.getElem?_eq_some_iff.1 h5.sh).1,lp,st,sm,h5.at hk hm (hsh _ _ _ _ h4 h5.sh) hgs⟩
def Zr0(i:Nat)(tk:Tk):Prop:=(i=0/\∃b ds mu,tk=⟨1,.par b ds false .wait,mu⟩)\/∃d b D x s lo,tk=⟨d,.wrk b D,some (.lok x s .wai lo)⟩
def Grp(t:TypeId)(N:Nat)(gs:Array Goroutine)(w:World)(V:Hd->Qa Tk)(rel:Nat->Option Nat):Prop:=
 match(V (.run 0)).tok.ph with
 |.out=>(∀i,i≠0->(V (.run i)).tok.ph=.out)/\∀i,rel i=none
 |.par b ds pend k=>(∀j,Off b (V j))/\∃W c wt s,Sh b t (Q1 c wt) (Qp s) w/\GI N b ds pend k (Z6 V) rel (λ i=>(V (.dep i)).M) W c wt s/\(∀g,gs[0]?=some g->g.status≠.running->s=0)
 |_=>False
structure MI(P:Program)(t:TypeId)(N:Nat)(Stop:Stp Tk)(ex:Option Nat)(gs:Array Goroutine)(w:World)(tr:Trace)(V:Hd->Qa Tk)(rk:Nat->Option Tr)(rel:Nat->Option Nat)(q:Nat->Nat):Prop where
 live:∀i r,ex≠some i->rk i=some r->∃g,JR (Zb P t N) Stop r (i==0) g (V (.run i)) /\
  (gs[i]?=some g\/(gs[i]?=some { g with status:=.blocked }/\g.offers=none/\Zr0 i (V (.run i)).tok))
 root:rk 0≠none
 gone:∀i g,rk i=none->gs[i]?=some g->(V (.run i)).tok.ph=.out->QuitsD P (q i) (Deaf tr i) g
 tail:∀i,rk i=none->(V (.run i)).tok.ph≠.out->∃g b,gs[i]?=some g/\(V (.run 0)).tok.ph.blk=some b/\Tl P t N b (q i) (Deaf tr i) (V (.run i)).tok.ph g
 above:∀i,gs.size<=i->rk i=none/\Deaf tr i=0/\rel i=none
 bare:∀i,rk i=none->(V (.run i)).I=(λ _=>none)/\(V (.run i)).M=[]
 wk:∀i,i≠0->rk i≠none->isW (V (.run i)).tok.ph
 wk':∀i,isW (V (.run i)).tok.ph->rk i≠none
 deaf:∀i,rk i≠none->Deaf tr i=(V (.run i)).tok.d
 deps:∀i,rel i=none->V (.dep i)=Qal
 vi:VI V w
 ti:∃rm,TI (λ k=>(V k).canW) (λ k=>(V k).canR) rel (V (.run 0)).tok.ph.blk (Jz V) rm (λ i=>i=0\/(V (.run i)).tok.ph≠.out) (λ i=>isW (V (.run i)).tok.ph) w.heap.size tr
 grp:Grp t N gs w V rel
 mux:MuG gs w V
 bareM:∀i,rk i=none->Q3 V i=none
section
variable{P:Program}{t:TypeId}{N:Nat}{Stop:Stp Tk}{gs:Array Goroutine}{w:World}{tr:Trace}{V:Hd->Qa Tk}{rk:Nat->Option Tr}{rel:Nat->Option Nat}{q:Nat->Nat}
def JR.running(hStop:∀m g U,Stop m g U->g.status=.running):∀{r:Tr}{m:Bool}{g:Goroutine}{U:Qa Tk},JR (Zb P t N) Stop r m g U->g.status=.running:=by
 intro r
 induction r using Tr.sub_wf.induction with
 |_ r ih=>
  intro m g U h;obtain⟨U1,_,h|h|h⟩:=h.step
  .exact hStop _ _ _ h
  .exact h.1
  .have h:Syn P t N _ m g U1:=h;cases h with
   |make ht hM k=>obtain⟨r',hr',k⟩:=k;exact ih r' hr' k
   |makeM ht hM hD k=>obtain⟨r',hr',k⟩:=k;exact ih r' hr' k
   |quiet hs|dis hs|ena hs|add hs|said hs|look hs|sema hs|look2 hs|acq hs|acqM hs|go hs|lay hs|mu hs|mblk hs|macq hs|mrel hs=>exact hs
def Wh{g g' h:Goroutine}{w':World}(hs:h.status=.running):woken P g g' w' h=h:=by
 unfold woken;split
 .simp[Goroutine.again,hs]
 .rfl
def Zjw{g g' h:Goroutine}{w':World}(hs:h.status=.running)(ho:h.offers=none):woken P g g' w' { h with status:=.blocked }=h\/woken P g g' w' { h with status:=.blocked }={ h with status:=.blocked }:=by
 unfold woken;split
 .exact .inl (again_blocked hs ho w')
 .exact .inr rfl
def behind(P:Program)(gs:Array Goroutine)(i:Nat)(g g':Goroutine)(w':World):Array Goroutine:=(gs.map (woken P g g' w')).setIfInBounds i g'
def Wm{i:Nat}{g g':Goroutine}{w':World}(hi:gs[i]?=some g):(behind P gs i g g' w')[i]?=some g':=by
 have:=(Array.getElem?_eq_some_iff.1 hi).1;simp[behind,this]
def J7{i j:Nat}{g g':Goroutine}{w':World}(h:j≠i):(behind P gs i g g' w')[j]?=(gs[j]?).map (woken P g g' w'):=by
 simp only[behind];rw[Array.getElem?_setIfInBounds_ne (Ne.symm h),Array.getElem?_map]
def Jo{i:Nat}{g g':Goroutine}{w':World}:(behind P gs i g g' w').size=gs.size:=by simp[behind]
def Tl.running{b:Nat}:∀{n d:Nat}{p:Ph}{g:Goroutine},Tl P t N b n d p g->g.status=.running
 |0,_,_,_,h=>h.elim
 |_+1,_,_,_,h=>h.1
def MI.go{i:Nat}(h:MI P t N Stop (some i) gs w tr V rk rel q)(hStop:∀m g U,Stop m g U->g.status=.running){g g':Goroutine}{w':World}{es:Array Event}{V':Hd->Qa Tk}{rk':Nat->Option Tr}{rel':Nat->Option Nat}{q':Nat->Nat}
  (hi:gs[i]?=some g) (hV:∀j,j≠i->V' (.run j)=V (.run j)) (hrk:∀j,j≠i->rk' j=rk j) (hq:∀j,j≠i->q' j=q j) (hrl:∀j,j≠i->rel' j=rel j\/rel' j=none) (hroot:rk' 0≠none)
  (hblk:i≠0\/(V' (.run 0)).tok.ph.blk=(V (.run 0)).tok.ph.blk\/∀j,j≠0->(V (.run j)).tok.ph=.out)
  (hlive:∀r,rk' i=some r->JR (Zb P t N) Stop r (i==0) g' (V' (.run i))/\deafBehind (Deaf tr i) es=(V' (.run i)).tok.d/\(i≠0->isW (V' (.run i)).tok.ph))
  (hgone:rk' i=none->i≠0/\(V' (.run i)).I=(λ _=>none)/\(V' (.run i)).M=[]/\¬isW (V' (.run i)).tok.ph /\
   (((V' (.run i)).tok.ph=.out/\QuitsD P (q' i) (deafBehind (Deaf tr i) es) g')\/((V' (.run i)).tok.ph≠.out/\∃b,(V (.run 0)).tok.ph.blk=some b/\Tl P t N b (q' i) (deafBehind (Deaf tr i) es) (V' (.run i)).tok.ph g')))
  (hdeps:∀j,rel' j=none->V' (.dep j)=Qal) (hvi:VI V' w')
  (hti:∃rm,TI (λ k=>(V' k).canW) (λ k=>(V' k).canR) rel' (V' (.run 0)).tok.ph.blk (Jz V') rm (λ i=>i=0\/(V' (.run i)).tok.ph≠.out) (λ i=>isW (V' (.run i)).tok.ph) w'.heap.size (tr++MemOp.ofEvents i g.frame.fn g.frame.place es))
  (hgrp:Grp t N (behind P gs i g g' w') w' V' rel') (hmux:MuG (behind P gs i g g' w') w' V') (hbm:rk' i=none->Q3 V' i=none) :
  MI P t N Stop none (behind P gs i g g' w') w' (tr++MemOp.ofEvents i g.frame.fn g.frame.place es) V' rk' rel' q':=by
 have hlt:=(Array.getElem?_eq_some_iff.1 hi).1
 have hD:∀j,j≠i->Deaf (tr++MemOp.ofEvents i g.frame.fn g.frame.place es) j=Deaf tr j:=by
  intro j hj;refine Deaf_other tr (Ne.symm hj) _ ?_;intro op hop;obtain⟨e,_,rfl⟩:=Go.Conc.mem_ofEvents hop;rfl
 have hDi:Deaf (tr++MemOp.ofEvents i g.frame.fn g.frame.place es) i=deafBehind (Deaf tr i) es:=Deaf_own ..;refine⟨?_,hroot,?_,?_,?_,?_,?_,?_,?_,hdeps,hvi,hti,hgrp,hmux,λ j hj=>?_⟩
 .intro j r _ hr;by_cases e:j=i
  .subst e;exact⟨g',(hlive r hr).1,.inl (Wm hi)⟩
  .rw[hrk j e]at hr;obtain⟨g_1,hJ,hg⟩:=h.live j r (λ e'=>e (Option.some.inj e').symm) hr;have hrun:=hJ.running hStop;rw[hV j e];refine⟨g_1,hJ,?_⟩;rw[J7 e];rcases hg with hg|⟨hg,ho,hb⟩
   .exact .inl (by rw[hg,Option.map_some,Wh hrun])
   .rw[hg,Option.map_some];rcases Zjw (P:=P) (g:=g) (g':=g') (w':=w') hrun ho with e|e
    .exact .inl (by rw[e])
    .exact .inr ⟨by rw[e],ho,hb⟩
 .intro j x hr hx hp;by_cases e:j=i
  .subst e;rw[Wm hi]at hx;cases hx;rw[hDi];rcases(hgone hr).2.2.2.2 with⟨_,h1⟩|⟨h1,_⟩
   .exact h1
   .exact absurd hp h1
  .rw[J7 e]at hx;obtain⟨y,hy,rfl⟩:=Option.map_eq_some_iff.1 hx;rw[hrk j e]at hr;rw[hV j e]at hp;have:=h.gone j y hr hy hp;rw[woken_quitsD this,hD j e,hq j e];exact this
 .intro j hr hp;by_cases e:j=i
  .subst e;rcases(hgone hr).2.2.2.2 with⟨h1,_⟩|⟨_,b,hb,h1⟩
   .exact absurd h1 hp
   .refine⟨g',b,Wm hi,?_,by rw[hDi];exact h1⟩;rw[hV 0 (Ne.symm (hgone hr).1)];exact hb
  .rw[hrk j e]at hr;rw[hV j e]at hp;obtain⟨y,b,hy,hb,ht⟩:=h.tail j hr hp;refine⟨y,b,?_,?_,?_⟩
   .rw[J7 e,hy,Option.map_some,Wh ht.running]
   .by_cases e0:i=0
    .subst e0;rcases hblk with hblk|hblk|hblk
     .exact absurd rfl hblk
     .rw[hblk];exact hb
     .exact absurd (hblk j e) hp
    .rw[hV 0 (Ne.symm e0)];exact hb
   .rw[hD j e,hq j e,hV j e];exact ht
 .intro j hj;rw[Jo]at hj;have e:j≠i:=by omega
  rw[hrk j e,hD j e];obtain⟨a1,a2,a3⟩:=h.above j hj;exact⟨a1,a2,(hrl j e).elim (λ x=>x.trans a3) id⟩
 .intro j hr;by_cases e:j=i
  .subst e;exact⟨(hgone hr).2.1,(hgone hr).2.2.1⟩
  .rw[hV j e];rw[hrk j e]at hr;exact h.bare j hr
 .intro j h0 hr;by_cases e:j=i
  .subst e;obtain⟨r,hr'⟩:=Option.ne_none_iff_exists'.1 hr;exact(hlive r hr').2.2 h0
  .rw[hV j e];rw[hrk j e]at hr;exact h.wk j h0 hr
 .intro j hw;by_cases e:j=i
  .subst e;intro hr;exact(hgone hr).2.2.2.1 hw
  .rw[hV j e]at hw;rw[hrk j e];exact h.wk' j hw
 .intro j hr;by_cases e:j=i
  .subst e;obtain⟨r,hr'⟩:=Option.ne_none_iff_exists'.1 hr;rw[hDi];exact(hlive r hr').2.1
  .rw[hV j e,hD j e];rw[hrk j e]at hr;exact h.deaf j hr
 .by_cases e:j=i
  .subst e;exact hbm hj
  .unfold Q3;rw[hV j e];rw[hrk j e]at hj;exact h.bareM j hj
end
def tot:Nat->(Nat->Nat)->Nat
 |0,_=>0
 |n+1,f=>tot n f+f n
def Qzt{f f':Nat->Nat}:∀{n:Nat},(∀j,j<n->f' j=f j)->tot n f'=tot n f
 |0,_=>rfl
 |n+1,h=>by simp only[tot,Qzt (n:=n) λ j hj=>h j (by omega),h n (by omega)]
def Zel{f f':Nat->Nat}{i:Nat}:∀{n:Nat},i<n->(∀j,j<n->j≠i->f' j=f j)->f' i<f i->tot n f'<tot n f
 |0,hi,_,_=>by omega
 |n+1,hi,h,hl=>by
  by_cases e:i=n
  .subst e;simp only[tot];rw[Qzt (n:=i) λ j hj=>h j (by omega) (by omega)];omega
  .have:=Zel (n:=n) (by omega) (λ j hj hn=>h j (by omega) hn) hl;simp only[tot,h n (by omega) (by omega)];omega
def left(rk:Nat->Option Tr)(q:Nat->Nat)(i:Nat):Nat:=if(rk i).isSome then 0 else q i
def Zoq{f:Nat->Nat}(h:∀j,f j<=1):∀n,tot n f<=n
 |0=>Nat.le_refl _
 |n+1=>by have:=Zoq h n;have:=h n;simp only[tot];omega
def awk(gs:Array Goroutine)(i:Nat):Nat:=if(gs[i]?).any (·.status==.running)then 1 else 0
def Zr8(gs:Array Goroutine)(i:Nat):awk gs i<=1:=by unfold awk;split <;> omega
def Zov(gs:Array Goroutine):Nat:=tot gs.size (awk gs)
def Zow(gs:Array Goroutine):Zov gs<=gs.size:=Zoq (Zr8 gs) _
def meas(gs:Array Goroutine)(rk:Nat->Option Tr)(q:Nat->Nat):List Tr×Nat:=(Qcw gs.size rk,(gs.size+1)*tot gs.size (left rk q)+Zov gs)
def Qzg{gs gs':Array Goroutine}{rk:Nat->Option Tr}{q q':Nat->Nat}{i:Nat}(hs:gs'.size=gs.size)(hi:i<gs.size)(hr:rk i=none)(hq:∀j,j≠i->q' j=q j)(hl:q' i<q i):Qbp (meas gs' rk q') (meas gs rk q):=by
 unfold meas;rw[hs];refine Qbp.num ?_;have h1:tot gs.size (left rk q')<tot gs.size (left rk q):=Zel hi (λ j _ hj=>by simp[left,hq j hj]) (by simp[left,hr,hl]);have h2:=Zow gs';have h3:=Nat.mul_le_mul_left (gs.size+1) h1;rw[Nat.mul_succ]at h3;omega
def Zd3{gs:Array Goroutine}{rk:Nat->Option Tr}{q:Nat->Nat}{i:Nat}{g g':Goroutine}(hi:gs[i]?=some g)(hr:g.status=.running)(hb:g'.status=.blocked):Qbp (meas (gs.setIfInBounds i g') rk q) (meas gs rk q):=by
 have hlt:=(Array.getElem?_eq_some_iff.1 hi).1;unfold meas;have e1:(gs.setIfInBounds i g').size=gs.size:=by simp
 rw[e1];refine Qbp.num (Nat.add_lt_add_left ?_ _);unfold Zov;rw[e1];refine Zel hlt (λ j _ hj=>?_) ?_
 .unfold awk;rw[Array.getElem?_setIfInBounds_ne (Ne.symm hj)]
 .have h1:awk gs i=1:=by unfold awk;rw[hi];simp[hr]
  have h2:awk (gs.setIfInBounds i g') i=0:=by unfold awk;simp[hlt,hb]
  omega
section
variable{W R W' R':Hd->Loc->Prop}{rel:Nat->Option Nat}{blk mb rm:Option Nat}{act wk:Nat->Prop}{size size' i:Nat}{t:Trace}{fn:FuncId}{pos:String}{es:Array Event}
def TI.events(h:TI W R rel blk mb rm act wk size t)(hsz:size<=size')(hlow:∀e∈es,(MemAct.ofEvent e).low size')(hnr:∀e∈es,∀a,MemAct.ofEvent e≠.mark (.release a))
  (hcf:∀j a,touchAt t j=some a->∀e∈es,∀b,(MemAct.ofEvent e).touch?=some b->∀said,a.conflicts said b->Knows t i j)
  (hW:∀k l,W' k l->W k l\/(k=.run i/\Loc.newN size l)) (hR:∀k l,R' k l->R k l\/(k=.run i/\Loc.newN size l))
  (hoth:∀e∈es,∀a,(MemAct.ofEvent e).touch?=some a->∀k,k≠.run i->¬W k a.loc/\(a.write=true->¬R k a.loc))
  (hgp:∀e∈es,∀a,(MemAct.ofEvent e).touch?=some a->Qbr blk a.loc->a.kind≠.plain/\(a.kind=.said->i=0)) (hgm:∀e∈es,∀a,(MemAct.ofEvent e).touch?=some a->Qbr mb a.loc->a.kind=.atomic)
  (hhand:i=0\/wk i\/∀j,t.size<=j->¬(t++MemOp.ofEvents i fn pos es).counts j) :
  TI W' R' rel blk mb rm act wk size' (t++MemOp.ofEvents i fn pos es):=by
 refine h.step hsz ?_ ?_ ?_ ?_ hW hR ?_ ?_ ?_ hhand
 .intro op hop;obtain⟨e,_,rfl⟩:=Go.Conc.mem_ofEvents hop;rfl
 .intro op hop;obtain⟨e,he,rfl⟩:=Go.Conc.mem_ofEvents hop;exact hlow e he
 .intro op hop;obtain⟨e,he,rfl⟩:=Go.Conc.mem_ofEvents hop;exact hnr e he
 .intro j a ha op hop;obtain⟨e,he,rfl⟩:=Go.Conc.mem_ofEvents hop;exact hcf j a ha e he
 .intro op hop;obtain⟨e,he,rfl⟩:=Go.Conc.mem_ofEvents hop;exact hoth e he
 .intro op hop;obtain⟨e,he,rfl⟩:=Go.Conc.mem_ofEvents hop;exact hgp e he
 .intro op hop;obtain⟨e,he,rfl⟩:=Go.Conc.mem_ofEvents hop;exact hgm e he
def Zr1(e:Event):Prop:=(MemAct.ofEvent e).touch?=none/\(∀n,(MemAct.ofEvent e).low n)/\∀a,MemAct.ofEvent e≠.mark (.release a)
def Qft{e:Event}(h:e.mute=true):Zr1 e:=by
 obtain⟨loc,wr,sy⟩:=e;cases loc <;> simp[Event.mute]at h;rename_i m;cases m <;> simp at h <;> exact⟨rfl,λ _=>trivial,λ _ h=>by cases h⟩
def TI.dumb(h:TI W R rel blk mb rm act wk size t)(he:∀e∈es,Zr1 e):TI W R rel blk mb rm act wk size (t++MemOp.ofEvents i fn pos es):=by
 refine h.events (Nat.le_refl _) (λ e h=>(he e h).2.1 _) (λ e h=>(he e h).2.2) (λ j a _ e h b hb=>?_) (λ _ _=>.inl) (λ _ _=>.inl) (λ e h a ha=>?_) (λ e h a ha=>?_) (λ e h a ha=>?_) ?_
 .rw[(he e h).1]at hb;cases hb
 .rw[(he e h).1]at ha;cases ha
 .rw[(he e h).1]at ha;cases ha
 .rw[(he e h).1]at ha;cases ha
 .refine .inr (.inr λ j hj hc=>?_);obtain⟨x,hx,_⟩:=hc;rcases Jl (t:=t) hx with⟨hlt,_⟩|⟨_,op,hop,hoa,_⟩
  .omega
  .obtain⟨e,he',rfl⟩:=Go.Conc.mem_ofEvents hop;rw[(he e he').1]at hoa;cases hoa
end
section
variable{V:Hd->Qa Tk}{rel:Nat->Option Nat}{blk mb rm:Option Nat}{act wk:Nat->Prop}{i:Nat}{tr:Trace}{w w':World}{fn:FuncId}{pos:String}{es:Array Event}{U':Qa Tk}
def Qj9{U:Qa Tk}{e:Event}(h:Qjb U w e)(hl:Qz0 w' e):Zr1 e \/
  ((∃x,(MemAct.ofEvent e).touch?=some x/\x.kind=.plain/\x.loc=e.loc/\(x.write=true->U.canW e.loc\/Loc.new w e.loc)/\(U.canR e.loc\/Loc.new w e.loc))/\(MemAct.ofEvent e).low w'.heap.size/\∀a,MemAct.ofEvent e≠.mark (.release a)):=by
 obtain⟨loc,wr,sy⟩:=e;cases loc with
 |cell a=>
  obtain⟨h1,h2⟩:=h;simp only at h1 h2;subst h1;refine .inr ⟨⟨_,rfl,rfl,rfl,λ hw=>?_,?_⟩,hl,λ _ h=>by cases h⟩
  .simp only at hw;subst hw;simpa using h2
  .cases wr
   .simpa using h2
   .simp only[if_true]at h2;exact h2.imp Zx id
 |obj b=>
  obtain⟨h1,h2⟩:=h;simp only at h1 h2;subst h1;have e1:MemAct.ofEvent ⟨.obj b,wr,false⟩=.access ⟨.obj b,wr,false⟩:=by cases wr <;> rfl
  rw[e1];refine .inr ⟨⟨_,rfl,rfl,rfl,λ hw=>?_,?_⟩,hl,λ _ h=>by cases h⟩
  .simp only at hw;subst hw;simpa using h2
  .cases wr
   .simpa using h2
   .simp only[if_true]at h2;exact h2.imp Zx id
 |mark m=>
  have h:Mark.still m=true:=h;left;cases m <;> simp[Mark.still]at h <;> exact⟨rfl,λ _=>trivial,λ _ h=>by cases h⟩
 |output=>exact h.elim
 |goroutines=>exact h.elim
def Qib{l:Loc}(h:Loc.new w l):Loc.newN w.heap.size l:=by cases l <;> exact h
def Zfu(h:TI (λ k=>(V k).canW) (λ k=>(V k).canR) rel blk mb rm act wk w.heap.size tr)(hv:VI V w)(hb:∀b,blk=some b->b<w.heap.size/\Off b (V (.run i)))(hm:∀b,mb=some b->b<w.heap.size/\Off b (V (.run i)))
  (hes:∀e∈es,Qjb (V (.run i)) w e/\Qz0 w' e) (hg:Qfb (V (.run i)) w w' U') (hi:i=0\/wk i) :
  TI (λ k=>(Q2 V (.run i) U' k).canW) (λ k=>(Q2 V (.run i) U' k).canR) rel blk mb rm act wk w'.heap.size (tr++MemOp.ofEvents i fn pos es):=by
 have key:∀e∈es,∀x,(MemAct.ofEvent e).touch?=some x->x.kind=.plain/\(x.write=true->(V (.run i)).canW x.loc\/Loc.new w x.loc)/\((V (.run i)).canR x.loc\/Loc.new w x.loc):=by
  intro e he x hx;rcases Qj9 (hes e he).1 (hes e he).2 with hd|⟨⟨y,hy,h1,h2,h3,h4⟩,_⟩
  .rw[hd.1]at hx;cases hx
  .rw[hy]at hx;cases hx;rw[h2];exact⟨h1,h3,h4⟩
 refine h.events hg.size ?_ ?_ ?_ ?_ ?_ ?_ ?_ ?_ (hi.imp id .inl)
 .intro e he;rcases Qj9 (hes e he).1 (hes e he).2 with hd|⟨_,hd,_⟩
  .exact hd.2.1 _
  .exact hd
 .intro e he;rcases Qj9 (hes e he).1 (hes e he).2 with hd|⟨_,_,hd⟩
  .exact hd.2.2
  .exact hd
 .intro j a ha e he b hb' said hc;obtain⟨h1,h2,h3⟩:=key e he b hb'
  have hnew:¬Loc.new w a.loc:=by
   obtain⟨x,hx,hxa⟩:=touch_of ha;exact λ hn=>Qzf (h.low x (Array.mem_of_getElem? hx)) hxa (Qib hn)
  obtain⟨he1,_,hwr,_⟩:=hc;rw[<- he1]at h2 h3;refine h.known (.run i) j a ha ?_;rcases hwr with hw|hw
  .exact .inr ⟨h3.resolve_right hnew,hw⟩
  .exact .inl ((h2 hw).resolve_right hnew)
 .intro k l hl;by_cases e:k=.run i
  .subst e;simp only[Ql]at hl;exact(hg.cw l hl).imp id λ hn=>⟨rfl,Qib hn⟩
  .simp only[Qh _ _ e]at hl;exact .inl hl
 .intro k l hl;by_cases e:k=.run i
  .subst e;simp only[Ql]at hl;exact(hg.cr l hl).imp id λ hn=>⟨rfl,Qib hn⟩
  .simp only[Qh _ _ e]at hl;exact .inl hl
 .intro e he a ha k hk;obtain⟨h1,h2,h3⟩:=key e he a ha;refine⟨λ hw=>?_,λ haw hr=>?_⟩
  .rcases h3 with h3|h3
   .exact hv.sep k (.run i) _ hk hw h3
   .exact Ql8 (hv.ok k) (Zx hw) h3
  .rcases h2 haw with h2|h2
   .exact hv.sep (.run i) k _ (Ne.symm hk) h2 hr
   .exact Ql8 (hv.ok k) hr h2
 .intro e he a ha hib;exfalso;obtain⟨h1,h2,h3⟩:=key e he a ha;obtain⟨loc,wr,kd⟩:=a;cases loc <;> simp only[Qbr]at hib;rename_i ad;obtain⟨hbl,hoff⟩:=hib;obtain⟨hlt,hof⟩:=hb _ hbl;rcases h3 with h3|h3
  .exact hof ad rfl hoff h3
  .simp only[Loc.new]at h3;omega
 .intro e he a ha hib;exfalso;obtain⟨h1,h2,h3⟩:=key e he a ha;obtain⟨loc,wr,kd⟩:=a;cases loc <;> simp only[Qbr]at hib;rename_i ad;obtain⟨hbl,hoff⟩:=hib;obtain⟨hlt,hof⟩:=hm _ hbl;rcases h3 with h3|h3
  .exact hof ad rfl hoff h3
  .simp only[Loc.new]at h3;omega
def Zeq(b:Nat)(parent:Bool)(e:Event):Prop:=
 Event.mute e=true\/(∃o wr,o<2/\e=⟨.cell ⟨b,o,none⟩,wr,true⟩)\/(parent=true/\∃o wr,o<2/\e=Z5 (bif wr then .write ⟨b,o,none⟩else .read ⟨b,o,none⟩))
def Zop{b:Nat}(h:TI (λ k=>(V k).canW) (λ k=>(V k).canR) rel (some b) mb rm act wk w.heap.size tr)(hb:b<w.heap.size)(ho:∀k,Off b (V k))(hact:act i)
  (hes:∀e∈es,Zeq b (i==0) e) (hmb:mb≠some b) (hi:i=0\/wk i\/∀j,tr.size<=j->¬(tr++MemOp.ofEvents i fn pos es).counts j) :
  TI (λ k=>(V k).canW) (λ k=>(V k).canR) rel (some b) mb rm act wk w.heap.size (tr++MemOp.ofEvents i fn pos es):=by
 have key:∀e∈es,(MemAct.ofEvent e).low w.heap.size/\(∀a,MemAct.ofEvent e≠.mark (.release a))/\∀x,(MemAct.ofEvent e).touch?=some x->(∃o,o<2/\x.loc=.cell ⟨b,o,none⟩)/\(x.kind=.atomic\/(x.kind=.said/\i=0)):=by
  intro e he;rcases hes e he with hm|⟨o,wr,ho,rfl⟩|⟨hp,o,wr,ho,rfl⟩
  .have:=Qft hm;exact⟨this.2.1 _,this.2.2,λ x hx=>by rw[this.1]at hx;cases hx⟩
  .refine⟨hb,λ _ h=>(by cases h),λ x hx=>?_⟩;cases hx;exact⟨⟨o,ho,rfl⟩,.inl rfl⟩
  .have hi0:i=0:=by simpa using hp
   cases wr
   .refine⟨hb,λ _ h=>(by cases h),λ x hx=>?_⟩;cases hx;exact⟨⟨o,ho,rfl⟩,.inr ⟨rfl,hi0⟩⟩
   .refine⟨hb,λ _ h=>(by cases h),λ x hx=>?_⟩;cases hx;exact⟨⟨o,ho,rfl⟩,.inr ⟨rfl,hi0⟩⟩
 refine h.events (Nat.le_refl _) (λ e he=>(key e he).1) (λ e he=>(key e he).2.1) ?_ (λ _ _=>.inl) (λ _ _=>.inl) ?_ ?_ ?_ hi
 .intro j a ha e he x hx said hc;obtain⟨⟨o,ho',hl⟩,hk⟩:=(key e he).2.2 x hx;obtain⟨h1,_,_,h4⟩:=hc;have hib:Qbr (some b) a.loc:=by rw[h1,hl];exact⟨rfl,ho'⟩
  rcases h4 with h4|h4|⟨_,h4,h5⟩
  .exact h.grpP j a ha hib h4 i hact
  .rcases hk with hk|⟨hk,_⟩ <;> rw[hk]at h4 <;> cases h4
  .rcases hk with hk|⟨_,hi0⟩
   .rw[hk]at h5;cases h5
   .subst hi0;exact h.grpS j a ha hib h4
 .intro e he a ha k _;obtain⟨⟨o,ho',hl⟩,_⟩:=(key e he).2.2 a ha;rw[hl];exact⟨λ hw=>ho k _ rfl ho' (Zx hw),λ _ hr=>ho k _ rfl ho' hr⟩
 .intro e he a ha _;obtain⟨_,hk⟩:=(key e he).2.2 a ha;rcases hk with hk|⟨hk,hi0⟩ <;> rw[hk]
  .exact⟨λ h=>(by cases h),λ h=>(by cases h)⟩
  .exact⟨λ h=>(by cases h),λ _=>hi0⟩
 .intro e he a ha hib;obtain⟨⟨o,ho',hl⟩,_⟩:=(key e he).2.2 a ha;rw[hl]at hib;exact absurd hib.1 hmb
def Zt3{m:Nat}(h:TI (λ k=>(V k).canW) (λ k=>(V k).canR) rel blk (some m) rm act wk w.heap.size tr)(hb:m<w.heap.size)(ho:∀k,Off m (V k))(hact:act i)
  (hes:∀e∈es,Zf6 m e) (hblk:blk≠some m) (hi:wk i) :
  TI (λ k=>(V k).canW) (λ k=>(V k).canR) rel blk (some m) rm act wk w.heap.size (tr++MemOp.ofEvents i fn pos es):=by
 have key:∀e∈es,(MemAct.ofEvent e).low w.heap.size/\(∀a,MemAct.ofEvent e≠.mark (.release a))/\∀x,(MemAct.ofEvent e).touch?=some x->(∃o,o<2/\x.loc=.cell ⟨m,o,none⟩)/\x.kind=.atomic:=by
  intro e he;rcases hes e he with hm|⟨o,wr,ho,rfl⟩
  .have:=Qft hm;exact⟨this.2.1 _,this.2.2,λ x hx=>by rw[this.1]at hx;cases hx⟩
  .refine⟨hb,λ _ h=>(by cases h),λ x hx=>?_⟩;cases hx;exact⟨⟨o,ho,rfl⟩,rfl⟩
 refine h.events (Nat.le_refl _) (λ e he=>(key e he).1) (λ e he=>(key e he).2.1) ?_ (λ _ _=>.inl) (λ _ _=>.inl) ?_ ?_ ?_ (.inr (.inl hi))
 .intro j a ha e he x hx said hc;obtain⟨⟨o,ho',hl⟩,hk⟩:=(key e he).2.2 x hx;obtain⟨h1,_,_,h4⟩:=hc;have hib:Qbr (some m) a.loc:=by rw[h1,hl];exact⟨rfl,ho'⟩
  by_cases ha':a.kind=.atomic
  .exfalso;rcases h4 with h4|h4|⟨_,h4,h5⟩
   .rw[ha']at h4;cases h4
   .rw[hk]at h4;cases h4
   .rw[hk]at h5;cases h5
  .exact h.grpM j a ha hib ha' i hact
 .intro e he a ha k _;obtain⟨⟨o,ho',hl⟩,_⟩:=(key e he).2.2 a ha;rw[hl];exact⟨λ hw=>ho k _ rfl ho' (Zx hw),λ _ hr=>ho k _ rfl ho' hr⟩
 .intro e he a ha hib;obtain⟨⟨o,ho',hl⟩,_⟩:=(key e he).2.2 a ha;rw[hl]at hib;exact absurd hib.1 hblk
 .intro e he a ha _;exact((key e he).2.2 a ha).2
def Qi5{b:Nat}(hes:∀e∈es,Event.mute e=true\/∃o wr,e=⟨.cell ⟨b,o,none⟩,wr,true⟩)(hd:∀j,j<es.size->deafBehind (Deaf tr i) (es.extract 0 j)≠0) :
  ∀j,tr.size<=j->¬(tr++MemOp.ofEvents i fn pos es).counts j:=by
 intro j hj hc;obtain⟨x,hx,_,h2⟩:=hc;rcases Jl (t:=tr) hx with⟨hlt,_⟩|⟨_,op,hop,hoa,ho⟩
 .omega
 .obtain⟨e,he,rfl⟩:=Go.Conc.mem_ofEvents hop;rcases hes e he with hm|⟨o,wr,rfl⟩
  .rw[(Qft hm).1]at hoa;cases hoa
  .cases hoa;rcases h2 with h2|⟨g,hg,h2⟩
   .exact h2 rfl
   .have hgi:g=i:=by
     simp only[Trace.g?,ho,Option.map_some,Option.some.injEq]at hg;exact hg.symm
    subst hgi;have hlt:=lt_size_of_getElem? ho;have hsz:(MemOp.ofEvents g fn pos es).size=es.size:=by rw[ofEvents_eq];simp
    rw[Array.size_append,hsz]at hlt;obtain⟨k,rfl⟩:=Nat.exists_eq_add_of_le hj;rw[deaf_inside tr g fn pos es k (by omega)]at h2;exact hd k (by omega) h2
end
section
variable{P:Program}{t:TypeId}{N:Nat}{Stop:Stp Tk}{gs:Array Goroutine}{w:World}{tr:Trace}{V V':Hd->Qa Tk}{rk:Nat->Option Tr}{rel:Nat->Option Nat}{q:Nat->Nat}
def Grp.turn(h:Grp t N gs w V rel)(ht:∀j,(V' (.run j)).tok=(V (.run j)).tok)(hd:∀j,V' (.dep j)=V (.dep j))(hR:∀k l,(V' k).canR l->(V k).canR l):Grp t N gs w V' rel:=by
 have hk:Z6 V'=Z6 V:=by funext j;simp only[Z6,ht]
 unfold Grp at h ⊢;rw[ht 0]
 revert h
 cases(V (.run 0)).tok.ph with
 |out=>exact λ h=>⟨λ i hi=>by rw[ht];exact h.1 i hi,h.2⟩
 |par b ds pend k=>
  rintro⟨h1,W,c,wt,s,h2,h3,h4⟩;refine⟨λ j a ha ho hr=>h1 j a ha ho (hR _ _ hr),W,c,wt,s,h2,?_,h4⟩;rw[hk];simpa only[hd]using h3
 |_=>exact λ h=>h
def TI.tok{rel:Nat->Option Nat}{rm:Option Nat}{size:Nat}(h:TI (λ k=>(V k).canW) (λ k=>(V k).canR) rel (V (.run 0)).tok.ph.blk (Jz V) rm (λ i=>i=0\/(V (.run i)).tok.ph≠.out) (λ i=>isW (V (.run i)).tok.ph) size tr)
  (ht:∀j,(V' (.run j)).tok=(V (.run j)).tok) (hW:∀k l,(V' k).canW l->(V k).canW l) (hR:∀k l,(V' k).canR l->(V k).canR l) :
  TI (λ k=>(V' k).canW) (λ k=>(V' k).canR) rel (V' (.run 0)).tok.ph.blk (Jz V') rm (λ i=>i=0\/(V' (.run i)).tok.ph≠.out) (λ i=>isW (V' (.run i)).tok.ph) size tr:=by
 have hmb:Jz V'=Jz V:=by simp only[Jz,Q3,ht]
 rw[hmb];simp only[ht];exact h.turn hW hR λ _ h=>h
def Sh.ne{b m:Nat}{t t':TypeId}{c wt a:Nat}{sm sm':Value}{w:World}(h:Sh b t (Q1 c wt) sm w)(k:Sh m t' (Ze a) sm' w):m≠b:=by
 rintro rfl;have e:some (Obj.cells #[Q1 c wt,sm] t (0,0))=some (Obj.cells #[Ze a,sm'] t' (0,0)):=h.symm.trans k;simp[Q1,Ze]at e
def Sh.two_other{b m:Nat}{t t':TypeId}{st sm x y:Value}{w:World}(k:Sh m t' st sm w)(h:m≠b):Sh m t' st sm (TM.two w b t x y):=by
 unfold Sh TM.two;simp only;rw[Array.getElem?_setIfInBounds_ne (Ne.symm h)];exact k
def MuG.mb(h:MuG gs w V){m:Nat}(hm:Jz V=some m):m<w.heap.size/\(∀j,Off m (V j))/\∃t st sm,Sh m t (Ze st) (Qp sm) w:=by
 obtain⟨-,-,h3⟩:=h;unfold Jz at hm;cases e:Q3 V 0 with
 |none=>rw[e]at hm;cases hm
 |some mu=>
  rw[e]at hm h3;cases mu with
  |lok=>exact h3.elim
  |par x u=>
   cases hm;obtain⟨h4,lp,st,sm,h5⟩:=h3;exact⟨(Array.getElem?_eq_some_iff.1 h5.sh).1,h4,_,_,_,h5.sh⟩
def MuG.mb_ne(h:MuG gs w V){b c wt:Nat}{t:TypeId}{s:Value}(hs:Sh b t (Q1 c wt) s w):Jz V≠some b:=λ e=>by
 obtain⟨-,-,_,_,_,k⟩:=h.mb e;exact hs.ne k rfl
def MuG.step{i:Nat}{g g':Goroutine}{w' w'':World}(h:MuG gs w V)(hi:gs[i]?=some g)(hrun:∀x s me lo,Q3 V i=some (.lok x s me lo)->g'.status=.running)(hk:∀i,Q3 V' i=Q3 V i)(hm:V' .lck=V .lck)
  (hoff:∀m,(∀j,Off m (V j))->m<w.heap.size->∀j,Off m (V' j)) (hsh:∀m t st sm,(∀j,Off m (V j))->Sh m t (Ze st) (Qp sm) w->Sh m t (Ze st) (Qp sm) w'):MuG (behind P gs i g g' w'') w' V':=by
 refine h.at hk hm hoff hsh λ j x s me lo y e hy hns=>?_;by_cases ej:j=i
 .subst ej;rw[Wm hi]at hy;cases hy;exact absurd (hrun _ _ _ _ e) hns
 .rw[J7 ej]at hy;obtain⟨z,hz,rfl⟩:=Option.map_eq_some_iff.1 hy;exact⟨z,hz,λ hr=>hns (by rw[Wh hr];exact hr)⟩
def MI.shift{i:Nat}{r:Tr}{U1:Qa Tk}(h:MI P t N Stop none gs w tr V rk rel q)(hr:rk i=some r)(hs:Qw (V (.run i)) U1):MI P t N Stop (some i) gs w tr (Q2 V (.run i) U1) rk rel q:=by
 have hne:∀j,j≠i->Q2 V (.run i) U1 (.run j)=V (.run j):=λ j hj=>Qh _ _ (by intro e;cases e;exact hj rfl)
 have hT:∀j,(Q2 V (.run i) U1 (.run j)).tok=(V (.run j)).tok:=by
  intro j;by_cases e:j=i
  .subst e;rw[Ql];exact hs.1
  .rw[hne j e]
 have hd:∀j,Q2 V (.run i) U1 (.dep j)=V (.dep j):=λ j=>Qh _ _ (by simp);obtain⟨hok,hw,hrd⟩:=hs.2 w (h.vi.ok (.run i))
 have hW:∀k l,(Q2 V (.run i) U1 k).canW l->(V k).canW l:=by
  intro k l hl;by_cases e:k=.run i
  .subst e;rw[Ql]at hl;exact hw l hl
  .rwa [Qh _ _ e]at hl
 have hR:∀k l,(Q2 V (.run i) U1 k).canR l->(V k).canR l:=by
  intro k l hl;by_cases e:k=.run i
  .subst e;rw[Ql]at hl;exact hrd l hl
  .rwa [Qh _ _ e]at hl
 refine⟨?_,h.root,?_,?_,h.above,?_,?_,?_,?_,?_,h.vi.shift hs,h.ti.imp λ _ x=>x.tok hT hW hR,h.grp.turn hT hd hR,h.mux.at (λ j=>by simp only[Q3,hT]) (Qh _ _ (by simp)) (λ m hm _ j a ha ho hrd=>hm j a ha ho (hR _ _ hrd)) (λ _ _ _ _ _ x=>x) (λ j x s me lo y _ hy hns=>⟨y,hy,hns⟩),λ j hj=>by simp only[Q3,hT];exact h.bareM j hj⟩
 .intro j r' hj hr';have e:j≠i:=λ e=>hj (by rw[e]);have:=h.live j r' (by simp) hr';rw[hne j e];exact this
 .intro j g hj hg hp;rw[hT]at hp;exact h.gone j g hj hg hp
 .intro j hj hp;rw[hT]at hp;simp only[hT];exact h.tail j hj hp
 .intro j hj;have e:j≠i:=λ e=>by subst e;rw[hr]at hj;cases hj
  rw[hne j e];exact h.bare j hj
 .intro j h0 hj;rw[hT];exact h.wk j h0 hj
 .intro j hj;rw[hT]at hj;exact h.wk' j hj
 .intro j hj;rw[hT];exact h.deaf j hj
 .intro j hj;rw[hd];exact h.deps j hj
def Nxt(P:Program)(t:TypeId)(N:Nat)(Stop:Stp Tk)(gs:Array Goroutine)(w:World)(sl:Option (Nat×Nat))(tr:Trace)(rk:Nat->Option Tr)(q:Nat->Nat)(i:Nat):Prop:=
 ∃gs' w' ops V' rk' rel' q',runT P (crowd gs w sl) i=(.next (crowd gs' w' sl),ops)/\MI P t N Stop none gs' w' (tr++ops) V' rk' rel' q'/\Qbp (meas gs' rk' q') (meas gs rk q)/\OsL w.os w'.os/\w'.output=w.output
variable{sl:Option (Nat×Nat)}
def Qas{gs':Array Goroutine}{q':Nat->Nat}{i:Nat}{r:Tr}{x:Option Tr}(hs:gs'.size=gs.size)(hi:i<gs.size)(hr:rk i=some r)(hx:∀r',x=some r'->Tr.Sub r' r):Qbp (meas gs' (Zr rk i x) q') (meas gs rk q):=by
 unfold meas;rw[hs];exact Qbp.cut (Zpw hi hr hx)
def MI.priv(hStop:∀m g U,Stop m g U->g.status=.running){i:Nat}{g:Goroutine}{r:Tr}(h:MI P t N Stop (some i) gs w tr V rk rel q)(hi:gs[i]?=some g)(hr:rk i=some r)
  (hp:Zf7 P (λ m g U=>∃r',Tr.Sub r' r/\JR (Zb P t N) Stop r' m g U) (i==0) g (V (.run i))):Nxt P t N Stop gs w sl tr rk q i:=by
 have hlt:=(Array.getElem?_eq_some_iff.1 hi).1;obtain⟨hs,hp⟩:=hp;obtain⟨g',w',es,U',hst,hes,hg,hok,htok,r',hsub,hJ⟩:=hp w (h.vi.ok (.run i))
 have hdead:deafBehind (Deaf tr i) es=Deaf tr i:=by
  refine deafBehind_still (λ e he=>?_) _;obtain⟨he,_⟩:=hes e he;obtain⟨loc,wr,sy⟩:=e;cases loc with
  |mark m=>have he:Mark.still m=true:=he;cases m <;> simp[Mark.still]at he ⊢
  |_=>simp
 have hne:∀j,j≠i->Q2 V (.run i) U' (.run j)=V (.run j):=λ j hj=>Qh _ _ (by intro e;cases e;exact hj rfl)
 have hT:∀j,(Q2 V (.run i) U' (.run j)).tok=(V (.run j)).tok:=by
  intro j;by_cases e:j=i
  .subst e;rw[Ql];exact htok
  .rw[hne j e]
 have hd:∀j,Q2 V (.run i) U' (.dep j)=V (.dep j):=λ j=>Qh _ _ (by simp);have hri:rk i≠none:=by rw[hr];simp
 have hwk:i=0\/isW (V (.run i)).tok.ph:=by
  by_cases e:i=0
  .exact .inl e
  .exact .inr (h.wk i e hri)
 have hmb:Jz (Q2 V (.run i) U')=Jz V:=by simp only[Jz,Q3,hT]
 have hblk:∀b,(V (.run 0)).tok.ph.blk=some b->b<w.heap.size/\∀j,Off b (V j):=by
  intro b hb;have hG:=h.grp;unfold Grp at hG
  revert hG hb
  cases(V (.run 0)).tok.ph with
  |out=>intro hb;cases hb
  |par b' ds pend k=>
   intro hb;cases hb;rintro⟨h1,W,c,wt,s,h2,_⟩;exact⟨(Array.getElem?_eq_some_iff.1 h2).1,h1⟩
  |_=>intro _ hG;exact hG.elim
 refine⟨_,w',_,Q2 V (.run i) U',Zr rk i (some r'),rel,q,runT_crowd_go hi hst,?_,Qas Jo hlt hr λ r'' e=>by cases e;exact hsub,hg.os,hg.output⟩;refine h.go hStop (V':=Q2 V (.run i) U') (rk':=Zr rk i (some r')) (rel':=rel) (q':=q) (es:=es) hi hne (λ j hj=>Qu _ _ hj) (λ _ _=>rfl) (λ _ _=>.inl rfl) ?_ (.inr (.inl (by rw[hT]))) ?_ ?_ (λ j hj=>by rw[hd];exact h.deps j hj) (h.vi.priv hg hok) ?_ ?_ ?_ (λ e=>by rw[Qk]at e;cases e)
 .by_cases e:i=0
  .subst e;rw[Qk];simp
  .rw[Qu _ _ (Ne.symm e)];exact h.root
 .intro r'' e;rw[Qk]at e;cases e;rw[Ql];refine⟨hJ,?_,λ h0=>?_⟩
  .rw[hdead,htok];exact h.deaf i hri
  .rw[htok];exact hwk.resolve_left h0
 .intro e;rw[Qk]at e;cases e
 .obtain⟨rm,hti⟩:=h.ti;have:=Zfu (fn:=g.frame.fn) (pos:=g.frame.place) hti h.vi (λ b hb=>⟨(hblk b hb).1,(hblk b hb).2 _⟩) (λ b hb=>⟨(h.mux.mb hb).1,(h.mux.mb hb).2.1 _⟩) hes hg hwk;refine⟨rm,?_⟩;rw[hmb];simp only[hT];exact this
 .have hG:=h.grp;unfold Grp at hG ⊢;rw[hT 0];have hk:Z6 (Q2 V (.run i) U')=Z6 V:=by funext j;simp only[Z6,hT]
  revert hG
  cases hph:(V (.run 0)).tok.ph with
  |out=>exact λ hG=>⟨λ j hj=>by rw[hT];exact hG.1 j hj,hG.2⟩
  |par b ds pend k=>
   rintro⟨h1,W,c,wt,s,h2,h3,h4⟩;obtain⟨hbs,_⟩:=hblk b (by rw[hph];rfl);refine⟨λ j a ha ho hrd=>?_,W,c,wt,s,h2.guar hg (h1 _),?_,?_⟩
   .by_cases e:j=.run i
    .subst e;rw[Ql]at hrd;rcases hg.cr _ hrd with hrd|hrd
     .exact h1 _ a ha ho hrd
     .simp only[Loc.new]at hrd;omega
    .rw[Qh _ _ e]at hrd;exact h1 _ a ha ho hrd
   .rw[hk];simpa only[hd]using h3
   .intro g0 hg0 hns;by_cases e:i=0
    .subst e;rw[Wm hi]at hg0;cases hg0;exact absurd (hJ.running hStop) hns
    .rw[J7 (Ne.symm e)]at hg0;obtain⟨y,hy,rfl⟩:=Option.map_eq_some_iff.1 hg0;refine h4 y hy λ hrun=>hns ?_;rw[Wh hrun];exact hrun
  |_=>exact λ hG=>hG
 .refine h.mux.step hi (λ _ _ _ _ _=>hJ.running hStop) (λ j=>by simp only[Q3,hT]) (Qh _ _ (by simp)) (λ m hm hlm j a ha ho hrd=>?_) (λ m t st sm hm hs=>hs.guar hg (hm _));by_cases e:j=.run i
  .subst e;rw[Ql]at hrd;rcases hg.cr _ hrd with hrd|hrd
   .exact hm _ a ha ho hrd
   .simp only[Loc.new]at hrd;omega
  .rw[Qh _ _ e]at hrd;exact hm _ a ha ho hrd
def Grp.woken{i:Nat}{g g':Goroutine}{w':World}(hi:gs[i]?=some g)(hrun:i=0->g'.status=.running){s:Nat}(h:∀g,gs[0]?=some g->g.status≠.running->s=0) :
  ∀x,(behind P gs i g g' w')[0]?=some x->x.status≠.running->s=0:=by
 intro x hx hns;by_cases e:i=0
 .subst e;rw[Wm hi]at hx;cases hx;exact absurd (hrun rfl) hns
 .rw[J7 (Ne.symm e)]at hx;obtain⟨y,hy,rfl⟩:=Option.map_eq_some_iff.1 hx;refine h y hy λ hr=>hns ?_;rw[Wh hr];exact hr
def MI.leaver(hStop:∀m g U,Stop m g U->g.status=.running){i:Nat}{g:Goroutine}(h:MI P t N Stop none gs w tr V rk rel q)(hi:gs[i]?=some g)(hrun:g.status=.running)(hr:rk i=none)(hp:(V (.run i)).tok.ph=.out) :
  Nxt P t N Stop gs w sl tr rk q i:=by
 have hlt:=(Array.getElem?_eq_some_iff.1 hi).1;have hi0:i≠0:=λ e=>by subst e;exact h.root hr
 have hq:=h.gone i g hr hi hp;cases hqi:q i with
 |zero=>rw[hqi]at hq;rw[hq.1]at hrun;cases hrun
 |succ n=>
  rw[hqi]at hq;rcases hq with⟨hs,_⟩|⟨_,g',es,hm,hst,hq⟩
  .rw[hs]at hrun;cases hrun
  have hst':stepG P (i==0) g w=.go g' w es:=by
   rw[show(i==0)=false by simpa using hi0];exact hst w
  have h':MI P t N Stop (some i) gs w tr V rk rel q:={ h with live:=λ j r _ hr=>h.live j r (by simp) hr };refine⟨_,w,_,V,rk,rel,Zr q i n,runT_crowd_go hi hst',?_,Qzg (i:=i) Jo hlt hr (λ j hj=>Qu _ _ hj) (by rw[Qk,hqi];omega),.refl _,rfl⟩;refine h'.go hStop (V':=V) (rk':=rk) (rel':=rel) (q':=Zr q i n) (es:=es) hi (λ _ _=>rfl) (λ _ _=>rfl) (λ j hj=>Qu _ _ hj) (λ _ _=>.inl rfl) h.root (.inl hi0) (λ r e=>by rw[hr]at e;cases e) ?_ h.deps h.vi ?_ ?_ (h.mux.step hi (λ x s me lo e=>absurd e ?_) (λ _=>rfl) rfl (λ _ hm _=>hm) λ _ _ _ _ _ x=>x) (h.bareM i)
  .intro _;obtain⟨b1,b2⟩:=h.bare i hr;have hw:¬isW (V (.run i)).tok.ph:=by rw[hp];rintro⟨b,D,e⟩;cases e
   refine⟨hi0,b1,b2,hw,.inl ⟨hp,?_⟩⟩;rw[Qk];exact hq
  .exact h.ti.imp λ _ x=>x.dumb λ e he=>Qft (hm e he)
  .have hG:=h.grp;unfold Grp at hG ⊢
   revert hG
   cases(V (.run 0)).tok.ph with
   |par b ds pend k=>exact λ⟨h1,W,c,wt,s,h2,h3,h4⟩=>⟨h1,W,c,wt,s,h2,h3,Grp.woken hi (λ e=>absurd e hi0) h4⟩
   |_=>exact λ hG=>hG
  .rw[h.bareM i hr];simp
def MI.parent(hStop:∀m g U,Stop m g U->g.status=.running){g g':Goroutine}{r r':Tr}{d d' b:Nat}{ds ds':List Spec}{pend pend':Bool}{k k':PS}{W:List Nat}{c wt s c' wt' s':Nat}{es:Array Event}{bs:List (Nat×Bool)}{mu:Option MuT}
  (h:MI P t N Stop (some 0) gs w tr V rk rel q) (hi:gs[0]?=some g) (hr:rk 0=some r) (htok:(V (.run 0)).tok=⟨d,.par b ds pend k,mu⟩)
  (hoff:∀j,Off b (V j)) (hsh:Sh b t (Q1 c wt) (Qp s) w)
  (hst:Qc P t true g (Q1 c wt) (Qp s)=.go g' (Q1 c' wt') (Qp s') es bs) (hbs:Jb b bs) (hes:∀e∈es,Zeq b true e) (hd:deafBehind d es=d')
  (hgi:GI N b ds' pend' k' (Z6 V) rel (λ i=>(V (.dep i)).M) W c' wt' s') (hsub:Tr.Sub r' r) (hJ:JR (Zb P t N) Stop r' true g' ((V (.run 0)).at d' (.par b ds' pend' k'))) :
  Nxt P t N Stop gs w sl tr rk q 0:=by
 have hlt:=(Array.getElem?_eq_some_iff.1 hi).1;have hrun:=hJ.running hStop;have hst':stepG P (0==0) g w=.go g' (two w b t (Q1 c' wt') (Qp s')) es:=Qcl hst hsh hbs;have hne:∀j,j≠0->Q2 V (.run 0) ((V (.run 0)).at d' (.par b ds' pend' k')) (.run j)=V (.run j):=λ j hj=>Qh _ _ (by intro e;cases e;exact hj rfl);have hdp:∀j,Q2 V (.run 0) ((V (.run 0)).at d' (.par b ds' pend' k')) (.dep j)=V (.dep j):=λ j=>Qh _ _ (by simp)
 have hM:∀j,(Q2 V (.run 0) ((V (.run 0)).at d' (.par b ds' pend' k')) j).canW=(V j).canW/\(Q2 V (.run 0) ((V (.run 0)).at d' (.par b ds' pend' k')) j).canR=(V j).canR:=by
  intro j;by_cases e:j=.run 0
  .subst e;rw[Ql];exact⟨rfl,rfl⟩
  .rw[Qh _ _ e];exact⟨rfl,rfl⟩
 have hbl:b<w.heap.size:=(Array.getElem?_eq_some_iff.1 hsh).1;refine⟨_,_,_,Q2 V (.run 0) ((V (.run 0)).at d' (.par b ds' pend' k')),Zr rk 0 (some r'),rel,q,runT_crowd_go hi hst',?_,Qas Jo hlt hr λ r'' e=>by cases e;exact hsub,.refl _,rfl⟩;refine h.go hStop (rel':=rel) (q':=q) (es:=es) hi hne (λ j hj=>Qu _ _ hj) (λ _ _=>rfl) (λ _ _=>.inl rfl) (by rw[Qk];simp) (.inr (.inl (by rw[Ql,htok];rfl))) ?_ ?_ (λ j hj=>by rw[hdp];exact h.deps j hj) ?_ ?_ ?_ ?_ (λ e=>by rw[Qk]at e;cases e)
 .intro r'' e;rw[Qk]at e;cases e;rw[Ql];refine⟨hJ,?_,λ h0=>absurd rfl h0⟩;rw[h.deaf 0 h.root,htok,hd];rfl
 .intro e;rw[Qk]at e;cases e
 .refine⟨λ j=>?_,λ k_1 k_2 l hn hw hr=>h.vi.sep k_1 k_2 l hn (by rw[<- (hM k_1).1];exact hw) (by rw[<- (hM k_2).2];exact hr)⟩;have hv:=(h.vi.two (st':=Q1 c' wt') (sm':=Qp s') hsh hoff).ok;by_cases e:j=.run 0
  .subst e;rw[Ql];exact⟨(hv (.run 0)).imm,(hv (.run 0)).held,(hv (.run 0)).apart,(hv (.run 0)).sep⟩
  .rw[Qh _ _ e];exact hv j
 .obtain⟨rm,hti⟩:=h.ti;rw[htok]at hti;have:=Zop (i:=0) (fn:=g.frame.fn) (pos:=g.frame.place) hti hbl hoff (.inl rfl) hes (h.mux.mb_ne hsh) (.inl rfl);refine⟨rm,?_⟩;have hmb:Jz (Q2 V (.run 0) ((V (.run 0)).at d' (.par b ds' pend' k')))=Jz V:=by simp only[Jz,Q3,Ql];rfl
  rw[hmb];have e1:(Q2 V (.run 0) ((V (.run 0)).at d' (.par b ds' pend' k')) (.run 0)).tok.ph.blk=some b:=by rw[Ql];rfl
  have e2:∀j,j=0\/(Q2 V (.run 0) ((V (.run 0)).at d' (.par b ds' pend' k')) (.run j)).tok.ph≠.out↔j=0\/(V (.run j)).tok.ph≠.out:=by
   intro j;by_cases e:j=0
   .simp[e]
   .rw[hne j e]
  have e3:∀j,isW (Q2 V (.run 0) ((V (.run 0)).at d' (.par b ds' pend' k')) (.run j)).tok.ph↔isW (V (.run j)).tok.ph:=by
   intro j;by_cases e:j=0
   .subst e;rw[Ql,htok];constructor
    .rintro⟨b,D,e⟩;cases e
    .rintro⟨b,D,e⟩;cases e
   .rw[hne j e]
  rw[e1];have e2':=funext λ j=>propext (e2 j);have e3':=funext λ j=>propext (e3 j);rw[e2',e3'];have hsz:(two w b t (Q1 c' wt') (Qp s')).heap.size=w.heap.size:=by simp[two]
  rw[hsz];exact this.turn (λ k l hl=>by rw[<- (hM k).1];exact hl) (λ k l hl=>by rw[<- (hM k).2];exact hl) (λ _ x=>x)
 .unfold Grp;rw[Ql]
  have hk:Z6 (Q2 V (.run 0) ((V (.run 0)).at d' (.par b ds' pend' k')))=Z6 V:=by
   funext j;by_cases e:j=0
   .simp[Z6,e]
   .simp only[Z6,if_neg e,hne j e]
  refine⟨λ j a ha ho hr=>hoff j a ha ho (by rw[<- (hM j).2];exact hr),W,c',wt',s',hsh.two,?_,λ x hx hns=>?_⟩
  .rw[hk];simpa only[hdp]using hgi
  .rw[Wm hi]at hx;cases hx;exact absurd hrun hns
 .refine h.mux.step hi (λ _ _ _ _ _=>hrun) (λ j=>?_) (Qh _ _ (by simp)) (λ m hm _ j a ha ho hr=>hm j a ha ho (by rw[<- (hM j).2];exact hr)) (λ m t st sm _ hs=>hs.two_other (hsh.ne hs));by_cases e:j=0
  .subst e;simp only[Q3,Ql];rfl
  .simp only[Q3,hne j e]
end
section
variable{P:Program}{t:TypeId}{N:Nat}{Stop:Stp Tk}{gs:Array Goroutine}{w:World}{tr:Trace}{V V':Hd->Qa Tk}{rk:Nat->Option Tr}{rel:Nat->Option Nat}{q:Nat->Nat}{sl:Option (Nat×Nat)}
def MI.par(h:MI P t N Stop none gs w tr V rk rel q){b:Nat}(hb:(V (.run 0)).tok.ph.blk=some b) :
  ∃ds pend k,(V (.run 0)).tok.ph=.par b ds pend k/\(∀j,Off b (V j))/\∃W c wt s,Sh b t (Q1 c wt) (Qp s) w/\GI N b ds pend k (Z6 V) rel (λ i=>(V (.dep i)).M) W c wt s/\(∀g,gs[0]?=some g->g.status≠.running->s=0):=by
 have hG:=h.grp;unfold Grp at hG
 revert hG hb
 cases hph:(V (.run 0)).tok.ph with
 |out=>intro hb;cases hb
 |par b' ds pend k=>
  intro hb hG;cases hb;exact⟨ds,pend,k,rfl,hG⟩
 |_=>intro _ hG;exact hG.elim
def MI.tailGo(hStop:∀m g U,Stop m g U->g.status=.running){i n:Nat}{g g':Goroutine}{b:Nat}{ds:List Spec}{pend:Bool}{k:PS}{W:List Nat}{c wt s c' wt' s':Nat}{es:Array Event}{bs:List (Nat×Bool)}{p':Ph}
  (h:MI P t N Stop none gs w tr V rk rel q) (hi:gs[i]?=some g) (hi0:i≠0) (hr:rk i=none) (hp0:(V (.run i)).tok.ph≠.out) (hph:(V (.run 0)).tok.ph=.par b ds pend k)
  (hoff:∀j,Off b (V j)) (hsh:Sh b t (Q1 c wt) (Qp s) w) (hb4:∀g,gs[0]?=some g->g.status≠.running->s=0)
  (hst:Qc P t false g (Q1 c wt) (Qp s)=.go g' (Q1 c' wt') (Qp s') es bs) (hbs:Jb b bs) (hes:∀e∈es,Zeq b false e) (hno:∀j,tr.size<=j->¬(tr++MemOp.ofEvents i g.frame.fn g.frame.place es).counts j)
  (hgi:GI N b ds pend k (Zr (Z6 V) i p') rel (λ i=>(V (.dep i)).M) W c' wt' s') (hw':s'=s\/(mayWake P g=true/\(g'.status=.running\/g'.status=.finished)))
  (hq:q i=n+1) (hp':¬isW p')
  (hk:(p'=.out/\QuitsD P n (deafBehind (Deaf tr i) es) g')\/(p'≠.out/\Tl P t N b n (deafBehind (Deaf tr i) es) p' g')):Nxt P t N Stop gs w sl tr rk q i:=by
 have hlt:=(Array.getElem?_eq_some_iff.1 hi).1
 have hst':stepG P (i==0) g w=.go g' (two w b t (Q1 c' wt') (Qp s')) es:=by
  rw[show(i==0)=false by simpa using hi0];exact Qcl hst hsh hbs
 have h':MI P t N Stop (some i) gs w tr V rk rel q:={ h with live:=λ j r _ hr=>h.live j r (by simp) hr };have hne:∀j,j≠i->Q2 V (.run i) (Qa.bare ⟨1,p',none⟩) (.run j)=V (.run j):=λ j hj=>Qh _ _ (by intro e;cases e;exact hj rfl);have hdp:∀j,Q2 V (.run i) (Qa.bare ⟨1,p',none⟩) (.dep j)=V (.dep j):=λ j=>Qh _ _ (by simp)
 have hW:∀k l,(Q2 V (.run i) (Qa.bare ⟨1,p',none⟩) k).canW l->(V k).canW l:=by
  intro k l hl;by_cases e:k=.run i
  .subst e;rw[Ql]at hl;exact absurd hl (Wl _ _)
  .rwa [Qh _ _ e]at hl
 have hR:∀k l,(Q2 V (.run i) (Qa.bare ⟨1,p',none⟩) k).canR l->(V k).canR l:=by
  intro k l hl;by_cases e:k=.run i
  .subst e;rw[Ql]at hl;exact absurd hl (Wk _ _)
  .rwa [Qh _ _ e]at hl
 have hbl:b<w.heap.size:=(Array.getElem?_eq_some_iff.1 hsh).1;refine⟨_,_,_,Q2 V (.run i) (Qa.bare ⟨1,p',none⟩),rk,rel,Zr q i n,runT_crowd_go hi hst',?_,Qzg (i:=i) Jo hlt hr (λ j hj=>Qu _ _ hj) (by rw[Qk,hq];omega),.refl _,rfl⟩;refine h'.go hStop (rel':=rel) (q':=Zr q i n) (es:=es) hi hne (λ _ _=>rfl) (λ j hj=>Qu _ _ hj) (λ _ _=>.inl rfl) h.root (.inl hi0) (λ r e=>by rw[hr]at e;cases e) ?_ (λ j hj=>by rw[hdp];exact h.deps j hj) ?_ ?_ ?_ ?_ (λ _=>by unfold Q3;rw[Ql];rfl)
 .intro _;rw[Ql,Qk];refine⟨hi0,rfl,rfl,hp',?_⟩;rcases hk with⟨h1,h2⟩|⟨h1,h2⟩
  .exact .inl ⟨h1,h2⟩
  .exact .inr ⟨h1,b,by rw[hph];rfl,h2⟩
 .have hv:=h.vi.two (st':=Q1 c' wt') (sm':=Qp s') hsh hoff;refine⟨λ j=>?_,λ k_1 k_2 l hn hw hr=>hv.sep k_1 k_2 l hn (hW _ _ hw) (hR _ _ hr)⟩;by_cases e:j=.run i
  .subst e;rw[Ql];exact Qrb _ _
  .rw[Qh _ _ e];exact hv.ok j
 .obtain⟨rm,hti⟩:=h.ti;rw[hph]at hti;have:=Zop (i:=i) (fn:=g.frame.fn) (pos:=g.frame.place) hti hbl hoff (.inr hp0) (by rw[show(i==0)=false by simpa using hi0];exact hes) (h.mux.mb_ne hsh) (.inr (.inr hno));refine⟨rm,?_⟩;have hmb:Jz (Q2 V (.run i) (Qa.bare ⟨1,p',none⟩))=Jz V:=by simp only[Jz,Q3,hne 0 (Ne.symm hi0)]
  rw[hmb];have hsz:(two w b t (Q1 c' wt') (Qp s')).heap.size=w.heap.size:=by simp[two]
  rw[hsz,hne 0 (Ne.symm hi0),hph]
  have e3:(λ j=>isW (Q2 V (.run i) (Qa.bare ⟨1,p',none⟩) (.run j)).tok.ph)=λ j=>isW (V (.run j)).tok.ph:=by
   funext j;by_cases e:j=i
   .subst e;rw[Ql];refine propext ⟨λ x=>absurd x hp',λ x=>absurd hr (h.wk' j x)⟩
   .rw[hne j e]
  rw[e3];refine this.turn hW hR ?_;rintro j (rfl|hj)
  .exact .inl rfl
  .by_cases e:j=i
   .subst e;exact .inr hp0
   .rw[hne j e]at hj;exact .inr hj
 .unfold Grp;rw[hne 0 (Ne.symm hi0),hph]
  have hk':Z6 (Q2 V (.run i) (Qa.bare ⟨1,p',none⟩))=Zr (Z6 V) i p':=by
   funext j;by_cases e:j=i
   .subst e;simp only[Z6,if_neg hi0,Ql,Qk];rfl
   .rw[Qu _ _ e];by_cases e0:j=0
    .simp[Z6,e0]
    .simp only[Z6,if_neg e0,hne j e]
  refine⟨λ j a ha ho hr=>hoff j a ha ho (hR _ _ hr),W,c',wt',s',hsh.two,?_,?_⟩
  .rw[hk'];simpa only[hdp]using hgi
  .rcases hw' with rfl|⟨hmw,hst2⟩
   .exact Grp.woken hi (λ e=>absurd e hi0) hb4
   .intro x hx hns;exfalso;obtain⟨r_0,hr_0⟩:=Option.ne_none_iff_exists'.1 h.root;obtain⟨g_1,hJ,hg⟩:=h.live 0 r_0 (by simp) hr_0;have hrun:=hJ.running hStop;rw[J7 (Ne.symm hi0)]at hx;rcases hg with hg|⟨hg,ho,_⟩
    .rw[hg,Option.map_some,Wh hrun]at hx;cases hx;exact hns hrun
    .rw[hg,Option.map_some]at hx
     have:woken P g g' (two w b t (Q1 c' wt') (Qp s')) { g_1 with status:=.blocked }=g_1:=by
      unfold woken;rw[if_pos,again_blocked hrun ho];rcases hst2 with e|e <;> rw[e,hmw] <;> rfl
     rw[this]at hx;cases hx;exact hns hrun
 .refine h.mux.step hi (λ x s me lo e=>?_) (λ j=>?_) (Qh _ _ (by simp)) (λ m hm _ j a ha ho hr=>hm j a ha ho (hR _ _ hr)) (λ m t st sm _ hs=>hs.two_other (hsh.ne hs))
  .rw[h.bareM i hr]at e;cases e
  .by_cases e:j=i
   .subst e;rw[h.bareM j hr];unfold Q3;rw[Ql];rfl
   .unfold Q3;rw[hne j e]
def MI.tailStep(hStop:∀m g U,Stop m g U->g.status=.running){i:Nat}{g:Goroutine}(h:MI P t N Stop none gs w tr V rk rel q)(hi:gs[i]?=some g)(hr:rk i=none)(hp:(V (.run i)).tok.ph≠.out) :
  Nxt P t N Stop gs w sl tr rk q i:=by
 have hi0:i≠0:=λ e=>by subst e;exact h.root hr
 obtain⟨g_1,b,hg,hb,ht⟩:=h.tail i hr hp;rw[hi]at hg;cases hg;obtain⟨ds,pend,k,hph,hoff,W,c,wt,s,hsh,hgi,hb4⟩:=h.par hb;have htk:Z6 V i=(V (.run i)).tok.ph:=by simp[Z6,hi0]
 cases hqi:q i with
 |zero=>rw[hqi]at ht;exact ht.elim
 |succ n=>
  rw[hqi]at ht;obtain⟨hrun,ht⟩:=ht;have deaf1:∀(es:Array Event),Deaf tr i=1->∀j,(deafBehind 1 (es.extract 0 j)≠0)->deafBehind (Deaf tr i) (es.extract 0 j)≠0:=λ es e j hj=>by rw[e];exact hj
  rcases ht with⟨g',es,bs,hm,hbs,hst,hT⟩|⟨hpe,hd,hst⟩|⟨hpe,hd,g',bs,hbs,hst,hT⟩|⟨hpe,hd,g',bs,hbs,hst,hT⟩|⟨hpe,hd,hmw,g',bs,hbs,hst,hT⟩
  .have hup:Zr (Z6 V) i (V (.run i)).tok.ph=Z6 V:=by funext j;by_cases e:j=i <;> simp[Zr,e,htk]
   refine h.tailGo hStop (p':=(V (.run i)).tok.ph) hi hi0 hr hp hph hoff hsh hb4 (hst _ _) hbs (λ e he=>.inl (hm e he)) ?_ (by rw[hup];exact hgi) (.inl rfl) hqi (λ x=>absurd hr (h.wk' i x)) (.inr ⟨hp,hT⟩);intro j hj hc;obtain⟨x,hx,_⟩:=hc;rcases Jl (t:=tr) hx with⟨hlt,_⟩|⟨_,op,hop,hoa,_⟩
   .omega
   .obtain⟨e,he',rfl⟩:=Go.Conc.mem_ofEvents hop;rw[(Qft (hm e he')).1]at hoa;cases hoa
  .rw[hpe]at htk;obtain⟨h1,h2,h3,rfl⟩:=hgi.relC htk;obtain⟨g',bs,hbs,hst,hT⟩:=hst c wt h1 h2 h3
   have hno:=Qi5 (tr:=tr) (i:=i) (fn:=g.frame.fn) (pos:=g.frame.place) (b:=b) (es:=#[Jg b 0,evW b 0]) (by intro e he;simp at he;rcases he with rfl|rfl <;> exact .inr ⟨_,_,rfl⟩) (by
    intro j hj;refine deaf1 _ hd j ?_;have:j=0\/j=1:=by simp at hj;omega
    rcases this with rfl|rfl <;> simp[deafBehind,Jg,evW])
   have hes:∀e∈(#[Jg b 0,evW b 0]:Array Event),Zeq b false e:=by
    intro e he;simp at he;rcases he with rfl|rfl <;> exact .inr (.inl ⟨0,_,by omega,rfl⟩)
   by_cases hl:c=1/\wt=1
   .rw[if_pos hl]at hT;obtain⟨rfl,rfl⟩:=hl;obtain⟨rfl,hgi'⟩:=hgi.last htk;exact h.tailGo hStop (p':=.lst b 0) hi hi0 hr hp hph hoff hsh hb4 hst hbs hes hno hgi' (.inl rfl) hqi (by rintro⟨_,_,e⟩;cases e) (.inr ⟨by simp,by rw[hd];exact hT⟩)
   .rw[if_neg hl]at hT;exact h.tailGo hStop (p':=.out) hi hi0 hr hp hph hoff hsh hb4 hst hbs hes hno (hgi.leave htk hl) (.inl rfl) hqi (by rintro⟨_,_,e⟩;cases e) (.inl ⟨rfl,by rw[hd];exact hT⟩)
  .rw[hpe]at htk;obtain⟨rfl,rfl,rfl,h4,_⟩:=hgi.lstAt htk;obtain rfl:wt=1:=by omega
   have hno:=Qi5 (tr:=tr) (i:=i) (fn:=g.frame.fn) (pos:=g.frame.place) (b:=b) (es:=#[Jg b 0]) (by intro e he;simp at he;subst he;exact .inr ⟨_,_,rfl⟩) (by
    intro j hj;refine deaf1 _ hd j ?_;have:j=0:=by simp at hj;omega
    subst this;simp[deafBehind])
   exact h.tailGo hStop (p':=.lst b 1) hi hi0 hr hp hph hoff hsh hb4 hst hbs (by intro e he;simp at he;subst he;exact .inr (.inl ⟨0,_,by omega,rfl⟩)) hno (hgi.next (wt':=1) htk (.inl ⟨rfl,rfl⟩)) (.inl rfl) hqi (by rintro⟨_,_,e⟩;cases e) (.inr ⟨by simp,by rw[hd];exact hT⟩)
  .rw[hpe]at htk;obtain⟨rfl,rfl,rfl,h4,_⟩:=hgi.lstAt htk;obtain rfl:wt=1:=by omega
   have hno:=Qi5 (tr:=tr) (i:=i) (fn:=g.frame.fn) (pos:=g.frame.place) (b:=b) (es:=#[evW b 0]) (by intro e he;simp at he;subst he;exact .inr ⟨_,_,rfl⟩) (by
    intro j hj;refine deaf1 _ hd j ?_;have:j=0:=by simp at hj;omega
    subst this;simp[deafBehind])
   exact h.tailGo hStop (p':=.lst b 2) hi hi0 hr hp hph hoff hsh hb4 hst hbs (by intro e he;simp at he;subst he;exact .inr (.inl ⟨0,_,by omega,rfl⟩)) hno (hgi.next (wt':=0) htk (.inr ⟨rfl,rfl⟩)) (.inl rfl) hqi (by rintro⟨_,_,e⟩;cases e) (.inr ⟨by simp,by rw[hd];exact hT⟩)
  .rw[hpe]at htk;obtain⟨rfl,rfl,rfl,h4,_⟩:=hgi.lstAt htk;obtain rfl:wt=0:=by omega
   have hno:=Qi5 (tr:=tr) (i:=i) (fn:=g.frame.fn) (pos:=g.frame.place) (b:=b) (es:=#[Z5 .disable,Jg b 1,evW b 1,Z5 .enable]) (by intro e he;simp at he;rcases he with rfl|rfl|rfl|rfl <;> first|exact .inl rfl|exact .inr ⟨_,_,rfl⟩) (by
    intro j hj;refine deaf1 _ hd j ?_;have:j=0\/j=1\/j=2\/j=3:=by simp at hj;omega
    rcases this with rfl|rfl|rfl|rfl <;> simp[deafBehind,Jg,evW,Z5])
   exact h.tailGo hStop (p':=.out) hi hi0 hr hp hph hoff hsh hb4 hst hbs (by intro e he;simp at he;rcases he with rfl|rfl|rfl|rfl <;> first|exact .inl rfl|exact .inr (.inl ⟨1,_,by omega,rfl⟩)) hno (hgi.wake htk) (.inr ⟨hmw,hT.status⟩) hqi (by rintro⟨_,_,e⟩;cases e) (.inl ⟨rfl,by rw[hd];exact hT⟩)
end
section
variable{P:Program}{t:TypeId}{N:Nat}{Stop:Stp Tk}{gs:Array Goroutine}{w:World}{tr:Trace}{V V':Hd->Qa Tk}{rk:Nat->Option Tr}{rel:Nat->Option Nat}{q:Nat->Nat}{sl:Option (Nat×Nat)}
def MI.par'{ex:Option Nat}(h:MI P t N Stop ex gs w tr V rk rel q){b:Nat}(hb:(V (.run 0)).tok.ph.blk=some b) :
  ∃ds pend k,(V (.run 0)).tok.ph=.par b ds pend k/\(∀j,Off b (V j))/\∃W c wt s,Sh b t (Q1 c wt) (Qp s) w/\GI N b ds pend k (Z6 V) rel (λ i=>(V (.dep i)).M) W c wt s/\(∀g,gs[0]?=some g->g.status≠.running->s=0):=by
 have hG:=h.grp;unfold Grp at hG
 revert hG hb
 cases hph:(V (.run 0)).tok.ph with
 |out=>intro hb;cases hb
 |par b' ds pend k=>intro hb hG;cases hb;exact⟨ds,pend,k,rfl,hG⟩
 |_=>intro _ hG;exact hG.elim
def Zdn{i:Nat}{g g':Goroutine}(hi:gs[i]?=some g)(hb:g'.status=.blocked):behind P gs i g g' w=gs.setIfInBounds i g':=by
 have hlt:=(Array.getElem?_eq_some_iff.1 hi).1;apply Array.ext_getElem?;intro j;by_cases e:j=i
 .subst e;rw[Wm hi];simp[hlt]
 .rw[J7 e,Array.getElem?_setIfInBounds_ne (Ne.symm e)];cases hx:gs[j]? with
  |none=>rfl
  |some x=>
   simp only[Option.map_some];unfold woken;simp[hb]
def MI.sleep{i:Nat}{g:Goroutine}{r:Tr}(h:MI P t N Stop (some i) gs w tr V rk rel q)(hi:gs[i]?=some g)(hrun:g.status=.running)(ho:g.offers=none)
  (hr:rk i=some r) (hbk:Zr0 i (V (.run i)).tok) (hst':stepG P (i==0) g w=.go { g with status:=.blocked } w #[]) (hJ:JR (Zb P t N) Stop r (i==0) g (V (.run i)))
  (hgrp:Grp t N (gs.setIfInBounds i { g with status:=.blocked }) w V rel) (hmux:MuG (gs.setIfInBounds i { g with status:=.blocked }) w V):Nxt P t N Stop gs w sl tr rk q i:=by
 have hlt:=(Array.getElem?_eq_some_iff.1 hi).1;have hri:rk i≠none:=by rw[hr];simp
 have hgs:behind P gs i g { g with status:=.blocked } w=gs.setIfInBounds i { g with status:=.blocked }:=Zdn hi rfl;refine⟨_,_,_,V,rk,rel,q,runT_crowd_go hi hst',?_,?_,.refl _,rfl⟩
 .have e1:tr++MemOp.ofEvents i g.frame.fn g.frame.place #[]=tr:=by rw[ofEvents_eq];simp
  show MI P t N Stop none (behind P gs i g { g with status:=.blocked } w) w _ V rk rel q;rw[hgs,e1];have hat:∀j,j≠i->(gs.setIfInBounds i { g with status:=.blocked })[j]?=gs[j]?:=λ j hj=>Array.getElem?_setIfInBounds_ne (Ne.symm hj);refine⟨?_,h.root,?_,?_,?_,h.bare,h.wk,h.wk',h.deaf,h.deps,h.vi,h.ti,hgrp,hmux,h.bareM⟩
  .intro j r'' _ hr'';by_cases e:j=i
   .subst e;rw[hr]at hr'';cases hr'';exact⟨g,hJ,.inr ⟨by simp[hlt],ho,hbk⟩⟩
   .obtain⟨g_1,h1,h2⟩:=h.live j r'' (λ e'=>e (Option.some.inj e').symm) hr'';refine⟨g_1,h1,?_⟩;rw[hat j e];exact h2
  .intro j x hj hx hp;have e:j≠i:=λ e=>by subst e;exact hri hj
   rw[hat j e]at hx;exact h.gone j x hj hx hp
  .intro j hj hp;have e:j≠i:=λ e=>by subst e;exact hri hj
   obtain⟨x,b',h1,h2⟩:=h.tail j hj hp;exact⟨x,b',by rw[hat j e];exact h1,h2⟩
  .intro j hj;exact h.above j (by simpa using hj)
 .show Qbp (meas (behind P gs i g { g with status:=.blocked } w) rk q) (meas gs rk q);rw[hgs];exact Zd3 hi hrun rfl
def MuG.sleep{i:Nat}{g g':Goroutine}(h:MuG gs w V)(hi:gs[i]?=some g)(hn:∀x s me lo,Q3 V i≠some (.lok x s me lo)):MuG (gs.setIfInBounds i g') w V:=by
 refine h.at (λ _=>rfl) rfl (λ _ hm _=>hm) (λ _ _ _ _ _ x=>x) λ j x s me lo y e hy hns=>?_;have ej:j≠i:=λ e'=>by subst e';exact hn _ _ _ _ e
 rw[Array.getElem?_setIfInBounds_ne (Ne.symm ej)]at hy;exact⟨y,hy,hns⟩
def MI.block{g:Goroutine}{r:Tr}{b:Nat}{ds:List Spec}{bs:List (Nat×Bool)}{mu:Option MuT}(h:MI P t N Stop (some 0) gs w tr V rk rel q)(hi:gs[0]?=some g)(hrun:g.status=.running)(ho:g.offers=none)
  (hr:rk 0=some r) (htok:(V (.run 0)).tok=⟨1,.par b ds false .wait,mu⟩) (hoff:∀j,Off b (V j)) {W:List Nat} {c wt:Nat} (hsh:Sh b t (Q1 c wt) (Qp 0) w) (hgi:GI N b ds false .wait (Z6 V) rel (λ i=>(V (.dep i)).M) W c wt 0)
  (hst:Qc P t true g (Q1 c wt) (Qp 0)=.blocked { g with status:=.blocked } (Q1 c wt) (Qp 0) bs) (hbs:Jb b bs) (hJ:JR (Zb P t N) Stop r true g (V (.run 0))):Nxt P t N Stop gs w sl tr rk q 0:=by
 have hst':stepG P (0==0) g w=.go { g with status:=.blocked } w #[]:=by
  have:=Qjs hst hsh hbs
  rwa [hsh.two_same]at this
 refine h.sleep hi hrun ho hr (.inl ⟨rfl,b,ds,mu,htok⟩) hst' hJ ?_ (h.mux.sleep hi λ x s me lo e=>?_)
 .unfold Grp;rw[htok];exact⟨hoff,W,c,wt,0,hsh,hgi,λ _ _ _=>rfl⟩
 .have h3:=h.mux.2.2;rw[e]at h3;exact h3.elim
def MI.calm(hStop:∀m g U,Stop m g U->g.status=.running){i:Nat}{g g':Goroutine}{r r':Tr}{b:Nat}{bs:List (Nat×Bool)}(h:MI P t N Stop (some i) gs w tr V rk rel q)(hi:gs[i]?=some g)(hr:rk i=some r)(hi0:i≠0)(hb:(V (.run i)).tok.ph.blk=some b)
  (hst:∀st sm,Qc P t false g st sm=.go g' st sm #[] bs) (hbs:Jb b bs) (hsub:Tr.Sub r' r) (hJ:JR (Zb P t N) Stop r' false g' (V (.run i))):Nxt P t N Stop gs w sl tr rk q i:=by
 have hlt:=(Array.getElem?_eq_some_iff.1 hi).1;have hri:rk i≠none:=by rw[hr];simp
 have hwk:=h.wk i hi0 hri;have htk:Z6 V i=(V (.run i)).tok.ph:=by simp[Z6,hi0]
 have hG:=h.grp;unfold Grp at hG;cases hph:(V (.run 0)).tok.ph with
 |out=>rw[hph]at hG;have:=hG.1 i hi0;rw[this]at hwk;obtain⟨_,_,e⟩:=hwk;cases e
 |wrk _ _=>rw[hph]at hG;exact hG.elim
 |rel _=>rw[hph]at hG;exact hG.elim
 |lst _ _=>rw[hph]at hG;exact hG.elim
 |par b' ds pend k=>
  rw[hph]at hG;obtain⟨hoff,W,c,wt,s,hsh,hgi,hb4⟩:=hG
  have hbb:b'=b:=by
   obtain⟨b_1,D,e⟩:=hwk;rw[e]at hb;cases hb;rw[e]at htk;rcases hgi.ph i with e'|⟨D',e'⟩|e'|⟨j,e'⟩ <;> rw[htk]at e' <;> cases e';rfl
  subst hbb
  have hst':stepG P (i==0) g w=.go g' w #[]:=by
   rw[show(i==0)=false by simpa using hi0];have:=Qcl (hst (Q1 c wt) (Qp s)) hsh hbs
   rwa [hsh.two_same]at this
  refine⟨_,_,_,V,Zr rk i (some r'),rel,q,runT_crowd_go hi hst',?_,Qas Jo hlt hr λ r'' e=>by cases e;exact hsub,.refl _,rfl⟩;refine h.go hStop (V':=V) (rk':=Zr rk i (some r')) (rel':=rel) (q':=q) (es:=#[]) hi (λ _ _=>rfl) (λ j hj=>Qu _ _ hj) (λ _ _=>rfl) (λ _ _=>.inl rfl) (by rw[Qu _ _ (Ne.symm hi0)];exact h.root) (.inl hi0) ?_ ?_ h.deps h.vi ?_ ?_ (h.mux.step hi (λ _ _ _ _ _=>hJ.running hStop) (λ _=>rfl) rfl (λ _ hm _=>hm) λ _ _ _ _ _ x=>x) (λ e=>by rw[Qk]at e;cases e)
  .intro r'' e;rw[Qk]at e;cases e;refine⟨by rw[show(i==0)=false by simpa using hi0];exact hJ,?_,λ _=>hwk⟩;rw[deafBehind_nil];exact h.deaf i hri
  .intro e;rw[Qk]at e;cases e
  .exact h.ti.imp λ _ x=>x.dumb λ e he=>by simp at he
  .unfold Grp;rw[hph];exact⟨hoff,W,c,wt,s,hsh,hgi,Grp.woken hi (λ e=>absurd e hi0) hb4⟩
def MI.lay(hStop:∀m g U,Stop m g U->g.status=.running){i n:Nat}{g g':Goroutine}{r:Tr}{b:Nat}{D:Spec}{bs:List (Nat×Bool)}(h:MI P t N Stop (some i) gs w tr V rk rel q)(hi:gs[i]?=some g)(hr:rk i=some r)(hi0:i≠0)
  {mu:Option MuT} (htok:(V (.run i)).tok=⟨0,.wrk b D,mu⟩) (hmu:mu=none\/∃x s lo,mu=some (.lok x s .fin lo)) (hD:D (V (.run i)).M) (hst:∀st sm,Qc P t false g st sm=.go g' st sm #[Z5 (.releaseMerge ⟨b,0,none⟩)] bs) (hbs:Jb b bs) (hT:Tl P t N b n 0 (.rel b) g'):Nxt P t N Stop gs w sl tr rk q i:=by
 have hlt:=(Array.getElem?_eq_some_iff.1 hi).1;have hri:rk i≠none:=by rw[hr];simp
 have htk:Z6 V i=.wrk b D:=by simp[Z6,hi0,htok]
 have hd0:Deaf tr i=0:=by rw[h.deaf i hri,htok]
 have hG:=h.grp;unfold Grp at hG;cases hph:(V (.run 0)).tok.ph with
 |out=>rw[hph]at hG;have:=hG.1 i hi0;rw[htok]at this;cases this
 |wrk _ _=>rw[hph]at hG;exact hG.elim
 |rel _=>rw[hph]at hG;exact hG.elim
 |lst _ _=>rw[hph]at hG;exact hG.elim
 |par b' ds pend k=>
  rw[hph]at hG;obtain⟨hoff,W,c,wt,s,hsh,hgi,hb4⟩:=hG
  have hbb:b'=b:=by
   rcases hgi.ph i with e'|⟨D',e'⟩|e'|⟨j,e'⟩ <;> rw[htk]at e' <;> cases e';rfl
  subst hbb
  have hst':stepG P (i==0) g w=.go g' w #[Z5 (.releaseMerge ⟨b',0,none⟩)]:=by
   rw[show(i==0)=false by simpa using hi0];have:=Qcl (hst (Q1 c wt) (Qp s)) hsh hbs
   rwa [hsh.two_same]at this
  obtain⟨hgi',hrel⟩:=hgi.rel_ (r:=tr.size) htk hD;have hbl:b'<w.heap.size:=(Array.getElem?_eq_some_iff.1 hsh).1
  let V1:=Q2 (Q2 V (.run i) (Qa.bare ⟨0,.rel b',none⟩)) (.dep i) ⟨λ _=>none,(V (.run i)).M,⟨0,.out,none⟩⟩
  have v1:V1 (.run i)=Qa.bare ⟨0,.rel b',none⟩:=by show Q2 _ _ _ _=_;rw[Qh _ _ (by simp),Ql]
  have v2:∀j,j≠i->V1 (.run j)=V (.run j):=λ j hj=>by show Q2 _ _ _ _=_;rw[Qh _ _ (by simp),Qh _ _ (by intro e;cases e;exact hj rfl)]
  have v3:V1 (.dep i)=⟨λ _=>none,(V (.run i)).M,⟨0,.out,none⟩⟩:=Ql ..;have v4:∀j,j≠i->V1 (.dep j)=V (.dep j):=λ j hj=>by show Q2 _ _ _ _=_;rw[Qh _ _ (by intro e;cases e;exact hj rfl),Qh _ _ (by simp)]
  have v5:V1 .lck=V .lck:=by show Q2 _ _ _ _=_;rw[Qh _ _ (by simp),Qh _ _ (by simp)]
  have hfk:=Znv (V (.run i)) (⟨0,.rel b',none⟩:Tk) ⟨0,.out,none⟩;have hvi:VI V1 w:=h.vi.fork hfk (by simp)
  have hW:∀k l,(V1 k).canW l->(V k).canW l/\k≠.dep i\/(k=.dep i/\(V (.run i)).canW l):=by
   intro k l hl;cases k with
   |run j=>
    by_cases e:j=i
    .subst e;rw[v1]at hl;exact absurd hl (Wl _ _)
    .rw[v2 j e]at hl;exact .inl ⟨hl,by simp⟩
   |dep j=>
    by_cases e:j=i
    .subst e;rw[v3]at hl;exact .inr ⟨rfl,hfk.wc l hl⟩
    .rw[v4 j e]at hl;exact .inl ⟨hl,by intro e';cases e';exact e rfl⟩
   |lck=>rw[v5]at hl;exact .inl ⟨hl,by simp⟩
  have hR:∀k l,(V1 k).canR l->(V k).canR l/\k≠.dep i\/(k=.dep i/\(V (.run i)).canR l):=by
   intro k l hl;cases k with
   |run j=>
    by_cases e:j=i
    .subst e;rw[v1]at hl;exact absurd hl (Wk _ _)
    .rw[v2 j e]at hl;exact .inl ⟨hl,by simp⟩
   |dep j=>
    by_cases e:j=i
    .subst e;rw[v3]at hl;exact .inr ⟨rfl,hfk.rc l hl⟩
    .rw[v4 j e]at hl;exact .inl ⟨hl,by intro e';cases e';exact e rfl⟩
   |lck=>rw[v5]at hl;exact .inl ⟨hl,by simp⟩
  refine⟨_,_,_,V1,Zr rk i none,Zr rel i (some tr.size),Zr q i n,runT_crowd_go hi hst',?_,Qas Jo hlt hr λ r'' e=>(by cases e),.refl _,rfl⟩
  have e0:MemOp.ofEvents i g.frame.fn g.frame.place #[Z5 (.releaseMerge ⟨b',0,none⟩)]=#[{ g:=i,fn:=g.frame.fn,pos:=g.frame.place,act:=.mark (.releaseMerge ⟨b',0,none⟩) }]:=by
   rw[ofEvents_eq];simp[Z5,MemAct.ofEvent]
  refine h.go hStop (V':=V1) (rk':=Zr rk i none) (rel':=Zr rel i (some tr.size)) (q':=Zr q i n) (es:=#[Z5 (.releaseMerge ⟨b',0,none⟩)]) hi v2 (λ j hj=>Qu _ _ hj) (λ j hj=>Qu _ _ hj) (λ j hj=>.inl (Qu _ _ hj)) (by rw[Qu _ _ (Ne.symm hi0)];exact h.root) (.inl hi0) ?_ ?_ ?_ hvi ?_ ?_ ?_ (λ _=>by unfold Q3;rw[v1];rfl)
  .intro r'' e;rw[Qk]at e;cases e
  .intro _;rw[v1,Qk,hd0];refine⟨hi0,rfl,rfl,?_,.inr ⟨λ e=>(by cases e),b',by rw[hph];rfl,hT⟩⟩;rintro⟨_,_,e⟩;cases e
  .intro j hj;have e:j≠i:=λ e=>by subst e;rw[Qk]at hj;cases hj
   rw[Qu _ _ e]at hj;rw[v4 j e];exact h.deps j hj
  .obtain⟨rm,hti⟩:=h.ti;have hmb:Jz V1=Jz V:=by simp only[Jz,Q3,v2 0 (Ne.symm hi0)]
   refine⟨rm,?_⟩;rw[v2 0 (Ne.symm hi0),e0,hmb]
   have:=hti.release (W':=λ k=>(V1 k).canW) (R':=λ k=>(V1 k).canR) (wk':=λ j=>isW (V1 (.run j)).tok.ph) (rel':=Zr rel i (some tr.size)) (y:={ g:=i,fn:=g.frame.fn,pos:=g.frame.place,act:=.mark (.releaseMerge ⟨b',0,none⟩) }) (b:=b') (by rw[hph];rfl) rfl hbl hd0 hrel (λ k=>by simp[Zr]) hW hR (λ k hk=>by
    by_cases e:k=i
    .exact .inr e
    .left;rw[v2 k e];exact hk)
   refine this.turn (λ _ _ h=>h) (λ _ _ h=>h) ?_;rintro j (rfl|hj)
   .exact .inl rfl
   .by_cases e:j=i
    .subst e;right;rw[htok];simp
    .rw[v2 j e]at hj;exact .inr hj
  .unfold Grp;rw[v2 0 (Ne.symm hi0),hph]
   have hk':Z6 V1=Zr (Z6 V) i (.rel b'):=by
    funext j;by_cases e:j=i
    .subst e;simp only[Z6,if_neg hi0,v1,Qk];rfl
    .rw[Qu _ _ e];by_cases e0:j=0
     .simp[Z6,e0]
     .simp only[Z6,if_neg e0,v2 j e]
   have hM':(λ j=>(V1 (.dep j)).M)=Zr (λ j=>(V (.dep j)).M) i (V (.run i)).M:=by
    funext j;by_cases e:j=i
    .subst e;rw[v3,Qk]
    .rw[v4 j e,Qu _ _ e]
   refine⟨λ j a ha ho hrd=>?_,W,c,wt,s,hsh,by rw[hk',hM'];exact hgi',Grp.woken hi (λ e=>absurd e hi0) hb4⟩;rcases hR _ _ hrd with⟨h1,_⟩|⟨_,h1⟩
   .exact hoff _ a ha ho h1
   .exact hoff _ a ha ho h1
  .have hmk:∀j,j≠i->Q3 V1 j=Q3 V j:=λ j hj=>by unfold Q3;rw[v2 j hj]
   have hmi:Q3 V1 i=none:=by unfold Q3;rw[v1];rfl
   have hmi':Q3 V i=mu:=by unfold Q3;rw[htok]
   have hoff':∀m,(∀j,Off m (V j))->∀j,Off m (V1 j):=λ m hm j a ha ho hrd=>by
    rcases hR _ _ hrd with⟨h1,_⟩|⟨_,h1⟩
    .exact hm _ a ha ho h1
    .exact hm _ a ha ho h1
   obtain⟨g1,g2,g3⟩:=h.mux;refine⟨λ j x u hj e=>?_,by rw[v5];exact g2,?_⟩
   .by_cases ej:j=i
    .subst ej;rw[hmi]at e;cases e
    .rw[hmk j ej]at e;exact g1 j x u hj e
   .rw[hmk 0 (Ne.symm hi0)]
    revert g3
    cases e0:Q3 V 0 with
    |none=>
     rintro⟨g3,g4⟩;refine⟨λ j=>?_,by rw[v5];exact g4⟩;by_cases ej:j=i
     .subst ej;exact hmi
     .rw[hmk j ej];exact g3 j
    |some m0=>
     cases m0 with
     |lok=>exact λ x=>x
     |par x u=>
      rintro⟨g3,lp,st,sm,g4⟩;refine⟨hoff' _ g3,lp,st,sm,⟨g4.sh,g4.word,λ j x' s me lo e=>?_,λ j k s x_1 m_1 l₁ x_2 m_2 l₂ e e'=>?_,λ s hs=>?_,g4.idle,λ e=>by rw[v5];exact g4.dep e,λ e=>by rw[v5];exact g4.dep' e,λ j x' s me lo y e hy hns=>?_⟩⟩
      .by_cases ej:j=i
       .subst ej;rw[hmi]at e;cases e
       .rw[hmk j ej]at e;exact g4.tk j x' s me lo e
      .by_cases ej:j=i
       .subst ej;rw[hmi]at e;cases e
       .by_cases ek:k=i
        .subst ek;rw[hmi]at e';cases e'
        .rw[hmk j ej]at e;rw[hmk k ek]at e';exact g4.one j k s x_1 m_1 l₁ x_2 m_2 l₂ e e'
      .rcases g4.who s hs with h1|⟨j,me,lo,e⟩
       .exact .inl h1
       .by_cases ej:j=i
        .subst ej;rw[hmi']at e;rcases hmu with rfl|⟨x',s',lo',rfl⟩
         .cases e
         .cases e;exact .inl (g4.tk j _ _ _ _ hmi').2.1.symm
        .exact .inr ⟨j,me,lo,by rw[hmk j ej];exact e⟩
      .have ej:j≠i:=λ ej=>by subst ej;rw[hmi]at e;cases e
       rw[hmk j ej]at e;rw[J7 ej]at hy;obtain⟨z,hz,rfl⟩:=Option.map_eq_some_iff.1 hy;exact g4.slp j x' s me lo z e hz λ hr=>hns (by rw[Wh hr];exact hr)
end
def Qdn(V:Hd->Qa Tk)(l:List Nat):Hd->Qa Tk
 |.run j=>if j=0 then(V (.run 0)).with (l.map λ i=>(V (.dep i)).M).flatten else V (.run j)
 |.dep j=>if j∈l then Qal else V (.dep j)
 |.lck=>V .lck
def VI.joinAll{w:World}:∀{l:List Nat}{V:Hd->Qa Tk},l.Nodup->VI V w->VI (Qdn V l) w
 |[],V,_,h=>by
  have:Qdn V []=V:=by
   funext k;cases k with
   |run j=>
    simp only[Qdn];split
    .rename_i e;subst e;simp[Qa.with]
    .rfl
   |dep j=>simp[Qdn]
   |lck=>rfl
  rw[this];exact h
 |i::l,V,hn,h=>by
  obtain⟨hi,hn⟩:=nodup_cons.1 hn;have h1:=h.join (k:=.run 0) (k':=.dep i) (by simp) (⟨0,.out,none⟩:Tk);have h2:=VI.joinAll hn h1
  have e:Qdn (Q2 (Q2 V (.run 0) ((V (.run 0)).with (V (.dep i)).M)) (.dep i) (Qa.bare ⟨0,.out,none⟩)) l=Qdn V (i::l):=by
   funext k;cases k with
   |run j=>
    simp only[Qdn]
    have hm:(l.map λ i'=>(Q2 (Q2 V (.run 0) ((V (.run 0)).with (V (.dep i)).M)) (.dep i) (Qa.bare (⟨0,.out,none⟩:Tk)) (.dep i')).M)=l.map λ i'=>(V (.dep i')).M:=by
     refine map_congr_left λ i' hi'=>?_;have hne:i'≠i:=λ e=>hi (e▸hi');rw[Qh _ _ (by intro e;cases e;exact hne rfl),Qh _ _ (by simp)]
    rw[hm];split
    .rename_i e;rw[Qh _ _ (by simp),Ql];simp[Qa.with]
    .rename_i e;rw[Qh _ _ (by simp),Qh _ _ (by intro e';cases e';exact e rfl)]
   |dep j=>
    simp only[Qdn];by_cases e:j=i
    .subst e;rw[Ql];simp[Qal]
    .rw[Qh _ _ (by intro e';cases e';exact e rfl),Qh _ _ (by simp)];simp[e]
   |lck=>simp only[Qdn];rw[Qh _ _ (by simp),Qh _ _ (by simp)]
  rw[<- e];exact h2
def Qzu{V:Hd->Qa Tk}{U:Qa Tk}{l:List Nat}{x:Loc}:((U.with (l.map λ i=>(V (.dep i)).M).flatten).canW x->U.canW x\/∃i∈l,(V (.dep i)).canW x)/\((U.with (l.map λ i=>(V (.dep i)).M).flatten).canR x->U.canR x\/∃i∈l,(V (.dep i)).canR x):=by
 have key:∀r,r∈U.M++(l.map λ i=>(V (.dep i)).M).flatten->r.lets x->U.canW x\/∃i∈l,(V (.dep i)).canW x:=by
  intro r hr hl;rcases mem_append.1 hr with hr|hr
  .exact .inl (Q6.2 ⟨r,hr,hl⟩)
  .obtain⟨M,hM,hrM⟩:=mem_flatten.1 hr;obtain⟨i,hi,rfl⟩:=mem_map.1 hM;exact .inr ⟨i,hi,Q6.2 ⟨r,hrM,hl⟩⟩
 refine⟨λ h=>?_,λ h=>?_⟩
 .obtain⟨r,hr,hl⟩:=Q6.1 h;exact key r hr hl
 .rcases Qy.1 h with⟨r,hr,hl⟩|h
  .exact(key r hr hl).imp Zx λ⟨i,hi,h⟩=>⟨i,hi,Zx h⟩
  .exact .inl (Qy.2 (.inr h))
def Zfo{U:Qa Tk}(h1:U.I=λ _=>none)(h2:U.M=[])(l:Loc):¬U.canW l/\¬U.canR l:=by
 have hw:¬U.canW l:=λ h=>by obtain⟨r,hr,_⟩:=Q6.1 h;rw[h2]at hr;cases hr
 refine⟨hw,λ h=>?_⟩;rcases Qy.1 h with⟨r,hr,_⟩|h
 .rw[h2]at hr;cases hr
 .cases l <;> simp[h1]at h
section
variable{P:Program}{t:TypeId}{N:Nat}{Stop:Stp Tk}{gs:Array Goroutine}{w:World}{tr:Trace}{V V':Hd->Qa Tk}{rk:Nat->Option Tr}{rel:Nat->Option Nat}{q:Nat->Nat}{sl:Option (Nat×Nat)}
def MI.take(hStop:∀m g U,Stop m g U->g.status=.running){g g':Goroutine}{r:Tr}{b:Nat}{ds:List Spec}{bs:List (Nat×Bool)}{mu:Option MuT}(h:MI P t N Stop (some 0) gs w tr V rk rel q)(hi:gs[0]?=some g)(hr:rk 0=some r)
  (htok:(V (.run 0)).tok=⟨0,.par b ds false .up,mu⟩) {W:List Nat} {c wt s:Nat} (hsh:Sh b t (Q1 c wt) (Qp s) w) (hgi:GI N b ds false .up (Z6 V) rel (λ i=>(V (.dep i)).M) W c wt s)
  (hst:∀st sm,Qc P t true g st sm=.go g' st sm #[Z5 (.acquire ⟨b,0,none⟩)] bs) (hbs:Jb b bs)
  (hJ:∀Ms,Qg6 ds Ms->∃r',Tr.Sub r' r/\JR (Zb P t N) Stop r' true g' { (V (.run 0))with M:=((V (.run 0)).M++Ms.flatten)++(V .lck).M,tok:=⟨0,.out,none⟩ }):Nxt P t N Stop gs w sl tr rk q 0:=by
 have hlt:=(Array.getElem?_eq_some_iff.1 hi).1;obtain⟨-,-,-,-,hout,hrelW⟩:=hgi.up;obtain⟨r',hsub,hJ⟩:=hJ _ hgi.deps;have hph:∀j,j≠0->(V (.run j)).tok.ph=.out:=λ j hj=>by have:=hout j;simpa[Z6,hj]using this
 have hrkn:∀j,j≠0->rk j=none:=by
  intro j hj;cases e:rk j with
  |none=>rfl
  |some r=>
   obtain⟨b,D,e'⟩:=h.wk j hj (by rw[e];simp);rw[hph j hj]at e';cases e'
 have hd0:Deaf tr 0=0:=by rw[h.deaf 0 h.root,htok]
 have hst':stepG P (0==0) g w=.go g' w #[Z5 (.acquire ⟨b,0,none⟩)]:=by
  have:=Qcl (hst (Q1 c wt) (Qp s)) hsh hbs
  rwa [hsh.two_same]at this
 have hbl:b<w.heap.size:=(Array.getElem?_eq_some_iff.1 hsh).1
 let V0:Hd->Qa Tk:=Q2 (Q2 (Qdn V W) (.run 0) ((Qdn V W (.run 0)).with (Qdn V W .lck).M)) .lck (Qa.bare ⟨0,.out,none⟩)
 have z0:V0 (.run 0)=((V (.run 0)).with (W.map λ i=>(V (.dep i)).M).flatten).with (V .lck).M:=by show Q2 _ _ _ _=_;rw[Qh _ _ (by simp),Ql];simp[Qdn]
 let V1:Hd->Qa Tk:=Q2 V0 (.run 0) { V0 (.run 0)with tok:=⟨0,.out,none⟩ }
 have v0:V1 (.run 0)={ (V (.run 0))with M:=((V (.run 0)).M++(W.map λ i=>(V (.dep i)).M).flatten)++(V .lck).M,tok:=⟨0,.out,none⟩ }:=by show Q2 _ _ _ _=_;rw[Ql,z0];rfl
 have v2:∀j,j≠0->V1 (.run j)=V (.run j):=λ j hj=>by show Q2 _ _ _ _=_;rw[Qh _ _ (by intro e;cases e;exact hj rfl)];show Q2 _ _ _ _=_;rw[Qh _ _ (by simp),Qh _ _ (by intro e;cases e;exact hj rfl)];simp[Qdn,hj]
 have vm:V1 .lck=Qal:=by show Q2 _ _ _ _=_;rw[Qh _ _ (by simp)];exact Ql ..
 have vd:∀j,V1 (.dep j)=Qal:=by
  intro j;show Q2 _ _ _ _=_;rw[Qh _ _ (by simp)];show Q2 _ _ _ _=_;rw[Qh _ _ (by simp),Qh _ _ (by simp)];simp only[Qdn];split
  .rfl
  .rename_i hj;refine h.deps j ?_;cases e:rel j with
   |none=>rfl
   |some x=>exact absurd (hgi.inW j (.inr (by rw[e];simp))) hj
 have hvi:VI V1 w:=by
  have:=(VI.joinAll hgi.nodup h.vi).join (k:=.run 0) (k':=.lck) (by simp) (⟨0,.out,none⟩:Tk)
  have hs:∀k,(V1 k).canW=(V0 k).canW/\(V1 k).canR=(V0 k).canR:=by
   intro k;by_cases e:k=.run 0
   .subst e;rw[show V1 (.run 0)=_ from Ql ..];exact⟨rfl,rfl⟩
   .rw[show V1 k=_ from Qh _ _ e];exact⟨rfl,rfl⟩
  refine⟨λ k=>?_,λ k_1 k_2 l hn hw hr=>this.sep k_1 k_2 l hn (by rw[<- (hs k_1).1];exact hw) (by rw[<- (hs k_2).2];exact hr)⟩;by_cases e:k=.run 0
  .subst e;rw[show V1 (.run 0)=_ from Ql ..];have:=this.ok (.run 0);exact⟨this.imm,this.held,this.apart,this.sep⟩
  .rw[show V1 k=_ from Qh _ _ e];exact this.ok k
 have hx0:∀l,((V1 (.run 0)).canW l->(V0 (.run 0)).canW l)/\((V1 (.run 0)).canR l->(V0 (.run 0)).canR l):=λ l=>by
  rw[show V1 (.run 0)=_ from Ql ..];exact⟨λ x=>x,λ x=>x⟩
 have hW:∀k l,(V1 k).canW l->k=.run 0/\((V (.run 0)).canW l\/(∃g r,rel g=some r/\(V (.dep g)).canW l)\/(V .lck).canW l):=by
  intro k l hl;cases k with
  |run j=>
   by_cases e:j=0
   .subst e;have hl:=(hx0 l).1 hl;rw[z0]at hl;refine⟨rfl,?_⟩;rcases Qo6 (τ:=V .lck) hl with hl|hl
    .refine(Qzu.1 hl).imp id λ⟨i,hi,h⟩=>?_;obtain⟨x,hx⟩:=hrelW i hi;exact .inl ⟨i,x,hx,h⟩
    .exact .inr (.inr hl)
   .rw[v2 j e]at hl;obtain⟨b1,b2⟩:=h.bare j (hrkn j e);exact absurd hl (Zfo b1 b2 l).1
  |dep j=>rw[vd]at hl;exact absurd hl (Wl _ _)
  |lck=>rw[vm]at hl;exact absurd hl (Wl _ _)
 have hR:∀k l,(V1 k).canR l->k=.run 0/\((V (.run 0)).canR l\/(∃g r,rel g=some r/\(V (.dep g)).canR l)\/(V .lck).canR l):=by
  intro k l hl;cases k with
  |run j=>
   by_cases e:j=0
   .subst e;have hl:=(hx0 l).2 hl;rw[z0]at hl;refine⟨rfl,?_⟩;rcases Qo5 (τ:=V .lck) hl with hl|hl
    .refine(Qzu.2 hl).imp id λ⟨i,hi,h⟩=>?_;obtain⟨x,hx⟩:=hrelW i hi;exact .inl ⟨i,x,hx,h⟩
    .exact .inr (.inr hl)
   .rw[v2 j e]at hl;obtain⟨b1,b2⟩:=h.bare j (hrkn j e);exact absurd hl (Zfo b1 b2 l).2
  |dep j=>rw[vd]at hl;exact absurd hl (Wk _ _)
  |lck=>rw[vm]at hl;exact absurd hl (Wk _ _)
 refine⟨_,_,_,V1,Zr rk 0 (some r'),λ _=>none,q,runT_crowd_go hi hst',?_,Qas Jo hlt hr λ r'' e=>by cases e;exact hsub,.refl _,rfl⟩
 have e0:MemOp.ofEvents 0 g.frame.fn g.frame.place #[Z5 (.acquire ⟨b,0,none⟩)]=#[{ g:=0,fn:=g.frame.fn,pos:=g.frame.place,act:=.mark (.acquire ⟨b,0,none⟩) }]:=by
  rw[ofEvents_eq];simp[Z5,MemAct.ofEvent]
 refine h.go hStop (V':=V1) (rk':=Zr rk 0 (some r')) (rel':=λ _=>none) (q':=q) (es:=#[Z5 (.acquire ⟨b,0,none⟩)]) hi v2 (λ j hj=>Qu _ _ hj) (λ _ _=>rfl) (λ _ _=>.inr rfl) (by rw[Qk];simp) (.inr (.inr hph)) ?_ ?_ (λ j _=>vd j) hvi ?_ ?_ ?_ (λ e=>by rw[Qk]at e;cases e)
 .intro r'' e;rw[Qk]at e;cases e;rw[v0];refine⟨hJ,?_,λ h0=>absurd rfl h0⟩;rw[hd0];rfl
 .intro e;rw[Qk]at e;cases e
 .obtain⟨rm,hti⟩:=h.ti;have hmb:Jz V1=none:=by unfold Jz Q3;rw[v0];rfl
  refine⟨none,?_⟩;rw[e0,v0,hmb]
  exact hti.acquire (y:={ g:=0,fn:=g.frame.fn,pos:=g.frame.place,act:=.mark (.acquire ⟨b,0,none⟩) }) (b:=b) (by rw[htok];rfl) rfl rfl hbl hd0 (λ j=>by
   by_cases e:j=0
   .subst e;rw[htok];rintro⟨_,_,e⟩;cases e
   .rw[hph j e];rintro⟨_,_,e⟩;cases e) (.inl rfl) hW hR
 .unfold Grp;rw[v0];exact⟨λ j hj=>by rw[v2 j hj];exact hph j hj,λ _=>rfl⟩
 .have hn:∀j,Q3 V1 j=none:=by
   intro j;by_cases e:j=0
   .subst e;unfold Q3;rw[v0]
   .unfold Q3;rw[v2 j e];exact h.bareM j (hrkn j e)
  refine⟨λ j x u _ e=>(by rw[hn]at e;cases e),by rw[vm];rfl,?_⟩;rw[hn];exact⟨hn,vm⟩
def MI.start(hStop:∀m g U,Stop m g U->g.status=.running){g g' cg:Goroutine}{r r_1 r_2:Tr}{b:Nat}{ds:List Spec}{D:Spec}{Up Uc:Qa Tk}{mu mu' mc:Option MuT}(h:MI P t N Stop (some 0) gs w tr V rk rel q)(hi:gs[0]?=some g)(hr:rk 0=some r)
  (htok:(V (.run 0)).tok=⟨0,.par b ds true .run,mu⟩) (hoff:∀j,Off b (V j)) {W:List Nat} {c wt s:Nat} (hsh:Sh b t (Q1 c wt) (Qp s) w) (hgi:GI N b ds true .run (Z6 V) rel (λ i=>(V (.dep i)).M) W c wt s)
  (hst:Qc P t true g undef undef=.spawn g' cg #[]) (hf:Q64 (V (.run 0)) Up Uc) (hp:Up.tok=⟨0,.par b (D::ds) false .run,mu'⟩) (hc:Uc.tok=⟨0,.wrk b D,mc⟩) (hmu:Zpa mu mu' mc)
  (h1:Tr.Sub r_1 r) (h2:Tr.Sub r_2 r) (hJ:JR (Zb P t N) Stop r_1 true g' Up) (hJ':JR (Zb P t N) Stop r_2 false cg Uc):Nxt P t N Stop gs w sl tr rk q 0:=by
 have hlt:=(Array.getElem?_eq_some_iff.1 hi).1;have hst':stepG P (0==0) g w=.spawn g' cg w #[]:=Q6t hst w;obtain⟨ab1,ab2,ab3⟩:=h.above gs.size (Nat.le_refl _);have hc0:gs.size≠0:=by omega
 have hcout:(V (.run gs.size)).tok.ph=.out:=by
  apply Classical.byContradiction;intro hne;obtain⟨x,_,hx,_⟩:=h.tail gs.size ab1 hne;rw[Array.getElem?_eq_none (Nat.le_refl _)]at hx;cases hx
 have htkc:Z6 V gs.size=.out:=by simp[Z6,hc0,hcout]
 have hcW:gs.size∉W:=by
  intro hm;obtain⟨j,hj,e⟩:=mem_iff_getElem.1 hm;have hj':j<ds.length:=by rw[<- hgi.len];exact hj
  rcases hgi.spec j gs.size ds[j] (by rw[getElem?_eq_getElem hj,e]) (getElem?_eq_getElem hj')with⟨x,_⟩|⟨_,⟨x,hx⟩,_⟩
  .rw[htkc]at x;cases x
  .rw[ab3]at hx;cases hx
 have hd0:Deaf tr 0=0:=by rw[h.deaf 0 h.root,htok]
 let V1:=Q2 (Q2 V (.run 0) Up) (.run gs.size) Uc
 have v0:V1 (.run 0)=Up:=by show Q2 _ _ _ _=_;rw[Qh _ _ (λ e=>hc0 (Hd.run.inj e).symm),Ql]
 have vc:V1 (.run gs.size)=Uc:=Ql ..;have v2:∀j,j≠0->j≠gs.size->V1 (.run j)=V (.run j):=λ j hj hj'=>by show Q2 _ _ _ _=_;rw[Qh _ _ (by intro e;cases e;exact hj' rfl),Qh _ _ (by intro e;cases e;exact hj rfl)]
 have vd:∀j,V1 (.dep j)=V (.dep j):=λ j=>by show Q2 _ _ _ _=_;rw[Qh _ _ (by simp),Qh _ _ (by simp)]
 have vm:V1 .lck=V .lck:=by show Q2 _ _ _ _=_;rw[Qh _ _ (by simp),Qh _ _ (by simp)]
 have hvi:VI V1 w:=h.vi.fork hf (λ e=>hc0 (Hd.run.inj e).symm)
 have hW:∀k l,(V1 k).canW l->(V k).canW l\/(k=.run gs.size/\(V (.run 0)).canW l):=by
  intro k l hl;cases k with
  |run j=>
   by_cases e:j=0
   .subst e;rw[v0]at hl;exact .inl (hf.wp l hl)
   .by_cases e2:j=gs.size
    .subst e2;rw[vc]at hl;exact .inr ⟨rfl,hf.wc l hl⟩
    .rw[v2 j e e2]at hl;exact .inl hl
  |dep j=>rw[vd]at hl;exact .inl hl
  |lck=>rw[vm]at hl;exact .inl hl
 have hR:∀k l,(V1 k).canR l->(V k).canR l\/(k=.run gs.size/\(V (.run 0)).canR l):=by
  intro k l hl;cases k with
  |run j=>
   by_cases e:j=0
   .subst e;rw[v0]at hl;exact .inl (hf.rp l hl)
   .by_cases e2:j=gs.size
    .subst e2;rw[vc]at hl;exact .inr ⟨rfl,hf.rc l hl⟩
    .rw[v2 j e e2]at hl;exact .inl hl
  |dep j=>rw[vd]at hl;exact .inl hl
  |lck=>rw[vm]at hl;exact .inl hl
 let y:MemOp:={ g:=0,fn:=g.frame.fn,pos:=g.frame.place,act:=.go gs.size }
 let z:MemOp:={ g:=gs.size,fn:=cg.frame.fn,pos:=g.frame.place,act:=.start }
 have hops:((MemOp.ofEvents 0 g.frame.fn g.frame.place #[]).push y).push z=#[y,z]:=by rw[ofEvents_eq];simp
 have hDf:∀j,Deaf (tr++#[y,z]) j=Deaf tr j:=by
  intro j;have e:tr++#[y,z]=(tr++#[y])++#[z]:=by apply Array.ext';simp
  rw[e,Deaf_push,Deaf_push];rfl
 have hrun':=hJ.running hStop;refine⟨_,_,_,V1,Zr (Zr rk 0 (some r_1)) gs.size (some r_2),rel,q,runT_crowd_spawn hi hst',?_,?_,.refl _,rfl⟩
 .show MI P t N Stop none ((gs.setIfInBounds 0 g').push cg) w (tr++((MemOp.ofEvents 0 g.frame.fn g.frame.place #[]).push y).push z) V1 _ rel q;rw[hops]
  have hat:∀j x,((gs.setIfInBounds 0 g').push cg)[j]?=some x->(j=0/\x=g')\/(j=gs.size/\x=cg)\/(j≠0/\j≠gs.size/\gs[j]?=some x):=by
   intro j x hx;rw[Array.getElem?_push]at hx;simp only[Array.size_setIfInBounds]at hx;split at hx
   .rename_i e;subst e;cases hx;exact .inr (.inl ⟨rfl,rfl⟩)
   .rename_i e;by_cases e0:j=0
    .subst e0;simp[hlt]at hx;exact .inl ⟨rfl,hx.symm⟩
    .rw[Array.getElem?_setIfInBounds_ne (Ne.symm e0)]at hx;exact .inr (.inr ⟨e0,e,hx⟩)
  have hat0:((gs.setIfInBounds 0 g').push cg)[0]?=some g':=by
   rw[Array.getElem?_push];simp[hlt,Ne.symm hc0]
  have hatc:((gs.setIfInBounds 0 g').push cg)[gs.size]?=some cg:=by
   rw[Array.getElem?_push];simp
  have hatj:∀j,j≠0->j≠gs.size->((gs.setIfInBounds 0 g').push cg)[j]?=gs[j]?:=by
   intro j h0 h1;rw[Array.getElem?_push];simp only[Array.size_setIfInBounds,if_neg h1];exact Array.getElem?_setIfInBounds_ne (Ne.symm h0)
  have hrk:∀j,j≠0->j≠gs.size->Zr (Zr rk 0 (some r_1)) gs.size (some r_2) j=rk j:=λ j h0 h1=>by rw[Qu _ _ h1,Qu _ _ h0]
  have hrk0:Zr (Zr rk 0 (some r_1)) gs.size (some r_2) 0=some r_1:=by rw[Qu _ _ (Ne.symm hc0),Qk]
  have hrkc:Zr (Zr rk 0 (some r_1)) gs.size (some r_2) gs.size=some r_2:=Qk ..;refine⟨?_,by rw[hrk0];simp,?_,?_,?_,?_,?_,?_,?_,λ j hj=>by rw[vd];exact h.deps j hj,hvi,?_,?_,?_,?_⟩
  .intro j r'' _ hr'';by_cases e0:j=0
   .subst e0;rw[hrk0]at hr'';cases hr'';exact⟨g',by rw[v0];exact hJ,.inl hat0⟩
   .by_cases e1:j=gs.size
    .subst e1;rw[hrkc]at hr'';cases hr'';exact⟨cg,by rw[vc,show(gs.size==0)=false by simpa using hc0];exact hJ',.inl hatc⟩
    .rw[hrk j e0 e1]at hr'';obtain⟨x,k1,k2⟩:=h.live j r'' (λ e'=>e0 (Option.some.inj e').symm) hr'';refine⟨x,by rw[v2 j e0 e1];exact k1,?_⟩;rw[v2 j e0 e1,hatj j e0 e1];exact k2
  .intro j x hj hx hp';have e0:j≠0:=λ e=>by subst e;rw[hrk0]at hj;cases hj
   have e1:j≠gs.size:=λ e=>by subst e;rw[hrkc]at hj;cases hj
   rw[hrk j e0 e1]at hj;rw[hatj j e0 e1]at hx;rw[v2 j e0 e1]at hp';rw[hDf];exact h.gone j x hj hx hp'
  .intro j hj hp';have e0:j≠0:=λ e=>by subst e;rw[hrk0]at hj;cases hj
   have e1:j≠gs.size:=λ e=>by subst e;rw[hrkc]at hj;cases hj
   rw[hrk j e0 e1]at hj;rw[v2 j e0 e1]at hp';obtain⟨x,b',k1,k2,k3⟩:=h.tail j hj hp';refine⟨x,b',by rw[hatj j e0 e1];exact k1,?_,by rw[hDf,v2 j e0 e1];exact k3⟩;rw[v0,hp];rw[htok]at k2;exact k2
  .intro j hj;simp at hj;rw[hrk j (by omega) (by omega),hDf];exact h.above j (by omega)
  .intro j hj;have e0:j≠0:=λ e=>by subst e;rw[hrk0]at hj;cases hj
   have e1:j≠gs.size:=λ e=>by subst e;rw[hrkc]at hj;cases hj
   rw[hrk j e0 e1]at hj;rw[v2 j e0 e1];exact h.bare j hj
  .intro j h0 hj;by_cases e1:j=gs.size
   .subst e1;rw[vc,hc];exact⟨b,D,rfl⟩
   .rw[hrk j h0 e1]at hj;rw[v2 j h0 e1];exact h.wk j h0 hj
  .intro j hj;by_cases e0:j=0
   .subst e0;rw[hrk0];simp
   .by_cases e1:j=gs.size
    .subst e1;rw[hrkc];simp
    .rw[v2 j e0 e1]at hj;rw[hrk j e0 e1];exact h.wk' j hj
  .intro j hj;rw[hDf];by_cases e0:j=0
   .subst e0;rw[v0,hp,hd0]
   .by_cases e1:j=gs.size
    .subst e1;rw[vc,hc,ab2]
    .rw[hrk j e0 e1]at hj;rw[v2 j e0 e1];exact h.deaf j hj
  .obtain⟨rm,hti⟩:=h.ti;rw[htok]at hti
   have hmb:Jz V1=Jz V:=by
    unfold Jz Q3;rw[v0,hp,htok];rcases hmu with⟨rfl,_⟩|⟨x,u,s,rfl,_,rfl,_⟩ <;> rfl
   refine⟨rm,?_⟩;rw[hmb,v0,hp];refine hti.fork (y:=y) (z:=z) (c:=gs.size) rfl rfl rfl rfl hd0 ab2 hc0 ?_ ?_ hW hR
   .rintro j (rfl|hj)
    .exact .inl (.inl rfl)
    .by_cases e0:j=0
     .exact .inl (.inl e0)
     .by_cases e1:j=gs.size
      .exact .inr ⟨e1,.inl rfl⟩
      .rw[v2 j e0 e1]at hj;exact .inl (.inr hj)
   .intro j hj;by_cases e0:j=0
    .subst e0;rw[htok]at hj;obtain⟨_,_,e⟩:=hj;cases e
    .by_cases e1:j=gs.size
     .subst e1;rw[hcout]at hj;obtain⟨_,_,e⟩:=hj;cases e
     .rw[v2 j e0 e1];exact hj
  .unfold Grp;rw[v0,hp]
   have hk':Z6 V1=Zr (Z6 V) gs.size (.wrk b D):=by
    funext j;by_cases e1:j=gs.size
    .subst e1;simp only[Z6,if_neg hc0,vc,hc,Qk]
    .rw[Qu _ _ e1];by_cases e0:j=0
     .simp[Z6,e0]
     .simp only[Z6,if_neg e0,v2 j e0 e1]
   refine⟨λ j a ha ho hrd=>?_,gs.size::W,c,wt,s,hsh,?_,λ x hx hns=>?_⟩
   .rcases hR _ _ hrd with k1|⟨_,k1⟩
    .exact hoff _ a ha ho k1
    .exact hoff _ a ha ho k1
   .rw[hk'];simp only[vd];exact hgi.go htkc ab3 hcW
   .rw[hat0]at hx;cases hx;exact absurd hrun' hns
  .have hk0:Q3 V 0=mu:=by unfold Q3;rw[htok]
   have hk0':Q3 V1 0=mu':=by unfold Q3;rw[v0,hp]
   have hkc:Q3 V1 gs.size=mc:=by unfold Q3;rw[vc,hc]
   have hkc':Q3 V gs.size=none:=h.bareM _ ab1;have hkj:∀j,j≠0->j≠gs.size->Q3 V1 j=Q3 V j:=λ j e0 e1=>by unfold Q3;rw[v2 j e0 e1]
   have hoff':∀m,(∀j,Off m (V j))->∀j,Off m (V1 j):=λ m hm j a ha ho hrd=>by
    rcases hR _ _ hrd with h1|⟨_,h1⟩
    .exact hm _ a ha ho h1
    .exact hm _ a ha ho h1
   obtain⟨g1,g2,g3⟩:=h.mux;rw[hk0]at g3;refine⟨λ j x u hj e=>?_,by rw[vm];exact g2,?_⟩
   .by_cases e1:j=gs.size
    .subst e1;rw[hkc]at e;rcases hmu with⟨_,rfl⟩|⟨x,u,s,_,_,_,rfl⟩ <;> cases e
    .rw[hkj j hj e1]at e;exact g1 j x u hj e
   .rw[hk0'];rcases hmu with⟨rfl,rfl⟩|⟨x,u,s,rfl,hus,rfl,rfl⟩
    .have hk:∀j,Q3 V1 j=Q3 V j:=by
      intro j;by_cases e0:j=0
      .subst e0;rw[hk0,hk0']
      .by_cases e1:j=gs.size
       .subst e1;rw[hkc,hkc']
       .exact hkj j e0 e1
     cases mu' with
     |none=>exact⟨λ j=>by rw[hk];exact g3.1 j,by rw[vm];exact g3.2⟩
     |some m0=>
      cases m0 with
      |lok=>exact g3
      |par x u=>
       obtain⟨g4,lp,st,sm,g5⟩:=g3;refine⟨hoff' _ g4,lp,st,sm,g5.at hk vm g5.sh λ j x' s me lo y e hy hns=>?_⟩;rcases hat j y hy with⟨rfl,rfl⟩|⟨rfl,rfl⟩|⟨_,_,hz⟩
       .exact absurd hrun' hns
       .rw[hkc']at e;cases e
       .exact⟨y,hz,hns⟩
    .obtain⟨g4,lp,st,sm,g5⟩:=g3;refine⟨hoff' _ g4,lp,st,sm,g5.sh,g5.word,λ j x' s' me lo e=>?_,λ j k s' x_1 m_1 l₁ x_2 m_2 l₂ e e'=>?_,λ s' hs'=>?_,λ s' hs'=>?_,λ e=>by rw[vm];exact g5.dep e,λ e=>by rw[vm];exact g5.dep' e,λ j x' s' me lo y e hy hns=>?_⟩
     .by_cases e0:j=0
      .subst e0;rw[hk0']at e;cases e
      .by_cases e1:j=gs.size
       .subst e1;rw[hkc]at e;cases e;exact⟨rfl,(g5.idle _ hus).symm,Nat.zero_le _,Wa ..⟩
       .rw[hkj j e0 e1]at e;obtain⟨a1,a2,a3,a4⟩:=g5.tk j x' s' me lo e;refine⟨a1,a2,a3,?_⟩;by_cases es:s'=s
        .subst es;rw[Wa]
        .rw[Qb8 _ _ es];exact a4
     .have key:∀j x_1 m_1 l₁,Q3 V1 j=some (.lok x_1 s' m_1 l₁)->(j=gs.size/\s'=s)\/(Q3 V j=some (.lok x_1 s' m_1 l₁)/\s'≠s):=by
       intro j x_1 m_1 l₁ e;by_cases e0:j=0
       .subst e0;rw[hk0']at e;cases e
       .by_cases e1:j=gs.size
        .subst e1;rw[hkc]at e;cases e;exact .inl ⟨rfl,rfl⟩
        .rw[hkj j e0 e1]at e;refine .inr ⟨e,λ es=>?_⟩;have:=(g5.tk j _ _ _ _ e).2.2.2;rw[es,hus]at this;cases this
      rcases key j _ _ _ e with⟨a1,a2⟩|⟨a1,a2⟩
      .rcases key k _ _ _ e' with⟨b1,b2⟩|⟨b1,b2⟩
       .rw[a1,b1]
       .exact absurd a2 b2
      .rcases key k _ _ _ e' with⟨b1,b2⟩|⟨b1,b2⟩
       .exact absurd b2 a2
       .exact g5.one j k s' _ _ _ _ _ _ a1 b1
     .by_cases es:s'=s
      .subst es;exact .inr ⟨gs.size,.idle,0,hkc⟩
      .rw[Qb8 _ _ es]at hs';rcases g5.who s' hs' with h1|⟨j,me,lo,e⟩
       .exact .inl h1
       .refine .inr ⟨j,me,lo,?_⟩;by_cases e0:j=0
        .subst e0;rw[hk0]at e;cases e
        .by_cases e1:j=gs.size
         .subst e1;rw[hkc']at e;cases e
         .rw[hkj j e0 e1];exact e
     .by_cases es:s'=s
      .subst es;rw[Wa]at hs';cases hs'
      .rw[Qb8 _ _ es]at hs';exact g5.idle s' hs'
     .by_cases e1:j=gs.size
      .subst e1;rw[hatc]at hy;cases hy;exact absurd (hJ'.running hStop) hns
      .by_cases e0:j=0
       .subst e0;rw[hat0]at hy;cases hy;exact absurd hrun' hns
       .rw[hkj j e0 e1]at e;rw[hatj j e0 e1]at hy;exact g5.slp j x' s' me lo y e hy hns
  .intro j hj;have e0:j≠0:=λ e=>by subst e;rw[hrk0]at hj;cases hj
   have e1:j≠gs.size:=λ e=>by subst e;rw[hrkc]at hj;cases hj
   rw[hrk j e0 e1]at hj;unfold Q3;rw[v2 j e0 e1];exact h.bareM j hj
 .show Qbp (meas ((gs.setIfInBounds 0 g').push cg) _ q) (meas gs rk q);unfold meas;have e:((gs.setIfInBounds 0 g').push cg).size=gs.size+1:=by simp
  rw[e];exact Qbp.cut (Zpx hlt hr h1 h2)
end
def LP.word_own{q:LP}{z:Nat×Nat}(h:LP.word .got q=some z):LP.word (.own q.rels) q=some z/\q.isOwn=false:=by
 cases q <;> simp_all[LP.word,LP.rels,LP.isOwn]
def LP.word_rls{v:Bool}{q:LP}{z:Nat×Nat}(h:LP.word (.own v) q=some z):LP.word .rls q=some z/\v=q.rels/\q.isOwn=false:=by
 cases q <;> cases v <;> simp_all[LP.word,LP.rels,LP.isOwn]
section
variable{P:Program}{t:TypeId}{N:Nat}{Stop:Stp Tk}{gs:Array Goroutine}{w:World}{tr:Trace}{V V':Hd->Qa Tk}{rk:Nat->Option Tr}{rel:Nat->Option Nat}{q:Nat->Nat}{sl:Option (Nat×Nat)}
def MI.inGrp{ex:Option Nat}(h:MI P t N Stop ex gs w tr V rk rel q){i b:Nat}{D:Spec}(hi0:i≠0)(hp:(V (.run i)).tok.ph=.wrk b D) :
  ∃ds pend k,(V (.run 0)).tok.ph=.par b ds pend k/\(∀j,Off b (V j))/\∃W c wt s,Sh b t (Q1 c wt) (Qp s) w/\GI N b ds pend k (Z6 V) rel (λ i=>(V (.dep i)).M) W c wt s/\(∀g,gs[0]?=some g->g.status≠.running->s=0):=by
 have htk:Z6 V i=.wrk b D:=by simp[Z6,hi0,hp]
 have hG:=h.grp;unfold Grp at hG;cases hph:(V (.run 0)).tok.ph with
 |out=>rw[hph]at hG;have:=hG.1 i hi0;rw[hp]at this;cases this
 |wrk _ _=>rw[hph]at hG;exact hG.elim
 |rel _=>rw[hph]at hG;exact hG.elim
 |lst _ _=>rw[hph]at hG;exact hG.elim
 |par b' ds pend k=>
  rw[hph]at hG;obtain⟨hoff,W,c,wt,s,hsh,hgi,hb4⟩:=hG
  have hbb:b'=b:=by
   rcases hgi.ph i with e'|⟨D',e'⟩|e'|⟨j,e'⟩ <;> rw[htk]at e' <;> cases e';rfl
  subst hbb;exact⟨ds,pend,k,rfl,hoff,W,c,wt,s,hsh,hgi,hb4⟩
def MI.lock{ex:Option Nat}(h:MI P t N Stop ex gs w tr V rk rel q){i:Nat}{x:Mux}{s:Bool}{me:LP}{lo:Nat}(hk:Q3 V i=some (.lok x s me lo)) :
  ∃u lp st sm,Q3 V 0=some (.par x u)/\(∀j,Off x.m (V j))/\MuX gs w V x u lp st sm/\me=lp s/\lo<=(lp (!s)).cls/\u s=true:=by
 obtain⟨-,-,g3⟩:=h.mux;cases e:Q3 V 0 with
 |none=>rw[e]at g3;rw[g3.1 i]at hk;cases hk
 |some m0=>
  rw[e]at g3;cases m0 with
  |lok=>exact g3.elim
  |par x' u=>
   obtain⟨g4,lp,st,sm,g5⟩:=g3;obtain⟨rfl,a2,a3,a4⟩:=g5.tk i _ _ _ _ hk;exact⟨u,lp,st,sm,rfl,g4,g5,a2,a3,a4⟩
def MuX.turn{gs gs':Array Goroutine}{w w':World}{x:Mux}{u:Bool->Bool}{lp:Bool->LP}{st sm st' sm' i lo lo':Nat}{s:Bool}{me':LP}(h:MuX gs w V x u lp st sm)(hi:Q3 V i=some (.lok x s (lp s) lo))
  (hi':Q3 V' i=some (.lok x s me' lo')) (hne:∀j,j≠i->Q3 V' j=Q3 V j) (hsh:Sh x.m x.t (Ze st') (Qp sm') w') (hw:LP.word me' (lp (!s))=some (st',sm')) (hc:(lp s).cls<=me'.cls) (hlo:lo'<=(lp (!s)).cls)
  (hd:((Qd2 lp s me' false).isOwn|| (Qd2 lp s me' true).isOwn)=true->V' .lck=Qal) (hd':((Qd2 lp s me' false).isOwn|| (Qd2 lp s me' true).isOwn)=false->x.dep (Qd2 lp s me') (V' .lck).M)
  (hs:∀j x' s me lo g,Q3 V' j=some (.lok x' s me lo)->gs'[j]?=some g->g.status≠.running->sm'=0):MuX gs' w' V' x u (Qd2 lp s me') st' sm':=by
 have hus:=(h.tk i _ _ _ _ hi).2.2.2
 have other:∀j x' s' me lo,j≠i->Q3 V j=some (.lok x' s' me lo)->s'=!s:=by
  intro j x' s' me lo ej e;by_cases es:s'=s
  .subst es;exact absurd (h.one j i s' _ _ _ _ _ _ e hi) ej
  .cases s <;> cases s' <;> simp_all
 refine⟨hsh,?_,λ j x' s' me lo1 e=>?_,λ j k s' x_1 m_1 l₁ x_2 m_2 l₂ e e'=>?_,λ s' hs'=>?_,λ s' hs'=>?_,hd,hd',hs⟩
 .rw[Qcm _ s,Wa,Qms];exact hw
 .by_cases ej:j=i
  .subst ej;rw[hi']at e;cases e;refine⟨rfl,(Wa ..).symm,?_,hus⟩;rw[Qms];exact hlo
  .rw[hne j ej]at e;obtain⟨a1,a2,a3,a4⟩:=h.tk j _ _ _ _ e;have es:=other j _ _ _ _ ej e;subst es;refine⟨a1,by rw[Qms];exact a2,?_,a4⟩;rw[Bool.not_not]at a3 ⊢;rw[Wa];exact Nat.le_trans a3 hc
 .by_cases ej:j=i
  .subst ej;by_cases ek:k=j
   .exact ek.symm
   .rw[hi']at e;cases e;rw[hne k ek]at e';have:=other k _ _ _ _ ek e';cases s <;> cases this
  .rw[hne j ej]at e;by_cases ek:k=i
   .subst ek;rw[hi']at e';cases e';have:=other j _ _ _ _ ej e;cases s <;> cases this
   .rw[hne k ek]at e';exact h.one j k s' _ _ _ _ _ _ e e'
 .by_cases es:s'=s
  .subst es;exact .inr ⟨i,me',lo',hi'⟩
  .rw[Qb8 _ _ es];rcases h.who s' hs' with h1|⟨j,me,lo1,e⟩
   .exact .inl h1
   .refine .inr ⟨j,me,lo1,?_⟩
    have ej:j≠i:=λ ej=>by
     subst ej;rw[hi]at e;cases e;exact es rfl
    rw[hne j ej];exact e
 .by_cases es:s'=s
  .subst es;rw[hus]at hs';cases hs'
  .rw[Qb8 _ _ es];exact h.idle s' hs'
def Zjv(x:Mux)(lp:Bool->LP)(s:Bool)(me':LP)(M:List Qv)(h:me'.rels=(lp s).rels):x.dep (Qd2 lp s me') M↔x.dep lp M:=by
 have:∀b,(Qd2 lp s me' b).rels=(lp b).rels:=by
  intro b;by_cases e:b=s
  .subst e;rw[Wa];exact h
  .rw[Qb8 _ _ e]
 simp only[Mux.dep,this]
def Q6w(lp:Bool->LP)(s:Bool)(me':LP)(h:me'.isOwn=(lp s).isOwn):((Qd2 lp s me' false).isOwn|| (Qd2 lp s me' true).isOwn)=((lp false).isOwn|| (lp true).isOwn):=by
 have:∀b,(Qd2 lp s me' b).isOwn=(lp b).isOwn:=by
  intro b;by_cases e:b=s
  .subst e;rw[Wa];exact h
  .rw[Qb8 _ _ e]
 simp only[this]
def Zd7(lp:Bool->LP)(s:Bool):((lp false).isOwn|| (lp true).isOwn)=((lp s).isOwn|| (lp (!s)).isOwn):=by
 cases s
 .rfl
 .exact Bool.or_comm _ _
def MI.mu(hStop:∀m g U,Stop m g U->g.status=.running){i:Nat}{g g':Goroutine}{r r':Tr}{d d' b:Nat}{D:Spec}{x:Mux}{s:Bool}{me':LP}{lo lo' st sm st' sm':Nat}{es:Array Event}{bs:List (Nat×Bool)}{u:Bool->Bool}{lp:Bool->LP}(hlo':lo'<=(lp (!s)).cls)
  (h:MI P t N Stop (some i) gs w tr V rk rel q) (hi:gs[i]?=some g) (hr:rk i=some r) (hi0:i≠0) (htok:(V (.run i)).tok=⟨d,.wrk b D,some (.lok x s (lp s) lo)⟩)
  (h0:Q3 V 0=some (.par x u)) (hoff:∀j,Off x.m (V j)) (hx:MuX gs w V x u lp st sm)
  (hst:Qc P x.t false g (Ze st) (Qp sm)=.go g' (Ze st') (Qp sm') es bs) (hbs:Jb x.m bs) (hw:LP.word me' (lp (!s))=some (st',sm')) (hcls:(lp s).cls<=me'.cls) (hrel:me'.rels=(lp s).rels) (hown:me'.isOwn=(lp s).isOwn)
  (hes:∀e∈es,Zf6 x.m e) (hd:deafBehind d es=d') (hwk:sm'=sm\/sm'=0\/mayWake P g=true) (hsub:Tr.Sub r' r) (hJ:JR (Zb P t N) Stop r' false g' ((V (.run i)).lk d' b D x s me' lo')) :
  Nxt P t N Stop gs w sl tr rk q i:=by
 have hlt:=(Array.getElem?_eq_some_iff.1 hi).1;have hri:rk i≠none:=by rw[hr];simp
 have hrun:=hJ.running hStop;have hsh:=hx.sh;have hmk:Q3 V i=some (.lok x s (lp s) lo):=by unfold Q3;rw[htok]
 obtain⟨ds,pend,k,hph,hoffb,W,c,wt,s_0,hshb,hgi,hb4⟩:=h.inGrp hi0 (b:=b) (D:=D) (by rw[htok])
 have hst':stepG P (i==0) g w=.go g' (two w x.m x.t (Ze st') (Qp sm')) es:=by
  rw[show(i==0)=false by simpa using hi0];exact Qcl hst hsh hbs
 have hbm:b≠x.m:=λ e=>hshb.ne hsh e.symm;generalize hU:(V (.run i)).lk d' b D x s me' lo'=U' at hJ;have hne:∀j,j≠i->Q2 V (.run i) U' (.run j)=V (.run j):=λ j hj=>Qh _ _ (by intro e;cases e;exact hj rfl);have hdp:∀j,Q2 V (.run i) U' (.dep j)=V (.dep j):=λ j=>Qh _ _ (by simp);have hmu:Q2 V (.run i) U' .lck=V .lck:=Qh _ _ (by simp)
 have hM:∀j,(Q2 V (.run i) U' j).canW=(V j).canW/\(Q2 V (.run i) U' j).canR=(V j).canR:=by
  intro j;by_cases e:j=.run i
  .subst e;rw[Ql,<- hU];exact⟨rfl,rfl⟩
  .rw[Qh _ _ e];exact⟨rfl,rfl⟩
 have hph':∀j,(Q2 V (.run i) U' (.run j)).tok.ph=(V (.run j)).tok.ph:=by
  intro j;by_cases e:j=i
  .subst e;rw[Ql,<- hU,htok];rfl
  .rw[hne j e]
 have hml:x.m<w.heap.size:=(Array.getElem?_eq_some_iff.1 hsh).1;have hwk':=h.wk i hi0 hri;have hmb:Jz V=some x.m:=by unfold Jz;rw[h0];rfl
 refine⟨_,_,_,Q2 V (.run i) U',Zr rk i (some r'),rel,q,runT_crowd_go hi hst',?_,Qas Jo hlt hr λ r'' e=>by cases e;exact hsub,.refl _,rfl⟩;refine h.go hStop (rel':=rel) (q':=q) (es:=es) hi hne (λ j hj=>Qu _ _ hj) (λ _ _=>rfl) (λ _ _=>.inl rfl) (by rw[Qu _ _ (Ne.symm hi0)];exact h.root) (.inl hi0) ?_ ?_ (λ j hj=>by rw[hdp];exact h.deps j hj) ?_ ?_ ?_ ?_ (λ e=>by rw[Qk]at e;cases e)
 .intro r'' e;rw[Qk]at e;cases e;rw[Ql];refine⟨by rw[show(i==0)=false by simpa using hi0];exact hJ,?_,λ _=>by rw[<- hU];exact⟨b,D,rfl⟩⟩;rw[h.deaf i hri,htok,<- hU];exact hd
 .intro e;rw[Qk]at e;cases e
 .refine⟨λ j=>?_,λ k_1 k_2 l hn hw hr=>h.vi.sep k_1 k_2 l hn (by rw[<- (hM k_1).1];exact hw) (by rw[<- (hM k_2).2];exact hr)⟩;have hv:=(h.vi.two (st':=Ze st') (sm':=Qp sm') hsh hoff).ok;by_cases e:j=.run i
  .subst e;rw[Ql,<- hU];exact⟨(hv (.run i)).imm,(hv (.run i)).held,(hv (.run i)).apart,(hv (.run i)).sep⟩
  .rw[Qh _ _ e];exact hv j
 .obtain⟨rm,hti⟩:=h.ti;rw[hmb]at hti;have:=Zt3 (i:=i) (fn:=g.frame.fn) (pos:=g.frame.place) hti hml hoff (.inr (by rw[htok];simp)) hes (by rw[hph];intro e;exact hbm (Option.some.inj e)) hwk';refine⟨rm,?_⟩;have e0:Jz (Q2 V (.run i) U')=some x.m:=by unfold Jz Q3;rw[hne 0 (Ne.symm hi0)];exact hmb
  rw[e0];simp only[hph'];have hsz:(two w x.m x.t (Ze st') (Qp sm')).heap.size=w.heap.size:=by simp[two]
  rw[hsz];exact this.turn (λ k l hl=>by rw[<- (hM k).1];exact hl) (λ k l hl=>by rw[<- (hM k).2];exact hl) (λ _ x=>x)
 .unfold Grp;rw[hph' 0,hph];have hk:Z6 (Q2 V (.run i) U')=Z6 V:=by funext j;simp only[Z6,hph']
  refine⟨λ j a ha ho hr=>hoffb j a ha ho (by rw[<- (hM j).2];exact hr),W,c,wt,s_0,hshb.two_other hbm,?_,Grp.woken hi (λ e=>absurd e hi0) hb4⟩;rw[hk];simpa only[hdp]using hgi
 .have hmi:Q3 (Q2 V (.run i) U') i=some (.lok x s me' lo'):=by unfold Q3;rw[Ql,<- hU];rfl
  have hmj:∀j,j≠i->Q3 (Q2 V (.run i) U') j=Q3 V j:=λ j hj=>by unfold Q3;rw[hne j hj]
  obtain⟨g1,g2,-⟩:=h.mux;refine⟨λ j x u hj e=>?_,by rw[hmu];exact g2,?_⟩
  .by_cases ej:j=i
   .subst ej;rw[hmi]at e;cases e
   .rw[hmj j ej]at e;exact g1 j x u hj e
  rw[hmj 0 (Ne.symm hi0),h0];refine⟨λ j a ha ho hr=>hoff j a ha ho (by rw[<- (hM j).2];exact hr),Qd2 lp s me',st',sm',hx.turn hmk hmi hmj hsh.two hw hcls hlo' ?_ ?_ ?_⟩
  .rw[Q6w _ _ _ hown,hmu];exact hx.dep
  .rw[Q6w _ _ _ hown,hmu,Zjv _ _ _ _ _ hrel];exact hx.dep'
  .intro j x' s' me lo1 y e hy hns
   have ej:j≠i:=λ ej=>by
    subst ej;rw[Wm hi]at hy;cases hy;exact hns hrun
   rw[hmj j ej]at e;rw[J7 ej]at hy;obtain⟨z,hz,rfl⟩:=Option.map_eq_some_iff.1 hy;have hzn:z.status≠.running:=λ hr=>hns (by rw[Wh hr];exact hr);rcases hwk with rfl|rfl|hmw
   .exact hx.slp j _ _ _ _ z e hz hzn
   .rfl
   .exfalso;have hrj:rk j≠none:=λ hn=>by rw[h.bareM j hn]at e;cases e
    obtain⟨r_0,hr_0⟩:=Option.ne_none_iff_exists'.1 hrj;obtain⟨g_1,hJ_1,hg⟩:=h.live j r_0 (λ e'=>ej (Option.some.inj e').symm) hr_0;have hrun1:=hJ_1.running hStop;rcases hg with hg|⟨hg,ho,_⟩
    .rw[hz]at hg;cases hg;exact hzn hrun1
    .rw[hz]at hg;cases hg;refine hns ?_
     have:woken P g g' (two w x.m x.t (Ze st') (Qp sm')) { g_1 with status:=.blocked }=g_1:=by
      unfold woken;rw[if_pos,again_blocked hrun1 ho];rw[hrun,hmw];rfl
     rw[this];exact hrun1
def MI.mblk{i:Nat}{g:Goroutine}{r:Tr}{d b:Nat}{D:Spec}{x:Mux}{s:Bool}{lo st:Nat}{bs:List (Nat×Bool)}{u:Bool->Bool}{lp:Bool->LP}
  (h:MI P t N Stop (some i) gs w tr V rk rel q) (hi:gs[i]?=some g) (hrun:g.status=.running) (ho:g.offers=none) (hr:rk i=some r) (hi0:i≠0) (htok:(V (.run i)).tok=⟨d,.wrk b D,some (.lok x s .wai lo)⟩)
  (h0:Q3 V 0=some (.par x u)) (hoff:∀j,Off x.m (V j)) (hx:MuX gs w V x u lp st 0)
  (hst:Qc P x.t false g (Ze st) (Qp 0)=.blocked { g with status:=.blocked } (Ze st) (Qp 0) bs) (hbs:Jb x.m bs) (hJ:JR (Zb P t N) Stop r false g (V (.run i))):Nxt P t N Stop gs w sl tr rk q i:=by
 have hst':stepG P (i==0) g w=.go { g with status:=.blocked } w #[]:=by
  rw[show(i==0)=false by simpa using hi0];have:=Qjs hst hx.sh hbs
  rwa [hx.sh.two_same]at this
 have hat:∀j,j≠i->(gs.setIfInBounds i { g with status:=.blocked })[j]?=gs[j]?:=λ j hj=>Array.getElem?_setIfInBounds_ne (Ne.symm hj);refine h.sleep hi hrun ho hr (.inr ⟨d,b,D,x,s,lo,htok⟩) hst' (by rw[show(i==0)=false by simpa using hi0];exact hJ) ?_ ?_
 .have hG:=h.grp;unfold Grp at hG ⊢;rw[hat 0 (Ne.symm hi0)];exact hG
 .obtain⟨g1,g2,-⟩:=h.mux;refine⟨g1,g2,?_⟩;rw[h0];exact⟨hoff,lp,st,0,hx.sh,hx.word,hx.tk,hx.one,hx.who,hx.idle,hx.dep,hx.dep',λ _ _ _ _ _ _ _ _ _=>rfl⟩
def MI.macq(hStop:∀m g U,Stop m g U->g.status=.running){i:Nat}{g g':Goroutine}{r r':Tr}{b:Nat}{D:Spec}{x:Mux}{s:Bool}{lo st sm:Nat}{bs:List (Nat×Bool)}{u:Bool->Bool}{lp:Bool->LP}
  (h:MI P t N Stop (some i) gs w tr V rk rel q) (hi:gs[i]?=some g) (hr:rk i=some r) (hi0:i≠0) (htok:(V (.run i)).tok=⟨0,.wrk b D,some (.lok x s (lp s) lo)⟩) (hme:lp s=.got) (hlo:lo<=(lp (!s)).cls)
  (h0:Q3 V 0=some (.par x u)) (hoff:∀j,Off x.m (V j)) (hx:MuX gs w V x u lp st sm)
  (hst:∀st sm,Qc P x.t false g st sm=.go g' st sm #[Z5 (.acquire ⟨x.m,0,none⟩)] bs) (hbs:Jb x.m bs) (hsub:Tr.Sub r' r)
  (hJ:JR (Zb P t N) Stop r' false g' { (V (.run i))with M:=(V (.run i)).M++(V .lck).M,tok:=⟨0,.wrk b D,some (.lok x s (.own (lp (!s)).rels) lo)⟩ }):Nxt P t N Stop gs w sl tr rk q i:=by
 have hlt:=(Array.getElem?_eq_some_iff.1 hi).1;have hri:rk i≠none:=by rw[hr];simp
 have hrun:=hJ.running hStop;have hsh:=hx.sh;have hmk:Q3 V i=some (.lok x s (lp s) lo):=by unfold Q3;rw[htok]
 obtain⟨ds,pend,k,hph,hoffb,W,c,wt,s_0,hshb,hgi,hb4⟩:=h.inGrp hi0 (b:=b) (D:=D) (by rw[htok])
 have hst':stepG P (i==0) g w=.go g' w #[Z5 (.acquire ⟨x.m,0,none⟩)]:=by
  rw[show(i==0)=false by simpa using hi0];have:=Qcl (hst (Ze st) (Qp sm)) hsh hbs
  rwa [hsh.two_same]at this
 have hd0:Deaf tr i=0:=by rw[h.deaf i hri,htok]
 have hw:=hx.word;rw[Qcm _ s,hme]at hw;obtain⟨hw',hqo⟩:=LP.word_own hw
 let V0:Hd->Qa Tk:=Q2 (Q2 V (.run i) ((V (.run i)).with (V .lck).M)) .lck (Qa.bare ⟨0,.out,none⟩)
 have hv_0:VI V0 w:=h.vi.join (k:=.run i) (k':=.lck) (by simp) _
 let V1:Hd->Qa Tk:=Q2 V0 (.run i) { (V (.run i))with M:=(V (.run i)).M++(V .lck).M,tok:=⟨0,.wrk b D,some (.lok x s (.own (lp (!s)).rels) lo)⟩ }
 have v1:V1 (.run i)={ (V (.run i))with M:=(V (.run i)).M++(V .lck).M,tok:=⟨0,.wrk b D,some (.lok x s (.own (lp (!s)).rels) lo)⟩ }:=Ql ..;have z1:V0 (.run i)=(V (.run i)).with (V .lck).M:=by show Q2 _ _ _ _=_;rw[Qh _ _ (by simp),Ql]
 have v2:∀j,j≠i->V1 (.run j)=V (.run j):=λ j hj=>by show Q2 _ _ _ _=_;rw[Qh _ _ (by intro e;cases e;exact hj rfl)];show Q2 _ _ _ _=_;rw[Qh _ _ (by simp),Qh _ _ (by intro e;cases e;exact hj rfl)]
 have vd:∀j,V1 (.dep j)=V (.dep j):=λ j=>by show Q2 _ _ _ _=_;rw[Qh _ _ (by simp)];show Q2 _ _ _ _=_;rw[Qh _ _ (by simp),Qh _ _ (by simp)]
 have vm:V1 .lck=Qal:=by show Q2 _ _ _ _=_;rw[Qh _ _ (by simp)];exact Ql ..
 have hs:∀k,(V1 k).canW=(V0 k).canW/\(V1 k).canR=(V0 k).canR:=by
  intro k;by_cases e:k=.run i
  .subst e;rw[v1,z1];exact⟨rfl,rfl⟩
  .rw[show V1 k=_ from Qh _ _ e];exact⟨rfl,rfl⟩
 have hvi:VI V1 w:=by
  refine⟨λ k=>?_,λ k_1 k_2 l hn hw hr=>hv_0.sep k_1 k_2 l hn (by rw[<- (hs k_1).1];exact hw) (by rw[<- (hs k_2).2];exact hr)⟩;by_cases e:k=.run i
  .subst e;rw[v1];have:=hv_0.ok (.run i);rw[z1]at this;exact⟨this.imm,this.held,this.apart,this.sep⟩
  .rw[show V1 k=_ from Qh _ _ e];exact hv_0.ok k
 have hW:∀k l,(V1 k).canW l->k≠.lck/\((V k).canW l\/(k=.run i/\(V .lck).canW l)):=by
  intro k l hl;cases k with
  |run j=>
   refine⟨by simp,?_⟩;by_cases e:j=i
   .subst e;rw[(hs _).1,z1]at hl;exact(Qo6 (τ:=V .lck) hl).imp id λ h=>⟨rfl,h⟩
   .rw[v2 j e]at hl;exact .inl hl
  |dep j=>rw[vd]at hl;exact⟨by simp,.inl hl⟩
  |lck=>rw[vm]at hl;exact absurd hl (Wl _ _)
 have hR:∀k l,(V1 k).canR l->k≠.lck/\((V k).canR l\/(k=.run i/\(V .lck).canR l)):=by
  intro k l hl;cases k with
  |run j=>
   refine⟨by simp,?_⟩;by_cases e:j=i
   .subst e;rw[(hs _).2,z1]at hl;exact(Qo5 (τ:=V .lck) hl).imp id λ h=>⟨rfl,h⟩
   .rw[v2 j e]at hl;exact .inl hl
  |dep j=>rw[vd]at hl;exact⟨by simp,.inl hl⟩
  |lck=>rw[vm]at hl;exact absurd hl (Wk _ _)
 have hoff':∀m,(∀j,Off m (V j))->∀j,Off m (V1 j):=λ m hm j a ha ho hrd=>by
  rcases(hR _ _ hrd).2 with h1|⟨_,h1⟩
  .exact hm _ a ha ho h1
  .exact hm _ a ha ho h1
 have hph':∀j,(V1 (.run j)).tok.ph=(V (.run j)).tok.ph:=by
  intro j;by_cases e:j=i
  .subst e;rw[v1,htok]
  .rw[v2 j e]
 have hml:x.m<w.heap.size:=(Array.getElem?_eq_some_iff.1 hsh).1;have hwk':=h.wk i hi0 hri;have hmb:Jz V=some x.m:=by unfold Jz;rw[h0];rfl
 have e0:MemOp.ofEvents i g.frame.fn g.frame.place #[Z5 (.acquire ⟨x.m,0,none⟩)]=#[{ g:=i,fn:=g.frame.fn,pos:=g.frame.place,act:=.mark (.acquire ⟨x.m,0,none⟩) }]:=by
  rw[ofEvents_eq];simp[Z5,MemAct.ofEvent]
 refine⟨_,_,_,V1,Zr rk i (some r'),rel,q,runT_crowd_go hi hst',?_,Qas Jo hlt hr λ r'' e=>by cases e;exact hsub,.refl _,rfl⟩;refine h.go hStop (V':=V1) (rel':=rel) (q':=q) (es:=#[Z5 (.acquire ⟨x.m,0,none⟩)]) hi v2 (λ j hj=>Qu _ _ hj) (λ _ _=>rfl) (λ _ _=>.inl rfl) (by rw[Qu _ _ (Ne.symm hi0)];exact h.root) (.inl hi0) ?_ ?_ (λ j hj=>by rw[vd];exact h.deps j hj) hvi ?_ ?_ ?_ (λ e=>by rw[Qk]at e;cases e)
 .intro r'' e;rw[Qk]at e;cases e;rw[v1];refine⟨by rw[show(i==0)=false by simpa using hi0];exact hJ,?_,λ _=>⟨b,D,rfl⟩⟩;rw[hd0];rfl
 .intro e;rw[Qk]at e;cases e
 .obtain⟨rm,hti⟩:=h.ti;refine⟨rm,?_⟩;have e1:Jz V1=Jz V:=by unfold Jz Q3;rw[v2 0 (Ne.symm hi0)]
  rw[e1,e0];simp only[hph'];exact hti.macq (y:={ g:=i,fn:=g.frame.fn,pos:=g.frame.place,act:=.mark (.acquire ⟨x.m,0,none⟩) }) hmb rfl hml hd0 (.inr (by rw[htok];simp)) hW hR
 .unfold Grp;rw[hph' 0,hph];have hk:Z6 V1=Z6 V:=by funext j;simp only[Z6,hph']
  refine⟨hoff' _ hoffb,W,c,wt,s_0,hshb,?_,Grp.woken hi (λ e=>absurd e hi0) hb4⟩;rw[hk];simpa only[vd]using hgi
 .have hmi:Q3 V1 i=some (.lok x s (.own (lp (!s)).rels) lo):=by unfold Q3;rw[v1]
  have hmj:∀j,j≠i->Q3 V1 j=Q3 V j:=λ j hj=>by unfold Q3;rw[v2 j hj]
  obtain⟨g1,g2,-⟩:=h.mux;refine⟨λ j x u hj e=>?_,by rw[vm];rfl,?_⟩
  .by_cases ej:j=i
   .subst ej;rw[hmi]at e;cases e
   .rw[hmj j ej]at e;exact g1 j x u hj e
  rw[hmj 0 (Ne.symm hi0),h0];refine⟨hoff' _ hoff,Qd2 lp s (.own (lp (!s)).rels),st,sm,hx.turn hmk hmi hmj hsh hw' (by rw[hme];exact Nat.le_refl _) hlo (λ _=>vm) (λ e=>?_) ?_⟩
  .exfalso;rw[Zd7 _ s,Wa]at e;simp[LP.isOwn]at e
  .intro j x' s' me lo1 y e hy hns
   have ej:j≠i:=λ ej=>by
    subst ej;rw[Wm hi]at hy;cases hy;exact hns hrun
   rw[hmj j ej]at e;rw[J7 ej]at hy;obtain⟨z,hz,rfl⟩:=Option.map_eq_some_iff.1 hy;exact hx.slp j _ _ _ _ z e hz λ hr=>hns (by rw[Wh hr];exact hr)
def MI.mrel(hStop:∀m g U,Stop m g U->g.status=.running){i:Nat}{g g':Goroutine}{r r':Tr}{b:Nat}{D:Spec}{x:Mux}{s v:Bool}{lo st sm:Nat}{bs:List (Nat×Bool)}{u:Bool->Bool}{lp:Bool->LP}{M₁ M₂:List Qv}
  (h:MI P t N Stop (some i) gs w tr V rk rel q) (hi:gs[i]?=some g) (hr:rk i=some r) (hi0:i≠0) (htok:(V (.run i)).tok=⟨0,.wrk b D,some (.lok x s (lp s) lo)⟩) (hme:lp s=.own v) (hlo:lo<=(lp (!s)).cls)
  (h0:Q3 V 0=some (.par x u)) (hoff:∀j,Off x.m (V j)) (hx:MuX gs w V x u lp st sm) (hM:(V (.run i)).M=M₁++M₂) (hD:x.sp (if s then v else true) (if s then true else v) M₁)
  (hst:∀st sm,Qc P x.t false g st sm=.go g' st sm #[Z5 (.releaseMerge ⟨x.m,0,none⟩)] bs) (hbs:Jb x.m bs) (hsub:Tr.Sub r' r)
  (hJ:JR (Zb P t N) Stop r' false g' { (V (.run i))with M:=M₂,tok:=⟨0,.wrk b D,some (.lok x s .rls lo)⟩ }):Nxt P t N Stop gs w sl tr rk q i:=by
 have hlt:=(Array.getElem?_eq_some_iff.1 hi).1;have hri:rk i≠none:=by rw[hr];simp
 have hrun:=hJ.running hStop;have hsh:=hx.sh;have hmk:Q3 V i=some (.lok x s (lp s) lo):=by unfold Q3;rw[htok]
 obtain⟨ds,pend,k,hph,hoffb,W,c,wt,s_0,hshb,hgi,hb4⟩:=h.inGrp hi0 (b:=b) (D:=D) (by rw[htok])
 have hst':stepG P (i==0) g w=.go g' w #[Z5 (.releaseMerge ⟨x.m,0,none⟩)]:=by
  rw[show(i==0)=false by simpa using hi0];have:=Qcl (hst (Ze st) (Qp sm)) hsh hbs
  rwa [hsh.two_same]at this
 have hd0:Deaf tr i=0:=by rw[h.deaf i hri,htok]
 have hw:=hx.word;rw[Qcm _ s,hme]at hw;obtain⟨hw',hvq,hqo⟩:=LP.word_rls hw;have hf:=Qvp (tp:=(⟨0,.wrk b D,some (.lok x s .rls lo)⟩:Tk)) (tc:=(⟨0,.out,none⟩:Tk)) (h.vi.ok (.run i)) (M₁:=M₁) (M₂:=M₂) (by rw[hM])
 let V1:Hd->Qa Tk:=Q2 (Q2 V (.run i) ⟨(V (.run i)).I,M₂,⟨0,.wrk b D,some (.lok x s .rls lo)⟩⟩) .lck ⟨λ _=>none,M₁,⟨0,.out,none⟩⟩
 have hvi:VI V1 w:=h.vi.fork hf (by simp);have v1:V1 (.run i)=⟨(V (.run i)).I,M₂,⟨0,.wrk b D,some (.lok x s .rls lo)⟩⟩:=by show Q2 _ _ _ _=_;rw[Qh _ _ (by simp),Ql]
 have v2:∀j,j≠i->V1 (.run j)=V (.run j):=λ j hj=>by show Q2 _ _ _ _=_;rw[Qh _ _ (by simp),Qh _ _ (by intro e;cases e;exact hj rfl)]
 have vd:∀j,V1 (.dep j)=V (.dep j):=λ j=>by show Q2 _ _ _ _=_;rw[Qh _ _ (by simp),Qh _ _ (by simp)]
 have vm:V1 .lck=⟨λ _=>none,M₁,⟨0,.out,none⟩⟩:=Ql ..
 have hW:∀k l,(V1 k).canW l->((V k).canW l/\k≠.lck)\/(k=.lck/\(V (.run i)).canW l):=by
  intro k l hl;cases k with
  |run j=>
   by_cases e:j=i
   .subst e;rw[v1]at hl;exact .inl ⟨hf.wp l hl,by simp⟩
   .rw[v2 j e]at hl;exact .inl ⟨hl,by simp⟩
  |dep j=>rw[vd]at hl;exact .inl ⟨hl,by simp⟩
  |lck=>rw[vm]at hl;exact .inr ⟨rfl,hf.wc l hl⟩
 have hR:∀k l,(V1 k).canR l->((V k).canR l/\k≠.lck)\/(k=.lck/\(V (.run i)).canR l):=by
  intro k l hl;cases k with
  |run j=>
   by_cases e:j=i
   .subst e;rw[v1]at hl;exact .inl ⟨hf.rp l hl,by simp⟩
   .rw[v2 j e]at hl;exact .inl ⟨hl,by simp⟩
  |dep j=>rw[vd]at hl;exact .inl ⟨hl,by simp⟩
  |lck=>rw[vm]at hl;exact .inr ⟨rfl,hf.rc l hl⟩
 have hoff':∀m,(∀j,Off m (V j))->∀j,Off m (V1 j):=λ m hm j a ha ho hrd=>by
  rcases hR _ _ hrd with⟨h1,_⟩|⟨_,h1⟩
  .exact hm _ a ha ho h1
  .exact hm _ a ha ho h1
 have hph':∀j,(V1 (.run j)).tok.ph=(V (.run j)).tok.ph:=by
  intro j;by_cases e:j=i
  .subst e;rw[v1,htok]
  .rw[v2 j e]
 have hml:x.m<w.heap.size:=(Array.getElem?_eq_some_iff.1 hsh).1;have hwk':=h.wk i hi0 hri;have hmb:Jz V=some x.m:=by unfold Jz;rw[h0];rfl
 have e0:MemOp.ofEvents i g.frame.fn g.frame.place #[Z5 (.releaseMerge ⟨x.m,0,none⟩)]=#[{ g:=i,fn:=g.frame.fn,pos:=g.frame.place,act:=.mark (.releaseMerge ⟨x.m,0,none⟩) }]:=by
  rw[ofEvents_eq];simp[Z5,MemAct.ofEvent]
 refine⟨_,_,_,V1,Zr rk i (some r'),rel,q,runT_crowd_go hi hst',?_,Qas Jo hlt hr λ r'' e=>by cases e;exact hsub,.refl _,rfl⟩;refine h.go hStop (V':=V1) (rel':=rel) (q':=q) (es:=#[Z5 (.releaseMerge ⟨x.m,0,none⟩)]) hi v2 (λ j hj=>Qu _ _ hj) (λ _ _=>rfl) (λ _ _=>.inl rfl) (by rw[Qu _ _ (Ne.symm hi0)];exact h.root) (.inl hi0) ?_ ?_ (λ j hj=>by rw[vd];exact h.deps j hj) hvi ?_ ?_ ?_ (λ e=>by rw[Qk]at e;cases e)
 .intro r'' e;rw[Qk]at e;cases e;rw[v1];refine⟨by rw[show(i==0)=false by simpa using hi0];exact hJ,?_,λ _=>⟨b,D,rfl⟩⟩;rw[hd0];rfl
 .intro e;rw[Qk]at e;cases e
 .obtain⟨rm,hti⟩:=h.ti;refine⟨some tr.size,?_⟩;have e1:Jz V1=Jz V:=by unfold Jz Q3;rw[v2 0 (Ne.symm hi0)]
  rw[e1,e0];simp only[hph'];exact hti.mrel (y:={ g:=i,fn:=g.frame.fn,pos:=g.frame.place,act:=.mark (.releaseMerge ⟨x.m,0,none⟩) }) hmb rfl hml hd0 hwk' hW hR
 .unfold Grp;rw[hph' 0,hph];have hk:Z6 V1=Z6 V:=by funext j;simp only[Z6,hph']
  refine⟨hoff' _ hoffb,W,c,wt,s_0,hshb,?_,Grp.woken hi (λ e=>absurd e hi0) hb4⟩;rw[hk];simpa only[vd]using hgi
 .have hmi:Q3 V1 i=some (.lok x s .rls lo):=by unfold Q3;rw[v1]
  have hmj:∀j,j≠i->Q3 V1 j=Q3 V j:=λ j hj=>by unfold Q3;rw[v2 j hj]
  obtain⟨g1,g2,-⟩:=h.mux;refine⟨λ j x u hj e=>?_,by rw[vm],?_⟩
  .by_cases ej:j=i
   .subst ej;rw[hmi]at e;cases e
   .rw[hmj j ej]at e;exact g1 j x u hj e
  rw[hmj 0 (Ne.symm hi0),h0];refine⟨hoff' _ hoff,Qd2 lp s .rls,st,sm,hx.turn hmk hmi hmj hsh hw' (by rw[hme];exact Nat.le_refl _) hlo (λ e=>?_) (λ _=>?_) ?_⟩
  .exfalso;rw[Zd7 _ s,Wa,Qms,hqo]at e;simp[LP.isOwn]at e
  .rw[vm];unfold Mux.dep;cases s
   .rw[Wa,Qb8 _ _ (by simp)];rw[hvq]at hD;exact hD
   .rw[Wa,Qb8 _ _ (by simp)];rw[hvq]at hD;exact hD
  .intro j x' s' me lo1 y e hy hns
   have ej:j≠i:=λ ej=>by
    subst ej;rw[Wm hi]at hy;cases hy;exact hns hrun
   rw[hmj j ej]at e;rw[J7 ej]at hy;obtain⟨z,hz,rfl⟩:=Option.map_eq_some_iff.1 hy;exact hx.slp j _ _ _ _ z e hz λ hr=>hns (by rw[Wh hr];exact hr)
end
end Go.TM
