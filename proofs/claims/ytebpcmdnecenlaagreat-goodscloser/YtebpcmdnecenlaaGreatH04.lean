/- A part of the proof: lemmas that the last text uses. No conditions of its own. -/
import Derived.Conc.CrowdStepC
import Derived.Conc.JoinWorld
import Derived.Test.YtebpcmdnecenlaaGreatH03
set_option linter.unusedSimpArgs false
set_option linter.unusedVariables false
namespace Go.TM
open Go.Conc
def ranks (n:Nat) (rk:Nat->Option Tr):List Tr:=(List.range n).filterMap rk
theorem ranks_succ (n:Nat) (rk:Nat->Option Tr):ranks (n+1) rk=ranks n rk++(rk n).toList:=by
 simp only [ranks,List.range_succ,List.filterMap_append]
 cases h:rk n <;> simp [h]
theorem ranks_congr {n:Nat} {rk rk':Nat->Option Tr} (h:∀i,i<n->rk i=rk' i):ranks n rk=ranks n rk':=by
 induction n with
 | zero=>rfl
 | succ n ih=>rw [ranks_succ,ranks_succ,ih λ i hi=>h i (by omega),h n (by omega)]
theorem ranks_upd {n i:Nat} (rk:Nat->Option Tr) (x:Option Tr) (hi:i<n):(ranks n (updN rk i x)).Perm (x.toList++ranks n (updN rk i none)):=by
 induction n with
 | zero=>omega
 | succ n ih=>
  rw [ranks_succ,ranks_succ]
  by_cases e:i=n
  ·subst e
   rw [updN_same,updN_same,ranks_congr (rk:=updN rk i x) (rk':=updN rk i none) λ j hj=>by rw [updN_ne _ _ (by omega),updN_ne _ _ (by omega)]]
   simp only [Option.toList_none,List.append_nil]
   exact List.perm_append_comm
  ·rw [updN_ne _ _ (by omega),updN_ne _ _ (by omega)]
   have:=(ih (by omega)).append_right (rk n).toList
   rwa [List.append_assoc] at this
theorem ranks_of {n i:Nat} {rk:Nat->Option Tr} {r:Tr} (hi:i<n) (hr:rk i=some r):(ranks n rk).Perm (r::ranks n (updN rk i none)):=by
 have:=ranks_upd rk (some r) hi
 have e:updN rk i (some r)=rk:=by funext j;by_cases e:j=i <;> simp [updN,e,hr]
 rwa [e] at this
theorem cut_one {n i:Nat} {rk:Nat->Option Tr} {r:Tr} {x:Option Tr} (hi:i<n) (hr:rk i=some r) (hx:∀r',x=some r'->Tr.Sub r' r):Cut (ranks n (updN rk i x)) (ranks n rk):=
 ⟨r,ranks n (updN rk i none),x.toList,ranks_of hi hr,ranks_upd rk x hi,λ c hc=>hx c (by simpa [Option.mem_toList] using hc)⟩
theorem cut_two {n i:Nat} {rk:Nat->Option Tr} {r r_1 r_2:Tr} (hi:i<n) (hr:rk i=some r) (h1:Tr.Sub r_1 r) (h2:Tr.Sub r_2 r):Cut (ranks (n+1) (updN (updN rk i (some r_1)) n (some r_2))) (ranks n rk):=by
 refine⟨r,ranks n (updN rk i none),[r_2,r_1],ranks_of hi hr,?_,by simp [h1,h2]⟩
 rw [ranks_succ,updN_same,ranks_congr (rk:=updN (updN rk i (some r_1)) n (some r_2)) (rk':=updN rk i (some r_1)) λ j hj=>updN_ne _ _ (by omega)]
 have:=ranks_upd rk (some r_1) hi
 simp only [Option.toList_some] at this ⊢
 refine (List.perm_append_comm).trans ?_
 exact (this.cons r_2)
def isW (p:Ph):Prop:=∃b D,p=.wrk b D
def tkOf (V:Hd->View Tk) (i:Nat):Ph:=if i=0 then .out else (V (.run i)).tok.ph
def bare0:View Tk:=View.bare ⟨0,.out⟩
def Grp (t:TypeId) (N:Nat) (gs:Array Goroutine) (w:World) (V:Hd->View Tk) (rel:Nat->Option Nat):Prop:=
 match (V (.run 0)).tok.ph with
 | .out=>(∀i,i≠0->(V (.run i)).tok.ph=.out)/\∀i,rel i=none
 | .par b ds pend k=>(∀j,Off b (V j))/\∃W c wt s,Sh b t (stV c wt) (smV s) w/\GI N b ds pend k (tkOf V) rel (λ i=>(V (.dep i)).M) W c wt s/\(∀g,gs[0]?=some g->g.status≠.running->s=0)
 | _=>False
structure MI (P:Program) (t:TypeId) (N:Nat) (Stop:Stp Tk) (ex:Option Nat) (gs:Array Goroutine) (w:World) (tr:Trace) (V:Hd->View Tk) (rk:Nat->Option Tr) (rel:Nat->Option Nat) (q:Nat->Nat):Prop where
 live:∀i r,ex≠some i->rk i=some r->∃g,JR (SysG P t N) Stop r (i == 0) g (V (.run i)) /\
  (gs[i]?=some g\/(i=0/\gs[i]?=some { g with status:=.blocked }/\g.offers=none/\∃b ds,(V (.run 0)).tok=⟨1,.par b ds false .wait⟩))
 root:rk 0≠none
 gone:∀i g,rk i=none->gs[i]?=some g->(V (.run i)).tok.ph=.out->QuitsD P (q i) (Deaf tr i) g
 tail:∀i,rk i=none->(V (.run i)).tok.ph≠.out->∃g b,gs[i]?=some g/\(V (.run 0)).tok.ph.blk=some b/\Tl P t N b (q i) (Deaf tr i) (V (.run i)).tok.ph g
 above:∀i,gs.size<=i->rk i=none/\Deaf tr i=0/\rel i=none
 bare:∀i,rk i=none->(V (.run i)).I=(λ _=>none)/\(V (.run i)).M=[]
 wk:∀i,i≠0->rk i≠none->isW (V (.run i)).tok.ph
 wk':∀i,isW (V (.run i)).tok.ph->rk i≠none
 deaf:∀i,rk i≠none->Deaf tr i=(V (.run i)).tok.d
 deps:∀i,rel i=none->V (.dep i)=bare0
 vi:VI V w
 ti:TI (λ k=>(V k).canW) (λ k=>(V k).canR) rel (V (.run 0)).tok.ph.blk (λ i=>i=0\/(V (.run i)).tok.ph≠.out) (λ i=>isW (V (.run i)).tok.ph) w.heap.size tr
 grp:Grp t N gs w V rel
section
variable {P:Program} {t:TypeId} {N:Nat} {Stop:Stp Tk} {gs:Array Goroutine} {w:World} {tr:Trace} {V:Hd->View Tk} {rk:Nat->Option Tr} {rel:Nat->Option Nat} {q:Nat->Nat}
theorem JR.running (hStop:∀m g Z,Stop m g Z->g.status=.running):∀{r:Tr} {m:Bool} {g:Goroutine} {Z:View Tk},JR (SysG P t N) Stop r m g Z->g.status=.running:=by
 intro r
 induction r using Tr.sub_wf.induction with
 | _ r ih=>
  intro m g Z h
  obtain⟨Z1,_,h | h | h⟩:=h.step
  ·exact hStop _ _ _ h
  ·exact h.1
  ·have h:Syn P t N _ m g Z1:=h
   cases h with
   | make ht hM k=>obtain⟨r',hr',k⟩:=k;exact ih r' hr' k
   | quiet hs | dis hs | ena hs | add hs | said hs | look hs | sema hs | look2 hs | acq hs | go hs | lay hs=>exact hs
theorem woken_run' {g g' h:Goroutine} {w':World} (hs:h.status=.running):woken P g g' w' h=h:=by
 unfold woken
 split
 ·simp [Goroutine.again,hs]
 ·rfl
theorem woken_blk {g g' h:Goroutine} {w':World} (hs:h.status=.running) (ho:h.offers=none):woken P g g' w' { h with status:=.blocked }=h\/woken P g g' w' { h with status:=.blocked }={ h with status:=.blocked }:=by
 unfold woken
 split
 ·exact .inl (again_blocked hs ho w')
 ·exact .inr rfl
def behind (P:Program) (gs:Array Goroutine) (i:Nat) (g g':Goroutine) (w':World):Array Goroutine:=(gs.map (woken P g g' w')).setIfInBounds i g'
theorem behind_at {i:Nat} {g g':Goroutine} {w':World} (hi:gs[i]?=some g):(behind P gs i g g' w')[i]?=some g':=by
 have:=(Array.getElem?_eq_some_iff.1 hi).1
 simp [behind,this]
theorem behind_ne {i j:Nat} {g g':Goroutine} {w':World} (h:j≠i):(behind P gs i g g' w')[j]?=(gs[j]?).map (woken P g g' w'):=by
 simp only [behind]
 rw [Array.getElem?_setIfInBounds_ne (Ne.symm h),Array.getElem?_map]
theorem behind_size {i:Nat} {g g':Goroutine} {w':World}:(behind P gs i g g' w').size=gs.size:=by simp [behind]
theorem Tl.running {b:Nat}:∀{n d:Nat} {p:Ph} {g:Goroutine},Tl P t N b n d p g->g.status=.running
 | 0,_,_,_,h=>h.elim
 | _+1,_,_,_,h=>h.1
theorem MI.go {i:Nat} (h:MI P t N Stop (some i) gs w tr V rk rel q) (hStop:∀m g Z,Stop m g Z->g.status=.running) {g g':Goroutine} {w':World} {es:Array Event} {V':Hd->View Tk} {rk':Nat->Option Tr} {rel':Nat->Option Nat} {q':Nat->Nat}
  (hi:gs[i]?=some g) (hV:∀j,j≠i->V' (.run j)=V (.run j)) (hrk:∀j,j≠i->rk' j=rk j) (hq:∀j,j≠i->q' j=q j) (hrl:∀j,j≠i->rel' j=rel j\/rel' j=none) (hroot:rk' 0≠none)
  (hblk:i≠0\/(V' (.run 0)).tok.ph.blk=(V (.run 0)).tok.ph.blk\/∀j,j≠0->(V (.run j)).tok.ph=.out)
  (hlive:∀r,rk' i=some r->JR (SysG P t N) Stop r (i == 0) g' (V' (.run i))/\deafBehind (Deaf tr i) es=(V' (.run i)).tok.d/\(i≠0->isW (V' (.run i)).tok.ph))
  (hgone:rk' i=none->i≠0/\(V' (.run i)).I=(λ _=>none)/\(V' (.run i)).M=[]/\¬isW (V' (.run i)).tok.ph /\
   (((V' (.run i)).tok.ph=.out/\QuitsD P (q' i) (deafBehind (Deaf tr i) es) g')\/((V' (.run i)).tok.ph≠.out/\∃b,(V (.run 0)).tok.ph.blk=some b/\Tl P t N b (q' i) (deafBehind (Deaf tr i) es) (V' (.run i)).tok.ph g')))
  (hdeps:∀j,rel' j=none->V' (.dep j)=bare0) (hvi:VI V' w')
  (hti:TI (λ k=>(V' k).canW) (λ k=>(V' k).canR) rel' (V' (.run 0)).tok.ph.blk (λ i=>i=0\/(V' (.run i)).tok.ph≠.out) (λ i=>isW (V' (.run i)).tok.ph) w'.heap.size (tr++MemOp.ofEvents i g.frame.fn g.frame.place es))
  (hgrp:Grp t N (behind P gs i g g' w') w' V' rel') :
  MI P t N Stop none (behind P gs i g g' w') w' (tr++MemOp.ofEvents i g.frame.fn g.frame.place es) V' rk' rel' q':=by
 have hlt:=(Array.getElem?_eq_some_iff.1 hi).1
 have hD:∀j,j≠i->Deaf (tr++MemOp.ofEvents i g.frame.fn g.frame.place es) j=Deaf tr j:=by
  intro j hj
  refine Deaf_other tr (Ne.symm hj) _ ?_
  intro op hop
  obtain⟨e,_,rfl⟩:=Go.Conc.mem_ofEvents hop
  rfl
 have hDi:Deaf (tr++MemOp.ofEvents i g.frame.fn g.frame.place es) i=deafBehind (Deaf tr i) es:=Deaf_own ..
 refine⟨?_,hroot,?_,?_,?_,?_,?_,?_,?_,hdeps,hvi,hti,hgrp⟩
 ·intro j r _ hr
  by_cases e:j=i
  ·subst e
   exact⟨g',(hlive r hr).1,.inl (behind_at hi)⟩
  ·rw [hrk j e] at hr
   obtain⟨g_1,hJ,hg⟩:=h.live j r (λ e'=>e (Option.some.inj e').symm) hr
   have hrun:=hJ.running hStop
   rw [hV j e]
   refine⟨g_1,hJ,?_⟩
   rw [behind_ne e]
   rcases hg with hg | ⟨rfl,hg,ho,hb⟩
   ·exact .inl (by rw [hg,Option.map_some,woken_run' hrun])
   ·rw [hg,Option.map_some]
    rcases woken_blk (P:=P) (g:=g) (g':=g') (w':=w') hrun ho with e | e
    ·exact .inl (by rw [e])
    ·exact .inr ⟨rfl,by rw [e],ho,by rw [hV 0 ‹_›];exact hb⟩
 ·intro j x hr hx hp
  by_cases e:j=i
  ·subst e
   rw [behind_at hi] at hx
   cases hx
   rw [hDi]
   rcases (hgone hr).2.2.2.2 with⟨_,h1⟩ | ⟨h1,_⟩
   ·exact h1
   ·exact absurd hp h1
  ·rw [behind_ne e] at hx
   obtain⟨y,hy,rfl⟩:=Option.map_eq_some_iff.1 hx
   rw [hrk j e] at hr
   rw [hV j e] at hp
   have:=h.gone j y hr hy hp
   rw [woken_quitsD this,hD j e,hq j e]
   exact this
 ·intro j hr hp
  by_cases e:j=i
  ·subst e
   rcases (hgone hr).2.2.2.2 with⟨h1,_⟩ | ⟨_,b,hb,h1⟩
   ·exact absurd h1 hp
   ·refine⟨g',b,behind_at hi,?_,by rw [hDi];exact h1⟩
    rw [hV 0 (Ne.symm (hgone hr).1)];exact hb
  ·rw [hrk j e] at hr
   rw [hV j e] at hp
   obtain⟨y,b,hy,hb,ht⟩:=h.tail j hr hp
   refine⟨y,b,?_,?_,?_⟩
   ·rw [behind_ne e,hy,Option.map_some,woken_run' ht.running]
   ·by_cases e0:i=0
    ·subst e0
     rcases hblk with hblk | hblk | hblk
     ·exact absurd rfl hblk
     ·rw [hblk];exact hb
     ·exact absurd (hblk j e) hp
    ·rw [hV 0 (Ne.symm e0)];exact hb
   ·rw [hD j e,hq j e,hV j e];exact ht
 ·intro j hj
  rw [behind_size] at hj
  have e:j≠i:=by omega
  rw [hrk j e,hD j e]
  obtain⟨a1,a2,a3⟩:=h.above j hj
  exact⟨a1,a2,(hrl j e).elim (λ x=>x.trans a3) id⟩
 ·intro j hr
  by_cases e:j=i
  ·subst e;exact⟨(hgone hr).2.1,(hgone hr).2.2.1⟩
  ·rw [hV j e];rw [hrk j e] at hr;exact h.bare j hr
 ·intro j h0 hr
  by_cases e:j=i
  ·subst e
   obtain⟨r,hr'⟩:=Option.ne_none_iff_exists'.1 hr
   exact (hlive r hr').2.2 h0
  ·rw [hV j e];rw [hrk j e] at hr;exact h.wk j h0 hr
 ·intro j hw
  by_cases e:j=i
  ·subst e
   intro hr
   exact (hgone hr).2.2.2.1 hw
  ·rw [hV j e] at hw;rw [hrk j e];exact h.wk' j hw
 ·intro j hr
  by_cases e:j=i
  ·subst e
   obtain⟨r,hr'⟩:=Option.ne_none_iff_exists'.1 hr
   rw [hDi]
   exact (hlive r hr').2.1
  ·rw [hV j e,hD j e];rw [hrk j e] at hr;exact h.deaf j hr
end
def tot:Nat->(Nat->Nat)->Nat
 | 0,_=>0
 | n+1,f=>tot n f+f n
theorem tot_congr {f f':Nat->Nat}:∀{n:Nat},(∀j,j<n->f' j=f j)->tot n f'=tot n f
 | 0,_=>rfl
 | n+1,h=>by simp only [tot,tot_congr (n:=n) λ j hj=>h j (by omega),h n (by omega)]
theorem tot_lt {f f':Nat->Nat} {i:Nat}:∀{n:Nat},i<n->(∀j,j<n->j≠i->f' j=f j)->f' i<f i->tot n f'<tot n f
 | 0,hi,_,_=>by omega
 | n+1,hi,h,hl=>by
  by_cases e:i=n
  ·subst e
   simp only [tot]
   rw [tot_congr (n:=i) λ j hj=>h j (by omega) (by omega)]
   omega
  ·have:=tot_lt (n:=n) (by omega) (λ j hj hn=>h j (by omega) hn) hl
   simp only [tot,h n (by omega) (by omega)]
   omega
def left (rk:Nat->Option Tr) (q:Nat->Nat) (i:Nat):Nat:=if (rk i).isSome then 0 else q i
def wake1 (gs:Array Goroutine):Nat:=if (gs[0]?).any (·.status == .running) then 1 else 0
theorem wake1_le (gs:Array Goroutine):wake1 gs<=1:=by unfold wake1;split <;> omega
def meas (gs:Array Goroutine) (rk:Nat->Option Tr) (q:Nat->Nat):List Tr×Nat:=(ranks gs.size rk,2*tot gs.size (left rk q)+wake1 gs)
theorem meas_left {gs gs':Array Goroutine} {rk:Nat->Option Tr} {q q':Nat->Nat} {i:Nat} (hs:gs'.size=gs.size) (hi:i<gs.size) (hr:rk i=none) (hq:∀j,j≠i->q' j=q j) (hl:q' i<q i):Falls (meas gs' rk q') (meas gs rk q):=by
 unfold meas
 rw [hs]
 refine Falls.num ?_
 have:tot gs.size (left rk q')<tot gs.size (left rk q):=tot_lt hi (λ j _ hj=>by simp [left,hq j hj]) (by simp [left,hr,hl])
 have:=wake1_le gs'
 omega
section
variable {W R W' R':Hd->Loc->Prop} {rel:Nat->Option Nat} {blk:Option Nat} {act wk:Nat->Prop} {size size' i:Nat} {t:Trace} {fn:FuncId} {pos:String} {es:Array Event}
theorem TI.events (h:TI W R rel blk act wk size t) (hsz:size<=size') (hlow:∀e∈es,(MemAct.ofEvent e).low size') (hnr:∀e∈es,∀a,MemAct.ofEvent e≠.mark (.release a))
  (hcf:∀j a,touchAt t j=some a->∀e∈es,∀b,(MemAct.ofEvent e).touch?=some b->∀said,a.conflicts said b->Knows t i j)
  (hW:∀k l,W' k l->W k l\/(k=.run i/\Loc.newN size l)) (hR:∀k l,R' k l->R k l\/(k=.run i/\Loc.newN size l))
  (hoth:∀e∈es,∀a,(MemAct.ofEvent e).touch?=some a->∀k,k≠.run i->¬W k a.loc/\(a.write=true->¬R k a.loc))
  (hgp:∀e∈es,∀a,(MemAct.ofEvent e).touch?=some a->inBlk blk a.loc->a.kind≠.plain/\(a.kind=.said->i=0))
  (hhand:i=0\/wk i\/∀j,t.size<=j->¬(t++MemOp.ofEvents i fn pos es).counts j) :
  TI W' R' rel blk act wk size' (t++MemOp.ofEvents i fn pos es):=by
 refine h.step hsz ?_ ?_ ?_ ?_ hW hR ?_ ?_ hhand
 ·intro op hop;obtain⟨e,_,rfl⟩:=Go.Conc.mem_ofEvents hop;rfl
 ·intro op hop;obtain⟨e,he,rfl⟩:=Go.Conc.mem_ofEvents hop;exact hlow e he
 ·intro op hop;obtain⟨e,he,rfl⟩:=Go.Conc.mem_ofEvents hop;exact hnr e he
 ·intro j a ha op hop;obtain⟨e,he,rfl⟩:=Go.Conc.mem_ofEvents hop;exact hcf j a ha e he
 ·intro op hop;obtain⟨e,he,rfl⟩:=Go.Conc.mem_ofEvents hop;exact hoth e he
 ·intro op hop;obtain⟨e,he,rfl⟩:=Go.Conc.mem_ofEvents hop;exact hgp e he
def Dumb (e:Event):Prop:=(MemAct.ofEvent e).touch?=none/\(∀n,(MemAct.ofEvent e).low n)/\∀a,MemAct.ofEvent e≠.mark (.release a)
theorem dumb_mute {e:Event} (h:e.mute=true):Dumb e:=by
 obtain⟨loc,wr,sy⟩:=e
 cases loc <;> simp [Event.mute] at h
 rename_i m
 cases m <;> simp at h <;> exact⟨rfl,λ _=>trivial,λ _ h=>by cases h⟩
theorem TI.dumb (h:TI W R rel blk act wk size t) (he:∀e∈es,Dumb e):TI W R rel blk act wk size (t++MemOp.ofEvents i fn pos es):=by
 refine h.events (Nat.le_refl _) (λ e h=>(he e h).2.1 _) (λ e h=>(he e h).2.2) (λ j a _ e h b hb=>?_) (λ _ _=>.inl) (λ _ _=>.inl) (λ e h a ha=>?_) (λ e h a ha=>?_) ?_
 ·rw [(he e h).1] at hb;cases hb
 ·rw [(he e h).1] at ha;cases ha
 ·rw [(he e h).1] at ha;cases ha
 ·refine .inr (.inr λ j hj hc=>?_)
  obtain⟨x,hx,_⟩:=hc
  rcases touchAt_cases (t:=t) hx with⟨hlt,_⟩ | ⟨_,op,hop,hoa,_⟩
  ·omega
  ·obtain⟨e,he',rfl⟩:=Go.Conc.mem_ofEvents hop
   rw [(he e he').1] at hoa;cases hoa
end
section
variable {V:Hd->View Tk} {rel:Nat->Option Nat} {blk:Option Nat} {act wk:Nat->Prop} {i:Nat} {tr:Trace} {w w':World} {fn:FuncId} {pos:String} {es:Array Event} {Z':View Tk}
theorem evok_touch {Z:View Tk} {e:Event} (h:EvOk Z w e) (hl:LowE w' e):Dumb e \/
  ((∃x,(MemAct.ofEvent e).touch?=some x/\x.kind=.plain/\x.loc=e.loc/\(x.write=true->Z.canW e.loc\/Loc.new w e.loc)/\(Z.canR e.loc\/Loc.new w e.loc))/\(MemAct.ofEvent e).low w'.heap.size/\∀a,MemAct.ofEvent e≠.mark (.release a)):=by
 obtain⟨loc,wr,sy⟩:=e
 cases loc with
 | cell a=>
  obtain⟨h1,h2⟩:=h
  simp only at h1 h2
  subst h1
  refine .inr ⟨⟨_,rfl,rfl,rfl,λ hw=>?_,?_⟩,hl,λ _ h=>by cases h⟩
  ·simp only at hw;subst hw;simpa using h2
  ·cases wr
   ·simpa using h2
   ·simp only [if_true] at h2;exact h2.imp canR_of_canW id
 | obj b=>
  obtain⟨h1,h2⟩:=h
  simp only at h1 h2
  subst h1
  have e1:MemAct.ofEvent ⟨.obj b,wr,false⟩=.access ⟨.obj b,wr,false⟩:=by cases wr <;> rfl
  rw [e1]
  refine .inr ⟨⟨_,rfl,rfl,rfl,λ hw=>?_,?_⟩,hl,λ _ h=>by cases h⟩
  ·simp only at hw;subst hw;simpa using h2
  ·cases wr
   ·simpa using h2
   ·simp only [if_true] at h2;exact h2.imp canR_of_canW id
 | mark m=>
  have h:Mark.still m=true:=h
  left
  cases m <;> simp [Mark.still] at h <;> exact⟨rfl,λ _=>trivial,λ _ h=>by cases h⟩
 | output=>exact h.elim
 | goroutines=>exact h.elim
theorem newN_of_new {l:Loc} (h:Loc.new w l):Loc.newN w.heap.size l:=by cases l <;> exact h
theorem ti_priv (h:TI (λ k=>(V k).canW) (λ k=>(V k).canR) rel blk act wk w.heap.size tr) (hv:VI V w) (hb:∀b,blk=some b->b<w.heap.size/\Off b (V (.run i)))
  (hes:∀e∈es,EvOk (V (.run i)) w e/\LowE w' e) (hg:Guar (V (.run i)) w w' Z') (hi:i=0\/wk i) :
  TI (λ k=>(setH V (.run i) Z' k).canW) (λ k=>(setH V (.run i) Z' k).canR) rel blk act wk w'.heap.size (tr++MemOp.ofEvents i fn pos es):=by
 have key:∀e∈es,∀x,(MemAct.ofEvent e).touch?=some x->x.kind=.plain/\(x.write=true->(V (.run i)).canW x.loc\/Loc.new w x.loc)/\((V (.run i)).canR x.loc\/Loc.new w x.loc):=by
  intro e he x hx
  rcases evok_touch (hes e he).1 (hes e he).2 with hd | ⟨⟨y,hy,h1,h2,h3,h4⟩,_⟩
  ·rw [hd.1] at hx;cases hx
  ·rw [hy] at hx;cases hx
   rw [h2];exact⟨h1,h3,h4⟩
 refine h.events hg.size ?_ ?_ ?_ ?_ ?_ ?_ ?_ (hi.imp id .inl)
 ·intro e he
  rcases evok_touch (hes e he).1 (hes e he).2 with hd | ⟨_,hd,_⟩
  ·exact hd.2.1 _
  ·exact hd
 ·intro e he
  rcases evok_touch (hes e he).1 (hes e he).2 with hd | ⟨_,_,hd⟩
  ·exact hd.2.2
  ·exact hd
 ·intro j a ha e he b hb' said hc
  obtain⟨h1,h2,h3⟩:=key e he b hb'
  have hnew:¬Loc.new w a.loc:=by
   obtain⟨x,hx,hxa⟩:=touch_of ha
   exact λ hn=>low_touch (h.low x (Array.mem_of_getElem? hx)) hxa (newN_of_new hn)
  obtain⟨he1,_,hwr,_⟩:=hc
  rw [<- he1] at h2 h3
  refine h.known (.run i) j a ha ?_
  rcases hwr with hw | hw
  ·exact .inr ⟨h3.resolve_right hnew,hw⟩
  ·exact .inl ((h2 hw).resolve_right hnew)
 ·intro k l hl
  by_cases e:k=.run i
  ·subst e
   simp only [setH_same] at hl
   exact (hg.cw l hl).imp id λ hn=>⟨rfl,newN_of_new hn⟩
  ·simp only [setH_ne _ _ e] at hl;exact .inl hl
 ·intro k l hl
  by_cases e:k=.run i
  ·subst e
   simp only [setH_same] at hl
   exact (hg.cr l hl).imp id λ hn=>⟨rfl,newN_of_new hn⟩
  ·simp only [setH_ne _ _ e] at hl;exact .inl hl
 ·intro e he a ha k hk
  obtain⟨h1,h2,h3⟩:=key e he a ha
  refine⟨λ hw=>?_,λ haw hr=>?_⟩
  ·rcases h3 with h3 | h3
   ·exact hv.sep k (.run i) _ hk hw h3
   ·exact canR_old (hv.ok k) (canR_of_canW hw) h3
  ·rcases h2 haw with h2 | h2
   ·exact hv.sep (.run i) k _ (Ne.symm hk) h2 hr
   ·exact canR_old (hv.ok k) hr h2
 ·intro e he a ha hib
  exfalso
  obtain⟨h1,h2,h3⟩:=key e he a ha
  obtain⟨loc,wr,kd⟩:=a
  cases loc <;> simp only [inBlk] at hib
  rename_i ad
  obtain⟨hbl,hoff⟩:=hib
  obtain⟨hlt,hof⟩:=hb _ hbl
  rcases h3 with h3 | h3
  ·exact hof ad rfl hoff h3
  ·simp only [Loc.new] at h3;omega
def GrpEv (b:Nat) (parent:Bool) (e:Event):Prop:=
 Event.mute e=true\/(∃o wr,o<2/\e=⟨.cell ⟨b,o,none⟩,wr,true⟩)\/(parent=true/\∃o wr,o<2/\e=evM (bif wr then .write ⟨b,o,none⟩ else .read ⟨b,o,none⟩))
theorem ti_grp {b:Nat} (h:TI (λ k=>(V k).canW) (λ k=>(V k).canR) rel (some b) act wk w.heap.size tr) (hb:b<w.heap.size) (ho:∀k,Off b (V k)) (hact:act i)
  (hes:∀e∈es,GrpEv b (i == 0) e) (hi:i=0\/wk i\/∀j,tr.size<=j->¬(tr++MemOp.ofEvents i fn pos es).counts j) :
  TI (λ k=>(V k).canW) (λ k=>(V k).canR) rel (some b) act wk w.heap.size (tr++MemOp.ofEvents i fn pos es):=by
 have key:∀e∈es,(MemAct.ofEvent e).low w.heap.size/\(∀a,MemAct.ofEvent e≠.mark (.release a))/\∀x,(MemAct.ofEvent e).touch?=some x->(∃o,o<2/\x.loc=.cell ⟨b,o,none⟩)/\(x.kind=.atomic\/(x.kind=.said/\i=0)):=by
  intro e he
  rcases hes e he with hm | ⟨o,wr,ho,rfl⟩ | ⟨hp,o,wr,ho,rfl⟩
  ·have:=dumb_mute hm
   exact⟨this.2.1 _,this.2.2,λ x hx=>by rw [this.1] at hx;cases hx⟩
  ·refine⟨hb,λ _ h=>(by cases h),λ x hx=>?_⟩
   cases hx
   exact⟨⟨o,ho,rfl⟩,.inl rfl⟩
  ·have hi0:i=0:=by simpa using hp
   cases wr
   ·refine⟨hb,λ _ h=>(by cases h),λ x hx=>?_⟩
    cases hx
    exact⟨⟨o,ho,rfl⟩,.inr ⟨rfl,hi0⟩⟩
   ·refine⟨hb,λ _ h=>(by cases h),λ x hx=>?_⟩
    cases hx
    exact⟨⟨o,ho,rfl⟩,.inr ⟨rfl,hi0⟩⟩
 refine h.events (Nat.le_refl _) (λ e he=>(key e he).1) (λ e he=>(key e he).2.1) ?_ (λ _ _=>.inl) (λ _ _=>.inl) ?_ ?_ hi
 ·intro j a ha e he x hx said hc
  obtain⟨⟨o,ho',hl⟩,hk⟩:=(key e he).2.2 x hx
  obtain⟨h1,_,_,h4⟩:=hc
  have hib:inBlk (some b) a.loc:=by rw [h1,hl];exact⟨rfl,ho'⟩
  rcases h4 with h4 | h4 | ⟨_,h4,h5⟩
  ·exact h.grpP j a ha hib h4 i hact
  ·rcases hk with hk | ⟨hk,_⟩ <;> rw [hk] at h4 <;> cases h4
  ·rcases hk with hk | ⟨_,hi0⟩
   ·rw [hk] at h5;cases h5
   ·subst hi0;exact h.grpS j a ha hib h4
 ·intro e he a ha k _
  obtain⟨⟨o,ho',hl⟩,_⟩:=(key e he).2.2 a ha
  rw [hl]
  exact⟨λ hw=>ho k _ rfl ho' (canR_of_canW hw),λ _ hr=>ho k _ rfl ho' hr⟩
 ·intro e he a ha _
  obtain⟨_,hk⟩:=(key e he).2.2 a ha
  rcases hk with hk | ⟨hk,hi0⟩ <;> rw [hk]
  ·exact⟨λ h=>(by cases h),λ h=>(by cases h)⟩
  ·exact⟨λ h=>(by cases h),λ _=>hi0⟩
theorem no_counts {b:Nat} (hes:∀e∈es,Event.mute e=true\/∃o wr,e=⟨.cell ⟨b,o,none⟩,wr,true⟩) (hd:∀j,j<es.size->deafBehind (Deaf tr i) (es.extract 0 j)≠0) :
  ∀j,tr.size<=j->¬(tr++MemOp.ofEvents i fn pos es).counts j:=by
 intro j hj hc
 obtain⟨x,hx,_,h2⟩:=hc
 rcases touchAt_cases (t:=tr) hx with⟨hlt,_⟩ | ⟨_,op,hop,hoa,ho⟩
 ·omega
 ·obtain⟨e,he,rfl⟩:=Go.Conc.mem_ofEvents hop
  rcases hes e he with hm | ⟨o,wr,rfl⟩
  ·rw [(dumb_mute hm).1] at hoa;cases hoa
  ·cases hoa
   rcases h2 with h2 | ⟨g,hg,h2⟩
   ·exact h2 rfl
   ·have hgi:g=i:=by
     simp only [Trace.g?,ho,Option.map_some,Option.some.injEq] at hg
     exact hg.symm
    subst hgi
    have hlt:=lt_size_of_getElem? ho
    have hsz:(MemOp.ofEvents g fn pos es).size=es.size:=by rw [ofEvents_eq];simp
    rw [Array.size_append,hsz] at hlt
    obtain⟨k,rfl⟩:=Nat.exists_eq_add_of_le hj
    rw [deaf_inside tr g fn pos es k (by omega)] at h2
    exact hd k (by omega) h2
end
section
variable {P:Program} {t:TypeId} {N:Nat} {Stop:Stp Tk} {gs:Array Goroutine} {w:World} {tr:Trace} {V V':Hd->View Tk} {rk:Nat->Option Tr} {rel:Nat->Option Nat} {q:Nat->Nat}
theorem Grp.turn (h:Grp t N gs w V rel) (ht:∀j,(V' (.run j)).tok=(V (.run j)).tok) (hd:∀j,V' (.dep j)=V (.dep j)) (hR:∀k l,(V' k).canR l->(V k).canR l):Grp t N gs w V' rel:=by
 have hk:tkOf V'=tkOf V:=by funext j;simp only [tkOf,ht]
 unfold Grp at h ⊢
 rw [ht 0]
 revert h
 cases (V (.run 0)).tok.ph with
 | out=>exact λ h=>⟨λ i hi=>by rw [ht];exact h.1 i hi,h.2⟩
 | par b ds pend k=>
  rintro⟨h1,W,c,wt,s,h2,h3,h4⟩
  refine⟨λ j a ha ho hr=>h1 j a ha ho (hR _ _ hr),W,c,wt,s,h2,?_,h4⟩
  rw [hk]
  simpa only [hd] using h3
 | _=>exact λ h=>h
theorem TI.tok {rel:Nat->Option Nat} {size:Nat} (h:TI (λ k=>(V k).canW) (λ k=>(V k).canR) rel (V (.run 0)).tok.ph.blk (λ i=>i=0\/(V (.run i)).tok.ph≠.out) (λ i=>isW (V (.run i)).tok.ph) size tr)
  (ht:∀j,(V' (.run j)).tok=(V (.run j)).tok) (hW:∀k l,(V' k).canW l->(V k).canW l) (hR:∀k l,(V' k).canR l->(V k).canR l) :
  TI (λ k=>(V' k).canW) (λ k=>(V' k).canR) rel (V' (.run 0)).tok.ph.blk (λ i=>i=0\/(V' (.run i)).tok.ph≠.out) (λ i=>isW (V' (.run i)).tok.ph) size tr:=by
 simp only [ht]
 exact h.turn hW hR λ _ h=>h
theorem MI.shift {i:Nat} {r:Tr} {Z1:View Tk} (h:MI P t N Stop none gs w tr V rk rel q) (hr:rk i=some r) (hs:Shift (V (.run i)) Z1):MI P t N Stop (some i) gs w tr (setH V (.run i) Z1) rk rel q:=by
 have hne:∀j,j≠i->setH V (.run i) Z1 (.run j)=V (.run j):=λ j hj=>setH_ne _ _ (by intro e;cases e;exact hj rfl)
 have hT:∀j,(setH V (.run i) Z1 (.run j)).tok=(V (.run j)).tok:=by
  intro j
  by_cases e:j=i
  ·subst e;rw [setH_same];exact hs.1
  ·rw [hne j e]
 have hd:∀j,setH V (.run i) Z1 (.dep j)=V (.dep j):=λ j=>setH_ne _ _ (by simp)
 obtain⟨hok,hw,hrd⟩:=hs.2 w (h.vi.ok (.run i))
 have hW:∀k l,(setH V (.run i) Z1 k).canW l->(V k).canW l:=by
  intro k l hl
  by_cases e:k=.run i
  ·subst e;rw [setH_same] at hl;exact hw l hl
  ·rwa [setH_ne _ _ e] at hl
 have hR:∀k l,(setH V (.run i) Z1 k).canR l->(V k).canR l:=by
  intro k l hl
  by_cases e:k=.run i
  ·subst e;rw [setH_same] at hl;exact hrd l hl
  ·rwa [setH_ne _ _ e] at hl
 refine⟨?_,h.root,?_,?_,h.above,?_,?_,?_,?_,?_,h.vi.shift hs,h.ti.tok hT hW hR,h.grp.turn hT hd hR⟩
 ·intro j r' hj hr'
  have e:j≠i:=λ e=>hj (by rw [e])
  have:=h.live j r' (by simp) hr'
  rw [hne j e]
  simp only [hT]
  exact this
 ·intro j g hj hg hp;rw [hT] at hp;exact h.gone j g hj hg hp
 ·intro j hj hp
  rw [hT] at hp
  simp only [hT]
  exact h.tail j hj hp
 ·intro j hj
  have e:j≠i:=λ e=>by subst e;rw [hr] at hj;cases hj
  rw [hne j e];exact h.bare j hj
 ·intro j h0 hj;rw [hT];exact h.wk j h0 hj
 ·intro j hj;rw [hT] at hj;exact h.wk' j hj
 ·intro j hj;rw [hT];exact h.deaf j hj
 ·intro j hj;rw [hd];exact h.deps j hj
def Nxt (P:Program) (t:TypeId) (N:Nat) (Stop:Stp Tk) (gs:Array Goroutine) (w:World) (sl:Option (Nat×Nat)) (tr:Trace) (rk:Nat->Option Tr) (q:Nat->Nat) (i:Nat):Prop:=
 ∃gs' w' ops V' rk' rel' q',runT P (crowd gs w sl) i=(.next (crowd gs' w' sl),ops)/\MI P t N Stop none gs' w' (tr++ops) V' rk' rel' q'/\Falls (meas gs' rk' q') (meas gs rk q)/\w'.os=w.os/\w'.output=w.output
variable {sl:Option (Nat×Nat)}
theorem meas_cut {gs':Array Goroutine} {q':Nat->Nat} {i:Nat} {r:Tr} {x:Option Tr} (hs:gs'.size=gs.size) (hi:i<gs.size) (hr:rk i=some r) (hx:∀r',x=some r'->Tr.Sub r' r):Falls (meas gs' (updN rk i x) q') (meas gs rk q):=by
 unfold meas
 rw [hs]
 exact Falls.cut (cut_one hi hr hx)
theorem MI.priv (hStop:∀m g Z,Stop m g Z->g.status=.running) {i:Nat} {g:Goroutine} {r:Tr} (h:MI P t N Stop (some i) gs w tr V rk rel q) (hi:gs[i]?=some g) (hr:rk i=some r)
  (hp:Priv P (λ m g Z=>∃r',Tr.Sub r' r/\JR (SysG P t N) Stop r' m g Z) (i == 0) g (V (.run i))):Nxt P t N Stop gs w sl tr rk q i:=by
 have hlt:=(Array.getElem?_eq_some_iff.1 hi).1
 obtain⟨hs,hp⟩:=hp
 obtain⟨g',w',es,Z',hst,hes,hg,hok,htok,r',hsub,hJ⟩:=hp w (h.vi.ok (.run i))
 have hdead:deafBehind (Deaf tr i) es=Deaf tr i:=by
  refine deafBehind_still (λ e he=>?_) _
  obtain⟨he,_⟩:=hes e he
  obtain⟨loc,wr,sy⟩:=e
  cases loc with
  | mark m=>have he:Mark.still m=true:=he;cases m <;> simp [Mark.still] at he ⊢
  | _=>simp
 have hne:∀j,j≠i->setH V (.run i) Z' (.run j)=V (.run j):=λ j hj=>setH_ne _ _ (by intro e;cases e;exact hj rfl)
 have hT:∀j,(setH V (.run i) Z' (.run j)).tok=(V (.run j)).tok:=by
  intro j
  by_cases e:j=i
  ·subst e;rw [setH_same];exact htok
  ·rw [hne j e]
 have hd:∀j,setH V (.run i) Z' (.dep j)=V (.dep j):=λ j=>setH_ne _ _ (by simp)
 have hri:rk i≠none:=by rw [hr];simp
 have hwk:i=0\/isW (V (.run i)).tok.ph:=by
  by_cases e:i=0
  ·exact .inl e
  ·exact .inr (h.wk i e hri)
 have hblk:∀b,(V (.run 0)).tok.ph.blk=some b->b<w.heap.size/\∀j,Off b (V j):=by
  intro b hb
  have hG:=h.grp
  unfold Grp at hG
  revert hG hb
  cases (V (.run 0)).tok.ph with
  | out=>intro hb;cases hb
  | par b' ds pend k=>
   intro hb
   cases hb
   rintro⟨h1,W,c,wt,s,h2,_⟩
   exact⟨(Array.getElem?_eq_some_iff.1 h2).1,h1⟩
  | _=>intro _ hG;exact hG.elim
 refine⟨_,w',_,setH V (.run i) Z',updN rk i (some r'),rel,q,runT_crowd_go hi hst,?_,meas_cut behind_size hlt hr λ r'' e=>by cases e;exact hsub,hg.os,hg.output⟩
 refine h.go hStop (V':=setH V (.run i) Z') (rk':=updN rk i (some r')) (rel':=rel) (q':=q) (es:=es) hi hne (λ j hj=>updN_ne _ _ hj) (λ _ _=>rfl) (λ _ _=>.inl rfl) ?_ (.inr (.inl (by rw [hT]))) ?_ ?_ (λ j hj=>by rw [hd];exact h.deps j hj) (h.vi.priv hg hok) ?_ ?_
 ·by_cases e:i=0
  ·subst e;rw [updN_same];simp
  ·rw [updN_ne _ _ (Ne.symm e)];exact h.root
 ·intro r'' e
  rw [updN_same] at e
  cases e
  rw [setH_same]
  refine⟨hJ,?_,λ h0=>?_⟩
  ·rw [hdead,htok];exact h.deaf i hri
  ·rw [htok];exact hwk.resolve_left h0
 ·intro e;rw [updN_same] at e;cases e
 ·have:=ti_priv (fn:=g.frame.fn) (pos:=g.frame.place) h.ti h.vi (λ b hb=>⟨(hblk b hb).1,(hblk b hb).2 _⟩) hes hg hwk
  simp only [hT]
  exact this
 ·have hG:=h.grp
  unfold Grp at hG ⊢
  rw [hT 0]
  have hk:tkOf (setH V (.run i) Z')=tkOf V:=by funext j;simp only [tkOf,hT]
  revert hG
  cases hph:(V (.run 0)).tok.ph with
  | out=>exact λ hG=>⟨λ j hj=>by rw [hT];exact hG.1 j hj,hG.2⟩
  | par b ds pend k=>
   rintro⟨h1,W,c,wt,s,h2,h3,h4⟩
   obtain⟨hbs,_⟩:=hblk b (by rw [hph];rfl)
   refine⟨λ j a ha ho hrd=>?_,W,c,wt,s,h2.guar hg (h1 _),?_,?_⟩
   ·by_cases e:j=.run i
    ·subst e
     rw [setH_same] at hrd
     rcases hg.cr _ hrd with hrd | hrd
     ·exact h1 _ a ha ho hrd
     ·simp only [Loc.new] at hrd;omega
    ·rw [setH_ne _ _ e] at hrd
     exact h1 _ a ha ho hrd
   ·rw [hk];simpa only [hd] using h3
   ·intro g0 hg0 hns
    by_cases e:i=0
    ·subst e
     rw [behind_at hi] at hg0
     cases hg0
     exact absurd (hJ.running hStop) hns
    ·rw [behind_ne (Ne.symm e)] at hg0
     obtain⟨y,hy,rfl⟩:=Option.map_eq_some_iff.1 hg0
     refine h4 y hy λ hrun=>hns ?_
     rw [woken_run' hrun];exact hrun
  | _=>exact λ hG=>hG
theorem Grp.woken {i:Nat} {g g':Goroutine} {w':World} (hi:gs[i]?=some g) (hrun:i=0->g'.status=.running) {s:Nat} (h:∀g,gs[0]?=some g->g.status≠.running->s=0) :
  ∀x,(behind P gs i g g' w')[0]?=some x->x.status≠.running->s=0:=by
 intro x hx hns
 by_cases e:i=0
 ·subst e
  rw [behind_at hi] at hx
  cases hx
  exact absurd (hrun rfl) hns
 ·rw [behind_ne (Ne.symm e)] at hx
  obtain⟨y,hy,rfl⟩:=Option.map_eq_some_iff.1 hx
  refine h y hy λ hr=>hns ?_
  rw [woken_run' hr];exact hr
theorem MI.leaver (hStop:∀m g Z,Stop m g Z->g.status=.running) {i:Nat} {g:Goroutine} (h:MI P t N Stop none gs w tr V rk rel q) (hi:gs[i]?=some g) (hrun:g.status=.running) (hr:rk i=none) (hp:(V (.run i)).tok.ph=.out) :
  Nxt P t N Stop gs w sl tr rk q i:=by
 have hlt:=(Array.getElem?_eq_some_iff.1 hi).1
 have hi0:i≠0:=λ e=>by subst e;exact h.root hr
 have hq:=h.gone i g hr hi hp
 cases hqi:q i with
 | zero=>rw [hqi] at hq;rw [hq.1] at hrun;cases hrun
 | succ n=>
  rw [hqi] at hq
  rcases hq with⟨hs,_⟩ | ⟨_,g',es,hm,hst,hq⟩
  ·rw [hs] at hrun;cases hrun
  have hst':stepG P (i == 0) g w=.go g' w es:=by
   rw [show (i == 0)=false by simpa using hi0];exact hst w
  have h':MI P t N Stop (some i) gs w tr V rk rel q:={ h with live:=λ j r _ hr=>h.live j r (by simp) hr }
  refine⟨_,w,_,V,rk,rel,updN q i n,runT_crowd_go hi hst',?_,meas_left (i:=i) behind_size hlt hr (λ j hj=>updN_ne _ _ hj) (by rw [updN_same,hqi];omega),rfl,rfl⟩
  refine h'.go hStop (V':=V) (rk':=rk) (rel':=rel) (q':=updN q i n) (es:=es) hi (λ _ _=>rfl) (λ _ _=>rfl) (λ j hj=>updN_ne _ _ hj) (λ _ _=>.inl rfl) h.root (.inl hi0) (λ r e=>by rw [hr] at e;cases e) ?_ h.deps h.vi ?_ ?_
  ·intro _
   obtain⟨b1,b2⟩:=h.bare i hr
   have hw:¬isW (V (.run i)).tok.ph:=by rw [hp];rintro⟨b,D,e⟩;cases e
   refine⟨hi0,b1,b2,hw,.inl ⟨hp,?_⟩⟩
   rw [updN_same];exact hq
  ·exact h.ti.dumb λ e he=>dumb_mute (hm e he)
  ·have hG:=h.grp
   unfold Grp at hG ⊢
   revert hG
   cases (V (.run 0)).tok.ph with
   | par b ds pend k=>exact λ⟨h1,W,c,wt,s,h2,h3,h4⟩=>⟨h1,W,c,wt,s,h2,h3,Grp.woken hi (λ e=>absurd e hi0) h4⟩
   | _=>exact λ hG=>hG
theorem MI.parent (hStop:∀m g Z,Stop m g Z->g.status=.running) {g g':Goroutine} {r r':Tr} {d d' b:Nat} {ds ds':List Spec} {pend pend':Bool} {k k':PS} {W:List Nat} {c wt s c' wt' s':Nat} {es:Array Event} {bs:List (Nat×Bool)}
  (h:MI P t N Stop (some 0) gs w tr V rk rel q) (hi:gs[0]?=some g) (hr:rk 0=some r) (htok:(V (.run 0)).tok=⟨d,.par b ds pend k⟩)
  (hoff:∀j,Off b (V j)) (hsh:Sh b t (stV c wt) (smV s) w)
  (hst:stepE P t true g (stV c wt) (smV s)=.go g' (stV c' wt') (smV s') es bs) (hbs:AllB b bs) (hes:∀e∈es,GrpEv b true e) (hd:deafBehind d es=d')
  (hgi:GI N b ds' pend' k' (tkOf V) rel (λ i=>(V (.dep i)).M) W c' wt' s') (hsub:Tr.Sub r' r) (hJ:JR (SysG P t N) Stop r' true g' ((V (.run 0)).at d' (.par b ds' pend' k'))) :
  Nxt P t N Stop gs w sl tr rk q 0:=by
 have hlt:=(Array.getElem?_eq_some_iff.1 hi).1
 have hrun:=hJ.running hStop
 have hst':stepG P (0 == 0) g w=.go g' (two w b t (stV c' wt') (smV s')) es:=stepE_sh hst hsh hbs
 have hne:∀j,j≠0->setH V (.run 0) ((V (.run 0)).at d' (.par b ds' pend' k')) (.run j)=V (.run j):=λ j hj=>setH_ne _ _ (by intro e;cases e;exact hj rfl)
 have hdp:∀j,setH V (.run 0) ((V (.run 0)).at d' (.par b ds' pend' k')) (.dep j)=V (.dep j):=λ j=>setH_ne _ _ (by simp)
 have hM:∀j,(setH V (.run 0) ((V (.run 0)).at d' (.par b ds' pend' k')) j).canW=(V j).canW/\(setH V (.run 0) ((V (.run 0)).at d' (.par b ds' pend' k')) j).canR=(V j).canR:=by
  intro j
  by_cases e:j=.run 0
  ·subst e;rw [setH_same];exact⟨rfl,rfl⟩
  ·rw [setH_ne _ _ e];exact⟨rfl,rfl⟩
 have hbl:b<w.heap.size:=(Array.getElem?_eq_some_iff.1 hsh).1
 refine⟨_,_,_,setH V (.run 0) ((V (.run 0)).at d' (.par b ds' pend' k')),updN rk 0 (some r'),rel,q,runT_crowd_go hi hst',?_,meas_cut behind_size hlt hr λ r'' e=>by cases e;exact hsub,rfl,rfl⟩
 refine h.go hStop (rel':=rel) (q':=q) (es:=es) hi hne (λ j hj=>updN_ne _ _ hj) (λ _ _=>rfl) (λ _ _=>.inl rfl) (by rw [updN_same];simp) (.inr (.inl (by rw [setH_same,htok];rfl))) ?_ ?_ (λ j hj=>by rw [hdp];exact h.deps j hj) ?_ ?_ ?_
 ·intro r'' e
  rw [updN_same] at e
  cases e
  rw [setH_same]
  refine⟨hJ,?_,λ h0=>absurd rfl h0⟩
  rw [h.deaf 0 h.root,htok,hd];rfl
 ·intro e;rw [updN_same] at e;cases e
 ·refine⟨λ j=>?_,λ k_1 k_2 l hn hw hr=>h.vi.sep k_1 k_2 l hn (by rw [<- (hM k_1).1];exact hw) (by rw [<- (hM k_2).2];exact hr)⟩
  have hv:=(h.vi.two (st':=stV c' wt') (sm':=smV s') hsh hoff).ok
  by_cases e:j=.run 0
  ·subst e;rw [setH_same]
   exact⟨(hv (.run 0)).imm,(hv (.run 0)).held,(hv (.run 0)).apart,(hv (.run 0)).sep⟩
  ·rw [setH_ne _ _ e];exact hv j
 ·have hti:=h.ti
  rw [htok] at hti
  have:=ti_grp (i:=0) (fn:=g.frame.fn) (pos:=g.frame.place) hti hbl hoff (.inl rfl) hes (.inl rfl)
  have e1:(setH V (.run 0) ((V (.run 0)).at d' (.par b ds' pend' k')) (.run 0)).tok.ph.blk=some b:=by rw [setH_same];rfl
  have e2:∀j,j=0\/(setH V (.run 0) ((V (.run 0)).at d' (.par b ds' pend' k')) (.run j)).tok.ph≠.out↔j=0\/(V (.run j)).tok.ph≠.out:=by
   intro j
   by_cases e:j=0
   ·simp [e]
   ·rw [hne j e]
  have e3:∀j,isW (setH V (.run 0) ((V (.run 0)).at d' (.par b ds' pend' k')) (.run j)).tok.ph↔isW (V (.run j)).tok.ph:=by
   intro j
   by_cases e:j=0
   ·subst e;rw [setH_same,htok]
    constructor
    ·rintro⟨b,D,e⟩;cases e
    ·rintro⟨b,D,e⟩;cases e
   ·rw [hne j e]
  rw [e1]
  have e2':=funext λ j=>propext (e2 j)
  have e3':=funext λ j=>propext (e3 j)
  rw [e2',e3']
  have hsz:(two w b t (stV c' wt') (smV s')).heap.size=w.heap.size:=by simp [two]
  rw [hsz]
  exact this.turn (λ k l hl=>by rw [<- (hM k).1];exact hl) (λ k l hl=>by rw [<- (hM k).2];exact hl) (λ _ x=>x)
 ·unfold Grp
  rw [setH_same]
  have hk:tkOf (setH V (.run 0) ((V (.run 0)).at d' (.par b ds' pend' k')))=tkOf V:=by
   funext j
   by_cases e:j=0
   ·simp [tkOf,e]
   ·simp only [tkOf,if_neg e,hne j e]
  refine⟨λ j a ha ho hr=>hoff j a ha ho (by rw [<- (hM j).2];exact hr),W,c',wt',s',hsh.two,?_,λ x hx hns=>?_⟩
  ·rw [hk];simpa only [hdp] using hgi
  ·rw [behind_at hi] at hx
   cases hx
   exact absurd hrun hns
end
section
variable {P:Program} {t:TypeId} {N:Nat} {Stop:Stp Tk} {gs:Array Goroutine} {w:World} {tr:Trace} {V V':Hd->View Tk} {rk:Nat->Option Tr} {rel:Nat->Option Nat} {q:Nat->Nat} {sl:Option (Nat×Nat)}
theorem MI.par (h:MI P t N Stop none gs w tr V rk rel q) {b:Nat} (hb:(V (.run 0)).tok.ph.blk=some b) :
  ∃ds pend k,(V (.run 0)).tok.ph=.par b ds pend k/\(∀j,Off b (V j))/\∃W c wt s,Sh b t (stV c wt) (smV s) w/\GI N b ds pend k (tkOf V) rel (λ i=>(V (.dep i)).M) W c wt s/\(∀g,gs[0]?=some g->g.status≠.running->s=0):=by
 have hG:=h.grp
 unfold Grp at hG
 revert hG hb
 cases hph:(V (.run 0)).tok.ph with
 | out=>intro hb;cases hb
 | par b' ds pend k=>
  intro hb hG
  cases hb
  exact⟨ds,pend,k,rfl,hG⟩
 | _=>intro _ hG;exact hG.elim
theorem MI.tailGo (hStop:∀m g Z,Stop m g Z->g.status=.running) {i n:Nat} {g g':Goroutine} {b:Nat} {ds:List Spec} {pend:Bool} {k:PS} {W:List Nat} {c wt s c' wt' s':Nat} {es:Array Event} {bs:List (Nat×Bool)} {p':Ph}
  (h:MI P t N Stop none gs w tr V rk rel q) (hi:gs[i]?=some g) (hi0:i≠0) (hr:rk i=none) (hp0:(V (.run i)).tok.ph≠.out) (hph:(V (.run 0)).tok.ph=.par b ds pend k)
  (hoff:∀j,Off b (V j)) (hsh:Sh b t (stV c wt) (smV s) w) (hb4:∀g,gs[0]?=some g->g.status≠.running->s=0)
  (hst:stepE P t false g (stV c wt) (smV s)=.go g' (stV c' wt') (smV s') es bs) (hbs:AllB b bs) (hes:∀e∈es,GrpEv b false e) (hno:∀j,tr.size<=j->¬(tr++MemOp.ofEvents i g.frame.fn g.frame.place es).counts j)
  (hgi:GI N b ds pend k (updN (tkOf V) i p') rel (λ i=>(V (.dep i)).M) W c' wt' s') (hw':s'=s\/(mayWake P g=true/\(g'.status=.running\/g'.status=.finished)))
  (hq:q i=n+1) (hp':¬isW p')
  (hk:(p'=.out/\QuitsD P n (deafBehind (Deaf tr i) es) g')\/(p'≠.out/\Tl P t N b n (deafBehind (Deaf tr i) es) p' g')):Nxt P t N Stop gs w sl tr rk q i:=by
 have hlt:=(Array.getElem?_eq_some_iff.1 hi).1
 have hst':stepG P (i == 0) g w=.go g' (two w b t (stV c' wt') (smV s')) es:=by
  rw [show (i == 0)=false by simpa using hi0];exact stepE_sh hst hsh hbs
 have h':MI P t N Stop (some i) gs w tr V rk rel q:={ h with live:=λ j r _ hr=>h.live j r (by simp) hr }
 have hne:∀j,j≠i->setH V (.run i) (View.bare ⟨1,p'⟩) (.run j)=V (.run j):=λ j hj=>setH_ne _ _ (by intro e;cases e;exact hj rfl)
 have hdp:∀j,setH V (.run i) (View.bare ⟨1,p'⟩) (.dep j)=V (.dep j):=λ j=>setH_ne _ _ (by simp)
 have hW:∀k l,(setH V (.run i) (View.bare ⟨1,p'⟩) k).canW l->(V k).canW l:=by
  intro k l hl
  by_cases e:k=.run i
  ·subst e;rw [setH_same] at hl;exact absurd hl (bare_canW _ _)
  ·rwa [setH_ne _ _ e] at hl
 have hR:∀k l,(setH V (.run i) (View.bare ⟨1,p'⟩) k).canR l->(V k).canR l:=by
  intro k l hl
  by_cases e:k=.run i
  ·subst e;rw [setH_same] at hl;exact absurd hl (bare_canR _ _)
  ·rwa [setH_ne _ _ e] at hl
 have hbl:b<w.heap.size:=(Array.getElem?_eq_some_iff.1 hsh).1
 refine⟨_,_,_,setH V (.run i) (View.bare ⟨1,p'⟩),rk,rel,updN q i n,runT_crowd_go hi hst',?_,meas_left (i:=i) behind_size hlt hr (λ j hj=>updN_ne _ _ hj) (by rw [updN_same,hq];omega),rfl,rfl⟩
 refine h'.go hStop (rel':=rel) (q':=updN q i n) (es:=es) hi hne (λ _ _=>rfl) (λ j hj=>updN_ne _ _ hj) (λ _ _=>.inl rfl) h.root (.inl hi0) (λ r e=>by rw [hr] at e;cases e) ?_ (λ j hj=>by rw [hdp];exact h.deps j hj) ?_ ?_ ?_
 ·intro _
  rw [setH_same,updN_same]
  refine⟨hi0,rfl,rfl,hp',?_⟩
  rcases hk with⟨h1,h2⟩ | ⟨h1,h2⟩
  ·exact .inl ⟨h1,h2⟩
  ·exact .inr ⟨h1,b,by rw [hph];rfl,h2⟩
 ·have hv:=h.vi.two (st':=stV c' wt') (sm':=smV s') hsh hoff
  refine⟨λ j=>?_,λ k_1 k_2 l hn hw hr=>hv.sep k_1 k_2 l hn (hW _ _ hw) (hR _ _ hr)⟩
  by_cases e:j=.run i
  ·subst e;rw [setH_same];exact bare_ok _ _
  ·rw [setH_ne _ _ e];exact hv.ok j
 ·have hti:=h.ti
  rw [hph] at hti
  have:=ti_grp (i:=i) (fn:=g.frame.fn) (pos:=g.frame.place) hti hbl hoff (.inr hp0) (by rw [show (i == 0)=false by simpa using hi0];exact hes) (.inr (.inr hno))
  have hsz:(two w b t (stV c' wt') (smV s')).heap.size=w.heap.size:=by simp [two]
  rw [hsz,hne 0 (Ne.symm hi0),hph]
  have e3:(λ j=>isW (setH V (.run i) (View.bare ⟨1,p'⟩) (.run j)).tok.ph)=λ j=>isW (V (.run j)).tok.ph:=by
   funext j
   by_cases e:j=i
   ·subst e
    rw [setH_same]
    refine propext ⟨λ x=>absurd x hp',λ x=>absurd hr (h.wk' j x)⟩
   ·rw [hne j e]
  rw [e3]
  refine this.turn hW hR ?_
  rintro j (rfl | hj)
  ·exact .inl rfl
  ·by_cases e:j=i
   ·subst e;exact .inr hp0
   ·rw [hne j e] at hj;exact .inr hj
 ·unfold Grp
  rw [hne 0 (Ne.symm hi0),hph]
  have hk':tkOf (setH V (.run i) (View.bare ⟨1,p'⟩))=updN (tkOf V) i p':=by
   funext j
   by_cases e:j=i
   ·subst e;simp only [tkOf,if_neg hi0,setH_same,updN_same];rfl
   ·rw [updN_ne _ _ e]
    by_cases e0:j=0
    ·simp [tkOf,e0]
    ·simp only [tkOf,if_neg e0,hne j e]
  refine⟨λ j a ha ho hr=>hoff j a ha ho (hR _ _ hr),W,c',wt',s',hsh.two,?_,?_⟩
  ·rw [hk'];simpa only [hdp] using hgi
  ·rcases hw' with rfl | ⟨hmw,hst2⟩
   ·exact Grp.woken hi (λ e=>absurd e hi0) hb4
   ·intro x hx hns
    exfalso
    obtain⟨r_0,hr_0⟩:=Option.ne_none_iff_exists'.1 h.root
    obtain⟨g_1,hJ,hg⟩:=h.live 0 r_0 (by simp) hr_0
    have hrun:=hJ.running hStop
    rw [behind_ne (Ne.symm hi0)] at hx
    rcases hg with hg | ⟨_,hg,ho,_⟩
    ·rw [hg,Option.map_some,woken_run' hrun] at hx
     cases hx;exact hns hrun
    ·rw [hg,Option.map_some] at hx
     have:woken P g g' (two w b t (stV c' wt') (smV s')) { g_1 with status:=.blocked }=g_1:=by
      unfold woken
      rw [if_pos,again_blocked hrun ho]
      rcases hst2 with e | e <;> rw [e,hmw] <;> rfl
     rw [this] at hx
     cases hx;exact hns hrun
theorem MI.tailStep (hStop:∀m g Z,Stop m g Z->g.status=.running) {i:Nat} {g:Goroutine} (h:MI P t N Stop none gs w tr V rk rel q) (hi:gs[i]?=some g) (hr:rk i=none) (hp:(V (.run i)).tok.ph≠.out) :
  Nxt P t N Stop gs w sl tr rk q i:=by
 have hi0:i≠0:=λ e=>by subst e;exact h.root hr
 obtain⟨g_1,b,hg,hb,ht⟩:=h.tail i hr hp
 rw [hi] at hg
 cases hg
 obtain⟨ds,pend,k,hph,hoff,W,c,wt,s,hsh,hgi,hb4⟩:=h.par hb
 have htk:tkOf V i=(V (.run i)).tok.ph:=by simp [tkOf,hi0]
 cases hqi:q i with
 | zero=>rw [hqi] at ht;exact ht.elim
 | succ n=>
  rw [hqi] at ht
  obtain⟨hrun,ht⟩:=ht
  have deaf1:∀(es:Array Event),Deaf tr i=1->∀j,(deafBehind 1 (es.extract 0 j)≠0)->deafBehind (Deaf tr i) (es.extract 0 j)≠0:=λ es e j hj=>by rw [e];exact hj
  rcases ht with⟨g',es,bs,hm,hbs,hst,hT⟩ | ⟨hpe,hd,hst⟩ | ⟨hpe,hd,g',bs,hbs,hst,hT⟩ | ⟨hpe,hd,g',bs,hbs,hst,hT⟩ | ⟨hpe,hd,hmw,g',bs,hbs,hst,hT⟩
  ·have hup:updN (tkOf V) i (V (.run i)).tok.ph=tkOf V:=by funext j;by_cases e:j=i <;> simp [updN,e,htk]
   refine h.tailGo hStop (p':=(V (.run i)).tok.ph) hi hi0 hr hp hph hoff hsh hb4 (hst _ _) hbs (λ e he=>.inl (hm e he)) ?_ (by rw [hup];exact hgi) (.inl rfl) hqi (λ x=>absurd hr (h.wk' i x)) (.inr ⟨hp,hT⟩)
   intro j hj hc
   obtain⟨x,hx,_⟩:=hc
   rcases touchAt_cases (t:=tr) hx with⟨hlt,_⟩ | ⟨_,op,hop,hoa,_⟩
   ·omega
   ·obtain⟨e,he',rfl⟩:=Go.Conc.mem_ofEvents hop
    rw [(dumb_mute (hm e he')).1] at hoa;cases hoa
  ·rw [hpe] at htk
   obtain⟨h1,h2,h3,rfl⟩:=hgi.relC htk
   obtain⟨g',bs,hbs,hst,hT⟩:=hst c wt h1 h2 h3
   have hno:=no_counts (tr:=tr) (i:=i) (fn:=g.frame.fn) (pos:=g.frame.place) (b:=b) (es:=#[evR b 0,evW b 0]) (by intro e he;simp at he;rcases he with rfl | rfl <;> exact .inr ⟨_,_,rfl⟩) (by
    intro j hj
    refine deaf1 _ hd j ?_
    have:j=0\/j=1:=by simp at hj;omega
    rcases this with rfl | rfl <;> simp [deafBehind,evR,evW])
   have hes:∀e∈(#[evR b 0,evW b 0]:Array Event),GrpEv b false e:=by
    intro e he;simp at he;rcases he with rfl | rfl <;> exact .inr (.inl ⟨0,_,by omega,rfl⟩)
   by_cases hl:c=1/\wt=1
   ·rw [if_pos hl] at hT
    obtain⟨rfl,rfl⟩:=hl
    obtain⟨rfl,hgi'⟩:=hgi.last htk
    exact h.tailGo hStop (p':=.lst b 0) hi hi0 hr hp hph hoff hsh hb4 hst hbs hes hno hgi' (.inl rfl) hqi (by rintro⟨_,_,e⟩;cases e) (.inr ⟨by simp,by rw [hd];exact hT⟩)
   ·rw [if_neg hl] at hT
    exact h.tailGo hStop (p':=.out) hi hi0 hr hp hph hoff hsh hb4 hst hbs hes hno (hgi.leave htk hl) (.inl rfl) hqi (by rintro⟨_,_,e⟩;cases e) (.inl ⟨rfl,by rw [hd];exact hT⟩)
  ·rw [hpe] at htk
   obtain⟨rfl,rfl,rfl,h4,_⟩:=hgi.lstAt htk
   obtain rfl:wt=1:=by omega
   have hno:=no_counts (tr:=tr) (i:=i) (fn:=g.frame.fn) (pos:=g.frame.place) (b:=b) (es:=#[evR b 0]) (by intro e he;simp at he;subst he;exact .inr ⟨_,_,rfl⟩) (by
    intro j hj
    refine deaf1 _ hd j ?_
    have:j=0:=by simp at hj;omega
    subst this;simp [deafBehind])
   exact h.tailGo hStop (p':=.lst b 1) hi hi0 hr hp hph hoff hsh hb4 hst hbs (by intro e he;simp at he;subst he;exact .inr (.inl ⟨0,_,by omega,rfl⟩)) hno (hgi.next (wt':=1) htk (.inl ⟨rfl,rfl⟩)) (.inl rfl) hqi (by rintro⟨_,_,e⟩;cases e) (.inr ⟨by simp,by rw [hd];exact hT⟩)
  ·rw [hpe] at htk
   obtain⟨rfl,rfl,rfl,h4,_⟩:=hgi.lstAt htk
   obtain rfl:wt=1:=by omega
   have hno:=no_counts (tr:=tr) (i:=i) (fn:=g.frame.fn) (pos:=g.frame.place) (b:=b) (es:=#[evW b 0]) (by intro e he;simp at he;subst he;exact .inr ⟨_,_,rfl⟩) (by
    intro j hj
    refine deaf1 _ hd j ?_
    have:j=0:=by simp at hj;omega
    subst this;simp [deafBehind])
   exact h.tailGo hStop (p':=.lst b 2) hi hi0 hr hp hph hoff hsh hb4 hst hbs (by intro e he;simp at he;subst he;exact .inr (.inl ⟨0,_,by omega,rfl⟩)) hno (hgi.next (wt':=0) htk (.inr ⟨rfl,rfl⟩)) (.inl rfl) hqi (by rintro⟨_,_,e⟩;cases e) (.inr ⟨by simp,by rw [hd];exact hT⟩)
  ·rw [hpe] at htk
   obtain⟨rfl,rfl,rfl,h4,_⟩:=hgi.lstAt htk
   obtain rfl:wt=0:=by omega
   have hno:=no_counts (tr:=tr) (i:=i) (fn:=g.frame.fn) (pos:=g.frame.place) (b:=b) (es:=#[evM .disable,evR b 1,evW b 1,evM .enable]) (by intro e he;simp at he;rcases he with rfl | rfl | rfl | rfl <;> first | exact .inl rfl | exact .inr ⟨_,_,rfl⟩) (by
    intro j hj
    refine deaf1 _ hd j ?_
    have:j=0\/j=1\/j=2\/j=3:=by simp at hj;omega
    rcases this with rfl | rfl | rfl | rfl <;> simp [deafBehind,evR,evW,evM])
   exact h.tailGo hStop (p':=.out) hi hi0 hr hp hph hoff hsh hb4 hst hbs (by intro e he;simp at he;rcases he with rfl | rfl | rfl | rfl <;> first | exact .inl rfl | exact .inr (.inl ⟨1,_,by omega,rfl⟩)) hno (hgi.wake htk) (.inr ⟨hmw,hT.status⟩) hqi (by rintro⟨_,_,e⟩;cases e) (.inl ⟨rfl,by rw [hd];exact hT⟩)
end
section
variable {P:Program} {t:TypeId} {N:Nat} {Stop:Stp Tk} {gs:Array Goroutine} {w:World} {tr:Trace} {V V':Hd->View Tk} {rk:Nat->Option Tr} {rel:Nat->Option Nat} {q:Nat->Nat} {sl:Option (Nat×Nat)}
theorem MI.par' {ex:Option Nat} (h:MI P t N Stop ex gs w tr V rk rel q) {b:Nat} (hb:(V (.run 0)).tok.ph.blk=some b) :
  ∃ds pend k,(V (.run 0)).tok.ph=.par b ds pend k/\(∀j,Off b (V j))/\∃W c wt s,Sh b t (stV c wt) (smV s) w/\GI N b ds pend k (tkOf V) rel (λ i=>(V (.dep i)).M) W c wt s/\(∀g,gs[0]?=some g->g.status≠.running->s=0):=by
 have hG:=h.grp
 unfold Grp at hG
 revert hG hb
 cases hph:(V (.run 0)).tok.ph with
 | out=>intro hb;cases hb
 | par b' ds pend k=>intro hb hG;cases hb;exact⟨ds,pend,k,rfl,hG⟩
 | _=>intro _ hG;exact hG.elim
theorem MI.block {g:Goroutine} {r:Tr} {b:Nat} {ds:List Spec} {bs:List (Nat×Bool)} (h:MI P t N Stop (some 0) gs w tr V rk rel q) (hi:gs[0]?=some g) (hrun:g.status=.running) (ho:g.offers=none)
  (hr:rk 0=some r) (htok:(V (.run 0)).tok=⟨1,.par b ds false .wait⟩) (hoff:∀j,Off b (V j)) {W:List Nat} {c wt:Nat} (hsh:Sh b t (stV c wt) (smV 0) w) (hgi:GI N b ds false .wait (tkOf V) rel (λ i=>(V (.dep i)).M) W c wt 0)
  (hst:stepE P t true g (stV c wt) (smV 0)=.blocked { g with status:=.blocked } (stV c wt) (smV 0) bs) (hbs:AllB b bs) (hJ:JR (SysG P t N) Stop r true g (V (.run 0))):Nxt P t N Stop gs w sl tr rk q 0:=by
 have hlt:=(Array.getElem?_eq_some_iff.1 hi).1
 have hst':stepG P (0 == 0) g w=.go { g with status:=.blocked } w #[]:=by
  have:=stepE_blocked hst hsh hbs
  rwa [hsh.two_same] at this
 have hgs:behind P gs 0 g { g with status:=.blocked } w=gs.setIfInBounds 0 { g with status:=.blocked }:=by
  apply Array.ext_getElem?
  intro j
  by_cases e:j=0
  ·subst e;rw [behind_at hi];simp [hlt]
  ·rw [behind_ne e,Array.getElem?_setIfInBounds_ne (Ne.symm e)]
   cases hx:gs[j]? with
   | none=>rfl
   | some x=>
    simp only [Option.map_some]
    unfold woken
    simp
 refine⟨_,_,_,V,rk,rel,q,runT_crowd_go hi hst',?_,?_,rfl,rfl⟩
 ·have e1:tr++MemOp.ofEvents 0 g.frame.fn g.frame.place #[]=tr:=by rw [ofEvents_eq];simp
  show MI P t N Stop none (behind P gs 0 g { g with status:=.blocked } w) w _ V rk rel q
  rw [hgs,e1]
  have hat:∀j,j≠0->(gs.setIfInBounds 0 { g with status:=.blocked })[j]?=gs[j]?:=λ j hj=>Array.getElem?_setIfInBounds_ne (Ne.symm hj)
  refine⟨?_,h.root,?_,?_,?_,h.bare,h.wk,h.wk',h.deaf,h.deps,h.vi,h.ti,?_⟩
  ·intro j r'' _ hr''
   by_cases e:j=0
   ·subst e
    rw [hr] at hr''
    cases hr''
    exact⟨g,hJ,.inr ⟨rfl,by simp [hlt],ho,b,ds,htok⟩⟩
   ·obtain⟨g_1,h1,h2⟩:=h.live j r'' (λ e'=>e (Option.some.inj e').symm) hr''
    refine⟨g_1,h1,?_⟩
    rw [hat j e];exact h2
  ·intro j x hj hx hp
   have e:j≠0:=λ e=>by subst e;exact h.root hj
   rw [hat j e] at hx
   exact h.gone j x hj hx hp
  ·intro j hj hp
   have e:j≠0:=λ e=>by subst e;exact h.root hj
   obtain⟨x,b',h1,h2⟩:=h.tail j hj hp
   exact⟨x,b',by rw [hat j e];exact h1,h2⟩
  ·intro j hj;exact h.above j (by simpa using hj)
  ·unfold Grp
   rw [htok]
   exact⟨hoff,W,c,wt,0,hsh,hgi,λ _ _ _=>rfl⟩
 ·show Falls (meas (behind P gs 0 g { g with status:=.blocked } w) rk q) (meas gs rk q)
  rw [hgs]
  unfold meas
  have e1:(gs.setIfInBounds 0 { g with status:=.blocked }).size=gs.size:=by simp
  rw [e1]
  refine Falls.num ?_
  have h1:wake1 gs=1:=by unfold wake1;rw [hi];simp [hrun]
  have h2:wake1 (gs.setIfInBounds 0 { g with status:=.blocked })=0:=by unfold wake1;simp [hlt]
  rw [h1,h2];omega
theorem MI.calm (hStop:∀m g Z,Stop m g Z->g.status=.running) {i:Nat} {g g':Goroutine} {r r':Tr} {b:Nat} {bs:List (Nat×Bool)} (h:MI P t N Stop (some i) gs w tr V rk rel q) (hi:gs[i]?=some g) (hr:rk i=some r) (hi0:i≠0) (hb:(V (.run i)).tok.ph.blk=some b)
  (hst:∀st sm,stepE P t false g st sm=.go g' st sm #[] bs) (hbs:AllB b bs) (hsub:Tr.Sub r' r) (hJ:JR (SysG P t N) Stop r' false g' (V (.run i))):Nxt P t N Stop gs w sl tr rk q i:=by
 have hlt:=(Array.getElem?_eq_some_iff.1 hi).1
 have hri:rk i≠none:=by rw [hr];simp
 have hwk:=h.wk i hi0 hri
 have htk:tkOf V i=(V (.run i)).tok.ph:=by simp [tkOf,hi0]
 have hG:=h.grp
 unfold Grp at hG
 cases hph:(V (.run 0)).tok.ph with
 | out=>rw [hph] at hG;have:=hG.1 i hi0;rw [this] at hwk;obtain⟨_,_,e⟩:=hwk;cases e
 | wrk _ _=>rw [hph] at hG;exact hG.elim
 | rel _=>rw [hph] at hG;exact hG.elim
 | lst _ _=>rw [hph] at hG;exact hG.elim
 | par b' ds pend k=>
  rw [hph] at hG
  obtain⟨hoff,W,c,wt,s,hsh,hgi,hb4⟩:=hG
  have hbb:b'=b:=by
   obtain⟨b_1,D,e⟩:=hwk
   rw [e] at hb
   cases hb
   rw [e] at htk
   rcases hgi.ph i with e' | ⟨D',e'⟩ | e' | ⟨j,e'⟩ <;> rw [htk] at e' <;> cases e'
   rfl
  subst hbb
  have hst':stepG P (i == 0) g w=.go g' w #[]:=by
   rw [show (i == 0)=false by simpa using hi0]
   have:=stepE_sh (hst (stV c wt) (smV s)) hsh hbs
   rwa [hsh.two_same] at this
  refine⟨_,_,_,V,updN rk i (some r'),rel,q,runT_crowd_go hi hst',?_,meas_cut behind_size hlt hr λ r'' e=>by cases e;exact hsub,rfl,rfl⟩
  refine h.go hStop (V':=V) (rk':=updN rk i (some r')) (rel':=rel) (q':=q) (es:=#[]) hi (λ _ _=>rfl) (λ j hj=>updN_ne _ _ hj) (λ _ _=>rfl) (λ _ _=>.inl rfl) (by rw [updN_ne _ _ (Ne.symm hi0)];exact h.root) (.inl hi0) ?_ ?_ h.deps h.vi ?_ ?_
  ·intro r'' e
   rw [updN_same] at e
   cases e
   refine⟨by rw [show (i == 0)=false by simpa using hi0];exact hJ,?_,λ _=>hwk⟩
   rw [deafBehind_nil];exact h.deaf i hri
  ·intro e;rw [updN_same] at e;cases e
  ·exact h.ti.dumb λ e he=>by simp at he
  ·unfold Grp
   rw [hph]
   exact⟨hoff,W,c,wt,s,hsh,hgi,Grp.woken hi (λ e=>absurd e hi0) hb4⟩
theorem MI.lay (hStop:∀m g Z,Stop m g Z->g.status=.running) {i n:Nat} {g g':Goroutine} {r:Tr} {b:Nat} {D:Spec} {bs:List (Nat×Bool)} (h:MI P t N Stop (some i) gs w tr V rk rel q) (hi:gs[i]?=some g) (hr:rk i=some r) (hi0:i≠0)
  (htok:(V (.run i)).tok=⟨0,.wrk b D⟩) (hD:D (V (.run i)).M) (hst:∀st sm,stepE P t false g st sm=.go g' st sm #[evM (.releaseMerge ⟨b,0,none⟩)] bs) (hbs:AllB b bs) (hT:Tl P t N b n 0 (.rel b) g'):Nxt P t N Stop gs w sl tr rk q i:=by
 have hlt:=(Array.getElem?_eq_some_iff.1 hi).1
 have hri:rk i≠none:=by rw [hr];simp
 have htk:tkOf V i=.wrk b D:=by simp [tkOf,hi0,htok]
 have hd0:Deaf tr i=0:=by rw [h.deaf i hri,htok]
 have hG:=h.grp
 unfold Grp at hG
 cases hph:(V (.run 0)).tok.ph with
 | out=>rw [hph] at hG;have:=hG.1 i hi0;rw [htok] at this;cases this
 | wrk _ _=>rw [hph] at hG;exact hG.elim
 | rel _=>rw [hph] at hG;exact hG.elim
 | lst _ _=>rw [hph] at hG;exact hG.elim
 | par b' ds pend k=>
  rw [hph] at hG
  obtain⟨hoff,W,c,wt,s,hsh,hgi,hb4⟩:=hG
  have hbb:b'=b:=by
   rcases hgi.ph i with e' | ⟨D',e'⟩ | e' | ⟨j,e'⟩ <;> rw [htk] at e' <;> cases e'
   rfl
  subst hbb
  have hst':stepG P (i == 0) g w=.go g' w #[evM (.releaseMerge ⟨b',0,none⟩)]:=by
   rw [show (i == 0)=false by simpa using hi0]
   have:=stepE_sh (hst (stV c wt) (smV s)) hsh hbs
   rwa [hsh.two_same] at this
  obtain⟨hgi',hrel⟩:=hgi.rel_ (r:=tr.size) htk hD
  have hbl:b'<w.heap.size:=(Array.getElem?_eq_some_iff.1 hsh).1
  let V1:=setH (setH V (.run i) (View.bare ⟨0,.rel b'⟩)) (.dep i) ⟨λ _=>none,(V (.run i)).M,⟨0,.out⟩⟩
  have v1:V1 (.run i)=View.bare ⟨0,.rel b'⟩:=by show setH _ _ _ _=_;rw [setH_ne _ _ (by simp),setH_same]
  have v2:∀j,j≠i->V1 (.run j)=V (.run j):=λ j hj=>by show setH _ _ _ _=_;rw [setH_ne _ _ (by simp),setH_ne _ _ (by intro e;cases e;exact hj rfl)]
  have v3:V1 (.dep i)=⟨λ _=>none,(V (.run i)).M,⟨0,.out⟩⟩:=setH_same ..
  have v4:∀j,j≠i->V1 (.dep j)=V (.dep j):=λ j hj=>by show setH _ _ _ _=_;rw [setH_ne _ _ (by intro e;cases e;exact hj rfl),setH_ne _ _ (by simp)]
  have hfk:=fork_lay (V (.run i)) (⟨0,.rel b'⟩:Tk) ⟨0,.out⟩
  have hvi:VI V1 w:=h.vi.fork hfk (by simp)
  have hW:∀k l,(V1 k).canW l->(V k).canW l/\k≠.dep i\/(k=.dep i/\(V (.run i)).canW l):=by
   intro k l hl
   cases k with
   | run j=>
    by_cases e:j=i
    ·subst e;rw [v1] at hl;exact absurd hl (bare_canW _ _)
    ·rw [v2 j e] at hl;exact .inl ⟨hl,by simp⟩
   | dep j=>
    by_cases e:j=i
    ·subst e;rw [v3] at hl;exact .inr ⟨rfl,hfk.wc l hl⟩
    ·rw [v4 j e] at hl;exact .inl ⟨hl,by intro e';cases e';exact e rfl⟩
  have hR:∀k l,(V1 k).canR l->(V k).canR l/\k≠.dep i\/(k=.dep i/\(V (.run i)).canR l):=by
   intro k l hl
   cases k with
   | run j=>
    by_cases e:j=i
    ·subst e;rw [v1] at hl;exact absurd hl (bare_canR _ _)
    ·rw [v2 j e] at hl;exact .inl ⟨hl,by simp⟩
   | dep j=>
    by_cases e:j=i
    ·subst e;rw [v3] at hl;exact .inr ⟨rfl,hfk.rc l hl⟩
    ·rw [v4 j e] at hl;exact .inl ⟨hl,by intro e';cases e';exact e rfl⟩
  refine⟨_,_,_,V1,updN rk i none,updN rel i (some tr.size),updN q i n,runT_crowd_go hi hst',?_,meas_cut behind_size hlt hr λ r'' e=>(by cases e),rfl,rfl⟩
  have e0:MemOp.ofEvents i g.frame.fn g.frame.place #[evM (.releaseMerge ⟨b',0,none⟩)]=#[{ g:=i,fn:=g.frame.fn,pos:=g.frame.place,act:=.mark (.releaseMerge ⟨b',0,none⟩) }]:=by
   rw [ofEvents_eq];simp [evM,MemAct.ofEvent]
  refine h.go hStop (V':=V1) (rk':=updN rk i none) (rel':=updN rel i (some tr.size)) (q':=updN q i n) (es:=#[evM (.releaseMerge ⟨b',0,none⟩)]) hi v2 (λ j hj=>updN_ne _ _ hj) (λ j hj=>updN_ne _ _ hj) (λ j hj=>.inl (updN_ne _ _ hj)) (by rw [updN_ne _ _ (Ne.symm hi0)];exact h.root) (.inl hi0) ?_ ?_ ?_ hvi ?_ ?_
  ·intro r'' e;rw [updN_same] at e;cases e
  ·intro _
   rw [v1,updN_same,hd0]
   refine⟨hi0,rfl,rfl,?_,.inr ⟨λ e=>(by cases e),b',by rw [hph];rfl,hT⟩⟩
   rintro⟨_,_,e⟩;cases e
  ·intro j hj
   have e:j≠i:=λ e=>by subst e;rw [updN_same] at hj;cases hj
   rw [updN_ne _ _ e] at hj
   rw [v4 j e];exact h.deps j hj
  ·rw [v2 0 (Ne.symm hi0),e0]
   have hti:=h.ti
   have:=hti.release (W':=λ k=>(V1 k).canW) (R':=λ k=>(V1 k).canR) (wk':=λ j=>isW (V1 (.run j)).tok.ph) (rel':=updN rel i (some tr.size)) (y:={ g:=i,fn:=g.frame.fn,pos:=g.frame.place,act:=.mark (.releaseMerge ⟨b',0,none⟩) }) (b:=b') (by rw [hph];rfl) rfl hbl hd0 hrel (λ k=>by simp [updN]) hW hR (λ k hk=>by
    by_cases e:k=i
    ·exact .inr e
    ·left;rw [v2 k e];exact hk)
   refine this.turn (λ _ _ h=>h) (λ _ _ h=>h) ?_
   rintro j (rfl | hj)
   ·exact .inl rfl
   ·by_cases e:j=i
    ·subst e;right;rw [htok];simp
    ·rw [v2 j e] at hj;exact .inr hj
  ·unfold Grp
   rw [v2 0 (Ne.symm hi0),hph]
   have hk':tkOf V1=updN (tkOf V) i (.rel b'):=by
    funext j
    by_cases e:j=i
    ·subst e;simp only [tkOf,if_neg hi0,v1,updN_same];rfl
    ·rw [updN_ne _ _ e]
     by_cases e0:j=0
     ·simp [tkOf,e0]
     ·simp only [tkOf,if_neg e0,v2 j e]
   have hM':(λ j=>(V1 (.dep j)).M)=updN (λ j=>(V (.dep j)).M) i (V (.run i)).M:=by
    funext j
    by_cases e:j=i
    ·subst e;rw [v3,updN_same]
    ·rw [v4 j e,updN_ne _ _ e]
   refine⟨λ j a ha ho hrd=>?_,W,c,wt,s,hsh,by rw [hk',hM'];exact hgi',Grp.woken hi (λ e=>absurd e hi0) hb4⟩
   rcases hR _ _ hrd with⟨h1,_⟩ | ⟨_,h1⟩
   ·exact hoff _ a ha ho h1
   ·exact hoff _ a ha ho h1
end
def joinV (V:Hd->View Tk) (l:List Nat):Hd->View Tk
 | .run j=>if j=0 then (V (.run 0)).with (l.map λ i=>(V (.dep i)).M).flatten else V (.run j)
 | .dep j=>if j∈l then bare0 else V (.dep j)
theorem VI.joinAll {w:World}:∀{l:List Nat} {V:Hd->View Tk},l.Nodup->VI V w->VI (joinV V l) w
 | [],V,_,h=>by
  have:joinV V []=V:=by
   funext k
   cases k with
   | run j=>
    simp only [joinV]
    split
    ·rename_i e;subst e;simp [View.with]
    ·rfl
   | dep j=>simp [joinV]
  rw [this];exact h
 | i::l,V,hn,h=>by
  obtain⟨hi,hn⟩:=List.nodup_cons.1 hn
  have h1:=h.join (k:=.run 0) (k':=.dep i) (by simp) (⟨0,.out⟩:Tk)
  have h2:=VI.joinAll hn h1
  have e:joinV (setH (setH V (.run 0) ((V (.run 0)).with (V (.dep i)).M)) (.dep i) (View.bare ⟨0,.out⟩)) l=joinV V (i::l):=by
   funext k
   cases k with
   | run j=>
    simp only [joinV]
    have hm:(l.map λ i'=>(setH (setH V (.run 0) ((V (.run 0)).with (V (.dep i)).M)) (.dep i) (View.bare (⟨0,.out⟩:Tk)) (.dep i')).M)=l.map λ i'=>(V (.dep i')).M:=by
     refine List.map_congr_left λ i' hi'=>?_
     have hne:i'≠i:=λ e=>hi (e ▸ hi')
     rw [setH_ne _ _ (by intro e;cases e;exact hne rfl),setH_ne _ _ (by simp)]
    rw [hm]
    split
    ·rename_i e
     rw [setH_ne _ _ (by simp),setH_same]
     simp [View.with]
    ·rename_i e
     rw [setH_ne _ _ (by simp),setH_ne _ _ (by intro e';cases e';exact e rfl)]
   | dep j=>
    simp only [joinV]
    by_cases e:j=i
    ·subst e
     rw [setH_same]
     simp [bare0]
    ·rw [setH_ne _ _ (by intro e';cases e';exact e rfl),setH_ne _ _ (by simp)]
     simp [e]
  rw [<- e];exact h2
theorem with_flat {V:Hd->View Tk} {Z:View Tk} {l:List Nat} {x:Loc}:((Z.with (l.map λ i=>(V (.dep i)).M).flatten).canW x->Z.canW x\/∃i∈l,(V (.dep i)).canW x)/\((Z.with (l.map λ i=>(V (.dep i)).M).flatten).canR x->Z.canR x\/∃i∈l,(V (.dep i)).canR x):=by
 have key:∀r,r∈Z.M++(l.map λ i=>(V (.dep i)).M).flatten->r.lets x->Z.canW x\/∃i∈l,(V (.dep i)).canW x:=by
  intro r hr hl
  rcases List.mem_append.1 hr with hr | hr
  ·exact .inl (canW_iff.2 ⟨r,hr,hl⟩)
  ·obtain⟨M,hM,hrM⟩:=List.mem_flatten.1 hr
   obtain⟨i,hi,rfl⟩:=List.mem_map.1 hM
   exact .inr ⟨i,hi,canW_iff.2 ⟨r,hrM,hl⟩⟩
 refine⟨λ h=>?_,λ h=>?_⟩
 ·obtain⟨r,hr,hl⟩:=canW_iff.1 h
  exact key r hr hl
 ·rcases canR_iff.1 h with⟨r,hr,hl⟩ | h
  ·exact (key r hr hl).imp canR_of_canW λ⟨i,hi,h⟩=>⟨i,hi,canR_of_canW h⟩
  ·exact .inl (canR_iff.2 (.inr h))
theorem no_perm {Z:View Tk} (h1:Z.I=λ _=>none) (h2:Z.M=[]) (l:Loc):¬Z.canW l/\¬Z.canR l:=by
 have hw:¬Z.canW l:=λ h=>by obtain⟨r,hr,_⟩:=canW_iff.1 h;rw [h2] at hr;cases hr
 refine⟨hw,λ h=>?_⟩
 rcases canR_iff.1 h with⟨r,hr,_⟩ | h
 ·rw [h2] at hr;cases hr
 ·cases l <;> simp [h1] at h
section
variable {P:Program} {t:TypeId} {N:Nat} {Stop:Stp Tk} {gs:Array Goroutine} {w:World} {tr:Trace} {V V':Hd->View Tk} {rk:Nat->Option Tr} {rel:Nat->Option Nat} {q:Nat->Nat} {sl:Option (Nat×Nat)}
theorem MI.take (hStop:∀m g Z,Stop m g Z->g.status=.running) {g g':Goroutine} {r:Tr} {b:Nat} {ds:List Spec} {bs:List (Nat×Bool)} (h:MI P t N Stop (some 0) gs w tr V rk rel q) (hi:gs[0]?=some g) (hr:rk 0=some r)
  (htok:(V (.run 0)).tok=⟨0,.par b ds false .up⟩) {W:List Nat} {c wt s:Nat} (hsh:Sh b t (stV c wt) (smV s) w) (hgi:GI N b ds false .up (tkOf V) rel (λ i=>(V (.dep i)).M) W c wt s)
  (hst:∀st sm,stepE P t true g st sm=.go g' st sm #[evM (.acquire ⟨b,0,none⟩)] bs) (hbs:AllB b bs)
  (hJ:∀Ms,Deps ds Ms->∃r',Tr.Sub r' r/\JR (SysG P t N) Stop r' true g' (((V (.run 0)).with Ms.flatten).at 0 .out)):Nxt P t N Stop gs w sl tr rk q 0:=by
 have hlt:=(Array.getElem?_eq_some_iff.1 hi).1
 obtain⟨-,-,-,-,hout,hrelW⟩:=hgi.up
 obtain⟨r',hsub,hJ⟩:=hJ _ hgi.deps
 have hph:∀j,j≠0->(V (.run j)).tok.ph=.out:=λ j hj=>by have:=hout j;simpa [tkOf,hj] using this
 have hrkn:∀j,j≠0->rk j=none:=by
  intro j hj
  cases e:rk j with
  | none=>rfl
  | some r=>
   obtain⟨b,D,e'⟩:=h.wk j hj (by rw [e];simp)
   rw [hph j hj] at e';cases e'
 have hd0:Deaf tr 0=0:=by rw [h.deaf 0 h.root,htok]
 have hst':stepG P (0 == 0) g w=.go g' w #[evM (.acquire ⟨b,0,none⟩)]:=by
  have:=stepE_sh (hst (stV c wt) (smV s)) hsh hbs
  rwa [hsh.two_same] at this
 have hbl:b<w.heap.size:=(Array.getElem?_eq_some_iff.1 hsh).1
 let V1:Hd->View Tk:=setH (joinV V W) (.run 0) ((joinV V W (.run 0)).at 0 .out)
 have v0:V1 (.run 0)=((V (.run 0)).with (W.map λ i=>(V (.dep i)).M).flatten).at 0 .out:=by show setH _ _ _ _=_;rw [setH_same];simp [joinV]
 have v2:∀j,j≠0->V1 (.run j)=V (.run j):=λ j hj=>by show setH _ _ _ _=_;rw [setH_ne _ _ (by intro e;cases e;exact hj rfl)];simp [joinV,hj]
 have vd:∀j,V1 (.dep j)=bare0:=by
  intro j
  show setH _ _ _ _=_
  rw [setH_ne _ _ (by simp)]
  simp only [joinV]
  split
  ·rfl
  ·rename_i hj
   refine h.deps j ?_
   cases e:rel j with
   | none=>rfl
   | some x=>exact absurd (hgi.inW j (.inr (by rw [e];simp))) hj
 have hvi:VI V1 w:=by
  have:=VI.joinAll hgi.nodup h.vi
  have hs:∀k,(V1 k).canW=(joinV V W k).canW/\(V1 k).canR=(joinV V W k).canR:=by
   intro k
   by_cases e:k=.run 0
   ·subst e;rw [show V1 (.run 0)=_ from setH_same ..];exact⟨rfl,rfl⟩
   ·rw [show V1 k=_ from setH_ne _ _ e];exact⟨rfl,rfl⟩
  refine⟨λ k=>?_,λ k_1 k_2 l hn hw hr=>this.sep k_1 k_2 l hn (by rw [<- (hs k_1).1];exact hw) (by rw [<- (hs k_2).2];exact hr)⟩
  by_cases e:k=.run 0
  ·subst e;rw [show V1 (.run 0)=_ from setH_same ..]
   have:=this.ok (.run 0)
   exact⟨this.imm,this.held,this.apart,this.sep⟩
  ·rw [show V1 k=_ from setH_ne _ _ e];exact this.ok k
 have hW:∀k l,(V1 k).canW l->k=.run 0/\((V (.run 0)).canW l\/∃g r,rel g=some r/\(V (.dep g)).canW l):=by
  intro k l hl
  cases k with
  | run j=>
   by_cases e:j=0
   ·subst e
    rw [v0] at hl
    refine⟨rfl,(with_flat.1 hl).imp id λ⟨i,hi,h⟩=>?_⟩
    obtain⟨x,hx⟩:=hrelW i hi
    exact⟨i,x,hx,h⟩
   ·rw [v2 j e] at hl
    obtain⟨b1,b2⟩:=h.bare j (hrkn j e)
    exact absurd hl (no_perm b1 b2 l).1
  | dep j=>rw [vd] at hl;exact absurd hl (bare_canW _ _)
 have hR:∀k l,(V1 k).canR l->k=.run 0/\((V (.run 0)).canR l\/∃g r,rel g=some r/\(V (.dep g)).canR l):=by
  intro k l hl
  cases k with
  | run j=>
   by_cases e:j=0
   ·subst e
    rw [v0] at hl
    refine⟨rfl,(with_flat.2 hl).imp id λ⟨i,hi,h⟩=>?_⟩
    obtain⟨x,hx⟩:=hrelW i hi
    exact⟨i,x,hx,h⟩
   ·rw [v2 j e] at hl
    obtain⟨b1,b2⟩:=h.bare j (hrkn j e)
    exact absurd hl (no_perm b1 b2 l).2
  | dep j=>rw [vd] at hl;exact absurd hl (bare_canR _ _)
 refine⟨_,_,_,V1,updN rk 0 (some r'),λ _=>none,q,runT_crowd_go hi hst',?_,meas_cut behind_size hlt hr λ r'' e=>by cases e;exact hsub,rfl,rfl⟩
 have e0:MemOp.ofEvents 0 g.frame.fn g.frame.place #[evM (.acquire ⟨b,0,none⟩)]=#[{ g:=0,fn:=g.frame.fn,pos:=g.frame.place,act:=.mark (.acquire ⟨b,0,none⟩) }]:=by
  rw [ofEvents_eq];simp [evM,MemAct.ofEvent]
 refine h.go hStop (V':=V1) (rk':=updN rk 0 (some r')) (rel':=λ _=>none) (q':=q) (es:=#[evM (.acquire ⟨b,0,none⟩)]) hi v2 (λ j hj=>updN_ne _ _ hj) (λ _ _=>rfl) (λ _ _=>.inr rfl) (by rw [updN_same];simp) (.inr (.inr hph)) ?_ ?_ (λ j _=>vd j) hvi ?_ ?_
 ·intro r'' e
  rw [updN_same] at e
  cases e
  rw [v0]
  refine⟨hJ,?_,λ h0=>absurd rfl h0⟩
  rw [hd0];rfl
 ·intro e;rw [updN_same] at e;cases e
 ·rw [e0,v0]
  exact h.ti.acquire (y:={ g:=0,fn:=g.frame.fn,pos:=g.frame.place,act:=.mark (.acquire ⟨b,0,none⟩) }) (b:=b) (by rw [htok];rfl) rfl rfl hbl hd0 (λ j=>by
   by_cases e:j=0
   ·subst e;rw [htok];rintro⟨_,_,e⟩;cases e
   ·rw [hph j e];rintro⟨_,_,e⟩;cases e) hW hR
 ·unfold Grp
  rw [v0]
  exact⟨λ j hj=>by rw [v2 j hj];exact hph j hj,λ _=>rfl⟩
theorem MI.start (hStop:∀m g Z,Stop m g Z->g.status=.running) {g g' cg:Goroutine} {r r_1 r_2:Tr} {b:Nat} {ds:List Spec} {D:Spec} {Zp Zc:View Tk} (h:MI P t N Stop (some 0) gs w tr V rk rel q) (hi:gs[0]?=some g) (hr:rk 0=some r)
  (htok:(V (.run 0)).tok=⟨0,.par b ds true .run⟩) (hoff:∀j,Off b (V j)) {W:List Nat} {c wt s:Nat} (hsh:Sh b t (stV c wt) (smV s) w) (hgi:GI N b ds true .run (tkOf V) rel (λ i=>(V (.dep i)).M) W c wt s)
  (hst:stepE P t true g undef undef=.spawn g' cg #[]) (hf:Fork (V (.run 0)) Zp Zc) (hp:Zp.tok=⟨0,.par b (D::ds) false .run⟩) (hc:Zc.tok=⟨0,.wrk b D⟩)
  (h1:Tr.Sub r_1 r) (h2:Tr.Sub r_2 r) (hJ:JR (SysG P t N) Stop r_1 true g' Zp) (hJ':JR (SysG P t N) Stop r_2 false cg Zc):Nxt P t N Stop gs w sl tr rk q 0:=by
 have hlt:=(Array.getElem?_eq_some_iff.1 hi).1
 have hst':stepG P (0 == 0) g w=.spawn g' cg w #[]:=stepE_spawn hst w
 obtain⟨ab1,ab2,ab3⟩:=h.above gs.size (Nat.le_refl _)
 have hc0:gs.size≠0:=by omega
 have hcout:(V (.run gs.size)).tok.ph=.out:=by
  apply Classical.byContradiction
  intro hne
  obtain⟨x,_,hx,_⟩:=h.tail gs.size ab1 hne
  rw [Array.getElem?_eq_none (Nat.le_refl _)] at hx
  cases hx
 have htkc:tkOf V gs.size=.out:=by simp [tkOf,hc0,hcout]
 have hcW:gs.size∉W:=by
  intro hm
  obtain⟨j,hj,e⟩:=List.mem_iff_getElem.1 hm
  have hj':j<ds.length:=by rw [<- hgi.len];exact hj
  rcases hgi.spec j gs.size ds[j] (by rw [List.getElem?_eq_getElem hj,e]) (List.getElem?_eq_getElem hj') with⟨x,_⟩ | ⟨_,⟨x,hx⟩,_⟩
  ·rw [htkc] at x;cases x
  ·rw [ab3] at hx;cases hx
 have hd0:Deaf tr 0=0:=by rw [h.deaf 0 h.root,htok]
 let V1:=setH (setH V (.run 0) Zp) (.run gs.size) Zc
 have v0:V1 (.run 0)=Zp:=by show setH _ _ _ _=_;rw [setH_ne _ _ (λ e=>hc0 (Hd.run.inj e).symm),setH_same]
 have vc:V1 (.run gs.size)=Zc:=setH_same ..
 have v2:∀j,j≠0->j≠gs.size->V1 (.run j)=V (.run j):=λ j hj hj'=>by show setH _ _ _ _=_;rw [setH_ne _ _ (by intro e;cases e;exact hj' rfl),setH_ne _ _ (by intro e;cases e;exact hj rfl)]
 have vd:∀j,V1 (.dep j)=V (.dep j):=λ j=>by show setH _ _ _ _=_;rw [setH_ne _ _ (by simp),setH_ne _ _ (by simp)]
 have hvi:VI V1 w:=h.vi.fork hf (λ e=>hc0 (Hd.run.inj e).symm)
 have hW:∀k l,(V1 k).canW l->(V k).canW l\/(k=.run gs.size/\(V (.run 0)).canW l):=by
  intro k l hl
  cases k with
  | run j=>
   by_cases e:j=0
   ·subst e;rw [v0] at hl;exact .inl (hf.wp l hl)
   ·by_cases e2:j=gs.size
    ·subst e2;rw [vc] at hl;exact .inr ⟨rfl,hf.wc l hl⟩
    ·rw [v2 j e e2] at hl;exact .inl hl
  | dep j=>rw [vd] at hl;exact .inl hl
 have hR:∀k l,(V1 k).canR l->(V k).canR l\/(k=.run gs.size/\(V (.run 0)).canR l):=by
  intro k l hl
  cases k with
  | run j=>
   by_cases e:j=0
   ·subst e;rw [v0] at hl;exact .inl (hf.rp l hl)
   ·by_cases e2:j=gs.size
    ·subst e2;rw [vc] at hl;exact .inr ⟨rfl,hf.rc l hl⟩
    ·rw [v2 j e e2] at hl;exact .inl hl
  | dep j=>rw [vd] at hl;exact .inl hl
 let y:MemOp:={ g:=0,fn:=g.frame.fn,pos:=g.frame.place,act:=.go gs.size }
 let z:MemOp:={ g:=gs.size,fn:=cg.frame.fn,pos:=g.frame.place,act:=.start }
 have hops:((MemOp.ofEvents 0 g.frame.fn g.frame.place #[]).push y).push z=#[y,z]:=by rw [ofEvents_eq];simp
 have hDf:∀j,Deaf (tr++#[y,z]) j=Deaf tr j:=by
  intro j
  have e:tr++#[y,z]=(tr++#[y])++#[z]:=by apply Array.ext';simp
  rw [e,Deaf_push,Deaf_push]
  rfl
 have hrun':=hJ.running hStop
 refine⟨_,_,_,V1,updN (updN rk 0 (some r_1)) gs.size (some r_2),rel,q,runT_crowd_spawn hi hst',?_,?_,rfl,rfl⟩
 ·show MI P t N Stop none ((gs.setIfInBounds 0 g').push cg) w (tr++((MemOp.ofEvents 0 g.frame.fn g.frame.place #[]).push y).push z) V1 _ rel q
  rw [hops]
  have hat:∀j x,((gs.setIfInBounds 0 g').push cg)[j]?=some x->(j=0/\x=g')\/(j=gs.size/\x=cg)\/(j≠0/\j≠gs.size/\gs[j]?=some x):=by
   intro j x hx
   rw [Array.getElem?_push] at hx
   simp only [Array.size_setIfInBounds] at hx
   split at hx
   ·rename_i e;subst e;cases hx;exact .inr (.inl ⟨rfl,rfl⟩)
   ·rename_i e
    by_cases e0:j=0
    ·subst e0
     simp [hlt] at hx
     exact .inl ⟨rfl,hx.symm⟩
    ·rw [Array.getElem?_setIfInBounds_ne (Ne.symm e0)] at hx
     exact .inr (.inr ⟨e0,e,hx⟩)
  have hat0:((gs.setIfInBounds 0 g').push cg)[0]?=some g':=by
   rw [Array.getElem?_push];simp [hlt,Ne.symm hc0]
  have hatc:((gs.setIfInBounds 0 g').push cg)[gs.size]?=some cg:=by
   rw [Array.getElem?_push];simp
  have hatj:∀j,j≠0->j≠gs.size->((gs.setIfInBounds 0 g').push cg)[j]?=gs[j]?:=by
   intro j h0 h1
   rw [Array.getElem?_push]
   simp only [Array.size_setIfInBounds,if_neg h1]
   exact Array.getElem?_setIfInBounds_ne (Ne.symm h0)
  have hrk:∀j,j≠0->j≠gs.size->updN (updN rk 0 (some r_1)) gs.size (some r_2) j=rk j:=λ j h0 h1=>by rw [updN_ne _ _ h1,updN_ne _ _ h0]
  have hrk0:updN (updN rk 0 (some r_1)) gs.size (some r_2) 0=some r_1:=by rw [updN_ne _ _ (Ne.symm hc0),updN_same]
  have hrkc:updN (updN rk 0 (some r_1)) gs.size (some r_2) gs.size=some r_2:=updN_same ..
  refine⟨?_,by rw [hrk0];simp,?_,?_,?_,?_,?_,?_,?_,λ j hj=>by rw [vd];exact h.deps j hj,hvi,?_,?_⟩
  ·intro j r'' _ hr''
   by_cases e0:j=0
   ·subst e0;rw [hrk0] at hr'';cases hr''
    exact⟨g',by rw [v0];exact hJ,.inl hat0⟩
   ·by_cases e1:j=gs.size
    ·subst e1;rw [hrkc] at hr'';cases hr''
     exact⟨cg,by rw [vc,show (gs.size == 0)=false by simpa using hc0];exact hJ',.inl hatc⟩
    ·rw [hrk j e0 e1] at hr''
     obtain⟨x,k1,k2⟩:=h.live j r'' (λ e'=>e0 (Option.some.inj e').symm) hr''
     refine⟨x,by rw [v2 j e0 e1];exact k1,?_⟩
     rcases k2 with k2 | ⟨e,_⟩
     ·exact .inl (by rw [hatj j e0 e1];exact k2)
     ·exact absurd e e0
  ·intro j x hj hx hp'
   have e0:j≠0:=λ e=>by subst e;rw [hrk0] at hj;cases hj
   have e1:j≠gs.size:=λ e=>by subst e;rw [hrkc] at hj;cases hj
   rw [hrk j e0 e1] at hj
   rw [hatj j e0 e1] at hx
   rw [v2 j e0 e1] at hp'
   rw [hDf];exact h.gone j x hj hx hp'
  ·intro j hj hp'
   have e0:j≠0:=λ e=>by subst e;rw [hrk0] at hj;cases hj
   have e1:j≠gs.size:=λ e=>by subst e;rw [hrkc] at hj;cases hj
   rw [hrk j e0 e1] at hj
   rw [v2 j e0 e1] at hp'
   obtain⟨x,b',k1,k2,k3⟩:=h.tail j hj hp'
   refine⟨x,b',by rw [hatj j e0 e1];exact k1,?_,by rw [hDf,v2 j e0 e1];exact k3⟩
   rw [v0,hp];rw [htok] at k2;exact k2
  ·intro j hj
   simp at hj
   rw [hrk j (by omega) (by omega),hDf]
   exact h.above j (by omega)
  ·intro j hj
   have e0:j≠0:=λ e=>by subst e;rw [hrk0] at hj;cases hj
   have e1:j≠gs.size:=λ e=>by subst e;rw [hrkc] at hj;cases hj
   rw [hrk j e0 e1] at hj
   rw [v2 j e0 e1];exact h.bare j hj
  ·intro j h0 hj
   by_cases e1:j=gs.size
   ·subst e1;rw [vc,hc];exact⟨b,D,rfl⟩
   ·rw [hrk j h0 e1] at hj;rw [v2 j h0 e1];exact h.wk j h0 hj
  ·intro j hj
   by_cases e0:j=0
   ·subst e0;rw [hrk0];simp
   ·by_cases e1:j=gs.size
    ·subst e1;rw [hrkc];simp
    ·rw [v2 j e0 e1] at hj;rw [hrk j e0 e1];exact h.wk' j hj
  ·intro j hj
   rw [hDf]
   by_cases e0:j=0
   ·subst e0;rw [v0,hp,hd0]
   ·by_cases e1:j=gs.size
    ·subst e1;rw [vc,hc,ab2]
    ·rw [hrk j e0 e1] at hj;rw [v2 j e0 e1];exact h.deaf j hj
  ·have hti:=h.ti
   rw [htok] at hti
   rw [v0,hp]
   refine hti.fork (y:=y) (z:=z) (c:=gs.size) rfl rfl rfl rfl hd0 ab2 hc0 ?_ ?_ hW hR
   ·rintro j (rfl | hj)
    ·exact .inl (.inl rfl)
    ·by_cases e0:j=0
     ·exact .inl (.inl e0)
     ·by_cases e1:j=gs.size
      ·exact .inr ⟨e1,.inl rfl⟩
      ·rw [v2 j e0 e1] at hj;exact .inl (.inr hj)
   ·intro j hj
    by_cases e0:j=0
    ·subst e0;rw [htok] at hj;obtain⟨_,_,e⟩:=hj;cases e
    ·by_cases e1:j=gs.size
     ·subst e1;rw [hcout] at hj;obtain⟨_,_,e⟩:=hj;cases e
     ·rw [v2 j e0 e1];exact hj
  ·unfold Grp
   rw [v0,hp]
   have hk':tkOf V1=updN (tkOf V) gs.size (.wrk b D):=by
    funext j
    by_cases e1:j=gs.size
    ·subst e1;simp only [tkOf,if_neg hc0,vc,hc,updN_same]
    ·rw [updN_ne _ _ e1]
     by_cases e0:j=0
     ·simp [tkOf,e0]
     ·simp only [tkOf,if_neg e0,v2 j e0 e1]
   refine⟨λ j a ha ho hrd=>?_,gs.size::W,c,wt,s,hsh,?_,λ x hx hns=>?_⟩
   ·rcases hR _ _ hrd with k1 | ⟨_,k1⟩
    ·exact hoff _ a ha ho k1
    ·exact hoff _ a ha ho k1
   ·rw [hk']
    simp only [vd]
    exact hgi.go htkc ab3 hcW
   ·rw [hat0] at hx;cases hx;exact absurd hrun' hns
 ·show Falls (meas ((gs.setIfInBounds 0 g').push cg) _ q) (meas gs rk q)
  unfold meas
  have e:((gs.setIfInBounds 0 g').push cg).size=gs.size+1:=by simp
  rw [e]
  exact Falls.cut (cut_two hlt hr h1 h2)
end
section
variable {P:Program} {t:TypeId} {N:Nat} {Stop:Stp Tk} {gs:Array Goroutine} {w:World} {tr:Trace} {V V':Hd->View Tk} {rk:Nat->Option Tr} {rel:Nat->Option Nat} {q:Nat->Nat} {sl:Option (Nat×Nat)}
theorem MI.make {g:Goroutine} {r':Tr} {b:Nat} {M₁ M₂:List Res} (h:MI P t N Stop (some 0) gs w tr V rk rel q) (hi:gs[0]?=some g) (htok:(V (.run 0)).tok=⟨0,.out⟩)
  (hM:(V (.run 0)).M=M₁++.obj b (.cells #[stV 0 0,smV 0] t (0,0))::M₂) (hJ:JR (SysG P t N) Stop r' true g { (V (.run 0)) with M:=M₁++M₂,tok:=⟨0,.par b [] false .run⟩ }) :
  MI P t N Stop none gs w tr (setH V (.run 0) { (V (.run 0)) with M:=M₁++M₂,tok:=⟨0,.par b [] false .run⟩ }) (updN rk 0 (some r')) rel q:=by
 have hG:=h.grp
 unfold Grp at hG
 rw [htok] at hG
 obtain⟨hph,hrel⟩:=hG
 have hok:=h.vi.ok (.run 0)
 let Z2:View Tk:={ (V (.run 0)) with M:=M₁++M₂,tok:=⟨0,.par b [] false .run⟩ }
 have v0:setH V (.run 0) Z2 (.run 0)=Z2:=setH_same ..
 have v2:∀j,j≠0->setH V (.run 0) Z2 (.run j)=V (.run j):=λ j hj=>setH_ne _ _ (λ e=>hj (Hd.run.inj e))
 have vd:∀j,setH V (.run 0) Z2 (.dep j)=V (.dep j):=λ j=>setH_ne _ _ (by simp)
 have hsub:∀x,x∈M₁++M₂->x∈(V (.run 0)).M:=by
  intro x hx
  rw [hM]
  rcases List.mem_append.1 hx with hx | hx
  ·exact List.mem_append_left _ hx
  ·exact List.mem_append_right _ (List.mem_cons_of_mem _ hx)
 have hmem:Res.obj b (.cells #[stV 0 0,smV 0] t (0,0))∈(V (.run 0)).M:=by rw [hM];simp
 have hsh:Sh b t (stV 0 0) (smV 0) w:=hok.held _ hmem
 have hw2:∀l,Z2.canW l->(V (.run 0)).canW l:=λ l hl=>by
  obtain⟨x,hx,hl⟩:=canW_iff.1 hl
  exact canW_iff.2 ⟨x,hsub x hx,hl⟩
 have hr2:∀l,Z2.canR l->(V (.run 0)).canR l:=λ l hl=>by
  rcases canR_iff.1 hl with⟨x,hx,hl⟩ | hl
  ·exact canR_iff.2 (.inl ⟨x,hsub x hx,hl⟩)
  ·exact canR_iff.2 (.inr hl)
 have hap:=hok.apart
 rw [hM] at hap
 obtain⟨p1,p2,p3⟩:=List.pairwise_append.1 hap
 obtain⟨p4,p5⟩:=List.pairwise_cons.1 p2
 have happ:∀x∈M₁++M₂,x.blk≠b:=by
  intro x hx e
  rcases List.mem_append.1 hx with hx | hx
  ·have:=p3 x hx (.obj b (.cells #[stV 0 0,smV 0] t (0,0))) (by simp)
   cases x <;> simp only [Res.apart,Res.blk] at this e <;> exact this e
  ·have:=p4 x hx
   cases x <;> simp only [Res.apart,Res.blk] at this e <;> exact this e.symm
 have hok2:Z2.ok w:=⟨hok.imm,λ x hx=>hok.held x (hsub x hx),List.pairwise_append.2 ⟨p1,p5,λ x hx y hy=>p3 x hx y (List.mem_cons_of_mem _ hy)⟩,λ x hx=>hok.sep x (hsub x hx)⟩
 have hcw:∀a:Addr,a.block=b->a.off<2->(V (.run 0)).canW (.cell a):=λ a ha ho=>canW_iff.2 ⟨_,hmem,ha,ho⟩
 have hW:∀k l,(setH V (.run 0) Z2 k).canW l->(V k).canW l:=by
  intro k l hl
  by_cases e:k=.run 0
  ·subst e;rw [v0] at hl;exact hw2 l hl
  ·rwa [setH_ne _ _ e] at hl
 have hR:∀k l,(setH V (.run 0) Z2 k).canR l->(V k).canR l:=by
  intro k l hl
  by_cases e:k=.run 0
  ·subst e;rw [v0] at hl;exact hr2 l hl
  ·rwa [setH_ne _ _ e] at hl
 have hoff:∀k,Off b (setH V (.run 0) Z2 k):=by
  intro k a ha ho hrd
  by_cases e:k=.run 0
  ·subst e
   rw [v0] at hrd
   rcases canR_iff.1 hrd with⟨x,hx,hl⟩ | ⟨c,ty,fr,hI,_⟩
   ·have:=happ x hx
    cases x with
    | obj b' o=>
     cases o <;> simp only [Res.lets] at hl
     exact this (by rw [Res.blk,<- hl.1,ha])
    | cell b' i' v ty n=>simp only [Res.lets] at hl;exact this (by rw [Res.blk,<- hl.1,ha])
   ·have:=hok.sep _ hmem
    rw [Res.blk,<- ha] at this
    have hI':(V (.run 0)).I a.block=some (.cells c ty fr):=hI
    rw [this] at hI';cases hI'
  ·rw [setH_ne _ _ e] at hrd
   exact h.vi.sep (.run 0) k _ (Ne.symm e) (hcw a ha ho) hrd
 have hT:∀j,j≠0->(setH V (.run 0) Z2 (.run j)).tok.ph=.out:=λ j hj=>by rw [v2 j hj];exact hph j hj
 have hrk:∀j,j≠0->updN rk 0 (some r') j=rk j:=λ j hj=>updN_ne _ _ hj
 refine⟨?_,by rw [updN_same];simp,?_,?_,?_,?_,?_,?_,?_,λ j hj=>by rw [vd];exact h.deps j hj,?_,?_,?_⟩
 ·intro j r'' _ hr''
  by_cases e:j=0
  ·subst e;rw [updN_same] at hr'';cases hr''
   exact⟨g,by rw [v0];exact hJ,.inl hi⟩
  ·rw [hrk j e] at hr''
   obtain⟨x,k1,k2⟩:=h.live j r'' (λ e'=>e (Option.some.inj e').symm) hr''
   refine⟨x,by rw [v2 j e];exact k1,?_⟩
   rcases k2 with k2 | ⟨e',_⟩
   ·exact .inl k2
   ·exact absurd e' e
 ·intro j x hj hx _
  have e:j≠0:=λ e=>by subst e;rw [updN_same] at hj;cases hj
  rw [hrk j e] at hj
  exact h.gone j x hj hx (hph j e)
 ·intro j hj hp
  have e:j≠0:=λ e=>by subst e;rw [updN_same] at hj;cases hj
  exact absurd (hT j e) hp
 ·intro j hj
  have e:j≠0:=by have:=(Array.getElem?_eq_some_iff.1 hi).1;omega
  rw [hrk j e];exact h.above j hj
 ·intro j hj
  have e:j≠0:=λ e=>by subst e;rw [updN_same] at hj;cases hj
  rw [hrk j e] at hj
  rw [v2 j e];exact h.bare j hj
 ·intro j h0 hj
  rw [hrk j h0] at hj
  rw [v2 j h0];exact h.wk j h0 hj
 ·intro j hj
  by_cases e:j=0
  ·subst e;rw [updN_same];simp
  ·rw [hT j e] at hj;obtain⟨_,_,e'⟩:=hj;cases e'
 ·intro j hj
  by_cases e:j=0
  ·subst e;rw [v0];rw [h.deaf 0 h.root,htok]
  ·rw [hrk j e] at hj;rw [v2 j e];exact h.deaf j hj
 ·refine⟨λ k=>?_,λ k_1 k_2 l hn hw hrd=>h.vi.sep k_1 k_2 l hn (hW _ _ hw) (hR _ _ hrd)⟩
  by_cases e:k=.run 0
  ·subst e;rw [v0];exact hok2
  ·rw [setH_ne _ _ e];exact h.vi.ok k
 ·have hti:=h.ti
  rw [htok] at hti
  rw [v0]
  have:=hti.create (b:=b) (W':=λ k=>(setH V (.run 0) Z2 k).canW) (R':=λ k=>(setH V (.run 0) Z2 k).canR) hrel hcw hW hR
  have e3:(λ j=>isW (setH V (.run 0) Z2 (.run j)).tok.ph)=λ j=>isW (V (.run j)).tok.ph:=by
   funext j
   by_cases e:j=0
   ·subst e;rw [v0,htok]
    refine propext ⟨?_,?_⟩ <;> (rintro⟨_,_,e⟩;cases e)
   ·rw [v2 j e]
  rw [e3]
  refine this.turn (λ _ _ h=>h) (λ _ _ h=>h) ?_
  rintro j (rfl | hj)
  ·rfl
  ·apply Classical.byContradiction
   intro e
   exact hj (hT j e)
 ·unfold Grp
  rw [v0]
  refine⟨hoff,[],0,0,0,hsh,?_,λ _ _ _=>rfl⟩
  refine GI.start (λ i=>?_) hrel
  by_cases e:i=0
  ·simp [tkOf,e]
  ·simp only [tkOf,if_neg e];exact hT i e
def Fin (P:Program) (Q:Value->View Tk->Prop):Stp Tk:=λ m g Z=>m=true/\g.status=.running/\Z.tok=⟨0,.out⟩/\∃v,Q v Z/\∀w,Z.ok w->∃es,stepG P true g w=.ended (.done v) w es/\∀e∈es,EvOk Z w e/\LowE w e
variable {Q:Value->View Tk->Prop}
theorem Fin.running:∀m g Z,Fin P Q m g Z->g.status=.running:=λ _ _ _ h=>h.2.1
def Nx (P:Program) (t:TypeId) (N:Nat) (Stop:Stp Tk) (gs:Array Goroutine) (w:World) (sl:Option (Nat×Nat)) (tr:Trace) (μ:List Tr×Nat) (i:Nat):Prop:=
 ∃gs' w' ops V' rk' rel' q',runT P (crowd gs w sl) i=(.next (crowd gs' w' sl),ops)/\MI P t N Stop none gs' w' (tr++ops) V' rk' rel' q'/\Relation.TransGen Falls (meas gs' rk' q') μ/\w'.os=w.os/\w'.output=w.output
theorem Nxt.nx {i:Nat} (h:Nxt P t N Stop gs w sl tr rk q i):Nx P t N Stop gs w sl tr (meas gs rk q) i:=
 let ⟨gs',w',ops,V',rk',rel',q',a,b,c,d⟩:=h;⟨gs',w',ops,V',rk',rel',q',a,b,.single c,d⟩
def Ends (P:Program) (t:TypeId) (N:Nat) (Q:Value->View Tk->Prop) (gs:Array Goroutine) (w:World) (tr:Trace) (g:Goroutine):Prop:=
 ∃V rk rel q,MI P t N (Fin P Q) (some 0) gs w tr V rk rel q/\Fin P Q true g (V (.run 0))
theorem MI.alive:∀(r:Tr) {i:Nat} {g:Goroutine} {V:Hd->View Tk} {rk:Nat->Option Tr},MI P t N (Fin P Q) none gs w tr V rk rel q->gs[i]?=some g->g.status=.running->rk i=some r ->
  (i=0/\Ends P t N Q gs w tr g)\/Nx P t N (Fin P Q) gs w sl tr (meas gs rk q) i:=by
 intro r
 induction r using Tr.sub_wf.induction with
 | _ r ih=>
  intro i g V rk h hi hrun hr
  have hlt:=(Array.getElem?_eq_some_iff.1 hi).1
  obtain⟨g_1,hJ,hg⟩:=h.live i r (by simp) hr
  have:g_1=g:=by
   rcases hg with hg | ⟨_,hg,_⟩
   ·rw [hi] at hg;exact (Option.some.inj hg).symm
   ·rw [hi] at hg;cases hg;cases hrun
  subst this
  have hJr:=hJ
  obtain⟨Z1,hs,hJ⟩:=hJ.step
  have h1:=h.shift hr hs
  have hZ:setH V (.run i) Z1 (.run i)=Z1:=setH_same ..
  generalize setH V (.run i) Z1=V1 at h1 hZ
  subst hZ
  rcases hJ with hJ | hJ | hJ
  ·have hi0:i=0:=by have:=hJ.1;simpa using this
   subst hi0
   exact .inl ⟨rfl,V1,rk,rel,q,h1,hJ⟩
  ·exact .inr (h1.priv Fin.running hi hr hJ).nx
  ·have hJ:Syn P t N _ (i == 0) g_1 (V1 (.run i)):=hJ
   generalize hm:(i == 0)=m at hJ
   have par:∀{d b ds pend k},i=0->(V1 (.run i)).tok=⟨d,.par b ds pend k⟩->(∀j,Off b (V1 j))/\∃W c wt s,Sh b t (stV c wt) (smV s) w/\GI N b ds pend k (tkOf V1) rel (λ i=>(V1 (.dep i)).M) W c wt s:=by
    intro d b ds pend k e0 ht
    subst e0
    obtain⟨ds',pend',k',e1,e2,W,c,wt,s,e3,e4,_⟩:=h1.par' (b:=b) (by rw [ht];rfl)
    rw [ht] at e1
    cases e1
    exact⟨e2,W,c,wt,s,e3,e4⟩
   have hri:rk i≠none:=by rw [hr];simp
   have parZ:∀{d b ds pend k},(V1 (.run i)).tok=⟨d,.par b ds pend k⟩->i=0/\m=true:=by
    intro d b ds pend k ht
    have e0:i=0:=by
     apply Classical.byContradiction
     intro hne
     obtain⟨_,_,e⟩:=h1.wk i hne hri
     rw [ht] at e;cases e
    exact⟨e0,by subst e0;exact hm.symm⟩
   have outZ:(V1 (.run i)).tok=⟨0,.out⟩->i=0/\m=true:=by
    intro ht
    have e0:i=0:=by
     apply Classical.byContradiction
     intro hne
     obtain⟨_,_,e⟩:=h1.wk i hne hri
     rw [ht] at e;cases e
    exact⟨e0,by subst e0;exact hm.symm⟩
   have cases0:m=true->i=0:=λ e=>by subst e;simpa using hm
   have cases1:m=false->i≠0:=λ e=>by subst e;simpa using hm
   have tok0:i=0->∃d b ds pend k,((V1 (.run i)).tok=⟨d,.par b ds pend k⟩\/(V1 (.run i)).tok.ph=.out):=by
    intro e0
    subst e0
    have hG:=h1.grp
    unfold Grp at hG
    generalize (V1 (.run 0)).tok=tk at hG
    obtain⟨d,p⟩:=tk
    cases p with
    | out=>exact⟨0,0,[],false,.run,.inr rfl⟩
    | par b ds pend k=>exact⟨d,b,ds,pend,k,.inl rfl⟩
    | _=>exact hG.elim
   cases hJ with
   | quiet hs' hb hst hbs k=>
    rename_i b bs g'
    obtain⟨r',hsub,k⟩:=k
    cases m with
    | true=>
     have e0:=cases0 rfl
     subst e0
     obtain⟨d,b',ds,pend,kk,ht | ht⟩:=tok0 rfl
     ·rw [ht] at hb
      cases hb
      obtain⟨hoff,W,c,wt,s,hsh,hgi⟩:=par rfl ht
      refine .inr (h1.parent Fin.running hi hr ht hoff hsh (hst _ _) hbs (by simp) (deafBehind_nil _) hgi hsub ?_).nx
      have:(V1 (.run 0)).at d (.par b ds pend kk)=V1 (.run 0):=by simp only [View.at,<- ht]
      rw [this];exact k
     ·rw [ht] at hb;cases hb
    | false=>
     have e0:=cases1 rfl
     exact .inr (h1.calm Fin.running hi hr e0 hb hst hbs hsub k).nx
   | dis hs' ht hst hbs k=>
    obtain⟨r',hsub,k⟩:=k
    obtain⟨e0,em⟩:=parZ ht
    subst e0;subst em
    obtain⟨hoff,W,c,wt,s,hsh,hgi⟩:=par rfl ht
    exact .inr (h1.parent Fin.running hi hr ht hoff hsh (hst _ _) hbs (by intro e he;simp at he;subst he;exact .inl rfl) rfl hgi hsub k).nx
   | ena hs' ht hst hbs k=>
    obtain⟨r',hsub,k⟩:=k
    obtain⟨e0,em⟩:=parZ ht
    subst e0;subst em
    obtain⟨hoff,W,c,wt,s,hsh,hgi⟩:=par rfl ht
    exact .inr (h1.parent Fin.running hi hr ht hoff hsh (hst _ _) hbs (by intro e he;simp at he;subst he;exact .inl rfl) rfl hgi hsub k).nx
   | add hs' ht hN hst=>
    obtain⟨e0,em⟩:=parZ ht
    subst e0;subst em
    obtain⟨hoff,W,c,wt,s,hsh,hgi⟩:=par rfl ht
    obtain⟨rfl,rfl,-⟩:=hgi.state
    have hc:=hgi.cN
    simp at hc
    obtain⟨g',bs,hst,hbs,r',hsub,k⟩:=hst c hc
    exact .inr (h1.parent Fin.running hi hr ht hoff hsh hst hbs (by intro e he;simp at he;rcases he with rfl | rfl <;> exact .inr (.inl ⟨0,_,by omega,rfl⟩)) rfl (hgi.add hN) hsub k).nx
   | said hs' ht hst hbs k=>
    rename_i b ds pend kk bs g' wr
    obtain⟨r',hsub,k⟩:=k
    obtain⟨e0,em⟩:=parZ ht
    subst e0;subst em
    obtain⟨hoff,W,c,wt,s,hsh,hgi⟩:=par rfl ht
    refine .inr (h1.parent Fin.running (d':=1) hi hr ht hoff hsh (hst _ _) hbs (by intro e he;simp at he;subst he;exact .inr (.inr ⟨rfl,1,wr,by omega,rfl⟩)) (by cases wr <;> rfl) hgi hsub ?_).nx
    have:(V1 (.run 0)).at 1 (.par b ds pend kk)=V1 (.run 0):=by simp only [View.at,<- ht]
    rw [this];exact k
   | look hs' ht hk hst=>
    rename_i b ds k0 u
    obtain⟨e0,em⟩:=parZ ht
    subst e0;subst em
    obtain⟨hoff,W,c,wt,s,hsh,hgi⟩:=par rfl ht
    obtain⟨hc,rfl,rfl,-⟩:=hgi.seeU hk
    obtain⟨g',bs,hbs,⟨hst,⟨r',hsub,k⟩ | ⟨rfl,r',hsub,k⟩⟩ | ⟨hc1,hst,r',hsub,k⟩⟩:=hst c hc
    ·refine .inr (h1.parent Fin.running (d':=1) hi hr ht hoff hsh hst hbs (by intro e he;simp at he;subst he;exact .inr (.inl ⟨0,_,by omega,rfl⟩)) rfl (hgi.toSeen hk) hsub k).nx
    ·exact .inr (h1.parent Fin.running (d':=1) hi hr ht hoff hsh hst hbs (by intro e he;simp at he;subst he;exact .inr (.inl ⟨0,_,by omega,rfl⟩)) rfl (hgi.toUp hk) hsub k).nx
    ·exact .inr (h1.parent Fin.running (d':=1) hi hr ht hoff hsh hst hbs (by intro e he;simp at he;rcases he with rfl | rfl <;> exact .inr (.inl ⟨0,_,by omega,rfl⟩)) rfl (hgi.toWait hk hc1) hsub k).nx
   | sema hs' ho ht h0 hst=>
    rename_i b ds
    obtain⟨e0,em⟩:=parZ ht
    subst e0;subst em
    have htV:(V (.run 0)).tok=⟨1,.par b ds false .wait⟩:=hs.1.symm.trans ht
    obtain⟨ds',pend',kk',e1,hoffV,W',c',wt',s',hshV,hgiV,_⟩:=h.par' (b:=b) (by rw [htV];rfl)
    rw [htV] at e1
    cases e1
    have hs01:s'=0\/s'=1:=by
     rcases hgiV.state.2 with⟨_,_,h3,_⟩ | ⟨_,i0,j0,_,⟨_,_,h3⟩ | ⟨_,_,h3⟩⟩ | ⟨_,_,h3,_⟩ <;> omega
    rcases hs01 with rfl | rfl
    ·obtain⟨bs,hbs,hst⟩:=h0 (stV c' wt')
     have hx:MI P t N (Fin P Q) (some 0) gs w tr V rk rel q:={ h with live:=λ j r _ hr=>h.live j r (by simp) hr }
     exact .inr (hx.block hi hrun ho hr htV hoffV hshV hgiV hst hbs hJr).nx
    ·obtain⟨hoff,W,c,wt,s,hsh,hgi⟩:=par rfl ht
     have hs1:s=1:=by
      have:some (Obj.cells #[stV c' wt',smV 1] t (0,0))=some (Obj.cells #[stV c wt,smV s] t (0,0)):=hshV.symm.trans hsh
      simp [smV] at this
      omega
     subst hs1
     obtain⟨hgi',rfl,rfl,-⟩:=hgi.sema
     obtain⟨g',bs,hbs,hst,r',hsub,k⟩:=hst
     exact .inr (h1.parent Fin.running (d':=1) hi hr ht hoff hsh hst hbs (by intro e he;simp at he;rcases he with rfl | rfl | rfl | rfl <;> first | exact .inl rfl | exact .inr (.inl ⟨1,_,by omega,rfl⟩)) rfl hgi' hsub k).nx
   | look2 hs' ht hbs hst k=>
    rename_i b ds bs g'
    obtain⟨r',hsub,k⟩:=k
    obtain⟨e0,em⟩:=parZ ht
    subst e0;subst em
    obtain⟨hoff,W,c,wt,s,hsh,hgi⟩:=par rfl ht
    obtain⟨-,rfl,rfl,rfl,-⟩:=hgi.up
    refine .inr (h1.parent Fin.running (d':=1) hi hr ht hoff hsh hst hbs (by intro e he;simp at he;subst he;exact .inr (.inl ⟨0,_,by omega,rfl⟩)) rfl hgi hsub ?_).nx
    have:(V1 (.run 0)).at 1 (.par b ds false .up)=V1 (.run 0):=by simp only [View.at,<- ht]
    rw [this];exact k
   | acq hs' ht hbs hst k=>
    obtain⟨e0,em⟩:=parZ ht
    subst e0;subst em
    obtain⟨hoff,W,c,wt,s,hsh,hgi⟩:=par rfl ht
    exact .inr (h1.take Fin.running hi hr ht hsh hgi hst hbs k).nx
   | make ht hM k=>
    obtain⟨r',hsub,k⟩:=k
    obtain⟨e0,em⟩:=outZ ht
    subst e0;subst em
    have h2:=h1.make hi ht hM k
    rcases ih r' hsub h2 hi hrun (updN_same ..) with h3 | ⟨gs',w',ops,V',rk',rel',q',a,b,c,dd⟩
    ·exact .inl h3
    ·refine .inr ⟨gs',w',ops,V',rk',rel',q',a,b,c.tail ?_,dd⟩
     exact meas_cut rfl hlt hr λ r'' e=>by cases e;exact hsub
   | go hs' ht hst hf hp hc k k'=>
    obtain⟨r_1,s1,k⟩:=k
    obtain⟨r_2,s2,k'⟩:=k'
    obtain⟨e0,em⟩:=parZ ht
    subst e0;subst em
    obtain⟨hoff,W,c,wt,s,hsh,hgi⟩:=par rfl ht
    exact .inr (h1.start Fin.running hi hr ht hoff hsh hgi hst hf hp hc s1 s2 k k').nx
   | lay hs' ht hD hbs hst k=>
    obtain⟨n,k⟩:=k
    have e0:i≠0:=by
     intro e;subst e
     obtain⟨_,_,_,_,_,ht' | ht'⟩:=tok0 rfl
     ·rw [ht] at ht';cases ht'
     ·rw [ht] at ht';cases ht'
    have em:m=false:=by rw [<- hm];simpa using e0
    subst em
    exact .inr (h1.lay Fin.running hi hr e0 ht hD hst hbs k).nx
end
section
variable {P:Program} {t:TypeId} {N:Nat} {gs:Array Goroutine} {w:World} {tr:Trace} {V:Hd->View Tk} {rk:Nat->Option Tr} {rel:Nat->Option Nat} {q:Nat->Nat} {sl:Option (Nat×Nat)} {Q:Value->View Tk->Prop}
theorem Sh.at {b:Nat} {st sm:Value} (h:Sh b t st sm w) (d:Nat):Sh b t st sm (w.at d):=h
theorem MI.at {ex:Option Nat} {Stop:Stp Tk} (h:MI P t N Stop ex gs w tr V rk rel q) (d:Nat):MI P t N Stop ex gs (w.at d) tr V rk rel q:=by
 refine⟨h.live,h.root,h.gone,h.tail,h.above,h.bare,h.wk,h.wk',h.deaf,h.deps,h.vi.heap rfl,h.ti,?_⟩
 have hG:=h.grp
 unfold Grp at hG ⊢
 revert hG
 cases (V (.run 0)).tok.ph with
 | par b ds pend k=>exact λ hG=>hG
 | _=>exact λ hG=>hG
theorem MI.status (h:MI P t N (Fin P Q) none gs w tr V rk rel q) {i:Nat} {g:Goroutine} (hi:gs[i]?=some g):g.status=.running\/g.status=.blocked\/g.status=.finished:=by
 cases hr:rk i with
 | some r=>
  obtain⟨g_1,hJ,hg⟩:=h.live i r (by simp) hr
  have:=hJ.running Fin.running
  rcases hg with hg | ⟨_,hg,_⟩
  ·rw [hi] at hg;cases hg;exact .inl this
  ·rw [hi] at hg;cases hg;exact .inr (.inl rfl)
 | none=>
  by_cases hp:(V (.run i)).tok.ph=.out
  ·exact (h.gone i g hr hi hp).status.elim .inl λ x=>.inr (.inr x)
  ·obtain⟨x,b,hx,_,ht⟩:=h.tail i hr hp
   rw [hi] at hx;cases hx
   exact .inl ht.running
theorem MI.someone (h:MI P t N (Fin P Q) none gs w tr V rk rel q):∃(i:Nat) (g:Goroutine),gs[i]?=some g/\g.status=.running:=by
 obtain⟨r,hr⟩:=Option.ne_none_iff_exists'.1 h.root
 obtain⟨g,hJ,hg⟩:=h.live 0 r (by simp) hr
 have hrun:=hJ.running Fin.running
 rcases hg with hg | ⟨_,hg,_,b,ds,ht⟩
 ·exact⟨0,g,hg,hrun⟩
 ·obtain⟨ds',pend,k,e,_,W,c,wt,s,_,hgi,h4⟩:=h.par' (b:=b) (by rw [ht];rfl)
  rw [ht] at e
  cases e
  have hs:=h4 _ hg (by simp)
  subst hs
  obtain⟨i,hi⟩:=hgi.someone
  have hi0:i≠0:=λ e=>hi (by simp [tkOf,e])
  have hp:(V (.run i)).tok.ph≠.out:=by simpa [tkOf,hi0] using hi
  cases hr':rk i with
  | some r'=>
   obtain⟨x,hJ',hx⟩:=h.live i r' (by simp) hr'
   rcases hx with hx | ⟨e,_⟩
   ·exact⟨i,x,hx,hJ'.running Fin.running⟩
   ·exact absurd e hi0
  | none=>
   obtain⟨x,b',hx,_,htl⟩:=h.tail i hr' hp
   exact⟨i,x,hx,htl.running⟩
theorem MI.move (h:MI P t N (Fin P Q) none gs w tr V rk rel q) :
  (∃o w' ops,stepT P (crowd gs w sl)=(.ended o w',ops)/\Conc.Good P (λ v W'=>∃Z,Q v Z/\Z.ok W'/\W'.os=w.os/\W'.output=w.output) (crowd gs w sl) o w' (tr++ops)) \/
  (∃gs' w' sl' ops V' rk' rel' q',stepT P (crowd gs w sl)=(.next (crowd gs' w' sl'),ops)/\Relation.TransGen Falls (meas gs' rk' q') (meas gs rk q)/\MI P t N (Fin P Q) none gs' w' (tr++ops) V' rk' rel' q'/\w'.os=w.os/\w'.output=w.output):=by
 have haw:∀g∈gs,awake g:=by
  intro g hg
  obtain⟨i,hi,rfl⟩:=Array.mem_iff_getElem.1 hg
  intro tm e
  rcases h.status (Array.getElem?_eq_getElem hi) with x | x | x <;> rw [e] at x <;> cases x
 obtain⟨i,g,d,sl',hi,hrun,hst⟩:=crowd_pick (P:=P) (w:=w) (sl:=sl) haw h.someone
 have hd:=h.at d
 have fin:Nx P t N (Fin P Q) gs (w.at d) sl' tr (meas gs rk q) i->∃gs' w' sl' ops V' rk' rel' q',stepT P (crowd gs w sl)=(Stepped.next (crowd gs' w' sl'),ops)/\Relation.TransGen Falls (meas gs' rk' q') (meas gs rk q)/\MI P t N (Fin P Q) none gs' w' (tr++ops) V' rk' rel' q'/\w'.os=w.os/\w'.output=w.output:=by
  rintro⟨gs',w',ops,V',rk',rel',q',a,b,c,dd⟩
  exact⟨gs',w',sl',ops,V',rk',rel',q',hst.trans a,c,b,dd⟩
 cases hr:rk i with
 | none=>
  by_cases hp:(V (.run i)).tok.ph=.out
  ·exact .inr (fin (hd.leaver Fin.running hi hrun hr hp).nx)
  ·exact .inr (fin (hd.tailStep Fin.running hi hr hp).nx)
 | some r=>
  rcases MI.alive r (sl:=sl') hd hi hrun hr with⟨rfl,V',rk',rel',q',h',_,_,htok,v,hq,hend⟩ | hn
  ·left
   have hok:=h'.vi.ok (.run 0)
   obtain⟨es,hse,hes⟩:=hend _ hok
   have hG:=h'.grp
   unfold Grp at hG
   rw [htok] at hG
   obtain⟨hph,hrel⟩:=hG
   have hrk:∀j,j≠0->rk' j=none:=by
    intro j hj
    cases e:rk' j with
    | none=>rfl
    | some r=>
     obtain⟨b,D,e'⟩:=h'.wk j hj (by rw [e];simp)
     rw [hph j hj] at e';cases e'
   have hti:TI _ _ _ _ _ _ _ (tr++MemOp.ofEvents 0 g.frame.fn g.frame.place es):=ti_priv (fn:=g.frame.fn) (pos:=g.frame.place) h'.ti h'.vi (λ b hb=>by rw [htok] at hb;cases hb) hes (.refl _ _) (.inl rfl)
   have hdeaf:∀j,j≠0->Deaf (tr++MemOp.ofEvents 0 g.frame.fn g.frame.place es) j=Deaf tr j:=by
    intro j hj
    refine Deaf_other tr (Ne.symm hj) _ ?_
    intro op hop
    obtain⟨e,_,rfl⟩:=Go.Conc.mem_ofEvents hop
    rfl
   have hqd:∀j x,j≠0->gs[j]?=some x->QuitsD P (q' j) (Deaf tr j) x:=λ j x hj hx=>h'.gone j x (hrk j hj) hx (hph j hj)
   refine⟨.done v,w.at d,_,hst.trans (ConcN.runT_crowd_ended hi hse),v,rfl,⟨_,hq,hok,rfl,rfl⟩,hti.clean,?_,⟨?_,rfl⟩,?_⟩
   ·intro j x hx hne hc
    rcases hti.hand j x hx hne hc with⟨b,D,e⟩ | ⟨r,e,_⟩ | ⟨p,z,hp,hz,hb⟩
    ·by_cases e0:x=0
     ·exact absurd e0 hne
     ·rw [hph x e0] at e;cases e
    ·rw [hrel] at e;cases e
    ·refine⟨p,by simp [Trace.g?,hp,hz],?_⟩
     rcases hb with rfl | hb
     ·simp only [Trace.g?,hp,Option.map_some,Option.some.injEq] at hx
      exact absurd (hx.symm.trans hz) hne
     ·exact hb
   ·intro x hx
    obtain⟨j,hj,hx'⟩:=List.mem_iff_getElem.1 hx
    rw [List.getElem_drop] at hx'
    have:gs[1+j]?=some x:=by
     rw [<- hx']
     simp only [crowd] at hj ⊢
     have:1+j<gs.size:=by simp at hj;omega
     simp [this]
    exact⟨_,(hqd (1+j) x (by omega) this).leaves⟩
   ·intro j x hx hj
    have:=hqd j x hj hx
    refine⟨q' j,?_⟩
    have e:(tr++MemOp.ofEvents 0 g.frame.fn g.frame.place es).deaf j (tr++MemOp.ofEvents 0 g.frame.fn g.frame.place es).size=Deaf tr j:=hdeaf j hj
    rw [e]
    exact this.hears _
  ·exact .inr (fin hn)
theorem Good_mono' {Post Post':Value->World->Prop} {m:Machine} {o:Outcome} {w':World} {t':Trace} (h:Conc.Good P Post m o w' t') (hp:∀v W',Post v W'->Post' v W'):Conc.Good P Post' m o w' t':=
 h.elim λ v x=>⟨v,x.1,hp v _ x.2.1,x.2.2⟩
theorem runs (h:MI P t N (Fin P Q) none gs w tr V rk rel q) :
  ∃n last o w' t',runNT P (n+1) (crowd gs w sl) tr=(.ended o w',t')/\runN P n (crowd gs w sl)=.next last/\step P last=.ended o w'/\Conc.Good P (λ v W'=>∃Z,Q v Z/\Z.ok W'/\W'.os=w.os/\W'.output=w.output) last o w' t':=by
 have key:∀(μ:List Tr×Nat) gs w sl tr V rk rel q,meas gs rk q=μ->MI P t N (Fin P Q) none gs w tr V rk rel q ->
   ∃n last o w' t',runNT P (n+1) (crowd gs w sl) tr=(.ended o w',t')/\runN P n (crowd gs w sl)=.next last/\step P last=.ended o w'/\Conc.Good P (λ v W'=>∃Z,Q v Z/\Z.ok W'/\W'.os=w.os/\W'.output=w.output) last o w' t':=by
  intro μ
  induction μ using (WellFounded.transGen falls_wf).induction with
  | _ μ ih=>
   intro gs w sl tr V rk rel q hμ h
   rcases h.move (sl:=sl) with⟨o,w',ops,hs,hq⟩ | ⟨gs',w',sl',ops,V',rk',rel',q',hs,h2,h3,hos,hout⟩
   ·exact⟨0,crowd gs w sl,o,w',tr++ops,by simp [runNT,hs],rfl,by simp [step,hs],hq⟩
   ·obtain⟨n,last,o,w'',t',k1,k2,k3,k4⟩:=ih _ (hμ ▸ h2) gs' w' sl' (tr++ops) V' rk' rel' q' rfl h3
    exact⟨n+1,last,o,w'',t',by rw [runNT_succ_next hs];exact k1,by rw [runN_succ_next hs];exact k2,k3,Good_mono' k4 λ v W' ⟨Z,a,b,c,d⟩=>⟨Z,a,b,c.trans hos,d.trans hout⟩⟩
 exact key _ gs w sl tr V rk rel q rfl h
theorem mi_start {g:Goroutine} {Z:View Tk} {r:Tr} (hJ:JR (SysG P t N) (Fin P Q) r true g Z) (hok:Z.ok w) (htok:Z.tok=⟨0,.out⟩) :
  MI P t N (Fin P Q) none #[g] w #[] (setH (λ _=>bare0) (.run 0) Z) (updN (λ _=>none) 0 (some r)) (λ _=>none) (λ _=>0):=by
 have v0:setH (λ _=>bare0) (.run 0) Z (.run 0)=Z:=setH_same ..
 have v2:∀j,j≠0->setH (λ _=>bare0) (.run 0) Z (.run j)=bare0:=λ j hj=>setH_ne _ _ (λ e=>hj (Hd.run.inj e))
 have vn:∀k,k≠.run 0->setH (λ _=>bare0) (.run 0) Z k=bare0:=λ k hk=>setH_ne _ _ hk
 have hd:∀j,Deaf #[] j=0:=λ _=>rfl
 have no:∀i a,touchAt #[] i≠some a:=by
  intro i a h
  obtain⟨x,hx,_⟩:=touch_of h
  simp at hx
 refine⟨?_,by rw [updN_same];simp,?_,?_,?_,?_,?_,?_,?_,?_,?_,?_,?_⟩
 ·intro i r' _ hr
  by_cases e:i=0
  ·subst e;rw [updN_same] at hr;cases hr
   exact⟨g,by rw [v0];exact hJ,.inl rfl⟩
  ·rw [updN_ne _ _ e] at hr;cases hr
 ·intro i x hr hx _
  have e:i≠0:=λ e=>by subst e;rw [updN_same] at hr;cases hr
  rw [Array.getElem?_eq_none (by simp;omega)] at hx;cases hx
 ·intro i hr hp
  have e:i≠0:=λ e=>by subst e;rw [updN_same] at hr;cases hr
  rw [v2 i e] at hp;exact absurd rfl hp
 ·intro i hi
  simp at hi
  exact⟨updN_ne _ _ (by omega),hd i,rfl⟩
 ·intro i hr
  have e:i≠0:=λ e=>by subst e;rw [updN_same] at hr;cases hr
  rw [v2 i e];exact⟨rfl,rfl⟩
 ·intro i h0 hr;rw [updN_ne _ _ h0] at hr;exact absurd rfl hr
 ·intro i hw
  by_cases e:i=0
  ·subst e;rw [updN_same];simp
  ·rw [v2 i e] at hw;obtain⟨_,_,e⟩:=hw;cases e
 ·intro i hr
  by_cases e:i=0
  ·subst e;rw [v0,htok];rfl
  ·rw [updN_ne _ _ e] at hr;exact absurd rfl hr
 ·intro i _;exact vn _ (by simp)
 ·refine⟨λ k=>?_,λ k_1 k_2 l hn hw hr=>?_⟩
  ·by_cases e:k=.run 0
   ·subst e;rw [v0];exact hok
   ·rw [vn k e];exact bare_ok _ _
  ·by_cases e:k_1=.run 0
   ·subst e;rw [vn k_2 (Ne.symm hn)] at hr;exact bare_canR _ _ hr
   ·rw [vn k_1 e] at hw;exact bare_canW _ _ hw
 ·refine⟨λ said=>?_,λ k i a h=>absurd h (no i a),λ op h=>by simp at h,λ i a h=>?_,λ i a h=>absurd h (no i a),λ i a h=>absurd h (no i a),λ g r h=>(by cases h),λ i g h=>?_⟩
  ·rintro⟨i,j,_,⟨a,b,ha,_⟩,_⟩
   exact no i a ha
  ·simp [Trace.act?] at h
  ·simp [Trace.g?] at h
 ·unfold Grp
  rw [v0,htok]
  exact⟨λ i hi=>by rw [v2 i hi];rfl,λ _=>rfl⟩
theorem J.runs {g:Goroutine} {Z:View Tk} (hJ:J (SysG P t N) (Fin P Q) true g Z) (hok:Z.ok w) (htok:Z.tok=⟨0,.out⟩) :
  ∃n last o w' t',runNT P (n+1) (solo g w) #[]=(.ended o w',t')/\runN P n (solo g w)=.next last/\step P last=.ended o w'/\Conc.Good P (λ v W'=>∃Z,Q v Z/\Z.ok W'/\W'.os=w.os/\W'.output=w.output) last o w' t':=by
 obtain⟨r,hJ⟩:=hJ.rank
 rw [solo_eq_crowd]
 exact TM.runs (mi_start hJ hok htok)
end
end Go.TM
