/- A part of the proof: lemmas that the last text uses. No conditions of its own. -/
import Derived.Test.YtebpcmdnecenlaaGreatH07
import Derived.Test.YtebpcmdnecenlaaGreatC00
set_option linter.unusedSimpArgs false
set_option linter.unusedVariables false
set_option linter.unusedSimpArgs false
namespace Go.TM
variable {T:Type} {P:Program} {S:Sys P T} {fn:FuncId} {ro:Option Nat}
inductive DrawL (S:Sys P T) (ops:Array Oper) (rl:List Nat) (J:View T->Prop) (Fin:Act->View T->Prop):List Nat->(View T->Prop)->Act->Prop
 | nil {C a}:(∀Z',C Z'->Fin a Z')->DrawL S ops rl J Fin [] C a
 | un {i rest C a o}:i∉rl->ops[i]?=some o->Region.wanted o (yielded ops a.tmps)=false->DrawL S ops rl J Fin rest C (a.put o.dst undef)->DrawL S ops rl J Fin (i::rest) C a
 | det {i rest C a o} (v:Value):i∉rl->ops[i]?=some o->Region.wanted o (yielded ops a.tmps)=true ->
   (∀Z',J Z'->OpQ S o a (λ v' Z2=>v'=v/\∃Z1,Shift Z2 Z1/\Z'.le Z1) Z')->DrawL S ops rl J Fin rest C (a.put o.dst v)->DrawL S ops rl J Fin (i::rest) C a
 | rel {i rest C a o} (F:Value->View T->Prop):i∈rl->(∀v,Mono (F v))->(∀v Z',F v Z'->J Z')->ops[i]?=some o->Region.wanted o (yielded ops a.tmps)=true ->
   (∀Z',C Z'->OpQ S o a (λ v' Z2=>∃Z1,Shift Z2 Z1/\F v' Z1) Z')->(∀v,(∃Z',F v Z')->DrawL S ops rl J Fin rest (F v) (a.put o.dst v))->DrawL S ops rl J Fin (i::rest) C a
section sound
variable {ops:Array Oper} {rl qs ts:List Nat}
structure InvL (S:Sys P T) (ops:Array Oper) (rl qs:List Nat) (J:View T->Prop) (a0:Act) (Fin:Act->View T->Prop) (listed:Array Bool) (ac:Act) (Z:View T)
  (pre L:List Nat) (C:View T->Prop) (av:Act) (val:Nat->Value):Prop where
 split:qs=pre++L
 der:DrawL S ops rl J Fin L C av
 mono:Mono C
 inJ:∀Z',C Z'->J Z'
 c:C Z
 av:Agree ops val (·∈pre) a0 av
 ac:Agree ops val (Li listed) a0 ac
 sub:∀i,Li listed i->i∈pre
 size:listed.size=ops.size
 down:∀i,Li listed i->∀j∈edges ops i,Li listed j
 rels:∀i∈pre,i∈rl->Li listed i
 pend:∀i∈pre,¬Li listed i->∃o ai p,qs[p]?=some i/\ops[i]?=some o/\Agree ops val (·∈qs.take p) a0 ai /\
  ((Region.wanted o (yielded ops ai.tmps)=false/\val i=undef) \/
   (Region.wanted o (yielded ops ai.tmps)=true/\∀Z',J Z'->OpQ S o ai (λ v' Z2=>v'=val i/\∃Z1,Shift Z2 Z1/\Z'.le Z1) Z'))
variable {J:View T->Prop} {a0:Act} {Fin:Act->View T->Prop} {listed:Array Bool} {ac av:Act} {Z:View T} {pre L:List Nat} {C:View T->Prop} {val:Nat->Value}
theorem InvL.note (hf:DrawFit ops [] qs ts) {x:Nat} {rest:List Nat} (h:InvL S ops rl qs J a0 Fin listed ac Z pre (x::rest) C av val) (v:Value) :
  Agree ops (setv val x v) (·∈pre) a0 av/\Agree ops (setv val x v) (Li listed) a0 ac /\
  (∀i∈pre,¬Li listed i->∃o ai p,qs[p]?=some i/\ops[i]?=some o/\Agree ops (setv val x v) (·∈qs.take p) a0 ai /\
   ((Region.wanted o (yielded ops ai.tmps)=false/\setv val x v i=undef) \/
    (Region.wanted o (yielded ops ai.tmps)=true/\∀Z',J Z'->OpQ S o ai (λ v' Z2=>v'=setv val x v i/\∃Z1,Shift Z2 Z1/\Z'.le Z1) Z'))):=by
 have hx:=not_pre hf h.split
 refine⟨h.av.val λ j hj=>setv_ne (λ e=>hx (e ▸ hj)),h.ac.val λ j hj=>setv_ne (λ e=>hx (e ▸ h.sub j hj)),λ i hi hl=>?_⟩
 obtain⟨o,ai,p,hp,ho,hag,hh⟩:=h.pend i hi hl
 have hne:i≠x:=λ e=>hx (e ▸ hi)
 refine⟨o,ai,p,hp,ho,hag.val λ j hj=>setv_ne λ e=>?_,by rw [setv_ne hne];exact hh⟩
 subst e
 obtain⟨p',hp'⟩:=List.mem_iff_getElem?.1 hj
 rw [List.getElem?_take] at hp'
 split at hp'
 ·rename_i hlt
  have e1:=pos_uniq hf (all_get (ts:=ts) hp') (all_get (take_pre h.split).2)
  obtain⟨pi,hpi⟩:=List.mem_iff_getElem?.1 hi
  have hpl:pi<pre.length:=(List.getElem?_eq_some_iff.1 hpi).1
  have e2:=pos_uniq hf (all_get (ts:=ts) hp) (all_get (ts:=ts) (p:=pi) (i:=i) (by rw [h.split,List.getElem?_append_left hpl];exact hpi))
  omega
 ·cases hp'
theorem InvL.adv (hf:DrawFit ops [] qs ts) {x:Nat} {rest:List Nat} (h:InvL S ops rl qs J a0 Fin listed ac Z pre (x::rest) C av val) {v:Value} {o:Oper} (ho:ops[x]?=some o) (hrl:x∉rl)
  (hd:DrawL S ops rl J Fin rest C (av.put o.dst v))
  (hh:(Region.wanted o (yielded ops av.tmps)=false/\v=undef)\/(Region.wanted o (yielded ops av.tmps)=true/\∀Z',J Z'->OpQ S o av (λ v' Z2=>v'=v/\∃Z1,Shift Z2 Z1/\Z'.le Z1) Z')) :
  InvL S ops rl qs J a0 Fin listed ac Z (pre++[x]) rest C (av.put o.dst v) (setv val x v):=by
 obtain⟨n1,n2,n3⟩:=h.note hf v
 have hput:=Agree.put hf n1 ho
 rw [setv_same] at hput
 refine⟨by rw [h.split];simp,hd,h.mono,h.inJ,h.c,?_,n2,λ i hi=>List.mem_append_left _ (h.sub i hi),h.size,h.down,?_,?_⟩
 ·have e:(λ j=>j∈pre\/j=x)=(·∈pre++[x]):=by funext j;simp
  rw [<- e];exact hput
 ·intro i hi hr
  rcases List.mem_append.1 hi with hi | hi
  ·exact h.rels i hi hr
  ·simp at hi;subst hi;exact absurd hr hrl
 ·intro i hi hl
  rcases List.mem_append.1 hi with hi | hi
  ·exact n3 i hi hl
  ·simp at hi;subst hi
   refine⟨o,av,pre.length,(take_pre h.split).2,ho,by rw [(take_pre h.split).1];exact n1,?_⟩
   rw [setv_same]
   exact hh
def Later (ops:Array Oper) (rl qs:List Nat):Prop:=∀p x,qs[p]?=some x->x∈rl->∀i∈qs.drop (p+1),i∉rl->∃r∈qs.drop p,r∈rl/\BefOp ops r i
theorem InvL.reach (hf:DrawFit ops [] qs ts) (hlat:Later ops rl qs) {i:Nat} (hi:i∈qs) (hr:∀j∈edges ops i,Li listed j) :
  ∀(L pre:List Nat) (C:View T->Prop) (av:Act) (val:Nat->Value),InvL S ops rl qs J a0 Fin listed ac Z pre L C av val->(i∈rl->(L.filter λ x=>rl.contains x).head?=some i) ->
   ∃pre' L' C' av' val',InvL S ops rl qs J a0 Fin listed ac Z pre' L' C' av' val'/\(L'.filter λ x=>rl.contains x)=(L.filter λ x=>rl.contains x)/\(i∈pre'\/∃rest,L'=i::rest/\i∈rl):=by
 intro L
 induction L with
 | nil=>
  intro pre C av val h _
  exact⟨pre,[],C,av,val,h,rfl,.inl (by have:=h.split;simp at this;exact this ▸ hi)⟩
 | cons x rest ih=>
  intro pre C av val h hfirst
  by_cases hx:x∈rl
  ·by_cases e:x=i
   ·subst e;exact⟨pre,_,C,av,val,h,rfl,.inr ⟨rest,rfl,hx⟩⟩
   ·by_cases hpre:i∈pre
    ·exact⟨pre,_,C,av,val,h,rfl,.inl hpre⟩
    ·exfalso
     have hm:i∈rest:=by
      rw [h.split] at hi
      simp at hi
      rcases hi with hi | hi | hi
      ·exact absurd hi hpre
      ·exact absurd hi.symm e
      ·exact hi
     by_cases hirl:i∈rl
     ·have:=hfirst hirl
      rw [List.filter_cons,if_pos (by simpa using hx)] at this
      simp at this
      exact e this
     ·obtain⟨r,hr1,hr2,hb⟩:=hlat pre.length x (take_pre h.split).2 hx i (by rw [h.split];simp [hm]) hirl
      have hrl:=h.sub r (before_ready h.down hb hr)
      rw [h.split] at hr1
      simp at hr1
      have hnd:=(List.nodup_append.1 hf.nodup).1
      rw [h.split] at hnd
      exact (List.nodup_append.1 hnd).2.2 r hrl r (by simpa using hr1) rfl
  ·have hfil:((x::rest).filter λ x=>rl.contains x)=rest.filter λ x=>rl.contains x:=by rw [List.filter_cons,if_neg (by simpa using hx)]
   rw [hfil] at hfirst ⊢
   have hder:=h.der
   cases hder with
   | un _ ho hw hd=>exact ih _ _ _ _ (h.adv hf ho hx hd (.inl ⟨hw,rfl⟩)) hfirst
   | det v _ ho hw hop hd=>exact ih _ _ _ _ (h.adv hf ho hx hd (.inr ⟨hw,hop⟩)) hfirst
   | rel F hm=>exact absurd hm hx
theorem drawL_go (hf:DrawFit ops [] qs ts) (hlat:Later ops rl qs) (hts:∀i∈ts,i∉rl) {Q:Ex->Act->View T->Prop}:∀(r t:Nat) (listed:Array Bool) (ac:Act) (Z:View T) (pre L:List Nat) (C:View T->Prop) (av:Act) (val:Nat->Value),
  InvL S ops rl qs J a0 (λ a Z=>OpsV S fn ro ops ts Q a Z) listed ac Z pre L C av val->(qs.filter λ i=>!listed.getD i false).length=r ->
  ((Region.linearise.go .any ops (r+ts.length) t listed []).filter λ x=>rl.contains x)=(L.filter λ x=>rl.contains x) ->
  OpsV S fn ro ops (Region.linearise.go .any ops (r+ts.length) t listed []) Q ac Z:=by
 intro r
 induction r with
 | zero=>
  intro t listed ac Z pre L C av val h hr _
  have hall:∀i∈qs,Li listed i:=by
   intro i hi
   have:=List.filter_eq_nil_iff.1 (List.length_eq_zero_iff.1 hr) i hi
   simpa [Li] using this
  have hL:L=[]:=by
   cases L with
   | nil=>rfl
   | cons x rest=>exact absurd (h.sub x (hall x (by rw [h.split];simp))) (not_pre hf h.split)
  subst hL
  have hpre:pre=qs:=by have:=h.split;simp at this;exact this.symm
  subst hpre
  have hder:=h.der
  cases hder with
  | nil hfin=>
   have e:av=ac:=h.av.eq h.ac λ j=>⟨hall j,h.sub j⟩
   have:=hfin Z h.c
   rw [e] at this
   rw [Nat.zero_add,tail_go hf ts.length 0 t listed (by omega) h.size λ i=>?_]
   ·simpa using this
   ·rw [Nat.add_zero,List.take_left']
    ·exact⟨h.sub i,hall i⟩
    ·rfl
 | succ r ih=>
  intro t listed ac Z pre L C av val h hr hord
  obtain⟨q,hq⟩:∃q,q∈qs.filter λ i=>!listed.getD i false:=List.exists_mem_of_length_pos (by omega)
  have hqs:=(List.mem_filter.1 hq).1
  have hql:¬Li listed q:=by have:=(List.mem_filter.1 hq).2;simpa [Li] using this
  obtain⟨pq,hpq⟩:=List.mem_iff_getElem?.1 hqs
  obtain⟨y,hy⟩:=ready_some hf h.size _ _ (all_get (ts:=ts) hpq) hql
  obtain⟨i,hi,t',hgo⟩:=lin_step (k:=r+ts.length) (t:=t) (List.ne_nil_of_mem hy)
  have hnl:=ready_li hi
  have hred:=(ready_spec.1 hi).2.2
  have hlt:=(ready_spec.1 hi).1
  have hiq:i∈qs:=by
   rcases List.mem_append.1 ((hf.mem i).1 hlt) with hm | hm
   ·exact hm
   ·obtain⟨p1,hp1⟩:=List.mem_iff_getElem?.1 hm
    exact absurd (before_ready h.down (hf.tail p1 i hp1 q (List.mem_append_left _ hqs)) hred) hql
  rw [show r+1+ts.length=(r+ts.length)+1 by omega,hgo] at hord ⊢
  have hls:∀j,Li (listed.setIfInBounds i true) j↔Li listed j\/j=i:=λ j=>Li_set (by rw [h.size];exact hlt)
  have hcount:(qs.filter λ x=>!(listed.setIfInBounds i true).getD x false).length=r:=by
   have hnd:=(List.nodup_append.1 hf.nodup).1
   have e:(qs.filter λ x=>!(listed.setIfInBounds i true).getD x false)=(qs.filter λ x=>!listed.getD x false).filter (λ x=>x != i):=by
    rw [List.filter_filter]
    refine List.filter_congr λ x _=>?_
    have:=hls x
    simp only [Li] at this
    cases hx:(listed.setIfInBounds i true).getD x false <;> cases hx':listed.getD x false <;> by_cases e:x=i <;> simp_all
   rw [e,<- List.Nodup.erase_eq_filter (hnd.filter _),List.length_erase_of_mem (List.mem_filter.2 ⟨hiq,by simpa [Li] using hnl⟩),hr]
   rfl
  have hfirst:i∈rl->(L.filter λ x=>rl.contains x).head?=some i:=λ hrl=>by
   rw [<- hord,List.filter_cons,if_pos (by simpa using hrl)];rfl
  obtain⟨pre',L',C',av',val',h',hfil,hcase⟩:=InvL.reach hf hlat hiq hred L pre C av val h hfirst
  rw [<- hfil] at hord
  have hdown':∀j,Li (listed.setIfInBounds i true) j->∀k∈edges ops j,Li (listed.setIfInBounds i true) k:=by
   intro j hj k hk
   rw [hls] at hj ⊢
   rcases hj with hj | rfl
   ·exact .inl (h.down j hj k hk)
   ·exact .inl (hred k hk)
  have put_ac:∀{val:Nat->Value} {o:Oper},ops[i]?=some o->Agree ops val (Li listed) a0 ac->Agree ops val (Li (listed.setIfInBounds i true)) a0 (ac.put o.dst (val i)):=by
   intro val o ho ha
   have:=Agree.put hf ha ho
   have e:Li (listed.setIfInBounds i true)=λ j=>Li listed j\/j=i:=by funext j;exact propext (hls j)
   rw [e];exact this
  by_cases hpre:i∈pre'
  ·obtain⟨o,ai,p,hp,ho,hag,hh⟩:=h'.pend i hpre hnl
   have hirl:i∉rl:=λ hrl=>hnl (h'.rels i hpre hrl)
   have hord':((Region.linearise.go .any ops (r+ts.length) t' (listed.setIfInBounds i true) []).filter λ x=>rl.contains x)=(L'.filter λ x=>rl.contains x):=by
    rw [<- hord,List.filter_cons,if_neg (by simpa using hirl)]
   have hsame:=same_op ho (hf.nosel i o ho) (a:=ac) (a':=ai) λ s hs=>h'.ac.slot hag λ j hj=>looks_agree hf h'.down hp hnl hred hs hj
   have next:∀Z1,Z.le Z1->InvL S ops rl qs J a0 (λ a Z=>OpsV S fn ro ops ts Q a Z) (listed.setIfInBounds i true) (ac.put o.dst (val' i)) Z1 pre' L' C' av' val':=λ Z1 hle=>
    ⟨h'.split,h'.der,h'.mono,h'.inJ,h'.mono _ _ h'.c hle,h'.av,put_ac ho h'.ac,λ j hj=>((hls j).1 hj).elim (h'.sub j) (λ e=>e ▸ hpre),by simpa using h'.size,hdown',λ j hj hr=>(hls j).2 (.inl (h'.rels j hj hr)),
     λ j hj hl=>h'.pend j hj λ hx=>hl ((hls j).2 (.inl hx))⟩
   rcases hh with⟨hw,hv⟩ | ⟨hw,hop⟩
   ·refine ov_unwanted ho (by rw [hsame.2];exact hw) ?_
    have:=ih t' _ _ _ _ _ _ _ _ (next Z (.refl Z)) hcount hord'
    rw [hv] at this;exact this
   ·have hq':OpQ S o ac (λ v' Z2=>v'=val' i/\∃Z1,Shift Z2 Z1/\Z.le Z1) Z:=by have:=hop Z (h'.inJ Z h'.c);unfold OpQ at this ⊢;rw [hsame.1];exact this
    refine ov_cons ho (by rw [hsame.2];exact hw) (.inr (not_defer hq')) (opV_quiet hq' λ v Z2 hv=>?_)
    obtain⟨rfl,Z1,hs,hle⟩:=hv
    exact ov_shift hs (ih t' _ _ _ _ _ _ _ _ (next Z1 hle) hcount hord')
  ·obtain⟨rest,rfl,hrl⟩:=hcase.resolve_left hpre
   have hord':((Region.linearise.go .any ops (r+ts.length) t' (listed.setIfInBounds i true) []).filter λ x=>rl.contains x)=(rest.filter λ x=>rl.contains x):=by
    rw [List.filter_cons,if_pos (by simpa using hrl),List.filter_cons,if_pos (by simpa using hrl)] at hord
    exact (List.cons.inj hord).2
   have hder:=h'.der
   cases hder with
   | un hx _ _ _=>exact absurd hrl hx
   | det _ hx _ _ _ _=>exact absurd hrl hx
   | @rel _ _ _ _ o F _ hF hFJ ho hw hop hd=>
    obtain⟨htk,hget⟩:=take_pre h'.split
    have hsame:=same_op ho (hf.nosel i o ho) (a:=ac) (a':=av') λ s hs=>h'.ac.slot h'.av λ j hj=>by
     have:=looks_agree hf h'.down hget hnl hred hs hj
     rw [htk] at this;exact this
    have hq':OpQ S o ac (λ v' Z2=>∃Z1,Shift Z2 Z1/\F v' Z1) Z:=by have:=hop Z h'.c;unfold OpQ at this ⊢;rw [hsame.1];exact this
    refine ov_cons ho (by rw [hsame.2];exact hw) (.inr (not_defer hq')) (opV_quiet hq' λ v Z2 hv=>?_)
    obtain⟨Z1,hs,hFv⟩:=hv
    refine ov_shift hs ?_
    obtain⟨n1,n2,n3⟩:=h'.note hf v
    have hav:=Agree.put hf n1 ho
    have hac:=put_ac ho n2
    rw [setv_same] at hav hac
    refine ih t' _ _ Z1 (pre'++[i]) rest (F v) (av'.put o.dst v) (setv val' i v) ⟨by rw [h'.split];simp,hd v ⟨Z1,hFv⟩,hF v,hFJ v,hFv,?_,hac,?_,by simpa using h'.size,hdown',?_,?_⟩ hcount hord'
    ·have e:(λ j=>j∈pre'\/j=i)=(·∈pre'++[i]):=by funext j;simp
     rw [<- e];exact hav
    ·intro j hj
     rcases (hls j).1 hj with hj | rfl
     ·exact List.mem_append_left _ (h'.sub j hj)
     ·simp
    ·intro j hj hr
     rw [hls]
     rcases List.mem_append.1 hj with hj | hj
     ·exact .inl (h'.rels j hj hr)
     ·exact .inr (by simpa using hj)
    ·intro j hj hl
     rcases List.mem_append.1 hj with hj | hj
     ·exact n3 j hj λ hx=>hl ((hls j).2 (.inl hx))
     ·exact absurd ((hls j).2 (.inr (by simpa using hj))) hl
theorem go_facts (hf:DrawFit ops [] qs ts):∀(r t:Nat) (listed:Array Bool),listed.size=ops.size->(∀i,Li listed i->∀j∈edges ops i,Li listed j)->((qs++ts).filter λ i=>!listed.getD i false).length=r ->
  let g:=Region.linearise.go .any ops r t listed [];(∀i,i∈g↔i<ops.size/\¬Li listed i)/\g.Nodup/\g.Pairwise λ i j=>¬BefOp ops j i:=by
 intro r
 induction r with
 | zero=>
  intro t listed hs _ hr
  have hall:∀i,i<ops.size->Li listed i:=λ i hi=>by
   have:=List.filter_eq_nil_iff.1 (List.length_eq_zero_iff.1 hr) i ((hf.mem i).1 hi)
   simpa [Li] using this
  simp only [Region.linearise.go,List.reverse_nil]
  exact⟨λ i=>⟨(λ h=>by cases h),λ h=>absurd (hall i h.1) h.2⟩,List.Pairwise.nil,List.Pairwise.nil⟩
 | succ r ih=>
  intro t listed hs hdown hr
  obtain⟨q,hq⟩:∃q,q∈(qs++ts).filter λ i=>!listed.getD i false:=List.exists_mem_of_length_pos (by omega)
  have hql:¬Li listed q:=by have:=(List.mem_filter.1 hq).2;simpa [Li] using this
  obtain⟨pq,hpq⟩:=List.mem_iff_getElem?.1 (List.mem_filter.1 hq).1
  obtain⟨y,hy⟩:=ready_some hf hs _ _ hpq hql
  obtain⟨i,hi,t',hgo⟩:=lin_step (k:=r) (t:=t) (List.ne_nil_of_mem hy)
  have hnl:=ready_li hi
  have hred:=(ready_spec.1 hi).2.2
  have hlt:=(ready_spec.1 hi).1
  have hls:∀j,Li (listed.setIfInBounds i true) j↔Li listed j\/j=i:=λ j=>Li_set (by rw [hs];exact hlt)
  have hdown':∀j,Li (listed.setIfInBounds i true) j->∀k∈edges ops j,Li (listed.setIfInBounds i true) k:=by
   intro j hj k hk
   rw [hls] at hj ⊢
   rcases hj with hj | rfl
   ·exact .inl (hdown j hj k hk)
   ·exact .inl (hred k hk)
  have hcount:((qs++ts).filter λ x=>!(listed.setIfInBounds i true).getD x false).length=r:=by
   have e:((qs++ts).filter λ x=>!(listed.setIfInBounds i true).getD x false)=((qs++ts).filter λ x=>!listed.getD x false).filter (λ x=>x != i):=by
    rw [List.filter_filter]
    refine List.filter_congr λ x _=>?_
    have:=hls x
    simp only [Li] at this
    cases hx:(listed.setIfInBounds i true).getD x false <;> cases hx':listed.getD x false <;> by_cases e:x=i <;> simp_all
   rw [e,<- List.Nodup.erase_eq_filter (hf.nodup.filter _),List.length_erase_of_mem (List.mem_filter.2 ⟨(hf.mem i).1 hlt,by simpa [Li] using hnl⟩),hr]
   rfl
  obtain⟨k1,k2,k3⟩:=ih t' _ (by simpa using hs) hdown' hcount
  simp only
  rw [hgo]
  have hin:i∉Region.linearise.go .any ops r t' (listed.setIfInBounds i true) []:=λ hm=>((k1 i).1 hm).2 ((hls i).2 (.inr rfl))
  refine⟨λ j=>?_,List.nodup_cons.2 ⟨hin,k2⟩,List.pairwise_cons.2 ⟨λ j hj hb=>?_,k3⟩⟩
  ·rw [List.mem_cons,k1,hls]
   by_cases e:j=i
   ·subst e;simp [hlt,hnl]
   ·simp [e]
  ·exact ((k1 j).1 hj).2 ((hls j).2 (.inl (before_ready hdown hb hred)))
end sound
def covers (bf:Nat->Nat->Bool) (ok:List Nat->Bool):Nat->List Nat->List Nat->Bool
 | 0,_,pre=>ok pre
 | n+1,rem,pre=>rem.all λ i=>(rem.any λ j=>j != i && bf j i) || covers bf ok n (rem.erase i) (pre++[i])
theorem covers_spec {bf:Nat->Nat->Bool} {ok:List Nat->Bool}:∀(n:Nat) (rem pre ρ:List Nat),covers bf ok n rem pre=true->rem.length=n->ρ.Perm rem->ρ.Nodup->(ρ.Pairwise λ i j=>bf j i=false)->ok (pre++ρ)=true
 | 0,rem,pre,ρ,h,hn,hp,_,_=>by
  have:ρ=[]:=List.length_eq_zero_iff.1 (by rw [hp.length_eq,hn])
  subst this
  rw [List.append_nil];exact h
 | n+1,rem,pre,ρ,h,hn,hp,hnd,hb=>by
  cases ρ with
  | nil=>have:=hp.length_eq;simp at this;omega
  | cons i ρ=>
   have hi:i∈rem:=hp.subset (List.mem_cons_self ..)
   have hb':=List.pairwise_cons.1 hb
   have hnd':=List.nodup_cons.1 hnd
   have h1:=List.all_eq_true.1 h i hi
   rw [Bool.or_eq_true] at h1
   rcases h1 with h1 | h1
   ·obtain⟨j,hj,h2⟩:=List.any_eq_true.1 h1
    rw [Bool.and_eq_true] at h2
    have hne:j≠i:=by simpa using h2.1
    rcases List.mem_cons.1 (hp.symm.subset hj) with e | hm
    ·exact absurd e hne
    ·rw [hb'.1 j hm] at h2;cases h2.2
   ·have:=covers_spec n (rem.erase i) (pre++[i]) ρ h1 (by rw [List.length_erase_of_mem hi,hn];rfl) ((List.perm_cons_erase hi).symm.trans hp.symm |>.cons_inv |>.symm) hnd'.2 hb'.2
    rwa [List.append_assoc] at this
def laterB (ops:Array Oper) (rl qs:List Nat):Bool:=
 let ms:=masks ops ops.size
 (List.range qs.length).all λ p=>!rl.contains (qs.getD p 0) || (qs.drop (p+1)).all λ i=>rl.contains i || (qs.drop p).any λ r=>rl.contains r && (ms.getD i 0).testBit r
theorem laterB_spec {ops:Array Oper} {rl qs:List Nat} (h:laterB ops rl qs=true):Later ops rl qs:=λ p x hp hx i hi hirl=>by
 have hlt:=(List.getElem?_eq_some_iff.1 hp).1
 have h1:=List.all_eq_true.1 h p (List.mem_range.2 hlt)
 have e:qs.getD p 0=x:=by rw [List.getD_eq_getElem?_getD,hp];rfl
 rw [e] at h1
 simp only [Bool.or_eq_true,Bool.not_eq_true'] at h1
 rcases h1 with h1 | h1
 ·rw [show rl.contains x=true by simpa using hx] at h1;cases h1
 ·have h2:=List.all_eq_true.1 h1 i hi
  rw [Bool.or_eq_true] at h2
  rcases h2 with h2 | h2
  ·exact absurd (by simpa using h2) hirl
  ·obtain⟨r,hr,h3⟩:=List.any_eq_true.1 h2
   rw [Bool.and_eq_true] at h3
   exact⟨r,hr,by simpa using h3.1,masks_before ops _ _ _ h3.2⟩
def altsOk (ops:Array Oper) (rl:List Nat) (alts:List (List Nat)) (ts:List Nat):Bool:=
 !alts.isEmpty && alts.all (λ qs=>drawOk ops [] qs ts && laterB ops rl qs) && ts.all (λ i=>!rl.contains i) && (decide rl.Nodup && rl.all λ i=>decide (i<ops.size)) &&
 covers (λ j i=>((masks ops ops.size).getD i 0).testBit j) (λ ρ=>alts.any λ qs=>(qs.filter λ x=>rl.contains x) == ρ) rl.length rl []
theorem cv_alts {J:View T->Prop} {Q:Ex->Act->View T->Prop} {a:Act} {Z:View T} {id:Nat} {ops:Array Oper} (rl:List Nat) (alts:List (List Nat)) (ts:List Nat) (C:View T->Prop) (hC:Mono C) (hCJ:∀Z',C Z'->J Z') (hCZ:C Z) (hm:P.follows .mixedOrders=true) (hok:altsOk ops rl alts ts=true)
  (h:∀qs∈alts,DrawL S ops rl J (λ a Z=>OpsV S fn ro ops ts Q a Z) qs C a):CodeV S fn ro (.region id ops true) Q a Z:=by
 unfold altsOk at hok
 simp only [Bool.and_eq_true,Bool.not_eq_true'] at hok
 obtain⟨⟨⟨⟨h1,h2⟩,h3⟩,h4,h5⟩,h6⟩:=hok
 have hts:∀i∈ts,i∉rl:=λ i hi hr=>by
  have:=List.all_eq_true.1 h3 i hi
  rw [show rl.contains i=true by simpa using hr] at this
  cases this
 have hrn:rl.Nodup:=of_decide_eq_true h4
 have hrs:∀i∈rl,i<ops.size:=λ i hi=>of_decide_eq_true (List.all_eq_true.1 h5 i hi)
 have each:∀qs∈alts,DrawFit ops [] qs ts/\Later ops rl qs:=λ qs hq=>by
  have:=List.all_eq_true.1 h2 qs hq
  rw [Bool.and_eq_true] at this
  exact⟨drawOk_fit this.1,laterB_spec this.2⟩
 have hno:∀i,¬Li (Array.replicate ops.size false) i:=by
  intro i h
  simp only [Li,Array.getD_eq_getD_getElem?,Array.getElem?_replicate] at h
  split at h <;> simp at h
 have hfalse:∀l:List Nat,(l.filter λ i=>!(Array.replicate ops.size false).getD i false).length=l.length:=λ l=>by
  congr 1
  rw [List.filter_eq_self]
  intro x _
  have:=hno x
  simp only [Li] at this
  simpa using this
 have hlen:∀qs∈alts,ops.size=qs.length+ts.length:=λ qs hq=>by
  have hf:=(each qs hq).1
  have h1:(qs++ts).Perm (List.range ops.size):=by
   refine (List.perm_ext_iff_of_nodup hf.nodup List.nodup_range).2 λ x=>?_
   rw [List.mem_range];exact (hf.mem x).symm
  have:=h1.length_eq
  simp at this
  omega
 refine cv_draw λ t=>?_
 simp only [Region.schedule,hm,Bool.true_or,if_true,Region.linearise]
 obtain⟨q0,hq0⟩:∃q,q∈alts:=by cases alts with | nil=>cases h1 | cons q _=>exact⟨q,List.mem_cons_self ..⟩
 obtain⟨g1,g2,g3⟩:=go_facts (each q0 hq0).1 ops.size t (Array.replicate ops.size false) (by simp) (λ i h=>absurd h (hno i)) (by rw [hfalse,List.length_append,<- hlen q0 hq0])
 have hperm:((Region.linearise.go .any ops ops.size t (Array.replicate ops.size false) []).filter λ x=>rl.contains x).Perm rl:=by
  refine (List.perm_ext_iff_of_nodup (g2.filter _) hrn).2 λ x=>?_
  rw [List.mem_filter,g1]
  constructor
  ·rintro⟨_,h⟩;simpa using h
  ·intro h;exact⟨⟨hrs x h,hno x⟩,by simpa using h⟩
 have hcov:=covers_spec rl.length rl [] _ h6 rfl hperm (g2.filter _) ((g3.filter _).imp λ {i j} hb=>by
  cases hx:((masks ops ops.size).getD i 0).testBit j with
  | false=>rfl
  | true=>exact absurd (masks_before ops _ _ _ hx) hb)
 obtain⟨qs,hqs,hq⟩:=List.any_eq_true.1 hcov
 have hq:(qs.filter λ x=>rl.contains x)=(Region.linearise.go .any ops ops.size t (Array.replicate ops.size false) []).filter λ x=>rl.contains x:=by simpa using hq
 obtain⟨hf,hlat⟩:=each qs hqs
 have:=drawL_go (S:=S) (fn:=fn) (ro:=ro) (Q:=Q) (J:=J) hf hlat hts qs.length t (Array.replicate ops.size false) a Z [] qs C a (λ _=>undef)
  ⟨rfl,h qs hqs,hC,hCJ,hCZ,⟨rfl,rfl,λ _ _ _ h=>by simp at h,λ _ _=>rfl⟩,⟨rfl,rfl,λ _ j _ h=>absurd h (hno j),λ _ _=>rfl⟩,λ i h=>absurd h (hno i),by simp,λ i h=>absurd h (hno i),by simp,by simp⟩ (hfalse qs) (by rw [<- hlen qs hqs,hq])
 rw [<- hlen qs hqs] at this
 exact this
end Go.TM
set_option linter.unusedSimpArgs false
namespace Go.TM
variable {T:Type} {P:Program} {S:Sys P T} {fn:FuncId} {ro:Option Nat}
def DLr (S:Sys P T) (Zb:View T) (kd:Nat) (st:St) (ih:(View T->Prop)->Kont T->Fm->List Deferred->Prop) (C:View T->Prop) (K:Kont T) (ds:List Deferred) (f:Fm):Prop:=match kd with
 | 0=>OX S st.o f (λ v _=>ih C K (updO f st.dst v) ds) Zb
 | 1=>∃v,(∀Z',Zb.lg Z'->OX S st.o f (λ v' Z2=>v'=v/\∃Z1,Shift Z2 Z1/\Z'.le Z1) Z')/\ih C K (updO f st.dst v) ds
 | _=>∃F:Value->View T->Prop,(∀v,Mono (F v))/\(∀v Z',F v Z'->Zb.lg Z')/\(∀Z',C Z'->OX S st.o f (λ v' Z2=>∃Z1,Shift Z2 Z1/\F v' Z1) Z')/\∀v,(∃Z',F v Z')->ih (F v) K (updO f st.dst v) ds
def DL1 (S:Sys P T) (Zb:View T) (kd:Nat) (st:St) (ih:(View T->Prop)->Kont T->Fm->List Deferred->Prop) (C:View T->Prop) (K:Kont T) (f:Fm) (ds:List Deferred):Prop:=match st.g with
 | some (j,want)=>(match f j with
  | .bool b=>GB b want (DLr S Zb kd st ih C K ds (upd f j (.bool want))) (ih C K (updO (upd f j (.bool !want)) st.dst undef) ds)
  | .tuple _=>ih C K (updO f st.dst undef) ds
  | _=>False)
 | none=>DLr S Zb kd st ih C K ds f
def DLX (S:Sys P T) (Zb:View T) (l:List (Nat×St)):(View T->Prop)->Kont T->Fm->List Deferred->Prop:=
 List.rec (motive:=λ _=>(View T->Prop)->Kont T->Fm->List Deferred->Prop) (λ C K f ds=>∀Z',C Z'->K f ds Z') (λ p _ ih=>DL1 S Zb p.1 p.2 ih) l
theorem DLX_cons (S:Sys P T) (Zb:View T) (kd:Nat) (st:St) (r:List (Nat×St)):DLX S Zb ((kd,st)::r)=DL1 S Zb kd st (DLX S Zb r):=rfl
theorem ox_stable_lg {o:O} {f:Fm} {K:Value->View T->Prop} {Z:View T} (hs:stable o=true) (h:OX S o f K Z):∃v,K v Z/\∀(Z':View T) (K':Value->View T->Prop),Z.lg Z'->K' v Z'->OX S o f K' Z':=by
 by_cases hl:isLoad o=true
 ·cases o with
  | ld x=>
   simp only [OX,force_eq] at h
   split at h <;> rename_i e
   ·obtain⟨v,a,b⟩:=h;exact⟨v,b,λ Z' K' hl k=>by simp only [OX,force_eq,e];exact⟨v,a.lg hl,k⟩⟩
   ·exact h.elim
  | ldn n x=>
   simp only [OX] at h
   split at h <;> rename_i e
   ·obtain⟨v,a,b⟩:=h;exact⟨_,b,λ Z' K' hl k=>by simp only [OX,force_eq,e];exact⟨v,⟨a.1,a.2.lg hl⟩,k⟩⟩
   ·exact h.elim
  | _=>cases hl
 ·obtain⟨v,a,b⟩:=OX.stable hs h
  exact⟨v,a,λ Z' K' _ k=>b Z' K' (.inl (by simpa using hl)) k⟩
def kindL (P:Program) (mu:List Nat) (ops:Array Oper) (rl:List Nat) (i:Nat):Nat:=
 if rl.contains i then 2 else match ops[i]? with
  | some o=>if stable (cleanOp P mu o) then 0 else 1
  | none=>1
theorem dl_draw {N:Nat} {mu:List Nat} {ops:Array Oper} {Fin:Act->View T->Prop} {K:Kont T} {Zb:View T} {rl:List Nat} (hfin:∀a f ds Z',FR N a f ds->K f ds Z'->Fin a Z') (hN:∀(i:Nat) (o:Oper),ops[i]?=some o->∀d,o.dst=some d->d<N) :
  ∀(idxs:List Nat) (l:List (Nat×St)),idxs.mapM (λ i=>((ops[i]?).bind (cleanSt P mu ops)).map λ st=>(kindL P mu ops rl i,st))=some l->(l.all λ x=>x.2.dfr.isNone)=true->(∀i∈idxs,∀o,ops[i]?=some o->o.guard=none\/i∉rl) ->
   ∀(a:Act) (f:Fm) (ds:List Deferred) (C:View T->Prop),FR N a f ds->DLX S Zb l C K f ds->DrawL S ops rl (λ Z'=>Zb.lg Z') Fin idxs C a:=by
 intro idxs
 induction idxs with
 | nil=>
  intro l hl _ _ a f ds C hf h
  simp at hl
  subst hl
  exact .nil λ Z' hc=>hfin a f ds Z' hf (h Z' hc)
 | cons i idxs ih=>
  intro l hl hnd' hgr a f ds C hf h
  simp only [List.mapM_cons,Option.pure_def,Option.bind_eq_bind,Option.bind_eq_some_iff,Option.map_eq_some_iff] at hl
  obtain⟨x,⟨st,⟨o,ho,hst⟩,rfl⟩,l',hl',e⟩:=hl
  cases e
  simp only [List.all_cons,Bool.and_eq_true] at hnd'
  have hd:=hN i o ho
  have ihx:=ih l' hl' hnd'.2 (λ j hj=>hgr j (List.mem_cons_of_mem _ hj))
  have hk:(i∈rl/\kindL P mu ops rl i=2)\/(i∉rl/\kindL P mu ops rl i=0/\stable (cleanOp P mu o)=true)\/(i∉rl/\kindL P mu ops rl i=1):=by
   unfold kindL
   by_cases hr:i∈rl
   ·exact .inl ⟨hr,by rw [if_pos (by simpa using hr)]⟩
   ·rw [if_neg (by simpa using hr),ho]
    by_cases hs:stable (cleanOp P mu o)=true
    ·exact .inr (.inl ⟨hr,by simp only [hs,if_true],hs⟩)
    ·exact .inr (.inr ⟨hr,by simp only [hs];rfl⟩)
  have run:∀{f:Fm} {st:St},st.o=cleanOp P mu o->st.dst=o.dst->FR N a f ds->Region.wanted o (yielded ops a.tmps)=true->DLr S Zb (kindL P mu ops rl i) st (DLX S Zb l') C K ds f->DrawL S ops rl (λ Z'=>Zb.lg Z') Fin (i::idxs) C a:=by
   intro f st e1 e2 hf hw h
   unfold DLr at h
   rw [e1,e2] at h
   rcases hk with⟨hr,hk⟩ | ⟨hr,hk,hs⟩ | ⟨hr,hk⟩
   ·rw [hk] at h
    obtain⟨F,hF,hFJ,hop,hn⟩:=h
    refine .rel F hr hF hFJ ho hw (λ Z' hc=>?_) (λ v hv=>ihx _ _ _ _ (hf.put o.dst v hd) (hn v hv))
    exact OX_sound (λ x=>hf.eval x) (λ v' Z2 Z3 hs ⟨Z1,a,b⟩=>⟨Z1,hs.trans a,b⟩) (hop Z' hc)
   ·rw [hk] at h
    obtain⟨v,hn,hst⟩:=ox_stable_lg hs h
    refine .det v hr ho hw (λ Z' hle=>?_) (ihx _ _ _ _ (hf.put o.dst v hd) hn)
    exact OX_sound (λ x=>hf.eval x) le_shift_closed (hst Z' _ hle ⟨rfl,Z',.refl _,.refl _⟩)
   ·rw [hk] at h
    obtain⟨v,hop,hn⟩:=h
    refine .det v hr ho hw (λ Z' hle=>?_) (ihx _ _ _ _ (hf.put o.dst v hd) hn)
    exact OX_sound (λ x=>hf.eval x) le_shift_closed (hop Z' hle)
  cases cleanSt_cleaned hst with
  | plain hnd hg=>simp only [DLX_cons,DL1] at h;exact run rfl rfl hf (wanted_none hg) h
  | @guarded j w d hnd hg hdj=>
   simp only [DLX_cons,DL1] at h
   have hrl:i∉rl:=(hgr i (List.mem_cons_self ..) o ho).resolve_left (by rw [hg];simp)
   split at h
   ·rename_i b hb
    have hw:=wanted_some (ops:=ops) (o:=o) hg hdj (hf.slot hb)
    have e:upd f d (.bool b)=f:=upd_same hb
    cases b <;> cases w <;> simp only [GB,Bool.not_true,Bool.not_false] at h <;> rw [e] at h
    ·exact run rfl rfl hf (by rw [hw];rfl) h
    ·exact .un hrl ho (by rw [hw];rfl) (ihx _ _ _ _ (hf.put o.dst undef hd) h)
    ·exact .un hrl ho (by rw [hw];rfl) (ihx _ _ _ _ (hf.put o.dst undef hd) h)
    ·exact run rfl rfl hf (by rw [hw];rfl) h
   ·rename_i vs hb
    exact .un hrl ho (wanted_not hf hg hdj hb) (ihx _ _ _ _ (hf.put o.dst undef hd) h)
   ·exact h.elim
  | dfr=>simp at hnd'
def altsB (N:Nat) (ops:Array Oper) (rl:List Nat) (alts:List (List Nat)) (ts:List Nat):Bool:=
 altsOk ops rl alts ts && ops.all (inB N) && rl.all λ i=>((ops[i]?).map (·.guard.isNone)).getD true
theorem cdX_alts {N:Nat} {mu:List Nat} {c:Code} {id:Nat} {ops:Array Oper} {n:Kont T} {x:Nat->Kont T} {r:Kont T} {f:Fm} {ds:List Deferred} {Z:View T} (rl:List Nat) (alts:List (List Nat)) (ts:List Nat) (la:List (List (Nat×St))) (lt:List St) (hm:P.follows .mixedOrders=true)
  (hc:c=.region id ops true) (hok:altsB N ops rl alts ts=true) (hla:alts.mapM (λ qs=>qs.mapM λ i=>((ops[i]?).bind (cleanSt P mu ops)).map λ st=>(kindL P mu ops rl i,st))=some la) (hlt:ts.mapM (λ i=>(ops[i]?).bind (cleanSt P mu ops))=some lt)
  (hdf:(la.all λ l=>l.all λ x=>x.2.dfr.isNone)=true) (E:Kont T) (h:∀l∈la,DLX S Z.frz l (λ Z'=>Z.le Z') E f ds) (hE:∀f' ds' Z',E f' ds' Z'->OpX S ro lt n f' ds' Z'):cdX S fn ro N c n x r f ds Z:=by
 subst hc
 intro a hf
 unfold altsB at hok
 simp only [Bool.and_eq_true] at hok
 obtain⟨⟨hok,hin⟩,hg⟩:=hok
 have hN:∀(i:Nat) (o:Oper),ops[i]?=some o->∀d,o.dst=some d->d<N:=λ i o ho d hd=>by
  have:=(Array.all_eq_true'.1 hin) o (Array.mem_of_getElem? ho)
  unfold inB at this
  rw [hd] at this
  exact of_decide_eq_true this
 have hgr:∀i∈rl,∀o,ops[i]?=some o->o.guard=none:=λ i hi o ho=>by
  have:=List.all_eq_true.1 hg i hi
  rw [ho] at this
  simpa using this
 refine cv_alts (J:=λ Z'=>Z.frz.lg Z') rl alts ts (λ Z'=>Z.le Z') (λ _ _ h k=>h.trans k) (λ Z' h=>⟨h.imm,⟨_,(List.append_nil _).symm⟩,h.tok⟩) (.refl Z) hm hok λ qs hqs=>?_
 obtain⟨l,hl,hl'⟩:∃l,l∈la/\qs.mapM (λ i=>((ops[i]?).bind (cleanSt P mu ops)).map λ st=>(kindL P mu ops rl i,st))=some l:=by
  clear h hdf hok
  induction alts generalizing la with
  | nil=>cases hqs
  | cons q alts ih=>
   simp only [List.mapM_cons,Option.pure_def,Option.bind_eq_bind,Option.bind_eq_some_iff] at hla
   obtain⟨l,h1,la',h2,e⟩:=hla
   cases e
   rcases List.mem_cons.1 hqs with rfl | hqs
   ·exact⟨l,List.mem_cons_self ..,h1⟩
   ·obtain⟨l',h3,h4⟩:=ih la' h2 hqs
    exact⟨l',List.mem_cons_of_mem _ h3,h4⟩
 refine dl_draw (K:=E) (λ a' f' ds' Z' hf' hk=>?_) hN qs l hl' (List.all_eq_true.1 hdf l hl) (λ i _ o ho=>?_) a f ds _ hf (h l hl)
 ·refine opx_ops (n:=n) (λ a f ds Z hf h=>?_) hN ts lt hlt a' f' ds' Z' hf' (hE f' ds' Z' hk)
  refine⟨by rw [hf.size,‹FR N _ _ _›.size],f,hf.get,?_⟩
  rw [hf.ds];exact h
 ·by_cases hi:i∈rl
  ·exact .inl (hgr i hi o ho)
  ·exact .inr hi
theorem cv_altsX {N:Nat} {mu:List Nat} {c:Code} {id:Nat} {ops:Array Oper} {Q:Ex->Act->View T->Prop} {a:Act} {f:Fm} {ds:List Deferred} {Z:View T} (hf:FR N a f ds) (rl:List Nat) (alts:List (List Nat)) (ts:List Nat) (la:List (List (Nat×St))) (lt:List St) (hm:P.follows .mixedOrders=true)
  (hc:c=.region id ops true) (hok:altsB N ops rl alts ts=true) (hla:alts.mapM (λ qs=>qs.mapM λ i=>((ops[i]?).bind (cleanSt P mu ops)).map λ st=>(kindL P mu ops rl i,st))=some la) (hlt:ts.mapM (λ i=>(ops[i]?).bind (cleanSt P mu ops))=some lt)
  (hdf:(la.all λ l=>l.all λ x=>x.2.dfr.isNone)=true) (E:Kont T) (h:∀l∈la,DLX S Z.frz l (λ Z'=>Z.le Z') E f ds) (hE:∀f' ds' Z',E f' ds' Z'->OpX S ro lt (λ f ds Z=>∀a',FR N a' f ds->Q .normal a' Z) f' ds' Z'):CodeV S fn ro c Q a Z:=by
 have:=cdX_alts (S:=S) (fn:=fn) (ro:=ro) (n:=λ f ds Z=>∀a',FR N a' f ds->Q .normal a' Z) (x:=λ _ _ _ _=>False) (r:=λ _ _ _=>False) (Z:=Z) rl alts ts la lt hm hc hok hla hlt hdf E h hE a hf
 refine CodeV.mono this λ e a' Z' ⟨hs,f',hg,hp⟩=>?_
 cases e with
 | normal=>exact hp a' ⟨rfl,by rw [hs];exact hf.size,hg⟩
 | exit i=>exact hp.elim
 | ret=>exact hp.elim
structure Hld (Z:View T) (b:Nat) (e:TypeId) (c:Array Value) (Z':View T):Prop where
 imm:∀x o,Z.I x=some o->Z'.I x=some o
 own:Z'.M=.obj b (.cells c e (0,0))::Z.M
 tok:Z'.tok=Z.tok
 new:Z.I b=none
theorem Hld.le {Z Z' Z'':View T} {b:Nat} {e:TypeId} {c:Array Value} (h:Hld Z b e c Z') (k:Z'.le Z''):Hld Z b e c Z'':=⟨λ x o i=>k.imm x o (h.imm x o i),k.own.trans h.own,k.tok.trans h.tok,h.new⟩
theorem Hld.frz2 {Z Z':View T} {b:Nat} {e:TypeId} {c:Array Value} (h:Hld Z b e c Z'):Z.frz.lg Z'.frz:=⟨h.imm,⟨[],rfl⟩,h.tok⟩
theorem Hld.frz1 {Z Z':View T} {b:Nat} {e:TypeId} {c:Array Value} (h:Hld Z b e c Z'):Z.frz.lg Z':=⟨h.imm,⟨_,(List.append_nil _).symm⟩,h.tok⟩
theorem Hld.made {Z Z':View T} {b:Nat} {e:TypeId} {c:Array Value} (h:Z.le Z') (hf:Z'.free b):Hld Z b e c (Z'.put b (.cells c e)):=by
 refine⟨h.imm,by show _::Z'.M=_;rw [h.own],h.tok,?_⟩
 cases hb:Z.I b with
 | none=>rfl
 | some o=>have:=h.imm b o hb;rw [hf.1] at this;cases this
theorem Hld.write {Z Z':View T} {b:Nat} {e:TypeId} {c:Array Value} {vs:List Value} {Q:View T->Prop} (h:Hld Z b e c Z') (hsz:c.size=vs.length) (hs:∀v∈vs,v.single=true) (hQ:∀Z1,Z.le Z1->Blk Z1 b vs.toArray->Q Z1):StV ⟨b,0,none⟩ vs 0 (λ Z'=>∃Z1,Shift Z' Z1/\Q Z1) Z':=by
 refine stv_mid [] vs 0 c Z' h.own hs (by omega) ?_
 rw [layAt_all hsz]
 refine⟨_,shift_freeze (b:=b) (M':=Z.M) (List.Perm.refl _),hQ _ ⟨λ x o i=>?_,rfl,h.tok⟩ Blk.new⟩
 show addI Z'.I b _ x=_
 unfold addI
 rw [if_neg]
 ·exact h.imm x o i
 ·rintro rfl;rw [h.new] at i;cases i
end Go.TM
