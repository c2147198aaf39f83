/- A part of the proof: lemmas that the last text uses. No conditions of its own. -/
set_option linter.unusedSimpArgs false
set_option linter.unusedVariables false
namespace Go.TM
def look (y:Int):List (Int×Int)->Option Int
 | []=>none
 | p::r=>if y=p.1 then some p.2 else look y r
def upsI (y x:Int):List (Int×Int)->List (Int×Int)
 | []=>[(y,x)]
 | p::r=>if y=p.1 then (p.1,x)::r else p::upsI y x r
theorem look_upsI (y x z:Int):∀m,look z (upsI y x m)=if z=y then some x else look z m
 | []=>by simp only [upsI,look]
 | p::r=>by
  simp only [upsI]
  split
  ·rename_i h;subst h
   simp only [look]
   split <;> rfl
  ·rename_i h
   simp only [look,look_upsI y x z r]
   split
   ·rename_i h1;subst h1
    rw [if_neg (λ e=>h e.symm)]
   ·rfl
structure GS where
 seen:List Int
 own:List (Int×Int)
def giveLoop (g:Int->GS->Bool×GS) (one:Int):List (Int×Int)->GS->Bool×GS
 | [],s=>(false,s)
 | p::r,s=>
  if p.1≠one\/p.2∈s.seen then giveLoop g one r s
  else match look p.2 s.own with
   | none=>(true,⟨s.seen++[p.2],upsI p.2 one s.own⟩)
   | some o=>match g o ⟨s.seen++[p.2],s.own⟩ with
    | (true,s')=>(true,⟨s'.seen,upsI p.2 one s'.own⟩)
    | (false,s')=>giveLoop g one r s'
def give (ps:List (Int×Int)):Nat->Int->GS->Bool×GS
 | 0,_,s=>(false,s)
 | n+1,one,s=>giveLoop (give ps n) one ps s
def mostStep (ps:List (Int×Int)) (st:Nat×List (Int×Int)) (a:Int):Nat×List (Int×Int):=
 match give ps (ps.length+1) a ⟨[],st.2⟩ with
 | (true,s)=>(st.1+1,s.own)
 | (false,s)=>(st.1,s.own)
def most (as:List Int) (ps:List (Int×Int)):Nat:=(as.foldl (mostStep ps) (0,[])).1
def unseen (ps:List (Int×Int)) (s:List Int):Nat:=(ps.filter λ p=>!decide (p.2∈s)).length
theorem unseen_le (ps:List (Int×Int)) (s:List Int):unseen ps s<=ps.length:=List.length_filter_le ..
theorem unseen_mono {ps:List (Int×Int)} {s s':List Int} (h:∀y,y∈s->y∈s'):unseen ps s'<=unseen ps s:=by
 unfold unseen
 induction ps with
 | nil=>simp
 | cons p r ih=>
  simp only [List.filter_cons]
  by_cases h1:p.2∈s
  ·have h2:=h _ h1
   simp [h1,h2];exact ih
  ·by_cases h2:p.2∈s'
   ·simp [h1,h2];omega
   ·simp [h1,h2];exact ih
theorem unseen_lt {ps:List (Int×Int)} {s s':List Int} {p:Int×Int} (h:∀y,y∈s->y∈s') (hp:p∈ps) (h1:p.2∉s) (h2:p.2∈s'):unseen ps s'<unseen ps s:=by
 induction ps with
 | nil=>cases hp
 | cons q r ih=>
  have hm:unseen r s'<=unseen r s:=unseen_mono h
  unfold unseen at hm ih ⊢
  simp only [List.filter_cons]
  rcases List.mem_cons.1 hp with rfl | hp
  ·simp [h1,h2];omega
  ·have:=ih hp
   by_cases h3:q.2∈s
   ·have h4:=h _ h3
    simp [h3,h4];exact this
   ·by_cases h4:q.2∈s'
    ·simp [h3,h4];omega
    ·simp [h3,h4];exact this
structure Fails (ps:List (Int×Int)) (l:List (Int×Int)) (one:Int) (s s':GS):Prop where
 own:s'.own=s.own
 sub:∀y,y∈s.seen->y∈s'.seen
 all:∀y,(one,y)∈l->y∈s'.seen
 new:∀y,y∈s'.seen->y∈s.seen\/∃o,look y s.own=some o/\∀z,(o,z)∈ps->z∈s'.seen
theorem giveLoop_fails {ps:List (Int×Int)} {g:Int->GS->Bool×GS} {one:Int} {n:Nat}
  (hg:∀o s s',unseen ps s.seen<n->g o s=(false,s')->Fails ps ps o s s') :
  ∀(l:List (Int×Int)) (s s':GS),(∀p,p∈l->p∈ps)->unseen ps s.seen<n+1->giveLoop g one l s=(false,s')->Fails ps l one s s'
 | [],s,s',_,_,h=>by
  simp only [giveLoop,Prod.mk.injEq,true_and] at h
  subst h
  exact⟨rfl,λ _ h=>h,λ y h=>(by cases h),λ y h=>.inl h⟩
 | p::r,s,s',hl,hn,h=>by
  simp only [giveLoop] at h
  have hr:∀q,q∈r->q∈ps:=λ q hq=>hl q (List.mem_cons_of_mem _ hq)
  split at h
  ·rename_i hc
   have k:=giveLoop_fails hg r s s' hr hn h
   refine⟨k.own,k.sub,λ y hy=>?_,k.new⟩
   rcases List.mem_cons.1 hy with e | hy
   ·subst e
    rcases hc with hc | hc
    ·exact absurd rfl hc
    ·exact k.sub _ hc
   ·exact k.all y hy
  ·rename_i hc
   have hc1:p.1=one:=Classical.byContradiction λ e=>hc (.inl e)
   have hc2:p.2∉s.seen:=λ e=>hc (.inr e)
   split at h
   ·simp at h
   ·rename_i o ho
    split at h
    ·simp at h
    ·rename_i s_1 hg_1
     have hlt:unseen ps (s.seen++[p.2])<unseen ps s.seen:=unseen_lt (λ y hy=>List.mem_append_left _ hy) (hl p (List.mem_cons_self ..)) hc2 (by simp)
     have k1:=hg o _ _ (show unseen ps (s.seen++[p.2])<n by omega) hg_1
     have sub1:∀y,y∈s.seen->y∈s_1.seen:=λ y hy=>k1.sub y (List.mem_append_left _ hy)
     have hm:unseen ps s_1.seen<=unseen ps s.seen:=unseen_mono sub1
     have k2:=giveLoop_fails hg r s_1 s' hr (by omega) h
     refine⟨k2.own.trans k1.own,λ y hy=>k2.sub y (sub1 y hy),λ y hy=>?_,λ y hy=>?_⟩
     ·rcases List.mem_cons.1 hy with e | hy
      ·subst e;exact k2.sub _ (k1.sub _ (by simp))
      ·exact k2.all y hy
     ·rcases k2.new y hy with h1 | ⟨o',h1,h2⟩
      ·rcases k1.new y h1 with h3 | ⟨o',h3,h4⟩
       ·rcases List.mem_append.1 h3 with h5 | h5
        ·exact .inl h5
        ·rw [List.mem_singleton] at h5
         subst h5
         exact .inr ⟨o,ho,λ z hz=>k2.sub _ (k1.all z hz)⟩
       ·exact .inr ⟨o',h3,λ z hz=>k2.sub _ (h4 z hz)⟩
      ·rw [k1.own] at h1
       exact .inr ⟨o',h1,h2⟩
theorem give_fails {ps:List (Int×Int)}:∀(n:Nat) (one:Int) (s s':GS),unseen ps s.seen<n->give ps n one s=(false,s')->Fails ps ps one s s'
 | 0,_,_,_,h,_=>absurd h (Nat.not_lt_zero _)
 | n+1,one,s,s',hn,h=>giveLoop_fails (λ o s s' hs hg=>give_fails n o s s' hs hg) ps s s' (λ _ h=>h) hn h
def cntO (x:Int) (m:List (Int×Int)):Nat:=(m.filter λ p=>decide (p.2=x)).length
theorem look_none {y:Int}:∀{m:List (Int×Int)},look y m=none->y∉m.map Prod.fst
 | [],_=>by simp
 | p::r,h=>by
  simp only [look] at h
  split at h
  ·cases h
  ·rename_i e
   have:=look_none h
   simp only [List.map_cons,List.mem_cons,not_or]
   exact⟨e,this⟩
theorem upsI_new {y x:Int}:∀{m:List (Int×Int)},look y m=none->upsI y x m=m++[(y,x)]
 | [],_=>rfl
 | p::r,h=>by
  simp only [look] at h
  split at h
  ·cases h
  ·rename_i e
   simp only [upsI,if_neg e,List.cons_append,upsI_new h]
theorem upsI_keys {y x o:Int}:∀{m:List (Int×Int)},look y m=some o->(upsI y x m).map Prod.fst=m.map Prod.fst
 | p::r,h=>by
  simp only [look] at h
  simp only [upsI]
  split at h
  ·rename_i e;rw [if_pos e];rfl
  ·rename_i e;rw [if_neg e];simp [upsI_keys h]
theorem upsI_cnt {y x o z:Int}:∀{m:List (Int×Int)},look y m=some o->cntO z (upsI y x m)+(if z=o then 1 else 0)=cntO z m+(if z=x then 1 else 0)
 | p::r,h=>by
  simp only [look] at h
  simp only [upsI]
  split at h
  ·rename_i e;rw [if_pos e]
   cases h
   unfold cntO
   simp only [List.filter_cons]
   by_cases h1:x=z <;> by_cases h2:p.2=z <;> simp [h1,h2,eq_comm (a:=z)] <;> omega
  ·rename_i e;rw [if_neg e]
   have:=upsI_cnt (x:=x) (z:=z) h
   unfold cntO at this ⊢
   simp only [List.filter_cons]
   by_cases h2:p.2=z <;> simp only [h2,decide_true,decide_false,if_true,if_false,List.length_cons,Bool.false_eq_true] <;> omega
structure Gives (ps:List (Int×Int)) (one:Int) (s s':GS):Prop where
 len:s'.own.length=s.own.length+1
 cnt:∀z,cntO z s'.own=cntO z s.own+(if z=one then 1 else 0)
 keep:∀y,y∈s.seen->look y s'.own=look y s.own
 edge:(∀p,p∈s.own->(p.2,p.1)∈ps)->∀p,p∈s'.own->(p.2,p.1)∈ps
 nodup:(s.own.map Prod.fst).Nodup->(s'.own.map Prod.fst).Nodup
 sub:∀y,y∈s.seen->y∈s'.seen
theorem upsI_mem {y x:Int} {p:Int×Int}:∀{m:List (Int×Int)},p∈upsI y x m->p∈m\/p=(y,x)
 | [],h=>by simp [upsI] at h;exact .inr h
 | q::r,h=>by
  simp only [upsI] at h
  split at h
  ·rename_i e
   rcases List.mem_cons.1 h with h | h
   ·right;rw [h,e]
   ·exact .inl (List.mem_cons_of_mem _ h)
  ·rcases List.mem_cons.1 h with h | h
   ·left;rw [h];exact List.mem_cons_self ..
   ·exact (upsI_mem h).imp (List.mem_cons_of_mem _) id
theorem upsI_len {y x o:Int} {m:List (Int×Int)} (h:look y m=some o):(upsI y x m).length=m.length:=by
 have:=congrArg List.length (upsI_keys (x:=x) h)
 simpa using this
theorem giveLoop_gives {ps:List (Int×Int)} {g:Int->GS->Bool×GS} {one:Int} {n:Nat}
  (hgf:∀o s s',unseen ps s.seen<n->g o s=(false,s')->Fails ps ps o s s')
  (hg:∀o s s',unseen ps s.seen<n->g o s=(true,s')->Gives ps o s s') :
  ∀(l:List (Int×Int)) (s s':GS),(∀p,p∈l->p∈ps)->unseen ps s.seen<n+1->giveLoop g one l s=(true,s')->Gives ps one s s'
 | [],s,s',_,_,h=>by simp [giveLoop] at h
 | p::r,s,s',hl,hn,h=>by
  simp only [giveLoop] at h
  have hr:∀q,q∈r->q∈ps:=λ q hq=>hl q (List.mem_cons_of_mem _ hq)
  have hp:p∈ps:=hl p (List.mem_cons_self ..)
  split at h
  ·exact giveLoop_gives hgf hg r s s' hr hn h
  ·rename_i hc
   have hc1:p.1=one:=Classical.byContradiction λ e=>hc (.inl e)
   have hc2:p.2∉s.seen:=λ e=>hc (.inr e)
   have hpe:(one,p.2)∈ps:=by rw [<- hc1];exact hp
   split at h
   ·rename_i ho
    simp only [Prod.mk.injEq,true_and] at h
    subst h
    refine⟨by simp [upsI_new ho],λ z=>?_,λ y hy=>?_,λ he q hq=>?_,λ hd=>?_,λ y hy=>List.mem_append_left _ hy⟩
    ·simp only [upsI_new ho,cntO,List.filter_append,List.length_append]
     by_cases h1:one=z
     ·simp [h1]
     ·simp [h1];exact λ e=>h1 e.symm
    ·show look y (upsI p.2 one s.own)=_
     rw [look_upsI,if_neg (λ e:y=p.2=>hc2 (e ▸ hy))]
    ·rcases upsI_mem hq with h | rfl
     ·exact he q h
     ·exact hpe
    ·simp only [upsI_new ho,List.map_append,List.map_cons,List.map_nil]
     exact List.nodup_append.2 ⟨hd,by simp,λ a ha b hb e=>look_none ho (by simp at hb;rw [<- hb,<- e];exact ha)⟩
   ·rename_i o ho
    have hlt:unseen ps (s.seen++[p.2])<unseen ps s.seen:=unseen_lt (λ y hy=>List.mem_append_left _ hy) hp hc2 (by simp)
    split at h
    ·rename_i s_1 hg_1
     simp only [Prod.mk.injEq,true_and] at h
     subst h
     have k:=hg o _ _ (show unseen ps (s.seen++[p.2])<n by omega) hg_1
     have hlo:look p.2 s_1.own=some o:=(k.keep p.2 (by simp)).trans ho
     refine⟨by show (upsI p.2 one s_1.own).length=_;rw [upsI_len hlo];exact k.len,λ z=>?_,λ y hy=>?_,λ he q hq=>?_,λ hd=>?_,λ y hy=>k.sub y (List.mem_append_left _ hy)⟩
     ·have h1:=upsI_cnt (x:=one) (z:=z) hlo
      have h2:=k.cnt z
      show cntO z (upsI p.2 one s_1.own)=cntO z s.own+_
      simp only at h2
      omega
     ·show look y (upsI p.2 one s_1.own)=_
      rw [look_upsI,if_neg (λ e:y=p.2=>hc2 (e ▸ hy))]
      exact k.keep y (List.mem_append_left _ hy)
     ·rcases upsI_mem hq with h | rfl
      ·exact k.edge he q h
      ·exact hpe
     ·show ((upsI p.2 one s_1.own).map Prod.fst).Nodup
      rw [upsI_keys hlo];exact k.nodup hd
    ·rename_i s_1 hg_1
     have k1:=hgf o _ _ (show unseen ps (s.seen++[p.2])<n by omega) hg_1
     have sub1:∀y,y∈s.seen->y∈s_1.seen:=λ y hy=>k1.sub y (List.mem_append_left _ hy)
     have hm:unseen ps s_1.seen<=unseen ps s.seen:=unseen_mono sub1
     have k2:=giveLoop_gives hgf hg r s_1 s' hr (by omega) h
     have e:s_1.own=s.own:=k1.own
     refine⟨by rw [k2.len,e],λ z=>by rw [k2.cnt,e],λ y hy=>by rw [k2.keep y (sub1 y hy),e],λ he=>k2.edge (by rw [e];exact he),λ hd=>k2.nodup (by rw [e];exact hd),λ y hy=>k2.sub y (sub1 y hy)⟩
theorem give_gives {ps:List (Int×Int)}:∀(n:Nat) (one:Int) (s s':GS),unseen ps s.seen<n->give ps n one s=(true,s')->Gives ps one s s'
 | 0,_,_,_,h,_=>absurd h (Nat.not_lt_zero _)
 | n+1,one,s,s',hn,h=>giveLoop_gives (λ o s s' hs hg=>give_fails n o s s' hs hg) (λ o s s' hs hg=>give_gives n o s s' hs hg) ps s s' (λ _ h=>h) hn h
def Clo (ps:List (Int×Int)) (D:List Int) (m:List (Int×Int)):Prop:=∀y,y∈D->∃o,look y m=some o/\∀z,(o,z)∈ps->z∈D
theorem giveLoop_clo {ps:List (Int×Int)} {D:List Int} {g:Int->GS->Bool×GS} {one:Int} {n:Nat}
  (hgf:∀o s s',unseen ps s.seen<n->g o s=(false,s')->Fails ps ps o s s')
  (hgt:∀o s s',unseen ps s.seen<n->g o s=(true,s')->Gives ps o s s')
  (hgc:∀o s s',unseen ps s.seen<n->Clo ps D s.own->g o s=(true,s')->(∃z,(o,z)∈ps/\z∉D)/\∀y,y∈D->look y s'.own=look y s.own) :
  ∀(l:List (Int×Int)) (s s':GS),(∀p,p∈l->p∈ps)->unseen ps s.seen<n+1->Clo ps D s.own->giveLoop g one l s=(true,s')->(∃z,(one,z)∈ps/\z∉D)/\∀y,y∈D->look y s'.own=look y s.own
 | [],s,s',_,_,_,h=>by simp [giveLoop] at h
 | p::r,s,s',hl,hn,hD,h=>by
  simp only [giveLoop] at h
  have hr:∀q,q∈r->q∈ps:=λ q hq=>hl q (List.mem_cons_of_mem _ hq)
  have hp:p∈ps:=hl p (List.mem_cons_self ..)
  split at h
  ·exact giveLoop_clo hgf hgt hgc r s s' hr hn hD h
  ·rename_i hc
   have hc1:p.1=one:=Classical.byContradiction λ e=>hc (.inl e)
   have hc2:p.2∉s.seen:=λ e=>hc (.inr e)
   have hpe:(one,p.2)∈ps:=by rw [<- hc1];exact hp
   split at h
   ·rename_i ho
    simp only [Prod.mk.injEq,true_and] at h
    subst h
    have hno:p.2∉D:=λ hd=>by
     obtain⟨o,h1,_⟩:=hD _ hd
     rw [h1] at ho;cases ho
    refine⟨⟨p.2,hpe,hno⟩,λ y hy=>?_⟩
    show look y (upsI p.2 one s.own)=_
    rw [look_upsI,if_neg (λ e:y=p.2=>hno (e ▸ hy))]
   ·rename_i o ho
    have hlt:unseen ps (s.seen++[p.2])<unseen ps s.seen:=unseen_lt (λ y hy=>List.mem_append_left _ hy) hp hc2 (by simp)
    split at h
    ·rename_i s_1 hg_1
     simp only [Prod.mk.injEq,true_and] at h
     subst h
     obtain⟨⟨z,hz1,hz2⟩,k⟩:=hgc o ⟨s.seen++[p.2],s.own⟩ _ (show unseen ps (s.seen++[p.2])<n by omega) hD hg_1
     have hno:p.2∉D:=λ hd=>by
      obtain⟨o',h1,h2⟩:=hD _ hd
      rw [h1] at ho;cases ho
      exact hz2 (h2 z hz1)
     refine⟨⟨p.2,hpe,hno⟩,λ y hy=>?_⟩
     show look y (upsI p.2 one s_1.own)=_
     rw [look_upsI,if_neg (λ e:y=p.2=>hno (e ▸ hy))]
     exact k y hy
    ·rename_i s_1 hg_1
     have k1:=hgf o _ _ (show unseen ps (s.seen++[p.2])<n by omega) hg_1
     have sub1:∀y,y∈s.seen->y∈s_1.seen:=λ y hy=>k1.sub y (List.mem_append_left _ hy)
     have hm:unseen ps s_1.seen<=unseen ps s.seen:=unseen_mono sub1
     have e:s_1.own=s.own:=k1.own
     have k2:=giveLoop_clo hgf hgt hgc r s_1 s' hr (by omega) (by rw [e];exact hD) h
     rw [e] at k2
     exact k2
theorem give_clo {ps:List (Int×Int)} {D:List Int}:∀(n:Nat) (one:Int) (s s':GS),unseen ps s.seen<n->Clo ps D s.own->give ps n one s=(true,s')->(∃z,(one,z)∈ps/\z∉D)/\∀y,y∈D->look y s'.own=look y s.own
 | 0,_,_,_,h,_,_=>absurd h (Nat.not_lt_zero _)
 | n+1,one,s,s',hn,hD,h=>giveLoop_clo (λ o s s' hs hg=>give_fails n o s s' hs hg) (λ o s s' hs hg=>give_gives n o s s' hs hg) (λ o s s' hs hD hg=>give_clo n o s s' hs hD hg) ps s s' (λ _ h=>h) hn hD h
structure Half (ps:List (Int×Int)) (done:List Int) (st:Nat×List (Int×Int)) (D:List Int):Prop where
 many:st.1=st.2.length
 edge:∀p,p∈st.2->(p.2,p.1)∈ps
 nodup:(st.2.map Prod.fst).Nodup
 clo:Clo ps D st.2
 on:∀a,a∈done->cntO a st.2=1\/(cntO a st.2=0/\∀z,(a,z)∈ps->z∈D)
 off:∀a,a∉done->cntO a st.2=0
theorem Half.step {ps:List (Int×Int)} {done:List Int} {st:Nat×List (Int×Int)} {D:List Int} (h:Half ps done st D) {a:Int} (ha:a∉done):∃D',Half ps (done++[a]) (mostStep ps st a) D':=by
 have hn:unseen ps ([]:List Int)<ps.length+1:=by have:=unseen_le ps [];omega
 unfold mostStep
 cases hg:give ps (ps.length+1) a ⟨[],st.2⟩ with
 | mk b s=>
 cases b with
 | true=>
  have k:=give_gives _ a _ s hn hg
  have kc:=(give_clo _ a _ s hn h.clo hg).2
  refine⟨D,?_,?_,?_,?_,?_,?_⟩
  ·show st.1+1=s.own.length
   rw [k.len,h.many]
  ·exact k.edge h.edge
  ·exact k.nodup h.nodup
  ·intro y hy
   obtain⟨o,h1,h2⟩:=h.clo y hy
   exact⟨o,(kc y hy).trans h1,h2⟩
  ·intro x hx
   have e:=k.cnt x
   show cntO x s.own=1\/(cntO x s.own=0/\_)
   rcases List.mem_append.1 hx with hx | hx
   ·have hne:x≠a:=λ e=>ha (e ▸ hx)
    rw [e,if_neg hne]
    exact h.on x hx
   ·rw [List.mem_singleton] at hx
    subst hx
    left
    rw [e,if_pos rfl]
    have:=h.off x ha
    show cntO x st.2+1=1
    omega
  ·intro x hx
   have hne:x≠a:=λ e=>hx (by rw [e];simp)
   have hx':x∉done:=λ hd=>hx (List.mem_append_left _ hd)
   show cntO x s.own=0
   rw [k.cnt x,if_neg hne]
   exact h.off x hx'
 | false=>
  have k:=give_fails _ a _ s hn hg
  have e:s.own=st.2:=k.own
  refine⟨D++s.seen,?_,?_,?_,?_,?_,?_⟩
  ·show st.1=s.own.length
   rw [e,h.many]
  ·show ∀p,p∈s.own->_
   rw [e];exact h.edge
  ·show (s.own.map Prod.fst).Nodup
   rw [e];exact h.nodup
  ·intro y hy
   show ∃o,look y s.own=some o/\_
   rw [e]
   rcases List.mem_append.1 hy with hy | hy
   ·obtain⟨o,h1,h2⟩:=h.clo y hy
    exact⟨o,h1,λ z hz=>List.mem_append_left _ (h2 z hz)⟩
   ·rcases k.new y hy with h1 | ⟨o,h1,h2⟩
    ·cases h1
    ·exact⟨o,h1,λ z hz=>List.mem_append_right _ (h2 z hz)⟩
  ·intro x hx
   show cntO x s.own=1\/(cntO x s.own=0/\_)
   rw [e]
   rcases List.mem_append.1 hx with hx | hx
   ·exact (h.on x hx).imp id λ⟨h1,h2⟩=>⟨h1,λ z hz=>List.mem_append_left _ (h2 z hz)⟩
   ·rw [List.mem_singleton] at hx
    subst hx
    exact .inr ⟨h.off x ha,λ z hz=>List.mem_append_right _ (k.all z hz)⟩
  ·intro x hx
   show cntO x s.own=0
   rw [e]
   exact h.off x λ hd=>hx (List.mem_append_left _ hd)
theorem Half.all {ps:List (Int×Int)}:∀(as done:List Int) (st:Nat×List (Int×Int)) (D:List Int),Half ps done st D->(done++as).Nodup->∃D',Half ps (done++as) (as.foldl (mostStep ps) st) D'
 | [],done,st,D,h,_=>⟨D,by simpa using h⟩
 | a::as,done,st,D,h,hn=>by
  have ha:a∉done:=λ hd=>(List.nodup_append.1 hn).2.2 a hd a (List.mem_cons_self ..) rfl
  obtain⟨D',h'⟩:=h.step ha
  have:=Half.all as (done++[a]) _ D' h' (by simpa using hn)
  simpa using this
end Go.TM
