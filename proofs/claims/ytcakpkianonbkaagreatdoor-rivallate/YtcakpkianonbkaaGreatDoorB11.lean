/- Lemmas. No conditions. -/
import Derived.Conc.Beside
import Derived.Test.YtcakpkianonbkaaGreatDoorB00
set_option linter.all false
open List
namespace Go.TM
inductive Tr:Type 1 where
 |node (ι:Type) (f:ι->Tr)
def Tr.Sub:Tr->Tr->Prop
 |a,.node _ f=>∃i,a=f i
def Tr.sub_wf:WellFounded Tr.Sub:=by
 refine⟨λ r=>?_⟩
 induction r with
 |node ι f ih=>
  refine⟨_,λ a h=>?_⟩;obtain⟨i,rfl⟩:=h;exact ih i
section
variable{T:Type}{P:Program}{S:Sys P T}{Stop:Stp T}
def JR(S:Sys P T)(Stop:Stp T):Tr->Stp T
 |.node _ f=>FJ S Stop (λ m g U=>∃i,JR S Stop (f i) m g U)
def J.rank{m:Bool}{g:Goroutine}{U:Qa T}(h:J S Stop m g U):∃r,JR S Stop r m g U:=by
 refine J.ind (X:=λ m g U=>∃r,JR S Stop r m g U) (λ m g U h=>?_) h;refine⟨.node { x:Bool×Goroutine×Qa T // ∃r,JR S Stop r x.1 x.2.1 x.2.2 } (λ x=>Classical.choose x.2),?_⟩;exact h.mono λ m g U hx=>⟨⟨(m,g,U),hx.1⟩,Classical.choose_spec (p:=λ r=>JR S Stop r m g U) hx.1⟩
def JR.step{r:Tr}{m:Bool}{g:Goroutine}{U:Qa T}(h:JR S Stop r m g U):FJ S Stop (λ m g U=>∃r',Tr.Sub r' r/\JR S Stop r' m g U) m g U:=by
 cases r with
 |node ι f=>
  have h':FJ S Stop (λ m g U=>∃i,JR S Stop (f i) m g U) m g U:=h;exact h'.mono λ m g U⟨i,hi⟩=>⟨f i,⟨i,rfl⟩,hi⟩
end
def Cut(L' L:List Tr):Prop:=∃r B C,L.Perm (r::B)/\L'.Perm (C++B)/\∀c∈C,Tr.Sub c r
def Cut.perm{K L L':List Tr}(h:Cut K L)(p:L.Perm L'):Cut K L':=by
 obtain⟨r,B,C,h1,h2,h3⟩:=h;exact⟨r,B,C,p.symm.trans h1,h2,h3⟩
def Q5e{L L':List Tr}(h:Acc Cut L)(p:L.Perm L'):Acc Cut L':=⟨_,λ K hK=>h.inv (hK.perm p.symm)⟩
def Zpp:Acc Cut []:=by
 refine⟨_,λ K h=>?_⟩;obtain⟨r,B,C,h1,_⟩:=h;have:=h1.length_eq;simp at this
def Q5d{r:Tr}(hr:∀c,Tr.Sub c r->∀L,Acc Cut L->Acc Cut (c::L)):∀L,Acc Cut L->Acc Cut (r::L):=by
 intro L hL
 induction hL with
 |intro L hacc ih=>
  refine⟨_,λ K hK=>?_⟩;obtain⟨x,B,C,h1,h2,h3⟩:=hK
  classical
  by_cases hx:x=r
  .subst hx;have hB:L.Perm B:=h1.cons_inv
   have key:∀C:List Tr,(∀c∈C,Tr.Sub c x)->Acc Cut (C++L):=by
    intro C
    induction C with
    |nil=>intro _;exact⟨L,hacc⟩
    |cons c C ihC=>intro hc;exact hr c (hc c (by simp)) _ (ihC λ d hd=>hc d (by simp[hd]))
   exact Q5e (key C h3) ((Perm.append_left C hB).trans h2.symm)
  .have hm:x∈L:=by
    have:x∈r::L:=h1.mem_iff.2 (by simp);simpa[hx]using this
   have hL:=perm_cons_erase hm
   have hB:B.Perm (r::L.erase x):=by
    have:(x::B).Perm (x::r::L.erase x):=h1.symm.trans ((hL.cons r).trans (Perm.swap ..));exact this.cons_inv
   have hc:Cut (C++L.erase x) L:=⟨x,L.erase x,C,hL,Perm.refl _,h3⟩;refine Q5e (ih _ hc) ?_;refine Perm.symm ?_;refine h2.trans ?_;refine(Perm.append_left C hB).trans ?_;exact perm_middle
def Zsa:WellFounded Cut:=by
 refine⟨λ L=>?_⟩
 have key:∀r:Tr,∀L,Acc Cut L->Acc Cut (r::L):=by
  intro r
  induction r using Tr.sub_wf.induction with
  |_ r ih=>exact Q5d ih
 induction L with
 |nil=>exact Zpp
 |cons r L ih=>exact key r L ih
def Qbp:List Tr×Nat->List Tr×Nat->Prop:=Prod.Lex Cut (· < ·)
def Znu:WellFounded Qbp:=(Prod.lex ⟨Cut,Zsa⟩ ⟨(· < ·),Nat.lt_wfRel.wf⟩).wf
def Qbp.cut{L L':List Tr}{a b:Nat}(h:Cut L' L):Qbp (L',a) (L,b):=Prod.Lex.left _ _ h
def Qbp.num{L:List Tr}{a b:Nat}(h:a<b):Qbp (L,a) (L,b):=Prod.Lex.right _ h
end Go.TM
namespace Go.TM
open Go.Conc
inductive Hd where
 |run (i:Nat)
 |dep (i:Nat)
 |lck
 deriving DecidableEq
def Kn(t:Trace)(rel:Nat->Option Nat):Hd->Nat->Prop
 |.run g,i=>Knows t g i
 |.dep g,i=>∃r,rel g=some r/\Before t i r
 |.lck,_=>True
def Loc.newN(n:Nat):Loc->Prop
 |.cell a=>n<=a.block
 |.obj b=>n<=b
 |_=>False
def Qbr(b:Option Nat):Loc->Prop
 |.cell a=>b=some a.block/\a.off<2
 |_=>False
def MK(act:Nat->Prop)(rm:Option Nat)(t:Trace)(i:Nat):Prop:=
 match rm with
 |none=>∀g,act g->Knows t g i
 |some r=>Before t i r
structure TI(W R:Hd->Loc->Prop)(rel:Nat->Option Nat)(blk mb rm:Option Nat)(act wk:Nat->Prop)(size:Nat)(t:Trace):Prop where
 clean:∀said,¬Race said t
 known:∀h i a,touchAt t i=some a->(W h a.loc\/(R h a.loc/\a.write=true))->Kn t rel h i
 low:∀op∈t,op.act.low size
 norel:∀i a,t.act? i≠some (.mark (.release a))
 grpP:∀i a,touchAt t i=some a->Qbr blk a.loc->a.kind=.plain->∀g,act g->Knows t g i
 grpS:∀i a,touchAt t i=some a->Qbr blk a.loc->a.kind=.said->Knows t 0 i
 relok:∀g r,rel g=some r->∃b,blk=some b/\t.act? r=some (.mark (.releaseMerge ⟨b,0,none⟩))/\t.heard r/\t.g? r=some g
 hand:∀i g,t.g? i=some g->g≠0->t.counts i->wk g\/(∃r,rel g=some r/\Before t i r)\/Knows t 0 i
 grpM:∀i a,touchAt t i=some a->Qbr mb a.loc->a.kind≠.atomic->∀g,act g->Knows t g i
 mutK:∀i a,touchAt t i=some a->(W .lck a.loc\/(R .lck a.loc/\a.write=true))->MK act rm t i
 mutR:∀r,rm=some r->∃m g,mb=some m/\t.act? r=some (.mark (.releaseMerge ⟨m,0,none⟩))/\t.heard r/\t.g? r=some g/\(wk g\/∃r',rel g=some r'/\Before t r r')
def MK.app{act:Nat->Prop}{rm:Option Nat}{t:Trace}{i:Nat}(u:Trace)(k:MK act rm t i):MK act rm (t++u) i:=by
 cases rm with
 |none=>exact λ g hg=>(k g hg).app u
 |some r=>exact Before.app u k
def MK.turn{act act':Nat->Prop}{rm:Option Nat}{t:Trace}{i:Nat}(h:∀g,act' g->act g)(k:MK act rm t i):MK act' rm t i:=by
 cases rm with
 |none=>exact λ g hg=>k g (h g hg)
 |some r=>exact k
def Kn.app{t:Trace}{rel:Nat->Option Nat}{h:Hd}{i:Nat}(u:Trace)(k:Kn t rel h i):Kn (t++u) rel h i:=by
 cases h with
 |run g=>exact Knows.app u k
 |dep g=>obtain⟨r,h1,h2⟩:=k;exact⟨r,h1,h2.app u⟩
 |lck=>trivial
def Qzf{n:Nat}{x:MemAct}{a:Touch}(h:x.low n)(ha:x.touch?=some a):¬Loc.newN n a.loc:=by
 cases x with
 |access e=>
  simp only[MemAct.touch?,Option.some.injEq]at ha;subst ha;obtain⟨loc,wr,sy⟩:=e;cases loc <;> simp_all[MemAct.low,Loc.low,Loc.newN]
 |mark m=>cases m <;> simp_all[MemAct.touch?,MemAct.low,Loc.newN] <;> (subst ha;simpa[Loc.newN]using h)
 |_=>simp[MemAct.touch?]at ha
section
variable{W R W' R':Hd->Loc->Prop}{rel:Nat->Option Nat}{blk mb rm:Option Nat}{act wk:Nat->Prop}{size size' g:Nat}{t u:Trace}
def Qax{i:Nat}{x:MemAct}(h:(t++u).act? i=some x):(i<t.size/\t.act? i=some x)\/(t.size<=i/\∃op∈u,op.act=x):=by
 obtain⟨op,ho,hoa⟩:=Option.map_eq_some_iff.1 h;rcases getElem?_append_cases ho with⟨hi,ho'⟩|⟨hi,hou⟩
 .exact .inl ⟨hi,by rw[act?_of ho',hoa]⟩
 .exact .inr ⟨hi,op,hou,hoa⟩
def Jl{i:Nat}{a:Touch}(h:touchAt (t++u) i=some a):(i<t.size/\touchAt t i=some a)\/(t.size<=i/\∃op∈u,op.act.touch?=some a/\(t++u)[i]?=some op):=by
 obtain⟨x,hx,hxa⟩:=touch_of h;rcases getElem?_append_cases hx with⟨hi,hx'⟩|⟨hi,hxu⟩
 .exact .inl ⟨hi,by rw[touchAt_of hx',hxa]⟩
 .exact .inr ⟨hi,x,hxu,hxa,hx⟩
def TI.step(h:TI W R rel blk mb rm act wk size t)(hsz:size<=size')(hu:∀op∈u,op.g=g)(hlow:∀op∈u,op.act.low size')(hnr:∀op∈u,∀a,op.act≠.mark (.release a))
  (hcf:∀i a,touchAt t i=some a->∀op∈u,∀b,op.act.touch?=some b->∀said,a.conflicts said b->Knows t g i)
  (hW:∀k l,W' k l->W k l\/(k=.run g/\Loc.newN size l)) (hR:∀k l,R' k l->R k l\/(k=.run g/\Loc.newN size l))
  (hoth:∀op∈u,∀a,op.act.touch?=some a->∀k,k≠.run g->¬W k a.loc/\(a.write=true->¬R k a.loc))
  (hgp:∀op∈u,∀a,op.act.touch?=some a->Qbr blk a.loc->a.kind≠.plain/\(a.kind=.said->g=0)) (hgm:∀op∈u,∀a,op.act.touch?=some a->Qbr mb a.loc->a.kind=.atomic)
  (hhand:g=0\/wk g\/∀i,t.size<=i->¬(t++u).counts i) :
  TI W' R' rel blk mb rm act wk size' (t++u):=by
 refine⟨λ said=>noRace_append (h.clean said) hu λ i a ha op hop b hb hc=>hcf i a ha op hop b hb said hc,?_,?_,?_,?_,?_,?_,?_,?_,?_,?_⟩
 .intro k i a ha hp;rcases Jl ha with⟨hi,ha'⟩|⟨hi,op,hop,hoa,ho⟩
  .refine(h.known k i a ha' ?_).app u
   have hl:¬Loc.newN size a.loc:=by
    obtain⟨x,hx,hxa⟩:=touch_of ha';exact Qzf (h.low x (Array.mem_of_getElem? hx)) hxa
   rcases hp with hp|⟨hp,hw⟩
   .rcases hW _ _ hp with hp|hp
    .exact .inl hp
    .exact absurd hp.2 hl
   .rcases hR _ _ hp with hp|hp
    .exact .inr ⟨hp,hw⟩
    .exact absurd hp.2 hl
  .by_cases hk:k=.run g
   .subst hk;have:=knows_own ho;rw[hu op hop]at this;exact this
   .have:=hoth op hop a hoa k hk;rcases hp with hp|⟨hp,hw⟩
    .rcases hW _ _ hp with hp|hp
     .exact absurd hp this.1
     .exact absurd hp.1 hk
    .rcases hR _ _ hp with hp|hp
     .exact absurd hp (this.2 hw)
     .exact absurd hp.1 hk
 .intro op hop;rcases Array.mem_append.1 hop with hop|hop
  .exact MemAct.low_mono hsz (h.low op hop)
  .exact hlow op hop
 .intro i a e;rcases Qax e with⟨_,e⟩|⟨_,op,hop,hoa⟩
  .exact h.norel i a e
  .exact hnr op hop a hoa
 .intro i a ha hb hk g' hg';rcases Jl ha with⟨hi,ha'⟩|⟨hi,op,hop,hoa,ho⟩
  .exact(h.grpP i a ha' hb hk g' hg').app u
  .exact absurd hk (hgp op hop a hoa hb).1
 .intro i a ha hb hk;rcases Jl ha with⟨hi,ha'⟩|⟨hi,op,hop,hoa,ho⟩
  .exact(h.grpS i a ha' hb hk).app u
  .have:=knows_own ho;rw[hu op hop,(hgp op hop a hoa hb).2 hk]at this;exact this
 .intro g' r hr;obtain⟨b,h1,h2,h3,h4⟩:=h.relok g' r hr;have hlt:=lt_of_act? h2;exact⟨b,h1,by rw[act?_old hlt];exact h2,(heard_old hlt).2 h3,by rw[g?_old hlt];exact h4⟩
 .intro i g' hg hne hc;by_cases hi:i<t.size
  .rw[g?_old hi]at hg;rcases h.hand i g' hg hne ((counts_old hi).1 hc)with h1|⟨r,h1,h2⟩|h1
   .exact .inl h1
   .exact .inr (.inl ⟨r,h1,h2.app u⟩)
   .exact .inr (.inr (h1.app u))
  .have hi:t.size<=i:=Nat.le_of_not_lt hi
   have hgg:g'=g:=by
    obtain⟨op,ho,hog⟩:=Option.map_eq_some_iff.1 hg;rcases getElem?_append_cases ho with⟨hi',_⟩|⟨_,hou⟩
    .omega
    .rw[<- hog];exact hu op hou
   subst hgg;rcases hhand with h0|h0|h0
   .exact absurd h0 hne
   .exact .inl h0
   .exact absurd hc (h0 i hi)
 .intro i a ha hb hk g' hg';rcases Jl ha with⟨hi,ha'⟩|⟨hi,op,hop,hoa,ho⟩
  .exact(h.grpM i a ha' hb hk g' hg').app u
  .exact absurd (hgm op hop a hoa hb) hk
 .intro i a ha hp;rcases Jl ha with⟨hi,ha'⟩|⟨hi,op,hop,hoa,ho⟩
  .refine(h.mutK i a ha' ?_).app u;rcases hp with hp|⟨hp,hw⟩
   .exact .inl ((hW _ _ hp).resolve_right λ x=>by cases x.1)
   .exact .inr ⟨(hR _ _ hp).resolve_right λ x=>(by cases x.1),hw⟩
  .have:=hoth op hop a hoa .lck (by simp);rcases hp with hp|⟨hp,hw⟩
   .exact absurd ((hW _ _ hp).resolve_right λ x=>by cases x.1) this.1
   .exact absurd ((hR _ _ hp).resolve_right λ x=>by cases x.1) (this.2 hw)
 .intro r hr;obtain⟨m,g',h1,h2,h3,h4,h5⟩:=h.mutR r hr;have hlt:=lt_of_act? h2;exact⟨m,g',h1,by rw[act?_old hlt];exact h2,(heard_old hlt).2 h3,by rw[g?_old hlt];exact h4,h5.imp id λ⟨r',k1,k2⟩=>⟨r',k1,k2.app u⟩⟩
def TI.turn{act':Nat->Prop}(h:TI W R rel blk mb rm act wk size t)(hW:∀k l,W' k l->W k l)(hR:∀k l,R' k l->R k l)(ha:∀g,act' g->act g):TI W' R' rel blk mb rm act' wk size t:=
 ⟨h.clean,λ k i a ha hp=>h.known k i a ha (hp.imp (hW _ _) λ x=>⟨hR _ _ x.1,x.2⟩),h.low,h.norel,λ i a h1 h2 h3 g hg=>h.grpP i a h1 h2 h3 g (ha g hg),h.grpS,h.relok,h.hand,λ i a h1 h2 h3 g hg=>h.grpM i a h1 h2 h3 g (ha g hg),λ i a h1 hp=>(h.mutK i a h1 (hp.imp (hW _ _) λ x=>⟨hR _ _ x.1,x.2⟩)).turn ha,h.mutR⟩
def W9(t:Trace)(y:MemOp):(t++#[y])[t.size]?=some y:=by simp
def Qbw{said:Bool}{y:MemOp}(h:¬Race said t)(hy:y.act.touch?=none):¬Race said (t++#[y]):=
 noRace_append (g:=y.g) h (by simp) λ i a _ op hop b hb=>by simp at hop;subst hop;rw[hy]at hb;cases hb
def Zq{i:Nat}{a:Touch}{y:MemOp}(hy:y.act.touch?=none)(h:touchAt (t++#[y]) i=some a):i<t.size/\touchAt t i=some a:=by
 rcases Jl h with h|⟨_,op,hop,hoa,_⟩
 .exact h
 .simp at hop;subst hop;rw[hy]at hoa;cases hoa
def Qby{y:MemOp}(hd:Deaf t y.g=0):(t++#[y]).heard t.size:=
 ⟨y.g,by simp[Trace.g?],by rw[deaf_old (Nat.le_refl _)];exact hd⟩
def Qag{i:Nat}{y:MemOp}(hy:y.act.touch?=none)(h:(t++#[y]).counts i):i<t.size/\t.counts i:=by
 obtain⟨x,hx,h2⟩:=h;obtain⟨hi,hx'⟩:=Zq hy hx;exact⟨hi,(counts_old hi).1 ⟨x,hx,h2⟩⟩
def TI.release{b:Nat}{y:MemOp}{wk':Nat->Prop}{rel':Nat->Option Nat}(h:TI W R rel blk mb rm act wk size t)(hb:blk=some b)(hy:y.act=.mark (.releaseMerge ⟨b,0,none⟩))(hbs:b<size)
  (hd:Deaf t y.g=0) (hg:rel y.g=none) (hrel:∀k,rel' k=if k=y.g then some t.size else rel k)
  (hW:∀k l,W' k l->W k l/\k≠.dep y.g\/(k=.dep y.g/\W (.run y.g) l)) (hR:∀k l,R' k l->R k l/\k≠.dep y.g\/(k=.dep y.g/\R (.run y.g) l)) (hwk:∀k,wk k->wk' k\/k=y.g) :
  TI W' R' rel' blk mb rm act wk' size (t++#[y]):=by
 have hyt:y.act.touch?=none:=by rw[hy];rfl
 refine⟨λ said=>Qbw (h.clean said) hyt,?_,?_,?_,?_,?_,?_,?_,?_,?_,?_⟩
 .intro k i a ha hp;obtain⟨hi,ha'⟩:=Zq hyt ha
  have key:k≠.dep y.g->(W k a.loc\/(R k a.loc/\a.write=true))->Kn (t++#[y]) rel' k i:=by
   intro hk hp;have:=(h.known k i a ha' hp).app #[y];cases k with
   |run g'=>exact this
   |dep g'=>
    obtain⟨r,h1,h2⟩:=this;refine⟨r,?_,h2⟩;rw[hrel,if_neg]
    .exact h1
    .intro e;subst e;exact hk rfl
   |lck=>trivial
  have key2:k=.dep y.g->(W (.run y.g) a.loc\/(R (.run y.g) a.loc/\a.write=true))->Kn (t++#[y]) rel' k i:=by
   intro hk hq;subst hk;refine⟨t.size,by rw[hrel,if_pos rfl],.inr ?_⟩;exact Knows.hb_new (h.known (.run y.g) i a ha' hq) (Nat.le_refl _) (W9 t y) rfl
  rcases hp with hp|⟨hp,hw⟩
  .rcases hW _ _ hp with⟨hp,hk⟩|⟨hk,hp⟩
   .exact key hk (.inl hp)
   .exact key2 hk (.inl hp)
  .rcases hR _ _ hp with⟨hp,hk⟩|⟨hk,hp⟩
   .exact key hk (.inr ⟨hp,hw⟩)
   .exact key2 hk (.inr ⟨hp,hw⟩)
 .intro op hop;rcases Array.mem_append.1 hop with hop|hop
  .exact h.low op hop
  .simp at hop;subst hop;rw[hy];exact hbs
 .intro i a e;rcases Qax e with⟨_,e⟩|⟨_,op,hop,hoa⟩
  .exact h.norel i a e
  .simp at hop;subst hop;rw[hy]at hoa;cases hoa
 .intro i a ha hbl hk g' hg';obtain⟨hi,ha'⟩:=Zq hyt ha;exact(h.grpP i a ha' hbl hk g' hg').app _
 .intro i a ha hbl hk;obtain⟨hi,ha'⟩:=Zq hyt ha;exact(h.grpS i a ha' hbl hk).app _
 .intro g' r hr;rw[hrel]at hr;split at hr
  .rename_i e;subst e;cases hr;exact⟨b,hb,by rw[act?_of (W9 t y),hy],Qby hd,by simp[Trace.g?]⟩
  .obtain⟨b,h1,h2,h3,h4⟩:=h.relok g' r hr;have hlt:=lt_of_act? h2;exact⟨b,h1,by rw[act?_old hlt];exact h2,(heard_old hlt).2 h3,by rw[g?_old hlt];exact h4⟩
 .intro i g' hg' hne hc;obtain⟨hi,hc'⟩:=Qag hyt hc;rw[g?_old hi]at hg';by_cases hgg:g'=y.g
  .obtain⟨op,ho,hog⟩:=Option.map_eq_some_iff.1 hg';refine .inr (.inl ⟨t.size,by rw[hrel,if_pos hgg],.inr ?_⟩);have ho':(t++#[y])[i]?=some op:=by rw[getElem?_append_old hi];exact ho
   exact hb_po hi ho' (W9 t y) (hog.trans hgg)
  .rcases h.hand i g' hg' hne hc' with h1|⟨r,h1,h2⟩|h1
   .exact(hwk g' h1).elim .inl λ e=>absurd e hgg
   .exact .inr (.inl ⟨r,by rw[hrel,if_neg hgg];exact h1,h2.app _⟩)
   .exact .inr (.inr (h1.app _))
 .intro i a ha hbl hk g' hg';obtain⟨hi,ha'⟩:=Zq hyt ha;exact(h.grpM i a ha' hbl hk g' hg').app _
 .intro i a ha hp;obtain⟨hi,ha'⟩:=Zq hyt ha;refine(h.mutK i a ha' ?_).app _;rcases hp with hp|⟨hp,hw⟩
  .exact .inl ((hW _ _ hp).resolve_right λ x=>by cases x.1).1
  .exact .inr ⟨((hR _ _ hp).resolve_right λ x=>by cases x.1).1,hw⟩
 .intro r hr;obtain⟨m,g',h1,h2,h3,h4,h5⟩:=h.mutR r hr;have hlt:=lt_of_act? h2;refine⟨m,g',h1,by rw[act?_old hlt];exact h2,(heard_old hlt).2 h3,by rw[g?_old hlt];exact h4,?_⟩;by_cases hgg:g'=y.g
  .obtain⟨op,ho,hog⟩:=Option.map_eq_some_iff.1 h4;refine .inr ⟨t.size,by rw[hrel,if_pos hgg],.inr ?_⟩;have ho':(t++#[y])[r]?=some op:=by rw[getElem?_append_old hlt];exact ho
   exact hb_po hlt ho' (W9 t y) (hog.trans hgg)
  .rcases h5 with h5|⟨r',k1,k2⟩
   .exact .inl ((hwk g' h5).resolve_right hgg)
   .exact .inr ⟨r',by rw[hrel,if_neg hgg];exact k1,k2.app _⟩
def TI.acquire{b:Nat}{y:MemOp}{act' wk':Nat->Prop}(h:TI W R rel blk mb rm act wk size t)(hb:blk=some b)(hy:y.act=.mark (.acquire ⟨b,0,none⟩))(hg:y.g=0)(hbs:b<size)
  (hd:Deaf t 0=0) (hwk:∀g,¬wk g) (ha0:act 0)
  (hW:∀k l,W' k l->k=.run 0/\(W (.run 0) l\/(∃g r,rel g=some r/\W (.dep g) l)\/W .lck l)) (hR:∀k l,R' k l->k=.run 0/\(R (.run 0) l\/(∃g r,rel g=some r/\R (.dep g) l)\/R .lck l)) :
  TI W' R' (λ _=>none) none none none act' wk' size (t++#[y]):=by
 have hyt:y.act.touch?=none:=by rw[hy];rfl
 have hlast:=W9 t y
 have hrk:∀g r,rel g=some r->Knows (t++#[y]) 0 r:=by
  intro g r hr;obtain⟨b',h1,h2,h3,h4⟩:=h.relok g r hr;rw[hb]at h1;cases h1;have hlt:=lt_of_act? h2;refine⟨t.size,y,hlast,hg,.inr (.single (.inr ⟨.marked (a:=⟨b,0,none⟩) hlt (.inr (by rw[act?_old hlt];exact h2)) (by rw[act?_of hlast,hy]) (λ k _ hk=>by rw[act?_old hk];exact h.norel k _),(heard_old hlt).2 h3,Qby (by rw[hg];exact hd)⟩))⟩
 have hmk:∀i,MK act rm t i->Knows (t++#[y]) 0 i:=by
  intro i hi;cases hrm:rm with
  |none=>rw[hrm]at hi;exact(hi 0 ha0).app _
  |some r=>
   rw[hrm]at hi;obtain⟨m,g',h1,h2,h3,h4,h5⟩:=h.mutR r hrm;obtain⟨r',k1,k2⟩:=h5.resolve_left (hwk g');exact Knows.of_before (Before.app _ hi) (Knows.of_before (k2.app _) (hrk g' r' k1))
 refine⟨λ said=>Qbw (h.clean said) hyt,?_,?_,?_,?_,?_,?_,?_,?_,?_,λ r hr=>(by cases hr)⟩
 .intro k i a ha hp;obtain⟨hi,ha'⟩:=Zq hyt ha;rcases hp with hp|⟨hp,hw⟩
  .obtain⟨rfl,hp|⟨g,r,hr,hp⟩|hp⟩:=hW _ _ hp
   .exact(h.known (.run 0) i a ha' (.inl hp)).app #[y]
   .obtain⟨r',h1,h2⟩:=h.known (.dep g) i a ha' (.inl hp);exact Knows.of_before (h2.app _) (hrk g r' h1)
   .exact hmk i (h.mutK i a ha' (.inl hp))
  .obtain⟨rfl,hp|⟨g,r,hr,hp⟩|hp⟩:=hR _ _ hp
   .exact(h.known (.run 0) i a ha' (.inr ⟨hp,hw⟩)).app #[y]
   .obtain⟨r',h1,h2⟩:=h.known (.dep g) i a ha' (.inr ⟨hp,hw⟩);exact Knows.of_before (h2.app _) (hrk g r' h1)
   .exact hmk i (h.mutK i a ha' (.inr ⟨hp,hw⟩))
 .intro op hop;rcases Array.mem_append.1 hop with hop|hop
  .exact h.low op hop
  .simp at hop;subst hop;rw[hy];exact hbs
 .intro i a e;rcases Qax e with⟨_,e⟩|⟨_,op,hop,hoa⟩
  .exact h.norel i a e
  .simp at hop;subst hop;rw[hy]at hoa;cases hoa
 .intro i a ha hbl;unfold Qbr at hbl;split at hbl
  .cases hbl.1
  .exact hbl.elim
 .intro i a ha hbl;unfold Qbr at hbl;split at hbl
  .cases hbl.1
  .exact hbl.elim
 .intro g' r hr;cases hr
 .intro i g' hg' hne hc;obtain⟨hi,hc'⟩:=Qag hyt hc;rw[g?_old hi]at hg';rcases h.hand i g' hg' hne hc' with h1|⟨r,h1,h2⟩|h1
  .exact absurd h1 (hwk g')
  .exact .inr (.inr (Knows.of_before (h2.app _) (hrk g' r h1)))
  .exact .inr (.inr (h1.app _))
 .intro i a ha hbl;unfold Qbr at hbl;split at hbl
  .cases hbl.1
  .exact hbl.elim
 .intro i a ha hp;rcases hp with hp|⟨hp,hw⟩
  .cases(hW _ _ hp).1
  .cases(hR _ _ hp).1
def TI.fork{c:Nat}{y z:MemOp}{act' wk':Nat->Prop}(h:TI W R rel blk mb rm act wk size t)(hy:y.act=.go c)(hyg:y.g=0)(hz:z.act=.start)(hzg:z.g=c)(hd0:Deaf t 0=0)(hdc:Deaf t c=0)(hc0:c≠0)
  (hact:∀g,act' g->act g\/(g=c/\act 0)) (hwk:∀g,wk g->wk' g)
  (hW:∀k l,W' k l->W k l\/(k=.run c/\W (.run 0) l)) (hR:∀k l,R' k l->R k l\/(k=.run c/\R (.run 0) l)) :
  TI W' R' rel blk mb rm act' wk' size (t++#[y,z]):=by
 have e:t++#[y,z]=(t++#[y])++#[z]:=by apply Array.ext';simp
 have hyt:y.act.touch?=none:=by rw[hy];rfl
 have hzt:z.act.touch?=none:=by rw[hz];rfl
 have hsz:(t++#[y]).size=t.size+1:=by simp
 have hyl:(t++#[y]++#[z])[t.size]?=some y:=by rw[getElem?_append_old (by omega)];exact W9 t y
 have hzl:(t++#[y]++#[z])[t.size+1]?=some z:=by have:=W9 (t++#[y]) z;rwa [hsz]at this
 have touch:∀{i:Nat}{a:Touch},touchAt (t++#[y]++#[z]) i=some a->i<t.size/\touchAt t i=some a:=by
  intro i a ha;exact Zq hyt (Zq hzt ha).2
 have hsp:HappensBefore (t++#[y]++#[z]) t.size (t.size+1):=by
  refine .single (.inr ⟨.spawn (child:=c) (by rw[act?_of hyl,hy]) (by rw[act?_of hzl,hz]) (by simp only[Trace.g?,hzl,Option.map_some,hzg]),?_,?_⟩)
  .rw[heard_old (by omega)];exact Qby (by rw[hyg];exact hd0)
  .have:=Qby (t:=t++#[y]) (y:=z) (by rw[hzg,Deaf_other t (g':=0) (by omega) _ (by simp[hyg])];exact hdc)
   rwa [hsz]at this
 have hkn:∀i,Knows t 0 i->Knows (t++#[y]++#[z]) c i:=by
  intro i hi;have h1:HappensBefore (t++#[y]) i t.size:=hi.hb_new (Nat.le_refl _) (W9 t y) hyg;exact⟨t.size+1,z,hzl,hzg,.inr ((hb_app _ h1).trans hsp)⟩
 have app:∀{g i:Nat},Knows t g i->Knows (t++#[y]++#[z]) g i:=λ h=>(h.app _).app _;rw[e];refine⟨λ said=>Qbw (Qbw (h.clean said) hyt) hzt,?_,?_,?_,?_,?_,?_,?_,?_,?_,?_⟩
 .intro k i a ha hp;obtain⟨hi,ha'⟩:=touch ha;rcases hp with hp|⟨hp,hw⟩
  .rcases hW _ _ hp with hq|⟨rfl,hq⟩
   .exact((h.known k i a ha' (.inl hq)).app _).app _
   .exact hkn i (h.known (.run 0) i a ha' (.inl hq))
  .rcases hR _ _ hp with hq|⟨rfl,hq⟩
   .exact((h.known k i a ha' (.inr ⟨hq,hw⟩)).app _).app _
   .exact hkn i (h.known (.run 0) i a ha' (.inr ⟨hq,hw⟩))
 .intro op hop;rcases Array.mem_append.1 hop with hop|hop
  .rcases Array.mem_append.1 hop with hop|hop
   .exact h.low op hop
   .simp at hop;subst hop;rw[hy];trivial
  .simp at hop;subst hop;rw[hz];trivial
 .intro i a e;rcases Qax e with⟨_,e⟩|⟨_,op,hop,hoa⟩
  .rcases Qax e with⟨_,e⟩|⟨_,op,hop,hoa⟩
   .exact h.norel i a e
   .simp at hop;subst hop;rw[hy]at hoa;cases hoa
  .simp at hop;subst hop;rw[hz]at hoa;cases hoa
 .intro i a ha hbl hk g' hg';obtain⟨hi,ha'⟩:=touch ha;rcases hact g' hg' with hg'|⟨rfl,hg'⟩
  .exact app (h.grpP i a ha' hbl hk g' hg')
  .exact hkn i (h.grpP i a ha' hbl hk 0 hg')
 .intro i a ha hbl hk;obtain⟨hi,ha'⟩:=touch ha;exact app (h.grpS i a ha' hbl hk)
 .intro g' r hr;obtain⟨b,h1,h2,h3,h4⟩:=h.relok g' r hr;have hlt:=lt_of_act? h2;have hlt':r<(t++#[y]).size:=by omega
  exact⟨b,h1,by rw[act?_old hlt',act?_old hlt];exact h2,(heard_old hlt').2 ((heard_old hlt).2 h3),by rw[g?_old hlt',g?_old hlt];exact h4⟩
 .intro i g' hg' hne hc;obtain⟨hi1,hc'⟩:=Qag hzt hc;obtain⟨hi,hc''⟩:=Qag hyt hc';rw[g?_old hi1,g?_old hi]at hg';rcases h.hand i g' hg' hne hc'' with h1|⟨r,h1,h2⟩|h1
  .exact .inl (hwk _ h1)
  .exact .inr (.inl ⟨r,h1,(h2.app _).app _⟩)
  .exact .inr (.inr (app h1))
 .intro i a ha hbl hk g' hg';obtain⟨hi,ha'⟩:=touch ha;rcases hact g' hg' with hg'|⟨rfl,hg'⟩
  .exact app (h.grpM i a ha' hbl hk g' hg')
  .exact hkn i (h.grpM i a ha' hbl hk 0 hg')
 .intro i a ha hp;obtain⟨hi,ha'⟩:=touch ha
  have hk:=h.mutK i a ha' (by
   rcases hp with hp|⟨hp,hw⟩
   .exact .inl ((hW _ _ hp).resolve_right λ x=>by cases x.1)
   .exact .inr ⟨(hR _ _ hp).resolve_right λ x=>(by cases x.1),hw⟩)
  cases hrm:rm with
  |none=>
   rw[hrm]at hk;intro g' hg';rcases hact g' hg' with hg'|⟨rfl,hg'⟩
   .exact app (hk g' hg')
   .exact hkn i (hk 0 hg')
  |some r=>rw[hrm]at hk;exact Before.app _ (Before.app _ hk)
 .intro r hr;obtain⟨m,g',h1,h2,h3,h4,h5⟩:=h.mutR r hr;have hlt:=lt_of_act? h2;have hlt':r<(t++#[y]).size:=by omega
  exact⟨m,g',h1,by rw[act?_old hlt',act?_old hlt];exact h2,(heard_old hlt').2 ((heard_old hlt).2 h3),by rw[g?_old hlt',g?_old hlt];exact h4,h5.imp (hwk _) λ⟨r',k1,k2⟩=>⟨r',k1,(k2.app _).app _⟩⟩
def TI.create{b:Nat}(h:TI W R rel none mb rm act wk size t)(hmW:∀l,¬W' .lck l)(hmR:∀l,¬R' .lck l)(hrel:∀g,rel g=none)(hb:∀a:Addr,a.block=b->a.off<2->W (.run 0) (.cell a))(hW:∀k l,W' k l->W k l)(hR:∀k l,R' k l->R k l) :
  TI W' R' rel (some b) none none (·=0) wk size t:=by
 refine⟨h.clean,λ k i a ha hp=>h.known k i a ha (hp.imp (hW _ _) λ x=>⟨hR _ _ x.1,x.2⟩),h.low,h.norel,?_,?_,λ g r hr=>(by rw[hrel]at hr;cases hr),h.hand,?_,?_,λ r hr=>(by cases hr)⟩
 .intro i a ha hbl _ g hg;obtain⟨loc,wr,kd⟩:=a;cases loc <;> simp only[Qbr]at hbl;obtain⟨h1,h2⟩:=hbl;cases h1;rw[hg];exact h.known (.run 0) i _ ha (.inl (hb _ rfl h2))
 .intro i a ha hbl _;obtain⟨loc,wr,kd⟩:=a;cases loc <;> simp only[Qbr]at hbl;obtain⟨h1,h2⟩:=hbl;cases h1;exact h.known (.run 0) i _ ha (.inl (hb _ rfl h2))
 .intro i a ha hbl;unfold Qbr at hbl;split at hbl
  .cases hbl.1
  .exact hbl.elim
 .intro i a ha hp;rcases hp with hp|⟨hp,hw⟩
  .exact absurd hp (hmW _)
  .exact absurd hp (hmR _)
def TI.createM{m:Nat}{act':Nat->Prop}(h:TI W R rel blk none rm act wk size t)(h0:∀g,act' g->g=0/\act 0)(hb:∀a:Addr,a.block=m->a.off<2->W (.run 0) (.cell a))
  (hW:∀k l,W' k l->W k l\/(k=.lck/\W (.run 0) l)) (hR:∀k l,R' k l->R k l\/(k=.lck/\R (.run 0) l)) (hmW:∀l,¬W .lck l) (hmR:∀l,¬R .lck l) :
  TI W' R' rel blk (some m) none act' wk size t:=by
 have key:∀k i a,touchAt t i=some a->(W' k a.loc\/(R' k a.loc/\a.write=true))->(W k a.loc\/(R k a.loc/\a.write=true))\/(k=.lck/\(W (.run 0) a.loc\/(R (.run 0) a.loc/\a.write=true))):=by
  intro k i a _ hp;rcases hp with hp|⟨hp,hw⟩
  .rcases hW _ _ hp with hp|⟨e,hp⟩
   .exact .inl (.inl hp)
   .exact .inr ⟨e,.inl hp⟩
  .rcases hR _ _ hp with hp|⟨e,hp⟩
   .exact .inl (.inr ⟨hp,hw⟩)
   .exact .inr ⟨e,.inr ⟨hp,hw⟩⟩
 refine⟨h.clean,λ k i a ha hp=>?_,h.low,h.norel,λ i a h1 h2 h3 g hg=>?_,h.grpS,h.relok,h.hand,?_,?_,λ r hr=>(by cases hr)⟩
 .rcases key k i a ha hp with hp|⟨rfl,_⟩
  .exact h.known k i a ha hp
  .trivial
 .obtain⟨rfl,h0⟩:=h0 g hg;exact h.grpP i a h1 h2 h3 0 h0
 .intro i a ha hbl hk g hg;obtain⟨loc,wr,kd⟩:=a;cases loc <;> simp only[Qbr]at hbl;obtain⟨h1,h2⟩:=hbl;cases h1;rw[(h0 g hg).1];exact h.known (.run 0) i _ ha (.inl (hb _ rfl h2))
 .intro i a ha hp g hg;rw[(h0 g hg).1];rcases key .lck i a ha hp with hp|⟨_,hp⟩
  .rcases hp with hp|⟨hp,_⟩
   .exact absurd hp (hmW _)
   .exact absurd hp (hmR _)
  .exact h.known (.run 0) i a ha hp
def TI.mrel{m:Nat}{y:MemOp}(h:TI W R rel blk mb rm act wk size t)(hm:mb=some m)(hy:y.act=.mark (.releaseMerge ⟨m,0,none⟩))(hms:m<size)(hd:Deaf t y.g=0)(hwg:wk y.g)
  (hW:∀k l,W' k l->(W k l/\k≠.lck)\/(k=.lck/\W (.run y.g) l)) (hR:∀k l,R' k l->(R k l/\k≠.lck)\/(k=.lck/\R (.run y.g) l)) :
  TI W' R' rel blk mb (some t.size) act wk size (t++#[y]):=by
 have hyt:y.act.touch?=none:=by rw[hy];rfl
 refine⟨λ said=>Qbw (h.clean said) hyt,?_,?_,?_,?_,?_,?_,?_,?_,?_,?_⟩
 .intro k i a ha hp;obtain⟨hi,ha'⟩:=Zq hyt ha;by_cases hk:k=.lck
  .subst hk;trivial
  .refine(h.known k i a ha' ?_).app _;rcases hp with hp|⟨hp,hw⟩
   .exact .inl ((hW _ _ hp).resolve_right λ x=>hk x.1).1
   .exact .inr ⟨((hR _ _ hp).resolve_right λ x=>hk x.1).1,hw⟩
 .intro op hop;rcases Array.mem_append.1 hop with hop|hop
  .exact h.low op hop
  .simp at hop;subst hop;rw[hy];exact hms
 .intro i a e;rcases Qax e with⟨_,e⟩|⟨_,op,hop,hoa⟩
  .exact h.norel i a e
  .simp at hop;subst hop;rw[hy]at hoa;cases hoa
 .intro i a ha hbl hk g' hg';obtain⟨hi,ha'⟩:=Zq hyt ha;exact(h.grpP i a ha' hbl hk g' hg').app _
 .intro i a ha hbl hk;obtain⟨hi,ha'⟩:=Zq hyt ha;exact(h.grpS i a ha' hbl hk).app _
 .intro g' r hr;obtain⟨b,h1,h2,h3,h4⟩:=h.relok g' r hr;have hlt:=lt_of_act? h2;exact⟨b,h1,by rw[act?_old hlt];exact h2,(heard_old hlt).2 h3,by rw[g?_old hlt];exact h4⟩
 .intro i g' hg' hne hc;obtain⟨hi,hc'⟩:=Qag hyt hc;rw[g?_old hi]at hg';rcases h.hand i g' hg' hne hc' with h1|⟨r,h1,h2⟩|h1
  .exact .inl h1
  .exact .inr (.inl ⟨r,h1,h2.app _⟩)
  .exact .inr (.inr (h1.app _))
 .intro i a ha hbl hk g' hg';obtain⟨hi,ha'⟩:=Zq hyt ha;exact(h.grpM i a ha' hbl hk g' hg').app _
 .intro i a ha hp;obtain⟨hi,ha'⟩:=Zq hyt ha
  have hk:Knows t y.g i:=h.known (.run y.g) i a ha' (by
   rcases hp with hp|⟨hp,hw⟩
   .exact .inl ((hW _ _ hp).resolve_left λ x=>x.2 rfl).2
   .exact .inr ⟨((hR _ _ hp).resolve_left λ x=>x.2 rfl).2,hw⟩)
  exact .inr (hk.hb_new (Nat.le_refl _) (W9 t y) rfl)
 .intro r hr;cases hr;exact⟨m,y.g,hm,by rw[act?_of (W9 t y),hy],Qby hd,by simp[Trace.g?],.inl hwg⟩
def TI.macq{m:Nat}{y:MemOp}(h:TI W R rel blk mb rm act wk size t)(hm:mb=some m)(hy:y.act=.mark (.acquire ⟨m,0,none⟩))(hms:m<size)(hd:Deaf t y.g=0)(hac:act y.g)
  (hW:∀k l,W' k l->k≠.lck/\(W k l\/(k=.run y.g/\W .lck l))) (hR:∀k l,R' k l->k≠.lck/\(R k l\/(k=.run y.g/\R .lck l))) :
  TI W' R' rel blk mb rm act wk size (t++#[y]):=by
 have hyt:y.act.touch?=none:=by rw[hy];rfl
 have hlast:=W9 t y
 have hmk:∀i,MK act rm t i->Knows (t++#[y]) y.g i:=by
  intro i hi;cases hrm:rm with
  |none=>rw[hrm]at hi;exact(hi _ hac).app _
  |some r=>
   rw[hrm]at hi;obtain⟨m',g',h1,h2,h3,h4,h5⟩:=h.mutR r hrm;rw[hm]at h1;cases h1;have hlt:=lt_of_act? h2;have hr:Knows (t++#[y]) y.g r:=⟨t.size,y,hlast,rfl,.inr (.single (.inr ⟨.marked (a:=⟨m,0,none⟩) hlt (.inr (by rw[act?_old hlt];exact h2)) (by rw[act?_of hlast,hy]) (λ k _ hk=>by rw[act?_old hk];exact h.norel k _),(heard_old hlt).2 h3,Qby hd⟩))⟩;exact Knows.of_before (Before.app _ hi) hr
 refine⟨λ said=>Qbw (h.clean said) hyt,?_,?_,?_,?_,?_,?_,?_,?_,?_,?_⟩
 .intro k i a ha hp;obtain⟨hi,ha'⟩:=Zq hyt ha;rcases hp with hp|⟨hp,hw⟩
  .rcases(hW _ _ hp).2 with hq|⟨rfl,hq⟩
   .exact(h.known k i a ha' (.inl hq)).app _
   .exact hmk i (h.mutK i a ha' (.inl hq))
  .rcases(hR _ _ hp).2 with hq|⟨rfl,hq⟩
   .exact(h.known k i a ha' (.inr ⟨hq,hw⟩)).app _
   .exact hmk i (h.mutK i a ha' (.inr ⟨hq,hw⟩))
 .intro op hop;rcases Array.mem_append.1 hop with hop|hop
  .exact h.low op hop
  .simp at hop;subst hop;rw[hy];exact hms
 .intro i a e;rcases Qax e with⟨_,e⟩|⟨_,op,hop,hoa⟩
  .exact h.norel i a e
  .simp at hop;subst hop;rw[hy]at hoa;cases hoa
 .intro i a ha hbl hk g' hg';obtain⟨hi,ha'⟩:=Zq hyt ha;exact(h.grpP i a ha' hbl hk g' hg').app _
 .intro i a ha hbl hk;obtain⟨hi,ha'⟩:=Zq hyt ha;exact(h.grpS i a ha' hbl hk).app _
 .intro g' r hr;obtain⟨b,h1,h2,h3,h4⟩:=h.relok g' r hr;have hlt:=lt_of_act? h2;exact⟨b,h1,by rw[act?_old hlt];exact h2,(heard_old hlt).2 h3,by rw[g?_old hlt];exact h4⟩
 .intro i g' hg' hne hc;obtain⟨hi,hc'⟩:=Qag hyt hc;rw[g?_old hi]at hg';rcases h.hand i g' hg' hne hc' with h1|⟨r,h1,h2⟩|h1
  .exact .inl h1
  .exact .inr (.inl ⟨r,h1,h2.app _⟩)
  .exact .inr (.inr (h1.app _))
 .intro i a ha hbl hk g' hg';obtain⟨hi,ha'⟩:=Zq hyt ha;exact(h.grpM i a ha' hbl hk g' hg').app _
 .intro i a ha hp;rcases hp with hp|⟨hp,hw⟩
  .exact absurd rfl (hW _ _ hp).1
  .exact absurd rfl (hR _ _ hp).1
 .intro r hr;obtain⟨m',g',h1,h2,h3,h4,h5⟩:=h.mutR r hr;have hlt:=lt_of_act? h2;exact⟨m',g',h1,by rw[act?_old hlt];exact h2,(heard_old hlt).2 h3,by rw[g?_old hlt];exact h4,h5.imp id λ⟨r',k1,k2⟩=>⟨r',k1,k2.app _⟩⟩
end
end Go.TM
namespace Go.TM
inductive QE(α:Type) where
 |ok (a:α) (st sm:Value) (es:Array Event) (bs:List (Nat×Bool))
 |blocked (st sm:Value) (bs:List (Nat×Bool))
 |stuck
def Qh9(a:Addr):Bool:=a.spot.isNone&&Nat.beq a.off 0
def Qh8(a:Addr):Bool:=a.spot.isNone&&Nat.beq a.off 1
def Q07{a:Addr}(h:Qh9 a=true):a=⟨a.block,0,none⟩:=by
 obtain⟨b,o,s⟩:=a;simp only[Qh9,Bool.and_eq_true,Option.isNone_iff_eq_none]at h;obtain⟨h1,h2⟩:=h;have:=Nat.eq_of_beq_eq_true h2
 simp_all
def Q06{a:Addr}(h:Qh8 a=true):a=⟨a.block,1,none⟩:=by
 obtain⟨b,o,s⟩:=a;simp only[Qh8,Bool.and_eq_true,Option.isNone_iff_eq_none]at h;obtain⟨h1,h2⟩:=h;have:=Nat.eq_of_beq_eq_true h2
 simp_all
def Qoz:Value->Bool
 |.int ..=>true
 |_=>false
def evT(P:Program)(t:TypeId){α:Type}:Sem α->Value->Value->Array Event->List (Nat×Bool)->QE α
 |.pure a,st,sm,es,bs=>.ok a st sm es bs
 |.program k,st,sm,es,bs=>evT P t (k P) st sm es bs
 |.mark m k,st,sm,es,bs=>evT P t k st sm (es.push ⟨.mark m,false,true⟩) bs
 |.load .atomic a k,st,sm,es,bs=>
  bif Qh9 a then evT P t (k st) st sm (es.push ⟨.cell a,false,true⟩) ((a.block,true)::bs)
  else bif Qh8 a then evT P t (k sm) st sm (es.push ⟨.cell a,false,true⟩) ((a.block,true)::bs)else .stuck
 |.load .plain a k,st,sm,es,bs=>
  bif Qh9 a then evT P t (k st) st sm (es.push ⟨.cell a,false,false⟩) ((a.block,true)::bs)
  else bif Qh8 a then evT P t (k sm) st sm (es.push ⟨.cell a,false,false⟩) ((a.block,true)::bs)else .stuck
 |.store .atomic a v k,st,sm,es,bs=>
  bif Qoz v then
   bif Qh9 a then evT P t k v sm (es.push ⟨.cell a,true,true⟩) ((a.block,true)::bs)
   else bif Qh8 a then evT P t k st v (es.push ⟨.cell a,true,true⟩) ((a.block,true)::bs)else .stuck
  else .stuck
 |.shape r k,st,sm,es,bs=>evT P t (k (some (t,2))) st sm es ((r,false)::bs)
 |.frozen a k,st,sm,es,bs=>evT P t (k false) st sm es ((a.block,false)::bs)
 |.halt .blocked,st,sm,_,bs=>.blocked st sm bs
 |_,_,_,_,_=>.stuck
def Sh(b:Nat)(t:TypeId)(st sm:Value)(w:World):Prop:=w.heap[b]?=some (.cells #[st,sm] t (0,0))
def two(w:World)(b:Nat)(t:TypeId)(st sm:Value):World:={ w with heap:=w.heap.setIfInBounds b (.cells #[st,sm] t (0,0)) }
def Sh.two{w:World}{b:Nat}{t:TypeId}{st sm st' sm':Value}(h:Sh b t st sm w):Sh b t st' sm' (two w b t st' sm'):=by
 have:=(Array.getElem?_eq_some_iff.1 h).1;simp[Sh,TM.two,this]
def Sh.two_same{w:World}{b:Nat}{t:TypeId}{st sm:Value}(h:Sh b t st sm w):TM.two w b t st sm=w:=by
 obtain⟨hlt,he⟩:=Array.getElem?_eq_some_iff.1 h
 have:w.heap.setIfInBounds b (.cells #[st,sm] t (0,0))=w.heap:=by
  apply Array.ext
  .simp
  .intro i hi hi';rw[Array.getElem_setIfInBounds (by simpa using hi)];split
   .rename_i e;subst e;exact he.symm
   .rfl
 simp[TM.two,this]
def Zfx{w:World}{b:Nat}{t:TypeId}{st sm st' sm':Value}:two (two w b t st sm) b t st' sm'=two w b t st' sm':=by
 simp[two,Array.setIfInBounds_setIfInBounds]
def Sh.cell0{w:World}{b:Nat}{t:TypeId}{st sm:Value}(h:Sh b t st sm w):w.cell? ⟨b,0,none⟩=some st/\w.cell? ⟨b,1,none⟩=some sm/\w.frozen? ⟨b,0,none⟩=false/\w.frozen? ⟨b,1,none⟩=false:=by
 unfold Sh at h;refine⟨?_,?_,?_,?_⟩ <;> simp[World.cell?,World.frozen?,h]
def Sh.set0{w:World}{b:Nat}{t:TypeId}{st sm v:Value}(h:Sh b t st sm w):w.setCell ⟨b,0,none⟩ v=TM.two w b t v sm:=by
 obtain⟨hlt,he⟩:=Array.getElem?_eq_some_iff.1 h;simp only[World.setCell,TM.two];congr 1;apply Array.ext
 .simp
 .intro i hi hi';simp only[Array.getElem_modify,Array.getElem_setIfInBounds (by simpa using hi)];split
  .rename_i e;subst e;simp[he]
  .rfl
def Sh.set1{w:World}{b:Nat}{t:TypeId}{st sm v:Value}(h:Sh b t st sm w):w.setCell ⟨b,1,none⟩ v=TM.two w b t st v:=by
 obtain⟨hlt,he⟩:=Array.getElem?_eq_some_iff.1 h;simp only[World.setCell,TM.two];congr 1;apply Array.ext
 .simp
 .intro i hi hi';simp only[Array.getElem_modify,Array.getElem_setIfInBounds (by simpa using hi)];split
  .rename_i e;subst e;simp[he]
  .rfl
def Ran(P:Program){α:Type}(s:Sem α)(b:Nat)(t:TypeId)(w:World)(es:Array Event)(bs:List (Nat×Bool)):QE α->Prop
 |.ok x st' sm' es' bs'=>(∀y∈bs',y.1=b)->(∀y∈bs,y∈bs')/\s.runT P w es=(.ok x (two w b t st' sm'),es')
 |.blocked st' sm' bs'=>(∀y∈bs',y.1=b)->(∀y∈bs,y∈bs')/\∃es',s.runT P w es=(.halt .blocked (two w b t st' sm'),es')
 |.stuck=>True
def Ran.of{P:Program}{α:Type}{s s':Sem α}{b c:Nat}{t:TypeId}{w w':World}{es es1:Array Event}{bs:List (Nat×Bool)}{f:Bool}{r:QE α}
  (h:Ran P s' b t w' es1 ((c,f)::bs) r) (hs:c=b->s.runT P w es=s'.runT P w' es1) (ht:∀st sm,two w' b t st sm=two w b t st sm):Ran P s b t w es bs r:=by
 cases r with
 |ok x st' sm' es' bs'=>
  intro hb;obtain⟨h1,h2⟩:=h hb;exact⟨λ y hy=>h1 y (by simp[hy]),by rw[hs (hb _ (h1 (c,f) (by simp))),h2,ht]⟩
 |blocked st' sm' bs'=>
  intro hb;obtain⟨h1,es',h2⟩:=h hb;exact⟨λ y hy=>h1 y (by simp[hy]),es',by rw[hs (hb _ (h1 (c,f) (by simp))),h2,ht]⟩
 |stuck=>trivial
def Zp3{P:Program}{α:Type}{b:Nat}{t:TypeId}(s:Sem α):∀{st sm:Value}{es:Array Event}{bs:List (Nat×Bool)}{w:World},
  Sh b t st sm w->Ran P s b t w es bs (evT P t s st sm es bs):=by
 induction s with
 |pure a=>
  intro st sm es bs w hs hb;exact⟨λ _ h=>h,by rw[hs.two_same];rfl⟩
 |program k ih=>
  intro st sm es bs w hs;exact ih P hs
 |mark m k ih=>
  intro st sm es bs w hs;exact ih hs
 |load m a k ih=>
  intro st sm es bs w hs;cases m with
  |plain=>
   simp only[evT];cases e:Qh9 a with
   |true=>
    simp only[cond_true];refine(ih st hs).of (λ hab=>?_) (λ _ _=>rfl);have ea:=Q07 e;rw[hab]at ea;have hc:=hs.cell0.1;rw[<- ea]at hc;simp only[Sem.runT,hc];rfl
   |false=>
    simp only[cond_false];cases e2:Qh8 a with
    |false=>exact trivial
    |true=>
     simp only[cond_true];refine(ih sm hs).of (λ hab=>?_) (λ _ _=>rfl);have ea:=Q06 e2;rw[hab]at ea;have hc:=hs.cell0.2.1;rw[<- ea]at hc;simp only[Sem.runT,hc];rfl
  |atomic=>
   simp only[evT];cases e:Qh9 a with
   |true=>
    simp only[cond_true];refine(ih st hs).of (λ hab=>?_) (λ _ _=>rfl);have ea:=Q07 e;rw[hab]at ea;have hc:=hs.cell0.1;rw[<- ea]at hc;simp only[Sem.runT,hc];rfl
   |false=>
    simp only[cond_false];cases e2:Qh8 a with
    |false=>exact trivial
    |true=>
     simp only[cond_true];refine(ih sm hs).of (λ hab=>?_) (λ _ _=>rfl);have ea:=Q06 e2;rw[hab]at ea;have hc:=hs.cell0.2.1;rw[<- ea]at hc;simp only[Sem.runT,hc];rfl
 |store m a v k ih=>
  intro st sm es bs w hs;cases m with
  |plain=>exact trivial
  |atomic=>
   simp only[evT];cases ev:Qoz v with
   |false=>exact trivial
   |true=>
    simp only[cond_true]
    obtain⟨kk,n,rfl⟩:∃kk n,v=.int kk n:=by
     cases v <;> simp[Qoz]at ev;exact⟨_,_,rfl⟩
    cases e:Qh9 a with
    |true=>
     simp only[cond_true];refine(ih (w:=two w b t (.int kk n) sm) hs.two).of (λ hab=>?_) (λ _ _=>Zfx);have ea:=Q07 e;rw[hab]at ea;have hc:=hs.cell0.1;have hf:=hs.cell0.2.2.1;have hset:=hs.set0 (v:=.int kk n);rw[<- ea]at hc hf hset;simp only[Sem.runT,hc,hf,Bool.false_eq_true,if_false,hset];rfl
    |false=>
     simp only[cond_false];cases e2:Qh8 a with
     |false=>exact trivial
     |true=>
      simp only[cond_true];refine(ih (w:=two w b t st (.int kk n)) hs.two).of (λ hab=>?_) (λ _ _=>Zfx);have ea:=Q06 e2;rw[hab]at ea;have hc:=hs.cell0.2.1;have hf:=hs.cell0.2.2.2;have hset:=hs.set1 (v:=.int kk n);rw[<- ea]at hc hf hset;simp only[Sem.runT,hc,hf,Bool.false_eq_true,if_false,hset];rfl
 |shape r k ih=>
  intro st sm es bs w hs;refine(ih (some (t,2)) hs).of (λ hab=>?_) (λ _ _=>rfl);subst hab;simp only[Sem.runT,World.shape?,show w.heap[r]?=_ from hs];rfl
 |frozen a k ih=>
  intro st sm es bs w hs;refine(ih false hs).of (λ hab=>?_) (λ _ _=>rfl);subst hab;have:w.frozen? a=false:=by simp[World.frozen?,show w.heap[a.block]?=_ from hs]
  simp only[Sem.runT,this]
 |halt h=>
  intro st sm es bs w hs;cases h with
  |blocked=>exact λ hb=>⟨λ _ h=>h,es,by rw[hs.two_same];rfl⟩
  |_=>exact trivial
 |_=>intro st sm es bs w hs;exact trivial
def Znq{P:Program}{t:TypeId}{α:Type}(s:Sem α):∀{st sm:Value}{es:Array Event}{bs:List (Nat×Bool)}{x:α}{st' sm':Value}{es':Array Event}{bs':List (Nat×Bool)},
  evT P t s st sm es bs=.ok x st' sm' es' bs'->(∃l,bs'=l++bs)/\(bs'=bs->(st'=st/\sm'=sm)/\∀w,s.runT P w es=(.ok x w,es')):=by
 induction s with
 |pure a=>
  intro st sm es bs x st' sm' es' bs' h;simp only[evT,QE.ok.injEq]at h;obtain⟨rfl,rfl,rfl,rfl,rfl⟩:=h;exact⟨⟨[],rfl⟩,λ _=>⟨⟨rfl,rfl⟩,λ _=>rfl⟩⟩
 |program k ih=>intro st sm es bs x st' sm' es' bs' h;exact ih P h
 |mark m k ih=>intro st sm es bs x st' sm' es' bs' h;exact ih h
 |load m a k ih=>
  intro st sm es bs x st' sm' es' bs' h;cases m with
  |plain=>
   simp only[evT]at h
   have key:∀v,evT P t (k v) st sm (es.push ⟨.cell a,false,false⟩) ((a.block,true)::bs)=.ok x st' sm' es' bs'->(∃l,bs'=l++bs)/\(bs'=bs->(st'=st/\sm'=sm)/\∀w,(Sem.load .plain a k).runT P w es=(.ok x w,es')):=by
    intro v hv;obtain⟨⟨l,rfl⟩,_⟩:=ih v hv;refine⟨⟨l++[(a.block,true)],by simp⟩,λ e=>?_⟩;have:=congrArg List.length e;simp at this;omega
   cases e:Qh9 a <;> rw[e]at h <;> simp only[cond_true,cond_false]at h
   .cases e2:Qh8 a <;> rw[e2]at h <;> simp only[cond_true,cond_false]at h
    .cases h
    .exact key _ h
   .exact key _ h
  |atomic=>
   simp only[evT]at h
   have key:∀v,evT P t (k v) st sm (es.push ⟨.cell a,false,true⟩) ((a.block,true)::bs)=.ok x st' sm' es' bs'->(∃l,bs'=l++bs)/\(bs'=bs->(st'=st/\sm'=sm)/\∀w,(Sem.load .atomic a k).runT P w es=(.ok x w,es')):=by
    intro v hv;obtain⟨⟨l,rfl⟩,_⟩:=ih v hv;refine⟨⟨l++[(a.block,true)],by simp⟩,λ e=>?_⟩;have:=congrArg List.length e;simp at this;omega
   cases e:Qh9 a <;> rw[e]at h <;> simp only[cond_true,cond_false]at h
   .cases e2:Qh8 a <;> rw[e2]at h <;> simp only[cond_true,cond_false]at h
    .cases h
    .exact key _ h
   .exact key _ h
 |store m a v k ih=>
  intro st sm es bs x st' sm' es' bs' h;cases m with
  |plain=>simp[evT]at h
  |atomic=>
   simp only[evT]at h
   have key:∀u u',evT P t k u u' (es.push ⟨.cell a,true,true⟩) ((a.block,true)::bs)=.ok x st' sm' es' bs'->(∃l,bs'=l++bs)/\(bs'=bs->(st'=st/\sm'=sm)/\∀w,(Sem.store .atomic a v k).runT P w es=(.ok x w,es')):=by
    intro u u' hv;obtain⟨⟨l,rfl⟩,_⟩:=ih hv;refine⟨⟨l++[(a.block,true)],by simp⟩,λ e=>?_⟩;have:=congrArg List.length e;simp at this;omega
   cases ev:Qoz v <;> rw[ev]at h <;> simp only[cond_true,cond_false]at h
   .cases h
   .cases e:Qh9 a <;> rw[e]at h <;> simp only[cond_true,cond_false]at h
    .cases e2:Qh8 a <;> rw[e2]at h <;> simp only[cond_true,cond_false]at h
     .cases h
     .exact key _ _ h
    .exact key _ _ h
 |shape r k ih=>
  intro st sm es bs x st' sm' es' bs' h;obtain⟨⟨l,rfl⟩,_⟩:=ih _ h;refine⟨⟨l++[(r,false)],by simp⟩,λ e=>?_⟩;have:=congrArg List.length e;simp at this;omega
 |frozen a k ih=>
  intro st sm es bs x st' sm' es' bs' h;obtain⟨⟨l,rfl⟩,_⟩:=ih _ h;refine⟨⟨l++[(a.block,false)],by simp⟩,λ e=>?_⟩;have:=congrArg List.length e;simp at this;omega
 |halt h'=>intro st sm es bs x st' sm' es' bs' h;cases h' <;> simp[evT]at h
 |_=>intro st sm es bs x st' sm' es' bs' h;simp[evT]at h
def Zsd{P:Program}{t:TypeId}{α:Type}(s:Sem α):∀{st sm:Value}{es:Array Event}{bs:List (Nat×Bool)}{st' sm':Value}{bs':List (Nat×Bool)},
  evT P t s st sm es bs=.blocked st' sm' bs'->(∃l,bs'=l++bs)/\(bs'=bs->∀w,∃es',s.runT P w es=(.halt .blocked w,es')):=by
 induction s with
 |pure a=>intro st sm es bs st' sm' bs' h;simp[evT]at h
 |program k ih=>intro st sm es bs st' sm' bs' h;exact ih P h
 |mark m k ih=>intro st sm es bs st' sm' bs' h;exact ih h
 |load m a k ih=>
  intro st sm es bs st' sm' bs' h;cases m with
  |plain=>
   simp only[evT]at h
   have key:∀v,evT P t (k v) st sm (es.push ⟨.cell a,false,false⟩) ((a.block,true)::bs)=.blocked st' sm' bs'->(∃l,bs'=l++bs)/\(bs'=bs->∀w,∃es',(Sem.load .plain a k).runT P w es=(.halt .blocked w,es')):=by
    intro v hv;obtain⟨⟨l,rfl⟩,_⟩:=ih v hv;refine⟨⟨l++[(a.block,true)],by simp⟩,λ e=>?_⟩;have:=congrArg List.length e;simp at this;omega
   cases e:Qh9 a <;> rw[e]at h <;> simp only[cond_true,cond_false]at h
   .cases e2:Qh8 a <;> rw[e2]at h <;> simp only[cond_true,cond_false]at h
    .cases h
    .exact key _ h
   .exact key _ h
  |atomic=>
   simp only[evT]at h
   have key:∀v,evT P t (k v) st sm (es.push ⟨.cell a,false,true⟩) ((a.block,true)::bs)=.blocked st' sm' bs'->(∃l,bs'=l++bs)/\(bs'=bs->∀w,∃es',(Sem.load .atomic a k).runT P w es=(.halt .blocked w,es')):=by
    intro v hv;obtain⟨⟨l,rfl⟩,_⟩:=ih v hv;refine⟨⟨l++[(a.block,true)],by simp⟩,λ e=>?_⟩;have:=congrArg List.length e;simp at this;omega
   cases e:Qh9 a <;> rw[e]at h <;> simp only[cond_true,cond_false]at h
   .cases e2:Qh8 a <;> rw[e2]at h <;> simp only[cond_true,cond_false]at h
    .cases h
    .exact key _ h
   .exact key _ h
 |store m a v k ih=>
  intro st sm es bs st' sm' bs' h;cases m with
  |plain=>simp[evT]at h
  |atomic=>
   simp only[evT]at h
   have key:∀u u',evT P t k u u' (es.push ⟨.cell a,true,true⟩) ((a.block,true)::bs)=.blocked st' sm' bs'->(∃l,bs'=l++bs)/\(bs'=bs->∀w,∃es',(Sem.store .atomic a v k).runT P w es=(.halt .blocked w,es')):=by
    intro u u' hv;obtain⟨⟨l,rfl⟩,_⟩:=ih hv;refine⟨⟨l++[(a.block,true)],by simp⟩,λ e=>?_⟩;have:=congrArg List.length e;simp at this;omega
   cases ev:Qoz v <;> rw[ev]at h <;> simp only[cond_true,cond_false]at h
   .cases h
   .cases e:Qh9 a <;> rw[e]at h <;> simp only[cond_true,cond_false]at h
    .cases e2:Qh8 a <;> rw[e2]at h <;> simp only[cond_true,cond_false]at h
     .cases h
     .exact key _ _ h
    .exact key _ _ h
 |shape r k ih=>
  intro st sm es bs st' sm' bs' h;obtain⟨⟨l,rfl⟩,_⟩:=ih _ h;refine⟨⟨l++[(r,false)],by simp⟩,λ e=>?_⟩;have:=congrArg List.length e;simp at this;omega
 |frozen a k ih=>
  intro st sm es bs st' sm' bs' h;obtain⟨⟨l,rfl⟩,_⟩:=ih _ h;refine⟨⟨l++[(a.block,false)],by simp⟩,λ e=>?_⟩;have:=congrArg List.length e;simp at this;omega
 |halt h'=>
  intro st sm es bs st' sm' bs' h;cases h' with
  |blocked=>
   simp only[evT,QE.blocked.injEq]at h;obtain⟨rfl,rfl,rfl⟩:=h;exact⟨⟨[],rfl⟩,λ _ w=>⟨es,rfl⟩⟩
  |_=>simp[evT]at h
 |_=>intro st sm es bs st' sm' bs' h;simp[evT]at h
def Zue(P:Program){α:Type}(s:Sem α)(W:Value->Value->World)(ok:List (Nat×Bool)->Prop)(w:World):QE α->Prop
 |.ok x st' sm' es' bs'=>ok bs'->s.runT P w #[]=(.ok x (W st' sm'),es')
 |.blocked st' sm' bs'=>ok bs'->∃es',s.runT P w #[]=(.halt .blocked (W st' sm'),es')
 |.stuck=>True
structure Env(P:Program)(t:TypeId)(st sm:Value)(w:World)(W:Value->Value->World)(ok:List (Nat×Bool)->Prop):Prop where
 ran:∀{α:Type}(s:Sem α),Zue P s W ok w (evT P t s st sm #[] [])
 same:W st sm=w
 nil:ok []
def Env.sh{P:Program}{t:TypeId}{st sm:Value}{w:World}{b:Nat}(h:Sh b t st sm w):Env P t st sm w (two w b t) (λ bs=>∀y∈bs,y.1=b):=by
 refine⟨λ s=>?_,h.two_same,by simp⟩;have:=Zp3 (P:=P) s (es:=#[]) (bs:=[]) h;generalize evT P t s st sm #[] []=r at this;cases r with
 |ok x st' sm' es bs=>exact λ hb=>(this hb).2
 |blocked st' sm' bs=>exact λ hb=>(this hb).2
 |stuck=>trivial
def Env.calm{P:Program}{t:TypeId}{st sm:Value}{w:World}:Env P t st sm w (λ _ _=>w) (λ bs=>bs=[]):=by
 refine⟨λ s=>?_,rfl,rfl⟩;have h1:=@Znq P t _ s st sm #[] [];have h2:=@Zsd P t _ s st sm #[] [];generalize evT P t s st sm #[] []=r at h1 h2;cases r with
 |ok x st' sm' es bs=>exact λ hb=>((h1 rfl).2 hb).2 w
 |blocked st' sm' bs=>exact λ hb=>(h2 rfl).2 hb w
 |stuck=>trivial
def Q5r{P:Program}{t:TypeId}{α:Type}(s:Sem α):∀{st sm:Value}{es:Array Event}{bs:List (Nat×Bool)}{x:α}{st' sm':Value}{es':Array Event}{bs':List (Nat×Bool)},
  evT P t s st sm es bs=.ok x st' sm' es' bs'->(∃l,bs'=l++bs)/\((bs'.all (!·.2))=true->(st'=st/\sm'=sm)/\∀st2 sm2,evT P t s st2 sm2 es bs=.ok x st2 sm2 es' bs'):=by
 induction s with
 |pure a=>
  intro st sm es bs x st' sm' es' bs' h;simp only[evT,QE.ok.injEq]at h;obtain⟨rfl,rfl,rfl,rfl,rfl⟩:=h;exact⟨⟨[],rfl⟩,λ _=>⟨⟨rfl,rfl⟩,λ _ _=>rfl⟩⟩
 |program k ih=>intro st sm es bs x st' sm' es' bs' h;exact ih P h
 |mark m k ih=>intro st sm es bs x st' sm' es' bs' h;exact ih h
 |load m a k ih=>
  intro st sm es bs x st' sm' es' bs' h;cases m with
  |plain=>
   simp only[evT]at h
   have key:∀v,evT P t (k v) st sm (es.push ⟨.cell a,false,false⟩) ((a.block,true)::bs)=.ok x st' sm' es' bs'->(∃l,bs'=l++bs)/\((bs'.all (!·.2))=true->(st'=st/\sm'=sm)/\∀st2 sm2,evT P t (Sem.load .plain a k) st2 sm2 es bs=.ok x st2 sm2 es' bs'):=by
    intro v hv;obtain⟨⟨l,rfl⟩,_⟩:=ih v hv;exact⟨⟨l++[(a.block,true)],by simp⟩,λ e=>by simp at e⟩
   cases e:Qh9 a <;> rw[e]at h <;> simp only[cond_true,cond_false]at h
   .cases e2:Qh8 a <;> rw[e2]at h <;> simp only[cond_true,cond_false]at h
    .cases h
    .exact key _ h
   .exact key _ h
  |atomic=>
   simp only[evT]at h
   have key:∀v,evT P t (k v) st sm (es.push ⟨.cell a,false,true⟩) ((a.block,true)::bs)=.ok x st' sm' es' bs'->(∃l,bs'=l++bs)/\((bs'.all (!·.2))=true->(st'=st/\sm'=sm)/\∀st2 sm2,evT P t (Sem.load .atomic a k) st2 sm2 es bs=.ok x st2 sm2 es' bs'):=by
    intro v hv;obtain⟨⟨l,rfl⟩,_⟩:=ih v hv;exact⟨⟨l++[(a.block,true)],by simp⟩,λ e=>by simp at e⟩
   cases e:Qh9 a <;> rw[e]at h <;> simp only[cond_true,cond_false]at h
   .cases e2:Qh8 a <;> rw[e2]at h <;> simp only[cond_true,cond_false]at h
    .cases h
    .exact key _ h
   .exact key _ h
 |store m a v k ih=>
  intro st sm es bs x st' sm' es' bs' h;cases m with
  |plain=>simp[evT]at h
  |atomic=>
   simp only[evT]at h
   have key:∀u u',evT P t k u u' (es.push ⟨.cell a,true,true⟩) ((a.block,true)::bs)=.ok x st' sm' es' bs'->(∃l,bs'=l++bs)/\((bs'.all (!·.2))=true->(st'=st/\sm'=sm)/\∀st2 sm2,evT P t (Sem.store .atomic a v k) st2 sm2 es bs=.ok x st2 sm2 es' bs'):=by
    intro u u' hv;obtain⟨⟨l,rfl⟩,_⟩:=ih hv;exact⟨⟨l++[(a.block,true)],by simp⟩,λ e=>by simp at e⟩
   cases ev:Qoz v <;> rw[ev]at h <;> simp only[cond_true,cond_false]at h
   .cases h
   .cases e:Qh9 a <;> rw[e]at h <;> simp only[cond_true,cond_false]at h
    .cases e2:Qh8 a <;> rw[e2]at h <;> simp only[cond_true,cond_false]at h
     .cases h
     .exact key _ _ h
    .exact key _ _ h
 |shape r k ih=>
  intro st sm es bs x st' sm' es' bs' h;obtain⟨⟨l,rfl⟩,h2⟩:=ih _ h;exact⟨⟨l++[(r,false)],by simp⟩,λ e=>h2 e⟩
 |frozen a k ih=>
  intro st sm es bs x st' sm' es' bs' h;obtain⟨⟨l,rfl⟩,h2⟩:=ih _ h;exact⟨⟨l++[(a.block,false)],by simp⟩,λ e=>h2 e⟩
 |halt h'=>intro st sm es bs x st' sm' es' bs' h;cases h' <;> simp[evT]at h
 |_=>intro st sm es bs x st' sm' es' bs' h;simp[evT]at h
end Go.TM
namespace Go.TM
variable{T:Type}
def Zx{U:Qa T}{l:Loc}(h:U.canW l):U.canR l:=Qy.2 (.inl (Q6.1 h))
def Zqj{U:Qa T}{w w':World}(h:U.ok w)(e:w'.heap=w.heap):U.ok w':=by
 refine⟨λ b o hb=>by rw[e];exact h.imm b o hb,λ r hr=>?_,h.apart,h.sep⟩;have:=h.held r hr;cases r <;> simpa[Qv.ok,e]using this
def Ql8{U:Qa T}{w:World}(h:U.ok w){l:Loc}(hl:U.canR l):¬Loc.new w l:=by
 rcases Qy.1 hl with⟨r,hr,hl⟩|hl
 .have hk:=h.held r hr;cases r with
  |obj b o=>
   have hlt:=(Array.getElem?_eq_some_iff.1 hk).1;cases o <;> cases l <;> simp only[Qv.lets,Loc.new]at hl ⊢ <;> first|exact hl.elim|omega
  |cell b i v t n=>
   obtain⟨c,hb,_⟩:=hk;have hlt:=(Array.getElem?_eq_some_iff.1 hb).1;cases l <;> simp only[Qv.lets,Loc.new]at hl ⊢ <;> first|exact hl.elim|omega
 .cases l with
  |cell a=>
   obtain⟨c,t,fr,hc,_⟩:=hl;have hlt:=(Array.getElem?_eq_some_iff.1 (h.imm _ _ hc)).1;simp only[Loc.new];omega
  |obj b=>
   obtain⟨o,ho⟩:=hl;have hlt:=(Array.getElem?_eq_some_iff.1 (h.imm _ _ ho)).1;simp only[Loc.new];omega
  |_=>exact hl.elim
def Zn8{U U' τ:Qa T}{w w':World}(g:Qfb U w w' U')(h:τ.ok w)(hs:∀l,U.canW l->¬τ.canR l):τ.ok w':=by
 have cells:∀b c t fr,w.heap[b]?=some (.cells c t fr)->τ.canR (.obj b)->(∀i,i<c.size->τ.canR (.cell ⟨b,i,none⟩))->w'.heap[b]?=some (.cells c t fr):=by
  intro b c t fr hb ho hi;obtain⟨c',fr',h1,h2,h3,h4⟩:=g.cells b c t fr hb;obtain rfl:=h4.resolve_right λ h=>hs _ h.1 ho
  have:c'=c:=by
   apply Array.ext h2;intro i hi1 hi2;have:=h3 i λ hw=>hs _ hw (hi i hi2);simpa[hi1,hi2]using this
  rw[h1,this]
 have obj:∀b o,w.heap[b]?=some o->τ.canR (.obj b)->(∀c t fr,o=.cells c t fr->∀i,i<c.size->τ.canR (.cell ⟨b,i,none⟩))->w'.heap[b]?=some o:=by
  intro b o hb hr hc;by_cases hcl:∃c t fr,o=.cells c t fr
  .obtain⟨c,t,fr,rfl⟩:=hcl;exact cells b c t fr hb hr (hc c t fr rfl)
  .exact g.objs b o hb (λ c t fr e=>hcl ⟨c,t,fr,e⟩) λ hw=>hs _ hw hr
 refine⟨λ b o hb=>?_,λ r hr=>?_,h.apart,h.sep⟩
 .exact obj b o (h.imm b o hb) (Qy.2 (.inr ⟨o,hb⟩)) λ c t fr e i hi=>Qy.2 (.inr ⟨c,t,fr,by rw[<- e];exact hb,hi⟩)
 .have hk:=h.held r hr;cases r with
  |obj b o=>
   exact obj b o hk (Qy.2 (.inl ⟨_,hr,by cases o <;> rfl⟩)) λ c t fr e i hi=>Qy.2 (.inl ⟨_,hr,by subst e;exact⟨rfl,hi⟩⟩)
  |cell b i v t n=>
   obtain⟨c,hb,hn,hv⟩:=hk;obtain⟨c',fr',h1,h2,h3,h4⟩:=g.cells b c t (0,0) hb;have hi:i<c.size:=(Array.getElem?_eq_some_iff.1 hv).1;obtain rfl:=h4.resolve_right λ h=>hs _ (h.2 i hi) (Qy.2 (.inl ⟨_,hr,rfl,rfl⟩));refine⟨c',h1,h2.trans hn,?_⟩;rw[h3 i λ hw=>hs _ hw (Qy.2 (.inl ⟨_,hr,rfl,rfl⟩))];exact hv
def Off(b:Nat)(U:Qa T):Prop:=∀a:Addr,a.block=b->a.off<2->¬U.canR (.cell a)
def ok_two{τ:Qa T}{w:World}{b:Nat}{t:TypeId}{st sm st' sm':Value}(h:τ.ok w)(hs:Sh b t st sm w)(ho:Off b τ):τ.ok (two w b t st' sm'):=by
 have ne:∀x o,w.heap[x]?=some o->(∀c t fr,o=.cells c t fr->∀i,i<c.size->τ.canR (.cell ⟨x,i,none⟩))->(two w b t st' sm').heap[x]?=some o:=by
  intro x o hx hc
  have:x≠b:=by
   intro e;subst e;rw[show w.heap[x]?=_ from hs]at hx;cases hx;exact ho ⟨x,0,none⟩ rfl (Nat.zero_lt_two) (hc _ _ _ rfl 0 (by simp))
  simp only[two];rw[Array.getElem?_setIfInBounds_ne (Ne.symm this)];exact hx
 refine⟨λ x o hx=>ne x o (h.imm x o hx) λ c t fr e i hi=>Qy.2 (.inr ⟨c,t,fr,by rw[<- e];exact hx,hi⟩),λ r hr=>?_,h.apart,h.sep⟩;have hk:=h.held r hr;cases r with
 |obj x o=>exact ne x o hk λ c t fr e i hi=>Qy.2 (.inl ⟨_,hr,by subst e;exact⟨rfl,hi⟩⟩)
 |cell x i v t n=>
  obtain⟨c,hb,hn,hv⟩:=hk;refine⟨c,?_,hn,hv⟩
  have:x≠b:=by
   intro e;subst e;rw[show w.heap[x]?=_ from hs]at hb;cases hb;have hi:i<2:=by simpa using(Array.getElem?_eq_some_iff.1 hv).1
   exact ho ⟨x,i,none⟩ rfl hi (Qy.2 (.inl ⟨_,hr,rfl,rfl⟩))
  simp only[two];rw[Array.getElem?_setIfInBounds_ne (Ne.symm this)];exact hb
def Sh.guar{U U':Qa T}{w w':World}{b:Nat}{t:TypeId}{st sm:Value}(h:Sh b t st sm w)(g:Qfb U w w' U')(ho:Off b U):Sh b t st sm w':=by
 obtain⟨c',fr',h1,h2,h3,h4⟩:=g.cells b _ t (0,0) h;obtain rfl:=h4.resolve_right λ h=>ho ⟨b,0,none⟩ rfl Nat.zero_lt_two (Zx (h.2 0 (by simp)))
 have:c'=#[st,sm]:=by
  apply Array.ext h2;intro i hi1 hi2;have:=h3 i λ hw=>ho ⟨b,i,none⟩ rfl (by simpa using hi2) (Zx hw);rw[Array.getElem?_eq_getElem hi1,Array.getElem?_eq_getElem hi2]at this;exact Option.some.inj this
 rw[this]at h1;exact h1
structure VI(V:Hd->Qa T)(w:World):Prop where
 ok:∀k,(V k).ok w
 sep:∀k k' l,k≠k'->(V k).canW l->¬(V k').canR l
def Q2{α:Type _}(V:Hd->α)(k:Hd)(U:α):Hd->α:=λ k'=>if k'=k then U else V k'
def Ql{α:Type _}(V:Hd->α)(k:Hd)(U:α):Q2 V k U k=U:=by simp[Q2]
def Qh{α:Type _}(V:Hd->α){k k':Hd}(U:α)(h:k'≠k):Q2 V k U k'=V k':=by simp[Q2,h]
def VI.priv{V:Hd->Qa T}{w w':World}{k:Hd}{U':Qa T}(h:VI V w)(g:Qfb (V k) w w' U')(ok:U'.ok w'):VI (Q2 V k U') w':=by
 refine⟨λ k'=>?_,λ k_1 k_2 l hne hw hr=>?_⟩
 .by_cases e:k'=k
  .subst e;rw[Ql];exact ok
  .rw[Qh _ _ e];exact Zn8 g (h.ok k') λ l hl=>h.sep k k' l (Ne.symm e) hl
 .by_cases e:k_1=k
  .subst e;rw[Ql]at hw;rw[Qh _ _ (Ne.symm hne)]at hr;rcases g.cw l hw with hw|hw
   .exact h.sep _ _ l hne hw hr
   .exact Ql8 (h.ok _) hr hw
  .rw[Qh _ _ e]at hw;by_cases e2:k_2=k
   .subst e2;rw[Ql]at hr;rcases g.cr l hr with hr|hr
    .exact h.sep _ _ l hne hw hr
    .exact Ql8 (h.ok _) (Zx hw) hr
   .rw[Qh _ _ e2]at hr;exact h.sep _ _ l hne hw hr
def VI.shift{V:Hd->Qa T}{w:World}{k:Hd}{U':Qa T}(h:VI V w)(hs:Qw (V k) U'):VI (Q2 V k U') w:=by
 obtain⟨h1,h2,h3⟩:=hs.2 w (h.ok k);refine⟨λ k'=>?_,λ k_1 k_2 l hne hw hr=>?_⟩
 .by_cases e:k'=k
  .subst e;rw[Ql];exact h1
  .rw[Qh _ _ e];exact h.ok k'
 .refine h.sep k_1 k_2 l hne ?_ ?_
  .by_cases e:k_1=k
   .subst e;rw[Ql]at hw;exact h2 l hw
   .rwa [Qh _ _ e]at hw
  .by_cases e:k_2=k
   .subst e;rw[Ql]at hr;exact h3 l hr
   .rwa [Qh _ _ e]at hr
def VI.two{V:Hd->Qa T}{w:World}{b:Nat}{t:TypeId}{st sm st' sm':Value}(h:VI V w)(hs:Sh b t st sm w)(ho:∀k,Off b (V k)):VI V (two w b t st' sm'):=
 ⟨λ k=>ok_two (h.ok k) hs (ho k),h.sep⟩
def VI.heap{V:Hd->Qa T}{w w':World}(h:VI V w)(e:w'.heap=w.heap):VI V w':=⟨λ k=>Zqj (h.ok k) e,h.sep⟩
structure Q64(U Up Uc:Qa T):Prop where
 ok:∀w,U.ok w->Up.ok w/\Uc.ok w
 wp:∀l,Up.canW l->U.canW l
 rp:∀l,Up.canR l->U.canR l
 wc:∀l,Uc.canW l->U.canW l
 rc:∀l,Uc.canR l->U.canR l
 pc:∀l,Up.canW l->¬Uc.canR l
 cp:∀l,Uc.canW l->¬Up.canR l
def VI.fork{V:Hd->Qa T}{w:World}{k c:Hd}{Up Uc:Qa T}(h:VI V w)(hf:Q64 (V k) Up Uc)(hkc:k≠c):VI (Q2 (Q2 V k Up) c Uc) w:=by
 have hW:∀k' l,(Q2 (Q2 V k Up) c Uc k').canW l->(k'=k/\Up.canW l/\(V k).canW l)\/(k'=c/\Uc.canW l/\(V k).canW l)\/(k'≠k/\k'≠c/\(V k').canW l):=by
  intro k' l hl;by_cases e:k'=c
  .subst e;rw[Ql]at hl;exact .inr (.inl ⟨rfl,hl,hf.wc l hl⟩)
  .rw[Qh _ _ e]at hl;by_cases e2:k'=k
   .subst e2;rw[Ql]at hl;exact .inl ⟨rfl,hl,hf.wp l hl⟩
   .rw[Qh _ _ e2]at hl;exact .inr (.inr ⟨e2,e,hl⟩)
 have hR:∀k' l,(Q2 (Q2 V k Up) c Uc k').canR l->(k'=k/\Up.canR l/\(V k).canR l)\/(k'=c/\Uc.canR l/\(V k).canR l)\/(k'≠k/\k'≠c/\(V k').canR l):=by
  intro k' l hl;by_cases e:k'=c
  .subst e;rw[Ql]at hl;exact .inr (.inl ⟨rfl,hl,hf.rc l hl⟩)
  .rw[Qh _ _ e]at hl;by_cases e2:k'=k
   .subst e2;rw[Ql]at hl;exact .inl ⟨rfl,hl,hf.rp l hl⟩
   .rw[Qh _ _ e2]at hl;exact .inr (.inr ⟨e2,e,hl⟩)
 refine⟨λ k'=>?_,λ k_1 k_2 l hne hw hr=>?_⟩
 .by_cases e:k'=c
  .subst e;rw[Ql];exact(hf.ok w (h.ok k)).2
  .rw[Qh _ _ e];by_cases e2:k'=k
   .subst e2;rw[Ql];exact(hf.ok w (h.ok k')).1
   .rw[Qh _ _ e2];exact h.ok k'
 .rcases hW _ _ hw with⟨rfl,w1,w2⟩|⟨rfl,w1,w2⟩|⟨n1,n2,w1⟩ <;> rcases hR _ _ hr with⟨e,r1,r2⟩|⟨e,r1,r2⟩|⟨m1,m2,r1⟩
  .exact hne e.symm
  .exact hf.pc l w1 r1
  .exact h.sep _ _ l hne w2 r1
  .exact hf.cp l w1 r1
  .exact hne e.symm
  .exact h.sep k _ l (Ne.symm m1) w2 r1
  .subst e;exact h.sep _ _ l hne w1 r2
  .exact h.sep _ k l n1 w1 r2
  .exact h.sep _ _ l hne w1 r1
def Qa.bare(τ:T):Qa T:=⟨λ _=>none,[],τ⟩
def Qrb(τ:T)(w:World):(Qa.bare τ).ok w:=⟨λ _ _ h=>(by cases h),λ _ h=>(by cases h),Pairwise.nil,λ _ h=>(by cases h)⟩
def Wl(τ:T)(l:Loc):¬(Qa.bare τ).canW l:=λ h=>by obtain⟨r,hr,_⟩:=Q6.1 h;cases hr
def Wk(τ:T)(l:Loc):¬(Qa.bare τ).canR l:=λ h=>by
 rcases Qy.1 h with⟨r,hr,_⟩|h
 .cases hr
 .cases l <;> simp[Qa.bare]at h
def Qa.with(U:Qa T)(M:List Qv):Qa T:={ U with M:=U.M++M }
def Qo6{U τ:Qa T}{l:Loc}(h:(U.with τ.M).canW l):U.canW l\/τ.canW l:=by
 obtain⟨r,hr,hl⟩:=Q6.1 h;rcases mem_append.1 hr with hr|hr
 .exact .inl (Q6.2 ⟨r,hr,hl⟩)
 .exact .inr (Q6.2 ⟨r,hr,hl⟩)
def Qo5{U τ:Qa T}{l:Loc}(h:(U.with τ.M).canR l):U.canR l\/τ.canR l:=by
 rcases Qy.1 h with⟨r,hr,hl⟩|h
 .rcases mem_append.1 hr with hr|hr
  .exact .inl (Qy.2 (.inl ⟨r,hr,hl⟩))
  .exact .inr (Qy.2 (.inl ⟨r,hr,hl⟩))
 .exact .inl (Qy.2 (.inr h))
def Qvw{U:Qa T}{r:Qv}(h:r∈U.M):(∀b o,r=.obj b o->U.canW (.obj b))/\(∀b i v t n,r=.cell b i v t n->U.canW (.cell ⟨b,i,none⟩))/\(∀b c t fr i,r=.obj b (.cells c t fr)->i<c.size->U.canW (.cell ⟨b,i,none⟩)):=by
 refine⟨λ b o e=>Q6.2 ⟨r,h,?_⟩,λ b i v t n e=>Q6.2 ⟨r,h,?_⟩,λ b c t fr i e hi=>Q6.2 ⟨r,h,?_⟩⟩
 .subst e;cases o <;> rfl
 .subst e;exact⟨rfl,rfl⟩
 .subst e;exact⟨rfl,hi⟩
def Zrd{U τ:Qa T}{w:World}(h1:U.ok w)(h2:τ.ok w)(s1:∀l,U.canW l->¬τ.canR l)(s2:∀l,τ.canW l->¬U.canR l):(U.with τ.M).ok w:=by
 refine⟨h1.imm,λ r hr=>?_,?_,λ r hr=>?_⟩
 .rcases mem_append.1 hr with hr|hr
  .exact h1.held r hr
  .exact h2.held r hr
 .refine pairwise_append.2 ⟨h1.apart,h2.apart,λ r hr r' hr'=>?_⟩;obtain⟨a1,a2,a3⟩:=Qvw hr;obtain⟨b1,b2,b3⟩:=Qvw hr';have k1:=h1.held r hr;have k2:=h2.held r' hr';cases r with
  |obj b o=>
   cases r' with
   |obj b' o'=>
    simp only[Qv.apart,Qv.blk];intro e;subst e;exact s1 _ (a1 _ _ rfl) (Zx (b1 _ _ rfl))
   |cell b' i v t n=>
    simp only[Qv.apart,Qv.blk];intro e;subst e;obtain⟨c,hc,hn,hv⟩:=k2
    have:o=.cells c t (0,0):=by
     have e1:w.heap[b]?=some o:=k1;rw[e1]at hc;exact Option.some.inj hc
    subst this;exact s1 _ (a3 _ _ _ _ i rfl (Array.getElem?_eq_some_iff.1 hv).1) (Zx (b2 _ _ _ _ _ rfl))
  |cell b i v t n=>
   cases r' with
   |obj b' o'=>
    simp only[Qv.apart,Qv.blk];intro e;subst e;obtain⟨c,hc,hn,hv⟩:=k1
    have:o'=.cells c t (0,0):=by
     have e1:w.heap[b]?=some o':=k2;rw[e1]at hc;exact Option.some.inj hc
    subst this;exact s1 _ (a2 _ _ _ _ _ rfl) (Zx (b3 _ _ _ _ i rfl (Array.getElem?_eq_some_iff.1 hv).1))
   |cell b' i' v' t' n'=>
    simp only[Qv.apart];by_cases e:b=b'
    .by_cases e2:i=i'
     .subst e;subst e2;exact absurd (Zx (b2 _ _ _ _ _ rfl)) (s1 _ (a2 _ _ _ _ _ rfl))
     .exact .inr e2
    .exact .inl e
 .rcases mem_append.1 hr with hr|hr
  .exact h1.sep r hr
  .show U.I r.blk=none;cases e:U.I r.blk with
   |none=>rfl
   |some o=>
    exfalso;obtain⟨b1,b2,b3⟩:=Qvw hr;have k2:=h2.held r hr;cases r with
    |obj b o'=>exact s2 _ (b1 _ _ rfl) (Qy.2 (.inr ⟨o,e⟩))
    |cell b i v t n=>
     obtain⟨c,hc,hn,hv⟩:=k2;have e1:w.heap[b]?=some o:=h1.imm _ _ e;rw[hc]at e1;cases e1;exact s2 _ (b2 _ _ _ _ _ rfl) (Qy.2 (.inr ⟨c,t,(0,0),e,(Array.getElem?_eq_some_iff.1 hv).1⟩))
def VI.join{V:Hd->Qa T}{w:World}{k k':Hd}(h:VI V w)(hne:k≠k')(τ:T):VI (Q2 (Q2 V k ((V k).with (V k').M)) k' (Qa.bare τ)) w:=by
 have hok:=Zrd (h.ok k) (h.ok k') (λ l hl=>h.sep k k' l hne hl) (λ l hl=>h.sep k' k l (Ne.symm hne) hl)
 have hW:∀x l,(Q2 (Q2 V k ((V k).with (V k').M)) k' (Qa.bare τ) x).canW l->x≠k'/\((V x).canW l\/(x=k/\(V k').canW l)):=by
  intro x l hl;by_cases e:x=k'
  .subst e;rw[Ql]at hl;exact absurd hl (Wl _ _)
  .rw[Qh _ _ e]at hl;refine⟨e,?_⟩;by_cases e2:x=k
   .subst e2;rw[Ql]at hl;exact(Qo6 hl).imp id λ h=>⟨rfl,h⟩
   .rw[Qh _ _ e2]at hl;exact .inl hl
 have hR:∀x l,(Q2 (Q2 V k ((V k).with (V k').M)) k' (Qa.bare τ) x).canR l->x≠k'/\((V x).canR l\/(x=k/\(V k').canR l)):=by
  intro x l hl;by_cases e:x=k'
  .subst e;rw[Ql]at hl;exact absurd hl (Wk _ _)
  .rw[Qh _ _ e]at hl;refine⟨e,?_⟩;by_cases e2:x=k
   .subst e2;rw[Ql]at hl;exact(Qo5 hl).imp id λ h=>⟨rfl,h⟩
   .rw[Qh _ _ e2]at hl;exact .inl hl
 refine⟨λ x=>?_,λ k_1 k_2 l hn hw hr=>?_⟩
 .by_cases e:x=k'
  .subst e;rw[Ql];exact Qrb _ _
  .rw[Qh _ _ e];by_cases e2:x=k
   .subst e2;rw[Ql];exact hok
   .rw[Qh _ _ e2];exact h.ok x
 .obtain⟨n1,w1⟩:=hW _ _ hw;obtain⟨n2,r1⟩:=hR _ _ hr;rcases w1 with w1|⟨rfl,w1⟩ <;> rcases r1 with r1|⟨e,r1⟩
  .exact h.sep _ _ l hn w1 r1
  .exact h.sep _ k' l n1 w1 r1
  .exact h.sep k' _ l (Ne.symm n2) w1 r1
  .exact hn e.symm
def Znv(U:Qa T)(τ τ':T):Q64 U (Qa.bare τ) ⟨λ _=>none,U.M,τ'⟩:=by
 have hw:∀l,(Qa.canW ⟨λ _=>none,U.M,τ'⟩ l)->U.canW l:=λ l hl=>Q6.2 (Q6.1 hl)
 have hr:∀l,(Qa.canR ⟨λ _=>none,U.M,τ'⟩ l)->U.canR l:=by
  intro l hl;rcases Qy.1 hl with hl|hl
  .exact Qy.2 (.inl hl)
  .cases l <;> simp at hl
 exact⟨λ w ok=>⟨Qrb _ _,⟨λ _ _ h=>(by cases h),ok.held,ok.apart,λ _ _=>rfl⟩⟩,λ l h=>absurd h (Wl _ _),λ l h=>absurd h (Wk _ _),hw,hr,λ l h=>absurd h (Wl _ _),λ l _ h=>Wk _ _ h⟩
def Qv.lets_blk{r:Qv}{l:Loc}(h:r.lets l):(∃a,l=.cell a/\a.block=r.blk)\/l=.obj r.blk:=by
 cases r with
 |obj b o=>
  cases l with
  |cell a=>cases o <;> simp only[Qv.lets]at h;exact .inl ⟨a,rfl,h.1⟩
  |obj b'=>right;cases o <;> simp only[Qv.lets]at h <;> rw[h] <;> rfl
  |_=>cases o <;> exact h.elim
 |cell b i v t n=>
  cases l with
  |cell a=>exact .inl ⟨a,rfl,h.1⟩
  |_=>exact h.elim
def Qv.apart_lets{r s:Qv}(h:r.apart s){l:Loc}(h1:r.lets l)(h2:s.lets l):False:=by
 have key:r.blk≠s.blk->False:=λ hne=>by
  rcases Qv.lets_blk h1 with⟨a,rfl,e⟩|rfl
  .rcases Qv.lets_blk h2 with⟨a',e',e''⟩|e'
   .cases e';exact hne (e.symm.trans e'')
   .cases e'
  .rcases Qv.lets_blk h2 with⟨a',e',e''⟩|e'
   .cases e'
   .exact hne (by simpa using e')
 cases r with
 |obj b o=>exact key (by cases s <;> exact h)
 |cell b i v t n=>
  cases s with
  |obj b' o=>exact key h
  |cell b' j v' t' n'=>
   cases l with
   |cell a=>
    obtain⟨e1,e2⟩:=h1;obtain⟨e3,e4⟩:=h2;rcases h with h|h
    .exact h (e1.symm.trans e3)
    .exact h (e2.symm.trans e4)
   |_=>exact h1.elim
def Qzc{U:Qa T}{tp tc:T}{w:World}(hw:U.ok w){M₁ M₂:List Qv}(h:Perm U.M (M₁++M₂)):Q64 U ⟨U.I,M₂,tp⟩ ⟨U.I,M₁,tc⟩:=by
 have hap:=(h.pairwise_iff (λ{x y}h=>Qv.apart_symm h)).1 hw.apart;rw[pairwise_append]at hap;have h1:∀r∈M₁,r∈U.M:=λ r hr=>h.mem_iff.2 (mem_append_left _ hr);have h2:∀r∈M₂,r∈U.M:=λ r hr=>h.mem_iff.2 (mem_append_right _ hr)
 have noI:∀(r:Qv)(l:Loc),r∈U.M->r.lets l->(match l with|.cell a=>∃c t fr,U.I a.block=some (.cells c t fr)/\a.off<c.size|.obj b=>∃o,U.I b=some o|_=>False)->False:=by
  intro r l hr hl hI;have hs:=hw.sep r hr;rcases Qv.lets_blk hl with⟨a,rfl,e⟩|rfl
  .obtain⟨c,t,fr,hc,_⟩:=hI;rw[e,hs]at hc;cases hc
  .obtain⟨o,ho⟩:=hI;rw[hs]at ho;cases ho
 refine⟨λ w ok=>?_,λ l hl=>?_,λ l hl=>?_,λ l hl=>?_,λ l hl=>?_,λ l hl hr=>?_,λ l hl hr=>?_⟩
 .have hap':=(h.pairwise_iff (λ{x y}h=>Qv.apart_symm h)).1 ok.apart;rw[pairwise_append]at hap';exact⟨⟨ok.imm,λ r hr=>ok.held r (h2 r hr),hap'.2.1,λ r hr=>ok.sep r (h2 r hr)⟩,⟨ok.imm,λ r hr=>ok.held r (h1 r hr),hap'.1,λ r hr=>ok.sep r (h1 r hr)⟩⟩
 .rw[Q6]at hl ⊢;obtain⟨r,hr,hl⟩:=hl;exact⟨r,h2 r hr,hl⟩
 .rw[Qy]at hl ⊢;exact hl.imp (λ⟨r,hr,hl⟩=>⟨r,h2 r hr,hl⟩) id
 .rw[Q6]at hl ⊢;obtain⟨r,hr,hl⟩:=hl;exact⟨r,h1 r hr,hl⟩
 .rw[Qy]at hl ⊢;exact hl.imp (λ⟨r,hr,hl⟩=>⟨r,h1 r hr,hl⟩) id
 .obtain⟨r,hr_2,hl⟩:=Q6.1 hl;rcases Qy.1 hr with⟨s,hs,hl'⟩|hI
  .exact Qv.apart_lets (hap.2.2 s hs r hr_2) hl' hl
  .exact noI r l (h2 r hr_2) hl hI
 .obtain⟨r,hr_2,hl⟩:=Q6.1 hl;rcases Qy.1 hr with⟨s,hs,hl'⟩|hI
  .exact Qv.apart_lets (hap.2.2 r hr_2 s hs) hl hl'
  .exact noI r l (h1 r hr_2) hl hI
def Qvp{U:Qa T}{tp tc:T}{w:World}(hw:U.ok w){M₁ M₂:List Qv}(h:Perm U.M (M₁++M₂)):Q64 U ⟨U.I,M₂,tp⟩ ⟨λ _=>none,M₁,tc⟩:=by
 have hf:=Qzc (tp:=tp) (tc:=tc) hw h;have cw:∀l,(Qa.canW ⟨λ _=>none,M₁,tc⟩ l)->(Qa.canW ⟨U.I,M₁,tc⟩ l):=λ l hl=>Q6.2 (Q6.1 hl)
 have cr:∀l,(Qa.canR ⟨λ _=>none,M₁,tc⟩ l)->(Qa.canR ⟨U.I,M₁,tc⟩ l):=by
  intro l hl;rcases Qy.1 hl with hl|hl
  .exact Qy.2 (.inl hl)
  .cases l <;> simp at hl
 exact⟨λ w ok=>⟨(hf.ok w ok).1,⟨λ _ _ h=>(by cases h),(hf.ok w ok).2.held,(hf.ok w ok).2.apart,λ _ _=>rfl⟩⟩,hf.wp,hf.rp,λ l hl=>hf.wc l (cw l hl),λ l hl=>hf.rc l (cr l hl),λ l hl hr=>hf.pc l hl (cr l hr),λ l hl hr=>hf.cp l (cw l hl) hr⟩
end Go.TM
namespace Go.TM
abbrev Spec:=List Qv->Prop
inductive PS where
 |run|seen (u:Nat)|wait|up
inductive Ph where
 |out
 |par (b:Nat) (ds:List Spec) (pend:Bool) (k:PS)
 |wrk (b:Nat) (D:Spec)
 |rel (b:Nat)
 |lst (b:Nat) (i:Nat)
inductive LP where
 |idle|got|own (x:Bool)|rls|unl|unl2|fin|wai|wok
def LP.rels:LP->Bool
 |.rls|.unl|.unl2|.fin=>true
 |_=>false
def LP.isOwn:LP->Bool
 |.own _=>true
 |_=>false
def LP.cls:LP->Nat
 |.idle=>0
 |.fin=>2
 |_=>1
def LP.word:LP->LP->Option (Nat×Nat)
 |.idle,.idle|.idle,.fin|.fin,.idle|.fin,.fin=>some (0,0)
 |.got,.idle|.rls,.idle|.got,.fin|.rls,.fin|.idle,.got|.idle,.rls|.fin,.got|.fin,.rls=>some (1,0)
 |.own x,.idle|.idle,.own x=>if x=false then some (1,0)else none
 |.own x,.fin|.fin,.own x=>if x=true then some (1,0)else none
 |.got,.wai|.rls,.wai|.wai,.got|.wai,.rls=>some (9,0)
 |.own x,.wai|.wai,.own x=>if x=false then some (9,0)else none
 |.unl,.wai|.wai,.unl=>some (8,0)
 |.unl2,.wai|.wai,.unl2=>some (2,0)
 |.fin,.wai|.wai,.fin=>some (2,1)
 |.fin,.wok|.wok,.fin=>some (2,0)
 |_,_=>none
def LP.word_symm(p q:LP):LP.word p q=LP.word q p:=by cases p <;> cases q <;> rfl
structure Mux where
 m:Nat
 t:TypeId
 sp:Bool->Bool->Spec
inductive MuT where
 |par (x:Mux) (u:Bool->Bool)
 |lok (x:Mux) (s:Bool) (me:LP) (lo:Nat)
def MuT.mb:Option MuT->Option Nat
 |some (.par x _)=>some x.m
 |_=>none
structure Tk where
 d:Nat
 ph:Ph
 mu:Option MuT
def Qd2{α:Type _}(f:Bool->α)(s:Bool)(x:α):Bool->α:=λ j=>if j=s then x else f j
def Wa{α:Type _}(f:Bool->α)(s:Bool)(x:α):Qd2 f s x s=x:=by simp[Qd2]
def Qb8{α:Type _}(f:Bool->α){s j:Bool}(x:α)(h:j≠s):Qd2 f s x j=f j:=by simp[Qd2,h]
def Qms{α:Type _}(f:Bool->α)(s:Bool)(x:α):Qd2 f s x (!s)=f (!s):=Qb8 _ _ (by cases s <;> simp)
def Zrx(lp:Bool->LP):Option (Nat×Nat):=LP.word (lp false) (lp true)
def Qcm(lp:Bool->LP)(s:Bool):Zrx lp=LP.word (lp s) (lp (!s)):=by
 cases s
 .rfl
 .exact LP.word_symm _ _
def Mux.dep(x:Mux)(lp:Bool->LP)(M:List Qv):Prop:=x.sp (lp false).rels (lp true).rels M
def Ph.blk:Ph->Option Nat
 |.out=>none
 |.par b ..|.wrk b _|.rel b|.lst b _=>some b
def Qgh:Ph->Bool
 |.wrk ..|.rel _=>true
 |_=>false
def Zr{α:Type _}(f:Nat->α)(i:Nat)(x:α):Nat->α:=λ j=>if j=i then x else f j
def Qk{α:Type _}(f:Nat->α)(i:Nat)(x:α):Zr f i x i=x:=by simp[Zr]
def Qu{α:Type _}(f:Nat->α){i j:Nat}(x:α)(h:j≠i):Zr f i x j=f j:=by simp[Zr,h]
def Qve{α:Type _}(f:Nat->α)(p:α->Bool)(i:Nat)(x:α):∀{W:List Nat},W.Nodup->i∈W->W.countP (λ j=>p (Zr f i x j))+(p (f i)).toNat=W.countP (λ j=>p (f j))+(p x).toNat:=by
 intro W
 induction W with
 |nil=>intro _ h;cases h
 |cons a W ih=>
  intro hn hi;obtain⟨ha,hn⟩:=nodup_cons.1 hn;simp only[countP_cons];by_cases e:a=i
  .subst e
   have:W.countP (λ j=>p (Zr f a x j))=W.countP (λ j=>p (f j)):=by
    refine countP_congr λ j hj=>?_;rw[Qu];intro e;subst e;exact ha hj
   rw[this,Qk];cases p (f a) <;> cases p x <;> simp <;> omega
  .have hi':i∈W:=by simpa[Ne.symm e]using hi
   have:=ih hn hi';rw[Qu _ _ e];omega
def Qvf{α:Type _}(f:Nat->α)(p:α->Bool)(i:Nat)(x:α){W:List Nat}(h:i∉W):W.countP (λ j=>p (Zr f i x j))=W.countP (λ j=>p (f j)):=by
 refine countP_congr λ j hj=>?_;rw[Qu];intro e;subst e;exact h hj
def Qjd(b:Nat)(tk:Nat->Ph):Prop:=∀i j,tk i≠.lst b j
structure GI(N b:Nat)(ds:List Spec)(pend:Bool)(k:PS)(tk:Nat->Ph)(rel:Nat->Option Nat)(dM:Nat->List Qv)(W:List Nat)(c wt s:Nat):Prop where
 nodup:W.Nodup
 len:W.length=ds.length
 spec:∀(j i:Nat)(D:Spec),W[j]?=some i->ds[j]?=some D->(tk i=.wrk b D/\rel i=none)\/((∀D',tk i≠.wrk b D')/\(∃r,rel i=some r)/\D (dM i))
 inW:∀i,(tk i≠.out\/rel i≠none)->i∈W
 cnt:c=W.countP (λ i=>Qgh (tk i))+pend.toNat
 ph:∀i,tk i=.out\/(∃D,tk i=.wrk b D)\/tk i=.rel b\/∃j,tk i=.lst b j
 bound:ds.length+pend.toNat<=N
 state:match k with
  |.run=>wt=0/\s=0/\Qjd b tk
  |.seen u=>c<=u/\wt=0/\s=0/\Qjd b tk
  |.wait=>pend=false/\((1<=c/\wt=1/\s=0/\Qjd b tk)\/(c=0/\∃i0 j0,(∀i j,tk i=.lst b j↔i=i0/\j=j0)/\((j0<=1/\wt=1/\s=0)\/(j0=2/\wt=0/\s=0)))\/(c=0/\wt=0/\s=1/\Qjd b tk))
  |.up=>pend=false/\c=0/\wt=0/\s=0/\Qjd b tk
section
variable{N b:Nat}{ds:List Spec}{pend:Bool}{k:PS}{tk:Nat->Ph}{rel:Nat->Option Nat}{dM:Nat->List Qv}{W:List Nat}{c wt s:Nat}
def GI.cN(h:GI N b ds pend k tk rel dM W c wt s):c<=ds.length+pend.toNat:=by
 rw[h.cnt];have:=countP_le_length (p:=λ i=>Qgh (tk i)) (l:=W);have:=h.len;omega
def GI.start(ho:∀i,tk i=.out)(hr:∀i,rel i=none):GI N b [] false .run tk rel dM [] 0 0 0:=
 ⟨.nil,rfl,λ j i D h=>by simp at h,λ i h=>by simp[ho,hr]at h,rfl,λ i=>.inl (ho i),by simp,rfl,rfl,λ i j e=>by rw[ho]at e;cases e⟩
def GI.add(h:GI N b ds false .run tk rel dM W c wt s)(hN:ds.length<N):GI N b ds true .run tk rel dM W (c+1) wt s:=
 ⟨h.nodup,h.len,h.spec,h.inW,by have:=h.cnt;simp at this ⊢;omega,h.ph,by simp;omega,h.state⟩
def GI.go{i:Nat}{D:Spec}(h:GI N b ds true .run tk rel dM W c wt s)(hi:tk i=.out)(hr:rel i=none)(hW:i∉W) :
  GI N b (D::ds) false .run (Zr tk i (.wrk b D)) rel dM (i::W) c wt s:=by
 refine⟨nodup_cons.2 ⟨hW,h.nodup⟩,by simp[h.len],?_,?_,?_,?_,?_,?_⟩
 .intro j i' D' h1 h2;cases j with
  |zero=>
   simp at h1 h2;subst h1;subst h2;exact .inl ⟨Qk ..,hr⟩
  |succ j=>
   simp at h1 h2;have hm:i'∈W:=mem_of_getElem? h1;have hne:i'≠i:=λ e=>hW (e▸hm);rw[Qu _ _ hne];exact h.spec j i' D' h1 h2
 .intro i' h1;by_cases e:i'=i
  .subst e;simp
  .rw[Qu _ _ e]at h1;exact mem_cons_of_mem _ (h.inW i' h1)
 .rw[countP_cons,Qk,Qvf tk Qgh i _ hW];have:=h.cnt;simp[Qgh]at this ⊢;omega
 .intro i';by_cases e:i'=i
  .subst e;rw[Qk];exact .inr (.inl ⟨D,rfl⟩)
  .rw[Qu _ _ e];exact h.ph i'
 .have:=h.bound;simp at this ⊢;omega
 .obtain⟨h1,h2,h3⟩:=h.state;refine⟨h1,h2,λ i' j=>?_⟩;by_cases e:i'=i
  .subst e;rw[Qk];intro h;cases h
  .rw[Qu _ _ e];exact h3 i' j
def Qg7(ds:List Spec)(u:Nat)(k:PS):Prop:=(k=.run/\u=ds.length)\/k=.seen u
def GI.seeU{u:Nat}(h:GI N b ds false k tk rel dM W c wt s)(hk:Qg7 ds u k):c<=u/\wt=0/\s=0/\Qjd b tk:=by
 have hs:=h.state;rcases hk with⟨rfl,rfl⟩|rfl
 .have:=h.cN;simp at this;exact⟨this,hs⟩
 .exact hs
def GI.toUp{u:Nat}(h:GI N b ds false k tk rel dM W 0 wt s)(hk:Qg7 ds u k):GI N b ds false .up tk rel dM W 0 wt s:=
 ⟨h.nodup,h.len,h.spec,h.inW,h.cnt,h.ph,h.bound,rfl,rfl,(h.seeU hk).2⟩
def GI.toSeen{u:Nat}(h:GI N b ds false k tk rel dM W c wt s)(hk:Qg7 ds u k):GI N b ds false (.seen c) tk rel dM W c wt s:=
 ⟨h.nodup,h.len,h.spec,h.inW,h.cnt,h.ph,h.bound,Nat.le_refl _,(h.seeU hk).2⟩
def GI.toWait{u:Nat}(h:GI N b ds false k tk rel dM W c wt s)(hk:Qg7 ds u k)(hc:1<=c):GI N b ds false .wait tk rel dM W c 1 s:=
 ⟨h.nodup,h.len,h.spec,h.inW,h.cnt,h.ph,h.bound,rfl,.inl ⟨hc,rfl,(h.seeU hk).2.2⟩⟩
def GI.sema(h:GI N b ds pend .wait tk rel dM W c wt 1):GI N b ds false .up tk rel dM W 0 0 0/\c=0/\wt=0/\pend=false:=by
 obtain⟨hp,hs⟩:=h.state;rcases hs with⟨_,_,h3,_⟩|⟨_,i0,j0,_,⟨_,_,h3⟩|⟨_,_,h3⟩⟩|⟨h1,h2,_,h4⟩
 .cases h3
 .cases h3
 .cases h3
 .subst h1;subst h2;subst hp;exact⟨⟨h.nodup,h.len,h.spec,h.inW,h.cnt,h.ph,h.bound,rfl,rfl,rfl,rfl,h4⟩,rfl,rfl,rfl⟩
def GI.up(h:GI N b ds pend .up tk rel dM W c wt s):pend=false/\c=0/\wt=0/\s=0/\(∀i,tk i=.out)/\∀i,i∈W->∃r,rel i=some r:=by
 obtain⟨h1,h2,h3,h4,h5⟩:=h.state
 have hc:∀i∈W,Qgh (tk i)=false:=by
  have:=h.cnt;rw[h2,h1]at this;simp at this;have h0:W.countP (λ i=>Qgh (tk i))=0:=by omega
  intro i hi;have:=countP_eq_zero.1 h0 i hi;simpa using this
 have hout:∀i,tk i=.out:=by
  intro i;rcases h.ph i with e|⟨D,e⟩|e|⟨j,e⟩
  .exact e
  .have:=hc i (h.inW i (.inl (by rw[e];simp)));rw[e]at this;cases this
  .have:=hc i (h.inW i (.inl (by rw[e];simp)));rw[e]at this;cases this
  .exact absurd e (h5 i j)
 refine⟨h1,h2,h3,h4,hout,λ i hi=>?_⟩;obtain⟨j,hj,e⟩:=mem_iff_getElem.1 hi;have hj':j<ds.length:=by rw[<- h.len];exact hj
 rcases h.spec j i ds[j] (by rw[getElem?_eq_getElem hj,e]) (getElem?_eq_getElem hj')with⟨h1,_⟩|⟨_,h2,_⟩
 .rw[hout]at h1;cases h1
 .exact h2
def Qg6:List Spec->List (List Qv)->Prop
 |[],[]=>True
 |D::ds,M::Ms=>D M/\Qg6 ds Ms
 |_,_=>False
def Ze5:∀{ds:List Spec}{W:List Nat},W.length=ds.length->(∀(j i:Nat)(D:Spec),W[j]?=some i->ds[j]?=some D->D (dM i))->Qg6 ds (W.map dM)
 |[],[],_,_=>trivial
 |[],_::_,h,_=>by simp at h
 |_::_,[],h,_=>by simp at h
 |D::ds,i::W,h,hs=>⟨hs 0 i D rfl rfl,Ze5 (by simpa using h) λ j i' D' h1 h2=>hs (j+1) i' D' (by simpa using h1) (by simpa using h2)⟩
def GI.deps(h:GI N b ds pend .up tk rel dM W c wt s):Qg6 ds (W.map dM):=by
 refine Ze5 h.len λ j i D h1 h2=>?_;rcases h.spec j i D h1 h2 with⟨h3,_⟩|⟨_,_,h3⟩
 .rw[h.up.2.2.2.2.1]at h3;cases h3
 .exact h3
def GI.rel_{i r:Nat}{D:Spec}{M:List Qv}(h:GI N b ds pend k tk rel dM W c wt s)(hi:tk i=.wrk b D)(hD:D M) :
  GI N b ds pend k (Zr tk i (.rel b)) (Zr rel i (some r)) (Zr dM i M) W c wt s/\rel i=none:=by
 have hW:i∈W:=h.inW i (.inl (by rw[hi];simp))
 have hrel:rel i=none:=by
  obtain⟨j,hj,e⟩:=mem_iff_getElem.1 hW;have hj':j<ds.length:=by rw[<- h.len];exact hj
  rcases h.spec j i ds[j] (by rw[getElem?_eq_getElem hj,e]) (getElem?_eq_getElem hj')with⟨_,h2⟩|⟨h2,_⟩
  .exact h2
  .exact absurd hi (h2 D)
 have hlst:∀i' j,Zr tk i (.rel b) i'=.lst b j↔tk i'=.lst b j:=by
  intro i' j;by_cases e:i'=i
  .subst e;rw[Qk,hi];simp
  .rw[Qu _ _ e]
 have hno:Qjd b tk->Qjd b (Zr tk i (.rel b)):=λ hn i' j e=>hn i' j ((hlst i' j).1 e);refine⟨⟨h.nodup,h.len,?_,?_,?_,?_,h.bound,?_⟩,hrel⟩
 .intro j i' D' h1 h2;by_cases e:i'=i
  .subst e;refine .inr ⟨λ D'' h=>(by rw[Qk]at h;cases h),⟨r,Qk ..⟩,?_⟩;rw[Qk];rcases h.spec j i' D' h1 h2 with⟨h3,_⟩|⟨h3,_⟩
   .rw[hi]at h3;cases h3;exact hD
   .exact absurd hi (h3 D)
  .rw[Qu _ _ e,Qu _ _ e,Qu _ _ e];exact h.spec j i' D' h1 h2
 .intro i' h1;by_cases e:i'=i
  .subst e;exact hW
  .rw[Qu _ _ e,Qu _ _ e]at h1;exact h.inW i' h1
 .have:=Qve tk Qgh i (.rel b) h.nodup hW;rw[hi]at this;have h2:=h.cnt;simp[Qgh]at this h2 ⊢;omega
 .intro i';by_cases e:i'=i
  .subst e;rw[Qk];exact .inr (.inr (.inl rfl))
  .rw[Qu _ _ e];exact h.ph i'
 .have:=h.state;cases k with
  |run=>exact⟨this.1,this.2.1,hno this.2.2⟩
  |seen u=>exact⟨this.1,this.2.1,this.2.2.1,hno this.2.2.2⟩
  |wait=>
   refine⟨this.1,?_⟩;rcases this.2 with⟨h1,h2,h3,h4⟩|⟨h1,i0,j0,h2,h3⟩|⟨h1,h2,h3,h4⟩
   .exact .inl ⟨h1,h2,h3,hno h4⟩
   .exact .inr (.inl ⟨h1,i0,j0,λ i' j=>(hlst i' j).trans (h2 i' j),h3⟩)
   .exact .inr (.inr ⟨h1,h2,h3,hno h4⟩)
  |up=>exact⟨this.1,this.2.1,this.2.2.1,this.2.2.2.1,hno this.2.2.2.2⟩
def GI.move{i:Nat}{p:Ph}(h:GI N b ds pend k tk rel dM W c wt s)(hi:tk i=.rel b\/∃j,tk i=.lst b j)(hp:p=.out\/∃j,p=.lst b j) :
  i∈W/\(∀(j i':Nat)(D:Spec),W[j]?=some i'->ds[j]?=some D->(Zr tk i p i'=.wrk b D/\rel i'=none)\/((∀D',Zr tk i p i'≠.wrk b D')/\(∃r,rel i'=some r)/\D (dM i'))) /\
  (∀i',(Zr tk i p i'≠.out\/rel i'≠none)->i'∈W)/\(W.countP (λ j=>Qgh (Zr tk i p j))+(Qgh (tk i)).toNat=W.countP (λ j=>Qgh (tk j))) /\
  (∀i',Zr tk i p i'=.out\/(∃D,Zr tk i p i'=.wrk b D)\/Zr tk i p i'=.rel b\/∃j,Zr tk i p i'=.lst b j):=by
 have hW:i∈W:=h.inW i (.inl (by rcases hi with e|⟨j,e⟩ <;> rw[e] <;> simp));have hpw:∀D,p≠.wrk b D:=by rintro D rfl;rcases hp with e|⟨j,e⟩ <;> cases e
 refine⟨hW,?_,?_,?_,?_⟩
 .intro j i' D h1 h2;by_cases e:i'=i
  .subst e;rcases h.spec j i' D h1 h2 with⟨h3,_⟩|⟨_,h3⟩
   .rcases hi with e|⟨j',e⟩ <;> rw[e]at h3 <;> cases h3
   .exact .inr ⟨λ D' h=>hpw D' (by rwa [Qk]at h),h3⟩
  .rw[Qu _ _ e];exact h.spec j i' D h1 h2
 .intro i' h1;by_cases e:i'=i
  .subst e;exact hW
  .rw[Qu _ _ e]at h1;exact h.inW i' h1
 .have:=Qve tk Qgh i p h.nodup hW;have e:Qgh p=false:=by rcases hp with e|⟨j,e⟩ <;> rw[e] <;> rfl
  rw[e]at this;simpa using this
 .intro i';by_cases e:i'=i
  .subst e;rw[Qk];exact hp.elim .inl λ x=>.inr (.inr (.inr x))
  .rw[Qu _ _ e];exact h.ph i'
def GI.relC{i:Nat}(h:GI N b ds pend k tk rel dM W c wt s)(hi:tk i=.rel b):1<=c/\c<=N/\wt<=1/\s=0:=by
 have hW:i∈W:=h.inW i (.inl (by rw[hi];simp))
 have hc:1<=c:=by
  rw[h.cnt];have:0<W.countP (λ i=>Qgh (tk i)):=countP_pos_iff.2 ⟨i,hW,by rw[hi];rfl⟩;omega
 refine⟨hc,Nat.le_trans h.cN h.bound,?_⟩;have:=h.state;cases k with
 |run=>obtain⟨h1,h2,_⟩:=this;omega
 |seen u=>obtain⟨_,h1,h2,_⟩:=this;omega
 |wait=>
  rcases this.2 with⟨_,h2,h3,_⟩|⟨h1,_⟩|⟨h1,_⟩
  .omega
  .omega
  .omega
 |up=>obtain⟨_,h1,_⟩:=this;omega
def GI.leave{i:Nat}(h:GI N b ds pend k tk rel dM W c wt s)(hi:tk i=.rel b)(hn:¬(c=1/\wt=1)) :
  GI N b ds pend k (Zr tk i .out) rel dM W (c-1) wt s:=by
 obtain⟨hc,-,-,hs⟩:=h.relC hi;obtain⟨hW,h1,h2,h3,h4⟩:=h.move (p:=.out) (.inl hi) (.inl rfl)
 have hno:Qjd b tk->Qjd b (Zr tk i .out):=by
  intro hn i' j e;by_cases e':i'=i
  .subst e';rw[Qk]at e;cases e
  .rw[Qu _ _ e']at e;exact hn i' j e
 refine⟨h.nodup,h.len,h1,h2,?_,h4,h.bound,?_⟩
 .have:=h.cnt;rw[hi]at h3;simp only[show Qgh (Ph.rel b)=true from rfl,Bool.toNat_true]at h3;omega
 .have:=h.state;cases k with
  |run=>exact⟨this.1,this.2.1,hno this.2.2⟩
  |seen u=>exact⟨Nat.le_trans (Nat.sub_le _ _) this.1,this.2.1,this.2.2.1,hno this.2.2.2⟩
  |wait=>
   refine⟨this.1,?_⟩;rcases this.2 with⟨_,h5,h6,h7⟩|⟨h5,_⟩|⟨h5,_⟩
   .exact .inl ⟨by omega,h5,h6,hno h7⟩
   .omega
   .omega
  |up=>obtain⟨_,h5,_⟩:=this;omega
def GI.last{i:Nat}(h:GI N b ds pend k tk rel dM W 1 1 s)(hi:tk i=.rel b) :
  k=.wait/\GI N b ds pend .wait (Zr tk i (.lst b 0)) rel dM W 0 1 s:=by
 obtain⟨hc,-,-,hs⟩:=h.relC hi;obtain⟨hW,h1,h2,h3,h4⟩:=h.move (p:=.lst b 0) (.inl hi) (.inr ⟨0,rfl⟩);have hst:=h.state;have hcnt:=h.cnt;cases k with
 |run=>exact absurd hst.1 (by decide)
 |seen u=>exact absurd hst.2.1 (by decide)
 |up=>exact absurd hst.2.1 (by decide)
 |wait=>
  refine⟨rfl,h.nodup,h.len,h1,h2,?_,h4,h.bound,hst.1,?_⟩
  .rw[hi]at h3;simp only[show Qgh (Ph.rel b)=true from rfl,Bool.toNat_true]at h3;omega
  .rcases hst.2 with⟨_,h5,h6,h7⟩|⟨h5,_⟩|⟨h5,_⟩
   .refine .inr (.inl ⟨rfl,i,0,λ i' j=>?_,.inl ⟨by omega,rfl,h6⟩⟩);by_cases e:i'=i
    .subst e;rw[Qk];constructor
     .intro e;cases e;exact⟨rfl,rfl⟩
     .rintro⟨_,rfl⟩;rfl
    .rw[Qu _ _ e];exact⟨λ e'=>absurd e' (h7 i' j),λ e'=>absurd e'.1 e⟩
   .cases h5
   .cases h5
def GI.lstAt{i j:Nat}(h:GI N b ds pend k tk rel dM W c wt s)(hi:tk i=.lst b j) :
  k=.wait/\c=0/\s=0/\((j<=1/\wt=1)\/(j=2/\wt=0))/\∀i' j',tk i'=.lst b j'↔i'=i/\j'=j:=by
 have hst:=h.state;cases k with
 |run=>exact absurd hi (hst.2.2 i j)
 |seen u=>exact absurd hi (hst.2.2.2 i j)
 |up=>exact absurd hi (hst.2.2.2.2 i j)
 |wait=>
  rcases hst.2 with⟨_,_,_,h7⟩|⟨h1,i0,j0,h2,h3⟩|⟨_,_,_,h7⟩
  .exact absurd hi (h7 i j)
  .obtain⟨rfl,rfl⟩:=(h2 i j).1 hi;refine⟨rfl,h1,?_,?_,h2⟩
   .rcases h3 with⟨_,_,h⟩|⟨_,_,h⟩ <;> exact h
   .rcases h3 with⟨a,b,_⟩|⟨a,b,_⟩
    .exact .inl ⟨a,b⟩
    .exact .inr ⟨a,b⟩
  .exact absurd hi (h7 i j)
def GI.next{i j wt':Nat}(h:GI N b ds pend k tk rel dM W c wt s)(hi:tk i=.lst b j)(hj:(j=0/\wt'=1)\/(j=1/\wt'=0)) :
  GI N b ds pend k (Zr tk i (.lst b (j+1))) rel dM W c wt' s:=by
 obtain⟨rfl,h1,h2,h3,h4⟩:=h.lstAt hi;obtain⟨hW,k1,k2,k3,k4⟩:=h.move (p:=.lst b (j+1)) (.inr ⟨j,hi⟩) (.inr ⟨j+1,rfl⟩);refine⟨h.nodup,h.len,k1,k2,?_,k4,h.bound,h.state.1,.inr (.inl ⟨h1,i,j+1,λ i' j'=>?_,?_⟩)⟩
 .have:=h.cnt;rw[hi]at k3;simp only[show ∀j,Qgh (Ph.lst b j)=false from λ _=>rfl,Bool.toNat_false]at k3;omega
 .by_cases e:i'=i
  .subst e;rw[Qk];constructor
   .intro e;cases e;exact⟨rfl,rfl⟩
   .rintro⟨_,rfl⟩;rfl
  .rw[Qu _ _ e,h4];exact⟨λ e'=>absurd e'.1 e,λ e'=>absurd e'.1 e⟩
 .rcases hj with⟨rfl,rfl⟩|⟨rfl,rfl⟩
  .exact .inl ⟨by omega,rfl,h2⟩
  .exact .inr ⟨rfl,rfl,h2⟩
def GI.wake{i:Nat}(h:GI N b ds pend k tk rel dM W c wt s)(hi:tk i=.lst b 2):GI N b ds pend k (Zr tk i .out) rel dM W c wt 1:=by
 obtain⟨rfl,h1,h2,h3,h4⟩:=h.lstAt hi;obtain⟨hW,k1,k2,k3,k4⟩:=h.move (p:=.out) (.inr ⟨2,hi⟩) (.inl rfl);have hwt:wt=0:=by omega
 refine⟨h.nodup,h.len,k1,k2,?_,k4,h.bound,h.state.1,.inr (.inr ⟨h1,hwt,rfl,λ i' j' e=>?_⟩)⟩
 .have:=h.cnt;rw[hi]at k3;simp only[show ∀j,Qgh (Ph.lst b j)=false from λ _=>rfl,Bool.toNat_false]at k3;omega
 .by_cases e':i'=i
  .subst e';rw[Qk]at e;cases e
  .rw[Qu _ _ e']at e;exact e' ((h4 i' j').1 e).1
def GI.someone(h:GI N b ds pend .wait tk rel dM W c wt 0):∃i,tk i≠.out:=by
 obtain⟨hp,hs⟩:=h.state;rcases hs with⟨h1,_,_,_⟩|⟨_,i0,j0,h2,_⟩|⟨_,_,h3,_⟩
 .have:=h.cnt;rw[hp]at this;simp at this;have:0<W.countP (λ i=>Qgh (tk i)):=by omega
  obtain⟨i,_,hi⟩:=countP_pos_iff.1 this;exact⟨i,λ e=>by rw[e]at hi;cases hi⟩
 .exact⟨i0,λ e=>by have:=(h2 i0 j0).2 ⟨rfl,rfl⟩;rw[this]at e;cases e⟩
 .cases h3
end
inductive SE where
 |go (g:Goroutine) (st sm:Value) (es:Array Event) (bs:List (Nat×Bool))
 |spawn (g child:Goroutine) (es:Array Event)
 |blocked (g:Goroutine) (st sm:Value) (bs:List (Nat×Bool))
 |stuck
def Wn(fr:Frame)(cs:List Frame):Goroutine:={ frame:=fr,callers:=cs,status:=.running,dying:=none }
def SE.still(st sm:Value)(fr:Frame)(cs:List Frame):SE:=.go (Wn fr cs) st sm #[] []
def Zrr(fr:Frame):CallKind:=match fr.todo with|.call _ true _ _::_=>.wrapped|_=>.normal
def Qon(P:Program)(d:Deferred):Goroutine:=Wn { (default:Frame)with fn:=P.funcs.size,defers:=[d],mode:=.panicking [goexitEntry] } []
def Zfe:Target->Bool
 |.fn _ _=>true
 |_=>false
def Qv8(P:Program)(fr:Frame)(cs:List Frame)(d:Deferred)(es:Array Event)(bs:List (Nat×Bool)):SE:=
 bif Zfe d.target&&bs.isEmpty then .spawn (Wn (fr.finish undef) cs) (Qon P d) (seen P fr.fn es)else .stuck
def Qe6(P:Program)(fr:Frame)(cs:List Frame):QE Next->SE
 |.ok n st sm es bs=>match fr.kind with
  |.early=>.stuck
  |_=>match n with
   |.value v=>.go (Wn (fr.finish v) cs) st sm (seen P fr.fn es) bs
   |.skip=>.go (Wn (fr.finish undef) cs) st sm (seen P fr.fn es) bs
   |.enter f args=>.go (Wn (Frame.enter P f args (Zrr fr)) (fr::cs)) st sm (seen P fr.fn es) bs
   |.defer d=>.go (Wn ({ fr with defers:=d::fr.defers }.finish undef) cs) st sm (seen P fr.fn es) bs
   |.spawn d=>Qv8 P fr cs d es bs
   |_=>.stuck
 |.blocked st sm bs=>match fr.kind with
  |.early=>.stuck
  |_=>.blocked { frame:=fr,callers:=cs,status:=.blocked,dying:=none } st sm bs
 |.stuck=>.stuck
def Q5u(P:Program)(t:TypeId)(fr:Frame)(cs:List Frame)(st sm:Value):SE:=
 let to (todo:List Item):SE:=.still st sm { fr with todo } cs
 let leave (jump:Option Code):SE:=match fr.roundOf,jump with
  |none,none=>.still st sm { fr with mode:=.returning } cs
  |none,some .ret=>.still st sm { fr with mode:=.returning } cs
  |_,_=>.stuck
 match fr.todo with
 |[]=>leave none
 |.code .ret::_=>leave (some .ret)
 |.code .skip::k|.code (.label _)::k|.inBlock _::k|.inScope _::k=>to k
 |.code (.seq a b)::k=>to (.code a::.code b::k)
 |.code (.cond c thn els)::k=>match fr.eval c with
  |.bool b=>to (.code (if b then thn else els)::k)
  |_=>.stuck
 |.code (.block id body)::k=>to (.code body::.inBlock id::k)
 |.code (.loop body)::k|.inLoop body::k=>to (.code body::.inLoop body::k)
 |.code (.scope body)::k=>to (.code body::.inScope body::k)
 |.code (.exit id)::k=>match exitTo id k with
  |some k'=>to k'
  |none=>.stuck
 |.code (.region _ ops false)::k=>to (.inRegion ops (range ops.size)::k)
 |.inRegion _ []::k=>to k
 |.inRegion ops (i::_)::_=>match ops[i]? with
  |some o=>(match Region.wanted o (yielded ops fr.tmps)with
   |true=>(match fr.roundOf with
    |none=>Qe6 P fr cs (evT P t (execOp fr.eval o) st sm #[] [])
    |some _=>.stuck)
   |false=>.still st sm (fr.finish undef) cs)
  |none=>.stuck
 |_=>.stuck
def Zof(m:Bool)(fr:Frame)(cs:List Frame)(v:Value)(st sm:Value)(es:Array Event)(bs:List (Nat×Bool)):SE:=
 match cs with
 |c::rest=>(match fr.kind with
  |.normal=>.go (Wn (c.finish v) rest) st sm es bs
  |.deferred=>.go (Wn (match c.mode with
    |.panicking ({ recovered:=true,.. }::older)=>
     match older.dropWhile (!·.goexit)with
     |[]=>{ c with mode:=.returning }
     |rest=>{ c with mode:=.panicking rest }
    |_=>c) rest) st sm es bs
  |_=>.stuck)
 |[]=>(match m,fr.kind with
  |false,.normal=>.go { frame:=fr,callers:=[],status:=.finished,dying:=none } st sm es bs
  |_,_=>.stuck)
def Ziy(P:Program)(fr:Frame)(ds:List Deferred)(cs:List Frame):QE Next->SE
 |.ok n st sm es bs=>(match n with
  |.enter f args=>.go (Wn (Frame.enter P f args .deferred) ({ fr with defers:=ds }::cs)) st sm (seen P fr.fn es) bs
  |.value _=>.go (Wn { fr with defers:=ds } cs) st sm (seen P fr.fn es) bs
  |_=>.stuck)
 |_=>.stuck
def Zjg(P:Program)(m:Bool)(fr:Frame)(cs:List Frame):QE Value->SE
 |.ok v st sm es bs=>Zof m fr cs v st sm (seen P fr.fn es) bs
 |_=>.stuck
def Qmr(P:Program)(t:TypeId)(m:Bool)(fr:Frame)(cs:List Frame)(st sm:Value):SE:=
 match fr.defers with
 |d::ds=>(match d.target with
  |.fn _ _=>Ziy P fr ds cs (evT P t (invoke d.target d.args) st sm #[] [])
  |_=>.stuck)
 |[]=>(match fr.mode with
  |.returning=>(match P.funcs[fr.fn]? with
   |some fn=>Zjg P m fr cs (evT P t (results fn fr.tmps) st sm #[] [])
   |none=>.stuck)
  |.panicking chain=>(match cs,fr.todo,P.funcs[fr.fn]?,chain with
   |[],[],none,e::_=>(match e.goexit with
    |true=>.go { frame:=fr,callers:=[],status:=.finished,dying:=none } st sm #[] []
    |false=>.stuck)
   |_,_,_,_=>.stuck)
  |.run=>.stuck)
def Qc(P:Program)(t:TypeId)(m:Bool)(g:Goroutine)(st sm:Value):SE:=
 match g.status with
 |.running=>(match g.dying with
  |some _=>.stuck
  |none=>(match g.frame.mode with
   |.run=>Q5u P t g.frame g.callers st sm
   |_=>Qmr P t m g.frame g.callers st sm))
 |_=>.stuck
def Q15(s:GStep)(W:Value->Value->World)(ok:List (Nat×Bool)->Prop)(w:World):SE->Prop
 |.go g' st' sm' es bs=>ok bs->s=.go g' (W st' sm') es
 |.spawn g' c es=>s=.spawn g' c w es
 |.blocked g' st' sm' bs=>ok bs->s=.go g' (W st' sm') #[]
 |.stuck=>True
set_option linter.unusedVariables false
variable{P:Program}{m:Bool}{t:TypeId}{w:World}{st sm:Value}{W:Value->Value->World}{ok:List (Nat×Bool)->Prop}
def Qv4(P:Program)(f:FuncId):seen P f #[]=#[]:=by simp[seen]
def Q0y{fr:Frame}{cs:List Frame}{s:Sem Next}(hs:Env P t st sm w W ok) :
  Q15 (stepG.apply P true fr cs none s w) W ok w (Qe6 P fr cs (evT P t s st sm #[] [])):=by
 have h:=hs.ran s;have hfree:=@Q5r P t _ s st sm #[] [];generalize evT P t s st sm #[] []=r at h hfree;cases r with
 |ok n st' sm' es bs=>
  simp only[Qe6];split
  .trivial
  .rename_i hk
   have hk':(fr.kind==CallKind.early)=false:=by
    cases hh:fr.kind <;> first|rfl|exact absurd hh (by simpa using hk)
   cases n with
   |value v=>
    intro hb;have h2:=h hb;simp only[stepG.apply,if_true,h2,hk',Bool.false_eq_true,if_false,GStep.after,Wn,Array.append_empty]
   |skip=>
    intro hb;have h2:=h hb;simp only[stepG.apply,if_true,h2,hk',Bool.false_eq_true,if_false,GStep.after,Wn,Array.append_empty]
   |enter f args=>
    intro hb;have h2:=h hb;simp only[stepG.apply,if_true,h2,hk',Bool.false_eq_true,if_false,GStep.after,Wn,Array.append_empty,Zrr];rfl
   |defer d=>
    intro hb;have h2:=h hb;simp only[stepG.apply,if_true,h2,hk',Bool.false_eq_true,if_false,GStep.after,Wn,Array.append_empty]
   |spawn d=>
    show Q15 _ W ok w (Qv8 P fr cs d es bs);unfold Qv8;cases hd:Zfe d.target&&bs.isEmpty with
    |true=>
     simp only[Bool.and_eq_true,isEmpty_iff]at hd;obtain⟨hd,rfl⟩:=hd;obtain⟨⟨rfl,rfl⟩,-⟩:=(hfree rfl).2 rfl;have h3:=h hs.nil;rw[hs.same]at h3;cases ht:d.target <;> rw[ht]at hd <;> first|cases hd|skip
     simp only[cond_true,Q15,stepG.apply,if_true,h3,hk',Bool.false_eq_true,if_false,ht,Bool.and_false,Bool.false_and,GStep.after,Wn,Array.append_empty,Qon]
    |false=>trivial
   |_=>trivial
 |blocked st' sm' bs=>
  simp only[Qe6];split
  .trivial
  .rename_i hk
   have hk':(fr.kind==CallKind.early)=false:=by
    cases hh:fr.kind <;> first|rfl|exact absurd hh (by simpa using hk)
   intro hb;obtain⟨es',h2⟩:=h hb;simp only[stepG.apply,if_true,h2,hk',Bool.false_eq_true,if_false,Qv4,GStep.after,Array.append_empty]
 |stuck=>trivial
def Zw{fr:Frame}{cs:List Frame}{s:GStep}(hs:Env P t st sm w W ok)(h:s=.go (Wn fr cs) w):Q15 s W ok w (.still st sm fr cs):=by
 intro _;rw[hs.same];exact h
def Q5v{fr:Frame}{cs:List Frame}{status:GoStatus}{offers:Option (Array CommCase×CommShape)}(hm:fr.mode=.run)(hs:Env P t st sm w W ok) :
  Q15 (stepG P m { frame:=fr,callers:=cs,status,dying:=none,offers } w) W ok w (Q5u P t fr cs st sm):=by
 have e:stepG P m { frame:=fr,callers:=cs,status,dying:=none,offers } w=stepG.exec P m true fr cs none w:=by
  simp only[stepG,hm]
 rw[e];unfold Q5u;simp only;split
 .rename_i ht;cases hr:fr.roundOf with
  |none=>exact Zw hs (by simp[stepG.exec,ht,hr,Wn])
  |some l=>trivial
 .rename_i k ht;cases hr:fr.roundOf with
  |none=>exact Zw hs (by simp[stepG.exec,ht,hr,Wn])
  |some l=>trivial
 .rename_i k ht;exact Zw hs (by simp[stepG.exec,ht,Wn])
 .rename_i k ht;exact Zw hs (by simp[stepG.exec,ht,Wn])
 .rename_i k ht;exact Zw hs (by simp[stepG.exec,ht,Wn])
 .rename_i k ht;exact Zw hs (by simp[stepG.exec,ht,Wn])
 .rename_i x y k ht;exact Zw hs (by simp[stepG.exec,ht,Wn])
 .rename_i c x y k ht;split
  .rename_i bb hb;exact Zw hs (by simp[stepG.exec,ht,hb,Wn])
  .trivial
 .rename_i id body k ht;exact Zw hs (by simp[stepG.exec,ht,Wn])
 .rename_i body k ht;exact Zw hs (by simp[stepG.exec,ht,Wn])
 .rename_i body k ht;exact Zw hs (by simp[stepG.exec,ht,Wn])
 .rename_i body k ht;exact Zw hs (by simp[stepG.exec,ht,Wn])
 .rename_i id k ht;split
  .rename_i k' hk;exact Zw hs (by simp[stepG.exec,ht,hk,Wn])
  .trivial
 .rename_i id ops k ht;exact Zw hs (by simp[stepG.exec,ht,Wn])
 .rename_i ops k ht;exact Zw hs (by simp[stepG.exec,ht,Wn])
 .rename_i ops i rest k ht;split
  .rename_i o ho;split
   .rename_i hw;split
    .rename_i hr
     have e2:stepG.exec P m true fr cs none w=stepG.apply P true fr cs none (execOp fr.eval o) w:=by
      simp[stepG.exec,ht,ho,hw,stepG.oper,Frame.oper?,hr]
     rw[e2];exact Q0y hs
    .trivial
   .rename_i hw;exact Zw hs (by simp[stepG.exec,ht,ho,hw,Wn])
  .trivial
 .trivial
def Qv3{fr:Frame}{cs:List Frame}{v:Value}{es:Array Event}{bs:List (Nat×Bool)}{st' sm':Value} :
  Q15 (GStep.after es (doReturn P m fr cs none v (W st' sm'))) W ok w (Zof m fr cs v st' sm' es bs):=by
 unfold Zof;split
 .rename_i c rest;split
  .rename_i hk;intro _;simp only[doReturn,hk,GStep.after,Wn,Array.append_empty]
  .rename_i hk;intro _;simp only[doReturn,hk,GStep.after,Wn,Array.append_empty];rfl
  .trivial
 .split
  .rename_i hk;intro _;simp only[doReturn,hk,GStep.after,Array.append_empty,Bool.not_false,if_true]
  .trivial
def Qxj{fr:Frame}{cs:List Frame}{status:GoStatus}{offers:Option (Array CommCase×CommShape)}(hm:fr.mode≠.run)(hs:Env P t st sm w W ok) :
  Q15 (stepG P m { frame:=fr,callers:=cs,status,dying:=none,offers } w) W ok w (Qmr P t m fr cs st sm):=by
 have e:stepG P m { frame:=fr,callers:=cs,status,dying:=none,offers } w=unwind P m fr cs none w:=by
  cases hh:fr.mode with
  |run=>exact absurd hh hm
  |_=>simp only[stepG,hh]
 rw[e];unfold Qmr;split
 .rename_i d ds hd;split
  .rename_i fn capt ht;have h:=hs.ran (invoke d.target d.args)
   have e2:unwind P m fr cs none w=callDeferred P { fr with defers:=ds } cs none d w:=by
    obtain⟨tg,ag⟩:=d;cases ht;simp only[unwind,hd]
   rw[e2];generalize evT P t (invoke d.target d.args) st sm #[] []=r at h;cases r with
   |ok n st' sm' es bs=>
    simp only[Ziy];cases n with
    |enter f args=>
     intro hb;have h2:=h hb;rw[ht]at h2;simp only[callDeferred,ht,Bool.false_and,Bool.false_eq_true,if_false,h2,GStep.after,Wn,Array.append_empty]
    |value v=>
     intro hb;have h2:=h hb;rw[ht]at h2;simp only[callDeferred,ht,Bool.false_and,Bool.false_eq_true,if_false,h2,GStep.after,Wn,Array.append_empty]
    |_=>trivial
   |_=>trivial
  .trivial
 .rename_i hd;split
  .rename_i hmo;split
   .rename_i fn hf;have h:=hs.ran (results fn fr.tmps);generalize evT P t (results fn fr.tmps) st sm #[] []=r at h;cases r with
    |ok v st' sm' es bs=>
     simp only[Zjg];by_cases hb:ok bs
     .have h2:=h hb
      have e2:unwind P m fr cs none w=GStep.after (seen P fr.fn es) (doReturn P m fr cs none v (W st' sm')):=by
       simp only[unwind,hd,hmo,hf,h2]
      rw[e2];exact Qv3
     .have:=Qv3 (P:=P) (m:=m) (W:=W) (ok:=ok) (w:=w) (fr:=fr) (cs:=cs) (v:=v) (es:=seen P fr.fn es) (bs:=bs) (st':=st') (sm':=sm');unfold Zof at this ⊢;split <;> split <;> first|exact(λ h'=>absurd h' hb)|trivial
    |_=>trivial
   .trivial
  .rename_i chain hmo;split
   .rename_i e' tl ht hf;split
    .rename_i hg;intro _;rw[hs.same];simp[unwind,hd,hmo,Frame.catches,ht,hf,hg]
    .trivial
   .trivial
  .trivial
def Qe3{g:Goroutine}(hs:Env P t st sm w W ok):Q15 (stepG P m g w) W ok w (Qc P t m g st sm):=by
 obtain⟨fr,cs,status,dying,offers⟩:=g;unfold Qc;cases status <;> try trivial
 cases dying with
 |some d=>trivial
 |none=>
  simp only;cases hm:fr.mode with
  |run=>exact Q5v hm hs
  |_=>exact Qxj (by rw[hm];intro h;cases h) hs
end Go.TM
namespace Go.TM
variable{P:Program}{m:Bool}{t:TypeId}
def Qkf{g g':Goroutine}{st sm st' sm':Value}{es:Array Event}(h:Qc P t m g st sm=.go g' st' sm' es [])(w:World):stepG P m g w=.go g' w es:=by
 have:=Qe3 (g:=g) (m:=m) (Env.calm (P:=P) (t:=t) (st:=st) (sm:=sm) (w:=w));rw[h]at this;exact this rfl
def Qcl{g g':Goroutine}{st sm st' sm':Value}{es:Array Event}{bs:List (Nat×Bool)}{b:Nat}{w:World}(h:Qc P t m g st sm=.go g' st' sm' es bs)(hs:Sh b t st sm w)
  (hb:∀y∈bs,y.1=b):stepG P m g w=.go g' (two w b t st' sm') es:=by
 have:=Qe3 (g:=g) (m:=m) (Env.sh (P:=P) hs);rw[h]at this;exact this hb
def Qjs{g g':Goroutine}{st sm st' sm':Value}{bs:List (Nat×Bool)}{b:Nat}{w:World}(h:Qc P t m g st sm=.blocked g' st' sm' bs)(hs:Sh b t st sm w)
  (hb:∀y∈bs,y.1=b):stepG P m g w=.go g' (two w b t st' sm') #[]:=by
 have:=Qe3 (g:=g) (m:=m) (Env.sh (P:=P) hs);rw[h]at this;exact this hb
def Q6t{g g' c:Goroutine}{st sm:Value}{es:Array Event}(h:Qc P t m g st sm=.spawn g' c es)(w:World):stepG P m g w=.spawn g' c w es:=by
 have:=Qe3 (g:=g) (m:=m) (Env.calm (P:=P) (t:=t) (st:=st) (sm:=sm) (w:=w));rw[h]at this;exact this
def Qro(f:Value->Value->SE):Prop:=∀st sm g' st' sm' es bs,f st sm=.go g' st' sm' es bs->(bs.all (!·.2))=true->(st'=st/\sm'=sm)/\∀st2 sm2,f st2 sm2=.go g' st2 sm2 es bs
def Qro.still{fr:Frame}{cs:List Frame}:Qro λ st sm=>.still st sm fr cs:=by
 intro st sm g' st' sm' es bs h _;simp only[SE.still,SE.go.injEq]at h;obtain⟨rfl,rfl,rfl,rfl,rfl⟩:=h;exact⟨⟨rfl,rfl⟩,λ _ _=>rfl⟩
def Qro.stuck:Qro λ _ _=>.stuck:=by intro st sm g' st' sm' es bs h;cases h
def Qro.of{α:Type}{s:Sem α}{F:QE α->SE}(hF:∀r g' st' sm' es bs,F r=.go g' st' sm' es bs->∃x e_0,r=.ok x st' sm' e_0 bs/\∀st2 sm2,F (.ok x st2 sm2 e_0 bs)=.go g' st2 sm2 es bs) :
  Qro λ st sm=>F (evT P t s st sm #[] []):=by
 intro st sm g' st' sm' es bs h hb;obtain⟨x,e_0,hr,h2⟩:=hF _ _ _ _ _ _ h;obtain⟨-,h3⟩:=Q5r s hr;obtain⟨h4,h5⟩:=h3 hb;exact⟨h4,λ st2 sm2=>by simp only[h5 st2 sm2,h2]⟩
def Zdm{fr:Frame}{cs:List Frame}(r:QE Next)(g':Goroutine)(st' sm':Value)(es:Array Event)(bs:List (Nat×Bool))(h:Qe6 P fr cs r=.go g' st' sm' es bs) :
  ∃x e_0,r=.ok x st' sm' e_0 bs/\∀st2 sm2,Qe6 P fr cs (.ok x st2 sm2 e_0 bs)=.go g' st2 sm2 es bs:=by
 cases r with
 |ok n st sm e_0 bs0=>
  simp only[Qe6]at h ⊢;split at h
  .cases h
  .cases n <;> simp only[SE.go.injEq,reduceCtorEq]at h
   case spawn d=>unfold Qv8 at h;cases hh:Zfe d.target&&bs0.isEmpty <;> rw[hh]at h <;> cases h
   all_goals(obtain⟨rfl,rfl,rfl,rfl,rfl⟩:=h;exact⟨_,_,rfl,λ _ _=>rfl⟩)
 |blocked st sm bs0=>simp only[Qe6]at h;split at h <;> cases h
 |stuck=>cases h
def Znl{fr:Frame}{ds:List Deferred}{cs:List Frame}(r:QE Next)(g':Goroutine)(st' sm':Value)(es:Array Event)(bs:List (Nat×Bool))(h:Ziy P fr ds cs r=.go g' st' sm' es bs) :
  ∃x e_0,r=.ok x st' sm' e_0 bs/\∀st2 sm2,Ziy P fr ds cs (.ok x st2 sm2 e_0 bs)=.go g' st2 sm2 es bs:=by
 cases r with
 |ok n st sm e_0 bs0=>
  simp only[Ziy]at h ⊢;cases n <;> simp only[SE.go.injEq,reduceCtorEq]at h
  all_goals(obtain⟨rfl,rfl,rfl,rfl,rfl⟩:=h;exact⟨_,_,rfl,λ _ _=>rfl⟩)
 |_=>cases h
def Zod{fr:Frame}{cs:List Frame}(r:QE Value)(g':Goroutine)(st' sm':Value)(es:Array Event)(bs:List (Nat×Bool))(h:Zjg P m fr cs r=.go g' st' sm' es bs) :
  ∃x e_0,r=.ok x st' sm' e_0 bs/\∀st2 sm2,Zjg P m fr cs (.ok x st2 sm2 e_0 bs)=.go g' st2 sm2 es bs:=by
 cases r with
 |ok v st sm e_0 bs0=>
  simp only[Zjg,Zof]at h ⊢;split at h
  .split at h
   .simp only[SE.go.injEq]at h;obtain⟨rfl,rfl,rfl,rfl,rfl⟩:=h;exact⟨_,_,rfl,λ _ _=>rfl⟩
   .simp only[SE.go.injEq]at h;obtain⟨rfl,rfl,rfl,rfl,rfl⟩:=h;exact⟨_,_,rfl,λ _ _=>rfl⟩
   .cases h
  .split at h
   .simp only[SE.go.injEq]at h;obtain⟨rfl,rfl,rfl,rfl,rfl⟩:=h;exact⟨_,_,rfl,λ _ _=>rfl⟩
   .cases h
 |_=>cases h
def Q1t{fr:Frame}{cs:List Frame}:Qro (Qmr P t m fr cs):=by
 unfold Qmr;split
 .split
  .exact Qro.of (F:=Ziy P fr _ cs) Znl
  .exact .stuck
 .split
  .split
   .exact Qro.of (F:=Zjg P m fr cs) Zod
   .exact .stuck
  .split
   .split
    .intro st sm g' st' sm' es bs h _;simp only[SE.go.injEq]at h;obtain⟨rfl,rfl,rfl,rfl,rfl⟩:=h;exact⟨⟨rfl,rfl⟩,λ _ _=>rfl⟩
    .exact .stuck
   .exact .stuck
  .exact .stuck
def Qwa{g:Goroutine}:Qro (Qc P t m g):=by
 obtain⟨fr,cs,status,dying,offers⟩:=g;unfold Qc;cases status <;> try exact .stuck
 cases dying with
 |some d=>exact .stuck
 |none=>
  simp only;cases fr.mode with
  |run=>
   unfold Q5u;simp only;split
   .split <;> first|exact .still|exact .stuck
   .split <;> first|exact .still|exact .stuck
   .exact .still
   .exact .still
   .exact .still
   .exact .still
   .exact .still
   .split <;> first|exact .still|exact .stuck
   .exact .still
   .exact .still
   .exact .still
   .exact .still
   .split <;> first|exact .still|exact .stuck
   .exact .still
   .exact .still
   .split
    .split
     .split
      .exact Qro.of (F:=Qe6 P fr cs) Zdm
      .exact .stuck
     .exact .still
    .exact .stuck
   .exact .stuck
  |_=>exact Q1t
def SE.get(d:Goroutine):SE->Goroutine
 |.go g _ _ _ _=>g
 |_=>d
def Qn{g g':Goroutine}{st sm st' sm':Value}{es:Array Event}{bs:List (Nat×Bool)}(h:Qc P t m g st sm=.go g' st' sm' es bs):g.status=.running:=by
 unfold Qc at h;split at h
 .assumption
 .cases h
end Go.TM
namespace Go.TM
open Go.Conc (QuitsD)
def Q1(c wt:Nat):Value:=.int .u64 ((c*4294967296+wt:Nat):Int)
def Qp(s:Nat):Value:=.int .u32 (s:Int)
def Z5(m:Mark):Event:=⟨.mark m,false,true⟩
def Jg(b o:Nat):Event:=⟨.cell ⟨b,o,none⟩,false,true⟩
def evW(b o:Nat):Event:=⟨.cell ⟨b,o,none⟩,true,true⟩
def Jb(b:Nat)(bs:List (Nat×Bool)):Prop:=∀y∈bs,y.1=b
def Qa.at(U:Qa Tk)(d:Nat)(p:Ph):Qa Tk:={ U with tok:=⟨d,p,U.tok.mu⟩ }
def Qa.at_self{U:Qa Tk}{d:Nat}{p:Ph}{mu:Option MuT}(h:U.tok=⟨d,p,mu⟩):U.at d p=U:=by
 obtain⟨I,M,tok⟩:=U;simp only at h;subst h;rfl
def Ze(s:Nat):Value:=.int .i32 (s:Int)
def Qa.lk(U:Qa Tk)(d b:Nat)(D:Spec)(x:Mux)(s:Bool)(me:LP)(lo:Nat):Qa Tk:={ U with tok:=⟨d,.wrk b D,some (.lok x s me lo)⟩ }
def Qa.lk_self{U:Qa Tk}{d b:Nat}{D:Spec}{x:Mux}{s:Bool}{me:LP}{lo:Nat}(h:U.tok=⟨d,.wrk b D,some (.lok x s me lo)⟩):U.lk d b D x s me lo=U:=by
 obtain⟨I,M,tok⟩:=U;simp only at h;subst h;rfl
def Zf6(m:Nat)(e:Event):Prop:=Event.mute e=true\/∃o wr,o<2/\e=⟨.cell ⟨m,o,none⟩,wr,true⟩
def Zpa(mu mu' mc:Option MuT):Prop:=(mu'=mu/\mc=none)\/∃x u s,mu=some (.par x u)/\u s=false/\mu'=some (.par x (Qd2 u s true))/\mc=some (.lok x s .idle 0)
def Tl(P:Program)(t:TypeId)(N b:Nat):Nat->Nat->Ph->Goroutine->Prop
 |0,_,_,_=>False
 |n+1,d,p,g=>g.status=.running /\
  ((∃g' es bs,(∀e∈es,Event.mute e=true)/\Jb b bs/\(∀st sm,Qc P t false g st sm=.go g' st sm es bs)/\Tl P t N b n (deafBehind d es) p g') \/
   (p=.rel b/\d=1/\∀c wt,1<=c->c<=N->wt<=1->∃g' bs,Jb b bs/\Qc P t false g (Q1 c wt) (Qp 0)=.go g' (Q1 (c-1) wt) (Qp 0) #[Jg b 0,evW b 0] bs /\
    (if c=1/\wt=1 then Tl P t N b n 1 (.lst b 0) g' else QuitsD P n 1 g')) \/
   (p=.lst b 0/\d=1/\∃g' bs,Jb b bs/\Qc P t false g (Q1 0 1) (Qp 0)=.go g' (Q1 0 1) (Qp 0) #[Jg b 0] bs/\Tl P t N b n 1 (.lst b 1) g') \/
   (p=.lst b 1/\d=1/\∃g' bs,Jb b bs/\Qc P t false g (Q1 0 1) (Qp 0)=.go g' (Q1 0 0) (Qp 0) #[evW b 0] bs/\Tl P t N b n 1 (.lst b 2) g') \/
   (p=.lst b 2/\d=1/\mayWake P g=true/\∃g' bs,Jb b bs/\Qc P t false g (Q1 0 0) (Qp 0)=.go g' (Q1 0 0) (Qp 1) #[Z5 .disable,Jg b 1,evW b 1,Z5 .enable] bs/\QuitsD P n 1 g'))
inductive Syn(P:Program)(t:TypeId)(N:Nat)(X:Stp Tk):Stp Tk
 |quiet {m g U b bs g'} (hs:g.status=.running) (hb:U.tok.ph.blk=some b) (h:∀st sm,Qc P t m g st sm=.go g' st sm #[] bs) (hbs:Jb b bs) (k:X m g' U):Syn P t N X m g U
 |dis {mu m g U b ds pend k_0 bs g' d} (hs:g.status=.running) (ht:U.tok=⟨d,.par b ds pend k_0,mu⟩) (h:∀st sm,Qc P t m g st sm=.go g' st sm #[Z5 .disable] bs) (hbs:Jb b bs)
   (k:X m g' (U.at (d+1) (.par b ds pend k_0))):Syn P t N X m g U
 |ena {mu m g U b ds pend k_0 bs g' d} (hs:g.status=.running) (ht:U.tok=⟨d+1,.par b ds pend k_0,mu⟩) (h:∀st sm,Qc P t m g st sm=.go g' st sm #[Z5 .enable] bs) (hbs:Jb b bs)
   (k:X m g' (U.at d (.par b ds pend k_0))):Syn P t N X m g U
 |add {mu m g U b ds} (hs:g.status=.running) (ht:U.tok=⟨1,.par b ds false .run,mu⟩) (hN:ds.length<N)
   (h:∀c,c<=ds.length->∃g' bs,Qc P t m g (Q1 c 0) (Qp 0)=.go g' (Q1 (c+1) 0) (Qp 0) #[Jg b 0,evW b 0] bs/\Jb b bs/\X m g' (U.at 1 (.par b ds true .run))):Syn P t N X m g U
 |said {mu m g U b ds pend k bs g' wr} (hs:g.status=.running) (ht:U.tok=⟨1,.par b ds pend k,mu⟩)
   (h:∀st sm,Qc P t m g st sm=.go g' st sm #[Z5 (bif wr then .write ⟨b,1,none⟩else .read ⟨b,1,none⟩)] bs) (hbs:Jb b bs) (k:X m g' U):Syn P t N X m g U
 |look {mu m g U b ds k_0 u} (hs:g.status=.running) (ht:U.tok=⟨1,.par b ds false k_0,mu⟩) (hk:Qg7 ds u k_0)
   (h:∀c,c<=u->∃g' bs,Jb b bs /\
    ((Qc P t m g (Q1 c 0) (Qp 0)=.go g' (Q1 c 0) (Qp 0) #[Jg b 0] bs/\(X m g' (U.at 1 (.par b ds false (.seen c)))\/(c=0/\X m g' (U.at 1 (.par b ds false .up))))) \/
     (1<=c/\Qc P t m g (Q1 c 0) (Qp 0)=.go g' (Q1 c 1) (Qp 0) #[Jg b 0,evW b 0] bs/\X m g' (U.at 1 (.par b ds false .wait))))):Syn P t N X m g U
 |sema {mu m g U b ds} (hs:g.status=.running) (ho:g.offers=none) (ht:U.tok=⟨1,.par b ds false .wait,mu⟩)
   (h0:∀st,∃bs,Jb b bs/\Qc P t m g st (Qp 0)=.blocked { g with status:=.blocked } st (Qp 0) bs)
   (h1:∃g' bs,Jb b bs/\Qc P t m g (Q1 0 0) (Qp 1)=.go g' (Q1 0 0) (Qp 0) #[Z5 .disable,Jg b 1,evW b 1,Z5 .enable] bs/\X m g' (U.at 1 (.par b ds false .up))):Syn P t N X m g U
 |look2 {mu m g U b ds bs g'} (hs:g.status=.running) (ht:U.tok=⟨1,.par b ds false .up,mu⟩) (hbs:Jb b bs)
   (h:Qc P t m g (Q1 0 0) (Qp 0)=.go g' (Q1 0 0) (Qp 0) #[Jg b 0] bs) (k:X m g' U):Syn P t N X m g U
 |acq {m g U b ds bs g'} (hs:g.status=.running) (ht:U.tok=⟨0,.par b ds false .up,none⟩) (hbs:Jb b bs)
   (h:∀st sm,Qc P t m g st sm=.go g' st sm #[Z5 (.acquire ⟨b,0,none⟩)] bs) (k:∀Ms,Qg6 ds Ms->X m g' ((U.with Ms.flatten).at 0 .out)):Syn P t N X m g U
 |acqM {m g U b ds bs g' x u} (hs:g.status=.running) (ht:U.tok=⟨0,.par b ds false .up,some (.par x u)⟩) (hbs:Jb b bs)
   (h:∀st sm,Qc P t m g st sm=.go g' st sm #[Z5 (.acquire ⟨b,0,none⟩)] bs) (k:∀Ms M,Qg6 ds Ms->x.sp (u false) (u true) M->X m g' { U with M:=(U.M++Ms.flatten)++M,tok:=⟨0,.out,none⟩ }):Syn P t N X m g U
 |make {m g U b M₁ M₂} (ht:U.tok=⟨0,.out,none⟩) (hM:U.M=M₁++.obj b (.cells #[Q1 0 0,Qp 0] t (0,0))::M₂) (k:X m g { U with M:=M₁++M₂,tok:=⟨0,.par b [] false .run,none⟩ }):Syn P t N X m g U
 |makeM {m g U b x M₁ M₂} (ht:U.tok=⟨0,.par b [] false .run,none⟩) (hM:U.M=.obj x.m (.cells #[Ze 0,Qp 0] x.t (0,0))::(M₁++M₂)) (hD:x.sp false false M₁)
   (k:X m g { U with M:=M₂,tok:=⟨0,.par b [] false .run,some (.par x λ _=>false)⟩ }):Syn P t N X m g U
 |mu {m g U b D x s me lo d} (hs:g.status=.running) (ht:U.tok=⟨d,.wrk b D,some (.lok x s me lo)⟩)
   (h:∀q st sm,lo<=q.cls->LP.word me q=some (st,sm)->∃g' bs es me' st' sm' d' lo',lo'<=q.cls/\Jb x.m bs/\Qc P x.t m g (Ze st) (Qp sm)=.go g' (Ze st') (Qp sm') es bs/\LP.word me' q=some (st',sm')/\me.cls<=me'.cls/\me'.rels=me.rels /\
    me.isOwn=me'.isOwn/\(me.isOwn=true->me'=me)/\(∀e∈es,Zf6 x.m e)/\deafBehind d es=d'/\(sm'=sm\/sm'=0\/mayWake P g=true)/\X m g' (U.lk d' b D x s me' lo')):Syn P t N X m g U
 |mblk {m g U b D x s lo d} (hs:g.status=.running) (ho:g.offers=none) (ht:U.tok=⟨d,.wrk b D,some (.lok x s .wai lo)⟩)
   (h0:∀st,∃bs,Jb x.m bs/\Qc P x.t m g st (Qp 0)=.blocked { g with status:=.blocked } st (Qp 0) bs)
   (h1:∃g' bs,Jb x.m bs/\Qc P x.t m g (Ze 2) (Qp 1)=.go g' (Ze 2) (Qp 0) #[Z5 .disable,Jg x.m 1,evW x.m 1,Z5 .enable] bs/\X m g' (U.lk d b D x s .wok 2)):Syn P t N X m g U
 |macq {m g U b D x s lo bs g'} (hs:g.status=.running) (ht:U.tok=⟨0,.wrk b D,some (.lok x s .got lo)⟩) (hbs:Jb x.m bs)
   (h:∀st sm,Qc P x.t m g st sm=.go g' st sm #[Z5 (.acquire ⟨x.m,0,none⟩)] bs)
   (k:∀v M,(x.sp (if s then v else false) (if s then false else v)) M->X m g' { U with M:=U.M++M,tok:=⟨0,.wrk b D,some (.lok x s (.own v) lo)⟩ }):Syn P t N X m g U
 |mrel {m g U b D x s lo v bs g' M₁ M₂} (hs:g.status=.running) (ht:U.tok=⟨0,.wrk b D,some (.lok x s (.own v) lo)⟩) (hbs:Jb x.m bs) (hM:U.M=M₁++M₂) (hD:x.sp (if s then v else true) (if s then true else v) M₁)
   (h:∀st sm,Qc P x.t m g st sm=.go g' st sm #[Z5 (.releaseMerge ⟨x.m,0,none⟩)] bs)
   (k:X m g' { U with M:=M₂,tok:=⟨0,.wrk b D,some (.lok x s .rls lo)⟩ }):Syn P t N X m g U
 |go {mu mu' mc m g U b ds D Up Uc g' c} (hs:g.status=.running) (ht:U.tok=⟨0,.par b ds true .run,mu⟩) (h:Qc P t m g undef undef=.spawn g' c #[]) (hf:Q64 U Up Uc)
   (hp:Up.tok=⟨0,.par b (D::ds) false .run,mu'⟩) (hc:Uc.tok=⟨0,.wrk b D,mc⟩) (hmu:Zpa mu mu' mc) (k:X m g' Up) (k':X false c Uc):Syn P t N X m g U
 |lay {mu m g U b D bs g'} (hs:g.status=.running) (ht:U.tok=⟨0,.wrk b D,mu⟩) (hmu:mu=none\/∃x s lo,mu=some (.lok x s .fin lo)) (hD:D U.M) (hbs:Jb b bs)
   (h:∀st sm,Qc P t m g st sm=.go g' st sm #[Z5 (.releaseMerge ⟨b,0,none⟩)] bs) (k:∃n,Tl P t N b n 0 (.rel b) g'):Syn P t N X m g U
def Syn.mono{P:Program}{t:TypeId}{N:Nat}{X Y:Stp Tk}(hXY:∀m g U,X m g U->Y m g U){m:Bool}{g:Goroutine}{U:Qa Tk}(h:Syn P t N X m g U):Syn P t N Y m g U:=by
 cases h with
 |quiet hs hb h hbs k=>exact .quiet hs hb h hbs (hXY _ _ _ k)
 |dis hs ht h hbs k=>exact .dis hs ht h hbs (hXY _ _ _ k)
 |ena hs ht h hbs k=>exact .ena hs ht h hbs (hXY _ _ _ k)
 |add hs ht hN h=>exact .add hs ht hN λ c hc=>let ⟨g',bs,a,b,k⟩:=h c hc;⟨g',bs,a,b,hXY _ _ _ k⟩
 |said hs ht h hbs k=>exact .said hs ht h hbs (hXY _ _ _ k)
 |look hs ht hk h=>exact .look hs ht hk λ c hc=>let ⟨g',bs,a,k⟩:=h c hc;⟨g',bs,a,k.imp (λ x=>⟨x.1,x.2.imp (hXY _ _ _) λ y=>⟨y.1,hXY _ _ _ y.2⟩⟩) λ x=>⟨x.1,x.2.1,hXY _ _ _ x.2.2⟩⟩
 |sema hs ho ht h0 h1=>exact .sema hs ho ht h0 (let ⟨g',bs,a,b,k⟩:=h1;⟨g',bs,a,b,hXY _ _ _ k⟩)
 |look2 hs ht hbs h k=>exact .look2 hs ht hbs h (hXY _ _ _ k)
 |acq hs ht hbs h k=>exact .acq hs ht hbs h λ Ms hM=>hXY _ _ _ (k Ms hM)
 |acqM hs ht hbs h k=>exact .acqM hs ht hbs h λ Ms M hM hx=>hXY _ _ _ (k Ms M hM hx)
 |makeM ht hM hD k=>exact .makeM ht hM hD (hXY _ _ _ k)
 |mu hs ht h=>exact .mu hs ht λ q st sm hq hw=>let ⟨g',bs,es,me',st',sm',d',lo',a0,a1,a2,a3,a4,a5,a6,a7,a8,a9,a10,k⟩:=h q st sm hq hw;⟨g',bs,es,me',st',sm',d',lo',a0,a1,a2,a3,a4,a5,a6,a7,a8,a9,a10,hXY _ _ _ k⟩
 |mblk hs ho ht h0 h1=>exact .mblk hs ho ht h0 (let ⟨g',bs,a,b,k⟩:=h1;⟨g',bs,a,b,hXY _ _ _ k⟩)
 |macq hs ht hbs h k=>exact .macq hs ht hbs h λ v M hM=>hXY _ _ _ (k v M hM)
 |mrel hs ht hbs hM hD h k=>exact .mrel hs ht hbs hM hD h (hXY _ _ _ k)
 |make ht hM k=>exact .make ht hM (hXY _ _ _ k)
 |go hs ht h hf hp hc hmu k k'=>exact .go hs ht h hf hp hc hmu (hXY _ _ _ k) (hXY _ _ _ k')
 |lay hs ht hmu hD hbs h k=>exact .lay hs ht hmu hD hbs h k
def Zb(P:Program)(t:TypeId)(N:Nat):Sys P Tk:=⟨Syn P t N,λ h _ _ _ k=>k.mono h⟩
end Go.TM
