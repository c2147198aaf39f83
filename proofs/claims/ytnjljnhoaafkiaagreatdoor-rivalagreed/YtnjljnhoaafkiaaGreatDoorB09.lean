/- Lemmas. No conditions. -/
import Derived.Conc.Beside
import Derived.Conc.CrowdStepC
import Derived.Conc.JoinWorld
import Derived.Test.YtnjljnhoaafkiaaGreatDoorB00
set_option linter.all false
open List
namespace Go.TM
variable{T:Type}{P:Program}{S:Sys P T}{ρ:QI T}{m:Bool}{g:Gr}{U:Qa T}{i b:Nat}
inductive Tr:Type 1 where
 |node (ι:Type) (f:ι->Tr)
variable{r:Tr}{K L f:List Tr}
def Tr.Sub:Tr->Tr->Prop
 |a,.node _ f=>∃i,a=f i
def Tr.sub_wf:WellFounded Tr.Sub:=by
 refine⟨λ r=>?_⟩
 induction r with
 |node ι f b=>
  refine⟨_,λ a h=>?_⟩;obtain⟨i,rfl⟩:=h;exact b i
def JR(S:Sys P T)(Stop:QI T):Tr->QI T
 |.node _ f=>FJ S Stop (λ m g U=>∃i,JR S Stop (f i) m g U)
def J.rank(h:J S ρ m g U):∃r,JR S ρ r m g U:=by
 refine J.ind (X:=λ m g U=>∃r,JR S ρ r m g U) (λ m g U h=>?_) h;refine⟨.node { x:Bool×Gr×Qa T // ∃r,JR S ρ r x.1 x.2.1 x.2.2 } (λ x=>Classical.choose x.2),?_⟩;exact h.mono λ m g U hx=>⟨⟨(m,g,U),hx.1⟩,Classical.choose_spec (p:=λ r=>JR S ρ r m g U) hx.1⟩
def JR.step(h:JR S ρ r m g U):FJ S ρ (λ m g U=>∃b,Tr.Sub b r/\JR S ρ b m g U) m g U:=by
 cases r with
 |node ι f=>
  have w:FJ S ρ (λ m g U=>∃i,JR S ρ (f i) m g U) m g U:=h;exact w.mono λ m g U⟨i,hi⟩=>⟨f i,⟨i,rfl⟩,hi⟩
def ZN(b L:List Tr):Prop:=∃r B C,L.Perm (r::B)/\b.Perm (C++B)/\∀c∈C,Tr.Sub c r
def ZN.perm{b:List Tr}(h:ZN K L)(p:L.Perm b):ZN K b:=by
 obtain⟨r,B,C,h1,h2,f⟩:=h;exact⟨r,B,C,p.symm.trans h1,h2,f⟩
def Dd{b:List Tr}(h:Acc ZN L)(p:L.Perm b):Acc ZN b:=⟨_,λ K f=>h.inv (f.perm p.symm)⟩
def pd:Acc ZN []:=by
 refine⟨_,λ K h=>?_⟩;obtain⟨r,B,C,h1,_⟩:=h;have:=h1.length_eq;simp at this
def Nm(H:∀c,Tr.Sub c r->∀L,Acc ZN L->Acc ZN (c::L)):∀L,Acc ZN L->Acc ZN (r::L):=by
 intro L hL
 induction hL with
 |intro L b I=>
  refine⟨_,λ K F=>?_⟩;obtain⟨x,B,C,h1,h2,E⟩:=F
  classical
  by_cases hx:x=r
  .subst hx;have h:L.Perm B:=h1.cons_inv
   have key:∀C:List Tr,(∀c∈C,Tr.Sub c x)->Acc ZN (C++L):=by
    intro C
    induction C with
    |nil=>intro _;exact⟨L,b⟩
    |cons c C w=>intro f;exact H c (f c S1) _ (w λ d G=>f d (by simp[G]))
   exact Dd (key C E) ((Perm.append_left C h).trans h2.symm)
  .have hm:x∈L:=by
    have:x∈r::L:=h1.mem_iff.2 S1;simpa[hx]using this
   have hL:=perm_cons_erase hm
   have h:B.Perm (r::L.erase x):=by
    have:(x::B).Perm (x::r::L.erase x):=h1.symm.trans ((hL.cons r).trans (Perm.swap ..));exact this.cons_inv
   have f:ZN (C++L.erase x) L:=⟨x,L.erase x,C,hL,Perm.refl _,E⟩;refine Dd (I _ f) ?_;refine Perm.symm ?_;refine h2.trans ?_;refine(Perm.append_left C h).trans ?_;exact perm_middle
def vT:WellFounded ZN:=by
 refine⟨λ L=>?_⟩
 have key:∀r:Tr,∀L,Acc ZN L->Acc ZN (r::L):=by
  intro r
  induction r using Tr.sub_wf.induction with
  |_ r b=>exact Nm b
 induction L with
 |nil=>exact pd
 |cons r L b=>exact key r L b
def JB:List Tr×Nat->List Tr×Nat->Prop:=Prod.Lex ZN (· < ·)
def gS:WellFounded JB:=(Prod.lex ⟨ZN,vT⟩ ⟨(· < ·),Nat.lt_wfRel.wf⟩).wf
def JB.cut(h:ZN f L):JB (f,i) (L,b):=Prod.Lex.left _ _ h
def JB.num(h:i<b):JB (L,i) (L,b):=Prod.Lex.right _ h
variable{act act' wk wk':Nat->Prop}{rm A:Option Nat}{tr G:Trace}{n size c wt N:Nat}{ξ:MemAct}{a:Touch}{rel rel':Nat->Option Nat}{said:Bool}{y z:MemOp}
section
open Go.Conc
inductive Hd where
 |run (i:Nat)
 |dep (i:Nat)
 |lck
 deriving DecidableEq
variable{d o W' R':Hd->Loc->Prop}
def Kn(t:Trace)(rel:Nat->Option Nat):Hd->Nat->Prop
 |.run g,i=>Knows t g i
 |.dep g,i=>∃r,rel g=some r/\Before t i r
 |.lck,_=>True
def Loc.newN(n:Nat):Loc->Prop
 |.cell a=>n<=a.block
 |.obj b=>n<=b
 |_=>False
def JC(b:Option Nat):Loc->Prop
 |.cell a=>b=some a.block/\a.off<2
 |_=>False
def MK(act:Nat->Prop)(rm:Option Nat)(t:Trace)(i:Nat):Prop:=
 match rm with
 |none=>∀g,act g->Knows t g i
 |some r=>Before t i r
structure TI(W R:Hd->Loc->Prop)(rel:Nat->Option Nat)(blk mb rm:Option Nat)(act wk:Nat->Prop)(size:Nat)(t:Trace):Prop where
 clean:∀said,¬Race said t
 known:∀h i a,touchAt t i=some a->(W h a.loc\/(R h a.loc/\a.write=true))->Kn t rel h i
 low:∀op∈t,op.act.low size
 norel:∀i a,t.act? i≠some (.mark (.release a))
 grpP:∀i a,touchAt t i=some a->JC blk a.loc->a.kind=.plain->∀g,act g->Knows t g i
 grpS:∀i a,touchAt t i=some a->JC blk a.loc->a.kind=.said->Knows t 0 i
 relok:∀g r,rel g=some r->∃b,blk=some b/\t.act? r=some (.mark (.releaseMerge ⟨b,0,none⟩))/\t.heard r/\t.g? r=some g
 hand:∀i g,t.g? i=some g->g≠0->t.counts i->wk g\/(∃r,rel g=some r/\Before t i r)\/Knows t 0 i
 grpM:∀i a,touchAt t i=some a->JC mb a.loc->a.kind≠.atomic->∀g,act g->Knows t g i
 mutK:∀i a,touchAt t i=some a->(W .lck a.loc\/(R .lck a.loc/\a.write=true))->MK act rm t i
 mutR:∀r,rm=some r->∃m g,mb=some m/\t.act? r=some (.mark (.releaseMerge ⟨m,0,none⟩))/\t.heard r/\t.g? r=some g/\(wk g\/∃r',rel g=some r'/\Before t r r')
def MK.app{act:Nat->Prop}{rm:Option Nat}{t:Trace}{i:Nat}(u:Trace)(k:MK act rm t i):MK act rm (t++u) i:=by
 cases rm with
 |none=>exact λ g b=>(k g b).app u
 |some r=>exact Before.app u k
def MK.turn(h:∀g,act' g->act g)(k:MK act rm tr i):MK act' rm tr i:=by
 cases rm with
 |none=>exact λ g b=>k g (h g b)
 |some r=>exact k
def Kn.app{t:Trace}{rel:Nat->Option Nat}{h:Hd}{i:Nat}(u:Trace)(k:Kn t rel h i):Kn (t++u) rel h i:=by
 cases h with
 |run g=>exact Knows.app u k
 |dep g=>obtain⟨r,h1,h2⟩:=k;exact⟨r,h1,h2.app u⟩
 |lck=>trivial
def Iw(h:ξ.low n)(ha:ξ.touch?=some a):¬Loc.newN n a.loc:=by
 cases ξ with
 |access e=>
  simp only[MemAct.touch?,Option.some.injEq]at ha;subst ha;obtain⟨loc,wr,b⟩:=e;cases loc <;> simp_all[MemAct.low,Loc.low,Loc.newN]
 |mark m=>cases m <;> simp_all[MemAct.touch?,MemAct.low,Loc.newN] <;> (subst ha;simpa[Loc.newN]using h)
 |_=>simp[MemAct.touch?]at ha
def HE(h:(tr++G).act? i=some ξ):(i<tr.size/\tr.act? i=some ξ)\/(tr.size<=i/\∃op∈G,op.act=ξ):=by
 obtain⟨op,B,b⟩:=Option.map_eq_some_iff.1 h;rcases getElem?_append_cases B with⟨hi,f⟩|⟨hi,w⟩
 .exact .inl ⟨hi,by rw[act?_of f,b]⟩
 .exact .inr ⟨hi,op,w,b⟩
section
variable{t:Trace}
def Ji(h:touchAt (t++tr) i=some a):(i<t.size/\touchAt t i=some a)\/(t.size<=i/\∃op∈tr,op.act.touch?=some a/\(t++tr)[i]?=some op):=by
 obtain⟨x,hx,b⟩:=touch_of h;rcases getElem?_append_cases hx with⟨hi,f⟩|⟨hi,w⟩
 .exact .inl ⟨hi,by rw[touchAt_of f,b]⟩
 .exact .inr ⟨hi,x,w,b,hx⟩
end
section
variable{mb:Option Nat}{u:Trace}
def TI.step(h:TI d o rel A mb rm act wk size tr)(ac:size<=c)(S:∀op∈u,op.g=wt)(M:∀op∈u,op.act.low c)(Z:∀op∈u,∀a,op.act≠.mark (.release a))
  (V:∀i a,touchAt tr i=some a->∀op∈u,∀b,op.act.touch?=some b->∀said,a.conflicts said b->Knows tr wt i)
  (P:∀k l,W' k l->d k l\/(k=.run wt/\Loc.newN size l)) (N:∀k l,R' k l->o k l\/(k=.run wt/\Loc.newN size l))
  (G:∀op∈u,∀a,op.act.touch?=some a->∀k,k≠.run wt->¬d k a.loc/\(a.write=true->¬o k a.loc))
  (L:∀op∈u,∀a,op.act.touch?=some a->JC A a.loc->a.kind≠.plain/\(a.kind=.said->wt=0)) (Y:∀op∈u,∀a,op.act.touch?=some a->JC mb a.loc->a.kind=.atomic)
  (H:wt=0\/wk wt\/∀i,tr.size<=i->¬(tr++u).counts i) :
  TI W' R' rel A mb rm act wk c (tr++u):=by
 refine⟨λ said=>noRace_append (h.clean said) S λ i a ha op f b hb Q=>V i a ha op f b hb said Q,?_,?_,?_,?_,?_,?_,?_,?_,?_,?_⟩
 .intro k i a ha hp;rcases Ji ha with⟨hi,B⟩|⟨hi,op,f,w,F⟩
  .refine(h.known k i a B ?_).app u
   have hl:¬Loc.newN size a.loc:=by
    obtain⟨x,hx,ad⟩:=touch_of B;exact Iw (h.low x (Array.mem_of_getElem? hx)) ad
   rcases hp with hp|⟨hp,I⟩
   .rcases P _ _ hp with hp|hp
    .exact .inl hp
    .exact absurd hp.2 hl
   .rcases N _ _ hp with hp|hp
    .exact .inr ⟨hp,I⟩
    .exact absurd hp.2 hl
  .by_cases hk:k=.run wt
   .subst hk;have:=knows_own F;rw[S op f]at this;exact this
   .have:=G op f a w k hk;rcases hp with hp|⟨hp,I⟩
    .rcases P _ _ hp with hp|hp
     .exact absurd hp this.1
     .exact absurd hp.1 hk
    .rcases N _ _ hp with hp|hp
     .exact absurd hp (this.2 I)
     .exact absurd hp.1 hk
 .intro op f;rcases Array.mem_append.1 f with f|f
  .exact MemAct.low_mono ac (h.low op f)
  .exact M op f
 .intro i a e;rcases HE e with⟨_,e⟩|⟨_,op,f,w⟩
  .exact h.norel i a e
  .exact Z op f a w
 .intro i a ha hb hk g' hg';rcases Ji ha with⟨hi,B⟩|⟨hi,op,f,w,F⟩
  .exact(h.grpP i a B hb hk g' hg').app u
  .exact absurd hk (L op f a w hb).1
 .intro i a ha hb hk;rcases Ji ha with⟨hi,B⟩|⟨hi,op,f,w,F⟩
  .exact(h.grpS i a B hb hk).app u
  .have:=knows_own F;rw[S op f,(L op f a w hb).2 hk]at this;exact this
 .intro g' r hr;obtain⟨b,h1,h2,T,U⟩:=h.relok g' r hr;have E:=lt_of_act? h2;exact⟨b,h1,by rw[act?_old E];exact h2,(heard_old E).2 T,by rw[g?_old E];exact U⟩
 .intro i g' hg hne Q;by_cases hi:i<tr.size
  .rw[g?_old hi]at hg;rcases h.hand i g' hg hne ((counts_old hi).1 Q)with h1|⟨r,h1,h2⟩|h1
   .exact .inl h1
   .exact .inr (.inl ⟨r,h1,h2.app u⟩)
   .exact .inr (.inr (h1.app u))
  .have hi:tr.size<=i:=Nat.le_of_not_lt hi
   have X:g'=wt:=by
    obtain⟨op,F,aa⟩:=Option.map_eq_some_iff.1 hg;rcases getElem?_append_cases F with⟨ae,_⟩|⟨_,ab⟩
    .omega
    .rw[<- aa];exact S op ab
   subst X;rcases H with K|K|K
   .exact absurd K hne
   .exact .inl K
   .exact absurd Q (K i hi)
 .intro i a ha hb hk g' hg';rcases Ji ha with⟨hi,B⟩|⟨hi,op,f,w,F⟩
  .exact(h.grpM i a B hb hk g' hg').app u
  .exact absurd (Y op f a w hb) hk
 .intro i a ha hp;rcases Ji ha with⟨hi,B⟩|⟨hi,op,f,w,F⟩
  .refine(h.mutK i a B ?_).app u;rcases hp with hp|⟨hp,I⟩
   .exact .inl ((P _ _ hp).resolve_right λ x=>by cases x.1)
   .exact .inr ⟨(N _ _ hp).resolve_right λ x=>(by cases x.1),I⟩
  .have:=G op f a w .lck S1;rcases hp with hp|⟨hp,I⟩
   .exact absurd ((P _ _ hp).resolve_right λ x=>by cases x.1) this.1
   .exact absurd ((N _ _ hp).resolve_right λ x=>by cases x.1) (this.2 I)
 .intro r hr;obtain⟨m,g',h1,h2,T,U,h5⟩:=h.mutR r hr;have E:=lt_of_act? h2;exact⟨m,g',h1,by rw[act?_old E];exact h2,(heard_old E).2 T,by rw[g?_old E];exact U,h5.imp id λ⟨r',k1,k2⟩=>⟨r',k1,k2.app u⟩⟩
end
section
variable{mb:Option Nat}
def TI.turn{act':Nat->Prop}(h:TI d o rel A mb rm act wk size tr)(B:∀k l,W' k l->d k l)(w:∀k l,R' k l->o k l)(ha:∀N,act' N->act N):TI W' R' rel A mb rm act' wk size tr:=
 ⟨h.clean,λ k i a ha hp=>h.known k i a ha (hp.imp (B _ _) λ x=>⟨w _ _ x.1,x.2⟩),h.low,h.norel,λ i a h1 h2 b N f=>h.grpP i a h1 h2 b N (ha N f),h.grpS,h.relok,h.hand,λ i a h1 h2 b N f=>h.grpM i a h1 h2 b N (ha N f),λ i a h1 hp=>(h.mutK i a h1 (hp.imp (B _ _) λ x=>⟨w _ _ x.1,x.2⟩)).turn ha,h.mutR⟩
end
def W5(t:Trace)(y:MemOp):(t++#[y])[t.size]?=some y:=S1
def G5(h:¬Race said tr)(hy:y.act.touch?=none):¬Race said (tr++#[y]):=
 noRace_append (g:=y.g) h S1 λ i a _ op f b hb=>by simp at f;subst f;rw[hy]at hb;cases hb
def Zo(hy:y.act.touch?=none)(h:touchAt (tr++#[y]) i=some a):i<tr.size/\touchAt tr i=some a:=by
 rcases Ji h with h|⟨_,op,f,b,_⟩
 .exact h
 .simp at f;subst f;rw[hy]at b;cases b
section
variable{t:Trace}
def G6(b:Deaf t y.g=0):(t++#[y]).heard t.size:=
 ⟨y.g,by simp[Trace.g?],by rw[deaf_old (Nat.le_refl _)];exact b⟩
end
def W9(hy:y.act.touch?=none)(h:(tr++#[y]).counts i):i<tr.size/\tr.counts i:=by
 obtain⟨x,hx,h2⟩:=h;obtain⟨hi,b⟩:=Zo hy hx;exact⟨hi,(counts_old hi).1 ⟨x,hx,h2⟩⟩
section
variable{mb:Option Nat}
def TI.release(h:TI d o rel A mb rm act wk size tr)(hb:A=some b)(hy:y.act=.mark (.releaseMerge ⟨b,0,none⟩))(S:b<size)
  (X:Deaf tr y.g=0) (hg:rel y.g=none) (f:∀k,rel' k=if k=y.g then some tr.size else rel k)
  (V:∀k l,W' k l->d k l/\k≠.dep y.g\/(k=.dep y.g/\d (.run y.g) l)) (U:∀k l,R' k l->o k l/\k≠.dep y.g\/(k=.dep y.g/\o (.run y.g) l)) (M:∀k,wk k->wk' k\/k=y.g) :
  TI W' R' rel' A mb rm act wk' size (tr++#[y]):=by
 have H:y.act.touch?=none:=by rw[hy];rfl
 refine⟨λ said=>G5 (h.clean said) H,?_,?_,?_,?_,?_,?_,?_,?_,?_,?_⟩
 .intro k i a ha hp;obtain⟨hi,w⟩:=Zo H ha
  have key:k≠.dep y.g->(d k a.loc\/(o k a.loc/\a.write=true))->Kn (tr++#[y]) rel' k i:=by
   intro G hp;have:=(h.known k i a w hp).app #[y];cases k with
   |run g'=>exact this
   |dep g'=>
    obtain⟨r,h1,h2⟩:=this;refine⟨r,?_,h2⟩;rw[f,if_neg]
    .exact h1
    .intro e;subst e;exact G rfl
   |lck=>trivial
  have I:k=.dep y.g->(d (.run y.g) a.loc\/(o (.run y.g) a.loc/\a.write=true))->Kn (tr++#[y]) rel' k i:=by
   intro G Y;subst G;refine⟨tr.size,by rw[f,if_pos rfl],.inr ?_⟩;exact Knows.hb_new (h.known (.run y.g) i a w Y) (Nat.le_refl _) (W5 tr y) rfl
  rcases hp with hp|⟨hp,P⟩
  .rcases V _ _ hp with⟨hp,G⟩|⟨G,hp⟩
   .exact key G (.inl hp)
   .exact I G (.inl hp)
  .rcases U _ _ hp with⟨hp,G⟩|⟨G,hp⟩
   .exact key G (.inr ⟨hp,P⟩)
   .exact I G (.inr ⟨hp,P⟩)
 .intro op F;rcases Array.mem_append.1 F with F|F
  .exact h.low op F
  .simp at F;subst F;rw[hy];exact S
 .intro i a e;rcases HE e with⟨_,e⟩|⟨_,op,F,L⟩
  .exact h.norel i a e
  .simp at F;subst F;rw[hy]at L;cases L
 .intro i a ha hbl G g' hg';obtain⟨hi,w⟩:=Zo H ha;exact(h.grpP i a w hbl G g' hg').app _
 .intro i a ha hbl G;obtain⟨hi,w⟩:=Zo H ha;exact(h.grpS i a w hbl G).app _
 .intro g' r hr;rw[f]at hr;split at hr
  .rename_i e;subst e;cases hr;exact⟨b,hb,by rw[act?_of (W5 tr y),hy],G6 X,by simp[Trace.g?]⟩
  .obtain⟨b,h1,h2,Q,N⟩:=h.relok g' r hr;have E:=lt_of_act? h2;exact⟨b,h1,by rw[act?_old E];exact h2,(heard_old E).2 Q,by rw[g?_old E];exact N⟩
 .intro i g' hg' hne hc;obtain⟨hi,T⟩:=W9 H hc;rw[g?_old hi]at hg';by_cases B:g'=y.g
  .obtain⟨op,ho,hog⟩:=Option.map_eq_some_iff.1 hg';refine .inr (.inl ⟨tr.size,by rw[f,if_pos B],.inr ?_⟩);have K:(tr++#[y])[i]?=some op:=by rw[getElem?_append_old hi];exact ho
   exact hb_po hi K (W5 tr y) (hog.trans B)
  .rcases h.hand i g' hg' hne T with h1|⟨r,h1,h2⟩|h1
   .exact(M g' h1).elim .inl λ e=>absurd e B
   .exact .inr (.inl ⟨r,by rw[f,if_neg B];exact h1,h2.app _⟩)
   .exact .inr (.inr (h1.app _))
 .intro i a ha hbl G g' hg';obtain⟨hi,w⟩:=Zo H ha;exact(h.grpM i a w hbl G g' hg').app _
 .intro i a ha hp;obtain⟨hi,w⟩:=Zo H ha;refine(h.mutK i a w ?_).app _;rcases hp with hp|⟨hp,P⟩
  .exact .inl ((V _ _ hp).resolve_right λ x=>by cases x.1).1
  .exact .inr ⟨((U _ _ hp).resolve_right λ x=>by cases x.1).1,P⟩
 .intro r hr;obtain⟨m,g',h1,h2,Q,N,h5⟩:=h.mutR r hr;have E:=lt_of_act? h2;refine⟨m,g',h1,by rw[act?_old E];exact h2,(heard_old E).2 Q,by rw[g?_old E];exact N,?_⟩;by_cases B:g'=y.g
  .obtain⟨op,ho,hog⟩:=Option.map_eq_some_iff.1 N;refine .inr ⟨tr.size,by rw[f,if_pos B],.inr ?_⟩;have K:(tr++#[y])[r]?=some op:=by rw[getElem?_append_old E];exact ho
   exact hb_po E K (W5 tr y) (hog.trans B)
  .rcases h5 with h5|⟨r',Z,k2⟩
   .exact .inl ((M g' h5).resolve_right B)
   .exact .inr ⟨r',by rw[f,if_neg B];exact Z,k2.app _⟩
end
section
variable{mb:Option Nat}
def TI.acquire{b:Nat}{y:MemOp}{act' wk':Nat->Prop}(h:TI d o rel A mb rm act wk size tr)(hb:A=some b)(hy:y.act=.mark (.acquire ⟨b,0,none⟩))(Y:y.g=0)(S:b<size)
  (hd:Deaf tr 0=0) (M:∀c,¬wk c) (Q:act 0)
  (X:∀k l,W' k l->k=.run 0/\(d (.run 0) l\/(∃c r,rel c=some r/\d (.dep c) l)\/d .lck l)) (V:∀k l,R' k l->k=.run 0/\(o (.run 0) l\/(∃c r,rel c=some r/\o (.dep c) l)\/o .lck l)) :
  TI W' R' (λ _=>none) none none none act' wk' size (tr++#[y]):=by
 have I:y.act.touch?=none:=by rw[hy];rfl
 have B:=W5 tr y
 have E:∀c r,rel c=some r->Knows (tr++#[y]) 0 r:=by
  intro c r G;obtain⟨b',h1,h2,U,Z⟩:=h.relok c r G;rw[hb]at h1;cases h1;have F:=lt_of_act? h2;refine⟨tr.size,y,B,Y,.inr (.single (.inr ⟨.marked (a:=⟨b,0,none⟩) F (.inr (by rw[act?_old F];exact h2)) (by rw[act?_of B,hy]) (λ k _ hk=>by rw[act?_old hk];exact h.norel k _),(heard_old F).2 U,G6 (by rw[Y];exact hd)⟩))⟩
 have K:∀i,MK act rm tr i->Knows (tr++#[y]) 0 i:=by
  intro i hi;cases H:rm with
  |none=>rw[H]at hi;exact(hi 0 Q).app _
  |some r=>
   rw[H]at hi;obtain⟨m,g',h1,h2,U,Z,h5⟩:=h.mutR r H;obtain⟨N,k1,k2⟩:=h5.resolve_left (M g');exact Knows.of_before (Before.app _ hi) (Knows.of_before (k2.app _) (E g' N k1))
 refine⟨λ said=>G5 (h.clean said) I,?_,?_,?_,?_,?_,?_,?_,?_,?_,λ r G=>(by cases G)⟩
 .intro k i a ha hp;obtain⟨hi,w⟩:=Zo I ha;rcases hp with hp|⟨hp,P⟩
  .obtain⟨rfl,hp|⟨c,r,G,hp⟩|hp⟩:=X _ _ hp
   .exact(h.known (.run 0) i a w (.inl hp)).app #[y]
   .obtain⟨N,h1,h2⟩:=h.known (.dep c) i a w (.inl hp);exact Knows.of_before (h2.app _) (E c N h1)
   .exact K i (h.mutK i a w (.inl hp))
  .obtain⟨rfl,hp|⟨c,r,G,hp⟩|hp⟩:=V _ _ hp
   .exact(h.known (.run 0) i a w (.inr ⟨hp,P⟩)).app #[y]
   .obtain⟨N,h1,h2⟩:=h.known (.dep c) i a w (.inr ⟨hp,P⟩);exact Knows.of_before (h2.app _) (E c N h1)
   .exact K i (h.mutK i a w (.inr ⟨hp,P⟩))
 .intro op f;rcases Array.mem_append.1 f with f|f
  .exact h.low op f
  .simp at f;subst f;rw[hy];exact S
 .intro i a e;rcases HE e with⟨_,e⟩|⟨_,op,f,L⟩
  .exact h.norel i a e
  .simp at f;subst f;rw[hy]at L;cases L
 .intro i a ha hbl;unfold JC at hbl;split at hbl
  .cases hbl.1
  .exact hbl.elim
 .intro i a ha hbl;unfold JC at hbl;split at hbl
  .cases hbl.1
  .exact hbl.elim
 .intro g' r G;cases G
 .intro i g' hg' hne hc;obtain⟨hi,T⟩:=W9 I hc;rw[g?_old hi]at hg';rcases h.hand i g' hg' hne T with h1|⟨r,h1,h2⟩|h1
  .exact absurd h1 (M g')
  .exact .inr (.inr (Knows.of_before (h2.app _) (E g' r h1)))
  .exact .inr (.inr (h1.app _))
 .intro i a ha hbl;unfold JC at hbl;split at hbl
  .cases hbl.1
  .exact hbl.elim
 .intro i a ha hp;rcases hp with hp|⟨hp,P⟩
  .cases(X _ _ hp).1
  .cases(V _ _ hp).1
end
section
variable{mb:Option Nat}
def TI.fork(h:TI d o rel A mb rm act wk size tr)(hy:y.act=.go c)(N:y.g=0)(hz:z.act=.start)(Q:z.g=c)(ab:Deaf tr 0=0)(ac:Deaf tr c=0)(ag:c≠0)
  (I:∀wt,act' wt->act wt\/(wt=c/\act 0)) (Y:∀wt,wk wt->wk' wt)
  (hW:∀k l,W' k l->d k l\/(k=.run c/\d (.run 0) l)) (hR:∀k l,R' k l->o k l\/(k=.run c/\o (.run 0) l)) :
  TI W' R' rel A mb rm act' wk' size (tr++#[y,z]):=by
 have e:tr++#[y,z]=(tr++#[y])++#[z]:=by apply Array.ext';simp
 have P:y.act.touch?=none:=by rw[hy];rfl
 have T:z.act.touch?=none:=by rw[hz];rfl
 have X:(tr++#[y]).size=tr.size+1:=S1
 have af:(tr++#[y]++#[z])[tr.size]?=some y:=by rw[getElem?_append_old O1];exact W5 tr y
 have S:(tr++#[y]++#[z])[tr.size+1]?=some z:=by have:=W5 (tr++#[y]) z;rwa [X]at this
 have F:∀{i:Nat}{a:Touch},touchAt (tr++#[y]++#[z]) i=some a->i<tr.size/\touchAt tr i=some a:=by
  intro i a ha;exact Zo P (Zo T ha).2
 have ae:HappensBefore (tr++#[y]++#[z]) tr.size (tr.size+1):=by
  refine .single (.inr ⟨.spawn (child:=c) (by rw[act?_of af,hy]) (by rw[act?_of S,hz]) (by simp only[Trace.g?,S,Option.map_some,Q]),?_,?_⟩)
  .rw[heard_old O1];exact G6 (by rw[N];exact ab)
  .have:=G6 (t:=tr++#[y]) (y:=z) (by rw[Q,Deaf_other tr (g':=0) O1 _ (by simp[N])];exact ac)
   rwa [X]at this
 have K:∀i,Knows tr 0 i->Knows (tr++#[y]++#[z]) c i:=by
  intro i hi;have h1:HappensBefore (tr++#[y]) i tr.size:=hi.hb_new (Nat.le_refl _) (W5 tr y) N;exact⟨tr.size+1,z,S,Q,.inr ((hb_app _ h1).trans ae)⟩
 have app:∀{wt i:Nat},Knows tr wt i->Knows (tr++#[y]++#[z]) wt i:=λ h=>(h.app _).app _;rw[e];refine⟨λ said=>G5 (G5 (h.clean said) P) T,?_,?_,?_,?_,?_,?_,?_,?_,?_,?_⟩
 .intro k i a ha hp;obtain⟨hi,B⟩:=F ha;rcases hp with hp|⟨hp,Z⟩
  .rcases hW _ _ hp with M|⟨rfl,M⟩
   .exact((h.known k i a B (.inl M)).app _).app _
   .exact K i (h.known (.run 0) i a B (.inl M))
  .rcases hR _ _ hp with M|⟨rfl,M⟩
   .exact((h.known k i a B (.inr ⟨M,Z⟩)).app _).app _
   .exact K i (h.known (.run 0) i a B (.inr ⟨M,Z⟩))
 .intro op w;rcases Array.mem_append.1 w with w|w
  .rcases Array.mem_append.1 w with w|w
   .exact h.low op w
   .simp at w;subst w;rw[hy];trivial
  .simp at w;subst w;rw[hz];trivial
 .intro i a e;rcases HE e with⟨_,e⟩|⟨_,op,w,L⟩
  .rcases HE e with⟨_,e⟩|⟨_,op,w,L⟩
   .exact h.norel i a e
   .simp at w;subst w;rw[hy]at L;cases L
  .simp at w;subst w;rw[hz]at L;cases L
 .intro i a ha hbl H g' f;obtain⟨hi,B⟩:=F ha;rcases I g' f with f|⟨rfl,f⟩
  .exact app (h.grpP i a B hbl H g' f)
  .exact K i (h.grpP i a B hbl H 0 f)
 .intro i a ha hbl H;obtain⟨hi,B⟩:=F ha;exact app (h.grpS i a B hbl H)
 .intro g' r hr;obtain⟨b,h1,h2,h3,h4⟩:=h.relok g' r hr;have G:=lt_of_act? h2;have E:r<(tr++#[y]).size:=O1
  exact⟨b,h1,by rw[act?_old E,act?_old G];exact h2,(heard_old E).2 ((heard_old G).2 h3),by rw[g?_old E,g?_old G];exact h4⟩
 .intro i g' f hne hc;obtain⟨ad,aa⟩:=W9 T hc;obtain⟨hi,U⟩:=W9 P aa;rw[g?_old ad,g?_old hi]at f;rcases h.hand i g' f hne U with h1|⟨r,h1,h2⟩|h1
  .exact .inl (Y _ h1)
  .exact .inr (.inl ⟨r,h1,(h2.app _).app _⟩)
  .exact .inr (.inr (app h1))
 .intro i a ha hbl H g' f;obtain⟨hi,B⟩:=F ha;rcases I g' f with f|⟨rfl,f⟩
  .exact app (h.grpM i a B hbl H g' f)
  .exact K i (h.grpM i a B hbl H 0 f)
 .intro i a ha hp;obtain⟨hi,B⟩:=F ha
  have H:=h.mutK i a B (by
   rcases hp with hp|⟨hp,Z⟩
   .exact .inl ((hW _ _ hp).resolve_right λ x=>by cases x.1)
   .exact .inr ⟨(hR _ _ hp).resolve_right λ x=>(by cases x.1),Z⟩)
  cases V:rm with
  |none=>
   rw[V]at H;intro g' f;rcases I g' f with f|⟨rfl,f⟩
   .exact app (H g' f)
   .exact K i (H 0 f)
  |some r=>rw[V]at H;exact Before.app _ (Before.app _ H)
 .intro r hr;obtain⟨m,g',h1,h2,h3,h4,h5⟩:=h.mutR r hr;have G:=lt_of_act? h2;have E:r<(tr++#[y]).size:=O1
  exact⟨m,g',h1,by rw[act?_old E,act?_old G];exact h2,(heard_old E).2 ((heard_old G).2 h3),by rw[g?_old E,g?_old G];exact h4,h5.imp (Y _) λ⟨r',k1,k2⟩=>⟨r',k1,(k2.app _).app _⟩⟩
end
def TI.create(h:TI d o rel none A rm act wk size tr)(E:∀l,¬W' .lck l)(B:∀l,¬R' .lck l)(f:∀N,rel N=none)(hb:∀a:Addr,a.block=b->a.off<2->d (.run 0) (.cell a))(G:∀k l,W' k l->d k l)(F:∀k l,R' k l->o k l) :
  TI W' R' rel (some b) none none (·=0) wk size tr:=by
 refine⟨h.clean,λ k i a ha hp=>h.known k i a ha (hp.imp (G _ _) λ x=>⟨F _ _ x.1,x.2⟩),h.low,h.norel,?_,?_,λ N r w=>(by rw[f]at w;cases w),h.hand,?_,?_,λ r w=>(by cases w)⟩
 .intro i a ha hbl _ N hg;obtain⟨loc,wr,kd⟩:=a;cases loc <;> simp only[JC]at hbl;obtain⟨h1,h2⟩:=hbl;cases h1;rw[hg];exact h.known (.run 0) i _ ha (.inl (hb _ rfl h2))
 .intro i a ha hbl _;obtain⟨loc,wr,kd⟩:=a;cases loc <;> simp only[JC]at hbl;obtain⟨h1,h2⟩:=hbl;cases h1;exact h.known (.run 0) i _ ha (.inl (hb _ rfl h2))
 .intro i a ha hbl;unfold JC at hbl;split at hbl
  .cases hbl.1
  .exact hbl.elim
 .intro i a ha hp;rcases hp with hp|⟨hp,H⟩
  .exact absurd hp (E _)
  .exact absurd hp (B _)
def TI.createM(h:TI d o rel A none rm act wk size tr)(b:∀N,act' N->N=0/\act 0)(hb:∀a:Addr,a.block=c->a.off<2->d (.run 0) (.cell a))
  (H:∀k l,W' k l->d k l\/(k=.lck/\d (.run 0) l)) (G:∀k l,R' k l->o k l\/(k=.lck/\o (.run 0) l)) (B:∀l,¬d .lck l) (w:∀l,¬o .lck l) :
  TI W' R' rel A (some c) none act' wk size tr:=by
 have key:∀k i a,touchAt tr i=some a->(W' k a.loc\/(R' k a.loc/\a.write=true))->(d k a.loc\/(o k a.loc/\a.write=true))\/(k=.lck/\(d (.run 0) a.loc\/(o (.run 0) a.loc/\a.write=true))):=by
  intro k i a _ hp;rcases hp with hp|⟨hp,E⟩
  .rcases H _ _ hp with hp|⟨e,hp⟩
   .exact .inl (.inl hp)
   .exact .inr ⟨e,.inl hp⟩
  .rcases G _ _ hp with hp|⟨e,hp⟩
   .exact .inl (.inr ⟨hp,E⟩)
   .exact .inr ⟨e,.inr ⟨hp,E⟩⟩
 refine⟨h.clean,λ k i a ha hp=>?_,h.low,h.norel,λ i a h1 h2 F N f=>?_,h.grpS,h.relok,h.hand,?_,?_,λ r I=>(by cases I)⟩
 .rcases key k i a ha hp with hp|⟨rfl,_⟩
  .exact h.known k i a ha hp
  .trivial
 .obtain⟨rfl,b⟩:=b N f;exact h.grpP i a h1 h2 F 0 b
 .intro i a ha hbl hk N f;obtain⟨loc,wr,kd⟩:=a;cases loc <;> simp only[JC]at hbl;obtain⟨h1,h2⟩:=hbl;cases h1;rw[(b N f).1];exact h.known (.run 0) i _ ha (.inl (hb _ rfl h2))
 .intro i a ha hp N f;rw[(b N f).1];rcases key .lck i a ha hp with hp|⟨_,hp⟩
  .rcases hp with hp|⟨hp,_⟩
   .exact absurd hp (B _)
   .exact absurd hp (w _)
  .exact h.known (.run 0) i a ha hp
section
variable{mb:Option Nat}
def TI.mrel(h:TI d o rel A mb rm act wk size tr)(hm:mb=some c)(hy:y.act=.mark (.releaseMerge ⟨c,0,none⟩))(I:c<size)(S:Deaf tr y.g=0)(L:wk y.g)
  (N:∀k l,W' k l->(d k l/\k≠.lck)\/(k=.lck/\d (.run y.g) l)) (M:∀k l,R' k l->(o k l/\k≠.lck)\/(k=.lck/\o (.run y.g) l)) :
  TI W' R' rel A mb (some tr.size) act wk size (tr++#[y]):=by
 have B:y.act.touch?=none:=by rw[hy];rfl
 refine⟨λ said=>G5 (h.clean said) B,?_,?_,?_,?_,?_,?_,?_,?_,?_,?_⟩
 .intro k i a ha hp;obtain⟨hi,f⟩:=Zo B ha;by_cases E:k=.lck
  .subst E;trivial
  .refine(h.known k i a f ?_).app _;rcases hp with hp|⟨hp,K⟩
   .exact .inl ((N _ _ hp).resolve_right λ x=>E x.1).1
   .exact .inr ⟨((M _ _ hp).resolve_right λ x=>E x.1).1,K⟩
 .intro op w;rcases Array.mem_append.1 w with w|w
  .exact h.low op w
  .simp at w;subst w;rw[hy];exact I
 .intro i a e;rcases HE e with⟨_,e⟩|⟨_,op,w,G⟩
  .exact h.norel i a e
  .simp at w;subst w;rw[hy]at G;cases G
 .intro i a ha hbl E g' hg';obtain⟨hi,f⟩:=Zo B ha;exact(h.grpP i a f hbl E g' hg').app _
 .intro i a ha hbl E;obtain⟨hi,f⟩:=Zo B ha;exact(h.grpS i a f hbl E).app _
 .intro g' r hr;obtain⟨b,h1,h2,P,Q⟩:=h.relok g' r hr;have F:=lt_of_act? h2;exact⟨b,h1,by rw[act?_old F];exact h2,(heard_old F).2 P,by rw[g?_old F];exact Q⟩
 .intro i g' hg' hne hc;obtain⟨hi,H⟩:=W9 B hc;rw[g?_old hi]at hg';rcases h.hand i g' hg' hne H with h1|⟨r,h1,h2⟩|h1
  .exact .inl h1
  .exact .inr (.inl ⟨r,h1,h2.app _⟩)
  .exact .inr (.inr (h1.app _))
 .intro i a ha hbl E g' hg';obtain⟨hi,f⟩:=Zo B ha;exact(h.grpM i a f hbl E g' hg').app _
 .intro i a ha hp;obtain⟨hi,f⟩:=Zo B ha
  have E:Knows tr y.g i:=h.known (.run y.g) i a f (by
   rcases hp with hp|⟨hp,K⟩
   .exact .inl ((N _ _ hp).resolve_left λ x=>x.2 rfl).2
   .exact .inr ⟨((M _ _ hp).resolve_left λ x=>x.2 rfl).2,K⟩)
  exact .inr (E.hb_new (Nat.le_refl _) (W5 tr y) rfl)
 .intro r hr;cases hr;exact⟨c,y.g,hm,by rw[act?_of (W5 tr y),hy],G6 S,by simp[Trace.g?],.inl L⟩
end
section
variable{mb:Option Nat}
def TI.macq(h:TI d o rel A mb rm act wk size tr)(hm:mb=some c)(hy:y.act=.mark (.acquire ⟨c,0,none⟩))(T:c<size)(Z:Deaf tr y.g=0)(Q:act y.g)
  (X:∀k l,W' k l->k≠.lck/\(d k l\/(k=.run y.g/\d .lck l))) (V:∀k l,R' k l->k≠.lck/\(o k l\/(k=.run y.g/\o .lck l))) :
  TI W' R' rel A mb rm act wk size (tr++#[y]):=by
 have E:y.act.touch?=none:=by rw[hy];rfl
 have F:=W5 tr y
 have L:∀i,MK act rm tr i->Knows (tr++#[y]) y.g i:=by
  intro i hi;cases I:rm with
  |none=>rw[I]at hi;exact(hi _ Q).app _
  |some r=>
   rw[I]at hi;obtain⟨Y,g',h1,h2,K,P,h5⟩:=h.mutR r I;rw[hm]at h1;cases h1;have f:=lt_of_act? h2;have N:Knows (tr++#[y]) y.g r:=⟨tr.size,y,F,rfl,.inr (.single (.inr ⟨.marked (a:=⟨c,0,none⟩) f (.inr (by rw[act?_old f];exact h2)) (by rw[act?_of F,hy]) (λ k _ G=>by rw[act?_old G];exact h.norel k _),(heard_old f).2 K,G6 Z⟩))⟩;exact Knows.of_before (Before.app _ hi) N
 refine⟨λ said=>G5 (h.clean said) E,?_,?_,?_,?_,?_,?_,?_,?_,?_,?_⟩
 .intro k i a ha hp;obtain⟨hi,w⟩:=Zo E ha;rcases hp with hp|⟨hp,U⟩
  .rcases(X _ _ hp).2 with H|⟨rfl,H⟩
   .exact(h.known k i a w (.inl H)).app _
   .exact L i (h.mutK i a w (.inl H))
  .rcases(V _ _ hp).2 with H|⟨rfl,H⟩
   .exact(h.known k i a w (.inr ⟨H,U⟩)).app _
   .exact L i (h.mutK i a w (.inr ⟨H,U⟩))
 .intro op B;rcases Array.mem_append.1 B with B|B
  .exact h.low op B
  .simp at B;subst B;rw[hy];exact T
 .intro i a e;rcases HE e with⟨_,e⟩|⟨_,op,B,M⟩
  .exact h.norel i a e
  .simp at B;subst B;rw[hy]at M;cases M
 .intro i a ha hbl G g' hg';obtain⟨hi,w⟩:=Zo E ha;exact(h.grpP i a w hbl G g' hg').app _
 .intro i a ha hbl G;obtain⟨hi,w⟩:=Zo E ha;exact(h.grpS i a w hbl G).app _
 .intro g' r N;obtain⟨b,h1,h2,K,P⟩:=h.relok g' r N;have f:=lt_of_act? h2;exact⟨b,h1,by rw[act?_old f];exact h2,(heard_old f).2 K,by rw[g?_old f];exact P⟩
 .intro i g' hg' hne hc;obtain⟨hi,S⟩:=W9 E hc;rw[g?_old hi]at hg';rcases h.hand i g' hg' hne S with h1|⟨r,h1,h2⟩|h1
  .exact .inl h1
  .exact .inr (.inl ⟨r,h1,h2.app _⟩)
  .exact .inr (.inr (h1.app _))
 .intro i a ha hbl G g' hg';obtain⟨hi,w⟩:=Zo E ha;exact(h.grpM i a w hbl G g' hg').app _
 .intro i a ha hp;rcases hp with hp|⟨hp,U⟩
  .exact absurd rfl (X _ _ hp).1
  .exact absurd rfl (V _ _ hp).1
 .intro r N;obtain⟨Y,g',h1,h2,K,P,h5⟩:=h.mutR r N;have f:=lt_of_act? h2;exact⟨Y,g',h1,by rw[act?_old f];exact h2,(heard_old f).2 K,by rw[g?_old f];exact P,h5.imp id λ⟨r',k1,k2⟩=>⟨r',k1,k2.app _⟩⟩
end
end
variable{σ:Addr}{w w':World}{t:TypeId}{st sm st' sm' v:Value}{es E:Array Event}{bs:List (Nat×Bool)}{l:Loc}{U' τ Up:Qa T}{α:Type _}{ε k':Hd}{δ:Hd->Qa T}{μ ν:Qw}{tp tc:T}{pend:Bool}{j s:Nat}{W:List Nat}{dM:Nat->List Qw}{M:List Qw}{Q:Value->Value->World}{ok:List (Nat×Bool)->Prop}{β:Frame}{cs:List Frame}{φ:Sem Next}{χ:GStep}{status:GoStatus}{offers:Option (Array CommCase×CommShape)}{I:Gr}{π:List Deferred}
inductive QE(α:Type) where
 |ok (a:α) (st sm:Value) (es:Array Event) (bs:List (Nat×Bool))
 |blocked (st sm:Value) (bs:List (Nat×Bool))
 |stuck
def JQ(a:Addr):Bool:=a.spot.isNone&&Nat.beq a.off 0
def JP(a:Addr):Bool:=a.spot.isNone&&Nat.beq a.off 1
def SH(h:JQ σ=true):σ=⟨σ.block,0,none⟩:=by
 obtain⟨b,o,s⟩:=σ;simp only[JQ,Bool.and_eq_true,Option.isNone_iff_eq_none]at h;obtain⟨h1,h2⟩:=h;have:=Nat.eq_of_beq_eq_true h2
 simp_all
def SG(h:JP σ=true):σ=⟨σ.block,1,none⟩:=by
 obtain⟨b,o,s⟩:=σ;simp only[JP,Bool.and_eq_true,Option.isNone_iff_eq_none]at h;obtain⟨h1,h2⟩:=h;have:=Nat.eq_of_beq_eq_true h2
 simp_all
def Gy:Value->Bool
 |.int ..=>true
 |_=>false
def QB(P:Program)(t:TypeId){α:Type}:Sem α->Value->Value->Array Event->List (Nat×Bool)->QE α
 |.pure a,st,sm,es,bs=>.ok a st sm es bs
 |.program k,st,sm,es,bs=>QB P t (k P) st sm es bs
 |.mark m k,st,sm,es,bs=>QB P t k st sm (es.push ⟨.mark m,false,true⟩) bs
 |.load .atomic a k,st,sm,es,bs=>
  bif JQ a then QB P t (k st) st sm (es.push ⟨.cell a,false,true⟩) ((a.block,true)::bs)
  else bif JP a then QB P t (k sm) st sm (es.push ⟨.cell a,false,true⟩) ((a.block,true)::bs)else .stuck
 |.load .plain a k,st,sm,es,bs=>
  bif JQ a then QB P t (k st) st sm (es.push ⟨.cell a,false,false⟩) ((a.block,true)::bs)
  else bif JP a then QB P t (k sm) st sm (es.push ⟨.cell a,false,false⟩) ((a.block,true)::bs)else .stuck
 |.store .atomic a v k,st,sm,es,bs=>
  bif Gy v then
   bif JQ a then QB P t k v sm (es.push ⟨.cell a,true,true⟩) ((a.block,true)::bs)
   else bif JP a then QB P t k st v (es.push ⟨.cell a,true,true⟩) ((a.block,true)::bs)else .stuck
  else .stuck
 |.shape r k,st,sm,es,bs=>QB P t (k (some (t,2))) st sm es ((r,false)::bs)
 |.frozen a k,st,sm,es,bs=>QB P t (k false) st sm es ((a.block,false)::bs)
 |.halt .blocked,st,sm,_,bs=>.blocked st sm bs
 |_,_,_,_,_=>.stuck
def Sh(b:Nat)(t:TypeId)(st sm:Value)(w:World):Prop:=w.heap[b]?=some (.cells #[st,sm] t (0,0))
def two(w:World)(b:Nat)(t:TypeId)(st sm:Value):World:={ w with heap:=w.heap.setIfInBounds b (.cells #[st,sm] t (0,0)) }
def Sh.two{w:World}{b:Nat}{t:TypeId}{st sm st' sm':Value}(h:Sh b t st sm w):Sh b t st' sm' (two w b t st' sm'):=by
 have:=(Array.getElem?_eq_some_iff.1 h).1;simp[Sh,TM.two,this]
def Sh.two_same(h:Sh b t st sm w):TM.two w b t st sm=w:=by
 obtain⟨B,f⟩:=Array.getElem?_eq_some_iff.1 h
 have:w.heap.setIfInBounds b (.cells #[st,sm] t (0,0))=w.heap:=by
  apply Array.ext
  .simp
  .intro i hi hi';rw[Array.getElem_setIfInBounds (by simpa using hi)];split
   .rename_i e;subst e;exact f.symm
   .rfl
 simp[TM.two,this]
def IX:two (two w b t st sm) b t st' sm'=two w b t st' sm':=by
 simp[two,Array.setIfInBounds_setIfInBounds]
def Sh.cell0(h:Sh b t st sm w):w.cell? ⟨b,0,none⟩=some st/\w.cell? ⟨b,1,none⟩=some sm/\w.frozen? ⟨b,0,none⟩=false/\w.frozen? ⟨b,1,none⟩=false:=by
 unfold Sh at h;refine⟨?_,?_,?_,?_⟩ <;> simp[World.cell?,World.frozen?,h]
def Sh.set0(h:Sh b t st sm w):w.setCell ⟨b,0,none⟩ v=TM.two w b t v sm:=by
 obtain⟨B,f⟩:=Array.getElem?_eq_some_iff.1 h;simp only[World.setCell,TM.two];congr 1;apply Array.ext
 .simp
 .intro i hi hi';simp only[Array.getElem_modify,Array.getElem_setIfInBounds (by simpa using hi)];split
  .rename_i e;subst e;simp[f]
  .rfl
def Sh.set1(h:Sh b t st sm w):w.setCell ⟨b,1,none⟩ v=TM.two w b t st v:=by
 obtain⟨B,f⟩:=Array.getElem?_eq_some_iff.1 h;simp only[World.setCell,TM.two];congr 1;apply Array.ext
 .simp
 .intro i hi hi';simp only[Array.getElem_modify,Array.getElem_setIfInBounds (by simpa using hi)];split
  .rename_i e;subst e;simp[f]
  .rfl
def Yn(P:Program)(s:Sem T)(b:Nat)(t:TypeId)(w:World)(es:Array Event)(bs:List (Nat×Bool)):QE T->Prop
 |.ok x st' sm' h f=>(∀y∈f,y.1=b)->(∀y∈bs,y∈f)/\s.runT P w es=(.ok x (two w b t st' sm'),h)
 |.blocked st' sm' f=>(∀y∈f,y.1=b)->(∀y∈bs,y∈f)/\∃h,s.runT P w es=(.halt .blocked (two w b t st' sm'),h)
 |.stuck=>True
def Yn.of{s H:Sem T}{r:QE T}
  (h:Yn P H b t w' E ((c,m)::bs) r) (G:c=b->s.runT P w es=H.runT P w' E) (ht:∀st sm,two w' b t st sm=two w b t st sm):Yn P s b t w es bs r:=by
 cases r with
 |ok x st' sm' B F=>
  intro hb;obtain⟨h1,h2⟩:=h hb;exact⟨λ y hy=>h1 y (by simp[hy]),by rw[G (hb _ (h1 (c,m) S1)),h2,ht]⟩
 |blocked st' sm' F=>
  intro hb;obtain⟨h1,B,h2⟩:=h hb;exact⟨λ y hy=>h1 y (by simp[hy]),B,by rw[G (hb _ (h1 (c,m) S1)),h2,ht]⟩
 |stuck=>trivial
def pS(s:Sem T):∀{st sm:Value}{es:Array Event}{bs:List (Nat×Bool)}{w:World},
  Sh b t st sm w->Yn P s b t w es bs (QB P t s st sm es bs):=by
 induction s with
 |pure a=>
  intro st sm es bs w f hb;exact⟨λ _ h=>h,by rw[f.two_same];rfl⟩
 |program k G=>
  intro st sm es bs w f;exact G P f
 |mark m k G=>
  intro st sm es bs w f;exact G f
 |load m a k G=>
  intro st sm es bs w f;cases m with
  |plain=>
   simp only[QB];cases e:JQ a with
   |true=>
    simp only[cond_true];refine(G st f).of (λ B=>?_) (λ _ _=>rfl);have ea:=SH e;rw[B]at ea;have E:=f.cell0.1;rw[<- ea]at E;simp only[Sem.runT,E];rfl
   |false=>
    simp only[cond_false];cases I:JP a with
    |false=>exact trivial
    |true=>
     simp only[cond_true];refine(G sm f).of (λ B=>?_) (λ _ _=>rfl);have ea:=SG I;rw[B]at ea;have E:=f.cell0.2.1;rw[<- ea]at E;simp only[Sem.runT,E];rfl
  |atomic=>
   simp only[QB];cases e:JQ a with
   |true=>
    simp only[cond_true];refine(G st f).of (λ B=>?_) (λ _ _=>rfl);have ea:=SH e;rw[B]at ea;have E:=f.cell0.1;rw[<- ea]at E;simp only[Sem.runT,E];rfl
   |false=>
    simp only[cond_false];cases I:JP a with
    |false=>exact trivial
    |true=>
     simp only[cond_true];refine(G sm f).of (λ B=>?_) (λ _ _=>rfl);have ea:=SG I;rw[B]at ea;have E:=f.cell0.2.1;rw[<- ea]at E;simp only[Sem.runT,E];rfl
 |store m a v k G=>
  intro st sm es bs w f;cases m with
  |plain=>exact trivial
  |atomic=>
   simp only[QB];cases K:Gy v with
   |false=>exact trivial
   |true=>
    simp only[cond_true]
    obtain⟨H,n,rfl⟩:∃H n,v=.int H n:=by
     cases v <;> simp[Gy]at K;exact⟨_,_,rfl⟩
    cases e:JQ a with
    |true=>
     simp only[cond_true];refine(G (w:=two w b t (.int H n) sm) f.two).of (λ B=>?_) (λ _ _=>IX);have ea:=SH e;rw[B]at ea;have E:=f.cell0.1;have hf:=f.cell0.2.2.1;have F:=f.set0 (v:=.int H n);rw[<- ea]at E hf F;simp only[Sem.runT,E,hf,Bool.false_eq_true,if_false,F];rfl
    |false=>
     simp only[cond_false];cases I:JP a with
     |false=>exact trivial
     |true=>
      simp only[cond_true];refine(G (w:=two w b t st (.int H n)) f.two).of (λ B=>?_) (λ _ _=>IX);have ea:=SG I;rw[B]at ea;have E:=f.cell0.2.1;have hf:=f.cell0.2.2.2;have F:=f.set1 (v:=.int H n);rw[<- ea]at E hf F;simp only[Sem.runT,E,hf,Bool.false_eq_true,if_false,F];rfl
 |shape r k G=>
  intro st sm es bs w f;refine(G (some (t,2)) f).of (λ B=>?_) (λ _ _=>rfl);subst B;simp only[Sem.runT,World.shape?,show w.heap[r]?=_ from f];rfl
 |frozen a k G=>
  intro st sm es bs w f;refine(G false f).of (λ B=>?_) (λ _ _=>rfl);subst B;have:w.frozen? a=false:=by simp[World.frozen?,show w.heap[a.block]?=_ from f]
  simp only[Sem.runT,this]
 |halt h=>
  intro st sm es bs w f;cases h with
  |blocked=>exact λ hb=>⟨λ _ h=>h,es,by rw[f.two_same];rfl⟩
  |_=>exact trivial
 |_=>intro st sm es bs w f;exact trivial
def gP{P:Program}{t:TypeId}{α:Type}(s:Sem α):∀{st sm:Value}{es:Array Event}{bs:List (Nat×Bool)}{x:α}{st' sm':Value}{f:Array Event}{b:List (Nat×Bool)},
  QB P t s st sm es bs=.ok x st' sm' f b->(∃l,b=l++bs)/\(b=bs->(st'=st/\sm'=sm)/\∀w,s.runT P w es=(.ok x w,f)):=by
 induction s with
 |pure a=>
  intro st sm es bs x st' sm' f b h;simp only[QB,QE.ok.injEq]at h;obtain⟨rfl,rfl,rfl,rfl,rfl⟩:=h;exact⟨⟨[],rfl⟩,λ _=>⟨⟨rfl,rfl⟩,λ _=>rfl⟩⟩
 |program k B=>intro st sm es bs x st' sm' f b h;exact B P h
 |mark m k B=>intro st sm es bs x st' sm' f b h;exact B h
 |load m a k B=>
  intro st sm es bs x st' sm' f b h;cases m with
  |plain=>
   simp only[QB]at h
   have key:∀v,QB P t (k v) st sm (es.push ⟨.cell a,false,false⟩) ((a.block,true)::bs)=.ok x st' sm' f b->(∃l,b=l++bs)/\(b=bs->(st'=st/\sm'=sm)/\∀w,(Sem.load .plain a k).runT P w es=(.ok x w,f)):=by
    intro v E;obtain⟨⟨l,rfl⟩,_⟩:=B v E;refine⟨⟨l++[(a.block,true)],S1⟩,λ e=>?_⟩;have:=congrArg List.length e;simp at this;omega
   cases e:JQ a <;> rw[e]at h <;> simp only[cond_true,cond_false]at h
   .cases e2:JP a <;> rw[e2]at h <;> simp only[cond_true,cond_false]at h
    .cases h
    .exact key _ h
   .exact key _ h
  |atomic=>
   simp only[QB]at h
   have key:∀v,QB P t (k v) st sm (es.push ⟨.cell a,false,true⟩) ((a.block,true)::bs)=.ok x st' sm' f b->(∃l,b=l++bs)/\(b=bs->(st'=st/\sm'=sm)/\∀w,(Sem.load .atomic a k).runT P w es=(.ok x w,f)):=by
    intro v E;obtain⟨⟨l,rfl⟩,_⟩:=B v E;refine⟨⟨l++[(a.block,true)],S1⟩,λ e=>?_⟩;have:=congrArg List.length e;simp at this;omega
   cases e:JQ a <;> rw[e]at h <;> simp only[cond_true,cond_false]at h
   .cases e2:JP a <;> rw[e2]at h <;> simp only[cond_true,cond_false]at h
    .cases h
    .exact key _ h
   .exact key _ h
 |store m a v k B=>
  intro st sm es bs x st' sm' f b h;cases m with
  |plain=>simp[QB]at h
  |atomic=>
   simp only[QB]at h
   have key:∀u F,QB P t k u F (es.push ⟨.cell a,true,true⟩) ((a.block,true)::bs)=.ok x st' sm' f b->(∃l,b=l++bs)/\(b=bs->(st'=st/\sm'=sm)/\∀w,(Sem.store .atomic a v k).runT P w es=(.ok x w,f)):=by
    intro u F E;obtain⟨⟨l,rfl⟩,_⟩:=B E;refine⟨⟨l++[(a.block,true)],S1⟩,λ e=>?_⟩;have:=congrArg List.length e;simp at this;omega
   cases G:Gy v <;> rw[G]at h <;> simp only[cond_true,cond_false]at h
   .cases h
   .cases e:JQ a <;> rw[e]at h <;> simp only[cond_true,cond_false]at h
    .cases e2:JP a <;> rw[e2]at h <;> simp only[cond_true,cond_false]at h
     .cases h
     .exact key _ _ h
    .exact key _ _ h
 |shape r k B=>
  intro st sm es bs x st' sm' f b h;obtain⟨⟨l,rfl⟩,_⟩:=B _ h;refine⟨⟨l++[(r,false)],S1⟩,λ e=>?_⟩;have:=congrArg List.length e;simp at this;omega
 |frozen a k B=>
  intro st sm es bs x st' sm' f b h;obtain⟨⟨l,rfl⟩,_⟩:=B _ h;refine⟨⟨l++[(a.block,false)],S1⟩,λ e=>?_⟩;have:=congrArg List.length e;simp at this;omega
 |halt H=>intro st sm es bs x st' sm' f b h;cases H <;> simp[QB]at h
 |_=>intro st sm es bs x st' sm' f b h;simp[QB]at h
def vV{P:Program}{t:TypeId}{α:Type}(s:Sem α):∀{st sm:Value}{es:Array Event}{bs:List (Nat×Bool)}{st' sm':Value}{b:List (Nat×Bool)},
  QB P t s st sm es bs=.blocked st' sm' b->(∃l,b=l++bs)/\(b=bs->∀w,∃f,s.runT P w es=(.halt .blocked w,f)):=by
 induction s with
 |pure a=>intro st sm es bs st' sm' b h;simp[QB]at h
 |program k B=>intro st sm es bs st' sm' b h;exact B P h
 |mark m k B=>intro st sm es bs st' sm' b h;exact B h
 |load m a k B=>
  intro st sm es bs st' sm' b h;cases m with
  |plain=>
   simp only[QB]at h
   have key:∀v,QB P t (k v) st sm (es.push ⟨.cell a,false,false⟩) ((a.block,true)::bs)=.blocked st' sm' b->(∃l,b=l++bs)/\(b=bs->∀w,∃f,(Sem.load .plain a k).runT P w es=(.halt .blocked w,f)):=by
    intro v E;obtain⟨⟨l,rfl⟩,_⟩:=B v E;refine⟨⟨l++[(a.block,true)],S1⟩,λ e=>?_⟩;have:=congrArg List.length e;simp at this;omega
   cases e:JQ a <;> rw[e]at h <;> simp only[cond_true,cond_false]at h
   .cases e2:JP a <;> rw[e2]at h <;> simp only[cond_true,cond_false]at h
    .cases h
    .exact key _ h
   .exact key _ h
  |atomic=>
   simp only[QB]at h
   have key:∀v,QB P t (k v) st sm (es.push ⟨.cell a,false,true⟩) ((a.block,true)::bs)=.blocked st' sm' b->(∃l,b=l++bs)/\(b=bs->∀w,∃f,(Sem.load .atomic a k).runT P w es=(.halt .blocked w,f)):=by
    intro v E;obtain⟨⟨l,rfl⟩,_⟩:=B v E;refine⟨⟨l++[(a.block,true)],S1⟩,λ e=>?_⟩;have:=congrArg List.length e;simp at this;omega
   cases e:JQ a <;> rw[e]at h <;> simp only[cond_true,cond_false]at h
   .cases e2:JP a <;> rw[e2]at h <;> simp only[cond_true,cond_false]at h
    .cases h
    .exact key _ h
   .exact key _ h
 |store m a v k B=>
  intro st sm es bs st' sm' b h;cases m with
  |plain=>simp[QB]at h
  |atomic=>
   simp only[QB]at h
   have key:∀u F,QB P t k u F (es.push ⟨.cell a,true,true⟩) ((a.block,true)::bs)=.blocked st' sm' b->(∃l,b=l++bs)/\(b=bs->∀w,∃f,(Sem.store .atomic a v k).runT P w es=(.halt .blocked w,f)):=by
    intro u F E;obtain⟨⟨l,rfl⟩,_⟩:=B E;refine⟨⟨l++[(a.block,true)],S1⟩,λ e=>?_⟩;have:=congrArg List.length e;simp at this;omega
   cases G:Gy v <;> rw[G]at h <;> simp only[cond_true,cond_false]at h
   .cases h
   .cases e:JQ a <;> rw[e]at h <;> simp only[cond_true,cond_false]at h
    .cases e2:JP a <;> rw[e2]at h <;> simp only[cond_true,cond_false]at h
     .cases h
     .exact key _ _ h
    .exact key _ _ h
 |shape r k B=>
  intro st sm es bs st' sm' b h;obtain⟨⟨l,rfl⟩,_⟩:=B _ h;refine⟨⟨l++[(r,false)],S1⟩,λ e=>?_⟩;have:=congrArg List.length e;simp at this;omega
 |frozen a k B=>
  intro st sm es bs st' sm' b h;obtain⟨⟨l,rfl⟩,_⟩:=B _ h;refine⟨⟨l++[(a.block,false)],S1⟩,λ e=>?_⟩;have:=congrArg List.length e;simp at this;omega
 |halt H=>
  intro st sm es bs st' sm' b h;cases H with
  |blocked=>
   simp only[QB,QE.blocked.injEq]at h;obtain⟨rfl,rfl,rfl⟩:=h;exact⟨⟨[],rfl⟩,λ _ w=>⟨es,rfl⟩⟩
  |_=>simp[QB]at h
 |_=>intro st sm es bs st' sm' b h;simp[QB]at h
def kM(P:Program)(s:Sem T)(W:Value->Value->World)(ok:List (Nat×Bool)->Prop)(w:World):QE T->Prop
 |.ok x st' sm' f b=>ok b->s.runT P w #[]=(.ok x (W st' sm'),f)
 |.blocked st' sm' b=>ok b->∃f,s.runT P w #[]=(.halt .blocked (W st' sm'),f)
 |.stuck=>True
structure WT(P:Program)(t:TypeId)(st sm:Value)(w:World)(W:Value->Value->World)(ok:List (Nat×Bool)->Prop):Prop where
 ran:∀{α:Type}(s:Sem α),kM P s W ok w (QB P t s st sm #[] [])
 same:W st sm=w
 nil:ok []
def WT.sh(h:Sh b t st sm w):WT P t st sm w (two w b t) (λ bs=>∀y∈bs,y.1=b):=by
 refine⟨λ s=>?_,h.two_same,S1⟩;have:=pS (P:=P) s (es:=#[]) (bs:=[]) h;generalize QB P t s st sm #[] []=r at this;cases r with
 |ok x st' sm' es bs=>exact λ hb=>(this hb).2
 |blocked st' sm' bs=>exact λ hb=>(this hb).2
 |stuck=>trivial
def WT.calm:WT P t st sm w (λ _ _=>w) (λ bs=>bs=[]):=by
 refine⟨λ s=>?_,rfl,rfl⟩;have h1:=@gP P t _ s st sm #[] [];have h2:=@vV P t _ s st sm #[] [];generalize QB P t s st sm #[] []=r at h1 h2;cases r with
 |ok x st' sm' es bs=>exact λ hb=>((h1 rfl).2 hb).2 w
 |blocked st' sm' bs=>exact λ hb=>(h2 rfl).2 hb w
 |stuck=>trivial
def Dl{P:Program}{t:TypeId}{α:Type}(s:Sem α):∀{st sm:Value}{es:Array Event}{bs:List (Nat×Bool)}{x:α}{st' sm':Value}{f:Array Event}{b:List (Nat×Bool)},
  QB P t s st sm es bs=.ok x st' sm' f b->(∃l,b=l++bs)/\((b.all (!·.2))=true->(st'=st/\sm'=sm)/\∀B w,QB P t s B w es bs=.ok x B w f b):=by
 induction s with
 |pure a=>
  intro st sm es bs x st' sm' f b h;simp only[QB,QE.ok.injEq]at h;obtain⟨rfl,rfl,rfl,rfl,rfl⟩:=h;exact⟨⟨[],rfl⟩,λ _=>⟨⟨rfl,rfl⟩,λ _ _=>rfl⟩⟩
 |program k E=>intro st sm es bs x st' sm' f b h;exact E P h
 |mark m k E=>intro st sm es bs x st' sm' f b h;exact E h
 |load m a k E=>
  intro st sm es bs x st' sm' f b h;cases m with
  |plain=>
   simp only[QB]at h
   have key:∀v,QB P t (k v) st sm (es.push ⟨.cell a,false,false⟩) ((a.block,true)::bs)=.ok x st' sm' f b->(∃l,b=l++bs)/\((b.all (!·.2))=true->(st'=st/\sm'=sm)/\∀B w,QB P t (Sem.load .plain a k) B w es bs=.ok x B w f b):=by
    intro v F;obtain⟨⟨l,rfl⟩,_⟩:=E v F;exact⟨⟨l++[(a.block,true)],S1⟩,λ e=>by simp at e⟩
   cases e:JQ a <;> rw[e]at h <;> simp only[cond_true,cond_false]at h
   .cases e2:JP a <;> rw[e2]at h <;> simp only[cond_true,cond_false]at h
    .cases h
    .exact key _ h
   .exact key _ h
  |atomic=>
   simp only[QB]at h
   have key:∀v,QB P t (k v) st sm (es.push ⟨.cell a,false,true⟩) ((a.block,true)::bs)=.ok x st' sm' f b->(∃l,b=l++bs)/\((b.all (!·.2))=true->(st'=st/\sm'=sm)/\∀B w,QB P t (Sem.load .atomic a k) B w es bs=.ok x B w f b):=by
    intro v F;obtain⟨⟨l,rfl⟩,_⟩:=E v F;exact⟨⟨l++[(a.block,true)],S1⟩,λ e=>by simp at e⟩
   cases e:JQ a <;> rw[e]at h <;> simp only[cond_true,cond_false]at h
   .cases e2:JP a <;> rw[e2]at h <;> simp only[cond_true,cond_false]at h
    .cases h
    .exact key _ h
   .exact key _ h
 |store m a v k E=>
  intro st sm es bs x st' sm' f b h;cases m with
  |plain=>simp[QB]at h
  |atomic=>
   simp only[QB]at h
   have key:∀u G,QB P t k u G (es.push ⟨.cell a,true,true⟩) ((a.block,true)::bs)=.ok x st' sm' f b->(∃l,b=l++bs)/\((b.all (!·.2))=true->(st'=st/\sm'=sm)/\∀B w,QB P t (Sem.store .atomic a v k) B w es bs=.ok x B w f b):=by
    intro u G F;obtain⟨⟨l,rfl⟩,_⟩:=E F;exact⟨⟨l++[(a.block,true)],S1⟩,λ e=>by simp at e⟩
   cases H:Gy v <;> rw[H]at h <;> simp only[cond_true,cond_false]at h
   .cases h
   .cases e:JQ a <;> rw[e]at h <;> simp only[cond_true,cond_false]at h
    .cases e2:JP a <;> rw[e2]at h <;> simp only[cond_true,cond_false]at h
     .cases h
     .exact key _ _ h
    .exact key _ _ h
 |shape r k E=>
  intro st sm es bs x st' sm' f b h;obtain⟨⟨l,rfl⟩,h2⟩:=E _ h;exact⟨⟨l++[(r,false)],S1⟩,λ e=>h2 e⟩
 |frozen a k E=>
  intro st sm es bs x st' sm' f b h;obtain⟨⟨l,rfl⟩,h2⟩:=E _ h;exact⟨⟨l++[(a.block,false)],S1⟩,λ e=>h2 e⟩
 |halt I=>intro st sm es bs x st' sm' f b h;cases I <;> simp[QB]at h
 |_=>intro st sm es bs x st' sm' f b h;simp[QB]at h
def Zu(h:U.canW l):U.canR l:=Qx.2 (.inl (Q4.1 h))
def vf(h:U.ok w)(e:w'.heap=w.heap):U.ok w':=by
 refine⟨λ b o hb=>by rw[e];exact h.imm b o hb,λ r f=>?_,h.apart,h.sep⟩;have:=h.held r f;cases r <;> simpa[Qw.ok,e]using this
def Kr(h:U.ok w)(hl:U.canR l):¬Loc.new w l:=by
 rcases Qx.1 hl with⟨r,F,hl⟩|hl
 .have hk:=h.held r F;cases r with
  |obj b o=>
   have f:=(Array.getElem?_eq_some_iff.1 hk).1;cases o <;> cases l <;> simp only[Qw.lets,Loc.new]at hl ⊢ <;> first|exact hl.elim|omega
  |cell b i v t n=>
   obtain⟨c,hb,_⟩:=hk;have f:=(Array.getElem?_eq_some_iff.1 hb).1;cases l <;> simp only[Qw.lets,Loc.new]at hl ⊢ <;> first|exact hl.elim|omega
 .cases l with
  |cell a=>
   obtain⟨c,t,fr,B,_⟩:=hl;have f:=(Array.getElem?_eq_some_iff.1 (h.imm _ _ B)).1;simp only[Loc.new];omega
  |obj b=>
   obtain⟨o,E⟩:=hl;have f:=(Array.getElem?_eq_some_iff.1 (h.imm _ _ E)).1;simp only[Loc.new];omega
  |_=>exact hl.elim
def gD(g:ZQ U w w' U')(h:τ.ok w)(F:∀l,U.canW l->¬τ.canR l):τ.ok w':=by
 have cells:∀b c t fr,w.heap[b]?=some (.cells c t fr)->τ.canR (.obj b)->(∀i,i<c.size->τ.canR (.cell ⟨b,i,none⟩))->w'.heap[b]?=some (.cells c t fr):=by
  intro b c t fr hb Q hi;obtain⟨c',H,h1,h2,I,K⟩:=g.cells b c t fr hb;obtain rfl:=K.resolve_right λ h=>F _ h.1 Q
  have:c'=c:=by
   apply Array.ext h2;intro i L E;have:=I i λ G=>F _ G (hi i E);simpa[L,E]using this
  rw[h1,this]
 have obj:∀b o,w.heap[b]?=some o->τ.canR (.obj b)->(∀c t fr,o=.cells c t fr->∀i,i<c.size->τ.canR (.cell ⟨b,i,none⟩))->w'.heap[b]?=some o:=by
  intro b o hb f N;by_cases B:∃c t fr,o=.cells c t fr
  .obtain⟨c,t,fr,rfl⟩:=B;exact cells b c t fr hb f (N c t fr rfl)
  .exact g.objs b o hb (λ c t fr e=>B ⟨c,t,fr,e⟩) λ G=>F _ G f
 refine⟨λ b o hb=>?_,λ r f=>?_,h.apart,h.sep⟩
 .exact obj b o (h.imm b o hb) (Qx.2 (.inr ⟨o,hb⟩)) λ c t fr e i hi=>Qx.2 (.inr ⟨c,t,fr,by rw[<- e];exact hb,hi⟩)
 .have hk:=h.held r f;cases r with
  |obj b o=>
   exact obj b o hk (Qx.2 (.inl ⟨_,f,by cases o <;> rfl⟩)) λ c t fr e i hi=>Qx.2 (.inl ⟨_,f,by subst e;exact⟨rfl,hi⟩⟩)
  |cell b i v t n=>
   obtain⟨c,hb,P,M⟩:=hk;obtain⟨c',H,h1,h2,I,K⟩:=g.cells b c t (0,0) hb;have hi:i<c.size:=(Array.getElem?_eq_some_iff.1 M).1;obtain rfl:=K.resolve_right λ h=>F _ (h.2 i hi) (Qx.2 (.inl ⟨_,f,rfl,rfl⟩));refine⟨c',h1,h2.trans P,?_⟩;rw[I i λ G=>F _ G (Qx.2 (.inl ⟨_,f,rfl,rfl⟩))];exact M
def QJ(b:Nat)(U:Qa T):Prop:=∀a:Addr,a.block=b->a.off<2->¬U.canR (.cell a)
def HZ(h:τ.ok w)(F:Sh b t st sm w)(E:QJ b τ):τ.ok (two w b t st' sm'):=by
 have ne:∀x o,w.heap[x]?=some o->(∀c t fr,o=.cells c t fr->∀i,i<c.size->τ.canR (.cell ⟨x,i,none⟩))->(two w b t st' sm').heap[x]?=some o:=by
  intro x o hx H
  have:x≠b:=by
   intro e;subst e;rw[show w.heap[x]?=_ from F]at hx;cases hx;exact E ⟨x,0,none⟩ rfl (Nat.zero_lt_two) (H _ _ _ rfl 0 S1)
  simp only[two];rw[Array.getElem?_setIfInBounds_ne (Ne.symm this)];exact hx
 refine⟨λ x o hx=>ne x o (h.imm x o hx) λ c t fr e i hi=>Qx.2 (.inr ⟨c,t,fr,by rw[<- e];exact hx,hi⟩),λ r f=>?_,h.apart,h.sep⟩;have B:=h.held r f;cases r with
 |obj x o=>exact ne x o B λ c t fr e i hi=>Qx.2 (.inl ⟨_,f,by subst e;exact⟨rfl,hi⟩⟩)
 |cell x i v t n=>
  obtain⟨c,hb,I,G⟩:=B;refine⟨c,?_,I,G⟩
  have:x≠b:=by
   intro e;subst e;rw[show w.heap[x]?=_ from F]at hb;cases hb;have hi:i<2:=by simpa using(Array.getElem?_eq_some_iff.1 G).1
   exact E ⟨x,i,none⟩ rfl hi (Qx.2 (.inl ⟨_,f,rfl,rfl⟩))
  simp only[two];rw[Array.getElem?_setIfInBounds_ne (Ne.symm this)];exact hb
def Sh.guar(h:Sh b t st sm w)(g:ZQ U w w' U')(E:QJ b U):Sh b t st sm w':=by
 obtain⟨c',F,h1,h2,G,H⟩:=g.cells b _ t (0,0) h;obtain rfl:=H.resolve_right λ h=>E ⟨b,0,none⟩ rfl Nat.zero_lt_two (Zu (h.2 0 S1))
 have:c'=#[st,sm]:=by
  apply Array.ext h2;intro i B f;have:=G i λ I=>E ⟨b,i,none⟩ rfl (by simpa using f) (Zu I);rw[Array.getElem?_eq_getElem B,Array.getElem?_eq_getElem f]at this;exact Option.some.inj this
 rw[this]at h1;exact h1
structure VI(V:Hd->Qa T)(w:World):Prop where
 ok:∀k,(V k).ok w
 sep:∀k k' l,k≠k'->(V k).canW l->¬(V k').canR l
def Q1(V:Hd->α)(k:Hd)(U:α):Hd->α:=λ k'=>if k'=k then U else V k'
def Ql(V:Hd->α)(k:Hd)(U:α):Q1 V k U k=U:=by simp[Q1]
def Qh(V:Hd->α)(U:α)(h:k'≠ε):Q1 V ε U k'=V k':=by simp[Q1,h]
def VI.priv(h:VI δ w)(g:ZQ (δ ε) w w' U')(ok:U'.ok w'):VI (Q1 δ ε U') w':=by
 refine⟨λ k'=>?_,λ E F l B f b=>?_⟩
 .by_cases e:k'=ε
  .subst e;rw[Ql];exact ok
  .rw[Qh _ _ e];exact gD g (h.ok k') λ l hl=>h.sep ε k' l (Ne.symm e) hl
 .by_cases e:E=ε
  .subst e;rw[Ql]at f;rw[Qh _ _ (Ne.symm B)]at b;rcases g.cw l f with f|f
   .exact h.sep _ _ l B f b
   .exact Kr (h.ok _) b f
  .rw[Qh _ _ e]at f;by_cases G:F=ε
   .subst G;rw[Ql]at b;rcases g.cr l b with b|b
    .exact h.sep _ _ l B f b
    .exact Kr (h.ok _) (Zu f) b
   .rw[Qh _ _ G]at b;exact h.sep _ _ l B f b
def VI.shift(h:VI δ w)(H:Qv (δ ε) U'):VI (Q1 δ ε U') w:=by
 obtain⟨h1,h2,G⟩:=H.2 w (h.ok ε);refine⟨λ k'=>?_,λ b f l B F E=>?_⟩
 .by_cases e:k'=ε
  .subst e;rw[Ql];exact h1
  .rw[Qh _ _ e];exact h.ok k'
 .refine h.sep b f l B ?_ ?_
  .by_cases e:b=ε
   .subst e;rw[Ql]at F;exact h2 l F
   .rwa [Qh _ _ e]at F
  .by_cases e:f=ε
   .subst e;rw[Ql]at E;exact G l E
   .rwa [Qh _ _ e]at E
def VI.two{V:Hd->Qa T}{w:World}{b:Nat}{t:TypeId}{st sm st' sm':Value}(h:VI V w)(B:Sh b t st sm w)(f:∀k,QJ b (V k)):VI V (two w b t st' sm'):=
 ⟨λ k=>HZ (h.ok k) B (f k),h.sep⟩
def VI.heap{V:Hd->Qa T}{w w':World}(h:VI V w)(e:w'.heap=w.heap):VI V w':=⟨λ k=>vf (h.ok k) e,h.sep⟩
structure HC(U Up Uc:Qa T):Prop where
 ok:∀w,U.ok w->Up.ok w/\Uc.ok w
 wp:∀l,Up.canW l->U.canW l
 rp:∀l,Up.canR l->U.canR l
 wc:∀l,Uc.canW l->U.canW l
 rc:∀l,Uc.canR l->U.canR l
 pc:∀l,Up.canW l->¬Uc.canR l
 cp:∀l,Uc.canW l->¬Up.canR l
def VI.fork{k c:Hd}{Uc:Qa T}(h:VI δ w)(hf:HC (δ k) Up Uc)(K:k≠c):VI (Q1 (Q1 δ k Up) c Uc) w:=by
 have I:∀k' l,(Q1 (Q1 δ k Up) c Uc k').canW l->(k'=k/\Up.canW l/\(δ k).canW l)\/(k'=c/\Uc.canW l/\(δ k).canW l)\/(k'≠k/\k'≠c/\(δ k').canW l):=by
  intro k' l hl;by_cases e:k'=c
  .subst e;rw[Ql]at hl;exact .inr (.inl ⟨rfl,hl,hf.wc l hl⟩)
  .rw[Qh _ _ e]at hl;by_cases f:k'=k
   .subst f;rw[Ql]at hl;exact .inl ⟨rfl,hl,hf.wp l hl⟩
   .rw[Qh _ _ f]at hl;exact .inr (.inr ⟨f,e,hl⟩)
 have H:∀k' l,(Q1 (Q1 δ k Up) c Uc k').canR l->(k'=k/\Up.canR l/\(δ k).canR l)\/(k'=c/\Uc.canR l/\(δ k).canR l)\/(k'≠k/\k'≠c/\(δ k').canR l):=by
  intro k' l hl;by_cases e:k'=c
  .subst e;rw[Ql]at hl;exact .inr (.inl ⟨rfl,hl,hf.rc l hl⟩)
  .rw[Qh _ _ e]at hl;by_cases f:k'=k
   .subst f;rw[Ql]at hl;exact .inl ⟨rfl,hl,hf.rp l hl⟩
   .rw[Qh _ _ f]at hl;exact .inr (.inr ⟨f,e,hl⟩)
 refine⟨λ k'=>?_,λ N P l b M L=>?_⟩
 .by_cases e:k'=c
  .subst e;rw[Ql];exact(hf.ok w (h.ok k)).2
  .rw[Qh _ _ e];by_cases f:k'=k
   .subst f;rw[Ql];exact(hf.ok w (h.ok k')).1
   .rw[Qh _ _ f];exact h.ok k'
 .rcases I _ _ M with⟨rfl,E,G⟩|⟨rfl,E,G⟩|⟨S,W,E⟩ <;> rcases H _ _ L with⟨e,B,F⟩|⟨e,B,F⟩|⟨Q,U,B⟩
  .exact b e.symm
  .exact hf.pc l E B
  .exact h.sep _ _ l b G B
  .exact hf.cp l E B
  .exact b e.symm
  .exact h.sep k _ l (Ne.symm Q) G B
  .subst e;exact h.sep _ _ l b E F
  .exact h.sep _ k l S E F
  .exact h.sep _ _ l b E B
def Qa.bare(τ:T):Qa T:=⟨λ _=>none,[],τ⟩
def Y7(τ:T)(w:World):(Qa.bare τ).ok w:=⟨λ _ _ h=>(by cases h),λ _ h=>(by cases h),Pairwise.nil,λ _ h=>(by cases h)⟩
def Wh(τ:T)(l:Loc):¬(Qa.bare τ).canW l:=λ h=>by obtain⟨r,b,_⟩:=Q4.1 h;cases b
def Wg(τ:T)(l:Loc):¬(Qa.bare τ).canR l:=λ h=>by
 rcases Qx.1 h with⟨r,b,_⟩|h
 .cases b
 .cases l <;> simp[Qa.bare]at h
def Qa.with(U:Qa T)(M:List Qw):Qa T:={ U with M:=U.M++M }
def OD(h:(U.with τ.M).canW l):U.canW l\/τ.canW l:=by
 obtain⟨r,b,hl⟩:=Q4.1 h;rcases mem_append.1 b with b|b
 .exact .inl (Q4.2 ⟨r,b,hl⟩)
 .exact .inr (Q4.2 ⟨r,b,hl⟩)
def OC(h:(U.with τ.M).canR l):U.canR l\/τ.canR l:=by
 rcases Qx.1 h with⟨r,b,hl⟩|h
 .rcases mem_append.1 b with b|b
  .exact .inl (Qx.2 (.inl ⟨r,b,hl⟩))
  .exact .inr (Qx.2 (.inl ⟨r,b,hl⟩))
 .exact .inl (Qx.2 (.inr h))
def Si(h:μ∈U.M):(∀b o,μ=.obj b o->U.canW (.obj b))/\(∀b i v t n,μ=.cell b i v t n->U.canW (.cell ⟨b,i,none⟩))/\(∀b c t fr i,μ=.obj b (.cells c t fr)->i<c.size->U.canW (.cell ⟨b,i,none⟩)):=by
 refine⟨λ b o e=>Q4.2 ⟨μ,h,?_⟩,λ b i v t n e=>Q4.2 ⟨μ,h,?_⟩,λ b c t fr i e hi=>Q4.2 ⟨μ,h,?_⟩⟩
 .subst e;cases o <;> rfl
 .subst e;exact⟨rfl,rfl⟩
 .subst e;exact⟨rfl,hi⟩
def vE(h1:U.ok w)(h2:τ.ok w)(L:∀l,U.canW l->¬τ.canR l)(X:∀l,τ.canW l->¬U.canR l):(U.with τ.M).ok w:=by
 refine⟨h1.imm,λ r f=>?_,?_,λ r f=>?_⟩
 .rcases mem_append.1 f with f|f
  .exact h1.held r f
  .exact h2.held r f
 .refine pairwise_append.2 ⟨h1.apart,h2.apart,λ r f P E=>?_⟩;obtain⟨Y,Q,Z⟩:=Si f;obtain⟨N,H,S⟩:=Si E;have W:=h1.held r f;have K:=h2.held P E;cases r with
  |obj b o=>
   cases P with
   |obj G o'=>
    simp only[Qw.apart,Qw.blk];intro e;subst e;exact L _ (Y _ _ rfl) (Zu (N _ _ rfl))
   |cell G i v t n=>
    simp only[Qw.apart,Qw.blk];intro e;subst e;obtain⟨c,h,V,F⟩:=K
    have:o=.cells c t (0,0):=by
     have B:w.heap[b]?=some o:=W;rw[B]at h;exact Option.some.inj h
    subst this;exact L _ (Z _ _ _ _ i rfl (Array.getElem?_eq_some_iff.1 F).1) (Zu (H _ _ _ _ _ rfl))
  |cell b i v t n=>
   cases P with
   |obj G o'=>
    simp only[Qw.apart,Qw.blk];intro e;subst e;obtain⟨c,h,V,F⟩:=W
    have:o'=.cells c t (0,0):=by
     have B:w.heap[b]?=some o':=K;rw[B]at h;exact Option.some.inj h
    subst this;exact L _ (Q _ _ _ _ _ rfl) (Zu (S _ _ _ _ i rfl (Array.getElem?_eq_some_iff.1 F).1))
   |cell G i' v' t' n'=>
    simp only[Qw.apart];by_cases e:b=G
    .by_cases e2:i=i'
     .subst e;subst e2;exact absurd (Zu (H _ _ _ _ _ rfl)) (L _ (Q _ _ _ _ _ rfl))
     .exact .inr e2
    .exact .inl e
 .rcases mem_append.1 f with f|f
  .exact h1.sep r f
  .show U.I r.blk=none;cases e:U.I r.blk with
   |none=>rfl
   |some o=>
    exfalso;obtain⟨N,H,S⟩:=Si f;have K:=h2.held r f;cases r with
    |obj b o'=>exact X _ (N _ _ rfl) (Qx.2 (.inr ⟨o,e⟩))
    |cell b i v t n=>
     obtain⟨c,h,V,F⟩:=K;have B:w.heap[b]?=some o:=h1.imm _ _ e;rw[h]at B;cases B;exact X _ (H _ _ _ _ _ rfl) (Qx.2 (.inr ⟨c,t,(0,0),e,(Array.getElem?_eq_some_iff.1 F).1⟩))
def VI.join{k:Hd}(h:VI δ w)(E:k≠k')(τ:T):VI (Q1 (Q1 δ k ((δ k).with (δ k').M)) k' (Qa.bare τ)) w:=by
 have F:=vE (h.ok k) (h.ok k') (λ l hl=>h.sep k k' l E hl) (λ l hl=>h.sep k' k l (Ne.symm E) hl)
 have I:∀x l,(Q1 (Q1 δ k ((δ k).with (δ k').M)) k' (Qa.bare τ) x).canW l->x≠k'/\((δ x).canW l\/(x=k/\(δ k').canW l)):=by
  intro x l hl;by_cases e:x=k'
  .subst e;rw[Ql]at hl;exact absurd hl (Wh _ _)
  .rw[Qh _ _ e]at hl;refine⟨e,?_⟩;by_cases b:x=k
   .subst b;rw[Ql]at hl;exact(OD hl).imp id λ h=>⟨rfl,h⟩
   .rw[Qh _ _ b]at hl;exact .inl hl
 have H:∀x l,(Q1 (Q1 δ k ((δ k).with (δ k').M)) k' (Qa.bare τ) x).canR l->x≠k'/\((δ x).canR l\/(x=k/\(δ k').canR l)):=by
  intro x l hl;by_cases e:x=k'
  .subst e;rw[Ql]at hl;exact absurd hl (Wg _ _)
  .rw[Qh _ _ e]at hl;refine⟨e,?_⟩;by_cases b:x=k
   .subst b;rw[Ql]at hl;exact(OC hl).imp id λ h=>⟨rfl,h⟩
   .rw[Qh _ _ b]at hl;exact .inl hl
 refine⟨λ x=>?_,λ N P l G L K=>?_⟩
 .by_cases e:x=k'
  .subst e;rw[Ql];exact Y7 _ _
  .rw[Qh _ _ e];by_cases b:x=k
   .subst b;rw[Ql];exact F
   .rw[Qh _ _ b];exact h.ok x
 .obtain⟨n1,B⟩:=I _ _ L;obtain⟨Q,f⟩:=H _ _ K;rcases B with B|⟨rfl,B⟩ <;> rcases f with f|⟨e,f⟩
  .exact h.sep _ _ l G B f
  .exact h.sep _ k' l n1 B f
  .exact h.sep k' _ l (Ne.symm Q) B f
  .exact G e.symm
def gT(U:Qa T)(τ b:T):HC U (Qa.bare τ) ⟨λ _=>none,U.M,b⟩:=by
 have B:∀l,(Qa.canW ⟨λ _=>none,U.M,b⟩ l)->U.canW l:=λ l hl=>Q4.2 (Q4.1 hl)
 have f:∀l,(Qa.canR ⟨λ _=>none,U.M,b⟩ l)->U.canR l:=by
  intro l hl;rcases Qx.1 hl with hl|hl
  .exact Qx.2 (.inl hl)
  .cases l <;> simp at hl
 exact⟨λ w ok=>⟨Y7 _ _,⟨λ _ _ h=>(by cases h),ok.held,ok.apart,λ _ _=>rfl⟩⟩,λ l h=>absurd h (Wh _ _),λ l h=>absurd h (Wg _ _),B,f,λ l h=>absurd h (Wh _ _),λ l _ h=>Wg _ _ h⟩
def Qw.lets_blk(h:μ.lets l):(∃a,l=.cell a/\a.block=μ.blk)\/l=.obj μ.blk:=by
 cases μ with
 |obj b o=>
  cases l with
  |cell a=>cases o <;> simp only[Qw.lets]at h;exact .inl ⟨a,rfl,h.1⟩
  |obj f=>right;cases o <;> simp only[Qw.lets]at h <;> rw[h] <;> rfl
  |_=>cases o <;> exact h.elim
 |cell b i v t n=>
  cases l with
  |cell a=>exact .inl ⟨a,rfl,h.1⟩
  |_=>exact h.elim
def Qw.apart_lets(h:μ.apart ν)(h1:μ.lets l)(h2:ν.lets l):False:=by
 have key:μ.blk≠ν.blk->False:=λ w=>by
  rcases Qw.lets_blk h1 with⟨a,rfl,e⟩|rfl
  .rcases Qw.lets_blk h2 with⟨a',e',f⟩|e'
   .cases e';exact w (e.symm.trans f)
   .cases e'
  .rcases Qw.lets_blk h2 with⟨a',e',f⟩|e'
   .cases e'
   .exact w (by simpa using e')
 cases μ with
 |obj b o=>exact key (by cases ν <;> exact h)
 |cell b i v t n=>
  cases ν with
  |obj B o=>exact key h
  |cell B j K I n'=>
   cases l with
   |cell a=>
    obtain⟨E,F⟩:=h1;obtain⟨G,H⟩:=h2;rcases h with h|h
    .exact h (E.symm.trans G)
    .exact h (F.symm.trans H)
   |_=>exact h1.elim
def It(H:U.ok w){M₁ M₂:List Qw}(h:Perm U.M (M₁++M₂)):HC U ⟨U.I,M₂,tp⟩ ⟨U.I,M₁,tc⟩:=by
 have B:=(h.pairwise_iff (λ{x y}h=>Qw.apart_symm h)).1 H.apart;rw[pairwise_append]at B;have h1:∀r∈M₁,r∈U.M:=λ r f=>h.mem_iff.2 (mem_append_left _ f);have h2:∀r∈M₂,r∈U.M:=λ r f=>h.mem_iff.2 (mem_append_right _ f)
 have G:∀(r:Qw)(l:Loc),r∈U.M->r.lets l->(match l with|.cell a=>∃c t fr,U.I a.block=some (.cells c t fr)/\a.off<c.size|.obj b=>∃o,U.I b=some o|_=>False)->False:=by
  intro r l f hl E;have F:=H.sep r f;rcases Qw.lets_blk hl with⟨a,rfl,e⟩|rfl
  .obtain⟨c,t,fr,hc,_⟩:=E;rw[e,F]at hc;cases hc
  .obtain⟨o,ho⟩:=E;rw[F]at ho;cases ho
 refine⟨λ w ok=>?_,λ l hl=>?_,λ l hl=>?_,λ l hl=>?_,λ l hl=>?_,λ l hl f=>?_,λ l hl f=>?_⟩
 .have hap':=(h.pairwise_iff (λ{x y}h=>Qw.apart_symm h)).1 ok.apart;rw[pairwise_append]at hap';exact⟨⟨ok.imm,λ r f=>ok.held r (h2 r f),hap'.2.1,λ r f=>ok.sep r (h2 r f)⟩,⟨ok.imm,λ r f=>ok.held r (h1 r f),hap'.1,λ r f=>ok.sep r (h1 r f)⟩⟩
 .rw[Q4]at hl ⊢;obtain⟨r,f,hl⟩:=hl;exact⟨r,h2 r f,hl⟩
 .rw[Qx]at hl ⊢;exact hl.imp (λ⟨r,f,hl⟩=>⟨r,h2 r f,hl⟩) id
 .rw[Q4]at hl ⊢;obtain⟨r,f,hl⟩:=hl;exact⟨r,h1 r f,hl⟩
 .rw[Qx]at hl ⊢;exact hl.imp (λ⟨r,f,hl⟩=>⟨r,h1 r f,hl⟩) id
 .obtain⟨r,hr_2,hl⟩:=Q4.1 hl;rcases Qx.1 f with⟨s,F,hl'⟩|E
  .exact Qw.apart_lets (B.2.2 s F r hr_2) hl' hl
  .exact G r l (h2 r hr_2) hl E
 .obtain⟨r,hr_2,hl⟩:=Q4.1 hl;rcases Qx.1 f with⟨s,F,hl'⟩|E
  .exact Qw.apart_lets (B.2.2 r hr_2 s F) hl hl'
  .exact G r l (h1 r hr_2) hl E
def Fc(f:U.ok w){M₁ M₂:List Qw}(h:Perm U.M (M₁++M₂)):HC U ⟨U.I,M₂,tp⟩ ⟨λ _=>none,M₁,tc⟩:=by
 have hf:=It (tp:=tp) (tc:=tc) f h;have cw:∀l,(Qa.canW ⟨λ _=>none,M₁,tc⟩ l)->(Qa.canW ⟨U.I,M₁,tc⟩ l):=λ l hl=>Q4.2 (Q4.1 hl)
 have cr:∀l,(Qa.canR ⟨λ _=>none,M₁,tc⟩ l)->(Qa.canR ⟨U.I,M₁,tc⟩ l):=by
  intro l hl;rcases Qx.1 hl with hl|hl
  .exact Qx.2 (.inl hl)
  .cases l <;> simp at hl
 exact⟨λ w ok=>⟨(hf.ok w ok).1,⟨λ _ _ h=>(by cases h),(hf.ok w ok).2.held,(hf.ok w ok).2.apart,λ _ _=>rfl⟩⟩,hf.wp,hf.rp,λ l hl=>hf.wc l (cw l hl),λ l hl=>hf.rc l (cr l hl),λ l hl b=>hf.pc l hl (cr l b),λ l hl b=>hf.cp l (cw l hl) b⟩
abbrev Spec:=List Qw->Prop
variable{ds:List Spec}{D:Spec}
inductive PS where
 |run|seen (u:Nat)|wait|up
variable{k:PS}
inductive Ph where
 |out
 |par (b:Nat) (ds:List Spec) (pend:Bool) (k:PS)
 |wrk (b:Nat) (D:Spec)
 |rel (b:Nat)
 |lst (b:Nat) (i:Nat)
variable{tk:Nat->Ph}{p:Ph}
inductive LP where
 |idle|got|own (x:Bool)|rls|unl|unl2|fin|wai|wok
def LP.rels:LP->Bool
 |.rls|.unl|.unl2|.fin=>true
 |_=>false
def LP.isOwn:LP->Bool
 |.own _=>true
 |_=>false
def LP.cls:LP->Nat
 |.idle=>0
 |.fin=>2
 |_=>1
def LP.word:LP->LP->Option (Nat×Nat)
 |.idle,.idle|.idle,.fin|.fin,.idle|.fin,.fin=>some (0,0)
 |.got,.idle|.rls,.idle|.got,.fin|.rls,.fin|.idle,.got|.idle,.rls|.fin,.got|.fin,.rls=>some (1,0)
 |.own x,.idle|.idle,.own x=>if x=false then some (1,0)else none
 |.own x,.fin|.fin,.own x=>if x=true then some (1,0)else none
 |.got,.wai|.rls,.wai|.wai,.got|.wai,.rls=>some (9,0)
 |.own x,.wai|.wai,.own x=>if x=false then some (9,0)else none
 |.unl,.wai|.wai,.unl=>some (8,0)
 |.unl2,.wai|.wai,.unl2=>some (2,0)
 |.fin,.wai|.wai,.fin=>some (2,1)
 |.fin,.wok|.wok,.fin=>some (2,0)
 |_,_=>none
def LP.word_symm(p q:LP):LP.word p q=LP.word q p:=by cases p <;> cases q <;> rfl
structure QW where
 m:Nat
 t:TypeId
 sp:Bool->Bool->Spec
inductive ZO where
 |par (x:QW) (u:Bool->Bool)
 |lok (x:QW) (s:Bool) (me:LP) (lo:Nat)
def ZO.mb:Option ZO->Option Nat
 |some (.par x _)=>some x.m
 |_=>none
structure Tk where
 d:Nat
 ph:Ph
 mu:Option ZO
def ZJ(f:Bool->α)(s:Bool)(x:α):Bool->α:=λ j=>if j=s then x else f j
def J6(f:Bool->α)(s:Bool)(x:α):ZJ f s x s=x:=by simp[ZJ]
def Xq(f:Bool->α)(x:α)(h:pend≠m):ZJ f m x pend=f pend:=by simp[ZJ,h]
def Y3(f:Bool->α)(s:Bool)(x:α):ZJ f s x (!s)=f (!s):=Xq _ _ (by cases s <;> simp)
def M0(b:Bool->LP):Option (Nat×Nat):=LP.word (b false) (b true)
def H8(b:Bool->LP)(s:Bool):M0 b=LP.word (b s) (b (!s)):=by
 cases s
 .rfl
 .exact LP.word_symm _ _
def QW.dep(x:QW)(b:Bool->LP)(M:List Qw):Prop:=x.sp (b false).rels (b true).rels M
def Ph.blk:Ph->Option Nat
 |.out=>none
 |.par b ..|.wrk b _|.rel b|.lst b _=>some b
def ZW:Ph->Bool
 |.wrk ..|.rel _=>true
 |_=>false
def Zp(f:Nat->α)(i:Nat)(x:α):Nat->α:=λ j=>if j=i then x else f j
def Qk(f:Nat->α)(i:Nat)(x:α):Zp f i x i=x:=by simp[Zp]
def Qu(f:Nat->α)(x:α)(h:j≠i):Zp f i x j=f j:=by simp[Zp,h]
def Fi(f:Nat->α)(p:α->Bool)(i:Nat)(x:α):∀{W:List Nat},W.Nodup->i∈W->W.countP (λ j=>p (Zp f i x j))+(p (f i)).toNat=W.countP (λ j=>p (f j))+(p x).toNat:=by
 intro W
 induction W with
 |nil=>intro _ h;cases h
 |cons a W B=>
  intro b hi;obtain⟨ha,b⟩:=nodup_cons.1 b;simp only[countP_cons];by_cases e:a=i
  .subst e
   have:W.countP (λ j=>p (Zp f a x j))=W.countP (λ j=>p (f j)):=by
    refine countP_congr λ j w=>?_;rw[Qu];intro e;subst e;exact ha w
   rw[this,Qk];cases p (f a) <;> cases p x <;> simp <;> omega
  .have hi':i∈W:=by simpa[Ne.symm e]using hi
   have:=B b hi';rw[Qu _ _ e];omega
def qS(f:Nat->α)(p:α->Bool)(i:Nat)(x:α)(h:i∉W):W.countP (λ j=>p (Zp f i x j))=W.countP (λ j=>p (f j)):=by
 refine countP_congr λ j b=>?_;rw[Qu];intro e;subst e;exact h b
def Xy(b:Nat)(tk:Nat->Ph):Prop:=∀i j,tk i≠.lst b j
structure GI(N b:Nat)(ds:List Spec)(pend:Bool)(k:PS)(tk:Nat->Ph)(rel:Nat->Option Nat)(dM:Nat->List Qw)(W:List Nat)(c wt s:Nat):Prop where
 nodup:W.Nodup
 len:W.length=ds.length
 spec:∀(j i:Nat)(D:Spec),W[j]?=some i->ds[j]?=some D->(tk i=.wrk b D/\rel i=none)\/((∀D',tk i≠.wrk b D')/\(∃r,rel i=some r)/\D (dM i))
 inW:∀i,(tk i≠.out\/rel i≠none)->i∈W
 cnt:c=W.countP (λ i=>ZW (tk i))+pend.toNat
 ph:∀i,tk i=.out\/(∃D,tk i=.wrk b D)\/tk i=.rel b\/∃j,tk i=.lst b j
 bound:ds.length+pend.toNat<=N
 state:match k with
  |.run=>wt=0/\s=0/\Xy b tk
  |.seen u=>c<=u/\wt=0/\s=0/\Xy b tk
  |.wait=>pend=false/\((1<=c/\wt=1/\s=0/\Xy b tk)\/(c=0/\∃i0 j0,(∀i j,tk i=.lst b j↔i=i0/\j=j0)/\((j0<=1/\wt=1/\s=0)\/(j0=2/\wt=0/\s=0)))\/(c=0/\wt=0/\s=1/\Xy b tk))
  |.up=>pend=false/\c=0/\wt=0/\s=0/\Xy b tk
def GI.cN(h:GI N b ds pend k tk rel dM W c wt s):c<=ds.length+pend.toNat:=by
 rw[h.cnt];have:=countP_le_length (p:=λ i=>ZW (tk i)) (l:=W);have:=h.len;omega
def GI.start(f:∀i,tk i=.out)(w:∀i,rel i=none):GI N b [] false .run tk rel dM [] 0 0 0:=
 ⟨.nil,rfl,λ j i D h=>by simp at h,λ i h=>by simp[f,w]at h,rfl,λ i=>.inl (f i),S1,rfl,rfl,λ i j e=>by rw[f]at e;cases e⟩
def GI.add(h:GI N b ds false .run tk rel dM W c wt s)(f:ds.length<N):GI N b ds true .run tk rel dM W (c+1) wt s:=
 ⟨h.nodup,h.len,h.spec,h.inW,by have:=h.cnt;simp at this ⊢;omega,h.ph,S3,h.state⟩
def GI.go(h:GI N b ds true .run tk rel dM W c wt s)(hi:tk i=.out)(E:rel i=none)(w:i∉W) :
  GI N b (D::ds) false .run (Zp tk i (.wrk b D)) rel dM (i::W) c wt s:=by
 refine⟨nodup_cons.2 ⟨w,h.nodup⟩,by simp[h.len],?_,?_,?_,?_,?_,?_⟩
 .intro j f D' h1 h2;cases j with
  |zero=>
   simp at h1 h2;subst h1;subst h2;exact .inl ⟨Qk ..,E⟩
  |succ j=>
   simp at h1 h2;have hm:f∈W:=mem_of_getElem? h1;have B:f≠i:=λ e=>w (e▸hm);rw[Qu _ _ B];exact h.spec j f D' h1 h2
 .intro f h1;by_cases e:f=i
  .subst e;simp
  .rw[Qu _ _ e]at h1;exact mem_cons_of_mem _ (h.inW f h1)
 .rw[countP_cons,Qk,qS tk ZW i _ w];have:=h.cnt;simp[ZW]at this ⊢;omega
 .intro f;by_cases e:f=i
  .subst e;rw[Qk];exact .inr (.inl ⟨D,rfl⟩)
  .rw[Qu _ _ e];exact h.ph f
 .have:=h.bound;simp at this ⊢;omega
 .obtain⟨h1,h2,h3⟩:=h.state;refine⟨h1,h2,λ f j=>?_⟩;by_cases e:f=i
  .subst e;rw[Qk];intro h;cases h
  .rw[Qu _ _ e];exact h3 f j
def Hq(ds:List Spec)(u:Nat)(k:PS):Prop:=(k=.run/\u=ds.length)\/k=.seen u
def GI.seeU(h:GI N b ds false k tk rel dM W c wt s)(w:Hq ds i k):c<=i/\wt=0/\s=0/\Xy b tk:=by
 have f:=h.state;rcases w with⟨rfl,rfl⟩|rfl
 .have:=h.cN;simp at this;exact⟨this,f⟩
 .exact f
def GI.toUp(h:GI N b ds false k tk rel dM W 0 wt s)(f:Hq ds i k):GI N b ds false .up tk rel dM W 0 wt s:=
 ⟨h.nodup,h.len,h.spec,h.inW,h.cnt,h.ph,h.bound,rfl,rfl,(h.seeU f).2⟩
def GI.toSeen(h:GI N b ds false k tk rel dM W c wt s)(f:Hq ds i k):GI N b ds false (.seen c) tk rel dM W c wt s:=
 ⟨h.nodup,h.len,h.spec,h.inW,h.cnt,h.ph,h.bound,Nat.le_refl _,(h.seeU f).2⟩
def GI.toWait(h:GI N b ds false k tk rel dM W c wt s)(w:Hq ds i k)(f:1<=c):GI N b ds false .wait tk rel dM W c 1 s:=
 ⟨h.nodup,h.len,h.spec,h.inW,h.cnt,h.ph,h.bound,rfl,.inl ⟨f,rfl,(h.seeU w).2.2⟩⟩
def GI.sema(h:GI N b ds pend .wait tk rel dM W c wt 1):GI N b ds false .up tk rel dM W 0 0 0/\c=0/\wt=0/\pend=false:=by
 obtain⟨hp,B⟩:=h.state;rcases B with⟨_,_,f,_⟩|⟨_,E,F,_,⟨_,_,f⟩|⟨_,_,f⟩⟩|⟨h1,h2,_,w⟩
 .cases f
 .cases f
 .cases f
 .subst h1;subst h2;subst hp;exact⟨⟨h.nodup,h.len,h.spec,h.inW,h.cnt,h.ph,h.bound,rfl,rfl,rfl,rfl,w⟩,rfl,rfl,rfl⟩
def GI.up(h:GI N b ds pend .up tk rel dM W c wt s):pend=false/\c=0/\wt=0/\s=0/\(∀i,tk i=.out)/\∀i,i∈W->∃r,rel i=some r:=by
 obtain⟨h1,h2,G,H,h5⟩:=h.state
 have B:∀i∈W,ZW (tk i)=false:=by
  have:=h.cnt;rw[h2,h1]at this;simp at this;have F:W.countP (λ i=>ZW (tk i))=0:=O1
  intro i hi;have:=countP_eq_zero.1 F i hi;simpa using this
 have f:∀i,tk i=.out:=by
  intro i;rcases h.ph i with e|⟨D,e⟩|e|⟨j,e⟩
  .exact e
  .have:=B i (h.inW i (.inl (by rw[e];simp)));rw[e]at this;cases this
  .have:=B i (h.inW i (.inl (by rw[e];simp)));rw[e]at this;cases this
  .exact absurd e (h5 i j)
 refine⟨h1,h2,G,H,f,λ i hi=>?_⟩;obtain⟨j,E,e⟩:=mem_iff_getElem.1 hi;have w:j<ds.length:=by rw[<- h.len];exact E
 rcases h.spec j i ds[j] (by rw[getElem?_eq_getElem E,e]) (getElem?_eq_getElem w)with⟨h1,_⟩|⟨_,h2,_⟩
 .rw[f]at h1;cases h1
 .exact h2
def JM:List Spec->List (List Qw)->Prop
 |[],[]=>True
 |D::ds,M::b=>D M/\JM ds b
 |_,_=>False
def L7:∀{ds:List Spec}{W:List Nat},W.length=ds.length->(∀(j i:Nat)(D:Spec),W[j]?=some i->ds[j]?=some D->D (dM i))->JM ds (W.map dM)
 |[],[],_,_=>trivial
 |[],_::_,h,_=>by simp at h
 |_::_,[],h,_=>by simp at h
 |D::ds,i::W,h,b=>⟨b 0 i D rfl rfl,L7 (by simpa using h) λ j w f h1 h2=>b (j+1) w f (by simpa using h1) (by simpa using h2)⟩
def GI.deps(h:GI N b ds pend .up tk rel dM W c wt s):JM ds (W.map dM):=by
 refine L7 h.len λ j i D h1 h2=>?_;rcases h.spec j i D h1 h2 with⟨f,_⟩|⟨_,_,f⟩
 .rw[h.up.2.2.2.2.1]at f;cases f
 .exact f
def GI.rel_{r:Nat}(h:GI N b ds pend k tk rel dM W c wt s)(hi:tk i=.wrk b D)(P:D M) :
  GI N b ds pend k (Zp tk i (.rel b)) (Zp rel i (some r)) (Zp dM i M) W c wt s/\rel i=none:=by
 have H:i∈W:=h.inW i (.inl (by rw[hi];simp))
 have F:rel i=none:=by
  obtain⟨j,K,e⟩:=mem_iff_getElem.1 H;have I:j<ds.length:=by rw[<- h.len];exact K
  rcases h.spec j i ds[j] (by rw[getElem?_eq_getElem K,e]) (getElem?_eq_getElem I)with⟨_,h2⟩|⟨h2,_⟩
  .exact h2
  .exact absurd hi (h2 D)
 have E:∀f j,Zp tk i (.rel b) f=.lst b j↔tk f=.lst b j:=by
  intro f j;by_cases e:f=i
  .subst e;rw[Qk,hi];simp
  .rw[Qu _ _ e]
 have w:Xy b tk->Xy b (Zp tk i (.rel b)):=λ Q f j e=>Q f j ((E f j).1 e);refine⟨⟨h.nodup,h.len,?_,?_,?_,?_,h.bound,?_⟩,F⟩
 .intro j f D' h1 h2;by_cases e:f=i
  .subst e;refine .inr ⟨λ L h=>(by rw[Qk]at h;cases h),⟨r,Qk ..⟩,?_⟩;rw[Qk];rcases h.spec j f D' h1 h2 with⟨B,_⟩|⟨B,_⟩
   .rw[hi]at B;cases B;exact P
   .exact absurd hi (B D)
  .rw[Qu _ _ e,Qu _ _ e,Qu _ _ e];exact h.spec j f D' h1 h2
 .intro f h1;by_cases e:f=i
  .subst e;exact H
  .rw[Qu _ _ e,Qu _ _ e]at h1;exact h.inW f h1
 .have:=Fi tk ZW i (.rel b) h.nodup H;rw[hi]at this;have h2:=h.cnt;simp[ZW]at this h2 ⊢;omega
 .intro f;by_cases e:f=i
  .subst e;rw[Qk];exact .inr (.inr (.inl rfl))
  .rw[Qu _ _ e];exact h.ph f
 .have:=h.state;cases k with
  |run=>exact⟨this.1,this.2.1,w this.2.2⟩
  |seen u=>exact⟨this.1,this.2.1,this.2.2.1,w this.2.2.2⟩
  |wait=>
   refine⟨this.1,?_⟩;rcases this.2 with⟨h1,h2,B,G⟩|⟨h1,S,T,h2,B⟩|⟨h1,h2,B,G⟩
   .exact .inl ⟨h1,h2,B,w G⟩
   .exact .inr (.inl ⟨h1,S,T,λ f j=>(E f j).trans (h2 f j),B⟩)
   .exact .inr (.inr ⟨h1,h2,B,w G⟩)
  |up=>exact⟨this.1,this.2.1,this.2.2.1,this.2.2.2.1,w this.2.2.2.2⟩
def GI.move(h:GI N b ds pend k tk rel dM W c wt s)(hi:tk i=.rel b\/∃j,tk i=.lst b j)(hp:p=.out\/∃j,p=.lst b j) :
  i∈W/\(∀(j f:Nat)(D:Spec),W[j]?=some f->ds[j]?=some D->(Zp tk i p f=.wrk b D/\rel f=none)\/((∀B,Zp tk i p f≠.wrk b B)/\(∃r,rel f=some r)/\D (dM f))) /\
  (∀f,(Zp tk i p f≠.out\/rel f≠none)->f∈W)/\(W.countP (λ j=>ZW (Zp tk i p j))+(ZW (tk i)).toNat=W.countP (λ j=>ZW (tk j))) /\
  (∀f,Zp tk i p f=.out\/(∃D,Zp tk i p f=.wrk b D)\/Zp tk i p f=.rel b\/∃j,Zp tk i p f=.lst b j):=by
 have E:i∈W:=h.inW i (.inl (by rcases hi with e|⟨j,e⟩ <;> rw[e] <;> simp));have F:∀D,p≠.wrk b D:=by rintro D rfl;rcases hp with e|⟨j,e⟩ <;> cases e
 refine⟨E,?_,?_,?_,?_⟩
 .intro j f D h1 h2;by_cases e:f=i
  .subst e;rcases h.spec j f D h1 h2 with⟨w,_⟩|⟨_,w⟩
   .rcases hi with e|⟨G,e⟩ <;> rw[e]at w <;> cases w
   .exact .inr ⟨λ B h=>F B (by rwa [Qk]at h),w⟩
  .rw[Qu _ _ e];exact h.spec j f D h1 h2
 .intro f h1;by_cases e:f=i
  .subst e;exact E
  .rw[Qu _ _ e]at h1;exact h.inW f h1
 .have:=Fi tk ZW i p h.nodup E;have e:ZW p=false:=by rcases hp with e|⟨j,e⟩ <;> rw[e] <;> rfl
  rw[e]at this;simpa using this
 .intro f;by_cases e:f=i
  .subst e;rw[Qk];exact hp.elim .inl λ x=>.inr (.inr (.inr x))
  .rw[Qu _ _ e];exact h.ph f
def GI.relC(h:GI N b ds pend k tk rel dM W c wt s)(hi:tk i=.rel b):1<=c/\c<=N/\wt<=1/\s=0:=by
 have f:i∈W:=h.inW i (.inl (by rw[hi];simp))
 have w:1<=c:=by
  rw[h.cnt];have:0<W.countP (λ i=>ZW (tk i)):=countP_pos_iff.2 ⟨i,f,by rw[hi];rfl⟩;omega
 refine⟨w,Nat.le_trans h.cN h.bound,?_⟩;have:=h.state;cases k with
 |run=>obtain⟨h1,h2,_⟩:=this;omega
 |seen u=>obtain⟨_,h1,h2,_⟩:=this;omega
 |wait=>
  rcases this.2 with⟨_,h2,B,_⟩|⟨h1,_⟩|⟨h1,_⟩
  .omega
  .omega
  .omega
 |up=>obtain⟨_,h1,_⟩:=this;omega
def GI.leave(h:GI N b ds pend k tk rel dM W c wt s)(hi:tk i=.rel b)(B:¬(c=1/\wt=1)) :
  GI N b ds pend k (Zp tk i .out) rel dM W (c-1) wt s:=by
 obtain⟨K,-,-,L⟩:=h.relC hi;obtain⟨I,h1,h2,w,F⟩:=h.move (p:=.out) (.inl hi) (.inl rfl)
 have f:Xy b tk->Xy b (Zp tk i .out):=by
  intro B E j e;by_cases e':E=i
  .subst e';rw[Qk]at e;cases e
  .rw[Qu _ _ e']at e;exact B E j e
 refine⟨h.nodup,h.len,h1,h2,?_,F,h.bound,?_⟩
 .have:=h.cnt;rw[hi]at w;simp only[show ZW (Ph.rel b)=true from rfl,Bool.toNat_true]at w;omega
 .have:=h.state;cases k with
  |run=>exact⟨this.1,this.2.1,f this.2.2⟩
  |seen u=>exact⟨Nat.le_trans (Nat.sub_le _ _) this.1,this.2.1,this.2.2.1,f this.2.2.2⟩
  |wait=>
   refine⟨this.1,?_⟩;rcases this.2 with⟨_,h5,G,H⟩|⟨h5,_⟩|⟨h5,_⟩
   .exact .inl ⟨O1,h5,G,f H⟩
   .omega
   .omega
  |up=>obtain⟨_,h5,_⟩:=this;omega
def GI.last{i:Nat}(h:GI N b ds pend k tk rel dM W 1 1 s)(hi:tk i=.rel b) :
  k=.wait/\GI N b ds pend .wait (Zp tk i (.lst b 0)) rel dM W 0 1 s:=by
 obtain⟨K,-,-,L⟩:=h.relC hi;obtain⟨I,h1,h2,w,F⟩:=h.move (p:=.lst b 0) (.inl hi) (.inr ⟨0,rfl⟩);have f:=h.state;have B:=h.cnt;cases k with
 |run=>exact absurd f.1 D1
 |seen u=>exact absurd f.2.1 D1
 |up=>exact absurd f.2.1 D1
 |wait=>
  refine⟨rfl,h.nodup,h.len,h1,h2,?_,F,h.bound,f.1,?_⟩
  .rw[hi]at w;simp only[show ZW (Ph.rel b)=true from rfl,Bool.toNat_true]at w;omega
  .rcases f.2 with⟨_,h5,G,H⟩|⟨h5,_⟩|⟨h5,_⟩
   .refine .inr (.inl ⟨rfl,i,0,λ E j=>?_,.inl ⟨O1,rfl,G⟩⟩);by_cases e:E=i
    .subst e;rw[Qk];constructor
     .intro e;cases e;exact⟨rfl,rfl⟩
     .rintro⟨_,rfl⟩;rfl
    .rw[Qu _ _ e];exact⟨λ e'=>absurd e' (H E j),λ e'=>absurd e'.1 e⟩
   .cases h5
   .cases h5
def GI.lstAt(h:GI N b ds pend k tk rel dM W c wt s)(hi:tk i=.lst b j) :
  k=.wait/\c=0/\s=0/\((j<=1/\wt=1)\/(j=2/\wt=0))/\∀E F,tk E=.lst b F↔E=i/\F=j:=by
 have f:=h.state;cases k with
 |run=>exact absurd hi (f.2.2 i j)
 |seen u=>exact absurd hi (f.2.2.2 i j)
 |up=>exact absurd hi (f.2.2.2.2 i j)
 |wait=>
  rcases f.2 with⟨_,_,_,w⟩|⟨h1,G,H,h2,B⟩|⟨_,_,_,w⟩
  .exact absurd hi (w i j)
  .obtain⟨rfl,rfl⟩:=(h2 i j).1 hi;refine⟨rfl,h1,?_,?_,h2⟩
   .rcases B with⟨_,_,h⟩|⟨_,_,h⟩ <;> exact h
   .rcases B with⟨a,b,_⟩|⟨a,b,_⟩
    .exact .inl ⟨a,b⟩
    .exact .inr ⟨a,b⟩
  .exact absurd hi (w i j)
def GI.next{wt':Nat}(h:GI N b ds pend k tk rel dM W c wt s)(hi:tk i=.lst b j)(B:(j=0/\wt'=1)\/(j=1/\wt'=0)) :
  GI N b ds pend k (Zp tk i (.lst b (j+1))) rel dM W c wt' s:=by
 obtain⟨rfl,h1,h2,I,w⟩:=h.lstAt hi;obtain⟨K,F,G,f,H⟩:=h.move (p:=.lst b (j+1)) (.inr ⟨j,hi⟩) (.inr ⟨j+1,rfl⟩);refine⟨h.nodup,h.len,F,G,?_,H,h.bound,h.state.1,.inr (.inl ⟨h1,i,j+1,λ E L=>?_,?_⟩)⟩
 .have:=h.cnt;rw[hi]at f;simp only[show ∀j,ZW (Ph.lst b j)=false from λ _=>rfl,Bool.toNat_false]at f;omega
 .by_cases e:E=i
  .subst e;rw[Qk];constructor
   .intro e;cases e;exact⟨rfl,rfl⟩
   .rintro⟨_,rfl⟩;rfl
  .rw[Qu _ _ e,w];exact⟨λ e'=>absurd e'.1 e,λ e'=>absurd e'.1 e⟩
 .rcases B with⟨rfl,rfl⟩|⟨rfl,rfl⟩
  .exact .inl ⟨O1,rfl,h2⟩
  .exact .inr ⟨rfl,rfl,h2⟩
def GI.wake(h:GI N b ds pend k tk rel dM W c wt s)(hi:tk i=.lst b 2):GI N b ds pend k (Zp tk i .out) rel dM W c wt 1:=by
 obtain⟨rfl,h1,h2,K,E⟩:=h.lstAt hi;obtain⟨L,G,H,B,I⟩:=h.move (p:=.out) (.inr ⟨2,hi⟩) (.inl rfl);have f:wt=0:=O1
 refine⟨h.nodup,h.len,G,H,?_,I,h.bound,h.state.1,.inr (.inr ⟨h1,f,rfl,λ w F e=>?_⟩)⟩
 .have:=h.cnt;rw[hi]at B;simp only[show ∀j,ZW (Ph.lst b j)=false from λ _=>rfl,Bool.toNat_false]at B;omega
 .by_cases e':w=i
  .subst e';rw[Qk]at e;cases e
  .rw[Qu _ _ e']at e;exact e' ((E w F).1 e).1
def GI.someone(h:GI N b ds pend .wait tk rel dM W c wt 0):∃i,tk i≠.out:=by
 obtain⟨hp,B⟩:=h.state;rcases B with⟨h1,_,_,_⟩|⟨_,f,E,h2,_⟩|⟨_,_,w,_⟩
 .have:=h.cnt;rw[hp]at this;simp at this;have:0<W.countP (λ i=>ZW (tk i)):=O1
  obtain⟨i,_,hi⟩:=countP_pos_iff.1 this;exact⟨i,λ e=>by rw[e]at hi;cases hi⟩
 .exact⟨f,λ e=>by have:=(h2 f E).2 ⟨rfl,rfl⟩;rw[this]at e;cases e⟩
 .cases w
inductive SE where
 |go (g:Gr) (st sm:Value) (es:Array Event) (bs:List (Nat×Bool))
 |spawn (g child:Gr) (es:Array Event)
 |blocked (g:Gr) (st sm:Value) (bs:List (Nat×Bool))
 |stuck
def Wj(fr:Frame)(cs:List Frame):Gr:={ frame:=fr,callers:=cs,status:=.running,dying:=none }
def SE.still(st sm:Value)(fr:Frame)(cs:List Frame):SE:=.go (Wj fr cs) st sm #[] []
def LR(fr:Frame):CallKind:=match fr.todo with|.call _ true _ _::_=>.wrapped|_=>.normal
def Gu(P:Program)(d:Deferred):Gr:=Wj { (default:Frame)with fn:=P.funcs.size,defers:=[d],mode:=.panicking [goexitEntry] } []
def Yv:Target->Bool
 |.fn _ _=>true
 |_=>false
def P_(P:Program)(fr:Frame)(cs:List Frame)(d:Deferred)(es:Array Event)(bs:List (Nat×Bool)):SE:=
 bif Yv d.target&&bs.isEmpty then .spawn (Wj (fr.finish undef) cs) (Gu P d) (seen P fr.fn es)else .stuck
def Xu(P:Program)(fr:Frame)(cs:List Frame):QE Next->SE
 |.ok n st sm es bs=>match fr.kind with
  |.early=>.stuck
  |_=>match n with
   |.value v=>.go (Wj (fr.finish v) cs) st sm (seen P fr.fn es) bs
   |.skip=>.go (Wj (fr.finish undef) cs) st sm (seen P fr.fn es) bs
   |.enter f args=>.go (Wj (Frame.enter P f args (LR fr)) (fr::cs)) st sm (seen P fr.fn es) bs
   |.defer d=>.go (Wj ({ fr with defers:=d::fr.defers }.finish undef) cs) st sm (seen P fr.fn es) bs
   |.spawn d=>P_ P fr cs d es bs
   |_=>.stuck
 |.blocked st sm bs=>match fr.kind with
  |.early=>.stuck
  |_=>.blocked { frame:=fr,callers:=cs,status:=.blocked,dying:=none } st sm bs
 |.stuck=>.stuck
def GX(P:Program)(t:TypeId)(fr:Frame)(cs:List Frame)(st sm:Value):SE:=
 let to (todo:List Item):SE:=.still st sm { fr with todo } cs
 let leave (jump:Option Code):SE:=match fr.roundOf,jump with
  |none,none=>.still st sm { fr with mode:=.returning } cs
  |none,some .ret=>.still st sm { fr with mode:=.returning } cs
  |_,_=>.stuck
 match fr.todo with
 |[]=>leave none
 |.code .ret::_=>leave (some .ret)
 |.code .skip::k|.code (.label _)::k|.inBlock _::k|.inScope _::k=>to k
 |.code (.seq a b)::k=>to (.code a::.code b::k)
 |.code (.cond c h f)::k=>match fr.eval c with
  |.bool b=>to (.code (if b then h else f)::k)
  |_=>.stuck
 |.code (.block id body)::k=>to (.code body::.inBlock id::k)
 |.code (.loop body)::k|.inLoop body::k=>to (.code body::.inLoop body::k)
 |.code (.scope body)::k=>to (.code body::.inScope body::k)
 |.code (.exit id)::k=>match exitTo id k with
  |some k'=>to k'
  |none=>.stuck
 |.code (.region _ ops false)::k=>to (.inRegion ops (range ops.size)::k)
 |.inRegion _ []::k=>to k
 |.inRegion ops (i::_)::_=>match ops[i]? with
  |some o=>(match Region.wanted o (yielded ops fr.tmps)with
   |true=>(match fr.roundOf with
    |none=>Xu P fr cs (QB P t (execOp fr.eval o) st sm #[] [])
    |some _=>.stuck)
   |false=>.still st sm (fr.finish undef) cs)
  |none=>.stuck
 |_=>.stuck
def V8(m:Bool)(fr:Frame)(cs:List Frame)(v:Value)(st sm:Value)(es:Array Event)(bs:List (Nat×Bool)):SE:=
 match cs with
 |c::rest=>(match fr.kind with
  |.normal=>.go (Wj (c.finish v) rest) st sm es bs
  |.deferred=>.go (Wj (match c.mode with
    |.panicking ({ recovered:=true,.. }::older)=>
     match older.dropWhile (!·.goexit)with
     |[]=>{ c with mode:=.returning }
     |rest=>{ c with mode:=.panicking rest }
    |_=>c) rest) st sm es bs
  |_=>.stuck)
 |[]=>(match m,fr.kind with
  |false,.normal=>.go { frame:=fr,callers:=[],status:=.finished,dying:=none } st sm es bs
  |_,_=>.stuck)
def GL(P:Program)(fr:Frame)(ds:List Deferred)(cs:List Frame):QE Next->SE
 |.ok n st sm es bs=>(match n with
  |.enter f args=>.go (Wj (Frame.enter P f args .deferred) ({ fr with defers:=ds }::cs)) st sm (seen P fr.fn es) bs
  |.value _=>.go (Wj { fr with defers:=ds } cs) st sm (seen P fr.fn es) bs
  |_=>.stuck)
 |_=>.stuck
def GN(P:Program)(m:Bool)(fr:Frame)(cs:List Frame):QE Value->SE
 |.ok v st sm es bs=>V8 m fr cs v st sm (seen P fr.fn es) bs
 |_=>.stuck
def PW(P:Program)(t:TypeId)(m:Bool)(fr:Frame)(cs:List Frame)(st sm:Value):SE:=
 match fr.defers with
 |d::ds=>(match d.target with
  |.fn _ _=>GL P fr ds cs (QB P t (invoke d.target d.args) st sm #[] [])
  |_=>.stuck)
 |[]=>(match fr.mode with
  |.returning=>(match P.funcs[fr.fn]? with
   |some fn=>GN P m fr cs (QB P t (results fn fr.tmps) st sm #[] [])
   |none=>.stuck)
  |.panicking chain=>(match cs,fr.todo,P.funcs[fr.fn]?,chain with
   |[],[],none,e::_=>(match e.goexit with
    |true=>.go { frame:=fr,callers:=[],status:=.finished,dying:=none } st sm #[] []
    |false=>.stuck)
   |_,_,_,_=>.stuck)
  |.run=>.stuck)
def Qc(P:Program)(t:TypeId)(m:Bool)(g:Gr)(st sm:Value):SE:=
 match g.status with
 |.running=>(match g.dying with
  |some _=>.stuck
  |none=>(match g.frame.mode with
   |.run=>GX P t g.frame g.callers st sm
   |_=>PW P t m g.frame g.callers st sm))
 |_=>.stuck
def Hy(s:GStep)(W:Value->Value->World)(ok:List (Nat×Bool)->Prop)(w:World):SE->Prop
 |.go g' st' sm' es bs=>ok bs->s=.go g' (W st' sm') es
 |.spawn g' c es=>s=.spawn g' c w es
 |.blocked g' st' sm' bs=>ok bs->s=.go g' (W st' sm') #[]
 |.stuck=>True
def SD(P:Program)(f:FuncId):seen P f #[]=#[]:=by simp[seen]
def zS(G:WT P t st sm w Q ok) :
  Hy (stepG.apply P true β cs none φ w) Q ok w (Xu P β cs (QB P t φ st sm #[] [])):=by
 have h:=G.ran φ;have B:=@Dl P t _ φ st sm #[] [];generalize QB P t φ st sm #[] []=r at h B;cases r with
 |ok n st' sm' es bs=>
  simp only[Xu];split
  .trivial
  .rename_i hk
   have b:(β.kind==CallKind.early)=false:=by
    cases F:β.kind <;> first|rfl|exact absurd F (by simpa using hk)
   cases n with
   |value v=>
    intro hb;have h2:=h hb;simp only[stepG.apply,if_true,h2,b,Bool.false_eq_true,if_false,GStep.after,Wj,Array.append_empty]
   |skip=>
    intro hb;have h2:=h hb;simp only[stepG.apply,if_true,h2,b,Bool.false_eq_true,if_false,GStep.after,Wj,Array.append_empty]
   |enter f args=>
    intro hb;have h2:=h hb;simp only[stepG.apply,if_true,h2,b,Bool.false_eq_true,if_false,GStep.after,Wj,Array.append_empty,LR];rfl
   |defer d=>
    intro hb;have h2:=h hb;simp only[stepG.apply,if_true,h2,b,Bool.false_eq_true,if_false,GStep.after,Wj,Array.append_empty]
   |spawn d=>
    show Hy _ Q ok w (P_ P β cs d es bs);unfold P_;cases E:Yv d.target&&bs.isEmpty with
    |true=>
     simp only[Bool.and_eq_true,isEmpty_iff]at E;obtain⟨E,rfl⟩:=E;obtain⟨⟨rfl,rfl⟩,-⟩:=(B rfl).2 rfl;have H:=h G.nil;rw[G.same]at H;cases ht:d.target <;> rw[ht]at E <;> first|cases E|skip
     simp only[cond_true,Hy,stepG.apply,if_true,H,b,Bool.false_eq_true,if_false,ht,Bool.and_false,Bool.false_and,GStep.after,Wj,Array.append_empty,Gu]
    |false=>trivial
   |_=>trivial
 |blocked st' sm' bs=>
  simp only[Xu];split
  .trivial
  .rename_i hk
   have b:(β.kind==CallKind.early)=false:=by
    cases F:β.kind <;> first|rfl|exact absurd F (by simpa using hk)
   intro hb;obtain⟨I,h2⟩:=h hb;simp only[stepG.apply,if_true,h2,b,Bool.false_eq_true,if_false,SD,GStep.after,Array.append_empty]
 |stuck=>trivial
def Zt(b:WT P t st sm w Q ok)(h:χ=.go (Wj β cs) w):Hy χ Q ok w (.still st sm β cs):=by
 intro _;rw[b.same];exact h
def Nn(hm:β.mode=.run)(b:WT P t st sm w Q ok) :
  Hy (stepG P m { frame:=β,callers:=cs,status,dying:=none,offers } w) Q ok w (GX P t β cs st sm):=by
 have e:stepG P m { frame:=β,callers:=cs,status,dying:=none,offers } w=stepG.exec P m true β cs none w:=by
  simp only[stepG,hm]
 rw[e];unfold GX;simp only;split
 .rename_i ht;cases f:β.roundOf with
  |none=>exact Zt b (by simp[stepG.exec,ht,f,Wj])
  |some l=>trivial
 .rename_i k ht;cases f:β.roundOf with
  |none=>exact Zt b (by simp[stepG.exec,ht,f,Wj])
  |some l=>trivial
 .rename_i k ht;exact Zt b (by simp[stepG.exec,ht,Wj])
 .rename_i k ht;exact Zt b (by simp[stepG.exec,ht,Wj])
 .rename_i k ht;exact Zt b (by simp[stepG.exec,ht,Wj])
 .rename_i k ht;exact Zt b (by simp[stepG.exec,ht,Wj])
 .rename_i x y k ht;exact Zt b (by simp[stepG.exec,ht,Wj])
 .rename_i c x y k ht;split
  .rename_i bb hb;exact Zt b (by simp[stepG.exec,ht,hb,Wj])
  .trivial
 .rename_i id body k ht;exact Zt b (by simp[stepG.exec,ht,Wj])
 .rename_i body k ht;exact Zt b (by simp[stepG.exec,ht,Wj])
 .rename_i body k ht;exact Zt b (by simp[stepG.exec,ht,Wj])
 .rename_i body k ht;exact Zt b (by simp[stepG.exec,ht,Wj])
 .rename_i id k ht;split
  .rename_i k' hk;exact Zt b (by simp[stepG.exec,ht,hk,Wj])
  .trivial
 .rename_i id ops k ht;exact Zt b (by simp[stepG.exec,ht,Wj])
 .rename_i ops k ht;exact Zt b (by simp[stepG.exec,ht,Wj])
 .rename_i ops i rest k ht;split
  .rename_i o ho;split
   .rename_i hw;split
    .rename_i f
     have h:stepG.exec P m true β cs none w=stepG.apply P true β cs none (execOp β.eval o) w:=by
      simp[stepG.exec,ht,ho,hw,stepG.oper,Frame.oper?,f]
     rw[h];exact zS b
    .trivial
   .rename_i hw;exact Zt b (by simp[stepG.exec,ht,ho,hw,Wj])
  .trivial
 .trivial
section
variable{W:Value->Value->World}
def Fp{fr:Frame} :
  Hy (GStep.after es (doReturn P m fr cs none v (W st' sm'))) W ok w (V8 m fr cs v st' sm' es bs):=by
 unfold V8;split
 .rename_i c rest;split
  .rename_i hk;intro _;simp only[doReturn,hk,GStep.after,Wj,Array.append_empty]
  .rename_i hk;intro _;simp only[doReturn,hk,GStep.after,Wj,Array.append_empty];rfl
  .trivial
 .split
  .rename_i hk;intro _;simp only[doReturn,hk,GStep.after,Array.append_empty,Bool.not_false,if_true]
  .trivial
end
def zz(hm:β.mode≠.run)(B:WT P t st sm w Q ok) :
  Hy (stepG P m { frame:=β,callers:=cs,status,dying:=none,offers } w) Q ok w (PW P t m β cs st sm):=by
 have e:stepG P m { frame:=β,callers:=cs,status,dying:=none,offers } w=unwind P m β cs none w:=by
  cases E:β.mode with
  |run=>exact absurd E hm
  |_=>simp only[stepG,E]
 rw[e];unfold PW;split
 .rename_i d ds hd;split
  .rename_i fn capt ht;have h:=B.ran (invoke d.target d.args)
   have b:unwind P m β cs none w=callDeferred P { β with defers:=ds } cs none d w:=by
    obtain⟨G,ag⟩:=d;cases ht;simp only[unwind,hd]
   rw[b];generalize QB P t (invoke d.target d.args) st sm #[] []=r at h;cases r with
   |ok n st' sm' es bs=>
    simp only[GL];cases n with
    |enter f args=>
     intro hb;have h2:=h hb;rw[ht]at h2;simp only[callDeferred,ht,Bool.false_and,Bool.false_eq_true,if_false,h2,GStep.after,Wj,Array.append_empty]
    |value v=>
     intro hb;have h2:=h hb;rw[ht]at h2;simp only[callDeferred,ht,Bool.false_and,Bool.false_eq_true,if_false,h2,GStep.after,Wj,Array.append_empty]
    |_=>trivial
   |_=>trivial
  .trivial
 .rename_i hd;split
  .rename_i hmo;split
   .rename_i fn hf;have h:=B.ran (results fn β.tmps);generalize QB P t (results fn β.tmps) st sm #[] []=r at h;cases r with
    |ok v st' sm' es bs=>
     simp only[GN];by_cases hb:ok bs
     .have h2:=h hb
      have b:unwind P m β cs none w=GStep.after (seen P β.fn es) (doReturn P m β cs none v (Q st' sm')):=by
       simp only[unwind,hd,hmo,hf,h2]
      rw[b];exact Fp
     .have:=Fp (P:=P) (m:=m) (W:=Q) (ok:=ok) (w:=w) (fr:=β) (cs:=cs) (v:=v) (es:=seen P β.fn es) (bs:=bs) (st':=st') (sm':=sm');unfold V8 at this ⊢;split <;> split <;> first|exact(λ F=>absurd F hb)|trivial
    |_=>trivial
   .trivial
  .rename_i chain hmo;split
   .rename_i e' tl ht hf;split
    .rename_i hg;intro _;rw[B.same];simp[unwind,hd,hmo,Frame.catches,ht,hf,hg]
    .trivial
   .trivial
  .trivial
def VF(b:WT P t st sm w Q ok):Hy (stepG P m g w) Q ok w (Qc P t m g st sm):=by
 obtain⟨fr,cs,status,dying,offers⟩:=g;unfold Qc;cases status <;> try trivial
 cases dying with
 |some d=>trivial
 |none=>
  simp only;cases hm:fr.mode with
  |run=>exact Nn hm b
  |_=>exact zz (by rw[hm];intro h;cases h) b
def Om(h:Qc P t m g st sm=.go I st' sm' es [])(w:World):stepG P m g w=.go I w es:=by
 have:=VF (g:=g) (m:=m) (WT.calm (P:=P) (t:=t) (st:=st) (sm:=sm) (w:=w));rw[h]at this;exact this rfl
def H6(h:Qc P t m g st sm=.go I st' sm' es bs)(f:Sh b t st sm w)
  (hb:∀y∈bs,y.1=b):stepG P m g w=.go I (two w b t st' sm') es:=by
 have:=VF (g:=g) (m:=m) (WT.sh (P:=P) f);rw[h]at this;exact this hb
def E8(h:Qc P t m g st sm=.blocked I st' sm' bs)(f:Sh b t st sm w)
  (hb:∀y∈bs,y.1=b):stepG P m g w=.go I (two w b t st' sm') #[]:=by
 have:=VF (g:=g) (m:=m) (WT.sh (P:=P) f);rw[h]at this;exact this hb
def Nw{c:Gr}(h:Qc P t m g st sm=.spawn I c es)(w:World):stepG P m g w=.spawn I c w es:=by
 have:=VF (g:=g) (m:=m) (WT.calm (P:=P) (t:=t) (st:=st) (sm:=sm) (w:=w));rw[h]at this;exact this
def Xf(f:Value->Value->SE):Prop:=∀st sm g' st' sm' es bs,f st sm=.go g' st' sm' es bs->(bs.all (!·.2))=true->(st'=st/\sm'=sm)/\∀h b,f h b=.go g' h b es bs
def Xf.still{fr:Frame}{cs:List Frame}:Xf λ st sm=>.still st sm fr cs:=by
 intro st sm g' st' sm' es bs h _;simp only[SE.still,SE.go.injEq]at h;obtain⟨rfl,rfl,rfl,rfl,rfl⟩:=h;exact⟨⟨rfl,rfl⟩,λ _ _=>rfl⟩
def Xf.stuck:Xf λ _ _=>.stuck:=by intro st sm g' st' sm' es bs h;cases h
def Xf.of{s:Sem T}{F:QE T->SE}(G:∀r g' st' sm' es bs,F r=.go g' st' sm' es bs->∃x w,r=.ok x st' sm' w bs/\∀f b,F (.ok x f b w bs)=.go g' f b es bs) :
  Xf λ st sm=>F (QB P t s st sm #[] []):=by
 intro st sm g' st' sm' es bs h hb;obtain⟨x,w,H,h2⟩:=G _ _ _ _ _ _ h;obtain⟨-,B⟩:=Dl s H;obtain⟨E,h5⟩:=B hb;exact⟨E,λ f b=>by simp only[h5 f b,h2]⟩
def BF(r:QE Next)(g':Gr)(st' sm':Value)(es:Array Event)(bs:List (Nat×Bool))(h:Xu P β cs r=.go g' st' sm' es bs) :
  ∃x b,r=.ok x st' sm' b bs/\∀B w,Xu P β cs (.ok x B w b bs)=.go g' B w es bs:=by
 cases r with
 |ok n st sm b f=>
  simp only[Xu]at h ⊢;split at h
  .cases h
  .cases n <;> simp only[SE.go.injEq,reduceCtorEq]at h
   case spawn d=>unfold P_ at h;cases E:Yv d.target&&f.isEmpty <;> rw[E]at h <;> cases h
   all_goals(obtain⟨rfl,rfl,rfl,rfl,rfl⟩:=h;exact⟨_,_,rfl,λ _ _=>rfl⟩)
 |blocked st sm f=>simp only[Xu]at h;split at h <;> cases h
 |stuck=>cases h
def gK(r:QE Next)(g':Gr)(st' sm':Value)(es:Array Event)(bs:List (Nat×Bool))(h:GL P β π cs r=.go g' st' sm' es bs) :
  ∃x b,r=.ok x st' sm' b bs/\∀w f,GL P β π cs (.ok x w f b bs)=.go g' w f es bs:=by
 cases r with
 |ok n st sm b B=>
  simp only[GL]at h ⊢;cases n <;> simp only[SE.go.injEq,reduceCtorEq]at h
  all_goals(obtain⟨rfl,rfl,rfl,rfl,rfl⟩:=h;exact⟨_,_,rfl,λ _ _=>rfl⟩)
 |_=>cases h
def pf(r:QE Value)(g':Gr)(st' sm':Value)(es:Array Event)(bs:List (Nat×Bool))(h:GN P m β cs r=.go g' st' sm' es bs) :
  ∃x b,r=.ok x st' sm' b bs/\∀w f,GN P m β cs (.ok x w f b bs)=.go g' w f es bs:=by
 cases r with
 |ok v st sm b B=>
  simp only[GN,V8]at h ⊢;split at h
  .split at h
   .simp only[SE.go.injEq]at h;obtain⟨rfl,rfl,rfl,rfl,rfl⟩:=h;exact⟨_,_,rfl,λ _ _=>rfl⟩
   .simp only[SE.go.injEq]at h;obtain⟨rfl,rfl,rfl,rfl,rfl⟩:=h;exact⟨_,_,rfl,λ _ _=>rfl⟩
   .cases h
  .split at h
   .simp only[SE.go.injEq]at h;obtain⟨rfl,rfl,rfl,rfl,rfl⟩:=h;exact⟨_,_,rfl,λ _ _=>rfl⟩
   .cases h
 |_=>cases h
def jk:Xf (PW P t m β cs):=by
 unfold PW;split
 .split
  .exact Xf.of (F:=GL P β _ cs) gK
  .exact .stuck
 .split
  .split
   .exact Xf.of (F:=GN P m β cs) pf
   .exact .stuck
  .split
   .split
    .intro st sm g' st' sm' es bs h _;simp only[SE.go.injEq]at h;obtain⟨rfl,rfl,rfl,rfl,rfl⟩:=h;exact⟨⟨rfl,rfl⟩,λ _ _=>rfl⟩
    .exact .stuck
   .exact .stuck
  .exact .stuck
def Ft:Xf (Qc P t m g):=by
 obtain⟨fr,cs,status,dying,offers⟩:=g;unfold Qc;cases status <;> try exact .stuck
 cases dying with
 |some d=>exact .stuck
 |none=>
  simp only;cases fr.mode with
  |run=>
   unfold GX;simp only;split
   .split <;> first|exact .still|exact .stuck
   .split <;> first|exact .still|exact .stuck
   .exact .still
   .exact .still
   .exact .still
   .exact .still
   .exact .still
   .split <;> first|exact .still|exact .stuck
   .exact .still
   .exact .still
   .exact .still
   .exact .still
   .split <;> first|exact .still|exact .stuck
   .exact .still
   .exact .still
   .split
    .split
     .split
      .exact Xf.of (F:=Xu P fr cs) BF
      .exact .stuck
     .exact .still
    .exact .stuck
   .exact .stuck
  |_=>exact jk
def SE.get(d:Gr):SE->Gr
 |.go g _ _ _ _=>g
 |_=>d
def Qn(h:Qc P t m g st sm=.go I st' sm' es bs):g.status=.running:=by
 unfold Qc at h;split at h
 .assumption
 .cases h
variable{ζ:Qa Tk}{mu:Option ZO}{ω:QW}{me:LP}{X Y:QI Tk}
section
open Go.Conc (QuitsD)
def Q0(c wt:Nat):Value:=.int .u64 ((c*4294967296+wt:Nat):Int)
def Qp(s:Nat):Value:=.int .u32 (s:Int)
def Z0(m:Mark):Event:=⟨.mark m,false,true⟩
def Jc(b o:Nat):Event:=⟨.cell ⟨b,o,none⟩,false,true⟩
def QA(b o:Nat):Event:=⟨.cell ⟨b,o,none⟩,true,true⟩
def Z5(b:Nat)(bs:List (Nat×Bool)):Prop:=∀y∈bs,y.1=b
def Qa.at(U:Qa Tk)(d:Nat)(p:Ph):Qa Tk:={ U with tok:=⟨d,p,U.tok.mu⟩ }
def Qa.at_self(h:ζ.tok=⟨b,p,mu⟩):ζ.at b p=ζ:=by
 obtain⟨I,M,tok⟩:=ζ;simp only at h;subst h;rfl
def Zb(s:Nat):Value:=.int .i32 (s:Int)
def Qa.lk(U:Qa Tk)(d b:Nat)(D:Spec)(x:QW)(s:Bool)(me:LP)(lo:Nat):Qa Tk:={ U with tok:=⟨d,.wrk b D,some (.lok x s me lo)⟩ }
def Qa.lk_self(h:ζ.tok=⟨i,.wrk b D,some (.lok ω m me N)⟩):ζ.lk i b D ω m me N=ζ:=by
 obtain⟨I,M,tok⟩:=ζ;simp only at h;subst h;rfl
def GG(m:Nat)(e:Event):Prop:=Event.mute e=true\/∃o wr,o<2/\e=⟨.cell ⟨m,o,none⟩,wr,true⟩
def Yy(mu b mc:Option ZO):Prop:=(b=mu/\mc=none)\/∃x u s,mu=some (.par x u)/\u s=false/\b=some (.par x (ZJ u s true))/\mc=some (.lok x s .idle 0)
def Tl(P:Program)(t:TypeId)(N b:Nat):Nat->Nat->Ph->Gr->Prop
 |0,_,_,_=>False
 |n+1,d,p,g=>g.status=.running /\
  ((∃g' es bs,(∀e∈es,Event.mute e=true)/\Z5 b bs/\(∀st sm,Qc P t false g st sm=.go g' st sm es bs)/\Tl P t N b n (deafBehind d es) p g') \/
   (p=.rel b/\d=1/\∀c wt,1<=c->c<=N->wt<=1->∃g' bs,Z5 b bs/\Qc P t false g (Q0 c wt) (Qp 0)=.go g' (Q0 (c-1) wt) (Qp 0) #[Jc b 0,QA b 0] bs /\
    (if c=1/\wt=1 then Tl P t N b n 1 (.lst b 0) g' else QuitsD P n 1 g')) \/
   (p=.lst b 0/\d=1/\∃g' bs,Z5 b bs/\Qc P t false g (Q0 0 1) (Qp 0)=.go g' (Q0 0 1) (Qp 0) #[Jc b 0] bs/\Tl P t N b n 1 (.lst b 1) g') \/
   (p=.lst b 1/\d=1/\∃g' bs,Z5 b bs/\Qc P t false g (Q0 0 1) (Qp 0)=.go g' (Q0 0 0) (Qp 0) #[QA b 0] bs/\Tl P t N b n 1 (.lst b 2) g') \/
   (p=.lst b 2/\d=1/\mayWake P g=true/\∃g' bs,Z5 b bs/\Qc P t false g (Q0 0 0) (Qp 0)=.go g' (Q0 0 0) (Qp 1) #[Z0 .disable,Jc b 1,QA b 1,Z0 .enable] bs/\QuitsD P n 1 g'))
inductive QC(P:Program)(t:TypeId)(N:Nat)(X:QI Tk):QI Tk
 |quiet {b0 a8 a1 a3 a4 g'} (hs:a8.status=.running) (hb:a1.tok.ph.blk=some a3) (h:∀st sm,Qc P t b0 a8 st sm=.go g' st sm #[] a4) (hbs:Z5 a3 a4) (a9:X b0 g' a1):QC P t N X b0 a8 a1
 |dis {b2 b0 a8 a1 a3 a7 b3 k_0 a4 g' a6} (hs:a8.status=.running) (ht:a1.tok=⟨a6,.par a3 a7 b3 k_0,b2⟩) (h:∀st sm,Qc P t b0 a8 st sm=.go g' st sm #[Z0 .disable] a4) (hbs:Z5 a3 a4)
   (a9:X b0 g' (a1.at (a6+1) (.par a3 a7 b3 k_0))):QC P t N X b0 a8 a1
 |ena {b2 b0 a8 a1 a3 a7 b3 k_0 a4 g' a6} (hs:a8.status=.running) (ht:a1.tok=⟨a6+1,.par a3 a7 b3 k_0,b2⟩) (h:∀st sm,Qc P t b0 a8 st sm=.go g' st sm #[Z0 .enable] a4) (hbs:Z5 a3 a4)
   (a9:X b0 g' (a1.at a6 (.par a3 a7 b3 k_0))):QC P t N X b0 a8 a1
 |add {b2 b0 a8 a1 a3 a7} (hs:a8.status=.running) (ht:a1.tok=⟨1,.par a3 a7 false .run,b2⟩) (hN:a7.length<N)
   (h:∀a5,a5<=a7.length->∃g' a4,Qc P t b0 a8 (Q0 a5 0) (Qp 0)=.go g' (Q0 (a5+1) 0) (Qp 0) #[Jc a3 0,QA a3 0] a4/\Z5 a3 a4/\X b0 g' (a1.at 1 (.par a3 a7 true .run))):QC P t N X b0 a8 a1
 |said {b2 b0 a8 a1 a3 a7 b3 a9 a4 g' wr} (hs:a8.status=.running) (ht:a1.tok=⟨1,.par a3 a7 b3 a9,b2⟩)
   (h:∀st sm,Qc P t b0 a8 st sm=.go g' st sm #[Z0 (bif wr then .write ⟨a3,1,none⟩else .read ⟨a3,1,none⟩)] a4) (hbs:Z5 a3 a4) (a9:X b0 g' a1):QC P t N X b0 a8 a1
 |look {b2 b0 a8 a1 a3 a7 k_0 u} (hs:a8.status=.running) (ht:a1.tok=⟨1,.par a3 a7 false k_0,b2⟩) (hk:Hq a7 u k_0)
   (h:∀a5,a5<=u->∃g' a4,Z5 a3 a4 /\
    ((Qc P t b0 a8 (Q0 a5 0) (Qp 0)=.go g' (Q0 a5 0) (Qp 0) #[Jc a3 0] a4/\(X b0 g' (a1.at 1 (.par a3 a7 false (.seen a5)))\/(a5=0/\X b0 g' (a1.at 1 (.par a3 a7 false .up))))) \/
     (1<=a5/\Qc P t b0 a8 (Q0 a5 0) (Qp 0)=.go g' (Q0 a5 1) (Qp 0) #[Jc a3 0,QA a3 0] a4/\X b0 g' (a1.at 1 (.par a3 a7 false .wait))))):QC P t N X b0 a8 a1
 |sema {b2 b0 a8 a1 a3 a7} (hs:a8.status=.running) (ho:a8.offers=none) (ht:a1.tok=⟨1,.par a3 a7 false .wait,b2⟩)
   (h0:∀st,∃a4,Z5 a3 a4/\Qc P t b0 a8 st (Qp 0)=.blocked { a8 with status:=.blocked } st (Qp 0) a4)
   (h1:∃g' a4,Z5 a3 a4/\Qc P t b0 a8 (Q0 0 0) (Qp 1)=.go g' (Q0 0 0) (Qp 0) #[Z0 .disable,Jc a3 1,QA a3 1,Z0 .enable] a4/\X b0 g' (a1.at 1 (.par a3 a7 false .up))):QC P t N X b0 a8 a1
 |look2 {b2 b0 a8 a1 a3 a7 a4 g'} (hs:a8.status=.running) (ht:a1.tok=⟨1,.par a3 a7 false .up,b2⟩) (hbs:Z5 a3 a4)
   (h:Qc P t b0 a8 (Q0 0 0) (Qp 0)=.go g' (Q0 0 0) (Qp 0) #[Jc a3 0] a4) (a9:X b0 g' a1):QC P t N X b0 a8 a1
 |acq {b0 a8 a1 a3 a7 a4 g'} (hs:a8.status=.running) (ht:a1.tok=⟨0,.par a3 a7 false .up,none⟩) (hbs:Z5 a3 a4)
   (h:∀st sm,Qc P t b0 a8 st sm=.go g' st sm #[Z0 (.acquire ⟨a3,0,none⟩)] a4) (a9:∀Ms,JM a7 Ms->X b0 g' ((a1.with Ms.flatten).at 0 .out)):QC P t N X b0 a8 a1
 |acqM {b0 a8 a1 a3 a7 a4 g' x u} (hs:a8.status=.running) (ht:a1.tok=⟨0,.par a3 a7 false .up,some (.par x u)⟩) (hbs:Z5 a3 a4)
   (h:∀st sm,Qc P t b0 a8 st sm=.go g' st sm #[Z0 (.acquire ⟨a3,0,none⟩)] a4) (a9:∀Ms M,JM a7 Ms->x.sp (u false) (u true) M->X b0 g' { a1 with M:=(a1.M++Ms.flatten)++M,tok:=⟨0,.out,none⟩ }):QC P t N X b0 a8 a1
 |make {b0 a8 a1 a3 M₁ M₂} (ht:a1.tok=⟨0,.out,none⟩) (hM:a1.M=M₁++.obj a3 (.cells #[Q0 0 0,Qp 0] t (0,0))::M₂) (a9:X b0 a8 { a1 with M:=M₁++M₂,tok:=⟨0,.par a3 [] false .run,none⟩ }):QC P t N X b0 a8 a1
 |makeM {b0 a8 a1 a3 x M₁ M₂} (ht:a1.tok=⟨0,.par a3 [] false .run,none⟩) (hM:a1.M=.obj x.m (.cells #[Zb 0,Qp 0] x.t (0,0))::(M₁++M₂)) (hD:x.sp false false M₁)
   (a9:X b0 a8 { a1 with M:=M₂,tok:=⟨0,.par a3 [] false .run,some (.par x λ _=>false)⟩ }):QC P t N X b0 a8 a1
 |mu {b0 a8 a1 a3 a0 x b4 b1 lo a6} (hs:a8.status=.running) (ht:a1.tok=⟨a6,.wrk a3 a0,some (.lok x b4 b1 lo)⟩)
   (h:∀q st sm,lo<=q.cls->LP.word b1 q=some (st,sm)->∃g' a4 es me' st' sm' d' lo',lo'<=q.cls/\Z5 x.m a4/\Qc P x.t b0 a8 (Zb st) (Qp sm)=.go g' (Zb st') (Qp sm') es a4/\LP.word me' q=some (st',sm')/\b1.cls<=me'.cls/\me'.rels=b1.rels /\
    b1.isOwn=me'.isOwn/\(b1.isOwn=true->me'=b1)/\(∀e∈es,GG x.m e)/\deafBehind a6 es=d'/\(sm'=sm\/sm'=0\/mayWake P a8=true)/\X b0 g' (a1.lk d' a3 a0 x b4 me' lo')):QC P t N X b0 a8 a1
 |mblk {b0 a8 a1 a3 a0 x b4 lo a6} (hs:a8.status=.running) (ho:a8.offers=none) (ht:a1.tok=⟨a6,.wrk a3 a0,some (.lok x b4 .wai lo)⟩)
   (h0:∀st,∃a4,Z5 x.m a4/\Qc P x.t b0 a8 st (Qp 0)=.blocked { a8 with status:=.blocked } st (Qp 0) a4)
   (h1:∃g' a4,Z5 x.m a4/\Qc P x.t b0 a8 (Zb 2) (Qp 1)=.go g' (Zb 2) (Qp 0) #[Z0 .disable,Jc x.m 1,QA x.m 1,Z0 .enable] a4/\X b0 g' (a1.lk a6 a3 a0 x b4 .wok 2)):QC P t N X b0 a8 a1
 |macq {b0 a8 a1 a3 a0 x b4 lo a4 g'} (hs:a8.status=.running) (ht:a1.tok=⟨0,.wrk a3 a0,some (.lok x b4 .got lo)⟩) (hbs:Z5 x.m a4)
   (h:∀st sm,Qc P x.t b0 a8 st sm=.go g' st sm #[Z0 (.acquire ⟨x.m,0,none⟩)] a4)
   (a9:∀b5 M,(x.sp (if b4 then b5 else false) (if b4 then false else b5)) M->X b0 g' { a1 with M:=a1.M++M,tok:=⟨0,.wrk a3 a0,some (.lok x b4 (.own b5) lo)⟩ }):QC P t N X b0 a8 a1
 |mrel {b0 a8 a1 a3 a0 x b4 lo b5 a4 g' M₁ M₂} (hs:a8.status=.running) (ht:a1.tok=⟨0,.wrk a3 a0,some (.lok x b4 (.own b5) lo)⟩) (hbs:Z5 x.m a4) (hM:a1.M=M₁++M₂) (hD:x.sp (if b4 then b5 else true) (if b4 then true else b5) M₁)
   (h:∀st sm,Qc P x.t b0 a8 st sm=.go g' st sm #[Z0 (.releaseMerge ⟨x.m,0,none⟩)] a4)
   (a9:X b0 g' { a1 with M:=M₂,tok:=⟨0,.wrk a3 a0,some (.lok x b4 .rls lo)⟩ }):QC P t N X b0 a8 a1
 |go {b2 mu' mc b0 a8 a1 a3 a7 a0 a2 Uc g' a5} (hs:a8.status=.running) (ht:a1.tok=⟨0,.par a3 a7 true .run,b2⟩) (h:Qc P t b0 a8 undef undef=.spawn g' a5 #[]) (hf:HC a1 a2 Uc)
   (hp:a2.tok=⟨0,.par a3 (a0::a7) false .run,mu'⟩) (hc:Uc.tok=⟨0,.wrk a3 a0,mc⟩) (hmu:Yy b2 mu' mc) (a9:X b0 g' a2) (k':X false a5 Uc):QC P t N X b0 a8 a1
 |lay {b2 b0 a8 a1 a3 a0 a4 g'} (hs:a8.status=.running) (ht:a1.tok=⟨0,.wrk a3 a0,b2⟩) (hmu:b2=none\/∃x b4 lo,b2=some (.lok x b4 .fin lo)) (hD:a0 a1.M) (hbs:Z5 a3 a4)
   (h:∀st sm,Qc P t b0 a8 st sm=.go g' st sm #[Z0 (.releaseMerge ⟨a3,0,none⟩)] a4) (a9:∃n,Tl P t N a3 n 0 (.rel a3) g'):QC P t N X b0 a8 a1
def QC.mono(f:∀m g ζ,X m g ζ->Y m g ζ)(h:QC P t N X m g ζ):QC P t N Y m g ζ:=by
 cases h with
 |quiet B hb h w k=>exact .quiet B hb h w (f _ _ _ k)
 |dis B ht h w k=>exact .dis B ht h w (f _ _ _ k)
 |ena B ht h w k=>exact .ena B ht h w (f _ _ _ k)
 |add B ht Q h=>exact .add B ht Q λ c H=>let ⟨g',bs,a,b,k⟩:=h c H;⟨g',bs,a,b,f _ _ _ k⟩
 |said B ht h w k=>exact .said B ht h w (f _ _ _ k)
 |look B ht S h=>exact .look B ht S λ c H=>let ⟨g',bs,a,k⟩:=h c H;⟨g',bs,a,k.imp (λ x=>⟨x.1,x.2.imp (f _ _ _) λ y=>⟨y.1,f _ _ _ y.2⟩⟩) λ x=>⟨x.1,x.2.1,f _ _ _ x.2.2⟩⟩
 |sema B L ht K h1=>exact .sema B L ht K (let ⟨g',bs,a,b,k⟩:=h1;⟨g',bs,a,b,f _ _ _ k⟩)
 |look2 B ht w h k=>exact .look2 B ht w h (f _ _ _ k)
 |acq B ht w h k=>exact .acq B ht w h λ I E=>f _ _ _ (k I E)
 |acqM B ht w h k=>exact .acqM B ht w h λ I M E hx=>f _ _ _ (k I M E hx)
 |makeM ht E G k=>exact .makeM ht E G (f _ _ _ k)
 |mu B ht h=>exact .mu B ht λ q st sm T V=>let ⟨g',bs,es,me',st',sm',d',lo',a0,a1,a2,a3,a4,a5,a6,a7,a8,a9,a10,k⟩:=h q st sm T V;⟨g',bs,es,me',st',sm',d',lo',a0,a1,a2,a3,a4,a5,a6,a7,a8,a9,a10,f _ _ _ k⟩
 |mblk B L ht K h1=>exact .mblk B L ht K (let ⟨g',bs,a,b,k⟩:=h1;⟨g',bs,a,b,f _ _ _ k⟩)
 |macq B ht w h k=>exact .macq B ht w h λ v M E=>f _ _ _ (k v M E)
 |mrel B ht w E G h k=>exact .mrel B ht w E G h (f _ _ _ k)
 |make ht E k=>exact .make ht E (f _ _ _ k)
 |go B ht h hf hp H F k k'=>exact .go B ht h hf hp H F (f _ _ _ k) (f _ _ _ k')
 |lay B ht F G w h k=>exact .lay B ht F G w h k
def Za(P:Program)(t:TypeId)(N:Nat):Sys P Tk:=⟨QC P t N,λ h _ _ _ k=>k.mono h⟩
end
variable{rk rk':Nat->Option Tr}{υ:Option Tr}{η θ:Tr}{Stop:QI Tk}{h:Gr}{gs Z:Array Gr}{V V':Hd->Qa Tk}{q q':Nat->Nat}{d o W' R':Hd->Loc->Prop}{fn:FuncId}{pos:String}{e:Event}
section
open Go.Conc
def JX(n:Nat)(rk:Nat->Option Tr):List Tr:=(range n).filterMap rk
def Pa(n:Nat)(rk:Nat->Option Tr):JX (n+1) rk=JX n rk++(rk n).toList:=by
 simp only[JX,range_succ,filterMap_append];cases h:rk n <;> simp[h]
def ET(h:∀i,i<n->rk i=rk' i):JX n rk=JX n rk':=by
 induction n with
 |zero=>rfl
 |succ n b=>rw[Pa,Pa,b λ i hi=>h i O1,h n O1]
def OK(rk:Nat->Option Tr)(x:Option Tr)(hi:i<n):(JX n (Zp rk i x)).Perm (x.toList++JX n (Zp rk i none)):=by
 induction n with
 |zero=>omega
 |succ n b=>
  rw[Pa,Pa];by_cases e:i=n
  .subst e;rw[Qk,Qk,ET (rk:=Zp rk i x) (rk':=Zp rk i none) λ j f=>by rw[Qu _ _ O1,Qu _ _ O1]];simp only[Option.toList_none,append_nil];exact perm_append_comm
  .rw[Qu _ _ O1,Qu _ _ O1];have:=(b O1).append_right (rk n).toList
   rwa [append_assoc]at this
def Dt(hi:i<n)(b:rk i=some r):(JX n rk).Perm (r::JX n (Zp rk i none)):=by
 have:=OK rk (some r) hi;have e:Zp rk i (some r)=rk:=by funext j;by_cases e:j=i <;> simp[Zp,e,b]
 rwa [e]at this
def pL(hi:i<n)(h:rk i=some r)(hx:∀b,υ=some b->Tr.Sub b r):ZN (JX n (Zp rk i υ)) (JX n rk):=
 ⟨r,JX n (Zp rk i none),υ.toList,Dt hi h,OK rk υ hi,λ c f=>hx c (by simpa[Option.mem_toList]using f)⟩
def pM(hi:i<n)(h:rk i=some r)(h1:Tr.Sub η r)(h2:Tr.Sub θ r):ZN (JX (n+1) (Zp (Zp rk i (some η)) n (some θ))) (JX n rk):=by
 refine⟨r,JX n (Zp rk i none),[θ,η],Dt hi h,?_,by simp[h1,h2]⟩;rw[Pa,Qk,ET (rk:=Zp (Zp rk i (some η)) n (some θ)) (rk':=Zp rk i (some η)) λ j w=>Qu _ _ O1];have:=OK rk (some η) hi;simp only[Option.toList_some]at this ⊢;refine(perm_append_comm).trans ?_;exact(this.cons θ)
def ZL(p:Ph):Prop:=∃b D,p=.wrk b D
def Z1(V:Hd->Qa Tk)(i:Nat):Ph:=if i=0 then .out else(V (.run i)).tok.ph
def ZH:Qa Tk:=Qa.bare ⟨0,.out,none⟩
def Q2(V:Hd->Qa Tk)(i:Nat):Option ZO:=(V (.run i)).tok.mu
def Jv(V:Hd->Qa Tk):Option Nat:=ZO.mb (Q2 V 0)
structure WY(gs:Array Gr)(w:World)(V:Hd->Qa Tk)(x:QW)(u:Bool->Bool)(lp:Bool->LP)(st sm:Nat):Prop where
 sh:Sh x.m x.t (Zb st) (Qp sm) w
 word:M0 lp=some (st,sm)
 tk:∀i x' s me lo,Q2 V i=some (.lok x' s me lo)->x'=x/\me=lp s/\lo<=(lp (!s)).cls/\u s=true
 one:∀i j s x_1 m_1 l₁ x_2 m_2 l₂,Q2 V i=some (.lok x_1 s m_1 l₁)->Q2 V j=some (.lok x_2 s m_2 l₂)->i=j
 who:∀s,u s=true->lp s=.fin\/∃i me lo,Q2 V i=some (.lok x s me lo)
 idle:∀s,u s=false->lp s=.idle
 dep:((lp false).isOwn|| (lp true).isOwn)=true->V .lck=ZH
 dep':((lp false).isOwn|| (lp true).isOwn)=false->x.dep lp (V .lck).M
 slp:∀i x' s me lo g,Q2 V i=some (.lok x' s me lo)->gs[i]?=some g->g.status≠.running->sm=0
def JI(gs:Array Gr)(w:World)(V:Hd->Qa Tk):Prop:=
 (∀i x u,i≠0->Q2 V i≠some (.par x u))/\(V .lck).I=(λ _=>none) /\
 match Q2 V 0 with
 |none=>(∀i,Q2 V i=none)/\V .lck=ZH
 |some (.par x u)=>(∀j,QJ x.m (V j))/\∃b st sm,WY gs w V x u b st sm
 |some (.lok ..)=>False
def WY.at{gs f:Array Gr}{w w':World}{V V':Hd->Qa Tk}{x:QW}{u:Bool->Bool}{L:Bool->LP}{st sm:Nat}(h:WY gs w V x u L st sm)(B:∀i,Q2 V' i=Q2 V i)(hm:V' .lck=V .lck)
  (F:Sh x.m x.t (Zb st) (Qp sm) w') (E:∀i b s me lo g',Q2 V i=some (.lok b s me lo)->f[i]?=some g'->g'.status≠.running->∃g,gs[i]?=some g/\g.status≠.running):WY f w' V' x u L st sm:=by
 refine⟨F,h.word,λ i b s me lo e=>h.tk i b s me lo (by rw[<- B];exact e),λ i j s I G l₁ K H l₂ e e'=>h.one i j s I G l₁ K H l₂ (by rw[<- B];exact e) (by rw[<- B];exact e'),λ s P=>(h.who s P).imp id λ⟨i,me,lo,e⟩=>⟨i,me,lo,by rw[B];exact e⟩,h.idle,λ e=>by rw[hm];exact h.dep e,λ e=>by rw[hm];exact h.dep' e,λ i b s me lo g' e M N=>?_⟩;rw[B]at e;obtain⟨g,h1,h2⟩:=E i b s me lo g' e M N;exact h.slp i b s me lo g e h1 h2
def JI.at{gs f:Array Gr}{w w':World}{V V':Hd->Qa Tk}(h:JI gs w V)(E:∀i,Q2 V' i=Q2 V i)(hm:V' .lck=V .lck)(B:∀m,(∀j,QJ m (V j))->m<w.heap.size->∀j,QJ m (V' j))
  (G:∀m t st sm,(∀j,QJ m (V j))->Sh m t (Zb st) (Qp sm) w->Sh m t (Zb st) (Qp sm) w')
  (F:∀i K s me lo g',Q2 V i=some (.lok K s me lo)->f[i]?=some g'->g'.status≠.running->∃g,gs[i]?=some g/\g.status≠.running):JI f w' V':=by
 obtain⟨h1,h2,b⟩:=h;refine⟨λ i x u hi=>by rw[E];exact h1 i x u hi,by rw[hm];exact h2,?_⟩;rw[E];cases e:Q2 V 0 with
 |none=>rw[e]at b;exact⟨λ i=>by rw[E];exact b.1 i,by rw[hm];exact b.2⟩
 |some mu=>
  rw[e]at b;cases mu with
  |lok=>exact b
  |par x u=>
   obtain⟨H,I,st,sm,h5⟩:=b;exact⟨B _ H (Array.getElem?_eq_some_iff.1 h5.sh).1,I,st,sm,h5.at E hm (G _ _ _ _ H h5.sh) F⟩
def Uz(i:Nat)(tk:Tk):Prop:=(i=0/\∃b ds mu,tk=⟨1,.par b ds false .wait,mu⟩)\/∃d b D x s lo,tk=⟨d,.wrk b D,some (.lok x s .wai lo)⟩
def QH(t:TypeId)(N:Nat)(gs:Array Gr)(w:World)(V:Hd->Qa Tk)(rel:Nat->Option Nat):Prop:=
 match(V (.run 0)).tok.ph with
 |.out=>(∀i,i≠0->(V (.run i)).tok.ph=.out)/\∀i,rel i=none
 |.par b ds pend k=>(∀j,QJ b (V j))/\∃W c wt s,Sh b t (Q0 c wt) (Qp s) w/\GI N b ds pend k (Z1 V) rel (λ i=>(V (.dep i)).M) W c wt s/\(∀g,gs[0]?=some g->g.status≠.running->s=0)
 |_=>False
structure MI(P:Program)(t:TypeId)(N:Nat)(Stop:QI Tk)(ex:Option Nat)(gs:Array Gr)(w:World)(tr:Trace)(V:Hd->Qa Tk)(rk:Nat->Option Tr)(rel:Nat->Option Nat)(q:Nat->Nat):Prop where
 live:∀i r,ex≠some i->rk i=some r->∃g,JR (Za P t N) Stop r (i==0) g (V (.run i)) /\
  (gs[i]?=some g\/(gs[i]?=some { g with status:=.blocked }/\g.offers=none/\Uz i (V (.run i)).tok))
 root:rk 0≠none
 gone:∀i g,rk i=none->gs[i]?=some g->(V (.run i)).tok.ph=.out->QuitsD P (q i) (Deaf tr i) g
 tail:∀i,rk i=none->(V (.run i)).tok.ph≠.out->∃g b,gs[i]?=some g/\(V (.run 0)).tok.ph.blk=some b/\Tl P t N b (q i) (Deaf tr i) (V (.run i)).tok.ph g
 above:∀i,gs.size<=i->rk i=none/\Deaf tr i=0/\rel i=none
 bare:∀i,rk i=none->(V (.run i)).I=(λ _=>none)/\(V (.run i)).M=[]
 wk:∀i,i≠0->rk i≠none->ZL (V (.run i)).tok.ph
 wk':∀i,ZL (V (.run i)).tok.ph->rk i≠none
 deaf:∀i,rk i≠none->Deaf tr i=(V (.run i)).tok.d
 deps:∀i,rel i=none->V (.dep i)=ZH
 vi:VI V w
 ti:∃rm,TI (λ k=>(V k).canW) (λ k=>(V k).canR) rel (V (.run 0)).tok.ph.blk (Jv V) rm (λ i=>i=0\/(V (.run i)).tok.ph≠.out) (λ i=>ZL (V (.run i)).tok.ph) w.heap.size tr
 grp:QH t N gs w V rel
 mux:JI gs w V
 bareM:∀i,rk i=none->Q2 V i=none
def JR.running(f:∀m g U,Stop m g U->g.status=.running):∀{r:Tr}{m:Bool}{g:Gr}{U:Qa Tk},JR (Za P t N) Stop r m g U->g.status=.running:=by
 intro r
 induction r using Tr.sub_wf.induction with
 |_ r E=>
  intro m g U h;obtain⟨F,_,h|h|h⟩:=h.step
  .exact f _ _ _ h
  .exact h.1
  .have h:QC P t N _ m g F:=h;cases h with
   |make ht G k=>obtain⟨B,w,k⟩:=k;exact E B w k
   |makeM ht G H k=>obtain⟨B,w,k⟩:=k;exact E B w k
   |quiet b|dis b|ena b|add b|said b|look b|sema b|look2 b|acq b|acqM b|go b|lay b|mu b|mblk b|macq b|mrel b=>exact b
def Wc(b:h.status=.running):woken P g I w' h=h:=by
 unfold woken;split
 .simp[Goroutine.again,b]
 .rfl
def xO{g':Gr}(f:h.status=.running)(b:h.offers=none):woken P g g' w' { h with status:=.blocked }=h\/woken P g g' w' { h with status:=.blocked }={ h with status:=.blocked }:=by
 unfold woken;split
 .exact .inl (again_blocked f b w')
 .exact .inr rfl
def behind(P:Program)(gs:Array Gr)(i:Nat)(g g':Gr)(w':World):Array Gr:=(gs.map (woken P g g' w')).setIfInBounds i g'
def Wi(hi:gs[i]?=some g):(behind P gs i g h w')[i]?=some h:=by
 have:=(Array.getElem?_eq_some_iff.1 hi).1;simp[behind,this]
def J3(h:j≠i):(behind P gs i g I w')[j]?=(gs[j]?).map (woken P g I w'):=by
 simp only[behind];rw[Array.getElem?_setIfInBounds_ne (Ne.symm h),Array.getElem?_map]
def Jl:(behind P gs i g h w').size=gs.size:=by simp[behind]
def Tl.running{b:Nat}:∀{n d:Nat}{p:Ph}{g:Gr},Tl P t N b n d p g->g.status=.running
 |0,_,_,_,h=>h.elim
 |_+1,_,_,_,h=>h.1
def MI.go(h:MI P t N Stop (some i) gs w tr V rk rel q)(S:∀m g U,Stop m g U->g.status=.running){g':Gr}
  (hi:gs[i]?=some g) (H:∀j,j≠i->V' (.run j)=V (.run j)) (F:∀j,j≠i->rk' j=rk j) (hq:∀j,j≠i->q' j=q j) (ae:∀j,j≠i->rel' j=rel j\/rel' j=none) (X:rk' 0≠none)
  (E:i≠0\/(V' (.run 0)).tok.ph.blk=(V (.run 0)).tok.ph.blk\/∀j,j≠0->(V (.run j)).tok.ph=.out)
  (G:∀r,rk' i=some r->JR (Za P t N) Stop r (i==0) g' (V' (.run i))/\deafBehind (Deaf tr i) es=(V' (.run i)).tok.d/\(i≠0->ZL (V' (.run i)).tok.ph))
  (f:rk' i=none->i≠0/\(V' (.run i)).I=(λ _=>none)/\(V' (.run i)).M=[]/\¬ZL (V' (.run i)).tok.ph /\
   (((V' (.run i)).tok.ph=.out/\QuitsD P (q' i) (deafBehind (Deaf tr i) es) g')\/((V' (.run i)).tok.ph≠.out/\∃b,(V (.run 0)).tok.ph.blk=some b/\Tl P t N b (q' i) (deafBehind (Deaf tr i) es) (V' (.run i)).tok.ph g')))
  (T:∀j,rel' j=none->V' (.dep j)=ZH) (ag:VI V' w')
  (af:∃rm,TI (λ k=>(V' k).canW) (λ k=>(V' k).canR) rel' (V' (.run 0)).tok.ph.blk (Jv V') rm (λ i=>i=0\/(V' (.run i)).tok.ph≠.out) (λ i=>ZL (V' (.run i)).tok.ph) w'.heap.size (tr++MemOp.ofEvents i g.frame.fn g.frame.place es))
  (Z:QH t N (behind P gs i g g' w') w' V' rel') (aa:JI (behind P gs i g g' w') w' V') (ac:rk' i=none->Q2 V' i=none) :
  MI P t N Stop none (behind P gs i g g' w') w' (tr++MemOp.ofEvents i g.frame.fn g.frame.place es) V' rk' rel' q':=by
 have ah:=(Array.getElem?_eq_some_iff.1 hi).1
 have hD:∀j,j≠i->Deaf (tr++MemOp.ofEvents i g.frame.fn g.frame.place es) j=Deaf tr j:=by
  intro j K;refine Deaf_other tr (Ne.symm K) _ ?_;intro op ad;obtain⟨e,_,rfl⟩:=Go.Conc.mem_ofEvents ad;rfl
 have Q:Deaf (tr++MemOp.ofEvents i g.frame.fn g.frame.place es) i=deafBehind (Deaf tr i) es:=Deaf_own ..;refine⟨?_,X,?_,?_,?_,?_,?_,?_,?_,T,ag,af,Z,aa,λ j K=>?_⟩
 .intro j r _ B;by_cases e:j=i
  .subst e;exact⟨g',(G r B).1,.inl (Wi hi)⟩
  .rw[F j e]at B;obtain⟨ab,hJ,Y⟩:=h.live j r (λ e'=>e (Option.some.inj e').symm) B;have L:=hJ.running S;rw[H j e];refine⟨ab,hJ,?_⟩;rw[J3 e];rcases Y with Y|⟨Y,ho,hb⟩
   .exact .inl (by rw[Y,Option.map_some,Wc L])
   .rw[Y,Option.map_some];rcases xO (P:=P) (g:=g) (g':=g') (w':=w') L ho with e|e
    .exact .inl (by rw[e])
    .exact .inr ⟨by rw[e],ho,hb⟩
 .intro j x B hx hp;by_cases e:j=i
  .subst e;rw[Wi hi]at hx;cases hx;rw[Q];rcases(f B).2.2.2.2 with⟨_,h1⟩|⟨h1,_⟩
   .exact h1
   .exact absurd hp h1
  .rw[J3 e]at hx;obtain⟨y,hy,rfl⟩:=Option.map_eq_some_iff.1 hx;rw[F j e]at B;rw[H j e]at hp;have:=h.gone j y B hy hp;rw[woken_quitsD this,hD j e,hq j e];exact this
 .intro j B hp;by_cases e:j=i
  .subst e;rcases(f B).2.2.2.2 with⟨h1,_⟩|⟨_,b,hb,h1⟩
   .exact absurd h1 hp
   .refine⟨g',b,Wi hi,?_,by rw[Q];exact h1⟩;rw[H 0 (Ne.symm (f B).1)];exact hb
  .rw[F j e]at B;rw[H j e]at hp;obtain⟨y,b,hy,hb,ht⟩:=h.tail j B hp;refine⟨y,b,?_,?_,?_⟩
   .rw[J3 e,hy,Option.map_some,Wc ht.running]
   .by_cases e0:i=0
    .subst e0;rcases E with E|E|E
     .exact absurd rfl E
     .rw[E];exact hb
     .exact absurd (E j e) hp
    .rw[H 0 (Ne.symm e0)];exact hb
   .rw[hD j e,hq j e,H j e];exact ht
 .intro j K;rw[Jl]at K;have e:j≠i:=O1
  rw[F j e,hD j e];obtain⟨a1,a2,a3⟩:=h.above j K;exact⟨a1,a2,(ae j e).elim (λ x=>x.trans a3) id⟩
 .intro j B;by_cases e:j=i
  .subst e;exact⟨(f B).2.1,(f B).2.2.1⟩
  .rw[H j e];rw[F j e]at B;exact h.bare j B
 .intro j h0 B;by_cases e:j=i
  .subst e;obtain⟨r,W⟩:=Option.ne_none_iff_exists'.1 B;exact(G r W).2.2 h0
  .rw[H j e];rw[F j e]at B;exact h.wk j h0 B
 .intro j hw;by_cases e:j=i
  .subst e;intro B;exact(f B).2.2.2.1 hw
  .rw[H j e]at hw;rw[F j e];exact h.wk' j hw
 .intro j B;by_cases e:j=i
  .subst e;obtain⟨r,W⟩:=Option.ne_none_iff_exists'.1 B;rw[Q];exact(G r W).2.1
  .rw[H j e,hD j e];rw[F j e]at B;exact h.deaf j B
 .by_cases e:j=i
  .subst e;exact ac K
  .unfold Q2;rw[H j e];rw[F j e]at K;exact h.bareM j K
def WR:Nat->(Nat->Nat)->Nat
 |0,_=>0
 |n+1,f=>WR n f+f n
def IJ{f b:Nat->Nat}:∀{n:Nat},(∀j,j<n->b j=f j)->WR n b=WR n f
 |0,_=>rfl
 |n+1,h=>by simp only[WR,IJ (n:=n) λ j w=>h j O1,h n O1]
def Uk{f b:Nat->Nat}{i:Nat}:∀{n:Nat},i<n->(∀j,j<n->j≠i->b j=f j)->b i<f i->WR n b<WR n f
 |0,hi,_,_=>O1
 |n+1,hi,h,hl=>by
  by_cases e:i=n
  .subst e;simp only[WR];rw[IJ (n:=i) λ j w=>h j O1 O1];omega
  .have:=Uk (n:=n) O1 (λ j w B=>h j O1 B) hl;simp only[WR,h n O1 O1];omega
def left(rk:Nat->Option Tr)(q:Nat->Nat)(i:Nat):Nat:=if(rk i).isSome then 0 else q i
def LK{f:Nat->Nat}(h:∀j,f j<=1):∀n,WR n f<=n
 |0=>Nat.le_refl _
 |n+1=>by have:=LK h n;have:=h n;simp only[WR];omega
def HA(gs:Array Gr)(i:Nat):Nat:=if(gs[i]?).any (·.status==.running)then 1 else 0
def vR(gs:Array Gr)(i:Nat):HA gs i<=1:=by unfold HA;split <;> omega
def Uv(gs:Array Gr):Nat:=WR gs.size (HA gs)
def pv(gs:Array Gr):Uv gs<=gs.size:=LK (vR gs) _
def QD(gs:Array Gr)(rk:Nat->Option Tr)(q:Nat->Nat):List Tr×Nat:=(JX gs.size rk,(gs.size+1)*WR gs.size (left rk q)+Uv gs)
def Ix(E:Z.size=gs.size)(hi:i<gs.size)(B:rk i=none)(w:∀j,j≠i->q' j=q j)(hl:q' i<q i):JB (QD Z rk q') (QD gs rk q):=by
 unfold QD;rw[E];refine JB.num ?_;have h1:WR gs.size (left rk q')<WR gs.size (left rk q):=Uk hi (λ j _ h=>by simp[left,w j h]) (by simp[left,B,hl]);have h2:=pv Z;have f:=Nat.mul_le_mul_left (gs.size+1) h1;rw[Nat.mul_succ]at f;omega
def ju(hi:gs[i]?=some g)(w:g.status=.running)(hb:I.status=.blocked):JB (QD (gs.setIfInBounds i I) rk q) (QD gs rk q):=by
 have b:=(Array.getElem?_eq_some_iff.1 hi).1;unfold QD;have f:(gs.setIfInBounds i I).size=gs.size:=S1
 rw[f];refine JB.num (Nat.add_lt_add_left ?_ _);unfold Uv;rw[f];refine Uk b (λ j _ h=>?_) ?_
 .unfold HA;rw[Array.getElem?_setIfInBounds_ne (Ne.symm h)]
 .have h1:HA gs i=1:=by unfold HA;rw[hi];simp[w]
  have h2:HA (gs.setIfInBounds i I) i=0:=by unfold HA;simp[b,hb]
  omega
section
variable{mb:Option Nat}
def TI.events(h:TI d o rel A mb rm act wk size tr)(K:size<=N)(B:∀e∈es,(MemAct.ofEvent e).low N)(I:∀e∈es,∀a,MemAct.ofEvent e≠.mark (.release a))
  (F:∀j a,touchAt tr j=some a->∀e∈es,∀b,(MemAct.ofEvent e).touch?=some b->∀said,a.conflicts said b->Knows tr i j)
  (M:∀k l,W' k l->d k l\/(k=.run i/\Loc.newN size l)) (L:∀k l,R' k l->o k l\/(k=.run i/\Loc.newN size l))
  (E:∀e∈es,∀a,(MemAct.ofEvent e).touch?=some a->∀k,k≠.run i->¬d k a.loc/\(a.write=true->¬o k a.loc))
  (H:∀e∈es,∀a,(MemAct.ofEvent e).touch?=some a->JC A a.loc->a.kind≠.plain/\(a.kind=.said->i=0)) (G:∀e∈es,∀a,(MemAct.ofEvent e).touch?=some a->JC mb a.loc->a.kind=.atomic)
  (w:i=0\/wk i\/∀j,tr.size<=j->¬(tr++MemOp.ofEvents i fn pos es).counts j) :
  TI W' R' rel A mb rm act wk N (tr++MemOp.ofEvents i fn pos es):=by
 refine h.step K ?_ ?_ ?_ ?_ M L ?_ ?_ ?_ w
 .intro op hop;obtain⟨e,_,rfl⟩:=Go.Conc.mem_ofEvents hop;rfl
 .intro op hop;obtain⟨e,f,rfl⟩:=Go.Conc.mem_ofEvents hop;exact B e f
 .intro op hop;obtain⟨e,f,rfl⟩:=Go.Conc.mem_ofEvents hop;exact I e f
 .intro j a ha op hop;obtain⟨e,f,rfl⟩:=Go.Conc.mem_ofEvents hop;exact F j a ha e f
 .intro op hop;obtain⟨e,f,rfl⟩:=Go.Conc.mem_ofEvents hop;exact E e f
 .intro op hop;obtain⟨e,f,rfl⟩:=Go.Conc.mem_ofEvents hop;exact H e f
 .intro op hop;obtain⟨e,f,rfl⟩:=Go.Conc.mem_ofEvents hop;exact G e f
end
def UA(e:Event):Prop:=(MemAct.ofEvent e).touch?=none/\(∀n,(MemAct.ofEvent e).low n)/\∀a,MemAct.ofEvent e≠.mark (.release a)
def Pj(h:e.mute=true):UA e:=by
 obtain⟨loc,wr,b⟩:=e;cases loc <;> simp[Event.mute]at h;rename_i m;cases m <;> simp at h <;> exact⟨rfl,λ _=>trivial,λ _ h=>by cases h⟩
section
variable{mb:Option Nat}
def TI.dumb(h:TI W' R' rel A mb rm act wk size tr)(f:∀e∈es,UA e):TI W' R' rel A mb rm act wk size (tr++MemOp.ofEvents i fn pos es):=by
 refine h.events (Nat.le_refl _) (λ e h=>(f e h).2.1 _) (λ e h=>(f e h).2.2) (λ j a _ e h b hb=>?_) (λ _ _=>.inl) (λ _ _=>.inl) (λ e h a ha=>?_) (λ e h a ha=>?_) (λ e h a ha=>?_) ?_
 .rw[(f e h).1]at hb;cases hb
 .rw[(f e h).1]at ha;cases ha
 .rw[(f e h).1]at ha;cases ha
 .rw[(f e h).1]at ha;cases ha
 .refine .inr (.inr λ j G E=>?_);obtain⟨x,hx,_⟩:=E;rcases Ji (t:=tr) hx with⟨F,_⟩|⟨_,op,B,w,_⟩
  .omega
  .obtain⟨e,he',rfl⟩:=Go.Conc.mem_ofEvents B;rw[(f e he').1]at w;cases w
end
def Of(h:JY ζ w e)(hl:XU w' e):UA e \/
  ((∃x,(MemAct.ofEvent e).touch?=some x/\x.kind=.plain/\x.loc=e.loc/\(x.write=true->ζ.canW e.loc\/Loc.new w e.loc)/\(ζ.canR e.loc\/Loc.new w e.loc))/\(MemAct.ofEvent e).low w'.heap.size/\∀a,MemAct.ofEvent e≠.mark (.release a)):=by
 obtain⟨loc,wr,E⟩:=e;cases loc with
 |cell a=>
  obtain⟨h1,h2⟩:=h;simp only at h1 h2;subst h1;refine .inr ⟨⟨_,rfl,rfl,rfl,λ f=>?_,?_⟩,hl,λ _ h=>by cases h⟩
  .simp only at f;subst f;simpa using h2
  .cases wr
   .simpa using h2
   .simp only[if_true]at h2;exact h2.imp Zu id
 |obj b=>
  obtain⟨h1,h2⟩:=h;simp only at h1 h2;subst h1;have B:MemAct.ofEvent ⟨.obj b,wr,false⟩=.access ⟨.obj b,wr,false⟩:=by cases wr <;> rfl
  rw[B];refine .inr ⟨⟨_,rfl,rfl,rfl,λ f=>?_,?_⟩,hl,λ _ h=>by cases h⟩
  .simp only at f;subst f;simpa using h2
  .cases wr
   .simpa using h2
   .simp only[if_true]at h2;exact h2.imp Zu id
 |mark m=>
  have h:Mark.still m=true:=h;left;cases m <;> simp[Mark.still]at h <;> exact⟨rfl,λ _=>trivial,λ _ h=>by cases h⟩
 |output=>exact h.elim
 |goroutines=>exact h.elim
def YY(h:Loc.new w l):Loc.newN w.heap.size l:=by cases l <;> exact h
section
variable{mb:Option Nat}
def IW(h:TI (λ k=>(V k).canW) (λ k=>(V k).canR) rel A mb rm act wk w.heap.size tr)(N:VI V w)(hb:∀b,A=some b->b<w.heap.size/\QJ b (V (.run i)))(hm:∀b,mb=some b->b<w.heap.size/\QJ b (V (.run i)))
  (E:∀e∈es,JY (V (.run i)) w e/\XU w' e) (T:ZQ (V (.run i)) w w' ζ) (hi:i=0\/wk i) :
  TI (λ k=>(Q1 V (.run i) ζ k).canW) (λ k=>(Q1 V (.run i) ζ k).canR) rel A mb rm act wk w'.heap.size (tr++MemOp.ofEvents i fn pos es):=by
 have key:∀e∈es,∀x,(MemAct.ofEvent e).touch?=some x->x.kind=.plain/\(x.write=true->(V (.run i)).canW x.loc\/Loc.new w x.loc)/\((V (.run i)).canR x.loc\/Loc.new w x.loc):=by
  intro e B x hx;rcases Of (E e B).1 (E e B).2 with G|⟨⟨y,hy,h1,h2,f,Z⟩,_⟩
  .rw[G.1]at hx;cases hx
  .rw[hy]at hx;cases hx;rw[h2];exact⟨h1,f,Z⟩
 refine h.events T.size ?_ ?_ ?_ ?_ ?_ ?_ ?_ ?_ (hi.imp id .inl)
 .intro e B;rcases Of (E e B).1 (E e B).2 with G|⟨_,G,_⟩
  .exact G.2.1 _
  .exact G
 .intro e B;rcases Of (E e B).1 (E e B).2 with G|⟨_,_,G⟩
  .exact G.2.2
  .exact G
 .intro j a ha e B b hb' said hc;obtain⟨h1,h2,f⟩:=key e B b hb'
  have H:¬Loc.new w a.loc:=by
   obtain⟨x,hx,X⟩:=touch_of ha;exact λ M=>Iw (h.low x (Array.mem_of_getElem? hx)) X (YY M)
  obtain⟨S,_,W,_⟩:=hc;rw[<- S]at h2 f;refine h.known (.run i) j a ha ?_;rcases W with L|L
  .exact .inr ⟨f.resolve_right H,L⟩
  .exact .inl ((h2 L).resolve_right H)
 .intro k l hl;by_cases e:k=.run i
  .subst e;simp only[Ql]at hl;exact(T.cw l hl).imp id λ M=>⟨rfl,YY M⟩
  .simp only[Qh _ _ e]at hl;exact .inl hl
 .intro k l hl;by_cases e:k=.run i
  .subst e;simp only[Ql]at hl;exact(T.cr l hl).imp id λ M=>⟨rfl,YY M⟩
  .simp only[Qh _ _ e]at hl;exact .inl hl
 .intro e B a ha k hk;obtain⟨h1,h2,f⟩:=key e B a ha;refine⟨λ L=>?_,λ Q Y=>?_⟩
  .rcases f with f|f
   .exact N.sep k (.run i) _ hk L f
   .exact Kr (N.ok k) (Zu L) f
  .rcases h2 Q with h2|h2
   .exact N.sep (.run i) k _ (Ne.symm hk) h2 Y
   .exact Kr (N.ok k) Y h2
 .intro e B a ha hib;exfalso;obtain⟨h1,h2,f⟩:=key e B a ha;obtain⟨loc,wr,kd⟩:=a;cases loc <;> simp only[JC]at hib;rename_i P;obtain⟨I,F⟩:=hib;obtain⟨U,K⟩:=hb _ I;rcases f with f|f
  .exact K P rfl F f
  .simp only[Loc.new]at f;omega
 .intro e B a ha hib;exfalso;obtain⟨h1,h2,f⟩:=key e B a ha;obtain⟨loc,wr,kd⟩:=a;cases loc <;> simp only[JC]at hib;rename_i P;obtain⟨I,F⟩:=hib;obtain⟨U,K⟩:=hm _ I;rcases f with f|f
  .exact K P rfl F f
  .simp only[Loc.new]at f;omega
end
def Yo(b:Nat)(parent:Bool)(e:Event):Prop:=
 Event.mute e=true\/(∃o wr,o<2/\e=⟨.cell ⟨b,o,none⟩,wr,true⟩)\/(parent=true/\∃o wr,o<2/\e=Z0 (bif wr then .write ⟨b,o,none⟩else .read ⟨b,o,none⟩))
def LJ(h:TI (λ k=>(V k).canW) (λ k=>(V k).canR) rel (some b) A rm act wk w.heap.size tr)(hb:b<w.heap.size)(I:∀k,QJ b (V k))(K:act i)
  (L:∀e∈es,Yo b (i==0) e) (M:A≠some b) (hi:i=0\/wk i\/∀j,tr.size<=j->¬(tr++MemOp.ofEvents i fn pos es).counts j) :
  TI (λ k=>(V k).canW) (λ k=>(V k).canR) rel (some b) A rm act wk w.heap.size (tr++MemOp.ofEvents i fn pos es):=by
 have key:∀e∈es,(MemAct.ofEvent e).low w.heap.size/\(∀a,MemAct.ofEvent e≠.mark (.release a))/\∀x,(MemAct.ofEvent e).touch?=some x->(∃o,o<2/\x.loc=.cell ⟨b,o,none⟩)/\(x.kind=.atomic\/(x.kind=.said/\i=0)):=by
  intro e f;rcases L e f with hm|⟨o,wr,I,rfl⟩|⟨hp,o,wr,I,rfl⟩
  .have:=Pj hm;exact⟨this.2.1 _,this.2.2,λ x hx=>by rw[this.1]at hx;cases hx⟩
  .refine⟨hb,λ _ h=>(by cases h),λ x hx=>?_⟩;cases hx;exact⟨⟨o,I,rfl⟩,.inl rfl⟩
  .have B:i=0:=by simpa using hp
   cases wr
   .refine⟨hb,λ _ h=>(by cases h),λ x hx=>?_⟩;cases hx;exact⟨⟨o,I,rfl⟩,.inr ⟨rfl,B⟩⟩
   .refine⟨hb,λ _ h=>(by cases h),λ x hx=>?_⟩;cases hx;exact⟨⟨o,I,rfl⟩,.inr ⟨rfl,B⟩⟩
 refine h.events (Nat.le_refl _) (λ e f=>(key e f).1) (λ e f=>(key e f).2.1) ?_ (λ _ _=>.inl) (λ _ _=>.inl) ?_ ?_ ?_ hi
 .intro j a ha e f x hx said hc;obtain⟨⟨o,G,hl⟩,E⟩:=(key e f).2.2 x hx;obtain⟨h1,_,_,H⟩:=hc;have F:JC (some b) a.loc:=by rw[h1,hl];exact⟨rfl,G⟩
  rcases H with H|H|⟨_,H,h5⟩
  .exact h.grpP j a ha F H i K
  .rcases E with E|⟨E,_⟩ <;> rw[E]at H <;> cases H
  .rcases E with E|⟨_,B⟩
   .rw[E]at h5;cases h5
   .subst B;exact h.grpS j a ha F H
 .intro e f a ha k _;obtain⟨⟨o,G,hl⟩,_⟩:=(key e f).2.2 a ha;rw[hl];exact⟨λ P=>I k _ rfl G (Zu P),λ _ N=>I k _ rfl G N⟩
 .intro e f a ha _;obtain⟨_,E⟩:=(key e f).2.2 a ha;rcases E with E|⟨E,B⟩ <;> rw[E]
  .exact⟨λ h=>(by cases h),λ h=>(by cases h)⟩
  .exact⟨λ h=>(by cases h),λ _=>B⟩
 .intro e f a ha F;obtain⟨⟨o,G,hl⟩,_⟩:=(key e f).2.2 a ha;rw[hl]at F;exact absurd F.1 M
def kK(h:TI (λ k=>(V k).canW) (λ k=>(V k).canR) rel A (some c) rm act wk w.heap.size tr)(hb:c<w.heap.size)(I:∀k,QJ c (V k))(G:act i)
  (K:∀e∈es,GG c e) (H:A≠some c) (hi:wk i) :
  TI (λ k=>(V k).canW) (λ k=>(V k).canR) rel A (some c) rm act wk w.heap.size (tr++MemOp.ofEvents i fn pos es):=by
 have key:∀e∈es,(MemAct.ofEvent e).low w.heap.size/\(∀a,MemAct.ofEvent e≠.mark (.release a))/\∀x,(MemAct.ofEvent e).touch?=some x->(∃o,o<2/\x.loc=.cell ⟨c,o,none⟩)/\x.kind=.atomic:=by
  intro e b;rcases K e b with hm|⟨o,wr,I,rfl⟩
  .have:=Pj hm;exact⟨this.2.1 _,this.2.2,λ x hx=>by rw[this.1]at hx;cases hx⟩
  .refine⟨hb,λ _ h=>(by cases h),λ x hx=>?_⟩;cases hx;exact⟨⟨o,I,rfl⟩,rfl⟩
 refine h.events (Nat.le_refl _) (λ e b=>(key e b).1) (λ e b=>(key e b).2.1) ?_ (λ _ _=>.inl) (λ _ _=>.inl) ?_ ?_ ?_ (.inr (.inl hi))
 .intro j a ha e b x hx said hc;obtain⟨⟨o,f,hl⟩,L⟩:=(key e b).2.2 x hx;obtain⟨h1,_,_,E⟩:=hc;have B:JC (some c) a.loc:=by rw[h1,hl];exact⟨rfl,f⟩
  by_cases F:a.kind=.atomic
  .exfalso;rcases E with E|E|⟨_,E,h5⟩
   .rw[F]at E;cases E
   .rw[L]at E;cases E
   .rw[L]at h5;cases h5
  .exact h.grpM j a ha B F i G
 .intro e b a ha k _;obtain⟨⟨o,f,hl⟩,_⟩:=(key e b).2.2 a ha;rw[hl];exact⟨λ N=>I k _ rfl f (Zu N),λ _ M=>I k _ rfl f M⟩
 .intro e b a ha B;obtain⟨⟨o,f,hl⟩,_⟩:=(key e b).2.2 a ha;rw[hl]at B;exact absurd B.1 H
 .intro e b a ha _;exact((key e b).2.2 a ha).2
def K5(w:∀e∈es,Event.mute e=true\/∃o wr,e=⟨.cell ⟨b,o,none⟩,wr,true⟩)(I:∀j,j<es.size->deafBehind (Deaf tr i) (es.extract 0 j)≠0) :
  ∀j,tr.size<=j->¬(tr++MemOp.ofEvents i fn pos es).counts j:=by
 intro j K H;obtain⟨x,hx,_,h2⟩:=H;rcases Ji (t:=tr) hx with⟨h,_⟩|⟨_,op,B,f,G⟩
 .omega
 .obtain⟨e,he,rfl⟩:=Go.Conc.mem_ofEvents B;rcases w e he with hm|⟨o,wr,rfl⟩
  .rw[(Pj hm).1]at f;cases f
  .cases f;rcases h2 with h2|⟨g,F,h2⟩
   .exact h2 rfl
   .have hgi:g=i:=by
     simp only[Trace.g?,G,Option.map_some,Option.some.injEq]at F;exact F.symm
    subst hgi;have h:=lt_size_of_getElem? G;have E:(MemOp.ofEvents g fn pos es).size=es.size:=by rw[ofEvents_eq];simp
    rw[Array.size_append,E]at h;obtain⟨k,rfl⟩:=Nat.exists_eq_add_of_le K;rw[deaf_inside tr g fn pos es k O1]at h2;exact I k O1 h2
