/- Lemmas. No conditions. -/
import Derived.Conc.Beside
import Derived.Conc.CrowdStepC
import Derived.Conc.JoinWorld
import Derived.Test.YtnjljnhoaafkiaaGreatDoorB00
set_option linter.all false
open List
namespace Go.TM
inductive Tr:Type 1 where
 |node (ι:Type) (f:ι->Tr)
def Tr.Sub:Tr->Tr->Prop
 |a,.node _ f=>∃i,a=f i
def Tr.sub_wf:WellFounded Tr.Sub:=by
 refine⟨λ r=>?_⟩
 induction r with
 |node ι f b=>
  refine⟨_,λ a h=>?_⟩;obtain⟨i,rfl⟩:=h;exact b i
section
variable{T:Type}{P:Program}{S:Sys P T}{Stop:QI T}
def JR(S:Sys P T)(Stop:QI T):Tr->QI T
 |.node _ f=>FJ S Stop (λ m g U=>∃i,JR S Stop (f i) m g U)
def J.rank{m:Bool}{g:Gr}{U:Qa T}(h:J S Stop m g U):∃r,JR S Stop r m g U:=by
 refine J.ind (X:=λ m g U=>∃r,JR S Stop r m g U) (λ m g U h=>?_) h;refine⟨.node { x:Bool×Gr×Qa T // ∃r,JR S Stop r x.1 x.2.1 x.2.2 } (λ x=>Classical.choose x.2),?_⟩;exact h.mono λ m g U hx=>⟨⟨(m,g,U),hx.1⟩,Classical.choose_spec (p:=λ r=>JR S Stop r m g U) hx.1⟩
def JR.step{r:Tr}{m:Bool}{g:Gr}{U:Qa T}(h:JR S Stop r m g U):FJ S Stop (λ m g U=>∃b,Tr.Sub b r/\JR S Stop b m g U) m g U:=by
 cases r with
 |node ι f=>
  have w:FJ S Stop (λ m g U=>∃i,JR S Stop (f i) m g U) m g U:=h;exact w.mono λ m g U⟨i,z⟩=>⟨f i,⟨i,rfl⟩,z⟩
end
def ZN(b L:List Tr):Prop:=∃r B C,L.Perm (r::B)/\b.Perm (C++B)/\∀c∈C,Tr.Sub c r
def ZN.perm{K L b:List Tr}(h:ZN K L)(p:L.Perm b):ZN K b:=by
 obtain⟨r,B,C,h1,h2,f⟩:=h;exact⟨r,B,C,p.symm.trans h1,h2,f⟩
def Df{L b:List Tr}(h:Acc ZN L)(p:L.Perm b):Acc ZN b:=⟨_,λ K f=>h.inv (f.perm p.symm)⟩
def kr:Acc ZN []:=by
 refine⟨_,λ K h=>?_⟩;obtain⟨r,B,C,h1,_⟩:=h;have:=h1.length_eq;simp at this
def Ni{r:Tr}(G:∀c,Tr.Sub c r->∀L,Acc ZN L->Acc ZN (c::L)):∀L,Acc ZN L->Acc ZN (r::L):=by
 intro L hL
 induction hL with
 |intro L b H=>
  refine⟨_,λ K E=>?_⟩;obtain⟨x,B,C,h1,h2,z⟩:=E
  classical
  by_cases hx:x=r
  .subst hx;have h:L.Perm B:=h1.cons_inv
   have key:∀C:List Tr,(∀c∈C,Tr.Sub c x)->Acc ZN (C++L):=by
    intro C
    induction C with
    |nil=>intro _;exact⟨L,b⟩
    |cons c C w=>intro f;exact G c (f c S1) _ (w λ d F=>f d (by simp[F]))
   exact Df (key C z) ((Perm.append_left C h).trans h2.symm)
  .have hm:x∈L:=by
    have:x∈r::L:=h1.mem_iff.2 S1;simpa[hx]using this
   have hL:=perm_cons_erase hm
   have h:B.Perm (r::L.erase x):=by
    have:(x::B).Perm (x::r::L.erase x):=h1.symm.trans ((hL.cons r).trans (Perm.swap ..));exact this.cons_inv
   have f:ZN (C++L.erase x) L:=⟨x,L.erase x,C,hL,Perm.refl _,z⟩;refine Df (H _ f) ?_;refine Perm.symm ?_;refine h2.trans ?_;refine(Perm.append_left C h).trans ?_;exact perm_middle
def yz:WellFounded ZN:=by
 refine⟨λ L=>?_⟩
 have key:∀r:Tr,∀L,Acc ZN L->Acc ZN (r::L):=by
  intro r
  induction r using Tr.sub_wf.induction with
  |_ r b=>exact Ni b
 induction L with
 |nil=>exact kr
 |cons r L b=>exact key r L b
def JA:List Tr×Nat->List Tr×Nat->Prop:=Prod.Lex ZN (· < ·)
def pY:WellFounded JA:=(Prod.lex ⟨ZN,yz⟩ ⟨(· < ·),Nat.lt_wfRel.wf⟩).wf
def JA.cut{L f:List Tr}{a b:Nat}(h:ZN f L):JA (f,a) (L,b):=Prod.Lex.left _ _ h
def JA.num{L:List Tr}{a b:Nat}(h:a<b):JA (L,a) (L,b):=Prod.Lex.right _ h
end Go.TM
namespace Go.TM
open Go.Conc
inductive Hd where
 |run (i:Nat)
 |dep (i:Nat)
 |lck
 deriving DecidableEq
def Kn(t:Trace)(rel:Nat->Option Nat):Hd->Nat->Prop
 |.run g,i=>Knows t g i
 |.dep g,i=>∃r,rel g=some r/\Before t i r
 |.lck,_=>True
def Loc.newN(n:Nat):Loc->Prop
 |.cell a=>n<=a.block
 |.obj b=>n<=b
 |_=>False
def JB(b:Option Nat):Loc->Prop
 |.cell a=>b=some a.block/\a.off<2
 |_=>False
def MK(act:Nat->Prop)(rm:Option Nat)(t:Trace)(i:Nat):Prop:=
 match rm with
 |none=>∀g,act g->Knows t g i
 |some r=>Before t i r
structure TI(W R:Hd->Loc->Prop)(rel:Nat->Option Nat)(blk mb rm:Option Nat)(act wk:Nat->Prop)(size:Nat)(t:Trace):Prop where
 clean:∀said,¬Race said t
 known:∀h i a,touchAt t i=some a->(W h a.loc\/(R h a.loc/\a.write=true))->Kn t rel h i
 low:∀op∈t,op.act.low size
 norel:∀i a,t.act? i≠some (.mark (.release a))
 grpP:∀i a,touchAt t i=some a->JB blk a.loc->a.kind=.plain->∀g,act g->Knows t g i
 grpS:∀i a,touchAt t i=some a->JB blk a.loc->a.kind=.said->Knows t 0 i
 relok:∀g r,rel g=some r->∃b,blk=some b/\t.act? r=some (.mark (.releaseMerge ⟨b,0,none⟩))/\t.heard r/\t.g? r=some g
 hand:∀i g,t.g? i=some g->g≠0->t.counts i->wk g\/(∃r,rel g=some r/\Before t i r)\/Knows t 0 i
 grpM:∀i a,touchAt t i=some a->JB mb a.loc->a.kind≠.atomic->∀g,act g->Knows t g i
 mutK:∀i a,touchAt t i=some a->(W .lck a.loc\/(R .lck a.loc/\a.write=true))->MK act rm t i
 mutR:∀r,rm=some r->∃m g,mb=some m/\t.act? r=some (.mark (.releaseMerge ⟨m,0,none⟩))/\t.heard r/\t.g? r=some g/\(wk g\/∃r',rel g=some r'/\Before t r r')
def MK.app{act:Nat->Prop}{rm:Option Nat}{t:Trace}{i:Nat}(u:Trace)(k:MK act rm t i):MK act rm (t++u) i:=by
 cases rm with
 |none=>exact λ g b=>(k g b).app u
 |some r=>exact Before.app u k
def MK.turn{act act':Nat->Prop}{rm:Option Nat}{t:Trace}{i:Nat}(h:∀g,act' g->act g)(k:MK act rm t i):MK act' rm t i:=by
 cases rm with
 |none=>exact λ g b=>k g (h g b)
 |some r=>exact k
def Kn.app{t:Trace}{rel:Nat->Option Nat}{h:Hd}{i:Nat}(u:Trace)(k:Kn t rel h i):Kn (t++u) rel h i:=by
 cases h with
 |run g=>exact Knows.app u k
 |dep g=>obtain⟨r,h1,h2⟩:=k;exact⟨r,h1,h2.app u⟩
 |lck=>trivial
def IA{n:Nat}{x:MemAct}{a:Touch}(h:x.low n)(ha:x.touch?=some a):¬Loc.newN n a.loc:=by
 cases x with
 |access e=>
  simp only[MemAct.touch?,Option.some.injEq]at ha;subst ha;obtain⟨loc,wr,b⟩:=e;cases loc <;> simp_all[MemAct.low,Loc.low,Loc.newN]
 |mark m=>cases m <;> simp_all[MemAct.touch?,MemAct.low,Loc.newN] <;> (subst ha;simpa[Loc.newN]using h)
 |_=>simp[MemAct.touch?]at ha
section
variable{W R W' R':Hd->Loc->Prop}{rel:Nat->Option Nat}{blk mb rm:Option Nat}{act wk:Nat->Prop}{size size' g:Nat}{t u:Trace}
def HB{i:Nat}{x:MemAct}(h:(t++u).act? i=some x):(i<t.size/\t.act? i=some x)\/(t.size<=i/\∃op∈u,op.act=x):=by
 obtain⟨op,B,b⟩:=Option.map_eq_some_iff.1 h;rcases getElem?_append_cases B with⟨f,w⟩|⟨f,z⟩
 .exact .inl ⟨f,by rw[act?_of w,b]⟩
 .exact .inr ⟨f,op,z,b⟩
def Ji{i:Nat}{a:Touch}(h:touchAt (t++u) i=some a):(i<t.size/\touchAt t i=some a)\/(t.size<=i/\∃op∈u,op.act.touch?=some a/\(t++u)[i]?=some op):=by
 obtain⟨x,hx,b⟩:=touch_of h;rcases getElem?_append_cases hx with⟨f,w⟩|⟨f,z⟩
 .exact .inl ⟨f,by rw[touchAt_of w,b]⟩
 .exact .inr ⟨f,x,z,b,hx⟩
def TI.step(h:TI W R rel blk mb rm act wk size t)(ad:size<=size')(T:∀op∈u,op.g=g)(N:∀op∈u,op.act.low size')(aa:∀op∈u,∀a,op.act≠.mark (.release a))
  (X:∀i a,touchAt t i=some a->∀op∈u,∀b,op.act.touch?=some b->∀said,a.conflicts said b->Knows t g i)
  (Q:∀k l,W' k l->W k l\/(k=.run g/\Loc.newN size l)) (P:∀k l,R' k l->R k l\/(k=.run g/\Loc.newN size l))
  (H:∀op∈u,∀a,op.act.touch?=some a->∀k,k≠.run g->¬W k a.loc/\(a.write=true->¬R k a.loc))
  (M:∀op∈u,∀a,op.act.touch?=some a->JB blk a.loc->a.kind≠.plain/\(a.kind=.said->g=0)) (Z:∀op∈u,∀a,op.act.touch?=some a->JB mb a.loc->a.kind=.atomic)
  (I:g=0\/wk g\/∀i,t.size<=i->¬(t++u).counts i) :
  TI W' R' rel blk mb rm act wk size' (t++u):=by
 refine⟨λ said=>noRace_append (h.clean said) T λ i a ha op f b hb S=>X i a ha op f b hb said S,?_,?_,?_,?_,?_,?_,?_,?_,?_,?_⟩
 .intro k i a ha w;rcases Ji ha with⟨E,B⟩|⟨E,op,f,z,G⟩
  .refine(h.known k i a B ?_).app u
   have hl:¬Loc.newN size a.loc:=by
    obtain⟨x,hx,ae⟩:=touch_of B;exact IA (h.low x (Array.mem_of_getElem? hx)) ae
   rcases w with w|⟨w,K⟩
   .rcases Q _ _ w with w|w
    .exact .inl w
    .exact absurd w.2 hl
   .rcases P _ _ w with w|w
    .exact .inr ⟨w,K⟩
    .exact absurd w.2 hl
  .by_cases hk:k=.run g
   .subst hk;have:=knows_own G;rw[T op f]at this;exact this
   .have:=H op f a z k hk;rcases w with w|⟨w,K⟩
    .rcases Q _ _ w with w|w
     .exact absurd w this.1
     .exact absurd w.1 hk
    .rcases P _ _ w with w|w
     .exact absurd w (this.2 K)
     .exact absurd w.1 hk
 .intro op f;rcases Array.mem_append.1 f with f|f
  .exact MemAct.low_mono ad (h.low op f)
  .exact N op f
 .intro i a e;rcases HB e with⟨_,e⟩|⟨_,op,f,z⟩
  .exact h.norel i a e
  .exact aa op f a z
 .intro i a ha hb hk g' hg';rcases Ji ha with⟨E,B⟩|⟨E,op,f,z,G⟩
  .exact(h.grpP i a B hb hk g' hg').app u
  .exact absurd hk (M op f a z hb).1
 .intro i a ha hb hk;rcases Ji ha with⟨E,B⟩|⟨E,op,f,z,G⟩
  .exact(h.grpS i a B hb hk).app u
  .have:=knows_own G;rw[T op f,(M op f a z hb).2 hk]at this;exact this
 .intro g' r hr;obtain⟨b,h1,h2,U,V⟩:=h.relok g' r hr;have F:=lt_of_act? h2;exact⟨b,h1,by rw[act?_old F];exact h2,(heard_old F).2 U,by rw[g?_old F];exact V⟩
 .intro i g' hg hne S;by_cases E:i<t.size
  .rw[g?_old E]at hg;rcases h.hand i g' hg hne ((counts_old E).1 S)with h1|⟨r,h1,h2⟩|h1
   .exact .inl h1
   .exact .inr (.inl ⟨r,h1,h2.app u⟩)
   .exact .inr (.inr (h1.app u))
  .have E:t.size<=i:=Nat.le_of_not_lt E
   have Y:g'=g:=by
    obtain⟨op,G,ab⟩:=Option.map_eq_some_iff.1 hg;rcases getElem?_append_cases G with⟨af,_⟩|⟨_,ac⟩
    .omega
    .rw[<- ab];exact T op ac
   subst Y;rcases I with L|L|L
   .exact absurd L hne
   .exact .inl L
   .exact absurd S (L i E)
 .intro i a ha hb hk g' hg';rcases Ji ha with⟨E,B⟩|⟨E,op,f,z,G⟩
  .exact(h.grpM i a B hb hk g' hg').app u
  .exact absurd (Z op f a z hb) hk
 .intro i a ha w;rcases Ji ha with⟨E,B⟩|⟨E,op,f,z,G⟩
  .refine(h.mutK i a B ?_).app u;rcases w with w|⟨w,K⟩
   .exact .inl ((Q _ _ w).resolve_right λ x=>by cases x.1)
   .exact .inr ⟨(P _ _ w).resolve_right λ x=>(by cases x.1),K⟩
  .have:=H op f a z .lck S1;rcases w with w|⟨w,K⟩
   .exact absurd ((Q _ _ w).resolve_right λ x=>by cases x.1) this.1
   .exact absurd ((P _ _ w).resolve_right λ x=>by cases x.1) (this.2 K)
 .intro r hr;obtain⟨m,g',h1,h2,U,V,h5⟩:=h.mutR r hr;have F:=lt_of_act? h2;exact⟨m,g',h1,by rw[act?_old F];exact h2,(heard_old F).2 U,by rw[g?_old F];exact V,h5.imp id λ⟨r',k1,k2⟩=>⟨r',k1,k2.app u⟩⟩
def TI.turn{act':Nat->Prop}(h:TI W R rel blk mb rm act wk size t)(B:∀k l,W' k l->W k l)(z:∀k l,R' k l->R k l)(ha:∀g,act' g->act g):TI W' R' rel blk mb rm act' wk size t:=
 ⟨h.clean,λ k i a ha w=>h.known k i a ha (w.imp (B _ _) λ x=>⟨z _ _ x.1,x.2⟩),h.low,h.norel,λ i a h1 h2 b g f=>h.grpP i a h1 h2 b g (ha g f),h.grpS,h.relok,h.hand,λ i a h1 h2 b g f=>h.grpM i a h1 h2 b g (ha g f),λ i a h1 w=>(h.mutK i a h1 (w.imp (B _ _) λ x=>⟨z _ _ x.1,x.2⟩)).turn ha,h.mutR⟩
def W5(t:Trace)(y:MemOp):(t++#[y])[t.size]?=some y:=S1
def G1{said:Bool}{y:MemOp}(h:¬Race said t)(hy:y.act.touch?=none):¬Race said (t++#[y]):=
 noRace_append (g:=y.g) h S1 λ i a _ op f b hb=>by simp at f;subst f;rw[hy]at hb;cases hb
def Zo{i:Nat}{a:Touch}{y:MemOp}(hy:y.act.touch?=none)(h:touchAt (t++#[y]) i=some a):i<t.size/\touchAt t i=some a:=by
 rcases Ji h with h|⟨_,op,f,b,_⟩
 .exact h
 .simp at f;subst f;rw[hy]at b;cases b
def G2{y:MemOp}(b:Deaf t y.g=0):(t++#[y]).heard t.size:=
 ⟨y.g,by simp[Trace.g?],by rw[deaf_old (Nat.le_refl _)];exact b⟩
def HX{i:Nat}{y:MemOp}(hy:y.act.touch?=none)(h:(t++#[y]).counts i):i<t.size/\t.counts i:=by
 obtain⟨x,hx,h2⟩:=h;obtain⟨b,f⟩:=Zo hy hx;exact⟨b,(counts_old b).1 ⟨x,hx,h2⟩⟩
def TI.release{b:Nat}{y:MemOp}{wk':Nat->Prop}{rel':Nat->Option Nat}(h:TI W R rel blk mb rm act wk size t)(hb:blk=some b)(hy:y.act=.mark (.releaseMerge ⟨b,0,none⟩))(T:b<size)
  (Y:Deaf t y.g=0) (hg:rel y.g=none) (f:∀k,rel' k=if k=y.g then some t.size else rel k)
  (X:∀k l,W' k l->W k l/\k≠.dep y.g\/(k=.dep y.g/\W (.run y.g) l)) (V:∀k l,R' k l->R k l/\k≠.dep y.g\/(k=.dep y.g/\R (.run y.g) l)) (N:∀k,wk k->wk' k\/k=y.g) :
  TI W' R' rel' blk mb rm act wk' size (t++#[y]):=by
 have H:y.act.touch?=none:=by rw[hy];rfl
 refine⟨λ said=>G1 (h.clean said) H,?_,?_,?_,?_,?_,?_,?_,?_,?_,?_⟩
 .intro k i a ha z;obtain⟨I,w⟩:=Zo H ha
  have key:k≠.dep y.g->(W k a.loc\/(R k a.loc/\a.write=true))->Kn (t++#[y]) rel' k i:=by
   intro G z;have:=(h.known k i a w z).app #[y];cases k with
   |run g'=>exact this
   |dep g'=>
    obtain⟨r,h1,h2⟩:=this;refine⟨r,?_,h2⟩;rw[f,if_neg]
    .exact h1
    .intro e;subst e;exact G rfl
   |lck=>trivial
  have K:k=.dep y.g->(W (.run y.g) a.loc\/(R (.run y.g) a.loc/\a.write=true))->Kn (t++#[y]) rel' k i:=by
   intro G Z;subst G;refine⟨t.size,by rw[f,if_pos rfl],.inr ?_⟩;exact Knows.hb_new (h.known (.run y.g) i a w Z) (Nat.le_refl _) (W5 t y) rfl
  rcases z with z|⟨z,Q⟩
  .rcases X _ _ z with⟨z,G⟩|⟨G,z⟩
   .exact key G (.inl z)
   .exact K G (.inl z)
  .rcases V _ _ z with⟨z,G⟩|⟨G,z⟩
   .exact key G (.inr ⟨z,Q⟩)
   .exact K G (.inr ⟨z,Q⟩)
 .intro op F;rcases Array.mem_append.1 F with F|F
  .exact h.low op F
  .simp at F;subst F;rw[hy];exact T
 .intro i a e;rcases HB e with⟨_,e⟩|⟨_,op,F,M⟩
  .exact h.norel i a e
  .simp at F;subst F;rw[hy]at M;cases M
 .intro i a ha hbl G g' hg';obtain⟨I,w⟩:=Zo H ha;exact(h.grpP i a w hbl G g' hg').app _
 .intro i a ha hbl G;obtain⟨I,w⟩:=Zo H ha;exact(h.grpS i a w hbl G).app _
 .intro g' r hr;rw[f]at hr;split at hr
  .rename_i e;subst e;cases hr;exact⟨b,hb,by rw[act?_of (W5 t y),hy],G2 Y,by simp[Trace.g?]⟩
  .obtain⟨b,h1,h2,S,P⟩:=h.relok g' r hr;have E:=lt_of_act? h2;exact⟨b,h1,by rw[act?_old E];exact h2,(heard_old E).2 S,by rw[g?_old E];exact P⟩
 .intro i g' hg' hne hc;obtain⟨I,U⟩:=HX H hc;rw[g?_old I]at hg';by_cases B:g'=y.g
  .obtain⟨op,ho,hog⟩:=Option.map_eq_some_iff.1 hg';refine .inr (.inl ⟨t.size,by rw[f,if_pos B],.inr ?_⟩);have L:(t++#[y])[i]?=some op:=by rw[getElem?_append_old I];exact ho
   exact hb_po I L (W5 t y) (hog.trans B)
  .rcases h.hand i g' hg' hne U with h1|⟨r,h1,h2⟩|h1
   .exact(N g' h1).elim .inl λ e=>absurd e B
   .exact .inr (.inl ⟨r,by rw[f,if_neg B];exact h1,h2.app _⟩)
   .exact .inr (.inr (h1.app _))
 .intro i a ha hbl G g' hg';obtain⟨I,w⟩:=Zo H ha;exact(h.grpM i a w hbl G g' hg').app _
 .intro i a ha z;obtain⟨I,w⟩:=Zo H ha;refine(h.mutK i a w ?_).app _;rcases z with z|⟨z,Q⟩
  .exact .inl ((X _ _ z).resolve_right λ x=>by cases x.1).1
  .exact .inr ⟨((V _ _ z).resolve_right λ x=>by cases x.1).1,Q⟩
 .intro r hr;obtain⟨m,g',h1,h2,S,P,h5⟩:=h.mutR r hr;have E:=lt_of_act? h2;refine⟨m,g',h1,by rw[act?_old E];exact h2,(heard_old E).2 S,by rw[g?_old E];exact P,?_⟩;by_cases B:g'=y.g
  .obtain⟨op,ho,hog⟩:=Option.map_eq_some_iff.1 P;refine .inr ⟨t.size,by rw[f,if_pos B],.inr ?_⟩;have L:(t++#[y])[r]?=some op:=by rw[getElem?_append_old E];exact ho
   exact hb_po E L (W5 t y) (hog.trans B)
  .rcases h5 with h5|⟨r',k1,k2⟩
   .exact .inl ((N g' h5).resolve_right B)
   .exact .inr ⟨r',by rw[f,if_neg B];exact k1,k2.app _⟩
def TI.acquire{b:Nat}{y:MemOp}{act' wk':Nat->Prop}(h:TI W R rel blk mb rm act wk size t)(hb:blk=some b)(hy:y.act=.mark (.acquire ⟨b,0,none⟩))(Z:y.g=0)(T:b<size)
  (hd:Deaf t 0=0) (N:∀g,¬wk g) (S:act 0)
  (Y:∀k l,W' k l->k=.run 0/\(W (.run 0) l\/(∃g r,rel g=some r/\W (.dep g) l)\/W .lck l)) (X:∀k l,R' k l->k=.run 0/\(R (.run 0) l\/(∃g r,rel g=some r/\R (.dep g) l)\/R .lck l)) :
  TI W' R' (λ _=>none) none none none act' wk' size (t++#[y]):=by
 have K:y.act.touch?=none:=by rw[hy];rfl
 have B:=W5 t y
 have E:∀g r,rel g=some r->Knows (t++#[y]) 0 r:=by
  intro g r H;obtain⟨b',h1,h2,V,h4⟩:=h.relok g r H;rw[hb]at h1;cases h1;have G:=lt_of_act? h2;refine⟨t.size,y,B,Z,.inr (.single (.inr ⟨.marked (a:=⟨b,0,none⟩) G (.inr (by rw[act?_old G];exact h2)) (by rw[act?_of B,hy]) (λ k _ hk=>by rw[act?_old hk];exact h.norel k _),(heard_old G).2 V,G2 (by rw[Z];exact hd)⟩))⟩
 have L:∀i,MK act rm t i->Knows (t++#[y]) 0 i:=by
  intro i F;cases I:rm with
  |none=>rw[I]at F;exact(F 0 S).app _
  |some r=>
   rw[I]at F;obtain⟨m,g',h1,h2,V,h4,h5⟩:=h.mutR r I;obtain⟨P,k1,k2⟩:=h5.resolve_left (N g');exact Knows.of_before (Before.app _ F) (Knows.of_before (k2.app _) (E g' P k1))
 refine⟨λ said=>G1 (h.clean said) K,?_,?_,?_,?_,?_,?_,?_,?_,?_,λ r H=>(by cases H)⟩
 .intro k i a ha f;obtain⟨F,z⟩:=Zo K ha;rcases f with f|⟨f,Q⟩
  .obtain⟨rfl,f|⟨g,r,H,f⟩|f⟩:=Y _ _ f
   .exact(h.known (.run 0) i a z (.inl f)).app #[y]
   .obtain⟨P,h1,h2⟩:=h.known (.dep g) i a z (.inl f);exact Knows.of_before (h2.app _) (E g P h1)
   .exact L i (h.mutK i a z (.inl f))
  .obtain⟨rfl,f|⟨g,r,H,f⟩|f⟩:=X _ _ f
   .exact(h.known (.run 0) i a z (.inr ⟨f,Q⟩)).app #[y]
   .obtain⟨P,h1,h2⟩:=h.known (.dep g) i a z (.inr ⟨f,Q⟩);exact Knows.of_before (h2.app _) (E g P h1)
   .exact L i (h.mutK i a z (.inr ⟨f,Q⟩))
 .intro op w;rcases Array.mem_append.1 w with w|w
  .exact h.low op w
  .simp at w;subst w;rw[hy];exact T
 .intro i a e;rcases HB e with⟨_,e⟩|⟨_,op,w,M⟩
  .exact h.norel i a e
  .simp at w;subst w;rw[hy]at M;cases M
 .intro i a ha hbl;unfold JB at hbl;split at hbl
  .cases hbl.1
  .exact hbl.elim
 .intro i a ha hbl;unfold JB at hbl;split at hbl
  .cases hbl.1
  .exact hbl.elim
 .intro g' r H;cases H
 .intro i g' hg' hne hc;obtain⟨F,U⟩:=HX K hc;rw[g?_old F]at hg';rcases h.hand i g' hg' hne U with h1|⟨r,h1,h2⟩|h1
  .exact absurd h1 (N g')
  .exact .inr (.inr (Knows.of_before (h2.app _) (E g' r h1)))
  .exact .inr (.inr (h1.app _))
 .intro i a ha hbl;unfold JB at hbl;split at hbl
  .cases hbl.1
  .exact hbl.elim
 .intro i a ha f;rcases f with f|⟨f,Q⟩
  .cases(Y _ _ f).1
  .cases(X _ _ f).1
def TI.fork{c:Nat}{y z:MemOp}{act' wk':Nat->Prop}(h:TI W R rel blk mb rm act wk size t)(hy:y.act=.go c)(Q:y.g=0)(hz:z.act=.start)(T:z.g=c)(ac:Deaf t 0=0)(ad:Deaf t c=0)(ah:c≠0)
  (I:∀g,act' g->act g\/(g=c/\act 0)) (aa:∀g,wk g->wk' g)
  (hW:∀k l,W' k l->W k l\/(k=.run c/\W (.run 0) l)) (hR:∀k l,R' k l->R k l\/(k=.run c/\R (.run 0) l)) :
  TI W' R' rel blk mb rm act' wk' size (t++#[y,z]):=by
 have e:t++#[y,z]=(t++#[y])++#[z]:=by apply Array.ext';simp
 have S:y.act.touch?=none:=by rw[hy];rfl
 have V:z.act.touch?=none:=by rw[hz];rfl
 have Z:(t++#[y]).size=t.size+1:=S1
 have ag:(t++#[y]++#[z])[t.size]?=some y:=by rw[getElem?_append_old O1];exact W5 t y
 have U:(t++#[y]++#[z])[t.size+1]?=some z:=by have:=W5 (t++#[y]) z;rwa [Z]at this
 have F:∀{i:Nat}{a:Touch},touchAt (t++#[y]++#[z]) i=some a->i<t.size/\touchAt t i=some a:=by
  intro i a ha;exact Zo S (Zo V ha).2
 have af:HappensBefore (t++#[y]++#[z]) t.size (t.size+1):=by
  refine .single (.inr ⟨.spawn (child:=c) (by rw[act?_of ag,hy]) (by rw[act?_of U,hz]) (by simp only[Trace.g?,U,Option.map_some,T]),?_,?_⟩)
  .rw[heard_old O1];exact G2 (by rw[Q];exact ac)
  .have:=G2 (t:=t++#[y]) (y:=z) (by rw[T,Deaf_other t (g':=0) O1 _ (by simp[Q])];exact ad)
   rwa [Z]at this
 have K:∀i,Knows t 0 i->Knows (t++#[y]++#[z]) c i:=by
  intro i N;have h1:HappensBefore (t++#[y]) i t.size:=N.hb_new (Nat.le_refl _) (W5 t y) Q;exact⟨t.size+1,z,U,T,.inr ((hb_app _ h1).trans af)⟩
 have app:∀{g i:Nat},Knows t g i->Knows (t++#[y]++#[z]) g i:=λ h=>(h.app _).app _;rw[e];refine⟨λ said=>G1 (G1 (h.clean said) S) V,?_,?_,?_,?_,?_,?_,?_,?_,?_,?_⟩
 .intro k i a ha M;obtain⟨N,B⟩:=F ha;rcases M with M|⟨M,hw⟩
  .rcases hW _ _ M with P|⟨rfl,P⟩
   .exact((h.known k i a B (.inl P)).app _).app _
   .exact K i (h.known (.run 0) i a B (.inl P))
  .rcases hR _ _ M with P|⟨rfl,P⟩
   .exact((h.known k i a B (.inr ⟨P,hw⟩)).app _).app _
   .exact K i (h.known (.run 0) i a B (.inr ⟨P,hw⟩))
 .intro op w;rcases Array.mem_append.1 w with w|w
  .rcases Array.mem_append.1 w with w|w
   .exact h.low op w
   .simp at w;subst w;rw[hy];trivial
  .simp at w;subst w;rw[hz];trivial
 .intro i a e;rcases HB e with⟨_,e⟩|⟨_,op,w,L⟩
  .rcases HB e with⟨_,e⟩|⟨_,op,w,L⟩
   .exact h.norel i a e
   .simp at w;subst w;rw[hy]at L;cases L
  .simp at w;subst w;rw[hz]at L;cases L
 .intro i a ha hbl H g' f;obtain⟨N,B⟩:=F ha;rcases I g' f with f|⟨rfl,f⟩
  .exact app (h.grpP i a B hbl H g' f)
  .exact K i (h.grpP i a B hbl H 0 f)
 .intro i a ha hbl H;obtain⟨N,B⟩:=F ha;exact app (h.grpS i a B hbl H)
 .intro g' r hr;obtain⟨b,h1,h2,h3,h4⟩:=h.relok g' r hr;have G:=lt_of_act? h2;have E:r<(t++#[y]).size:=O1
  exact⟨b,h1,by rw[act?_old E,act?_old G];exact h2,(heard_old E).2 ((heard_old G).2 h3),by rw[g?_old E,g?_old G];exact h4⟩
 .intro i g' f hne hc;obtain⟨ae,ab⟩:=HX V hc;obtain⟨N,X⟩:=HX S ab;rw[g?_old ae,g?_old N]at f;rcases h.hand i g' f hne X with h1|⟨r,h1,h2⟩|h1
  .exact .inl (aa _ h1)
  .exact .inr (.inl ⟨r,h1,(h2.app _).app _⟩)
  .exact .inr (.inr (app h1))
 .intro i a ha hbl H g' f;obtain⟨N,B⟩:=F ha;rcases I g' f with f|⟨rfl,f⟩
  .exact app (h.grpM i a B hbl H g' f)
  .exact K i (h.grpM i a B hbl H 0 f)
 .intro i a ha M;obtain⟨N,B⟩:=F ha
  have H:=h.mutK i a B (by
   rcases M with M|⟨M,hw⟩
   .exact .inl ((hW _ _ M).resolve_right λ x=>by cases x.1)
   .exact .inr ⟨(hR _ _ M).resolve_right λ x=>(by cases x.1),hw⟩)
  cases Y:rm with
  |none=>
   rw[Y]at H;intro g' f;rcases I g' f with f|⟨rfl,f⟩
   .exact app (H g' f)
   .exact K i (H 0 f)
  |some r=>rw[Y]at H;exact Before.app _ (Before.app _ H)
 .intro r hr;obtain⟨m,g',h1,h2,h3,h4,h5⟩:=h.mutR r hr;have G:=lt_of_act? h2;have E:r<(t++#[y]).size:=O1
  exact⟨m,g',h1,by rw[act?_old E,act?_old G];exact h2,(heard_old E).2 ((heard_old G).2 h3),by rw[g?_old E,g?_old G];exact h4,h5.imp (aa _) λ⟨r',k1,k2⟩=>⟨r',k1,(k2.app _).app _⟩⟩
def TI.create{b:Nat}(h:TI W R rel none mb rm act wk size t)(E:∀l,¬W' .lck l)(B:∀l,¬R' .lck l)(w:∀g,rel g=none)(hb:∀a:Addr,a.block=b->a.off<2->W (.run 0) (.cell a))(G:∀k l,W' k l->W k l)(F:∀k l,R' k l->R k l) :
  TI W' R' rel (some b) none none (·=0) wk size t:=by
 refine⟨h.clean,λ k i a ha f=>h.known k i a ha (f.imp (G _ _) λ x=>⟨F _ _ x.1,x.2⟩),h.low,h.norel,?_,?_,λ g r z=>(by rw[w]at z;cases z),h.hand,?_,?_,λ r z=>(by cases z)⟩
 .intro i a ha hbl _ g hg;obtain⟨loc,wr,kd⟩:=a;cases loc <;> simp only[JB]at hbl;obtain⟨h1,h2⟩:=hbl;cases h1;rw[hg];exact h.known (.run 0) i _ ha (.inl (hb _ rfl h2))
 .intro i a ha hbl _;obtain⟨loc,wr,kd⟩:=a;cases loc <;> simp only[JB]at hbl;obtain⟨h1,h2⟩:=hbl;cases h1;exact h.known (.run 0) i _ ha (.inl (hb _ rfl h2))
 .intro i a ha hbl;unfold JB at hbl;split at hbl
  .cases hbl.1
  .exact hbl.elim
 .intro i a ha f;rcases f with f|⟨f,H⟩
  .exact absurd f (E _)
  .exact absurd f (B _)
def TI.createM{m:Nat}{act':Nat->Prop}(h:TI W R rel blk none rm act wk size t)(f:∀g,act' g->g=0/\act 0)(hb:∀a:Addr,a.block=m->a.off<2->W (.run 0) (.cell a))
  (H:∀k l,W' k l->W k l\/(k=.lck/\W (.run 0) l)) (G:∀k l,R' k l->R k l\/(k=.lck/\R (.run 0) l)) (B:∀l,¬W .lck l) (z:∀l,¬R .lck l) :
  TI W' R' rel blk (some m) none act' wk size t:=by
 have key:∀k i a,touchAt t i=some a->(W' k a.loc\/(R' k a.loc/\a.write=true))->(W k a.loc\/(R k a.loc/\a.write=true))\/(k=.lck/\(W (.run 0) a.loc\/(R (.run 0) a.loc/\a.write=true))):=by
  intro k i a _ b;rcases b with b|⟨b,E⟩
  .rcases H _ _ b with b|⟨e,b⟩
   .exact .inl (.inl b)
   .exact .inr ⟨e,.inl b⟩
  .rcases G _ _ b with b|⟨e,b⟩
   .exact .inl (.inr ⟨b,E⟩)
   .exact .inr ⟨e,.inr ⟨b,E⟩⟩
 refine⟨h.clean,λ k i a ha b=>?_,h.low,h.norel,λ i a h1 h2 F g w=>?_,h.grpS,h.relok,h.hand,?_,?_,λ r I=>(by cases I)⟩
 .rcases key k i a ha b with b|⟨rfl,_⟩
  .exact h.known k i a ha b
  .trivial
 .obtain⟨rfl,f⟩:=f g w;exact h.grpP i a h1 h2 F 0 f
 .intro i a ha hbl hk g w;obtain⟨loc,wr,kd⟩:=a;cases loc <;> simp only[JB]at hbl;obtain⟨h1,h2⟩:=hbl;cases h1;rw[(f g w).1];exact h.known (.run 0) i _ ha (.inl (hb _ rfl h2))
 .intro i a ha b g w;rw[(f g w).1];rcases key .lck i a ha b with b|⟨_,b⟩
  .rcases b with b|⟨b,_⟩
   .exact absurd b (B _)
   .exact absurd b (z _)
  .exact h.known (.run 0) i a ha b
def TI.mrel{m:Nat}{y:MemOp}(h:TI W R rel blk mb rm act wk size t)(hm:mb=some m)(hy:y.act=.mark (.releaseMerge ⟨m,0,none⟩))(K:m<size)(T:Deaf t y.g=0)(M:wk y.g)
  (P:∀k l,W' k l->(W k l/\k≠.lck)\/(k=.lck/\W (.run y.g) l)) (N:∀k l,R' k l->(R k l/\k≠.lck)\/(k=.lck/\R (.run y.g) l)) :
  TI W' R' rel blk mb (some t.size) act wk size (t++#[y]):=by
 have z:y.act.touch?=none:=by rw[hy];rfl
 refine⟨λ said=>G1 (h.clean said) z,?_,?_,?_,?_,?_,?_,?_,?_,?_,?_⟩
 .intro k i a ha E;obtain⟨G,f⟩:=Zo z ha;by_cases B:k=.lck
  .subst B;trivial
  .refine(h.known k i a f ?_).app _;rcases E with E|⟨E,L⟩
   .exact .inl ((P _ _ E).resolve_right λ x=>B x.1).1
   .exact .inr ⟨((N _ _ E).resolve_right λ x=>B x.1).1,L⟩
 .intro op w;rcases Array.mem_append.1 w with w|w
  .exact h.low op w
  .simp at w;subst w;rw[hy];exact K
 .intro i a e;rcases HB e with⟨_,e⟩|⟨_,op,w,H⟩
  .exact h.norel i a e
  .simp at w;subst w;rw[hy]at H;cases H
 .intro i a ha hbl B g' hg';obtain⟨G,f⟩:=Zo z ha;exact(h.grpP i a f hbl B g' hg').app _
 .intro i a ha hbl B;obtain⟨G,f⟩:=Zo z ha;exact(h.grpS i a f hbl B).app _
 .intro g' r hr;obtain⟨b,h1,h2,Q,S⟩:=h.relok g' r hr;have F:=lt_of_act? h2;exact⟨b,h1,by rw[act?_old F];exact h2,(heard_old F).2 Q,by rw[g?_old F];exact S⟩
 .intro i g' hg' hne hc;obtain⟨G,I⟩:=HX z hc;rw[g?_old G]at hg';rcases h.hand i g' hg' hne I with h1|⟨r,h1,h2⟩|h1
  .exact .inl h1
  .exact .inr (.inl ⟨r,h1,h2.app _⟩)
  .exact .inr (.inr (h1.app _))
 .intro i a ha hbl B g' hg';obtain⟨G,f⟩:=Zo z ha;exact(h.grpM i a f hbl B g' hg').app _
 .intro i a ha E;obtain⟨G,f⟩:=Zo z ha
  have B:Knows t y.g i:=h.known (.run y.g) i a f (by
   rcases E with E|⟨E,L⟩
   .exact .inl ((P _ _ E).resolve_left λ x=>x.2 rfl).2
   .exact .inr ⟨((N _ _ E).resolve_left λ x=>x.2 rfl).2,L⟩)
  exact .inr (B.hb_new (Nat.le_refl _) (W5 t y) rfl)
 .intro r hr;cases hr;exact⟨m,y.g,hm,by rw[act?_of (W5 t y),hy],G2 T,by simp[Trace.g?],.inl M⟩
def TI.macq{m:Nat}{y:MemOp}(h:TI W R rel blk mb rm act wk size t)(hm:mb=some m)(hy:y.act=.mark (.acquire ⟨m,0,none⟩))(U:m<size)(hd:Deaf t y.g=0)(S:act y.g)
  (Y:∀k l,W' k l->k≠.lck/\(W k l\/(k=.run y.g/\W .lck l))) (X:∀k l,R' k l->k≠.lck/\(R k l\/(k=.run y.g/\R .lck l))) :
  TI W' R' rel blk mb rm act wk size (t++#[y]):=by
 have B:y.act.touch?=none:=by rw[hy];rfl
 have E:=W5 t y
 have M:∀i,MK act rm t i->Knows (t++#[y]) y.g i:=by
  intro i G;cases K:rm with
  |none=>rw[K]at G;exact(G _ S).app _
  |some r=>
   rw[K]at G;obtain⟨Z,g',h1,h2,L,Q,h5⟩:=h.mutR r K;rw[hm]at h1;cases h1;have f:=lt_of_act? h2;have P:Knows (t++#[y]) y.g r:=⟨t.size,y,E,rfl,.inr (.single (.inr ⟨.marked (a:=⟨m,0,none⟩) f (.inr (by rw[act?_old f];exact h2)) (by rw[act?_of E,hy]) (λ k _ H=>by rw[act?_old H];exact h.norel k _),(heard_old f).2 L,G2 hd⟩))⟩;exact Knows.of_before (Before.app _ G) P
 refine⟨λ said=>G1 (h.clean said) B,?_,?_,?_,?_,?_,?_,?_,?_,?_,?_⟩
 .intro k i a ha F;obtain⟨G,w⟩:=Zo B ha;rcases F with F|⟨F,V⟩
  .rcases(Y _ _ F).2 with I|⟨rfl,I⟩
   .exact(h.known k i a w (.inl I)).app _
   .exact M i (h.mutK i a w (.inl I))
  .rcases(X _ _ F).2 with I|⟨rfl,I⟩
   .exact(h.known k i a w (.inr ⟨I,V⟩)).app _
   .exact M i (h.mutK i a w (.inr ⟨I,V⟩))
 .intro op z;rcases Array.mem_append.1 z with z|z
  .exact h.low op z
  .simp at z;subst z;rw[hy];exact U
 .intro i a e;rcases HB e with⟨_,e⟩|⟨_,op,z,N⟩
  .exact h.norel i a e
  .simp at z;subst z;rw[hy]at N;cases N
 .intro i a ha hbl H g' hg';obtain⟨G,w⟩:=Zo B ha;exact(h.grpP i a w hbl H g' hg').app _
 .intro i a ha hbl H;obtain⟨G,w⟩:=Zo B ha;exact(h.grpS i a w hbl H).app _
 .intro g' r P;obtain⟨b,h1,h2,L,Q⟩:=h.relok g' r P;have f:=lt_of_act? h2;exact⟨b,h1,by rw[act?_old f];exact h2,(heard_old f).2 L,by rw[g?_old f];exact Q⟩
 .intro i g' hg' hne hc;obtain⟨G,T⟩:=HX B hc;rw[g?_old G]at hg';rcases h.hand i g' hg' hne T with h1|⟨r,h1,h2⟩|h1
  .exact .inl h1
  .exact .inr (.inl ⟨r,h1,h2.app _⟩)
  .exact .inr (.inr (h1.app _))
 .intro i a ha hbl H g' hg';obtain⟨G,w⟩:=Zo B ha;exact(h.grpM i a w hbl H g' hg').app _
 .intro i a ha F;rcases F with F|⟨F,V⟩
  .exact absurd rfl (Y _ _ F).1
  .exact absurd rfl (X _ _ F).1
 .intro r P;obtain⟨Z,g',h1,h2,L,Q,h5⟩:=h.mutR r P;have f:=lt_of_act? h2;exact⟨Z,g',h1,by rw[act?_old f];exact h2,(heard_old f).2 L,by rw[g?_old f];exact Q,h5.imp id λ⟨r',k1,k2⟩=>⟨r',k1,k2.app _⟩⟩
end
end Go.TM
namespace Go.TM
inductive QE(α:Type) where
 |ok (a:α) (st sm:Value) (es:Array Event) (bs:List (Nat×Bool))
 |blocked (st sm:Value) (bs:List (Nat×Bool))
 |stuck
def JP(a:Addr):Bool:=a.spot.isNone&&Nat.beq a.off 0
def JO(a:Addr):Bool:=a.spot.isNone&&Nat.beq a.off 1
def SK{a:Addr}(h:JP a=true):a=⟨a.block,0,none⟩:=by
 obtain⟨b,o,s⟩:=a;simp only[JP,Bool.and_eq_true,Option.isNone_iff_eq_none]at h;obtain⟨h1,h2⟩:=h;have:=Nat.eq_of_beq_eq_true h2
 simp_all
def SA{a:Addr}(h:JO a=true):a=⟨a.block,1,none⟩:=by
 obtain⟨b,o,s⟩:=a;simp only[JO,Bool.and_eq_true,Option.isNone_iff_eq_none]at h;obtain⟨h1,h2⟩:=h;have:=Nat.eq_of_beq_eq_true h2
 simp_all
def Gp:Value->Bool
 |.int ..=>true
 |_=>false
def QB(P:Program)(t:TypeId){α:Type}:Sem α->Value->Value->Array Event->List (Nat×Bool)->QE α
 |.pure a,st,sm,es,bs=>.ok a st sm es bs
 |.program k,st,sm,es,bs=>QB P t (k P) st sm es bs
 |.mark m k,st,sm,es,bs=>QB P t k st sm (es.push ⟨.mark m,false,true⟩) bs
 |.load .atomic a k,st,sm,es,bs=>
  bif JP a then QB P t (k st) st sm (es.push ⟨.cell a,false,true⟩) ((a.block,true)::bs)
  else bif JO a then QB P t (k sm) st sm (es.push ⟨.cell a,false,true⟩) ((a.block,true)::bs)else .stuck
 |.load .plain a k,st,sm,es,bs=>
  bif JP a then QB P t (k st) st sm (es.push ⟨.cell a,false,false⟩) ((a.block,true)::bs)
  else bif JO a then QB P t (k sm) st sm (es.push ⟨.cell a,false,false⟩) ((a.block,true)::bs)else .stuck
 |.store .atomic a v k,st,sm,es,bs=>
  bif Gp v then
   bif JP a then QB P t k v sm (es.push ⟨.cell a,true,true⟩) ((a.block,true)::bs)
   else bif JO a then QB P t k st v (es.push ⟨.cell a,true,true⟩) ((a.block,true)::bs)else .stuck
  else .stuck
 |.shape r k,st,sm,es,bs=>QB P t (k (some (t,2))) st sm es ((r,false)::bs)
 |.frozen a k,st,sm,es,bs=>QB P t (k false) st sm es ((a.block,false)::bs)
 |.halt .blocked,st,sm,_,bs=>.blocked st sm bs
 |_,_,_,_,_=>.stuck
def Sh(b:Nat)(t:TypeId)(st sm:Value)(w:World):Prop:=w.heap[b]?=some (.cells #[st,sm] t (0,0))
def two(w:World)(b:Nat)(t:TypeId)(st sm:Value):World:={ w with heap:=w.heap.setIfInBounds b (.cells #[st,sm] t (0,0)) }
def Sh.two{w:World}{b:Nat}{t:TypeId}{st sm st' sm':Value}(h:Sh b t st sm w):Sh b t st' sm' (two w b t st' sm'):=by
 have:=(Array.getElem?_eq_some_iff.1 h).1;simp[Sh,TM.two,this]
def Sh.two_same{w:World}{b:Nat}{t:TypeId}{st sm:Value}(h:Sh b t st sm w):TM.two w b t st sm=w:=by
 obtain⟨z,f⟩:=Array.getElem?_eq_some_iff.1 h
 have:w.heap.setIfInBounds b (.cells #[st,sm] t (0,0))=w.heap:=by
  apply Array.ext
  .simp
  .intro i hi hi';rw[Array.getElem_setIfInBounds (by simpa using hi)];split
   .rename_i e;subst e;exact f.symm
   .rfl
 simp[TM.two,this]
def Lq{w:World}{b:Nat}{t:TypeId}{st sm st' sm':Value}:two (two w b t st sm) b t st' sm'=two w b t st' sm':=by
 simp[two,Array.setIfInBounds_setIfInBounds]
def Sh.cell0{w:World}{b:Nat}{t:TypeId}{st sm:Value}(h:Sh b t st sm w):w.cell? ⟨b,0,none⟩=some st/\w.cell? ⟨b,1,none⟩=some sm/\w.frozen? ⟨b,0,none⟩=false/\w.frozen? ⟨b,1,none⟩=false:=by
 unfold Sh at h;refine⟨?_,?_,?_,?_⟩ <;> simp[World.cell?,World.frozen?,h]
def Sh.set0{w:World}{b:Nat}{t:TypeId}{st sm v:Value}(h:Sh b t st sm w):w.setCell ⟨b,0,none⟩ v=TM.two w b t v sm:=by
 obtain⟨z,f⟩:=Array.getElem?_eq_some_iff.1 h;simp only[World.setCell,TM.two];congr 1;apply Array.ext
 .simp
 .intro i hi hi';simp only[Array.getElem_modify,Array.getElem_setIfInBounds (by simpa using hi)];split
  .rename_i e;subst e;simp[f]
  .rfl
def Sh.set1{w:World}{b:Nat}{t:TypeId}{st sm v:Value}(h:Sh b t st sm w):w.setCell ⟨b,1,none⟩ v=TM.two w b t st v:=by
 obtain⟨z,f⟩:=Array.getElem?_eq_some_iff.1 h;simp only[World.setCell,TM.two];congr 1;apply Array.ext
 .simp
 .intro i hi hi';simp only[Array.getElem_modify,Array.getElem_setIfInBounds (by simpa using hi)];split
  .rename_i e;subst e;simp[f]
  .rfl
def Yk(P:Program){α:Type}(s:Sem α)(b:Nat)(t:TypeId)(w:World)(es:Array Event)(bs:List (Nat×Bool)):QE α->Prop
 |.ok x st' sm' h f=>(∀y∈f,y.1=b)->(∀y∈bs,y∈f)/\s.runT P w es=(.ok x (two w b t st' sm'),h)
 |.blocked st' sm' f=>(∀y∈f,y.1=b)->(∀y∈bs,y∈f)/\∃h,s.runT P w es=(.halt .blocked (two w b t st' sm'),h)
 |.stuck=>True
def Yk.of{P:Program}{α:Type}{s G:Sem α}{b c:Nat}{t:TypeId}{w w':World}{es B:Array Event}{bs:List (Nat×Bool)}{f:Bool}{r:QE α}
  (h:Yk P G b t w' B ((c,f)::bs) r) (F:c=b->s.runT P w es=G.runT P w' B) (ht:∀st sm,two w' b t st sm=two w b t st sm):Yk P s b t w es bs r:=by
 cases r with
 |ok x st' sm' z E=>
  intro hb;obtain⟨h1,h2⟩:=h hb;exact⟨λ y hy=>h1 y (by simp[hy]),by rw[F (hb _ (h1 (c,f) S1)),h2,ht]⟩
 |blocked st' sm' E=>
  intro hb;obtain⟨h1,z,h2⟩:=h hb;exact⟨λ y hy=>h1 y (by simp[hy]),z,by rw[F (hb _ (h1 (c,f) S1)),h2,ht]⟩
 |stuck=>trivial
def vY{P:Program}{α:Type}{b:Nat}{t:TypeId}(s:Sem α):∀{st sm:Value}{es:Array Event}{bs:List (Nat×Bool)}{w:World},
  Sh b t st sm w->Yk P s b t w es bs (QB P t s st sm es bs):=by
 induction s with
 |pure a=>
  intro st sm es bs w f hb;exact⟨λ _ h=>h,by rw[f.two_same];rfl⟩
 |program k F=>
  intro st sm es bs w f;exact F P f
 |mark m k F=>
  intro st sm es bs w f;exact F f
 |load m a k F=>
  intro st sm es bs w f;cases m with
  |plain=>
   simp only[QB];cases e:JP a with
   |true=>
    simp only[cond_true];refine(F st f).of (λ z=>?_) (λ _ _=>rfl);have ea:=SK e;rw[z]at ea;have B:=f.cell0.1;rw[<- ea]at B;simp only[Sem.runT,B];rfl
   |false=>
    simp only[cond_false];cases H:JO a with
    |false=>exact trivial
    |true=>
     simp only[cond_true];refine(F sm f).of (λ z=>?_) (λ _ _=>rfl);have ea:=SA H;rw[z]at ea;have B:=f.cell0.2.1;rw[<- ea]at B;simp only[Sem.runT,B];rfl
  |atomic=>
   simp only[QB];cases e:JP a with
   |true=>
    simp only[cond_true];refine(F st f).of (λ z=>?_) (λ _ _=>rfl);have ea:=SK e;rw[z]at ea;have B:=f.cell0.1;rw[<- ea]at B;simp only[Sem.runT,B];rfl
   |false=>
    simp only[cond_false];cases H:JO a with
    |false=>exact trivial
    |true=>
     simp only[cond_true];refine(F sm f).of (λ z=>?_) (λ _ _=>rfl);have ea:=SA H;rw[z]at ea;have B:=f.cell0.2.1;rw[<- ea]at B;simp only[Sem.runT,B];rfl
 |store m a v k F=>
  intro st sm es bs w f;cases m with
  |plain=>exact trivial
  |atomic=>
   simp only[QB];cases I:Gp v with
   |false=>exact trivial
   |true=>
    simp only[cond_true]
    obtain⟨G,n,rfl⟩:∃G n,v=.int G n:=by
     cases v <;> simp[Gp]at I;exact⟨_,_,rfl⟩
    cases e:JP a with
    |true=>
     simp only[cond_true];refine(F (w:=two w b t (.int G n) sm) f.two).of (λ z=>?_) (λ _ _=>Lq);have ea:=SK e;rw[z]at ea;have B:=f.cell0.1;have hf:=f.cell0.2.2.1;have E:=f.set0 (v:=.int G n);rw[<- ea]at B hf E;simp only[Sem.runT,B,hf,Bool.false_eq_true,if_false,E];rfl
    |false=>
     simp only[cond_false];cases H:JO a with
     |false=>exact trivial
     |true=>
      simp only[cond_true];refine(F (w:=two w b t st (.int G n)) f.two).of (λ z=>?_) (λ _ _=>Lq);have ea:=SA H;rw[z]at ea;have B:=f.cell0.2.1;have hf:=f.cell0.2.2.2;have E:=f.set1 (v:=.int G n);rw[<- ea]at B hf E;simp only[Sem.runT,B,hf,Bool.false_eq_true,if_false,E];rfl
 |shape r k F=>
  intro st sm es bs w f;refine(F (some (t,2)) f).of (λ z=>?_) (λ _ _=>rfl);subst z;simp only[Sem.runT,World.shape?,show w.heap[r]?=_ from f];rfl
 |frozen a k F=>
  intro st sm es bs w f;refine(F false f).of (λ z=>?_) (λ _ _=>rfl);subst z;have:w.frozen? a=false:=by simp[World.frozen?,show w.heap[a.block]?=_ from f]
  simp only[Sem.runT,this]
 |halt h=>
  intro st sm es bs w f;cases h with
  |blocked=>exact λ hb=>⟨λ _ h=>h,es,by rw[f.two_same];rfl⟩
  |_=>exact trivial
 |_=>intro st sm es bs w f;exact trivial
def pV{P:Program}{t:TypeId}{α:Type}(s:Sem α):∀{st sm:Value}{es:Array Event}{bs:List (Nat×Bool)}{x:α}{st' sm':Value}{f:Array Event}{b:List (Nat×Bool)},
  QB P t s st sm es bs=.ok x st' sm' f b->(∃l,b=l++bs)/\(b=bs->(st'=st/\sm'=sm)/\∀w,s.runT P w es=(.ok x w,f)):=by
 induction s with
 |pure a=>
  intro st sm es bs x st' sm' f b h;simp only[QB,QE.ok.injEq]at h;obtain⟨rfl,rfl,rfl,rfl,rfl⟩:=h;exact⟨⟨[],rfl⟩,λ _=>⟨⟨rfl,rfl⟩,λ _=>rfl⟩⟩
 |program k z=>intro st sm es bs x st' sm' f b h;exact z P h
 |mark m k z=>intro st sm es bs x st' sm' f b h;exact z h
 |load m a k z=>
  intro st sm es bs x st' sm' f b h;cases m with
  |plain=>
   simp only[QB]at h
   have key:∀v,QB P t (k v) st sm (es.push ⟨.cell a,false,false⟩) ((a.block,true)::bs)=.ok x st' sm' f b->(∃l,b=l++bs)/\(b=bs->(st'=st/\sm'=sm)/\∀w,(Sem.load .plain a k).runT P w es=(.ok x w,f)):=by
    intro v B;obtain⟨⟨l,rfl⟩,_⟩:=z v B;refine⟨⟨l++[(a.block,true)],S1⟩,λ e=>?_⟩;have:=congrArg List.length e;simp at this;omega
   cases e:JP a <;> rw[e]at h <;> simp only[cond_true,cond_false]at h
   .cases e2:JO a <;> rw[e2]at h <;> simp only[cond_true,cond_false]at h
    .cases h
    .exact key _ h
   .exact key _ h
  |atomic=>
   simp only[QB]at h
   have key:∀v,QB P t (k v) st sm (es.push ⟨.cell a,false,true⟩) ((a.block,true)::bs)=.ok x st' sm' f b->(∃l,b=l++bs)/\(b=bs->(st'=st/\sm'=sm)/\∀w,(Sem.load .atomic a k).runT P w es=(.ok x w,f)):=by
    intro v B;obtain⟨⟨l,rfl⟩,_⟩:=z v B;refine⟨⟨l++[(a.block,true)],S1⟩,λ e=>?_⟩;have:=congrArg List.length e;simp at this;omega
   cases e:JP a <;> rw[e]at h <;> simp only[cond_true,cond_false]at h
   .cases e2:JO a <;> rw[e2]at h <;> simp only[cond_true,cond_false]at h
    .cases h
    .exact key _ h
   .exact key _ h
 |store m a v k z=>
  intro st sm es bs x st' sm' f b h;cases m with
  |plain=>simp[QB]at h
  |atomic=>
   simp only[QB]at h
   have key:∀u E,QB P t k u E (es.push ⟨.cell a,true,true⟩) ((a.block,true)::bs)=.ok x st' sm' f b->(∃l,b=l++bs)/\(b=bs->(st'=st/\sm'=sm)/\∀w,(Sem.store .atomic a v k).runT P w es=(.ok x w,f)):=by
    intro u E B;obtain⟨⟨l,rfl⟩,_⟩:=z B;refine⟨⟨l++[(a.block,true)],S1⟩,λ e=>?_⟩;have:=congrArg List.length e;simp at this;omega
   cases F:Gp v <;> rw[F]at h <;> simp only[cond_true,cond_false]at h
   .cases h
   .cases e:JP a <;> rw[e]at h <;> simp only[cond_true,cond_false]at h
    .cases e2:JO a <;> rw[e2]at h <;> simp only[cond_true,cond_false]at h
     .cases h
     .exact key _ _ h
    .exact key _ _ h
 |shape r k z=>
  intro st sm es bs x st' sm' f b h;obtain⟨⟨l,rfl⟩,_⟩:=z _ h;refine⟨⟨l++[(r,false)],S1⟩,λ e=>?_⟩;have:=congrArg List.length e;simp at this;omega
 |frozen a k z=>
  intro st sm es bs x st' sm' f b h;obtain⟨⟨l,rfl⟩,_⟩:=z _ h;refine⟨⟨l++[(a.block,false)],S1⟩,λ e=>?_⟩;have:=congrArg List.length e;simp at this;omega
 |halt G=>intro st sm es bs x st' sm' f b h;cases G <;> simp[QB]at h
 |_=>intro st sm es bs x st' sm' f b h;simp[QB]at h
def yB{P:Program}{t:TypeId}{α:Type}(s:Sem α):∀{st sm:Value}{es:Array Event}{bs:List (Nat×Bool)}{st' sm':Value}{b:List (Nat×Bool)},
  QB P t s st sm es bs=.blocked st' sm' b->(∃l,b=l++bs)/\(b=bs->∀w,∃f,s.runT P w es=(.halt .blocked w,f)):=by
 induction s with
 |pure a=>intro st sm es bs st' sm' b h;simp[QB]at h
 |program k z=>intro st sm es bs st' sm' b h;exact z P h
 |mark m k z=>intro st sm es bs st' sm' b h;exact z h
 |load m a k z=>
  intro st sm es bs st' sm' b h;cases m with
  |plain=>
   simp only[QB]at h
   have key:∀v,QB P t (k v) st sm (es.push ⟨.cell a,false,false⟩) ((a.block,true)::bs)=.blocked st' sm' b->(∃l,b=l++bs)/\(b=bs->∀w,∃f,(Sem.load .plain a k).runT P w es=(.halt .blocked w,f)):=by
    intro v B;obtain⟨⟨l,rfl⟩,_⟩:=z v B;refine⟨⟨l++[(a.block,true)],S1⟩,λ e=>?_⟩;have:=congrArg List.length e;simp at this;omega
   cases e:JP a <;> rw[e]at h <;> simp only[cond_true,cond_false]at h
   .cases e2:JO a <;> rw[e2]at h <;> simp only[cond_true,cond_false]at h
    .cases h
    .exact key _ h
   .exact key _ h
  |atomic=>
   simp only[QB]at h
   have key:∀v,QB P t (k v) st sm (es.push ⟨.cell a,false,true⟩) ((a.block,true)::bs)=.blocked st' sm' b->(∃l,b=l++bs)/\(b=bs->∀w,∃f,(Sem.load .atomic a k).runT P w es=(.halt .blocked w,f)):=by
    intro v B;obtain⟨⟨l,rfl⟩,_⟩:=z v B;refine⟨⟨l++[(a.block,true)],S1⟩,λ e=>?_⟩;have:=congrArg List.length e;simp at this;omega
   cases e:JP a <;> rw[e]at h <;> simp only[cond_true,cond_false]at h
   .cases e2:JO a <;> rw[e2]at h <;> simp only[cond_true,cond_false]at h
    .cases h
    .exact key _ h
   .exact key _ h
 |store m a v k z=>
  intro st sm es bs st' sm' b h;cases m with
  |plain=>simp[QB]at h
  |atomic=>
   simp only[QB]at h
   have key:∀u E,QB P t k u E (es.push ⟨.cell a,true,true⟩) ((a.block,true)::bs)=.blocked st' sm' b->(∃l,b=l++bs)/\(b=bs->∀w,∃f,(Sem.store .atomic a v k).runT P w es=(.halt .blocked w,f)):=by
    intro u E B;obtain⟨⟨l,rfl⟩,_⟩:=z B;refine⟨⟨l++[(a.block,true)],S1⟩,λ e=>?_⟩;have:=congrArg List.length e;simp at this;omega
   cases F:Gp v <;> rw[F]at h <;> simp only[cond_true,cond_false]at h
   .cases h
   .cases e:JP a <;> rw[e]at h <;> simp only[cond_true,cond_false]at h
    .cases e2:JO a <;> rw[e2]at h <;> simp only[cond_true,cond_false]at h
     .cases h
     .exact key _ _ h
    .exact key _ _ h
 |shape r k z=>
  intro st sm es bs st' sm' b h;obtain⟨⟨l,rfl⟩,_⟩:=z _ h;refine⟨⟨l++[(r,false)],S1⟩,λ e=>?_⟩;have:=congrArg List.length e;simp at this;omega
 |frozen a k z=>
  intro st sm es bs st' sm' b h;obtain⟨⟨l,rfl⟩,_⟩:=z _ h;refine⟨⟨l++[(a.block,false)],S1⟩,λ e=>?_⟩;have:=congrArg List.length e;simp at this;omega
 |halt G=>
  intro st sm es bs st' sm' b h;cases G with
  |blocked=>
   simp only[QB,QE.blocked.injEq]at h;obtain⟨rfl,rfl,rfl⟩:=h;exact⟨⟨[],rfl⟩,λ _ w=>⟨es,rfl⟩⟩
  |_=>simp[QB]at h
 |_=>intro st sm es bs st' sm' b h;simp[QB]at h
def yW(P:Program){α:Type}(s:Sem α)(W:Value->Value->World)(ok:List (Nat×Bool)->Prop)(w:World):QE α->Prop
 |.ok x st' sm' f b=>ok b->s.runT P w #[]=(.ok x (W st' sm'),f)
 |.blocked st' sm' b=>ok b->∃f,s.runT P w #[]=(.halt .blocked (W st' sm'),f)
 |.stuck=>True
structure WS(P:Program)(t:TypeId)(st sm:Value)(w:World)(W:Value->Value->World)(ok:List (Nat×Bool)->Prop):Prop where
 ran:∀{α:Type}(s:Sem α),yW P s W ok w (QB P t s st sm #[] [])
 same:W st sm=w
 nil:ok []
def WS.sh{P:Program}{t:TypeId}{st sm:Value}{w:World}{b:Nat}(h:Sh b t st sm w):WS P t st sm w (two w b t) (λ bs=>∀y∈bs,y.1=b):=by
 refine⟨λ s=>?_,h.two_same,S1⟩;have:=vY (P:=P) s (es:=#[]) (bs:=[]) h;generalize QB P t s st sm #[] []=r at this;cases r with
 |ok x st' sm' es bs=>exact λ hb=>(this hb).2
 |blocked st' sm' bs=>exact λ hb=>(this hb).2
 |stuck=>trivial
def WS.calm{P:Program}{t:TypeId}{st sm:Value}{w:World}:WS P t st sm w (λ _ _=>w) (λ bs=>bs=[]):=by
 refine⟨λ s=>?_,rfl,rfl⟩;have h1:=@pV P t _ s st sm #[] [];have h2:=@yB P t _ s st sm #[] [];generalize QB P t s st sm #[] []=r at h1 h2;cases r with
 |ok x st' sm' es bs=>exact λ hb=>((h1 rfl).2 hb).2 w
 |blocked st' sm' bs=>exact λ hb=>(h2 rfl).2 hb w
 |stuck=>trivial
def Db{P:Program}{t:TypeId}{α:Type}(s:Sem α):∀{st sm:Value}{es:Array Event}{bs:List (Nat×Bool)}{x:α}{st' sm':Value}{f:Array Event}{b:List (Nat×Bool)},
  QB P t s st sm es bs=.ok x st' sm' f b->(∃l,b=l++bs)/\((b.all (!·.2))=true->(st'=st/\sm'=sm)/\∀z w,QB P t s z w es bs=.ok x z w f b):=by
 induction s with
 |pure a=>
  intro st sm es bs x st' sm' f b h;simp only[QB,QE.ok.injEq]at h;obtain⟨rfl,rfl,rfl,rfl,rfl⟩:=h;exact⟨⟨[],rfl⟩,λ _=>⟨⟨rfl,rfl⟩,λ _ _=>rfl⟩⟩
 |program k B=>intro st sm es bs x st' sm' f b h;exact B P h
 |mark m k B=>intro st sm es bs x st' sm' f b h;exact B h
 |load m a k B=>
  intro st sm es bs x st' sm' f b h;cases m with
  |plain=>
   simp only[QB]at h
   have key:∀v,QB P t (k v) st sm (es.push ⟨.cell a,false,false⟩) ((a.block,true)::bs)=.ok x st' sm' f b->(∃l,b=l++bs)/\((b.all (!·.2))=true->(st'=st/\sm'=sm)/\∀z w,QB P t (Sem.load .plain a k) z w es bs=.ok x z w f b):=by
    intro v E;obtain⟨⟨l,rfl⟩,_⟩:=B v E;exact⟨⟨l++[(a.block,true)],S1⟩,λ e=>by simp at e⟩
   cases e:JP a <;> rw[e]at h <;> simp only[cond_true,cond_false]at h
   .cases e2:JO a <;> rw[e2]at h <;> simp only[cond_true,cond_false]at h
    .cases h
    .exact key _ h
   .exact key _ h
  |atomic=>
   simp only[QB]at h
   have key:∀v,QB P t (k v) st sm (es.push ⟨.cell a,false,true⟩) ((a.block,true)::bs)=.ok x st' sm' f b->(∃l,b=l++bs)/\((b.all (!·.2))=true->(st'=st/\sm'=sm)/\∀z w,QB P t (Sem.load .atomic a k) z w es bs=.ok x z w f b):=by
    intro v E;obtain⟨⟨l,rfl⟩,_⟩:=B v E;exact⟨⟨l++[(a.block,true)],S1⟩,λ e=>by simp at e⟩
   cases e:JP a <;> rw[e]at h <;> simp only[cond_true,cond_false]at h
   .cases e2:JO a <;> rw[e2]at h <;> simp only[cond_true,cond_false]at h
    .cases h
    .exact key _ h
   .exact key _ h
 |store m a v k B=>
  intro st sm es bs x st' sm' f b h;cases m with
  |plain=>simp[QB]at h
  |atomic=>
   simp only[QB]at h
   have key:∀u F,QB P t k u F (es.push ⟨.cell a,true,true⟩) ((a.block,true)::bs)=.ok x st' sm' f b->(∃l,b=l++bs)/\((b.all (!·.2))=true->(st'=st/\sm'=sm)/\∀z w,QB P t (Sem.store .atomic a v k) z w es bs=.ok x z w f b):=by
    intro u F E;obtain⟨⟨l,rfl⟩,_⟩:=B E;exact⟨⟨l++[(a.block,true)],S1⟩,λ e=>by simp at e⟩
   cases G:Gp v <;> rw[G]at h <;> simp only[cond_true,cond_false]at h
   .cases h
   .cases e:JP a <;> rw[e]at h <;> simp only[cond_true,cond_false]at h
    .cases e2:JO a <;> rw[e2]at h <;> simp only[cond_true,cond_false]at h
     .cases h
     .exact key _ _ h
    .exact key _ _ h
 |shape r k B=>
  intro st sm es bs x st' sm' f b h;obtain⟨⟨l,rfl⟩,h2⟩:=B _ h;exact⟨⟨l++[(r,false)],S1⟩,λ e=>h2 e⟩
 |frozen a k B=>
  intro st sm es bs x st' sm' f b h;obtain⟨⟨l,rfl⟩,h2⟩:=B _ h;exact⟨⟨l++[(a.block,false)],S1⟩,λ e=>h2 e⟩
 |halt H=>intro st sm es bs x st' sm' f b h;cases H <;> simp[QB]at h
 |_=>intro st sm es bs x st' sm' f b h;simp[QB]at h
end Go.TM
namespace Go.TM
variable{T:Type}
def Zu{U:Qa T}{l:Loc}(h:U.canW l):U.canR l:=Qx.2 (.inl (Q4.1 h))
def kT{U:Qa T}{w w':World}(h:U.ok w)(e:w'.heap=w.heap):U.ok w':=by
 refine⟨λ b o hb=>by rw[e];exact h.imm b o hb,λ r f=>?_,h.apart,h.sep⟩;have:=h.held r f;cases r <;> simpa[Qw.ok,e]using this
def KQ{U:Qa T}{w:World}(h:U.ok w){l:Loc}(hl:U.canR l):¬Loc.new w l:=by
 rcases Qx.1 hl with⟨r,E,hl⟩|hl
 .have hk:=h.held r E;cases r with
  |obj b o=>
   have f:=(Array.getElem?_eq_some_iff.1 hk).1;cases o <;> cases l <;> simp only[Qw.lets,Loc.new]at hl ⊢ <;> first|exact hl.elim|omega
  |cell b i v t n=>
   obtain⟨c,hb,_⟩:=hk;have f:=(Array.getElem?_eq_some_iff.1 hb).1;cases l <;> simp only[Qw.lets,Loc.new]at hl ⊢ <;> first|exact hl.elim|omega
 .cases l with
  |cell a=>
   obtain⟨c,t,fr,z,_⟩:=hl;have f:=(Array.getElem?_eq_some_iff.1 (h.imm _ _ z)).1;simp only[Loc.new];omega
  |obj b=>
   obtain⟨o,B⟩:=hl;have f:=(Array.getElem?_eq_some_iff.1 (h.imm _ _ B)).1;simp only[Loc.new];omega
  |_=>exact hl.elim
def vN{U U' τ:Qa T}{w w':World}(g:ZQ U w w' U')(h:τ.ok w)(F:∀l,U.canW l->¬τ.canR l):τ.ok w':=by
 have cells:∀b c t fr,w.heap[b]?=some (.cells c t fr)->τ.canR (.obj b)->(∀i,i<c.size->τ.canR (.cell ⟨b,i,none⟩))->w'.heap[b]?=some (.cells c t fr):=by
  intro b c t fr hb Q z;obtain⟨c',H,h1,h2,I,K⟩:=g.cells b c t fr hb;obtain rfl:=K.resolve_right λ h=>F _ h.1 Q
  have:c'=c:=by
   apply Array.ext h2;intro i L E;have:=I i λ G=>F _ G (z i E);simpa[L,E]using this
  rw[h1,this]
 have obj:∀b o,w.heap[b]?=some o->τ.canR (.obj b)->(∀c t fr,o=.cells c t fr->∀i,i<c.size->τ.canR (.cell ⟨b,i,none⟩))->w'.heap[b]?=some o:=by
  intro b o hb f N;by_cases B:∃c t fr,o=.cells c t fr
  .obtain⟨c,t,fr,rfl⟩:=B;exact cells b c t fr hb f (N c t fr rfl)
  .exact g.objs b o hb (λ c t fr e=>B ⟨c,t,fr,e⟩) λ G=>F _ G f
 refine⟨λ b o hb=>?_,λ r f=>?_,h.apart,h.sep⟩
 .exact obj b o (h.imm b o hb) (Qx.2 (.inr ⟨o,hb⟩)) λ c t fr e i z=>Qx.2 (.inr ⟨c,t,fr,by rw[<- e];exact hb,z⟩)
 .have hk:=h.held r f;cases r with
  |obj b o=>
   exact obj b o hk (Qx.2 (.inl ⟨_,f,by cases o <;> rfl⟩)) λ c t fr e i z=>Qx.2 (.inl ⟨_,f,by subst e;exact⟨rfl,z⟩⟩)
  |cell b i v t n=>
   obtain⟨c,hb,P,M⟩:=hk;obtain⟨c',H,h1,h2,I,K⟩:=g.cells b c t (0,0) hb;have z:i<c.size:=(Array.getElem?_eq_some_iff.1 M).1;obtain rfl:=K.resolve_right λ h=>F _ (h.2 i z) (Qx.2 (.inl ⟨_,f,rfl,rfl⟩));refine⟨c',h1,h2.trans P,?_⟩;rw[I i λ G=>F _ G (Qx.2 (.inl ⟨_,f,rfl,rfl⟩))];exact M
def QJ(b:Nat)(U:Qa T):Prop:=∀a:Addr,a.block=b->a.off<2->¬U.canR (.cell a)
def HU{τ:Qa T}{w:World}{b:Nat}{t:TypeId}{st sm st' sm':Value}(h:τ.ok w)(F:Sh b t st sm w)(E:QJ b τ):τ.ok (two w b t st' sm'):=by
 have ne:∀x o,w.heap[x]?=some o->(∀c t fr,o=.cells c t fr->∀i,i<c.size->τ.canR (.cell ⟨x,i,none⟩))->(two w b t st' sm').heap[x]?=some o:=by
  intro x o hx H
  have:x≠b:=by
   intro e;subst e;rw[show w.heap[x]?=_ from F]at hx;cases hx;exact E ⟨x,0,none⟩ rfl (Nat.zero_lt_two) (H _ _ _ rfl 0 S1)
  simp only[two];rw[Array.getElem?_setIfInBounds_ne (Ne.symm this)];exact hx
 refine⟨λ x o hx=>ne x o (h.imm x o hx) λ c t fr e i f=>Qx.2 (.inr ⟨c,t,fr,by rw[<- e];exact hx,f⟩),λ r z=>?_,h.apart,h.sep⟩;have B:=h.held r z;cases r with
 |obj x o=>exact ne x o B λ c t fr e i f=>Qx.2 (.inl ⟨_,z,by subst e;exact⟨rfl,f⟩⟩)
 |cell x i v t n=>
  obtain⟨c,hb,I,G⟩:=B;refine⟨c,?_,I,G⟩
  have:x≠b:=by
   intro e;subst e;rw[show w.heap[x]?=_ from F]at hb;cases hb;have f:i<2:=by simpa using(Array.getElem?_eq_some_iff.1 G).1
   exact E ⟨x,i,none⟩ rfl f (Qx.2 (.inl ⟨_,z,rfl,rfl⟩))
  simp only[two];rw[Array.getElem?_setIfInBounds_ne (Ne.symm this)];exact hb
def Sh.guar{U U':Qa T}{w w':World}{b:Nat}{t:TypeId}{st sm:Value}(h:Sh b t st sm w)(g:ZQ U w w' U')(B:QJ b U):Sh b t st sm w':=by
 obtain⟨c',E,h1,h2,F,G⟩:=g.cells b _ t (0,0) h;obtain rfl:=G.resolve_right λ h=>B ⟨b,0,none⟩ rfl Nat.zero_lt_two (Zu (h.2 0 S1))
 have:c'=#[st,sm]:=by
  apply Array.ext h2;intro i z f;have:=F i λ H=>B ⟨b,i,none⟩ rfl (by simpa using f) (Zu H);rw[Array.getElem?_eq_getElem z,Array.getElem?_eq_getElem f]at this;exact Option.some.inj this
 rw[this]at h1;exact h1
structure VI(V:Hd->Qa T)(w:World):Prop where
 ok:∀k,(V k).ok w
 sep:∀k k' l,k≠k'->(V k).canW l->¬(V k').canR l
def Q1{α:Type _}(V:Hd->α)(k:Hd)(U:α):Hd->α:=λ k'=>if k'=k then U else V k'
def Ql{α:Type _}(V:Hd->α)(k:Hd)(U:α):Q1 V k U k=U:=by simp[Q1]
def Qh{α:Type _}(V:Hd->α){k k':Hd}(U:α)(h:k'≠k):Q1 V k U k'=V k':=by simp[Q1,h]
def VI.priv{V:Hd->Qa T}{w w':World}{k:Hd}{U':Qa T}(h:VI V w)(g:ZQ (V k) w w' U')(ok:U'.ok w'):VI (Q1 V k U') w':=by
 refine⟨λ k'=>?_,λ B E l z f b=>?_⟩
 .by_cases e:k'=k
  .subst e;rw[Ql];exact ok
  .rw[Qh _ _ e];exact vN g (h.ok k') λ l hl=>h.sep k k' l (Ne.symm e) hl
 .by_cases e:B=k
  .subst e;rw[Ql]at f;rw[Qh _ _ (Ne.symm z)]at b;rcases g.cw l f with f|f
   .exact h.sep _ _ l z f b
   .exact KQ (h.ok _) b f
  .rw[Qh _ _ e]at f;by_cases F:E=k
   .subst F;rw[Ql]at b;rcases g.cr l b with b|b
    .exact h.sep _ _ l z f b
    .exact KQ (h.ok _) (Zu f) b
   .rw[Qh _ _ F]at b;exact h.sep _ _ l z f b
def VI.shift{V:Hd->Qa T}{w:World}{k:Hd}{U':Qa T}(h:VI V w)(G:Qv (V k) U'):VI (Q1 V k U') w:=by
 obtain⟨h1,h2,F⟩:=G.2 w (h.ok k);refine⟨λ k'=>?_,λ b f l z E B=>?_⟩
 .by_cases e:k'=k
  .subst e;rw[Ql];exact h1
  .rw[Qh _ _ e];exact h.ok k'
 .refine h.sep b f l z ?_ ?_
  .by_cases e:b=k
   .subst e;rw[Ql]at E;exact h2 l E
   .rwa [Qh _ _ e]at E
  .by_cases e:f=k
   .subst e;rw[Ql]at B;exact F l B
   .rwa [Qh _ _ e]at B
def VI.two{V:Hd->Qa T}{w:World}{b:Nat}{t:TypeId}{st sm st' sm':Value}(h:VI V w)(z:Sh b t st sm w)(f:∀k,QJ b (V k)):VI V (two w b t st' sm'):=
 ⟨λ k=>HU (h.ok k) z (f k),h.sep⟩
def VI.heap{V:Hd->Qa T}{w w':World}(h:VI V w)(e:w'.heap=w.heap):VI V w':=⟨λ k=>kT (h.ok k) e,h.sep⟩
structure Hz(U Up Uc:Qa T):Prop where
 ok:∀w,U.ok w->Up.ok w/\Uc.ok w
 wp:∀l,Up.canW l->U.canW l
 rp:∀l,Up.canR l->U.canR l
 wc:∀l,Uc.canW l->U.canW l
 rc:∀l,Uc.canR l->U.canR l
 pc:∀l,Up.canW l->¬Uc.canR l
 cp:∀l,Uc.canW l->¬Up.canR l
def VI.fork{V:Hd->Qa T}{w:World}{k c:Hd}{Up Uc:Qa T}(h:VI V w)(hf:Hz (V k) Up Uc)(I:k≠c):VI (Q1 (Q1 V k Up) c Uc) w:=by
 have H:∀k' l,(Q1 (Q1 V k Up) c Uc k').canW l->(k'=k/\Up.canW l/\(V k).canW l)\/(k'=c/\Uc.canW l/\(V k).canW l)\/(k'≠k/\k'≠c/\(V k').canW l):=by
  intro k' l hl;by_cases e:k'=c
  .subst e;rw[Ql]at hl;exact .inr (.inl ⟨rfl,hl,hf.wc l hl⟩)
  .rw[Qh _ _ e]at hl;by_cases f:k'=k
   .subst f;rw[Ql]at hl;exact .inl ⟨rfl,hl,hf.wp l hl⟩
   .rw[Qh _ _ f]at hl;exact .inr (.inr ⟨f,e,hl⟩)
 have G:∀k' l,(Q1 (Q1 V k Up) c Uc k').canR l->(k'=k/\Up.canR l/\(V k).canR l)\/(k'=c/\Uc.canR l/\(V k).canR l)\/(k'≠k/\k'≠c/\(V k').canR l):=by
  intro k' l hl;by_cases e:k'=c
  .subst e;rw[Ql]at hl;exact .inr (.inl ⟨rfl,hl,hf.rc l hl⟩)
  .rw[Qh _ _ e]at hl;by_cases f:k'=k
   .subst f;rw[Ql]at hl;exact .inl ⟨rfl,hl,hf.rp l hl⟩
   .rw[Qh _ _ f]at hl;exact .inr (.inr ⟨f,e,hl⟩)
 refine⟨λ k'=>?_,λ M N l b L K=>?_⟩
 .by_cases e:k'=c
  .subst e;rw[Ql];exact(hf.ok w (h.ok k)).2
  .rw[Qh _ _ e];by_cases f:k'=k
   .subst f;rw[Ql];exact(hf.ok w (h.ok k')).1
   .rw[Qh _ _ f];exact h.ok k'
 .rcases H _ _ L with⟨rfl,B,F⟩|⟨rfl,B,F⟩|⟨Q,U,B⟩ <;> rcases G _ _ K with⟨e,z,E⟩|⟨e,z,E⟩|⟨P,S,z⟩
  .exact b e.symm
  .exact hf.pc l B z
  .exact h.sep _ _ l b F z
  .exact hf.cp l B z
  .exact b e.symm
  .exact h.sep k _ l (Ne.symm P) F z
  .subst e;exact h.sep _ _ l b B E
  .exact h.sep _ k l Q B E
  .exact h.sep _ _ l b B z
def Qa.bare(τ:T):Qa T:=⟨λ _=>none,[],τ⟩
def Y6(τ:T)(w:World):(Qa.bare τ).ok w:=⟨λ _ _ h=>(by cases h),λ _ h=>(by cases h),Pairwise.nil,λ _ h=>(by cases h)⟩
def Wh(τ:T)(l:Loc):¬(Qa.bare τ).canW l:=λ h=>by obtain⟨r,b,_⟩:=Q4.1 h;cases b
def Wg(τ:T)(l:Loc):¬(Qa.bare τ).canR l:=λ h=>by
 rcases Qx.1 h with⟨r,b,_⟩|h
 .cases b
 .cases l <;> simp[Qa.bare]at h
def Qa.with(U:Qa T)(M:List Qw):Qa T:={ U with M:=U.M++M }
def Ox{U τ:Qa T}{l:Loc}(h:(U.with τ.M).canW l):U.canW l\/τ.canW l:=by
 obtain⟨r,b,hl⟩:=Q4.1 h;rcases mem_append.1 b with b|b
 .exact .inl (Q4.2 ⟨r,b,hl⟩)
 .exact .inr (Q4.2 ⟨r,b,hl⟩)
def Ow{U τ:Qa T}{l:Loc}(h:(U.with τ.M).canR l):U.canR l\/τ.canR l:=by
 rcases Qx.1 h with⟨r,b,hl⟩|h
 .rcases mem_append.1 b with b|b
  .exact .inl (Qx.2 (.inl ⟨r,b,hl⟩))
  .exact .inr (Qx.2 (.inl ⟨r,b,hl⟩))
 .exact .inl (Qx.2 (.inr h))
def Sr{U:Qa T}{r:Qw}(h:r∈U.M):(∀b o,r=.obj b o->U.canW (.obj b))/\(∀b i v t n,r=.cell b i v t n->U.canW (.cell ⟨b,i,none⟩))/\(∀b c t fr i,r=.obj b (.cells c t fr)->i<c.size->U.canW (.cell ⟨b,i,none⟩)):=by
 refine⟨λ b o e=>Q4.2 ⟨r,h,?_⟩,λ b i v t n e=>Q4.2 ⟨r,h,?_⟩,λ b c t fr i e f=>Q4.2 ⟨r,h,?_⟩⟩
 .subst e;cases o <;> rfl
 .subst e;exact⟨rfl,rfl⟩
 .subst e;exact⟨rfl,f⟩
def kP{U τ:Qa T}{w:World}(h1:U.ok w)(h2:τ.ok w)(L:∀l,U.canW l->¬τ.canR l)(X:∀l,τ.canW l->¬U.canR l):(U.with τ.M).ok w:=by
 refine⟨h1.imm,λ r f=>?_,?_,λ r f=>?_⟩
 .rcases mem_append.1 f with f|f
  .exact h1.held r f
  .exact h2.held r f
 .refine pairwise_append.2 ⟨h1.apart,h2.apart,λ r f P B=>?_⟩;obtain⟨Y,Q,Z⟩:=Sr f;obtain⟨N,G,S⟩:=Sr B;have W:=h1.held r f;have H:=h2.held P B;cases r with
  |obj b o=>
   cases P with
   |obj F K=>
    simp only[Qw.apart,Qw.blk];intro e;subst e;exact L _ (Y _ _ rfl) (Zu (N _ _ rfl))
   |cell F i v t n=>
    simp only[Qw.apart,Qw.blk];intro e;subst e;obtain⟨c,h,V,E⟩:=H
    have:o=.cells c t (0,0):=by
     have z:w.heap[b]?=some o:=W;rw[z]at h;exact Option.some.inj h
    subst this;exact L _ (Z _ _ _ _ i rfl (Array.getElem?_eq_some_iff.1 E).1) (Zu (G _ _ _ _ _ rfl))
  |cell b i v t n=>
   cases P with
   |obj F K=>
    simp only[Qw.apart,Qw.blk];intro e;subst e;obtain⟨c,h,V,E⟩:=W
    have:K=.cells c t (0,0):=by
     have z:w.heap[b]?=some K:=H;rw[z]at h;exact Option.some.inj h
    subst this;exact L _ (Q _ _ _ _ _ rfl) (Zu (S _ _ _ _ i rfl (Array.getElem?_eq_some_iff.1 E).1))
   |cell F i' v' t' n'=>
    simp only[Qw.apart];by_cases e:b=F
    .by_cases e2:i=i'
     .subst e;subst e2;exact absurd (Zu (G _ _ _ _ _ rfl)) (L _ (Q _ _ _ _ _ rfl))
     .exact .inr e2
    .exact .inl e
 .rcases mem_append.1 f with f|f
  .exact h1.sep r f
  .show U.I r.blk=none;cases e:U.I r.blk with
   |none=>rfl
   |some o=>
    exfalso;obtain⟨N,G,S⟩:=Sr f;have H:=h2.held r f;cases r with
    |obj b K=>exact X _ (N _ _ rfl) (Qx.2 (.inr ⟨o,e⟩))
    |cell b i v t n=>
     obtain⟨c,h,V,E⟩:=H;have z:w.heap[b]?=some o:=h1.imm _ _ e;rw[h]at z;cases z;exact X _ (G _ _ _ _ _ rfl) (Qx.2 (.inr ⟨c,t,(0,0),e,(Array.getElem?_eq_some_iff.1 E).1⟩))
def VI.join{V:Hd->Qa T}{w:World}{k k':Hd}(h:VI V w)(B:k≠k')(τ:T):VI (Q1 (Q1 V k ((V k).with (V k').M)) k' (Qa.bare τ)) w:=by
 have E:=kP (h.ok k) (h.ok k') (λ l hl=>h.sep k k' l B hl) (λ l hl=>h.sep k' k l (Ne.symm B) hl)
 have H:∀x l,(Q1 (Q1 V k ((V k).with (V k').M)) k' (Qa.bare τ) x).canW l->x≠k'/\((V x).canW l\/(x=k/\(V k').canW l)):=by
  intro x l hl;by_cases e:x=k'
  .subst e;rw[Ql]at hl;exact absurd hl (Wh _ _)
  .rw[Qh _ _ e]at hl;refine⟨e,?_⟩;by_cases b:x=k
   .subst b;rw[Ql]at hl;exact(Ox hl).imp id λ h=>⟨rfl,h⟩
   .rw[Qh _ _ b]at hl;exact .inl hl
 have G:∀x l,(Q1 (Q1 V k ((V k).with (V k').M)) k' (Qa.bare τ) x).canR l->x≠k'/\((V x).canR l\/(x=k/\(V k').canR l)):=by
  intro x l hl;by_cases e:x=k'
  .subst e;rw[Ql]at hl;exact absurd hl (Wg _ _)
  .rw[Qh _ _ e]at hl;refine⟨e,?_⟩;by_cases b:x=k
   .subst b;rw[Ql]at hl;exact(Ow hl).imp id λ h=>⟨rfl,h⟩
   .rw[Qh _ _ b]at hl;exact .inl hl
 refine⟨λ x=>?_,λ L N l F K I=>?_⟩
 .by_cases e:x=k'
  .subst e;rw[Ql];exact Y6 _ _
  .rw[Qh _ _ e];by_cases b:x=k
   .subst b;rw[Ql];exact E
   .rw[Qh _ _ b];exact h.ok x
 .obtain⟨n1,z⟩:=H _ _ K;obtain⟨P,f⟩:=G _ _ I;rcases z with z|⟨rfl,z⟩ <;> rcases f with f|⟨e,f⟩
  .exact h.sep _ _ l F z f
  .exact h.sep _ k' l n1 z f
  .exact h.sep k' _ l (Ne.symm P) z f
  .exact F e.symm
def pZ(U:Qa T)(τ b:T):Hz U (Qa.bare τ) ⟨λ _=>none,U.M,b⟩:=by
 have z:∀l,(Qa.canW ⟨λ _=>none,U.M,b⟩ l)->U.canW l:=λ l hl=>Q4.2 (Q4.1 hl)
 have f:∀l,(Qa.canR ⟨λ _=>none,U.M,b⟩ l)->U.canR l:=by
  intro l hl;rcases Qx.1 hl with hl|hl
  .exact Qx.2 (.inl hl)
  .cases l <;> simp at hl
 exact⟨λ w ok=>⟨Y6 _ _,⟨λ _ _ h=>(by cases h),ok.held,ok.apart,λ _ _=>rfl⟩⟩,λ l h=>absurd h (Wh _ _),λ l h=>absurd h (Wg _ _),z,f,λ l h=>absurd h (Wh _ _),λ l _ h=>Wg _ _ h⟩
def Qw.lets_blk{r:Qw}{l:Loc}(h:r.lets l):(∃a,l=.cell a/\a.block=r.blk)\/l=.obj r.blk:=by
 cases r with
 |obj b o=>
  cases l with
  |cell a=>cases o <;> simp only[Qw.lets]at h;exact .inl ⟨a,rfl,h.1⟩
  |obj f=>right;cases o <;> simp only[Qw.lets]at h <;> rw[h] <;> rfl
  |_=>cases o <;> exact h.elim
 |cell b i v t n=>
  cases l with
  |cell a=>exact .inl ⟨a,rfl,h.1⟩
  |_=>exact h.elim
def Qw.apart_lets{r s:Qw}(h:r.apart s){l:Loc}(h1:r.lets l)(h2:s.lets l):False:=by
 have key:r.blk≠s.blk->False:=λ w=>by
  rcases Qw.lets_blk h1 with⟨a,rfl,e⟩|rfl
  .rcases Qw.lets_blk h2 with⟨a',e',f⟩|e'
   .cases e';exact w (e.symm.trans f)
   .cases e'
  .rcases Qw.lets_blk h2 with⟨a',e',f⟩|e'
   .cases e'
   .exact w (by simpa using e')
 cases r with
 |obj b o=>exact key (by cases s <;> exact h)
 |cell b i v t n=>
  cases s with
  |obj z o=>exact key h
  |cell z j I H n'=>
   cases l with
   |cell a=>
    obtain⟨B,E⟩:=h1;obtain⟨F,G⟩:=h2;rcases h with h|h
    .exact h (B.symm.trans F)
    .exact h (E.symm.trans G)
   |_=>exact h1.elim
def Ix{U:Qa T}{tp tc:T}{w:World}(G:U.ok w){M₁ M₂:List Qw}(h:Perm U.M (M₁++M₂)):Hz U ⟨U.I,M₂,tp⟩ ⟨U.I,M₁,tc⟩:=by
 have z:=(h.pairwise_iff (λ{x y}h=>Qw.apart_symm h)).1 G.apart;rw[pairwise_append]at z;have h1:∀r∈M₁,r∈U.M:=λ r f=>h.mem_iff.2 (mem_append_left _ f);have h2:∀r∈M₂,r∈U.M:=λ r f=>h.mem_iff.2 (mem_append_right _ f)
 have F:∀(r:Qw)(l:Loc),r∈U.M->r.lets l->(match l with|.cell a=>∃c t fr,U.I a.block=some (.cells c t fr)/\a.off<c.size|.obj b=>∃o,U.I b=some o|_=>False)->False:=by
  intro r l f hl B;have E:=G.sep r f;rcases Qw.lets_blk hl with⟨a,rfl,e⟩|rfl
  .obtain⟨c,t,fr,hc,_⟩:=B;rw[e,E]at hc;cases hc
  .obtain⟨o,ho⟩:=B;rw[E]at ho;cases ho
 refine⟨λ w ok=>?_,λ l hl=>?_,λ l hl=>?_,λ l hl=>?_,λ l hl=>?_,λ l hl f=>?_,λ l hl f=>?_⟩
 .have hap':=(h.pairwise_iff (λ{x y}h=>Qw.apart_symm h)).1 ok.apart;rw[pairwise_append]at hap';exact⟨⟨ok.imm,λ r f=>ok.held r (h2 r f),hap'.2.1,λ r f=>ok.sep r (h2 r f)⟩,⟨ok.imm,λ r f=>ok.held r (h1 r f),hap'.1,λ r f=>ok.sep r (h1 r f)⟩⟩
 .rw[Q4]at hl ⊢;obtain⟨r,f,hl⟩:=hl;exact⟨r,h2 r f,hl⟩
 .rw[Qx]at hl ⊢;exact hl.imp (λ⟨r,f,hl⟩=>⟨r,h2 r f,hl⟩) id
 .rw[Q4]at hl ⊢;obtain⟨r,f,hl⟩:=hl;exact⟨r,h1 r f,hl⟩
 .rw[Qx]at hl ⊢;exact hl.imp (λ⟨r,f,hl⟩=>⟨r,h1 r f,hl⟩) id
 .obtain⟨r,hr_2,hl⟩:=Q4.1 hl;rcases Qx.1 f with⟨s,E,hl'⟩|B
  .exact Qw.apart_lets (z.2.2 s E r hr_2) hl' hl
  .exact F r l (h2 r hr_2) hl B
 .obtain⟨r,hr_2,hl⟩:=Q4.1 hl;rcases Qx.1 f with⟨s,E,hl'⟩|B
  .exact Qw.apart_lets (z.2.2 r hr_2 s E) hl hl'
  .exact F r l (h1 r hr_2) hl B
def Fe{U:Qa T}{tp tc:T}{w:World}(f:U.ok w){M₁ M₂:List Qw}(h:Perm U.M (M₁++M₂)):Hz U ⟨U.I,M₂,tp⟩ ⟨λ _=>none,M₁,tc⟩:=by
 have hf:=Ix (tp:=tp) (tc:=tc) f h;have cw:∀l,(Qa.canW ⟨λ _=>none,M₁,tc⟩ l)->(Qa.canW ⟨U.I,M₁,tc⟩ l):=λ l hl=>Q4.2 (Q4.1 hl)
 have cr:∀l,(Qa.canR ⟨λ _=>none,M₁,tc⟩ l)->(Qa.canR ⟨U.I,M₁,tc⟩ l):=by
  intro l hl;rcases Qx.1 hl with hl|hl
  .exact Qx.2 (.inl hl)
  .cases l <;> simp at hl
 exact⟨λ w ok=>⟨(hf.ok w ok).1,⟨λ _ _ h=>(by cases h),(hf.ok w ok).2.held,(hf.ok w ok).2.apart,λ _ _=>rfl⟩⟩,hf.wp,hf.rp,λ l hl=>hf.wc l (cw l hl),λ l hl=>hf.rc l (cr l hl),λ l hl b=>hf.pc l hl (cr l b),λ l hl b=>hf.cp l (cw l hl) b⟩
end Go.TM
namespace Go.TM
abbrev Spec:=List Qw->Prop
inductive PS where
 |run|seen (u:Nat)|wait|up
inductive Ph where
 |out
 |par (b:Nat) (ds:List Spec) (pend:Bool) (k:PS)
 |wrk (b:Nat) (D:Spec)
 |rel (b:Nat)
 |lst (b:Nat) (i:Nat)
inductive LP where
 |idle|got|own (x:Bool)|rls|unl|unl2|fin|wai|wok
def LP.rels:LP->Bool
 |.rls|.unl|.unl2|.fin=>true
 |_=>false
def LP.isOwn:LP->Bool
 |.own _=>true
 |_=>false
def LP.cls:LP->Nat
 |.idle=>0
 |.fin=>2
 |_=>1
def LP.word:LP->LP->Option (Nat×Nat)
 |.idle,.idle|.idle,.fin|.fin,.idle|.fin,.fin=>some (0,0)
 |.got,.idle|.rls,.idle|.got,.fin|.rls,.fin|.idle,.got|.idle,.rls|.fin,.got|.fin,.rls=>some (1,0)
 |.own x,.idle|.idle,.own x=>if x=false then some (1,0)else none
 |.own x,.fin|.fin,.own x=>if x=true then some (1,0)else none
 |.got,.wai|.rls,.wai|.wai,.got|.wai,.rls=>some (9,0)
 |.own x,.wai|.wai,.own x=>if x=false then some (9,0)else none
 |.unl,.wai|.wai,.unl=>some (8,0)
 |.unl2,.wai|.wai,.unl2=>some (2,0)
 |.fin,.wai|.wai,.fin=>some (2,1)
 |.fin,.wok|.wok,.fin=>some (2,0)
 |_,_=>none
def LP.word_symm(p q:LP):LP.word p q=LP.word q p:=by cases p <;> cases q <;> rfl
structure QW where
 m:Nat
 t:TypeId
 sp:Bool->Bool->Spec
inductive ZO where
 |par (x:QW) (u:Bool->Bool)
 |lok (x:QW) (s:Bool) (me:LP) (lo:Nat)
def ZO.mb:Option ZO->Option Nat
 |some (.par x _)=>some x.m
 |_=>none
structure Tk where
 d:Nat
 ph:Ph
 mu:Option ZO
def ZJ{α:Type _}(f:Bool->α)(s:Bool)(x:α):Bool->α:=λ j=>if j=s then x else f j
def J6{α:Type _}(f:Bool->α)(s:Bool)(x:α):ZJ f s x s=x:=by simp[ZJ]
def Xn{α:Type _}(f:Bool->α){s j:Bool}(x:α)(h:j≠s):ZJ f s x j=f j:=by simp[ZJ,h]
def KZ{α:Type _}(f:Bool->α)(s:Bool)(x:α):ZJ f s x (!s)=f (!s):=Xn _ _ (by cases s <;> simp)
def LZ(b:Bool->LP):Option (Nat×Nat):=LP.word (b false) (b true)
def H6(b:Bool->LP)(s:Bool):LZ b=LP.word (b s) (b (!s)):=by
 cases s
 .rfl
 .exact LP.word_symm _ _
def QW.dep(x:QW)(b:Bool->LP)(M:List Qw):Prop:=x.sp (b false).rels (b true).rels M
def Ph.blk:Ph->Option Nat
 |.out=>none
 |.par b ..|.wrk b _|.rel b|.lst b _=>some b
def ZV:Ph->Bool
 |.wrk ..|.rel _=>true
 |_=>false
def Zp{α:Type _}(f:Nat->α)(i:Nat)(x:α):Nat->α:=λ j=>if j=i then x else f j
def Qk{α:Type _}(f:Nat->α)(i:Nat)(x:α):Zp f i x i=x:=by simp[Zp]
def Qu{α:Type _}(f:Nat->α){i j:Nat}(x:α)(h:j≠i):Zp f i x j=f j:=by simp[Zp,h]
def Fj{α:Type _}(f:Nat->α)(p:α->Bool)(i:Nat)(x:α):∀{W:List Nat},W.Nodup->i∈W->W.countP (λ j=>p (Zp f i x j))+(p (f i)).toNat=W.countP (λ j=>p (f j))+(p x).toNat:=by
 intro W
 induction W with
 |nil=>intro _ h;cases h
 |cons a W B=>
  intro b w;obtain⟨ha,b⟩:=nodup_cons.1 b;simp only[countP_cons];by_cases e:a=i
  .subst e
   have:W.countP (λ j=>p (Zp f a x j))=W.countP (λ j=>p (f j)):=by
    refine countP_congr λ j z=>?_;rw[Qu];intro e;subst e;exact ha z
   rw[this,Qk];cases p (f a) <;> cases p x <;> simp <;> omega
  .have hi':i∈W:=by simpa[Ne.symm e]using w
   have:=B b hi';rw[Qu _ _ e];omega
def qI{α:Type _}(f:Nat->α)(p:α->Bool)(i:Nat)(x:α){W:List Nat}(h:i∉W):W.countP (λ j=>p (Zp f i x j))=W.countP (λ j=>p (f j)):=by
 refine countP_congr λ j b=>?_;rw[Qu];intro e;subst e;exact h b
def Xv(b:Nat)(tk:Nat->Ph):Prop:=∀i j,tk i≠.lst b j
structure GI(N b:Nat)(ds:List Spec)(pend:Bool)(k:PS)(tk:Nat->Ph)(rel:Nat->Option Nat)(dM:Nat->List Qw)(W:List Nat)(c wt s:Nat):Prop where
 nodup:W.Nodup
 len:W.length=ds.length
 spec:∀(j i:Nat)(D:Spec),W[j]?=some i->ds[j]?=some D->(tk i=.wrk b D/\rel i=none)\/((∀D',tk i≠.wrk b D')/\(∃r,rel i=some r)/\D (dM i))
 inW:∀i,(tk i≠.out\/rel i≠none)->i∈W
 cnt:c=W.countP (λ i=>ZV (tk i))+pend.toNat
 ph:∀i,tk i=.out\/(∃D,tk i=.wrk b D)\/tk i=.rel b\/∃j,tk i=.lst b j
 bound:ds.length+pend.toNat<=N
 state:match k with
  |.run=>wt=0/\s=0/\Xv b tk
  |.seen u=>c<=u/\wt=0/\s=0/\Xv b tk
  |.wait=>pend=false/\((1<=c/\wt=1/\s=0/\Xv b tk)\/(c=0/\∃i0 j0,(∀i j,tk i=.lst b j↔i=i0/\j=j0)/\((j0<=1/\wt=1/\s=0)\/(j0=2/\wt=0/\s=0)))\/(c=0/\wt=0/\s=1/\Xv b tk))
  |.up=>pend=false/\c=0/\wt=0/\s=0/\Xv b tk
section
variable{N b:Nat}{ds:List Spec}{pend:Bool}{k:PS}{tk:Nat->Ph}{rel:Nat->Option Nat}{dM:Nat->List Qw}{W:List Nat}{c wt s:Nat}
def GI.cN(h:GI N b ds pend k tk rel dM W c wt s):c<=ds.length+pend.toNat:=by
 rw[h.cnt];have:=countP_le_length (p:=λ i=>ZV (tk i)) (l:=W);have:=h.len;omega
def GI.start(f:∀i,tk i=.out)(w:∀i,rel i=none):GI N b [] false .run tk rel dM [] 0 0 0:=
 ⟨.nil,rfl,λ j i D h=>by simp at h,λ i h=>by simp[f,w]at h,rfl,λ i=>.inl (f i),S1,rfl,rfl,λ i j e=>by rw[f]at e;cases e⟩
def GI.add(h:GI N b ds false .run tk rel dM W c wt s)(f:ds.length<N):GI N b ds true .run tk rel dM W (c+1) wt s:=
 ⟨h.nodup,h.len,h.spec,h.inW,by have:=h.cnt;simp at this ⊢;omega,h.ph,S3,h.state⟩
def GI.go{i:Nat}{D:Spec}(h:GI N b ds true .run tk rel dM W c wt s)(E:tk i=.out)(B:rel i=none)(w:i∉W) :
  GI N b (D::ds) false .run (Zp tk i (.wrk b D)) rel dM (i::W) c wt s:=by
 refine⟨nodup_cons.2 ⟨w,h.nodup⟩,by simp[h.len],?_,?_,?_,?_,?_,?_⟩
 .intro j f D' h1 h2;cases j with
  |zero=>
   simp at h1 h2;subst h1;subst h2;exact .inl ⟨Qk ..,B⟩
  |succ j=>
   simp at h1 h2;have hm:f∈W:=mem_of_getElem? h1;have z:f≠i:=λ e=>w (e▸hm);rw[Qu _ _ z];exact h.spec j f D' h1 h2
 .intro f h1;by_cases e:f=i
  .subst e;simp
  .rw[Qu _ _ e]at h1;exact mem_cons_of_mem _ (h.inW f h1)
 .rw[countP_cons,Qk,qI tk ZV i _ w];have:=h.cnt;simp[ZV]at this ⊢;omega
 .intro f;by_cases e:f=i
  .subst e;rw[Qk];exact .inr (.inl ⟨D,rfl⟩)
  .rw[Qu _ _ e];exact h.ph f
 .have:=h.bound;simp at this ⊢;omega
 .obtain⟨h1,h2,h3⟩:=h.state;refine⟨h1,h2,λ f j=>?_⟩;by_cases e:f=i
  .subst e;rw[Qk];intro h;cases h
  .rw[Qu _ _ e];exact h3 f j
def Hn(ds:List Spec)(u:Nat)(k:PS):Prop:=(k=.run/\u=ds.length)\/k=.seen u
def GI.seeU{u:Nat}(h:GI N b ds false k tk rel dM W c wt s)(w:Hn ds u k):c<=u/\wt=0/\s=0/\Xv b tk:=by
 have f:=h.state;rcases w with⟨rfl,rfl⟩|rfl
 .have:=h.cN;simp at this;exact⟨this,f⟩
 .exact f
def GI.toUp{u:Nat}(h:GI N b ds false k tk rel dM W 0 wt s)(f:Hn ds u k):GI N b ds false .up tk rel dM W 0 wt s:=
 ⟨h.nodup,h.len,h.spec,h.inW,h.cnt,h.ph,h.bound,rfl,rfl,(h.seeU f).2⟩
def GI.toSeen{u:Nat}(h:GI N b ds false k tk rel dM W c wt s)(f:Hn ds u k):GI N b ds false (.seen c) tk rel dM W c wt s:=
 ⟨h.nodup,h.len,h.spec,h.inW,h.cnt,h.ph,h.bound,Nat.le_refl _,(h.seeU f).2⟩
def GI.toWait{u:Nat}(h:GI N b ds false k tk rel dM W c wt s)(w:Hn ds u k)(f:1<=c):GI N b ds false .wait tk rel dM W c 1 s:=
 ⟨h.nodup,h.len,h.spec,h.inW,h.cnt,h.ph,h.bound,rfl,.inl ⟨f,rfl,(h.seeU w).2.2⟩⟩
def GI.sema(h:GI N b ds pend .wait tk rel dM W c wt 1):GI N b ds false .up tk rel dM W 0 0 0/\c=0/\wt=0/\pend=false:=by
 obtain⟨z,B⟩:=h.state;rcases B with⟨_,_,f,_⟩|⟨_,E,F,_,⟨_,_,f⟩|⟨_,_,f⟩⟩|⟨h1,h2,_,w⟩
 .cases f
 .cases f
 .cases f
 .subst h1;subst h2;subst z;exact⟨⟨h.nodup,h.len,h.spec,h.inW,h.cnt,h.ph,h.bound,rfl,rfl,rfl,rfl,w⟩,rfl,rfl,rfl⟩
def GI.up(h:GI N b ds pend .up tk rel dM W c wt s):pend=false/\c=0/\wt=0/\s=0/\(∀i,tk i=.out)/\∀i,i∈W->∃r,rel i=some r:=by
 obtain⟨h1,h2,G,H,h5⟩:=h.state
 have B:∀i∈W,ZV (tk i)=false:=by
  have:=h.cnt;rw[h2,h1]at this;simp at this;have F:W.countP (λ i=>ZV (tk i))=0:=O1
  intro i w;have:=countP_eq_zero.1 F i w;simpa using this
 have f:∀i,tk i=.out:=by
  intro i;rcases h.ph i with e|⟨D,e⟩|e|⟨j,e⟩
  .exact e
  .have:=B i (h.inW i (.inl (by rw[e];simp)));rw[e]at this;cases this
  .have:=B i (h.inW i (.inl (by rw[e];simp)));rw[e]at this;cases this
  .exact absurd e (h5 i j)
 refine⟨h1,h2,G,H,f,λ i w=>?_⟩;obtain⟨j,E,e⟩:=mem_iff_getElem.1 w;have z:j<ds.length:=by rw[<- h.len];exact E
 rcases h.spec j i ds[j] (by rw[getElem?_eq_getElem E,e]) (getElem?_eq_getElem z)with⟨h1,_⟩|⟨_,h2,_⟩
 .rw[f]at h1;cases h1
 .exact h2
def JL:List Spec->List (List Qw)->Prop
 |[],[]=>True
 |D::ds,M::b=>D M/\JL ds b
 |_,_=>False
def L8:∀{ds:List Spec}{W:List Nat},W.length=ds.length->(∀(j i:Nat)(D:Spec),W[j]?=some i->ds[j]?=some D->D (dM i))->JL ds (W.map dM)
 |[],[],_,_=>trivial
 |[],_::_,h,_=>by simp at h
 |_::_,[],h,_=>by simp at h
 |D::ds,i::W,h,b=>⟨b 0 i D rfl rfl,L8 (by simpa using h) λ j w f h1 h2=>b (j+1) w f (by simpa using h1) (by simpa using h2)⟩
def GI.deps(h:GI N b ds pend .up tk rel dM W c wt s):JL ds (W.map dM):=by
 refine L8 h.len λ j i D h1 h2=>?_;rcases h.spec j i D h1 h2 with⟨f,_⟩|⟨_,_,f⟩
 .rw[h.up.2.2.2.2.1]at f;cases f
 .exact f
def GI.rel_{i r:Nat}{D:Spec}{M:List Qw}(h:GI N b ds pend k tk rel dM W c wt s)(E:tk i=.wrk b D)(P:D M) :
  GI N b ds pend k (Zp tk i (.rel b)) (Zp rel i (some r)) (Zp dM i M) W c wt s/\rel i=none:=by
 have H:i∈W:=h.inW i (.inl (by rw[E];simp))
 have F:rel i=none:=by
  obtain⟨j,K,e⟩:=mem_iff_getElem.1 H;have I:j<ds.length:=by rw[<- h.len];exact K
  rcases h.spec j i ds[j] (by rw[getElem?_eq_getElem K,e]) (getElem?_eq_getElem I)with⟨_,h2⟩|⟨h2,_⟩
  .exact h2
  .exact absurd E (h2 D)
 have B:∀f j,Zp tk i (.rel b) f=.lst b j↔tk f=.lst b j:=by
  intro f j;by_cases e:f=i
  .subst e;rw[Qk,E];simp
  .rw[Qu _ _ e]
 have w:Xv b tk->Xv b (Zp tk i (.rel b)):=λ Q f j e=>Q f j ((B f j).1 e);refine⟨⟨h.nodup,h.len,?_,?_,?_,?_,h.bound,?_⟩,F⟩
 .intro j f D' h1 h2;by_cases e:f=i
  .subst e;refine .inr ⟨λ L h=>(by rw[Qk]at h;cases h),⟨r,Qk ..⟩,?_⟩;rw[Qk];rcases h.spec j f D' h1 h2 with⟨z,_⟩|⟨z,_⟩
   .rw[E]at z;cases z;exact P
   .exact absurd E (z D)
  .rw[Qu _ _ e,Qu _ _ e,Qu _ _ e];exact h.spec j f D' h1 h2
 .intro f h1;by_cases e:f=i
  .subst e;exact H
  .rw[Qu _ _ e,Qu _ _ e]at h1;exact h.inW f h1
 .have:=Fj tk ZV i (.rel b) h.nodup H;rw[E]at this;have h2:=h.cnt;simp[ZV]at this h2 ⊢;omega
 .intro f;by_cases e:f=i
  .subst e;rw[Qk];exact .inr (.inr (.inl rfl))
  .rw[Qu _ _ e];exact h.ph f
 .have:=h.state;cases k with
  |run=>exact⟨this.1,this.2.1,w this.2.2⟩
  |seen u=>exact⟨this.1,this.2.1,this.2.2.1,w this.2.2.2⟩
  |wait=>
   refine⟨this.1,?_⟩;rcases this.2 with⟨h1,h2,z,G⟩|⟨h1,S,T,h2,z⟩|⟨h1,h2,z,G⟩
   .exact .inl ⟨h1,h2,z,w G⟩
   .exact .inr (.inl ⟨h1,S,T,λ f j=>(B f j).trans (h2 f j),z⟩)
   .exact .inr (.inr ⟨h1,h2,z,w G⟩)
  |up=>exact⟨this.1,this.2.1,this.2.2.1,this.2.2.2.1,w this.2.2.2.2⟩
def GI.move{i:Nat}{p:Ph}(h:GI N b ds pend k tk rel dM W c wt s)(G:tk i=.rel b\/∃j,tk i=.lst b j)(E:p=.out\/∃j,p=.lst b j) :
  i∈W/\(∀(j f:Nat)(D:Spec),W[j]?=some f->ds[j]?=some D->(Zp tk i p f=.wrk b D/\rel f=none)\/((∀z,Zp tk i p f≠.wrk b z)/\(∃r,rel f=some r)/\D (dM f))) /\
  (∀f,(Zp tk i p f≠.out\/rel f≠none)->f∈W)/\(W.countP (λ j=>ZV (Zp tk i p j))+(ZV (tk i)).toNat=W.countP (λ j=>ZV (tk j))) /\
  (∀f,Zp tk i p f=.out\/(∃D,Zp tk i p f=.wrk b D)\/Zp tk i p f=.rel b\/∃j,Zp tk i p f=.lst b j):=by
 have B:i∈W:=h.inW i (.inl (by rcases G with e|⟨j,e⟩ <;> rw[e] <;> simp));have F:∀D,p≠.wrk b D:=by rintro D rfl;rcases E with e|⟨j,e⟩ <;> cases e
 refine⟨B,?_,?_,?_,?_⟩
 .intro j f D h1 h2;by_cases e:f=i
  .subst e;rcases h.spec j f D h1 h2 with⟨w,_⟩|⟨_,w⟩
   .rcases G with e|⟨H,e⟩ <;> rw[e]at w <;> cases w
   .exact .inr ⟨λ z h=>F z (by rwa [Qk]at h),w⟩
  .rw[Qu _ _ e];exact h.spec j f D h1 h2
 .intro f h1;by_cases e:f=i
  .subst e;exact B
  .rw[Qu _ _ e]at h1;exact h.inW f h1
 .have:=Fj tk ZV i p h.nodup B;have e:ZV p=false:=by rcases E with e|⟨j,e⟩ <;> rw[e] <;> rfl
  rw[e]at this;simpa using this
 .intro f;by_cases e:f=i
  .subst e;rw[Qk];exact E.elim .inl λ x=>.inr (.inr (.inr x))
  .rw[Qu _ _ e];exact h.ph f
def GI.relC{i:Nat}(h:GI N b ds pend k tk rel dM W c wt s)(f:tk i=.rel b):1<=c/\c<=N/\wt<=1/\s=0:=by
 have w:i∈W:=h.inW i (.inl (by rw[f];simp))
 have z:1<=c:=by
  rw[h.cnt];have:0<W.countP (λ i=>ZV (tk i)):=countP_pos_iff.2 ⟨i,w,by rw[f];rfl⟩;omega
 refine⟨z,Nat.le_trans h.cN h.bound,?_⟩;have:=h.state;cases k with
 |run=>obtain⟨h1,h2,_⟩:=this;omega
 |seen u=>obtain⟨_,h1,h2,_⟩:=this;omega
 |wait=>
  rcases this.2 with⟨_,h2,B,_⟩|⟨h1,_⟩|⟨h1,_⟩
  .omega
  .omega
  .omega
 |up=>obtain⟨_,h1,_⟩:=this;omega
def GI.leave{i:Nat}(h:GI N b ds pend k tk rel dM W c wt s)(w:tk i=.rel b)(B:¬(c=1/\wt=1)) :
  GI N b ds pend k (Zp tk i .out) rel dM W (c-1) wt s:=by
 obtain⟨K,-,-,L⟩:=h.relC w;obtain⟨I,h1,h2,z,F⟩:=h.move (p:=.out) (.inl w) (.inl rfl)
 have f:Xv b tk->Xv b (Zp tk i .out):=by
  intro B E j e;by_cases e':E=i
  .subst e';rw[Qk]at e;cases e
  .rw[Qu _ _ e']at e;exact B E j e
 refine⟨h.nodup,h.len,h1,h2,?_,F,h.bound,?_⟩
 .have:=h.cnt;rw[w]at z;simp only[show ZV (Ph.rel b)=true from rfl,Bool.toNat_true]at z;omega
 .have:=h.state;cases k with
  |run=>exact⟨this.1,this.2.1,f this.2.2⟩
  |seen u=>exact⟨Nat.le_trans (Nat.sub_le _ _) this.1,this.2.1,this.2.2.1,f this.2.2.2⟩
  |wait=>
   refine⟨this.1,?_⟩;rcases this.2 with⟨_,h5,G,H⟩|⟨h5,_⟩|⟨h5,_⟩
   .exact .inl ⟨O1,h5,G,f H⟩
   .omega
   .omega
  |up=>obtain⟨_,h5,_⟩:=this;omega
def GI.last{i:Nat}(h:GI N b ds pend k tk rel dM W 1 1 s)(w:tk i=.rel b) :
  k=.wait/\GI N b ds pend .wait (Zp tk i (.lst b 0)) rel dM W 0 1 s:=by
 obtain⟨K,-,-,L⟩:=h.relC w;obtain⟨I,h1,h2,z,F⟩:=h.move (p:=.lst b 0) (.inl w) (.inr ⟨0,rfl⟩);have f:=h.state;have B:=h.cnt;cases k with
 |run=>exact absurd f.1 D1
 |seen u=>exact absurd f.2.1 D1
 |up=>exact absurd f.2.1 D1
 |wait=>
  refine⟨rfl,h.nodup,h.len,h1,h2,?_,F,h.bound,f.1,?_⟩
  .rw[w]at z;simp only[show ZV (Ph.rel b)=true from rfl,Bool.toNat_true]at z;omega
  .rcases f.2 with⟨_,h5,G,H⟩|⟨h5,_⟩|⟨h5,_⟩
   .refine .inr (.inl ⟨rfl,i,0,λ E j=>?_,.inl ⟨O1,rfl,G⟩⟩);by_cases e:E=i
    .subst e;rw[Qk];constructor
     .intro e;cases e;exact⟨rfl,rfl⟩
     .rintro⟨_,rfl⟩;rfl
    .rw[Qu _ _ e];exact⟨λ e'=>absurd e' (H E j),λ e'=>absurd e'.1 e⟩
   .cases h5
   .cases h5
def GI.lstAt{i j:Nat}(h:GI N b ds pend k tk rel dM W c wt s)(w:tk i=.lst b j) :
  k=.wait/\c=0/\s=0/\((j<=1/\wt=1)\/(j=2/\wt=0))/\∀E F,tk E=.lst b F↔E=i/\F=j:=by
 have f:=h.state;cases k with
 |run=>exact absurd w (f.2.2 i j)
 |seen u=>exact absurd w (f.2.2.2 i j)
 |up=>exact absurd w (f.2.2.2.2 i j)
 |wait=>
  rcases f.2 with⟨_,_,_,z⟩|⟨h1,G,H,h2,B⟩|⟨_,_,_,z⟩
  .exact absurd w (z i j)
  .obtain⟨rfl,rfl⟩:=(h2 i j).1 w;refine⟨rfl,h1,?_,?_,h2⟩
   .rcases B with⟨_,_,h⟩|⟨_,_,h⟩ <;> exact h
   .rcases B with⟨a,b,_⟩|⟨a,b,_⟩
    .exact .inl ⟨a,b⟩
    .exact .inr ⟨a,b⟩
  .exact absurd w (z i j)
def GI.next{i j wt':Nat}(h:GI N b ds pend k tk rel dM W c wt s)(f:tk i=.lst b j)(B:(j=0/\wt'=1)\/(j=1/\wt'=0)) :
  GI N b ds pend k (Zp tk i (.lst b (j+1))) rel dM W c wt' s:=by
 obtain⟨rfl,h1,h2,I,z⟩:=h.lstAt f;obtain⟨K,F,G,w,H⟩:=h.move (p:=.lst b (j+1)) (.inr ⟨j,f⟩) (.inr ⟨j+1,rfl⟩);refine⟨h.nodup,h.len,F,G,?_,H,h.bound,h.state.1,.inr (.inl ⟨h1,i,j+1,λ E L=>?_,?_⟩)⟩
 .have:=h.cnt;rw[f]at w;simp only[show ∀j,ZV (Ph.lst b j)=false from λ _=>rfl,Bool.toNat_false]at w;omega
 .by_cases e:E=i
  .subst e;rw[Qk];constructor
   .intro e;cases e;exact⟨rfl,rfl⟩
   .rintro⟨_,rfl⟩;rfl
  .rw[Qu _ _ e,z];exact⟨λ e'=>absurd e'.1 e,λ e'=>absurd e'.1 e⟩
 .rcases B with⟨rfl,rfl⟩|⟨rfl,rfl⟩
  .exact .inl ⟨O1,rfl,h2⟩
  .exact .inr ⟨rfl,rfl,h2⟩
def GI.wake{i:Nat}(h:GI N b ds pend k tk rel dM W c wt s)(f:tk i=.lst b 2):GI N b ds pend k (Zp tk i .out) rel dM W c wt 1:=by
 obtain⟨rfl,h1,h2,K,E⟩:=h.lstAt f;obtain⟨L,G,H,B,I⟩:=h.move (p:=.out) (.inr ⟨2,f⟩) (.inl rfl);have w:wt=0:=O1
 refine⟨h.nodup,h.len,G,H,?_,I,h.bound,h.state.1,.inr (.inr ⟨h1,w,rfl,λ z F e=>?_⟩)⟩
 .have:=h.cnt;rw[f]at B;simp only[show ∀j,ZV (Ph.lst b j)=false from λ _=>rfl,Bool.toNat_false]at B;omega
 .by_cases e':z=i
  .subst e';rw[Qk]at e;cases e
  .rw[Qu _ _ e']at e;exact e' ((E z F).1 e).1
def GI.someone(h:GI N b ds pend .wait tk rel dM W c wt 0):∃i,tk i≠.out:=by
 obtain⟨B,E⟩:=h.state;rcases E with⟨h1,_,_,_⟩|⟨_,w,F,h2,_⟩|⟨_,_,z,_⟩
 .have:=h.cnt;rw[B]at this;simp at this;have:0<W.countP (λ i=>ZV (tk i)):=O1
  obtain⟨i,_,f⟩:=countP_pos_iff.1 this;exact⟨i,λ e=>by rw[e]at f;cases f⟩
 .exact⟨w,λ e=>by have:=(h2 w F).2 ⟨rfl,rfl⟩;rw[this]at e;cases e⟩
 .cases z
end
inductive SE where
 |go (g:Gr) (st sm:Value) (es:Array Event) (bs:List (Nat×Bool))
 |spawn (g child:Gr) (es:Array Event)
 |blocked (g:Gr) (st sm:Value) (bs:List (Nat×Bool))
 |stuck
def Wj(fr:Frame)(cs:List Frame):Gr:={ frame:=fr,callers:=cs,status:=.running,dying:=none }
def SE.still(st sm:Value)(fr:Frame)(cs:List Frame):SE:=.go (Wj fr cs) st sm #[] []
def LV(fr:Frame):CallKind:=match fr.todo with|.call _ true _ _::_=>.wrapped|_=>.normal
def Gq(P:Program)(d:Deferred):Gr:=Wj { (default:Frame)with fn:=P.funcs.size,defers:=[d],mode:=.panicking [goexitEntry] } []
def Yl:Target->Bool
 |.fn _ _=>true
 |_=>false
def PY(P:Program)(fr:Frame)(cs:List Frame)(d:Deferred)(es:Array Event)(bs:List (Nat×Bool)):SE:=
 bif Yl d.target&&bs.isEmpty then .spawn (Wj (fr.finish undef) cs) (Gq P d) (seen P fr.fn es)else .stuck
def Xr(P:Program)(fr:Frame)(cs:List Frame):QE Next->SE
 |.ok n st sm es bs=>match fr.kind with
  |.early=>.stuck
  |_=>match n with
   |.value v=>.go (Wj (fr.finish v) cs) st sm (seen P fr.fn es) bs
   |.skip=>.go (Wj (fr.finish undef) cs) st sm (seen P fr.fn es) bs
   |.enter f args=>.go (Wj (Frame.enter P f args (LV fr)) (fr::cs)) st sm (seen P fr.fn es) bs
   |.defer d=>.go (Wj ({ fr with defers:=d::fr.defers }.finish undef) cs) st sm (seen P fr.fn es) bs
   |.spawn d=>PY P fr cs d es bs
   |_=>.stuck
 |.blocked st sm bs=>match fr.kind with
  |.early=>.stuck
  |_=>.blocked { frame:=fr,callers:=cs,status:=.blocked,dying:=none } st sm bs
 |.stuck=>.stuck
def GU(P:Program)(t:TypeId)(fr:Frame)(cs:List Frame)(st sm:Value):SE:=
 let to (todo:List Item):SE:=.still st sm { fr with todo } cs
 let leave (jump:Option Code):SE:=match fr.roundOf,jump with
  |none,none=>.still st sm { fr with mode:=.returning } cs
  |none,some .ret=>.still st sm { fr with mode:=.returning } cs
  |_,_=>.stuck
 match fr.todo with
 |[]=>leave none
 |.code .ret::_=>leave (some .ret)
 |.code .skip::k|.code (.label _)::k|.inBlock _::k|.inScope _::k=>to k
 |.code (.seq a b)::k=>to (.code a::.code b::k)
 |.code (.cond c h f)::k=>match fr.eval c with
  |.bool b=>to (.code (if b then h else f)::k)
  |_=>.stuck
 |.code (.block id body)::k=>to (.code body::.inBlock id::k)
 |.code (.loop body)::k|.inLoop body::k=>to (.code body::.inLoop body::k)
 |.code (.scope body)::k=>to (.code body::.inScope body::k)
 |.code (.exit id)::k=>match exitTo id k with
  |some k'=>to k'
  |none=>.stuck
 |.code (.region _ ops false)::k=>to (.inRegion ops (range ops.size)::k)
 |.inRegion _ []::k=>to k
 |.inRegion ops (i::_)::_=>match ops[i]? with
  |some o=>(match Region.wanted o (yielded ops fr.tmps)with
   |true=>(match fr.roundOf with
    |none=>Xr P fr cs (QB P t (execOp fr.eval o) st sm #[] [])
    |some _=>.stuck)
   |false=>.still st sm (fr.finish undef) cs)
  |none=>.stuck
 |_=>.stuck
def V5(m:Bool)(fr:Frame)(cs:List Frame)(v:Value)(st sm:Value)(es:Array Event)(bs:List (Nat×Bool)):SE:=
 match cs with
 |c::rest=>(match fr.kind with
  |.normal=>.go (Wj (c.finish v) rest) st sm es bs
  |.deferred=>.go (Wj (match c.mode with
    |.panicking ({ recovered:=true,.. }::older)=>
     match older.dropWhile (!·.goexit)with
     |[]=>{ c with mode:=.returning }
     |rest=>{ c with mode:=.panicking rest }
    |_=>c) rest) st sm es bs
  |_=>.stuck)
 |[]=>(match m,fr.kind with
  |false,.normal=>.go { frame:=fr,callers:=[],status:=.finished,dying:=none } st sm es bs
  |_,_=>.stuck)
def GH(P:Program)(fr:Frame)(ds:List Deferred)(cs:List Frame):QE Next->SE
 |.ok n st sm es bs=>(match n with
  |.enter f args=>.go (Wj (Frame.enter P f args .deferred) ({ fr with defers:=ds }::cs)) st sm (seen P fr.fn es) bs
  |.value _=>.go (Wj { fr with defers:=ds } cs) st sm (seen P fr.fn es) bs
  |_=>.stuck)
 |_=>.stuck
def GK(P:Program)(m:Bool)(fr:Frame)(cs:List Frame):QE Value->SE
 |.ok v st sm es bs=>V5 m fr cs v st sm (seen P fr.fn es) bs
 |_=>.stuck
def PU(P:Program)(t:TypeId)(m:Bool)(fr:Frame)(cs:List Frame)(st sm:Value):SE:=
 match fr.defers with
 |d::ds=>(match d.target with
  |.fn _ _=>GH P fr ds cs (QB P t (invoke d.target d.args) st sm #[] [])
  |_=>.stuck)
 |[]=>(match fr.mode with
  |.returning=>(match P.funcs[fr.fn]? with
   |some fn=>GK P m fr cs (QB P t (results fn fr.tmps) st sm #[] [])
   |none=>.stuck)
  |.panicking chain=>(match cs,fr.todo,P.funcs[fr.fn]?,chain with
   |[],[],none,e::_=>(match e.goexit with
    |true=>.go { frame:=fr,callers:=[],status:=.finished,dying:=none } st sm #[] []
    |false=>.stuck)
   |_,_,_,_=>.stuck)
  |.run=>.stuck)
def Qc(P:Program)(t:TypeId)(m:Bool)(g:Gr)(st sm:Value):SE:=
 match g.status with
 |.running=>(match g.dying with
  |some _=>.stuck
  |none=>(match g.frame.mode with
   |.run=>GU P t g.frame g.callers st sm
   |_=>PU P t m g.frame g.callers st sm))
 |_=>.stuck
def Hw(s:GStep)(W:Value->Value->World)(ok:List (Nat×Bool)->Prop)(w:World):SE->Prop
 |.go g' st' sm' es bs=>ok bs->s=.go g' (W st' sm') es
 |.spawn g' c es=>s=.spawn g' c w es
 |.blocked g' st' sm' bs=>ok bs->s=.go g' (W st' sm') #[]
 |.stuck=>True
set_option linter.unusedVariables false
variable{P:Program}{m:Bool}{t:TypeId}{w:World}{st sm:Value}{W:Value->Value->World}{ok:List (Nat×Bool)->Prop}
def Su(P:Program)(f:FuncId):seen P f #[]=#[]:=by simp[seen]
def zv{fr:Frame}{cs:List Frame}{s:Sem Next}(F:WS P t st sm w W ok) :
  Hw (stepG.apply P true fr cs none s w) W ok w (Xr P fr cs (QB P t s st sm #[] [])):=by
 have h:=F.ran s;have z:=@Db P t _ s st sm #[] [];generalize QB P t s st sm #[] []=r at h z;cases r with
 |ok n st' sm' es bs=>
  simp only[Xr];split
  .trivial
  .rename_i hk
   have b:(fr.kind==CallKind.early)=false:=by
    cases E:fr.kind <;> first|rfl|exact absurd E (by simpa using hk)
   cases n with
   |value v=>
    intro hb;have h2:=h hb;simp only[stepG.apply,if_true,h2,b,Bool.false_eq_true,if_false,GStep.after,Wj,Array.append_empty]
   |skip=>
    intro hb;have h2:=h hb;simp only[stepG.apply,if_true,h2,b,Bool.false_eq_true,if_false,GStep.after,Wj,Array.append_empty]
   |enter f args=>
    intro hb;have h2:=h hb;simp only[stepG.apply,if_true,h2,b,Bool.false_eq_true,if_false,GStep.after,Wj,Array.append_empty,LV];rfl
   |defer d=>
    intro hb;have h2:=h hb;simp only[stepG.apply,if_true,h2,b,Bool.false_eq_true,if_false,GStep.after,Wj,Array.append_empty]
   |spawn d=>
    show Hw _ W ok w (PY P fr cs d es bs);unfold PY;cases B:Yl d.target&&bs.isEmpty with
    |true=>
     simp only[Bool.and_eq_true,isEmpty_iff]at B;obtain⟨B,rfl⟩:=B;obtain⟨⟨rfl,rfl⟩,-⟩:=(z rfl).2 rfl;have G:=h F.nil;rw[F.same]at G;cases ht:d.target <;> rw[ht]at B <;> first|cases B|skip
     simp only[cond_true,Hw,stepG.apply,if_true,G,b,Bool.false_eq_true,if_false,ht,Bool.and_false,Bool.false_and,GStep.after,Wj,Array.append_empty,Gq]
    |false=>trivial
   |_=>trivial
 |blocked st' sm' bs=>
  simp only[Xr];split
  .trivial
  .rename_i hk
   have b:(fr.kind==CallKind.early)=false:=by
    cases E:fr.kind <;> first|rfl|exact absurd E (by simpa using hk)
   intro hb;obtain⟨H,h2⟩:=h hb;simp only[stepG.apply,if_true,h2,b,Bool.false_eq_true,if_false,Su,GStep.after,Array.append_empty]
 |stuck=>trivial
def Zt{fr:Frame}{cs:List Frame}{s:GStep}(b:WS P t st sm w W ok)(h:s=.go (Wj fr cs) w):Hw s W ok w (.still st sm fr cs):=by
 intro _;rw[b.same];exact h
def MY{fr:Frame}{cs:List Frame}{status:GoStatus}{offers:Option (Array CommCase×CommShape)}(hm:fr.mode=.run)(b:WS P t st sm w W ok) :
  Hw (stepG P m { frame:=fr,callers:=cs,status,dying:=none,offers } w) W ok w (GU P t fr cs st sm):=by
 have e:stepG P m { frame:=fr,callers:=cs,status,dying:=none,offers } w=stepG.exec P m true fr cs none w:=by
  simp only[stepG,hm]
 rw[e];unfold GU;simp only;split
 .rename_i ht;cases f:fr.roundOf with
  |none=>exact Zt b (by simp[stepG.exec,ht,f,Wj])
  |some l=>trivial
 .rename_i k ht;cases f:fr.roundOf with
  |none=>exact Zt b (by simp[stepG.exec,ht,f,Wj])
  |some l=>trivial
 .rename_i k ht;exact Zt b (by simp[stepG.exec,ht,Wj])
 .rename_i k ht;exact Zt b (by simp[stepG.exec,ht,Wj])
 .rename_i k ht;exact Zt b (by simp[stepG.exec,ht,Wj])
 .rename_i k ht;exact Zt b (by simp[stepG.exec,ht,Wj])
 .rename_i x y k ht;exact Zt b (by simp[stepG.exec,ht,Wj])
 .rename_i c x y k ht;split
  .rename_i bb hb;exact Zt b (by simp[stepG.exec,ht,hb,Wj])
  .trivial
 .rename_i id body k ht;exact Zt b (by simp[stepG.exec,ht,Wj])
 .rename_i body k ht;exact Zt b (by simp[stepG.exec,ht,Wj])
 .rename_i body k ht;exact Zt b (by simp[stepG.exec,ht,Wj])
 .rename_i body k ht;exact Zt b (by simp[stepG.exec,ht,Wj])
 .rename_i id k ht;split
  .rename_i k' hk;exact Zt b (by simp[stepG.exec,ht,hk,Wj])
  .trivial
 .rename_i id ops k ht;exact Zt b (by simp[stepG.exec,ht,Wj])
 .rename_i ops k ht;exact Zt b (by simp[stepG.exec,ht,Wj])
 .rename_i ops i rest k ht;split
  .rename_i o ho;split
   .rename_i hw;split
    .rename_i f
     have h:stepG.exec P m true fr cs none w=stepG.apply P true fr cs none (execOp fr.eval o) w:=by
      simp[stepG.exec,ht,ho,hw,stepG.oper,Frame.oper?,f]
     rw[h];exact zv b
    .trivial
   .rename_i hw;exact Zt b (by simp[stepG.exec,ht,ho,hw,Wj])
  .trivial
 .trivial
def Fp{fr:Frame}{cs:List Frame}{v:Value}{es:Array Event}{bs:List (Nat×Bool)}{st' sm':Value} :
  Hw (GStep.after es (doReturn P m fr cs none v (W st' sm'))) W ok w (V5 m fr cs v st' sm' es bs):=by
 unfold V5;split
 .rename_i c rest;split
  .rename_i hk;intro _;simp only[doReturn,hk,GStep.after,Wj,Array.append_empty]
  .rename_i hk;intro _;simp only[doReturn,hk,GStep.after,Wj,Array.append_empty];rfl
  .trivial
 .split
  .rename_i hk;intro _;simp only[doReturn,hk,GStep.after,Array.append_empty,Bool.not_false,if_true]
  .trivial
def zt{fr:Frame}{cs:List Frame}{status:GoStatus}{offers:Option (Array CommCase×CommShape)}(hm:fr.mode≠.run)(z:WS P t st sm w W ok) :
  Hw (stepG P m { frame:=fr,callers:=cs,status,dying:=none,offers } w) W ok w (PU P t m fr cs st sm):=by
 have e:stepG P m { frame:=fr,callers:=cs,status,dying:=none,offers } w=unwind P m fr cs none w:=by
  cases B:fr.mode with
  |run=>exact absurd B hm
  |_=>simp only[stepG,B]
 rw[e];unfold PU;split
 .rename_i d ds hd;split
  .rename_i fn capt ht;have h:=z.ran (invoke d.target d.args)
   have b:unwind P m fr cs none w=callDeferred P { fr with defers:=ds } cs none d w:=by
    obtain⟨F,ag⟩:=d;cases ht;simp only[unwind,hd]
   rw[b];generalize QB P t (invoke d.target d.args) st sm #[] []=r at h;cases r with
   |ok n st' sm' es bs=>
    simp only[GH];cases n with
    |enter f args=>
     intro hb;have h2:=h hb;rw[ht]at h2;simp only[callDeferred,ht,Bool.false_and,Bool.false_eq_true,if_false,h2,GStep.after,Wj,Array.append_empty]
    |value v=>
     intro hb;have h2:=h hb;rw[ht]at h2;simp only[callDeferred,ht,Bool.false_and,Bool.false_eq_true,if_false,h2,GStep.after,Wj,Array.append_empty]
    |_=>trivial
   |_=>trivial
  .trivial
 .rename_i hd;split
  .rename_i hmo;split
   .rename_i fn hf;have h:=z.ran (results fn fr.tmps);generalize QB P t (results fn fr.tmps) st sm #[] []=r at h;cases r with
    |ok v st' sm' es bs=>
     simp only[GK];by_cases hb:ok bs
     .have h2:=h hb
      have b:unwind P m fr cs none w=GStep.after (seen P fr.fn es) (doReturn P m fr cs none v (W st' sm')):=by
       simp only[unwind,hd,hmo,hf,h2]
      rw[b];exact Fp
     .have:=Fp (P:=P) (m:=m) (W:=W) (ok:=ok) (w:=w) (fr:=fr) (cs:=cs) (v:=v) (es:=seen P fr.fn es) (bs:=bs) (st':=st') (sm':=sm');unfold V5 at this ⊢;split <;> split <;> first|exact(λ E=>absurd E hb)|trivial
    |_=>trivial
   .trivial
  .rename_i chain hmo;split
   .rename_i e' tl ht hf;split
    .rename_i hg;intro _;rw[z.same];simp[unwind,hd,hmo,Frame.catches,ht,hf,hg]
    .trivial
   .trivial
  .trivial
def VC{g:Gr}(b:WS P t st sm w W ok):Hw (stepG P m g w) W ok w (Qc P t m g st sm):=by
 obtain⟨fr,cs,status,dying,offers⟩:=g;unfold Qc;cases status <;> try trivial
 cases dying with
 |some d=>trivial
 |none=>
  simp only;cases hm:fr.mode with
  |run=>exact MY hm b
  |_=>exact zt (by rw[hm];intro h;cases h) b
end Go.TM
namespace Go.TM
variable{P:Program}{m:Bool}{t:TypeId}
def Og{g g':Gr}{st sm st' sm':Value}{es:Array Event}(h:Qc P t m g st sm=.go g' st' sm' es [])(w:World):stepG P m g w=.go g' w es:=by
 have:=VC (g:=g) (m:=m) (WS.calm (P:=P) (t:=t) (st:=st) (sm:=sm) (w:=w));rw[h]at this;exact this rfl
def H4{g g':Gr}{st sm st' sm':Value}{es:Array Event}{bs:List (Nat×Bool)}{b:Nat}{w:World}(h:Qc P t m g st sm=.go g' st' sm' es bs)(f:Sh b t st sm w)
  (hb:∀y∈bs,y.1=b):stepG P m g w=.go g' (two w b t st' sm') es:=by
 have:=VC (g:=g) (m:=m) (WS.sh (P:=P) f);rw[h]at this;exact this hb
def E4{g g':Gr}{st sm st' sm':Value}{bs:List (Nat×Bool)}{b:Nat}{w:World}(h:Qc P t m g st sm=.blocked g' st' sm' bs)(f:Sh b t st sm w)
  (hb:∀y∈bs,y.1=b):stepG P m g w=.go g' (two w b t st' sm') #[]:=by
 have:=VC (g:=g) (m:=m) (WS.sh (P:=P) f);rw[h]at this;exact this hb
def Nj{g g' c:Gr}{st sm:Value}{es:Array Event}(h:Qc P t m g st sm=.spawn g' c es)(w:World):stepG P m g w=.spawn g' c w es:=by
 have:=VC (g:=g) (m:=m) (WS.calm (P:=P) (t:=t) (st:=st) (sm:=sm) (w:=w));rw[h]at this;exact this
def Xe(f:Value->Value->SE):Prop:=∀st sm g' st' sm' es bs,f st sm=.go g' st' sm' es bs->(bs.all (!·.2))=true->(st'=st/\sm'=sm)/\∀h b,f h b=.go g' h b es bs
def Xe.still{fr:Frame}{cs:List Frame}:Xe λ st sm=>.still st sm fr cs:=by
 intro st sm g' st' sm' es bs h _;simp only[SE.still,SE.go.injEq]at h;obtain⟨rfl,rfl,rfl,rfl,rfl⟩:=h;exact⟨⟨rfl,rfl⟩,λ _ _=>rfl⟩
def Xe.stuck:Xe λ _ _=>.stuck:=by intro st sm g' st' sm' es bs h;cases h
def Xe.of{α:Type}{s:Sem α}{F:QE α->SE}(E:∀r g' st' sm' es bs,F r=.go g' st' sm' es bs->∃x w,r=.ok x st' sm' w bs/\∀f b,F (.ok x f b w bs)=.go g' f b es bs) :
  Xe λ st sm=>F (QB P t s st sm #[] []):=by
 intro st sm g' st' sm' es bs h hb;obtain⟨x,w,G,h2⟩:=E _ _ _ _ _ _ h;obtain⟨-,z⟩:=Db s G;obtain⟨B,h5⟩:=z hb;exact⟨B,λ f b=>by simp only[h5 f b,h2]⟩
def jp{fr:Frame}{cs:List Frame}(r:QE Next)(g':Gr)(st' sm':Value)(es:Array Event)(bs:List (Nat×Bool))(h:Xr P fr cs r=.go g' st' sm' es bs) :
  ∃x b,r=.ok x st' sm' b bs/\∀z w,Xr P fr cs (.ok x z w b bs)=.go g' z w es bs:=by
 cases r with
 |ok n st sm b f=>
  simp only[Xr]at h ⊢;split at h
  .cases h
  .cases n <;> simp only[SE.go.injEq,reduceCtorEq]at h
   case spawn d=>unfold PY at h;cases B:Yl d.target&&f.isEmpty <;> rw[B]at h <;> cases h
   all_goals(obtain⟨rfl,rfl,rfl,rfl,rfl⟩:=h;exact⟨_,_,rfl,λ _ _=>rfl⟩)
 |blocked st sm f=>simp only[Xr]at h;split at h <;> cases h
 |stuck=>cases h
def vy{fr:Frame}{ds:List Deferred}{cs:List Frame}(r:QE Next)(g':Gr)(st' sm':Value)(es:Array Event)(bs:List (Nat×Bool))(h:GH P fr ds cs r=.go g' st' sm' es bs) :
  ∃x b,r=.ok x st' sm' b bs/\∀w f,GH P fr ds cs (.ok x w f b bs)=.go g' w f es bs:=by
 cases r with
 |ok n st sm b z=>
  simp only[GH]at h ⊢;cases n <;> simp only[SE.go.injEq,reduceCtorEq]at h
  all_goals(obtain⟨rfl,rfl,rfl,rfl,rfl⟩:=h;exact⟨_,_,rfl,λ _ _=>rfl⟩)
 |_=>cases h
def vP{fr:Frame}{cs:List Frame}(r:QE Value)(g':Gr)(st' sm':Value)(es:Array Event)(bs:List (Nat×Bool))(h:GK P m fr cs r=.go g' st' sm' es bs) :
  ∃x b,r=.ok x st' sm' b bs/\∀w f,GK P m fr cs (.ok x w f b bs)=.go g' w f es bs:=by
 cases r with
 |ok v st sm b z=>
  simp only[GK,V5]at h ⊢;split at h
  .split at h
   .simp only[SE.go.injEq]at h;obtain⟨rfl,rfl,rfl,rfl,rfl⟩:=h;exact⟨_,_,rfl,λ _ _=>rfl⟩
   .simp only[SE.go.injEq]at h;obtain⟨rfl,rfl,rfl,rfl,rfl⟩:=h;exact⟨_,_,rfl,λ _ _=>rfl⟩
   .cases h
  .split at h
   .simp only[SE.go.injEq]at h;obtain⟨rfl,rfl,rfl,rfl,rfl⟩:=h;exact⟨_,_,rfl,λ _ _=>rfl⟩
   .cases h
 |_=>cases h
def z_{fr:Frame}{cs:List Frame}:Xe (PU P t m fr cs):=by
 unfold PU;split
 .split
  .exact Xe.of (F:=GH P fr _ cs) vy
  .exact .stuck
 .split
  .split
   .exact Xe.of (F:=GK P m fr cs) vP
   .exact .stuck
  .split
   .split
    .intro st sm g' st' sm' es bs h _;simp only[SE.go.injEq]at h;obtain⟨rfl,rfl,rfl,rfl,rfl⟩:=h;exact⟨⟨rfl,rfl⟩,λ _ _=>rfl⟩
    .exact .stuck
   .exact .stuck
  .exact .stuck
def Ft{g:Gr}:Xe (Qc P t m g):=by
 obtain⟨fr,cs,status,dying,offers⟩:=g;unfold Qc;cases status <;> try exact .stuck
 cases dying with
 |some d=>exact .stuck
 |none=>
  simp only;cases fr.mode with
  |run=>
   unfold GU;simp only;split
   .split <;> first|exact .still|exact .stuck
   .split <;> first|exact .still|exact .stuck
   .exact .still
   .exact .still
   .exact .still
   .exact .still
   .exact .still
   .split <;> first|exact .still|exact .stuck
   .exact .still
   .exact .still
   .exact .still
   .exact .still
   .split <;> first|exact .still|exact .stuck
   .exact .still
   .exact .still
   .split
    .split
     .split
      .exact Xe.of (F:=Xr P fr cs) jp
      .exact .stuck
     .exact .still
    .exact .stuck
   .exact .stuck
  |_=>exact z_
def SE.get(d:Gr):SE->Gr
 |.go g _ _ _ _=>g
 |_=>d
def Qn{g g':Gr}{st sm st' sm':Value}{es:Array Event}{bs:List (Nat×Bool)}(h:Qc P t m g st sm=.go g' st' sm' es bs):g.status=.running:=by
 unfold Qc at h;split at h
 .assumption
 .cases h
end Go.TM
namespace Go.TM
open Go.Conc (QuitsD)
def Q0(c wt:Nat):Value:=.int .u64 ((c*4294967296+wt:Nat):Int)
def Qp(s:Nat):Value:=.int .u32 (s:Int)
def Z0(m:Mark):Event:=⟨.mark m,false,true⟩
def Jc(b o:Nat):Event:=⟨.cell ⟨b,o,none⟩,false,true⟩
def QA(b o:Nat):Event:=⟨.cell ⟨b,o,none⟩,true,true⟩
def Z5(b:Nat)(bs:List (Nat×Bool)):Prop:=∀y∈bs,y.1=b
def Qa.at(U:Qa Tk)(d:Nat)(p:Ph):Qa Tk:={ U with tok:=⟨d,p,U.tok.mu⟩ }
def Qa.at_self{U:Qa Tk}{d:Nat}{p:Ph}{mu:Option ZO}(h:U.tok=⟨d,p,mu⟩):U.at d p=U:=by
 obtain⟨I,M,tok⟩:=U;simp only at h;subst h;rfl
def Zc(s:Nat):Value:=.int .i32 (s:Int)
def Qa.lk(U:Qa Tk)(d b:Nat)(D:Spec)(x:QW)(s:Bool)(me:LP)(lo:Nat):Qa Tk:={ U with tok:=⟨d,.wrk b D,some (.lok x s me lo)⟩ }
def Qa.lk_self{U:Qa Tk}{d b:Nat}{D:Spec}{x:QW}{s:Bool}{me:LP}{lo:Nat}(h:U.tok=⟨d,.wrk b D,some (.lok x s me lo)⟩):U.lk d b D x s me lo=U:=by
 obtain⟨I,M,tok⟩:=U;simp only at h;subst h;rfl
def GD(m:Nat)(e:Event):Prop:=Event.mute e=true\/∃o wr,o<2/\e=⟨.cell ⟨m,o,none⟩,wr,true⟩
def Yv(mu b mc:Option ZO):Prop:=(b=mu/\mc=none)\/∃x u s,mu=some (.par x u)/\u s=false/\b=some (.par x (ZJ u s true))/\mc=some (.lok x s .idle 0)
def Tl(P:Program)(t:TypeId)(N b:Nat):Nat->Nat->Ph->Gr->Prop
 |0,_,_,_=>False
 |n+1,d,p,g=>g.status=.running /\
  ((∃g' es bs,(∀e∈es,Event.mute e=true)/\Z5 b bs/\(∀st sm,Qc P t false g st sm=.go g' st sm es bs)/\Tl P t N b n (deafBehind d es) p g') \/
   (p=.rel b/\d=1/\∀c wt,1<=c->c<=N->wt<=1->∃g' bs,Z5 b bs/\Qc P t false g (Q0 c wt) (Qp 0)=.go g' (Q0 (c-1) wt) (Qp 0) #[Jc b 0,QA b 0] bs /\
    (if c=1/\wt=1 then Tl P t N b n 1 (.lst b 0) g' else QuitsD P n 1 g')) \/
   (p=.lst b 0/\d=1/\∃g' bs,Z5 b bs/\Qc P t false g (Q0 0 1) (Qp 0)=.go g' (Q0 0 1) (Qp 0) #[Jc b 0] bs/\Tl P t N b n 1 (.lst b 1) g') \/
   (p=.lst b 1/\d=1/\∃g' bs,Z5 b bs/\Qc P t false g (Q0 0 1) (Qp 0)=.go g' (Q0 0 0) (Qp 0) #[QA b 0] bs/\Tl P t N b n 1 (.lst b 2) g') \/
   (p=.lst b 2/\d=1/\mayWake P g=true/\∃g' bs,Z5 b bs/\Qc P t false g (Q0 0 0) (Qp 0)=.go g' (Q0 0 0) (Qp 1) #[Z0 .disable,Jc b 1,QA b 1,Z0 .enable] bs/\QuitsD P n 1 g'))
inductive QC(P:Program)(t:TypeId)(N:Nat)(X:QI Tk):QI Tk
 |quiet {m g U b bs g'} (hs:g.status=.running) (hb:U.tok.ph.blk=some b) (h:∀st sm,Qc P t m g st sm=.go g' st sm #[] bs) (hbs:Z5 b bs) (k:X m g' U):QC P t N X m g U
 |dis {mu m g U b ds pend k_0 bs g' d} (hs:g.status=.running) (ht:U.tok=⟨d,.par b ds pend k_0,mu⟩) (h:∀st sm,Qc P t m g st sm=.go g' st sm #[Z0 .disable] bs) (hbs:Z5 b bs)
   (k:X m g' (U.at (d+1) (.par b ds pend k_0))):QC P t N X m g U
 |ena {mu m g U b ds pend k_0 bs g' d} (hs:g.status=.running) (ht:U.tok=⟨d+1,.par b ds pend k_0,mu⟩) (h:∀st sm,Qc P t m g st sm=.go g' st sm #[Z0 .enable] bs) (hbs:Z5 b bs)
   (k:X m g' (U.at d (.par b ds pend k_0))):QC P t N X m g U
 |add {mu m g U b ds} (hs:g.status=.running) (ht:U.tok=⟨1,.par b ds false .run,mu⟩) (hN:ds.length<N)
   (h:∀c,c<=ds.length->∃g' bs,Qc P t m g (Q0 c 0) (Qp 0)=.go g' (Q0 (c+1) 0) (Qp 0) #[Jc b 0,QA b 0] bs/\Z5 b bs/\X m g' (U.at 1 (.par b ds true .run))):QC P t N X m g U
 |said {mu m g U b ds pend k bs g' wr} (hs:g.status=.running) (ht:U.tok=⟨1,.par b ds pend k,mu⟩)
   (h:∀st sm,Qc P t m g st sm=.go g' st sm #[Z0 (bif wr then .write ⟨b,1,none⟩else .read ⟨b,1,none⟩)] bs) (hbs:Z5 b bs) (k:X m g' U):QC P t N X m g U
 |look {mu m g U b ds k_0 u} (hs:g.status=.running) (ht:U.tok=⟨1,.par b ds false k_0,mu⟩) (hk:Hn ds u k_0)
   (h:∀c,c<=u->∃g' bs,Z5 b bs /\
    ((Qc P t m g (Q0 c 0) (Qp 0)=.go g' (Q0 c 0) (Qp 0) #[Jc b 0] bs/\(X m g' (U.at 1 (.par b ds false (.seen c)))\/(c=0/\X m g' (U.at 1 (.par b ds false .up))))) \/
     (1<=c/\Qc P t m g (Q0 c 0) (Qp 0)=.go g' (Q0 c 1) (Qp 0) #[Jc b 0,QA b 0] bs/\X m g' (U.at 1 (.par b ds false .wait))))):QC P t N X m g U
 |sema {mu m g U b ds} (hs:g.status=.running) (ho:g.offers=none) (ht:U.tok=⟨1,.par b ds false .wait,mu⟩)
   (h0:∀st,∃bs,Z5 b bs/\Qc P t m g st (Qp 0)=.blocked { g with status:=.blocked } st (Qp 0) bs)
   (h1:∃g' bs,Z5 b bs/\Qc P t m g (Q0 0 0) (Qp 1)=.go g' (Q0 0 0) (Qp 0) #[Z0 .disable,Jc b 1,QA b 1,Z0 .enable] bs/\X m g' (U.at 1 (.par b ds false .up))):QC P t N X m g U
 |look2 {mu m g U b ds bs g'} (hs:g.status=.running) (ht:U.tok=⟨1,.par b ds false .up,mu⟩) (hbs:Z5 b bs)
   (h:Qc P t m g (Q0 0 0) (Qp 0)=.go g' (Q0 0 0) (Qp 0) #[Jc b 0] bs) (k:X m g' U):QC P t N X m g U
 |acq {m g U b ds bs g'} (hs:g.status=.running) (ht:U.tok=⟨0,.par b ds false .up,none⟩) (hbs:Z5 b bs)
   (h:∀st sm,Qc P t m g st sm=.go g' st sm #[Z0 (.acquire ⟨b,0,none⟩)] bs) (k:∀Ms,JL ds Ms->X m g' ((U.with Ms.flatten).at 0 .out)):QC P t N X m g U
 |acqM {m g U b ds bs g' x u} (hs:g.status=.running) (ht:U.tok=⟨0,.par b ds false .up,some (.par x u)⟩) (hbs:Z5 b bs)
   (h:∀st sm,Qc P t m g st sm=.go g' st sm #[Z0 (.acquire ⟨b,0,none⟩)] bs) (k:∀Ms M,JL ds Ms->x.sp (u false) (u true) M->X m g' { U with M:=(U.M++Ms.flatten)++M,tok:=⟨0,.out,none⟩ }):QC P t N X m g U
 |make {m g U b M₁ M₂} (ht:U.tok=⟨0,.out,none⟩) (hM:U.M=M₁++.obj b (.cells #[Q0 0 0,Qp 0] t (0,0))::M₂) (k:X m g { U with M:=M₁++M₂,tok:=⟨0,.par b [] false .run,none⟩ }):QC P t N X m g U
 |makeM {m g U b x M₁ M₂} (ht:U.tok=⟨0,.par b [] false .run,none⟩) (hM:U.M=.obj x.m (.cells #[Zc 0,Qp 0] x.t (0,0))::(M₁++M₂)) (hD:x.sp false false M₁)
   (k:X m g { U with M:=M₂,tok:=⟨0,.par b [] false .run,some (.par x λ _=>false)⟩ }):QC P t N X m g U
 |mu {m g U b D x s me lo d} (hs:g.status=.running) (ht:U.tok=⟨d,.wrk b D,some (.lok x s me lo)⟩)
   (h:∀q st sm,lo<=q.cls->LP.word me q=some (st,sm)->∃g' bs es me' st' sm' d' lo',lo'<=q.cls/\Z5 x.m bs/\Qc P x.t m g (Zc st) (Qp sm)=.go g' (Zc st') (Qp sm') es bs/\LP.word me' q=some (st',sm')/\me.cls<=me'.cls/\me'.rels=me.rels /\
    me.isOwn=me'.isOwn/\(me.isOwn=true->me'=me)/\(∀e∈es,GD x.m e)/\deafBehind d es=d'/\(sm'=sm\/sm'=0\/mayWake P g=true)/\X m g' (U.lk d' b D x s me' lo')):QC P t N X m g U
 |mblk {m g U b D x s lo d} (hs:g.status=.running) (ho:g.offers=none) (ht:U.tok=⟨d,.wrk b D,some (.lok x s .wai lo)⟩)
   (h0:∀st,∃bs,Z5 x.m bs/\Qc P x.t m g st (Qp 0)=.blocked { g with status:=.blocked } st (Qp 0) bs)
   (h1:∃g' bs,Z5 x.m bs/\Qc P x.t m g (Zc 2) (Qp 1)=.go g' (Zc 2) (Qp 0) #[Z0 .disable,Jc x.m 1,QA x.m 1,Z0 .enable] bs/\X m g' (U.lk d b D x s .wok 2)):QC P t N X m g U
 |macq {m g U b D x s lo bs g'} (hs:g.status=.running) (ht:U.tok=⟨0,.wrk b D,some (.lok x s .got lo)⟩) (hbs:Z5 x.m bs)
   (h:∀st sm,Qc P x.t m g st sm=.go g' st sm #[Z0 (.acquire ⟨x.m,0,none⟩)] bs)
   (k:∀v M,(x.sp (if s then v else false) (if s then false else v)) M->X m g' { U with M:=U.M++M,tok:=⟨0,.wrk b D,some (.lok x s (.own v) lo)⟩ }):QC P t N X m g U
 |mrel {m g U b D x s lo v bs g' M₁ M₂} (hs:g.status=.running) (ht:U.tok=⟨0,.wrk b D,some (.lok x s (.own v) lo)⟩) (hbs:Z5 x.m bs) (hM:U.M=M₁++M₂) (hD:x.sp (if s then v else true) (if s then true else v) M₁)
   (h:∀st sm,Qc P x.t m g st sm=.go g' st sm #[Z0 (.releaseMerge ⟨x.m,0,none⟩)] bs)
   (k:X m g' { U with M:=M₂,tok:=⟨0,.wrk b D,some (.lok x s .rls lo)⟩ }):QC P t N X m g U
 |go {mu mu' mc m g U b ds D Up Uc g' c} (hs:g.status=.running) (ht:U.tok=⟨0,.par b ds true .run,mu⟩) (h:Qc P t m g undef undef=.spawn g' c #[]) (hf:Hz U Up Uc)
   (hp:Up.tok=⟨0,.par b (D::ds) false .run,mu'⟩) (hc:Uc.tok=⟨0,.wrk b D,mc⟩) (hmu:Yv mu mu' mc) (k:X m g' Up) (k':X false c Uc):QC P t N X m g U
 |lay {mu m g U b D bs g'} (hs:g.status=.running) (ht:U.tok=⟨0,.wrk b D,mu⟩) (hmu:mu=none\/∃x s lo,mu=some (.lok x s .fin lo)) (hD:D U.M) (hbs:Z5 b bs)
   (h:∀st sm,Qc P t m g st sm=.go g' st sm #[Z0 (.releaseMerge ⟨b,0,none⟩)] bs) (k:∃n,Tl P t N b n 0 (.rel b) g'):QC P t N X m g U
def QC.mono{P:Program}{t:TypeId}{N:Nat}{X Y:QI Tk}(f:∀m g U,X m g U->Y m g U){m:Bool}{g:Gr}{U:Qa Tk}(h:QC P t N X m g U):QC P t N Y m g U:=by
 cases h with
 |quiet z hb h w k=>exact .quiet z hb h w (f _ _ _ k)
 |dis z ht h w k=>exact .dis z ht h w (f _ _ _ k)
 |ena z ht h w k=>exact .ena z ht h w (f _ _ _ k)
 |add z ht L h=>exact .add z ht L λ c G=>let ⟨g',bs,a,b,k⟩:=h c G;⟨g',bs,a,b,f _ _ _ k⟩
 |said z ht h w k=>exact .said z ht h w (f _ _ _ k)
 |look z ht Q h=>exact .look z ht Q λ c G=>let ⟨g',bs,a,k⟩:=h c G;⟨g',bs,a,k.imp (λ x=>⟨x.1,x.2.imp (f _ _ _) λ y=>⟨y.1,f _ _ _ y.2⟩⟩) λ x=>⟨x.1,x.2.1,f _ _ _ x.2.2⟩⟩
 |sema z K ht I h1=>exact .sema z K ht I (let ⟨g',bs,a,b,k⟩:=h1;⟨g',bs,a,b,f _ _ _ k⟩)
 |look2 z ht w h k=>exact .look2 z ht w h (f _ _ _ k)
 |acq z ht w h k=>exact .acq z ht w h λ H B=>f _ _ _ (k H B)
 |acqM z ht w h k=>exact .acqM z ht w h λ H M B hx=>f _ _ _ (k H M B hx)
 |makeM ht B F k=>exact .makeM ht B F (f _ _ _ k)
 |mu z ht h=>exact .mu z ht λ q st sm T V=>let ⟨g',bs,es,me',st',sm',d',lo',a0,a1,a2,a3,a4,a5,a6,a7,a8,a9,a10,k⟩:=h q st sm T V;⟨g',bs,es,me',st',sm',d',lo',a0,a1,a2,a3,a4,a5,a6,a7,a8,a9,a10,f _ _ _ k⟩
 |mblk z K ht I h1=>exact .mblk z K ht I (let ⟨g',bs,a,b,k⟩:=h1;⟨g',bs,a,b,f _ _ _ k⟩)
 |macq z ht w h k=>exact .macq z ht w h λ v M B=>f _ _ _ (k v M B)
 |mrel z ht w B F h k=>exact .mrel z ht w B F h (f _ _ _ k)
 |make ht B k=>exact .make ht B (f _ _ _ k)
 |go z ht h hf S G E k k'=>exact .go z ht h hf S G E (f _ _ _ k) (f _ _ _ k')
 |lay z ht E F w h k=>exact .lay z ht E F w h k
def Za(P:Program)(t:TypeId)(N:Nat):Sys P Tk:=⟨QC P t N,λ h _ _ _ k=>k.mono h⟩
end Go.TM
namespace Go.TM
open Go.Conc
def JU(n:Nat)(rk:Nat->Option Tr):List Tr:=(range n).filterMap rk
def P8(n:Nat)(rk:Nat->Option Tr):JU (n+1) rk=JU n rk++(rk n).toList:=by
 simp only[JU,range_succ,filterMap_append];cases h:rk n <;> simp[h]
def ET{n:Nat}{rk rk':Nat->Option Tr}(h:∀i,i<n->rk i=rk' i):JU n rk=JU n rk':=by
 induction n with
 |zero=>rfl
 |succ n b=>rw[P8,P8,b λ i f=>h i O1,h n O1]
def OF{n i:Nat}(rk:Nat->Option Tr)(x:Option Tr)(f:i<n):(JU n (Zp rk i x)).Perm (x.toList++JU n (Zp rk i none)):=by
 induction n with
 |zero=>omega
 |succ n b=>
  rw[P8,P8];by_cases e:i=n
  .subst e;rw[Qk,Qk,ET (rk:=Zp rk i x) (rk':=Zp rk i none) λ j h=>by rw[Qu _ _ O1,Qu _ _ O1]];simp only[Option.toList_none,append_nil];exact perm_append_comm
  .rw[Qu _ _ O1,Qu _ _ O1];have:=(b O1).append_right (rk n).toList
   rwa [append_assoc]at this
def Dw{n i:Nat}{rk:Nat->Option Tr}{r:Tr}(b:i<n)(f:rk i=some r):(JU n rk).Perm (r::JU n (Zp rk i none)):=by
 have:=OF rk (some r) b;have e:Zp rk i (some r)=rk:=by funext j;by_cases e:j=i <;> simp[Zp,e,f]
 rwa [e]at this
def kC{n i:Nat}{rk:Nat->Option Tr}{r:Tr}{x:Option Tr}(b:i<n)(w:rk i=some r)(hx:∀f,x=some f->Tr.Sub f r):ZN (JU n (Zp rk i x)) (JU n rk):=
 ⟨r,JU n (Zp rk i none),x.toList,Dw b w,OF rk x b,λ c h=>hx c (by simpa[Option.mem_toList]using h)⟩
def kD{n i:Nat}{rk:Nat->Option Tr}{r b f:Tr}(h:i<n)(w:rk i=some r)(h1:Tr.Sub b r)(h2:Tr.Sub f r):ZN (JU (n+1) (Zp (Zp rk i (some b)) n (some f))) (JU n rk):=by
 refine⟨r,JU n (Zp rk i none),[f,b],Dw h w,?_,by simp[h1,h2]⟩;rw[P8,Qk,ET (rk:=Zp (Zp rk i (some b)) n (some f)) (rk':=Zp rk i (some b)) λ j z=>Qu _ _ O1];have:=OF rk (some b) h;simp only[Option.toList_some]at this ⊢;refine(perm_append_comm).trans ?_;exact(this.cons f)
def ZL(p:Ph):Prop:=∃b D,p=.wrk b D
def Z1(V:Hd->Qa Tk)(i:Nat):Ph:=if i=0 then .out else(V (.run i)).tok.ph
def ZH:Qa Tk:=Qa.bare ⟨0,.out,none⟩
def Q2(V:Hd->Qa Tk)(i:Nat):Option ZO:=(V (.run i)).tok.mu
def Jv(V:Hd->Qa Tk):Option Nat:=ZO.mb (Q2 V 0)
structure WX(gs:Array Gr)(w:World)(V:Hd->Qa Tk)(x:QW)(u:Bool->Bool)(lp:Bool->LP)(st sm:Nat):Prop where
 sh:Sh x.m x.t (Zc st) (Qp sm) w
 word:LZ lp=some (st,sm)
 tk:∀i x' s me lo,Q2 V i=some (.lok x' s me lo)->x'=x/\me=lp s/\lo<=(lp (!s)).cls/\u s=true
 one:∀i j s x_1 m_1 l₁ x_2 m_2 l₂,Q2 V i=some (.lok x_1 s m_1 l₁)->Q2 V j=some (.lok x_2 s m_2 l₂)->i=j
 who:∀s,u s=true->lp s=.fin\/∃i me lo,Q2 V i=some (.lok x s me lo)
 idle:∀s,u s=false->lp s=.idle
 dep:((lp false).isOwn|| (lp true).isOwn)=true->V .lck=ZH
 dep':((lp false).isOwn|| (lp true).isOwn)=false->x.dep lp (V .lck).M
 slp:∀i x' s me lo g,Q2 V i=some (.lok x' s me lo)->gs[i]?=some g->g.status≠.running->sm=0
def JH(gs:Array Gr)(w:World)(V:Hd->Qa Tk):Prop:=
 (∀i x u,i≠0->Q2 V i≠some (.par x u))/\(V .lck).I=(λ _=>none) /\
 match Q2 V 0 with
 |none=>(∀i,Q2 V i=none)/\V .lck=ZH
 |some (.par x u)=>(∀j,QJ x.m (V j))/\∃b st sm,WX gs w V x u b st sm
 |some (.lok ..)=>False
def WX.at{gs f:Array Gr}{w w':World}{V V':Hd->Qa Tk}{x:QW}{u:Bool->Bool}{K:Bool->LP}{st sm:Nat}(h:WX gs w V x u K st sm)(z:∀i,Q2 V' i=Q2 V i)(hm:V' .lck=V .lck)
  (E:Sh x.m x.t (Zc st) (Qp sm) w') (B:∀i b s me lo g',Q2 V i=some (.lok b s me lo)->f[i]?=some g'->g'.status≠.running->∃g,gs[i]?=some g/\g.status≠.running):WX f w' V' x u K st sm:=by
 refine⟨E,h.word,λ i b s me lo e=>h.tk i b s me lo (by rw[<- z];exact e),λ i j s H F l₁ I G l₂ e e'=>h.one i j s H F l₁ I G l₂ (by rw[<- z];exact e) (by rw[<- z];exact e'),λ s N=>(h.who s N).imp id λ⟨i,me,lo,e⟩=>⟨i,me,lo,by rw[z];exact e⟩,h.idle,λ e=>by rw[hm];exact h.dep e,λ e=>by rw[hm];exact h.dep' e,λ i b s me lo g' e L M=>?_⟩;rw[z]at e;obtain⟨g,h1,h2⟩:=B i b s me lo g' e L M;exact h.slp i b s me lo g e h1 h2
def JH.at{gs f:Array Gr}{w w':World}{V V':Hd->Qa Tk}(h:JH gs w V)(B:∀i,Q2 V' i=Q2 V i)(hm:V' .lck=V .lck)(z:∀m,(∀j,QJ m (V j))->m<w.heap.size->∀j,QJ m (V' j))
  (F:∀m t st sm,(∀j,QJ m (V j))->Sh m t (Zc st) (Qp sm) w->Sh m t (Zc st) (Qp sm) w')
  (E:∀i K s me lo g',Q2 V i=some (.lok K s me lo)->f[i]?=some g'->g'.status≠.running->∃g,gs[i]?=some g/\g.status≠.running):JH f w' V':=by
 obtain⟨h1,h2,b⟩:=h;refine⟨λ i x u H=>by rw[B];exact h1 i x u H,by rw[hm];exact h2,?_⟩;rw[B];cases e:Q2 V 0 with
 |none=>rw[e]at b;exact⟨λ i=>by rw[B];exact b.1 i,by rw[hm];exact b.2⟩
 |some mu=>
  rw[e]at b;cases mu with
  |lok=>exact b
  |par x u=>
   obtain⟨G,I,st,sm,h5⟩:=b;exact⟨z _ G (Array.getElem?_eq_some_iff.1 h5.sh).1,I,st,sm,h5.at B hm (F _ _ _ _ G h5.sh) E⟩
def Uq(i:Nat)(tk:Tk):Prop:=(i=0/\∃b ds mu,tk=⟨1,.par b ds false .wait,mu⟩)\/∃d b D x s lo,tk=⟨d,.wrk b D,some (.lok x s .wai lo)⟩
def QH(t:TypeId)(N:Nat)(gs:Array Gr)(w:World)(V:Hd->Qa Tk)(rel:Nat->Option Nat):Prop:=
 match(V (.run 0)).tok.ph with
 |.out=>(∀i,i≠0->(V (.run i)).tok.ph=.out)/\∀i,rel i=none
 |.par b ds pend k=>(∀j,QJ b (V j))/\∃W c wt s,Sh b t (Q0 c wt) (Qp s) w/\GI N b ds pend k (Z1 V) rel (λ i=>(V (.dep i)).M) W c wt s/\(∀g,gs[0]?=some g->g.status≠.running->s=0)
 |_=>False
structure MI(P:Program)(t:TypeId)(N:Nat)(Stop:QI Tk)(ex:Option Nat)(gs:Array Gr)(w:World)(tr:Trace)(V:Hd->Qa Tk)(rk:Nat->Option Tr)(rel:Nat->Option Nat)(q:Nat->Nat):Prop where
 live:∀i r,ex≠some i->rk i=some r->∃g,JR (Za P t N) Stop r (i==0) g (V (.run i)) /\
  (gs[i]?=some g\/(gs[i]?=some { g with status:=.blocked }/\g.offers=none/\Uq i (V (.run i)).tok))
 root:rk 0≠none
 gone:∀i g,rk i=none->gs[i]?=some g->(V (.run i)).tok.ph=.out->QuitsD P (q i) (Deaf tr i) g
 tail:∀i,rk i=none->(V (.run i)).tok.ph≠.out->∃g b,gs[i]?=some g/\(V (.run 0)).tok.ph.blk=some b/\Tl P t N b (q i) (Deaf tr i) (V (.run i)).tok.ph g
 above:∀i,gs.size<=i->rk i=none/\Deaf tr i=0/\rel i=none
 bare:∀i,rk i=none->(V (.run i)).I=(λ _=>none)/\(V (.run i)).M=[]
 wk:∀i,i≠0->rk i≠none->ZL (V (.run i)).tok.ph
 wk':∀i,ZL (V (.run i)).tok.ph->rk i≠none
 deaf:∀i,rk i≠none->Deaf tr i=(V (.run i)).tok.d
 deps:∀i,rel i=none->V (.dep i)=ZH
 vi:VI V w
 ti:∃rm,TI (λ k=>(V k).canW) (λ k=>(V k).canR) rel (V (.run 0)).tok.ph.blk (Jv V) rm (λ i=>i=0\/(V (.run i)).tok.ph≠.out) (λ i=>ZL (V (.run i)).tok.ph) w.heap.size tr
 grp:QH t N gs w V rel
 mux:JH gs w V
 bareM:∀i,rk i=none->Q2 V i=none
section
variable{P:Program}{t:TypeId}{N:Nat}{Stop:QI Tk}{gs:Array Gr}{w:World}{tr:Trace}{V:Hd->Qa Tk}{rk:Nat->Option Tr}{rel:Nat->Option Nat}{q:Nat->Nat}
def JR.running(f:∀m g U,Stop m g U->g.status=.running):∀{r:Tr}{m:Bool}{g:Gr}{U:Qa Tk},JR (Za P t N) Stop r m g U->g.status=.running:=by
 intro r
 induction r using Tr.sub_wf.induction with
 |_ r B=>
  intro m g U h;obtain⟨E,_,h|h|h⟩:=h.step
  .exact f _ _ _ h
  .exact h.1
  .have h:QC P t N _ m g E:=h;cases h with
   |make ht F k=>obtain⟨z,w,k⟩:=k;exact B z w k
   |makeM ht F G k=>obtain⟨z,w,k⟩:=k;exact B z w k
   |quiet b|dis b|ena b|add b|said b|look b|sema b|look2 b|acq b|acqM b|go b|lay b|mu b|mblk b|macq b|mrel b=>exact b
def Wc{g g' h:Gr}{w':World}(b:h.status=.running):woken P g g' w' h=h:=by
 unfold woken;split
 .simp[Goroutine.again,b]
 .rfl
def xR{g g' h:Gr}{w':World}(f:h.status=.running)(b:h.offers=none):woken P g g' w' { h with status:=.blocked }=h\/woken P g g' w' { h with status:=.blocked }={ h with status:=.blocked }:=by
 unfold woken;split
 .exact .inl (again_blocked f b w')
 .exact .inr rfl
def behind(P:Program)(gs:Array Gr)(i:Nat)(g g':Gr)(w':World):Array Gr:=(gs.map (woken P g g' w')).setIfInBounds i g'
def Wi{i:Nat}{g g':Gr}{w':World}(b:gs[i]?=some g):(behind P gs i g g' w')[i]?=some g':=by
 have:=(Array.getElem?_eq_some_iff.1 b).1;simp[behind,this]
def J3{i j:Nat}{g g':Gr}{w':World}(h:j≠i):(behind P gs i g g' w')[j]?=(gs[j]?).map (woken P g g' w'):=by
 simp only[behind];rw[Array.getElem?_setIfInBounds_ne (Ne.symm h),Array.getElem?_map]
def Jl{i:Nat}{g g':Gr}{w':World}:(behind P gs i g g' w').size=gs.size:=by simp[behind]
def Tl.running{b:Nat}:∀{n d:Nat}{p:Ph}{g:Gr},Tl P t N b n d p g->g.status=.running
 |0,_,_,_,h=>h.elim
 |_+1,_,_,_,h=>h.1
def MI.go{i:Nat}(h:MI P t N Stop (some i) gs w tr V rk rel q)(Q:∀m g U,Stop m g U->g.status=.running){g g':Gr}{w':World}{es:Array Event}{V':Hd->Qa Tk}{rk':Nat->Option Tr}{rel':Nat->Option Nat}{q':Nat->Nat}
  (hi:gs[i]?=some g) (G:∀j,j≠i->V' (.run j)=V (.run j)) (E:∀j,j≠i->rk' j=rk j) (hq:∀j,j≠i->q' j=q j) (ad:∀j,j≠i->rel' j=rel j\/rel' j=none) (W:rk' 0≠none)
  (B:i≠0\/(V' (.run 0)).tok.ph.blk=(V (.run 0)).tok.ph.blk\/∀j,j≠0->(V (.run j)).tok.ph=.out)
  (F:∀r,rk' i=some r->JR (Za P t N) Stop r (i==0) g' (V' (.run i))/\deafBehind (Deaf tr i) es=(V' (.run i)).tok.d/\(i≠0->ZL (V' (.run i)).tok.ph))
  (f:rk' i=none->i≠0/\(V' (.run i)).I=(λ _=>none)/\(V' (.run i)).M=[]/\¬ZL (V' (.run i)).tok.ph /\
   (((V' (.run i)).tok.ph=.out/\QuitsD P (q' i) (deafBehind (Deaf tr i) es) g')\/((V' (.run i)).tok.ph≠.out/\∃b,(V (.run 0)).tok.ph.blk=some b/\Tl P t N b (q' i) (deafBehind (Deaf tr i) es) (V' (.run i)).tok.ph g')))
  (S:∀j,rel' j=none->V' (.dep j)=ZH) (af:VI V' w')
  (ae:∃rm,TI (λ k=>(V' k).canW) (λ k=>(V' k).canR) rel' (V' (.run 0)).tok.ph.blk (Jv V') rm (λ i=>i=0\/(V' (.run i)).tok.ph≠.out) (λ i=>ZL (V' (.run i)).tok.ph) w'.heap.size (tr++MemOp.ofEvents i g.frame.fn g.frame.place es))
  (Y:QH t N (behind P gs i g g' w') w' V' rel') (Z:JH (behind P gs i g g' w') w' V') (ab:rk' i=none->Q2 V' i=none) :
  MI P t N Stop none (behind P gs i g g' w') w' (tr++MemOp.ofEvents i g.frame.fn g.frame.place es) V' rk' rel' q':=by
 have ag:=(Array.getElem?_eq_some_iff.1 hi).1
 have hD:∀j,j≠i->Deaf (tr++MemOp.ofEvents i g.frame.fn g.frame.place es) j=Deaf tr j:=by
  intro j H;refine Deaf_other tr (Ne.symm H) _ ?_;intro op ac;obtain⟨e,_,rfl⟩:=Go.Conc.mem_ofEvents ac;rfl
 have L:Deaf (tr++MemOp.ofEvents i g.frame.fn g.frame.place es) i=deafBehind (Deaf tr i) es:=Deaf_own ..;refine⟨?_,W,?_,?_,?_,?_,?_,?_,?_,S,af,ae,Y,Z,λ j H=>?_⟩
 .intro j r _ z;by_cases e:j=i
  .subst e;exact⟨g',(F r z).1,.inl (Wi hi)⟩
  .rw[E j e]at z;obtain⟨aa,hJ,X⟩:=h.live j r (λ e'=>e (Option.some.inj e').symm) z;have K:=hJ.running Q;rw[G j e];refine⟨aa,hJ,?_⟩;rw[J3 e];rcases X with X|⟨X,ho,hb⟩
   .exact .inl (by rw[X,Option.map_some,Wc K])
   .rw[X,Option.map_some];rcases xR (P:=P) (g:=g) (g':=g') (w':=w') K ho with e|e
    .exact .inl (by rw[e])
    .exact .inr ⟨by rw[e],ho,hb⟩
 .intro j x z hx hp;by_cases e:j=i
  .subst e;rw[Wi hi]at hx;cases hx;rw[L];rcases(f z).2.2.2.2 with⟨_,h1⟩|⟨h1,_⟩
   .exact h1
   .exact absurd hp h1
  .rw[J3 e]at hx;obtain⟨y,hy,rfl⟩:=Option.map_eq_some_iff.1 hx;rw[E j e]at z;rw[G j e]at hp;have:=h.gone j y z hy hp;rw[woken_quitsD this,hD j e,hq j e];exact this
 .intro j z hp;by_cases e:j=i
  .subst e;rcases(f z).2.2.2.2 with⟨h1,_⟩|⟨_,b,hb,h1⟩
   .exact absurd h1 hp
   .refine⟨g',b,Wi hi,?_,by rw[L];exact h1⟩;rw[G 0 (Ne.symm (f z).1)];exact hb
  .rw[E j e]at z;rw[G j e]at hp;obtain⟨y,b,hy,hb,ht⟩:=h.tail j z hp;refine⟨y,b,?_,?_,?_⟩
   .rw[J3 e,hy,Option.map_some,Wc ht.running]
   .by_cases e0:i=0
    .subst e0;rcases B with B|B|B
     .exact absurd rfl B
     .rw[B];exact hb
     .exact absurd (B j e) hp
    .rw[G 0 (Ne.symm e0)];exact hb
   .rw[hD j e,hq j e,G j e];exact ht
 .intro j H;rw[Jl]at H;have e:j≠i:=O1
  rw[E j e,hD j e];obtain⟨a1,a2,a3⟩:=h.above j H;exact⟨a1,a2,(ad j e).elim (λ x=>x.trans a3) id⟩
 .intro j z;by_cases e:j=i
  .subst e;exact⟨(f z).2.1,(f z).2.2.1⟩
  .rw[G j e];rw[E j e]at z;exact h.bare j z
 .intro j h0 z;by_cases e:j=i
  .subst e;obtain⟨r,T⟩:=Option.ne_none_iff_exists'.1 z;exact(F r T).2.2 h0
  .rw[G j e];rw[E j e]at z;exact h.wk j h0 z
 .intro j hw;by_cases e:j=i
  .subst e;intro z;exact(f z).2.2.2.1 hw
  .rw[G j e]at hw;rw[E j e];exact h.wk' j hw
 .intro j z;by_cases e:j=i
  .subst e;obtain⟨r,T⟩:=Option.ne_none_iff_exists'.1 z;rw[L];exact(F r T).2.1
  .rw[G j e,hD j e];rw[E j e]at z;exact h.deaf j z
 .by_cases e:j=i
  .subst e;exact ab H
  .unfold Q2;rw[G j e];rw[E j e]at H;exact h.bareM j H
end
def WQ:Nat->(Nat->Nat)->Nat
 |0,_=>0
 |n+1,f=>WQ n f+f n
def Ij{f b:Nat->Nat}:∀{n:Nat},(∀j,j<n->b j=f j)->WQ n b=WQ n f
 |0,_=>rfl
 |n+1,h=>by simp only[WQ,Ij (n:=n) λ j w=>h j O1,h n O1]
def Ug{f b:Nat->Nat}{i:Nat}:∀{n:Nat},i<n->(∀j,j<n->j≠i->b j=f j)->b i<f i->WQ n b<WQ n f
 |0,w,_,_=>O1
 |n+1,w,h,hl=>by
  by_cases e:i=n
  .subst e;simp only[WQ];rw[Ij (n:=i) λ j z=>h j O1 O1];omega
  .have:=Ug (n:=n) O1 (λ j z B=>h j O1 B) hl;simp only[WQ,h n O1 O1];omega
def left(rk:Nat->Option Tr)(q:Nat->Nat)(i:Nat):Nat:=if(rk i).isSome then 0 else q i
def LF{f:Nat->Nat}(h:∀j,f j<=1):∀n,WQ n f<=n
 |0=>Nat.le_refl _
 |n+1=>by have:=LF h n;have:=h n;simp only[WQ];omega
def Hx(gs:Array Gr)(i:Nat):Nat:=if(gs[i]?).any (·.status==.running)then 1 else 0
def yx(gs:Array Gr)(i:Nat):Hx gs i<=1:=by unfold Hx;split <;> omega
def Uk(gs:Array Gr):Nat:=WQ gs.size (Hx gs)
def vD(gs:Array Gr):Uk gs<=gs.size:=LF (yx gs) _
def QD(gs:Array Gr)(rk:Nat->Option Tr)(q:Nat->Nat):List Tr×Nat:=(JU gs.size rk,(gs.size+1)*WQ gs.size (left rk q)+Uk gs)
def IB{gs b:Array Gr}{rk:Nat->Option Tr}{q q':Nat->Nat}{i:Nat}(E:b.size=gs.size)(h:i<gs.size)(B:rk i=none)(z:∀j,j≠i->q' j=q j)(hl:q' i<q i):JA (QD b rk q') (QD gs rk q):=by
 unfold QD;rw[E];refine JA.num ?_;have h1:WQ gs.size (left rk q')<WQ gs.size (left rk q):=Ug h (λ j _ w=>by simp[left,z j w]) (by simp[left,B,hl]);have h2:=vD b;have f:=Nat.mul_le_mul_left (gs.size+1) h1;rw[Nat.mul_succ]at f;omega
def jB{gs:Array Gr}{rk:Nat->Option Tr}{q:Nat->Nat}{i:Nat}{g g':Gr}(h:gs[i]?=some g)(z:g.status=.running)(hb:g'.status=.blocked):JA (QD (gs.setIfInBounds i g') rk q) (QD gs rk q):=by
 have b:=(Array.getElem?_eq_some_iff.1 h).1;unfold QD;have f:(gs.setIfInBounds i g').size=gs.size:=S1
 rw[f];refine JA.num (Nat.add_lt_add_left ?_ _);unfold Uk;rw[f];refine Ug b (λ j _ w=>?_) ?_
 .unfold Hx;rw[Array.getElem?_setIfInBounds_ne (Ne.symm w)]
 .have h1:Hx gs i=1:=by unfold Hx;rw[h];simp[z]
  have h2:Hx (gs.setIfInBounds i g') i=0:=by unfold Hx;simp[b,hb]
  omega
section
variable{W R W' R':Hd->Loc->Prop}{rel:Nat->Option Nat}{blk mb rm:Option Nat}{act wk:Nat->Prop}{size size' i:Nat}{t:Trace}{fn:FuncId}{pos:String}{es:Array Event}
def TI.events(h:TI W R rel blk mb rm act wk size t)(I:size<=size')(z:∀e∈es,(MemAct.ofEvent e).low size')(H:∀e∈es,∀a,MemAct.ofEvent e≠.mark (.release a))
  (E:∀j a,touchAt t j=some a->∀e∈es,∀b,(MemAct.ofEvent e).touch?=some b->∀said,a.conflicts said b->Knows t i j)
  (L:∀k l,W' k l->W k l\/(k=.run i/\Loc.newN size l)) (K:∀k l,R' k l->R k l\/(k=.run i/\Loc.newN size l))
  (B:∀e∈es,∀a,(MemAct.ofEvent e).touch?=some a->∀k,k≠.run i->¬W k a.loc/\(a.write=true->¬R k a.loc))
  (G:∀e∈es,∀a,(MemAct.ofEvent e).touch?=some a->JB blk a.loc->a.kind≠.plain/\(a.kind=.said->i=0)) (F:∀e∈es,∀a,(MemAct.ofEvent e).touch?=some a->JB mb a.loc->a.kind=.atomic)
  (w:i=0\/wk i\/∀j,t.size<=j->¬(t++MemOp.ofEvents i fn pos es).counts j) :
  TI W' R' rel blk mb rm act wk size' (t++MemOp.ofEvents i fn pos es):=by
 refine h.step I ?_ ?_ ?_ ?_ L K ?_ ?_ ?_ w
 .intro op hop;obtain⟨e,_,rfl⟩:=Go.Conc.mem_ofEvents hop;rfl
 .intro op hop;obtain⟨e,f,rfl⟩:=Go.Conc.mem_ofEvents hop;exact z e f
 .intro op hop;obtain⟨e,f,rfl⟩:=Go.Conc.mem_ofEvents hop;exact H e f
 .intro j a ha op hop;obtain⟨e,f,rfl⟩:=Go.Conc.mem_ofEvents hop;exact E j a ha e f
 .intro op hop;obtain⟨e,f,rfl⟩:=Go.Conc.mem_ofEvents hop;exact B e f
 .intro op hop;obtain⟨e,f,rfl⟩:=Go.Conc.mem_ofEvents hop;exact G e f
 .intro op hop;obtain⟨e,f,rfl⟩:=Go.Conc.mem_ofEvents hop;exact F e f
def Ur(e:Event):Prop:=(MemAct.ofEvent e).touch?=none/\(∀n,(MemAct.ofEvent e).low n)/\∀a,MemAct.ofEvent e≠.mark (.release a)
def Pf{e:Event}(h:e.mute=true):Ur e:=by
 obtain⟨loc,wr,b⟩:=e;cases loc <;> simp[Event.mute]at h;rename_i m;cases m <;> simp at h <;> exact⟨rfl,λ _=>trivial,λ _ h=>by cases h⟩
def TI.dumb(h:TI W R rel blk mb rm act wk size t)(f:∀e∈es,Ur e):TI W R rel blk mb rm act wk size (t++MemOp.ofEvents i fn pos es):=by
 refine h.events (Nat.le_refl _) (λ e h=>(f e h).2.1 _) (λ e h=>(f e h).2.2) (λ j a _ e h b hb=>?_) (λ _ _=>.inl) (λ _ _=>.inl) (λ e h a ha=>?_) (λ e h a ha=>?_) (λ e h a ha=>?_) ?_
 .rw[(f e h).1]at hb;cases hb
 .rw[(f e h).1]at ha;cases ha
 .rw[(f e h).1]at ha;cases ha
 .rw[(f e h).1]at ha;cases ha
 .refine .inr (.inr λ j F B=>?_);obtain⟨x,hx,_⟩:=B;rcases Ji (t:=t) hx with⟨E,_⟩|⟨_,op,z,w,_⟩
  .omega
  .obtain⟨e,he',rfl⟩:=Go.Conc.mem_ofEvents z;rw[(f e he').1]at w;cases w
end
section
variable{V:Hd->Qa Tk}{rel:Nat->Option Nat}{blk mb rm:Option Nat}{act wk:Nat->Prop}{i:Nat}{tr:Trace}{w w':World}{fn:FuncId}{pos:String}{es:Array Event}{U':Qa Tk}
def Oa{U:Qa Tk}{e:Event}(h:JV U w e)(hl:XS w' e):Ur e \/
  ((∃x,(MemAct.ofEvent e).touch?=some x/\x.kind=.plain/\x.loc=e.loc/\(x.write=true->U.canW e.loc\/Loc.new w e.loc)/\(U.canR e.loc\/Loc.new w e.loc))/\(MemAct.ofEvent e).low w'.heap.size/\∀a,MemAct.ofEvent e≠.mark (.release a)):=by
 obtain⟨loc,wr,B⟩:=e;cases loc with
 |cell a=>
  obtain⟨h1,h2⟩:=h;simp only at h1 h2;subst h1;refine .inr ⟨⟨_,rfl,rfl,rfl,λ f=>?_,?_⟩,hl,λ _ h=>by cases h⟩
  .simp only at f;subst f;simpa using h2
  .cases wr
   .simpa using h2
   .simp only[if_true]at h2;exact h2.imp Zu id
 |obj b=>
  obtain⟨h1,h2⟩:=h;simp only at h1 h2;subst h1;have z:MemAct.ofEvent ⟨.obj b,wr,false⟩=.access ⟨.obj b,wr,false⟩:=by cases wr <;> rfl
  rw[z];refine .inr ⟨⟨_,rfl,rfl,rfl,λ f=>?_,?_⟩,hl,λ _ h=>by cases h⟩
  .simp only at f;subst f;simpa using h2
  .cases wr
   .simpa using h2
   .simp only[if_true]at h2;exact h2.imp Zu id
 |mark m=>
  have h:Mark.still m=true:=h;left;cases m <;> simp[Mark.still]at h <;> exact⟨rfl,λ _=>trivial,λ _ h=>by cases h⟩
 |output=>exact h.elim
 |goroutines=>exact h.elim
def YT{l:Loc}(h:Loc.new w l):Loc.newN w.heap.size l:=by cases l <;> exact h
def Lp(h:TI (λ k=>(V k).canW) (λ k=>(V k).canR) rel blk mb rm act wk w.heap.size tr)(M:VI V w)(hb:∀b,blk=some b->b<w.heap.size/\QJ b (V (.run i)))(hm:∀b,mb=some b->b<w.heap.size/\QJ b (V (.run i)))
  (B:∀e∈es,JV (V (.run i)) w e/\XS w' e) (S:ZQ (V (.run i)) w w' U') (Z:i=0\/wk i) :
  TI (λ k=>(Q1 V (.run i) U' k).canW) (λ k=>(Q1 V (.run i) U' k).canR) rel blk mb rm act wk w'.heap.size (tr++MemOp.ofEvents i fn pos es):=by
 have key:∀e∈es,∀x,(MemAct.ofEvent e).touch?=some x->x.kind=.plain/\(x.write=true->(V (.run i)).canW x.loc\/Loc.new w x.loc)/\((V (.run i)).canR x.loc\/Loc.new w x.loc):=by
  intro e z x hx;rcases Oa (B e z).1 (B e z).2 with F|⟨⟨y,hy,h1,h2,f,Y⟩,_⟩
  .rw[F.1]at hx;cases hx
  .rw[hy]at hx;cases hx;rw[h2];exact⟨h1,f,Y⟩
 refine h.events S.size ?_ ?_ ?_ ?_ ?_ ?_ ?_ ?_ (Z.imp id .inl)
 .intro e z;rcases Oa (B e z).1 (B e z).2 with F|⟨_,F,_⟩
  .exact F.2.1 _
  .exact F
 .intro e z;rcases Oa (B e z).1 (B e z).2 with F|⟨_,_,F⟩
  .exact F.2.2
  .exact F
 .intro j a ha e z b hb' said hc;obtain⟨h1,h2,f⟩:=key e z b hb'
  have G:¬Loc.new w a.loc:=by
   obtain⟨x,hx,W⟩:=touch_of ha;exact λ L=>IA (h.low x (Array.mem_of_getElem? hx)) W (YT L)
  obtain⟨Q,_,U,_⟩:=hc;rw[<- Q]at h2 f;refine h.known (.run i) j a ha ?_;rcases U with K|K
  .exact .inr ⟨f.resolve_right G,K⟩
  .exact .inl ((h2 K).resolve_right G)
 .intro k l hl;by_cases e:k=.run i
  .subst e;simp only[Ql]at hl;exact(S.cw l hl).imp id λ L=>⟨rfl,YT L⟩
  .simp only[Qh _ _ e]at hl;exact .inl hl
 .intro k l hl;by_cases e:k=.run i
  .subst e;simp only[Ql]at hl;exact(S.cr l hl).imp id λ L=>⟨rfl,YT L⟩
  .simp only[Qh _ _ e]at hl;exact .inl hl
 .intro e z a ha k hk;obtain⟨h1,h2,f⟩:=key e z a ha;refine⟨λ K=>?_,λ P X=>?_⟩
  .rcases f with f|f
   .exact M.sep k (.run i) _ hk K f
   .exact KQ (M.ok k) (Zu K) f
  .rcases h2 P with h2|h2
   .exact M.sep (.run i) k _ (Ne.symm hk) h2 X
   .exact KQ (M.ok k) X h2
 .intro e z a ha hib;exfalso;obtain⟨h1,h2,f⟩:=key e z a ha;obtain⟨loc,wr,kd⟩:=a;cases loc <;> simp only[JB]at hib;rename_i N;obtain⟨H,E⟩:=hib;obtain⟨T,I⟩:=hb _ H;rcases f with f|f
  .exact I N rfl E f
  .simp only[Loc.new]at f;omega
 .intro e z a ha hib;exfalso;obtain⟨h1,h2,f⟩:=key e z a ha;obtain⟨loc,wr,kd⟩:=a;cases loc <;> simp only[JB]at hib;rename_i N;obtain⟨H,E⟩:=hib;obtain⟨T,I⟩:=hm _ H;rcases f with f|f
  .exact I N rfl E f
  .simp only[Loc.new]at f;omega
def Yn(b:Nat)(parent:Bool)(e:Event):Prop:=
 Event.mute e=true\/(∃o wr,o<2/\e=⟨.cell ⟨b,o,none⟩,wr,true⟩)\/(parent=true/\∃o wr,o<2/\e=Z0 (bif wr then .write ⟨b,o,none⟩else .read ⟨b,o,none⟩))
def LD{b:Nat}(h:TI (λ k=>(V k).canW) (λ k=>(V k).canR) rel (some b) mb rm act wk w.heap.size tr)(hb:b<w.heap.size)(H:∀k,QJ b (V k))(I:act i)
  (K:∀e∈es,Yn b (i==0) e) (L:mb≠some b) (M:i=0\/wk i\/∀j,tr.size<=j->¬(tr++MemOp.ofEvents i fn pos es).counts j) :
  TI (λ k=>(V k).canW) (λ k=>(V k).canR) rel (some b) mb rm act wk w.heap.size (tr++MemOp.ofEvents i fn pos es):=by
 have key:∀e∈es,(MemAct.ofEvent e).low w.heap.size/\(∀a,MemAct.ofEvent e≠.mark (.release a))/\∀x,(MemAct.ofEvent e).touch?=some x->(∃o,o<2/\x.loc=.cell ⟨b,o,none⟩)/\(x.kind=.atomic\/(x.kind=.said/\i=0)):=by
  intro e f;rcases K e f with hm|⟨o,wr,H,rfl⟩|⟨N,o,wr,H,rfl⟩
  .have:=Pf hm;exact⟨this.2.1 _,this.2.2,λ x hx=>by rw[this.1]at hx;cases hx⟩
  .refine⟨hb,λ _ h=>(by cases h),λ x hx=>?_⟩;cases hx;exact⟨⟨o,H,rfl⟩,.inl rfl⟩
  .have z:i=0:=by simpa using N
   cases wr
   .refine⟨hb,λ _ h=>(by cases h),λ x hx=>?_⟩;cases hx;exact⟨⟨o,H,rfl⟩,.inr ⟨rfl,z⟩⟩
   .refine⟨hb,λ _ h=>(by cases h),λ x hx=>?_⟩;cases hx;exact⟨⟨o,H,rfl⟩,.inr ⟨rfl,z⟩⟩
 refine h.events (Nat.le_refl _) (λ e f=>(key e f).1) (λ e f=>(key e f).2.1) ?_ (λ _ _=>.inl) (λ _ _=>.inl) ?_ ?_ ?_ M
 .intro j a ha e f x hx said hc;obtain⟨⟨o,F,hl⟩,B⟩:=(key e f).2.2 x hx;obtain⟨h1,_,_,G⟩:=hc;have E:JB (some b) a.loc:=by rw[h1,hl];exact⟨rfl,F⟩
  rcases G with G|G|⟨_,G,h5⟩
  .exact h.grpP j a ha E G i I
  .rcases B with B|⟨B,_⟩ <;> rw[B]at G <;> cases G
  .rcases B with B|⟨_,z⟩
   .rw[B]at h5;cases h5
   .subst z;exact h.grpS j a ha E G
 .intro e f a ha k _;obtain⟨⟨o,F,hl⟩,_⟩:=(key e f).2.2 a ha;rw[hl];exact⟨λ Q=>H k _ rfl F (Zu Q),λ _ P=>H k _ rfl F P⟩
 .intro e f a ha _;obtain⟨_,B⟩:=(key e f).2.2 a ha;rcases B with B|⟨B,z⟩ <;> rw[B]
  .exact⟨λ h=>(by cases h),λ h=>(by cases h)⟩
  .exact⟨λ h=>(by cases h),λ _=>z⟩
 .intro e f a ha E;obtain⟨⟨o,F,hl⟩,_⟩:=(key e f).2.2 a ha;rw[hl]at E;exact absurd E.1 L
def om{m:Nat}(h:TI (λ k=>(V k).canW) (λ k=>(V k).canR) rel blk (some m) rm act wk w.heap.size tr)(hb:m<w.heap.size)(H:∀k,QJ m (V k))(F:act i)
  (I:∀e∈es,GD m e) (G:blk≠some m) (L:wk i) :
  TI (λ k=>(V k).canW) (λ k=>(V k).canR) rel blk (some m) rm act wk w.heap.size (tr++MemOp.ofEvents i fn pos es):=by
 have key:∀e∈es,(MemAct.ofEvent e).low w.heap.size/\(∀a,MemAct.ofEvent e≠.mark (.release a))/\∀x,(MemAct.ofEvent e).touch?=some x->(∃o,o<2/\x.loc=.cell ⟨m,o,none⟩)/\x.kind=.atomic:=by
  intro e b;rcases I e b with hm|⟨o,wr,H,rfl⟩
  .have:=Pf hm;exact⟨this.2.1 _,this.2.2,λ x hx=>by rw[this.1]at hx;cases hx⟩
  .refine⟨hb,λ _ h=>(by cases h),λ x hx=>?_⟩;cases hx;exact⟨⟨o,H,rfl⟩,rfl⟩
 refine h.events (Nat.le_refl _) (λ e b=>(key e b).1) (λ e b=>(key e b).2.1) ?_ (λ _ _=>.inl) (λ _ _=>.inl) ?_ ?_ ?_ (.inr (.inl L))
 .intro j a ha e b x hx said hc;obtain⟨⟨o,f,hl⟩,K⟩:=(key e b).2.2 x hx;obtain⟨h1,_,_,B⟩:=hc;have z:JB (some m) a.loc:=by rw[h1,hl];exact⟨rfl,f⟩
  by_cases E:a.kind=.atomic
  .exfalso;rcases B with B|B|⟨_,B,h5⟩
   .rw[E]at B;cases B
   .rw[K]at B;cases B
   .rw[K]at h5;cases h5
  .exact h.grpM j a ha z E i F
 .intro e b a ha k _;obtain⟨⟨o,f,hl⟩,_⟩:=(key e b).2.2 a ha;rw[hl];exact⟨λ N=>H k _ rfl f (Zu N),λ _ M=>H k _ rfl f M⟩
 .intro e b a ha z;obtain⟨⟨o,f,hl⟩,_⟩:=(key e b).2.2 a ha;rw[hl]at z;exact absurd z.1 G
 .intro e b a ha _;exact((key e b).2.2 a ha).2
def V_{b:Nat}(w:∀e∈es,Event.mute e=true\/∃o wr,e=⟨.cell ⟨b,o,none⟩,wr,true⟩)(H:∀j,j<es.size->deafBehind (Deaf tr i) (es.extract 0 j)≠0) :
  ∀j,tr.size<=j->¬(tr++MemOp.ofEvents i fn pos es).counts j:=by
 intro j I G;obtain⟨x,hx,_,h2⟩:=G;rcases Ji (t:=tr) hx with⟨h,_⟩|⟨_,op,z,f,F⟩
 .omega
 .obtain⟨e,he,rfl⟩:=Go.Conc.mem_ofEvents z;rcases w e he with hm|⟨o,wr,rfl⟩
  .rw[(Pf hm).1]at f;cases f
  .cases f;rcases h2 with h2|⟨g,E,h2⟩
   .exact h2 rfl
   .have hgi:g=i:=by
     simp only[Trace.g?,F,Option.map_some,Option.some.injEq]at E;exact E.symm
    subst hgi;have h:=lt_size_of_getElem? F;have B:(MemOp.ofEvents g fn pos es).size=es.size:=by rw[ofEvents_eq];simp
    rw[Array.size_append,B]at h;obtain⟨k,rfl⟩:=Nat.exists_eq_add_of_le I;rw[deaf_inside tr g fn pos es k O1]at h2;exact H k O1 h2
end
end Go.TM

