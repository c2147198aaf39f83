/- Lemmas. No conditions. -/
import Derived.Conc.Beside
import Derived.Conc.CrowdStepC
import Derived.Conc.JoinWorld
import Derived.Test.YtajkaognaiglhaaGreatDoorB00
set_option linter.all false
open List
namespace Go.TM
inductive Tr:Type 1 where
 |node (ι:Type) (f:ι->Tr)
def Tr.Sub:Tr->Tr->Prop
 |a,.node _ f=>∃i,a=f i
def Tr.sub_wf:WellFounded Tr.Sub:=by
 refine⟨λ r=>?_⟩
 induction r with
 |node ι f e=>
  refine⟨_,λ a h=>?_⟩;obtain⟨i,rfl⟩:=h;exact e i
section
variable{T:Type}{P:Program}{S:Sys P T}{Stop:QK T}
def JR(S:Sys P T)(Stop:QK T):Tr->QK T
 |.node _ f=>FJ S Stop (λ m g U=>∃i,JR S Stop (f i) m g U)
def J.rank{m:Bool}{g:Gr}{U:Qa T}(h:J S Stop m g U):∃r,JR S Stop r m g U:=by
 refine J.ind (X:=λ m g U=>∃r,JR S Stop r m g U) (λ m g U h=>?_) h;refine⟨.node { x:Bool×Gr×Qa T // ∃r,JR S Stop r x.1 x.2.1 x.2.2 } (λ x=>Classical.choose x.2),?_⟩;exact h.mono λ m g U e=>⟨⟨(m,g,U),e.1⟩,Classical.choose_spec (p:=λ r=>JR S Stop r m g U) e.1⟩
def JR.step{r:Tr}{m:Bool}{g:Gr}{U:Qa T}(h:JR S Stop r m g U):FJ S Stop (λ m g U=>∃e,Tr.Sub e r/\JR S Stop e m g U) m g U:=by
 cases r with
 |node ι f=>
  have w:FJ S Stop (λ m g U=>∃i,JR S Stop (f i) m g U) m g U:=h;exact w.mono λ m g U⟨i,z⟩=>⟨f i,⟨i,rfl⟩,z⟩
end
def ZS(e L:List Tr):Prop:=∃r B C,L.Perm (r::B)/\e.Perm (C++B)/\∀c∈C,Tr.Sub c r
def ZS.perm{K L e:List Tr}(h:ZS K L)(p:L.Perm e):ZS K e:=by
 obtain⟨r,B,C,f,w,z⟩:=h;exact⟨r,B,C,p.symm.trans f,w,z⟩
def Ee{L e:List Tr}(h:Acc ZS L)(p:L.Perm e):Acc ZS e:=⟨_,λ K f=>h.inv (f.perm p.symm)⟩
def MZ:Acc ZS []:=by
 refine⟨_,λ K h=>?_⟩;obtain⟨r,B,C,e,_⟩:=h;have:=e.length_eq;simp at this
def BB{r:Tr}(P:∀c,Tr.Sub c r->∀L,Acc ZS L->Acc ZS (c::L)):∀L,Acc ZS L->Acc ZS (r::L):=by
 intro L f
 induction f with
 |intro L e Q=>
  refine⟨_,λ K M=>?_⟩;obtain⟨x,B,C,z,G,H⟩:=M
  classical
  by_cases I:x=r
  .subst I;have E:L.Perm B:=z.cons_inv
   have key:∀C:List Tr,(∀c∈C,Tr.Sub c x)->Acc ZS (C++L):=by
    intro C
    induction C with
    |nil=>intro _;exact⟨L,e⟩
    |cons c C F=>intro w;exact P c (w c S1) _ (F λ d N=>w d (by simp[N]))
   exact Ee (key C H) ((Perm.append_left C E).trans G.symm)
  .have hm:x∈L:=by
    have:x∈r::L:=z.mem_iff.2 S1;simpa[I]using this
   have f:=perm_cons_erase hm
   have E:B.Perm (r::L.erase x):=by
    have:(x::B).Perm (x::r::L.erase x):=z.symm.trans ((f.cons r).trans (Perm.swap ..));exact this.cons_inv
   have w:ZS (C++L.erase x) L:=⟨x,L.erase x,C,f,Perm.refl _,H⟩;refine Ee (Q _ w) ?_;refine Perm.symm ?_;refine G.trans ?_;refine(Perm.append_left C E).trans ?_;exact perm_middle
def qx:WellFounded ZS:=by
 refine⟨λ L=>?_⟩
 have key:∀r:Tr,∀L,Acc ZS L->Acc ZS (r::L):=by
  intro r
  induction r using Tr.sub_wf.induction with
  |_ r e=>exact BB e
 induction L with
 |nil=>exact MZ
 |cons r L e=>exact key r L e
def JE:List Tr×Nat->List Tr×Nat->Prop:=Prod.Lex ZS (· < ·)
def Mi:WellFounded JE:=(Prod.lex ⟨ZS,qx⟩ ⟨(· < ·),Nat.lt_wfRel.wf⟩).wf
def JE.cut{L e:List Tr}{a b:Nat}(h:ZS e L):JE (e,a) (L,b):=Prod.Lex.left _ _ h
def JE.num{L:List Tr}{a b:Nat}(h:a<b):JE (L,a) (L,b):=Prod.Lex.right _ h
end Go.TM
namespace Go.TM
open Go.Conc
inductive Hd where
 |run (i:Nat)
 |dep (i:Nat)
 |lck
 deriving DecidableEq
def Kn(t:Trace)(rel:Nat->Option Nat):Hd->Nat->Prop
 |.run g,i=>Knows t g i
 |.dep g,i=>∃r,rel g=some r/\Before t i r
 |.lck,_=>True
def Loc.newN(n:Nat):Loc->Prop
 |.cell a=>n<=a.block
 |.obj b=>n<=b
 |_=>False
def JF(b:Option Nat):Loc->Prop
 |.cell a=>b=some a.block/\a.off<2
 |_=>False
def MK(act:Nat->Prop)(rm:Option Nat)(t:Trace)(i:Nat):Prop:=
 match rm with
 |none=>∀g,act g->Knows t g i
 |some r=>Before t i r
structure TI(W R:Hd->Loc->Prop)(rel:Nat->Option Nat)(blk mb rm:Option Nat)(act wk:Nat->Prop)(size:Nat)(t:Trace):Prop where
 clean:∀said,¬Race said t
 known:∀h i a,touchAt t i=some a->(W h a.loc\/(R h a.loc/\a.write=true))->Kn t rel h i
 low:∀op∈t,op.act.low size
 norel:∀i a,t.act? i≠some (.mark (.release a))
 grpP:∀i a,touchAt t i=some a->JF blk a.loc->a.kind=.plain->∀g,act g->Knows t g i
 grpS:∀i a,touchAt t i=some a->JF blk a.loc->a.kind=.said->Knows t 0 i
 relok:∀g r,rel g=some r->∃b,blk=some b/\t.act? r=some (.mark (.releaseMerge ⟨b,0,none⟩))/\t.heard r/\t.g? r=some g
 hand:∀i g,t.g? i=some g->g≠0->t.counts i->wk g\/(∃r,rel g=some r/\Before t i r)\/Knows t 0 i
 grpM:∀i a,touchAt t i=some a->JF mb a.loc->a.kind≠.atomic->∀g,act g->Knows t g i
 mutK:∀i a,touchAt t i=some a->(W .lck a.loc\/(R .lck a.loc/\a.write=true))->MK act rm t i
 mutR:∀r,rm=some r->∃m g,mb=some m/\t.act? r=some (.mark (.releaseMerge ⟨m,0,none⟩))/\t.heard r/\t.g? r=some g/\(wk g\/∃r',rel g=some r'/\Before t r r')
def MK.app{act:Nat->Prop}{rm:Option Nat}{t:Trace}{i:Nat}(u:Trace)(k:MK act rm t i):MK act rm (t++u) i:=by
 cases rm with
 |none=>exact λ g e=>(k g e).app u
 |some r=>exact Before.app u k
def MK.turn{act act':Nat->Prop}{rm:Option Nat}{t:Trace}{i:Nat}(h:∀g,act' g->act g)(k:MK act rm t i):MK act' rm t i:=by
 cases rm with
 |none=>exact λ g e=>k g (h g e)
 |some r=>exact k
def Kn.app{t:Trace}{rel:Nat->Option Nat}{h:Hd}{i:Nat}(u:Trace)(k:Kn t rel h i):Kn (t++u) rel h i:=by
 cases h with
 |run g=>exact Knows.app u k
 |dep g=>obtain⟨r,e,f⟩:=k;exact⟨r,e,f.app u⟩
 |lck=>trivial
def Dr{n:Nat}{x:MemAct}{a:Touch}(h:x.low n)(f:x.touch?=some a):¬Loc.newN n a.loc:=by
 cases x with
 |access e=>
  simp only[MemAct.touch?,Option.some.injEq]at f;subst f;obtain⟨loc,wr,w⟩:=e;cases loc <;> simp_all[MemAct.low,Loc.low,Loc.newN]
 |mark m=>cases m <;> simp_all[MemAct.touch?,MemAct.low,Loc.newN] <;> (subst f;simpa[Loc.newN]using h)
 |_=>simp[MemAct.touch?]at f
section
variable{W R W' R':Hd->Loc->Prop}{rel:Nat->Option Nat}{blk mb rm:Option Nat}{act wk:Nat->Prop}{size size' g:Nat}{t u:Trace}
def HB{i:Nat}{x:MemAct}(h:(t++u).act? i=some x):(i<t.size/\t.act? i=some x)\/(t.size<=i/\∃op∈u,op.act=x):=by
 obtain⟨op,B,e⟩:=Option.map_eq_some_iff.1 h;rcases getElem?_append_cases B with⟨f,w⟩|⟨f,z⟩
 .exact .inl ⟨f,by rw[act?_of w,e]⟩
 .exact .inr ⟨f,op,z,e⟩
def Jn{i:Nat}{a:Touch}(h:touchAt (t++u) i=some a):(i<t.size/\touchAt t i=some a)\/(t.size<=i/\∃op∈u,op.act.touch?=some a/\(t++u)[i]?=some op):=by
 obtain⟨x,B,e⟩:=touch_of h;rcases getElem?_append_cases B with⟨f,w⟩|⟨f,z⟩
 .exact .inl ⟨f,by rw[touchAt_of w,e]⟩
 .exact .inr ⟨f,x,z,e,B⟩
def TI.step(h:TI W R rel blk mb rm act wk size t)(ag:size<=size')(Y:∀op∈u,op.g=g)(T:∀op∈u,op.act.low size')(ad:∀op∈u,∀a,op.act≠.mark (.release a))
  (aa:∀i a,touchAt t i=some a->∀op∈u,∀b,op.act.touch?=some b->∀said,a.conflicts said b->Knows t g i)
  (V:∀k l,W' k l->W k l\/(k=.run g/\Loc.newN size l)) (U:∀k l,R' k l->R k l\/(k=.run g/\Loc.newN size l))
  (L:∀op∈u,∀a,op.act.touch?=some a->∀k,k≠.run g->¬W k a.loc/\(a.write=true->¬R k a.loc))
  (S:∀op∈u,∀a,op.act.touch?=some a->JF blk a.loc->a.kind≠.plain/\(a.kind=.said->g=0)) (ac:∀op∈u,∀a,op.act.touch?=some a->JF mb a.loc->a.kind=.atomic)
  (N:g=0\/wk g\/∀i,t.size<=i->¬(t++u).counts i) :
  TI W' R' rel blk mb rm act wk size' (t++u):=by
 refine⟨λ said=>noRace_append (h.clean said) Y λ i a G op f b H X=>aa i a G op f b H said X,?_,?_,?_,?_,?_,?_,?_,?_,?_,?_⟩
 .intro k i a G w;rcases Jn G with⟨E,B⟩|⟨E,op,f,z,K⟩
  .refine(h.known k i a B ?_).app u
   have hl:¬Loc.newN size a.loc:=by
    obtain⟨x,hx,ah⟩:=touch_of B;exact Dr (h.low x (Array.mem_of_getElem? hx)) ah
   rcases w with w|⟨w,P⟩
   .rcases V _ _ w with w|w
    .exact .inl w
    .exact absurd w.2 hl
   .rcases U _ _ w with w|w
    .exact .inr ⟨w,P⟩
    .exact absurd w.2 hl
  .by_cases hk:k=.run g
   .subst hk;have:=knows_own K;rw[Y op f]at this;exact this
   .have:=L op f a z k hk;rcases w with w|⟨w,P⟩
    .rcases V _ _ w with w|w
     .exact absurd w this.1
     .exact absurd w.1 hk
    .rcases U _ _ w with w|w
     .exact absurd w (this.2 P)
     .exact absurd w.1 hk
 .intro op f;rcases Array.mem_append.1 f with f|f
  .exact MemAct.low_mono ag (h.low op f)
  .exact T op f
 .intro i a e;rcases HB e with⟨_,e⟩|⟨_,op,f,z⟩
  .exact h.norel i a e
  .exact ad op f a z
 .intro i a G H hk g' hg';rcases Jn G with⟨E,B⟩|⟨E,op,f,z,K⟩
  .exact(h.grpP i a B H hk g' hg').app u
  .exact absurd hk (S op f a z H).1
 .intro i a G H hk;rcases Jn G with⟨E,B⟩|⟨E,op,f,z,K⟩
  .exact(h.grpS i a B H hk).app u
  .have:=knows_own K;rw[Y op f,(S op f a z H).2 hk]at this;exact this
 .intro g' r hr;obtain⟨b,I,M,Z,h4⟩:=h.relok g' r hr;have F:=lt_of_act? M;exact⟨b,I,by rw[act?_old F];exact M,(heard_old F).2 Z,by rw[g?_old F];exact h4⟩
 .intro i g' hg hne X;by_cases E:i<t.size
  .rw[g?_old E]at hg;rcases h.hand i g' hg hne ((counts_old E).1 X)with I|⟨r,I,M⟩|I
   .exact .inl I
   .exact .inr (.inl ⟨r,I,M.app u⟩)
   .exact .inr (.inr (I.app u))
  .have E:t.size<=i:=Nat.le_of_not_lt E
   have ab:g'=g:=by
    obtain⟨op,K,ae⟩:=Option.map_eq_some_iff.1 hg;rcases getElem?_append_cases K with⟨ai,_⟩|⟨_,af⟩
    .omega
    .rw[<- ae];exact Y op af
   subst ab;rcases N with Q|Q|Q
   .exact absurd Q hne
   .exact .inl Q
   .exact absurd X (Q i E)
 .intro i a G H hk g' hg';rcases Jn G with⟨E,B⟩|⟨E,op,f,z,K⟩
  .exact(h.grpM i a B H hk g' hg').app u
  .exact absurd (ac op f a z H) hk
 .intro i a G w;rcases Jn G with⟨E,B⟩|⟨E,op,f,z,K⟩
  .refine(h.mutK i a B ?_).app u;rcases w with w|⟨w,P⟩
   .exact .inl ((V _ _ w).resolve_right λ x=>by cases x.1)
   .exact .inr ⟨(U _ _ w).resolve_right λ x=>(by cases x.1),P⟩
  .have:=L op f a z .lck S1;rcases w with w|⟨w,P⟩
   .exact absurd ((V _ _ w).resolve_right λ x=>by cases x.1) this.1
   .exact absurd ((U _ _ w).resolve_right λ x=>by cases x.1) (this.2 P)
 .intro r hr;obtain⟨m,g',I,M,Z,h4,h5⟩:=h.mutR r hr;have F:=lt_of_act? M;exact⟨m,g',I,by rw[act?_old F];exact M,(heard_old F).2 Z,by rw[g?_old F];exact h4,h5.imp id λ⟨r',k1,k2⟩=>⟨r',k1,k2.app u⟩⟩
def TI.turn{act':Nat->Prop}(h:TI W R rel blk mb rm act wk size t)(G:∀k l,W' k l->W k l)(F:∀k l,R' k l->R k l)(f:∀g,act' g->act g):TI W' R' rel blk mb rm act' wk size t:=
 ⟨h.clean,λ k i a f E=>h.known k i a f (E.imp (G _ _) λ x=>⟨F _ _ x.1,x.2⟩),h.low,h.norel,λ i a e w z g B=>h.grpP i a e w z g (f g B),h.grpS,h.relok,h.hand,λ i a e w z g B=>h.grpM i a e w z g (f g B),λ i a e E=>(h.mutK i a e (E.imp (G _ _) λ x=>⟨F _ _ x.1,x.2⟩)).turn f,h.mutR⟩
def Xe(t:Trace)(y:MemOp):(t++#[y])[t.size]?=some y:=S1
def Gd{said:Bool}{y:MemOp}(h:¬Race said t)(w:y.act.touch?=none):¬Race said (t++#[y]):=
 noRace_append (g:=y.g) h S1 λ i a _ op e b f=>by simp at e;subst e;rw[w]at f;cases f
def Zq{i:Nat}{a:Touch}{y:MemOp}(w:y.act.touch?=none)(h:touchAt (t++#[y]) i=some a):i<t.size/\touchAt t i=some a:=by
 rcases Jn h with h|⟨_,op,f,e,_⟩
 .exact h
 .simp at f;subst f;rw[w]at e;cases e
def Gf{y:MemOp}(e:Deaf t y.g=0):(t++#[y]).heard t.size:=
 ⟨y.g,by simp[Trace.g?],by rw[deaf_old (Nat.le_refl _)];exact e⟩
def Gc{i:Nat}{y:MemOp}(B:y.act.touch?=none)(h:(t++#[y]).counts i):i<t.size/\t.counts i:=by
 obtain⟨x,f,w⟩:=h;obtain⟨e,z⟩:=Zq B f;exact⟨e,(counts_old e).1 ⟨x,f,w⟩⟩
def TI.release{b:Nat}{y:MemOp}{wk':Nat->Prop}{rel':Nat->Option Nat}(h:TI W R rel blk mb rm act wk size t)(hb:blk=some b)(U:y.act=.mark (.releaseMerge ⟨b,0,none⟩))(Y:b<size)
  (hd:Deaf t y.g=0) (hg:rel y.g=none) (f:∀k,rel' k=if k=y.g then some t.size else rel k)
  (hW:∀k l,W' k l->W k l/\k≠.dep y.g\/(k=.dep y.g/\W (.run y.g) l)) (hR:∀k l,R' k l->R k l/\k≠.dep y.g\/(k=.dep y.g/\R (.run y.g) l)) (Q:∀k,wk k->wk' k\/k=y.g) :
  TI W' R' rel' blk mb rm act wk' size (t++#[y]):=by
 have H:y.act.touch?=none:=by rw[U];rfl
 refine⟨λ said=>Gd (h.clean said) H,?_,?_,?_,?_,?_,?_,?_,?_,?_,?_⟩
 .intro k i a ha z;obtain⟨L,w⟩:=Zq H ha
  have key:k≠.dep y.g->(W k a.loc\/(R k a.loc/\a.write=true))->Kn (t++#[y]) rel' k i:=by
   intro G z;have:=(h.known k i a w z).app #[y];cases k with
   |run g'=>exact this
   |dep g'=>
    obtain⟨r,I,K⟩:=this;refine⟨r,?_,K⟩;rw[f,if_neg]
    .exact I
    .intro e;subst e;exact G rfl
   |lck=>trivial
  have M:k=.dep y.g->(W (.run y.g) a.loc\/(R (.run y.g) a.loc/\a.write=true))->Kn (t++#[y]) rel' k i:=by
   intro G hq;subst G;refine⟨t.size,by rw[f,if_pos rfl],.inr ?_⟩;exact Knows.hb_new (h.known (.run y.g) i a w hq) (Nat.le_refl _) (Xe t y) rfl
  rcases z with z|⟨z,T⟩
  .rcases hW _ _ z with⟨z,G⟩|⟨G,z⟩
   .exact key G (.inl z)
   .exact M G (.inl z)
  .rcases hR _ _ z with⟨z,G⟩|⟨G,z⟩
   .exact key G (.inr ⟨z,T⟩)
   .exact M G (.inr ⟨z,T⟩)
 .intro op F;rcases Array.mem_append.1 F with F|F
  .exact h.low op F
  .simp at F;subst F;rw[U];exact Y
 .intro i a e;rcases HB e with⟨_,e⟩|⟨_,op,F,P⟩
  .exact h.norel i a e
  .simp at F;subst F;rw[U]at P;cases P
 .intro i a ha hbl G g' hg';obtain⟨L,w⟩:=Zq H ha;exact(h.grpP i a w hbl G g' hg').app _
 .intro i a ha hbl G;obtain⟨L,w⟩:=Zq H ha;exact(h.grpS i a w hbl G).app _
 .intro g' r hr;rw[f]at hr;split at hr
  .rename_i e;subst e;cases hr;exact⟨b,hb,by rw[act?_of (Xe t y),U],Gf hd,by simp[Trace.g?]⟩
  .obtain⟨b,I,K,V,S⟩:=h.relok g' r hr;have E:=lt_of_act? K;exact⟨b,I,by rw[act?_old E];exact K,(heard_old E).2 V,by rw[g?_old E];exact S⟩
 .intro i g' hg' hne hc;obtain⟨L,Z⟩:=Gc H hc;rw[g?_old L]at hg';by_cases B:g'=y.g
  .obtain⟨op,ho,hog⟩:=Option.map_eq_some_iff.1 hg';refine .inr (.inl ⟨t.size,by rw[f,if_pos B],.inr ?_⟩);have N:(t++#[y])[i]?=some op:=by rw[getElem?_append_old L];exact ho
   exact hb_po L N (Xe t y) (hog.trans B)
  .rcases h.hand i g' hg' hne Z with I|⟨r,I,K⟩|I
   .exact(Q g' I).elim .inl λ e=>absurd e B
   .exact .inr (.inl ⟨r,by rw[f,if_neg B];exact I,K.app _⟩)
   .exact .inr (.inr (I.app _))
 .intro i a ha hbl G g' hg';obtain⟨L,w⟩:=Zq H ha;exact(h.grpM i a w hbl G g' hg').app _
 .intro i a ha z;obtain⟨L,w⟩:=Zq H ha;refine(h.mutK i a w ?_).app _;rcases z with z|⟨z,T⟩
  .exact .inl ((hW _ _ z).resolve_right λ x=>by cases x.1).1
  .exact .inr ⟨((hR _ _ z).resolve_right λ x=>by cases x.1).1,T⟩
 .intro r hr;obtain⟨m,g',I,K,V,S,X⟩:=h.mutR r hr;have E:=lt_of_act? K;refine⟨m,g',I,by rw[act?_old E];exact K,(heard_old E).2 V,by rw[g?_old E];exact S,?_⟩;by_cases B:g'=y.g
  .obtain⟨op,ho,hog⟩:=Option.map_eq_some_iff.1 S;refine .inr ⟨t.size,by rw[f,if_pos B],.inr ?_⟩;have N:(t++#[y])[r]?=some op:=by rw[getElem?_append_old E];exact ho
   exact hb_po E N (Xe t y) (hog.trans B)
  .rcases X with X|⟨r',k1,k2⟩
   .exact .inl ((Q g' X).resolve_right B)
   .exact .inr ⟨r',by rw[f,if_neg B];exact k1,k2.app _⟩
def TI.acquire{b:Nat}{y:MemOp}{act' wk':Nat->Prop}(h:TI W R rel blk mb rm act wk size t)(hb:blk=some b)(U:y.act=.mark (.acquire ⟨b,0,none⟩))(hg:y.g=0)(X:b<size)
  (hd:Deaf t 0=0) (Q:∀g,¬wk g) (V:act 0)
  (hW:∀k l,W' k l->k=.run 0/\(W (.run 0) l\/(∃g r,rel g=some r/\W (.dep g) l)\/W .lck l)) (hR:∀k l,R' k l->k=.run 0/\(R (.run 0) l\/(∃g r,rel g=some r/\R (.dep g) l)\/R .lck l)) :
  TI W' R' (λ _=>none) none none none act' wk' size (t++#[y]):=by
 have M:y.act.touch?=none:=by rw[U];rfl
 have E:=Xe t y
 have G:∀g r,rel g=some r->Knows (t++#[y]) 0 r:=by
  intro g r K;obtain⟨b',z,F,Z,h4⟩:=h.relok g r K;rw[hb]at z;cases z;have I:=lt_of_act? F;refine⟨t.size,y,E,hg,.inr (.single (.inr ⟨.marked (a:=⟨b,0,none⟩) I (.inr (by rw[act?_old I];exact F)) (by rw[act?_of E,U]) (λ k _ hk=>by rw[act?_old hk];exact h.norel k _),(heard_old I).2 Z,Gf (by rw[hg];exact hd)⟩))⟩
 have N:∀i,MK act rm t i->Knows (t++#[y]) 0 i:=by
  intro i H;cases L:rm with
  |none=>rw[L]at H;exact(H 0 V).app _
  |some r=>
   rw[L]at H;obtain⟨m,g',z,F,Z,h4,h5⟩:=h.mutR r L;obtain⟨S,k1,k2⟩:=h5.resolve_left (Q g');exact Knows.of_before (Before.app _ H) (Knows.of_before (k2.app _) (G g' S k1))
 refine⟨λ said=>Gd (h.clean said) M,?_,?_,?_,?_,?_,?_,?_,?_,?_,λ r K=>(by cases K)⟩
 .intro k i a ha f;obtain⟨H,B⟩:=Zq M ha;rcases f with f|⟨f,T⟩
  .obtain⟨rfl,f|⟨g,r,K,f⟩|f⟩:=hW _ _ f
   .exact(h.known (.run 0) i a B (.inl f)).app #[y]
   .obtain⟨S,z,F⟩:=h.known (.dep g) i a B (.inl f);exact Knows.of_before (F.app _) (G g S z)
   .exact N i (h.mutK i a B (.inl f))
  .obtain⟨rfl,f|⟨g,r,K,f⟩|f⟩:=hR _ _ f
   .exact(h.known (.run 0) i a B (.inr ⟨f,T⟩)).app #[y]
   .obtain⟨S,z,F⟩:=h.known (.dep g) i a B (.inr ⟨f,T⟩);exact Knows.of_before (F.app _) (G g S z)
   .exact N i (h.mutK i a B (.inr ⟨f,T⟩))
 .intro op w;rcases Array.mem_append.1 w with w|w
  .exact h.low op w
  .simp at w;subst w;rw[U];exact X
 .intro i a e;rcases HB e with⟨_,e⟩|⟨_,op,w,P⟩
  .exact h.norel i a e
  .simp at w;subst w;rw[U]at P;cases P
 .intro i a ha hbl;unfold JF at hbl;split at hbl
  .cases hbl.1
  .exact hbl.elim
 .intro i a ha hbl;unfold JF at hbl;split at hbl
  .cases hbl.1
  .exact hbl.elim
 .intro g' r K;cases K
 .intro i g' hg' hne hc;obtain⟨H,Y⟩:=Gc M hc;rw[g?_old H]at hg';rcases h.hand i g' hg' hne Y with z|⟨r,z,F⟩|z
  .exact absurd z (Q g')
  .exact .inr (.inr (Knows.of_before (F.app _) (G g' r z)))
  .exact .inr (.inr (z.app _))
 .intro i a ha hbl;unfold JF at hbl;split at hbl
  .cases hbl.1
  .exact hbl.elim
 .intro i a ha f;rcases f with f|⟨f,T⟩
  .cases(hW _ _ f).1
  .cases(hR _ _ f).1
def TI.fork{c:Nat}{y z:MemOp}{act' wk':Nat->Prop}(h:TI W R rel blk mb rm act wk size t)(hy:y.act=.go c)(U:y.g=0)(hz:z.act=.start)(X:z.g=c)(af:Deaf t 0=0)(ag:Deaf t c=0)(ak:c≠0)
  (L:∀g,act' g->act g\/(g=c/\act 0)) (ad:∀g,wk g->wk' g)
  (hW:∀k l,W' k l->W k l\/(k=.run c/\W (.run 0) l)) (hR:∀k l,R' k l->R k l\/(k=.run c/\R (.run 0) l)) :
  TI W' R' rel blk mb rm act' wk' size (t++#[y,z]):=by
 have e:t++#[y,z]=(t++#[y])++#[z]:=by apply Array.ext';simp
 have V:y.act.touch?=none:=by rw[hy];rfl
 have Z:z.act.touch?=none:=by rw[hz];rfl
 have ac:(t++#[y]).size=t.size+1:=S1
 have aj:(t++#[y]++#[z])[t.size]?=some y:=by rw[getElem?_append_old O1];exact Xe t y
 have Y:(t++#[y]++#[z])[t.size+1]?=some z:=by have:=Xe (t++#[y]) z;rwa [ac]at this
 have F:∀{i:Nat}{a:Touch},touchAt (t++#[y]++#[z]) i=some a->i<t.size/\touchAt t i=some a:=by
  intro i a K;exact Zq V (Zq Z K).2
 have ai:HappensBefore (t++#[y]++#[z]) t.size (t.size+1):=by
  refine .single (.inr ⟨.spawn (child:=c) (by rw[act?_of aj,hy]) (by rw[act?_of Y,hz]) (by simp only[Trace.g?,Y,Option.map_some,X]),?_,?_⟩)
  .rw[heard_old O1];exact Gf (by rw[U];exact af)
  .have:=Gf (t:=t++#[y]) (y:=z) (by rw[X,Deaf_other t (g':=0) O1 _ (by simp[U])];exact ag)
   rwa [ac]at this
 have M:∀i,Knows t 0 i->Knows (t++#[y]++#[z]) c i:=by
  intro i Q;have I:HappensBefore (t++#[y]) i t.size:=Q.hb_new (Nat.le_refl _) (Xe t y) U;exact⟨t.size+1,z,Y,X,.inr ((hb_app _ I).trans ai)⟩
 have app:∀{g i:Nat},Knows t g i->Knows (t++#[y]++#[z]) g i:=λ h=>(h.app _).app _;rw[e];refine⟨λ said=>Gd (Gd (h.clean said) V) Z,?_,?_,?_,?_,?_,?_,?_,?_,?_,?_⟩
 .intro k i a K P;obtain⟨Q,B⟩:=F K;rcases P with P|⟨P,hw⟩
  .rcases hW _ _ P with T|⟨rfl,T⟩
   .exact((h.known k i a B (.inl T)).app _).app _
   .exact M i (h.known (.run 0) i a B (.inl T))
  .rcases hR _ _ P with T|⟨rfl,T⟩
   .exact((h.known k i a B (.inr ⟨T,hw⟩)).app _).app _
   .exact M i (h.known (.run 0) i a B (.inr ⟨T,hw⟩))
 .intro op w;rcases Array.mem_append.1 w with w|w
  .rcases Array.mem_append.1 w with w|w
   .exact h.low op w
   .simp at w;subst w;rw[hy];trivial
  .simp at w;subst w;rw[hz];trivial
 .intro i a e;rcases HB e with⟨_,e⟩|⟨_,op,w,N⟩
  .rcases HB e with⟨_,e⟩|⟨_,op,w,N⟩
   .exact h.norel i a e
   .simp at w;subst w;rw[hy]at N;cases N
  .simp at w;subst w;rw[hz]at N;cases N
 .intro i a K hbl H g' f;obtain⟨Q,B⟩:=F K;rcases L g' f with f|⟨rfl,f⟩
  .exact app (h.grpP i a B hbl H g' f)
  .exact M i (h.grpP i a B hbl H 0 f)
 .intro i a K hbl H;obtain⟨Q,B⟩:=F K;exact app (h.grpS i a B hbl H)
 .intro g' r hr;obtain⟨b,I,S,h3,h4⟩:=h.relok g' r hr;have G:=lt_of_act? S;have E:r<(t++#[y]).size:=O1
  exact⟨b,I,by rw[act?_old E,act?_old G];exact S,(heard_old E).2 ((heard_old G).2 h3),by rw[g?_old E,g?_old G];exact h4⟩
 .intro i g' f hne hc;obtain⟨ah,ae⟩:=Gc Z hc;obtain⟨Q,aa⟩:=Gc V ae;rw[g?_old ah,g?_old Q]at f;rcases h.hand i g' f hne aa with I|⟨r,I,S⟩|I
  .exact .inl (ad _ I)
  .exact .inr (.inl ⟨r,I,(S.app _).app _⟩)
  .exact .inr (.inr (app I))
 .intro i a K hbl H g' f;obtain⟨Q,B⟩:=F K;rcases L g' f with f|⟨rfl,f⟩
  .exact app (h.grpM i a B hbl H g' f)
  .exact M i (h.grpM i a B hbl H 0 f)
 .intro i a K P;obtain⟨Q,B⟩:=F K
  have H:=h.mutK i a B (by
   rcases P with P|⟨P,hw⟩
   .exact .inl ((hW _ _ P).resolve_right λ x=>by cases x.1)
   .exact .inr ⟨(hR _ _ P).resolve_right λ x=>(by cases x.1),hw⟩)
  cases ab:rm with
  |none=>
   rw[ab]at H;intro g' f;rcases L g' f with f|⟨rfl,f⟩
   .exact app (H g' f)
   .exact M i (H 0 f)
  |some r=>rw[ab]at H;exact Before.app _ (Before.app _ H)
 .intro r hr;obtain⟨m,g',I,S,h3,h4,h5⟩:=h.mutR r hr;have G:=lt_of_act? S;have E:r<(t++#[y]).size:=O1
  exact⟨m,g',I,by rw[act?_old E,act?_old G];exact S,(heard_old E).2 ((heard_old G).2 h3),by rw[g?_old E,g?_old G];exact h4,h5.imp (ad _) λ⟨r',k1,k2⟩=>⟨r',k1,(k2.app _).app _⟩⟩
def TI.create{b:Nat}(h:TI W R rel none mb rm act wk size t)(G:∀l,¬W' .lck l)(F:∀l,¬R' .lck l)(w:∀g,rel g=none)(H:∀a:Addr,a.block=b->a.off<2->W (.run 0) (.cell a))(K:∀k l,W' k l->W k l)(I:∀k l,R' k l->R k l) :
  TI W' R' rel (some b) none none (·=0) wk size t:=by
 refine⟨h.clean,λ k i a e f=>h.known k i a e (f.imp (K _ _) λ x=>⟨I _ _ x.1,x.2⟩),h.low,h.norel,?_,?_,λ g r z=>(by rw[w]at z;cases z),h.hand,?_,?_,λ r z=>(by cases z)⟩
 .intro i a e hbl _ g hg;obtain⟨loc,wr,L⟩:=a;cases loc <;> simp only[JF]at hbl;obtain⟨B,E⟩:=hbl;cases B;rw[hg];exact h.known (.run 0) i _ e (.inl (H _ rfl E))
 .intro i a e hbl _;obtain⟨loc,wr,L⟩:=a;cases loc <;> simp only[JF]at hbl;obtain⟨B,E⟩:=hbl;cases B;exact h.known (.run 0) i _ e (.inl (H _ rfl E))
 .intro i a e hbl;unfold JF at hbl;split at hbl
  .cases hbl.1
  .exact hbl.elim
 .intro i a e f;rcases f with f|⟨f,M⟩
  .exact absurd f (G _)
  .exact absurd f (F _)
def TI.createM{m:Nat}{act':Nat->Prop}(h:TI W R rel blk none rm act wk size t)(z:∀g,act' g->g=0/\act 0)(N:∀a:Addr,a.block=m->a.off<2->W (.run 0) (.cell a))
  (M:∀k l,W' k l->W k l\/(k=.lck/\W (.run 0) l)) (L:∀k l,R' k l->R k l\/(k=.lck/\R (.run 0) l)) (H:∀l,¬W .lck l) (G:∀l,¬R .lck l) :
  TI W' R' rel blk (some m) none act' wk size t:=by
 have key:∀k i a,touchAt t i=some a->(W' k a.loc\/(R' k a.loc/\a.write=true))->(W k a.loc\/(R k a.loc/\a.write=true))\/(k=.lck/\(W (.run 0) a.loc\/(R (.run 0) a.loc/\a.write=true))):=by
  intro k i a _ f;rcases f with f|⟨f,I⟩
  .rcases M _ _ f with f|⟨e,f⟩
   .exact .inl (.inl f)
   .exact .inr ⟨e,.inl f⟩
  .rcases L _ _ f with f|⟨e,f⟩
   .exact .inl (.inr ⟨f,I⟩)
   .exact .inr ⟨e,.inr ⟨f,I⟩⟩
 refine⟨h.clean,λ k i a w f=>?_,h.low,h.norel,λ i a E F K g B=>?_,h.grpS,h.relok,h.hand,?_,?_,λ r P=>(by cases P)⟩
 .rcases key k i a w f with f|⟨rfl,_⟩
  .exact h.known k i a w f
  .trivial
 .obtain⟨rfl,z⟩:=z g B;exact h.grpP i a E F K 0 z
 .intro i a w hbl hk g B;obtain⟨loc,wr,Q⟩:=a;cases loc <;> simp only[JF]at hbl;obtain⟨E,F⟩:=hbl;cases E;rw[(z g B).1];exact h.known (.run 0) i _ w (.inl (N _ rfl F))
 .intro i a w f g B;rw[(z g B).1];rcases key .lck i a w f with f|⟨_,f⟩
  .rcases f with f|⟨f,_⟩
   .exact absurd f (H _)
   .exact absurd f (G _)
  .exact h.known (.run 0) i a w f
def TI.mrel{m:Nat}{y:MemOp}(h:TI W R rel blk mb rm act wk size t)(Y:mb=some m)(L:y.act=.mark (.releaseMerge ⟨m,0,none⟩))(N:m<size)(X:Deaf t y.g=0)(Q:wk y.g)
  (T:∀k l,W' k l->(W k l/\k≠.lck)\/(k=.lck/\W (.run y.g) l)) (S:∀k l,R' k l->(R k l/\k≠.lck)\/(k=.lck/\R (.run y.g) l)) :
  TI W' R' rel blk mb (some t.size) act wk size (t++#[y]):=by
 have z:y.act.touch?=none:=by rw[L];rfl
 refine⟨λ said=>Gd (h.clean said) z,?_,?_,?_,?_,?_,?_,?_,?_,?_,?_⟩
 .intro k i a ha E;obtain⟨H,f⟩:=Zq z ha;by_cases B:k=.lck
  .subst B;trivial
  .refine(h.known k i a f ?_).app _;rcases E with E|⟨E,P⟩
   .exact .inl ((T _ _ E).resolve_right λ x=>B x.1).1
   .exact .inr ⟨((S _ _ E).resolve_right λ x=>B x.1).1,P⟩
 .intro op w;rcases Array.mem_append.1 w with w|w
  .exact h.low op w
  .simp at w;subst w;rw[L];exact N
 .intro i a e;rcases HB e with⟨_,e⟩|⟨_,op,w,I⟩
  .exact h.norel i a e
  .simp at w;subst w;rw[L]at I;cases I
 .intro i a ha hbl B g' hg';obtain⟨H,f⟩:=Zq z ha;exact(h.grpP i a f hbl B g' hg').app _
 .intro i a ha hbl B;obtain⟨H,f⟩:=Zq z ha;exact(h.grpS i a f hbl B).app _
 .intro g' r hr;obtain⟨b,F,K,U,V⟩:=h.relok g' r hr;have G:=lt_of_act? K;exact⟨b,F,by rw[act?_old G];exact K,(heard_old G).2 U,by rw[g?_old G];exact V⟩
 .intro i g' hg' hne hc;obtain⟨H,M⟩:=Gc z hc;rw[g?_old H]at hg';rcases h.hand i g' hg' hne M with F|⟨r,F,K⟩|F
  .exact .inl F
  .exact .inr (.inl ⟨r,F,K.app _⟩)
  .exact .inr (.inr (F.app _))
 .intro i a ha hbl B g' hg';obtain⟨H,f⟩:=Zq z ha;exact(h.grpM i a f hbl B g' hg').app _
 .intro i a ha E;obtain⟨H,f⟩:=Zq z ha
  have B:Knows t y.g i:=h.known (.run y.g) i a f (by
   rcases E with E|⟨E,P⟩
   .exact .inl ((T _ _ E).resolve_left λ x=>x.2 rfl).2
   .exact .inr ⟨((S _ _ E).resolve_left λ x=>x.2 rfl).2,P⟩)
  exact .inr (B.hb_new (Nat.le_refl _) (Xe t y) rfl)
 .intro r hr;cases hr;exact⟨m,y.g,Y,by rw[act?_of (Xe t y),L],Gf X,by simp[Trace.g?],.inl Q⟩
def TI.macq{m:Nat}{y:MemOp}(h:TI W R rel blk mb rm act wk size t)(hm:mb=some m)(U:y.act=.mark (.acquire ⟨m,0,none⟩))(Y:m<size)(hd:Deaf t y.g=0)(V:act y.g)
  (hW:∀k l,W' k l->k≠.lck/\(W k l\/(k=.run y.g/\W .lck l))) (hR:∀k l,R' k l->k≠.lck/\(R k l\/(k=.run y.g/\R .lck l))) :
  TI W' R' rel blk mb rm act wk size (t++#[y]):=by
 have B:y.act.touch?=none:=by rw[U];rfl
 have F:=Xe t y
 have P:∀i,MK act rm t i->Knows (t++#[y]) y.g i:=by
  intro i I;cases M:rm with
  |none=>rw[M]at I;exact(I _ V).app _
  |some r=>
   rw[M]at I;obtain⟨m',g',E,H,N,T,h5⟩:=h.mutR r M;rw[hm]at E;cases E;have f:=lt_of_act? H;have S:Knows (t++#[y]) y.g r:=⟨t.size,y,F,rfl,.inr (.single (.inr ⟨.marked (a:=⟨m,0,none⟩) f (.inr (by rw[act?_old f];exact H)) (by rw[act?_of F,U]) (λ k _ K=>by rw[act?_old K];exact h.norel k _),(heard_old f).2 N,Gf hd⟩))⟩;exact Knows.of_before (Before.app _ I) S
 refine⟨λ said=>Gd (h.clean said) B,?_,?_,?_,?_,?_,?_,?_,?_,?_,?_⟩
 .intro k i a ha G;obtain⟨I,w⟩:=Zq B ha;rcases G with G|⟨G,Z⟩
  .rcases(hW _ _ G).2 with L|⟨rfl,L⟩
   .exact(h.known k i a w (.inl L)).app _
   .exact P i (h.mutK i a w (.inl L))
  .rcases(hR _ _ G).2 with L|⟨rfl,L⟩
   .exact(h.known k i a w (.inr ⟨L,Z⟩)).app _
   .exact P i (h.mutK i a w (.inr ⟨L,Z⟩))
 .intro op z;rcases Array.mem_append.1 z with z|z
  .exact h.low op z
  .simp at z;subst z;rw[U];exact Y
 .intro i a e;rcases HB e with⟨_,e⟩|⟨_,op,z,Q⟩
  .exact h.norel i a e
  .simp at z;subst z;rw[U]at Q;cases Q
 .intro i a ha hbl K g' hg';obtain⟨I,w⟩:=Zq B ha;exact(h.grpP i a w hbl K g' hg').app _
 .intro i a ha hbl K;obtain⟨I,w⟩:=Zq B ha;exact(h.grpS i a w hbl K).app _
 .intro g' r S;obtain⟨b,E,H,N,T⟩:=h.relok g' r S;have f:=lt_of_act? H;exact⟨b,E,by rw[act?_old f];exact H,(heard_old f).2 N,by rw[g?_old f];exact T⟩
 .intro i g' hg' hne hc;obtain⟨I,X⟩:=Gc B hc;rw[g?_old I]at hg';rcases h.hand i g' hg' hne X with E|⟨r,E,H⟩|E
  .exact .inl E
  .exact .inr (.inl ⟨r,E,H.app _⟩)
  .exact .inr (.inr (E.app _))
 .intro i a ha hbl K g' hg';obtain⟨I,w⟩:=Zq B ha;exact(h.grpM i a w hbl K g' hg').app _
 .intro i a ha G;rcases G with G|⟨G,Z⟩
  .exact absurd rfl (hW _ _ G).1
  .exact absurd rfl (hR _ _ G).1
 .intro r S;obtain⟨m',g',E,H,N,T,h5⟩:=h.mutR r S;have f:=lt_of_act? H;exact⟨m',g',E,by rw[act?_old f];exact H,(heard_old f).2 N,by rw[g?_old f];exact T,h5.imp id λ⟨r',k1,k2⟩=>⟨r',k1,k2.app _⟩⟩
end
end Go.TM
namespace Go.TM
inductive QE(α:Type) where
 |ok (a:α) (st sm:Value) (es:Array Event) (bs:List (Nat×Bool))
 |blocked (st sm:Value) (bs:List (Nat×Bool))
 |stuck
def ZP(a:Addr):Bool:=a.spot.isNone&&Nat.beq a.off 0
def JQ(a:Addr):Bool:=a.spot.isNone&&Nat.beq a.off 1
def O9{a:Addr}(h:ZP a=true):a=⟨a.block,0,none⟩:=by
 obtain⟨b,o,s⟩:=a;simp only[ZP,Bool.and_eq_true,Option.isNone_iff_eq_none]at h;obtain⟨f,e⟩:=h;have:=Nat.eq_of_beq_eq_true e
 simp_all
def O8{a:Addr}(h:JQ a=true):a=⟨a.block,1,none⟩:=by
 obtain⟨b,o,s⟩:=a;simp only[JQ,Bool.and_eq_true,Option.isNone_iff_eq_none]at h;obtain⟨f,e⟩:=h;have:=Nat.eq_of_beq_eq_true e
 simp_all
def XB:Value->Bool
 |.int ..=>true
 |_=>false
def Jo(P:Program)(t:TypeId){α:Type}:Sem α->Value->Value->Array Event->List (Nat×Bool)->QE α
 |.pure a,st,sm,es,bs=>.ok a st sm es bs
 |.program k,st,sm,es,bs=>Jo P t (k P) st sm es bs
 |.mark m k,st,sm,es,bs=>Jo P t k st sm (es.push ⟨.mark m,false,true⟩) bs
 |.load .atomic a k,st,sm,es,bs=>
  bif ZP a then Jo P t (k st) st sm (es.push ⟨.cell a,false,true⟩) ((a.block,true)::bs)
  else bif JQ a then Jo P t (k sm) st sm (es.push ⟨.cell a,false,true⟩) ((a.block,true)::bs)else .stuck
 |.load .plain a k,st,sm,es,bs=>
  bif ZP a then Jo P t (k st) st sm (es.push ⟨.cell a,false,false⟩) ((a.block,true)::bs)
  else bif JQ a then Jo P t (k sm) st sm (es.push ⟨.cell a,false,false⟩) ((a.block,true)::bs)else .stuck
 |.store .atomic a v k,st,sm,es,bs=>
  bif XB v then
   bif ZP a then Jo P t k v sm (es.push ⟨.cell a,true,true⟩) ((a.block,true)::bs)
   else bif JQ a then Jo P t k st v (es.push ⟨.cell a,true,true⟩) ((a.block,true)::bs)else .stuck
  else .stuck
 |.shape r k,st,sm,es,bs=>Jo P t (k (some (t,2))) st sm es ((r,false)::bs)
 |.frozen a k,st,sm,es,bs=>Jo P t (k false) st sm es ((a.block,false)::bs)
 |.halt .blocked,st,sm,_,bs=>.blocked st sm bs
 |_,_,_,_,_=>.stuck
def Sh(b:Nat)(t:TypeId)(st sm:Value)(w:World):Prop:=w.heap[b]?=some (.cells #[st,sm] t (0,0))
def two(w:World)(b:Nat)(t:TypeId)(st sm:Value):World:={ w with heap:=w.heap.setIfInBounds b (.cells #[st,sm] t (0,0)) }
def Sh.two{w:World}{b:Nat}{t:TypeId}{st sm st' sm':Value}(h:Sh b t st sm w):Sh b t st' sm' (two w b t st' sm'):=by
 have:=(Array.getElem?_eq_some_iff.1 h).1;simp[Sh,TM.two,this]
def Sh.two_same{w:World}{b:Nat}{t:TypeId}{st sm:Value}(h:Sh b t st sm w):TM.two w b t st sm=w:=by
 obtain⟨z,f⟩:=Array.getElem?_eq_some_iff.1 h
 have:w.heap.setIfInBounds b (.cells #[st,sm] t (0,0))=w.heap:=by
  apply Array.ext
  .simp
  .intro i hi hi';rw[Array.getElem_setIfInBounds (by simpa using hi)];split
   .rename_i e;subst e;exact f.symm
   .rfl
 simp[TM.two,this]
def Tn{w:World}{b:Nat}{t:TypeId}{st sm st' sm':Value}:two (two w b t st sm) b t st' sm'=two w b t st' sm':=by
 simp[two,Array.setIfInBounds_setIfInBounds]
def Sh.cell0{w:World}{b:Nat}{t:TypeId}{st sm:Value}(h:Sh b t st sm w):w.cell? ⟨b,0,none⟩=some st/\w.cell? ⟨b,1,none⟩=some sm/\w.frozen? ⟨b,0,none⟩=false/\w.frozen? ⟨b,1,none⟩=false:=by
 unfold Sh at h;refine⟨?_,?_,?_,?_⟩ <;> simp[World.cell?,World.frozen?,h]
def Sh.set0{w:World}{b:Nat}{t:TypeId}{st sm v:Value}(h:Sh b t st sm w):w.setCell ⟨b,0,none⟩ v=TM.two w b t v sm:=by
 obtain⟨z,f⟩:=Array.getElem?_eq_some_iff.1 h;simp only[World.setCell,TM.two];congr 1;apply Array.ext
 .simp
 .intro i hi hi';simp only[Array.getElem_modify,Array.getElem_setIfInBounds (by simpa using hi)];split
  .rename_i e;subst e;simp[f]
  .rfl
def Sh.set1{w:World}{b:Nat}{t:TypeId}{st sm v:Value}(h:Sh b t st sm w):w.setCell ⟨b,1,none⟩ v=TM.two w b t st v:=by
 obtain⟨z,f⟩:=Array.getElem?_eq_some_iff.1 h;simp only[World.setCell,TM.two];congr 1;apply Array.ext
 .simp
 .intro i hi hi';simp only[Array.getElem_modify,Array.getElem_setIfInBounds (by simpa using hi)];split
  .rename_i e;subst e;simp[f]
  .rfl
def Ki(P:Program){α:Type}(s:Sem α)(b:Nat)(t:TypeId)(w:World)(es:Array Event)(bs:List (Nat×Bool)):QE α->Prop
 |.ok x st' sm' f e=>(∀y∈e,y.1=b)->(∀y∈bs,y∈e)/\s.runT P w es=(.ok x (two w b t st' sm'),f)
 |.blocked st' sm' e=>(∀y∈e,y.1=b)->(∀y∈bs,y∈e)/\∃f,s.runT P w es=(.halt .blocked (two w b t st' sm'),f)
 |.stuck=>True
def Ki.of{P:Program}{α:Type}{s L:Sem α}{b c:Nat}{t:TypeId}{w w':World}{es z:Array Event}{bs:List (Nat×Bool)}{f:Bool}{r:QE α}
  (h:Ki P L b t w' z ((c,f)::bs) r) (I:c=b->s.runT P w es=L.runT P w' z) (K:∀st sm,two w' b t st sm=two w b t st sm):Ki P s b t w es bs r:=by
 cases r with
 |ok x st' sm' e F=>
  intro E;obtain⟨B,G⟩:=h E;exact⟨λ y H=>B y (by simp[H]),by rw[I (E _ (B (c,f) S1)),G,K]⟩
 |blocked st' sm' F=>
  intro E;obtain⟨B,e,G⟩:=h E;exact⟨λ y H=>B y (by simp[H]),e,by rw[I (E _ (B (c,f) S1)),G,K]⟩
 |stuck=>trivial
def Ng{P:Program}{α:Type}{b:Nat}{t:TypeId}(s:Sem α):∀{st sm:Value}{es:Array Event}{bs:List (Nat×Bool)}{w:World},
  Sh b t st sm w->Ki P s b t w es bs (Jo P t s st sm es bs):=by
 induction s with
 |pure a=>
  intro st sm es bs w f L;exact⟨λ _ h=>h,by rw[f.two_same];rfl⟩
 |program k G=>
  intro st sm es bs w f;exact G P f
 |mark m k G=>
  intro st sm es bs w f;exact G f
 |load m a k G=>
  intro st sm es bs w f;cases m with
  |plain=>
   simp only[Jo];cases e:ZP a with
   |true=>
    simp only[cond_true];refine(G st f).of (λ z=>?_) (λ _ _=>rfl);have B:=O9 e;rw[z]at B;have E:=f.cell0.1;rw[<- B]at E;simp only[Sem.runT,E];rfl
   |false=>
    simp only[cond_false];cases I:JQ a with
    |false=>exact trivial
    |true=>
     simp only[cond_true];refine(G sm f).of (λ z=>?_) (λ _ _=>rfl);have B:=O8 I;rw[z]at B;have E:=f.cell0.2.1;rw[<- B]at E;simp only[Sem.runT,E];rfl
  |atomic=>
   simp only[Jo];cases e:ZP a with
   |true=>
    simp only[cond_true];refine(G st f).of (λ z=>?_) (λ _ _=>rfl);have B:=O9 e;rw[z]at B;have E:=f.cell0.1;rw[<- B]at E;simp only[Sem.runT,E];rfl
   |false=>
    simp only[cond_false];cases I:JQ a with
    |false=>exact trivial
    |true=>
     simp only[cond_true];refine(G sm f).of (λ z=>?_) (λ _ _=>rfl);have B:=O8 I;rw[z]at B;have E:=f.cell0.2.1;rw[<- B]at E;simp only[Sem.runT,E];rfl
 |store m a v k G=>
  intro st sm es bs w f;cases m with
  |plain=>exact trivial
  |atomic=>
   simp only[Jo];cases ev:XB v with
   |false=>exact trivial
   |true=>
    simp only[cond_true]
    obtain⟨H,n,rfl⟩:∃H n,v=.int H n:=by
     cases v <;> simp[XB]at ev;exact⟨_,_,rfl⟩
    cases e:ZP a with
    |true=>
     simp only[cond_true];refine(G (w:=two w b t (.int H n) sm) f.two).of (λ z=>?_) (λ _ _=>Tn);have B:=O9 e;rw[z]at B;have E:=f.cell0.1;have K:=f.cell0.2.2.1;have F:=f.set0 (v:=.int H n);rw[<- B]at E K F;simp only[Sem.runT,E,K,Bool.false_eq_true,if_false,F];rfl
    |false=>
     simp only[cond_false];cases I:JQ a with
     |false=>exact trivial
     |true=>
      simp only[cond_true];refine(G (w:=two w b t st (.int H n)) f.two).of (λ z=>?_) (λ _ _=>Tn);have B:=O8 I;rw[z]at B;have E:=f.cell0.2.1;have K:=f.cell0.2.2.2;have F:=f.set1 (v:=.int H n);rw[<- B]at E K F;simp only[Sem.runT,E,K,Bool.false_eq_true,if_false,F];rfl
 |shape r k G=>
  intro st sm es bs w f;refine(G (some (t,2)) f).of (λ z=>?_) (λ _ _=>rfl);subst z;simp only[Sem.runT,World.shape?,show w.heap[r]?=_ from f];rfl
 |frozen a k G=>
  intro st sm es bs w f;refine(G false f).of (λ z=>?_) (λ _ _=>rfl);subst z;have:w.frozen? a=false:=by simp[World.frozen?,show w.heap[a.block]?=_ from f]
  simp only[Sem.runT,this]
 |halt h=>
  intro st sm es bs w f;cases h with
  |blocked=>exact λ L=>⟨λ _ h=>h,es,by rw[f.two_same];rfl⟩
  |_=>exact trivial
 |_=>intro st sm es bs w f;exact trivial
def LM{P:Program}{t:TypeId}{α:Type}(s:Sem α):∀{st sm:Value}{es:Array Event}{bs:List (Nat×Bool)}{x:α}{st' sm':Value}{z:Array Event}{f:List (Nat×Bool)},
  Jo P t s st sm es bs=.ok x st' sm' z f->(∃l,f=l++bs)/\(f=bs->(st'=st/\sm'=sm)/\∀w,s.runT P w es=(.ok x w,z)):=by
 induction s with
 |pure a=>
  intro st sm es bs x st' sm' z f h;simp only[Jo,QE.ok.injEq]at h;obtain⟨rfl,rfl,rfl,rfl,rfl⟩:=h;exact⟨⟨[],rfl⟩,λ _=>⟨⟨rfl,rfl⟩,λ _=>rfl⟩⟩
 |program k B=>intro st sm es bs x st' sm' z f h;exact B P h
 |mark m k B=>intro st sm es bs x st' sm' z f h;exact B h
 |load m a k B=>
  intro st sm es bs x st' sm' z f h;cases m with
  |plain=>
   simp only[Jo]at h
   have key:∀v,Jo P t (k v) st sm (es.push ⟨.cell a,false,false⟩) ((a.block,true)::bs)=.ok x st' sm' z f->(∃l,f=l++bs)/\(f=bs->(st'=st/\sm'=sm)/\∀w,(Sem.load .plain a k).runT P w es=(.ok x w,z)):=by
    intro v E;obtain⟨⟨l,rfl⟩,_⟩:=B v E;refine⟨⟨l++[(a.block,true)],S1⟩,λ e=>?_⟩;have:=congrArg List.length e;simp at this;omega
   cases e:ZP a <;> rw[e]at h <;> simp only[cond_true,cond_false]at h
   .cases e2:JQ a <;> rw[e2]at h <;> simp only[cond_true,cond_false]at h
    .cases h
    .exact key _ h
   .exact key _ h
  |atomic=>
   simp only[Jo]at h
   have key:∀v,Jo P t (k v) st sm (es.push ⟨.cell a,false,true⟩) ((a.block,true)::bs)=.ok x st' sm' z f->(∃l,f=l++bs)/\(f=bs->(st'=st/\sm'=sm)/\∀w,(Sem.load .atomic a k).runT P w es=(.ok x w,z)):=by
    intro v E;obtain⟨⟨l,rfl⟩,_⟩:=B v E;refine⟨⟨l++[(a.block,true)],S1⟩,λ e=>?_⟩;have:=congrArg List.length e;simp at this;omega
   cases e:ZP a <;> rw[e]at h <;> simp only[cond_true,cond_false]at h
   .cases e2:JQ a <;> rw[e2]at h <;> simp only[cond_true,cond_false]at h
    .cases h
    .exact key _ h
   .exact key _ h
 |store m a v k B=>
  intro st sm es bs x st' sm' z f h;cases m with
  |plain=>simp[Jo]at h
  |atomic=>
   simp only[Jo]at h
   have key:∀u F,Jo P t k u F (es.push ⟨.cell a,true,true⟩) ((a.block,true)::bs)=.ok x st' sm' z f->(∃l,f=l++bs)/\(f=bs->(st'=st/\sm'=sm)/\∀w,(Sem.store .atomic a v k).runT P w es=(.ok x w,z)):=by
    intro u F E;obtain⟨⟨l,rfl⟩,_⟩:=B E;refine⟨⟨l++[(a.block,true)],S1⟩,λ e=>?_⟩;have:=congrArg List.length e;simp at this;omega
   cases ev:XB v <;> rw[ev]at h <;> simp only[cond_true,cond_false]at h
   .cases h
   .cases e:ZP a <;> rw[e]at h <;> simp only[cond_true,cond_false]at h
    .cases e2:JQ a <;> rw[e2]at h <;> simp only[cond_true,cond_false]at h
     .cases h
     .exact key _ _ h
    .exact key _ _ h
 |shape r k B=>
  intro st sm es bs x st' sm' z f h;obtain⟨⟨l,rfl⟩,_⟩:=B _ h;refine⟨⟨l++[(r,false)],S1⟩,λ e=>?_⟩;have:=congrArg List.length e;simp at this;omega
 |frozen a k B=>
  intro st sm es bs x st' sm' z f h;obtain⟨⟨l,rfl⟩,_⟩:=B _ h;refine⟨⟨l++[(a.block,false)],S1⟩,λ e=>?_⟩;have:=congrArg List.length e;simp at this;omega
 |halt G=>intro st sm es bs x st' sm' z f h;cases G <;> simp[Jo]at h
 |_=>intro st sm es bs x st' sm' z f h;simp[Jo]at h
def qB{P:Program}{t:TypeId}{α:Type}(s:Sem α):∀{st sm:Value}{es:Array Event}{bs:List (Nat×Bool)}{st' sm':Value}{f:List (Nat×Bool)},
  Jo P t s st sm es bs=.blocked st' sm' f->(∃l,f=l++bs)/\(f=bs->∀w,∃z,s.runT P w es=(.halt .blocked w,z)):=by
 induction s with
 |pure a=>intro st sm es bs st' sm' f h;simp[Jo]at h
 |program k B=>intro st sm es bs st' sm' f h;exact B P h
 |mark m k B=>intro st sm es bs st' sm' f h;exact B h
 |load m a k B=>
  intro st sm es bs st' sm' f h;cases m with
  |plain=>
   simp only[Jo]at h
   have key:∀v,Jo P t (k v) st sm (es.push ⟨.cell a,false,false⟩) ((a.block,true)::bs)=.blocked st' sm' f->(∃l,f=l++bs)/\(f=bs->∀w,∃z,(Sem.load .plain a k).runT P w es=(.halt .blocked w,z)):=by
    intro v E;obtain⟨⟨l,rfl⟩,_⟩:=B v E;refine⟨⟨l++[(a.block,true)],S1⟩,λ e=>?_⟩;have:=congrArg List.length e;simp at this;omega
   cases e:ZP a <;> rw[e]at h <;> simp only[cond_true,cond_false]at h
   .cases e2:JQ a <;> rw[e2]at h <;> simp only[cond_true,cond_false]at h
    .cases h
    .exact key _ h
   .exact key _ h
  |atomic=>
   simp only[Jo]at h
   have key:∀v,Jo P t (k v) st sm (es.push ⟨.cell a,false,true⟩) ((a.block,true)::bs)=.blocked st' sm' f->(∃l,f=l++bs)/\(f=bs->∀w,∃z,(Sem.load .atomic a k).runT P w es=(.halt .blocked w,z)):=by
    intro v E;obtain⟨⟨l,rfl⟩,_⟩:=B v E;refine⟨⟨l++[(a.block,true)],S1⟩,λ e=>?_⟩;have:=congrArg List.length e;simp at this;omega
   cases e:ZP a <;> rw[e]at h <;> simp only[cond_true,cond_false]at h
   .cases e2:JQ a <;> rw[e2]at h <;> simp only[cond_true,cond_false]at h
    .cases h
    .exact key _ h
   .exact key _ h
 |store m a v k B=>
  intro st sm es bs st' sm' f h;cases m with
  |plain=>simp[Jo]at h
  |atomic=>
   simp only[Jo]at h
   have key:∀u F,Jo P t k u F (es.push ⟨.cell a,true,true⟩) ((a.block,true)::bs)=.blocked st' sm' f->(∃l,f=l++bs)/\(f=bs->∀w,∃z,(Sem.store .atomic a v k).runT P w es=(.halt .blocked w,z)):=by
    intro u F E;obtain⟨⟨l,rfl⟩,_⟩:=B E;refine⟨⟨l++[(a.block,true)],S1⟩,λ e=>?_⟩;have:=congrArg List.length e;simp at this;omega
   cases ev:XB v <;> rw[ev]at h <;> simp only[cond_true,cond_false]at h
   .cases h
   .cases e:ZP a <;> rw[e]at h <;> simp only[cond_true,cond_false]at h
    .cases e2:JQ a <;> rw[e2]at h <;> simp only[cond_true,cond_false]at h
     .cases h
     .exact key _ _ h
    .exact key _ _ h
 |shape r k B=>
  intro st sm es bs st' sm' f h;obtain⟨⟨l,rfl⟩,_⟩:=B _ h;refine⟨⟨l++[(r,false)],S1⟩,λ e=>?_⟩;have:=congrArg List.length e;simp at this;omega
 |frozen a k B=>
  intro st sm es bs st' sm' f h;obtain⟨⟨l,rfl⟩,_⟩:=B _ h;refine⟨⟨l++[(a.block,false)],S1⟩,λ e=>?_⟩;have:=congrArg List.length e;simp at this;omega
 |halt G=>
  intro st sm es bs st' sm' f h;cases G with
  |blocked=>
   simp only[Jo,QE.blocked.injEq]at h;obtain⟨rfl,rfl,rfl⟩:=h;exact⟨⟨[],rfl⟩,λ _ w=>⟨es,rfl⟩⟩
  |_=>simp[Jo]at h
 |_=>intro st sm es bs st' sm' f h;simp[Jo]at h
def ze(P:Program){α:Type}(s:Sem α)(W:Value->Value->World)(ok:List (Nat×Bool)->Prop)(w:World):QE α->Prop
 |.ok x st' sm' f e=>ok e->s.runT P w #[]=(.ok x (W st' sm'),f)
 |.blocked st' sm' e=>ok e->∃f,s.runT P w #[]=(.halt .blocked (W st' sm'),f)
 |.stuck=>True
structure WW(P:Program)(t:TypeId)(st sm:Value)(w:World)(W:Value->Value->World)(ok:List (Nat×Bool)->Prop):Prop where
 ran:∀{α:Type}(s:Sem α),ze P s W ok w (Jo P t s st sm #[] [])
 same:W st sm=w
 nil:ok []
def WW.sh{P:Program}{t:TypeId}{st sm:Value}{w:World}{b:Nat}(h:Sh b t st sm w):WW P t st sm w (two w b t) (λ bs=>∀y∈bs,y.1=b):=by
 refine⟨λ s=>?_,h.two_same,S1⟩;have:=Ng (P:=P) s (es:=#[]) (bs:=[]) h;generalize Jo P t s st sm #[] []=r at this;cases r with
 |ok x st' sm' es bs=>exact λ e=>(this e).2
 |blocked st' sm' bs=>exact λ e=>(this e).2
 |stuck=>trivial
def WW.calm{P:Program}{t:TypeId}{st sm:Value}{w:World}:WW P t st sm w (λ _ _=>w) (λ bs=>bs=[]):=by
 refine⟨λ s=>?_,rfl,rfl⟩;have f:=@LM P t _ s st sm #[] [];have z:=@qB P t _ s st sm #[] [];generalize Jo P t s st sm #[] []=r at f z;cases r with
 |ok x st' sm' es bs=>exact λ e=>((f rfl).2 e).2 w
 |blocked st' sm' bs=>exact λ e=>(z rfl).2 e w
 |stuck=>trivial
def Es{P:Program}{t:TypeId}{α:Type}(s:Sem α):∀{st sm:Value}{es:Array Event}{bs:List (Nat×Bool)}{x:α}{st' sm':Value}{w:Array Event}{f:List (Nat×Bool)},
  Jo P t s st sm es bs=.ok x st' sm' w f->(∃l,f=l++bs)/\((f.all (!·.2))=true->(st'=st/\sm'=sm)/\∀B z,Jo P t s B z es bs=.ok x B z w f):=by
 induction s with
 |pure a=>
  intro st sm es bs x st' sm' w f h;simp only[Jo,QE.ok.injEq]at h;obtain⟨rfl,rfl,rfl,rfl,rfl⟩:=h;exact⟨⟨[],rfl⟩,λ _=>⟨⟨rfl,rfl⟩,λ _ _=>rfl⟩⟩
 |program k E=>intro st sm es bs x st' sm' w f h;exact E P h
 |mark m k E=>intro st sm es bs x st' sm' w f h;exact E h
 |load m a k E=>
  intro st sm es bs x st' sm' w f h;cases m with
  |plain=>
   simp only[Jo]at h
   have key:∀v,Jo P t (k v) st sm (es.push ⟨.cell a,false,false⟩) ((a.block,true)::bs)=.ok x st' sm' w f->(∃l,f=l++bs)/\((f.all (!·.2))=true->(st'=st/\sm'=sm)/\∀B z,Jo P t (Sem.load .plain a k) B z es bs=.ok x B z w f):=by
    intro v F;obtain⟨⟨l,rfl⟩,_⟩:=E v F;exact⟨⟨l++[(a.block,true)],S1⟩,λ e=>by simp at e⟩
   cases e:ZP a <;> rw[e]at h <;> simp only[cond_true,cond_false]at h
   .cases e2:JQ a <;> rw[e2]at h <;> simp only[cond_true,cond_false]at h
    .cases h
    .exact key _ h
   .exact key _ h
  |atomic=>
   simp only[Jo]at h
   have key:∀v,Jo P t (k v) st sm (es.push ⟨.cell a,false,true⟩) ((a.block,true)::bs)=.ok x st' sm' w f->(∃l,f=l++bs)/\((f.all (!·.2))=true->(st'=st/\sm'=sm)/\∀B z,Jo P t (Sem.load .atomic a k) B z es bs=.ok x B z w f):=by
    intro v F;obtain⟨⟨l,rfl⟩,_⟩:=E v F;exact⟨⟨l++[(a.block,true)],S1⟩,λ e=>by simp at e⟩
   cases e:ZP a <;> rw[e]at h <;> simp only[cond_true,cond_false]at h
   .cases e2:JQ a <;> rw[e2]at h <;> simp only[cond_true,cond_false]at h
    .cases h
    .exact key _ h
   .exact key _ h
 |store m a v k E=>
  intro st sm es bs x st' sm' w f h;cases m with
  |plain=>simp[Jo]at h
  |atomic=>
   simp only[Jo]at h
   have key:∀u H,Jo P t k u H (es.push ⟨.cell a,true,true⟩) ((a.block,true)::bs)=.ok x st' sm' w f->(∃l,f=l++bs)/\((f.all (!·.2))=true->(st'=st/\sm'=sm)/\∀B z,Jo P t (Sem.store .atomic a v k) B z es bs=.ok x B z w f):=by
    intro u H F;obtain⟨⟨l,rfl⟩,_⟩:=E F;exact⟨⟨l++[(a.block,true)],S1⟩,λ e=>by simp at e⟩
   cases ev:XB v <;> rw[ev]at h <;> simp only[cond_true,cond_false]at h
   .cases h
   .cases e:ZP a <;> rw[e]at h <;> simp only[cond_true,cond_false]at h
    .cases e2:JQ a <;> rw[e2]at h <;> simp only[cond_true,cond_false]at h
     .cases h
     .exact key _ _ h
    .exact key _ _ h
 |shape r k E=>
  intro st sm es bs x st' sm' w f h;obtain⟨⟨l,rfl⟩,G⟩:=E _ h;exact⟨⟨l++[(r,false)],S1⟩,λ e=>G e⟩
 |frozen a k E=>
  intro st sm es bs x st' sm' w f h;obtain⟨⟨l,rfl⟩,G⟩:=E _ h;exact⟨⟨l++[(a.block,false)],S1⟩,λ e=>G e⟩
 |halt I=>intro st sm es bs x st' sm' w f h;cases I <;> simp[Jo]at h
 |_=>intro st sm es bs x st' sm' w f h;simp[Jo]at h
end Go.TM
namespace Go.TM
variable{T:Type}
def Zw{U:Qa T}{l:Loc}(h:U.canW l):U.canR l:=Q3.2 (.inl (Za.1 h))
def Nq{U:Qa T}{w w':World}(h:U.ok w)(e:w'.heap=w.heap):U.ok w':=by
 refine⟨λ b o f=>by rw[e];exact h.imm b o f,λ r z=>?_,h.apart,h.sep⟩;have:=h.held r z;cases r <;> simpa[Q2.ok,e]using this
def VV{U:Qa T}{w:World}(h:U.ok w){l:Loc}(e:U.canR l):¬Loc.new w l:=by
 rcases Q3.1 e with⟨r,F,e⟩|e
 .have hk:=h.held r F;cases r with
  |obj b o=>
   have f:=(Array.getElem?_eq_some_iff.1 hk).1;cases o <;> cases l <;> simp only[Q2.lets,Loc.new]at e ⊢ <;> first|exact e.elim|omega
  |cell b i v t n=>
   obtain⟨c,z,_⟩:=hk;have f:=(Array.getElem?_eq_some_iff.1 z).1;cases l <;> simp only[Q2.lets,Loc.new]at e ⊢ <;> first|exact e.elim|omega
 .cases l with
  |cell a=>
   obtain⟨c,t,fr,B,_⟩:=e;have f:=(Array.getElem?_eq_some_iff.1 (h.imm _ _ B)).1;simp only[Loc.new];omega
  |obj b=>
   obtain⟨o,E⟩:=e;have f:=(Array.getElem?_eq_some_iff.1 (h.imm _ _ E)).1;simp only[Loc.new];omega
  |_=>exact e.elim
def Mw{U U' τ:Qa T}{w w':World}(g:ZY U w w' U')(h:τ.ok w)(G:∀l,U.canW l->¬τ.canR l):τ.ok w':=by
 have cells:∀b c t fr,w.heap[b]?=some (.cells c t fr)->τ.canR (.obj b)->(∀i,i<c.size->τ.canR (.cell ⟨b,i,none⟩))->w'.heap[b]?=some (.cells c t fr):=by
  intro b c t fr f X B;obtain⟨I,K,L,M,N,P⟩:=g.cells b c t fr f;obtain rfl:=P.resolve_right λ h=>G _ h.1 X
  have:I=c:=by
   apply Array.ext M;intro i Q F;have:=N i λ H=>G _ H (B i F);simpa[Q,F]using this
  rw[L,this]
 have obj:∀b o,w.heap[b]?=some o->τ.canR (.obj b)->(∀c t fr,o=.cells c t fr->∀i,i<c.size->τ.canR (.cell ⟨b,i,none⟩))->w'.heap[b]?=some o:=by
  intro b o f z V;by_cases E:∃c t fr,o=.cells c t fr
  .obtain⟨c,t,fr,rfl⟩:=E;exact cells b c t fr f z (V c t fr rfl)
  .exact g.objs b o f (λ c t fr e=>E ⟨c,t,fr,e⟩) λ H=>G _ H z
 refine⟨λ b o f=>?_,λ r z=>?_,h.apart,h.sep⟩
 .exact obj b o (h.imm b o f) (Q3.2 (.inr ⟨o,f⟩)) λ c t fr e i B=>Q3.2 (.inr ⟨c,t,fr,by rw[<- e];exact f,B⟩)
 .have hk:=h.held r z;cases r with
  |obj b o=>
   exact obj b o hk (Q3.2 (.inl ⟨_,z,by cases o <;> rfl⟩)) λ c t fr e i B=>Q3.2 (.inl ⟨_,z,by subst e;exact⟨rfl,B⟩⟩)
  |cell b i v t n=>
   obtain⟨c,f,W,S⟩:=hk;obtain⟨I,K,L,M,N,P⟩:=g.cells b c t (0,0) f;have B:i<c.size:=(Array.getElem?_eq_some_iff.1 S).1;obtain rfl:=P.resolve_right λ h=>G _ (h.2 i B) (Q3.2 (.inl ⟨_,z,rfl,rfl⟩));refine⟨I,L,M.trans W,?_⟩;rw[N i λ H=>G _ H (Q3.2 (.inl ⟨_,z,rfl,rfl⟩))];exact S
def QJ(b:Nat)(U:Qa T):Prop:=∀a:Addr,a.block=b->a.off<2->¬U.canR (.cell a)
def H_{τ:Qa T}{w:World}{b:Nat}{t:TypeId}{st sm st' sm':Value}(h:τ.ok w)(H:Sh b t st sm w)(G:QJ b τ):τ.ok (two w b t st' sm'):=by
 have ne:∀x o,w.heap[x]?=some o->(∀c t fr,o=.cells c t fr->∀i,i<c.size->τ.canR (.cell ⟨x,i,none⟩))->(two w b t st' sm').heap[x]?=some o:=by
  intro x o f K
  have:x≠b:=by
   intro e;subst e;rw[show w.heap[x]?=_ from H]at f;cases f;exact G ⟨x,0,none⟩ rfl (Nat.zero_lt_two) (K _ _ _ rfl 0 S1)
  simp only[two];rw[Array.getElem?_setIfInBounds_ne (Ne.symm this)];exact f
 refine⟨λ x o f=>ne x o (h.imm x o f) λ c t fr e i z=>Q3.2 (.inr ⟨c,t,fr,by rw[<- e];exact f,z⟩),λ r E=>?_,h.apart,h.sep⟩;have F:=h.held r E;cases r with
 |obj x o=>exact ne x o F λ c t fr e i z=>Q3.2 (.inl ⟨_,E,by subst e;exact⟨rfl,z⟩⟩)
 |cell x i v t n=>
  obtain⟨c,B,L,I⟩:=F;refine⟨c,?_,L,I⟩
  have:x≠b:=by
   intro e;subst e;rw[show w.heap[x]?=_ from H]at B;cases B;have z:i<2:=by simpa using(Array.getElem?_eq_some_iff.1 I).1
   exact G ⟨x,i,none⟩ rfl z (Q3.2 (.inl ⟨_,E,rfl,rfl⟩))
  simp only[two];rw[Array.getElem?_setIfInBounds_ne (Ne.symm this)];exact B
def Sh.guar{U U':Qa T}{w w':World}{b:Nat}{t:TypeId}{st sm:Value}(h:Sh b t st sm w)(g:ZY U w w' U')(B:QJ b U):Sh b t st sm w':=by
 obtain⟨E,F,z,G,H,I⟩:=g.cells b _ t (0,0) h;obtain rfl:=I.resolve_right λ h=>B ⟨b,0,none⟩ rfl Nat.zero_lt_two (Zw (h.2 0 S1))
 have:E=#[st,sm]:=by
  apply Array.ext G;intro i f e;have:=H i λ K=>B ⟨b,i,none⟩ rfl (by simpa using e) (Zw K);rw[Array.getElem?_eq_getElem f,Array.getElem?_eq_getElem e]at this;exact Option.some.inj this
 rw[this]at z;exact z
structure VI(V:Hd->Qa T)(w:World):Prop where
 ok:∀k,(V k).ok w
 sep:∀k k' l,k≠k'->(V k).canW l->¬(V k').canR l
def Q7{α:Type _}(V:Hd->α)(k:Hd)(U:α):Hd->α:=λ k'=>if k'=k then U else V k'
def Qj{α:Type _}(V:Hd->α)(k:Hd)(U:α):Q7 V k U k=U:=by simp[Q7]
def Qg{α:Type _}(V:Hd->α){k k':Hd}(U:α)(h:k'≠k):Q7 V k U k'=V k':=by simp[Q7,h]
def VI.priv{V:Hd->Qa T}{w w':World}{k:Hd}{U':Qa T}(h:VI V w)(g:ZY (V k) w w' U')(ok:U'.ok w'):VI (Q7 V k U') w':=by
 refine⟨λ k'=>?_,λ E F l B z f=>?_⟩
 .by_cases e:k'=k
  .subst e;rw[Qj];exact ok
  .rw[Qg _ _ e];exact Mw g (h.ok k') λ l H=>h.sep k k' l (Ne.symm e) H
 .by_cases e:E=k
  .subst e;rw[Qj]at z;rw[Qg _ _ (Ne.symm B)]at f;rcases g.cw l z with z|z
   .exact h.sep _ _ l B z f
   .exact VV (h.ok _) f z
  .rw[Qg _ _ e]at z;by_cases G:F=k
   .subst G;rw[Qj]at f;rcases g.cr l f with f|f
    .exact h.sep _ _ l B z f
    .exact VV (h.ok _) (Zw z) f
   .rw[Qg _ _ G]at f;exact h.sep _ _ l B z f
def VI.shift{V:Hd->Qa T}{w:World}{k:Hd}{U':Qa T}(h:VI V w)(K:Q1 (V k) U'):VI (Q7 V k U') w:=by
 obtain⟨G,H,I⟩:=K.2 w (h.ok k);refine⟨λ k'=>?_,λ f z l B F E=>?_⟩
 .by_cases e:k'=k
  .subst e;rw[Qj];exact G
  .rw[Qg _ _ e];exact h.ok k'
 .refine h.sep f z l B ?_ ?_
  .by_cases e:f=k
   .subst e;rw[Qj]at F;exact H l F
   .rwa [Qg _ _ e]at F
  .by_cases e:z=k
   .subst e;rw[Qj]at E;exact I l E
   .rwa [Qg _ _ e]at E
def VI.two{V:Hd->Qa T}{w:World}{b:Nat}{t:TypeId}{st sm st' sm':Value}(h:VI V w)(f:Sh b t st sm w)(e:∀k,QJ b (V k)):VI V (two w b t st' sm'):=
 ⟨λ k=>H_ (h.ok k) f (e k),h.sep⟩
def VI.heap{V:Hd->Qa T}{w w':World}(h:VI V w)(e:w'.heap=w.heap):VI V w':=⟨λ k=>Nq (h.ok k) e,h.sep⟩
structure HU(U Up Uc:Qa T):Prop where
 ok:∀w,U.ok w->Up.ok w/\Uc.ok w
 wp:∀l,Up.canW l->U.canW l
 rp:∀l,Up.canR l->U.canR l
 wc:∀l,Uc.canW l->U.canW l
 rc:∀l,Uc.canR l->U.canR l
 pc:∀l,Up.canW l->¬Uc.canR l
 cp:∀l,Uc.canW l->¬Up.canR l
def VI.fork{V:Hd->Qa T}{w:World}{k c:Hd}{Up Uc:Qa T}(h:VI V w)(E:HU (V k) Up Uc)(M:k≠c):VI (Q7 (Q7 V k Up) c Uc) w:=by
 have L:∀k' l,(Q7 (Q7 V k Up) c Uc k').canW l->(k'=k/\Up.canW l/\(V k).canW l)\/(k'=c/\Uc.canW l/\(V k).canW l)\/(k'≠k/\k'≠c/\(V k').canW l):=by
  intro k' l f;by_cases e:k'=c
  .subst e;rw[Qj]at f;exact .inr (.inl ⟨rfl,f,E.wc l f⟩)
  .rw[Qg _ _ e]at f;by_cases B:k'=k
   .subst B;rw[Qj]at f;exact .inl ⟨rfl,f,E.wp l f⟩
   .rw[Qg _ _ B]at f;exact .inr (.inr ⟨B,e,f⟩)
 have K:∀k' l,(Q7 (Q7 V k Up) c Uc k').canR l->(k'=k/\Up.canR l/\(V k).canR l)\/(k'=c/\Uc.canR l/\(V k).canR l)\/(k'≠k/\k'≠c/\(V k').canR l):=by
  intro k' l f;by_cases e:k'=c
  .subst e;rw[Qj]at f;exact .inr (.inl ⟨rfl,f,E.rc l f⟩)
  .rw[Qg _ _ e]at f;by_cases B:k'=k
   .subst B;rw[Qj]at f;exact .inl ⟨rfl,f,E.rp l f⟩
   .rw[Qg _ _ B]at f;exact .inr (.inr ⟨B,e,f⟩)
 refine⟨λ k'=>?_,λ Q S l z P N=>?_⟩
 .by_cases e:k'=c
  .subst e;rw[Qj];exact(E.ok w (h.ok k)).2
  .rw[Qg _ _ e];by_cases B:k'=k
   .subst B;rw[Qj];exact(E.ok w (h.ok k')).1
   .rw[Qg _ _ B];exact h.ok k'
 .rcases L _ _ P with⟨rfl,G,I⟩|⟨rfl,G,I⟩|⟨W,n2,G⟩ <;> rcases K _ _ N with⟨e,F,H⟩|⟨e,F,H⟩|⟨U,X,F⟩
  .exact z e.symm
  .exact E.pc l G F
  .exact h.sep _ _ l z I F
  .exact E.cp l G F
  .exact z e.symm
  .exact h.sep k _ l (Ne.symm U) I F
  .subst e;exact h.sep _ _ l z G H
  .exact h.sep _ k l W G H
  .exact h.sep _ _ l z G F
def Qa.bare(τ:T):Qa T:=⟨λ _=>none,[],τ⟩
def K0(τ:T)(w:World):(Qa.bare τ).ok w:=⟨λ _ _ h=>(by cases h),λ _ h=>(by cases h),Pairwise.nil,λ _ h=>(by cases h)⟩
def Wo(τ:T)(l:Loc):¬(Qa.bare τ).canW l:=λ h=>by obtain⟨r,e,_⟩:=Za.1 h;cases e
def Wn(τ:T)(l:Loc):¬(Qa.bare τ).canR l:=λ h=>by
 rcases Q3.1 h with⟨r,e,_⟩|h
 .cases e
 .cases l <;> simp[Qa.bare]at h
def Qa.with(U:Qa T)(M:List Q2):Qa T:={ U with M:=U.M++M }
def Yo{U τ:Qa T}{l:Loc}(h:(U.with τ.M).canW l):U.canW l\/τ.canW l:=by
 obtain⟨r,e,f⟩:=Za.1 h;rcases mem_append.1 e with e|e
 .exact .inl (Za.2 ⟨r,e,f⟩)
 .exact .inr (Za.2 ⟨r,e,f⟩)
def Yn{U τ:Qa T}{l:Loc}(h:(U.with τ.M).canR l):U.canR l\/τ.canR l:=by
 rcases Q3.1 h with⟨r,e,f⟩|h
 .rcases mem_append.1 e with e|e
  .exact .inl (Q3.2 (.inl ⟨r,e,f⟩))
  .exact .inr (Q3.2 (.inl ⟨r,e,f⟩))
 .exact .inl (Q3.2 (.inr h))
def YS{U:Qa T}{r:Q2}(h:r∈U.M):(∀b o,r=.obj b o->U.canW (.obj b))/\(∀b i v t n,r=.cell b i v t n->U.canW (.cell ⟨b,i,none⟩))/\(∀b c t fr i,r=.obj b (.cells c t fr)->i<c.size->U.canW (.cell ⟨b,i,none⟩)):=by
 refine⟨λ b o e=>Za.2 ⟨r,h,?_⟩,λ b i v t n e=>Za.2 ⟨r,h,?_⟩,λ b c t fr i e f=>Za.2 ⟨r,h,?_⟩⟩
 .subst e;cases o <;> rfl
 .subst e;exact⟨rfl,rfl⟩
 .subst e;exact⟨rfl,f⟩
def qg{U τ:Qa T}{w:World}(E:U.ok w)(L:τ.ok w)(Q:∀l,U.canW l->¬τ.canR l)(Z:∀l,τ.canW l->¬U.canR l):(U.with τ.M).ok w:=by
 refine⟨E.imm,λ r f=>?_,?_,λ r f=>?_⟩
 .rcases mem_append.1 f with f|f
  .exact E.held r f
  .exact L.held r f
 .refine pairwise_append.2 ⟨E.apart,L.apart,λ r f V F=>?_⟩;obtain⟨a1,a2,a3⟩:=YS f;obtain⟨S,K,W⟩:=YS F;have Y:=E.held r f;have N:=L.held V F;cases r with
  |obj b o=>
   cases V with
   |obj H P=>
    simp only[Q2.apart,Q2.blk];intro e;subst e;exact Q _ (a1 _ _ rfl) (Zw (S _ _ rfl))
   |cell H i v t n=>
    simp only[Q2.apart,Q2.blk];intro e;subst e;obtain⟨c,z,X,G⟩:=N
    have:o=.cells c t (0,0):=by
     have B:w.heap[b]?=some o:=Y;rw[B]at z;exact Option.some.inj z
    subst this;exact Q _ (a3 _ _ _ _ i rfl (Array.getElem?_eq_some_iff.1 G).1) (Zw (K _ _ _ _ _ rfl))
  |cell b i v t n=>
   cases V with
   |obj H P=>
    simp only[Q2.apart,Q2.blk];intro e;subst e;obtain⟨c,z,X,G⟩:=Y
    have:P=.cells c t (0,0):=by
     have B:w.heap[b]?=some P:=N;rw[B]at z;exact Option.some.inj z
    subst this;exact Q _ (a2 _ _ _ _ _ rfl) (Zw (W _ _ _ _ i rfl (Array.getElem?_eq_some_iff.1 G).1))
   |cell H i' v' t' n'=>
    simp only[Q2.apart];by_cases e:b=H
    .by_cases e2:i=i'
     .subst e;subst e2;exact absurd (Zw (K _ _ _ _ _ rfl)) (Q _ (a2 _ _ _ _ _ rfl))
     .exact .inr e2
    .exact .inl e
 .rcases mem_append.1 f with f|f
  .exact E.sep r f
  .show U.I r.blk=none;cases e:U.I r.blk with
   |none=>rfl
   |some o=>
    exfalso;obtain⟨S,K,W⟩:=YS f;have N:=L.held r f;cases r with
    |obj b P=>exact Z _ (S _ _ rfl) (Q3.2 (.inr ⟨o,e⟩))
    |cell b i v t n=>
     obtain⟨c,z,X,G⟩:=N;have B:w.heap[b]?=some o:=E.imm _ _ e;rw[z]at B;cases B;exact Z _ (K _ _ _ _ _ rfl) (Q3.2 (.inr ⟨c,t,(0,0),e,(Array.getElem?_eq_some_iff.1 G).1⟩))
def VI.join{V:Hd->Qa T}{w:World}{k k':Hd}(h:VI V w)(F:k≠k')(τ:T):VI (Q7 (Q7 V k ((V k).with (V k').M)) k' (Qa.bare τ)) w:=by
 have G:=qg (h.ok k) (h.ok k') (λ l f=>h.sep k k' l F f) (λ l f=>h.sep k' k l (Ne.symm F) f)
 have K:∀x l,(Q7 (Q7 V k ((V k).with (V k').M)) k' (Qa.bare τ) x).canW l->x≠k'/\((V x).canW l\/(x=k/\(V k').canW l)):=by
  intro x l f;by_cases e:x=k'
  .subst e;rw[Qj]at f;exact absurd f (Wo _ _)
  .rw[Qg _ _ e]at f;refine⟨e,?_⟩;by_cases z:x=k
   .subst z;rw[Qj]at f;exact(Yo f).imp id λ h=>⟨rfl,h⟩
   .rw[Qg _ _ z]at f;exact .inl f
 have I:∀x l,(Q7 (Q7 V k ((V k).with (V k').M)) k' (Qa.bare τ) x).canR l->x≠k'/\((V x).canR l\/(x=k/\(V k').canR l)):=by
  intro x l f;by_cases e:x=k'
  .subst e;rw[Qj]at f;exact absurd f (Wn _ _)
  .rw[Qg _ _ e]at f;refine⟨e,?_⟩;by_cases z:x=k
   .subst z;rw[Qj]at f;exact(Yn f).imp id λ h=>⟨rfl,h⟩
   .rw[Qg _ _ z]at f;exact .inl f
 refine⟨λ x=>?_,λ P Q l H N L=>?_⟩
 .by_cases e:x=k'
  .subst e;rw[Qj];exact K0 _ _
  .rw[Qg _ _ e];by_cases z:x=k
   .subst z;rw[Qj];exact G
   .rw[Qg _ _ z];exact h.ok x
 .obtain⟨n1,E⟩:=K _ _ N;obtain⟨n2,B⟩:=I _ _ L;rcases E with E|⟨rfl,E⟩ <;> rcases B with B|⟨e,B⟩
  .exact h.sep _ _ l H E B
  .exact h.sep _ k' l n1 E B
  .exact h.sep k' _ l (Ne.symm n2) E B
  .exact H e.symm
def Mj(U:Qa T)(τ f:T):HU U (Qa.bare τ) ⟨λ _=>none,U.M,f⟩:=by
 have B:∀l,(Qa.canW ⟨λ _=>none,U.M,f⟩ l)->U.canW l:=λ l e=>Za.2 (Za.1 e)
 have z:∀l,(Qa.canR ⟨λ _=>none,U.M,f⟩ l)->U.canR l:=by
  intro l e;rcases Q3.1 e with e|e
  .exact Q3.2 (.inl e)
  .cases l <;> simp at e
 exact⟨λ w ok=>⟨K0 _ _,⟨λ _ _ h=>(by cases h),ok.held,ok.apart,λ _ _=>rfl⟩⟩,λ l h=>absurd h (Wo _ _),λ l h=>absurd h (Wn _ _),B,z,λ l h=>absurd h (Wo _ _),λ l _ h=>Wn _ _ h⟩
def Q2.lets_blk{r:Q2}{l:Loc}(h:r.lets l):(∃a,l=.cell a/\a.block=r.blk)\/l=.obj r.blk:=by
 cases r with
 |obj b o=>
  cases l with
  |cell a=>cases o <;> simp only[Q2.lets]at h;exact .inl ⟨a,rfl,h.1⟩
  |obj e=>right;cases o <;> simp only[Q2.lets]at h <;> rw[h] <;> rfl
  |_=>cases o <;> exact h.elim
 |cell b i v t n=>
  cases l with
  |cell a=>exact .inl ⟨a,rfl,h.1⟩
  |_=>exact h.elim
def Q2.apart_lets{r s:Q2}(h:r.apart s){l:Loc}(z:r.lets l)(B:s.lets l):False:=by
 have key:r.blk≠s.blk->False:=λ w=>by
  rcases Q2.lets_blk z with⟨a,rfl,e⟩|rfl
  .rcases Q2.lets_blk B with⟨a',e',f⟩|e'
   .cases e';exact w (e.symm.trans f)
   .cases e'
  .rcases Q2.lets_blk B with⟨a',e',f⟩|e'
   .cases e'
   .exact w (by simpa using e')
 cases r with
 |obj b o=>exact key (by cases s <;> exact h)
 |cell b i v t n=>
  cases s with
  |obj E o=>exact key h
  |cell E j M L K=>
   cases l with
   |cell a=>
    obtain⟨F,G⟩:=z;obtain⟨H,I⟩:=B;rcases h with h|h
    .exact h (F.symm.trans H)
    .exact h (G.symm.trans I)
   |_=>exact z.elim
def Do{U:Qa T}{tp tc:T}{w:World}(N:U.ok w){M₁ M₂:List Q2}(h:Perm U.M (M₁++M₂)):HU U ⟨U.I,M₂,tp⟩ ⟨U.I,M₁,tc⟩:=by
 have B:=(h.pairwise_iff (λ{x y}h=>Q2.apart_symm h)).1 N.apart;rw[pairwise_append]at B;have H:∀r∈M₁,r∈U.M:=λ r z=>h.mem_iff.2 (mem_append_left _ z);have K:∀r∈M₂,r∈U.M:=λ r z=>h.mem_iff.2 (mem_append_right _ z)
 have L:∀(r:Q2)(l:Loc),r∈U.M->r.lets l->(match l with|.cell a=>∃c t fr,U.I a.block=some (.cells c t fr)/\a.off<c.size|.obj b=>∃o,U.I b=some o|_=>False)->False:=by
  intro r l z f F;have G:=N.sep r z;rcases Q2.lets_blk f with⟨a,rfl,e⟩|rfl
  .obtain⟨c,t,fr,hc,_⟩:=F;rw[e,G]at hc;cases hc
  .obtain⟨o,ho⟩:=F;rw[G]at ho;cases ho
 refine⟨λ w ok=>?_,λ l f=>?_,λ l f=>?_,λ l f=>?_,λ l f=>?_,λ l f z=>?_,λ l f z=>?_⟩
 .have hap':=(h.pairwise_iff (λ{x y}h=>Q2.apart_symm h)).1 ok.apart;rw[pairwise_append]at hap';exact⟨⟨ok.imm,λ r z=>ok.held r (K r z),hap'.2.1,λ r z=>ok.sep r (K r z)⟩,⟨ok.imm,λ r z=>ok.held r (H r z),hap'.1,λ r z=>ok.sep r (H r z)⟩⟩
 .rw[Za]at f ⊢;obtain⟨r,z,f⟩:=f;exact⟨r,K r z,f⟩
 .rw[Q3]at f ⊢;exact f.imp (λ⟨r,z,f⟩=>⟨r,K r z,f⟩) id
 .rw[Za]at f ⊢;obtain⟨r,z,f⟩:=f;exact⟨r,H r z,f⟩
 .rw[Q3]at f ⊢;exact f.imp (λ⟨r,z,f⟩=>⟨r,H r z,f⟩) id
 .obtain⟨r,hr_2,f⟩:=Za.1 f;rcases Q3.1 z with⟨s,G,E⟩|F
  .exact Q2.apart_lets (B.2.2 s G r hr_2) E f
  .exact L r l (K r hr_2) f F
 .obtain⟨r,hr_2,f⟩:=Za.1 f;rcases Q3.1 z with⟨s,G,E⟩|F
  .exact Q2.apart_lets (B.2.2 r hr_2 s G) f E
  .exact L r l (H r hr_2) f F
def Un{U:Qa T}{tp tc:T}{w:World}(B:U.ok w){M₁ M₂:List Q2}(h:Perm U.M (M₁++M₂)):HU U ⟨U.I,M₂,tp⟩ ⟨λ _=>none,M₁,tc⟩:=by
 have f:=Do (tp:=tp) (tc:=tc) B h;have cw:∀l,(Qa.canW ⟨λ _=>none,M₁,tc⟩ l)->(Qa.canW ⟨U.I,M₁,tc⟩ l):=λ l e=>Za.2 (Za.1 e)
 have cr:∀l,(Qa.canR ⟨λ _=>none,M₁,tc⟩ l)->(Qa.canR ⟨U.I,M₁,tc⟩ l):=by
  intro l e;rcases Q3.1 e with e|e
  .exact Q3.2 (.inl e)
  .cases l <;> simp at e
 exact⟨λ w ok=>⟨(f.ok w ok).1,⟨λ _ _ h=>(by cases h),(f.ok w ok).2.held,(f.ok w ok).2.apart,λ _ _=>rfl⟩⟩,f.wp,f.rp,λ l e=>f.wc l (cw l e),λ l e=>f.rc l (cr l e),λ l e z=>f.pc l e (cr l z),λ l e z=>f.cp l (cw l e) z⟩
end Go.TM
namespace Go.TM
def QN:Nat->(Nat->Nat)->Nat
 |0,_=>0
 |n+1,f=>QN n f+f n
def Po{f f':Nat->Nat}:∀{n:Nat},(∀j,j<n->f' j=f j)->QN n f'=QN n f
 |0,_=>rfl
 |n+1,h=>by simp only[QN,Po (n:=n) λ j e=>h j O1,h n O1]
def Gy{f f':Nat->Nat}{i:Nat}:∀{n:Nat},i<n->(∀j,j≠i->f' j=f j)->QN n f'+f i=QN n f+f' i
 |0,w,_=>O1
 |n+1,w,h=>by
  simp only[QN];by_cases e:i=n
  .subst e;rw[Po (n:=i) λ j z=>h j O1];omega
  .have:=Gy (n:=n) O1 h;rw[h n (Ne.symm e)];omega
def PL{f:Nat->Nat}(h:∀j,f j<=1):∀n,QN n f<=n
 |0=>Nat.le_refl _
 |n+1=>by have:=PL h n;have:=h n;simp only[QN];omega
def TA{f:Nat->Nat}{B:Nat}:∀{n:Nat},(∀j,j<n->f j<=B)->QN n f<=n*B
 |0,_=>by simp[QN]
 |n+1,h=>by have:=TA (n:=n) λ j e=>h j O1;have:=h n O1;simp only[QN];rw[Nat.succ_mul];omega
def XW{f g:Nat->Nat}:∀n,QN n (λ j=>f j+g j)=QN n f+QN n g
 |0=>rfl
 |n+1=>by simp only[QN,XW n];omega
def Hm{f:Nat->Nat}{i:Nat}:∀{n:Nat},i<n->f i<=QN n f
 |0,h=>O1
 |n+1,h=>by
  simp only[QN];by_cases e:i=n
  .subst e;omega
  .have:=Hm (f:=f) (n:=n) (i:=i) O1;omega
def Tj{f:Nat->Nat}:∀{n:Nat},0<QN n f->∃j,j<n/\0<f j
 |0,h=>by simp[QN]at h
 |n+1,h=>by
  by_cases e:0<f n
  .exact⟨n,O1,e⟩
  .obtain⟨j,h1,h2⟩:=Tj (f:=f) (n:=n) (by simp only[QN]at h;omega);exact⟨j,O1,h2⟩
def Pu{f:Nat->Nat}:∀{n:Nat},(∀j,j<n->f j=0)->QN n f=0
 |0,_=>rfl
 |n+1,h=>by simp only[QN];rw[Pu λ j e=>h j O1,h n O1]
def Q9{α:Type _}(f:Nat->α)(i:Nat)(x:α):Nat->α:=λ j=>if j=i then x else f j
def Qf{α:Type _}(f:Nat->α)(i:Nat)(x:α):Q9 f i x i=x:=by simp[Q9]
def Qv{α:Type _}(f:Nat->α){i j:Nat}(x:α)(h:j≠i):Q9 f i x j=f j:=by simp[Q9,h]
inductive LP where
 |idle|idw|got|own (R:Nat->Bool)|rls|unl|unl2|uls|fin|wai (c:Nat)|wok (c:Nat)|wos (c k:Nat)
def LP.rels:LP->Bool
 |.rls|.unl|.unl2|.uls|.fin=>true
 |_=>false
def LP.isOwn:LP->Bool
 |.own _=>true
 |_=>false
def LP.h:LP->Nat
 |.got|.own _|.rls=>1
 |_=>0
def LP.o:LP->Nat
 |.wok _=>1
 |_=>0
def LP.i:LP->Nat
 |.idw=>1
 |_=>0
def LP.u1:LP->Nat
 |.unl=>1
 |_=>0
def LP.u2:LP->Nat
 |.unl2=>1
 |_=>0
def LP.us:LP->Nat
 |.uls=>1
 |_=>0
def LP.t:LP->Nat
 |.wos _ _=>1
 |_=>0
def LP.k:LP->Nat
 |.wai _=>1
 |_=>0
def LP.c:LP->Nat
 |.wai c|.wok c|.wos c _=>c
 |_=>0
def LP.a:LP->Nat
 |.unl2|.uls|.fin=>1
 |_=>0
def LP.nk:LP->Nat
 |.wos _ k=>k
 |_=>0
def LP.ow:LP->Nat
 |.own _=>1
 |_=>0
def LP.pw(N:Nat):LP->Nat
 |.idle=>0
 |.idw=>1
 |.wai c|.wok c|.wos c _=>2+c
 |.got|.own _|.rls=>N+4
 |.unl|.uls=>N+5
 |.unl2=>N+6
 |.fin=>N+7
structure LZ where
 l:Nat
 w:Nat
 s:Nat
 n:Nat
 f:Nat
def LZ.st(z:LZ):Nat:=8*z.n+4*z.s+2*z.w+z.l
abbrev LT(N:Nat)(lp:Nat->LP)(φ:LP->Nat):Nat:=QN N λ j=>φ (lp j)
def GH(N:Nat)(lp:Nat->LP)(z:LZ):Prop:=
 (z.l<=1/\z.w<=1/\z.s<=1/\z.f<=1/\z.l=LT N lp LP.h) /\
 (z.s=0->z.w=LT N lp LP.o+LT N lp LP.i+LT N lp LP.u2+z.f/\z.n+LT N lp LP.u2+z.f=LT N lp LP.k/\LT N lp LP.us=0/\LT N lp LP.t=0/\(z.l=0->z.w=0->0<z.n->0<LT N lp LP.u1)) /\
 (z.s=1->z.w=0/\LT N lp LP.o=0/\LT N lp LP.i=0/\LT N lp LP.u2=0/\LT N lp LP.h+LT N lp LP.us+z.f+LT N lp LP.t=1/\z.n=LT N lp LP.k+LT N lp LP.t/\1<=z.n) /\
 LT N lp LP.c+LT N lp LP.o+z.f+LT N lp LP.u2+LT N lp LP.us+LT N lp LP.t<=LT N lp LP.a
def JG(N:Nat)(lp:Nat->LP)(z:LZ):Prop:=GH N lp z/\∀j,j<N->(lp j).nk<=z.n
inductive Tz:LP->LZ->LP->LZ->Prop
 |stay {me z}:Tz me z me z
 |take {l w s n f}:l=0->s=0->Tz .idle ⟨l,w,s,n,f⟩ .got ⟨1,w,s,n,f⟩
 |takew {l w s n f}:l=0->s=0->Tz .idw ⟨l,w,s,n,f⟩ .got ⟨1,0,s,n,f⟩
 |takeo {c l w s n f}:l=0->s=0->Tz (.wok c) ⟨l,w,s,n,f⟩ .got ⟨1,0,s,n,f⟩
 |que {l w s n f}:l=1\/s=1->Tz .idle ⟨l,w,s,n,f⟩ (.wai 0) ⟨l,w,s,n+1,f⟩
 |quew {l w s n f}:l=1->s=0->Tz .idw ⟨l,w,s,n,f⟩ (.wai 0) ⟨l,0,s,n+1,f⟩
 |queo {c l w s n f s'}:l=1->s=0->s'<=1->Tz (.wok c) ⟨l,w,s,n,f⟩ (.wai (c+1)) ⟨l,0,s',n+1,f⟩
 |spin {l w s n f}:l=1->s=0->w=0->0<n->Tz .idle ⟨l,w,s,n,f⟩ .idw ⟨l,1,s,n,f⟩
 |acq {z R}:Tz .got z (.own R) z
 |rel {z R}:Tz (.own R) z .rls z
 |relf {l w s n f}:s=0->n=0\/w=1->Tz .rls ⟨l,w,s,n,f⟩ .fin ⟨0,w,s,n,f⟩
 |relu {l w s n f}:s=0->0<n->w=0->Tz .rls ⟨l,w,s,n,f⟩ .unl ⟨0,w,s,n,f⟩
 |rels {l w s n f}:s=1->Tz .rls ⟨l,w,s,n,f⟩ .uls ⟨0,w,s,n,f⟩
 |leave {l w s n f}:l=1\/w=1\/s=1\/n=0->Tz .unl ⟨l,w,s,n,f⟩ .fin ⟨l,w,s,n,f⟩
 |wake {l w s n f}:l=0->w=0->s=0->Tz .unl ⟨l,w,s,n+1,f⟩ .unl2 ⟨l,1,s,n,f⟩
 |sem {l w s n f}:Tz .unl2 ⟨l,w,s,n,f⟩ .fin ⟨l,w,s,n,1⟩
 |sems {l w s n f}:Tz .uls ⟨l,w,s,n,f⟩ .fin ⟨l,w,s,n,1⟩
 |upo {c l w s n f}:s=0->f=1->Tz (.wai c) ⟨l,w,s,n,f⟩ (.wok c) ⟨l,w,s,n,0⟩
 |ups {c l w s n f}:s=1->f=1->Tz (.wai c) ⟨l,w,s,n,f⟩ (.wos c 0) ⟨l,w,s,n,0⟩
 |see {c k z}:Tz (.wos c k) z (.wos c z.n) z
 |tak {c k l w s n f s'}:l=0->s=1->s'=0\/(s'=1/\0<n)->Tz (.wos c k) ⟨l,w,s,n+1,f⟩ .got ⟨1,w,s',n,f⟩
def Ks{N:Nat}{lp:Nat->LP}{s:Nat}(w:s<N)(me:LP)(φ:LP->Nat):LT N (Q9 lp s me) φ+φ (lp s)=LT N lp φ+φ me:=by
 have:=Gy (f:=λ j=>φ (lp j)) (f':=λ j=>φ (Q9 lp s me j)) w (λ j e=>by rw[Qv _ _ e]);rw[Qf]at this;exact this
def GH.step{N:Nat}{lp:Nat->LP}{z z':LZ}{s:Nat}{me':LP}(h:GH N lp z)(B:s<N)(E:Tz (lp s) z me' z'):GH N (Q9 lp s me') z':=by
 have e:=λ φ=>Ks (lp:=lp) B me' φ;have a:=e LP.h;have b:=e LP.o;have c:=e LP.i;have d:=e LP.u1;have F:=e LP.u2;have G:=e LP.us;have L:=e LP.t;have M:=e LP.k;have P:=e LP.c;have Q:=e LP.a;clear e;unfold GH at h ⊢
 revert h a b c d F G L M P Q
 generalize LT N (Q9 lp s me') LP.h=H',LT N (Q9 lp s me') LP.o=O',LT N (Q9 lp s me') LP.i=I',LT N (Q9 lp s me') LP.u1=U1',LT N (Q9 lp s me') LP.u2=U2',LT N (Q9 lp s me') LP.us=US',LT N (Q9 lp s me') LP.t=T',LT N (Q9 lp s me') LP.k=K',LT N (Q9 lp s me') LP.c=C',LT N (Q9 lp s me') LP.a=A';have q:∀φ:LP->Nat,φ (lp s)<=LT N lp φ:=λ φ=>Hm (f:=λ j=>φ (lp j)) B;have S:=q LP.h;have T:=q LP.o;have U:=q LP.i;have V:=q LP.u1;have W:=q LP.u2;have X:=q LP.us;have Y:=q LP.t;have Z:=q LP.k;have q9:=q LP.c;have qa:=q LP.a;clear q
 revert S T U V W X Y Z q9 qa
 generalize LT N lp LP.h=H,LT N lp LP.o=O,LT N lp LP.i=I,LT N lp LP.u1=U1,LT N lp LP.u2=U2,LT N lp LP.us=US,LT N lp LP.t=TT,LT N lp LP.k=K,LT N lp LP.c=C,LT N lp LP.a=A;generalize lp s=me at E;cases E with
 |queo a b w=>
  have w:=Nat.le_one_iff_eq_zero_or_eq_one.1 w;rcases w with rfl|rfl <;> simp only[LP.h,LP.o,LP.i,LP.u1,LP.u2,LP.us,LP.t,LP.k,LP.c,LP.a] <;> intros <;> refine⟨?_,?_,?_,?_⟩ <;> first|omega|(intro _;refine⟨trivial,?_,?_,?_,?_,?_,?_⟩ <;> omega)
 |_=>simp only[LP.h,LP.o,LP.i,LP.u1,LP.u2,LP.us,LP.t,LP.k,LP.c,LP.a] <;> intros <;> omega
def JG.step{N:Nat}{lp:Nat->LP}{z z':LZ}{s:Nat}{me':LP}(h:JG N lp z)(H:s<N)(E:Tz (lp s) z me' z'):JG N (Q9 lp s me') z':=by
 refine⟨h.1.step H E,λ j G=>?_⟩;by_cases e:j=s
 .subst e;rw[Qf];have w:=h.2 j G;generalize lp j=me at E w;cases E <;> first|exact w|exact Nat.zero_le _|exact Nat.le_refl _
 .rw[Qv _ _ e];have w:=h.2 j G
  have F:LP.t (lp j)+LP.t (lp s)<=LT N lp LP.t:=by
   have q:=Gy (f:=λ j=>LP.t (lp j)) (f':=λ i=>if i=s then 0 else LP.t (lp i)) H λ i L=>if_neg L;have S:=Hm (f:=λ i=>if i=s then 0 else LP.t (lp i)) G;simp only[if_true,if_neg e]at q S;show _<=QN N λ j=>LP.t (lp j);omega
  have B:LP.t (lp j)=0->LP.nk (lp j)=0:=by cases lp j <;> simp[LP.t,LP.nk]
  obtain⟨⟨_,_,P,_,_⟩,I,K,_⟩:=h.1;generalize M:lp s=me at E F;cases E with
  |wake a b c=>
   have:=(I c).2.2.2.1;have:=B O1;omega
  |tak a b c=>
   have T:=(K b).2.2.2.2.1;have Q:LP.t (lp j)+1<=LT N lp LP.t:=F;have:=B O1;omega
  |_=>first|exact w|(simp only at w ⊢;omega)
def LP.fits(N:Nat)(me:LP)(z:LZ):Prop:=
 z.l<=1/\z.w<=1/\z.s<=1/\z.f<=1/\z.n<=N/\match me with
  |.got|.own _|.rls=>z.l=1
  |.idw=>z.w=1/\z.s=0
  |.wok c=>z.w=1/\z.s=0/\c<N
  |.wos _ k=>z.l=0/\z.w=0/\z.s=1/\1<=z.n/\k<=z.n
  |.unl2|.uls=>z.f=0
  |_=>True
def JG.bounds{N:Nat}{lp:Nat->LP}{z:LZ}(h:JG N lp z):z.n<=N/\LT N lp LP.c<=N:=by
 have E:LT N lp LP.k+LT N lp LP.t<=N:=by
  have:=PL (f:=λ j=>LP.k (lp j)+LP.t (lp j)) (λ j=>by cases lp j <;> simp[LP.k,LP.t]) N
  rwa [XW]at this
 have F:LT N lp LP.a<=N:=PL (λ j=>by cases lp j <;> simp[LP.a]) N;obtain⟨⟨_,_,e,_,_⟩,w,B,G⟩:=h.1;have e:z.s=0\/z.s=1:=O1
 rcases e with e|e
 .have:=w e;omega
 .have:=B e;omega
def JG.fits{N:Nat}{lp:Nat->LP}{z:LZ}{s:Nat}(h:JG N lp z)(F:s<N):(lp s).fits N z:=by
 have V:=h.bounds;have q:∀φ:LP->Nat,φ (lp s)<=LT N lp φ:=λ φ=>Hm (f:=λ j=>φ (lp j)) F;have G:=q LP.h;have H:=q LP.o;have I:=q LP.i;have K:=q LP.u2;have L:=q LP.us;have M:=q LP.t;have P:=q LP.c
 have Y:LT N lp LP.a+LT N lp LP.o<=N:=by
  have:=PL (f:=λ j=>LP.a (lp j)+LP.o (lp j)) (λ j=>by cases lp j <;> simp[LP.a,LP.o]) N
  rwa [XW]at this
 have e:=h.2 s F;obtain⟨⟨Q,S,T,U,W⟩,B,E,X⟩:=h.1;have w:z.s=0\/z.s=1:=O1
 refine⟨Q,S,T,U,V.1,?_⟩;rcases w with w|w
 .have B:=B w
  revert G H I K L M P e
  generalize lp s=me;cases me <;> simp only[LP.h,LP.o,LP.i,LP.u2,LP.us,LP.t,LP.c,LP.nk] <;> intros <;> first|trivial|omega
 .have E:=E w
  revert G H I K L M P e
  generalize lp s=me;cases me <;> simp only[LP.h,LP.o,LP.i,LP.u2,LP.us,LP.t,LP.c,LP.nk] <;> intros <;> first|trivial|omega
def ZR(N:Nat)(lp:Nat->LP)(s:Nat):Nat:=1+QN N λ j=>if j=s then 0 else(lp j).pw N
def PB(N:Nat):Nat:=N*(N+N+7)+1
def JG.pot_le{N:Nat}{lp:Nat->LP}{z:LZ}(h:JG N lp z)(s:Nat):ZR N lp s<=PB N:=by
 have w:=h.bounds
 have:=TA (f:=λ j=>if j=s then 0 else(lp j).pw N) (B:=N+N+7) (n:=N) λ j e=>by
  have:LP.c (lp j)<=LT N lp LP.c:=Hm (f:=λ j=>LP.c (lp j)) e;show(if j=s then 0 else(lp j).pw N)<=_;split
  .omega
  .revert this
   cases lp j <;> simp only[LP.pw,LP.c] <;> intros <;> omega
 unfold ZR PB;omega
def Mx{N:Nat}{lp:Nat->LP}{s:Nat}(me:LP):ZR N (Q9 lp s me) s=ZR N lp s:=by
 unfold ZR;congr 1;refine Po λ j _=>?_;split
 .rfl
 .rename_i e;rw[Qv _ _ e]
def Il{N:Nat}{lp:Nat->LP}{s i:Nat}(me:LP)(z:s<N)(e:i≠s):ZR N (Q9 lp s me) i+(lp s).pw N=ZR N lp i+me.pw N:=by
 unfold ZR
 have:=Gy (f:=λ j=>if j=i then 0 else(lp j).pw N) (f':=λ j=>if j=i then 0 else(Q9 lp s me j).pw N) z λ j w=>by
  show(if j=i then 0 else(Q9 lp s me j).pw N)=_;rw[Qv _ _ w]
 simp only[Qf,if_neg (Ne.symm e)]at this;omega
def Tz.gain{N:Nat}{me me':LP}{z z':LZ}(h:Tz me z me' z')(e:me.c<=N):me.pw N<=me'.pw N/\(me.pw N=me'.pw N->z'.st=z.st):=by
 cases h <;> simp only[LP.pw,LP.c,LZ.st]at e ⊢ <;> first|exact⟨Nat.le_refl _,λ _=>trivial⟩|(constructor <;> omega)|skip
def JG.c_le{N:Nat}{lp:Nat->LP}{z:LZ}{s:Nat}(h:JG N lp z)(e:s<N):(lp s).c<=N:=Nat.le_trans (Hm (f:=λ j=>LP.c (lp j)) e) h.bounds.2
def JG.start(N:Nat):JG N (λ _=>.idle) ⟨0,0,0,0,0⟩:=by
 have z:∀φ:LP->Nat,φ .idle=0->LT N (λ _=>.idle) φ=0:=λ φ h=>Pu λ _ _=>h;refine⟨?_,λ j _=>Nat.le_refl _⟩;unfold GH;rw[z LP.h rfl,z LP.o rfl,z LP.i rfl,z LP.u1 rfl,z LP.u2 rfl,z LP.us rfl,z LP.t rfl,z LP.k rfl,z LP.c rfl,z LP.a rfl];simp
def JG.awake{N:Nat}{lp:Nat->LP}{z:LZ}{s c:Nat}(h:JG N lp z)(G:s<N)(H:lp s=.wai c)(S:z.f=0):∃j,j<N/\lp j≠.idle/\lp j≠.fin/\∀c,lp j≠.wai c:=by
 have q:LP.k (lp s)<=LT N lp LP.k:=Hm (f:=λ j=>LP.k (lp j)) G;rw[H]at q;simp only[LP.k]at q
 have key:0<LT N lp LP.h+(LT N lp LP.o+(LT N lp LP.i+(LT N lp LP.u1+(LT N lp LP.u2+(LT N lp LP.us+LT N lp LP.t))))):=by
  obtain⟨⟨I,K,L,M,P⟩,w,B,Q⟩:=h.1;have e:z.s=0\/z.s=1:=O1
  rcases e with e|e
  .have w:=w e;omega
  .have B:=B e;omega
 rw[<- XW,<- XW,<- XW,<- XW,<- XW,<- XW]at key;obtain⟨j,E,F⟩:=Tj key;refine⟨j,E,?_⟩
 revert F
 cases lp j <;> simp[LP.h,LP.o,LP.i,LP.u1,LP.u2,LP.us,LP.t]
def JG.owns{N:Nat}{lp:Nat->LP}{z:LZ}{s:Nat}(h:JG N lp z)(I:s<N)(K:(lp s).h=1):LT N lp LP.ow=(lp s).ow/\∀j,j<N->j≠s->(lp j).h=0:=by
 have B:LT N lp LP.h<=1:=by
  obtain⟨⟨B,G,E,F,H⟩,-⟩:=h.1;omega
 have B:(QN N λ j=>(lp j).h)<=1:=B;have G:=Gy (f:=λ j=>LP.h (lp j)) (f':=λ j=>if j=s then 0 else LP.h (lp j)) I λ j w=>if_neg w;simp only[if_true,K]at G
 have E:∀j,j<N->j≠s->(lp j).h=0:=by
  intro j w e;have:=Hm (f:=λ j=>if j=s then 0 else LP.h (lp j)) w;simp only[if_neg e]at this;omega
 refine⟨?_,E⟩;have F:=Gy (f:=λ j=>LP.ow (lp j)) (f':=λ j=>if j=s then 0 else LP.ow (lp j)) I λ j w=>if_neg w;simp only[if_true]at F
 have H:(QN N λ j=>if j=s then 0 else LP.ow (lp j))=0:=Pu λ j w=>by
  split
  .rfl
  .rename_i e;have:=E j w e
   revert this
   cases lp j <;> simp[LP.h,LP.ow]
 rw[H]at F;show QN N (λ j=>LP.ow (lp j))=_;omega
abbrev Spec:=List Q2->Prop
inductive PS where
 |run|seen (u:Nat)|wait|up
inductive Ph where
 |out
 |par (b:Nat) (ds:List Spec) (pend:Bool) (k:PS)
 |wrk (b:Nat) (D:Spec)
 |rel (b:Nat)
 |lst (b:Nat) (i:Nat)
structure ZA where
 m:Nat
 t:TypeId
 sp:(Nat->Bool)->Spec
inductive ZK where
 |par (x:ZA) (u:Nat->Bool)
 |lok (x:ZA) (s:Nat) (me:LP) (lo:Nat×Nat)
def ZK.mb:Option ZK->Option Nat
 |some (.par x _)=>some x.m
 |_=>none
structure Tk where
 d:Nat
 ph:Ph
 mu:Option ZK
def ZA.dep(x:ZA)(lp:Nat->LP)(M:List Q2):Prop:=x.sp (λ s=>(lp s).rels) M
def Ph.blk:Ph->Option Nat
 |.out=>none
 |.par b ..|.wrk b _|.rel b|.lst b _=>some b
def ZZ:Ph->Bool
 |.wrk ..|.rel _=>true
 |_=>false
def Uf{α:Type _}(f:Nat->α)(p:α->Bool)(i:Nat)(x:α):∀{W:List Nat},W.Nodup->i∈W->W.countP (λ j=>p (Q9 f i x j))+(p (f i)).toNat=W.countP (λ j=>p (f j))+(p x).toNat:=by
 intro W
 induction W with
 |nil=>intro _ h;cases h
 |cons a W F=>
  intro w B;obtain⟨z,w⟩:=nodup_cons.1 w;simp only[countP_cons];by_cases e:a=i
  .subst e
   have:W.countP (λ j=>p (Q9 f a x j))=W.countP (λ j=>p (f j)):=by
    refine countP_congr λ j E=>?_;rw[Qv];intro e;subst e;exact z E
   rw[this,Qf];cases p (f a) <;> cases p x <;> simp <;> omega
  .have hi':i∈W:=by simpa[Ne.symm e]using B
   have:=F w hi';rw[Qv _ _ e];omega
def NY{α:Type _}(f:Nat->α)(p:α->Bool)(i:Nat)(x:α){W:List Nat}(h:i∉W):W.countP (λ j=>p (Q9 f i x j))=W.countP (λ j=>p (f j)):=by
 refine countP_congr λ j w=>?_;rw[Qv];intro e;subst e;exact h w
def XF(b:Nat)(tk:Nat->Ph):Prop:=∀i j,tk i≠.lst b j
structure GI(N b:Nat)(ds:List Spec)(pend:Bool)(k:PS)(tk:Nat->Ph)(rel:Nat->Option Nat)(dM:Nat->List Q2)(W:List Nat)(c wt s:Nat):Prop where
 nodup:W.Nodup
 len:W.length=ds.length
 spec:∀(j i:Nat)(D:Spec),W[j]?=some i->ds[j]?=some D->(tk i=.wrk b D/\rel i=none)\/((∀D',tk i≠.wrk b D')/\(∃r,rel i=some r)/\D (dM i))
 inW:∀i,(tk i≠.out\/rel i≠none)->i∈W
 cnt:c=W.countP (λ i=>ZZ (tk i))+pend.toNat
 ph:∀i,tk i=.out\/(∃D,tk i=.wrk b D)\/tk i=.rel b\/∃j,tk i=.lst b j
 bound:ds.length+pend.toNat<=N
 state:match k with
  |.run=>wt=0/\s=0/\XF b tk
  |.seen u=>c<=u/\wt=0/\s=0/\XF b tk
  |.wait=>pend=false/\((1<=c/\wt=1/\s=0/\XF b tk)\/(c=0/\∃i0 j0,(∀i j,tk i=.lst b j↔i=i0/\j=j0)/\((j0<=1/\wt=1/\s=0)\/(j0=2/\wt=0/\s=0)))\/(c=0/\wt=0/\s=1/\XF b tk))
  |.up=>pend=false/\c=0/\wt=0/\s=0/\XF b tk
section
variable{N b:Nat}{ds:List Spec}{pend:Bool}{k:PS}{tk:Nat->Ph}{rel:Nat->Option Nat}{dM:Nat->List Q2}{W:List Nat}{c wt s:Nat}
def GI.cN(h:GI N b ds pend k tk rel dM W c wt s):c<=ds.length+pend.toNat:=by
 rw[h.cnt];have:=countP_le_length (p:=λ i=>ZZ (tk i)) (l:=W);have:=h.len;omega
def GI.start(f:∀i,tk i=.out)(w:∀i,rel i=none):GI N b [] false .run tk rel dM [] 0 0 0:=
 ⟨.nil,rfl,λ j i D h=>by simp at h,λ i h=>by simp[f,w]at h,rfl,λ i=>.inl (f i),S1,rfl,rfl,λ i j e=>by rw[f]at e;cases e⟩
def GI.add(h:GI N b ds false .run tk rel dM W c wt s)(e:ds.length<N):GI N b ds true .run tk rel dM W (c+1) wt s:=
 ⟨h.nodup,h.len,h.spec,h.inW,by have:=h.cnt;simp at this ⊢;omega,h.ph,S3,h.state⟩
def GI.go{i:Nat}{D:Spec}(h:GI N b ds true .run tk rel dM W c wt s)(F:tk i=.out)(E:rel i=none)(w:i∉W) :
  GI N b (D::ds) false .run (Q9 tk i (.wrk b D)) rel dM (i::W) c wt s:=by
 refine⟨nodup_cons.2 ⟨w,h.nodup⟩,by simp[h.len],?_,?_,?_,?_,?_,?_⟩
 .intro j f D' h1 h2;cases j with
  |zero=>
   simp at h1 h2;subst h1;subst h2;exact .inl ⟨Qf ..,E⟩
  |succ j=>
   simp at h1 h2;have B:f∈W:=mem_of_getElem? h1;have z:f≠i:=λ e=>w (e▸B);rw[Qv _ _ z];exact h.spec j f D' h1 h2
 .intro f h1;by_cases e:f=i
  .subst e;simp
  .rw[Qv _ _ e]at h1;exact mem_cons_of_mem _ (h.inW f h1)
 .rw[countP_cons,Qf,NY tk ZZ i _ w];have:=h.cnt;simp[ZZ]at this ⊢;omega
 .intro f;by_cases e:f=i
  .subst e;rw[Qf];exact .inr (.inl ⟨D,rfl⟩)
  .rw[Qv _ _ e];exact h.ph f
 .have:=h.bound;simp at this ⊢;omega
 .obtain⟨h1,h2,h3⟩:=h.state;refine⟨h1,h2,λ f j=>?_⟩;by_cases e:f=i
  .subst e;rw[Qf];intro h;cases h
  .rw[Qv _ _ e];exact h3 f j
def X7(ds:List Spec)(u:Nat)(k:PS):Prop:=(k=.run/\u=ds.length)\/k=.seen u
def GI.seeU{u:Nat}(h:GI N b ds false k tk rel dM W c wt s)(f:X7 ds u k):c<=u/\wt=0/\s=0/\XF b tk:=by
 have e:=h.state;rcases f with⟨rfl,rfl⟩|rfl
 .have:=h.cN;simp at this;exact⟨this,e⟩
 .exact e
def GI.toUp{u:Nat}(h:GI N b ds false k tk rel dM W 0 wt s)(e:X7 ds u k):GI N b ds false .up tk rel dM W 0 wt s:=
 ⟨h.nodup,h.len,h.spec,h.inW,h.cnt,h.ph,h.bound,rfl,rfl,(h.seeU e).2⟩
def GI.toSeen{u:Nat}(h:GI N b ds false k tk rel dM W c wt s)(e:X7 ds u k):GI N b ds false (.seen c) tk rel dM W c wt s:=
 ⟨h.nodup,h.len,h.spec,h.inW,h.cnt,h.ph,h.bound,Nat.le_refl _,(h.seeU e).2⟩
def GI.toWait{u:Nat}(h:GI N b ds false k tk rel dM W c wt s)(f:X7 ds u k)(e:1<=c):GI N b ds false .wait tk rel dM W c 1 s:=
 ⟨h.nodup,h.len,h.spec,h.inW,h.cnt,h.ph,h.bound,rfl,.inl ⟨e,rfl,(h.seeU f).2.2⟩⟩
def GI.sema(h:GI N b ds pend .wait tk rel dM W c wt 1):GI N b ds false .up tk rel dM W 0 0 0/\c=0/\wt=0/\pend=false:=by
 obtain⟨B,E⟩:=h.state;rcases E with⟨_,_,e,_⟩|⟨_,F,G,_,⟨_,_,e⟩|⟨_,_,e⟩⟩|⟨f,w,_,z⟩
 .cases e
 .cases e
 .cases e
 .subst f;subst w;subst B;exact⟨⟨h.nodup,h.len,h.spec,h.inW,h.cnt,h.ph,h.bound,rfl,rfl,rfl,rfl,z⟩,rfl,rfl,rfl⟩
def GI.up(h:GI N b ds pend .up tk rel dM W c wt s):pend=false/\c=0/\wt=0/\s=0/\(∀i,tk i=.out)/\∀i,i∈W->∃r,rel i=some r:=by
 obtain⟨w,z,I,K,L⟩:=h.state
 have F:∀i∈W,ZZ (tk i)=false:=by
  have:=h.cnt;rw[z,w]at this;simp at this;have H:W.countP (λ i=>ZZ (tk i))=0:=O1
  intro i B;have:=countP_eq_zero.1 H i B;simpa using this
 have f:∀i,tk i=.out:=by
  intro i;rcases h.ph i with e|⟨D,e⟩|e|⟨j,e⟩
  .exact e
  .have:=F i (h.inW i (.inl (by rw[e];simp)));rw[e]at this;cases this
  .have:=F i (h.inW i (.inl (by rw[e];simp)));rw[e]at this;cases this
  .exact absurd e (L i j)
 refine⟨w,z,I,K,f,λ i B=>?_⟩;obtain⟨j,G,e⟩:=mem_iff_getElem.1 B;have E:j<ds.length:=by rw[<- h.len];exact G
 rcases h.spec j i ds[j] (by rw[getElem?_eq_getElem G,e]) (getElem?_eq_getElem E)with⟨w,_⟩|⟨_,z,_⟩
 .rw[f]at w;cases w
 .exact z
def XI:List Spec->List (List Q2)->Prop
 |[],[]=>True
 |D::ds,M::e=>D M/\XI ds e
 |_,_=>False
def O_:∀{ds:List Spec}{W:List Nat},W.length=ds.length->(∀(j i:Nat)(D:Spec),W[j]?=some i->ds[j]?=some D->D (dM i))->XI ds (W.map dM)
 |[],[],_,_=>trivial
 |[],_::_,h,_=>by simp at h
 |_::_,[],h,_=>by simp at h
 |D::ds,i::W,h,e=>⟨e 0 i D rfl rfl,O_ (by simpa using h) λ j B f w z=>e (j+1) B f (by simpa using w) (by simpa using z)⟩
def GI.deps(h:GI N b ds pend .up tk rel dM W c wt s):XI ds (W.map dM):=by
 refine O_ h.len λ j i D f w=>?_;rcases h.spec j i D f w with⟨e,_⟩|⟨_,_,e⟩
 .rw[h.up.2.2.2.2.1]at e;cases e
 .exact e
def GI.rel_{i r:Nat}{D:Spec}{M:List Q2}(h:GI N b ds pend k tk rel dM W c wt s)(G:tk i=.wrk b D)(S:D M) :
  GI N b ds pend k (Q9 tk i (.rel b)) (Q9 rel i (some r)) (Q9 dM i M) W c wt s/\rel i=none:=by
 have K:i∈W:=h.inW i (.inl (by rw[G];simp))
 have H:rel i=none:=by
  obtain⟨j,P,e⟩:=mem_iff_getElem.1 K;have L:j<ds.length:=by rw[<- h.len];exact P
  rcases h.spec j i ds[j] (by rw[getElem?_eq_getElem P,e]) (getElem?_eq_getElem L)with⟨_,w⟩|⟨w,_⟩
  .exact w
  .exact absurd G (w D)
 have F:∀f j,Q9 tk i (.rel b) f=.lst b j↔tk f=.lst b j:=by
  intro f j;by_cases e:f=i
  .subst e;rw[Qf,G];simp
  .rw[Qv _ _ e]
 have B:XF b tk->XF b (Q9 tk i (.rel b)):=λ T f j e=>T f j ((F f j).1 e);refine⟨⟨h.nodup,h.len,?_,?_,?_,?_,h.bound,?_⟩,H⟩
 .intro j f D' z w;by_cases e:f=i
  .subst e;refine .inr ⟨λ Q h=>(by rw[Qf]at h;cases h),⟨r,Qf ..⟩,?_⟩;rw[Qf];rcases h.spec j f D' z w with⟨E,_⟩|⟨E,_⟩
   .rw[G]at E;cases E;exact S
   .exact absurd G (E D)
  .rw[Qv _ _ e,Qv _ _ e,Qv _ _ e];exact h.spec j f D' z w
 .intro f z;by_cases e:f=i
  .subst e;exact K
  .rw[Qv _ _ e,Qv _ _ e]at z;exact h.inW f z
 .have:=Uf tk ZZ i (.rel b) h.nodup K;rw[G]at this;have w:=h.cnt;simp[ZZ]at this w ⊢;omega
 .intro f;by_cases e:f=i
  .subst e;rw[Qf];exact .inr (.inr (.inl rfl))
  .rw[Qv _ _ e];exact h.ph f
 .have:=h.state;cases k with
  |run=>exact⟨this.1,this.2.1,B this.2.2⟩
  |seen u=>exact⟨this.1,this.2.1,this.2.2.1,B this.2.2.2⟩
  |wait=>
   refine⟨this.1,?_⟩;rcases this.2 with⟨z,w,E,I⟩|⟨z,U,V,w,E⟩|⟨z,w,E,I⟩
   .exact .inl ⟨z,w,E,B I⟩
   .exact .inr (.inl ⟨z,U,V,λ f j=>(F f j).trans (w f j),E⟩)
   .exact .inr (.inr ⟨z,w,E,B I⟩)
  |up=>exact⟨this.1,this.2.1,this.2.2.1,this.2.2.2.1,B this.2.2.2.2⟩
def GI.move{i:Nat}{p:Ph}(h:GI N b ds pend k tk rel dM W c wt s)(G:tk i=.rel b\/∃j,tk i=.lst b j)(E:p=.out\/∃j,p=.lst b j) :
  i∈W/\(∀(j f:Nat)(D:Spec),W[j]?=some f->ds[j]?=some D->(Q9 tk i p f=.wrk b D/\rel f=none)\/((∀z,Q9 tk i p f≠.wrk b z)/\(∃r,rel f=some r)/\D (dM f))) /\
  (∀f,(Q9 tk i p f≠.out\/rel f≠none)->f∈W)/\(W.countP (λ j=>ZZ (Q9 tk i p j))+(ZZ (tk i)).toNat=W.countP (λ j=>ZZ (tk j))) /\
  (∀f,Q9 tk i p f=.out\/(∃D,Q9 tk i p f=.wrk b D)\/Q9 tk i p f=.rel b\/∃j,Q9 tk i p f=.lst b j):=by
 have B:i∈W:=h.inW i (.inl (by rcases G with e|⟨j,e⟩ <;> rw[e] <;> simp));have F:∀D,p≠.wrk b D:=by rintro D rfl;rcases E with e|⟨j,e⟩ <;> cases e
 refine⟨B,?_,?_,?_,?_⟩
 .intro j f D h1 h2;by_cases e:f=i
  .subst e;rcases h.spec j f D h1 h2 with⟨w,_⟩|⟨_,w⟩
   .rcases G with e|⟨H,e⟩ <;> rw[e]at w <;> cases w
   .exact .inr ⟨λ z h=>F z (by rwa [Qf]at h),w⟩
  .rw[Qv _ _ e];exact h.spec j f D h1 h2
 .intro f h1;by_cases e:f=i
  .subst e;exact B
  .rw[Qv _ _ e]at h1;exact h.inW f h1
 .have:=Uf tk ZZ i p h.nodup B;have e:ZZ p=false:=by rcases E with e|⟨j,e⟩ <;> rw[e] <;> rfl
  rw[e]at this;simpa using this
 .intro f;by_cases e:f=i
  .subst e;rw[Qf];exact E.elim .inl λ x=>.inr (.inr (.inr x))
  .rw[Qv _ _ e];exact h.ph f
def GI.relC{i:Nat}(h:GI N b ds pend k tk rel dM W c wt s)(w:tk i=.rel b):1<=c/\c<=N/\wt<=1/\s=0:=by
 have z:i∈W:=h.inW i (.inl (by rw[w];simp))
 have B:1<=c:=by
  rw[h.cnt];have:0<W.countP (λ i=>ZZ (tk i)):=countP_pos_iff.2 ⟨i,z,by rw[w];rfl⟩;omega
 refine⟨B,Nat.le_trans h.cN h.bound,?_⟩;have:=h.state;cases k with
 |run=>obtain⟨e,f,_⟩:=this;omega
 |seen u=>obtain⟨_,e,f,_⟩:=this;omega
 |wait=>
  rcases this.2 with⟨_,f,E,_⟩|⟨e,_⟩|⟨e,_⟩
  .omega
  .omega
  .omega
 |up=>obtain⟨_,e,_⟩:=this;omega
def GI.leave{i:Nat}(h:GI N b ds pend k tk rel dM W c wt s)(z:tk i=.rel b)(E:¬(c=1/\wt=1)) :
  GI N b ds pend k (Q9 tk i .out) rel dM W (c-1) wt s:=by
 obtain⟨P,-,-,Q⟩:=h.relC z;obtain⟨M,G,H,B,I⟩:=h.move (p:=.out) (.inl z) (.inl rfl)
 have f:XF b tk->XF b (Q9 tk i .out):=by
  intro E F j e;by_cases e':F=i
  .subst e';rw[Qf]at e;cases e
  .rw[Qv _ _ e']at e;exact E F j e
 refine⟨h.nodup,h.len,G,H,?_,I,h.bound,?_⟩
 .have:=h.cnt;rw[z]at B;simp only[show ZZ (Ph.rel b)=true from rfl,Bool.toNat_true]at B;omega
 .have:=h.state;cases k with
  |run=>exact⟨this.1,this.2.1,f this.2.2⟩
  |seen u=>exact⟨Nat.le_trans (Nat.sub_le _ _) this.1,this.2.1,this.2.2.1,f this.2.2.2⟩
  |wait=>
   refine⟨this.1,?_⟩;rcases this.2 with⟨_,w,K,L⟩|⟨w,_⟩|⟨w,_⟩
   .exact .inl ⟨O1,w,K,f L⟩
   .omega
   .omega
  |up=>obtain⟨_,w,_⟩:=this;omega
def GI.last{i:Nat}(h:GI N b ds pend k tk rel dM W 1 1 s)(z:tk i=.rel b) :
  k=.wait/\GI N b ds pend .wait (Q9 tk i (.lst b 0)) rel dM W 0 1 s:=by
 obtain⟨P,-,-,Q⟩:=h.relC z;obtain⟨M,G,H,B,I⟩:=h.move (p:=.lst b 0) (.inl z) (.inr ⟨0,rfl⟩);have f:=h.state;have E:=h.cnt;cases k with
 |run=>exact absurd f.1 D1
 |seen u=>exact absurd f.2.1 D1
 |up=>exact absurd f.2.1 D1
 |wait=>
  refine⟨rfl,h.nodup,h.len,G,H,?_,I,h.bound,f.1,?_⟩
  .rw[z]at B;simp only[show ZZ (Ph.rel b)=true from rfl,Bool.toNat_true]at B;omega
  .rcases f.2 with⟨_,w,K,L⟩|⟨w,_⟩|⟨w,_⟩
   .refine .inr (.inl ⟨rfl,i,0,λ F j=>?_,.inl ⟨O1,rfl,K⟩⟩);by_cases e:F=i
    .subst e;rw[Qf];constructor
     .intro e;cases e;exact⟨rfl,rfl⟩
     .rintro⟨_,rfl⟩;rfl
    .rw[Qv _ _ e];exact⟨λ e'=>absurd e' (L F j),λ e'=>absurd e'.1 e⟩
   .cases w
   .cases w
def GI.lstAt{i j:Nat}(h:GI N b ds pend k tk rel dM W c wt s)(f:tk i=.lst b j) :
  k=.wait/\c=0/\s=0/\((j<=1/\wt=1)\/(j=2/\wt=0))/\∀E F,tk E=.lst b F↔E=i/\F=j:=by
 have e:=h.state;cases k with
 |run=>exact absurd f (e.2.2 i j)
 |seen u=>exact absurd f (e.2.2.2 i j)
 |up=>exact absurd f (e.2.2.2.2 i j)
 |wait=>
  rcases e.2 with⟨_,_,_,w⟩|⟨G,H,I,z,B⟩|⟨_,_,_,w⟩
  .exact absurd f (w i j)
  .obtain⟨rfl,rfl⟩:=(z i j).1 f;refine⟨rfl,G,?_,?_,z⟩
   .rcases B with⟨_,_,h⟩|⟨_,_,h⟩ <;> exact h
   .rcases B with⟨a,b,_⟩|⟨a,b,_⟩
    .exact .inl ⟨a,b⟩
    .exact .inr ⟨a,b⟩
  .exact absurd f (w i j)
def GI.next{i j wt':Nat}(h:GI N b ds pend k tk rel dM W c wt s)(f:tk i=.lst b j)(F:(j=0/\wt'=1)\/(j=1/\wt'=0)) :
  GI N b ds pend k (Q9 tk i (.lst b (j+1))) rel dM W c wt' s:=by
 obtain⟨rfl,B,w,L,E⟩:=h.lstAt f;obtain⟨M,H,I,z,K⟩:=h.move (p:=.lst b (j+1)) (.inr ⟨j,f⟩) (.inr ⟨j+1,rfl⟩);refine⟨h.nodup,h.len,H,I,?_,K,h.bound,h.state.1,.inr (.inl ⟨B,i,j+1,λ G P=>?_,?_⟩)⟩
 .have:=h.cnt;rw[f]at z;simp only[show ∀j,ZZ (Ph.lst b j)=false from λ _=>rfl,Bool.toNat_false]at z;omega
 .by_cases e:G=i
  .subst e;rw[Qf];constructor
   .intro e;cases e;exact⟨rfl,rfl⟩
   .rintro⟨_,rfl⟩;rfl
  .rw[Qv _ _ e,E];exact⟨λ e'=>absurd e'.1 e,λ e'=>absurd e'.1 e⟩
 .rcases F with⟨rfl,rfl⟩|⟨rfl,rfl⟩
  .exact .inl ⟨O1,rfl,w⟩
  .exact .inr ⟨rfl,rfl,w⟩
def GI.wake{i:Nat}(h:GI N b ds pend k tk rel dM W c wt s)(f:tk i=.lst b 2):GI N b ds pend k (Q9 tk i .out) rel dM W c wt 1:=by
 obtain⟨rfl,E,L,M,F⟩:=h.lstAt f;obtain⟨P,H,I,B,K⟩:=h.move (p:=.out) (.inr ⟨2,f⟩) (.inl rfl);have w:wt=0:=O1
 refine⟨h.nodup,h.len,H,I,?_,K,h.bound,h.state.1,.inr (.inr ⟨E,w,rfl,λ z G e=>?_⟩)⟩
 .have:=h.cnt;rw[f]at B;simp only[show ∀j,ZZ (Ph.lst b j)=false from λ _=>rfl,Bool.toNat_false]at B;omega
 .by_cases e':z=i
  .subst e';rw[Qf]at e;cases e
  .rw[Qv _ _ e']at e;exact e' ((F z G).1 e).1
def GI.someone(h:GI N b ds pend .wait tk rel dM W c wt 0):∃i,tk i≠.out:=by
 obtain⟨E,F⟩:=h.state;rcases F with⟨H,_,_,_⟩|⟨_,w,G,z,_⟩|⟨_,_,B,_⟩
 .have:=h.cnt;rw[E]at this;simp at this;have:0<W.countP (λ i=>ZZ (tk i)):=O1
  obtain⟨i,_,f⟩:=countP_pos_iff.1 this;exact⟨i,λ e=>by rw[e]at f;cases f⟩
 .exact⟨w,λ e=>by have:=(z w G).2 ⟨rfl,rfl⟩;rw[this]at e;cases e⟩
 .cases B
end
inductive SE where
 |go (g:Gr) (st sm:Value) (es:Array Event) (bs:List (Nat×Bool))
 |spawn (g child:Gr) (es:Array Event)
 |blocked (g:Gr) (st sm:Value) (bs:List (Nat×Bool))
 |stuck
def Wq(fr:Frame)(cs:List Frame):Gr:={ frame:=fr,callers:=cs,status:=.running,dying:=none }
def SE.still(st sm:Value)(fr:Frame)(cs:List Frame):SE:=.go (Wq fr cs) st sm #[] []
def ER(fr:Frame):CallKind:=match fr.todo with|.call _ true _ _::_=>.wrapped|_=>.normal
def GG(P:Program)(d:Deferred):Gr:=Wq { (default:Frame)with fn:=P.funcs.size,defers:=[d],mode:=.panicking [goexitEntry] } []
def P_:Target->Bool
 |.fn _ _=>true
 |_=>false
def PK(P:Program)(fr:Frame)(cs:List Frame)(d:Deferred)(es:Array Event)(bs:List (Nat×Bool)):SE:=
 bif P_ d.target&&bs.isEmpty then .spawn (Wq (fr.finish undef) cs) (GG P d) (seen P fr.fn es)else .stuck
def WZ(P:Program)(fr:Frame)(cs:List Frame):QE Next->SE
 |.ok n st sm es bs=>match fr.kind with
  |.early=>.stuck
  |_=>match n with
   |.value v=>.go (Wq (fr.finish v) cs) st sm (seen P fr.fn es) bs
   |.skip=>.go (Wq (fr.finish undef) cs) st sm (seen P fr.fn es) bs
   |.enter f args=>.go (Wq (Frame.enter P f args (ER fr)) (fr::cs)) st sm (seen P fr.fn es) bs
   |.defer d=>.go (Wq ({ fr with defers:=d::fr.defers }.finish undef) cs) st sm (seen P fr.fn es) bs
   |.spawn d=>PK P fr cs d es bs
   |_=>.stuck
 |.blocked st sm bs=>match fr.kind with
  |.early=>.stuck
  |_=>.blocked { frame:=fr,callers:=cs,status:=.blocked,dying:=none } st sm bs
 |.stuck=>.stuck
def GO(P:Program)(t:TypeId)(fr:Frame)(cs:List Frame)(st sm:Value):SE:=
 let to (todo:List Item):SE:=.still st sm { fr with todo } cs
 let leave (jump:Option Code):SE:=match fr.roundOf,jump with
  |none,none=>.still st sm { fr with mode:=.returning } cs
  |none,some .ret=>.still st sm { fr with mode:=.returning } cs
  |_,_=>.stuck
 match fr.todo with
 |[]=>leave none
 |.code .ret::_=>leave (some .ret)
 |.code .skip::k|.code (.label _)::k|.inBlock _::k|.inScope _::k=>to k
 |.code (.seq a b)::k=>to (.code a::.code b::k)
 |.code (.cond c f e)::k=>match fr.eval c with
  |.bool b=>to (.code (if b then f else e)::k)
  |_=>.stuck
 |.code (.block id body)::k=>to (.code body::.inBlock id::k)
 |.code (.loop body)::k|.inLoop body::k=>to (.code body::.inLoop body::k)
 |.code (.scope body)::k=>to (.code body::.inScope body::k)
 |.code (.exit id)::k=>match exitTo id k with
  |some k'=>to k'
  |none=>.stuck
 |.code (.region _ ops false)::k=>to (.inRegion ops (range ops.size)::k)
 |.inRegion _ []::k=>to k
 |.inRegion ops (i::_)::_=>match ops[i]? with
  |some o=>(match Region.wanted o (yielded ops fr.tmps)with
   |true=>(match fr.roundOf with
    |none=>WZ P fr cs (Jo P t (execOp fr.eval o) st sm #[] [])
    |some _=>.stuck)
   |false=>.still st sm (fr.finish undef) cs)
  |none=>.stuck
 |_=>.stuck
def GX(m:Bool)(fr:Frame)(cs:List Frame)(v:Value)(st sm:Value)(es:Array Event)(bs:List (Nat×Bool)):SE:=
 match cs with
 |c::rest=>(match fr.kind with
  |.normal=>.go (Wq (c.finish v) rest) st sm es bs
  |.deferred=>.go (Wq (match c.mode with
    |.panicking ({ recovered:=true,.. }::older)=>
     match older.dropWhile (!·.goexit)with
     |[]=>{ c with mode:=.returning }
     |rest=>{ c with mode:=.panicking rest }
    |_=>c) rest) st sm es bs
  |_=>.stuck)
 |[]=>(match m,fr.kind with
  |false,.normal=>.go { frame:=fr,callers:=[],status:=.finished,dying:=none } st sm es bs
  |_,_=>.stuck)
def HX(P:Program)(fr:Frame)(ds:List Deferred)(cs:List Frame):QE Next->SE
 |.ok n st sm es bs=>(match n with
  |.enter f args=>.go (Wq (Frame.enter P f args .deferred) ({ fr with defers:=ds }::cs)) st sm (seen P fr.fn es) bs
  |.value _=>.go (Wq { fr with defers:=ds } cs) st sm (seen P fr.fn es) bs
  |_=>.stuck)
 |_=>.stuck
def G7(P:Program)(m:Bool)(fr:Frame)(cs:List Frame):QE Value->SE
 |.ok v st sm es bs=>GX m fr cs v st sm (seen P fr.fn es) bs
 |_=>.stuck
def GA(P:Program)(t:TypeId)(m:Bool)(fr:Frame)(cs:List Frame)(st sm:Value):SE:=
 match fr.defers with
 |d::ds=>(match d.target with
  |.fn _ _=>HX P fr ds cs (Jo P t (invoke d.target d.args) st sm #[] [])
  |_=>.stuck)
 |[]=>(match fr.mode with
  |.returning=>(match P.funcs[fr.fn]? with
   |some fn=>G7 P m fr cs (Jo P t (results fn fr.tmps) st sm #[] [])
   |none=>.stuck)
  |.panicking chain=>(match cs,fr.todo,P.funcs[fr.fn]?,chain with
   |[],[],none,e::_=>(match e.goexit with
    |true=>.go { frame:=fr,callers:=[],status:=.finished,dying:=none } st sm #[] []
    |false=>.stuck)
   |_,_,_,_=>.stuck)
  |.run=>.stuck)
def Q5(P:Program)(t:TypeId)(m:Bool)(g:Gr)(st sm:Value):SE:=
 match g.status with
 |.running=>(match g.dying with
  |some _=>.stuck
  |none=>(match g.frame.mode with
   |.run=>GO P t g.frame g.callers st sm
   |_=>GA P t m g.frame g.callers st sm))
 |_=>.stuck
def Hs(s:GStep)(W:Value->Value->World)(ok:List (Nat×Bool)->Prop)(w:World):SE->Prop
 |.go g' st' sm' es bs=>ok bs->s=.go g' (W st' sm') es
 |.spawn g' c es=>s=.spawn g' c w es
 |.blocked g' st' sm' bs=>ok bs->s=.go g' (W st' sm') #[]
 |.stuck=>True
set_option linter.unusedVariables false
variable{P:Program}{m:Bool}{t:TypeId}{w:World}{st sm:Value}{W:Value->Value->World}{ok:List (Nat×Bool)->Prop}
def Wr(P:Program)(f:FuncId):seen P f #[]=#[]:=by simp[seen]
def Ap{fr:Frame}{cs:List Frame}{s:Sem Next}(H:WW P t st sm w W ok) :
  Hs (stepG.apply P true fr cs none s w) W ok w (WZ P fr cs (Jo P t s st sm #[] [])):=by
 have h:=H.ran s;have z:=@Es P t _ s st sm #[] [];generalize Jo P t s st sm #[] []=r at h z;cases r with
 |ok n st' sm' es bs=>
  simp only[WZ];split
  .trivial
  .rename_i hk
   have e:(fr.kind==CallKind.early)=false:=by
    cases G:fr.kind <;> first|rfl|exact absurd G (by simpa using hk)
   cases n with
   |value v=>
    intro E;have B:=h E;simp only[stepG.apply,if_true,B,e,Bool.false_eq_true,if_false,GStep.after,Wq,Array.append_empty]
   |skip=>
    intro E;have B:=h E;simp only[stepG.apply,if_true,B,e,Bool.false_eq_true,if_false,GStep.after,Wq,Array.append_empty]
   |enter f args=>
    intro E;have B:=h E;simp only[stepG.apply,if_true,B,e,Bool.false_eq_true,if_false,GStep.after,Wq,Array.append_empty,ER];rfl
   |defer d=>
    intro E;have B:=h E;simp only[stepG.apply,if_true,B,e,Bool.false_eq_true,if_false,GStep.after,Wq,Array.append_empty]
   |spawn d=>
    show Hs _ W ok w (PK P fr cs d es bs);unfold PK;cases F:P_ d.target&&bs.isEmpty with
    |true=>
     simp only[Bool.and_eq_true,isEmpty_iff]at F;obtain⟨F,rfl⟩:=F;obtain⟨⟨rfl,rfl⟩,-⟩:=(z rfl).2 rfl;have I:=h H.nil;rw[H.same]at I;cases K:d.target <;> rw[K]at F <;> first|cases F|skip
     simp only[cond_true,Hs,stepG.apply,if_true,I,e,Bool.false_eq_true,if_false,K,Bool.and_false,Bool.false_and,GStep.after,Wq,Array.append_empty,GG]
    |false=>trivial
   |_=>trivial
 |blocked st' sm' bs=>
  simp only[WZ];split
  .trivial
  .rename_i hk
   have e:(fr.kind==CallKind.early)=false:=by
    cases G:fr.kind <;> first|rfl|exact absurd G (by simpa using hk)
   intro E;obtain⟨L,B⟩:=h E;simp only[stepG.apply,if_true,B,e,Bool.false_eq_true,if_false,Wr,GStep.after,Array.append_empty]
 |stuck=>trivial
def Zv{fr:Frame}{cs:List Frame}{s:GStep}(e:WW P t st sm w W ok)(h:s=.go (Wq fr cs) w):Hs s W ok w (.still st sm fr cs):=by
 intro _;rw[e.same];exact h
def BC{fr:Frame}{cs:List Frame}{status:GoStatus}{offers:Option (Array CommCase×CommShape)}(E:fr.mode=.run)(f:WW P t st sm w W ok) :
  Hs (stepG P m { frame:=fr,callers:=cs,status,dying:=none,offers } w) W ok w (GO P t fr cs st sm):=by
 have e:stepG P m { frame:=fr,callers:=cs,status,dying:=none,offers } w=stepG.exec P m true fr cs none w:=by
  simp only[stepG,E]
 rw[e];unfold GO;simp only;split
 .rename_i ht;cases z:fr.roundOf with
  |none=>exact Zv f (by simp[stepG.exec,ht,z,Wq])
  |some l=>trivial
 .rename_i k ht;cases z:fr.roundOf with
  |none=>exact Zv f (by simp[stepG.exec,ht,z,Wq])
  |some l=>trivial
 .rename_i k ht;exact Zv f (by simp[stepG.exec,ht,Wq])
 .rename_i k ht;exact Zv f (by simp[stepG.exec,ht,Wq])
 .rename_i k ht;exact Zv f (by simp[stepG.exec,ht,Wq])
 .rename_i k ht;exact Zv f (by simp[stepG.exec,ht,Wq])
 .rename_i x y k ht;exact Zv f (by simp[stepG.exec,ht,Wq])
 .rename_i c x y k ht;split
  .rename_i bb hb;exact Zv f (by simp[stepG.exec,ht,hb,Wq])
  .trivial
 .rename_i id body k ht;exact Zv f (by simp[stepG.exec,ht,Wq])
 .rename_i body k ht;exact Zv f (by simp[stepG.exec,ht,Wq])
 .rename_i body k ht;exact Zv f (by simp[stepG.exec,ht,Wq])
 .rename_i body k ht;exact Zv f (by simp[stepG.exec,ht,Wq])
 .rename_i id k ht;split
  .rename_i k' hk;exact Zv f (by simp[stepG.exec,ht,hk,Wq])
  .trivial
 .rename_i id ops k ht;exact Zv f (by simp[stepG.exec,ht,Wq])
 .rename_i ops k ht;exact Zv f (by simp[stepG.exec,ht,Wq])
 .rename_i ops i rest k ht;split
  .rename_i o ho;split
   .rename_i hw;split
    .rename_i z
     have B:stepG.exec P m true fr cs none w=stepG.apply P true fr cs none (execOp fr.eval o) w:=by
      simp[stepG.exec,ht,ho,hw,stepG.oper,Frame.oper?,z]
     rw[B];exact Ap f
    .trivial
   .rename_i hw;exact Zv f (by simp[stepG.exec,ht,ho,hw,Wq])
  .trivial
 .trivial
def Uu{fr:Frame}{cs:List Frame}{v:Value}{es:Array Event}{bs:List (Nat×Bool)}{st' sm':Value} :
  Hs (GStep.after es (doReturn P m fr cs none v (W st' sm'))) W ok w (GX m fr cs v st' sm' es bs):=by
 unfold GX;split
 .rename_i c rest;split
  .rename_i hk;intro _;simp only[doReturn,hk,GStep.after,Wq,Array.append_empty]
  .rename_i hk;intro _;simp only[doReturn,hk,GStep.after,Wq,Array.append_empty];rfl
  .trivial
 .split
  .rename_i hk;intro _;simp only[doReturn,hk,GStep.after,Array.append_empty,Bool.not_false,if_true]
  .trivial
def Rc{fr:Frame}{cs:List Frame}{status:GoStatus}{offers:Option (Array CommCase×CommShape)}(I:fr.mode≠.run)(F:WW P t st sm w W ok) :
  Hs (stepG P m { frame:=fr,callers:=cs,status,dying:=none,offers } w) W ok w (GA P t m fr cs st sm):=by
 have e:stepG P m { frame:=fr,callers:=cs,status,dying:=none,offers } w=unwind P m fr cs none w:=by
  cases G:fr.mode with
  |run=>exact absurd G I
  |_=>simp only[stepG,G]
 rw[e];unfold GA;split
 .rename_i d ds hd;split
  .rename_i fn capt ht;have h:=F.ran (invoke d.target d.args)
   have E:unwind P m fr cs none w=callDeferred P { fr with defers:=ds } cs none d w:=by
    obtain⟨K,ag⟩:=d;cases ht;simp only[unwind,hd]
   rw[E];generalize Jo P t (invoke d.target d.args) st sm #[] []=r at h;cases r with
   |ok n st' sm' es bs=>
    simp only[HX];cases n with
    |enter f args=>
     intro B;have z:=h B;rw[ht]at z;simp only[callDeferred,ht,Bool.false_and,Bool.false_eq_true,if_false,z,GStep.after,Wq,Array.append_empty]
    |value v=>
     intro B;have z:=h B;rw[ht]at z;simp only[callDeferred,ht,Bool.false_and,Bool.false_eq_true,if_false,z,GStep.after,Wq,Array.append_empty]
    |_=>trivial
   |_=>trivial
  .trivial
 .rename_i hd;split
  .rename_i hmo;split
   .rename_i fn hf;have h:=F.ran (results fn fr.tmps);generalize Jo P t (results fn fr.tmps) st sm #[] []=r at h;cases r with
    |ok v st' sm' es bs=>
     simp only[G7];by_cases B:ok bs
     .have z:=h B
      have E:unwind P m fr cs none w=GStep.after (seen P fr.fn es) (doReturn P m fr cs none v (W st' sm')):=by
       simp only[unwind,hd,hmo,hf,z]
      rw[E];exact Uu
     .have:=Uu (P:=P) (m:=m) (W:=W) (ok:=ok) (w:=w) (fr:=fr) (cs:=cs) (v:=v) (es:=seen P fr.fn es) (bs:=bs) (st':=st') (sm':=sm');unfold GX at this ⊢;split <;> split <;> first|exact(λ H=>absurd H B)|trivial
    |_=>trivial
   .trivial
  .rename_i chain hmo;split
   .rename_i e' tl ht hf;split
    .rename_i hg;intro _;rw[F.same];simp[unwind,hd,hmo,Frame.catches,ht,hf,hg]
    .trivial
   .trivial
  .trivial
def Vk{g:Gr}(f:WW P t st sm w W ok):Hs (stepG P m g w) W ok w (Q5 P t m g st sm):=by
 obtain⟨fr,cs,status,dying,offers⟩:=g;unfold Q5;cases status <;> try trivial
 cases dying with
 |some d=>trivial
 |none=>
  simp only;cases e:fr.mode with
  |run=>exact BC e f
  |_=>exact Rc (by rw[e];intro h;cases h) f
end Go.TM
namespace Go.TM
variable{P:Program}{m:Bool}{t:TypeId}
def Y3{g g':Gr}{st sm st' sm':Value}{es:Array Event}(h:Q5 P t m g st sm=.go g' st' sm' es [])(w:World):stepG P m g w=.go g' w es:=by
 have:=Vk (g:=g) (m:=m) (WW.calm (P:=P) (t:=t) (st:=st) (sm:=sm) (w:=w));rw[h]at this;exact this rfl
def Hg{g g':Gr}{st sm st' sm':Value}{es:Array Event}{bs:List (Nat×Bool)}{b:Nat}{w:World}(h:Q5 P t m g st sm=.go g' st' sm' es bs)(f:Sh b t st sm w)
  (e:∀y∈bs,y.1=b):stepG P m g w=.go g' (two w b t st' sm') es:=by
 have:=Vk (g:=g) (m:=m) (WW.sh (P:=P) f);rw[h]at this;exact this e
def Sj{g g':Gr}{st sm st' sm':Value}{bs:List (Nat×Bool)}{b:Nat}{w:World}(h:Q5 P t m g st sm=.blocked g' st' sm' bs)(f:Sh b t st sm w)
  (e:∀y∈bs,y.1=b):stepG P m g w=.go g' (two w b t st' sm') #[]:=by
 have:=Vk (g:=g) (m:=m) (WW.sh (P:=P) f);rw[h]at this;exact this e
def BN{g g' c:Gr}{st sm:Value}{es:Array Event}(h:Q5 P t m g st sm=.spawn g' c es)(w:World):stepG P m g w=.spawn g' c w es:=by
 have:=Vk (g:=g) (m:=m) (WW.calm (P:=P) (t:=t) (st:=st) (sm:=sm) (w:=w));rw[h]at this;exact this
def Xo(f:Value->Value->SE):Prop:=∀st sm g' st' sm' es bs,f st sm=.go g' st' sm' es bs->(bs.all (!·.2))=true->(st'=st/\sm'=sm)/\∀w e,f w e=.go g' w e es bs
def Xo.still{fr:Frame}{cs:List Frame}:Xo λ st sm=>.still st sm fr cs:=by
 intro st sm g' st' sm' es bs h _;simp only[SE.still,SE.go.injEq]at h;obtain⟨rfl,rfl,rfl,rfl,rfl⟩:=h;exact⟨⟨rfl,rfl⟩,λ _ _=>rfl⟩
def Xo.stuck:Xo λ _ _=>.stuck:=by intro st sm g' st' sm' es bs h;cases h
def Xo.of{α:Type}{s:Sem α}{F:QE α->SE}(H:∀r g' st' sm' es bs,F r=.go g' st' sm' es bs->∃x w,r=.ok x st' sm' w bs/\∀f e,F (.ok x f e w bs)=.go g' f e es bs) :
  Xo λ st sm=>F (Jo P t s st sm #[] []):=by
 intro st sm g' st' sm' es bs h I;obtain⟨x,w,K,z⟩:=H _ _ _ _ _ _ h;obtain⟨-,B⟩:=Es s K;obtain⟨E,G⟩:=B I;exact⟨E,λ f e=>by simp only[G f e,z]⟩
def CD{fr:Frame}{cs:List Frame}(r:QE Next)(g':Gr)(st' sm':Value)(es:Array Event)(bs:List (Nat×Bool))(h:WZ P fr cs r=.go g' st' sm' es bs) :
  ∃x e,r=.ok x st' sm' e bs/\∀z w,WZ P fr cs (.ok x z w e bs)=.go g' z w es bs:=by
 cases r with
 |ok n st sm e f=>
  simp only[WZ]at h ⊢;split at h
  .cases h
  .cases n <;> simp only[SE.go.injEq,reduceCtorEq]at h
   case spawn d=>unfold PK at h;cases B:P_ d.target&&f.isEmpty <;> rw[B]at h <;> cases h
   all_goals(obtain⟨rfl,rfl,rfl,rfl,rfl⟩:=h;exact⟨_,_,rfl,λ _ _=>rfl⟩)
 |blocked st sm f=>simp only[WZ]at h;split at h <;> cases h
 |stuck=>cases h
def LH{fr:Frame}{ds:List Deferred}{cs:List Frame}(r:QE Next)(g':Gr)(st' sm':Value)(es:Array Event)(bs:List (Nat×Bool))(h:HX P fr ds cs r=.go g' st' sm' es bs) :
  ∃x e,r=.ok x st' sm' e bs/\∀w f,HX P fr ds cs (.ok x w f e bs)=.go g' w f es bs:=by
 cases r with
 |ok n st sm e z=>
  simp only[HX]at h ⊢;cases n <;> simp only[SE.go.injEq,reduceCtorEq]at h
  all_goals(obtain⟨rfl,rfl,rfl,rfl,rfl⟩:=h;exact⟨_,_,rfl,λ _ _=>rfl⟩)
 |_=>cases h
def My{fr:Frame}{cs:List Frame}(r:QE Value)(g':Gr)(st' sm':Value)(es:Array Event)(bs:List (Nat×Bool))(h:G7 P m fr cs r=.go g' st' sm' es bs) :
  ∃x e,r=.ok x st' sm' e bs/\∀w f,G7 P m fr cs (.ok x w f e bs)=.go g' w f es bs:=by
 cases r with
 |ok v st sm e z=>
  simp only[G7,GX]at h ⊢;split at h
  .split at h
   .simp only[SE.go.injEq]at h;obtain⟨rfl,rfl,rfl,rfl,rfl⟩:=h;exact⟨_,_,rfl,λ _ _=>rfl⟩
   .simp only[SE.go.injEq]at h;obtain⟨rfl,rfl,rfl,rfl,rfl⟩:=h;exact⟨_,_,rfl,λ _ _=>rfl⟩
   .cases h
  .split at h
   .simp only[SE.go.injEq]at h;obtain⟨rfl,rfl,rfl,rfl,rfl⟩:=h;exact⟨_,_,rfl,λ _ _=>rfl⟩
   .cases h
 |_=>cases h
def AD{fr:Frame}{cs:List Frame}:Xo (GA P t m fr cs):=by
 unfold GA;split
 .split
  .exact Xo.of (F:=HX P fr _ cs) LH
  .exact .stuck
 .split
  .split
   .exact Xo.of (F:=G7 P m fr cs) My
   .exact .stuck
  .split
   .split
    .intro st sm g' st' sm' es bs h _;simp only[SE.go.injEq]at h;obtain⟨rfl,rfl,rfl,rfl,rfl⟩:=h;exact⟨⟨rfl,rfl⟩,λ _ _=>rfl⟩
    .exact .stuck
   .exact .stuck
  .exact .stuck
def Uy{g:Gr}:Xo (Q5 P t m g):=by
 obtain⟨fr,cs,status,dying,offers⟩:=g;unfold Q5;cases status <;> try exact .stuck
 cases dying with
 |some d=>exact .stuck
 |none=>
  simp only;cases fr.mode with
  |run=>
   unfold GO;simp only;split
   .split <;> first|exact .still|exact .stuck
   .split <;> first|exact .still|exact .stuck
   .exact .still
   .exact .still
   .exact .still
   .exact .still
   .exact .still
   .split <;> first|exact .still|exact .stuck
   .exact .still
   .exact .still
   .exact .still
   .exact .still
   .split <;> first|exact .still|exact .stuck
   .exact .still
   .exact .still
   .split
    .split
     .split
      .exact Xo.of (F:=WZ P fr cs) CD
      .exact .stuck
     .exact .still
    .exact .stuck
   .exact .stuck
  |_=>exact AD
def SE.get(d:Gr):SE->Gr
 |.go g _ _ _ _=>g
 |_=>d
def Zp{g g':Gr}{st sm st' sm':Value}{es:Array Event}{bs:List (Nat×Bool)}(h:Q5 P t m g st sm=.go g' st' sm' es bs):g.status=.running:=by
 unfold Q5 at h;split at h
 .assumption
 .cases h
end Go.TM
namespace Go.TM
open Go.Conc (QuitsD)
def Jh(c wt:Nat):Value:=.int .u64 ((c*4294967296+wt:Nat):Int)
def Zx(s:Nat):Value:=.int .u32 (s:Int)
def Wj(m:Mark):Event:=⟨.mark m,false,true⟩
def QA(b o:Nat):Event:=⟨.cell ⟨b,o,none⟩,false,true⟩
def QD(b o:Nat):Event:=⟨.cell ⟨b,o,none⟩,true,true⟩
def Js(b:Nat)(bs:List (Nat×Bool)):Prop:=∀y∈bs,y.1=b
def Qa.at(U:Qa Tk)(d:Nat)(p:Ph):Qa Tk:={ U with tok:=⟨d,p,U.tok.mu⟩ }
def Qa.at_self{U:Qa Tk}{d:Nat}{p:Ph}{mu:Option ZK}(h:U.tok=⟨d,p,mu⟩):U.at d p=U:=by
 obtain⟨I,M,tok⟩:=U;simp only at h;subst h;rfl
def QB(s:Nat):Value:=.int .i32 (s:Int)
def Qa.lk(U:Qa Tk)(d b:Nat)(D:Spec)(x:ZA)(s:Nat)(me:LP)(lo:Nat×Nat):Qa Tk:={ U with tok:=⟨d,.wrk b D,some (.lok x s me lo)⟩ }
def Qa.lk_self{U:Qa Tk}{d b:Nat}{D:Spec}{x:ZA}{s:Nat}{me:LP}{lo:Nat×Nat}(h:U.tok=⟨d,.wrk b D,some (.lok x s me lo)⟩):U.lk d b D x s me lo=U:=by
 obtain⟨I,M,tok⟩:=U;simp only at h;subst h;rfl
def HV(m:Nat)(e:Event):Prop:=Event.mute e=true\/∃o wr,o<2/\e=⟨.cell ⟨m,o,none⟩,wr,true⟩
def V9(N:Nat)(mu e f:Option ZK):Prop:=(e=mu/\f=none)\/∃x u s,mu=some (.par x u)/\u s=false/\s<N/\e=some (.par x (Q9 u s true))/\f=some (.lok x s .idle (0,0))
def Tl(P:Program)(t:TypeId)(N b:Nat):Nat->Nat->Ph->Gr->Prop
 |0,_,_,_=>False
 |n+1,d,p,g=>g.status=.running /\
  ((∃g' es bs,(∀e∈es,Event.mute e=true)/\Js b bs/\(∀st sm,Q5 P t false g st sm=.go g' st sm es bs)/\Tl P t N b n (deafBehind d es) p g') \/
   (p=.rel b/\d=1/\∀c wt,1<=c->c<=N->wt<=1->∃g' bs,Js b bs/\Q5 P t false g (Jh c wt) (Zx 0)=.go g' (Jh (c-1) wt) (Zx 0) #[QA b 0,QD b 0] bs /\
    (if c=1/\wt=1 then Tl P t N b n 1 (.lst b 0) g' else QuitsD P n 1 g')) \/
   (p=.lst b 0/\d=1/\∃g' bs,Js b bs/\Q5 P t false g (Jh 0 1) (Zx 0)=.go g' (Jh 0 1) (Zx 0) #[QA b 0] bs/\Tl P t N b n 1 (.lst b 1) g') \/
   (p=.lst b 1/\d=1/\∃g' bs,Js b bs/\Q5 P t false g (Jh 0 1) (Zx 0)=.go g' (Jh 0 0) (Zx 0) #[QD b 0] bs/\Tl P t N b n 1 (.lst b 2) g') \/
   (p=.lst b 2/\d=1/\mayWake P g=true/\∃g' bs,Js b bs/\Q5 P t false g (Jh 0 0) (Zx 0)=.go g' (Jh 0 0) (Zx 1) #[Wj .disable,QA b 1,QD b 1,Wj .enable] bs/\QuitsD P n 1 g'))
inductive QC(P:Program)(t:TypeId)(N:Nat)(X:QK Tk):QK Tk
 |quiet {m g U b bs g'} (hs:g.status=.running) (hb:U.tok.ph.blk=some b) (h:∀st sm,Q5 P t m g st sm=.go g' st sm #[] bs) (hbs:Js b bs) (k:X m g' U):QC P t N X m g U
 |dis {mu m g U b ds pend k₀ bs g' d} (hs:g.status=.running) (ht:U.tok=⟨d,.par b ds pend k₀,mu⟩) (h:∀st sm,Q5 P t m g st sm=.go g' st sm #[Wj .disable] bs) (hbs:Js b bs)
   (k:X m g' (U.at (d+1) (.par b ds pend k₀))):QC P t N X m g U
 |ena {mu m g U b ds pend k₀ bs g' d} (hs:g.status=.running) (ht:U.tok=⟨d+1,.par b ds pend k₀,mu⟩) (h:∀st sm,Q5 P t m g st sm=.go g' st sm #[Wj .enable] bs) (hbs:Js b bs)
   (k:X m g' (U.at d (.par b ds pend k₀))):QC P t N X m g U
 |add {mu m g U b ds} (hs:g.status=.running) (ht:U.tok=⟨1,.par b ds false .run,mu⟩) (hN:ds.length<N)
   (h:∀c,c<=ds.length->∃g' bs,Q5 P t m g (Jh c 0) (Zx 0)=.go g' (Jh (c+1) 0) (Zx 0) #[QA b 0,QD b 0] bs/\Js b bs/\X m g' (U.at 1 (.par b ds true .run))):QC P t N X m g U
 |said {mu m g U b ds pend k bs g' wr} (hs:g.status=.running) (ht:U.tok=⟨1,.par b ds pend k,mu⟩)
   (h:∀st sm,Q5 P t m g st sm=.go g' st sm #[Wj (bif wr then .write ⟨b,1,none⟩else .read ⟨b,1,none⟩)] bs) (hbs:Js b bs) (k:X m g' U):QC P t N X m g U
 |look {mu m g U b ds k₀ u} (hs:g.status=.running) (ht:U.tok=⟨1,.par b ds false k₀,mu⟩) (hk:X7 ds u k₀)
   (h:∀c,c<=u->∃g' bs,Js b bs /\
    ((Q5 P t m g (Jh c 0) (Zx 0)=.go g' (Jh c 0) (Zx 0) #[QA b 0] bs/\(X m g' (U.at 1 (.par b ds false (.seen c)))\/(c=0/\X m g' (U.at 1 (.par b ds false .up))))) \/
     (1<=c/\Q5 P t m g (Jh c 0) (Zx 0)=.go g' (Jh c 1) (Zx 0) #[QA b 0,QD b 0] bs/\X m g' (U.at 1 (.par b ds false .wait))))):QC P t N X m g U
 |sema {mu m g U b ds} (hs:g.status=.running) (ho:g.offers=none) (ht:U.tok=⟨1,.par b ds false .wait,mu⟩)
   (h0:∀st,∃bs,Js b bs/\Q5 P t m g st (Zx 0)=.blocked { g with status:=.blocked } st (Zx 0) bs)
   (h1:∃g' bs,Js b bs/\Q5 P t m g (Jh 0 0) (Zx 1)=.go g' (Jh 0 0) (Zx 0) #[Wj .disable,QA b 1,QD b 1,Wj .enable] bs/\X m g' (U.at 1 (.par b ds false .up))):QC P t N X m g U
 |look2 {mu m g U b ds bs g'} (hs:g.status=.running) (ht:U.tok=⟨1,.par b ds false .up,mu⟩) (hbs:Js b bs)
   (h:Q5 P t m g (Jh 0 0) (Zx 0)=.go g' (Jh 0 0) (Zx 0) #[QA b 0] bs) (k:X m g' U):QC P t N X m g U
 |acq {m g U b ds bs g'} (hs:g.status=.running) (ht:U.tok=⟨0,.par b ds false .up,none⟩) (hbs:Js b bs)
   (h:∀st sm,Q5 P t m g st sm=.go g' st sm #[Wj (.acquire ⟨b,0,none⟩)] bs) (k:∀Ms,XI ds Ms->X m g' ((U.with Ms.flatten).at 0 .out)):QC P t N X m g U
 |acqM {m g U b ds bs g' x u} (hs:g.status=.running) (ht:U.tok=⟨0,.par b ds false .up,some (.par x u)⟩) (hbs:Js b bs)
   (h:∀st sm,Q5 P t m g st sm=.go g' st sm #[Wj (.acquire ⟨b,0,none⟩)] bs) (k:∀Ms M,XI ds Ms->x.sp u M->X m g' { U with M:=(U.M++Ms.flatten)++M,tok:=⟨0,.out,none⟩ }):QC P t N X m g U
 |make {m g U b M₁ M₂} (ht:U.tok=⟨0,.out,none⟩) (hM:U.M=M₁++.obj b (.cells #[Jh 0 0,Zx 0] t (0,0))::M₂) (k:X m g { U with M:=M₁++M₂,tok:=⟨0,.par b [] false .run,none⟩ }):QC P t N X m g U
 |makeM {m g U b x M₁ M₂} (ht:U.tok=⟨0,.par b [] false .run,none⟩) (hM:U.M=.obj x.m (.cells #[QB 0,Zx 0] x.t (0,0))::(M₁++M₂)) (hD:x.sp (λ _=>false) M₁)
   (k:X m g { U with M:=M₂,tok:=⟨0,.par b [] false .run,some (.par x λ _=>false)⟩ }):QC P t N X m g U
 |mu {m g U b D x s me lo d} (hs:g.status=.running) (ht:U.tok=⟨d,.wrk b D,some (.lok x s me lo)⟩)
   (h:∀z p,lo.1<=p->(lo.1=p->lo.2=z.st)->p<=PB N->me.fits N z->∃g' bs es me' z' d' lo',Js x.m bs/\Q5 P x.t m g (QB z.st) (Zx z.f)=.go g' (QB z'.st) (Zx z'.f) es bs/\Tz me z me' z'/\lo'.1<=p/\(lo'.1=p->lo'.2=z'.st)/\me'.rels=me.rels /\
    me'.isOwn=me.isOwn/\(∀e∈es,HV x.m e)/\deafBehind d es=d'/\(z'.f=z.f\/z'.f=0\/mayWake P g=true)/\X m g' (U.lk d' b D x s me' lo')):QC P t N X m g U
 |mblk {m g U b D x s c lo d} (hs:g.status=.running) (ho:g.offers=none) (ht:U.tok=⟨d,.wrk b D,some (.lok x s (.wai c) lo)⟩)
   (h0:∀st,∃bs,Js x.m bs/\Q5 P x.t m g st (Zx 0)=.blocked { g with status:=.blocked } st (Zx 0) bs)
   (h1:∃g' bs,Js x.m bs/\(∀st,Q5 P x.t m g (QB st) (Zx 1)=.go g' (QB st) (Zx 0) #[Wj .disable,QA x.m 1,QD x.m 1,Wj .enable] bs)/\X m g' (U.lk d b D x s (.wok c) lo)/\X m g' (U.lk d b D x s (.wos c 0) lo)):QC P t N X m g U
 |macq {m g U b D x s lo bs g'} (hs:g.status=.running) (ht:U.tok=⟨0,.wrk b D,some (.lok x s .got lo)⟩) (hbs:Js x.m bs)
   (h:∀st sm,Q5 P x.t m g st sm=.go g' st sm #[Wj (.acquire ⟨x.m,0,none⟩)] bs)
   (k:∀R M,R s=false->x.sp R M->X m g' { U with M:=U.M++M,tok:=⟨0,.wrk b D,some (.lok x s (.own R) lo)⟩ }):QC P t N X m g U
 |mrel {m g U b D x s lo R bs g' M₁ M₂} (hs:g.status=.running) (ht:U.tok=⟨0,.wrk b D,some (.lok x s (.own R) lo)⟩) (hbs:Js x.m bs) (hM:U.M=M₁++M₂) (hD:x.sp (Q9 R s true) M₁)
   (h:∀st sm,Q5 P x.t m g st sm=.go g' st sm #[Wj (.releaseMerge ⟨x.m,0,none⟩)] bs)
   (k:X m g' { U with M:=M₂,tok:=⟨0,.wrk b D,some (.lok x s .rls lo)⟩ }):QC P t N X m g U
 |go {mu mu' mc m g U b ds D Up Uc g' c} (hs:g.status=.running) (ht:U.tok=⟨0,.par b ds true .run,mu⟩) (h:Q5 P t m g undef undef=.spawn g' c #[]) (hf:HU U Up Uc)
   (hp:Up.tok=⟨0,.par b (D::ds) false .run,mu'⟩) (hc:Uc.tok=⟨0,.wrk b D,mc⟩) (hmu:V9 N mu mu' mc) (k:X m g' Up) (k':X false c Uc):QC P t N X m g U
 |lay {mu m g U b D bs g'} (hs:g.status=.running) (ht:U.tok=⟨0,.wrk b D,mu⟩) (hmu:mu=none\/∃x s lo,mu=some (.lok x s .fin lo)) (hD:D U.M) (hbs:Js b bs)
   (h:∀st sm,Q5 P t m g st sm=.go g' st sm #[Wj (.releaseMerge ⟨b,0,none⟩)] bs) (k:∃n,Tl P t N b n 0 (.rel b) g'):QC P t N X m g U
def QC.mono{P:Program}{t:TypeId}{N:Nat}{X Y:QK Tk}(e:∀m g U,X m g U->Y m g U){m:Bool}{g:Gr}{U:Qa Tk}(h:QC P t N X m g U):QC P t N Y m g U:=by
 cases h with
 |quiet B T h f k=>exact .quiet B T h f (e _ _ _ k)
 |dis B w h f k=>exact .dis B w h f (e _ _ _ k)
 |ena B w h f k=>exact .ena B w h f (e _ _ _ k)
 |add B w S h=>exact .add B w S λ c I=>let ⟨g',bs,a,b,k⟩:=h c I;⟨g',bs,a,b,e _ _ _ k⟩
 |said B w h f k=>exact .said B w h f (e _ _ _ k)
 |look B w W h=>exact .look B w W λ c I=>let ⟨g',bs,a,k⟩:=h c I;⟨g',bs,a,k.imp (λ x=>⟨x.1,x.2.imp (e _ _ _) λ y=>⟨y.1,e _ _ _ y.2⟩⟩) λ x=>⟨x.1,x.2.1,e _ _ _ x.2.2⟩⟩
 |sema B Q w L G=>exact .sema B Q w L (let ⟨g',bs,a,b,k⟩:=G;⟨g',bs,a,b,e _ _ _ k⟩)
 |look2 B w f h k=>exact .look2 B w f h (e _ _ _ k)
 |acq B w f h k=>exact .acq B w f h λ K E=>e _ _ _ (k K E)
 |acqM B w f h k=>exact .acqM B w f h λ K M E hx=>e _ _ _ (k K M E hx)
 |makeM w E H k=>exact .makeM w E H (e _ _ _ k)
 |mu B w h=>exact .mu B w λ z p q1 q2 q3 q4=>let ⟨g',bs,es,me',z',d',lo',a0,a1,a2,a3,a4,a5,a6,a7,a8,a9,k⟩:=h z p q1 q2 q3 q4;⟨g',bs,es,me',z',d',lo',a0,a1,a2,a3,a4,a5,a6,a7,a8,a9,e _ _ _ k⟩
 |mblk B Q w L G=>exact .mblk B Q w L (let ⟨g',bs,a,b,k,k'⟩:=G;⟨g',bs,a,b,e _ _ _ k,e _ _ _ k'⟩)
 |macq B w f h k=>exact .macq B w f h λ v M G E=>e _ _ _ (k v M G E)
 |mrel B w f E H h k=>exact .mrel B w f E H h (e _ _ _ k)
 |make w E k=>exact .make w E (e _ _ _ k)
 |go B w h V Z I F k k'=>exact .go B w h V Z I F (e _ _ _ k) (e _ _ _ k')
 |lay B w F H f h k=>exact .lay B w F H f h k
def Zj(P:Program)(t:TypeId)(N:Nat):Sys P Tk:=⟨QC P t N,λ h _ _ _ k=>k.mono h⟩
end Go.TM
namespace Go.TM
open Go.Conc
def JZ(n:Nat)(rk:Nat->Option Tr):List Tr:=(range n).filterMap rk
def Pd(n:Nat)(rk:Nat->Option Tr):JZ (n+1) rk=JZ n rk++(rk n).toList:=by
 simp only[JZ,range_succ,filterMap_append];cases h:rk n <;> simp[h]
def SD{n:Nat}{rk rk':Nat->Option Tr}(h:∀i,i<n->rk i=rk' i):JZ n rk=JZ n rk':=by
 induction n with
 |zero=>rfl
 |succ n e=>rw[Pd,Pd,e λ i f=>h i O1,h n O1]
def Y8{n i:Nat}(rk:Nat->Option Tr)(x:Option Tr)(w:i<n):(JZ n (Q9 rk i x)).Perm (x.toList++JZ n (Q9 rk i none)):=by
 induction n with
 |zero=>omega
 |succ n f=>
  rw[Pd,Pd];by_cases e:i=n
  .subst e;rw[Qf,Qf,SD (rk:=Q9 rk i x) (rk':=Q9 rk i none) λ j z=>by rw[Qv _ _ O1,Qv _ _ O1]];simp only[Option.toList_none,append_nil];exact perm_append_comm
  .rw[Qv _ _ O1,Qv _ _ O1];have:=(f O1).append_right (rk n).toList
   rwa [append_assoc]at this
def EA{n i:Nat}{rk:Nat->Option Tr}{r:Tr}(f:i<n)(w:rk i=some r):(JZ n rk).Perm (r::JZ n (Q9 rk i none)):=by
 have:=Y8 rk (some r) f;have e:Q9 rk i (some r)=rk:=by funext j;by_cases e:j=i <;> simp[Q9,e,w]
 rwa [e]at this
def MN{n i:Nat}{rk:Nat->Option Tr}{r:Tr}{x:Option Tr}(e:i<n)(z:rk i=some r)(B:∀f,x=some f->Tr.Sub f r):ZS (JZ n (Q9 rk i x)) (JZ n rk):=
 ⟨r,JZ n (Q9 rk i none),x.toList,EA e z,Y8 rk x e,λ c w=>B c (by simpa[Option.mem_toList]using w)⟩
def N9{n i:Nat}{rk:Nat->Option Tr}{r e f:Tr}(w:i<n)(E:rk i=some r)(z:Tr.Sub e r)(B:Tr.Sub f r):ZS (JZ (n+1) (Q9 (Q9 rk i (some e)) n (some f))) (JZ n rk):=by
 refine⟨r,JZ n (Q9 rk i none),[f,e],EA w E,?_,by simp[z,B]⟩;rw[Pd,Qf,SD (rk:=Q9 (Q9 rk i (some e)) n (some f)) (rk':=Q9 rk i (some e)) λ j F=>Qv _ _ O1];have:=Y8 rk (some e) w;simp only[Option.toList_some]at this ⊢;refine(perm_append_comm).trans ?_;exact(this.cons f)
def ZQ(p:Ph):Prop:=∃b D,p=.wrk b D
def Z5(V:Hd->Qa Tk)(i:Nat):Ph:=if i=0 then .out else(V (.run i)).tok.ph
def ZM:Qa Tk:=Qa.bare ⟨0,.out,none⟩
def Q8(V:Hd->Qa Tk)(i:Nat):Option ZK:=(V (.run i)).tok.mu
def J0(V:Hd->Qa Tk):Option Nat:=ZK.mb (Q8 V 0)
structure WO(N:Nat)(gs:Array Gr)(w:World)(V:Hd->Qa Tk)(x:ZA)(u:Nat->Bool)(lp:Nat->LP)(z:LZ):Prop where
 sh:Sh x.m x.t (QB z.st) (Zx z.f) w
 inv:JG N lp z
 tk:∀i x' s me lo,Q8 V i=some (.lok x' s me lo)->x'=x/\me=lp s/\s<N/\(lo.1<=ZR N lp s/\(lo.1=ZR N lp s->lo.2=z.st))/\u s=true
 one:∀i j s x_1 m_1 l₁ x_2 m_2 l₂,Q8 V i=some (.lok x_1 s m_1 l₁)->Q8 V j=some (.lok x_2 s m_2 l₂)->i=j
 who:∀s,u s=true->lp s=.fin\/∃i me lo,Q8 V i=some (.lok x s me lo)
 idle:∀s,u s=false->lp s=.idle
 dep:LT N lp LP.ow≠0->V .lck=ZM
 dep':LT N lp LP.ow=0->x.dep lp (V .lck).M
 slp:∀i x' s me lo g,Q8 V i=some (.lok x' s me lo)->gs[i]?=some g->g.status≠.running->z.f=0
 ownR:∀s R,s<N->lp s=.own R->R=λ j=>(lp j).rels
def JM(N:Nat)(gs:Array Gr)(w:World)(V:Hd->Qa Tk):Prop:=
 (∀i x u,i≠0->Q8 V i≠some (.par x u))/\(V .lck).I=(λ _=>none) /\
 match Q8 V 0 with
 |none=>(∀i,Q8 V i=none)/\V .lck=ZM
 |some (.par x u)=>(∀j,QJ x.m (V j))/\∃lp z,WO N gs w V x u lp z
 |some (.lok ..)=>False
def WO.at{N:Nat}{gs E:Array Gr}{w w':World}{V V':Hd->Qa Tk}{x:ZA}{u:Nat->Bool}{lp:Nat->LP}{z:LZ}(h:WO N gs w V x u lp z)(F:∀i,Q8 V' i=Q8 V i)(P:V' .lck=V .lck)
  (H:Sh x.m x.t (QB z.st) (Zx z.f) w') (G:∀i B s me lo g',Q8 V i=some (.lok B s me lo)->E[i]?=some g'->g'.status≠.running->∃g,gs[i]?=some g/\g.status≠.running):WO N E w' V' x u lp z:=by
 refine⟨H,h.inv,λ i B s me lo e=>h.tk i B s me lo (by rw[<- F];exact e),λ i j s L I l₁ M K l₂ e e'=>h.one i j s L I l₁ M K l₂ (by rw[<- F];exact e) (by rw[<- F];exact e'),λ s W=>(h.who s W).imp id λ⟨i,me,lo,e⟩=>⟨i,me,lo,by rw[F];exact e⟩,h.idle,λ e=>by rw[P];exact h.dep e,λ e=>by rw[P];exact h.dep' e,λ i B s me lo g' e T U=>?_,h.ownR⟩;rw[F]at e;obtain⟨g,Q,S⟩:=G i B s me lo g' e T U;exact h.slp i B s me lo g e Q S
def JM.at{N:Nat}{gs B:Array Gr}{w w':World}{V V':Hd->Qa Tk}(h:JM N gs w V)(F:∀i,Q8 V' i=Q8 V i)(I:V' .lck=V .lck)(E:∀m,(∀j,QJ m (V j))->m<w.heap.size->∀j,QJ m (V' j))
  (K:∀m t st sm,(∀j,QJ m (V j))->Sh m t (QB st) (Zx sm) w->Sh m t (QB st) (Zx sm) w')
  (H:∀i S s me lo g',Q8 V i=some (.lok S s me lo)->B[i]?=some g'->g'.status≠.running->∃g,gs[i]?=some g/\g.status≠.running):JM N B w' V':=by
 obtain⟨M,P,f⟩:=h;refine⟨λ i x u Q=>by rw[F];exact M i x u Q,by rw[I];exact P,?_⟩;rw[F];cases e:Q8 V 0 with
 |none=>rw[e]at f;exact⟨λ i=>by rw[F];exact f.1 i,by rw[I];exact f.2⟩
 |some mu=>
  rw[e]at f;cases mu with
  |lok=>exact f
  |par x u=>
   obtain⟨L,lp,z,G⟩:=f;exact⟨E _ L (Array.getElem?_eq_some_iff.1 G.sh).1,lp,z,G.at F I (K _ _ _ _ L G.sh) H⟩
def Ou(i:Nat)(tk:Tk):Prop:=(i=0/\∃b ds mu,tk=⟨1,.par b ds false .wait,mu⟩)\/∃d b D x s c lo,tk=⟨d,.wrk b D,some (.lok x s (.wai c) lo)⟩
def QI(t:TypeId)(N:Nat)(gs:Array Gr)(w:World)(V:Hd->Qa Tk)(rel:Nat->Option Nat):Prop:=
 match(V (.run 0)).tok.ph with
 |.out=>(∀i,i≠0->(V (.run i)).tok.ph=.out)/\∀i,rel i=none
 |.par b ds pend k=>(∀j,QJ b (V j))/\∃W c wt s,Sh b t (Jh c wt) (Zx s) w/\GI N b ds pend k (Z5 V) rel (λ i=>(V (.dep i)).M) W c wt s/\(∀g,gs[0]?=some g->g.status≠.running->s=0)
 |_=>False
structure MI(P:Program)(t:TypeId)(N:Nat)(Stop:QK Tk)(ex:Option Nat)(gs:Array Gr)(w:World)(tr:Trace)(V:Hd->Qa Tk)(rk:Nat->Option Tr)(rel:Nat->Option Nat)(q:Nat->Nat):Prop where
 live:∀i r,ex≠some i->rk i=some r->∃g,JR (Zj P t N) Stop r (i==0) g (V (.run i)) /\
  (gs[i]?=some g\/(gs[i]?=some { g with status:=.blocked }/\g.offers=none/\Ou i (V (.run i)).tok))
 root:rk 0≠none
 gone:∀i g,rk i=none->gs[i]?=some g->(V (.run i)).tok.ph=.out->QuitsD P (q i) (Deaf tr i) g
 tail:∀i,rk i=none->(V (.run i)).tok.ph≠.out->∃g b,gs[i]?=some g/\(V (.run 0)).tok.ph.blk=some b/\Tl P t N b (q i) (Deaf tr i) (V (.run i)).tok.ph g
 above:∀i,gs.size<=i->rk i=none/\Deaf tr i=0/\rel i=none
 bare:∀i,rk i=none->(V (.run i)).I=(λ _=>none)/\(V (.run i)).M=[]
 wk:∀i,i≠0->rk i≠none->ZQ (V (.run i)).tok.ph
 wk':∀i,ZQ (V (.run i)).tok.ph->rk i≠none
 deaf:∀i,rk i≠none->Deaf tr i=(V (.run i)).tok.d
 deps:∀i,rel i=none->V (.dep i)=ZM
 vi:VI V w
 ti:∃rm,TI (λ k=>(V k).canW) (λ k=>(V k).canR) rel (V (.run 0)).tok.ph.blk (J0 V) rm (λ i=>i=0\/(V (.run i)).tok.ph≠.out) (λ i=>ZQ (V (.run i)).tok.ph) w.heap.size tr
 grp:QI t N gs w V rel
 mux:JM N gs w V
 bareM:∀i,rk i=none->Q8 V i=none
section
variable{P:Program}{t:TypeId}{N:Nat}{Stop:QK Tk}{gs:Array Gr}{w:World}{tr:Trace}{V:Hd->Qa Tk}{rk:Nat->Option Tr}{rel:Nat->Option Nat}{q:Nat->Nat}
def JR.running(f:∀m g U,Stop m g U->g.status=.running):∀{r:Tr}{m:Bool}{g:Gr}{U:Qa Tk},JR (Zj P t N) Stop r m g U->g.status=.running:=by
 intro r
 induction r using Tr.sub_wf.induction with
 |_ r B=>
  intro m g U h;obtain⟨E,_,h|h|h⟩:=h.step
  .exact f _ _ _ h
  .exact h.1
  .have h:QC P t N _ m g E:=h;cases h with
   |make G F k=>obtain⟨z,w,k⟩:=k;exact B z w k
   |makeM G F H k=>obtain⟨z,w,k⟩:=k;exact B z w k
   |quiet e|dis e|ena e|add e|said e|look e|sema e|look2 e|acq e|acqM e|go e|lay e|mu e|mblk e|macq e|mrel e=>exact e
def Wh{g g' h:Gr}{w':World}(e:h.status=.running):woken P g g' w' h=h:=by
 unfold woken;split
 .simp[Goroutine.again,e]
 .rfl
def I6{g g' h:Gr}{w':World}(f:h.status=.running)(e:h.offers=none):woken P g g' w' { h with status:=.blocked }=h\/woken P g g' w' { h with status:=.blocked }={ h with status:=.blocked }:=by
 unfold woken;split
 .exact .inl (again_blocked f e w')
 .exact .inr rfl
def behind(P:Program)(gs:Array Gr)(i:Nat)(g g':Gr)(w':World):Array Gr:=(gs.map (woken P g g' w')).setIfInBounds i g'
def Wp{i:Nat}{g g':Gr}{w':World}(e:gs[i]?=some g):(behind P gs i g g' w')[i]?=some g':=by
 have:=(Array.getElem?_eq_some_iff.1 e).1;simp[behind,this]
def J9{i j:Nat}{g g':Gr}{w':World}(h:j≠i):(behind P gs i g g' w')[j]?=(gs[j]?).map (woken P g g' w'):=by
 simp only[behind];rw[Array.getElem?_setIfInBounds_ne (Ne.symm h),Array.getElem?_map]
def Jq{i:Nat}{g g':Gr}{w':World}:(behind P gs i g g' w').size=gs.size:=by simp[behind]
def Tl.running{b:Nat}:∀{n d:Nat}{p:Ph}{g:Gr},Tl P t N b n d p g->g.status=.running
 |0,_,_,_,h=>h.elim
 |_+1,_,_,_,h=>h.1
def MI.go{i:Nat}(h:MI P t N Stop (some i) gs w tr V rk rel q)(S:∀m g U,Stop m g U->g.status=.running){g g':Gr}{w':World}{es:Array Event}{V':Hd->Qa Tk}{rk':Nat->Option Tr}{rel':Nat->Option Nat}{q':Nat->Nat}
  (hi:gs[i]?=some g) (G:∀j,j≠i->V' (.run j)=V (.run j)) (E:∀j,j≠i->rk' j=rk j) (hq:∀j,j≠i->q' j=q j) (af:∀j,j≠i->rel' j=rel j\/rel' j=none) (X:rk' 0≠none)
  (B:i≠0\/(V' (.run 0)).tok.ph.blk=(V (.run 0)).tok.ph.blk\/∀j,j≠0->(V (.run j)).tok.ph=.out)
  (F:∀r,rk' i=some r->JR (Zj P t N) Stop r (i==0) g' (V' (.run i))/\deafBehind (Deaf tr i) es=(V' (.run i)).tok.d/\(i≠0->ZQ (V' (.run i)).tok.ph))
  (f:rk' i=none->i≠0/\(V' (.run i)).I=(λ _=>none)/\(V' (.run i)).M=[]/\¬ZQ (V' (.run i)).tok.ph /\
   (((V' (.run i)).tok.ph=.out/\QuitsD P (q' i) (deafBehind (Deaf tr i) es) g')\/((V' (.run i)).tok.ph≠.out/\∃b,(V (.run 0)).tok.ph.blk=some b/\Tl P t N b (q' i) (deafBehind (Deaf tr i) es) (V' (.run i)).tok.ph g')))
  (T:∀j,rel' j=none->V' (.dep j)=ZM) (ah:VI V' w')
  (ag:∃rm,TI (λ k=>(V' k).canW) (λ k=>(V' k).canR) rel' (V' (.run 0)).tok.ph.blk (J0 V') rm (λ i=>i=0\/(V' (.run i)).tok.ph≠.out) (λ i=>ZQ (V' (.run i)).tok.ph) w'.heap.size (tr++MemOp.ofEvents i g.frame.fn g.frame.place es))
  (aa:QI t N (behind P gs i g g' w') w' V' rel') (ab:JM N (behind P gs i g g' w') w' V') (ad:rk' i=none->Q8 V' i=none) :
  MI P t N Stop none (behind P gs i g g' w') w' (tr++MemOp.ofEvents i g.frame.fn g.frame.place es) V' rk' rel' q':=by
 have ai:=(Array.getElem?_eq_some_iff.1 hi).1
 have hD:∀j,j≠i->Deaf (tr++MemOp.ofEvents i g.frame.fn g.frame.place es) j=Deaf tr j:=by
  intro j H;refine Deaf_other tr (Ne.symm H) _ ?_;intro op ae;obtain⟨e,_,rfl⟩:=Go.Conc.mem_ofEvents ae;rfl
 have Q:Deaf (tr++MemOp.ofEvents i g.frame.fn g.frame.place es) i=deafBehind (Deaf tr i) es:=Deaf_own ..;refine⟨?_,X,?_,?_,?_,?_,?_,?_,?_,T,ah,ag,aa,ab,λ j H=>?_⟩
 .intro j r _ z;by_cases e:j=i
  .subst e;exact⟨g',(F r z).1,.inl (Wp hi)⟩
  .rw[E j e]at z;obtain⟨ac,hJ,Z⟩:=h.live j r (λ e'=>e (Option.some.inj e').symm) z;have K:=hJ.running S;rw[G j e];refine⟨ac,hJ,?_⟩;rw[J9 e];rcases Z with Z|⟨Z,ho,Y⟩
   .exact .inl (by rw[Z,Option.map_some,Wh K])
   .rw[Z,Option.map_some];rcases I6 (P:=P) (g:=g) (g':=g') (w':=w') K ho with e|e
    .exact .inl (by rw[e])
    .exact .inr ⟨by rw[e],ho,Y⟩
 .intro j x z hx hp;by_cases e:j=i
  .subst e;rw[Wp hi]at hx;cases hx;rw[Q];rcases(f z).2.2.2.2 with⟨_,L⟩|⟨L,_⟩
   .exact L
   .exact absurd hp L
  .rw[J9 e]at hx;obtain⟨y,hy,rfl⟩:=Option.map_eq_some_iff.1 hx;rw[E j e]at z;rw[G j e]at hp;have:=h.gone j y z hy hp;rw[woken_quitsD this,hD j e,hq j e];exact this
 .intro j z hp;by_cases e:j=i
  .subst e;rcases(f z).2.2.2.2 with⟨L,_⟩|⟨_,b,Y,L⟩
   .exact absurd L hp
   .refine⟨g',b,Wp hi,?_,by rw[Q];exact L⟩;rw[G 0 (Ne.symm (f z).1)];exact Y
  .rw[E j e]at z;rw[G j e]at hp;obtain⟨y,b,hy,Y,ht⟩:=h.tail j z hp;refine⟨y,b,?_,?_,?_⟩
   .rw[J9 e,hy,Option.map_some,Wh ht.running]
   .by_cases e0:i=0
    .subst e0;rcases B with B|B|B
     .exact absurd rfl B
     .rw[B];exact Y
     .exact absurd (B j e) hp
    .rw[G 0 (Ne.symm e0)];exact Y
   .rw[hD j e,hq j e,G j e];exact ht
 .intro j H;rw[Jq]at H;have e:j≠i:=O1
  rw[E j e,hD j e];obtain⟨a1,a2,a3⟩:=h.above j H;exact⟨a1,a2,(af j e).elim (λ x=>x.trans a3) id⟩
 .intro j z;by_cases e:j=i
  .subst e;exact⟨(f z).2.1,(f z).2.2.1⟩
  .rw[G j e];rw[E j e]at z;exact h.bare j z
 .intro j h0 z;by_cases e:j=i
  .subst e;obtain⟨r,W⟩:=Option.ne_none_iff_exists'.1 z;exact(F r W).2.2 h0
  .rw[G j e];rw[E j e]at z;exact h.wk j h0 z
 .intro j hw;by_cases e:j=i
  .subst e;intro z;exact(f z).2.2.2.1 hw
  .rw[G j e]at hw;rw[E j e];exact h.wk' j hw
 .intro j z;by_cases e:j=i
  .subst e;obtain⟨r,W⟩:=Option.ne_none_iff_exists'.1 z;rw[Q];exact(F r W).2.1
  .rw[G j e,hD j e];rw[E j e]at z;exact h.deaf j z
 .by_cases e:j=i
  .subst e;exact ad H
  .unfold Q8;rw[G j e];rw[E j e]at H;exact h.bareM j H
end
def Kq{f f':Nat->Nat}{i:Nat}:∀{n:Nat},i<n->(∀j,j<n->j≠i->f' j=f j)->f' i<f i->QN n f'<QN n f
 |0,w,_,_=>O1
 |n+1,w,h,B=>by
  by_cases e:i=n
  .subst e;simp only[QN];rw[Po (n:=i) λ j z=>h j O1 O1];omega
  .have:=Kq (n:=n) O1 (λ j z E=>h j O1 E) B;simp only[QN,h n O1 O1];omega
def left(rk:Nat->Option Tr)(q:Nat->Nat)(i:Nat):Nat:=if(rk i).isSome then 0 else q i
def Hy(gs:Array Gr)(i:Nat):Nat:=if(gs[i]?).any (·.status==.running)then 1 else 0
def qv(gs:Array Gr)(i:Nat):Hy gs i<=1:=by unfold Hy;split <;> omega
def KB(gs:Array Gr):Nat:=QN gs.size (Hy gs)
def MP(gs:Array Gr):KB gs<=gs.size:=PL (qv gs) _
def QF(gs:Array Gr)(rk:Nat->Option Tr)(q:Nat->Nat):List Tr×Nat:=(JZ gs.size rk,(gs.size+1)*QN gs.size (left rk q)+KB gs)
def Ds{gs e:Array Gr}{rk:Nat->Option Tr}{q q':Nat->Nat}{i:Nat}(H:e.size=gs.size)(z:i<gs.size)(G:rk i=none)(F:∀j,j≠i->q' j=q j)(E:q' i<q i):JE (QF e rk q') (QF gs rk q):=by
 unfold QF;rw[H];refine JE.num ?_;have f:QN gs.size (left rk q')<QN gs.size (left rk q):=Kq z (λ j _ B=>by simp[left,F j B]) (by simp[left,G,E]);have I:=MP e;have w:=Nat.mul_le_mul_left (gs.size+1) f;rw[Nat.mul_succ]at w;omega
def CN{gs:Array Gr}{rk:Nat->Option Tr}{q:Nat->Nat}{i:Nat}{g g':Gr}(w:gs[i]?=some g)(E:g.status=.running)(z:g'.status=.blocked):JE (QF (gs.setIfInBounds i g') rk q) (QF gs rk q):=by
 have e:=(Array.getElem?_eq_some_iff.1 w).1;unfold QF;have f:(gs.setIfInBounds i g').size=gs.size:=S1
 rw[f];refine JE.num (Nat.add_lt_add_left ?_ _);unfold KB;rw[f];refine Kq e (λ j _ B=>?_) ?_
 .unfold Hy;rw[Array.getElem?_setIfInBounds_ne (Ne.symm B)]
 .have h1:Hy gs i=1:=by unfold Hy;rw[w];simp[E]
  have F:Hy (gs.setIfInBounds i g') i=0:=by unfold Hy;simp[e,z]
  omega
section
variable{W R W' R':Hd->Loc->Prop}{rel:Nat->Option Nat}{blk mb rm:Option Nat}{act wk:Nat->Prop}{size size' i:Nat}{t:Trace}{fn:FuncId}{pos:String}{es:Array Event}
def TI.events(h:TI W R rel blk mb rm act wk size t)(I:size<=size')(z:∀e∈es,(MemAct.ofEvent e).low size')(H:∀e∈es,∀a,MemAct.ofEvent e≠.mark (.release a))
  (E:∀j a,touchAt t j=some a->∀e∈es,∀b,(MemAct.ofEvent e).touch?=some b->∀said,a.conflicts said b->Knows t i j)
  (L:∀k l,W' k l->W k l\/(k=.run i/\Loc.newN size l)) (K:∀k l,R' k l->R k l\/(k=.run i/\Loc.newN size l))
  (B:∀e∈es,∀a,(MemAct.ofEvent e).touch?=some a->∀k,k≠.run i->¬W k a.loc/\(a.write=true->¬R k a.loc))
  (G:∀e∈es,∀a,(MemAct.ofEvent e).touch?=some a->JF blk a.loc->a.kind≠.plain/\(a.kind=.said->i=0)) (F:∀e∈es,∀a,(MemAct.ofEvent e).touch?=some a->JF mb a.loc->a.kind=.atomic)
  (w:i=0\/wk i\/∀j,t.size<=j->¬(t++MemOp.ofEvents i fn pos es).counts j) :
  TI W' R' rel blk mb rm act wk size' (t++MemOp.ofEvents i fn pos es):=by
 refine h.step I ?_ ?_ ?_ ?_ L K ?_ ?_ ?_ w
 .intro op hop;obtain⟨e,_,rfl⟩:=Go.Conc.mem_ofEvents hop;rfl
 .intro op hop;obtain⟨e,f,rfl⟩:=Go.Conc.mem_ofEvents hop;exact z e f
 .intro op hop;obtain⟨e,f,rfl⟩:=Go.Conc.mem_ofEvents hop;exact H e f
 .intro j a ha op hop;obtain⟨e,f,rfl⟩:=Go.Conc.mem_ofEvents hop;exact E j a ha e f
 .intro op hop;obtain⟨e,f,rfl⟩:=Go.Conc.mem_ofEvents hop;exact B e f
 .intro op hop;obtain⟨e,f,rfl⟩:=Go.Conc.mem_ofEvents hop;exact G e f
 .intro op hop;obtain⟨e,f,rfl⟩:=Go.Conc.mem_ofEvents hop;exact F e f
def Ov(e:Event):Prop:=(MemAct.ofEvent e).touch?=none/\(∀n,(MemAct.ofEvent e).low n)/\∀a,MemAct.ofEvent e≠.mark (.release a)
def Pi{e:Event}(h:e.mute=true):Ov e:=by
 obtain⟨loc,wr,f⟩:=e;cases loc <;> simp[Event.mute]at h;rename_i m;cases m <;> simp at h <;> exact⟨rfl,λ _=>trivial,λ _ h=>by cases h⟩
def TI.dumb(h:TI W R rel blk mb rm act wk size t)(w:∀e∈es,Ov e):TI W R rel blk mb rm act wk size (t++MemOp.ofEvents i fn pos es):=by
 refine h.events (Nat.le_refl _) (λ e h=>(w e h).2.1 _) (λ e h=>(w e h).2.2) (λ j a _ e h b E=>?_) (λ _ _=>.inl) (λ _ _=>.inl) (λ e h a f=>?_) (λ e h a f=>?_) (λ e h a f=>?_) ?_
 .rw[(w e h).1]at E;cases E
 .rw[(w e h).1]at f;cases f
 .rw[(w e h).1]at f;cases f
 .rw[(w e h).1]at f;cases f
 .refine .inr (.inr λ j I F=>?_);obtain⟨x,H,_⟩:=F;rcases Jn (t:=t) H with⟨G,_⟩|⟨_,op,B,z,_⟩
  .omega
  .obtain⟨e,he',rfl⟩:=Go.Conc.mem_ofEvents B;rw[(w e he').1]at z;cases z
end
section
variable{V:Hd->Qa Tk}{rel:Nat->Option Nat}{blk mb rm:Option Nat}{act wk:Nat->Prop}{i:Nat}{tr:Trace}{w w':World}{fn:FuncId}{pos:String}{es:Array Event}{U':Qa Tk}
def KV{U:Qa Tk}{e:Event}(h:J_ U w e)(E:X_ w' e):Ov e \/
  ((∃x,(MemAct.ofEvent e).touch?=some x/\x.kind=.plain/\x.loc=e.loc/\(x.write=true->U.canW e.loc\/Loc.new w e.loc)/\(U.canR e.loc\/Loc.new w e.loc))/\(MemAct.ofEvent e).low w'.heap.size/\∀a,MemAct.ofEvent e≠.mark (.release a)):=by
 obtain⟨loc,wr,G⟩:=e;cases loc with
 |cell a=>
  obtain⟨z,f⟩:=h;simp only at z f;subst z;refine .inr ⟨⟨_,rfl,rfl,rfl,λ B=>?_,?_⟩,E,λ _ h=>by cases h⟩
  .simp only at B;subst B;simpa using f
  .cases wr
   .simpa using f
   .simp only[if_true]at f;exact f.imp Zw id
 |obj b=>
  obtain⟨z,f⟩:=h;simp only at z f;subst z;have F:MemAct.ofEvent ⟨.obj b,wr,false⟩=.access ⟨.obj b,wr,false⟩:=by cases wr <;> rfl
  rw[F];refine .inr ⟨⟨_,rfl,rfl,rfl,λ B=>?_,?_⟩,E,λ _ h=>by cases h⟩
  .simp only at B;subst B;simpa using f
  .cases wr
   .simpa using f
   .simp only[if_true]at f;exact f.imp Zw id
 |mark m=>
  have h:Mark.still m=true:=h;left;cases m <;> simp[Mark.still]at h <;> exact⟨rfl,λ _=>trivial,λ _ h=>by cases h⟩
 |output=>exact h.elim
 |goroutines=>exact h.elim
def KO{l:Loc}(h:Loc.new w l):Loc.newN w.heap.size l:=by cases l <;> exact h
def Ti(h:TI (λ k=>(V k).canW) (λ k=>(V k).canR) rel blk mb rm act wk w.heap.size tr)(Q:VI V w)(hb:∀b,blk=some b->b<w.heap.size/\QJ b (V (.run i)))(hm:∀b,mb=some b->b<w.heap.size/\QJ b (V (.run i)))
  (B:∀e∈es,J_ (V (.run i)) w e/\X_ w' e) (W:ZY (V (.run i)) w w' U') (hi:i=0\/wk i) :
  TI (λ k=>(Q7 V (.run i) U' k).canW) (λ k=>(Q7 V (.run i) U' k).canR) rel blk mb rm act wk w'.heap.size (tr++MemOp.ofEvents i fn pos es):=by
 have key:∀e∈es,∀x,(MemAct.ofEvent e).touch?=some x->x.kind=.plain/\(x.write=true->(V (.run i)).canW x.loc\/Loc.new w x.loc)/\((V (.run i)).canR x.loc\/Loc.new w x.loc):=by
  intro e z x M;rcases KV (B e z).1 (B e z).2 with G|⟨⟨y,hy,N,E,f,h4⟩,_⟩
  .rw[G.1]at M;cases M
  .rw[hy]at M;cases M;rw[E];exact⟨N,f,h4⟩
 refine h.events W.size ?_ ?_ ?_ ?_ ?_ ?_ ?_ ?_ (hi.imp id .inl)
 .intro e z;rcases KV (B e z).1 (B e z).2 with G|⟨_,G,_⟩
  .exact G.2.1 _
  .exact G
 .intro e z;rcases KV (B e z).1 (B e z).2 with G|⟨_,_,G⟩
  .exact G.2.2
  .exact G
 .intro j a ha e z b hb' said hc;obtain⟨N,E,f⟩:=key e z b hb'
  have H:¬Loc.new w a.loc:=by
   obtain⟨x,M,Z⟩:=touch_of ha;exact λ P=>Dr (h.low x (Array.mem_of_getElem? M)) Z (KO P)
  obtain⟨U,_,Y,_⟩:=hc;rw[<- U]at E f;refine h.known (.run i) j a ha ?_;rcases Y with L|L
  .exact .inr ⟨f.resolve_right H,L⟩
  .exact .inl ((E L).resolve_right H)
 .intro k l hl;by_cases e:k=.run i
  .subst e;simp only[Qj]at hl;exact(W.cw l hl).imp id λ P=>⟨rfl,KO P⟩
  .simp only[Qg _ _ e]at hl;exact .inl hl
 .intro k l hl;by_cases e:k=.run i
  .subst e;simp only[Qj]at hl;exact(W.cr l hl).imp id λ P=>⟨rfl,KO P⟩
  .simp only[Qg _ _ e]at hl;exact .inl hl
 .intro e z a ha k hk;obtain⟨N,E,f⟩:=key e z a ha;refine⟨λ L=>?_,λ T hr=>?_⟩
  .rcases f with f|f
   .exact Q.sep k (.run i) _ hk L f
   .exact VV (Q.ok k) (Zw L) f
  .rcases E T with E|E
   .exact Q.sep (.run i) k _ (Ne.symm hk) E hr
   .exact VV (Q.ok k) hr E
 .intro e z a ha hib;exfalso;obtain⟨N,E,f⟩:=key e z a ha;obtain⟨loc,wr,kd⟩:=a;cases loc <;> simp only[JF]at hib;rename_i S;obtain⟨I,F⟩:=hib;obtain⟨X,K⟩:=hb _ I;rcases f with f|f
  .exact K S rfl F f
  .simp only[Loc.new]at f;omega
 .intro e z a ha hib;exfalso;obtain⟨N,E,f⟩:=key e z a ha;obtain⟨loc,wr,kd⟩:=a;cases loc <;> simp only[JF]at hib;rename_i S;obtain⟨I,F⟩:=hib;obtain⟨X,K⟩:=hm _ I;rcases f with f|f
  .exact K S rfl F f
  .simp only[Loc.new]at f;omega
def V3(b:Nat)(parent:Bool)(e:Event):Prop:=
 Event.mute e=true\/(∃o wr,o<2/\e=⟨.cell ⟨b,o,none⟩,wr,true⟩)\/(parent=true/\∃o wr,o<2/\e=Wj (bif wr then .write ⟨b,o,none⟩else .read ⟨b,o,none⟩))
def Ty{b:Nat}(h:TI (λ k=>(V k).canW) (λ k=>(V k).canR) rel (some b) mb rm act wk w.heap.size tr)(M:b<w.heap.size)(I:∀k,QJ b (V k))(K:act i)
  (N:∀e∈es,V3 b (i==0) e) (P:mb≠some b) (T:i=0\/wk i\/∀j,tr.size<=j->¬(tr++MemOp.ofEvents i fn pos es).counts j) :
  TI (λ k=>(V k).canW) (λ k=>(V k).canR) rel (some b) mb rm act wk w.heap.size (tr++MemOp.ofEvents i fn pos es):=by
 have key:∀e∈es,(MemAct.ofEvent e).low w.heap.size/\(∀a,MemAct.ofEvent e≠.mark (.release a))/\∀x,(MemAct.ofEvent e).touch?=some x->(∃o,o<2/\x.loc=.cell ⟨b,o,none⟩)/\(x.kind=.atomic\/(x.kind=.said/\i=0)):=by
  intro e f;rcases N e f with U|⟨o,wr,I,rfl⟩|⟨W,o,wr,I,rfl⟩
  .have:=Pi U;exact⟨this.2.1 _,this.2.2,λ x G=>by rw[this.1]at G;cases G⟩
  .refine⟨M,λ _ h=>(by cases h),λ x G=>?_⟩;cases G;exact⟨⟨o,I,rfl⟩,.inl rfl⟩
  .have z:i=0:=by simpa using W
   cases wr
   .refine⟨M,λ _ h=>(by cases h),λ x G=>?_⟩;cases G;exact⟨⟨o,I,rfl⟩,.inr ⟨rfl,z⟩⟩
   .refine⟨M,λ _ h=>(by cases h),λ x G=>?_⟩;cases G;exact⟨⟨o,I,rfl⟩,.inr ⟨rfl,z⟩⟩
 refine h.events (Nat.le_refl _) (λ e f=>(key e f).1) (λ e f=>(key e f).2.1) ?_ (λ _ _=>.inl) (λ _ _=>.inl) ?_ ?_ ?_ T
 .intro j a ha e f x G said hc;obtain⟨⟨o,F,L⟩,B⟩:=(key e f).2.2 x G;obtain⟨S,_,_,H⟩:=hc;have E:JF (some b) a.loc:=by rw[S,L];exact⟨rfl,F⟩
  rcases H with H|H|⟨_,H,Q⟩
  .exact h.grpP j a ha E H i K
  .rcases B with B|⟨B,_⟩ <;> rw[B]at H <;> cases H
  .rcases B with B|⟨_,z⟩
   .rw[B]at Q;cases Q
   .subst z;exact h.grpS j a ha E H
 .intro e f a ha k _;obtain⟨⟨o,F,L⟩,_⟩:=(key e f).2.2 a ha;rw[L];exact⟨λ Y=>I k _ rfl F (Zw Y),λ _ X=>I k _ rfl F X⟩
 .intro e f a ha _;obtain⟨_,B⟩:=(key e f).2.2 a ha;rcases B with B|⟨B,z⟩ <;> rw[B]
  .exact⟨λ h=>(by cases h),λ h=>(by cases h)⟩
  .exact⟨λ h=>(by cases h),λ _=>z⟩
 .intro e f a ha E;obtain⟨⟨o,F,L⟩,_⟩:=(key e f).2.2 a ha;rw[L]at E;exact absurd E.1 P
def zd{m:Nat}(h:TI (λ k=>(V k).canW) (λ k=>(V k).canR) rel blk (some m) rm act wk w.heap.size tr)(S:m<w.heap.size)(L:∀k,QJ m (V k))(H:act i)
  (M:∀e∈es,HV m e) (I:blk≠some m) (T:wk i) :
  TI (λ k=>(V k).canW) (λ k=>(V k).canR) rel blk (some m) rm act wk w.heap.size (tr++MemOp.ofEvents i fn pos es):=by
 have key:∀e∈es,(MemAct.ofEvent e).low w.heap.size/\(∀a,MemAct.ofEvent e≠.mark (.release a))/\∀x,(MemAct.ofEvent e).touch?=some x->(∃o,o<2/\x.loc=.cell ⟨m,o,none⟩)/\x.kind=.atomic:=by
  intro e f;rcases M e f with U|⟨o,wr,L,rfl⟩
  .have:=Pi U;exact⟨this.2.1 _,this.2.2,λ x F=>by rw[this.1]at F;cases F⟩
  .refine⟨S,λ _ h=>(by cases h),λ x F=>?_⟩;cases F;exact⟨⟨o,L,rfl⟩,rfl⟩
 refine h.events (Nat.le_refl _) (λ e f=>(key e f).1) (λ e f=>(key e f).2.1) ?_ (λ _ _=>.inl) (λ _ _=>.inl) ?_ ?_ ?_ (.inr (.inl T))
 .intro j a ha e f x F said hc;obtain⟨⟨o,z,K⟩,P⟩:=(key e f).2.2 x F;obtain⟨Q,_,_,E⟩:=hc;have B:JF (some m) a.loc:=by rw[Q,K];exact⟨rfl,z⟩
  by_cases G:a.kind=.atomic
  .exfalso;rcases E with E|E|⟨_,E,N⟩
   .rw[G]at E;cases E
   .rw[P]at E;cases E
   .rw[P]at N;cases N
  .exact h.grpM j a ha B G i H
 .intro e f a ha k _;obtain⟨⟨o,z,K⟩,_⟩:=(key e f).2.2 a ha;rw[K];exact⟨λ X=>L k _ rfl z (Zw X),λ _ W=>L k _ rfl z W⟩
 .intro e f a ha B;obtain⟨⟨o,z,K⟩,_⟩:=(key e f).2.2 a ha;rw[K]at B;exact absurd B.1 I
 .intro e f a ha _;exact((key e f).2.2 a ha).2
def Vy{b:Nat}(B:∀e∈es,Event.mute e=true\/∃o wr,e=⟨.cell ⟨b,o,none⟩,wr,true⟩)(K:∀j,j<es.size->deafBehind (Deaf tr i) (es.extract 0 j)≠0) :
  ∀j,tr.size<=j->¬(tr++MemOp.ofEvents i fn pos es).counts j:=by
 intro j L I;obtain⟨x,N,_,w⟩:=I;rcases Jn (t:=tr) N with⟨z,_⟩|⟨_,op,E,f,H⟩
 .omega
 .obtain⟨e,he,rfl⟩:=Go.Conc.mem_ofEvents E;rcases B e he with M|⟨o,wr,rfl⟩
  .rw[(Pi M).1]at f;cases f
  .cases f;rcases w with w|⟨g,G,w⟩
   .exact w rfl
   .have hgi:g=i:=by
     simp only[Trace.g?,H,Option.map_some,Option.some.injEq]at G;exact G.symm
    subst hgi;have z:=lt_size_of_getElem? H;have F:(MemOp.ofEvents g fn pos es).size=es.size:=by rw[ofEvents_eq];simp
    rw[Array.size_append,F]at z;obtain⟨k,rfl⟩:=Nat.exists_eq_add_of_le L;rw[deaf_inside tr g fn pos es k O1]at w;exact K k O1 w
end
end Go.TM

