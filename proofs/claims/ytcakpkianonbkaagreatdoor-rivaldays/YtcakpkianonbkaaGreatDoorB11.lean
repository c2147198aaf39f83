/- Lemmas. No conditions. -/
import Derived.Conc.Beside
import Derived.Test.YtcakpkianonbkaaGreatDoorB00
set_option linter.all false
open List
namespace Go.TM
inductive Tr:Type 1 where
 |node (ι:Type) (f:ι->Tr)
def Tr.Sub:Tr->Tr->Prop
 |a,.node _ f=>∃i,a=f i
def Tr.sub_wf:WellFounded Tr.Sub:=by
 refine⟨λ r=>?_⟩
 induction r with
 |node ι f b=>
  refine⟨_,λ a h=>?_⟩;obtain⟨i,rfl⟩:=h;exact b i
section
variable{T:Type}{P:Program}{S:Sys P T}{Stop:QJ T}
def JR(S:Sys P T)(Stop:QJ T):Tr->QJ T
 |.node _ f=>FJ S Stop (λ m g U=>∃i,JR S Stop (f i) m g U)
def J.rank{m:Bool}{g:Gr}{U:Qa T}(h:J S Stop m g U):∃r,JR S Stop r m g U:=by
 refine J.ind (X:=λ m g U=>∃r,JR S Stop r m g U) (λ m g U h=>?_) h;refine⟨.node { x:Bool×Gr×Qa T // ∃r,JR S Stop r x.1 x.2.1 x.2.2 } (λ x=>Classical.choose x.2),?_⟩;exact h.mono λ m g U b=>⟨⟨(m,g,U),b.1⟩,Classical.choose_spec (p:=λ r=>JR S Stop r m g U) b.1⟩
def JR.step{r:Tr}{m:Bool}{g:Gr}{U:Qa T}(h:JR S Stop r m g U):FJ S Stop (λ m g U=>∃b,Tr.Sub b r/\JR S Stop b m g U) m g U:=by
 cases r with
 |node ι f=>
  have e:FJ S Stop (λ m g U=>∃i,JR S Stop (f i) m g U) m g U:=h;exact e.mono λ m g U⟨i,w⟩=>⟨f i,⟨i,rfl⟩,w⟩
end
def ZR(b L:List Tr):Prop:=∃r B C,L.Perm (r::B)/\b.Perm (C++B)/\∀c∈C,Tr.Sub c r
def ZR.perm{K L b:List Tr}(h:ZR K L)(p:L.Perm b):ZR K b:=by
 obtain⟨r,B,C,e,w,z⟩:=h;exact⟨r,B,C,p.symm.trans e,w,z⟩
def ET{L b:List Tr}(h:Acc ZR L)(p:L.Perm b):Acc ZR b:=⟨_,λ K e=>h.inv (e.perm p.symm)⟩
def uG:Acc ZR []:=by
 refine⟨_,λ K h=>?_⟩;obtain⟨r,B,C,b,_⟩:=h;have:=b.length_eq;simp at this
def Av{r:Tr}(N:∀c,Tr.Sub c r->∀L,Acc ZR L->Acc ZR (c::L)):∀L,Acc ZR L->Acc ZR (r::L):=by
 intro L e
 induction e with
 |intro L b P=>
  refine⟨_,λ K I=>?_⟩;obtain⟨x,B,C,w,F,G⟩:=I
  classical
  by_cases H:x=r
  .subst H;have z:L.Perm B:=w.cons_inv
   have key:∀C:List Tr,(∀c∈C,Tr.Sub c x)->Acc ZR (C++L):=by
    intro C
    induction C with
    |nil=>intro _;exact⟨L,b⟩
    |cons c C E=>intro h;exact N c (h c S1) _ (E λ d M=>h d (by simp[M]))
   exact ET (key C G) ((Perm.append_left C z).trans F.symm)
  .have hm:x∈L:=by
    have:x∈r::L:=w.mem_iff.2 S1;simpa[H]using this
   have e:=perm_cons_erase hm
   have z:B.Perm (r::L.erase x):=by
    have:(x::B).Perm (x::r::L.erase x):=w.symm.trans ((e.cons r).trans (Perm.swap ..));exact this.cons_inv
   have h:ZR (C++L.erase x) L:=⟨x,L.erase x,C,e,Perm.refl _,G⟩;refine ET (P _ h) ?_;refine Perm.symm ?_;refine F.trans ?_;refine(Perm.append_left C z).trans ?_;exact perm_middle
def dW:WellFounded ZR:=by
 refine⟨λ L=>?_⟩
 have key:∀r:Tr,∀L,Acc ZR L->Acc ZR (r::L):=by
  intro r
  induction r using Tr.sub_wf.induction with
  |_ r b=>exact Av b
 induction L with
 |nil=>exact uG
 |cons r L b=>exact key r L b
def JD:List Tr×Nat->List Tr×Nat->Prop:=Prod.Lex ZR (· < ·)
def si:WellFounded JD:=(Prod.lex ⟨ZR,dW⟩ ⟨(· < ·),Nat.lt_wfRel.wf⟩).wf
def JD.cut{L e:List Tr}{a b:Nat}(h:ZR e L):JD (e,a) (L,b):=Prod.Lex.left _ _ h
def JD.num{L:List Tr}{a b:Nat}(h:a<b):JD (L,a) (L,b):=Prod.Lex.right _ h
end Go.TM
namespace Go.TM
open Go.Conc
inductive Hd where
 |run (i:Nat)
 |dep (i:Nat)
 |lck
 deriving DecidableEq
def Kn(t:Trace)(rel:Nat->Option Nat):Hd->Nat->Prop
 |.run g,i=>Knows t g i
 |.dep g,i=>∃r,rel g=some r/\Before t i r
 |.lck,_=>True
def Loc.newN(n:Nat):Loc->Prop
 |.cell a=>n<=a.block
 |.obj b=>n<=b
 |_=>False
def JE(b:Option Nat):Loc->Prop
 |.cell a=>b=some a.block/\a.off<2
 |_=>False
def MK(act:Nat->Prop)(rm:Option Nat)(t:Trace)(i:Nat):Prop:=
 match rm with
 |none=>∀g,act g->Knows t g i
 |some r=>Before t i r
structure TI(W R:Hd->Loc->Prop)(rel:Nat->Option Nat)(blk mb rm:Option Nat)(act wk:Nat->Prop)(size:Nat)(t:Trace):Prop where
 clean:∀said,¬Race said t
 known:∀h i a,touchAt t i=some a->(W h a.loc\/(R h a.loc/\a.write=true))->Kn t rel h i
 low:∀op∈t,op.act.low size
 norel:∀i a,t.act? i≠some (.mark (.release a))
 grpP:∀i a,touchAt t i=some a->JE blk a.loc->a.kind=.plain->∀g,act g->Knows t g i
 grpS:∀i a,touchAt t i=some a->JE blk a.loc->a.kind=.said->Knows t 0 i
 relok:∀g r,rel g=some r->∃b,blk=some b/\t.act? r=some (.mark (.releaseMerge ⟨b,0,none⟩))/\t.heard r/\t.g? r=some g
 hand:∀i g,t.g? i=some g->g≠0->t.counts i->wk g\/(∃r,rel g=some r/\Before t i r)\/Knows t 0 i
 grpM:∀i a,touchAt t i=some a->JE mb a.loc->a.kind≠.atomic->∀g,act g->Knows t g i
 mutK:∀i a,touchAt t i=some a->(W .lck a.loc\/(R .lck a.loc/\a.write=true))->MK act rm t i
 mutR:∀r,rm=some r->∃m g,mb=some m/\t.act? r=some (.mark (.releaseMerge ⟨m,0,none⟩))/\t.heard r/\t.g? r=some g/\(wk g\/∃r',rel g=some r'/\Before t r r')
def MK.app{act:Nat->Prop}{rm:Option Nat}{t:Trace}{i:Nat}(u:Trace)(k:MK act rm t i):MK act rm (t++u) i:=by
 cases rm with
 |none=>exact λ g b=>(k g b).app u
 |some r=>exact Before.app u k
def MK.turn{act act':Nat->Prop}{rm:Option Nat}{t:Trace}{i:Nat}(h:∀g,act' g->act g)(k:MK act rm t i):MK act' rm t i:=by
 cases rm with
 |none=>exact λ g b=>k g (h g b)
 |some r=>exact k
def Kn.app{t:Trace}{rel:Nat->Option Nat}{h:Hd}{i:Nat}(u:Trace)(k:Kn t rel h i):Kn (t++u) rel h i:=by
 cases h with
 |run g=>exact Knows.app u k
 |dep g=>obtain⟨r,b,e⟩:=k;exact⟨r,b,e.app u⟩
 |lck=>trivial
def MG{n:Nat}{x:MemAct}{a:Touch}(h:x.low n)(b:x.touch?=some a):¬Loc.newN n a.loc:=by
 cases x with
 |access e=>
  simp only[MemAct.touch?,Option.some.injEq]at b;subst b;obtain⟨loc,wr,w⟩:=e;cases loc <;> simp_all[MemAct.low,Loc.low,Loc.newN]
 |mark m=>cases m <;> simp_all[MemAct.touch?,MemAct.low,Loc.newN] <;> (subst b;simpa[Loc.newN]using h)
 |_=>simp[MemAct.touch?]at b
section
variable{W R W' R':Hd->Loc->Prop}{rel:Nat->Option Nat}{blk mb rm:Option Nat}{act wk:Nat->Prop}{size size' g:Nat}{t u:Trace}
def G2{i:Nat}{x:MemAct}(h:(t++u).act? i=some x):(i<t.size/\t.act? i=some x)\/(t.size<=i/\∃op∈u,op.act=x):=by
 obtain⟨op,B,b⟩:=Option.map_eq_some_iff.1 h;rcases getElem?_append_cases B with⟨e,w⟩|⟨e,z⟩
 .exact .inl ⟨e,by rw[act?_of w,b]⟩
 .exact .inr ⟨e,op,z,b⟩
def Jm{i:Nat}{a:Touch}(h:touchAt (t++u) i=some a):(i<t.size/\touchAt t i=some a)\/(t.size<=i/\∃op∈u,op.act.touch?=some a/\(t++u)[i]?=some op):=by
 obtain⟨x,B,b⟩:=touch_of h;rcases getElem?_append_cases B with⟨e,w⟩|⟨e,z⟩
 .exact .inl ⟨e,by rw[touchAt_of w,b]⟩
 .exact .inr ⟨e,x,z,b,B⟩
def TI.step(h:TI W R rel blk mb rm act wk size t)(ag:size<=size')(Z:∀op∈u,op.g=g)(U:∀op∈u,op.act.low size')(ad:∀op∈u,∀a,op.act≠.mark (.release a))
  (aa:∀i a,touchAt t i=some a->∀op∈u,∀b,op.act.touch?=some b->∀said,a.conflicts said b->Knows t g i)
  (X:∀k l,W' k l->W k l\/(k=.run g/\Loc.newN size l)) (V:∀k l,R' k l->R k l\/(k=.run g/\Loc.newN size l))
  (M:∀op∈u,∀a,op.act.touch?=some a->∀k,k≠.run g->¬W k a.loc/\(a.write=true->¬R k a.loc))
  (T:∀op∈u,∀a,op.act.touch?=some a->JE blk a.loc->a.kind≠.plain/\(a.kind=.said->g=0)) (ac:∀op∈u,∀a,op.act.touch?=some a->JE mb a.loc->a.kind=.atomic)
  (P:g=0\/wk g\/∀i,t.size<=i->¬(t++u).counts i) :
  TI W' R' rel blk mb rm act wk size' (t++u):=by
 refine⟨λ said=>noRace_append (h.clean said) Z λ i a H op w b I Y=>aa i a H op w b I said Y,?_,?_,?_,?_,?_,?_,?_,?_,?_,?_⟩
 .intro k i a H z;rcases Jm H with⟨F,E⟩|⟨F,op,w,B,L⟩
  .refine(h.known k i a E ?_).app u
   have hl:¬Loc.newN size a.loc:=by
    obtain⟨x,hx,ah⟩:=touch_of E;exact MG (h.low x (Array.mem_of_getElem? hx)) ah
   rcases z with z|⟨z,Q⟩
   .rcases X _ _ z with z|z
    .exact .inl z
    .exact absurd z.2 hl
   .rcases V _ _ z with z|z
    .exact .inr ⟨z,Q⟩
    .exact absurd z.2 hl
  .by_cases hk:k=.run g
   .subst hk;have:=knows_own L;rw[Z op w]at this;exact this
   .have:=M op w a B k hk;rcases z with z|⟨z,Q⟩
    .rcases X _ _ z with z|z
     .exact absurd z this.1
     .exact absurd z.1 hk
    .rcases V _ _ z with z|z
     .exact absurd z (this.2 Q)
     .exact absurd z.1 hk
 .intro op w;rcases Array.mem_append.1 w with w|w
  .exact MemAct.low_mono ag (h.low op w)
  .exact U op w
 .intro i a e;rcases G2 e with⟨_,e⟩|⟨_,op,w,B⟩
  .exact h.norel i a e
  .exact ad op w a B
 .intro i a H I hk g' hg';rcases Jm H with⟨F,E⟩|⟨F,op,w,B,L⟩
  .exact(h.grpP i a E I hk g' hg').app u
  .exact absurd hk (T op w a B I).1
 .intro i a H I hk;rcases Jm H with⟨F,E⟩|⟨F,op,w,B,L⟩
  .exact(h.grpS i a E I hk).app u
  .have:=knows_own L;rw[Z op w,(T op w a B I).2 hk]at this;exact this
 .intro g' r hr;obtain⟨b,K,N,h3,h4⟩:=h.relok g' r hr;have G:=lt_of_act? N;exact⟨b,K,by rw[act?_old G];exact N,(heard_old G).2 h3,by rw[g?_old G];exact h4⟩
 .intro i g' hg hne Y;by_cases F:i<t.size
  .rw[g?_old F]at hg;rcases h.hand i g' hg hne ((counts_old F).1 Y)with K|⟨r,K,N⟩|K
   .exact .inl K
   .exact .inr (.inl ⟨r,K,N.app u⟩)
   .exact .inr (.inr (K.app u))
  .have F:t.size<=i:=Nat.le_of_not_lt F
   have ab:g'=g:=by
    obtain⟨op,L,ae⟩:=Option.map_eq_some_iff.1 hg;rcases getElem?_append_cases L with⟨ai,_⟩|⟨_,af⟩
    .omega
    .rw[<- ae];exact Z op af
   subst ab;rcases P with S|S|S
   .exact absurd S hne
   .exact .inl S
   .exact absurd Y (S i F)
 .intro i a H I hk g' hg';rcases Jm H with⟨F,E⟩|⟨F,op,w,B,L⟩
  .exact(h.grpM i a E I hk g' hg').app u
  .exact absurd (ac op w a B I) hk
 .intro i a H z;rcases Jm H with⟨F,E⟩|⟨F,op,w,B,L⟩
  .refine(h.mutK i a E ?_).app u;rcases z with z|⟨z,Q⟩
   .exact .inl ((X _ _ z).resolve_right λ x=>by cases x.1)
   .exact .inr ⟨(V _ _ z).resolve_right λ x=>(by cases x.1),Q⟩
  .have:=M op w a B .lck S1;rcases z with z|⟨z,Q⟩
   .exact absurd ((X _ _ z).resolve_right λ x=>by cases x.1) this.1
   .exact absurd ((V _ _ z).resolve_right λ x=>by cases x.1) (this.2 Q)
 .intro r hr;obtain⟨m,g',K,N,h3,h4,h5⟩:=h.mutR r hr;have G:=lt_of_act? N;exact⟨m,g',K,by rw[act?_old G];exact N,(heard_old G).2 h3,by rw[g?_old G];exact h4,h5.imp id λ⟨r',k1,k2⟩=>⟨r',k1,k2.app u⟩⟩
def TI.turn{act':Nat->Prop}(h:TI W R rel blk mb rm act wk size t)(G:∀k l,W' k l->W k l)(F:∀k l,R' k l->R k l)(e:∀g,act' g->act g):TI W' R' rel blk mb rm act' wk size t:=
 ⟨h.clean,λ k i a e E=>h.known k i a e (E.imp (G _ _) λ x=>⟨F _ _ x.1,x.2⟩),h.low,h.norel,λ i a b w z g B=>h.grpP i a b w z g (e g B),h.grpS,h.relok,h.hand,λ i a b w z g B=>h.grpM i a b w z g (e g B),λ i a b E=>(h.mutK i a b (E.imp (G _ _) λ x=>⟨F _ _ x.1,x.2⟩)).turn e,h.mutR⟩
def Xm(t:Trace)(y:MemOp):(t++#[y])[t.size]?=some y:=S1
def Gz{said:Bool}{y:MemOp}(h:¬Race said t)(z:y.act.touch?=none):¬Race said (t++#[y]):=
 noRace_append (g:=y.g) h S1 λ i a _ op e b w=>by simp at e;subst e;rw[z]at w;cases w
def Zr{i:Nat}{a:Touch}{y:MemOp}(w:y.act.touch?=none)(h:touchAt (t++#[y]) i=some a):i<t.size/\touchAt t i=some a:=by
 rcases Jm h with h|⟨_,op,e,b,_⟩
 .exact h
 .simp at e;subst e;rw[w]at b;cases b
def GA{y:MemOp}(b:Deaf t y.g=0):(t++#[y]).heard t.size:=
 ⟨y.g,by simp[Trace.g?],by rw[deaf_old (Nat.le_refl _)];exact b⟩
def Gw{i:Nat}{y:MemOp}(B:y.act.touch?=none)(h:(t++#[y]).counts i):i<t.size/\t.counts i:=by
 obtain⟨x,e,w⟩:=h;obtain⟨b,z⟩:=Zr B e;exact⟨b,(counts_old b).1 ⟨x,e,w⟩⟩
def TI.release{b:Nat}{y:MemOp}{wk':Nat->Prop}{rel':Nat->Option Nat}(h:TI W R rel blk mb rm act wk size t)(hb:blk=some b)(V:y.act=.mark (.releaseMerge ⟨b,0,none⟩))(Z:b<size)
  (hd:Deaf t y.g=0) (hg:rel y.g=none) (w:∀k,rel' k=if k=y.g then some t.size else rel k)
  (hW:∀k l,W' k l->W k l/\k≠.dep y.g\/(k=.dep y.g/\W (.run y.g) l)) (hR:∀k l,R' k l->R k l/\k≠.dep y.g\/(k=.dep y.g/\R (.run y.g) l)) (S:∀k,wk k->wk' k\/k=y.g) :
  TI W' R' rel' blk mb rm act wk' size (t++#[y]):=by
 have I:y.act.touch?=none:=by rw[V];rfl
 refine⟨λ said=>Gz (h.clean said) I,?_,?_,?_,?_,?_,?_,?_,?_,?_,?_⟩
 .intro k i a ha B;obtain⟨M,z⟩:=Zr I ha
  have key:k≠.dep y.g->(W k a.loc\/(R k a.loc/\a.write=true))->Kn (t++#[y]) rel' k i:=by
   intro H B;have:=(h.known k i a z B).app #[y];cases k with
   |run g'=>exact this
   |dep g'=>
    obtain⟨r,K,L⟩:=this;refine⟨r,?_,L⟩;rw[w,if_neg]
    .exact K
    .intro e;subst e;exact H rfl
   |lck=>trivial
  have N:k=.dep y.g->(W (.run y.g) a.loc\/(R (.run y.g) a.loc/\a.write=true))->Kn (t++#[y]) rel' k i:=by
   intro H hq;subst H;refine⟨t.size,by rw[w,if_pos rfl],.inr ?_⟩;exact Knows.hb_new (h.known (.run y.g) i a z hq) (Nat.le_refl _) (Xm t y) rfl
  rcases B with B|⟨B,U⟩
  .rcases hW _ _ B with⟨B,H⟩|⟨H,B⟩
   .exact key H (.inl B)
   .exact N H (.inl B)
  .rcases hR _ _ B with⟨B,H⟩|⟨H,B⟩
   .exact key H (.inr ⟨B,U⟩)
   .exact N H (.inr ⟨B,U⟩)
 .intro op G;rcases Array.mem_append.1 G with G|G
  .exact h.low op G
  .simp at G;subst G;rw[V];exact Z
 .intro i a e;rcases G2 e with⟨_,e⟩|⟨_,op,G,Q⟩
  .exact h.norel i a e
  .simp at G;subst G;rw[V]at Q;cases Q
 .intro i a ha hbl H g' hg';obtain⟨M,z⟩:=Zr I ha;exact(h.grpP i a z hbl H g' hg').app _
 .intro i a ha hbl H;obtain⟨M,z⟩:=Zr I ha;exact(h.grpS i a z hbl H).app _
 .intro g' r hr;rw[w]at hr;split at hr
  .rename_i e;subst e;cases hr;exact⟨b,hb,by rw[act?_of (Xm t y),V],GA hd,by simp[Trace.g?]⟩
  .obtain⟨b,K,L,X,T⟩:=h.relok g' r hr;have F:=lt_of_act? L;exact⟨b,K,by rw[act?_old F];exact L,(heard_old F).2 X,by rw[g?_old F];exact T⟩
 .intro i g' hg' hne hc;obtain⟨M,aa⟩:=Gw I hc;rw[g?_old M]at hg';by_cases E:g'=y.g
  .obtain⟨op,ho,hog⟩:=Option.map_eq_some_iff.1 hg';refine .inr (.inl ⟨t.size,by rw[w,if_pos E],.inr ?_⟩);have P:(t++#[y])[i]?=some op:=by rw[getElem?_append_old M];exact ho
   exact hb_po M P (Xm t y) (hog.trans E)
  .rcases h.hand i g' hg' hne aa with K|⟨r,K,L⟩|K
   .exact(S g' K).elim .inl λ e=>absurd e E
   .exact .inr (.inl ⟨r,by rw[w,if_neg E];exact K,L.app _⟩)
   .exact .inr (.inr (K.app _))
 .intro i a ha hbl H g' hg';obtain⟨M,z⟩:=Zr I ha;exact(h.grpM i a z hbl H g' hg').app _
 .intro i a ha B;obtain⟨M,z⟩:=Zr I ha;refine(h.mutK i a z ?_).app _;rcases B with B|⟨B,U⟩
  .exact .inl ((hW _ _ B).resolve_right λ x=>by cases x.1).1
  .exact .inr ⟨((hR _ _ B).resolve_right λ x=>by cases x.1).1,U⟩
 .intro r hr;obtain⟨m,g',K,L,X,T,Y⟩:=h.mutR r hr;have F:=lt_of_act? L;refine⟨m,g',K,by rw[act?_old F];exact L,(heard_old F).2 X,by rw[g?_old F];exact T,?_⟩;by_cases E:g'=y.g
  .obtain⟨op,ho,hog⟩:=Option.map_eq_some_iff.1 T;refine .inr ⟨t.size,by rw[w,if_pos E],.inr ?_⟩;have P:(t++#[y])[r]?=some op:=by rw[getElem?_append_old F];exact ho
   exact hb_po F P (Xm t y) (hog.trans E)
  .rcases Y with Y|⟨r',k1,k2⟩
   .exact .inl ((S g' Y).resolve_right E)
   .exact .inr ⟨r',by rw[w,if_neg E];exact k1,k2.app _⟩
def TI.acquire{b:Nat}{y:MemOp}{act' wk':Nat->Prop}(h:TI W R rel blk mb rm act wk size t)(hb:blk=some b)(V:y.act=.mark (.acquire ⟨b,0,none⟩))(hg:y.g=0)(Y:b<size)
  (hd:Deaf t 0=0) (S:∀g,¬wk g) (X:act 0)
  (hW:∀k l,W' k l->k=.run 0/\(W (.run 0) l\/(∃g r,rel g=some r/\W (.dep g) l)\/W .lck l)) (hR:∀k l,R' k l->k=.run 0/\(R (.run 0) l\/(∃g r,rel g=some r/\R (.dep g) l)\/R .lck l)) :
  TI W' R' (λ _=>none) none none none act' wk' size (t++#[y]):=by
 have N:y.act.touch?=none:=by rw[V];rfl
 have F:=Xm t y
 have H:∀g r,rel g=some r->Knows (t++#[y]) 0 r:=by
  intro g r L;obtain⟨b',B,G,h3,h4⟩:=h.relok g r L;rw[hb]at B;cases B;have K:=lt_of_act? G;refine⟨t.size,y,F,hg,.inr (.single (.inr ⟨.marked (a:=⟨b,0,none⟩) K (.inr (by rw[act?_old K];exact G)) (by rw[act?_of F,V]) (λ k _ hk=>by rw[act?_old hk];exact h.norel k _),(heard_old K).2 h3,GA (by rw[hg];exact hd)⟩))⟩
 have P:∀i,MK act rm t i->Knows (t++#[y]) 0 i:=by
  intro i I;cases M:rm with
  |none=>rw[M]at I;exact(I 0 X).app _
  |some r=>
   rw[M]at I;obtain⟨m,g',B,G,h3,h4,h5⟩:=h.mutR r M;obtain⟨T,k1,k2⟩:=h5.resolve_left (S g');exact Knows.of_before (Before.app _ I) (Knows.of_before (k2.app _) (H g' T k1))
 refine⟨λ said=>Gz (h.clean said) N,?_,?_,?_,?_,?_,?_,?_,?_,?_,λ r L=>(by cases L)⟩
 .intro k i a ha w;obtain⟨I,E⟩:=Zr N ha;rcases w with w|⟨w,U⟩
  .obtain⟨rfl,w|⟨g,r,L,w⟩|w⟩:=hW _ _ w
   .exact(h.known (.run 0) i a E (.inl w)).app #[y]
   .obtain⟨T,B,G⟩:=h.known (.dep g) i a E (.inl w);exact Knows.of_before (G.app _) (H g T B)
   .exact P i (h.mutK i a E (.inl w))
  .obtain⟨rfl,w|⟨g,r,L,w⟩|w⟩:=hR _ _ w
   .exact(h.known (.run 0) i a E (.inr ⟨w,U⟩)).app #[y]
   .obtain⟨T,B,G⟩:=h.known (.dep g) i a E (.inr ⟨w,U⟩);exact Knows.of_before (G.app _) (H g T B)
   .exact P i (h.mutK i a E (.inr ⟨w,U⟩))
 .intro op z;rcases Array.mem_append.1 z with z|z
  .exact h.low op z
  .simp at z;subst z;rw[V];exact Y
 .intro i a e;rcases G2 e with⟨_,e⟩|⟨_,op,z,Q⟩
  .exact h.norel i a e
  .simp at z;subst z;rw[V]at Q;cases Q
 .intro i a ha hbl;unfold JE at hbl;split at hbl
  .cases hbl.1
  .exact hbl.elim
 .intro i a ha hbl;unfold JE at hbl;split at hbl
  .cases hbl.1
  .exact hbl.elim
 .intro g' r L;cases L
 .intro i g' hg' hne hc;obtain⟨I,Z⟩:=Gw N hc;rw[g?_old I]at hg';rcases h.hand i g' hg' hne Z with B|⟨r,B,G⟩|B
  .exact absurd B (S g')
  .exact .inr (.inr (Knows.of_before (G.app _) (H g' r B)))
  .exact .inr (.inr (B.app _))
 .intro i a ha hbl;unfold JE at hbl;split at hbl
  .cases hbl.1
  .exact hbl.elim
 .intro i a ha w;rcases w with w|⟨w,U⟩
  .cases(hW _ _ w).1
  .cases(hR _ _ w).1
def TI.fork{c:Nat}{y z:MemOp}{act' wk':Nat->Prop}(h:TI W R rel blk mb rm act wk size t)(hy:y.act=.go c)(V:y.g=0)(hz:z.act=.start)(Y:z.g=c)(ag:Deaf t 0=0)(ah:Deaf t c=0)(al:c≠0)
  (M:∀g,act' g->act g\/(g=c/\act 0)) (ae:∀g,wk g->wk' g)
  (hW:∀k l,W' k l->W k l\/(k=.run c/\W (.run 0) l)) (hR:∀k l,R' k l->R k l\/(k=.run c/\R (.run 0) l)) :
  TI W' R' rel blk mb rm act' wk' size (t++#[y,z]):=by
 have e:t++#[y,z]=(t++#[y])++#[z]:=by apply Array.ext';simp
 have X:y.act.touch?=none:=by rw[hy];rfl
 have aa:z.act.touch?=none:=by rw[hz];rfl
 have ad:(t++#[y]).size=t.size+1:=S1
 have ak:(t++#[y]++#[z])[t.size]?=some y:=by rw[getElem?_append_old O1];exact Xm t y
 have Z:(t++#[y]++#[z])[t.size+1]?=some z:=by have:=Xm (t++#[y]) z;rwa [ad]at this
 have G:∀{i:Nat}{a:Touch},touchAt (t++#[y]++#[z]) i=some a->i<t.size/\touchAt t i=some a:=by
  intro i a L;exact Zr X (Zr aa L).2
 have aj:HappensBefore (t++#[y]++#[z]) t.size (t.size+1):=by
  refine .single (.inr ⟨.spawn (child:=c) (by rw[act?_of ak,hy]) (by rw[act?_of Z,hz]) (by simp only[Trace.g?,Z,Option.map_some,Y]),?_,?_⟩)
  .rw[heard_old O1];exact GA (by rw[V];exact ag)
  .have:=GA (t:=t++#[y]) (y:=z) (by rw[Y,Deaf_other t (g':=0) O1 _ (by simp[V])];exact ah)
   rwa [ad]at this
 have N:∀i,Knows t 0 i->Knows (t++#[y]++#[z]) c i:=by
  intro i S;have K:HappensBefore (t++#[y]) i t.size:=S.hb_new (Nat.le_refl _) (Xm t y) V;exact⟨t.size+1,z,Z,Y,.inr ((hb_app _ K).trans aj)⟩
 have app:∀{g i:Nat},Knows t g i->Knows (t++#[y]++#[z]) g i:=λ h=>(h.app _).app _;rw[e];refine⟨λ said=>Gz (Gz (h.clean said) X) aa,?_,?_,?_,?_,?_,?_,?_,?_,?_,?_⟩
 .intro k i a L Q;obtain⟨S,E⟩:=G L;rcases Q with Q|⟨Q,hw⟩
  .rcases hW _ _ Q with U|⟨rfl,U⟩
   .exact((h.known k i a E (.inl U)).app _).app _
   .exact N i (h.known (.run 0) i a E (.inl U))
  .rcases hR _ _ Q with U|⟨rfl,U⟩
   .exact((h.known k i a E (.inr ⟨U,hw⟩)).app _).app _
   .exact N i (h.known (.run 0) i a E (.inr ⟨U,hw⟩))
 .intro op B;rcases Array.mem_append.1 B with B|B
  .rcases Array.mem_append.1 B with B|B
   .exact h.low op B
   .simp at B;subst B;rw[hy];trivial
  .simp at B;subst B;rw[hz];trivial
 .intro i a e;rcases G2 e with⟨_,e⟩|⟨_,op,B,P⟩
  .rcases G2 e with⟨_,e⟩|⟨_,op,B,P⟩
   .exact h.norel i a e
   .simp at B;subst B;rw[hy]at P;cases P
  .simp at B;subst B;rw[hz]at P;cases P
 .intro i a L hbl I g' w;obtain⟨S,E⟩:=G L;rcases M g' w with w|⟨rfl,w⟩
  .exact app (h.grpP i a E hbl I g' w)
  .exact N i (h.grpP i a E hbl I 0 w)
 .intro i a L hbl I;obtain⟨S,E⟩:=G L;exact app (h.grpS i a E hbl I)
 .intro g' r hr;obtain⟨b,K,T,h3,h4⟩:=h.relok g' r hr;have H:=lt_of_act? T;have F:r<(t++#[y]).size:=O1
  exact⟨b,K,by rw[act?_old F,act?_old H];exact T,(heard_old F).2 ((heard_old H).2 h3),by rw[g?_old F,g?_old H];exact h4⟩
 .intro i g' w hne hc;obtain⟨ai,af⟩:=Gw aa hc;obtain⟨S,ab⟩:=Gw X af;rw[g?_old ai,g?_old S]at w;rcases h.hand i g' w hne ab with K|⟨r,K,T⟩|K
  .exact .inl (ae _ K)
  .exact .inr (.inl ⟨r,K,(T.app _).app _⟩)
  .exact .inr (.inr (app K))
 .intro i a L hbl I g' w;obtain⟨S,E⟩:=G L;rcases M g' w with w|⟨rfl,w⟩
  .exact app (h.grpM i a E hbl I g' w)
  .exact N i (h.grpM i a E hbl I 0 w)
 .intro i a L Q;obtain⟨S,E⟩:=G L
  have I:=h.mutK i a E (by
   rcases Q with Q|⟨Q,hw⟩
   .exact .inl ((hW _ _ Q).resolve_right λ x=>by cases x.1)
   .exact .inr ⟨(hR _ _ Q).resolve_right λ x=>(by cases x.1),hw⟩)
  cases ac:rm with
  |none=>
   rw[ac]at I;intro g' w;rcases M g' w with w|⟨rfl,w⟩
   .exact app (I g' w)
   .exact N i (I 0 w)
  |some r=>rw[ac]at I;exact Before.app _ (Before.app _ I)
 .intro r hr;obtain⟨m,g',K,T,h3,h4,h5⟩:=h.mutR r hr;have H:=lt_of_act? T;have F:r<(t++#[y]).size:=O1
  exact⟨m,g',K,by rw[act?_old F,act?_old H];exact T,(heard_old F).2 ((heard_old H).2 h3),by rw[g?_old F,g?_old H];exact h4,h5.imp (ae _) λ⟨r',k1,k2⟩=>⟨r',k1,(k2.app _).app _⟩⟩
def TI.create{b:Nat}(h:TI W R rel none mb rm act wk size t)(H:∀l,¬W' .lck l)(G:∀l,¬R' .lck l)(z:∀g,rel g=none)(I:∀a:Addr,a.block=b->a.off<2->W (.run 0) (.cell a))(L:∀k l,W' k l->W k l)(K:∀k l,R' k l->R k l) :
  TI W' R' rel (some b) none none (·=0) wk size t:=by
 refine⟨h.clean,λ k i a e w=>h.known k i a e (w.imp (L _ _) λ x=>⟨K _ _ x.1,x.2⟩),h.low,h.norel,?_,?_,λ g r B=>(by rw[z]at B;cases B),h.hand,?_,?_,λ r B=>(by cases B)⟩
 .intro i a e hbl _ g hg;obtain⟨loc,wr,kd⟩:=a;cases loc <;> simp only[JE]at hbl;obtain⟨E,F⟩:=hbl;cases E;rw[hg];exact h.known (.run 0) i _ e (.inl (I _ rfl F))
 .intro i a e hbl _;obtain⟨loc,wr,kd⟩:=a;cases loc <;> simp only[JE]at hbl;obtain⟨E,F⟩:=hbl;cases E;exact h.known (.run 0) i _ e (.inl (I _ rfl F))
 .intro i a e hbl;unfold JE at hbl;split at hbl
  .cases hbl.1
  .exact hbl.elim
 .intro i a e w;rcases w with w|⟨w,M⟩
  .exact absurd w (H _)
  .exact absurd w (G _)
def TI.createM{m:Nat}{act':Nat->Prop}(h:TI W R rel blk none rm act wk size t)(z:∀g,act' g->g=0/\act 0)(N:∀a:Addr,a.block=m->a.off<2->W (.run 0) (.cell a))
  (M:∀k l,W' k l->W k l\/(k=.lck/\W (.run 0) l)) (L:∀k l,R' k l->R k l\/(k=.lck/\R (.run 0) l)) (H:∀l,¬W .lck l) (G:∀l,¬R .lck l) :
  TI W' R' rel blk (some m) none act' wk size t:=by
 have key:∀k i a,touchAt t i=some a->(W' k a.loc\/(R' k a.loc/\a.write=true))->(W k a.loc\/(R k a.loc/\a.write=true))\/(k=.lck/\(W (.run 0) a.loc\/(R (.run 0) a.loc/\a.write=true))):=by
  intro k i a _ b;rcases b with b|⟨b,I⟩
  .rcases M _ _ b with b|⟨e,b⟩
   .exact .inl (.inl b)
   .exact .inr ⟨e,.inl b⟩
  .rcases L _ _ b with b|⟨e,b⟩
   .exact .inl (.inr ⟨b,I⟩)
   .exact .inr ⟨e,.inr ⟨b,I⟩⟩
 refine⟨h.clean,λ k i a w b=>?_,h.low,h.norel,λ i a E F K g B=>?_,h.grpS,h.relok,h.hand,?_,?_,λ r P=>(by cases P)⟩
 .rcases key k i a w b with b|⟨rfl,_⟩
  .exact h.known k i a w b
  .trivial
 .obtain⟨rfl,z⟩:=z g B;exact h.grpP i a E F K 0 z
 .intro i a w hbl hk g B;obtain⟨loc,wr,kd⟩:=a;cases loc <;> simp only[JE]at hbl;obtain⟨E,F⟩:=hbl;cases E;rw[(z g B).1];exact h.known (.run 0) i _ w (.inl (N _ rfl F))
 .intro i a w b g B;rw[(z g B).1];rcases key .lck i a w b with b|⟨_,b⟩
  .rcases b with b|⟨b,_⟩
   .exact absurd b (H _)
   .exact absurd b (G _)
  .exact h.known (.run 0) i a w b
def TI.mrel{m:Nat}{y:MemOp}(h:TI W R rel blk mb rm act wk size t)(Z:mb=some m)(M:y.act=.mark (.releaseMerge ⟨m,0,none⟩))(P:m<size)(Y:Deaf t y.g=0)(S:wk y.g)
  (U:∀k l,W' k l->(W k l/\k≠.lck)\/(k=.lck/\W (.run y.g) l)) (T:∀k l,R' k l->(R k l/\k≠.lck)\/(k=.lck/\R (.run y.g) l)) :
  TI W' R' rel blk mb (some t.size) act wk size (t++#[y]):=by
 have B:y.act.touch?=none:=by rw[M];rfl
 refine⟨λ said=>Gz (h.clean said) B,?_,?_,?_,?_,?_,?_,?_,?_,?_,?_⟩
 .intro k i a ha F;obtain⟨I,w⟩:=Zr B ha;by_cases E:k=.lck
  .subst E;trivial
  .refine(h.known k i a w ?_).app _;rcases F with F|⟨F,Q⟩
   .exact .inl ((U _ _ F).resolve_right λ x=>E x.1).1
   .exact .inr ⟨((T _ _ F).resolve_right λ x=>E x.1).1,Q⟩
 .intro op z;rcases Array.mem_append.1 z with z|z
  .exact h.low op z
  .simp at z;subst z;rw[M];exact P
 .intro i a e;rcases G2 e with⟨_,e⟩|⟨_,op,z,K⟩
  .exact h.norel i a e
  .simp at z;subst z;rw[M]at K;cases K
 .intro i a ha hbl E g' hg';obtain⟨I,w⟩:=Zr B ha;exact(h.grpP i a w hbl E g' hg').app _
 .intro i a ha hbl E;obtain⟨I,w⟩:=Zr B ha;exact(h.grpS i a w hbl E).app _
 .intro g' r hr;obtain⟨b,G,L,V,X⟩:=h.relok g' r hr;have H:=lt_of_act? L;exact⟨b,G,by rw[act?_old H];exact L,(heard_old H).2 V,by rw[g?_old H];exact X⟩
 .intro i g' hg' hne hc;obtain⟨I,N⟩:=Gw B hc;rw[g?_old I]at hg';rcases h.hand i g' hg' hne N with G|⟨r,G,L⟩|G
  .exact .inl G
  .exact .inr (.inl ⟨r,G,L.app _⟩)
  .exact .inr (.inr (G.app _))
 .intro i a ha hbl E g' hg';obtain⟨I,w⟩:=Zr B ha;exact(h.grpM i a w hbl E g' hg').app _
 .intro i a ha F;obtain⟨I,w⟩:=Zr B ha
  have E:Knows t y.g i:=h.known (.run y.g) i a w (by
   rcases F with F|⟨F,Q⟩
   .exact .inl ((U _ _ F).resolve_left λ x=>x.2 rfl).2
   .exact .inr ⟨((T _ _ F).resolve_left λ x=>x.2 rfl).2,Q⟩)
  exact .inr (E.hb_new (Nat.le_refl _) (Xm t y) rfl)
 .intro r hr;cases hr;exact⟨m,y.g,Z,by rw[act?_of (Xm t y),M],GA Y,by simp[Trace.g?],.inl S⟩
def TI.macq{m:Nat}{y:MemOp}(h:TI W R rel blk mb rm act wk size t)(hm:mb=some m)(V:y.act=.mark (.acquire ⟨m,0,none⟩))(Z:m<size)(hd:Deaf t y.g=0)(X:act y.g)
  (hW:∀k l,W' k l->k≠.lck/\(W k l\/(k=.run y.g/\W .lck l))) (hR:∀k l,R' k l->k≠.lck/\(R k l\/(k=.run y.g/\R .lck l))) :
  TI W' R' rel blk mb rm act wk size (t++#[y]):=by
 have E:y.act.touch?=none:=by rw[V];rfl
 have G:=Xm t y
 have Q:∀i,MK act rm t i->Knows (t++#[y]) y.g i:=by
  intro i K;cases N:rm with
  |none=>rw[N]at K;exact(K _ X).app _
  |some r=>
   rw[N]at K;obtain⟨m',g',F,I,P,U,h5⟩:=h.mutR r N;rw[hm]at F;cases F;have w:=lt_of_act? I;have T:Knows (t++#[y]) y.g r:=⟨t.size,y,G,rfl,.inr (.single (.inr ⟨.marked (a:=⟨m,0,none⟩) w (.inr (by rw[act?_old w];exact I)) (by rw[act?_of G,V]) (λ k _ L=>by rw[act?_old L];exact h.norel k _),(heard_old w).2 P,GA hd⟩))⟩;exact Knows.of_before (Before.app _ K) T
 refine⟨λ said=>Gz (h.clean said) E,?_,?_,?_,?_,?_,?_,?_,?_,?_,?_⟩
 .intro k i a ha H;obtain⟨K,z⟩:=Zr E ha;rcases H with H|⟨H,hw⟩
  .rcases(hW _ _ H).2 with M|⟨rfl,M⟩
   .exact(h.known k i a z (.inl M)).app _
   .exact Q i (h.mutK i a z (.inl M))
  .rcases(hR _ _ H).2 with M|⟨rfl,M⟩
   .exact(h.known k i a z (.inr ⟨M,hw⟩)).app _
   .exact Q i (h.mutK i a z (.inr ⟨M,hw⟩))
 .intro op B;rcases Array.mem_append.1 B with B|B
  .exact h.low op B
  .simp at B;subst B;rw[V];exact Z
 .intro i a e;rcases G2 e with⟨_,e⟩|⟨_,op,B,S⟩
  .exact h.norel i a e
  .simp at B;subst B;rw[V]at S;cases S
 .intro i a ha hbl L g' hg';obtain⟨K,z⟩:=Zr E ha;exact(h.grpP i a z hbl L g' hg').app _
 .intro i a ha hbl L;obtain⟨K,z⟩:=Zr E ha;exact(h.grpS i a z hbl L).app _
 .intro g' r T;obtain⟨b,F,I,P,U⟩:=h.relok g' r T;have w:=lt_of_act? I;exact⟨b,F,by rw[act?_old w];exact I,(heard_old w).2 P,by rw[g?_old w];exact U⟩
 .intro i g' hg' hne hc;obtain⟨K,Y⟩:=Gw E hc;rw[g?_old K]at hg';rcases h.hand i g' hg' hne Y with F|⟨r,F,I⟩|F
  .exact .inl F
  .exact .inr (.inl ⟨r,F,I.app _⟩)
  .exact .inr (.inr (F.app _))
 .intro i a ha hbl L g' hg';obtain⟨K,z⟩:=Zr E ha;exact(h.grpM i a z hbl L g' hg').app _
 .intro i a ha H;rcases H with H|⟨H,hw⟩
  .exact absurd rfl (hW _ _ H).1
  .exact absurd rfl (hR _ _ H).1
 .intro r T;obtain⟨m',g',F,I,P,U,h5⟩:=h.mutR r T;have w:=lt_of_act? I;exact⟨m',g',F,by rw[act?_old w];exact I,(heard_old w).2 P,by rw[g?_old w];exact U,h5.imp id λ⟨r',k1,k2⟩=>⟨r',k1,k2.app _⟩⟩
end
end Go.TM
namespace Go.TM
inductive QE(α:Type) where
 |ok (a:α) (st sm:Value) (es:Array Event) (bs:List (Nat×Bool))
 |blocked (st sm:Value) (bs:List (Nat×Bool))
 |stuck
def JU(a:Addr):Bool:=a.spot.isNone&&Nat.beq a.off 0
def JT(a:Addr):Bool:=a.spot.isNone&&Nat.beq a.off 1
def OO{a:Addr}(h:JU a=true):a=⟨a.block,0,none⟩:=by
 obtain⟨b,o,s⟩:=a;simp only[JU,Bool.and_eq_true,Option.isNone_iff_eq_none]at h;obtain⟨w,e⟩:=h;have:=Nat.eq_of_beq_eq_true e
 simp_all
def ON{a:Addr}(h:JT a=true):a=⟨a.block,1,none⟩:=by
 obtain⟨b,o,s⟩:=a;simp only[JT,Bool.and_eq_true,Option.isNone_iff_eq_none]at h;obtain⟨w,e⟩:=h;have:=Nat.eq_of_beq_eq_true e
 simp_all
def P4:Value->Bool
 |.int ..=>true
 |_=>false
def QB(P:Program)(t:TypeId){α:Type}:Sem α->Value->Value->Array Event->List (Nat×Bool)->QE α
 |.pure a,st,sm,es,bs=>.ok a st sm es bs
 |.program k,st,sm,es,bs=>QB P t (k P) st sm es bs
 |.mark m k,st,sm,es,bs=>QB P t k st sm (es.push ⟨.mark m,false,true⟩) bs
 |.load .atomic a k,st,sm,es,bs=>
  bif JU a then QB P t (k st) st sm (es.push ⟨.cell a,false,true⟩) ((a.block,true)::bs)
  else bif JT a then QB P t (k sm) st sm (es.push ⟨.cell a,false,true⟩) ((a.block,true)::bs)else .stuck
 |.load .plain a k,st,sm,es,bs=>
  bif JU a then QB P t (k st) st sm (es.push ⟨.cell a,false,false⟩) ((a.block,true)::bs)
  else bif JT a then QB P t (k sm) st sm (es.push ⟨.cell a,false,false⟩) ((a.block,true)::bs)else .stuck
 |.store .atomic a v k,st,sm,es,bs=>
  bif P4 v then
   bif JU a then QB P t k v sm (es.push ⟨.cell a,true,true⟩) ((a.block,true)::bs)
   else bif JT a then QB P t k st v (es.push ⟨.cell a,true,true⟩) ((a.block,true)::bs)else .stuck
  else .stuck
 |.shape r k,st,sm,es,bs=>QB P t (k (some (t,2))) st sm es ((r,false)::bs)
 |.frozen a k,st,sm,es,bs=>QB P t (k false) st sm es ((a.block,false)::bs)
 |.halt .blocked,st,sm,_,bs=>.blocked st sm bs
 |_,_,_,_,_=>.stuck
def Sh(b:Nat)(t:TypeId)(st sm:Value)(w:World):Prop:=w.heap[b]?=some (.cells #[st,sm] t (0,0))
def two(w:World)(b:Nat)(t:TypeId)(st sm:Value):World:={ w with heap:=w.heap.setIfInBounds b (.cells #[st,sm] t (0,0)) }
def Sh.two{w:World}{b:Nat}{t:TypeId}{st sm st' sm':Value}(h:Sh b t st sm w):Sh b t st' sm' (two w b t st' sm'):=by
 have:=(Array.getElem?_eq_some_iff.1 h).1;simp[Sh,TM.two,this]
def Sh.two_same{w:World}{b:Nat}{t:TypeId}{st sm:Value}(h:Sh b t st sm w):TM.two w b t st sm=w:=by
 obtain⟨B,z⟩:=Array.getElem?_eq_some_iff.1 h
 have:w.heap.setIfInBounds b (.cells #[st,sm] t (0,0))=w.heap:=by
  apply Array.ext
  .simp
  .intro i hi hi';rw[Array.getElem_setIfInBounds (by simpa using hi)];split
   .rename_i e;subst e;exact z.symm
   .rfl
 simp[TM.two,this]
def Ni{w:World}{b:Nat}{t:TypeId}{st sm st' sm':Value}:two (two w b t st sm) b t st' sm'=two w b t st' sm':=by
 simp[two,Array.setIfInBounds_setIfInBounds]
def Sh.cell0{w:World}{b:Nat}{t:TypeId}{st sm:Value}(h:Sh b t st sm w):w.cell? ⟨b,0,none⟩=some st/\w.cell? ⟨b,1,none⟩=some sm/\w.frozen? ⟨b,0,none⟩=false/\w.frozen? ⟨b,1,none⟩=false:=by
 unfold Sh at h;refine⟨?_,?_,?_,?_⟩ <;> simp[World.cell?,World.frozen?,h]
def Sh.set0{w:World}{b:Nat}{t:TypeId}{st sm v:Value}(h:Sh b t st sm w):w.setCell ⟨b,0,none⟩ v=TM.two w b t v sm:=by
 obtain⟨B,z⟩:=Array.getElem?_eq_some_iff.1 h;simp only[World.setCell,TM.two];congr 1;apply Array.ext
 .simp
 .intro i hi hi';simp only[Array.getElem_modify,Array.getElem_setIfInBounds (by simpa using hi)];split
  .rename_i e;subst e;simp[z]
  .rfl
def Sh.set1{w:World}{b:Nat}{t:TypeId}{st sm v:Value}(h:Sh b t st sm w):w.setCell ⟨b,1,none⟩ v=TM.two w b t st v:=by
 obtain⟨B,z⟩:=Array.getElem?_eq_some_iff.1 h;simp only[World.setCell,TM.two];congr 1;apply Array.ext
 .simp
 .intro i hi hi';simp only[Array.getElem_modify,Array.getElem_setIfInBounds (by simpa using hi)];split
  .rename_i e;subst e;simp[z]
  .rfl
def Oe(P:Program){α:Type}(s:Sem α)(b:Nat)(t:TypeId)(w:World)(es:Array Event)(bs:List (Nat×Bool)):QE α->Prop
 |.ok x st' sm' h e=>(∀y∈e,y.1=b)->(∀y∈bs,y∈e)/\s.runT P w es=(.ok x (two w b t st' sm'),h)
 |.blocked st' sm' e=>(∀y∈e,y.1=b)->(∀y∈bs,y∈e)/\∃h,s.runT P w es=(.halt .blocked (two w b t st' sm'),h)
 |.stuck=>True
def Oe.of{P:Program}{α:Type}{s L:Sem α}{b c:Nat}{t:TypeId}{w w':World}{es z:Array Event}{bs:List (Nat×Bool)}{f:Bool}{r:QE α}
  (h:Oe P L b t w' z ((c,f)::bs) r) (I:c=b->s.runT P w es=L.runT P w' z) (K:∀st sm,two w' b t st sm=two w b t st sm):Oe P s b t w es bs r:=by
 cases r with
 |ok x st' sm' e F=>
  intro E;obtain⟨B,G⟩:=h E;exact⟨λ y H=>B y (by simp[H]),by rw[I (E _ (B (c,f) S1)),G,K]⟩
 |blocked st' sm' F=>
  intro E;obtain⟨B,e,G⟩:=h E;exact⟨λ y H=>B y (by simp[H]),e,by rw[I (E _ (B (c,f) S1)),G,K]⟩
 |stuck=>trivial
def uT{P:Program}{α:Type}{b:Nat}{t:TypeId}(s:Sem α):∀{st sm:Value}{es:Array Event}{bs:List (Nat×Bool)}{w:World},
  Sh b t st sm w->Oe P s b t w es bs (QB P t s st sm es bs):=by
 induction s with
 |pure a=>
  intro st sm es bs w z N;exact⟨λ _ h=>h,by rw[z.two_same];rfl⟩
 |program k H=>
  intro st sm es bs w z;exact H P z
 |mark m k H=>
  intro st sm es bs w z;exact H z
 |load m a k H=>
  intro st sm es bs w z;cases m with
  |plain=>
   simp only[QB];cases e:JU a with
   |true=>
    simp only[cond_true];refine(H st z).of (λ B=>?_) (λ _ _=>rfl);have E:=OO e;rw[B]at E;have F:=z.cell0.1;rw[<- E]at F;simp only[Sem.runT,F];rfl
   |false=>
    simp only[cond_false];cases K:JT a with
    |false=>exact trivial
    |true=>
     simp only[cond_true];refine(H sm z).of (λ B=>?_) (λ _ _=>rfl);have E:=ON K;rw[B]at E;have F:=z.cell0.2.1;rw[<- E]at F;simp only[Sem.runT,F];rfl
  |atomic=>
   simp only[QB];cases e:JU a with
   |true=>
    simp only[cond_true];refine(H st z).of (λ B=>?_) (λ _ _=>rfl);have E:=OO e;rw[B]at E;have F:=z.cell0.1;rw[<- E]at F;simp only[Sem.runT,F];rfl
   |false=>
    simp only[cond_false];cases K:JT a with
    |false=>exact trivial
    |true=>
     simp only[cond_true];refine(H sm z).of (λ B=>?_) (λ _ _=>rfl);have E:=ON K;rw[B]at E;have F:=z.cell0.2.1;rw[<- E]at F;simp only[Sem.runT,F];rfl
 |store m a v k H=>
  intro st sm es bs w z;cases m with
  |plain=>exact trivial
  |atomic=>
   simp only[QB];cases M:P4 v with
   |false=>exact trivial
   |true=>
    simp only[cond_true]
    obtain⟨I,n,rfl⟩:∃I n,v=.int I n:=by
     cases v <;> simp[P4]at M;exact⟨_,_,rfl⟩
    cases e:JU a with
    |true=>
     simp only[cond_true];refine(H (w:=two w b t (.int I n) sm) z.two).of (λ B=>?_) (λ _ _=>Ni);have E:=OO e;rw[B]at E;have F:=z.cell0.1;have L:=z.cell0.2.2.1;have G:=z.set0 (v:=.int I n);rw[<- E]at F L G;simp only[Sem.runT,F,L,Bool.false_eq_true,if_false,G];rfl
    |false=>
     simp only[cond_false];cases K:JT a with
     |false=>exact trivial
     |true=>
      simp only[cond_true];refine(H (w:=two w b t st (.int I n)) z.two).of (λ B=>?_) (λ _ _=>Ni);have E:=ON K;rw[B]at E;have F:=z.cell0.2.1;have L:=z.cell0.2.2.2;have G:=z.set1 (v:=.int I n);rw[<- E]at F L G;simp only[Sem.runT,F,L,Bool.false_eq_true,if_false,G];rfl
 |shape r k H=>
  intro st sm es bs w z;refine(H (some (t,2)) z).of (λ B=>?_) (λ _ _=>rfl);subst B;simp only[Sem.runT,World.shape?,show w.heap[r]?=_ from z];rfl
 |frozen a k H=>
  intro st sm es bs w z;refine(H false z).of (λ B=>?_) (λ _ _=>rfl);subst B;have:w.frozen? a=false:=by simp[World.frozen?,show w.heap[a.block]?=_ from z]
  simp only[Sem.runT,this]
 |halt h=>
  intro st sm es bs w z;cases h with
  |blocked=>exact λ N=>⟨λ _ h=>h,es,by rw[z.two_same];rfl⟩
  |_=>exact trivial
 |_=>intro st sm es bs w z;exact trivial
def se{P:Program}{t:TypeId}{α:Type}(s:Sem α):∀{st sm:Value}{es:Array Event}{bs:List (Nat×Bool)}{x:α}{st' sm':Value}{z:Array Event}{b:List (Nat×Bool)},
  QB P t s st sm es bs=.ok x st' sm' z b->(∃l,b=l++bs)/\(b=bs->(st'=st/\sm'=sm)/\∀w,s.runT P w es=(.ok x w,z)):=by
 induction s with
 |pure a=>
  intro st sm es bs x st' sm' z b h;simp only[QB,QE.ok.injEq]at h;obtain⟨rfl,rfl,rfl,rfl,rfl⟩:=h;exact⟨⟨[],rfl⟩,λ _=>⟨⟨rfl,rfl⟩,λ _=>rfl⟩⟩
 |program k B=>intro st sm es bs x st' sm' z b h;exact B P h
 |mark m k B=>intro st sm es bs x st' sm' z b h;exact B h
 |load m a k B=>
  intro st sm es bs x st' sm' z b h;cases m with
  |plain=>
   simp only[QB]at h
   have key:∀v,QB P t (k v) st sm (es.push ⟨.cell a,false,false⟩) ((a.block,true)::bs)=.ok x st' sm' z b->(∃l,b=l++bs)/\(b=bs->(st'=st/\sm'=sm)/\∀w,(Sem.load .plain a k).runT P w es=(.ok x w,z)):=by
    intro v E;obtain⟨⟨l,rfl⟩,_⟩:=B v E;refine⟨⟨l++[(a.block,true)],S1⟩,λ e=>?_⟩;have:=congrArg List.length e;simp at this;omega
   cases e:JU a <;> rw[e]at h <;> simp only[cond_true,cond_false]at h
   .cases e2:JT a <;> rw[e2]at h <;> simp only[cond_true,cond_false]at h
    .cases h
    .exact key _ h
   .exact key _ h
  |atomic=>
   simp only[QB]at h
   have key:∀v,QB P t (k v) st sm (es.push ⟨.cell a,false,true⟩) ((a.block,true)::bs)=.ok x st' sm' z b->(∃l,b=l++bs)/\(b=bs->(st'=st/\sm'=sm)/\∀w,(Sem.load .atomic a k).runT P w es=(.ok x w,z)):=by
    intro v E;obtain⟨⟨l,rfl⟩,_⟩:=B v E;refine⟨⟨l++[(a.block,true)],S1⟩,λ e=>?_⟩;have:=congrArg List.length e;simp at this;omega
   cases e:JU a <;> rw[e]at h <;> simp only[cond_true,cond_false]at h
   .cases e2:JT a <;> rw[e2]at h <;> simp only[cond_true,cond_false]at h
    .cases h
    .exact key _ h
   .exact key _ h
 |store m a v k B=>
  intro st sm es bs x st' sm' z b h;cases m with
  |plain=>simp[QB]at h
  |atomic=>
   simp only[QB]at h
   have key:∀u F,QB P t k u F (es.push ⟨.cell a,true,true⟩) ((a.block,true)::bs)=.ok x st' sm' z b->(∃l,b=l++bs)/\(b=bs->(st'=st/\sm'=sm)/\∀w,(Sem.store .atomic a v k).runT P w es=(.ok x w,z)):=by
    intro u F E;obtain⟨⟨l,rfl⟩,_⟩:=B E;refine⟨⟨l++[(a.block,true)],S1⟩,λ e=>?_⟩;have:=congrArg List.length e;simp at this;omega
   cases G:P4 v <;> rw[G]at h <;> simp only[cond_true,cond_false]at h
   .cases h
   .cases e:JU a <;> rw[e]at h <;> simp only[cond_true,cond_false]at h
    .cases e2:JT a <;> rw[e2]at h <;> simp only[cond_true,cond_false]at h
     .cases h
     .exact key _ _ h
    .exact key _ _ h
 |shape r k B=>
  intro st sm es bs x st' sm' z b h;obtain⟨⟨l,rfl⟩,_⟩:=B _ h;refine⟨⟨l++[(r,false)],S1⟩,λ e=>?_⟩;have:=congrArg List.length e;simp at this;omega
 |frozen a k B=>
  intro st sm es bs x st' sm' z b h;obtain⟨⟨l,rfl⟩,_⟩:=B _ h;refine⟨⟨l++[(a.block,false)],S1⟩,λ e=>?_⟩;have:=congrArg List.length e;simp at this;omega
 |halt H=>intro st sm es bs x st' sm' z b h;cases H <;> simp[QB]at h
 |_=>intro st sm es bs x st' sm' z b h;simp[QB]at h
def dY{P:Program}{t:TypeId}{α:Type}(s:Sem α):∀{st sm:Value}{es:Array Event}{bs:List (Nat×Bool)}{st' sm':Value}{b:List (Nat×Bool)},
  QB P t s st sm es bs=.blocked st' sm' b->(∃l,b=l++bs)/\(b=bs->∀w,∃z,s.runT P w es=(.halt .blocked w,z)):=by
 induction s with
 |pure a=>intro st sm es bs st' sm' b h;simp[QB]at h
 |program k B=>intro st sm es bs st' sm' b h;exact B P h
 |mark m k B=>intro st sm es bs st' sm' b h;exact B h
 |load m a k B=>
  intro st sm es bs st' sm' b h;cases m with
  |plain=>
   simp only[QB]at h
   have key:∀v,QB P t (k v) st sm (es.push ⟨.cell a,false,false⟩) ((a.block,true)::bs)=.blocked st' sm' b->(∃l,b=l++bs)/\(b=bs->∀w,∃z,(Sem.load .plain a k).runT P w es=(.halt .blocked w,z)):=by
    intro v E;obtain⟨⟨l,rfl⟩,_⟩:=B v E;refine⟨⟨l++[(a.block,true)],S1⟩,λ e=>?_⟩;have:=congrArg List.length e;simp at this;omega
   cases e:JU a <;> rw[e]at h <;> simp only[cond_true,cond_false]at h
   .cases e2:JT a <;> rw[e2]at h <;> simp only[cond_true,cond_false]at h
    .cases h
    .exact key _ h
   .exact key _ h
  |atomic=>
   simp only[QB]at h
   have key:∀v,QB P t (k v) st sm (es.push ⟨.cell a,false,true⟩) ((a.block,true)::bs)=.blocked st' sm' b->(∃l,b=l++bs)/\(b=bs->∀w,∃z,(Sem.load .atomic a k).runT P w es=(.halt .blocked w,z)):=by
    intro v E;obtain⟨⟨l,rfl⟩,_⟩:=B v E;refine⟨⟨l++[(a.block,true)],S1⟩,λ e=>?_⟩;have:=congrArg List.length e;simp at this;omega
   cases e:JU a <;> rw[e]at h <;> simp only[cond_true,cond_false]at h
   .cases e2:JT a <;> rw[e2]at h <;> simp only[cond_true,cond_false]at h
    .cases h
    .exact key _ h
   .exact key _ h
 |store m a v k B=>
  intro st sm es bs st' sm' b h;cases m with
  |plain=>simp[QB]at h
  |atomic=>
   simp only[QB]at h
   have key:∀u F,QB P t k u F (es.push ⟨.cell a,true,true⟩) ((a.block,true)::bs)=.blocked st' sm' b->(∃l,b=l++bs)/\(b=bs->∀w,∃z,(Sem.store .atomic a v k).runT P w es=(.halt .blocked w,z)):=by
    intro u F E;obtain⟨⟨l,rfl⟩,_⟩:=B E;refine⟨⟨l++[(a.block,true)],S1⟩,λ e=>?_⟩;have:=congrArg List.length e;simp at this;omega
   cases G:P4 v <;> rw[G]at h <;> simp only[cond_true,cond_false]at h
   .cases h
   .cases e:JU a <;> rw[e]at h <;> simp only[cond_true,cond_false]at h
    .cases e2:JT a <;> rw[e2]at h <;> simp only[cond_true,cond_false]at h
     .cases h
     .exact key _ _ h
    .exact key _ _ h
 |shape r k B=>
  intro st sm es bs st' sm' b h;obtain⟨⟨l,rfl⟩,_⟩:=B _ h;refine⟨⟨l++[(r,false)],S1⟩,λ e=>?_⟩;have:=congrArg List.length e;simp at this;omega
 |frozen a k B=>
  intro st sm es bs st' sm' b h;obtain⟨⟨l,rfl⟩,_⟩:=B _ h;refine⟨⟨l++[(a.block,false)],S1⟩,λ e=>?_⟩;have:=congrArg List.length e;simp at this;omega
 |halt H=>
  intro st sm es bs st' sm' b h;cases H with
  |blocked=>
   simp only[QB,QE.blocked.injEq]at h;obtain⟨rfl,rfl,rfl⟩:=h;exact⟨⟨[],rfl⟩,λ _ w=>⟨es,rfl⟩⟩
  |_=>simp[QB]at h
 |_=>intro st sm es bs st' sm' b h;simp[QB]at h
def eO(P:Program){α:Type}(s:Sem α)(W:Value->Value->World)(ok:List (Nat×Bool)->Prop)(w:World):QE α->Prop
 |.ok x st' sm' e b=>ok b->s.runT P w #[]=(.ok x (W st' sm'),e)
 |.blocked st' sm' b=>ok b->∃e,s.runT P w #[]=(.halt .blocked (W st' sm'),e)
 |.stuck=>True
structure WX(P:Program)(t:TypeId)(st sm:Value)(w:World)(W:Value->Value->World)(ok:List (Nat×Bool)->Prop):Prop where
 ran:∀{α:Type}(s:Sem α),eO P s W ok w (QB P t s st sm #[] [])
 same:W st sm=w
 nil:ok []
def WX.sh{P:Program}{t:TypeId}{st sm:Value}{w:World}{b:Nat}(h:Sh b t st sm w):WX P t st sm w (two w b t) (λ bs=>∀y∈bs,y.1=b):=by
 refine⟨λ s=>?_,h.two_same,S1⟩;have:=uT (P:=P) s (es:=#[]) (bs:=[]) h;generalize QB P t s st sm #[] []=r at this;cases r with
 |ok x st' sm' es bs=>exact λ e=>(this e).2
 |blocked st' sm' bs=>exact λ e=>(this e).2
 |stuck=>trivial
def WX.calm{P:Program}{t:TypeId}{st sm:Value}{w:World}:WX P t st sm w (λ _ _=>w) (λ bs=>bs=[]):=by
 refine⟨λ s=>?_,rfl,rfl⟩;have e:=@se P t _ s st sm #[] [];have h:=@dY P t _ s st sm #[] [];generalize QB P t s st sm #[] []=r at e h;cases r with
 |ok x st' sm' es bs=>exact λ b=>((e rfl).2 b).2 w
 |blocked st' sm' bs=>exact λ b=>(h rfl).2 b w
 |stuck=>trivial
def F3{P:Program}{t:TypeId}{α:Type}(s:Sem α):∀{st sm:Value}{es:Array Event}{bs:List (Nat×Bool)}{x:α}{st' sm':Value}{w:Array Event}{b:List (Nat×Bool)},
  QB P t s st sm es bs=.ok x st' sm' w b->(∃l,b=l++bs)/\((b.all (!·.2))=true->(st'=st/\sm'=sm)/\∀B z,QB P t s B z es bs=.ok x B z w b):=by
 induction s with
 |pure a=>
  intro st sm es bs x st' sm' w b h;simp only[QB,QE.ok.injEq]at h;obtain⟨rfl,rfl,rfl,rfl,rfl⟩:=h;exact⟨⟨[],rfl⟩,λ _=>⟨⟨rfl,rfl⟩,λ _ _=>rfl⟩⟩
 |program k E=>intro st sm es bs x st' sm' w b h;exact E P h
 |mark m k E=>intro st sm es bs x st' sm' w b h;exact E h
 |load m a k E=>
  intro st sm es bs x st' sm' w b h;cases m with
  |plain=>
   simp only[QB]at h
   have key:∀v,QB P t (k v) st sm (es.push ⟨.cell a,false,false⟩) ((a.block,true)::bs)=.ok x st' sm' w b->(∃l,b=l++bs)/\((b.all (!·.2))=true->(st'=st/\sm'=sm)/\∀B z,QB P t (Sem.load .plain a k) B z es bs=.ok x B z w b):=by
    intro v F;obtain⟨⟨l,rfl⟩,_⟩:=E v F;exact⟨⟨l++[(a.block,true)],S1⟩,λ e=>by simp at e⟩
   cases e:JU a <;> rw[e]at h <;> simp only[cond_true,cond_false]at h
   .cases e2:JT a <;> rw[e2]at h <;> simp only[cond_true,cond_false]at h
    .cases h
    .exact key _ h
   .exact key _ h
  |atomic=>
   simp only[QB]at h
   have key:∀v,QB P t (k v) st sm (es.push ⟨.cell a,false,true⟩) ((a.block,true)::bs)=.ok x st' sm' w b->(∃l,b=l++bs)/\((b.all (!·.2))=true->(st'=st/\sm'=sm)/\∀B z,QB P t (Sem.load .atomic a k) B z es bs=.ok x B z w b):=by
    intro v F;obtain⟨⟨l,rfl⟩,_⟩:=E v F;exact⟨⟨l++[(a.block,true)],S1⟩,λ e=>by simp at e⟩
   cases e:JU a <;> rw[e]at h <;> simp only[cond_true,cond_false]at h
   .cases e2:JT a <;> rw[e2]at h <;> simp only[cond_true,cond_false]at h
    .cases h
    .exact key _ h
   .exact key _ h
 |store m a v k E=>
  intro st sm es bs x st' sm' w b h;cases m with
  |plain=>simp[QB]at h
  |atomic=>
   simp only[QB]at h
   have key:∀u H,QB P t k u H (es.push ⟨.cell a,true,true⟩) ((a.block,true)::bs)=.ok x st' sm' w b->(∃l,b=l++bs)/\((b.all (!·.2))=true->(st'=st/\sm'=sm)/\∀B z,QB P t (Sem.store .atomic a v k) B z es bs=.ok x B z w b):=by
    intro u H F;obtain⟨⟨l,rfl⟩,_⟩:=E F;exact⟨⟨l++[(a.block,true)],S1⟩,λ e=>by simp at e⟩
   cases I:P4 v <;> rw[I]at h <;> simp only[cond_true,cond_false]at h
   .cases h
   .cases e:JU a <;> rw[e]at h <;> simp only[cond_true,cond_false]at h
    .cases e2:JT a <;> rw[e2]at h <;> simp only[cond_true,cond_false]at h
     .cases h
     .exact key _ _ h
    .exact key _ _ h
 |shape r k E=>
  intro st sm es bs x st' sm' w b h;obtain⟨⟨l,rfl⟩,G⟩:=E _ h;exact⟨⟨l++[(r,false)],S1⟩,λ e=>G e⟩
 |frozen a k E=>
  intro st sm es bs x st' sm' w b h;obtain⟨⟨l,rfl⟩,G⟩:=E _ h;exact⟨⟨l++[(a.block,false)],S1⟩,λ e=>G e⟩
 |halt K=>intro st sm es bs x st' sm' w b h;cases K <;> simp[QB]at h
 |_=>intro st sm es bs x st' sm' w b h;simp[QB]at h
end Go.TM
namespace Go.TM
variable{T:Type}
def Zy{U:Qa T}{l:Loc}(h:U.canW l):U.canR l:=Qz.2 (.inl (Q8.1 h))
def dk{U:Qa T}{w w':World}(h:U.ok w)(e:w'.heap=w.heap):U.ok w':=by
 refine⟨λ b o z=>by rw[e];exact h.imm b o z,λ r B=>?_,h.apart,h.sep⟩;have:=h.held r B;cases r <;> simpa[Qw.ok,e]using this
def YR{U:Qa T}{w:World}(h:U.ok w){l:Loc}(e:U.canR l):¬Loc.new w l:=by
 rcases Qz.1 e with⟨r,G,e⟩|e
 .have hk:=h.held r G;cases r with
  |obj b o=>
   have z:=(Array.getElem?_eq_some_iff.1 hk).1;cases o <;> cases l <;> simp only[Qw.lets,Loc.new]at e ⊢ <;> first|exact e.elim|omega
  |cell b i v t n=>
   obtain⟨c,B,_⟩:=hk;have z:=(Array.getElem?_eq_some_iff.1 B).1;cases l <;> simp only[Qw.lets,Loc.new]at e ⊢ <;> first|exact e.elim|omega
 .cases l with
  |cell a=>
   obtain⟨c,t,fr,E,_⟩:=e;have z:=(Array.getElem?_eq_some_iff.1 (h.imm _ _ E)).1;simp only[Loc.new];omega
  |obj b=>
   obtain⟨o,F⟩:=e;have z:=(Array.getElem?_eq_some_iff.1 (h.imm _ _ F)).1;simp only[Loc.new];omega
  |_=>exact e.elim
def sZ{U U' τ:Qa T}{w w':World}(g:ZV U w w' U')(h:τ.ok w)(H:∀l,U.canW l->¬τ.canR l):τ.ok w':=by
 have cells:∀b c t fr,w.heap[b]?=some (.cells c t fr)->τ.canR (.obj b)->(∀i,i<c.size->τ.canR (.cell ⟨b,i,none⟩))->w'.heap[b]?=some (.cells c t fr):=by
  intro b c t fr z Y E;obtain⟨K,L,M,N,P,Q⟩:=g.cells b c t fr z;obtain rfl:=Q.resolve_right λ h=>H _ h.1 Y
  have:K=c:=by
   apply Array.ext N;intro i S G;have:=P i λ I=>H _ I (E i G);simpa[S,G]using this
  rw[M,this]
 have obj:∀b o,w.heap[b]?=some o->τ.canR (.obj b)->(∀c t fr,o=.cells c t fr->∀i,i<c.size->τ.canR (.cell ⟨b,i,none⟩))->w'.heap[b]?=some o:=by
  intro b o z B W;by_cases F:∃c t fr,o=.cells c t fr
  .obtain⟨c,t,fr,rfl⟩:=F;exact cells b c t fr z B (W c t fr rfl)
  .exact g.objs b o z (λ c t fr e=>F ⟨c,t,fr,e⟩) λ I=>H _ I B
 refine⟨λ b o z=>?_,λ r B=>?_,h.apart,h.sep⟩
 .exact obj b o (h.imm b o z) (Qz.2 (.inr ⟨o,z⟩)) λ c t fr e i E=>Qz.2 (.inr ⟨c,t,fr,by rw[<- e];exact z,E⟩)
 .have hk:=h.held r B;cases r with
  |obj b o=>
   exact obj b o hk (Qz.2 (.inl ⟨_,B,by cases o <;> rfl⟩)) λ c t fr e i E=>Qz.2 (.inl ⟨_,B,by subst e;exact⟨rfl,E⟩⟩)
  |cell b i v t n=>
   obtain⟨c,z,X,V⟩:=hk;obtain⟨K,L,M,N,P,Q⟩:=g.cells b c t (0,0) z;have E:i<c.size:=(Array.getElem?_eq_some_iff.1 V).1;obtain rfl:=Q.resolve_right λ h=>H _ (h.2 i E) (Qz.2 (.inl ⟨_,B,rfl,rfl⟩));refine⟨K,M,N.trans X,?_⟩;rw[P i λ I=>H _ I (Qz.2 (.inl ⟨_,B,rfl,rfl⟩))];exact V
def QK(b:Nat)(U:Qa T):Prop:=∀a:Addr,a.block=b->a.off<2->¬U.canR (.cell a)
def Gq{τ:Qa T}{w:World}{b:Nat}{t:TypeId}{st sm st' sm':Value}(h:τ.ok w)(I:Sh b t st sm w)(H:QK b τ):τ.ok (two w b t st' sm'):=by
 have ne:∀x o,w.heap[x]?=some o->(∀c t fr,o=.cells c t fr->∀i,i<c.size->τ.canR (.cell ⟨x,i,none⟩))->(two w b t st' sm').heap[x]?=some o:=by
  intro x o z L
  have:x≠b:=by
   intro e;subst e;rw[show w.heap[x]?=_ from I]at z;cases z;exact H ⟨x,0,none⟩ rfl (Nat.zero_lt_two) (L _ _ _ rfl 0 S1)
  simp only[two];rw[Array.getElem?_setIfInBounds_ne (Ne.symm this)];exact z
 refine⟨λ x o z=>ne x o (h.imm x o z) λ c t fr e i B=>Qz.2 (.inr ⟨c,t,fr,by rw[<- e];exact z,B⟩),λ r F=>?_,h.apart,h.sep⟩;have G:=h.held r F;cases r with
 |obj x o=>exact ne x o G λ c t fr e i B=>Qz.2 (.inl ⟨_,F,by subst e;exact⟨rfl,B⟩⟩)
 |cell x i v t n=>
  obtain⟨c,E,M,K⟩:=G;refine⟨c,?_,M,K⟩
  have:x≠b:=by
   intro e;subst e;rw[show w.heap[x]?=_ from I]at E;cases E;have B:i<2:=by simpa using(Array.getElem?_eq_some_iff.1 K).1
   exact H ⟨x,i,none⟩ rfl B (Qz.2 (.inl ⟨_,F,rfl,rfl⟩))
  simp only[two];rw[Array.getElem?_setIfInBounds_ne (Ne.symm this)];exact E
def Sh.guar{U U':Qa T}{w w':World}{b:Nat}{t:TypeId}{st sm:Value}(h:Sh b t st sm w)(g:ZV U w w' U')(E:QK b U):Sh b t st sm w':=by
 obtain⟨F,G,B,H,I,K⟩:=g.cells b _ t (0,0) h;obtain rfl:=K.resolve_right λ h=>E ⟨b,0,none⟩ rfl Nat.zero_lt_two (Zy (h.2 0 S1))
 have:F=#[st,sm]:=by
  apply Array.ext H;intro i z e;have:=I i λ L=>E ⟨b,i,none⟩ rfl (by simpa using e) (Zy L);rw[Array.getElem?_eq_getElem z,Array.getElem?_eq_getElem e]at this;exact Option.some.inj this
 rw[this]at B;exact B
structure VI(V:Hd->Qa T)(w:World):Prop where
 ok:∀k,(V k).ok w
 sep:∀k k' l,k≠k'->(V k).canW l->¬(V k').canR l
def Q3{α:Type _}(V:Hd->α)(k:Hd)(U:α):Hd->α:=λ k'=>if k'=k then U else V k'
def Ql{α:Type _}(V:Hd->α)(k:Hd)(U:α):Q3 V k U k=U:=by simp[Q3]
def Qh{α:Type _}(V:Hd->α){k k':Hd}(U:α)(h:k'≠k):Q3 V k U k'=V k':=by simp[Q3,h]
def VI.priv{V:Hd->Qa T}{w w':World}{k:Hd}{U':Qa T}(h:VI V w)(g:ZV (V k) w w' U')(ok:U'.ok w'):VI (Q3 V k U') w':=by
 refine⟨λ k'=>?_,λ E F l B z b=>?_⟩
 .by_cases e:k'=k
  .subst e;rw[Ql];exact ok
  .rw[Qh _ _ e];exact sZ g (h.ok k') λ l H=>h.sep k k' l (Ne.symm e) H
 .by_cases e:E=k
  .subst e;rw[Ql]at z;rw[Qh _ _ (Ne.symm B)]at b;rcases g.cw l z with z|z
   .exact h.sep _ _ l B z b
   .exact YR (h.ok _) b z
  .rw[Qh _ _ e]at z;by_cases G:F=k
   .subst G;rw[Ql]at b;rcases g.cr l b with b|b
    .exact h.sep _ _ l B z b
    .exact YR (h.ok _) (Zy z) b
   .rw[Qh _ _ G]at b;exact h.sep _ _ l B z b
def VI.shift{V:Hd->Qa T}{w:World}{k:Hd}{U':Qa T}(h:VI V w)(K:Qx (V k) U'):VI (Q3 V k U') w:=by
 obtain⟨G,H,I⟩:=K.2 w (h.ok k);refine⟨λ k'=>?_,λ b z l B F E=>?_⟩
 .by_cases e:k'=k
  .subst e;rw[Ql];exact G
  .rw[Qh _ _ e];exact h.ok k'
 .refine h.sep b z l B ?_ ?_
  .by_cases e:b=k
   .subst e;rw[Ql]at F;exact H l F
   .rwa [Qh _ _ e]at F
  .by_cases e:z=k
   .subst e;rw[Ql]at E;exact I l E
   .rwa [Qh _ _ e]at E
def VI.two{V:Hd->Qa T}{w:World}{b:Nat}{t:TypeId}{st sm st' sm':Value}(h:VI V w)(z:Sh b t st sm w)(e:∀k,QK b (V k)):VI V (two w b t st' sm'):=
 ⟨λ k=>Gq (h.ok k) z (e k),h.sep⟩
def VI.heap{V:Hd->Qa T}{w w':World}(h:VI V w)(e:w'.heap=w.heap):VI V w':=⟨λ k=>dk (h.ok k) e,h.sep⟩
structure H_(U Up Uc:Qa T):Prop where
 ok:∀w,U.ok w->Up.ok w/\Uc.ok w
 wp:∀l,Up.canW l->U.canW l
 rp:∀l,Up.canR l->U.canR l
 wc:∀l,Uc.canW l->U.canW l
 rc:∀l,Uc.canR l->U.canR l
 pc:∀l,Up.canW l->¬Uc.canR l
 cp:∀l,Uc.canW l->¬Up.canR l
def VI.fork{V:Hd->Qa T}{w:World}{k c:Hd}{Up Uc:Qa T}(h:VI V w)(E:H_ (V k) Up Uc)(M:k≠c):VI (Q3 (Q3 V k Up) c Uc) w:=by
 have L:∀k' l,(Q3 (Q3 V k Up) c Uc k').canW l->(k'=k/\Up.canW l/\(V k).canW l)\/(k'=c/\Uc.canW l/\(V k).canW l)\/(k'≠k/\k'≠c/\(V k').canW l):=by
  intro k' l b;by_cases e:k'=c
  .subst e;rw[Ql]at b;exact .inr (.inl ⟨rfl,b,E.wc l b⟩)
  .rw[Qh _ _ e]at b;by_cases B:k'=k
   .subst B;rw[Ql]at b;exact .inl ⟨rfl,b,E.wp l b⟩
   .rw[Qh _ _ B]at b;exact .inr (.inr ⟨B,e,b⟩)
 have K:∀k' l,(Q3 (Q3 V k Up) c Uc k').canR l->(k'=k/\Up.canR l/\(V k).canR l)\/(k'=c/\Uc.canR l/\(V k).canR l)\/(k'≠k/\k'≠c/\(V k').canR l):=by
  intro k' l b;by_cases e:k'=c
  .subst e;rw[Ql]at b;exact .inr (.inl ⟨rfl,b,E.rc l b⟩)
  .rw[Qh _ _ e]at b;by_cases B:k'=k
   .subst B;rw[Ql]at b;exact .inl ⟨rfl,b,E.rp l b⟩
   .rw[Qh _ _ B]at b;exact .inr (.inr ⟨B,e,b⟩)
 refine⟨λ k'=>?_,λ Q S l z P N=>?_⟩
 .by_cases e:k'=c
  .subst e;rw[Ql];exact(E.ok w (h.ok k)).2
  .rw[Qh _ _ e];by_cases B:k'=k
   .subst B;rw[Ql];exact(E.ok w (h.ok k')).1
   .rw[Qh _ _ B];exact h.ok k'
 .rcases L _ _ P with⟨rfl,G,I⟩|⟨rfl,G,I⟩|⟨W,Y,G⟩ <;> rcases K _ _ N with⟨e,F,H⟩|⟨e,F,H⟩|⟨U,X,F⟩
  .exact z e.symm
  .exact E.pc l G F
  .exact h.sep _ _ l z I F
  .exact E.cp l G F
  .exact z e.symm
  .exact h.sep k _ l (Ne.symm U) I F
  .subst e;exact h.sep _ _ l z G H
  .exact h.sep _ k l W G H
  .exact h.sep _ _ l z G F
def Qa.bare(τ:T):Qa T:=⟨λ _=>none,[],τ⟩
def O0(τ:T)(w:World):(Qa.bare τ).ok w:=⟨λ _ _ h=>(by cases h),λ _ h=>(by cases h),Pairwise.nil,λ _ h=>(by cases h)⟩
def Wn(τ:T)(l:Loc):¬(Qa.bare τ).canW l:=λ h=>by obtain⟨r,b,_⟩:=Q8.1 h;cases b
def Wm(τ:T)(l:Loc):¬(Qa.bare τ).canR l:=λ h=>by
 rcases Qz.1 h with⟨r,b,_⟩|h
 .cases b
 .cases l <;> simp[Qa.bare]at h
def Qa.with(U:Qa T)(M:List Qw):Qa T:={ U with M:=U.M++M }
def Sa{U τ:Qa T}{l:Loc}(h:(U.with τ.M).canW l):U.canW l\/τ.canW l:=by
 obtain⟨r,b,e⟩:=Q8.1 h;rcases mem_append.1 b with b|b
 .exact .inl (Q8.2 ⟨r,b,e⟩)
 .exact .inr (Q8.2 ⟨r,b,e⟩)
def S9{U τ:Qa T}{l:Loc}(h:(U.with τ.M).canR l):U.canR l\/τ.canR l:=by
 rcases Qz.1 h with⟨r,b,e⟩|h
 .rcases mem_append.1 b with b|b
  .exact .inl (Qz.2 (.inl ⟨r,b,e⟩))
  .exact .inr (Qz.2 (.inl ⟨r,b,e⟩))
 .exact .inl (Qz.2 (.inr h))
def Da{U:Qa T}{r:Qw}(h:r∈U.M):(∀b o,r=.obj b o->U.canW (.obj b))/\(∀b i v t n,r=.cell b i v t n->U.canW (.cell ⟨b,i,none⟩))/\(∀b c t fr i,r=.obj b (.cells c t fr)->i<c.size->U.canW (.cell ⟨b,i,none⟩)):=by
 refine⟨λ b o e=>Q8.2 ⟨r,h,?_⟩,λ b i v t n e=>Q8.2 ⟨r,h,?_⟩,λ b c t fr i e w=>Q8.2 ⟨r,h,?_⟩⟩
 .subst e;cases o <;> rfl
 .subst e;exact⟨rfl,rfl⟩
 .subst e;exact⟨rfl,w⟩
def dI{U τ:Qa T}{w:World}(E:U.ok w)(L:τ.ok w)(Q:∀l,U.canW l->¬τ.canR l)(s2:∀l,τ.canW l->¬U.canR l):(U.with τ.M).ok w:=by
 refine⟨E.imm,λ r h=>?_,?_,λ r h=>?_⟩
 .rcases mem_append.1 h with h|h
  .exact E.held r h
  .exact L.held r h
 .refine pairwise_append.2 ⟨E.apart,L.apart,λ r h V F=>?_⟩;obtain⟨a1,W,a3⟩:=Da h;obtain⟨S,K,X⟩:=Da F;have Z:=E.held r h;have N:=L.held V F;cases r with
  |obj b o=>
   cases V with
   |obj H P=>
    simp only[Qw.apart,Qw.blk];intro e;subst e;exact Q _ (a1 _ _ rfl) (Zy (S _ _ rfl))
   |cell H i v t n=>
    simp only[Qw.apart,Qw.blk];intro e;subst e;obtain⟨c,z,Y,G⟩:=N
    have:o=.cells c t (0,0):=by
     have B:w.heap[b]?=some o:=Z;rw[B]at z;exact Option.some.inj z
    subst this;exact Q _ (a3 _ _ _ _ i rfl (Array.getElem?_eq_some_iff.1 G).1) (Zy (K _ _ _ _ _ rfl))
  |cell b i v t n=>
   cases V with
   |obj H P=>
    simp only[Qw.apart,Qw.blk];intro e;subst e;obtain⟨c,z,Y,G⟩:=Z
    have:P=.cells c t (0,0):=by
     have B:w.heap[b]?=some P:=N;rw[B]at z;exact Option.some.inj z
    subst this;exact Q _ (W _ _ _ _ _ rfl) (Zy (X _ _ _ _ i rfl (Array.getElem?_eq_some_iff.1 G).1))
   |cell H i' v' t' n'=>
    simp only[Qw.apart];by_cases e:b=H
    .by_cases e2:i=i'
     .subst e;subst e2;exact absurd (Zy (K _ _ _ _ _ rfl)) (Q _ (W _ _ _ _ _ rfl))
     .exact .inr e2
    .exact .inl e
 .rcases mem_append.1 h with h|h
  .exact E.sep r h
  .show U.I r.blk=none;cases e:U.I r.blk with
   |none=>rfl
   |some o=>
    exfalso;obtain⟨S,K,X⟩:=Da h;have N:=L.held r h;cases r with
    |obj b P=>exact s2 _ (S _ _ rfl) (Qz.2 (.inr ⟨o,e⟩))
    |cell b i v t n=>
     obtain⟨c,z,Y,G⟩:=N;have B:w.heap[b]?=some o:=E.imm _ _ e;rw[z]at B;cases B;exact s2 _ (K _ _ _ _ _ rfl) (Qz.2 (.inr ⟨c,t,(0,0),e,(Array.getElem?_eq_some_iff.1 G).1⟩))
def VI.join{V:Hd->Qa T}{w:World}{k k':Hd}(h:VI V w)(F:k≠k')(τ:T):VI (Q3 (Q3 V k ((V k).with (V k').M)) k' (Qa.bare τ)) w:=by
 have G:=dI (h.ok k) (h.ok k') (λ l b=>h.sep k k' l F b) (λ l b=>h.sep k' k l (Ne.symm F) b)
 have K:∀x l,(Q3 (Q3 V k ((V k).with (V k').M)) k' (Qa.bare τ) x).canW l->x≠k'/\((V x).canW l\/(x=k/\(V k').canW l)):=by
  intro x l b;by_cases e:x=k'
  .subst e;rw[Ql]at b;exact absurd b (Wn _ _)
  .rw[Qh _ _ e]at b;refine⟨e,?_⟩;by_cases z:x=k
   .subst z;rw[Ql]at b;exact(Sa b).imp id λ h=>⟨rfl,h⟩
   .rw[Qh _ _ z]at b;exact .inl b
 have I:∀x l,(Q3 (Q3 V k ((V k).with (V k').M)) k' (Qa.bare τ) x).canR l->x≠k'/\((V x).canR l\/(x=k/\(V k').canR l)):=by
  intro x l b;by_cases e:x=k'
  .subst e;rw[Ql]at b;exact absurd b (Wm _ _)
  .rw[Qh _ _ e]at b;refine⟨e,?_⟩;by_cases z:x=k
   .subst z;rw[Ql]at b;exact(S9 b).imp id λ h=>⟨rfl,h⟩
   .rw[Qh _ _ z]at b;exact .inl b
 refine⟨λ x=>?_,λ P Q l H N L=>?_⟩
 .by_cases e:x=k'
  .subst e;rw[Ql];exact O0 _ _
  .rw[Qh _ _ e];by_cases z:x=k
   .subst z;rw[Ql];exact G
   .rw[Qh _ _ z];exact h.ok x
 .obtain⟨n1,E⟩:=K _ _ N;obtain⟨S,B⟩:=I _ _ L;rcases E with E|⟨rfl,E⟩ <;> rcases B with B|⟨e,B⟩
  .exact h.sep _ _ l H E B
  .exact h.sep _ k' l n1 E B
  .exact h.sep k' _ l (Ne.symm S) E B
  .exact H e.symm
def sj(U:Qa T)(τ e:T):H_ U (Qa.bare τ) ⟨λ _=>none,U.M,e⟩:=by
 have B:∀l,(Qa.canW ⟨λ _=>none,U.M,e⟩ l)->U.canW l:=λ l b=>Q8.2 (Q8.1 b)
 have z:∀l,(Qa.canR ⟨λ _=>none,U.M,e⟩ l)->U.canR l:=by
  intro l b;rcases Qz.1 b with b|b
  .exact Qz.2 (.inl b)
  .cases l <;> simp at b
 exact⟨λ w ok=>⟨O0 _ _,⟨λ _ _ h=>(by cases h),ok.held,ok.apart,λ _ _=>rfl⟩⟩,λ l h=>absurd h (Wn _ _),λ l h=>absurd h (Wm _ _),B,z,λ l h=>absurd h (Wn _ _),λ l _ h=>Wm _ _ h⟩
def Qw.lets_blk{r:Qw}{l:Loc}(h:r.lets l):(∃a,l=.cell a/\a.block=r.blk)\/l=.obj r.blk:=by
 cases r with
 |obj b o=>
  cases l with
  |cell a=>cases o <;> simp only[Qw.lets]at h;exact .inl ⟨a,rfl,h.1⟩
  |obj e=>right;cases o <;> simp only[Qw.lets]at h <;> rw[h] <;> rfl
  |_=>cases o <;> exact h.elim
 |cell b i v t n=>
  cases l with
  |cell a=>exact .inl ⟨a,rfl,h.1⟩
  |_=>exact h.elim
def Qw.apart_lets{r s:Qw}(h:r.apart s){l:Loc}(B:r.lets l)(E:s.lets l):False:=by
 have key:r.blk≠s.blk->False:=λ z=>by
  rcases Qw.lets_blk B with⟨a,rfl,e⟩|rfl
  .rcases Qw.lets_blk E with⟨a',e',w⟩|e'
   .cases e';exact z (e.symm.trans w)
   .cases e'
  .rcases Qw.lets_blk E with⟨a',e',w⟩|e'
   .cases e'
   .exact z (by simpa using e')
 cases r with
 |obj b o=>exact key (by cases s <;> exact h)
 |cell b i v t n=>
  cases s with
  |obj F o=>exact key h
  |cell F j M L n'=>
   cases l with
   |cell a=>
    obtain⟨G,H⟩:=B;obtain⟨I,K⟩:=E;rcases h with h|h
    .exact h (G.symm.trans I)
    .exact h (H.symm.trans K)
   |_=>exact B.elim
def MD{U:Qa T}{tp tc:T}{w:World}(P:U.ok w){M₁ M₂:List Qw}(h:Perm U.M (M₁++M₂)):H_ U ⟨U.I,M₂,tp⟩ ⟨U.I,M₁,tc⟩:=by
 have E:=(h.pairwise_iff (λ{x y}h=>Qw.apart_symm h)).1 P.apart;rw[pairwise_append]at E;have K:∀r∈M₁,r∈U.M:=λ r B=>h.mem_iff.2 (mem_append_left _ B);have L:∀r∈M₂,r∈U.M:=λ r B=>h.mem_iff.2 (mem_append_right _ B)
 have N:∀(r:Qw)(l:Loc),r∈U.M->r.lets l->(match l with|.cell a=>∃c t fr,U.I a.block=some (.cells c t fr)/\a.off<c.size|.obj b=>∃o,U.I b=some o|_=>False)->False:=by
  intro r l B z G;have H:=P.sep r B;rcases Qw.lets_blk z with⟨a,rfl,e⟩|rfl
  .obtain⟨c,t,fr,hc,_⟩:=G;rw[e,H]at hc;cases hc
  .obtain⟨o,ho⟩:=G;rw[H]at ho;cases ho
 refine⟨λ w ok=>?_,λ l z=>?_,λ l z=>?_,λ l z=>?_,λ l z=>?_,λ l z B=>?_,λ l z B=>?_⟩
 .have hap':=(h.pairwise_iff (λ{x y}h=>Qw.apart_symm h)).1 ok.apart;rw[pairwise_append]at hap';exact⟨⟨ok.imm,λ r B=>ok.held r (L r B),hap'.2.1,λ r B=>ok.sep r (L r B)⟩,⟨ok.imm,λ r B=>ok.held r (K r B),hap'.1,λ r B=>ok.sep r (K r B)⟩⟩
 .rw[Q8]at z ⊢;obtain⟨r,B,z⟩:=z;exact⟨r,L r B,z⟩
 .rw[Qz]at z ⊢;exact z.imp (λ⟨r,B,z⟩=>⟨r,L r B,z⟩) id
 .rw[Q8]at z ⊢;obtain⟨r,B,z⟩:=z;exact⟨r,K r B,z⟩
 .rw[Qz]at z ⊢;exact z.imp (λ⟨r,B,z⟩=>⟨r,K r B,z⟩) id
 .obtain⟨r,hr_2,z⟩:=Q8.1 z;rcases Qz.1 B with⟨s,H,F⟩|G
  .exact Qw.apart_lets (E.2.2 s H r hr_2) F z
  .exact N r l (L r hr_2) z G
 .obtain⟨r,hr_2,z⟩:=Q8.1 z;rcases Qz.1 B with⟨s,H,F⟩|G
  .exact Qw.apart_lets (E.2.2 r hr_2 s H) z F
  .exact N r l (K r hr_2) z G
def La{U:Qa T}{tp tc:T}{w:World}(B:U.ok w){M₁ M₂:List Qw}(h:Perm U.M (M₁++M₂)):H_ U ⟨U.I,M₂,tp⟩ ⟨λ _=>none,M₁,tc⟩:=by
 have e:=MD (tp:=tp) (tc:=tc) B h;have cw:∀l,(Qa.canW ⟨λ _=>none,M₁,tc⟩ l)->(Qa.canW ⟨U.I,M₁,tc⟩ l):=λ l b=>Q8.2 (Q8.1 b)
 have cr:∀l,(Qa.canR ⟨λ _=>none,M₁,tc⟩ l)->(Qa.canR ⟨U.I,M₁,tc⟩ l):=by
  intro l b;rcases Qz.1 b with b|b
  .exact Qz.2 (.inl b)
  .cases l <;> simp at b
 exact⟨λ w ok=>⟨(e.ok w ok).1,⟨λ _ _ h=>(by cases h),(e.ok w ok).2.held,(e.ok w ok).2.apart,λ _ _=>rfl⟩⟩,e.wp,e.rp,λ l b=>e.wc l (cw l b),λ l b=>e.rc l (cr l b),λ l b z=>e.pc l b (cr l z),λ l b z=>e.cp l (cw l b) z⟩
end Go.TM
namespace Go.TM
abbrev Spec:=List Qw->Prop
inductive PS where
 |run|seen (u:Nat)|wait|up
inductive Ph where
 |out
 |par (b:Nat) (ds:List Spec) (pend:Bool) (k:PS)
 |wrk (b:Nat) (D:Spec)
 |rel (b:Nat)
 |lst (b:Nat) (i:Nat)
inductive LP where
 |idle|got|own (x:Bool)|rls|unl|unl2|fin|wai|wok
def LP.rels:LP->Bool
 |.rls|.unl|.unl2|.fin=>true
 |_=>false
def LP.isOwn:LP->Bool
 |.own _=>true
 |_=>false
def LP.cls:LP->Nat
 |.idle=>0
 |.fin=>2
 |_=>1
def LP.word:LP->LP->Option (Nat×Nat)
 |.idle,.idle|.idle,.fin|.fin,.idle|.fin,.fin=>some (0,0)
 |.got,.idle|.rls,.idle|.got,.fin|.rls,.fin|.idle,.got|.idle,.rls|.fin,.got|.fin,.rls=>some (1,0)
 |.own x,.idle|.idle,.own x=>if x=false then some (1,0)else none
 |.own x,.fin|.fin,.own x=>if x=true then some (1,0)else none
 |.got,.wai|.rls,.wai|.wai,.got|.wai,.rls=>some (9,0)
 |.own x,.wai|.wai,.own x=>if x=false then some (9,0)else none
 |.unl,.wai|.wai,.unl=>some (8,0)
 |.unl2,.wai|.wai,.unl2=>some (2,0)
 |.fin,.wai|.wai,.fin=>some (2,1)
 |.fin,.wok|.wok,.fin=>some (2,0)
 |_,_=>none
def LP.word_symm(p q:LP):LP.word p q=LP.word q p:=by cases p <;> cases q <;> rfl
structure QW where
 m:Nat
 t:TypeId
 sp:Bool->Bool->Spec
inductive ZS where
 |par (x:QW) (u:Bool->Bool)
 |lok (x:QW) (s:Bool) (me:LP) (lo:Nat)
def ZS.mb:Option ZS->Option Nat
 |some (.par x _)=>some x.m
 |_=>none
structure Tk where
 d:Nat
 ph:Ph
 mu:Option ZS
def ZM{α:Type _}(f:Bool->α)(s:Bool)(x:α):Bool->α:=λ j=>if j=s then x else f j
def Wd{α:Type _}(f:Bool->α)(s:Bool)(x:α):ZM f s x s=x:=by simp[ZM]
def XN{α:Type _}(f:Bool->α){s j:Bool}(x:α)(h:j≠s):ZM f s x j=f j:=by simp[ZM,h]
def YM{α:Type _}(f:Bool->α)(s:Bool)(x:α):ZM f s x (!s)=f (!s):=XN _ _ (by cases s <;> simp)
def NO(b:Bool->LP):Option (Nat×Nat):=LP.word (b false) (b true)
def HI(b:Bool->LP)(s:Bool):NO b=LP.word (b s) (b (!s)):=by
 cases s
 .rfl
 .exact LP.word_symm _ _
def QW.dep(x:QW)(b:Bool->LP)(M:List Qw):Prop:=x.sp (b false).rels (b true).rels M
def Ph.blk:Ph->Option Nat
 |.out=>none
 |.par b ..|.wrk b _|.rel b|.lst b _=>some b
def ZZ:Ph->Bool
 |.wrk ..|.rel _=>true
 |_=>false
def Zt{α:Type _}(f:Nat->α)(i:Nat)(x:α):Nat->α:=λ j=>if j=i then x else f j
def Qj{α:Type _}(f:Nat->α)(i:Nat)(x:α):Zt f i x i=x:=by simp[Zt]
def Qv{α:Type _}(f:Nat->α){i j:Nat}(x:α)(h:j≠i):Zt f i x j=f j:=by simp[Zt,h]
def Lg{α:Type _}(f:Nat->α)(p:α->Bool)(i:Nat)(x:α):∀{W:List Nat},W.Nodup->i∈W->W.countP (λ j=>p (Zt f i x j))+(p (f i)).toNat=W.countP (λ j=>p (f j))+(p x).toNat:=by
 intro W
 induction W with
 |nil=>intro _ h;cases h
 |cons a W E=>
  intro b z;obtain⟨w,b⟩:=nodup_cons.1 b;simp only[countP_cons];by_cases e:a=i
  .subst e
   have:W.countP (λ j=>p (Zt f a x j))=W.countP (λ j=>p (f j)):=by
    refine countP_congr λ j B=>?_;rw[Qv];intro e;subst e;exact w B
   rw[this,Qj];cases p (f a) <;> cases p x <;> simp <;> omega
  .have hi':i∈W:=by simpa[Ne.symm e]using z
   have:=E b hi';rw[Qv _ _ e];omega
def zq{α:Type _}(f:Nat->α)(p:α->Bool)(i:Nat)(x:α){W:List Nat}(h:i∉W):W.countP (λ j=>p (Zt f i x j))=W.countP (λ j=>p (f j)):=by
 refine countP_congr λ j b=>?_;rw[Qv];intro e;subst e;exact h b
def XT(b:Nat)(tk:Nat->Ph):Prop:=∀i j,tk i≠.lst b j
structure GI(N b:Nat)(ds:List Spec)(pend:Bool)(k:PS)(tk:Nat->Ph)(rel:Nat->Option Nat)(dM:Nat->List Qw)(W:List Nat)(c wt s:Nat):Prop where
 nodup:W.Nodup
 len:W.length=ds.length
 spec:∀(j i:Nat)(D:Spec),W[j]?=some i->ds[j]?=some D->(tk i=.wrk b D/\rel i=none)\/((∀D',tk i≠.wrk b D')/\(∃r,rel i=some r)/\D (dM i))
 inW:∀i,(tk i≠.out\/rel i≠none)->i∈W
 cnt:c=W.countP (λ i=>ZZ (tk i))+pend.toNat
 ph:∀i,tk i=.out\/(∃D,tk i=.wrk b D)\/tk i=.rel b\/∃j,tk i=.lst b j
 bound:ds.length+pend.toNat<=N
 state:match k with
  |.run=>wt=0/\s=0/\XT b tk
  |.seen u=>c<=u/\wt=0/\s=0/\XT b tk
  |.wait=>pend=false/\((1<=c/\wt=1/\s=0/\XT b tk)\/(c=0/\∃i0 j0,(∀i j,tk i=.lst b j↔i=i0/\j=j0)/\((j0<=1/\wt=1/\s=0)\/(j0=2/\wt=0/\s=0)))\/(c=0/\wt=0/\s=1/\XT b tk))
  |.up=>pend=false/\c=0/\wt=0/\s=0/\XT b tk
section
variable{N b:Nat}{ds:List Spec}{pend:Bool}{k:PS}{tk:Nat->Ph}{rel:Nat->Option Nat}{dM:Nat->List Qw}{W:List Nat}{c wt s:Nat}
def GI.cN(h:GI N b ds pend k tk rel dM W c wt s):c<=ds.length+pend.toNat:=by
 rw[h.cnt];have:=countP_le_length (p:=λ i=>ZZ (tk i)) (l:=W);have:=h.len;omega
def GI.start(w:∀i,tk i=.out)(z:∀i,rel i=none):GI N b [] false .run tk rel dM [] 0 0 0:=
 ⟨.nil,rfl,λ j i D h=>by simp at h,λ i h=>by simp[w,z]at h,rfl,λ i=>.inl (w i),S1,rfl,rfl,λ i j e=>by rw[w]at e;cases e⟩
def GI.add(h:GI N b ds false .run tk rel dM W c wt s)(e:ds.length<N):GI N b ds true .run tk rel dM W (c+1) wt s:=
 ⟨h.nodup,h.len,h.spec,h.inW,by have:=h.cnt;simp at this ⊢;omega,h.ph,S3,h.state⟩
def GI.go{i:Nat}{D:Spec}(h:GI N b ds true .run tk rel dM W c wt s)(G:tk i=.out)(F:rel i=none)(z:i∉W) :
  GI N b (D::ds) false .run (Zt tk i (.wrk b D)) rel dM (i::W) c wt s:=by
 refine⟨nodup_cons.2 ⟨z,h.nodup⟩,by simp[h.len],?_,?_,?_,?_,?_,?_⟩
 .intro j w D' h1 h2;cases j with
  |zero=>
   simp at h1 h2;subst h1;subst h2;exact .inl ⟨Qj ..,F⟩
  |succ j=>
   simp at h1 h2;have E:w∈W:=mem_of_getElem? h1;have B:w≠i:=λ e=>z (e▸E);rw[Qv _ _ B];exact h.spec j w D' h1 h2
 .intro w h1;by_cases e:w=i
  .subst e;simp
  .rw[Qv _ _ e]at h1;exact mem_cons_of_mem _ (h.inW w h1)
 .rw[countP_cons,Qj,zq tk ZZ i _ z];have:=h.cnt;simp[ZZ]at this ⊢;omega
 .intro w;by_cases e:w=i
  .subst e;rw[Qj];exact .inr (.inl ⟨D,rfl⟩)
  .rw[Qv _ _ e];exact h.ph w
 .have:=h.bound;simp at this ⊢;omega
 .obtain⟨h1,h2,h3⟩:=h.state;refine⟨h1,h2,λ w j=>?_⟩;by_cases e:w=i
  .subst e;rw[Qj];intro h;cases h
  .rw[Qv _ _ e];exact h3 w j
def HR(ds:List Spec)(u:Nat)(k:PS):Prop:=(k=.run/\u=ds.length)\/k=.seen u
def GI.seeU{u:Nat}(h:GI N b ds false k tk rel dM W c wt s)(w:HR ds u k):c<=u/\wt=0/\s=0/\XT b tk:=by
 have e:=h.state;rcases w with⟨rfl,rfl⟩|rfl
 .have:=h.cN;simp at this;exact⟨this,e⟩
 .exact e
def GI.toUp{u:Nat}(h:GI N b ds false k tk rel dM W 0 wt s)(e:HR ds u k):GI N b ds false .up tk rel dM W 0 wt s:=
 ⟨h.nodup,h.len,h.spec,h.inW,h.cnt,h.ph,h.bound,rfl,rfl,(h.seeU e).2⟩
def GI.toSeen{u:Nat}(h:GI N b ds false k tk rel dM W c wt s)(e:HR ds u k):GI N b ds false (.seen c) tk rel dM W c wt s:=
 ⟨h.nodup,h.len,h.spec,h.inW,h.cnt,h.ph,h.bound,Nat.le_refl _,(h.seeU e).2⟩
def GI.toWait{u:Nat}(h:GI N b ds false k tk rel dM W c wt s)(w:HR ds u k)(e:1<=c):GI N b ds false .wait tk rel dM W c 1 s:=
 ⟨h.nodup,h.len,h.spec,h.inW,h.cnt,h.ph,h.bound,rfl,.inl ⟨e,rfl,(h.seeU w).2.2⟩⟩
def GI.sema(h:GI N b ds pend .wait tk rel dM W c wt 1):GI N b ds false .up tk rel dM W 0 0 0/\c=0/\wt=0/\pend=false:=by
 obtain⟨E,F⟩:=h.state;rcases F with⟨_,_,e,_⟩|⟨_,G,H,_,⟨_,_,e⟩|⟨_,_,e⟩⟩|⟨w,z,_,B⟩
 .cases e
 .cases e
 .cases e
 .subst w;subst z;subst E;exact⟨⟨h.nodup,h.len,h.spec,h.inW,h.cnt,h.ph,h.bound,rfl,rfl,rfl,rfl,B⟩,rfl,rfl,rfl⟩
def GI.up(h:GI N b ds pend .up tk rel dM W c wt s):pend=false/\c=0/\wt=0/\s=0/\(∀i,tk i=.out)/\∀i,i∈W->∃r,rel i=some r:=by
 obtain⟨z,B,K,L,M⟩:=h.state
 have G:∀i∈W,ZZ (tk i)=false:=by
  have:=h.cnt;rw[B,z]at this;simp at this;have I:W.countP (λ i=>ZZ (tk i))=0:=O1
  intro i E;have:=countP_eq_zero.1 I i E;simpa using this
 have w:∀i,tk i=.out:=by
  intro i;rcases h.ph i with e|⟨D,e⟩|e|⟨j,e⟩
  .exact e
  .have:=G i (h.inW i (.inl (by rw[e];simp)));rw[e]at this;cases this
  .have:=G i (h.inW i (.inl (by rw[e];simp)));rw[e]at this;cases this
  .exact absurd e (M i j)
 refine⟨z,B,K,L,w,λ i E=>?_⟩;obtain⟨j,H,e⟩:=mem_iff_getElem.1 E;have F:j<ds.length:=by rw[<- h.len];exact H
 rcases h.spec j i ds[j] (by rw[getElem?_eq_getElem H,e]) (getElem?_eq_getElem F)with⟨z,_⟩|⟨_,B,_⟩
 .rw[w]at z;cases z
 .exact B
def JP:List Spec->List (List Qw)->Prop
 |[],[]=>True
 |D::ds,M::b=>D M/\JP ds b
 |_,_=>False
def ML:∀{ds:List Spec}{W:List Nat},W.length=ds.length->(∀(j i:Nat)(D:Spec),W[j]?=some i->ds[j]?=some D->D (dM i))->JP ds (W.map dM)
 |[],[],_,_=>trivial
 |[],_::_,h,_=>by simp at h
 |_::_,[],h,_=>by simp at h
 |D::ds,i::W,h,b=>⟨b 0 i D rfl rfl,ML (by simpa using h) λ j B e w z=>b (j+1) B e (by simpa using w) (by simpa using z)⟩
def GI.deps(h:GI N b ds pend .up tk rel dM W c wt s):JP ds (W.map dM):=by
 refine ML h.len λ j i D w z=>?_;rcases h.spec j i D w z with⟨e,_⟩|⟨_,_,e⟩
 .rw[h.up.2.2.2.2.1]at e;cases e
 .exact e
def GI.rel_{i r:Nat}{D:Spec}{M:List Qw}(h:GI N b ds pend k tk rel dM W c wt s)(H:tk i=.wrk b D)(T:D M) :
  GI N b ds pend k (Zt tk i (.rel b)) (Zt rel i (some r)) (Zt dM i M) W c wt s/\rel i=none:=by
 have L:i∈W:=h.inW i (.inl (by rw[H];simp))
 have I:rel i=none:=by
  obtain⟨j,Q,e⟩:=mem_iff_getElem.1 L;have P:j<ds.length:=by rw[<- h.len];exact Q
  rcases h.spec j i ds[j] (by rw[getElem?_eq_getElem Q,e]) (getElem?_eq_getElem P)with⟨_,z⟩|⟨z,_⟩
  .exact z
  .exact absurd H (z D)
 have G:∀w j,Zt tk i (.rel b) w=.lst b j↔tk w=.lst b j:=by
  intro w j;by_cases e:w=i
  .subst e;rw[Qj,H];simp
  .rw[Qv _ _ e]
 have E:XT b tk->XT b (Zt tk i (.rel b)):=λ U w j e=>U w j ((G w j).1 e);refine⟨⟨h.nodup,h.len,?_,?_,?_,?_,h.bound,?_⟩,I⟩
 .intro j w D' B z;by_cases e:w=i
  .subst e;refine .inr ⟨λ S h=>(by rw[Qj]at h;cases h),⟨r,Qj ..⟩,?_⟩;rw[Qj];rcases h.spec j w D' B z with⟨F,_⟩|⟨F,_⟩
   .rw[H]at F;cases F;exact T
   .exact absurd H (F D)
  .rw[Qv _ _ e,Qv _ _ e,Qv _ _ e];exact h.spec j w D' B z
 .intro w B;by_cases e:w=i
  .subst e;exact L
  .rw[Qv _ _ e,Qv _ _ e]at B;exact h.inW w B
 .have:=Lg tk ZZ i (.rel b) h.nodup L;rw[H]at this;have z:=h.cnt;simp[ZZ]at this z ⊢;omega
 .intro w;by_cases e:w=i
  .subst e;rw[Qj];exact .inr (.inr (.inl rfl))
  .rw[Qv _ _ e];exact h.ph w
 .have:=h.state;cases k with
  |run=>exact⟨this.1,this.2.1,E this.2.2⟩
  |seen u=>exact⟨this.1,this.2.1,this.2.2.1,E this.2.2.2⟩
  |wait=>
   refine⟨this.1,?_⟩;rcases this.2 with⟨B,z,F,K⟩|⟨B,V,X,z,F⟩|⟨B,z,F,K⟩
   .exact .inl ⟨B,z,F,E K⟩
   .exact .inr (.inl ⟨B,V,X,λ w j=>(G w j).trans (z w j),F⟩)
   .exact .inr (.inr ⟨B,z,F,E K⟩)
  |up=>exact⟨this.1,this.2.1,this.2.2.1,this.2.2.2.1,E this.2.2.2.2⟩
def GI.move{i:Nat}{p:Ph}(h:GI N b ds pend k tk rel dM W c wt s)(H:tk i=.rel b\/∃j,tk i=.lst b j)(F:p=.out\/∃j,p=.lst b j) :
  i∈W/\(∀(j w:Nat)(D:Spec),W[j]?=some w->ds[j]?=some D->(Zt tk i p w=.wrk b D/\rel w=none)\/((∀B,Zt tk i p w≠.wrk b B)/\(∃r,rel w=some r)/\D (dM w))) /\
  (∀w,(Zt tk i p w≠.out\/rel w≠none)->w∈W)/\(W.countP (λ j=>ZZ (Zt tk i p j))+(ZZ (tk i)).toNat=W.countP (λ j=>ZZ (tk j))) /\
  (∀w,Zt tk i p w=.out\/(∃D,Zt tk i p w=.wrk b D)\/Zt tk i p w=.rel b\/∃j,Zt tk i p w=.lst b j):=by
 have E:i∈W:=h.inW i (.inl (by rcases H with e|⟨j,e⟩ <;> rw[e] <;> simp));have G:∀D,p≠.wrk b D:=by rintro D rfl;rcases F with e|⟨j,e⟩ <;> cases e
 refine⟨E,?_,?_,?_,?_⟩
 .intro j w D h1 h2;by_cases e:w=i
  .subst e;rcases h.spec j w D h1 h2 with⟨z,_⟩|⟨_,z⟩
   .rcases H with e|⟨I,e⟩ <;> rw[e]at z <;> cases z
   .exact .inr ⟨λ B h=>G B (by rwa [Qj]at h),z⟩
  .rw[Qv _ _ e];exact h.spec j w D h1 h2
 .intro w h1;by_cases e:w=i
  .subst e;exact E
  .rw[Qv _ _ e]at h1;exact h.inW w h1
 .have:=Lg tk ZZ i p h.nodup E;have e:ZZ p=false:=by rcases F with e|⟨j,e⟩ <;> rw[e] <;> rfl
  rw[e]at this;simpa using this
 .intro w;by_cases e:w=i
  .subst e;rw[Qj];exact F.elim .inl λ x=>.inr (.inr (.inr x))
  .rw[Qv _ _ e];exact h.ph w
def GI.relC{i:Nat}(h:GI N b ds pend k tk rel dM W c wt s)(z:tk i=.rel b):1<=c/\c<=N/\wt<=1/\s=0:=by
 have B:i∈W:=h.inW i (.inl (by rw[z];simp))
 have E:1<=c:=by
  rw[h.cnt];have:0<W.countP (λ i=>ZZ (tk i)):=countP_pos_iff.2 ⟨i,B,by rw[z];rfl⟩;omega
 refine⟨E,Nat.le_trans h.cN h.bound,?_⟩;have:=h.state;cases k with
 |run=>obtain⟨e,w,_⟩:=this;omega
 |seen u=>obtain⟨_,e,w,_⟩:=this;omega
 |wait=>
  rcases this.2 with⟨_,w,F,_⟩|⟨e,_⟩|⟨e,_⟩
  .omega
  .omega
  .omega
 |up=>obtain⟨_,e,_⟩:=this;omega
def GI.leave{i:Nat}(h:GI N b ds pend k tk rel dM W c wt s)(B:tk i=.rel b)(F:¬(c=1/\wt=1)) :
  GI N b ds pend k (Zt tk i .out) rel dM W (c-1) wt s:=by
 obtain⟨Q,-,-,S⟩:=h.relC B;obtain⟨P,H,I,E,K⟩:=h.move (p:=.out) (.inl B) (.inl rfl)
 have w:XT b tk->XT b (Zt tk i .out):=by
  intro F G j e;by_cases e':G=i
  .subst e';rw[Qj]at e;cases e
  .rw[Qv _ _ e']at e;exact F G j e
 refine⟨h.nodup,h.len,H,I,?_,K,h.bound,?_⟩
 .have:=h.cnt;rw[B]at E;simp only[show ZZ (Ph.rel b)=true from rfl,Bool.toNat_true]at E;omega
 .have:=h.state;cases k with
  |run=>exact⟨this.1,this.2.1,w this.2.2⟩
  |seen u=>exact⟨Nat.le_trans (Nat.sub_le _ _) this.1,this.2.1,this.2.2.1,w this.2.2.2⟩
  |wait=>
   refine⟨this.1,?_⟩;rcases this.2 with⟨_,z,L,M⟩|⟨z,_⟩|⟨z,_⟩
   .exact .inl ⟨O1,z,L,w M⟩
   .omega
   .omega
  |up=>obtain⟨_,z,_⟩:=this;omega
def GI.last{i:Nat}(h:GI N b ds pend k tk rel dM W 1 1 s)(B:tk i=.rel b) :
  k=.wait/\GI N b ds pend .wait (Zt tk i (.lst b 0)) rel dM W 0 1 s:=by
 obtain⟨Q,-,-,S⟩:=h.relC B;obtain⟨P,H,I,E,K⟩:=h.move (p:=.lst b 0) (.inl B) (.inr ⟨0,rfl⟩);have w:=h.state;have F:=h.cnt;cases k with
 |run=>exact absurd w.1 D1
 |seen u=>exact absurd w.2.1 D1
 |up=>exact absurd w.2.1 D1
 |wait=>
  refine⟨rfl,h.nodup,h.len,H,I,?_,K,h.bound,w.1,?_⟩
  .rw[B]at E;simp only[show ZZ (Ph.rel b)=true from rfl,Bool.toNat_true]at E;omega
  .rcases w.2 with⟨_,z,L,M⟩|⟨z,_⟩|⟨z,_⟩
   .refine .inr (.inl ⟨rfl,i,0,λ G j=>?_,.inl ⟨O1,rfl,L⟩⟩);by_cases e:G=i
    .subst e;rw[Qj];constructor
     .intro e;cases e;exact⟨rfl,rfl⟩
     .rintro⟨_,rfl⟩;rfl
    .rw[Qv _ _ e];exact⟨λ e'=>absurd e' (M G j),λ e'=>absurd e'.1 e⟩
   .cases z
   .cases z
def GI.lstAt{i j:Nat}(h:GI N b ds pend k tk rel dM W c wt s)(w:tk i=.lst b j) :
  k=.wait/\c=0/\s=0/\((j<=1/\wt=1)\/(j=2/\wt=0))/\∀F G,tk F=.lst b G↔F=i/\G=j:=by
 have e:=h.state;cases k with
 |run=>exact absurd w (e.2.2 i j)
 |seen u=>exact absurd w (e.2.2.2 i j)
 |up=>exact absurd w (e.2.2.2.2 i j)
 |wait=>
  rcases e.2 with⟨_,_,_,z⟩|⟨H,I,K,B,E⟩|⟨_,_,_,z⟩
  .exact absurd w (z i j)
  .obtain⟨rfl,rfl⟩:=(B i j).1 w;refine⟨rfl,H,?_,?_,B⟩
   .rcases E with⟨_,_,h⟩|⟨_,_,h⟩ <;> exact h
   .rcases E with⟨a,b,_⟩|⟨a,b,_⟩
    .exact .inl ⟨a,b⟩
    .exact .inr ⟨a,b⟩
  .exact absurd w (z i j)
def GI.next{i j wt':Nat}(h:GI N b ds pend k tk rel dM W c wt s)(w:tk i=.lst b j)(G:(j=0/\wt'=1)\/(j=1/\wt'=0)) :
  GI N b ds pend k (Zt tk i (.lst b (j+1))) rel dM W c wt' s:=by
 obtain⟨rfl,E,z,M,F⟩:=h.lstAt w;obtain⟨P,I,K,B,L⟩:=h.move (p:=.lst b (j+1)) (.inr ⟨j,w⟩) (.inr ⟨j+1,rfl⟩);refine⟨h.nodup,h.len,I,K,?_,L,h.bound,h.state.1,.inr (.inl ⟨E,i,j+1,λ H Q=>?_,?_⟩)⟩
 .have:=h.cnt;rw[w]at B;simp only[show ∀j,ZZ (Ph.lst b j)=false from λ _=>rfl,Bool.toNat_false]at B;omega
 .by_cases e:H=i
  .subst e;rw[Qj];constructor
   .intro e;cases e;exact⟨rfl,rfl⟩
   .rintro⟨_,rfl⟩;rfl
  .rw[Qv _ _ e,F];exact⟨λ e'=>absurd e'.1 e,λ e'=>absurd e'.1 e⟩
 .rcases G with⟨rfl,rfl⟩|⟨rfl,rfl⟩
  .exact .inl ⟨O1,rfl,z⟩
  .exact .inr ⟨rfl,rfl,z⟩
def GI.wake{i:Nat}(h:GI N b ds pend k tk rel dM W c wt s)(w:tk i=.lst b 2):GI N b ds pend k (Zt tk i .out) rel dM W c wt 1:=by
 obtain⟨rfl,F,M,P,G⟩:=h.lstAt w;obtain⟨Q,I,K,E,L⟩:=h.move (p:=.out) (.inr ⟨2,w⟩) (.inl rfl);have z:wt=0:=O1
 refine⟨h.nodup,h.len,I,K,?_,L,h.bound,h.state.1,.inr (.inr ⟨F,z,rfl,λ B H e=>?_⟩)⟩
 .have:=h.cnt;rw[w]at E;simp only[show ∀j,ZZ (Ph.lst b j)=false from λ _=>rfl,Bool.toNat_false]at E;omega
 .by_cases e':B=i
  .subst e';rw[Qj]at e;cases e
  .rw[Qv _ _ e']at e;exact e' ((G B H).1 e).1
def GI.someone(h:GI N b ds pend .wait tk rel dM W c wt 0):∃i,tk i≠.out:=by
 obtain⟨F,G⟩:=h.state;rcases G with⟨I,_,_,_⟩|⟨_,z,H,B,_⟩|⟨_,_,E,_⟩
 .have:=h.cnt;rw[F]at this;simp at this;have:0<W.countP (λ i=>ZZ (tk i)):=O1
  obtain⟨i,_,w⟩:=countP_pos_iff.1 this;exact⟨i,λ e=>by rw[e]at w;cases w⟩
 .exact⟨z,λ e=>by have:=(B z H).2 ⟨rfl,rfl⟩;rw[this]at e;cases e⟩
 .cases E
end
inductive SE where
 |go (g:Gr) (st sm:Value) (es:Array Event) (bs:List (Nat×Bool))
 |spawn (g child:Gr) (es:Array Event)
 |blocked (g:Gr) (st sm:Value) (bs:List (Nat×Bool))
 |stuck
def Wr(fr:Frame)(cs:List Frame):Gr:={ frame:=fr,callers:=cs,status:=.running,dying:=none }
def SE.still(st sm:Value)(fr:Frame)(cs:List Frame):SE:=.go (Wr fr cs) st sm #[] []
def NK(fr:Frame):CallKind:=match fr.todo with|.call _ true _ _::_=>.wrapped|_=>.normal
def P3(P:Program)(d:Deferred):Gr:=Wr { (default:Frame)with fn:=P.funcs.size,defers:=[d],mode:=.panicking [goexitEntry] } []
def Og:Target->Bool
 |.fn _ _=>true
 |_=>false
def VE(P:Program)(fr:Frame)(cs:List Frame)(d:Deferred)(es:Array Event)(bs:List (Nat×Bool)):SE:=
 bif Og d.target&&bs.isEmpty then .spawn (Wr (fr.finish undef) cs) (P3 P d) (seen P fr.fn es)else .stuck
def XQ(P:Program)(fr:Frame)(cs:List Frame):QE Next->SE
 |.ok n st sm es bs=>match fr.kind with
  |.early=>.stuck
  |_=>match n with
   |.value v=>.go (Wr (fr.finish v) cs) st sm (seen P fr.fn es) bs
   |.skip=>.go (Wr (fr.finish undef) cs) st sm (seen P fr.fn es) bs
   |.enter f args=>.go (Wr (Frame.enter P f args (NK fr)) (fr::cs)) st sm (seen P fr.fn es) bs
   |.defer d=>.go (Wr ({ fr with defers:=d::fr.defers }.finish undef) cs) st sm (seen P fr.fn es) bs
   |.spawn d=>VE P fr cs d es bs
   |_=>.stuck
 |.blocked st sm bs=>match fr.kind with
  |.early=>.stuck
  |_=>.blocked { frame:=fr,callers:=cs,status:=.blocked,dying:=none } st sm bs
 |.stuck=>.stuck
def Pt(P:Program)(t:TypeId)(fr:Frame)(cs:List Frame)(st sm:Value):SE:=
 let to (todo:List Item):SE:=.still st sm { fr with todo } cs
 let leave (jump:Option Code):SE:=match fr.roundOf,jump with
  |none,none=>.still st sm { fr with mode:=.returning } cs
  |none,some .ret=>.still st sm { fr with mode:=.returning } cs
  |_,_=>.stuck
 match fr.todo with
 |[]=>leave none
 |.code .ret::_=>leave (some .ret)
 |.code .skip::k|.code (.label _)::k|.inBlock _::k|.inScope _::k=>to k
 |.code (.seq a b)::k=>to (.code a::.code b::k)
 |.code (.cond c h e)::k=>match fr.eval c with
  |.bool b=>to (.code (if b then h else e)::k)
  |_=>.stuck
 |.code (.block id body)::k=>to (.code body::.inBlock id::k)
 |.code (.loop body)::k|.inLoop body::k=>to (.code body::.inLoop body::k)
 |.code (.scope body)::k=>to (.code body::.inScope body::k)
 |.code (.exit id)::k=>match exitTo id k with
  |some k'=>to k'
  |none=>.stuck
 |.code (.region _ ops false)::k=>to (.inRegion ops (range ops.size)::k)
 |.inRegion _ []::k=>to k
 |.inRegion ops (i::_)::_=>match ops[i]? with
  |some o=>(match Region.wanted o (yielded ops fr.tmps)with
   |true=>(match fr.roundOf with
    |none=>XQ P fr cs (QB P t (execOp fr.eval o) st sm #[] [])
    |some _=>.stuck)
   |false=>.still st sm (fr.finish undef) cs)
  |none=>.stuck
 |_=>.stuck
def VL(m:Bool)(fr:Frame)(cs:List Frame)(v:Value)(st sm:Value)(es:Array Event)(bs:List (Nat×Bool)):SE:=
 match cs with
 |c::rest=>(match fr.kind with
  |.normal=>.go (Wr (c.finish v) rest) st sm es bs
  |.deferred=>.go (Wr (match c.mode with
    |.panicking ({ recovered:=true,.. }::older)=>
     match older.dropWhile (!·.goexit)with
     |[]=>{ c with mode:=.returning }
     |rest=>{ c with mode:=.panicking rest }
    |_=>c) rest) st sm es bs
  |_=>.stuck)
 |[]=>(match m,fr.kind with
  |false,.normal=>.go { frame:=fr,callers:=[],status:=.finished,dying:=none } st sm es bs
  |_,_=>.stuck)
def Pe(P:Program)(fr:Frame)(ds:List Deferred)(cs:List Frame):QE Next->SE
 |.ok n st sm es bs=>(match n with
  |.enter f args=>.go (Wr (Frame.enter P f args .deferred) ({ fr with defers:=ds }::cs)) st sm (seen P fr.fn es) bs
  |.value _=>.go (Wr { fr with defers:=ds } cs) st sm (seen P fr.fn es) bs
  |_=>.stuck)
 |_=>.stuck
def Pf(P:Program)(m:Bool)(fr:Frame)(cs:List Frame):QE Value->SE
 |.ok v st sm es bs=>VL m fr cs v st sm (seen P fr.fn es) bs
 |_=>.stuck
def Vs(P:Program)(t:TypeId)(m:Bool)(fr:Frame)(cs:List Frame)(st sm:Value):SE:=
 match fr.defers with
 |d::ds=>(match d.target with
  |.fn _ _=>Pe P fr ds cs (QB P t (invoke d.target d.args) st sm #[] [])
  |_=>.stuck)
 |[]=>(match fr.mode with
  |.returning=>(match P.funcs[fr.fn]? with
   |some fn=>Pf P m fr cs (QB P t (results fn fr.tmps) st sm #[] [])
   |none=>.stuck)
  |.panicking chain=>(match cs,fr.todo,P.funcs[fr.fn]?,chain with
   |[],[],none,e::_=>(match e.goexit with
    |true=>.go { frame:=fr,callers:=[],status:=.finished,dying:=none } st sm #[] []
    |false=>.stuck)
   |_,_,_,_=>.stuck)
  |.run=>.stuck)
def Qc(P:Program)(t:TypeId)(m:Bool)(g:Gr)(st sm:Value):SE:=
 match g.status with
 |.running=>(match g.dying with
  |some _=>.stuck
  |none=>(match g.frame.mode with
   |.run=>Pt P t g.frame g.callers st sm
   |_=>Vs P t m g.frame g.callers st sm))
 |_=>.stuck
def Ht(s:GStep)(W:Value->Value->World)(ok:List (Nat×Bool)->Prop)(w:World):SE->Prop
 |.go g' st' sm' es bs=>ok bs->s=.go g' (W st' sm') es
 |.spawn g' c es=>s=.spawn g' c w es
 |.blocked g' st' sm' bs=>ok bs->s=.go g' (W st' sm') #[]
 |.stuck=>True
set_option linter.unusedVariables false
variable{P:Program}{m:Bool}{t:TypeId}{w:World}{st sm:Value}{W:Value->Value->World}{ok:List (Nat×Bool)->Prop}
def De(P:Program)(f:FuncId):seen P f #[]=#[]:=by simp[seen]
def RE{fr:Frame}{cs:List Frame}{s:Sem Next}(G:WX P t st sm w W ok) :
  Ht (stepG.apply P true fr cs none s w) W ok w (XQ P fr cs (QB P t s st sm #[] [])):=by
 have h:=G.ran s;have e:=@F3 P t _ s st sm #[] [];generalize QB P t s st sm #[] []=r at h e;cases r with
 |ok n st' sm' es bs=>
  simp only[XQ];split
  .trivial
  .rename_i hk
   have b:(fr.kind==CallKind.early)=false:=by
    cases F:fr.kind <;> first|rfl|exact absurd F (by simpa using hk)
   cases n with
   |value v=>
    intro B;have z:=h B;simp only[stepG.apply,if_true,z,b,Bool.false_eq_true,if_false,GStep.after,Wr,Array.append_empty]
   |skip=>
    intro B;have z:=h B;simp only[stepG.apply,if_true,z,b,Bool.false_eq_true,if_false,GStep.after,Wr,Array.append_empty]
   |enter f args=>
    intro B;have z:=h B;simp only[stepG.apply,if_true,z,b,Bool.false_eq_true,if_false,GStep.after,Wr,Array.append_empty,NK];rfl
   |defer d=>
    intro B;have z:=h B;simp only[stepG.apply,if_true,z,b,Bool.false_eq_true,if_false,GStep.after,Wr,Array.append_empty]
   |spawn d=>
    show Ht _ W ok w (VE P fr cs d es bs);unfold VE;cases E:Og d.target&&bs.isEmpty with
    |true=>
     simp only[Bool.and_eq_true,isEmpty_iff]at E;obtain⟨E,rfl⟩:=E;obtain⟨⟨rfl,rfl⟩,-⟩:=(e rfl).2 rfl;have H:=h G.nil;rw[G.same]at H;cases I:d.target <;> rw[I]at E <;> first|cases E|skip
     simp only[cond_true,Ht,stepG.apply,if_true,H,b,Bool.false_eq_true,if_false,I,Bool.and_false,Bool.false_and,GStep.after,Wr,Array.append_empty,P3]
    |false=>trivial
   |_=>trivial
 |blocked st' sm' bs=>
  simp only[XQ];split
  .trivial
  .rename_i hk
   have b:(fr.kind==CallKind.early)=false:=by
    cases F:fr.kind <;> first|rfl|exact absurd F (by simpa using hk)
   intro B;obtain⟨K,z⟩:=h B;simp only[stepG.apply,if_true,z,b,Bool.false_eq_true,if_false,De,GStep.after,Array.append_empty]
 |stuck=>trivial
def Zx{fr:Frame}{cs:List Frame}{s:GStep}(b:WX P t st sm w W ok)(h:s=.go (Wr fr cs) w):Ht s W ok w (.still st sm fr cs):=by
 intro _;rw[b.same];exact h
def AZ{fr:Frame}{cs:List Frame}{status:GoStatus}{offers:Option (Array CommCase×CommShape)}(B:fr.mode=.run)(b:WX P t st sm w W ok) :
  Ht (stepG P m { frame:=fr,callers:=cs,status,dying:=none,offers } w) W ok w (Pt P t fr cs st sm):=by
 have e:stepG P m { frame:=fr,callers:=cs,status,dying:=none,offers } w=stepG.exec P m true fr cs none w:=by
  simp only[stepG,B]
 rw[e];unfold Pt;simp only;split
 .rename_i ht;cases h:fr.roundOf with
  |none=>exact Zx b (by simp[stepG.exec,ht,h,Wr])
  |some l=>trivial
 .rename_i k ht;cases h:fr.roundOf with
  |none=>exact Zx b (by simp[stepG.exec,ht,h,Wr])
  |some l=>trivial
 .rename_i k ht;exact Zx b (by simp[stepG.exec,ht,Wr])
 .rename_i k ht;exact Zx b (by simp[stepG.exec,ht,Wr])
 .rename_i k ht;exact Zx b (by simp[stepG.exec,ht,Wr])
 .rename_i k ht;exact Zx b (by simp[stepG.exec,ht,Wr])
 .rename_i x y k ht;exact Zx b (by simp[stepG.exec,ht,Wr])
 .rename_i c x y k ht;split
  .rename_i bb hb;exact Zx b (by simp[stepG.exec,ht,hb,Wr])
  .trivial
 .rename_i id body k ht;exact Zx b (by simp[stepG.exec,ht,Wr])
 .rename_i body k ht;exact Zx b (by simp[stepG.exec,ht,Wr])
 .rename_i body k ht;exact Zx b (by simp[stepG.exec,ht,Wr])
 .rename_i body k ht;exact Zx b (by simp[stepG.exec,ht,Wr])
 .rename_i id k ht;split
  .rename_i k' hk;exact Zx b (by simp[stepG.exec,ht,hk,Wr])
  .trivial
 .rename_i id ops k ht;exact Zx b (by simp[stepG.exec,ht,Wr])
 .rename_i ops k ht;exact Zx b (by simp[stepG.exec,ht,Wr])
 .rename_i ops i rest k ht;split
  .rename_i o ho;split
   .rename_i hw;split
    .rename_i h
     have z:stepG.exec P m true fr cs none w=stepG.apply P true fr cs none (execOp fr.eval o) w:=by
      simp[stepG.exec,ht,ho,hw,stepG.oper,Frame.oper?,h]
     rw[z];exact RE b
    .trivial
   .rename_i hw;exact Zx b (by simp[stepG.exec,ht,ho,hw,Wr])
  .trivial
 .trivial
def Lo{fr:Frame}{cs:List Frame}{v:Value}{es:Array Event}{bs:List (Nat×Bool)}{st' sm':Value} :
  Ht (GStep.after es (doReturn P m fr cs none v (W st' sm'))) W ok w (VL m fr cs v st' sm' es bs):=by
 unfold VL;split
 .rename_i c rest;split
  .rename_i hk;intro _;simp only[doReturn,hk,GStep.after,Wr,Array.append_empty]
  .rename_i hk;intro _;simp only[doReturn,hk,GStep.after,Wr,Array.append_empty];rfl
  .trivial
 .split
  .rename_i hk;intro _;simp only[doReturn,hk,GStep.after,Array.append_empty,Bool.not_false,if_true]
  .trivial
def zJ{fr:Frame}{cs:List Frame}{status:GoStatus}{offers:Option (Array CommCase×CommShape)}(H:fr.mode≠.run)(E:WX P t st sm w W ok) :
  Ht (stepG P m { frame:=fr,callers:=cs,status,dying:=none,offers } w) W ok w (Vs P t m fr cs st sm):=by
 have e:stepG P m { frame:=fr,callers:=cs,status,dying:=none,offers } w=unwind P m fr cs none w:=by
  cases F:fr.mode with
  |run=>exact absurd F H
  |_=>simp only[stepG,F]
 rw[e];unfold Vs;split
 .rename_i d ds hd;split
  .rename_i fn capt ht;have h:=E.ran (invoke d.target d.args)
   have B:unwind P m fr cs none w=callDeferred P { fr with defers:=ds } cs none d w:=by
    obtain⟨I,ag⟩:=d;cases ht;simp only[unwind,hd]
   rw[B];generalize QB P t (invoke d.target d.args) st sm #[] []=r at h;cases r with
   |ok n st' sm' es bs=>
    simp only[Pe];cases n with
    |enter f args=>
     intro z;have b:=h z;rw[ht]at b;simp only[callDeferred,ht,Bool.false_and,Bool.false_eq_true,if_false,b,GStep.after,Wr,Array.append_empty]
    |value v=>
     intro z;have b:=h z;rw[ht]at b;simp only[callDeferred,ht,Bool.false_and,Bool.false_eq_true,if_false,b,GStep.after,Wr,Array.append_empty]
    |_=>trivial
   |_=>trivial
  .trivial
 .rename_i hd;split
  .rename_i hmo;split
   .rename_i fn hf;have h:=E.ran (results fn fr.tmps);generalize QB P t (results fn fr.tmps) st sm #[] []=r at h;cases r with
    |ok v st' sm' es bs=>
     simp only[Pf];by_cases z:ok bs
     .have b:=h z
      have B:unwind P m fr cs none w=GStep.after (seen P fr.fn es) (doReturn P m fr cs none v (W st' sm')):=by
       simp only[unwind,hd,hmo,hf,b]
      rw[B];exact Lo
     .have:=Lo (P:=P) (m:=m) (W:=W) (ok:=ok) (w:=w) (fr:=fr) (cs:=cs) (v:=v) (es:=seen P fr.fn es) (bs:=bs) (st':=st') (sm':=sm');unfold VL at this ⊢;split <;> split <;> first|exact(λ G=>absurd G z)|trivial
    |_=>trivial
   .trivial
  .rename_i chain hmo;split
   .rename_i e' tl ht hf;split
    .rename_i hg;intro _;rw[E.same];simp[unwind,hd,hmo,Frame.catches,ht,hf,hg]
    .trivial
   .trivial
  .trivial
def Ka{g:Gr}(e:WX P t st sm w W ok):Ht (stepG P m g w) W ok w (Qc P t m g st sm):=by
 obtain⟨fr,cs,status,dying,offers⟩:=g;unfold Qc;cases status <;> try trivial
 cases dying with
 |some d=>trivial
 |none=>
  simp only;cases b:fr.mode with
  |run=>exact AZ b e
  |_=>exact zJ (by rw[b];intro h;cases h) e
end Go.TM
namespace Go.TM
variable{P:Program}{m:Bool}{t:TypeId}
def TJ{g g':Gr}{st sm st' sm':Value}{es:Array Event}(h:Qc P t m g st sm=.go g' st' sm' es [])(w:World):stepG P m g w=.go g' w es:=by
 have:=Ka (g:=g) (m:=m) (WX.calm (P:=P) (t:=t) (st:=st) (sm:=sm) (w:=w));rw[h]at this;exact this rfl
def HH{g g':Gr}{st sm st' sm':Value}{es:Array Event}{bs:List (Nat×Bool)}{b:Nat}{w:World}(h:Qc P t m g st sm=.go g' st' sm' es bs)(z:Sh b t st sm w)
  (e:∀y∈bs,y.1=b):stepG P m g w=.go g' (two w b t st' sm') es:=by
 have:=Ka (g:=g) (m:=m) (WX.sh (P:=P) z);rw[h]at this;exact this e
def FU{g g':Gr}{st sm st' sm':Value}{bs:List (Nat×Bool)}{b:Nat}{w:World}(h:Qc P t m g st sm=.blocked g' st' sm' bs)(z:Sh b t st sm w)
  (e:∀y∈bs,y.1=b):stepG P m g w=.go g' (two w b t st' sm') #[]:=by
 have:=Ka (g:=g) (m:=m) (WX.sh (P:=P) z);rw[h]at this;exact this e
def Bg{g g' c:Gr}{st sm:Value}{es:Array Event}(h:Qc P t m g st sm=.spawn g' c es)(w:World):stepG P m g w=.spawn g' c w es:=by
 have:=Ka (g:=g) (m:=m) (WX.calm (P:=P) (t:=t) (st:=st) (sm:=sm) (w:=w));rw[h]at this;exact this
def Xz(f:Value->Value->SE):Prop:=∀st sm g' st' sm' es bs,f st sm=.go g' st' sm' es bs->(bs.all (!·.2))=true->(st'=st/\sm'=sm)/\∀e b,f e b=.go g' e b es bs
def Xz.still{fr:Frame}{cs:List Frame}:Xz λ st sm=>.still st sm fr cs:=by
 intro st sm g' st' sm' es bs h _;simp only[SE.still,SE.go.injEq]at h;obtain⟨rfl,rfl,rfl,rfl,rfl⟩:=h;exact⟨⟨rfl,rfl⟩,λ _ _=>rfl⟩
def Xz.stuck:Xz λ _ _=>.stuck:=by intro st sm g' st' sm' es bs h;cases h
def Xz.of{α:Type}{s:Sem α}{F:QE α->SE}(H:∀r g' st' sm' es bs,F r=.go g' st' sm' es bs->∃x w,r=.ok x st' sm' w bs/\∀e b,F (.ok x e b w bs)=.go g' e b es bs) :
  Xz λ st sm=>F (QB P t s st sm #[] []):=by
 intro st sm g' st' sm' es bs h I;obtain⟨x,w,K,z⟩:=H _ _ _ _ _ _ h;obtain⟨-,B⟩:=F3 s K;obtain⟨E,G⟩:=B I;exact⟨E,λ e b=>by simp only[G e b,z]⟩
def gO{fr:Frame}{cs:List Frame}(r:QE Next)(g':Gr)(st' sm':Value)(es:Array Event)(bs:List (Nat×Bool))(h:XQ P fr cs r=.go g' st' sm' es bs) :
  ∃x b,r=.ok x st' sm' b bs/\∀z w,XQ P fr cs (.ok x z w b bs)=.go g' z w es bs:=by
 cases r with
 |ok n st sm b e=>
  simp only[XQ]at h ⊢;split at h
  .cases h
  .cases n <;> simp only[SE.go.injEq,reduceCtorEq]at h
   case spawn d=>unfold VE at h;cases B:Og d.target&&e.isEmpty <;> rw[B]at h <;> cases h
   all_goals(obtain⟨rfl,rfl,rfl,rfl,rfl⟩:=h;exact⟨_,_,rfl,λ _ _=>rfl⟩)
 |blocked st sm e=>simp only[XQ]at h;split at h <;> cases h
 |stuck=>cases h
def sJ{fr:Frame}{ds:List Deferred}{cs:List Frame}(r:QE Next)(g':Gr)(st' sm':Value)(es:Array Event)(bs:List (Nat×Bool))(h:Pe P fr ds cs r=.go g' st' sm' es bs) :
  ∃x b,r=.ok x st' sm' b bs/\∀w e,Pe P fr ds cs (.ok x w e b bs)=.go g' w e es bs:=by
 cases r with
 |ok n st sm b z=>
  simp only[Pe]at h ⊢;cases n <;> simp only[SE.go.injEq,reduceCtorEq]at h
  all_goals(obtain⟨rfl,rfl,rfl,rfl,rfl⟩:=h;exact⟨_,_,rfl,λ _ _=>rfl⟩)
 |_=>cases h
def s_{fr:Frame}{cs:List Frame}(r:QE Value)(g':Gr)(st' sm':Value)(es:Array Event)(bs:List (Nat×Bool))(h:Pf P m fr cs r=.go g' st' sm' es bs) :
  ∃x b,r=.ok x st' sm' b bs/\∀w e,Pf P m fr cs (.ok x w e b bs)=.go g' w e es bs:=by
 cases r with
 |ok v st sm b z=>
  simp only[Pf,VL]at h ⊢;split at h
  .split at h
   .simp only[SE.go.injEq]at h;obtain⟨rfl,rfl,rfl,rfl,rfl⟩:=h;exact⟨_,_,rfl,λ _ _=>rfl⟩
   .simp only[SE.go.injEq]at h;obtain⟨rfl,rfl,rfl,rfl,rfl⟩:=h;exact⟨_,_,rfl,λ _ _=>rfl⟩
   .cases h
  .split at h
   .simp only[SE.go.injEq]at h;obtain⟨rfl,rfl,rfl,rfl,rfl⟩:=h;exact⟨_,_,rfl,λ _ _=>rfl⟩
   .cases h
 |_=>cases h
def RU{fr:Frame}{cs:List Frame}:Xz (Vs P t m fr cs):=by
 unfold Vs;split
 .split
  .exact Xz.of (F:=Pe P fr _ cs) sJ
  .exact .stuck
 .split
  .split
   .exact Xz.of (F:=Pf P m fr cs) s_
   .exact .stuck
  .split
   .split
    .intro st sm g' st' sm' es bs h _;simp only[SE.go.injEq]at h;obtain⟨rfl,rfl,rfl,rfl,rfl⟩:=h;exact⟨⟨rfl,rfl⟩,λ _ _=>rfl⟩
    .exact .stuck
   .exact .stuck
  .exact .stuck
def Lr{g:Gr}:Xz (Qc P t m g):=by
 obtain⟨fr,cs,status,dying,offers⟩:=g;unfold Qc;cases status <;> try exact .stuck
 cases dying with
 |some d=>exact .stuck
 |none=>
  simp only;cases fr.mode with
  |run=>
   unfold Pt;simp only;split
   .split <;> first|exact .still|exact .stuck
   .split <;> first|exact .still|exact .stuck
   .exact .still
   .exact .still
   .exact .still
   .exact .still
   .exact .still
   .split <;> first|exact .still|exact .stuck
   .exact .still
   .exact .still
   .exact .still
   .exact .still
   .split <;> first|exact .still|exact .stuck
   .exact .still
   .exact .still
   .split
    .split
     .split
      .exact Xz.of (F:=XQ P fr cs) gO
      .exact .stuck
     .exact .still
    .exact .stuck
   .exact .stuck
  |_=>exact RU
def SE.get(d:Gr):SE->Gr
 |.go g _ _ _ _=>g
 |_=>d
def Qo{g g':Gr}{st sm st' sm':Value}{es:Array Event}{bs:List (Nat×Bool)}(h:Qc P t m g st sm=.go g' st' sm' es bs):g.status=.running:=by
 unfold Qc at h;split at h
 .assumption
 .cases h
end Go.TM
namespace Go.TM
open Go.Conc (QuitsD)
def Q2(c wt:Nat):Value:=.int .u64 ((c*4294967296+wt:Nat):Int)
def Qq(s:Nat):Value:=.int .u32 (s:Int)
def Z8(m:Mark):Event:=⟨.mark m,false,true⟩
def Ji(b o:Nat):Event:=⟨.cell ⟨b,o,none⟩,false,true⟩
def QA(b o:Nat):Event:=⟨.cell ⟨b,o,none⟩,true,true⟩
def Jc(b:Nat)(bs:List (Nat×Bool)):Prop:=∀y∈bs,y.1=b
def Qa.at(U:Qa Tk)(d:Nat)(p:Ph):Qa Tk:={ U with tok:=⟨d,p,U.tok.mu⟩ }
def Qa.at_self{U:Qa Tk}{d:Nat}{p:Ph}{mu:Option ZS}(h:U.tok=⟨d,p,mu⟩):U.at d p=U:=by
 obtain⟨I,M,tok⟩:=U;simp only at h;subst h;rfl
def Zg(s:Nat):Value:=.int .i32 (s:Int)
def Qa.lk(U:Qa Tk)(d b:Nat)(D:Spec)(x:QW)(s:Bool)(me:LP)(lo:Nat):Qa Tk:={ U with tok:=⟨d,.wrk b D,some (.lok x s me lo)⟩ }
def Qa.lk_self{U:Qa Tk}{d b:Nat}{D:Spec}{x:QW}{s:Bool}{me:LP}{lo:Nat}(h:U.tok=⟨d,.wrk b D,some (.lok x s me lo)⟩):U.lk d b D x s me lo=U:=by
 obtain⟨I,M,tok⟩:=U;simp only at h;subst h;rfl
def Pa(m:Nat)(e:Event):Prop:=Event.mute e=true\/∃o wr,o<2/\e=⟨.cell ⟨m,o,none⟩,wr,true⟩
def Ot(mu b e:Option ZS):Prop:=(b=mu/\e=none)\/∃x u s,mu=some (.par x u)/\u s=false/\b=some (.par x (ZM u s true))/\e=some (.lok x s .idle 0)
def Tl(P:Program)(t:TypeId)(N b:Nat):Nat->Nat->Ph->Gr->Prop
 |0,_,_,_=>False
 |n+1,d,p,g=>g.status=.running /\
  ((∃g' es bs,(∀e∈es,Event.mute e=true)/\Jc b bs/\(∀st sm,Qc P t false g st sm=.go g' st sm es bs)/\Tl P t N b n (deafBehind d es) p g') \/
   (p=.rel b/\d=1/\∀c wt,1<=c->c<=N->wt<=1->∃g' bs,Jc b bs/\Qc P t false g (Q2 c wt) (Qq 0)=.go g' (Q2 (c-1) wt) (Qq 0) #[Ji b 0,QA b 0] bs /\
    (if c=1/\wt=1 then Tl P t N b n 1 (.lst b 0) g' else QuitsD P n 1 g')) \/
   (p=.lst b 0/\d=1/\∃g' bs,Jc b bs/\Qc P t false g (Q2 0 1) (Qq 0)=.go g' (Q2 0 1) (Qq 0) #[Ji b 0] bs/\Tl P t N b n 1 (.lst b 1) g') \/
   (p=.lst b 1/\d=1/\∃g' bs,Jc b bs/\Qc P t false g (Q2 0 1) (Qq 0)=.go g' (Q2 0 0) (Qq 0) #[QA b 0] bs/\Tl P t N b n 1 (.lst b 2) g') \/
   (p=.lst b 2/\d=1/\mayWake P g=true/\∃g' bs,Jc b bs/\Qc P t false g (Q2 0 0) (Qq 0)=.go g' (Q2 0 0) (Qq 1) #[Z8 .disable,Ji b 1,QA b 1,Z8 .enable] bs/\QuitsD P n 1 g'))
inductive QD(P:Program)(t:TypeId)(N:Nat)(X:QJ Tk):QJ Tk
 |quiet {m g U b bs g'} (hs:g.status=.running) (hb:U.tok.ph.blk=some b) (h:∀st sm,Qc P t m g st sm=.go g' st sm #[] bs) (hbs:Jc b bs) (k:X m g' U):QD P t N X m g U
 |dis {mu m g U b ds pend k_0 bs g' d} (hs:g.status=.running) (ht:U.tok=⟨d,.par b ds pend k_0,mu⟩) (h:∀st sm,Qc P t m g st sm=.go g' st sm #[Z8 .disable] bs) (hbs:Jc b bs)
   (k:X m g' (U.at (d+1) (.par b ds pend k_0))):QD P t N X m g U
 |ena {mu m g U b ds pend k_0 bs g' d} (hs:g.status=.running) (ht:U.tok=⟨d+1,.par b ds pend k_0,mu⟩) (h:∀st sm,Qc P t m g st sm=.go g' st sm #[Z8 .enable] bs) (hbs:Jc b bs)
   (k:X m g' (U.at d (.par b ds pend k_0))):QD P t N X m g U
 |add {mu m g U b ds} (hs:g.status=.running) (ht:U.tok=⟨1,.par b ds false .run,mu⟩) (hN:ds.length<N)
   (h:∀c,c<=ds.length->∃g' bs,Qc P t m g (Q2 c 0) (Qq 0)=.go g' (Q2 (c+1) 0) (Qq 0) #[Ji b 0,QA b 0] bs/\Jc b bs/\X m g' (U.at 1 (.par b ds true .run))):QD P t N X m g U
 |said {mu m g U b ds pend k bs g' wr} (hs:g.status=.running) (ht:U.tok=⟨1,.par b ds pend k,mu⟩)
   (h:∀st sm,Qc P t m g st sm=.go g' st sm #[Z8 (bif wr then .write ⟨b,1,none⟩else .read ⟨b,1,none⟩)] bs) (hbs:Jc b bs) (k:X m g' U):QD P t N X m g U
 |look {mu m g U b ds k_0 u} (hs:g.status=.running) (ht:U.tok=⟨1,.par b ds false k_0,mu⟩) (hk:HR ds u k_0)
   (h:∀c,c<=u->∃g' bs,Jc b bs /\
    ((Qc P t m g (Q2 c 0) (Qq 0)=.go g' (Q2 c 0) (Qq 0) #[Ji b 0] bs/\(X m g' (U.at 1 (.par b ds false (.seen c)))\/(c=0/\X m g' (U.at 1 (.par b ds false .up))))) \/
     (1<=c/\Qc P t m g (Q2 c 0) (Qq 0)=.go g' (Q2 c 1) (Qq 0) #[Ji b 0,QA b 0] bs/\X m g' (U.at 1 (.par b ds false .wait))))):QD P t N X m g U
 |sema {mu m g U b ds} (hs:g.status=.running) (ho:g.offers=none) (ht:U.tok=⟨1,.par b ds false .wait,mu⟩)
   (h0:∀st,∃bs,Jc b bs/\Qc P t m g st (Qq 0)=.blocked { g with status:=.blocked } st (Qq 0) bs)
   (h1:∃g' bs,Jc b bs/\Qc P t m g (Q2 0 0) (Qq 1)=.go g' (Q2 0 0) (Qq 0) #[Z8 .disable,Ji b 1,QA b 1,Z8 .enable] bs/\X m g' (U.at 1 (.par b ds false .up))):QD P t N X m g U
 |look2 {mu m g U b ds bs g'} (hs:g.status=.running) (ht:U.tok=⟨1,.par b ds false .up,mu⟩) (hbs:Jc b bs)
   (h:Qc P t m g (Q2 0 0) (Qq 0)=.go g' (Q2 0 0) (Qq 0) #[Ji b 0] bs) (k:X m g' U):QD P t N X m g U
 |acq {m g U b ds bs g'} (hs:g.status=.running) (ht:U.tok=⟨0,.par b ds false .up,none⟩) (hbs:Jc b bs)
   (h:∀st sm,Qc P t m g st sm=.go g' st sm #[Z8 (.acquire ⟨b,0,none⟩)] bs) (k:∀Ms,JP ds Ms->X m g' ((U.with Ms.flatten).at 0 .out)):QD P t N X m g U
 |acqM {m g U b ds bs g' x u} (hs:g.status=.running) (ht:U.tok=⟨0,.par b ds false .up,some (.par x u)⟩) (hbs:Jc b bs)
   (h:∀st sm,Qc P t m g st sm=.go g' st sm #[Z8 (.acquire ⟨b,0,none⟩)] bs) (k:∀Ms M,JP ds Ms->x.sp (u false) (u true) M->X m g' { U with M:=(U.M++Ms.flatten)++M,tok:=⟨0,.out,none⟩ }):QD P t N X m g U
 |make {m g U b M₁ M₂} (ht:U.tok=⟨0,.out,none⟩) (hM:U.M=M₁++.obj b (.cells #[Q2 0 0,Qq 0] t (0,0))::M₂) (k:X m g { U with M:=M₁++M₂,tok:=⟨0,.par b [] false .run,none⟩ }):QD P t N X m g U
 |makeM {m g U b x M₁ M₂} (ht:U.tok=⟨0,.par b [] false .run,none⟩) (hM:U.M=.obj x.m (.cells #[Zg 0,Qq 0] x.t (0,0))::(M₁++M₂)) (hD:x.sp false false M₁)
   (k:X m g { U with M:=M₂,tok:=⟨0,.par b [] false .run,some (.par x λ _=>false)⟩ }):QD P t N X m g U
 |mu {m g U b D x s me lo d} (hs:g.status=.running) (ht:U.tok=⟨d,.wrk b D,some (.lok x s me lo)⟩)
   (h:∀q st sm,lo<=q.cls->LP.word me q=some (st,sm)->∃g' bs es me' st' sm' d' lo',lo'<=q.cls/\Jc x.m bs/\Qc P x.t m g (Zg st) (Qq sm)=.go g' (Zg st') (Qq sm') es bs/\LP.word me' q=some (st',sm')/\me.cls<=me'.cls/\me'.rels=me.rels /\
    me.isOwn=me'.isOwn/\(me.isOwn=true->me'=me)/\(∀e∈es,Pa x.m e)/\deafBehind d es=d'/\(sm'=sm\/sm'=0\/mayWake P g=true)/\X m g' (U.lk d' b D x s me' lo')):QD P t N X m g U
 |mblk {m g U b D x s lo d} (hs:g.status=.running) (ho:g.offers=none) (ht:U.tok=⟨d,.wrk b D,some (.lok x s .wai lo)⟩)
   (h0:∀st,∃bs,Jc x.m bs/\Qc P x.t m g st (Qq 0)=.blocked { g with status:=.blocked } st (Qq 0) bs)
   (h1:∃g' bs,Jc x.m bs/\Qc P x.t m g (Zg 2) (Qq 1)=.go g' (Zg 2) (Qq 0) #[Z8 .disable,Ji x.m 1,QA x.m 1,Z8 .enable] bs/\X m g' (U.lk d b D x s .wok 2)):QD P t N X m g U
 |macq {m g U b D x s lo bs g'} (hs:g.status=.running) (ht:U.tok=⟨0,.wrk b D,some (.lok x s .got lo)⟩) (hbs:Jc x.m bs)
   (h:∀st sm,Qc P x.t m g st sm=.go g' st sm #[Z8 (.acquire ⟨x.m,0,none⟩)] bs)
   (k:∀v M,(x.sp (if s then v else false) (if s then false else v)) M->X m g' { U with M:=U.M++M,tok:=⟨0,.wrk b D,some (.lok x s (.own v) lo)⟩ }):QD P t N X m g U
 |mrel {m g U b D x s lo v bs g' M₁ M₂} (hs:g.status=.running) (ht:U.tok=⟨0,.wrk b D,some (.lok x s (.own v) lo)⟩) (hbs:Jc x.m bs) (hM:U.M=M₁++M₂) (hD:x.sp (if s then v else true) (if s then true else v) M₁)
   (h:∀st sm,Qc P x.t m g st sm=.go g' st sm #[Z8 (.releaseMerge ⟨x.m,0,none⟩)] bs)
   (k:X m g' { U with M:=M₂,tok:=⟨0,.wrk b D,some (.lok x s .rls lo)⟩ }):QD P t N X m g U
 |go {mu mu' mc m g U b ds D Up Uc g' c} (hs:g.status=.running) (ht:U.tok=⟨0,.par b ds true .run,mu⟩) (h:Qc P t m g undef undef=.spawn g' c #[]) (hf:H_ U Up Uc)
   (hp:Up.tok=⟨0,.par b (D::ds) false .run,mu'⟩) (hc:Uc.tok=⟨0,.wrk b D,mc⟩) (hmu:Ot mu mu' mc) (k:X m g' Up) (k':X false c Uc):QD P t N X m g U
 |lay {mu m g U b D bs g'} (hs:g.status=.running) (ht:U.tok=⟨0,.wrk b D,mu⟩) (hmu:mu=none\/∃x s lo,mu=some (.lok x s .fin lo)) (hD:D U.M) (hbs:Jc b bs)
   (h:∀st sm,Qc P t m g st sm=.go g' st sm #[Z8 (.releaseMerge ⟨b,0,none⟩)] bs) (k:∃n,Tl P t N b n 0 (.rel b) g'):QD P t N X m g U
def QD.mono{P:Program}{t:TypeId}{N:Nat}{X Y:QJ Tk}(e:∀m g U,X m g U->Y m g U){m:Bool}{g:Gr}{U:Qa Tk}(h:QD P t N X m g U):QD P t N Y m g U:=by
 cases h with
 |quiet B T h w k=>exact .quiet B T h w (e _ _ _ k)
 |dis B z h w k=>exact .dis B z h w (e _ _ _ k)
 |ena B z h w k=>exact .ena B z h w (e _ _ _ k)
 |add B z S h=>exact .add B z S λ c H=>let ⟨g',bs,a,b,k⟩:=h c H;⟨g',bs,a,b,e _ _ _ k⟩
 |said B z h w k=>exact .said B z h w (e _ _ _ k)
 |look B z W h=>exact .look B z W λ c H=>let ⟨g',bs,a,k⟩:=h c H;⟨g',bs,a,k.imp (λ x=>⟨x.1,x.2.imp (e _ _ _) λ y=>⟨y.1,e _ _ _ y.2⟩⟩) λ x=>⟨x.1,x.2.1,e _ _ _ x.2.2⟩⟩
 |sema B Q z K L=>exact .sema B Q z K (let ⟨g',bs,a,b,k⟩:=L;⟨g',bs,a,b,e _ _ _ k⟩)
 |look2 B z w h k=>exact .look2 B z w h (e _ _ _ k)
 |acq B z w h k=>exact .acq B z w h λ I E=>e _ _ _ (k I E)
 |acqM B z w h k=>exact .acqM B z w h λ I M E hx=>e _ _ _ (k I M E hx)
 |makeM z E G k=>exact .makeM z E G (e _ _ _ k)
 |mu B z h=>exact .mu B z λ q st sm hq hw=>let ⟨g',bs,es,me',st',sm',d',lo',a0,a1,a2,a3,a4,a5,a6,a7,a8,a9,a10,k⟩:=h q st sm hq hw;⟨g',bs,es,me',st',sm',d',lo',a0,a1,a2,a3,a4,a5,a6,a7,a8,a9,a10,e _ _ _ k⟩
 |mblk B Q z K L=>exact .mblk B Q z K (let ⟨g',bs,a,b,k⟩:=L;⟨g',bs,a,b,e _ _ _ k⟩)
 |macq B z w h k=>exact .macq B z w h λ v M E=>e _ _ _ (k v M E)
 |mrel B z w E G h k=>exact .mrel B z w E G h (e _ _ _ k)
 |make z E k=>exact .make z E (e _ _ _ k)
 |go B z h V Z H F k k'=>exact .go B z h V Z H F (e _ _ _ k) (e _ _ _ k')
 |lay B z F G w h k=>exact .lay B z F G w h k
def Zd(P:Program)(t:TypeId)(N:Nat):Sys P Tk:=⟨QD P t N,λ h _ _ _ k=>k.mono h⟩
end Go.TM

