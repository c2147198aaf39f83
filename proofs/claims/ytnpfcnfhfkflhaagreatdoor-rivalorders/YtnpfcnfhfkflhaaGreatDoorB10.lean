/- Lemmas. No conditions. -/
import Derived.Conc.Beside
import Derived.Test.YtnpfcnfhfkflhaaGreatDoorB00
set_option linter.all false
open List
namespace Go.TM
inductive Tr:Type 1 where
 |node (ι:Type) (f:ι->Tr)
def Tr.Sub:Tr->Tr->Prop
 |a,.node _ f=>∃i,a=f i
def Tr.sub_wf:WellFounded Tr.Sub:=by
 refine⟨λ r=>?_⟩
 induction r with
 |node ι f b=>
  refine⟨_,λ a h=>?_⟩;obtain⟨i,rfl⟩:=h;exact b i
section
variable{T:Type}{P:Program}{S:Sys P T}{Stop:QJ T}
def JR(S:Sys P T)(Stop:QJ T):Tr->QJ T
 |.node _ f=>FJ S Stop (λ m g U=>∃i,JR S Stop (f i) m g U)
def J.rank{m:Bool}{g:Gr}{U:Qa T}(h:J S Stop m g U):∃r,JR S Stop r m g U:=by
 refine J.ind (X:=λ m g U=>∃r,JR S Stop r m g U) (λ m g U h=>?_) h;refine⟨.node { x:Bool×Gr×Qa T // ∃r,JR S Stop r x.1 x.2.1 x.2.2 } (λ x=>Classical.choose x.2),?_⟩;exact h.mono λ m g U b=>⟨⟨(m,g,U),b.1⟩,Classical.choose_spec (p:=λ r=>JR S Stop r m g U) b.1⟩
theorem JR.step{r:Tr}{m:Bool}{g:Gr}{U:Qa T}(h:JR S Stop r m g U):FJ S Stop (λ m g U=>∃b,Tr.Sub b r/\JR S Stop b m g U) m g U:=by
 cases r with
 |node ι f=>
  have e:FJ S Stop (λ m g U=>∃i,JR S Stop (f i) m g U) m g U:=h;exact e.mono λ m g U⟨i,w⟩=>⟨f i,⟨i,rfl⟩,w⟩
end
def ZQ(b L:List Tr):Prop:=∃r B C,L.Perm (r::B)/\b.Perm (C++B)/\∀c∈C,Tr.Sub c r
def ZQ.perm{K L b:List Tr}(h:ZQ K L)(p:L.Perm b):ZQ K b:=by
 obtain⟨r,B,C,e,f,w⟩:=h;exact⟨r,B,C,p.symm.trans e,f,w⟩
def F3{L b:List Tr}(h:Acc ZQ L)(p:L.Perm b):Acc ZQ b:=⟨_,λ K e=>h.inv (e.perm p.symm)⟩
def qx:Acc ZQ []:=by
 refine⟨_,λ K h=>?_⟩;obtain⟨r,B,C,b,_⟩:=h;simp_all
def Bg{r:Tr}(M:∀c,Tr.Sub c r->∀L,Acc ZQ L->Acc ZQ (c::L)):∀L,Acc ZQ L->Acc ZQ (r::L):=by
 intro L e
 induction e with
 |intro L b H=>
  refine⟨_,λ K G=>?_⟩;obtain⟨x,B,C,f,F,h⟩:=G
  classical
  by_cases E:x=r
  .subst E;have w:L.Perm B:=f.cons_inv
   have key:∀C:List Tr,(∀c∈C,Tr.Sub c x)->Acc ZQ (C++L):=by
    intro C
    induction C with
    |nil=>intro _;exact⟨L,b⟩
    |cons c C I=>intro z;simp_all
   exact F3 (key C h) ((Perm.append_left C w).trans F.symm)
  .have hm:x∈L:=by
    have:x∈r::L:=f.mem_iff.2 S1;simpa[E]using this
   have e:=perm_cons_erase hm
   have w:B.Perm (r::L.erase x):=by
    have:(x::B).Perm (x::r::L.erase x):=f.symm.trans ((e.cons r).trans (Perm.swap ..));exact this.cons_inv
   have z:ZQ (C++L.erase x) L:=⟨x,L.erase x,C,e,Perm.refl _,h⟩;refine F3 (H _ z) ?_;grind
def kB:WellFounded ZQ:=by
 refine⟨λ L=>?_⟩
 have key:∀r:Tr,∀L,Acc ZQ L->Acc ZQ (r::L):=by
  intro r
  induction r using Tr.sub_wf.induction with
  |_ r b=>exact Bg b
 induction L with
 |nil=>exact qx
 |cons r L b=>exact key r L b
def JD:List Tr×Nat->List Tr×Nat->Prop:=Prod.Lex ZQ (· < ·)
def oi:WellFounded JD:=(Prod.lex ⟨ZQ,kB⟩ ⟨(· < ·),Nat.lt_wfRel.wf⟩).wf
theorem JD.cut{L e:List Tr}{a b:Nat}(h:ZQ e L):JD (e,a) (L,b):=Prod.Lex.left _ _ h
def JD.num{L:List Tr}{a b:Nat}(h:a<b):JD (L,a) (L,b):=Prod.Lex.right _ h
end Go.TM
namespace Go.TM
open Go.Conc
inductive Hd where
 |run (i:Nat)
 |dep (i:Nat)
 |lck
 deriving DecidableEq
def Kn(t:Trace)(rel:Nat->Option Nat):Hd->Nat->Prop
 |.run g,i=>Knows t g i
 |.dep g,i=>∃r,rel g=some r/\Before t i r
 |.lck,_=>True
def Loc.newN(n:Nat):Loc->Prop
 |.cell a=>n<=a.block
 |.obj b=>n<=b
 |_=>False
def JG(b:Option Nat):Loc->Prop
 |.cell a=>b=some a.block/\a.off<2
 |_=>False
def MK(act:Nat->Prop)(rm:Option Nat)(t:Trace)(i:Nat):Prop:=
 match rm with
 |none=>∀g,act g->Knows t g i
 |some r=>Before t i r
structure TI(W R:Hd->Loc->Prop)(rel:Nat->Option Nat)(blk mb rm:Option Nat)(act wk:Nat->Prop)(size:Nat)(t:Trace):Prop where
 clean:∀said,¬Race said t
 known:∀h i a,touchAt t i=some a->(W h a.loc\/(R h a.loc/\a.write=true))->Kn t rel h i
 low:∀op∈t,op.act.low size
 norel:∀i a,t.act? i≠some (.mark (.release a))
 grpP:∀i a,touchAt t i=some a->JG blk a.loc->a.kind=.plain->∀g,act g->Knows t g i
 grpS:∀i a,touchAt t i=some a->JG blk a.loc->a.kind=.said->Knows t 0 i
 relok:∀g r,rel g=some r->∃b,blk=some b/\t.act? r=some (.mark (.releaseMerge ⟨b,0,none⟩))/\t.heard r/\t.g? r=some g
 hand:∀i g,t.g? i=some g->g≠0->t.counts i->wk g\/(∃r,rel g=some r/\Before t i r)\/Knows t 0 i
 grpM:∀i a,touchAt t i=some a->JG mb a.loc->a.kind≠.atomic->∀g,act g->Knows t g i
 mutK:∀i a,touchAt t i=some a->(W .lck a.loc\/(R .lck a.loc/\a.write=true))->MK act rm t i
 mutR:∀r,rm=some r->∃m g,mb=some m/\t.act? r=some (.mark (.releaseMerge ⟨m,0,none⟩))/\t.heard r/\t.g? r=some g/\(wk g\/∃r',rel g=some r'/\Before t r r')
def MK.app{act:Nat->Prop}{rm:Option Nat}{t:Trace}{i:Nat}(u:Trace)(k:MK act rm t i):MK act rm (t++u) i:=by
 cases rm with
 |none=>exact λ g b=>(k g b).app u
 |some r=>exact Before.app u k
def MK.turn{act act':Nat->Prop}{rm:Option Nat}{t:Trace}{i:Nat}(h:∀g,act' g->act g)(k:MK act rm t i):MK act' rm t i:=by
 cases rm with
 |none=>exact λ g b=>k g (h g b)
 |some r=>exact k
def Kn.app{t:Trace}{rel:Nat->Option Nat}{h:Hd}{i:Nat}(u:Trace)(k:Kn t rel h i):Kn (t++u) rel h i:=by
 cases h with
 |run g=>exact Knows.app u k
 |dep g=>obtain⟨r,b,e⟩:=k;exact⟨r,b,e.app u⟩
 |lck=>trivial
def IZ{n:Nat}{x:MemAct}{a:Touch}(h:x.low n)(b:x.touch?=some a):¬Loc.newN n a.loc:=by
 cases x with
 |access e=>
  simp only[MemAct.touch?,Option.some.injEq]at b;subst b;obtain⟨loc,wr,f⟩:=e;cases loc <;> simp_all[MemAct.low,Loc.low,Loc.newN]
 |mark m=>cases m <;> simp_all[MemAct.touch?,MemAct.low,Loc.newN] <;> grind
 |_=>grind[MemAct.touch?]
section
variable{W R W' R':Hd->Loc->Prop}{rel:Nat->Option Nat}{blk mb rm:Option Nat}{act wk:Nat->Prop}{size size' g:Nat}{t u:Trace}
def HU{i:Nat}{x:MemAct}(h:(t++u).act? i=some x):(i<t.size/\t.act? i=some x)\/(t.size<=i/\∃op∈u,op.act=x):=by
 obtain⟨op,e,b⟩:=Option.map_eq_some_iff.1 h;grind[getElem?_append_cases,act?_of]
def Jl{i:Nat}{a:Touch}(h:touchAt (t++u) i=some a):(i<t.size/\touchAt t i=some a)\/(t.size<=i/\∃op∈u,op.act.touch?=some a/\(t++u)[i]?=some op):=by
 obtain⟨x,e,b⟩:=touch_of h;grind[getElem?_append_cases,touchAt_of]
theorem TI.step(h:TI W R rel blk mb rm act wk size t)(T:size<=size')(U:∀op∈u,op.g=g)(Y:∀op∈u,op.act.low size')(ae:∀op∈u,∀a,op.act≠.mark (.release a))
  (M:∀i a,touchAt t i=some a->∀op∈u,∀b,op.act.touch?=some b->∀said,a.conflicts said b->Knows t g i)
  (hW:∀k l,W' k l->W k l\/(k=.run g/\Loc.newN size l)) (hR:∀k l,R' k l->R k l\/(k=.run g/\Loc.newN size l))
  (Z:∀op∈u,∀a,op.act.touch?=some a->∀k,k≠.run g->¬W k a.loc/\(a.write=true->¬R k a.loc))
  (ac:∀op∈u,∀a,op.act.touch?=some a->JG blk a.loc->a.kind≠.plain/\(a.kind=.said->g=0)) (ab:∀op∈u,∀a,op.act.touch?=some a->JG mb a.loc->a.kind=.atomic)
  (N:g=0\/wk g\/∀i,t.size<=i->¬(t++u).counts i) :
  TI W' R' rel blk mb rm act wk size' (t++u):=by
 refine⟨λ said=>noRace_append (h.clean said) U λ i a B op f b G L=>M i a B op f b G said L,?_,?_,?_,?_,?_,?_,?_,?_,?_,?_⟩
 .intro k i a B I;rcases Jl B with⟨z,w⟩|⟨z,op,f,E,H⟩
  .refine(h.known k i a w ?_).app u
   have hl:¬Loc.newN size a.loc:=by
    obtain⟨x,hx,V⟩:=touch_of w;exact IZ (h.low x (Array.mem_of_getElem? hx)) V
   grind
  .by_cases hk:k=.run g
   .subst hk;have:=knows_own H;rw[U op f]at this;exact this
   grind
 .intro op f;rcases Array.mem_append.1 f with f|f
  .exact MemAct.low_mono T (h.low op f)
  simp_all
 .intro i a e;rcases HU e with⟨_,e⟩|⟨_,op,f,E⟩
  .exact h.norel i a e
  simp_all
 .intro i a B G hk g' hg';rcases Jl B with⟨z,w⟩|⟨z,op,f,E,H⟩
  .exact(h.grpP i a w G hk g' hg').app u
  grind
 .intro i a B G hk;rcases Jl B with⟨z,w⟩|⟨z,op,f,E,H⟩
  .exact(h.grpS i a w G hk).app u
  grind[knows_own]
 .intro g' r hr;obtain⟨b,F,K,X,h4⟩:=h.relok g' r hr;grind[lt_of_act?,act?_old,heard_old,g?_old]
 .intro i g' hg hne L;by_cases z:i<t.size
  .rw[g?_old z]at hg;rcases h.hand i g' hg hne ((counts_old z).1 L)with F|⟨r,F,K⟩|F
   .exact .inl F
   .exact .inr (.inl ⟨r,F,K.app u⟩)
   .exact .inr (.inr (F.app u))
  .have z:t.size<=i:=Nat.le_of_not_lt z
   have aa:g'=g:=by
    obtain⟨op,H,Q⟩:=Option.map_eq_some_iff.1 hg;rcases getElem?_append_cases H with⟨ad,_⟩|⟨_,S⟩
    .omega
    .rw[<- Q];exact U op S
   grind
 .intro i a B G hk g' hg';rcases Jl B with⟨z,w⟩|⟨z,op,f,E,H⟩
  .exact(h.grpM i a w G hk g' hg').app u
  grind
 .intro i a B I;rcases Jl B with⟨z,w⟩|⟨z,op,f,E,H⟩
  .refine(h.mutK i a w ?_).app u;rcases I with I|⟨I,hw⟩
   .exact .inl ((hW _ _ I).resolve_right λ x=>by cases x.1)
   .exact .inr ⟨(hR _ _ I).resolve_right λ x=>(by cases x.1),hw⟩
  grind
 .intro r hr;obtain⟨m,g',F,K,X,h4,h5⟩:=h.mutR r hr;have P:=lt_of_act? K;exact⟨m,g',F,by grind[act?_old],(heard_old P).2 X,by grind[g?_old],h5.imp id λ⟨r',k1,k2⟩=>⟨r',k1,k2.app u⟩⟩
def TI.turn{act':Nat->Prop}(h:TI W R rel blk mb rm act wk size t)(F:∀k l,W' k l->W k l)(E:∀k l,R' k l->R k l)(e:∀g,act' g->act g):TI W' R' rel blk mb rm act' wk size t:=
 ⟨h.clean,λ k i a e B=>h.known k i a e (B.imp (F _ _) λ x=>⟨E _ _ x.1,x.2⟩),h.low,h.norel,λ i a b f w g z=>h.grpP i a b f w g (e g z),h.grpS,h.relok,h.hand,λ i a b f w g z=>h.grpM i a b f w g (e g z),λ i a b B=>(h.mutK i a b (B.imp (F _ _) λ x=>⟨E _ _ x.1,x.2⟩)).turn e,h.mutR⟩
theorem W6(t:Trace)(y:MemOp):(t++#[y])[t.size]?=some y:=S1
def G9{said:Bool}{y:MemOp}(h:¬Race said t)(w:y.act.touch?=none):¬Race said (t++#[y]):=
 noRace_append (g:=y.g) h S1 λ i a _ op e b f=>S2
def Zo{i:Nat}{a:Touch}{y:MemOp}(f:y.act.touch?=none)(h:touchAt (t++#[y]) i=some a):i<t.size/\touchAt t i=some a:=by
 rcases Jl h with h|⟨_,op,e,b,_⟩
 .exact h
 simp_all
theorem Gh{y:MemOp}(b:Deaf t y.g=0):(t++#[y]).heard t.size:=
 ⟨y.g,by simp[Trace.g?],by rw[deaf_old (Nat.le_refl _)];exact b⟩
def Gm{i:Nat}{y:MemOp}(z:y.act.touch?=none)(h:(t++#[y]).counts i):i<t.size/\t.counts i:=by
 obtain⟨x,e,f⟩:=h;obtain⟨b,w⟩:=Zo z e;exact⟨b,(counts_old b).1 ⟨x,e,f⟩⟩
def TI.release{b:Nat}{y:MemOp}{wk':Nat->Prop}{rel':Nat->Option Nat}(h:TI W R rel blk mb rm act wk size t)(hb:blk=some b)(T:y.act=.mark (.releaseMerge ⟨b,0,none⟩))(K:b<size)
  (hd:Deaf t y.g=0) (hg:rel y.g=none) (w:∀k,rel' k=if k=y.g then some t.size else rel k)
  (hW:∀k l,W' k l->W k l/\k≠.dep y.g\/(k=.dep y.g/\W (.run y.g) l)) (hR:∀k l,R' k l->R k l/\k≠.dep y.g\/(k=.dep y.g/\R (.run y.g) l)) (Y:∀k,wk k->wk' k\/k=y.g) :
  TI W' R' rel' blk mb rm act wk' size (t++#[y]):=by
 have B:y.act.touch?=none:=by rw[T];rfl
 refine⟨λ said=>G9 (h.clean said) B,?_,?_,?_,?_,?_,?_,?_,?_,?_,?_⟩
 .intro k i a ha N;obtain⟨I,f⟩:=Zo B ha
  have key:k≠.dep y.g->(W k a.loc\/(R k a.loc/\a.write=true))->Kn (t++#[y]) rel' k i:=by
   intro E N;have:=(h.known k i a f N).app #[y];cases k with
   |run g'=>exact this
   |dep g'=>
    obtain⟨r,F,H⟩:=this;refine⟨r,?_,H⟩;rw[w,if_neg]
    .exact F
    .intro e;subst e;exact E rfl
   |lck=>trivial
  have U:k=.dep y.g->(W (.run y.g) a.loc\/(R (.run y.g) a.loc/\a.write=true))->Kn (t++#[y]) rel' k i:=by
   intro E X;subst E;refine⟨t.size,by rw[w,if_pos rfl],.inr ?_⟩;exact Knows.hb_new (h.known (.run y.g) i a f X) (Nat.le_refl _) (W6 t y) rfl
  grind
 .intro op z;rcases Array.mem_append.1 z with z|z
  .exact h.low op z
  .simp at z;subst z;rw[T];exact K
 .intro i a e;rcases HU e with⟨_,e⟩|⟨_,op,z,V⟩
  .exact h.norel i a e
  simp_all
 .intro i a ha hbl E g' hg';obtain⟨I,f⟩:=Zo B ha;exact(h.grpP i a f hbl E g' hg').app _
 .intro i a ha hbl E;obtain⟨I,f⟩:=Zo B ha;exact(h.grpS i a f hbl E).app _
 .intro g' r hr;rw[w]at hr;split at hr
  .grind[act?_of,W6,Gh,Trace.g?]
  .obtain⟨b,F,H,P,Q⟩:=h.relok g' r hr;grind[lt_of_act?,act?_old,heard_old,g?_old]
 .intro i g' hg' hne hc;obtain⟨I,L⟩:=Gm B hc;rw[g?_old I]at hg';by_cases G:g'=y.g
  .obtain⟨op,ho,hog⟩:=Option.map_eq_some_iff.1 hg';refine .inr (.inl ⟨t.size,by rw[w,if_pos G],.inr ?_⟩);grind[getElem?_append_old,hb_po,W6]
  .rcases h.hand i g' hg' hne L with F|⟨r,F,H⟩|F
   .grind
   .exact .inr (.inl ⟨r,S2,H.app _⟩)
   .exact .inr (.inr (F.app _))
 .intro i a ha hbl E g' hg';obtain⟨I,f⟩:=Zo B ha;exact(h.grpM i a f hbl E g' hg').app _
 .intro i a ha N;obtain⟨I,f⟩:=Zo B ha;refine(h.mutK i a f ?_).app _;grind
 .intro r hr;obtain⟨m,g',F,H,P,Q,S⟩:=h.mutR r hr;have M:=lt_of_act? H;refine⟨m,g',F,by grind[act?_old],(heard_old M).2 P,by grind[g?_old],?_⟩;by_cases G:g'=y.g
  .obtain⟨op,ho,hog⟩:=Option.map_eq_some_iff.1 Q;refine .inr ⟨t.size,by rw[w,if_pos G],.inr ?_⟩;grind[getElem?_append_old,hb_po,W6]
  .rcases S with S|⟨r',k1,Z⟩
   .grind
   .exact .inr ⟨r',S2,Z.app _⟩
def TI.acquire{b:Nat}{y:MemOp}{act' wk':Nat->Prop}(h:TI W R rel blk mb rm act wk size t)(hb:blk=some b)(T:y.act=.mark (.acquire ⟨b,0,none⟩))(hg:y.g=0)(V:b<size)
  (hd:Deaf t 0=0) (Q:∀g,¬wk g) (U:act 0)
  (hW:∀k l,W' k l->k=.run 0/\(W (.run 0) l\/(∃g r,rel g=some r/\W (.dep g) l)\/W .lck l)) (hR:∀k l,R' k l->k=.run 0/\(R (.run 0) l\/(∃g r,rel g=some r/\R (.dep g) l)\/R .lck l)) :
  TI W' R' (λ _=>none) none none none act' wk' size (t++#[y]):=by
 have M:y.act.touch?=none:=by rw[T];rfl
 have E:=W6 t y
 have G:∀g r,rel g=some r->Knows (t++#[y]) 0 r:=by
  intro g r K;obtain⟨b',z,F,Z,h4⟩:=h.relok g r K;rw[hb]at z;cases z;have I:=lt_of_act? F;refine⟨t.size,y,E,hg,.inr (.single (.inr ⟨.marked (a:=⟨b,0,none⟩) I (.inr (by rw[act?_old I];exact F)) (by rw[act?_of E,T]) (λ k _ hk=>by rw[act?_old hk];exact h.norel k _),(heard_old I).2 Z,Gh (by rw[hg];exact hd)⟩))⟩
 have N:∀i,MK act rm t i->Knows (t++#[y]) 0 i:=by
  intro i H;cases L:rm with
  |none=>rw[L]at H;exact(H 0 U).app _
  |some r=>
   rw[L]at H;obtain⟨m,g',z,F,Z,h4,h5⟩:=h.mutR r L;obtain⟨S,k1,k2⟩:=h5.resolve_left (Q g');exact Knows.of_before (Before.app _ H) (Knows.of_before (k2.app _) (G g' S k1))
 refine⟨λ said=>G9 (h.clean said) M,?_,?_,?_,?_,?_,?_,?_,?_,?_,λ r K=>(by cases K)⟩
 .intro k i a ha w;obtain⟨H,B⟩:=Zo M ha;rcases w with w|⟨w,Y⟩
  .obtain⟨rfl,w|⟨g,r,K,w⟩|w⟩:=hW _ _ w
   .exact(h.known (.run 0) i a B (.inl w)).app #[y]
   .obtain⟨S,z,F⟩:=h.known (.dep g) i a B (.inl w);exact Knows.of_before (F.app _) (G g S z)
   .exact N i (h.mutK i a B (.inl w))
  .obtain⟨rfl,w|⟨g,r,K,w⟩|w⟩:=hR _ _ w
   .exact(h.known (.run 0) i a B (.inr ⟨w,Y⟩)).app #[y]
   .obtain⟨S,z,F⟩:=h.known (.dep g) i a B (.inr ⟨w,Y⟩);exact Knows.of_before (F.app _) (G g S z)
   .exact N i (h.mutK i a B (.inr ⟨w,Y⟩))
 .intro op f;rcases Array.mem_append.1 f with f|f
  .exact h.low op f
  .simp at f;subst f;rw[T];exact V
 .intro i a e;rcases HU e with⟨_,e⟩|⟨_,op,f,P⟩
  .exact h.norel i a e
  .simp at f;subst f;rw[T]at P;cases P
 .intro i a ha hbl;unfold JG at hbl;split at hbl
  .cases hbl.1
  .exact hbl.elim
 .intro i a ha hbl;unfold JG at hbl;split at hbl
  .cases hbl.1
  .exact hbl.elim
 .intro g' r K;cases K
 .intro i g' hg' hne hc;obtain⟨H,X⟩:=Gm M hc;rw[g?_old H]at hg';rcases h.hand i g' hg' hne X with z|⟨r,z,F⟩|z
  .exact absurd z (Q g')
  .exact .inr (.inr (Knows.of_before (F.app _) (G g' r z)))
  .exact .inr (.inr (z.app _))
 .intro i a ha hbl;unfold JG at hbl;split at hbl
  .cases hbl.1
  .exact hbl.elim
 grind
def TI.fork{c:Nat}{y z:MemOp}{act' wk':Nat->Prop}(h:TI W R rel blk mb rm act wk size t)(hy:y.act=.go c)(ac:y.g=0)(hz:z.act=.start)(Q:z.g=c)(aj:Deaf t 0=0)(af:Deaf t c=0)(ai:c≠0)
  (H:∀g,act' g->act g\/(g=c/\act 0)) (ab:∀g,wk g->wk' g)
  (hW:∀k l,W' k l->W k l\/(k=.run c/\W (.run 0) l)) (hR:∀k l,R' k l->R k l\/(k=.run c/\R (.run 0) l)) :
  TI W' R' rel blk mb rm act' wk' size (t++#[y,z]):=by
 have e:t++#[y,z]=(t++#[y])++#[z]:=by apply Array.ext';simp
 have P:y.act.touch?=none:=by rw[hy];rfl
 have S:z.act.touch?=none:=by rw[hz];rfl
 have aa:(t++#[y]).size=t.size+1:=S1
 have ak:(t++#[y]++#[z])[t.size]?=some y:=by rw[getElem?_append_old O1];exact W6 t y
 have ad:(t++#[y]++#[z])[t.size+1]?=some z:=by have:=W6 (t++#[y]) z;rwa [aa]at this
 have E:∀{i:Nat}{a:Touch},touchAt (t++#[y]++#[z]) i=some a->i<t.size/\touchAt t i=some a:=by
  intro i a G;exact Zo P (Zo S G).2
 have ah:HappensBefore (t++#[y]++#[z]) t.size (t.size+1):=by
  refine .single (.inr ⟨.spawn (child:=c) (by grind[act?_of]) (by grind[act?_of]) (by simp only[Trace.g?,ad,Option.map_some,Q]),?_,?_⟩)
  .grind[heard_old,Gh]
  .have:=Gh (t:=t++#[y]) (y:=z) (by rw[Q,Deaf_other t (g':=0) O1 _ (by simp[ac])];exact af)
   rwa [aa]at this
 have I:∀i,Knows t 0 i->Knows (t++#[y]++#[z]) c i:=by
  intro i L;have K:HappensBefore (t++#[y]) i t.size:=L.hb_new (Nat.le_refl _) (W6 t y) ac;exact⟨t.size+1,z,ad,Q,.inr ((hb_app _ K).trans ah)⟩
 have app:∀{g i:Nat},Knows t g i->Knows (t++#[y]++#[z]) g i:=λ h=>(h.app _).app _;rw[e];refine⟨λ said=>G9 (G9 (h.clean said) P) S,?_,?_,?_,?_,?_,?_,?_,?_,?_,?_⟩
 .intro k i a G T;obtain⟨L,B⟩:=E G;rcases T with T|⟨T,hw⟩
  .rcases hW _ _ T with N|⟨rfl,N⟩
   .exact((h.known k i a B (.inl N)).app _).app _
   .exact I i (h.known (.run 0) i a B (.inl N))
  .rcases hR _ _ T with N|⟨rfl,N⟩
   .exact((h.known k i a B (.inr ⟨N,hw⟩)).app _).app _
   .exact I i (h.known (.run 0) i a B (.inr ⟨N,hw⟩))
 .intro op w;rcases Array.mem_append.1 w with w|w
  .rcases Array.mem_append.1 w with w|w
   .exact h.low op w
   .simp at w;subst w;rw[hy];trivial
  .simp at w;subst w;rw[hz];trivial
 .intro i a e;rcases HU e with⟨_,e⟩|⟨_,op,w,M⟩
  .rcases HU e with⟨_,e⟩|⟨_,op,w,M⟩
   .exact h.norel i a e
   .simp at w;subst w;rw[hy]at M;cases M
  simp_all
 .intro i a G hbl F g' f;obtain⟨L,B⟩:=E G;rcases H g' f with f|⟨rfl,f⟩
  .exact app (h.grpP i a B hbl F g' f)
  .exact I i (h.grpP i a B hbl F 0 f)
 .intro i a G hbl F;obtain⟨L,B⟩:=E G;exact app (h.grpS i a B hbl F)
 .intro g' r hr;obtain⟨b,K,U,h3,h4⟩:=h.relok g' r hr;have X:=lt_of_act? U;grind[act?_old,heard_old,g?_old]
 .intro i g' f hne hc;obtain⟨ag,ae⟩:=Gm S hc;obtain⟨L,V⟩:=Gm P ae;rw[g?_old ag,g?_old L]at f;rcases h.hand i g' f hne V with K|⟨r,K,U⟩|K
  .exact .inl (ab _ K)
  .exact .inr (.inl ⟨r,K,(U.app _).app _⟩)
  simp_all
 .intro i a G hbl F g' f;obtain⟨L,B⟩:=E G;rcases H g' f with f|⟨rfl,f⟩
  .exact app (h.grpM i a B hbl F g' f)
  .exact I i (h.grpM i a B hbl F 0 f)
 .intro i a G T;obtain⟨L,B⟩:=E G
  have F:=h.mutK i a B (by
   grind)
  cases Z:rm with
  |none=>
   rw[Z]at F;intro g' f;rcases H g' f with f|⟨rfl,f⟩
   .exact app (F g' f)
   .exact I i (F 0 f)
  |some r=>rw[Z]at F;exact Before.app _ (Before.app _ F)
 .intro r hr;obtain⟨m,g',K,U,h3,h4,h5⟩:=h.mutR r hr;have X:=lt_of_act? U;have Y:r<(t++#[y]).size:=O1
  exact⟨m,g',K,by grind[act?_old],(heard_old Y).2 ((heard_old X).2 h3),by grind[g?_old],h5.imp (ab _) λ⟨r',k1,k2⟩=>⟨r',k1,(k2.app _).app _⟩⟩
def TI.create{b:Nat}(h:TI W R rel none mb rm act wk size t)(I:∀l,¬W' .lck l)(H:∀l,¬R' .lck l)(f:∀g,rel g=none)(E:∀a:Addr,a.block=b->a.off<2->W (.run 0) (.cell a))(G:∀k l,W' k l->W k l)(F:∀k l,R' k l->R k l) :
  TI W' R' rel (some b) none none (·=0) wk size t:=by
 refine⟨h.clean,λ k i a e K=>h.known k i a e (K.imp (G _ _) λ x=>⟨F _ _ x.1,x.2⟩),h.low,h.norel,?_,?_,λ g r w=>(by rw[f]at w;cases w),h.hand,?_,?_,λ r w=>(by cases w)⟩
 .intro i a e hbl _ g hg;obtain⟨loc,wr,kd⟩:=a;cases loc <;> simp only[JG]at hbl;obtain⟨z,B⟩:=hbl;cases z;rw[hg];exact h.known (.run 0) i _ e (.inl (E _ rfl B))
 .intro i a e hbl _;obtain⟨loc,wr,kd⟩:=a;cases loc <;> simp only[JG]at hbl;obtain⟨z,B⟩:=hbl;cases z;exact h.known (.run 0) i _ e (.inl (E _ rfl B))
 .intro i a e hbl;unfold JG at hbl;split at hbl
  .cases hbl.1
  .exact hbl.elim
 simp_all
def TI.createM{m:Nat}{act':Nat->Prop}(h:TI W R rel blk none rm act wk size t)(w:∀g,act' g->g=0/\act 0)(K:∀a:Addr,a.block=m->a.off<2->W (.run 0) (.cell a))
  (I:∀k l,W' k l->W k l\/(k=.lck/\W (.run 0) l)) (H:∀k l,R' k l->R k l\/(k=.lck/\R (.run 0) l)) (M:∀l,¬W .lck l) (L:∀l,¬R .lck l) :
  TI W' R' rel blk (some m) none act' wk size t:=by
 have key:∀k i a,touchAt t i=some a->(W' k a.loc\/(R' k a.loc/\a.write=true))->(W k a.loc\/(R k a.loc/\a.write=true))\/(k=.lck/\(W (.run 0) a.loc\/(R (.run 0) a.loc/\a.write=true))):=by
  intro k i a _ b;rcases b with b|⟨b,F⟩
  .rcases I _ _ b with b|⟨e,b⟩
   .exact .inl (.inl b)
   .exact .inr ⟨e,.inl b⟩
  .rcases H _ _ b with b|⟨e,b⟩
   .exact .inl (.inr ⟨b,F⟩)
   .exact .inr ⟨e,.inr ⟨b,F⟩⟩
 refine⟨h.clean,λ k i a f b=>?_,h.low,h.norel,λ i a B E G g z=>?_,h.grpS,h.relok,h.hand,?_,?_,λ r N=>(by cases N)⟩
 .rcases key k i a f b with b|⟨rfl,_⟩
  .exact h.known k i a f b
  .trivial
 .obtain⟨rfl,w⟩:=w g z;exact h.grpP i a B E G 0 w
 .intro i a f hbl hk g z;obtain⟨loc,wr,kd⟩:=a;cases loc <;> simp only[JG]at hbl;obtain⟨B,E⟩:=hbl;cases B;rw[(w g z).1];exact h.known (.run 0) i _ f (.inl (K _ rfl E))
 .intro i a f b g z;rw[(w g z).1];rcases key .lck i a f b with b|⟨_,b⟩
  .simp_all
  .exact h.known (.run 0) i a f b
def TI.mrel{m:Nat}{y:MemOp}(h:TI W R rel blk mb rm act wk size t)(Y:mb=some m)(P:y.act=.mark (.releaseMerge ⟨m,0,none⟩))(M:m<size)(X:Deaf t y.g=0)(V:wk y.g)
  (S:∀k l,W' k l->(W k l/\k≠.lck)\/(k=.lck/\W (.run y.g) l)) (Q:∀k l,R' k l->(R k l/\k≠.lck)\/(k=.lck/\R (.run y.g) l)) :
  TI W' R' rel blk mb (some t.size) act wk size (t++#[y]):=by
 have z:y.act.touch?=none:=by rw[P];rfl
 refine⟨λ said=>G9 (h.clean said) z,?_,?_,?_,?_,?_,?_,?_,?_,?_,?_⟩
 .intro k i a ha E;obtain⟨H,f⟩:=Zo z ha;by_cases B:k=.lck
  .subst B;trivial
  .refine(h.known k i a f ?_).app _;rcases E with E|⟨E,N⟩
   .exact .inl ((S _ _ E).resolve_right λ x=>B x.1).1
   .exact .inr ⟨((Q _ _ E).resolve_right λ x=>B x.1).1,N⟩
 .intro op w;rcases Array.mem_append.1 w with w|w
  .exact h.low op w
  .simp at w;subst w;rw[P];exact M
 .intro i a e;rcases HU e with⟨_,e⟩|⟨_,op,w,I⟩
  .exact h.norel i a e
  .simp at w;subst w;rw[P]at I;cases I
 .intro i a ha hbl B g' hg';obtain⟨H,f⟩:=Zo z ha;exact(h.grpP i a f hbl B g' hg').app _
 .intro i a ha hbl B;obtain⟨H,f⟩:=Zo z ha;exact(h.grpS i a f hbl B).app _
 .intro g' r hr;obtain⟨b,F,K,T,U⟩:=h.relok g' r hr;have G:=lt_of_act? K;exact⟨b,F,by rw[act?_old G];exact K,(heard_old G).2 T,by rw[g?_old G];exact U⟩
 .intro i g' hg' hne hc;obtain⟨H,L⟩:=Gm z hc;rw[g?_old H]at hg';rcases h.hand i g' hg' hne L with F|⟨r,F,K⟩|F
  .exact .inl F
  .exact .inr (.inl ⟨r,F,K.app _⟩)
  .exact .inr (.inr (F.app _))
 .intro i a ha hbl B g' hg';obtain⟨H,f⟩:=Zo z ha;exact(h.grpM i a f hbl B g' hg').app _
 .intro i a ha E;obtain⟨H,f⟩:=Zo z ha
  have B:Knows t y.g i:=h.known (.run y.g) i a f (by
   rcases E with E|⟨E,N⟩
   .exact .inl ((S _ _ E).resolve_left λ x=>x.2 rfl).2
   .exact .inr ⟨((Q _ _ E).resolve_left λ x=>x.2 rfl).2,N⟩)
  exact .inr (B.hb_new (Nat.le_refl _) (W6 t y) rfl)
 grind[act?_of,W6,Gh,Trace.g?]
def TI.macq{m:Nat}{y:MemOp}(h:TI W R rel blk mb rm act wk size t)(hm:mb=some m)(Z:y.act=.mark (.acquire ⟨m,0,none⟩))(U:m<size)(hd:Deaf t y.g=0)(S:act y.g)
  (hW:∀k l,W' k l->k≠.lck/\(W k l\/(k=.run y.g/\W .lck l))) (hR:∀k l,R' k l->k≠.lck/\(R k l\/(k=.run y.g/\R .lck l))) :
  TI W' R' rel blk mb rm act wk size (t++#[y]):=by
 have z:y.act.touch?=none:=by rw[Z];rfl
 have H:=W6 t y
 have M:∀i,MK act rm t i->Knows (t++#[y]) y.g i:=by
  intro i E;cases K:rm with
  |none=>rw[K]at E;exact(E _ S).app _
  |some r=>
   rw[K]at E;obtain⟨m',g',B,L,Q,V,X⟩:=h.mutR r K;rw[hm]at B;cases B;have F:=lt_of_act? L;have P:Knows (t++#[y]) y.g r:=⟨t.size,y,H,rfl,.inr (.single (.inr ⟨.marked (a:=⟨m,0,none⟩) F (.inr (by grind[act?_old])) (by grind[act?_of]) (λ k _ G=>by rw[act?_old G];exact h.norel k _),(heard_old F).2 Q,Gh hd⟩))⟩;exact Knows.of_before (Before.app _ E) P
 refine⟨λ said=>G9 (h.clean said) z,?_,?_,?_,?_,?_,?_,?_,?_,?_,?_⟩
 .intro k i a ha N;obtain⟨E,f⟩:=Zo z ha;rcases N with N|⟨N,Y⟩
  .rcases(hW _ _ N).2 with I|⟨rfl,I⟩
   .exact(h.known k i a f (.inl I)).app _
   .exact M i (h.mutK i a f (.inl I))
  .rcases(hR _ _ N).2 with I|⟨rfl,I⟩
   .exact(h.known k i a f (.inr ⟨I,Y⟩)).app _
   .exact M i (h.mutK i a f (.inr ⟨I,Y⟩))
 .intro op w;rcases Array.mem_append.1 w with w|w
  .exact h.low op w
  .simp at w;subst w;rw[Z];exact U
 .intro i a e;rcases HU e with⟨_,e⟩|⟨_,op,w,aa⟩
  .exact h.norel i a e
  simp_all
 .intro i a ha hbl G g' hg';obtain⟨E,f⟩:=Zo z ha;exact(h.grpP i a f hbl G g' hg').app _
 .intro i a ha hbl G;obtain⟨E,f⟩:=Zo z ha;exact(h.grpS i a f hbl G).app _
 .intro g' r P;obtain⟨b,B,L,Q,V⟩:=h.relok g' r P;grind[lt_of_act?,act?_old,heard_old,g?_old]
 .intro i g' hg' hne hc;obtain⟨E,T⟩:=Gm z hc;rw[g?_old E]at hg';rcases h.hand i g' hg' hne T with B|⟨r,B,L⟩|B
  .exact .inl B
  .exact .inr (.inl ⟨r,B,L.app _⟩)
  .exact .inr (.inr (B.app _))
 .intro i a ha hbl G g' hg';obtain⟨E,f⟩:=Zo z ha;exact(h.grpM i a f hbl G g' hg').app _
 .grind
 .intro r P;obtain⟨m',g',B,L,Q,V,X⟩:=h.mutR r P;have F:=lt_of_act? L;exact⟨m',g',B,by grind[act?_old],(heard_old F).2 Q,by grind[g?_old],X.imp id λ⟨r',k1,k2⟩=>⟨r',k1,k2.app _⟩⟩
end
end Go.TM
namespace Go.TM
inductive QE(α:Type) where
 |ok (a:α) (st sm:Value) (es:Array Event) (bs:List (Nat×Bool))
 |blocked (st sm:Value) (bs:List (Nat×Bool))
 |stuck
def Xo(a:Addr):Bool:=a.spot.isNone&&Nat.beq a.off 0
def Xh(a:Addr):Bool:=a.spot.isNone&&Nat.beq a.off 1
def YZ{a:Addr}(h:Xo a=true):a=⟨a.block,0,none⟩:=by
 obtain⟨b,o,s⟩:=a;simp_all[Xo,Bool.and_eq_true,Option.isNone_iff_eq_none,Nat.eq_of_beq_eq_true]
def TF{a:Addr}(h:Xh a=true):a=⟨a.block,1,none⟩:=by
 obtain⟨b,o,s⟩:=a;simp_all[Xh,Bool.and_eq_true,Option.isNone_iff_eq_none,Nat.eq_of_beq_eq_true]
def Km:Value->Bool
 |.int ..=>true
 |_=>false
def QC(P:Program)(t:TypeId){α:Type}:Sem α->Value->Value->Array Event->List (Nat×Bool)->QE α
 |.pure a,st,sm,es,bs=>.ok a st sm es bs
 |.program k,st,sm,es,bs=>QC P t (k P) st sm es bs
 |.mark m k,st,sm,es,bs=>QC P t k st sm (es.push ⟨.mark m,false,true⟩) bs
 |.load .atomic a k,st,sm,es,bs=>
  bif Xo a then QC P t (k st) st sm (es.push ⟨.cell a,false,true⟩) ((a.block,true)::bs)
  else bif Xh a then QC P t (k sm) st sm (es.push ⟨.cell a,false,true⟩) ((a.block,true)::bs)else .stuck
 |.load .plain a k,st,sm,es,bs=>
  bif Xo a then QC P t (k st) st sm (es.push ⟨.cell a,false,false⟩) ((a.block,true)::bs)
  else bif Xh a then QC P t (k sm) st sm (es.push ⟨.cell a,false,false⟩) ((a.block,true)::bs)else .stuck
 |.store .atomic a v k,st,sm,es,bs=>
  bif Km v then
   bif Xo a then QC P t k v sm (es.push ⟨.cell a,true,true⟩) ((a.block,true)::bs)
   else bif Xh a then QC P t k st v (es.push ⟨.cell a,true,true⟩) ((a.block,true)::bs)else .stuck
  else .stuck
 |.shape r k,st,sm,es,bs=>QC P t (k (some (t,2))) st sm es ((r,false)::bs)
 |.frozen a k,st,sm,es,bs=>QC P t (k false) st sm es ((a.block,false)::bs)
 |.halt .blocked,st,sm,_,bs=>.blocked st sm bs
 |_,_,_,_,_=>.stuck
def Sh(b:Nat)(t:TypeId)(st sm:Value)(w:World):Prop:=w.heap[b]?=some (.cells #[st,sm] t (0,0))
def two(w:World)(b:Nat)(t:TypeId)(st sm:Value):World:={ w with heap:=w.heap.setIfInBounds b (.cells #[st,sm] t (0,0)) }
theorem Sh.two{w:World}{b:Nat}{t:TypeId}{st sm st' sm':Value}(h:Sh b t st sm w):Sh b t st' sm' (two w b t st' sm'):=by
 grind[Sh,TM.two]
def Sh.two_same{w:World}{b:Nat}{t:TypeId}{st sm:Value}(h:Sh b t st sm w):TM.two w b t st sm=w:=by
 obtain⟨z,f⟩:=Array.getElem?_eq_some_iff.1 h
 have:w.heap.setIfInBounds b (.cells #[st,sm] t (0,0))=w.heap:=by
  apply Array.ext
  .simp
  .intro i hi hi';rw[Array.getElem_setIfInBounds (by simpa using hi)];split
   .rename_i e;subst e;exact f.symm
   .rfl
 simp[TM.two,this]
def I_{w:World}{b:Nat}{t:TypeId}{st sm st' sm':Value}:two (two w b t st sm) b t st' sm'=two w b t st' sm':=by
 simp[two,Array.setIfInBounds_setIfInBounds]
def Sh.cell0{w:World}{b:Nat}{t:TypeId}{st sm:Value}(h:Sh b t st sm w):w.cell? ⟨b,0,none⟩=some st/\w.cell? ⟨b,1,none⟩=some sm/\w.frozen? ⟨b,0,none⟩=false/\w.frozen? ⟨b,1,none⟩=false:=by
 grind[Sh,World.cell?,World.frozen?]
def Sh.set0{w:World}{b:Nat}{t:TypeId}{st sm v:Value}(h:Sh b t st sm w):w.setCell ⟨b,0,none⟩ v=TM.two w b t v sm:=by
 obtain⟨e,f⟩:=Array.getElem?_eq_some_iff.1 h;simp only[World.setCell,TM.two];congr 1;grind
def Sh.set1{w:World}{b:Nat}{t:TypeId}{st sm v:Value}(h:Sh b t st sm w):w.setCell ⟨b,1,none⟩ v=TM.two w b t st v:=by
 obtain⟨e,f⟩:=Array.getElem?_eq_some_iff.1 h;simp only[World.setCell,TM.two];congr 1;grind
def Kf(P:Program){α:Type}(s:Sem α)(b:Nat)(t:TypeId)(w:World)(es:Array Event)(bs:List (Nat×Bool)):QE α->Prop
 |.ok x st' sm' f e=>(∀y∈e,y.1=b)->(∀y∈bs,y∈e)/\s.runT P w es=(.ok x (two w b t st' sm'),f)
 |.blocked st' sm' e=>(∀y∈e,y.1=b)->(∀y∈bs,y∈e)/\∃f,s.runT P w es=(.halt .blocked (two w b t st' sm'),f)
 |.stuck=>True
theorem Kf.of{P:Program}{α:Type}{s L:Sem α}{b c:Nat}{t:TypeId}{w w':World}{es z:Array Event}{bs:List (Nat×Bool)}{f:Bool}{r:QE α}
  (h:Kf P L b t w' z ((c,f)::bs) r) (I:c=b->s.runT P w es=L.runT P w' z) (K:∀st sm,two w' b t st sm=two w b t st sm):Kf P s b t w es bs r:=by
 cases r with
 |ok x st' sm' e F=>
  intro E;obtain⟨B,G⟩:=h E;exact⟨λ y H=>B y (by simp[H]),by rw[I (E _ (B (c,f) S1)),G,K]⟩
 |blocked st' sm' F=>
  intro E;obtain⟨B,e,G⟩:=h E;exact⟨λ y H=>B y (by simp[H]),e,by rw[I (E _ (B (c,f) S1)),G,K]⟩
 |stuck=>trivial
def wl{P:Program}{α:Type}{b:Nat}{t:TypeId}(s:Sem α):∀{st sm:Value}{es:Array Event}{bs:List (Nat×Bool)}{w:World},
  Sh b t st sm w->Kf P s b t w es bs (QC P t s st sm es bs):=by
 induction s with
 |pure a=>
  intro st sm es bs w f L;exact⟨λ _ h=>h,by rw[f.two_same];rfl⟩
 |program k B=>
  intro st sm es bs w f;exact B P f
 |mark m k B=>
  intro st sm es bs w f;exact B f
 |load m a k B=>
  intro st sm es bs w f;cases m with
  |plain=>
   simp only[QC];cases e:Xo a with
   |true=>
    simp only[cond_true];refine(B st f).of (λ z=>?_) (λ _ _=>rfl);have E:=YZ e;rw[z]at E;have H:=f.cell0.1;grind[Sem.runT]
   |false=>
    simp only[cond_false];cases G:Xh a with
    |false=>exact trivial
    |true=>
     simp only[cond_true];refine(B sm f).of (λ z=>?_) (λ _ _=>rfl);have E:=TF G;rw[z]at E;have H:=f.cell0.2.1;grind[Sem.runT]
  |atomic=>
   simp only[QC];cases e:Xo a with
   |true=>
    simp only[cond_true];refine(B st f).of (λ z=>?_) (λ _ _=>rfl);have E:=YZ e;rw[z]at E;have H:=f.cell0.1;grind[Sem.runT]
   |false=>
    simp only[cond_false];cases G:Xh a with
    |false=>exact trivial
    |true=>
     simp only[cond_true];refine(B sm f).of (λ z=>?_) (λ _ _=>rfl);have E:=TF G;rw[z]at E;have H:=f.cell0.2.1;grind[Sem.runT]
 |store m a v k B=>
  intro st sm es bs w f;cases m with
  |plain=>exact trivial
  |atomic=>
   simp only[QC];cases K:Km v with
   |false=>exact trivial
   |true=>
    simp only[cond_true]
    obtain⟨F,n,rfl⟩:∃F n,v=.int F n:=by
     cases v <;> simp[Km]at K;simp_all
    cases e:Xo a with
    |true=>
     simp only[cond_true];refine(B (w:=two w b t (.int F n) sm) f.two).of (λ z=>?_) (λ _ _=>I_);have E:=YZ e;rw[z]at E;have H:=f.cell0.1;have M:=f.cell0.2.2.1;have I:=f.set0 (v:=.int F n);simp_all[Sem.runT,Bool.false_eq_true,if_false]
    |false=>
     simp only[cond_false];cases G:Xh a with
     |false=>exact trivial
     |true=>
      simp only[cond_true];refine(B (w:=two w b t st (.int F n)) f.two).of (λ z=>?_) (λ _ _=>I_);have E:=TF G;rw[z]at E;have H:=f.cell0.2.1;have M:=f.cell0.2.2.2;have I:=f.set1 (v:=.int F n);simp_all[Sem.runT,Bool.false_eq_true,if_false]
 |shape r k B=>
  intro st sm es bs w f;refine(B (some (t,2)) f).of (λ z=>?_) (λ _ _=>rfl);subst z;simp only[Sem.runT,World.shape?,show w.heap[r]?=_ from f];rfl
 |frozen a k B=>
  intro st sm es bs w f;refine(B false f).of (λ z=>?_) (λ _ _=>rfl);subst z;have:w.frozen? a=false:=by simp[World.frozen?,show w.heap[a.block]?=_ from f]
  grind[Sem.runT]
 |halt h=>
  intro st sm es bs w f;cases h with
  |blocked=>exact λ L=>⟨λ _ h=>h,es,by rw[f.two_same];rfl⟩
  |_=>exact trivial
 |_=>intro st sm es bs w f;exact trivial
def Bb{P:Program}{t:TypeId}{α:Type}(s:Sem α):∀{st sm:Value}{es:Array Event}{bs:List (Nat×Bool)}{x:α}{st' sm':Value}{f:Array Event}{b:List (Nat×Bool)},
  QC P t s st sm es bs=.ok x st' sm' f b->(∃l,b=l++bs)/\(b=bs->(st'=st/\sm'=sm)/\∀w,s.runT P w es=(.ok x w,f)):=by
 induction s with
 |pure a=>
  simp_all[QC,QE.ok.injEq]
 |program k z=>intro st sm es bs x st' sm' f b h;exact z P h
 |mark m k z=>intro st sm es bs x st' sm' f b h;exact z h
 |load m a k z=>
  intro st sm es bs x st' sm' f b h;cases m with
  |plain=>
   simp only[QC]at h
   have key:∀v,QC P t (k v) st sm (es.push ⟨.cell a,false,false⟩) ((a.block,true)::bs)=.ok x st' sm' f b->(∃l,b=l++bs)/\(b=bs->(st'=st/\sm'=sm)/\∀w,(Sem.load .plain a k).runT P w es=(.ok x w,f)):=by
    intro v B;obtain⟨⟨l,rfl⟩,_⟩:=z v B;refine⟨⟨l++[(a.block,true)],S1⟩,λ e=>?_⟩;have:=congrArg List.length e;simp at this;omega
   grind
  |atomic=>
   simp only[QC]at h
   have key:∀v,QC P t (k v) st sm (es.push ⟨.cell a,false,true⟩) ((a.block,true)::bs)=.ok x st' sm' f b->(∃l,b=l++bs)/\(b=bs->(st'=st/\sm'=sm)/\∀w,(Sem.load .atomic a k).runT P w es=(.ok x w,f)):=by
    intro v B;obtain⟨⟨l,rfl⟩,_⟩:=z v B;refine⟨⟨l++[(a.block,true)],S1⟩,λ e=>?_⟩;have:=congrArg List.length e;simp at this;omega
   grind
 |store m a v k z=>
  intro st sm es bs x st' sm' f b h;cases m with
  |plain=>simp[QC]at h
  |atomic=>
   simp only[QC]at h
   have key:∀u E,QC P t k u E (es.push ⟨.cell a,true,true⟩) ((a.block,true)::bs)=.ok x st' sm' f b->(∃l,b=l++bs)/\(b=bs->(st'=st/\sm'=sm)/\∀w,(Sem.store .atomic a v k).runT P w es=(.ok x w,f)):=by
    intro u E B;obtain⟨⟨l,rfl⟩,_⟩:=z B;refine⟨⟨l++[(a.block,true)],S1⟩,λ e=>?_⟩;have:=congrArg List.length e;simp at this;omega
   grind
 |shape r k z=>
  intro st sm es bs x st' sm' f b h;obtain⟨⟨l,rfl⟩,_⟩:=z _ h;refine⟨⟨l++[(r,false)],S1⟩,λ e=>?_⟩;have:=congrArg List.length e;grind
 |frozen a k z=>
  intro st sm es bs x st' sm' f b h;obtain⟨⟨l,rfl⟩,_⟩:=z _ h;refine⟨⟨l++[(a.block,false)],S1⟩,λ e=>?_⟩;have:=congrArg List.length e;grind
 |halt F=>grind[QC]
 |_=>grind[QC]
def Rk{P:Program}{t:TypeId}{α:Type}(s:Sem α):∀{st sm:Value}{es:Array Event}{bs:List (Nat×Bool)}{st' sm':Value}{b:List (Nat×Bool)},
  QC P t s st sm es bs=.blocked st' sm' b->(∃l,b=l++bs)/\(b=bs->∀w,∃f,s.runT P w es=(.halt .blocked w,f)):=by
 induction s with
 |pure a=>grind[QC]
 |program k z=>intro st sm es bs st' sm' b h;exact z P h
 |mark m k z=>intro st sm es bs st' sm' b h;exact z h
 |load m a k z=>
  intro st sm es bs st' sm' b h;cases m with
  |plain=>
   simp only[QC]at h
   have key:∀v,QC P t (k v) st sm (es.push ⟨.cell a,false,false⟩) ((a.block,true)::bs)=.blocked st' sm' b->(∃l,b=l++bs)/\(b=bs->∀w,∃f,(Sem.load .plain a k).runT P w es=(.halt .blocked w,f)):=by
    intro v B;obtain⟨⟨l,rfl⟩,_⟩:=z v B;refine⟨⟨l++[(a.block,true)],S1⟩,λ e=>?_⟩;have:=congrArg List.length e;simp at this;omega
   cases e:Xo a <;> rw[e]at h <;> simp only[cond_true,cond_false]at h
   .cases e2:Xh a <;> rw[e2]at h <;> simp only[cond_true,cond_false]at h
    .cases h
    .exact key _ h
   .exact key _ h
  |atomic=>
   simp only[QC]at h
   have key:∀v,QC P t (k v) st sm (es.push ⟨.cell a,false,true⟩) ((a.block,true)::bs)=.blocked st' sm' b->(∃l,b=l++bs)/\(b=bs->∀w,∃f,(Sem.load .atomic a k).runT P w es=(.halt .blocked w,f)):=by
    intro v B;obtain⟨⟨l,rfl⟩,_⟩:=z v B;refine⟨⟨l++[(a.block,true)],S1⟩,λ e=>?_⟩;have:=congrArg List.length e;simp at this;omega
   cases e:Xo a <;> rw[e]at h <;> simp only[cond_true,cond_false]at h
   .cases e2:Xh a <;> rw[e2]at h <;> simp only[cond_true,cond_false]at h
    .cases h
    .exact key _ h
   .exact key _ h
 |store m a v k z=>
  intro st sm es bs st' sm' b h;cases m with
  |plain=>simp[QC]at h
  |atomic=>
   simp only[QC]at h
   have key:∀u E,QC P t k u E (es.push ⟨.cell a,true,true⟩) ((a.block,true)::bs)=.blocked st' sm' b->(∃l,b=l++bs)/\(b=bs->∀w,∃f,(Sem.store .atomic a v k).runT P w es=(.halt .blocked w,f)):=by
    intro u E B;obtain⟨⟨l,rfl⟩,_⟩:=z B;refine⟨⟨l++[(a.block,true)],S1⟩,λ e=>?_⟩;have:=congrArg List.length e;simp at this;omega
   cases F:Km v <;> rw[F]at h <;> simp only[cond_true,cond_false]at h
   .cases h
   .cases e:Xo a <;> rw[e]at h <;> simp only[cond_true,cond_false]at h
    .cases e2:Xh a <;> rw[e2]at h <;> simp only[cond_true,cond_false]at h
     .cases h
     .exact key _ _ h
    .exact key _ _ h
 |shape r k z=>
  intro st sm es bs st' sm' b h;obtain⟨⟨l,rfl⟩,_⟩:=z _ h;refine⟨⟨l++[(r,false)],S1⟩,λ e=>?_⟩;have:=congrArg List.length e;grind
 |frozen a k z=>
  intro st sm es bs st' sm' b h;obtain⟨⟨l,rfl⟩,_⟩:=z _ h;refine⟨⟨l++[(a.block,false)],S1⟩,λ e=>?_⟩;have:=congrArg List.length e;grind
 |halt G=>
  intro st sm es bs st' sm' b h;cases G with
  |blocked=>
   simp_all[QC,QE.blocked.injEq]
  |_=>simp[QC]at h
 |_=>grind[QC]
def NF(P:Program){α:Type}(s:Sem α)(W:Value->Value->World)(ok:List (Nat×Bool)->Prop)(w:World):QE α->Prop
 |.ok x st' sm' e b=>ok b->s.runT P w #[]=(.ok x (W st' sm'),e)
 |.blocked st' sm' b=>ok b->∃e,s.runT P w #[]=(.halt .blocked (W st' sm'),e)
 |.stuck=>True
structure WZ(P:Program)(t:TypeId)(st sm:Value)(w:World)(W:Value->Value->World)(ok:List (Nat×Bool)->Prop):Prop where
 ran:∀{α:Type}(s:Sem α),NF P s W ok w (QC P t s st sm #[] [])
 same:W st sm=w
 nil:ok []
def WZ.sh{P:Program}{t:TypeId}{st sm:Value}{w:World}{b:Nat}(h:Sh b t st sm w):WZ P t st sm w (two w b t) (λ bs=>∀y∈bs,y.1=b):=by
 refine⟨λ s=>?_,h.two_same,S1⟩;have:=wl (P:=P) s (es:=#[]) (bs:=[]) h;generalize QC P t s st sm #[] []=r at this;cases r with
 |ok x st' sm' es bs=>exact λ e=>(this e).2
 |blocked st' sm' bs=>exact λ e=>(this e).2
 |stuck=>trivial
def WZ.calm{P:Program}{t:TypeId}{st sm:Value}{w:World}:WZ P t st sm w (λ _ _=>w) (λ bs=>bs=[]):=by
 refine⟨λ s=>?_,rfl,rfl⟩;have e:=@Bb P t _ s st sm #[] [];have f:=@Rk P t _ s st sm #[] [];generalize QC P t s st sm #[] []=r at e f;cases r with
 |ok x st' sm' es bs=>exact λ b=>((e rfl).2 b).2 w
 |blocked st' sm' bs=>exact λ b=>(f rfl).2 b w
 |stuck=>trivial
theorem UZ{P:Program}{t:TypeId}{α:Type}(s:Sem α):∀{st sm:Value}{es:Array Event}{bs:List (Nat×Bool)}{x:α}{st' sm':Value}{f:Array Event}{b:List (Nat×Bool)},
  QC P t s st sm es bs=.ok x st' sm' f b->(∃l,b=l++bs)/\((b.all (!·.2))=true->(st'=st/\sm'=sm)/\∀z w,QC P t s z w es bs=.ok x z w f b):=by
 induction s with
 |pure a=>
  simp_all[QC,QE.ok.injEq]
 |program k B=>intro st sm es bs x st' sm' f b h;exact B P h
 |mark m k B=>intro st sm es bs x st' sm' f b h;exact B h
 |load m a k B=>
  intro st sm es bs x st' sm' f b h;cases m with
  |plain=>
   simp only[QC]at h
   have key:∀v,QC P t (k v) st sm (es.push ⟨.cell a,false,false⟩) ((a.block,true)::bs)=.ok x st' sm' f b->(∃l,b=l++bs)/\((b.all (!·.2))=true->(st'=st/\sm'=sm)/\∀z w,QC P t (Sem.load .plain a k) z w es bs=.ok x z w f b):=by
    intro v E;obtain⟨⟨l,rfl⟩,_⟩:=B v E;exact⟨⟨l++[(a.block,true)],S1⟩,λ e=>by simp at e⟩
   grind
  |atomic=>
   simp only[QC]at h
   have key:∀v,QC P t (k v) st sm (es.push ⟨.cell a,false,true⟩) ((a.block,true)::bs)=.ok x st' sm' f b->(∃l,b=l++bs)/\((b.all (!·.2))=true->(st'=st/\sm'=sm)/\∀z w,QC P t (Sem.load .atomic a k) z w es bs=.ok x z w f b):=by
    intro v E;obtain⟨⟨l,rfl⟩,_⟩:=B v E;exact⟨⟨l++[(a.block,true)],S1⟩,λ e=>by simp at e⟩
   grind
 |store m a v k B=>
  intro st sm es bs x st' sm' f b h;cases m with
  |plain=>simp[QC]at h
  |atomic=>
   simp only[QC]at h
   have key:∀u G,QC P t k u G (es.push ⟨.cell a,true,true⟩) ((a.block,true)::bs)=.ok x st' sm' f b->(∃l,b=l++bs)/\((b.all (!·.2))=true->(st'=st/\sm'=sm)/\∀z w,QC P t (Sem.store .atomic a v k) z w es bs=.ok x z w f b):=by
    intro u G E;obtain⟨⟨l,rfl⟩,_⟩:=B E;exact⟨⟨l++[(a.block,true)],S1⟩,λ e=>by simp at e⟩
   grind
 |shape r k B=>
  intro st sm es bs x st' sm' f b h;obtain⟨⟨l,rfl⟩,F⟩:=B _ h;exact⟨⟨l++[(r,false)],S1⟩,λ e=>F e⟩
 |frozen a k B=>
  intro st sm es bs x st' sm' f b h;obtain⟨⟨l,rfl⟩,F⟩:=B _ h;exact⟨⟨l++[(a.block,false)],S1⟩,λ e=>F e⟩
 |halt H=>grind[QC]
 |_=>grind[QC]
end Go.TM
namespace Go.TM
variable{T:Type}
theorem Zx{U:Qa T}{l:Loc}(h:U.canW l):U.canR l:=Qy.2 (.inl (Q6.1 h))
def wC{U:Qa T}{w w':World}(h:U.ok w)(e:w'.heap=w.heap):U.ok w':=by
 refine⟨λ b o f=>by rw[e];exact h.imm b o f,λ r z=>?_,h.apart,h.sep⟩;have:=h.held r z;simp_all[Qx.ok]
def VE{U:Qa T}{w:World}(h:U.ok w){l:Loc}(e:U.canR l):¬Loc.new w l:=by
 rcases Qy.1 e with⟨r,F,e⟩|e
 .have hk:=h.held r F;cases r with
  |obj b o=>
   have f:=(Array.getElem?_eq_some_iff.1 hk).1;cases o <;> cases l <;> simp only[Qx.lets,Loc.new]at e ⊢ <;> simp_all
  |cell b i v t n=>
   obtain⟨c,z,_⟩:=hk;have f:=(Array.getElem?_eq_some_iff.1 z).1;cases l <;> simp only[Qx.lets,Loc.new]at e ⊢ <;> simp_all
 .cases l with
  |cell a=>
   obtain⟨c,t,fr,B,_⟩:=e;have f:=(Array.getElem?_eq_some_iff.1 (h.imm _ _ B)).1;grind[Loc.new]
  |obj b=>
   obtain⟨o,E⟩:=e;have f:=(Array.getElem?_eq_some_iff.1 (h.imm _ _ E)).1;grind[Loc.new]
  |_=>exact e.elim
def BG{U U' τ:Qa T}{w w':World}(g:ZU U w w' U')(h:τ.ok w)(F:∀l,U.canW l->¬τ.canR l):τ.ok w':=by
 have cells:∀b c t fr,w.heap[b]?=some (.cells c t fr)->τ.canR (.obj b)->(∀i,i<c.size->τ.canR (.cell ⟨b,i,none⟩))->w'.heap[b]?=some (.cells c t fr):=by
  intro b c t fr f W z;obtain⟨H,I,K,L,M,N⟩:=g.cells b c t fr f;obtain rfl:=N.resolve_right λ h=>F _ h.1 W
  have:H=c:=by
   apply Array.ext L;intro i Q E;have:=M i λ G=>F _ G (z i E);simpa[Q,E]using this
  rw[K,this]
 have obj:∀b o,w.heap[b]?=some o->τ.canR (.obj b)->(∀c t fr,o=.cells c t fr->∀i,i<c.size->τ.canR (.cell ⟨b,i,none⟩))->w'.heap[b]?=some o:=by
  intro b o f B X;by_cases P:∃c t fr,o=.cells c t fr
  .grind
  .exact g.objs b o f (λ c t fr e=>P ⟨c,t,fr,e⟩) λ G=>F _ G B
 refine⟨λ b o f=>?_,λ r B=>?_,h.apart,h.sep⟩
 .exact obj b o (h.imm b o f) (Qy.2 (.inr ⟨o,f⟩)) λ c t fr e i z=>Qy.2 (.inr ⟨c,t,fr,S2,z⟩)
 .have hk:=h.held r B;cases r with
  |obj b o=>
   exact obj b o hk (Qy.2 (.inl ⟨_,B,by cases o <;> rfl⟩)) λ c t fr e i z=>Qy.2 (.inl ⟨_,B,by subst e;exact⟨rfl,z⟩⟩)
  |cell b i v t n=>
   obtain⟨c,f,V,S⟩:=hk;obtain⟨H,I,K,L,M,N⟩:=g.cells b c t (0,0) f;have z:i<c.size:=(Array.getElem?_eq_some_iff.1 S).1;obtain rfl:=N.resolve_right λ h=>F _ (h.2 i z) (Qy.2 (.inl ⟨_,B,rfl,rfl⟩));refine⟨H,K,L.trans V,?_⟩;rw[M i λ G=>F _ G (Qy.2 (.inl ⟨_,B,rfl,rfl⟩))];exact S
def QL(b:Nat)(U:Qa T):Prop:=∀a:Addr,a.block=b->a.off<2->¬U.canR (.cell a)
def HG{τ:Qa T}{w:World}{b:Nat}{t:TypeId}{st sm st' sm':Value}(h:τ.ok w)(H:Sh b t st sm w)(G:QL b τ):τ.ok (two w b t st' sm'):=by
 have ne:∀x o,w.heap[x]?=some o->(∀c t fr,o=.cells c t fr->∀i,i<c.size->τ.canR (.cell ⟨x,i,none⟩))->(two w b t st' sm').heap[x]?=some o:=by
  intro x o z K
  have:x≠b:=by
   intro e;subst e;rw[show w.heap[x]?=_ from H]at z;cases z;exact G ⟨x,0,none⟩ rfl (Nat.zero_lt_two) (K _ _ _ rfl 0 S1)
  simp only[two];rw[Array.getElem?_setIfInBounds_ne (Ne.symm this)];exact z
 refine⟨λ x o z=>ne x o (h.imm x o z) λ c t fr e i f=>Qy.2 (.inr ⟨c,t,fr,S2,f⟩),λ r B=>?_,h.apart,h.sep⟩;have F:=h.held r B;cases r with
 |obj x o=>exact ne x o F λ c t fr e i f=>Qy.2 (.inl ⟨_,B,by subst e;exact⟨rfl,f⟩⟩)
 |cell x i v t n=>
  obtain⟨c,E,L,I⟩:=F;refine⟨c,?_,L,I⟩
  have:x≠b:=by
   intro e;subst e;rw[show w.heap[x]?=_ from H]at E;cases E;have f:i<2:=by simpa using(Array.getElem?_eq_some_iff.1 I).1
   exact G ⟨x,i,none⟩ rfl f (Qy.2 (.inl ⟨_,B,rfl,rfl⟩))
  simp_all[two,Array.getElem?_setIfInBounds_ne,Ne.symm]
def Sh.guar{U U':Qa T}{w w':World}{b:Nat}{t:TypeId}{st sm:Value}(h:Sh b t st sm w)(g:ZU U w w' U')(B:QL b U):Sh b t st sm w':=by
 obtain⟨E,F,z,G,H,I⟩:=g.cells b _ t (0,0) h;obtain rfl:=I.resolve_right λ h=>B ⟨b,0,none⟩ rfl Nat.zero_lt_two (Zx (h.2 0 S1))
 have:E=#[st,sm]:=by
  apply Array.ext G;intro i f e;have:=H i λ K=>B ⟨b,i,none⟩ rfl (by simpa using e) (Zx K);rw[Array.getElem?_eq_getElem f,Array.getElem?_eq_getElem e]at this;exact Option.some.inj this
 rw[this]at z;exact z
structure VI(V:Hd->Qa T)(w:World):Prop where
 ok:∀k,(V k).ok w
 sep:∀k k' l,k≠k'->(V k).canW l->¬(V k').canR l
def Q2{α:Type _}(V:Hd->α)(k:Hd)(U:α):Hd->α:=λ k'=>if k'=k then U else V k'
theorem Ql{α:Type _}(V:Hd->α)(k:Hd)(U:α):Q2 V k U k=U:=by simp[Q2]
theorem Qh{α:Type _}(V:Hd->α){k k':Hd}(U:α)(h:k'≠k):Q2 V k U k'=V k':=by simp[Q2,h]
def VI.priv{V:Hd->Qa T}{w w':World}{k:Hd}{U':Qa T}(h:VI V w)(g:ZU (V k) w w' U')(ok:U'.ok w'):VI (Q2 V k U') w':=by
 refine⟨λ k'=>?_,λ B E l z f b=>?_⟩
 .by_cases e:k'=k
  .simp_all[Ql,ok]
  .rw[Qh _ _ e];exact BG g (h.ok k') λ l G=>h.sep k k' l (Ne.symm e) G
 .by_cases e:B=k
  .subst e;rw[Ql]at f;rw[Qh _ _ (Ne.symm z)]at b;rcases g.cw l f with f|f
   .exact h.sep _ _ l z f b
   .exact VE (h.ok _) b f
  .rw[Qh _ _ e]at f;by_cases F:E=k
   .subst F;rw[Ql]at b;rcases g.cr l b with b|b
    .exact h.sep _ _ l z f b
    .exact VE (h.ok _) (Zx f) b
   .rw[Qh _ _ F]at b;exact h.sep _ _ l z f b
theorem VI.shift{V:Hd->Qa T}{w:World}{k:Hd}{U':Qa T}(h:VI V w)(H:Qw (V k) U'):VI (Q2 V k U') w:=by
 obtain⟨I,F,G⟩:=H.2 w (h.ok k);refine⟨λ k'=>?_,λ b f l z E B=>?_⟩
 .by_cases e:k'=k
  .grind[Ql]
  .rw[Qh _ _ e];exact h.ok k'
 .refine h.sep b f l z ?_ ?_
  .by_cases e:b=k
   .subst e;rw[Ql]at E;exact F l E
   grind[Qh]
  .by_cases e:f=k
   .subst e;rw[Ql]at B;exact G l B
   grind[Qh]
theorem VI.two{V:Hd->Qa T}{w:World}{b:Nat}{t:TypeId}{st sm st' sm':Value}(h:VI V w)(f:Sh b t st sm w)(e:∀k,QL b (V k)):VI V (two w b t st' sm'):=
 ⟨λ k=>HG (h.ok k) f (e k),h.sep⟩
def VI.heap{V:Hd->Qa T}{w w':World}(h:VI V w)(e:w'.heap=w.heap):VI V w':=⟨λ k=>wC (h.ok k) e,h.sep⟩
structure HH(U Up Uc:Qa T):Prop where
 ok:∀w,U.ok w->Up.ok w/\Uc.ok w
 wp:∀l,Up.canW l->U.canW l
 rp:∀l,Up.canR l->U.canR l
 wc:∀l,Uc.canW l->U.canW l
 rc:∀l,Uc.canR l->U.canR l
 pc:∀l,Up.canW l->¬Uc.canR l
 cp:∀l,Uc.canW l->¬Up.canR l
def VI.fork{V:Hd->Qa T}{w:World}{k c:Hd}{Up Uc:Qa T}(h:VI V w)(z:HH (V k) Up Uc)(L:k≠c):VI (Q2 (Q2 V k Up) c Uc) w:=by
 have K:∀k' l,(Q2 (Q2 V k Up) c Uc k').canW l->(k'=k/\Up.canW l/\(V k).canW l)\/(k'=c/\Uc.canW l/\(V k).canW l)\/(k'≠k/\k'≠c/\(V k').canW l):=by
  intro k' l b;by_cases e:k'=c
  .subst e;rw[Ql]at b;exact .inr (.inl ⟨rfl,b,z.wc l b⟩)
  .rw[Qh _ _ e]at b;by_cases F:k'=k
   .subst F;rw[Ql]at b;exact .inl ⟨rfl,b,z.wp l b⟩
   grind[Qh]
 have I:∀k' l,(Q2 (Q2 V k Up) c Uc k').canR l->(k'=k/\Up.canR l/\(V k).canR l)\/(k'=c/\Uc.canR l/\(V k).canR l)\/(k'≠k/\k'≠c/\(V k').canR l):=by
  intro k' l b;by_cases e:k'=c
  .subst e;rw[Ql]at b;exact .inr (.inl ⟨rfl,b,z.rc l b⟩)
  .rw[Qh _ _ e]at b;by_cases F:k'=k
   .subst F;rw[Ql]at b;exact .inl ⟨rfl,b,z.rp l b⟩
   grind[Qh]
 refine⟨λ k'=>?_,λ P Q l f N M=>?_⟩
 .by_cases e:k'=c
  .subst e;rw[Ql];exact(z.ok w (h.ok k)).2
  .rw[Qh _ _ e];by_cases F:k'=k
   .subst F;rw[Ql];exact(z.ok w (h.ok k')).1
   .rw[Qh _ _ F];exact h.ok k'
 .rcases K _ _ N with⟨rfl,E,H⟩|⟨rfl,E,H⟩|⟨U,X,E⟩ <;> rcases I _ _ M with⟨e,B,G⟩|⟨e,B,G⟩|⟨S,W,B⟩
  .exact f e.symm
  .exact z.pc l E B
  .exact h.sep _ _ l f H B
  .exact z.cp l E B
  .exact f e.symm
  .exact h.sep k _ l (Ne.symm S) H B
  .subst e;exact h.sep _ _ l f E G
  .exact h.sep _ k l U E G
  .exact h.sep _ _ l f E B
def Qa.bare(τ:T):Qa T:=⟨λ _=>none,[],τ⟩
theorem Ki(τ:T)(w:World):(Qa.bare τ).ok w:=⟨λ _ _ h=>(by cases h),λ _ h=>(by cases h),Pairwise.nil,λ _ h=>(by cases h)⟩
theorem Wk(τ:T)(l:Loc):¬(Qa.bare τ).canW l:=λ h=>by obtain⟨r,b,_⟩:=Q6.1 h;cases b
theorem Wj(τ:T)(l:Loc):¬(Qa.bare τ).canR l:=λ h=>by
 rcases Qy.1 h with⟨r,b,_⟩|h
 .cases b
 .cases l <;> simp[Qa.bare]at h
def Qa.with(U:Qa T)(M:List Qx):Qa T:={ U with M:=U.M++M }
def Tc{U τ:Qa T}{l:Loc}(h:(U.with τ.M).canW l):U.canW l\/τ.canW l:=by
 obtain⟨r,b,e⟩:=Q6.1 h;rcases mem_append.1 b with b|b
 .exact .inl (Q6.2 ⟨r,b,e⟩)
 .exact .inr (Q6.2 ⟨r,b,e⟩)
def Om{U τ:Qa T}{l:Loc}(h:(U.with τ.M).canR l):U.canR l\/τ.canR l:=by
 rcases Qy.1 h with⟨r,b,e⟩|h
 .rcases mem_append.1 b with b|b
  .exact .inl (Qy.2 (.inl ⟨r,b,e⟩))
  .exact .inr (Qy.2 (.inl ⟨r,b,e⟩))
 .exact .inl (Qy.2 (.inr h))
def OB{U:Qa T}{r:Qx}(h:r∈U.M):(∀b o,r=.obj b o->U.canW (.obj b))/\(∀b i v t n,r=.cell b i v t n->U.canW (.cell ⟨b,i,none⟩))/\(∀b c t fr i,r=.obj b (.cells c t fr)->i<c.size->U.canW (.cell ⟨b,i,none⟩)):=by
 refine⟨λ b o e=>Q6.2 ⟨r,h,?_⟩,λ b i v t n e=>Q6.2 ⟨r,h,?_⟩,λ b c t fr i e f=>Q6.2 ⟨r,h,?_⟩⟩
 .subst e;cases o <;> rfl
 .subst e;exact⟨rfl,rfl⟩
 .subst e;exact⟨rfl,f⟩
def AW{U τ:Qa T}{w:World}(B:U.ok w)(F:τ.ok w)(s1:∀l,U.canW l->¬τ.canR l)(W:∀l,τ.canW l->¬U.canR l):(U.with τ.M).ok w:=by
 refine⟨B.imm,λ r f=>?_,?_,λ r f=>?_⟩
 .rcases mem_append.1 f with f|f
  .exact B.held r f
  .exact F.held r f
 .refine pairwise_append.2 ⟨B.apart,F.apart,λ r f N E=>?_⟩;obtain⟨Y,Z,a3⟩:=OB f;obtain⟨P,Q,X⟩:=OB E;have V:=B.held r f;have G:=F.held N E;cases r with
  |obj b o=>
   cases N with
   |obj K H=>
    grind[Qx.apart,Qx.blk,Zx]
   |cell K i v t n=>
    simp only[Qx.apart,Qx.blk];intro e;subst e;obtain⟨c,h,S,L⟩:=G
    have:o=.cells c t (0,0):=by
     have z:w.heap[b]?=some o:=V;rw[z]at h;exact Option.some.inj h
    grind[Zx]
  |cell b i v t n=>
   cases N with
   |obj K H=>
    simp only[Qx.apart,Qx.blk];intro e;subst e;obtain⟨c,h,S,L⟩:=V
    have:H=.cells c t (0,0):=by
     have z:w.heap[b]?=some H:=G;rw[z]at h;exact Option.some.inj h
    grind[Zx]
   |cell K i' v' t' n'=>
    grind[Qx.apart,absurd,Zx]
 .rcases mem_append.1 f with f|f
  .exact B.sep r f
  .show U.I r.blk=none;cases e:U.I r.blk with
   |none=>rfl
   |some o=>
    exfalso;obtain⟨P,Q,X⟩:=OB f;have G:=F.held r f;cases r with
    |obj b H=>exact W _ (P _ _ rfl) (Qy.2 (.inr ⟨o,e⟩))
    |cell b i v t n=>
     obtain⟨c,h,S,L⟩:=G;have z:w.heap[b]?=some o:=B.imm _ _ e;rw[h]at z;cases z;exact W _ (Q _ _ _ _ _ rfl) (Qy.2 (.inr ⟨c,t,(0,0),e,(Array.getElem?_eq_some_iff.1 L).1⟩))
def VI.join{V:Hd->Qa T}{w:World}{k k':Hd}(h:VI V w)(E:k≠k')(τ:T):VI (Q2 (Q2 V k ((V k).with (V k').M)) k' (Qa.bare τ)) w:=by
 have I:=AW (h.ok k) (h.ok k') (λ l b=>h.sep k k' l E b) (λ l b=>h.sep k' k l (Ne.symm E) b)
 have H:∀x l,(Q2 (Q2 V k ((V k).with (V k').M)) k' (Qa.bare τ) x).canW l->x≠k'/\((V x).canW l\/(x=k/\(V k').canW l)):=by
  intro x l b;by_cases e:x=k'
  .grind[Ql,absurd,Wk]
  .rw[Qh _ _ e]at b;refine⟨e,?_⟩;by_cases B:x=k
   .subst B;rw[Ql]at b;exact(Tc b).imp id λ h=>⟨rfl,h⟩
   grind[Qh]
 have G:∀x l,(Q2 (Q2 V k ((V k).with (V k').M)) k' (Qa.bare τ) x).canR l->x≠k'/\((V x).canR l\/(x=k/\(V k').canR l)):=by
  intro x l b;by_cases e:x=k'
  .grind[Ql,absurd,Wj]
  .rw[Qh _ _ e]at b;refine⟨e,?_⟩;by_cases B:x=k
   .subst B;rw[Ql]at b;exact(Om b).imp id λ h=>⟨rfl,h⟩
   grind[Qh]
 refine⟨λ x=>?_,λ N P l F L K=>?_⟩
 .by_cases e:x=k'
  .grind[Ql,Ki]
  .rw[Qh _ _ e];by_cases B:x=k
   .grind[Ql]
   .rw[Qh _ _ B];exact h.ok x
 .obtain⟨n1,z⟩:=H _ _ L;obtain⟨Q,f⟩:=G _ _ K;rcases z with z|⟨rfl,z⟩ <;> rcases f with f|⟨e,f⟩
  .exact h.sep _ _ l F z f
  .exact h.sep _ k' l n1 z f
  .exact h.sep k' _ l (Ne.symm Q) z f
  .exact F e.symm
def qR(U:Qa T)(τ e:T):HH U (Qa.bare τ) ⟨λ _=>none,U.M,e⟩:=by
 have z:∀l,(Qa.canW ⟨λ _=>none,U.M,e⟩ l)->U.canW l:=λ l b=>Q6.2 (Q6.1 b)
 have f:∀l,(Qa.canR ⟨λ _=>none,U.M,e⟩ l)->U.canR l:=by
  intro l b;rcases Qy.1 b with b|b
  .exact Qy.2 (.inl b)
  .grind
 exact⟨λ w ok=>⟨Ki _ _,⟨λ _ _ h=>(by cases h),ok.held,ok.apart,λ _ _=>rfl⟩⟩,λ l h=>absurd h (Wk _ _),λ l h=>absurd h (Wj _ _),z,f,λ l h=>absurd h (Wk _ _),λ l _ h=>Wj _ _ h⟩
theorem Qx.lets_blk{r:Qx}{l:Loc}(h:r.lets l):(∃a,l=.cell a/\a.block=r.blk)\/l=.obj r.blk:=by
 cases r with
 |obj b o=>
  cases l with
  |cell a=>cases o <;> simp only[Qx.lets]at h;exact .inl ⟨a,rfl,h.1⟩
  |obj e=>right;cases o <;> simp only[Qx.lets]at h <;> rw[h] <;> rfl
  |_=>cases o <;> exact h.elim
 |cell b i v t n=>
  cases l with
  |cell a=>exact .inl ⟨a,rfl,h.1⟩
  |_=>exact h.elim
def Qx.apart_lets{r s:Qx}(h:r.apart s){l:Loc}(e:r.lets l)(B:s.lets l):False:=by
 have key:r.blk≠s.blk->False:=λ E=>by
  grind[Qx.lets_blk]
 cases r with
 |obj b o=>exact key (by cases s <;> exact h)
 |cell b i v t n=>
  cases s with
  |obj f o=>exact key h
  |cell f j I H n'=>
   cases l with
   |cell a=>
    obtain⟨w,F⟩:=e;obtain⟨z,G⟩:=B;rcases h with h|h
    .exact h (w.symm.trans z)
    simp_all
   |_=>exact e.elim
def LC{U:Qa T}{tp tc:T}{w:World}(L:U.ok w){M₁ M₂:List Qx}(h:Perm U.M (M₁++M₂)):HH U ⟨U.I,M₂,tp⟩ ⟨U.I,M₁,tc⟩:=by
 have B:=(h.pairwise_iff (λ{x y}h=>Qx.apart_symm h)).1 L.apart;rw[pairwise_append]at B;have G:∀r∈M₁,r∈U.M:=λ r f=>h.mem_iff.2 (mem_append_left _ f);have H:∀r∈M₂,r∈U.M:=λ r f=>h.mem_iff.2 (mem_append_right _ f)
 have N:∀(r:Qx)(l:Loc),r∈U.M->r.lets l->(match l with|.cell a=>∃c t fr,U.I a.block=some (.cells c t fr)/\a.off<c.size|.obj b=>∃o,U.I b=some o|_=>False)->False:=by
  intro r l f z K;have F:=L.sep r f;rcases Qx.lets_blk z with⟨a,rfl,e⟩|rfl
  .simp_all
  .simp_all
 refine⟨λ w ok=>?_,λ l z=>?_,λ l z=>?_,λ l z=>?_,λ l z=>?_,λ l z f=>?_,λ l z f=>?_⟩
 .have hap':=(h.pairwise_iff (λ{x y}h=>Qx.apart_symm h)).1 ok.apart;rw[pairwise_append]at hap';exact⟨⟨ok.imm,λ r f=>ok.held r (H r f),hap'.2.1,λ r f=>ok.sep r (H r f)⟩,⟨ok.imm,λ r f=>ok.held r (G r f),hap'.1,λ r f=>ok.sep r (G r f)⟩⟩
 .grind[Q6]
 .grind[Qy,id]
 .grind[Q6]
 .grind[Qy,id]
 .obtain⟨r,hr_2,z⟩:=Q6.1 z;rcases Qy.1 f with⟨s,F,E⟩|K
  .exact Qx.apart_lets (B.2.2 s F r hr_2) E z
  grind
 .obtain⟨r,hr_2,z⟩:=Q6.1 z;rcases Qy.1 f with⟨s,F,E⟩|K
  .exact Qx.apart_lets (B.2.2 r hr_2 s F) z E
  grind
def UI{U:Qa T}{tp tc:T}{w:World}(z:U.ok w){M₁ M₂:List Qx}(h:Perm U.M (M₁++M₂)):HH U ⟨U.I,M₂,tp⟩ ⟨λ _=>none,M₁,tc⟩:=by
 have e:=LC (tp:=tp) (tc:=tc) z h;have cw:∀l,(Qa.canW ⟨λ _=>none,M₁,tc⟩ l)->(Qa.canW ⟨U.I,M₁,tc⟩ l):=λ l b=>Q6.2 (Q6.1 b)
 have cr:∀l,(Qa.canR ⟨λ _=>none,M₁,tc⟩ l)->(Qa.canR ⟨U.I,M₁,tc⟩ l):=by
  intro l b;rcases Qy.1 b with b|b
  .exact Qy.2 (.inl b)
  .grind
 exact⟨λ w ok=>⟨(e.ok w ok).1,⟨λ _ _ h=>(by cases h),(e.ok w ok).2.held,(e.ok w ok).2.apart,λ _ _=>rfl⟩⟩,e.wp,e.rp,λ l b=>e.wc l (cw l b),λ l b=>e.rc l (cr l b),λ l b f=>e.pc l b (cr l f),λ l b f=>e.cp l (cw l b) f⟩
end Go.TM
namespace Go.TM
abbrev Spec:=List Qx->Prop
inductive PS where
 |run|seen (u:Nat)|wait|up
inductive Ph where
 |out
 |par (b:Nat) (ds:List Spec) (pend:Bool) (k:PS)
 |wrk (b:Nat) (D:Spec)
 |rel (b:Nat)
 |lst (b:Nat) (i:Nat)
inductive LP where
 |idle|got|own (x:Bool)|rls|unl|unl2|fin|wai|wok
def LP.rels:LP->Bool
 |.rls|.unl|.unl2|.fin=>true
 |_=>false
def LP.isOwn:LP->Bool
 |.own _=>true
 |_=>false
def LP.cls:LP->Nat
 |.idle=>0
 |.fin=>2
 |_=>1
def LP.word:LP->LP->Option (Nat×Nat)
 |.idle,.idle|.idle,.fin|.fin,.idle|.fin,.fin=>some (0,0)
 |.got,.idle|.rls,.idle|.got,.fin|.rls,.fin|.idle,.got|.idle,.rls|.fin,.got|.fin,.rls=>some (1,0)
 |.own x,.idle|.idle,.own x=>if x=false then some (1,0)else none
 |.own x,.fin|.fin,.own x=>if x=true then some (1,0)else none
 |.got,.wai|.rls,.wai|.wai,.got|.wai,.rls=>some (9,0)
 |.own x,.wai|.wai,.own x=>if x=false then some (9,0)else none
 |.unl,.wai|.wai,.unl=>some (8,0)
 |.unl2,.wai|.wai,.unl2=>some (2,0)
 |.fin,.wai|.wai,.fin=>some (2,1)
 |.fin,.wok|.wok,.fin=>some (2,0)
 |_,_=>none
def LP.word_symm(p q:LP):LP.word p q=LP.word q p:=by cases p <;> cases q <;> rfl
structure QY where
 m:Nat
 t:TypeId
 sp:Bool->Bool->Spec
inductive ZS where
 |par (x:QY) (u:Bool->Bool)
 |lok (x:QY) (s:Bool) (me:LP) (lo:Nat)
def ZS.mb:Option ZS->Option Nat
 |some (.par x _)=>some x.m
 |_=>none
structure Tk where
 d:Nat
 ph:Ph
 mu:Option ZS
def ZK{α:Type _}(f:Bool->α)(s:Bool)(x:α):Bool->α:=λ j=>if j=s then x else f j
theorem Wa{α:Type _}(f:Bool->α)(s:Bool)(x:α):ZK f s x s=x:=by simp[ZK]
theorem XG{α:Type _}(f:Bool->α){s j:Bool}(x:α)(h:j≠s):ZK f s x j=f j:=by simp[ZK,h]
theorem KM{α:Type _}(f:Bool->α)(s:Bool)(x:α):ZK f s x (!s)=f (!s):=XG _ _ (by cases s <;> simp)
def L7(b:Bool->LP):Option (Nat×Nat):=LP.word (b false) (b true)
theorem Hq(b:Bool->LP)(s:Bool):L7 b=LP.word (b s) (b (!s)):=by
 cases s
 .rfl
 .exact LP.word_symm _ _
def QY.dep(x:QY)(b:Bool->LP)(M:List Qx):Prop:=x.sp (b false).rels (b true).rels M
def Ph.blk:Ph->Option Nat
 |.out=>none
 |.par b ..|.wrk b _|.rel b|.lst b _=>some b
def JB:Ph->Bool
 |.wrk ..|.rel _=>true
 |_=>false
def Zp{α:Type _}(f:Nat->α)(i:Nat)(x:α):Nat->α:=λ j=>if j=i then x else f j
theorem Qj{α:Type _}(f:Nat->α)(i:Nat)(x:α):Zp f i x i=x:=by simp[Zp]
theorem Qv{α:Type _}(f:Nat->α){i j:Nat}(x:α)(h:j≠i):Zp f i x j=f j:=by simp[Zp,h]
def Dl{α:Type _}(f:Nat->α)(p:α->Bool)(i:Nat)(x:α):∀{W:List Nat},W.Nodup->i∈W->W.countP (λ j=>p (Zp f i x j))+(p (f i)).toNat=W.countP (λ j=>p (f j))+(p x).toNat:=by
 intro W
 induction W with
 |nil=>intro _ h;cases h
 |cons a W B=>
  intro b w;obtain⟨z,b⟩:=nodup_cons.1 b;simp only[countP_cons];by_cases e:a=i
  .grind[Zp,countP_congr,Qv,Qj]
  .have hi':i∈W:=by simpa[Ne.symm e]using w
   grind[Qv]
def B7{α:Type _}(f:Nat->α)(p:α->Bool)(i:Nat)(x:α){W:List Nat}(h:i∉W):W.countP (λ j=>p (Zp f i x j))=W.countP (λ j=>p (f j)):=by
 grind[countP_congr,Qv]
def XD(b:Nat)(tk:Nat->Ph):Prop:=∀i j,tk i≠.lst b j
structure GI(N b:Nat)(ds:List Spec)(pend:Bool)(k:PS)(tk:Nat->Ph)(rel:Nat->Option Nat)(dM:Nat->List Qx)(W:List Nat)(c wt s:Nat):Prop where
 nodup:W.Nodup
 len:W.length=ds.length
 spec:∀(j i:Nat)(D:Spec),W[j]?=some i->ds[j]?=some D->(tk i=.wrk b D/\rel i=none)\/((∀D',tk i≠.wrk b D')/\(∃r,rel i=some r)/\D (dM i))
 inW:∀i,(tk i≠.out\/rel i≠none)->i∈W
 cnt:c=W.countP (λ i=>JB (tk i))+pend.toNat
 ph:∀i,tk i=.out\/(∃D,tk i=.wrk b D)\/tk i=.rel b\/∃j,tk i=.lst b j
 bound:ds.length+pend.toNat<=N
 state:match k with
  |.run=>wt=0/\s=0/\XD b tk
  |.seen u=>c<=u/\wt=0/\s=0/\XD b tk
  |.wait=>pend=false/\((1<=c/\wt=1/\s=0/\XD b tk)\/(c=0/\∃i0 j0,(∀i j,tk i=.lst b j↔i=i0/\j=j0)/\((j0<=1/\wt=1/\s=0)\/(j0=2/\wt=0/\s=0)))\/(c=0/\wt=0/\s=1/\XD b tk))
  |.up=>pend=false/\c=0/\wt=0/\s=0/\XD b tk
section
variable{N b:Nat}{ds:List Spec}{pend:Bool}{k:PS}{tk:Nat->Ph}{rel:Nat->Option Nat}{dM:Nat->List Qx}{W:List Nat}{c wt s:Nat}
def GI.cN(h:GI N b ds pend k tk rel dM W c wt s):c<=ds.length+pend.toNat:=by
 rw[h.cnt];have:=countP_le_length (p:=λ i=>JB (tk i)) (l:=W);have:=h.len;omega
def GI.start(f:∀i,tk i=.out)(w:∀i,rel i=none):GI N b [] false .run tk rel dM [] 0 0 0:=
 ⟨.nil,rfl,λ j i D h=>by simp at h,λ i h=>by simp[f,w]at h,rfl,λ i=>.inl (f i),S1,rfl,rfl,λ i j e=>S2⟩
theorem GI.add(h:GI N b ds false .run tk rel dM W c wt s)(e:ds.length<N):GI N b ds true .run tk rel dM W (c+1) wt s:=
 ⟨h.nodup,h.len,h.spec,h.inW,by have:=h.cnt;simp_all,h.ph,S3,h.state⟩
theorem GI.go{i:Nat}{D:Spec}(h:GI N b ds true .run tk rel dM W c wt s)(E:tk i=.out)(F:rel i=none)(w:i∉W) :
  GI N b (D::ds) false .run (Zp tk i (.wrk b D)) rel dM (i::W) c wt s:=by
 refine⟨nodup_cons.2 ⟨w,h.nodup⟩,by simp[h.len],?_,?_,?_,?_,?_,?_⟩
 .intro j f D' h1 h2;cases j with
  |zero=>
   grind[Qj]
  |succ j=>
   simp at h1 h2;have B:f∈W:=mem_of_getElem? h1;have z:f≠i:=λ e=>w (e▸B);rw[Qv _ _ z];exact h.spec j f D' h1 h2
 .intro f h1;by_cases e:f=i
  .subst e;simp
  .rw[Qv _ _ e]at h1;exact mem_cons_of_mem _ (h.inW f h1)
 .rw[countP_cons,Qj,B7 tk JB i _ w];have:=h.cnt;grind[JB]
 .intro f;by_cases e:f=i
  .grind[Qj]
  .rw[Qv _ _ e];exact h.ph f
 .have:=h.bound;simp_all
 .obtain⟨h1,h2,h3⟩:=h.state;refine⟨h1,h2,λ f j=>?_⟩;by_cases e:f=i
  .grind[Qj]
  .rw[Qv _ _ e];exact h3 f j
def Ha(ds:List Spec)(u:Nat)(k:PS):Prop:=(k=.run/\u=ds.length)\/k=.seen u
def GI.seeU{u:Nat}(h:GI N b ds false k tk rel dM W c wt s)(e:Ha ds u k):c<=u/\wt=0/\s=0/\XD b tk:=by
 have f:=h.state;rcases e with⟨rfl,rfl⟩|rfl
 .have:=h.cN;simp_all
 .exact f
def GI.toUp{u:Nat}(h:GI N b ds false k tk rel dM W 0 wt s)(e:Ha ds u k):GI N b ds false .up tk rel dM W 0 wt s:=
 ⟨h.nodup,h.len,h.spec,h.inW,h.cnt,h.ph,h.bound,rfl,rfl,(h.seeU e).2⟩
def GI.toSeen{u:Nat}(h:GI N b ds false k tk rel dM W c wt s)(e:Ha ds u k):GI N b ds false (.seen c) tk rel dM W c wt s:=
 ⟨h.nodup,h.len,h.spec,h.inW,h.cnt,h.ph,h.bound,Nat.le_refl _,(h.seeU e).2⟩
def GI.toWait{u:Nat}(h:GI N b ds false k tk rel dM W c wt s)(f:Ha ds u k)(e:1<=c):GI N b ds false .wait tk rel dM W c 1 s:=
 ⟨h.nodup,h.len,h.spec,h.inW,h.cnt,h.ph,h.bound,rfl,.inl ⟨e,rfl,(h.seeU f).2.2⟩⟩
def GI.sema(h:GI N b ds pend .wait tk rel dM W c wt 1):GI N b ds false .up tk rel dM W 0 0 0/\c=0/\wt=0/\pend=false:=by
 obtain⟨B,E⟩:=h.state;rcases E with⟨_,_,e,_⟩|⟨_,F,G,_,⟨_,_,e⟩|⟨_,_,e⟩⟩|⟨f,w,_,z⟩
 .cases e
 .cases e
 .cases e
 .subst f;subst w;subst B;exact⟨⟨h.nodup,h.len,h.spec,h.inW,h.cnt,h.ph,h.bound,rfl,rfl,rfl,rfl,z⟩,rfl,rfl,rfl⟩
def GI.up(h:GI N b ds pend .up tk rel dM W c wt s):pend=false/\c=0/\wt=0/\s=0/\(∀i,tk i=.out)/\∀i,i∈W->∃r,rel i=some r:=by
 obtain⟨z,w,H,I,K⟩:=h.state
 have F:∀i∈W,JB (tk i)=false:=by
  have:=h.cnt;rw[w,z]at this;simp at this;have G:W.countP (λ i=>JB (tk i))=0:=O1
  intro i B;have:=countP_eq_zero.1 G i B;simpa using this
 have f:∀i,tk i=.out:=by
  intro i;rcases h.ph i with e|⟨D,e⟩|e|⟨j,e⟩
  .exact e
  .have:=F i (h.inW i (.inl (by rw[e];simp)));rw[e]at this;cases this
  .have:=F i (h.inW i (.inl (by rw[e];simp)));rw[e]at this;cases this
  .exact absurd e (K i j)
 refine⟨z,w,H,I,f,λ i B=>?_⟩;obtain⟨j,L,e⟩:=mem_iff_getElem.1 B;have E:j<ds.length:=by rw[<- h.len];exact L
 rcases h.spec j i ds[j] S2 (getElem?_eq_getElem E)with⟨z,_⟩|⟨_,w,_⟩
 .simp_all
 .exact w
def JO:List Spec->List (List Qx)->Prop
 |[],[]=>True
 |D::ds,M::b=>D M/\JO ds b
 |_,_=>False
def UJ:∀{ds:List Spec}{W:List Nat},W.length=ds.length->(∀(j i:Nat)(D:Spec),W[j]?=some i->ds[j]?=some D->D (dM i))->JO ds (W.map dM)
 |[],[],_,_=>trivial
 |[],_::_,h,_=>by simp at h
 |_::_,[],h,_=>by simp at h
 |D::ds,i::W,h,b=>⟨b 0 i D rfl rfl,UJ (by simpa using h) λ j z e f w=>b (j+1) z e (by simpa using f) (by simpa using w)⟩
def GI.deps(h:GI N b ds pend .up tk rel dM W c wt s):JO ds (W.map dM):=by
 refine UJ h.len λ j i D f w=>?_;rcases h.spec j i D f w with⟨e,_⟩|⟨_,_,e⟩
 .rw[h.up.2.2.2.2.1]at e;cases e
 .exact e
def GI.rel_{i r:Nat}{D:Spec}{M:List Qx}(h:GI N b ds pend k tk rel dM W c wt s)(G:tk i=.wrk b D)(S:D M) :
  GI N b ds pend k (Zp tk i (.rel b)) (Zp rel i (some r)) (Zp dM i M) W c wt s/\rel i=none:=by
 have K:i∈W:=h.inW i (.inl (by rw[G];simp))
 have H:rel i=none:=by
  obtain⟨j,P,e⟩:=mem_iff_getElem.1 K;have L:j<ds.length:=by rw[<- h.len];exact P
  rcases h.spec j i ds[j] (by rw[getElem?_eq_getElem P,e]) (getElem?_eq_getElem L)with⟨_,w⟩|⟨w,_⟩
  .exact w
  .exact absurd G (w D)
 have F:∀f j,Zp tk i (.rel b) f=.lst b j↔tk f=.lst b j:=by
  intro f j;by_cases e:f=i
  .subst e;rw[Qj,G];simp
  .rw[Qv _ _ e]
 have B:XD b tk->XD b (Zp tk i (.rel b)):=λ T f j e=>T f j ((F f j).1 e);refine⟨⟨h.nodup,h.len,?_,?_,?_,?_,h.bound,?_⟩,H⟩
 .intro j f D' z w;by_cases e:f=i
  .subst e;refine .inr ⟨λ Q h=>(by rw[Qj]at h;cases h),⟨r,Qj ..⟩,?_⟩;rw[Qj];rcases h.spec j f D' z w with⟨E,_⟩|⟨E,_⟩
   .rw[G]at E;cases E;exact S
   .exact absurd G (E D)
  .rw[Qv _ _ e,Qv _ _ e,Qv _ _ e];exact h.spec j f D' z w
 .intro f z;by_cases e:f=i
  .subst e;exact K
  .rw[Qv _ _ e,Qv _ _ e]at z;exact h.inW f z
 .have:=Dl tk JB i (.rel b) h.nodup K;rw[G]at this;have w:=h.cnt;simp[JB]at this w ⊢;omega
 .intro f;by_cases e:f=i
  .subst e;rw[Qj];exact .inr (.inr (.inl rfl))
  .rw[Qv _ _ e];exact h.ph f
 .have:=h.state;cases k with
  |run=>exact⟨this.1,this.2.1,B this.2.2⟩
  |seen u=>exact⟨this.1,this.2.1,this.2.2.1,B this.2.2.2⟩
  |wait=>
   refine⟨this.1,?_⟩;rcases this.2 with⟨z,w,E,I⟩|⟨z,U,V,w,E⟩|⟨z,w,E,I⟩
   .exact .inl ⟨z,w,E,B I⟩
   .exact .inr (.inl ⟨z,U,V,λ f j=>(F f j).trans (w f j),E⟩)
   .exact .inr (.inr ⟨z,w,E,B I⟩)
  |up=>exact⟨this.1,this.2.1,this.2.2.1,this.2.2.2.1,B this.2.2.2.2⟩
def GI.move{i:Nat}{p:Ph}(h:GI N b ds pend k tk rel dM W c wt s)(E:tk i=.rel b\/∃j,tk i=.lst b j)(F:p=.out\/∃j,p=.lst b j) :
  i∈W/\(∀(j f:Nat)(D:Spec),W[j]?=some f->ds[j]?=some D->(Zp tk i p f=.wrk b D/\rel f=none)\/((∀B,Zp tk i p f≠.wrk b B)/\(∃r,rel f=some r)/\D (dM f))) /\
  (∀f,(Zp tk i p f≠.out\/rel f≠none)->f∈W)/\(W.countP (λ j=>JB (Zp tk i p j))+(JB (tk i)).toNat=W.countP (λ j=>JB (tk j))) /\
  (∀f,Zp tk i p f=.out\/(∃D,Zp tk i p f=.wrk b D)\/Zp tk i p f=.rel b\/∃j,Zp tk i p f=.lst b j):=by
 have z:i∈W:=h.inW i (.inl (by grind));have G:∀D,p≠.wrk b D:=by rintro D rfl;rcases F with e|⟨j,e⟩ <;> cases e
 refine⟨z,?_,?_,?_,?_⟩
 .intro j f D h1 h2;by_cases e:f=i
  .subst e;rcases h.spec j f D h1 h2 with⟨w,_⟩|⟨_,w⟩
   .rcases E with e|⟨H,e⟩ <;> rw[e]at w <;> cases w
   grind[Qj]
  .rw[Qv _ _ e];exact h.spec j f D h1 h2
 .intro f h1;by_cases e:f=i
  .subst e;exact z
  .rw[Qv _ _ e]at h1;exact h.inW f h1
 .have:=Dl tk JB i p h.nodup z;grind[JB]
 .intro f;by_cases e:f=i
  .grind[Qj]
  .rw[Qv _ _ e];exact h.ph f
def GI.relC{i:Nat}(h:GI N b ds pend k tk rel dM W c wt s)(e:tk i=.rel b):1<=c/\c<=N/\wt<=1/\s=0:=by
 have f:i∈W:=h.inW i (.inl (by rw[e];simp))
 have w:1<=c:=by
  rw[h.cnt];have:0<W.countP (λ i=>JB (tk i)):=countP_pos_iff.2 ⟨i,f,by rw[e];rfl⟩;omega
 refine⟨w,Nat.le_trans h.cN h.bound,?_⟩;have:=h.state;grind
def GI.leave{i:Nat}(h:GI N b ds pend k tk rel dM W c wt s)(f:tk i=.rel b)(z:¬(c=1/\wt=1)) :
  GI N b ds pend k (Zp tk i .out) rel dM W (c-1) wt s:=by
 obtain⟨K,-,-,L⟩:=h.relC f;obtain⟨I,E,F,w,G⟩:=h.move (p:=.out) (.inl f) (.inl rfl)
 have H:XD b tk->XD b (Zp tk i .out):=by
  intro z B j e;by_cases e':B=i
  .grind[Qj]
  .rw[Qv _ _ e']at e;exact z B j e
 refine⟨h.nodup,h.len,E,F,?_,G,h.bound,?_⟩
 .have:=h.cnt;rw[f]at w;simp only[show JB (Ph.rel b)=true from rfl,Bool.toNat_true]at w;omega
 .have:=h.state;grind
def GI.last{i:Nat}(h:GI N b ds pend k tk rel dM W 1 1 s)(z:tk i=.rel b) :
  k=.wait/\GI N b ds pend .wait (Zp tk i (.lst b 0)) rel dM W 0 1 s:=by
 obtain⟨P,-,-,Q⟩:=h.relC z;obtain⟨M,G,H,B,I⟩:=h.move (p:=.lst b 0) (.inl z) (.inr ⟨0,rfl⟩);have f:=h.state;have E:=h.cnt;cases k with
 |run=>grind
 |seen u=>grind
 |up=>grind
 |wait=>
  refine⟨rfl,h.nodup,h.len,G,H,?_,I,h.bound,f.1,?_⟩
  .rw[z]at B;simp only[show JB (Ph.rel b)=true from rfl,Bool.toNat_true]at B;omega
  .rcases f.2 with⟨_,w,K,L⟩|⟨w,_⟩|⟨w,_⟩
   .refine .inr (.inl ⟨rfl,i,0,λ F j=>?_,.inl ⟨O1,rfl,K⟩⟩);by_cases e:F=i
    .grind[Qj]
    .rw[Qv _ _ e];exact⟨λ e'=>absurd e' (L F j),λ e'=>absurd e'.1 e⟩
   .cases w
   .cases w
def GI.lstAt{i j:Nat}(h:GI N b ds pend k tk rel dM W c wt s)(f:tk i=.lst b j) :
  k=.wait/\c=0/\s=0/\((j<=1/\wt=1)\/(j=2/\wt=0))/\∀z B,tk z=.lst b B↔z=i/\B=j:=by
 have e:=h.state;cases k with
 |run=>exact absurd f (e.2.2 i j)
 |seen u=>exact absurd f (e.2.2.2 i j)
 |up=>exact absurd f (e.2.2.2.2 i j)
 |wait=>
  rcases e.2 with⟨_,_,_,w⟩|⟨E,H,I,F,G⟩|⟨_,_,_,w⟩
  .exact absurd f (w i j)
  .grind
  .exact absurd f (w i j)
def GI.next{i j wt':Nat}(h:GI N b ds pend k tk rel dM W c wt s)(f:tk i=.lst b j)(M:(j=0/\wt'=1)\/(j=1/\wt'=0)) :
  GI N b ds pend k (Zp tk i (.lst b (j+1))) rel dM W c wt' s:=by
 obtain⟨rfl,z,I,K,B⟩:=h.lstAt f;obtain⟨L,F,G,w,H⟩:=h.move (p:=.lst b (j+1)) (.inr ⟨j,f⟩) (.inr ⟨j+1,rfl⟩);refine⟨h.nodup,h.len,F,G,?_,H,h.bound,h.state.1,.inr (.inl ⟨z,i,j+1,λ E P=>?_,?_⟩)⟩
 .have:=h.cnt;rw[f]at w;simp only[show ∀j,JB (Ph.lst b j)=false from λ _=>rfl,Bool.toNat_false]at w;omega
 .by_cases e:E=i
  .subst e;rw[Qj];constructor
   .intro e;cases e;exact⟨rfl,rfl⟩
   .rintro⟨_,rfl⟩;rfl
  .rw[Qv _ _ e,B];exact⟨λ e'=>absurd e'.1 e,λ e'=>absurd e'.1 e⟩
 simp_all
def GI.wake{i:Nat}(h:GI N b ds pend k tk rel dM W c wt s)(f:tk i=.lst b 2):GI N b ds pend k (Zp tk i .out) rel dM W c wt 1:=by
 obtain⟨rfl,B,H,I,K⟩:=h.lstAt f;obtain⟨L,E,F,z,G⟩:=h.move (p:=.out) (.inr ⟨2,f⟩) (.inl rfl);have w:wt=0:=O1
 refine⟨h.nodup,h.len,E,F,?_,G,h.bound,h.state.1,.inr (.inr ⟨B,w,rfl,λ M P e=>?_⟩)⟩
 .have:=h.cnt;rw[f]at z;simp only[show ∀j,JB (Ph.lst b j)=false from λ _=>rfl,Bool.toNat_false]at z;omega
 grind[Qj,Qv]
def GI.someone(h:GI N b ds pend .wait tk rel dM W c wt 0):∃i,tk i≠.out:=by
 obtain⟨E,F⟩:=h.state;rcases F with⟨H,_,_,_⟩|⟨_,w,G,z,_⟩|⟨_,_,B,_⟩
 .have:=h.cnt;rw[E]at this;simp at this;have:0<W.countP (λ i=>JB (tk i)):=O1
  obtain⟨i,_,f⟩:=countP_pos_iff.1 this;exact⟨i,λ e=>by rw[e]at f;cases f⟩
 .exact⟨w,λ e=>by have:=(z w G).2 ⟨rfl,rfl⟩;simp_all⟩
 .cases B
end
inductive SE where
 |go (g:Gr) (st sm:Value) (es:Array Event) (bs:List (Nat×Bool))
 |spawn (g child:Gr) (es:Array Event)
 |blocked (g:Gr) (st sm:Value) (bs:List (Nat×Bool))
 |stuck
def Wn(fr:Frame)(cs:List Frame):Gr:={ frame:=fr,callers:=cs,status:=.running,dying:=none }
def SE.still(st sm:Value)(fr:Frame)(cs:List Frame):SE:=.go (Wn fr cs) st sm #[] []
def E5(fr:Frame):CallKind:=match fr.todo with|.call _ true _ _::_=>.wrapped|_=>.normal
def Gp(P:Program)(d:Deferred):Gr:=Wn { (default:Frame)with fn:=P.funcs.size,defers:=[d],mode:=.panicking [goexitEntry] } []
def Vq:Target->Bool
 |.fn _ _=>true
 |_=>false
def GW(P:Program)(fr:Frame)(cs:List Frame)(d:Deferred)(es:Array Event)(bs:List (Nat×Bool)):SE:=
 bif Vq d.target&&bs.isEmpty then .spawn (Wn (fr.finish undef) cs) (Gp P d) (seen P fr.fn es)else .stuck
def XB(P:Program)(fr:Frame)(cs:List Frame):QE Next->SE
 |.ok n st sm es bs=>match fr.kind with
  |.early=>.stuck
  |_=>match n with
   |.value v=>.go (Wn (fr.finish v) cs) st sm (seen P fr.fn es) bs
   |.skip=>.go (Wn (fr.finish undef) cs) st sm (seen P fr.fn es) bs
   |.enter f args=>.go (Wn (Frame.enter P f args (E5 fr)) (fr::cs)) st sm (seen P fr.fn es) bs
   |.defer d=>.go (Wn ({ fr with defers:=d::fr.defers }.finish undef) cs) st sm (seen P fr.fn es) bs
   |.spawn d=>GW P fr cs d es bs
   |_=>.stuck
 |.blocked st sm bs=>match fr.kind with
  |.early=>.stuck
  |_=>.blocked { frame:=fr,callers:=cs,status:=.blocked,dying:=none } st sm bs
 |.stuck=>.stuck
def Ps(P:Program)(t:TypeId)(fr:Frame)(cs:List Frame)(st sm:Value):SE:=
 let to (todo:List Item):SE:=.still st sm { fr with todo } cs
 let leave (jump:Option Code):SE:=match fr.roundOf,jump with
  |none,none=>.still st sm { fr with mode:=.returning } cs
  |none,some .ret=>.still st sm { fr with mode:=.returning } cs
  |_,_=>.stuck
 match fr.todo with
 |[]=>leave none
 |.code .ret::_=>leave (some .ret)
 |.code .skip::k|.code (.label _)::k|.inBlock _::k|.inScope _::k=>to k
 |.code (.seq a b)::k=>to (.code a::.code b::k)
 |.code (.cond c f e)::k=>match fr.eval c with
  |.bool b=>to (.code (if b then f else e)::k)
  |_=>.stuck
 |.code (.block id body)::k=>to (.code body::.inBlock id::k)
 |.code (.loop body)::k|.inLoop body::k=>to (.code body::.inLoop body::k)
 |.code (.scope body)::k=>to (.code body::.inScope body::k)
 |.code (.exit id)::k=>match exitTo id k with
  |some k'=>to k'
  |none=>.stuck
 |.code (.region _ ops false)::k=>to (.inRegion ops (range ops.size)::k)
 |.inRegion _ []::k=>to k
 |.inRegion ops (i::_)::_=>match ops[i]? with
  |some o=>(match Region.wanted o (yielded ops fr.tmps)with
   |true=>(match fr.roundOf with
    |none=>XB P fr cs (QC P t (execOp fr.eval o) st sm #[] [])
    |some _=>.stuck)
   |false=>.still st sm (fr.finish undef) cs)
  |none=>.stuck
 |_=>.stuck
def PA(m:Bool)(fr:Frame)(cs:List Frame)(v:Value)(st sm:Value)(es:Array Event)(bs:List (Nat×Bool)):SE:=
 match cs with
 |c::rest=>(match fr.kind with
  |.normal=>.go (Wn (c.finish v) rest) st sm es bs
  |.deferred=>.go (Wn (match c.mode with
    |.panicking ({ recovered:=true,.. }::older)=>
     match older.dropWhile (!·.goexit)with
     |[]=>{ c with mode:=.returning }
     |rest=>{ c with mode:=.panicking rest }
    |_=>c) rest) st sm es bs
  |_=>.stuck)
 |[]=>(match m,fr.kind with
  |false,.normal=>.go { frame:=fr,callers:=[],status:=.finished,dying:=none } st sm es bs
  |_,_=>.stuck)
def GC(P:Program)(fr:Frame)(ds:List Deferred)(cs:List Frame):QE Next->SE
 |.ok n st sm es bs=>(match n with
  |.enter f args=>.go (Wn (Frame.enter P f args .deferred) ({ fr with defers:=ds }::cs)) st sm (seen P fr.fn es) bs
  |.value _=>.go (Wn { fr with defers:=ds } cs) st sm (seen P fr.fn es) bs
  |_=>.stuck)
 |_=>.stuck
def GK(P:Program)(m:Bool)(fr:Frame)(cs:List Frame):QE Value->SE
 |.ok v st sm es bs=>PA m fr cs v st sm (seen P fr.fn es) bs
 |_=>.stuck
def PG(P:Program)(t:TypeId)(m:Bool)(fr:Frame)(cs:List Frame)(st sm:Value):SE:=
 match fr.defers with
 |d::ds=>(match d.target with
  |.fn _ _=>GC P fr ds cs (QC P t (invoke d.target d.args) st sm #[] [])
  |_=>.stuck)
 |[]=>(match fr.mode with
  |.returning=>(match P.funcs[fr.fn]? with
   |some fn=>GK P m fr cs (QC P t (results fn fr.tmps) st sm #[] [])
   |none=>.stuck)
  |.panicking chain=>(match cs,fr.todo,P.funcs[fr.fn]?,chain with
   |[],[],none,e::_=>(match e.goexit with
    |true=>.go { frame:=fr,callers:=[],status:=.finished,dying:=none } st sm #[] []
    |false=>.stuck)
   |_,_,_,_=>.stuck)
  |.run=>.stuck)
def Qc(P:Program)(t:TypeId)(m:Bool)(g:Gr)(st sm:Value):SE:=
 match g.status with
 |.running=>(match g.dying with
  |some _=>.stuck
  |none=>(match g.frame.mode with
   |.run=>Ps P t g.frame g.callers st sm
   |_=>PG P t m g.frame g.callers st sm))
 |_=>.stuck
def Hy(s:GStep)(W:Value->Value->World)(ok:List (Nat×Bool)->Prop)(w:World):SE->Prop
 |.go g' st' sm' es bs=>ok bs->s=.go g' (W st' sm') es
 |.spawn g' c es=>s=.spawn g' c w es
 |.blocked g' st' sm' bs=>ok bs->s=.go g' (W st' sm') #[]
 |.stuck=>True
set_option linter.unusedVariables false
variable{P:Program}{m:Bool}{t:TypeId}{w:World}{st sm:Value}{W:Value->Value->World}{ok:List (Nat×Bool)->Prop}
def Uf(P:Program)(f:FuncId):seen P f #[]=#[]:=by simp[seen]
def BQ{fr:Frame}{cs:List Frame}{s:Sem Next}(G:WZ P t st sm w W ok) :
  Hy (stepG.apply P true fr cs none s w) W ok w (XB P fr cs (QC P t s st sm #[] [])):=by
 have h:=G.ran s;have e:=@UZ P t _ s st sm #[] [];generalize QC P t s st sm #[] []=r at h e;cases r with
 |ok n st' sm' es bs=>
  simp only[XB];split
  .trivial
  .rename_i hk
   have b:(fr.kind==CallKind.early)=false:=by
    cases F:fr.kind <;> first|rfl|exact absurd F (by simpa using hk)
   cases n with
   |value v=>
    intro z;have B:=h z;simp only[stepG.apply,if_true,B,b,Bool.false_eq_true,if_false,GStep.after,Wn,Array.append_empty]
   |skip=>
    intro z;have B:=h z;simp only[stepG.apply,if_true,B,b,Bool.false_eq_true,if_false,GStep.after,Wn,Array.append_empty]
   |enter f args=>
    intro z;have B:=h z;simp only[stepG.apply,if_true,B,b,Bool.false_eq_true,if_false,GStep.after,Wn,Array.append_empty,E5];rfl
   |defer d=>
    intro z;have B:=h z;simp only[stepG.apply,if_true,B,b,Bool.false_eq_true,if_false,GStep.after,Wn,Array.append_empty]
   |spawn d=>
    show Hy _ W ok w (GW P fr cs d es bs);unfold GW;cases E:Vq d.target&&bs.isEmpty with
    |true=>
     simp only[Bool.and_eq_true,isEmpty_iff]at E;obtain⟨E,rfl⟩:=E;obtain⟨⟨rfl,rfl⟩,-⟩:=(e rfl).2 rfl;have H:=h G.nil;rw[G.same]at H;cases I:d.target <;> rw[I]at E <;> first|cases E|skip
     simp only[cond_true,Hy,stepG.apply,if_true,H,b,Bool.false_eq_true,if_false,I,Bool.and_false,Bool.false_and,GStep.after,Wn,Array.append_empty,Gp]
    |false=>trivial
   |_=>trivial
 |blocked st' sm' bs=>
  simp only[XB];split
  .trivial
  .rename_i hk
   have b:(fr.kind==CallKind.early)=false:=by
    cases F:fr.kind <;> first|rfl|exact absurd F (by simpa using hk)
   intro z;obtain⟨K,B⟩:=h z;simp_all[stepG.apply,if_true,Bool.false_eq_true,if_false,Uf,GStep.after,Array.append_empty]
 |stuck=>trivial
theorem Zv{fr:Frame}{cs:List Frame}{s:GStep}(b:WZ P t st sm w W ok)(h:s=.go (Wn fr cs) w):Hy s W ok w (.still st sm fr cs):=by
 intro _;rw[b.same];exact h
theorem jC{fr:Frame}{cs:List Frame}{status:GoStatus}{offers:Option (Array CommCase×CommShape)}(h:fr.mode=.run)(z:WZ P t st sm w W ok) :
  Hy (stepG P m { frame:=fr,callers:=cs,status,dying:=none,offers } w) W ok w (Ps P t fr cs st sm):=by
 have e:stepG P m { frame:=fr,callers:=cs,status,dying:=none,offers } w=stepG.exec P m true fr cs none w:=by
  simp only[stepG,h]
 rw[e];unfold Ps;simp only;split
 .rename_i ht;cases b:fr.roundOf with
  |none=>grind[Zv,stepG.exec,Wn]
  |some l=>trivial
 .rename_i k ht;cases b:fr.roundOf with
  |none=>grind[Zv,stepG.exec,Wn]
  |some l=>trivial
 .grind[Zv,stepG.exec,Wn]
 .grind[Zv,stepG.exec,Wn]
 .grind[Zv,stepG.exec,Wn]
 .grind[Zv,stepG.exec,Wn]
 .grind[Zv,stepG.exec,Wn]
 .rename_i c x y k ht;split
  .grind[Zv,stepG.exec,Wn]
  .trivial
 .grind[id,Zv,stepG.exec,Wn]
 .grind[Zv,stepG.exec,Wn]
 .grind[Zv,stepG.exec,Wn]
 .grind[Zv,stepG.exec,Wn]
 .rename_i id k ht;split
  .grind[Zv,stepG.exec,Wn]
  .trivial
 .grind[id,Zv,stepG.exec,Wn]
 .grind[Zv,stepG.exec,Wn]
 .rename_i ops i rest k ht;split
  .rename_i o ho;split
   .rename_i hw;split
    .rename_i b
     have f:stepG.exec P m true fr cs none w=stepG.apply P true fr cs none (execOp fr.eval o) w:=by
      simp[stepG.exec,ht,ho,hw,stepG.oper,Frame.oper?,b]
     rw[f];exact BQ z
    .trivial
   grind[Zv,stepG.exec,Wn]
  .trivial
 .trivial
def FW{fr:Frame}{cs:List Frame}{v:Value}{es:Array Event}{bs:List (Nat×Bool)}{st' sm':Value} :
  Hy (GStep.after es (doReturn P m fr cs none v (W st' sm'))) W ok w (PA m fr cs v st' sm' es bs):=by
 unfold PA;split
 .rename_i c rest;split
  .rename_i hk;intro _;simp only[doReturn,hk,GStep.after,Wn,Array.append_empty]
  .rename_i hk;intro _;simp only[doReturn,hk,GStep.after,Wn,Array.append_empty];rfl
  .trivial
 .split
  .rename_i hk;intro _;simp_all[doReturn,GStep.after,Array.append_empty,Bool.not_false,if_true]
  .trivial
theorem A_{fr:Frame}{cs:List Frame}{status:GoStatus}{offers:Option (Array CommCase×CommShape)}(H:fr.mode≠.run)(E:WZ P t st sm w W ok) :
  Hy (stepG P m { frame:=fr,callers:=cs,status,dying:=none,offers } w) W ok w (PG P t m fr cs st sm):=by
 have e:stepG P m { frame:=fr,callers:=cs,status,dying:=none,offers } w=unwind P m fr cs none w:=by
  cases F:fr.mode with
  |run=>exact absurd F H
  |_=>simp only[stepG,F]
 rw[e];unfold PG;split
 .rename_i d ds hd;split
  .rename_i fn capt ht;have h:=E.ran (invoke d.target d.args)
   have B:unwind P m fr cs none w=callDeferred P { fr with defers:=ds } cs none d w:=by
    obtain⟨I,ag⟩:=d;cases ht;simp only[unwind,hd]
   rw[B];generalize QC P t (invoke d.target d.args) st sm #[] []=r at h;cases r with
   |ok n st' sm' es bs=>
    simp only[GC];cases n with
    |enter f args=>
     intro z;have b:=h z;rw[ht]at b;simp only[callDeferred,ht,Bool.false_and,Bool.false_eq_true,if_false,b,GStep.after,Wn,Array.append_empty]
    |value v=>
     intro z;have b:=h z;rw[ht]at b;simp only[callDeferred,ht,Bool.false_and,Bool.false_eq_true,if_false,b,GStep.after,Wn,Array.append_empty]
    |_=>trivial
   |_=>trivial
  .trivial
 .rename_i hd;split
  .rename_i hmo;split
   .rename_i fn hf;have h:=E.ran (results fn fr.tmps);generalize QC P t (results fn fr.tmps) st sm #[] []=r at h;cases r with
    |ok v st' sm' es bs=>
     simp only[GK];by_cases z:ok bs
     .have b:=h z
      have B:unwind P m fr cs none w=GStep.after (seen P fr.fn es) (doReturn P m fr cs none v (W st' sm')):=by
       simp only[unwind,hd,hmo,hf,b]
      rw[B];exact FW
     .have:=FW (P:=P) (m:=m) (W:=W) (ok:=ok) (w:=w) (fr:=fr) (cs:=cs) (v:=v) (es:=seen P fr.fn es) (bs:=bs) (st':=st') (sm':=sm');unfold PA at this ⊢;split <;> split <;> first|exact(λ G=>absurd G z)|trivial
    |_=>trivial
   .trivial
  .rename_i chain hmo;split
   .rename_i e' tl ht hf;split
    .rename_i hg;intro _;rw[E.same];simp[unwind,hd,hmo,Frame.catches,ht,hf,hg]
    .trivial
   .trivial
  .trivial
def KT{g:Gr}(b:WZ P t st sm w W ok):Hy (stepG P m g w) W ok w (Qc P t m g st sm):=by
 obtain⟨fr,cs,status,dying,offers⟩:=g;unfold Qc;cases status <;> try trivial
 cases dying with
 |some d=>trivial
 |none=>
  grind[jC,A_]
end Go.TM
namespace Go.TM
variable{P:Program}{m:Bool}{t:TypeId}
def OR{g g':Gr}{st sm st' sm':Value}{es:Array Event}(h:Qc P t m g st sm=.go g' st' sm' es [])(w:World):stepG P m g w=.go g' w es:=by
 have:=KT (g:=g) (m:=m) (WZ.calm (P:=P) (t:=t) (st:=st) (sm:=sm) (w:=w));rw[h]at this;exact this rfl
def HD{g g':Gr}{st sm st' sm':Value}{es:Array Event}{bs:List (Nat×Bool)}{b:Nat}{w:World}(h:Qc P t m g st sm=.go g' st' sm' es bs)(f:Sh b t st sm w)
  (e:∀y∈bs,y.1=b):stepG P m g w=.go g' (two w b t st' sm') es:=by
 have:=KT (g:=g) (m:=m) (WZ.sh (P:=P) f);rw[h]at this;exact this e
def E4{g g':Gr}{st sm st' sm':Value}{bs:List (Nat×Bool)}{b:Nat}{w:World}(h:Qc P t m g st sm=.blocked g' st' sm' bs)(f:Sh b t st sm w)
  (e:∀y∈bs,y.1=b):stepG P m g w=.go g' (two w b t st' sm') #[]:=by
 have:=KT (g:=g) (m:=m) (WZ.sh (P:=P) f);rw[h]at this;exact this e
def R7{g g' c:Gr}{st sm:Value}{es:Array Event}(h:Qc P t m g st sm=.spawn g' c es)(w:World):stepG P m g w=.spawn g' c w es:=by
 have:=KT (g:=g) (m:=m) (WZ.calm (P:=P) (t:=t) (st:=st) (sm:=sm) (w:=w));rw[h]at this;exact this
def Xf(f:Value->Value->SE):Prop:=∀st sm g' st' sm' es bs,f st sm=.go g' st' sm' es bs->(bs.all (!·.2))=true->(st'=st/\sm'=sm)/\∀e b,f e b=.go g' e b es bs
theorem Xf.still{fr:Frame}{cs:List Frame}:Xf λ st sm=>.still st sm fr cs:=by
 intro st sm g' st' sm' es bs h _;grind[SE.still,SE.go.injEq]
def Xf.stuck:Xf λ _ _=>.stuck:=by intro st sm g' st' sm' es bs h;cases h
theorem Xf.of{α:Type}{s:Sem α}{F:QE α->SE}(w:∀r g' st' sm' es bs,F r=.go g' st' sm' es bs->∃x b,r=.ok x st' sm' b bs/\∀f e,F (.ok x f e b bs)=.go g' f e es bs) :
  Xf λ st sm=>F (QC P t s st sm #[] []):=by
 intro st sm g' st' sm' es bs h z;grind[UZ]
def B2{fr:Frame}{cs:List Frame}(r:QE Next)(g':Gr)(st' sm':Value)(es:Array Event)(bs:List (Nat×Bool))(h:XB P fr cs r=.go g' st' sm' es bs) :
  ∃x b,r=.ok x st' sm' b bs/\∀f e,XB P fr cs (.ok x f e b bs)=.go g' f e es bs:=by
 cases r with
 |ok n st sm b w=>
  simp only[XB]at h ⊢;split at h
  .cases h
  .cases n <;> simp only[SE.go.injEq,reduceCtorEq]at h
   case spawn d=>grind[GW,Vq]
   all_goals(obtain⟨rfl,rfl,rfl,rfl,rfl⟩:=h;grind)
 |blocked st sm w=>grind[XB]
 |stuck=>cases h
def AZ{fr:Frame}{ds:List Deferred}{cs:List Frame}(r:QE Next)(g':Gr)(st' sm':Value)(es:Array Event)(bs:List (Nat×Bool))(h:GC P fr ds cs r=.go g' st' sm' es bs) :
  ∃x b,r=.ok x st' sm' b bs/\∀f e,GC P fr ds cs (.ok x f e b bs)=.go g' f e es bs:=by
 cases r with
 |ok n st sm b w=>
  simp only[GC]at h ⊢;cases n <;> simp only[SE.go.injEq,reduceCtorEq]at h
  all_goals(obtain⟨rfl,rfl,rfl,rfl,rfl⟩:=h;grind)
 |_=>cases h
def qX{fr:Frame}{cs:List Frame}(r:QE Value)(g':Gr)(st' sm':Value)(es:Array Event)(bs:List (Nat×Bool))(h:GK P m fr cs r=.go g' st' sm' es bs) :
  ∃x b,r=.ok x st' sm' b bs/\∀f e,GK P m fr cs (.ok x f e b bs)=.go g' f e es bs:=by
 cases r with
 |ok v st sm b w=>
  simp only[GK,PA]at h ⊢;split at h
  .split at h
   .simp only[SE.go.injEq]at h;obtain⟨rfl,rfl,rfl,rfl,rfl⟩:=h;grind
   .simp only[SE.go.injEq]at h;obtain⟨rfl,rfl,rfl,rfl,rfl⟩:=h;grind
   .cases h
  .split at h
   .simp only[SE.go.injEq]at h;obtain⟨rfl,rfl,rfl,rfl,rfl⟩:=h;grind
   .cases h
 |_=>cases h
def oY{fr:Frame}{cs:List Frame}:Xf (PG P t m fr cs):=by
 unfold PG;split
 .split
  .exact Xf.of (F:=GC P fr _ cs) AZ
  .exact .stuck
 .split
  .split
   .exact Xf.of (F:=GK P m fr cs) qX
   .exact .stuck
  .split
   .split
    .intro st sm g' st' sm' es bs h _;simp_all
    .exact .stuck
   .exact .stuck
  .exact .stuck
def Lu{g:Gr}:Xf (Qc P t m g):=by
 obtain⟨fr,cs,status,dying,offers⟩:=g;unfold Qc;cases status <;> try exact .stuck
 cases dying with
 |some d=>exact .stuck
 |none=>
  simp only;cases fr.mode with
  |run=>
   unfold Ps;simp only;split
   .split <;> first|exact .still|exact .stuck
   .split <;> first|exact .still|exact .stuck
   .exact .still
   .exact .still
   .exact .still
   .exact .still
   .exact .still
   .split <;> first|exact .still|exact .stuck
   .exact .still
   .exact .still
   .exact .still
   .exact .still
   .split <;> first|exact .still|exact .stuck
   .exact .still
   .exact .still
   .split
    .split
     .split
      .exact Xf.of (F:=XB P fr cs) B2
      .exact .stuck
     .exact .still
    .exact .stuck
   .exact .stuck
  |_=>exact oY
def SE.get(d:Gr):SE->Gr
 |.go g _ _ _ _=>g
 |_=>d
def Qn{g g':Gr}{st sm st' sm':Value}{es:Array Event}{bs:List (Nat×Bool)}(h:Qc P t m g st sm=.go g' st' sm' es bs):g.status=.running:=by
 grind[Qc]
end Go.TM
namespace Go.TM
open Go.Conc (QuitsD)
def Q1(c wt:Nat):Value:=.int .u64 ((c*4294967296+wt:Nat):Int)
def Qq(s:Nat):Value:=.int .u32 (s:Int)
def Z2(m:Mark):Event:=⟨.mark m,false,true⟩
def Jg(b o:Nat):Event:=⟨.cell ⟨b,o,none⟩,false,true⟩
def QB(b o:Nat):Event:=⟨.cell ⟨b,o,none⟩,true,true⟩
def Z8(b:Nat)(bs:List (Nat×Bool)):Prop:=∀y∈bs,y.1=b
def Qa.at(U:Qa Tk)(d:Nat)(p:Ph):Qa Tk:={ U with tok:=⟨d,p,U.tok.mu⟩ }
def Qa.at_self{U:Qa Tk}{d:Nat}{p:Ph}{mu:Option ZS}(h:U.tok=⟨d,p,mu⟩):U.at d p=U:=by
 obtain⟨I,M,tok⟩:=U;simp only at h;subst h;rfl
def Zc(s:Nat):Value:=.int .i32 (s:Int)
def Qa.lk(U:Qa Tk)(d b:Nat)(D:Spec)(x:QY)(s:Bool)(me:LP)(lo:Nat):Qa Tk:={ U with tok:=⟨d,.wrk b D,some (.lok x s me lo)⟩ }
theorem Qa.lk_self{U:Qa Tk}{d b:Nat}{D:Spec}{x:QY}{s:Bool}{me:LP}{lo:Nat}(h:U.tok=⟨d,.wrk b D,some (.lok x s me lo)⟩):U.lk d b D x s me lo=U:=by
 obtain⟨I,M,tok⟩:=U;simp only at h;subst h;rfl
def GL(m:Nat)(e:Event):Prop:=Event.mute e=true\/∃o wr,o<2/\e=⟨.cell ⟨m,o,none⟩,wr,true⟩
def Ye(mu b e:Option ZS):Prop:=(b=mu/\e=none)\/∃x u s,mu=some (.par x u)/\u s=false/\b=some (.par x (ZK u s true))/\e=some (.lok x s .idle 0)
def Tl(P:Program)(t:TypeId)(N b:Nat):Nat->Nat->Ph->Gr->Prop
 |0,_,_,_=>False
 |n+1,d,p,g=>g.status=.running /\
  ((∃g' es bs,(∀e∈es,Event.mute e=true)/\Z8 b bs/\(∀st sm,Qc P t false g st sm=.go g' st sm es bs)/\Tl P t N b n (deafBehind d es) p g') \/
   (p=.rel b/\d=1/\∀c wt,1<=c->c<=N->wt<=1->∃g' bs,Z8 b bs/\Qc P t false g (Q1 c wt) (Qq 0)=.go g' (Q1 (c-1) wt) (Qq 0) #[Jg b 0,QB b 0] bs /\
    (if c=1/\wt=1 then Tl P t N b n 1 (.lst b 0) g' else QuitsD P n 1 g')) \/
   (p=.lst b 0/\d=1/\∃g' bs,Z8 b bs/\Qc P t false g (Q1 0 1) (Qq 0)=.go g' (Q1 0 1) (Qq 0) #[Jg b 0] bs/\Tl P t N b n 1 (.lst b 1) g') \/
   (p=.lst b 1/\d=1/\∃g' bs,Z8 b bs/\Qc P t false g (Q1 0 1) (Qq 0)=.go g' (Q1 0 0) (Qq 0) #[QB b 0] bs/\Tl P t N b n 1 (.lst b 2) g') \/
   (p=.lst b 2/\d=1/\mayWake P g=true/\∃g' bs,Z8 b bs/\Qc P t false g (Q1 0 0) (Qq 0)=.go g' (Q1 0 0) (Qq 1) #[Z2 .disable,Jg b 1,QB b 1,Z2 .enable] bs/\QuitsD P n 1 g'))
inductive QD(P:Program)(t:TypeId)(N:Nat)(X:QJ Tk):QJ Tk
 |quiet {m g U b bs g'} (hs:g.status=.running) (hb:U.tok.ph.blk=some b) (h:∀st sm,Qc P t m g st sm=.go g' st sm #[] bs) (hbs:Z8 b bs) (k:X m g' U):QD P t N X m g U
 |dis {mu m g U b ds pend k_0 bs g' d} (hs:g.status=.running) (ht:U.tok=⟨d,.par b ds pend k_0,mu⟩) (h:∀st sm,Qc P t m g st sm=.go g' st sm #[Z2 .disable] bs) (hbs:Z8 b bs)
   (k:X m g' (U.at (d+1) (.par b ds pend k_0))):QD P t N X m g U
 |ena {mu m g U b ds pend k_0 bs g' d} (hs:g.status=.running) (ht:U.tok=⟨d+1,.par b ds pend k_0,mu⟩) (h:∀st sm,Qc P t m g st sm=.go g' st sm #[Z2 .enable] bs) (hbs:Z8 b bs)
   (k:X m g' (U.at d (.par b ds pend k_0))):QD P t N X m g U
 |add {mu m g U b ds} (hs:g.status=.running) (ht:U.tok=⟨1,.par b ds false .run,mu⟩) (hN:ds.length<N)
   (h:∀c,c<=ds.length->∃g' bs,Qc P t m g (Q1 c 0) (Qq 0)=.go g' (Q1 (c+1) 0) (Qq 0) #[Jg b 0,QB b 0] bs/\Z8 b bs/\X m g' (U.at 1 (.par b ds true .run))):QD P t N X m g U
 |said {mu m g U b ds pend k bs g' wr} (hs:g.status=.running) (ht:U.tok=⟨1,.par b ds pend k,mu⟩)
   (h:∀st sm,Qc P t m g st sm=.go g' st sm #[Z2 (bif wr then .write ⟨b,1,none⟩else .read ⟨b,1,none⟩)] bs) (hbs:Z8 b bs) (k:X m g' U):QD P t N X m g U
 |look {mu m g U b ds k_0 u} (hs:g.status=.running) (ht:U.tok=⟨1,.par b ds false k_0,mu⟩) (hk:Ha ds u k_0)
   (h:∀c,c<=u->∃g' bs,Z8 b bs /\
    ((Qc P t m g (Q1 c 0) (Qq 0)=.go g' (Q1 c 0) (Qq 0) #[Jg b 0] bs/\(X m g' (U.at 1 (.par b ds false (.seen c)))\/(c=0/\X m g' (U.at 1 (.par b ds false .up))))) \/
     (1<=c/\Qc P t m g (Q1 c 0) (Qq 0)=.go g' (Q1 c 1) (Qq 0) #[Jg b 0,QB b 0] bs/\X m g' (U.at 1 (.par b ds false .wait))))):QD P t N X m g U
 |sema {mu m g U b ds} (hs:g.status=.running) (ho:g.offers=none) (ht:U.tok=⟨1,.par b ds false .wait,mu⟩)
   (h0:∀st,∃bs,Z8 b bs/\Qc P t m g st (Qq 0)=.blocked { g with status:=.blocked } st (Qq 0) bs)
   (h1:∃g' bs,Z8 b bs/\Qc P t m g (Q1 0 0) (Qq 1)=.go g' (Q1 0 0) (Qq 0) #[Z2 .disable,Jg b 1,QB b 1,Z2 .enable] bs/\X m g' (U.at 1 (.par b ds false .up))):QD P t N X m g U
 |look2 {mu m g U b ds bs g'} (hs:g.status=.running) (ht:U.tok=⟨1,.par b ds false .up,mu⟩) (hbs:Z8 b bs)
   (h:Qc P t m g (Q1 0 0) (Qq 0)=.go g' (Q1 0 0) (Qq 0) #[Jg b 0] bs) (k:X m g' U):QD P t N X m g U
 |acq {m g U b ds bs g'} (hs:g.status=.running) (ht:U.tok=⟨0,.par b ds false .up,none⟩) (hbs:Z8 b bs)
   (h:∀st sm,Qc P t m g st sm=.go g' st sm #[Z2 (.acquire ⟨b,0,none⟩)] bs) (k:∀Ms,JO ds Ms->X m g' ((U.with Ms.flatten).at 0 .out)):QD P t N X m g U
 |acqM {m g U b ds bs g' x u} (hs:g.status=.running) (ht:U.tok=⟨0,.par b ds false .up,some (.par x u)⟩) (hbs:Z8 b bs)
   (h:∀st sm,Qc P t m g st sm=.go g' st sm #[Z2 (.acquire ⟨b,0,none⟩)] bs) (k:∀Ms M,JO ds Ms->x.sp (u false) (u true) M->X m g' { U with M:=(U.M++Ms.flatten)++M,tok:=⟨0,.out,none⟩ }):QD P t N X m g U
 |make {m g U b M₁ M₂} (ht:U.tok=⟨0,.out,none⟩) (hM:U.M=M₁++.obj b (.cells #[Q1 0 0,Qq 0] t (0,0))::M₂) (k:X m g { U with M:=M₁++M₂,tok:=⟨0,.par b [] false .run,none⟩ }):QD P t N X m g U
 |makeM {m g U b x M₁ M₂} (ht:U.tok=⟨0,.par b [] false .run,none⟩) (hM:U.M=.obj x.m (.cells #[Zc 0,Qq 0] x.t (0,0))::(M₁++M₂)) (hD:x.sp false false M₁)
   (k:X m g { U with M:=M₂,tok:=⟨0,.par b [] false .run,some (.par x λ _=>false)⟩ }):QD P t N X m g U
 |mu {m g U b D x s me lo d} (hs:g.status=.running) (ht:U.tok=⟨d,.wrk b D,some (.lok x s me lo)⟩)
   (h:∀q st sm,lo<=q.cls->LP.word me q=some (st,sm)->∃g' bs es me' st' sm' d' lo',lo'<=q.cls/\Z8 x.m bs/\Qc P x.t m g (Zc st) (Qq sm)=.go g' (Zc st') (Qq sm') es bs/\LP.word me' q=some (st',sm')/\me.cls<=me'.cls/\me'.rels=me.rels /\
    me.isOwn=me'.isOwn/\(me.isOwn=true->me'=me)/\(∀e∈es,GL x.m e)/\deafBehind d es=d'/\(sm'=sm\/sm'=0\/mayWake P g=true)/\X m g' (U.lk d' b D x s me' lo')):QD P t N X m g U
 |mblk {m g U b D x s lo d} (hs:g.status=.running) (ho:g.offers=none) (ht:U.tok=⟨d,.wrk b D,some (.lok x s .wai lo)⟩)
   (h0:∀st,∃bs,Z8 x.m bs/\Qc P x.t m g st (Qq 0)=.blocked { g with status:=.blocked } st (Qq 0) bs)
   (h1:∃g' bs,Z8 x.m bs/\Qc P x.t m g (Zc 2) (Qq 1)=.go g' (Zc 2) (Qq 0) #[Z2 .disable,Jg x.m 1,QB x.m 1,Z2 .enable] bs/\X m g' (U.lk d b D x s .wok 2)):QD P t N X m g U
 |macq {m g U b D x s lo bs g'} (hs:g.status=.running) (ht:U.tok=⟨0,.wrk b D,some (.lok x s .got lo)⟩) (hbs:Z8 x.m bs)
   (h:∀st sm,Qc P x.t m g st sm=.go g' st sm #[Z2 (.acquire ⟨x.m,0,none⟩)] bs)
   (k:∀v M,(x.sp (if s then v else false) (if s then false else v)) M->X m g' { U with M:=U.M++M,tok:=⟨0,.wrk b D,some (.lok x s (.own v) lo)⟩ }):QD P t N X m g U
 |mrel {m g U b D x s lo v bs g' M₁ M₂} (hs:g.status=.running) (ht:U.tok=⟨0,.wrk b D,some (.lok x s (.own v) lo)⟩) (hbs:Z8 x.m bs) (hM:U.M=M₁++M₂) (hD:x.sp (if s then v else true) (if s then true else v) M₁)
   (h:∀st sm,Qc P x.t m g st sm=.go g' st sm #[Z2 (.releaseMerge ⟨x.m,0,none⟩)] bs)
   (k:X m g' { U with M:=M₂,tok:=⟨0,.wrk b D,some (.lok x s .rls lo)⟩ }):QD P t N X m g U
 |go {mu mu' mc m g U b ds D Up Uc g' c} (hs:g.status=.running) (ht:U.tok=⟨0,.par b ds true .run,mu⟩) (h:Qc P t m g undef undef=.spawn g' c #[]) (hf:HH U Up Uc)
   (hp:Up.tok=⟨0,.par b (D::ds) false .run,mu'⟩) (hc:Uc.tok=⟨0,.wrk b D,mc⟩) (hmu:Ye mu mu' mc) (k:X m g' Up) (k':X false c Uc):QD P t N X m g U
 |lay {mu m g U b D bs g'} (hs:g.status=.running) (ht:U.tok=⟨0,.wrk b D,mu⟩) (hmu:mu=none\/∃x s lo,mu=some (.lok x s .fin lo)) (hD:D U.M) (hbs:Z8 b bs)
   (h:∀st sm,Qc P t m g st sm=.go g' st sm #[Z2 (.releaseMerge ⟨b,0,none⟩)] bs) (k:∃n,Tl P t N b n 0 (.rel b) g'):QD P t N X m g U
theorem QD.mono{P:Program}{t:TypeId}{N:Nat}{X Y:QJ Tk}(e:∀m g U,X m g U->Y m g U){m:Bool}{g:Gr}{U:Qa Tk}(h:QD P t N X m g U):QD P t N Y m g U:=by
 cases h with
 |quiet z S h f k=>exact .quiet z S h f (e _ _ _ k)
 |dis z w h f k=>exact .dis z w h f (e _ _ _ k)
 |ena z w h f k=>exact .ena z w h f (e _ _ _ k)
 |add z w Q h=>exact .add z w Q λ c G=>let ⟨g',bs,a,b,k⟩:=h c G;⟨g',bs,a,b,e _ _ _ k⟩
 |said z w h f k=>exact .said z w h f (e _ _ _ k)
 |look z w V h=>exact .look z w V λ c G=>let ⟨g',bs,a,k⟩:=h c G;⟨g',bs,a,k.imp (λ x=>⟨x.1,x.2.imp (e _ _ _) λ y=>⟨y.1,e _ _ _ y.2⟩⟩) λ x=>⟨x.1,x.2.1,e _ _ _ x.2.2⟩⟩
 |sema z L w I K=>exact .sema z L w I (let ⟨g',bs,a,b,k⟩:=K;⟨g',bs,a,b,e _ _ _ k⟩)
 |look2 z w f h k=>exact .look2 z w f h (e _ _ _ k)
 |acq z w f h k=>exact .acq z w f h λ H B=>e _ _ _ (k H B)
 |acqM z w f h k=>exact .acqM z w f h λ H M B hx=>e _ _ _ (k H M B hx)
 |makeM w B F k=>exact .makeM w B F (e _ _ _ k)
 |mu z w h=>exact .mu z w λ q st sm Z hw=>let ⟨g',bs,es,me',st',sm',d',lo',a0,a1,a2,a3,a4,a5,a6,a7,a8,a9,a10,k⟩:=h q st sm Z hw;⟨g',bs,es,me',st',sm',d',lo',a0,a1,a2,a3,a4,a5,a6,a7,a8,a9,a10,e _ _ _ k⟩
 |mblk z L w I K=>exact .mblk z L w I (let ⟨g',bs,a,b,k⟩:=K;⟨g',bs,a,b,e _ _ _ k⟩)
 |macq z w f h k=>exact .macq z w f h λ v M B=>e _ _ _ (k v M B)
 |mrel z w f B F h k=>exact .mrel z w f B F h (e _ _ _ k)
 |make w B k=>exact .make w B (e _ _ _ k)
 |go z w h T W G E k k'=>exact .go z w h T W G E (e _ _ _ k) (e _ _ _ k')
 |lay z w E F f h k=>exact .lay z w E F f h k
def Zb(P:Program)(t:TypeId)(N:Nat):Sys P Tk:=⟨QD P t N,λ h _ _ _ k=>k.mono h⟩
end Go.TM

