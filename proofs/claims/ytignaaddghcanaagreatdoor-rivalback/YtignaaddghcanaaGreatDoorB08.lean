/- Lemmas. No conditions. -/
import Derived.Conc.Beside
import Derived.Conc.CrowdStepC
import Derived.Conc.JoinWorld
import Derived.Test.YtignaaddghcanaaGreatDoorB00
set_option linter.all false
open List
namespace Go.TM
variable{T:Type}{P:Program}{S:Sys P T}{ρ:QH T}{m:Bool}{g:Gr}{U:Qa T}{i b:Nat}
inductive Tr:Type 1 where
 |node (ι:Type) (f:ι->Tr)
variable{r:Tr}{K L f:List Tr}
def Tr.Sub:Tr->Tr->Prop
 |a,.node _ f=>∃i,a=f i
def Tr.sub_wf:WellFounded Tr.Sub:=by
 refine⟨λ r=>?_⟩
 induction r with
 |node ι f b=>
  refine⟨_,λ a h=>?_⟩;obtain⟨i,rfl⟩:=h;exact b i
def JR(S:Sys P T)(Stop:QH T):Tr->QH T
 |.node _ f=>FJ S Stop (λ m g U=>∃i,JR S Stop (f i) m g U)
def J.rank(h:J S ρ m g U):∃r,JR S ρ r m g U:=by
 refine J.ind (X:=λ m g U=>∃r,JR S ρ r m g U) (λ m g U h=>?_) h;refine⟨.node { x:Bool×Gr×Qa T // ∃r,JR S ρ r x.1 x.2.1 x.2.2 } (λ x=>Classical.choose x.2),?_⟩;exact h.mono λ m g U b=>⟨⟨(m,g,U),b.1⟩,Classical.choose_spec (p:=λ r=>JR S ρ r m g U) b.1⟩
section
variable{Stop:QH T}
def JR.step(h:JR S Stop r m g U):FJ S Stop (λ m g U=>∃b,Tr.Sub b r/\JR S Stop b m g U) m g U:=by
 cases r with
 |node ι f=>
  have w:FJ S Stop (λ m g U=>∃i,JR S Stop (f i) m g U) m g U:=h;exact w.mono λ m g U⟨i,z⟩=>⟨f i,⟨i,rfl⟩,z⟩
end
def ZM(b L:List Tr):Prop:=∃r B C,L.Perm (r::B)/\b.Perm (C++B)/\∀c∈C,Tr.Sub c r
def ZM.perm{b:List Tr}(h:ZM K L)(p:L.Perm b):ZM K b:=by
 obtain⟨r,B,C,f,w,z⟩:=h;exact⟨r,B,C,p.symm.trans f,w,z⟩
def UR{b:List Tr}(h:Acc ZM L)(p:L.Perm b):Acc ZM b:=⟨_,λ K f=>h.inv (f.perm p.symm)⟩
def vf:Acc ZM []:=by
 refine⟨_,λ K h=>?_⟩;obtain⟨r,B,C,b,_⟩:=h;have:=b.length_eq;simp at this
def N4(P:∀c,Tr.Sub c r->∀L,Acc ZM L->Acc ZM (c::L)):∀L,Acc ZM L->Acc ZM (r::L):=by
 intro L f
 induction f with
 |intro L b Q=>
  refine⟨_,λ K I=>?_⟩;obtain⟨x,B,C,w,F,G⟩:=I
  classical
  by_cases H:x=r
  .subst H;have z:L.Perm B:=w.cons_inv
   have key:∀C:List Tr,(∀c∈C,Tr.Sub c x)->Acc ZM (C++L):=by
    intro C
    induction C with
    |nil=>intro _;exact⟨L,b⟩
    |cons c C E=>intro h;exact P c (h c S1) _ (E λ d N=>h d (by simp[N]))
   exact UR (key C G) ((Perm.append_left C z).trans F.symm)
  .have hm:x∈L:=by
    have:x∈r::L:=w.mem_iff.2 S1;simpa[H]using this
   have f:=perm_cons_erase hm
   have z:B.Perm (r::L.erase x):=by
    have:(x::B).Perm (x::r::L.erase x):=w.symm.trans ((f.cons r).trans (Perm.swap ..));exact this.cons_inv
   have h:ZM (C++L.erase x) L:=⟨x,L.erase x,C,f,Perm.refl _,G⟩;refine UR (Q _ h) ?_;refine Perm.symm ?_;refine F.trans ?_;refine(Perm.append_left C z).trans ?_;exact perm_middle
def kS:WellFounded ZM:=by
 refine⟨λ L=>?_⟩
 have key:∀r:Tr,∀L,Acc ZM L->Acc ZM (r::L):=by
  intro r
  induction r using Tr.sub_wf.induction with
  |_ r b=>exact N4 b
 induction L with
 |nil=>exact vf
 |cons r L b=>exact key r L b
def ZY:List Tr×Nat->List Tr×Nat->Prop:=Prod.Lex ZM (· < ·)
def pR:WellFounded ZY:=(Prod.lex ⟨ZM,kS⟩ ⟨(· < ·),Nat.lt_wfRel.wf⟩).wf
def ZY.cut(h:ZM f L):ZY (f,i) (L,b):=Prod.Lex.left _ _ h
def ZY.num(h:i<b):ZY (L,i) (L,b):=Prod.Lex.right _ h
variable{act act' wk wk':Nat->Prop}{rm A:Option Nat}{tr G:Trace}{n size c wt N:Nat}{ξ:MemAct}{a:Touch}{rel rel':Nat->Option Nat}{said:Bool}{y z:MemOp}
section
open Go.Conc
inductive Hd where
 |run (i:Nat)
 |dep (i:Nat)
 |lck
 deriving DecidableEq
variable{d o W' R':Hd->Loc->Prop}
def Kn(t:Trace)(rel:Nat->Option Nat):Hd->Nat->Prop
 |.run g,i=>Knows t g i
 |.dep g,i=>∃r,rel g=some r/\Before t i r
 |.lck,_=>True
def Loc.newN(n:Nat):Loc->Prop
 |.cell a=>n<=a.block
 |.obj b=>n<=b
 |_=>False
def ZZ(b:Option Nat):Loc->Prop
 |.cell a=>b=some a.block/\a.off<2
 |_=>False
def MK(act:Nat->Prop)(rm:Option Nat)(t:Trace)(i:Nat):Prop:=
 match rm with
 |none=>∀g,act g->Knows t g i
 |some r=>Before t i r
structure TI(W R:Hd->Loc->Prop)(rel:Nat->Option Nat)(blk mb rm:Option Nat)(act wk:Nat->Prop)(size:Nat)(t:Trace):Prop where
 clean:∀said,¬Race said t
 known:∀h i a,touchAt t i=some a->(W h a.loc\/(R h a.loc/\a.write=true))->Kn t rel h i
 low:∀op∈t,op.act.low size
 norel:∀i a,t.act? i≠some (.mark (.release a))
 grpP:∀i a,touchAt t i=some a->ZZ blk a.loc->a.kind=.plain->∀g,act g->Knows t g i
 grpS:∀i a,touchAt t i=some a->ZZ blk a.loc->a.kind=.said->Knows t 0 i
 relok:∀g r,rel g=some r->∃b,blk=some b/\t.act? r=some (.mark (.releaseMerge ⟨b,0,none⟩))/\t.heard r/\t.g? r=some g
 hand:∀i g,t.g? i=some g->g≠0->t.counts i->wk g\/(∃r,rel g=some r/\Before t i r)\/Knows t 0 i
 grpM:∀i a,touchAt t i=some a->ZZ mb a.loc->a.kind≠.atomic->∀g,act g->Knows t g i
 mutK:∀i a,touchAt t i=some a->(W .lck a.loc\/(R .lck a.loc/\a.write=true))->MK act rm t i
 mutR:∀r,rm=some r->∃m g,mb=some m/\t.act? r=some (.mark (.releaseMerge ⟨m,0,none⟩))/\t.heard r/\t.g? r=some g/\(wk g\/∃r',rel g=some r'/\Before t r r')
def MK.app{act:Nat->Prop}{rm:Option Nat}{t:Trace}{i:Nat}(u:Trace)(k:MK act rm t i):MK act rm (t++u) i:=by
 cases rm with
 |none=>exact λ g b=>(k g b).app u
 |some r=>exact Before.app u k
def MK.turn(h:∀g,act' g->act g)(k:MK act rm tr i):MK act' rm tr i:=by
 cases rm with
 |none=>exact λ g b=>k g (h g b)
 |some r=>exact k
def Kn.app{t:Trace}{rel:Nat->Option Nat}{h:Hd}{i:Nat}(u:Trace)(k:Kn t rel h i):Kn (t++u) rel h i:=by
 cases h with
 |run g=>exact Knows.app u k
 |dep g=>obtain⟨r,b,f⟩:=k;exact⟨r,b,f.app u⟩
 |lck=>trivial
def Ih(h:ξ.low n)(b:ξ.touch?=some a):¬Loc.newN n a.loc:=by
 cases ξ with
 |access e=>
  simp only[MemAct.touch?,Option.some.injEq]at b;subst b;obtain⟨loc,wr,f⟩:=e;cases loc <;> simp_all[MemAct.low,Loc.low,Loc.newN]
 |mark m=>cases m <;> simp_all[MemAct.touch?,MemAct.low,Loc.newN] <;> (subst b;simpa[Loc.newN]using h)
 |_=>simp[MemAct.touch?]at b
def Hu(h:(tr++G).act? i=some ξ):(i<tr.size/\tr.act? i=some ξ)\/(tr.size<=i/\∃op∈G,op.act=ξ):=by
 obtain⟨op,B,b⟩:=Option.map_eq_some_iff.1 h;rcases getElem?_append_cases B with⟨f,w⟩|⟨f,z⟩
 .exact .inl ⟨f,by rw[act?_of w,b]⟩
 .exact .inr ⟨f,op,z,b⟩
section
variable{t:Trace}
def Jh(h:touchAt (t++tr) i=some a):(i<t.size/\touchAt t i=some a)\/(t.size<=i/\∃op∈tr,op.act.touch?=some a/\(t++tr)[i]?=some op):=by
 obtain⟨x,B,b⟩:=touch_of h;rcases getElem?_append_cases B with⟨f,w⟩|⟨f,z⟩
 .exact .inl ⟨f,by rw[touchAt_of w,b]⟩
 .exact .inr ⟨f,x,z,b,B⟩
end
section
variable{mb:Option Nat}{u:Trace}
def TI.step(h:TI d o rel A mb rm act wk size tr)(ah:size<=c)(Z:∀op∈u,op.g=wt)(U:∀op∈u,op.act.low c)(ad:∀op∈u,∀a,op.act≠.mark (.release a))
  (aa:∀i a,touchAt tr i=some a->∀op∈u,∀b,op.act.touch?=some b->∀said,a.conflicts said b->Knows tr wt i)
  (X:∀k l,W' k l->d k l\/(k=.run wt/\Loc.newN size l)) (V:∀k l,R' k l->o k l\/(k=.run wt/\Loc.newN size l))
  (L:∀op∈u,∀a,op.act.touch?=some a->∀k,k≠.run wt->¬d k a.loc/\(a.write=true->¬o k a.loc))
  (T:∀op∈u,∀a,op.act.touch?=some a->ZZ A a.loc->a.kind≠.plain/\(a.kind=.said->wt=0)) (ac:∀op∈u,∀a,op.act.touch?=some a->ZZ mb a.loc->a.kind=.atomic)
  (P:wt=0\/wk wt\/∀i,tr.size<=i->¬(tr++u).counts i) :
  TI W' R' rel A mb rm act wk c (tr++u):=by
 refine⟨λ said=>noRace_append (h.clean said) Z λ i a G op f b H Y=>aa i a G op f b H said Y,?_,?_,?_,?_,?_,?_,?_,?_,?_,?_⟩
 .intro k i a G w;rcases Jh G with⟨E,B⟩|⟨E,op,f,z,K⟩
  .refine(h.known k i a B ?_).app u
   have hl:¬Loc.newN size a.loc:=by
    obtain⟨x,hx,ai⟩:=touch_of B;exact Ih (h.low x (Array.mem_of_getElem? hx)) ai
   rcases w with w|⟨w,Q⟩
   .rcases X _ _ w with w|w
    .exact .inl w
    .exact absurd w.2 hl
   .rcases V _ _ w with w|w
    .exact .inr ⟨w,Q⟩
    .exact absurd w.2 hl
  .by_cases hk:k=.run wt
   .subst hk;have:=knows_own K;rw[Z op f]at this;exact this
   .have:=L op f a z k hk;rcases w with w|⟨w,Q⟩
    .rcases X _ _ w with w|w
     .exact absurd w this.1
     .exact absurd w.1 hk
    .rcases V _ _ w with w|w
     .exact absurd w (this.2 Q)
     .exact absurd w.1 hk
 .intro op f;rcases Array.mem_append.1 f with f|f
  .exact MemAct.low_mono ah (h.low op f)
  .exact U op f
 .intro i a e;rcases Hu e with⟨_,e⟩|⟨_,op,f,z⟩
  .exact h.norel i a e
  .exact ad op f a z
 .intro i a G H hk g' hg';rcases Jh G with⟨E,B⟩|⟨E,op,f,z,K⟩
  .exact(h.grpP i a B H hk g' hg').app u
  .exact absurd hk (T op f a z H).1
 .intro i a G H hk;rcases Jh G with⟨E,B⟩|⟨E,op,f,z,K⟩
  .exact(h.grpS i a B H hk).app u
  .have:=knows_own K;rw[Z op f,(T op f a z H).2 hk]at this;exact this
 .intro g' r hr;obtain⟨b,I,N,h3,h4⟩:=h.relok g' r hr;have F:=lt_of_act? N;exact⟨b,I,by rw[act?_old F];exact N,(heard_old F).2 h3,by rw[g?_old F];exact h4⟩
 .intro i g' hg hne Y;by_cases E:i<tr.size
  .rw[g?_old E]at hg;rcases h.hand i g' hg hne ((counts_old E).1 Y)with I|⟨r,I,N⟩|I
   .exact .inl I
   .exact .inr (.inl ⟨r,I,N.app u⟩)
   .exact .inr (.inr (I.app u))
  .have E:tr.size<=i:=Nat.le_of_not_lt E
   have ab:g'=wt:=by
    obtain⟨op,K,ae⟩:=Option.map_eq_some_iff.1 hg;rcases getElem?_append_cases K with⟨aj,_⟩|⟨_,ag⟩
    .omega
    .rw[<- ae];exact Z op ag
   subst ab;rcases P with S|S|S
   .exact absurd S hne
   .exact .inl S
   .exact absurd Y (S i E)
 .intro i a G H hk g' hg';rcases Jh G with⟨E,B⟩|⟨E,op,f,z,K⟩
  .exact(h.grpM i a B H hk g' hg').app u
  .exact absurd (ac op f a z H) hk
 .intro i a G w;rcases Jh G with⟨E,B⟩|⟨E,op,f,z,K⟩
  .refine(h.mutK i a B ?_).app u;rcases w with w|⟨w,Q⟩
   .exact .inl ((X _ _ w).resolve_right λ x=>by cases x.1)
   .exact .inr ⟨(V _ _ w).resolve_right λ x=>(by cases x.1),Q⟩
  .have:=L op f a z .lck S1;rcases w with w|⟨w,Q⟩
   .exact absurd ((X _ _ w).resolve_right λ x=>by cases x.1) this.1
   .exact absurd ((V _ _ w).resolve_right λ x=>by cases x.1) (this.2 Q)
 .intro r hr;obtain⟨m,g',I,N,h3,h4,h5⟩:=h.mutR r hr;have F:=lt_of_act? N;exact⟨m,g',I,by rw[act?_old F];exact N,(heard_old F).2 h3,by rw[g?_old F];exact h4,h5.imp id λ⟨r',k1,k2⟩=>⟨r',k1,k2.app u⟩⟩
end
section
variable{mb:Option Nat}
def TI.turn{act':Nat->Prop}(h:TI d o rel A mb rm act wk size tr)(G:∀k l,W' k l->d k l)(F:∀k l,R' k l->o k l)(f:∀N,act' N->act N):TI W' R' rel A mb rm act' wk size tr:=
 ⟨h.clean,λ k i a f E=>h.known k i a f (E.imp (G _ _) λ x=>⟨F _ _ x.1,x.2⟩),h.low,h.norel,λ i a b w z N B=>h.grpP i a b w z N (f N B),h.grpS,h.relok,h.hand,λ i a b w z N B=>h.grpM i a b w z N (f N B),λ i a b E=>(h.mutK i a b (E.imp (G _ _) λ x=>⟨F _ _ x.1,x.2⟩)).turn f,h.mutR⟩
end
def W2(t:Trace)(y:MemOp):(t++#[y])[t.size]?=some y:=S1
def HU(h:¬Race said tr)(z:y.act.touch?=none):¬Race said (tr++#[y]):=
 noRace_append (g:=y.g) h S1 λ i a _ op f b w=>by simp at f;subst f;rw[z]at w;cases w
def Zm(w:y.act.touch?=none)(h:touchAt (tr++#[y]) i=some a):i<tr.size/\touchAt tr i=some a:=by
 rcases Jh h with h|⟨_,op,f,b,_⟩
 .exact h
 .simp at f;subst f;rw[w]at b;cases b
section
variable{t:Trace}
def HV(b:Deaf t y.g=0):(t++#[y]).heard t.size:=
 ⟨y.g,by simp[Trace.g?],by rw[deaf_old (Nat.le_refl _)];exact b⟩
end
def W8(B:y.act.touch?=none)(h:(tr++#[y]).counts i):i<tr.size/\tr.counts i:=by
 obtain⟨x,f,w⟩:=h;obtain⟨b,z⟩:=Zm B f;exact⟨b,(counts_old b).1 ⟨x,f,w⟩⟩
section
variable{mb:Option Nat}
def TI.release(h:TI d o rel A mb rm act wk size tr)(hb:A=some b)(V:y.act=.mark (.releaseMerge ⟨b,0,none⟩))(Z:b<size)
  (hd:Deaf tr y.g=0) (hg:rel y.g=none) (f:∀k,rel' k=if k=y.g then some tr.size else rel k)
  (hW:∀k l,W' k l->d k l/\k≠.dep y.g\/(k=.dep y.g/\d (.run y.g) l)) (hR:∀k l,R' k l->o k l/\k≠.dep y.g\/(k=.dep y.g/\o (.run y.g) l)) (S:∀k,wk k->wk' k\/k=y.g) :
  TI W' R' rel' A mb rm act wk' size (tr++#[y]):=by
 have H:y.act.touch?=none:=by rw[V];rfl
 refine⟨λ said=>HU (h.clean said) H,?_,?_,?_,?_,?_,?_,?_,?_,?_,?_⟩
 .intro k i a ha z;obtain⟨L,w⟩:=Zm H ha
  have key:k≠.dep y.g->(d k a.loc\/(o k a.loc/\a.write=true))->Kn (tr++#[y]) rel' k i:=by
   intro G z;have:=(h.known k i a w z).app #[y];cases k with
   |run g'=>exact this
   |dep g'=>
    obtain⟨r,I,K⟩:=this;refine⟨r,?_,K⟩;rw[f,if_neg]
    .exact I
    .intro e;subst e;exact G rfl
   |lck=>trivial
  have N:k=.dep y.g->(d (.run y.g) a.loc\/(o (.run y.g) a.loc/\a.write=true))->Kn (tr++#[y]) rel' k i:=by
   intro G hq;subst G;refine⟨tr.size,by rw[f,if_pos rfl],.inr ?_⟩;exact Knows.hb_new (h.known (.run y.g) i a w hq) (Nat.le_refl _) (W2 tr y) rfl
  rcases z with z|⟨z,U⟩
  .rcases hW _ _ z with⟨z,G⟩|⟨G,z⟩
   .exact key G (.inl z)
   .exact N G (.inl z)
  .rcases hR _ _ z with⟨z,G⟩|⟨G,z⟩
   .exact key G (.inr ⟨z,U⟩)
   .exact N G (.inr ⟨z,U⟩)
 .intro op F;rcases Array.mem_append.1 F with F|F
  .exact h.low op F
  .simp at F;subst F;rw[V];exact Z
 .intro i a e;rcases Hu e with⟨_,e⟩|⟨_,op,F,Q⟩
  .exact h.norel i a e
  .simp at F;subst F;rw[V]at Q;cases Q
 .intro i a ha hbl G g' hg';obtain⟨L,w⟩:=Zm H ha;exact(h.grpP i a w hbl G g' hg').app _
 .intro i a ha hbl G;obtain⟨L,w⟩:=Zm H ha;exact(h.grpS i a w hbl G).app _
 .intro g' r hr;rw[f]at hr;split at hr
  .rename_i e;subst e;cases hr;exact⟨b,hb,by rw[act?_of (W2 tr y),V],HV hd,by simp[Trace.g?]⟩
  .obtain⟨b,I,K,X,T⟩:=h.relok g' r hr;have E:=lt_of_act? K;exact⟨b,I,by rw[act?_old E];exact K,(heard_old E).2 X,by rw[g?_old E];exact T⟩
 .intro i g' hg' hne hc;obtain⟨L,aa⟩:=W8 H hc;rw[g?_old L]at hg';by_cases B:g'=y.g
  .obtain⟨op,ho,hog⟩:=Option.map_eq_some_iff.1 hg';refine .inr (.inl ⟨tr.size,by rw[f,if_pos B],.inr ?_⟩);have P:(tr++#[y])[i]?=some op:=by rw[getElem?_append_old L];exact ho
   exact hb_po L P (W2 tr y) (hog.trans B)
  .rcases h.hand i g' hg' hne aa with I|⟨r,I,K⟩|I
   .exact(S g' I).elim .inl λ e=>absurd e B
   .exact .inr (.inl ⟨r,by rw[f,if_neg B];exact I,K.app _⟩)
   .exact .inr (.inr (I.app _))
 .intro i a ha hbl G g' hg';obtain⟨L,w⟩:=Zm H ha;exact(h.grpM i a w hbl G g' hg').app _
 .intro i a ha z;obtain⟨L,w⟩:=Zm H ha;refine(h.mutK i a w ?_).app _;rcases z with z|⟨z,U⟩
  .exact .inl ((hW _ _ z).resolve_right λ x=>by cases x.1).1
  .exact .inr ⟨((hR _ _ z).resolve_right λ x=>by cases x.1).1,U⟩
 .intro r hr;obtain⟨m,g',I,K,X,T,Y⟩:=h.mutR r hr;have E:=lt_of_act? K;refine⟨m,g',I,by rw[act?_old E];exact K,(heard_old E).2 X,by rw[g?_old E];exact T,?_⟩;by_cases B:g'=y.g
  .obtain⟨op,ho,hog⟩:=Option.map_eq_some_iff.1 T;refine .inr ⟨tr.size,by rw[f,if_pos B],.inr ?_⟩;have P:(tr++#[y])[r]?=some op:=by rw[getElem?_append_old E];exact ho
   exact hb_po E P (W2 tr y) (hog.trans B)
  .rcases Y with Y|⟨r',k1,k2⟩
   .exact .inl ((S g' Y).resolve_right B)
   .exact .inr ⟨r',by rw[f,if_neg B];exact k1,k2.app _⟩
end
section
variable{mb:Option Nat}
def TI.acquire{b:Nat}{y:MemOp}{act' wk':Nat->Prop}(h:TI d o rel A mb rm act wk size tr)(hb:A=some b)(V:y.act=.mark (.acquire ⟨b,0,none⟩))(hg:y.g=0)(Y:b<size)
  (hd:Deaf tr 0=0) (S:∀c,¬wk c) (X:act 0)
  (hW:∀k l,W' k l->k=.run 0/\(d (.run 0) l\/(∃c r,rel c=some r/\d (.dep c) l)\/d .lck l)) (hR:∀k l,R' k l->k=.run 0/\(o (.run 0) l\/(∃c r,rel c=some r/\o (.dep c) l)\/o .lck l)) :
  TI W' R' (λ _=>none) none none none act' wk' size (tr++#[y]):=by
 have N:y.act.touch?=none:=by rw[V];rfl
 have E:=W2 tr y
 have G:∀c r,rel c=some r->Knows (tr++#[y]) 0 r:=by
  intro c r K;obtain⟨b',z,F,h3,h4⟩:=h.relok c r K;rw[hb]at z;cases z;have I:=lt_of_act? F;refine⟨tr.size,y,E,hg,.inr (.single (.inr ⟨.marked (a:=⟨b,0,none⟩) I (.inr (by rw[act?_old I];exact F)) (by rw[act?_of E,V]) (λ k _ hk=>by rw[act?_old hk];exact h.norel k _),(heard_old I).2 h3,HV (by rw[hg];exact hd)⟩))⟩
 have P:∀i,MK act rm tr i->Knows (tr++#[y]) 0 i:=by
  intro i H;cases L:rm with
  |none=>rw[L]at H;exact(H 0 X).app _
  |some r=>
   rw[L]at H;obtain⟨m,g',z,F,h3,h4,h5⟩:=h.mutR r L;obtain⟨T,k1,k2⟩:=h5.resolve_left (S g');exact Knows.of_before (Before.app _ H) (Knows.of_before (k2.app _) (G g' T k1))
 refine⟨λ said=>HU (h.clean said) N,?_,?_,?_,?_,?_,?_,?_,?_,?_,λ r K=>(by cases K)⟩
 .intro k i a ha f;obtain⟨H,B⟩:=Zm N ha;rcases f with f|⟨f,U⟩
  .obtain⟨rfl,f|⟨c,r,K,f⟩|f⟩:=hW _ _ f
   .exact(h.known (.run 0) i a B (.inl f)).app #[y]
   .obtain⟨T,z,F⟩:=h.known (.dep c) i a B (.inl f);exact Knows.of_before (F.app _) (G c T z)
   .exact P i (h.mutK i a B (.inl f))
  .obtain⟨rfl,f|⟨c,r,K,f⟩|f⟩:=hR _ _ f
   .exact(h.known (.run 0) i a B (.inr ⟨f,U⟩)).app #[y]
   .obtain⟨T,z,F⟩:=h.known (.dep c) i a B (.inr ⟨f,U⟩);exact Knows.of_before (F.app _) (G c T z)
   .exact P i (h.mutK i a B (.inr ⟨f,U⟩))
 .intro op w;rcases Array.mem_append.1 w with w|w
  .exact h.low op w
  .simp at w;subst w;rw[V];exact Y
 .intro i a e;rcases Hu e with⟨_,e⟩|⟨_,op,w,Q⟩
  .exact h.norel i a e
  .simp at w;subst w;rw[V]at Q;cases Q
 .intro i a ha hbl;unfold ZZ at hbl;split at hbl
  .cases hbl.1
  .exact hbl.elim
 .intro i a ha hbl;unfold ZZ at hbl;split at hbl
  .cases hbl.1
  .exact hbl.elim
 .intro g' r K;cases K
 .intro i g' hg' hne hc;obtain⟨H,Z⟩:=W8 N hc;rw[g?_old H]at hg';rcases h.hand i g' hg' hne Z with z|⟨r,z,F⟩|z
  .exact absurd z (S g')
  .exact .inr (.inr (Knows.of_before (F.app _) (G g' r z)))
  .exact .inr (.inr (z.app _))
 .intro i a ha hbl;unfold ZZ at hbl;split at hbl
  .cases hbl.1
  .exact hbl.elim
 .intro i a ha f;rcases f with f|⟨f,U⟩
  .cases(hW _ _ f).1
  .cases(hR _ _ f).1
end
section
variable{mb:Option Nat}
def TI.fork(h:TI d o rel A mb rm act wk size tr)(hy:y.act=.go c)(V:y.g=0)(hz:z.act=.start)(Y:z.g=c)(ah:Deaf tr 0=0)(ai:Deaf tr c=0)(am:c≠0)
  (L:∀wt,act' wt->act wt\/(wt=c/\act 0)) (ae:∀wt,wk wt->wk' wt)
  (hW:∀k l,W' k l->d k l\/(k=.run c/\d (.run 0) l)) (hR:∀k l,R' k l->o k l\/(k=.run c/\o (.run 0) l)) :
  TI W' R' rel A mb rm act' wk' size (tr++#[y,z]):=by
 have e:tr++#[y,z]=(tr++#[y])++#[z]:=by apply Array.ext';simp
 have X:y.act.touch?=none:=by rw[hy];rfl
 have aa:z.act.touch?=none:=by rw[hz];rfl
 have ad:(tr++#[y]).size=tr.size+1:=S1
 have al:(tr++#[y]++#[z])[tr.size]?=some y:=by rw[getElem?_append_old O1];exact W2 tr y
 have Z:(tr++#[y]++#[z])[tr.size+1]?=some z:=by have:=W2 (tr++#[y]) z;rwa [ad]at this
 have F:∀{i:Nat}{a:Touch},touchAt (tr++#[y]++#[z]) i=some a->i<tr.size/\touchAt tr i=some a:=by
  intro i a K;exact Zm X (Zm aa K).2
 have ak:HappensBefore (tr++#[y]++#[z]) tr.size (tr.size+1):=by
  refine .single (.inr ⟨.spawn (child:=c) (by rw[act?_of al,hy]) (by rw[act?_of Z,hz]) (by simp only[Trace.g?,Z,Option.map_some,Y]),?_,?_⟩)
  .rw[heard_old O1];exact HV (by rw[V];exact ah)
  .have:=HV (t:=tr++#[y]) (y:=z) (by rw[Y,Deaf_other tr (g':=0) O1 _ (by simp[V])];exact ai)
   rwa [ad]at this
 have N:∀i,Knows tr 0 i->Knows (tr++#[y]++#[z]) c i:=by
  intro i S;have I:HappensBefore (tr++#[y]) i tr.size:=S.hb_new (Nat.le_refl _) (W2 tr y) V;exact⟨tr.size+1,z,Z,Y,.inr ((hb_app _ I).trans ak)⟩
 have app:∀{wt i:Nat},Knows tr wt i->Knows (tr++#[y]++#[z]) wt i:=λ h=>(h.app _).app _;rw[e];refine⟨λ said=>HU (HU (h.clean said) X) aa,?_,?_,?_,?_,?_,?_,?_,?_,?_,?_⟩
 .intro k i a K Q;obtain⟨S,B⟩:=F K;rcases Q with Q|⟨Q,hw⟩
  .rcases hW _ _ Q with U|⟨rfl,U⟩
   .exact((h.known k i a B (.inl U)).app _).app _
   .exact N i (h.known (.run 0) i a B (.inl U))
  .rcases hR _ _ Q with U|⟨rfl,U⟩
   .exact((h.known k i a B (.inr ⟨U,hw⟩)).app _).app _
   .exact N i (h.known (.run 0) i a B (.inr ⟨U,hw⟩))
 .intro op w;rcases Array.mem_append.1 w with w|w
  .rcases Array.mem_append.1 w with w|w
   .exact h.low op w
   .simp at w;subst w;rw[hy];trivial
  .simp at w;subst w;rw[hz];trivial
 .intro i a e;rcases Hu e with⟨_,e⟩|⟨_,op,w,P⟩
  .rcases Hu e with⟨_,e⟩|⟨_,op,w,P⟩
   .exact h.norel i a e
   .simp at w;subst w;rw[hy]at P;cases P
  .simp at w;subst w;rw[hz]at P;cases P
 .intro i a K hbl H g' f;obtain⟨S,B⟩:=F K;rcases L g' f with f|⟨rfl,f⟩
  .exact app (h.grpP i a B hbl H g' f)
  .exact N i (h.grpP i a B hbl H 0 f)
 .intro i a K hbl H;obtain⟨S,B⟩:=F K;exact app (h.grpS i a B hbl H)
 .intro g' r hr;obtain⟨b,I,T,h3,h4⟩:=h.relok g' r hr;have G:=lt_of_act? T;have E:r<(tr++#[y]).size:=O1
  exact⟨b,I,by rw[act?_old E,act?_old G];exact T,(heard_old E).2 ((heard_old G).2 h3),by rw[g?_old E,g?_old G];exact h4⟩
 .intro i g' f hne hc;obtain⟨aj,ag⟩:=W8 aa hc;obtain⟨S,ab⟩:=W8 X ag;rw[g?_old aj,g?_old S]at f;rcases h.hand i g' f hne ab with I|⟨r,I,T⟩|I
  .exact .inl (ae _ I)
  .exact .inr (.inl ⟨r,I,(T.app _).app _⟩)
  .exact .inr (.inr (app I))
 .intro i a K hbl H g' f;obtain⟨S,B⟩:=F K;rcases L g' f with f|⟨rfl,f⟩
  .exact app (h.grpM i a B hbl H g' f)
  .exact N i (h.grpM i a B hbl H 0 f)
 .intro i a K Q;obtain⟨S,B⟩:=F K
  have H:=h.mutK i a B (by
   rcases Q with Q|⟨Q,hw⟩
   .exact .inl ((hW _ _ Q).resolve_right λ x=>by cases x.1)
   .exact .inr ⟨(hR _ _ Q).resolve_right λ x=>(by cases x.1),hw⟩)
  cases ac:rm with
  |none=>
   rw[ac]at H;intro g' f;rcases L g' f with f|⟨rfl,f⟩
   .exact app (H g' f)
   .exact N i (H 0 f)
  |some r=>rw[ac]at H;exact Before.app _ (Before.app _ H)
 .intro r hr;obtain⟨m,g',I,T,h3,h4,h5⟩:=h.mutR r hr;have G:=lt_of_act? T;have E:r<(tr++#[y]).size:=O1
  exact⟨m,g',I,by rw[act?_old E,act?_old G];exact T,(heard_old E).2 ((heard_old G).2 h3),by rw[g?_old E,g?_old G];exact h4,h5.imp (ae _) λ⟨r',k1,k2⟩=>⟨r',k1,(k2.app _).app _⟩⟩
end
def TI.create(h:TI d o rel none A rm act wk size tr)(H:∀l,¬W' .lck l)(G:∀l,¬R' .lck l)(z:∀c,rel c=none)(I:∀a:Addr,a.block=b->a.off<2->d (.run 0) (.cell a))(L:∀k l,W' k l->d k l)(K:∀k l,R' k l->o k l) :
  TI W' R' rel (some b) none none (·=0) wk size tr:=by
 refine⟨h.clean,λ k i a f w=>h.known k i a f (w.imp (L _ _) λ x=>⟨K _ _ x.1,x.2⟩),h.low,h.norel,?_,?_,λ c r B=>(by rw[z]at B;cases B),h.hand,?_,?_,λ r B=>(by cases B)⟩
 .intro i a f hbl _ c hg;obtain⟨loc,wr,kd⟩:=a;cases loc <;> simp only[ZZ]at hbl;obtain⟨E,F⟩:=hbl;cases E;rw[hg];exact h.known (.run 0) i _ f (.inl (I _ rfl F))
 .intro i a f hbl _;obtain⟨loc,wr,kd⟩:=a;cases loc <;> simp only[ZZ]at hbl;obtain⟨E,F⟩:=hbl;cases E;exact h.known (.run 0) i _ f (.inl (I _ rfl F))
 .intro i a f hbl;unfold ZZ at hbl;split at hbl
  .cases hbl.1
  .exact hbl.elim
 .intro i a f w;rcases w with w|⟨w,N⟩
  .exact absurd w (H _)
  .exact absurd w (G _)
def TI.createM(h:TI d o rel A none rm act wk size tr)(w:∀c,act' c->c=0/\act 0)(N:∀a:Addr,a.block=wt->a.off<2->d (.run 0) (.cell a))
  (L:∀k l,W' k l->d k l\/(k=.lck/\d (.run 0) l)) (K:∀k l,R' k l->o k l\/(k=.lck/\o (.run 0) l)) (G:∀l,¬d .lck l) (F:∀l,¬o .lck l) :
  TI W' R' rel A (some wt) none act' wk size tr:=by
 have key:∀k i a,touchAt tr i=some a->(W' k a.loc\/(R' k a.loc/\a.write=true))->(d k a.loc\/(o k a.loc/\a.write=true))\/(k=.lck/\(d (.run 0) a.loc\/(o (.run 0) a.loc/\a.write=true))):=by
  intro k i a _ b;rcases b with b|⟨b,H⟩
  .rcases L _ _ b with b|⟨e,b⟩
   .exact .inl (.inl b)
   .exact .inr ⟨e,.inl b⟩
  .rcases K _ _ b with b|⟨e,b⟩
   .exact .inl (.inr ⟨b,H⟩)
   .exact .inr ⟨e,.inr ⟨b,H⟩⟩
 refine⟨h.clean,λ k i a f b=>?_,h.low,h.norel,λ i a B E I c z=>?_,h.grpS,h.relok,h.hand,?_,?_,λ r P=>(by cases P)⟩
 .rcases key k i a f b with b|⟨rfl,_⟩
  .exact h.known k i a f b
  .trivial
 .obtain⟨rfl,w⟩:=w c z;exact h.grpP i a B E I 0 w
 .intro i a f hbl hk c z;obtain⟨loc,wr,kd⟩:=a;cases loc <;> simp only[ZZ]at hbl;obtain⟨B,E⟩:=hbl;cases B;rw[(w c z).1];exact h.known (.run 0) i _ f (.inl (N _ rfl E))
 .intro i a f b c z;rw[(w c z).1];rcases key .lck i a f b with b|⟨_,b⟩
  .rcases b with b|⟨b,_⟩
   .exact absurd b (G _)
   .exact absurd b (F _)
  .exact h.known (.run 0) i a f b
section
variable{mb:Option Nat}
def TI.mrel(h:TI d o rel A mb rm act wk size tr)(Z:mb=some c)(L:y.act=.mark (.releaseMerge ⟨c,0,none⟩))(P:c<size)(Y:Deaf tr y.g=0)(S:wk y.g)
  (U:∀k l,W' k l->(d k l/\k≠.lck)\/(k=.lck/\d (.run y.g) l)) (T:∀k l,R' k l->(o k l/\k≠.lck)\/(k=.lck/\o (.run y.g) l)) :
  TI W' R' rel A mb (some tr.size) act wk size (tr++#[y]):=by
 have z:y.act.touch?=none:=by rw[L];rfl
 refine⟨λ said=>HU (h.clean said) z,?_,?_,?_,?_,?_,?_,?_,?_,?_,?_⟩
 .intro k i a ha E;obtain⟨H,f⟩:=Zm z ha;by_cases B:k=.lck
  .subst B;trivial
  .refine(h.known k i a f ?_).app _;rcases E with E|⟨E,Q⟩
   .exact .inl ((U _ _ E).resolve_right λ x=>B x.1).1
   .exact .inr ⟨((T _ _ E).resolve_right λ x=>B x.1).1,Q⟩
 .intro op w;rcases Array.mem_append.1 w with w|w
  .exact h.low op w
  .simp at w;subst w;rw[L];exact P
 .intro i a e;rcases Hu e with⟨_,e⟩|⟨_,op,w,I⟩
  .exact h.norel i a e
  .simp at w;subst w;rw[L]at I;cases I
 .intro i a ha hbl B g' hg';obtain⟨H,f⟩:=Zm z ha;exact(h.grpP i a f hbl B g' hg').app _
 .intro i a ha hbl B;obtain⟨H,f⟩:=Zm z ha;exact(h.grpS i a f hbl B).app _
 .intro g' r hr;obtain⟨b,F,K,V,X⟩:=h.relok g' r hr;have G:=lt_of_act? K;exact⟨b,F,by rw[act?_old G];exact K,(heard_old G).2 V,by rw[g?_old G];exact X⟩
 .intro i g' hg' hne hc;obtain⟨H,N⟩:=W8 z hc;rw[g?_old H]at hg';rcases h.hand i g' hg' hne N with F|⟨r,F,K⟩|F
  .exact .inl F
  .exact .inr (.inl ⟨r,F,K.app _⟩)
  .exact .inr (.inr (F.app _))
 .intro i a ha hbl B g' hg';obtain⟨H,f⟩:=Zm z ha;exact(h.grpM i a f hbl B g' hg').app _
 .intro i a ha E;obtain⟨H,f⟩:=Zm z ha
  have B:Knows tr y.g i:=h.known (.run y.g) i a f (by
   rcases E with E|⟨E,Q⟩
   .exact .inl ((U _ _ E).resolve_left λ x=>x.2 rfl).2
   .exact .inr ⟨((T _ _ E).resolve_left λ x=>x.2 rfl).2,Q⟩)
  exact .inr (B.hb_new (Nat.le_refl _) (W2 tr y) rfl)
 .intro r hr;cases hr;exact⟨c,y.g,Z,by rw[act?_of (W2 tr y),L],HV Y,by simp[Trace.g?],.inl S⟩
end
section
variable{mb:Option Nat}
def TI.macq(h:TI d o rel A mb rm act wk size tr)(hm:mb=some c)(V:y.act=.mark (.acquire ⟨c,0,none⟩))(Z:c<size)(hd:Deaf tr y.g=0)(X:act y.g)
  (hW:∀k l,W' k l->k≠.lck/\(d k l\/(k=.run y.g/\d .lck l))) (hR:∀k l,R' k l->k≠.lck/\(o k l\/(k=.run y.g/\o .lck l))) :
  TI W' R' rel A mb rm act wk size (tr++#[y]):=by
 have B:y.act.touch?=none:=by rw[V];rfl
 have F:=W2 tr y
 have Q:∀i,MK act rm tr i->Knows (tr++#[y]) y.g i:=by
  intro i I;cases N:rm with
  |none=>rw[N]at I;exact(I _ X).app _
  |some r=>
   rw[N]at I;obtain⟨m',g',E,H,P,U,h5⟩:=h.mutR r N;rw[hm]at E;cases E;have f:=lt_of_act? H;have T:Knows (tr++#[y]) y.g r:=⟨tr.size,y,F,rfl,.inr (.single (.inr ⟨.marked (a:=⟨c,0,none⟩) f (.inr (by rw[act?_old f];exact H)) (by rw[act?_of F,V]) (λ k _ K=>by rw[act?_old K];exact h.norel k _),(heard_old f).2 P,HV hd⟩))⟩;exact Knows.of_before (Before.app _ I) T
 refine⟨λ said=>HU (h.clean said) B,?_,?_,?_,?_,?_,?_,?_,?_,?_,?_⟩
 .intro k i a ha G;obtain⟨I,w⟩:=Zm B ha;rcases G with G|⟨G,hw⟩
  .rcases(hW _ _ G).2 with L|⟨rfl,L⟩
   .exact(h.known k i a w (.inl L)).app _
   .exact Q i (h.mutK i a w (.inl L))
  .rcases(hR _ _ G).2 with L|⟨rfl,L⟩
   .exact(h.known k i a w (.inr ⟨L,hw⟩)).app _
   .exact Q i (h.mutK i a w (.inr ⟨L,hw⟩))
 .intro op z;rcases Array.mem_append.1 z with z|z
  .exact h.low op z
  .simp at z;subst z;rw[V];exact Z
 .intro i a e;rcases Hu e with⟨_,e⟩|⟨_,op,z,S⟩
  .exact h.norel i a e
  .simp at z;subst z;rw[V]at S;cases S
 .intro i a ha hbl K g' hg';obtain⟨I,w⟩:=Zm B ha;exact(h.grpP i a w hbl K g' hg').app _
 .intro i a ha hbl K;obtain⟨I,w⟩:=Zm B ha;exact(h.grpS i a w hbl K).app _
 .intro g' r T;obtain⟨b,E,H,P,U⟩:=h.relok g' r T;have f:=lt_of_act? H;exact⟨b,E,by rw[act?_old f];exact H,(heard_old f).2 P,by rw[g?_old f];exact U⟩
 .intro i g' hg' hne hc;obtain⟨I,Y⟩:=W8 B hc;rw[g?_old I]at hg';rcases h.hand i g' hg' hne Y with E|⟨r,E,H⟩|E
  .exact .inl E
  .exact .inr (.inl ⟨r,E,H.app _⟩)
  .exact .inr (.inr (E.app _))
 .intro i a ha hbl K g' hg';obtain⟨I,w⟩:=Zm B ha;exact(h.grpM i a w hbl K g' hg').app _
 .intro i a ha G;rcases G with G|⟨G,hw⟩
  .exact absurd rfl (hW _ _ G).1
  .exact absurd rfl (hR _ _ G).1
 .intro r T;obtain⟨m',g',E,H,P,U,h5⟩:=h.mutR r T;have f:=lt_of_act? H;exact⟨m',g',E,by rw[act?_old f];exact H,(heard_old f).2 P,by rw[g?_old f];exact U,h5.imp id λ⟨r',k1,k2⟩=>⟨r',k1,k2.app _⟩⟩
end
end
variable{σ:Addr}{w w':World}{t:TypeId}{st sm st' sm' v:Value}{es B:Array Event}{bs:List (Nat×Bool)}{l:Loc}{U' τ Up:Qa T}{α:Type _}{δ k':Hd}{γ:Hd->Qa T}{μ ν:Qw}{tp tc:T}{pend:Bool}{j s:Nat}{W:List Nat}{dM:Nat->List Qw}{M:List Qw}{ok:List (Nat×Bool)->Prop}{Z:Frame}{cs:List Frame}{φ:Sem Next}{I:Value->Value->World}{χ:GStep}{status:GoStatus}{offers:Option (Array CommCase×CommShape)}{H:Gr}{π:List Deferred}
inductive QE(α:Type) where
 |ok (a:α) (st sm:Value) (es:Array Event) (bs:List (Nat×Bool))
 |blocked (st sm:Value) (bs:List (Nat×Bool))
 |stuck
def JO(a:Addr):Bool:=a.spot.isNone&&Nat.beq a.off 0
def JN(a:Addr):Bool:=a.spot.isNone&&Nat.beq a.off 1
def Sm(h:JO σ=true):σ=⟨σ.block,0,none⟩:=by
 obtain⟨b,o,s⟩:=σ;simp only[JO,Bool.and_eq_true,Option.isNone_iff_eq_none]at h;obtain⟨w,f⟩:=h;have:=Nat.eq_of_beq_eq_true f
 simp_all
def Sl(h:JN σ=true):σ=⟨σ.block,1,none⟩:=by
 obtain⟨b,o,s⟩:=σ;simp only[JN,Bool.and_eq_true,Option.isNone_iff_eq_none]at h;obtain⟨w,f⟩:=h;have:=Nat.eq_of_beq_eq_true f
 simp_all
def Gm:Value->Bool
 |.int ..=>true
 |_=>false
def QA(P:Program)(t:TypeId){α:Type}:Sem α->Value->Value->Array Event->List (Nat×Bool)->QE α
 |.pure a,st,sm,es,bs=>.ok a st sm es bs
 |.program k,st,sm,es,bs=>QA P t (k P) st sm es bs
 |.mark m k,st,sm,es,bs=>QA P t k st sm (es.push ⟨.mark m,false,true⟩) bs
 |.load .atomic a k,st,sm,es,bs=>
  bif JO a then QA P t (k st) st sm (es.push ⟨.cell a,false,true⟩) ((a.block,true)::bs)
  else bif JN a then QA P t (k sm) st sm (es.push ⟨.cell a,false,true⟩) ((a.block,true)::bs)else .stuck
 |.load .plain a k,st,sm,es,bs=>
  bif JO a then QA P t (k st) st sm (es.push ⟨.cell a,false,false⟩) ((a.block,true)::bs)
  else bif JN a then QA P t (k sm) st sm (es.push ⟨.cell a,false,false⟩) ((a.block,true)::bs)else .stuck
 |.store .atomic a v k,st,sm,es,bs=>
  bif Gm v then
   bif JO a then QA P t k v sm (es.push ⟨.cell a,true,true⟩) ((a.block,true)::bs)
   else bif JN a then QA P t k st v (es.push ⟨.cell a,true,true⟩) ((a.block,true)::bs)else .stuck
  else .stuck
 |.shape r k,st,sm,es,bs=>QA P t (k (some (t,2))) st sm es ((r,false)::bs)
 |.frozen a k,st,sm,es,bs=>QA P t (k false) st sm es ((a.block,false)::bs)
 |.halt .blocked,st,sm,_,bs=>.blocked st sm bs
 |_,_,_,_,_=>.stuck
def Sh(b:Nat)(t:TypeId)(st sm:Value)(w:World):Prop:=w.heap[b]?=some (.cells #[st,sm] t (0,0))
def two(w:World)(b:Nat)(t:TypeId)(st sm:Value):World:={ w with heap:=w.heap.setIfInBounds b (.cells #[st,sm] t (0,0)) }
def Sh.two{w:World}{b:Nat}{t:TypeId}{st sm st' sm':Value}(h:Sh b t st sm w):Sh b t st' sm' (two w b t st' sm'):=by
 have:=(Array.getElem?_eq_some_iff.1 h).1;simp[Sh,TM.two,this]
def Sh.two_same(h:Sh b t st sm w):TM.two w b t st sm=w:=by
 obtain⟨z,f⟩:=Array.getElem?_eq_some_iff.1 h
 have:w.heap.setIfInBounds b (.cells #[st,sm] t (0,0))=w.heap:=by
  apply Array.ext
  .simp
  .intro i hi hi';rw[Array.getElem_setIfInBounds (by simpa using hi)];split
   .rename_i e;subst e;exact f.symm
   .rfl
 simp[TM.two,this]
def IL:two (two w b t st sm) b t st' sm'=two w b t st' sm':=by
 simp[two,Array.setIfInBounds_setIfInBounds]
def Sh.cell0(h:Sh b t st sm w):w.cell? ⟨b,0,none⟩=some st/\w.cell? ⟨b,1,none⟩=some sm/\w.frozen? ⟨b,0,none⟩=false/\w.frozen? ⟨b,1,none⟩=false:=by
 unfold Sh at h;refine⟨?_,?_,?_,?_⟩ <;> simp[World.cell?,World.frozen?,h]
def Sh.set0(h:Sh b t st sm w):w.setCell ⟨b,0,none⟩ v=TM.two w b t v sm:=by
 obtain⟨z,f⟩:=Array.getElem?_eq_some_iff.1 h;simp only[World.setCell,TM.two];congr 1;apply Array.ext
 .simp
 .intro i hi hi';simp only[Array.getElem_modify,Array.getElem_setIfInBounds (by simpa using hi)];split
  .rename_i e;subst e;simp[f]
  .rfl
def Sh.set1(h:Sh b t st sm w):w.setCell ⟨b,1,none⟩ v=TM.two w b t st v:=by
 obtain⟨z,f⟩:=Array.getElem?_eq_some_iff.1 h;simp only[World.setCell,TM.two];congr 1;apply Array.ext
 .simp
 .intro i hi hi';simp only[Array.getElem_modify,Array.getElem_setIfInBounds (by simpa using hi)];split
  .rename_i e;subst e;simp[f]
  .rfl
def Ya(P:Program)(s:Sem T)(b:Nat)(t:TypeId)(w:World)(es:Array Event)(bs:List (Nat×Bool)):QE T->Prop
 |.ok x st' sm' h f=>(∀y∈f,y.1=b)->(∀y∈bs,y∈f)/\s.runT P w es=(.ok x (two w b t st' sm'),h)
 |.blocked st' sm' f=>(∀y∈f,y.1=b)->(∀y∈bs,y∈f)/\∃h,s.runT P w es=(.halt .blocked (two w b t st' sm'),h)
 |.stuck=>True
def Ya.of{s N:Sem T}{r:QE T}
  (h:Ya P N b t w' B ((c,m)::bs) r) (K:c=b->s.runT P w es=N.runT P w' B) (L:∀st sm,two w' b t st sm=two w b t st sm):Ya P s b t w es bs r:=by
 cases r with
 |ok x st' sm' z G=>
  intro F;obtain⟨E,H⟩:=h F;exact⟨λ y I=>E y (by simp[I]),by rw[K (F _ (E (c,m) S1)),H,L]⟩
 |blocked st' sm' G=>
  intro F;obtain⟨E,z,H⟩:=h F;exact⟨λ y I=>E y (by simp[I]),z,by rw[K (F _ (E (c,m) S1)),H,L]⟩
 |stuck=>trivial
def vS(s:Sem T):∀{st sm:Value}{es:Array Event}{bs:List (Nat×Bool)}{w:World},
  Sh b t st sm w->Ya P s b t w es bs (QA P t s st sm es bs):=by
 induction s with
 |pure a=>
  intro st sm es bs w f N;exact⟨λ _ h=>h,by rw[f.two_same];rfl⟩
 |program k G=>
  intro st sm es bs w f;exact G P f
 |mark m k G=>
  intro st sm es bs w f;exact G f
 |load m a k G=>
  intro st sm es bs w f;cases m with
  |plain=>
   simp only[QA];cases e:JO a with
   |true=>
    simp only[cond_true];refine(G st f).of (λ z=>?_) (λ _ _=>rfl);have B:=Sm e;rw[z]at B;have E:=f.cell0.1;rw[<- B]at E;simp only[Sem.runT,E];rfl
   |false=>
    simp only[cond_false];cases I:JN a with
    |false=>exact trivial
    |true=>
     simp only[cond_true];refine(G sm f).of (λ z=>?_) (λ _ _=>rfl);have B:=Sl I;rw[z]at B;have E:=f.cell0.2.1;rw[<- B]at E;simp only[Sem.runT,E];rfl
  |atomic=>
   simp only[QA];cases e:JO a with
   |true=>
    simp only[cond_true];refine(G st f).of (λ z=>?_) (λ _ _=>rfl);have B:=Sm e;rw[z]at B;have E:=f.cell0.1;rw[<- B]at E;simp only[Sem.runT,E];rfl
   |false=>
    simp only[cond_false];cases I:JN a with
    |false=>exact trivial
    |true=>
     simp only[cond_true];refine(G sm f).of (λ z=>?_) (λ _ _=>rfl);have B:=Sl I;rw[z]at B;have E:=f.cell0.2.1;rw[<- B]at E;simp only[Sem.runT,E];rfl
 |store m a v k G=>
  intro st sm es bs w f;cases m with
  |plain=>exact trivial
  |atomic=>
   simp only[QA];cases L:Gm v with
   |false=>exact trivial
   |true=>
    simp only[cond_true]
    obtain⟨H,n,rfl⟩:∃H n,v=.int H n:=by
     cases v <;> simp[Gm]at L;exact⟨_,_,rfl⟩
    cases e:JO a with
    |true=>
     simp only[cond_true];refine(G (w:=two w b t (.int H n) sm) f.two).of (λ z=>?_) (λ _ _=>IL);have B:=Sm e;rw[z]at B;have E:=f.cell0.1;have K:=f.cell0.2.2.1;have F:=f.set0 (v:=.int H n);rw[<- B]at E K F;simp only[Sem.runT,E,K,Bool.false_eq_true,if_false,F];rfl
    |false=>
     simp only[cond_false];cases I:JN a with
     |false=>exact trivial
     |true=>
      simp only[cond_true];refine(G (w:=two w b t st (.int H n)) f.two).of (λ z=>?_) (λ _ _=>IL);have B:=Sl I;rw[z]at B;have E:=f.cell0.2.1;have K:=f.cell0.2.2.2;have F:=f.set1 (v:=.int H n);rw[<- B]at E K F;simp only[Sem.runT,E,K,Bool.false_eq_true,if_false,F];rfl
 |shape r k G=>
  intro st sm es bs w f;refine(G (some (t,2)) f).of (λ z=>?_) (λ _ _=>rfl);subst z;simp only[Sem.runT,World.shape?,show w.heap[r]?=_ from f];rfl
 |frozen a k G=>
  intro st sm es bs w f;refine(G false f).of (λ z=>?_) (λ _ _=>rfl);subst z;have:w.frozen? a=false:=by simp[World.frozen?,show w.heap[a.block]?=_ from f]
  simp only[Sem.runT,this]
 |halt h=>
  intro st sm es bs w f;cases h with
  |blocked=>exact λ N=>⟨λ _ h=>h,es,by rw[f.two_same];rfl⟩
  |_=>exact trivial
 |_=>intro st sm es bs w f;exact trivial
def pO{P:Program}{t:TypeId}{α:Type}(s:Sem α):∀{st sm:Value}{es:Array Event}{bs:List (Nat×Bool)}{x:α}{st' sm':Value}{f:Array Event}{b:List (Nat×Bool)},
  QA P t s st sm es bs=.ok x st' sm' f b->(∃l,b=l++bs)/\(b=bs->(st'=st/\sm'=sm)/\∀w,s.runT P w es=(.ok x w,f)):=by
 induction s with
 |pure a=>
  intro st sm es bs x st' sm' f b h;simp only[QA,QE.ok.injEq]at h;obtain⟨rfl,rfl,rfl,rfl,rfl⟩:=h;exact⟨⟨[],rfl⟩,λ _=>⟨⟨rfl,rfl⟩,λ _=>rfl⟩⟩
 |program k z=>intro st sm es bs x st' sm' f b h;exact z P h
 |mark m k z=>intro st sm es bs x st' sm' f b h;exact z h
 |load m a k z=>
  intro st sm es bs x st' sm' f b h;cases m with
  |plain=>
   simp only[QA]at h
   have key:∀v,QA P t (k v) st sm (es.push ⟨.cell a,false,false⟩) ((a.block,true)::bs)=.ok x st' sm' f b->(∃l,b=l++bs)/\(b=bs->(st'=st/\sm'=sm)/\∀w,(Sem.load .plain a k).runT P w es=(.ok x w,f)):=by
    intro v B;obtain⟨⟨l,rfl⟩,_⟩:=z v B;refine⟨⟨l++[(a.block,true)],S1⟩,λ e=>?_⟩;have:=congrArg List.length e;simp at this;omega
   cases e:JO a <;> rw[e]at h <;> simp only[cond_true,cond_false]at h
   .cases e2:JN a <;> rw[e2]at h <;> simp only[cond_true,cond_false]at h
    .cases h
    .exact key _ h
   .exact key _ h
  |atomic=>
   simp only[QA]at h
   have key:∀v,QA P t (k v) st sm (es.push ⟨.cell a,false,true⟩) ((a.block,true)::bs)=.ok x st' sm' f b->(∃l,b=l++bs)/\(b=bs->(st'=st/\sm'=sm)/\∀w,(Sem.load .atomic a k).runT P w es=(.ok x w,f)):=by
    intro v B;obtain⟨⟨l,rfl⟩,_⟩:=z v B;refine⟨⟨l++[(a.block,true)],S1⟩,λ e=>?_⟩;have:=congrArg List.length e;simp at this;omega
   cases e:JO a <;> rw[e]at h <;> simp only[cond_true,cond_false]at h
   .cases e2:JN a <;> rw[e2]at h <;> simp only[cond_true,cond_false]at h
    .cases h
    .exact key _ h
   .exact key _ h
 |store m a v k z=>
  intro st sm es bs x st' sm' f b h;cases m with
  |plain=>simp[QA]at h
  |atomic=>
   simp only[QA]at h
   have key:∀u E,QA P t k u E (es.push ⟨.cell a,true,true⟩) ((a.block,true)::bs)=.ok x st' sm' f b->(∃l,b=l++bs)/\(b=bs->(st'=st/\sm'=sm)/\∀w,(Sem.store .atomic a v k).runT P w es=(.ok x w,f)):=by
    intro u E B;obtain⟨⟨l,rfl⟩,_⟩:=z B;refine⟨⟨l++[(a.block,true)],S1⟩,λ e=>?_⟩;have:=congrArg List.length e;simp at this;omega
   cases F:Gm v <;> rw[F]at h <;> simp only[cond_true,cond_false]at h
   .cases h
   .cases e:JO a <;> rw[e]at h <;> simp only[cond_true,cond_false]at h
    .cases e2:JN a <;> rw[e2]at h <;> simp only[cond_true,cond_false]at h
     .cases h
     .exact key _ _ h
    .exact key _ _ h
 |shape r k z=>
  intro st sm es bs x st' sm' f b h;obtain⟨⟨l,rfl⟩,_⟩:=z _ h;refine⟨⟨l++[(r,false)],S1⟩,λ e=>?_⟩;have:=congrArg List.length e;simp at this;omega
 |frozen a k z=>
  intro st sm es bs x st' sm' f b h;obtain⟨⟨l,rfl⟩,_⟩:=z _ h;refine⟨⟨l++[(a.block,false)],S1⟩,λ e=>?_⟩;have:=congrArg List.length e;simp at this;omega
 |halt G=>intro st sm es bs x st' sm' f b h;cases G <;> simp[QA]at h
 |_=>intro st sm es bs x st' sm' f b h;simp[QA]at h
def kU{P:Program}{t:TypeId}{α:Type}(s:Sem α):∀{st sm:Value}{es:Array Event}{bs:List (Nat×Bool)}{st' sm':Value}{b:List (Nat×Bool)},
  QA P t s st sm es bs=.blocked st' sm' b->(∃l,b=l++bs)/\(b=bs->∀w,∃f,s.runT P w es=(.halt .blocked w,f)):=by
 induction s with
 |pure a=>intro st sm es bs st' sm' b h;simp[QA]at h
 |program k z=>intro st sm es bs st' sm' b h;exact z P h
 |mark m k z=>intro st sm es bs st' sm' b h;exact z h
 |load m a k z=>
  intro st sm es bs st' sm' b h;cases m with
  |plain=>
   simp only[QA]at h
   have key:∀v,QA P t (k v) st sm (es.push ⟨.cell a,false,false⟩) ((a.block,true)::bs)=.blocked st' sm' b->(∃l,b=l++bs)/\(b=bs->∀w,∃f,(Sem.load .plain a k).runT P w es=(.halt .blocked w,f)):=by
    intro v B;obtain⟨⟨l,rfl⟩,_⟩:=z v B;refine⟨⟨l++[(a.block,true)],S1⟩,λ e=>?_⟩;have:=congrArg List.length e;simp at this;omega
   cases e:JO a <;> rw[e]at h <;> simp only[cond_true,cond_false]at h
   .cases e2:JN a <;> rw[e2]at h <;> simp only[cond_true,cond_false]at h
    .cases h
    .exact key _ h
   .exact key _ h
  |atomic=>
   simp only[QA]at h
   have key:∀v,QA P t (k v) st sm (es.push ⟨.cell a,false,true⟩) ((a.block,true)::bs)=.blocked st' sm' b->(∃l,b=l++bs)/\(b=bs->∀w,∃f,(Sem.load .atomic a k).runT P w es=(.halt .blocked w,f)):=by
    intro v B;obtain⟨⟨l,rfl⟩,_⟩:=z v B;refine⟨⟨l++[(a.block,true)],S1⟩,λ e=>?_⟩;have:=congrArg List.length e;simp at this;omega
   cases e:JO a <;> rw[e]at h <;> simp only[cond_true,cond_false]at h
   .cases e2:JN a <;> rw[e2]at h <;> simp only[cond_true,cond_false]at h
    .cases h
    .exact key _ h
   .exact key _ h
 |store m a v k z=>
  intro st sm es bs st' sm' b h;cases m with
  |plain=>simp[QA]at h
  |atomic=>
   simp only[QA]at h
   have key:∀u E,QA P t k u E (es.push ⟨.cell a,true,true⟩) ((a.block,true)::bs)=.blocked st' sm' b->(∃l,b=l++bs)/\(b=bs->∀w,∃f,(Sem.store .atomic a v k).runT P w es=(.halt .blocked w,f)):=by
    intro u E B;obtain⟨⟨l,rfl⟩,_⟩:=z B;refine⟨⟨l++[(a.block,true)],S1⟩,λ e=>?_⟩;have:=congrArg List.length e;simp at this;omega
   cases F:Gm v <;> rw[F]at h <;> simp only[cond_true,cond_false]at h
   .cases h
   .cases e:JO a <;> rw[e]at h <;> simp only[cond_true,cond_false]at h
    .cases e2:JN a <;> rw[e2]at h <;> simp only[cond_true,cond_false]at h
     .cases h
     .exact key _ _ h
    .exact key _ _ h
 |shape r k z=>
  intro st sm es bs st' sm' b h;obtain⟨⟨l,rfl⟩,_⟩:=z _ h;refine⟨⟨l++[(r,false)],S1⟩,λ e=>?_⟩;have:=congrArg List.length e;simp at this;omega
 |frozen a k z=>
  intro st sm es bs st' sm' b h;obtain⟨⟨l,rfl⟩,_⟩:=z _ h;refine⟨⟨l++[(a.block,false)],S1⟩,λ e=>?_⟩;have:=congrArg List.length e;simp at this;omega
 |halt G=>
  intro st sm es bs st' sm' b h;cases G with
  |blocked=>
   simp only[QA,QE.blocked.injEq]at h;obtain⟨rfl,rfl,rfl⟩:=h;exact⟨⟨[],rfl⟩,λ _ w=>⟨es,rfl⟩⟩
  |_=>simp[QA]at h
 |_=>intro st sm es bs st' sm' b h;simp[QA]at h
def yB(P:Program)(s:Sem T)(W:Value->Value->World)(ok:List (Nat×Bool)->Prop)(w:World):QE T->Prop
 |.ok x st' sm' f b=>ok b->s.runT P w #[]=(.ok x (W st' sm'),f)
 |.blocked st' sm' b=>ok b->∃f,s.runT P w #[]=(.halt .blocked (W st' sm'),f)
 |.stuck=>True
structure WQ(P:Program)(t:TypeId)(st sm:Value)(w:World)(W:Value->Value->World)(ok:List (Nat×Bool)->Prop):Prop where
 ran:∀{α:Type}(s:Sem α),yB P s W ok w (QA P t s st sm #[] [])
 same:W st sm=w
 nil:ok []
def WQ.sh(h:Sh b t st sm w):WQ P t st sm w (two w b t) (λ bs=>∀y∈bs,y.1=b):=by
 refine⟨λ s=>?_,h.two_same,S1⟩;have:=vS (P:=P) s (es:=#[]) (bs:=[]) h;generalize QA P t s st sm #[] []=r at this;cases r with
 |ok x st' sm' es bs=>exact λ f=>(this f).2
 |blocked st' sm' bs=>exact λ f=>(this f).2
 |stuck=>trivial
def WQ.calm:WQ P t st sm w (λ _ _=>w) (λ bs=>bs=[]):=by
 refine⟨λ s=>?_,rfl,rfl⟩;have f:=@pO P t _ s st sm #[] [];have h:=@kU P t _ s st sm #[] [];generalize QA P t s st sm #[] []=r at f h;cases r with
 |ok x st' sm' es bs=>exact λ b=>((f rfl).2 b).2 w
 |blocked st' sm' bs=>exact λ b=>(h rfl).2 b w
 |stuck=>trivial
def UZ{P:Program}{t:TypeId}{α:Type}(s:Sem α):∀{st sm:Value}{es:Array Event}{bs:List (Nat×Bool)}{x:α}{st' sm':Value}{f:Array Event}{b:List (Nat×Bool)},
  QA P t s st sm es bs=.ok x st' sm' f b->(∃l,b=l++bs)/\((b.all (!·.2))=true->(st'=st/\sm'=sm)/\∀z w,QA P t s z w es bs=.ok x z w f b):=by
 induction s with
 |pure a=>
  intro st sm es bs x st' sm' f b h;simp only[QA,QE.ok.injEq]at h;obtain⟨rfl,rfl,rfl,rfl,rfl⟩:=h;exact⟨⟨[],rfl⟩,λ _=>⟨⟨rfl,rfl⟩,λ _ _=>rfl⟩⟩
 |program k B=>intro st sm es bs x st' sm' f b h;exact B P h
 |mark m k B=>intro st sm es bs x st' sm' f b h;exact B h
 |load m a k B=>
  intro st sm es bs x st' sm' f b h;cases m with
  |plain=>
   simp only[QA]at h
   have key:∀v,QA P t (k v) st sm (es.push ⟨.cell a,false,false⟩) ((a.block,true)::bs)=.ok x st' sm' f b->(∃l,b=l++bs)/\((b.all (!·.2))=true->(st'=st/\sm'=sm)/\∀z w,QA P t (Sem.load .plain a k) z w es bs=.ok x z w f b):=by
    intro v E;obtain⟨⟨l,rfl⟩,_⟩:=B v E;exact⟨⟨l++[(a.block,true)],S1⟩,λ e=>by simp at e⟩
   cases e:JO a <;> rw[e]at h <;> simp only[cond_true,cond_false]at h
   .cases e2:JN a <;> rw[e2]at h <;> simp only[cond_true,cond_false]at h
    .cases h
    .exact key _ h
   .exact key _ h
  |atomic=>
   simp only[QA]at h
   have key:∀v,QA P t (k v) st sm (es.push ⟨.cell a,false,true⟩) ((a.block,true)::bs)=.ok x st' sm' f b->(∃l,b=l++bs)/\((b.all (!·.2))=true->(st'=st/\sm'=sm)/\∀z w,QA P t (Sem.load .atomic a k) z w es bs=.ok x z w f b):=by
    intro v E;obtain⟨⟨l,rfl⟩,_⟩:=B v E;exact⟨⟨l++[(a.block,true)],S1⟩,λ e=>by simp at e⟩
   cases e:JO a <;> rw[e]at h <;> simp only[cond_true,cond_false]at h
   .cases e2:JN a <;> rw[e2]at h <;> simp only[cond_true,cond_false]at h
    .cases h
    .exact key _ h
   .exact key _ h
 |store m a v k B=>
  intro st sm es bs x st' sm' f b h;cases m with
  |plain=>simp[QA]at h
  |atomic=>
   simp only[QA]at h
   have key:∀u G,QA P t k u G (es.push ⟨.cell a,true,true⟩) ((a.block,true)::bs)=.ok x st' sm' f b->(∃l,b=l++bs)/\((b.all (!·.2))=true->(st'=st/\sm'=sm)/\∀z w,QA P t (Sem.store .atomic a v k) z w es bs=.ok x z w f b):=by
    intro u G E;obtain⟨⟨l,rfl⟩,_⟩:=B E;exact⟨⟨l++[(a.block,true)],S1⟩,λ e=>by simp at e⟩
   cases H:Gm v <;> rw[H]at h <;> simp only[cond_true,cond_false]at h
   .cases h
   .cases e:JO a <;> rw[e]at h <;> simp only[cond_true,cond_false]at h
    .cases e2:JN a <;> rw[e2]at h <;> simp only[cond_true,cond_false]at h
     .cases h
     .exact key _ _ h
    .exact key _ _ h
 |shape r k B=>
  intro st sm es bs x st' sm' f b h;obtain⟨⟨l,rfl⟩,F⟩:=B _ h;exact⟨⟨l++[(r,false)],S1⟩,λ e=>F e⟩
 |frozen a k B=>
  intro st sm es bs x st' sm' f b h;obtain⟨⟨l,rfl⟩,F⟩:=B _ h;exact⟨⟨l++[(a.block,false)],S1⟩,λ e=>F e⟩
 |halt I=>intro st sm es bs x st' sm' f b h;cases I <;> simp[QA]at h
 |_=>intro st sm es bs x st' sm' f b h;simp[QA]at h
def Zu(h:U.canW l):U.canR l:=Qx.2 (.inl (Q4.1 h))
def ke(h:U.ok w)(e:w'.heap=w.heap):U.ok w':=by
 refine⟨λ b o f=>by rw[e];exact h.imm b o f,λ r z=>?_,h.apart,h.sep⟩;have:=h.held r z;cases r <;> simpa[Qw.ok,e]using this
def KG(h:U.ok w)(f:U.canR l):¬Loc.new w l:=by
 rcases Qx.1 f with⟨r,G,f⟩|f
 .have hk:=h.held r G;cases r with
  |obj b o=>
   have z:=(Array.getElem?_eq_some_iff.1 hk).1;cases o <;> cases l <;> simp only[Qw.lets,Loc.new]at f ⊢ <;> first|exact f.elim|omega
  |cell b i v t n=>
   obtain⟨c,B,_⟩:=hk;have z:=(Array.getElem?_eq_some_iff.1 B).1;cases l <;> simp only[Qw.lets,Loc.new]at f ⊢ <;> first|exact f.elim|omega
 .cases l with
  |cell a=>
   obtain⟨c,t,fr,E,_⟩:=f;have z:=(Array.getElem?_eq_some_iff.1 (h.imm _ _ E)).1;simp only[Loc.new];omega
  |obj b=>
   obtain⟨o,F⟩:=f;have z:=(Array.getElem?_eq_some_iff.1 (h.imm _ _ F)).1;simp only[Loc.new];omega
  |_=>exact f.elim
def pC(g:ZQ U w w' U')(h:τ.ok w)(G:∀l,U.canW l->¬τ.canR l):τ.ok w':=by
 have cells:∀b c t fr,w.heap[b]?=some (.cells c t fr)->τ.canR (.obj b)->(∀i,i<c.size->τ.canR (.cell ⟨b,i,none⟩))->w'.heap[b]?=some (.cells c t fr):=by
  intro b c t fr f Y B;obtain⟨I,K,L,N,P,Q⟩:=g.cells b c t fr f;obtain rfl:=Q.resolve_right λ h=>G _ h.1 Y
  have:I=c:=by
   apply Array.ext N;intro i S F;have:=P i λ H=>G _ H (B i F);simpa[S,F]using this
  rw[L,this]
 have obj:∀b o,w.heap[b]?=some o->τ.canR (.obj b)->(∀c t fr,o=.cells c t fr->∀i,i<c.size->τ.canR (.cell ⟨b,i,none⟩))->w'.heap[b]?=some o:=by
  intro b o f z W;by_cases E:∃c t fr,o=.cells c t fr
  .obtain⟨c,t,fr,rfl⟩:=E;exact cells b c t fr f z (W c t fr rfl)
  .exact g.objs b o f (λ c t fr e=>E ⟨c,t,fr,e⟩) λ H=>G _ H z
 refine⟨λ b o f=>?_,λ r z=>?_,h.apart,h.sep⟩
 .exact obj b o (h.imm b o f) (Qx.2 (.inr ⟨o,f⟩)) λ c t fr e i B=>Qx.2 (.inr ⟨c,t,fr,by rw[<- e];exact f,B⟩)
 .have hk:=h.held r z;cases r with
  |obj b o=>
   exact obj b o hk (Qx.2 (.inl ⟨_,z,by cases o <;> rfl⟩)) λ c t fr e i B=>Qx.2 (.inl ⟨_,z,by subst e;exact⟨rfl,B⟩⟩)
  |cell b i v t n=>
   obtain⟨c,f,X,V⟩:=hk;obtain⟨I,K,L,N,P,Q⟩:=g.cells b c t (0,0) f;have B:i<c.size:=(Array.getElem?_eq_some_iff.1 V).1;obtain rfl:=Q.resolve_right λ h=>G _ (h.2 i B) (Qx.2 (.inl ⟨_,z,rfl,rfl⟩));refine⟨I,L,N.trans X,?_⟩;rw[P i λ H=>G _ H (Qx.2 (.inl ⟨_,z,rfl,rfl⟩))];exact V
def QI(b:Nat)(U:Qa T):Prop:=∀a:Addr,a.block=b->a.off<2->¬U.canR (.cell a)
def HN(h:τ.ok w)(H:Sh b t st sm w)(G:QI b τ):τ.ok (two w b t st' sm'):=by
 have ne:∀x o,w.heap[x]?=some o->(∀c t fr,o=.cells c t fr->∀i,i<c.size->τ.canR (.cell ⟨x,i,none⟩))->(two w b t st' sm').heap[x]?=some o:=by
  intro x o f K
  have:x≠b:=by
   intro e;subst e;rw[show w.heap[x]?=_ from H]at f;cases f;exact G ⟨x,0,none⟩ rfl (Nat.zero_lt_two) (K _ _ _ rfl 0 S1)
  simp only[two];rw[Array.getElem?_setIfInBounds_ne (Ne.symm this)];exact f
 refine⟨λ x o f=>ne x o (h.imm x o f) λ c t fr e i z=>Qx.2 (.inr ⟨c,t,fr,by rw[<- e];exact f,z⟩),λ r E=>?_,h.apart,h.sep⟩;have F:=h.held r E;cases r with
 |obj x o=>exact ne x o F λ c t fr e i z=>Qx.2 (.inl ⟨_,E,by subst e;exact⟨rfl,z⟩⟩)
 |cell x i v t n=>
  obtain⟨c,B,L,I⟩:=F;refine⟨c,?_,L,I⟩
  have:x≠b:=by
   intro e;subst e;rw[show w.heap[x]?=_ from H]at B;cases B;have z:i<2:=by simpa using(Array.getElem?_eq_some_iff.1 I).1
   exact G ⟨x,i,none⟩ rfl z (Qx.2 (.inl ⟨_,E,rfl,rfl⟩))
  simp only[two];rw[Array.getElem?_setIfInBounds_ne (Ne.symm this)];exact B
def Sh.guar(h:Sh b t st sm w)(g:ZQ U w w' U')(E:QI b U):Sh b t st sm w':=by
 obtain⟨F,G,B,H,I,K⟩:=g.cells b _ t (0,0) h;obtain rfl:=K.resolve_right λ h=>E ⟨b,0,none⟩ rfl Nat.zero_lt_two (Zu (h.2 0 S1))
 have:F=#[st,sm]:=by
  apply Array.ext H;intro i z f;have:=I i λ L=>E ⟨b,i,none⟩ rfl (by simpa using f) (Zu L);rw[Array.getElem?_eq_getElem z,Array.getElem?_eq_getElem f]at this;exact Option.some.inj this
 rw[this]at B;exact B
structure VI(V:Hd->Qa T)(w:World):Prop where
 ok:∀k,(V k).ok w
 sep:∀k k' l,k≠k'->(V k).canW l->¬(V k').canR l
def Q1(V:Hd->α)(k:Hd)(U:α):Hd->α:=λ k'=>if k'=k then U else V k'
def Ql(V:Hd->α)(k:Hd)(U:α):Q1 V k U k=U:=by simp[Q1]
def Qh(V:Hd->α)(U:α)(h:k'≠δ):Q1 V δ U k'=V k':=by simp[Q1,h]
def VI.priv(h:VI γ w)(g:ZQ (γ δ) w w' U')(ok:U'.ok w'):VI (Q1 γ δ U') w':=by
 refine⟨λ k'=>?_,λ B E l z f b=>?_⟩
 .by_cases e:k'=δ
  .subst e;rw[Ql];exact ok
  .rw[Qh _ _ e];exact pC g (h.ok k') λ l G=>h.sep δ k' l (Ne.symm e) G
 .by_cases e:B=δ
  .subst e;rw[Ql]at f;rw[Qh _ _ (Ne.symm z)]at b;rcases g.cw l f with f|f
   .exact h.sep _ _ l z f b
   .exact KG (h.ok _) b f
  .rw[Qh _ _ e]at f;by_cases F:E=δ
   .subst F;rw[Ql]at b;rcases g.cr l b with b|b
    .exact h.sep _ _ l z f b
    .exact KG (h.ok _) (Zu f) b
   .rw[Qh _ _ F]at b;exact h.sep _ _ l z f b
def VI.shift(h:VI γ w)(I:Qv (γ δ) U'):VI (Q1 γ δ U') w:=by
 obtain⟨F,G,H⟩:=I.2 w (h.ok δ);refine⟨λ k'=>?_,λ b f l z E B=>?_⟩
 .by_cases e:k'=δ
  .subst e;rw[Ql];exact F
  .rw[Qh _ _ e];exact h.ok k'
 .refine h.sep b f l z ?_ ?_
  .by_cases e:b=δ
   .subst e;rw[Ql]at E;exact G l E
   .rwa [Qh _ _ e]at E
  .by_cases e:f=δ
   .subst e;rw[Ql]at B;exact H l B
   .rwa [Qh _ _ e]at B
def VI.two{V:Hd->Qa T}{w:World}{b:Nat}{t:TypeId}{st sm st' sm':Value}(h:VI V w)(z:Sh b t st sm w)(f:∀k,QI b (V k)):VI V (two w b t st' sm'):=
 ⟨λ k=>HN (h.ok k) z (f k),h.sep⟩
def VI.heap{V:Hd->Qa T}{w w':World}(h:VI V w)(e:w'.heap=w.heap):VI V w':=⟨λ k=>ke (h.ok k) e,h.sep⟩
structure Hs(U Up Uc:Qa T):Prop where
 ok:∀w,U.ok w->Up.ok w/\Uc.ok w
 wp:∀l,Up.canW l->U.canW l
 rp:∀l,Up.canR l->U.canR l
 wc:∀l,Uc.canW l->U.canW l
 rc:∀l,Uc.canR l->U.canR l
 pc:∀l,Up.canW l->¬Uc.canR l
 cp:∀l,Uc.canW l->¬Up.canR l
def VI.fork{k c:Hd}{Uc:Qa T}(h:VI γ w)(B:Hs (γ k) Up Uc)(L:k≠c):VI (Q1 (Q1 γ k Up) c Uc) w:=by
 have K:∀k' l,(Q1 (Q1 γ k Up) c Uc k').canW l->(k'=k/\Up.canW l/\(γ k).canW l)\/(k'=c/\Uc.canW l/\(γ k).canW l)\/(k'≠k/\k'≠c/\(γ k').canW l):=by
  intro k' l b;by_cases e:k'=c
  .subst e;rw[Ql]at b;exact .inr (.inl ⟨rfl,b,B.wc l b⟩)
  .rw[Qh _ _ e]at b;by_cases z:k'=k
   .subst z;rw[Ql]at b;exact .inl ⟨rfl,b,B.wp l b⟩
   .rw[Qh _ _ z]at b;exact .inr (.inr ⟨z,e,b⟩)
 have I:∀k' l,(Q1 (Q1 γ k Up) c Uc k').canR l->(k'=k/\Up.canR l/\(γ k).canR l)\/(k'=c/\Uc.canR l/\(γ k).canR l)\/(k'≠k/\k'≠c/\(γ k').canR l):=by
  intro k' l b;by_cases e:k'=c
  .subst e;rw[Ql]at b;exact .inr (.inl ⟨rfl,b,B.rc l b⟩)
  .rw[Qh _ _ e]at b;by_cases z:k'=k
   .subst z;rw[Ql]at b;exact .inl ⟨rfl,b,B.rp l b⟩
   .rw[Qh _ _ z]at b;exact .inr (.inr ⟨z,e,b⟩)
 refine⟨λ k'=>?_,λ Q S l f P N=>?_⟩
 .by_cases e:k'=c
  .subst e;rw[Ql];exact(B.ok w (h.ok k)).2
  .rw[Qh _ _ e];by_cases z:k'=k
   .subst z;rw[Ql];exact(B.ok w (h.ok k')).1
   .rw[Qh _ _ z];exact h.ok k'
 .rcases K _ _ P with⟨rfl,F,H⟩|⟨rfl,F,H⟩|⟨W,Y,F⟩ <;> rcases I _ _ N with⟨e,E,G⟩|⟨e,E,G⟩|⟨U,X,E⟩
  .exact f e.symm
  .exact B.pc l F E
  .exact h.sep _ _ l f H E
  .exact B.cp l F E
  .exact f e.symm
  .exact h.sep k _ l (Ne.symm U) H E
  .subst e;exact h.sep _ _ l f F G
  .exact h.sep _ k l W F G
  .exact h.sep _ _ l f F E
def Qa.bare(τ:T):Qa T:=⟨λ _=>none,[],τ⟩
def K_(τ:T)(w:World):(Qa.bare τ).ok w:=⟨λ _ _ h=>(by cases h),λ _ h=>(by cases h),Pairwise.nil,λ _ h=>(by cases h)⟩
def Wh(τ:T)(l:Loc):¬(Qa.bare τ).canW l:=λ h=>by obtain⟨r,b,_⟩:=Q4.1 h;cases b
def Wg(τ:T)(l:Loc):¬(Qa.bare τ).canR l:=λ h=>by
 rcases Qx.1 h with⟨r,b,_⟩|h
 .cases b
 .cases l <;> simp[Qa.bare]at h
def Qa.with(U:Qa T)(M:List Qw):Qa T:={ U with M:=U.M++M }
def Ox(h:(U.with τ.M).canW l):U.canW l\/τ.canW l:=by
 obtain⟨r,b,f⟩:=Q4.1 h;rcases mem_append.1 b with b|b
 .exact .inl (Q4.2 ⟨r,b,f⟩)
 .exact .inr (Q4.2 ⟨r,b,f⟩)
def Ow(h:(U.with τ.M).canR l):U.canR l\/τ.canR l:=by
 rcases Qx.1 h with⟨r,b,f⟩|h
 .rcases mem_append.1 b with b|b
  .exact .inl (Qx.2 (.inl ⟨r,b,f⟩))
  .exact .inr (Qx.2 (.inl ⟨r,b,f⟩))
 .exact .inl (Qx.2 (.inr h))
def S6(h:μ∈U.M):(∀b o,μ=.obj b o->U.canW (.obj b))/\(∀b i v t n,μ=.cell b i v t n->U.canW (.cell ⟨b,i,none⟩))/\(∀b c t fr i,μ=.obj b (.cells c t fr)->i<c.size->U.canW (.cell ⟨b,i,none⟩)):=by
 refine⟨λ b o e=>Q4.2 ⟨μ,h,?_⟩,λ b i v t n e=>Q4.2 ⟨μ,h,?_⟩,λ b c t fr i e f=>Q4.2 ⟨μ,h,?_⟩⟩
 .subst e;cases o <;> rfl
 .subst e;exact⟨rfl,rfl⟩
 .subst e;exact⟨rfl,f⟩
def kD(B:U.ok w)(H:τ.ok w)(N:∀l,U.canW l->¬τ.canR l)(X:∀l,τ.canW l->¬U.canR l):(U.with τ.M).ok w:=by
 refine⟨B.imm,λ r f=>?_,?_,λ r f=>?_⟩
 .rcases mem_append.1 f with f|f
  .exact B.held r f
  .exact H.held r f
 .refine pairwise_append.2 ⟨B.apart,H.apart,λ r f Q E=>?_⟩;obtain⟨Y,S,Z⟩:=S6 f;obtain⟨P,b2,b3⟩:=S6 E;have W:=B.held r f;have K:=H.held Q E;cases r with
  |obj b o=>
   cases Q with
   |obj G L=>
    simp only[Qw.apart,Qw.blk];intro e;subst e;exact N _ (Y _ _ rfl) (Zu (P _ _ rfl))
   |cell G i v t n=>
    simp only[Qw.apart,Qw.blk];intro e;subst e;obtain⟨c,h,V,F⟩:=K
    have:o=.cells c t (0,0):=by
     have z:w.heap[b]?=some o:=W;rw[z]at h;exact Option.some.inj h
    subst this;exact N _ (Z _ _ _ _ i rfl (Array.getElem?_eq_some_iff.1 F).1) (Zu (b2 _ _ _ _ _ rfl))
  |cell b i v t n=>
   cases Q with
   |obj G L=>
    simp only[Qw.apart,Qw.blk];intro e;subst e;obtain⟨c,h,V,F⟩:=W
    have:L=.cells c t (0,0):=by
     have z:w.heap[b]?=some L:=K;rw[z]at h;exact Option.some.inj h
    subst this;exact N _ (S _ _ _ _ _ rfl) (Zu (b3 _ _ _ _ i rfl (Array.getElem?_eq_some_iff.1 F).1))
   |cell G i' v' t' n'=>
    simp only[Qw.apart];by_cases e:b=G
    .by_cases e2:i=i'
     .subst e;subst e2;exact absurd (Zu (b2 _ _ _ _ _ rfl)) (N _ (S _ _ _ _ _ rfl))
     .exact .inr e2
    .exact .inl e
 .rcases mem_append.1 f with f|f
  .exact B.sep r f
  .show U.I r.blk=none;cases e:U.I r.blk with
   |none=>rfl
   |some o=>
    exfalso;obtain⟨P,b2,b3⟩:=S6 f;have K:=H.held r f;cases r with
    |obj b L=>exact X _ (P _ _ rfl) (Qx.2 (.inr ⟨o,e⟩))
    |cell b i v t n=>
     obtain⟨c,h,V,F⟩:=K;have z:w.heap[b]?=some o:=B.imm _ _ e;rw[h]at z;cases z;exact X _ (b2 _ _ _ _ _ rfl) (Qx.2 (.inr ⟨c,t,(0,0),e,(Array.getElem?_eq_some_iff.1 F).1⟩))
def VI.join{k:Hd}(h:VI γ w)(E:k≠k')(τ:T):VI (Q1 (Q1 γ k ((γ k).with (γ k').M)) k' (Qa.bare τ)) w:=by
 have F:=kD (h.ok k) (h.ok k') (λ l b=>h.sep k k' l E b) (λ l b=>h.sep k' k l (Ne.symm E) b)
 have I:∀x l,(Q1 (Q1 γ k ((γ k).with (γ k').M)) k' (Qa.bare τ) x).canW l->x≠k'/\((γ x).canW l\/(x=k/\(γ k').canW l)):=by
  intro x l b;by_cases e:x=k'
  .subst e;rw[Ql]at b;exact absurd b (Wh _ _)
  .rw[Qh _ _ e]at b;refine⟨e,?_⟩;by_cases f:x=k
   .subst f;rw[Ql]at b;exact(Ox b).imp id λ h=>⟨rfl,h⟩
   .rw[Qh _ _ f]at b;exact .inl b
 have H:∀x l,(Q1 (Q1 γ k ((γ k).with (γ k').M)) k' (Qa.bare τ) x).canR l->x≠k'/\((γ x).canR l\/(x=k/\(γ k').canR l)):=by
  intro x l b;by_cases e:x=k'
  .subst e;rw[Ql]at b;exact absurd b (Wg _ _)
  .rw[Qh _ _ e]at b;refine⟨e,?_⟩;by_cases f:x=k
   .subst f;rw[Ql]at b;exact(Ow b).imp id λ h=>⟨rfl,h⟩
   .rw[Qh _ _ f]at b;exact .inl b
 refine⟨λ x=>?_,λ N P l G L K=>?_⟩
 .by_cases e:x=k'
  .subst e;rw[Ql];exact K_ _ _
  .rw[Qh _ _ e];by_cases f:x=k
   .subst f;rw[Ql];exact F
   .rw[Qh _ _ f];exact h.ok x
 .obtain⟨n1,B⟩:=I _ _ L;obtain⟨Q,z⟩:=H _ _ K;rcases B with B|⟨rfl,B⟩ <;> rcases z with z|⟨e,z⟩
  .exact h.sep _ _ l G B z
  .exact h.sep _ k' l n1 B z
  .exact h.sep k' _ l (Ne.symm Q) B z
  .exact G e.symm
def pS(U:Qa T)(τ f:T):Hs U (Qa.bare τ) ⟨λ _=>none,U.M,f⟩:=by
 have B:∀l,(Qa.canW ⟨λ _=>none,U.M,f⟩ l)->U.canW l:=λ l b=>Q4.2 (Q4.1 b)
 have z:∀l,(Qa.canR ⟨λ _=>none,U.M,f⟩ l)->U.canR l:=by
  intro l b;rcases Qx.1 b with b|b
  .exact Qx.2 (.inl b)
  .cases l <;> simp at b
 exact⟨λ w ok=>⟨K_ _ _,⟨λ _ _ h=>(by cases h),ok.held,ok.apart,λ _ _=>rfl⟩⟩,λ l h=>absurd h (Wh _ _),λ l h=>absurd h (Wg _ _),B,z,λ l h=>absurd h (Wh _ _),λ l _ h=>Wg _ _ h⟩
def Qw.lets_blk(h:μ.lets l):(∃a,l=.cell a/\a.block=μ.blk)\/l=.obj μ.blk:=by
 cases μ with
 |obj b o=>
  cases l with
  |cell a=>cases o <;> simp only[Qw.lets]at h;exact .inl ⟨a,rfl,h.1⟩
  |obj f=>right;cases o <;> simp only[Qw.lets]at h <;> rw[h] <;> rfl
  |_=>cases o <;> exact h.elim
 |cell b i v t n=>
  cases l with
  |cell a=>exact .inl ⟨a,rfl,h.1⟩
  |_=>exact h.elim
def Qw.apart_lets(h:μ.apart ν)(z:μ.lets l)(B:ν.lets l):False:=by
 have key:μ.blk≠ν.blk->False:=λ w=>by
  rcases Qw.lets_blk z with⟨a,rfl,e⟩|rfl
  .rcases Qw.lets_blk B with⟨a',e',f⟩|e'
   .cases e';exact w (e.symm.trans f)
   .cases e'
  .rcases Qw.lets_blk B with⟨a',e',f⟩|e'
   .cases e'
   .exact w (by simpa using e')
 cases μ with
 |obj b o=>exact key (by cases ν <;> exact h)
 |cell b i v t n=>
  cases ν with
  |obj E o=>exact key h
  |cell E j K t' n'=>
   cases l with
   |cell a=>
    obtain⟨F,G⟩:=z;obtain⟨H,I⟩:=B;rcases h with h|h
    .exact h (F.symm.trans H)
    .exact h (G.symm.trans I)
   |_=>exact z.elim
def FK(N:U.ok w){M₁ M₂:List Qw}(h:Perm U.M (M₁++M₂)):Hs U ⟨U.I,M₂,tp⟩ ⟨U.I,M₁,tc⟩:=by
 have B:=(h.pairwise_iff (λ{x y}h=>Qw.apart_symm h)).1 N.apart;rw[pairwise_append]at B;have H:∀r∈M₁,r∈U.M:=λ r z=>h.mem_iff.2 (mem_append_left _ z);have K:∀r∈M₂,r∈U.M:=λ r z=>h.mem_iff.2 (mem_append_right _ z)
 have L:∀(r:Qw)(l:Loc),r∈U.M->r.lets l->(match l with|.cell a=>∃c t fr,U.I a.block=some (.cells c t fr)/\a.off<c.size|.obj b=>∃o,U.I b=some o|_=>False)->False:=by
  intro r l z f F;have G:=N.sep r z;rcases Qw.lets_blk f with⟨a,rfl,e⟩|rfl
  .obtain⟨c,t,fr,hc,_⟩:=F;rw[e,G]at hc;cases hc
  .obtain⟨o,ho⟩:=F;rw[G]at ho;cases ho
 refine⟨λ w ok=>?_,λ l f=>?_,λ l f=>?_,λ l f=>?_,λ l f=>?_,λ l f z=>?_,λ l f z=>?_⟩
 .have hap':=(h.pairwise_iff (λ{x y}h=>Qw.apart_symm h)).1 ok.apart;rw[pairwise_append]at hap';exact⟨⟨ok.imm,λ r z=>ok.held r (K r z),hap'.2.1,λ r z=>ok.sep r (K r z)⟩,⟨ok.imm,λ r z=>ok.held r (H r z),hap'.1,λ r z=>ok.sep r (H r z)⟩⟩
 .rw[Q4]at f ⊢;obtain⟨r,z,f⟩:=f;exact⟨r,K r z,f⟩
 .rw[Qx]at f ⊢;exact f.imp (λ⟨r,z,f⟩=>⟨r,K r z,f⟩) id
 .rw[Q4]at f ⊢;obtain⟨r,z,f⟩:=f;exact⟨r,H r z,f⟩
 .rw[Qx]at f ⊢;exact f.imp (λ⟨r,z,f⟩=>⟨r,H r z,f⟩) id
 .obtain⟨r,hr_2,f⟩:=Q4.1 f;rcases Qx.1 z with⟨s,G,E⟩|F
  .exact Qw.apart_lets (B.2.2 s G r hr_2) E f
  .exact L r l (K r hr_2) f F
 .obtain⟨r,hr_2,f⟩:=Q4.1 f;rcases Qx.1 z with⟨s,G,E⟩|F
  .exact Qw.apart_lets (B.2.2 r hr_2 s G) f E
  .exact L r l (H r hr_2) f F
def F5(B:U.ok w){M₁ M₂:List Qw}(h:Perm U.M (M₁++M₂)):Hs U ⟨U.I,M₂,tp⟩ ⟨λ _=>none,M₁,tc⟩:=by
 have f:=FK (tp:=tp) (tc:=tc) B h;have cw:∀l,(Qa.canW ⟨λ _=>none,M₁,tc⟩ l)->(Qa.canW ⟨U.I,M₁,tc⟩ l):=λ l b=>Q4.2 (Q4.1 b)
 have cr:∀l,(Qa.canR ⟨λ _=>none,M₁,tc⟩ l)->(Qa.canR ⟨U.I,M₁,tc⟩ l):=by
  intro l b;rcases Qx.1 b with b|b
  .exact Qx.2 (.inl b)
  .cases l <;> simp at b
 exact⟨λ w ok=>⟨(f.ok w ok).1,⟨λ _ _ h=>(by cases h),(f.ok w ok).2.held,(f.ok w ok).2.apart,λ _ _=>rfl⟩⟩,f.wp,f.rp,λ l b=>f.wc l (cw l b),λ l b=>f.rc l (cr l b),λ l b z=>f.pc l b (cr l z),λ l b z=>f.cp l (cw l b) z⟩
abbrev Spec:=List Qw->Prop
variable{ds:List Spec}{D:Spec}
inductive PS where
 |run|seen (u:Nat)|wait|up
variable{k:PS}
inductive Ph where
 |out
 |par (b:Nat) (ds:List Spec) (pend:Bool) (k:PS)
 |wrk (b:Nat) (D:Spec)
 |rel (b:Nat)
 |lst (b:Nat) (i:Nat)
variable{tk:Nat->Ph}{p:Ph}
inductive LP where
 |idle|got|own (x:Bool)|rls|unl|unl2|fin|wai|wok
def LP.rels:LP->Bool
 |.rls|.unl|.unl2|.fin=>true
 |_=>false
def LP.isOwn:LP->Bool
 |.own _=>true
 |_=>false
def LP.cls:LP->Nat
 |.idle=>0
 |.fin=>2
 |_=>1
def LP.word:LP->LP->Option (Nat×Nat)
 |.idle,.idle|.idle,.fin|.fin,.idle|.fin,.fin=>some (0,0)
 |.got,.idle|.rls,.idle|.got,.fin|.rls,.fin|.idle,.got|.idle,.rls|.fin,.got|.fin,.rls=>some (1,0)
 |.own x,.idle|.idle,.own x=>if x=false then some (1,0)else none
 |.own x,.fin|.fin,.own x=>if x=true then some (1,0)else none
 |.got,.wai|.rls,.wai|.wai,.got|.wai,.rls=>some (9,0)
 |.own x,.wai|.wai,.own x=>if x=false then some (9,0)else none
 |.unl,.wai|.wai,.unl=>some (8,0)
 |.unl2,.wai|.wai,.unl2=>some (2,0)
 |.fin,.wai|.wai,.fin=>some (2,1)
 |.fin,.wok|.wok,.fin=>some (2,0)
 |_,_=>none
def LP.word_symm(p q:LP):LP.word p q=LP.word q p:=by cases p <;> cases q <;> rfl
structure QV where
 m:Nat
 t:TypeId
 sp:Bool->Bool->Spec
inductive ZN where
 |par (x:QV) (u:Bool->Bool)
 |lok (x:QV) (s:Bool) (me:LP) (lo:Nat)
def ZN.mb:Option ZN->Option Nat
 |some (.par x _)=>some x.m
 |_=>none
structure Tk where
 d:Nat
 ph:Ph
 mu:Option ZN
def ZI(f:Bool->α)(s:Bool)(x:α):Bool->α:=λ j=>if j=s then x else f j
def J6(f:Bool->α)(s:Bool)(x:α):ZI f s x s=x:=by simp[ZI]
def Xl(f:Bool->α)(x:α)(h:pend≠m):ZI f m x pend=f pend:=by simp[ZI,h]
def KK(f:Bool->α)(s:Bool)(x:α):ZI f s x (!s)=f (!s):=Xl _ _ (by cases s <;> simp)
def LM(b:Bool->LP):Option (Nat×Nat):=LP.word (b false) (b true)
def H2(b:Bool->LP)(s:Bool):LM b=LP.word (b s) (b (!s)):=by
 cases s
 .rfl
 .exact LP.word_symm _ _
def QV.dep(x:QV)(b:Bool->LP)(M:List Qw):Prop:=x.sp (b false).rels (b true).rels M
def Ph.blk:Ph->Option Nat
 |.out=>none
 |.par b ..|.wrk b _|.rel b|.lst b _=>some b
def ZT:Ph->Bool
 |.wrk ..|.rel _=>true
 |_=>false
def Zo(f:Nat->α)(i:Nat)(x:α):Nat->α:=λ j=>if j=i then x else f j
def Qj(f:Nat->α)(i:Nat)(x:α):Zo f i x i=x:=by simp[Zo]
def Qu(f:Nat->α)(x:α)(h:j≠i):Zo f i x j=f j:=by simp[Zo,h]
def EZ(f:Nat->α)(p:α->Bool)(i:Nat)(x:α):∀{W:List Nat},W.Nodup->i∈W->W.countP (λ j=>p (Zo f i x j))+(p (f i)).toNat=W.countP (λ j=>p (f j))+(p x).toNat:=by
 intro W
 induction W with
 |nil=>intro _ h;cases h
 |cons a W E=>
  intro b z;obtain⟨w,b⟩:=nodup_cons.1 b;simp only[countP_cons];by_cases e:a=i
  .subst e
   have:W.countP (λ j=>p (Zo f a x j))=W.countP (λ j=>p (f j)):=by
    refine countP_congr λ j B=>?_;rw[Qu];intro e;subst e;exact w B
   rw[this,Qj];cases p (f a) <;> cases p x <;> simp <;> omega
  .have hi':i∈W:=by simpa[Ne.symm e]using z
   have:=E b hi';rw[Qu _ _ e];omega
def qu(f:Nat->α)(p:α->Bool)(i:Nat)(x:α)(h:i∉W):W.countP (λ j=>p (Zo f i x j))=W.countP (λ j=>p (f j)):=by
 refine countP_congr λ j b=>?_;rw[Qu];intro e;subst e;exact h b
def Xt(b:Nat)(tk:Nat->Ph):Prop:=∀i j,tk i≠.lst b j
structure GI(N b:Nat)(ds:List Spec)(pend:Bool)(k:PS)(tk:Nat->Ph)(rel:Nat->Option Nat)(dM:Nat->List Qw)(W:List Nat)(c wt s:Nat):Prop where
 nodup:W.Nodup
 len:W.length=ds.length
 spec:∀(j i:Nat)(D:Spec),W[j]?=some i->ds[j]?=some D->(tk i=.wrk b D/\rel i=none)\/((∀D',tk i≠.wrk b D')/\(∃r,rel i=some r)/\D (dM i))
 inW:∀i,(tk i≠.out\/rel i≠none)->i∈W
 cnt:c=W.countP (λ i=>ZT (tk i))+pend.toNat
 ph:∀i,tk i=.out\/(∃D,tk i=.wrk b D)\/tk i=.rel b\/∃j,tk i=.lst b j
 bound:ds.length+pend.toNat<=N
 state:match k with
  |.run=>wt=0/\s=0/\Xt b tk
  |.seen u=>c<=u/\wt=0/\s=0/\Xt b tk
  |.wait=>pend=false/\((1<=c/\wt=1/\s=0/\Xt b tk)\/(c=0/\∃i0 j0,(∀i j,tk i=.lst b j↔i=i0/\j=j0)/\((j0<=1/\wt=1/\s=0)\/(j0=2/\wt=0/\s=0)))\/(c=0/\wt=0/\s=1/\Xt b tk))
  |.up=>pend=false/\c=0/\wt=0/\s=0/\Xt b tk
def GI.cN(h:GI N b ds pend k tk rel dM W c wt s):c<=ds.length+pend.toNat:=by
 rw[h.cnt];have:=countP_le_length (p:=λ i=>ZT (tk i)) (l:=W);have:=h.len;omega
def GI.start(f:∀i,tk i=.out)(w:∀i,rel i=none):GI N b [] false .run tk rel dM [] 0 0 0:=
 ⟨.nil,rfl,λ j i D h=>by simp at h,λ i h=>by simp[f,w]at h,rfl,λ i=>.inl (f i),S1,rfl,rfl,λ i j e=>by rw[f]at e;cases e⟩
def GI.add(h:GI N b ds false .run tk rel dM W c wt s)(f:ds.length<N):GI N b ds true .run tk rel dM W (c+1) wt s:=
 ⟨h.nodup,h.len,h.spec,h.inW,by have:=h.cnt;simp at this ⊢;omega,h.ph,S3,h.state⟩
def GI.go(h:GI N b ds true .run tk rel dM W c wt s)(F:tk i=.out)(E:rel i=none)(w:i∉W) :
  GI N b (D::ds) false .run (Zo tk i (.wrk b D)) rel dM (i::W) c wt s:=by
 refine⟨nodup_cons.2 ⟨w,h.nodup⟩,by simp[h.len],?_,?_,?_,?_,?_,?_⟩
 .intro j f D' h1 h2;cases j with
  |zero=>
   simp at h1 h2;subst h1;subst h2;exact .inl ⟨Qj ..,E⟩
  |succ j=>
   simp at h1 h2;have B:f∈W:=mem_of_getElem? h1;have z:f≠i:=λ e=>w (e▸B);rw[Qu _ _ z];exact h.spec j f D' h1 h2
 .intro f h1;by_cases e:f=i
  .subst e;simp
  .rw[Qu _ _ e]at h1;exact mem_cons_of_mem _ (h.inW f h1)
 .rw[countP_cons,Qj,qu tk ZT i _ w];have:=h.cnt;simp[ZT]at this ⊢;omega
 .intro f;by_cases e:f=i
  .subst e;rw[Qj];exact .inr (.inl ⟨D,rfl⟩)
  .rw[Qu _ _ e];exact h.ph f
 .have:=h.bound;simp at this ⊢;omega
 .obtain⟨h1,h2,h3⟩:=h.state;refine⟨h1,h2,λ f j=>?_⟩;by_cases e:f=i
  .subst e;rw[Qj];intro h;cases h
  .rw[Qu _ _ e];exact h3 f j
def Hi(ds:List Spec)(u:Nat)(k:PS):Prop:=(k=.run/\u=ds.length)\/k=.seen u
def GI.seeU(h:GI N b ds false k tk rel dM W c wt s)(w:Hi ds i k):c<=i/\wt=0/\s=0/\Xt b tk:=by
 have f:=h.state;rcases w with⟨rfl,rfl⟩|rfl
 .have:=h.cN;simp at this;exact⟨this,f⟩
 .exact f
def GI.toUp(h:GI N b ds false k tk rel dM W 0 wt s)(f:Hi ds i k):GI N b ds false .up tk rel dM W 0 wt s:=
 ⟨h.nodup,h.len,h.spec,h.inW,h.cnt,h.ph,h.bound,rfl,rfl,(h.seeU f).2⟩
def GI.toSeen(h:GI N b ds false k tk rel dM W c wt s)(f:Hi ds i k):GI N b ds false (.seen c) tk rel dM W c wt s:=
 ⟨h.nodup,h.len,h.spec,h.inW,h.cnt,h.ph,h.bound,Nat.le_refl _,(h.seeU f).2⟩
def GI.toWait(h:GI N b ds false k tk rel dM W c wt s)(w:Hi ds i k)(f:1<=c):GI N b ds false .wait tk rel dM W c 1 s:=
 ⟨h.nodup,h.len,h.spec,h.inW,h.cnt,h.ph,h.bound,rfl,.inl ⟨f,rfl,(h.seeU w).2.2⟩⟩
def GI.sema(h:GI N b ds pend .wait tk rel dM W c wt 1):GI N b ds false .up tk rel dM W 0 0 0/\c=0/\wt=0/\pend=false:=by
 obtain⟨E,F⟩:=h.state;rcases F with⟨_,_,f,_⟩|⟨_,G,H,_,⟨_,_,f⟩|⟨_,_,f⟩⟩|⟨w,z,_,B⟩
 .cases f
 .cases f
 .cases f
 .subst w;subst z;subst E;exact⟨⟨h.nodup,h.len,h.spec,h.inW,h.cnt,h.ph,h.bound,rfl,rfl,rfl,rfl,B⟩,rfl,rfl,rfl⟩
def GI.up(h:GI N b ds pend .up tk rel dM W c wt s):pend=false/\c=0/\wt=0/\s=0/\(∀i,tk i=.out)/\∀i,i∈W->∃r,rel i=some r:=by
 obtain⟨w,z,I,K,L⟩:=h.state
 have F:∀i∈W,ZT (tk i)=false:=by
  have:=h.cnt;rw[z,w]at this;simp at this;have H:W.countP (λ i=>ZT (tk i))=0:=O1
  intro i B;have:=countP_eq_zero.1 H i B;simpa using this
 have f:∀i,tk i=.out:=by
  intro i;rcases h.ph i with e|⟨D,e⟩|e|⟨j,e⟩
  .exact e
  .have:=F i (h.inW i (.inl (by rw[e];simp)));rw[e]at this;cases this
  .have:=F i (h.inW i (.inl (by rw[e];simp)));rw[e]at this;cases this
  .exact absurd e (L i j)
 refine⟨w,z,I,K,f,λ i B=>?_⟩;obtain⟨j,G,e⟩:=mem_iff_getElem.1 B;have E:j<ds.length:=by rw[<- h.len];exact G
 rcases h.spec j i ds[j] (by rw[getElem?_eq_getElem G,e]) (getElem?_eq_getElem E)with⟨w,_⟩|⟨_,z,_⟩
 .rw[f]at w;cases w
 .exact z
def JK:List Spec->List (List Qw)->Prop
 |[],[]=>True
 |D::ds,M::b=>D M/\JK ds b
 |_,_=>False
def IV:∀{ds:List Spec}{W:List Nat},W.length=ds.length->(∀(j i:Nat)(D:Spec),W[j]?=some i->ds[j]?=some D->D (dM i))->JK ds (W.map dM)
 |[],[],_,_=>trivial
 |[],_::_,h,_=>by simp at h
 |_::_,[],h,_=>by simp at h
 |D::ds,i::W,h,b=>⟨b 0 i D rfl rfl,IV (by simpa using h) λ j B f w z=>b (j+1) B f (by simpa using w) (by simpa using z)⟩
def GI.deps(h:GI N b ds pend .up tk rel dM W c wt s):JK ds (W.map dM):=by
 refine IV h.len λ j i D w z=>?_;rcases h.spec j i D w z with⟨f,_⟩|⟨_,_,f⟩
 .rw[h.up.2.2.2.2.1]at f;cases f
 .exact f
def GI.rel_{r:Nat}(h:GI N b ds pend k tk rel dM W c wt s)(G:tk i=.wrk b D)(S:D M) :
  GI N b ds pend k (Zo tk i (.rel b)) (Zo rel i (some r)) (Zo dM i M) W c wt s/\rel i=none:=by
 have K:i∈W:=h.inW i (.inl (by rw[G];simp))
 have H:rel i=none:=by
  obtain⟨j,P,e⟩:=mem_iff_getElem.1 K;have L:j<ds.length:=by rw[<- h.len];exact P
  rcases h.spec j i ds[j] (by rw[getElem?_eq_getElem P,e]) (getElem?_eq_getElem L)with⟨_,w⟩|⟨w,_⟩
  .exact w
  .exact absurd G (w D)
 have F:∀f j,Zo tk i (.rel b) f=.lst b j↔tk f=.lst b j:=by
  intro f j;by_cases e:f=i
  .subst e;rw[Qj,G];simp
  .rw[Qu _ _ e]
 have B:Xt b tk->Xt b (Zo tk i (.rel b)):=λ T f j e=>T f j ((F f j).1 e);refine⟨⟨h.nodup,h.len,?_,?_,?_,?_,h.bound,?_⟩,H⟩
 .intro j f D' z w;by_cases e:f=i
  .subst e;refine .inr ⟨λ Q h=>(by rw[Qj]at h;cases h),⟨r,Qj ..⟩,?_⟩;rw[Qj];rcases h.spec j f D' z w with⟨E,_⟩|⟨E,_⟩
   .rw[G]at E;cases E;exact S
   .exact absurd G (E D)
  .rw[Qu _ _ e,Qu _ _ e,Qu _ _ e];exact h.spec j f D' z w
 .intro f z;by_cases e:f=i
  .subst e;exact K
  .rw[Qu _ _ e,Qu _ _ e]at z;exact h.inW f z
 .have:=EZ tk ZT i (.rel b) h.nodup K;rw[G]at this;have w:=h.cnt;simp[ZT]at this w ⊢;omega
 .intro f;by_cases e:f=i
  .subst e;rw[Qj];exact .inr (.inr (.inl rfl))
  .rw[Qu _ _ e];exact h.ph f
 .have:=h.state;cases k with
  |run=>exact⟨this.1,this.2.1,B this.2.2⟩
  |seen u=>exact⟨this.1,this.2.1,this.2.2.1,B this.2.2.2⟩
  |wait=>
   refine⟨this.1,?_⟩;rcases this.2 with⟨z,w,E,I⟩|⟨z,U,V,w,E⟩|⟨z,w,E,I⟩
   .exact .inl ⟨z,w,E,B I⟩
   .exact .inr (.inl ⟨z,U,V,λ f j=>(F f j).trans (w f j),E⟩)
   .exact .inr (.inr ⟨z,w,E,B I⟩)
  |up=>exact⟨this.1,this.2.1,this.2.2.1,this.2.2.2.1,B this.2.2.2.2⟩
def GI.move(h:GI N b ds pend k tk rel dM W c wt s)(G:tk i=.rel b\/∃j,tk i=.lst b j)(E:p=.out\/∃j,p=.lst b j) :
  i∈W/\(∀(j f:Nat)(D:Spec),W[j]?=some f->ds[j]?=some D->(Zo tk i p f=.wrk b D/\rel f=none)\/((∀z,Zo tk i p f≠.wrk b z)/\(∃r,rel f=some r)/\D (dM f))) /\
  (∀f,(Zo tk i p f≠.out\/rel f≠none)->f∈W)/\(W.countP (λ j=>ZT (Zo tk i p j))+(ZT (tk i)).toNat=W.countP (λ j=>ZT (tk j))) /\
  (∀f,Zo tk i p f=.out\/(∃D,Zo tk i p f=.wrk b D)\/Zo tk i p f=.rel b\/∃j,Zo tk i p f=.lst b j):=by
 have B:i∈W:=h.inW i (.inl (by rcases G with e|⟨j,e⟩ <;> rw[e] <;> simp));have F:∀D,p≠.wrk b D:=by rintro D rfl;rcases E with e|⟨j,e⟩ <;> cases e
 refine⟨B,?_,?_,?_,?_⟩
 .intro j f D h1 h2;by_cases e:f=i
  .subst e;rcases h.spec j f D h1 h2 with⟨w,_⟩|⟨_,w⟩
   .rcases G with e|⟨H,e⟩ <;> rw[e]at w <;> cases w
   .exact .inr ⟨λ z h=>F z (by rwa [Qj]at h),w⟩
  .rw[Qu _ _ e];exact h.spec j f D h1 h2
 .intro f h1;by_cases e:f=i
  .subst e;exact B
  .rw[Qu _ _ e]at h1;exact h.inW f h1
 .have:=EZ tk ZT i p h.nodup B;have e:ZT p=false:=by rcases E with e|⟨j,e⟩ <;> rw[e] <;> rfl
  rw[e]at this;simpa using this
 .intro f;by_cases e:f=i
  .subst e;rw[Qj];exact E.elim .inl λ x=>.inr (.inr (.inr x))
  .rw[Qu _ _ e];exact h.ph f
def GI.relC(h:GI N b ds pend k tk rel dM W c wt s)(z:tk i=.rel b):1<=c/\c<=N/\wt<=1/\s=0:=by
 have B:i∈W:=h.inW i (.inl (by rw[z];simp))
 have E:1<=c:=by
  rw[h.cnt];have:0<W.countP (λ i=>ZT (tk i)):=countP_pos_iff.2 ⟨i,B,by rw[z];rfl⟩;omega
 refine⟨E,Nat.le_trans h.cN h.bound,?_⟩;have:=h.state;cases k with
 |run=>obtain⟨f,w,_⟩:=this;omega
 |seen u=>obtain⟨_,f,w,_⟩:=this;omega
 |wait=>
  rcases this.2 with⟨_,w,F,_⟩|⟨f,_⟩|⟨f,_⟩
  .omega
  .omega
  .omega
 |up=>obtain⟨_,f,_⟩:=this;omega
def GI.leave(h:GI N b ds pend k tk rel dM W c wt s)(z:tk i=.rel b)(E:¬(c=1/\wt=1)) :
  GI N b ds pend k (Zo tk i .out) rel dM W (c-1) wt s:=by
 obtain⟨Q,-,-,S⟩:=h.relC z;obtain⟨P,G,H,B,I⟩:=h.move (p:=.out) (.inl z) (.inl rfl)
 have f:Xt b tk->Xt b (Zo tk i .out):=by
  intro E F j e;by_cases e':F=i
  .subst e';rw[Qj]at e;cases e
  .rw[Qu _ _ e']at e;exact E F j e
 refine⟨h.nodup,h.len,G,H,?_,I,h.bound,?_⟩
 .have:=h.cnt;rw[z]at B;simp only[show ZT (Ph.rel b)=true from rfl,Bool.toNat_true]at B;omega
 .have:=h.state;cases k with
  |run=>exact⟨this.1,this.2.1,f this.2.2⟩
  |seen u=>exact⟨Nat.le_trans (Nat.sub_le _ _) this.1,this.2.1,this.2.2.1,f this.2.2.2⟩
  |wait=>
   refine⟨this.1,?_⟩;rcases this.2 with⟨_,w,K,L⟩|⟨w,_⟩|⟨w,_⟩
   .exact .inl ⟨O1,w,K,f L⟩
   .omega
   .omega
  |up=>obtain⟨_,w,_⟩:=this;omega
def GI.last{i:Nat}(h:GI N b ds pend k tk rel dM W 1 1 s)(z:tk i=.rel b) :
  k=.wait/\GI N b ds pend .wait (Zo tk i (.lst b 0)) rel dM W 0 1 s:=by
 obtain⟨Q,-,-,S⟩:=h.relC z;obtain⟨P,G,H,B,I⟩:=h.move (p:=.lst b 0) (.inl z) (.inr ⟨0,rfl⟩);have f:=h.state;have E:=h.cnt;cases k with
 |run=>exact absurd f.1 D1
 |seen u=>exact absurd f.2.1 D1
 |up=>exact absurd f.2.1 D1
 |wait=>
  refine⟨rfl,h.nodup,h.len,G,H,?_,I,h.bound,f.1,?_⟩
  .rw[z]at B;simp only[show ZT (Ph.rel b)=true from rfl,Bool.toNat_true]at B;omega
  .rcases f.2 with⟨_,w,K,L⟩|⟨w,_⟩|⟨w,_⟩
   .refine .inr (.inl ⟨rfl,i,0,λ F j=>?_,.inl ⟨O1,rfl,K⟩⟩);by_cases e:F=i
    .subst e;rw[Qj];constructor
     .intro e;cases e;exact⟨rfl,rfl⟩
     .rintro⟨_,rfl⟩;rfl
    .rw[Qu _ _ e];exact⟨λ e'=>absurd e' (L F j),λ e'=>absurd e'.1 e⟩
   .cases w
   .cases w
def GI.lstAt(h:GI N b ds pend k tk rel dM W c wt s)(w:tk i=.lst b j) :
  k=.wait/\c=0/\s=0/\((j<=1/\wt=1)\/(j=2/\wt=0))/\∀F G,tk F=.lst b G↔F=i/\G=j:=by
 have f:=h.state;cases k with
 |run=>exact absurd w (f.2.2 i j)
 |seen u=>exact absurd w (f.2.2.2 i j)
 |up=>exact absurd w (f.2.2.2.2 i j)
 |wait=>
  rcases f.2 with⟨_,_,_,z⟩|⟨H,I,K,B,E⟩|⟨_,_,_,z⟩
  .exact absurd w (z i j)
  .obtain⟨rfl,rfl⟩:=(B i j).1 w;refine⟨rfl,H,?_,?_,B⟩
   .rcases E with⟨_,_,h⟩|⟨_,_,h⟩ <;> exact h
   .rcases E with⟨a,b,_⟩|⟨a,b,_⟩
    .exact .inl ⟨a,b⟩
    .exact .inr ⟨a,b⟩
  .exact absurd w (z i j)
def GI.next{wt':Nat}(h:GI N b ds pend k tk rel dM W c wt s)(f:tk i=.lst b j)(F:(j=0/\wt'=1)\/(j=1/\wt'=0)) :
  GI N b ds pend k (Zo tk i (.lst b (j+1))) rel dM W c wt' s:=by
 obtain⟨rfl,B,w,L,E⟩:=h.lstAt f;obtain⟨P,H,I,z,K⟩:=h.move (p:=.lst b (j+1)) (.inr ⟨j,f⟩) (.inr ⟨j+1,rfl⟩);refine⟨h.nodup,h.len,H,I,?_,K,h.bound,h.state.1,.inr (.inl ⟨B,i,j+1,λ G Q=>?_,?_⟩)⟩
 .have:=h.cnt;rw[f]at z;simp only[show ∀j,ZT (Ph.lst b j)=false from λ _=>rfl,Bool.toNat_false]at z;omega
 .by_cases e:G=i
  .subst e;rw[Qj];constructor
   .intro e;cases e;exact⟨rfl,rfl⟩
   .rintro⟨_,rfl⟩;rfl
  .rw[Qu _ _ e,E];exact⟨λ e'=>absurd e'.1 e,λ e'=>absurd e'.1 e⟩
 .rcases F with⟨rfl,rfl⟩|⟨rfl,rfl⟩
  .exact .inl ⟨O1,rfl,w⟩
  .exact .inr ⟨rfl,rfl,w⟩
def GI.wake(h:GI N b ds pend k tk rel dM W c wt s)(f:tk i=.lst b 2):GI N b ds pend k (Zo tk i .out) rel dM W c wt 1:=by
 obtain⟨rfl,E,L,P,F⟩:=h.lstAt f;obtain⟨Q,H,I,B,K⟩:=h.move (p:=.out) (.inr ⟨2,f⟩) (.inl rfl);have w:wt=0:=O1
 refine⟨h.nodup,h.len,H,I,?_,K,h.bound,h.state.1,.inr (.inr ⟨E,w,rfl,λ z G e=>?_⟩)⟩
 .have:=h.cnt;rw[f]at B;simp only[show ∀j,ZT (Ph.lst b j)=false from λ _=>rfl,Bool.toNat_false]at B;omega
 .by_cases e':z=i
  .subst e';rw[Qj]at e;cases e
  .rw[Qu _ _ e']at e;exact e' ((F z G).1 e).1
def GI.someone(h:GI N b ds pend .wait tk rel dM W c wt 0):∃i,tk i≠.out:=by
 obtain⟨E,F⟩:=h.state;rcases F with⟨H,_,_,_⟩|⟨_,w,G,z,_⟩|⟨_,_,B,_⟩
 .have:=h.cnt;rw[E]at this;simp at this;have:0<W.countP (λ i=>ZT (tk i)):=O1
  obtain⟨i,_,f⟩:=countP_pos_iff.1 this;exact⟨i,λ e=>by rw[e]at f;cases f⟩
 .exact⟨w,λ e=>by have:=(z w G).2 ⟨rfl,rfl⟩;rw[this]at e;cases e⟩
 .cases B
inductive SE where
 |go (g:Gr) (st sm:Value) (es:Array Event) (bs:List (Nat×Bool))
 |spawn (g child:Gr) (es:Array Event)
 |blocked (g:Gr) (st sm:Value) (bs:List (Nat×Bool))
 |stuck
def Wj(fr:Frame)(cs:List Frame):Gr:={ frame:=fr,callers:=cs,status:=.running,dying:=none }
def SE.still(st sm:Value)(fr:Frame)(cs:List Frame):SE:=.go (Wj fr cs) st sm #[] []
def LH(fr:Frame):CallKind:=match fr.todo with|.call _ true _ _::_=>.wrapped|_=>.normal
def Gh(P:Program)(d:Deferred):Gr:=Wj { (default:Frame)with fn:=P.funcs.size,defers:=[d],mode:=.panicking [goexitEntry] } []
def Yg:Target->Bool
 |.fn _ _=>true
 |_=>false
def PM(P:Program)(fr:Frame)(cs:List Frame)(d:Deferred)(es:Array Event)(bs:List (Nat×Bool)):SE:=
 bif Yg d.target&&bs.isEmpty then .spawn (Wj (fr.finish undef) cs) (Gh P d) (seen P fr.fn es)else .stuck
def Xo(P:Program)(fr:Frame)(cs:List Frame):QE Next->SE
 |.ok n st sm es bs=>match fr.kind with
  |.early=>.stuck
  |_=>match n with
   |.value v=>.go (Wj (fr.finish v) cs) st sm (seen P fr.fn es) bs
   |.skip=>.go (Wj (fr.finish undef) cs) st sm (seen P fr.fn es) bs
   |.enter f args=>.go (Wj (Frame.enter P f args (LH fr)) (fr::cs)) st sm (seen P fr.fn es) bs
   |.defer d=>.go (Wj ({ fr with defers:=d::fr.defers }.finish undef) cs) st sm (seen P fr.fn es) bs
   |.spawn d=>PM P fr cs d es bs
   |_=>.stuck
 |.blocked st sm bs=>match fr.kind with
  |.early=>.stuck
  |_=>.blocked { frame:=fr,callers:=cs,status:=.blocked,dying:=none } st sm bs
 |.stuck=>.stuck
def GN(P:Program)(t:TypeId)(fr:Frame)(cs:List Frame)(st sm:Value):SE:=
 let to (todo:List Item):SE:=.still st sm { fr with todo } cs
 let leave (jump:Option Code):SE:=match fr.roundOf,jump with
  |none,none=>.still st sm { fr with mode:=.returning } cs
  |none,some .ret=>.still st sm { fr with mode:=.returning } cs
  |_,_=>.stuck
 match fr.todo with
 |[]=>leave none
 |.code .ret::_=>leave (some .ret)
 |.code .skip::k|.code (.label _)::k|.inBlock _::k|.inScope _::k=>to k
 |.code (.seq a b)::k=>to (.code a::.code b::k)
 |.code (.cond c h f)::k=>match fr.eval c with
  |.bool b=>to (.code (if b then h else f)::k)
  |_=>.stuck
 |.code (.block id body)::k=>to (.code body::.inBlock id::k)
 |.code (.loop body)::k|.inLoop body::k=>to (.code body::.inLoop body::k)
 |.code (.scope body)::k=>to (.code body::.inScope body::k)
 |.code (.exit id)::k=>match exitTo id k with
  |some k'=>to k'
  |none=>.stuck
 |.code (.region _ ops false)::k=>to (.inRegion ops (range ops.size)::k)
 |.inRegion _ []::k=>to k
 |.inRegion ops (i::_)::_=>match ops[i]? with
  |some o=>(match Region.wanted o (yielded ops fr.tmps)with
   |true=>(match fr.roundOf with
    |none=>Xo P fr cs (QA P t (execOp fr.eval o) st sm #[] [])
    |some _=>.stuck)
   |false=>.still st sm (fr.finish undef) cs)
  |none=>.stuck
 |_=>.stuck
def PR(m:Bool)(fr:Frame)(cs:List Frame)(v:Value)(st sm:Value)(es:Array Event)(bs:List (Nat×Bool)):SE:=
 match cs with
 |c::rest=>(match fr.kind with
  |.normal=>.go (Wj (c.finish v) rest) st sm es bs
  |.deferred=>.go (Wj (match c.mode with
    |.panicking ({ recovered:=true,.. }::older)=>
     match older.dropWhile (!·.goexit)with
     |[]=>{ c with mode:=.returning }
     |rest=>{ c with mode:=.panicking rest }
    |_=>c) rest) st sm es bs
  |_=>.stuck)
 |[]=>(match m,fr.kind with
  |false,.normal=>.go { frame:=fr,callers:=[],status:=.finished,dying:=none } st sm es bs
  |_,_=>.stuck)
def Gy(P:Program)(fr:Frame)(ds:List Deferred)(cs:List Frame):QE Next->SE
 |.ok n st sm es bs=>(match n with
  |.enter f args=>.go (Wj (Frame.enter P f args .deferred) ({ fr with defers:=ds }::cs)) st sm (seen P fr.fn es) bs
  |.value _=>.go (Wj { fr with defers:=ds } cs) st sm (seen P fr.fn es) bs
  |_=>.stuck)
 |_=>.stuck
def Gz(P:Program)(m:Bool)(fr:Frame)(cs:List Frame):QE Value->SE
 |.ok v st sm es bs=>PR m fr cs v st sm (seen P fr.fn es) bs
 |_=>.stuck
def PH(P:Program)(t:TypeId)(m:Bool)(fr:Frame)(cs:List Frame)(st sm:Value):SE:=
 match fr.defers with
 |d::ds=>(match d.target with
  |.fn _ _=>Gy P fr ds cs (QA P t (invoke d.target d.args) st sm #[] [])
  |_=>.stuck)
 |[]=>(match fr.mode with
  |.returning=>(match P.funcs[fr.fn]? with
   |some fn=>Gz P m fr cs (QA P t (results fn fr.tmps) st sm #[] [])
   |none=>.stuck)
  |.panicking chain=>(match cs,fr.todo,P.funcs[fr.fn]?,chain with
   |[],[],none,e::_=>(match e.goexit with
    |true=>.go { frame:=fr,callers:=[],status:=.finished,dying:=none } st sm #[] []
    |false=>.stuck)
   |_,_,_,_=>.stuck)
  |.run=>.stuck)
def Qc(P:Program)(t:TypeId)(m:Bool)(g:Gr)(st sm:Value):SE:=
 match g.status with
 |.running=>(match g.dying with
  |some _=>.stuck
  |none=>(match g.frame.mode with
   |.run=>GN P t g.frame g.callers st sm
   |_=>PH P t m g.frame g.callers st sm))
 |_=>.stuck
def Hq(s:GStep)(W:Value->Value->World)(ok:List (Nat×Bool)->Prop)(w:World):SE->Prop
 |.go g' st' sm' es bs=>ok bs->s=.go g' (W st' sm') es
 |.spawn g' c es=>s=.spawn g' c w es
 |.blocked g' st' sm' bs=>ok bs->s=.go g' (W st' sm') #[]
 |.stuck=>True
def Sj(P:Program)(f:FuncId):seen P f #[]=#[]:=by simp[seen]
section
variable{W:Value->Value->World}
def zx(H:WQ P t st sm w W ok) :
  Hq (stepG.apply P true Z cs none φ w) W ok w (Xo P Z cs (QA P t φ st sm #[] [])):=by
 have h:=H.ran φ;have z:=@UZ P t _ φ st sm #[] [];generalize QA P t φ st sm #[] []=r at h z;cases r with
 |ok n st' sm' es bs=>
  simp only[Xo];split
  .trivial
  .rename_i hk
   have b:(Z.kind==CallKind.early)=false:=by
    cases G:Z.kind <;> first|rfl|exact absurd G (by simpa using hk)
   cases n with
   |value v=>
    intro E;have B:=h E;simp only[stepG.apply,if_true,B,b,Bool.false_eq_true,if_false,GStep.after,Wj,Array.append_empty]
   |skip=>
    intro E;have B:=h E;simp only[stepG.apply,if_true,B,b,Bool.false_eq_true,if_false,GStep.after,Wj,Array.append_empty]
   |enter f args=>
    intro E;have B:=h E;simp only[stepG.apply,if_true,B,b,Bool.false_eq_true,if_false,GStep.after,Wj,Array.append_empty,LH];rfl
   |defer d=>
    intro E;have B:=h E;simp only[stepG.apply,if_true,B,b,Bool.false_eq_true,if_false,GStep.after,Wj,Array.append_empty]
   |spawn d=>
    show Hq _ W ok w (PM P Z cs d es bs);unfold PM;cases F:Yg d.target&&bs.isEmpty with
    |true=>
     simp only[Bool.and_eq_true,isEmpty_iff]at F;obtain⟨F,rfl⟩:=F;obtain⟨⟨rfl,rfl⟩,-⟩:=(z rfl).2 rfl;have I:=h H.nil;rw[H.same]at I;cases K:d.target <;> rw[K]at F <;> first|cases F|skip
     simp only[cond_true,Hq,stepG.apply,if_true,I,b,Bool.false_eq_true,if_false,K,Bool.and_false,Bool.false_and,GStep.after,Wj,Array.append_empty,Gh]
    |false=>trivial
   |_=>trivial
 |blocked st' sm' bs=>
  simp only[Xo];split
  .trivial
  .rename_i hk
   have b:(Z.kind==CallKind.early)=false:=by
    cases G:Z.kind <;> first|rfl|exact absurd G (by simpa using hk)
   intro E;obtain⟨L,B⟩:=h E;simp only[stepG.apply,if_true,B,b,Bool.false_eq_true,if_false,Sj,GStep.after,Array.append_empty]
 |stuck=>trivial
end
def Zt(b:WQ P t st sm w I ok)(h:χ=.go (Wj Z cs) w):Hq χ I ok w (.still st sm Z cs):=by
 intro _;rw[b.same];exact h
def MR(z:Z.mode=.run)(b:WQ P t st sm w I ok) :
  Hq (stepG P m { frame:=Z,callers:=cs,status,dying:=none,offers } w) I ok w (GN P t Z cs st sm):=by
 have e:stepG P m { frame:=Z,callers:=cs,status,dying:=none,offers } w=stepG.exec P m true Z cs none w:=by
  simp only[stepG,z]
 rw[e];unfold GN;simp only;split
 .rename_i ht;cases f:Z.roundOf with
  |none=>exact Zt b (by simp[stepG.exec,ht,f,Wj])
  |some l=>trivial
 .rename_i k ht;cases f:Z.roundOf with
  |none=>exact Zt b (by simp[stepG.exec,ht,f,Wj])
  |some l=>trivial
 .rename_i k ht;exact Zt b (by simp[stepG.exec,ht,Wj])
 .rename_i k ht;exact Zt b (by simp[stepG.exec,ht,Wj])
 .rename_i k ht;exact Zt b (by simp[stepG.exec,ht,Wj])
 .rename_i k ht;exact Zt b (by simp[stepG.exec,ht,Wj])
 .rename_i x y k ht;exact Zt b (by simp[stepG.exec,ht,Wj])
 .rename_i c x y k ht;split
  .rename_i bb hb;exact Zt b (by simp[stepG.exec,ht,hb,Wj])
  .trivial
 .rename_i id body k ht;exact Zt b (by simp[stepG.exec,ht,Wj])
 .rename_i body k ht;exact Zt b (by simp[stepG.exec,ht,Wj])
 .rename_i body k ht;exact Zt b (by simp[stepG.exec,ht,Wj])
 .rename_i body k ht;exact Zt b (by simp[stepG.exec,ht,Wj])
 .rename_i id k ht;split
  .rename_i k' hk;exact Zt b (by simp[stepG.exec,ht,hk,Wj])
  .trivial
 .rename_i id ops k ht;exact Zt b (by simp[stepG.exec,ht,Wj])
 .rename_i ops k ht;exact Zt b (by simp[stepG.exec,ht,Wj])
 .rename_i ops i rest k ht;split
  .rename_i o ho;split
   .rename_i hw;split
    .rename_i f
     have h:stepG.exec P m true Z cs none w=stepG.apply P true Z cs none (execOp Z.eval o) w:=by
      simp[stepG.exec,ht,ho,hw,stepG.oper,Frame.oper?,f]
     rw[h];exact zx b
    .trivial
   .rename_i hw;exact Zt b (by simp[stepG.exec,ht,ho,hw,Wj])
  .trivial
 .trivial
section
variable{W:Value->Value->World}
def F6{fr:Frame} :
  Hq (GStep.after es (doReturn P m fr cs none v (W st' sm'))) W ok w (PR m fr cs v st' sm' es bs):=by
 unfold PR;split
 .rename_i c rest;split
  .rename_i hk;intro _;simp only[doReturn,hk,GStep.after,Wj,Array.append_empty]
  .rename_i hk;intro _;simp only[doReturn,hk,GStep.after,Wj,Array.append_empty];rfl
  .trivial
 .split
  .rename_i hk;intro _;simp only[doReturn,hk,GStep.after,Array.append_empty,Bool.not_false,if_true]
  .trivial
end
section
variable{W:Value->Value->World}
def qV(H:Z.mode≠.run)(E:WQ P t st sm w W ok) :
  Hq (stepG P m { frame:=Z,callers:=cs,status,dying:=none,offers } w) W ok w (PH P t m Z cs st sm):=by
 have e:stepG P m { frame:=Z,callers:=cs,status,dying:=none,offers } w=unwind P m Z cs none w:=by
  cases F:Z.mode with
  |run=>exact absurd F H
  |_=>simp only[stepG,F]
 rw[e];unfold PH;split
 .rename_i d ds hd;split
  .rename_i fn capt ht;have h:=E.ran (invoke d.target d.args)
   have B:unwind P m Z cs none w=callDeferred P { Z with defers:=ds } cs none d w:=by
    obtain⟨I,ag⟩:=d;cases ht;simp only[unwind,hd]
   rw[B];generalize QA P t (invoke d.target d.args) st sm #[] []=r at h;cases r with
   |ok n st' sm' es bs=>
    simp only[Gy];cases n with
    |enter f args=>
     intro z;have b:=h z;rw[ht]at b;simp only[callDeferred,ht,Bool.false_and,Bool.false_eq_true,if_false,b,GStep.after,Wj,Array.append_empty]
    |value v=>
     intro z;have b:=h z;rw[ht]at b;simp only[callDeferred,ht,Bool.false_and,Bool.false_eq_true,if_false,b,GStep.after,Wj,Array.append_empty]
    |_=>trivial
   |_=>trivial
  .trivial
 .rename_i hd;split
  .rename_i hmo;split
   .rename_i fn hf;have h:=E.ran (results fn Z.tmps);generalize QA P t (results fn Z.tmps) st sm #[] []=r at h;cases r with
    |ok v st' sm' es bs=>
     simp only[Gz];by_cases z:ok bs
     .have b:=h z
      have B:unwind P m Z cs none w=GStep.after (seen P Z.fn es) (doReturn P m Z cs none v (W st' sm')):=by
       simp only[unwind,hd,hmo,hf,b]
      rw[B];exact F6
     .have:=F6 (P:=P) (m:=m) (W:=W) (ok:=ok) (w:=w) (fr:=Z) (cs:=cs) (v:=v) (es:=seen P Z.fn es) (bs:=bs) (st':=st') (sm':=sm');unfold PR at this ⊢;split <;> split <;> first|exact(λ G=>absurd G z)|trivial
    |_=>trivial
   .trivial
  .rename_i chain hmo;split
   .rename_i e' tl ht hf;split
    .rename_i hg;intro _;rw[E.same];simp[unwind,hd,hmo,Frame.catches,ht,hf,hg]
    .trivial
   .trivial
  .trivial
end
def Vq(f:WQ P t st sm w I ok):Hq (stepG P m g w) I ok w (Qc P t m g st sm):=by
 obtain⟨fr,cs,status,dying,offers⟩:=g;unfold Qc;cases status <;> try trivial
 cases dying with
 |some d=>trivial
 |none=>
  simp only;cases b:fr.mode with
  |run=>exact MR b f
  |_=>exact qV (by rw[b];intro h;cases h) f
def YT(h:Qc P t m g st sm=.go H st' sm' es [])(w:World):stepG P m g w=.go H w es:=by
 have:=Vq (g:=g) (m:=m) (WQ.calm (P:=P) (t:=t) (st:=st) (sm:=sm) (w:=w));rw[h]at this;exact this rfl
def H1(h:Qc P t m g st sm=.go H st' sm' es bs)(z:Sh b t st sm w)
  (f:∀y∈bs,y.1=b):stepG P m g w=.go H (two w b t st' sm') es:=by
 have:=Vq (g:=g) (m:=m) (WQ.sh (P:=P) z);rw[h]at this;exact this f
def DK(h:Qc P t m g st sm=.blocked H st' sm' bs)(z:Sh b t st sm w)
  (f:∀y∈bs,y.1=b):stepG P m g w=.go H (two w b t st' sm') #[]:=by
 have:=Vq (g:=g) (m:=m) (WQ.sh (P:=P) z);rw[h]at this;exact this f
def Nc{c:Gr}(h:Qc P t m g st sm=.spawn H c es)(w:World):stepG P m g w=.spawn H c w es:=by
 have:=Vq (g:=g) (m:=m) (WQ.calm (P:=P) (t:=t) (st:=st) (sm:=sm) (w:=w));rw[h]at this;exact this
def Xb(f:Value->Value->SE):Prop:=∀st sm g' st' sm' es bs,f st sm=.go g' st' sm' es bs->(bs.all (!·.2))=true->(st'=st/\sm'=sm)/\∀h b,f h b=.go g' h b es bs
def Xb.still{fr:Frame}{cs:List Frame}:Xb λ st sm=>.still st sm fr cs:=by
 intro st sm g' st' sm' es bs h _;simp only[SE.still,SE.go.injEq]at h;obtain⟨rfl,rfl,rfl,rfl,rfl⟩:=h;exact⟨⟨rfl,rfl⟩,λ _ _=>rfl⟩
def Xb.stuck:Xb λ _ _=>.stuck:=by intro st sm g' st' sm' es bs h;cases h
def Xb.of{s:Sem T}{F:QE T->SE}(H:∀r g' st' sm' es bs,F r=.go g' st' sm' es bs->∃x w,r=.ok x st' sm' w bs/\∀f b,F (.ok x f b w bs)=.go g' f b es bs) :
  Xb λ st sm=>F (QA P t s st sm #[] []):=by
 intro st sm g' st' sm' es bs h I;obtain⟨x,w,K,z⟩:=H _ _ _ _ _ _ h;obtain⟨-,B⟩:=UZ s K;obtain⟨E,G⟩:=B I;exact⟨E,λ f b=>by simp only[G f b,z]⟩
def Bi(r:QE Next)(g':Gr)(st' sm':Value)(es:Array Event)(bs:List (Nat×Bool))(h:Xo P Z cs r=.go g' st' sm' es bs) :
  ∃x b,r=.ok x st' sm' b bs/\∀z w,Xo P Z cs (.ok x z w b bs)=.go g' z w es bs:=by
 cases r with
 |ok n st sm b f=>
  simp only[Xo]at h ⊢;split at h
  .cases h
  .cases n <;> simp only[SE.go.injEq,reduceCtorEq]at h
   case spawn d=>unfold PM at h;cases B:Yg d.target&&f.isEmpty <;> rw[B]at h <;> cases h
   all_goals(obtain⟨rfl,rfl,rfl,rfl,rfl⟩:=h;exact⟨_,_,rfl,λ _ _=>rfl⟩)
 |blocked st sm f=>simp only[Xo]at h;split at h <;> cases h
 |stuck=>cases h
def pJ(r:QE Next)(g':Gr)(st' sm':Value)(es:Array Event)(bs:List (Nat×Bool))(h:Gy P Z π cs r=.go g' st' sm' es bs) :
  ∃x b,r=.ok x st' sm' b bs/\∀w f,Gy P Z π cs (.ok x w f b bs)=.go g' w f es bs:=by
 cases r with
 |ok n st sm b z=>
  simp only[Gy]at h ⊢;cases n <;> simp only[SE.go.injEq,reduceCtorEq]at h
  all_goals(obtain⟨rfl,rfl,rfl,rfl,rfl⟩:=h;exact⟨_,_,rfl,λ _ _=>rfl⟩)
 |_=>cases h
def pD(r:QE Value)(g':Gr)(st' sm':Value)(es:Array Event)(bs:List (Nat×Bool))(h:Gz P m Z cs r=.go g' st' sm' es bs) :
  ∃x b,r=.ok x st' sm' b bs/\∀w f,Gz P m Z cs (.ok x w f b bs)=.go g' w f es bs:=by
 cases r with
 |ok v st sm b z=>
  simp only[Gz,PR]at h ⊢;split at h
  .split at h
   .simp only[SE.go.injEq]at h;obtain⟨rfl,rfl,rfl,rfl,rfl⟩:=h;exact⟨_,_,rfl,λ _ _=>rfl⟩
   .simp only[SE.go.injEq]at h;obtain⟨rfl,rfl,rfl,rfl,rfl⟩:=h;exact⟨_,_,rfl,λ _ _=>rfl⟩
   .cases h
  .split at h
   .simp only[SE.go.injEq]at h;obtain⟨rfl,rfl,rfl,rfl,rfl⟩:=h;exact⟨_,_,rfl,λ _ _=>rfl⟩
   .cases h
 |_=>cases h
def zP:Xb (PH P t m Z cs):=by
 unfold PH;split
 .split
  .exact Xb.of (F:=Gy P Z _ cs) pJ
  .exact .stuck
 .split
  .split
   .exact Xb.of (F:=Gz P m Z cs) pD
   .exact .stuck
  .split
   .split
    .intro st sm g' st' sm' es bs h _;simp only[SE.go.injEq]at h;obtain⟨rfl,rfl,rfl,rfl,rfl⟩:=h;exact⟨⟨rfl,rfl⟩,λ _ _=>rfl⟩
    .exact .stuck
   .exact .stuck
  .exact .stuck
def F9:Xb (Qc P t m g):=by
 obtain⟨fr,cs,status,dying,offers⟩:=g;unfold Qc;cases status <;> try exact .stuck
 cases dying with
 |some d=>exact .stuck
 |none=>
  simp only;cases fr.mode with
  |run=>
   unfold GN;simp only;split
   .split <;> first|exact .still|exact .stuck
   .split <;> first|exact .still|exact .stuck
   .exact .still
   .exact .still
   .exact .still
   .exact .still
   .exact .still
   .split <;> first|exact .still|exact .stuck
   .exact .still
   .exact .still
   .exact .still
   .exact .still
   .split <;> first|exact .still|exact .stuck
   .exact .still
   .exact .still
   .split
    .split
     .split
      .exact Xb.of (F:=Xo P fr cs) Bi
      .exact .stuck
     .exact .still
    .exact .stuck
   .exact .stuck
  |_=>exact zP
def SE.get(d:Gr):SE->Gr
 |.go g _ _ _ _=>g
 |_=>d
def Qn(h:Qc P t m g st sm=.go H st' sm' es bs):g.status=.running:=by
 unfold Qc at h;split at h
 .assumption
 .cases h
variable{ε:Qa Tk}{mu:Option ZN}{ω:QV}{me:LP}{X Y:QH Tk}
section
open Go.Conc (QuitsD)
def Q0(c wt:Nat):Value:=.int .u64 ((c*4294967296+wt:Nat):Int)
def Qp(s:Nat):Value:=.int .u32 (s:Int)
def Z0(m:Mark):Event:=⟨.mark m,false,true⟩
def Jd(b o:Nat):Event:=⟨.cell ⟨b,o,none⟩,false,true⟩
def W9(b o:Nat):Event:=⟨.cell ⟨b,o,none⟩,true,true⟩
def Z6(b:Nat)(bs:List (Nat×Bool)):Prop:=∀y∈bs,y.1=b
def Qa.at(U:Qa Tk)(d:Nat)(p:Ph):Qa Tk:={ U with tok:=⟨d,p,U.tok.mu⟩ }
def Qa.at_self(h:ε.tok=⟨b,p,mu⟩):ε.at b p=ε:=by
 obtain⟨I,M,tok⟩:=ε;simp only at h;subst h;rfl
def Zb(s:Nat):Value:=.int .i32 (s:Int)
def Qa.lk(U:Qa Tk)(d b:Nat)(D:Spec)(x:QV)(s:Bool)(me:LP)(lo:Nat):Qa Tk:={ U with tok:=⟨d,.wrk b D,some (.lok x s me lo)⟩ }
def Qa.lk_self(h:ε.tok=⟨i,.wrk b D,some (.lok ω m me N)⟩):ε.lk i b D ω m me N=ε:=by
 obtain⟨I,M,tok⟩:=ε;simp only at h;subst h;rfl
def Gu(m:Nat)(e:Event):Prop:=Event.mute e=true\/∃o wr,o<2/\e=⟨.cell ⟨m,o,none⟩,wr,true⟩
def Yj(mu b f:Option ZN):Prop:=(b=mu/\f=none)\/∃x u s,mu=some (.par x u)/\u s=false/\b=some (.par x (ZI u s true))/\f=some (.lok x s .idle 0)
def Tl(P:Program)(t:TypeId)(N b:Nat):Nat->Nat->Ph->Gr->Prop
 |0,_,_,_=>False
 |n+1,d,p,g=>g.status=.running /\
  ((∃g' es bs,(∀e∈es,Event.mute e=true)/\Z6 b bs/\(∀st sm,Qc P t false g st sm=.go g' st sm es bs)/\Tl P t N b n (deafBehind d es) p g') \/
   (p=.rel b/\d=1/\∀c wt,1<=c->c<=N->wt<=1->∃g' bs,Z6 b bs/\Qc P t false g (Q0 c wt) (Qp 0)=.go g' (Q0 (c-1) wt) (Qp 0) #[Jd b 0,W9 b 0] bs /\
    (if c=1/\wt=1 then Tl P t N b n 1 (.lst b 0) g' else QuitsD P n 1 g')) \/
   (p=.lst b 0/\d=1/\∃g' bs,Z6 b bs/\Qc P t false g (Q0 0 1) (Qp 0)=.go g' (Q0 0 1) (Qp 0) #[Jd b 0] bs/\Tl P t N b n 1 (.lst b 1) g') \/
   (p=.lst b 1/\d=1/\∃g' bs,Z6 b bs/\Qc P t false g (Q0 0 1) (Qp 0)=.go g' (Q0 0 0) (Qp 0) #[W9 b 0] bs/\Tl P t N b n 1 (.lst b 2) g') \/
   (p=.lst b 2/\d=1/\mayWake P g=true/\∃g' bs,Z6 b bs/\Qc P t false g (Q0 0 0) (Qp 0)=.go g' (Q0 0 0) (Qp 1) #[Z0 .disable,Jd b 1,W9 b 1,Z0 .enable] bs/\QuitsD P n 1 g'))
inductive QB(P:Program)(t:TypeId)(N:Nat)(X:QH Tk):QH Tk
 |quiet {b0 a8 a1 a3 a4 g'} (hs:a8.status=.running) (hb:a1.tok.ph.blk=some a3) (h:∀st sm,Qc P t b0 a8 st sm=.go g' st sm #[] a4) (hbs:Z6 a3 a4) (a9:X b0 g' a1):QB P t N X b0 a8 a1
 |dis {b2 b0 a8 a1 a3 a7 b3 k_0 a4 g' a6} (hs:a8.status=.running) (ht:a1.tok=⟨a6,.par a3 a7 b3 k_0,b2⟩) (h:∀st sm,Qc P t b0 a8 st sm=.go g' st sm #[Z0 .disable] a4) (hbs:Z6 a3 a4)
   (a9:X b0 g' (a1.at (a6+1) (.par a3 a7 b3 k_0))):QB P t N X b0 a8 a1
 |ena {b2 b0 a8 a1 a3 a7 b3 k_0 a4 g' a6} (hs:a8.status=.running) (ht:a1.tok=⟨a6+1,.par a3 a7 b3 k_0,b2⟩) (h:∀st sm,Qc P t b0 a8 st sm=.go g' st sm #[Z0 .enable] a4) (hbs:Z6 a3 a4)
   (a9:X b0 g' (a1.at a6 (.par a3 a7 b3 k_0))):QB P t N X b0 a8 a1
 |add {b2 b0 a8 a1 a3 a7} (hs:a8.status=.running) (ht:a1.tok=⟨1,.par a3 a7 false .run,b2⟩) (hN:a7.length<N)
   (h:∀a5,a5<=a7.length->∃g' a4,Qc P t b0 a8 (Q0 a5 0) (Qp 0)=.go g' (Q0 (a5+1) 0) (Qp 0) #[Jd a3 0,W9 a3 0] a4/\Z6 a3 a4/\X b0 g' (a1.at 1 (.par a3 a7 true .run))):QB P t N X b0 a8 a1
 |said {b2 b0 a8 a1 a3 a7 b3 a9 a4 g' wr} (hs:a8.status=.running) (ht:a1.tok=⟨1,.par a3 a7 b3 a9,b2⟩)
   (h:∀st sm,Qc P t b0 a8 st sm=.go g' st sm #[Z0 (bif wr then .write ⟨a3,1,none⟩else .read ⟨a3,1,none⟩)] a4) (hbs:Z6 a3 a4) (a9:X b0 g' a1):QB P t N X b0 a8 a1
 |look {b2 b0 a8 a1 a3 a7 k_0 u} (hs:a8.status=.running) (ht:a1.tok=⟨1,.par a3 a7 false k_0,b2⟩) (hk:Hi a7 u k_0)
   (h:∀a5,a5<=u->∃g' a4,Z6 a3 a4 /\
    ((Qc P t b0 a8 (Q0 a5 0) (Qp 0)=.go g' (Q0 a5 0) (Qp 0) #[Jd a3 0] a4/\(X b0 g' (a1.at 1 (.par a3 a7 false (.seen a5)))\/(a5=0/\X b0 g' (a1.at 1 (.par a3 a7 false .up))))) \/
     (1<=a5/\Qc P t b0 a8 (Q0 a5 0) (Qp 0)=.go g' (Q0 a5 1) (Qp 0) #[Jd a3 0,W9 a3 0] a4/\X b0 g' (a1.at 1 (.par a3 a7 false .wait))))):QB P t N X b0 a8 a1
 |sema {b2 b0 a8 a1 a3 a7} (hs:a8.status=.running) (ho:a8.offers=none) (ht:a1.tok=⟨1,.par a3 a7 false .wait,b2⟩)
   (h0:∀st,∃a4,Z6 a3 a4/\Qc P t b0 a8 st (Qp 0)=.blocked { a8 with status:=.blocked } st (Qp 0) a4)
   (h1:∃g' a4,Z6 a3 a4/\Qc P t b0 a8 (Q0 0 0) (Qp 1)=.go g' (Q0 0 0) (Qp 0) #[Z0 .disable,Jd a3 1,W9 a3 1,Z0 .enable] a4/\X b0 g' (a1.at 1 (.par a3 a7 false .up))):QB P t N X b0 a8 a1
 |look2 {b2 b0 a8 a1 a3 a7 a4 g'} (hs:a8.status=.running) (ht:a1.tok=⟨1,.par a3 a7 false .up,b2⟩) (hbs:Z6 a3 a4)
   (h:Qc P t b0 a8 (Q0 0 0) (Qp 0)=.go g' (Q0 0 0) (Qp 0) #[Jd a3 0] a4) (a9:X b0 g' a1):QB P t N X b0 a8 a1
 |acq {b0 a8 a1 a3 a7 a4 g'} (hs:a8.status=.running) (ht:a1.tok=⟨0,.par a3 a7 false .up,none⟩) (hbs:Z6 a3 a4)
   (h:∀st sm,Qc P t b0 a8 st sm=.go g' st sm #[Z0 (.acquire ⟨a3,0,none⟩)] a4) (a9:∀Ms,JK a7 Ms->X b0 g' ((a1.with Ms.flatten).at 0 .out)):QB P t N X b0 a8 a1
 |acqM {b0 a8 a1 a3 a7 a4 g' x u} (hs:a8.status=.running) (ht:a1.tok=⟨0,.par a3 a7 false .up,some (.par x u)⟩) (hbs:Z6 a3 a4)
   (h:∀st sm,Qc P t b0 a8 st sm=.go g' st sm #[Z0 (.acquire ⟨a3,0,none⟩)] a4) (a9:∀Ms M,JK a7 Ms->x.sp (u false) (u true) M->X b0 g' { a1 with M:=(a1.M++Ms.flatten)++M,tok:=⟨0,.out,none⟩ }):QB P t N X b0 a8 a1
 |make {b0 a8 a1 a3 M₁ M₂} (ht:a1.tok=⟨0,.out,none⟩) (hM:a1.M=M₁++.obj a3 (.cells #[Q0 0 0,Qp 0] t (0,0))::M₂) (a9:X b0 a8 { a1 with M:=M₁++M₂,tok:=⟨0,.par a3 [] false .run,none⟩ }):QB P t N X b0 a8 a1
 |makeM {b0 a8 a1 a3 x M₁ M₂} (ht:a1.tok=⟨0,.par a3 [] false .run,none⟩) (hM:a1.M=.obj x.m (.cells #[Zb 0,Qp 0] x.t (0,0))::(M₁++M₂)) (hD:x.sp false false M₁)
   (a9:X b0 a8 { a1 with M:=M₂,tok:=⟨0,.par a3 [] false .run,some (.par x λ _=>false)⟩ }):QB P t N X b0 a8 a1
 |mu {b0 a8 a1 a3 a0 x b4 b1 lo a6} (hs:a8.status=.running) (ht:a1.tok=⟨a6,.wrk a3 a0,some (.lok x b4 b1 lo)⟩)
   (h:∀q st sm,lo<=q.cls->LP.word b1 q=some (st,sm)->∃g' a4 es me' st' sm' d' lo',lo'<=q.cls/\Z6 x.m a4/\Qc P x.t b0 a8 (Zb st) (Qp sm)=.go g' (Zb st') (Qp sm') es a4/\LP.word me' q=some (st',sm')/\b1.cls<=me'.cls/\me'.rels=b1.rels /\
    b1.isOwn=me'.isOwn/\(b1.isOwn=true->me'=b1)/\(∀e∈es,Gu x.m e)/\deafBehind a6 es=d'/\(sm'=sm\/sm'=0\/mayWake P a8=true)/\X b0 g' (a1.lk d' a3 a0 x b4 me' lo')):QB P t N X b0 a8 a1
 |mblk {b0 a8 a1 a3 a0 x b4 lo a6} (hs:a8.status=.running) (ho:a8.offers=none) (ht:a1.tok=⟨a6,.wrk a3 a0,some (.lok x b4 .wai lo)⟩)
   (h0:∀st,∃a4,Z6 x.m a4/\Qc P x.t b0 a8 st (Qp 0)=.blocked { a8 with status:=.blocked } st (Qp 0) a4)
   (h1:∃g' a4,Z6 x.m a4/\Qc P x.t b0 a8 (Zb 2) (Qp 1)=.go g' (Zb 2) (Qp 0) #[Z0 .disable,Jd x.m 1,W9 x.m 1,Z0 .enable] a4/\X b0 g' (a1.lk a6 a3 a0 x b4 .wok 2)):QB P t N X b0 a8 a1
 |macq {b0 a8 a1 a3 a0 x b4 lo a4 g'} (hs:a8.status=.running) (ht:a1.tok=⟨0,.wrk a3 a0,some (.lok x b4 .got lo)⟩) (hbs:Z6 x.m a4)
   (h:∀st sm,Qc P x.t b0 a8 st sm=.go g' st sm #[Z0 (.acquire ⟨x.m,0,none⟩)] a4)
   (a9:∀b5 M,(x.sp (if b4 then b5 else false) (if b4 then false else b5)) M->X b0 g' { a1 with M:=a1.M++M,tok:=⟨0,.wrk a3 a0,some (.lok x b4 (.own b5) lo)⟩ }):QB P t N X b0 a8 a1
 |mrel {b0 a8 a1 a3 a0 x b4 lo b5 a4 g' M₁ M₂} (hs:a8.status=.running) (ht:a1.tok=⟨0,.wrk a3 a0,some (.lok x b4 (.own b5) lo)⟩) (hbs:Z6 x.m a4) (hM:a1.M=M₁++M₂) (hD:x.sp (if b4 then b5 else true) (if b4 then true else b5) M₁)
   (h:∀st sm,Qc P x.t b0 a8 st sm=.go g' st sm #[Z0 (.releaseMerge ⟨x.m,0,none⟩)] a4)
   (a9:X b0 g' { a1 with M:=M₂,tok:=⟨0,.wrk a3 a0,some (.lok x b4 .rls lo)⟩ }):QB P t N X b0 a8 a1
 |go {b2 mu' mc b0 a8 a1 a3 a7 a0 a2 Uc g' a5} (hs:a8.status=.running) (ht:a1.tok=⟨0,.par a3 a7 true .run,b2⟩) (h:Qc P t b0 a8 undef undef=.spawn g' a5 #[]) (hf:Hs a1 a2 Uc)
   (hp:a2.tok=⟨0,.par a3 (a0::a7) false .run,mu'⟩) (hc:Uc.tok=⟨0,.wrk a3 a0,mc⟩) (hmu:Yj b2 mu' mc) (a9:X b0 g' a2) (k':X false a5 Uc):QB P t N X b0 a8 a1
 |lay {b2 b0 a8 a1 a3 a0 a4 g'} (hs:a8.status=.running) (ht:a1.tok=⟨0,.wrk a3 a0,b2⟩) (hmu:b2=none\/∃x b4 lo,b2=some (.lok x b4 .fin lo)) (hD:a0 a1.M) (hbs:Z6 a3 a4)
   (h:∀st sm,Qc P t b0 a8 st sm=.go g' st sm #[Z0 (.releaseMerge ⟨a3,0,none⟩)] a4) (a9:∃n,Tl P t N a3 n 0 (.rel a3) g'):QB P t N X b0 a8 a1
def QB.mono(f:∀m g ε,X m g ε->Y m g ε)(h:QB P t N X m g ε):QB P t N Y m g ε:=by
 cases h with
 |quiet B T h w k=>exact .quiet B T h w (f _ _ _ k)
 |dis B z h w k=>exact .dis B z h w (f _ _ _ k)
 |ena B z h w k=>exact .ena B z h w (f _ _ _ k)
 |add B z S h=>exact .add B z S λ c H=>let ⟨g',bs,a,b,k⟩:=h c H;⟨g',bs,a,b,f _ _ _ k⟩
 |said B z h w k=>exact .said B z h w (f _ _ _ k)
 |look B z W h=>exact .look B z W λ c H=>let ⟨g',bs,a,k⟩:=h c H;⟨g',bs,a,k.imp (λ x=>⟨x.1,x.2.imp (f _ _ _) λ y=>⟨y.1,f _ _ _ y.2⟩⟩) λ x=>⟨x.1,x.2.1,f _ _ _ x.2.2⟩⟩
 |sema B Q z K L=>exact .sema B Q z K (let ⟨g',bs,a,b,k⟩:=L;⟨g',bs,a,b,f _ _ _ k⟩)
 |look2 B z w h k=>exact .look2 B z w h (f _ _ _ k)
 |acq B z w h k=>exact .acq B z w h λ I E=>f _ _ _ (k I E)
 |acqM B z w h k=>exact .acqM B z w h λ I M E hx=>f _ _ _ (k I M E hx)
 |makeM z E G k=>exact .makeM z E G (f _ _ _ k)
 |mu B z h=>exact .mu B z λ q st sm hq hw=>let ⟨g',bs,es,me',st',sm',d',lo',a0,a1,a2,a3,a4,a5,a6,a7,a8,a9,a10,k⟩:=h q st sm hq hw;⟨g',bs,es,me',st',sm',d',lo',a0,a1,a2,a3,a4,a5,a6,a7,a8,a9,a10,f _ _ _ k⟩
 |mblk B Q z K L=>exact .mblk B Q z K (let ⟨g',bs,a,b,k⟩:=L;⟨g',bs,a,b,f _ _ _ k⟩)
 |macq B z w h k=>exact .macq B z w h λ v M E=>f _ _ _ (k v M E)
 |mrel B z w E G h k=>exact .mrel B z w E G h (f _ _ _ k)
 |make z E k=>exact .make z E (f _ _ _ k)
 |go B z h V Z H F k k'=>exact .go B z h V Z H F (f _ _ _ k) (f _ _ _ k')
 |lay B z F G w h k=>exact .lay B z F G w h k
def Za(P:Program)(t:TypeId)(N:Nat):Sys P Tk:=⟨QB P t N,λ h _ _ _ k=>k.mono h⟩
end
variable{rk rk':Nat->Option Tr}{υ:Option Tr}{ζ η:Tr}{Stop:QH Tk}{h:Gr}{gs Q:Array Gr}{V V':Hd->Qa Tk}{q q':Nat->Nat}{d o W' R':Hd->Loc->Prop}{fn:FuncId}{pos:String}{e:Event}
section
open Go.Conc
def JT(n:Nat)(rk:Nat->Option Tr):List Tr:=(range n).filterMap rk
def G_(n:Nat)(rk:Nat->Option Tr):JT (n+1) rk=JT n rk++(rk n).toList:=by
 simp only[JT,range_succ,filterMap_append];cases h:rk n <;> simp[h]
def Ec(h:∀i,i<n->rk i=rk' i):JT n rk=JT n rk':=by
 induction n with
 |zero=>rfl
 |succ n b=>rw[G_,G_,b λ i f=>h i O1,h n O1]
def Om(rk:Nat->Option Tr)(x:Option Tr)(f:i<n):(JT n (Zo rk i x)).Perm (x.toList++JT n (Zo rk i none)):=by
 induction n with
 |zero=>omega
 |succ n b=>
  rw[G_,G_];by_cases e:i=n
  .subst e;rw[Qj,Qj,Ec (rk:=Zo rk i x) (rk':=Zo rk i none) λ j h=>by rw[Qu _ _ O1,Qu _ _ O1]];simp only[Option.toList_none,append_nil];exact perm_append_comm
  .rw[Qu _ _ O1,Qu _ _ O1];have:=(b O1).append_right (rk n).toList
   rwa [append_assoc]at this
def Da(b:i<n)(f:rk i=some r):(JT n rk).Perm (r::JT n (Zo rk i none)):=by
 have:=Om rk (some r) b;have e:Zo rk i (some r)=rk:=by funext j;by_cases e:j=i <;> simp[Zo,e,f]
 rwa [e]at this
def vL(b:i<n)(w:rk i=some r)(z:∀f,υ=some f->Tr.Sub f r):ZM (JT n (Zo rk i υ)) (JT n rk):=
 ⟨r,JT n (Zo rk i none),υ.toList,Da b w,Om rk υ b,λ c h=>z c (by simpa[Option.mem_toList]using h)⟩
def vM(h:i<n)(B:rk i=some r)(w:Tr.Sub ζ r)(z:Tr.Sub η r):ZM (JT (n+1) (Zo (Zo rk i (some ζ)) n (some η))) (JT n rk):=by
 refine⟨r,JT n (Zo rk i none),[η,ζ],Da h B,?_,by simp[w,z]⟩;rw[G_,Qj,Ec (rk:=Zo (Zo rk i (some ζ)) n (some η)) (rk':=Zo rk i (some ζ)) λ j E=>Qu _ _ O1];have:=Om rk (some ζ) h;simp only[Option.toList_some]at this ⊢;refine(perm_append_comm).trans ?_;exact(this.cons η)
def ZK(p:Ph):Prop:=∃b D,p=.wrk b D
def Z1(V:Hd->Qa Tk)(i:Nat):Ph:=if i=0 then .out else(V (.run i)).tok.ph
def ZG:Qa Tk:=Qa.bare ⟨0,.out,none⟩
def Q2(V:Hd->Qa Tk)(i:Nat):Option ZN:=(V (.run i)).tok.mu
def Jv(V:Hd->Qa Tk):Option Nat:=ZN.mb (Q2 V 0)
structure WV(gs:Array Gr)(w:World)(V:Hd->Qa Tk)(x:QV)(u:Bool->Bool)(lp:Bool->LP)(st sm:Nat):Prop where
 sh:Sh x.m x.t (Zb st) (Qp sm) w
 word:LM lp=some (st,sm)
 tk:∀i x' s me lo,Q2 V i=some (.lok x' s me lo)->x'=x/\me=lp s/\lo<=(lp (!s)).cls/\u s=true
 one:∀i j s x_1 m_1 l₁ x_2 m_2 l₂,Q2 V i=some (.lok x_1 s m_1 l₁)->Q2 V j=some (.lok x_2 s m_2 l₂)->i=j
 who:∀s,u s=true->lp s=.fin\/∃i me lo,Q2 V i=some (.lok x s me lo)
 idle:∀s,u s=false->lp s=.idle
 dep:((lp false).isOwn|| (lp true).isOwn)=true->V .lck=ZG
 dep':((lp false).isOwn|| (lp true).isOwn)=false->x.dep lp (V .lck).M
 slp:∀i x' s me lo g,Q2 V i=some (.lok x' s me lo)->gs[i]?=some g->g.status≠.running->sm=0
def JF(gs:Array Gr)(w:World)(V:Hd->Qa Tk):Prop:=
 (∀i x u,i≠0->Q2 V i≠some (.par x u))/\(V .lck).I=(λ _=>none) /\
 match Q2 V 0 with
 |none=>(∀i,Q2 V i=none)/\V .lck=ZG
 |some (.par x u)=>(∀j,QI x.m (V j))/\∃b st sm,WV gs w V x u b st sm
 |some (.lok ..)=>False
def WV.at{gs f:Array Gr}{w w':World}{V V':Hd->Qa Tk}{x:QV}{u:Bool->Bool}{L:Bool->LP}{st sm:Nat}(h:WV gs w V x u L st sm)(z:∀i,Q2 V' i=Q2 V i)(K:V' .lck=V .lck)
  (E:Sh x.m x.t (Zb st) (Qp sm) w') (B:∀i b s me lo g',Q2 V i=some (.lok b s me lo)->f[i]?=some g'->g'.status≠.running->∃g,gs[i]?=some g/\g.status≠.running):WV f w' V' x u L st sm:=by
 refine⟨E,h.word,λ i b s me lo e=>h.tk i b s me lo (by rw[<- z];exact e),λ i j s H F l₁ I G l₂ e e'=>h.one i j s H F l₁ I G l₂ (by rw[<- z];exact e) (by rw[<- z];exact e'),λ s T=>(h.who s T).imp id λ⟨i,me,lo,e⟩=>⟨i,me,lo,by rw[z];exact e⟩,h.idle,λ e=>by rw[K];exact h.dep e,λ e=>by rw[K];exact h.dep' e,λ i b s me lo g' e Q S=>?_⟩;rw[z]at e;obtain⟨g,N,P⟩:=B i b s me lo g' e Q S;exact h.slp i b s me lo g e N P
def JF.at{gs f:Array Gr}{w w':World}{V V':Hd->Qa Tk}(h:JF gs w V)(B:∀i,Q2 V' i=Q2 V i)(G:V' .lck=V .lck)(z:∀m,(∀j,QI m (V j))->m<w.heap.size->∀j,QI m (V' j))
  (H:∀m t st sm,(∀j,QI m (V j))->Sh m t (Zb st) (Qp sm) w->Sh m t (Zb st) (Qp sm) w')
  (F:∀i Q s me lo g',Q2 V i=some (.lok Q s me lo)->f[i]?=some g'->g'.status≠.running->∃g,gs[i]?=some g/\g.status≠.running):JF f w' V':=by
 obtain⟨K,L,b⟩:=h;refine⟨λ i x u N=>by rw[B];exact K i x u N,by rw[G];exact L,?_⟩;rw[B];cases e:Q2 V 0 with
 |none=>rw[e]at b;exact⟨λ i=>by rw[B];exact b.1 i,by rw[G];exact b.2⟩
 |some mu=>
  rw[e]at b;cases mu with
  |lok=>exact b
  |par x u=>
   obtain⟨I,P,st,sm,E⟩:=b;exact⟨z _ I (Array.getElem?_eq_some_iff.1 E.sh).1,P,st,sm,E.at B G (H _ _ _ _ I E.sh) F⟩
def SX(i:Nat)(tk:Tk):Prop:=(i=0/\∃b ds mu,tk=⟨1,.par b ds false .wait,mu⟩)\/∃d b D x s lo,tk=⟨d,.wrk b D,some (.lok x s .wai lo)⟩
def QG(t:TypeId)(N:Nat)(gs:Array Gr)(w:World)(V:Hd->Qa Tk)(rel:Nat->Option Nat):Prop:=
 match(V (.run 0)).tok.ph with
 |.out=>(∀i,i≠0->(V (.run i)).tok.ph=.out)/\∀i,rel i=none
 |.par b ds pend k=>(∀j,QI b (V j))/\∃W c wt s,Sh b t (Q0 c wt) (Qp s) w/\GI N b ds pend k (Z1 V) rel (λ i=>(V (.dep i)).M) W c wt s/\(∀g,gs[0]?=some g->g.status≠.running->s=0)
 |_=>False
structure MI(P:Program)(t:TypeId)(N:Nat)(Stop:QH Tk)(ex:Option Nat)(gs:Array Gr)(w:World)(tr:Trace)(V:Hd->Qa Tk)(rk:Nat->Option Tr)(rel:Nat->Option Nat)(q:Nat->Nat):Prop where
 live:∀i r,ex≠some i->rk i=some r->∃g,JR (Za P t N) Stop r (i==0) g (V (.run i)) /\
  (gs[i]?=some g\/(gs[i]?=some { g with status:=.blocked }/\g.offers=none/\SX i (V (.run i)).tok))
 root:rk 0≠none
 gone:∀i g,rk i=none->gs[i]?=some g->(V (.run i)).tok.ph=.out->QuitsD P (q i) (Deaf tr i) g
 tail:∀i,rk i=none->(V (.run i)).tok.ph≠.out->∃g b,gs[i]?=some g/\(V (.run 0)).tok.ph.blk=some b/\Tl P t N b (q i) (Deaf tr i) (V (.run i)).tok.ph g
 above:∀i,gs.size<=i->rk i=none/\Deaf tr i=0/\rel i=none
 bare:∀i,rk i=none->(V (.run i)).I=(λ _=>none)/\(V (.run i)).M=[]
 wk:∀i,i≠0->rk i≠none->ZK (V (.run i)).tok.ph
 wk':∀i,ZK (V (.run i)).tok.ph->rk i≠none
 deaf:∀i,rk i≠none->Deaf tr i=(V (.run i)).tok.d
 deps:∀i,rel i=none->V (.dep i)=ZG
 vi:VI V w
 ti:∃rm,TI (λ k=>(V k).canW) (λ k=>(V k).canR) rel (V (.run 0)).tok.ph.blk (Jv V) rm (λ i=>i=0\/(V (.run i)).tok.ph≠.out) (λ i=>ZK (V (.run i)).tok.ph) w.heap.size tr
 grp:QG t N gs w V rel
 mux:JF gs w V
 bareM:∀i,rk i=none->Q2 V i=none
def JR.running(f:∀m g U,Stop m g U->g.status=.running):∀{r:Tr}{m:Bool}{g:Gr}{U:Qa Tk},JR (Za P t N) Stop r m g U->g.status=.running:=by
 intro r
 induction r using Tr.sub_wf.induction with
 |_ r B=>
  intro m g U h;obtain⟨E,_,h|h|h⟩:=h.step
  .exact f _ _ _ h
  .exact h.1
  .have h:QB P t N _ m g E:=h;cases h with
   |make G F k=>obtain⟨z,w,k⟩:=k;exact B z w k
   |makeM G F H k=>obtain⟨z,w,k⟩:=k;exact B z w k
   |quiet b|dis b|ena b|add b|said b|look b|sema b|look2 b|acq b|acqM b|go b|lay b|mu b|mblk b|macq b|mrel b=>exact b
def Wc(b:h.status=.running):woken P g H w' h=h:=by
 unfold woken;split
 .simp[Goroutine.again,b]
 .rfl
def hO{g':Gr}(f:h.status=.running)(b:h.offers=none):woken P g g' w' { h with status:=.blocked }=h\/woken P g g' w' { h with status:=.blocked }={ h with status:=.blocked }:=by
 unfold woken;split
 .exact .inl (again_blocked f b w')
 .exact .inr rfl
def behind(P:Program)(gs:Array Gr)(i:Nat)(g g':Gr)(w':World):Array Gr:=(gs.map (woken P g g' w')).setIfInBounds i g'
def Wi(b:gs[i]?=some g):(behind P gs i g h w')[i]?=some h:=by
 have:=(Array.getElem?_eq_some_iff.1 b).1;simp[behind,this]
def J3(h:j≠i):(behind P gs i g H w')[j]?=(gs[j]?).map (woken P g H w'):=by
 simp only[behind];rw[Array.getElem?_setIfInBounds_ne (Ne.symm h),Array.getElem?_map]
def Jl:(behind P gs i g h w').size=gs.size:=by simp[behind]
def Tl.running{b:Nat}:∀{n d:Nat}{p:Ph}{g:Gr},Tl P t N b n d p g->g.status=.running
 |0,_,_,_,h=>h.elim
 |_+1,_,_,_,h=>h.1
def MI.go(h:MI P t N Stop (some i) gs w tr V rk rel q)(S:∀m g U,Stop m g U->g.status=.running){g':Gr}
  (hi:gs[i]?=some g) (G:∀j,j≠i->V' (.run j)=V (.run j)) (E:∀j,j≠i->rk' j=rk j) (hq:∀j,j≠i->q' j=q j) (ag:∀j,j≠i->rel' j=rel j\/rel' j=none) (X:rk' 0≠none)
  (B:i≠0\/(V' (.run 0)).tok.ph.blk=(V (.run 0)).tok.ph.blk\/∀j,j≠0->(V (.run j)).tok.ph=.out)
  (F:∀r,rk' i=some r->JR (Za P t N) Stop r (i==0) g' (V' (.run i))/\deafBehind (Deaf tr i) es=(V' (.run i)).tok.d/\(i≠0->ZK (V' (.run i)).tok.ph))
  (f:rk' i=none->i≠0/\(V' (.run i)).I=(λ _=>none)/\(V' (.run i)).M=[]/\¬ZK (V' (.run i)).tok.ph /\
   (((V' (.run i)).tok.ph=.out/\QuitsD P (q' i) (deafBehind (Deaf tr i) es) g')\/((V' (.run i)).tok.ph≠.out/\∃b,(V (.run 0)).tok.ph.blk=some b/\Tl P t N b (q' i) (deafBehind (Deaf tr i) es) (V' (.run i)).tok.ph g')))
  (T:∀j,rel' j=none->V' (.dep j)=ZG) (ai:VI V' w')
  (ah:∃rm,TI (λ k=>(V' k).canW) (λ k=>(V' k).canR) rel' (V' (.run 0)).tok.ph.blk (Jv V') rm (λ i=>i=0\/(V' (.run i)).tok.ph≠.out) (λ i=>ZK (V' (.run i)).tok.ph) w'.heap.size (tr++MemOp.ofEvents i g.frame.fn g.frame.place es))
  (aa:QG t N (behind P gs i g g' w') w' V' rel') (ab:JF (behind P gs i g g' w') w' V') (ad:rk' i=none->Q2 V' i=none) :
  MI P t N Stop none (behind P gs i g g' w') w' (tr++MemOp.ofEvents i g.frame.fn g.frame.place es) V' rk' rel' q':=by
 have aj:=(Array.getElem?_eq_some_iff.1 hi).1
 have hD:∀j,j≠i->Deaf (tr++MemOp.ofEvents i g.frame.fn g.frame.place es) j=Deaf tr j:=by
  intro j H;refine Deaf_other tr (Ne.symm H) _ ?_;intro op ae;obtain⟨e,_,rfl⟩:=Go.Conc.mem_ofEvents ae;rfl
 have Q:Deaf (tr++MemOp.ofEvents i g.frame.fn g.frame.place es) i=deafBehind (Deaf tr i) es:=Deaf_own ..;refine⟨?_,X,?_,?_,?_,?_,?_,?_,?_,T,ai,ah,aa,ab,λ j H=>?_⟩
 .intro j r _ z;by_cases e:j=i
  .subst e;exact⟨g',(F r z).1,.inl (Wi hi)⟩
  .rw[E j e]at z;obtain⟨ac,hJ,Z⟩:=h.live j r (λ e'=>e (Option.some.inj e').symm) z;have K:=hJ.running S;rw[G j e];refine⟨ac,hJ,?_⟩;rw[J3 e];rcases Z with Z|⟨Z,ho,Y⟩
   .exact .inl (by rw[Z,Option.map_some,Wc K])
   .rw[Z,Option.map_some];rcases hO (P:=P) (g:=g) (g':=g') (w':=w') K ho with e|e
    .exact .inl (by rw[e])
    .exact .inr ⟨by rw[e],ho,Y⟩
 .intro j x z hx hp;by_cases e:j=i
  .subst e;rw[Wi hi]at hx;cases hx;rw[Q];rcases(f z).2.2.2.2 with⟨_,L⟩|⟨L,_⟩
   .exact L
   .exact absurd hp L
  .rw[J3 e]at hx;obtain⟨y,hy,rfl⟩:=Option.map_eq_some_iff.1 hx;rw[E j e]at z;rw[G j e]at hp;have:=h.gone j y z hy hp;rw[woken_quitsD this,hD j e,hq j e];exact this
 .intro j z hp;by_cases e:j=i
  .subst e;rcases(f z).2.2.2.2 with⟨L,_⟩|⟨_,b,Y,L⟩
   .exact absurd L hp
   .refine⟨g',b,Wi hi,?_,by rw[Q];exact L⟩;rw[G 0 (Ne.symm (f z).1)];exact Y
  .rw[E j e]at z;rw[G j e]at hp;obtain⟨y,b,hy,Y,ht⟩:=h.tail j z hp;refine⟨y,b,?_,?_,?_⟩
   .rw[J3 e,hy,Option.map_some,Wc ht.running]
   .by_cases e0:i=0
    .subst e0;rcases B with B|B|B
     .exact absurd rfl B
     .rw[B];exact Y
     .exact absurd (B j e) hp
    .rw[G 0 (Ne.symm e0)];exact Y
   .rw[hD j e,hq j e,G j e];exact ht
 .intro j H;rw[Jl]at H;have e:j≠i:=O1
  rw[E j e,hD j e];obtain⟨a1,a2,a3⟩:=h.above j H;exact⟨a1,a2,(ag j e).elim (λ x=>x.trans a3) id⟩
 .intro j z;by_cases e:j=i
  .subst e;exact⟨(f z).2.1,(f z).2.2.1⟩
  .rw[G j e];rw[E j e]at z;exact h.bare j z
 .intro j h0 z;by_cases e:j=i
  .subst e;obtain⟨r,W⟩:=Option.ne_none_iff_exists'.1 z;exact(F r W).2.2 h0
  .rw[G j e];rw[E j e]at z;exact h.wk j h0 z
 .intro j hw;by_cases e:j=i
  .subst e;intro z;exact(f z).2.2.2.1 hw
  .rw[G j e]at hw;rw[E j e];exact h.wk' j hw
 .intro j z;by_cases e:j=i
  .subst e;obtain⟨r,W⟩:=Option.ne_none_iff_exists'.1 z;rw[Q];exact(F r W).2.1
  .rw[G j e,hD j e];rw[E j e]at z;exact h.deaf j z
 .by_cases e:j=i
  .subst e;exact ad H
  .unfold Q2;rw[G j e];rw[E j e]at H;exact h.bareM j H
def WO:Nat->(Nat->Nat)->Nat
 |0,_=>0
 |n+1,f=>WO n f+f n
def Iu{f b:Nat->Nat}:∀{n:Nat},(∀j,j<n->b j=f j)->WO n b=WO n f
 |0,_=>rfl
 |n+1,h=>by simp only[WO,Iu (n:=n) λ j w=>h j O1,h n O1]
def SN{f b:Nat->Nat}{i:Nat}:∀{n:Nat},i<n->(∀j,j<n->j≠i->b j=f j)->b i<f i->WO n b<WO n f
 |0,w,_,_=>O1
 |n+1,w,h,B=>by
  by_cases e:i=n
  .subst e;simp only[WO];rw[Iu (n:=i) λ j z=>h j O1 O1];omega
  .have:=SN (n:=n) O1 (λ j z E=>h j O1 E) B;simp only[WO,h n O1 O1];omega
def left(rk:Nat->Option Tr)(q:Nat->Nat)(i:Nat):Nat:=if(rk i).isSome then 0 else q i
def Lx{f:Nat->Nat}(h:∀j,f j<=1):∀n,WO n f<=n
 |0=>Nat.le_refl _
 |n+1=>by have:=Lx h n;have:=h n;simp only[WO];omega
def Hr(gs:Array Gr)(i:Nat):Nat:=if(gs[i]?).any (·.status==.running)then 1 else 0
def kQ(gs:Array Gr)(i:Nat):Hr gs i<=1:=by unfold Hr;split <;> omega
def SU(gs:Array Gr):Nat:=WO gs.size (Hr gs)
def vv(gs:Array Gr):SU gs<=gs.size:=Lx (kQ gs) _
def QC(gs:Array Gr)(rk:Nat->Option Tr)(q:Nat->Nat):List Tr×Nat:=(JT gs.size rk,(gs.size+1)*WO gs.size (left rk q)+SU gs)
def Ii(G:Q.size=gs.size)(w:i<gs.size)(F:rk i=none)(E:∀j,j≠i->q' j=q j)(B:q' i<q i):ZY (QC Q rk q') (QC gs rk q):=by
 unfold QC;rw[G];refine ZY.num ?_;have f:WO gs.size (left rk q')<WO gs.size (left rk q):=SN w (λ j _ z=>by simp[left,E j z]) (by simp[left,F,B]);have H:=vv Q;have h:=Nat.mul_le_mul_left (gs.size+1) f;rw[Nat.mul_succ]at h;omega
def zX(h:gs[i]?=some g)(B:g.status=.running)(w:H.status=.blocked):ZY (QC (gs.setIfInBounds i H) rk q) (QC gs rk q):=by
 have b:=(Array.getElem?_eq_some_iff.1 h).1;unfold QC;have f:(gs.setIfInBounds i H).size=gs.size:=S1
 rw[f];refine ZY.num (Nat.add_lt_add_left ?_ _);unfold SU;rw[f];refine SN b (λ j _ z=>?_) ?_
 .unfold Hr;rw[Array.getElem?_setIfInBounds_ne (Ne.symm z)]
 .have h1:Hr gs i=1:=by unfold Hr;rw[h];simp[B]
  have E:Hr (gs.setIfInBounds i H) i=0:=by unfold Hr;simp[b,w]
  omega
section
variable{mb:Option Nat}
def TI.events(h:TI d o rel A mb rm act wk size tr)(I:size<=N)(z:∀e∈es,(MemAct.ofEvent e).low N)(H:∀e∈es,∀a,MemAct.ofEvent e≠.mark (.release a))
  (E:∀j a,touchAt tr j=some a->∀e∈es,∀b,(MemAct.ofEvent e).touch?=some b->∀said,a.conflicts said b->Knows tr i j)
  (L:∀k l,W' k l->d k l\/(k=.run i/\Loc.newN size l)) (K:∀k l,R' k l->o k l\/(k=.run i/\Loc.newN size l))
  (B:∀e∈es,∀a,(MemAct.ofEvent e).touch?=some a->∀k,k≠.run i->¬d k a.loc/\(a.write=true->¬o k a.loc))
  (G:∀e∈es,∀a,(MemAct.ofEvent e).touch?=some a->ZZ A a.loc->a.kind≠.plain/\(a.kind=.said->i=0)) (F:∀e∈es,∀a,(MemAct.ofEvent e).touch?=some a->ZZ mb a.loc->a.kind=.atomic)
  (w:i=0\/wk i\/∀j,tr.size<=j->¬(tr++MemOp.ofEvents i fn pos es).counts j) :
  TI W' R' rel A mb rm act wk N (tr++MemOp.ofEvents i fn pos es):=by
 refine h.step I ?_ ?_ ?_ ?_ L K ?_ ?_ ?_ w
 .intro op hop;obtain⟨e,_,rfl⟩:=Go.Conc.mem_ofEvents hop;rfl
 .intro op hop;obtain⟨e,f,rfl⟩:=Go.Conc.mem_ofEvents hop;exact z e f
 .intro op hop;obtain⟨e,f,rfl⟩:=Go.Conc.mem_ofEvents hop;exact H e f
 .intro j a ha op hop;obtain⟨e,f,rfl⟩:=Go.Conc.mem_ofEvents hop;exact E j a ha e f
 .intro op hop;obtain⟨e,f,rfl⟩:=Go.Conc.mem_ofEvents hop;exact B e f
 .intro op hop;obtain⟨e,f,rfl⟩:=Go.Conc.mem_ofEvents hop;exact G e f
 .intro op hop;obtain⟨e,f,rfl⟩:=Go.Conc.mem_ofEvents hop;exact F e f
end
def SY(e:Event):Prop:=(MemAct.ofEvent e).touch?=none/\(∀n,(MemAct.ofEvent e).low n)/\∀a,MemAct.ofEvent e≠.mark (.release a)
def P6(h:e.mute=true):SY e:=by
 obtain⟨loc,wr,b⟩:=e;cases loc <;> simp[Event.mute]at h;rename_i m;cases m <;> simp at h <;> exact⟨rfl,λ _=>trivial,λ _ h=>by cases h⟩
section
variable{mb:Option Nat}
def TI.dumb(h:TI W' R' rel A mb rm act wk size tr)(w:∀e∈es,SY e):TI W' R' rel A mb rm act wk size (tr++MemOp.ofEvents i fn pos es):=by
 refine h.events (Nat.le_refl _) (λ e h=>(w e h).2.1 _) (λ e h=>(w e h).2.2) (λ j a _ e h b E=>?_) (λ _ _=>.inl) (λ _ _=>.inl) (λ e h a f=>?_) (λ e h a f=>?_) (λ e h a f=>?_) ?_
 .rw[(w e h).1]at E;cases E
 .rw[(w e h).1]at f;cases f
 .rw[(w e h).1]at f;cases f
 .rw[(w e h).1]at f;cases f
 .refine .inr (.inr λ j I F=>?_);obtain⟨x,H,_⟩:=F;rcases Jh (t:=tr) H with⟨G,_⟩|⟨_,op,B,z,_⟩
  .omega
  .obtain⟨e,he',rfl⟩:=Go.Conc.mem_ofEvents B;rw[(w e he').1]at z;cases z
end
def YN(h:JU ε w e)(E:XR w' e):SY e \/
  ((∃x,(MemAct.ofEvent e).touch?=some x/\x.kind=.plain/\x.loc=e.loc/\(x.write=true->ε.canW e.loc\/Loc.new w e.loc)/\(ε.canR e.loc\/Loc.new w e.loc))/\(MemAct.ofEvent e).low w'.heap.size/\∀a,MemAct.ofEvent e≠.mark (.release a)):=by
 obtain⟨loc,wr,G⟩:=e;cases loc with
 |cell a=>
  obtain⟨z,f⟩:=h;simp only at z f;subst z;refine .inr ⟨⟨_,rfl,rfl,rfl,λ B=>?_,?_⟩,E,λ _ h=>by cases h⟩
  .simp only at B;subst B;simpa using f
  .cases wr
   .simpa using f
   .simp only[if_true]at f;exact f.imp Zu id
 |obj b=>
  obtain⟨z,f⟩:=h;simp only at z f;subst z;have F:MemAct.ofEvent ⟨.obj b,wr,false⟩=.access ⟨.obj b,wr,false⟩:=by cases wr <;> rfl
  rw[F];refine .inr ⟨⟨_,rfl,rfl,rfl,λ B=>?_,?_⟩,E,λ _ h=>by cases h⟩
  .simp only at B;subst B;simpa using f
  .cases wr
   .simpa using f
   .simp only[if_true]at f;exact f.imp Zu id
 |mark m=>
  have h:Mark.still m=true:=h;left;cases m <;> simp[Mark.still]at h <;> exact⟨rfl,λ _=>trivial,λ _ h=>by cases h⟩
 |output=>exact h.elim
 |goroutines=>exact h.elim
def YA(h:Loc.new w l):Loc.newN w.heap.size l:=by cases l <;> exact h
section
variable{mb:Option Nat}
def IJ(h:TI (λ k=>(V k).canW) (λ k=>(V k).canR) rel A mb rm act wk w.heap.size tr)(S:VI V w)(hb:∀b,A=some b->b<w.heap.size/\QI b (V (.run i)))(hm:∀b,mb=some b->b<w.heap.size/\QI b (V (.run i)))
  (B:∀e∈es,JU (V (.run i)) w e/\XR w' e) (X:ZQ (V (.run i)) w w' ε) (hi:i=0\/wk i) :
  TI (λ k=>(Q1 V (.run i) ε k).canW) (λ k=>(Q1 V (.run i) ε k).canR) rel A mb rm act wk w'.heap.size (tr++MemOp.ofEvents i fn pos es):=by
 have key:∀e∈es,∀x,(MemAct.ofEvent e).touch?=some x->x.kind=.plain/\(x.write=true->(V (.run i)).canW x.loc\/Loc.new w x.loc)/\((V (.run i)).canR x.loc\/Loc.new w x.loc):=by
  intro e z x N;rcases YN (B e z).1 (B e z).2 with G|⟨⟨y,hy,P,E,f,h4⟩,_⟩
  .rw[G.1]at N;cases N
  .rw[hy]at N;cases N;rw[E];exact⟨P,f,h4⟩
 refine h.events X.size ?_ ?_ ?_ ?_ ?_ ?_ ?_ ?_ (hi.imp id .inl)
 .intro e z;rcases YN (B e z).1 (B e z).2 with G|⟨_,G,_⟩
  .exact G.2.1 _
  .exact G
 .intro e z;rcases YN (B e z).1 (B e z).2 with G|⟨_,_,G⟩
  .exact G.2.2
  .exact G
 .intro j a ha e z b hb' said hc;obtain⟨P,E,f⟩:=key e z b hb'
  have H:¬Loc.new w a.loc:=by
   obtain⟨x,N,aa⟩:=touch_of ha;exact λ Q=>Ih (h.low x (Array.mem_of_getElem? N)) aa (YA Q)
  obtain⟨W,_,Z,_⟩:=hc;rw[<- W]at E f;refine h.known (.run i) j a ha ?_;rcases Z with L|L
  .exact .inr ⟨f.resolve_right H,L⟩
  .exact .inl ((E L).resolve_right H)
 .intro k l hl;by_cases e:k=.run i
  .subst e;simp only[Ql]at hl;exact(X.cw l hl).imp id λ Q=>⟨rfl,YA Q⟩
  .simp only[Qh _ _ e]at hl;exact .inl hl
 .intro k l hl;by_cases e:k=.run i
  .subst e;simp only[Ql]at hl;exact(X.cr l hl).imp id λ Q=>⟨rfl,YA Q⟩
  .simp only[Qh _ _ e]at hl;exact .inl hl
 .intro e z a ha k hk;obtain⟨P,E,f⟩:=key e z a ha;refine⟨λ L=>?_,λ U hr=>?_⟩
  .rcases f with f|f
   .exact S.sep k (.run i) _ hk L f
   .exact KG (S.ok k) (Zu L) f
  .rcases E U with E|E
   .exact S.sep (.run i) k _ (Ne.symm hk) E hr
   .exact KG (S.ok k) hr E
 .intro e z a ha hib;exfalso;obtain⟨P,E,f⟩:=key e z a ha;obtain⟨loc,wr,kd⟩:=a;cases loc <;> simp only[ZZ]at hib;rename_i T;obtain⟨I,F⟩:=hib;obtain⟨Y,K⟩:=hb _ I;rcases f with f|f
  .exact K T rfl F f
  .simp only[Loc.new]at f;omega
 .intro e z a ha hib;exfalso;obtain⟨P,E,f⟩:=key e z a ha;obtain⟨loc,wr,kd⟩:=a;cases loc <;> simp only[ZZ]at hib;rename_i T;obtain⟨I,F⟩:=hib;obtain⟨Y,K⟩:=hm _ I;rcases f with f|f
  .exact K T rfl F f
  .simp only[Loc.new]at f;omega
end
def Yb(b:Nat)(parent:Bool)(e:Event):Prop:=
 Event.mute e=true\/(∃o wr,o<2/\e=⟨.cell ⟨b,o,none⟩,wr,true⟩)\/(parent=true/\∃o wr,o<2/\e=Z0 (bif wr then .write ⟨b,o,none⟩else .read ⟨b,o,none⟩))
def Lw(h:TI (λ k=>(V k).canW) (λ k=>(V k).canR) rel (some b) A rm act wk w.heap.size tr)(N:b<w.heap.size)(I:∀k,QI b (V k))(K:act i)
  (P:∀e∈es,Yb b (i==0) e) (Q:A≠some b) (U:i=0\/wk i\/∀j,tr.size<=j->¬(tr++MemOp.ofEvents i fn pos es).counts j) :
  TI (λ k=>(V k).canW) (λ k=>(V k).canR) rel (some b) A rm act wk w.heap.size (tr++MemOp.ofEvents i fn pos es):=by
 have key:∀e∈es,(MemAct.ofEvent e).low w.heap.size/\(∀a,MemAct.ofEvent e≠.mark (.release a))/\∀x,(MemAct.ofEvent e).touch?=some x->(∃o,o<2/\x.loc=.cell ⟨b,o,none⟩)/\(x.kind=.atomic\/(x.kind=.said/\i=0)):=by
  intro e f;rcases P e f with W|⟨o,wr,I,rfl⟩|⟨X,o,wr,I,rfl⟩
  .have:=P6 W;exact⟨this.2.1 _,this.2.2,λ x G=>by rw[this.1]at G;cases G⟩
  .refine⟨N,λ _ h=>(by cases h),λ x G=>?_⟩;cases G;exact⟨⟨o,I,rfl⟩,.inl rfl⟩
  .have z:i=0:=by simpa using X
   cases wr
   .refine⟨N,λ _ h=>(by cases h),λ x G=>?_⟩;cases G;exact⟨⟨o,I,rfl⟩,.inr ⟨rfl,z⟩⟩
   .refine⟨N,λ _ h=>(by cases h),λ x G=>?_⟩;cases G;exact⟨⟨o,I,rfl⟩,.inr ⟨rfl,z⟩⟩
 refine h.events (Nat.le_refl _) (λ e f=>(key e f).1) (λ e f=>(key e f).2.1) ?_ (λ _ _=>.inl) (λ _ _=>.inl) ?_ ?_ ?_ U
 .intro j a ha e f x G said hc;obtain⟨⟨o,F,L⟩,B⟩:=(key e f).2.2 x G;obtain⟨T,_,_,H⟩:=hc;have E:ZZ (some b) a.loc:=by rw[T,L];exact⟨rfl,F⟩
  rcases H with H|H|⟨_,H,S⟩
  .exact h.grpP j a ha E H i K
  .rcases B with B|⟨B,_⟩ <;> rw[B]at H <;> cases H
  .rcases B with B|⟨_,z⟩
   .rw[B]at S;cases S
   .subst z;exact h.grpS j a ha E H
 .intro e f a ha k _;obtain⟨⟨o,F,L⟩,_⟩:=(key e f).2.2 a ha;rw[L];exact⟨λ Z=>I k _ rfl F (Zu Z),λ _ Y=>I k _ rfl F Y⟩
 .intro e f a ha _;obtain⟨_,B⟩:=(key e f).2.2 a ha;rcases B with B|⟨B,z⟩ <;> rw[B]
  .exact⟨λ h=>(by cases h),λ h=>(by cases h)⟩
  .exact⟨λ h=>(by cases h),λ _=>z⟩
 .intro e f a ha E;obtain⟨⟨o,F,L⟩,_⟩:=(key e f).2.2 a ha;rw[L]at E;exact absurd E.1 Q
def yp(h:TI (λ k=>(V k).canW) (λ k=>(V k).canR) rel A (some c) rm act wk w.heap.size tr)(S:c<w.heap.size)(K:∀k,QI c (V k))(G:act i)
  (L:∀e∈es,Gu c e) (H:A≠some c) (T:wk i) :
  TI (λ k=>(V k).canW) (λ k=>(V k).canR) rel A (some c) rm act wk w.heap.size (tr++MemOp.ofEvents i fn pos es):=by
 have key:∀e∈es,(MemAct.ofEvent e).low w.heap.size/\(∀a,MemAct.ofEvent e≠.mark (.release a))/\∀x,(MemAct.ofEvent e).touch?=some x->(∃o,o<2/\x.loc=.cell ⟨c,o,none⟩)/\x.kind=.atomic:=by
  intro e b;rcases L e b with U|⟨o,wr,K,rfl⟩
  .have:=P6 U;exact⟨this.2.1 _,this.2.2,λ x E=>by rw[this.1]at E;cases E⟩
  .refine⟨S,λ _ h=>(by cases h),λ x E=>?_⟩;cases E;exact⟨⟨o,K,rfl⟩,rfl⟩
 refine h.events (Nat.le_refl _) (λ e b=>(key e b).1) (λ e b=>(key e b).2.1) ?_ (λ _ _=>.inl) (λ _ _=>.inl) ?_ ?_ ?_ (.inr (.inl T))
 .intro j a ha e b x E said hc;obtain⟨⟨o,f,I⟩,P⟩:=(key e b).2.2 x E;obtain⟨Q,_,_,B⟩:=hc;have z:ZZ (some c) a.loc:=by rw[Q,I];exact⟨rfl,f⟩
  by_cases F:a.kind=.atomic
  .exfalso;rcases B with B|B|⟨_,B,N⟩
   .rw[F]at B;cases B
   .rw[P]at B;cases B
   .rw[P]at N;cases N
  .exact h.grpM j a ha z F i G
 .intro e b a ha k _;obtain⟨⟨o,f,I⟩,_⟩:=(key e b).2.2 a ha;rw[I];exact⟨λ X=>K k _ rfl f (Zu X),λ _ W=>K k _ rfl f W⟩
 .intro e b a ha z;obtain⟨⟨o,f,I⟩,_⟩:=(key e b).2.2 a ha;rw[I]at z;exact absurd z.1 H
 .intro e b a ha _;exact((key e b).2.2 a ha).2
def Vx(z:∀e∈es,Event.mute e=true\/∃o wr,e=⟨.cell ⟨b,o,none⟩,wr,true⟩)(I:∀j,j<es.size->deafBehind (Deaf tr i) (es.extract 0 j)≠0) :
  ∀j,tr.size<=j->¬(tr++MemOp.ofEvents i fn pos es).counts j:=by
 intro j K H;obtain⟨x,N,_,h⟩:=H;rcases Jh (t:=tr) N with⟨w,_⟩|⟨_,op,B,f,G⟩
 .omega
 .obtain⟨e,he,rfl⟩:=Go.Conc.mem_ofEvents B;rcases z e he with L|⟨o,wr,rfl⟩
  .rw[(P6 L).1]at f;cases f
  .cases f;rcases h with h|⟨g,F,h⟩
   .exact h rfl
   .have hgi:g=i:=by
     simp only[Trace.g?,G,Option.map_some,Option.some.injEq]at F;exact F.symm
    subst hgi;have w:=lt_size_of_getElem? G;have E:(MemOp.ofEvents g fn pos es).size=es.size:=by rw[ofEvents_eq];simp
    rw[Array.size_append,E]at w;obtain⟨k,rfl⟩:=Nat.exists_eq_add_of_le K;rw[deaf_inside tr g fn pos es k O1]at h;exact I k O1 h
