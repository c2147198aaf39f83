/- Lemmas. No conditions. -/
import Derived.Conc.Beside
import Derived.Conc.CrowdStepC
import Derived.Conc.JoinWorld
import Derived.Test.YtajkaognaiglhaaGreatDoorB00
set_option linter.all false
open List
namespace Go.TM
variable{T:Type}{P:Program}{S:Sys P T}{m:Bool}{g:Gr}{U:Qa T}{N b:Nat}
inductive Tr:Type 1 where
 |node (ι:Type) (f:ι->Tr)
variable{r:Tr}{K L e:List Tr}
def Tr.Sub:Tr->Tr->Prop
 |a,.node _ f=>∃i,a=f i
def Tr.sub_wf:WellFounded Tr.Sub:=by
 refine⟨λ r=>?_⟩
 induction r with
 |node ι f e=>
  refine⟨_,λ a h=>?_⟩;obtain⟨i,rfl⟩:=h;exact e i
def JR(S:Sys P T)(Stop:QK T):Tr->QK T
 |.node _ f=>FJ S Stop (λ m g U=>∃i,JR S Stop (f i) m g U)
section
variable{Stop:QK T}
def J.rank(h:J S Stop m g U):∃r,JR S Stop r m g U:=by
 refine J.ind (X:=λ m g U=>∃r,JR S Stop r m g U) (λ m g U h=>?_) h;refine⟨.node { x:Bool×Gr×Qa T // ∃r,JR S Stop r x.1 x.2.1 x.2.2 } (λ x=>Classical.choose x.2),?_⟩;exact h.mono λ m g U e=>⟨⟨(m,g,U),e.1⟩,Classical.choose_spec (p:=λ r=>JR S Stop r m g U) e.1⟩
end
section
variable{Stop:QK T}
def JR.step(h:JR S Stop r m g U):FJ S Stop (λ m g U=>∃e,Tr.Sub e r/\JR S Stop e m g U) m g U:=by
 cases r with
 |node ι f=>
  have w:FJ S Stop (λ m g U=>∃i,JR S Stop (f i) m g U) m g U:=h;exact w.mono λ m g U⟨i,z⟩=>⟨f i,⟨i,rfl⟩,z⟩
end
def ZU(e L:List Tr):Prop:=∃r B C,L.Perm (r::B)/\e.Perm (C++B)/\∀c∈C,Tr.Sub c r
def ZU.perm(h:ZU K L)(p:L.Perm e):ZU K e:=by
 obtain⟨r,B,C,f,w,z⟩:=h;exact⟨r,B,C,p.symm.trans f,w,z⟩
def E2(h:Acc ZU L)(p:L.Perm e):Acc ZU e:=⟨_,λ K f=>h.inv (f.perm p.symm)⟩
def Mv:Acc ZU []:=by
 refine⟨_,λ K h=>?_⟩;obtain⟨r,B,C,e,_⟩:=h;simp_all
def Bo(P:∀c,Tr.Sub c r->∀L,Acc ZU L->Acc ZU (c::L)):∀L,Acc ZU L->Acc ZU (r::L):=by
 intro L f
 induction f with
 |intro L e Q=>
  refine⟨_,λ K M=>?_⟩;obtain⟨x,B,C,z,G,H⟩:=M
  classical
  by_cases I:x=r
  .subst I;have E:L.Perm B:=z.cons_inv
   have key:∀C:List Tr,(∀c∈C,Tr.Sub c x)->Acc ZU (C++L):=by
    intro C
    induction C with
    |nil=>intro _;exact⟨L,e⟩
    |cons c C F=>intro w;simp_all
   exact E2 (key C H) ((Perm.append_left C E).trans G.symm)
  .have hm:x∈L:=by
    have:x∈r::L:=z.mem_iff.2 S1;simpa[I]using this
   have f:=perm_cons_erase hm
   have E:B.Perm (r::L.erase x):=by
    have:(x::B).Perm (x::r::L.erase x):=z.symm.trans ((f.cons r).trans (Perm.swap ..));exact this.cons_inv
   have w:ZU (C++L.erase x) L:=⟨x,L.erase x,C,f,Perm.refl _,H⟩;refine E2 (Q _ w) ?_;grind
def CO:WellFounded ZU:=by
 refine⟨λ L=>?_⟩
 have key:∀r:Tr,∀L,Acc ZU L->Acc ZU (r::L):=by
  intro r
  induction r using Tr.sub_wf.induction with
  |_ r e=>exact Bo e
 induction L with
 |nil=>exact Mv
 |cons r L e=>exact key r L e
def JF:List Tr×Nat->List Tr×Nat->Prop:=Prod.Lex ZU (· < ·)
def LR:WellFounded JF:=(Prod.lex ⟨ZU,CO⟩ ⟨(· < ·),Nat.lt_wfRel.wf⟩).wf
def JF.cut(h:ZU e L):JF (e,N) (L,b):=Prod.Lex.left _ _ h
def JF.num(h:N<b):JF (L,N) (L,b):=Prod.Lex.right _ h
variable{act act' wk wk':Nat->Prop}{rm:Option Nat}{tr u:Trace}{n size size' s:Nat}{χ:MemAct}{π:Touch}{rel rel':Nat->Option Nat}{y:MemOp}
section
open Go.Conc
inductive Hd where
 |run (i:Nat)
 |dep (i:Nat)
 |lck
 deriving DecidableEq
variable{A W' R':Hd->Loc->Prop}
def Kn(t:Trace)(rel:Nat->Option Nat):Hd->Nat->Prop
 |.run g,i=>Knows t g i
 |.dep g,i=>∃r,rel g=some r/\Before t i r
 |.lck,_=>True
def Loc.newN(n:Nat):Loc->Prop
 |.cell a=>n<=a.block
 |.obj b=>n<=b
 |_=>False
def JG(b:Option Nat):Loc->Prop
 |.cell a=>b=some a.block/\a.off<2
 |_=>False
def MK(act:Nat->Prop)(rm:Option Nat)(t:Trace)(i:Nat):Prop:=
 match rm with
 |none=>∀g,act g->Knows t g i
 |some r=>Before t i r
structure TI(W R:Hd->Loc->Prop)(rel:Nat->Option Nat)(blk mb rm:Option Nat)(act wk:Nat->Prop)(size:Nat)(t:Trace):Prop where
 clean:∀said,¬Race said t
 known:∀h i a,touchAt t i=some a->(W h a.loc\/(R h a.loc/\a.write=true))->Kn t rel h i
 low:∀op∈t,op.act.low size
 norel:∀i a,t.act? i≠some (.mark (.release a))
 grpP:∀i a,touchAt t i=some a->JG blk a.loc->a.kind=.plain->∀g,act g->Knows t g i
 grpS:∀i a,touchAt t i=some a->JG blk a.loc->a.kind=.said->Knows t 0 i
 relok:∀g r,rel g=some r->∃b,blk=some b/\t.act? r=some (.mark (.releaseMerge ⟨b,0,none⟩))/\t.heard r/\t.g? r=some g
 hand:∀i g,t.g? i=some g->g≠0->t.counts i->wk g\/(∃r,rel g=some r/\Before t i r)\/Knows t 0 i
 grpM:∀i a,touchAt t i=some a->JG mb a.loc->a.kind≠.atomic->∀g,act g->Knows t g i
 mutK:∀i a,touchAt t i=some a->(W .lck a.loc\/(R .lck a.loc/\a.write=true))->MK act rm t i
 mutR:∀r,rm=some r->∃m g,mb=some m/\t.act? r=some (.mark (.releaseMerge ⟨m,0,none⟩))/\t.heard r/\t.g? r=some g/\(wk g\/∃r',rel g=some r'/\Before t r r')
def MK.app{act:Nat->Prop}{rm:Option Nat}{t:Trace}{i:Nat}(u:Trace)(k:MK act rm t i):MK act rm (t++u) i:=by
 cases rm with
 |none=>exact λ g e=>(k g e).app u
 |some r=>exact Before.app u k
def MK.turn(h:∀g,act' g->act g)(k:MK act rm tr b):MK act' rm tr b:=by
 cases rm with
 |none=>exact λ g e=>k g (h g e)
 |some r=>exact k
def Kn.app{t:Trace}{rel:Nat->Option Nat}{h:Hd}{i:Nat}(u:Trace)(k:Kn t rel h i):Kn (t++u) rel h i:=by
 cases h with
 |run g=>exact Knows.app u k
 |dep g=>obtain⟨r,e,f⟩:=k;exact⟨r,e,f.app u⟩
 |lck=>trivial
def D6(h:χ.low n)(f:χ.touch?=some π):¬Loc.newN n π.loc:=by
 cases χ with
 |access e=>
  simp only[MemAct.touch?,Option.some.injEq]at f;subst f;obtain⟨loc,wr,w⟩:=e;cases loc <;> simp_all[MemAct.low,Loc.low,Loc.newN]
 |mark m=>cases m <;> simp_all[MemAct.touch?,MemAct.low,Loc.newN] <;> grind
 |_=>simp[MemAct.touch?]at f
def HD(h:(tr++u).act? b=some χ):(b<tr.size/\tr.act? b=some χ)\/(tr.size<=b/\∃op∈u,op.act=χ):=by
 obtain⟨op,B,e⟩:=Option.map_eq_some_iff.1 h;grind[getElem?_append_cases,act?_of]
section
variable{t:Trace}
def Jn(h:touchAt (t++u) b=some π):(b<t.size/\touchAt t b=some π)\/(t.size<=b/\∃op∈u,op.act.touch?=some π/\(t++u)[b]?=some op):=by
 obtain⟨x,B,e⟩:=touch_of h;grind[getElem?_append_cases,touchAt_of]
end
section
variable{R:Hd->Loc->Prop}{blk:Option Nat}{mb:Option Nat}
def TI.step(h:TI A R rel blk mb rm act wk size tr)(ag:size<=size')(Y:∀op∈u,op.g=s)(T:∀op∈u,op.act.low size')(ad:∀op∈u,∀a,op.act≠.mark (.release a))
  (aa:∀i a,touchAt tr i=some a->∀op∈u,∀b,op.act.touch?=some b->∀said,a.conflicts said b->Knows tr s i)
  (V:∀k l,W' k l->A k l\/(k=.run s/\Loc.newN size l)) (U:∀k l,R' k l->R k l\/(k=.run s/\Loc.newN size l))
  (L:∀op∈u,∀a,op.act.touch?=some a->∀k,k≠.run s->¬A k a.loc/\(a.write=true->¬R k a.loc))
  (S:∀op∈u,∀a,op.act.touch?=some a->JG blk a.loc->a.kind≠.plain/\(a.kind=.said->s=0)) (ac:∀op∈u,∀a,op.act.touch?=some a->JG mb a.loc->a.kind=.atomic)
  (N:s=0\/wk s\/∀i,tr.size<=i->¬(tr++u).counts i) :
  TI W' R' rel blk mb rm act wk size' (tr++u):=by
 refine⟨λ said=>noRace_append (h.clean said) Y λ i a G op f b H X=>aa i a G op f b H said X,?_,?_,?_,?_,?_,?_,?_,?_,?_,?_⟩
 .intro k i a G w;rcases Jn G with⟨E,B⟩|⟨E,op,f,z,K⟩
  .refine(h.known k i a B ?_).app u
   have hl:¬Loc.newN size a.loc:=by
    obtain⟨x,hx,ah⟩:=touch_of B;exact D6 (h.low x (Array.mem_of_getElem? hx)) ah
   grind
  .by_cases hk:k=.run s
   .subst hk;have:=knows_own K;rw[Y op f]at this;exact this
   grind
 .intro op f;rcases Array.mem_append.1 f with f|f
  .exact MemAct.low_mono ag (h.low op f)
  .exact T op f
 .intro i a e;rcases HD e with⟨_,e⟩|⟨_,op,f,z⟩
  .exact h.norel i a e
  simp_all
 .intro i a G H hk g' hg';rcases Jn G with⟨E,B⟩|⟨E,op,f,z,K⟩
  .exact(h.grpP i a B H hk g' hg').app u
  grind
 .intro i a G H hk;rcases Jn G with⟨E,B⟩|⟨E,op,f,z,K⟩
  .exact(h.grpS i a B H hk).app u
  grind[knows_own]
 .intro g' r hr;obtain⟨b,I,M,Z,h4⟩:=h.relok g' r hr;grind[lt_of_act?,act?_old,heard_old,g?_old]
 .intro i g' hg hne X;by_cases E:i<tr.size
  .rw[g?_old E]at hg;rcases h.hand i g' hg hne ((counts_old E).1 X)with I|⟨r,I,M⟩|I
   .exact .inl I
   .exact .inr (.inl ⟨r,I,M.app u⟩)
   .exact .inr (.inr (I.app u))
  .have E:tr.size<=i:=Nat.le_of_not_lt E
   have ab:g'=s:=by
    obtain⟨op,K,ae⟩:=Option.map_eq_some_iff.1 hg;rcases getElem?_append_cases K with⟨ai,_⟩|⟨_,af⟩
    .omega
    .rw[<- ae];exact Y op af
   grind
 .intro i a G H hk g' hg';rcases Jn G with⟨E,B⟩|⟨E,op,f,z,K⟩
  .exact(h.grpM i a B H hk g' hg').app u
  grind
 .intro i a G w;rcases Jn G with⟨E,B⟩|⟨E,op,f,z,K⟩
  .refine(h.mutK i a B ?_).app u;rcases w with w|⟨w,P⟩
   .exact .inl ((V _ _ w).resolve_right λ x=>by cases x.1)
   .exact .inr ⟨(U _ _ w).resolve_right λ x=>(by cases x.1),P⟩
  grind
 .intro r hr;obtain⟨m,g',I,M,Z,h4,h5⟩:=h.mutR r hr;have F:=lt_of_act? M;exact⟨m,g',I,by grind[act?_old],(heard_old F).2 Z,by grind[g?_old],h5.imp id λ⟨r',k1,k2⟩=>⟨r',k1,k2.app u⟩⟩
end
section
variable{R:Hd->Loc->Prop}{blk:Option Nat}{mb:Option Nat}
def TI.turn{act':Nat->Prop}(h:TI A R rel blk mb rm act wk size tr)(G:∀k l,W' k l->A k l)(F:∀k l,R' k l->R k l)(f:∀b,act' b->act b):TI W' R' rel blk mb rm act' wk size tr:=
 ⟨h.clean,λ k i a f E=>h.known k i a f (E.imp (G _ _) λ x=>⟨F _ _ x.1,x.2⟩),h.low,h.norel,λ i a e w z b B=>h.grpP i a e w z b (f b B),h.grpS,h.relok,h.hand,λ i a e w z b B=>h.grpM i a e w z b (f b B),λ i a e E=>(h.mutK i a e (E.imp (G _ _) λ x=>⟨F _ _ x.1,x.2⟩)).turn f,h.mutR⟩
end
def Xh(t:Trace)(y:MemOp):(t++#[y])[t.size]?=some y:=S1
def Gd(h:¬Race m tr)(w:y.act.touch?=none):¬Race m (tr++#[y]):=
 noRace_append (g:=y.g) h S1 λ i a _ op e b f=>by simp_all
def Zq(w:y.act.touch?=none)(h:touchAt (tr++#[y]) b=some π):b<tr.size/\touchAt tr b=some π:=by
 rcases Jn h with h|⟨_,op,f,e,_⟩
 .exact h
 simp_all
section
variable{t:Trace}
def Gf(e:Deaf t y.g=0):(t++#[y]).heard t.size:=
 ⟨y.g,by simp[Trace.g?],by rw[deaf_old (Nat.le_refl _)];exact e⟩
end
def Gc(B:y.act.touch?=none)(h:(tr++#[y]).counts b):b<tr.size/\tr.counts b:=by
 obtain⟨x,f,w⟩:=h;obtain⟨e,z⟩:=Zq B f;exact⟨e,(counts_old e).1 ⟨x,f,w⟩⟩
section
variable{R:Hd->Loc->Prop}{blk:Option Nat}{mb:Option Nat}
def TI.release(h:TI A R rel blk mb rm act wk size tr)(hb:blk=some b)(U:y.act=.mark (.releaseMerge ⟨b,0,none⟩))(Y:b<size)
  (hd:Deaf tr y.g=0) (hg:rel y.g=none) (f:∀k,rel' k=if k=y.g then some tr.size else rel k)
  (hW:∀k l,W' k l->A k l/\k≠.dep y.g\/(k=.dep y.g/\A (.run y.g) l)) (hR:∀k l,R' k l->R k l/\k≠.dep y.g\/(k=.dep y.g/\R (.run y.g) l)) (Q:∀k,wk k->wk' k\/k=y.g) :
  TI W' R' rel' blk mb rm act wk' size (tr++#[y]):=by
 have H:y.act.touch?=none:=by rw[U];rfl
 refine⟨λ said=>Gd (h.clean said) H,?_,?_,?_,?_,?_,?_,?_,?_,?_,?_⟩
 .intro k i a ha z;obtain⟨L,w⟩:=Zq H ha
  have key:k≠.dep y.g->(A k a.loc\/(R k a.loc/\a.write=true))->Kn (tr++#[y]) rel' k i:=by
   intro G z;have:=(h.known k i a w z).app #[y];cases k with
   |run g'=>exact this
   |dep g'=>
    obtain⟨r,I,K⟩:=this;refine⟨r,?_,K⟩;rw[f,if_neg]
    .exact I
    .intro e;subst e;exact G rfl
   |lck=>trivial
  have M:k=.dep y.g->(A (.run y.g) a.loc\/(R (.run y.g) a.loc/\a.write=true))->Kn (tr++#[y]) rel' k i:=by
   intro G hq;subst G;refine⟨tr.size,by rw[f,if_pos rfl],.inr ?_⟩;exact Knows.hb_new (h.known (.run y.g) i a w hq) (Nat.le_refl _) (Xh tr y) rfl
  grind
 .intro op F;rcases Array.mem_append.1 F with F|F
  .exact h.low op F
  .simp at F;subst F;rw[U];exact Y
 .intro i a e;rcases HD e with⟨_,e⟩|⟨_,op,F,P⟩
  .exact h.norel i a e
  simp_all
 .intro i a ha hbl G g' hg';obtain⟨L,w⟩:=Zq H ha;exact(h.grpP i a w hbl G g' hg').app _
 .intro i a ha hbl G;obtain⟨L,w⟩:=Zq H ha;exact(h.grpS i a w hbl G).app _
 .intro g' r hr;rw[f]at hr;split at hr
  .rename_i e;subst e;cases hr;exact⟨b,hb,by grind[act?_of],Gf hd,by simp[Trace.g?]⟩
  .obtain⟨b,I,K,V,S⟩:=h.relok g' r hr;grind[lt_of_act?,act?_old,heard_old,g?_old]
 .intro i g' hg' hne hc;obtain⟨L,Z⟩:=Gc H hc;rw[g?_old L]at hg';by_cases B:g'=y.g
  .obtain⟨op,ho,hog⟩:=Option.map_eq_some_iff.1 hg';refine .inr (.inl ⟨tr.size,by rw[f,if_pos B],.inr ?_⟩);grind[getElem?_append_old,hb_po]
  .rcases h.hand i g' hg' hne Z with I|⟨r,I,K⟩|I
   .grind
   .exact .inr (.inl ⟨r,by simp_all,K.app _⟩)
   .exact .inr (.inr (I.app _))
 .intro i a ha hbl G g' hg';obtain⟨L,w⟩:=Zq H ha;exact(h.grpM i a w hbl G g' hg').app _
 .intro i a ha z;obtain⟨L,w⟩:=Zq H ha;refine(h.mutK i a w ?_).app _;grind
 .intro r hr;obtain⟨m,g',I,K,V,S,X⟩:=h.mutR r hr;have E:=lt_of_act? K;refine⟨m,g',I,by grind[act?_old],(heard_old E).2 V,by grind[g?_old],?_⟩;by_cases B:g'=y.g
  .obtain⟨op,ho,hog⟩:=Option.map_eq_some_iff.1 S;refine .inr ⟨tr.size,by rw[f,if_pos B],.inr ?_⟩;grind[getElem?_append_old,hb_po]
  .rcases X with X|⟨r',k1,k2⟩
   .grind
   .exact .inr ⟨r',by simp_all,k2.app _⟩
end
section
variable{R:Hd->Loc->Prop}{blk:Option Nat}{mb:Option Nat}
def TI.acquire{b:Nat}{y:MemOp}{act' wk':Nat->Prop}(h:TI A R rel blk mb rm act wk size tr)(hb:blk=some b)(U:y.act=.mark (.acquire ⟨b,0,none⟩))(hg:y.g=0)(X:b<size)
  (hd:Deaf tr 0=0) (Q:∀s,¬wk s) (V:act 0)
  (hW:∀k l,W' k l->k=.run 0/\(A (.run 0) l\/(∃s r,rel s=some r/\A (.dep s) l)\/A .lck l)) (hR:∀k l,R' k l->k=.run 0/\(R (.run 0) l\/(∃s r,rel s=some r/\R (.dep s) l)\/R .lck l)) :
  TI W' R' (λ _=>none) none none none act' wk' size (tr++#[y]):=by
 have M:y.act.touch?=none:=by rw[U];rfl
 have E:=Xh tr y
 have G:∀s r,rel s=some r->Knows (tr++#[y]) 0 r:=by
  intro s r K;obtain⟨b',z,F,Z,h4⟩:=h.relok s r K;rw[hb]at z;cases z;have I:=lt_of_act? F;refine⟨tr.size,y,E,hg,.inr (.single (.inr ⟨.marked (a:=⟨b,0,none⟩) I (.inr (by rw[act?_old I];exact F)) (by rw[act?_of E,U]) (λ k _ hk=>by rw[act?_old hk];exact h.norel k _),(heard_old I).2 Z,Gf (by rw[hg];exact hd)⟩))⟩
 have N:∀i,MK act rm tr i->Knows (tr++#[y]) 0 i:=by
  intro i H;cases L:rm with
  |none=>rw[L]at H;exact(H 0 V).app _
  |some r=>
   rw[L]at H;obtain⟨m,g',z,F,Z,h4,h5⟩:=h.mutR r L;obtain⟨S,k1,k2⟩:=h5.resolve_left (Q g');exact Knows.of_before (Before.app _ H) (Knows.of_before (k2.app _) (G g' S k1))
 refine⟨λ said=>Gd (h.clean said) M,?_,?_,?_,?_,?_,?_,?_,?_,?_,λ r K=>(by cases K)⟩
 .intro k i a ha f;obtain⟨H,B⟩:=Zq M ha;rcases f with f|⟨f,T⟩
  .obtain⟨rfl,f|⟨s,r,K,f⟩|f⟩:=hW _ _ f
   .exact(h.known (.run 0) i a B (.inl f)).app #[y]
   .obtain⟨S,z,F⟩:=h.known (.dep s) i a B (.inl f);exact Knows.of_before (F.app _) (G s S z)
   .exact N i (h.mutK i a B (.inl f))
  .obtain⟨rfl,f|⟨s,r,K,f⟩|f⟩:=hR _ _ f
   .exact(h.known (.run 0) i a B (.inr ⟨f,T⟩)).app #[y]
   .obtain⟨S,z,F⟩:=h.known (.dep s) i a B (.inr ⟨f,T⟩);exact Knows.of_before (F.app _) (G s S z)
   .exact N i (h.mutK i a B (.inr ⟨f,T⟩))
 .intro op w;rcases Array.mem_append.1 w with w|w
  .exact h.low op w
  .simp at w;subst w;rw[U];exact X
 .intro i a e;rcases HD e with⟨_,e⟩|⟨_,op,w,P⟩
  .exact h.norel i a e
  .simp at w;subst w;rw[U]at P;cases P
 .intro i a ha hbl;unfold JG at hbl;split at hbl
  .cases hbl.1
  .exact hbl.elim
 .intro i a ha hbl;unfold JG at hbl;split at hbl
  .cases hbl.1
  .exact hbl.elim
 .intro g' r K;cases K
 .intro i g' hg' hne hc;obtain⟨H,Y⟩:=Gc M hc;rw[g?_old H]at hg';rcases h.hand i g' hg' hne Y with z|⟨r,z,F⟩|z
  .exact absurd z (Q g')
  .exact .inr (.inr (Knows.of_before (F.app _) (G g' r z)))
  .exact .inr (.inr (z.app _))
 .intro i a ha hbl;unfold JG at hbl;split at hbl
  .cases hbl.1
  .exact hbl.elim
 grind
end
section
variable{R:Hd->Loc->Prop}{blk:Option Nat}{mb:Option Nat}
def TI.fork{c:Nat}{z:MemOp}(h:TI A R rel blk mb rm act wk size tr)(hy:y.act=.go c)(U:y.g=0)(hz:z.act=.start)(X:z.g=c)(af:Deaf tr 0=0)(ag:Deaf tr c=0)(ak:c≠0)
  (L:∀s,act' s->act s\/(s=c/\act 0)) (ad:∀s,wk s->wk' s)
  (hW:∀k l,W' k l->A k l\/(k=.run c/\A (.run 0) l)) (hR:∀k l,R' k l->R k l\/(k=.run c/\R (.run 0) l)) :
  TI W' R' rel blk mb rm act' wk' size (tr++#[y,z]):=by
 have e:tr++#[y,z]=(tr++#[y])++#[z]:=by apply Array.ext';simp
 have V:y.act.touch?=none:=by rw[hy];rfl
 have Z:z.act.touch?=none:=by rw[hz];rfl
 have ac:(tr++#[y]).size=tr.size+1:=S1
 have aj:(tr++#[y]++#[z])[tr.size]?=some y:=by rw[getElem?_append_old O1];exact Xh tr y
 have Y:(tr++#[y]++#[z])[tr.size+1]?=some z:=by have:=Xh (tr++#[y]) z;rwa [ac]at this
 have F:∀{i:Nat}{a:Touch},touchAt (tr++#[y]++#[z]) i=some a->i<tr.size/\touchAt tr i=some a:=by
  intro i a K;exact Zq V (Zq Z K).2
 have ai:HappensBefore (tr++#[y]++#[z]) tr.size (tr.size+1):=by
  refine .single (.inr ⟨.spawn (child:=c) (by rw[act?_of aj,hy]) (by rw[act?_of Y,hz]) (by grind[Trace.g?]),?_,?_⟩)
  .rw[heard_old O1];exact Gf (by rw[U];exact af)
  .have:=Gf (t:=tr++#[y]) (y:=z) (by rw[X,Deaf_other tr (g':=0) O1 _ (by simp[U])];exact ag)
   rwa [ac]at this
 have M:∀i,Knows tr 0 i->Knows (tr++#[y]++#[z]) c i:=by
  intro i Q;have I:HappensBefore (tr++#[y]) i tr.size:=Q.hb_new (Nat.le_refl _) (Xh tr y) U;exact⟨tr.size+1,z,Y,X,.inr ((hb_app _ I).trans ai)⟩
 have app:∀{s i:Nat},Knows tr s i->Knows (tr++#[y]++#[z]) s i:=λ h=>(h.app _).app _;rw[e];refine⟨λ said=>Gd (Gd (h.clean said) V) Z,?_,?_,?_,?_,?_,?_,?_,?_,?_,?_⟩
 .intro k i a K P;obtain⟨Q,B⟩:=F K;rcases P with P|⟨P,hw⟩
  .rcases hW _ _ P with T|⟨rfl,T⟩
   .exact((h.known k i a B (.inl T)).app _).app _
   .exact M i (h.known (.run 0) i a B (.inl T))
  .rcases hR _ _ P with T|⟨rfl,T⟩
   .exact((h.known k i a B (.inr ⟨T,hw⟩)).app _).app _
   .exact M i (h.known (.run 0) i a B (.inr ⟨T,hw⟩))
 .intro op w;rcases Array.mem_append.1 w with w|w
  .rcases Array.mem_append.1 w with w|w
   .exact h.low op w
   .simp at w;subst w;rw[hy];trivial
  .simp at w;subst w;rw[hz];trivial
 .intro i a e;rcases HD e with⟨_,e⟩|⟨_,op,w,N⟩
  .rcases HD e with⟨_,e⟩|⟨_,op,w,N⟩
   .exact h.norel i a e
   .simp at w;subst w;rw[hy]at N;cases N
  simp_all
 .intro i a K hbl H g' f;obtain⟨Q,B⟩:=F K;rcases L g' f with f|⟨rfl,f⟩
  .exact app (h.grpP i a B hbl H g' f)
  .exact M i (h.grpP i a B hbl H 0 f)
 .intro i a K hbl H;obtain⟨Q,B⟩:=F K;exact app (h.grpS i a B hbl H)
 .intro g' r hr;obtain⟨b,I,S,h3,h4⟩:=h.relok g' r hr;have G:=lt_of_act? S;have E:r<(tr++#[y]).size:=O1
  grind[act?_old,heard_old,g?_old]
 .intro i g' f hne hc;obtain⟨ah,ae⟩:=Gc Z hc;obtain⟨Q,aa⟩:=Gc V ae;rw[g?_old ah,g?_old Q]at f;rcases h.hand i g' f hne aa with I|⟨r,I,S⟩|I
  .exact .inl (ad _ I)
  .exact .inr (.inl ⟨r,I,(S.app _).app _⟩)
  simp_all
 .intro i a K hbl H g' f;obtain⟨Q,B⟩:=F K;rcases L g' f with f|⟨rfl,f⟩
  .exact app (h.grpM i a B hbl H g' f)
  .exact M i (h.grpM i a B hbl H 0 f)
 .intro i a K P;obtain⟨Q,B⟩:=F K
  have H:=h.mutK i a B (by
   grind)
  cases ab:rm with
  |none=>
   rw[ab]at H;intro g' f;rcases L g' f with f|⟨rfl,f⟩
   .exact app (H g' f)
   .exact M i (H 0 f)
  |some r=>rw[ab]at H;exact Before.app _ (Before.app _ H)
 .intro r hr;obtain⟨m,g',I,S,h3,h4,h5⟩:=h.mutR r hr;have G:=lt_of_act? S;have E:r<(tr++#[y]).size:=O1
  exact⟨m,g',I,by grind[act?_old],(heard_old E).2 ((heard_old G).2 h3),by grind[g?_old],h5.imp (ad _) λ⟨r',k1,k2⟩=>⟨r',k1,(k2.app _).app _⟩⟩
end
section
variable{R:Hd->Loc->Prop}{mb:Option Nat}
def TI.create(h:TI A R rel none mb rm act wk size tr)(G:∀l,¬W' .lck l)(F:∀l,¬R' .lck l)(w:∀N,rel N=none)(H:∀a:Addr,a.block=b->a.off<2->A (.run 0) (.cell a))(K:∀k l,W' k l->A k l)(I:∀k l,R' k l->R k l) :
  TI W' R' rel (some b) none none (·=0) wk size tr:=by
 refine⟨h.clean,λ k i a e f=>h.known k i a e (f.imp (K _ _) λ x=>⟨I _ _ x.1,x.2⟩),h.low,h.norel,?_,?_,λ N r z=>(by rw[w]at z;cases z),h.hand,?_,?_,λ r z=>(by cases z)⟩
 .intro i a e hbl _ N hg;obtain⟨loc,wr,L⟩:=a;cases loc <;> simp only[JG]at hbl;obtain⟨B,E⟩:=hbl;cases B;rw[hg];exact h.known (.run 0) i _ e (.inl (H _ rfl E))
 .intro i a e hbl _;obtain⟨loc,wr,L⟩:=a;cases loc <;> simp only[JG]at hbl;obtain⟨B,E⟩:=hbl;cases B;exact h.known (.run 0) i _ e (.inl (H _ rfl E))
 .intro i a e hbl;unfold JG at hbl;split at hbl
  .cases hbl.1
  .exact hbl.elim
 simp_all
end
section
variable{R:Hd->Loc->Prop}{blk:Option Nat}
def TI.createM(h:TI A R rel blk none rm act wk size tr)(z:∀b,act' b->b=0/\act 0)(N:∀a:Addr,a.block=s->a.off<2->A (.run 0) (.cell a))
  (M:∀k l,W' k l->A k l\/(k=.lck/\A (.run 0) l)) (L:∀k l,R' k l->R k l\/(k=.lck/\R (.run 0) l)) (H:∀l,¬A .lck l) (G:∀l,¬R .lck l) :
  TI W' R' rel blk (some s) none act' wk size tr:=by
 have key:∀k i a,touchAt tr i=some a->(W' k a.loc\/(R' k a.loc/\a.write=true))->(A k a.loc\/(R k a.loc/\a.write=true))\/(k=.lck/\(A (.run 0) a.loc\/(R (.run 0) a.loc/\a.write=true))):=by
  intro k i a _ f;rcases f with f|⟨f,I⟩
  .rcases M _ _ f with f|⟨e,f⟩
   .exact .inl (.inl f)
   .exact .inr ⟨e,.inl f⟩
  .rcases L _ _ f with f|⟨e,f⟩
   .exact .inl (.inr ⟨f,I⟩)
   .exact .inr ⟨e,.inr ⟨f,I⟩⟩
 refine⟨h.clean,λ k i a w f=>?_,h.low,h.norel,λ i a E F K b B=>?_,h.grpS,h.relok,h.hand,?_,?_,λ r P=>(by cases P)⟩
 .rcases key k i a w f with f|⟨rfl,_⟩
  .exact h.known k i a w f
  .trivial
 .obtain⟨rfl,z⟩:=z b B;exact h.grpP i a E F K 0 z
 .intro i a w hbl hk b B;obtain⟨loc,wr,Q⟩:=a;cases loc <;> simp only[JG]at hbl;obtain⟨E,F⟩:=hbl;cases E;rw[(z b B).1];exact h.known (.run 0) i _ w (.inl (N _ rfl F))
 .intro i a w f b B;rw[(z b B).1];rcases key .lck i a w f with f|⟨_,f⟩
  .simp_all
  .exact h.known (.run 0) i a w f
end
section
variable{R:Hd->Loc->Prop}{blk:Option Nat}{mb:Option Nat}
def TI.mrel(h:TI A R rel blk mb rm act wk size tr)(Y:mb=some s)(L:y.act=.mark (.releaseMerge ⟨s,0,none⟩))(N:s<size)(X:Deaf tr y.g=0)(Q:wk y.g)
  (T:∀k l,W' k l->(A k l/\k≠.lck)\/(k=.lck/\A (.run y.g) l)) (S:∀k l,R' k l->(R k l/\k≠.lck)\/(k=.lck/\R (.run y.g) l)) :
  TI W' R' rel blk mb (some tr.size) act wk size (tr++#[y]):=by
 have z:y.act.touch?=none:=by rw[L];rfl
 refine⟨λ said=>Gd (h.clean said) z,?_,?_,?_,?_,?_,?_,?_,?_,?_,?_⟩
 .intro k i a ha E;obtain⟨H,f⟩:=Zq z ha;by_cases B:k=.lck
  .subst B;trivial
  .refine(h.known k i a f ?_).app _;grind
 .intro op w;rcases Array.mem_append.1 w with w|w
  .exact h.low op w
  .simp at w;subst w;rw[L];exact N
 .intro i a e;rcases HD e with⟨_,e⟩|⟨_,op,w,I⟩
  .exact h.norel i a e
  simp_all
 .intro i a ha hbl B g' hg';obtain⟨H,f⟩:=Zq z ha;exact(h.grpP i a f hbl B g' hg').app _
 .intro i a ha hbl B;obtain⟨H,f⟩:=Zq z ha;exact(h.grpS i a f hbl B).app _
 .intro g' r hr;obtain⟨b,F,K,U,V⟩:=h.relok g' r hr;grind[lt_of_act?,act?_old,heard_old,g?_old]
 .intro i g' hg' hne hc;obtain⟨H,M⟩:=Gc z hc;rw[g?_old H]at hg';rcases h.hand i g' hg' hne M with F|⟨r,F,K⟩|F
  .exact .inl F
  .exact .inr (.inl ⟨r,F,K.app _⟩)
  .exact .inr (.inr (F.app _))
 .intro i a ha hbl B g' hg';obtain⟨H,f⟩:=Zq z ha;exact(h.grpM i a f hbl B g' hg').app _
 .intro i a ha E;obtain⟨H,f⟩:=Zq z ha
  have B:Knows tr y.g i:=h.known (.run y.g) i a f (by
   grind)
  exact .inr (B.hb_new (Nat.le_refl _) (Xh tr y) rfl)
 .intro r hr;cases hr;exact⟨s,y.g,Y,by grind[act?_of],Gf X,by simp[Trace.g?],.inl Q⟩
end
section
variable{R:Hd->Loc->Prop}{blk:Option Nat}{mb:Option Nat}
def TI.macq(h:TI A R rel blk mb rm act wk size tr)(hm:mb=some s)(U:y.act=.mark (.acquire ⟨s,0,none⟩))(Y:s<size)(hd:Deaf tr y.g=0)(V:act y.g)
  (hW:∀k l,W' k l->k≠.lck/\(A k l\/(k=.run y.g/\A .lck l))) (hR:∀k l,R' k l->k≠.lck/\(R k l\/(k=.run y.g/\R .lck l))) :
  TI W' R' rel blk mb rm act wk size (tr++#[y]):=by
 have B:y.act.touch?=none:=by rw[U];rfl
 have F:=Xh tr y
 have P:∀i,MK act rm tr i->Knows (tr++#[y]) y.g i:=by
  intro i I;cases M:rm with
  |none=>rw[M]at I;exact(I _ V).app _
  |some r=>
   rw[M]at I;obtain⟨m',g',E,H,N,T,h5⟩:=h.mutR r M;rw[hm]at E;cases E;have f:=lt_of_act? H;have S:Knows (tr++#[y]) y.g r:=⟨tr.size,y,F,rfl,.inr (.single (.inr ⟨.marked (a:=⟨s,0,none⟩) f (.inr (by grind[act?_old])) (by rw[act?_of F,U]) (λ k _ K=>by rw[act?_old K];exact h.norel k _),(heard_old f).2 N,Gf hd⟩))⟩;exact Knows.of_before (Before.app _ I) S
 refine⟨λ said=>Gd (h.clean said) B,?_,?_,?_,?_,?_,?_,?_,?_,?_,?_⟩
 .intro k i a ha G;obtain⟨I,w⟩:=Zq B ha;rcases G with G|⟨G,Z⟩
  .rcases(hW _ _ G).2 with L|⟨rfl,L⟩
   .exact(h.known k i a w (.inl L)).app _
   .exact P i (h.mutK i a w (.inl L))
  .rcases(hR _ _ G).2 with L|⟨rfl,L⟩
   .exact(h.known k i a w (.inr ⟨L,Z⟩)).app _
   .exact P i (h.mutK i a w (.inr ⟨L,Z⟩))
 .intro op z;rcases Array.mem_append.1 z with z|z
  .exact h.low op z
  .simp at z;subst z;rw[U];exact Y
 .intro i a e;rcases HD e with⟨_,e⟩|⟨_,op,z,Q⟩
  .exact h.norel i a e
  simp_all
 .intro i a ha hbl K g' hg';obtain⟨I,w⟩:=Zq B ha;exact(h.grpP i a w hbl K g' hg').app _
 .intro i a ha hbl K;obtain⟨I,w⟩:=Zq B ha;exact(h.grpS i a w hbl K).app _
 .intro g' r S;obtain⟨b,E,H,N,T⟩:=h.relok g' r S;grind[lt_of_act?,act?_old,heard_old,g?_old]
 .intro i g' hg' hne hc;obtain⟨I,X⟩:=Gc B hc;rw[g?_old I]at hg';rcases h.hand i g' hg' hne X with E|⟨r,E,H⟩|E
  .exact .inl E
  .exact .inr (.inl ⟨r,E,H.app _⟩)
  .exact .inr (.inr (E.app _))
 .intro i a ha hbl K g' hg';obtain⟨I,w⟩:=Zq B ha;exact(h.grpM i a w hbl K g' hg').app _
 .grind
 .intro r S;obtain⟨m',g',E,H,N,T,h5⟩:=h.mutR r S;have f:=lt_of_act? H;exact⟨m',g',E,by grind[act?_old],(heard_old f).2 N,by grind[g?_old],h5.imp id λ⟨r',k1,k2⟩=>⟨r',k1,k2.app _⟩⟩
end
end
variable{w w':World}{H:TypeId}{st' sm v sm':Value}{es:Array Event}{γ:List (Nat×Bool)}{l:Loc}{U' τ Up:Qa T}{α:Type _}{μ k':Hd}{κ:Hd->Qa T}{υ φ:Q2}{tp tc:T}{j wt:Nat}{W:List Nat}{pend:Bool}{dM:Nat->List Q2}{M:List Q2}{β:Value->Value->World}{ok:List (Nat×Bool)->Prop}{ζ:Frame}{cs:List Frame}{status:GoStatus}{offers:Option (Array CommCase×CommShape)}{Q Z:Gr}{ψ:List Deferred}
inductive QE(α:Type) where
 |ok (a:α) (st sm:Value) (es:Array Event) (bs:List (Nat×Bool))
 |blocked (st sm:Value) (bs:List (Nat×Bool))
 |stuck
def ZQ(a:Addr):Bool:=a.spot.isNone&&Nat.beq a.off 0
def JS(a:Addr):Bool:=a.spot.isNone&&Nat.beq a.off 1
def O5{a:Addr}(h:ZQ a=true):a=⟨a.block,0,none⟩:=by
 obtain⟨b,o,s⟩:=a;simp_all[ZQ,Bool.and_eq_true,Option.isNone_iff_eq_none,Nat.eq_of_beq_eq_true]
def O4{a:Addr}(h:JS a=true):a=⟨a.block,1,none⟩:=by
 obtain⟨b,o,s⟩:=a;simp_all[JS,Bool.and_eq_true,Option.isNone_iff_eq_none,Nat.eq_of_beq_eq_true]
def XE:Value->Bool
 |.int ..=>true
 |_=>false
def Jo(P:Program)(t:TypeId){α:Type}:Sem α->Value->Value->Array Event->List (Nat×Bool)->QE α
 |.pure a,st,sm,es,bs=>.ok a st sm es bs
 |.program k,st,sm,es,bs=>Jo P t (k P) st sm es bs
 |.mark m k,st,sm,es,bs=>Jo P t k st sm (es.push ⟨.mark m,false,true⟩) bs
 |.load .atomic a k,st,sm,es,bs=>
  bif ZQ a then Jo P t (k st) st sm (es.push ⟨.cell a,false,true⟩) ((a.block,true)::bs)
  else bif JS a then Jo P t (k sm) st sm (es.push ⟨.cell a,false,true⟩) ((a.block,true)::bs)else .stuck
 |.load .plain a k,st,sm,es,bs=>
  bif ZQ a then Jo P t (k st) st sm (es.push ⟨.cell a,false,false⟩) ((a.block,true)::bs)
  else bif JS a then Jo P t (k sm) st sm (es.push ⟨.cell a,false,false⟩) ((a.block,true)::bs)else .stuck
 |.store .atomic a v k,st,sm,es,bs=>
  bif XE v then
   bif ZQ a then Jo P t k v sm (es.push ⟨.cell a,true,true⟩) ((a.block,true)::bs)
   else bif JS a then Jo P t k st v (es.push ⟨.cell a,true,true⟩) ((a.block,true)::bs)else .stuck
  else .stuck
 |.shape r k,st,sm,es,bs=>Jo P t (k (some (t,2))) st sm es ((r,false)::bs)
 |.frozen a k,st,sm,es,bs=>Jo P t (k false) st sm es ((a.block,false)::bs)
 |.halt .blocked,st,sm,_,bs=>.blocked st sm bs
 |_,_,_,_,_=>.stuck
def Sh(b:Nat)(t:TypeId)(st sm:Value)(w:World):Prop:=w.heap[b]?=some (.cells #[st,sm] t (0,0))
def two(w:World)(b:Nat)(t:TypeId)(st sm:Value):World:={ w with heap:=w.heap.setIfInBounds b (.cells #[st,sm] t (0,0)) }
def Sh.two{w:World}{b:Nat}{t:TypeId}{st sm st' sm':Value}(h:Sh b t st sm w):Sh b t st' sm' (two w b t st' sm'):=by
 grind[Sh,TM.two]
def Sh.two_same(h:Sh b H st' sm w):TM.two w b H st' sm=w:=by
 obtain⟨z,f⟩:=Array.getElem?_eq_some_iff.1 h
 have:w.heap.setIfInBounds b (.cells #[st',sm] H (0,0))=w.heap:=by
  apply Array.ext
  .simp
  .intro i hi hi';rw[Array.getElem_setIfInBounds (by simpa using hi)];split
   .rename_i e;subst e;exact f.symm
   .rfl
 simp[TM.two,this]
def Te:two (two w b H v sm) b H st' sm'=two w b H st' sm':=by
 simp[two,Array.setIfInBounds_setIfInBounds]
def Sh.cell0(h:Sh b H st' sm w):w.cell? ⟨b,0,none⟩=some st'/\w.cell? ⟨b,1,none⟩=some sm/\w.frozen? ⟨b,0,none⟩=false/\w.frozen? ⟨b,1,none⟩=false:=by
 grind[Sh,World.cell?,World.frozen?]
def Sh.set0(h:Sh b H st' sm w):w.setCell ⟨b,0,none⟩ v=TM.two w b H v sm:=by
 obtain⟨z,f⟩:=Array.getElem?_eq_some_iff.1 h;simp only[World.setCell,TM.two];congr 1;grind
def Sh.set1(h:Sh b H st' sm w):w.setCell ⟨b,1,none⟩ v=TM.two w b H st' v:=by
 obtain⟨z,f⟩:=Array.getElem?_eq_some_iff.1 h;simp only[World.setCell,TM.two];congr 1;grind
def Ki(P:Program)(s:Sem T)(b:Nat)(t:TypeId)(w:World)(es:Array Event)(bs:List (Nat×Bool)):QE T->Prop
 |.ok x st' sm' f e=>(∀y∈e,y.1=b)->(∀y∈bs,y∈e)/\s.runT P w es=(.ok x (two w b t st' sm'),f)
 |.blocked st' sm' e=>(∀y∈e,y.1=b)->(∀y∈bs,y∈e)/\∃f,s.runT P w es=(.halt .blocked (two w b t st' sm'),f)
 |.stuck=>True
def Ki.of{s L:Sem T}{t:TypeId}{z:Array Event}{r:QE T}
  (h:Ki P L b t w' z ((N,m)::γ) r) (I:N=b->s.runT P w es=L.runT P w' z) (K:∀st sm,two w' b t st sm=two w b t st sm):Ki P s b t w es γ r:=by
 cases r with
 |ok x st' sm' e F=>
  intro E;obtain⟨B,G⟩:=h E;exact⟨λ y H=>B y (by simp[H]),by rw[I (E _ (B (N,m) S1)),G,K]⟩
 |blocked st' sm' F=>
  intro E;obtain⟨B,e,G⟩:=h E;exact⟨λ y H=>B y (by simp[H]),e,by rw[I (E _ (B (N,m) S1)),G,K]⟩
 |stuck=>trivial
def MQ{t:TypeId}(s:Sem T):∀{st sm:Value}{es:Array Event}{bs:List (Nat×Bool)}{w:World},
  Sh b t st sm w->Ki P s b t w es bs (Jo P t s st sm es bs):=by
 induction s with
 |pure a=>
  intro st sm es bs w f L;exact⟨λ _ h=>h,by rw[f.two_same];rfl⟩
 |program k G=>
  intro st sm es bs w f;exact G P f
 |mark m k G=>
  intro st sm es bs w f;exact G f
 |load m a k G=>
  intro st sm es bs w f;cases m with
  |plain=>
   simp only[Jo];cases e:ZQ a with
   |true=>
    simp only[cond_true];refine(G st f).of (λ z=>?_) (λ _ _=>rfl);have B:=O5 e;rw[z]at B;have E:=f.cell0.1;grind[Sem.runT]
   |false=>
    simp only[cond_false];cases I:JS a with
    |false=>exact trivial
    |true=>
     simp only[cond_true];refine(G sm f).of (λ z=>?_) (λ _ _=>rfl);have B:=O4 I;rw[z]at B;have E:=f.cell0.2.1;grind[Sem.runT]
  |atomic=>
   simp only[Jo];cases e:ZQ a with
   |true=>
    simp only[cond_true];refine(G st f).of (λ z=>?_) (λ _ _=>rfl);have B:=O5 e;rw[z]at B;have E:=f.cell0.1;grind[Sem.runT]
   |false=>
    simp only[cond_false];cases I:JS a with
    |false=>exact trivial
    |true=>
     simp only[cond_true];refine(G sm f).of (λ z=>?_) (λ _ _=>rfl);have B:=O4 I;rw[z]at B;have E:=f.cell0.2.1;grind[Sem.runT]
 |store m a v k G=>
  intro st sm es bs w f;cases m with
  |plain=>exact trivial
  |atomic=>
   simp only[Jo];cases ev:XE v with
   |false=>exact trivial
   |true=>
    simp only[cond_true]
    obtain⟨H,n,rfl⟩:∃H n,v=.int H n:=by
     cases v <;> simp[XE]at ev;simp_all
    cases e:ZQ a with
    |true=>
     simp only[cond_true];refine(G (w:=two w b t (.int H n) sm) f.two).of (λ z=>?_) (λ _ _=>Te);have B:=O5 e;rw[z]at B;have E:=f.cell0.1;have K:=f.cell0.2.2.1;have F:=f.set0 (v:=.int H n);simp_all[Sem.runT,Bool.false_eq_true,if_false]
    |false=>
     simp only[cond_false];cases I:JS a with
     |false=>exact trivial
     |true=>
      simp only[cond_true];refine(G (w:=two w b t st (.int H n)) f.two).of (λ z=>?_) (λ _ _=>Te);have B:=O4 I;rw[z]at B;have E:=f.cell0.2.1;have K:=f.cell0.2.2.2;have F:=f.set1 (v:=.int H n);simp_all[Sem.runT,Bool.false_eq_true,if_false]
 |shape r k G=>
  intro st sm es bs w f;refine(G (some (t,2)) f).of (λ z=>?_) (λ _ _=>rfl);subst z;simp only[Sem.runT,World.shape?,show w.heap[r]?=_ from f];rfl
 |frozen a k G=>
  intro st sm es bs w f;refine(G false f).of (λ z=>?_) (λ _ _=>rfl);subst z;have:w.frozen? a=false:=by simp[World.frozen?,show w.heap[a.block]?=_ from f]
  grind[Sem.runT]
 |halt h=>
  intro st sm es bs w f;cases h with
  |blocked=>exact λ L=>⟨λ _ h=>h,es,by rw[f.two_same];rfl⟩
  |_=>exact trivial
 |_=>intro st sm es bs w f;exact trivial
def LN{P:Program}{t:TypeId}{α:Type}(s:Sem α):∀{st sm:Value}{es:Array Event}{bs:List (Nat×Bool)}{x:α}{st' sm':Value}{z:Array Event}{f:List (Nat×Bool)},
  Jo P t s st sm es bs=.ok x st' sm' z f->(∃l,f=l++bs)/\(f=bs->(st'=st/\sm'=sm)/\∀w,s.runT P w es=(.ok x w,z)):=by
 induction s with
 |pure a=>
  simp_all[Jo,QE.ok.injEq]
 |program k B=>intro st sm es bs x st' sm' z f h;exact B P h
 |mark m k B=>intro st sm es bs x st' sm' z f h;exact B h
 |load m a k B=>
  intro st sm es bs x st' sm' z f h;cases m with
  |plain=>
   simp only[Jo]at h
   have key:∀v,Jo P t (k v) st sm (es.push ⟨.cell a,false,false⟩) ((a.block,true)::bs)=.ok x st' sm' z f->(∃l,f=l++bs)/\(f=bs->(st'=st/\sm'=sm)/\∀w,(Sem.load .plain a k).runT P w es=(.ok x w,z)):=by
    intro v E;obtain⟨⟨l,rfl⟩,_⟩:=B v E;refine⟨⟨l++[(a.block,true)],S1⟩,λ e=>?_⟩;have:=congrArg List.length e;simp at this;omega
   grind
  |atomic=>
   simp only[Jo]at h
   have key:∀v,Jo P t (k v) st sm (es.push ⟨.cell a,false,true⟩) ((a.block,true)::bs)=.ok x st' sm' z f->(∃l,f=l++bs)/\(f=bs->(st'=st/\sm'=sm)/\∀w,(Sem.load .atomic a k).runT P w es=(.ok x w,z)):=by
    intro v E;obtain⟨⟨l,rfl⟩,_⟩:=B v E;refine⟨⟨l++[(a.block,true)],S1⟩,λ e=>?_⟩;have:=congrArg List.length e;simp at this;omega
   grind
 |store m a v k B=>
  intro st sm es bs x st' sm' z f h;cases m with
  |plain=>simp[Jo]at h
  |atomic=>
   simp only[Jo]at h
   have key:∀u F,Jo P t k u F (es.push ⟨.cell a,true,true⟩) ((a.block,true)::bs)=.ok x st' sm' z f->(∃l,f=l++bs)/\(f=bs->(st'=st/\sm'=sm)/\∀w,(Sem.store .atomic a v k).runT P w es=(.ok x w,z)):=by
    intro u F E;obtain⟨⟨l,rfl⟩,_⟩:=B E;refine⟨⟨l++[(a.block,true)],S1⟩,λ e=>?_⟩;have:=congrArg List.length e;simp at this;omega
   grind
 |shape r k B=>
  intro st sm es bs x st' sm' z f h;obtain⟨⟨l,rfl⟩,_⟩:=B _ h;refine⟨⟨l++[(r,false)],S1⟩,λ e=>?_⟩;have:=congrArg List.length e;grind
 |frozen a k B=>
  intro st sm es bs x st' sm' z f h;obtain⟨⟨l,rfl⟩,_⟩:=B _ h;refine⟨⟨l++[(a.block,false)],S1⟩,λ e=>?_⟩;have:=congrArg List.length e;grind
 |halt G=>grind[Jo]
 |_=>grind[Jo]
def CT{P:Program}{t:TypeId}{α:Type}(s:Sem α):∀{st sm:Value}{es:Array Event}{bs:List (Nat×Bool)}{st' sm':Value}{f:List (Nat×Bool)},
  Jo P t s st sm es bs=.blocked st' sm' f->(∃l,f=l++bs)/\(f=bs->∀w,∃z,s.runT P w es=(.halt .blocked w,z)):=by
 induction s with
 |pure a=>grind[Jo]
 |program k B=>intro st sm es bs st' sm' f h;exact B P h
 |mark m k B=>intro st sm es bs st' sm' f h;exact B h
 |load m a k B=>
  intro st sm es bs st' sm' f h;cases m with
  |plain=>
   simp only[Jo]at h
   have key:∀v,Jo P t (k v) st sm (es.push ⟨.cell a,false,false⟩) ((a.block,true)::bs)=.blocked st' sm' f->(∃l,f=l++bs)/\(f=bs->∀w,∃z,(Sem.load .plain a k).runT P w es=(.halt .blocked w,z)):=by
    intro v E;obtain⟨⟨l,rfl⟩,_⟩:=B v E;refine⟨⟨l++[(a.block,true)],S1⟩,λ e=>?_⟩;have:=congrArg List.length e;simp at this;omega
   cases e:ZQ a <;> rw[e]at h <;> simp only[cond_true,cond_false]at h
   .cases e2:JS a <;> rw[e2]at h <;> simp only[cond_true,cond_false]at h
    .cases h
    .exact key _ h
   .exact key _ h
  |atomic=>
   simp only[Jo]at h
   have key:∀v,Jo P t (k v) st sm (es.push ⟨.cell a,false,true⟩) ((a.block,true)::bs)=.blocked st' sm' f->(∃l,f=l++bs)/\(f=bs->∀w,∃z,(Sem.load .atomic a k).runT P w es=(.halt .blocked w,z)):=by
    intro v E;obtain⟨⟨l,rfl⟩,_⟩:=B v E;refine⟨⟨l++[(a.block,true)],S1⟩,λ e=>?_⟩;have:=congrArg List.length e;simp at this;omega
   cases e:ZQ a <;> rw[e]at h <;> simp only[cond_true,cond_false]at h
   .cases e2:JS a <;> rw[e2]at h <;> simp only[cond_true,cond_false]at h
    .cases h
    .exact key _ h
   .exact key _ h
 |store m a v k B=>
  intro st sm es bs st' sm' f h;cases m with
  |plain=>simp[Jo]at h
  |atomic=>
   simp only[Jo]at h
   have key:∀u F,Jo P t k u F (es.push ⟨.cell a,true,true⟩) ((a.block,true)::bs)=.blocked st' sm' f->(∃l,f=l++bs)/\(f=bs->∀w,∃z,(Sem.store .atomic a v k).runT P w es=(.halt .blocked w,z)):=by
    intro u F E;obtain⟨⟨l,rfl⟩,_⟩:=B E;refine⟨⟨l++[(a.block,true)],S1⟩,λ e=>?_⟩;have:=congrArg List.length e;simp at this;omega
   cases ev:XE v <;> rw[ev]at h <;> simp only[cond_true,cond_false]at h
   .cases h
   .cases e:ZQ a <;> rw[e]at h <;> simp only[cond_true,cond_false]at h
    .cases e2:JS a <;> rw[e2]at h <;> simp only[cond_true,cond_false]at h
     .cases h
     .exact key _ _ h
    .exact key _ _ h
 |shape r k B=>
  intro st sm es bs st' sm' f h;obtain⟨⟨l,rfl⟩,_⟩:=B _ h;refine⟨⟨l++[(r,false)],S1⟩,λ e=>?_⟩;have:=congrArg List.length e;grind
 |frozen a k B=>
  intro st sm es bs st' sm' f h;obtain⟨⟨l,rfl⟩,_⟩:=B _ h;refine⟨⟨l++[(a.block,false)],S1⟩,λ e=>?_⟩;have:=congrArg List.length e;grind
 |halt G=>
  intro st sm es bs st' sm' f h;cases G with
  |blocked=>
   simp_all[Jo,QE.blocked.injEq]
  |_=>simp[Jo]at h
 |_=>grind[Jo]
def qI(P:Program)(s:Sem T)(W:Value->Value->World)(ok:List (Nat×Bool)->Prop)(w:World):QE T->Prop
 |.ok x st' sm' f e=>ok e->s.runT P w #[]=(.ok x (W st' sm'),f)
 |.blocked st' sm' e=>ok e->∃f,s.runT P w #[]=(.halt .blocked (W st' sm'),f)
 |.stuck=>True
structure WY(P:Program)(t:TypeId)(st sm:Value)(w:World)(W:Value->Value->World)(ok:List (Nat×Bool)->Prop):Prop where
 ran:∀{α:Type}(s:Sem α),qI P s W ok w (Jo P t s st sm #[] [])
 same:W st sm=w
 nil:ok []
def WY.sh(h:Sh b H v sm w):WY P H v sm w (two w b H) (λ bs=>∀y∈bs,y.1=b):=by
 refine⟨λ s=>?_,h.two_same,S1⟩;have:=MQ (P:=P) s (es:=#[]) (bs:=[]) h;generalize Jo P H s v sm #[] []=r at this;cases r with
 |ok x st' sm' es bs=>exact λ e=>(this e).2
 |blocked st' sm' bs=>exact λ e=>(this e).2
 |stuck=>trivial
def WY.calm{t:TypeId}{st:Value}:WY P t st sm w (λ _ _=>w) (λ bs=>bs=[]):=by
 refine⟨λ s=>?_,rfl,rfl⟩;have f:=@LN P t _ s st sm #[] [];have z:=@CT P t _ s st sm #[] [];generalize Jo P t s st sm #[] []=r at f z;cases r with
 |ok x st' sm' es bs=>exact λ e=>((f rfl).2 e).2 w
 |blocked st' sm' bs=>exact λ e=>(z rfl).2 e w
 |stuck=>trivial
def Eb{P:Program}{t:TypeId}{α:Type}(s:Sem α):∀{st sm:Value}{es:Array Event}{bs:List (Nat×Bool)}{x:α}{st' sm':Value}{w:Array Event}{f:List (Nat×Bool)},
  Jo P t s st sm es bs=.ok x st' sm' w f->(∃l,f=l++bs)/\((f.all (!·.2))=true->(st'=st/\sm'=sm)/\∀B z,Jo P t s B z es bs=.ok x B z w f):=by
 induction s with
 |pure a=>
  simp_all[Jo,QE.ok.injEq]
 |program k E=>intro st sm es bs x st' sm' w f h;exact E P h
 |mark m k E=>intro st sm es bs x st' sm' w f h;exact E h
 |load m a k E=>
  intro st sm es bs x st' sm' w f h;cases m with
  |plain=>
   simp only[Jo]at h
   have key:∀v,Jo P t (k v) st sm (es.push ⟨.cell a,false,false⟩) ((a.block,true)::bs)=.ok x st' sm' w f->(∃l,f=l++bs)/\((f.all (!·.2))=true->(st'=st/\sm'=sm)/\∀B z,Jo P t (Sem.load .plain a k) B z es bs=.ok x B z w f):=by
    intro v F;obtain⟨⟨l,rfl⟩,_⟩:=E v F;exact⟨⟨l++[(a.block,true)],S1⟩,λ e=>by simp at e⟩
   grind
  |atomic=>
   simp only[Jo]at h
   have key:∀v,Jo P t (k v) st sm (es.push ⟨.cell a,false,true⟩) ((a.block,true)::bs)=.ok x st' sm' w f->(∃l,f=l++bs)/\((f.all (!·.2))=true->(st'=st/\sm'=sm)/\∀B z,Jo P t (Sem.load .atomic a k) B z es bs=.ok x B z w f):=by
    intro v F;obtain⟨⟨l,rfl⟩,_⟩:=E v F;exact⟨⟨l++[(a.block,true)],S1⟩,λ e=>by simp at e⟩
   grind
 |store m a v k E=>
  intro st sm es bs x st' sm' w f h;cases m with
  |plain=>simp[Jo]at h
  |atomic=>
   simp only[Jo]at h
   have key:∀u H,Jo P t k u H (es.push ⟨.cell a,true,true⟩) ((a.block,true)::bs)=.ok x st' sm' w f->(∃l,f=l++bs)/\((f.all (!·.2))=true->(st'=st/\sm'=sm)/\∀B z,Jo P t (Sem.store .atomic a v k) B z es bs=.ok x B z w f):=by
    intro u H F;obtain⟨⟨l,rfl⟩,_⟩:=E F;exact⟨⟨l++[(a.block,true)],S1⟩,λ e=>by simp at e⟩
   grind
 |shape r k E=>
  intro st sm es bs x st' sm' w f h;obtain⟨⟨l,rfl⟩,G⟩:=E _ h;exact⟨⟨l++[(r,false)],S1⟩,λ e=>G e⟩
 |frozen a k E=>
  intro st sm es bs x st' sm' w f h;obtain⟨⟨l,rfl⟩,G⟩:=E _ h;exact⟨⟨l++[(a.block,false)],S1⟩,λ e=>G e⟩
 |halt I=>grind[Jo]
 |_=>grind[Jo]
def Zw(h:U.canW l):U.canR l:=Q3.2 (.inl (Za.1 h))
def Mn(h:U.ok w)(e:w'.heap=w.heap):U.ok w':=by
 refine⟨λ b o f=>by rw[e];exact h.imm b o f,λ r z=>?_,h.apart,h.sep⟩;have:=h.held r z;simp_all[Q2.ok]
def VQ(h:U.ok w)(e:U.canR l):¬Loc.new w l:=by
 rcases Q3.1 e with⟨r,F,e⟩|e
 .have hk:=h.held r F;cases r with
  |obj b o=>
   have f:=(Array.getElem?_eq_some_iff.1 hk).1;cases o <;> cases l <;> simp only[Q2.lets,Loc.new]at e ⊢ <;> simp_all
  |cell b i v t n=>
   obtain⟨c,z,_⟩:=hk;have f:=(Array.getElem?_eq_some_iff.1 z).1;cases l <;> simp only[Q2.lets,Loc.new]at e ⊢ <;> simp_all
 .cases l with
  |cell a=>
   obtain⟨c,t,fr,B,_⟩:=e;have f:=(Array.getElem?_eq_some_iff.1 (h.imm _ _ B)).1;grind[Loc.new]
  |obj b=>
   obtain⟨o,E⟩:=e;have f:=(Array.getElem?_eq_some_iff.1 (h.imm _ _ E)).1;grind[Loc.new]
  |_=>exact e.elim
def LA(g:Z_ U w w' U')(h:τ.ok w)(G:∀l,U.canW l->¬τ.canR l):τ.ok w':=by
 have cells:∀b c t fr,w.heap[b]?=some (.cells c t fr)->τ.canR (.obj b)->(∀i,i<c.size->τ.canR (.cell ⟨b,i,none⟩))->w'.heap[b]?=some (.cells c t fr):=by
  intro b c t fr f X B;obtain⟨I,K,L,M,N,P⟩:=g.cells b c t fr f;obtain rfl:=P.resolve_right λ h=>G _ h.1 X
  have:I=c:=by
   apply Array.ext M;intro i Q F;have:=N i λ H=>G _ H (B i F);simpa[Q,F]using this
  rw[L,this]
 have obj:∀b o,w.heap[b]?=some o->τ.canR (.obj b)->(∀c t fr,o=.cells c t fr->∀i,i<c.size->τ.canR (.cell ⟨b,i,none⟩))->w'.heap[b]?=some o:=by
  intro b o f z V;by_cases E:∃c t fr,o=.cells c t fr
  .grind
  .exact g.objs b o f (λ c t fr e=>E ⟨c,t,fr,e⟩) λ H=>G _ H z
 refine⟨λ b o f=>?_,λ r z=>?_,h.apart,h.sep⟩
 .exact obj b o (h.imm b o f) (Q3.2 (.inr ⟨o,f⟩)) λ c t fr e i B=>Q3.2 (.inr ⟨c,t,fr,by rw[<- e];exact f,B⟩)
 .have hk:=h.held r z;cases r with
  |obj b o=>
   exact obj b o hk (Q3.2 (.inl ⟨_,z,by cases o <;> rfl⟩)) λ c t fr e i B=>Q3.2 (.inl ⟨_,z,by subst e;exact⟨rfl,B⟩⟩)
  |cell b i v t n=>
   obtain⟨c,f,W,S⟩:=hk;obtain⟨I,K,L,M,N,P⟩:=g.cells b c t (0,0) f;have B:i<c.size:=(Array.getElem?_eq_some_iff.1 S).1;obtain rfl:=P.resolve_right λ h=>G _ (h.2 i B) (Q3.2 (.inl ⟨_,z,rfl,rfl⟩));refine⟨I,L,M.trans W,?_⟩;rw[N i λ H=>G _ H (Q3.2 (.inl ⟨_,z,rfl,rfl⟩))];exact S
def QJ(b:Nat)(U:Qa T):Prop:=∀a:Addr,a.block=b->a.off<2->¬U.canR (.cell a)
def G0{t:TypeId}{st:Value}(h:τ.ok w)(H:Sh b t st sm w)(G:QJ b τ):τ.ok (two w b t st' sm'):=by
 have ne:∀x o,w.heap[x]?=some o->(∀c t fr,o=.cells c t fr->∀i,i<c.size->τ.canR (.cell ⟨x,i,none⟩))->(two w b t st' sm').heap[x]?=some o:=by
  intro x o f K
  have:x≠b:=by
   intro e;subst e;rw[show w.heap[x]?=_ from H]at f;cases f;exact G ⟨x,0,none⟩ rfl (Nat.zero_lt_two) (K _ _ _ rfl 0 S1)
  simp only[two];rw[Array.getElem?_setIfInBounds_ne (Ne.symm this)];exact f
 refine⟨λ x o f=>ne x o (h.imm x o f) λ c t fr e i z=>Q3.2 (.inr ⟨c,t,fr,by rw[<- e];exact f,z⟩),λ r E=>?_,h.apart,h.sep⟩;have F:=h.held r E;cases r with
 |obj x o=>exact ne x o F λ c t fr e i z=>Q3.2 (.inl ⟨_,E,by subst e;exact⟨rfl,z⟩⟩)
 |cell x i v t n=>
  obtain⟨c,B,L,I⟩:=F;refine⟨c,?_,L,I⟩
  have:x≠b:=by
   intro e;subst e;rw[show w.heap[x]?=_ from H]at B;cases B;have z:i<2:=by simpa using(Array.getElem?_eq_some_iff.1 I).1
   exact G ⟨x,i,none⟩ rfl z (Q3.2 (.inl ⟨_,E,rfl,rfl⟩))
  simp_all[two,Array.getElem?_setIfInBounds_ne,Ne.symm]
def Sh.guar{t:TypeId}(h:Sh b t st' sm w)(g:Z_ U w w' U')(B:QJ b U):Sh b t st' sm w':=by
 obtain⟨E,F,z,G,H,I⟩:=g.cells b _ t (0,0) h;obtain rfl:=I.resolve_right λ h=>B ⟨b,0,none⟩ rfl Nat.zero_lt_two (Zw (h.2 0 S1))
 have:E=#[st',sm]:=by
  apply Array.ext G;intro i f e;have:=H i λ K=>B ⟨b,i,none⟩ rfl (by simpa using e) (Zw K);rw[Array.getElem?_eq_getElem f,Array.getElem?_eq_getElem e]at this;exact Option.some.inj this
 rw[this]at z;exact z
structure VI(V:Hd->Qa T)(w:World):Prop where
 ok:∀k,(V k).ok w
 sep:∀k k' l,k≠k'->(V k).canW l->¬(V k').canR l
def Q7(V:Hd->α)(k:Hd)(U:α):Hd->α:=λ k'=>if k'=k then U else V k'
def Qj(V:Hd->α)(k:Hd)(U:α):Q7 V k U k=U:=by simp[Q7]
def Qg(V:Hd->α)(U:α)(h:k'≠μ):Q7 V μ U k'=V k':=by simp[Q7,h]
def VI.priv(h:VI κ w)(g:Z_ (κ μ) w w' U')(ok:U'.ok w'):VI (Q7 κ μ U') w':=by
 refine⟨λ k'=>?_,λ E F l B z f=>?_⟩
 .by_cases e:k'=μ
  .subst e;rw[Qj];exact ok
  .rw[Qg _ _ e];exact LA g (h.ok k') λ l H=>h.sep μ k' l (Ne.symm e) H
 .by_cases e:E=μ
  .subst e;rw[Qj]at z;rw[Qg _ _ (Ne.symm B)]at f;rcases g.cw l z with z|z
   .exact h.sep _ _ l B z f
   .exact VQ (h.ok _) f z
  .rw[Qg _ _ e]at z;by_cases G:F=μ
   .subst G;rw[Qj]at f;rcases g.cr l f with f|f
    .exact h.sep _ _ l B z f
    .exact VQ (h.ok _) (Zw z) f
   .rw[Qg _ _ G]at f;exact h.sep _ _ l B z f
def VI.shift(h:VI κ w)(K:Q1 (κ μ) U'):VI (Q7 κ μ U') w:=by
 obtain⟨G,H,I⟩:=K.2 w (h.ok μ);refine⟨λ k'=>?_,λ f z l B F E=>?_⟩
 .by_cases e:k'=μ
  .subst e;rw[Qj];exact G
  .rw[Qg _ _ e];exact h.ok k'
 .refine h.sep f z l B ?_ ?_
  .by_cases e:f=μ
   .subst e;rw[Qj]at F;exact H l F
   .rwa [Qg _ _ e]at F
  .by_cases e:z=μ
   .subst e;rw[Qj]at E;exact I l E
   .rwa [Qg _ _ e]at E
def VI.two{V:Hd->Qa T}{w:World}{b:Nat}{t:TypeId}{st sm st' sm':Value}(h:VI V w)(f:Sh b t st sm w)(e:∀k,QJ b (V k)):VI V (two w b t st' sm'):=
 ⟨λ k=>G0 (h.ok k) f (e k),h.sep⟩
def VI.heap{V:Hd->Qa T}{w w':World}(h:VI V w)(e:w'.heap=w.heap):VI V w':=⟨λ k=>Mn (h.ok k) e,h.sep⟩
structure HV(U Up Uc:Qa T):Prop where
 ok:∀w,U.ok w->Up.ok w/\Uc.ok w
 wp:∀l,Up.canW l->U.canW l
 rp:∀l,Up.canR l->U.canR l
 wc:∀l,Uc.canW l->U.canW l
 rc:∀l,Uc.canR l->U.canR l
 pc:∀l,Up.canW l->¬Uc.canR l
 cp:∀l,Uc.canW l->¬Up.canR l
def VI.fork{k c:Hd}{Uc:Qa T}(h:VI κ w)(E:HV (κ k) Up Uc)(M:k≠c):VI (Q7 (Q7 κ k Up) c Uc) w:=by
 have L:∀k' l,(Q7 (Q7 κ k Up) c Uc k').canW l->(k'=k/\Up.canW l/\(κ k).canW l)\/(k'=c/\Uc.canW l/\(κ k).canW l)\/(k'≠k/\k'≠c/\(κ k').canW l):=by
  intro k' l f;by_cases e:k'=c
  .subst e;rw[Qj]at f;exact .inr (.inl ⟨rfl,f,E.wc l f⟩)
  .rw[Qg _ _ e]at f;by_cases B:k'=k
   .subst B;rw[Qj]at f;exact .inl ⟨rfl,f,E.wp l f⟩
   .rw[Qg _ _ B]at f;simp_all
 have K:∀k' l,(Q7 (Q7 κ k Up) c Uc k').canR l->(k'=k/\Up.canR l/\(κ k).canR l)\/(k'=c/\Uc.canR l/\(κ k).canR l)\/(k'≠k/\k'≠c/\(κ k').canR l):=by
  intro k' l f;by_cases e:k'=c
  .subst e;rw[Qj]at f;exact .inr (.inl ⟨rfl,f,E.rc l f⟩)
  .rw[Qg _ _ e]at f;by_cases B:k'=k
   .subst B;rw[Qj]at f;exact .inl ⟨rfl,f,E.rp l f⟩
   .rw[Qg _ _ B]at f;simp_all
 refine⟨λ k'=>?_,λ Q S l z P N=>?_⟩
 .by_cases e:k'=c
  .subst e;rw[Qj];exact(E.ok w (h.ok k)).2
  .rw[Qg _ _ e];by_cases B:k'=k
   .subst B;rw[Qj];exact(E.ok w (h.ok k')).1
   .rw[Qg _ _ B];exact h.ok k'
 .rcases L _ _ P with⟨rfl,G,I⟩|⟨rfl,G,I⟩|⟨W,n2,G⟩ <;> rcases K _ _ N with⟨e,F,H⟩|⟨e,F,H⟩|⟨U,X,F⟩
  .exact z e.symm
  .exact E.pc l G F
  .exact h.sep _ _ l z I F
  .exact E.cp l G F
  .exact z e.symm
  .exact h.sep k _ l (Ne.symm U) I F
  .subst e;exact h.sep _ _ l z G H
  .exact h.sep _ k l W G H
  .exact h.sep _ _ l z G F
def Qa.bare(τ:T):Qa T:=⟨λ _=>none,[],τ⟩
def VY(τ:T)(w:World):(Qa.bare τ).ok w:=⟨λ _ _ h=>(by cases h),λ _ h=>(by cases h),Pairwise.nil,λ _ h=>(by cases h)⟩
def Wo(τ:T)(l:Loc):¬(Qa.bare τ).canW l:=λ h=>by obtain⟨r,e,_⟩:=Za.1 h;cases e
def Wn(τ:T)(l:Loc):¬(Qa.bare τ).canR l:=λ h=>by
 rcases Q3.1 h with⟨r,e,_⟩|h
 .cases e
 .cases l <;> simp[Qa.bare]at h
def Qa.with(U:Qa T)(M:List Q2):Qa T:={ U with M:=U.M++M }
def Yl(h:(U.with τ.M).canW l):U.canW l\/τ.canW l:=by
 obtain⟨r,e,f⟩:=Za.1 h;rcases mem_append.1 e with e|e
 .exact .inl (Za.2 ⟨r,e,f⟩)
 .exact .inr (Za.2 ⟨r,e,f⟩)
def Yk(h:(U.with τ.M).canR l):U.canR l\/τ.canR l:=by
 rcases Q3.1 h with⟨r,e,f⟩|h
 .rcases mem_append.1 e with e|e
  .exact .inl (Q3.2 (.inl ⟨r,e,f⟩))
  .exact .inr (Q3.2 (.inl ⟨r,e,f⟩))
 .exact .inl (Q3.2 (.inr h))
def YP(h:υ∈U.M):(∀b o,υ=.obj b o->U.canW (.obj b))/\(∀b i v t n,υ=.cell b i v t n->U.canW (.cell ⟨b,i,none⟩))/\(∀b c t fr i,υ=.obj b (.cells c t fr)->i<c.size->U.canW (.cell ⟨b,i,none⟩)):=by
 refine⟨λ b o e=>Za.2 ⟨υ,h,?_⟩,λ b i v t n e=>Za.2 ⟨υ,h,?_⟩,λ b c t fr i e f=>Za.2 ⟨υ,h,?_⟩⟩
 .subst e;cases o <;> rfl
 .subst e;exact⟨rfl,rfl⟩
 .subst e;exact⟨rfl,f⟩
def N0(E:U.ok w)(L:τ.ok w)(Q:∀l,U.canW l->¬τ.canR l)(Z:∀l,τ.canW l->¬U.canR l):(U.with τ.M).ok w:=by
 refine⟨E.imm,λ r f=>?_,?_,λ r f=>?_⟩
 .rcases mem_append.1 f with f|f
  .exact E.held r f
  .exact L.held r f
 .refine pairwise_append.2 ⟨E.apart,L.apart,λ r f V F=>?_⟩;obtain⟨a1,a2,a3⟩:=YP f;obtain⟨S,K,W⟩:=YP F;have Y:=E.held r f;have N:=L.held V F;cases r with
  |obj b o=>
   cases V with
   |obj H P=>
    simp only[Q2.apart,Q2.blk];intro e;subst e;exact Q _ (a1 _ _ rfl) (Zw (S _ _ rfl))
   |cell H i v t n=>
    simp only[Q2.apart,Q2.blk];intro e;subst e;obtain⟨c,z,X,G⟩:=N
    have:o=.cells c t (0,0):=by
     have B:w.heap[b]?=some o:=Y;rw[B]at z;exact Option.some.inj z
    subst this;exact Q _ (a3 _ _ _ _ i rfl (Array.getElem?_eq_some_iff.1 G).1) (Zw (K _ _ _ _ _ rfl))
  |cell b i v t n=>
   cases V with
   |obj H P=>
    simp only[Q2.apart,Q2.blk];intro e;subst e;obtain⟨c,z,X,G⟩:=Y
    have:P=.cells c t (0,0):=by
     have B:w.heap[b]?=some P:=N;rw[B]at z;exact Option.some.inj z
    subst this;exact Q _ (a2 _ _ _ _ _ rfl) (Zw (W _ _ _ _ i rfl (Array.getElem?_eq_some_iff.1 G).1))
   |cell H i' v' t' n'=>
    simp only[Q2.apart];by_cases e:b=H
    .by_cases e2:i=i'
     .subst e;subst e2;exact absurd (Zw (K _ _ _ _ _ rfl)) (Q _ (a2 _ _ _ _ _ rfl))
     .exact .inr e2
    .exact .inl e
 .rcases mem_append.1 f with f|f
  .exact E.sep r f
  .show U.I r.blk=none;cases e:U.I r.blk with
   |none=>rfl
   |some o=>
    exfalso;obtain⟨S,K,W⟩:=YP f;have N:=L.held r f;cases r with
    |obj b P=>exact Z _ (S _ _ rfl) (Q3.2 (.inr ⟨o,e⟩))
    |cell b i v t n=>
     obtain⟨c,z,X,G⟩:=N;have B:w.heap[b]?=some o:=E.imm _ _ e;rw[z]at B;cases B;exact Z _ (K _ _ _ _ _ rfl) (Q3.2 (.inr ⟨c,t,(0,0),e,(Array.getElem?_eq_some_iff.1 G).1⟩))
def VI.join{k:Hd}(h:VI κ w)(F:k≠k')(τ:T):VI (Q7 (Q7 κ k ((κ k).with (κ k').M)) k' (Qa.bare τ)) w:=by
 have G:=N0 (h.ok k) (h.ok k') (λ l f=>h.sep k k' l F f) (λ l f=>h.sep k' k l (Ne.symm F) f)
 have K:∀x l,(Q7 (Q7 κ k ((κ k).with (κ k').M)) k' (Qa.bare τ) x).canW l->x≠k'/\((κ x).canW l\/(x=k/\(κ k').canW l)):=by
  intro x l f;by_cases e:x=k'
  .subst e;rw[Qj]at f;exact absurd f (Wo _ _)
  .rw[Qg _ _ e]at f;refine⟨e,?_⟩;by_cases z:x=k
   .subst z;rw[Qj]at f;exact(Yl f).imp id λ h=>⟨rfl,h⟩
   .rw[Qg _ _ z]at f;exact .inl f
 have I:∀x l,(Q7 (Q7 κ k ((κ k).with (κ k').M)) k' (Qa.bare τ) x).canR l->x≠k'/\((κ x).canR l\/(x=k/\(κ k').canR l)):=by
  intro x l f;by_cases e:x=k'
  .subst e;rw[Qj]at f;exact absurd f (Wn _ _)
  .rw[Qg _ _ e]at f;refine⟨e,?_⟩;by_cases z:x=k
   .subst z;rw[Qj]at f;exact(Yk f).imp id λ h=>⟨rfl,h⟩
   .rw[Qg _ _ z]at f;exact .inl f
 refine⟨λ x=>?_,λ P Q l H N L=>?_⟩
 .by_cases e:x=k'
  .subst e;rw[Qj];exact VY _ _
  .rw[Qg _ _ e];by_cases z:x=k
   .subst z;rw[Qj];exact G
   .rw[Qg _ _ z];exact h.ok x
 .obtain⟨n1,E⟩:=K _ _ N;obtain⟨n2,B⟩:=I _ _ L;rcases E with E|⟨rfl,E⟩ <;> rcases B with B|⟨e,B⟩
  .exact h.sep _ _ l H E B
  .exact h.sep _ k' l n1 E B
  .exact h.sep k' _ l (Ne.symm n2) E B
  .exact H e.symm
def LS(U:Qa T)(τ f:T):HV U (Qa.bare τ) ⟨λ _=>none,U.M,f⟩:=by
 have B:∀l,(Qa.canW ⟨λ _=>none,U.M,f⟩ l)->U.canW l:=λ l e=>Za.2 (Za.1 e)
 have z:∀l,(Qa.canR ⟨λ _=>none,U.M,f⟩ l)->U.canR l:=by
  intro l e;rcases Q3.1 e with e|e
  .exact Q3.2 (.inl e)
  .grind
 exact⟨λ w ok=>⟨VY _ _,⟨λ _ _ h=>(by cases h),ok.held,ok.apart,λ _ _=>rfl⟩⟩,λ l h=>absurd h (Wo _ _),λ l h=>absurd h (Wn _ _),B,z,λ l h=>absurd h (Wo _ _),λ l _ h=>Wn _ _ h⟩
def Q2.lets_blk(h:υ.lets l):(∃a,l=.cell a/\a.block=υ.blk)\/l=.obj υ.blk:=by
 cases υ with
 |obj b o=>
  cases l with
  |cell a=>cases o <;> simp only[Q2.lets]at h;exact .inl ⟨a,rfl,h.1⟩
  |obj e=>right;cases o <;> simp only[Q2.lets]at h <;> rw[h] <;> rfl
  |_=>cases o <;> exact h.elim
 |cell b i v t n=>
  cases l with
  |cell a=>exact .inl ⟨a,rfl,h.1⟩
  |_=>exact h.elim
def Q2.apart_lets(h:υ.apart φ)(z:υ.lets l)(B:φ.lets l):False:=by
 have key:υ.blk≠φ.blk->False:=λ w=>by
  rcases Q2.lets_blk z with⟨a,rfl,e⟩|rfl
  .rcases Q2.lets_blk B with⟨a',e',f⟩|e'
   .simp_all
   .cases e'
  .rcases Q2.lets_blk B with⟨a',e',f⟩|e'
   .cases e'
   simp_all
 cases υ with
 |obj b o=>exact key (by cases φ <;> exact h)
 |cell b i v t n=>
  cases φ with
  |obj E o=>exact key h
  |cell E j M L K=>
   cases l with
   |cell a=>
    obtain⟨F,G⟩:=z;obtain⟨H,I⟩:=B;rcases h with h|h
    .exact h (F.symm.trans H)
    simp_all
   |_=>exact z.elim
def D0(N:U.ok w){M₁ M₂:List Q2}(h:Perm U.M (M₁++M₂)):HV U ⟨U.I,M₂,tp⟩ ⟨U.I,M₁,tc⟩:=by
 have B:=(h.pairwise_iff (λ{x y}h=>Q2.apart_symm h)).1 N.apart;rw[pairwise_append]at B;have H:∀r∈M₁,r∈U.M:=λ r z=>h.mem_iff.2 (mem_append_left _ z);have K:∀r∈M₂,r∈U.M:=λ r z=>h.mem_iff.2 (mem_append_right _ z)
 have L:∀(r:Q2)(l:Loc),r∈U.M->r.lets l->(match l with|.cell a=>∃c t fr,U.I a.block=some (.cells c t fr)/\a.off<c.size|.obj b=>∃o,U.I b=some o|_=>False)->False:=by
  intro r l z f F;have G:=N.sep r z;rcases Q2.lets_blk f with⟨a,rfl,e⟩|rfl
  .simp_all
  .simp_all
 refine⟨λ w ok=>?_,λ l f=>?_,λ l f=>?_,λ l f=>?_,λ l f=>?_,λ l f z=>?_,λ l f z=>?_⟩
 .have hap':=(h.pairwise_iff (λ{x y}h=>Q2.apart_symm h)).1 ok.apart;rw[pairwise_append]at hap';exact⟨⟨ok.imm,λ r z=>ok.held r (K r z),hap'.2.1,λ r z=>ok.sep r (K r z)⟩,⟨ok.imm,λ r z=>ok.held r (H r z),hap'.1,λ r z=>ok.sep r (H r z)⟩⟩
 .rw[Za]at f ⊢;grind
 .rw[Q3]at f ⊢;grind
 .rw[Za]at f ⊢;grind
 .rw[Q3]at f ⊢;grind
 .obtain⟨r,hr_2,f⟩:=Za.1 f;rcases Q3.1 z with⟨s,G,E⟩|F
  .exact Q2.apart_lets (B.2.2 s G r hr_2) E f
  grind
 .obtain⟨r,hr_2,f⟩:=Za.1 f;rcases Q3.1 z with⟨s,G,E⟩|F
  .exact Q2.apart_lets (B.2.2 r hr_2 s G) f E
  grind
def SN(B:U.ok w){M₁ M₂:List Q2}(h:Perm U.M (M₁++M₂)):HV U ⟨U.I,M₂,tp⟩ ⟨λ _=>none,M₁,tc⟩:=by
 have f:=D0 (tp:=tp) (tc:=tc) B h;have cw:∀l,(Qa.canW ⟨λ _=>none,M₁,tc⟩ l)->(Qa.canW ⟨U.I,M₁,tc⟩ l):=λ l e=>Za.2 (Za.1 e)
 have cr:∀l,(Qa.canR ⟨λ _=>none,M₁,tc⟩ l)->(Qa.canR ⟨U.I,M₁,tc⟩ l):=by
  intro l e;rcases Q3.1 e with e|e
  .exact Q3.2 (.inl e)
  .grind
 exact⟨λ w ok=>⟨(f.ok w ok).1,⟨λ _ _ h=>(by cases h),(f.ok w ok).2.held,(f.ok w ok).2.apart,λ _ _=>rfl⟩⟩,f.wp,f.rp,λ l e=>f.wc l (cw l e),λ l e=>f.rc l (cr l e),λ l e z=>f.pc l e (cr l z),λ l e z=>f.cp l (cw l e) z⟩
def QN:Nat->(Nat->Nat)->Nat
 |0,_=>0
 |n+1,f=>QN n f+f n
def Pn{f f':Nat->Nat}:∀{n:Nat},(∀j,j<n->f' j=f j)->QN n f'=QN n f
 |0,_=>rfl
 |n+1,h=>by simp only[QN,Pn (n:=n) λ j e=>h j O1,h n O1]
def Gy{f f':Nat->Nat}{i:Nat}:∀{n:Nat},i<n->(∀j,j≠i->f' j=f j)->QN n f'+f i=QN n f+f' i
 |0,w,_=>O1
 |n+1,w,h=>by
  simp only[QN];by_cases e:i=n
  .subst e;rw[Pn (n:=i) λ j z=>h j O1];omega
  .have:=Gy (n:=n) O1 h;grind
def PI{f:Nat->Nat}(h:∀j,f j<=1):∀n,QN n f<=n
 |0=>Nat.le_refl _
 |n+1=>by have:=PI h n;grind[QN]
def Tx{f:Nat->Nat}{B:Nat}:∀{n:Nat},(∀j,j<n->f j<=B)->QN n f<=n*B
 |0,_=>by simp[QN]
 |n+1,h=>by have:=Tx (n:=n) λ j e=>h j O1;have:=h n O1;grind[QN,Nat.succ_mul]
def XZ{f g:Nat->Nat}:∀n,QN n (λ j=>f j+g j)=QN n f+QN n g
 |0=>rfl
 |n+1=>by simp only[QN,XZ n];omega
def Hp{f:Nat->Nat}{i:Nat}:∀{n:Nat},i<n->f i<=QN n f
 |0,h=>O1
 |n+1,h=>by
  simp only[QN];by_cases e:i=n
  .subst e;omega
  .have:=Hp (f:=f) (n:=n) (i:=i) O1;omega
def ON{f:Nat->Nat}:∀{n:Nat},0<QN n f->∃j,j<n/\0<f j
 |0,h=>by simp[QN]at h
 |n+1,h=>by
  by_cases e:0<f n
  .exact⟨n,O1,e⟩
  .obtain⟨j,h1,h2⟩:=ON (f:=f) (n:=n) (by simp only[QN]at h;omega);grind
def Pt{f:Nat->Nat}:∀{n:Nat},(∀j,j<n->f j=0)->QN n f=0
 |0,_=>rfl
 |n+1,h=>by simp only[QN];rw[Pt λ j e=>h j O1,h n O1]
def Q9(f:Nat->α)(i:Nat)(x:α):Nat->α:=λ j=>if j=i then x else f j
def Qf(f:Nat->α)(i:Nat)(x:α):Q9 f i x i=x:=by simp[Q9]
def Qv(f:Nat->α)(x:α)(h:j≠b):Q9 f b x j=f j:=by simp[Q9,h]
inductive LP where
 |idle|idw|got|own (R:Nat->Bool)|rls|unl|unl2|uls|fin|wai (c:Nat)|wok (c:Nat)|wos (c k:Nat)
variable{lp:Nat->LP}{me' me:LP}
def LP.rels:LP->Bool
 |.rls|.unl|.unl2|.uls|.fin=>true
 |_=>false
def LP.isOwn:LP->Bool
 |.own _=>true
 |_=>false
def LP.h:LP->Nat
 |.got|.own _|.rls=>1
 |_=>0
def LP.o:LP->Nat
 |.wok _=>1
 |_=>0
def LP.i:LP->Nat
 |.idw=>1
 |_=>0
def LP.u1:LP->Nat
 |.unl=>1
 |_=>0
def LP.u2:LP->Nat
 |.unl2=>1
 |_=>0
def LP.us:LP->Nat
 |.uls=>1
 |_=>0
def LP.t:LP->Nat
 |.wos _ _=>1
 |_=>0
def LP.k:LP->Nat
 |.wai _=>1
 |_=>0
def LP.c:LP->Nat
 |.wai c|.wok c|.wos c _=>c
 |_=>0
def LP.a:LP->Nat
 |.unl2|.uls|.fin=>1
 |_=>0
def LP.nk:LP->Nat
 |.wos _ k=>k
 |_=>0
def LP.ow:LP->Nat
 |.own _=>1
 |_=>0
def LP.pw(N:Nat):LP->Nat
 |.idle=>0
 |.idw=>1
 |.wai c|.wok c|.wos c _=>2+c
 |.got|.own _|.rls=>N+4
 |.unl|.uls=>N+5
 |.unl2=>N+6
 |.fin=>N+7
structure LZ where
 l:Nat
 w:Nat
 s:Nat
 n:Nat
 f:Nat
variable{z z':LZ}
def LZ.st(z:LZ):Nat:=8*z.n+4*z.s+2*z.w+z.l
abbrev LT(N:Nat)(lp:Nat->LP)(φ:LP->Nat):Nat:=QN N λ j=>φ (lp j)
def GK(N:Nat)(lp:Nat->LP)(z:LZ):Prop:=
 (z.l<=1/\z.w<=1/\z.s<=1/\z.f<=1/\z.l=LT N lp LP.h) /\
 (z.s=0->z.w=LT N lp LP.o+LT N lp LP.i+LT N lp LP.u2+z.f/\z.n+LT N lp LP.u2+z.f=LT N lp LP.k/\LT N lp LP.us=0/\LT N lp LP.t=0/\(z.l=0->z.w=0->0<z.n->0<LT N lp LP.u1)) /\
 (z.s=1->z.w=0/\LT N lp LP.o=0/\LT N lp LP.i=0/\LT N lp LP.u2=0/\LT N lp LP.h+LT N lp LP.us+z.f+LT N lp LP.t=1/\z.n=LT N lp LP.k+LT N lp LP.t/\1<=z.n) /\
 LT N lp LP.c+LT N lp LP.o+z.f+LT N lp LP.u2+LT N lp LP.us+LT N lp LP.t<=LT N lp LP.a
def JH(N:Nat)(lp:Nat->LP)(z:LZ):Prop:=GK N lp z/\∀j,j<N->(lp j).nk<=z.n
inductive Tz:LP->LZ->LP->LZ->Prop
 |stay {i a0}:Tz i a0 i a0
 |take {h x t o a}:h=0->t=0->Tz .idle ⟨h,x,t,o,a⟩ .got ⟨1,x,t,o,a⟩
 |takew {h x t o a}:h=0->t=0->Tz .idw ⟨h,x,t,o,a⟩ .got ⟨1,0,t,o,a⟩
 |takeo {c h x t o a}:h=0->t=0->Tz (.wok c) ⟨h,x,t,o,a⟩ .got ⟨1,0,t,o,a⟩
 |que {h x t o a}:h=1\/t=1->Tz .idle ⟨h,x,t,o,a⟩ (.wai 0) ⟨h,x,t,o+1,a⟩
 |quew {h x t o a}:h=1->t=0->Tz .idw ⟨h,x,t,o,a⟩ (.wai 0) ⟨h,0,t,o+1,a⟩
 |queo {c h x t o a s'}:h=1->t=0->s'<=1->Tz (.wok c) ⟨h,x,t,o,a⟩ (.wai (c+1)) ⟨h,0,s',o+1,a⟩
 |spin {h x t o a}:h=1->t=0->x=0->0<o->Tz .idle ⟨h,x,t,o,a⟩ .idw ⟨h,1,t,o,a⟩
 |acq {a0 R}:Tz .got a0 (.own R) a0
 |rel {a0 R}:Tz (.own R) a0 .rls a0
 |relf {h x t o a}:t=0->o=0\/x=1->Tz .rls ⟨h,x,t,o,a⟩ .fin ⟨0,x,t,o,a⟩
 |relu {h x t o a}:t=0->0<o->x=0->Tz .rls ⟨h,x,t,o,a⟩ .unl ⟨0,x,t,o,a⟩
 |rels {h x t o a}:t=1->Tz .rls ⟨h,x,t,o,a⟩ .uls ⟨0,x,t,o,a⟩
 |leave {h x t o a}:h=1\/x=1\/t=1\/o=0->Tz .unl ⟨h,x,t,o,a⟩ .fin ⟨h,x,t,o,a⟩
 |wake {h x t o a}:h=0->x=0->t=0->Tz .unl ⟨h,x,t,o+1,a⟩ .unl2 ⟨h,1,t,o,a⟩
 |sem {h x t o a}:Tz .unl2 ⟨h,x,t,o,a⟩ .fin ⟨h,x,t,o,1⟩
 |sems {h x t o a}:Tz .uls ⟨h,x,t,o,a⟩ .fin ⟨h,x,t,o,1⟩
 |upo {c h x t o a}:t=0->a=1->Tz (.wai c) ⟨h,x,t,o,a⟩ (.wok c) ⟨h,x,t,o,0⟩
 |ups {c h x t o a}:t=1->a=1->Tz (.wai c) ⟨h,x,t,o,a⟩ (.wos c 0) ⟨h,x,t,o,0⟩
 |see {c k a0}:Tz (.wos c k) a0 (.wos c a0.n) a0
 |tak {c k h x t o a s'}:h=0->t=1->s'=0\/(s'=1/\0<o)->Tz (.wos c k) ⟨h,x,t,o+1,a⟩ .got ⟨1,x,s',o,a⟩
def Kp(w:s<N)(me:LP)(φ:LP->Nat):LT N (Q9 lp s me) φ+φ (lp s)=LT N lp φ+φ me:=by
 have:=Gy (f:=λ j=>φ (lp j)) (f':=λ j=>φ (Q9 lp s me j)) w (λ j e=>by rw[Qv _ _ e]);rw[Qf]at this;exact this
def GK.step(h:GK N lp z)(B:s<N)(E:Tz (lp s) z me' z'):GK N (Q9 lp s me') z':=by
 have e:=λ φ=>Kp (lp:=lp) B me' φ;have a:=e LP.h;have b:=e LP.o;have c:=e LP.i;have d:=e LP.u1;have F:=e LP.u2;have G:=e LP.us;have L:=e LP.t;have M:=e LP.k;have P:=e LP.c;have Q:=e LP.a;clear e;unfold GK at h ⊢
 revert h a b c d F G L M P Q
 generalize LT N (Q9 lp s me') LP.h=H',LT N (Q9 lp s me') LP.o=O',LT N (Q9 lp s me') LP.i=I',LT N (Q9 lp s me') LP.u1=U1',LT N (Q9 lp s me') LP.u2=U2',LT N (Q9 lp s me') LP.us=US',LT N (Q9 lp s me') LP.t=T',LT N (Q9 lp s me') LP.k=K',LT N (Q9 lp s me') LP.c=C',LT N (Q9 lp s me') LP.a=A';have q:∀φ:LP->Nat,φ (lp s)<=LT N lp φ:=λ φ=>Hp (f:=λ j=>φ (lp j)) B;have S:=q LP.h;have T:=q LP.o;have U:=q LP.i;have V:=q LP.u1;have W:=q LP.u2;have X:=q LP.us;have Y:=q LP.t;have Z:=q LP.k;have q9:=q LP.c;have qa:=q LP.a;clear q
 revert S T U V W X Y Z q9 qa
 generalize LT N lp LP.h=H,LT N lp LP.o=O,LT N lp LP.i=I,LT N lp LP.u1=U1,LT N lp LP.u2=U2,LT N lp LP.us=US,LT N lp LP.t=TT,LT N lp LP.k=K,LT N lp LP.c=C,LT N lp LP.a=A;generalize lp s=me at E;cases E with
 |queo a b w=>
  have w:=Nat.le_one_iff_eq_zero_or_eq_one.1 w;rcases w with rfl|rfl <;> simp only[LP.h,LP.o,LP.i,LP.u1,LP.u2,LP.us,LP.t,LP.k,LP.c,LP.a] <;> intros <;> refine⟨?_,?_,?_,?_⟩ <;> first|omega|(intro _;refine⟨trivial,?_,?_,?_,?_,?_,?_⟩ <;> omega)
 |_=>simp only[LP.h,LP.o,LP.i,LP.u1,LP.u2,LP.us,LP.t,LP.k,LP.c,LP.a] <;> intros <;> omega
def JH.step{N:Nat}{lp:Nat->LP}{z z':LZ}{s:Nat}{me':LP}(h:JH N lp z)(H:s<N)(E:Tz (lp s) z me' z'):JH N (Q9 lp s me') z':=by
 refine⟨h.1.step H E,λ j G=>?_⟩;by_cases e:j=s
 .subst e;rw[Qf];have w:=h.2 j G;generalize lp j=me at E w;cases E <;> first|exact w|exact Nat.zero_le _|exact Nat.le_refl _
 .rw[Qv _ _ e];have w:=h.2 j G
  have F:LP.t (lp j)+LP.t (lp s)<=LT N lp LP.t:=by
   have q:=Gy (f:=λ j=>LP.t (lp j)) (f':=λ i=>if i=s then 0 else LP.t (lp i)) H λ i L=>if_neg L;have S:=Hp (f:=λ i=>if i=s then 0 else LP.t (lp i)) G;simp only[if_true,if_neg e]at q S;show _<=QN N λ j=>LP.t (lp j);omega
  have B:LP.t (lp j)=0->LP.nk (lp j)=0:=by cases lp j <;> simp[LP.t,LP.nk]
  obtain⟨⟨_,_,P,_,_⟩,I,K,_⟩:=h.1;generalize M:lp s=me at E F;cases E with
  |wake a b c=>
   have:=(I c).2.2.2.1;have:=B O1;omega
  |tak a b c=>
   have T:=(K b).2.2.2.2.1;have Q:LP.t (lp j)+1<=LT N lp LP.t:=F;have:=B O1;omega
  |_=>first|exact w|(simp only at w ⊢;omega)
def LP.fits(N:Nat)(me:LP)(z:LZ):Prop:=
 z.l<=1/\z.w<=1/\z.s<=1/\z.f<=1/\z.n<=N/\match me with
  |.got|.own _|.rls=>z.l=1
  |.idw=>z.w=1/\z.s=0
  |.wok c=>z.w=1/\z.s=0/\c<N
  |.wos _ k=>z.l=0/\z.w=0/\z.s=1/\1<=z.n/\k<=z.n
  |.unl2|.uls=>z.f=0
  |_=>True
def JH.bounds(h:JH N lp z):z.n<=N/\LT N lp LP.c<=N:=by
 have E:LT N lp LP.k+LT N lp LP.t<=N:=by
  have:=PI (f:=λ j=>LP.k (lp j)+LP.t (lp j)) (λ j=>by cases lp j <;> simp[LP.k,LP.t]) N
  rwa [XZ]at this
 have F:LT N lp LP.a<=N:=PI (λ j=>by cases lp j <;> simp[LP.a]) N;obtain⟨⟨_,_,e,_,_⟩,w,B,G⟩:=h.1;have e:z.s=0\/z.s=1:=O1
 grind
def JH.fits{N:Nat}{lp:Nat->LP}{z:LZ}{s:Nat}(h:JH N lp z)(F:s<N):(lp s).fits N z:=by
 have V:=h.bounds;have q:∀φ:LP->Nat,φ (lp s)<=LT N lp φ:=λ φ=>Hp (f:=λ j=>φ (lp j)) F;have G:=q LP.h;have H:=q LP.o;have I:=q LP.i;have K:=q LP.u2;have L:=q LP.us;have M:=q LP.t;have P:=q LP.c
 have Y:LT N lp LP.a+LT N lp LP.o<=N:=by
  have:=PI (f:=λ j=>LP.a (lp j)+LP.o (lp j)) (λ j=>by cases lp j <;> simp[LP.a,LP.o]) N
  rwa [XZ]at this
 have e:=h.2 s F;obtain⟨⟨Q,S,T,U,W⟩,B,E,X⟩:=h.1;have w:z.s=0\/z.s=1:=O1
 refine⟨Q,S,T,U,V.1,?_⟩;rcases w with w|w
 .have B:=B w
  revert G H I K L M P e
  generalize lp s=me;cases me <;> simp only[LP.h,LP.o,LP.i,LP.u2,LP.us,LP.t,LP.c,LP.nk] <;> intros <;> first|trivial|omega
 .have E:=E w
  revert G H I K L M P e
  generalize lp s=me;cases me <;> simp only[LP.h,LP.o,LP.i,LP.u2,LP.us,LP.t,LP.c,LP.nk] <;> intros <;> first|trivial|omega
def ZT(N:Nat)(lp:Nat->LP)(s:Nat):Nat:=1+QN N λ j=>if j=s then 0 else(lp j).pw N
def PB(N:Nat):Nat:=N*(N+N+7)+1
def JH.pot_le(h:JH N lp z)(s:Nat):ZT N lp s<=PB N:=by
 have w:=h.bounds
 have:=Tx (f:=λ j=>if j=s then 0 else(lp j).pw N) (B:=N+N+7) (n:=N) λ j e=>by
  have:LP.c (lp j)<=LT N lp LP.c:=Hp (f:=λ j=>LP.c (lp j)) e;show(if j=s then 0 else(lp j).pw N)<=_;split
  .omega
  .revert this
   cases lp j <;> simp only[LP.pw,LP.c] <;> intros <;> omega
 grind[ZT,PB]
def LB(me:LP):ZT N (Q9 lp s me) s=ZT N lp s:=by
 unfold ZT;congr 1;refine Pn λ j _=>?_;split
 .rfl
 .rename_i e;rw[Qv _ _ e]
def Fl(me:LP)(z:s<N)(e:b≠s):ZT N (Q9 lp s me) b+(lp s).pw N=ZT N lp b+me.pw N:=by
 unfold ZT
 have:=Gy (f:=λ j=>if j=b then 0 else(lp j).pw N) (f':=λ j=>if j=b then 0 else(Q9 lp s me j).pw N) z λ j w=>by
  grind[Q9]
 simp only[Qf,if_neg (Ne.symm e)]at this;omega
def Tz.gain(h:Tz me z me' z')(e:me.c<=N):me.pw N<=me'.pw N/\(me.pw N=me'.pw N->z'.st=z.st):=by
 cases h <;> simp only[LP.pw,LP.c,LZ.st]at e ⊢ <;> first|exact⟨Nat.le_refl _,λ _=>trivial⟩|(constructor <;> omega)|skip
def JH.c_le(h:JH N lp z)(e:s<N):(lp s).c<=N:=Nat.le_trans (Hp (f:=λ j=>LP.c (lp j)) e) h.bounds.2
def JH.start(N:Nat):JH N (λ _=>.idle) ⟨0,0,0,0,0⟩:=by
 have z:∀φ:LP->Nat,φ .idle=0->LT N (λ _=>.idle) φ=0:=λ φ h=>Pt λ _ _=>h;refine⟨?_,λ j _=>Nat.le_refl _⟩;unfold GK;rw[z LP.h rfl,z LP.o rfl,z LP.i rfl,z LP.u1 rfl,z LP.u2 rfl,z LP.us rfl,z LP.t rfl,z LP.k rfl,z LP.c rfl,z LP.a rfl];simp
def JH.awake(h:JH N lp z)(G:s<N)(H:lp s=.wai b)(S:z.f=0):∃j,j<N/\lp j≠.idle/\lp j≠.fin/\∀b,lp j≠.wai b:=by
 have q:LP.k (lp s)<=LT N lp LP.k:=Hp (f:=λ j=>LP.k (lp j)) G;rw[H]at q;simp only[LP.k]at q
 have key:0<LT N lp LP.h+(LT N lp LP.o+(LT N lp LP.i+(LT N lp LP.u1+(LT N lp LP.u2+(LT N lp LP.us+LT N lp LP.t))))):=by
  obtain⟨⟨I,K,L,M,P⟩,w,B,Q⟩:=h.1;have e:z.s=0\/z.s=1:=O1
  rcases e with e|e
  .have w:=w e;omega
  .have B:=B e;omega
 rw[<- XZ,<- XZ,<- XZ,<- XZ,<- XZ,<- XZ]at key;obtain⟨j,E,F⟩:=ON key;grind[LP.h,LP.o,LP.i,LP.u1,LP.u2,LP.us,LP.t]
def JH.owns(h:JH N lp z)(I:s<N)(K:(lp s).h=1):LT N lp LP.ow=(lp s).ow/\∀j,j<N->j≠s->(lp j).h=0:=by
 have B:LT N lp LP.h<=1:=by
  obtain⟨⟨B,G,E,F,H⟩,-⟩:=h.1;omega
 have B:(QN N λ j=>(lp j).h)<=1:=B;have G:=Gy (f:=λ j=>LP.h (lp j)) (f':=λ j=>if j=s then 0 else LP.h (lp j)) I λ j w=>if_neg w;simp only[if_true,K]at G
 have E:∀j,j<N->j≠s->(lp j).h=0:=by
  intro j w e;have:=Hp (f:=λ j=>if j=s then 0 else LP.h (lp j)) w;simp only[if_neg e]at this;omega
 refine⟨?_,E⟩;have F:=Gy (f:=λ j=>LP.ow (lp j)) (f':=λ j=>if j=s then 0 else LP.ow (lp j)) I λ j w=>if_neg w;simp only[if_true]at F
 have H:(QN N λ j=>if j=s then 0 else LP.ow (lp j))=0:=Pt λ j w=>by
  split
  .rfl
  .rename_i e;have:=E j w e
   revert this
   cases lp j <;> simp[LP.h,LP.ow]
 simp_all
abbrev Spec:=List Q2->Prop
variable{ds:List Spec}{D:Spec}
inductive PS where
 |run|seen (u:Nat)|wait|up
variable{η:PS}
inductive Ph where
 |out
 |par (b:Nat) (ds:List Spec) (pend:Bool) (k:PS)
 |wrk (b:Nat) (D:Spec)
 |rel (b:Nat)
 |lst (b:Nat) (i:Nat)
variable{tk:Nat->Ph}{p:Ph}
structure ZA where
 m:Nat
 t:TypeId
 sp:(Nat->Bool)->Spec
inductive ZL where
 |par (x:ZA) (u:Nat->Bool)
 |lok (x:ZA) (s:Nat) (me:LP) (lo:Nat×Nat)
def ZL.mb:Option ZL->Option Nat
 |some (.par x _)=>some x.m
 |_=>none
structure Tk where
 d:Nat
 ph:Ph
 mu:Option ZL
def ZA.dep(x:ZA)(lp:Nat->LP)(M:List Q2):Prop:=x.sp (λ s=>(lp s).rels) M
def Ph.blk:Ph->Option Nat
 |.out=>none
 |.par b ..|.wrk b _|.rel b|.lst b _=>some b
def JA:Ph->Bool
 |.wrk ..|.rel _=>true
 |_=>false
def SU(f:Nat->α)(p:α->Bool)(i:Nat)(x:α):∀{W:List Nat},W.Nodup->i∈W->W.countP (λ j=>p (Q9 f i x j))+(p (f i)).toNat=W.countP (λ j=>p (f j))+(p x).toNat:=by
 intro W
 induction W with
 |nil=>intro _ h;cases h
 |cons a W F=>
  intro w B;obtain⟨z,w⟩:=nodup_cons.1 w;simp only[countP_cons];by_cases e:a=i
  .grind[Q9,countP_congr]
  .have hi':i∈W:=by simpa[Ne.symm e]using B
   have:=F w hi';rw[Qv _ _ e];omega
def NY(f:Nat->α)(p:α->Bool)(i:Nat)(x:α)(h:i∉W):W.countP (λ j=>p (Q9 f i x j))=W.countP (λ j=>p (f j)):=by
 refine countP_congr λ j w=>?_;rw[Qv];grind
def XI(b:Nat)(tk:Nat->Ph):Prop:=∀i j,tk i≠.lst b j
structure GI(N b:Nat)(ds:List Spec)(pend:Bool)(k:PS)(tk:Nat->Ph)(rel:Nat->Option Nat)(dM:Nat->List Q2)(W:List Nat)(c wt s:Nat):Prop where
 nodup:W.Nodup
 len:W.length=ds.length
 spec:∀(j i:Nat)(D:Spec),W[j]?=some i->ds[j]?=some D->(tk i=.wrk b D/\rel i=none)\/((∀D',tk i≠.wrk b D')/\(∃r,rel i=some r)/\D (dM i))
 inW:∀i,(tk i≠.out\/rel i≠none)->i∈W
 cnt:c=W.countP (λ i=>JA (tk i))+pend.toNat
 ph:∀i,tk i=.out\/(∃D,tk i=.wrk b D)\/tk i=.rel b\/∃j,tk i=.lst b j
 bound:ds.length+pend.toNat<=N
 state:match k with
  |.run=>wt=0/\s=0/\XI b tk
  |.seen u=>c<=u/\wt=0/\s=0/\XI b tk
  |.wait=>pend=false/\((1<=c/\wt=1/\s=0/\XI b tk)\/(c=0/\∃i0 j0,(∀i j,tk i=.lst b j↔i=i0/\j=j0)/\((j0<=1/\wt=1/\s=0)\/(j0=2/\wt=0/\s=0)))\/(c=0/\wt=0/\s=1/\XI b tk))
  |.up=>pend=false/\c=0/\wt=0/\s=0/\XI b tk
def GI.cN(h:GI N b ds pend η tk rel dM W size wt s):size<=ds.length+pend.toNat:=by
 rw[h.cnt];have:=countP_le_length (p:=λ i=>JA (tk i)) (l:=W);have:=h.len;omega
def GI.start(f:∀i,tk i=.out)(w:∀i,rel i=none):GI N b [] false .run tk rel dM [] 0 0 0:=
 ⟨.nil,rfl,λ j i D h=>by simp at h,λ i h=>by simp[f,w]at h,rfl,λ i=>.inl (f i),S1,rfl,rfl,λ i j e=>by rw[f]at e;cases e⟩
def GI.add(h:GI N b ds false .run tk rel dM W size wt s)(e:ds.length<N):GI N b ds true .run tk rel dM W (size+1) wt s:=
 ⟨h.nodup,h.len,h.spec,h.inW,by have:=h.cnt;simp_all,h.ph,S3,h.state⟩
def GI.go(h:GI N b ds true .run tk rel dM W size wt s)(F:tk n=.out)(E:rel n=none)(w:n∉W) :
  GI N b (D::ds) false .run (Q9 tk n (.wrk b D)) rel dM (n::W) size wt s:=by
 refine⟨nodup_cons.2 ⟨w,h.nodup⟩,by simp[h.len],?_,?_,?_,?_,?_,?_⟩
 .intro j f D' h1 h2;cases j with
  |zero=>
   simp at h1 h2;subst h1;subst h2;exact .inl ⟨Qf ..,E⟩
  |succ j=>
   simp at h1 h2;have B:f∈W:=mem_of_getElem? h1;have z:f≠n:=λ e=>w (e▸B);rw[Qv _ _ z];exact h.spec j f D' h1 h2
 .intro f h1;by_cases e:f=n
  .subst e;simp
  .rw[Qv _ _ e]at h1;exact mem_cons_of_mem _ (h.inW f h1)
 .rw[countP_cons,Qf,NY tk JA n _ w];have:=h.cnt;grind[JA]
 .intro f;by_cases e:f=n
  .subst e;rw[Qf];simp_all
  .rw[Qv _ _ e];exact h.ph f
 .have:=h.bound;simp_all
 .obtain⟨h1,h2,h3⟩:=h.state;refine⟨h1,h2,λ f j=>?_⟩;by_cases e:f=n
  .subst e;rw[Qf];intro h;cases h
  .rw[Qv _ _ e];exact h3 f j
def X9(ds:List Spec)(u:Nat)(k:PS):Prop:=(k=.run/\u=ds.length)\/k=.seen u
def GI.seeU(h:GI N b ds false η tk rel dM W size wt s)(f:X9 ds n η):size<=n/\wt=0/\s=0/\XI b tk:=by
 have e:=h.state;rcases f with⟨rfl,rfl⟩|rfl
 .have:=h.cN;simp_all
 .exact e
def GI.toUp(h:GI N b ds false η tk rel dM W 0 wt s)(e:X9 ds size η):GI N b ds false .up tk rel dM W 0 wt s:=
 ⟨h.nodup,h.len,h.spec,h.inW,h.cnt,h.ph,h.bound,rfl,rfl,(h.seeU e).2⟩
def GI.toSeen(h:GI N b ds false η tk rel dM W size wt s)(e:X9 ds n η):GI N b ds false (.seen size) tk rel dM W size wt s:=
 ⟨h.nodup,h.len,h.spec,h.inW,h.cnt,h.ph,h.bound,Nat.le_refl _,(h.seeU e).2⟩
def GI.toWait(h:GI N b ds false η tk rel dM W size wt s)(f:X9 ds n η)(e:1<=size):GI N b ds false .wait tk rel dM W size 1 s:=
 ⟨h.nodup,h.len,h.spec,h.inW,h.cnt,h.ph,h.bound,rfl,.inl ⟨e,rfl,(h.seeU f).2.2⟩⟩
def GI.sema(h:GI N b ds pend .wait tk rel dM W s wt 1):GI N b ds false .up tk rel dM W 0 0 0/\s=0/\wt=0/\pend=false:=by
 obtain⟨B,E⟩:=h.state;rcases E with⟨_,_,e,_⟩|⟨_,F,G,_,⟨_,_,e⟩|⟨_,_,e⟩⟩|⟨f,w,_,z⟩
 .cases e
 .cases e
 .cases e
 .subst f;subst w;subst B;exact⟨⟨h.nodup,h.len,h.spec,h.inW,h.cnt,h.ph,h.bound,rfl,rfl,rfl,rfl,z⟩,rfl,rfl,rfl⟩
def GI.up(h:GI N b ds pend .up tk rel dM W size wt s):pend=false/\size=0/\wt=0/\s=0/\(∀i,tk i=.out)/\∀i,i∈W->∃r,rel i=some r:=by
 obtain⟨w,z,I,K,L⟩:=h.state
 have F:∀i∈W,JA (tk i)=false:=by
  have:=h.cnt;rw[z,w]at this;simp at this;have H:W.countP (λ i=>JA (tk i))=0:=O1
  intro i B;have:=countP_eq_zero.1 H i B;simpa using this
 have f:∀i,tk i=.out:=by
  intro i;rcases h.ph i with e|⟨D,e⟩|e|⟨j,e⟩
  .exact e
  .have:=F i (h.inW i (.inl (by rw[e];simp)));rw[e]at this;cases this
  .have:=F i (h.inW i (.inl (by rw[e];simp)));rw[e]at this;cases this
  .exact absurd e (L i j)
 refine⟨w,z,I,K,f,λ i B=>?_⟩;obtain⟨j,G,e⟩:=mem_iff_getElem.1 B;have E:j<ds.length:=by rw[<- h.len];exact G
 rcases h.spec j i ds[j] (by simp_all) (getElem?_eq_getElem E)with⟨w,_⟩|⟨_,z,_⟩
 .rw[f]at w;cases w
 .exact z
def XL:List Spec->List (List Q2)->Prop
 |[],[]=>True
 |D::ds,M::e=>D M/\XL ds e
 |_,_=>False
def OV:∀{ds:List Spec}{W:List Nat},W.length=ds.length->(∀(j i:Nat)(D:Spec),W[j]?=some i->ds[j]?=some D->D (dM i))->XL ds (W.map dM)
 |[],[],_,_=>trivial
 |[],_::_,h,_=>by simp at h
 |_::_,[],h,_=>by simp at h
 |D::ds,i::W,h,e=>⟨e 0 i D rfl rfl,OV (by simpa using h) λ j B f w z=>e (j+1) B f (by simpa using w) (by simpa using z)⟩
def GI.deps(h:GI N b ds pend .up tk rel dM W size wt s):XL ds (W.map dM):=by
 refine OV h.len λ j i D f w=>?_;rcases h.spec j i D f w with⟨e,_⟩|⟨_,_,e⟩
 .rw[h.up.2.2.2.2.1]at e;cases e
 .exact e
def GI.rel_{r:Nat}(h:GI N b ds pend η tk rel dM W size wt s)(G:tk n=.wrk b D)(S:D M) :
  GI N b ds pend η (Q9 tk n (.rel b)) (Q9 rel n (some r)) (Q9 dM n M) W size wt s/\rel n=none:=by
 have K:n∈W:=h.inW n (.inl (by rw[G];simp))
 have H:rel n=none:=by
  obtain⟨j,P,e⟩:=mem_iff_getElem.1 K;have L:j<ds.length:=by rw[<- h.len];exact P
  rcases h.spec j n ds[j] (by simp_all) (getElem?_eq_getElem L)with⟨_,w⟩|⟨w,_⟩
  .exact w
  .simp_all
 have F:∀f j,Q9 tk n (.rel b) f=.lst b j↔tk f=.lst b j:=by
  intro f j;by_cases e:f=n
  .subst e;rw[Qf,G];simp
  .rw[Qv _ _ e]
 have B:XI b tk->XI b (Q9 tk n (.rel b)):=λ T f j e=>T f j ((F f j).1 e);refine⟨⟨h.nodup,h.len,?_,?_,?_,?_,h.bound,?_⟩,H⟩
 .intro j f D' z w;by_cases e:f=n
  .subst e;refine .inr ⟨λ Q h=>(by rw[Qf]at h;cases h),⟨r,Qf ..⟩,?_⟩;rw[Qf];rcases h.spec j f D' z w with⟨E,_⟩|⟨E,_⟩
   .rw[G]at E;cases E;exact S
   simp_all
  .rw[Qv _ _ e,Qv _ _ e,Qv _ _ e];exact h.spec j f D' z w
 .intro f z;by_cases e:f=n
  .subst e;exact K
  .rw[Qv _ _ e,Qv _ _ e]at z;exact h.inW f z
 .have:=SU tk JA n (.rel b) h.nodup K;rw[G]at this;have w:=h.cnt;grind[JA]
 .intro f;by_cases e:f=n
  .subst e;rw[Qf];simp_all
  .rw[Qv _ _ e];exact h.ph f
 .have:=h.state;cases η with
  |run=>simp_all
  |seen u=>simp_all
  |wait=>
   refine⟨this.1,?_⟩;rcases this.2 with⟨z,w,E,I⟩|⟨z,U,V,w,E⟩|⟨z,w,E,I⟩
   .exact .inl ⟨z,w,E,B I⟩
   .exact .inr (.inl ⟨z,U,V,λ f j=>(F f j).trans (w f j),E⟩)
   simp_all
  |up=>simp_all
def GI.move(h:GI N b ds pend η tk rel dM W size wt s)(G:tk n=.rel b\/∃j,tk n=.lst b j)(E:p=.out\/∃j,p=.lst b j) :
  n∈W/\(∀(j f:Nat)(D:Spec),W[j]?=some f->ds[j]?=some D->(Q9 tk n p f=.wrk b D/\rel f=none)\/((∀z,Q9 tk n p f≠.wrk b z)/\(∃r,rel f=some r)/\D (dM f))) /\
  (∀f,(Q9 tk n p f≠.out\/rel f≠none)->f∈W)/\(W.countP (λ j=>JA (Q9 tk n p j))+(JA (tk n)).toNat=W.countP (λ j=>JA (tk j))) /\
  (∀f,Q9 tk n p f=.out\/(∃D,Q9 tk n p f=.wrk b D)\/Q9 tk n p f=.rel b\/∃j,Q9 tk n p f=.lst b j):=by
 have B:n∈W:=h.inW n (.inl (by grind));have F:∀D,p≠.wrk b D:=by rintro D rfl;rcases E with e|⟨j,e⟩ <;> cases e
 refine⟨B,?_,?_,?_,?_⟩
 .intro j f D h1 h2;by_cases e:f=n
  .subst e;rcases h.spec j f D h1 h2 with⟨w,_⟩|⟨_,w⟩
   .simp_all
   .exact .inr ⟨λ z h=>F z (by rwa [Qf]at h),w⟩
  .rw[Qv _ _ e];exact h.spec j f D h1 h2
 .intro f h1;by_cases e:f=n
  .subst e;exact B
  .rw[Qv _ _ e]at h1;exact h.inW f h1
 .have:=SU tk JA n p h.nodup B;grind[JA]
 .intro f;by_cases e:f=n
  .subst e;rw[Qf];grind
  .rw[Qv _ _ e];exact h.ph f
def GI.relC(h:GI N b ds pend η tk rel dM W size wt s)(w:tk n=.rel b):1<=size/\size<=N/\wt<=1/\s=0:=by
 have z:n∈W:=h.inW n (.inl (by rw[w];simp))
 have B:1<=size:=by
  rw[h.cnt];have:0<W.countP (λ n=>JA (tk n)):=countP_pos_iff.2 ⟨n,z,by rw[w];rfl⟩;omega
 refine⟨B,Nat.le_trans h.cN h.bound,?_⟩;have:=h.state;grind
def GI.leave(h:GI N b ds pend η tk rel dM W size wt s)(z:tk n=.rel b)(E:¬(size=1/\wt=1)) :
  GI N b ds pend η (Q9 tk n .out) rel dM W (size-1) wt s:=by
 obtain⟨P,-,-,Q⟩:=h.relC z;obtain⟨M,G,H,B,I⟩:=h.move (p:=.out) (.inl z) (.inl rfl)
 have f:XI b tk->XI b (Q9 tk n .out):=by
  intro E F j e;by_cases e':F=n
  .subst e';rw[Qf]at e;cases e
  .rw[Qv _ _ e']at e;exact E F j e
 refine⟨h.nodup,h.len,G,H,?_,I,h.bound,?_⟩
 .have:=h.cnt;grind[JA]
 .have:=h.state;grind
def GI.last{i:Nat}(h:GI N b ds pend η tk rel dM W 1 1 s)(z:tk i=.rel b) :
  η=.wait/\GI N b ds pend .wait (Q9 tk i (.lst b 0)) rel dM W 0 1 s:=by
 obtain⟨P,-,-,Q⟩:=h.relC z;obtain⟨M,G,H,B,I⟩:=h.move (p:=.lst b 0) (.inl z) (.inr ⟨0,rfl⟩);have f:=h.state;have E:=h.cnt;cases η with
 |run=>grind
 |seen u=>grind
 |up=>grind
 |wait=>
  refine⟨rfl,h.nodup,h.len,G,H,?_,I,h.bound,f.1,?_⟩
  .grind[JA]
  .rcases f.2 with⟨_,w,K,L⟩|⟨w,_⟩|⟨w,_⟩
   .refine .inr (.inl ⟨rfl,i,0,λ F j=>?_,.inl ⟨O1,rfl,K⟩⟩);by_cases e:F=i
    .subst e;rw[Qf];grind
    .rw[Qv _ _ e];exact⟨λ e'=>absurd e' (L F j),λ e'=>absurd e'.1 e⟩
   .cases w
   .cases w
def GI.lstAt(h:GI N b ds pend η tk rel dM W size wt s)(f:tk n=.lst b j) :
  η=.wait/\size=0/\s=0/\((j<=1/\wt=1)\/(j=2/\wt=0))/\∀E F,tk E=.lst b F↔E=n/\F=j:=by
 have e:=h.state;cases η with
 |run=>exact absurd f (e.2.2 n j)
 |seen u=>exact absurd f (e.2.2.2 n j)
 |up=>exact absurd f (e.2.2.2.2 n j)
 |wait=>
  rcases e.2 with⟨_,_,_,w⟩|⟨G,H,I,z,B⟩|⟨_,_,_,w⟩
  .exact absurd f (w n j)
  .grind
  .exact absurd f (w n j)
def GI.next{wt':Nat}(h:GI N b ds pend η tk rel dM W size wt s)(f:tk n=.lst b j)(F:(j=0/\wt'=1)\/(j=1/\wt'=0)) :
  GI N b ds pend η (Q9 tk n (.lst b (j+1))) rel dM W size wt' s:=by
 obtain⟨rfl,B,w,L,E⟩:=h.lstAt f;obtain⟨M,H,I,z,K⟩:=h.move (p:=.lst b (j+1)) (.inr ⟨j,f⟩) (.inr ⟨j+1,rfl⟩);refine⟨h.nodup,h.len,H,I,?_,K,h.bound,h.state.1,.inr (.inl ⟨B,n,j+1,λ G P=>?_,?_⟩)⟩
 .have:=h.cnt;rw[f]at z;simp only[show ∀j,JA (Ph.lst b j)=false from λ _=>rfl,Bool.toNat_false]at z;omega
 .by_cases e:G=n
  .subst e;rw[Qf];constructor
   .intro e;cases e;exact⟨rfl,rfl⟩
   .rintro⟨_,rfl⟩;rfl
  .rw[Qv _ _ e,E];exact⟨λ e'=>absurd e'.1 e,λ e'=>absurd e'.1 e⟩
 simp_all
def GI.wake(h:GI N b ds pend η tk rel dM W size wt s)(f:tk n=.lst b 2):GI N b ds pend η (Q9 tk n .out) rel dM W size wt 1:=by
 obtain⟨rfl,E,L,M,F⟩:=h.lstAt f;obtain⟨P,H,I,B,K⟩:=h.move (p:=.out) (.inr ⟨2,f⟩) (.inl rfl);have w:wt=0:=O1
 refine⟨h.nodup,h.len,H,I,?_,K,h.bound,h.state.1,.inr (.inr ⟨E,w,rfl,λ z G e=>?_⟩)⟩
 .have:=h.cnt;simp_all
 .by_cases e':z=n
  .subst e';rw[Qf]at e;cases e
  .rw[Qv _ _ e']at e;simp_all
def GI.someone(h:GI N b ds pend .wait tk rel dM W s wt 0):∃i,tk i≠.out:=by
 obtain⟨E,F⟩:=h.state;rcases F with⟨H,_,_,_⟩|⟨_,w,G,z,_⟩|⟨_,_,B,_⟩
 .have:=h.cnt;rw[E]at this;simp at this;have:0<W.countP (λ i=>JA (tk i)):=O1
  obtain⟨i,_,f⟩:=countP_pos_iff.1 this;exact⟨i,λ e=>by rw[e]at f;cases f⟩
 .exact⟨w,λ e=>by have:=(z w G).2 ⟨rfl,rfl⟩;simp_all⟩
 .cases B
inductive SE where
 |go (g:Gr) (st sm:Value) (es:Array Event) (bs:List (Nat×Bool))
 |spawn (g child:Gr) (es:Array Event)
 |blocked (g:Gr) (st sm:Value) (bs:List (Nat×Bool))
 |stuck
def Wq(fr:Frame)(cs:List Frame):Gr:={ frame:=fr,callers:=cs,status:=.running,dying:=none }
def SE.still(st sm:Value)(fr:Frame)(cs:List Frame):SE:=.go (Wq fr cs) st sm #[] []
def EE(fr:Frame):CallKind:=match fr.todo with|.call _ true _ _::_=>.wrapped|_=>.normal
def GE(P:Program)(d:Deferred):Gr:=Wq { (default:Frame)with fn:=P.funcs.size,defers:=[d],mode:=.panicking [goexitEntry] } []
def V2:Target->Bool
 |.fn _ _=>true
 |_=>false
def PH(P:Program)(fr:Frame)(cs:List Frame)(d:Deferred)(es:Array Event)(bs:List (Nat×Bool)):SE:=
 bif V2 d.target&&bs.isEmpty then .spawn (Wq (fr.finish undef) cs) (GE P d) (seen P fr.fn es)else .stuck
def X0(P:Program)(fr:Frame)(cs:List Frame):QE Next->SE
 |.ok n st sm es bs=>match fr.kind with
  |.early=>.stuck
  |_=>match n with
   |.value v=>.go (Wq (fr.finish v) cs) st sm (seen P fr.fn es) bs
   |.skip=>.go (Wq (fr.finish undef) cs) st sm (seen P fr.fn es) bs
   |.enter f args=>.go (Wq (Frame.enter P f args (EE fr)) (fr::cs)) st sm (seen P fr.fn es) bs
   |.defer d=>.go (Wq ({ fr with defers:=d::fr.defers }.finish undef) cs) st sm (seen P fr.fn es) bs
   |.spawn d=>PH P fr cs d es bs
   |_=>.stuck
 |.blocked st sm bs=>match fr.kind with
  |.early=>.stuck
  |_=>.blocked { frame:=fr,callers:=cs,status:=.blocked,dying:=none } st sm bs
 |.stuck=>.stuck
def GN(P:Program)(t:TypeId)(fr:Frame)(cs:List Frame)(st sm:Value):SE:=
 let to (todo:List Item):SE:=.still st sm { fr with todo } cs
 let leave (jump:Option Code):SE:=match fr.roundOf,jump with
  |none,none=>.still st sm { fr with mode:=.returning } cs
  |none,some .ret=>.still st sm { fr with mode:=.returning } cs
  |_,_=>.stuck
 match fr.todo with
 |[]=>leave none
 |.code .ret::_=>leave (some .ret)
 |.code .skip::k|.code (.label _)::k|.inBlock _::k|.inScope _::k=>to k
 |.code (.seq a b)::k=>to (.code a::.code b::k)
 |.code (.cond c f e)::k=>match fr.eval c with
  |.bool b=>to (.code (if b then f else e)::k)
  |_=>.stuck
 |.code (.block id body)::k=>to (.code body::.inBlock id::k)
 |.code (.loop body)::k|.inLoop body::k=>to (.code body::.inLoop body::k)
 |.code (.scope body)::k=>to (.code body::.inScope body::k)
 |.code (.exit id)::k=>match exitTo id k with
  |some k'=>to k'
  |none=>.stuck
 |.code (.region _ ops false)::k=>to (.inRegion ops (range ops.size)::k)
 |.inRegion _ []::k=>to k
 |.inRegion ops (i::_)::_=>match ops[i]? with
  |some o=>(match Region.wanted o (yielded ops fr.tmps)with
   |true=>(match fr.roundOf with
    |none=>X0 P fr cs (Jo P t (execOp fr.eval o) st sm #[] [])
    |some _=>.stuck)
   |false=>.still st sm (fr.finish undef) cs)
  |none=>.stuck
 |_=>.stuck
def GW(m:Bool)(fr:Frame)(cs:List Frame)(v:Value)(st sm:Value)(es:Array Event)(bs:List (Nat×Bool)):SE:=
 match cs with
 |c::rest=>(match fr.kind with
  |.normal=>.go (Wq (c.finish v) rest) st sm es bs
  |.deferred=>.go (Wq (match c.mode with
    |.panicking ({ recovered:=true,.. }::older)=>
     match older.dropWhile (!·.goexit)with
     |[]=>{ c with mode:=.returning }
     |rest=>{ c with mode:=.panicking rest }
    |_=>c) rest) st sm es bs
  |_=>.stuck)
 |[]=>(match m,fr.kind with
  |false,.normal=>.go { frame:=fr,callers:=[],status:=.finished,dying:=none } st sm es bs
  |_,_=>.stuck)
def HX(P:Program)(fr:Frame)(ds:List Deferred)(cs:List Frame):QE Next->SE
 |.ok n st sm es bs=>(match n with
  |.enter f args=>.go (Wq (Frame.enter P f args .deferred) ({ fr with defers:=ds }::cs)) st sm (seen P fr.fn es) bs
  |.value _=>.go (Wq { fr with defers:=ds } cs) st sm (seen P fr.fn es) bs
  |_=>.stuck)
 |_=>.stuck
def G6(P:Program)(m:Bool)(fr:Frame)(cs:List Frame):QE Value->SE
 |.ok v st sm es bs=>GW m fr cs v st sm (seen P fr.fn es) bs
 |_=>.stuck
def Gz(P:Program)(t:TypeId)(m:Bool)(fr:Frame)(cs:List Frame)(st sm:Value):SE:=
 match fr.defers with
 |d::ds=>(match d.target with
  |.fn _ _=>HX P fr ds cs (Jo P t (invoke d.target d.args) st sm #[] [])
  |_=>.stuck)
 |[]=>(match fr.mode with
  |.returning=>(match P.funcs[fr.fn]? with
   |some fn=>G6 P m fr cs (Jo P t (results fn fr.tmps) st sm #[] [])
   |none=>.stuck)
  |.panicking chain=>(match cs,fr.todo,P.funcs[fr.fn]?,chain with
   |[],[],none,e::_=>(match e.goexit with
    |true=>.go { frame:=fr,callers:=[],status:=.finished,dying:=none } st sm #[] []
    |false=>.stuck)
   |_,_,_,_=>.stuck)
  |.run=>.stuck)
def Q5(P:Program)(t:TypeId)(m:Bool)(g:Gr)(st sm:Value):SE:=
 match g.status with
 |.running=>(match g.dying with
  |some _=>.stuck
  |none=>(match g.frame.mode with
   |.run=>GN P t g.frame g.callers st sm
   |_=>Gz P t m g.frame g.callers st sm))
 |_=>.stuck
def Hv(s:GStep)(W:Value->Value->World)(ok:List (Nat×Bool)->Prop)(w:World):SE->Prop
 |.go g' st' sm' es bs=>ok bs->s=.go g' (W st' sm') es
 |.spawn g' c es=>s=.spawn g' c w es
 |.blocked g' st' sm' bs=>ok bs->s=.go g' (W st' sm') #[]
 |.stuck=>True
def Wr(P:Program)(f:FuncId):seen P f #[]=#[]:=by simp[seen]
section
variable{t:TypeId}{st:Value}
def RM{s:Sem Next}(H:WY P t st sm w β ok) :
  Hv (stepG.apply P true ζ cs none s w) β ok w (X0 P ζ cs (Jo P t s st sm #[] [])):=by
 have h:=H.ran s;have z:=@Eb P t _ s st sm #[] [];generalize Jo P t s st sm #[] []=r at h z;cases r with
 |ok n st' sm' es bs=>
  simp only[X0];split
  .trivial
  .rename_i hk
   have e:(ζ.kind==CallKind.early)=false:=by
    cases G:ζ.kind <;> first|rfl|exact absurd G (by simpa using hk)
   cases n with
   |value v=>
    intro E;have B:=h E;simp only[stepG.apply,if_true,B,e,Bool.false_eq_true,if_false,GStep.after,Wq,Array.append_empty]
   |skip=>
    intro E;have B:=h E;simp only[stepG.apply,if_true,B,e,Bool.false_eq_true,if_false,GStep.after,Wq,Array.append_empty]
   |enter f args=>
    intro E;have B:=h E;simp only[stepG.apply,if_true,B,e,Bool.false_eq_true,if_false,GStep.after,Wq,Array.append_empty,EE];rfl
   |defer d=>
    intro E;have B:=h E;simp only[stepG.apply,if_true,B,e,Bool.false_eq_true,if_false,GStep.after,Wq,Array.append_empty]
   |spawn d=>
    show Hv _ β ok w (PH P ζ cs d es bs);unfold PH;cases F:V2 d.target&&bs.isEmpty with
    |true=>
     simp only[Bool.and_eq_true,isEmpty_iff]at F;obtain⟨F,rfl⟩:=F;obtain⟨⟨rfl,rfl⟩,-⟩:=(z rfl).2 rfl;have I:=h H.nil;rw[H.same]at I;cases K:d.target <;> rw[K]at F <;> first|cases F|skip
     simp only[cond_true,Hv,stepG.apply,if_true,I,e,Bool.false_eq_true,if_false,K,Bool.and_false,Bool.false_and,GStep.after,Wq,Array.append_empty,GE]
    |false=>trivial
   |_=>trivial
 |blocked st' sm' bs=>
  simp only[X0];split
  .trivial
  .rename_i hk
   have e:(ζ.kind==CallKind.early)=false:=by
    cases G:ζ.kind <;> first|rfl|exact absurd G (by simpa using hk)
   intro E;obtain⟨L,B⟩:=h E;simp only[stepG.apply,if_true,B,e,Bool.false_eq_true,if_false,Wr,GStep.after,Array.append_empty]
 |stuck=>trivial
end
def Zv{s:GStep}(e:WY P H st' sm w β ok)(h:s=.go (Wq ζ cs) w):Hv s β ok w (.still st' sm ζ cs):=by
 intro _;rw[e.same];exact h
def Bs(E:ζ.mode=.run)(f:WY P H st' sm w β ok) :
  Hv (stepG P m { frame:=ζ,callers:=cs,status,dying:=none,offers } w) β ok w (GN P H ζ cs st' sm):=by
 have e:stepG P m { frame:=ζ,callers:=cs,status,dying:=none,offers } w=stepG.exec P m true ζ cs none w:=by
  simp only[stepG,E]
 rw[e];unfold GN;simp only;split
 .rename_i ht;cases z:ζ.roundOf with
  |none=>exact Zv f (by simp[stepG.exec,ht,z,Wq])
  |some l=>trivial
 .rename_i k ht;cases z:ζ.roundOf with
  |none=>exact Zv f (by simp[stepG.exec,ht,z,Wq])
  |some l=>trivial
 .rename_i k ht;exact Zv f (by simp[stepG.exec,ht,Wq])
 .rename_i k ht;exact Zv f (by simp[stepG.exec,ht,Wq])
 .rename_i k ht;exact Zv f (by simp[stepG.exec,ht,Wq])
 .rename_i k ht;exact Zv f (by simp[stepG.exec,ht,Wq])
 .rename_i x y k ht;exact Zv f (by simp[stepG.exec,ht,Wq])
 .rename_i c x y k ht;split
  .rename_i bb hb;exact Zv f (by grind[stepG.exec,Wq])
  .trivial
 .rename_i id body k ht;exact Zv f (by simp[stepG.exec,ht,Wq])
 .rename_i body k ht;exact Zv f (by simp[stepG.exec,ht,Wq])
 .rename_i body k ht;exact Zv f (by simp[stepG.exec,ht,Wq])
 .rename_i body k ht;exact Zv f (by simp[stepG.exec,ht,Wq])
 .rename_i id k ht;split
  .rename_i k' hk;exact Zv f (by grind[stepG.exec,Wq])
  .trivial
 .rename_i id ops k ht;exact Zv f (by simp[stepG.exec,ht,Wq])
 .rename_i ops k ht;exact Zv f (by simp[stepG.exec,ht,Wq])
 .rename_i ops i rest k ht;split
  .rename_i o ho;split
   .rename_i hw;split
    .rename_i z
     have B:stepG.exec P m true ζ cs none w=stepG.apply P true ζ cs none (execOp ζ.eval o) w:=by
      simp[stepG.exec,ht,ho,hw,stepG.oper,Frame.oper?,z]
     rw[B];exact RM f
    .trivial
   .rename_i hw;exact Zv f (by grind[stepG.exec,Wq])
  .trivial
 .trivial
section
variable{W:Value->Value->World}
def SZ{fr:Frame}{bs:List (Nat×Bool)} :
  Hv (GStep.after es (doReturn P m fr cs none v (W st' sm'))) W ok w (GW m fr cs v st' sm' es bs):=by
 unfold GW;split
 .rename_i c rest;split
  .rename_i hk;intro _;grind[doReturn,GStep.after,Wq]
  .rename_i hk;intro _;grind[doReturn,GStep.after,Wq]
  .trivial
 .split
  .rename_i hk;intro _;simp only[doReturn,hk,GStep.after,Array.append_empty,Bool.not_false,if_true]
  .trivial
end
section
variable{t:TypeId}{st:Value}
def Rs(I:ζ.mode≠.run)(F:WY P t st sm w β ok) :
  Hv (stepG P m { frame:=ζ,callers:=cs,status,dying:=none,offers } w) β ok w (Gz P t m ζ cs st sm):=by
 have e:stepG P m { frame:=ζ,callers:=cs,status,dying:=none,offers } w=unwind P m ζ cs none w:=by
  cases G:ζ.mode with
  |run=>exact absurd G I
  |_=>simp only[stepG,G]
 rw[e];unfold Gz;split
 .rename_i d ds hd;split
  .rename_i fn capt ht;have h:=F.ran (invoke d.target d.args)
   have E:unwind P m ζ cs none w=callDeferred P { ζ with defers:=ds } cs none d w:=by
    obtain⟨K,ag⟩:=d;cases ht;simp only[unwind,hd]
   rw[E];generalize Jo P t (invoke d.target d.args) st sm #[] []=r at h;cases r with
   |ok n st' sm' es bs=>
    simp only[HX];cases n with
    |enter f args=>
     intro B;have z:=h B;rw[ht]at z;simp only[callDeferred,ht,Bool.false_and,Bool.false_eq_true,if_false,z,GStep.after,Wq,Array.append_empty]
    |value v=>
     intro B;have z:=h B;rw[ht]at z;simp only[callDeferred,ht,Bool.false_and,Bool.false_eq_true,if_false,z,GStep.after,Wq,Array.append_empty]
    |_=>trivial
   |_=>trivial
  .trivial
 .rename_i hd;split
  .rename_i hmo;split
   .rename_i fn hf;have h:=F.ran (results fn ζ.tmps);generalize Jo P t (results fn ζ.tmps) st sm #[] []=r at h;cases r with
    |ok v st' sm' es bs=>
     simp only[G6];by_cases B:ok bs
     .have z:=h B
      have E:unwind P m ζ cs none w=GStep.after (seen P ζ.fn es) (doReturn P m ζ cs none v (β st' sm')):=by
       simp only[unwind,hd,hmo,hf,z]
      rw[E];exact SZ
     .have:=SZ (P:=P) (m:=m) (W:=β) (ok:=ok) (w:=w) (fr:=ζ) (cs:=cs) (v:=v) (es:=seen P ζ.fn es) (bs:=bs) (st':=st') (sm':=sm');unfold GW at this ⊢;split <;> split <;> first|exact(λ H=>absurd H B)|trivial
    |_=>trivial
   .trivial
  .rename_i chain hmo;split
   .rename_i e' tl ht hf;split
    .rename_i hg;intro _;rw[F.same];grind[unwind,Frame.catches]
    .trivial
   .trivial
  .trivial
end
def Vh(f:WY P H st' sm w β ok):Hv (stepG P m g w) β ok w (Q5 P H m g st' sm):=by
 obtain⟨fr,cs,status,dying,offers⟩:=g;unfold Q5;cases status <;> try trivial
 cases dying with
 |some d=>trivial
 |none=>
  simp only;cases e:fr.mode with
  |run=>exact Bs e f
  |_=>exact Rs (by simp_all) f
def KY(h:Q5 P H m g v sm=.go Q st' sm' es [])(w:World):stepG P m g w=.go Q w es:=by
 have:=Vh (g:=g) (m:=m) (WY.calm (P:=P) (t:=H) (st:=v) (sm:=sm) (w:=w));rw[h]at this;exact this rfl
def Hj(h:Q5 P H m g v sm=.go Q st' sm' es γ)(f:Sh b H v sm w)
  (e:∀y∈γ,y.1=b):stepG P m g w=.go Q (two w b H st' sm') es:=by
 have:=Vh (g:=g) (m:=m) (WY.sh (P:=P) f);rw[h]at this;exact this e
def S7(h:Q5 P H m g v sm=.blocked Q st' sm' γ)(f:Sh b H v sm w)
  (e:∀y∈γ,y.1=b):stepG P m g w=.go Q (two w b H st' sm') #[]:=by
 have:=Vh (g:=g) (m:=m) (WY.sh (P:=P) f);rw[h]at this;exact this e
def BL(h:Q5 P H m g st' sm=.spawn Q Z es)(w:World):stepG P m g w=.spawn Q Z w es:=by
 have:=Vh (g:=g) (m:=m) (WY.calm (P:=P) (t:=H) (st:=st') (sm:=sm) (w:=w));rw[h]at this;exact this
def Xt(f:Value->Value->SE):Prop:=∀st sm g' st' sm' es bs,f st sm=.go g' st' sm' es bs->(bs.all (!·.2))=true->(st'=st/\sm'=sm)/\∀w e,f w e=.go g' w e es bs
def Xt.still{fr:Frame}{cs:List Frame}:Xt λ st sm=>.still st sm fr cs:=by
 intro st sm g' st' sm' es bs h _;grind[SE.still,SE.go.injEq]
def Xt.stuck:Xt λ _ _=>.stuck:=by intro st sm g' st' sm' es bs h;cases h
section
variable{t:TypeId}
def Xt.of{s:Sem T}{F:QE T->SE}(H:∀r g' st' sm' es bs,F r=.go g' st' sm' es bs->∃x w,r=.ok x st' sm' w bs/\∀f e,F (.ok x f e w bs)=.go g' f e es bs) :
  Xt λ st sm=>F (Jo P t s st sm #[] []):=by
 intro st sm g' st' sm' es bs h I;obtain⟨x,w,K,z⟩:=H _ _ _ _ _ _ h;obtain⟨-,B⟩:=Eb s K;simp_all
end
def BW(r:QE Next)(g':Gr)(st' sm':Value)(es:Array Event)(bs:List (Nat×Bool))(h:X0 P ζ cs r=.go g' st' sm' es bs) :
  ∃x e,r=.ok x st' sm' e bs/\∀z w,X0 P ζ cs (.ok x z w e bs)=.go g' z w es bs:=by
 cases r with
 |ok n st sm e f=>
  simp only[X0]at h ⊢;split at h
  .cases h
  .cases n <;> simp only[SE.go.injEq,reduceCtorEq]at h
   case spawn d=>grind[PH,V2]
   all_goals(obtain⟨rfl,rfl,rfl,rfl,rfl⟩:=h;grind)
 |blocked st sm f=>grind[X0]
 |stuck=>cases h
def LI(r:QE Next)(g':Gr)(st' sm':Value)(es:Array Event)(bs:List (Nat×Bool))(h:HX P ζ ψ cs r=.go g' st' sm' es bs) :
  ∃x e,r=.ok x st' sm' e bs/\∀w f,HX P ζ ψ cs (.ok x w f e bs)=.go g' w f es bs:=by
 cases r with
 |ok n st sm e z=>
  simp only[HX]at h ⊢;cases n <;> simp only[SE.go.injEq,reduceCtorEq]at h
  all_goals(obtain⟨rfl,rfl,rfl,rfl,rfl⟩:=h;grind)
 |_=>cases h
def LC(r:QE Value)(g':Gr)(st' sm':Value)(es:Array Event)(bs:List (Nat×Bool))(h:G6 P m ζ cs r=.go g' st' sm' es bs) :
  ∃x e,r=.ok x st' sm' e bs/\∀w f,G6 P m ζ cs (.ok x w f e bs)=.go g' w f es bs:=by
 cases r with
 |ok v st sm e z=>
  simp only[G6,GW]at h ⊢;split at h
  .split at h
   .simp only[SE.go.injEq]at h;obtain⟨rfl,rfl,rfl,rfl,rfl⟩:=h;grind
   .simp only[SE.go.injEq]at h;obtain⟨rfl,rfl,rfl,rfl,rfl⟩:=h;grind
   .cases h
  .split at h
   .simp only[SE.go.injEq]at h;obtain⟨rfl,rfl,rfl,rfl,rfl⟩:=h;grind
   .cases h
 |_=>cases h
def Ae:Xt (Gz P H m ζ cs):=by
 unfold Gz;split
 .split
  .exact Xt.of (F:=HX P ζ _ cs) LI
  .exact .stuck
 .split
  .split
   .exact Xt.of (F:=G6 P m ζ cs) LC
   .exact .stuck
  .split
   .split
    .intro st sm g' st' sm' es bs h _;simp_all
    .exact .stuck
   .exact .stuck
  .exact .stuck
def Ug:Xt (Q5 P H m g):=by
 obtain⟨fr,cs,status,dying,offers⟩:=g;unfold Q5;cases status <;> try exact .stuck
 cases dying with
 |some d=>exact .stuck
 |none=>
  simp only;cases fr.mode with
  |run=>
   unfold GN;simp only;split
   .split <;> first|exact .still|exact .stuck
   .split <;> first|exact .still|exact .stuck
   .exact .still
   .exact .still
   .exact .still
   .exact .still
   .exact .still
   .split <;> first|exact .still|exact .stuck
   .exact .still
   .exact .still
   .exact .still
   .exact .still
   .split <;> first|exact .still|exact .stuck
   .exact .still
   .exact .still
   .split
    .split
     .split
      .exact Xt.of (F:=X0 P fr cs) BW
      .exact .stuck
     .exact .still
    .exact .stuck
   .exact .stuck
  |_=>exact Ae
def SE.get(d:Gr):SE->Gr
 |.go g _ _ _ _=>g
 |_=>d
def Zp(h:Q5 P H m g v sm=.go Q st' sm' es γ):g.status=.running:=by
 grind[Q5]
variable{ν:Qa Tk}{d:Nat}{mu:Option ZL}{lo:Nat×Nat}{X Y:QK Tk}
section
open Go.Conc (QuitsD)
def Jh(c wt:Nat):Value:=.int .u64 ((c*4294967296+wt:Nat):Int)
def Zx(s:Nat):Value:=.int .u32 (s:Int)
def Wj(m:Mark):Event:=⟨.mark m,false,true⟩
def QA(b o:Nat):Event:=⟨.cell ⟨b,o,none⟩,false,true⟩
def QD(b o:Nat):Event:=⟨.cell ⟨b,o,none⟩,true,true⟩
def Js(b:Nat)(bs:List (Nat×Bool)):Prop:=∀y∈bs,y.1=b
def Qa.at(U:Qa Tk)(d:Nat)(p:Ph):Qa Tk:={ U with tok:=⟨d,p,U.tok.mu⟩ }
def Qa.at_self(h:ν.tok=⟨d,p,mu⟩):ν.at d p=ν:=by
 obtain⟨I,M,tok⟩:=ν;simp only at h;subst h;rfl
def QB(s:Nat):Value:=.int .i32 (s:Int)
def Qa.lk(U:Qa Tk)(d b:Nat)(D:Spec)(x:ZA)(s:Nat)(me:LP)(lo:Nat×Nat):Qa Tk:={ U with tok:=⟨d,.wrk b D,some (.lok x s me lo)⟩ }
def Qa.lk_self{x:ZA}(h:ν.tok=⟨d,.wrk b D,some (.lok x s me lo)⟩):ν.lk d b D x s me lo=ν:=by
 obtain⟨I,M,tok⟩:=ν;simp only at h;subst h;rfl
def HW(m:Nat)(e:Event):Prop:=Event.mute e=true\/∃o wr,o<2/\e=⟨.cell ⟨m,o,none⟩,wr,true⟩
def V5(N:Nat)(mu e f:Option ZL):Prop:=(e=mu/\f=none)\/∃x u s,mu=some (.par x u)/\u s=false/\s<N/\e=some (.par x (Q9 u s true))/\f=some (.lok x s .idle (0,0))
def Tl(P:Program)(t:TypeId)(N b:Nat):Nat->Nat->Ph->Gr->Prop
 |0,_,_,_=>False
 |n+1,d,p,g=>g.status=.running /\
  ((∃g' es bs,(∀e∈es,Event.mute e=true)/\Js b bs/\(∀st sm,Q5 P t false g st sm=.go g' st sm es bs)/\Tl P t N b n (deafBehind d es) p g') \/
   (p=.rel b/\d=1/\∀c wt,1<=c->c<=N->wt<=1->∃g' bs,Js b bs/\Q5 P t false g (Jh c wt) (Zx 0)=.go g' (Jh (c-1) wt) (Zx 0) #[QA b 0,QD b 0] bs /\
    (if c=1/\wt=1 then Tl P t N b n 1 (.lst b 0) g' else QuitsD P n 1 g')) \/
   (p=.lst b 0/\d=1/\∃g' bs,Js b bs/\Q5 P t false g (Jh 0 1) (Zx 0)=.go g' (Jh 0 1) (Zx 0) #[QA b 0] bs/\Tl P t N b n 1 (.lst b 1) g') \/
   (p=.lst b 1/\d=1/\∃g' bs,Js b bs/\Q5 P t false g (Jh 0 1) (Zx 0)=.go g' (Jh 0 0) (Zx 0) #[QD b 0] bs/\Tl P t N b n 1 (.lst b 2) g') \/
   (p=.lst b 2/\d=1/\mayWake P g=true/\∃g' bs,Js b bs/\Q5 P t false g (Jh 0 0) (Zx 0)=.go g' (Jh 0 0) (Zx 1) #[Wj .disable,QA b 1,QD b 1,Wj .enable] bs/\QuitsD P n 1 g'))
inductive QC(P:Program)(t:TypeId)(N:Nat)(X:QK Tk):QK Tk
 |quiet {a5 a3 i a0 bs g'} (hs:a3.status=.running) (hb:i.tok.ph.blk=some a0) (h:∀st sm,Q5 P t a5 a3 st sm=.go g' st sm #[] bs) (hbs:Js a0 bs) (k:X a5 g' i):QC P t N X a5 a3 i
 |dis {a7 a5 a3 i a0 a2 a8 k₀ bs g' a1} (hs:a3.status=.running) (ht:i.tok=⟨a1,.par a0 a2 a8 k₀,a7⟩) (h:∀st sm,Q5 P t a5 a3 st sm=.go g' st sm #[Wj .disable] bs) (hbs:Js a0 bs)
   (k:X a5 g' (i.at (a1+1) (.par a0 a2 a8 k₀))):QC P t N X a5 a3 i
 |ena {a7 a5 a3 i a0 a2 a8 k₀ bs g' a1} (hs:a3.status=.running) (ht:i.tok=⟨a1+1,.par a0 a2 a8 k₀,a7⟩) (h:∀st sm,Q5 P t a5 a3 st sm=.go g' st sm #[Wj .enable] bs) (hbs:Js a0 bs)
   (k:X a5 g' (i.at a1 (.par a0 a2 a8 k₀))):QC P t N X a5 a3 i
 |add {a7 a5 a3 i a0 a2} (hs:a3.status=.running) (ht:i.tok=⟨1,.par a0 a2 false .run,a7⟩) (hN:a2.length<N)
   (h:∀c,c<=a2.length->∃g' bs,Q5 P t a5 a3 (Jh c 0) (Zx 0)=.go g' (Jh (c+1) 0) (Zx 0) #[QA a0 0,QD a0 0] bs/\Js a0 bs/\X a5 g' (i.at 1 (.par a0 a2 true .run))):QC P t N X a5 a3 i
 |said {a7 a5 a3 i a0 a2 a8 k bs g' wr} (hs:a3.status=.running) (ht:i.tok=⟨1,.par a0 a2 a8 k,a7⟩)
   (h:∀st sm,Q5 P t a5 a3 st sm=.go g' st sm #[Wj (bif wr then .write ⟨a0,1,none⟩else .read ⟨a0,1,none⟩)] bs) (hbs:Js a0 bs) (k:X a5 g' i):QC P t N X a5 a3 i
 |look {a7 a5 a3 i a0 a2 k₀ b0} (hs:a3.status=.running) (ht:i.tok=⟨1,.par a0 a2 false k₀,a7⟩) (hk:X9 a2 b0 k₀)
   (h:∀c,c<=b0->∃g' bs,Js a0 bs /\
    ((Q5 P t a5 a3 (Jh c 0) (Zx 0)=.go g' (Jh c 0) (Zx 0) #[QA a0 0] bs/\(X a5 g' (i.at 1 (.par a0 a2 false (.seen c)))\/(c=0/\X a5 g' (i.at 1 (.par a0 a2 false .up))))) \/
     (1<=c/\Q5 P t a5 a3 (Jh c 0) (Zx 0)=.go g' (Jh c 1) (Zx 0) #[QA a0 0,QD a0 0] bs/\X a5 g' (i.at 1 (.par a0 a2 false .wait))))):QC P t N X a5 a3 i
 |sema {a7 a5 a3 i a0 a2} (hs:a3.status=.running) (ho:a3.offers=none) (ht:i.tok=⟨1,.par a0 a2 false .wait,a7⟩)
   (h0:∀st,∃bs,Js a0 bs/\Q5 P t a5 a3 st (Zx 0)=.blocked { a3 with status:=.blocked } st (Zx 0) bs)
   (h1:∃g' bs,Js a0 bs/\Q5 P t a5 a3 (Jh 0 0) (Zx 1)=.go g' (Jh 0 0) (Zx 0) #[Wj .disable,QA a0 1,QD a0 1,Wj .enable] bs/\X a5 g' (i.at 1 (.par a0 a2 false .up))):QC P t N X a5 a3 i
 |look2 {a7 a5 a3 i a0 a2 bs g'} (hs:a3.status=.running) (ht:i.tok=⟨1,.par a0 a2 false .up,a7⟩) (hbs:Js a0 bs)
   (h:Q5 P t a5 a3 (Jh 0 0) (Zx 0)=.go g' (Jh 0 0) (Zx 0) #[QA a0 0] bs) (k:X a5 g' i):QC P t N X a5 a3 i
 |acq {a5 a3 i a0 a2 bs g'} (hs:a3.status=.running) (ht:i.tok=⟨0,.par a0 a2 false .up,none⟩) (hbs:Js a0 bs)
   (h:∀st sm,Q5 P t a5 a3 st sm=.go g' st sm #[Wj (.acquire ⟨a0,0,none⟩)] bs) (k:∀Ms,XL a2 Ms->X a5 g' ((i.with Ms.flatten).at 0 .out)):QC P t N X a5 a3 i
 |acqM {a5 a3 i a0 a2 bs g' x b0} (hs:a3.status=.running) (ht:i.tok=⟨0,.par a0 a2 false .up,some (.par x b0)⟩) (hbs:Js a0 bs)
   (h:∀st sm,Q5 P t a5 a3 st sm=.go g' st sm #[Wj (.acquire ⟨a0,0,none⟩)] bs) (k:∀Ms M,XL a2 Ms->x.sp b0 M->X a5 g' { i with M:=(i.M++Ms.flatten)++M,tok:=⟨0,.out,none⟩ }):QC P t N X a5 a3 i
 |make {a5 a3 i a0 M₁ M₂} (ht:i.tok=⟨0,.out,none⟩) (hM:i.M=M₁++.obj a0 (.cells #[Jh 0 0,Zx 0] t (0,0))::M₂) (k:X a5 a3 { i with M:=M₁++M₂,tok:=⟨0,.par a0 [] false .run,none⟩ }):QC P t N X a5 a3 i
 |makeM {a5 a3 i a0 x M₁ M₂} (ht:i.tok=⟨0,.par a0 [] false .run,none⟩) (hM:i.M=.obj x.m (.cells #[QB 0,Zx 0] x.t (0,0))::(M₁++M₂)) (hD:x.sp (λ _=>false) M₁)
   (k:X a5 a3 { i with M:=M₂,tok:=⟨0,.par a0 [] false .run,some (.par x λ _=>false)⟩ }):QC P t N X a5 a3 i
 |mu {a5 a3 i a0 a x a9 a6 a4 a1} (hs:a3.status=.running) (ht:i.tok=⟨a1,.wrk a0 a,some (.lok x a9 a6 a4)⟩)
   (h:∀z p,a4.1<=p->(a4.1=p->a4.2=z.st)->p<=PB N->a6.fits N z->∃g' bs es me' z' d' lo',Js x.m bs/\Q5 P x.t a5 a3 (QB z.st) (Zx z.f)=.go g' (QB z'.st) (Zx z'.f) es bs/\Tz a6 z me' z'/\lo'.1<=p/\(lo'.1=p->lo'.2=z'.st)/\me'.rels=a6.rels /\
    me'.isOwn=a6.isOwn/\(∀e∈es,HW x.m e)/\deafBehind a1 es=d'/\(z'.f=z.f\/z'.f=0\/mayWake P a3=true)/\X a5 g' (i.lk d' a0 a x a9 me' lo')):QC P t N X a5 a3 i
 |mblk {a5 a3 i a0 a x a9 c a4 a1} (hs:a3.status=.running) (ho:a3.offers=none) (ht:i.tok=⟨a1,.wrk a0 a,some (.lok x a9 (.wai c) a4)⟩)
   (h0:∀st,∃bs,Js x.m bs/\Q5 P x.t a5 a3 st (Zx 0)=.blocked { a3 with status:=.blocked } st (Zx 0) bs)
   (h1:∃g' bs,Js x.m bs/\(∀st,Q5 P x.t a5 a3 (QB st) (Zx 1)=.go g' (QB st) (Zx 0) #[Wj .disable,QA x.m 1,QD x.m 1,Wj .enable] bs)/\X a5 g' (i.lk a1 a0 a x a9 (.wok c) a4)/\X a5 g' (i.lk a1 a0 a x a9 (.wos c 0) a4)):QC P t N X a5 a3 i
 |macq {a5 a3 i a0 a x a9 a4 bs g'} (hs:a3.status=.running) (ht:i.tok=⟨0,.wrk a0 a,some (.lok x a9 .got a4)⟩) (hbs:Js x.m bs)
   (h:∀st sm,Q5 P x.t a5 a3 st sm=.go g' st sm #[Wj (.acquire ⟨x.m,0,none⟩)] bs)
   (k:∀R M,R a9=false->x.sp R M->X a5 g' { i with M:=i.M++M,tok:=⟨0,.wrk a0 a,some (.lok x a9 (.own R) a4)⟩ }):QC P t N X a5 a3 i
 |mrel {a5 a3 i a0 a x a9 a4 R bs g' M₁ M₂} (hs:a3.status=.running) (ht:i.tok=⟨0,.wrk a0 a,some (.lok x a9 (.own R) a4)⟩) (hbs:Js x.m bs) (hM:i.M=M₁++M₂) (hD:x.sp (Q9 R a9 true) M₁)
   (h:∀st sm,Q5 P x.t a5 a3 st sm=.go g' st sm #[Wj (.releaseMerge ⟨x.m,0,none⟩)] bs)
   (k:X a5 g' { i with M:=M₂,tok:=⟨0,.wrk a0 a,some (.lok x a9 .rls a4)⟩ }):QC P t N X a5 a3 i
 |go {a7 mu' mc a5 a3 i a0 a2 a o Uc g' c} (hs:a3.status=.running) (ht:i.tok=⟨0,.par a0 a2 true .run,a7⟩) (h:Q5 P t a5 a3 undef undef=.spawn g' c #[]) (hf:HV i o Uc)
   (hp:o.tok=⟨0,.par a0 (a::a2) false .run,mu'⟩) (hc:Uc.tok=⟨0,.wrk a0 a,mc⟩) (hmu:V5 N a7 mu' mc) (k:X a5 g' o) (k':X false c Uc):QC P t N X a5 a3 i
 |lay {a7 a5 a3 i a0 a bs g'} (hs:a3.status=.running) (ht:i.tok=⟨0,.wrk a0 a,a7⟩) (hmu:a7=none\/∃x a9 a4,a7=some (.lok x a9 .fin a4)) (hD:a i.M) (hbs:Js a0 bs)
   (h:∀st sm,Q5 P t a5 a3 st sm=.go g' st sm #[Wj (.releaseMerge ⟨a0,0,none⟩)] bs) (k:∃n,Tl P t N a0 n 0 (.rel a0) g'):QC P t N X a5 a3 i
def QC.mono{t:TypeId}(e:∀m g ν,X m g ν->Y m g ν)(h:QC P t N X m g ν):QC P t N Y m g ν:=by
 cases h with
 |quiet B T h f k=>exact .quiet B T h f (e _ _ _ k)
 |dis B w h f k=>exact .dis B w h f (e _ _ _ k)
 |ena B w h f k=>exact .ena B w h f (e _ _ _ k)
 |add B w S h=>exact .add B w S λ c I=>let ⟨g',bs,a,b,k⟩:=h c I;⟨g',bs,a,b,e _ _ _ k⟩
 |said B w h f k=>exact .said B w h f (e _ _ _ k)
 |look B w W h=>exact .look B w W λ c I=>let ⟨g',bs,a,k⟩:=h c I;⟨g',bs,a,k.imp (λ x=>⟨x.1,x.2.imp (e _ _ _) λ y=>⟨y.1,e _ _ _ y.2⟩⟩) λ x=>⟨x.1,x.2.1,e _ _ _ x.2.2⟩⟩
 |sema B Q w L G=>exact .sema B Q w L (let ⟨g',bs,a,b,k⟩:=G;⟨g',bs,a,b,e _ _ _ k⟩)
 |look2 B w f h k=>exact .look2 B w f h (e _ _ _ k)
 |acq B w f h k=>exact .acq B w f h λ K E=>e _ _ _ (k K E)
 |acqM B w f h k=>exact .acqM B w f h λ K M E hx=>e _ _ _ (k K M E hx)
 |makeM w E H k=>exact .makeM w E H (e _ _ _ k)
 |mu B w h=>exact .mu B w λ z p q1 q2 q3 q4=>let ⟨g',bs,es,me',z',d',lo',a0,a1,a2,a3,a4,a5,a6,a7,a8,a9,k⟩:=h z p q1 q2 q3 q4;⟨g',bs,es,me',z',d',lo',a0,a1,a2,a3,a4,a5,a6,a7,a8,a9,e _ _ _ k⟩
 |mblk B Q w L G=>exact .mblk B Q w L (let ⟨g',bs,a,b,k,k'⟩:=G;⟨g',bs,a,b,e _ _ _ k,e _ _ _ k'⟩)
 |macq B w f h k=>exact .macq B w f h λ v M G E=>e _ _ _ (k v M G E)
 |mrel B w f E H h k=>exact .mrel B w f E H h (e _ _ _ k)
 |make w E k=>exact .make w E (e _ _ _ k)
 |go B w h V Z I F k k'=>exact .go B w h V Z I F (e _ _ _ k) (e _ _ _ k')
 |lay B w F H f h k=>exact .lay B w F H f h k
def Zj(P:Program)(t:TypeId)(N:Nat):Sys P Tk:=⟨QC P t N,λ h _ _ _ k=>k.mono h⟩
end
variable{rk rk':Nat->Option Tr}{ξ f:Tr}{Stop:QK Tk}{gs δ:Array Gr}{V V':Hd->Qa Tk}{q q':Nat->Nat}{A W' R':Hd->Loc->Prop}{fn:FuncId}{pos:String}{ω:Event}
section
open Go.Conc
def J_(n:Nat)(rk:Nat->Option Tr):List Tr:=(range n).filterMap rk
def Pc(n:Nat)(rk:Nat->Option Tr):J_ (n+1) rk=J_ n rk++(rk n).toList:=by
 simp only[J_,range_succ,filterMap_append];cases h:rk n <;> simp[h]
def SF(h:∀i,i<n->rk i=rk' i):J_ n rk=J_ n rk':=by
 induction n with
 |zero=>rfl
 |succ n e=>rw[Pc,Pc,e λ i f=>h i O1,h n O1]
def Y0(rk:Nat->Option Tr)(x:Option Tr)(w:b<n):(J_ n (Q9 rk b x)).Perm (x.toList++J_ n (Q9 rk b none)):=by
 induction n with
 |zero=>omega
 |succ n f=>
  rw[Pc,Pc];by_cases e:b=n
  .subst e;rw[Qf,Qf,SF (rk:=Q9 rk b x) (rk':=Q9 rk b none) λ j z=>by rw[Qv _ _ O1,Qv _ _ O1]];grind[Option.toList_none,perm_append_comm]
  .rw[Qv _ _ O1,Qv _ _ O1];have:=(f O1).append_right (rk n).toList
   simp_all
def El(f:b<n)(w:rk b=some r):(J_ n rk).Perm (r::J_ n (Q9 rk b none)):=by
 have:=Y0 rk (some r) f;have e:Q9 rk b (some r)=rk:=by funext j;by_cases e:j=b <;> simp[Q9,e,w]
 rwa [e]at this
def MG{x:Option Tr}(e:b<n)(z:rk b=some r)(B:∀f,x=some f->Tr.Sub f r):ZU (J_ n (Q9 rk b x)) (J_ n rk):=
 ⟨r,J_ n (Q9 rk b none),x.toList,El e z,Y0 rk x e,λ c w=>B c (by simp_all)⟩
def MH(w:b<n)(E:rk b=some r)(z:Tr.Sub ξ r)(B:Tr.Sub f r):ZU (J_ (n+1) (Q9 (Q9 rk b (some ξ)) n (some f))) (J_ n rk):=by
 refine⟨r,J_ n (Q9 rk b none),[f,ξ],El w E,?_,by simp[z,B]⟩;rw[Pc,Qf,SF (rk:=Q9 (Q9 rk b (some ξ)) n (some f)) (rk':=Q9 rk b (some ξ)) λ j F=>Qv _ _ O1];have:=Y0 rk (some ξ) w;simp only[Option.toList_some]at this ⊢;refine(perm_append_comm).trans ?_;simp_all
def ZS(p:Ph):Prop:=∃b D,p=.wrk b D
def Z5(V:Hd->Qa Tk)(i:Nat):Ph:=if i=0 then .out else(V (.run i)).tok.ph
def ZN:Qa Tk:=Qa.bare ⟨0,.out,none⟩
def Q8(V:Hd->Qa Tk)(i:Nat):Option ZL:=(V (.run i)).tok.mu
def J0(V:Hd->Qa Tk):Option Nat:=ZL.mb (Q8 V 0)
structure WP(N:Nat)(gs:Array Gr)(w:World)(V:Hd->Qa Tk)(x:ZA)(u:Nat->Bool)(lp:Nat->LP)(z:LZ):Prop where
 sh:Sh x.m x.t (QB z.st) (Zx z.f) w
 inv:JH N lp z
 tk:∀i x' s me lo,Q8 V i=some (.lok x' s me lo)->x'=x/\me=lp s/\s<N/\(lo.1<=ZT N lp s/\(lo.1=ZT N lp s->lo.2=z.st))/\u s=true
 one:∀i j s x_1 m_1 l₁ x_2 m_2 l₂,Q8 V i=some (.lok x_1 s m_1 l₁)->Q8 V j=some (.lok x_2 s m_2 l₂)->i=j
 who:∀s,u s=true->lp s=.fin\/∃i me lo,Q8 V i=some (.lok x s me lo)
 idle:∀s,u s=false->lp s=.idle
 dep:LT N lp LP.ow≠0->V .lck=ZN
 dep':LT N lp LP.ow=0->x.dep lp (V .lck).M
 slp:∀i x' s me lo g,Q8 V i=some (.lok x' s me lo)->gs[i]?=some g->g.status≠.running->z.f=0
 ownR:∀s R,s<N->lp s=.own R->R=λ j=>(lp j).rels
def JN(N:Nat)(gs:Array Gr)(w:World)(V:Hd->Qa Tk):Prop:=
 (∀i x u,i≠0->Q8 V i≠some (.par x u))/\(V .lck).I=(λ _=>none) /\
 match Q8 V 0 with
 |none=>(∀i,Q8 V i=none)/\V .lck=ZN
 |some (.par x u)=>(∀j,QJ x.m (V j))/\∃lp z,WP N gs w V x u lp z
 |some (.lok ..)=>False
def WP.at{N:Nat}{gs E:Array Gr}{w w':World}{V V':Hd->Qa Tk}{x:ZA}{u:Nat->Bool}{lp:Nat->LP}{z:LZ}(h:WP N gs w V x u lp z)(F:∀i,Q8 V' i=Q8 V i)(P:V' .lck=V .lck)
  (H:Sh x.m x.t (QB z.st) (Zx z.f) w') (G:∀i B s me lo g',Q8 V i=some (.lok B s me lo)->E[i]?=some g'->g'.status≠.running->∃g,gs[i]?=some g/\g.status≠.running):WP N E w' V' x u lp z:=by
 refine⟨H,h.inv,λ i B s me lo e=>h.tk i B s me lo (by rw[<- F];exact e),λ i j s L I l₁ M K l₂ e e'=>h.one i j s L I l₁ M K l₂ (by rw[<- F];exact e) (by rw[<- F];exact e'),λ s W=>(h.who s W).imp id λ⟨i,me,lo,e⟩=>⟨i,me,lo,by rw[F];exact e⟩,h.idle,λ e=>by rw[P];exact h.dep e,λ e=>by rw[P];exact h.dep' e,λ i B s me lo g' e T U=>?_,h.ownR⟩;rw[F]at e;obtain⟨g,Q,S⟩:=G i B s me lo g' e T U;exact h.slp i B s me lo g e Q S
def JN.at{N:Nat}{gs B:Array Gr}{w w':World}{V V':Hd->Qa Tk}(h:JN N gs w V)(F:∀i,Q8 V' i=Q8 V i)(I:V' .lck=V .lck)(E:∀m,(∀j,QJ m (V j))->m<w.heap.size->∀j,QJ m (V' j))
  (K:∀m t st sm,(∀j,QJ m (V j))->Sh m t (QB st) (Zx sm) w->Sh m t (QB st) (Zx sm) w')
  (H:∀i S s me lo g',Q8 V i=some (.lok S s me lo)->B[i]?=some g'->g'.status≠.running->∃g,gs[i]?=some g/\g.status≠.running):JN N B w' V':=by
 obtain⟨M,P,f⟩:=h;refine⟨λ i x u Q=>by simp_all,by rw[I];exact P,?_⟩;rw[F];cases e:Q8 V 0 with
 |none=>simp_all
 |some mu=>
  rw[e]at f;cases mu with
  |lok=>exact f
  |par x u=>
   obtain⟨L,lp,z,G⟩:=f;exact⟨E _ L (Array.getElem?_eq_some_iff.1 G.sh).1,lp,z,G.at F I (K _ _ _ _ L G.sh) H⟩
def Ou(i:Nat)(tk:Tk):Prop:=(i=0/\∃b ds mu,tk=⟨1,.par b ds false .wait,mu⟩)\/∃d b D x s c lo,tk=⟨d,.wrk b D,some (.lok x s (.wai c) lo)⟩
def QI(t:TypeId)(N:Nat)(gs:Array Gr)(w:World)(V:Hd->Qa Tk)(rel:Nat->Option Nat):Prop:=
 match(V (.run 0)).tok.ph with
 |.out=>(∀i,i≠0->(V (.run i)).tok.ph=.out)/\∀i,rel i=none
 |.par b ds pend k=>(∀j,QJ b (V j))/\∃W c wt s,Sh b t (Jh c wt) (Zx s) w/\GI N b ds pend k (Z5 V) rel (λ i=>(V (.dep i)).M) W c wt s/\(∀g,gs[0]?=some g->g.status≠.running->s=0)
 |_=>False
structure MI(P:Program)(t:TypeId)(N:Nat)(Stop:QK Tk)(ex:Option Nat)(gs:Array Gr)(w:World)(tr:Trace)(V:Hd->Qa Tk)(rk:Nat->Option Tr)(rel:Nat->Option Nat)(q:Nat->Nat):Prop where
 live:∀i r,ex≠some i->rk i=some r->∃g,JR (Zj P t N) Stop r (i==0) g (V (.run i)) /\
  (gs[i]?=some g\/(gs[i]?=some { g with status:=.blocked }/\g.offers=none/\Ou i (V (.run i)).tok))
 root:rk 0≠none
 gone:∀i g,rk i=none->gs[i]?=some g->(V (.run i)).tok.ph=.out->QuitsD P (q i) (Deaf tr i) g
 tail:∀i,rk i=none->(V (.run i)).tok.ph≠.out->∃g b,gs[i]?=some g/\(V (.run 0)).tok.ph.blk=some b/\Tl P t N b (q i) (Deaf tr i) (V (.run i)).tok.ph g
 above:∀i,gs.size<=i->rk i=none/\Deaf tr i=0/\rel i=none
 bare:∀i,rk i=none->(V (.run i)).I=(λ _=>none)/\(V (.run i)).M=[]
 wk:∀i,i≠0->rk i≠none->ZS (V (.run i)).tok.ph
 wk':∀i,ZS (V (.run i)).tok.ph->rk i≠none
 deaf:∀i,rk i≠none->Deaf tr i=(V (.run i)).tok.d
 deps:∀i,rel i=none->V (.dep i)=ZN
 vi:VI V w
 ti:∃rm,TI (λ k=>(V k).canW) (λ k=>(V k).canR) rel (V (.run 0)).tok.ph.blk (J0 V) rm (λ i=>i=0\/(V (.run i)).tok.ph≠.out) (λ i=>ZS (V (.run i)).tok.ph) w.heap.size tr
 grp:QI t N gs w V rel
 mux:JN N gs w V
 bareM:∀i,rk i=none->Q8 V i=none
section
variable{t:TypeId}
def JR.running(f:∀m g U,Stop m g U->g.status=.running):∀{r:Tr}{m:Bool}{g:Gr}{U:Qa Tk},JR (Zj P t N) Stop r m g U->g.status=.running:=by
 intro r
 induction r using Tr.sub_wf.induction with
 |_ r B=>
  intro m g U h;obtain⟨E,_,h|h|h⟩:=h.step
  .exact f _ _ _ h
  .exact h.1
  .have h:QC P t N _ m g E:=h;cases h with
   |make G F k=>grind
   |makeM G F H k=>grind
   |quiet e|dis e|ena e|add e|said e|look e|sema e|look2 e|acq e|acqM e|go e|lay e|mu e|mblk e|macq e|mrel e=>exact e
end
def Wh(e:Z.status=.running):woken P g Q w' Z=Z:=by
 unfold woken;split
 .simp[Goroutine.again,e]
 .rfl
def Ii{g':Gr}(f:Q.status=.running)(e:Q.offers=none):woken P g g' w' { Q with status:=.blocked }=Q\/woken P g g' w' { Q with status:=.blocked }={ Q with status:=.blocked }:=by
 unfold woken;split
 .exact .inl (again_blocked f e w')
 .exact .inr rfl
def behind(P:Program)(gs:Array Gr)(i:Nat)(g g':Gr)(w':World):Array Gr:=(gs.map (woken P g g' w')).setIfInBounds i g'
def Wp(e:gs[b]?=some g):(behind P gs b g Q w')[b]?=some Q:=by
 grind[behind]
def J9(h:j≠b):(behind P gs b g Q w')[j]?=(gs[j]?).map (woken P g Q w'):=by
 simp_all[behind,Array.getElem?_setIfInBounds_ne,Ne.symm,Array.getElem?_map]
def Jq:(behind P gs b g Q w').size=gs.size:=by simp[behind]
def Tl.running{b:Nat}:∀{n d:Nat}{p:Ph}{g:Gr},Tl P H N b n d p g->g.status=.running
 |0,_,_,_,h=>h.elim
 |_+1,_,_,_,h=>h.1
section
variable{t:TypeId}
def MI.go(h:MI P t N Stop (some s) gs w tr V rk rel q)(S:∀m g U,Stop m g U->g.status=.running){g':Gr}
  (hi:gs[s]?=some g) (G:∀j,j≠s->V' (.run j)=V (.run j)) (E:∀j,j≠s->rk' j=rk j) (hq:∀j,j≠s->q' j=q j) (af:∀j,j≠s->rel' j=rel j\/rel' j=none) (X:rk' 0≠none)
  (B:s≠0\/(V' (.run 0)).tok.ph.blk=(V (.run 0)).tok.ph.blk\/∀j,j≠0->(V (.run j)).tok.ph=.out)
  (F:∀r,rk' s=some r->JR (Zj P t N) Stop r (s==0) g' (V' (.run s))/\deafBehind (Deaf tr s) es=(V' (.run s)).tok.d/\(s≠0->ZS (V' (.run s)).tok.ph))
  (f:rk' s=none->s≠0/\(V' (.run s)).I=(λ _=>none)/\(V' (.run s)).M=[]/\¬ZS (V' (.run s)).tok.ph /\
   (((V' (.run s)).tok.ph=.out/\QuitsD P (q' s) (deafBehind (Deaf tr s) es) g')\/((V' (.run s)).tok.ph≠.out/\∃b,(V (.run 0)).tok.ph.blk=some b/\Tl P t N b (q' s) (deafBehind (Deaf tr s) es) (V' (.run s)).tok.ph g')))
  (T:∀j,rel' j=none->V' (.dep j)=ZN) (ah:VI V' w')
  (ag:∃rm,TI (λ k=>(V' k).canW) (λ k=>(V' k).canR) rel' (V' (.run 0)).tok.ph.blk (J0 V') rm (λ s=>s=0\/(V' (.run s)).tok.ph≠.out) (λ s=>ZS (V' (.run s)).tok.ph) w'.heap.size (tr++MemOp.ofEvents s g.frame.fn g.frame.place es))
  (aa:QI t N (behind P gs s g g' w') w' V' rel') (ab:JN N (behind P gs s g g' w') w' V') (ad:rk' s=none->Q8 V' s=none) :
  MI P t N Stop none (behind P gs s g g' w') w' (tr++MemOp.ofEvents s g.frame.fn g.frame.place es) V' rk' rel' q':=by
 have ai:=(Array.getElem?_eq_some_iff.1 hi).1
 have hD:∀j,j≠s->Deaf (tr++MemOp.ofEvents s g.frame.fn g.frame.place es) j=Deaf tr j:=by
  intro j H;refine Deaf_other tr (Ne.symm H) _ ?_;intro op ae;obtain⟨e,_,rfl⟩:=Go.Conc.mem_ofEvents ae;rfl
 have Q:Deaf (tr++MemOp.ofEvents s g.frame.fn g.frame.place es) s=deafBehind (Deaf tr s) es:=Deaf_own ..;refine⟨?_,X,?_,?_,?_,?_,?_,?_,?_,T,ah,ag,aa,ab,λ j H=>?_⟩
 .intro j r _ z;by_cases e:j=s
  .subst e;exact⟨g',(F r z).1,.inl (Wp hi)⟩
  .rw[E j e]at z;obtain⟨ac,hJ,Z⟩:=h.live j r (λ e'=>e (Option.some.inj e').symm) z;have K:=hJ.running S;rw[G j e];refine⟨ac,hJ,?_⟩;rw[J9 e];rcases Z with Z|⟨Z,ho,Y⟩
   .exact .inl (by rw[Z,Option.map_some,Wh K])
   .rw[Z,Option.map_some];rcases Ii (P:=P) (g:=g) (g':=g') (w':=w') K ho with e|e
    .exact .inl (by rw[e])
    simp_all
 .intro j x z hx hp;by_cases e:j=s
  .subst e;rw[Wp hi]at hx;simp_all
  .rw[J9 e]at hx;obtain⟨y,hy,rfl⟩:=Option.map_eq_some_iff.1 hx;rw[E j e]at z;rw[G j e]at hp;have:=h.gone j y z hy hp;grind[woken_quitsD]
 .intro j z hp;by_cases e:j=s
  .subst e;rcases(f z).2.2.2.2 with⟨L,_⟩|⟨_,b,Y,L⟩
   .exact absurd L hp
   .refine⟨g',b,Wp hi,?_,by rw[Q];exact L⟩;grind
  .rw[E j e]at z;rw[G j e]at hp;obtain⟨y,b,hy,Y,ht⟩:=h.tail j z hp;refine⟨y,b,?_,?_,?_⟩
   .rw[J9 e,hy,Option.map_some,Wh ht.running]
   .by_cases e0:s=0
    .subst e0;rcases B with B|B|B
     .exact absurd rfl B
     .rw[B];exact Y
     .exact absurd (B j e) hp
    .rw[G 0 (Ne.symm e0)];exact Y
   simp_all
 .intro j H;rw[Jq]at H;have e:j≠s:=O1
  rw[E j e,hD j e];obtain⟨a1,a2,a3⟩:=h.above j H;grind
 .intro j z;by_cases e:j=s
  .simp_all
  .rw[G j e];rw[E j e]at z;exact h.bare j z
 .intro j h0 z;by_cases e:j=s
  .subst e;obtain⟨r,W⟩:=Option.ne_none_iff_exists'.1 z;simp_all
  .rw[G j e];rw[E j e]at z;exact h.wk j h0 z
 .intro j hw;by_cases e:j=s
  .simp_all
  .rw[G j e]at hw;rw[E j e];exact h.wk' j hw
 .intro j z;by_cases e:j=s
  .subst e;obtain⟨r,W⟩:=Option.ne_none_iff_exists'.1 z;simp_all
  .rw[G j e,hD j e];rw[E j e]at z;exact h.deaf j z
 .by_cases e:j=s
  .simp_all
  .unfold Q8;rw[G j e];rw[E j e]at H;exact h.bareM j H
end
def Om{f f':Nat->Nat}{i:Nat}:∀{n:Nat},i<n->(∀j,j<n->j≠i->f' j=f j)->f' i<f i->QN n f'<QN n f
 |0,w,_,_=>O1
 |n+1,w,h,B=>by
  by_cases e:i=n
  .subst e;simp only[QN];rw[Pn (n:=i) λ j z=>h j O1 O1];omega
  .have:=Om (n:=n) O1 (λ j z E=>h j O1 E) B;simp only[QN,h n O1 O1];omega
def left(rk:Nat->Option Tr)(q:Nat->Nat)(i:Nat):Nat:=if(rk i).isSome then 0 else q i
def HB(gs:Array Gr)(i:Nat):Nat:=if(gs[i]?).any (·.status==.running)then 1 else 0
def CM(gs:Array Gr)(i:Nat):HB gs i<=1:=by unfold HB;split <;> omega
def Kx(gs:Array Gr):Nat:=QN gs.size (HB gs)
def Mf(gs:Array Gr):Kx gs<=gs.size:=PI (CM gs) _
def QF(gs:Array Gr)(rk:Nat->Option Tr)(q:Nat->Nat):List Tr×Nat:=(J_ gs.size rk,(gs.size+1)*QN gs.size (left rk q)+Kx gs)
def D7{i:Nat}(H:δ.size=gs.size)(z:i<gs.size)(G:rk i=none)(F:∀j,j≠i->q' j=q j)(E:q' i<q i):JF (QF δ rk q') (QF gs rk q):=by
 unfold QF;rw[H];refine JF.num ?_;have f:QN gs.size (left rk q')<QN gs.size (left rk q):=Om z (λ j _ B=>by simp[left,F j B]) (by simp[left,G,E]);have I:=Mf δ;have w:=Nat.mul_le_mul_left (gs.size+1) f;grind
def Cy(w:gs[b]?=some g)(E:g.status=.running)(z:Q.status=.blocked):JF (QF (gs.setIfInBounds b Q) rk q) (QF gs rk q):=by
 have e:=(Array.getElem?_eq_some_iff.1 w).1;unfold QF;have f:(gs.setIfInBounds b Q).size=gs.size:=S1
 rw[f];refine JF.num (Nat.add_lt_add_left ?_ _);unfold Kx;rw[f];refine Om e (λ j _ B=>?_) ?_
 .unfold HB;rw[Array.getElem?_setIfInBounds_ne (Ne.symm B)]
 grind[HB]
section
variable{R:Hd->Loc->Prop}{blk:Option Nat}{mb:Option Nat}
def TI.events(h:TI A R rel blk mb rm act wk size tr)(I:size<=size')(z:∀e∈es,(MemAct.ofEvent e).low size')(H:∀e∈es,∀a,MemAct.ofEvent e≠.mark (.release a))
  (E:∀j a,touchAt tr j=some a->∀e∈es,∀b,(MemAct.ofEvent e).touch?=some b->∀said,a.conflicts said b->Knows tr N j)
  (L:∀k l,W' k l->A k l\/(k=.run N/\Loc.newN size l)) (K:∀k l,R' k l->R k l\/(k=.run N/\Loc.newN size l))
  (B:∀e∈es,∀a,(MemAct.ofEvent e).touch?=some a->∀k,k≠.run N->¬A k a.loc/\(a.write=true->¬R k a.loc))
  (G:∀e∈es,∀a,(MemAct.ofEvent e).touch?=some a->JG blk a.loc->a.kind≠.plain/\(a.kind=.said->N=0)) (F:∀e∈es,∀a,(MemAct.ofEvent e).touch?=some a->JG mb a.loc->a.kind=.atomic)
  (w:N=0\/wk N\/∀j,tr.size<=j->¬(tr++MemOp.ofEvents N fn pos es).counts j) :
  TI W' R' rel blk mb rm act wk size' (tr++MemOp.ofEvents N fn pos es):=by
 refine h.step I ?_ ?_ ?_ ?_ L K ?_ ?_ ?_ w
 .intro op hop;obtain⟨e,_,rfl⟩:=Go.Conc.mem_ofEvents hop;rfl
 .intro op hop;obtain⟨e,f,rfl⟩:=Go.Conc.mem_ofEvents hop;exact z e f
 .intro op hop;obtain⟨e,f,rfl⟩:=Go.Conc.mem_ofEvents hop;exact H e f
 .intro j a ha op hop;obtain⟨e,f,rfl⟩:=Go.Conc.mem_ofEvents hop;exact E j a ha e f
 .intro op hop;obtain⟨e,f,rfl⟩:=Go.Conc.mem_ofEvents hop;exact B e f
 .intro op hop;obtain⟨e,f,rfl⟩:=Go.Conc.mem_ofEvents hop;exact G e f
 .intro op hop;obtain⟨e,f,rfl⟩:=Go.Conc.mem_ofEvents hop;exact F e f
end
def Ov(e:Event):Prop:=(MemAct.ofEvent e).touch?=none/\(∀n,(MemAct.ofEvent e).low n)/\∀a,MemAct.ofEvent e≠.mark (.release a)
def Pg(h:ω.mute=true):Ov ω:=by
 obtain⟨loc,wr,f⟩:=ω;cases loc <;> simp[Event.mute]at h;rename_i m;cases m <;> simp at h <;> exact⟨rfl,λ _=>trivial,λ _ h=>by cases h⟩
section
variable{blk:Option Nat}{mb:Option Nat}
def TI.dumb(h:TI W' R' rel blk mb rm act wk size tr)(w:∀e∈es,Ov e):TI W' R' rel blk mb rm act wk size (tr++MemOp.ofEvents N fn pos es):=by
 refine h.events (Nat.le_refl _) (λ e h=>(w e h).2.1 _) (λ e h=>(w e h).2.2) (λ j a _ e h b E=>?_) (λ _ _=>.inl) (λ _ _=>.inl) (λ e h a f=>?_) (λ e h a f=>?_) (λ e h a f=>?_) ?_
 .rw[(w e h).1]at E;cases E
 .rw[(w e h).1]at f;cases f
 .rw[(w e h).1]at f;cases f
 .rw[(w e h).1]at f;cases f
 .refine .inr (.inr λ j I F=>?_);obtain⟨x,H,_⟩:=F;rcases Jn (t:=tr) H with⟨G,_⟩|⟨_,op,B,z,_⟩
  .omega
  .obtain⟨e,he',rfl⟩:=Go.Conc.mem_ofEvents B;rw[(w e he').1]at z;cases z
end
def KQ(h:WA ν w ω)(E:H5 w' ω):Ov ω \/
  ((∃x,(MemAct.ofEvent ω).touch?=some x/\x.kind=.plain/\x.loc=ω.loc/\(x.write=true->ν.canW ω.loc\/Loc.new w ω.loc)/\(ν.canR ω.loc\/Loc.new w ω.loc))/\(MemAct.ofEvent ω).low w'.heap.size/\∀a,MemAct.ofEvent ω≠.mark (.release a)):=by
 obtain⟨loc,wr,G⟩:=ω;cases loc with
 |cell a=>
  obtain⟨z,f⟩:=h;simp only at z f;subst z;refine .inr ⟨⟨_,rfl,rfl,rfl,λ B=>?_,?_⟩,E,λ _ h=>by cases h⟩
  .simp_all
  .cases wr
   .simpa using f
   .simp only[if_true]at f;exact f.imp Zw id
 |obj b=>
  obtain⟨z,f⟩:=h;simp only at z f;subst z;have F:MemAct.ofEvent ⟨.obj b,wr,false⟩=.access ⟨.obj b,wr,false⟩:=by cases wr <;> rfl
  rw[F];refine .inr ⟨⟨_,rfl,rfl,rfl,λ B=>?_,?_⟩,E,λ _ h=>by cases h⟩
  .simp_all
  .cases wr
   .simpa using f
   .simp only[if_true]at f;exact f.imp Zw id
 |mark m=>
  have h:Mark.still m=true:=h;left;cases m <;> simp[Mark.still]at h <;> exact⟨rfl,λ _=>trivial,λ _ h=>by cases h⟩
 |output=>exact h.elim
 |goroutines=>exact h.elim
def KK(h:Loc.new w l):Loc.newN w.heap.size l:=by cases l <;> exact h
section
variable{blk:Option Nat}{mb:Option Nat}
def OM(h:TI (λ k=>(V k).canW) (λ k=>(V k).canR) rel blk mb rm act wk w.heap.size tr)(Q:VI V w)(hb:∀b,blk=some b->b<w.heap.size/\QJ b (V (.run s)))(hm:∀b,mb=some b->b<w.heap.size/\QJ b (V (.run s)))
  (B:∀e∈es,WA (V (.run s)) w e/\H5 w' e) (W:Z_ (V (.run s)) w w' ν) (hi:s=0\/wk s) :
  TI (λ k=>(Q7 V (.run s) ν k).canW) (λ k=>(Q7 V (.run s) ν k).canR) rel blk mb rm act wk w'.heap.size (tr++MemOp.ofEvents s fn pos es):=by
 have key:∀e∈es,∀x,(MemAct.ofEvent e).touch?=some x->x.kind=.plain/\(x.write=true->(V (.run s)).canW x.loc\/Loc.new w x.loc)/\((V (.run s)).canR x.loc\/Loc.new w x.loc):=by
  intro e z x M;rcases KQ (B e z).1 (B e z).2 with G|⟨⟨y,hy,N,E,f,h4⟩,_⟩
  .rw[G.1]at M;cases M
  .simp_all
 refine h.events W.size ?_ ?_ ?_ ?_ ?_ ?_ ?_ ?_ (hi.imp id .inl)
 .intro e z;rcases KQ (B e z).1 (B e z).2 with G|⟨_,G,_⟩
  .exact G.2.1 _
  .exact G
 .intro e z;rcases KQ (B e z).1 (B e z).2 with G|⟨_,_,G⟩
  .exact G.2.2
  .exact G
 .intro j a ha e z b hb' said hc;obtain⟨N,E,f⟩:=key e z b hb'
  have H:¬Loc.new w a.loc:=by
   obtain⟨x,M,Z⟩:=touch_of ha;exact λ P=>D6 (h.low x (Array.mem_of_getElem? M)) Z (KK P)
  obtain⟨U,_,Y,_⟩:=hc;rw[<- U]at E f;refine h.known (.run s) j a ha ?_;grind
 .intro k l hl;by_cases e:k=.run s
  .subst e;simp only[Qj]at hl;exact(W.cw l hl).imp id λ P=>⟨rfl,KK P⟩
  .simp only[Qg _ _ e]at hl;exact .inl hl
 .intro k l hl;by_cases e:k=.run s
  .subst e;simp only[Qj]at hl;exact(W.cr l hl).imp id λ P=>⟨rfl,KK P⟩
  .simp only[Qg _ _ e]at hl;exact .inl hl
 .intro e z a ha k hk;obtain⟨N,E,f⟩:=key e z a ha;refine⟨λ L=>?_,λ T hr=>?_⟩
  .rcases f with f|f
   .exact Q.sep k (.run s) _ hk L f
   .exact VQ (Q.ok k) (Zw L) f
  .rcases E T with E|E
   .exact Q.sep (.run s) k _ (Ne.symm hk) E hr
   .exact VQ (Q.ok k) hr E
 .intro e z a ha hib;exfalso;obtain⟨N,E,f⟩:=key e z a ha;obtain⟨loc,wr,kd⟩:=a;cases loc <;> simp only[JG]at hib;rename_i S;obtain⟨I,F⟩:=hib;obtain⟨X,K⟩:=hb _ I;rcases f with f|f
  .exact K S rfl F f
  grind[Loc.new]
 .intro e z a ha hib;exfalso;obtain⟨N,E,f⟩:=key e z a ha;obtain⟨loc,wr,kd⟩:=a;cases loc <;> simp only[JG]at hib;rename_i S;obtain⟨I,F⟩:=hib;obtain⟨X,K⟩:=hm _ I;rcases f with f|f
  .exact K S rfl F f
  grind[Loc.new]
end
def Kf(b:Nat)(parent:Bool)(e:Event):Prop:=
 Event.mute e=true\/(∃o wr,o<2/\e=⟨.cell ⟨b,o,none⟩,wr,true⟩)\/(parent=true/\∃o wr,o<2/\e=Wj (bif wr then .write ⟨b,o,none⟩else .read ⟨b,o,none⟩))
section
variable{mb:Option Nat}{i:Nat}
def Tw(h:TI (λ k=>(V k).canW) (λ k=>(V k).canR) rel (some b) mb rm act wk w.heap.size tr)(M:b<w.heap.size)(I:∀k,QJ b (V k))(K:act i)
  (N:∀e∈es,Kf b (i==0) e) (P:mb≠some b) (T:i=0\/wk i\/∀j,tr.size<=j->¬(tr++MemOp.ofEvents i fn pos es).counts j) :
  TI (λ k=>(V k).canW) (λ k=>(V k).canR) rel (some b) mb rm act wk w.heap.size (tr++MemOp.ofEvents i fn pos es):=by
 have key:∀e∈es,(MemAct.ofEvent e).low w.heap.size/\(∀a,MemAct.ofEvent e≠.mark (.release a))/\∀x,(MemAct.ofEvent e).touch?=some x->(∃o,o<2/\x.loc=.cell ⟨b,o,none⟩)/\(x.kind=.atomic\/(x.kind=.said/\i=0)):=by
  intro e f;rcases N e f with U|⟨o,wr,I,rfl⟩|⟨W,o,wr,I,rfl⟩
  .have:=Pg U;exact⟨this.2.1 _,this.2.2,λ x G=>by rw[this.1]at G;cases G⟩
  .refine⟨M,λ _ h=>(by cases h),λ x G=>?_⟩;cases G;exact⟨⟨o,I,rfl⟩,.inl rfl⟩
  .have z:i=0:=by simpa using W
   cases wr
   .refine⟨M,λ _ h=>(by cases h),λ x G=>?_⟩;cases G;exact⟨⟨o,I,rfl⟩,.inr ⟨rfl,z⟩⟩
   .refine⟨M,λ _ h=>(by cases h),λ x G=>?_⟩;cases G;exact⟨⟨o,I,rfl⟩,.inr ⟨rfl,z⟩⟩
 refine h.events (Nat.le_refl _) (λ e f=>(key e f).1) (λ e f=>(key e f).2.1) ?_ (λ _ _=>.inl) (λ _ _=>.inl) ?_ ?_ ?_ T
 .intro j a ha e f x G said hc;obtain⟨⟨o,F,L⟩,B⟩:=(key e f).2.2 x G;obtain⟨S,_,_,H⟩:=hc;have E:JG (some b) a.loc:=by rw[S,L];exact⟨rfl,F⟩
  rcases H with H|H|⟨_,H,Q⟩
  .exact h.grpP j a ha E H i K
  .rcases B with B|⟨B,_⟩ <;> rw[B]at H <;> cases H
  .rcases B with B|⟨_,z⟩
   .rw[B]at Q;cases Q
   .subst z;exact h.grpS j a ha E H
 .intro e f a ha k _;obtain⟨⟨o,F,L⟩,_⟩:=(key e f).2.2 a ha;rw[L];exact⟨λ Y=>I k _ rfl F (Zw Y),λ _ X=>I k _ rfl F X⟩
 .intro e f a ha _;obtain⟨_,B⟩:=(key e f).2.2 a ha;rcases B with B|⟨B,z⟩ <;> rw[B]
  .exact⟨λ h=>(by cases h),λ h=>(by cases h)⟩
  .exact⟨λ h=>(by cases h),λ _=>z⟩
 .intro e f a ha E;obtain⟨⟨o,F,L⟩,_⟩:=(key e f).2.2 a ha;rw[L]at E;exact absurd E.1 P
end
section
variable{blk:Option Nat}{i:Nat}
def qt(h:TI (λ k=>(V k).canW) (λ k=>(V k).canR) rel blk (some b) rm act wk w.heap.size tr)(S:b<w.heap.size)(L:∀k,QJ b (V k))(H:act i)
  (M:∀e∈es,HW b e) (I:blk≠some b) (T:wk i) :
  TI (λ k=>(V k).canW) (λ k=>(V k).canR) rel blk (some b) rm act wk w.heap.size (tr++MemOp.ofEvents i fn pos es):=by
 have key:∀e∈es,(MemAct.ofEvent e).low w.heap.size/\(∀a,MemAct.ofEvent e≠.mark (.release a))/\∀x,(MemAct.ofEvent e).touch?=some x->(∃o,o<2/\x.loc=.cell ⟨b,o,none⟩)/\x.kind=.atomic:=by
  intro e f;rcases M e f with U|⟨o,wr,L,rfl⟩
  .have:=Pg U;exact⟨this.2.1 _,this.2.2,λ x F=>by rw[this.1]at F;cases F⟩
  .refine⟨S,λ _ h=>(by cases h),λ x F=>?_⟩;cases F;exact⟨⟨o,L,rfl⟩,rfl⟩
 refine h.events (Nat.le_refl _) (λ e f=>(key e f).1) (λ e f=>(key e f).2.1) ?_ (λ _ _=>.inl) (λ _ _=>.inl) ?_ ?_ ?_ (.inr (.inl T))
 .intro j a ha e f x F said hc;obtain⟨⟨o,z,K⟩,P⟩:=(key e f).2.2 x F;obtain⟨Q,_,_,E⟩:=hc;have B:JG (some b) a.loc:=by rw[Q,K];exact⟨rfl,z⟩
  by_cases G:a.kind=.atomic
  .exfalso;rcases E with E|E|⟨_,E,N⟩
   .rw[G]at E;cases E
   .rw[P]at E;cases E
   .rw[P]at N;cases N
  .exact h.grpM j a ha B G i H
 .intro e f a ha k _;obtain⟨⟨o,z,K⟩,_⟩:=(key e f).2.2 a ha;rw[K];exact⟨λ X=>L k _ rfl z (Zw X),λ _ W=>L k _ rfl z W⟩
 .intro e f a ha B;obtain⟨⟨o,z,K⟩,_⟩:=(key e f).2.2 a ha;rw[K]at B;exact absurd B.1 I
 grind
end
section
variable{i:Nat}
def Vu(B:∀e∈es,Event.mute e=true\/∃o wr,e=⟨.cell ⟨b,o,none⟩,wr,true⟩)(K:∀j,j<es.size->deafBehind (Deaf tr i) (es.extract 0 j)≠0) :
  ∀j,tr.size<=j->¬(tr++MemOp.ofEvents i fn pos es).counts j:=by
 intro j L I;obtain⟨x,N,_,w⟩:=I;rcases Jn (t:=tr) N with⟨z,_⟩|⟨_,op,E,f,H⟩
 .omega
 .obtain⟨e,he,rfl⟩:=Go.Conc.mem_ofEvents E;rcases B e he with M|⟨o,wr,rfl⟩
  .rw[(Pg M).1]at f;cases f
  .cases f;rcases w with w|⟨g,G,w⟩
   .exact w rfl
   .have hgi:g=i:=by
     simp only[Trace.g?,H,Option.map_some,Option.some.injEq]at G;exact G.symm
    subst hgi;have z:=lt_size_of_getElem? H;have F:(MemOp.ofEvents g fn pos es).size=es.size:=by rw[ofEvents_eq];simp
    rw[Array.size_append,F]at z;obtain⟨k,rfl⟩:=Nat.exists_eq_add_of_le L;rw[deaf_inside tr g fn pos es k O1]at w;exact K k O1 w
end
