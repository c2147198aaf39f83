/- Lemmas. No conditions. -/
import Derived.Test.YtnpfcnfhfkflhaaGreatDoorB11
set_option linter.all false
open List
namespace Go.TM
open Go.Conc
section
variable{P:Program}{t:TypeId}{N:Nat}{Stop:QJ Tk}{gs:Array Gr}{w:World}{tr:Trace}{V V':Hd->Qa Tk}{rk:Nat->Option Tr}{rel:Nat->Option Nat}{q:Nat->Nat}{sl:Option (Nat×Nat)}
def MI.make{g:Gr}{r':Tr}{b:Nat}{M₁ M₂:List Qx}(h:MI P t N Stop (some 0) gs w tr V rk rel q)(hi:gs[0]?=some g)(E:(V (.run 0)).tok=⟨0,.out,none⟩)
  (hM:(V (.run 0)).M=M₁++.obj b (.cells #[Q1 0 0,Qq 0] t (0,0))::M₂) (hJ:JR (Zb P t N) Stop r' true g { (V (.run 0))with M:=M₁++M₂,tok:=⟨0,.par b [] false .run,none⟩ }) :
  MI P t N Stop none gs w tr (Q2 V (.run 0) { (V (.run 0))with M:=M₁++M₂,tok:=⟨0,.par b [] false .run,none⟩ }) (Zp rk 0 (some r')) rel q:=by
 have hG:=h.grp;unfold QK at hG;rw[E]at hG;obtain⟨Y,W⟩:=hG;have K:=h.vi.ok (.run 0)
 let F:Qa Tk:={ (V (.run 0))with M:=M₁++M₂,tok:=⟨0,.par b [] false .run,none⟩ }
 have T:Q2 V (.run 0) F (.run 0)=F:=Ql ..;have U:∀j,j≠0->Q2 V (.run 0) F (.run j)=V (.run j):=λ j f=>Qh _ _ (λ e=>f (Hd.run.inj e));have vd:∀j,Q2 V (.run 0) F (.dep j)=V (.dep j):=λ j=>Qh _ _ S1
 have G:∀x,x∈M₁++M₂->x∈(V (.run 0)).M:=by
  intro x z;rw[hM];rcases mem_append.1 z with z|z
  .exact mem_append_left _ z
  .exact mem_append_right _ (mem_cons_of_mem _ z)
 have Q:Qx.obj b (.cells #[Q1 0 0,Qq 0] t (0,0))∈(V (.run 0)).M:=by rw[hM];simp
 have aj:Sh b t (Q1 0 0) (Qq 0) w:=K.held _ Q
 have af:∀l,F.canW l->(V (.run 0)).canW l:=λ l B=>by
  obtain⟨x,z,B⟩:=Q6.1 B;exact Q6.2 ⟨x,G x z,B⟩
 have ak:∀l,F.canR l->(V (.run 0)).canR l:=λ l B=>by
  rcases Qy.1 B with⟨x,z,B⟩|B
  .exact Qy.2 (.inl ⟨x,G x z,B⟩)
  .exact Qy.2 (.inr B)
 have ac:=K.apart;rw[hM]at ac;obtain⟨p1,p2,p3⟩:=pairwise_append.1 ac;obtain⟨p4,p5⟩:=pairwise_cons.1 p2
 have aa:∀x∈M₁++M₂,x.blk≠b:=by
  intro x z e;rcases mem_append.1 z with z|z
  .have:=p3 x z (.obj b (.cells #[Q1 0 0,Qq 0] t (0,0))) S1;cases x <;> simp only[Qx.apart,Qx.blk]at this e <;> exact this e
  .have:=p4 x z;cases x <;> simp only[Qx.apart,Qx.blk]at this e <;> exact this e.symm
 have Z:F.ok w:=⟨K.imm,λ x z=>K.held x (G x z),pairwise_append.2 ⟨p1,p5,λ x z y hy=>p3 x z y (mem_cons_of_mem _ hy)⟩,λ x z=>K.sep x (G x z)⟩;have ae:∀a:Addr,a.block=b->a.off<2->(V (.run 0)).canW (.cell a):=λ a X ho=>Q6.2 ⟨_,Q,X,ho⟩
 have hW:∀k l,(Q2 V (.run 0) F k).canW l->(V k).canW l:=by
  intro k l B;by_cases e:k=.run 0
  .subst e;rw[T]at B;exact af l B
  .rwa [Qh _ _ e]at B
 have hR:∀k l,(Q2 V (.run 0) F k).canR l->(V k).canR l:=by
  intro k l B;by_cases e:k=.run 0
  .subst e;rw[T]at B;exact ak l B
  .rwa [Qh _ _ e]at B
 have ab:∀k,QL b (Q2 V (.run 0) F k):=by
  intro k a X ho L;by_cases e:k=.run 0
  .subst e;rw[T]at L;rcases Qy.1 L with⟨x,z,B⟩|⟨c,ty,fr,hI,_⟩
   .have:=aa x z;cases x with
    |obj b' o=>
     cases o <;> simp only[Qx.lets]at B;exact this (by rw[Qx.blk,<- B.1,X])
    |cell b' i' v ty n=>simp only[Qx.lets]at B;exact this (by rw[Qx.blk,<- B.1,X])
   .have:=K.sep _ Q;rw[Qx.blk,<- X]at this;have ad:(V (.run 0)).I a.block=some (.cells c ty fr):=hI;rw[this]at ad;cases ad
  .rw[Qh _ _ e]at L;exact h.vi.sep (.run 0) k _ (Ne.symm e) (ae a X ho) L
 have hT:∀j,j≠0->(Q2 V (.run 0) F (.run j)).tok.ph=.out:=λ j f=>by rw[U j f];exact Y j f
 have H:∀j,j≠0->Zp rk 0 (some r') j=rk j:=λ j f=>Qv _ _ f;have ah:Q3 V 0=none:=by unfold Q3;rw[E]
 obtain⟨g1,g2,g3⟩:=h.mux;rw[ah]at g3;obtain⟨g3,g4⟩:=g3;have vm:Q2 V (.run 0) F .lck=ZL:=by rw[Qh _ _ S1];exact g4
 have S:∀j,Q3 (Q2 V (.run 0) F) j=none:=by
  intro j;by_cases e:j=0
  .subst e;unfold Q3;rw[T]
  .unfold Q3;rw[U j e];exact g3 j
 refine⟨?_,by rw[Qj];simp,?_,?_,?_,?_,?_,?_,?_,λ j f=>by rw[vd];exact h.deps j f,?_,?_,?_,⟨λ j x u _ e=>(by rw[S]at e;cases e),by rw[vm];rfl,by rw[S];exact⟨S,vm⟩⟩,λ j _=>S j⟩
 .intro j r'' _ hr'';by_cases e:j=0
  .subst e;rw[Qj]at hr'';cases hr'';exact⟨g,by rw[T];exact hJ,.inl hi⟩
  .rw[H j e]at hr'';obtain⟨x,k1,k2⟩:=h.live j r'' (λ e'=>e (Option.some.inj e').symm) hr'';exact⟨x,by rw[U j e];exact k1,by rw[U j e];exact k2⟩
 .intro j x f z _;have e:j≠0:=λ e=>by subst e;rw[Qj]at f;cases f
  rw[H j e]at f;exact h.gone j x f z (Y j e)
 .intro j f hp;have e:j≠0:=λ e=>by subst e;rw[Qj]at f;cases f
  exact absurd (hT j e) hp
 .intro j f;have e:j≠0:=by have:=(Array.getElem?_eq_some_iff.1 hi).1;omega
  rw[H j e];exact h.above j f
 .intro j f;have e:j≠0:=λ e=>by subst e;rw[Qj]at f;cases f
  rw[H j e]at f;rw[U j e];exact h.bare j f
 .intro j h0 f;rw[H j h0]at f;rw[U j h0];exact h.wk j h0 f
 .intro j f;by_cases e:j=0
  .subst e;rw[Qj];simp
  .rw[hT j e]at f;obtain⟨_,_,e'⟩:=f;cases e'
 .intro j f;by_cases e:j=0
  .subst e;rw[T];rw[h.deaf 0 h.root,E]
  .rw[H j e]at f;rw[U j e];exact h.deaf j f
 .refine⟨λ k=>?_,λ ag ai l hn hw L=>h.vi.sep ag ai l hn (hW _ _ hw) (hR _ _ L)⟩;by_cases e:k=.run 0
  .subst e;rw[T];exact Z
  .rw[Qh _ _ e];exact h.vi.ok k
 .obtain⟨rm,hti⟩:=h.ti;rw[E]at hti;refine⟨none,?_⟩;have e0:Jy (Q2 V (.run 0) F)=none:=by unfold Jy;rw[S];rfl
  rw[T,e0];have:=hti.create (b:=b) (W':=λ k=>(Q2 V (.run 0) F k).canW) (R':=λ k=>(Q2 V (.run 0) F k).canR) (λ l=>by rw[vm];exact Wk _ _) (λ l=>by rw[vm];exact Wj _ _) W ae hW hR
  have e3:(λ j=>ZO (Q2 V (.run 0) F (.run j)).tok.ph)=λ j=>ZO (V (.run j)).tok.ph:=by
   funext j;by_cases e:j=0
   .subst e;rw[T,E];refine propext ⟨?_,?_⟩ <;> (rintro⟨_,_,e⟩;cases e)
   .rw[U j e]
  rw[e3];refine this.turn (λ _ _ h=>h) (λ _ _ h=>h) ?_;rintro j (rfl|f)
  .rfl
  .apply Classical.byContradiction;intro e;exact f (hT j e)
 .unfold QK;rw[T];refine⟨ab,[],0,0,0,aj,?_,λ _ _ _=>rfl⟩;refine GI.start (λ i=>?_) W;by_cases e:i=0
  .simp[Z3,e]
  .simp only[Z3,if_neg e];exact hT i e
def MI.makeM{g:Gr}{r':Tr}{b:Nat}{x:QY}{M₁ M₂:List Qx}(h:MI P t N Stop (some 0) gs w tr V rk rel q)(hi:gs[0]?=some g)(K:(V (.run 0)).tok=⟨0,.par b [] false .run,none⟩)
  (hM:(V (.run 0)).M=.obj x.m (.cells #[Zc 0,Qq 0] x.t (0,0))::(M₁++M₂)) (hD:x.sp false false M₁) (hJ:JR (Zb P t N) Stop r' true g { (V (.run 0))with M:=M₂,tok:=⟨0,.par b [] false .run,some (.par x λ _=>false)⟩ }) :
  MI P t N Stop none gs w tr (Q2 (Q2 V (.run 0) { (V (.run 0))with M:=M₂,tok:=⟨0,.par b [] false .run,some (.par x λ _=>false)⟩ }) .lck ⟨λ _=>none,M₁,⟨0,.out,none⟩⟩) (Zp rk 0 (some r')) rel q:=by
 have hG:=h.grp;unfold QK at hG;rw[K]at hG;obtain⟨T,W,c,wt,s,am,ae,ap⟩:=hG;have av:W=[]:=eq_nil_of_length_eq_zero ae.len
 have ab:∀j,j≠0->(V (.run j)).tok.ph=.out:=by
  intro j f;apply Classical.byContradiction;intro hn;have:=ae.inW j (.inl (by simpa[Z3,f]using hn));rw[av]at this;cases this
 have Q:=h.vi.ok (.run 0);have an:Q3 V 0=none:=by unfold Q3;rw[K]
 obtain⟨g1,g2,g3⟩:=h.mux;rw[an]at g3;obtain⟨g3,g4⟩:=g3
 let U2:Qa Tk:={ (V (.run 0))with M:=M₂,tok:=⟨0,.par b [] false .run,some (.par x λ _=>false)⟩ }
 let z:=Q2 (Q2 V (.run 0) U2) .lck ⟨λ _=>none,M₁,⟨0,.out,none⟩⟩
 have v0:z (.run 0)=U2:=by show Q2 _ _ _ _=_;rw[Qh _ _ S1,Ql]
 have v2:∀j,j≠0->z (.run j)=V (.run j):=λ j f=>by show Q2 _ _ _ _=_;rw[Qh _ _ S1,Qh _ _ (λ e=>f (Hd.run.inj e))]
 have vd:∀j,z (.dep j)=V (.dep j):=λ j=>by show Q2 _ _ _ _=_;rw[Qh _ _ S1,Qh _ _ S1]
 have vm:z .lck=⟨λ _=>none,M₁,⟨0,.out,none⟩⟩:=Ql ..;have S:Qx.obj x.m (.cells #[Zc 0,Qq 0] x.t (0,0))∈(V (.run 0)).M:=by rw[hM];simp
 have aw:Sh x.m x.t (Zc 0) (Qq 0) w:=Q.held _ S;have al:=Q.apart;rw[hM]at al;obtain⟨p4,p5⟩:=pairwise_cons.1 al;have F:∀y,y∈M₁++M₂->y∈(V (.run 0)).M:=λ y G=>by rw[hM];exact mem_cons_of_mem _ G
 have ai:Qa.ok ({ (V (.run 0))with M:=M₁++M₂ }:Qa Tk) w:=⟨Q.imm,λ y G=>Q.held y (F y G),p5,λ y G=>Q.sep y (F y G)⟩;have hf:=UI (U:=({ (V (.run 0))with M:=M₁++M₂ }:Qa Tk)) (tp:=(⟨0,.par b [] false .run,some (.par x λ _=>false)⟩:Tk)) (tc:=(⟨0,.out,none⟩:Tk)) ai (M₁:=M₁) (M₂:=M₂) (Perm.refl _)
 have ag:∀l,Qa.canW ({ (V (.run 0))with M:=M₁++M₂ }:Qa Tk) l->(V (.run 0)).canW l:=λ l B=>by
  obtain⟨y,G,B⟩:=Q6.1 B;exact Q6.2 ⟨y,F y G,B⟩
 have ac:∀l,Qa.canR ({ (V (.run 0))with M:=M₁++M₂ }:Qa Tk) l->(V (.run 0)).canR l:=λ l B=>by
  rcases Qy.1 B with⟨y,G,B⟩|B
  .exact Qy.2 (.inl ⟨y,F y G,B⟩)
  .exact Qy.2 (.inr B)
 have ak:∀y∈M₁++M₂,y.blk≠x.m:=by
  intro y G e;have:=p4 y G;cases y <;> simp only[Qx.apart,Qx.blk]at this e <;> exact this e.symm
 have X:QL x.m ({ (V (.run 0))with M:=M₁++M₂ }:Qa Tk):=by
  intro a L Y E;rcases Qy.1 E with⟨y,G,B⟩|⟨c,ty,fr,hI,_⟩
  .have:=ak y G;cases y with
   |obj b' o=>
    cases o <;> simp only[Qx.lets]at B;exact this (by rw[Qx.blk,<- B.1,L])
   |cell b' i' v ty n=>simp only[Qx.lets]at B;exact this (by rw[Qx.blk,<- B.1,L])
  .have:=Q.sep _ S;rw[Qx.blk,<- L]at this;have ao:(V (.run 0)).I a.block=some (.cells c ty fr):=hI;rw[this]at ao;cases ao
 have ah:∀a:Addr,a.block=x.m->a.off<2->(V (.run 0)).canW (.cell a):=λ a L Y=>Q6.2 ⟨_,S,L,Y⟩
 have aq:VI (Q2 V (.run 0) ({ (V (.run 0))with M:=M₁++M₂ }:Qa Tk)) w:=h.vi.shift ⟨rfl,λ w' Z=>by
  have aa:=Z.apart;rw[hM]at aa;exact⟨⟨Z.imm,λ y G=>Z.held y (F y G),(pairwise_cons.1 aa).2,λ y G=>Z.sep y (F y G)⟩,ag,ac⟩⟩
 have au:VI z w:=by
  have:=aq.fork (k:=.run 0) (c:=.lck) (Up:=U2) (Uc:=⟨λ _=>none,M₁,⟨0,.out,none⟩⟩) (by rw[Ql];exact hf) S1
  have e:Q2 (Q2 (Q2 V (.run 0) ({ (V (.run 0))with M:=M₁++M₂ }:Qa Tk)) (.run 0) U2) .lck (⟨λ _=>none,M₁,⟨0,.out,none⟩⟩:Qa Tk)=z:=by
   funext k;by_cases e1:k=.lck
   .subst e1;rw[Ql,vm]
   .rw[Qh _ _ e1];show _=Q2 _ _ _ k;rw[Qh _ _ e1];by_cases e2:k=.run 0
    .subst e2;rw[Ql,Ql]
    .rw[Qh _ _ e2,Qh _ _ e2,Qh _ _ e2]
  rw[e]at this;exact this
 have hW:∀k l,(z k).canW l->(V k).canW l\/(k=.lck/\(V (.run 0)).canW l):=by
  intro k l B;cases k with
  |run j=>
   by_cases e:j=0
   .subst e;rw[v0]at B;exact .inl (ag l (hf.wp l B))
   .rw[v2 j e]at B;exact .inl B
  |dep j=>rw[vd]at B;exact .inl B
  |lck=>rw[vm]at B;exact .inr ⟨rfl,ag l (hf.wc l B)⟩
 have hR:∀k l,(z k).canR l->(V k).canR l\/(k=.lck/\(V (.run 0)).canR l):=by
  intro k l B;cases k with
  |run j=>
   by_cases e:j=0
   .subst e;rw[v0]at B;exact .inl (ac l (hf.rp l B))
   .rw[v2 j e]at B;exact .inl B
  |dep j=>rw[vd]at B;exact .inl B
  |lck=>rw[vm]at B;exact .inr ⟨rfl,ac l (hf.rc l B)⟩
 have ad:∀k,QL x.m (z k):=by
  intro k a L Y E;cases k with
  |run j=>
   by_cases e:j=0
   .subst e;rw[v0]at E;exact X a L Y (hf.rp _ E)
   .rw[v2 j e]at E;exact h.vi.sep (.run 0) (.run j) _ (λ e'=>e (Hd.run.inj e').symm) (ah a L Y) E
  |dep j=>rw[vd]at E;exact h.vi.sep (.run 0) (.dep j) _ S1 (ah a L Y) E
  |lck=>rw[vm]at E;exact X a L Y (hf.rc _ E)
 have H:∀j,j≠0->Zp rk 0 (some r') j=rk j:=λ j f=>Qv _ _ f
 have hT:∀j,(z (.run j)).tok.ph=(V (.run j)).tok.ph:=by
  intro j;by_cases e:j=0
  .subst e;rw[v0,K]
  .rw[v2 j e]
 have af:Q3 z 0=some (.par x λ _=>false):=by unfold Q3;rw[v0]
 have aj:∀j,j≠0->Q3 z j=none:=λ j f=>by unfold Q3;rw[v2 j f];exact g3 j
 refine⟨?_,by rw[Qj];simp,?_,?_,?_,?_,?_,?_,?_,λ j f=>by show z _=_;rw[vd];exact h.deps j f,au,?_,?_,?_,?_⟩
 .intro j r'' _ hr'';by_cases e:j=0
  .subst e;rw[Qj]at hr'';cases hr'';exact⟨g,by show JR _ _ _ _ _ (z _);rw[v0];exact hJ,.inl hi⟩
  .rw[H j e]at hr'';obtain⟨y,k1,k2⟩:=h.live j r'' (λ e'=>e (Option.some.inj e').symm) hr'';exact⟨y,by show JR _ _ _ _ _ (z _);rw[v2 j e];exact k1,by show _\/_/\_/\SW _ (z _).tok;rw[v2 j e];exact k2⟩
 .intro j y f G _;have e:j≠0:=λ e=>by subst e;rw[Qj]at f;cases f
  rw[H j e]at f;exact h.gone j y f G (ab j e)
 .intro j f hp;have e:j≠0:=λ e=>by subst e;rw[Qj]at f;cases f
  have hp:(z (.run j)).tok.ph≠.out:=hp;rw[hT]at hp;exact absurd (ab j e) hp
 .intro j f;have e:j≠0:=by have:=(Array.getElem?_eq_some_iff.1 hi).1;omega
  rw[H j e];exact h.above j f
 .intro j f;have e:j≠0:=λ e=>by subst e;rw[Qj]at f;cases f
  rw[H j e]at f;show(z _).I=_/\(z _).M=_;rw[v2 j e];exact h.bare j f
 .intro j h0 f;rw[H j h0]at f;show ZO (z _).tok.ph;rw[hT];exact h.wk j h0 f
 .intro j f;have f:ZO (z (.run j)).tok.ph:=f;rw[hT]at f;by_cases e:j=0
  .subst e;rw[Qj];simp
  .rw[H j e];exact h.wk' j f
 .intro j f;show _=(z _).tok.d;by_cases e:j=0
  .subst e;rw[v0];rw[h.deaf 0 h.root,K]
  .rw[H j e]at f;rw[v2 j e];exact h.deaf j f
 .obtain⟨rm,hti⟩:=h.ti;have e0:Jy V=none:=by unfold Jy;rw[an];rfl
  have e1:Jy z=some x.m:=by unfold Jy;rw[af];rfl
  rw[e0]at hti;refine⟨none,?_⟩;show TI (λ k=>(z k).canW) (λ k=>(z k).canR) rel (z (.run 0)).tok.ph.blk (Jy z) none (λ i=>i=0\/(z (.run i)).tok.ph≠.out) (λ i=>ZO (z (.run i)).tok.ph) w.heap.size tr;rw[e1];simp only[hT];refine hti.createM (act':=λ i=>i=0\/(V (.run i)).tok.ph≠.out) (λ j f=>?_) ah hW hR (λ l=>by rw[g4];exact Wk _ _) (λ l=>by rw[g4];exact Wj _ _);refine⟨?_,.inl rfl⟩;rcases f with rfl|f
  .rfl
  .apply Classical.byContradiction;intro e;exact f (ab j e)
 .show QK t N gs w z rel;unfold QK;rw[v0];refine⟨λ k a L Y E=>?_,W,c,wt,s,am,?_,ap⟩
  .rcases hR k _ E with h1|⟨_,h1⟩
   .exact T _ a L Y h1
   .exact T _ a L Y h1
  .have hk:Z3 z=Z3 V:=by funext j;simp only[Z3,hT]
   rw[hk];simpa only[vd]using ae
 .show JK gs w z;refine⟨λ j y u f e=>(by rw[aj j f]at e;cases e),by rw[vm],?_⟩;rw[af]
  have nl:∀j y s me lo,Q3 z j≠some (.lok y s me lo):=by
   intro j y s me lo e;by_cases ej:j=0
   .subst ej;rw[af]at e;cases e
   .rw[aj j ej]at e;cases e
  exact⟨ad,λ _=>.idle,0,0,aw,rfl,λ j _ _ _ _ e=>absurd e (nl _ _ _ _ _),λ j _ _ _ _ _ _ _ _ e=>absurd e (nl _ _ _ _ _),λ s e=>(by cases e),λ _ _=>rfl,λ e=>(by cases e),λ _=>(by rw[vm];exact hD),λ j _ _ _ _ _ e=>absurd e (nl _ _ _ _ _)⟩
 grind[Qj]
def QA(P:Program)(Q:Value->Qa Tk->Prop):QJ Tk:=λ m g U=>m=true/\g.status=.running/\U.tok=⟨0,.out,none⟩/\∃v,Q v U/\∀w,U.ok w->∃es,stepG P true g w=.ended (.done v) w es/\∀e∈es,JT U w e/\H3 w e
variable{Q:Value->Qa Tk->Prop}
def QA.running:∀m g U,QA P Q m g U->g.status=.running:=λ _ _ _ h=>h.2.1
def Nx(P:Program)(t:TypeId)(N:Nat)(Stop:QJ Tk)(gs:Array Gr)(w:World)(sl:Option (Nat×Nat))(tr:Trace)(μ:List Tr×Nat)(i:Nat):Prop:=
 ∃b w' ops V' rk' rel' q',runT P (crowd gs w sl) i=(.next (crowd b w' sl),ops)/\MI P t N Stop none b w' (tr++ops) V' rk' rel' q'/\Relation.TransGen JD (QI b rk' q') μ/\WK w.os w'.os/\w'.output=w.output
def JP.nx{i:Nat}(h:JP P t N Stop gs w sl tr rk q i):Nx P t N Stop gs w sl tr (QI gs rk q) i:=
 let ⟨gs',w',ops,V',rk',rel',q',a,b,c,d⟩:=h;⟨gs',w',ops,V',rk',rel',q',a,b,.single c,d⟩
def UG(P:Program)(t:TypeId)(N:Nat)(Q:Value->Qa Tk->Prop)(gs:Array Gr)(w:World)(tr:Trace)(g:Gr):Prop:=
 ∃V rk rel q,MI P t N (QA P Q) (some 0) gs w tr V rk rel q/\QA P Q true g (V (.run 0))
def MI.alive:∀(r:Tr){i:Nat}{g:Gr}{V:Hd->Qa Tk}{rk:Nat->Option Tr},MI P t N (QA P Q) none gs w tr V rk rel q->gs[i]?=some g->g.status=.running->rk i=some r ->
  (i=0/\UG P t N Q gs w tr g)\/Nx P t N (QA P Q) gs w sl tr (QI gs rk q) i:=by
 intro r
 induction r using Tr.sub_wf.induction with
 |_ r ih=>
  intro i g V rk h hi ac Y;have ba:=(Array.getElem?_eq_some_iff.1 hi).1;obtain⟨bc,hJ,hg⟩:=h.live i r S1 Y
  have:bc=g:=by
   rcases hg with hg|⟨hg,_⟩
   .rw[hi]at hg;exact(Option.some.inj hg).symm
   .rw[hi]at hg;cases hg;cases ac
  subst this;have aq:=hJ;obtain⟨U1,hs,hJ⟩:=hJ.step;have L:=h.shift Y hs;have hU:Q2 V (.run i) U1 (.run i)=U1:=Ql ..;generalize Q2 V (.run i) U1=V1 at L hU;subst hU;rcases hJ with hJ|hJ|hJ
  .have hi0:i=0:=by have:=hJ.1;simpa using this
   subst hi0;exact .inl ⟨rfl,V1,rk,rel,q,L,hJ⟩
  .exact .inr (L.priv QA.running hi Y hJ).nx
  .have hJ:QD P t N _ (i==0) bc (V1 (.run i)):=hJ;generalize hm:(i==0)=m at hJ
   have par:∀{d b ds pend k mu},i=0->(V1 (.run i)).tok=⟨d,.par b ds pend k,mu⟩->(∀j,QL b (V1 j))/\∃W c wt s,Sh b t (Q1 c wt) (Qq s) w/\GI N b ds pend k (Z3 V1) rel (λ i=>(V1 (.dep i)).M) W c wt s:=by
    intro d b ds pend k mu I z;subst I;obtain⟨bm,al,k',e1,e2,W,c,wt,s,e3,e4,_⟩:=L.par' (b:=b) (by rw[z];rfl);rw[z]at e1;cases e1;exact⟨e2,W,c,wt,s,e3,e4⟩
   have bb:rk i≠none:=by rw[Y];simp
   have S:∀{d b ds pend k mu},(V1 (.run i)).tok=⟨d,.par b ds pend k,mu⟩->i=0/\m=true:=by
    intro d b ds pend k mu z
    have I:i=0:=by
     apply Classical.byContradiction;intro ao;obtain⟨_,_,e⟩:=L.wk i ao bb;rw[z]at e;cases e
    exact⟨I,by subst I;exact hm.symm⟩
   have ay:(V1 (.run i)).tok=⟨0,.out,none⟩->i=0/\m=true:=by
    intro z
    have I:i=0:=by
     apply Classical.byContradiction;intro ao;obtain⟨_,_,e⟩:=L.wk i ao bb;rw[z]at e;cases e
    exact⟨I,by subst I;exact hm.symm⟩
   have ai:m=true->i=0:=λ e=>by subst e;simpa using hm
   have ag:m=false->i≠0:=λ e=>by subst e;simpa using hm
   have ab:i=0->∃d b ds pend k mu,((V1 (.run i)).tok=⟨d,.par b ds pend k,mu⟩\/(V1 (.run i)).tok.ph=.out):=by
    intro I;subst I;have hG:=L.grp;unfold QK at hG;generalize(V1 (.run 0)).tok=tk at hG;obtain⟨d,p,mu⟩:=tk;cases p with
    |out=>exact⟨0,0,[],false,.run,none,.inr rfl⟩
    |par b ds pend k=>exact⟨d,b,ds,pend,k,mu,.inl rfl⟩
    |_=>exact hG.elim
   cases hJ with
   |quiet X hb E F k=>
    rename_i b bs g';obtain⟨r',f,k⟩:=k;cases m with
    |true=>
     have I:=ai rfl;subst I;obtain⟨d,b',ds,pend,kk,mu,z|z⟩:=ab rfl
     .rw[z]at hb;cases hb;obtain⟨B,W,c,wt,s,K,H⟩:=par rfl z;refine .inr (L.parent QA.running hi Y z B K (E _ _) F S1 (deafBehind_nil _) H f ?_).nx;have:(V1 (.run 0)).at d (.par b ds pend kk)=V1 (.run 0):=Qa.at_self z;rw[this];exact k
     .rw[z]at hb;cases hb
    |false=>
     have I:=ag rfl;exact .inr (L.calm QA.running hi Y I hb E F f k).nx
   |dis X z E F k=>
    obtain⟨r',f,k⟩:=k;obtain⟨I,U⟩:=S z;subst I;subst U;obtain⟨B,W,c,wt,s,K,H⟩:=par rfl z;exact .inr (L.parent QA.running hi Y z B K (E _ _) F (by intro e Z;simp at Z;subst Z;exact .inl rfl) rfl H f k).nx
   |ena X z E F k=>
    obtain⟨r',f,k⟩:=k;obtain⟨I,U⟩:=S z;subst I;subst U;obtain⟨B,W,c,wt,s,K,H⟩:=par rfl z;exact .inr (L.parent QA.running hi Y z B K (E _ _) F (by intro e Z;simp at Z;subst Z;exact .inl rfl) rfl H f k).nx
   |add X z hN E=>
    obtain⟨I,U⟩:=S z;subst I;subst U;obtain⟨B,W,c,wt,s,K,H⟩:=par rfl z;obtain⟨rfl,rfl,-⟩:=H.state;have hc:=H.cN;simp at hc;obtain⟨g',bs,E,F,r',f,k⟩:=E c hc;exact .inr (L.parent QA.running hi Y z B K E F (by intro e Z;simp at Z;rcases Z with rfl|rfl <;> exact .inr (.inl ⟨0,_,O1,rfl⟩)) rfl (H.add hN) f k).nx
   |said X z E F k=>
    rename_i mu b ds pend kk bs g' wr;obtain⟨r',f,k⟩:=k;obtain⟨I,U⟩:=S z;subst I;subst U;obtain⟨B,W,c,wt,s,K,H⟩:=par rfl z;refine .inr (L.parent QA.running (d':=1) hi Y z B K (E _ _) F (by intro e Z;simp at Z;subst Z;exact .inr (.inr ⟨rfl,1,wr,O1,rfl⟩)) (by cases wr <;> rfl) H f ?_).nx;have:(V1 (.run 0)).at 1 (.par b ds pend kk)=V1 (.run 0):=Qa.at_self z;rw[this];exact k
   |look X z hk E=>
    rename_i mu b ds k_0 u;obtain⟨I,U⟩:=S z;subst I;subst U;obtain⟨B,W,c,wt,s,K,H⟩:=par rfl z;obtain⟨hc,rfl,rfl,-⟩:=H.seeU hk;obtain⟨g',bs,F,⟨E,⟨r',f,k⟩|⟨rfl,r',f,k⟩⟩|⟨bo,E,r',f,k⟩⟩:=E c hc
    .refine .inr (L.parent QA.running (d':=1) hi Y z B K E F (by intro e Z;simp at Z;subst Z;exact .inr (.inl ⟨0,_,O1,rfl⟩)) rfl (H.toSeen hk) f k).nx
    .exact .inr (L.parent QA.running (d':=1) hi Y z B K E F (by intro e Z;simp at Z;subst Z;exact .inr (.inl ⟨0,_,O1,rfl⟩)) rfl (H.toUp hk) f k).nx
    .exact .inr (L.parent QA.running (d':=1) hi Y z B K E F (by intro e Z;simp at Z;rcases Z with rfl|rfl <;> exact .inr (.inl ⟨0,_,O1,rfl⟩)) rfl (H.toWait hk bo) f k).nx
   |sema X ho z h0 E=>
    rename_i mu b ds;obtain⟨I,U⟩:=S z;subst I;subst U;have ae:(V (.run 0)).tok=⟨1,.par b ds false .wait,mu⟩:=hs.1.symm.trans z;obtain⟨bm,al,bt,e1,an,W',c',wt',s',aj,ak,_⟩:=h.par' (b:=b) (by rw[ae];rfl);rw[ae]at e1;cases e1
    have af:s'=0\/s'=1:=by
     rcases ak.state.2 with⟨_,_,h3,_⟩|⟨_,i0,j0,_,⟨_,_,h3⟩|⟨_,_,h3⟩⟩|⟨_,_,h3,_⟩ <;> omega
    rcases af with rfl|rfl
    .obtain⟨bs,F,E⟩:=h0 (Q1 c' wt');have hx:MI P t N (QA P Q) (some 0) gs w tr V rk rel q:={ h with live:=λ j r _ Y=>h.live j r S1 Y };exact .inr (hx.block hi ac ho Y ae an aj ak E F aq).nx
    .obtain⟨B,W,c,wt,s,K,H⟩:=par rfl z
     have bd:s=1:=by
      have:some (Obj.cells #[Q1 c' wt',Qq 1] t (0,0))=some (Obj.cells #[Q1 c wt,Qq s] t (0,0)):=aj.symm.trans K;simp[Qq]at this;omega
     subst bd;obtain⟨aw,rfl,rfl,-⟩:=H.sema;obtain⟨g',bs,F,E,r',f,k⟩:=E;exact .inr (L.parent QA.running (d':=1) hi Y z B K E F (by intro e Z;simp at Z;rcases Z with rfl|rfl|rfl|rfl <;> first|exact .inl rfl|exact .inr (.inl ⟨1,_,O1,rfl⟩)) rfl aw f k).nx
   |look2 X z F E k=>
    rename_i mu b ds bs g';obtain⟨r',f,k⟩:=k;obtain⟨I,U⟩:=S z;subst I;subst U;obtain⟨B,W,c,wt,s,K,H⟩:=par rfl z;obtain⟨-,rfl,rfl,rfl,-⟩:=H.up;refine .inr (L.parent QA.running (d':=1) hi Y z B K E F (by intro e Z;simp at Z;subst Z;exact .inr (.inl ⟨0,_,O1,rfl⟩)) rfl H f ?_).nx;have:(V1 (.run 0)).at 1 (.par b ds false .up)=V1 (.run 0):=Qa.at_self z;rw[this];exact k
   |acq X z F E k=>
    obtain⟨I,U⟩:=S z;subst I;subst U;obtain⟨B,W,c,wt,s,K,H⟩:=par rfl z
    have bf:V1 .lck=ZL:=by
     have g3:=L.mux.2.2;rw[show Q3 V1 0=none by unfold Q3;rw[z]]at g3;exact g3.2
    refine .inr (L.take QA.running hi Y z K H E F λ Ms au=>?_).nx;obtain⟨r',f,k⟩:=k Ms au;refine⟨r',f,?_⟩
    have:({ (V1 (.run 0))with M:=((V1 (.run 0)).M++Ms.flatten)++(V1 .lck).M,tok:=⟨0,.out,none⟩ }:Qa Tk)=((V1 (.run 0)).with Ms.flatten).at 0 .out:=by
     rw[bf];simp only[ZL,Qa.bare,append_nil,Qa.at,Qa.with];rw[z]
    rw[this];exact k
   |acqM X z F E k=>
    rename_i b ds bs g' x u;obtain⟨I,U⟩:=S z;subst I;subst U;obtain⟨B,W,c,wt,s,K,H⟩:=par rfl z
    have aa:x.sp (u false) (u true) (V1 .lck).M:=by
     have g3:=L.mux.2.2;rw[show Q3 V1 0=some (.par x u) by unfold Q3;rw[z]]at g3;obtain⟨-,lp,st,sm,hx⟩:=g3;have az:=H.up.2.2.2.2.1
     have bk:∀j y s me lo,Q3 V1 j≠some (.lok y s me lo):=by
      intro j y s me lo e;by_cases ej:j=0
      .subst ej;unfold Q3 at e;rw[z]at e;cases e
      .have hrj:rk j=none:=by
        cases bg:rk j with
        |none=>rfl
        |some bu=>
         obtain⟨_,_,e'⟩:=L.wk j ej (by rw[bg];simp);have:=az j;simp only[Z3,if_neg ej]at this;rw[e']at this;cases this
       rw[L.bareM j hrj]at e;cases e
     have bp:∀s,lp s=if u s then .fin else .idle:=by
      intro s;cases hu:u s with
      |false=>simpa using hx.idle s hu
      |true=>
       rcases hx.who s hu with h2|⟨j,me,lo,e⟩
       .simpa using h2
       .exact absurd e (bk _ _ _ _ _)
     have ah:∀s,(lp s).rels=u s/\(lp s).isOwn=false:=by
      intro s;rw[bp s];cases u s <;> exact⟨rfl,rfl⟩
     have:=hx.dep' (by rw[(ah false).2,(ah true).2];rfl);unfold QY.dep at this;rw[(ah false).1,(ah true).1]at this;exact this
    exact .inr (L.take QA.running hi Y z K H E F λ Ms au=>k Ms _ au aa).nx
   |make z hM k=>
    obtain⟨r',f,k⟩:=k;obtain⟨I,U⟩:=ay z;subst I;subst U;have h2:=L.make hi z hM k;rcases ih r' f h2 hi ac (Qj ..)with h3|⟨am,w',ops,V',rk',rel',q',a,b,c,dd⟩
    .exact .inl h3
    .refine .inr ⟨am,w',ops,V',rk',rel',q',a,b,c.tail ?_,dd⟩;exact XI rfl ba Y λ bi e=>by cases e;exact f
   |makeM z hM hD k=>
    obtain⟨r',f,k⟩:=k;obtain⟨I,U⟩:=S z;subst I;subst U;have h2:=L.makeM hi z hM hD k;rcases ih r' f h2 hi ac (Qj ..)with h3|⟨am,w',ops,V',rk',rel',q',a,b,c,dd⟩
    .exact .inl h3
    .refine .inr ⟨am,w',ops,V',rk',rel',q',a,b,c.tail ?_,dd⟩;exact XI rfl ba Y λ bi e=>by cases e;exact f
   |mu X z E=>
    rename_i b D x s me lo d
    have I:i≠0:=λ e=>by
     obtain⟨_,_,_,_,_,_,G|G⟩:=ab e
     .rw[z]at G;cases G
     .rw[z]at G;cases G
    have U:m=false:=by rw[<- hm];simpa using I
    subst U;obtain⟨u,lp,st,sm,k0,B,hx,rfl,ad,-⟩:=L.lock (i:=i) (x:=x) (s:=s) (me:=me) (lo:=lo) (by unfold Q3;rw[z]);obtain⟨g',bs,es,me',st',sm',d',lo',a0,a1,a2,a3,a4,a5,a6,a7,a8,a9,bl,r',f,k⟩:=E (lp (!s)) st sm ad (by rw[<- Hq];exact hx.word);exact .inr (MI.mu QA.running a0 L hi Y I z k0 B hx a2 a1 a3 a4 a5 a6.symm a8 a9 bl f k).nx
   |mblk X ho z bj be=>
    rename_i b D x s lo d
    have I:i≠0:=λ e=>by
     obtain⟨_,_,_,_,_,_,G|G⟩:=ab e
     .rw[z]at G;cases G
     .rw[z]at G;cases G
    have U:m=false:=by rw[<- hm];simpa using I
    subst U;have ae:(V (.run i)).tok=⟨d,.wrk b D,some (.lok x s .wai lo)⟩:=hs.1.symm.trans z;obtain⟨u,lp,st,sm,k0,B,hx,T,ad,-⟩:=h.lock (i:=i) (x:=x) (s:=s) (me:=.wai) (lo:=lo) (by unfold Q3;rw[ae]);have hw:=hx.word;rw[Hq _ s,<- T]at hw
    have af:sm=0\/(st=2/\sm=1/\lp (!s)=.fin):=by
     revert hw
     cases lp (!s)with
     |own v=>cases v <;> simp[LP.word] <;> omega
     |_=>simp[LP.word] <;> omega
    rcases af with rfl|⟨rfl,rfl,hq⟩
    .obtain⟨bs,F,E⟩:=bj (Zc st);have bn:MI P t N (QA P Q) (some i) gs w tr V rk rel q:={ h with live:=λ j r _ Y=>h.live j r S1 Y };exact .inr (bn.mblk hi ac ho Y I ae k0 B hx E F (by rw[show(i==0)=false by simpa using I]at aq;exact aq)).nx
    .obtain⟨u,lp,st,sm,k0,B,hx',T,ad,-⟩:=L.lock (i:=i) (x:=x) (s:=s) (me:=.wai) (lo:=lo) (by unfold Q3;rw[z]);have e2:some (Obj.cells #[Zc 2,Qq 1] x.t (0,0))=some (Obj.cells #[Zc st,Qq sm] x.t (0,0)):=hx.sh.symm.trans hx'.sh
     have e3:st=2/\sm=1:=by
      simp[Zc,Qq]at e2;omega
     obtain⟨rfl,rfl⟩:=e3;have ax:=hx'.word;rw[Hq _ s,<- T]at ax
     have av:lp (!s)=.fin:=by
      revert ax
      cases lp (!s)with
      |own v=>cases v <;> simp[LP.word]
      |_=>simp[LP.word]
     obtain⟨g',bs,F,E,r',f,k⟩:=be;rw[T]at z;refine .inr (MI.mu (me':=.wok) (lo':=2) (st':=2) (sm':=0) QA.running (by rw[av];exact Nat.le_refl _) L hi Y I z k0 B hx' E F (by rw[av];rfl) (by rw[<- T];exact Nat.le_refl _) (by rw[<- T];rfl) (by rw[<- T];rfl) (by intro e Z;simp at Z;rcases Z with rfl|rfl|rfl|rfl <;> first|exact .inl rfl|exact .inr ⟨1,_,O1,rfl⟩) rfl (.inr (.inl rfl)) f k).nx
   |macq X z F E k=>
    rename_i b D x s lo bs g'
    have I:i≠0:=λ e=>by
     obtain⟨_,_,_,_,_,_,G|G⟩:=ab e
     .rw[z]at G;cases G
     .rw[z]at G;cases G
    have U:m=false:=by rw[<- hm];simpa using I
    subst U;obtain⟨u,lp,st,sm,k0,B,hx,T,ad,-⟩:=L.lock (i:=i) (x:=x) (s:=s) (me:=.got) (lo:=lo) (by unfold Q3;rw[z]);have hw:=hx.word;rw[Hq _ s,<- T]at hw;have bh:=(LP.word_own hw).2;have aa:=hx.dep' (by rw[YK _ s,<- T,bh];rfl)
    have aa:x.sp (if s then(lp (!s)).rels else false) (if s then false else(lp (!s)).rels) (V1 .lck).M:=by
     unfold QY.dep at aa;cases s
     .rw[<- T]at aa;exact aa
     .rw[<- T]at aa;exact aa
    obtain⟨r',f,k⟩:=k _ _ aa;rw[T]at z;exact .inr (L.macq QA.running hi Y I z T.symm ad k0 B hx E F f k).nx
   |mrel X z F hM hD E k=>
    rename_i b D x s lo v bs g' M₁ M₂
    have I:i≠0:=λ e=>by
     obtain⟨_,_,_,_,_,_,G|G⟩:=ab e
     .rw[z]at G;cases G
     .rw[z]at G;cases G
    have U:m=false:=by rw[<- hm];simpa using I
    subst U;obtain⟨u,lp,st,sm,k0,B,hx,T,ad,-⟩:=L.lock (i:=i) (x:=x) (s:=s) (me:=.own v) (lo:=lo) (by unfold Q3;rw[z]);obtain⟨r',f,k⟩:=k;rw[T]at z;exact .inr (L.mrel QA.running hi Y I z T.symm ad k0 B hx hM hD E F f k).nx
   |go X z E hf hp hc ap k k'=>
    obtain⟨bq,s1,k⟩:=k;obtain⟨br,s2,k'⟩:=k';obtain⟨I,U⟩:=S z;subst I;subst U;obtain⟨B,W,c,wt,s,K,H⟩:=par rfl z;exact .inr (L.start QA.running hi Y z B K H E hf hp hc ap s1 s2 k k').nx
   |lay X z ap hD F E k=>
    obtain⟨n,k⟩:=k
    have I:i≠0:=by
     intro e;subst e;obtain⟨_,_,_,_,_,_,G|G⟩:=ab rfl
     .rw[z]at G;cases G
     .rw[z]at G;cases G
    have U:m=false:=by rw[<- hm];simpa using I
    subst U;exact .inr (L.lay QA.running hi Y I z ap hD E F k).nx
end
section
variable{P:Program}{t:TypeId}{N:Nat}{gs:Array Gr}{w:World}{tr:Trace}{V:Hd->Qa Tk}{rk:Nat->Option Tr}{rel:Nat->Option Nat}{q:Nat->Nat}{sl:Option (Nat×Nat)}{Q:Value->Qa Tk->Prop}
theorem Sh.at{b:Nat}{st sm:Value}(h:Sh b t st sm w)(d:Nat):Sh b t st sm (w.at d):=h
theorem MI.at{ex:Option Nat}{Stop:QJ Tk}(h:MI P t N Stop ex gs w tr V rk rel q)(d:Nat):MI P t N Stop ex gs (w.at d) tr V rk rel q:=by
 refine⟨h.live,h.root,h.gone,h.tail,h.above,h.bare,h.wk,h.wk',h.deaf,h.deps,h.vi.heap rfl,h.ti,?_,h.mux.at (λ _=>rfl) rfl (λ _ z _=>z) (λ _ _ _ _ _ x=>x) (λ j x s me lo y _ B f=>⟨y,B,f⟩),h.bareM⟩;have e:=h.grp;unfold QK at e ⊢
 revert e
 cases(V (.run 0)).tok.ph with
 |par b ds pend k=>exact λ e=>e
 |_=>exact λ e=>e
def MI.status(h:MI P t N (QA P Q) none gs w tr V rk rel q){i:Nat}{g:Gr}(f:gs[i]?=some g):g.status=.running\/g.status=.blocked\/g.status=.finished:=by
 cases e:rk i with
 |some r=>
  obtain⟨B,E,F⟩:=h.live i r S1 e;have:=E.running QA.running;grind
 |none=>
  by_cases z:(V (.run i)).tok.ph=.out
  .exact(h.gone i g e f z).status.elim .inl λ x=>.inr (.inr x)
  .obtain⟨x,b,hx,_,ht⟩:=h.tail i e z;rw[f]at hx;cases hx;exact .inl ht.running
def MI.someone(h:MI P t N (QA P Q) none gs w tr V rk rel q):∃(i:Nat)(g:Gr),gs[i]?=some g/\g.status=.running:=by
 have lck:∀i r g,rk i=some r->i≠0->gs[i]?=some g->g.status≠.running->∃(i:Nat)(g:Gr),gs[i]?=some g/\g.status=.running:=by
  intro i r g hr L S aa;obtain⟨al,hJ,z⟩:=h.live i r S1 hr;have M:=hJ.running QA.running;rcases z with z|⟨z,_,T⟩
  .simp_all
  .rcases T with⟨e,_⟩|⟨d,b,D,x,s,lo,K⟩
   .simp_all
   .have hk:Q3 V i=some (.lok x s .wai lo):=by unfold Q3;rw[K]
    obtain⟨u,X,st,sm,k0,af,B,Z,aj,-⟩:=h.lock hk;have ad:=B.slp i _ _ _ _ g hk S aa;have hw:=B.word;rw[Hq _ s,<- Z,ad]at hw
    have hq:X (!s)≠.fin/\X (!s)≠.idle/\X (!s)≠.wai:=by
     refine⟨λ e=>?_,λ e=>?_,λ e=>?_⟩ <;> (rw[e]at hw;simp[LP.word]at hw)
    have hu:u (!s)=true:=by
     cases hu:u (!s)with
     |true=>rfl
     |false=>exact absurd (B.idle _ hu) hq.2.1
    rcases B.who _ hu with h1|⟨j,me,lo',e⟩
    .simp_all
    .have ej:j≠0:=λ ej=>S2
     have Y:rk j≠none:=λ hn=>by rw[h.bareM j hn]at e;cases e
     obtain⟨U,F⟩:=Option.ne_none_iff_exists'.1 Y;obtain⟨ak,E,f⟩:=h.live j U S1 F;have ae:=E.running QA.running;rcases f with f|⟨f,_,G⟩
     .grind
     .exfalso;rcases G with⟨e',_⟩|⟨d',b',D',x',s',ag,I⟩
      .exact ej e'
      .unfold Q3 at e;rw[I]at e;cases e;have:=(B.tk j _ _ _ _ (show Q3 V j=_ by unfold Q3;rw[I])).2.1;simp_all
 obtain⟨r,hr⟩:=Option.ne_none_iff_exists'.1 h.root;obtain⟨g,hJ,z⟩:=h.live 0 r S1 hr;have M:=hJ.running QA.running;rcases z with z|⟨z,_,T⟩
 .grind
 .rcases T with⟨-,b,ds,mu,K⟩|⟨d,b,D,x,s,lo,K⟩
  rotate_left
  .have hG:=h.grp;unfold QK at hG;simp_all
  obtain⟨ah,pend,k,e,_,W,c,wt,s,_,ab,h4⟩:=h.par' (b:=b) (by rw[K];rfl);rw[K]at e;cases e;have hs:=h4 _ z S1;subst hs;obtain⟨i,S⟩:=ab.someone;have L:i≠0:=λ e=>S (by simp[Z3,e]);have hp:(V (.run i)).tok.ph≠.out:=by simpa[Z3,L]using S
  cases H:rk i with
  |some r'=>
   obtain⟨x,ai,B⟩:=h.live i r' S1 H;grind
  |none=>
   obtain⟨x,b',B,_,ac⟩:=h.tail i H hp;exact⟨i,x,B,ac.running⟩
def MI.move(h:MI P t N (QA P Q) none gs w tr V rk rel q) :
  (∃o w' ops,stepT P (crowd gs w sl)=(.ended o w',ops)/\Conc.Good P (λ v W'=>∃U,Q v U/\U.ok W'/\WK w.os W'.os/\W'.output=w.output) (crowd gs w sl) o w' (tr++ops)) \/
  (∃f w' B ops V' rk' rel' q',stepT P (crowd gs w sl)=(.next (crowd f w' B),ops)/\Relation.TransGen JD (QI f rk' q') (QI gs rk q)/\MI P t N (QA P Q) none f w' (tr++ops) V' rk' rel' q'/\WK w.os w'.os/\w'.output=w.output):=by
 have ai:∀g∈gs,awake g:=by
  intro g hg;obtain⟨i,S,rfl⟩:=Array.mem_iff_getElem.1 hg;intro tm e;rcases h.status (Array.getElem?_eq_getElem S)with x|x|x <;> rw[e]at x <;> cases x
 obtain⟨i,g,d,B,S,K,ac⟩:=crowd_pick (P:=P) (w:=w) (sl:=sl) ai h.someone;have hd:=h.at d
 have fin:Nx P t N (QA P Q) gs (w.at d) B tr (QI gs rk q) i->∃f w' B ops V' rk' rel' q',stepT P (crowd gs w sl)=(Stepped.next (crowd f w' B),ops)/\Relation.TransGen JD (QI f rk' q') (QI gs rk q)/\MI P t N (QA P Q) none f w' (tr++ops) V' rk' rel' q'/\WK w.os w'.os/\w'.output=w.output:=by
  rintro⟨f,w',ops,V',rk',rel',q',a,b,c,dd⟩;exact⟨f,w',B,ops,V',rk',rel',q',ac.trans a,c,b,dd⟩
 cases hr:rk i with
 |none=>
  by_cases T:(V (.run i)).tok.ph=.out
  .exact .inr (fin (hd.leaver QA.running S K hr T).nx)
  .exact .inr (fin (hd.tailStep QA.running S hr T).nx)
 |some r=>
  rcases MI.alive r (sl:=B) hd S K hr with⟨rfl,V',rk',rel',q',I,_,_,H,v,hq,aa⟩|hn
  .left;have Z:=I.vi.ok (.run 0);obtain⟨es,aj,ag⟩:=aa _ Z;have hG:=I.grp;unfold QK at hG;rw[H]at hG;obtain⟨M,Y⟩:=hG
   have ae:∀j,j≠0->rk' j=none:=by
    intro j E;cases e:rk' j with
    |none=>rfl
    |some r=>
     obtain⟨b,D,e'⟩:=I.wk j E (by rw[e];simp);rw[M j E]at e';cases e'
   obtain⟨rm,ad⟩:=I.ti;have af:∀b,Jy V'=some b->b<(w.at d).heap.size/\QL b (V' (.run 0)):=λ b F=>⟨(I.mux.mb F).1,(I.mux.mb F).2.1 _⟩;have ab:TI _ _ _ _ _ _ _ _ _ (tr++MemOp.ofEvents 0 g.frame.fn g.frame.place es):=Ee (fn:=g.frame.fn) (pos:=g.frame.place) ad I.vi (λ b F=>by rw[H]at F;cases F) af ag (.refl _ _) (.inl rfl)
   have L:∀j,j≠0->Deaf (tr++MemOp.ofEvents 0 g.frame.fn g.frame.place es) j=Deaf tr j:=by
    intro j E;refine Deaf_other tr (Ne.symm E) _ ?_;intro op ah;obtain⟨e,_,rfl⟩:=Go.Conc.mem_ofEvents ah;rfl
   have X:∀j x,j≠0->gs[j]?=some x->QuitsD P (q' j) (Deaf tr j) x:=λ j x E G=>I.gone j x (ae j E) G (M j E);refine⟨.done v,w.at d,_,ac.trans (ConcN.runT_crowd_ended S aj),v,rfl,⟨_,hq,Z,.refl _,rfl⟩,ab.clean,?_,⟨?_,rfl⟩,?_⟩
   .intro j x G hne hc;rcases ab.hand j x G hne hc with⟨b,D,e⟩|⟨r,e,_⟩|⟨p,z,T,hz,F⟩
    .by_cases e0:x=0
     .exact absurd e0 hne
     .rw[M x e0]at e;cases e
    .rw[Y]at e;cases e
    .refine⟨p,by simp[Trace.g?,T,hz],?_⟩;rcases F with rfl|F
     .simp only[Trace.g?,T,Option.map_some,Option.some.injEq]at G;exact absurd (G.symm.trans hz) hne
     .exact F
   .intro x G;obtain⟨j,E,W⟩:=mem_iff_getElem.1 G;rw[getElem_drop]at W
    have:gs[1+j]?=some x:=by
     rw[<- W];simp only[crowd]at E ⊢;have:1+j<gs.size:=by simp at E;omega
     simp[this]
    exact⟨_,(X (1+j) x O1 this).leaves⟩
   .intro j x G E;have:=X j x E G;refine⟨q' j,?_⟩;have e:(tr++MemOp.ofEvents 0 g.frame.fn g.frame.place es).deaf j (tr++MemOp.ofEvents 0 g.frame.fn g.frame.place es).size=Deaf tr j:=L j E;rw[e];exact this.hears _
  simp_all
def FN{e b:Value->World->Prop}{m:Machine}{o:Outcome}{w':World}{f:Trace}(h:Conc.Good P e m o w' f)(w:∀v W',e v W'->b v W'):Conc.Good P b m o w' f:=
 h.elim λ v x=>⟨v,x.1,w v _ x.2.1,x.2.2⟩
def runs(h:MI P t N (QA P Q) none gs w tr V rk rel q) :
  ∃n last o w' e,runNT P (n+1) (crowd gs w sl) tr=(.ended o w',e)/\runN P n (crowd gs w sl)=.next last/\step P last=.ended o w'/\Conc.Good P (λ v W'=>∃U,Q v U/\U.ok W'/\WK w.os W'.os/\W'.output=w.output) last o w' e:=by
 have key:∀(μ:List Tr×Nat)gs w sl tr V rk rel q,QI gs rk q=μ->MI P t N (QA P Q) none gs w tr V rk rel q ->
   ∃n last o w' e,runNT P (n+1) (crowd gs w sl) tr=(.ended o w',e)/\runN P n (crowd gs w sl)=.next last/\step P last=.ended o w'/\Conc.Good P (λ v W'=>∃U,Q v U/\U.ok W'/\WK w.os W'.os/\W'.output=w.output) last o w' e:=by
  intro μ
  induction μ using(WellFounded.transGen oi).induction with
  |_ μ I=>
   intro gs w sl tr V rk rel q H h;rcases h.move (sl:=sl)with⟨o,w',ops,E,L⟩|⟨B,w',z,ops,V',rk',rel',q',E,K,G,F,f⟩
   .exact⟨0,crowd gs w sl,o,w',tr++ops,by simp[runNT,E],rfl,by simp[step,E],L⟩
   .obtain⟨n,last,o,w'',e,k1,k2,k3,k4⟩:=I _ (H▸K) B w' z (tr++ops) V' rk' rel' q' rfl G;exact⟨n+1,last,o,w'',e,by grind[runNT_succ_next],by grind[runN_succ_next],k3,FN k4 λ v W'⟨U,a,b,c,d⟩=>⟨U,a,b,F.trans c,d.trans f⟩⟩
 exact key _ gs w sl tr V rk rel q rfl h
def AJ{g:Gr}{U:Qa Tk}{r:Tr}(Y:JR (Zb P t N) (QA P Q) r true g U)(T:U.ok w)(f:U.tok=⟨0,.out,none⟩) :
  MI P t N (QA P Q) none #[g] w #[] (Q2 (λ _=>ZL) (.run 0) U) (Zp (λ _=>none) 0 (some r)) (λ _=>none) (λ _=>0):=by
 have X:Q2 (λ _=>ZL) (.run 0) U (.run 0)=U:=Ql ..;have z:∀j,j≠0->Q2 (λ _=>ZL) (.run 0) U (.run j)=ZL:=λ j W=>Qh _ _ (λ e=>W (Hd.run.inj e));have F:∀k,k≠.run 0->Q2 (λ _=>ZL) (.run 0) U k=ZL:=λ k V=>Qh _ _ V;have Z:∀j,Deaf #[] j=0:=λ _=>rfl
 have no:∀i a,touchAt #[] i≠some a:=by
  intro i a h;obtain⟨x,S,_⟩:=touch_of h;simp at S
 have I:∀j,Q3 (Q2 (λ _=>ZL) (.run 0) U) j=none:=by
  intro j;unfold Q3;by_cases e:j=0
  .simp_all
  .rw[z j e];rfl
 have M:Q2 (λ _=>ZL) (.run 0) U .lck=ZL:=F _ S1;refine⟨?_,by rw[Qj];simp,?_,?_,?_,?_,?_,?_,?_,?_,?_,⟨none,?_⟩,?_,⟨λ j x u _ e=>S2,by rw[M];rfl,S2⟩,λ j _=>I j⟩
 .grind[Qj,Qv]
 .grind[Qj,Array.getElem?_eq_none]
 .intro i G hp;have e:i≠0:=λ e=>S2
  rw[z i e]at hp;exact absurd rfl hp
 .grind[Qv]
 .intro i G;have e:i≠0:=λ e=>by grind[Qj]
  rw[z i e];exact⟨rfl,rfl⟩
 .grind[Qv,absurd]
 .intro i E;by_cases e:i=0
  .grind[Qj]
  .rw[z i e]at E;obtain⟨_,_,e⟩:=E;cases e
 .grind[Qv,absurd]
 .simp_all
 .refine⟨λ k=>?_,λ B H l L E G=>?_⟩
  .by_cases e:k=.run 0
   .simp_all
   .rw[F k e];exact Ki _ _
  .by_cases e:B=.run 0
   .subst e;rw[F H (Ne.symm L)]at G;exact Wj _ _ G
   .rw[F B e]at E;exact Wk _ _ E
 .refine⟨λ said=>?_,λ k i a h=>absurd h (no i a),λ op h=>by simp at h,λ i a h=>?_,λ i a h=>absurd h (no i a),λ i a h=>absurd h (no i a),λ g r h=>(by cases h),λ i g h=>?_,λ i a h=>absurd h (no i a),λ i a h=>absurd h (no i a),λ r h=>(by cases h)⟩
  .rintro⟨i,j,_,⟨a,b,ha,_⟩,_⟩;exact no i a ha
  .simp[Trace.act?]at h
  grind[Trace.g?]
 .unfold QK;rw[X,f];exact⟨λ i K=>by rw[z i K];rfl,λ _=>rfl⟩
def J.runs{g:Gr}{U:Qa Tk}(f:J (Zb P t N) (QA P Q) true g U)(e:U.ok w)(b:U.tok=⟨0,.out,none⟩) :
  ∃n last o w' h,runNT P (n+1) (solo g w) #[]=(.ended o w',h)/\runN P n (solo g w)=.next last/\step P last=.ended o w'/\Conc.Good P (λ v W'=>∃U,Q v U/\U.ok W'/\WK w.os W'.os/\W'.output=w.output) last o w' h:=by
 obtain⟨r,f⟩:=f.rank;rw[solo_eq_crowd];exact TM.runs (AJ f e b)
end
end Go.TM

