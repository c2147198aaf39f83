/- Lemmas. No conditions. -/
import Derived.Test.YtnpfcnfhfkflhaaGreatDoorB11
set_option linter.all false
open List
namespace Go.TM
open Go.Conc
section
variable{P:Program}{t:TypeId}{N:Nat}{Stop:QJ Tk}{gs:Array Gr}{w:World}{tr:Trace}{V V':Hd->Qa Tk}{rk:Nat->Option Tr}{rel:Nat->Option Nat}{q:Nat->Nat}{sl:Option (Nat×Nat)}
def MI.make{g:Gr}{r':Tr}{b:Nat}{M₁ M₂:List Qx}(h:MI P t N Stop (some 0) gs w tr V rk rel q)(hi:gs[0]?=some g)(F:(V (.run 0)).tok=⟨0,.out,none⟩)
  (hM:(V (.run 0)).M=M₁++.obj b (.cells #[Q1 0 0,Qq 0] t (0,0))::M₂) (hJ:JR (Zb P t N) Stop r' true g { (V (.run 0))with M:=M₁++M₂,tok:=⟨0,.par b [] false .run,none⟩ }) :
  MI P t N Stop none gs w tr (Q2 V (.run 0) { (V (.run 0))with M:=M₁++M₂,tok:=⟨0,.par b [] false .run,none⟩ }) (Zp rk 0 (some r')) rel q:=by
 have hG:=h.grp;unfold QK at hG;rw[F]at hG;obtain⟨ae,U⟩:=hG;have H:=h.vi.ok (.run 0)
 let E:Qa Tk:={ (V (.run 0))with M:=M₁++M₂,tok:=⟨0,.par b [] false .run,none⟩ }
 have T:Q2 V (.run 0) E (.run 0)=E:=Ql ..;have W:∀j,j≠0->Q2 V (.run 0) E (.run j)=V (.run j):=λ j f=>Qh _ _ (λ e=>f (Hd.run.inj e));have vd:∀j,Q2 V (.run 0) E (.dep j)=V (.dep j):=λ j=>Qh _ _ S1
 have G:∀x,x∈M₁++M₂->x∈(V (.run 0)).M:=by
  intro x z;rw[hM];rcases mem_append.1 z with z|z
  .exact mem_append_left _ z
  .exact mem_append_right _ (mem_cons_of_mem _ z)
 have Q:Qx.obj b (.cells #[Q1 0 0,Qq 0] t (0,0))∈(V (.run 0)).M:=by rw[hM];simp
 have ah:Sh b t (Q1 0 0) (Qq 0) w:=H.held _ Q
 have ai:∀l,E.canW l->(V (.run 0)).canW l:=λ l B=>by
  obtain⟨x,z,B⟩:=Q6.1 B;exact Q6.2 ⟨x,G x z,B⟩
 have ag:∀l,E.canR l->(V (.run 0)).canR l:=λ l B=>by
  rcases Qy.1 B with⟨x,z,B⟩|B
  .exact Qy.2 (.inl ⟨x,G x z,B⟩)
  .exact Qy.2 (.inr B)
 have Z:=H.apart;rw[hM]at Z;obtain⟨p1,p2,p3⟩:=pairwise_append.1 Z;obtain⟨p4,p5⟩:=pairwise_cons.1 p2
 have aa:∀x∈M₁++M₂,x.blk≠b:=by
  intro x z e;rcases mem_append.1 z with z|z
  .have:=p3 x z (.obj b (.cells #[Q1 0 0,Qq 0] t (0,0))) S1;cases x <;> simp only[Qx.apart,Qx.blk]at this e <;> exact this e
  .have:=p4 x z;cases x <;> simp only[Qx.apart,Qx.blk]at this e <;> exact this e.symm
 have ad:E.ok w:=⟨H.imm,λ x z=>H.held x (G x z),pairwise_append.2 ⟨p1,p5,λ x z y hy=>p3 x z y (mem_cons_of_mem _ hy)⟩,λ x z=>H.sep x (G x z)⟩;have ab:∀a:Addr,a.block=b->a.off<2->(V (.run 0)).canW (.cell a):=λ a X ho=>Q6.2 ⟨_,Q,X,ho⟩
 have hW:∀k l,(Q2 V (.run 0) E k).canW l->(V k).canW l:=by
  intro k l B;by_cases e:k=.run 0
  .subst e;rw[T]at B;exact ai l B
  .rwa [Qh _ _ e]at B
 have hR:∀k l,(Q2 V (.run 0) E k).canR l->(V k).canR l:=by
  intro k l B;by_cases e:k=.run 0
  .subst e;rw[T]at B;exact ag l B
  .rwa [Qh _ _ e]at B
 have ac:∀k,QL b (Q2 V (.run 0) E k):=by
  intro k a X ho K;by_cases e:k=.run 0
  .subst e;rw[T]at K;rcases Qy.1 K with⟨x,z,B⟩|⟨c,ty,fr,hI,_⟩
   .have:=aa x z;cases x with
    |obj b' o=>
     cases o <;> simp only[Qx.lets]at B;exact this (by rw[Qx.blk,<- B.1,X])
    |cell b' i' v ty n=>simp only[Qx.lets]at B;exact this (by rw[Qx.blk,<- B.1,X])
   .have:=H.sep _ Q;rw[Qx.blk,<- X]at this;have Y:(V (.run 0)).I a.block=some (.cells c ty fr):=hI;rw[this]at Y;cases Y
  .rw[Qh _ _ e]at K;exact h.vi.sep (.run 0) k _ (Ne.symm e) (ab a X ho) K
 have hT:∀j,j≠0->(Q2 V (.run 0) E (.run j)).tok.ph=.out:=λ j f=>by rw[W j f];exact ae j f
 have L:∀j,j≠0->Zp rk 0 (some r') j=rk j:=λ j f=>Qv _ _ f;have af:Q3 V 0=none:=by unfold Q3;rw[F]
 obtain⟨g1,g2,g3⟩:=h.mux;rw[af]at g3;obtain⟨g3,g4⟩:=g3;have vm:Q2 V (.run 0) E .lck=ZL:=by rw[Qh _ _ S1];exact g4
 have S:∀j,Q3 (Q2 V (.run 0) E) j=none:=by
  intro j;by_cases e:j=0
  .subst e;unfold Q3;rw[T]
  .unfold Q3;rw[W j e];exact g3 j
 refine⟨?_,by rw[Qj];simp,?_,?_,?_,?_,?_,?_,?_,λ j f=>by rw[vd];exact h.deps j f,?_,?_,?_,⟨λ j x u _ e=>(by rw[S]at e;cases e),by rw[vm];rfl,by rw[S];exact⟨S,vm⟩⟩,λ j _=>S j⟩
 .intro j r'' _ hr'';by_cases e:j=0
  .subst e;rw[Qj]at hr'';cases hr'';exact⟨g,by rw[T];exact hJ,.inl hi⟩
  .rw[L j e]at hr'';obtain⟨x,k1,k2⟩:=h.live j r'' (λ e'=>e (Option.some.inj e').symm) hr'';exact⟨x,by rw[W j e];exact k1,by rw[W j e];exact k2⟩
 .intro j x f z _;have e:j≠0:=λ e=>by subst e;rw[Qj]at f;cases f
  rw[L j e]at f;exact h.gone j x f z (ae j e)
 .intro j f hp;have e:j≠0:=λ e=>by subst e;rw[Qj]at f;cases f
  exact absurd (hT j e) hp
 .intro j f;have e:j≠0:=by have:=(Array.getElem?_eq_some_iff.1 hi).1;omega
  rw[L j e];exact h.above j f
 .intro j f;have e:j≠0:=λ e=>by subst e;rw[Qj]at f;cases f
  rw[L j e]at f;rw[W j e];exact h.bare j f
 .intro j h0 f;rw[L j h0]at f;rw[W j h0];exact h.wk j h0 f
 .intro j f;by_cases e:j=0
  .subst e;rw[Qj];simp
  .rw[hT j e]at f;obtain⟨_,_,e'⟩:=f;cases e'
 .intro j f;by_cases e:j=0
  .subst e;rw[T];rw[h.deaf 0 h.root,F]
  .rw[L j e]at f;rw[W j e];exact h.deaf j f
 .refine⟨λ k=>?_,λ aj ak l hn hw K=>h.vi.sep aj ak l hn (hW _ _ hw) (hR _ _ K)⟩;by_cases e:k=.run 0
  .subst e;rw[T];exact ad
  .rw[Qh _ _ e];exact h.vi.ok k
 .obtain⟨rm,hti⟩:=h.ti;rw[F]at hti;refine⟨none,?_⟩;have e0:Jy (Q2 V (.run 0) E)=none:=by unfold Jy;rw[S];rfl
  rw[T,e0];have:=hti.create (b:=b) (W':=λ k=>(Q2 V (.run 0) E k).canW) (R':=λ k=>(Q2 V (.run 0) E k).canR) (λ l=>by rw[vm];exact Wk _ _) (λ l=>by rw[vm];exact Wj _ _) U ab hW hR
  have e3:(λ j=>ZO (Q2 V (.run 0) E (.run j)).tok.ph)=λ j=>ZO (V (.run j)).tok.ph:=by
   funext j;by_cases e:j=0
   .subst e;rw[T,F];refine propext ⟨?_,?_⟩ <;> (rintro⟨_,_,e⟩;cases e)
   .rw[W j e]
  rw[e3];refine this.turn (λ _ _ h=>h) (λ _ _ h=>h) ?_;rintro j (rfl|f)
  .rfl
  .apply Classical.byContradiction;intro e;exact f (hT j e)
 .unfold QK;rw[T];refine⟨ac,[],0,0,0,ah,?_,λ _ _ _=>rfl⟩;refine GI.start (λ i=>?_) U;by_cases e:i=0
  .simp[Z3,e]
  .simp only[Z3,if_neg e];exact hT i e
def MI.makeM{g:Gr}{r':Tr}{b:Nat}{x:QY}{M₁ M₂:List Qx}(h:MI P t N Stop (some 0) gs w tr V rk rel q)(hi:gs[0]?=some g)(K:(V (.run 0)).tok=⟨0,.par b [] false .run,none⟩)
  (hM:(V (.run 0)).M=.obj x.m (.cells #[Zc 0,Qq 0] x.t (0,0))::(M₁++M₂)) (hD:x.sp false false M₁) (hJ:JR (Zb P t N) Stop r' true g { (V (.run 0))with M:=M₂,tok:=⟨0,.par b [] false .run,some (.par x λ _=>false)⟩ }) :
  MI P t N Stop none gs w tr (Q2 (Q2 V (.run 0) { (V (.run 0))with M:=M₂,tok:=⟨0,.par b [] false .run,some (.par x λ _=>false)⟩ }) .lck ⟨λ _=>none,M₁,⟨0,.out,none⟩⟩) (Zp rk 0 (some r')) rel q:=by
 have hG:=h.grp;unfold QK at hG;rw[K]at hG;obtain⟨T,W,c,wt,s,ao,ac,aq⟩:=hG;have ap:W=[]:=eq_nil_of_length_eq_zero ac.len
 have af:∀j,j≠0->(V (.run j)).tok.ph=.out:=by
  intro j f;apply Classical.byContradiction;intro hn;have:=ac.inW j (.inl (by simpa[Z3,f]using hn));rw[ap]at this;cases this
 have Q:=h.vi.ok (.run 0);have am:Q3 V 0=none:=by unfold Q3;rw[K]
 obtain⟨g1,g2,g3⟩:=h.mux;rw[am]at g3;obtain⟨g3,g4⟩:=g3
 let U2:Qa Tk:={ (V (.run 0))with M:=M₂,tok:=⟨0,.par b [] false .run,some (.par x λ _=>false)⟩ }
 let z:=Q2 (Q2 V (.run 0) U2) .lck ⟨λ _=>none,M₁,⟨0,.out,none⟩⟩
 have v0:z (.run 0)=U2:=by show Q2 _ _ _ _=_;rw[Qh _ _ S1,Ql]
 have v2:∀j,j≠0->z (.run j)=V (.run j):=λ j f=>by show Q2 _ _ _ _=_;rw[Qh _ _ S1,Qh _ _ (λ e=>f (Hd.run.inj e))]
 have vd:∀j,z (.dep j)=V (.dep j):=λ j=>by show Q2 _ _ _ _=_;rw[Qh _ _ S1,Qh _ _ S1]
 have vm:z .lck=⟨λ _=>none,M₁,⟨0,.out,none⟩⟩:=Ql ..;have S:Qx.obj x.m (.cells #[Zc 0,Qq 0] x.t (0,0))∈(V (.run 0)).M:=by rw[hM];simp
 have au:Sh x.m x.t (Zc 0) (Qq 0) w:=Q.held _ S;have aj:=Q.apart;rw[hM]at aj;obtain⟨p4,p5⟩:=pairwise_cons.1 aj;have F:∀y,y∈M₁++M₂->y∈(V (.run 0)).M:=λ y G=>by rw[hM];exact mem_cons_of_mem _ G
 have an:Qa.ok ({ (V (.run 0))with M:=M₁++M₂ }:Qa Tk) w:=⟨Q.imm,λ y G=>Q.held y (F y G),p5,λ y G=>Q.sep y (F y G)⟩;have hf:=UI (U:=({ (V (.run 0))with M:=M₁++M₂ }:Qa Tk)) (tp:=(⟨0,.par b [] false .run,some (.par x λ _=>false)⟩:Tk)) (tc:=(⟨0,.out,none⟩:Tk)) an (M₁:=M₁) (M₂:=M₂) (Perm.refl _)
 have ah:∀l,Qa.canW ({ (V (.run 0))with M:=M₁++M₂ }:Qa Tk) l->(V (.run 0)).canW l:=λ l B=>by
  obtain⟨y,G,B⟩:=Q6.1 B;exact Q6.2 ⟨y,F y G,B⟩
 have ag:∀l,Qa.canR ({ (V (.run 0))with M:=M₁++M₂ }:Qa Tk) l->(V (.run 0)).canR l:=λ l B=>by
  rcases Qy.1 B with⟨y,G,B⟩|B
  .exact Qy.2 (.inl ⟨y,F y G,B⟩)
  .exact Qy.2 (.inr B)
 have ak:∀y∈M₁++M₂,y.blk≠x.m:=by
  intro y G e;have:=p4 y G;cases y <;> simp only[Qx.apart,Qx.blk]at this e <;> exact this e.symm
 have X:QL x.m ({ (V (.run 0))with M:=M₁++M₂ }:Qa Tk):=by
  intro a L Y E;rcases Qy.1 E with⟨y,G,B⟩|⟨c,ty,fr,hI,_⟩
  .have:=ak y G;cases y with
   |obj b' o=>
    cases o <;> simp only[Qx.lets]at B;exact this (by rw[Qx.blk,<- B.1,L])
   |cell b' i' v ty n=>simp only[Qx.lets]at B;exact this (by rw[Qx.blk,<- B.1,L])
  .have:=Q.sep _ S;rw[Qx.blk,<- L]at this;have ai:(V (.run 0)).I a.block=some (.cells c ty fr):=hI;rw[this]at ai;cases ai
 have ab:∀a:Addr,a.block=x.m->a.off<2->(V (.run 0)).canW (.cell a):=λ a L Y=>Q6.2 ⟨_,S,L,Y⟩
 have av:VI (Q2 V (.run 0) ({ (V (.run 0))with M:=M₁++M₂ }:Qa Tk)) w:=h.vi.shift ⟨rfl,λ w' Z=>by
  have aa:=Z.apart;rw[hM]at aa;exact⟨⟨Z.imm,λ y G=>Z.held y (F y G),(pairwise_cons.1 aa).2,λ y G=>Z.sep y (F y G)⟩,ah,ag⟩⟩
 have aw:VI z w:=by
  have:=av.fork (k:=.run 0) (c:=.lck) (Up:=U2) (Uc:=⟨λ _=>none,M₁,⟨0,.out,none⟩⟩) (by rw[Ql];exact hf) S1
  have e:Q2 (Q2 (Q2 V (.run 0) ({ (V (.run 0))with M:=M₁++M₂ }:Qa Tk)) (.run 0) U2) .lck (⟨λ _=>none,M₁,⟨0,.out,none⟩⟩:Qa Tk)=z:=by
   funext k;by_cases e1:k=.lck
   .subst e1;rw[Ql,vm]
   .rw[Qh _ _ e1];show _=Q2 _ _ _ k;rw[Qh _ _ e1];by_cases e2:k=.run 0
    .subst e2;rw[Ql,Ql]
    .rw[Qh _ _ e2,Qh _ _ e2,Qh _ _ e2]
  rw[e]at this;exact this
 have hW:∀k l,(z k).canW l->(V k).canW l\/(k=.lck/\(V (.run 0)).canW l):=by
  intro k l B;cases k with
  |run j=>
   by_cases e:j=0
   .subst e;rw[v0]at B;exact .inl (ah l (hf.wp l B))
   .rw[v2 j e]at B;exact .inl B
  |dep j=>rw[vd]at B;exact .inl B
  |lck=>rw[vm]at B;exact .inr ⟨rfl,ah l (hf.wc l B)⟩
 have hR:∀k l,(z k).canR l->(V k).canR l\/(k=.lck/\(V (.run 0)).canR l):=by
  intro k l B;cases k with
  |run j=>
   by_cases e:j=0
   .subst e;rw[v0]at B;exact .inl (ag l (hf.rp l B))
   .rw[v2 j e]at B;exact .inl B
  |dep j=>rw[vd]at B;exact .inl B
  |lck=>rw[vm]at B;exact .inr ⟨rfl,ag l (hf.rc l B)⟩
 have ae:∀k,QL x.m (z k):=by
  intro k a L Y E;cases k with
  |run j=>
   by_cases e:j=0
   .subst e;rw[v0]at E;exact X a L Y (hf.rp _ E)
   .rw[v2 j e]at E;exact h.vi.sep (.run 0) (.run j) _ (λ e'=>e (Hd.run.inj e').symm) (ab a L Y) E
  |dep j=>rw[vd]at E;exact h.vi.sep (.run 0) (.dep j) _ S1 (ab a L Y) E
  |lck=>rw[vm]at E;exact X a L Y (hf.rc _ E)
 have H:∀j,j≠0->Zp rk 0 (some r') j=rk j:=λ j f=>Qv _ _ f
 have hT:∀j,(z (.run j)).tok.ph=(V (.run j)).tok.ph:=by
  intro j;by_cases e:j=0
  .subst e;rw[v0,K]
  .rw[v2 j e]
 have ad:Q3 z 0=some (.par x λ _=>false):=by unfold Q3;rw[v0]
 have al:∀j,j≠0->Q3 z j=none:=λ j f=>by unfold Q3;rw[v2 j f];exact g3 j
 refine⟨?_,by rw[Qj];simp,?_,?_,?_,?_,?_,?_,?_,λ j f=>by show z _=_;rw[vd];exact h.deps j f,aw,?_,?_,?_,?_⟩
 .intro j r'' _ hr'';by_cases e:j=0
  .subst e;rw[Qj]at hr'';cases hr'';exact⟨g,by show JR _ _ _ _ _ (z _);rw[v0];exact hJ,.inl hi⟩
  .rw[H j e]at hr'';obtain⟨y,k1,k2⟩:=h.live j r'' (λ e'=>e (Option.some.inj e').symm) hr'';exact⟨y,by show JR _ _ _ _ _ (z _);rw[v2 j e];exact k1,by show _\/_/\_/\SW _ (z _).tok;rw[v2 j e];exact k2⟩
 .intro j y f G _;have e:j≠0:=λ e=>by subst e;rw[Qj]at f;cases f
  rw[H j e]at f;exact h.gone j y f G (af j e)
 .intro j f hp;have e:j≠0:=λ e=>by subst e;rw[Qj]at f;cases f
  have hp:(z (.run j)).tok.ph≠.out:=hp;rw[hT]at hp;exact absurd (af j e) hp
 .intro j f;have e:j≠0:=by have:=(Array.getElem?_eq_some_iff.1 hi).1;omega
  rw[H j e];exact h.above j f
 .intro j f;have e:j≠0:=λ e=>by subst e;rw[Qj]at f;cases f
  rw[H j e]at f;show(z _).I=_/\(z _).M=_;rw[v2 j e];exact h.bare j f
 .intro j h0 f;rw[H j h0]at f;show ZO (z _).tok.ph;rw[hT];exact h.wk j h0 f
 .intro j f;have f:ZO (z (.run j)).tok.ph:=f;rw[hT]at f;by_cases e:j=0
  .subst e;rw[Qj];simp
  .rw[H j e];exact h.wk' j f
 .intro j f;show _=(z _).tok.d;by_cases e:j=0
  .subst e;rw[v0];rw[h.deaf 0 h.root,K]
  .rw[H j e]at f;rw[v2 j e];exact h.deaf j f
 .obtain⟨rm,hti⟩:=h.ti;have e0:Jy V=none:=by unfold Jy;rw[am];rfl
  have e1:Jy z=some x.m:=by unfold Jy;rw[ad];rfl
  rw[e0]at hti;refine⟨none,?_⟩;show TI (λ k=>(z k).canW) (λ k=>(z k).canR) rel (z (.run 0)).tok.ph.blk (Jy z) none (λ i=>i=0\/(z (.run i)).tok.ph≠.out) (λ i=>ZO (z (.run i)).tok.ph) w.heap.size tr;rw[e1];simp only[hT];refine hti.createM (act':=λ i=>i=0\/(V (.run i)).tok.ph≠.out) (λ j f=>?_) ab hW hR (λ l=>by rw[g4];exact Wk _ _) (λ l=>by rw[g4];exact Wj _ _);refine⟨?_,.inl rfl⟩;rcases f with rfl|f
  .rfl
  .apply Classical.byContradiction;intro e;exact f (af j e)
 .show QK t N gs w z rel;unfold QK;rw[v0];refine⟨λ k a L Y E=>?_,W,c,wt,s,ao,?_,aq⟩
  .rcases hR k _ E with h1|⟨_,h1⟩
   .exact T _ a L Y h1
   .exact T _ a L Y h1
  .have hk:Z3 z=Z3 V:=by funext j;simp only[Z3,hT]
   rw[hk];simpa only[vd]using ac
 .show JK gs w z;refine⟨λ j y u f e=>(by rw[al j f]at e;cases e),by rw[vm],?_⟩;rw[ad]
  have nl:∀j y s me lo,Q3 z j≠some (.lok y s me lo):=by
   intro j y s me lo e;by_cases ej:j=0
   .subst ej;rw[ad]at e;cases e
   .rw[al j ej]at e;cases e
  exact⟨ae,λ _=>.idle,0,0,au,rfl,λ j _ _ _ _ e=>absurd e (nl _ _ _ _ _),λ j _ _ _ _ _ _ _ _ e=>absurd e (nl _ _ _ _ _),λ s e=>(by cases e),λ _ _=>rfl,λ e=>(by cases e),λ _=>(by rw[vm];exact hD),λ j _ _ _ _ _ e=>absurd e (nl _ _ _ _ _)⟩
 grind[Qj]
def QA(P:Program)(Q:Value->Qa Tk->Prop):QJ Tk:=λ m g U=>m=true/\g.status=.running/\U.tok=⟨0,.out,none⟩/\∃v,Q v U/\∀w,U.ok w->∃es,stepG P true g w=.ended (.done v) w es/\∀e∈es,JT U w e/\H3 w e
variable{Q:Value->Qa Tk->Prop}
def QA.running:∀m g U,QA P Q m g U->g.status=.running:=λ _ _ _ h=>h.2.1
def Nx(P:Program)(t:TypeId)(N:Nat)(Stop:QJ Tk)(gs:Array Gr)(w:World)(sl:Option (Nat×Nat))(tr:Trace)(μ:List Tr×Nat)(i:Nat):Prop:=
 ∃b w' ops V' rk' rel' q',runT P (crowd gs w sl) i=(.next (crowd b w' sl),ops)/\MI P t N Stop none b w' (tr++ops) V' rk' rel' q'/\Relation.TransGen JD (QI b rk' q') μ/\WK w.os w'.os/\w'.output=w.output
def JP.nx{i:Nat}(h:JP P t N Stop gs w sl tr rk q i):Nx P t N Stop gs w sl tr (QI gs rk q) i:=
 let ⟨gs',w',ops,V',rk',rel',q',a,b,c,d⟩:=h;⟨gs',w',ops,V',rk',rel',q',a,b,.single c,d⟩
def UG(P:Program)(t:TypeId)(N:Nat)(Q:Value->Qa Tk->Prop)(gs:Array Gr)(w:World)(tr:Trace)(g:Gr):Prop:=
 ∃V rk rel q,MI P t N (QA P Q) (some 0) gs w tr V rk rel q/\QA P Q true g (V (.run 0))
def MI.alive:∀(r:Tr){i:Nat}{g:Gr}{V:Hd->Qa Tk}{rk:Nat->Option Tr},MI P t N (QA P Q) none gs w tr V rk rel q->gs[i]?=some g->g.status=.running->rk i=some r ->
  (i=0/\UG P t N Q gs w tr g)\/Nx P t N (QA P Q) gs w sl tr (QI gs rk q) i:=by
 intro r
 induction r using Tr.sub_wf.induction with
 |_ r ih=>
  intro i g V rk h hi ab X;have aw:=(Array.getElem?_eq_some_iff.1 hi).1;obtain⟨au,hJ,hg⟩:=h.live i r S1 X
  have:au=g:=by
   rcases hg with hg|⟨hg,_⟩
   .rw[hi]at hg;exact(Option.some.inj hg).symm
   .rw[hi]at hg;cases hg;cases ab
  subst this;have al:=hJ;obtain⟨U1,hs,hJ⟩:=hJ.step;have L:=h.shift X hs;have hU:Q2 V (.run i) U1 (.run i)=U1:=Ql ..;generalize Q2 V (.run i) U1=V1 at L hU;subst hU;rcases hJ with hJ|hJ|hJ
  .have hi0:i=0:=by have:=hJ.1;simpa using this
   subst hi0;exact .inl ⟨rfl,V1,rk,rel,q,L,hJ⟩
  .exact .inr (L.priv QA.running hi X hJ).nx
  .have hJ:QD P t N _ (i==0) au (V1 (.run i)):=hJ;generalize hm:(i==0)=m at hJ
   have par:∀{d b ds pend k mu},i=0->(V1 (.run i)).tok=⟨d,.par b ds pend k,mu⟩->(∀j,QL b (V1 j))/\∃W c wt s,Sh b t (Q1 c wt) (Qq s) w/\GI N b ds pend k (Z3 V1) rel (λ i=>(V1 (.dep i)).M) W c wt s:=by
    intro d b ds pend k mu I z;subst I;obtain⟨bd,aq,k',e1,e2,W,c,wt,s,e3,e4,_⟩:=L.par' (b:=b) (by rw[z];rfl);rw[z]at e1;cases e1;exact⟨e2,W,c,wt,s,e3,e4⟩
   have az:rk i≠none:=by rw[X];simp
   have T:∀{d b ds pend k mu},(V1 (.run i)).tok=⟨d,.par b ds pend k,mu⟩->i=0/\m=true:=by
    intro d b ds pend k mu z
    have I:i=0:=by
     apply Classical.byContradiction;intro ao;obtain⟨_,_,e⟩:=L.wk i ao az;rw[z]at e;cases e
    exact⟨I,by subst I;exact hm.symm⟩
   have bb:(V1 (.run i)).tok=⟨0,.out,none⟩->i=0/\m=true:=by
    intro z
    have I:i=0:=by
     apply Classical.byContradiction;intro ao;obtain⟨_,_,e⟩:=L.wk i ao az;rw[z]at e;cases e
    exact⟨I,by subst I;exact hm.symm⟩
   have af:m=true->i=0:=λ e=>by subst e;simpa using hm
   have ag:m=false->i≠0:=λ e=>by subst e;simpa using hm
   have aa:i=0->∃d b ds pend k mu,((V1 (.run i)).tok=⟨d,.par b ds pend k,mu⟩\/(V1 (.run i)).tok.ph=.out):=by
    intro I;subst I;have hG:=L.grp;unfold QK at hG;generalize(V1 (.run 0)).tok=tk at hG;obtain⟨d,p,mu⟩:=tk;cases p with
    |out=>exact⟨0,0,[],false,.run,none,.inr rfl⟩
    |par b ds pend k=>exact⟨d,b,ds,pend,k,mu,.inl rfl⟩
    |_=>exact hG.elim
   cases hJ with
   |quiet Y hb E F k=>
    rename_i b bs g';obtain⟨r',f,k⟩:=k;cases m with
    |true=>
     have I:=af rfl;subst I;obtain⟨d,b',ds,pend,kk,mu,z|z⟩:=aa rfl
     .rw[z]at hb;cases hb;obtain⟨B,W,c,wt,s,K,H⟩:=par rfl z;refine .inr (L.parent QA.running hi X z B K (E _ _) F S1 (deafBehind_nil _) H f ?_).nx;have:(V1 (.run 0)).at d (.par b ds pend kk)=V1 (.run 0):=Qa.at_self z;rw[this];exact k
     .rw[z]at hb;cases hb
    |false=>
     have I:=ag rfl;exact .inr (L.calm QA.running hi X I hb E F f k).nx
   |dis Y z E F k=>
    obtain⟨r',f,k⟩:=k;obtain⟨I,U⟩:=T z;subst I;subst U;obtain⟨B,W,c,wt,s,K,H⟩:=par rfl z;exact .inr (L.parent QA.running hi X z B K (E _ _) F (by intro e he;simp at he;subst he;exact .inl rfl) rfl H f k).nx
   |ena Y z E F k=>
    obtain⟨r',f,k⟩:=k;obtain⟨I,U⟩:=T z;subst I;subst U;obtain⟨B,W,c,wt,s,K,H⟩:=par rfl z;exact .inr (L.parent QA.running hi X z B K (E _ _) F (by intro e he;simp at he;subst he;exact .inl rfl) rfl H f k).nx
   |add Y z hN E=>
    obtain⟨I,U⟩:=T z;subst I;subst U;obtain⟨B,W,c,wt,s,K,H⟩:=par rfl z;obtain⟨rfl,rfl,-⟩:=H.state;have hc:=H.cN;simp at hc;obtain⟨g',bs,E,F,r',f,k⟩:=E c hc;exact .inr (L.parent QA.running hi X z B K E F (by intro e he;simp at he;rcases he with rfl|rfl <;> exact .inr (.inl ⟨0,_,O1,rfl⟩)) rfl (H.add hN) f k).nx
   |said Y z E F k=>
    rename_i mu b ds pend kk bs g' wr;obtain⟨r',f,k⟩:=k;obtain⟨I,U⟩:=T z;subst I;subst U;obtain⟨B,W,c,wt,s,K,H⟩:=par rfl z;refine .inr (L.parent QA.running (d':=1) hi X z B K (E _ _) F (by intro e he;simp at he;subst he;exact .inr (.inr ⟨rfl,1,wr,O1,rfl⟩)) (by cases wr <;> rfl) H f ?_).nx;have:(V1 (.run 0)).at 1 (.par b ds pend kk)=V1 (.run 0):=Qa.at_self z;rw[this];exact k
   |look Y z hk E=>
    rename_i mu b ds k_0 u;obtain⟨I,U⟩:=T z;subst I;subst U;obtain⟨B,W,c,wt,s,K,H⟩:=par rfl z;obtain⟨hc,rfl,rfl,-⟩:=H.seeU hk;obtain⟨g',bs,F,⟨E,⟨r',f,k⟩|⟨rfl,r',f,k⟩⟩|⟨bg,E,r',f,k⟩⟩:=E c hc
    .refine .inr (L.parent QA.running (d':=1) hi X z B K E F (by intro e he;simp at he;subst he;exact .inr (.inl ⟨0,_,O1,rfl⟩)) rfl (H.toSeen hk) f k).nx
    .exact .inr (L.parent QA.running (d':=1) hi X z B K E F (by intro e he;simp at he;subst he;exact .inr (.inl ⟨0,_,O1,rfl⟩)) rfl (H.toUp hk) f k).nx
    .exact .inr (L.parent QA.running (d':=1) hi X z B K E F (by intro e he;simp at he;rcases he with rfl|rfl <;> exact .inr (.inl ⟨0,_,O1,rfl⟩)) rfl (H.toWait hk bg) f k).nx
   |sema Y ho z h0 E=>
    rename_i mu b ds;obtain⟨I,U⟩:=T z;subst I;subst U;have ad:(V (.run 0)).tok=⟨1,.par b ds false .wait,mu⟩:=hs.1.symm.trans z;obtain⟨bd,aq,bp,e1,ap,W',c',wt',s',aj,ai,_⟩:=h.par' (b:=b) (by rw[ad];rfl);rw[ad]at e1;cases e1
    have ae:s'=0\/s'=1:=by
     rcases ai.state.2 with⟨_,_,h3,_⟩|⟨_,i0,j0,_,⟨_,_,h3⟩|⟨_,_,h3⟩⟩|⟨_,_,h3,_⟩ <;> omega
    rcases ae with rfl|rfl
    .obtain⟨bs,F,E⟩:=h0 (Q1 c' wt');have hx:MI P t N (QA P Q) (some 0) gs w tr V rk rel q:={ h with live:=λ j r _ X=>h.live j r S1 X };exact .inr (hx.block hi ab ho X ad ap aj ai E F al).nx
    .obtain⟨B,W,c,wt,s,K,H⟩:=par rfl z
     have bl:s=1:=by
      have:some (Obj.cells #[Q1 c' wt',Qq 1] t (0,0))=some (Obj.cells #[Q1 c wt,Qq s] t (0,0)):=aj.symm.trans K;simp[Qq]at this;omega
     subst bl;obtain⟨av,rfl,rfl,-⟩:=H.sema;obtain⟨g',bs,F,E,r',f,k⟩:=E;exact .inr (L.parent QA.running (d':=1) hi X z B K E F (by intro e he;simp at he;rcases he with rfl|rfl|rfl|rfl <;> first|exact .inl rfl|exact .inr (.inl ⟨1,_,O1,rfl⟩)) rfl av f k).nx
   |look2 Y z F E k=>
    rename_i mu b ds bs g';obtain⟨r',f,k⟩:=k;obtain⟨I,U⟩:=T z;subst I;subst U;obtain⟨B,W,c,wt,s,K,H⟩:=par rfl z;obtain⟨-,rfl,rfl,rfl,-⟩:=H.up;refine .inr (L.parent QA.running (d':=1) hi X z B K E F (by intro e he;simp at he;subst he;exact .inr (.inl ⟨0,_,O1,rfl⟩)) rfl H f ?_).nx;have:(V1 (.run 0)).at 1 (.par b ds false .up)=V1 (.run 0):=Qa.at_self z;rw[this];exact k
   |acq Y z F E k=>
    obtain⟨I,U⟩:=T z;subst I;subst U;obtain⟨B,W,c,wt,s,K,H⟩:=par rfl z
    have bm:V1 .lck=ZL:=by
     have g3:=L.mux.2.2;rw[show Q3 V1 0=none by unfold Q3;rw[z]]at g3;exact g3.2
    refine .inr (L.take QA.running hi X z K H E F λ Ms am=>?_).nx;obtain⟨r',f,k⟩:=k Ms am;refine⟨r',f,?_⟩
    have:({ (V1 (.run 0))with M:=((V1 (.run 0)).M++Ms.flatten)++(V1 .lck).M,tok:=⟨0,.out,none⟩ }:Qa Tk)=((V1 (.run 0)).with Ms.flatten).at 0 .out:=by
     rw[bm];simp only[ZL,Qa.bare,append_nil,Qa.at,Qa.with];rw[z]
    rw[this];exact k
   |acqM Y z F E k=>
    rename_i b ds bs g' x u;obtain⟨I,U⟩:=T z;subst I;subst U;obtain⟨B,W,c,wt,s,K,H⟩:=par rfl z
    have Z:x.sp (u false) (u true) (V1 .lck).M:=by
     have g3:=L.mux.2.2;rw[show Q3 V1 0=some (.par x u) by unfold Q3;rw[z]]at g3;obtain⟨-,lp,st,sm,hx⟩:=g3;have ax:=H.up.2.2.2.2.1
     have bi:∀j y s me lo,Q3 V1 j≠some (.lok y s me lo):=by
      intro j y s me lo e;by_cases ej:j=0
      .subst ej;unfold Q3 at e;rw[z]at e;cases e
      .have hrj:rk j=none:=by
        cases bk:rk j with
        |none=>rfl
        |some bq=>
         obtain⟨_,_,e'⟩:=L.wk j ej (by rw[bk];simp);have:=ax j;simp only[Z3,if_neg ej]at this;rw[e']at this;cases this
       rw[L.bareM j hrj]at e;cases e
     have bh:∀s,lp s=if u s then .fin else .idle:=by
      intro s;cases hu:u s with
      |false=>simpa using hx.idle s hu
      |true=>
       rcases hx.who s hu with h2|⟨j,me,lo,e⟩
       .simpa using h2
       .exact absurd e (bi _ _ _ _ _)
     have ah:∀s,(lp s).rels=u s/\(lp s).isOwn=false:=by
      intro s;rw[bh s];cases u s <;> exact⟨rfl,rfl⟩
     have:=hx.dep' (by rw[(ah false).2,(ah true).2];rfl);unfold QY.dep at this;rw[(ah false).1,(ah true).1]at this;exact this
    exact .inr (L.take QA.running hi X z K H E F λ Ms am=>k Ms _ am Z).nx
   |make z hM k=>
    obtain⟨r',f,k⟩:=k;obtain⟨I,U⟩:=bb z;subst I;subst U;have h2:=L.make hi z hM k;rcases ih r' f h2 hi ab (Qj ..)with h3|⟨ak,w',ops,V',rk',rel',q',a,b,c,dd⟩
    .exact .inl h3
    .refine .inr ⟨ak,w',ops,V',rk',rel',q',a,b,c.tail ?_,dd⟩;exact XI rfl aw X λ bo e=>by cases e;exact f
   |makeM z hM hD k=>
    obtain⟨r',f,k⟩:=k;obtain⟨I,U⟩:=T z;subst I;subst U;have h2:=L.makeM hi z hM hD k;rcases ih r' f h2 hi ab (Qj ..)with h3|⟨ak,w',ops,V',rk',rel',q',a,b,c,dd⟩
    .exact .inl h3
    .refine .inr ⟨ak,w',ops,V',rk',rel',q',a,b,c.tail ?_,dd⟩;exact XI rfl aw X λ bo e=>by cases e;exact f
   |mu Y z E=>
    rename_i b D x s me lo d
    have I:i≠0:=λ e=>by
     obtain⟨_,_,_,_,_,_,G|G⟩:=aa e
     .rw[z]at G;cases G
     .rw[z]at G;cases G
    have U:m=false:=by rw[<- hm];simpa using I
    subst U;obtain⟨u,lp,st,sm,k0,B,hx,rfl,ac,-⟩:=L.lock (i:=i) (x:=x) (s:=s) (me:=me) (lo:=lo) (by unfold Q3;rw[z]);obtain⟨g',bs,es,me',st',sm',d',lo',a0,a1,a2,a3,a4,a5,a6,a7,a8,a9,bc,r',f,k⟩:=E (lp (!s)) st sm ac (by rw[<- Hq];exact hx.word);exact .inr (MI.mu QA.running a0 L hi X I z k0 B hx a2 a1 a3 a4 a5 a6.symm a8 a9 bc f k).nx
   |mblk Y ho z be bf=>
    rename_i b D x s lo d
    have I:i≠0:=λ e=>by
     obtain⟨_,_,_,_,_,_,G|G⟩:=aa e
     .rw[z]at G;cases G
     .rw[z]at G;cases G
    have U:m=false:=by rw[<- hm];simpa using I
    subst U;have ad:(V (.run i)).tok=⟨d,.wrk b D,some (.lok x s .wai lo)⟩:=hs.1.symm.trans z;obtain⟨u,lp,st,sm,k0,B,hx,S,ac,-⟩:=h.lock (i:=i) (x:=x) (s:=s) (me:=.wai) (lo:=lo) (by unfold Q3;rw[ad]);have hw:=hx.word;rw[Hq _ s,<- S]at hw
    have ae:sm=0\/(st=2/\sm=1/\lp (!s)=.fin):=by
     revert hw
     cases lp (!s)with
     |own v=>cases v <;> simp[LP.word] <;> omega
     |_=>simp[LP.word] <;> omega
    rcases ae with rfl|⟨rfl,rfl,hq⟩
    .obtain⟨bs,F,E⟩:=be (Zc st);have bn:MI P t N (QA P Q) (some i) gs w tr V rk rel q:={ h with live:=λ j r _ X=>h.live j r S1 X };exact .inr (bn.mblk hi ab ho X I ad k0 B hx E F (by rw[show(i==0)=false by simpa using I]at al;exact al)).nx
    .obtain⟨u,lp,st,sm,k0,B,hx',S,ac,-⟩:=L.lock (i:=i) (x:=x) (s:=s) (me:=.wai) (lo:=lo) (by unfold Q3;rw[z]);have e2:some (Obj.cells #[Zc 2,Qq 1] x.t (0,0))=some (Obj.cells #[Zc st,Qq sm] x.t (0,0)):=hx.sh.symm.trans hx'.sh
     have e3:st=2/\sm=1:=by
      simp[Zc,Qq]at e2;omega
     obtain⟨rfl,rfl⟩:=e3;have ba:=hx'.word;rw[Hq _ s,<- S]at ba
     have ay:lp (!s)=.fin:=by
      revert ba
      cases lp (!s)with
      |own v=>cases v <;> simp[LP.word]
      |_=>simp[LP.word]
     obtain⟨g',bs,F,E,r',f,k⟩:=bf;rw[S]at z;refine .inr (MI.mu (me':=.wok) (lo':=2) (st':=2) (sm':=0) QA.running (by rw[ay];exact Nat.le_refl _) L hi X I z k0 B hx' E F (by rw[ay];rfl) (by rw[<- S];exact Nat.le_refl _) (by rw[<- S];rfl) (by rw[<- S];rfl) (by intro e he;simp at he;rcases he with rfl|rfl|rfl|rfl <;> first|exact .inl rfl|exact .inr ⟨1,_,O1,rfl⟩) rfl (.inr (.inl rfl)) f k).nx
   |macq Y z F E k=>
    rename_i b D x s lo bs g'
    have I:i≠0:=λ e=>by
     obtain⟨_,_,_,_,_,_,G|G⟩:=aa e
     .rw[z]at G;cases G
     .rw[z]at G;cases G
    have U:m=false:=by rw[<- hm];simpa using I
    subst U;obtain⟨u,lp,st,sm,k0,B,hx,S,ac,-⟩:=L.lock (i:=i) (x:=x) (s:=s) (me:=.got) (lo:=lo) (by unfold Q3;rw[z]);have hw:=hx.word;rw[Hq _ s,<- S]at hw;have bj:=(LP.word_own hw).2;have Z:=hx.dep' (by rw[YK _ s,<- S,bj];rfl)
    have Z:x.sp (if s then(lp (!s)).rels else false) (if s then false else(lp (!s)).rels) (V1 .lck).M:=by
     unfold QY.dep at Z;cases s
     .rw[<- S]at Z;exact Z
     .rw[<- S]at Z;exact Z
    obtain⟨r',f,k⟩:=k _ _ Z;rw[S]at z;exact .inr (L.macq QA.running hi X I z S.symm ac k0 B hx E F f k).nx
   |mrel Y z F hM hD E k=>
    rename_i b D x s lo v bs g' M₁ M₂
    have I:i≠0:=λ e=>by
     obtain⟨_,_,_,_,_,_,G|G⟩:=aa e
     .rw[z]at G;cases G
     .rw[z]at G;cases G
    have U:m=false:=by rw[<- hm];simpa using I
    subst U;obtain⟨u,lp,st,sm,k0,B,hx,S,ac,-⟩:=L.lock (i:=i) (x:=x) (s:=s) (me:=.own v) (lo:=lo) (by unfold Q3;rw[z]);obtain⟨r',f,k⟩:=k;rw[S]at z;exact .inr (L.mrel QA.running hi X I z S.symm ac k0 B hx hM hD E F f k).nx
   |go Y z E hf hp hc an k k'=>
    obtain⟨br,s1,k⟩:=k;obtain⟨bt,s2,k'⟩:=k';obtain⟨I,U⟩:=T z;subst I;subst U;obtain⟨B,W,c,wt,s,K,H⟩:=par rfl z;exact .inr (L.start QA.running hi X z B K H E hf hp hc an s1 s2 k k').nx
   |lay Y z an hD F E k=>
    obtain⟨n,k⟩:=k
    have I:i≠0:=by
     intro e;subst e;obtain⟨_,_,_,_,_,_,G|G⟩:=aa rfl
     .rw[z]at G;cases G
     .rw[z]at G;cases G
    have U:m=false:=by rw[<- hm];simpa using I
    subst U;exact .inr (L.lay QA.running hi X I z an hD E F k).nx
end
section
variable{P:Program}{t:TypeId}{N:Nat}{gs:Array Gr}{w:World}{tr:Trace}{V:Hd->Qa Tk}{rk:Nat->Option Tr}{rel:Nat->Option Nat}{q:Nat->Nat}{sl:Option (Nat×Nat)}{Q:Value->Qa Tk->Prop}
theorem Sh.at{b:Nat}{st sm:Value}(h:Sh b t st sm w)(d:Nat):Sh b t st sm (w.at d):=h
theorem MI.at{ex:Option Nat}{Stop:QJ Tk}(h:MI P t N Stop ex gs w tr V rk rel q)(d:Nat):MI P t N Stop ex gs (w.at d) tr V rk rel q:=by
 refine⟨h.live,h.root,h.gone,h.tail,h.above,h.bare,h.wk,h.wk',h.deaf,h.deps,h.vi.heap rfl,h.ti,?_,h.mux.at (λ _=>rfl) rfl (λ _ z _=>z) (λ _ _ _ _ _ x=>x) (λ j x s me lo y _ B f=>⟨y,B,f⟩),h.bareM⟩;have e:=h.grp;unfold QK at e ⊢
 revert e
 cases(V (.run 0)).tok.ph with
 |par b ds pend k=>exact λ e=>e
 |_=>exact λ e=>e
def MI.status(h:MI P t N (QA P Q) none gs w tr V rk rel q){i:Nat}{g:Gr}(f:gs[i]?=some g):g.status=.running\/g.status=.blocked\/g.status=.finished:=by
 cases e:rk i with
 |some r=>
  obtain⟨B,E,F⟩:=h.live i r S1 e;have:=E.running QA.running;grind
 |none=>
  by_cases z:(V (.run i)).tok.ph=.out
  .exact(h.gone i g e f z).status.elim .inl λ x=>.inr (.inr x)
  .obtain⟨x,b,hx,_,ht⟩:=h.tail i e z;rw[f]at hx;cases hx;exact .inl ht.running
def MI.someone(h:MI P t N (QA P Q) none gs w tr V rk rel q):∃(i:Nat)(g:Gr),gs[i]?=some g/\g.status=.running:=by
 have lck:∀i r g,rk i=some r->i≠0->gs[i]?=some g->g.status≠.running->∃(i:Nat)(g:Gr),gs[i]?=some g/\g.status=.running:=by
  intro i r g hr G S Z;obtain⟨ai,T,z⟩:=h.live i r S1 hr;have K:=T.running QA.running;rcases z with z|⟨z,_,U⟩
  .simp_all
  .rcases U with⟨e,_⟩|⟨d,b,D,x,s,lo,L⟩
   .simp_all
   .have hk:Q3 V i=some (.lok x s .wai lo):=by unfold Q3;rw[L]
    obtain⟨u,lp,st,sm,k0,af,B,Y,al,-⟩:=h.lock hk;have ac:=B.slp i _ _ _ _ g hk S Z;have hw:=B.word;rw[Hq _ s,<- Y,ac]at hw
    have hq:lp (!s)≠.fin/\lp (!s)≠.idle/\lp (!s)≠.wai:=by
     refine⟨λ e=>?_,λ e=>?_,λ e=>?_⟩ <;> (rw[e]at hw;simp[LP.word]at hw)
    have hu:u (!s)=true:=by
     cases hu:u (!s)with
     |true=>rfl
     |false=>exact absurd (B.idle _ hu) hq.2.1
    rcases B.who _ hu with h1|⟨j,me,lo',e⟩
    .simp_all
    .have ej:j≠0:=λ ej=>S2
     have aa:rk j≠none:=λ hn=>by rw[h.bareM j hn]at e;cases e
     obtain⟨ae,I⟩:=Option.ne_none_iff_exists'.1 aa;obtain⟨aj,E,f⟩:=h.live j ae S1 I;have ab:=E.running QA.running;rcases f with f|⟨f,_,F⟩
     .grind
     .exfalso;rcases F with⟨e',_⟩|⟨d',b',D',x',s',ag,M⟩
      .exact ej e'
      .unfold Q3 at e;rw[M]at e;cases e;have:=(B.tk j _ _ _ _ (show Q3 V j=_ by unfold Q3;rw[M])).2.1;simp_all
 obtain⟨r,hr⟩:=Option.ne_none_iff_exists'.1 h.root;obtain⟨g,T,z⟩:=h.live 0 r S1 hr;have K:=T.running QA.running;rcases z with z|⟨z,_,U⟩
 .grind
 .rcases U with⟨-,b,ds,mu,L⟩|⟨d,b,D,x,s,lo,L⟩
  rotate_left
  .have hG:=h.grp;unfold QK at hG;simp_all
  obtain⟨ah,pend,k,e,_,W,c,wt,s,_,X,h4⟩:=h.par' (b:=b) (by rw[L];rfl);rw[L]at e;cases e;have hs:=h4 _ z S1;subst hs;obtain⟨i,S⟩:=X.someone;have G:i≠0:=λ e=>S (by simp[Z3,e]);have hp:(V (.run i)).tok.ph≠.out:=by simpa[Z3,G]using S
  cases H:rk i with
  |some r'=>
   obtain⟨x,ak,B⟩:=h.live i r' S1 H;grind
  |none=>
   obtain⟨x,b',B,_,ad⟩:=h.tail i H hp;exact⟨i,x,B,ad.running⟩
def MI.move(h:MI P t N (QA P Q) none gs w tr V rk rel q) :
  (∃o w' ops,stepT P (crowd gs w sl)=(.ended o w',ops)/\Conc.Good P (λ v W'=>∃U,Q v U/\U.ok W'/\WK w.os W'.os/\W'.output=w.output) (crowd gs w sl) o w' (tr++ops)) \/
  (∃f w' B ops V' rk' rel' q',stepT P (crowd gs w sl)=(.next (crowd f w' B),ops)/\Relation.TransGen JD (QI f rk' q') (QI gs rk q)/\MI P t N (QA P Q) none f w' (tr++ops) V' rk' rel' q'/\WK w.os w'.os/\w'.output=w.output):=by
 have ae:∀g∈gs,awake g:=by
  intro g hg;obtain⟨i,S,rfl⟩:=Array.mem_iff_getElem.1 hg;intro tm e;rcases h.status (Array.getElem?_eq_getElem S)with x|x|x <;> rw[e]at x <;> cases x
 obtain⟨i,g,d,B,S,I,aa⟩:=crowd_pick (P:=P) (w:=w) (sl:=sl) ae h.someone;have hd:=h.at d
 have fin:Nx P t N (QA P Q) gs (w.at d) B tr (QI gs rk q) i->∃f w' B ops V' rk' rel' q',stepT P (crowd gs w sl)=(Stepped.next (crowd f w' B),ops)/\Relation.TransGen JD (QI f rk' q') (QI gs rk q)/\MI P t N (QA P Q) none f w' (tr++ops) V' rk' rel' q'/\WK w.os w'.os/\w'.output=w.output:=by
  rintro⟨f,w',ops,V',rk',rel',q',a,b,c,dd⟩;exact⟨f,w',B,ops,V',rk',rel',q',aa.trans a,c,b,dd⟩
 cases hr:rk i with
 |none=>
  by_cases X:(V (.run i)).tok.ph=.out
  .exact .inr (fin (hd.leaver QA.running S I hr X).nx)
  .exact .inr (fin (hd.tailStep QA.running S hr X).nx)
 |some r=>
  rcases MI.alive r (sl:=B) hd S I hr with⟨rfl,V',rk',rel',q',H,_,_,K,v,hq,T⟩|hn
  .left;have W:=H.vi.ok (.run 0);obtain⟨es,aj,af⟩:=T _ W;have hG:=H.grp;unfold QK at hG;rw[K]at hG;obtain⟨M,Z⟩:=hG
   have ai:∀j,j≠0->rk' j=none:=by
    intro j E;cases e:rk' j with
    |none=>rfl
    |some r=>
     obtain⟨b,D,e'⟩:=H.wk j E (by rw[e];simp);rw[M j E]at e';cases e'
   obtain⟨rm,ac⟩:=H.ti;have ag:∀b,Jy V'=some b->b<(w.at d).heap.size/\QL b (V' (.run 0)):=λ b F=>⟨(H.mux.mb F).1,(H.mux.mb F).2.1 _⟩;have ab:TI _ _ _ _ _ _ _ _ _ (tr++MemOp.ofEvents 0 g.frame.fn g.frame.place es):=Ee (fn:=g.frame.fn) (pos:=g.frame.place) ac H.vi (λ b F=>by rw[K]at F;cases F) ag af (.refl _ _) (.inl rfl)
   have L:∀j,j≠0->Deaf (tr++MemOp.ofEvents 0 g.frame.fn g.frame.place es) j=Deaf tr j:=by
    intro j E;refine Deaf_other tr (Ne.symm E) _ ?_;intro op ah;obtain⟨e,_,rfl⟩:=Go.Conc.mem_ofEvents ah;rfl
   have Y:∀j x,j≠0->gs[j]?=some x->QuitsD P (q' j) (Deaf tr j) x:=λ j x E G=>H.gone j x (ai j E) G (M j E);refine⟨.done v,w.at d,_,aa.trans (ConcN.runT_crowd_ended S aj),v,rfl,⟨_,hq,W,.refl _,rfl⟩,ab.clean,?_,⟨?_,rfl⟩,?_⟩
   .intro j x G hne hc;rcases ab.hand j x G hne hc with⟨b,D,e⟩|⟨r,e,_⟩|⟨p,z,X,hz,F⟩
    .by_cases e0:x=0
     .exact absurd e0 hne
     .rw[M x e0]at e;cases e
    .rw[Z]at e;cases e
    .refine⟨p,by simp[Trace.g?,X,hz],?_⟩;rcases F with rfl|F
     .simp only[Trace.g?,X,Option.map_some,Option.some.injEq]at G;exact absurd (G.symm.trans hz) hne
     .exact F
   .intro x G;obtain⟨j,E,ad⟩:=mem_iff_getElem.1 G;rw[getElem_drop]at ad
    have:gs[1+j]?=some x:=by
     rw[<- ad];simp only[crowd]at E ⊢;have:1+j<gs.size:=by simp at E;omega
     simp[this]
    exact⟨_,(Y (1+j) x O1 this).leaves⟩
   .intro j x G E;have:=Y j x E G;refine⟨q' j,?_⟩;have e:(tr++MemOp.ofEvents 0 g.frame.fn g.frame.place es).deaf j (tr++MemOp.ofEvents 0 g.frame.fn g.frame.place es).size=Deaf tr j:=L j E;rw[e];exact this.hears _
  simp_all
def FN{e b:Value->World->Prop}{m:Machine}{o:Outcome}{w':World}{f:Trace}(h:Conc.Good P e m o w' f)(w:∀v W',e v W'->b v W'):Conc.Good P b m o w' f:=
 h.elim λ v x=>⟨v,x.1,w v _ x.2.1,x.2.2⟩
def runs(h:MI P t N (QA P Q) none gs w tr V rk rel q) :
  ∃n last o w' e,runNT P (n+1) (crowd gs w sl) tr=(.ended o w',e)/\runN P n (crowd gs w sl)=.next last/\step P last=.ended o w'/\Conc.Good P (λ v W'=>∃U,Q v U/\U.ok W'/\WK w.os W'.os/\W'.output=w.output) last o w' e:=by
 have key:∀(μ:List Tr×Nat)gs w sl tr V rk rel q,QI gs rk q=μ->MI P t N (QA P Q) none gs w tr V rk rel q ->
   ∃n last o w' e,runNT P (n+1) (crowd gs w sl) tr=(.ended o w',e)/\runN P n (crowd gs w sl)=.next last/\step P last=.ended o w'/\Conc.Good P (λ v W'=>∃U,Q v U/\U.ok W'/\WK w.os W'.os/\W'.output=w.output) last o w' e:=by
  intro μ
  induction μ using(WellFounded.transGen oi).induction with
  |_ μ L=>
   intro gs w sl tr V rk rel q K h;rcases h.move (sl:=sl)with⟨o,w',ops,E,I⟩|⟨z,w',F,ops,V',rk',rel',q',E,G,H,B,f⟩
   .exact⟨0,crowd gs w sl,o,w',tr++ops,by simp[runNT,E],rfl,by simp[step,E],I⟩
   .obtain⟨n,last,o,w'',e,k1,k2,k3,k4⟩:=L _ (K▸G) z w' F (tr++ops) V' rk' rel' q' rfl H;exact⟨n+1,last,o,w'',e,by grind[runNT_succ_next],by grind[runN_succ_next],k3,FN k4 λ v W'⟨U,a,b,c,d⟩=>⟨U,a,b,B.trans c,d.trans f⟩⟩
 exact key _ gs w sl tr V rk rel q rfl h
def AJ{g:Gr}{U:Qa Tk}{r:Tr}(Y:JR (Zb P t N) (QA P Q) r true g U)(T:U.ok w)(f:U.tok=⟨0,.out,none⟩) :
  MI P t N (QA P Q) none #[g] w #[] (Q2 (λ _=>ZL) (.run 0) U) (Zp (λ _=>none) 0 (some r)) (λ _=>none) (λ _=>0):=by
 have W:Q2 (λ _=>ZL) (.run 0) U (.run 0)=U:=Ql ..;have E:∀j,j≠0->Q2 (λ _=>ZL) (.run 0) U (.run j)=ZL:=λ j L=>Qh _ _ (λ e=>L (Hd.run.inj e));have G:∀k,k≠.run 0->Q2 (λ _=>ZL) (.run 0) U k=ZL:=λ k M=>Qh _ _ M;have Z:∀j,Deaf #[] j=0:=λ _=>rfl
 have no:∀i a,touchAt #[] i≠some a:=by
  intro i a h;obtain⟨x,V,_⟩:=touch_of h;simp at V
 have H:∀j,Q3 (Q2 (λ _=>ZL) (.run 0) U) j=none:=by
  intro j;unfold Q3;by_cases e:j=0
  .simp_all
  .rw[E j e];rfl
 have X:Q2 (λ _=>ZL) (.run 0) U .lck=ZL:=G _ S1;refine⟨?_,by rw[Qj];simp,?_,?_,?_,?_,?_,?_,?_,?_,?_,⟨none,?_⟩,?_,⟨λ j x u _ e=>S2,by rw[X];rfl,S2⟩,λ j _=>H j⟩
 .grind[Qj,Qv]
 .grind[Qj,Array.getElem?_eq_none]
 .intro i F hp;have e:i≠0:=λ e=>S2
  rw[E i e]at hp;exact absurd rfl hp
 .grind[Qv]
 .intro i F;have e:i≠0:=λ e=>by grind[Qj]
  rw[E i e];exact⟨rfl,rfl⟩
 .grind[Qv,absurd]
 .intro i z;by_cases e:i=0
  .grind[Qj]
  .rw[E i e]at z;obtain⟨_,_,e⟩:=z;cases e
 .grind[Qv,absurd]
 .simp_all
 .refine⟨λ k=>?_,λ B I l S z F=>?_⟩
  .by_cases e:k=.run 0
   .simp_all
   .rw[G k e];exact Ki _ _
  .by_cases e:B=.run 0
   .subst e;rw[G I (Ne.symm S)]at F;exact Wj _ _ F
   .rw[G B e]at z;exact Wk _ _ z
 .refine⟨λ said=>?_,λ k i a h=>absurd h (no i a),λ op h=>by simp at h,λ i a h=>?_,λ i a h=>absurd h (no i a),λ i a h=>absurd h (no i a),λ g r h=>(by cases h),λ i g h=>?_,λ i a h=>absurd h (no i a),λ i a h=>absurd h (no i a),λ r h=>(by cases h)⟩
  .rintro⟨i,j,_,⟨a,b,ha,_⟩,_⟩;exact no i a ha
  .simp[Trace.act?]at h
  grind[Trace.g?]
 .unfold QK;rw[W,f];exact⟨λ i K=>by rw[E i K];rfl,λ _=>rfl⟩
def J.runs{g:Gr}{U:Qa Tk}(e:J (Zb P t N) (QA P Q) true g U)(f:U.ok w)(b:U.tok=⟨0,.out,none⟩) :
  ∃n last o w' h,runNT P (n+1) (solo g w) #[]=(.ended o w',h)/\runN P n (solo g w)=.next last/\step P last=.ended o w'/\Conc.Good P (λ v W'=>∃U,Q v U/\U.ok W'/\WK w.os W'.os/\W'.output=w.output) last o w' h:=by
 obtain⟨r,e⟩:=e.rank;rw[solo_eq_crowd];exact TM.runs (AJ e f b)
end
end Go.TM

