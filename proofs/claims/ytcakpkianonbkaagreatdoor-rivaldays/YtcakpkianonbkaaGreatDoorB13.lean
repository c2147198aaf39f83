/- Lemmas. No conditions. -/
import Derived.Test.YtcakpkianonbkaaGreatDoorB12
set_option linter.all false
open List
namespace Go.TM
open Go.Conc
section
variable{P:Program}{t:TypeId}{N:Nat}{Stop:QJ Tk}{gs:Array Gr}{w:World}{tr:Trace}{V V':Hd->Qa Tk}{rk:Nat->Option Tr}{rel:Nat->Option Nat}{q:Nat->Nat}{sl:Option (Nat×Nat)}
def MI.make{g:Gr}{r':Tr}{b:Nat}{M₁ M₂:List Qw}(h:MI P t N Stop (some 0) gs w tr V rk rel q)(hi:gs[0]?=some g)(G:(V (.run 0)).tok=⟨0,.out,none⟩)
  (hM:(V (.run 0)).M=M₁++.obj b (.cells #[Q2 0 0,Qq 0] t (0,0))::M₂) (hJ:JR (Zd P t N) Stop r' true g { (V (.run 0))with M:=M₁++M₂,tok:=⟨0,.par b [] false .run,none⟩ }) :
  MI P t N Stop none gs w tr (Q3 V (.run 0) { (V (.run 0))with M:=M₁++M₂,tok:=⟨0,.par b [] false .run,none⟩ }) (Zt rk 0 (some r')) rel q:=by
 have hG:=h.grp;unfold QI at hG;rw[G]at hG;obtain⟨af,W⟩:=hG;have K:=h.vi.ok (.run 0)
 let F:Qa Tk:={ (V (.run 0))with M:=M₁++M₂,tok:=⟨0,.par b [] false .run,none⟩ }
 have U:Q3 V (.run 0) F (.run 0)=F:=Ql ..;have X:∀j,j≠0->Q3 V (.run 0) F (.run j)=V (.run j):=λ j z=>Qh _ _ (λ e=>z (Hd.run.inj e));have vd:∀j,Q3 V (.run 0) F (.dep j)=V (.dep j):=λ j=>Qh _ _ S1
 have H:∀x,x∈M₁++M₂->x∈(V (.run 0)).M:=by
  intro x B;rw[hM];rcases mem_append.1 B with B|B
  .exact mem_append_left _ B
  .exact mem_append_right _ (mem_cons_of_mem _ B)
 have S:Qw.obj b (.cells #[Q2 0 0,Qq 0] t (0,0))∈(V (.run 0)).M:=by rw[hM];simp
 have ai:Sh b t (Q2 0 0) (Qq 0) w:=K.held _ S
 have aj:∀l,F.canW l->(V (.run 0)).canW l:=λ l E=>by
  obtain⟨x,B,E⟩:=Q8.1 E;exact Q8.2 ⟨x,H x B,E⟩
 have ah:∀l,F.canR l->(V (.run 0)).canR l:=λ l E=>by
  rcases Qz.1 E with⟨x,B,E⟩|E
  .exact Qz.2 (.inl ⟨x,H x B,E⟩)
  .exact Qz.2 (.inr E)
 have aa:=K.apart;rw[hM]at aa;obtain⟨p1,p2,p3⟩:=pairwise_append.1 aa;obtain⟨p4,p5⟩:=pairwise_cons.1 p2
 have ab:∀x∈M₁++M₂,x.blk≠b:=by
  intro x B e;rcases mem_append.1 B with B|B
  .have:=p3 x B (.obj b (.cells #[Q2 0 0,Qq 0] t (0,0))) S1;cases x <;> simp only[Qw.apart,Qw.blk]at this e <;> exact this e
  .have:=p4 x B;cases x <;> simp only[Qw.apart,Qw.blk]at this e <;> exact this e.symm
 have ae:F.ok w:=⟨K.imm,λ x B=>K.held x (H x B),pairwise_append.2 ⟨p1,p5,λ x B y hy=>p3 x B y (mem_cons_of_mem _ hy)⟩,λ x B=>K.sep x (H x B)⟩;have ac:∀a:Addr,a.block=b->a.off<2->(V (.run 0)).canW (.cell a):=λ a Y ho=>Q8.2 ⟨_,S,Y,ho⟩
 have hW:∀k l,(Q3 V (.run 0) F k).canW l->(V k).canW l:=by
  intro k l E;by_cases e:k=.run 0
  .subst e;rw[U]at E;exact aj l E
  .rwa [Qh _ _ e]at E
 have hR:∀k l,(Q3 V (.run 0) F k).canR l->(V k).canR l:=by
  intro k l E;by_cases e:k=.run 0
  .subst e;rw[U]at E;exact ah l E
  .rwa [Qh _ _ e]at E
 have ad:∀k,QK b (Q3 V (.run 0) F k):=by
  intro k a Y ho L;by_cases e:k=.run 0
  .subst e;rw[U]at L;rcases Qz.1 L with⟨x,B,E⟩|⟨c,ty,fr,hI,_⟩
   .have:=ab x B;cases x with
    |obj b' o=>
     cases o <;> simp only[Qw.lets]at E;exact this (by rw[Qw.blk,<- E.1,Y])
    |cell b' i' v ty n=>simp only[Qw.lets]at E;exact this (by rw[Qw.blk,<- E.1,Y])
   .have:=K.sep _ S;rw[Qw.blk,<- Y]at this;have Z:(V (.run 0)).I a.block=some (.cells c ty fr):=hI;rw[this]at Z;cases Z
  .rw[Qh _ _ e]at L;exact h.vi.sep (.run 0) k _ (Ne.symm e) (ac a Y ho) L
 have hT:∀j,j≠0->(Q3 V (.run 0) F (.run j)).tok.ph=.out:=λ j z=>by rw[X j z];exact af j z
 have Q:∀j,j≠0->Zt rk 0 (some r') j=rk j:=λ j z=>Qv _ _ z;have ag:Q5 V 0=none:=by unfold Q5;rw[G]
 obtain⟨g1,g2,g3⟩:=h.mux;rw[ag]at g3;obtain⟨g3,g4⟩:=g3;have vm:Q3 V (.run 0) F .lck=ZJ:=by rw[Qh _ _ S1];exact g4
 have T:∀j,Q5 (Q3 V (.run 0) F) j=none:=by
  intro j;by_cases e:j=0
  .subst e;unfold Q5;rw[U]
  .unfold Q5;rw[X j e];exact g3 j
 refine⟨?_,by rw[Qj];simp,?_,?_,?_,?_,?_,?_,?_,λ j z=>by rw[vd];exact h.deps j z,?_,?_,?_,⟨λ j x u _ e=>(by rw[T]at e;cases e),by rw[vm];rfl,by rw[T];exact⟨T,vm⟩⟩,λ j _=>T j⟩
 .intro j r'' _ hr'';by_cases e:j=0
  .subst e;rw[Qj]at hr'';cases hr'';exact⟨g,by rw[U];exact hJ,.inl hi⟩
  .rw[Q j e]at hr'';obtain⟨x,k1,k2⟩:=h.live j r'' (λ e'=>e (Option.some.inj e').symm) hr'';exact⟨x,by rw[X j e];exact k1,by rw[X j e];exact k2⟩
 .intro j x z B _;have e:j≠0:=λ e=>by subst e;rw[Qj]at z;cases z
  rw[Q j e]at z;exact h.gone j x z B (af j e)
 .intro j z hp;have e:j≠0:=λ e=>by subst e;rw[Qj]at z;cases z
  exact absurd (hT j e) hp
 .intro j z;have e:j≠0:=by have:=(Array.getElem?_eq_some_iff.1 hi).1;omega
  rw[Q j e];exact h.above j z
 .intro j z;have e:j≠0:=λ e=>by subst e;rw[Qj]at z;cases z
  rw[Q j e]at z;rw[X j e];exact h.bare j z
 .intro j h0 z;rw[Q j h0]at z;rw[X j h0];exact h.wk j h0 z
 .intro j z;by_cases e:j=0
  .subst e;rw[Qj];simp
  .rw[hT j e]at z;obtain⟨_,_,e'⟩:=z;cases e'
 .intro j z;by_cases e:j=0
  .subst e;rw[U];rw[h.deaf 0 h.root,G]
  .rw[Q j e]at z;rw[X j e];exact h.deaf j z
 .refine⟨λ k=>?_,λ ak al l hn hw L=>h.vi.sep ak al l hn (hW _ _ hw) (hR _ _ L)⟩;by_cases e:k=.run 0
  .subst e;rw[U];exact ae
  .rw[Qh _ _ e];exact h.vi.ok k
 .obtain⟨rm,hti⟩:=h.ti;rw[G]at hti;refine⟨none,?_⟩;have e0:Jz (Q3 V (.run 0) F)=none:=by unfold Jz;rw[T];rfl
  rw[U,e0];have:=hti.create (b:=b) (W':=λ k=>(Q3 V (.run 0) F k).canW) (R':=λ k=>(Q3 V (.run 0) F k).canR) (λ l=>by rw[vm];exact Wn _ _) (λ l=>by rw[vm];exact Wm _ _) W ac hW hR
  have e3:(λ j=>ZP (Q3 V (.run 0) F (.run j)).tok.ph)=λ j=>ZP (V (.run j)).tok.ph:=by
   funext j;by_cases e:j=0
   .subst e;rw[U,G];refine propext ⟨?_,?_⟩ <;> (rintro⟨_,_,e⟩;cases e)
   .rw[X j e]
  rw[e3];refine this.turn (λ _ _ h=>h) (λ _ _ h=>h) ?_;rintro j (rfl|z)
  .rfl
  .apply Classical.byContradiction;intro e;exact z (hT j e)
 .unfold QI;rw[U];refine⟨ad,[],0,0,0,ai,?_,λ _ _ _=>rfl⟩;refine GI.start (λ i=>?_) W;by_cases e:i=0
  .simp[Z9,e]
  .simp only[Z9,if_neg e];exact hT i e
def MI.makeM{g:Gr}{r':Tr}{b:Nat}{x:QW}{M₁ M₂:List Qw}(h:MI P t N Stop (some 0) gs w tr V rk rel q)(hi:gs[0]?=some g)(L:(V (.run 0)).tok=⟨0,.par b [] false .run,none⟩)
  (hM:(V (.run 0)).M=.obj x.m (.cells #[Zg 0,Qq 0] x.t (0,0))::(M₁++M₂)) (hD:x.sp false false M₁) (hJ:JR (Zd P t N) Stop r' true g { (V (.run 0))with M:=M₂,tok:=⟨0,.par b [] false .run,some (.par x λ _=>false)⟩ }) :
  MI P t N Stop none gs w tr (Q3 (Q3 V (.run 0) { (V (.run 0))with M:=M₂,tok:=⟨0,.par b [] false .run,some (.par x λ _=>false)⟩ }) .lck ⟨λ _=>none,M₁,⟨0,.out,none⟩⟩) (Zt rk 0 (some r')) rel q:=by
 have hG:=h.grp;unfold QI at hG;rw[L]at hG;obtain⟨X,W,c,wt,s,ap,ad,au⟩:=hG;have aq:W=[]:=eq_nil_of_length_eq_zero ad.len
 have ah:∀j,j≠0->(V (.run j)).tok.ph=.out:=by
  intro j z;apply Classical.byContradiction;intro hn;have:=ad.inW j (.inl (by simpa[Z9,z]using hn));rw[aq]at this;cases this
 have S:=h.vi.ok (.run 0);have an:Q5 V 0=none:=by unfold Q5;rw[L]
 obtain⟨g1,g2,g3⟩:=h.mux;rw[an]at g3;obtain⟨g3,g4⟩:=g3
 let U2:Qa Tk:={ (V (.run 0))with M:=M₂,tok:=⟨0,.par b [] false .run,some (.par x λ _=>false)⟩ }
 let B:=Q3 (Q3 V (.run 0) U2) .lck ⟨λ _=>none,M₁,⟨0,.out,none⟩⟩
 have v0:B (.run 0)=U2:=by show Q3 _ _ _ _=_;rw[Qh _ _ S1,Ql]
 have v2:∀j,j≠0->B (.run j)=V (.run j):=λ j z=>by show Q3 _ _ _ _=_;rw[Qh _ _ S1,Qh _ _ (λ e=>z (Hd.run.inj e))]
 have vd:∀j,B (.dep j)=V (.dep j):=λ j=>by show Q3 _ _ _ _=_;rw[Qh _ _ S1,Qh _ _ S1]
 have vm:B .lck=⟨λ _=>none,M₁,⟨0,.out,none⟩⟩:=Ql ..;have T:Qw.obj x.m (.cells #[Zg 0,Qq 0] x.t (0,0))∈(V (.run 0)).M:=by rw[hM];simp
 have av:Sh x.m x.t (Zg 0) (Qq 0) w:=S.held _ T;have al:=S.apart;rw[hM]at al;obtain⟨p4,p5⟩:=pairwise_cons.1 al;have G:∀y,y∈M₁++M₂->y∈(V (.run 0)).M:=λ y H=>by rw[hM];exact mem_cons_of_mem _ H
 have ao:Qa.ok ({ (V (.run 0))with M:=M₁++M₂ }:Qa Tk) w:=⟨S.imm,λ y H=>S.held y (G y H),p5,λ y H=>S.sep y (G y H)⟩;have hf:=La (U:=({ (V (.run 0))with M:=M₁++M₂ }:Qa Tk)) (tp:=(⟨0,.par b [] false .run,some (.par x λ _=>false)⟩:Tk)) (tc:=(⟨0,.out,none⟩:Tk)) ao (M₁:=M₁) (M₂:=M₂) (Perm.refl _)
 have aj:∀l,Qa.canW ({ (V (.run 0))with M:=M₁++M₂ }:Qa Tk) l->(V (.run 0)).canW l:=λ l E=>by
  obtain⟨y,H,E⟩:=Q8.1 E;exact Q8.2 ⟨y,G y H,E⟩
 have ai:∀l,Qa.canR ({ (V (.run 0))with M:=M₁++M₂ }:Qa Tk) l->(V (.run 0)).canR l:=λ l E=>by
  rcases Qz.1 E with⟨y,H,E⟩|E
  .exact Qz.2 (.inl ⟨y,G y H,E⟩)
  .exact Qz.2 (.inr E)
 have am:∀y∈M₁++M₂,y.blk≠x.m:=by
  intro y H e;have:=p4 y H;cases y <;> simp only[Qw.apart,Qw.blk]at this e <;> exact this e.symm
 have Y:QK x.m ({ (V (.run 0))with M:=M₁++M₂ }:Qa Tk):=by
  intro a Q Z F;rcases Qz.1 F with⟨y,H,E⟩|⟨c,ty,fr,hI,_⟩
  .have:=am y H;cases y with
   |obj b' o=>
    cases o <;> simp only[Qw.lets]at E;exact this (by rw[Qw.blk,<- E.1,Q])
   |cell b' i' v ty n=>simp only[Qw.lets]at E;exact this (by rw[Qw.blk,<- E.1,Q])
  .have:=S.sep _ T;rw[Qw.blk,<- Q]at this;have ak:(V (.run 0)).I a.block=some (.cells c ty fr):=hI;rw[this]at ak;cases ak
 have ac:∀a:Addr,a.block=x.m->a.off<2->(V (.run 0)).canW (.cell a):=λ a Q Z=>Q8.2 ⟨_,T,Q,Z⟩
 have aw:VI (Q3 V (.run 0) ({ (V (.run 0))with M:=M₁++M₂ }:Qa Tk)) w:=h.vi.shift ⟨rfl,λ w' aa=>by
  have ab:=aa.apart;rw[hM]at ab;exact⟨⟨aa.imm,λ y H=>aa.held y (G y H),(pairwise_cons.1 ab).2,λ y H=>aa.sep y (G y H)⟩,aj,ai⟩⟩
 have ax:VI B w:=by
  have:=aw.fork (k:=.run 0) (c:=.lck) (Up:=U2) (Uc:=⟨λ _=>none,M₁,⟨0,.out,none⟩⟩) (by rw[Ql];exact hf) S1
  have e:Q3 (Q3 (Q3 V (.run 0) ({ (V (.run 0))with M:=M₁++M₂ }:Qa Tk)) (.run 0) U2) .lck (⟨λ _=>none,M₁,⟨0,.out,none⟩⟩:Qa Tk)=B:=by
   funext k;by_cases e1:k=.lck
   .subst e1;rw[Ql,vm]
   .rw[Qh _ _ e1];show _=Q3 _ _ _ k;rw[Qh _ _ e1];by_cases e2:k=.run 0
    .subst e2;rw[Ql,Ql]
    .rw[Qh _ _ e2,Qh _ _ e2,Qh _ _ e2]
  rw[e]at this;exact this
 have hW:∀k l,(B k).canW l->(V k).canW l\/(k=.lck/\(V (.run 0)).canW l):=by
  intro k l E;cases k with
  |run j=>
   by_cases e:j=0
   .subst e;rw[v0]at E;exact .inl (aj l (hf.wp l E))
   .rw[v2 j e]at E;exact .inl E
  |dep j=>rw[vd]at E;exact .inl E
  |lck=>rw[vm]at E;exact .inr ⟨rfl,aj l (hf.wc l E)⟩
 have hR:∀k l,(B k).canR l->(V k).canR l\/(k=.lck/\(V (.run 0)).canR l):=by
  intro k l E;cases k with
  |run j=>
   by_cases e:j=0
   .subst e;rw[v0]at E;exact .inl (ai l (hf.rp l E))
   .rw[v2 j e]at E;exact .inl E
  |dep j=>rw[vd]at E;exact .inl E
  |lck=>rw[vm]at E;exact .inr ⟨rfl,ai l (hf.rc l E)⟩
 have ag:∀k,QK x.m (B k):=by
  intro k a Q Z F;cases k with
  |run j=>
   by_cases e:j=0
   .subst e;rw[v0]at F;exact Y a Q Z (hf.rp _ F)
   .rw[v2 j e]at F;exact h.vi.sep (.run 0) (.run j) _ (λ e'=>e (Hd.run.inj e').symm) (ac a Q Z) F
  |dep j=>rw[vd]at F;exact h.vi.sep (.run 0) (.dep j) _ S1 (ac a Q Z) F
  |lck=>rw[vm]at F;exact Y a Q Z (hf.rc _ F)
 have K:∀j,j≠0->Zt rk 0 (some r') j=rk j:=λ j z=>Qv _ _ z
 have hT:∀j,(B (.run j)).tok.ph=(V (.run j)).tok.ph:=by
  intro j;by_cases e:j=0
  .subst e;rw[v0,L]
  .rw[v2 j e]
 have ae:Q5 B 0=some (.par x λ _=>false):=by unfold Q5;rw[v0]
 have af:∀j,j≠0->Q5 B j=none:=λ j z=>by unfold Q5;rw[v2 j z];exact g3 j
 refine⟨?_,by rw[Qj];simp,?_,?_,?_,?_,?_,?_,?_,λ j z=>by show B _=_;rw[vd];exact h.deps j z,ax,?_,?_,?_,?_⟩
 .intro j r'' _ hr'';by_cases e:j=0
  .subst e;rw[Qj]at hr'';cases hr'';exact⟨g,by show JR _ _ _ _ _ (B _);rw[v0];exact hJ,.inl hi⟩
  .rw[K j e]at hr'';obtain⟨y,k1,k2⟩:=h.live j r'' (λ e'=>e (Option.some.inj e').symm) hr'';exact⟨y,by show JR _ _ _ _ _ (B _);rw[v2 j e];exact k1,by show _\/_/\_/\Dy _ (B _).tok;rw[v2 j e];exact k2⟩
 .intro j y z H _;have e:j≠0:=λ e=>by subst e;rw[Qj]at z;cases z
  rw[K j e]at z;exact h.gone j y z H (ah j e)
 .intro j z hp;have e:j≠0:=λ e=>by subst e;rw[Qj]at z;cases z
  have hp:(B (.run j)).tok.ph≠.out:=hp;rw[hT]at hp;exact absurd (ah j e) hp
 .intro j z;have e:j≠0:=by have:=(Array.getElem?_eq_some_iff.1 hi).1;omega
  rw[K j e];exact h.above j z
 .intro j z;have e:j≠0:=λ e=>by subst e;rw[Qj]at z;cases z
  rw[K j e]at z;show(B _).I=_/\(B _).M=_;rw[v2 j e];exact h.bare j z
 .intro j h0 z;rw[K j h0]at z;show ZP (B _).tok.ph;rw[hT];exact h.wk j h0 z
 .intro j z;have z:ZP (B (.run j)).tok.ph:=z;rw[hT]at z;by_cases e:j=0
  .subst e;rw[Qj];simp
  .rw[K j e];exact h.wk' j z
 .intro j z;show _=(B _).tok.d;by_cases e:j=0
  .subst e;rw[v0];rw[h.deaf 0 h.root,L]
  .rw[K j e]at z;rw[v2 j e];exact h.deaf j z
 .obtain⟨rm,hti⟩:=h.ti;have e0:Jz V=none:=by unfold Jz;rw[an];rfl
  have e1:Jz B=some x.m:=by unfold Jz;rw[ae];rfl
  rw[e0]at hti;refine⟨none,?_⟩;show TI (λ k=>(B k).canW) (λ k=>(B k).canR) rel (B (.run 0)).tok.ph.blk (Jz B) none (λ i=>i=0\/(B (.run i)).tok.ph≠.out) (λ i=>ZP (B (.run i)).tok.ph) w.heap.size tr;rw[e1];simp only[hT];refine hti.createM (act':=λ i=>i=0\/(V (.run i)).tok.ph≠.out) (λ j z=>?_) ac hW hR (λ l=>by rw[g4];exact Wn _ _) (λ l=>by rw[g4];exact Wm _ _);refine⟨?_,.inl rfl⟩;rcases z with rfl|z
  .rfl
  .apply Classical.byContradiction;intro e;exact z (ah j e)
 .show QI t N gs w B rel;unfold QI;rw[v0];refine⟨λ k a Q Z F=>?_,W,c,wt,s,ap,?_,au⟩
  .rcases hR k _ F with h1|⟨_,h1⟩
   .exact X _ a Q Z h1
   .exact X _ a Q Z h1
  .have hk:Z9 B=Z9 V:=by funext j;simp only[Z9,hT]
   rw[hk];simpa only[vd]using ad
 .show JL gs w B;refine⟨λ j y u z e=>(by rw[af j z]at e;cases e),by rw[vm],?_⟩;rw[ae]
  have nl:∀j y s me lo,Q5 B j≠some (.lok y s me lo):=by
   intro j y s me lo e;by_cases ej:j=0
   .subst ej;rw[ae]at e;cases e
   .rw[af j ej]at e;cases e
  exact⟨ag,λ _=>.idle,0,0,av,rfl,λ j _ _ _ _ e=>absurd e (nl _ _ _ _ _),λ j _ _ _ _ _ _ _ _ e=>absurd e (nl _ _ _ _ _),λ s e=>(by cases e),λ _ _=>rfl,λ e=>(by cases e),λ _=>(by rw[vm];exact hD),λ j _ _ _ _ _ e=>absurd e (nl _ _ _ _ _)⟩
 .intro j z;have e:j≠0:=λ e=>by subst e;rw[Qj]at z;cases z
  exact af j e
def Fin(P:Program)(Q:Value->Qa Tk->Prop):QJ Tk:=λ m g U=>m=true/\g.status=.running/\U.tok=⟨0,.out,none⟩/\∃v,Q v U/\∀w,U.ok w->∃es,stepG P true g w=.ended (.done v) w es/\∀e∈es,JZ U w e/\H5 w e
variable{Q:Value->Qa Tk->Prop}
def Fin.running:∀m g U,Fin P Q m g U->g.status=.running:=λ _ _ _ h=>h.2.1
def Nx(P:Program)(t:TypeId)(N:Nat)(Stop:QJ Tk)(gs:Array Gr)(w:World)(sl:Option (Nat×Nat))(tr:Trace)(μ:List Tr×Nat)(i:Nat):Prop:=
 ∃b w' ops V' rk' rel' q',runT P (crowd gs w sl) i=(.next (crowd b w' sl),ops)/\MI P t N Stop none b w' (tr++ops) V' rk' rel' q'/\Relation.TransGen JD (QF b rk' q') μ/\WD w.os w'.os/\w'.output=w.output
def JM.nx{i:Nat}(h:JM P t N Stop gs w sl tr rk q i):Nx P t N Stop gs w sl tr (QF gs rk q) i:=
 let ⟨gs',w',ops,V',rk',rel',q',a,b,c,d⟩:=h;⟨gs',w',ops,V',rk',rel',q',a,b,.single c,d⟩
def Ends(P:Program)(t:TypeId)(N:Nat)(Q:Value->Qa Tk->Prop)(gs:Array Gr)(w:World)(tr:Trace)(g:Gr):Prop:=
 ∃V rk rel q,MI P t N (Fin P Q) (some 0) gs w tr V rk rel q/\Fin P Q true g (V (.run 0))
def MI.alive:∀(r:Tr){i:Nat}{g:Gr}{V:Hd->Qa Tk}{rk:Nat->Option Tr},MI P t N (Fin P Q) none gs w tr V rk rel q->gs[i]?=some g->g.status=.running->rk i=some r ->
  (i=0/\Ends P t N Q gs w tr g)\/Nx P t N (Fin P Q) gs w sl tr (QF gs rk q) i:=by
 intro r
 induction r using Tr.sub_wf.induction with
 |_ r ih=>
  intro i g V rk h hi ac Y;have ax:=(Array.getElem?_eq_some_iff.1 hi).1;obtain⟨av,hJ,hg⟩:=h.live i r S1 Y
  have:av=g:=by
   rcases hg with hg|⟨hg,_⟩
   .rw[hi]at hg;exact(Option.some.inj hg).symm
   .rw[hi]at hg;cases hg;cases ac
  subst this;have am:=hJ;obtain⟨U1,hs,hJ⟩:=hJ.step;have S:=h.shift Y hs;have hU:Q3 V (.run i) U1 (.run i)=U1:=Ql ..;generalize Q3 V (.run i) U1=V1 at S hU;subst hU;rcases hJ with hJ|hJ|hJ
  .have hi0:i=0:=by have:=hJ.1;simpa using this
   subst hi0;exact .inl ⟨rfl,V1,rk,rel,q,S,hJ⟩
  .exact .inr (S.priv Fin.running hi Y hJ).nx
  .have hJ:QD P t N _ (i==0) av (V1 (.run i)):=hJ;generalize hm:(i==0)=m at hJ
   have par:∀{d b ds pend k mu},i=0->(V1 (.run i)).tok=⟨d,.par b ds pend k,mu⟩->(∀j,QK b (V1 j))/\∃W c wt s,Sh b t (Q2 c wt) (Qq s) w/\GI N b ds pend k (Z9 V1) rel (λ i=>(V1 (.dep i)).M) W c wt s:=by
    intro d b ds pend k mu K B;subst K;obtain⟨be,au,k',e1,e2,W,c,wt,s,e3,e4,_⟩:=S.par' (b:=b) (by rw[B];rfl);rw[B]at e1;cases e1;exact⟨e2,W,c,wt,s,e3,e4⟩
   have ba:rk i≠none:=by rw[Y];simp
   have U:∀{d b ds pend k mu},(V1 (.run i)).tok=⟨d,.par b ds pend k,mu⟩->i=0/\m=true:=by
    intro d b ds pend k mu B
    have K:i=0:=by
     apply Classical.byContradiction;intro ap;obtain⟨_,_,e⟩:=S.wk i ap ba;rw[B]at e;cases e
    exact⟨K,by subst K;exact hm.symm⟩
   have bc:(V1 (.run i)).tok=⟨0,.out,none⟩->i=0/\m=true:=by
    intro B
    have K:i=0:=by
     apply Classical.byContradiction;intro ap;obtain⟨_,_,e⟩:=S.wk i ap ba;rw[B]at e;cases e
    exact⟨K,by subst K;exact hm.symm⟩
   have ag:m=true->i=0:=λ e=>by subst e;simpa using hm
   have ah:m=false->i≠0:=λ e=>by subst e;simpa using hm
   have ab:i=0->∃d b ds pend k mu,((V1 (.run i)).tok=⟨d,.par b ds pend k,mu⟩\/(V1 (.run i)).tok.ph=.out):=by
    intro K;subst K;have hG:=S.grp;unfold QI at hG;generalize(V1 (.run 0)).tok=tk at hG;obtain⟨d,p,mu⟩:=tk;cases p with
    |out=>exact⟨0,0,[],false,.run,none,.inr rfl⟩
    |par b ds pend k=>exact⟨d,b,ds,pend,k,mu,.inl rfl⟩
    |_=>exact hG.elim
   cases hJ with
   |quiet Z hb F G k=>
    rename_i b bs g';obtain⟨r',z,k⟩:=k;cases m with
    |true=>
     have K:=ag rfl;subst K;obtain⟨d,b',ds,pend,kk,mu,B|B⟩:=ab rfl
     .rw[B]at hb;cases hb;obtain⟨E,W,c,wt,s,L,I⟩:=par rfl B;refine .inr (S.parent Fin.running hi Y B E L (F _ _) G S1 (deafBehind_nil _) I z ?_).nx;have:(V1 (.run 0)).at d (.par b ds pend kk)=V1 (.run 0):=Qa.at_self B;rw[this];exact k
     .rw[B]at hb;cases hb
    |false=>
     have K:=ah rfl;exact .inr (S.calm Fin.running hi Y K hb F G z k).nx
   |dis Z B F G k=>
    obtain⟨r',z,k⟩:=k;obtain⟨K,X⟩:=U B;subst K;subst X;obtain⟨E,W,c,wt,s,L,I⟩:=par rfl B;exact .inr (S.parent Fin.running hi Y B E L (F _ _) G (by intro e he;simp at he;subst he;exact .inl rfl) rfl I z k).nx
   |ena Z B F G k=>
    obtain⟨r',z,k⟩:=k;obtain⟨K,X⟩:=U B;subst K;subst X;obtain⟨E,W,c,wt,s,L,I⟩:=par rfl B;exact .inr (S.parent Fin.running hi Y B E L (F _ _) G (by intro e he;simp at he;subst he;exact .inl rfl) rfl I z k).nx
   |add Z B hN F=>
    obtain⟨K,X⟩:=U B;subst K;subst X;obtain⟨E,W,c,wt,s,L,I⟩:=par rfl B;obtain⟨rfl,rfl,-⟩:=I.state;have hc:=I.cN;simp at hc;obtain⟨g',bs,F,G,r',z,k⟩:=F c hc;exact .inr (S.parent Fin.running hi Y B E L F G (by intro e he;simp at he;rcases he with rfl|rfl <;> exact .inr (.inl ⟨0,_,O1,rfl⟩)) rfl (I.add hN) z k).nx
   |said Z B F G k=>
    rename_i mu b ds pend kk bs g' wr;obtain⟨r',z,k⟩:=k;obtain⟨K,X⟩:=U B;subst K;subst X;obtain⟨E,W,c,wt,s,L,I⟩:=par rfl B;refine .inr (S.parent Fin.running (d':=1) hi Y B E L (F _ _) G (by intro e he;simp at he;subst he;exact .inr (.inr ⟨rfl,1,wr,O1,rfl⟩)) (by cases wr <;> rfl) I z ?_).nx;have:(V1 (.run 0)).at 1 (.par b ds pend kk)=V1 (.run 0):=Qa.at_self B;rw[this];exact k
   |look Z B hk F=>
    rename_i mu b ds k_0 u;obtain⟨K,X⟩:=U B;subst K;subst X;obtain⟨E,W,c,wt,s,L,I⟩:=par rfl B;obtain⟨hc,rfl,rfl,-⟩:=I.seeU hk;obtain⟨g',bs,G,⟨F,⟨r',z,k⟩|⟨rfl,r',z,k⟩⟩|⟨bh,F,r',z,k⟩⟩:=F c hc
    .refine .inr (S.parent Fin.running (d':=1) hi Y B E L F G (by intro e he;simp at he;subst he;exact .inr (.inl ⟨0,_,O1,rfl⟩)) rfl (I.toSeen hk) z k).nx
    .exact .inr (S.parent Fin.running (d':=1) hi Y B E L F G (by intro e he;simp at he;subst he;exact .inr (.inl ⟨0,_,O1,rfl⟩)) rfl (I.toUp hk) z k).nx
    .exact .inr (S.parent Fin.running (d':=1) hi Y B E L F G (by intro e he;simp at he;rcases he with rfl|rfl <;> exact .inr (.inl ⟨0,_,O1,rfl⟩)) rfl (I.toWait hk bh) z k).nx
   |sema Z ho B h0 F=>
    rename_i mu b ds;obtain⟨K,X⟩:=U B;subst K;subst X;have ae:(V (.run 0)).tok=⟨1,.par b ds false .wait,mu⟩:=hs.1.symm.trans B;obtain⟨be,au,bq,e1,aq,W',c',wt',s',ak,aj,_⟩:=h.par' (b:=b) (by rw[ae];rfl);rw[ae]at e1;cases e1
    have af:s'=0\/s'=1:=by
     rcases aj.state.2 with⟨_,_,h3,_⟩|⟨_,i0,j0,_,⟨_,_,h3⟩|⟨_,_,h3⟩⟩|⟨_,_,h3,_⟩ <;> omega
    rcases af with rfl|rfl
    .obtain⟨bs,G,F⟩:=h0 (Q2 c' wt');have hx:MI P t N (Fin P Q) (some 0) gs w tr V rk rel q:={ h with live:=λ j r _ Y=>h.live j r S1 Y };exact .inr (hx.block hi ac ho Y ae aq ak aj F G am).nx
    .obtain⟨E,W,c,wt,s,L,I⟩:=par rfl B
     have bm:s=1:=by
      have:some (Obj.cells #[Q2 c' wt',Qq 1] t (0,0))=some (Obj.cells #[Q2 c wt,Qq s] t (0,0)):=ak.symm.trans L;simp[Qq]at this;omega
     subst bm;obtain⟨aw,rfl,rfl,-⟩:=I.sema;obtain⟨g',bs,G,F,r',z,k⟩:=F;exact .inr (S.parent Fin.running (d':=1) hi Y B E L F G (by intro e he;simp at he;rcases he with rfl|rfl|rfl|rfl <;> first|exact .inl rfl|exact .inr (.inl ⟨1,_,O1,rfl⟩)) rfl aw z k).nx
   |look2 Z B G F k=>
    rename_i mu b ds bs g';obtain⟨r',z,k⟩:=k;obtain⟨K,X⟩:=U B;subst K;subst X;obtain⟨E,W,c,wt,s,L,I⟩:=par rfl B;obtain⟨-,rfl,rfl,rfl,-⟩:=I.up;refine .inr (S.parent Fin.running (d':=1) hi Y B E L F G (by intro e he;simp at he;subst he;exact .inr (.inl ⟨0,_,O1,rfl⟩)) rfl I z ?_).nx;have:(V1 (.run 0)).at 1 (.par b ds false .up)=V1 (.run 0):=Qa.at_self B;rw[this];exact k
   |acq Z B G F k=>
    obtain⟨K,X⟩:=U B;subst K;subst X;obtain⟨E,W,c,wt,s,L,I⟩:=par rfl B
    have bn:V1 .lck=ZJ:=by
     have g3:=S.mux.2.2;rw[show Q5 V1 0=none by unfold Q5;rw[B]]at g3;exact g3.2
    refine .inr (S.take Fin.running hi Y B L I F G λ Ms an=>?_).nx;obtain⟨r',z,k⟩:=k Ms an;refine⟨r',z,?_⟩
    have:({ (V1 (.run 0))with M:=((V1 (.run 0)).M++Ms.flatten)++(V1 .lck).M,tok:=⟨0,.out,none⟩ }:Qa Tk)=((V1 (.run 0)).with Ms.flatten).at 0 .out:=by
     rw[bn];simp only[ZJ,Qa.bare,append_nil,Qa.at,Qa.with];rw[B]
    rw[this];exact k
   |acqM Z B G F k=>
    rename_i b ds bs g' x u;obtain⟨K,X⟩:=U B;subst K;subst X;obtain⟨E,W,c,wt,s,L,I⟩:=par rfl B
    have aa:x.sp (u false) (u true) (V1 .lck).M:=by
     have g3:=S.mux.2.2;rw[show Q5 V1 0=some (.par x u) by unfold Q5;rw[B]]at g3;obtain⟨-,lp,st,sm,hx⟩:=g3;have ay:=I.up.2.2.2.2.1
     have bj:∀j y s me lo,Q5 V1 j≠some (.lok y s me lo):=by
      intro j y s me lo e;by_cases ej:j=0
      .subst ej;unfold Q5 at e;rw[B]at e;cases e
      .have hrj:rk j=none:=by
        cases bl:rk j with
        |none=>rfl
        |some br=>
         obtain⟨_,_,e'⟩:=S.wk j ej (by rw[bl];simp);have:=ay j;simp only[Z9,if_neg ej]at this;rw[e']at this;cases this
       rw[S.bareM j hrj]at e;cases e
     have bi:∀s,lp s=if u s then .fin else .idle:=by
      intro s;cases hu:u s with
      |false=>simpa using hx.idle s hu
      |true=>
       rcases hx.who s hu with h2|⟨j,me,lo,e⟩
       .simpa using h2
       .exact absurd e (bj _ _ _ _ _)
     have ai:∀s,(lp s).rels=u s/\(lp s).isOwn=false:=by
      intro s;rw[bi s];cases u s <;> exact⟨rfl,rfl⟩
     have:=hx.dep' (by rw[(ai false).2,(ai true).2];rfl);unfold QW.dep at this;rw[(ai false).1,(ai true).1]at this;exact this
    exact .inr (S.take Fin.running hi Y B L I F G λ Ms an=>k Ms _ an aa).nx
   |make B hM k=>
    obtain⟨r',z,k⟩:=k;obtain⟨K,X⟩:=bc B;subst K;subst X;have h2:=S.make hi B hM k;rcases ih r' z h2 hi ac (Qj ..)with h3|⟨al,w',ops,V',rk',rel',q',a,b,c,dd⟩
    .exact .inl h3
    .refine .inr ⟨al,w',ops,V',rk',rel',q',a,b,c.tail ?_,dd⟩;exact XL rfl ax Y λ bp e=>by cases e;exact z
   |makeM B hM hD k=>
    obtain⟨r',z,k⟩:=k;obtain⟨K,X⟩:=U B;subst K;subst X;have h2:=S.makeM hi B hM hD k;rcases ih r' z h2 hi ac (Qj ..)with h3|⟨al,w',ops,V',rk',rel',q',a,b,c,dd⟩
    .exact .inl h3
    .refine .inr ⟨al,w',ops,V',rk',rel',q',a,b,c.tail ?_,dd⟩;exact XL rfl ax Y λ bp e=>by cases e;exact z
   |mu Z B F=>
    rename_i b D x s me lo d
    have K:i≠0:=λ e=>by
     obtain⟨_,_,_,_,_,_,H|H⟩:=ab e
     .rw[B]at H;cases H
     .rw[B]at H;cases H
    have X:m=false:=by rw[<- hm];simpa using K
    subst X;obtain⟨u,lp,st,sm,k0,E,hx,rfl,ad,-⟩:=S.lock (i:=i) (x:=x) (s:=s) (me:=me) (lo:=lo) (by unfold Q5;rw[B]);obtain⟨g',bs,es,me',st',sm',d',lo',a0,a1,a2,a3,a4,a5,a6,a7,a8,a9,bd,r',z,k⟩:=F (lp (!s)) st sm ad (by rw[<- HI];exact hx.word);exact .inr (MI.mu Fin.running a0 S hi Y K B k0 E hx a2 a1 a3 a4 a5 a6.symm a8 a9 bd z k).nx
   |mblk Z ho B bf bg=>
    rename_i b D x s lo d
    have K:i≠0:=λ e=>by
     obtain⟨_,_,_,_,_,_,H|H⟩:=ab e
     .rw[B]at H;cases H
     .rw[B]at H;cases H
    have X:m=false:=by rw[<- hm];simpa using K
    subst X;have ae:(V (.run i)).tok=⟨d,.wrk b D,some (.lok x s .wai lo)⟩:=hs.1.symm.trans B;obtain⟨u,lp,st,sm,k0,E,hx,T,ad,-⟩:=h.lock (i:=i) (x:=x) (s:=s) (me:=.wai) (lo:=lo) (by unfold Q5;rw[ae]);have hw:=hx.word;rw[HI _ s,<- T]at hw
    have af:sm=0\/(st=2/\sm=1/\lp (!s)=.fin):=by
     revert hw
     cases lp (!s)with
     |own v=>cases v <;> simp[LP.word] <;> omega
     |_=>simp[LP.word] <;> omega
    rcases af with rfl|⟨rfl,rfl,hq⟩
    .obtain⟨bs,G,F⟩:=bf (Zg st);have bo:MI P t N (Fin P Q) (some i) gs w tr V rk rel q:={ h with live:=λ j r _ Y=>h.live j r S1 Y };exact .inr (bo.mblk hi ac ho Y K ae k0 E hx F G (by rw[show(i==0)=false by simpa using K]at am;exact am)).nx
    .obtain⟨u,lp,st,sm,k0,E,hx',T,ad,-⟩:=S.lock (i:=i) (x:=x) (s:=s) (me:=.wai) (lo:=lo) (by unfold Q5;rw[B]);have e2:some (Obj.cells #[Zg 2,Qq 1] x.t (0,0))=some (Obj.cells #[Zg st,Qq sm] x.t (0,0)):=hx.sh.symm.trans hx'.sh
     have e3:st=2/\sm=1:=by
      simp[Zg,Qq]at e2;omega
     obtain⟨rfl,rfl⟩:=e3;have bb:=hx'.word;rw[HI _ s,<- T]at bb
     have az:lp (!s)=.fin:=by
      revert bb
      cases lp (!s)with
      |own v=>cases v <;> simp[LP.word]
      |_=>simp[LP.word]
     obtain⟨g',bs,G,F,r',z,k⟩:=bg;rw[T]at B;refine .inr (MI.mu (me':=.wok) (lo':=2) (st':=2) (sm':=0) Fin.running (by rw[az];exact Nat.le_refl _) S hi Y K B k0 E hx' F G (by rw[az];rfl) (by rw[<- T];exact Nat.le_refl _) (by rw[<- T];rfl) (by rw[<- T];rfl) (by intro e he;simp at he;rcases he with rfl|rfl|rfl|rfl <;> first|exact .inl rfl|exact .inr ⟨1,_,O1,rfl⟩) rfl (.inr (.inl rfl)) z k).nx
   |macq Z B G F k=>
    rename_i b D x s lo bs g'
    have K:i≠0:=λ e=>by
     obtain⟨_,_,_,_,_,_,H|H⟩:=ab e
     .rw[B]at H;cases H
     .rw[B]at H;cases H
    have X:m=false:=by rw[<- hm];simpa using K
    subst X;obtain⟨u,lp,st,sm,k0,E,hx,T,ad,-⟩:=S.lock (i:=i) (x:=x) (s:=s) (me:=.got) (lo:=lo) (by unfold Q5;rw[B]);have hw:=hx.word;rw[HI _ s,<- T]at hw;have bk:=(LP.word_own hw).2;have aa:=hx.dep' (by rw[Di _ s,<- T,bk];rfl)
    have aa:x.sp (if s then(lp (!s)).rels else false) (if s then false else(lp (!s)).rels) (V1 .lck).M:=by
     unfold QW.dep at aa;cases s
     .rw[<- T]at aa;exact aa
     .rw[<- T]at aa;exact aa
    obtain⟨r',z,k⟩:=k _ _ aa;rw[T]at B;exact .inr (S.macq Fin.running hi Y K B T.symm ad k0 E hx F G z k).nx
   |mrel Z B G hM hD F k=>
    rename_i b D x s lo v bs g' M₁ M₂
    have K:i≠0:=λ e=>by
     obtain⟨_,_,_,_,_,_,H|H⟩:=ab e
     .rw[B]at H;cases H
     .rw[B]at H;cases H
    have X:m=false:=by rw[<- hm];simpa using K
    subst X;obtain⟨u,lp,st,sm,k0,E,hx,T,ad,-⟩:=S.lock (i:=i) (x:=x) (s:=s) (me:=.own v) (lo:=lo) (by unfold Q5;rw[B]);obtain⟨r',z,k⟩:=k;rw[T]at B;exact .inr (S.mrel Fin.running hi Y K B T.symm ad k0 E hx hM hD F G z k).nx
   |go Z B F hf hp hc ao k k'=>
    obtain⟨bt,s1,k⟩:=k;obtain⟨bu,s2,k'⟩:=k';obtain⟨K,X⟩:=U B;subst K;subst X;obtain⟨E,W,c,wt,s,L,I⟩:=par rfl B;exact .inr (S.start Fin.running hi Y B E L I F hf hp hc ao s1 s2 k k').nx
   |lay Z B ao hD G F k=>
    obtain⟨n,k⟩:=k
    have K:i≠0:=by
     intro e;subst e;obtain⟨_,_,_,_,_,_,H|H⟩:=ab rfl
     .rw[B]at H;cases H
     .rw[B]at H;cases H
    have X:m=false:=by rw[<- hm];simpa using K
    subst X;exact .inr (S.lay Fin.running hi Y K B ao hD F G k).nx
end
section
variable{P:Program}{t:TypeId}{N:Nat}{gs:Array Gr}{w:World}{tr:Trace}{V:Hd->Qa Tk}{rk:Nat->Option Tr}{rel:Nat->Option Nat}{q:Nat->Nat}{sl:Option (Nat×Nat)}{Q:Value->Qa Tk->Prop}
def Sh.at{b:Nat}{st sm:Value}(h:Sh b t st sm w)(d:Nat):Sh b t st sm (w.at d):=h
def MI.at{ex:Option Nat}{Stop:QJ Tk}(h:MI P t N Stop ex gs w tr V rk rel q)(d:Nat):MI P t N Stop ex gs (w.at d) tr V rk rel q:=by
 refine⟨h.live,h.root,h.gone,h.tail,h.above,h.bare,h.wk,h.wk',h.deaf,h.deps,h.vi.heap rfl,h.ti,?_,h.mux.at (λ _=>rfl) rfl (λ _ B _=>B) (λ _ _ _ _ _ x=>x) (λ j x s me lo y _ E z=>⟨y,E,z⟩),h.bareM⟩;have e:=h.grp;unfold QI at e ⊢
 revert e
 cases(V (.run 0)).tok.ph with
 |par b ds pend k=>exact λ e=>e
 |_=>exact λ e=>e
def MI.status(h:MI P t N (Fin P Q) none gs w tr V rk rel q){i:Nat}{g:Gr}(z:gs[i]?=some g):g.status=.running\/g.status=.blocked\/g.status=.finished:=by
 cases B:rk i with
 |some r=>
  obtain⟨F,G,e⟩:=h.live i r S1 B;have:=G.running Fin.running;rcases e with e|⟨e,_⟩
  .rw[z]at e;cases e;exact .inl this
  .rw[z]at e;cases e;exact .inr (.inl rfl)
 |none=>
  by_cases E:(V (.run i)).tok.ph=.out
  .exact(h.gone i g B z E).status.elim .inl λ x=>.inr (.inr x)
  .obtain⟨x,b,hx,_,ht⟩:=h.tail i B E;rw[z]at hx;cases hx;exact .inl ht.running
def MI.someone(h:MI P t N (Fin P Q) none gs w tr V rk rel q):∃(i:Nat)(g:Gr),gs[i]?=some g/\g.status=.running:=by
 have lck:∀i r g,rk i=some r->i≠0->gs[i]?=some g->g.status≠.running->∃(i:Nat)(g:Gr),gs[i]?=some g/\g.status=.running:=by
  intro i r g hr G S T;obtain⟨ak,hJ,E⟩:=h.live i r S1 hr;have F:=hJ.running Fin.running;rcases E with E|⟨E,_,hb⟩
  .rw[S]at E;cases E;exact absurd F T
  .rcases hb with⟨e,_⟩|⟨d,b,D,x,s,lo,K⟩
   .exact absurd e G
   .have hk:Q5 V i=some (.lok x s .wai lo):=by unfold Q5;rw[K]
    obtain⟨u,lp,st,sm,k0,ah,B,ac,al,-⟩:=h.lock hk;have ae:=B.slp i _ _ _ _ g hk S T;have hw:=B.word;rw[HI _ s,<- ac,ae]at hw
    have hq:lp (!s)≠.fin/\lp (!s)≠.idle/\lp (!s)≠.wai:=by
     refine⟨λ e=>?_,λ e=>?_,λ e=>?_⟩ <;> (rw[e]at hw;simp[LP.word]at hw)
    have hu:u (!s)=true:=by
     cases hu:u (!s)with
     |true=>rfl
     |false=>exact absurd (B.idle _ hu) hq.2.1
    rcases B.who _ hu with h1|⟨j,me,lo',e⟩
    .exact absurd h1 hq.1
    .have Y:j≠0:=λ Y=>by subst Y;rw[k0]at e;cases e
     have ad:rk j≠none:=λ hn=>by rw[h.bareM j hn]at e;cases e
     obtain⟨ag,U⟩:=Option.ne_none_iff_exists'.1 ad;obtain⟨Z,L,z⟩:=h.live j ag S1 U;have I:=L.running Fin.running;rcases z with z|⟨z,_,M⟩
     .exact⟨j,Z,z,I⟩
     .exfalso;rcases M with⟨e',_⟩|⟨d',b',D',x',s',ai,X⟩
      .exact Y e'
      .unfold Q5 at e;rw[X]at e;cases e;have:=(B.tk j _ _ _ _ (show Q5 V j=_ by unfold Q5;rw[X])).2.1;exact hq.2.2 this.symm
 obtain⟨r,hr⟩:=Option.ne_none_iff_exists'.1 h.root;obtain⟨g,hJ,E⟩:=h.live 0 r S1 hr;have F:=hJ.running Fin.running;rcases E with E|⟨E,_,hb⟩
 .exact⟨0,g,E,F⟩
 .rcases hb with⟨-,b,ds,mu,K⟩|⟨d,b,D,x,s,lo,K⟩
  rotate_left
  .have hG:=h.grp;unfold QI at hG;rw[K]at hG;exact hG.elim
  obtain⟨aj,pend,k,e,_,W,c,wt,s,_,ab,h4⟩:=h.par' (b:=b) (by rw[K];rfl);rw[K]at e;cases e;have hs:=h4 _ E S1;subst hs;obtain⟨i,S⟩:=ab.someone;have G:i≠0:=λ e=>S (by simp[Z9,e]);have hp:(V (.run i)).tok.ph≠.out:=by simpa[Z9,G]using S
  cases H:rk i with
  |some r'=>
   obtain⟨x,aa,B⟩:=h.live i r' S1 H;rcases B with B|⟨B,_⟩
   .exact⟨i,x,B,aa.running Fin.running⟩
   .exact lck i r' _ H G B S1
  |none=>
   obtain⟨x,b',B,_,af⟩:=h.tail i H hp;exact⟨i,x,B,af.running⟩
def MI.move(h:MI P t N (Fin P Q) none gs w tr V rk rel q) :
  (∃o w' ops,stepT P (crowd gs w sl)=(.ended o w',ops)/\Conc.Good P (λ v W'=>∃U,Q v U/\U.ok W'/\WD w.os W'.os/\W'.output=w.output) (crowd gs w sl) o w' (tr++ops)) \/
  (∃B w' E ops V' rk' rel' q',stepT P (crowd gs w sl)=(.next (crowd B w' E),ops)/\Relation.TransGen JD (QF B rk' q') (QF gs rk q)/\MI P t N (Fin P Q) none B w' (tr++ops) V' rk' rel' q'/\WD w.os w'.os/\w'.output=w.output):=by
 have af:∀g∈gs,awake g:=by
  intro g hg;obtain⟨i,T,rfl⟩:=Array.mem_iff_getElem.1 hg;intro tm e;rcases h.status (Array.getElem?_eq_getElem T)with x|x|x <;> rw[e]at x <;> cases x
 obtain⟨i,g,d,E,T,K,ab⟩:=crowd_pick (P:=P) (w:=w) (sl:=sl) af h.someone;have hd:=h.at d
 have fin:Nx P t N (Fin P Q) gs (w.at d) E tr (QF gs rk q) i->∃B w' E ops V' rk' rel' q',stepT P (crowd gs w sl)=(Stepped.next (crowd B w' E),ops)/\Relation.TransGen JD (QF B rk' q') (QF gs rk q)/\MI P t N (Fin P Q) none B w' (tr++ops) V' rk' rel' q'/\WD w.os w'.os/\w'.output=w.output:=by
  rintro⟨B,w',ops,V',rk',rel',q',a,b,c,dd⟩;exact⟨B,w',E,ops,V',rk',rel',q',ab.trans a,c,b,dd⟩
 cases hr:rk i with
 |none=>
  by_cases Y:(V (.run i)).tok.ph=.out
  .exact .inr (fin (hd.leaver Fin.running T K hr Y).nx)
  .exact .inr (fin (hd.tailStep Fin.running T hr Y).nx)
 |some r=>
  rcases MI.alive r (sl:=E) hd T K hr with⟨rfl,V',rk',rel',q',I,_,_,L,v,hq,W⟩|hn
  .left;have X:=I.vi.ok (.run 0);obtain⟨es,ak,ag⟩:=W _ X;have hG:=I.grp;unfold QI at hG;rw[L]at hG;obtain⟨S,aa⟩:=hG
   have aj:∀j,j≠0->rk' j=none:=by
    intro j F;cases e:rk' j with
    |none=>rfl
    |some r=>
     obtain⟨b,D,e'⟩:=I.wk j F (by rw[e];simp);rw[S j F]at e';cases e'
   obtain⟨rm,ad⟩:=I.ti;have ah:∀b,Jz V'=some b->b<(w.at d).heap.size/\QK b (V' (.run 0)):=λ b G=>⟨(I.mux.mb G).1,(I.mux.mb G).2.1 _⟩;have ac:TI _ _ _ _ _ _ _ _ _ (tr++MemOp.ofEvents 0 g.frame.fn g.frame.place es):=Nh (fn:=g.frame.fn) (pos:=g.frame.place) ad I.vi (λ b G=>by rw[L]at G;cases G) ah ag (.refl _ _) (.inl rfl)
   have M:∀j,j≠0->Deaf (tr++MemOp.ofEvents 0 g.frame.fn g.frame.place es) j=Deaf tr j:=by
    intro j F;refine Deaf_other tr (Ne.symm F) _ ?_;intro op ai;obtain⟨e,_,rfl⟩:=Go.Conc.mem_ofEvents ai;rfl
   have Z:∀j x,j≠0->gs[j]?=some x->QuitsD P (q' j) (Deaf tr j) x:=λ j x F H=>I.gone j x (aj j F) H (S j F);refine⟨.done v,w.at d,_,ab.trans (ConcN.runT_crowd_ended T ak),v,rfl,⟨_,hq,X,.refl _,rfl⟩,ac.clean,?_,⟨?_,rfl⟩,?_⟩
   .intro j x H hne hc;rcases ac.hand j x H hne hc with⟨b,D,e⟩|⟨r,e,_⟩|⟨p,z,Y,hz,G⟩
    .by_cases e0:x=0
     .exact absurd e0 hne
     .rw[S x e0]at e;cases e
    .rw[aa]at e;cases e
    .refine⟨p,by simp[Trace.g?,Y,hz],?_⟩;rcases G with rfl|G
     .simp only[Trace.g?,Y,Option.map_some,Option.some.injEq]at H;exact absurd (H.symm.trans hz) hne
     .exact G
   .intro x H;obtain⟨j,F,ae⟩:=mem_iff_getElem.1 H;rw[getElem_drop]at ae
    have:gs[1+j]?=some x:=by
     rw[<- ae];simp only[crowd]at F ⊢;have:1+j<gs.size:=by simp at F;omega
     simp[this]
    exact⟨_,(Z (1+j) x O1 this).leaves⟩
   .intro j x H F;have:=Z j x F H;refine⟨q' j,?_⟩;have e:(tr++MemOp.ofEvents 0 g.frame.fn g.frame.place es).deaf j (tr++MemOp.ofEvents 0 g.frame.fn g.frame.place es).size=Deaf tr j:=M j F;rw[e];exact this.hears _
  .exact .inr (fin hn)
def IN{e b:Value->World->Prop}{m:Machine}{o:Outcome}{w':World}{w:Trace}(h:Conc.Good P e m o w' w)(z:∀v W',e v W'->b v W'):Conc.Good P b m o w' w:=
 h.elim λ v x=>⟨v,x.1,z v _ x.2.1,x.2.2⟩
def runs(h:MI P t N (Fin P Q) none gs w tr V rk rel q) :
  ∃n last o w' e,runNT P (n+1) (crowd gs w sl) tr=(.ended o w',e)/\runN P n (crowd gs w sl)=.next last/\step P last=.ended o w'/\Conc.Good P (λ v W'=>∃U,Q v U/\U.ok W'/\WD w.os W'.os/\W'.output=w.output) last o w' e:=by
 have key:∀(μ:List Tr×Nat)gs w sl tr V rk rel q,QF gs rk q=μ->MI P t N (Fin P Q) none gs w tr V rk rel q ->
   ∃n last o w' e,runNT P (n+1) (crowd gs w sl) tr=(.ended o w',e)/\runN P n (crowd gs w sl)=.next last/\step P last=.ended o w'/\Conc.Good P (λ v W'=>∃U,Q v U/\U.ok W'/\WD w.os W'.os/\W'.output=w.output) last o w' e:=by
  intro μ
  induction μ using(WellFounded.transGen si).induction with
  |_ μ M=>
   intro gs w sl tr V rk rel q L h;rcases h.move (sl:=sl)with⟨o,w',ops,B,K⟩|⟨E,w',G,ops,V',rk',rel',q',B,H,I,F,z⟩
   .exact⟨0,crowd gs w sl,o,w',tr++ops,by simp[runNT,B],rfl,by simp[step,B],K⟩
   .obtain⟨n,last,o,w'',e,k1,k2,k3,k4⟩:=M _ (L▸H) E w' G (tr++ops) V' rk' rel' q' rfl I;exact⟨n+1,last,o,w'',e,by rw[runNT_succ_next B];exact k1,by rw[runN_succ_next B];exact k2,k3,IN k4 λ v W'⟨U,a,b,c,d⟩=>⟨U,a,b,F.trans c,d.trans z⟩⟩
 exact key _ gs w sl tr V rk rel q rfl h
def sX{g:Gr}{U:Qa Tk}{r:Tr}(W:JR (Zd P t N) (Fin P Q) r true g U)(S:U.ok w)(B:U.tok=⟨0,.out,none⟩) :
  MI P t N (Fin P Q) none #[g] w #[] (Q3 (λ _=>ZJ) (.run 0) U) (Zt (λ _=>none) 0 (some r)) (λ _=>none) (λ _=>0):=by
 have H:Q3 (λ _=>ZJ) (.run 0) U (.run 0)=U:=Ql ..;have I:∀j,j≠0->Q3 (λ _=>ZJ) (.run 0) U (.run j)=ZJ:=λ j Y=>Qh _ _ (λ e=>Y (Hd.run.inj e));have K:∀k,k≠.run 0->Q3 (λ _=>ZJ) (.run 0) U k=ZJ:=λ k Z=>Qh _ _ Z;have X:∀j,Deaf #[] j=0:=λ _=>rfl
 have no:∀i a,touchAt #[] i≠some a:=by
  intro i a h;obtain⟨x,L,_⟩:=touch_of h;simp at L
 have E:∀j,Q5 (Q3 (λ _=>ZJ) (.run 0) U) j=none:=by
  intro j;unfold Q5;by_cases e:j=0
  .subst e;rw[H,B]
  .rw[I j e];rfl
 have V:Q3 (λ _=>ZJ) (.run 0) U .lck=ZJ:=K _ S1;refine⟨?_,by rw[Qj];simp,?_,?_,?_,?_,?_,?_,?_,?_,?_,⟨none,?_⟩,?_,⟨λ j x u _ e=>(by rw[E]at e;cases e),by rw[V];rfl,by rw[E];exact⟨E,V⟩⟩,λ j _=>E j⟩
 .intro i r' _ z;by_cases e:i=0
  .subst e;rw[Qj]at z;cases z;exact⟨g,by rw[H];exact W,.inl rfl⟩
  .rw[Qv _ _ e]at z;cases z
 .intro i x z L _;have e:i≠0:=λ e=>by subst e;rw[Qj]at z;cases z
  rw[Array.getElem?_eq_none S3]at L;cases L
 .intro i z hp;have e:i≠0:=λ e=>by subst e;rw[Qj]at z;cases z
  rw[I i e]at hp;exact absurd rfl hp
 .intro i M;simp at M;exact⟨Qv _ _ O1,X i,rfl⟩
 .intro i z;have e:i≠0:=λ e=>by subst e;rw[Qj]at z;cases z
  rw[I i e];exact⟨rfl,rfl⟩
 .intro i h0 z;rw[Qv _ _ h0]at z;exact absurd rfl z
 .intro i F;by_cases e:i=0
  .subst e;rw[Qj];simp
  .rw[I i e]at F;obtain⟨_,_,e⟩:=F;cases e
 .intro i z;by_cases e:i=0
  .subst e;rw[H,B];rfl
  .rw[Qv _ _ e]at z;exact absurd rfl z
 .intro i _;exact K _ S1
 .refine⟨λ k=>?_,λ G T l hn F z=>?_⟩
  .by_cases e:k=.run 0
   .subst e;rw[H];exact S
   .rw[K k e];exact O0 _ _
  .by_cases e:G=.run 0
   .subst e;rw[K T (Ne.symm hn)]at z;exact Wm _ _ z
   .rw[K G e]at F;exact Wn _ _ F
 .refine⟨λ said=>?_,λ k i a h=>absurd h (no i a),λ op h=>by simp at h,λ i a h=>?_,λ i a h=>absurd h (no i a),λ i a h=>absurd h (no i a),λ g r h=>(by cases h),λ i g h=>?_,λ i a h=>absurd h (no i a),λ i a h=>absurd h (no i a),λ r h=>(by cases h)⟩
  .rintro⟨i,j,_,⟨a,b,ha,_⟩,_⟩;exact no i a ha
  .simp[Trace.act?]at h
  .simp[Trace.g?]at h
 .unfold QI;rw[H,B];exact⟨λ i M=>by rw[I i M];rfl,λ _=>rfl⟩
def J.runs{g:Gr}{U:Qa Tk}(e:J (Zd P t N) (Fin P Q) true g U)(h:U.ok w)(b:U.tok=⟨0,.out,none⟩) :
  ∃n last o w' z,runNT P (n+1) (solo g w) #[]=(.ended o w',z)/\runN P n (solo g w)=.next last/\step P last=.ended o w'/\Conc.Good P (λ v W'=>∃U,Q v U/\U.ok W'/\WD w.os W'.os/\W'.output=w.output) last o w' z:=by
 obtain⟨r,e⟩:=e.rank;rw[solo_eq_crowd];exact TM.runs (sX e h b)
end
end Go.TM

