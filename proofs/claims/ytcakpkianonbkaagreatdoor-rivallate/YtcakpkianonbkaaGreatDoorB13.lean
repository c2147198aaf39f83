/- Lemmas. No conditions. -/
import Derived.Test.YtcakpkianonbkaaGreatDoorB12
set_option linter.all false
open List
namespace Go.TM
open Go.Conc
section
variable{P:Program}{t:TypeId}{N:Nat}{Stop:Stp Tk}{gs:Array Goroutine}{w:World}{tr:Trace}{V V':Hd->Qa Tk}{rk:Nat->Option Tr}{rel:Nat->Option Nat}{q:Nat->Nat}{sl:Option (Nat×Nat)}
def MI.make{g:Goroutine}{r':Tr}{b:Nat}{M₁ M₂:List Qv}(h:MI P t N Stop (some 0) gs w tr V rk rel q)(hi:gs[0]?=some g)(htok:(V (.run 0)).tok=⟨0,.out,none⟩)
  (hM:(V (.run 0)).M=M₁++.obj b (.cells #[Q1 0 0,Qp 0] t (0,0))::M₂) (hJ:JR (Zb P t N) Stop r' true g { (V (.run 0))with M:=M₁++M₂,tok:=⟨0,.par b [] false .run,none⟩ }) :
  MI P t N Stop none gs w tr (Q2 V (.run 0) { (V (.run 0))with M:=M₁++M₂,tok:=⟨0,.par b [] false .run,none⟩ }) (Zr rk 0 (some r')) rel q:=by
 have hG:=h.grp;unfold Grp at hG;rw[htok]at hG;obtain⟨hph,hrel⟩:=hG;have hok:=h.vi.ok (.run 0)
 let U2:Qa Tk:={ (V (.run 0))with M:=M₁++M₂,tok:=⟨0,.par b [] false .run,none⟩ }
 have v0:Q2 V (.run 0) U2 (.run 0)=U2:=Ql ..;have v2:∀j,j≠0->Q2 V (.run 0) U2 (.run j)=V (.run j):=λ j hj=>Qh _ _ (λ e=>hj (Hd.run.inj e));have vd:∀j,Q2 V (.run 0) U2 (.dep j)=V (.dep j):=λ j=>Qh _ _ (by simp)
 have hsub:∀x,x∈M₁++M₂->x∈(V (.run 0)).M:=by
  intro x hx;rw[hM];rcases mem_append.1 hx with hx|hx
  .exact mem_append_left _ hx
  .exact mem_append_right _ (mem_cons_of_mem _ hx)
 have hmem:Qv.obj b (.cells #[Q1 0 0,Qp 0] t (0,0))∈(V (.run 0)).M:=by rw[hM];simp
 have hsh:Sh b t (Q1 0 0) (Qp 0) w:=hok.held _ hmem
 have hw2:∀l,U2.canW l->(V (.run 0)).canW l:=λ l hl=>by
  obtain⟨x,hx,hl⟩:=Q6.1 hl;exact Q6.2 ⟨x,hsub x hx,hl⟩
 have hr2:∀l,U2.canR l->(V (.run 0)).canR l:=λ l hl=>by
  rcases Qy.1 hl with⟨x,hx,hl⟩|hl
  .exact Qy.2 (.inl ⟨x,hsub x hx,hl⟩)
  .exact Qy.2 (.inr hl)
 have hap:=hok.apart;rw[hM]at hap;obtain⟨p1,p2,p3⟩:=pairwise_append.1 hap;obtain⟨p4,p5⟩:=pairwise_cons.1 p2
 have happ:∀x∈M₁++M₂,x.blk≠b:=by
  intro x hx e;rcases mem_append.1 hx with hx|hx
  .have:=p3 x hx (.obj b (.cells #[Q1 0 0,Qp 0] t (0,0))) (by simp);cases x <;> simp only[Qv.apart,Qv.blk]at this e <;> exact this e
  .have:=p4 x hx;cases x <;> simp only[Qv.apart,Qv.blk]at this e <;> exact this e.symm
 have hok2:U2.ok w:=⟨hok.imm,λ x hx=>hok.held x (hsub x hx),pairwise_append.2 ⟨p1,p5,λ x hx y hy=>p3 x hx y (mem_cons_of_mem _ hy)⟩,λ x hx=>hok.sep x (hsub x hx)⟩;have hcw:∀a:Addr,a.block=b->a.off<2->(V (.run 0)).canW (.cell a):=λ a ha ho=>Q6.2 ⟨_,hmem,ha,ho⟩
 have hW:∀k l,(Q2 V (.run 0) U2 k).canW l->(V k).canW l:=by
  intro k l hl;by_cases e:k=.run 0
  .subst e;rw[v0]at hl;exact hw2 l hl
  .rwa [Qh _ _ e]at hl
 have hR:∀k l,(Q2 V (.run 0) U2 k).canR l->(V k).canR l:=by
  intro k l hl;by_cases e:k=.run 0
  .subst e;rw[v0]at hl;exact hr2 l hl
  .rwa [Qh _ _ e]at hl
 have hoff:∀k,Off b (Q2 V (.run 0) U2 k):=by
  intro k a ha ho hrd;by_cases e:k=.run 0
  .subst e;rw[v0]at hrd;rcases Qy.1 hrd with⟨x,hx,hl⟩|⟨c,ty,fr,hI,_⟩
   .have:=happ x hx;cases x with
    |obj b' o=>
     cases o <;> simp only[Qv.lets]at hl;exact this (by rw[Qv.blk,<- hl.1,ha])
    |cell b' i' v ty n=>simp only[Qv.lets]at hl;exact this (by rw[Qv.blk,<- hl.1,ha])
   .have:=hok.sep _ hmem;rw[Qv.blk,<- ha]at this;have hI':(V (.run 0)).I a.block=some (.cells c ty fr):=hI;rw[this]at hI';cases hI'
  .rw[Qh _ _ e]at hrd;exact h.vi.sep (.run 0) k _ (Ne.symm e) (hcw a ha ho) hrd
 have hT:∀j,j≠0->(Q2 V (.run 0) U2 (.run j)).tok.ph=.out:=λ j hj=>by rw[v2 j hj];exact hph j hj
 have hrk:∀j,j≠0->Zr rk 0 (some r') j=rk j:=λ j hj=>Qu _ _ hj;have hm0:Q3 V 0=none:=by unfold Q3;rw[htok]
 obtain⟨g1,g2,g3⟩:=h.mux;rw[hm0]at g3;obtain⟨g3,g4⟩:=g3;have vm:Q2 V (.run 0) U2 .lck=Qal:=by rw[Qh _ _ (by simp)];exact g4
 have hmk:∀j,Q3 (Q2 V (.run 0) U2) j=none:=by
  intro j;by_cases e:j=0
  .subst e;unfold Q3;rw[v0]
  .unfold Q3;rw[v2 j e];exact g3 j
 refine⟨?_,by rw[Qk];simp,?_,?_,?_,?_,?_,?_,?_,λ j hj=>by rw[vd];exact h.deps j hj,?_,?_,?_,⟨λ j x u _ e=>(by rw[hmk]at e;cases e),by rw[vm];rfl,by rw[hmk];exact⟨hmk,vm⟩⟩,λ j _=>hmk j⟩
 .intro j r'' _ hr'';by_cases e:j=0
  .subst e;rw[Qk]at hr'';cases hr'';exact⟨g,by rw[v0];exact hJ,.inl hi⟩
  .rw[hrk j e]at hr'';obtain⟨x,k1,k2⟩:=h.live j r'' (λ e'=>e (Option.some.inj e').symm) hr'';exact⟨x,by rw[v2 j e];exact k1,by rw[v2 j e];exact k2⟩
 .intro j x hj hx _;have e:j≠0:=λ e=>by subst e;rw[Qk]at hj;cases hj
  rw[hrk j e]at hj;exact h.gone j x hj hx (hph j e)
 .intro j hj hp;have e:j≠0:=λ e=>by subst e;rw[Qk]at hj;cases hj
  exact absurd (hT j e) hp
 .intro j hj;have e:j≠0:=by have:=(Array.getElem?_eq_some_iff.1 hi).1;omega
  rw[hrk j e];exact h.above j hj
 .intro j hj;have e:j≠0:=λ e=>by subst e;rw[Qk]at hj;cases hj
  rw[hrk j e]at hj;rw[v2 j e];exact h.bare j hj
 .intro j h0 hj;rw[hrk j h0]at hj;rw[v2 j h0];exact h.wk j h0 hj
 .intro j hj;by_cases e:j=0
  .subst e;rw[Qk];simp
  .rw[hT j e]at hj;obtain⟨_,_,e'⟩:=hj;cases e'
 .intro j hj;by_cases e:j=0
  .subst e;rw[v0];rw[h.deaf 0 h.root,htok]
  .rw[hrk j e]at hj;rw[v2 j e];exact h.deaf j hj
 .refine⟨λ k=>?_,λ k_1 k_2 l hn hw hrd=>h.vi.sep k_1 k_2 l hn (hW _ _ hw) (hR _ _ hrd)⟩;by_cases e:k=.run 0
  .subst e;rw[v0];exact hok2
  .rw[Qh _ _ e];exact h.vi.ok k
 .obtain⟨rm,hti⟩:=h.ti;rw[htok]at hti;refine⟨none,?_⟩;have e0:Jz (Q2 V (.run 0) U2)=none:=by unfold Jz;rw[hmk];rfl
  rw[v0,e0];have:=hti.create (b:=b) (W':=λ k=>(Q2 V (.run 0) U2 k).canW) (R':=λ k=>(Q2 V (.run 0) U2 k).canR) (λ l=>by rw[vm];exact Wl _ _) (λ l=>by rw[vm];exact Wk _ _) hrel hcw hW hR
  have e3:(λ j=>isW (Q2 V (.run 0) U2 (.run j)).tok.ph)=λ j=>isW (V (.run j)).tok.ph:=by
   funext j;by_cases e:j=0
   .subst e;rw[v0,htok];refine propext ⟨?_,?_⟩ <;> (rintro⟨_,_,e⟩;cases e)
   .rw[v2 j e]
  rw[e3];refine this.turn (λ _ _ h=>h) (λ _ _ h=>h) ?_;rintro j (rfl|hj)
  .rfl
  .apply Classical.byContradiction;intro e;exact hj (hT j e)
 .unfold Grp;rw[v0];refine⟨hoff,[],0,0,0,hsh,?_,λ _ _ _=>rfl⟩;refine GI.start (λ i=>?_) hrel;by_cases e:i=0
  .simp[Z6,e]
  .simp only[Z6,if_neg e];exact hT i e
def MI.makeM{g:Goroutine}{r':Tr}{b:Nat}{x:Mux}{M₁ M₂:List Qv}(h:MI P t N Stop (some 0) gs w tr V rk rel q)(hi:gs[0]?=some g)(htok:(V (.run 0)).tok=⟨0,.par b [] false .run,none⟩)
  (hM:(V (.run 0)).M=.obj x.m (.cells #[Ze 0,Qp 0] x.t (0,0))::(M₁++M₂)) (hD:x.sp false false M₁) (hJ:JR (Zb P t N) Stop r' true g { (V (.run 0))with M:=M₂,tok:=⟨0,.par b [] false .run,some (.par x λ _=>false)⟩ }) :
  MI P t N Stop none gs w tr (Q2 (Q2 V (.run 0) { (V (.run 0))with M:=M₂,tok:=⟨0,.par b [] false .run,some (.par x λ _=>false)⟩ }) .lck ⟨λ _=>none,M₁,⟨0,.out,none⟩⟩) (Zr rk 0 (some r')) rel q:=by
 have hG:=h.grp;unfold Grp at hG;rw[htok]at hG;obtain⟨hoffb,W,c,wt,s,hshb,hgi,hb4⟩:=hG;have hW0:W=[]:=eq_nil_of_length_eq_zero hgi.len
 have hph:∀j,j≠0->(V (.run j)).tok.ph=.out:=by
  intro j hj;apply Classical.byContradiction;intro hn;have:=hgi.inW j (.inl (by simpa[Z6,hj]using hn));rw[hW0]at this;cases this
 have hok:=h.vi.ok (.run 0);have hm0:Q3 V 0=none:=by unfold Q3;rw[htok]
 obtain⟨g1,g2,g3⟩:=h.mux;rw[hm0]at g3;obtain⟨g3,g4⟩:=g3
 let U2:Qa Tk:={ (V (.run 0))with M:=M₂,tok:=⟨0,.par b [] false .run,some (.par x λ _=>false)⟩ }
 let V1:=Q2 (Q2 V (.run 0) U2) .lck ⟨λ _=>none,M₁,⟨0,.out,none⟩⟩
 have v0:V1 (.run 0)=U2:=by show Q2 _ _ _ _=_;rw[Qh _ _ (by simp),Ql]
 have v2:∀j,j≠0->V1 (.run j)=V (.run j):=λ j hj=>by show Q2 _ _ _ _=_;rw[Qh _ _ (by simp),Qh _ _ (λ e=>hj (Hd.run.inj e))]
 have vd:∀j,V1 (.dep j)=V (.dep j):=λ j=>by show Q2 _ _ _ _=_;rw[Qh _ _ (by simp),Qh _ _ (by simp)]
 have vm:V1 .lck=⟨λ _=>none,M₁,⟨0,.out,none⟩⟩:=Ql ..;have hmem:Qv.obj x.m (.cells #[Ze 0,Qp 0] x.t (0,0))∈(V (.run 0)).M:=by rw[hM];simp
 have hsh:Sh x.m x.t (Ze 0) (Qp 0) w:=hok.held _ hmem;have hap:=hok.apart;rw[hM]at hap;obtain⟨p4,p5⟩:=pairwise_cons.1 hap;have hsub:∀y,y∈M₁++M₂->y∈(V (.run 0)).M:=λ y hy=>by rw[hM];exact mem_cons_of_mem _ hy
 have hokv:Qa.ok ({ (V (.run 0))with M:=M₁++M₂ }:Qa Tk) w:=⟨hok.imm,λ y hy=>hok.held y (hsub y hy),p5,λ y hy=>hok.sep y (hsub y hy)⟩;have hf:=Qvp (U:=({ (V (.run 0))with M:=M₁++M₂ }:Qa Tk)) (tp:=(⟨0,.par b [] false .run,some (.par x λ _=>false)⟩:Tk)) (tc:=(⟨0,.out,none⟩:Tk)) hokv (M₁:=M₁) (M₂:=M₂) (Perm.refl _)
 have hvw:∀l,Qa.canW ({ (V (.run 0))with M:=M₁++M₂ }:Qa Tk) l->(V (.run 0)).canW l:=λ l hl=>by
  obtain⟨y,hy,hl⟩:=Q6.1 hl;exact Q6.2 ⟨y,hsub y hy,hl⟩
 have hvr:∀l,Qa.canR ({ (V (.run 0))with M:=M₁++M₂ }:Qa Tk) l->(V (.run 0)).canR l:=λ l hl=>by
  rcases Qy.1 hl with⟨y,hy,hl⟩|hl
  .exact Qy.2 (.inl ⟨y,hsub y hy,hl⟩)
  .exact Qy.2 (.inr hl)
 have happ:∀y∈M₁++M₂,y.blk≠x.m:=by
  intro y hy e;have:=p4 y hy;cases y <;> simp only[Qv.apart,Qv.blk]at this e <;> exact this e.symm
 have hoffv:Off x.m ({ (V (.run 0))with M:=M₁++M₂ }:Qa Tk):=by
  intro a ha ho hrd;rcases Qy.1 hrd with⟨y,hy,hl⟩|⟨c,ty,fr,hI,_⟩
  .have:=happ y hy;cases y with
   |obj b' o=>
    cases o <;> simp only[Qv.lets]at hl;exact this (by rw[Qv.blk,<- hl.1,ha])
   |cell b' i' v ty n=>simp only[Qv.lets]at hl;exact this (by rw[Qv.blk,<- hl.1,ha])
  .have:=hok.sep _ hmem;rw[Qv.blk,<- ha]at this;have hI':(V (.run 0)).I a.block=some (.cells c ty fr):=hI;rw[this]at hI';cases hI'
 have hcw:∀a:Addr,a.block=x.m->a.off<2->(V (.run 0)).canW (.cell a):=λ a ha ho=>Q6.2 ⟨_,hmem,ha,ho⟩
 have hv0:VI (Q2 V (.run 0) ({ (V (.run 0))with M:=M₁++M₂ }:Qa Tk)) w:=h.vi.shift ⟨rfl,λ w' ok'=>by
  have hap':=ok'.apart;rw[hM]at hap';exact⟨⟨ok'.imm,λ y hy=>ok'.held y (hsub y hy),(pairwise_cons.1 hap').2,λ y hy=>ok'.sep y (hsub y hy)⟩,hvw,hvr⟩⟩
 have hvi:VI V1 w:=by
  have:=hv0.fork (k:=.run 0) (c:=.lck) (Up:=U2) (Uc:=⟨λ _=>none,M₁,⟨0,.out,none⟩⟩) (by rw[Ql];exact hf) (by simp)
  have e:Q2 (Q2 (Q2 V (.run 0) ({ (V (.run 0))with M:=M₁++M₂ }:Qa Tk)) (.run 0) U2) .lck (⟨λ _=>none,M₁,⟨0,.out,none⟩⟩:Qa Tk)=V1:=by
   funext k;by_cases e1:k=.lck
   .subst e1;rw[Ql,vm]
   .rw[Qh _ _ e1];show _=Q2 _ _ _ k;rw[Qh _ _ e1];by_cases e2:k=.run 0
    .subst e2;rw[Ql,Ql]
    .rw[Qh _ _ e2,Qh _ _ e2,Qh _ _ e2]
  rw[e]at this;exact this
 have hW:∀k l,(V1 k).canW l->(V k).canW l\/(k=.lck/\(V (.run 0)).canW l):=by
  intro k l hl;cases k with
  |run j=>
   by_cases e:j=0
   .subst e;rw[v0]at hl;exact .inl (hvw l (hf.wp l hl))
   .rw[v2 j e]at hl;exact .inl hl
  |dep j=>rw[vd]at hl;exact .inl hl
  |lck=>rw[vm]at hl;exact .inr ⟨rfl,hvw l (hf.wc l hl)⟩
 have hR:∀k l,(V1 k).canR l->(V k).canR l\/(k=.lck/\(V (.run 0)).canR l):=by
  intro k l hl;cases k with
  |run j=>
   by_cases e:j=0
   .subst e;rw[v0]at hl;exact .inl (hvr l (hf.rp l hl))
   .rw[v2 j e]at hl;exact .inl hl
  |dep j=>rw[vd]at hl;exact .inl hl
  |lck=>rw[vm]at hl;exact .inr ⟨rfl,hvr l (hf.rc l hl)⟩
 have hoffm:∀k,Off x.m (V1 k):=by
  intro k a ha ho hrd;cases k with
  |run j=>
   by_cases e:j=0
   .subst e;rw[v0]at hrd;exact hoffv a ha ho (hf.rp _ hrd)
   .rw[v2 j e]at hrd;exact h.vi.sep (.run 0) (.run j) _ (λ e'=>e (Hd.run.inj e').symm) (hcw a ha ho) hrd
  |dep j=>rw[vd]at hrd;exact h.vi.sep (.run 0) (.dep j) _ (by simp) (hcw a ha ho) hrd
  |lck=>rw[vm]at hrd;exact hoffv a ha ho (hf.rc _ hrd)
 have hrk:∀j,j≠0->Zr rk 0 (some r') j=rk j:=λ j hj=>Qu _ _ hj
 have hT:∀j,(V1 (.run j)).tok.ph=(V (.run j)).tok.ph:=by
  intro j;by_cases e:j=0
  .subst e;rw[v0,htok]
  .rw[v2 j e]
 have hk0:Q3 V1 0=some (.par x λ _=>false):=by unfold Q3;rw[v0]
 have hkj:∀j,j≠0->Q3 V1 j=none:=λ j hj=>by unfold Q3;rw[v2 j hj];exact g3 j
 refine⟨?_,by rw[Qk];simp,?_,?_,?_,?_,?_,?_,?_,λ j hj=>by show V1 _=_;rw[vd];exact h.deps j hj,hvi,?_,?_,?_,?_⟩
 .intro j r'' _ hr'';by_cases e:j=0
  .subst e;rw[Qk]at hr'';cases hr'';exact⟨g,by show JR _ _ _ _ _ (V1 _);rw[v0];exact hJ,.inl hi⟩
  .rw[hrk j e]at hr'';obtain⟨y,k1,k2⟩:=h.live j r'' (λ e'=>e (Option.some.inj e').symm) hr'';exact⟨y,by show JR _ _ _ _ _ (V1 _);rw[v2 j e];exact k1,by show _\/_/\_/\Zr0 _ (V1 _).tok;rw[v2 j e];exact k2⟩
 .intro j y hj hy _;have e:j≠0:=λ e=>by subst e;rw[Qk]at hj;cases hj
  rw[hrk j e]at hj;exact h.gone j y hj hy (hph j e)
 .intro j hj hp;have e:j≠0:=λ e=>by subst e;rw[Qk]at hj;cases hj
  have hp:(V1 (.run j)).tok.ph≠.out:=hp;rw[hT]at hp;exact absurd (hph j e) hp
 .intro j hj;have e:j≠0:=by have:=(Array.getElem?_eq_some_iff.1 hi).1;omega
  rw[hrk j e];exact h.above j hj
 .intro j hj;have e:j≠0:=λ e=>by subst e;rw[Qk]at hj;cases hj
  rw[hrk j e]at hj;show(V1 _).I=_/\(V1 _).M=_;rw[v2 j e];exact h.bare j hj
 .intro j h0 hj;rw[hrk j h0]at hj;show isW (V1 _).tok.ph;rw[hT];exact h.wk j h0 hj
 .intro j hj;have hj:isW (V1 (.run j)).tok.ph:=hj;rw[hT]at hj;by_cases e:j=0
  .subst e;rw[Qk];simp
  .rw[hrk j e];exact h.wk' j hj
 .intro j hj;show _=(V1 _).tok.d;by_cases e:j=0
  .subst e;rw[v0];rw[h.deaf 0 h.root,htok]
  .rw[hrk j e]at hj;rw[v2 j e];exact h.deaf j hj
 .obtain⟨rm,hti⟩:=h.ti;have e0:Jz V=none:=by unfold Jz;rw[hm0];rfl
  have e1:Jz V1=some x.m:=by unfold Jz;rw[hk0];rfl
  rw[e0]at hti;refine⟨none,?_⟩;show TI (λ k=>(V1 k).canW) (λ k=>(V1 k).canR) rel (V1 (.run 0)).tok.ph.blk (Jz V1) none (λ i=>i=0\/(V1 (.run i)).tok.ph≠.out) (λ i=>isW (V1 (.run i)).tok.ph) w.heap.size tr;rw[e1];simp only[hT];refine hti.createM (act':=λ i=>i=0\/(V (.run i)).tok.ph≠.out) (λ j hj=>?_) hcw hW hR (λ l=>by rw[g4];exact Wl _ _) (λ l=>by rw[g4];exact Wk _ _);refine⟨?_,.inl rfl⟩;rcases hj with rfl|hj
  .rfl
  .apply Classical.byContradiction;intro e;exact hj (hph j e)
 .show Grp t N gs w V1 rel;unfold Grp;rw[v0];refine⟨λ k a ha ho hrd=>?_,W,c,wt,s,hshb,?_,hb4⟩
  .rcases hR k _ hrd with h1|⟨_,h1⟩
   .exact hoffb _ a ha ho h1
   .exact hoffb _ a ha ho h1
  .have hk:Z6 V1=Z6 V:=by funext j;simp only[Z6,hT]
   rw[hk];simpa only[vd]using hgi
 .show MuG gs w V1;refine⟨λ j y u hj e=>(by rw[hkj j hj]at e;cases e),by rw[vm],?_⟩;rw[hk0]
  have nl:∀j y s me lo,Q3 V1 j≠some (.lok y s me lo):=by
   intro j y s me lo e;by_cases ej:j=0
   .subst ej;rw[hk0]at e;cases e
   .rw[hkj j ej]at e;cases e
  exact⟨hoffm,λ _=>.idle,0,0,hsh,rfl,λ j _ _ _ _ e=>absurd e (nl _ _ _ _ _),λ j _ _ _ _ _ _ _ _ e=>absurd e (nl _ _ _ _ _),λ s e=>(by cases e),λ _ _=>rfl,λ e=>(by cases e),λ _=>(by rw[vm];exact hD),λ j _ _ _ _ _ e=>absurd e (nl _ _ _ _ _)⟩
 .intro j hj;have e:j≠0:=λ e=>by subst e;rw[Qk]at hj;cases hj
  exact hkj j e
def Fin(P:Program)(Q:Value->Qa Tk->Prop):Stp Tk:=λ m g U=>m=true/\g.status=.running/\U.tok=⟨0,.out,none⟩/\∃v,Q v U/\∀w,U.ok w->∃es,stepG P true g w=.ended (.done v) w es/\∀e∈es,Qjb U w e/\Qz0 w e
variable{Q:Value->Qa Tk->Prop}
def Fin.running:∀m g U,Fin P Q m g U->g.status=.running:=λ _ _ _ h=>h.2.1
def Nx(P:Program)(t:TypeId)(N:Nat)(Stop:Stp Tk)(gs:Array Goroutine)(w:World)(sl:Option (Nat×Nat))(tr:Trace)(μ:List Tr×Nat)(i:Nat):Prop:=
 ∃gs' w' ops V' rk' rel' q',runT P (crowd gs w sl) i=(.next (crowd gs' w' sl),ops)/\MI P t N Stop none gs' w' (tr++ops) V' rk' rel' q'/\Relation.TransGen Qbp (meas gs' rk' q') μ/\OsL w.os w'.os/\w'.output=w.output
def Nxt.nx{i:Nat}(h:Nxt P t N Stop gs w sl tr rk q i):Nx P t N Stop gs w sl tr (meas gs rk q) i:=
 let ⟨gs',w',ops,V',rk',rel',q',a,b,c,d⟩:=h;⟨gs',w',ops,V',rk',rel',q',a,b,.single c,d⟩
def Ends(P:Program)(t:TypeId)(N:Nat)(Q:Value->Qa Tk->Prop)(gs:Array Goroutine)(w:World)(tr:Trace)(g:Goroutine):Prop:=
 ∃V rk rel q,MI P t N (Fin P Q) (some 0) gs w tr V rk rel q/\Fin P Q true g (V (.run 0))
def MI.alive:∀(r:Tr){i:Nat}{g:Goroutine}{V:Hd->Qa Tk}{rk:Nat->Option Tr},MI P t N (Fin P Q) none gs w tr V rk rel q->gs[i]?=some g->g.status=.running->rk i=some r ->
  (i=0/\Ends P t N Q gs w tr g)\/Nx P t N (Fin P Q) gs w sl tr (meas gs rk q) i:=by
 intro r
 induction r using Tr.sub_wf.induction with
 |_ r ih=>
  intro i g V rk h hi hrun hr;have hlt:=(Array.getElem?_eq_some_iff.1 hi).1;obtain⟨g_1,hJ,hg⟩:=h.live i r (by simp) hr
  have:g_1=g:=by
   rcases hg with hg|⟨hg,_⟩
   .rw[hi]at hg;exact(Option.some.inj hg).symm
   .rw[hi]at hg;cases hg;cases hrun
  subst this;have hJr:=hJ;obtain⟨U1,hs,hJ⟩:=hJ.step;have h1:=h.shift hr hs;have hU:Q2 V (.run i) U1 (.run i)=U1:=Ql ..;generalize Q2 V (.run i) U1=V1 at h1 hU;subst hU;rcases hJ with hJ|hJ|hJ
  .have hi0:i=0:=by have:=hJ.1;simpa using this
   subst hi0;exact .inl ⟨rfl,V1,rk,rel,q,h1,hJ⟩
  .exact .inr (h1.priv Fin.running hi hr hJ).nx
  .have hJ:Syn P t N _ (i==0) g_1 (V1 (.run i)):=hJ;generalize hm:(i==0)=m at hJ
   have par:∀{d b ds pend k mu},i=0->(V1 (.run i)).tok=⟨d,.par b ds pend k,mu⟩->(∀j,Off b (V1 j))/\∃W c wt s,Sh b t (Q1 c wt) (Qp s) w/\GI N b ds pend k (Z6 V1) rel (λ i=>(V1 (.dep i)).M) W c wt s:=by
    intro d b ds pend k mu e0 ht;subst e0;obtain⟨ds',pend',k',e1,e2,W,c,wt,s,e3,e4,_⟩:=h1.par' (b:=b) (by rw[ht];rfl);rw[ht]at e1;cases e1;exact⟨e2,W,c,wt,s,e3,e4⟩
   have hri:rk i≠none:=by rw[hr];simp
   have parZ:∀{d b ds pend k mu},(V1 (.run i)).tok=⟨d,.par b ds pend k,mu⟩->i=0/\m=true:=by
    intro d b ds pend k mu ht
    have e0:i=0:=by
     apply Classical.byContradiction;intro hne;obtain⟨_,_,e⟩:=h1.wk i hne hri;rw[ht]at e;cases e
    exact⟨e0,by subst e0;exact hm.symm⟩
   have outZ:(V1 (.run i)).tok=⟨0,.out,none⟩->i=0/\m=true:=by
    intro ht
    have e0:i=0:=by
     apply Classical.byContradiction;intro hne;obtain⟨_,_,e⟩:=h1.wk i hne hri;rw[ht]at e;cases e
    exact⟨e0,by subst e0;exact hm.symm⟩
   have cases0:m=true->i=0:=λ e=>by subst e;simpa using hm
   have cases1:m=false->i≠0:=λ e=>by subst e;simpa using hm
   have tok0:i=0->∃d b ds pend k mu,((V1 (.run i)).tok=⟨d,.par b ds pend k,mu⟩\/(V1 (.run i)).tok.ph=.out):=by
    intro e0;subst e0;have hG:=h1.grp;unfold Grp at hG;generalize(V1 (.run 0)).tok=tk at hG;obtain⟨d,p,mu⟩:=tk;cases p with
    |out=>exact⟨0,0,[],false,.run,none,.inr rfl⟩
    |par b ds pend k=>exact⟨d,b,ds,pend,k,mu,.inl rfl⟩
    |_=>exact hG.elim
   cases hJ with
   |quiet hs' hb hst hbs k=>
    rename_i b bs g';obtain⟨r',hsub,k⟩:=k;cases m with
    |true=>
     have e0:=cases0 rfl;subst e0;obtain⟨d,b',ds,pend,kk,mu,ht|ht⟩:=tok0 rfl
     .rw[ht]at hb;cases hb;obtain⟨hoff,W,c,wt,s,hsh,hgi⟩:=par rfl ht;refine .inr (h1.parent Fin.running hi hr ht hoff hsh (hst _ _) hbs (by simp) (deafBehind_nil _) hgi hsub ?_).nx;have:(V1 (.run 0)).at d (.par b ds pend kk)=V1 (.run 0):=Qa.at_self ht;rw[this];exact k
     .rw[ht]at hb;cases hb
    |false=>
     have e0:=cases1 rfl;exact .inr (h1.calm Fin.running hi hr e0 hb hst hbs hsub k).nx
   |dis hs' ht hst hbs k=>
    obtain⟨r',hsub,k⟩:=k;obtain⟨e0,em⟩:=parZ ht;subst e0;subst em;obtain⟨hoff,W,c,wt,s,hsh,hgi⟩:=par rfl ht;exact .inr (h1.parent Fin.running hi hr ht hoff hsh (hst _ _) hbs (by intro e he;simp at he;subst he;exact .inl rfl) rfl hgi hsub k).nx
   |ena hs' ht hst hbs k=>
    obtain⟨r',hsub,k⟩:=k;obtain⟨e0,em⟩:=parZ ht;subst e0;subst em;obtain⟨hoff,W,c,wt,s,hsh,hgi⟩:=par rfl ht;exact .inr (h1.parent Fin.running hi hr ht hoff hsh (hst _ _) hbs (by intro e he;simp at he;subst he;exact .inl rfl) rfl hgi hsub k).nx
   |add hs' ht hN hst=>
    obtain⟨e0,em⟩:=parZ ht;subst e0;subst em;obtain⟨hoff,W,c,wt,s,hsh,hgi⟩:=par rfl ht;obtain⟨rfl,rfl,-⟩:=hgi.state;have hc:=hgi.cN;simp at hc;obtain⟨g',bs,hst,hbs,r',hsub,k⟩:=hst c hc;exact .inr (h1.parent Fin.running hi hr ht hoff hsh hst hbs (by intro e he;simp at he;rcases he with rfl|rfl <;> exact .inr (.inl ⟨0,_,by omega,rfl⟩)) rfl (hgi.add hN) hsub k).nx
   |said hs' ht hst hbs k=>
    rename_i mu b ds pend kk bs g' wr;obtain⟨r',hsub,k⟩:=k;obtain⟨e0,em⟩:=parZ ht;subst e0;subst em;obtain⟨hoff,W,c,wt,s,hsh,hgi⟩:=par rfl ht;refine .inr (h1.parent Fin.running (d':=1) hi hr ht hoff hsh (hst _ _) hbs (by intro e he;simp at he;subst he;exact .inr (.inr ⟨rfl,1,wr,by omega,rfl⟩)) (by cases wr <;> rfl) hgi hsub ?_).nx;have:(V1 (.run 0)).at 1 (.par b ds pend kk)=V1 (.run 0):=Qa.at_self ht;rw[this];exact k
   |look hs' ht hk hst=>
    rename_i mu b ds k_0 u;obtain⟨e0,em⟩:=parZ ht;subst e0;subst em;obtain⟨hoff,W,c,wt,s,hsh,hgi⟩:=par rfl ht;obtain⟨hc,rfl,rfl,-⟩:=hgi.seeU hk;obtain⟨g',bs,hbs,⟨hst,⟨r',hsub,k⟩|⟨rfl,r',hsub,k⟩⟩|⟨hc1,hst,r',hsub,k⟩⟩:=hst c hc
    .refine .inr (h1.parent Fin.running (d':=1) hi hr ht hoff hsh hst hbs (by intro e he;simp at he;subst he;exact .inr (.inl ⟨0,_,by omega,rfl⟩)) rfl (hgi.toSeen hk) hsub k).nx
    .exact .inr (h1.parent Fin.running (d':=1) hi hr ht hoff hsh hst hbs (by intro e he;simp at he;subst he;exact .inr (.inl ⟨0,_,by omega,rfl⟩)) rfl (hgi.toUp hk) hsub k).nx
    .exact .inr (h1.parent Fin.running (d':=1) hi hr ht hoff hsh hst hbs (by intro e he;simp at he;rcases he with rfl|rfl <;> exact .inr (.inl ⟨0,_,by omega,rfl⟩)) rfl (hgi.toWait hk hc1) hsub k).nx
   |sema hs' ho ht h0 hst=>
    rename_i mu b ds;obtain⟨e0,em⟩:=parZ ht;subst e0;subst em;have htV:(V (.run 0)).tok=⟨1,.par b ds false .wait,mu⟩:=hs.1.symm.trans ht;obtain⟨ds',pend',kk',e1,hoffV,W',c',wt',s',hshV,hgiV,_⟩:=h.par' (b:=b) (by rw[htV];rfl);rw[htV]at e1;cases e1
    have hs01:s'=0\/s'=1:=by
     rcases hgiV.state.2 with⟨_,_,h3,_⟩|⟨_,i0,j0,_,⟨_,_,h3⟩|⟨_,_,h3⟩⟩|⟨_,_,h3,_⟩ <;> omega
    rcases hs01 with rfl|rfl
    .obtain⟨bs,hbs,hst⟩:=h0 (Q1 c' wt');have hx:MI P t N (Fin P Q) (some 0) gs w tr V rk rel q:={ h with live:=λ j r _ hr=>h.live j r (by simp) hr };exact .inr (hx.block hi hrun ho hr htV hoffV hshV hgiV hst hbs hJr).nx
    .obtain⟨hoff,W,c,wt,s,hsh,hgi⟩:=par rfl ht
     have hs1:s=1:=by
      have:some (Obj.cells #[Q1 c' wt',Qp 1] t (0,0))=some (Obj.cells #[Q1 c wt,Qp s] t (0,0)):=hshV.symm.trans hsh;simp[Qp]at this;omega
     subst hs1;obtain⟨hgi',rfl,rfl,-⟩:=hgi.sema;obtain⟨g',bs,hbs,hst,r',hsub,k⟩:=hst;exact .inr (h1.parent Fin.running (d':=1) hi hr ht hoff hsh hst hbs (by intro e he;simp at he;rcases he with rfl|rfl|rfl|rfl <;> first|exact .inl rfl|exact .inr (.inl ⟨1,_,by omega,rfl⟩)) rfl hgi' hsub k).nx
   |look2 hs' ht hbs hst k=>
    rename_i mu b ds bs g';obtain⟨r',hsub,k⟩:=k;obtain⟨e0,em⟩:=parZ ht;subst e0;subst em;obtain⟨hoff,W,c,wt,s,hsh,hgi⟩:=par rfl ht;obtain⟨-,rfl,rfl,rfl,-⟩:=hgi.up;refine .inr (h1.parent Fin.running (d':=1) hi hr ht hoff hsh hst hbs (by intro e he;simp at he;subst he;exact .inr (.inl ⟨0,_,by omega,rfl⟩)) rfl hgi hsub ?_).nx;have:(V1 (.run 0)).at 1 (.par b ds false .up)=V1 (.run 0):=Qa.at_self ht;rw[this];exact k
   |acq hs' ht hbs hst k=>
    obtain⟨e0,em⟩:=parZ ht;subst e0;subst em;obtain⟨hoff,W,c,wt,s,hsh,hgi⟩:=par rfl ht
    have hvm:V1 .lck=Qal:=by
     have g3:=h1.mux.2.2;rw[show Q3 V1 0=none by unfold Q3;rw[ht]]at g3;exact g3.2
    refine .inr (h1.take Fin.running hi hr ht hsh hgi hst hbs λ Ms hMs=>?_).nx;obtain⟨r',hsub,k⟩:=k Ms hMs;refine⟨r',hsub,?_⟩
    have:({ (V1 (.run 0))with M:=((V1 (.run 0)).M++Ms.flatten)++(V1 .lck).M,tok:=⟨0,.out,none⟩ }:Qa Tk)=((V1 (.run 0)).with Ms.flatten).at 0 .out:=by
     rw[hvm];simp only[Qal,Qa.bare,append_nil,Qa.at,Qa.with];rw[ht]
    rw[this];exact k
   |acqM hs' ht hbs hst k=>
    rename_i b ds bs g' x u;obtain⟨e0,em⟩:=parZ ht;subst e0;subst em;obtain⟨hoff,W,c,wt,s,hsh,hgi⟩:=par rfl ht
    have hdep:x.sp (u false) (u true) (V1 .lck).M:=by
     have g3:=h1.mux.2.2;rw[show Q3 V1 0=some (.par x u) by unfold Q3;rw[ht]]at g3;obtain⟨-,lp,st,sm,hx⟩:=g3;have hout:=hgi.up.2.2.2.2.1
     have hnl:∀j y s me lo,Q3 V1 j≠some (.lok y s me lo):=by
      intro j y s me lo e;by_cases ej:j=0
      .subst ej;unfold Q3 at e;rw[ht]at e;cases e
      .have hrj:rk j=none:=by
        cases hr':rk j with
        |none=>rfl
        |some r_0=>
         obtain⟨_,_,e'⟩:=h1.wk j ej (by rw[hr'];simp);have:=hout j;simp only[Z6,if_neg ej]at this;rw[e']at this;cases this
       rw[h1.bareM j hrj]at e;cases e
     have hlp:∀s,lp s=if u s then .fin else .idle:=by
      intro s;cases hu:u s with
      |false=>simpa using hx.idle s hu
      |true=>
       rcases hx.who s hu with h2|⟨j,me,lo,e⟩
       .simpa using h2
       .exact absurd e (hnl _ _ _ _ _)
     have hro:∀s,(lp s).rels=u s/\(lp s).isOwn=false:=by
      intro s;rw[hlp s];cases u s <;> exact⟨rfl,rfl⟩
     have:=hx.dep' (by rw[(hro false).2,(hro true).2];rfl);unfold Mux.dep at this;rw[(hro false).1,(hro true).1]at this;exact this
    exact .inr (h1.take Fin.running hi hr ht hsh hgi hst hbs λ Ms hMs=>k Ms _ hMs hdep).nx
   |make ht hM k=>
    obtain⟨r',hsub,k⟩:=k;obtain⟨e0,em⟩:=outZ ht;subst e0;subst em;have h2:=h1.make hi ht hM k;rcases ih r' hsub h2 hi hrun (Qk ..)with h3|⟨gs',w',ops,V',rk',rel',q',a,b,c,dd⟩
    .exact .inl h3
    .refine .inr ⟨gs',w',ops,V',rk',rel',q',a,b,c.tail ?_,dd⟩;exact Qas rfl hlt hr λ r'' e=>by cases e;exact hsub
   |makeM ht hM hD k=>
    obtain⟨r',hsub,k⟩:=k;obtain⟨e0,em⟩:=parZ ht;subst e0;subst em;have h2:=h1.makeM hi ht hM hD k;rcases ih r' hsub h2 hi hrun (Qk ..)with h3|⟨gs',w',ops,V',rk',rel',q',a,b,c,dd⟩
    .exact .inl h3
    .refine .inr ⟨gs',w',ops,V',rk',rel',q',a,b,c.tail ?_,dd⟩;exact Qas rfl hlt hr λ r'' e=>by cases e;exact hsub
   |mu hs' ht hst=>
    rename_i b D x s me lo d
    have e0:i≠0:=λ e=>by
     obtain⟨_,_,_,_,_,_,ht'|ht'⟩:=tok0 e
     .rw[ht]at ht';cases ht'
     .rw[ht]at ht';cases ht'
    have em:m=false:=by rw[<- hm];simpa using e0
    subst em;obtain⟨u,lp,st,sm,k0,hoff,hx,rfl,hlo,-⟩:=h1.lock (i:=i) (x:=x) (s:=s) (me:=me) (lo:=lo) (by unfold Q3;rw[ht]);obtain⟨g',bs,es,me',st',sm',d',lo',a0,a1,a2,a3,a4,a5,a6,a7,a8,a9,a10,r',hsub,k⟩:=hst (lp (!s)) st sm hlo (by rw[<- Qcm];exact hx.word);exact .inr (MI.mu Fin.running a0 h1 hi hr e0 ht k0 hoff hx a2 a1 a3 a4 a5 a6.symm a8 a9 a10 hsub k).nx
   |mblk hs' ho ht hb0 hb1=>
    rename_i b D x s lo d
    have e0:i≠0:=λ e=>by
     obtain⟨_,_,_,_,_,_,ht'|ht'⟩:=tok0 e
     .rw[ht]at ht';cases ht'
     .rw[ht]at ht';cases ht'
    have em:m=false:=by rw[<- hm];simpa using e0
    subst em;have htV:(V (.run i)).tok=⟨d,.wrk b D,some (.lok x s .wai lo)⟩:=hs.1.symm.trans ht;obtain⟨u,lp,st,sm,k0,hoff,hx,hme,hlo,-⟩:=h.lock (i:=i) (x:=x) (s:=s) (me:=.wai) (lo:=lo) (by unfold Q3;rw[htV]);have hw:=hx.word;rw[Qcm _ s,<- hme]at hw
    have hs01:sm=0\/(st=2/\sm=1/\lp (!s)=.fin):=by
     revert hw
     cases lp (!s)with
     |own v=>cases v <;> simp[LP.word] <;> omega
     |_=>simp[LP.word] <;> omega
    rcases hs01 with rfl|⟨rfl,rfl,hq⟩
    .obtain⟨bs,hbs,hst⟩:=hb0 (Ze st);have hxm:MI P t N (Fin P Q) (some i) gs w tr V rk rel q:={ h with live:=λ j r _ hr=>h.live j r (by simp) hr };exact .inr (hxm.mblk hi hrun ho hr e0 htV k0 hoff hx hst hbs (by rw[show(i==0)=false by simpa using e0]at hJr;exact hJr)).nx
    .obtain⟨u,lp,st,sm,k0,hoff,hx',hme,hlo,-⟩:=h1.lock (i:=i) (x:=x) (s:=s) (me:=.wai) (lo:=lo) (by unfold Q3;rw[ht]);have e2:some (Obj.cells #[Ze 2,Qp 1] x.t (0,0))=some (Obj.cells #[Ze st,Qp sm] x.t (0,0)):=hx.sh.symm.trans hx'.sh
     have e3:st=2/\sm=1:=by
      simp[Ze,Qp]at e2;omega
     obtain⟨rfl,rfl⟩:=e3;have hw':=hx'.word;rw[Qcm _ s,<- hme]at hw'
     have hq':lp (!s)=.fin:=by
      revert hw'
      cases lp (!s)with
      |own v=>cases v <;> simp[LP.word]
      |_=>simp[LP.word]
     obtain⟨g',bs,hbs,hst,r',hsub,k⟩:=hb1;rw[hme]at ht;refine .inr (MI.mu (me':=.wok) (lo':=2) (st':=2) (sm':=0) Fin.running (by rw[hq'];exact Nat.le_refl _) h1 hi hr e0 ht k0 hoff hx' hst hbs (by rw[hq'];rfl) (by rw[<- hme];exact Nat.le_refl _) (by rw[<- hme];rfl) (by rw[<- hme];rfl) (by intro e he;simp at he;rcases he with rfl|rfl|rfl|rfl <;> first|exact .inl rfl|exact .inr ⟨1,_,by omega,rfl⟩) rfl (.inr (.inl rfl)) hsub k).nx
   |macq hs' ht hbs hst k=>
    rename_i b D x s lo bs g'
    have e0:i≠0:=λ e=>by
     obtain⟨_,_,_,_,_,_,ht'|ht'⟩:=tok0 e
     .rw[ht]at ht';cases ht'
     .rw[ht]at ht';cases ht'
    have em:m=false:=by rw[<- hm];simpa using e0
    subst em;obtain⟨u,lp,st,sm,k0,hoff,hx,hme,hlo,-⟩:=h1.lock (i:=i) (x:=x) (s:=s) (me:=.got) (lo:=lo) (by unfold Q3;rw[ht]);have hw:=hx.word;rw[Qcm _ s,<- hme]at hw;have hqo:=(LP.word_own hw).2;have hdep:=hx.dep' (by rw[Zd7 _ s,<- hme,hqo];rfl)
    have hdep:x.sp (if s then(lp (!s)).rels else false) (if s then false else(lp (!s)).rels) (V1 .lck).M:=by
     unfold Mux.dep at hdep;cases s
     .rw[<- hme]at hdep;exact hdep
     .rw[<- hme]at hdep;exact hdep
    obtain⟨r',hsub,k⟩:=k _ _ hdep;rw[hme]at ht;exact .inr (h1.macq Fin.running hi hr e0 ht hme.symm hlo k0 hoff hx hst hbs hsub k).nx
   |mrel hs' ht hbs hM hD hst k=>
    rename_i b D x s lo v bs g' M₁ M₂
    have e0:i≠0:=λ e=>by
     obtain⟨_,_,_,_,_,_,ht'|ht'⟩:=tok0 e
     .rw[ht]at ht';cases ht'
     .rw[ht]at ht';cases ht'
    have em:m=false:=by rw[<- hm];simpa using e0
    subst em;obtain⟨u,lp,st,sm,k0,hoff,hx,hme,hlo,-⟩:=h1.lock (i:=i) (x:=x) (s:=s) (me:=.own v) (lo:=lo) (by unfold Q3;rw[ht]);obtain⟨r',hsub,k⟩:=k;rw[hme]at ht;exact .inr (h1.mrel Fin.running hi hr e0 ht hme.symm hlo k0 hoff hx hM hD hst hbs hsub k).nx
   |go hs' ht hst hf hp hc hmu k k'=>
    obtain⟨r_1,s1,k⟩:=k;obtain⟨r_2,s2,k'⟩:=k';obtain⟨e0,em⟩:=parZ ht;subst e0;subst em;obtain⟨hoff,W,c,wt,s,hsh,hgi⟩:=par rfl ht;exact .inr (h1.start Fin.running hi hr ht hoff hsh hgi hst hf hp hc hmu s1 s2 k k').nx
   |lay hs' ht hmu hD hbs hst k=>
    obtain⟨n,k⟩:=k
    have e0:i≠0:=by
     intro e;subst e;obtain⟨_,_,_,_,_,_,ht'|ht'⟩:=tok0 rfl
     .rw[ht]at ht';cases ht'
     .rw[ht]at ht';cases ht'
    have em:m=false:=by rw[<- hm];simpa using e0
    subst em;exact .inr (h1.lay Fin.running hi hr e0 ht hmu hD hst hbs k).nx
end
section
variable{P:Program}{t:TypeId}{N:Nat}{gs:Array Goroutine}{w:World}{tr:Trace}{V:Hd->Qa Tk}{rk:Nat->Option Tr}{rel:Nat->Option Nat}{q:Nat->Nat}{sl:Option (Nat×Nat)}{Q:Value->Qa Tk->Prop}
def Sh.at{b:Nat}{st sm:Value}(h:Sh b t st sm w)(d:Nat):Sh b t st sm (w.at d):=h
def MI.at{ex:Option Nat}{Stop:Stp Tk}(h:MI P t N Stop ex gs w tr V rk rel q)(d:Nat):MI P t N Stop ex gs (w.at d) tr V rk rel q:=by
 refine⟨h.live,h.root,h.gone,h.tail,h.above,h.bare,h.wk,h.wk',h.deaf,h.deps,h.vi.heap rfl,h.ti,?_,h.mux.at (λ _=>rfl) rfl (λ _ hm _=>hm) (λ _ _ _ _ _ x=>x) (λ j x s me lo y _ hy hns=>⟨y,hy,hns⟩),h.bareM⟩;have hG:=h.grp;unfold Grp at hG ⊢
 revert hG
 cases(V (.run 0)).tok.ph with
 |par b ds pend k=>exact λ hG=>hG
 |_=>exact λ hG=>hG
def MI.status(h:MI P t N (Fin P Q) none gs w tr V rk rel q){i:Nat}{g:Goroutine}(hi:gs[i]?=some g):g.status=.running\/g.status=.blocked\/g.status=.finished:=by
 cases hr:rk i with
 |some r=>
  obtain⟨g_1,hJ,hg⟩:=h.live i r (by simp) hr;have:=hJ.running Fin.running;rcases hg with hg|⟨hg,_⟩
  .rw[hi]at hg;cases hg;exact .inl this
  .rw[hi]at hg;cases hg;exact .inr (.inl rfl)
 |none=>
  by_cases hp:(V (.run i)).tok.ph=.out
  .exact(h.gone i g hr hi hp).status.elim .inl λ x=>.inr (.inr x)
  .obtain⟨x,b,hx,_,ht⟩:=h.tail i hr hp;rw[hi]at hx;cases hx;exact .inl ht.running
def MI.someone(h:MI P t N (Fin P Q) none gs w tr V rk rel q):∃(i:Nat)(g:Goroutine),gs[i]?=some g/\g.status=.running:=by
 have lck:∀i r g,rk i=some r->i≠0->gs[i]?=some g->g.status≠.running->∃(i:Nat)(g:Goroutine),gs[i]?=some g/\g.status=.running:=by
  intro i r g hr hi0 hi hns;obtain⟨g_1,hJ,hg⟩:=h.live i r (by simp) hr;have hrun:=hJ.running Fin.running;rcases hg with hg|⟨hg,_,hb⟩
  .rw[hi]at hg;cases hg;exact absurd hrun hns
  .rcases hb with⟨e,_⟩|⟨d,b,D,x,s,lo,ht⟩
   .exact absurd e hi0
   .have hk:Q3 V i=some (.lok x s .wai lo):=by unfold Q3;rw[ht]
    obtain⟨u,lp,st,sm,k0,hoff,hx,hme,hlo,-⟩:=h.lock hk;have hsm:=hx.slp i _ _ _ _ g hk hi hns;have hw:=hx.word;rw[Qcm _ s,<- hme,hsm]at hw
    have hq:lp (!s)≠.fin/\lp (!s)≠.idle/\lp (!s)≠.wai:=by
     refine⟨λ e=>?_,λ e=>?_,λ e=>?_⟩ <;> (rw[e]at hw;simp[LP.word]at hw)
    have hu:u (!s)=true:=by
     cases hu:u (!s)with
     |true=>rfl
     |false=>exact absurd (hx.idle _ hu) hq.2.1
    rcases hx.who _ hu with h1|⟨j,me,lo',e⟩
    .exact absurd h1 hq.1
    .have ej:j≠0:=λ ej=>by subst ej;rw[k0]at e;cases e
     have hrj:rk j≠none:=λ hn=>by rw[h.bareM j hn]at e;cases e
     obtain⟨r_0,hr_0⟩:=Option.ne_none_iff_exists'.1 hrj;obtain⟨g_2,hJ_2,hg_2⟩:=h.live j r_0 (by simp) hr_0;have hrun2:=hJ_2.running Fin.running;rcases hg_2 with hg_2|⟨hg_2,_,hb_2⟩
     .exact⟨j,g_2,hg_2,hrun2⟩
     .exfalso;rcases hb_2 with⟨e',_⟩|⟨d',b',D',x',s',lo'',ht'⟩
      .exact ej e'
      .unfold Q3 at e;rw[ht']at e;cases e;have:=(hx.tk j _ _ _ _ (show Q3 V j=_ by unfold Q3;rw[ht'])).2.1;exact hq.2.2 this.symm
 obtain⟨r,hr⟩:=Option.ne_none_iff_exists'.1 h.root;obtain⟨g,hJ,hg⟩:=h.live 0 r (by simp) hr;have hrun:=hJ.running Fin.running;rcases hg with hg|⟨hg,_,hb⟩
 .exact⟨0,g,hg,hrun⟩
 .rcases hb with⟨-,b,ds,mu,ht⟩|⟨d,b,D,x,s,lo,ht⟩
  rotate_left
  .have hG:=h.grp;unfold Grp at hG;rw[ht]at hG;exact hG.elim
  obtain⟨ds',pend,k,e,_,W,c,wt,s,_,hgi,h4⟩:=h.par' (b:=b) (by rw[ht];rfl);rw[ht]at e;cases e;have hs:=h4 _ hg (by simp);subst hs;obtain⟨i,hi⟩:=hgi.someone;have hi0:i≠0:=λ e=>hi (by simp[Z6,e]);have hp:(V (.run i)).tok.ph≠.out:=by simpa[Z6,hi0]using hi
  cases hr':rk i with
  |some r'=>
   obtain⟨x,hJ',hx⟩:=h.live i r' (by simp) hr';rcases hx with hx|⟨hx,_⟩
   .exact⟨i,x,hx,hJ'.running Fin.running⟩
   .exact lck i r' _ hr' hi0 hx (by simp)
  |none=>
   obtain⟨x,b',hx,_,htl⟩:=h.tail i hr' hp;exact⟨i,x,hx,htl.running⟩
def MI.move(h:MI P t N (Fin P Q) none gs w tr V rk rel q) :
  (∃o w' ops,stepT P (crowd gs w sl)=(.ended o w',ops)/\Conc.Good P (λ v W'=>∃U,Q v U/\U.ok W'/\OsL w.os W'.os/\W'.output=w.output) (crowd gs w sl) o w' (tr++ops)) \/
  (∃gs' w' sl' ops V' rk' rel' q',stepT P (crowd gs w sl)=(.next (crowd gs' w' sl'),ops)/\Relation.TransGen Qbp (meas gs' rk' q') (meas gs rk q)/\MI P t N (Fin P Q) none gs' w' (tr++ops) V' rk' rel' q'/\OsL w.os w'.os/\w'.output=w.output):=by
 have haw:∀g∈gs,awake g:=by
  intro g hg;obtain⟨i,hi,rfl⟩:=Array.mem_iff_getElem.1 hg;intro tm e;rcases h.status (Array.getElem?_eq_getElem hi)with x|x|x <;> rw[e]at x <;> cases x
 obtain⟨i,g,d,sl',hi,hrun,hst⟩:=crowd_pick (P:=P) (w:=w) (sl:=sl) haw h.someone;have hd:=h.at d
 have fin:Nx P t N (Fin P Q) gs (w.at d) sl' tr (meas gs rk q) i->∃gs' w' sl' ops V' rk' rel' q',stepT P (crowd gs w sl)=(Stepped.next (crowd gs' w' sl'),ops)/\Relation.TransGen Qbp (meas gs' rk' q') (meas gs rk q)/\MI P t N (Fin P Q) none gs' w' (tr++ops) V' rk' rel' q'/\OsL w.os w'.os/\w'.output=w.output:=by
  rintro⟨gs',w',ops,V',rk',rel',q',a,b,c,dd⟩;exact⟨gs',w',sl',ops,V',rk',rel',q',hst.trans a,c,b,dd⟩
 cases hr:rk i with
 |none=>
  by_cases hp:(V (.run i)).tok.ph=.out
  .exact .inr (fin (hd.leaver Fin.running hi hrun hr hp).nx)
  .exact .inr (fin (hd.tailStep Fin.running hi hr hp).nx)
 |some r=>
  rcases MI.alive r (sl:=sl') hd hi hrun hr with⟨rfl,V',rk',rel',q',h',_,_,htok,v,hq,hend⟩|hn
  .left;have hok:=h'.vi.ok (.run 0);obtain⟨es,hse,hes⟩:=hend _ hok;have hG:=h'.grp;unfold Grp at hG;rw[htok]at hG;obtain⟨hph,hrel⟩:=hG
   have hrk:∀j,j≠0->rk' j=none:=by
    intro j hj;cases e:rk' j with
    |none=>rfl
    |some r=>
     obtain⟨b,D,e'⟩:=h'.wk j hj (by rw[e];simp);rw[hph j hj]at e';cases e'
   obtain⟨rm,hti0⟩:=h'.ti;have hm0:∀b,Jz V'=some b->b<(w.at d).heap.size/\Off b (V' (.run 0)):=λ b hb=>⟨(h'.mux.mb hb).1,(h'.mux.mb hb).2.1 _⟩;have hti:TI _ _ _ _ _ _ _ _ _ (tr++MemOp.ofEvents 0 g.frame.fn g.frame.place es):=Zfu (fn:=g.frame.fn) (pos:=g.frame.place) hti0 h'.vi (λ b hb=>by rw[htok]at hb;cases hb) hm0 hes (.refl _ _) (.inl rfl)
   have hdeaf:∀j,j≠0->Deaf (tr++MemOp.ofEvents 0 g.frame.fn g.frame.place es) j=Deaf tr j:=by
    intro j hj;refine Deaf_other tr (Ne.symm hj) _ ?_;intro op hop;obtain⟨e,_,rfl⟩:=Go.Conc.mem_ofEvents hop;rfl
   have hqd:∀j x,j≠0->gs[j]?=some x->QuitsD P (q' j) (Deaf tr j) x:=λ j x hj hx=>h'.gone j x (hrk j hj) hx (hph j hj);refine⟨.done v,w.at d,_,hst.trans (ConcN.runT_crowd_ended hi hse),v,rfl,⟨_,hq,hok,.refl _,rfl⟩,hti.clean,?_,⟨?_,rfl⟩,?_⟩
   .intro j x hx hne hc;rcases hti.hand j x hx hne hc with⟨b,D,e⟩|⟨r,e,_⟩|⟨p,z,hp,hz,hb⟩
    .by_cases e0:x=0
     .exact absurd e0 hne
     .rw[hph x e0]at e;cases e
    .rw[hrel]at e;cases e
    .refine⟨p,by simp[Trace.g?,hp,hz],?_⟩;rcases hb with rfl|hb
     .simp only[Trace.g?,hp,Option.map_some,Option.some.injEq]at hx;exact absurd (hx.symm.trans hz) hne
     .exact hb
   .intro x hx;obtain⟨j,hj,hx'⟩:=mem_iff_getElem.1 hx;rw[getElem_drop]at hx'
    have:gs[1+j]?=some x:=by
     rw[<- hx'];simp only[crowd]at hj ⊢;have:1+j<gs.size:=by simp at hj;omega
     simp[this]
    exact⟨_,(hqd (1+j) x (by omega) this).leaves⟩
   .intro j x hx hj;have:=hqd j x hj hx;refine⟨q' j,?_⟩;have e:(tr++MemOp.ofEvents 0 g.frame.fn g.frame.place es).deaf j (tr++MemOp.ofEvents 0 g.frame.fn g.frame.place es).size=Deaf tr j:=hdeaf j hj;rw[e];exact this.hears _
  .exact .inr (fin hn)
def Qrp{Post Post':Value->World->Prop}{m:Machine}{o:Outcome}{w':World}{t':Trace}(h:Conc.Good P Post m o w' t')(hp:∀v W',Post v W'->Post' v W'):Conc.Good P Post' m o w' t':=
 h.elim λ v x=>⟨v,x.1,hp v _ x.2.1,x.2.2⟩
def runs(h:MI P t N (Fin P Q) none gs w tr V rk rel q) :
  ∃n last o w' t',runNT P (n+1) (crowd gs w sl) tr=(.ended o w',t')/\runN P n (crowd gs w sl)=.next last/\step P last=.ended o w'/\Conc.Good P (λ v W'=>∃U,Q v U/\U.ok W'/\OsL w.os W'.os/\W'.output=w.output) last o w' t':=by
 have key:∀(μ:List Tr×Nat)gs w sl tr V rk rel q,meas gs rk q=μ->MI P t N (Fin P Q) none gs w tr V rk rel q ->
   ∃n last o w' t',runNT P (n+1) (crowd gs w sl) tr=(.ended o w',t')/\runN P n (crowd gs w sl)=.next last/\step P last=.ended o w'/\Conc.Good P (λ v W'=>∃U,Q v U/\U.ok W'/\OsL w.os W'.os/\W'.output=w.output) last o w' t':=by
  intro μ
  induction μ using(WellFounded.transGen Znu).induction with
  |_ μ ih=>
   intro gs w sl tr V rk rel q hμ h;rcases h.move (sl:=sl)with⟨o,w',ops,hs,hq⟩|⟨gs',w',sl',ops,V',rk',rel',q',hs,h2,h3,hos,hout⟩
   .exact⟨0,crowd gs w sl,o,w',tr++ops,by simp[runNT,hs],rfl,by simp[step,hs],hq⟩
   .obtain⟨n,last,o,w'',t',k1,k2,k3,k4⟩:=ih _ (hμ▸h2) gs' w' sl' (tr++ops) V' rk' rel' q' rfl h3;exact⟨n+1,last,o,w'',t',by rw[runNT_succ_next hs];exact k1,by rw[runN_succ_next hs];exact k2,k3,Qrp k4 λ v W'⟨U,a,b,c,d⟩=>⟨U,a,b,hos.trans c,d.trans hout⟩⟩
 exact key _ gs w sl tr V rk rel q rfl h
def Zn6{g:Goroutine}{U:Qa Tk}{r:Tr}(hJ:JR (Zb P t N) (Fin P Q) r true g U)(hok:U.ok w)(htok:U.tok=⟨0,.out,none⟩) :
  MI P t N (Fin P Q) none #[g] w #[] (Q2 (λ _=>Qal) (.run 0) U) (Zr (λ _=>none) 0 (some r)) (λ _=>none) (λ _=>0):=by
 have v0:Q2 (λ _=>Qal) (.run 0) U (.run 0)=U:=Ql ..;have v2:∀j,j≠0->Q2 (λ _=>Qal) (.run 0) U (.run j)=Qal:=λ j hj=>Qh _ _ (λ e=>hj (Hd.run.inj e));have vn:∀k,k≠.run 0->Q2 (λ _=>Qal) (.run 0) U k=Qal:=λ k hk=>Qh _ _ hk;have hd:∀j,Deaf #[] j=0:=λ _=>rfl
 have no:∀i a,touchAt #[] i≠some a:=by
  intro i a h;obtain⟨x,hx,_⟩:=touch_of h;simp at hx
 have hmk:∀j,Q3 (Q2 (λ _=>Qal) (.run 0) U) j=none:=by
  intro j;unfold Q3;by_cases e:j=0
  .subst e;rw[v0,htok]
  .rw[v2 j e];rfl
 have vm:Q2 (λ _=>Qal) (.run 0) U .lck=Qal:=vn _ (by simp);refine⟨?_,by rw[Qk];simp,?_,?_,?_,?_,?_,?_,?_,?_,?_,⟨none,?_⟩,?_,⟨λ j x u _ e=>(by rw[hmk]at e;cases e),by rw[vm];rfl,by rw[hmk];exact⟨hmk,vm⟩⟩,λ j _=>hmk j⟩
 .intro i r' _ hr;by_cases e:i=0
  .subst e;rw[Qk]at hr;cases hr;exact⟨g,by rw[v0];exact hJ,.inl rfl⟩
  .rw[Qu _ _ e]at hr;cases hr
 .intro i x hr hx _;have e:i≠0:=λ e=>by subst e;rw[Qk]at hr;cases hr
  rw[Array.getElem?_eq_none (by simp;omega)]at hx;cases hx
 .intro i hr hp;have e:i≠0:=λ e=>by subst e;rw[Qk]at hr;cases hr
  rw[v2 i e]at hp;exact absurd rfl hp
 .intro i hi;simp at hi;exact⟨Qu _ _ (by omega),hd i,rfl⟩
 .intro i hr;have e:i≠0:=λ e=>by subst e;rw[Qk]at hr;cases hr
  rw[v2 i e];exact⟨rfl,rfl⟩
 .intro i h0 hr;rw[Qu _ _ h0]at hr;exact absurd rfl hr
 .intro i hw;by_cases e:i=0
  .subst e;rw[Qk];simp
  .rw[v2 i e]at hw;obtain⟨_,_,e⟩:=hw;cases e
 .intro i hr;by_cases e:i=0
  .subst e;rw[v0,htok];rfl
  .rw[Qu _ _ e]at hr;exact absurd rfl hr
 .intro i _;exact vn _ (by simp)
 .refine⟨λ k=>?_,λ k_1 k_2 l hn hw hr=>?_⟩
  .by_cases e:k=.run 0
   .subst e;rw[v0];exact hok
   .rw[vn k e];exact Qrb _ _
  .by_cases e:k_1=.run 0
   .subst e;rw[vn k_2 (Ne.symm hn)]at hr;exact Wk _ _ hr
   .rw[vn k_1 e]at hw;exact Wl _ _ hw
 .refine⟨λ said=>?_,λ k i a h=>absurd h (no i a),λ op h=>by simp at h,λ i a h=>?_,λ i a h=>absurd h (no i a),λ i a h=>absurd h (no i a),λ g r h=>(by cases h),λ i g h=>?_,λ i a h=>absurd h (no i a),λ i a h=>absurd h (no i a),λ r h=>(by cases h)⟩
  .rintro⟨i,j,_,⟨a,b,ha,_⟩,_⟩;exact no i a ha
  .simp[Trace.act?]at h
  .simp[Trace.g?]at h
 .unfold Grp;rw[v0,htok];exact⟨λ i hi=>by rw[v2 i hi];rfl,λ _=>rfl⟩
def J.runs{g:Goroutine}{U:Qa Tk}(hJ:J (Zb P t N) (Fin P Q) true g U)(hok:U.ok w)(htok:U.tok=⟨0,.out,none⟩) :
  ∃n last o w' t',runNT P (n+1) (solo g w) #[]=(.ended o w',t')/\runN P n (solo g w)=.next last/\step P last=.ended o w'/\Conc.Good P (λ v W'=>∃U,Q v U/\U.ok W'/\OsL w.os W'.os/\W'.output=w.output) last o w' t':=by
 obtain⟨r,hJ⟩:=hJ.rank;rw[solo_eq_crowd];exact TM.runs (Zn6 hJ hok htok)
end
end Go.TM
