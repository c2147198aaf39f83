/- Lemmas. No conditions. -/
import Derived.Test.YtignaaddghcanaaGreatDoorB08
set_option linter.all false
open List
namespace Go.TM
variable{P:Program}{t t':TypeId}{N b m c wt i d lo wt' st st' sm':Nat}{gs I:Array Gr}{w w' G:World}{V V':Hd->Qa Tk}{rel:Nat->Option Nat}{tr:Trace}{sm y e:Value}{g g':Gr}{Stop:QH Tk}{rk:Nat->Option Tr}{q q':Nat->Nat}{r r' X:Tr}{p:Option Tr}{sl:Option (Nat×Nat)}{ds:List Spec}{pend v s:Bool}{k k':PS}{W l:List Nat}{es:Array Event}{bs:List (Nat×Bool)}{p':Ph}{ex:Option Nat}{D:Spec}{U:Qa Tk}{B:Loc}{me' me:LP}{z:Nat×Nat}{x:QV}{u:Bool->Bool}{T L:Bool->LP}{M₁ M₂:List Qw}{Q:Value->Qa Tk->Prop}{f n:Value->World->Prop}{A:Machine}{o:Outcome}
section
open Go.Conc
def QG.turn(h:QG t N gs w V rel)(f:∀j,(V' (.run j)).tok=(V (.run j)).tok)(I:∀j,V' (.dep j)=V (.dep j))(G:∀k l,(V' k).canR l->(V k).canR l):QG t N gs w V' rel:=by
 have L:Z1 V'=Z1 V:=by funext j;simp only[Z1,f]
 unfold QG at h ⊢;rw[f 0]
 revert h
 cases(V (.run 0)).tok.ph with
 |out=>exact λ h=>⟨λ i K=>by rw[f];exact h.1 i K,h.2⟩
 |par b ds pend k=>
  rintro⟨z,W,c,wt,s,B,E,F⟩;refine⟨λ j a H P Q=>z j a H P (G _ _ Q),W,c,wt,s,B,?_,F⟩;rw[L];simpa only[I]using E
 |_=>exact λ h=>h
def TI.tok{rel:Nat->Option Nat}{rm:Option Nat}{size:Nat}(h:TI (λ k=>(V k).canW) (λ k=>(V k).canR) rel (V (.run 0)).tok.ph.blk (Jv V) rm (λ i=>i=0\/(V (.run i)).tok.ph≠.out) (λ i=>ZK (V (.run i)).tok.ph) size tr)
  (f:∀j,(V' (.run j)).tok=(V (.run j)).tok) (z:∀k l,(V' k).canW l->(V k).canW l) (w:∀k l,(V' k).canR l->(V k).canR l) :
  TI (λ k=>(V' k).canW) (λ k=>(V' k).canR) rel (V' (.run 0)).tok.ph.blk (Jv V') rm (λ i=>i=0\/(V' (.run i)).tok.ph≠.out) (λ i=>ZK (V' (.run i)).tok.ph) size tr:=by
 have b:Jv V'=Jv V:=by simp only[Jv,Q2,f]
 rw[b];simp only[f];exact h.turn z w λ _ h=>h
def Sh.ne(h:Sh b t (Q0 c wt) sm w)(k:Sh m t' (Zb N) y w):m≠b:=by
 rintro rfl;have e:some (Obj.cells #[Q0 c wt,sm] t (0,0))=some (Obj.cells #[Zb N,y] t' (0,0)):=h.symm.trans k;simp[Q0,Zb]at e
def Sh.two_other{x:Value}(k:Sh m t' e sm w)(h:m≠b):Sh m t' e sm (TM.two w b t x y):=by
 unfold Sh TM.two;simp only;rw[Array.getElem?_setIfInBounds_ne (Ne.symm h)];exact k
def JF.mb(h:JF gs w V)(b:Jv V=some m):m<w.heap.size/\(∀j,QI m (V j))/\∃t st sm,Sh m t (Zb st) (Qp sm) w:=by
 obtain⟨-,-,f⟩:=h;unfold Jv at b;cases e:Q2 V 0 with
 |none=>rw[e]at b;cases b
 |some mu=>
  rw[e]at b f;cases mu with
  |lok=>exact f.elim
  |par x u=>
   cases b;obtain⟨B,E,st,sm,z⟩:=f;exact⟨(Array.getElem?_eq_some_iff.1 z.sh).1,B,_,_,_,z.sh⟩
def JF.mb_ne(h:JF gs w V)(f:Sh b t (Q0 c wt) sm w):Jv V≠some b:=λ e=>by
 obtain⟨-,-,_,_,_,k⟩:=h.mb e;exact f.ne k rfl
def JF.step(h:JF gs w V)(K:gs[i]?=some g)(B:∀x s me lo,Q2 V i=some (.lok x s me lo)->g'.status=.running)(L:∀i,Q2 V' i=Q2 V i)(N:V' .lck=V .lck)
  (f:∀m,(∀j,QI m (V j))->m<w.heap.size->∀j,QI m (V' j)) (F:∀m t st sm,(∀j,QI m (V j))->Sh m t (Zb st) (Qp sm) w->Sh m t (Zb st) (Qp sm) w'):JF (behind P gs i g g' G) w' V':=by
 refine h.at L N f F λ j x s me lo y e E b=>?_;by_cases H:j=i
 .subst H;rw[Wi K]at E;cases E;exact absurd (B _ _ _ _ e) b
 .rw[J3 H]at E;obtain⟨z,Q,rfl⟩:=Option.map_eq_some_iff.1 E;exact⟨z,Q,λ I=>b (by rw[Wc I];exact I)⟩
def MI.shift{i:Nat}{r:Tr}{z:Qa Tk}(h:MI P t N Stop none gs w tr V rk rel q)(W:rk i=some r)(I:Qv (V (.run i)) z):MI P t N Stop (some i) gs w tr (Q1 V (.run i) z) rk rel q:=by
 have E:∀j,j≠i->Q1 V (.run i) z (.run j)=V (.run j):=λ j b=>Qh _ _ (by intro e;cases e;exact b rfl)
 have f:∀j,(Q1 V (.run i) z (.run j)).tok=(V (.run j)).tok:=by
  intro j;by_cases e:j=i
  .subst e;rw[Ql];exact I.1
  .rw[E j e]
 have K:∀j,Q1 V (.run i) z (.dep j)=V (.dep j):=λ j=>Qh _ _ S1;obtain⟨U,X,F⟩:=I.2 w (h.vi.ok (.run i))
 have L:∀k l,(Q1 V (.run i) z k).canW l->(V k).canW l:=by
  intro k l B;by_cases e:k=.run i
  .subst e;rw[Ql]at B;exact X l B
  .rwa [Qh _ _ e]at B
 have G:∀k l,(Q1 V (.run i) z k).canR l->(V k).canR l:=by
  intro k l B;by_cases e:k=.run i
  .subst e;rw[Ql]at B;exact F l B
  .rwa [Qh _ _ e]at B
 refine⟨?_,h.root,?_,?_,h.above,?_,?_,?_,?_,?_,h.vi.shift I,h.ti.imp λ _ x=>x.tok f L G,h.grp.turn f K G,h.mux.at (λ j=>by simp only[Q2,f]) (Qh _ _ S1) (λ m S _ j a Q T F=>S j a Q T (G _ _ F)) (λ _ _ _ _ _ x=>x) (λ j x s me lo y _ Y H=>⟨y,Y,H⟩),λ j b=>by simp only[Q2,f];exact h.bareM j b⟩
 .intro j r' b hr';have e:j≠i:=λ e=>b (by rw[e]);have:=h.live j r' S1 hr';rw[E j e];exact this
 .intro j g b hg hp;rw[f]at hp;exact h.gone j g b hg hp
 .intro j b hp;rw[f]at hp;simp only[f];exact h.tail j b hp
 .intro j b;have e:j≠i:=λ e=>by subst e;rw[W]at b;cases b
  rw[E j e];exact h.bare j b
 .intro j h0 b;rw[f];exact h.wk j h0 b
 .intro j b;rw[f]at b;exact h.wk' j b
 .intro j b;rw[f];exact h.deaf j b
 .intro j b;rw[K];exact h.deps j b
def JG(P:Program)(t:TypeId)(N:Nat)(Stop:QH Tk)(gs:Array Gr)(w:World)(sl:Option (Nat×Nat))(tr:Trace)(rk:Nat->Option Tr)(q:Nat->Nat)(i:Nat):Prop:=
 ∃b w' ops V' rk' rel' q',runT P (crowd gs w sl) i=(.next (crowd b w' sl),ops)/\MI P t N Stop none b w' (tr++ops) V' rk' rel' q'/\ZY (QC b rk' q') (QC gs rk q)/\JZ w.os w'.os/\w'.output=w.output
def Xj(z:I.size=gs.size)(h:i<gs.size)(w:rk i=some r)(B:∀f,p=some f->Tr.Sub f r):ZY (QC I (Zo rk i p) q') (QC gs rk q):=by
 unfold QC;rw[z];exact ZY.cut (vL h w B)
def MI.priv(z:∀m g U,Stop m g U->g.status=.running){i:Nat}{g:Gr}{r:Tr}(h:MI P t N Stop (some i) gs w tr V rk rel q)(Z:gs[i]?=some g)(hr:rk i=some r)
  (hp:Gv P (λ m g U=>∃r',Tr.Sub r' r/\JR (Za P t N) Stop r' m g U) (i==0) g (V (.run i))):JG P t N Stop gs w sl tr rk q i:=by
 have ae:=(Array.getElem?_eq_some_iff.1 Z).1;obtain⟨hs,hp⟩:=hp;obtain⟨g',w',es,U',aj,Y,H,ah,G,r',ac,hJ⟩:=hp w (h.vi.ok (.run i))
 have L:deafBehind (Deaf tr i) es=Deaf tr i:=by
  refine deafBehind_still (λ e X=>?_) _;obtain⟨X,_⟩:=Y e X;obtain⟨loc,wr,sy⟩:=e;cases loc with
  |mark m=>have X:Mark.still m=true:=X;cases m <;> simp[Mark.still]at X ⊢
  |_=>simp
 have aa:∀j,j≠i->Q1 V (.run i) U' (.run j)=V (.run j):=λ j Q=>Qh _ _ (by intro e;cases e;exact Q rfl)
 have K:∀j,(Q1 V (.run i) U' (.run j)).tok=(V (.run j)).tok:=by
  intro j;by_cases e:j=i
  .subst e;rw[Ql];exact G
  .rw[aa j e]
 have hd:∀j,Q1 V (.run i) U' (.dep j)=V (.dep j):=λ j=>Qh _ _ S1;have ab:rk i≠none:=by rw[hr];simp
 have ad:i=0\/ZK (V (.run i)).tok.ph:=by
  by_cases e:i=0
  .exact .inl e
  .exact .inr (h.wk i e ab)
 have ag:Jv (Q1 V (.run i) U')=Jv V:=by simp only[Jv,Q2,K]
 have F:∀b,(V (.run 0)).tok.ph.blk=some b->b<w.heap.size/\∀j,QI b (V j):=by
  intro b E;have B:=h.grp;unfold QG at B
  revert B E
  cases(V (.run 0)).tok.ph with
  |out=>intro E;cases E
  |par b' ds pend k=>
   intro E;cases E;rintro⟨S,W,c,wt,s,h2,_⟩;exact⟨(Array.getElem?_eq_some_iff.1 h2).1,S⟩
  |_=>intro _ B;exact B.elim
 refine⟨_,w',_,Q1 V (.run i) U',Zo rk i (some r'),rel,q,runT_crowd_go Z aj,?_,Xj Jl ae hr λ ak e=>by cases e;exact ac,H.os,H.output⟩;refine h.go z (V':=Q1 V (.run i) U') (rk':=Zo rk i (some r')) (rel':=rel) (q':=q) (es:=es) Z aa (λ j Q=>Qu _ _ Q) (λ _ _=>rfl) (λ _ _=>.inl rfl) ?_ (.inr (.inl (by rw[K]))) ?_ ?_ (λ j Q=>by rw[hd];exact h.deps j Q) (h.vi.priv H ah) ?_ ?_ ?_ (λ e=>by rw[Qj]at e;cases e)
 .by_cases e:i=0
  .subst e;rw[Qj];simp
  .rw[Qu _ _ (Ne.symm e)];exact h.root
 .intro ak e;rw[Qj]at e;cases e;rw[Ql];refine⟨hJ,?_,λ h0=>?_⟩
  .rw[L,G];exact h.deaf i ab
  .rw[G];exact ad.resolve_left h0
 .intro e;rw[Qj]at e;cases e
 .obtain⟨rm,hti⟩:=h.ti;have:=IJ (fn:=g.frame.fn) (pos:=g.frame.place) hti h.vi (λ b E=>⟨(F b E).1,(F b E).2 _⟩) (λ b E=>⟨(h.mux.mb E).1,(h.mux.mb E).2.1 _⟩) Y H ad;refine⟨rm,?_⟩;rw[ag];simp only[K];exact this
 .have B:=h.grp;unfold QG at B ⊢;rw[K 0];have hk:Z1 (Q1 V (.run i) U')=Z1 V:=by funext j;simp only[Z1,K]
  revert B
  cases ai:(V (.run 0)).tok.ph with
  |out=>exact λ B=>⟨λ j Q=>by rw[K];exact B.1 j Q,B.2⟩
  |par b ds pend k=>
   rintro⟨S,W,c,wt,s,h2,h3,h4⟩;obtain⟨al,_⟩:=F b (by rw[ai];rfl);refine⟨λ j a T ho f=>?_,W,c,wt,s,h2.guar H (S _),?_,?_⟩
   .by_cases e:j=.run i
    .subst e;rw[Ql]at f;rcases H.cr _ f with f|f
     .exact S _ a T ho f
     .simp only[Loc.new]at f;omega
    .rw[Qh _ _ e]at f;exact S _ a T ho f
   .rw[hk];simpa only[hd]using h3
   .intro g0 hg0 hns;by_cases e:i=0
    .subst e;rw[Wi Z]at hg0;cases hg0;exact absurd (hJ.running z) hns
    .rw[J3 (Ne.symm e)]at hg0;obtain⟨y,hy,rfl⟩:=Option.map_eq_some_iff.1 hg0;refine h4 y hy λ I=>hns ?_;rw[Wc I];exact I
  |_=>exact λ B=>B
 .refine h.mux.step Z (λ _ _ _ _ _=>hJ.running z) (λ j=>by simp only[Q2,K]) (Qh _ _ S1) (λ m hm am j a T ho f=>?_) (λ m t st sm hm hs=>hs.guar H (hm _));by_cases e:j=.run i
  .subst e;rw[Ql]at f;rcases H.cr _ f with f|f
   .exact hm _ a T ho f
   .simp only[Loc.new]at f;omega
  .rw[Qh _ _ e]at f;exact hm _ a T ho f
def QG.woken(B:gs[i]?=some g)(f:i=0->g'.status=.running)(h:∀g,gs[0]?=some g->g.status≠.running->N=0) :
  ∀x,(behind P gs i g g' w')[0]?=some x->x.status≠.running->N=0:=by
 intro x w b;by_cases e:i=0
 .subst e;rw[Wi B]at w;cases w;exact absurd (f rfl) b
 .rw[J3 (Ne.symm e)]at w;obtain⟨y,E,rfl⟩:=Option.map_eq_some_iff.1 w;refine h y E λ z=>b ?_;rw[Wc z];exact z
def MI.leaver(E:∀m g U,Stop m g U->g.status=.running)(h:MI P t N Stop none gs w tr V rk rel q)(G:gs[i]?=some g)(f:g.status=.running)(B:rk i=none)(T:(V (.run i)).tok.ph=.out) :
  JG P t N Stop gs w sl tr rk q i:=by
 have Q:=(Array.getElem?_eq_some_iff.1 G).1;have z:i≠0:=λ e=>by subst e;exact h.root B
 have H:=h.gone i g B G T;cases F:q i with
 |zero=>rw[F]at H;rw[H.1]at f;cases f
 |succ n=>
  rw[F]at H;rcases H with⟨hs,_⟩|⟨_,g',es,S,X,H⟩
  .rw[hs]at f;cases f
  have I:stepG P (i==0) g w=.go g' w es:=by
   rw[show(i==0)=false by simpa using z];exact X w
  have Z:MI P t N Stop (some i) gs w tr V rk rel q:={ h with live:=λ j r _ B=>h.live j r S1 B };refine⟨_,w,_,V,rk,rel,Zo q i n,runT_crowd_go G I,?_,Ii (i:=i) Jl Q B (λ j L=>Qu _ _ L) (by rw[Qj,F];omega),.refl _,rfl⟩;refine Z.go E (V':=V) (rk':=rk) (rel':=rel) (q':=Zo q i n) (es:=es) G (λ _ _=>rfl) (λ _ _=>rfl) (λ j L=>Qu _ _ L) (λ _ _=>.inl rfl) h.root (.inl z) (λ r e=>by rw[B]at e;cases e) ?_ h.deps h.vi ?_ ?_ (h.mux.step G (λ x s me lo e=>absurd e ?_) (λ _=>rfl) rfl (λ _ S _=>S) λ _ _ _ _ _ x=>x) (h.bareM i)
  .intro _;obtain⟨Y,b2⟩:=h.bare i B;have hw:¬ZK (V (.run i)).tok.ph:=by rw[T];rintro⟨b,D,e⟩;cases e
   refine⟨z,Y,b2,hw,.inl ⟨T,?_⟩⟩;rw[Qj];exact H
  .exact h.ti.imp λ _ x=>x.dumb λ e he=>P6 (S e he)
  .have K:=h.grp;unfold QG at K ⊢
   revert K
   cases(V (.run 0)).tok.ph with
   |par b ds pend k=>exact λ⟨h1,W,c,wt,s,h2,h3,h4⟩=>⟨h1,W,c,wt,s,h2,h3,QG.woken G (λ e=>absurd e z) h4⟩
   |_=>exact λ K=>K
  .rw[h.bareM i B];simp
def MI.parent(F:∀m g U,Stop m g U->g.status=.running){d':Nat}{z:List Spec}{L S:Nat}{mu:Option ZN}
  (h:MI P t N Stop (some 0) gs w tr V rk rel q) (X:gs[0]?=some g) (K:rk 0=some r) (B:(V (.run 0)).tok=⟨d,.par b ds pend k,mu⟩)
  (H:∀j,QI b (V j)) (E:Sh b t (Q0 c wt) (Qp lo) w)
  (an:Qc P t true g (Q0 c wt) (Qp lo)=.go g' (Q0 L wt') (Qp S) es bs) (ah:Z6 b bs) (ai:∀e∈es,Yb b true e) (hd:deafBehind d es=d')
  (aj:GI N b z v k' (Z1 V) rel (λ i=>(V (.dep i)).M) W L wt' S) (aa:Tr.Sub r' r) (hJ:JR (Za P t N) Stop r' true g' ((V (.run 0)).at d' (.par b z v k'))) :
  JG P t N Stop gs w sl tr rk q 0:=by
 have ak:=(Array.getElem?_eq_some_iff.1 X).1;have I:=hJ.running F;have Z:stepG P (0==0) g w=.go g' (two w b t (Q0 L wt') (Qp S)) es:=H1 an E ah;have G:∀j,j≠0->Q1 V (.run 0) ((V (.run 0)).at d' (.par b z v k')) (.run j)=V (.run j):=λ j Y=>Qh _ _ (by intro e;cases e;exact Y rfl);have T:∀j,Q1 V (.run 0) ((V (.run 0)).at d' (.par b z v k')) (.dep j)=V (.dep j):=λ j=>Qh _ _ S1
 have Q:∀j,(Q1 V (.run 0) ((V (.run 0)).at d' (.par b z v k')) j).canW=(V j).canW/\(Q1 V (.run 0) ((V (.run 0)).at d' (.par b z v k')) j).canR=(V j).canR:=by
  intro j;by_cases e:j=.run 0
  .subst e;rw[Ql];exact⟨rfl,rfl⟩
  .rw[Qh _ _ e];exact⟨rfl,rfl⟩
 have ag:b<w.heap.size:=(Array.getElem?_eq_some_iff.1 E).1;refine⟨_,_,_,Q1 V (.run 0) ((V (.run 0)).at d' (.par b z v k')),Zo rk 0 (some r'),rel,q,runT_crowd_go X Z,?_,Xj Jl ak K λ ap e=>by cases e;exact aa,.refl _,rfl⟩;refine h.go F (rel':=rel) (q':=q) (es:=es) X G (λ j Y=>Qu _ _ Y) (λ _ _=>rfl) (λ _ _=>.inl rfl) (by rw[Qj];simp) (.inr (.inl (by rw[Ql,B];rfl))) ?_ ?_ (λ j Y=>by rw[T];exact h.deps j Y) ?_ ?_ ?_ ?_ (λ e=>by rw[Qj]at e;cases e)
 .intro ap e;rw[Qj]at e;cases e;rw[Ql];refine⟨hJ,?_,λ h0=>absurd rfl h0⟩;rw[h.deaf 0 h.root,B,hd];rfl
 .intro e;rw[Qj]at e;cases e
 .refine⟨λ j=>?_,λ ab ac l hn hw K=>h.vi.sep ab ac l hn (by rw[<- (Q ab).1];exact hw) (by rw[<- (Q ac).2];exact K)⟩;have hv:=(h.vi.two (st':=Q0 L wt') (sm':=Qp S) E H).ok;by_cases e:j=.run 0
  .subst e;rw[Ql];exact⟨(hv (.run 0)).imm,(hv (.run 0)).held,(hv (.run 0)).apart,(hv (.run 0)).sep⟩
  .rw[Qh _ _ e];exact hv j
 .obtain⟨rm,hti⟩:=h.ti;rw[B]at hti;have:=Lw (i:=0) (fn:=g.frame.fn) (pos:=g.frame.place) hti ag H (.inl rfl) ai (h.mux.mb_ne E) (.inl rfl);refine⟨rm,?_⟩;have al:Jv (Q1 V (.run 0) ((V (.run 0)).at d' (.par b z v k')))=Jv V:=by simp only[Jv,Q2,Ql];rfl
  rw[al];have e1:(Q1 V (.run 0) ((V (.run 0)).at d' (.par b z v k')) (.run 0)).tok.ph.blk=some b:=by rw[Ql];rfl
  have e2:∀j,j=0\/(Q1 V (.run 0) ((V (.run 0)).at d' (.par b z v k')) (.run j)).tok.ph≠.out↔j=0\/(V (.run j)).tok.ph≠.out:=by
   intro j;by_cases e:j=0
   .simp[e]
   .rw[G j e]
  have e3:∀j,ZK (Q1 V (.run 0) ((V (.run 0)).at d' (.par b z v k')) (.run j)).tok.ph↔ZK (V (.run j)).tok.ph:=by
   intro j;by_cases e:j=0
   .subst e;rw[Ql,B];constructor
    .rintro⟨b,D,e⟩;cases e
    .rintro⟨b,D,e⟩;cases e
   .rw[G j e]
  rw[e1];have ad:=funext λ j=>propext (e2 j);have ae:=funext λ j=>propext (e3 j);rw[ad,ae];have ao:(two w b t (Q0 L wt') (Qp S)).heap.size=w.heap.size:=by simp[two]
  rw[ao];exact this.turn (λ k l hl=>by rw[<- (Q k).1];exact hl) (λ k l hl=>by rw[<- (Q k).2];exact hl) (λ _ x=>x)
 .unfold QG;rw[Ql]
  have hk:Z1 (Q1 V (.run 0) ((V (.run 0)).at d' (.par b z v k')))=Z1 V:=by
   funext j;by_cases e:j=0
   .simp[Z1,e]
   .simp only[Z1,if_neg e,G j e]
  refine⟨λ j a ha ho K=>H j a ha ho (by rw[<- (Q j).2];exact K),W,L,wt',S,E.two,?_,λ x hx am=>?_⟩
  .rw[hk];simpa only[T]using aj
  .rw[Wi X]at hx;cases hx;exact absurd I am
 .refine h.mux.step X (λ _ _ _ _ _=>I) (λ j=>?_) (Qh _ _ S1) (λ m hm _ j a ha ho K=>hm j a ha ho (by rw[<- (Q j).2];exact K)) (λ m t st sm _ hs=>hs.two_other (E.ne hs));by_cases e:j=0
  .subst e;simp only[Q2,Ql];rfl
  .simp only[Q2,G j e]
def MI.par(h:MI P t N Stop none gs w tr V rk rel q){b:Nat}(z:(V (.run 0)).tok.ph.blk=some b) :
  ∃ds pend k,(V (.run 0)).tok.ph=.par b ds pend k/\(∀j,QI b (V j))/\∃W c wt s,Sh b t (Q0 c wt) (Qp s) w/\GI N b ds pend k (Z1 V) rel (λ i=>(V (.dep i)).M) W c wt s/\(∀g,gs[0]?=some g->g.status≠.running->s=0):=by
 have f:=h.grp;unfold QG at f
 revert f z
 cases B:(V (.run 0)).tok.ph with
 |out=>intro z;cases z
 |par E ds pend k=>
  intro z f;cases z;exact⟨ds,pend,k,rfl,f⟩
 |_=>intro _ f;exact f.elim
def MI.tailGo(G:∀m g U,Stop m g U->g.status=.running){s Q L:Nat}
  (h:MI P t N Stop none gs w tr V rk rel q) (Z:gs[i]?=some g) (f:i≠0) (E:rk i=none) (ab:(V (.run i)).tok.ph≠.out) (K:(V (.run 0)).tok.ph=.par b ds pend k)
  (H:∀j,QI b (V j)) (F:Sh b t (Q0 c wt) (Qp s) w) (ag:∀g,gs[0]?=some g->g.status≠.running->s=0)
  (aq:Qc P t false g (Q0 c wt) (Qp s)=.go g' (Q0 Q wt') (Qp L) es bs) (ai:Z6 b bs) (aj:∀e∈es,Yb b false e) (ap:∀j,tr.size<=j->¬(tr++MemOp.ofEvents i g.frame.fn g.frame.place es).counts j)
  (ak:GI N b ds pend k (Zo (Z1 V) i p') rel (λ i=>(V (.dep i)).M) W Q wt' L) (av:L=s\/(mayWake P g=true/\(g'.status=.running\/g'.status=.finished)))
  (hq:q i=d+1) (aa:¬ZK p')
  (hk:(p'=.out/\QuitsD P d (deafBehind (Deaf tr i) es) g')\/(p'≠.out/\Tl P t N b d (deafBehind (Deaf tr i) es) p' g')):JG P t N Stop gs w sl tr rk q i:=by
 have am:=(Array.getElem?_eq_some_iff.1 Z).1
 have ad:stepG P (i==0) g w=.go g' (two w b t (Q0 Q wt') (Qp L)) es:=by
  rw[show(i==0)=false by simpa using f];exact H1 aq F ai
 have h':MI P t N Stop (some i) gs w tr V rk rel q:={ h with live:=λ j r _ E=>h.live j r S1 E };have z:∀j,j≠i->Q1 V (.run i) (Qa.bare ⟨1,p',none⟩) (.run j)=V (.run j):=λ j I=>Qh _ _ (by intro e;cases e;exact I rfl);have X:∀j,Q1 V (.run i) (Qa.bare ⟨1,p',none⟩) (.dep j)=V (.dep j):=λ j=>Qh _ _ S1
 have hW:∀k l,(Q1 V (.run i) (Qa.bare ⟨1,p',none⟩) k).canW l->(V k).canW l:=by
  intro k l S;by_cases e:k=.run i
  .subst e;rw[Ql]at S;exact absurd S (Wh _ _)
  .rwa [Qh _ _ e]at S
 have hR:∀k l,(Q1 V (.run i) (Qa.bare ⟨1,p',none⟩) k).canR l->(V k).canR l:=by
  intro k l S;by_cases e:k=.run i
  .subst e;rw[Ql]at S;exact absurd S (Wg _ _)
  .rwa [Qh _ _ e]at S
 have ah:b<w.heap.size:=(Array.getElem?_eq_some_iff.1 F).1;refine⟨_,_,_,Q1 V (.run i) (Qa.bare ⟨1,p',none⟩),rk,rel,Zo q i d,runT_crowd_go Z ad,?_,Ii (i:=i) Jl am E (λ j I=>Qu _ _ I) (by rw[Qj,hq];omega),.refl _,rfl⟩;refine h'.go G (rel':=rel) (q':=Zo q i d) (es:=es) Z z (λ _ _=>rfl) (λ j I=>Qu _ _ I) (λ _ _=>.inl rfl) h.root (.inl f) (λ r e=>by rw[E]at e;cases e) ?_ (λ j I=>by rw[X];exact h.deps j I) ?_ ?_ ?_ ?_ (λ _=>by unfold Q2;rw[Ql];rfl)
 .intro _;rw[Ql,Qj];refine⟨f,rfl,rfl,aa,?_⟩;rcases hk with⟨h1,h2⟩|⟨h1,h2⟩
  .exact .inl ⟨h1,h2⟩
  .exact .inr ⟨h1,b,by rw[K];rfl,h2⟩
 .have hv:=h.vi.two (st':=Q0 Q wt') (sm':=Qp L) F H;refine⟨λ j=>?_,λ aw ax l hn hw E=>hv.sep aw ax l hn (hW _ _ hw) (hR _ _ E)⟩;by_cases e:j=.run i
  .subst e;rw[Ql];exact K_ _ _
  .rw[Qh _ _ e];exact hv.ok j
 .obtain⟨rm,hti⟩:=h.ti;rw[K]at hti;have:=Lw (i:=i) (fn:=g.frame.fn) (pos:=g.frame.place) hti ah H (.inr ab) (by rw[show(i==0)=false by simpa using f];exact aj) (h.mux.mb_ne F) (.inr (.inr ap));refine⟨rm,?_⟩;have an:Jv (Q1 V (.run i) (Qa.bare ⟨1,p',none⟩))=Jv V:=by simp only[Jv,Q2,z 0 (Ne.symm f)]
  rw[an];have au:(two w b t (Q0 Q wt') (Qp L)).heap.size=w.heap.size:=by simp[two]
  rw[au,z 0 (Ne.symm f),K]
  have e3:(λ j=>ZK (Q1 V (.run i) (Qa.bare ⟨1,p',none⟩) (.run j)).tok.ph)=λ j=>ZK (V (.run j)).tok.ph:=by
   funext j;by_cases e:j=i
   .subst e;rw[Ql];refine propext ⟨λ x=>absurd x aa,λ x=>absurd E (h.wk' j x)⟩
   .rw[z j e]
  rw[e3];refine this.turn hW hR ?_;rintro j (rfl|I)
  .exact .inl rfl
  .by_cases e:j=i
   .subst e;exact .inr ab
   .rw[z j e]at I;exact .inr I
 .unfold QG;rw[z 0 (Ne.symm f),K]
  have al:Z1 (Q1 V (.run i) (Qa.bare ⟨1,p',none⟩))=Zo (Z1 V) i p':=by
   funext j;by_cases e:j=i
   .subst e;simp only[Z1,if_neg f,Ql,Qj];rfl
   .rw[Qu _ _ e];by_cases e0:j=0
    .simp[Z1,e0]
    .simp only[Z1,if_neg e0,z j e]
  refine⟨λ j a ha ho E=>H j a ha ho (hR _ _ E),W,Q,wt',L,F.two,?_,?_⟩
  .rw[al];simpa only[X]using ak
  .rcases av with rfl|⟨ao,ae⟩
   .exact QG.woken Z (λ e=>absurd e f) ag
   .intro x hx hns;exfalso;obtain⟨ay,ac⟩:=Option.ne_none_iff_exists'.1 h.root;obtain⟨T,hJ,Y⟩:=h.live 0 ay S1 ac;have B:=hJ.running G;rw[J3 (Ne.symm f)]at hx;rcases Y with Y|⟨Y,ho,_⟩
    .rw[Y,Option.map_some,Wc B]at hx;cases hx;exact hns B
    .rw[Y,Option.map_some]at hx
     have:woken P g g' (two w b t (Q0 Q wt') (Qp L)) { T with status:=.blocked }=T:=by
      unfold woken;rw[if_pos,again_blocked B ho];rcases ae with e|e <;> rw[e,ao] <;> rfl
     rw[this]at hx;cases hx;exact hns B
 .refine h.mux.step Z (λ x s me lo e=>?_) (λ j=>?_) (Qh _ _ S1) (λ m hm _ j a ha ho E=>hm j a ha ho (hR _ _ E)) (λ m t st sm _ hs=>hs.two_other (F.ne hs))
  .rw[h.bareM i E]at e;cases e
  .by_cases e:j=i
   .subst e;rw[h.bareM j E];unfold Q2;rw[Ql];rfl
   .unfold Q2;rw[z j e]
def MI.tailStep(z:∀m g U,Stop m g U->g.status=.running)(h:MI P t N Stop none gs w tr V rk rel q)(hi:gs[i]?=some g)(hr:rk i=none)(hp:(V (.run i)).tok.ph≠.out) :
  JG P t N Stop gs w sl tr rk q i:=by
 have Q:i≠0:=λ e=>by subst e;exact h.root hr
 obtain⟨ah,b,hg,hb,ht⟩:=h.tail i hr hp;rw[hi]at hg;cases hg;obtain⟨ds,pend,k,Y,H,W,c,wt,s,Z,G,X⟩:=h.par hb;have f:Z1 V i=(V (.run i)).tok.ph:=by simp[Z1,Q]
 cases L:q i with
 |zero=>rw[L]at ht;exact ht.elim
 |succ n=>
  rw[L]at ht;obtain⟨ag,ht⟩:=ht;have I:∀(es:Array Event),Deaf tr i=1->∀j,(deafBehind 1 (es.extract 0 j)≠0)->deafBehind (Deaf tr i) (es.extract 0 j)≠0:=λ es e j hj=>by rw[e];exact hj
  rcases ht with⟨g',es,bs,hm,F,E,T⟩|⟨S,hd,E⟩|⟨S,hd,g',bs,F,E,T⟩|⟨S,hd,g',bs,F,E,T⟩|⟨S,hd,ad,g',bs,F,E,T⟩
  .have hup:Zo (Z1 V) i (V (.run i)).tok.ph=Z1 V:=by funext j;by_cases e:j=i <;> simp[Zo,e,f]
   refine h.tailGo z (p':=(V (.run i)).tok.ph) hi Q hr hp Y H Z X (E _ _) F (λ e B=>.inl (hm e B)) ?_ (by rw[hup];exact G) (.inl rfl) L (λ x=>absurd hr (h.wk' i x)) (.inr ⟨hp,T⟩);intro j hj hc;obtain⟨x,hx,_⟩:=hc;rcases Jh (t:=tr) hx with⟨ai,_⟩|⟨_,op,ae,ac,_⟩
   .omega
   .obtain⟨e,he',rfl⟩:=Go.Conc.mem_ofEvents ae;rw[(P6 (hm e he')).1]at ac;cases ac
  .rw[S]at f;obtain⟨h1,h2,h3,rfl⟩:=G.relC f;obtain⟨g',bs,F,E,T⟩:=E c wt h1 h2 h3
   have K:=Vx (tr:=tr) (i:=i) (fn:=g.frame.fn) (pos:=g.frame.place) (b:=b) (es:=#[Jd b 0,W9 b 0]) (by intro e B;simp at B;rcases B with rfl|rfl <;> exact .inr ⟨_,_,rfl⟩) (by
    intro j hj;refine I _ hd j ?_;have:j=0\/j=1:=by simp at hj;omega
    rcases this with rfl|rfl <;> simp[deafBehind,Jd,W9])
   have aa:∀e∈(#[Jd b 0,W9 b 0]:Array Event),Yb b false e:=by
    intro e B;simp at B;rcases B with rfl|rfl <;> exact .inr (.inl ⟨0,_,O1,rfl⟩)
   by_cases hl:c=1/\wt=1
   .rw[if_pos hl]at T;obtain⟨rfl,rfl⟩:=hl;obtain⟨rfl,ab⟩:=G.last f;exact h.tailGo z (p':=.lst b 0) hi Q hr hp Y H Z X E F aa K ab (.inl rfl) L (by rintro⟨_,_,e⟩;cases e) (.inr ⟨S1,by rw[hd];exact T⟩)
   .rw[if_neg hl]at T;exact h.tailGo z (p':=.out) hi Q hr hp Y H Z X E F aa K (G.leave f hl) (.inl rfl) L (by rintro⟨_,_,e⟩;cases e) (.inl ⟨rfl,by rw[hd];exact T⟩)
  .rw[S]at f;obtain⟨rfl,rfl,rfl,h4,_⟩:=G.lstAt f;obtain rfl:wt=1:=O1
   have K:=Vx (tr:=tr) (i:=i) (fn:=g.frame.fn) (pos:=g.frame.place) (b:=b) (es:=#[Jd b 0]) (by intro e B;simp at B;subst B;exact .inr ⟨_,_,rfl⟩) (by
    intro j hj;refine I _ hd j ?_;have:j=0:=by simp at hj;omega
    subst this;simp[deafBehind])
   exact h.tailGo z (p':=.lst b 1) hi Q hr hp Y H Z X E F (by intro e B;simp at B;subst B;exact .inr (.inl ⟨0,_,O1,rfl⟩)) K (G.next (wt':=1) f (.inl ⟨rfl,rfl⟩)) (.inl rfl) L (by rintro⟨_,_,e⟩;cases e) (.inr ⟨S1,by rw[hd];exact T⟩)
  .rw[S]at f;obtain⟨rfl,rfl,rfl,h4,_⟩:=G.lstAt f;obtain rfl:wt=1:=O1
   have K:=Vx (tr:=tr) (i:=i) (fn:=g.frame.fn) (pos:=g.frame.place) (b:=b) (es:=#[W9 b 0]) (by intro e B;simp at B;subst B;exact .inr ⟨_,_,rfl⟩) (by
    intro j hj;refine I _ hd j ?_;have:j=0:=by simp at hj;omega
    subst this;simp[deafBehind])
   exact h.tailGo z (p':=.lst b 2) hi Q hr hp Y H Z X E F (by intro e B;simp at B;subst B;exact .inr (.inl ⟨0,_,O1,rfl⟩)) K (G.next (wt':=0) f (.inr ⟨rfl,rfl⟩)) (.inl rfl) L (by rintro⟨_,_,e⟩;cases e) (.inr ⟨S1,by rw[hd];exact T⟩)
  .rw[S]at f;obtain⟨rfl,rfl,rfl,h4,_⟩:=G.lstAt f;obtain rfl:wt=0:=O1
   have K:=Vx (tr:=tr) (i:=i) (fn:=g.frame.fn) (pos:=g.frame.place) (b:=b) (es:=#[Z0 .disable,Jd b 1,W9 b 1,Z0 .enable]) (by intro e B;simp at B;rcases B with rfl|rfl|rfl|rfl <;> first|exact .inl rfl|exact .inr ⟨_,_,rfl⟩) (by
    intro j hj;refine I _ hd j ?_;have:j=0\/j=1\/j=2\/j=3:=by simp at hj;omega
    rcases this with rfl|rfl|rfl|rfl <;> simp[deafBehind,Jd,W9,Z0])
   exact h.tailGo z (p':=.out) hi Q hr hp Y H Z X E F (by intro e B;simp at B;rcases B with rfl|rfl|rfl|rfl <;> first|exact .inl rfl|exact .inr (.inl ⟨1,_,O1,rfl⟩)) K (G.wake f) (.inr ⟨ad,T.status⟩) L (by rintro⟨_,_,e⟩;cases e) (.inl ⟨rfl,by rw[hd];exact T⟩)
def MI.par'(h:MI P t N Stop ex gs w tr V rk rel q)(z:(V (.run 0)).tok.ph.blk=some b) :
  ∃ds pend k,(V (.run 0)).tok.ph=.par b ds pend k/\(∀j,QI b (V j))/\∃W c wt s,Sh b t (Q0 c wt) (Qp s) w/\GI N b ds pend k (Z1 V) rel (λ i=>(V (.dep i)).M) W c wt s/\(∀g,gs[0]?=some g->g.status≠.running->s=0):=by
 have f:=h.grp;unfold QG at f
 revert f z
 cases B:(V (.run 0)).tok.ph with
 |out=>intro z;cases z
 |par E ds pend k=>intro z f;cases z;exact⟨ds,pend,k,rfl,f⟩
 |_=>intro _ f;exact f.elim
def Bj(f:gs[i]?=some g)(h:g'.status=.blocked):behind P gs i g g' w=gs.setIfInBounds i g':=by
 have b:=(Array.getElem?_eq_some_iff.1 f).1;apply Array.ext_getElem?;intro j;by_cases e:j=i
 .subst e;rw[Wi f];simp[b]
 .rw[J3 e,Array.getElem?_setIfInBounds_ne (Ne.symm e)];cases z:gs[j]? with
  |none=>rfl
  |some x=>
   simp only[Option.map_some];unfold woken;simp[h]
def MI.sleep(h:MI P t N Stop (some i) gs w tr V rk rel q)(I:gs[i]?=some g)(G:g.status=.running)(X:g.offers=none)
  (T:rk i=some r) (Q:SX i (V (.run i)).tok) (H:stepG P (i==0) g w=.go { g with status:=.blocked } w #[]) (W:JR (Za P t N) Stop r (i==0) g (V (.run i)))
  (z:QG t N (gs.setIfInBounds i { g with status:=.blocked }) w V rel) (E:JF (gs.setIfInBounds i { g with status:=.blocked }) w V):JG P t N Stop gs w sl tr rk q i:=by
 have S:=(Array.getElem?_eq_some_iff.1 I).1;have F:rk i≠none:=by rw[T];simp
 have B:behind P gs i g { g with status:=.blocked } w=gs.setIfInBounds i { g with status:=.blocked }:=Bj I rfl;refine⟨_,_,_,V,rk,rel,q,runT_crowd_go I H,?_,?_,.refl _,rfl⟩
 .have e1:tr++MemOp.ofEvents i g.frame.fn g.frame.place #[]=tr:=by rw[ofEvents_eq];simp
  show MI P t N Stop none (behind P gs i g { g with status:=.blocked } w) w _ V rk rel q;rw[B,e1];have f:∀j,j≠i->(gs.setIfInBounds i { g with status:=.blocked })[j]?=gs[j]?:=λ j b=>Array.getElem?_setIfInBounds_ne (Ne.symm b);refine⟨?_,h.root,?_,?_,?_,h.bare,h.wk,h.wk',h.deaf,h.deps,h.vi,h.ti,z,E,h.bareM⟩
  .intro j r'' _ hr'';by_cases e:j=i
   .subst e;rw[T]at hr'';cases hr'';exact⟨g,W,.inr ⟨by simp[S],X,Q⟩⟩
   .obtain⟨g_1,K,L⟩:=h.live j r'' (λ e'=>e (Option.some.inj e').symm) hr'';refine⟨g_1,K,?_⟩;rw[f j e];exact L
  .intro j x b hx hp;have e:j≠i:=λ e=>by subst e;exact F b
   rw[f j e]at hx;exact h.gone j x b hx hp
  .intro j b hp;have e:j≠i:=λ e=>by subst e;exact F b
   obtain⟨x,U,K,L⟩:=h.tail j b hp;exact⟨x,U,by rw[f j e];exact K,L⟩
  .intro j b;exact h.above j (by simpa using b)
 .show ZY (QC (behind P gs i g { g with status:=.blocked } w) rk q) (QC gs rk q);rw[B];exact zX I G rfl
def JF.sleep(h:JF gs w V)(F:gs[i]?=some g)(E:∀x s me lo,Q2 V i≠some (.lok x s me lo)):JF (gs.setIfInBounds i g') w V:=by
 refine h.at (λ _=>rfl) rfl (λ _ B _=>B) (λ _ _ _ _ _ x=>x) λ j x s me lo y e f b=>?_;have z:j≠i:=λ e'=>by subst e';exact E _ _ _ _ e
 rw[Array.getElem?_setIfInBounds_ne (Ne.symm z)]at f;exact⟨y,f,b⟩
def MI.block{mu:Option ZN}(h:MI P t N Stop (some 0) gs w tr V rk rel q)(K:gs[0]?=some g)(E:g.status=.running)(Q:g.offers=none)
  (S:rk 0=some r) (f:(V (.run 0)).tok=⟨1,.par b ds false .wait,mu⟩) (B:∀j,QI b (V j))   (z:Sh b t (Q0 c wt) (Qp 0) w) (H:GI N b ds false .wait (Z1 V) rel (λ i=>(V (.dep i)).M) W c wt 0)
  (I:Qc P t true g (Q0 c wt) (Qp 0)=.blocked { g with status:=.blocked } (Q0 c wt) (Qp 0) bs) (G:Z6 b bs) (L:JR (Za P t N) Stop r true g (V (.run 0))):JG P t N Stop gs w sl tr rk q 0:=by
 have F:stepG P (0==0) g w=.go { g with status:=.blocked } w #[]:=by
  have:=DK I z G
  rwa [z.two_same]at this
 refine h.sleep K E Q S (.inl ⟨rfl,b,ds,mu,f⟩) F L ?_ (h.mux.sleep K λ x s me lo e=>?_)
 .unfold QG;rw[f];exact⟨B,W,c,wt,0,z,H,λ _ _ _=>rfl⟩
 .have h3:=h.mux.2.2;rw[e]at h3;exact h3.elim
def MI.calm(E:∀m g U,Stop m g U->g.status=.running)(h:MI P t N Stop (some i) gs w tr V rk rel q)(I:gs[i]?=some g)(hr:rk i=some r)(f:i≠0)(hb:(V (.run i)).tok.ph.blk=some b)
  (ac:∀st sm,Qc P t false g st sm=.go g' st sm #[] bs) (aa:Z6 b bs) (S:Tr.Sub X r) (hJ:JR (Za P t N) Stop X false g' (V (.run i))):JG P t N Stop gs w sl tr rk q i:=by
 have ab:=(Array.getElem?_eq_some_iff.1 I).1;have L:rk i≠none:=by rw[hr];simp
 have F:=h.wk i f L;have T:Z1 V i=(V (.run i)).tok.ph:=by simp[Z1,f]
 have B:=h.grp;unfold QG at B;cases z:(V (.run 0)).tok.ph with
 |out=>rw[z]at B;have:=B.1 i f;rw[this]at F;obtain⟨_,_,e⟩:=F;cases e
 |wrk _ _=>rw[z]at B;exact B.elim
 |rel _=>rw[z]at B;exact B.elim
 |lst _ _=>rw[z]at B;exact B.elim
 |par b' ds pend k=>
  rw[z]at B;obtain⟨K,W,c,wt,s,G,H,Y⟩:=B
  have Z:b'=b:=by
   obtain⟨ae,D,e⟩:=F;rw[e]at hb;cases hb;rw[e]at T;rcases H.ph i with e'|⟨D',e'⟩|e'|⟨j,e'⟩ <;> rw[T]at e' <;> cases e';rfl
  subst Z
  have Q:stepG P (i==0) g w=.go g' w #[]:=by
   rw[show(i==0)=false by simpa using f];have:=H1 (ac (Q0 c wt) (Qp s)) G aa
   rwa [G.two_same]at this
  refine⟨_,_,_,V,Zo rk i (some X),rel,q,runT_crowd_go I Q,?_,Xj Jl ab hr λ ad e=>by cases e;exact S,.refl _,rfl⟩;refine h.go E (V':=V) (rk':=Zo rk i (some X)) (rel':=rel) (q':=q) (es:=#[]) I (λ _ _=>rfl) (λ j hj=>Qu _ _ hj) (λ _ _=>rfl) (λ _ _=>.inl rfl) (by rw[Qu _ _ (Ne.symm f)];exact h.root) (.inl f) ?_ ?_ h.deps h.vi ?_ ?_ (h.mux.step I (λ _ _ _ _ _=>hJ.running E) (λ _=>rfl) rfl (λ _ hm _=>hm) λ _ _ _ _ _ x=>x) (λ e=>by rw[Qj]at e;cases e)
  .intro ad e;rw[Qj]at e;cases e;refine⟨by rw[show(i==0)=false by simpa using f];exact hJ,?_,λ _=>F⟩;rw[deafBehind_nil];exact h.deaf i L
  .intro e;rw[Qj]at e;cases e
  .exact h.ti.imp λ _ x=>x.dumb λ e he=>by simp at he
  .unfold QG;rw[z];exact⟨K,W,c,wt,s,G,H,QG.woken I (λ e=>absurd e f) Y⟩
def MI.lay(ab:∀m g U,Stop m g U->g.status=.running)(h:MI P t N Stop (some i) gs w tr V rk rel q)(hi:gs[i]?=some g)(hr:rk i=some r)(f:i≠0)
  {mu:Option ZN} (I:(V (.run i)).tok=⟨0,.wrk b D,mu⟩) (ax:mu=none\/∃x s lo,mu=some (.lok x s .fin lo)) (hD:D (V (.run i)).M) (a0:∀st sm,Qc P t false g st sm=.go g' st sm #[Z0 (.releaseMerge ⟨b,0,none⟩)] bs) (aq:Z6 b bs) (hT:Tl P t N b d 0 (.rel b) g'):JG P t N Stop gs w sl tr rk q i:=by
 have av:=(Array.getElem?_eq_some_iff.1 hi).1;have az:rk i≠none:=by rw[hr];simp
 have al:Z1 V i=.wrk b D:=by simp[Z1,f,I]
 have ag:Deaf tr i=0:=by rw[h.deaf i az,I]
 have S:=h.grp;unfold QG at S;cases H:(V (.run 0)).tok.ph with
 |out=>rw[H]at S;have:=S.1 i f;rw[I]at this;cases this
 |wrk _ _=>rw[H]at S;exact S.elim
 |rel _=>rw[H]at S;exact S.elim
 |lst _ _=>rw[H]at S;exact S.elim
 |par K ds pend k=>
  rw[H]at S;obtain⟨aa,W,c,wt,s,Y,ah,an⟩:=S
  have ao:K=b:=by
   rcases ah.ph i with e'|⟨D',e'⟩|e'|⟨j,e'⟩ <;> rw[al]at e' <;> cases e';rfl
  subst ao
  have ak:stepG P (i==0) g w=.go g' w #[Z0 (.releaseMerge ⟨K,0,none⟩)]:=by
   rw[show(i==0)=false by simpa using f];have:=H1 (a0 (Q0 c wt) (Qp s)) Y aq
   rwa [Y.two_same]at this
  obtain⟨ai,aj⟩:=ah.rel_ (r:=tr.size) al hD;have ap:K<w.heap.size:=(Array.getElem?_eq_some_iff.1 Y).1
  let F:=Q1 (Q1 V (.run i) (Qa.bare ⟨0,.rel K,none⟩)) (.dep i) ⟨λ _=>none,(V (.run i)).M,⟨0,.out,none⟩⟩
  have v1:F (.run i)=Qa.bare ⟨0,.rel K,none⟩:=by show Q1 _ _ _ _=_;rw[Qh _ _ S1,Ql]
  have T:∀j,j≠i->F (.run j)=V (.run j):=λ j B=>by show Q1 _ _ _ _=_;rw[Qh _ _ S1,Qh _ _ (by intro e;cases e;exact B rfl)]
  have v3:F (.dep i)=⟨λ _=>none,(V (.run i)).M,⟨0,.out,none⟩⟩:=Ql ..;have v4:∀j,j≠i->F (.dep j)=V (.dep j):=λ j B=>by show Q1 _ _ _ _=_;rw[Qh _ _ (by intro e;cases e;exact B rfl),Qh _ _ S1]
  have v5:F .lck=V .lck:=by show Q1 _ _ _ _=_;rw[Qh _ _ S1,Qh _ _ S1]
  have ac:=pS (V (.run i)) (⟨0,.rel K,none⟩:Tk) ⟨0,.out,none⟩;have a1:VI F w:=h.vi.fork ac S1
  have hW:∀k l,(F k).canW l->(V k).canW l/\k≠.dep i\/(k=.dep i/\(V (.run i)).canW l):=by
   intro k l E;cases k with
   |run j=>
    by_cases e:j=i
    .subst e;rw[v1]at E;exact absurd E (Wh _ _)
    .rw[T j e]at E;exact .inl ⟨E,S1⟩
   |dep j=>
    by_cases e:j=i
    .subst e;rw[v3]at E;exact .inr ⟨rfl,ac.wc l E⟩
    .rw[v4 j e]at E;exact .inl ⟨E,by intro e';cases e';exact e rfl⟩
   |lck=>rw[v5]at E;exact .inl ⟨E,S1⟩
  have hR:∀k l,(F k).canR l->(V k).canR l/\k≠.dep i\/(k=.dep i/\(V (.run i)).canR l):=by
   intro k l E;cases k with
   |run j=>
    by_cases e:j=i
    .subst e;rw[v1]at E;exact absurd E (Wg _ _)
    .rw[T j e]at E;exact .inl ⟨E,S1⟩
   |dep j=>
    by_cases e:j=i
    .subst e;rw[v3]at E;exact .inr ⟨rfl,ac.rc l E⟩
    .rw[v4 j e]at E;exact .inl ⟨E,by intro e';cases e';exact e rfl⟩
   |lck=>rw[v5]at E;exact .inl ⟨E,S1⟩
  refine⟨_,_,_,F,Zo rk i none,Zo rel i (some tr.size),Zo q i d,runT_crowd_go hi ak,?_,Xj Jl av hr λ a4 e=>(by cases e),.refl _,rfl⟩
  have e0:MemOp.ofEvents i g.frame.fn g.frame.place #[Z0 (.releaseMerge ⟨K,0,none⟩)]=#[{ g:=i,fn:=g.frame.fn,pos:=g.frame.place,act:=.mark (.releaseMerge ⟨K,0,none⟩) }]:=by
   rw[ofEvents_eq];simp[Z0,MemAct.ofEvent]
  refine h.go ab (V':=F) (rk':=Zo rk i none) (rel':=Zo rel i (some tr.size)) (q':=Zo q i d) (es:=#[Z0 (.releaseMerge ⟨K,0,none⟩)]) hi T (λ j B=>Qu _ _ B) (λ j B=>Qu _ _ B) (λ j B=>.inl (Qu _ _ B)) (by rw[Qu _ _ (Ne.symm f)];exact h.root) (.inl f) ?_ ?_ ?_ a1 ?_ ?_ ?_ (λ _=>by unfold Q2;rw[v1];rfl)
  .intro a4 e;rw[Qj]at e;cases e
  .intro _;rw[v1,Qj,ag];refine⟨f,rfl,rfl,?_,.inr ⟨λ e=>(by cases e),K,by rw[H];rfl,hT⟩⟩;rintro⟨_,_,e⟩;cases e
  .intro j B;have e:j≠i:=λ e=>by subst e;rw[Qj]at B;cases B
   rw[Qu _ _ e]at B;rw[v4 j e];exact h.deps j B
  .obtain⟨rm,hti⟩:=h.ti;have aw:Jv F=Jv V:=by simp only[Jv,Q2,T 0 (Ne.symm f)]
   refine⟨rm,?_⟩;rw[T 0 (Ne.symm f),e0,aw]
   have:=hti.release (W':=λ k=>(F k).canW) (R':=λ k=>(F k).canR) (wk':=λ j=>ZK (F (.run j)).tok.ph) (rel':=Zo rel i (some tr.size)) (y:={ g:=i,fn:=g.frame.fn,pos:=g.frame.place,act:=.mark (.releaseMerge ⟨K,0,none⟩) }) (b:=K) (by rw[H];rfl) rfl ap ag aj (λ k=>by simp[Zo]) hW hR (λ k hk=>by
    by_cases e:k=i
    .exact .inr e
    .left;rw[T k e];exact hk)
   refine this.turn (λ _ _ h=>h) (λ _ _ h=>h) ?_;rintro j (rfl|B)
   .exact .inl rfl
   .by_cases e:j=i
    .subst e;right;rw[I];simp
    .rw[T j e]at B;exact .inr B
  .unfold QG;rw[T 0 (Ne.symm f),H]
   have au:Z1 F=Zo (Z1 V) i (.rel K):=by
    funext j;by_cases e:j=i
    .subst e;simp only[Z1,if_neg f,v1,Qj];rfl
    .rw[Qu _ _ e];by_cases e0:j=0
     .simp[Z1,e0]
     .simp only[Z1,if_neg e0,T j e]
   have am:(λ j=>(F (.dep j)).M)=Zo (λ j=>(V (.dep j)).M) i (V (.run i)).M:=by
    funext j;by_cases e:j=i
    .subst e;rw[v3,Qj]
    .rw[v4 j e,Qu _ _ e]
   refine⟨λ j a ha ho ae=>?_,W,c,wt,s,Y,by rw[au,am];exact ai,QG.woken hi (λ e=>absurd e f) an⟩;rcases hR _ _ ae with⟨X,_⟩|⟨_,X⟩
   .exact aa _ a ha ho X
   .exact aa _ a ha ho X
  .have hmk:∀j,j≠i->Q2 F j=Q2 V j:=λ j B=>by unfold Q2;rw[T j B]
   have L:Q2 F i=none:=by unfold Q2;rw[v1];rfl
   have Z:Q2 V i=mu:=by unfold Q2;rw[I]
   have ad:∀m,(∀j,QI m (V j))->∀j,QI m (F j):=λ m hm j a ha ho ae=>by
    rcases hR _ _ ae with⟨X,_⟩|⟨_,X⟩
    .exact hm _ a ha ho X
    .exact hm _ a ha ho X
   obtain⟨g1,g2,g3⟩:=h.mux;refine⟨λ j x u B e=>?_,by rw[v5];exact g2,?_⟩
   .by_cases G:j=i
    .subst G;rw[L]at e;cases e
    .rw[hmk j G]at e;exact g1 j x u B e
   .rw[hmk 0 (Ne.symm f)]
    revert g3
    cases e0:Q2 V 0 with
    |none=>
     rintro⟨g3,Q⟩;refine⟨λ j=>?_,by rw[v5];exact Q⟩;by_cases G:j=i
     .subst G;exact L
     .rw[hmk j G];exact g3 j
    |some m0=>
     cases m0 with
     |lok=>exact λ x=>x
     |par x u=>
      rintro⟨g3,lp,st,sm,Q⟩;refine⟨ad _ g3,lp,st,sm,⟨Q.sh,Q.word,λ j x' s me lo e=>?_,λ j k s a5 a2 l₁ a6 a3 l₂ e e'=>?_,λ s hs=>?_,Q.idle,λ e=>by rw[v5];exact Q.dep e,λ e=>by rw[v5];exact Q.dep' e,λ j x' s me lo y e hy ay=>?_⟩⟩
      .by_cases G:j=i
       .subst G;rw[L]at e;cases e
       .rw[hmk j G]at e;exact Q.tk j x' s me lo e
      .by_cases G:j=i
       .subst G;rw[L]at e;cases e
       .by_cases ek:k=i
        .subst ek;rw[L]at e';cases e'
        .rw[hmk j G]at e;rw[hmk k ek]at e';exact Q.one j k s a5 a2 l₁ a6 a3 l₂ e e'
      .rcases Q.who s hs with X|⟨j,me,lo,e⟩
       .exact .inl X
       .by_cases G:j=i
        .subst G;rw[Z]at e;rcases ax with rfl|⟨x',s',lo',rfl⟩
         .cases e
         .cases e;exact .inl (Q.tk j _ _ _ _ Z).2.1.symm
        .exact .inr ⟨j,me,lo,by rw[hmk j G];exact e⟩
      .have G:j≠i:=λ G=>by subst G;rw[L]at e;cases e
       rw[hmk j G]at e;rw[J3 G]at hy;obtain⟨z,hz,rfl⟩:=Option.map_eq_some_iff.1 hy;exact Q.slp j x' s me lo z e hz λ hr=>ay (by rw[Wc hr];exact hr)
def WF(V:Hd->Qa Tk)(l:List Nat):Hd->Qa Tk
 |.run j=>if j=0 then(V (.run 0)).with (l.map λ i=>(V (.dep i)).M).flatten else V (.run j)
 |.dep j=>if j∈l then ZG else V (.dep j)
 |.lck=>V .lck
def VI.joinAll{w:World}:∀{l:List Nat}{V:Hd->Qa Tk},l.Nodup->VI V w->VI (WF V l) w
 |[],V,_,h=>by
  have:WF V []=V:=by
   funext k;cases k with
   |run j=>
    simp only[WF];split
    .rename_i e;subst e;simp[Qa.with]
    .rfl
   |dep j=>simp[WF]
   |lck=>rfl
  rw[this];exact h
 |i::l,V,z,h=>by
  obtain⟨G,z⟩:=nodup_cons.1 z;have E:=h.join (k:=.run 0) (k':=.dep i) S1 (⟨0,.out,none⟩:Tk);have F:=VI.joinAll z E
  have e:WF (Q1 (Q1 V (.run 0) ((V (.run 0)).with (V (.dep i)).M)) (.dep i) (Qa.bare ⟨0,.out,none⟩)) l=WF V (i::l):=by
   funext k;cases k with
   |run j=>
    simp only[WF]
    have H:(l.map λ b=>(Q1 (Q1 V (.run 0) ((V (.run 0)).with (V (.dep i)).M)) (.dep i) (Qa.bare (⟨0,.out,none⟩:Tk)) (.dep b)).M)=l.map λ b=>(V (.dep b)).M:=by
     refine map_congr_left λ b f=>?_;have B:b≠i:=λ e=>G (e▸f);rw[Qh _ _ (by intro e;cases e;exact B rfl),Qh _ _ S1]
    rw[H];split
    .rename_i e;rw[Qh _ _ S1,Ql];simp[Qa.with]
    .rename_i e;rw[Qh _ _ S1,Qh _ _ (by intro e';cases e';exact e rfl)]
   |dep j=>
    simp only[WF];by_cases e:j=i
    .subst e;rw[Ql];simp[ZG]
    .rw[Qh _ _ (by intro e';cases e';exact e rfl),Qh _ _ S1];simp[e]
   |lck=>simp only[WF];rw[Qh _ _ S1,Qh _ _ S1]
  rw[<- e];exact F
def Iv:((U.with (l.map λ i=>(V (.dep i)).M).flatten).canW B->U.canW B\/∃i∈l,(V (.dep i)).canW B)/\((U.with (l.map λ i=>(V (.dep i)).M).flatten).canR B->U.canR B\/∃i∈l,(V (.dep i)).canR B):=by
 have key:∀r,r∈U.M++(l.map λ i=>(V (.dep i)).M).flatten->r.lets B->U.canW B\/∃i∈l,(V (.dep i)).canW B:=by
  intro r b f;rcases mem_append.1 b with b|b
  .exact .inl (Q4.2 ⟨r,b,f⟩)
  .obtain⟨M,hM,hrM⟩:=mem_flatten.1 b;obtain⟨i,w,rfl⟩:=mem_map.1 hM;exact .inr ⟨i,w,Q4.2 ⟨r,hrM,f⟩⟩
 refine⟨λ h=>?_,λ h=>?_⟩
 .obtain⟨r,b,f⟩:=Q4.1 h;exact key r b f
 .rcases Qx.1 h with⟨r,b,f⟩|h
  .exact(key r b f).imp Zu λ⟨i,w,h⟩=>⟨i,w,Zu h⟩
  .exact .inl (Qx.2 (.inr h))
def IF(w:U.I=λ _=>none)(f:U.M=[])(l:Loc):¬U.canW l/\¬U.canR l:=by
 have z:¬U.canW l:=λ h=>by obtain⟨r,b,_⟩:=Q4.1 h;rw[f]at b;cases b
 refine⟨z,λ h=>?_⟩;rcases Qx.1 h with⟨r,b,_⟩|h
 .rw[f]at b;cases b
 .cases l <;> simp[w]at h
def MI.take(L:∀m g U,Stop m g U->g.status=.running){mu:Option ZN}(h:MI P t N Stop (some 0) gs w tr V rk rel q)(Q:gs[0]?=some g)(hr:rk 0=some r)
  (G:(V (.run 0)).tok=⟨0,.par b ds false .up,mu⟩)   (S:Sh b t (Q0 c wt) (Qp lo) w) (H:GI N b ds false .up (Z1 V) rel (λ i=>(V (.dep i)).M) W c wt lo)
  (aj:∀st sm,Qc P t true g st sm=.go g' st sm #[Z0 (.acquire ⟨b,0,none⟩)] bs) (ag:Z6 b bs)
  (hJ:∀Ms,JK ds Ms->∃r',Tr.Sub r' r/\JR (Za P t N) Stop r' true g' { (V (.run 0))with M:=((V (.run 0)).M++Ms.flatten)++(V .lck).M,tok:=⟨0,.out,none⟩ }):JG P t N Stop gs w sl tr rk q 0:=by
 have ah:=(Array.getElem?_eq_some_iff.1 Q).1;obtain⟨-,-,-,-,Y,E⟩:=H.up;obtain⟨r',aa,hJ⟩:=hJ _ H.deps;have I:∀j,j≠0->(V (.run j)).tok.ph=.out:=λ j B=>by have:=Y j;simpa[Z1,B]using this
 have F:∀j,j≠0->rk j=none:=by
  intro j B;cases e:rk j with
  |none=>rfl
  |some r=>
   obtain⟨b,D,e'⟩:=h.wk j B (by rw[e];simp);rw[I j B]at e';cases e'
 have T:Deaf tr 0=0:=by rw[h.deaf 0 h.root,G]
 have Z:stepG P (0==0) g w=.go g' w #[Z0 (.acquire ⟨b,0,none⟩)]:=by
  have:=H1 (aj (Q0 c wt) (Qp lo)) S ag
  rwa [S.two_same]at this
 have ae:b<w.heap.size:=(Array.getElem?_eq_some_iff.1 S).1
 let K:Hd->Qa Tk:=Q1 (Q1 (WF V W) (.run 0) ((WF V W (.run 0)).with (WF V W .lck).M)) .lck (Qa.bare ⟨0,.out,none⟩)
 have z0:K (.run 0)=((V (.run 0)).with (W.map λ i=>(V (.dep i)).M).flatten).with (V .lck).M:=by show Q1 _ _ _ _=_;rw[Qh _ _ S1,Ql];simp[WF]
 let z:Hd->Qa Tk:=Q1 K (.run 0) { K (.run 0)with tok:=⟨0,.out,none⟩ }
 have v0:z (.run 0)={ (V (.run 0))with M:=((V (.run 0)).M++(W.map λ i=>(V (.dep i)).M).flatten)++(V .lck).M,tok:=⟨0,.out,none⟩ }:=by show Q1 _ _ _ _=_;rw[Ql,z0];rfl
 have v2:∀j,j≠0->z (.run j)=V (.run j):=λ j B=>by show Q1 _ _ _ _=_;rw[Qh _ _ (by intro e;cases e;exact B rfl)];show Q1 _ _ _ _=_;rw[Qh _ _ S1,Qh _ _ (by intro e;cases e;exact B rfl)];simp[WF,B]
 have vm:z .lck=ZG:=by show Q1 _ _ _ _=_;rw[Qh _ _ S1];exact Ql ..
 have vd:∀j,z (.dep j)=ZG:=by
  intro j;show Q1 _ _ _ _=_;rw[Qh _ _ S1];show Q1 _ _ _ _=_;rw[Qh _ _ S1,Qh _ _ S1];simp only[WF];split
  .rfl
  .rename_i B;refine h.deps j ?_;cases e:rel j with
   |none=>rfl
   |some x=>exact absurd (H.inW j (.inr (by rw[e];simp))) B
 have ak:VI z w:=by
  have:=(VI.joinAll H.nodup h.vi).join (k:=.run 0) (k':=.lck) S1 (⟨0,.out,none⟩:Tk)
  have hs:∀k,(z k).canW=(K k).canW/\(z k).canR=(K k).canR:=by
   intro k;by_cases e:k=.run 0
   .subst e;rw[show z (.run 0)=_ from Ql ..];exact⟨rfl,rfl⟩
   .rw[show z k=_ from Qh _ _ e];exact⟨rfl,rfl⟩
  refine⟨λ k=>?_,λ ac ad l X hw hr=>this.sep ac ad l X (by rw[<- (hs ac).1];exact hw) (by rw[<- (hs ad).2];exact hr)⟩;by_cases e:k=.run 0
  .subst e;rw[show z (.run 0)=_ from Ql ..];have:=this.ok (.run 0);exact⟨this.imm,this.held,this.apart,this.sep⟩
  .rw[show z k=_ from Qh _ _ e];exact this.ok k
 have ab:∀l,((z (.run 0)).canW l->(K (.run 0)).canW l)/\((z (.run 0)).canR l->(K (.run 0)).canR l):=λ l=>by
  rw[show z (.run 0)=_ from Ql ..];exact⟨λ x=>x,λ x=>x⟩
 have hW:∀k l,(z k).canW l->k=.run 0/\((V (.run 0)).canW l\/(∃g r,rel g=some r/\(V (.dep g)).canW l)\/(V .lck).canW l):=by
  intro k l f;cases k with
  |run j=>
   by_cases e:j=0
   .subst e;have f:=(ab l).1 f;rw[z0]at f;refine⟨rfl,?_⟩;rcases Ox (τ:=V .lck) f with f|f
    .refine(Iv.1 f).imp id λ⟨i,Q,h⟩=>?_;obtain⟨x,hx⟩:=E i Q;exact .inl ⟨i,x,hx,h⟩
    .exact .inr (.inr f)
   .rw[v2 j e]at f;obtain⟨b1,b2⟩:=h.bare j (F j e);exact absurd f (IF b1 b2 l).1
  |dep j=>rw[vd]at f;exact absurd f (Wh _ _)
  |lck=>rw[vm]at f;exact absurd f (Wh _ _)
 have hR:∀k l,(z k).canR l->k=.run 0/\((V (.run 0)).canR l\/(∃g r,rel g=some r/\(V (.dep g)).canR l)\/(V .lck).canR l):=by
  intro k l f;cases k with
  |run j=>
   by_cases e:j=0
   .subst e;have f:=(ab l).2 f;rw[z0]at f;refine⟨rfl,?_⟩;rcases Ow (τ:=V .lck) f with f|f
    .refine(Iv.2 f).imp id λ⟨i,Q,h⟩=>?_;obtain⟨x,hx⟩:=E i Q;exact .inl ⟨i,x,hx,h⟩
    .exact .inr (.inr f)
   .rw[v2 j e]at f;obtain⟨b1,b2⟩:=h.bare j (F j e);exact absurd f (IF b1 b2 l).2
  |dep j=>rw[vd]at f;exact absurd f (Wg _ _)
  |lck=>rw[vm]at f;exact absurd f (Wg _ _)
 refine⟨_,_,_,z,Zo rk 0 (some r'),λ _=>none,q,runT_crowd_go Q Z,?_,Xj Jl ah hr λ al e=>by cases e;exact aa,.refl _,rfl⟩
 have e0:MemOp.ofEvents 0 g.frame.fn g.frame.place #[Z0 (.acquire ⟨b,0,none⟩)]=#[{ g:=0,fn:=g.frame.fn,pos:=g.frame.place,act:=.mark (.acquire ⟨b,0,none⟩) }]:=by
  rw[ofEvents_eq];simp[Z0,MemAct.ofEvent]
 refine h.go L (V':=z) (rk':=Zo rk 0 (some r')) (rel':=λ _=>none) (q':=q) (es:=#[Z0 (.acquire ⟨b,0,none⟩)]) Q v2 (λ j B=>Qu _ _ B) (λ _ _=>rfl) (λ _ _=>.inr rfl) (by rw[Qj];simp) (.inr (.inr I)) ?_ ?_ (λ j _=>vd j) ak ?_ ?_ ?_ (λ e=>by rw[Qj]at e;cases e)
 .intro al e;rw[Qj]at e;cases e;rw[v0];refine⟨hJ,?_,λ h0=>absurd rfl h0⟩;rw[T];rfl
 .intro e;rw[Qj]at e;cases e
 .obtain⟨rm,hti⟩:=h.ti;have ai:Jv z=none:=by unfold Jv Q2;rw[v0];rfl
  refine⟨none,?_⟩;rw[e0,v0,ai]
  exact hti.acquire (y:={ g:=0,fn:=g.frame.fn,pos:=g.frame.place,act:=.mark (.acquire ⟨b,0,none⟩) }) (b:=b) (by rw[G];rfl) rfl rfl ae T (λ j=>by
   by_cases e:j=0
   .subst e;rw[G];rintro⟨_,_,e⟩;cases e
   .rw[I j e];rintro⟨_,_,e⟩;cases e) (.inl rfl) hW hR
 .unfold QG;rw[v0];exact⟨λ j B=>by rw[v2 j B];exact I j B,λ _=>rfl⟩
 .have X:∀j,Q2 z j=none:=by
   intro j;by_cases e:j=0
   .subst e;unfold Q2;rw[v0]
   .unfold Q2;rw[v2 j e];exact h.bareM j (F j e)
  refine⟨λ j x u _ e=>(by rw[X]at e;cases e),by rw[vm];rfl,?_⟩;rw[X];exact⟨X,vm⟩
def MI.start(ah:∀m g U,Stop m g U->g.status=.running){g g' cg:Gr}{r ab ac:Tr}{b:Nat}{ds:List Spec}{D:Spec}{Up Uc:Qa Tk}{mu ap mc:Option ZN}(h:MI P t N Stop (some 0) gs w tr V rk rel q)(hi:gs[0]?=some g)(hr:rk 0=some r)
  (I:(V (.run 0)).tok=⟨0,.par b ds true .run,mu⟩) (av:∀j,QI b (V j)) {W:List Nat} {c wt s:Nat} (bj:Sh b t (Q0 c wt) (Qp s) w) (ax:GI N b ds true .run (Z1 V) rel (λ i=>(V (.dep i)).M) W c wt s)
  (bk:Qc P t true g undef undef=.spawn g' cg #[]) (hf:Hs (V (.run 0)) Up Uc) (hp:Up.tok=⟨0,.par b (D::ds) false .run,ap⟩) (hc:Uc.tok=⟨0,.wrk b D,mc⟩) (a0:Yj mu ap mc)
  (h1:Tr.Sub ab r) (h2:Tr.Sub ac r) (hJ:JR (Za P t N) Stop ab true g' Up) (a9:JR (Za P t N) Stop ac false cg Uc):JG P t N Stop gs w sl tr rk q 0:=by
 have az:=(Array.getElem?_eq_some_iff.1 hi).1;have bc:stepG P (0==0) g w=.spawn g' cg w #[]:=Nc bk w;obtain⟨a6,a7,a8⟩:=h.above gs.size (Nat.le_refl _);have S:gs.size≠0:=O1
 have aj:(V (.run gs.size)).tok.ph=.out:=by
  apply Classical.byContradiction;intro bi;obtain⟨x,_,K,_⟩:=h.tail gs.size a6 bi;rw[Array.getElem?_eq_none (Nat.le_refl _)]at K;cases K
 have aw:Z1 V gs.size=.out:=by simp[Z1,S,aj]
 have bf:gs.size∉W:=by
  intro hm;obtain⟨j,E,e⟩:=mem_iff_getElem.1 hm;have ay:j<ds.length:=by rw[<- ax.len];exact E
  rcases ax.spec j gs.size ds[j] (by rw[getElem?_eq_getElem E,e]) (getElem?_eq_getElem ay)with⟨x,_⟩|⟨_,⟨x,K⟩,_⟩
  .rw[aw]at x;cases x
  .rw[a8]at K;cases K
 have ba:Deaf tr 0=0:=by rw[h.deaf 0 h.root,I]
 let Q:=Q1 (Q1 V (.run 0) Up) (.run gs.size) Uc
 have v0:Q (.run 0)=Up:=by show Q1 _ _ _ _=_;rw[Qh _ _ (λ e=>S (Hd.run.inj e).symm),Ql]
 have vc:Q (.run gs.size)=Uc:=Ql ..;have Y:∀j,j≠0->j≠gs.size->Q (.run j)=V (.run j):=λ j E ay=>by show Q1 _ _ _ _=_;rw[Qh _ _ (by intro e;cases e;exact ay rfl),Qh _ _ (by intro e;cases e;exact E rfl)]
 have vd:∀j,Q (.dep j)=V (.dep j):=λ j=>by show Q1 _ _ _ _=_;rw[Qh _ _ S1,Qh _ _ S1]
 have vm:Q .lck=V .lck:=by show Q1 _ _ _ _=_;rw[Qh _ _ S1,Qh _ _ S1]
 have bl:VI Q w:=h.vi.fork hf (λ e=>S (Hd.run.inj e).symm)
 have hW:∀k l,(Q k).canW l->(V k).canW l\/(k=.run gs.size/\(V (.run 0)).canW l):=by
  intro k l G;cases k with
  |run j=>
   by_cases e:j=0
   .subst e;rw[v0]at G;exact .inl (hf.wp l G)
   .by_cases e2:j=gs.size
    .subst e2;rw[vc]at G;exact .inr ⟨rfl,hf.wc l G⟩
    .rw[Y j e e2]at G;exact .inl G
  |dep j=>rw[vd]at G;exact .inl G
  |lck=>rw[vm]at G;exact .inl G
 have hR:∀k l,(Q k).canR l->(V k).canR l\/(k=.run gs.size/\(V (.run 0)).canR l):=by
  intro k l G;cases k with
  |run j=>
   by_cases e:j=0
   .subst e;rw[v0]at G;exact .inl (hf.rp l G)
   .by_cases e2:j=gs.size
    .subst e2;rw[vc]at G;exact .inr ⟨rfl,hf.rc l G⟩
    .rw[Y j e e2]at G;exact .inl G
  |dep j=>rw[vd]at G;exact .inl G
  |lck=>rw[vm]at G;exact .inl G
 let y:MemOp:={ g:=0,fn:=g.frame.fn,pos:=g.frame.place,act:=.go gs.size }
 let z:MemOp:={ g:=gs.size,fn:=cg.frame.fn,pos:=g.frame.place,act:=.start }
 have bb:((MemOp.ofEvents 0 g.frame.fn g.frame.place #[]).push y).push z=#[y,z]:=by rw[ofEvents_eq];simp
 have an:∀j,Deaf (tr++#[y,z]) j=Deaf tr j:=by
  intro j;have e:tr++#[y,z]=(tr++#[y])++#[z]:=by apply Array.ext';simp
  rw[e,Deaf_push,Deaf_push];rfl
 have Z:=hJ.running ah;refine⟨_,_,_,Q,Zo (Zo rk 0 (some ab)) gs.size (some ac),rel,q,runT_crowd_spawn hi bc,?_,?_,.refl _,rfl⟩
 .show MI P t N Stop none ((gs.setIfInBounds 0 g').push cg) w (tr++((MemOp.ofEvents 0 g.frame.fn g.frame.place #[]).push y).push z) Q _ rel q;rw[bb]
  have be:∀j x,((gs.setIfInBounds 0 g').push cg)[j]?=some x->(j=0/\x=g')\/(j=gs.size/\x=cg)\/(j≠0/\j≠gs.size/\gs[j]?=some x):=by
   intro j x K;rw[Array.getElem?_push]at K;simp only[Array.size_setIfInBounds]at K;split at K
   .rename_i e;subst e;cases K;exact .inr (.inl ⟨rfl,rfl⟩)
   .rename_i e;by_cases B:j=0
    .subst B;simp[az]at K;exact .inl ⟨rfl,K.symm⟩
    .rw[Array.getElem?_setIfInBounds_ne (Ne.symm B)]at K;exact .inr (.inr ⟨B,e,K⟩)
  have ai:((gs.setIfInBounds 0 g').push cg)[0]?=some g':=by
   rw[Array.getElem?_push];simp[az,Ne.symm S]
  have au:((gs.setIfInBounds 0 g').push cg)[gs.size]?=some cg:=by
   rw[Array.getElem?_push];simp
  have ad:∀j,j≠0->j≠gs.size->((gs.setIfInBounds 0 g').push cg)[j]?=gs[j]?:=by
   intro j h0 h1;rw[Array.getElem?_push];simp only[Array.size_setIfInBounds,if_neg h1];exact Array.getElem?_setIfInBounds_ne (Ne.symm h0)
  have L:∀j,j≠0->j≠gs.size->Zo (Zo rk 0 (some ab)) gs.size (some ac) j=rk j:=λ j h0 h1=>by rw[Qu _ _ h1,Qu _ _ h0]
  have F:Zo (Zo rk 0 (some ab)) gs.size (some ac) 0=some ab:=by rw[Qu _ _ (Ne.symm S),Qj]
  have H:Zo (Zo rk 0 (some ab)) gs.size (some ac) gs.size=some ac:=Qj ..;refine⟨?_,by rw[F];simp,?_,?_,?_,?_,?_,?_,?_,λ j E=>by rw[vd];exact h.deps j E,bl,?_,?_,?_,?_⟩
  .intro j r'' _ hr'';by_cases B:j=0
   .subst B;rw[F]at hr'';cases hr'';exact⟨g',by rw[v0];exact hJ,.inl ai⟩
   .by_cases f:j=gs.size
    .subst f;rw[H]at hr'';cases hr'';exact⟨cg,by rw[vc,show(gs.size==0)=false by simpa using S];exact a9,.inl au⟩
    .rw[L j B f]at hr'';obtain⟨x,k1,k2⟩:=h.live j r'' (λ e'=>B (Option.some.inj e').symm) hr'';refine⟨x,by rw[Y j B f];exact k1,?_⟩;rw[Y j B f,ad j B f];exact k2
  .intro j x E K hp';have B:j≠0:=λ e=>by subst e;rw[F]at E;cases E
   have f:j≠gs.size:=λ e=>by subst e;rw[H]at E;cases E
   rw[L j B f]at E;rw[ad j B f]at K;rw[Y j B f]at hp';rw[an];exact h.gone j x E K hp'
  .intro j E hp';have B:j≠0:=λ e=>by subst e;rw[F]at E;cases E
   have f:j≠gs.size:=λ e=>by subst e;rw[H]at E;cases E
   rw[L j B f]at E;rw[Y j B f]at hp';obtain⟨x,b',k1,k2,k3⟩:=h.tail j E hp';refine⟨x,b',by rw[ad j B f];exact k1,?_,by rw[an,Y j B f];exact k3⟩;rw[v0,hp];rw[I]at k2;exact k2
  .intro j E;simp at E;rw[L j O1 O1,an];exact h.above j O1
  .intro j E;have B:j≠0:=λ e=>by subst e;rw[F]at E;cases E
   have f:j≠gs.size:=λ e=>by subst e;rw[H]at E;cases E
   rw[L j B f]at E;rw[Y j B f];exact h.bare j E
  .intro j h0 E;by_cases f:j=gs.size
   .subst f;rw[vc,hc];exact⟨b,D,rfl⟩
   .rw[L j h0 f]at E;rw[Y j h0 f];exact h.wk j h0 E
  .intro j E;by_cases B:j=0
   .subst B;rw[F];simp
   .by_cases f:j=gs.size
    .subst f;rw[H];simp
    .rw[Y j B f]at E;rw[L j B f];exact h.wk' j E
  .intro j E;rw[an];by_cases B:j=0
   .subst B;rw[v0,hp,ba]
   .by_cases f:j=gs.size
    .subst f;rw[vc,hc,a7]
    .rw[L j B f]at E;rw[Y j B f];exact h.deaf j E
  .obtain⟨rm,hti⟩:=h.ti;rw[I]at hti
   have bh:Jv Q=Jv V:=by
    unfold Jv Q2;rw[v0,hp,I];rcases a0 with⟨rfl,_⟩|⟨x,u,s,rfl,_,rfl,_⟩ <;> rfl
   refine⟨rm,?_⟩;rw[bh,v0,hp];refine hti.fork (y:=y) (z:=z) (c:=gs.size) rfl rfl rfl rfl ba a7 S ?_ ?_ hW hR
   .rintro j (rfl|E)
    .exact .inl (.inl rfl)
    .by_cases B:j=0
     .exact .inl (.inl B)
     .by_cases f:j=gs.size
      .exact .inr ⟨f,.inl rfl⟩
      .rw[Y j B f]at E;exact .inl (.inr E)
   .intro j E;by_cases B:j=0
    .subst B;rw[I]at E;obtain⟨_,_,e⟩:=E;cases e
    .by_cases f:j=gs.size
     .subst f;rw[aj]at E;obtain⟨_,_,e⟩:=E;cases e
     .rw[Y j B f];exact E
  .unfold QG;rw[v0,hp]
   have bg:Z1 Q=Zo (Z1 V) gs.size (.wrk b D):=by
    funext j;by_cases f:j=gs.size
    .subst f;simp only[Z1,if_neg S,vc,hc,Qj]
    .rw[Qu _ _ f];by_cases B:j=0
     .simp[Z1,B]
     .simp only[Z1,if_neg B,Y j B f]
   refine⟨λ j a ha ho a5=>?_,gs.size::W,c,wt,s,bj,?_,λ x K T=>?_⟩
   .rcases hR _ _ a5 with k1|⟨_,k1⟩
    .exact av _ a ha ho k1
    .exact av _ a ha ho k1
   .rw[bg];simp only[vd];exact ax.go aw a8 bf
   .rw[ai]at K;cases K;exact absurd Z T
  .have hk0:Q2 V 0=mu:=by unfold Q2;rw[I]
   have ae:Q2 Q 0=ap:=by unfold Q2;rw[v0,hp]
   have ak:Q2 Q gs.size=mc:=by unfold Q2;rw[vc,hc]
   have al:Q2 V gs.size=none:=h.bareM _ a6;have ag:∀j,j≠0->j≠gs.size->Q2 Q j=Q2 V j:=λ j B f=>by unfold Q2;rw[Y j B f]
   have am:∀m,(∀j,QI m (V j))->∀j,QI m (Q j):=λ m hm j a ha ho a5=>by
    rcases hR _ _ a5 with h1|⟨_,h1⟩
    .exact hm _ a ha ho h1
    .exact hm _ a ha ho h1
   obtain⟨g1,g2,g3⟩:=h.mux;rw[hk0]at g3;refine⟨λ j x u E e=>?_,by rw[vm];exact g2,?_⟩
   .by_cases f:j=gs.size
    .subst f;rw[ak]at e;rcases a0 with⟨_,rfl⟩|⟨x,u,s,_,_,_,rfl⟩ <;> cases e
    .rw[ag j E f]at e;exact g1 j x u E e
   .rw[ae];rcases a0 with⟨rfl,rfl⟩|⟨x,u,s,rfl,bd,rfl,rfl⟩
    .have hk:∀j,Q2 Q j=Q2 V j:=by
      intro j;by_cases B:j=0
      .subst B;rw[hk0,ae]
      .by_cases f:j=gs.size
       .subst f;rw[ak,al]
       .exact ag j B f
     cases ap with
     |none=>exact⟨λ j=>by rw[hk];exact g3.1 j,by rw[vm];exact g3.2⟩
     |some m0=>
      cases m0 with
      |lok=>exact g3
      |par x u=>
       obtain⟨g4,lp,st,sm,g5⟩:=g3;refine⟨am _ g4,lp,st,sm,g5.at hk vm g5.sh λ j x' s me lo y e hy T=>?_⟩;rcases be j y hy with⟨rfl,rfl⟩|⟨rfl,rfl⟩|⟨_,_,hz⟩
       .exact absurd Z T
       .rw[al]at e;cases e
       .exact⟨y,hz,T⟩
    .obtain⟨g4,lp,st,sm,g5⟩:=g3;refine⟨am _ g4,lp,st,sm,g5.sh,g5.word,λ j x' X me lo e=>?_,λ j k X aq ao l₁ bn bm l₂ e e'=>?_,λ X aa=>?_,λ X aa=>?_,λ e=>by rw[vm];exact g5.dep e,λ e=>by rw[vm];exact g5.dep' e,λ j x' X me lo y e hy T=>?_⟩
     .by_cases B:j=0
      .subst B;rw[ae]at e;cases e
      .by_cases f:j=gs.size
       .subst f;rw[ak]at e;cases e;exact⟨rfl,(g5.idle _ bd).symm,Nat.zero_le _,J6 ..⟩
       .rw[ag j B f]at e;obtain⟨a1,a2,a3,a4⟩:=g5.tk j x' X me lo e;refine⟨a1,a2,a3,?_⟩;by_cases es:X=s
        .subst es;rw[J6]
        .rw[Xl _ _ es];exact a4
     .have key:∀j aq ao l₁,Q2 Q j=some (.lok aq X ao l₁)->(j=gs.size/\X=s)\/(Q2 V j=some (.lok aq X ao l₁)/\X≠s):=by
       intro j aq ao l₁ e;by_cases B:j=0
       .subst B;rw[ae]at e;cases e
       .by_cases f:j=gs.size
        .subst f;rw[ak]at e;cases e;exact .inl ⟨rfl,rfl⟩
        .rw[ag j B f]at e;refine .inr ⟨e,λ es=>?_⟩;have:=(g5.tk j _ _ _ _ e).2.2.2;rw[es,bd]at this;cases this
      rcases key j _ _ _ e with⟨a1,a2⟩|⟨a1,a2⟩
      .rcases key k _ _ _ e' with⟨b1,b2⟩|⟨b1,b2⟩
       .rw[a1,b1]
       .exact absurd a2 b2
      .rcases key k _ _ _ e' with⟨b1,b2⟩|⟨b1,b2⟩
       .exact absurd b2 a2
       .exact g5.one j k X _ _ _ _ _ _ a1 b1
     .by_cases es:X=s
      .subst es;exact .inr ⟨gs.size,.idle,0,ak⟩
      .rw[Xl _ _ es]at aa;rcases g5.who X aa with h1|⟨j,me,lo,e⟩
       .exact .inl h1
       .refine .inr ⟨j,me,lo,?_⟩;by_cases B:j=0
        .subst B;rw[hk0]at e;cases e
        .by_cases f:j=gs.size
         .subst f;rw[al]at e;cases e
         .rw[ag j B f];exact e
     .by_cases es:X=s
      .subst es;rw[J6]at aa;cases aa
      .rw[Xl _ _ es]at aa;exact g5.idle X aa
     .by_cases f:j=gs.size
      .subst f;rw[au]at hy;cases hy;exact absurd (a9.running ah) T
      .by_cases B:j=0
       .subst B;rw[ai]at hy;cases hy;exact absurd Z T
       .rw[ag j B f]at e;rw[ad j B f]at hy;exact g5.slp j x' X me lo y e hy T
  .intro j E;have B:j≠0:=λ e=>by subst e;rw[F]at E;cases E
   have f:j≠gs.size:=λ e=>by subst e;rw[H]at E;cases E
   rw[L j B f]at E;unfold Q2;rw[Y j B f];exact h.bareM j E
 .show ZY (QC ((gs.setIfInBounds 0 g').push cg) _ q) (QC gs rk q);unfold QC;have e:((gs.setIfInBounds 0 g').push cg).size=gs.size+1:=S1
  rw[e];exact ZY.cut (vM az hr h1 h2)
def LP.word_own(h:LP.word .got me'=some z):LP.word (.own me'.rels) me'=some z/\me'.isOwn=false:=by
 cases me' <;> simp_all[LP.word,LP.rels,LP.isOwn]
def LP.word_rls(h:LP.word (.own v) me'=some z):LP.word .rls me'=some z/\v=me'.rels/\me'.isOwn=false:=by
 cases me' <;> cases v <;> simp_all[LP.word,LP.rels,LP.isOwn]
def MI.inGrp(h:MI P t N Stop ex gs w tr V rk rel q)(E:i≠0)(L:(V (.run i)).tok.ph=.wrk b D) :
  ∃ds pend k,(V (.run 0)).tok.ph=.par b ds pend k/\(∀j,QI b (V j))/\∃W c wt s,Sh b t (Q0 c wt) (Qp s) w/\GI N b ds pend k (Z1 V) rel (λ i=>(V (.dep i)).M) W c wt s/\(∀g,gs[0]?=some g->g.status≠.running->s=0):=by
 have K:Z1 V i=.wrk b D:=by simp[Z1,E,L]
 have f:=h.grp;unfold QG at f;cases z:(V (.run 0)).tok.ph with
 |out=>rw[z]at f;have:=f.1 i E;rw[L]at this;cases this
 |wrk _ _=>rw[z]at f;exact f.elim
 |rel _=>rw[z]at f;exact f.elim
 |lst _ _=>rw[z]at f;exact f.elim
 |par Q ds pend k=>
  rw[z]at f;obtain⟨F,W,c,wt,s,I,B,G⟩:=f
  have H:Q=b:=by
   rcases B.ph i with e'|⟨S,e'⟩|e'|⟨j,e'⟩ <;> rw[K]at e' <;> cases e';rfl
  subst H;exact⟨ds,pend,k,rfl,F,W,c,wt,s,I,B,G⟩
def MI.lock(h:MI P t N Stop ex gs w tr V rk rel q)(z:Q2 V i=some (.lok x s me lo)) :
  ∃u f st sm,Q2 V 0=some (.par x u)/\(∀j,QI x.m (V j))/\WV gs w V x u f st sm/\me=f s/\lo<=(f (!s)).cls/\u s=true:=by
 obtain⟨-,-,b⟩:=h.mux;cases e:Q2 V 0 with
 |none=>rw[e]at b;rw[b.1 i]at z;cases z
 |some I=>
  rw[e]at b;cases I with
  |lok=>exact b.elim
  |par K u=>
   obtain⟨H,f,st,sm,B⟩:=b;obtain⟨rfl,E,F,G⟩:=B.tk i _ _ _ _ z;exact⟨u,f,st,sm,rfl,H,B,E,F,G⟩
def WV.turn{F:Bool->LP}(h:WV gs w V x u F st wt)(Q:Q2 V i=some (.lok x s (F s) lo))
  (G:Q2 V' i=some (.lok x s me' c)) (B:∀j,j≠i->Q2 V' j=Q2 V j) (T:Sh x.m x.t (Zb st') (Qp sm') w') (hw:LP.word me' (F (!s))=some (st',sm')) (hc:(F s).cls<=me'.cls) (S:c<=(F (!s)).cls)
  (hd:((ZI F s me' false).isOwn|| (ZI F s me' true).isOwn)=true->V' .lck=ZG) (P:((ZI F s me' false).isOwn|| (ZI F s me' true).isOwn)=false->x.dep (ZI F s me') (V' .lck).M)
  (hs:∀j N s me lo g,Q2 V' j=some (.lok N s me lo)->I[j]?=some g->g.status≠.running->sm'=0):WV I w' V' x u (ZI F s me') st' sm':=by
 have K:=(h.tk i _ _ _ _ Q).2.2.2
 have b:∀j N f me lo,j≠i->Q2 V j=some (.lok N f me lo)->f=!s:=by
  intro j N f me lo z e;by_cases es:f=s
  .subst es;exact absurd (h.one j i f _ _ _ _ _ _ e Q) z
  .cases s <;> cases f <;> simp_all
 refine⟨T,?_,λ j N f me L e=>?_,λ j k f ac aa l₁ ad ab l₂ e e'=>?_,λ f E=>?_,λ f E=>?_,hd,P,hs⟩
 .rw[H2 _ s,J6,KK];exact hw
 .by_cases z:j=i
  .subst z;rw[G]at e;cases e;refine⟨rfl,(J6 ..).symm,?_,K⟩;rw[KK];exact S
  .rw[B j z]at e;obtain⟨W,X,U,Y⟩:=h.tk j _ _ _ _ e;have es:=b j _ _ _ _ z e;subst es;refine⟨W,by rw[KK];exact X,?_,Y⟩;rw[Bool.not_not]at U ⊢;rw[J6];exact Nat.le_trans U hc
 .by_cases z:j=i
  .subst z;by_cases H:k=j
   .exact H.symm
   .rw[G]at e;cases e;rw[B k H]at e';have:=b k _ _ _ _ H e';cases s <;> cases this
  .rw[B j z]at e;by_cases H:k=i
   .subst H;rw[G]at e';cases e';have:=b j _ _ _ _ z e;cases s <;> cases this
   .rw[B k H]at e';exact h.one j k f _ _ _ _ _ _ e e'
 .by_cases es:f=s
  .subst es;exact .inr ⟨i,me',c,G⟩
  .rw[Xl _ _ es];rcases h.who f E with Z|⟨j,me,L,e⟩
   .exact .inl Z
   .refine .inr ⟨j,me,L,?_⟩
    have z:j≠i:=λ z=>by
     subst z;rw[Q]at e;cases e;exact es rfl
    rw[B j z];exact e
 .by_cases es:f=s
  .subst es;rw[K]at E;cases E
  .rw[Xl _ _ es];exact h.idle f E
def x_(x:QV)(f:Bool->LP)(s:Bool)(me':LP)(M:List Qw)(h:me'.rels=(f s).rels):x.dep (ZI f s me') M↔x.dep f M:=by
 have:∀b,(ZI f s me' b).rels=(f b).rels:=by
  intro b;by_cases e:b=s
  .subst e;rw[J6];exact h
  .rw[Xl _ _ e]
 simp only[QV.dep,this]
def Dj(f:Bool->LP)(s:Bool)(me':LP)(h:me'.isOwn=(f s).isOwn):((ZI f s me' false).isOwn|| (ZI f s me' true).isOwn)=((f false).isOwn|| (f true).isOwn):=by
 have:∀b,(ZI f s me' b).isOwn=(f b).isOwn:=by
  intro b;by_cases e:b=s
  .subst e;rw[J6];exact h
  .rw[Xl _ _ e]
 simp only[this]
def SK(b:Bool->LP)(s:Bool):((b false).isOwn|| (b true).isOwn)=((b s).isOwn|| (b (!s)).isOwn):=by
 cases s
 .rfl
 .exact Bool.or_comm _ _
def MI.mu(E:∀m g U,Stop m g U->g.status=.running){lo' sm:Nat}(aj:lo'<=(T (!s)).cls)
  (h:MI P t N Stop (some i) gs w tr V rk rel q) (hi:gs[i]?=some g) (I:rk i=some r) (f:i≠0) (B:(V (.run i)).tok=⟨d,.wrk b D,some (.lok x s (T s) lo)⟩)
  (h0:Q2 V 0=some (.par x u)) (G:∀j,QI x.m (V j)) (hx:WV gs w V x u T st sm)
  (a7:Qc P x.t false g (Zb st) (Qp sm)=.go g' (Zb st') (Qp sm') es bs) (az:Z6 x.m bs) (hw:LP.word me' (T (!s))=some (st',sm')) (ah:(T s).cls<=me'.cls) (an:me'.rels=(T s).rels) (Y:me'.isOwn=(T s).isOwn)
  (a0:∀e∈es,Gu x.m e) (hd:deafBehind d es=wt') (a9:sm'=sm\/sm'=0\/mayWake P g=true) (aq:Tr.Sub r' r) (hJ:JR (Za P t N) Stop r' false g' ((V (.run i)).lk wt' b D x s me' lo')) :
  JG P t N Stop gs w sl tr rk q i:=by
 have a2:=(Array.getElem?_eq_some_iff.1 hi).1;have ao:rk i≠none:=by rw[I];simp
 have Z:=hJ.running E;have K:=hx.sh;have a3:Q2 V i=some (.lok x s (T s) lo):=by unfold Q2;rw[B]
 obtain⟨ds,pend,k,al,ac,W,c,wt,bc,aa,a1,ay⟩:=h.inGrp f (b:=b) (D:=D) (by rw[B])
 have ap:stepG P (i==0) g w=.go g' (two w x.m x.t (Zb st') (Qp sm')) es:=by
  rw[show(i==0)=false by simpa using f];exact H1 a7 K az
 have ag:b≠x.m:=λ e=>aa.ne K e.symm;generalize hU:(V (.run i)).lk wt' b D x s me' lo'=U' at hJ;have S:∀j,j≠i->Q1 V (.run i) U' (.run j)=V (.run j):=λ j L=>Qh _ _ (by intro e;cases e;exact L rfl);have ai:∀j,Q1 V (.run i) U' (.dep j)=V (.dep j):=λ j=>Qh _ _ S1;have ab:Q1 V (.run i) U' .lck=V .lck:=Qh _ _ S1
 have hM:∀j,(Q1 V (.run i) U' j).canW=(V j).canW/\(Q1 V (.run i) U' j).canR=(V j).canR:=by
  intro j;by_cases e:j=.run i
  .subst e;rw[Ql,<- hU];exact⟨rfl,rfl⟩
  .rw[Qh _ _ e];exact⟨rfl,rfl⟩
 have H:∀j,(Q1 V (.run i) U' (.run j)).tok.ph=(V (.run j)).tok.ph:=by
  intro j;by_cases e:j=i
  .subst e;rw[Ql,<- hU,B];rfl
  .rw[S j e]
 have a4:x.m<w.heap.size:=(Array.getElem?_eq_some_iff.1 K).1;have au:=h.wk i f ao;have ak:Jv V=some x.m:=by unfold Jv;rw[h0];rfl
 refine⟨_,_,_,Q1 V (.run i) U',Zo rk i (some r'),rel,q,runT_crowd_go hi ap,?_,Xj Jl a2 I λ ba e=>by cases e;exact aq,.refl _,rfl⟩;refine h.go E (rel':=rel) (q':=q) (es:=es) hi S (λ j L=>Qu _ _ L) (λ _ _=>rfl) (λ _ _=>.inl rfl) (by rw[Qu _ _ (Ne.symm f)];exact h.root) (.inl f) ?_ ?_ (λ j L=>by rw[ai];exact h.deps j L) ?_ ?_ ?_ ?_ (λ e=>by rw[Qj]at e;cases e)
 .intro ba e;rw[Qj]at e;cases e;rw[Ql];refine⟨by rw[show(i==0)=false by simpa using f];exact hJ,?_,λ _=>by rw[<- hU];exact⟨b,D,rfl⟩⟩;rw[h.deaf i ao,B,<- hU];exact hd
 .intro e;rw[Qj]at e;cases e
 .refine⟨λ j=>?_,λ aw ax l hn hw I=>h.vi.sep aw ax l hn (by rw[<- (hM aw).1];exact hw) (by rw[<- (hM ax).2];exact I)⟩;have hv:=(h.vi.two (st':=Zb st') (sm':=Qp sm') K G).ok;by_cases e:j=.run i
  .subst e;rw[Ql,<- hU];exact⟨(hv (.run i)).imm,(hv (.run i)).held,(hv (.run i)).apart,(hv (.run i)).sep⟩
  .rw[Qh _ _ e];exact hv j
 .obtain⟨rm,hti⟩:=h.ti;rw[ak]at hti;have:=yp (i:=i) (fn:=g.frame.fn) (pos:=g.frame.place) hti a4 G (.inr (by rw[B];simp)) a0 (by rw[al];intro e;exact ag (Option.some.inj e)) au;refine⟨rm,?_⟩;have e0:Jv (Q1 V (.run i) U')=some x.m:=by unfold Jv Q2;rw[S 0 (Ne.symm f)];exact ak
  rw[e0];simp only[H];have a8:(two w x.m x.t (Zb st') (Qp sm')).heap.size=w.heap.size:=by simp[two]
  rw[a8];exact this.turn (λ k l hl=>by rw[<- (hM k).1];exact hl) (λ k l hl=>by rw[<- (hM k).2];exact hl) (λ _ x=>x)
 .unfold QG;rw[H 0,al];have hk:Z1 (Q1 V (.run i) U')=Z1 V:=by funext j;simp only[Z1,H]
  refine⟨λ j a ha ho I=>ac j a ha ho (by rw[<- (hM j).2];exact I),W,c,wt,bc,aa.two_other ag,?_,QG.woken hi (λ e=>absurd e f) ay⟩;rw[hk];simpa only[ai]using a1
 .have hmi:Q2 (Q1 V (.run i) U') i=some (.lok x s me' lo'):=by unfold Q2;rw[Ql,<- hU];rfl
  have Q:∀j,j≠i->Q2 (Q1 V (.run i) U') j=Q2 V j:=λ j L=>by unfold Q2;rw[S j L]
  obtain⟨g1,g2,-⟩:=h.mux;refine⟨λ j x u L e=>?_,by rw[ab];exact g2,?_⟩
  .by_cases X:j=i
   .subst X;rw[hmi]at e;cases e
   .rw[Q j X]at e;exact g1 j x u L e
  rw[Q 0 (Ne.symm f),h0];refine⟨λ j a ha ho I=>G j a ha ho (by rw[<- (hM j).2];exact I),ZI T s me',st',sm',hx.turn a3 hmi Q K.two hw ah aj ?_ ?_ ?_⟩
  .rw[Dj _ _ _ Y,ab];exact hx.dep
  .rw[Dj _ _ _ Y,ab,x_ _ _ _ _ _ an];exact hx.dep'
  .intro j x' s' me lo1 y e hy hns
   have X:j≠i:=λ X=>by
    subst X;rw[Wi hi]at hy;cases hy;exact hns Z
   rw[Q j X]at e;rw[J3 X]at hy;obtain⟨z,hz,rfl⟩:=Option.map_eq_some_iff.1 hy;have av:z.status≠.running:=λ I=>hns (by rw[Wc I];exact I);rcases a9 with rfl|rfl|a5
   .exact hx.slp j _ _ _ _ z e hz av
   .rfl
   .exfalso;have a6:rk j≠none:=λ hn=>by rw[h.bareM j hn]at e;cases e
    obtain⟨bb,am⟩:=Option.ne_none_iff_exists'.1 a6;obtain⟨ad,ae,hg⟩:=h.live j bb (λ e'=>X (Option.some.inj e').symm) am;have F:=ae.running E;rcases hg with hg|⟨hg,ho,_⟩
    .rw[hz]at hg;cases hg;exact av F
    .rw[hz]at hg;cases hg;refine hns ?_
     have:woken P g g' (two w x.m x.t (Zb st') (Qp sm')) { ad with status:=.blocked }=ad:=by
      unfold woken;rw[if_pos,again_blocked F ho];rw[Z,a5];rfl
     rw[this];exact F
def MI.mblk(h:MI P t N Stop (some i) gs w tr V rk rel q) (T:gs[i]?=some g) (E:g.status=.running) (W:g.offers=none) (X:rk i=some r) (z:i≠0) (G:(V (.run i)).tok=⟨d,.wrk b D,some (.lok x s .wai lo)⟩)
  (Q:Q2 V 0=some (.par x u)) (B:∀j,QI x.m (V j)) (f:WV gs w V x u L st 0)
  (K:Qc P x.t false g (Zb st) (Qp 0)=.blocked { g with status:=.blocked } (Zb st) (Qp 0) bs) (I:Z6 x.m bs) (S:JR (Za P t N) Stop r false g (V (.run i))):JG P t N Stop gs w sl tr rk q i:=by
 have F:stepG P (i==0) g w=.go { g with status:=.blocked } w #[]:=by
  rw[show(i==0)=false by simpa using z];have:=DK K f.sh I
  rwa [f.sh.two_same]at this
 have H:∀j,j≠i->(gs.setIfInBounds i { g with status:=.blocked })[j]?=gs[j]?:=λ j U=>Array.getElem?_setIfInBounds_ne (Ne.symm U);refine h.sleep T E W X (.inr ⟨d,b,D,x,s,lo,G⟩) F (by rw[show(i==0)=false by simpa using z];exact S) ?_ ?_
 .have hG:=h.grp;unfold QG at hG ⊢;rw[H 0 (Ne.symm z)];exact hG
 .obtain⟨g1,g2,-⟩:=h.mux;refine⟨g1,g2,?_⟩;rw[Q];exact⟨B,L,st,0,f.sh,f.word,f.tk,f.one,f.who,f.idle,f.dep,f.dep',λ _ _ _ _ _ _ _ _ _=>rfl⟩
def MI.macq(G:∀m g U,Stop m g U->g.status=.running){i:Nat}{g g':Gr}{r r':Tr}{b:Nat}{D:Spec}{x:QV}{s:Bool}{lo st sm:Nat}{bs:List (Nat×Bool)}{u:Bool->Bool}{L:Bool->LP}
  (h:MI P t N Stop (some i) gs w tr V rk rel q) (hi:gs[i]?=some g) (Z:rk i=some r) (B:i≠0) (F:(V (.run i)).tok=⟨0,.wrk b D,some (.lok x s (L s) lo)⟩) (ab:L s=.got) (ao:lo<=(L (!s)).cls)
  (h0:Q2 V 0=some (.par x u)) (ac:∀j,QI x.m (V j)) (hx:WV gs w V x u L st sm)
  (ay:∀st sm,Qc P x.t false g st sm=.go g' st sm #[Z0 (.acquire ⟨x.m,0,none⟩)] bs) (am:Z6 x.m bs) (ai:Tr.Sub r' r)
  (hJ:JR (Za P t N) Stop r' false g' { (V (.run i))with M:=(V (.run i)).M++(V .lck).M,tok:=⟨0,.wrk b D,some (.lok x s (.own (L (!s)).rels) lo)⟩ }):JG P t N Stop gs w sl tr rk q i:=by
 have ap:=(Array.getElem?_eq_some_iff.1 hi).1;have ad:rk i≠none:=by rw[Z];simp
 have ae:=hJ.running G;have T:=hx.sh;have au:Q2 V i=some (.lok x s (L s) lo):=by unfold Q2;rw[F]
 obtain⟨ds,pend,k,aw,Y,W,c,wt,a2,ag,an,al⟩:=h.inGrp B (b:=b) (D:=D) (by rw[F])
 have ah:stepG P (i==0) g w=.go g' w #[Z0 (.acquire ⟨x.m,0,none⟩)]:=by
  rw[show(i==0)=false by simpa using B];have:=H1 (ay (Zb st) (Qp sm)) T am
  rwa [T.two_same]at this
 have aa:Deaf tr i=0:=by rw[h.deaf i ad,F]
 have hw:=hx.word;rw[H2 _ s,ab]at hw;obtain⟨a0,a4⟩:=LP.word_own hw
 let V0:Hd->Qa Tk:=Q1 (Q1 V (.run i) ((V (.run i)).with (V .lck).M)) .lck (Qa.bare ⟨0,.out,none⟩)
 have K:VI V0 w:=h.vi.join (k:=.run i) (k':=.lck) S1 _
 let f:Hd->Qa Tk:=Q1 V0 (.run i) { (V (.run i))with M:=(V (.run i)).M++(V .lck).M,tok:=⟨0,.wrk b D,some (.lok x s (.own (L (!s)).rels) lo)⟩ }
 have v1:f (.run i)={ (V (.run i))with M:=(V (.run i)).M++(V .lck).M,tok:=⟨0,.wrk b D,some (.lok x s (.own (L (!s)).rels) lo)⟩ }:=Ql ..;have z1:V0 (.run i)=(V (.run i)).with (V .lck).M:=by show Q1 _ _ _ _=_;rw[Qh _ _ S1,Ql]
 have v2:∀j,j≠i->f (.run j)=V (.run j):=λ j Q=>by show Q1 _ _ _ _=_;rw[Qh _ _ (by intro e;cases e;exact Q rfl)];show Q1 _ _ _ _=_;rw[Qh _ _ S1,Qh _ _ (by intro e;cases e;exact Q rfl)]
 have vd:∀j,f (.dep j)=V (.dep j):=λ j=>by show Q1 _ _ _ _=_;rw[Qh _ _ S1];show Q1 _ _ _ _=_;rw[Qh _ _ S1,Qh _ _ S1]
 have vm:f .lck=ZG:=by show Q1 _ _ _ _=_;rw[Qh _ _ S1];exact Ql ..
 have hs:∀k,(f k).canW=(V0 k).canW/\(f k).canR=(V0 k).canR:=by
  intro k;by_cases e:k=.run i
  .subst e;rw[v1,z1];exact⟨rfl,rfl⟩
  .rw[show f k=_ from Qh _ _ e];exact⟨rfl,rfl⟩
 have az:VI f w:=by
  refine⟨λ k=>?_,λ aj ak l hn hw Z=>K.sep aj ak l hn (by rw[<- (hs aj).1];exact hw) (by rw[<- (hs ak).2];exact Z)⟩;by_cases e:k=.run i
  .subst e;rw[v1];have:=K.ok (.run i);rw[z1]at this;exact⟨this.imm,this.held,this.apart,this.sep⟩
  .rw[show f k=_ from Qh _ _ e];exact K.ok k
 have hW:∀k l,(f k).canW l->k≠.lck/\((V k).canW l\/(k=.run i/\(V .lck).canW l)):=by
  intro k l E;cases k with
  |run j=>
   refine⟨S1,?_⟩;by_cases e:j=i
   .subst e;rw[(hs _).1,z1]at E;exact(Ox (τ:=V .lck) E).imp id λ h=>⟨rfl,h⟩
   .rw[v2 j e]at E;exact .inl E
  |dep j=>rw[vd]at E;exact⟨S1,.inl E⟩
  |lck=>rw[vm]at E;exact absurd E (Wh _ _)
 have hR:∀k l,(f k).canR l->k≠.lck/\((V k).canR l\/(k=.run i/\(V .lck).canR l)):=by
  intro k l E;cases k with
  |run j=>
   refine⟨S1,?_⟩;by_cases e:j=i
   .subst e;rw[(hs _).2,z1]at E;exact(Ow (τ:=V .lck) E).imp id λ h=>⟨rfl,h⟩
   .rw[v2 j e]at E;exact .inl E
  |dep j=>rw[vd]at E;exact⟨S1,.inl E⟩
  |lck=>rw[vm]at E;exact absurd E (Wg _ _)
 have H:∀m,(∀j,QI m (V j))->∀j,QI m (f j):=λ m hm j a ha ho ax=>by
  rcases(hR _ _ ax).2 with h1|⟨_,h1⟩
  .exact hm _ a ha ho h1
  .exact hm _ a ha ho h1
 have I:∀j,(f (.run j)).tok.ph=(V (.run j)).tok.ph:=by
  intro j;by_cases e:j=i
  .subst e;rw[v1,F]
  .rw[v2 j e]
 have av:x.m<w.heap.size:=(Array.getElem?_eq_some_iff.1 T).1;have a3:=h.wk i B ad;have aq:Jv V=some x.m:=by unfold Jv;rw[h0];rfl
 have e0:MemOp.ofEvents i g.frame.fn g.frame.place #[Z0 (.acquire ⟨x.m,0,none⟩)]=#[{ g:=i,fn:=g.frame.fn,pos:=g.frame.place,act:=.mark (.acquire ⟨x.m,0,none⟩) }]:=by
  rw[ofEvents_eq];simp[Z0,MemAct.ofEvent]
 refine⟨_,_,_,f,Zo rk i (some r'),rel,q,runT_crowd_go hi ah,?_,Xj Jl ap Z λ a1 e=>by cases e;exact ai,.refl _,rfl⟩;refine h.go G (V':=f) (rel':=rel) (q':=q) (es:=#[Z0 (.acquire ⟨x.m,0,none⟩)]) hi v2 (λ j Q=>Qu _ _ Q) (λ _ _=>rfl) (λ _ _=>.inl rfl) (by rw[Qu _ _ (Ne.symm B)];exact h.root) (.inl B) ?_ ?_ (λ j Q=>by rw[vd];exact h.deps j Q) az ?_ ?_ ?_ (λ e=>by rw[Qj]at e;cases e)
 .intro a1 e;rw[Qj]at e;cases e;rw[v1];refine⟨by rw[show(i==0)=false by simpa using B];exact hJ,?_,λ _=>⟨b,D,rfl⟩⟩;rw[aa];rfl
 .intro e;rw[Qj]at e;cases e
 .obtain⟨rm,hti⟩:=h.ti;refine⟨rm,?_⟩;have e1:Jv f=Jv V:=by unfold Jv Q2;rw[v2 0 (Ne.symm B)]
  rw[e1,e0];simp only[I];exact hti.macq (y:={ g:=i,fn:=g.frame.fn,pos:=g.frame.place,act:=.mark (.acquire ⟨x.m,0,none⟩) }) aq rfl av aa (.inr (by rw[F];simp)) hW hR
 .unfold QG;rw[I 0,aw];have hk:Z1 f=Z1 V:=by funext j;simp only[Z1,I]
  refine⟨H _ Y,W,c,wt,a2,ag,?_,QG.woken hi (λ e=>absurd e B) al⟩;rw[hk];simpa only[vd]using an
 .have hmi:Q2 f i=some (.lok x s (.own (L (!s)).rels) lo):=by unfold Q2;rw[v1]
  have S:∀j,j≠i->Q2 f j=Q2 V j:=λ j Q=>by unfold Q2;rw[v2 j Q]
  obtain⟨g1,g2,-⟩:=h.mux;refine⟨λ j x u Q e=>?_,by rw[vm];rfl,?_⟩
  .by_cases X:j=i
   .subst X;rw[hmi]at e;cases e
   .rw[S j X]at e;exact g1 j x u Q e
  rw[S 0 (Ne.symm B),h0];refine⟨H _ ac,ZI L s (.own (L (!s)).rels),st,sm,hx.turn au hmi S T a0 (by rw[ab];exact Nat.le_refl _) ao (λ _=>vm) (λ e=>?_) ?_⟩
  .exfalso;rw[SK _ s,J6]at e;simp[LP.isOwn]at e
  .intro j x' s' me lo1 y e hy hns
   have X:j≠i:=λ X=>by
    subst X;rw[Wi hi]at hy;cases hy;exact hns ae
   rw[S j X]at e;rw[J3 X]at hy;obtain⟨z,hz,rfl⟩:=Option.map_eq_some_iff.1 hy;exact hx.slp j _ _ _ _ z e hz λ Z=>hns (by rw[Wc Z];exact Z)
def MI.mrel(G:∀m g U,Stop m g U->g.status=.running){i:Nat}{g g':Gr}{r r':Tr}{b:Nat}{D:Spec}{x:QV}{s v:Bool}{lo st sm:Nat}{bs:List (Nat×Bool)}{u:Bool->Bool}{Y:Bool->LP}{M₁ M₂:List Qw}
  (h:MI P t N Stop (some i) gs w tr V rk rel q) (hi:gs[i]?=some g) (hr:rk i=some r) (f:i≠0) (F:(V (.run i)).tok=⟨0,.wrk b D,some (.lok x s (Y s) lo)⟩) (ab:Y s=.own v) (ao:lo<=(Y (!s)).cls)
  (h0:Q2 V 0=some (.par x u)) (ac:∀j,QI x.m (V j)) (hx:WV gs w V x u Y st sm) (hM:(V (.run i)).M=M₁++M₂) (hD:x.sp (if s then v else true) (if s then true else v) M₁)
  (az:∀st sm,Qc P x.t false g st sm=.go g' st sm #[Z0 (.releaseMerge ⟨x.m,0,none⟩)] bs) (am:Z6 x.m bs) (ai:Tr.Sub r' r)
  (hJ:JR (Za P t N) Stop r' false g' { (V (.run i))with M:=M₂,tok:=⟨0,.wrk b D,some (.lok x s .rls lo)⟩ }):JG P t N Stop gs w sl tr rk q i:=by
 have ap:=(Array.getElem?_eq_some_iff.1 hi).1;have ad:rk i≠none:=by rw[hr];simp
 have ae:=hJ.running G;have S:=hx.sh;have au:Q2 V i=some (.lok x s (Y s) lo):=by unfold Q2;rw[F]
 obtain⟨ds,pend,k,aw,X,W,c,wt,a3,ag,an,al⟩:=h.inGrp f (b:=b) (D:=D) (by rw[F])
 have ah:stepG P (i==0) g w=.go g' w #[Z0 (.releaseMerge ⟨x.m,0,none⟩)]:=by
  rw[show(i==0)=false by simpa using f];have:=H1 (az (Zb st) (Qp sm)) S am
  rwa [S.two_same]at this
 have aa:Deaf tr i=0:=by rw[h.deaf i ad,F]
 have hw:=hx.word;rw[H2 _ s,ab]at hw;obtain⟨a1,aj,ax⟩:=LP.word_rls hw;have hf:=F5 (tp:=(⟨0,.wrk b D,some (.lok x s .rls lo)⟩:Tk)) (tc:=(⟨0,.out,none⟩:Tk)) (h.vi.ok (.run i)) (M₁:=M₁) (M₂:=M₂) (by rw[hM])
 let E:Hd->Qa Tk:=Q1 (Q1 V (.run i) ⟨(V (.run i)).I,M₂,⟨0,.wrk b D,some (.lok x s .rls lo)⟩⟩) .lck ⟨λ _=>none,M₁,⟨0,.out,none⟩⟩
 have a0:VI E w:=h.vi.fork hf S1;have v1:E (.run i)=⟨(V (.run i)).I,M₂,⟨0,.wrk b D,some (.lok x s .rls lo)⟩⟩:=by show Q1 _ _ _ _=_;rw[Qh _ _ S1,Ql]
 have Z:∀j,j≠i->E (.run j)=V (.run j):=λ j L=>by show Q1 _ _ _ _=_;rw[Qh _ _ S1,Qh _ _ (by intro e;cases e;exact L rfl)]
 have vd:∀j,E (.dep j)=V (.dep j):=λ j=>by show Q1 _ _ _ _=_;rw[Qh _ _ S1,Qh _ _ S1]
 have vm:E .lck=⟨λ _=>none,M₁,⟨0,.out,none⟩⟩:=Ql ..
 have hW:∀k l,(E k).canW l->((V k).canW l/\k≠.lck)\/(k=.lck/\(V (.run i)).canW l):=by
  intro k l B;cases k with
  |run j=>
   by_cases e:j=i
   .subst e;rw[v1]at B;exact .inl ⟨hf.wp l B,S1⟩
   .rw[Z j e]at B;exact .inl ⟨B,S1⟩
  |dep j=>rw[vd]at B;exact .inl ⟨B,S1⟩
  |lck=>rw[vm]at B;exact .inr ⟨rfl,hf.wc l B⟩
 have hR:∀k l,(E k).canR l->((V k).canR l/\k≠.lck)\/(k=.lck/\(V (.run i)).canR l):=by
  intro k l B;cases k with
  |run j=>
   by_cases e:j=i
   .subst e;rw[v1]at B;exact .inl ⟨hf.rp l B,S1⟩
   .rw[Z j e]at B;exact .inl ⟨B,S1⟩
  |dep j=>rw[vd]at B;exact .inl ⟨B,S1⟩
  |lck=>rw[vm]at B;exact .inr ⟨rfl,hf.rc l B⟩
 have H:∀m,(∀j,QI m (V j))->∀j,QI m (E j):=λ m hm j a ha ho ay=>by
  rcases hR _ _ ay with⟨h1,_⟩|⟨_,h1⟩
  .exact hm _ a ha ho h1
  .exact hm _ a ha ho h1
 have K:∀j,(E (.run j)).tok.ph=(V (.run j)).tok.ph:=by
  intro j;by_cases e:j=i
  .subst e;rw[v1,F]
  .rw[Z j e]
 have av:x.m<w.heap.size:=(Array.getElem?_eq_some_iff.1 S).1;have ak:=h.wk i f ad;have aq:Jv V=some x.m:=by unfold Jv;rw[h0];rfl
 have e0:MemOp.ofEvents i g.frame.fn g.frame.place #[Z0 (.releaseMerge ⟨x.m,0,none⟩)]=#[{ g:=i,fn:=g.frame.fn,pos:=g.frame.place,act:=.mark (.releaseMerge ⟨x.m,0,none⟩) }]:=by
  rw[ofEvents_eq];simp[Z0,MemAct.ofEvent]
 refine⟨_,_,_,E,Zo rk i (some r'),rel,q,runT_crowd_go hi ah,?_,Xj Jl ap hr λ a2 e=>by cases e;exact ai,.refl _,rfl⟩;refine h.go G (V':=E) (rel':=rel) (q':=q) (es:=#[Z0 (.releaseMerge ⟨x.m,0,none⟩)]) hi Z (λ j L=>Qu _ _ L) (λ _ _=>rfl) (λ _ _=>.inl rfl) (by rw[Qu _ _ (Ne.symm f)];exact h.root) (.inl f) ?_ ?_ (λ j L=>by rw[vd];exact h.deps j L) a0 ?_ ?_ ?_ (λ e=>by rw[Qj]at e;cases e)
 .intro a2 e;rw[Qj]at e;cases e;rw[v1];refine⟨by rw[show(i==0)=false by simpa using f];exact hJ,?_,λ _=>⟨b,D,rfl⟩⟩;rw[aa];rfl
 .intro e;rw[Qj]at e;cases e
 .obtain⟨rm,hti⟩:=h.ti;refine⟨some tr.size,?_⟩;have e1:Jv E=Jv V:=by unfold Jv Q2;rw[Z 0 (Ne.symm f)]
  rw[e1,e0];simp only[K];exact hti.mrel (y:={ g:=i,fn:=g.frame.fn,pos:=g.frame.place,act:=.mark (.releaseMerge ⟨x.m,0,none⟩) }) aq rfl av aa ak hW hR
 .unfold QG;rw[K 0,aw];have hk:Z1 E=Z1 V:=by funext j;simp only[Z1,K]
  refine⟨H _ X,W,c,wt,a3,ag,?_,QG.woken hi (λ e=>absurd e f) al⟩;rw[hk];simpa only[vd]using an
 .have hmi:Q2 E i=some (.lok x s .rls lo):=by unfold Q2;rw[v1]
  have Q:∀j,j≠i->Q2 E j=Q2 V j:=λ j L=>by unfold Q2;rw[Z j L]
  obtain⟨g1,g2,-⟩:=h.mux;refine⟨λ j x u L e=>?_,by rw[vm],?_⟩
  .by_cases T:j=i
   .subst T;rw[hmi]at e;cases e
   .rw[Q j T]at e;exact g1 j x u L e
  rw[Q 0 (Ne.symm f),h0];refine⟨H _ ac,ZI Y s .rls,st,sm,hx.turn au hmi Q S a1 (by rw[ab];exact Nat.le_refl _) ao (λ e=>?_) (λ _=>?_) ?_⟩
  .exfalso;rw[SK _ s,J6,KK,ax]at e;simp[LP.isOwn]at e
  .rw[vm];unfold QV.dep;cases s
   .rw[J6,Xl _ _ S1];rw[aj]at hD;exact hD
   .rw[J6,Xl _ _ S1];rw[aj]at hD;exact hD
  .intro j x' s' me lo1 y e hy hns
   have T:j≠i:=λ T=>by
    subst T;rw[Wi hi]at hy;cases hy;exact hns ae
   rw[Q j T]at e;rw[J3 T]at hy;obtain⟨z,hz,rfl⟩:=Option.map_eq_some_iff.1 hy;exact hx.slp j _ _ _ _ z e hz λ hr=>hns (by rw[Wc hr];exact hr)
def MI.make(h:MI P t N Stop (some 0) gs w tr V rk rel q)(hi:gs[0]?=some g)(F:(V (.run 0)).tok=⟨0,.out,none⟩)
  (hM:(V (.run 0)).M=M₁++.obj b (.cells #[Q0 0 0,Qp 0] t (0,0))::M₂) (hJ:JR (Za P t N) Stop r' true g { (V (.run 0))with M:=M₁++M₂,tok:=⟨0,.par b [] false .run,none⟩ }) :
  MI P t N Stop none gs w tr (Q1 V (.run 0) { (V (.run 0))with M:=M₁++M₂,tok:=⟨0,.par b [] false .run,none⟩ }) (Zo rk 0 (some r')) rel q:=by
 have hG:=h.grp;unfold QG at hG;rw[F]at hG;obtain⟨ae,U⟩:=hG;have H:=h.vi.ok (.run 0)
 let E:Qa Tk:={ (V (.run 0))with M:=M₁++M₂,tok:=⟨0,.par b [] false .run,none⟩ }
 have T:Q1 V (.run 0) E (.run 0)=E:=Ql ..;have W:∀j,j≠0->Q1 V (.run 0) E (.run j)=V (.run j):=λ j f=>Qh _ _ (λ e=>f (Hd.run.inj e));have vd:∀j,Q1 V (.run 0) E (.dep j)=V (.dep j):=λ j=>Qh _ _ S1
 have G:∀x,x∈M₁++M₂->x∈(V (.run 0)).M:=by
  intro x z;rw[hM];rcases mem_append.1 z with z|z
  .exact mem_append_left _ z
  .exact mem_append_right _ (mem_cons_of_mem _ z)
 have Q:Qw.obj b (.cells #[Q0 0 0,Qp 0] t (0,0))∈(V (.run 0)).M:=by rw[hM];simp
 have ai:Sh b t (Q0 0 0) (Qp 0) w:=H.held _ Q
 have aj:∀l,E.canW l->(V (.run 0)).canW l:=λ l B=>by
  obtain⟨x,z,B⟩:=Q4.1 B;exact Q4.2 ⟨x,G x z,B⟩
 have ah:∀l,E.canR l->(V (.run 0)).canR l:=λ l B=>by
  rcases Qx.1 B with⟨x,z,B⟩|B
  .exact Qx.2 (.inl ⟨x,G x z,B⟩)
  .exact Qx.2 (.inr B)
 have Z:=H.apart;rw[hM]at Z;obtain⟨p1,p2,p3⟩:=pairwise_append.1 Z;obtain⟨p4,p5⟩:=pairwise_cons.1 p2
 have aa:∀x∈M₁++M₂,x.blk≠b:=by
  intro x z e;rcases mem_append.1 z with z|z
  .have:=p3 x z (.obj b (.cells #[Q0 0 0,Qp 0] t (0,0))) S1;cases x <;> simp only[Qw.apart,Qw.blk]at this e <;> exact this e
  .have:=p4 x z;cases x <;> simp only[Qw.apart,Qw.blk]at this e <;> exact this e.symm
 have ad:E.ok w:=⟨H.imm,λ x z=>H.held x (G x z),pairwise_append.2 ⟨p1,p5,λ x z y hy=>p3 x z y (mem_cons_of_mem _ hy)⟩,λ x z=>H.sep x (G x z)⟩;have ab:∀a:Addr,a.block=b->a.off<2->(V (.run 0)).canW (.cell a):=λ a X ho=>Q4.2 ⟨_,Q,X,ho⟩
 have hW:∀k l,(Q1 V (.run 0) E k).canW l->(V k).canW l:=by
  intro k l B;by_cases e:k=.run 0
  .subst e;rw[T]at B;exact aj l B
  .rwa [Qh _ _ e]at B
 have hR:∀k l,(Q1 V (.run 0) E k).canR l->(V k).canR l:=by
  intro k l B;by_cases e:k=.run 0
  .subst e;rw[T]at B;exact ah l B
  .rwa [Qh _ _ e]at B
 have ac:∀k,QI b (Q1 V (.run 0) E k):=by
  intro k a X ho K;by_cases e:k=.run 0
  .subst e;rw[T]at K;rcases Qx.1 K with⟨x,z,B⟩|⟨c,ty,fr,hI,_⟩
   .have:=aa x z;cases x with
    |obj b' o=>
     cases o <;> simp only[Qw.lets]at B;exact this (by rw[Qw.blk,<- B.1,X])
    |cell b' i' v ty n=>simp only[Qw.lets]at B;exact this (by rw[Qw.blk,<- B.1,X])
   .have:=H.sep _ Q;rw[Qw.blk,<- X]at this;have Y:(V (.run 0)).I a.block=some (.cells c ty fr):=hI;rw[this]at Y;cases Y
  .rw[Qh _ _ e]at K;exact h.vi.sep (.run 0) k _ (Ne.symm e) (ab a X ho) K
 have hT:∀j,j≠0->(Q1 V (.run 0) E (.run j)).tok.ph=.out:=λ j f=>by rw[W j f];exact ae j f
 have L:∀j,j≠0->Zo rk 0 (some r') j=rk j:=λ j f=>Qu _ _ f;have ag:Q2 V 0=none:=by unfold Q2;rw[F]
 obtain⟨g1,g2,g3⟩:=h.mux;rw[ag]at g3;obtain⟨g3,g4⟩:=g3;have vm:Q1 V (.run 0) E .lck=ZG:=by rw[Qh _ _ S1];exact g4
 have S:∀j,Q2 (Q1 V (.run 0) E) j=none:=by
  intro j;by_cases e:j=0
  .subst e;unfold Q2;rw[T]
  .unfold Q2;rw[W j e];exact g3 j
 refine⟨?_,by rw[Qj];simp,?_,?_,?_,?_,?_,?_,?_,λ j f=>by rw[vd];exact h.deps j f,?_,?_,?_,⟨λ j x u _ e=>(by rw[S]at e;cases e),by rw[vm];rfl,by rw[S];exact⟨S,vm⟩⟩,λ j _=>S j⟩
 .intro j r'' _ hr'';by_cases e:j=0
  .subst e;rw[Qj]at hr'';cases hr'';exact⟨g,by rw[T];exact hJ,.inl hi⟩
  .rw[L j e]at hr'';obtain⟨x,k1,k2⟩:=h.live j r'' (λ e'=>e (Option.some.inj e').symm) hr'';exact⟨x,by rw[W j e];exact k1,by rw[W j e];exact k2⟩
 .intro j x f z _;have e:j≠0:=λ e=>by subst e;rw[Qj]at f;cases f
  rw[L j e]at f;exact h.gone j x f z (ae j e)
 .intro j f hp;have e:j≠0:=λ e=>by subst e;rw[Qj]at f;cases f
  exact absurd (hT j e) hp
 .intro j f;have e:j≠0:=by have:=(Array.getElem?_eq_some_iff.1 hi).1;omega
  rw[L j e];exact h.above j f
 .intro j f;have e:j≠0:=λ e=>by subst e;rw[Qj]at f;cases f
  rw[L j e]at f;rw[W j e];exact h.bare j f
 .intro j h0 f;rw[L j h0]at f;rw[W j h0];exact h.wk j h0 f
 .intro j f;by_cases e:j=0
  .subst e;rw[Qj];simp
  .rw[hT j e]at f;obtain⟨_,_,e'⟩:=f;cases e'
 .intro j f;by_cases e:j=0
  .subst e;rw[T];rw[h.deaf 0 h.root,F]
  .rw[L j e]at f;rw[W j e];exact h.deaf j f
 .refine⟨λ k=>?_,λ ak al l hn hw K=>h.vi.sep ak al l hn (hW _ _ hw) (hR _ _ K)⟩;by_cases e:k=.run 0
  .subst e;rw[T];exact ad
  .rw[Qh _ _ e];exact h.vi.ok k
 .obtain⟨rm,hti⟩:=h.ti;rw[F]at hti;refine⟨none,?_⟩;have e0:Jv (Q1 V (.run 0) E)=none:=by unfold Jv;rw[S];rfl
  rw[T,e0];have:=hti.create (b:=b) (W':=λ k=>(Q1 V (.run 0) E k).canW) (R':=λ k=>(Q1 V (.run 0) E k).canR) (λ l=>by rw[vm];exact Wh _ _) (λ l=>by rw[vm];exact Wg _ _) U ab hW hR
  have e3:(λ j=>ZK (Q1 V (.run 0) E (.run j)).tok.ph)=λ j=>ZK (V (.run j)).tok.ph:=by
   funext j;by_cases e:j=0
   .subst e;rw[T,F];refine propext ⟨?_,?_⟩ <;> (rintro⟨_,_,e⟩;cases e)
   .rw[W j e]
  rw[e3];refine this.turn (λ _ _ h=>h) (λ _ _ h=>h) ?_;rintro j (rfl|f)
  .rfl
  .apply Classical.byContradiction;intro e;exact f (hT j e)
 .unfold QG;rw[T];refine⟨ac,[],0,0,0,ai,?_,λ _ _ _=>rfl⟩;refine GI.start (λ i=>?_) U;by_cases e:i=0
  .simp[Z1,e]
  .simp only[Z1,if_neg e];exact hT i e
def MI.makeM(h:MI P t N Stop (some 0) gs w tr V rk rel q)(hi:gs[0]?=some g)(K:(V (.run 0)).tok=⟨0,.par b [] false .run,none⟩)
  (hM:(V (.run 0)).M=.obj x.m (.cells #[Zb 0,Qp 0] x.t (0,0))::(M₁++M₂)) (hD:x.sp false false M₁) (hJ:JR (Za P t N) Stop r' true g { (V (.run 0))with M:=M₂,tok:=⟨0,.par b [] false .run,some (.par x λ _=>false)⟩ }) :
  MI P t N Stop none gs w tr (Q1 (Q1 V (.run 0) { (V (.run 0))with M:=M₂,tok:=⟨0,.par b [] false .run,some (.par x λ _=>false)⟩ }) .lck ⟨λ _=>none,M₁,⟨0,.out,none⟩⟩) (Zo rk 0 (some r')) rel q:=by
 have hG:=h.grp;unfold QG at hG;rw[K]at hG;obtain⟨T,W,c,wt,s,ap,ac,au⟩:=hG;have aq:W=[]:=eq_nil_of_length_eq_zero ac.len
 have ah:∀j,j≠0->(V (.run j)).tok.ph=.out:=by
  intro j f;apply Classical.byContradiction;intro hn;have:=ac.inW j (.inl (by simpa[Z1,f]using hn));rw[aq]at this;cases this
 have Q:=h.vi.ok (.run 0);have an:Q2 V 0=none:=by unfold Q2;rw[K]
 obtain⟨g1,g2,g3⟩:=h.mux;rw[an]at g3;obtain⟨g3,g4⟩:=g3
 let U2:Qa Tk:={ (V (.run 0))with M:=M₂,tok:=⟨0,.par b [] false .run,some (.par x λ _=>false)⟩ }
 let z:=Q1 (Q1 V (.run 0) U2) .lck ⟨λ _=>none,M₁,⟨0,.out,none⟩⟩
 have v0:z (.run 0)=U2:=by show Q1 _ _ _ _=_;rw[Qh _ _ S1,Ql]
 have v2:∀j,j≠0->z (.run j)=V (.run j):=λ j f=>by show Q1 _ _ _ _=_;rw[Qh _ _ S1,Qh _ _ (λ e=>f (Hd.run.inj e))]
 have vd:∀j,z (.dep j)=V (.dep j):=λ j=>by show Q1 _ _ _ _=_;rw[Qh _ _ S1,Qh _ _ S1]
 have vm:z .lck=⟨λ _=>none,M₁,⟨0,.out,none⟩⟩:=Ql ..;have S:Qw.obj x.m (.cells #[Zb 0,Qp 0] x.t (0,0))∈(V (.run 0)).M:=by rw[hM];simp
 have av:Sh x.m x.t (Zb 0) (Qp 0) w:=Q.held _ S;have al:=Q.apart;rw[hM]at al;obtain⟨p4,p5⟩:=pairwise_cons.1 al;have F:∀y,y∈M₁++M₂->y∈(V (.run 0)).M:=λ y G=>by rw[hM];exact mem_cons_of_mem _ G
 have ao:Qa.ok ({ (V (.run 0))with M:=M₁++M₂ }:Qa Tk) w:=⟨Q.imm,λ y G=>Q.held y (F y G),p5,λ y G=>Q.sep y (F y G)⟩;have hf:=F5 (U:=({ (V (.run 0))with M:=M₁++M₂ }:Qa Tk)) (tp:=(⟨0,.par b [] false .run,some (.par x λ _=>false)⟩:Tk)) (tc:=(⟨0,.out,none⟩:Tk)) ao (M₁:=M₁) (M₂:=M₂) (Perm.refl _)
 have aj:∀l,Qa.canW ({ (V (.run 0))with M:=M₁++M₂ }:Qa Tk) l->(V (.run 0)).canW l:=λ l B=>by
  obtain⟨y,G,B⟩:=Q4.1 B;exact Q4.2 ⟨y,F y G,B⟩
 have ai:∀l,Qa.canR ({ (V (.run 0))with M:=M₁++M₂ }:Qa Tk) l->(V (.run 0)).canR l:=λ l B=>by
  rcases Qx.1 B with⟨y,G,B⟩|B
  .exact Qx.2 (.inl ⟨y,F y G,B⟩)
  .exact Qx.2 (.inr B)
 have am:∀y∈M₁++M₂,y.blk≠x.m:=by
  intro y G e;have:=p4 y G;cases y <;> simp only[Qw.apart,Qw.blk]at this e <;> exact this e.symm
 have X:QI x.m ({ (V (.run 0))with M:=M₁++M₂ }:Qa Tk):=by
  intro a L Y E;rcases Qx.1 E with⟨y,G,B⟩|⟨c,ty,fr,hI,_⟩
  .have:=am y G;cases y with
   |obj b' o=>
    cases o <;> simp only[Qw.lets]at B;exact this (by rw[Qw.blk,<- B.1,L])
   |cell b' i' v ty n=>simp only[Qw.lets]at B;exact this (by rw[Qw.blk,<- B.1,L])
  .have:=Q.sep _ S;rw[Qw.blk,<- L]at this;have ak:(V (.run 0)).I a.block=some (.cells c ty fr):=hI;rw[this]at ak;cases ak
 have ab:∀a:Addr,a.block=x.m->a.off<2->(V (.run 0)).canW (.cell a):=λ a L Y=>Q4.2 ⟨_,S,L,Y⟩
 have aw:VI (Q1 V (.run 0) ({ (V (.run 0))with M:=M₁++M₂ }:Qa Tk)) w:=h.vi.shift ⟨rfl,λ w' Z=>by
  have aa:=Z.apart;rw[hM]at aa;exact⟨⟨Z.imm,λ y G=>Z.held y (F y G),(pairwise_cons.1 aa).2,λ y G=>Z.sep y (F y G)⟩,aj,ai⟩⟩
 have ax:VI z w:=by
  have:=aw.fork (k:=.run 0) (c:=.lck) (Up:=U2) (Uc:=⟨λ _=>none,M₁,⟨0,.out,none⟩⟩) (by rw[Ql];exact hf) S1
  have e:Q1 (Q1 (Q1 V (.run 0) ({ (V (.run 0))with M:=M₁++M₂ }:Qa Tk)) (.run 0) U2) .lck (⟨λ _=>none,M₁,⟨0,.out,none⟩⟩:Qa Tk)=z:=by
   funext k;by_cases e1:k=.lck
   .subst e1;rw[Ql,vm]
   .rw[Qh _ _ e1];show _=Q1 _ _ _ k;rw[Qh _ _ e1];by_cases e2:k=.run 0
    .subst e2;rw[Ql,Ql]
    .rw[Qh _ _ e2,Qh _ _ e2,Qh _ _ e2]
  rw[e]at this;exact this
 have hW:∀k l,(z k).canW l->(V k).canW l\/(k=.lck/\(V (.run 0)).canW l):=by
  intro k l B;cases k with
  |run j=>
   by_cases e:j=0
   .subst e;rw[v0]at B;exact .inl (aj l (hf.wp l B))
   .rw[v2 j e]at B;exact .inl B
  |dep j=>rw[vd]at B;exact .inl B
  |lck=>rw[vm]at B;exact .inr ⟨rfl,aj l (hf.wc l B)⟩
 have hR:∀k l,(z k).canR l->(V k).canR l\/(k=.lck/\(V (.run 0)).canR l):=by
  intro k l B;cases k with
  |run j=>
   by_cases e:j=0
   .subst e;rw[v0]at B;exact .inl (ai l (hf.rp l B))
   .rw[v2 j e]at B;exact .inl B
  |dep j=>rw[vd]at B;exact .inl B
  |lck=>rw[vm]at B;exact .inr ⟨rfl,ai l (hf.rc l B)⟩
 have ag:∀k,QI x.m (z k):=by
  intro k a L Y E;cases k with
  |run j=>
   by_cases e:j=0
   .subst e;rw[v0]at E;exact X a L Y (hf.rp _ E)
   .rw[v2 j e]at E;exact h.vi.sep (.run 0) (.run j) _ (λ e'=>e (Hd.run.inj e').symm) (ab a L Y) E
  |dep j=>rw[vd]at E;exact h.vi.sep (.run 0) (.dep j) _ S1 (ab a L Y) E
  |lck=>rw[vm]at E;exact X a L Y (hf.rc _ E)
 have H:∀j,j≠0->Zo rk 0 (some r') j=rk j:=λ j f=>Qu _ _ f
 have hT:∀j,(z (.run j)).tok.ph=(V (.run j)).tok.ph:=by
  intro j;by_cases e:j=0
  .subst e;rw[v0,K]
  .rw[v2 j e]
 have ad:Q2 z 0=some (.par x λ _=>false):=by unfold Q2;rw[v0]
 have ae:∀j,j≠0->Q2 z j=none:=λ j f=>by unfold Q2;rw[v2 j f];exact g3 j
 refine⟨?_,by rw[Qj];simp,?_,?_,?_,?_,?_,?_,?_,λ j f=>by show z _=_;rw[vd];exact h.deps j f,ax,?_,?_,?_,?_⟩
 .intro j r'' _ hr'';by_cases e:j=0
  .subst e;rw[Qj]at hr'';cases hr'';exact⟨g,by show JR _ _ _ _ _ (z _);rw[v0];exact hJ,.inl hi⟩
  .rw[H j e]at hr'';obtain⟨y,k1,k2⟩:=h.live j r'' (λ e'=>e (Option.some.inj e').symm) hr'';exact⟨y,by show JR _ _ _ _ _ (z _);rw[v2 j e];exact k1,by show _\/_/\_/\SX _ (z _).tok;rw[v2 j e];exact k2⟩
 .intro j y f G _;have e:j≠0:=λ e=>by subst e;rw[Qj]at f;cases f
  rw[H j e]at f;exact h.gone j y f G (ah j e)
 .intro j f hp;have e:j≠0:=λ e=>by subst e;rw[Qj]at f;cases f
  have hp:(z (.run j)).tok.ph≠.out:=hp;rw[hT]at hp;exact absurd (ah j e) hp
 .intro j f;have e:j≠0:=by have:=(Array.getElem?_eq_some_iff.1 hi).1;omega
  rw[H j e];exact h.above j f
 .intro j f;have e:j≠0:=λ e=>by subst e;rw[Qj]at f;cases f
  rw[H j e]at f;show(z _).I=_/\(z _).M=_;rw[v2 j e];exact h.bare j f
 .intro j h0 f;rw[H j h0]at f;show ZK (z _).tok.ph;rw[hT];exact h.wk j h0 f
 .intro j f;have f:ZK (z (.run j)).tok.ph:=f;rw[hT]at f;by_cases e:j=0
  .subst e;rw[Qj];simp
  .rw[H j e];exact h.wk' j f
 .intro j f;show _=(z _).tok.d;by_cases e:j=0
  .subst e;rw[v0];rw[h.deaf 0 h.root,K]
  .rw[H j e]at f;rw[v2 j e];exact h.deaf j f
 .obtain⟨rm,hti⟩:=h.ti;have e0:Jv V=none:=by unfold Jv;rw[an];rfl
  have e1:Jv z=some x.m:=by unfold Jv;rw[ad];rfl
  rw[e0]at hti;refine⟨none,?_⟩;show TI (λ k=>(z k).canW) (λ k=>(z k).canR) rel (z (.run 0)).tok.ph.blk (Jv z) none (λ i=>i=0\/(z (.run i)).tok.ph≠.out) (λ i=>ZK (z (.run i)).tok.ph) w.heap.size tr;rw[e1];simp only[hT];refine hti.createM (act':=λ i=>i=0\/(V (.run i)).tok.ph≠.out) (λ j f=>?_) ab hW hR (λ l=>by rw[g4];exact Wh _ _) (λ l=>by rw[g4];exact Wg _ _);refine⟨?_,.inl rfl⟩;rcases f with rfl|f
  .rfl
  .apply Classical.byContradiction;intro e;exact f (ah j e)
 .show QG t N gs w z rel;unfold QG;rw[v0];refine⟨λ k a L Y E=>?_,W,c,wt,s,ap,?_,au⟩
  .rcases hR k _ E with h1|⟨_,h1⟩
   .exact T _ a L Y h1
   .exact T _ a L Y h1
  .have hk:Z1 z=Z1 V:=by funext j;simp only[Z1,hT]
   rw[hk];simpa only[vd]using ac
 .show JF gs w z;refine⟨λ j y u f e=>(by rw[ae j f]at e;cases e),by rw[vm],?_⟩;rw[ad]
  have nl:∀j y s me lo,Q2 z j≠some (.lok y s me lo):=by
   intro j y s me lo e;by_cases ej:j=0
   .subst ej;rw[ad]at e;cases e
   .rw[ae j ej]at e;cases e
  exact⟨ag,λ _=>.idle,0,0,av,rfl,λ j _ _ _ _ e=>absurd e (nl _ _ _ _ _),λ j _ _ _ _ _ _ _ _ e=>absurd e (nl _ _ _ _ _),λ s e=>(by cases e),λ _ _=>rfl,λ e=>(by cases e),λ _=>(by rw[vm];exact hD),λ j _ _ _ _ _ e=>absurd e (nl _ _ _ _ _)⟩
 .intro j f;have e:j≠0:=λ e=>by subst e;rw[Qj]at f;cases f
  exact ae j e
def Fin(P:Program)(Q:Value->Qa Tk->Prop):QH Tk:=λ m g U=>m=true/\g.status=.running/\U.tok=⟨0,.out,none⟩/\∃v,Q v U/\∀w,U.ok w->∃es,stepG P true g w=.ended (.done v) w es/\∀e∈es,JU U w e/\XR w e
def Fin.running:∀m g U,Fin P Q m g U->g.status=.running:=λ _ _ _ h=>h.2.1
def Nx(P:Program)(t:TypeId)(N:Nat)(Stop:QH Tk)(gs:Array Gr)(w:World)(sl:Option (Nat×Nat))(tr:Trace)(μ:List Tr×Nat)(i:Nat):Prop:=
 ∃b w' ops V' rk' rel' q',runT P (crowd gs w sl) i=(.next (crowd b w' sl),ops)/\MI P t N Stop none b w' (tr++ops) V' rk' rel' q'/\Relation.TransGen ZY (QC b rk' q') μ/\JZ w.os w'.os/\w'.output=w.output
def JG.nx(h:JG P t N Stop gs w sl tr rk q i):Nx P t N Stop gs w sl tr (QC gs rk q) i:=
 let ⟨gs',w',ops,V',rk',rel',q',a,b,c,d⟩:=h;⟨gs',w',ops,V',rk',rel',q',a,b,.single c,d⟩
def Yo(P:Program)(t:TypeId)(N:Nat)(Q:Value->Qa Tk->Prop)(gs:Array Gr)(w:World)(tr:Trace)(g:Gr):Prop:=
 ∃V rk rel q,MI P t N (Fin P Q) (some 0) gs w tr V rk rel q/\Fin P Q true g (V (.run 0))
def MI.alive:∀(r:Tr){i:Nat}{g:Gr}{V:Hd->Qa Tk}{rk:Nat->Option Tr},MI P t N (Fin P Q) none gs w tr V rk rel q->gs[i]?=some g->g.status=.running->rk i=some r ->
  (i=0/\Yo P t N Q gs w tr g)\/Nx P t N (Fin P Q) gs w sl tr (QC gs rk q) i:=by
 intro r
 induction r using Tr.sub_wf.induction with
 |_ r ih=>
  intro i g V rk h hi ab X;have ax:=(Array.getElem?_eq_some_iff.1 hi).1;obtain⟨av,hJ,hg⟩:=h.live i r S1 X
  have:av=g:=by
   rcases hg with hg|⟨hg,_⟩
   .rw[hi]at hg;exact(Option.some.inj hg).symm
   .rw[hi]at hg;cases hg;cases ab
  subst this;have am:=hJ;obtain⟨U1,hs,hJ⟩:=hJ.step;have L:=h.shift X hs;have hU:Q1 V (.run i) U1 (.run i)=U1:=Ql ..;generalize Q1 V (.run i) U1=V1 at L hU;subst hU;rcases hJ with hJ|hJ|hJ
  .have hi0:i=0:=by have:=hJ.1;simpa using this
   subst hi0;exact .inl ⟨rfl,V1,rk,rel,q,L,hJ⟩
  .exact .inr (L.priv Fin.running hi X hJ).nx
  .have hJ:QB P t N _ (i==0) av (V1 (.run i)):=hJ;generalize hm:(i==0)=m at hJ
   have par:∀{d b ds pend k mu},i=0->(V1 (.run i)).tok=⟨d,.par b ds pend k,mu⟩->(∀j,QI b (V1 j))/\∃W c wt s,Sh b t (Q0 c wt) (Qp s) w/\GI N b ds pend k (Z1 V1) rel (λ i=>(V1 (.dep i)).M) W c wt s:=by
    intro d b ds pend k mu I z;subst I;obtain⟨be,au,k',e1,e2,W,c,wt,s,e3,e4,_⟩:=L.par' (b:=b) (by rw[z];rfl);rw[z]at e1;cases e1;exact⟨e2,W,c,wt,s,e3,e4⟩
   have ba:rk i≠none:=by rw[X];simp
   have T:∀{d b ds pend k mu},(V1 (.run i)).tok=⟨d,.par b ds pend k,mu⟩->i=0/\m=true:=by
    intro d b ds pend k mu z
    have I:i=0:=by
     apply Classical.byContradiction;intro ap;obtain⟨_,_,e⟩:=L.wk i ap ba;rw[z]at e;cases e
    exact⟨I,by subst I;exact hm.symm⟩
   have bc:(V1 (.run i)).tok=⟨0,.out,none⟩->i=0/\m=true:=by
    intro z
    have I:i=0:=by
     apply Classical.byContradiction;intro ap;obtain⟨_,_,e⟩:=L.wk i ap ba;rw[z]at e;cases e
    exact⟨I,by subst I;exact hm.symm⟩
   have ag:m=true->i=0:=λ e=>by subst e;simpa using hm
   have ah:m=false->i≠0:=λ e=>by subst e;simpa using hm
   have aa:i=0->∃d b ds pend k mu,((V1 (.run i)).tok=⟨d,.par b ds pend k,mu⟩\/(V1 (.run i)).tok.ph=.out):=by
    intro I;subst I;have hG:=L.grp;unfold QG at hG;generalize(V1 (.run 0)).tok=tk at hG;obtain⟨d,p,mu⟩:=tk;cases p with
    |out=>exact⟨0,0,[],false,.run,none,.inr rfl⟩
    |par b ds pend k=>exact⟨d,b,ds,pend,k,mu,.inl rfl⟩
    |_=>exact hG.elim
   cases hJ with
   |quiet Y hb E F k=>
    rename_i b bs g';obtain⟨r',f,k⟩:=k;cases m with
    |true=>
     have I:=ag rfl;subst I;obtain⟨d,b',ds,pend,kk,mu,z|z⟩:=aa rfl
     .rw[z]at hb;cases hb;obtain⟨B,W,c,wt,s,K,H⟩:=par rfl z;refine .inr (L.parent Fin.running hi X z B K (E _ _) F S1 (deafBehind_nil _) H f ?_).nx;have:(V1 (.run 0)).at d (.par b ds pend kk)=V1 (.run 0):=Qa.at_self z;rw[this];exact k
     .rw[z]at hb;cases hb
    |false=>
     have I:=ah rfl;exact .inr (L.calm Fin.running hi X I hb E F f k).nx
   |dis Y z E F k=>
    obtain⟨r',f,k⟩:=k;obtain⟨I,U⟩:=T z;subst I;subst U;obtain⟨B,W,c,wt,s,K,H⟩:=par rfl z;exact .inr (L.parent Fin.running hi X z B K (E _ _) F (by intro e he;simp at he;subst he;exact .inl rfl) rfl H f k).nx
   |ena Y z E F k=>
    obtain⟨r',f,k⟩:=k;obtain⟨I,U⟩:=T z;subst I;subst U;obtain⟨B,W,c,wt,s,K,H⟩:=par rfl z;exact .inr (L.parent Fin.running hi X z B K (E _ _) F (by intro e he;simp at he;subst he;exact .inl rfl) rfl H f k).nx
   |add Y z hN E=>
    obtain⟨I,U⟩:=T z;subst I;subst U;obtain⟨B,W,c,wt,s,K,H⟩:=par rfl z;obtain⟨rfl,rfl,-⟩:=H.state;have hc:=H.cN;simp at hc;obtain⟨g',bs,E,F,r',f,k⟩:=E c hc;exact .inr (L.parent Fin.running hi X z B K E F (by intro e he;simp at he;rcases he with rfl|rfl <;> exact .inr (.inl ⟨0,_,O1,rfl⟩)) rfl (H.add hN) f k).nx
   |said Y z E F k=>
    rename_i mu b ds pend kk bs g' wr;obtain⟨r',f,k⟩:=k;obtain⟨I,U⟩:=T z;subst I;subst U;obtain⟨B,W,c,wt,s,K,H⟩:=par rfl z;refine .inr (L.parent Fin.running (d':=1) hi X z B K (E _ _) F (by intro e he;simp at he;subst he;exact .inr (.inr ⟨rfl,1,wr,O1,rfl⟩)) (by cases wr <;> rfl) H f ?_).nx;have:(V1 (.run 0)).at 1 (.par b ds pend kk)=V1 (.run 0):=Qa.at_self z;rw[this];exact k
   |look Y z hk E=>
    rename_i mu b ds k_0 u;obtain⟨I,U⟩:=T z;subst I;subst U;obtain⟨B,W,c,wt,s,K,H⟩:=par rfl z;obtain⟨hc,rfl,rfl,-⟩:=H.seeU hk;obtain⟨g',bs,F,⟨E,⟨r',f,k⟩|⟨rfl,r',f,k⟩⟩|⟨bh,E,r',f,k⟩⟩:=E c hc
    .refine .inr (L.parent Fin.running (d':=1) hi X z B K E F (by intro e he;simp at he;subst he;exact .inr (.inl ⟨0,_,O1,rfl⟩)) rfl (H.toSeen hk) f k).nx
    .exact .inr (L.parent Fin.running (d':=1) hi X z B K E F (by intro e he;simp at he;subst he;exact .inr (.inl ⟨0,_,O1,rfl⟩)) rfl (H.toUp hk) f k).nx
    .exact .inr (L.parent Fin.running (d':=1) hi X z B K E F (by intro e he;simp at he;rcases he with rfl|rfl <;> exact .inr (.inl ⟨0,_,O1,rfl⟩)) rfl (H.toWait hk bh) f k).nx
   |sema Y ho z h0 E=>
    rename_i mu b ds;obtain⟨I,U⟩:=T z;subst I;subst U;have ad:(V (.run 0)).tok=⟨1,.par b ds false .wait,mu⟩:=hs.1.symm.trans z;obtain⟨be,au,bq,e1,aq,W',c',wt',s',ak,aj,_⟩:=h.par' (b:=b) (by rw[ad];rfl);rw[ad]at e1;cases e1
    have ae:s'=0\/s'=1:=by
     rcases aj.state.2 with⟨_,_,h3,_⟩|⟨_,i0,j0,_,⟨_,_,h3⟩|⟨_,_,h3⟩⟩|⟨_,_,h3,_⟩ <;> omega
    rcases ae with rfl|rfl
    .obtain⟨bs,F,E⟩:=h0 (Q0 c' wt');have hx:MI P t N (Fin P Q) (some 0) gs w tr V rk rel q:={ h with live:=λ j r _ X=>h.live j r S1 X };exact .inr (hx.block hi ab ho X ad aq ak aj E F am).nx
    .obtain⟨B,W,c,wt,s,K,H⟩:=par rfl z
     have bm:s=1:=by
      have:some (Obj.cells #[Q0 c' wt',Qp 1] t (0,0))=some (Obj.cells #[Q0 c wt,Qp s] t (0,0)):=ak.symm.trans K;simp[Qp]at this;omega
     subst bm;obtain⟨aw,rfl,rfl,-⟩:=H.sema;obtain⟨g',bs,F,E,r',f,k⟩:=E;exact .inr (L.parent Fin.running (d':=1) hi X z B K E F (by intro e he;simp at he;rcases he with rfl|rfl|rfl|rfl <;> first|exact .inl rfl|exact .inr (.inl ⟨1,_,O1,rfl⟩)) rfl aw f k).nx
   |look2 Y z F E k=>
    rename_i mu b ds bs g';obtain⟨r',f,k⟩:=k;obtain⟨I,U⟩:=T z;subst I;subst U;obtain⟨B,W,c,wt,s,K,H⟩:=par rfl z;obtain⟨-,rfl,rfl,rfl,-⟩:=H.up;refine .inr (L.parent Fin.running (d':=1) hi X z B K E F (by intro e he;simp at he;subst he;exact .inr (.inl ⟨0,_,O1,rfl⟩)) rfl H f ?_).nx;have:(V1 (.run 0)).at 1 (.par b ds false .up)=V1 (.run 0):=Qa.at_self z;rw[this];exact k
   |acq Y z F E k=>
    obtain⟨I,U⟩:=T z;subst I;subst U;obtain⟨B,W,c,wt,s,K,H⟩:=par rfl z
    have bn:V1 .lck=ZG:=by
     have g3:=L.mux.2.2;rw[show Q2 V1 0=none by unfold Q2;rw[z]]at g3;exact g3.2
    refine .inr (L.take Fin.running hi X z K H E F λ Ms an=>?_).nx;obtain⟨r',f,k⟩:=k Ms an;refine⟨r',f,?_⟩
    have:({ (V1 (.run 0))with M:=((V1 (.run 0)).M++Ms.flatten)++(V1 .lck).M,tok:=⟨0,.out,none⟩ }:Qa Tk)=((V1 (.run 0)).with Ms.flatten).at 0 .out:=by
     rw[bn];simp only[ZG,Qa.bare,append_nil,Qa.at,Qa.with];rw[z]
    rw[this];exact k
   |acqM Y z F E k=>
    rename_i b ds bs g' x u;obtain⟨I,U⟩:=T z;subst I;subst U;obtain⟨B,W,c,wt,s,K,H⟩:=par rfl z
    have Z:x.sp (u false) (u true) (V1 .lck).M:=by
     have g3:=L.mux.2.2;rw[show Q2 V1 0=some (.par x u) by unfold Q2;rw[z]]at g3;obtain⟨-,lp,st,sm,hx⟩:=g3;have ay:=H.up.2.2.2.2.1
     have bj:∀j y s me lo,Q2 V1 j≠some (.lok y s me lo):=by
      intro j y s me lo e;by_cases ej:j=0
      .subst ej;unfold Q2 at e;rw[z]at e;cases e
      .have hrj:rk j=none:=by
        cases bl:rk j with
        |none=>rfl
        |some br=>
         obtain⟨_,_,e'⟩:=L.wk j ej (by rw[bl];simp);have:=ay j;simp only[Z1,if_neg ej]at this;rw[e']at this;cases this
       rw[L.bareM j hrj]at e;cases e
     have bi:∀s,lp s=if u s then .fin else .idle:=by
      intro s;cases hu:u s with
      |false=>simpa using hx.idle s hu
      |true=>
       rcases hx.who s hu with h2|⟨j,me,lo,e⟩
       .simpa using h2
       .exact absurd e (bj _ _ _ _ _)
     have ai:∀s,(lp s).rels=u s/\(lp s).isOwn=false:=by
      intro s;rw[bi s];cases u s <;> exact⟨rfl,rfl⟩
     have:=hx.dep' (by rw[(ai false).2,(ai true).2];rfl);unfold QV.dep at this;rw[(ai false).1,(ai true).1]at this;exact this
    exact .inr (L.take Fin.running hi X z K H E F λ Ms an=>k Ms _ an Z).nx
   |make z hM k=>
    obtain⟨r',f,k⟩:=k;obtain⟨I,U⟩:=bc z;subst I;subst U;have h2:=L.make hi z hM k;rcases ih r' f h2 hi ab (Qj ..)with h3|⟨al,w',ops,V',rk',rel',q',a,b,c,dd⟩
    .exact .inl h3
    .refine .inr ⟨al,w',ops,V',rk',rel',q',a,b,c.tail ?_,dd⟩;exact Xj rfl ax X λ bp e=>by cases e;exact f
   |makeM z hM hD k=>
    obtain⟨r',f,k⟩:=k;obtain⟨I,U⟩:=T z;subst I;subst U;have h2:=L.makeM hi z hM hD k;rcases ih r' f h2 hi ab (Qj ..)with h3|⟨al,w',ops,V',rk',rel',q',a,b,c,dd⟩
    .exact .inl h3
    .refine .inr ⟨al,w',ops,V',rk',rel',q',a,b,c.tail ?_,dd⟩;exact Xj rfl ax X λ bp e=>by cases e;exact f
   |mu Y z E=>
    rename_i b D x s me lo d
    have I:i≠0:=λ e=>by
     obtain⟨_,_,_,_,_,_,G|G⟩:=aa e
     .rw[z]at G;cases G
     .rw[z]at G;cases G
    have U:m=false:=by rw[<- hm];simpa using I
    subst U;obtain⟨u,lp,st,sm,k0,B,hx,rfl,ac,-⟩:=L.lock (i:=i) (x:=x) (s:=s) (me:=me) (lo:=lo) (by unfold Q2;rw[z]);obtain⟨g',bs,es,me',st',sm',d',lo',a0,a1,a2,a3,a4,a5,a6,a7,a8,a9,bd,r',f,k⟩:=E (lp (!s)) st sm ac (by rw[<- H2];exact hx.word);exact .inr (MI.mu Fin.running a0 L hi X I z k0 B hx a2 a1 a3 a4 a5 a6.symm a8 a9 bd f k).nx
   |mblk Y ho z bf bg=>
    rename_i b D x s lo d
    have I:i≠0:=λ e=>by
     obtain⟨_,_,_,_,_,_,G|G⟩:=aa e
     .rw[z]at G;cases G
     .rw[z]at G;cases G
    have U:m=false:=by rw[<- hm];simpa using I
    subst U;have ad:(V (.run i)).tok=⟨d,.wrk b D,some (.lok x s .wai lo)⟩:=hs.1.symm.trans z;obtain⟨u,lp,st,sm,k0,B,hx,S,ac,-⟩:=h.lock (i:=i) (x:=x) (s:=s) (me:=.wai) (lo:=lo) (by unfold Q2;rw[ad]);have hw:=hx.word;rw[H2 _ s,<- S]at hw
    have ae:sm=0\/(st=2/\sm=1/\lp (!s)=.fin):=by
     revert hw
     cases lp (!s)with
     |own v=>cases v <;> simp[LP.word] <;> omega
     |_=>simp[LP.word] <;> omega
    rcases ae with rfl|⟨rfl,rfl,hq⟩
    .obtain⟨bs,F,E⟩:=bf (Zb st);have bo:MI P t N (Fin P Q) (some i) gs w tr V rk rel q:={ h with live:=λ j r _ X=>h.live j r S1 X };exact .inr (bo.mblk hi ab ho X I ad k0 B hx E F (by rw[show(i==0)=false by simpa using I]at am;exact am)).nx
    .obtain⟨u,lp,st,sm,k0,B,hx',S,ac,-⟩:=L.lock (i:=i) (x:=x) (s:=s) (me:=.wai) (lo:=lo) (by unfold Q2;rw[z]);have e2:some (Obj.cells #[Zb 2,Qp 1] x.t (0,0))=some (Obj.cells #[Zb st,Qp sm] x.t (0,0)):=hx.sh.symm.trans hx'.sh
     have e3:st=2/\sm=1:=by
      simp[Zb,Qp]at e2;omega
     obtain⟨rfl,rfl⟩:=e3;have bb:=hx'.word;rw[H2 _ s,<- S]at bb
     have az:lp (!s)=.fin:=by
      revert bb
      cases lp (!s)with
      |own v=>cases v <;> simp[LP.word]
      |_=>simp[LP.word]
     obtain⟨g',bs,F,E,r',f,k⟩:=bg;rw[S]at z;refine .inr (MI.mu (me':=.wok) (lo':=2) (st':=2) (sm':=0) Fin.running (by rw[az];exact Nat.le_refl _) L hi X I z k0 B hx' E F (by rw[az];rfl) (by rw[<- S];exact Nat.le_refl _) (by rw[<- S];rfl) (by rw[<- S];rfl) (by intro e he;simp at he;rcases he with rfl|rfl|rfl|rfl <;> first|exact .inl rfl|exact .inr ⟨1,_,O1,rfl⟩) rfl (.inr (.inl rfl)) f k).nx
   |macq Y z F E k=>
    rename_i b D x s lo bs g'
    have I:i≠0:=λ e=>by
     obtain⟨_,_,_,_,_,_,G|G⟩:=aa e
     .rw[z]at G;cases G
     .rw[z]at G;cases G
    have U:m=false:=by rw[<- hm];simpa using I
    subst U;obtain⟨u,lp,st,sm,k0,B,hx,S,ac,-⟩:=L.lock (i:=i) (x:=x) (s:=s) (me:=.got) (lo:=lo) (by unfold Q2;rw[z]);have hw:=hx.word;rw[H2 _ s,<- S]at hw;have bk:=(LP.word_own hw).2;have Z:=hx.dep' (by rw[SK _ s,<- S,bk];rfl)
    have Z:x.sp (if s then(lp (!s)).rels else false) (if s then false else(lp (!s)).rels) (V1 .lck).M:=by
     unfold QV.dep at Z;cases s
     .rw[<- S]at Z;exact Z
     .rw[<- S]at Z;exact Z
    obtain⟨r',f,k⟩:=k _ _ Z;rw[S]at z;exact .inr (L.macq Fin.running hi X I z S.symm ac k0 B hx E F f k).nx
   |mrel Y z F hM hD E k=>
    rename_i b D x s lo v bs g' M₁ M₂
    have I:i≠0:=λ e=>by
     obtain⟨_,_,_,_,_,_,G|G⟩:=aa e
     .rw[z]at G;cases G
     .rw[z]at G;cases G
    have U:m=false:=by rw[<- hm];simpa using I
    subst U;obtain⟨u,lp,st,sm,k0,B,hx,S,ac,-⟩:=L.lock (i:=i) (x:=x) (s:=s) (me:=.own v) (lo:=lo) (by unfold Q2;rw[z]);obtain⟨r',f,k⟩:=k;rw[S]at z;exact .inr (L.mrel Fin.running hi X I z S.symm ac k0 B hx hM hD E F f k).nx
   |go Y z E hf hp hc ao k k'=>
    obtain⟨bt,s1,k⟩:=k;obtain⟨bu,s2,k'⟩:=k';obtain⟨I,U⟩:=T z;subst I;subst U;obtain⟨B,W,c,wt,s,K,H⟩:=par rfl z;exact .inr (L.start Fin.running hi X z B K H E hf hp hc ao s1 s2 k k').nx
   |lay Y z ao hD F E k=>
    obtain⟨n,k⟩:=k
    have I:i≠0:=by
     intro e;subst e;obtain⟨_,_,_,_,_,_,G|G⟩:=aa rfl
     .rw[z]at G;cases G
     .rw[z]at G;cases G
    have U:m=false:=by rw[<- hm];simpa using I
    subst U;exact .inr (L.lay Fin.running hi X I z ao hD E F k).nx
def Sh.at{b:Nat}{st sm:Value}(h:Sh b t st sm w)(d:Nat):Sh b t st sm (w.at d):=h
def MI.at{ex:Option Nat}{Stop:QH Tk}(h:MI P t N Stop ex gs w tr V rk rel q)(d:Nat):MI P t N Stop ex gs (w.at d) tr V rk rel q:=by
 refine⟨h.live,h.root,h.gone,h.tail,h.above,h.bare,h.wk,h.wk',h.deaf,h.deps,h.vi.heap rfl,h.ti,?_,h.mux.at (λ _=>rfl) rfl (λ _ B _=>B) (λ _ _ _ _ _ x=>x) (λ j x s me lo y _ E z=>⟨y,E,z⟩),h.bareM⟩;have f:=h.grp;unfold QG at f ⊢
 revert f
 cases(V (.run 0)).tok.ph with
 |par b ds pend k=>exact λ f=>f
 |_=>exact λ f=>f
def MI.status(h:MI P t N (Fin P Q) none gs w tr V rk rel q){i:Nat}{g:Gr}(z:gs[i]?=some g):g.status=.running\/g.status=.blocked\/g.status=.finished:=by
 cases B:rk i with
 |some r=>
  obtain⟨F,G,f⟩:=h.live i r S1 B;have:=G.running Fin.running;rcases f with f|⟨f,_⟩
  .rw[z]at f;cases f;exact .inl this
  .rw[z]at f;cases f;exact .inr (.inl rfl)
 |none=>
  by_cases E:(V (.run i)).tok.ph=.out
  .exact(h.gone i g B z E).status.elim .inl λ x=>.inr (.inr x)
  .obtain⟨x,b,hx,_,ht⟩:=h.tail i B E;rw[z]at hx;cases hx;exact .inl ht.running
def MI.someone(h:MI P t N (Fin P Q) none gs w tr V rk rel q):∃(i:Nat)(g:Gr),gs[i]?=some g/\g.status=.running:=by
 have lck:∀i r g,rk i=some r->i≠0->gs[i]?=some g->g.status≠.running->∃(i:Nat)(g:Gr),gs[i]?=some g/\g.status=.running:=by
  intro i r g hr F S T;obtain⟨al,hJ,B⟩:=h.live i r S1 hr;have E:=hJ.running Fin.running;rcases B with B|⟨B,_,hb⟩
  .rw[S]at B;cases B;exact absurd E T
  .rcases hb with⟨e,_⟩|⟨d,b,D,x,s,lo,I⟩
   .exact absurd e F
   .have hk:Q2 V i=some (.lok x s .wai lo):=by unfold Q2;rw[I]
    obtain⟨u,lp,st,sm,k0,ai,z,ac,am,-⟩:=h.lock hk;have ae:=z.slp i _ _ _ _ g hk S T;have hw:=z.word;rw[H2 _ s,<- ac,ae]at hw
    have hq:lp (!s)≠.fin/\lp (!s)≠.idle/\lp (!s)≠.wai:=by
     refine⟨λ e=>?_,λ e=>?_,λ e=>?_⟩ <;> (rw[e]at hw;simp[LP.word]at hw)
    have hu:u (!s)=true:=by
     cases hu:u (!s)with
     |true=>rfl
     |false=>exact absurd (z.idle _ hu) hq.2.1
    rcases z.who _ hu with h1|⟨j,me,lo',e⟩
    .exact absurd h1 hq.1
    .have Y:j≠0:=λ Y=>by subst Y;rw[k0]at e;cases e
     have ad:rk j≠none:=λ hn=>by rw[h.bareM j hn]at e;cases e
     obtain⟨ah,U⟩:=Option.ne_none_iff_exists'.1 ad;obtain⟨Z,K,f⟩:=h.live j ah S1 U;have H:=K.running Fin.running;rcases f with f|⟨f,_,L⟩
     .exact⟨j,Z,f,H⟩
     .exfalso;rcases L with⟨e',_⟩|⟨d',b',D',x',s',aj,X⟩
      .exact Y e'
      .unfold Q2 at e;rw[X]at e;cases e;have:=(z.tk j _ _ _ _ (show Q2 V j=_ by unfold Q2;rw[X])).2.1;exact hq.2.2 this.symm
 obtain⟨r,hr⟩:=Option.ne_none_iff_exists'.1 h.root;obtain⟨g,hJ,B⟩:=h.live 0 r S1 hr;have E:=hJ.running Fin.running;rcases B with B|⟨B,_,hb⟩
 .exact⟨0,g,B,E⟩
 .rcases hb with⟨-,b,ds,mu,I⟩|⟨d,b,D,x,s,lo,I⟩
  rotate_left
  .have hG:=h.grp;unfold QG at hG;rw[I]at hG;exact hG.elim
  obtain⟨ak,pend,k,e,_,W,c,wt,s,_,ab,h4⟩:=h.par' (b:=b) (by rw[I];rfl);rw[I]at e;cases e;have hs:=h4 _ B S1;subst hs;obtain⟨i,S⟩:=ab.someone;have F:i≠0:=λ e=>S (by simp[Z1,e]);have hp:(V (.run i)).tok.ph≠.out:=by simpa[Z1,F]using S
  cases G:rk i with
  |some r'=>
   obtain⟨x,aa,z⟩:=h.live i r' S1 G;rcases z with z|⟨z,_⟩
   .exact⟨i,x,z,aa.running Fin.running⟩
   .exact lck i r' _ G F z S1
  |none=>
   obtain⟨x,b',z,_,ag⟩:=h.tail i G hp;exact⟨i,x,z,ag.running⟩
def MI.move(h:MI P t N (Fin P Q) none gs w tr V rk rel q) :
  (∃o w' ops,stepT P (crowd gs w sl)=(.ended o w',ops)/\Conc.Good P (λ v W'=>∃U,Q v U/\U.ok W'/\JZ w.os W'.os/\W'.output=w.output) (crowd gs w sl) o w' (tr++ops)) \/
  (∃f w' B ops V' rk' rel' q',stepT P (crowd gs w sl)=(.next (crowd f w' B),ops)/\Relation.TransGen ZY (QC f rk' q') (QC gs rk q)/\MI P t N (Fin P Q) none f w' (tr++ops) V' rk' rel' q'/\JZ w.os w'.os/\w'.output=w.output):=by
 have ag:∀g∈gs,awake g:=by
  intro g hg;obtain⟨i,T,rfl⟩:=Array.mem_iff_getElem.1 hg;intro tm e;rcases h.status (Array.getElem?_eq_getElem T)with x|x|x <;> rw[e]at x <;> cases x
 obtain⟨i,g,d,B,T,I,ab⟩:=crowd_pick (P:=P) (w:=w) (sl:=sl) ag h.someone;have hd:=h.at d
 have fin:Nx P t N (Fin P Q) gs (w.at d) B tr (QC gs rk q) i->∃f w' B ops V' rk' rel' q',stepT P (crowd gs w sl)=(Stepped.next (crowd f w' B),ops)/\Relation.TransGen ZY (QC f rk' q') (QC gs rk q)/\MI P t N (Fin P Q) none f w' (tr++ops) V' rk' rel' q'/\JZ w.os w'.os/\w'.output=w.output:=by
  rintro⟨f,w',ops,V',rk',rel',q',a,b,c,dd⟩;exact⟨f,w',B,ops,V',rk',rel',q',ab.trans a,c,b,dd⟩
 cases hr:rk i with
 |none=>
  by_cases Y:(V (.run i)).tok.ph=.out
  .exact .inr (fin (hd.leaver Fin.running T I hr Y).nx)
  .exact .inr (fin (hd.tailStep Fin.running T hr Y).nx)
 |some r=>
  rcases MI.alive r (sl:=B) hd T I hr with⟨rfl,V',rk',rel',q',H,_,_,K,v,hq,W⟩|hn
  .left;have X:=H.vi.ok (.run 0);obtain⟨es,al,ah⟩:=W _ X;have hG:=H.grp;unfold QG at hG;rw[K]at hG;obtain⟨S,aa⟩:=hG
   have ak:∀j,j≠0->rk' j=none:=by
    intro j E;cases e:rk' j with
    |none=>rfl
    |some r=>
     obtain⟨b,D,e'⟩:=H.wk j E (by rw[e];simp);rw[S j E]at e';cases e'
   obtain⟨rm,ad⟩:=H.ti;have ai:∀b,Jv V'=some b->b<(w.at d).heap.size/\QI b (V' (.run 0)):=λ b F=>⟨(H.mux.mb F).1,(H.mux.mb F).2.1 _⟩;have ac:TI _ _ _ _ _ _ _ _ _ (tr++MemOp.ofEvents 0 g.frame.fn g.frame.place es):=IJ (fn:=g.frame.fn) (pos:=g.frame.place) ad H.vi (λ b F=>by rw[K]at F;cases F) ai ah (.refl _ _) (.inl rfl)
   have L:∀j,j≠0->Deaf (tr++MemOp.ofEvents 0 g.frame.fn g.frame.place es) j=Deaf tr j:=by
    intro j E;refine Deaf_other tr (Ne.symm E) _ ?_;intro op aj;obtain⟨e,_,rfl⟩:=Go.Conc.mem_ofEvents aj;rfl
   have Z:∀j x,j≠0->gs[j]?=some x->QuitsD P (q' j) (Deaf tr j) x:=λ j x E G=>H.gone j x (ak j E) G (S j E);refine⟨.done v,w.at d,_,ab.trans (ConcN.runT_crowd_ended T al),v,rfl,⟨_,hq,X,.refl _,rfl⟩,ac.clean,?_,⟨?_,rfl⟩,?_⟩
   .intro j x G hne hc;rcases ac.hand j x G hne hc with⟨b,D,e⟩|⟨r,e,_⟩|⟨p,z,Y,hz,F⟩
    .by_cases e0:x=0
     .exact absurd e0 hne
     .rw[S x e0]at e;cases e
    .rw[aa]at e;cases e
    .refine⟨p,by simp[Trace.g?,Y,hz],?_⟩;rcases F with rfl|F
     .simp only[Trace.g?,Y,Option.map_some,Option.some.injEq]at G;exact absurd (G.symm.trans hz) hne
     .exact F
   .intro x G;obtain⟨j,E,ae⟩:=mem_iff_getElem.1 G;rw[getElem_drop]at ae
    have:gs[1+j]?=some x:=by
     rw[<- ae];simp only[crowd]at E ⊢;have:1+j<gs.size:=by simp at E;omega
     simp[this]
    exact⟨_,(Z (1+j) x O1 this).leaves⟩
   .intro j x G E;have:=Z j x E G;refine⟨q' j,?_⟩;have e:(tr++MemOp.ofEvents 0 g.frame.fn g.frame.place es).deaf j (tr++MemOp.ofEvents 0 g.frame.fn g.frame.place es).size=Deaf tr j:=L j E;rw[e];exact this.hears _
  .exact .inr (fin hn)
def EF(h:Conc.Good P f A o w' tr)(w:∀v W',f v W'->n v W'):Conc.Good P n A o w' tr:=
 h.elim λ v x=>⟨v,x.1,w v _ x.2.1,x.2.2⟩
def runs(h:MI P t N (Fin P Q) none gs w tr V rk rel q) :
  ∃n last o w' t',runNT P (n+1) (crowd gs w sl) tr=(.ended o w',t')/\runN P n (crowd gs w sl)=.next last/\step P last=.ended o w'/\Conc.Good P (λ v W'=>∃U,Q v U/\U.ok W'/\JZ w.os W'.os/\W'.output=w.output) last o w' t':=by
 have key:∀(μ:List Tr×Nat)gs w sl tr V rk rel q,QC gs rk q=μ->MI P t N (Fin P Q) none gs w tr V rk rel q ->
   ∃n last o w' t',runNT P (n+1) (crowd gs w sl) tr=(.ended o w',t')/\runN P n (crowd gs w sl)=.next last/\step P last=.ended o w'/\Conc.Good P (λ v W'=>∃U,Q v U/\U.ok W'/\JZ w.os W'.os/\W'.output=w.output) last o w' t':=by
  intro μ
  induction μ using(WellFounded.transGen pR).induction with
  |_ μ L=>
   intro gs w sl tr V rk rel q K h;rcases h.move (sl:=sl)with⟨o,w',ops,z,I⟩|⟨B,w',F,ops,V',rk',rel',q',z,G,H,E,f⟩
   .exact⟨0,crowd gs w sl,o,w',tr++ops,by simp[runNT,z],rfl,by simp[step,z],I⟩
   .obtain⟨n,last,o,w'',t',k1,k2,k3,k4⟩:=L _ (K▸G) B w' F (tr++ops) V' rk' rel' q' rfl H;exact⟨n+1,last,o,w'',t',by rw[runNT_succ_next z];exact k1,by rw[runN_succ_next z];exact k2,k3,EF k4 λ v W'⟨U,a,b,c,d⟩=>⟨U,a,b,E.trans c,d.trans f⟩⟩
 exact key _ gs w sl tr V rk rel q rfl h
def pB(W:JR (Za P t N) (Fin P Q) r true g U)(S:U.ok w)(z:U.tok=⟨0,.out,none⟩) :
  MI P t N (Fin P Q) none #[g] w #[] (Q1 (λ _=>ZG) (.run 0) U) (Zo (λ _=>none) 0 (some r)) (λ _=>none) (λ _=>0):=by
 have G:Q1 (λ _=>ZG) (.run 0) U (.run 0)=U:=Ql ..;have H:∀j,j≠0->Q1 (λ _=>ZG) (.run 0) U (.run j)=ZG:=λ j Y=>Qh _ _ (λ e=>Y (Hd.run.inj e));have I:∀k,k≠.run 0->Q1 (λ _=>ZG) (.run 0) U k=ZG:=λ k Z=>Qh _ _ Z;have X:∀j,Deaf #[] j=0:=λ _=>rfl
 have no:∀i a,touchAt #[] i≠some a:=by
  intro i a h;obtain⟨x,K,_⟩:=touch_of h;simp at K
 have B:∀j,Q2 (Q1 (λ _=>ZG) (.run 0) U) j=none:=by
  intro j;unfold Q2;by_cases e:j=0
  .subst e;rw[G,z]
  .rw[H j e];rfl
 have V:Q1 (λ _=>ZG) (.run 0) U .lck=ZG:=I _ S1;refine⟨?_,by rw[Qj];simp,?_,?_,?_,?_,?_,?_,?_,?_,?_,⟨none,?_⟩,?_,⟨λ j x u _ e=>(by rw[B]at e;cases e),by rw[V];rfl,by rw[B];exact⟨B,V⟩⟩,λ j _=>B j⟩
 .intro i r' _ f;by_cases e:i=0
  .subst e;rw[Qj]at f;cases f;exact⟨g,by rw[G];exact W,.inl rfl⟩
  .rw[Qu _ _ e]at f;cases f
 .intro i x f K _;have e:i≠0:=λ e=>by subst e;rw[Qj]at f;cases f
  rw[Array.getElem?_eq_none S3]at K;cases K
 .intro i f hp;have e:i≠0:=λ e=>by subst e;rw[Qj]at f;cases f
  rw[H i e]at hp;exact absurd rfl hp
 .intro i L;simp at L;exact⟨Qu _ _ O1,X i,rfl⟩
 .intro i f;have e:i≠0:=λ e=>by subst e;rw[Qj]at f;cases f
  rw[H i e];exact⟨rfl,rfl⟩
 .intro i h0 f;rw[Qu _ _ h0]at f;exact absurd rfl f
 .intro i E;by_cases e:i=0
  .subst e;rw[Qj];simp
  .rw[H i e]at E;obtain⟨_,_,e⟩:=E;cases e
 .intro i f;by_cases e:i=0
  .subst e;rw[G,z];rfl
  .rw[Qu _ _ e]at f;exact absurd rfl f
 .intro i _;exact I _ S1
 .refine⟨λ k=>?_,λ F T l hn E f=>?_⟩
  .by_cases e:k=.run 0
   .subst e;rw[G];exact S
   .rw[I k e];exact K_ _ _
  .by_cases e:F=.run 0
   .subst e;rw[I T (Ne.symm hn)]at f;exact Wg _ _ f
   .rw[I F e]at E;exact Wh _ _ E
 .refine⟨λ said=>?_,λ k i a h=>absurd h (no i a),λ op h=>by simp at h,λ i a h=>?_,λ i a h=>absurd h (no i a),λ i a h=>absurd h (no i a),λ g r h=>(by cases h),λ i g h=>?_,λ i a h=>absurd h (no i a),λ i a h=>absurd h (no i a),λ r h=>(by cases h)⟩
  .rintro⟨i,j,_,⟨a,b,ha,_⟩,_⟩;exact no i a ha
  .simp[Trace.act?]at h
  .simp[Trace.g?]at h
 .unfold QG;rw[G,z];exact⟨λ i L=>by rw[H i L];rfl,λ _=>rfl⟩
def J.runs{g:Gr}{U:Qa Tk}(f:J (Za P t N) (Fin P Q) true g U)(h:U.ok w)(b:U.tok=⟨0,.out,none⟩) :
  ∃n last o w' t',runNT P (n+1) (solo g w) #[]=(.ended o w',t')/\runN P n (solo g w)=.next last/\step P last=.ended o w'/\Conc.Good P (λ v W'=>∃U,Q v U/\U.ok W'/\JZ w.os W'.os/\W'.output=w.output) last o w' t':=by
 obtain⟨r,f⟩:=f.rank;rw[solo_eq_crowd];exact TM.runs (pB f h b)
