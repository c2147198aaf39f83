/- Lemmas. No conditions. -/
import Derived.Test.YtnjljnhoaafkiaaGreatDoorB09
set_option linter.all false
open List
namespace Go.TM
variable{t a:TypeId}{N b m c wt i d lo wt' st st' sm':Nat}{gs K:Array Gr}{w w' F:World}{V V':Hd->Qa Tk}{rel:Nat->Option Nat}{tr:Trace}{sm y e:Value}{P:Program}{g g':Gr}{Stop:QI Tk}{rk:Nat->Option Tr}{q q':Nat->Nat}{r r' T:Tr}{p:Option Tr}{sl:Option (Nat×Nat)}{ds B:List Spec}{pend v s:Bool}{k k':PS}{W l:List Nat}{es:Array Event}{bs:List (Nat×Bool)}{p':Ph}{ex:Option Nat}{D:Spec}{U:Qa Tk}{E:Loc}{me' me:LP}{z:Nat×Nat}{x:QW}{u:Bool->Bool}{S L:Bool->LP}{M₁ M₂:List Qw}{Q:Value->Qa Tk->Prop}{f n:Value->World->Prop}{A:Machine}{o:Outcome}
section
open Go.Conc
def QH.turn(h:QH t N gs w V rel)(ht:∀j,(V' (.run j)).tok=(V (.run j)).tok)(F:∀j,V' (.dep j)=V (.dep j))(E:∀k l,(V' k).canR l->(V k).canR l):QH t N gs w V' rel:=by
 have G:Z1 V'=Z1 V:=by funext j;simp only[Z1,ht]
 unfold QH at h ⊢;rw[ht 0]
 revert h
 cases(V (.run 0)).tok.ph with
 |out=>exact λ h=>⟨λ i hi=>by rw[ht];exact h.1 i hi,h.2⟩
 |par b ds pend k=>
  rintro⟨h1,W,c,wt,s,h2,f,B⟩;refine⟨λ j a ha H I=>h1 j a ha H (E _ _ I),W,c,wt,s,h2,?_,B⟩;rw[G];simpa only[F]using f
 |_=>exact λ h=>h
def TI.tok{rel:Nat->Option Nat}{rm:Option Nat}{size:Nat}(h:TI (λ k=>(V k).canW) (λ k=>(V k).canR) rel (V (.run 0)).tok.ph.blk (Jv V) rm (λ i=>i=0\/(V (.run i)).tok.ph≠.out) (λ i=>ZL (V (.run i)).tok.ph) size tr)
  (ht:∀j,(V' (.run j)).tok=(V (.run j)).tok) (w:∀k l,(V' k).canW l->(V k).canW l) (f:∀k l,(V' k).canR l->(V k).canR l) :
  TI (λ k=>(V' k).canW) (λ k=>(V' k).canR) rel (V' (.run 0)).tok.ph.blk (Jv V') rm (λ i=>i=0\/(V' (.run i)).tok.ph≠.out) (λ i=>ZL (V' (.run i)).tok.ph) size tr:=by
 have b:Jv V'=Jv V:=by simp only[Jv,Q2,ht]
 rw[b];simp only[ht];exact h.turn w f λ _ h=>h
def Sh.ne{f:TypeId}(h:Sh b t (Q0 c wt) sm w)(k:Sh m f (Zb N) y w):m≠b:=by
 rintro rfl;have e:some (Obj.cells #[Q0 c wt,sm] t (0,0))=some (Obj.cells #[Zb N,y] f (0,0)):=h.symm.trans k;simp[Q0,Zb]at e
def Sh.two_other{x:Value}(k:Sh m a e sm w)(h:m≠b):Sh m a e sm (TM.two w b t x y):=by
 unfold Sh TM.two;simp only;rw[Array.getElem?_setIfInBounds_ne (Ne.symm h)];exact k
def JI.mb(h:JI gs w V)(hm:Jv V=some m):m<w.heap.size/\(∀j,QJ m (V j))/\∃t st sm,Sh m t (Zb st) (Qp sm) w:=by
 obtain⟨-,-,b⟩:=h;unfold Jv at hm;cases e:Q2 V 0 with
 |none=>rw[e]at hm;cases hm
 |some mu=>
  rw[e]at hm b;cases mu with
  |lok=>exact b.elim
  |par x u=>
   cases hm;obtain⟨f,B,st,sm,h5⟩:=b;exact⟨(Array.getElem?_eq_some_iff.1 h5.sh).1,f,_,_,_,h5.sh⟩
def JI.mb_ne(h:JI gs w V)(f:Sh b t (Q0 c wt) sm w):Jv V≠some b:=λ e=>by
 obtain⟨-,-,_,_,_,k⟩:=h.mb e;exact f.ne k rfl
def JI.step(h:JI gs w V)(hi:gs[i]?=some g)(B:∀x s me lo,Q2 V i=some (.lok x s me lo)->g'.status=.running)(I:∀i,Q2 V' i=Q2 V i)(hm:V' .lck=V .lck)
  (f:∀m,(∀j,QJ m (V j))->m<w.heap.size->∀j,QJ m (V' j)) (E:∀m t st sm,(∀j,QJ m (V j))->Sh m t (Zb st) (Qp sm) w->Sh m t (Zb st) (Qp sm) w'):JI (behind P gs i g g' F) w' V':=by
 refine h.at I hm f E λ j x s me lo y e hy b=>?_;by_cases G:j=i
 .subst G;rw[Wi hi]at hy;cases hy;exact absurd (B _ _ _ _ e) b
 .rw[J3 G]at hy;obtain⟨z,K,rfl⟩:=Option.map_eq_some_iff.1 hy;exact⟨z,K,λ H=>b (by rw[Wc H];exact H)⟩
def MI.shift{i:Nat}{r:Tr}{B:Qa Tk}(h:MI P t N Stop none gs w tr V rk rel q)(S:rk i=some r)(I:Qv (V (.run i)) B):MI P t N Stop (some i) gs w tr (Q1 V (.run i) B) rk rel q:=by
 have E:∀j,j≠i->Q1 V (.run i) B (.run j)=V (.run j):=λ j b=>Qh _ _ (by intro e;cases e;exact b rfl)
 have f:∀j,(Q1 V (.run i) B (.run j)).tok=(V (.run j)).tok:=by
  intro j;by_cases e:j=i
  .subst e;rw[Ql];exact I.1
  .rw[E j e]
 have K:∀j,Q1 V (.run i) B (.dep j)=V (.dep j):=λ j=>Qh _ _ S1;obtain⟨Q,T,F⟩:=I.2 w (h.vi.ok (.run i))
 have L:∀k l,(Q1 V (.run i) B k).canW l->(V k).canW l:=by
  intro k l hl;by_cases e:k=.run i
  .subst e;rw[Ql]at hl;exact T l hl
  .rwa [Qh _ _ e]at hl
 have G:∀k l,(Q1 V (.run i) B k).canR l->(V k).canR l:=by
  intro k l hl;by_cases e:k=.run i
  .subst e;rw[Ql]at hl;exact F l hl
  .rwa [Qh _ _ e]at hl
 refine⟨?_,h.root,?_,?_,h.above,?_,?_,?_,?_,?_,h.vi.shift I,h.ti.imp λ _ x=>x.tok f L G,h.grp.turn f K G,h.mux.at (λ j=>by simp only[Q2,f]) (Qh _ _ S1) (λ m hm _ j a ha M F=>hm j a ha M (G _ _ F)) (λ _ _ _ _ _ x=>x) (λ j x s me lo y _ hy H=>⟨y,hy,H⟩),λ j b=>by simp only[Q2,f];exact h.bareM j b⟩
 .intro j r' b hr';have e:j≠i:=λ e=>b (by rw[e]);have:=h.live j r' S1 hr';rw[E j e];exact this
 .intro j g b hg hp;rw[f]at hp;exact h.gone j g b hg hp
 .intro j b hp;rw[f]at hp;simp only[f];exact h.tail j b hp
 .intro j b;have e:j≠i:=λ e=>by subst e;rw[S]at b;cases b
  rw[E j e];exact h.bare j b
 .intro j h0 b;rw[f];exact h.wk j h0 b
 .intro j b;rw[f]at b;exact h.wk' j b
 .intro j b;rw[f];exact h.deaf j b
 .intro j b;rw[K];exact h.deps j b
def JJ(P:Program)(t:TypeId)(N:Nat)(Stop:QI Tk)(gs:Array Gr)(w:World)(sl:Option (Nat×Nat))(tr:Trace)(rk:Nat->Option Tr)(q:Nat->Nat)(i:Nat):Prop:=
 ∃b w' ops V' rk' rel' q',runT P (crowd gs w sl) i=(.next (crowd b w' sl),ops)/\MI P t N Stop none b w' (tr++ops) V' rk' rel' q'/\JB (QD b rk' q') (QD gs rk q)/\WA w.os w'.os/\w'.output=w.output
def Xo(w:K.size=gs.size)(hi:i<gs.size)(h:rk i=some r)(hx:∀f,p=some f->Tr.Sub f r):JB (QD K (Zp rk i p) q') (QD gs rk q):=by
 unfold QD;rw[w];exact JB.cut (pL hi h hx)
def MI.priv(B:∀m g U,Stop m g U->g.status=.running){i:Nat}{g:Gr}{r:Tr}(h:MI P t N Stop (some i) gs w tr V rk rel q)(hi:gs[i]?=some g)(hr:rk i=some r)
  (hp:GH P (λ m g U=>∃r',Tr.Sub r' r/\JR (Za P t N) Stop r' m g U) (i==0) g (V (.run i))):JJ P t N Stop gs w sl tr rk q i:=by
 have ab:=(Array.getElem?_eq_some_iff.1 hi).1;obtain⟨hs,hp⟩:=hp;obtain⟨g',w',es,U',af,S,H,ad,G,r',Z,hJ⟩:=hp w (h.vi.ok (.run i))
 have L:deafBehind (Deaf tr i) es=Deaf tr i:=by
  refine deafBehind_still (λ e Q=>?_) _;obtain⟨Q,_⟩:=S e Q;obtain⟨loc,wr,sy⟩:=e;cases loc with
  |mark m=>have Q:Mark.still m=true:=Q;cases m <;> simp[Mark.still]at Q ⊢
  |_=>simp
 have T:∀j,j≠i->Q1 V (.run i) U' (.run j)=V (.run j):=λ j M=>Qh _ _ (by intro e;cases e;exact M rfl)
 have K:∀j,(Q1 V (.run i) U' (.run j)).tok=(V (.run j)).tok:=by
  intro j;by_cases e:j=i
  .subst e;rw[Ql];exact G
  .rw[T j e]
 have hd:∀j,Q1 V (.run i) U' (.dep j)=V (.dep j):=λ j=>Qh _ _ S1;have Y:rk i≠none:=by rw[hr];simp
 have aa:i=0\/ZL (V (.run i)).tok.ph:=by
  by_cases e:i=0
  .exact .inl e
  .exact .inr (h.wk i e Y)
 have ac:Jv (Q1 V (.run i) U')=Jv V:=by simp only[Jv,Q2,K]
 have F:∀b,(V (.run 0)).tok.ph.blk=some b->b<w.heap.size/\∀j,QJ b (V j):=by
  intro b hb;have E:=h.grp;unfold QH at E
  revert E hb
  cases(V (.run 0)).tok.ph with
  |out=>intro hb;cases hb
  |par b' ds pend k=>
   intro hb;cases hb;rintro⟨h1,W,c,wt,s,h2,_⟩;exact⟨(Array.getElem?_eq_some_iff.1 h2).1,h1⟩
  |_=>intro _ E;exact E.elim
 refine⟨_,w',_,Q1 V (.run i) U',Zp rk i (some r'),rel,q,runT_crowd_go hi af,?_,Xo Jl ab hr λ ag e=>by cases e;exact Z,H.os,H.output⟩;refine h.go B (V':=Q1 V (.run i) U') (rk':=Zp rk i (some r')) (rel':=rel) (q':=q) (es:=es) hi T (λ j M=>Qu _ _ M) (λ _ _=>rfl) (λ _ _=>.inl rfl) ?_ (.inr (.inl (by rw[K]))) ?_ ?_ (λ j M=>by rw[hd];exact h.deps j M) (h.vi.priv H ad) ?_ ?_ ?_ (λ e=>by rw[Qk]at e;cases e)
 .by_cases e:i=0
  .subst e;rw[Qk];simp
  .rw[Qu _ _ (Ne.symm e)];exact h.root
 .intro ag e;rw[Qk]at e;cases e;rw[Ql];refine⟨hJ,?_,λ h0=>?_⟩
  .rw[L,G];exact h.deaf i Y
  .rw[G];exact aa.resolve_left h0
 .intro e;rw[Qk]at e;cases e
 .obtain⟨rm,hti⟩:=h.ti;have:=IW (fn:=g.frame.fn) (pos:=g.frame.place) hti h.vi (λ b hb=>⟨(F b hb).1,(F b hb).2 _⟩) (λ b hb=>⟨(h.mux.mb hb).1,(h.mux.mb hb).2.1 _⟩) S H aa;refine⟨rm,?_⟩;rw[ac];simp only[K];exact this
 .have E:=h.grp;unfold QH at E ⊢;rw[K 0];have hk:Z1 (Q1 V (.run i) U')=Z1 V:=by funext j;simp only[Z1,K]
  revert E
  cases ae:(V (.run 0)).tok.ph with
  |out=>exact λ E=>⟨λ j M=>by rw[K];exact E.1 j M,E.2⟩
  |par b ds pend k=>
   rintro⟨h1,W,c,wt,s,h2,h3,h4⟩;obtain⟨ah,_⟩:=F b (by rw[ae];rfl);refine⟨λ j a ha X f=>?_,W,c,wt,s,h2.guar H (h1 _),?_,?_⟩
   .by_cases e:j=.run i
    .subst e;rw[Ql]at f;rcases H.cr _ f with f|f
     .exact h1 _ a ha X f
     .simp only[Loc.new]at f;omega
    .rw[Qh _ _ e]at f;exact h1 _ a ha X f
   .rw[hk];simpa only[hd]using h3
   .intro g0 hg0 hns;by_cases e:i=0
    .subst e;rw[Wi hi]at hg0;cases hg0;exact absurd (hJ.running B) hns
    .rw[J3 (Ne.symm e)]at hg0;obtain⟨y,hy,rfl⟩:=Option.map_eq_some_iff.1 hg0;refine h4 y hy λ I=>hns ?_;rw[Wc I];exact I
  |_=>exact λ E=>E
 .refine h.mux.step hi (λ _ _ _ _ _=>hJ.running B) (λ j=>by simp only[Q2,K]) (Qh _ _ S1) (λ m hm ai j a ha X f=>?_) (λ m t st sm hm hs=>hs.guar H (hm _));by_cases e:j=.run i
  .subst e;rw[Ql]at f;rcases H.cr _ f with f|f
   .exact hm _ a ha X f
   .simp only[Loc.new]at f;omega
  .rw[Qh _ _ e]at f;exact hm _ a ha X f
def QH.woken(hi:gs[i]?=some g)(f:i=0->g'.status=.running)(h:∀g,gs[0]?=some g->g.status≠.running->N=0) :
  ∀x,(behind P gs i g g' w')[0]?=some x->x.status≠.running->N=0:=by
 intro x hx b;by_cases e:i=0
 .subst e;rw[Wi hi]at hx;cases hx;exact absurd (f rfl) b
 .rw[J3 (Ne.symm e)]at hx;obtain⟨y,hy,rfl⟩:=Option.map_eq_some_iff.1 hx;refine h y hy λ w=>b ?_;rw[Wc w];exact w
def MI.leaver(F:∀m g U,Stop m g U->g.status=.running)(h:MI P t N Stop none gs w tr V rk rel q)(hi:gs[i]?=some g)(f:g.status=.running)(E:rk i=none)(hp:(V (.run i)).tok.ph=.out) :
  JJ P t N Stop gs w sl tr rk q i:=by
 have M:=(Array.getElem?_eq_some_iff.1 hi).1;have B:i≠0:=λ e=>by subst e;exact h.root E
 have H:=h.gone i g E hi hp;cases G:q i with
 |zero=>rw[G]at H;rw[H.1]at f;cases f
 |succ n=>
  rw[G]at H;rcases H with⟨hs,_⟩|⟨_,g',es,hm,Q,H⟩
  .rw[hs]at f;cases f
  have I:stepG P (i==0) g w=.go g' w es:=by
   rw[show(i==0)=false by simpa using B];exact Q w
  have X:MI P t N Stop (some i) gs w tr V rk rel q:={ h with live:=λ j r _ E=>h.live j r S1 E };refine⟨_,w,_,V,rk,rel,Zp q i n,runT_crowd_go hi I,?_,Ix (i:=i) Jl M E (λ j L=>Qu _ _ L) (by rw[Qk,G];omega),.refl _,rfl⟩;refine X.go F (V':=V) (rk':=rk) (rel':=rel) (q':=Zp q i n) (es:=es) hi (λ _ _=>rfl) (λ _ _=>rfl) (λ j L=>Qu _ _ L) (λ _ _=>.inl rfl) h.root (.inl B) (λ r e=>by rw[E]at e;cases e) ?_ h.deps h.vi ?_ ?_ (h.mux.step hi (λ x s me lo e=>absurd e ?_) (λ _=>rfl) rfl (λ _ hm _=>hm) λ _ _ _ _ _ x=>x) (h.bareM i)
  .intro _;obtain⟨S,T⟩:=h.bare i E;have hw:¬ZL (V (.run i)).tok.ph:=by rw[hp];rintro⟨b,D,e⟩;cases e
   refine⟨B,S,T,hw,.inl ⟨hp,?_⟩⟩;rw[Qk];exact H
  .exact h.ti.imp λ _ x=>x.dumb λ e he=>Pj (hm e he)
  .have K:=h.grp;unfold QH at K ⊢
   revert K
   cases(V (.run 0)).tok.ph with
   |par b ds pend k=>exact λ⟨h1,W,c,wt,s,h2,Y,Z⟩=>⟨h1,W,c,wt,s,h2,Y,QH.woken hi (λ e=>absurd e B) Z⟩
   |_=>exact λ K=>K
  .rw[h.bareM i E];simp
def MI.parent(G:∀m g U,Stop m g U->g.status=.running){d':Nat}{c' S:Nat}{mu:Option ZO}
  (h:MI P t N Stop (some 0) gs w tr V rk rel q) (hi:gs[0]?=some g) (L:rk 0=some r) (E:(V (.run 0)).tok=⟨d,.par b ds pend k,mu⟩)
  (I:∀j,QJ b (V j)) (F:Sh b t (Q0 c wt) (Qp lo) w)
  (al:Qc P t true g (Q0 c wt) (Qp lo)=.go g' (Q0 c' wt') (Qp S) es bs) (af:Z5 b bs) (ag:∀e∈es,Yo b true e) (hd:deafBehind d es=d')
  (ah:GI N b B v k' (Z1 V) rel (λ i=>(V (.dep i)).M) W c' wt' S) (Z:Tr.Sub r' r) (hJ:JR (Za P t N) Stop r' true g' ((V (.run 0)).at d' (.par b B v k'))) :
  JJ P t N Stop gs w sl tr rk q 0:=by
 have ai:=(Array.getElem?_eq_some_iff.1 hi).1;have K:=hJ.running G;have Y:stepG P (0==0) g w=.go g' (two w b t (Q0 c' wt') (Qp S)) es:=H6 al F af;have H:∀j,j≠0->Q1 V (.run 0) ((V (.run 0)).at d' (.par b B v k')) (.run j)=V (.run j):=λ j X=>Qh _ _ (by intro e;cases e;exact X rfl);have T:∀j,Q1 V (.run 0) ((V (.run 0)).at d' (.par b B v k')) (.dep j)=V (.dep j):=λ j=>Qh _ _ S1
 have Q:∀j,(Q1 V (.run 0) ((V (.run 0)).at d' (.par b B v k')) j).canW=(V j).canW/\(Q1 V (.run 0) ((V (.run 0)).at d' (.par b B v k')) j).canR=(V j).canR:=by
  intro j;by_cases e:j=.run 0
  .subst e;rw[Ql];exact⟨rfl,rfl⟩
  .rw[Qh _ _ e];exact⟨rfl,rfl⟩
 have ae:b<w.heap.size:=(Array.getElem?_eq_some_iff.1 F).1;refine⟨_,_,_,Q1 V (.run 0) ((V (.run 0)).at d' (.par b B v k')),Zp rk 0 (some r'),rel,q,runT_crowd_go hi Y,?_,Xo Jl ai L λ an e=>by cases e;exact Z,.refl _,rfl⟩;refine h.go G (rel':=rel) (q':=q) (es:=es) hi H (λ j X=>Qu _ _ X) (λ _ _=>rfl) (λ _ _=>.inl rfl) (by rw[Qk];simp) (.inr (.inl (by rw[Ql,E];rfl))) ?_ ?_ (λ j X=>by rw[T];exact h.deps j X) ?_ ?_ ?_ ?_ (λ e=>by rw[Qk]at e;cases e)
 .intro an e;rw[Qk]at e;cases e;rw[Ql];refine⟨hJ,?_,λ h0=>absurd rfl h0⟩;rw[h.deaf 0 h.root,E,hd];rfl
 .intro e;rw[Qk]at e;cases e
 .refine⟨λ j=>?_,λ aa ab l hn hw L=>h.vi.sep aa ab l hn (by rw[<- (Q aa).1];exact hw) (by rw[<- (Q ab).2];exact L)⟩;have hv:=(h.vi.two (st':=Q0 c' wt') (sm':=Qp S) F I).ok;by_cases e:j=.run 0
  .subst e;rw[Ql];exact⟨(hv (.run 0)).imm,(hv (.run 0)).held,(hv (.run 0)).apart,(hv (.run 0)).sep⟩
  .rw[Qh _ _ e];exact hv j
 .obtain⟨rm,hti⟩:=h.ti;rw[E]at hti;have:=LJ (i:=0) (fn:=g.frame.fn) (pos:=g.frame.place) hti ae I (.inl rfl) ag (h.mux.mb_ne F) (.inl rfl);refine⟨rm,?_⟩;have aj:Jv (Q1 V (.run 0) ((V (.run 0)).at d' (.par b B v k')))=Jv V:=by simp only[Jv,Q2,Ql];rfl
  rw[aj];have e1:(Q1 V (.run 0) ((V (.run 0)).at d' (.par b B v k')) (.run 0)).tok.ph.blk=some b:=by rw[Ql];rfl
  have e2:∀j,j=0\/(Q1 V (.run 0) ((V (.run 0)).at d' (.par b B v k')) (.run j)).tok.ph≠.out↔j=0\/(V (.run j)).tok.ph≠.out:=by
   intro j;by_cases e:j=0
   .simp[e]
   .rw[H j e]
  have e3:∀j,ZL (Q1 V (.run 0) ((V (.run 0)).at d' (.par b B v k')) (.run j)).tok.ph↔ZL (V (.run j)).tok.ph:=by
   intro j;by_cases e:j=0
   .subst e;rw[Ql,E];constructor
    .rintro⟨b,D,e⟩;cases e
    .rintro⟨b,D,e⟩;cases e
   .rw[H j e]
  rw[e1];have ac:=funext λ j=>propext (e2 j);have ad:=funext λ j=>propext (e3 j);rw[ac,ad];have am:(two w b t (Q0 c' wt') (Qp S)).heap.size=w.heap.size:=by simp[two]
  rw[am];exact this.turn (λ k l hl=>by rw[<- (Q k).1];exact hl) (λ k l hl=>by rw[<- (Q k).2];exact hl) (λ _ x=>x)
 .unfold QH;rw[Ql]
  have hk:Z1 (Q1 V (.run 0) ((V (.run 0)).at d' (.par b B v k')))=Z1 V:=by
   funext j;by_cases e:j=0
   .simp[Z1,e]
   .simp only[Z1,if_neg e,H j e]
  refine⟨λ j a ha ho L=>I j a ha ho (by rw[<- (Q j).2];exact L),W,c',wt',S,F.two,?_,λ x hx ak=>?_⟩
  .rw[hk];simpa only[T]using ah
  .rw[Wi hi]at hx;cases hx;exact absurd K ak
 .refine h.mux.step hi (λ _ _ _ _ _=>K) (λ j=>?_) (Qh _ _ S1) (λ m hm _ j a ha ho L=>hm j a ha ho (by rw[<- (Q j).2];exact L)) (λ m t st sm _ hs=>hs.two_other (F.ne hs));by_cases e:j=0
  .subst e;simp only[Q2,Ql];rfl
  .simp only[Q2,H j e]
def MI.par(h:MI P t N Stop none gs w tr V rk rel q){b:Nat}(hb:(V (.run 0)).tok.ph.blk=some b) :
  ∃ds pend k,(V (.run 0)).tok.ph=.par b ds pend k/\(∀j,QJ b (V j))/\∃W c wt s,Sh b t (Q0 c wt) (Qp s) w/\GI N b ds pend k (Z1 V) rel (λ i=>(V (.dep i)).M) W c wt s/\(∀g,gs[0]?=some g->g.status≠.running->s=0):=by
 have f:=h.grp;unfold QH at f
 revert f hb
 cases B:(V (.run 0)).tok.ph with
 |out=>intro hb;cases hb
 |par E ds pend k=>
  intro hb f;cases hb;exact⟨ds,pend,k,rfl,f⟩
 |_=>intro _ f;exact f.elim
def MI.tailGo(H:∀m g U,Stop m g U->g.status=.running){s c' Q:Nat}
  (h:MI P t N Stop none gs w tr V rk rel q) (hi:gs[i]?=some g) (f:i≠0) (F:rk i=none) (aa:(V (.run i)).tok.ph≠.out) (L:(V (.run 0)).tok.ph=.par b ds pend k)
  (I:∀j,QJ b (V j)) (G:Sh b t (Q0 c wt) (Qp s) w) (ae:∀g,gs[0]?=some g->g.status≠.running->s=0)
  (ao:Qc P t false g (Q0 c wt) (Qp s)=.go g' (Q0 c' wt') (Qp Q) es bs) (ag:Z5 b bs) (ah:∀e∈es,Yo b false e) (an:∀j,tr.size<=j->¬(tr++MemOp.ofEvents i g.frame.fn g.frame.place es).counts j)
  (ai:GI N b ds pend k (Zp (Z1 V) i p') rel (λ i=>(V (.dep i)).M) W c' wt' Q) (aq:Q=s\/(mayWake P g=true/\(g'.status=.running\/g'.status=.finished)))
  (hq:q i=d+1) (Z:¬ZL p')
  (hk:(p'=.out/\QuitsD P d (deafBehind (Deaf tr i) es) g')\/(p'≠.out/\Tl P t N b d (deafBehind (Deaf tr i) es) p' g')):JJ P t N Stop gs w sl tr rk q i:=by
 have ak:=(Array.getElem?_eq_some_iff.1 hi).1
 have ac:stepG P (i==0) g w=.go g' (two w b t (Q0 c' wt') (Qp Q)) es:=by
  rw[show(i==0)=false by simpa using f];exact H6 ao G ag
 have h':MI P t N Stop (some i) gs w tr V rk rel q:={ h with live:=λ j r _ F=>h.live j r S1 F };have B:∀j,j≠i->Q1 V (.run i) (Qa.bare ⟨1,p',none⟩) (.run j)=V (.run j):=λ j K=>Qh _ _ (by intro e;cases e;exact K rfl);have T:∀j,Q1 V (.run i) (Qa.bare ⟨1,p',none⟩) (.dep j)=V (.dep j):=λ j=>Qh _ _ S1
 have hW:∀k l,(Q1 V (.run i) (Qa.bare ⟨1,p',none⟩) k).canW l->(V k).canW l:=by
  intro k l hl;by_cases e:k=.run i
  .subst e;rw[Ql]at hl;exact absurd hl (Wh _ _)
  .rwa [Qh _ _ e]at hl
 have hR:∀k l,(Q1 V (.run i) (Qa.bare ⟨1,p',none⟩) k).canR l->(V k).canR l:=by
  intro k l hl;by_cases e:k=.run i
  .subst e;rw[Ql]at hl;exact absurd hl (Wg _ _)
  .rwa [Qh _ _ e]at hl
 have af:b<w.heap.size:=(Array.getElem?_eq_some_iff.1 G).1;refine⟨_,_,_,Q1 V (.run i) (Qa.bare ⟨1,p',none⟩),rk,rel,Zp q i d,runT_crowd_go hi ac,?_,Ix (i:=i) Jl ak F (λ j K=>Qu _ _ K) (by rw[Qk,hq];omega),.refl _,rfl⟩;refine h'.go H (rel':=rel) (q':=Zp q i d) (es:=es) hi B (λ _ _=>rfl) (λ j K=>Qu _ _ K) (λ _ _=>.inl rfl) h.root (.inl f) (λ r e=>by rw[F]at e;cases e) ?_ (λ j K=>by rw[T];exact h.deps j K) ?_ ?_ ?_ ?_ (λ _=>by unfold Q2;rw[Ql];rfl)
 .intro _;rw[Ql,Qk];refine⟨f,rfl,rfl,Z,?_⟩;rcases hk with⟨h1,h2⟩|⟨h1,h2⟩
  .exact .inl ⟨h1,h2⟩
  .exact .inr ⟨h1,b,by rw[L];rfl,h2⟩
 .have hv:=h.vi.two (st':=Q0 c' wt') (sm':=Qp Q) G I;refine⟨λ j=>?_,λ au av l hn hw F=>hv.sep au av l hn (hW _ _ hw) (hR _ _ F)⟩;by_cases e:j=.run i
  .subst e;rw[Ql];exact Y7 _ _
  .rw[Qh _ _ e];exact hv.ok j
 .obtain⟨rm,hti⟩:=h.ti;rw[L]at hti;have:=LJ (i:=i) (fn:=g.frame.fn) (pos:=g.frame.place) hti af I (.inr aa) (by rw[show(i==0)=false by simpa using f];exact ah) (h.mux.mb_ne G) (.inr (.inr an));refine⟨rm,?_⟩;have al:Jv (Q1 V (.run i) (Qa.bare ⟨1,p',none⟩))=Jv V:=by simp only[Jv,Q2,B 0 (Ne.symm f)]
  rw[al];have ap:(two w b t (Q0 c' wt') (Qp Q)).heap.size=w.heap.size:=by simp[two]
  rw[ap,B 0 (Ne.symm f),L]
  have e3:(λ j=>ZL (Q1 V (.run i) (Qa.bare ⟨1,p',none⟩) (.run j)).tok.ph)=λ j=>ZL (V (.run j)).tok.ph:=by
   funext j;by_cases e:j=i
   .subst e;rw[Ql];refine propext ⟨λ x=>absurd x Z,λ x=>absurd F (h.wk' j x)⟩
   .rw[B j e]
  rw[e3];refine this.turn hW hR ?_;rintro j (rfl|K)
  .exact .inl rfl
  .by_cases e:j=i
   .subst e;exact .inr aa
   .rw[B j e]at K;exact .inr K
 .unfold QH;rw[B 0 (Ne.symm f),L]
  have aj:Z1 (Q1 V (.run i) (Qa.bare ⟨1,p',none⟩))=Zp (Z1 V) i p':=by
   funext j;by_cases e:j=i
   .subst e;simp only[Z1,if_neg f,Ql,Qk];rfl
   .rw[Qu _ _ e];by_cases e0:j=0
    .simp[Z1,e0]
    .simp only[Z1,if_neg e0,B j e]
  refine⟨λ j a ha Y F=>I j a ha Y (hR _ _ F),W,c',wt',Q,G.two,?_,?_⟩
  .rw[aj];simpa only[T]using ai
  .rcases aq with rfl|⟨am,ad⟩
   .exact QH.woken hi (λ e=>absurd e f) ae
   .intro x hx hns;exfalso;obtain⟨aw,ab⟩:=Option.ne_none_iff_exists'.1 h.root;obtain⟨S,hJ,X⟩:=h.live 0 aw S1 ab;have E:=hJ.running H;rw[J3 (Ne.symm f)]at hx;rcases X with X|⟨X,Y,_⟩
    .rw[X,Option.map_some,Wc E]at hx;cases hx;exact hns E
    .rw[X,Option.map_some]at hx
     have:woken P g g' (two w b t (Q0 c' wt') (Qp Q)) { S with status:=.blocked }=S:=by
      unfold woken;rw[if_pos,again_blocked E Y];rcases ad with e|e <;> rw[e,am] <;> rfl
     rw[this]at hx;cases hx;exact hns E
 .refine h.mux.step hi (λ x s me lo e=>?_) (λ j=>?_) (Qh _ _ S1) (λ m hm _ j a ha Y F=>hm j a ha Y (hR _ _ F)) (λ m t st sm _ hs=>hs.two_other (G.ne hs))
  .rw[h.bareM i F]at e;cases e
  .by_cases e:j=i
   .subst e;rw[h.bareM j F];unfold Q2;rw[Ql];rfl
   .unfold Q2;rw[B j e]
def MI.tailStep(B:∀m g U,Stop m g U->g.status=.running)(h:MI P t N Stop none gs w tr V rk rel q)(hi:gs[i]?=some g)(hr:rk i=none)(hp:(V (.run i)).tok.ph≠.out) :
  JJ P t N Stop gs w sl tr rk q i:=by
 have Q:i≠0:=λ e=>by subst e;exact h.root hr
 obtain⟨ag,b,hg,hb,ht⟩:=h.tail i hr hp;rw[hi]at hg;cases hg;obtain⟨ds,pend,k,Y,I,W,c,wt,s,Z,H,X⟩:=h.par hb;have f:Z1 V i=(V (.run i)).tok.ph:=by simp[Z1,Q]
 cases M:q i with
 |zero=>rw[M]at ht;exact ht.elim
 |succ n=>
  rw[M]at ht;obtain⟨af,ht⟩:=ht;have K:∀(es:Array Event),Deaf tr i=1->∀j,(deafBehind 1 (es.extract 0 j)≠0)->deafBehind (Deaf tr i) (es.extract 0 j)≠0:=λ es e j hj=>by rw[e];exact hj
  rcases ht with⟨g',es,bs,hm,G,F,T⟩|⟨S,hd,F⟩|⟨S,hd,g',bs,G,F,T⟩|⟨S,hd,g',bs,G,F,T⟩|⟨S,hd,ad,g',bs,G,F,T⟩
  .have hup:Zp (Z1 V) i (V (.run i)).tok.ph=Z1 V:=by funext j;by_cases e:j=i <;> simp[Zp,e,f]
   refine h.tailGo B (p':=(V (.run i)).tok.ph) hi Q hr hp Y I Z X (F _ _) G (λ e E=>.inl (hm e E)) ?_ (by rw[hup];exact H) (.inl rfl) M (λ x=>absurd hr (h.wk' i x)) (.inr ⟨hp,T⟩);intro j hj hc;obtain⟨x,hx,_⟩:=hc;rcases Ji (t:=tr) hx with⟨ah,_⟩|⟨_,op,ae,ac,_⟩
   .omega
   .obtain⟨e,he',rfl⟩:=Go.Conc.mem_ofEvents ae;rw[(Pj (hm e he')).1]at ac;cases ac
  .rw[S]at f;obtain⟨h1,h2,h3,rfl⟩:=H.relC f;obtain⟨g',bs,G,F,T⟩:=F c wt h1 h2 h3
   have L:=K5 (tr:=tr) (i:=i) (fn:=g.frame.fn) (pos:=g.frame.place) (b:=b) (es:=#[Jc b 0,QA b 0]) (by intro e E;simp at E;rcases E with rfl|rfl <;> exact .inr ⟨_,_,rfl⟩) (by
    intro j hj;refine K _ hd j ?_;have:j=0\/j=1:=by simp at hj;omega
    rcases this with rfl|rfl <;> simp[deafBehind,Jc,QA])
   have aa:∀e∈(#[Jc b 0,QA b 0]:Array Event),Yo b false e:=by
    intro e E;simp at E;rcases E with rfl|rfl <;> exact .inr (.inl ⟨0,_,O1,rfl⟩)
   by_cases hl:c=1/\wt=1
   .rw[if_pos hl]at T;obtain⟨rfl,rfl⟩:=hl;obtain⟨rfl,ab⟩:=H.last f;exact h.tailGo B (p':=.lst b 0) hi Q hr hp Y I Z X F G aa L ab (.inl rfl) M (by rintro⟨_,_,e⟩;cases e) (.inr ⟨S1,by rw[hd];exact T⟩)
   .rw[if_neg hl]at T;exact h.tailGo B (p':=.out) hi Q hr hp Y I Z X F G aa L (H.leave f hl) (.inl rfl) M (by rintro⟨_,_,e⟩;cases e) (.inl ⟨rfl,by rw[hd];exact T⟩)
  .rw[S]at f;obtain⟨rfl,rfl,rfl,h4,_⟩:=H.lstAt f;obtain rfl:wt=1:=O1
   have L:=K5 (tr:=tr) (i:=i) (fn:=g.frame.fn) (pos:=g.frame.place) (b:=b) (es:=#[Jc b 0]) (by intro e E;simp at E;subst E;exact .inr ⟨_,_,rfl⟩) (by
    intro j hj;refine K _ hd j ?_;have:j=0:=by simp at hj;omega
    subst this;simp[deafBehind])
   exact h.tailGo B (p':=.lst b 1) hi Q hr hp Y I Z X F G (by intro e E;simp at E;subst E;exact .inr (.inl ⟨0,_,O1,rfl⟩)) L (H.next (wt':=1) f (.inl ⟨rfl,rfl⟩)) (.inl rfl) M (by rintro⟨_,_,e⟩;cases e) (.inr ⟨S1,by rw[hd];exact T⟩)
  .rw[S]at f;obtain⟨rfl,rfl,rfl,h4,_⟩:=H.lstAt f;obtain rfl:wt=1:=O1
   have L:=K5 (tr:=tr) (i:=i) (fn:=g.frame.fn) (pos:=g.frame.place) (b:=b) (es:=#[QA b 0]) (by intro e E;simp at E;subst E;exact .inr ⟨_,_,rfl⟩) (by
    intro j hj;refine K _ hd j ?_;have:j=0:=by simp at hj;omega
    subst this;simp[deafBehind])
   exact h.tailGo B (p':=.lst b 2) hi Q hr hp Y I Z X F G (by intro e E;simp at E;subst E;exact .inr (.inl ⟨0,_,O1,rfl⟩)) L (H.next (wt':=0) f (.inr ⟨rfl,rfl⟩)) (.inl rfl) M (by rintro⟨_,_,e⟩;cases e) (.inr ⟨S1,by rw[hd];exact T⟩)
  .rw[S]at f;obtain⟨rfl,rfl,rfl,h4,_⟩:=H.lstAt f;obtain rfl:wt=0:=O1
   have L:=K5 (tr:=tr) (i:=i) (fn:=g.frame.fn) (pos:=g.frame.place) (b:=b) (es:=#[Z0 .disable,Jc b 1,QA b 1,Z0 .enable]) (by intro e E;simp at E;rcases E with rfl|rfl|rfl|rfl <;> first|exact .inl rfl|exact .inr ⟨_,_,rfl⟩) (by
    intro j hj;refine K _ hd j ?_;have:j=0\/j=1\/j=2\/j=3:=by simp at hj;omega
    rcases this with rfl|rfl|rfl|rfl <;> simp[deafBehind,Jc,QA,Z0])
   exact h.tailGo B (p':=.out) hi Q hr hp Y I Z X F G (by intro e E;simp at E;rcases E with rfl|rfl|rfl|rfl <;> first|exact .inl rfl|exact .inr (.inl ⟨1,_,O1,rfl⟩)) L (H.wake f) (.inr ⟨ad,T.status⟩) M (by rintro⟨_,_,e⟩;cases e) (.inl ⟨rfl,by rw[hd];exact T⟩)
def MI.par'(h:MI P t N Stop ex gs w tr V rk rel q)(hb:(V (.run 0)).tok.ph.blk=some b) :
  ∃ds pend k,(V (.run 0)).tok.ph=.par b ds pend k/\(∀j,QJ b (V j))/\∃W c wt s,Sh b t (Q0 c wt) (Qp s) w/\GI N b ds pend k (Z1 V) rel (λ i=>(V (.dep i)).M) W c wt s/\(∀g,gs[0]?=some g->g.status≠.running->s=0):=by
 have f:=h.grp;unfold QH at f
 revert f hb
 cases B:(V (.run 0)).tok.ph with
 |out=>intro hb;cases hb
 |par E ds pend k=>intro hb f;cases hb;exact⟨ds,pend,k,rfl,f⟩
 |_=>intro _ f;exact f.elim
def BG(hi:gs[i]?=some g)(hb:g'.status=.blocked):behind P gs i g g' w=gs.setIfInBounds i g':=by
 have b:=(Array.getElem?_eq_some_iff.1 hi).1;apply Array.ext_getElem?;intro j;by_cases e:j=i
 .subst e;rw[Wi hi];simp[b]
 .rw[J3 e,Array.getElem?_setIfInBounds_ne (Ne.symm e)];cases hx:gs[j]? with
  |none=>rfl
  |some x=>
   simp only[Option.map_some];unfold woken;simp[hb]
def MI.sleep(h:MI P t N Stop (some i) gs w tr V rk rel q)(hi:gs[i]?=some g)(H:g.status=.running)(T:g.offers=none)
  (M:rk i=some r) (K:Uz i (V (.run i)).tok) (I:stepG P (i==0) g w=.go { g with status:=.blocked } w #[]) (S:JR (Za P t N) Stop r (i==0) g (V (.run i)))
  (B:QH t N (gs.setIfInBounds i { g with status:=.blocked }) w V rel) (F:JI (gs.setIfInBounds i { g with status:=.blocked }) w V):JJ P t N Stop gs w sl tr rk q i:=by
 have L:=(Array.getElem?_eq_some_iff.1 hi).1;have G:rk i≠none:=by rw[M];simp
 have E:behind P gs i g { g with status:=.blocked } w=gs.setIfInBounds i { g with status:=.blocked }:=BG hi rfl;refine⟨_,_,_,V,rk,rel,q,runT_crowd_go hi I,?_,?_,.refl _,rfl⟩
 .have e1:tr++MemOp.ofEvents i g.frame.fn g.frame.place #[]=tr:=by rw[ofEvents_eq];simp
  show MI P t N Stop none (behind P gs i g { g with status:=.blocked } w) w _ V rk rel q;rw[E,e1];have f:∀j,j≠i->(gs.setIfInBounds i { g with status:=.blocked })[j]?=gs[j]?:=λ j b=>Array.getElem?_setIfInBounds_ne (Ne.symm b);refine⟨?_,h.root,?_,?_,?_,h.bare,h.wk,h.wk',h.deaf,h.deps,h.vi,h.ti,B,F,h.bareM⟩
  .intro j r'' _ hr'';by_cases e:j=i
   .subst e;rw[M]at hr'';cases hr'';exact⟨g,S,.inr ⟨by simp[L],T,K⟩⟩
   .obtain⟨g_1,h1,h2⟩:=h.live j r'' (λ e'=>e (Option.some.inj e').symm) hr'';refine⟨g_1,h1,?_⟩;rw[f j e];exact h2
  .intro j x b hx hp;have e:j≠i:=λ e=>by subst e;exact G b
   rw[f j e]at hx;exact h.gone j x b hx hp
  .intro j b hp;have e:j≠i:=λ e=>by subst e;exact G b
   obtain⟨x,Q,h1,h2⟩:=h.tail j b hp;exact⟨x,Q,by rw[f j e];exact h1,h2⟩
  .intro j b;exact h.above j (by simpa using b)
 .show JB (QD (behind P gs i g { g with status:=.blocked } w) rk q) (QD gs rk q);rw[E];exact ju hi H rfl
def JI.sleep(h:JI gs w V)(hi:gs[i]?=some g)(B:∀x s me lo,Q2 V i≠some (.lok x s me lo)):JI (gs.setIfInBounds i g') w V:=by
 refine h.at (λ _=>rfl) rfl (λ _ hm _=>hm) (λ _ _ _ _ _ x=>x) λ j x s me lo y e hy b=>?_;have f:j≠i:=λ e'=>by subst e';exact B _ _ _ _ e
 rw[Array.getElem?_setIfInBounds_ne (Ne.symm f)]at hy;exact⟨y,hy,b⟩
def MI.block{mu:Option ZO}(h:MI P t N Stop (some 0) gs w tr V rk rel q)(hi:gs[0]?=some g)(F:g.status=.running)(Q:g.offers=none)
  (S:rk 0=some r) (f:(V (.run 0)).tok=⟨1,.par b ds false .wait,mu⟩) (E:∀j,QJ b (V j))   (B:Sh b t (Q0 c wt) (Qp 0) w) (I:GI N b ds false .wait (Z1 V) rel (λ i=>(V (.dep i)).M) W c wt 0)
  (K:Qc P t true g (Q0 c wt) (Qp 0)=.blocked { g with status:=.blocked } (Q0 c wt) (Qp 0) bs) (H:Z5 b bs) (L:JR (Za P t N) Stop r true g (V (.run 0))):JJ P t N Stop gs w sl tr rk q 0:=by
 have G:stepG P (0==0) g w=.go { g with status:=.blocked } w #[]:=by
  have:=E8 K B H
  rwa [B.two_same]at this
 refine h.sleep hi F Q S (.inl ⟨rfl,b,ds,mu,f⟩) G L ?_ (h.mux.sleep hi λ x s me lo e=>?_)
 .unfold QH;rw[f];exact⟨E,W,c,wt,0,B,I,λ _ _ _=>rfl⟩
 .have h3:=h.mux.2.2;rw[e]at h3;exact h3.elim
def MI.calm(F:∀m g U,Stop m g U->g.status=.running)(h:MI P t N Stop (some i) gs w tr V rk rel q)(hi:gs[i]?=some g)(hr:rk i=some r)(f:i≠0)(hb:(V (.run i)).tok.ph.blk=some b)
  (ab:∀st sm,Qc P t false g st sm=.go g' st sm #[] bs) (Z:Z5 b bs) (Q:Tr.Sub T r) (hJ:JR (Za P t N) Stop T false g' (V (.run i))):JJ P t N Stop gs w sl tr rk q i:=by
 have aa:=(Array.getElem?_eq_some_iff.1 hi).1;have L:rk i≠none:=by rw[hr];simp
 have G:=h.wk i f L;have S:Z1 V i=(V (.run i)).tok.ph:=by simp[Z1,f]
 have E:=h.grp;unfold QH at E;cases B:(V (.run 0)).tok.ph with
 |out=>rw[B]at E;have:=E.1 i f;rw[this]at G;obtain⟨_,_,e⟩:=G;cases e
 |wrk _ _=>rw[B]at E;exact E.elim
 |rel _=>rw[B]at E;exact E.elim
 |lst _ _=>rw[B]at E;exact E.elim
 |par b' ds pend k=>
  rw[B]at E;obtain⟨K,W,c,wt,s,H,I,X⟩:=E
  have Y:b'=b:=by
   obtain⟨ad,D,e⟩:=G;rw[e]at hb;cases hb;rw[e]at S;rcases I.ph i with e'|⟨D',e'⟩|e'|⟨j,e'⟩ <;> rw[S]at e' <;> cases e';rfl
  subst Y
  have M:stepG P (i==0) g w=.go g' w #[]:=by
   rw[show(i==0)=false by simpa using f];have:=H6 (ab (Q0 c wt) (Qp s)) H Z
   rwa [H.two_same]at this
  refine⟨_,_,_,V,Zp rk i (some T),rel,q,runT_crowd_go hi M,?_,Xo Jl aa hr λ ac e=>by cases e;exact Q,.refl _,rfl⟩;refine h.go F (V':=V) (rk':=Zp rk i (some T)) (rel':=rel) (q':=q) (es:=#[]) hi (λ _ _=>rfl) (λ j hj=>Qu _ _ hj) (λ _ _=>rfl) (λ _ _=>.inl rfl) (by rw[Qu _ _ (Ne.symm f)];exact h.root) (.inl f) ?_ ?_ h.deps h.vi ?_ ?_ (h.mux.step hi (λ _ _ _ _ _=>hJ.running F) (λ _=>rfl) rfl (λ _ hm _=>hm) λ _ _ _ _ _ x=>x) (λ e=>by rw[Qk]at e;cases e)
  .intro ac e;rw[Qk]at e;cases e;refine⟨by rw[show(i==0)=false by simpa using f];exact hJ,?_,λ _=>G⟩;rw[deafBehind_nil];exact h.deaf i L
  .intro e;rw[Qk]at e;cases e
  .exact h.ti.imp λ _ x=>x.dumb λ e he=>by simp at he
  .unfold QH;rw[B];exact⟨K,W,c,wt,s,H,I,QH.woken hi (λ e=>absurd e f) X⟩
def MI.lay(Z:∀m g U,Stop m g U->g.status=.running)(h:MI P t N Stop (some i) gs w tr V rk rel q)(hi:gs[i]?=some g)(hr:rk i=some r)(f:i≠0)
  {mu:Option ZO} (H:(V (.run i)).tok=⟨0,.wrk b D,mu⟩) (au:mu=none\/∃x s lo,mu=some (.lok x s .fin lo)) (hD:D (V (.run i)).M) (ax:∀st sm,Qc P t false g st sm=.go g' st sm #[Z0 (.releaseMerge ⟨b,0,none⟩)] bs) (an:Z5 b bs) (hT:Tl P t N b d 0 (.rel b) g'):JJ P t N Stop gs w sl tr rk q i:=by
 have ap:=(Array.getElem?_eq_some_iff.1 hi).1;have aw:rk i≠none:=by rw[hr];simp
 have ai:Z1 V i=.wrk b D:=by simp[Z1,f,H]
 have ad:Deaf tr i=0:=by rw[h.deaf i aw,H]
 have Q:=h.grp;unfold QH at Q;cases G:(V (.run 0)).tok.ph with
 |out=>rw[G]at Q;have:=Q.1 i f;rw[H]at this;cases this
 |wrk _ _=>rw[G]at Q;exact Q.elim
 |rel _=>rw[G]at Q;exact Q.elim
 |lst _ _=>rw[G]at Q;exact Q.elim
 |par I ds pend k=>
  rw[G]at Q;obtain⟨Y,W,c,wt,s,T,ae,ak⟩:=Q
  have al:I=b:=by
   rcases ae.ph i with e'|⟨D',e'⟩|e'|⟨j,e'⟩ <;> rw[ai]at e' <;> cases e';rfl
  subst al
  have ah:stepG P (i==0) g w=.go g' w #[Z0 (.releaseMerge ⟨I,0,none⟩)]:=by
   rw[show(i==0)=false by simpa using f];have:=H6 (ax (Q0 c wt) (Qp s)) T an
   rwa [T.two_same]at this
  obtain⟨af,ag⟩:=ae.rel_ (r:=tr.size) ai hD;have am:I<w.heap.size:=(Array.getElem?_eq_some_iff.1 T).1
  let E:=Q1 (Q1 V (.run i) (Qa.bare ⟨0,.rel I,none⟩)) (.dep i) ⟨λ _=>none,(V (.run i)).M,⟨0,.out,none⟩⟩
  have v1:E (.run i)=Qa.bare ⟨0,.rel I,none⟩:=by show Q1 _ _ _ _=_;rw[Qh _ _ S1,Ql]
  have S:∀j,j≠i->E (.run j)=V (.run j):=λ j B=>by show Q1 _ _ _ _=_;rw[Qh _ _ S1,Qh _ _ (by intro e;cases e;exact B rfl)]
  have v3:E (.dep i)=⟨λ _=>none,(V (.run i)).M,⟨0,.out,none⟩⟩:=Ql ..;have v4:∀j,j≠i->E (.dep j)=V (.dep j):=λ j B=>by show Q1 _ _ _ _=_;rw[Qh _ _ (by intro e;cases e;exact B rfl),Qh _ _ S1]
  have v5:E .lck=V .lck:=by show Q1 _ _ _ _=_;rw[Qh _ _ S1,Qh _ _ S1]
  have aa:=gT (V (.run i)) (⟨0,.rel I,none⟩:Tk) ⟨0,.out,none⟩;have ay:VI E w:=h.vi.fork aa S1
  have hW:∀k l,(E k).canW l->(V k).canW l/\k≠.dep i\/(k=.dep i/\(V (.run i)).canW l):=by
   intro k l hl;cases k with
   |run j=>
    by_cases e:j=i
    .subst e;rw[v1]at hl;exact absurd hl (Wh _ _)
    .rw[S j e]at hl;exact .inl ⟨hl,S1⟩
   |dep j=>
    by_cases e:j=i
    .subst e;rw[v3]at hl;exact .inr ⟨rfl,aa.wc l hl⟩
    .rw[v4 j e]at hl;exact .inl ⟨hl,by intro e';cases e';exact e rfl⟩
   |lck=>rw[v5]at hl;exact .inl ⟨hl,S1⟩
  have hR:∀k l,(E k).canR l->(V k).canR l/\k≠.dep i\/(k=.dep i/\(V (.run i)).canR l):=by
   intro k l hl;cases k with
   |run j=>
    by_cases e:j=i
    .subst e;rw[v1]at hl;exact absurd hl (Wg _ _)
    .rw[S j e]at hl;exact .inl ⟨hl,S1⟩
   |dep j=>
    by_cases e:j=i
    .subst e;rw[v3]at hl;exact .inr ⟨rfl,aa.rc l hl⟩
    .rw[v4 j e]at hl;exact .inl ⟨hl,by intro e';cases e';exact e rfl⟩
   |lck=>rw[v5]at hl;exact .inl ⟨hl,S1⟩
  refine⟨_,_,_,E,Zp rk i none,Zp rel i (some tr.size),Zp q i d,runT_crowd_go hi ah,?_,Xo Jl ap hr λ a1 e=>(by cases e),.refl _,rfl⟩
  have e0:MemOp.ofEvents i g.frame.fn g.frame.place #[Z0 (.releaseMerge ⟨I,0,none⟩)]=#[{ g:=i,fn:=g.frame.fn,pos:=g.frame.place,act:=.mark (.releaseMerge ⟨I,0,none⟩) }]:=by
   rw[ofEvents_eq];simp[Z0,MemAct.ofEvent]
  refine h.go Z (V':=E) (rk':=Zp rk i none) (rel':=Zp rel i (some tr.size)) (q':=Zp q i d) (es:=#[Z0 (.releaseMerge ⟨I,0,none⟩)]) hi S (λ j B=>Qu _ _ B) (λ j B=>Qu _ _ B) (λ j B=>.inl (Qu _ _ B)) (by rw[Qu _ _ (Ne.symm f)];exact h.root) (.inl f) ?_ ?_ ?_ ay ?_ ?_ ?_ (λ _=>by unfold Q2;rw[v1];rfl)
  .intro a1 e;rw[Qk]at e;cases e
  .intro _;rw[v1,Qk,ad];refine⟨f,rfl,rfl,?_,.inr ⟨λ e=>(by cases e),I,by rw[G];rfl,hT⟩⟩;rintro⟨_,_,e⟩;cases e
  .intro j B;have e:j≠i:=λ e=>by subst e;rw[Qk]at B;cases B
   rw[Qu _ _ e]at B;rw[v4 j e];exact h.deps j B
  .obtain⟨rm,hti⟩:=h.ti;have aq:Jv E=Jv V:=by simp only[Jv,Q2,S 0 (Ne.symm f)]
   refine⟨rm,?_⟩;rw[S 0 (Ne.symm f),e0,aq]
   have:=hti.release (W':=λ k=>(E k).canW) (R':=λ k=>(E k).canR) (wk':=λ j=>ZL (E (.run j)).tok.ph) (rel':=Zp rel i (some tr.size)) (y:={ g:=i,fn:=g.frame.fn,pos:=g.frame.place,act:=.mark (.releaseMerge ⟨I,0,none⟩) }) (b:=I) (by rw[G];rfl) rfl am ad ag (λ k=>by simp[Zp]) hW hR (λ k hk=>by
    by_cases e:k=i
    .exact .inr e
    .left;rw[S k e];exact hk)
   refine this.turn (λ _ _ h=>h) (λ _ _ h=>h) ?_;rintro j (rfl|B)
   .exact .inl rfl
   .by_cases e:j=i
    .subst e;right;rw[H];simp
    .rw[S j e]at B;exact .inr B
  .unfold QH;rw[S 0 (Ne.symm f),G]
   have ao:Z1 E=Zp (Z1 V) i (.rel I):=by
    funext j;by_cases e:j=i
    .subst e;simp only[Z1,if_neg f,v1,Qk];rfl
    .rw[Qu _ _ e];by_cases e0:j=0
     .simp[Z1,e0]
     .simp only[Z1,if_neg e0,S j e]
   have aj:(λ j=>(E (.dep j)).M)=Zp (λ j=>(V (.dep j)).M) i (V (.run i)).M:=by
    funext j;by_cases e:j=i
    .subst e;rw[v3,Qk]
    .rw[v4 j e,Qu _ _ e]
   refine⟨λ j a ha ho ac=>?_,W,c,wt,s,T,by rw[ao,aj];exact af,QH.woken hi (λ e=>absurd e f) ak⟩;rcases hR _ _ ac with⟨h1,_⟩|⟨_,h1⟩
   .exact Y _ a ha ho h1
   .exact Y _ a ha ho h1
  .have hmk:∀j,j≠i->Q2 E j=Q2 V j:=λ j B=>by unfold Q2;rw[S j B]
   have K:Q2 E i=none:=by unfold Q2;rw[v1];rfl
   have X:Q2 V i=mu:=by unfold Q2;rw[H]
   have ab:∀m,(∀j,QJ m (V j))->∀j,QJ m (E j):=λ m hm j a ha ho ac=>by
    rcases hR _ _ ac with⟨h1,_⟩|⟨_,h1⟩
    .exact hm _ a ha ho h1
    .exact hm _ a ha ho h1
   obtain⟨g1,g2,g3⟩:=h.mux;refine⟨λ j x u B e=>?_,by rw[v5];exact g2,?_⟩
   .by_cases F:j=i
    .subst F;rw[K]at e;cases e
    .rw[hmk j F]at e;exact g1 j x u B e
   .rw[hmk 0 (Ne.symm f)]
    revert g3
    cases e0:Q2 V 0 with
    |none=>
     rintro⟨g3,L⟩;refine⟨λ j=>?_,by rw[v5];exact L⟩;by_cases F:j=i
     .subst F;exact K
     .rw[hmk j F];exact g3 j
    |some m0=>
     cases m0 with
     |lok=>exact λ x=>x
     |par x u=>
      rintro⟨g3,lp,st,sm,L⟩;refine⟨ab _ g3,lp,st,sm,⟨L.sh,L.word,λ j x' s me lo e=>?_,λ j k s a2 az l₁ a3 a0 l₂ e e'=>?_,λ s hs=>?_,L.idle,λ e=>by rw[v5];exact L.dep e,λ e=>by rw[v5];exact L.dep' e,λ j x' s me lo y e hy av=>?_⟩⟩
      .by_cases F:j=i
       .subst F;rw[K]at e;cases e
       .rw[hmk j F]at e;exact L.tk j x' s me lo e
      .by_cases F:j=i
       .subst F;rw[K]at e;cases e
       .by_cases ek:k=i
        .subst ek;rw[K]at e';cases e'
        .rw[hmk j F]at e;rw[hmk k ek]at e';exact L.one j k s a2 az l₁ a3 a0 l₂ e e'
      .rcases L.who s hs with h1|⟨j,me,lo,e⟩
       .exact .inl h1
       .by_cases F:j=i
        .subst F;rw[X]at e;rcases au with rfl|⟨x',s',lo',rfl⟩
         .cases e
         .cases e;exact .inl (L.tk j _ _ _ _ X).2.1.symm
        .exact .inr ⟨j,me,lo,by rw[hmk j F];exact e⟩
      .have F:j≠i:=λ F=>by subst F;rw[K]at e;cases e
       rw[hmk j F]at e;rw[J3 F]at hy;obtain⟨z,hz,rfl⟩:=Option.map_eq_some_iff.1 hy;exact L.slp j x' s me lo z e hz λ hr=>av (by rw[Wc hr];exact hr)
def WD(V:Hd->Qa Tk)(l:List Nat):Hd->Qa Tk
 |.run j=>if j=0 then(V (.run 0)).with (l.map λ i=>(V (.dep i)).M).flatten else V (.run j)
 |.dep j=>if j∈l then ZH else V (.dep j)
 |.lck=>V .lck
def VI.joinAll{w:World}:∀{l:List Nat}{V:Hd->Qa Tk},l.Nodup->VI V w->VI (WD V l) w
 |[],V,_,h=>by
  have:WD V []=V:=by
   funext k;cases k with
   |run j=>
    simp only[WD];split
    .rename_i e;subst e;simp[Qa.with]
    .rfl
   |dep j=>simp[WD]
   |lck=>rfl
  rw[this];exact h
 |i::l,V,B,h=>by
  obtain⟨hi,B⟩:=nodup_cons.1 B;have h1:=h.join (k:=.run 0) (k':=.dep i) S1 (⟨0,.out,none⟩:Tk);have h2:=VI.joinAll B h1
  have e:WD (Q1 (Q1 V (.run 0) ((V (.run 0)).with (V (.dep i)).M)) (.dep i) (Qa.bare ⟨0,.out,none⟩)) l=WD V (i::l):=by
   funext k;cases k with
   |run j=>
    simp only[WD]
    have hm:(l.map λ b=>(Q1 (Q1 V (.run 0) ((V (.run 0)).with (V (.dep i)).M)) (.dep i) (Qa.bare (⟨0,.out,none⟩:Tk)) (.dep b)).M)=l.map λ b=>(V (.dep b)).M:=by
     refine map_congr_left λ b f=>?_;have E:b≠i:=λ e=>hi (e▸f);rw[Qh _ _ (by intro e;cases e;exact E rfl),Qh _ _ S1]
    rw[hm];split
    .rename_i e;rw[Qh _ _ S1,Ql];simp[Qa.with]
    .rename_i e;rw[Qh _ _ S1,Qh _ _ (by intro e';cases e';exact e rfl)]
   |dep j=>
    simp only[WD];by_cases e:j=i
    .subst e;rw[Ql];simp[ZH]
    .rw[Qh _ _ (by intro e';cases e';exact e rfl),Qh _ _ S1];simp[e]
   |lck=>simp only[WD];rw[Qh _ _ S1,Qh _ _ S1]
  rw[<- e];exact h2
def IK:((U.with (l.map λ i=>(V (.dep i)).M).flatten).canW E->U.canW E\/∃i∈l,(V (.dep i)).canW E)/\((U.with (l.map λ i=>(V (.dep i)).M).flatten).canR E->U.canR E\/∃i∈l,(V (.dep i)).canR E):=by
 have key:∀r,r∈U.M++(l.map λ i=>(V (.dep i)).M).flatten->r.lets E->U.canW E\/∃i∈l,(V (.dep i)).canW E:=by
  intro r b hl;rcases mem_append.1 b with b|b
  .exact .inl (Q4.2 ⟨r,b,hl⟩)
  .obtain⟨M,hM,hrM⟩:=mem_flatten.1 b;obtain⟨i,hi,rfl⟩:=mem_map.1 hM;exact .inr ⟨i,hi,Q4.2 ⟨r,hrM,hl⟩⟩
 refine⟨λ h=>?_,λ h=>?_⟩
 .obtain⟨r,b,hl⟩:=Q4.1 h;exact key r b hl
 .rcases Qx.1 h with⟨r,b,hl⟩|h
  .exact(key r b hl).imp Zu λ⟨i,hi,h⟩=>⟨i,hi,Zu h⟩
  .exact .inl (Qx.2 (.inr h))
def IR(h1:U.I=λ _=>none)(h2:U.M=[])(l:Loc):¬U.canW l/\¬U.canR l:=by
 have f:¬U.canW l:=λ h=>by obtain⟨r,b,_⟩:=Q4.1 h;rw[h2]at b;cases b
 refine⟨f,λ h=>?_⟩;rcases Qx.1 h with⟨r,b,_⟩|h
 .rw[h2]at b;cases b
 .cases l <;> simp[h1]at h
def MI.take(L:∀m g U,Stop m g U->g.status=.running){mu:Option ZO}(h:MI P t N Stop (some 0) gs w tr V rk rel q)(hi:gs[0]?=some g)(hr:rk 0=some r)
  (G:(V (.run 0)).tok=⟨0,.par b ds false .up,mu⟩)   (Q:Sh b t (Q0 c wt) (Qp lo) w) (H:GI N b ds false .up (Z1 V) rel (λ i=>(V (.dep i)).M) W c wt lo)
  (ah:∀st sm,Qc P t true g st sm=.go g' st sm #[Z0 (.acquire ⟨b,0,none⟩)] bs) (ae:Z5 b bs)
  (hJ:∀Ms,JM ds Ms->∃r',Tr.Sub r' r/\JR (Za P t N) Stop r' true g' { (V (.run 0))with M:=((V (.run 0)).M++Ms.flatten)++(V .lck).M,tok:=⟨0,.out,none⟩ }):JJ P t N Stop gs w sl tr rk q 0:=by
 have af:=(Array.getElem?_eq_some_iff.1 hi).1;obtain⟨-,-,-,-,X,E⟩:=H.up;obtain⟨r',Z,hJ⟩:=hJ _ H.deps;have I:∀j,j≠0->(V (.run j)).tok.ph=.out:=λ j B=>by have:=X j;simpa[Z1,B]using this
 have F:∀j,j≠0->rk j=none:=by
  intro j B;cases e:rk j with
  |none=>rfl
  |some r=>
   obtain⟨b,D,e'⟩:=h.wk j B (by rw[e];simp);rw[I j B]at e';cases e'
 have S:Deaf tr 0=0:=by rw[h.deaf 0 h.root,G]
 have Y:stepG P (0==0) g w=.go g' w #[Z0 (.acquire ⟨b,0,none⟩)]:=by
  have:=H6 (ah (Q0 c wt) (Qp lo)) Q ae
  rwa [Q.two_same]at this
 have ad:b<w.heap.size:=(Array.getElem?_eq_some_iff.1 Q).1
 let K:Hd->Qa Tk:=Q1 (Q1 (WD V W) (.run 0) ((WD V W (.run 0)).with (WD V W .lck).M)) .lck (Qa.bare ⟨0,.out,none⟩)
 have z0:K (.run 0)=((V (.run 0)).with (W.map λ i=>(V (.dep i)).M).flatten).with (V .lck).M:=by show Q1 _ _ _ _=_;rw[Qh _ _ S1,Ql];simp[WD]
 let f:Hd->Qa Tk:=Q1 K (.run 0) { K (.run 0)with tok:=⟨0,.out,none⟩ }
 have v0:f (.run 0)={ (V (.run 0))with M:=((V (.run 0)).M++(W.map λ i=>(V (.dep i)).M).flatten)++(V .lck).M,tok:=⟨0,.out,none⟩ }:=by show Q1 _ _ _ _=_;rw[Ql,z0];rfl
 have v2:∀j,j≠0->f (.run j)=V (.run j):=λ j B=>by show Q1 _ _ _ _=_;rw[Qh _ _ (by intro e;cases e;exact B rfl)];show Q1 _ _ _ _=_;rw[Qh _ _ S1,Qh _ _ (by intro e;cases e;exact B rfl)];simp[WD,B]
 have vm:f .lck=ZH:=by show Q1 _ _ _ _=_;rw[Qh _ _ S1];exact Ql ..
 have vd:∀j,f (.dep j)=ZH:=by
  intro j;show Q1 _ _ _ _=_;rw[Qh _ _ S1];show Q1 _ _ _ _=_;rw[Qh _ _ S1,Qh _ _ S1];simp only[WD];split
  .rfl
  .rename_i B;refine h.deps j ?_;cases e:rel j with
   |none=>rfl
   |some x=>exact absurd (H.inW j (.inr (by rw[e];simp))) B
 have ai:VI f w:=by
  have:=(VI.joinAll H.nodup h.vi).join (k:=.run 0) (k':=.lck) S1 (⟨0,.out,none⟩:Tk)
  have hs:∀k,(f k).canW=(K k).canW/\(f k).canR=(K k).canR:=by
   intro k;by_cases e:k=.run 0
   .subst e;rw[show f (.run 0)=_ from Ql ..];exact⟨rfl,rfl⟩
   .rw[show f k=_ from Qh _ _ e];exact⟨rfl,rfl⟩
  refine⟨λ k=>?_,λ ab ac l T hw hr=>this.sep ab ac l T (by rw[<- (hs ab).1];exact hw) (by rw[<- (hs ac).2];exact hr)⟩;by_cases e:k=.run 0
  .subst e;rw[show f (.run 0)=_ from Ql ..];have:=this.ok (.run 0);exact⟨this.imm,this.held,this.apart,this.sep⟩
  .rw[show f k=_ from Qh _ _ e];exact this.ok k
 have aa:∀l,((f (.run 0)).canW l->(K (.run 0)).canW l)/\((f (.run 0)).canR l->(K (.run 0)).canR l):=λ l=>by
  rw[show f (.run 0)=_ from Ql ..];exact⟨λ x=>x,λ x=>x⟩
 have hW:∀k l,(f k).canW l->k=.run 0/\((V (.run 0)).canW l\/(∃g r,rel g=some r/\(V (.dep g)).canW l)\/(V .lck).canW l):=by
  intro k l hl;cases k with
  |run j=>
   by_cases e:j=0
   .subst e;have hl:=(aa l).1 hl;rw[z0]at hl;refine⟨rfl,?_⟩;rcases OD (τ:=V .lck) hl with hl|hl
    .refine(IK.1 hl).imp id λ⟨i,hi,h⟩=>?_;obtain⟨x,hx⟩:=E i hi;exact .inl ⟨i,x,hx,h⟩
    .exact .inr (.inr hl)
   .rw[v2 j e]at hl;obtain⟨b1,b2⟩:=h.bare j (F j e);exact absurd hl (IR b1 b2 l).1
  |dep j=>rw[vd]at hl;exact absurd hl (Wh _ _)
  |lck=>rw[vm]at hl;exact absurd hl (Wh _ _)
 have hR:∀k l,(f k).canR l->k=.run 0/\((V (.run 0)).canR l\/(∃g r,rel g=some r/\(V (.dep g)).canR l)\/(V .lck).canR l):=by
  intro k l hl;cases k with
  |run j=>
   by_cases e:j=0
   .subst e;have hl:=(aa l).2 hl;rw[z0]at hl;refine⟨rfl,?_⟩;rcases OC (τ:=V .lck) hl with hl|hl
    .refine(IK.2 hl).imp id λ⟨i,hi,h⟩=>?_;obtain⟨x,hx⟩:=E i hi;exact .inl ⟨i,x,hx,h⟩
    .exact .inr (.inr hl)
   .rw[v2 j e]at hl;obtain⟨b1,b2⟩:=h.bare j (F j e);exact absurd hl (IR b1 b2 l).2
  |dep j=>rw[vd]at hl;exact absurd hl (Wg _ _)
  |lck=>rw[vm]at hl;exact absurd hl (Wg _ _)
 refine⟨_,_,_,f,Zp rk 0 (some r'),λ _=>none,q,runT_crowd_go hi Y,?_,Xo Jl af hr λ aj e=>by cases e;exact Z,.refl _,rfl⟩
 have e0:MemOp.ofEvents 0 g.frame.fn g.frame.place #[Z0 (.acquire ⟨b,0,none⟩)]=#[{ g:=0,fn:=g.frame.fn,pos:=g.frame.place,act:=.mark (.acquire ⟨b,0,none⟩) }]:=by
  rw[ofEvents_eq];simp[Z0,MemAct.ofEvent]
 refine h.go L (V':=f) (rk':=Zp rk 0 (some r')) (rel':=λ _=>none) (q':=q) (es:=#[Z0 (.acquire ⟨b,0,none⟩)]) hi v2 (λ j B=>Qu _ _ B) (λ _ _=>rfl) (λ _ _=>.inr rfl) (by rw[Qk];simp) (.inr (.inr I)) ?_ ?_ (λ j _=>vd j) ai ?_ ?_ ?_ (λ e=>by rw[Qk]at e;cases e)
 .intro aj e;rw[Qk]at e;cases e;rw[v0];refine⟨hJ,?_,λ h0=>absurd rfl h0⟩;rw[S];rfl
 .intro e;rw[Qk]at e;cases e
 .obtain⟨rm,hti⟩:=h.ti;have ag:Jv f=none:=by unfold Jv Q2;rw[v0];rfl
  refine⟨none,?_⟩;rw[e0,v0,ag]
  exact hti.acquire (y:={ g:=0,fn:=g.frame.fn,pos:=g.frame.place,act:=.mark (.acquire ⟨b,0,none⟩) }) (b:=b) (by rw[G];rfl) rfl rfl ad S (λ j=>by
   by_cases e:j=0
   .subst e;rw[G];rintro⟨_,_,e⟩;cases e
   .rw[I j e];rintro⟨_,_,e⟩;cases e) (.inl rfl) hW hR
 .unfold QH;rw[v0];exact⟨λ j B=>by rw[v2 j B];exact I j B,λ _=>rfl⟩
 .have T:∀j,Q2 f j=none:=by
   intro j;by_cases e:j=0
   .subst e;unfold Q2;rw[v0]
   .unfold Q2;rw[v2 j e];exact h.bareM j (F j e)
  refine⟨λ j x u _ e=>(by rw[T]at e;cases e),by rw[vm];rfl,?_⟩;rw[T];exact⟨T,vm⟩
def MI.start(ae:∀m g U,Stop m g U->g.status=.running){g g' cg:Gr}{r Z aa:Tr}{b:Nat}{ds:List Spec}{D:Spec}{Up Uc:Qa Tk}{mu am mc:Option ZO}(h:MI P t N Stop (some 0) gs w tr V rk rel q)(hi:gs[0]?=some g)(hr:rk 0=some r)
  (H:(V (.run 0)).tok=⟨0,.par b ds true .run,mu⟩) (ap:∀j,QJ b (V j)) {W:List Nat} {c wt s:Nat} (bg:Sh b t (Q0 c wt) (Qp s) w) (au:GI N b ds true .run (Z1 V) rel (λ i=>(V (.dep i)).M) W c wt s)
  (bh:Qc P t true g undef undef=.spawn g' cg #[]) (hf:HC (V (.run 0)) Up Uc) (hp:Up.tok=⟨0,.par b (D::ds) false .run,am⟩) (hc:Uc.tok=⟨0,.wrk b D,mc⟩) (ax:Yy mu am mc)
  (h1:Tr.Sub Z r) (h2:Tr.Sub aa r) (hJ:JR (Za P t N) Stop Z true g' Up) (a6:JR (Za P t N) Stop aa false cg Uc):JJ P t N Stop gs w sl tr rk q 0:=by
 have aw:=(Array.getElem?_eq_some_iff.1 hi).1;have a9:stepG P (0==0) g w=.spawn g' cg w #[]:=Nw bh w;obtain⟨az,a0,a5⟩:=h.above gs.size (Nat.le_refl _);have L:gs.size≠0:=O1
 have ag:(V (.run gs.size)).tok.ph=.out:=by
  apply Classical.byContradiction;intro bf;obtain⟨x,_,hx,_⟩:=h.tail gs.size az bf;rw[Array.getElem?_eq_none (Nat.le_refl _)]at hx;cases hx
 have aq:Z1 V gs.size=.out:=by simp[Z1,L,ag]
 have bc:gs.size∉W:=by
  intro hm;obtain⟨j,E,e⟩:=mem_iff_getElem.1 hm;have av:j<ds.length:=by rw[<- au.len];exact E
  rcases au.spec j gs.size ds[j] (by rw[getElem?_eq_getElem E,e]) (getElem?_eq_getElem av)with⟨x,_⟩|⟨_,⟨x,hx⟩,_⟩
  .rw[aq]at x;cases x
  .rw[a5]at hx;cases hx
 have a7:Deaf tr 0=0:=by rw[h.deaf 0 h.root,H]
 let K:=Q1 (Q1 V (.run 0) Up) (.run gs.size) Uc
 have v0:K (.run 0)=Up:=by show Q1 _ _ _ _=_;rw[Qh _ _ (λ e=>L (Hd.run.inj e).symm),Ql]
 have vc:K (.run gs.size)=Uc:=Ql ..;have T:∀j,j≠0->j≠gs.size->K (.run j)=V (.run j):=λ j E av=>by show Q1 _ _ _ _=_;rw[Qh _ _ (by intro e;cases e;exact av rfl),Qh _ _ (by intro e;cases e;exact E rfl)]
 have vd:∀j,K (.dep j)=V (.dep j):=λ j=>by show Q1 _ _ _ _=_;rw[Qh _ _ S1,Qh _ _ S1]
 have vm:K .lck=V .lck:=by show Q1 _ _ _ _=_;rw[Qh _ _ S1,Qh _ _ S1]
 have bi:VI K w:=h.vi.fork hf (λ e=>L (Hd.run.inj e).symm)
 have hW:∀k l,(K k).canW l->(V k).canW l\/(k=.run gs.size/\(V (.run 0)).canW l):=by
  intro k l hl;cases k with
  |run j=>
   by_cases e:j=0
   .subst e;rw[v0]at hl;exact .inl (hf.wp l hl)
   .by_cases e2:j=gs.size
    .subst e2;rw[vc]at hl;exact .inr ⟨rfl,hf.wc l hl⟩
    .rw[T j e e2]at hl;exact .inl hl
  |dep j=>rw[vd]at hl;exact .inl hl
  |lck=>rw[vm]at hl;exact .inl hl
 have hR:∀k l,(K k).canR l->(V k).canR l\/(k=.run gs.size/\(V (.run 0)).canR l):=by
  intro k l hl;cases k with
  |run j=>
   by_cases e:j=0
   .subst e;rw[v0]at hl;exact .inl (hf.rp l hl)
   .by_cases e2:j=gs.size
    .subst e2;rw[vc]at hl;exact .inr ⟨rfl,hf.rc l hl⟩
    .rw[T j e e2]at hl;exact .inl hl
  |dep j=>rw[vd]at hl;exact .inl hl
  |lck=>rw[vm]at hl;exact .inl hl
 let y:MemOp:={ g:=0,fn:=g.frame.fn,pos:=g.frame.place,act:=.go gs.size }
 let z:MemOp:={ g:=gs.size,fn:=cg.frame.fn,pos:=g.frame.place,act:=.start }
 have a8:((MemOp.ofEvents 0 g.frame.fn g.frame.place #[]).push y).push z=#[y,z]:=by rw[ofEvents_eq];simp
 have ak:∀j,Deaf (tr++#[y,z]) j=Deaf tr j:=by
  intro j;have e:tr++#[y,z]=(tr++#[y])++#[z]:=by apply Array.ext';simp
  rw[e,Deaf_push,Deaf_push];rfl
 have X:=hJ.running ae;refine⟨_,_,_,K,Zp (Zp rk 0 (some Z)) gs.size (some aa),rel,q,runT_crowd_spawn hi a9,?_,?_,.refl _,rfl⟩
 .show MI P t N Stop none ((gs.setIfInBounds 0 g').push cg) w (tr++((MemOp.ofEvents 0 g.frame.fn g.frame.place #[]).push y).push z) K _ rel q;rw[a8]
  have bb:∀j x,((gs.setIfInBounds 0 g').push cg)[j]?=some x->(j=0/\x=g')\/(j=gs.size/\x=cg)\/(j≠0/\j≠gs.size/\gs[j]?=some x):=by
   intro j x hx;rw[Array.getElem?_push]at hx;simp only[Array.size_setIfInBounds]at hx;split at hx
   .rename_i e;subst e;cases hx;exact .inr (.inl ⟨rfl,rfl⟩)
   .rename_i e;by_cases B:j=0
    .subst B;simp[aw]at hx;exact .inl ⟨rfl,hx.symm⟩
    .rw[Array.getElem?_setIfInBounds_ne (Ne.symm B)]at hx;exact .inr (.inr ⟨B,e,hx⟩)
  have af:((gs.setIfInBounds 0 g').push cg)[0]?=some g':=by
   rw[Array.getElem?_push];simp[aw,Ne.symm L]
  have ao:((gs.setIfInBounds 0 g').push cg)[gs.size]?=some cg:=by
   rw[Array.getElem?_push];simp
  have ab:∀j,j≠0->j≠gs.size->((gs.setIfInBounds 0 g').push cg)[j]?=gs[j]?:=by
   intro j h0 h1;rw[Array.getElem?_push];simp only[Array.size_setIfInBounds,if_neg h1];exact Array.getElem?_setIfInBounds_ne (Ne.symm h0)
  have I:∀j,j≠0->j≠gs.size->Zp (Zp rk 0 (some Z)) gs.size (some aa) j=rk j:=λ j h0 h1=>by rw[Qu _ _ h1,Qu _ _ h0]
  have F:Zp (Zp rk 0 (some Z)) gs.size (some aa) 0=some Z:=by rw[Qu _ _ (Ne.symm L),Qk]
  have G:Zp (Zp rk 0 (some Z)) gs.size (some aa) gs.size=some aa:=Qk ..;refine⟨?_,by rw[F];simp,?_,?_,?_,?_,?_,?_,?_,λ j E=>by rw[vd];exact h.deps j E,bi,?_,?_,?_,?_⟩
  .intro j r'' _ hr'';by_cases B:j=0
   .subst B;rw[F]at hr'';cases hr'';exact⟨g',by rw[v0];exact hJ,.inl af⟩
   .by_cases f:j=gs.size
    .subst f;rw[G]at hr'';cases hr'';exact⟨cg,by rw[vc,show(gs.size==0)=false by simpa using L];exact a6,.inl ao⟩
    .rw[I j B f]at hr'';obtain⟨x,k1,k2⟩:=h.live j r'' (λ e'=>B (Option.some.inj e').symm) hr'';refine⟨x,by rw[T j B f];exact k1,?_⟩;rw[T j B f,ab j B f];exact k2
  .intro j x E hx hp';have B:j≠0:=λ e=>by subst e;rw[F]at E;cases E
   have f:j≠gs.size:=λ e=>by subst e;rw[G]at E;cases E
   rw[I j B f]at E;rw[ab j B f]at hx;rw[T j B f]at hp';rw[ak];exact h.gone j x E hx hp'
  .intro j E hp';have B:j≠0:=λ e=>by subst e;rw[F]at E;cases E
   have f:j≠gs.size:=λ e=>by subst e;rw[G]at E;cases E
   rw[I j B f]at E;rw[T j B f]at hp';obtain⟨x,b',k1,k2,k3⟩:=h.tail j E hp';refine⟨x,b',by rw[ab j B f];exact k1,?_,by rw[ak,T j B f];exact k3⟩;rw[v0,hp];rw[H]at k2;exact k2
  .intro j E;simp at E;rw[I j O1 O1,ak];exact h.above j O1
  .intro j E;have B:j≠0:=λ e=>by subst e;rw[F]at E;cases E
   have f:j≠gs.size:=λ e=>by subst e;rw[G]at E;cases E
   rw[I j B f]at E;rw[T j B f];exact h.bare j E
  .intro j h0 E;by_cases f:j=gs.size
   .subst f;rw[vc,hc];exact⟨b,D,rfl⟩
   .rw[I j h0 f]at E;rw[T j h0 f];exact h.wk j h0 E
  .intro j E;by_cases B:j=0
   .subst B;rw[F];simp
   .by_cases f:j=gs.size
    .subst f;rw[G];simp
    .rw[T j B f]at E;rw[I j B f];exact h.wk' j E
  .intro j E;rw[ak];by_cases B:j=0
   .subst B;rw[v0,hp,a7]
   .by_cases f:j=gs.size
    .subst f;rw[vc,hc,a0]
    .rw[I j B f]at E;rw[T j B f];exact h.deaf j E
  .obtain⟨rm,hti⟩:=h.ti;rw[H]at hti
   have be:Jv K=Jv V:=by
    unfold Jv Q2;rw[v0,hp,H];rcases ax with⟨rfl,_⟩|⟨x,u,s,rfl,_,rfl,_⟩ <;> rfl
   refine⟨rm,?_⟩;rw[be,v0,hp];refine hti.fork (y:=y) (z:=z) (c:=gs.size) rfl rfl rfl rfl a7 a0 L ?_ ?_ hW hR
   .rintro j (rfl|E)
    .exact .inl (.inl rfl)
    .by_cases B:j=0
     .exact .inl (.inl B)
     .by_cases f:j=gs.size
      .exact .inr ⟨f,.inl rfl⟩
      .rw[T j B f]at E;exact .inl (.inr E)
   .intro j E;by_cases B:j=0
    .subst B;rw[H]at E;obtain⟨_,_,e⟩:=E;cases e
    .by_cases f:j=gs.size
     .subst f;rw[ag]at E;obtain⟨_,_,e⟩:=E;cases e
     .rw[T j B f];exact E
  .unfold QH;rw[v0,hp]
   have bd:Z1 K=Zp (Z1 V) gs.size (.wrk b D):=by
    funext j;by_cases f:j=gs.size
    .subst f;simp only[Z1,if_neg L,vc,hc,Qk]
    .rw[Qu _ _ f];by_cases B:j=0
     .simp[Z1,B]
     .simp only[Z1,if_neg B,T j B f]
   refine⟨λ j a ha ho ay=>?_,gs.size::W,c,wt,s,bg,?_,λ x hx Q=>?_⟩
   .rcases hR _ _ ay with k1|⟨_,k1⟩
    .exact ap _ a ha ho k1
    .exact ap _ a ha ho k1
   .rw[bd];simp only[vd];exact au.go aq a5 bc
   .rw[af]at hx;cases hx;exact absurd X Q
  .have hk0:Q2 V 0=mu:=by unfold Q2;rw[H]
   have ac:Q2 K 0=am:=by unfold Q2;rw[v0,hp]
   have ah:Q2 K gs.size=mc:=by unfold Q2;rw[vc,hc]
   have ai:Q2 V gs.size=none:=h.bareM _ az;have ad:∀j,j≠0->j≠gs.size->Q2 K j=Q2 V j:=λ j B f=>by unfold Q2;rw[T j B f]
   have aj:∀m,(∀j,QJ m (V j))->∀j,QJ m (K j):=λ m hm j a ha ho ay=>by
    rcases hR _ _ ay with h1|⟨_,h1⟩
    .exact hm _ a ha ho h1
    .exact hm _ a ha ho h1
   obtain⟨g1,g2,g3⟩:=h.mux;rw[hk0]at g3;refine⟨λ j x u E e=>?_,by rw[vm];exact g2,?_⟩
   .by_cases f:j=gs.size
    .subst f;rw[ah]at e;rcases ax with⟨_,rfl⟩|⟨x,u,s,_,_,_,rfl⟩ <;> cases e
    .rw[ad j E f]at e;exact g1 j x u E e
   .rw[ac];rcases ax with⟨rfl,rfl⟩|⟨x,u,s,rfl,ba,rfl,rfl⟩
    .have hk:∀j,Q2 K j=Q2 V j:=by
      intro j;by_cases B:j=0
      .subst B;rw[hk0,ac]
      .by_cases f:j=gs.size
       .subst f;rw[ah,ai]
       .exact ad j B f
     cases am with
     |none=>exact⟨λ j=>by rw[hk];exact g3.1 j,by rw[vm];exact g3.2⟩
     |some m0=>
      cases m0 with
      |lok=>exact g3
      |par x u=>
       obtain⟨g4,lp,st,sm,g5⟩:=g3;refine⟨aj _ g4,lp,st,sm,g5.at hk vm g5.sh λ j x' s me lo y e hy Q=>?_⟩;rcases bb j y hy with⟨rfl,rfl⟩|⟨rfl,rfl⟩|⟨_,_,hz⟩
       .exact absurd X Q
       .rw[ai]at e;cases e
       .exact⟨y,hz,Q⟩
    .obtain⟨g4,lp,st,sm,g5⟩:=g3;refine⟨aj _ g4,lp,st,sm,g5.sh,g5.word,λ j x' S me lo e=>?_,λ j k S an al l₁ bk bj l₂ e e'=>?_,λ S Y=>?_,λ S Y=>?_,λ e=>by rw[vm];exact g5.dep e,λ e=>by rw[vm];exact g5.dep' e,λ j x' S me lo y e hy Q=>?_⟩
     .by_cases B:j=0
      .subst B;rw[ac]at e;cases e
      .by_cases f:j=gs.size
       .subst f;rw[ah]at e;cases e;exact⟨rfl,(g5.idle _ ba).symm,Nat.zero_le _,J6 ..⟩
       .rw[ad j B f]at e;obtain⟨a1,a2,a3,a4⟩:=g5.tk j x' S me lo e;refine⟨a1,a2,a3,?_⟩;by_cases es:S=s
        .subst es;rw[J6]
        .rw[Xq _ _ es];exact a4
     .have key:∀j an al l₁,Q2 K j=some (.lok an S al l₁)->(j=gs.size/\S=s)\/(Q2 V j=some (.lok an S al l₁)/\S≠s):=by
       intro j an al l₁ e;by_cases B:j=0
       .subst B;rw[ac]at e;cases e
       .by_cases f:j=gs.size
        .subst f;rw[ah]at e;cases e;exact .inl ⟨rfl,rfl⟩
        .rw[ad j B f]at e;refine .inr ⟨e,λ es=>?_⟩;have:=(g5.tk j _ _ _ _ e).2.2.2;rw[es,ba]at this;cases this
      rcases key j _ _ _ e with⟨a1,a2⟩|⟨a1,a2⟩
      .rcases key k _ _ _ e' with⟨b1,b2⟩|⟨b1,b2⟩
       .rw[a1,b1]
       .exact absurd a2 b2
      .rcases key k _ _ _ e' with⟨b1,b2⟩|⟨b1,b2⟩
       .exact absurd b2 a2
       .exact g5.one j k S _ _ _ _ _ _ a1 b1
     .by_cases es:S=s
      .subst es;exact .inr ⟨gs.size,.idle,0,ah⟩
      .rw[Xq _ _ es]at Y;rcases g5.who S Y with h1|⟨j,me,lo,e⟩
       .exact .inl h1
       .refine .inr ⟨j,me,lo,?_⟩;by_cases B:j=0
        .subst B;rw[hk0]at e;cases e
        .by_cases f:j=gs.size
         .subst f;rw[ai]at e;cases e
         .rw[ad j B f];exact e
     .by_cases es:S=s
      .subst es;rw[J6]at Y;cases Y
      .rw[Xq _ _ es]at Y;exact g5.idle S Y
     .by_cases f:j=gs.size
      .subst f;rw[ao]at hy;cases hy;exact absurd (a6.running ae) Q
      .by_cases B:j=0
       .subst B;rw[af]at hy;cases hy;exact absurd X Q
       .rw[ad j B f]at e;rw[ab j B f]at hy;exact g5.slp j x' S me lo y e hy Q
  .intro j E;have B:j≠0:=λ e=>by subst e;rw[F]at E;cases E
   have f:j≠gs.size:=λ e=>by subst e;rw[G]at E;cases E
   rw[I j B f]at E;unfold Q2;rw[T j B f];exact h.bareM j E
 .show JB (QD ((gs.setIfInBounds 0 g').push cg) _ q) (QD gs rk q);unfold QD;have e:((gs.setIfInBounds 0 g').push cg).size=gs.size+1:=S1
  rw[e];exact JB.cut (pM aw hr h1 h2)
def LP.word_own(h:LP.word .got me'=some z):LP.word (.own me'.rels) me'=some z/\me'.isOwn=false:=by
 cases me' <;> simp_all[LP.word,LP.rels,LP.isOwn]
def LP.word_rls(h:LP.word (.own v) me'=some z):LP.word .rls me'=some z/\v=me'.rels/\me'.isOwn=false:=by
 cases me' <;> cases v <;> simp_all[LP.word,LP.rels,LP.isOwn]
def MI.inGrp(h:MI P t N Stop ex gs w tr V rk rel q)(F:i≠0)(hp:(V (.run i)).tok.ph=.wrk b D) :
  ∃ds pend k,(V (.run 0)).tok.ph=.par b ds pend k/\(∀j,QJ b (V j))/\∃W c wt s,Sh b t (Q0 c wt) (Qp s) w/\GI N b ds pend k (Z1 V) rel (λ i=>(V (.dep i)).M) W c wt s/\(∀g,gs[0]?=some g->g.status≠.running->s=0):=by
 have L:Z1 V i=.wrk b D:=by simp[Z1,F,hp]
 have f:=h.grp;unfold QH at f;cases B:(V (.run 0)).tok.ph with
 |out=>rw[B]at f;have:=f.1 i F;rw[hp]at this;cases this
 |wrk _ _=>rw[B]at f;exact f.elim
 |rel _=>rw[B]at f;exact f.elim
 |lst _ _=>rw[B]at f;exact f.elim
 |par Q ds pend k=>
  rw[B]at f;obtain⟨G,W,c,wt,s,K,E,H⟩:=f
  have I:Q=b:=by
   rcases E.ph i with e'|⟨S,e'⟩|e'|⟨j,e'⟩ <;> rw[L]at e' <;> cases e';rfl
  subst I;exact⟨ds,pend,k,rfl,G,W,c,wt,s,K,E,H⟩
def MI.lock(h:MI P t N Stop ex gs w tr V rk rel q)(B:Q2 V i=some (.lok x s me lo)) :
  ∃u f st sm,Q2 V 0=some (.par x u)/\(∀j,QJ x.m (V j))/\WY gs w V x u f st sm/\me=f s/\lo<=(f (!s)).cls/\u s=true:=by
 obtain⟨-,-,b⟩:=h.mux;cases e:Q2 V 0 with
 |none=>rw[e]at b;rw[b.1 i]at B;cases B
 |some K=>
  rw[e]at b;cases K with
  |lok=>exact b.elim
  |par L u=>
   obtain⟨I,f,st,sm,E⟩:=b;obtain⟨rfl,F,G,H⟩:=E.tk i _ _ _ _ B;exact⟨u,f,st,sm,rfl,I,E,F,G,H⟩
def WY.turn{G:Bool->LP}(h:WY gs w V x u G st wt)(hi:Q2 V i=some (.lok x s (G s) lo))
  (H:Q2 V' i=some (.lok x s me' c)) (E:∀j,j≠i->Q2 V' j=Q2 V j) (T:Sh x.m x.t (Zb st') (Qp sm') w') (hw:LP.word me' (G (!s))=some (st',sm')) (Z:(G s).cls<=me'.cls) (S:c<=(G (!s)).cls)
  (hd:((ZJ G s me' false).isOwn|| (ZJ G s me' true).isOwn)=true->V' .lck=ZH) (Q:((ZJ G s me' false).isOwn|| (ZJ G s me' true).isOwn)=false->x.dep (ZJ G s me') (V' .lck).M)
  (hs:∀j P s me lo g,Q2 V' j=some (.lok P s me lo)->K[j]?=some g->g.status≠.running->sm'=0):WY K w' V' x u (ZJ G s me') st' sm':=by
 have L:=(h.tk i _ _ _ _ hi).2.2.2
 have b:∀j P f me lo,j≠i->Q2 V j=some (.lok P f me lo)->f=!s:=by
  intro j P f me lo B e;by_cases es:f=s
  .subst es;exact absurd (h.one j i f _ _ _ _ _ _ e hi) B
  .cases s <;> cases f <;> simp_all
 refine⟨T,?_,λ j P f me N e=>?_,λ j k f ac aa l₁ ad ab l₂ e e'=>?_,λ f F=>?_,λ f F=>?_,hd,Q,hs⟩
 .rw[H8 _ s,J6,Y3];exact hw
 .by_cases B:j=i
  .subst B;rw[H]at e;cases e;refine⟨rfl,(J6 ..).symm,?_,L⟩;rw[Y3];exact S
  .rw[E j B]at e;obtain⟨W,X,U,Y⟩:=h.tk j _ _ _ _ e;have es:=b j _ _ _ _ B e;subst es;refine⟨W,by rw[Y3];exact X,?_,Y⟩;rw[Bool.not_not]at U ⊢;rw[J6];exact Nat.le_trans U Z
 .by_cases B:j=i
  .subst B;by_cases I:k=j
   .exact I.symm
   .rw[H]at e;cases e;rw[E k I]at e';have:=b k _ _ _ _ I e';cases s <;> cases this
  .rw[E j B]at e;by_cases I:k=i
   .subst I;rw[H]at e';cases e';have:=b j _ _ _ _ B e;cases s <;> cases this
   .rw[E k I]at e';exact h.one j k f _ _ _ _ _ _ e e'
 .by_cases es:f=s
  .subst es;exact .inr ⟨i,me',c,H⟩
  .rw[Xq _ _ es];rcases h.who f F with h1|⟨j,me,N,e⟩
   .exact .inl h1
   .refine .inr ⟨j,me,N,?_⟩
    have B:j≠i:=λ B=>by
     subst B;rw[hi]at e;cases e;exact es rfl
    rw[E j B];exact e
 .by_cases es:f=s
  .subst es;rw[L]at F;cases F
  .rw[Xq _ _ es];exact h.idle f F
def xN(x:QW)(f:Bool->LP)(s:Bool)(me':LP)(M:List Qw)(h:me'.rels=(f s).rels):x.dep (ZJ f s me') M↔x.dep f M:=by
 have:∀b,(ZJ f s me' b).rels=(f b).rels:=by
  intro b;by_cases e:b=s
  .subst e;rw[J6];exact h
  .rw[Xq _ _ e]
 simp only[QW.dep,this]
def DB(f:Bool->LP)(s:Bool)(me':LP)(h:me'.isOwn=(f s).isOwn):((ZJ f s me' false).isOwn|| (ZJ f s me' true).isOwn)=((f false).isOwn|| (f true).isOwn):=by
 have:∀b,(ZJ f s me' b).isOwn=(f b).isOwn:=by
  intro b;by_cases e:b=s
  .subst e;rw[J6];exact h
  .rw[Xq _ _ e]
 simp only[this]
def Uh(b:Bool->LP)(s:Bool):((b false).isOwn|| (b true).isOwn)=((b s).isOwn|| (b (!s)).isOwn):=by
 cases s
 .rfl
 .exact Bool.or_comm _ _
def MI.mu(E:∀m g U,Stop m g U->g.status=.running){lo' sm:Nat}(ah:lo'<=(S (!s)).cls)
  (h:MI P t N Stop (some i) gs w tr V rk rel q) (hi:gs[i]?=some g) (I:rk i=some r) (f:i≠0) (B:(V (.run i)).tok=⟨d,.wrk b D,some (.lok x s (S s) lo)⟩)
  (h0:Q2 V 0=some (.par x u)) (G:∀j,QJ x.m (V j)) (hx:WY gs w V x u S st sm)
  (a5:Qc P x.t false g (Zb st) (Qp sm)=.go g' (Zb st') (Qp sm') es bs) (ax:Z5 x.m bs) (hw:LP.word me' (S (!s))=some (st',sm')) (af:(S s).cls<=me'.cls) (al:me'.rels=(S s).rels) (X:me'.isOwn=(S s).isOwn)
  (ay:∀e∈es,GG x.m e) (hd:deafBehind d es=wt') (a7:sm'=sm\/sm'=0\/mayWake P g=true) (ao:Tr.Sub r' r) (hJ:JR (Za P t N) Stop r' false g' ((V (.run i)).lk wt' b D x s me' lo')) :
  JJ P t N Stop gs w sl tr rk q i:=by
 have a0:=(Array.getElem?_eq_some_iff.1 hi).1;have am:rk i≠none:=by rw[I];simp
 have Y:=hJ.running E;have K:=hx.sh;have a1:Q2 V i=some (.lok x s (S s) lo):=by unfold Q2;rw[B]
 obtain⟨ds,pend,k,aj,ab,W,c,wt,ba,Z,az,aw⟩:=h.inGrp f (b:=b) (D:=D) (by rw[B])
 have an:stepG P (i==0) g w=.go g' (two w x.m x.t (Zb st') (Qp sm')) es:=by
  rw[show(i==0)=false by simpa using f];exact H6 a5 K ax
 have ae:b≠x.m:=λ e=>Z.ne K e.symm;generalize hU:(V (.run i)).lk wt' b D x s me' lo'=U' at hJ;have Q:∀j,j≠i->Q1 V (.run i) U' (.run j)=V (.run j):=λ j L=>Qh _ _ (by intro e;cases e;exact L rfl);have ag:∀j,Q1 V (.run i) U' (.dep j)=V (.dep j):=λ j=>Qh _ _ S1;have aa:Q1 V (.run i) U' .lck=V .lck:=Qh _ _ S1
 have hM:∀j,(Q1 V (.run i) U' j).canW=(V j).canW/\(Q1 V (.run i) U' j).canR=(V j).canR:=by
  intro j;by_cases e:j=.run i
  .subst e;rw[Ql,<- hU];exact⟨rfl,rfl⟩
  .rw[Qh _ _ e];exact⟨rfl,rfl⟩
 have H:∀j,(Q1 V (.run i) U' (.run j)).tok.ph=(V (.run j)).tok.ph:=by
  intro j;by_cases e:j=i
  .subst e;rw[Ql,<- hU,B];rfl
  .rw[Q j e]
 have a2:x.m<w.heap.size:=(Array.getElem?_eq_some_iff.1 K).1;have ap:=h.wk i f am;have ai:Jv V=some x.m:=by unfold Jv;rw[h0];rfl
 refine⟨_,_,_,Q1 V (.run i) U',Zp rk i (some r'),rel,q,runT_crowd_go hi an,?_,Xo Jl a0 I λ a8 e=>by cases e;exact ao,.refl _,rfl⟩;refine h.go E (rel':=rel) (q':=q) (es:=es) hi Q (λ j L=>Qu _ _ L) (λ _ _=>rfl) (λ _ _=>.inl rfl) (by rw[Qu _ _ (Ne.symm f)];exact h.root) (.inl f) ?_ ?_ (λ j L=>by rw[ag];exact h.deps j L) ?_ ?_ ?_ ?_ (λ e=>by rw[Qk]at e;cases e)
 .intro a8 e;rw[Qk]at e;cases e;rw[Ql];refine⟨by rw[show(i==0)=false by simpa using f];exact hJ,?_,λ _=>by rw[<- hU];exact⟨b,D,rfl⟩⟩;rw[h.deaf i am,B,<- hU];exact hd
 .intro e;rw[Qk]at e;cases e
 .refine⟨λ j=>?_,λ au av l hn hw I=>h.vi.sep au av l hn (by rw[<- (hM au).1];exact hw) (by rw[<- (hM av).2];exact I)⟩;have hv:=(h.vi.two (st':=Zb st') (sm':=Qp sm') K G).ok;by_cases e:j=.run i
  .subst e;rw[Ql,<- hU];exact⟨(hv (.run i)).imm,(hv (.run i)).held,(hv (.run i)).apart,(hv (.run i)).sep⟩
  .rw[Qh _ _ e];exact hv j
 .obtain⟨rm,hti⟩:=h.ti;rw[ai]at hti;have:=kK (i:=i) (fn:=g.frame.fn) (pos:=g.frame.place) hti a2 G (.inr (by rw[B];simp)) ay (by rw[aj];intro e;exact ae (Option.some.inj e)) ap;refine⟨rm,?_⟩;have e0:Jv (Q1 V (.run i) U')=some x.m:=by unfold Jv Q2;rw[Q 0 (Ne.symm f)];exact ai
  rw[e0];simp only[H];have a6:(two w x.m x.t (Zb st') (Qp sm')).heap.size=w.heap.size:=by simp[two]
  rw[a6];exact this.turn (λ k l hl=>by rw[<- (hM k).1];exact hl) (λ k l hl=>by rw[<- (hM k).2];exact hl) (λ _ x=>x)
 .unfold QH;rw[H 0,aj];have hk:Z1 (Q1 V (.run i) U')=Z1 V:=by funext j;simp only[Z1,H]
  refine⟨λ j a ha ho I=>ab j a ha ho (by rw[<- (hM j).2];exact I),W,c,wt,ba,Z.two_other ae,?_,QH.woken hi (λ e=>absurd e f) aw⟩;rw[hk];simpa only[ag]using az
 .have hmi:Q2 (Q1 V (.run i) U') i=some (.lok x s me' lo'):=by unfold Q2;rw[Ql,<- hU];rfl
  have M:∀j,j≠i->Q2 (Q1 V (.run i) U') j=Q2 V j:=λ j L=>by unfold Q2;rw[Q j L]
  obtain⟨g1,g2,-⟩:=h.mux;refine⟨λ j x u L e=>?_,by rw[aa];exact g2,?_⟩
  .by_cases T:j=i
   .subst T;rw[hmi]at e;cases e
   .rw[M j T]at e;exact g1 j x u L e
  rw[M 0 (Ne.symm f),h0];refine⟨λ j a ha ho I=>G j a ha ho (by rw[<- (hM j).2];exact I),ZJ S s me',st',sm',hx.turn a1 hmi M K.two hw af ah ?_ ?_ ?_⟩
  .rw[DB _ _ _ X,aa];exact hx.dep
  .rw[DB _ _ _ X,aa,xN _ _ _ _ _ al];exact hx.dep'
  .intro j x' s' me lo1 y e hy hns
   have T:j≠i:=λ T=>by
    subst T;rw[Wi hi]at hy;cases hy;exact hns Y
   rw[M j T]at e;rw[J3 T]at hy;obtain⟨z,hz,rfl⟩:=Option.map_eq_some_iff.1 hy;have aq:z.status≠.running:=λ I=>hns (by rw[Wc I];exact I);rcases a7 with rfl|rfl|a3
   .exact hx.slp j _ _ _ _ z e hz aq
   .rfl
   .exfalso;have a4:rk j≠none:=λ hn=>by rw[h.bareM j hn]at e;cases e
    obtain⟨a9,ak⟩:=Option.ne_none_iff_exists'.1 a4;obtain⟨ac,ad,hg⟩:=h.live j a9 (λ e'=>T (Option.some.inj e').symm) ak;have F:=ad.running E;rcases hg with hg|⟨hg,ho,_⟩
    .rw[hz]at hg;cases hg;exact aq F
    .rw[hz]at hg;cases hg;refine hns ?_
     have:woken P g g' (two w x.m x.t (Zb st') (Qp sm')) { ac with status:=.blocked }=ac:=by
      unfold woken;rw[if_pos,again_blocked F ho];rw[Y,a3];rfl
     rw[this];exact F
def MI.mblk(h:MI P t N Stop (some i) gs w tr V rk rel q) (hi:gs[i]?=some g) (E:g.status=.running) (T:g.offers=none) (U:rk i=some r) (f:i≠0) (G:(V (.run i)).tok=⟨d,.wrk b D,some (.lok x s .wai lo)⟩)
  (M:Q2 V 0=some (.par x u)) (B:∀j,QJ x.m (V j)) (hx:WY gs w V x u L st 0)
  (K:Qc P x.t false g (Zb st) (Qp 0)=.blocked { g with status:=.blocked } (Zb st) (Qp 0) bs) (I:Z5 x.m bs) (Q:JR (Za P t N) Stop r false g (V (.run i))):JJ P t N Stop gs w sl tr rk q i:=by
 have F:stepG P (i==0) g w=.go { g with status:=.blocked } w #[]:=by
  rw[show(i==0)=false by simpa using f];have:=E8 K hx.sh I
  rwa [hx.sh.two_same]at this
 have H:∀j,j≠i->(gs.setIfInBounds i { g with status:=.blocked })[j]?=gs[j]?:=λ j S=>Array.getElem?_setIfInBounds_ne (Ne.symm S);refine h.sleep hi E T U (.inr ⟨d,b,D,x,s,lo,G⟩) F (by rw[show(i==0)=false by simpa using f];exact Q) ?_ ?_
 .have hG:=h.grp;unfold QH at hG ⊢;rw[H 0 (Ne.symm f)];exact hG
 .obtain⟨g1,g2,-⟩:=h.mux;refine⟨g1,g2,?_⟩;rw[M];exact⟨B,L,st,0,hx.sh,hx.word,hx.tk,hx.one,hx.who,hx.idle,hx.dep,hx.dep',λ _ _ _ _ _ _ _ _ _=>rfl⟩
def MI.macq(F:∀m g U,Stop m g U->g.status=.running){i:Nat}{g g':Gr}{r r':Tr}{b:Nat}{D:Spec}{x:QW}{s:Bool}{lo st sm:Nat}{bs:List (Nat×Bool)}{u:Bool->Bool}{K:Bool->LP}
  (h:MI P t N Stop (some i) gs w tr V rk rel q) (hi:gs[i]?=some g) (Y:rk i=some r) (B:i≠0) (E:(V (.run i)).tok=⟨0,.wrk b D,some (.lok x s (K s) lo)⟩) (ab:K s=.got) (an:lo<=(K (!s)).cls)
  (h0:Q2 V 0=some (.par x u)) (ac:∀j,QJ x.m (V j)) (hx:WY gs w V x u K st sm)
  (ax:∀st sm,Qc P x.t false g st sm=.go g' st sm #[Z0 (.acquire ⟨x.m,0,none⟩)] bs) (al:Z5 x.m bs) (ah:Tr.Sub r' r)
  (hJ:JR (Za P t N) Stop r' false g' { (V (.run i))with M:=(V (.run i)).M++(V .lck).M,tok:=⟨0,.wrk b D,some (.lok x s (.own (K (!s)).rels) lo)⟩ }):JJ P t N Stop gs w sl tr rk q i:=by
 have ao:=(Array.getElem?_eq_some_iff.1 hi).1;have ad:rk i≠none:=by rw[Y];simp
 have ae:=hJ.running F;have S:=hx.sh;have aq:Q2 V i=some (.lok x s (K s) lo):=by unfold Q2;rw[E]
 obtain⟨ds,pend,k,av,X,W,c,wt,a1,af,am,ak⟩:=h.inGrp B (b:=b) (D:=D) (by rw[E])
 have ag:stepG P (i==0) g w=.go g' w #[Z0 (.acquire ⟨x.m,0,none⟩)]:=by
  rw[show(i==0)=false by simpa using B];have:=H6 (ax (Zb st) (Qp sm)) S al
  rwa [S.two_same]at this
 have aa:Deaf tr i=0:=by rw[h.deaf i ad,E]
 have hw:=hx.word;rw[H8 _ s,ab]at hw;obtain⟨az,a3⟩:=LP.word_own hw
 let V0:Hd->Qa Tk:=Q1 (Q1 V (.run i) ((V (.run i)).with (V .lck).M)) .lck (Qa.bare ⟨0,.out,none⟩)
 have I:VI V0 w:=h.vi.join (k:=.run i) (k':=.lck) S1 _
 let f:Hd->Qa Tk:=Q1 V0 (.run i) { (V (.run i))with M:=(V (.run i)).M++(V .lck).M,tok:=⟨0,.wrk b D,some (.lok x s (.own (K (!s)).rels) lo)⟩ }
 have v1:f (.run i)={ (V (.run i))with M:=(V (.run i)).M++(V .lck).M,tok:=⟨0,.wrk b D,some (.lok x s (.own (K (!s)).rels) lo)⟩ }:=Ql ..;have z1:V0 (.run i)=(V (.run i)).with (V .lck).M:=by show Q1 _ _ _ _=_;rw[Qh _ _ S1,Ql]
 have Z:∀j,j≠i->f (.run j)=V (.run j):=λ j L=>by show Q1 _ _ _ _=_;rw[Qh _ _ (by intro e;cases e;exact L rfl)];show Q1 _ _ _ _=_;rw[Qh _ _ S1,Qh _ _ (by intro e;cases e;exact L rfl)]
 have vd:∀j,f (.dep j)=V (.dep j):=λ j=>by show Q1 _ _ _ _=_;rw[Qh _ _ S1];show Q1 _ _ _ _=_;rw[Qh _ _ S1,Qh _ _ S1]
 have vm:f .lck=ZH:=by show Q1 _ _ _ _=_;rw[Qh _ _ S1];exact Ql ..
 have hs:∀k,(f k).canW=(V0 k).canW/\(f k).canR=(V0 k).canR:=by
  intro k;by_cases e:k=.run i
  .subst e;rw[v1,z1];exact⟨rfl,rfl⟩
  .rw[show f k=_ from Qh _ _ e];exact⟨rfl,rfl⟩
 have ay:VI f w:=by
  refine⟨λ k=>?_,λ ai aj l hn hw Y=>I.sep ai aj l hn (by rw[<- (hs ai).1];exact hw) (by rw[<- (hs aj).2];exact Y)⟩;by_cases e:k=.run i
  .subst e;rw[v1];have:=I.ok (.run i);rw[z1]at this;exact⟨this.imm,this.held,this.apart,this.sep⟩
  .rw[show f k=_ from Qh _ _ e];exact I.ok k
 have hW:∀k l,(f k).canW l->k≠.lck/\((V k).canW l\/(k=.run i/\(V .lck).canW l)):=by
  intro k l hl;cases k with
  |run j=>
   refine⟨S1,?_⟩;by_cases e:j=i
   .subst e;rw[(hs _).1,z1]at hl;exact(OD (τ:=V .lck) hl).imp id λ h=>⟨rfl,h⟩
   .rw[Z j e]at hl;exact .inl hl
  |dep j=>rw[vd]at hl;exact⟨S1,.inl hl⟩
  |lck=>rw[vm]at hl;exact absurd hl (Wh _ _)
 have hR:∀k l,(f k).canR l->k≠.lck/\((V k).canR l\/(k=.run i/\(V .lck).canR l)):=by
  intro k l hl;cases k with
  |run j=>
   refine⟨S1,?_⟩;by_cases e:j=i
   .subst e;rw[(hs _).2,z1]at hl;exact(OC (τ:=V .lck) hl).imp id λ h=>⟨rfl,h⟩
   .rw[Z j e]at hl;exact .inl hl
  |dep j=>rw[vd]at hl;exact⟨S1,.inl hl⟩
  |lck=>rw[vm]at hl;exact absurd hl (Wg _ _)
 have G:∀m,(∀j,QJ m (V j))->∀j,QJ m (f j):=λ m hm j a ha ho aw=>by
  rcases(hR _ _ aw).2 with h1|⟨_,h1⟩
  .exact hm _ a ha ho h1
  .exact hm _ a ha ho h1
 have H:∀j,(f (.run j)).tok.ph=(V (.run j)).tok.ph:=by
  intro j;by_cases e:j=i
  .subst e;rw[v1,E]
  .rw[Z j e]
 have au:x.m<w.heap.size:=(Array.getElem?_eq_some_iff.1 S).1;have a2:=h.wk i B ad;have ap:Jv V=some x.m:=by unfold Jv;rw[h0];rfl
 have e0:MemOp.ofEvents i g.frame.fn g.frame.place #[Z0 (.acquire ⟨x.m,0,none⟩)]=#[{ g:=i,fn:=g.frame.fn,pos:=g.frame.place,act:=.mark (.acquire ⟨x.m,0,none⟩) }]:=by
  rw[ofEvents_eq];simp[Z0,MemAct.ofEvent]
 refine⟨_,_,_,f,Zp rk i (some r'),rel,q,runT_crowd_go hi ag,?_,Xo Jl ao Y λ a0 e=>by cases e;exact ah,.refl _,rfl⟩;refine h.go F (V':=f) (rel':=rel) (q':=q) (es:=#[Z0 (.acquire ⟨x.m,0,none⟩)]) hi Z (λ j L=>Qu _ _ L) (λ _ _=>rfl) (λ _ _=>.inl rfl) (by rw[Qu _ _ (Ne.symm B)];exact h.root) (.inl B) ?_ ?_ (λ j L=>by rw[vd];exact h.deps j L) ay ?_ ?_ ?_ (λ e=>by rw[Qk]at e;cases e)
 .intro a0 e;rw[Qk]at e;cases e;rw[v1];refine⟨by rw[show(i==0)=false by simpa using B];exact hJ,?_,λ _=>⟨b,D,rfl⟩⟩;rw[aa];rfl
 .intro e;rw[Qk]at e;cases e
 .obtain⟨rm,hti⟩:=h.ti;refine⟨rm,?_⟩;have e1:Jv f=Jv V:=by unfold Jv Q2;rw[Z 0 (Ne.symm B)]
  rw[e1,e0];simp only[H];exact hti.macq (y:={ g:=i,fn:=g.frame.fn,pos:=g.frame.place,act:=.mark (.acquire ⟨x.m,0,none⟩) }) ap rfl au aa (.inr (by rw[E];simp)) hW hR
 .unfold QH;rw[H 0,av];have hk:Z1 f=Z1 V:=by funext j;simp only[Z1,H]
  refine⟨G _ X,W,c,wt,a1,af,?_,QH.woken hi (λ e=>absurd e B) ak⟩;rw[hk];simpa only[vd]using am
 .have hmi:Q2 f i=some (.lok x s (.own (K (!s)).rels) lo):=by unfold Q2;rw[v1]
  have Q:∀j,j≠i->Q2 f j=Q2 V j:=λ j L=>by unfold Q2;rw[Z j L]
  obtain⟨g1,g2,-⟩:=h.mux;refine⟨λ j x u L e=>?_,by rw[vm];rfl,?_⟩
  .by_cases T:j=i
   .subst T;rw[hmi]at e;cases e
   .rw[Q j T]at e;exact g1 j x u L e
  rw[Q 0 (Ne.symm B),h0];refine⟨G _ ac,ZJ K s (.own (K (!s)).rels),st,sm,hx.turn aq hmi Q S az (by rw[ab];exact Nat.le_refl _) an (λ _=>vm) (λ e=>?_) ?_⟩
  .exfalso;rw[Uh _ s,J6]at e;simp[LP.isOwn]at e
  .intro j x' s' me lo1 y e hy hns
   have T:j≠i:=λ T=>by
    subst T;rw[Wi hi]at hy;cases hy;exact hns ae
   rw[Q j T]at e;rw[J3 T]at hy;obtain⟨z,hz,rfl⟩:=Option.map_eq_some_iff.1 hy;exact hx.slp j _ _ _ _ z e hz λ Y=>hns (by rw[Wc Y];exact Y)
def MI.mrel(F:∀m g U,Stop m g U->g.status=.running){i:Nat}{g g':Gr}{r r':Tr}{b:Nat}{D:Spec}{x:QW}{s v:Bool}{lo st sm:Nat}{bs:List (Nat×Bool)}{u:Bool->Bool}{X:Bool->LP}{M₁ M₂:List Qw}
  (h:MI P t N Stop (some i) gs w tr V rk rel q) (hi:gs[i]?=some g) (hr:rk i=some r) (f:i≠0) (E:(V (.run i)).tok=⟨0,.wrk b D,some (.lok x s (X s) lo)⟩) (aa:X s=.own v) (am:lo<=(X (!s)).cls)
  (h0:Q2 V 0=some (.par x u)) (ab:∀j,QJ x.m (V j)) (hx:WY gs w V x u X st sm) (hM:(V (.run i)).M=M₁++M₂) (hD:x.sp (if s then v else true) (if s then true else v) M₁)
  (ax:∀st sm,Qc P x.t false g st sm=.go g' st sm #[Z0 (.releaseMerge ⟨x.m,0,none⟩)] bs) (ak:Z5 x.m bs) (ag:Tr.Sub r' r)
  (hJ:JR (Za P t N) Stop r' false g' { (V (.run i))with M:=M₂,tok:=⟨0,.wrk b D,some (.lok x s .rls lo)⟩ }):JJ P t N Stop gs w sl tr rk q i:=by
 have an:=(Array.getElem?_eq_some_iff.1 hi).1;have ac:rk i≠none:=by rw[hr];simp
 have ad:=hJ.running F;have Q:=hx.sh;have ap:Q2 V i=some (.lok x s (X s) lo):=by unfold Q2;rw[E]
 obtain⟨ds,pend,k,au,T,W,c,wt,a1,ae,al,aj⟩:=h.inGrp f (b:=b) (D:=D) (by rw[E])
 have af:stepG P (i==0) g w=.go g' w #[Z0 (.releaseMerge ⟨x.m,0,none⟩)]:=by
  rw[show(i==0)=false by simpa using f];have:=H6 (ax (Zb st) (Qp sm)) Q ak
  rwa [Q.two_same]at this
 have Z:Deaf tr i=0:=by rw[h.deaf i ac,E]
 have hw:=hx.word;rw[H8 _ s,aa]at hw;obtain⟨az,ah,av⟩:=LP.word_rls hw;have hf:=Fc (tp:=(⟨0,.wrk b D,some (.lok x s .rls lo)⟩:Tk)) (tc:=(⟨0,.out,none⟩:Tk)) (h.vi.ok (.run i)) (M₁:=M₁) (M₂:=M₂) (by rw[hM])
 let B:Hd->Qa Tk:=Q1 (Q1 V (.run i) ⟨(V (.run i)).I,M₂,⟨0,.wrk b D,some (.lok x s .rls lo)⟩⟩) .lck ⟨λ _=>none,M₁,⟨0,.out,none⟩⟩
 have ay:VI B w:=h.vi.fork hf S1;have v1:B (.run i)=⟨(V (.run i)).I,M₂,⟨0,.wrk b D,some (.lok x s .rls lo)⟩⟩:=by show Q1 _ _ _ _=_;rw[Qh _ _ S1,Ql]
 have Y:∀j,j≠i->B (.run j)=V (.run j):=λ j K=>by show Q1 _ _ _ _=_;rw[Qh _ _ S1,Qh _ _ (by intro e;cases e;exact K rfl)]
 have vd:∀j,B (.dep j)=V (.dep j):=λ j=>by show Q1 _ _ _ _=_;rw[Qh _ _ S1,Qh _ _ S1]
 have vm:B .lck=⟨λ _=>none,M₁,⟨0,.out,none⟩⟩:=Ql ..
 have hW:∀k l,(B k).canW l->((V k).canW l/\k≠.lck)\/(k=.lck/\(V (.run i)).canW l):=by
  intro k l hl;cases k with
  |run j=>
   by_cases e:j=i
   .subst e;rw[v1]at hl;exact .inl ⟨hf.wp l hl,S1⟩
   .rw[Y j e]at hl;exact .inl ⟨hl,S1⟩
  |dep j=>rw[vd]at hl;exact .inl ⟨hl,S1⟩
  |lck=>rw[vm]at hl;exact .inr ⟨rfl,hf.wc l hl⟩
 have hR:∀k l,(B k).canR l->((V k).canR l/\k≠.lck)\/(k=.lck/\(V (.run i)).canR l):=by
  intro k l hl;cases k with
  |run j=>
   by_cases e:j=i
   .subst e;rw[v1]at hl;exact .inl ⟨hf.rp l hl,S1⟩
   .rw[Y j e]at hl;exact .inl ⟨hl,S1⟩
  |dep j=>rw[vd]at hl;exact .inl ⟨hl,S1⟩
  |lck=>rw[vm]at hl;exact .inr ⟨rfl,hf.rc l hl⟩
 have G:∀m,(∀j,QJ m (V j))->∀j,QJ m (B j):=λ m hm j a ha ho aw=>by
  rcases hR _ _ aw with⟨h1,_⟩|⟨_,h1⟩
  .exact hm _ a ha ho h1
  .exact hm _ a ha ho h1
 have H:∀j,(B (.run j)).tok.ph=(V (.run j)).tok.ph:=by
  intro j;by_cases e:j=i
  .subst e;rw[v1,E]
  .rw[Y j e]
 have aq:x.m<w.heap.size:=(Array.getElem?_eq_some_iff.1 Q).1;have ai:=h.wk i f ac;have ao:Jv V=some x.m:=by unfold Jv;rw[h0];rfl
 have e0:MemOp.ofEvents i g.frame.fn g.frame.place #[Z0 (.releaseMerge ⟨x.m,0,none⟩)]=#[{ g:=i,fn:=g.frame.fn,pos:=g.frame.place,act:=.mark (.releaseMerge ⟨x.m,0,none⟩) }]:=by
  rw[ofEvents_eq];simp[Z0,MemAct.ofEvent]
 refine⟨_,_,_,B,Zp rk i (some r'),rel,q,runT_crowd_go hi af,?_,Xo Jl an hr λ a0 e=>by cases e;exact ag,.refl _,rfl⟩;refine h.go F (V':=B) (rel':=rel) (q':=q) (es:=#[Z0 (.releaseMerge ⟨x.m,0,none⟩)]) hi Y (λ j K=>Qu _ _ K) (λ _ _=>rfl) (λ _ _=>.inl rfl) (by rw[Qu _ _ (Ne.symm f)];exact h.root) (.inl f) ?_ ?_ (λ j K=>by rw[vd];exact h.deps j K) ay ?_ ?_ ?_ (λ e=>by rw[Qk]at e;cases e)
 .intro a0 e;rw[Qk]at e;cases e;rw[v1];refine⟨by rw[show(i==0)=false by simpa using f];exact hJ,?_,λ _=>⟨b,D,rfl⟩⟩;rw[Z];rfl
 .intro e;rw[Qk]at e;cases e
 .obtain⟨rm,hti⟩:=h.ti;refine⟨some tr.size,?_⟩;have e1:Jv B=Jv V:=by unfold Jv Q2;rw[Y 0 (Ne.symm f)]
  rw[e1,e0];simp only[H];exact hti.mrel (y:={ g:=i,fn:=g.frame.fn,pos:=g.frame.place,act:=.mark (.releaseMerge ⟨x.m,0,none⟩) }) ao rfl aq Z ai hW hR
 .unfold QH;rw[H 0,au];have hk:Z1 B=Z1 V:=by funext j;simp only[Z1,H]
  refine⟨G _ T,W,c,wt,a1,ae,?_,QH.woken hi (λ e=>absurd e f) aj⟩;rw[hk];simpa only[vd]using al
 .have hmi:Q2 B i=some (.lok x s .rls lo):=by unfold Q2;rw[v1]
  have L:∀j,j≠i->Q2 B j=Q2 V j:=λ j K=>by unfold Q2;rw[Y j K]
  obtain⟨g1,g2,-⟩:=h.mux;refine⟨λ j x u K e=>?_,by rw[vm],?_⟩
  .by_cases S:j=i
   .subst S;rw[hmi]at e;cases e
   .rw[L j S]at e;exact g1 j x u K e
  rw[L 0 (Ne.symm f),h0];refine⟨G _ ab,ZJ X s .rls,st,sm,hx.turn ap hmi L Q az (by rw[aa];exact Nat.le_refl _) am (λ e=>?_) (λ _=>?_) ?_⟩
  .exfalso;rw[Uh _ s,J6,Y3,av]at e;simp[LP.isOwn]at e
  .rw[vm];unfold QW.dep;cases s
   .rw[J6,Xq _ _ S1];rw[ah]at hD;exact hD
   .rw[J6,Xq _ _ S1];rw[ah]at hD;exact hD
  .intro j x' s' me lo1 y e hy hns
   have S:j≠i:=λ S=>by
    subst S;rw[Wi hi]at hy;cases hy;exact hns ad
   rw[L j S]at e;rw[J3 S]at hy;obtain⟨z,hz,rfl⟩:=Option.map_eq_some_iff.1 hy;exact hx.slp j _ _ _ _ z e hz λ hr=>hns (by rw[Wc hr];exact hr)
def MI.make(h:MI P t N Stop (some 0) gs w tr V rk rel q)(hi:gs[0]?=some g)(E:(V (.run 0)).tok=⟨0,.out,none⟩)
  (hM:(V (.run 0)).M=M₁++.obj b (.cells #[Q0 0 0,Qp 0] t (0,0))::M₂) (hJ:JR (Za P t N) Stop r' true g { (V (.run 0))with M:=M₁++M₂,tok:=⟨0,.par b [] false .run,none⟩ }) :
  MI P t N Stop none gs w tr (Q1 V (.run 0) { (V (.run 0))with M:=M₁++M₂,tok:=⟨0,.par b [] false .run,none⟩ }) (Zp rk 0 (some r')) rel q:=by
 have hG:=h.grp;unfold QH at hG;rw[E]at hG;obtain⟨ac,T⟩:=hG;have G:=h.vi.ok (.run 0)
 let B:Qa Tk:={ (V (.run 0))with M:=M₁++M₂,tok:=⟨0,.par b [] false .run,none⟩ }
 have S:Q1 V (.run 0) B (.run 0)=B:=Ql ..;have U:∀j,j≠0->Q1 V (.run 0) B (.run j)=V (.run j):=λ j f=>Qh _ _ (λ e=>f (Hd.run.inj e));have vd:∀j,Q1 V (.run 0) B (.dep j)=V (.dep j):=λ j=>Qh _ _ S1
 have F:∀x,x∈M₁++M₂->x∈(V (.run 0)).M:=by
  intro x hx;rw[hM];rcases mem_append.1 hx with hx|hx
  .exact mem_append_left _ hx
  .exact mem_append_right _ (mem_cons_of_mem _ hx)
 have L:Qw.obj b (.cells #[Q0 0 0,Qp 0] t (0,0))∈(V (.run 0)).M:=by rw[hM];simp
 have af:Sh b t (Q0 0 0) (Qp 0) w:=G.held _ L
 have ag:∀l,B.canW l->(V (.run 0)).canW l:=λ l hl=>by
  obtain⟨x,hx,hl⟩:=Q4.1 hl;exact Q4.2 ⟨x,F x hx,hl⟩
 have ae:∀l,B.canR l->(V (.run 0)).canR l:=λ l hl=>by
  rcases Qx.1 hl with⟨x,hx,hl⟩|hl
  .exact Qx.2 (.inl ⟨x,F x hx,hl⟩)
  .exact Qx.2 (.inr hl)
 have X:=G.apart;rw[hM]at X;obtain⟨p1,p2,p3⟩:=pairwise_append.1 X;obtain⟨p4,p5⟩:=pairwise_cons.1 p2
 have Y:∀x∈M₁++M₂,x.blk≠b:=by
  intro x hx e;rcases mem_append.1 hx with hx|hx
  .have:=p3 x hx (.obj b (.cells #[Q0 0 0,Qp 0] t (0,0))) S1;cases x <;> simp only[Qw.apart,Qw.blk]at this e <;> exact this e
  .have:=p4 x hx;cases x <;> simp only[Qw.apart,Qw.blk]at this e <;> exact this e.symm
 have ab:B.ok w:=⟨G.imm,λ x hx=>G.held x (F x hx),pairwise_append.2 ⟨p1,p5,λ x hx y hy=>p3 x hx y (mem_cons_of_mem _ hy)⟩,λ x hx=>G.sep x (F x hx)⟩;have Z:∀a:Addr,a.block=b->a.off<2->(V (.run 0)).canW (.cell a):=λ a ha ho=>Q4.2 ⟨_,L,ha,ho⟩
 have hW:∀k l,(Q1 V (.run 0) B k).canW l->(V k).canW l:=by
  intro k l hl;by_cases e:k=.run 0
  .subst e;rw[S]at hl;exact ag l hl
  .rwa [Qh _ _ e]at hl
 have hR:∀k l,(Q1 V (.run 0) B k).canR l->(V k).canR l:=by
  intro k l hl;by_cases e:k=.run 0
  .subst e;rw[S]at hl;exact ae l hl
  .rwa [Qh _ _ e]at hl
 have aa:∀k,QJ b (Q1 V (.run 0) B k):=by
  intro k a ha ho H;by_cases e:k=.run 0
  .subst e;rw[S]at H;rcases Qx.1 H with⟨x,hx,hl⟩|⟨c,ty,fr,hI,_⟩
   .have:=Y x hx;cases x with
    |obj b' o=>
     cases o <;> simp only[Qw.lets]at hl;exact this (by rw[Qw.blk,<- hl.1,ha])
    |cell b' i' v ty n=>simp only[Qw.lets]at hl;exact this (by rw[Qw.blk,<- hl.1,ha])
   .have:=G.sep _ L;rw[Qw.blk,<- ha]at this;have W:(V (.run 0)).I a.block=some (.cells c ty fr):=hI;rw[this]at W;cases W
  .rw[Qh _ _ e]at H;exact h.vi.sep (.run 0) k _ (Ne.symm e) (Z a ha ho) H
 have hT:∀j,j≠0->(Q1 V (.run 0) B (.run j)).tok.ph=.out:=λ j f=>by rw[U j f];exact ac j f
 have K:∀j,j≠0->Zp rk 0 (some r') j=rk j:=λ j f=>Qu _ _ f;have ad:Q2 V 0=none:=by unfold Q2;rw[E]
 obtain⟨g1,g2,g3⟩:=h.mux;rw[ad]at g3;obtain⟨g3,g4⟩:=g3;have vm:Q1 V (.run 0) B .lck=ZH:=by rw[Qh _ _ S1];exact g4
 have Q:∀j,Q2 (Q1 V (.run 0) B) j=none:=by
  intro j;by_cases e:j=0
  .subst e;unfold Q2;rw[S]
  .unfold Q2;rw[U j e];exact g3 j
 refine⟨?_,by rw[Qk];simp,?_,?_,?_,?_,?_,?_,?_,λ j f=>by rw[vd];exact h.deps j f,?_,?_,?_,⟨λ j x u _ e=>(by rw[Q]at e;cases e),by rw[vm];rfl,by rw[Q];exact⟨Q,vm⟩⟩,λ j _=>Q j⟩
 .intro j r'' _ hr'';by_cases e:j=0
  .subst e;rw[Qk]at hr'';cases hr'';exact⟨g,by rw[S];exact hJ,.inl hi⟩
  .rw[K j e]at hr'';obtain⟨x,k1,k2⟩:=h.live j r'' (λ e'=>e (Option.some.inj e').symm) hr'';exact⟨x,by rw[U j e];exact k1,by rw[U j e];exact k2⟩
 .intro j x f hx _;have e:j≠0:=λ e=>by subst e;rw[Qk]at f;cases f
  rw[K j e]at f;exact h.gone j x f hx (ac j e)
 .intro j f hp;have e:j≠0:=λ e=>by subst e;rw[Qk]at f;cases f
  exact absurd (hT j e) hp
 .intro j f;have e:j≠0:=by have:=(Array.getElem?_eq_some_iff.1 hi).1;omega
  rw[K j e];exact h.above j f
 .intro j f;have e:j≠0:=λ e=>by subst e;rw[Qk]at f;cases f
  rw[K j e]at f;rw[U j e];exact h.bare j f
 .intro j h0 f;rw[K j h0]at f;rw[U j h0];exact h.wk j h0 f
 .intro j f;by_cases e:j=0
  .subst e;rw[Qk];simp
  .rw[hT j e]at f;obtain⟨_,_,e'⟩:=f;cases e'
 .intro j f;by_cases e:j=0
  .subst e;rw[S];rw[h.deaf 0 h.root,E]
  .rw[K j e]at f;rw[U j e];exact h.deaf j f
 .refine⟨λ k=>?_,λ ah ai l hn hw H=>h.vi.sep ah ai l hn (hW _ _ hw) (hR _ _ H)⟩;by_cases e:k=.run 0
  .subst e;rw[S];exact ab
  .rw[Qh _ _ e];exact h.vi.ok k
 .obtain⟨rm,hti⟩:=h.ti;rw[E]at hti;refine⟨none,?_⟩;have e0:Jv (Q1 V (.run 0) B)=none:=by unfold Jv;rw[Q];rfl
  rw[S,e0];have:=hti.create (b:=b) (W':=λ k=>(Q1 V (.run 0) B k).canW) (R':=λ k=>(Q1 V (.run 0) B k).canR) (λ l=>by rw[vm];exact Wh _ _) (λ l=>by rw[vm];exact Wg _ _) T Z hW hR
  have e3:(λ j=>ZL (Q1 V (.run 0) B (.run j)).tok.ph)=λ j=>ZL (V (.run j)).tok.ph:=by
   funext j;by_cases e:j=0
   .subst e;rw[S,E];refine propext ⟨?_,?_⟩ <;> (rintro⟨_,_,e⟩;cases e)
   .rw[U j e]
  rw[e3];refine this.turn (λ _ _ h=>h) (λ _ _ h=>h) ?_;rintro j (rfl|f)
  .rfl
  .apply Classical.byContradiction;intro e;exact f (hT j e)
 .unfold QH;rw[S];refine⟨aa,[],0,0,0,af,?_,λ _ _ _=>rfl⟩;refine GI.start (λ i=>?_) T;by_cases e:i=0
  .simp[Z1,e]
  .simp only[Z1,if_neg e];exact hT i e
def MI.makeM(h:MI P t N Stop (some 0) gs w tr V rk rel q)(hi:gs[0]?=some g)(H:(V (.run 0)).tok=⟨0,.par b [] false .run,none⟩)
  (hM:(V (.run 0)).M=.obj x.m (.cells #[Zb 0,Qp 0] x.t (0,0))::(M₁++M₂)) (hD:x.sp false false M₁) (hJ:JR (Za P t N) Stop r' true g { (V (.run 0))with M:=M₂,tok:=⟨0,.par b [] false .run,some (.par x λ _=>false)⟩ }) :
  MI P t N Stop none gs w tr (Q1 (Q1 V (.run 0) { (V (.run 0))with M:=M₂,tok:=⟨0,.par b [] false .run,some (.par x λ _=>false)⟩ }) .lck ⟨λ _=>none,M₁,⟨0,.out,none⟩⟩) (Zp rk 0 (some r')) rel q:=by
 have hG:=h.grp;unfold QH at hG;rw[H]at hG;obtain⟨Q,W,c,wt,s,an,ab,ap⟩:=hG;have ao:W=[]:=eq_nil_of_length_eq_zero ab.len
 have af:∀j,j≠0->(V (.run j)).tok.ph=.out:=by
  intro j f;apply Classical.byContradiction;intro hn;have:=ab.inW j (.inl (by simpa[Z1,f]using hn));rw[ao]at this;cases this
 have K:=h.vi.ok (.run 0);have al:Q2 V 0=none:=by unfold Q2;rw[H]
 obtain⟨g1,g2,g3⟩:=h.mux;rw[al]at g3;obtain⟨g3,g4⟩:=g3
 let U2:Qa Tk:={ (V (.run 0))with M:=M₂,tok:=⟨0,.par b [] false .run,some (.par x λ _=>false)⟩ }
 let B:=Q1 (Q1 V (.run 0) U2) .lck ⟨λ _=>none,M₁,⟨0,.out,none⟩⟩
 have v0:B (.run 0)=U2:=by show Q1 _ _ _ _=_;rw[Qh _ _ S1,Ql]
 have Y:∀j,j≠0->B (.run j)=V (.run j):=λ j f=>by show Q1 _ _ _ _=_;rw[Qh _ _ S1,Qh _ _ (λ e=>f (Hd.run.inj e))]
 have vd:∀j,B (.dep j)=V (.dep j):=λ j=>by show Q1 _ _ _ _=_;rw[Qh _ _ S1,Qh _ _ S1]
 have vm:B .lck=⟨λ _=>none,M₁,⟨0,.out,none⟩⟩:=Ql ..;have L:Qw.obj x.m (.cells #[Zb 0,Qp 0] x.t (0,0))∈(V (.run 0)).M:=by rw[hM];simp
 have aq:Sh x.m x.t (Zb 0) (Qp 0) w:=K.held _ L;have aj:=K.apart;rw[hM]at aj;obtain⟨p4,p5⟩:=pairwise_cons.1 aj;have F:∀y,y∈M₁++M₂->y∈(V (.run 0)).M:=λ y hy=>by rw[hM];exact mem_cons_of_mem _ hy
 have am:Qa.ok ({ (V (.run 0))with M:=M₁++M₂ }:Qa Tk) w:=⟨K.imm,λ y hy=>K.held y (F y hy),p5,λ y hy=>K.sep y (F y hy)⟩;have hf:=Fc (U:=({ (V (.run 0))with M:=M₁++M₂ }:Qa Tk)) (tp:=(⟨0,.par b [] false .run,some (.par x λ _=>false)⟩:Tk)) (tc:=(⟨0,.out,none⟩:Tk)) am (M₁:=M₁) (M₂:=M₂) (Perm.refl _)
 have ah:∀l,Qa.canW ({ (V (.run 0))with M:=M₁++M₂ }:Qa Tk) l->(V (.run 0)).canW l:=λ l hl=>by
  obtain⟨y,hy,hl⟩:=Q4.1 hl;exact Q4.2 ⟨y,F y hy,hl⟩
 have ag:∀l,Qa.canR ({ (V (.run 0))with M:=M₁++M₂ }:Qa Tk) l->(V (.run 0)).canR l:=λ l hl=>by
  rcases Qx.1 hl with⟨y,hy,hl⟩|hl
  .exact Qx.2 (.inl ⟨y,F y hy,hl⟩)
  .exact Qx.2 (.inr hl)
 have ak:∀y∈M₁++M₂,y.blk≠x.m:=by
  intro y hy e;have:=p4 y hy;cases y <;> simp only[Qw.apart,Qw.blk]at this e <;> exact this e.symm
 have S:QJ x.m ({ (V (.run 0))with M:=M₁++M₂ }:Qa Tk):=by
  intro a ha T E;rcases Qx.1 E with⟨y,hy,hl⟩|⟨c,ty,fr,hI,_⟩
  .have:=ak y hy;cases y with
   |obj b' o=>
    cases o <;> simp only[Qw.lets]at hl;exact this (by rw[Qw.blk,<- hl.1,ha])
   |cell b' i' v ty n=>simp only[Qw.lets]at hl;exact this (by rw[Qw.blk,<- hl.1,ha])
  .have:=K.sep _ L;rw[Qw.blk,<- ha]at this;have ai:(V (.run 0)).I a.block=some (.cells c ty fr):=hI;rw[this]at ai;cases ai
 have aa:∀a:Addr,a.block=x.m->a.off<2->(V (.run 0)).canW (.cell a):=λ a ha T=>Q4.2 ⟨_,L,ha,T⟩
 have au:VI (Q1 V (.run 0) ({ (V (.run 0))with M:=M₁++M₂ }:Qa Tk)) w:=h.vi.shift ⟨rfl,λ w' X=>by
  have Z:=X.apart;rw[hM]at Z;exact⟨⟨X.imm,λ y hy=>X.held y (F y hy),(pairwise_cons.1 Z).2,λ y hy=>X.sep y (F y hy)⟩,ah,ag⟩⟩
 have av:VI B w:=by
  have:=au.fork (k:=.run 0) (c:=.lck) (Up:=U2) (Uc:=⟨λ _=>none,M₁,⟨0,.out,none⟩⟩) (by rw[Ql];exact hf) S1
  have e:Q1 (Q1 (Q1 V (.run 0) ({ (V (.run 0))with M:=M₁++M₂ }:Qa Tk)) (.run 0) U2) .lck (⟨λ _=>none,M₁,⟨0,.out,none⟩⟩:Qa Tk)=B:=by
   funext k;by_cases e1:k=.lck
   .subst e1;rw[Ql,vm]
   .rw[Qh _ _ e1];show _=Q1 _ _ _ k;rw[Qh _ _ e1];by_cases e2:k=.run 0
    .subst e2;rw[Ql,Ql]
    .rw[Qh _ _ e2,Qh _ _ e2,Qh _ _ e2]
  rw[e]at this;exact this
 have hW:∀k l,(B k).canW l->(V k).canW l\/(k=.lck/\(V (.run 0)).canW l):=by
  intro k l hl;cases k with
  |run j=>
   by_cases e:j=0
   .subst e;rw[v0]at hl;exact .inl (ah l (hf.wp l hl))
   .rw[Y j e]at hl;exact .inl hl
  |dep j=>rw[vd]at hl;exact .inl hl
  |lck=>rw[vm]at hl;exact .inr ⟨rfl,ah l (hf.wc l hl)⟩
 have hR:∀k l,(B k).canR l->(V k).canR l\/(k=.lck/\(V (.run 0)).canR l):=by
  intro k l hl;cases k with
  |run j=>
   by_cases e:j=0
   .subst e;rw[v0]at hl;exact .inl (ag l (hf.rp l hl))
   .rw[Y j e]at hl;exact .inl hl
  |dep j=>rw[vd]at hl;exact .inl hl
  |lck=>rw[vm]at hl;exact .inr ⟨rfl,ag l (hf.rc l hl)⟩
 have ae:∀k,QJ x.m (B k):=by
  intro k a ha T E;cases k with
  |run j=>
   by_cases e:j=0
   .subst e;rw[v0]at E;exact S a ha T (hf.rp _ E)
   .rw[Y j e]at E;exact h.vi.sep (.run 0) (.run j) _ (λ e'=>e (Hd.run.inj e').symm) (aa a ha T) E
  |dep j=>rw[vd]at E;exact h.vi.sep (.run 0) (.dep j) _ S1 (aa a ha T) E
  |lck=>rw[vm]at E;exact S a ha T (hf.rc _ E)
 have G:∀j,j≠0->Zp rk 0 (some r') j=rk j:=λ j f=>Qu _ _ f
 have hT:∀j,(B (.run j)).tok.ph=(V (.run j)).tok.ph:=by
  intro j;by_cases e:j=0
  .subst e;rw[v0,H]
  .rw[Y j e]
 have ac:Q2 B 0=some (.par x λ _=>false):=by unfold Q2;rw[v0]
 have ad:∀j,j≠0->Q2 B j=none:=λ j f=>by unfold Q2;rw[Y j f];exact g3 j
 refine⟨?_,by rw[Qk];simp,?_,?_,?_,?_,?_,?_,?_,λ j f=>by show B _=_;rw[vd];exact h.deps j f,av,?_,?_,?_,?_⟩
 .intro j r'' _ hr'';by_cases e:j=0
  .subst e;rw[Qk]at hr'';cases hr'';exact⟨g,by show JR _ _ _ _ _ (B _);rw[v0];exact hJ,.inl hi⟩
  .rw[G j e]at hr'';obtain⟨y,k1,k2⟩:=h.live j r'' (λ e'=>e (Option.some.inj e').symm) hr'';exact⟨y,by show JR _ _ _ _ _ (B _);rw[Y j e];exact k1,by show _\/_/\_/\Uz _ (B _).tok;rw[Y j e];exact k2⟩
 .intro j y f hy _;have e:j≠0:=λ e=>by subst e;rw[Qk]at f;cases f
  rw[G j e]at f;exact h.gone j y f hy (af j e)
 .intro j f hp;have e:j≠0:=λ e=>by subst e;rw[Qk]at f;cases f
  have hp:(B (.run j)).tok.ph≠.out:=hp;rw[hT]at hp;exact absurd (af j e) hp
 .intro j f;have e:j≠0:=by have:=(Array.getElem?_eq_some_iff.1 hi).1;omega
  rw[G j e];exact h.above j f
 .intro j f;have e:j≠0:=λ e=>by subst e;rw[Qk]at f;cases f
  rw[G j e]at f;show(B _).I=_/\(B _).M=_;rw[Y j e];exact h.bare j f
 .intro j h0 f;rw[G j h0]at f;show ZL (B _).tok.ph;rw[hT];exact h.wk j h0 f
 .intro j f;have f:ZL (B (.run j)).tok.ph:=f;rw[hT]at f;by_cases e:j=0
  .subst e;rw[Qk];simp
  .rw[G j e];exact h.wk' j f
 .intro j f;show _=(B _).tok.d;by_cases e:j=0
  .subst e;rw[v0];rw[h.deaf 0 h.root,H]
  .rw[G j e]at f;rw[Y j e];exact h.deaf j f
 .obtain⟨rm,hti⟩:=h.ti;have e0:Jv V=none:=by unfold Jv;rw[al];rfl
  have e1:Jv B=some x.m:=by unfold Jv;rw[ac];rfl
  rw[e0]at hti;refine⟨none,?_⟩;show TI (λ k=>(B k).canW) (λ k=>(B k).canR) rel (B (.run 0)).tok.ph.blk (Jv B) none (λ i=>i=0\/(B (.run i)).tok.ph≠.out) (λ i=>ZL (B (.run i)).tok.ph) w.heap.size tr;rw[e1];simp only[hT];refine hti.createM (act':=λ i=>i=0\/(V (.run i)).tok.ph≠.out) (λ j f=>?_) aa hW hR (λ l=>by rw[g4];exact Wh _ _) (λ l=>by rw[g4];exact Wg _ _);refine⟨?_,.inl rfl⟩;rcases f with rfl|f
  .rfl
  .apply Classical.byContradiction;intro e;exact f (af j e)
 .show QH t N gs w B rel;unfold QH;rw[v0];refine⟨λ k a ha T E=>?_,W,c,wt,s,an,?_,ap⟩
  .rcases hR k _ E with h1|⟨_,h1⟩
   .exact Q _ a ha T h1
   .exact Q _ a ha T h1
  .have hk:Z1 B=Z1 V:=by funext j;simp only[Z1,hT]
   rw[hk];simpa only[vd]using ab
 .show JI gs w B;refine⟨λ j y u f e=>(by rw[ad j f]at e;cases e),by rw[vm],?_⟩;rw[ac]
  have nl:∀j y s me lo,Q2 B j≠some (.lok y s me lo):=by
   intro j y s me lo e;by_cases ej:j=0
   .subst ej;rw[ac]at e;cases e
   .rw[ad j ej]at e;cases e
  exact⟨ae,λ _=>.idle,0,0,aq,rfl,λ j _ _ _ _ e=>absurd e (nl _ _ _ _ _),λ j _ _ _ _ _ _ _ _ e=>absurd e (nl _ _ _ _ _),λ s e=>(by cases e),λ _ _=>rfl,λ e=>(by cases e),λ _=>(by rw[vm];exact hD),λ j _ _ _ _ _ e=>absurd e (nl _ _ _ _ _)⟩
 .intro j f;have e:j≠0:=λ e=>by subst e;rw[Qk]at f;cases f
  exact ad j e
def Fin(P:Program)(Q:Value->Qa Tk->Prop):QI Tk:=λ m g U=>m=true/\g.status=.running/\U.tok=⟨0,.out,none⟩/\∃v,Q v U/\∀w,U.ok w->∃es,stepG P true g w=.ended (.done v) w es/\∀e∈es,JY U w e/\XU w e
def Fin.running:∀m g U,Fin P Q m g U->g.status=.running:=λ _ _ _ h=>h.2.1
def Nx(P:Program)(t:TypeId)(N:Nat)(Stop:QI Tk)(gs:Array Gr)(w:World)(sl:Option (Nat×Nat))(tr:Trace)(μ:List Tr×Nat)(i:Nat):Prop:=
 ∃b w' ops V' rk' rel' q',runT P (crowd gs w sl) i=(.next (crowd b w' sl),ops)/\MI P t N Stop none b w' (tr++ops) V' rk' rel' q'/\Relation.TransGen JB (QD b rk' q') μ/\WA w.os w'.os/\w'.output=w.output
def JJ.nx(h:JJ P t N Stop gs w sl tr rk q i):Nx P t N Stop gs w sl tr (QD gs rk q) i:=
 let ⟨gs',w',ops,V',rk',rel',q',a,b,c,d⟩:=h;⟨gs',w',ops,V',rk',rel',q',a,b,.single c,d⟩
def YD(P:Program)(t:TypeId)(N:Nat)(Q:Value->Qa Tk->Prop)(gs:Array Gr)(w:World)(tr:Trace)(g:Gr):Prop:=
 ∃V rk rel q,MI P t N (Fin P Q) (some 0) gs w tr V rk rel q/\Fin P Q true g (V (.run 0))
def MI.alive:∀(r:Tr){i:Nat}{g:Gr}{V:Hd->Qa Tk}{rk:Nat->Option Tr},MI P t N (Fin P Q) none gs w tr V rk rel q->gs[i]?=some g->g.status=.running->rk i=some r ->
  (i=0/\YD P t N Q gs w tr g)\/Nx P t N (Fin P Q) gs w sl tr (QD gs rk q) i:=by
 intro r
 induction r using Tr.sub_wf.induction with
 |_ r ih=>
  intro i g V rk h hi ab U;have aw:=(Array.getElem?_eq_some_iff.1 hi).1;obtain⟨au,hJ,hg⟩:=h.live i r S1 U
  have:au=g:=by
   rcases hg with hg|⟨hg,_⟩
   .rw[hi]at hg;exact(Option.some.inj hg).symm
   .rw[hi]at hg;cases hg;cases ab
  subst this;have al:=hJ;obtain⟨U1,hs,hJ⟩:=hJ.step;have h1:=h.shift U hs;have hU:Q1 V (.run i) U1 (.run i)=U1:=Ql ..;generalize Q1 V (.run i) U1=V1 at h1 hU;subst hU;rcases hJ with hJ|hJ|hJ
  .have hi0:i=0:=by have:=hJ.1;simpa using this
   subst hi0;exact .inl ⟨rfl,V1,rk,rel,q,h1,hJ⟩
  .exact .inr (h1.priv Fin.running hi U hJ).nx
  .have hJ:QC P t N _ (i==0) au (V1 (.run i)):=hJ;generalize hm:(i==0)=m at hJ
   have par:∀{d b ds pend k mu},i=0->(V1 (.run i)).tok=⟨d,.par b ds pend k,mu⟩->(∀j,QJ b (V1 j))/\∃W c wt s,Sh b t (Q0 c wt) (Qp s) w/\GI N b ds pend k (Z1 V1) rel (λ i=>(V1 (.dep i)).M) W c wt s:=by
    intro d b ds pend k mu I ht;subst I;obtain⟨bd,aq,k',e1,e2,W,c,wt,s,e3,e4,_⟩:=h1.par' (b:=b) (by rw[ht];rfl);rw[ht]at e1;cases e1;exact⟨e2,W,c,wt,s,e3,e4⟩
   have az:rk i≠none:=by rw[U];simp
   have S:∀{d b ds pend k mu},(V1 (.run i)).tok=⟨d,.par b ds pend k,mu⟩->i=0/\m=true:=by
    intro d b ds pend k mu ht
    have I:i=0:=by
     apply Classical.byContradiction;intro ao;obtain⟨_,_,e⟩:=h1.wk i ao az;rw[ht]at e;cases e
    exact⟨I,by subst I;exact hm.symm⟩
   have bb:(V1 (.run i)).tok=⟨0,.out,none⟩->i=0/\m=true:=by
    intro ht
    have I:i=0:=by
     apply Classical.byContradiction;intro ao;obtain⟨_,_,e⟩:=h1.wk i ao az;rw[ht]at e;cases e
    exact⟨I,by subst I;exact hm.symm⟩
   have af:m=true->i=0:=λ e=>by subst e;simpa using hm
   have ag:m=false->i≠0:=λ e=>by subst e;simpa using hm
   have aa:i=0->∃d b ds pend k mu,((V1 (.run i)).tok=⟨d,.par b ds pend k,mu⟩\/(V1 (.run i)).tok.ph=.out):=by
    intro I;subst I;have hG:=h1.grp;unfold QH at hG;generalize(V1 (.run 0)).tok=tk at hG;obtain⟨d,p,mu⟩:=tk;cases p with
    |out=>exact⟨0,0,[],false,.run,none,.inr rfl⟩
    |par b ds pend k=>exact⟨d,b,ds,pend,k,mu,.inl rfl⟩
    |_=>exact hG.elim
   cases hJ with
   |quiet X hb E F k=>
    rename_i b bs g';obtain⟨r',f,k⟩:=k;cases m with
    |true=>
     have I:=af rfl;subst I;obtain⟨d,b',ds,pend,kk,mu,ht|ht⟩:=aa rfl
     .rw[ht]at hb;cases hb;obtain⟨B,W,c,wt,s,K,H⟩:=par rfl ht;refine .inr (h1.parent Fin.running hi U ht B K (E _ _) F S1 (deafBehind_nil _) H f ?_).nx;have:(V1 (.run 0)).at d (.par b ds pend kk)=V1 (.run 0):=Qa.at_self ht;rw[this];exact k
     .rw[ht]at hb;cases hb
    |false=>
     have I:=ag rfl;exact .inr (h1.calm Fin.running hi U I hb E F f k).nx
   |dis X ht E F k=>
    obtain⟨r',f,k⟩:=k;obtain⟨I,T⟩:=S ht;subst I;subst T;obtain⟨B,W,c,wt,s,K,H⟩:=par rfl ht;exact .inr (h1.parent Fin.running hi U ht B K (E _ _) F (by intro e Z;simp at Z;subst Z;exact .inl rfl) rfl H f k).nx
   |ena X ht E F k=>
    obtain⟨r',f,k⟩:=k;obtain⟨I,T⟩:=S ht;subst I;subst T;obtain⟨B,W,c,wt,s,K,H⟩:=par rfl ht;exact .inr (h1.parent Fin.running hi U ht B K (E _ _) F (by intro e Z;simp at Z;subst Z;exact .inl rfl) rfl H f k).nx
   |add X ht hN E=>
    obtain⟨I,T⟩:=S ht;subst I;subst T;obtain⟨B,W,c,wt,s,K,H⟩:=par rfl ht;obtain⟨rfl,rfl,-⟩:=H.state;have hc:=H.cN;simp at hc;obtain⟨g',bs,E,F,r',f,k⟩:=E c hc;exact .inr (h1.parent Fin.running hi U ht B K E F (by intro e Z;simp at Z;rcases Z with rfl|rfl <;> exact .inr (.inl ⟨0,_,O1,rfl⟩)) rfl (H.add hN) f k).nx
   |said X ht E F k=>
    rename_i mu b ds pend kk bs g' wr;obtain⟨r',f,k⟩:=k;obtain⟨I,T⟩:=S ht;subst I;subst T;obtain⟨B,W,c,wt,s,K,H⟩:=par rfl ht;refine .inr (h1.parent Fin.running (d':=1) hi U ht B K (E _ _) F (by intro e Z;simp at Z;subst Z;exact .inr (.inr ⟨rfl,1,wr,O1,rfl⟩)) (by cases wr <;> rfl) H f ?_).nx;have:(V1 (.run 0)).at 1 (.par b ds pend kk)=V1 (.run 0):=Qa.at_self ht;rw[this];exact k
   |look X ht hk E=>
    rename_i mu b ds k_0 u;obtain⟨I,T⟩:=S ht;subst I;subst T;obtain⟨B,W,c,wt,s,K,H⟩:=par rfl ht;obtain⟨hc,rfl,rfl,-⟩:=H.seeU hk;obtain⟨g',bs,F,⟨E,⟨r',f,k⟩|⟨rfl,r',f,k⟩⟩|⟨bg,E,r',f,k⟩⟩:=E c hc
    .refine .inr (h1.parent Fin.running (d':=1) hi U ht B K E F (by intro e Z;simp at Z;subst Z;exact .inr (.inl ⟨0,_,O1,rfl⟩)) rfl (H.toSeen hk) f k).nx
    .exact .inr (h1.parent Fin.running (d':=1) hi U ht B K E F (by intro e Z;simp at Z;subst Z;exact .inr (.inl ⟨0,_,O1,rfl⟩)) rfl (H.toUp hk) f k).nx
    .exact .inr (h1.parent Fin.running (d':=1) hi U ht B K E F (by intro e Z;simp at Z;rcases Z with rfl|rfl <;> exact .inr (.inl ⟨0,_,O1,rfl⟩)) rfl (H.toWait hk bg) f k).nx
   |sema X ho ht h0 E=>
    rename_i mu b ds;obtain⟨I,T⟩:=S ht;subst I;subst T;have ad:(V (.run 0)).tok=⟨1,.par b ds false .wait,mu⟩:=hs.1.symm.trans ht;obtain⟨bd,aq,bp,e1,ap,W',c',wt',s',aj,ai,_⟩:=h.par' (b:=b) (by rw[ad];rfl);rw[ad]at e1;cases e1
    have ae:s'=0\/s'=1:=by
     rcases ai.state.2 with⟨_,_,h3,_⟩|⟨_,i0,j0,_,⟨_,_,h3⟩|⟨_,_,h3⟩⟩|⟨_,_,h3,_⟩ <;> omega
    rcases ae with rfl|rfl
    .obtain⟨bs,F,E⟩:=h0 (Q0 c' wt');have hx:MI P t N (Fin P Q) (some 0) gs w tr V rk rel q:={ h with live:=λ j r _ U=>h.live j r S1 U };exact .inr (hx.block hi ab ho U ad ap aj ai E F al).nx
    .obtain⟨B,W,c,wt,s,K,H⟩:=par rfl ht
     have bl:s=1:=by
      have:some (Obj.cells #[Q0 c' wt',Qp 1] t (0,0))=some (Obj.cells #[Q0 c wt,Qp s] t (0,0)):=aj.symm.trans K;simp[Qp]at this;omega
     subst bl;obtain⟨av,rfl,rfl,-⟩:=H.sema;obtain⟨g',bs,F,E,r',f,k⟩:=E;exact .inr (h1.parent Fin.running (d':=1) hi U ht B K E F (by intro e Z;simp at Z;rcases Z with rfl|rfl|rfl|rfl <;> first|exact .inl rfl|exact .inr (.inl ⟨1,_,O1,rfl⟩)) rfl av f k).nx
   |look2 X ht F E k=>
    rename_i mu b ds bs g';obtain⟨r',f,k⟩:=k;obtain⟨I,T⟩:=S ht;subst I;subst T;obtain⟨B,W,c,wt,s,K,H⟩:=par rfl ht;obtain⟨-,rfl,rfl,rfl,-⟩:=H.up;refine .inr (h1.parent Fin.running (d':=1) hi U ht B K E F (by intro e Z;simp at Z;subst Z;exact .inr (.inl ⟨0,_,O1,rfl⟩)) rfl H f ?_).nx;have:(V1 (.run 0)).at 1 (.par b ds false .up)=V1 (.run 0):=Qa.at_self ht;rw[this];exact k
   |acq X ht F E k=>
    obtain⟨I,T⟩:=S ht;subst I;subst T;obtain⟨B,W,c,wt,s,K,H⟩:=par rfl ht
    have bm:V1 .lck=ZH:=by
     have g3:=h1.mux.2.2;rw[show Q2 V1 0=none by unfold Q2;rw[ht]]at g3;exact g3.2
    refine .inr (h1.take Fin.running hi U ht K H E F λ Ms am=>?_).nx;obtain⟨r',f,k⟩:=k Ms am;refine⟨r',f,?_⟩
    have:({ (V1 (.run 0))with M:=((V1 (.run 0)).M++Ms.flatten)++(V1 .lck).M,tok:=⟨0,.out,none⟩ }:Qa Tk)=((V1 (.run 0)).with Ms.flatten).at 0 .out:=by
     rw[bm];simp only[ZH,Qa.bare,append_nil,Qa.at,Qa.with];rw[ht]
    rw[this];exact k
   |acqM X ht F E k=>
    rename_i b ds bs g' x u;obtain⟨I,T⟩:=S ht;subst I;subst T;obtain⟨B,W,c,wt,s,K,H⟩:=par rfl ht
    have Y:x.sp (u false) (u true) (V1 .lck).M:=by
     have g3:=h1.mux.2.2;rw[show Q2 V1 0=some (.par x u) by unfold Q2;rw[ht]]at g3;obtain⟨-,lp,st,sm,hx⟩:=g3;have ax:=H.up.2.2.2.2.1
     have bi:∀j y s me lo,Q2 V1 j≠some (.lok y s me lo):=by
      intro j y s me lo e;by_cases ej:j=0
      .subst ej;unfold Q2 at e;rw[ht]at e;cases e
      .have hrj:rk j=none:=by
        cases bk:rk j with
        |none=>rfl
        |some bq=>
         obtain⟨_,_,e'⟩:=h1.wk j ej (by rw[bk];simp);have:=ax j;simp only[Z1,if_neg ej]at this;rw[e']at this;cases this
       rw[h1.bareM j hrj]at e;cases e
     have bh:∀s,lp s=if u s then .fin else .idle:=by
      intro s;cases hu:u s with
      |false=>simpa using hx.idle s hu
      |true=>
       rcases hx.who s hu with h2|⟨j,me,lo,e⟩
       .simpa using h2
       .exact absurd e (bi _ _ _ _ _)
     have ah:∀s,(lp s).rels=u s/\(lp s).isOwn=false:=by
      intro s;rw[bh s];cases u s <;> exact⟨rfl,rfl⟩
     have:=hx.dep' (by rw[(ah false).2,(ah true).2];rfl);unfold QW.dep at this;rw[(ah false).1,(ah true).1]at this;exact this
    exact .inr (h1.take Fin.running hi U ht K H E F λ Ms am=>k Ms _ am Y).nx
   |make ht hM k=>
    obtain⟨r',f,k⟩:=k;obtain⟨I,T⟩:=bb ht;subst I;subst T;have h2:=h1.make hi ht hM k;rcases ih r' f h2 hi ab (Qk ..)with h3|⟨ak,w',ops,V',rk',rel',q',a,b,c,dd⟩
    .exact .inl h3
    .refine .inr ⟨ak,w',ops,V',rk',rel',q',a,b,c.tail ?_,dd⟩;exact Xo rfl aw U λ bo e=>by cases e;exact f
   |makeM ht hM hD k=>
    obtain⟨r',f,k⟩:=k;obtain⟨I,T⟩:=S ht;subst I;subst T;have h2:=h1.makeM hi ht hM hD k;rcases ih r' f h2 hi ab (Qk ..)with h3|⟨ak,w',ops,V',rk',rel',q',a,b,c,dd⟩
    .exact .inl h3
    .refine .inr ⟨ak,w',ops,V',rk',rel',q',a,b,c.tail ?_,dd⟩;exact Xo rfl aw U λ bo e=>by cases e;exact f
   |mu X ht E=>
    rename_i b D x s me lo d
    have I:i≠0:=λ e=>by
     obtain⟨_,_,_,_,_,_,G|G⟩:=aa e
     .rw[ht]at G;cases G
     .rw[ht]at G;cases G
    have T:m=false:=by rw[<- hm];simpa using I
    subst T;obtain⟨u,lp,st,sm,k0,B,hx,rfl,ac,-⟩:=h1.lock (i:=i) (x:=x) (s:=s) (me:=me) (lo:=lo) (by unfold Q2;rw[ht]);obtain⟨g',bs,es,me',st',sm',d',lo',a0,a1,a2,a3,a4,a5,a6,a7,a8,a9,bc,r',f,k⟩:=E (lp (!s)) st sm ac (by rw[<- H8];exact hx.word);exact .inr (MI.mu Fin.running a0 h1 hi U I ht k0 B hx a2 a1 a3 a4 a5 a6.symm a8 a9 bc f k).nx
   |mblk X ho ht be bf=>
    rename_i b D x s lo d
    have I:i≠0:=λ e=>by
     obtain⟨_,_,_,_,_,_,G|G⟩:=aa e
     .rw[ht]at G;cases G
     .rw[ht]at G;cases G
    have T:m=false:=by rw[<- hm];simpa using I
    subst T;have ad:(V (.run i)).tok=⟨d,.wrk b D,some (.lok x s .wai lo)⟩:=hs.1.symm.trans ht;obtain⟨u,lp,st,sm,k0,B,hx,L,ac,-⟩:=h.lock (i:=i) (x:=x) (s:=s) (me:=.wai) (lo:=lo) (by unfold Q2;rw[ad]);have hw:=hx.word;rw[H8 _ s,<- L]at hw
    have ae:sm=0\/(st=2/\sm=1/\lp (!s)=.fin):=by
     revert hw
     cases lp (!s)with
     |own v=>cases v <;> simp[LP.word] <;> omega
     |_=>simp[LP.word] <;> omega
    rcases ae with rfl|⟨rfl,rfl,hq⟩
    .obtain⟨bs,F,E⟩:=be (Zb st);have bn:MI P t N (Fin P Q) (some i) gs w tr V rk rel q:={ h with live:=λ j r _ U=>h.live j r S1 U };exact .inr (bn.mblk hi ab ho U I ad k0 B hx E F (by rw[show(i==0)=false by simpa using I]at al;exact al)).nx
    .obtain⟨u,lp,st,sm,k0,B,hx',L,ac,-⟩:=h1.lock (i:=i) (x:=x) (s:=s) (me:=.wai) (lo:=lo) (by unfold Q2;rw[ht]);have e2:some (Obj.cells #[Zb 2,Qp 1] x.t (0,0))=some (Obj.cells #[Zb st,Qp sm] x.t (0,0)):=hx.sh.symm.trans hx'.sh
     have e3:st=2/\sm=1:=by
      simp[Zb,Qp]at e2;omega
     obtain⟨rfl,rfl⟩:=e3;have ba:=hx'.word;rw[H8 _ s,<- L]at ba
     have ay:lp (!s)=.fin:=by
      revert ba
      cases lp (!s)with
      |own v=>cases v <;> simp[LP.word]
      |_=>simp[LP.word]
     obtain⟨g',bs,F,E,r',f,k⟩:=bf;rw[L]at ht;refine .inr (MI.mu (me':=.wok) (lo':=2) (st':=2) (sm':=0) Fin.running (by rw[ay];exact Nat.le_refl _) h1 hi U I ht k0 B hx' E F (by rw[ay];rfl) (by rw[<- L];exact Nat.le_refl _) (by rw[<- L];rfl) (by rw[<- L];rfl) (by intro e Z;simp at Z;rcases Z with rfl|rfl|rfl|rfl <;> first|exact .inl rfl|exact .inr ⟨1,_,O1,rfl⟩) rfl (.inr (.inl rfl)) f k).nx
   |macq X ht F E k=>
    rename_i b D x s lo bs g'
    have I:i≠0:=λ e=>by
     obtain⟨_,_,_,_,_,_,G|G⟩:=aa e
     .rw[ht]at G;cases G
     .rw[ht]at G;cases G
    have T:m=false:=by rw[<- hm];simpa using I
    subst T;obtain⟨u,lp,st,sm,k0,B,hx,L,ac,-⟩:=h1.lock (i:=i) (x:=x) (s:=s) (me:=.got) (lo:=lo) (by unfold Q2;rw[ht]);have hw:=hx.word;rw[H8 _ s,<- L]at hw;have bj:=(LP.word_own hw).2;have Y:=hx.dep' (by rw[Uh _ s,<- L,bj];rfl)
    have Y:x.sp (if s then(lp (!s)).rels else false) (if s then false else(lp (!s)).rels) (V1 .lck).M:=by
     unfold QW.dep at Y;cases s
     .rw[<- L]at Y;exact Y
     .rw[<- L]at Y;exact Y
    obtain⟨r',f,k⟩:=k _ _ Y;rw[L]at ht;exact .inr (h1.macq Fin.running hi U I ht L.symm ac k0 B hx E F f k).nx
   |mrel X ht F hM hD E k=>
    rename_i b D x s lo v bs g' M₁ M₂
    have I:i≠0:=λ e=>by
     obtain⟨_,_,_,_,_,_,G|G⟩:=aa e
     .rw[ht]at G;cases G
     .rw[ht]at G;cases G
    have T:m=false:=by rw[<- hm];simpa using I
    subst T;obtain⟨u,lp,st,sm,k0,B,hx,L,ac,-⟩:=h1.lock (i:=i) (x:=x) (s:=s) (me:=.own v) (lo:=lo) (by unfold Q2;rw[ht]);obtain⟨r',f,k⟩:=k;rw[L]at ht;exact .inr (h1.mrel Fin.running hi U I ht L.symm ac k0 B hx hM hD E F f k).nx
   |go X ht E hf hp hc an k k'=>
    obtain⟨br,s1,k⟩:=k;obtain⟨bt,s2,k'⟩:=k';obtain⟨I,T⟩:=S ht;subst I;subst T;obtain⟨B,W,c,wt,s,K,H⟩:=par rfl ht;exact .inr (h1.start Fin.running hi U ht B K H E hf hp hc an s1 s2 k k').nx
   |lay X ht an hD F E k=>
    obtain⟨n,k⟩:=k
    have I:i≠0:=by
     intro e;subst e;obtain⟨_,_,_,_,_,_,G|G⟩:=aa rfl
     .rw[ht]at G;cases G
     .rw[ht]at G;cases G
    have T:m=false:=by rw[<- hm];simpa using I
    subst T;exact .inr (h1.lay Fin.running hi U I ht an hD E F k).nx
def Sh.at{b:Nat}{st sm:Value}(h:Sh b t st sm w)(d:Nat):Sh b t st sm (w.at d):=h
def MI.at{ex:Option Nat}{Stop:QI Tk}(h:MI P t N Stop ex gs w tr V rk rel q)(d:Nat):MI P t N Stop ex gs (w.at d) tr V rk rel q:=by
 refine⟨h.live,h.root,h.gone,h.tail,h.above,h.bare,h.wk,h.wk',h.deaf,h.deps,h.vi.heap rfl,h.ti,?_,h.mux.at (λ _=>rfl) rfl (λ _ hm _=>hm) (λ _ _ _ _ _ x=>x) (λ j x s me lo y _ hy B=>⟨y,hy,B⟩),h.bareM⟩;have f:=h.grp;unfold QH at f ⊢
 revert f
 cases(V (.run 0)).tok.ph with
 |par b ds pend k=>exact λ f=>f
 |_=>exact λ f=>f
def MI.status(h:MI P t N (Fin P Q) none gs w tr V rk rel q){i:Nat}{g:Gr}(hi:gs[i]?=some g):g.status=.running\/g.status=.blocked\/g.status=.finished:=by
 cases B:rk i with
 |some r=>
  obtain⟨E,F,f⟩:=h.live i r S1 B;have:=F.running Fin.running;rcases f with f|⟨f,_⟩
  .rw[hi]at f;cases f;exact .inl this
  .rw[hi]at f;cases f;exact .inr (.inl rfl)
 |none=>
  by_cases hp:(V (.run i)).tok.ph=.out
  .exact(h.gone i g B hi hp).status.elim .inl λ x=>.inr (.inr x)
  .obtain⟨x,b,hx,_,ht⟩:=h.tail i B hp;rw[hi]at hx;cases hx;exact .inl ht.running
def MI.someone(h:MI P t N (Fin P Q) none gs w tr V rk rel q):∃(i:Nat)(g:Gr),gs[i]?=some g/\g.status=.running:=by
 have lck:∀i r g,rk i=some r->i≠0->gs[i]?=some g->g.status≠.running->∃(i:Nat)(g:Gr),gs[i]?=some g/\g.status=.running:=by
  intro i r g hr F hi L;obtain⟨ai,X,B⟩:=h.live i r S1 hr;have E:=X.running Fin.running;rcases B with B|⟨B,_,hb⟩
  .rw[hi]at B;cases B;exact absurd E L
  .rcases hb with⟨e,_⟩|⟨d,b,D,x,s,lo,ht⟩
   .exact absurd e F
   .have hk:Q2 V i=some (.lok x s .wai lo):=by unfold Q2;rw[ht]
    obtain⟨u,lp,st,sm,k0,af,hx,aa,aj,-⟩:=h.lock hk;have ac:=hx.slp i _ _ _ _ g hk hi L;have hw:=hx.word;rw[H8 _ s,<- aa,ac]at hw
    have hq:lp (!s)≠.fin/\lp (!s)≠.idle/\lp (!s)≠.wai:=by
     refine⟨λ e=>?_,λ e=>?_,λ e=>?_⟩ <;> (rw[e]at hw;simp[LP.word]at hw)
    have hu:u (!s)=true:=by
     cases hu:u (!s)with
     |true=>rfl
     |false=>exact absurd (hx.idle _ hu) hq.2.1
    rcases hx.who _ hu with h1|⟨j,me,lo',e⟩
    .exact absurd h1 hq.1
    .have T:j≠0:=λ T=>by subst T;rw[k0]at e;cases e
     have ab:rk j≠none:=λ hn=>by rw[h.bareM j hn]at e;cases e
     obtain⟨ae,M⟩:=Option.ne_none_iff_exists'.1 ab;obtain⟨U,I,f⟩:=h.live j ae S1 M;have H:=I.running Fin.running;rcases f with f|⟨f,_,K⟩
     .exact⟨j,U,f,H⟩
     .exfalso;rcases K with⟨e',_⟩|⟨d',b',D',x',s',ag,S⟩
      .exact T e'
      .unfold Q2 at e;rw[S]at e;cases e;have:=(hx.tk j _ _ _ _ (show Q2 V j=_ by unfold Q2;rw[S])).2.1;exact hq.2.2 this.symm
 obtain⟨r,hr⟩:=Option.ne_none_iff_exists'.1 h.root;obtain⟨g,X,B⟩:=h.live 0 r S1 hr;have E:=X.running Fin.running;rcases B with B|⟨B,_,hb⟩
 .exact⟨0,g,B,E⟩
 .rcases hb with⟨-,b,ds,mu,ht⟩|⟨d,b,D,x,s,lo,ht⟩
  rotate_left
  .have hG:=h.grp;unfold QH at hG;rw[ht]at hG;exact hG.elim
  obtain⟨ah,pend,k,e,_,W,c,wt,s,_,Z,h4⟩:=h.par' (b:=b) (by rw[ht];rfl);rw[ht]at e;cases e;have hs:=h4 _ B S1;subst hs;obtain⟨i,hi⟩:=Z.someone;have F:i≠0:=λ e=>hi (by simp[Z1,e]);have hp:(V (.run i)).tok.ph≠.out:=by simpa[Z1,F]using hi
  cases G:rk i with
  |some r'=>
   obtain⟨x,Y,hx⟩:=h.live i r' S1 G;rcases hx with hx|⟨hx,_⟩
   .exact⟨i,x,hx,Y.running Fin.running⟩
   .exact lck i r' _ G F hx S1
  |none=>
   obtain⟨x,b',hx,_,ad⟩:=h.tail i G hp;exact⟨i,x,hx,ad.running⟩
def MI.move(h:MI P t N (Fin P Q) none gs w tr V rk rel q) :
  (∃o w' ops,stepT P (crowd gs w sl)=(.ended o w',ops)/\Conc.Good P (λ v W'=>∃U,Q v U/\U.ok W'/\WA w.os W'.os/\W'.output=w.output) (crowd gs w sl) o w' (tr++ops)) \/
  (∃f w' B ops V' rk' rel' q',stepT P (crowd gs w sl)=(.next (crowd f w' B),ops)/\Relation.TransGen JB (QD f rk' q') (QD gs rk q)/\MI P t N (Fin P Q) none f w' (tr++ops) V' rk' rel' q'/\WA w.os w'.os/\w'.output=w.output):=by
 have aa:∀g∈gs,awake g:=by
  intro g hg;obtain⟨i,hi,rfl⟩:=Array.mem_iff_getElem.1 hg;intro tm e;rcases h.status (Array.getElem?_eq_getElem hi)with x|x|x <;> rw[e]at x <;> cases x
 obtain⟨i,g,d,B,hi,G,W⟩:=crowd_pick (P:=P) (w:=w) (sl:=sl) aa h.someone;have hd:=h.at d
 have fin:Nx P t N (Fin P Q) gs (w.at d) B tr (QD gs rk q) i->∃f w' B ops V' rk' rel' q',stepT P (crowd gs w sl)=(Stepped.next (crowd f w' B),ops)/\Relation.TransGen JB (QD f rk' q') (QD gs rk q)/\MI P t N (Fin P Q) none f w' (tr++ops) V' rk' rel' q'/\WA w.os w'.os/\w'.output=w.output:=by
  rintro⟨f,w',ops,V',rk',rel',q',a,b,c,dd⟩;exact⟨f,w',B,ops,V',rk',rel',q',W.trans a,c,b,dd⟩
 cases hr:rk i with
 |none=>
  by_cases hp:(V (.run i)).tok.ph=.out
  .exact .inr (fin (hd.leaver Fin.running hi G hr hp).nx)
  .exact .inr (fin (hd.tailStep Fin.running hi hr hp).nx)
 |some r=>
  rcases MI.alive r (sl:=B) hd hi G hr with⟨rfl,V',rk',rel',q',F,_,_,H,v,hq,L⟩|hn
  .left;have M:=F.vi.ok (.run 0);obtain⟨es,af,ab⟩:=L _ M;have hG:=F.grp;unfold QH at hG;rw[H]at hG;obtain⟨K,T⟩:=hG
   have ae:∀j,j≠0->rk' j=none:=by
    intro j E;cases e:rk' j with
    |none=>rfl
    |some r=>
     obtain⟨b,D,e'⟩:=F.wk j E (by rw[e];simp);rw[K j E]at e';cases e'
   obtain⟨rm,Y⟩:=F.ti;have ac:∀b,Jv V'=some b->b<(w.at d).heap.size/\QJ b (V' (.run 0)):=λ b hb=>⟨(F.mux.mb hb).1,(F.mux.mb hb).2.1 _⟩;have X:TI _ _ _ _ _ _ _ _ _ (tr++MemOp.ofEvents 0 g.frame.fn g.frame.place es):=IW (fn:=g.frame.fn) (pos:=g.frame.place) Y F.vi (λ b hb=>by rw[H]at hb;cases hb) ac ab (.refl _ _) (.inl rfl)
   have I:∀j,j≠0->Deaf (tr++MemOp.ofEvents 0 g.frame.fn g.frame.place es) j=Deaf tr j:=by
    intro j E;refine Deaf_other tr (Ne.symm E) _ ?_;intro op ad;obtain⟨e,_,rfl⟩:=Go.Conc.mem_ofEvents ad;rfl
   have S:∀j x,j≠0->gs[j]?=some x->QuitsD P (q' j) (Deaf tr j) x:=λ j x E hx=>F.gone j x (ae j E) hx (K j E);refine⟨.done v,w.at d,_,W.trans (ConcN.runT_crowd_ended hi af),v,rfl,⟨_,hq,M,.refl _,rfl⟩,X.clean,?_,⟨?_,rfl⟩,?_⟩
   .intro j x hx hne hc;rcases X.hand j x hx hne hc with⟨b,D,e⟩|⟨r,e,_⟩|⟨p,z,hp,hz,hb⟩
    .by_cases e0:x=0
     .exact absurd e0 hne
     .rw[K x e0]at e;cases e
    .rw[T]at e;cases e
    .refine⟨p,by simp[Trace.g?,hp,hz],?_⟩;rcases hb with rfl|hb
     .simp only[Trace.g?,hp,Option.map_some,Option.some.injEq]at hx;exact absurd (hx.symm.trans hz) hne
     .exact hb
   .intro x hx;obtain⟨j,E,Z⟩:=mem_iff_getElem.1 hx;rw[getElem_drop]at Z
    have:gs[1+j]?=some x:=by
     rw[<- Z];simp only[crowd]at E ⊢;have:1+j<gs.size:=by simp at E;omega
     simp[this]
    exact⟨_,(S (1+j) x O1 this).leaves⟩
   .intro j x hx E;have:=S j x E hx;refine⟨q' j,?_⟩;have e:(tr++MemOp.ofEvents 0 g.frame.fn g.frame.place es).deaf j (tr++MemOp.ofEvents 0 g.frame.fn g.frame.place es).size=Deaf tr j:=I j E;rw[e];exact this.hears _
  .exact .inr (fin hn)
def EU(h:Conc.Good P f A o w' tr)(hp:∀v W',f v W'->n v W'):Conc.Good P n A o w' tr:=
 h.elim λ v x=>⟨v,x.1,hp v _ x.2.1,x.2.2⟩
def runs(h:MI P t N (Fin P Q) none gs w tr V rk rel q) :
  ∃n last o w' f,runNT P (n+1) (crowd gs w sl) tr=(.ended o w',f)/\runN P n (crowd gs w sl)=.next last/\step P last=.ended o w'/\Conc.Good P (λ v W'=>∃U,Q v U/\U.ok W'/\WA w.os W'.os/\W'.output=w.output) last o w' f:=by
 have key:∀(μ:List Tr×Nat)gs w sl tr V rk rel q,QD gs rk q=μ->MI P t N (Fin P Q) none gs w tr V rk rel q ->
   ∃n last o w' f,runNT P (n+1) (crowd gs w sl) tr=(.ended o w',f)/\runN P n (crowd gs w sl)=.next last/\step P last=.ended o w'/\Conc.Good P (λ v W'=>∃U,Q v U/\U.ok W'/\WA w.os W'.os/\W'.output=w.output) last o w' f:=by
  intro μ
  induction μ using(WellFounded.transGen gS).induction with
  |_ μ M=>
   intro gs w sl tr V rk rel q L h;rcases h.move (sl:=sl)with⟨o,w',ops,E,K⟩|⟨F,w',H,ops,V',rk',rel',q',E,h2,I,G,B⟩
   .exact⟨0,crowd gs w sl,o,w',tr++ops,by simp[runNT,E],rfl,by simp[step,E],K⟩
   .obtain⟨n,last,o,w'',f,k1,k2,k3,k4⟩:=M _ (L▸h2) F w' H (tr++ops) V' rk' rel' q' rfl I;exact⟨n+1,last,o,w'',f,by rw[runNT_succ_next E];exact k1,by rw[runN_succ_next E];exact k2,k3,EU k4 λ v W'⟨U,a,b,c,d⟩=>⟨U,a,b,G.trans c,d.trans B⟩⟩
 exact key _ gs w sl tr V rk rel q rfl h
def gC(T:JR (Za P t N) (Fin P Q) r true g U)(L:U.ok w)(B:U.tok=⟨0,.out,none⟩) :
  MI P t N (Fin P Q) none #[g] w #[] (Q1 (λ _=>ZH) (.run 0) U) (Zp (λ _=>none) 0 (some r)) (λ _=>none) (λ _=>0):=by
 have H:Q1 (λ _=>ZH) (.run 0) U (.run 0)=U:=Ql ..;have I:∀j,j≠0->Q1 (λ _=>ZH) (.run 0) U (.run j)=ZH:=λ j W=>Qh _ _ (λ e=>W (Hd.run.inj e));have K:∀k,k≠.run 0->Q1 (λ _=>ZH) (.run 0) U k=ZH:=λ k X=>Qh _ _ X;have V:∀j,Deaf #[] j=0:=λ _=>rfl
 have no:∀i a,touchAt #[] i≠some a:=by
  intro i a h;obtain⟨x,hx,_⟩:=touch_of h;simp at hx
 have E:∀j,Q2 (Q1 (λ _=>ZH) (.run 0) U) j=none:=by
  intro j;unfold Q2;by_cases e:j=0
  .subst e;rw[H,B]
  .rw[I j e];rfl
 have S:Q1 (λ _=>ZH) (.run 0) U .lck=ZH:=K _ S1;refine⟨?_,by rw[Qk];simp,?_,?_,?_,?_,?_,?_,?_,?_,?_,⟨none,?_⟩,?_,⟨λ j x u _ e=>(by rw[E]at e;cases e),by rw[S];rfl,by rw[E];exact⟨E,S⟩⟩,λ j _=>E j⟩
 .intro i r' _ f;by_cases e:i=0
  .subst e;rw[Qk]at f;cases f;exact⟨g,by rw[H];exact T,.inl rfl⟩
  .rw[Qu _ _ e]at f;cases f
 .intro i x f hx _;have e:i≠0:=λ e=>by subst e;rw[Qk]at f;cases f
  rw[Array.getElem?_eq_none S3]at hx;cases hx
 .intro i f hp;have e:i≠0:=λ e=>by subst e;rw[Qk]at f;cases f
  rw[I i e]at hp;exact absurd rfl hp
 .intro i hi;simp at hi;exact⟨Qu _ _ O1,V i,rfl⟩
 .intro i f;have e:i≠0:=λ e=>by subst e;rw[Qk]at f;cases f
  rw[I i e];exact⟨rfl,rfl⟩
 .intro i h0 f;rw[Qu _ _ h0]at f;exact absurd rfl f
 .intro i F;by_cases e:i=0
  .subst e;rw[Qk];simp
  .rw[I i e]at F;obtain⟨_,_,e⟩:=F;cases e
 .intro i f;by_cases e:i=0
  .subst e;rw[H,B];rfl
  .rw[Qu _ _ e]at f;exact absurd rfl f
 .intro i _;exact K _ S1
 .refine⟨λ k=>?_,λ G M l Y F f=>?_⟩
  .by_cases e:k=.run 0
   .subst e;rw[H];exact L
   .rw[K k e];exact Y7 _ _
  .by_cases e:G=.run 0
   .subst e;rw[K M (Ne.symm Y)]at f;exact Wg _ _ f
   .rw[K G e]at F;exact Wh _ _ F
 .refine⟨λ said=>?_,λ k i a h=>absurd h (no i a),λ op h=>by simp at h,λ i a h=>?_,λ i a h=>absurd h (no i a),λ i a h=>absurd h (no i a),λ g r h=>(by cases h),λ i g h=>?_,λ i a h=>absurd h (no i a),λ i a h=>absurd h (no i a),λ r h=>(by cases h)⟩
  .rintro⟨i,j,_,⟨a,b,ha,_⟩,_⟩;exact no i a ha
  .simp[Trace.act?]at h
  .simp[Trace.g?]at h
 .unfold QH;rw[H,B];exact⟨λ i hi=>by rw[I i hi];rfl,λ _=>rfl⟩
def J.runs{g:Gr}{U:Qa Tk}(f:J (Za P t N) (Fin P Q) true g U)(h:U.ok w)(b:U.tok=⟨0,.out,none⟩) :
  ∃n last o w' B,runNT P (n+1) (solo g w) #[]=(.ended o w',B)/\runN P n (solo g w)=.next last/\step P last=.ended o w'/\Conc.Good P (λ v W'=>∃U,Q v U/\U.ok W'/\WA w.os W'.os/\W'.output=w.output) last o w' B:=by
 obtain⟨r,f⟩:=f.rank;rw[solo_eq_crowd];exact TM.runs (gC f h b)
