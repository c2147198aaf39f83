/- Lemmas. No conditions. -/
import Derived.Test.YtnjljnhoaafkiaaGreatDoorB09
set_option linter.all false
open List
namespace Go.TM
open Go.Conc
section
variable{P:Program}{t:TypeId}{N:Nat}{Stop:QI Tk}{gs:Array Gr}{w:World}{tr:Trace}{V V':Hd->Qa Tk}{rk:Nat->Option Tr}{rel:Nat->Option Nat}{q:Nat->Nat}
def QH.turn(h:QH t N gs w V rel)(ht:∀j,(V' (.run j)).tok=(V (.run j)).tok)(E:∀j,V' (.dep j)=V (.dep j))(B:∀k l,(V' k).canR l->(V k).canR l):QH t N gs w V' rel:=by
 have G:Z1 V'=Z1 V:=by funext j;simp only[Z1,ht]
 unfold QH at h ⊢;rw[ht 0]
 revert h
 cases(V (.run 0)).tok.ph with
 |out=>exact λ h=>⟨λ i F=>by rw[ht];exact h.1 i F,h.2⟩
 |par b ds pend k=>
  rintro⟨h1,W,c,wt,s,h2,f,z⟩;refine⟨λ j a ha H I=>h1 j a ha H (B _ _ I),W,c,wt,s,h2,?_,z⟩;rw[G];simpa only[E]using f
 |_=>exact λ h=>h
def TI.tok{rel:Nat->Option Nat}{rm:Option Nat}{size:Nat}(h:TI (λ k=>(V k).canW) (λ k=>(V k).canR) rel (V (.run 0)).tok.ph.blk (Jv V) rm (λ i=>i=0\/(V (.run i)).tok.ph≠.out) (λ i=>ZL (V (.run i)).tok.ph) size tr)
  (ht:∀j,(V' (.run j)).tok=(V (.run j)).tok) (w:∀k l,(V' k).canW l->(V k).canW l) (f:∀k l,(V' k).canR l->(V k).canR l) :
  TI (λ k=>(V' k).canW) (λ k=>(V' k).canR) rel (V' (.run 0)).tok.ph.blk (Jv V') rm (λ i=>i=0\/(V' (.run i)).tok.ph≠.out) (λ i=>ZL (V' (.run i)).tok.ph) size tr:=by
 have b:Jv V'=Jv V:=by simp only[Jv,Q2,ht]
 rw[b];simp only[ht];exact h.turn w f λ _ h=>h
def Sh.ne{b m:Nat}{t f:TypeId}{c wt a:Nat}{sm sm':Value}{w:World}(h:Sh b t (Q0 c wt) sm w)(k:Sh m f (Zc a) sm' w):m≠b:=by
 rintro rfl;have e:some (Obj.cells #[Q0 c wt,sm] t (0,0))=some (Obj.cells #[Zc a,sm'] f (0,0)):=h.symm.trans k;simp[Q0,Zc]at e
def Sh.two_other{b m:Nat}{t f:TypeId}{st sm x y:Value}{w:World}(k:Sh m f st sm w)(h:m≠b):Sh m f st sm (TM.two w b t x y):=by
 unfold Sh TM.two;simp only;rw[Array.getElem?_setIfInBounds_ne (Ne.symm h)];exact k
def JH.mb(h:JH gs w V){m:Nat}(hm:Jv V=some m):m<w.heap.size/\(∀j,QJ m (V j))/\∃t st sm,Sh m t (Zc st) (Qp sm) w:=by
 obtain⟨-,-,b⟩:=h;unfold Jv at hm;cases e:Q2 V 0 with
 |none=>rw[e]at hm;cases hm
 |some mu=>
  rw[e]at hm b;cases mu with
  |lok=>exact b.elim
  |par x u=>
   cases hm;obtain⟨f,z,st,sm,h5⟩:=b;exact⟨(Array.getElem?_eq_some_iff.1 h5.sh).1,f,_,_,_,h5.sh⟩
def JH.mb_ne(h:JH gs w V){b c wt:Nat}{t:TypeId}{s:Value}(f:Sh b t (Q0 c wt) s w):Jv V≠some b:=λ e=>by
 obtain⟨-,-,_,_,_,k⟩:=h.mb e;exact f.ne k rfl
def JH.step{i:Nat}{g g':Gr}{w' F:World}(h:JH gs w V)(I:gs[i]?=some g)(B:∀x s me lo,Q2 V i=some (.lok x s me lo)->g'.status=.running)(K:∀i,Q2 V' i=Q2 V i)(hm:V' .lck=V .lck)
  (f:∀m,(∀j,QJ m (V j))->m<w.heap.size->∀j,QJ m (V' j)) (E:∀m t st sm,(∀j,QJ m (V j))->Sh m t (Zc st) (Qp sm) w->Sh m t (Zc st) (Qp sm) w'):JH (behind P gs i g g' F) w' V':=by
 refine h.at K hm f E λ j x s me lo y e hy b=>?_;by_cases G:j=i
 .subst G;rw[Wi I]at hy;cases hy;exact absurd (B _ _ _ _ e) b
 .rw[J3 G]at hy;obtain⟨z,L,rfl⟩:=Option.map_eq_some_iff.1 hy;exact⟨z,L,λ H=>b (by rw[Wc H];exact H)⟩
def MI.shift{i:Nat}{r:Tr}{z:Qa Tk}(h:MI P t N Stop none gs w tr V rk rel q)(Q:rk i=some r)(H:Qv (V (.run i)) z):MI P t N Stop (some i) gs w tr (Q1 V (.run i) z) rk rel q:=by
 have B:∀j,j≠i->Q1 V (.run i) z (.run j)=V (.run j):=λ j b=>Qh _ _ (by intro e;cases e;exact b rfl)
 have f:∀j,(Q1 V (.run i) z (.run j)).tok=(V (.run j)).tok:=by
  intro j;by_cases e:j=i
  .subst e;rw[Ql];exact H.1
  .rw[B j e]
 have I:∀j,Q1 V (.run i) z (.dep j)=V (.dep j):=λ j=>Qh _ _ S1;obtain⟨M,S,E⟩:=H.2 w (h.vi.ok (.run i))
 have K:∀k l,(Q1 V (.run i) z k).canW l->(V k).canW l:=by
  intro k l hl;by_cases e:k=.run i
  .subst e;rw[Ql]at hl;exact S l hl
  .rwa [Qh _ _ e]at hl
 have F:∀k l,(Q1 V (.run i) z k).canR l->(V k).canR l:=by
  intro k l hl;by_cases e:k=.run i
  .subst e;rw[Ql]at hl;exact E l hl
  .rwa [Qh _ _ e]at hl
 refine⟨?_,h.root,?_,?_,h.above,?_,?_,?_,?_,?_,h.vi.shift H,h.ti.imp λ _ x=>x.tok f K F,h.grp.turn f I F,h.mux.at (λ j=>by simp only[Q2,f]) (Qh _ _ S1) (λ m hm _ j a ha L E=>hm j a ha L (F _ _ E)) (λ _ _ _ _ _ x=>x) (λ j x s me lo y _ hy G=>⟨y,hy,G⟩),λ j b=>by simp only[Q2,f];exact h.bareM j b⟩
 .intro j r' b hr';have e:j≠i:=λ e=>b (by rw[e]);have:=h.live j r' S1 hr';rw[B j e];exact this
 .intro j g b hg hp;rw[f]at hp;exact h.gone j g b hg hp
 .intro j b hp;rw[f]at hp;simp only[f];exact h.tail j b hp
 .intro j b;have e:j≠i:=λ e=>by subst e;rw[Q]at b;cases b
  rw[B j e];exact h.bare j b
 .intro j h0 b;rw[f];exact h.wk j h0 b
 .intro j b;rw[f]at b;exact h.wk' j b
 .intro j b;rw[f];exact h.deaf j b
 .intro j b;rw[I];exact h.deps j b
def JI(P:Program)(t:TypeId)(N:Nat)(Stop:QI Tk)(gs:Array Gr)(w:World)(sl:Option (Nat×Nat))(tr:Trace)(rk:Nat->Option Tr)(q:Nat->Nat)(i:Nat):Prop:=
 ∃b w' ops V' rk' rel' q',runT P (crowd gs w sl) i=(.next (crowd b w' sl),ops)/\MI P t N Stop none b w' (tr++ops) V' rk' rel' q'/\JA (QD b rk' q') (QD gs rk q)/\JZ w.os w'.os/\w'.output=w.output
variable{sl:Option (Nat×Nat)}
def Xm{b:Array Gr}{q':Nat->Nat}{i:Nat}{r:Tr}{x:Option Tr}(z:b.size=gs.size)(h:i<gs.size)(w:rk i=some r)(hx:∀f,x=some f->Tr.Sub f r):JA (QD b (Zp rk i x) q') (QD gs rk q):=by
 unfold QD;rw[z];exact JA.cut (kC h w hx)
def MI.priv(z:∀m g U,Stop m g U->g.status=.running){i:Nat}{g:Gr}{r:Tr}(h:MI P t N Stop (some i) gs w tr V rk rel q)(S:gs[i]?=some g)(hr:rk i=some r)
  (hp:GE P (λ m g U=>∃r',Tr.Sub r' r/\JR (Za P t N) Stop r' m g U) (i==0) g (V (.run i))):JI P t N Stop gs w sl tr rk q i:=by
 have ab:=(Array.getElem?_eq_some_iff.1 S).1;obtain⟨hs,hp⟩:=hp;obtain⟨g',w',es,U',af,Q,G,ad,F,r',Z,hJ⟩:=hp w (h.vi.ok (.run i))
 have K:deafBehind (Deaf tr i) es=Deaf tr i:=by
  refine deafBehind_still (λ e M=>?_) _;obtain⟨M,_⟩:=Q e M;obtain⟨loc,wr,sy⟩:=e;cases loc with
  |mark m=>have M:Mark.still m=true:=M;cases m <;> simp[Mark.still]at M ⊢
  |_=>simp
 have T:∀j,j≠i->Q1 V (.run i) U' (.run j)=V (.run j):=λ j L=>Qh _ _ (by intro e;cases e;exact L rfl)
 have I:∀j,(Q1 V (.run i) U' (.run j)).tok=(V (.run j)).tok:=by
  intro j;by_cases e:j=i
  .subst e;rw[Ql];exact F
  .rw[T j e]
 have hd:∀j,Q1 V (.run i) U' (.dep j)=V (.dep j):=λ j=>Qh _ _ S1;have Y:rk i≠none:=by rw[hr];simp
 have aa:i=0\/ZL (V (.run i)).tok.ph:=by
  by_cases e:i=0
  .exact .inl e
  .exact .inr (h.wk i e Y)
 have ac:Jv (Q1 V (.run i) U')=Jv V:=by simp only[Jv,Q2,I]
 have E:∀b,(V (.run 0)).tok.ph.blk=some b->b<w.heap.size/\∀j,QJ b (V j):=by
  intro b hb;have B:=h.grp;unfold QH at B
  revert B hb
  cases(V (.run 0)).tok.ph with
  |out=>intro hb;cases hb
  |par b' ds pend k=>
   intro hb;cases hb;rintro⟨h1,W,c,wt,s,h2,_⟩;exact⟨(Array.getElem?_eq_some_iff.1 h2).1,h1⟩
  |_=>intro _ B;exact B.elim
 refine⟨_,w',_,Q1 V (.run i) U',Zp rk i (some r'),rel,q,runT_crowd_go S af,?_,Xm Jl ab hr λ ag e=>by cases e;exact Z,G.os,G.output⟩;refine h.go z (V':=Q1 V (.run i) U') (rk':=Zp rk i (some r')) (rel':=rel) (q':=q) (es:=es) S T (λ j L=>Qu _ _ L) (λ _ _=>rfl) (λ _ _=>.inl rfl) ?_ (.inr (.inl (by rw[I]))) ?_ ?_ (λ j L=>by rw[hd];exact h.deps j L) (h.vi.priv G ad) ?_ ?_ ?_ (λ e=>by rw[Qk]at e;cases e)
 .by_cases e:i=0
  .subst e;rw[Qk];simp
  .rw[Qu _ _ (Ne.symm e)];exact h.root
 .intro ag e;rw[Qk]at e;cases e;rw[Ql];refine⟨hJ,?_,λ h0=>?_⟩
  .rw[K,F];exact h.deaf i Y
  .rw[F];exact aa.resolve_left h0
 .intro e;rw[Qk]at e;cases e
 .obtain⟨rm,hti⟩:=h.ti;have:=Lp (fn:=g.frame.fn) (pos:=g.frame.place) hti h.vi (λ b hb=>⟨(E b hb).1,(E b hb).2 _⟩) (λ b hb=>⟨(h.mux.mb hb).1,(h.mux.mb hb).2.1 _⟩) Q G aa;refine⟨rm,?_⟩;rw[ac];simp only[I];exact this
 .have B:=h.grp;unfold QH at B ⊢;rw[I 0];have hk:Z1 (Q1 V (.run i) U')=Z1 V:=by funext j;simp only[Z1,I]
  revert B
  cases ae:(V (.run 0)).tok.ph with
  |out=>exact λ B=>⟨λ j L=>by rw[I];exact B.1 j L,B.2⟩
  |par b ds pend k=>
   rintro⟨h1,W,c,wt,s,h2,h3,h4⟩;obtain⟨ah,_⟩:=E b (by rw[ae];rfl);refine⟨λ j a ha X f=>?_,W,c,wt,s,h2.guar G (h1 _),?_,?_⟩
   .by_cases e:j=.run i
    .subst e;rw[Ql]at f;rcases G.cr _ f with f|f
     .exact h1 _ a ha X f
     .simp only[Loc.new]at f;omega
    .rw[Qh _ _ e]at f;exact h1 _ a ha X f
   .rw[hk];simpa only[hd]using h3
   .intro g0 hg0 hns;by_cases e:i=0
    .subst e;rw[Wi S]at hg0;cases hg0;exact absurd (hJ.running z) hns
    .rw[J3 (Ne.symm e)]at hg0;obtain⟨y,hy,rfl⟩:=Option.map_eq_some_iff.1 hg0;refine h4 y hy λ H=>hns ?_;rw[Wc H];exact H
  |_=>exact λ B=>B
 .refine h.mux.step S (λ _ _ _ _ _=>hJ.running z) (λ j=>by simp only[Q2,I]) (Qh _ _ S1) (λ m hm ai j a ha X f=>?_) (λ m t st sm hm hs=>hs.guar G (hm _));by_cases e:j=.run i
  .subst e;rw[Ql]at f;rcases G.cr _ f with f|f
   .exact hm _ a ha X f
   .simp only[Loc.new]at f;omega
  .rw[Qh _ _ e]at f;exact hm _ a ha X f
def QH.woken{i:Nat}{g g':Gr}{w':World}(z:gs[i]?=some g)(f:i=0->g'.status=.running){s:Nat}(h:∀g,gs[0]?=some g->g.status≠.running->s=0) :
  ∀x,(behind P gs i g g' w')[0]?=some x->x.status≠.running->s=0:=by
 intro x hx b;by_cases e:i=0
 .subst e;rw[Wi z]at hx;cases hx;exact absurd (f rfl) b
 .rw[J3 (Ne.symm e)]at hx;obtain⟨y,hy,rfl⟩:=Option.map_eq_some_iff.1 hx;refine h y hy λ w=>b ?_;rw[Wc w];exact w
def MI.leaver(E:∀m g U,Stop m g U->g.status=.running){i:Nat}{g:Gr}(h:MI P t N Stop none gs w tr V rk rel q)(G:gs[i]?=some g)(f:g.status=.running)(B:rk i=none)(Q:(V (.run i)).tok.ph=.out) :
  JI P t N Stop gs w sl tr rk q i:=by
 have M:=(Array.getElem?_eq_some_iff.1 G).1;have z:i≠0:=λ e=>by subst e;exact h.root B
 have H:=h.gone i g B G Q;cases F:q i with
 |zero=>rw[F]at H;rw[H.1]at f;cases f
 |succ n=>
  rw[F]at H;rcases H with⟨hs,_⟩|⟨_,g',es,hm,S,H⟩
  .rw[hs]at f;cases f
  have I:stepG P (i==0) g w=.go g' w es:=by
   rw[show(i==0)=false by simpa using z];exact S w
  have Y:MI P t N Stop (some i) gs w tr V rk rel q:={ h with live:=λ j r _ B=>h.live j r S1 B };refine⟨_,w,_,V,rk,rel,Zp q i n,runT_crowd_go G I,?_,IB (i:=i) Jl M B (λ j L=>Qu _ _ L) (by rw[Qk,F];omega),.refl _,rfl⟩;refine Y.go E (V':=V) (rk':=rk) (rel':=rel) (q':=Zp q i n) (es:=es) G (λ _ _=>rfl) (λ _ _=>rfl) (λ j L=>Qu _ _ L) (λ _ _=>.inl rfl) h.root (.inl z) (λ r e=>by rw[B]at e;cases e) ?_ h.deps h.vi ?_ ?_ (h.mux.step G (λ x s me lo e=>absurd e ?_) (λ _=>rfl) rfl (λ _ hm _=>hm) λ _ _ _ _ _ x=>x) (h.bareM i)
  .intro _;obtain⟨T,X⟩:=h.bare i B;have hw:¬ZL (V (.run i)).tok.ph:=by rw[Q];rintro⟨b,D,e⟩;cases e
   refine⟨z,T,X,hw,.inl ⟨Q,?_⟩⟩;rw[Qk];exact H
  .exact h.ti.imp λ _ x=>x.dumb λ e he=>Pf (hm e he)
  .have K:=h.grp;unfold QH at K ⊢
   revert K
   cases(V (.run 0)).tok.ph with
   |par b ds pend k=>exact λ⟨h1,W,c,wt,s,h2,Z,h4⟩=>⟨h1,W,c,wt,s,h2,Z,QH.woken G (λ e=>absurd e z) h4⟩
   |_=>exact λ K=>K
  .rw[h.bareM i B];simp
def MI.parent(F:∀m g U,Stop m g U->g.status=.running){g g':Gr}{r r':Tr}{d d' b:Nat}{ds z:List Spec}{pend f:Bool}{k k':PS}{W:List Nat}{c wt s c' wt' Q:Nat}{es:Array Event}{bs:List (Nat×Bool)}{mu:Option ZO}
  (h:MI P t N Stop (some 0) gs w tr V rk rel q) (T:gs[0]?=some g) (K:rk 0=some r) (B:(V (.run 0)).tok=⟨d,.par b ds pend k,mu⟩)
  (H:∀j,QJ b (V j)) (E:Sh b t (Q0 c wt) (Qp s) w)
  (al:Qc P t true g (Q0 c wt) (Qp s)=.go g' (Q0 c' wt') (Qp Q) es bs) (af:Z5 b bs) (ag:∀e∈es,Yn b true e) (hd:deafBehind d es=d')
  (ah:GI N b z f k' (Z1 V) rel (λ i=>(V (.dep i)).M) W c' wt' Q) (Z:Tr.Sub r' r) (hJ:JR (Za P t N) Stop r' true g' ((V (.run 0)).at d' (.par b z f k'))) :
  JI P t N Stop gs w sl tr rk q 0:=by
 have ai:=(Array.getElem?_eq_some_iff.1 T).1;have I:=hJ.running F;have Y:stepG P (0==0) g w=.go g' (two w b t (Q0 c' wt') (Qp Q)) es:=H4 al E af;have G:∀j,j≠0->Q1 V (.run 0) ((V (.run 0)).at d' (.par b z f k')) (.run j)=V (.run j):=λ j X=>Qh _ _ (by intro e;cases e;exact X rfl);have S:∀j,Q1 V (.run 0) ((V (.run 0)).at d' (.par b z f k')) (.dep j)=V (.dep j):=λ j=>Qh _ _ S1
 have L:∀j,(Q1 V (.run 0) ((V (.run 0)).at d' (.par b z f k')) j).canW=(V j).canW/\(Q1 V (.run 0) ((V (.run 0)).at d' (.par b z f k')) j).canR=(V j).canR:=by
  intro j;by_cases e:j=.run 0
  .subst e;rw[Ql];exact⟨rfl,rfl⟩
  .rw[Qh _ _ e];exact⟨rfl,rfl⟩
 have ae:b<w.heap.size:=(Array.getElem?_eq_some_iff.1 E).1;refine⟨_,_,_,Q1 V (.run 0) ((V (.run 0)).at d' (.par b z f k')),Zp rk 0 (some r'),rel,q,runT_crowd_go T Y,?_,Xm Jl ai K λ an e=>by cases e;exact Z,.refl _,rfl⟩;refine h.go F (rel':=rel) (q':=q) (es:=es) T G (λ j X=>Qu _ _ X) (λ _ _=>rfl) (λ _ _=>.inl rfl) (by rw[Qk];simp) (.inr (.inl (by rw[Ql,B];rfl))) ?_ ?_ (λ j X=>by rw[S];exact h.deps j X) ?_ ?_ ?_ ?_ (λ e=>by rw[Qk]at e;cases e)
 .intro an e;rw[Qk]at e;cases e;rw[Ql];refine⟨hJ,?_,λ h0=>absurd rfl h0⟩;rw[h.deaf 0 h.root,B,hd];rfl
 .intro e;rw[Qk]at e;cases e
 .refine⟨λ j=>?_,λ aa ab l hn hw K=>h.vi.sep aa ab l hn (by rw[<- (L aa).1];exact hw) (by rw[<- (L ab).2];exact K)⟩;have hv:=(h.vi.two (st':=Q0 c' wt') (sm':=Qp Q) E H).ok;by_cases e:j=.run 0
  .subst e;rw[Ql];exact⟨(hv (.run 0)).imm,(hv (.run 0)).held,(hv (.run 0)).apart,(hv (.run 0)).sep⟩
  .rw[Qh _ _ e];exact hv j
 .obtain⟨rm,hti⟩:=h.ti;rw[B]at hti;have:=LD (i:=0) (fn:=g.frame.fn) (pos:=g.frame.place) hti ae H (.inl rfl) ag (h.mux.mb_ne E) (.inl rfl);refine⟨rm,?_⟩;have aj:Jv (Q1 V (.run 0) ((V (.run 0)).at d' (.par b z f k')))=Jv V:=by simp only[Jv,Q2,Ql];rfl
  rw[aj];have e1:(Q1 V (.run 0) ((V (.run 0)).at d' (.par b z f k')) (.run 0)).tok.ph.blk=some b:=by rw[Ql];rfl
  have e2:∀j,j=0\/(Q1 V (.run 0) ((V (.run 0)).at d' (.par b z f k')) (.run j)).tok.ph≠.out↔j=0\/(V (.run j)).tok.ph≠.out:=by
   intro j;by_cases e:j=0
   .simp[e]
   .rw[G j e]
  have e3:∀j,ZL (Q1 V (.run 0) ((V (.run 0)).at d' (.par b z f k')) (.run j)).tok.ph↔ZL (V (.run j)).tok.ph:=by
   intro j;by_cases e:j=0
   .subst e;rw[Ql,B];constructor
    .rintro⟨b,D,e⟩;cases e
    .rintro⟨b,D,e⟩;cases e
   .rw[G j e]
  rw[e1];have ac:=funext λ j=>propext (e2 j);have ad:=funext λ j=>propext (e3 j);rw[ac,ad];have am:(two w b t (Q0 c' wt') (Qp Q)).heap.size=w.heap.size:=by simp[two]
  rw[am];exact this.turn (λ k l hl=>by rw[<- (L k).1];exact hl) (λ k l hl=>by rw[<- (L k).2];exact hl) (λ _ x=>x)
 .unfold QH;rw[Ql]
  have hk:Z1 (Q1 V (.run 0) ((V (.run 0)).at d' (.par b z f k')))=Z1 V:=by
   funext j;by_cases e:j=0
   .simp[Z1,e]
   .simp only[Z1,if_neg e,G j e]
  refine⟨λ j a ha ho K=>H j a ha ho (by rw[<- (L j).2];exact K),W,c',wt',Q,E.two,?_,λ x hx ak=>?_⟩
  .rw[hk];simpa only[S]using ah
  .rw[Wi T]at hx;cases hx;exact absurd I ak
 .refine h.mux.step T (λ _ _ _ _ _=>I) (λ j=>?_) (Qh _ _ S1) (λ m hm _ j a ha ho K=>hm j a ha ho (by rw[<- (L j).2];exact K)) (λ m t st sm _ hs=>hs.two_other (E.ne hs));by_cases e:j=0
  .subst e;simp only[Q2,Ql];rfl
  .simp only[Q2,G j e]
end
section
variable{P:Program}{t:TypeId}{N:Nat}{Stop:QI Tk}{gs:Array Gr}{w:World}{tr:Trace}{V V':Hd->Qa Tk}{rk:Nat->Option Tr}{rel:Nat->Option Nat}{q:Nat->Nat}{sl:Option (Nat×Nat)}
def MI.par(h:MI P t N Stop none gs w tr V rk rel q){b:Nat}(hb:(V (.run 0)).tok.ph.blk=some b) :
  ∃ds pend k,(V (.run 0)).tok.ph=.par b ds pend k/\(∀j,QJ b (V j))/\∃W c wt s,Sh b t (Q0 c wt) (Qp s) w/\GI N b ds pend k (Z1 V) rel (λ i=>(V (.dep i)).M) W c wt s/\(∀g,gs[0]?=some g->g.status≠.running->s=0):=by
 have f:=h.grp;unfold QH at f
 revert f hb
 cases z:(V (.run 0)).tok.ph with
 |out=>intro hb;cases hb
 |par B ds pend k=>
  intro hb f;cases hb;exact⟨ds,pend,k,rfl,f⟩
 |_=>intro _ f;exact f.elim
def MI.tailGo(G:∀m g U,Stop m g U->g.status=.running){i n:Nat}{g g':Gr}{b:Nat}{ds:List Spec}{pend:Bool}{k:PS}{W:List Nat}{c wt s c' wt' L:Nat}{es:Array Event}{bs:List (Nat×Bool)}{p':Ph}
  (h:MI P t N Stop none gs w tr V rk rel q) (X:gs[i]?=some g) (f:i≠0) (E:rk i=none) (aa:(V (.run i)).tok.ph≠.out) (K:(V (.run 0)).tok.ph=.par b ds pend k)
  (H:∀j,QJ b (V j)) (F:Sh b t (Q0 c wt) (Qp s) w) (ae:∀g,gs[0]?=some g->g.status≠.running->s=0)
  (ao:Qc P t false g (Q0 c wt) (Qp s)=.go g' (Q0 c' wt') (Qp L) es bs) (ag:Z5 b bs) (ah:∀e∈es,Yn b false e) (an:∀j,tr.size<=j->¬(tr++MemOp.ofEvents i g.frame.fn g.frame.place es).counts j)
  (ai:GI N b ds pend k (Zp (Z1 V) i p') rel (λ i=>(V (.dep i)).M) W c' wt' L) (aq:L=s\/(mayWake P g=true/\(g'.status=.running\/g'.status=.finished)))
  (hq:q i=n+1) (Z:¬ZL p')
  (hk:(p'=.out/\QuitsD P n (deafBehind (Deaf tr i) es) g')\/(p'≠.out/\Tl P t N b n (deafBehind (Deaf tr i) es) p' g')):JI P t N Stop gs w sl tr rk q i:=by
 have ak:=(Array.getElem?_eq_some_iff.1 X).1
 have ac:stepG P (i==0) g w=.go g' (two w b t (Q0 c' wt') (Qp L)) es:=by
  rw[show(i==0)=false by simpa using f];exact H4 ao F ag
 have h':MI P t N Stop (some i) gs w tr V rk rel q:={ h with live:=λ j r _ E=>h.live j r S1 E };have z:∀j,j≠i->Q1 V (.run i) (Qa.bare ⟨1,p',none⟩) (.run j)=V (.run j):=λ j I=>Qh _ _ (by intro e;cases e;exact I rfl);have S:∀j,Q1 V (.run i) (Qa.bare ⟨1,p',none⟩) (.dep j)=V (.dep j):=λ j=>Qh _ _ S1
 have hW:∀k l,(Q1 V (.run i) (Qa.bare ⟨1,p',none⟩) k).canW l->(V k).canW l:=by
  intro k l hl;by_cases e:k=.run i
  .subst e;rw[Ql]at hl;exact absurd hl (Wh _ _)
  .rwa [Qh _ _ e]at hl
 have hR:∀k l,(Q1 V (.run i) (Qa.bare ⟨1,p',none⟩) k).canR l->(V k).canR l:=by
  intro k l hl;by_cases e:k=.run i
  .subst e;rw[Ql]at hl;exact absurd hl (Wg _ _)
  .rwa [Qh _ _ e]at hl
 have af:b<w.heap.size:=(Array.getElem?_eq_some_iff.1 F).1;refine⟨_,_,_,Q1 V (.run i) (Qa.bare ⟨1,p',none⟩),rk,rel,Zp q i n,runT_crowd_go X ac,?_,IB (i:=i) Jl ak E (λ j I=>Qu _ _ I) (by rw[Qk,hq];omega),.refl _,rfl⟩;refine h'.go G (rel':=rel) (q':=Zp q i n) (es:=es) X z (λ _ _=>rfl) (λ j I=>Qu _ _ I) (λ _ _=>.inl rfl) h.root (.inl f) (λ r e=>by rw[E]at e;cases e) ?_ (λ j I=>by rw[S];exact h.deps j I) ?_ ?_ ?_ ?_ (λ _=>by unfold Q2;rw[Ql];rfl)
 .intro _;rw[Ql,Qk];refine⟨f,rfl,rfl,Z,?_⟩;rcases hk with⟨h1,h2⟩|⟨h1,h2⟩
  .exact .inl ⟨h1,h2⟩
  .exact .inr ⟨h1,b,by rw[K];rfl,h2⟩
 .have hv:=h.vi.two (st':=Q0 c' wt') (sm':=Qp L) F H;refine⟨λ j=>?_,λ au av l hn hw E=>hv.sep au av l hn (hW _ _ hw) (hR _ _ E)⟩;by_cases e:j=.run i
  .subst e;rw[Ql];exact Y6 _ _
  .rw[Qh _ _ e];exact hv.ok j
 .obtain⟨rm,hti⟩:=h.ti;rw[K]at hti;have:=LD (i:=i) (fn:=g.frame.fn) (pos:=g.frame.place) hti af H (.inr aa) (by rw[show(i==0)=false by simpa using f];exact ah) (h.mux.mb_ne F) (.inr (.inr an));refine⟨rm,?_⟩;have al:Jv (Q1 V (.run i) (Qa.bare ⟨1,p',none⟩))=Jv V:=by simp only[Jv,Q2,z 0 (Ne.symm f)]
  rw[al];have ap:(two w b t (Q0 c' wt') (Qp L)).heap.size=w.heap.size:=by simp[two]
  rw[ap,z 0 (Ne.symm f),K]
  have e3:(λ j=>ZL (Q1 V (.run i) (Qa.bare ⟨1,p',none⟩) (.run j)).tok.ph)=λ j=>ZL (V (.run j)).tok.ph:=by
   funext j;by_cases e:j=i
   .subst e;rw[Ql];refine propext ⟨λ x=>absurd x Z,λ x=>absurd E (h.wk' j x)⟩
   .rw[z j e]
  rw[e3];refine this.turn hW hR ?_;rintro j (rfl|I)
  .exact .inl rfl
  .by_cases e:j=i
   .subst e;exact .inr aa
   .rw[z j e]at I;exact .inr I
 .unfold QH;rw[z 0 (Ne.symm f),K]
  have aj:Z1 (Q1 V (.run i) (Qa.bare ⟨1,p',none⟩))=Zp (Z1 V) i p':=by
   funext j;by_cases e:j=i
   .subst e;simp only[Z1,if_neg f,Ql,Qk];rfl
   .rw[Qu _ _ e];by_cases e0:j=0
    .simp[Z1,e0]
    .simp only[Z1,if_neg e0,z j e]
  refine⟨λ j a ha Y E=>H j a ha Y (hR _ _ E),W,c',wt',L,F.two,?_,?_⟩
  .rw[aj];simpa only[S]using ai
  .rcases aq with rfl|⟨am,ad⟩
   .exact QH.woken X (λ e=>absurd e f) ae
   .intro x hx hns;exfalso;obtain⟨aw,ab⟩:=Option.ne_none_iff_exists'.1 h.root;obtain⟨Q,hJ,T⟩:=h.live 0 aw S1 ab;have B:=hJ.running G;rw[J3 (Ne.symm f)]at hx;rcases T with T|⟨T,Y,_⟩
    .rw[T,Option.map_some,Wc B]at hx;cases hx;exact hns B
    .rw[T,Option.map_some]at hx
     have:woken P g g' (two w b t (Q0 c' wt') (Qp L)) { Q with status:=.blocked }=Q:=by
      unfold woken;rw[if_pos,again_blocked B Y];rcases ad with e|e <;> rw[e,am] <;> rfl
     rw[this]at hx;cases hx;exact hns B
 .refine h.mux.step X (λ x s me lo e=>?_) (λ j=>?_) (Qh _ _ S1) (λ m hm _ j a ha Y E=>hm j a ha Y (hR _ _ E)) (λ m t st sm _ hs=>hs.two_other (F.ne hs))
  .rw[h.bareM i E]at e;cases e
  .by_cases e:j=i
   .subst e;rw[h.bareM j E];unfold Q2;rw[Ql];rfl
   .unfold Q2;rw[z j e]
def MI.tailStep(z:∀m g U,Stop m g U->g.status=.running){i:Nat}{g:Gr}(h:MI P t N Stop none gs w tr V rk rel q)(hi:gs[i]?=some g)(hr:rk i=none)(hp:(V (.run i)).tok.ph≠.out) :
  JI P t N Stop gs w sl tr rk q i:=by
 have M:i≠0:=λ e=>by subst e;exact h.root hr
 obtain⟨ag,b,hg,hb,ht⟩:=h.tail i hr hp;rw[hi]at hg;cases hg;obtain⟨ds,pend,k,X,H,W,c,wt,s,Y,G,T⟩:=h.par hb;have f:Z1 V i=(V (.run i)).tok.ph:=by simp[Z1,M]
 cases L:q i with
 |zero=>rw[L]at ht;exact ht.elim
 |succ n=>
  rw[L]at ht;obtain⟨af,ht⟩:=ht;have I:∀(es:Array Event),Deaf tr i=1->∀j,(deafBehind 1 (es.extract 0 j)≠0)->deafBehind (Deaf tr i) (es.extract 0 j)≠0:=λ es e j hj=>by rw[e];exact hj
  rcases ht with⟨g',es,bs,hm,F,E,S⟩|⟨Q,Z,E⟩|⟨Q,Z,g',bs,F,E,S⟩|⟨Q,Z,g',bs,F,E,S⟩|⟨Q,Z,ad,g',bs,F,E,S⟩
  .have hup:Zp (Z1 V) i (V (.run i)).tok.ph=Z1 V:=by funext j;by_cases e:j=i <;> simp[Zp,e,f]
   refine h.tailGo z (p':=(V (.run i)).tok.ph) hi M hr hp X H Y T (E _ _) F (λ e B=>.inl (hm e B)) ?_ (by rw[hup];exact G) (.inl rfl) L (λ x=>absurd hr (h.wk' i x)) (.inr ⟨hp,S⟩);intro j hj hc;obtain⟨x,hx,_⟩:=hc;rcases Ji (t:=tr) hx with⟨ah,_⟩|⟨_,op,ae,ac,_⟩
   .omega
   .obtain⟨e,he',rfl⟩:=Go.Conc.mem_ofEvents ae;rw[(Pf (hm e he')).1]at ac;cases ac
  .rw[Q]at f;obtain⟨h1,h2,h3,rfl⟩:=G.relC f;obtain⟨g',bs,F,E,S⟩:=E c wt h1 h2 h3
   have K:=V_ (tr:=tr) (i:=i) (fn:=g.frame.fn) (pos:=g.frame.place) (b:=b) (es:=#[Jc b 0,QA b 0]) (by intro e B;simp at B;rcases B with rfl|rfl <;> exact .inr ⟨_,_,rfl⟩) (by
    intro j hj;refine I _ Z j ?_;have:j=0\/j=1:=by simp at hj;omega
    rcases this with rfl|rfl <;> simp[deafBehind,Jc,QA])
   have aa:∀e∈(#[Jc b 0,QA b 0]:Array Event),Yn b false e:=by
    intro e B;simp at B;rcases B with rfl|rfl <;> exact .inr (.inl ⟨0,_,O1,rfl⟩)
   by_cases hl:c=1/\wt=1
   .rw[if_pos hl]at S;obtain⟨rfl,rfl⟩:=hl;obtain⟨rfl,ab⟩:=G.last f;exact h.tailGo z (p':=.lst b 0) hi M hr hp X H Y T E F aa K ab (.inl rfl) L (by rintro⟨_,_,e⟩;cases e) (.inr ⟨S1,by rw[Z];exact S⟩)
   .rw[if_neg hl]at S;exact h.tailGo z (p':=.out) hi M hr hp X H Y T E F aa K (G.leave f hl) (.inl rfl) L (by rintro⟨_,_,e⟩;cases e) (.inl ⟨rfl,by rw[Z];exact S⟩)
  .rw[Q]at f;obtain⟨rfl,rfl,rfl,h4,_⟩:=G.lstAt f;obtain rfl:wt=1:=O1
   have K:=V_ (tr:=tr) (i:=i) (fn:=g.frame.fn) (pos:=g.frame.place) (b:=b) (es:=#[Jc b 0]) (by intro e B;simp at B;subst B;exact .inr ⟨_,_,rfl⟩) (by
    intro j hj;refine I _ Z j ?_;have:j=0:=by simp at hj;omega
    subst this;simp[deafBehind])
   exact h.tailGo z (p':=.lst b 1) hi M hr hp X H Y T E F (by intro e B;simp at B;subst B;exact .inr (.inl ⟨0,_,O1,rfl⟩)) K (G.next (wt':=1) f (.inl ⟨rfl,rfl⟩)) (.inl rfl) L (by rintro⟨_,_,e⟩;cases e) (.inr ⟨S1,by rw[Z];exact S⟩)
  .rw[Q]at f;obtain⟨rfl,rfl,rfl,h4,_⟩:=G.lstAt f;obtain rfl:wt=1:=O1
   have K:=V_ (tr:=tr) (i:=i) (fn:=g.frame.fn) (pos:=g.frame.place) (b:=b) (es:=#[QA b 0]) (by intro e B;simp at B;subst B;exact .inr ⟨_,_,rfl⟩) (by
    intro j hj;refine I _ Z j ?_;have:j=0:=by simp at hj;omega
    subst this;simp[deafBehind])
   exact h.tailGo z (p':=.lst b 2) hi M hr hp X H Y T E F (by intro e B;simp at B;subst B;exact .inr (.inl ⟨0,_,O1,rfl⟩)) K (G.next (wt':=0) f (.inr ⟨rfl,rfl⟩)) (.inl rfl) L (by rintro⟨_,_,e⟩;cases e) (.inr ⟨S1,by rw[Z];exact S⟩)
  .rw[Q]at f;obtain⟨rfl,rfl,rfl,h4,_⟩:=G.lstAt f;obtain rfl:wt=0:=O1
   have K:=V_ (tr:=tr) (i:=i) (fn:=g.frame.fn) (pos:=g.frame.place) (b:=b) (es:=#[Z0 .disable,Jc b 1,QA b 1,Z0 .enable]) (by intro e B;simp at B;rcases B with rfl|rfl|rfl|rfl <;> first|exact .inl rfl|exact .inr ⟨_,_,rfl⟩) (by
    intro j hj;refine I _ Z j ?_;have:j=0\/j=1\/j=2\/j=3:=by simp at hj;omega
    rcases this with rfl|rfl|rfl|rfl <;> simp[deafBehind,Jc,QA,Z0])
   exact h.tailGo z (p':=.out) hi M hr hp X H Y T E F (by intro e B;simp at B;rcases B with rfl|rfl|rfl|rfl <;> first|exact .inl rfl|exact .inr (.inl ⟨1,_,O1,rfl⟩)) K (G.wake f) (.inr ⟨ad,S.status⟩) L (by rintro⟨_,_,e⟩;cases e) (.inl ⟨rfl,by rw[Z];exact S⟩)
end
section
variable{P:Program}{t:TypeId}{N:Nat}{Stop:QI Tk}{gs:Array Gr}{w:World}{tr:Trace}{V V':Hd->Qa Tk}{rk:Nat->Option Tr}{rel:Nat->Option Nat}{q:Nat->Nat}{sl:Option (Nat×Nat)}
def MI.par'{ex:Option Nat}(h:MI P t N Stop ex gs w tr V rk rel q){b:Nat}(hb:(V (.run 0)).tok.ph.blk=some b) :
  ∃ds pend k,(V (.run 0)).tok.ph=.par b ds pend k/\(∀j,QJ b (V j))/\∃W c wt s,Sh b t (Q0 c wt) (Qp s) w/\GI N b ds pend k (Z1 V) rel (λ i=>(V (.dep i)).M) W c wt s/\(∀g,gs[0]?=some g->g.status≠.running->s=0):=by
 have f:=h.grp;unfold QH at f
 revert f hb
 cases z:(V (.run 0)).tok.ph with
 |out=>intro hb;cases hb
 |par B ds pend k=>intro hb f;cases hb;exact⟨ds,pend,k,rfl,f⟩
 |_=>intro _ f;exact f.elim
def jq{i:Nat}{g g':Gr}(f:gs[i]?=some g)(hb:g'.status=.blocked):behind P gs i g g' w=gs.setIfInBounds i g':=by
 have b:=(Array.getElem?_eq_some_iff.1 f).1;apply Array.ext_getElem?;intro j;by_cases e:j=i
 .subst e;rw[Wi f];simp[b]
 .rw[J3 e,Array.getElem?_setIfInBounds_ne (Ne.symm e)];cases hx:gs[j]? with
  |none=>rfl
  |some x=>
   simp only[Option.map_some];unfold woken;simp[hb]
def MI.sleep{i:Nat}{g:Gr}{r:Tr}(h:MI P t N Stop (some i) gs w tr V rk rel q)(I:gs[i]?=some g)(G:g.status=.running)(T:g.offers=none)
  (M:rk i=some r) (K:Uq i (V (.run i)).tok) (H:stepG P (i==0) g w=.go { g with status:=.blocked } w #[]) (S:JR (Za P t N) Stop r (i==0) g (V (.run i)))
  (z:QH t N (gs.setIfInBounds i { g with status:=.blocked }) w V rel) (E:JH (gs.setIfInBounds i { g with status:=.blocked }) w V):JI P t N Stop gs w sl tr rk q i:=by
 have L:=(Array.getElem?_eq_some_iff.1 I).1;have F:rk i≠none:=by rw[M];simp
 have B:behind P gs i g { g with status:=.blocked } w=gs.setIfInBounds i { g with status:=.blocked }:=jq I rfl;refine⟨_,_,_,V,rk,rel,q,runT_crowd_go I H,?_,?_,.refl _,rfl⟩
 .have e1:tr++MemOp.ofEvents i g.frame.fn g.frame.place #[]=tr:=by rw[ofEvents_eq];simp
  show MI P t N Stop none (behind P gs i g { g with status:=.blocked } w) w _ V rk rel q;rw[B,e1];have f:∀j,j≠i->(gs.setIfInBounds i { g with status:=.blocked })[j]?=gs[j]?:=λ j b=>Array.getElem?_setIfInBounds_ne (Ne.symm b);refine⟨?_,h.root,?_,?_,?_,h.bare,h.wk,h.wk',h.deaf,h.deps,h.vi,h.ti,z,E,h.bareM⟩
  .intro j r'' _ hr'';by_cases e:j=i
   .subst e;rw[M]at hr'';cases hr'';exact⟨g,S,.inr ⟨by simp[L],T,K⟩⟩
   .obtain⟨g_1,h1,h2⟩:=h.live j r'' (λ e'=>e (Option.some.inj e').symm) hr'';refine⟨g_1,h1,?_⟩;rw[f j e];exact h2
  .intro j x b hx hp;have e:j≠i:=λ e=>by subst e;exact F b
   rw[f j e]at hx;exact h.gone j x b hx hp
  .intro j b hp;have e:j≠i:=λ e=>by subst e;exact F b
   obtain⟨x,Q,h1,h2⟩:=h.tail j b hp;exact⟨x,Q,by rw[f j e];exact h1,h2⟩
  .intro j b;exact h.above j (by simpa using b)
 .show JA (QD (behind P gs i g { g with status:=.blocked } w) rk q) (QD gs rk q);rw[B];exact jB I G rfl
def JH.sleep{i:Nat}{g g':Gr}(h:JH gs w V)(B:gs[i]?=some g)(z:∀x s me lo,Q2 V i≠some (.lok x s me lo)):JH (gs.setIfInBounds i g') w V:=by
 refine h.at (λ _=>rfl) rfl (λ _ hm _=>hm) (λ _ _ _ _ _ x=>x) λ j x s me lo y e hy b=>?_;have f:j≠i:=λ e'=>by subst e';exact z _ _ _ _ e
 rw[Array.getElem?_setIfInBounds_ne (Ne.symm f)]at hy;exact⟨y,hy,b⟩
def MI.block{g:Gr}{r:Tr}{b:Nat}{ds:List Spec}{bs:List (Nat×Bool)}{mu:Option ZO}(h:MI P t N Stop (some 0) gs w tr V rk rel q)(K:gs[0]?=some g)(E:g.status=.running)(Q:g.offers=none)
  (S:rk 0=some r) (f:(V (.run 0)).tok=⟨1,.par b ds false .wait,mu⟩) (B:∀j,QJ b (V j)) {W:List Nat} {c wt:Nat} (z:Sh b t (Q0 c wt) (Qp 0) w) (H:GI N b ds false .wait (Z1 V) rel (λ i=>(V (.dep i)).M) W c wt 0)
  (I:Qc P t true g (Q0 c wt) (Qp 0)=.blocked { g with status:=.blocked } (Q0 c wt) (Qp 0) bs) (G:Z5 b bs) (L:JR (Za P t N) Stop r true g (V (.run 0))):JI P t N Stop gs w sl tr rk q 0:=by
 have F:stepG P (0==0) g w=.go { g with status:=.blocked } w #[]:=by
  have:=E4 I z G
  rwa [z.two_same]at this
 refine h.sleep K E Q S (.inl ⟨rfl,b,ds,mu,f⟩) F L ?_ (h.mux.sleep K λ x s me lo e=>?_)
 .unfold QH;rw[f];exact⟨B,W,c,wt,0,z,H,λ _ _ _=>rfl⟩
 .have h3:=h.mux.2.2;rw[e]at h3;exact h3.elim
def MI.calm(E:∀m g U,Stop m g U->g.status=.running){i:Nat}{g g':Gr}{r T:Tr}{b:Nat}{bs:List (Nat×Bool)}(h:MI P t N Stop (some i) gs w tr V rk rel q)(I:gs[i]?=some g)(hr:rk i=some r)(f:i≠0)(hb:(V (.run i)).tok.ph.blk=some b)
  (ab:∀st sm,Qc P t false g st sm=.go g' st sm #[] bs) (Z:Z5 b bs) (Q:Tr.Sub T r) (hJ:JR (Za P t N) Stop T false g' (V (.run i))):JI P t N Stop gs w sl tr rk q i:=by
 have aa:=(Array.getElem?_eq_some_iff.1 I).1;have L:rk i≠none:=by rw[hr];simp
 have F:=h.wk i f L;have S:Z1 V i=(V (.run i)).tok.ph:=by simp[Z1,f]
 have B:=h.grp;unfold QH at B;cases z:(V (.run 0)).tok.ph with
 |out=>rw[z]at B;have:=B.1 i f;rw[this]at F;obtain⟨_,_,e⟩:=F;cases e
 |wrk _ _=>rw[z]at B;exact B.elim
 |rel _=>rw[z]at B;exact B.elim
 |lst _ _=>rw[z]at B;exact B.elim
 |par b' ds pend k=>
  rw[z]at B;obtain⟨K,W,c,wt,s,G,H,X⟩:=B
  have Y:b'=b:=by
   obtain⟨ad,D,e⟩:=F;rw[e]at hb;cases hb;rw[e]at S;rcases H.ph i with e'|⟨D',e'⟩|e'|⟨j,e'⟩ <;> rw[S]at e' <;> cases e';rfl
  subst Y
  have M:stepG P (i==0) g w=.go g' w #[]:=by
   rw[show(i==0)=false by simpa using f];have:=H4 (ab (Q0 c wt) (Qp s)) G Z
   rwa [G.two_same]at this
  refine⟨_,_,_,V,Zp rk i (some T),rel,q,runT_crowd_go I M,?_,Xm Jl aa hr λ ac e=>by cases e;exact Q,.refl _,rfl⟩;refine h.go E (V':=V) (rk':=Zp rk i (some T)) (rel':=rel) (q':=q) (es:=#[]) I (λ _ _=>rfl) (λ j hj=>Qu _ _ hj) (λ _ _=>rfl) (λ _ _=>.inl rfl) (by rw[Qu _ _ (Ne.symm f)];exact h.root) (.inl f) ?_ ?_ h.deps h.vi ?_ ?_ (h.mux.step I (λ _ _ _ _ _=>hJ.running E) (λ _=>rfl) rfl (λ _ hm _=>hm) λ _ _ _ _ _ x=>x) (λ e=>by rw[Qk]at e;cases e)
  .intro ac e;rw[Qk]at e;cases e;refine⟨by rw[show(i==0)=false by simpa using f];exact hJ,?_,λ _=>F⟩;rw[deafBehind_nil];exact h.deaf i L
  .intro e;rw[Qk]at e;cases e
  .exact h.ti.imp λ _ x=>x.dumb λ e he=>by simp at he
  .unfold QH;rw[z];exact⟨K,W,c,wt,s,G,H,QH.woken I (λ e=>absurd e f) X⟩
def MI.lay(Z:∀m g U,Stop m g U->g.status=.running){i n:Nat}{g g':Gr}{r:Tr}{b:Nat}{D:Spec}{bs:List (Nat×Bool)}(h:MI P t N Stop (some i) gs w tr V rk rel q)(hi:gs[i]?=some g)(hr:rk i=some r)(f:i≠0)
  {mu:Option ZO} (H:(V (.run i)).tok=⟨0,.wrk b D,mu⟩) (au:mu=none\/∃x s lo,mu=some (.lok x s .fin lo)) (hD:D (V (.run i)).M) (ax:∀st sm,Qc P t false g st sm=.go g' st sm #[Z0 (.releaseMerge ⟨b,0,none⟩)] bs) (an:Z5 b bs) (hT:Tl P t N b n 0 (.rel b) g'):JI P t N Stop gs w sl tr rk q i:=by
 have ap:=(Array.getElem?_eq_some_iff.1 hi).1;have aw:rk i≠none:=by rw[hr];simp
 have ai:Z1 V i=.wrk b D:=by simp[Z1,f,H]
 have ad:Deaf tr i=0:=by rw[h.deaf i aw,H]
 have Q:=h.grp;unfold QH at Q;cases G:(V (.run 0)).tok.ph with
 |out=>rw[G]at Q;have:=Q.1 i f;rw[H]at this;cases this
 |wrk _ _=>rw[G]at Q;exact Q.elim
 |rel _=>rw[G]at Q;exact Q.elim
 |lst _ _=>rw[G]at Q;exact Q.elim
 |par I ds pend k=>
  rw[G]at Q;obtain⟨Y,W,c,wt,s,T,ae,ak⟩:=Q
  have al:I=b:=by
   rcases ae.ph i with e'|⟨D',e'⟩|e'|⟨j,e'⟩ <;> rw[ai]at e' <;> cases e';rfl
  subst al
  have ah:stepG P (i==0) g w=.go g' w #[Z0 (.releaseMerge ⟨I,0,none⟩)]:=by
   rw[show(i==0)=false by simpa using f];have:=H4 (ax (Q0 c wt) (Qp s)) T an
   rwa [T.two_same]at this
  obtain⟨af,ag⟩:=ae.rel_ (r:=tr.size) ai hD;have am:I<w.heap.size:=(Array.getElem?_eq_some_iff.1 T).1
  let E:=Q1 (Q1 V (.run i) (Qa.bare ⟨0,.rel I,none⟩)) (.dep i) ⟨λ _=>none,(V (.run i)).M,⟨0,.out,none⟩⟩
  have v1:E (.run i)=Qa.bare ⟨0,.rel I,none⟩:=by show Q1 _ _ _ _=_;rw[Qh _ _ S1,Ql]
  have S:∀j,j≠i->E (.run j)=V (.run j):=λ j B=>by show Q1 _ _ _ _=_;rw[Qh _ _ S1,Qh _ _ (by intro e;cases e;exact B rfl)]
  have v3:E (.dep i)=⟨λ _=>none,(V (.run i)).M,⟨0,.out,none⟩⟩:=Ql ..;have v4:∀j,j≠i->E (.dep j)=V (.dep j):=λ j B=>by show Q1 _ _ _ _=_;rw[Qh _ _ (by intro e;cases e;exact B rfl),Qh _ _ S1]
  have v5:E .lck=V .lck:=by show Q1 _ _ _ _=_;rw[Qh _ _ S1,Qh _ _ S1]
  have aa:=pZ (V (.run i)) (⟨0,.rel I,none⟩:Tk) ⟨0,.out,none⟩;have ay:VI E w:=h.vi.fork aa S1
  have hW:∀k l,(E k).canW l->(V k).canW l/\k≠.dep i\/(k=.dep i/\(V (.run i)).canW l):=by
   intro k l hl;cases k with
   |run j=>
    by_cases e:j=i
    .subst e;rw[v1]at hl;exact absurd hl (Wh _ _)
    .rw[S j e]at hl;exact .inl ⟨hl,S1⟩
   |dep j=>
    by_cases e:j=i
    .subst e;rw[v3]at hl;exact .inr ⟨rfl,aa.wc l hl⟩
    .rw[v4 j e]at hl;exact .inl ⟨hl,by intro e';cases e';exact e rfl⟩
   |lck=>rw[v5]at hl;exact .inl ⟨hl,S1⟩
  have hR:∀k l,(E k).canR l->(V k).canR l/\k≠.dep i\/(k=.dep i/\(V (.run i)).canR l):=by
   intro k l hl;cases k with
   |run j=>
    by_cases e:j=i
    .subst e;rw[v1]at hl;exact absurd hl (Wg _ _)
    .rw[S j e]at hl;exact .inl ⟨hl,S1⟩
   |dep j=>
    by_cases e:j=i
    .subst e;rw[v3]at hl;exact .inr ⟨rfl,aa.rc l hl⟩
    .rw[v4 j e]at hl;exact .inl ⟨hl,by intro e';cases e';exact e rfl⟩
   |lck=>rw[v5]at hl;exact .inl ⟨hl,S1⟩
  refine⟨_,_,_,E,Zp rk i none,Zp rel i (some tr.size),Zp q i n,runT_crowd_go hi ah,?_,Xm Jl ap hr λ a1 e=>(by cases e),.refl _,rfl⟩
  have e0:MemOp.ofEvents i g.frame.fn g.frame.place #[Z0 (.releaseMerge ⟨I,0,none⟩)]=#[{ g:=i,fn:=g.frame.fn,pos:=g.frame.place,act:=.mark (.releaseMerge ⟨I,0,none⟩) }]:=by
   rw[ofEvents_eq];simp[Z0,MemAct.ofEvent]
  refine h.go Z (V':=E) (rk':=Zp rk i none) (rel':=Zp rel i (some tr.size)) (q':=Zp q i n) (es:=#[Z0 (.releaseMerge ⟨I,0,none⟩)]) hi S (λ j B=>Qu _ _ B) (λ j B=>Qu _ _ B) (λ j B=>.inl (Qu _ _ B)) (by rw[Qu _ _ (Ne.symm f)];exact h.root) (.inl f) ?_ ?_ ?_ ay ?_ ?_ ?_ (λ _=>by unfold Q2;rw[v1];rfl)
  .intro a1 e;rw[Qk]at e;cases e
  .intro _;rw[v1,Qk,ad];refine⟨f,rfl,rfl,?_,.inr ⟨λ e=>(by cases e),I,by rw[G];rfl,hT⟩⟩;rintro⟨_,_,e⟩;cases e
  .intro j B;have e:j≠i:=λ e=>by subst e;rw[Qk]at B;cases B
   rw[Qu _ _ e]at B;rw[v4 j e];exact h.deps j B
  .obtain⟨rm,hti⟩:=h.ti;have aq:Jv E=Jv V:=by simp only[Jv,Q2,S 0 (Ne.symm f)]
   refine⟨rm,?_⟩;rw[S 0 (Ne.symm f),e0,aq]
   have:=hti.release (W':=λ k=>(E k).canW) (R':=λ k=>(E k).canR) (wk':=λ j=>ZL (E (.run j)).tok.ph) (rel':=Zp rel i (some tr.size)) (y:={ g:=i,fn:=g.frame.fn,pos:=g.frame.place,act:=.mark (.releaseMerge ⟨I,0,none⟩) }) (b:=I) (by rw[G];rfl) rfl am ad ag (λ k=>by simp[Zp]) hW hR (λ k hk=>by
    by_cases e:k=i
    .exact .inr e
    .left;rw[S k e];exact hk)
   refine this.turn (λ _ _ h=>h) (λ _ _ h=>h) ?_;rintro j (rfl|B)
   .exact .inl rfl
   .by_cases e:j=i
    .subst e;right;rw[H];simp
    .rw[S j e]at B;exact .inr B
  .unfold QH;rw[S 0 (Ne.symm f),G]
   have ao:Z1 E=Zp (Z1 V) i (.rel I):=by
    funext j;by_cases e:j=i
    .subst e;simp only[Z1,if_neg f,v1,Qk];rfl
    .rw[Qu _ _ e];by_cases e0:j=0
     .simp[Z1,e0]
     .simp only[Z1,if_neg e0,S j e]
   have aj:(λ j=>(E (.dep j)).M)=Zp (λ j=>(V (.dep j)).M) i (V (.run i)).M:=by
    funext j;by_cases e:j=i
    .subst e;rw[v3,Qk]
    .rw[v4 j e,Qu _ _ e]
   refine⟨λ j a ha ho ac=>?_,W,c,wt,s,T,by rw[ao,aj];exact af,QH.woken hi (λ e=>absurd e f) ak⟩;rcases hR _ _ ac with⟨h1,_⟩|⟨_,h1⟩
   .exact Y _ a ha ho h1
   .exact Y _ a ha ho h1
  .have hmk:∀j,j≠i->Q2 E j=Q2 V j:=λ j B=>by unfold Q2;rw[S j B]
   have K:Q2 E i=none:=by unfold Q2;rw[v1];rfl
   have X:Q2 V i=mu:=by unfold Q2;rw[H]
   have ab:∀m,(∀j,QJ m (V j))->∀j,QJ m (E j):=λ m hm j a ha ho ac=>by
    rcases hR _ _ ac with⟨h1,_⟩|⟨_,h1⟩
    .exact hm _ a ha ho h1
    .exact hm _ a ha ho h1
   obtain⟨g1,g2,g3⟩:=h.mux;refine⟨λ j x u B e=>?_,by rw[v5];exact g2,?_⟩
   .by_cases F:j=i
    .subst F;rw[K]at e;cases e
    .rw[hmk j F]at e;exact g1 j x u B e
   .rw[hmk 0 (Ne.symm f)]
    revert g3
    cases e0:Q2 V 0 with
    |none=>
     rintro⟨g3,L⟩;refine⟨λ j=>?_,by rw[v5];exact L⟩;by_cases F:j=i
     .subst F;exact K
     .rw[hmk j F];exact g3 j
    |some m0=>
     cases m0 with
     |lok=>exact λ x=>x
     |par x u=>
      rintro⟨g3,lp,st,sm,L⟩;refine⟨ab _ g3,lp,st,sm,⟨L.sh,L.word,λ j x' s me lo e=>?_,λ j k s a2 az l₁ a3 a0 l₂ e e'=>?_,λ s hs=>?_,L.idle,λ e=>by rw[v5];exact L.dep e,λ e=>by rw[v5];exact L.dep' e,λ j x' s me lo y e hy av=>?_⟩⟩
      .by_cases F:j=i
       .subst F;rw[K]at e;cases e
       .rw[hmk j F]at e;exact L.tk j x' s me lo e
      .by_cases F:j=i
       .subst F;rw[K]at e;cases e
       .by_cases ek:k=i
        .subst ek;rw[K]at e';cases e'
        .rw[hmk j F]at e;rw[hmk k ek]at e';exact L.one j k s a2 az l₁ a3 a0 l₂ e e'
      .rcases L.who s hs with h1|⟨j,me,lo,e⟩
       .exact .inl h1
       .by_cases F:j=i
        .subst F;rw[X]at e;rcases au with rfl|⟨x',s',lo',rfl⟩
         .cases e
         .cases e;exact .inl (L.tk j _ _ _ _ X).2.1.symm
        .exact .inr ⟨j,me,lo,by rw[hmk j F];exact e⟩
      .have F:j≠i:=λ F=>by subst F;rw[K]at e;cases e
       rw[hmk j F]at e;rw[J3 F]at hy;obtain⟨z,hz,rfl⟩:=Option.map_eq_some_iff.1 hy;exact L.slp j x' s me lo z e hz λ hr=>av (by rw[Wc hr];exact hr)
end
def WA(V:Hd->Qa Tk)(l:List Nat):Hd->Qa Tk
 |.run j=>if j=0 then(V (.run 0)).with (l.map λ i=>(V (.dep i)).M).flatten else V (.run j)
 |.dep j=>if j∈l then ZH else V (.dep j)
 |.lck=>V .lck
def VI.joinAll{w:World}:∀{l:List Nat}{V:Hd->Qa Tk},l.Nodup->VI V w->VI (WA V l) w
 |[],V,_,h=>by
  have:WA V []=V:=by
   funext k;cases k with
   |run j=>
    simp only[WA];split
    .rename_i e;subst e;simp[Qa.with]
    .rfl
   |dep j=>simp[WA]
   |lck=>rfl
  rw[this];exact h
 |i::l,V,z,h=>by
  obtain⟨E,z⟩:=nodup_cons.1 z;have h1:=h.join (k:=.run 0) (k':=.dep i) S1 (⟨0,.out,none⟩:Tk);have h2:=VI.joinAll z h1
  have e:WA (Q1 (Q1 V (.run 0) ((V (.run 0)).with (V (.dep i)).M)) (.dep i) (Qa.bare ⟨0,.out,none⟩)) l=WA V (i::l):=by
   funext k;cases k with
   |run j=>
    simp only[WA]
    have hm:(l.map λ b=>(Q1 (Q1 V (.run 0) ((V (.run 0)).with (V (.dep i)).M)) (.dep i) (Qa.bare (⟨0,.out,none⟩:Tk)) (.dep b)).M)=l.map λ b=>(V (.dep b)).M:=by
     refine map_congr_left λ b f=>?_;have B:b≠i:=λ e=>E (e▸f);rw[Qh _ _ (by intro e;cases e;exact B rfl),Qh _ _ S1]
    rw[hm];split
    .rename_i e;rw[Qh _ _ S1,Ql];simp[Qa.with]
    .rename_i e;rw[Qh _ _ S1,Qh _ _ (by intro e';cases e';exact e rfl)]
   |dep j=>
    simp only[WA];by_cases e:j=i
    .subst e;rw[Ql];simp[ZH]
    .rw[Qh _ _ (by intro e';cases e';exact e rfl),Qh _ _ S1];simp[e]
   |lck=>simp only[WA];rw[Qh _ _ S1,Qh _ _ S1]
  rw[<- e];exact h2
def Ik{V:Hd->Qa Tk}{U:Qa Tk}{l:List Nat}{x:Loc}:((U.with (l.map λ i=>(V (.dep i)).M).flatten).canW x->U.canW x\/∃i∈l,(V (.dep i)).canW x)/\((U.with (l.map λ i=>(V (.dep i)).M).flatten).canR x->U.canR x\/∃i∈l,(V (.dep i)).canR x):=by
 have key:∀r,r∈U.M++(l.map λ i=>(V (.dep i)).M).flatten->r.lets x->U.canW x\/∃i∈l,(V (.dep i)).canW x:=by
  intro r b hl;rcases mem_append.1 b with b|b
  .exact .inl (Q4.2 ⟨r,b,hl⟩)
  .obtain⟨M,hM,hrM⟩:=mem_flatten.1 b;obtain⟨i,f,rfl⟩:=mem_map.1 hM;exact .inr ⟨i,f,Q4.2 ⟨r,hrM,hl⟩⟩
 refine⟨λ h=>?_,λ h=>?_⟩
 .obtain⟨r,b,hl⟩:=Q4.1 h;exact key r b hl
 .rcases Qx.1 h with⟨r,b,hl⟩|h
  .exact(key r b hl).imp Zu λ⟨i,f,h⟩=>⟨i,f,Zu h⟩
  .exact .inl (Qx.2 (.inr h))
def Lj{U:Qa Tk}(h1:U.I=λ _=>none)(h2:U.M=[])(l:Loc):¬U.canW l/\¬U.canR l:=by
 have f:¬U.canW l:=λ h=>by obtain⟨r,b,_⟩:=Q4.1 h;rw[h2]at b;cases b
 refine⟨f,λ h=>?_⟩;rcases Qx.1 h with⟨r,b,_⟩|h
 .rw[h2]at b;cases b
 .cases l <;> simp[h1]at h
section
variable{P:Program}{t:TypeId}{N:Nat}{Stop:QI Tk}{gs:Array Gr}{w:World}{tr:Trace}{V V':Hd->Qa Tk}{rk:Nat->Option Tr}{rel:Nat->Option Nat}{q:Nat->Nat}{sl:Option (Nat×Nat)}
def MI.take(K:∀m g U,Stop m g U->g.status=.running){g g':Gr}{r:Tr}{b:Nat}{ds:List Spec}{bs:List (Nat×Bool)}{mu:Option ZO}(h:MI P t N Stop (some 0) gs w tr V rk rel q)(L:gs[0]?=some g)(hr:rk 0=some r)
  (F:(V (.run 0)).tok=⟨0,.par b ds false .up,mu⟩) {W:List Nat} {c wt s:Nat} (Q:Sh b t (Q0 c wt) (Qp s) w) (G:GI N b ds false .up (Z1 V) rel (λ i=>(V (.dep i)).M) W c wt s)
  (ah:∀st sm,Qc P t true g st sm=.go g' st sm #[Z0 (.acquire ⟨b,0,none⟩)] bs) (ae:Z5 b bs)
  (hJ:∀Ms,JL ds Ms->∃r',Tr.Sub r' r/\JR (Za P t N) Stop r' true g' { (V (.run 0))with M:=((V (.run 0)).M++Ms.flatten)++(V .lck).M,tok:=⟨0,.out,none⟩ }):JI P t N Stop gs w sl tr rk q 0:=by
 have af:=(Array.getElem?_eq_some_iff.1 L).1;obtain⟨-,-,-,-,X,B⟩:=G.up;obtain⟨r',Z,hJ⟩:=hJ _ G.deps;have H:∀j,j≠0->(V (.run j)).tok.ph=.out:=λ j z=>by have:=X j;simpa[Z1,z]using this
 have E:∀j,j≠0->rk j=none:=by
  intro j z;cases e:rk j with
  |none=>rfl
  |some r=>
   obtain⟨b,D,e'⟩:=h.wk j z (by rw[e];simp);rw[H j z]at e';cases e'
 have S:Deaf tr 0=0:=by rw[h.deaf 0 h.root,F]
 have Y:stepG P (0==0) g w=.go g' w #[Z0 (.acquire ⟨b,0,none⟩)]:=by
  have:=H4 (ah (Q0 c wt) (Qp s)) Q ae
  rwa [Q.two_same]at this
 have ad:b<w.heap.size:=(Array.getElem?_eq_some_iff.1 Q).1
 let I:Hd->Qa Tk:=Q1 (Q1 (WA V W) (.run 0) ((WA V W (.run 0)).with (WA V W .lck).M)) .lck (Qa.bare ⟨0,.out,none⟩)
 have z0:I (.run 0)=((V (.run 0)).with (W.map λ i=>(V (.dep i)).M).flatten).with (V .lck).M:=by show Q1 _ _ _ _=_;rw[Qh _ _ S1,Ql];simp[WA]
 let f:Hd->Qa Tk:=Q1 I (.run 0) { I (.run 0)with tok:=⟨0,.out,none⟩ }
 have v0:f (.run 0)={ (V (.run 0))with M:=((V (.run 0)).M++(W.map λ i=>(V (.dep i)).M).flatten)++(V .lck).M,tok:=⟨0,.out,none⟩ }:=by show Q1 _ _ _ _=_;rw[Ql,z0];rfl
 have v2:∀j,j≠0->f (.run j)=V (.run j):=λ j z=>by show Q1 _ _ _ _=_;rw[Qh _ _ (by intro e;cases e;exact z rfl)];show Q1 _ _ _ _=_;rw[Qh _ _ S1,Qh _ _ (by intro e;cases e;exact z rfl)];simp[WA,z]
 have vm:f .lck=ZH:=by show Q1 _ _ _ _=_;rw[Qh _ _ S1];exact Ql ..
 have vd:∀j,f (.dep j)=ZH:=by
  intro j;show Q1 _ _ _ _=_;rw[Qh _ _ S1];show Q1 _ _ _ _=_;rw[Qh _ _ S1,Qh _ _ S1];simp only[WA];split
  .rfl
  .rename_i z;refine h.deps j ?_;cases e:rel j with
   |none=>rfl
   |some x=>exact absurd (G.inW j (.inr (by rw[e];simp))) z
 have ai:VI f w:=by
  have:=(VI.joinAll G.nodup h.vi).join (k:=.run 0) (k':=.lck) S1 (⟨0,.out,none⟩:Tk)
  have hs:∀k,(f k).canW=(I k).canW/\(f k).canR=(I k).canR:=by
   intro k;by_cases e:k=.run 0
   .subst e;rw[show f (.run 0)=_ from Ql ..];exact⟨rfl,rfl⟩
   .rw[show f k=_ from Qh _ _ e];exact⟨rfl,rfl⟩
  refine⟨λ k=>?_,λ ab ac l T hw hr=>this.sep ab ac l T (by rw[<- (hs ab).1];exact hw) (by rw[<- (hs ac).2];exact hr)⟩;by_cases e:k=.run 0
  .subst e;rw[show f (.run 0)=_ from Ql ..];have:=this.ok (.run 0);exact⟨this.imm,this.held,this.apart,this.sep⟩
  .rw[show f k=_ from Qh _ _ e];exact this.ok k
 have aa:∀l,((f (.run 0)).canW l->(I (.run 0)).canW l)/\((f (.run 0)).canR l->(I (.run 0)).canR l):=λ l=>by
  rw[show f (.run 0)=_ from Ql ..];exact⟨λ x=>x,λ x=>x⟩
 have hW:∀k l,(f k).canW l->k=.run 0/\((V (.run 0)).canW l\/(∃g r,rel g=some r/\(V (.dep g)).canW l)\/(V .lck).canW l):=by
  intro k l hl;cases k with
  |run j=>
   by_cases e:j=0
   .subst e;have hl:=(aa l).1 hl;rw[z0]at hl;refine⟨rfl,?_⟩;rcases Ox (τ:=V .lck) hl with hl|hl
    .refine(Ik.1 hl).imp id λ⟨i,L,h⟩=>?_;obtain⟨x,hx⟩:=B i L;exact .inl ⟨i,x,hx,h⟩
    .exact .inr (.inr hl)
   .rw[v2 j e]at hl;obtain⟨b1,b2⟩:=h.bare j (E j e);exact absurd hl (Lj b1 b2 l).1
  |dep j=>rw[vd]at hl;exact absurd hl (Wh _ _)
  |lck=>rw[vm]at hl;exact absurd hl (Wh _ _)
 have hR:∀k l,(f k).canR l->k=.run 0/\((V (.run 0)).canR l\/(∃g r,rel g=some r/\(V (.dep g)).canR l)\/(V .lck).canR l):=by
  intro k l hl;cases k with
  |run j=>
   by_cases e:j=0
   .subst e;have hl:=(aa l).2 hl;rw[z0]at hl;refine⟨rfl,?_⟩;rcases Ow (τ:=V .lck) hl with hl|hl
    .refine(Ik.2 hl).imp id λ⟨i,L,h⟩=>?_;obtain⟨x,hx⟩:=B i L;exact .inl ⟨i,x,hx,h⟩
    .exact .inr (.inr hl)
   .rw[v2 j e]at hl;obtain⟨b1,b2⟩:=h.bare j (E j e);exact absurd hl (Lj b1 b2 l).2
  |dep j=>rw[vd]at hl;exact absurd hl (Wg _ _)
  |lck=>rw[vm]at hl;exact absurd hl (Wg _ _)
 refine⟨_,_,_,f,Zp rk 0 (some r'),λ _=>none,q,runT_crowd_go L Y,?_,Xm Jl af hr λ aj e=>by cases e;exact Z,.refl _,rfl⟩
 have e0:MemOp.ofEvents 0 g.frame.fn g.frame.place #[Z0 (.acquire ⟨b,0,none⟩)]=#[{ g:=0,fn:=g.frame.fn,pos:=g.frame.place,act:=.mark (.acquire ⟨b,0,none⟩) }]:=by
  rw[ofEvents_eq];simp[Z0,MemAct.ofEvent]
 refine h.go K (V':=f) (rk':=Zp rk 0 (some r')) (rel':=λ _=>none) (q':=q) (es:=#[Z0 (.acquire ⟨b,0,none⟩)]) L v2 (λ j z=>Qu _ _ z) (λ _ _=>rfl) (λ _ _=>.inr rfl) (by rw[Qk];simp) (.inr (.inr H)) ?_ ?_ (λ j _=>vd j) ai ?_ ?_ ?_ (λ e=>by rw[Qk]at e;cases e)
 .intro aj e;rw[Qk]at e;cases e;rw[v0];refine⟨hJ,?_,λ h0=>absurd rfl h0⟩;rw[S];rfl
 .intro e;rw[Qk]at e;cases e
 .obtain⟨rm,hti⟩:=h.ti;have ag:Jv f=none:=by unfold Jv Q2;rw[v0];rfl
  refine⟨none,?_⟩;rw[e0,v0,ag]
  exact hti.acquire (y:={ g:=0,fn:=g.frame.fn,pos:=g.frame.place,act:=.mark (.acquire ⟨b,0,none⟩) }) (b:=b) (by rw[F];rfl) rfl rfl ad S (λ j=>by
   by_cases e:j=0
   .subst e;rw[F];rintro⟨_,_,e⟩;cases e
   .rw[H j e];rintro⟨_,_,e⟩;cases e) (.inl rfl) hW hR
 .unfold QH;rw[v0];exact⟨λ j z=>by rw[v2 j z];exact H j z,λ _=>rfl⟩
 .have T:∀j,Q2 f j=none:=by
   intro j;by_cases e:j=0
   .subst e;unfold Q2;rw[v0]
   .unfold Q2;rw[v2 j e];exact h.bareM j (E j e)
  refine⟨λ j x u _ e=>(by rw[T]at e;cases e),by rw[vm];rfl,?_⟩;rw[T];exact⟨T,vm⟩
def MI.start(ae:∀m g U,Stop m g U->g.status=.running){g g' cg:Gr}{r Z aa:Tr}{b:Nat}{ds:List Spec}{D:Spec}{Up Uc:Qa Tk}{mu am mc:Option ZO}(h:MI P t N Stop (some 0) gs w tr V rk rel q)(hi:gs[0]?=some g)(hr:rk 0=some r)
  (H:(V (.run 0)).tok=⟨0,.par b ds true .run,mu⟩) (ap:∀j,QJ b (V j)) {W:List Nat} {c wt s:Nat} (bg:Sh b t (Q0 c wt) (Qp s) w) (au:GI N b ds true .run (Z1 V) rel (λ i=>(V (.dep i)).M) W c wt s)
  (bh:Qc P t true g undef undef=.spawn g' cg #[]) (hf:Hz (V (.run 0)) Up Uc) (hp:Up.tok=⟨0,.par b (D::ds) false .run,am⟩) (hc:Uc.tok=⟨0,.wrk b D,mc⟩) (ax:Yv mu am mc)
  (h1:Tr.Sub Z r) (h2:Tr.Sub aa r) (hJ:JR (Za P t N) Stop Z true g' Up) (a6:JR (Za P t N) Stop aa false cg Uc):JI P t N Stop gs w sl tr rk q 0:=by
 have aw:=(Array.getElem?_eq_some_iff.1 hi).1;have a9:stepG P (0==0) g w=.spawn g' cg w #[]:=Nj bh w;obtain⟨az,a0,a5⟩:=h.above gs.size (Nat.le_refl _);have L:gs.size≠0:=O1
 have ag:(V (.run gs.size)).tok.ph=.out:=by
  apply Classical.byContradiction;intro bf;obtain⟨x,_,hx,_⟩:=h.tail gs.size az bf;rw[Array.getElem?_eq_none (Nat.le_refl _)]at hx;cases hx
 have aq:Z1 V gs.size=.out:=by simp[Z1,L,ag]
 have bc:gs.size∉W:=by
  intro hm;obtain⟨j,E,e⟩:=mem_iff_getElem.1 hm;have av:j<ds.length:=by rw[<- au.len];exact E
  rcases au.spec j gs.size ds[j] (by rw[getElem?_eq_getElem E,e]) (getElem?_eq_getElem av)with⟨x,_⟩|⟨_,⟨x,hx⟩,_⟩
  .rw[aq]at x;cases x
  .rw[a5]at hx;cases hx
 have a7:Deaf tr 0=0:=by rw[h.deaf 0 h.root,H]
 let K:=Q1 (Q1 V (.run 0) Up) (.run gs.size) Uc
 have v0:K (.run 0)=Up:=by show Q1 _ _ _ _=_;rw[Qh _ _ (λ e=>L (Hd.run.inj e).symm),Ql]
 have vc:K (.run gs.size)=Uc:=Ql ..;have T:∀j,j≠0->j≠gs.size->K (.run j)=V (.run j):=λ j E av=>by show Q1 _ _ _ _=_;rw[Qh _ _ (by intro e;cases e;exact av rfl),Qh _ _ (by intro e;cases e;exact E rfl)]
 have vd:∀j,K (.dep j)=V (.dep j):=λ j=>by show Q1 _ _ _ _=_;rw[Qh _ _ S1,Qh _ _ S1]
 have vm:K .lck=V .lck:=by show Q1 _ _ _ _=_;rw[Qh _ _ S1,Qh _ _ S1]
 have bi:VI K w:=h.vi.fork hf (λ e=>L (Hd.run.inj e).symm)
 have hW:∀k l,(K k).canW l->(V k).canW l\/(k=.run gs.size/\(V (.run 0)).canW l):=by
  intro k l hl;cases k with
  |run j=>
   by_cases e:j=0
   .subst e;rw[v0]at hl;exact .inl (hf.wp l hl)
   .by_cases e2:j=gs.size
    .subst e2;rw[vc]at hl;exact .inr ⟨rfl,hf.wc l hl⟩
    .rw[T j e e2]at hl;exact .inl hl
  |dep j=>rw[vd]at hl;exact .inl hl
  |lck=>rw[vm]at hl;exact .inl hl
 have hR:∀k l,(K k).canR l->(V k).canR l\/(k=.run gs.size/\(V (.run 0)).canR l):=by
  intro k l hl;cases k with
  |run j=>
   by_cases e:j=0
   .subst e;rw[v0]at hl;exact .inl (hf.rp l hl)
   .by_cases e2:j=gs.size
    .subst e2;rw[vc]at hl;exact .inr ⟨rfl,hf.rc l hl⟩
    .rw[T j e e2]at hl;exact .inl hl
  |dep j=>rw[vd]at hl;exact .inl hl
  |lck=>rw[vm]at hl;exact .inl hl
 let y:MemOp:={ g:=0,fn:=g.frame.fn,pos:=g.frame.place,act:=.go gs.size }
 let z:MemOp:={ g:=gs.size,fn:=cg.frame.fn,pos:=g.frame.place,act:=.start }
 have a8:((MemOp.ofEvents 0 g.frame.fn g.frame.place #[]).push y).push z=#[y,z]:=by rw[ofEvents_eq];simp
 have ak:∀j,Deaf (tr++#[y,z]) j=Deaf tr j:=by
  intro j;have e:tr++#[y,z]=(tr++#[y])++#[z]:=by apply Array.ext';simp
  rw[e,Deaf_push,Deaf_push];rfl
 have X:=hJ.running ae;refine⟨_,_,_,K,Zp (Zp rk 0 (some Z)) gs.size (some aa),rel,q,runT_crowd_spawn hi a9,?_,?_,.refl _,rfl⟩
 .show MI P t N Stop none ((gs.setIfInBounds 0 g').push cg) w (tr++((MemOp.ofEvents 0 g.frame.fn g.frame.place #[]).push y).push z) K _ rel q;rw[a8]
  have bb:∀j x,((gs.setIfInBounds 0 g').push cg)[j]?=some x->(j=0/\x=g')\/(j=gs.size/\x=cg)\/(j≠0/\j≠gs.size/\gs[j]?=some x):=by
   intro j x hx;rw[Array.getElem?_push]at hx;simp only[Array.size_setIfInBounds]at hx;split at hx
   .rename_i e;subst e;cases hx;exact .inr (.inl ⟨rfl,rfl⟩)
   .rename_i e;by_cases B:j=0
    .subst B;simp[aw]at hx;exact .inl ⟨rfl,hx.symm⟩
    .rw[Array.getElem?_setIfInBounds_ne (Ne.symm B)]at hx;exact .inr (.inr ⟨B,e,hx⟩)
  have af:((gs.setIfInBounds 0 g').push cg)[0]?=some g':=by
   rw[Array.getElem?_push];simp[aw,Ne.symm L]
  have ao:((gs.setIfInBounds 0 g').push cg)[gs.size]?=some cg:=by
   rw[Array.getElem?_push];simp
  have ab:∀j,j≠0->j≠gs.size->((gs.setIfInBounds 0 g').push cg)[j]?=gs[j]?:=by
   intro j h0 h1;rw[Array.getElem?_push];simp only[Array.size_setIfInBounds,if_neg h1];exact Array.getElem?_setIfInBounds_ne (Ne.symm h0)
  have I:∀j,j≠0->j≠gs.size->Zp (Zp rk 0 (some Z)) gs.size (some aa) j=rk j:=λ j h0 h1=>by rw[Qu _ _ h1,Qu _ _ h0]
  have F:Zp (Zp rk 0 (some Z)) gs.size (some aa) 0=some Z:=by rw[Qu _ _ (Ne.symm L),Qk]
  have G:Zp (Zp rk 0 (some Z)) gs.size (some aa) gs.size=some aa:=Qk ..;refine⟨?_,by rw[F];simp,?_,?_,?_,?_,?_,?_,?_,λ j E=>by rw[vd];exact h.deps j E,bi,?_,?_,?_,?_⟩
  .intro j r'' _ hr'';by_cases B:j=0
   .subst B;rw[F]at hr'';cases hr'';exact⟨g',by rw[v0];exact hJ,.inl af⟩
   .by_cases f:j=gs.size
    .subst f;rw[G]at hr'';cases hr'';exact⟨cg,by rw[vc,show(gs.size==0)=false by simpa using L];exact a6,.inl ao⟩
    .rw[I j B f]at hr'';obtain⟨x,k1,k2⟩:=h.live j r'' (λ e'=>B (Option.some.inj e').symm) hr'';refine⟨x,by rw[T j B f];exact k1,?_⟩;rw[T j B f,ab j B f];exact k2
  .intro j x E hx hp';have B:j≠0:=λ e=>by subst e;rw[F]at E;cases E
   have f:j≠gs.size:=λ e=>by subst e;rw[G]at E;cases E
   rw[I j B f]at E;rw[ab j B f]at hx;rw[T j B f]at hp';rw[ak];exact h.gone j x E hx hp'
  .intro j E hp';have B:j≠0:=λ e=>by subst e;rw[F]at E;cases E
   have f:j≠gs.size:=λ e=>by subst e;rw[G]at E;cases E
   rw[I j B f]at E;rw[T j B f]at hp';obtain⟨x,b',k1,k2,k3⟩:=h.tail j E hp';refine⟨x,b',by rw[ab j B f];exact k1,?_,by rw[ak,T j B f];exact k3⟩;rw[v0,hp];rw[H]at k2;exact k2
  .intro j E;simp at E;rw[I j O1 O1,ak];exact h.above j O1
  .intro j E;have B:j≠0:=λ e=>by subst e;rw[F]at E;cases E
   have f:j≠gs.size:=λ e=>by subst e;rw[G]at E;cases E
   rw[I j B f]at E;rw[T j B f];exact h.bare j E
  .intro j h0 E;by_cases f:j=gs.size
   .subst f;rw[vc,hc];exact⟨b,D,rfl⟩
   .rw[I j h0 f]at E;rw[T j h0 f];exact h.wk j h0 E
  .intro j E;by_cases B:j=0
   .subst B;rw[F];simp
   .by_cases f:j=gs.size
    .subst f;rw[G];simp
    .rw[T j B f]at E;rw[I j B f];exact h.wk' j E
  .intro j E;rw[ak];by_cases B:j=0
   .subst B;rw[v0,hp,a7]
   .by_cases f:j=gs.size
    .subst f;rw[vc,hc,a0]
    .rw[I j B f]at E;rw[T j B f];exact h.deaf j E
  .obtain⟨rm,hti⟩:=h.ti;rw[H]at hti
   have be:Jv K=Jv V:=by
    unfold Jv Q2;rw[v0,hp,H];rcases ax with⟨rfl,_⟩|⟨x,u,s,rfl,_,rfl,_⟩ <;> rfl
   refine⟨rm,?_⟩;rw[be,v0,hp];refine hti.fork (y:=y) (z:=z) (c:=gs.size) rfl rfl rfl rfl a7 a0 L ?_ ?_ hW hR
   .rintro j (rfl|E)
    .exact .inl (.inl rfl)
    .by_cases B:j=0
     .exact .inl (.inl B)
     .by_cases f:j=gs.size
      .exact .inr ⟨f,.inl rfl⟩
      .rw[T j B f]at E;exact .inl (.inr E)
   .intro j E;by_cases B:j=0
    .subst B;rw[H]at E;obtain⟨_,_,e⟩:=E;cases e
    .by_cases f:j=gs.size
     .subst f;rw[ag]at E;obtain⟨_,_,e⟩:=E;cases e
     .rw[T j B f];exact E
  .unfold QH;rw[v0,hp]
   have bd:Z1 K=Zp (Z1 V) gs.size (.wrk b D):=by
    funext j;by_cases f:j=gs.size
    .subst f;simp only[Z1,if_neg L,vc,hc,Qk]
    .rw[Qu _ _ f];by_cases B:j=0
     .simp[Z1,B]
     .simp only[Z1,if_neg B,T j B f]
   refine⟨λ j a ha ho ay=>?_,gs.size::W,c,wt,s,bg,?_,λ x hx Q=>?_⟩
   .rcases hR _ _ ay with k1|⟨_,k1⟩
    .exact ap _ a ha ho k1
    .exact ap _ a ha ho k1
   .rw[bd];simp only[vd];exact au.go aq a5 bc
   .rw[af]at hx;cases hx;exact absurd X Q
  .have hk0:Q2 V 0=mu:=by unfold Q2;rw[H]
   have ac:Q2 K 0=am:=by unfold Q2;rw[v0,hp]
   have ah:Q2 K gs.size=mc:=by unfold Q2;rw[vc,hc]
   have ai:Q2 V gs.size=none:=h.bareM _ az;have ad:∀j,j≠0->j≠gs.size->Q2 K j=Q2 V j:=λ j B f=>by unfold Q2;rw[T j B f]
   have aj:∀m,(∀j,QJ m (V j))->∀j,QJ m (K j):=λ m hm j a ha ho ay=>by
    rcases hR _ _ ay with h1|⟨_,h1⟩
    .exact hm _ a ha ho h1
    .exact hm _ a ha ho h1
   obtain⟨g1,g2,g3⟩:=h.mux;rw[hk0]at g3;refine⟨λ j x u E e=>?_,by rw[vm];exact g2,?_⟩
   .by_cases f:j=gs.size
    .subst f;rw[ah]at e;rcases ax with⟨_,rfl⟩|⟨x,u,s,_,_,_,rfl⟩ <;> cases e
    .rw[ad j E f]at e;exact g1 j x u E e
   .rw[ac];rcases ax with⟨rfl,rfl⟩|⟨x,u,s,rfl,ba,rfl,rfl⟩
    .have hk:∀j,Q2 K j=Q2 V j:=by
      intro j;by_cases B:j=0
      .subst B;rw[hk0,ac]
      .by_cases f:j=gs.size
       .subst f;rw[ah,ai]
       .exact ad j B f
     cases am with
     |none=>exact⟨λ j=>by rw[hk];exact g3.1 j,by rw[vm];exact g3.2⟩
     |some m0=>
      cases m0 with
      |lok=>exact g3
      |par x u=>
       obtain⟨g4,lp,st,sm,g5⟩:=g3;refine⟨aj _ g4,lp,st,sm,g5.at hk vm g5.sh λ j x' s me lo y e hy Q=>?_⟩;rcases bb j y hy with⟨rfl,rfl⟩|⟨rfl,rfl⟩|⟨_,_,hz⟩
       .exact absurd X Q
       .rw[ai]at e;cases e
       .exact⟨y,hz,Q⟩
    .obtain⟨g4,lp,st,sm,g5⟩:=g3;refine⟨aj _ g4,lp,st,sm,g5.sh,g5.word,λ j x' S me lo e=>?_,λ j k S an al l₁ bk bj l₂ e e'=>?_,λ S Y=>?_,λ S Y=>?_,λ e=>by rw[vm];exact g5.dep e,λ e=>by rw[vm];exact g5.dep' e,λ j x' S me lo y e hy Q=>?_⟩
     .by_cases B:j=0
      .subst B;rw[ac]at e;cases e
      .by_cases f:j=gs.size
       .subst f;rw[ah]at e;cases e;exact⟨rfl,(g5.idle _ ba).symm,Nat.zero_le _,J6 ..⟩
       .rw[ad j B f]at e;obtain⟨a1,a2,a3,a4⟩:=g5.tk j x' S me lo e;refine⟨a1,a2,a3,?_⟩;by_cases es:S=s
        .subst es;rw[J6]
        .rw[Xn _ _ es];exact a4
     .have key:∀j an al l₁,Q2 K j=some (.lok an S al l₁)->(j=gs.size/\S=s)\/(Q2 V j=some (.lok an S al l₁)/\S≠s):=by
       intro j an al l₁ e;by_cases B:j=0
       .subst B;rw[ac]at e;cases e
       .by_cases f:j=gs.size
        .subst f;rw[ah]at e;cases e;exact .inl ⟨rfl,rfl⟩
        .rw[ad j B f]at e;refine .inr ⟨e,λ es=>?_⟩;have:=(g5.tk j _ _ _ _ e).2.2.2;rw[es,ba]at this;cases this
      rcases key j _ _ _ e with⟨a1,a2⟩|⟨a1,a2⟩
      .rcases key k _ _ _ e' with⟨b1,b2⟩|⟨b1,b2⟩
       .rw[a1,b1]
       .exact absurd a2 b2
      .rcases key k _ _ _ e' with⟨b1,b2⟩|⟨b1,b2⟩
       .exact absurd b2 a2
       .exact g5.one j k S _ _ _ _ _ _ a1 b1
     .by_cases es:S=s
      .subst es;exact .inr ⟨gs.size,.idle,0,ah⟩
      .rw[Xn _ _ es]at Y;rcases g5.who S Y with h1|⟨j,me,lo,e⟩
       .exact .inl h1
       .refine .inr ⟨j,me,lo,?_⟩;by_cases B:j=0
        .subst B;rw[hk0]at e;cases e
        .by_cases f:j=gs.size
         .subst f;rw[ai]at e;cases e
         .rw[ad j B f];exact e
     .by_cases es:S=s
      .subst es;rw[J6]at Y;cases Y
      .rw[Xn _ _ es]at Y;exact g5.idle S Y
     .by_cases f:j=gs.size
      .subst f;rw[ao]at hy;cases hy;exact absurd (a6.running ae) Q
      .by_cases B:j=0
       .subst B;rw[af]at hy;cases hy;exact absurd X Q
       .rw[ad j B f]at e;rw[ab j B f]at hy;exact g5.slp j x' S me lo y e hy Q
  .intro j E;have B:j≠0:=λ e=>by subst e;rw[F]at E;cases E
   have f:j≠gs.size:=λ e=>by subst e;rw[G]at E;cases E
   rw[I j B f]at E;unfold Q2;rw[T j B f];exact h.bareM j E
 .show JA (QD ((gs.setIfInBounds 0 g').push cg) _ q) (QD gs rk q);unfold QD;have e:((gs.setIfInBounds 0 g').push cg).size=gs.size+1:=S1
  rw[e];exact JA.cut (kD aw hr h1 h2)
end
def LP.word_own{q:LP}{z:Nat×Nat}(h:LP.word .got q=some z):LP.word (.own q.rels) q=some z/\q.isOwn=false:=by
 cases q <;> simp_all[LP.word,LP.rels,LP.isOwn]
def LP.word_rls{v:Bool}{q:LP}{z:Nat×Nat}(h:LP.word (.own v) q=some z):LP.word .rls q=some z/\v=q.rels/\q.isOwn=false:=by
 cases q <;> cases v <;> simp_all[LP.word,LP.rels,LP.isOwn]
section
variable{P:Program}{t:TypeId}{N:Nat}{Stop:QI Tk}{gs:Array Gr}{w:World}{tr:Trace}{V V':Hd->Qa Tk}{rk:Nat->Option Tr}{rel:Nat->Option Nat}{q:Nat->Nat}{sl:Option (Nat×Nat)}
def MI.inGrp{ex:Option Nat}(h:MI P t N Stop ex gs w tr V rk rel q){i b:Nat}{D:Spec}(E:i≠0)(L:(V (.run i)).tok.ph=.wrk b D) :
  ∃ds pend k,(V (.run 0)).tok.ph=.par b ds pend k/\(∀j,QJ b (V j))/\∃W c wt s,Sh b t (Q0 c wt) (Qp s) w/\GI N b ds pend k (Z1 V) rel (λ i=>(V (.dep i)).M) W c wt s/\(∀g,gs[0]?=some g->g.status≠.running->s=0):=by
 have K:Z1 V i=.wrk b D:=by simp[Z1,E,L]
 have f:=h.grp;unfold QH at f;cases z:(V (.run 0)).tok.ph with
 |out=>rw[z]at f;have:=f.1 i E;rw[L]at this;cases this
 |wrk _ _=>rw[z]at f;exact f.elim
 |rel _=>rw[z]at f;exact f.elim
 |lst _ _=>rw[z]at f;exact f.elim
 |par Q ds pend k=>
  rw[z]at f;obtain⟨F,W,c,wt,s,I,B,G⟩:=f
  have H:Q=b:=by
   rcases B.ph i with e'|⟨S,e'⟩|e'|⟨j,e'⟩ <;> rw[K]at e' <;> cases e';rfl
  subst H;exact⟨ds,pend,k,rfl,F,W,c,wt,s,I,B,G⟩
def MI.lock{ex:Option Nat}(h:MI P t N Stop ex gs w tr V rk rel q){i:Nat}{x:QW}{s:Bool}{me:LP}{lo:Nat}(z:Q2 V i=some (.lok x s me lo)) :
  ∃u f st sm,Q2 V 0=some (.par x u)/\(∀j,QJ x.m (V j))/\WX gs w V x u f st sm/\me=f s/\lo<=(f (!s)).cls/\u s=true:=by
 obtain⟨-,-,b⟩:=h.mux;cases e:Q2 V 0 with
 |none=>rw[e]at b;rw[b.1 i]at z;cases z
 |some I=>
  rw[e]at b;cases I with
  |lok=>exact b.elim
  |par K u=>
   obtain⟨H,f,st,sm,B⟩:=b;obtain⟨rfl,E,F,G⟩:=B.tk i _ _ _ _ z;exact⟨u,f,st,sm,rfl,H,B,E,F,G⟩
def WX.turn{gs I:Array Gr}{w w':World}{x:QW}{u:Bool->Bool}{F:Bool->LP}{st sm st' sm' i lo lo':Nat}{s:Bool}{me':LP}(h:WX gs w V x u F st sm)(Q:Q2 V i=some (.lok x s (F s) lo))
  (G:Q2 V' i=some (.lok x s me' lo')) (B:∀j,j≠i->Q2 V' j=Q2 V j) (T:Sh x.m x.t (Zc st') (Qp sm') w') (hw:LP.word me' (F (!s))=some (st',sm')) (Z:(F s).cls<=me'.cls) (S:lo'<=(F (!s)).cls)
  (hd:((ZJ F s me' false).isOwn|| (ZJ F s me' true).isOwn)=true->V' .lck=ZH) (P:((ZJ F s me' false).isOwn|| (ZJ F s me' true).isOwn)=false->x.dep (ZJ F s me') (V' .lck).M)
  (hs:∀j N s me lo g,Q2 V' j=some (.lok N s me lo)->I[j]?=some g->g.status≠.running->sm'=0):WX I w' V' x u (ZJ F s me') st' sm':=by
 have K:=(h.tk i _ _ _ _ Q).2.2.2
 have b:∀j N f me lo,j≠i->Q2 V j=some (.lok N f me lo)->f=!s:=by
  intro j N f me lo z e;by_cases es:f=s
  .subst es;exact absurd (h.one j i f _ _ _ _ _ _ e Q) z
  .cases s <;> cases f <;> simp_all
 refine⟨T,?_,λ j N f me L e=>?_,λ j k f ac aa l₁ ad ab l₂ e e'=>?_,λ f E=>?_,λ f E=>?_,hd,P,hs⟩
 .rw[H6 _ s,J6,KZ];exact hw
 .by_cases z:j=i
  .subst z;rw[G]at e;cases e;refine⟨rfl,(J6 ..).symm,?_,K⟩;rw[KZ];exact S
  .rw[B j z]at e;obtain⟨W,X,U,Y⟩:=h.tk j _ _ _ _ e;have es:=b j _ _ _ _ z e;subst es;refine⟨W,by rw[KZ];exact X,?_,Y⟩;rw[Bool.not_not]at U ⊢;rw[J6];exact Nat.le_trans U Z
 .by_cases z:j=i
  .subst z;by_cases H:k=j
   .exact H.symm
   .rw[G]at e;cases e;rw[B k H]at e';have:=b k _ _ _ _ H e';cases s <;> cases this
  .rw[B j z]at e;by_cases H:k=i
   .subst H;rw[G]at e';cases e';have:=b j _ _ _ _ z e;cases s <;> cases this
   .rw[B k H]at e';exact h.one j k f _ _ _ _ _ _ e e'
 .by_cases es:f=s
  .subst es;exact .inr ⟨i,me',lo',G⟩
  .rw[Xn _ _ es];rcases h.who f E with h1|⟨j,me,L,e⟩
   .exact .inl h1
   .refine .inr ⟨j,me,L,?_⟩
    have z:j≠i:=λ z=>by
     subst z;rw[Q]at e;cases e;exact es rfl
    rw[B j z];exact e
 .by_cases es:f=s
  .subst es;rw[K]at E;cases E
  .rw[Xn _ _ es];exact h.idle f E
def xQ(x:QW)(f:Bool->LP)(s:Bool)(me':LP)(M:List Qw)(h:me'.rels=(f s).rels):x.dep (ZJ f s me') M↔x.dep f M:=by
 have:∀b,(ZJ f s me' b).rels=(f b).rels:=by
  intro b;by_cases e:b=s
  .subst e;rw[J6];exact h
  .rw[Xn _ _ e]
 simp only[QW.dep,this]
def Dn(f:Bool->LP)(s:Bool)(me':LP)(h:me'.isOwn=(f s).isOwn):((ZJ f s me' false).isOwn|| (ZJ f s me' true).isOwn)=((f false).isOwn|| (f true).isOwn):=by
 have:∀b,(ZJ f s me' b).isOwn=(f b).isOwn:=by
  intro b;by_cases e:b=s
  .subst e;rw[J6];exact h
  .rw[Xn _ _ e]
 simp only[this]
def S_(b:Bool->LP)(s:Bool):((b false).isOwn|| (b true).isOwn)=((b s).isOwn|| (b (!s)).isOwn):=by
 cases s
 .rfl
 .exact Bool.or_comm _ _
def MI.mu(E:∀m g U,Stop m g U->g.status=.running){i:Nat}{g g':Gr}{r r':Tr}{d d' b:Nat}{D:Spec}{x:QW}{s:Bool}{me':LP}{lo lo' st sm st' sm':Nat}{es:Array Event}{bs:List (Nat×Bool)}{u:Bool->Bool}{S:Bool->LP}(ah:lo'<=(S (!s)).cls)
  (h:MI P t N Stop (some i) gs w tr V rk rel q) (hi:gs[i]?=some g) (I:rk i=some r) (f:i≠0) (B:(V (.run i)).tok=⟨d,.wrk b D,some (.lok x s (S s) lo)⟩)
  (h0:Q2 V 0=some (.par x u)) (G:∀j,QJ x.m (V j)) (hx:WX gs w V x u S st sm)
  (a5:Qc P x.t false g (Zc st) (Qp sm)=.go g' (Zc st') (Qp sm') es bs) (ax:Z5 x.m bs) (hw:LP.word me' (S (!s))=some (st',sm')) (af:(S s).cls<=me'.cls) (al:me'.rels=(S s).rels) (X:me'.isOwn=(S s).isOwn)
  (ay:∀e∈es,GD x.m e) (hd:deafBehind d es=d') (a7:sm'=sm\/sm'=0\/mayWake P g=true) (ao:Tr.Sub r' r) (hJ:JR (Za P t N) Stop r' false g' ((V (.run i)).lk d' b D x s me' lo')) :
  JI P t N Stop gs w sl tr rk q i:=by
 have a0:=(Array.getElem?_eq_some_iff.1 hi).1;have am:rk i≠none:=by rw[I];simp
 have Y:=hJ.running E;have K:=hx.sh;have a1:Q2 V i=some (.lok x s (S s) lo):=by unfold Q2;rw[B]
 obtain⟨ds,pend,k,aj,ab,W,c,wt,ba,Z,az,aw⟩:=h.inGrp f (b:=b) (D:=D) (by rw[B])
 have an:stepG P (i==0) g w=.go g' (two w x.m x.t (Zc st') (Qp sm')) es:=by
  rw[show(i==0)=false by simpa using f];exact H4 a5 K ax
 have ae:b≠x.m:=λ e=>Z.ne K e.symm;generalize hU:(V (.run i)).lk d' b D x s me' lo'=U' at hJ;have Q:∀j,j≠i->Q1 V (.run i) U' (.run j)=V (.run j):=λ j L=>Qh _ _ (by intro e;cases e;exact L rfl);have ag:∀j,Q1 V (.run i) U' (.dep j)=V (.dep j):=λ j=>Qh _ _ S1;have aa:Q1 V (.run i) U' .lck=V .lck:=Qh _ _ S1
 have hM:∀j,(Q1 V (.run i) U' j).canW=(V j).canW/\(Q1 V (.run i) U' j).canR=(V j).canR:=by
  intro j;by_cases e:j=.run i
  .subst e;rw[Ql,<- hU];exact⟨rfl,rfl⟩
  .rw[Qh _ _ e];exact⟨rfl,rfl⟩
 have H:∀j,(Q1 V (.run i) U' (.run j)).tok.ph=(V (.run j)).tok.ph:=by
  intro j;by_cases e:j=i
  .subst e;rw[Ql,<- hU,B];rfl
  .rw[Q j e]
 have a2:x.m<w.heap.size:=(Array.getElem?_eq_some_iff.1 K).1;have ap:=h.wk i f am;have ai:Jv V=some x.m:=by unfold Jv;rw[h0];rfl
 refine⟨_,_,_,Q1 V (.run i) U',Zp rk i (some r'),rel,q,runT_crowd_go hi an,?_,Xm Jl a0 I λ a8 e=>by cases e;exact ao,.refl _,rfl⟩;refine h.go E (rel':=rel) (q':=q) (es:=es) hi Q (λ j L=>Qu _ _ L) (λ _ _=>rfl) (λ _ _=>.inl rfl) (by rw[Qu _ _ (Ne.symm f)];exact h.root) (.inl f) ?_ ?_ (λ j L=>by rw[ag];exact h.deps j L) ?_ ?_ ?_ ?_ (λ e=>by rw[Qk]at e;cases e)
 .intro a8 e;rw[Qk]at e;cases e;rw[Ql];refine⟨by rw[show(i==0)=false by simpa using f];exact hJ,?_,λ _=>by rw[<- hU];exact⟨b,D,rfl⟩⟩;rw[h.deaf i am,B,<- hU];exact hd
 .intro e;rw[Qk]at e;cases e
 .refine⟨λ j=>?_,λ au av l hn hw I=>h.vi.sep au av l hn (by rw[<- (hM au).1];exact hw) (by rw[<- (hM av).2];exact I)⟩;have hv:=(h.vi.two (st':=Zc st') (sm':=Qp sm') K G).ok;by_cases e:j=.run i
  .subst e;rw[Ql,<- hU];exact⟨(hv (.run i)).imm,(hv (.run i)).held,(hv (.run i)).apart,(hv (.run i)).sep⟩
  .rw[Qh _ _ e];exact hv j
 .obtain⟨rm,hti⟩:=h.ti;rw[ai]at hti;have:=om (i:=i) (fn:=g.frame.fn) (pos:=g.frame.place) hti a2 G (.inr (by rw[B];simp)) ay (by rw[aj];intro e;exact ae (Option.some.inj e)) ap;refine⟨rm,?_⟩;have e0:Jv (Q1 V (.run i) U')=some x.m:=by unfold Jv Q2;rw[Q 0 (Ne.symm f)];exact ai
  rw[e0];simp only[H];have a6:(two w x.m x.t (Zc st') (Qp sm')).heap.size=w.heap.size:=by simp[two]
  rw[a6];exact this.turn (λ k l hl=>by rw[<- (hM k).1];exact hl) (λ k l hl=>by rw[<- (hM k).2];exact hl) (λ _ x=>x)
 .unfold QH;rw[H 0,aj];have hk:Z1 (Q1 V (.run i) U')=Z1 V:=by funext j;simp only[Z1,H]
  refine⟨λ j a ha ho I=>ab j a ha ho (by rw[<- (hM j).2];exact I),W,c,wt,ba,Z.two_other ae,?_,QH.woken hi (λ e=>absurd e f) aw⟩;rw[hk];simpa only[ag]using az
 .have hmi:Q2 (Q1 V (.run i) U') i=some (.lok x s me' lo'):=by unfold Q2;rw[Ql,<- hU];rfl
  have M:∀j,j≠i->Q2 (Q1 V (.run i) U') j=Q2 V j:=λ j L=>by unfold Q2;rw[Q j L]
  obtain⟨g1,g2,-⟩:=h.mux;refine⟨λ j x u L e=>?_,by rw[aa];exact g2,?_⟩
  .by_cases T:j=i
   .subst T;rw[hmi]at e;cases e
   .rw[M j T]at e;exact g1 j x u L e
  rw[M 0 (Ne.symm f),h0];refine⟨λ j a ha ho I=>G j a ha ho (by rw[<- (hM j).2];exact I),ZJ S s me',st',sm',hx.turn a1 hmi M K.two hw af ah ?_ ?_ ?_⟩
  .rw[Dn _ _ _ X,aa];exact hx.dep
  .rw[Dn _ _ _ X,aa,xQ _ _ _ _ _ al];exact hx.dep'
  .intro j x' s' me lo1 y e hy hns
   have T:j≠i:=λ T=>by
    subst T;rw[Wi hi]at hy;cases hy;exact hns Y
   rw[M j T]at e;rw[J3 T]at hy;obtain⟨z,hz,rfl⟩:=Option.map_eq_some_iff.1 hy;have aq:z.status≠.running:=λ I=>hns (by rw[Wc I];exact I);rcases a7 with rfl|rfl|a3
   .exact hx.slp j _ _ _ _ z e hz aq
   .rfl
   .exfalso;have a4:rk j≠none:=λ hn=>by rw[h.bareM j hn]at e;cases e
    obtain⟨a9,ak⟩:=Option.ne_none_iff_exists'.1 a4;obtain⟨ac,ad,hg⟩:=h.live j a9 (λ e'=>T (Option.some.inj e').symm) ak;have F:=ad.running E;rcases hg with hg|⟨hg,ho,_⟩
    .rw[hz]at hg;cases hg;exact aq F
    .rw[hz]at hg;cases hg;refine hns ?_
     have:woken P g g' (two w x.m x.t (Zc st') (Qp sm')) { ac with status:=.blocked }=ac:=by
      unfold woken;rw[if_pos,again_blocked F ho];rw[Y,a3];rfl
     rw[this];exact F
def MI.mblk{i:Nat}{g:Gr}{r:Tr}{d b:Nat}{D:Spec}{x:QW}{s:Bool}{lo st:Nat}{bs:List (Nat×Bool)}{u:Bool->Bool}{K:Bool->LP}
  (h:MI P t N Stop (some i) gs w tr V rk rel q) (Q:gs[i]?=some g) (B:g.status=.running) (T:g.offers=none) (U:rk i=some r) (f:i≠0) (F:(V (.run i)).tok=⟨d,.wrk b D,some (.lok x s .wai lo)⟩)
  (L:Q2 V 0=some (.par x u)) (z:∀j,QJ x.m (V j)) (hx:WX gs w V x u K st 0)
  (I:Qc P x.t false g (Zc st) (Qp 0)=.blocked { g with status:=.blocked } (Zc st) (Qp 0) bs) (H:Z5 x.m bs) (M:JR (Za P t N) Stop r false g (V (.run i))):JI P t N Stop gs w sl tr rk q i:=by
 have E:stepG P (i==0) g w=.go { g with status:=.blocked } w #[]:=by
  rw[show(i==0)=false by simpa using f];have:=E4 I hx.sh H
  rwa [hx.sh.two_same]at this
 have G:∀j,j≠i->(gs.setIfInBounds i { g with status:=.blocked })[j]?=gs[j]?:=λ j S=>Array.getElem?_setIfInBounds_ne (Ne.symm S);refine h.sleep Q B T U (.inr ⟨d,b,D,x,s,lo,F⟩) E (by rw[show(i==0)=false by simpa using f];exact M) ?_ ?_
 .have hG:=h.grp;unfold QH at hG ⊢;rw[G 0 (Ne.symm f)];exact hG
 .obtain⟨g1,g2,-⟩:=h.mux;refine⟨g1,g2,?_⟩;rw[L];exact⟨z,K,st,0,hx.sh,hx.word,hx.tk,hx.one,hx.who,hx.idle,hx.dep,hx.dep',λ _ _ _ _ _ _ _ _ _=>rfl⟩
def MI.macq(F:∀m g U,Stop m g U->g.status=.running){i:Nat}{g g':Gr}{r r':Tr}{b:Nat}{D:Spec}{x:QW}{s:Bool}{lo st sm:Nat}{bs:List (Nat×Bool)}{u:Bool->Bool}{K:Bool->LP}
  (h:MI P t N Stop (some i) gs w tr V rk rel q) (hi:gs[i]?=some g) (Y:rk i=some r) (B:i≠0) (E:(V (.run i)).tok=⟨0,.wrk b D,some (.lok x s (K s) lo)⟩) (ab:K s=.got) (an:lo<=(K (!s)).cls)
  (h0:Q2 V 0=some (.par x u)) (ac:∀j,QJ x.m (V j)) (hx:WX gs w V x u K st sm)
  (ax:∀st sm,Qc P x.t false g st sm=.go g' st sm #[Z0 (.acquire ⟨x.m,0,none⟩)] bs) (al:Z5 x.m bs) (ah:Tr.Sub r' r)
  (hJ:JR (Za P t N) Stop r' false g' { (V (.run i))with M:=(V (.run i)).M++(V .lck).M,tok:=⟨0,.wrk b D,some (.lok x s (.own (K (!s)).rels) lo)⟩ }):JI P t N Stop gs w sl tr rk q i:=by
 have ao:=(Array.getElem?_eq_some_iff.1 hi).1;have ad:rk i≠none:=by rw[Y];simp
 have ae:=hJ.running F;have S:=hx.sh;have aq:Q2 V i=some (.lok x s (K s) lo):=by unfold Q2;rw[E]
 obtain⟨ds,pend,k,av,X,W,c,wt,a1,af,am,ak⟩:=h.inGrp B (b:=b) (D:=D) (by rw[E])
 have ag:stepG P (i==0) g w=.go g' w #[Z0 (.acquire ⟨x.m,0,none⟩)]:=by
  rw[show(i==0)=false by simpa using B];have:=H4 (ax (Zc st) (Qp sm)) S al
  rwa [S.two_same]at this
 have aa:Deaf tr i=0:=by rw[h.deaf i ad,E]
 have hw:=hx.word;rw[H6 _ s,ab]at hw;obtain⟨az,a3⟩:=LP.word_own hw
 let V0:Hd->Qa Tk:=Q1 (Q1 V (.run i) ((V (.run i)).with (V .lck).M)) .lck (Qa.bare ⟨0,.out,none⟩)
 have I:VI V0 w:=h.vi.join (k:=.run i) (k':=.lck) S1 _
 let f:Hd->Qa Tk:=Q1 V0 (.run i) { (V (.run i))with M:=(V (.run i)).M++(V .lck).M,tok:=⟨0,.wrk b D,some (.lok x s (.own (K (!s)).rels) lo)⟩ }
 have v1:f (.run i)={ (V (.run i))with M:=(V (.run i)).M++(V .lck).M,tok:=⟨0,.wrk b D,some (.lok x s (.own (K (!s)).rels) lo)⟩ }:=Ql ..;have z1:V0 (.run i)=(V (.run i)).with (V .lck).M:=by show Q1 _ _ _ _=_;rw[Qh _ _ S1,Ql]
 have Z:∀j,j≠i->f (.run j)=V (.run j):=λ j L=>by show Q1 _ _ _ _=_;rw[Qh _ _ (by intro e;cases e;exact L rfl)];show Q1 _ _ _ _=_;rw[Qh _ _ S1,Qh _ _ (by intro e;cases e;exact L rfl)]
 have vd:∀j,f (.dep j)=V (.dep j):=λ j=>by show Q1 _ _ _ _=_;rw[Qh _ _ S1];show Q1 _ _ _ _=_;rw[Qh _ _ S1,Qh _ _ S1]
 have vm:f .lck=ZH:=by show Q1 _ _ _ _=_;rw[Qh _ _ S1];exact Ql ..
 have hs:∀k,(f k).canW=(V0 k).canW/\(f k).canR=(V0 k).canR:=by
  intro k;by_cases e:k=.run i
  .subst e;rw[v1,z1];exact⟨rfl,rfl⟩
  .rw[show f k=_ from Qh _ _ e];exact⟨rfl,rfl⟩
 have ay:VI f w:=by
  refine⟨λ k=>?_,λ ai aj l hn hw Y=>I.sep ai aj l hn (by rw[<- (hs ai).1];exact hw) (by rw[<- (hs aj).2];exact Y)⟩;by_cases e:k=.run i
  .subst e;rw[v1];have:=I.ok (.run i);rw[z1]at this;exact⟨this.imm,this.held,this.apart,this.sep⟩
  .rw[show f k=_ from Qh _ _ e];exact I.ok k
 have hW:∀k l,(f k).canW l->k≠.lck/\((V k).canW l\/(k=.run i/\(V .lck).canW l)):=by
  intro k l hl;cases k with
  |run j=>
   refine⟨S1,?_⟩;by_cases e:j=i
   .subst e;rw[(hs _).1,z1]at hl;exact(Ox (τ:=V .lck) hl).imp id λ h=>⟨rfl,h⟩
   .rw[Z j e]at hl;exact .inl hl
  |dep j=>rw[vd]at hl;exact⟨S1,.inl hl⟩
  |lck=>rw[vm]at hl;exact absurd hl (Wh _ _)
 have hR:∀k l,(f k).canR l->k≠.lck/\((V k).canR l\/(k=.run i/\(V .lck).canR l)):=by
  intro k l hl;cases k with
  |run j=>
   refine⟨S1,?_⟩;by_cases e:j=i
   .subst e;rw[(hs _).2,z1]at hl;exact(Ow (τ:=V .lck) hl).imp id λ h=>⟨rfl,h⟩
   .rw[Z j e]at hl;exact .inl hl
  |dep j=>rw[vd]at hl;exact⟨S1,.inl hl⟩
  |lck=>rw[vm]at hl;exact absurd hl (Wg _ _)
 have G:∀m,(∀j,QJ m (V j))->∀j,QJ m (f j):=λ m hm j a ha ho aw=>by
  rcases(hR _ _ aw).2 with h1|⟨_,h1⟩
  .exact hm _ a ha ho h1
  .exact hm _ a ha ho h1
 have H:∀j,(f (.run j)).tok.ph=(V (.run j)).tok.ph:=by
  intro j;by_cases e:j=i
  .subst e;rw[v1,E]
  .rw[Z j e]
 have au:x.m<w.heap.size:=(Array.getElem?_eq_some_iff.1 S).1;have a2:=h.wk i B ad;have ap:Jv V=some x.m:=by unfold Jv;rw[h0];rfl
 have e0:MemOp.ofEvents i g.frame.fn g.frame.place #[Z0 (.acquire ⟨x.m,0,none⟩)]=#[{ g:=i,fn:=g.frame.fn,pos:=g.frame.place,act:=.mark (.acquire ⟨x.m,0,none⟩) }]:=by
  rw[ofEvents_eq];simp[Z0,MemAct.ofEvent]
 refine⟨_,_,_,f,Zp rk i (some r'),rel,q,runT_crowd_go hi ag,?_,Xm Jl ao Y λ a0 e=>by cases e;exact ah,.refl _,rfl⟩;refine h.go F (V':=f) (rel':=rel) (q':=q) (es:=#[Z0 (.acquire ⟨x.m,0,none⟩)]) hi Z (λ j L=>Qu _ _ L) (λ _ _=>rfl) (λ _ _=>.inl rfl) (by rw[Qu _ _ (Ne.symm B)];exact h.root) (.inl B) ?_ ?_ (λ j L=>by rw[vd];exact h.deps j L) ay ?_ ?_ ?_ (λ e=>by rw[Qk]at e;cases e)
 .intro a0 e;rw[Qk]at e;cases e;rw[v1];refine⟨by rw[show(i==0)=false by simpa using B];exact hJ,?_,λ _=>⟨b,D,rfl⟩⟩;rw[aa];rfl
 .intro e;rw[Qk]at e;cases e
 .obtain⟨rm,hti⟩:=h.ti;refine⟨rm,?_⟩;have e1:Jv f=Jv V:=by unfold Jv Q2;rw[Z 0 (Ne.symm B)]
  rw[e1,e0];simp only[H];exact hti.macq (y:={ g:=i,fn:=g.frame.fn,pos:=g.frame.place,act:=.mark (.acquire ⟨x.m,0,none⟩) }) ap rfl au aa (.inr (by rw[E];simp)) hW hR
 .unfold QH;rw[H 0,av];have hk:Z1 f=Z1 V:=by funext j;simp only[Z1,H]
  refine⟨G _ X,W,c,wt,a1,af,?_,QH.woken hi (λ e=>absurd e B) ak⟩;rw[hk];simpa only[vd]using am
 .have hmi:Q2 f i=some (.lok x s (.own (K (!s)).rels) lo):=by unfold Q2;rw[v1]
  have Q:∀j,j≠i->Q2 f j=Q2 V j:=λ j L=>by unfold Q2;rw[Z j L]
  obtain⟨g1,g2,-⟩:=h.mux;refine⟨λ j x u L e=>?_,by rw[vm];rfl,?_⟩
  .by_cases T:j=i
   .subst T;rw[hmi]at e;cases e
   .rw[Q j T]at e;exact g1 j x u L e
  rw[Q 0 (Ne.symm B),h0];refine⟨G _ ac,ZJ K s (.own (K (!s)).rels),st,sm,hx.turn aq hmi Q S az (by rw[ab];exact Nat.le_refl _) an (λ _=>vm) (λ e=>?_) ?_⟩
  .exfalso;rw[S_ _ s,J6]at e;simp[LP.isOwn]at e
  .intro j x' s' me lo1 y e hy hns
   have T:j≠i:=λ T=>by
    subst T;rw[Wi hi]at hy;cases hy;exact hns ae
   rw[Q j T]at e;rw[J3 T]at hy;obtain⟨z,hz,rfl⟩:=Option.map_eq_some_iff.1 hy;exact hx.slp j _ _ _ _ z e hz λ Y=>hns (by rw[Wc Y];exact Y)
def MI.mrel(F:∀m g U,Stop m g U->g.status=.running){i:Nat}{g g':Gr}{r r':Tr}{b:Nat}{D:Spec}{x:QW}{s v:Bool}{lo st sm:Nat}{bs:List (Nat×Bool)}{u:Bool->Bool}{X:Bool->LP}{M₁ M₂:List Qw}
  (h:MI P t N Stop (some i) gs w tr V rk rel q) (hi:gs[i]?=some g) (hr:rk i=some r) (f:i≠0) (E:(V (.run i)).tok=⟨0,.wrk b D,some (.lok x s (X s) lo)⟩) (aa:X s=.own v) (am:lo<=(X (!s)).cls)
  (h0:Q2 V 0=some (.par x u)) (ab:∀j,QJ x.m (V j)) (hx:WX gs w V x u X st sm) (hM:(V (.run i)).M=M₁++M₂) (hD:x.sp (if s then v else true) (if s then true else v) M₁)
  (ax:∀st sm,Qc P x.t false g st sm=.go g' st sm #[Z0 (.releaseMerge ⟨x.m,0,none⟩)] bs) (ak:Z5 x.m bs) (ag:Tr.Sub r' r)
  (hJ:JR (Za P t N) Stop r' false g' { (V (.run i))with M:=M₂,tok:=⟨0,.wrk b D,some (.lok x s .rls lo)⟩ }):JI P t N Stop gs w sl tr rk q i:=by
 have an:=(Array.getElem?_eq_some_iff.1 hi).1;have ac:rk i≠none:=by rw[hr];simp
 have ad:=hJ.running F;have Q:=hx.sh;have ap:Q2 V i=some (.lok x s (X s) lo):=by unfold Q2;rw[E]
 obtain⟨ds,pend,k,au,T,W,c,wt,a1,ae,al,aj⟩:=h.inGrp f (b:=b) (D:=D) (by rw[E])
 have af:stepG P (i==0) g w=.go g' w #[Z0 (.releaseMerge ⟨x.m,0,none⟩)]:=by
  rw[show(i==0)=false by simpa using f];have:=H4 (ax (Zc st) (Qp sm)) Q ak
  rwa [Q.two_same]at this
 have Z:Deaf tr i=0:=by rw[h.deaf i ac,E]
 have hw:=hx.word;rw[H6 _ s,aa]at hw;obtain⟨az,ah,av⟩:=LP.word_rls hw;have hf:=Fe (tp:=(⟨0,.wrk b D,some (.lok x s .rls lo)⟩:Tk)) (tc:=(⟨0,.out,none⟩:Tk)) (h.vi.ok (.run i)) (M₁:=M₁) (M₂:=M₂) (by rw[hM])
 let B:Hd->Qa Tk:=Q1 (Q1 V (.run i) ⟨(V (.run i)).I,M₂,⟨0,.wrk b D,some (.lok x s .rls lo)⟩⟩) .lck ⟨λ _=>none,M₁,⟨0,.out,none⟩⟩
 have ay:VI B w:=h.vi.fork hf S1;have v1:B (.run i)=⟨(V (.run i)).I,M₂,⟨0,.wrk b D,some (.lok x s .rls lo)⟩⟩:=by show Q1 _ _ _ _=_;rw[Qh _ _ S1,Ql]
 have Y:∀j,j≠i->B (.run j)=V (.run j):=λ j K=>by show Q1 _ _ _ _=_;rw[Qh _ _ S1,Qh _ _ (by intro e;cases e;exact K rfl)]
 have vd:∀j,B (.dep j)=V (.dep j):=λ j=>by show Q1 _ _ _ _=_;rw[Qh _ _ S1,Qh _ _ S1]
 have vm:B .lck=⟨λ _=>none,M₁,⟨0,.out,none⟩⟩:=Ql ..
 have hW:∀k l,(B k).canW l->((V k).canW l/\k≠.lck)\/(k=.lck/\(V (.run i)).canW l):=by
  intro k l hl;cases k with
  |run j=>
   by_cases e:j=i
   .subst e;rw[v1]at hl;exact .inl ⟨hf.wp l hl,S1⟩
   .rw[Y j e]at hl;exact .inl ⟨hl,S1⟩
  |dep j=>rw[vd]at hl;exact .inl ⟨hl,S1⟩
  |lck=>rw[vm]at hl;exact .inr ⟨rfl,hf.wc l hl⟩
 have hR:∀k l,(B k).canR l->((V k).canR l/\k≠.lck)\/(k=.lck/\(V (.run i)).canR l):=by
  intro k l hl;cases k with
  |run j=>
   by_cases e:j=i
   .subst e;rw[v1]at hl;exact .inl ⟨hf.rp l hl,S1⟩
   .rw[Y j e]at hl;exact .inl ⟨hl,S1⟩
  |dep j=>rw[vd]at hl;exact .inl ⟨hl,S1⟩
  |lck=>rw[vm]at hl;exact .inr ⟨rfl,hf.rc l hl⟩
 have G:∀m,(∀j,QJ m (V j))->∀j,QJ m (B j):=λ m hm j a ha ho aw=>by
  rcases hR _ _ aw with⟨h1,_⟩|⟨_,h1⟩
  .exact hm _ a ha ho h1
  .exact hm _ a ha ho h1
 have H:∀j,(B (.run j)).tok.ph=(V (.run j)).tok.ph:=by
  intro j;by_cases e:j=i
  .subst e;rw[v1,E]
  .rw[Y j e]
 have aq:x.m<w.heap.size:=(Array.getElem?_eq_some_iff.1 Q).1;have ai:=h.wk i f ac;have ao:Jv V=some x.m:=by unfold Jv;rw[h0];rfl
 have e0:MemOp.ofEvents i g.frame.fn g.frame.place #[Z0 (.releaseMerge ⟨x.m,0,none⟩)]=#[{ g:=i,fn:=g.frame.fn,pos:=g.frame.place,act:=.mark (.releaseMerge ⟨x.m,0,none⟩) }]:=by
  rw[ofEvents_eq];simp[Z0,MemAct.ofEvent]
 refine⟨_,_,_,B,Zp rk i (some r'),rel,q,runT_crowd_go hi af,?_,Xm Jl an hr λ a0 e=>by cases e;exact ag,.refl _,rfl⟩;refine h.go F (V':=B) (rel':=rel) (q':=q) (es:=#[Z0 (.releaseMerge ⟨x.m,0,none⟩)]) hi Y (λ j K=>Qu _ _ K) (λ _ _=>rfl) (λ _ _=>.inl rfl) (by rw[Qu _ _ (Ne.symm f)];exact h.root) (.inl f) ?_ ?_ (λ j K=>by rw[vd];exact h.deps j K) ay ?_ ?_ ?_ (λ e=>by rw[Qk]at e;cases e)
 .intro a0 e;rw[Qk]at e;cases e;rw[v1];refine⟨by rw[show(i==0)=false by simpa using f];exact hJ,?_,λ _=>⟨b,D,rfl⟩⟩;rw[Z];rfl
 .intro e;rw[Qk]at e;cases e
 .obtain⟨rm,hti⟩:=h.ti;refine⟨some tr.size,?_⟩;have e1:Jv B=Jv V:=by unfold Jv Q2;rw[Y 0 (Ne.symm f)]
  rw[e1,e0];simp only[H];exact hti.mrel (y:={ g:=i,fn:=g.frame.fn,pos:=g.frame.place,act:=.mark (.releaseMerge ⟨x.m,0,none⟩) }) ao rfl aq Z ai hW hR
 .unfold QH;rw[H 0,au];have hk:Z1 B=Z1 V:=by funext j;simp only[Z1,H]
  refine⟨G _ T,W,c,wt,a1,ae,?_,QH.woken hi (λ e=>absurd e f) aj⟩;rw[hk];simpa only[vd]using al
 .have hmi:Q2 B i=some (.lok x s .rls lo):=by unfold Q2;rw[v1]
  have L:∀j,j≠i->Q2 B j=Q2 V j:=λ j K=>by unfold Q2;rw[Y j K]
  obtain⟨g1,g2,-⟩:=h.mux;refine⟨λ j x u K e=>?_,by rw[vm],?_⟩
  .by_cases S:j=i
   .subst S;rw[hmi]at e;cases e
   .rw[L j S]at e;exact g1 j x u K e
  rw[L 0 (Ne.symm f),h0];refine⟨G _ ab,ZJ X s .rls,st,sm,hx.turn ap hmi L Q az (by rw[aa];exact Nat.le_refl _) am (λ e=>?_) (λ _=>?_) ?_⟩
  .exfalso;rw[S_ _ s,J6,KZ,av]at e;simp[LP.isOwn]at e
  .rw[vm];unfold QW.dep;cases s
   .rw[J6,Xn _ _ S1];rw[ah]at hD;exact hD
   .rw[J6,Xn _ _ S1];rw[ah]at hD;exact hD
  .intro j x' s' me lo1 y e hy hns
   have S:j≠i:=λ S=>by
    subst S;rw[Wi hi]at hy;cases hy;exact hns ad
   rw[L j S]at e;rw[J3 S]at hy;obtain⟨z,hz,rfl⟩:=Option.map_eq_some_iff.1 hy;exact hx.slp j _ _ _ _ z e hz λ hr=>hns (by rw[Wc hr];exact hr)
end
section
variable{P:Program}{t:TypeId}{N:Nat}{Stop:QI Tk}{gs:Array Gr}{w:World}{tr:Trace}{V V':Hd->Qa Tk}{rk:Nat->Option Tr}{rel:Nat->Option Nat}{q:Nat->Nat}{sl:Option (Nat×Nat)}
def MI.make{g:Gr}{r':Tr}{b:Nat}{M₁ M₂:List Qw}(h:MI P t N Stop (some 0) gs w tr V rk rel q)(hi:gs[0]?=some g)(B:(V (.run 0)).tok=⟨0,.out,none⟩)
  (hM:(V (.run 0)).M=M₁++.obj b (.cells #[Q0 0 0,Qp 0] t (0,0))::M₂) (hJ:JR (Za P t N) Stop r' true g { (V (.run 0))with M:=M₁++M₂,tok:=⟨0,.par b [] false .run,none⟩ }) :
  MI P t N Stop none gs w tr (Q1 V (.run 0) { (V (.run 0))with M:=M₁++M₂,tok:=⟨0,.par b [] false .run,none⟩ }) (Zp rk 0 (some r')) rel q:=by
 have hG:=h.grp;unfold QH at hG;rw[B]at hG;obtain⟨ab,S⟩:=hG;have F:=h.vi.ok (.run 0)
 let z:Qa Tk:={ (V (.run 0))with M:=M₁++M₂,tok:=⟨0,.par b [] false .run,none⟩ }
 have Q:Q1 V (.run 0) z (.run 0)=z:=Ql ..;have T:∀j,j≠0->Q1 V (.run 0) z (.run j)=V (.run j):=λ j f=>Qh _ _ (λ e=>f (Hd.run.inj e));have vd:∀j,Q1 V (.run 0) z (.dep j)=V (.dep j):=λ j=>Qh _ _ S1
 have E:∀x,x∈M₁++M₂->x∈(V (.run 0)).M:=by
  intro x hx;rw[hM];rcases mem_append.1 hx with hx|hx
  .exact mem_append_left _ hx
  .exact mem_append_right _ (mem_cons_of_mem _ hx)
 have K:Qw.obj b (.cells #[Q0 0 0,Qp 0] t (0,0))∈(V (.run 0)).M:=by rw[hM];simp
 have ae:Sh b t (Q0 0 0) (Qp 0) w:=F.held _ K
 have af:∀l,z.canW l->(V (.run 0)).canW l:=λ l hl=>by
  obtain⟨x,hx,hl⟩:=Q4.1 hl;exact Q4.2 ⟨x,E x hx,hl⟩
 have ad:∀l,z.canR l->(V (.run 0)).canR l:=λ l hl=>by
  rcases Qx.1 hl with⟨x,hx,hl⟩|hl
  .exact Qx.2 (.inl ⟨x,E x hx,hl⟩)
  .exact Qx.2 (.inr hl)
 have W:=F.apart;rw[hM]at W;obtain⟨p1,p2,p3⟩:=pairwise_append.1 W;obtain⟨p4,p5⟩:=pairwise_cons.1 p2
 have X:∀x∈M₁++M₂,x.blk≠b:=by
  intro x hx e;rcases mem_append.1 hx with hx|hx
  .have:=p3 x hx (.obj b (.cells #[Q0 0 0,Qp 0] t (0,0))) S1;cases x <;> simp only[Qw.apart,Qw.blk]at this e <;> exact this e
  .have:=p4 x hx;cases x <;> simp only[Qw.apart,Qw.blk]at this e <;> exact this e.symm
 have aa:z.ok w:=⟨F.imm,λ x hx=>F.held x (E x hx),pairwise_append.2 ⟨p1,p5,λ x hx y hy=>p3 x hx y (mem_cons_of_mem _ hy)⟩,λ x hx=>F.sep x (E x hx)⟩;have Y:∀a:Addr,a.block=b->a.off<2->(V (.run 0)).canW (.cell a):=λ a ha ho=>Q4.2 ⟨_,K,ha,ho⟩
 have hW:∀k l,(Q1 V (.run 0) z k).canW l->(V k).canW l:=by
  intro k l hl;by_cases e:k=.run 0
  .subst e;rw[Q]at hl;exact af l hl
  .rwa [Qh _ _ e]at hl
 have hR:∀k l,(Q1 V (.run 0) z k).canR l->(V k).canR l:=by
  intro k l hl;by_cases e:k=.run 0
  .subst e;rw[Q]at hl;exact ad l hl
  .rwa [Qh _ _ e]at hl
 have Z:∀k,QJ b (Q1 V (.run 0) z k):=by
  intro k a ha ho G;by_cases e:k=.run 0
  .subst e;rw[Q]at G;rcases Qx.1 G with⟨x,hx,hl⟩|⟨c,ty,fr,hI,_⟩
   .have:=X x hx;cases x with
    |obj b' o=>
     cases o <;> simp only[Qw.lets]at hl;exact this (by rw[Qw.blk,<- hl.1,ha])
    |cell b' i' v ty n=>simp only[Qw.lets]at hl;exact this (by rw[Qw.blk,<- hl.1,ha])
   .have:=F.sep _ K;rw[Qw.blk,<- ha]at this;have U:(V (.run 0)).I a.block=some (.cells c ty fr):=hI;rw[this]at U;cases U
  .rw[Qh _ _ e]at G;exact h.vi.sep (.run 0) k _ (Ne.symm e) (Y a ha ho) G
 have hT:∀j,j≠0->(Q1 V (.run 0) z (.run j)).tok.ph=.out:=λ j f=>by rw[T j f];exact ab j f
 have H:∀j,j≠0->Zp rk 0 (some r') j=rk j:=λ j f=>Qu _ _ f;have ac:Q2 V 0=none:=by unfold Q2;rw[B]
 obtain⟨g1,g2,g3⟩:=h.mux;rw[ac]at g3;obtain⟨g3,g4⟩:=g3;have vm:Q1 V (.run 0) z .lck=ZH:=by rw[Qh _ _ S1];exact g4
 have L:∀j,Q2 (Q1 V (.run 0) z) j=none:=by
  intro j;by_cases e:j=0
  .subst e;unfold Q2;rw[Q]
  .unfold Q2;rw[T j e];exact g3 j
 refine⟨?_,by rw[Qk];simp,?_,?_,?_,?_,?_,?_,?_,λ j f=>by rw[vd];exact h.deps j f,?_,?_,?_,⟨λ j x u _ e=>(by rw[L]at e;cases e),by rw[vm];rfl,by rw[L];exact⟨L,vm⟩⟩,λ j _=>L j⟩
 .intro j r'' _ hr'';by_cases e:j=0
  .subst e;rw[Qk]at hr'';cases hr'';exact⟨g,by rw[Q];exact hJ,.inl hi⟩
  .rw[H j e]at hr'';obtain⟨x,k1,k2⟩:=h.live j r'' (λ e'=>e (Option.some.inj e').symm) hr'';exact⟨x,by rw[T j e];exact k1,by rw[T j e];exact k2⟩
 .intro j x f hx _;have e:j≠0:=λ e=>by subst e;rw[Qk]at f;cases f
  rw[H j e]at f;exact h.gone j x f hx (ab j e)
 .intro j f hp;have e:j≠0:=λ e=>by subst e;rw[Qk]at f;cases f
  exact absurd (hT j e) hp
 .intro j f;have e:j≠0:=by have:=(Array.getElem?_eq_some_iff.1 hi).1;omega
  rw[H j e];exact h.above j f
 .intro j f;have e:j≠0:=λ e=>by subst e;rw[Qk]at f;cases f
  rw[H j e]at f;rw[T j e];exact h.bare j f
 .intro j h0 f;rw[H j h0]at f;rw[T j h0];exact h.wk j h0 f
 .intro j f;by_cases e:j=0
  .subst e;rw[Qk];simp
  .rw[hT j e]at f;obtain⟨_,_,e'⟩:=f;cases e'
 .intro j f;by_cases e:j=0
  .subst e;rw[Q];rw[h.deaf 0 h.root,B]
  .rw[H j e]at f;rw[T j e];exact h.deaf j f
 .refine⟨λ k=>?_,λ ag ah l hn hw G=>h.vi.sep ag ah l hn (hW _ _ hw) (hR _ _ G)⟩;by_cases e:k=.run 0
  .subst e;rw[Q];exact aa
  .rw[Qh _ _ e];exact h.vi.ok k
 .obtain⟨rm,hti⟩:=h.ti;rw[B]at hti;refine⟨none,?_⟩;have e0:Jv (Q1 V (.run 0) z)=none:=by unfold Jv;rw[L];rfl
  rw[Q,e0];have:=hti.create (b:=b) (W':=λ k=>(Q1 V (.run 0) z k).canW) (R':=λ k=>(Q1 V (.run 0) z k).canR) (λ l=>by rw[vm];exact Wh _ _) (λ l=>by rw[vm];exact Wg _ _) S Y hW hR
  have e3:(λ j=>ZL (Q1 V (.run 0) z (.run j)).tok.ph)=λ j=>ZL (V (.run j)).tok.ph:=by
   funext j;by_cases e:j=0
   .subst e;rw[Q,B];refine propext ⟨?_,?_⟩ <;> (rintro⟨_,_,e⟩;cases e)
   .rw[T j e]
  rw[e3];refine this.turn (λ _ _ h=>h) (λ _ _ h=>h) ?_;rintro j (rfl|f)
  .rfl
  .apply Classical.byContradiction;intro e;exact f (hT j e)
 .unfold QH;rw[Q];refine⟨Z,[],0,0,0,ae,?_,λ _ _ _=>rfl⟩;refine GI.start (λ i=>?_) S;by_cases e:i=0
  .simp[Z1,e]
  .simp only[Z1,if_neg e];exact hT i e
def MI.makeM{g:Gr}{r':Tr}{b:Nat}{x:QW}{M₁ M₂:List Qw}(h:MI P t N Stop (some 0) gs w tr V rk rel q)(hi:gs[0]?=some g)(G:(V (.run 0)).tok=⟨0,.par b [] false .run,none⟩)
  (hM:(V (.run 0)).M=.obj x.m (.cells #[Zc 0,Qp 0] x.t (0,0))::(M₁++M₂)) (hD:x.sp false false M₁) (hJ:JR (Za P t N) Stop r' true g { (V (.run 0))with M:=M₂,tok:=⟨0,.par b [] false .run,some (.par x λ _=>false)⟩ }) :
  MI P t N Stop none gs w tr (Q1 (Q1 V (.run 0) { (V (.run 0))with M:=M₂,tok:=⟨0,.par b [] false .run,some (.par x λ _=>false)⟩ }) .lck ⟨λ _=>none,M₁,⟨0,.out,none⟩⟩) (Zp rk 0 (some r')) rel q:=by
 have hG:=h.grp;unfold QH at hG;rw[G]at hG;obtain⟨L,W,c,wt,s,an,ab,ap⟩:=hG;have ao:W=[]:=eq_nil_of_length_eq_zero ab.len
 have af:∀j,j≠0->(V (.run j)).tok.ph=.out:=by
  intro j f;apply Classical.byContradiction;intro hn;have:=ab.inW j (.inl (by simpa[Z1,f]using hn));rw[ao]at this;cases this
 have H:=h.vi.ok (.run 0);have al:Q2 V 0=none:=by unfold Q2;rw[G]
 obtain⟨g1,g2,g3⟩:=h.mux;rw[al]at g3;obtain⟨g3,g4⟩:=g3
 let U2:Qa Tk:={ (V (.run 0))with M:=M₂,tok:=⟨0,.par b [] false .run,some (.par x λ _=>false)⟩ }
 let z:=Q1 (Q1 V (.run 0) U2) .lck ⟨λ _=>none,M₁,⟨0,.out,none⟩⟩
 have Z:z (.run 0)=U2:=by show Q1 _ _ _ _=_;rw[Qh _ _ S1,Ql]
 have X:∀j,j≠0->z (.run j)=V (.run j):=λ j f=>by show Q1 _ _ _ _=_;rw[Qh _ _ S1,Qh _ _ (λ e=>f (Hd.run.inj e))]
 have vd:∀j,z (.dep j)=V (.dep j):=λ j=>by show Q1 _ _ _ _=_;rw[Qh _ _ S1,Qh _ _ S1]
 have vm:z .lck=⟨λ _=>none,M₁,⟨0,.out,none⟩⟩:=Ql ..;have K:Qw.obj x.m (.cells #[Zc 0,Qp 0] x.t (0,0))∈(V (.run 0)).M:=by rw[hM];simp
 have aq:Sh x.m x.t (Zc 0) (Qp 0) w:=H.held _ K;have aj:=H.apart;rw[hM]at aj;obtain⟨p4,p5⟩:=pairwise_cons.1 aj;have E:∀y,y∈M₁++M₂->y∈(V (.run 0)).M:=λ y hy=>by rw[hM];exact mem_cons_of_mem _ hy
 have am:Qa.ok ({ (V (.run 0))with M:=M₁++M₂ }:Qa Tk) w:=⟨H.imm,λ y hy=>H.held y (E y hy),p5,λ y hy=>H.sep y (E y hy)⟩;have hf:=Fe (U:=({ (V (.run 0))with M:=M₁++M₂ }:Qa Tk)) (tp:=(⟨0,.par b [] false .run,some (.par x λ _=>false)⟩:Tk)) (tc:=(⟨0,.out,none⟩:Tk)) am (M₁:=M₁) (M₂:=M₂) (Perm.refl _)
 have ah:∀l,Qa.canW ({ (V (.run 0))with M:=M₁++M₂ }:Qa Tk) l->(V (.run 0)).canW l:=λ l hl=>by
  obtain⟨y,hy,hl⟩:=Q4.1 hl;exact Q4.2 ⟨y,E y hy,hl⟩
 have ag:∀l,Qa.canR ({ (V (.run 0))with M:=M₁++M₂ }:Qa Tk) l->(V (.run 0)).canR l:=λ l hl=>by
  rcases Qx.1 hl with⟨y,hy,hl⟩|hl
  .exact Qx.2 (.inl ⟨y,E y hy,hl⟩)
  .exact Qx.2 (.inr hl)
 have ak:∀y∈M₁++M₂,y.blk≠x.m:=by
  intro y hy e;have:=p4 y hy;cases y <;> simp only[Qw.apart,Qw.blk]at this e <;> exact this e.symm
 have Q:QJ x.m ({ (V (.run 0))with M:=M₁++M₂ }:Qa Tk):=by
  intro a ha S B;rcases Qx.1 B with⟨y,hy,hl⟩|⟨c,ty,fr,hI,_⟩
  .have:=ak y hy;cases y with
   |obj b' o=>
    cases o <;> simp only[Qw.lets]at hl;exact this (by rw[Qw.blk,<- hl.1,ha])
   |cell b' i' v ty n=>simp only[Qw.lets]at hl;exact this (by rw[Qw.blk,<- hl.1,ha])
  .have:=H.sep _ K;rw[Qw.blk,<- ha]at this;have ai:(V (.run 0)).I a.block=some (.cells c ty fr):=hI;rw[this]at ai;cases ai
 have aa:∀a:Addr,a.block=x.m->a.off<2->(V (.run 0)).canW (.cell a):=λ a ha S=>Q4.2 ⟨_,K,ha,S⟩
 have au:VI (Q1 V (.run 0) ({ (V (.run 0))with M:=M₁++M₂ }:Qa Tk)) w:=h.vi.shift ⟨rfl,λ w' T=>by
  have Y:=T.apart;rw[hM]at Y;exact⟨⟨T.imm,λ y hy=>T.held y (E y hy),(pairwise_cons.1 Y).2,λ y hy=>T.sep y (E y hy)⟩,ah,ag⟩⟩
 have av:VI z w:=by
  have:=au.fork (k:=.run 0) (c:=.lck) (Up:=U2) (Uc:=⟨λ _=>none,M₁,⟨0,.out,none⟩⟩) (by rw[Ql];exact hf) S1
  have e:Q1 (Q1 (Q1 V (.run 0) ({ (V (.run 0))with M:=M₁++M₂ }:Qa Tk)) (.run 0) U2) .lck (⟨λ _=>none,M₁,⟨0,.out,none⟩⟩:Qa Tk)=z:=by
   funext k;by_cases e1:k=.lck
   .subst e1;rw[Ql,vm]
   .rw[Qh _ _ e1];show _=Q1 _ _ _ k;rw[Qh _ _ e1];by_cases e2:k=.run 0
    .subst e2;rw[Ql,Ql]
    .rw[Qh _ _ e2,Qh _ _ e2,Qh _ _ e2]
  rw[e]at this;exact this
 have hW:∀k l,(z k).canW l->(V k).canW l\/(k=.lck/\(V (.run 0)).canW l):=by
  intro k l hl;cases k with
  |run j=>
   by_cases e:j=0
   .subst e;rw[Z]at hl;exact .inl (ah l (hf.wp l hl))
   .rw[X j e]at hl;exact .inl hl
  |dep j=>rw[vd]at hl;exact .inl hl
  |lck=>rw[vm]at hl;exact .inr ⟨rfl,ah l (hf.wc l hl)⟩
 have hR:∀k l,(z k).canR l->(V k).canR l\/(k=.lck/\(V (.run 0)).canR l):=by
  intro k l hl;cases k with
  |run j=>
   by_cases e:j=0
   .subst e;rw[Z]at hl;exact .inl (ag l (hf.rp l hl))
   .rw[X j e]at hl;exact .inl hl
  |dep j=>rw[vd]at hl;exact .inl hl
  |lck=>rw[vm]at hl;exact .inr ⟨rfl,ag l (hf.rc l hl)⟩
 have ae:∀k,QJ x.m (z k):=by
  intro k a ha S B;cases k with
  |run j=>
   by_cases e:j=0
   .subst e;rw[Z]at B;exact Q a ha S (hf.rp _ B)
   .rw[X j e]at B;exact h.vi.sep (.run 0) (.run j) _ (λ e'=>e (Hd.run.inj e').symm) (aa a ha S) B
  |dep j=>rw[vd]at B;exact h.vi.sep (.run 0) (.dep j) _ S1 (aa a ha S) B
  |lck=>rw[vm]at B;exact Q a ha S (hf.rc _ B)
 have F:∀j,j≠0->Zp rk 0 (some r') j=rk j:=λ j f=>Qu _ _ f
 have hT:∀j,(z (.run j)).tok.ph=(V (.run j)).tok.ph:=by
  intro j;by_cases e:j=0
  .subst e;rw[Z,G]
  .rw[X j e]
 have ac:Q2 z 0=some (.par x λ _=>false):=by unfold Q2;rw[Z]
 have ad:∀j,j≠0->Q2 z j=none:=λ j f=>by unfold Q2;rw[X j f];exact g3 j
 refine⟨?_,by rw[Qk];simp,?_,?_,?_,?_,?_,?_,?_,λ j f=>by show z _=_;rw[vd];exact h.deps j f,av,?_,?_,?_,?_⟩
 .intro j r'' _ hr'';by_cases e:j=0
  .subst e;rw[Qk]at hr'';cases hr'';exact⟨g,by show JR _ _ _ _ _ (z _);rw[Z];exact hJ,.inl hi⟩
  .rw[F j e]at hr'';obtain⟨y,k1,k2⟩:=h.live j r'' (λ e'=>e (Option.some.inj e').symm) hr'';exact⟨y,by show JR _ _ _ _ _ (z _);rw[X j e];exact k1,by show _\/_/\_/\Uq _ (z _).tok;rw[X j e];exact k2⟩
 .intro j y f hy _;have e:j≠0:=λ e=>by subst e;rw[Qk]at f;cases f
  rw[F j e]at f;exact h.gone j y f hy (af j e)
 .intro j f hp;have e:j≠0:=λ e=>by subst e;rw[Qk]at f;cases f
  have hp:(z (.run j)).tok.ph≠.out:=hp;rw[hT]at hp;exact absurd (af j e) hp
 .intro j f;have e:j≠0:=by have:=(Array.getElem?_eq_some_iff.1 hi).1;omega
  rw[F j e];exact h.above j f
 .intro j f;have e:j≠0:=λ e=>by subst e;rw[Qk]at f;cases f
  rw[F j e]at f;show(z _).I=_/\(z _).M=_;rw[X j e];exact h.bare j f
 .intro j h0 f;rw[F j h0]at f;show ZL (z _).tok.ph;rw[hT];exact h.wk j h0 f
 .intro j f;have f:ZL (z (.run j)).tok.ph:=f;rw[hT]at f;by_cases e:j=0
  .subst e;rw[Qk];simp
  .rw[F j e];exact h.wk' j f
 .intro j f;show _=(z _).tok.d;by_cases e:j=0
  .subst e;rw[Z];rw[h.deaf 0 h.root,G]
  .rw[F j e]at f;rw[X j e];exact h.deaf j f
 .obtain⟨rm,hti⟩:=h.ti;have e0:Jv V=none:=by unfold Jv;rw[al];rfl
  have e1:Jv z=some x.m:=by unfold Jv;rw[ac];rfl
  rw[e0]at hti;refine⟨none,?_⟩;show TI (λ k=>(z k).canW) (λ k=>(z k).canR) rel (z (.run 0)).tok.ph.blk (Jv z) none (λ i=>i=0\/(z (.run i)).tok.ph≠.out) (λ i=>ZL (z (.run i)).tok.ph) w.heap.size tr;rw[e1];simp only[hT];refine hti.createM (act':=λ i=>i=0\/(V (.run i)).tok.ph≠.out) (λ j f=>?_) aa hW hR (λ l=>by rw[g4];exact Wh _ _) (λ l=>by rw[g4];exact Wg _ _);refine⟨?_,.inl rfl⟩;rcases f with rfl|f
  .rfl
  .apply Classical.byContradiction;intro e;exact f (af j e)
 .show QH t N gs w z rel;unfold QH;rw[Z];refine⟨λ k a ha S B=>?_,W,c,wt,s,an,?_,ap⟩
  .rcases hR k _ B with h1|⟨_,h1⟩
   .exact L _ a ha S h1
   .exact L _ a ha S h1
  .have hk:Z1 z=Z1 V:=by funext j;simp only[Z1,hT]
   rw[hk];simpa only[vd]using ab
 .show JH gs w z;refine⟨λ j y u f e=>(by rw[ad j f]at e;cases e),by rw[vm],?_⟩;rw[ac]
  have nl:∀j y s me lo,Q2 z j≠some (.lok y s me lo):=by
   intro j y s me lo e;by_cases ej:j=0
   .subst ej;rw[ac]at e;cases e
   .rw[ad j ej]at e;cases e
  exact⟨ae,λ _=>.idle,0,0,aq,rfl,λ j _ _ _ _ e=>absurd e (nl _ _ _ _ _),λ j _ _ _ _ _ _ _ _ e=>absurd e (nl _ _ _ _ _),λ s e=>(by cases e),λ _ _=>rfl,λ e=>(by cases e),λ _=>(by rw[vm];exact hD),λ j _ _ _ _ _ e=>absurd e (nl _ _ _ _ _)⟩
 .intro j f;have e:j≠0:=λ e=>by subst e;rw[Qk]at f;cases f
  exact ad j e
def Fin(P:Program)(Q:Value->Qa Tk->Prop):QI Tk:=λ m g U=>m=true/\g.status=.running/\U.tok=⟨0,.out,none⟩/\∃v,Q v U/\∀w,U.ok w->∃es,stepG P true g w=.ended (.done v) w es/\∀e∈es,JV U w e/\XS w e
variable{Q:Value->Qa Tk->Prop}
def Fin.running:∀m g U,Fin P Q m g U->g.status=.running:=λ _ _ _ h=>h.2.1
def Nx(P:Program)(t:TypeId)(N:Nat)(Stop:QI Tk)(gs:Array Gr)(w:World)(sl:Option (Nat×Nat))(tr:Trace)(μ:List Tr×Nat)(i:Nat):Prop:=
 ∃b w' ops V' rk' rel' q',runT P (crowd gs w sl) i=(.next (crowd b w' sl),ops)/\MI P t N Stop none b w' (tr++ops) V' rk' rel' q'/\Relation.TransGen JA (QD b rk' q') μ/\JZ w.os w'.os/\w'.output=w.output
def JI.nx{i:Nat}(h:JI P t N Stop gs w sl tr rk q i):Nx P t N Stop gs w sl tr (QD gs rk q) i:=
 let ⟨gs',w',ops,V',rk',rel',q',a,b,c,d⟩:=h;⟨gs',w',ops,V',rk',rel',q',a,b,.single c,d⟩
def Yz(P:Program)(t:TypeId)(N:Nat)(Q:Value->Qa Tk->Prop)(gs:Array Gr)(w:World)(tr:Trace)(g:Gr):Prop:=
 ∃V rk rel q,MI P t N (Fin P Q) (some 0) gs w tr V rk rel q/\Fin P Q true g (V (.run 0))
def MI.alive:∀(r:Tr){i:Nat}{g:Gr}{V:Hd->Qa Tk}{rk:Nat->Option Tr},MI P t N (Fin P Q) none gs w tr V rk rel q->gs[i]?=some g->g.status=.running->rk i=some r ->
  (i=0/\Yz P t N Q gs w tr g)\/Nx P t N (Fin P Q) gs w sl tr (QD gs rk q) i:=by
 intro r
 induction r using Tr.sub_wf.induction with
 |_ r ih=>
  intro i g V rk h Z ab T;have aw:=(Array.getElem?_eq_some_iff.1 Z).1;obtain⟨au,hJ,hg⟩:=h.live i r S1 T
  have:au=g:=by
   rcases hg with hg|⟨hg,_⟩
   .rw[Z]at hg;exact(Option.some.inj hg).symm
   .rw[Z]at hg;cases hg;cases ab
  subst this;have al:=hJ;obtain⟨U1,hs,hJ⟩:=hJ.step;have h1:=h.shift T hs;have hU:Q1 V (.run i) U1 (.run i)=U1:=Ql ..;generalize Q1 V (.run i) U1=V1 at h1 hU;subst hU;rcases hJ with hJ|hJ|hJ
  .have hi0:i=0:=by have:=hJ.1;simpa using this
   subst hi0;exact .inl ⟨rfl,V1,rk,rel,q,h1,hJ⟩
  .exact .inr (h1.priv Fin.running Z T hJ).nx
  .have hJ:QC P t N _ (i==0) au (V1 (.run i)):=hJ;generalize hm:(i==0)=m at hJ
   have par:∀{d b ds pend k mu},i=0->(V1 (.run i)).tok=⟨d,.par b ds pend k,mu⟩->(∀j,QJ b (V1 j))/\∃W c wt s,Sh b t (Q0 c wt) (Qp s) w/\GI N b ds pend k (Z1 V1) rel (λ i=>(V1 (.dep i)).M) W c wt s:=by
    intro d b ds pend k mu H ht;subst H;obtain⟨bd,aq,k',e1,e2,W,c,wt,s,e3,e4,_⟩:=h1.par' (b:=b) (by rw[ht];rfl);rw[ht]at e1;cases e1;exact⟨e2,W,c,wt,s,e3,e4⟩
   have az:rk i≠none:=by rw[T];simp
   have L:∀{d b ds pend k mu},(V1 (.run i)).tok=⟨d,.par b ds pend k,mu⟩->i=0/\m=true:=by
    intro d b ds pend k mu ht
    have H:i=0:=by
     apply Classical.byContradiction;intro ao;obtain⟨_,_,e⟩:=h1.wk i ao az;rw[ht]at e;cases e
    exact⟨H,by subst H;exact hm.symm⟩
   have bb:(V1 (.run i)).tok=⟨0,.out,none⟩->i=0/\m=true:=by
    intro ht
    have H:i=0:=by
     apply Classical.byContradiction;intro ao;obtain⟨_,_,e⟩:=h1.wk i ao az;rw[ht]at e;cases e
    exact⟨H,by subst H;exact hm.symm⟩
   have af:m=true->i=0:=λ e=>by subst e;simpa using hm
   have ag:m=false->i≠0:=λ e=>by subst e;simpa using hm
   have aa:i=0->∃d b ds pend k mu,((V1 (.run i)).tok=⟨d,.par b ds pend k,mu⟩\/(V1 (.run i)).tok.ph=.out):=by
    intro H;subst H;have hG:=h1.grp;unfold QH at hG;generalize(V1 (.run 0)).tok=tk at hG;obtain⟨d,p,mu⟩:=tk;cases p with
    |out=>exact⟨0,0,[],false,.run,none,.inr rfl⟩
    |par b ds pend k=>exact⟨d,b,ds,pend,k,mu,.inl rfl⟩
    |_=>exact hG.elim
   cases hJ with
   |quiet U hb B E k=>
    rename_i b bs g';obtain⟨r',f,k⟩:=k;cases m with
    |true=>
     have H:=af rfl;subst H;obtain⟨d,b',ds,pend,kk,mu,ht|ht⟩:=aa rfl
     .rw[ht]at hb;cases hb;obtain⟨z,W,c,wt,s,I,G⟩:=par rfl ht;refine .inr (h1.parent Fin.running Z T ht z I (B _ _) E S1 (deafBehind_nil _) G f ?_).nx;have:(V1 (.run 0)).at d (.par b ds pend kk)=V1 (.run 0):=Qa.at_self ht;rw[this];exact k
     .rw[ht]at hb;cases hb
    |false=>
     have H:=ag rfl;exact .inr (h1.calm Fin.running Z T H hb B E f k).nx
   |dis U ht B E k=>
    obtain⟨r',f,k⟩:=k;obtain⟨H,S⟩:=L ht;subst H;subst S;obtain⟨z,W,c,wt,s,I,G⟩:=par rfl ht;exact .inr (h1.parent Fin.running Z T ht z I (B _ _) E (by intro e Y;simp at Y;subst Y;exact .inl rfl) rfl G f k).nx
   |ena U ht B E k=>
    obtain⟨r',f,k⟩:=k;obtain⟨H,S⟩:=L ht;subst H;subst S;obtain⟨z,W,c,wt,s,I,G⟩:=par rfl ht;exact .inr (h1.parent Fin.running Z T ht z I (B _ _) E (by intro e Y;simp at Y;subst Y;exact .inl rfl) rfl G f k).nx
   |add U ht hN B=>
    obtain⟨H,S⟩:=L ht;subst H;subst S;obtain⟨z,W,c,wt,s,I,G⟩:=par rfl ht;obtain⟨rfl,rfl,-⟩:=G.state;have hc:=G.cN;simp at hc;obtain⟨g',bs,B,E,r',f,k⟩:=B c hc;exact .inr (h1.parent Fin.running Z T ht z I B E (by intro e Y;simp at Y;rcases Y with rfl|rfl <;> exact .inr (.inl ⟨0,_,O1,rfl⟩)) rfl (G.add hN) f k).nx
   |said U ht B E k=>
    rename_i mu b ds pend kk bs g' wr;obtain⟨r',f,k⟩:=k;obtain⟨H,S⟩:=L ht;subst H;subst S;obtain⟨z,W,c,wt,s,I,G⟩:=par rfl ht;refine .inr (h1.parent Fin.running (d':=1) Z T ht z I (B _ _) E (by intro e Y;simp at Y;subst Y;exact .inr (.inr ⟨rfl,1,wr,O1,rfl⟩)) (by cases wr <;> rfl) G f ?_).nx;have:(V1 (.run 0)).at 1 (.par b ds pend kk)=V1 (.run 0):=Qa.at_self ht;rw[this];exact k
   |look U ht hk B=>
    rename_i mu b ds k_0 u;obtain⟨H,S⟩:=L ht;subst H;subst S;obtain⟨z,W,c,wt,s,I,G⟩:=par rfl ht;obtain⟨hc,rfl,rfl,-⟩:=G.seeU hk;obtain⟨g',bs,E,⟨B,⟨r',f,k⟩|⟨rfl,r',f,k⟩⟩|⟨bg,B,r',f,k⟩⟩:=B c hc
    .refine .inr (h1.parent Fin.running (d':=1) Z T ht z I B E (by intro e Y;simp at Y;subst Y;exact .inr (.inl ⟨0,_,O1,rfl⟩)) rfl (G.toSeen hk) f k).nx
    .exact .inr (h1.parent Fin.running (d':=1) Z T ht z I B E (by intro e Y;simp at Y;subst Y;exact .inr (.inl ⟨0,_,O1,rfl⟩)) rfl (G.toUp hk) f k).nx
    .exact .inr (h1.parent Fin.running (d':=1) Z T ht z I B E (by intro e Y;simp at Y;rcases Y with rfl|rfl <;> exact .inr (.inl ⟨0,_,O1,rfl⟩)) rfl (G.toWait hk bg) f k).nx
   |sema U ho ht h0 B=>
    rename_i mu b ds;obtain⟨H,S⟩:=L ht;subst H;subst S;have ad:(V (.run 0)).tok=⟨1,.par b ds false .wait,mu⟩:=hs.1.symm.trans ht;obtain⟨bd,aq,bp,e1,ap,W',c',wt',s',aj,ai,_⟩:=h.par' (b:=b) (by rw[ad];rfl);rw[ad]at e1;cases e1
    have ae:s'=0\/s'=1:=by
     rcases ai.state.2 with⟨_,_,h3,_⟩|⟨_,i0,j0,_,⟨_,_,h3⟩|⟨_,_,h3⟩⟩|⟨_,_,h3,_⟩ <;> omega
    rcases ae with rfl|rfl
    .obtain⟨bs,E,B⟩:=h0 (Q0 c' wt');have hx:MI P t N (Fin P Q) (some 0) gs w tr V rk rel q:={ h with live:=λ j r _ T=>h.live j r S1 T };exact .inr (hx.block Z ab ho T ad ap aj ai B E al).nx
    .obtain⟨z,W,c,wt,s,I,G⟩:=par rfl ht
     have bl:s=1:=by
      have:some (Obj.cells #[Q0 c' wt',Qp 1] t (0,0))=some (Obj.cells #[Q0 c wt,Qp s] t (0,0)):=aj.symm.trans I;simp[Qp]at this;omega
     subst bl;obtain⟨av,rfl,rfl,-⟩:=G.sema;obtain⟨g',bs,E,B,r',f,k⟩:=B;exact .inr (h1.parent Fin.running (d':=1) Z T ht z I B E (by intro e Y;simp at Y;rcases Y with rfl|rfl|rfl|rfl <;> first|exact .inl rfl|exact .inr (.inl ⟨1,_,O1,rfl⟩)) rfl av f k).nx
   |look2 U ht E B k=>
    rename_i mu b ds bs g';obtain⟨r',f,k⟩:=k;obtain⟨H,S⟩:=L ht;subst H;subst S;obtain⟨z,W,c,wt,s,I,G⟩:=par rfl ht;obtain⟨-,rfl,rfl,rfl,-⟩:=G.up;refine .inr (h1.parent Fin.running (d':=1) Z T ht z I B E (by intro e Y;simp at Y;subst Y;exact .inr (.inl ⟨0,_,O1,rfl⟩)) rfl G f ?_).nx;have:(V1 (.run 0)).at 1 (.par b ds false .up)=V1 (.run 0):=Qa.at_self ht;rw[this];exact k
   |acq U ht E B k=>
    obtain⟨H,S⟩:=L ht;subst H;subst S;obtain⟨z,W,c,wt,s,I,G⟩:=par rfl ht
    have bm:V1 .lck=ZH:=by
     have g3:=h1.mux.2.2;rw[show Q2 V1 0=none by unfold Q2;rw[ht]]at g3;exact g3.2
    refine .inr (h1.take Fin.running Z T ht I G B E λ Ms am=>?_).nx;obtain⟨r',f,k⟩:=k Ms am;refine⟨r',f,?_⟩
    have:({ (V1 (.run 0))with M:=((V1 (.run 0)).M++Ms.flatten)++(V1 .lck).M,tok:=⟨0,.out,none⟩ }:Qa Tk)=((V1 (.run 0)).with Ms.flatten).at 0 .out:=by
     rw[bm];simp only[ZH,Qa.bare,append_nil,Qa.at,Qa.with];rw[ht]
    rw[this];exact k
   |acqM U ht E B k=>
    rename_i b ds bs g' x u;obtain⟨H,S⟩:=L ht;subst H;subst S;obtain⟨z,W,c,wt,s,I,G⟩:=par rfl ht
    have X:x.sp (u false) (u true) (V1 .lck).M:=by
     have g3:=h1.mux.2.2;rw[show Q2 V1 0=some (.par x u) by unfold Q2;rw[ht]]at g3;obtain⟨-,lp,st,sm,hx⟩:=g3;have ax:=G.up.2.2.2.2.1
     have bi:∀j y s me lo,Q2 V1 j≠some (.lok y s me lo):=by
      intro j y s me lo e;by_cases ej:j=0
      .subst ej;unfold Q2 at e;rw[ht]at e;cases e
      .have hrj:rk j=none:=by
        cases bk:rk j with
        |none=>rfl
        |some bq=>
         obtain⟨_,_,e'⟩:=h1.wk j ej (by rw[bk];simp);have:=ax j;simp only[Z1,if_neg ej]at this;rw[e']at this;cases this
       rw[h1.bareM j hrj]at e;cases e
     have bh:∀s,lp s=if u s then .fin else .idle:=by
      intro s;cases hu:u s with
      |false=>simpa using hx.idle s hu
      |true=>
       rcases hx.who s hu with h2|⟨j,me,lo,e⟩
       .simpa using h2
       .exact absurd e (bi _ _ _ _ _)
     have ah:∀s,(lp s).rels=u s/\(lp s).isOwn=false:=by
      intro s;rw[bh s];cases u s <;> exact⟨rfl,rfl⟩
     have:=hx.dep' (by rw[(ah false).2,(ah true).2];rfl);unfold QW.dep at this;rw[(ah false).1,(ah true).1]at this;exact this
    exact .inr (h1.take Fin.running Z T ht I G B E λ Ms am=>k Ms _ am X).nx
   |make ht hM k=>
    obtain⟨r',f,k⟩:=k;obtain⟨H,S⟩:=bb ht;subst H;subst S;have h2:=h1.make Z ht hM k;rcases ih r' f h2 Z ab (Qk ..)with h3|⟨ak,w',ops,V',rk',rel',q',a,b,c,dd⟩
    .exact .inl h3
    .refine .inr ⟨ak,w',ops,V',rk',rel',q',a,b,c.tail ?_,dd⟩;exact Xm rfl aw T λ bo e=>by cases e;exact f
   |makeM ht hM hD k=>
    obtain⟨r',f,k⟩:=k;obtain⟨H,S⟩:=L ht;subst H;subst S;have h2:=h1.makeM Z ht hM hD k;rcases ih r' f h2 Z ab (Qk ..)with h3|⟨ak,w',ops,V',rk',rel',q',a,b,c,dd⟩
    .exact .inl h3
    .refine .inr ⟨ak,w',ops,V',rk',rel',q',a,b,c.tail ?_,dd⟩;exact Xm rfl aw T λ bo e=>by cases e;exact f
   |mu U ht B=>
    rename_i b D x s me lo d
    have H:i≠0:=λ e=>by
     obtain⟨_,_,_,_,_,_,F|F⟩:=aa e
     .rw[ht]at F;cases F
     .rw[ht]at F;cases F
    have S:m=false:=by rw[<- hm];simpa using H
    subst S;obtain⟨u,lp,st,sm,k0,z,hx,rfl,ac,-⟩:=h1.lock (i:=i) (x:=x) (s:=s) (me:=me) (lo:=lo) (by unfold Q2;rw[ht]);obtain⟨g',bs,es,me',st',sm',d',lo',a0,a1,a2,a3,a4,a5,a6,a7,a8,a9,bc,r',f,k⟩:=B (lp (!s)) st sm ac (by rw[<- H6];exact hx.word);exact .inr (MI.mu Fin.running a0 h1 Z T H ht k0 z hx a2 a1 a3 a4 a5 a6.symm a8 a9 bc f k).nx
   |mblk U ho ht be bf=>
    rename_i b D x s lo d
    have H:i≠0:=λ e=>by
     obtain⟨_,_,_,_,_,_,F|F⟩:=aa e
     .rw[ht]at F;cases F
     .rw[ht]at F;cases F
    have S:m=false:=by rw[<- hm];simpa using H
    subst S;have ad:(V (.run i)).tok=⟨d,.wrk b D,some (.lok x s .wai lo)⟩:=hs.1.symm.trans ht;obtain⟨u,lp,st,sm,k0,z,hx,K,ac,-⟩:=h.lock (i:=i) (x:=x) (s:=s) (me:=.wai) (lo:=lo) (by unfold Q2;rw[ad]);have hw:=hx.word;rw[H6 _ s,<- K]at hw
    have ae:sm=0\/(st=2/\sm=1/\lp (!s)=.fin):=by
     revert hw
     cases lp (!s)with
     |own v=>cases v <;> simp[LP.word] <;> omega
     |_=>simp[LP.word] <;> omega
    rcases ae with rfl|⟨rfl,rfl,hq⟩
    .obtain⟨bs,E,B⟩:=be (Zc st);have bn:MI P t N (Fin P Q) (some i) gs w tr V rk rel q:={ h with live:=λ j r _ T=>h.live j r S1 T };exact .inr (bn.mblk Z ab ho T H ad k0 z hx B E (by rw[show(i==0)=false by simpa using H]at al;exact al)).nx
    .obtain⟨u,lp,st,sm,k0,z,hx',K,ac,-⟩:=h1.lock (i:=i) (x:=x) (s:=s) (me:=.wai) (lo:=lo) (by unfold Q2;rw[ht]);have e2:some (Obj.cells #[Zc 2,Qp 1] x.t (0,0))=some (Obj.cells #[Zc st,Qp sm] x.t (0,0)):=hx.sh.symm.trans hx'.sh
     have e3:st=2/\sm=1:=by
      simp[Zc,Qp]at e2;omega
     obtain⟨rfl,rfl⟩:=e3;have ba:=hx'.word;rw[H6 _ s,<- K]at ba
     have ay:lp (!s)=.fin:=by
      revert ba
      cases lp (!s)with
      |own v=>cases v <;> simp[LP.word]
      |_=>simp[LP.word]
     obtain⟨g',bs,E,B,r',f,k⟩:=bf;rw[K]at ht;refine .inr (MI.mu (me':=.wok) (lo':=2) (st':=2) (sm':=0) Fin.running (by rw[ay];exact Nat.le_refl _) h1 Z T H ht k0 z hx' B E (by rw[ay];rfl) (by rw[<- K];exact Nat.le_refl _) (by rw[<- K];rfl) (by rw[<- K];rfl) (by intro e Y;simp at Y;rcases Y with rfl|rfl|rfl|rfl <;> first|exact .inl rfl|exact .inr ⟨1,_,O1,rfl⟩) rfl (.inr (.inl rfl)) f k).nx
   |macq U ht E B k=>
    rename_i b D x s lo bs g'
    have H:i≠0:=λ e=>by
     obtain⟨_,_,_,_,_,_,F|F⟩:=aa e
     .rw[ht]at F;cases F
     .rw[ht]at F;cases F
    have S:m=false:=by rw[<- hm];simpa using H
    subst S;obtain⟨u,lp,st,sm,k0,z,hx,K,ac,-⟩:=h1.lock (i:=i) (x:=x) (s:=s) (me:=.got) (lo:=lo) (by unfold Q2;rw[ht]);have hw:=hx.word;rw[H6 _ s,<- K]at hw;have bj:=(LP.word_own hw).2;have X:=hx.dep' (by rw[S_ _ s,<- K,bj];rfl)
    have X:x.sp (if s then(lp (!s)).rels else false) (if s then false else(lp (!s)).rels) (V1 .lck).M:=by
     unfold QW.dep at X;cases s
     .rw[<- K]at X;exact X
     .rw[<- K]at X;exact X
    obtain⟨r',f,k⟩:=k _ _ X;rw[K]at ht;exact .inr (h1.macq Fin.running Z T H ht K.symm ac k0 z hx B E f k).nx
   |mrel U ht E hM hD B k=>
    rename_i b D x s lo v bs g' M₁ M₂
    have H:i≠0:=λ e=>by
     obtain⟨_,_,_,_,_,_,F|F⟩:=aa e
     .rw[ht]at F;cases F
     .rw[ht]at F;cases F
    have S:m=false:=by rw[<- hm];simpa using H
    subst S;obtain⟨u,lp,st,sm,k0,z,hx,K,ac,-⟩:=h1.lock (i:=i) (x:=x) (s:=s) (me:=.own v) (lo:=lo) (by unfold Q2;rw[ht]);obtain⟨r',f,k⟩:=k;rw[K]at ht;exact .inr (h1.mrel Fin.running Z T H ht K.symm ac k0 z hx hM hD B E f k).nx
   |go U ht B hf hp hc an k k'=>
    obtain⟨br,s1,k⟩:=k;obtain⟨bt,s2,k'⟩:=k';obtain⟨H,S⟩:=L ht;subst H;subst S;obtain⟨z,W,c,wt,s,I,G⟩:=par rfl ht;exact .inr (h1.start Fin.running Z T ht z I G B hf hp hc an s1 s2 k k').nx
   |lay U ht an hD E B k=>
    obtain⟨n,k⟩:=k
    have H:i≠0:=by
     intro e;subst e;obtain⟨_,_,_,_,_,_,F|F⟩:=aa rfl
     .rw[ht]at F;cases F
     .rw[ht]at F;cases F
    have S:m=false:=by rw[<- hm];simpa using H
    subst S;exact .inr (h1.lay Fin.running Z T H ht an hD B E k).nx
end
section
variable{P:Program}{t:TypeId}{N:Nat}{gs:Array Gr}{w:World}{tr:Trace}{V:Hd->Qa Tk}{rk:Nat->Option Tr}{rel:Nat->Option Nat}{q:Nat->Nat}{sl:Option (Nat×Nat)}{Q:Value->Qa Tk->Prop}
def Sh.at{b:Nat}{st sm:Value}(h:Sh b t st sm w)(d:Nat):Sh b t st sm (w.at d):=h
def MI.at{ex:Option Nat}{Stop:QI Tk}(h:MI P t N Stop ex gs w tr V rk rel q)(d:Nat):MI P t N Stop ex gs (w.at d) tr V rk rel q:=by
 refine⟨h.live,h.root,h.gone,h.tail,h.above,h.bare,h.wk,h.wk',h.deaf,h.deps,h.vi.heap rfl,h.ti,?_,h.mux.at (λ _=>rfl) rfl (λ _ hm _=>hm) (λ _ _ _ _ _ x=>x) (λ j x s me lo y _ hy z=>⟨y,hy,z⟩),h.bareM⟩;have f:=h.grp;unfold QH at f ⊢
 revert f
 cases(V (.run 0)).tok.ph with
 |par b ds pend k=>exact λ f=>f
 |_=>exact λ f=>f
def MI.status(h:MI P t N (Fin P Q) none gs w tr V rk rel q){i:Nat}{g:Gr}(z:gs[i]?=some g):g.status=.running\/g.status=.blocked\/g.status=.finished:=by
 cases B:rk i with
 |some r=>
  obtain⟨F,G,f⟩:=h.live i r S1 B;have:=G.running Fin.running;rcases f with f|⟨f,_⟩
  .rw[z]at f;cases f;exact .inl this
  .rw[z]at f;cases f;exact .inr (.inl rfl)
 |none=>
  by_cases E:(V (.run i)).tok.ph=.out
  .exact(h.gone i g B z E).status.elim .inl λ x=>.inr (.inr x)
  .obtain⟨x,b,hx,_,ht⟩:=h.tail i B E;rw[z]at hx;cases hx;exact .inl ht.running
def MI.someone(h:MI P t N (Fin P Q) none gs w tr V rk rel q):∃(i:Nat)(g:Gr),gs[i]?=some g/\g.status=.running:=by
 have lck:∀i r g,rk i=some r->i≠0->gs[i]?=some g->g.status≠.running->∃(i:Nat)(g:Gr),gs[i]?=some g/\g.status=.running:=by
  intro i r g hr E K L;obtain⟨ai,X,z⟩:=h.live i r S1 hr;have B:=X.running Fin.running;rcases z with z|⟨z,_,hb⟩
  .rw[K]at z;cases z;exact absurd B L
  .rcases hb with⟨e,_⟩|⟨d,b,D,x,s,lo,ht⟩
   .exact absurd e E
   .have hk:Q2 V i=some (.lok x s .wai lo):=by unfold Q2;rw[ht]
    obtain⟨u,lp,st,sm,k0,af,hx,aa,aj,-⟩:=h.lock hk;have ac:=hx.slp i _ _ _ _ g hk K L;have hw:=hx.word;rw[H6 _ s,<- aa,ac]at hw
    have hq:lp (!s)≠.fin/\lp (!s)≠.idle/\lp (!s)≠.wai:=by
     refine⟨λ e=>?_,λ e=>?_,λ e=>?_⟩ <;> (rw[e]at hw;simp[LP.word]at hw)
    have hu:u (!s)=true:=by
     cases hu:u (!s)with
     |true=>rfl
     |false=>exact absurd (hx.idle _ hu) hq.2.1
    rcases hx.who _ hu with h1|⟨j,me,lo',e⟩
    .exact absurd h1 hq.1
    .have T:j≠0:=λ T=>by subst T;rw[k0]at e;cases e
     have ab:rk j≠none:=λ hn=>by rw[h.bareM j hn]at e;cases e
     obtain⟨ae,M⟩:=Option.ne_none_iff_exists'.1 ab;obtain⟨U,H,f⟩:=h.live j ae S1 M;have G:=H.running Fin.running;rcases f with f|⟨f,_,I⟩
     .exact⟨j,U,f,G⟩
     .exfalso;rcases I with⟨e',_⟩|⟨d',b',D',x',s',ag,S⟩
      .exact T e'
      .unfold Q2 at e;rw[S]at e;cases e;have:=(hx.tk j _ _ _ _ (show Q2 V j=_ by unfold Q2;rw[S])).2.1;exact hq.2.2 this.symm
 obtain⟨r,hr⟩:=Option.ne_none_iff_exists'.1 h.root;obtain⟨g,X,z⟩:=h.live 0 r S1 hr;have B:=X.running Fin.running;rcases z with z|⟨z,_,hb⟩
 .exact⟨0,g,z,B⟩
 .rcases hb with⟨-,b,ds,mu,ht⟩|⟨d,b,D,x,s,lo,ht⟩
  rotate_left
  .have hG:=h.grp;unfold QH at hG;rw[ht]at hG;exact hG.elim
  obtain⟨ah,pend,k,e,_,W,c,wt,s,_,Z,h4⟩:=h.par' (b:=b) (by rw[ht];rfl);rw[ht]at e;cases e;have hs:=h4 _ z S1;subst hs;obtain⟨i,K⟩:=Z.someone;have E:i≠0:=λ e=>K (by simp[Z1,e]);have hp:(V (.run i)).tok.ph≠.out:=by simpa[Z1,E]using K
  cases F:rk i with
  |some r'=>
   obtain⟨x,Y,hx⟩:=h.live i r' S1 F;rcases hx with hx|⟨hx,_⟩
   .exact⟨i,x,hx,Y.running Fin.running⟩
   .exact lck i r' _ F E hx S1
  |none=>
   obtain⟨x,b',hx,_,ad⟩:=h.tail i F hp;exact⟨i,x,hx,ad.running⟩
def MI.move(h:MI P t N (Fin P Q) none gs w tr V rk rel q) :
  (∃o w' ops,stepT P (crowd gs w sl)=(.ended o w',ops)/\Conc.Good P (λ v W'=>∃U,Q v U/\U.ok W'/\JZ w.os W'.os/\W'.output=w.output) (crowd gs w sl) o w' (tr++ops)) \/
  (∃f w' B ops V' rk' rel' q',stepT P (crowd gs w sl)=(.next (crowd f w' B),ops)/\Relation.TransGen JA (QD f rk' q') (QD gs rk q)/\MI P t N (Fin P Q) none f w' (tr++ops) V' rk' rel' q'/\JZ w.os w'.os/\w'.output=w.output):=by
 have ac:∀g∈gs,awake g:=by
  intro g hg;obtain⟨i,L,rfl⟩:=Array.mem_iff_getElem.1 hg;intro tm e;rcases h.status (Array.getElem?_eq_getElem L)with x|x|x <;> rw[e]at x <;> cases x
 obtain⟨i,g,d,B,L,G,Y⟩:=crowd_pick (P:=P) (w:=w) (sl:=sl) ac h.someone;have hd:=h.at d
 have fin:Nx P t N (Fin P Q) gs (w.at d) B tr (QD gs rk q) i->∃f w' B ops V' rk' rel' q',stepT P (crowd gs w sl)=(Stepped.next (crowd f w' B),ops)/\Relation.TransGen JA (QD f rk' q') (QD gs rk q)/\MI P t N (Fin P Q) none f w' (tr++ops) V' rk' rel' q'/\JZ w.os w'.os/\w'.output=w.output:=by
  rintro⟨f,w',ops,V',rk',rel',q',a,b,c,dd⟩;exact⟨f,w',B,ops,V',rk',rel',q',Y.trans a,c,b,dd⟩
 cases hr:rk i with
 |none=>
  by_cases T:(V (.run i)).tok.ph=.out
  .exact .inr (fin (hd.leaver Fin.running L G hr T).nx)
  .exact .inr (fin (hd.tailStep Fin.running L hr T).nx)
 |some r=>
  rcases MI.alive r (sl:=B) hd L G hr with⟨rfl,V',rk',rel',q',F,_,_,H,v,hq,M⟩|hn
  .left;have S:=F.vi.ok (.run 0);obtain⟨es,ah,ad⟩:=M _ S;have hG:=F.grp;unfold QH at hG;rw[H]at hG;obtain⟨K,X⟩:=hG
   have ag:∀j,j≠0->rk' j=none:=by
    intro j E;cases e:rk' j with
    |none=>rfl
    |some r=>
     obtain⟨b,D,e'⟩:=F.wk j E (by rw[e];simp);rw[K j E]at e';cases e'
   obtain⟨rm,aa⟩:=F.ti;have ae:∀b,Jv V'=some b->b<(w.at d).heap.size/\QJ b (V' (.run 0)):=λ b hb=>⟨(F.mux.mb hb).1,(F.mux.mb hb).2.1 _⟩;have Z:TI _ _ _ _ _ _ _ _ _ (tr++MemOp.ofEvents 0 g.frame.fn g.frame.place es):=Lp (fn:=g.frame.fn) (pos:=g.frame.place) aa F.vi (λ b hb=>by rw[H]at hb;cases hb) ae ad (.refl _ _) (.inl rfl)
   have I:∀j,j≠0->Deaf (tr++MemOp.ofEvents 0 g.frame.fn g.frame.place es) j=Deaf tr j:=by
    intro j E;refine Deaf_other tr (Ne.symm E) _ ?_;intro op af;obtain⟨e,_,rfl⟩:=Go.Conc.mem_ofEvents af;rfl
   have W:∀j x,j≠0->gs[j]?=some x->QuitsD P (q' j) (Deaf tr j) x:=λ j x E hx=>F.gone j x (ag j E) hx (K j E);refine⟨.done v,w.at d,_,Y.trans (ConcN.runT_crowd_ended L ah),v,rfl,⟨_,hq,S,.refl _,rfl⟩,Z.clean,?_,⟨?_,rfl⟩,?_⟩
   .intro j x hx hne hc;rcases Z.hand j x hx hne hc with⟨b,D,e⟩|⟨r,e,_⟩|⟨p,z,T,hz,hb⟩
    .by_cases e0:x=0
     .exact absurd e0 hne
     .rw[K x e0]at e;cases e
    .rw[X]at e;cases e
    .refine⟨p,by simp[Trace.g?,T,hz],?_⟩;rcases hb with rfl|hb
     .simp only[Trace.g?,T,Option.map_some,Option.some.injEq]at hx;exact absurd (hx.symm.trans hz) hne
     .exact hb
   .intro x hx;obtain⟨j,E,ab⟩:=mem_iff_getElem.1 hx;rw[getElem_drop]at ab
    have:gs[1+j]?=some x:=by
     rw[<- ab];simp only[crowd]at E ⊢;have:1+j<gs.size:=by simp at E;omega
     simp[this]
    exact⟨_,(W (1+j) x O1 this).leaves⟩
   .intro j x hx E;have:=W j x E hx;refine⟨q' j,?_⟩;have e:(tr++MemOp.ofEvents 0 g.frame.fn g.frame.place es).deaf j (tr++MemOp.ofEvents 0 g.frame.fn g.frame.place es).size=Deaf tr j:=I j E;rw[e];exact this.hears _
  .exact .inr (fin hn)
def EU{f b:Value->World->Prop}{m:Machine}{o:Outcome}{w':World}{w:Trace}(h:Conc.Good P f m o w' w)(z:∀v W',f v W'->b v W'):Conc.Good P b m o w' w:=
 h.elim λ v x=>⟨v,x.1,z v _ x.2.1,x.2.2⟩
def runs(h:MI P t N (Fin P Q) none gs w tr V rk rel q) :
  ∃n last o w' f,runNT P (n+1) (crowd gs w sl) tr=(.ended o w',f)/\runN P n (crowd gs w sl)=.next last/\step P last=.ended o w'/\Conc.Good P (λ v W'=>∃U,Q v U/\U.ok W'/\JZ w.os W'.os/\W'.output=w.output) last o w' f:=by
 have key:∀(μ:List Tr×Nat)gs w sl tr V rk rel q,QD gs rk q=μ->MI P t N (Fin P Q) none gs w tr V rk rel q ->
   ∃n last o w' f,runNT P (n+1) (crowd gs w sl) tr=(.ended o w',f)/\runN P n (crowd gs w sl)=.next last/\step P last=.ended o w'/\Conc.Good P (λ v W'=>∃U,Q v U/\U.ok W'/\JZ w.os W'.os/\W'.output=w.output) last o w' f:=by
  intro μ
  induction μ using(WellFounded.transGen pY).induction with
  |_ μ L=>
   intro gs w sl tr V rk rel q K h;rcases h.move (sl:=sl)with⟨o,w',ops,B,I⟩|⟨E,w',G,ops,V',rk',rel',q',B,h2,H,F,z⟩
   .exact⟨0,crowd gs w sl,o,w',tr++ops,by simp[runNT,B],rfl,by simp[step,B],I⟩
   .obtain⟨n,last,o,w'',f,k1,k2,k3,k4⟩:=L _ (K▸h2) E w' G (tr++ops) V' rk' rel' q' rfl H;exact⟨n+1,last,o,w'',f,by rw[runNT_succ_next B];exact k1,by rw[runN_succ_next B];exact k2,k3,EU k4 λ v W'⟨U,a,b,c,d⟩=>⟨U,a,b,F.trans c,d.trans z⟩⟩
 exact key _ gs w sl tr V rk rel q rfl h
def vM{g:Gr}{U:Qa Tk}{r:Tr}(T:JR (Za P t N) (Fin P Q) r true g U)(L:U.ok w)(z:U.tok=⟨0,.out,none⟩) :
  MI P t N (Fin P Q) none #[g] w #[] (Q1 (λ _=>ZH) (.run 0) U) (Zp (λ _=>none) 0 (some r)) (λ _=>none) (λ _=>0):=by
 have G:Q1 (λ _=>ZH) (.run 0) U (.run 0)=U:=Ql ..;have H:∀j,j≠0->Q1 (λ _=>ZH) (.run 0) U (.run j)=ZH:=λ j W=>Qh _ _ (λ e=>W (Hd.run.inj e));have I:∀k,k≠.run 0->Q1 (λ _=>ZH) (.run 0) U k=ZH:=λ k X=>Qh _ _ X;have V:∀j,Deaf #[] j=0:=λ _=>rfl
 have no:∀i a,touchAt #[] i≠some a:=by
  intro i a h;obtain⟨x,hx,_⟩:=touch_of h;simp at hx
 have B:∀j,Q2 (Q1 (λ _=>ZH) (.run 0) U) j=none:=by
  intro j;unfold Q2;by_cases e:j=0
  .subst e;rw[G,z]
  .rw[H j e];rfl
 have S:Q1 (λ _=>ZH) (.run 0) U .lck=ZH:=I _ S1;refine⟨?_,by rw[Qk];simp,?_,?_,?_,?_,?_,?_,?_,?_,?_,⟨none,?_⟩,?_,⟨λ j x u _ e=>(by rw[B]at e;cases e),by rw[S];rfl,by rw[B];exact⟨B,S⟩⟩,λ j _=>B j⟩
 .intro i r' _ f;by_cases e:i=0
  .subst e;rw[Qk]at f;cases f;exact⟨g,by rw[G];exact T,.inl rfl⟩
  .rw[Qu _ _ e]at f;cases f
 .intro i x f hx _;have e:i≠0:=λ e=>by subst e;rw[Qk]at f;cases f
  rw[Array.getElem?_eq_none S3]at hx;cases hx
 .intro i f hp;have e:i≠0:=λ e=>by subst e;rw[Qk]at f;cases f
  rw[H i e]at hp;exact absurd rfl hp
 .intro i K;simp at K;exact⟨Qu _ _ O1,V i,rfl⟩
 .intro i f;have e:i≠0:=λ e=>by subst e;rw[Qk]at f;cases f
  rw[H i e];exact⟨rfl,rfl⟩
 .intro i h0 f;rw[Qu _ _ h0]at f;exact absurd rfl f
 .intro i E;by_cases e:i=0
  .subst e;rw[Qk];simp
  .rw[H i e]at E;obtain⟨_,_,e⟩:=E;cases e
 .intro i f;by_cases e:i=0
  .subst e;rw[G,z];rfl
  .rw[Qu _ _ e]at f;exact absurd rfl f
 .intro i _;exact I _ S1
 .refine⟨λ k=>?_,λ F M l Y E f=>?_⟩
  .by_cases e:k=.run 0
   .subst e;rw[G];exact L
   .rw[I k e];exact Y6 _ _
  .by_cases e:F=.run 0
   .subst e;rw[I M (Ne.symm Y)]at f;exact Wg _ _ f
   .rw[I F e]at E;exact Wh _ _ E
 .refine⟨λ said=>?_,λ k i a h=>absurd h (no i a),λ op h=>by simp at h,λ i a h=>?_,λ i a h=>absurd h (no i a),λ i a h=>absurd h (no i a),λ g r h=>(by cases h),λ i g h=>?_,λ i a h=>absurd h (no i a),λ i a h=>absurd h (no i a),λ r h=>(by cases h)⟩
  .rintro⟨i,j,_,⟨a,b,ha,_⟩,_⟩;exact no i a ha
  .simp[Trace.act?]at h
  .simp[Trace.g?]at h
 .unfold QH;rw[G,z];exact⟨λ i K=>by rw[H i K];rfl,λ _=>rfl⟩
def J.runs{g:Gr}{U:Qa Tk}(f:J (Za P t N) (Fin P Q) true g U)(h:U.ok w)(b:U.tok=⟨0,.out,none⟩) :
  ∃n last o w' z,runNT P (n+1) (solo g w) #[]=(.ended o w',z)/\runN P n (solo g w)=.next last/\step P last=.ended o w'/\Conc.Good P (λ v W'=>∃U,Q v U/\U.ok W'/\JZ w.os W'.os/\W'.output=w.output) last o w' z:=by
 obtain⟨r,f⟩:=f.rank;rw[solo_eq_crowd];exact TM.runs (vM f h b)
end
end Go.TM

