/- Lemmas. No conditions. -/
import Derived.Test.YtajkaognaiglhaaGreatDoorB08
set_option linter.all false
open List
namespace Go.TM
variable{t:TypeId}{N b m c wt i s d d' n wt':Nat}{gs a:Array Gr}{w w' H:World}{V V':Hd->Qa Tk}{rel:Nat->Option Nat}{tr:Trace}{sm sm' st y:Value}{P:Program}{g g':Gr}{Stop:QK Tk}{rk:Nat->Option Tr}{q q':Nat->Nat}{r r' T:Tr}{A:Option Tr}{sl:Option (Nat×Nat)}{ds:List Spec}{pend v:Bool}{k k':PS}{W l:List Nat}{es:Array Event}{bs:List (Nat×Bool)}{p:Option ZL}{p':Ph}{ex:Option Nat}{D:Spec}{U:Qa Tk}{E:Loc}{x:ZA}{me me':LP}{lo lo':Nat×Nat}{u:Nat->Bool}{lp:Nat->LP}{z z':LZ}{M₁ M₂:List Q2}{Q:Value->Qa Tk->Prop}{f e:Value->World->Prop}{B:Machine}{o:Outcome}
section
open Go.Conc
def QI.turn(h:QI t N gs w V rel)(e:∀j,(V' (.run j)).tok=(V (.run j)).tok)(H:∀j,V' (.dep j)=V (.dep j))(F:∀k l,(V' k).canR l->(V k).canR l):QI t N gs w V' rel:=by
 have K:Z5 V'=Z5 V:=by funext j;simp only[Z5,e]
 unfold QI at h ⊢;rw[e 0]
 revert h
 cases(V (.run 0)).tok.ph with
 |out=>simp_all
 |par b ds pend k=>
  rintro⟨f,W,c,wt,s,z,B,E⟩;refine⟨λ j a G L M=>f j a G L (F _ _ M),W,c,wt,s,z,?_,E⟩;simp_all
 |_=>exact λ h=>h
def TI.tok{rel:Nat->Option Nat}{rm:Option Nat}{size:Nat}(h:TI (λ k=>(V k).canW) (λ k=>(V k).canR) rel (V (.run 0)).tok.ph.blk (J0 V) rm (λ i=>i=0\/(V (.run i)).tok.ph≠.out) (λ i=>ZS (V (.run i)).tok.ph) size tr)
  (f:∀j,(V' (.run j)).tok=(V (.run j)).tok) (z:∀k l,(V' k).canW l->(V k).canW l) (w:∀k l,(V' k).canR l->(V k).canR l) :
  TI (λ k=>(V' k).canW) (λ k=>(V' k).canR) rel (V' (.run 0)).tok.ph.blk (J0 V') rm (λ i=>i=0\/(V' (.run i)).tok.ph≠.out) (λ i=>ZS (V' (.run i)).tok.ph) size tr:=by
 have e:J0 V'=J0 V:=by simp only[J0,Q8,f]
 rw[e];simp only[f];exact h.turn z w λ _ h=>h
def Sh.ne{f:TypeId}(h:Sh b t (Jh c wt) sm w)(k:Sh m f (QB N) sm' w):m≠b:=by
 rintro rfl;have e:some (Obj.cells #[Jh c wt,sm] t (0,0))=some (Obj.cells #[QB N,sm'] f (0,0)):=h.symm.trans k;simp[Jh,QB]at e
def Sh.two_other{e:TypeId}(k:Sh m e st sm w)(h:m≠b):Sh m e st sm (TM.two w b t sm' y):=by
 simp_all[Sh,TM.two,Array.getElem?_setIfInBounds_ne,Ne.symm]
def JN.mb(h:JN N gs w V)(f:J0 V=some m):m<w.heap.size/\(∀j,QJ m (V j))/\∃t st sm,Sh m t (QB st) (Zx sm) w:=by
 obtain⟨-,-,B⟩:=h;unfold J0 at f;cases e:Q8 V 0 with
 |none=>rw[e]at f;cases f
 |some mu=>
  rw[e]at f B;cases mu with
  |lok=>exact B.elim
  |par x u=>
   cases f;obtain⟨F,lp,z,E⟩:=B;exact⟨(Array.getElem?_eq_some_iff.1 E.sh).1,F,_,_,_,E.sh⟩
def JN.mb_ne(h:JN N gs w V)(f:Sh b t (Jh c wt) sm w):J0 V≠some b:=λ e=>by
 obtain⟨-,-,_,_,_,k⟩:=h.mb e;exact f.ne k rfl
def JN.step(h:JN N gs w V)(L:gs[i]?=some g)(E:∀x s me lo,Q8 V i=some (.lok x s me lo)->g'.status=.running)(M:∀i,Q8 V' i=Q8 V i)(Q:V' .lck=V .lck)
  (B:∀m,(∀j,QJ m (V j))->m<w.heap.size->∀j,QJ m (V' j)) (G:∀m t st sm,(∀j,QJ m (V j))->Sh m t (QB st) (Zx sm) w->Sh m t (QB st) (Zx sm) w'):JN N (behind P gs i g g' H) w' V':=by
 refine h.at M Q B G λ j x s me lo y e F f=>?_;by_cases I:j=i
 .subst I;rw[Wp L]at F;grind
 .rw[J9 I]at F;obtain⟨z,S,rfl⟩:=Option.map_eq_some_iff.1 F;exact⟨z,S,λ K=>f (by rw[Wh K];exact K)⟩
def MI.shift{i:Nat}{r:Tr}{B:Qa Tk}(h:MI P t N Stop none gs w tr V rk rel q)(W:rk i=some r)(K:Q1 (V (.run i)) B):MI P t N Stop (some i) gs w tr (Q7 V (.run i) B) rk rel q:=by
 have F:∀j,j≠i->Q7 V (.run i) B (.run j)=V (.run j):=λ j f=>Qg _ _ (by simp_all)
 have z:∀j,(Q7 V (.run i) B (.run j)).tok=(V (.run j)).tok:=by
  intro j;by_cases e:j=i
  .subst e;rw[Qj];exact K.1
  .rw[F j e]
 have L:∀j,Q7 V (.run i) B (.dep j)=V (.dep j):=λ j=>Qg _ _ S1;obtain⟨U,X,G⟩:=K.2 w (h.vi.ok (.run i))
 have M:∀k l,(Q7 V (.run i) B k).canW l->(V k).canW l:=by
  intro k l E;by_cases e:k=.run i
  .subst e;rw[Qj]at E;exact X l E
  .rwa [Qg _ _ e]at E
 have H:∀k l,(Q7 V (.run i) B k).canR l->(V k).canR l:=by
  intro k l E;by_cases e:k=.run i
  .subst e;rw[Qj]at E;exact G l E
  .rwa [Qg _ _ e]at E
 refine⟨?_,h.root,?_,?_,h.above,?_,?_,?_,?_,?_,h.vi.shift K,h.ti.imp λ _ x=>x.tok z M H,h.grp.turn z L H,h.mux.at (λ j=>by simp only[Q8,z]) (Qg _ _ S1) (λ m S _ j a Q T G=>S j a Q T (H _ _ G)) (λ _ _ _ _ _ x=>x) (λ j x s me lo y _ Y I=>⟨y,Y,I⟩),λ j f=>by simp only[Q8,z];exact h.bareM j f⟩
 .intro j r' f hr';have e:j≠i:=λ e=>f (by rw[e]);have:=h.live j r' S1 hr';simp_all
 .intro j g f hg hp;rw[z]at hp;exact h.gone j g f hg hp
 .intro j f hp;rw[z]at hp;simp only[z];exact h.tail j f hp
 .intro j f;have e:j≠i:=λ e=>by simp_all
  rw[F j e];exact h.bare j f
 .intro j h0 f;rw[z];exact h.wk j h0 f
 .intro j f;rw[z]at f;exact h.wk' j f
 .intro j f;rw[z];exact h.deaf j f
 .intro j f;rw[L];exact h.deps j f
def JO(P:Program)(t:TypeId)(N:Nat)(Stop:QK Tk)(gs:Array Gr)(w:World)(sl:Option (Nat×Nat))(tr:Trace)(rk:Nat->Option Tr)(q:Nat->Nat)(i:Nat):Prop:=
 ∃e w' ops V' rk' rel' q',runT P (crowd gs w sl) i=(.next (crowd e w' sl),ops)/\MI P t N Stop none e w' (tr++ops) V' rk' rel' q'/\JF (QF e rk' q') (QF gs rk q)/\WE w.os w'.os/\w'.output=w.output
def XB(B:a.size=gs.size)(w:i<gs.size)(z:rk i=some r)(E:∀f,A=some f->Tr.Sub f r):JF (QF a (Q9 rk i A) q') (QF gs rk q):=by
 unfold QF;rw[B];exact JF.cut (MG w z E)
def MI.priv(z:∀m g U,Stop m g U->g.status=.running){i:Nat}{g:Gr}{r:Tr}(h:MI P t N Stop (some i) gs w tr V rk rel q)(Y:gs[i]?=some g)(hr:rk i=some r)
  (hp:G3 P (λ m g U=>∃r',Tr.Sub r' r/\JR (Zj P t N) Stop r' m g U) (i==0) g (V (.run i))):JO P t N Stop gs w sl tr rk q i:=by
 have ad:=(Array.getElem?_eq_some_iff.1 Y).1;obtain⟨hs,hp⟩:=hp;obtain⟨g',w',es,U',ah,X,H,af,G,r',ab,hJ⟩:=hp w (h.vi.ok (.run i))
 have L:deafBehind (Deaf tr i) es=Deaf tr i:=by
  refine deafBehind_still (λ e T=>?_) _;obtain⟨T,_⟩:=X e T;obtain⟨loc,wr,sy⟩:=e;cases loc with
  |mark m=>have T:Mark.still m=true:=T;cases m <;> simp[Mark.still]at T ⊢
  |_=>simp
 have Z:∀j,j≠i->Q7 V (.run i) U' (.run j)=V (.run j):=λ j M=>Qg _ _ (by intro e;cases e;exact M rfl)
 have K:∀j,(Q7 V (.run i) U' (.run j)).tok=(V (.run j)).tok:=by
  intro j;by_cases e:j=i
  .subst e;rw[Qj];exact G
  .rw[Z j e]
 have hd:∀j,Q7 V (.run i) U' (.dep j)=V (.dep j):=λ j=>Qg _ _ S1;have aa:rk i≠none:=by rw[hr];simp
 have ac:i=0\/ZS (V (.run i)).tok.ph:=by
  by_cases e:i=0
  .exact .inl e
  .exact .inr (h.wk i e aa)
 have ae:J0 (Q7 V (.run i) U')=J0 V:=by simp only[J0,Q8,K]
 have F:∀b,(V (.run 0)).tok.ph.blk=some b->b<w.heap.size/\∀j,QJ b (V j):=by
  intro b E;have B:=h.grp;unfold QI at B
  revert B E
  cases(V (.run 0)).tok.ph with
  |out=>intro E;cases E
  |par b' ds pend k=>
   intro E;cases E;rintro⟨Q,W,c,wt,s,h2,_⟩;exact⟨(Array.getElem?_eq_some_iff.1 h2).1,Q⟩
  |_=>intro _ B;exact B.elim
 refine⟨_,w',_,Q7 V (.run i) U',Q9 rk i (some r'),rel,q,runT_crowd_go Y ah,?_,XB Jq ad hr λ ai e=>by cases e;exact ab,H.os,H.output⟩;refine h.go z (V':=Q7 V (.run i) U') (rk':=Q9 rk i (some r')) (rel':=rel) (q':=q) (es:=es) Y Z (λ j M=>Qv _ _ M) (λ _ _=>rfl) (λ _ _=>.inl rfl) ?_ (.inr (.inl (by rw[K]))) ?_ ?_ (λ j M=>by rw[hd];exact h.deps j M) (h.vi.priv H af) ?_ ?_ ?_ (λ e=>by rw[Qf]at e;cases e)
 .by_cases e:i=0
  .subst e;rw[Qf];simp
  .rw[Qv _ _ (Ne.symm e)];exact h.root
 .intro ai e;rw[Qf]at e;cases e;rw[Qj];refine⟨hJ,?_,λ h0=>?_⟩
  .rw[L,G];exact h.deaf i aa
  .rw[G];exact ac.resolve_left h0
 .intro e;rw[Qf]at e;cases e
 .obtain⟨rm,hti⟩:=h.ti;have:=OM (fn:=g.frame.fn) (pos:=g.frame.place) hti h.vi (λ b E=>⟨(F b E).1,(F b E).2 _⟩) (λ b E=>⟨(h.mux.mb E).1,(h.mux.mb E).2.1 _⟩) X H ac;refine⟨rm,?_⟩;rw[ae];simp only[K];exact this
 .have B:=h.grp;unfold QI at B ⊢;rw[K 0];have hk:Z5 (Q7 V (.run i) U')=Z5 V:=by funext j;simp only[Z5,K]
  revert B
  cases ag:(V (.run 0)).tok.ph with
  |out=>exact λ B=>⟨λ j M=>by rw[K];exact B.1 j M,B.2⟩
  |par b ds pend k=>
   rintro⟨Q,W,c,wt,s,h2,h3,h4⟩;obtain⟨aj,_⟩:=F b (by rw[ag];rfl);refine⟨λ j a S ho f=>?_,W,c,wt,s,h2.guar H (Q _),?_,?_⟩
   .by_cases e:j=.run i
    .subst e;rw[Qj]at f;rcases H.cr _ f with f|f
     .exact Q _ a S ho f
     .simp only[Loc.new]at f;omega
    .rw[Qg _ _ e]at f;exact Q _ a S ho f
   .rw[hk];simpa only[hd]using h3
   .intro g0 hg0 hns;by_cases e:i=0
    .subst e;rw[Wp Y]at hg0;cases hg0;exact absurd (hJ.running z) hns
    .rw[J9 (Ne.symm e)]at hg0;obtain⟨y,hy,rfl⟩:=Option.map_eq_some_iff.1 hg0;refine h4 y hy λ I=>hns ?_;rw[Wh I];exact I
  |_=>exact λ B=>B
 .refine h.mux.step Y (λ _ _ _ _ _=>hJ.running z) (λ j=>by simp only[Q8,K]) (Qg _ _ S1) (λ m hm ak j a S ho f=>?_) (λ m t st sm hm hs=>hs.guar H (hm _));by_cases e:j=.run i
  .subst e;rw[Qj]at f;rcases H.cr _ f with f|f
   .exact hm _ a S ho f
   .simp only[Loc.new]at f;omega
  .rw[Qg _ _ e]at f;exact hm _ a S ho f
def QI.woken(E:gs[i]?=some g)(w:i=0->g'.status=.running)(h:∀g,gs[0]?=some g->g.status≠.running->s=0) :
  ∀x,(behind P gs i g g' w')[0]?=some x->x.status≠.running->s=0:=by
 intro x z f;by_cases e:i=0
 .subst e;rw[Wp E]at z;simp_all
 .rw[J9 (Ne.symm e)]at z;obtain⟨y,F,rfl⟩:=Option.map_eq_some_iff.1 z;refine h y F λ B=>f ?_;rw[Wh B];exact B
def MI.leaver(E:∀m g U,Stop m g U->g.status=.running)(h:MI P t N Stop none gs w tr V rk rel q)(G:gs[i]?=some g)(f:g.status=.running)(B:rk i=none)(S:(V (.run i)).tok.ph=.out) :
  JO P t N Stop gs w sl tr rk q i:=by
 have M:=(Array.getElem?_eq_some_iff.1 G).1;have z:i≠0:=λ e=>by subst e;exact h.root B
 have H:=h.gone i g B G S;cases F:q i with
 |zero=>rw[F]at H;rw[H.1]at f;cases f
 |succ n=>
  rw[F]at H;rcases H with⟨hs,_⟩|⟨_,g',es,Q,T,H⟩
  .simp_all
  have I:stepG P (i==0) g w=.go g' w es:=by
   rw[show(i==0)=false by simpa using z];exact T w
  have Z:MI P t N Stop (some i) gs w tr V rk rel q:={ h with live:=λ j r _ B=>h.live j r S1 B };refine⟨_,w,_,V,rk,rel,Q9 q i n,runT_crowd_go G I,?_,D7 (i:=i) Jq M B (λ j L=>Qv _ _ L) (by rw[Qf,F];omega),.refl _,rfl⟩;refine Z.go E (V':=V) (rk':=rk) (rel':=rel) (q':=Q9 q i n) (es:=es) G (λ _ _=>rfl) (λ _ _=>rfl) (λ j L=>Qv _ _ L) (λ _ _=>.inl rfl) h.root (.inl z) (λ r e=>by rw[B]at e;cases e) ?_ h.deps h.vi ?_ ?_ (h.mux.step G (λ x s me lo e=>absurd e ?_) (λ _=>rfl) rfl (λ _ Q _=>Q) λ _ _ _ _ _ x=>x) (h.bareM i)
  .intro _;obtain⟨X,Y⟩:=h.bare i B;have hw:¬ZS (V (.run i)).tok.ph:=by rw[S];rintro⟨b,D,e⟩;cases e
   refine⟨z,X,Y,hw,.inl ⟨S,?_⟩⟩;rw[Qf];exact H
  .exact h.ti.imp λ _ x=>x.dumb λ e he=>Pg (Q e he)
  .have K:=h.grp;unfold QI at K ⊢
   revert K
   cases(V (.run 0)).tok.ph with
   |par b ds pend k=>exact λ⟨h1,W,c,wt,s,h2,h3,h4⟩=>⟨h1,W,c,wt,s,h2,h3,QI.woken G (λ e=>absurd e z) h4⟩
   |_=>exact λ K=>K
  .rw[h.bareM i B];simp
def MI.parent(F:∀m g U,Stop m g U->g.status=.running){z:List Spec}{S:Nat}
  (h:MI P t N Stop (some 0) gs w tr V rk rel q) (X:gs[0]?=some g) (K:rk 0=some r) (B:(V (.run 0)).tok=⟨d,.par b ds pend k,p⟩)
  (H:∀j,QJ b (V j)) (E:Sh b t (Jh c wt) (Zx s) w)
  (am:Q5 P t true g (Jh c wt) (Zx s)=.go g' (Jh n wt') (Zx S) es bs) (ag:Js b bs) (ah:∀e∈es,Kf b true e) (hd:deafBehind d es=d')
  (ai:GI N b z v k' (Z5 V) rel (λ i=>(V (.dep i)).M) W n wt' S) (aa:Tr.Sub r' r) (hJ:JR (Zj P t N) Stop r' true g' ((V (.run 0)).at d' (.par b z v k'))) :
  JO P t N Stop gs w sl tr rk q 0:=by
 have aj:=(Array.getElem?_eq_some_iff.1 X).1;have I:=hJ.running F;have Z:stepG P (0==0) g w=.go g' (two w b t (Jh n wt') (Zx S)) es:=Hj am E ag;have G:∀j,j≠0->Q7 V (.run 0) ((V (.run 0)).at d' (.par b z v k')) (.run j)=V (.run j):=λ j Y=>Qg _ _ (by intro e;cases e;exact Y rfl);have T:∀j,Q7 V (.run 0) ((V (.run 0)).at d' (.par b z v k')) (.dep j)=V (.dep j):=λ j=>Qg _ _ S1
 have Q:∀j,(Q7 V (.run 0) ((V (.run 0)).at d' (.par b z v k')) j).canW=(V j).canW/\(Q7 V (.run 0) ((V (.run 0)).at d' (.par b z v k')) j).canR=(V j).canR:=by
  intro j;by_cases e:j=.run 0
  .subst e;rw[Qj];exact⟨rfl,rfl⟩
  .rw[Qg _ _ e];exact⟨rfl,rfl⟩
 have af:b<w.heap.size:=(Array.getElem?_eq_some_iff.1 E).1;refine⟨_,_,_,Q7 V (.run 0) ((V (.run 0)).at d' (.par b z v k')),Q9 rk 0 (some r'),rel,q,runT_crowd_go X Z,?_,XB Jq aj K λ ao e=>by cases e;exact aa,.refl _,rfl⟩;refine h.go F (rel':=rel) (q':=q) (es:=es) X G (λ j Y=>Qv _ _ Y) (λ _ _=>rfl) (λ _ _=>.inl rfl) (by rw[Qf];simp) (.inr (.inl (by rw[Qj,B];rfl))) ?_ ?_ (λ j Y=>by rw[T];exact h.deps j Y) ?_ ?_ ?_ ?_ (λ e=>by rw[Qf]at e;cases e)
 .intro ao e;rw[Qf]at e;cases e;rw[Qj];refine⟨hJ,?_,λ h0=>absurd rfl h0⟩;rw[h.deaf 0 h.root,B,hd];rfl
 .intro e;rw[Qf]at e;cases e
 .refine⟨λ j=>?_,λ ab ac l hn hw K=>h.vi.sep ab ac l hn (by rw[<- (Q ab).1];exact hw) (by rw[<- (Q ac).2];exact K)⟩;have hv:=(h.vi.two (st':=Jh n wt') (sm':=Zx S) E H).ok;by_cases e:j=.run 0
  .subst e;rw[Qj];exact⟨(hv (.run 0)).imm,(hv (.run 0)).held,(hv (.run 0)).apart,(hv (.run 0)).sep⟩
  .rw[Qg _ _ e];exact hv j
 .obtain⟨rm,hti⟩:=h.ti;rw[B]at hti;have:=Tw (i:=0) (fn:=g.frame.fn) (pos:=g.frame.place) hti af H (.inl rfl) ah (h.mux.mb_ne E) (.inl rfl);refine⟨rm,?_⟩;have ak:J0 (Q7 V (.run 0) ((V (.run 0)).at d' (.par b z v k')))=J0 V:=by simp only[J0,Q8,Qj];rfl
  rw[ak];have e1:(Q7 V (.run 0) ((V (.run 0)).at d' (.par b z v k')) (.run 0)).tok.ph.blk=some b:=by rw[Qj];rfl
  have e2:∀j,j=0\/(Q7 V (.run 0) ((V (.run 0)).at d' (.par b z v k')) (.run j)).tok.ph≠.out↔j=0\/(V (.run j)).tok.ph≠.out:=by
   intro j;by_cases e:j=0
   .simp[e]
   .rw[G j e]
  have e3:∀j,ZS (Q7 V (.run 0) ((V (.run 0)).at d' (.par b z v k')) (.run j)).tok.ph↔ZS (V (.run j)).tok.ph:=by
   intro j;by_cases e:j=0
   .subst e;rw[Qj,B];constructor
    .rintro⟨b,D,e⟩;cases e
    .rintro⟨b,D,e⟩;cases e
   .rw[G j e]
  rw[e1];have ad:=funext λ j=>propext (e2 j);have ae:=funext λ j=>propext (e3 j);rw[ad,ae];have an:(two w b t (Jh n wt') (Zx S)).heap.size=w.heap.size:=by simp[two]
  rw[an];exact this.turn (λ k l hl=>by rw[<- (Q k).1];exact hl) (λ k l hl=>by rw[<- (Q k).2];exact hl) (λ _ x=>x)
 .unfold QI;rw[Qj]
  have hk:Z5 (Q7 V (.run 0) ((V (.run 0)).at d' (.par b z v k')))=Z5 V:=by
   funext j;by_cases e:j=0
   .simp[Z5,e]
   .simp only[Z5,if_neg e,G j e]
  refine⟨λ j a ha ho K=>H j a ha ho (by rw[<- (Q j).2];exact K),W,n,wt',S,E.two,?_,λ x hx al=>?_⟩
  .rw[hk];simpa only[T]using ai
  .rw[Wp X]at hx;cases hx;exact absurd I al
 .refine h.mux.step X (λ _ _ _ _ _=>I) (λ j=>?_) (Qg _ _ S1) (λ m hm _ j a ha ho K=>hm j a ha ho (by rw[<- (Q j).2];exact K)) (λ m t st sm _ hs=>hs.two_other (E.ne hs));by_cases e:j=0
  .subst e;simp only[Q8,Qj];rfl
  .simp only[Q8,G j e]
def MI.par(h:MI P t N Stop none gs w tr V rk rel q){b:Nat}(f:(V (.run 0)).tok.ph.blk=some b) :
  ∃ds pend k,(V (.run 0)).tok.ph=.par b ds pend k/\(∀j,QJ b (V j))/\∃W c wt s,Sh b t (Jh c wt) (Zx s) w/\GI N b ds pend k (Z5 V) rel (λ i=>(V (.dep i)).M) W c wt s/\(∀g,gs[0]?=some g->g.status≠.running->s=0):=by
 have e:=h.grp;unfold QI at e
 revert e f
 cases z:(V (.run 0)).tok.ph with
 |out=>intro f;cases f
 |par B ds pend k=>
  intro f e;cases f;exact⟨ds,pend,k,rfl,e⟩
 |_=>intro _ e;exact e.elim
def MI.tailGo(G:∀m g U,Stop m g U->g.status=.running)
  (h:MI P t N Stop none gs w tr V rk rel q) (Z:gs[i]?=some g) (f:i≠0) (E:rk i=none) (ab:(V (.run i)).tok.ph≠.out) (K:(V (.run 0)).tok.ph=.par b ds pend k)
  (H:∀j,QJ b (V j)) (F:Sh b t (Jh c wt) (Zx s) w) (af:∀g,gs[0]?=some g->g.status≠.running->s=0)
  (ap:Q5 P t false g (Jh c wt) (Zx s)=.go g' (Jh d wt') (Zx d') es bs) (ah:Js b bs) (ai:∀e∈es,Kf b false e) (ao:∀j,tr.size<=j->¬(tr++MemOp.ofEvents i g.frame.fn g.frame.place es).counts j)
  (aj:GI N b ds pend k (Q9 (Z5 V) i p') rel (λ i=>(V (.dep i)).M) W d wt' d') (au:d'=s\/(mayWake P g=true/\(g'.status=.running\/g'.status=.finished)))
  (hq:q i=n+1) (aa:¬ZS p')
  (hk:(p'=.out/\QuitsD P n (deafBehind (Deaf tr i) es) g')\/(p'≠.out/\Tl P t N b n (deafBehind (Deaf tr i) es) p' g')):JO P t N Stop gs w sl tr rk q i:=by
 have al:=(Array.getElem?_eq_some_iff.1 Z).1
 have ad:stepG P (i==0) g w=.go g' (two w b t (Jh d wt') (Zx d')) es:=by
  rw[show(i==0)=false by simpa using f];exact Hj ap F ah
 have h':MI P t N Stop (some i) gs w tr V rk rel q:={ h with live:=λ j r _ E=>h.live j r S1 E };have z:∀j,j≠i->Q7 V (.run i) (Qa.bare ⟨1,p',none⟩) (.run j)=V (.run j):=λ j I=>Qg _ _ (by intro e;cases e;exact I rfl);have X:∀j,Q7 V (.run i) (Qa.bare ⟨1,p',none⟩) (.dep j)=V (.dep j):=λ j=>Qg _ _ S1
 have hW:∀k l,(Q7 V (.run i) (Qa.bare ⟨1,p',none⟩) k).canW l->(V k).canW l:=by
  intro k l S;by_cases e:k=.run i
  .subst e;rw[Qj]at S;exact absurd S (Wo _ _)
  .rwa [Qg _ _ e]at S
 have hR:∀k l,(Q7 V (.run i) (Qa.bare ⟨1,p',none⟩) k).canR l->(V k).canR l:=by
  intro k l S;by_cases e:k=.run i
  .subst e;rw[Qj]at S;exact absurd S (Wn _ _)
  .rwa [Qg _ _ e]at S
 have ag:b<w.heap.size:=(Array.getElem?_eq_some_iff.1 F).1;refine⟨_,_,_,Q7 V (.run i) (Qa.bare ⟨1,p',none⟩),rk,rel,Q9 q i n,runT_crowd_go Z ad,?_,D7 (i:=i) Jq al E (λ j I=>Qv _ _ I) (by rw[Qf,hq];omega),.refl _,rfl⟩;refine h'.go G (rel':=rel) (q':=Q9 q i n) (es:=es) Z z (λ _ _=>rfl) (λ j I=>Qv _ _ I) (λ _ _=>.inl rfl) h.root (.inl f) (λ r e=>by rw[E]at e;cases e) ?_ (λ j I=>by rw[X];exact h.deps j I) ?_ ?_ ?_ ?_ (λ _=>by unfold Q8;rw[Qj];rfl)
 .intro _;rw[Qj,Qf];refine⟨f,rfl,rfl,aa,?_⟩;rcases hk with⟨h1,h2⟩|⟨h1,h2⟩
  .exact .inl ⟨h1,h2⟩
  .exact .inr ⟨h1,b,by rw[K];rfl,h2⟩
 .have hv:=h.vi.two (st':=Jh d wt') (sm':=Zx d') F H;refine⟨λ j=>?_,λ av aw l hn hw E=>hv.sep av aw l hn (hW _ _ hw) (hR _ _ E)⟩;by_cases e:j=.run i
  .subst e;rw[Qj];exact VY _ _
  .rw[Qg _ _ e];exact hv.ok j
 .obtain⟨rm,hti⟩:=h.ti;rw[K]at hti;have:=Tw (i:=i) (fn:=g.frame.fn) (pos:=g.frame.place) hti ag H (.inr ab) (by rw[show(i==0)=false by simpa using f];exact ai) (h.mux.mb_ne F) (.inr (.inr ao));refine⟨rm,?_⟩;have am:J0 (Q7 V (.run i) (Qa.bare ⟨1,p',none⟩))=J0 V:=by simp only[J0,Q8,z 0 (Ne.symm f)]
  rw[am];have aq:(two w b t (Jh d wt') (Zx d')).heap.size=w.heap.size:=by simp[two]
  rw[aq,z 0 (Ne.symm f),K]
  have e3:(λ j=>ZS (Q7 V (.run i) (Qa.bare ⟨1,p',none⟩) (.run j)).tok.ph)=λ j=>ZS (V (.run j)).tok.ph:=by
   funext j;by_cases e:j=i
   .subst e;rw[Qj];refine propext ⟨λ x=>absurd x aa,λ x=>absurd E (h.wk' j x)⟩
   .rw[z j e]
  rw[e3];refine this.turn hW hR ?_;rintro j (rfl|I)
  .exact .inl rfl
  .by_cases e:j=i
   .subst e;exact .inr ab
   .rw[z j e]at I;exact .inr I
 .unfold QI;rw[z 0 (Ne.symm f),K]
  have ak:Z5 (Q7 V (.run i) (Qa.bare ⟨1,p',none⟩))=Q9 (Z5 V) i p':=by
   funext j;by_cases e:j=i
   .subst e;simp only[Z5,if_neg f,Qj,Qf];rfl
   .rw[Qv _ _ e];by_cases e0:j=0
    .simp[Z5,e0]
    .simp only[Z5,if_neg e0,z j e]
  refine⟨λ j a ha ho E=>H j a ha ho (hR _ _ E),W,d,wt',d',F.two,?_,?_⟩
  .rw[ak];simpa only[X]using aj
  .rcases au with rfl|⟨an,ae⟩
   .exact QI.woken Z (λ e=>absurd e f) af
   .intro x hx hns;exfalso;obtain⟨ax,ac⟩:=Option.ne_none_iff_exists'.1 h.root;obtain⟨T,hJ,Y⟩:=h.live 0 ax S1 ac;have B:=hJ.running G;rw[J9 (Ne.symm f)]at hx;rcases Y with Y|⟨Y,ho,_⟩
    .rw[Y,Option.map_some,Wh B]at hx;cases hx;exact hns B
    .rw[Y,Option.map_some]at hx
     have:woken P g g' (two w b t (Jh d wt') (Zx d')) { T with status:=.blocked }=T:=by
      unfold woken;rw[if_pos,again_blocked B ho];rcases ae with e|e <;> rw[e,an] <;> rfl
     rw[this]at hx;cases hx;exact hns B
 .refine h.mux.step Z (λ x s me lo e=>?_) (λ j=>?_) (Qg _ _ S1) (λ m hm _ j a ha ho E=>hm j a ha ho (hR _ _ E)) (λ m t st sm _ hs=>hs.two_other (F.ne hs))
  .rw[h.bareM i E]at e;cases e
  .by_cases e:j=i
   .subst e;rw[h.bareM j E];unfold Q8;rw[Qj];rfl
   .unfold Q8;rw[z j e]
def MI.tailStep(z:∀m g U,Stop m g U->g.status=.running)(h:MI P t N Stop none gs w tr V rk rel q)(hi:gs[i]?=some g)(hr:rk i=none)(hp:(V (.run i)).tok.ph≠.out) :
  JO P t N Stop gs w sl tr rk q i:=by
 have M:i≠0:=λ e=>by subst e;exact h.root hr
 obtain⟨ag,b,hg,hb,ht⟩:=h.tail i hr hp;rw[hi]at hg;cases hg;obtain⟨ds,pend,k,X,H,W,c,wt,s,Y,G,T⟩:=h.par hb;have f:Z5 V i=(V (.run i)).tok.ph:=by simp[Z5,M]
 cases L:q i with
 |zero=>rw[L]at ht;exact ht.elim
 |succ n=>
  rw[L]at ht;obtain⟨af,ht⟩:=ht;have I:∀(es:Array Event),Deaf tr i=1->∀j,(deafBehind 1 (es.extract 0 j)≠0)->deafBehind (Deaf tr i) (es.extract 0 j)≠0:=λ es e j hj=>by rw[e];exact hj
  rcases ht with⟨g',es,bs,hm,F,E,S⟩|⟨Q,Z,E⟩|⟨Q,Z,g',bs,F,E,S⟩|⟨Q,Z,g',bs,F,E,S⟩|⟨Q,Z,ad,g',bs,F,E,S⟩
  .have hup:Q9 (Z5 V) i (V (.run i)).tok.ph=Z5 V:=by funext j;by_cases e:j=i <;> simp[Q9,e,f]
   refine h.tailGo z (p':=(V (.run i)).tok.ph) hi M hr hp X H Y T (E _ _) F (λ e B=>.inl (hm e B)) ?_ (by rw[hup];exact G) (.inl rfl) L (λ x=>absurd hr (h.wk' i x)) (.inr ⟨hp,S⟩);intro j hj hc;obtain⟨x,hx,_⟩:=hc;rcases Jn (t:=tr) hx with⟨ah,_⟩|⟨_,op,ae,ac,_⟩
   .omega
   .obtain⟨e,he',rfl⟩:=Go.Conc.mem_ofEvents ae;rw[(Pg (hm e he')).1]at ac;cases ac
  .rw[Q]at f;obtain⟨h1,h2,h3,rfl⟩:=G.relC f;obtain⟨g',bs,F,E,S⟩:=E c wt h1 h2 h3
   have K:=Vu (tr:=tr) (i:=i) (fn:=g.frame.fn) (pos:=g.frame.place) (b:=b) (es:=#[QA b 0,QD b 0]) (by intro e B;simp at B;rcases B with rfl|rfl <;> exact .inr ⟨_,_,rfl⟩) (by
    intro j hj;refine I _ Z j ?_;have:j=0\/j=1:=by simp at hj;omega
    rcases this with rfl|rfl <;> simp[deafBehind,QA,QD])
   have aa:∀e∈(#[QA b 0,QD b 0]:Array Event),Kf b false e:=by
    intro e B;simp at B;rcases B with rfl|rfl <;> exact .inr (.inl ⟨0,_,O1,rfl⟩)
   by_cases hl:c=1/\wt=1
   .rw[if_pos hl]at S;obtain⟨rfl,rfl⟩:=hl;obtain⟨rfl,ab⟩:=G.last f;exact h.tailGo z (p':=.lst b 0) hi M hr hp X H Y T E F aa K ab (.inl rfl) L (by rintro⟨_,_,e⟩;cases e) (.inr ⟨S1,by rw[Z];exact S⟩)
   .rw[if_neg hl]at S;exact h.tailGo z (p':=.out) hi M hr hp X H Y T E F aa K (G.leave f hl) (.inl rfl) L (by rintro⟨_,_,e⟩;cases e) (.inl ⟨rfl,by rw[Z];exact S⟩)
  .rw[Q]at f;obtain⟨rfl,rfl,rfl,h4,_⟩:=G.lstAt f;obtain rfl:wt=1:=O1
   have K:=Vu (tr:=tr) (i:=i) (fn:=g.frame.fn) (pos:=g.frame.place) (b:=b) (es:=#[QA b 0]) (by intro e B;simp at B;subst B;exact .inr ⟨_,_,rfl⟩) (by
    intro j hj;refine I _ Z j ?_;have:j=0:=by simp at hj;omega
    subst this;simp[deafBehind])
   exact h.tailGo z (p':=.lst b 1) hi M hr hp X H Y T E F (by intro e B;simp at B;subst B;exact .inr (.inl ⟨0,_,O1,rfl⟩)) K (G.next (wt':=1) f (.inl ⟨rfl,rfl⟩)) (.inl rfl) L (by rintro⟨_,_,e⟩;cases e) (.inr ⟨S1,by rw[Z];exact S⟩)
  .rw[Q]at f;obtain⟨rfl,rfl,rfl,h4,_⟩:=G.lstAt f;obtain rfl:wt=1:=O1
   have K:=Vu (tr:=tr) (i:=i) (fn:=g.frame.fn) (pos:=g.frame.place) (b:=b) (es:=#[QD b 0]) (by intro e B;simp at B;subst B;exact .inr ⟨_,_,rfl⟩) (by
    intro j hj;refine I _ Z j ?_;have:j=0:=by simp at hj;omega
    subst this;simp[deafBehind])
   exact h.tailGo z (p':=.lst b 2) hi M hr hp X H Y T E F (by intro e B;simp at B;subst B;exact .inr (.inl ⟨0,_,O1,rfl⟩)) K (G.next (wt':=0) f (.inr ⟨rfl,rfl⟩)) (.inl rfl) L (by rintro⟨_,_,e⟩;cases e) (.inr ⟨S1,by rw[Z];exact S⟩)
  .rw[Q]at f;obtain⟨rfl,rfl,rfl,h4,_⟩:=G.lstAt f;obtain rfl:wt=0:=O1
   have K:=Vu (tr:=tr) (i:=i) (fn:=g.frame.fn) (pos:=g.frame.place) (b:=b) (es:=#[Wj .disable,QA b 1,QD b 1,Wj .enable]) (by intro e B;simp at B;rcases B with rfl|rfl|rfl|rfl <;> first|exact .inl rfl|exact .inr ⟨_,_,rfl⟩) (by
    intro j hj;refine I _ Z j ?_;have:j=0\/j=1\/j=2\/j=3:=by simp at hj;omega
    rcases this with rfl|rfl|rfl|rfl <;> simp[deafBehind,QA,QD,Wj])
   exact h.tailGo z (p':=.out) hi M hr hp X H Y T E F (by intro e B;simp at B;rcases B with rfl|rfl|rfl|rfl <;> first|exact .inl rfl|exact .inr (.inl ⟨1,_,O1,rfl⟩)) K (G.wake f) (.inr ⟨ad,S.status⟩) L (by rintro⟨_,_,e⟩;cases e) (.inl ⟨rfl,by rw[Z];exact S⟩)
def MI.par'(h:MI P t N Stop ex gs w tr V rk rel q)(f:(V (.run 0)).tok.ph.blk=some b) :
  ∃ds pend k,(V (.run 0)).tok.ph=.par b ds pend k/\(∀j,QJ b (V j))/\∃W c wt s,Sh b t (Jh c wt) (Zx s) w/\GI N b ds pend k (Z5 V) rel (λ i=>(V (.dep i)).M) W c wt s/\(∀g,gs[0]?=some g->g.status≠.running->s=0):=by
 have e:=h.grp;unfold QI at e
 revert e f
 cases z:(V (.run 0)).tok.ph with
 |out=>intro f;cases f
 |par B ds pend k=>intro f e;cases f;exact⟨ds,pend,k,rfl,e⟩
 |_=>intro _ e;exact e.elim
def BX(z:gs[i]?=some g)(B:g'.status=.blocked):behind P gs i g g' w=gs.setIfInBounds i g':=by
 have f:=(Array.getElem?_eq_some_iff.1 z).1;apply Array.ext_getElem?;intro j;by_cases e:j=i
 .subst e;rw[Wp z];simp[f]
 .rw[J9 e,Array.getElem?_setIfInBounds_ne (Ne.symm e)];cases E:gs[j]? with
  |none=>rfl
  |some x=>
   simp only[Option.map_some];unfold woken;simp[B]
def MI.sleep(h:MI P t N Stop (some i) gs w tr V rk rel q)(K:gs[i]?=some g)(H:g.status=.running)(X:g.offers=none)
  (T:rk i=some r) (Q:Ou i (V (.run i)).tok) (I:stepG P (i==0) g w=.go { g with status:=.blocked } w #[]) (W:JR (Zj P t N) Stop r (i==0) g (V (.run i)))
  (B:QI t N (gs.setIfInBounds i { g with status:=.blocked }) w V rel) (F:JN N (gs.setIfInBounds i { g with status:=.blocked }) w V):JO P t N Stop gs w sl tr rk q i:=by
 have S:=(Array.getElem?_eq_some_iff.1 K).1;have G:rk i≠none:=by rw[T];simp
 have E:behind P gs i g { g with status:=.blocked } w=gs.setIfInBounds i { g with status:=.blocked }:=BX K rfl;refine⟨_,_,_,V,rk,rel,q,runT_crowd_go K I,?_,?_,.refl _,rfl⟩
 .have e1:tr++MemOp.ofEvents i g.frame.fn g.frame.place #[]=tr:=by rw[ofEvents_eq];simp
  show MI P t N Stop none (behind P gs i g { g with status:=.blocked } w) w _ V rk rel q;rw[E,e1];have z:∀j,j≠i->(gs.setIfInBounds i { g with status:=.blocked })[j]?=gs[j]?:=λ j f=>Array.getElem?_setIfInBounds_ne (Ne.symm f);refine⟨?_,h.root,?_,?_,?_,h.bare,h.wk,h.wk',h.deaf,h.deps,h.vi,h.ti,B,F,h.bareM⟩
  .intro j r'' _ hr'';by_cases e:j=i
   .subst e;rw[T]at hr'';cases hr'';exact⟨g,W,.inr ⟨by simp[S],X,Q⟩⟩
   .obtain⟨g_1,L,M⟩:=h.live j r'' (λ e'=>e (Option.some.inj e').symm) hr'';refine⟨g_1,L,?_⟩;rw[z j e];exact M
  .intro j x f hx hp;have e:j≠i:=λ e=>by subst e;exact G f
   rw[z j e]at hx;exact h.gone j x f hx hp
  .intro j f hp;have e:j≠i:=λ e=>by subst e;exact G f
   obtain⟨x,U,L,M⟩:=h.tail j f hp;exact⟨x,U,by rw[z j e];exact L,M⟩
  .intro j f;exact h.above j (by simpa using f)
 .show JF (QF (behind P gs i g { g with status:=.blocked } w) rk q) (QF gs rk q);rw[E];exact Cy K H rfl
def JN.sleep(h:JN N gs w V)(G:gs[i]?=some g)(F:∀x s me lo,Q8 V i≠some (.lok x s me lo)):JN N (gs.setIfInBounds i g') w V:=by
 refine h.at (λ _=>rfl) rfl (λ _ E _=>E) (λ _ _ _ _ _ x=>x) λ j x s me lo y e z f=>?_;have B:j≠i:=λ e'=>by subst e';exact F _ _ _ _ e
 rw[Array.getElem?_setIfInBounds_ne (Ne.symm B)]at z;exact⟨y,z,f⟩
def MI.block(h:MI P t N Stop (some 0) gs w tr V rk rel q)(K:gs[0]?=some g)(E:g.status=.running)(Q:g.offers=none)
  (S:rk 0=some r) (f:(V (.run 0)).tok=⟨1,.par b ds false .wait,p⟩) (B:∀j,QJ b (V j))   (z:Sh b t (Jh c wt) (Zx 0) w) (H:GI N b ds false .wait (Z5 V) rel (λ i=>(V (.dep i)).M) W c wt 0)
  (I:Q5 P t true g (Jh c wt) (Zx 0)=.blocked { g with status:=.blocked } (Jh c wt) (Zx 0) bs) (G:Js b bs) (L:JR (Zj P t N) Stop r true g (V (.run 0))):JO P t N Stop gs w sl tr rk q 0:=by
 have F:stepG P (0==0) g w=.go { g with status:=.blocked } w #[]:=by
  have:=S7 I z G
  rwa [z.two_same]at this
 refine h.sleep K E Q S (.inl ⟨rfl,b,ds,p,f⟩) F L ?_ (h.mux.sleep K λ x s me lo e=>?_)
 .unfold QI;rw[f];exact⟨B,W,c,wt,0,z,H,λ _ _ _=>rfl⟩
 .have h3:=h.mux.2.2;rw[e]at h3;exact h3.elim
def MI.calm(E:∀m g U,Stop m g U->g.status=.running)(h:MI P t N Stop (some i) gs w tr V rk rel q)(I:gs[i]?=some g)(hr:rk i=some r)(f:i≠0)(hb:(V (.run i)).tok.ph.blk=some b)
  (ab:∀st sm,Q5 P t false g st sm=.go g' st sm #[] bs) (Z:Js b bs) (Q:Tr.Sub T r) (hJ:JR (Zj P t N) Stop T false g' (V (.run i))):JO P t N Stop gs w sl tr rk q i:=by
 have aa:=(Array.getElem?_eq_some_iff.1 I).1;have L:rk i≠none:=by rw[hr];simp
 have F:=h.wk i f L;have S:Z5 V i=(V (.run i)).tok.ph:=by simp[Z5,f]
 have B:=h.grp;unfold QI at B;cases z:(V (.run 0)).tok.ph with
 |out=>rw[z]at B;have:=B.1 i f;rw[this]at F;obtain⟨_,_,e⟩:=F;cases e
 |wrk _ _=>simp_all
 |rel _=>simp_all
 |lst _ _=>simp_all
 |par b' ds pend k=>
  rw[z]at B;obtain⟨K,W,c,wt,s,G,H,X⟩:=B
  have Y:b'=b:=by
   obtain⟨ad,D,e⟩:=F;rw[e]at hb;cases hb;rw[e]at S;rcases H.ph i with e'|⟨D',e'⟩|e'|⟨j,e'⟩ <;> rw[S]at e' <;> cases e';rfl
  subst Y
  have M:stepG P (i==0) g w=.go g' w #[]:=by
   rw[show(i==0)=false by simpa using f];have:=Hj (ab (Jh c wt) (Zx s)) G Z
   rwa [G.two_same]at this
  refine⟨_,_,_,V,Q9 rk i (some T),rel,q,runT_crowd_go I M,?_,XB Jq aa hr λ ac e=>by cases e;exact Q,.refl _,rfl⟩;refine h.go E (V':=V) (rk':=Q9 rk i (some T)) (rel':=rel) (q':=q) (es:=#[]) I (λ _ _=>rfl) (λ j hj=>Qv _ _ hj) (λ _ _=>rfl) (λ _ _=>.inl rfl) (by rw[Qv _ _ (Ne.symm f)];exact h.root) (.inl f) ?_ ?_ h.deps h.vi ?_ ?_ (h.mux.step I (λ _ _ _ _ _=>hJ.running E) (λ _=>rfl) rfl (λ _ hm _=>hm) λ _ _ _ _ _ x=>x) (λ e=>by rw[Qf]at e;cases e)
  .intro ac e;rw[Qf]at e;cases e;refine⟨by grind,?_,λ _=>F⟩;rw[deafBehind_nil];exact h.deaf i L
  .intro e;rw[Qf]at e;cases e
  .exact h.ti.imp λ _ x=>x.dumb λ e he=>by simp at he
  .unfold QI;rw[z];exact⟨K,W,c,wt,s,G,H,QI.woken I (λ e=>absurd e f) X⟩
def MI.lay(ab:∀m g U,Stop m g U->g.status=.running)(h:MI P t N Stop (some i) gs w tr V rk rel q)(hi:gs[i]?=some g)(hr:rk i=some r)(f:i≠0)
   (I:(V (.run i)).tok=⟨0,.wrk b D,p⟩) (aw:p=none\/∃x s lo,p=some (.lok x s .fin lo)) (hD:D (V (.run i)).M) (az:∀st sm,Q5 P t false g st sm=.go g' st sm #[Wj (.releaseMerge ⟨b,0,none⟩)] bs) (ap:Js b bs) (hT:Tl P t N b n 0 (.rel b) g'):JO P t N Stop gs w sl tr rk q i:=by
 have au:=(Array.getElem?_eq_some_iff.1 hi).1;have ay:rk i≠none:=by rw[hr];simp
 have ak:Z5 V i=.wrk b D:=by simp[Z5,f,I]
 have af:Deaf tr i=0:=by rw[h.deaf i ay,I]
 have S:=h.grp;unfold QI at S;cases H:(V (.run 0)).tok.ph with
 |out=>rw[H]at S;have:=S.1 i f;rw[I]at this;cases this
 |wrk _ _=>rw[H]at S;exact S.elim
 |rel _=>rw[H]at S;exact S.elim
 |lst _ _=>rw[H]at S;exact S.elim
 |par K ds pend k=>
  rw[H]at S;obtain⟨aa,W,c,wt,s,Y,ag,am⟩:=S
  have an:K=b:=by
   rcases ag.ph i with e'|⟨D',e'⟩|e'|⟨j,e'⟩ <;> rw[ak]at e' <;> cases e';rfl
  subst an
  have aj:stepG P (i==0) g w=.go g' w #[Wj (.releaseMerge ⟨K,0,none⟩)]:=by
   rw[show(i==0)=false by simpa using f];have:=Hj (az (Jh c wt) (Zx s)) Y ap
   rwa [Y.two_same]at this
  obtain⟨ah,ai⟩:=ag.rel_ (r:=tr.size) ak hD;have ao:K<w.heap.size:=(Array.getElem?_eq_some_iff.1 Y).1
  let F:=Q7 (Q7 V (.run i) (Qa.bare ⟨0,.rel K,none⟩)) (.dep i) ⟨λ _=>none,(V (.run i)).M,⟨0,.out,none⟩⟩
  have v1:F (.run i)=Qa.bare ⟨0,.rel K,none⟩:=by show Q7 _ _ _ _=_;rw[Qg _ _ S1,Qj]
  have T:∀j,j≠i->F (.run j)=V (.run j):=λ j B=>by show Q7 _ _ _ _=_;rw[Qg _ _ S1,Qg _ _ (by intro e;cases e;exact B rfl)]
  have v3:F (.dep i)=⟨λ _=>none,(V (.run i)).M,⟨0,.out,none⟩⟩:=Qj ..;have v4:∀j,j≠i->F (.dep j)=V (.dep j):=λ j B=>by show Q7 _ _ _ _=_;rw[Qg _ _ (by intro e;cases e;exact B rfl),Qg _ _ S1]
  have v5:F .lck=V .lck:=by show Q7 _ _ _ _=_;rw[Qg _ _ S1,Qg _ _ S1]
  have ac:=LS (V (.run i)) (⟨0,.rel K,none⟩:Tk) ⟨0,.out,none⟩;have a0:VI F w:=h.vi.fork ac S1
  have hW:∀k l,(F k).canW l->(V k).canW l/\k≠.dep i\/(k=.dep i/\(V (.run i)).canW l):=by
   intro k l E;cases k with
   |run j=>
    by_cases e:j=i
    .subst e;rw[v1]at E;exact absurd E (Wo _ _)
    .rw[T j e]at E;exact .inl ⟨E,S1⟩
   |dep j=>
    by_cases e:j=i
    .subst e;rw[v3]at E;exact .inr ⟨rfl,ac.wc l E⟩
    .rw[v4 j e]at E;exact .inl ⟨E,by intro e';cases e';exact e rfl⟩
   |lck=>rw[v5]at E;exact .inl ⟨E,S1⟩
  have hR:∀k l,(F k).canR l->(V k).canR l/\k≠.dep i\/(k=.dep i/\(V (.run i)).canR l):=by
   intro k l E;cases k with
   |run j=>
    by_cases e:j=i
    .subst e;rw[v1]at E;exact absurd E (Wn _ _)
    .rw[T j e]at E;exact .inl ⟨E,S1⟩
   |dep j=>
    by_cases e:j=i
    .subst e;rw[v3]at E;exact .inr ⟨rfl,ac.rc l E⟩
    .rw[v4 j e]at E;exact .inl ⟨E,by intro e';cases e';exact e rfl⟩
   |lck=>rw[v5]at E;exact .inl ⟨E,S1⟩
  refine⟨_,_,_,F,Q9 rk i none,Q9 rel i (some tr.size),Q9 q i n,runT_crowd_go hi aj,?_,XB Jq au hr λ a3 e=>(by cases e),.refl _,rfl⟩
  have e0:MemOp.ofEvents i g.frame.fn g.frame.place #[Wj (.releaseMerge ⟨K,0,none⟩)]=#[{ g:=i,fn:=g.frame.fn,pos:=g.frame.place,act:=.mark (.releaseMerge ⟨K,0,none⟩) }]:=by
   rw[ofEvents_eq];simp[Wj,MemAct.ofEvent]
  refine h.go ab (V':=F) (rk':=Q9 rk i none) (rel':=Q9 rel i (some tr.size)) (q':=Q9 q i n) (es:=#[Wj (.releaseMerge ⟨K,0,none⟩)]) hi T (λ j B=>Qv _ _ B) (λ j B=>Qv _ _ B) (λ j B=>.inl (Qv _ _ B)) (by rw[Qv _ _ (Ne.symm f)];exact h.root) (.inl f) ?_ ?_ ?_ a0 ?_ ?_ ?_ (λ _=>by unfold Q8;rw[v1];rfl)
  .intro a3 e;rw[Qf]at e;cases e
  .intro _;rw[v1,Qf,af];refine⟨f,rfl,rfl,?_,.inr ⟨λ e=>(by cases e),K,by rw[H];rfl,hT⟩⟩;rintro⟨_,_,e⟩;cases e
  .intro j B;have e:j≠i:=λ e=>by subst e;rw[Qf]at B;cases B
   rw[Qv _ _ e]at B;rw[v4 j e];exact h.deps j B
  .obtain⟨rm,hti⟩:=h.ti;have av:J0 F=J0 V:=by simp only[J0,Q8,T 0 (Ne.symm f)]
   refine⟨rm,?_⟩;rw[T 0 (Ne.symm f),e0,av]
   have:=hti.release (W':=λ k=>(F k).canW) (R':=λ k=>(F k).canR) (wk':=λ j=>ZS (F (.run j)).tok.ph) (rel':=Q9 rel i (some tr.size)) (y:={ g:=i,fn:=g.frame.fn,pos:=g.frame.place,act:=.mark (.releaseMerge ⟨K,0,none⟩) }) (b:=K) (by rw[H];rfl) rfl ao af ai (λ k=>by simp[Q9]) hW hR (λ k hk=>by
    by_cases e:k=i
    .exact .inr e
    .left;rw[T k e];exact hk)
   refine this.turn (λ _ _ h=>h) (λ _ _ h=>h) ?_;rintro j (rfl|B)
   .exact .inl rfl
   .by_cases e:j=i
    .subst e;right;rw[I];simp
    .rw[T j e]at B;exact .inr B
  .unfold QI;rw[T 0 (Ne.symm f),H]
   have aq:Z5 F=Q9 (Z5 V) i (.rel K):=by
    funext j;by_cases e:j=i
    .subst e;simp only[Z5,if_neg f,v1,Qf];rfl
    .rw[Qv _ _ e];by_cases e0:j=0
     .simp[Z5,e0]
     .simp only[Z5,if_neg e0,T j e]
   have al:(λ j=>(F (.dep j)).M)=Q9 (λ j=>(V (.dep j)).M) i (V (.run i)).M:=by
    funext j;by_cases e:j=i
    .subst e;rw[v3,Qf]
    .rw[v4 j e,Qv _ _ e]
   refine⟨λ j a ha ho ae=>?_,W,c,wt,s,Y,by rw[aq,al];exact ah,QI.woken hi (λ e=>absurd e f) am⟩;rcases hR _ _ ae with⟨X,_⟩|⟨_,X⟩
   .exact aa _ a ha ho X
   .exact aa _ a ha ho X
  .have hmk:∀j,j≠i->Q8 F j=Q8 V j:=λ j B=>by unfold Q8;rw[T j B]
   have Q:Q8 F i=none:=by unfold Q8;rw[v1];rfl
   have Z:Q8 V i=p:=by unfold Q8;rw[I]
   have ad:∀m,(∀j,QJ m (V j))->∀j,QJ m (F j):=λ m hm j a ha ho ae=>by
    rcases hR _ _ ae with⟨X,_⟩|⟨_,X⟩
    .exact hm _ a ha ho X
    .exact hm _ a ha ho X
   obtain⟨g1,g2,g3⟩:=h.mux;refine⟨λ j x u B e=>?_,by rw[v5];exact g2,?_⟩
   .by_cases G:j=i
    .subst G;rw[Q]at e;cases e
    .rw[hmk j G]at e;exact g1 j x u B e
   .rw[hmk 0 (Ne.symm f)]
    revert g3
    cases e0:Q8 V 0 with
    |none=>
     rintro⟨g3,L⟩;refine⟨λ j=>?_,by rw[v5];exact L⟩;by_cases G:j=i
     .subst G;exact Q
     .rw[hmk j G];exact g3 j
    |some m0=>
     cases m0 with
     |lok=>exact λ x=>x
     |par x u=>
      rintro⟨g3,lp,zz,L⟩;refine⟨ad _ g3,lp,zz,⟨L.sh,L.inv,λ j x' s me lo e=>?_,λ j k s a4 a1 l₁ a5 a2 l₂ e e'=>?_,λ s hs=>?_,L.idle,λ e=>by rw[v5];exact L.dep e,λ e=>by rw[v5];exact L.dep' e,λ j x' s me lo y e hy ax=>?_,L.ownR⟩⟩
      .by_cases G:j=i
       .subst G;rw[Q]at e;cases e
       .rw[hmk j G]at e;exact L.tk j x' s me lo e
      .by_cases G:j=i
       .subst G;rw[Q]at e;cases e
       .by_cases ek:k=i
        .subst ek;rw[Q]at e';cases e'
        .rw[hmk j G]at e;rw[hmk k ek]at e';exact L.one j k s a4 a1 l₁ a5 a2 l₂ e e'
      .rcases L.who s hs with X|⟨j,me,lo,e⟩
       .exact .inl X
       .by_cases G:j=i
        .subst G;rw[Z]at e;rcases aw with rfl|⟨x',s',lo',rfl⟩
         .cases e
         .cases e;exact .inl (L.tk j _ _ _ _ Z).2.1.symm
        .exact .inr ⟨j,me,lo,by rw[hmk j G];exact e⟩
      .have G:j≠i:=λ G=>by subst G;rw[Q]at e;cases e
       rw[hmk j G]at e;rw[J9 G]at hy;obtain⟨z,hz,rfl⟩:=Option.map_eq_some_iff.1 hy;exact L.slp j x' s me lo z e hz λ hr=>ax (by rw[Wh hr];exact hr)
def WK(V:Hd->Qa Tk)(l:List Nat):Hd->Qa Tk
 |.run j=>if j=0 then(V (.run 0)).with (l.map λ i=>(V (.dep i)).M).flatten else V (.run j)
 |.dep j=>if j∈l then ZN else V (.dep j)
 |.lck=>V .lck
def VI.joinAll{w:World}:∀{l:List Nat}{V:Hd->Qa Tk},l.Nodup->VI V w->VI (WK V l) w
 |[],V,_,h=>by
  have:WK V []=V:=by
   funext k;cases k with
   |run j=>
    simp_all[WK,Qa.with]
   |dep j=>simp[WK]
   |lck=>rfl
  rw[this];exact h
 |i::l,V,B,h=>by
  obtain⟨H,B⟩:=nodup_cons.1 B;have F:=h.join (k:=.run 0) (k':=.dep i) S1 (⟨0,.out,none⟩:Tk);have G:=VI.joinAll B F
  have e:WK (Q7 (Q7 V (.run 0) ((V (.run 0)).with (V (.dep i)).M)) (.dep i) (Qa.bare ⟨0,.out,none⟩)) l=WK V (i::l):=by
   funext k;cases k with
   |run j=>
    simp only[WK]
    have I:(l.map λ f=>(Q7 (Q7 V (.run 0) ((V (.run 0)).with (V (.dep i)).M)) (.dep i) (Qa.bare (⟨0,.out,none⟩:Tk)) (.dep f)).M)=l.map λ f=>(V (.dep f)).M:=by
     refine map_congr_left λ f z=>?_;have E:f≠i:=λ e=>H (e▸z);rw[Qg _ _ (by simp_all),Qg _ _ S1]
    rw[I];split
    .rename_i e;rw[Qg _ _ S1,Qj];simp[Qa.with]
    .rename_i e;rw[Qg _ _ S1,Qg _ _ (by simp_all)]
   |dep j=>
    simp only[WK];by_cases e:j=i
    .subst e;rw[Qj];simp[ZN]
    .rw[Qg _ _ (by simp_all),Qg _ _ S1];simp[e]
   |lck=>simp only[WK];rw[Qg _ _ S1,Qg _ _ S1]
  rw[<- e];exact G
def Dj:((U.with (l.map λ i=>(V (.dep i)).M).flatten).canW E->U.canW E\/∃i∈l,(V (.dep i)).canW E)/\((U.with (l.map λ i=>(V (.dep i)).M).flatten).canR E->U.canR E\/∃i∈l,(V (.dep i)).canR E):=by
 have key:∀r,r∈U.M++(l.map λ i=>(V (.dep i)).M).flatten->r.lets E->U.canW E\/∃i∈l,(V (.dep i)).canW E:=by
  intro r e f;rcases mem_append.1 e with e|e
  .exact .inl (Za.2 ⟨r,e,f⟩)
  .obtain⟨M,hM,hrM⟩:=mem_flatten.1 e;obtain⟨i,w,rfl⟩:=mem_map.1 hM;exact .inr ⟨i,w,Za.2 ⟨r,hrM,f⟩⟩
 refine⟨λ h=>?_,λ h=>?_⟩
 .obtain⟨r,e,f⟩:=Za.1 h;exact key r e f
 .rcases Q3.1 h with⟨r,e,f⟩|h
  .exact(key r e f).imp Zw λ⟨i,w,h⟩=>⟨i,w,Zw h⟩
  .exact .inl (Q3.2 (.inr h))
def OG(w:U.I=λ _=>none)(f:U.M=[])(l:Loc):¬U.canW l/\¬U.canR l:=by
 have z:¬U.canW l:=λ h=>by obtain⟨r,e,_⟩:=Za.1 h;rw[f]at e;cases e
 refine⟨z,λ h=>?_⟩;rcases Q3.1 h with⟨r,e,_⟩|h
 .rw[f]at e;cases e
 .cases l <;> simp[w]at h
def MI.take(L:∀m g U,Stop m g U->g.status=.running)(h:MI P t N Stop (some 0) gs w tr V rk rel q)(Q:gs[0]?=some g)(hr:rk 0=some r)
  (G:(V (.run 0)).tok=⟨0,.par b ds false .up,p⟩)   (S:Sh b t (Jh c wt) (Zx s) w) (H:GI N b ds false .up (Z5 V) rel (λ i=>(V (.dep i)).M) W c wt s)
  (ai:∀st sm,Q5 P t true g st sm=.go g' st sm #[Wj (.acquire ⟨b,0,none⟩)] bs) (af:Js b bs)
  (hJ:∀Ms,XL ds Ms->∃r',Tr.Sub r' r/\JR (Zj P t N) Stop r' true g' { (V (.run 0))with M:=((V (.run 0)).M++Ms.flatten)++(V .lck).M,tok:=⟨0,.out,none⟩ }):JO P t N Stop gs w sl tr rk q 0:=by
 have ag:=(Array.getElem?_eq_some_iff.1 Q).1;obtain⟨-,-,-,-,Y,E⟩:=H.up;obtain⟨r',aa,hJ⟩:=hJ _ H.deps;have I:∀j,j≠0->(V (.run j)).tok.ph=.out:=λ j B=>by have:=Y j;simpa[Z5,B]using this
 have F:∀j,j≠0->rk j=none:=by
  intro j B;cases e:rk j with
  |none=>rfl
  |some r=>
   obtain⟨b,D,e'⟩:=h.wk j B (by rw[e];simp);rw[I j B]at e';cases e'
 have T:Deaf tr 0=0:=by rw[h.deaf 0 h.root,G]
 have Z:stepG P (0==0) g w=.go g' w #[Wj (.acquire ⟨b,0,none⟩)]:=by
  have:=Hj (ai (Jh c wt) (Zx s)) S af
  rwa [S.two_same]at this
 have ae:b<w.heap.size:=(Array.getElem?_eq_some_iff.1 S).1
 let K:Hd->Qa Tk:=Q7 (Q7 (WK V W) (.run 0) ((WK V W (.run 0)).with (WK V W .lck).M)) .lck (Qa.bare ⟨0,.out,none⟩)
 have z0:K (.run 0)=((V (.run 0)).with (W.map λ i=>(V (.dep i)).M).flatten).with (V .lck).M:=by show Q7 _ _ _ _=_;rw[Qg _ _ S1,Qj];simp[WK]
 let z:Hd->Qa Tk:=Q7 K (.run 0) { K (.run 0)with tok:=⟨0,.out,none⟩ }
 have v0:z (.run 0)={ (V (.run 0))with M:=((V (.run 0)).M++(W.map λ i=>(V (.dep i)).M).flatten)++(V .lck).M,tok:=⟨0,.out,none⟩ }:=by show Q7 _ _ _ _=_;rw[Qj,z0];rfl
 have v2:∀j,j≠0->z (.run j)=V (.run j):=λ j B=>by show Q7 _ _ _ _=_;rw[Qg _ _ (by intro e;cases e;exact B rfl)];show Q7 _ _ _ _=_;rw[Qg _ _ S1,Qg _ _ (by intro e;cases e;exact B rfl)];simp[WK,B]
 have vm:z .lck=ZN:=by show Q7 _ _ _ _=_;rw[Qg _ _ S1];exact Qj ..
 have vd:∀j,z (.dep j)=ZN:=by
  intro j;show Q7 _ _ _ _=_;rw[Qg _ _ S1];show Q7 _ _ _ _=_;rw[Qg _ _ S1,Qg _ _ S1];simp only[WK];split
  .rfl
  .rename_i B;refine h.deps j ?_;cases e:rel j with
   |none=>rfl
   |some x=>exact absurd (H.inW j (.inr (by rw[e];simp))) B
 have aj:VI z w:=by
  have:=(VI.joinAll H.nodup h.vi).join (k:=.run 0) (k':=.lck) S1 (⟨0,.out,none⟩:Tk)
  have hs:∀k,(z k).canW=(K k).canW/\(z k).canR=(K k).canR:=by
   intro k;by_cases e:k=.run 0
   .subst e;rw[show z (.run 0)=_ from Qj ..];exact⟨rfl,rfl⟩
   .rw[show z k=_ from Qg _ _ e];exact⟨rfl,rfl⟩
  refine⟨λ k=>?_,λ ac ad l X hw hr=>this.sep ac ad l X (by rw[<- (hs ac).1];exact hw) (by rw[<- (hs ad).2];exact hr)⟩;by_cases e:k=.run 0
  .subst e;rw[show z (.run 0)=_ from Qj ..];have:=this.ok (.run 0);exact⟨this.imm,this.held,this.apart,this.sep⟩
  .rw[show z k=_ from Qg _ _ e];exact this.ok k
 have ab:∀l,((z (.run 0)).canW l->(K (.run 0)).canW l)/\((z (.run 0)).canR l->(K (.run 0)).canR l):=λ l=>by
  rw[show z (.run 0)=_ from Qj ..];exact⟨λ x=>x,λ x=>x⟩
 have hW:∀k l,(z k).canW l->k=.run 0/\((V (.run 0)).canW l\/(∃g r,rel g=some r/\(V (.dep g)).canW l)\/(V .lck).canW l):=by
  intro k l f;cases k with
  |run j=>
   by_cases e:j=0
   .subst e;have f:=(ab l).1 f;rw[z0]at f;refine⟨rfl,?_⟩;rcases Yl (τ:=V .lck) f with f|f
    .refine(Dj.1 f).imp id λ⟨i,Q,h⟩=>?_;obtain⟨x,hx⟩:=E i Q;exact .inl ⟨i,x,hx,h⟩
    .exact .inr (.inr f)
   .rw[v2 j e]at f;obtain⟨b1,b2⟩:=h.bare j (F j e);exact absurd f (OG b1 b2 l).1
  |dep j=>rw[vd]at f;exact absurd f (Wo _ _)
  |lck=>rw[vm]at f;exact absurd f (Wo _ _)
 have hR:∀k l,(z k).canR l->k=.run 0/\((V (.run 0)).canR l\/(∃g r,rel g=some r/\(V (.dep g)).canR l)\/(V .lck).canR l):=by
  intro k l f;cases k with
  |run j=>
   by_cases e:j=0
   .subst e;have f:=(ab l).2 f;rw[z0]at f;refine⟨rfl,?_⟩;rcases Yk (τ:=V .lck) f with f|f
    .refine(Dj.2 f).imp id λ⟨i,Q,h⟩=>?_;obtain⟨x,hx⟩:=E i Q;exact .inl ⟨i,x,hx,h⟩
    .exact .inr (.inr f)
   .rw[v2 j e]at f;obtain⟨b1,b2⟩:=h.bare j (F j e);exact absurd f (OG b1 b2 l).2
  |dep j=>rw[vd]at f;exact absurd f (Wn _ _)
  |lck=>rw[vm]at f;exact absurd f (Wn _ _)
 refine⟨_,_,_,z,Q9 rk 0 (some r'),λ _=>none,q,runT_crowd_go Q Z,?_,XB Jq ag hr λ ak e=>by cases e;exact aa,.refl _,rfl⟩
 have e0:MemOp.ofEvents 0 g.frame.fn g.frame.place #[Wj (.acquire ⟨b,0,none⟩)]=#[{ g:=0,fn:=g.frame.fn,pos:=g.frame.place,act:=.mark (.acquire ⟨b,0,none⟩) }]:=by
  rw[ofEvents_eq];simp[Wj,MemAct.ofEvent]
 refine h.go L (V':=z) (rk':=Q9 rk 0 (some r')) (rel':=λ _=>none) (q':=q) (es:=#[Wj (.acquire ⟨b,0,none⟩)]) Q v2 (λ j B=>Qv _ _ B) (λ _ _=>rfl) (λ _ _=>.inr rfl) (by rw[Qf];simp) (.inr (.inr I)) ?_ ?_ (λ j _=>vd j) aj ?_ ?_ ?_ (λ e=>by rw[Qf]at e;cases e)
 .intro ak e;rw[Qf]at e;cases e;rw[v0];refine⟨hJ,?_,λ h0=>absurd rfl h0⟩;rw[T];rfl
 .intro e;rw[Qf]at e;cases e
 .obtain⟨rm,hti⟩:=h.ti;have ah:J0 z=none:=by unfold J0 Q8;rw[v0];rfl
  refine⟨none,?_⟩;rw[e0,v0,ah]
  exact hti.acquire (y:={ g:=0,fn:=g.frame.fn,pos:=g.frame.place,act:=.mark (.acquire ⟨b,0,none⟩) }) (b:=b) (by rw[G];rfl) rfl rfl ae T (λ j=>by
   by_cases e:j=0
   .subst e;rw[G];rintro⟨_,_,e⟩;cases e
   .rw[I j e];rintro⟨_,_,e⟩;cases e) (.inl rfl) hW hR
 .unfold QI;rw[v0];exact⟨λ j B=>by rw[v2 j B];exact I j B,λ _=>rfl⟩
 .have X:∀j,Q8 z j=none:=by
   intro j;by_cases e:j=0
   .subst e;unfold Q8;rw[v0]
   .unfold Q8;rw[v2 j e];exact h.bareM j (F j e)
  refine⟨λ j x u _ e=>(by rw[X]at e;cases e),by rw[vm];rfl,?_⟩;rw[X];exact⟨X,vm⟩
def MI.start(ah:∀m g U,Stop m g U->g.status=.running){g g' cg:Gr}{r ac ad:Tr}{b:Nat}{ds:List Spec}{D:Spec}{Up Uc:Qa Tk}{mu ap mc:Option ZL}(h:MI P t N Stop (some 0) gs w tr V rk rel q)(hi:gs[0]?=some g)(hr:rk 0=some r)
  (I:(V (.run 0)).tok=⟨0,.par b ds true .run,mu⟩) (av:∀j,QJ b (V j)) {W:List Nat} {c wt s:Nat} (bl:Sh b t (Jh c wt) (Zx s) w) (ax:GI N b ds true .run (Z5 V) rel (λ i=>(V (.dep i)).M) W c wt s)
  (bm:Q5 P t true g undef undef=.spawn g' cg #[]) (hf:HV (V (.run 0)) Up Uc) (hp:Up.tok=⟨0,.par b (D::ds) false .run,ap⟩) (hc:Uc.tok=⟨0,.wrk b D,mc⟩) (a0:V5 N mu ap mc)
  (h1:Tr.Sub ac r) (h2:Tr.Sub ad r) (hJ:JR (Zj P t N) Stop ac true g' Up) (ba:JR (Zj P t N) Stop ad false cg Uc):JO P t N Stop gs w sl tr rk q 0:=by
 have az:=(Array.getElem?_eq_some_iff.1 hi).1;have bd:stepG P (0==0) g w=.spawn g' cg w #[]:=BL bm w;obtain⟨a7,a8,a9⟩:=h.above gs.size (Nat.le_refl _);have S:gs.size≠0:=O1
 have aj:(V (.run gs.size)).tok.ph=.out:=by
  apply Classical.byContradiction;intro bj;obtain⟨x,_,K,_⟩:=h.tail gs.size a7 bj;rw[Array.getElem?_eq_none (Nat.le_refl _)]at K;cases K
 have aw:Z5 V gs.size=.out:=by simp[Z5,S,aj]
 have bg:gs.size∉W:=by
  intro hm;obtain⟨j,E,e⟩:=mem_iff_getElem.1 hm;have ay:j<ds.length:=by rw[<- ax.len];exact E
  rcases ax.spec j gs.size ds[j] (by rw[getElem?_eq_getElem E,e]) (getElem?_eq_getElem ay)with⟨x,_⟩|⟨_,⟨x,K⟩,_⟩
  .rw[aw]at x;cases x
  .rw[a9]at K;cases K
 have bb:Deaf tr 0=0:=by rw[h.deaf 0 h.root,I]
 let Q:=Q7 (Q7 V (.run 0) Up) (.run gs.size) Uc
 have v0:Q (.run 0)=Up:=by show Q7 _ _ _ _=_;rw[Qg _ _ (λ e=>S (Hd.run.inj e).symm),Qj]
 have vc:Q (.run gs.size)=Uc:=Qj ..;have Y:∀j,j≠0->j≠gs.size->Q (.run j)=V (.run j):=λ j E ay=>by show Q7 _ _ _ _=_;rw[Qg _ _ (by intro e;cases e;exact ay rfl),Qg _ _ (by intro e;cases e;exact E rfl)]
 have vd:∀j,Q (.dep j)=V (.dep j):=λ j=>by show Q7 _ _ _ _=_;rw[Qg _ _ S1,Qg _ _ S1]
 have vm:Q .lck=V .lck:=by show Q7 _ _ _ _=_;rw[Qg _ _ S1,Qg _ _ S1]
 have bn:VI Q w:=h.vi.fork hf (λ e=>S (Hd.run.inj e).symm)
 have hW:∀k l,(Q k).canW l->(V k).canW l\/(k=.run gs.size/\(V (.run 0)).canW l):=by
  intro k l G;cases k with
  |run j=>
   by_cases e:j=0
   .subst e;rw[v0]at G;exact .inl (hf.wp l G)
   .by_cases e2:j=gs.size
    .subst e2;rw[vc]at G;exact .inr ⟨rfl,hf.wc l G⟩
    .rw[Y j e e2]at G;exact .inl G
  |dep j=>rw[vd]at G;exact .inl G
  |lck=>rw[vm]at G;exact .inl G
 have hR:∀k l,(Q k).canR l->(V k).canR l\/(k=.run gs.size/\(V (.run 0)).canR l):=by
  intro k l G;cases k with
  |run j=>
   by_cases e:j=0
   .subst e;rw[v0]at G;exact .inl (hf.rp l G)
   .by_cases e2:j=gs.size
    .subst e2;rw[vc]at G;exact .inr ⟨rfl,hf.rc l G⟩
    .rw[Y j e e2]at G;exact .inl G
  |dep j=>rw[vd]at G;exact .inl G
  |lck=>rw[vm]at G;exact .inl G
 let y:MemOp:={ g:=0,fn:=g.frame.fn,pos:=g.frame.place,act:=.go gs.size }
 let z:MemOp:={ g:=gs.size,fn:=cg.frame.fn,pos:=g.frame.place,act:=.start }
 have bc:((MemOp.ofEvents 0 g.frame.fn g.frame.place #[]).push y).push z=#[y,z]:=by rw[ofEvents_eq];simp
 have an:∀j,Deaf (tr++#[y,z]) j=Deaf tr j:=by
  intro j;have e:tr++#[y,z]=(tr++#[y])++#[z]:=by apply Array.ext';simp
  rw[e,Deaf_push,Deaf_push];rfl
 have aa:=hJ.running ah;refine⟨_,_,_,Q,Q9 (Q9 rk 0 (some ac)) gs.size (some ad),rel,q,runT_crowd_spawn hi bd,?_,?_,.refl _,rfl⟩
 .show MI P t N Stop none ((gs.setIfInBounds 0 g').push cg) w (tr++((MemOp.ofEvents 0 g.frame.fn g.frame.place #[]).push y).push z) Q _ rel q;rw[bc]
  have bf:∀j x,((gs.setIfInBounds 0 g').push cg)[j]?=some x->(j=0/\x=g')\/(j=gs.size/\x=cg)\/(j≠0/\j≠gs.size/\gs[j]?=some x):=by
   intro j x K;rw[Array.getElem?_push]at K;simp only[Array.size_setIfInBounds]at K;split at K
   .rename_i e;subst e;cases K;exact .inr (.inl ⟨rfl,rfl⟩)
   .rename_i e;by_cases B:j=0
    .subst B;simp[az]at K;exact .inl ⟨rfl,K.symm⟩
    .rw[Array.getElem?_setIfInBounds_ne (Ne.symm B)]at K;exact .inr (.inr ⟨B,e,K⟩)
  have ai:((gs.setIfInBounds 0 g').push cg)[0]?=some g':=by
   rw[Array.getElem?_push];simp[az,Ne.symm S]
  have au:((gs.setIfInBounds 0 g').push cg)[gs.size]?=some cg:=by
   rw[Array.getElem?_push];simp
  have ae:∀j,j≠0->j≠gs.size->((gs.setIfInBounds 0 g').push cg)[j]?=gs[j]?:=by
   intro j h0 h1;rw[Array.getElem?_push];simp only[Array.size_setIfInBounds,if_neg h1];exact Array.getElem?_setIfInBounds_ne (Ne.symm h0)
  have L:∀j,j≠0->j≠gs.size->Q9 (Q9 rk 0 (some ac)) gs.size (some ad) j=rk j:=λ j h0 h1=>by rw[Qv _ _ h1,Qv _ _ h0]
  have F:Q9 (Q9 rk 0 (some ac)) gs.size (some ad) 0=some ac:=by rw[Qv _ _ (Ne.symm S),Qf]
  have H:Q9 (Q9 rk 0 (some ac)) gs.size (some ad) gs.size=some ad:=Qf ..;refine⟨?_,by rw[F];simp,?_,?_,?_,?_,?_,?_,?_,λ j E=>by rw[vd];exact h.deps j E,bn,?_,?_,?_,?_⟩
  .intro j r'' _ hr'';by_cases B:j=0
   .subst B;rw[F]at hr'';cases hr'';exact⟨g',by rw[v0];exact hJ,.inl ai⟩
   .by_cases f:j=gs.size
    .subst f;rw[H]at hr'';cases hr'';exact⟨cg,by rw[vc,show(gs.size==0)=false by simpa using S];exact ba,.inl au⟩
    .rw[L j B f]at hr'';obtain⟨x,k1,k2⟩:=h.live j r'' (λ e'=>B (Option.some.inj e').symm) hr'';refine⟨x,by rw[Y j B f];exact k1,?_⟩;rw[Y j B f,ae j B f];exact k2
  .intro j x E K hp';have B:j≠0:=λ e=>by subst e;rw[F]at E;cases E
   have f:j≠gs.size:=λ e=>by subst e;rw[H]at E;cases E
   rw[L j B f]at E;rw[ae j B f]at K;rw[Y j B f]at hp';rw[an];exact h.gone j x E K hp'
  .intro j E hp';have B:j≠0:=λ e=>by subst e;rw[F]at E;cases E
   have f:j≠gs.size:=λ e=>by subst e;rw[H]at E;cases E
   rw[L j B f]at E;rw[Y j B f]at hp';obtain⟨x,b',k1,k2,k3⟩:=h.tail j E hp';refine⟨x,b',by rw[ae j B f];exact k1,?_,by rw[an,Y j B f];exact k3⟩;rw[v0,hp];rw[I]at k2;exact k2
  .intro j E;simp at E;rw[L j O1 O1,an];exact h.above j O1
  .intro j E;have B:j≠0:=λ e=>by subst e;rw[F]at E;cases E
   have f:j≠gs.size:=λ e=>by subst e;rw[H]at E;cases E
   rw[L j B f]at E;rw[Y j B f];exact h.bare j E
  .intro j h0 E;by_cases f:j=gs.size
   .subst f;rw[vc,hc];exact⟨b,D,rfl⟩
   .rw[L j h0 f]at E;rw[Y j h0 f];exact h.wk j h0 E
  .intro j E;by_cases B:j=0
   .subst B;rw[F];simp
   .by_cases f:j=gs.size
    .subst f;rw[H];simp
    .rw[Y j B f]at E;rw[L j B f];exact h.wk' j E
  .intro j E;rw[an];by_cases B:j=0
   .subst B;rw[v0,hp,bb]
   .by_cases f:j=gs.size
    .subst f;rw[vc,hc,a8]
    .rw[L j B f]at E;rw[Y j B f];exact h.deaf j E
  .obtain⟨rm,hti⟩:=h.ti;rw[I]at hti
   have bi:J0 Q=J0 V:=by
    unfold J0 Q8;rw[v0,hp,I];rcases a0 with⟨rfl,_⟩|⟨x,u,s,rfl,_,_,rfl,_⟩ <;> rfl
   refine⟨rm,?_⟩;rw[bi,v0,hp];refine hti.fork (y:=y) (z:=z) (c:=gs.size) rfl rfl rfl rfl bb a8 S ?_ ?_ hW hR
   .rintro j (rfl|E)
    .exact .inl (.inl rfl)
    .by_cases B:j=0
     .exact .inl (.inl B)
     .by_cases f:j=gs.size
      .exact .inr ⟨f,.inl rfl⟩
      .rw[Y j B f]at E;exact .inl (.inr E)
   .intro j E;by_cases B:j=0
    .subst B;rw[I]at E;obtain⟨_,_,e⟩:=E;cases e
    .by_cases f:j=gs.size
     .subst f;rw[aj]at E;obtain⟨_,_,e⟩:=E;cases e
     .rw[Y j B f];exact E
  .unfold QI;rw[v0,hp]
   have bh:Z5 Q=Q9 (Z5 V) gs.size (.wrk b D):=by
    funext j;by_cases f:j=gs.size
    .subst f;simp only[Z5,if_neg S,vc,hc,Qf]
    .rw[Qv _ _ f];by_cases B:j=0
     .simp[Z5,B]
     .simp only[Z5,if_neg B,Y j B f]
   refine⟨λ j a ha ho a6=>?_,gs.size::W,c,wt,s,bl,?_,λ x K T=>?_⟩
   .rcases hR _ _ a6 with k1|⟨_,k1⟩
    .exact av _ a ha ho k1
    .exact av _ a ha ho k1
   .rw[bh];simp only[vd];exact ax.go aw a9 bg
   .rw[ai]at K;cases K;exact absurd aa T
  .have hk0:Q8 V 0=mu:=by unfold Q8;rw[I]
   have af:Q8 Q 0=ap:=by unfold Q8;rw[v0,hp]
   have ak:Q8 Q gs.size=mc:=by unfold Q8;rw[vc,hc]
   have al:Q8 V gs.size=none:=h.bareM _ a7;have ag:∀j,j≠0->j≠gs.size->Q8 Q j=Q8 V j:=λ j B f=>by unfold Q8;rw[Y j B f]
   have am:∀m,(∀j,QJ m (V j))->∀j,QJ m (Q j):=λ m hm j a ha ho a6=>by
    rcases hR _ _ a6 with h1|⟨_,h1⟩
    .exact hm _ a ha ho h1
    .exact hm _ a ha ho h1
   obtain⟨g1,g2,g3⟩:=h.mux;rw[hk0]at g3;refine⟨λ j x u E e=>?_,by rw[vm];exact g2,?_⟩
   .by_cases f:j=gs.size
    .subst f;rw[ak]at e;rcases a0 with⟨_,rfl⟩|⟨x,u,s,_,_,_,_,rfl⟩ <;> cases e
    .rw[ag j E f]at e;exact g1 j x u E e
   .rw[af];rcases a0 with⟨rfl,rfl⟩|⟨x,u,s,rfl,be,bk,rfl,rfl⟩
    .have hk:∀j,Q8 Q j=Q8 V j:=by
      intro j;by_cases B:j=0
      .subst B;rw[hk0,af]
      .by_cases f:j=gs.size
       .subst f;rw[ak,al]
       .exact ag j B f
     cases ap with
     |none=>exact⟨λ j=>by rw[hk];exact g3.1 j,by rw[vm];exact g3.2⟩
     |some m0=>
      cases m0 with
      |lok=>exact g3
      |par x u=>
       obtain⟨g4,lp,zz,Z⟩:=g3;refine⟨am _ g4,lp,zz,Z.at hk vm Z.sh λ j x' s me lo y e hy T=>?_⟩;rcases bf j y hy with⟨rfl,rfl⟩|⟨rfl,rfl⟩|⟨_,_,hz⟩
       .exact absurd aa T
       .rw[al]at e;cases e
       .exact⟨y,hz,T⟩
    .obtain⟨g4,lp,zz,Z⟩:=g3;refine⟨am _ g4,lp,zz,Z.sh,Z.inv,λ j x' X me lo e=>?_,λ j k X aq ao l₁ bp bo l₂ e e'=>?_,λ X ab=>?_,λ X ab=>?_,λ e=>by rw[vm];exact Z.dep e,λ e=>by rw[vm];exact Z.dep' e,λ j x' X me lo y e hy T=>?_,Z.ownR⟩
     .by_cases B:j=0
      .subst B;rw[af]at e;cases e
      .by_cases f:j=gs.size
       .subst f;rw[ak]at e;cases e;exact⟨rfl,(Z.idle _ be).symm,bk,⟨Nat.zero_le _,λ e=>by unfold ZT at e;omega⟩,Qf ..⟩
       .rw[ag j B f]at e;obtain⟨a1,a2,a3,a5,a4⟩:=Z.tk j x' X me lo e;refine⟨a1,a2,a3,a5,?_⟩;by_cases es:X=s
        .subst es;rw[Qf]
        .rw[Qv _ _ es];exact a4
     .have key:∀j aq ao l₁,Q8 Q j=some (.lok aq X ao l₁)->(j=gs.size/\X=s)\/(Q8 V j=some (.lok aq X ao l₁)/\X≠s):=by
       intro j aq ao l₁ e;by_cases B:j=0
       .subst B;rw[af]at e;cases e
       .by_cases f:j=gs.size
        .subst f;rw[ak]at e;cases e;exact .inl ⟨rfl,rfl⟩
        .rw[ag j B f]at e;refine .inr ⟨e,λ es=>?_⟩;have:=(Z.tk j _ _ _ _ e).2.2.2.2;rw[es,be]at this;cases this
      rcases key j _ _ _ e with⟨a1,a2⟩|⟨a1,a2⟩
      .rcases key k _ _ _ e' with⟨b1,b2⟩|⟨b1,b2⟩
       .rw[a1,b1]
       .exact absurd a2 b2
      .rcases key k _ _ _ e' with⟨b1,b2⟩|⟨b1,b2⟩
       .exact absurd b2 a2
       .exact Z.one j k X _ _ _ _ _ _ a1 b1
     .by_cases es:X=s
      .subst es;exact .inr ⟨gs.size,.idle,(0,0),ak⟩
      .rw[Qv _ _ es]at ab;rcases Z.who X ab with h1|⟨j,me,lo,e⟩
       .exact .inl h1
       .refine .inr ⟨j,me,lo,?_⟩;by_cases B:j=0
        .subst B;rw[hk0]at e;cases e
        .by_cases f:j=gs.size
         .subst f;rw[al]at e;cases e
         .rw[ag j B f];exact e
     .by_cases es:X=s
      .subst es;rw[Qf]at ab;cases ab
      .rw[Qv _ _ es]at ab;exact Z.idle X ab
     .by_cases f:j=gs.size
      .subst f;rw[au]at hy;cases hy;exact absurd (ba.running ah) T
      .by_cases B:j=0
       .subst B;rw[ai]at hy;cases hy;exact absurd aa T
       .rw[ag j B f]at e;rw[ae j B f]at hy;exact Z.slp j x' X me lo y e hy T
  .intro j E;have B:j≠0:=λ e=>by subst e;rw[F]at E;cases E
   have f:j≠gs.size:=λ e=>by subst e;rw[H]at E;cases E
   rw[L j B f]at E;unfold Q8;rw[Y j B f];exact h.bareM j E
 .show JF (QF ((gs.setIfInBounds 0 g').push cg) _ q) (QF gs rk q);unfold QF;have e:((gs.setIfInBounds 0 g').push cg).size=gs.size+1:=S1
  rw[e];exact JF.cut (MH az hr h1 h2)
def MI.inGrp(h:MI P t N Stop ex gs w tr V rk rel q)(B:i≠0)(K:(V (.run i)).tok.ph=.wrk b D) :
  ∃ds pend k,(V (.run 0)).tok.ph=.par b ds pend k/\(∀j,QJ b (V j))/\∃W c wt s,Sh b t (Jh c wt) (Zx s) w/\GI N b ds pend k (Z5 V) rel (λ i=>(V (.dep i)).M) W c wt s/\(∀g,gs[0]?=some g->g.status≠.running->s=0):=by
 have I:Z5 V i=.wrk b D:=by simp[Z5,B,K]
 have e:=h.grp;unfold QI at e;cases f:(V (.run 0)).tok.ph with
 |out=>rw[f]at e;have:=e.1 i B;rw[K]at this;cases this
 |wrk _ _=>rw[f]at e;exact e.elim
 |rel _=>rw[f]at e;exact e.elim
 |lst _ _=>rw[f]at e;exact e.elim
 |par L ds pend k=>
  rw[f]at e;obtain⟨E,W,c,wt,s,H,z,F⟩:=e
  have G:L=b:=by
   rcases z.ph i with e'|⟨Q,e'⟩|e'|⟨j,e'⟩ <;> rw[I]at e' <;> cases e';rfl
  subst G;exact⟨ds,pend,k,rfl,E,W,c,wt,s,H,z,F⟩
def MI.lock(h:MI P t N Stop ex gs w tr V rk rel q)(B:Q8 V i=some (.lok x s me lo)) :
  ∃u lp z,Q8 V 0=some (.par x u)/\(∀j,QJ x.m (V j))/\WP N gs w V x u lp z/\me=lp s/\s<N/\(lo.1<=ZT N lp s/\(lo.1=ZT N lp s->lo.2=z.st))/\u s=true:=by
 obtain⟨-,-,f⟩:=h.mux;cases e:Q8 V 0 with
 |none=>simp_all
 |some G=>
  rw[e]at f;cases G with
  |lok=>exact f.elim
  |par H u=>
   obtain⟨F,lp,z,E⟩:=f;obtain⟨rfl,a2,a3,a4,a5⟩:=E.tk i _ _ _ _ B;grind
def WP.turn(h:WP N gs w V x u lp z)(W:Q8 V i=some (.lok x s (lp s) lo))(K:s<N)
  (I:Q8 V' i=some (.lok x s me' lo')) (G:∀j,j≠i->Q8 V' j=Q8 V j) (Y:Sh x.m x.t (QB z'.st) (Zx z'.f) w') (Z:Tz (lp s) z me' z') (X:lo'.1<=ZT N lp s/\(lo'.1=ZT N lp s->lo'.2=z'.st))
  (hd:LT N (Q9 lp s me') LP.ow≠0->V' .lck=ZN) (U:LT N (Q9 lp s me') LP.ow=0->x.dep (Q9 lp s me') (V' .lck).M)
  (hs:∀j T s me lo g,Q8 V' j=some (.lok T s me lo)->a[j]?=some g->g.status≠.running->z'.f=0) (ho:∀k R,k<N->Q9 lp s me' k=.own R->R=λ j=>(Q9 lp s me' j).rels):WP N a w' V' x u (Q9 lp s me') z':=by
 have Q:=(h.tk i _ _ _ _ W).2.2.2.2;have hg:=Z.gain (h.inv.c_le K)
 have B:∀j T F me lo,j≠i->Q8 V j=some (.lok T F me lo)->F≠s:=by
  intro j T F me lo E e es;subst es;exact E (h.one j i F _ _ _ _ _ _ e W)
 refine⟨Y,h.inv.step K Z,λ j T F me S e=>?_,λ j k F ac aa l₁ ad ab l₂ e e'=>?_,λ F H=>?_,λ F H=>?_,hd,U,hs,ho⟩
 .by_cases E:j=i
  .subst E;rw[I]at e;cases e;refine⟨rfl,(Qf ..).symm,K,?_,Q⟩;rw[LB];exact X
  .rw[G j E]at e;obtain⟨a1,a2,a3,a4,a5⟩:=h.tk j _ _ _ _ e;have es:=B j _ _ _ _ E e;refine⟨a1,by rw[Qv _ _ es];exact a2,a3,?_,a5⟩;have:=Fl (lp:=lp) (N:=N) me' K es;grind
 .by_cases E:j=i
  .grind
  .rw[G j E]at e;by_cases L:k=i
   .grind
   .rw[G k L]at e';exact h.one j k F _ _ _ _ _ _ e e'
 .by_cases es:F=s
  .grind
  .rw[Qv _ _ es];rcases h.who F H with h1|⟨j,me,S,e⟩
   .exact .inl h1
   grind
 .by_cases es:F=s
  .simp_all
  .rw[Qv _ _ es];exact h.idle F H
def Tz.own{me z R z'}(h:Tz me z (.own R) z')(e:me.isOwn=true):me=.own R:=by
 cases h
 .rfl
 .cases e
def WP.ownT(h:WP N gs w V x u lp z)(H:s<N)(G:me'.rels=(lp s).rels)(F:∀R,me'=.own R->lp s=.own R\/R=λ j=>(lp j).rels) :
  ∀k R,k<N->Q9 lp s me' k=.own R->R=λ j=>(Q9 lp s me' j).rels:=by
 intro k R E e
 have:(λ b=>(Q9 lp s me' b).rels)=λ b=>(lp b).rels:=by
  funext b;by_cases e:b=s
  .subst e;rw[Qf];exact G
  .rw[Qv _ _ e]
 rw[this];by_cases B:k=s
 .subst B;rw[Qf]at e;rcases F R e with f|f
  .exact h.ownR k R E f
  .exact f
 .rw[Qv _ _ B]at e;exact h.ownR k R E e
def Ih(x:ZA)(lp:Nat->LP)(s:Nat)(me':LP)(M:List Q2)(h:me'.rels=(lp s).rels):x.dep (Q9 lp s me') M↔x.dep lp M:=by
 have:(λ b=>(Q9 lp s me' b).rels)=λ b=>(lp b).rels:=by
  funext b;by_cases e:b=s
  .subst e;rw[Qf];exact h
  .rw[Qv _ _ e]
 grind[ZA.dep]
def qG(h:me'.isOwn=me.isOwn):me'.ow=me.ow:=by
 revert h
 cases me <;> cases me' <;> simp[LP.isOwn,LP.ow]
def EK(h:me'.isOwn=(lp s).isOwn):LT N (Q9 lp s me') LP.ow=LT N lp LP.ow:=Pn λ j _=>by
 by_cases e:j=s
 .subst e;show LP.ow (Q9 lp j me' j)=_;rw[Qf];exact qG h
 grind[LP.ow,Q9]
def MI.mu(F:∀m g U,Stop m g U->g.status=.running)
  (h:MI P t N Stop (some i) gs w tr V rk rel q) (hi:gs[i]?=some g) (L:rk i=some r) (B:i≠0) (E:(V (.run i)).tok=⟨d,.wrk b D,some (.lok x s (lp s) lo)⟩)
  (h0:Q8 V 0=some (.par x u)) (H:∀j,QJ x.m (V j)) (hx:WP N gs w V x u lp z) (an:s<N)
  (a7:Q5 P x.t false g (QB z.st) (Zx z.f)=.go g' (QB z'.st) (Zx z'.f) es bs) (az:Js x.m bs) (aq:Tz (lp s) z me' z') (ai:lo'.1<=ZT N lp s/\(lo'.1=ZT N lp s->lo'.2=z'.st)) (Z:me'.rels=(lp s).rels) (I:me'.isOwn=(lp s).isOwn)
  (a0:∀e∈es,HW x.m e) (hd:deafBehind d es=d') (Q:z'.f=z.f\/z'.f=0\/mayWake P g=true) (ap:Tr.Sub r' r) (hJ:JR (Zj P t N) Stop r' false g' ((V (.run i)).lk d' b D x s me' lo')) :
  JO P t N Stop gs w sl tr rk q i:=by
 have a2:=(Array.getElem?_eq_some_iff.1 hi).1;have am:rk i≠none:=by rw[L];simp
 have aa:=hJ.running F;have M:=hx.sh;have a3:Q8 V i=some (.lok x s (lp s) lo):=by unfold Q8;rw[E]
 obtain⟨ds,pend,k,ak,ad,W,c,wt,bb,ab,a1,ay⟩:=h.inGrp B (b:=b) (D:=D) (by rw[E])
 have ao:stepG P (i==0) g w=.go g' (two w x.m x.t (QB z'.st) (Zx z'.f)) es:=by
  rw[show(i==0)=false by simpa using B];exact Hj a7 M az
 have ag:b≠x.m:=λ e=>ab.ne M e.symm;generalize hU:(V (.run i)).lk d' b D x s me' lo'=U' at hJ;have X:∀j,j≠i->Q7 V (.run i) U' (.run j)=V (.run j):=λ j S=>Qg _ _ (by simp_all);have ah:∀j,Q7 V (.run i) U' (.dep j)=V (.dep j):=λ j=>Qg _ _ S1;have ac:Q7 V (.run i) U' .lck=V .lck:=Qg _ _ S1
 have hM:∀j,(Q7 V (.run i) U' j).canW=(V j).canW/\(Q7 V (.run i) U' j).canR=(V j).canR:=by
  intro j;by_cases e:j=.run i
  .subst e;rw[Qj,<- hU];exact⟨rfl,rfl⟩
  .rw[Qg _ _ e];simp_all
 have K:∀j,(Q7 V (.run i) U' (.run j)).tok.ph=(V (.run j)).tok.ph:=by
  intro j;by_cases e:j=i
  .subst e;rw[Qj,<- hU,E];rfl
  .rw[X j e]
 have a4:x.m<w.heap.size:=(Array.getElem?_eq_some_iff.1 M).1;have au:=h.wk i B am;have aj:J0 V=some x.m:=by unfold J0;rw[h0];rfl
 refine⟨_,_,_,Q7 V (.run i) U',Q9 rk i (some r'),rel,q,runT_crowd_go hi ao,?_,XB Jq a2 L λ a9 e=>by cases e;exact ap,.refl _,rfl⟩;refine h.go F (rel':=rel) (q':=q) (es:=es) hi X (λ j S=>Qv _ _ S) (λ _ _=>rfl) (λ _ _=>.inl rfl) (by rw[Qv _ _ (Ne.symm B)];exact h.root) (.inl B) ?_ ?_ (λ j S=>by rw[ah];exact h.deps j S) ?_ ?_ ?_ ?_ (λ e=>by rw[Qf]at e;cases e)
 .intro a9 e;rw[Qf]at e;cases e;rw[Qj];refine⟨by grind,?_,λ _=>by rw[<- hU];exact⟨b,D,rfl⟩⟩;rw[h.deaf i am,E,<- hU];exact hd
 .intro e;rw[Qf]at e;cases e
 .refine⟨λ j=>?_,λ aw ax l hn hw L=>h.vi.sep aw ax l hn (by simp_all) (by simp_all)⟩;have hv:=(h.vi.two (st':=QB z'.st) (sm':=Zx z'.f) M H).ok;by_cases e:j=.run i
  .subst e;rw[Qj,<- hU];exact⟨(hv (.run i)).imm,(hv (.run i)).held,(hv (.run i)).apart,(hv (.run i)).sep⟩
  .rw[Qg _ _ e];exact hv j
 .obtain⟨rm,hti⟩:=h.ti;rw[aj]at hti;have:=qt (i:=i) (fn:=g.frame.fn) (pos:=g.frame.place) hti a4 H (.inr (by rw[E];simp)) a0 (by rw[ak];intro e;exact ag (Option.some.inj e)) au;refine⟨rm,?_⟩;simp_all[J0,Q7,Q8,Ne.symm,two,QB,Zx]
 .unfold QI;rw[K 0,ak];have hk:Z5 (Q7 V (.run i) U')=Z5 V:=by funext j;simp only[Z5,K]
  refine⟨λ j a ha ho L=>ad j a ha ho (by rw[<- (hM j).2];exact L),W,c,wt,bb,ab.two_other ag,?_,QI.woken hi (λ e=>absurd e B) ay⟩;simp_all
 .have hmi:Q8 (Q7 V (.run i) U') i=some (.lok x s me' lo'):=by unfold Q8;rw[Qj,<- hU];rfl
  have T:∀j,j≠i->Q8 (Q7 V (.run i) U') j=Q8 V j:=λ j S=>by grind[Q8]
  obtain⟨g1,g2,-⟩:=h.mux;refine⟨λ j x u S e=>?_,by rw[ac];exact g2,?_⟩
  .grind
  rw[T 0 (Ne.symm B),h0];refine⟨λ j a ha ho L=>H j a ha ho (by simp_all),Q9 lp s me',z',hx.turn a3 an hmi T M.two aq ai ?_ ?_ ?_ (hx.ownT an Z λ R e=>.inl (by subst e;exact aq.own I.symm))⟩
  .rw[EK I,ac];exact hx.dep
  .rw[EK I,ac,Ih _ _ _ _ _ Z];exact hx.dep'
  .intro j x' s' me lo1 y e hy hns
   have Y:j≠i:=λ Y=>by
    subst Y;rw[Wp hi]at hy;simp_all
   rw[T j Y]at e;rw[J9 Y]at hy;obtain⟨y0,hz,rfl⟩:=Option.map_eq_some_iff.1 hy;have av:y0.status≠.running:=λ L=>hns (by rw[Wh L];exact L);rcases Q with Q|Q|a5
   .rw[Q];exact hx.slp j _ _ _ _ y0 e hz av
   .exact Q
   .exfalso;have a6:rk j≠none:=λ hn=>by rw[h.bareM j hn]at e;cases e
    obtain⟨ba,al⟩:=Option.ne_none_iff_exists'.1 a6;obtain⟨ae,af,hg⟩:=h.live j ba (λ e'=>Y (Option.some.inj e').symm) al;have G:=af.running F;rcases hg with hg|⟨hg,ho,_⟩
    .simp_all
    .rw[hz]at hg;cases hg;refine hns ?_
     have:woken P g g' (two w x.m x.t (QB z'.st) (Zx z'.f)) { ae with status:=.blocked }=ae:=by
      unfold woken;rw[if_pos,again_blocked G ho];rw[aa,a5];rfl
     rw[this];exact G
def MI.mblk(h:MI P t N Stop (some i) gs w tr V rk rel q) (U:gs[i]?=some g) (F:g.status=.running) (X:g.offers=none) (Y:rk i=some r) (B:i≠0) (H:(V (.run i)).tok=⟨d,.wrk b D,some (.lok x s (.wai c) lo)⟩)
  (S:Q8 V 0=some (.par x u)) (E:∀j,QJ x.m (V j)) (e:WP N gs w V x u lp z) (Q:z.f=0)
  (M:Q5 P x.t false g (QB z.st) (Zx 0)=.blocked { g with status:=.blocked } (QB z.st) (Zx 0) bs) (L:Js x.m bs) (T:JR (Zj P t N) Stop r false g (V (.run i))):JO P t N Stop gs w sl tr rk q i:=by
 have I:Sh x.m x.t (QB z.st) (Zx 0) w:=by have:=e.sh;rwa [Q]at this
 have G:stepG P (i==0) g w=.go { g with status:=.blocked } w #[]:=by
  rw[show(i==0)=false by simpa using B];have:=S7 M I L
  rwa [I.two_same]at this
 have K:∀j,j≠i->(gs.setIfInBounds i { g with status:=.blocked })[j]?=gs[j]?:=λ j W=>Array.getElem?_setIfInBounds_ne (Ne.symm W);refine h.sleep U F X Y (.inr ⟨d,b,D,x,s,c,lo,H⟩) G (by grind) ?_ ?_
 .have hG:=h.grp;simp_all[QI,Ne.symm]
 .obtain⟨g1,g2,-⟩:=h.mux;refine⟨g1,g2,?_⟩;rw[S];exact⟨E,lp,z,e.sh,e.inv,e.tk,e.one,e.who,e.idle,e.dep,e.dep',λ _ _ _ _ _ _ _ _ _=>Q,e.ownR⟩
def MI.macq(H:∀m g U,Stop m g U->g.status=.running){i:Nat}{g g':Gr}{r r':Tr}{b:Nat}{D:Spec}{x:ZA}{s:Nat}{lo:Nat×Nat}{z:LZ}{bs:List (Nat×Bool)}{u:Nat->Bool}{lp:Nat->LP}
  (h:MI P t N Stop (some i) gs w tr V rk rel q) (hi:gs[i]?=some g) (hr:rk i=some r) (E:i≠0) (G:(V (.run i)).tok=⟨0,.wrk b D,some (.lok x s (lp s) lo)⟩) (Z:lp s=.got) (T:s<N) (an:lo.1<=ZT N lp s/\(lo.1=ZT N lp s->lo.2=z.st))
  (h0:Q8 V 0=some (.par x u)) (ac:∀j,QJ x.m (V j)) (hx:WP N gs w V x u lp z)
  (ax:∀st sm,Q5 P x.t false g st sm=.go g' st sm #[Wj (.acquire ⟨x.m,0,none⟩)] bs) (al:Js x.m bs) (ah:Tr.Sub r' r)
  (hJ:JR (Zj P t N) Stop r' false g' { (V (.run i))with M:=(V (.run i)).M++(V .lck).M,tok:=⟨0,.wrk b D,some (.lok x s (.own λ s=>(lp s).rels) lo)⟩ }):JO P t N Stop gs w sl tr rk q i:=by
 have ao:=(Array.getElem?_eq_some_iff.1 hi).1;have ad:rk i≠none:=by rw[hr];simp
 have ae:=hJ.running H;have X:=hx.sh;have aq:Q8 V i=some (.lok x s (lp s) lo):=by unfold Q8;rw[G]
 obtain⟨ds,pend,k,av,aa,W,c,wt,a0,af,am,ak⟩:=h.inGrp E (b:=b) (D:=D) (by rw[G])
 have ag:stepG P (i==0) g w=.go g' w #[Wj (.acquire ⟨x.m,0,none⟩)]:=by
  rw[show(i==0)=false by simpa using E];have:=Hj (ax (QB z.st) (Zx z.f)) X al
  rwa [X.two_same]at this
 have ab:Deaf tr i=0:=by rw[h.deaf i ad,G]
 let V0:Hd->Qa Tk:=Q7 (Q7 V (.run i) ((V (.run i)).with (V .lck).M)) .lck (Qa.bare ⟨0,.out,none⟩)
 have L:VI V0 w:=h.vi.join (k:=.run i) (k':=.lck) S1 _
 let B:Hd->Qa Tk:=Q7 V0 (.run i) { (V (.run i))with M:=(V (.run i)).M++(V .lck).M,tok:=⟨0,.wrk b D,some (.lok x s (.own λ s=>(lp s).rels) lo)⟩ }
 have v1:B (.run i)={ (V (.run i))with M:=(V (.run i)).M++(V .lck).M,tok:=⟨0,.wrk b D,some (.lok x s (.own λ s=>(lp s).rels) lo)⟩ }:=Qj ..;have z1:V0 (.run i)=(V (.run i)).with (V .lck).M:=by show Q7 _ _ _ _=_;rw[Qg _ _ S1,Qj]
 have v2:∀j,j≠i->B (.run j)=V (.run j):=λ j Q=>by show Q7 _ _ _ _=_;rw[Qg _ _ (by simp_all)];show Q7 _ _ _ _=_;rw[Qg _ _ S1,Qg _ _ (by simp_all)]
 have vd:∀j,B (.dep j)=V (.dep j):=λ j=>by show Q7 _ _ _ _=_;rw[Qg _ _ S1];show Q7 _ _ _ _=_;rw[Qg _ _ S1,Qg _ _ S1]
 have vm:B .lck=ZN:=by show Q7 _ _ _ _=_;rw[Qg _ _ S1];exact Qj ..
 have hs:∀k,(B k).canW=(V0 k).canW/\(B k).canR=(V0 k).canR:=by
  intro k;by_cases e:k=.run i
  .subst e;rw[v1,z1];exact⟨rfl,rfl⟩
  .rw[show B k=_ from Qg _ _ e];simp_all
 have ay:VI B w:=by
  refine⟨λ k=>?_,λ ai aj l hn hw hr=>L.sep ai aj l hn (by simp_all) (by simp_all)⟩;by_cases e:k=.run i
  .subst e;rw[v1];have:=L.ok (.run i);rw[z1]at this;exact⟨this.imm,this.held,this.apart,this.sep⟩
  .rw[show B k=_ from Qg _ _ e];exact L.ok k
 have hW:∀k l,(B k).canW l->k≠.lck/\((V k).canW l\/(k=.run i/\(V .lck).canW l)):=by
  intro k l F;cases k with
  |run j=>
   refine⟨S1,?_⟩;by_cases e:j=i
   .subst e;rw[(hs _).1,z1]at F;exact(Yl (τ:=V .lck) F).imp id λ h=>⟨rfl,h⟩
   simp_all
  |dep j=>simp_all
  |lck=>rw[vm]at F;exact absurd F (Wo _ _)
 have hR:∀k l,(B k).canR l->k≠.lck/\((V k).canR l\/(k=.run i/\(V .lck).canR l)):=by
  intro k l F;cases k with
  |run j=>
   refine⟨S1,?_⟩;by_cases e:j=i
   .subst e;rw[(hs _).2,z1]at F;exact(Yk (τ:=V .lck) F).imp id λ h=>⟨rfl,h⟩
   simp_all
  |dep j=>simp_all
  |lck=>rw[vm]at F;exact absurd F (Wn _ _)
 have I:∀m,(∀j,QJ m (V j))->∀j,QJ m (B j):=λ m hm j a ha ho aw=>by
  rcases(hR _ _ aw).2 with h1|⟨_,h1⟩
  .exact hm _ a ha ho h1
  .exact hm _ a ha ho h1
 have K:∀j,(B (.run j)).tok.ph=(V (.run j)).tok.ph:=by
  intro j;by_cases e:j=i
  .subst e;rw[v1,G]
  .rw[v2 j e]
 have au:x.m<w.heap.size:=(Array.getElem?_eq_some_iff.1 X).1;have a1:=h.wk i E ad;have ap:J0 V=some x.m:=by unfold J0;rw[h0];rfl
 have e0:MemOp.ofEvents i g.frame.fn g.frame.place #[Wj (.acquire ⟨x.m,0,none⟩)]=#[{ g:=i,fn:=g.frame.fn,pos:=g.frame.place,act:=.mark (.acquire ⟨x.m,0,none⟩) }]:=by
  rw[ofEvents_eq];simp[Wj,MemAct.ofEvent]
 refine⟨_,_,_,B,Q9 rk i (some r'),rel,q,runT_crowd_go hi ag,?_,XB Jq ao hr λ az e=>by cases e;exact ah,.refl _,rfl⟩;refine h.go H (V':=B) (rel':=rel) (q':=q) (es:=#[Wj (.acquire ⟨x.m,0,none⟩)]) hi v2 (λ j Q=>Qv _ _ Q) (λ _ _=>rfl) (λ _ _=>.inl rfl) (by rw[Qv _ _ (Ne.symm E)];exact h.root) (.inl E) ?_ ?_ (λ j Q=>by rw[vd];exact h.deps j Q) ay ?_ ?_ ?_ (λ e=>by rw[Qf]at e;cases e)
 .intro az e;rw[Qf]at e;cases e;rw[v1];refine⟨by grind,?_,λ _=>⟨b,D,rfl⟩⟩;rw[ab];rfl
 .intro e;rw[Qf]at e;cases e
 .obtain⟨rm,hti⟩:=h.ti;refine⟨rm,?_⟩;have e1:J0 B=J0 V:=by unfold J0 Q8;rw[v2 0 (Ne.symm E)]
  rw[e1,e0];simp only[K];exact hti.macq (y:={ g:=i,fn:=g.frame.fn,pos:=g.frame.place,act:=.mark (.acquire ⟨x.m,0,none⟩) }) ap rfl au ab (.inr (by rw[G];simp)) hW hR
 .unfold QI;rw[K 0,av];have hk:Z5 B=Z5 V:=by funext j;simp only[Z5,K]
  refine⟨I _ aa,W,c,wt,a0,af,?_,QI.woken hi (λ e=>absurd e E) ak⟩;simp_all
 .have hmi:Q8 B i=some (.lok x s (.own λ s=>(lp s).rels) lo):=by unfold Q8;rw[v1]
  have S:∀j,j≠i->Q8 B j=Q8 V j:=λ j Q=>by grind[Q8]
  obtain⟨g1,g2,-⟩:=h.mux;refine⟨λ j x u Q e=>?_,by rw[vm];rfl,?_⟩
  .grind
  rw[S 0 (Ne.symm E),h0];refine⟨I _ ac,Q9 lp s (.own λ s=>(lp s).rels),z,hx.turn aq T hmi S X (by rw[Z];exact .acq) an (λ _=>vm) (λ e=>?_) ?_ (hx.ownT T (by rw[Z];rfl) λ R e=>.inr (by cases e;rfl))⟩
  .exfalso;have:=Kp (lp:=lp) T (.own λ s=>(lp s).rels) LP.ow;grind[LP.ow]
  .intro j x' s' me lo1 y e hy hns
   have Y:j≠i:=λ Y=>by
    subst Y;rw[Wp hi]at hy;simp_all
   rw[S j Y]at e;rw[J9 Y]at hy;obtain⟨y0,hz,rfl⟩:=Option.map_eq_some_iff.1 hy;exact hx.slp j _ _ _ _ y0 e hz λ hr=>hns (by rw[Wh hr];exact hr)
def MI.mrel(K:∀m g U,Stop m g U->g.status=.running){i:Nat}{g g':Gr}{r r':Tr}{b:Nat}{D:Spec}{x:ZA}{s:Nat}{R:Nat->Bool}{lo:Nat×Nat}{z:LZ}{bs:List (Nat×Bool)}{u:Nat->Bool}{lp:Nat->LP}{M₁ M₂:List Q2}
  (h:MI P t N Stop (some i) gs w tr V rk rel q) (hi:gs[i]?=some g) (hr:rk i=some r) (B:i≠0) (G:(V (.run i)).tok=⟨0,.wrk b D,some (.lok x s (lp s) lo)⟩) (X:lp s=.own R) (S:s<N) (am:lo.1<=ZT N lp s/\(lo.1=ZT N lp s->lo.2=z.st))
  (h0:Q8 V 0=some (.par x u)) (ac:∀j,QJ x.m (V j)) (hx:WP N gs w V x u lp z) (hM:(V (.run i)).M=M₁++M₂) (hD:x.sp (Q9 R s true) M₁)
  (aw:∀st sm,Q5 P x.t false g st sm=.go g' st sm #[Wj (.releaseMerge ⟨x.m,0,none⟩)] bs) (ak:Js x.m bs) (ah:Tr.Sub r' r)
  (hJ:JR (Zj P t N) Stop r' false g' { (V (.run i))with M:=M₂,tok:=⟨0,.wrk b D,some (.lok x s .rls lo)⟩ }):JO P t N Stop gs w sl tr rk q i:=by
 have an:=(Array.getElem?_eq_some_iff.1 hi).1;have ad:rk i≠none:=by rw[hr];simp
 have ae:=hJ.running K;have Z:=hx.sh;have ap:Q8 V i=some (.lok x s (lp s) lo):=by unfold Q8;rw[G]
 obtain⟨ds,pend,k,au,aa,W,c,wt,az,af,al,aj⟩:=h.inGrp B (b:=b) (D:=D) (by rw[G])
 have ag:stepG P (i==0) g w=.go g' w #[Wj (.releaseMerge ⟨x.m,0,none⟩)]:=by
  rw[show(i==0)=false by simpa using B];have:=Hj (aw (QB z.st) (Zx z.f)) Z ak
  rwa [Z.two_same]at this
 have ab:Deaf tr i=0:=by rw[h.deaf i ad,G]
 have hf:=SN (tp:=(⟨0,.wrk b D,some (.lok x s .rls lo)⟩:Tk)) (tc:=(⟨0,.out,none⟩:Tk)) (h.vi.ok (.run i)) (M₁:=M₁) (M₂:=M₂) (by rw[hM])
 let F:Hd->Qa Tk:=Q7 (Q7 V (.run i) ⟨(V (.run i)).I,M₂,⟨0,.wrk b D,some (.lok x s .rls lo)⟩⟩) .lck ⟨λ _=>none,M₁,⟨0,.out,none⟩⟩
 have ax:VI F w:=h.vi.fork hf S1;have v1:F (.run i)=⟨(V (.run i)).I,M₂,⟨0,.wrk b D,some (.lok x s .rls lo)⟩⟩:=by show Q7 _ _ _ _=_;rw[Qg _ _ S1,Qj]
 have v2:∀j,j≠i->F (.run j)=V (.run j):=λ j T=>by show Q7 _ _ _ _=_;rw[Qg _ _ S1,Qg _ _ (by simp_all)]
 have vd:∀j,F (.dep j)=V (.dep j):=λ j=>by show Q7 _ _ _ _=_;rw[Qg _ _ S1,Qg _ _ S1]
 have vm:F .lck=⟨λ _=>none,M₁,⟨0,.out,none⟩⟩:=Qj ..
 have hW:∀k l,(F k).canW l->((V k).canW l/\k≠.lck)\/(k=.lck/\(V (.run i)).canW l):=by
  intro k l E;cases k with
  |run j=>
   by_cases e:j=i
   .subst e;rw[v1]at E;exact .inl ⟨hf.wp l E,S1⟩
   simp_all
  |dep j=>simp_all
  |lck=>rw[vm]at E;exact .inr ⟨rfl,hf.wc l E⟩
 have hR:∀k l,(F k).canR l->((V k).canR l/\k≠.lck)\/(k=.lck/\(V (.run i)).canR l):=by
  intro k l E;cases k with
  |run j=>
   by_cases e:j=i
   .subst e;rw[v1]at E;exact .inl ⟨hf.rp l E,S1⟩
   simp_all
  |dep j=>simp_all
  |lck=>rw[vm]at E;exact .inr ⟨rfl,hf.rc l E⟩
 have L:∀m,(∀j,QJ m (V j))->∀j,QJ m (F j):=λ m hm j a ha ho av=>by
  rcases hR _ _ av with⟨h1,_⟩|⟨_,h1⟩
  .exact hm _ a ha ho h1
  .exact hm _ a ha ho h1
 have Q:∀j,(F (.run j)).tok.ph=(V (.run j)).tok.ph:=by
  intro j;by_cases e:j=i
  .subst e;rw[v1,G]
  .rw[v2 j e]
 have aq:x.m<w.heap.size:=(Array.getElem?_eq_some_iff.1 Z).1;have ai:=h.wk i B ad;have ao:J0 V=some x.m:=by unfold J0;rw[h0];rfl
 have e0:MemOp.ofEvents i g.frame.fn g.frame.place #[Wj (.releaseMerge ⟨x.m,0,none⟩)]=#[{ g:=i,fn:=g.frame.fn,pos:=g.frame.place,act:=.mark (.releaseMerge ⟨x.m,0,none⟩) }]:=by
  rw[ofEvents_eq];simp[Wj,MemAct.ofEvent]
 refine⟨_,_,_,F,Q9 rk i (some r'),rel,q,runT_crowd_go hi ag,?_,XB Jq an hr λ ay e=>by cases e;exact ah,.refl _,rfl⟩;refine h.go K (V':=F) (rel':=rel) (q':=q) (es:=#[Wj (.releaseMerge ⟨x.m,0,none⟩)]) hi v2 (λ j T=>Qv _ _ T) (λ _ _=>rfl) (λ _ _=>.inl rfl) (by rw[Qv _ _ (Ne.symm B)];exact h.root) (.inl B) ?_ ?_ (λ j T=>by rw[vd];exact h.deps j T) ax ?_ ?_ ?_ (λ e=>by rw[Qf]at e;cases e)
 .intro ay e;rw[Qf]at e;cases e;rw[v1];refine⟨by grind,?_,λ _=>⟨b,D,rfl⟩⟩;rw[ab];rfl
 .intro e;rw[Qf]at e;cases e
 .obtain⟨rm,hti⟩:=h.ti;refine⟨some tr.size,?_⟩;have e1:J0 F=J0 V:=by unfold J0 Q8;rw[v2 0 (Ne.symm B)]
  rw[e1,e0];simp only[Q];exact hti.mrel (y:={ g:=i,fn:=g.frame.fn,pos:=g.frame.place,act:=.mark (.releaseMerge ⟨x.m,0,none⟩) }) ao rfl aq ab ai hW hR
 .unfold QI;rw[Q 0,au];have hk:Z5 F=Z5 V:=by funext j;simp only[Z5,Q]
  refine⟨L _ aa,W,c,wt,az,af,?_,QI.woken hi (λ e=>absurd e B) aj⟩;simp_all
 .have hmi:Q8 F i=some (.lok x s .rls lo):=by unfold Q8;rw[v1]
  have Y:∀j,j≠i->Q8 F j=Q8 V j:=λ j T=>by grind[Q8]
  obtain⟨g1,g2,-⟩:=h.mux;refine⟨λ j x u T e=>?_,by rw[vm],?_⟩
  .grind
  rw[Y 0 (Ne.symm B),h0];refine⟨L _ ac,Q9 lp s .rls,z,hx.turn ap S hmi Y Z (by rw[X];exact .rel) am (λ e=>?_) (λ _=>?_) ?_ λ k R hk e=>?_⟩
  .exfalso;have:=Kp (lp:=lp) S .rls LP.ow;rw[(hx.inv.owns S (by rw[X];rfl)).1]at this;grind[LP.ow]
  .rw[vm];unfold ZA.dep
   have:(λ j=>(Q9 lp s .rls j).rels)=Q9 R s true:=by
    funext j;by_cases H:j=s
    .subst H;rw[Qf,Qf];rfl
    .rw[Qv _ _ H,Qv _ _ H,hx.ownR s R S X]
   rw[this];exact hD
  .intro j x' s' me lo1 y e hy hns
   have H:j≠i:=λ H=>by
    subst H;rw[Wp hi]at hy;cases hy;exact hns ae
   rw[Y j H]at e;rw[J9 H]at hy;obtain⟨y0,hz,rfl⟩:=Option.map_eq_some_iff.1 hy;exact hx.slp j _ _ _ _ y0 e hz λ hr=>hns (by rw[Wh hr];exact hr)
  .exfalso;by_cases ek:k=s
   .subst ek;rw[Qf]at e;cases e
   .rw[Qv _ _ ek]at e;have:=(hx.inv.owns S (by rw[X];rfl)).2 k hk ek;rw[e]at this;cases this
def MI.make(h:MI P t N Stop (some 0) gs w tr V rk rel q)(hi:gs[0]?=some g)(F:(V (.run 0)).tok=⟨0,.out,none⟩)
  (hM:(V (.run 0)).M=M₁++.obj b (.cells #[Jh 0 0,Zx 0] t (0,0))::M₂) (hJ:JR (Zj P t N) Stop r' true g { (V (.run 0))with M:=M₁++M₂,tok:=⟨0,.par b [] false .run,none⟩ }) :
  MI P t N Stop none gs w tr (Q7 V (.run 0) { (V (.run 0))with M:=M₁++M₂,tok:=⟨0,.par b [] false .run,none⟩ }) (Q9 rk 0 (some r')) rel q:=by
 have hG:=h.grp;unfold QI at hG;rw[F]at hG;obtain⟨ae,U⟩:=hG;have H:=h.vi.ok (.run 0)
 let E:Qa Tk:={ (V (.run 0))with M:=M₁++M₂,tok:=⟨0,.par b [] false .run,none⟩ }
 have T:Q7 V (.run 0) E (.run 0)=E:=Qj ..;have W:∀j,j≠0->Q7 V (.run 0) E (.run j)=V (.run j):=λ j f=>Qg _ _ (λ e=>f (Hd.run.inj e));have vd:∀j,Q7 V (.run 0) E (.dep j)=V (.dep j):=λ j=>Qg _ _ S1
 have G:∀x,x∈M₁++M₂->x∈(V (.run 0)).M:=by
  intro x z;rw[hM];rcases mem_append.1 z with z|z
  .exact mem_append_left _ z
  .exact mem_append_right _ (mem_cons_of_mem _ z)
 have Q:Q2.obj b (.cells #[Jh 0 0,Zx 0] t (0,0))∈(V (.run 0)).M:=by rw[hM];simp
 have ah:Sh b t (Jh 0 0) (Zx 0) w:=H.held _ Q
 have ai:∀l,E.canW l->(V (.run 0)).canW l:=λ l B=>by
  obtain⟨x,z,B⟩:=Za.1 B;exact Za.2 ⟨x,G x z,B⟩
 have ag:∀l,E.canR l->(V (.run 0)).canR l:=λ l B=>by
  rcases Q3.1 B with⟨x,z,B⟩|B
  .exact Q3.2 (.inl ⟨x,G x z,B⟩)
  .exact Q3.2 (.inr B)
 have Z:=H.apart;rw[hM]at Z;obtain⟨p1,p2,p3⟩:=pairwise_append.1 Z;obtain⟨p4,p5⟩:=pairwise_cons.1 p2
 have aa:∀x∈M₁++M₂,x.blk≠b:=by
  intro x z e;rcases mem_append.1 z with z|z
  .have:=p3 x z (.obj b (.cells #[Jh 0 0,Zx 0] t (0,0))) S1;grind[Q2.apart,Q2.blk]
  .grind[Q2.apart,Q2.blk]
 have ad:E.ok w:=⟨H.imm,λ x z=>H.held x (G x z),pairwise_append.2 ⟨p1,p5,λ x z y hy=>p3 x z y (mem_cons_of_mem _ hy)⟩,λ x z=>H.sep x (G x z)⟩;have ab:∀a:Addr,a.block=b->a.off<2->(V (.run 0)).canW (.cell a):=λ a X ho=>Za.2 ⟨_,Q,X,ho⟩
 have hW:∀k l,(Q7 V (.run 0) E k).canW l->(V k).canW l:=by
  intro k l B;by_cases e:k=.run 0
  .simp_all
  .rwa [Qg _ _ e]at B
 have hR:∀k l,(Q7 V (.run 0) E k).canR l->(V k).canR l:=by
  intro k l B;by_cases e:k=.run 0
  .simp_all
  .rwa [Qg _ _ e]at B
 have ac:∀k,QJ b (Q7 V (.run 0) E k):=by
  intro k a X ho K;by_cases e:k=.run 0
  .subst e;rw[T]at K;rcases Q3.1 K with⟨x,z,B⟩|⟨c,ty,fr,hI,_⟩
   .have:=aa x z;cases x with
    |obj b' o=>
     cases o <;> simp only[Q2.lets]at B;grind[Q2.blk]
    |cell b' i' v ty n=>grind[Q2.lets,Q2.blk]
   .have:=H.sep _ Q;grind[Q2.blk,fr]
  .rw[Qg _ _ e]at K;exact h.vi.sep (.run 0) k _ (Ne.symm e) (ab a X ho) K
 have hT:∀j,j≠0->(Q7 V (.run 0) E (.run j)).tok.ph=.out:=λ j f=>by simp_all
 have L:∀j,j≠0->Q9 rk 0 (some r') j=rk j:=λ j f=>Qv _ _ f;have af:Q8 V 0=none:=by unfold Q8;rw[F]
 obtain⟨g1,g2,g3⟩:=h.mux;rw[af]at g3;obtain⟨g3,g4⟩:=g3;have vm:Q7 V (.run 0) E .lck=ZN:=by rw[Qg _ _ S1];exact g4
 have S:∀j,Q8 (Q7 V (.run 0) E) j=none:=by
  intro j;by_cases e:j=0
  .grind[Q8]
  .simp_all[Q8]
 refine⟨?_,by rw[Qf];simp,?_,?_,?_,?_,?_,?_,?_,λ j f=>by rw[vd];exact h.deps j f,?_,?_,?_,⟨λ j x u _ e=>(by rw[S]at e;cases e),by rw[vm];rfl,by grind⟩,λ j _=>S j⟩
 .intro j r'' _ hr'';by_cases e:j=0
  .subst e;rw[Qf]at hr'';grind
  .rw[L j e]at hr'';obtain⟨x,k1,k2⟩:=h.live j r'' (λ e'=>e (Option.some.inj e').symm) hr'';grind
 .intro j x f z _;have e:j≠0:=λ e=>by grind
  rw[L j e]at f;exact h.gone j x f z (ae j e)
 .intro j f hp;have e:j≠0:=λ e=>by subst e;rw[Qf]at f;cases f
  grind
 .intro j f;have e:j≠0:=by have:=(Array.getElem?_eq_some_iff.1 hi).1;omega
  rw[L j e];exact h.above j f
 .intro j f;have e:j≠0:=λ e=>by subst e;rw[Qf]at f;cases f
  rw[L j e]at f;rw[W j e];exact h.bare j f
 .intro j h0 f;rw[L j h0]at f;rw[W j h0];exact h.wk j h0 f
 .intro j f;by_cases e:j=0
  .subst e;rw[Qf];simp
  .rw[hT j e]at f;obtain⟨_,_,e'⟩:=f;cases e'
 .intro j f;by_cases e:j=0
  .subst e;rw[T];rw[h.deaf 0 h.root,F]
  .rw[L j e]at f;rw[W j e];exact h.deaf j f
 .refine⟨λ k=>?_,λ aj ak l hn hw K=>h.vi.sep aj ak l hn (hW _ _ hw) (hR _ _ K)⟩;by_cases e:k=.run 0
  .grind
  .rw[Qg _ _ e];exact h.vi.ok k
 .obtain⟨rm,hti⟩:=h.ti;rw[F]at hti;refine⟨none,?_⟩;have e0:J0 (Q7 V (.run 0) E)=none:=by unfold J0;rw[S];rfl
  rw[T,e0];have:=hti.create (b:=b) (W':=λ k=>(Q7 V (.run 0) E k).canW) (R':=λ k=>(Q7 V (.run 0) E k).canR) (λ l=>by rw[vm];exact Wo _ _) (λ l=>by rw[vm];exact Wn _ _) U ab hW hR
  have e3:(λ j=>ZS (Q7 V (.run 0) E (.run j)).tok.ph)=λ j=>ZS (V (.run j)).tok.ph:=by
   funext j;by_cases e:j=0
   .subst e;rw[T,F];refine propext ⟨?_,?_⟩ <;> (rintro⟨_,_,e⟩;cases e)
   .rw[W j e]
  rw[e3];refine this.turn (λ _ _ h=>h) (λ _ _ h=>h) ?_;grind
 .unfold QI;rw[T];refine⟨ac,[],0,0,0,ah,?_,λ _ _ _=>rfl⟩;refine GI.start (λ i=>?_) U;by_cases e:i=0
  .simp[Z5,e]
  .simp only[Z5,if_neg e];exact hT i e
def MI.makeM(h:MI P t N Stop (some 0) gs w tr V rk rel q)(hi:gs[0]?=some g)(K:(V (.run 0)).tok=⟨0,.par b [] false .run,none⟩)
  (hM:(V (.run 0)).M=.obj x.m (.cells #[QB 0,Zx 0] x.t (0,0))::(M₁++M₂)) (hD:x.sp (λ _=>false) M₁) (hJ:JR (Zj P t N) Stop r' true g { (V (.run 0))with M:=M₂,tok:=⟨0,.par b [] false .run,some (.par x λ _=>false)⟩ }) :
  MI P t N Stop none gs w tr (Q7 (Q7 V (.run 0) { (V (.run 0))with M:=M₂,tok:=⟨0,.par b [] false .run,some (.par x λ _=>false)⟩ }) .lck ⟨λ _=>none,M₁,⟨0,.out,none⟩⟩) (Q9 rk 0 (some r')) rel q:=by
 have hG:=h.grp;unfold QI at hG;rw[K]at hG;obtain⟨T,W,c,wt,s,ao,ac,aq⟩:=hG;have ap:W=[]:=eq_nil_of_length_eq_zero ac.len
 have ag:∀j,j≠0->(V (.run j)).tok.ph=.out:=by
  intro j f;apply Classical.byContradiction;intro hn;have:=ac.inW j (.inl (by simpa[Z5,f]using hn));rw[ap]at this;cases this
 have Q:=h.vi.ok (.run 0);have am:Q8 V 0=none:=by unfold Q8;rw[K]
 obtain⟨g1,g2,g3⟩:=h.mux;rw[am]at g3;obtain⟨g3,g4⟩:=g3
 let U2:Qa Tk:={ (V (.run 0))with M:=M₂,tok:=⟨0,.par b [] false .run,some (.par x λ _=>false)⟩ }
 let z:=Q7 (Q7 V (.run 0) U2) .lck ⟨λ _=>none,M₁,⟨0,.out,none⟩⟩
 have v0:z (.run 0)=U2:=by show Q7 _ _ _ _=_;rw[Qg _ _ S1,Qj]
 have v2:∀j,j≠0->z (.run j)=V (.run j):=λ j f=>by show Q7 _ _ _ _=_;rw[Qg _ _ S1,Qg _ _ (λ e=>f (Hd.run.inj e))]
 have vd:∀j,z (.dep j)=V (.dep j):=λ j=>by show Q7 _ _ _ _=_;rw[Qg _ _ S1,Qg _ _ S1]
 have vm:z .lck=⟨λ _=>none,M₁,⟨0,.out,none⟩⟩:=Qj ..;have S:Q2.obj x.m (.cells #[QB 0,Zx 0] x.t (0,0))∈(V (.run 0)).M:=by rw[hM];simp
 have au:Sh x.m x.t (QB 0) (Zx 0) w:=Q.held _ S;have ak:=Q.apart;rw[hM]at ak;obtain⟨p4,p5⟩:=pairwise_cons.1 ak;have F:∀y,y∈M₁++M₂->y∈(V (.run 0)).M:=λ y G=>by rw[hM];exact mem_cons_of_mem _ G
 have an:Qa.ok ({ (V (.run 0))with M:=M₁++M₂ }:Qa Tk) w:=⟨Q.imm,λ y G=>Q.held y (F y G),p5,λ y G=>Q.sep y (F y G)⟩;have hf:=SN (U:=({ (V (.run 0))with M:=M₁++M₂ }:Qa Tk)) (tp:=(⟨0,.par b [] false .run,some (.par x λ _=>false)⟩:Tk)) (tc:=(⟨0,.out,none⟩:Tk)) an (M₁:=M₁) (M₂:=M₂) (Perm.refl _)
 have ai:∀l,Qa.canW ({ (V (.run 0))with M:=M₁++M₂ }:Qa Tk) l->(V (.run 0)).canW l:=λ l B=>by
  obtain⟨y,G,B⟩:=Za.1 B;exact Za.2 ⟨y,F y G,B⟩
 have ah:∀l,Qa.canR ({ (V (.run 0))with M:=M₁++M₂ }:Qa Tk) l->(V (.run 0)).canR l:=λ l B=>by
  rcases Q3.1 B with⟨y,G,B⟩|B
  .exact Q3.2 (.inl ⟨y,F y G,B⟩)
  .exact Q3.2 (.inr B)
 have al:∀y∈M₁++M₂,y.blk≠x.m:=by
  intro y G e;have:=p4 y G;cases y <;> simp only[Q2.apart,Q2.blk]at this e <;> exact this e.symm
 have X:QJ x.m ({ (V (.run 0))with M:=M₁++M₂ }:Qa Tk):=by
  intro a L Y E;rcases Q3.1 E with⟨y,G,B⟩|⟨c,ty,fr,hI,_⟩
  .have:=al y G;cases y with
   |obj b' o=>
    cases o <;> simp only[Q2.lets]at B;exact this (by rw[Q2.blk,<- B.1,L])
   |cell b' i' v ty n=>simp only[Q2.lets]at B;exact this (by rw[Q2.blk,<- B.1,L])
  .have:=Q.sep _ S;rw[Q2.blk,<- L]at this;have aj:(V (.run 0)).I a.block=some (.cells c ty fr):=hI;rw[this]at aj;cases aj
 have ab:∀a:Addr,a.block=x.m->a.off<2->(V (.run 0)).canW (.cell a):=λ a L Y=>Za.2 ⟨_,S,L,Y⟩
 have av:VI (Q7 V (.run 0) ({ (V (.run 0))with M:=M₁++M₂ }:Qa Tk)) w:=h.vi.shift ⟨rfl,λ w' Z=>by
  have aa:=Z.apart;rw[hM]at aa;exact⟨⟨Z.imm,λ y G=>Z.held y (F y G),(pairwise_cons.1 aa).2,λ y G=>Z.sep y (F y G)⟩,ai,ah⟩⟩
 have aw:VI z w:=by
  have:=av.fork (k:=.run 0) (c:=.lck) (Up:=U2) (Uc:=⟨λ _=>none,M₁,⟨0,.out,none⟩⟩) (by rw[Qj];exact hf) S1
  have e:Q7 (Q7 (Q7 V (.run 0) ({ (V (.run 0))with M:=M₁++M₂ }:Qa Tk)) (.run 0) U2) .lck (⟨λ _=>none,M₁,⟨0,.out,none⟩⟩:Qa Tk)=z:=by
   funext k;by_cases e1:k=.lck
   .subst e1;rw[Qj,vm]
   .rw[Qg _ _ e1];show _=Q7 _ _ _ k;rw[Qg _ _ e1];by_cases e2:k=.run 0
    .subst e2;rw[Qj,Qj]
    .rw[Qg _ _ e2,Qg _ _ e2,Qg _ _ e2]
  rw[e]at this;exact this
 have hW:∀k l,(z k).canW l->(V k).canW l\/(k=.lck/\(V (.run 0)).canW l):=by
  intro k l B;cases k with
  |run j=>
   by_cases e:j=0
   .subst e;rw[v0]at B;exact .inl (ai l (hf.wp l B))
   .rw[v2 j e]at B;exact .inl B
  |dep j=>rw[vd]at B;exact .inl B
  |lck=>rw[vm]at B;exact .inr ⟨rfl,ai l (hf.wc l B)⟩
 have hR:∀k l,(z k).canR l->(V k).canR l\/(k=.lck/\(V (.run 0)).canR l):=by
  intro k l B;cases k with
  |run j=>
   by_cases e:j=0
   .subst e;rw[v0]at B;exact .inl (ah l (hf.rp l B))
   .rw[v2 j e]at B;exact .inl B
  |dep j=>rw[vd]at B;exact .inl B
  |lck=>rw[vm]at B;exact .inr ⟨rfl,ah l (hf.rc l B)⟩
 have af:∀k,QJ x.m (z k):=by
  intro k a L Y E;cases k with
  |run j=>
   by_cases e:j=0
   .subst e;rw[v0]at E;exact X a L Y (hf.rp _ E)
   .rw[v2 j e]at E;exact h.vi.sep (.run 0) (.run j) _ (λ e'=>e (Hd.run.inj e').symm) (ab a L Y) E
  |dep j=>rw[vd]at E;exact h.vi.sep (.run 0) (.dep j) _ S1 (ab a L Y) E
  |lck=>rw[vm]at E;exact X a L Y (hf.rc _ E)
 have H:∀j,j≠0->Q9 rk 0 (some r') j=rk j:=λ j f=>Qv _ _ f
 have hT:∀j,(z (.run j)).tok.ph=(V (.run j)).tok.ph:=by
  intro j;by_cases e:j=0
  .subst e;rw[v0,K]
  .rw[v2 j e]
 have ad:Q8 z 0=some (.par x λ _=>false):=by unfold Q8;rw[v0]
 have ae:∀j,j≠0->Q8 z j=none:=λ j f=>by unfold Q8;rw[v2 j f];exact g3 j
 refine⟨?_,by rw[Qf];simp,?_,?_,?_,?_,?_,?_,?_,λ j f=>by show z _=_;rw[vd];exact h.deps j f,aw,?_,?_,?_,?_⟩
 .intro j r'' _ hr'';by_cases e:j=0
  .subst e;rw[Qf]at hr'';cases hr'';exact⟨g,by show JR _ _ _ _ _ (z _);rw[v0];exact hJ,.inl hi⟩
  .rw[H j e]at hr'';obtain⟨y,k1,k2⟩:=h.live j r'' (λ e'=>e (Option.some.inj e').symm) hr'';exact⟨y,by show JR _ _ _ _ _ (z _);rw[v2 j e];exact k1,by show _\/_/\_/\Ou _ (z _).tok;rw[v2 j e];exact k2⟩
 .intro j y f G _;have e:j≠0:=λ e=>by subst e;rw[Qf]at f;cases f
  rw[H j e]at f;exact h.gone j y f G (ag j e)
 .intro j f hp;have e:j≠0:=λ e=>by subst e;rw[Qf]at f;cases f
  have hp:(z (.run j)).tok.ph≠.out:=hp;rw[hT]at hp;exact absurd (ag j e) hp
 .intro j f;have e:j≠0:=by have:=(Array.getElem?_eq_some_iff.1 hi).1;omega
  rw[H j e];exact h.above j f
 .intro j f;have e:j≠0:=λ e=>by subst e;rw[Qf]at f;cases f
  rw[H j e]at f;show(z _).I=_/\(z _).M=_;rw[v2 j e];exact h.bare j f
 .intro j h0 f;rw[H j h0]at f;show ZS (z _).tok.ph;rw[hT];exact h.wk j h0 f
 .intro j f;have f:ZS (z (.run j)).tok.ph:=f;rw[hT]at f;by_cases e:j=0
  .subst e;rw[Qf];simp
  .rw[H j e];exact h.wk' j f
 .intro j f;show _=(z _).tok.d;by_cases e:j=0
  .subst e;rw[v0];rw[h.deaf 0 h.root,K]
  .rw[H j e]at f;rw[v2 j e];exact h.deaf j f
 .obtain⟨rm,hti⟩:=h.ti;have e0:J0 V=none:=by unfold J0;rw[am];rfl
  have e1:J0 z=some x.m:=by unfold J0;rw[ad];rfl
  rw[e0]at hti;refine⟨none,?_⟩;show TI (λ k=>(z k).canW) (λ k=>(z k).canR) rel (z (.run 0)).tok.ph.blk (J0 z) none (λ i=>i=0\/(z (.run i)).tok.ph≠.out) (λ i=>ZS (z (.run i)).tok.ph) w.heap.size tr;rw[e1];simp only[hT];refine hti.createM (act':=λ i=>i=0\/(V (.run i)).tok.ph≠.out) (λ j f=>?_) ab hW hR (λ l=>by rw[g4];exact Wo _ _) (λ l=>by rw[g4];exact Wn _ _);refine⟨?_,.inl rfl⟩;rcases f with rfl|f
  .rfl
  .apply Classical.byContradiction;intro e;exact f (ag j e)
 .show QI t N gs w z rel;unfold QI;rw[v0];refine⟨λ k a L Y E=>?_,W,c,wt,s,ao,?_,aq⟩
  .rcases hR k _ E with h1|⟨_,h1⟩
   .exact T _ a L Y h1
   .exact T _ a L Y h1
  .have hk:Z5 z=Z5 V:=by funext j;simp only[Z5,hT]
   rw[hk];simpa only[vd]using ac
 .show JN N gs w z;refine⟨λ j y u f e=>(by rw[ae j f]at e;cases e),by rw[vm],?_⟩;rw[ad]
  have nl:∀j y s me lo,Q8 z j≠some (.lok y s me lo):=by
   intro j y s me lo e;by_cases ej:j=0
   .subst ej;rw[ad]at e;cases e
   .rw[ae j ej]at e;cases e
  exact⟨af,λ _=>.idle,⟨0,0,0,0,0⟩,au,.start N,λ j _ _ _ _ e=>absurd e (nl _ _ _ _ _),λ j _ _ _ _ _ _ _ _ e=>absurd e (nl _ _ _ _ _),λ s e=>(by cases e),λ _ _=>rfl,λ e=>absurd (Pt λ _ _=>rfl) e,λ _=>(by rw[vm];exact hD),λ j _ _ _ _ _ e=>absurd e (nl _ _ _ _ _),λ s R _ e=>(by cases e)⟩
 .intro j f;have e:j≠0:=λ e=>by subst e;rw[Qf]at f;cases f
  exact ae j e
def Fin(P:Program)(Q:Value->Qa Tk->Prop):QK Tk:=λ m g U=>m=true/\g.status=.running/\U.tok=⟨0,.out,none⟩/\∃v,Q v U/\∀w,U.ok w->∃es,stepG P true g w=.ended (.done v) w es/\∀e∈es,WA U w e/\H5 w e
def Fin.running:∀m g U,Fin P Q m g U->g.status=.running:=λ _ _ _ h=>h.2.1
def Nx(P:Program)(t:TypeId)(N:Nat)(Stop:QK Tk)(gs:Array Gr)(w:World)(sl:Option (Nat×Nat))(tr:Trace)(μ:List Tr×Nat)(i:Nat):Prop:=
 ∃e w' ops V' rk' rel' q',runT P (crowd gs w sl) i=(.next (crowd e w' sl),ops)/\MI P t N Stop none e w' (tr++ops) V' rk' rel' q'/\Relation.TransGen JF (QF e rk' q') μ/\WE w.os w'.os/\w'.output=w.output
def JO.nx(h:JO P t N Stop gs w sl tr rk q i):Nx P t N Stop gs w sl tr (QF gs rk q) i:=
 let ⟨gs',w',ops,V',rk',rel',q',a,b,c,d⟩:=h;⟨gs',w',ops,V',rk',rel',q',a,b,.single c,d⟩
def Kl(P:Program)(t:TypeId)(N:Nat)(Q:Value->Qa Tk->Prop)(gs:Array Gr)(w:World)(tr:Trace)(g:Gr):Prop:=
 ∃V rk rel q,MI P t N (Fin P Q) (some 0) gs w tr V rk rel q/\Fin P Q true g (V (.run 0))
def MI.alive:∀(r:Tr){i:Nat}{g:Gr}{V:Hd->Qa Tk}{rk:Nat->Option Tr},MI P t N (Fin P Q) none gs w tr V rk rel q->gs[i]?=some g->g.status=.running->rk i=some r ->
  (i=0/\Kl P t N Q gs w tr g)\/Nx P t N (Fin P Q) gs w sl tr (QF gs rk q) i:=by
 intro r
 induction r using Tr.sub_wf.induction with
 |_ r ih=>
  intro i g V rk h Z ad X;have bb:=(Array.getElem?_eq_some_iff.1 Z).1;obtain⟨ax,hJ,hg⟩:=h.live i r S1 X
  have:ax=g:=by
   rcases hg with hg|⟨hg,_⟩
   .rw[Z]at hg;exact(Option.some.inj hg).symm
   .rw[Z]at hg;cases hg;cases ad
  subst this;have an:=hJ;obtain⟨U1,hs,hJ⟩:=hJ.step;have S:=h.shift X hs;have hU:Q7 V (.run i) U1 (.run i)=U1:=Qj ..;generalize Q7 V (.run i) U1=V1 at S hU;subst hU;rcases hJ with hJ|hJ|hJ
  .have hi0:i=0:=by have:=hJ.1;simpa using this
   subst hi0;exact .inl ⟨rfl,V1,rk,rel,q,S,hJ⟩
  .exact .inr (S.priv Fin.running Z X hJ).nx
  .have hJ:QC P t N _ (i==0) ax (V1 (.run i)):=hJ;generalize hm:(i==0)=m at hJ
   have par:∀{d b ds pend k mu},i=0->(V1 (.run i)).tok=⟨d,.par b ds pend k,mu⟩->(∀j,QJ b (V1 j))/\∃W c wt s,Sh b t (Jh c wt) (Zx s) w/\GI N b ds pend k (Z5 V1) rel (λ i=>(V1 (.dep i)).M) W c wt s:=by
    intro d b ds pend k mu K B;subst K;obtain⟨bg,aw,k',e1,e2,W,c,wt,s,e3,e4,_⟩:=S.par' (b:=b) (by rw[B];rfl);rw[B]at e1;cases e1;exact⟨e2,W,c,wt,s,e3,e4⟩
   have bd:rk i≠none:=by rw[X];simp
   have T:∀{d b ds pend k mu},(V1 (.run i)).tok=⟨d,.par b ds pend k,mu⟩->i=0/\m=true:=by
    intro d b ds pend k mu B
    have K:i=0:=by
     apply Classical.byContradiction;intro aq;obtain⟨_,_,e⟩:=S.wk i aq bd;rw[B]at e;cases e
    exact⟨K,by subst K;exact hm.symm⟩
   have bf:(V1 (.run i)).tok=⟨0,.out,none⟩->i=0/\m=true:=by
    intro B
    have K:i=0:=by
     apply Classical.byContradiction;intro aq;obtain⟨_,_,e⟩:=S.wk i aq bd;rw[B]at e;cases e
    exact⟨K,by subst K;exact hm.symm⟩
   have ai:m=true->i=0:=λ e=>by subst e;simpa using hm
   have aj:m=false->i≠0:=λ e=>by subst e;simpa using hm
   have ab:i=0->∃d b ds pend k mu,((V1 (.run i)).tok=⟨d,.par b ds pend k,mu⟩\/(V1 (.run i)).tok.ph=.out):=by
    intro K;subst K;have hG:=S.grp;unfold QI at hG;generalize(V1 (.run 0)).tok=tk at hG;obtain⟨d,p,mu⟩:=tk;cases p with
    |out=>exact⟨0,0,[],false,.run,none,.inr rfl⟩
    |par b ds pend k=>exact⟨d,b,ds,pend,k,mu,.inl rfl⟩
    |_=>exact hG.elim
   cases hJ with
   |quiet Y hb E G k=>
    rename_i b bs g';obtain⟨r',z,k⟩:=k;cases m with
    |true=>
     have K:=ai rfl;subst K;obtain⟨d,b',ds,pend,kk,mu,B|B⟩:=ab rfl
     .rw[B]at hb;cases hb;obtain⟨F,W,c,wt,s,L,I⟩:=par rfl B;refine .inr (S.parent Fin.running Z X B F L (E _ _) G S1 (deafBehind_nil _) I z ?_).nx;have:(V1 (.run 0)).at d (.par b ds pend kk)=V1 (.run 0):=Qa.at_self B;rw[this];exact k
     .rw[B]at hb;cases hb
    |false=>
     have K:=aj rfl;exact .inr (S.calm Fin.running Z X K hb E G z k).nx
   |dis Y B E G k=>
    obtain⟨r',z,k⟩:=k;obtain⟨K,U⟩:=T B;subst K;subst U;obtain⟨F,W,c,wt,s,L,I⟩:=par rfl B;exact .inr (S.parent Fin.running Z X B F L (E _ _) G (by intro e he;simp at he;subst he;exact .inl rfl) rfl I z k).nx
   |ena Y B E G k=>
    obtain⟨r',z,k⟩:=k;obtain⟨K,U⟩:=T B;subst K;subst U;obtain⟨F,W,c,wt,s,L,I⟩:=par rfl B;exact .inr (S.parent Fin.running Z X B F L (E _ _) G (by intro e he;simp at he;subst he;exact .inl rfl) rfl I z k).nx
   |add Y B hN E=>
    obtain⟨K,U⟩:=T B;subst K;subst U;obtain⟨F,W,c,wt,s,L,I⟩:=par rfl B;obtain⟨rfl,rfl,-⟩:=I.state;have hc:=I.cN;simp at hc;obtain⟨g',bs,E,G,r',z,k⟩:=E c hc;exact .inr (S.parent Fin.running Z X B F L E G (by intro e he;simp at he;rcases he with rfl|rfl <;> exact .inr (.inl ⟨0,_,O1,rfl⟩)) rfl (I.add hN) z k).nx
   |said Y B E G k=>
    rename_i mu b ds pend kk bs g' wr;obtain⟨r',z,k⟩:=k;obtain⟨K,U⟩:=T B;subst K;subst U;obtain⟨F,W,c,wt,s,L,I⟩:=par rfl B;refine .inr (S.parent Fin.running (d':=1) Z X B F L (E _ _) G (by intro e he;simp at he;subst he;exact .inr (.inr ⟨rfl,1,wr,O1,rfl⟩)) (by cases wr <;> rfl) I z ?_).nx;have:(V1 (.run 0)).at 1 (.par b ds pend kk)=V1 (.run 0):=Qa.at_self B;rw[this];exact k
   |look Y B hk E=>
    rename_i mu b ds k₀ u;obtain⟨K,U⟩:=T B;subst K;subst U;obtain⟨F,W,c,wt,s,L,I⟩:=par rfl B;obtain⟨hc,rfl,rfl,-⟩:=I.seeU hk;obtain⟨g',bs,G,⟨E,⟨r',z,k⟩|⟨rfl,r',z,k⟩⟩|⟨bj,E,r',z,k⟩⟩:=E c hc
    .refine .inr (S.parent Fin.running (d':=1) Z X B F L E G (by intro e he;simp at he;subst he;exact .inr (.inl ⟨0,_,O1,rfl⟩)) rfl (I.toSeen hk) z k).nx
    .exact .inr (S.parent Fin.running (d':=1) Z X B F L E G (by intro e he;simp at he;subst he;exact .inr (.inl ⟨0,_,O1,rfl⟩)) rfl (I.toUp hk) z k).nx
    .exact .inr (S.parent Fin.running (d':=1) Z X B F L E G (by intro e he;simp at he;rcases he with rfl|rfl <;> exact .inr (.inl ⟨0,_,O1,rfl⟩)) rfl (I.toWait hk bj) z k).nx
   |sema Y ho B h0 E=>
    rename_i mu b ds;obtain⟨K,U⟩:=T B;subst K;subst U;have af:(V (.run 0)).tok=⟨1,.par b ds false .wait,mu⟩:=hs.1.symm.trans B;obtain⟨bg,aw,bu,e1,au,W',c',wt',s',al,ak,_⟩:=h.par' (b:=b) (by rw[af];rfl);rw[af]at e1;cases e1
    have ah:s'=0\/s'=1:=by
     rcases ak.state.2 with⟨_,_,h3,_⟩|⟨_,i0,j0,_,⟨_,_,h3⟩|⟨_,_,h3⟩⟩|⟨_,_,h3,_⟩ <;> omega
    rcases ah with rfl|rfl
    .obtain⟨bs,G,E⟩:=h0 (Jh c' wt');have hx:MI P t N (Fin P Q) (some 0) gs w tr V rk rel q:={ h with live:=λ j r _ X=>h.live j r S1 X };exact .inr (hx.block Z ad ho X af au al ak E G an).nx
    .obtain⟨F,W,c,wt,s,L,I⟩:=par rfl B
     have av:s=1:=by
      have:some (Obj.cells #[Jh c' wt',Zx 1] t (0,0))=some (Obj.cells #[Jh c wt,Zx s] t (0,0)):=al.symm.trans L;simp[Zx]at this;omega
     subst av;obtain⟨ba,rfl,rfl,-⟩:=I.sema;obtain⟨g',bs,G,E,r',z,k⟩:=E;exact .inr (S.parent Fin.running (d':=1) Z X B F L E G (by intro e he;simp at he;rcases he with rfl|rfl|rfl|rfl <;> first|exact .inl rfl|exact .inr (.inl ⟨1,_,O1,rfl⟩)) rfl ba z k).nx
   |look2 Y B G E k=>
    rename_i mu b ds bs g';obtain⟨r',z,k⟩:=k;obtain⟨K,U⟩:=T B;subst K;subst U;obtain⟨F,W,c,wt,s,L,I⟩:=par rfl B;obtain⟨-,rfl,rfl,rfl,-⟩:=I.up;refine .inr (S.parent Fin.running (d':=1) Z X B F L E G (by intro e he;simp at he;subst he;exact .inr (.inl ⟨0,_,O1,rfl⟩)) rfl I z ?_).nx;have:(V1 (.run 0)).at 1 (.par b ds false .up)=V1 (.run 0):=Qa.at_self B;rw[this];exact k
   |acq Y B G E k=>
    obtain⟨K,U⟩:=T B;subst K;subst U;obtain⟨F,W,c,wt,s,L,I⟩:=par rfl B
    have bo:V1 .lck=ZN:=by
     have g3:=S.mux.2.2;rw[show Q8 V1 0=none by unfold Q8;rw[B]]at g3;exact g3.2
    refine .inr (S.take Fin.running Z X B L I E G λ Ms ao=>?_).nx;obtain⟨r',z,k⟩:=k Ms ao;refine⟨r',z,?_⟩
    have:({ (V1 (.run 0))with M:=((V1 (.run 0)).M++Ms.flatten)++(V1 .lck).M,tok:=⟨0,.out,none⟩ }:Qa Tk)=((V1 (.run 0)).with Ms.flatten).at 0 .out:=by
     rw[bo];simp only[ZN,Qa.bare,append_nil,Qa.at,Qa.with];rw[B]
    rw[this];exact k
   |acqM Y B G E k=>
    rename_i b ds bs g' x u;obtain⟨K,U⟩:=T B;subst K;subst U;obtain⟨F,W,c,wt,s,L,I⟩:=par rfl B
    have ag:x.sp u (V1 .lck).M:=by
     have g3:=S.mux.2.2;rw[show Q8 V1 0=some (.par x u) by unfold Q8;rw[B]]at g3;obtain⟨-,lp,zz,hx⟩:=g3;have bc:=I.up.2.2.2.2.1
     have bl:∀j y s me lo,Q8 V1 j≠some (.lok y s me lo):=by
      intro j y s me lo e;by_cases ej:j=0
      .subst ej;unfold Q8 at e;rw[B]at e;cases e
      .have hrj:rk j=none:=by
        cases bm:rk j with
        |none=>rfl
        |some bv=>
         obtain⟨_,_,e'⟩:=S.wk j ej (by rw[bm];simp);have:=bc j;simp only[Z5,if_neg ej]at this;rw[e']at this;cases this
       rw[S.bareM j hrj]at e;cases e
     have bk:∀s,lp s=if u s then .fin else .idle:=by
      intro s;cases hu:u s with
      |false=>simpa using hx.idle s hu
      |true=>
       rcases hx.who s hu with h2|⟨j,me,lo,e⟩
       .simpa using h2
       .exact absurd e (bl _ _ _ _ _)
     have be:∀s,(lp s).rels=u s/\(lp s).ow=0:=by
      intro s;rw[bk s];cases u s <;> exact⟨rfl,rfl⟩
     have:=hx.dep' (Pt λ j _=>(be j).2);unfold ZA.dep at this;rw[show(λ s=>(lp s).rels)=u from funext λ s=>(be s).1]at this;exact this
    exact .inr (S.take Fin.running Z X B L I E G λ Ms ao=>k Ms _ ao ag).nx
   |make B hM k=>
    obtain⟨r',z,k⟩:=k;obtain⟨K,U⟩:=bf B;subst K;subst U;have h2:=S.make Z B hM k;rcases ih r' z h2 Z ad (Qf ..)with h3|⟨am,w',ops,V',rk',rel',q',a,b,c,dd⟩
    .exact .inl h3
    .refine .inr ⟨am,w',ops,V',rk',rel',q',a,b,c.tail ?_,dd⟩;exact XB rfl bb X λ bq e=>by cases e;exact z
   |makeM B hM hD k=>
    obtain⟨r',z,k⟩:=k;obtain⟨K,U⟩:=T B;subst K;subst U;have h2:=S.makeM Z B hM hD k;rcases ih r' z h2 Z ad (Qf ..)with h3|⟨am,w',ops,V',rk',rel',q',a,b,c,dd⟩
    .exact .inl h3
    .refine .inr ⟨am,w',ops,V',rk',rel',q',a,b,c.tail ?_,dd⟩;exact XB rfl bb X λ bq e=>by cases e;exact z
   |mu Y B E=>
    rename_i b D x s me lo d
    have K:i≠0:=λ e=>by
     obtain⟨_,_,_,_,_,_,H|H⟩:=ab e
     .rw[B]at H;cases H
     .rw[B]at H;cases H
    have U:m=false:=by rw[<- hm];simpa using K
    subst U;obtain⟨u,lp,zz,k0,F,hx,rfl,aa,ae,-⟩:=S.lock (i:=i) (x:=x) (s:=s) (me:=me) (lo:=lo) (by unfold Q8;rw[B]);obtain⟨g',bs,es,me',z',d',lo',a0,a1,a2,a3,a4,a5,a6,a7,a8,a9,r',z,k⟩:=E zz _ ae.1 ae.2 (hx.inv.pot_le s) (hx.inv.fits aa);exact .inr (MI.mu Fin.running S Z X K B k0 F hx aa a1 a0 a2 ⟨a3,a4⟩ a5 a6 a7 a8 a9 z k).nx
   |mblk Y ho B bh bi=>
    rename_i b D x s c lo d
    have K:i≠0:=λ e=>by
     obtain⟨_,_,_,_,_,_,H|H⟩:=ab e
     .rw[B]at H;cases H
     .rw[B]at H;cases H
    have U:m=false:=by rw[<- hm];simpa using K
    subst U;have af:(V (.run i)).tok=⟨d,.wrk b D,some (.lok x s (.wai c) lo)⟩:=hs.1.symm.trans B;obtain⟨u,lp,zz,k0,F,hx,ac,aa,ae,-⟩:=h.lock (i:=i) (x:=x) (s:=s) (me:=.wai c) (lo:=lo) (by unfold Q8;rw[af]);have az:zz.f=0\/zz.f=1:=by have:=hx.inv.1.1.2.2.2.1;omega
    rcases az with hf|hf
    .obtain⟨bs,G,E⟩:=bh (QB zz.st);have bp:MI P t N (Fin P Q) (some i) gs w tr V rk rel q:={ h with live:=λ j r _ X=>h.live j r S1 X };exact .inr (bp.mblk Z ad ho X K af k0 F hx hf E G (by rw[show(i==0)=false by simpa using K]at an;exact an)).nx
    .obtain⟨u',lp',z',k0',hoff',hx',hme',hsN',hlo',-⟩:=S.lock (i:=i) (x:=x) (s:=s) (me:=.wai c) (lo:=lo) (by unfold Q8;rw[B]);have e2:some (Obj.cells #[QB zz.st,Zx zz.f] x.t (0,0))=some (Obj.cells #[QB z'.st,Zx z'.f] x.t (0,0)):=hx.sh.symm.trans hx'.sh
     have e3:z'.f=1:=by
      simp[QB,Zx]at e2;omega
     obtain⟨g',bs,G,E,⟨br,av,k1⟩,⟨bt,bn,k2⟩⟩:=bi;rw[hme']at B;obtain⟨l,w',s',n,f⟩:=z';obtain rfl:f=1:=e3;have ay:∀e∈(#[Wj .disable,QA x.m 1,QD x.m 1,Wj .enable]:Array Event),HW x.m e:=by intro e he;simp at he;rcases he with rfl|rfl|rfl|rfl <;> first|exact .inl rfl|exact .inr ⟨1,_,O1,rfl⟩
     have ah:s'=0\/s'=1:=by have:s'<=1:=hx'.inv.1.1.2.2.1;omega
     rcases ah with rfl|rfl
     .exact .inr (MI.mu (me':=.wok c) (z':=⟨l,w',0,n,0⟩) (lo':=lo) Fin.running S Z X K B k0' hoff' hx' aa (E _) G (by rw[<- hme'];exact .upo rfl rfl) hlo' (by rw[<- hme'];rfl) (by rw[<- hme'];rfl) ay rfl (.inr (.inl rfl)) av k1).nx
     .exact .inr (MI.mu (me':=.wos c 0) (z':=⟨l,w',1,n,0⟩) (lo':=lo) Fin.running S Z X K B k0' hoff' hx' aa (E _) G (by rw[<- hme'];exact .ups rfl rfl) hlo' (by rw[<- hme'];rfl) (by rw[<- hme'];rfl) ay rfl (.inr (.inl rfl)) bn k2).nx
   |macq Y B G E k=>
    rename_i b D x s lo bs g'
    have K:i≠0:=λ e=>by
     obtain⟨_,_,_,_,_,_,H|H⟩:=ab e
     .rw[B]at H;cases H
     .rw[B]at H;cases H
    have U:m=false:=by rw[<- hm];simpa using K
    subst U;obtain⟨u,lp,zz,k0,F,hx,ac,aa,ae,-⟩:=S.lock (i:=i) (x:=x) (s:=s) (me:=.got) (lo:=lo) (by unfold Q8;rw[B]);have ag:=hx.dep' (by rw[(hx.inv.owns aa (by rw[<- ac];rfl)).1,<- ac];rfl);obtain⟨r',z,k⟩:=k (λ s=>(lp s).rels) _ (by rw[<- ac];rfl) ag;rw[ac]at B;exact .inr (S.macq Fin.running Z X K B ac.symm aa ae k0 F hx E G z k).nx
   |mrel Y B G hM hD E k=>
    rename_i b D x s lo R bs g' M₁ M₂
    have K:i≠0:=λ e=>by
     obtain⟨_,_,_,_,_,_,H|H⟩:=ab e
     .rw[B]at H;cases H
     .rw[B]at H;cases H
    have U:m=false:=by rw[<- hm];simpa using K
    subst U;obtain⟨u,lp,zz,k0,F,hx,ac,aa,ae,-⟩:=S.lock (i:=i) (x:=x) (s:=s) (me:=.own R) (lo:=lo) (by unfold Q8;rw[B]);obtain⟨r',z,k⟩:=k;rw[ac]at B;exact .inr (S.mrel Fin.running Z X K B ac.symm aa ae k0 F hx hM hD E G z k).nx
   |go Y B E hf hp hc ap k k'=>
    obtain⟨br,s1,k⟩:=k;obtain⟨bt,s2,k'⟩:=k';obtain⟨K,U⟩:=T B;subst K;subst U;obtain⟨F,W,c,wt,s,L,I⟩:=par rfl B;exact .inr (S.start Fin.running Z X B F L I E hf hp hc ap s1 s2 k k').nx
   |lay Y B ap hD G E k=>
    obtain⟨n,k⟩:=k
    have K:i≠0:=by
     intro e;subst e;obtain⟨_,_,_,_,_,_,H|H⟩:=ab rfl
     .rw[B]at H;cases H
     .rw[B]at H;cases H
    have U:m=false:=by rw[<- hm];simpa using K
    subst U;exact .inr (S.lay Fin.running Z X K B ap hD E G k).nx
def Sh.at{b:Nat}{st sm:Value}(h:Sh b t st sm w)(d:Nat):Sh b t st sm (w.at d):=h
def MI.at{ex:Option Nat}{Stop:QK Tk}(h:MI P t N Stop ex gs w tr V rk rel q)(d:Nat):MI P t N Stop ex gs (w.at d) tr V rk rel q:=by
 refine⟨h.live,h.root,h.gone,h.tail,h.above,h.bare,h.wk,h.wk',h.deaf,h.deps,h.vi.heap rfl,h.ti,?_,h.mux.at (λ _=>rfl) rfl (λ _ z _=>z) (λ _ _ _ _ _ x=>x) (λ j x s me lo y _ B f=>⟨y,B,f⟩),h.bareM⟩;have e:=h.grp;unfold QI at e ⊢
 revert e
 cases(V (.run 0)).tok.ph with
 |par b ds pend k=>exact λ e=>e
 |_=>exact λ e=>e
def MI.status(h:MI P t N (Fin P Q) none gs w tr V rk rel q){i:Nat}{g:Gr}(f:gs[i]?=some g):g.status=.running\/g.status=.blocked\/g.status=.finished:=by
 cases z:rk i with
 |some r=>
  obtain⟨E,F,e⟩:=h.live i r S1 z;have:=F.running Fin.running;rcases e with e|⟨e,_⟩
  .rw[f]at e;cases e;exact .inl this
  .rw[f]at e;cases e;exact .inr (.inl rfl)
 |none=>
  by_cases B:(V (.run i)).tok.ph=.out
  .exact(h.gone i g z f B).status.elim .inl λ x=>.inr (.inr x)
  .obtain⟨x,b,hx,_,ht⟩:=h.tail i z B;rw[f]at hx;cases hx;exact .inl ht.running
def MI.someone(h:MI P t N (Fin P Q) none gs w tr V rk rel q):∃(i:Nat)(g:Gr),gs[i]?=some g/\g.status=.running:=by
 have lck:∀i r g,rk i=some r->i≠0->gs[i]?=some g->g.status≠.running->∃(i:Nat)(g:Gr),gs[i]?=some g/\g.status=.running:=by
  intro i r g hr G S T;obtain⟨am,hJ,E⟩:=h.live i r S1 hr;have F:=hJ.running Fin.running;rcases E with E|⟨E,_,hb⟩
  .rw[S]at E;cases E;exact absurd F T
  .rcases hb with⟨e,_⟩|⟨d,b,D,x,s,c,lo,K⟩
   .exact absurd e G
   .have hk:Q8 V i=some (.lok x s (.wai c) lo):=by unfold Q8;rw[K]
    obtain⟨u,lp,z,k0,aj,B,ad,af,-⟩:=h.lock hk;have ag:=B.slp i _ _ _ _ g hk S T;obtain⟨Y,-,q1,q2,q3⟩:=B.inv.awake af ad.symm ag
    have hu:u Y=true:=by
     cases hu:u Y with
     |true=>rfl
     |false=>exact absurd (B.idle _ hu) q1
    rcases B.who _ hu with h1|⟨j,me,lo',e⟩
    .exact absurd h1 q2
    .have Z:j≠0:=λ Z=>by subst Z;rw[k0]at e;cases e
     have ae:rk j≠none:=λ hn=>by rw[h.bareM j hn]at e;cases e
     obtain⟨ai,U⟩:=Option.ne_none_iff_exists'.1 ae;obtain⟨aa,L,f⟩:=h.live j ai S1 U;have I:=L.running Fin.running;rcases f with f|⟨f,_,M⟩
     .exact⟨j,aa,f,I⟩
     .exfalso;rcases M with⟨e',_⟩|⟨d',b',D',x',s',c',ak,X⟩
      .exact Z e'
      .unfold Q8 at e;rw[X]at e;cases e;have:=(B.tk j _ _ _ _ (show Q8 V j=_ by unfold Q8;rw[X])).2.1;exact q3 c' this.symm
 obtain⟨r,hr⟩:=Option.ne_none_iff_exists'.1 h.root;obtain⟨g,hJ,E⟩:=h.live 0 r S1 hr;have F:=hJ.running Fin.running;rcases E with E|⟨E,_,hb⟩
 .exact⟨0,g,E,F⟩
 .rcases hb with⟨-,b,ds,mu,K⟩|⟨d,b,D,x,s,c,lo,K⟩
  rotate_left
  .have hG:=h.grp;unfold QI at hG;rw[K]at hG;exact hG.elim
  obtain⟨al,pend,k,e,_,W,c,wt,s,_,ac,h4⟩:=h.par' (b:=b) (by rw[K];rfl);rw[K]at e;cases e;have hs:=h4 _ E S1;subst hs;obtain⟨i,S⟩:=ac.someone;have G:i≠0:=λ e=>S (by simp[Z5,e]);have hp:(V (.run i)).tok.ph≠.out:=by simpa[Z5,G]using S
  cases H:rk i with
  |some r'=>
   obtain⟨x,ab,B⟩:=h.live i r' S1 H;rcases B with B|⟨B,_⟩
   .exact⟨i,x,B,ab.running Fin.running⟩
   .exact lck i r' _ H G B S1
  |none=>
   obtain⟨x,b',B,_,ah⟩:=h.tail i H hp;exact⟨i,x,B,ah.running⟩
def MI.move(h:MI P t N (Fin P Q) none gs w tr V rk rel q) :
  (∃o w' ops,stepT P (crowd gs w sl)=(.ended o w',ops)/\Conc.Good P (λ v W'=>∃U,Q v U/\U.ok W'/\WE w.os W'.os/\W'.output=w.output) (crowd gs w sl) o w' (tr++ops)) \/
  (∃f w' B ops V' rk' rel' q',stepT P (crowd gs w sl)=(.next (crowd f w' B),ops)/\Relation.TransGen JF (QF f rk' q') (QF gs rk q)/\MI P t N (Fin P Q) none f w' (tr++ops) V' rk' rel' q'/\WE w.os w'.os/\w'.output=w.output):=by
 have ae:∀g∈gs,awake g:=by
  intro g hg;obtain⟨i,S,rfl⟩:=Array.mem_iff_getElem.1 hg;intro tm e;rcases h.status (Array.getElem?_eq_getElem S)with x|x|x <;> rw[e]at x <;> cases x
 obtain⟨i,g,d,B,S,I,aa⟩:=crowd_pick (P:=P) (w:=w) (sl:=sl) ae h.someone;have hd:=h.at d
 have fin:Nx P t N (Fin P Q) gs (w.at d) B tr (QF gs rk q) i->∃f w' B ops V' rk' rel' q',stepT P (crowd gs w sl)=(Stepped.next (crowd f w' B),ops)/\Relation.TransGen JF (QF f rk' q') (QF gs rk q)/\MI P t N (Fin P Q) none f w' (tr++ops) V' rk' rel' q'/\WE w.os w'.os/\w'.output=w.output:=by
  rintro⟨f,w',ops,V',rk',rel',q',a,b,c,dd⟩;exact⟨f,w',B,ops,V',rk',rel',q',aa.trans a,c,b,dd⟩
 cases hr:rk i with
 |none=>
  by_cases X:(V (.run i)).tok.ph=.out
  .exact .inr (fin (hd.leaver Fin.running S I hr X).nx)
  .exact .inr (fin (hd.tailStep Fin.running S hr X).nx)
 |some r=>
  rcases MI.alive r (sl:=B) hd S I hr with⟨rfl,V',rk',rel',q',H,_,_,K,v,hq,T⟩|hn
  .left;have W:=H.vi.ok (.run 0);obtain⟨es,aj,af⟩:=T _ W;have hG:=H.grp;unfold QI at hG;rw[K]at hG;obtain⟨M,Z⟩:=hG
   have ai:∀j,j≠0->rk' j=none:=by
    intro j E;cases e:rk' j with
    |none=>rfl
    |some r=>
     obtain⟨b,D,e'⟩:=H.wk j E (by rw[e];simp);rw[M j E]at e';cases e'
   obtain⟨rm,ac⟩:=H.ti;have ag:∀b,J0 V'=some b->b<(w.at d).heap.size/\QJ b (V' (.run 0)):=λ b F=>⟨(H.mux.mb F).1,(H.mux.mb F).2.1 _⟩;have ab:TI _ _ _ _ _ _ _ _ _ (tr++MemOp.ofEvents 0 g.frame.fn g.frame.place es):=OM (fn:=g.frame.fn) (pos:=g.frame.place) ac H.vi (λ b F=>by rw[K]at F;cases F) ag af (.refl _ _) (.inl rfl)
   have L:∀j,j≠0->Deaf (tr++MemOp.ofEvents 0 g.frame.fn g.frame.place es) j=Deaf tr j:=by
    intro j E;refine Deaf_other tr (Ne.symm E) _ ?_;intro op ah;obtain⟨e,_,rfl⟩:=Go.Conc.mem_ofEvents ah;rfl
   have Y:∀j x,j≠0->gs[j]?=some x->QuitsD P (q' j) (Deaf tr j) x:=λ j x E G=>H.gone j x (ai j E) G (M j E);refine⟨.done v,w.at d,_,aa.trans (ConcN.runT_crowd_ended S aj),v,rfl,⟨_,hq,W,.refl _,rfl⟩,ab.clean,?_,⟨?_,rfl⟩,?_⟩
   .intro j x G hne hc;rcases ab.hand j x G hne hc with⟨b,D,e⟩|⟨r,e,_⟩|⟨p,z,X,hz,F⟩
    .by_cases e0:x=0
     .exact absurd e0 hne
     .rw[M x e0]at e;cases e
    .rw[Z]at e;cases e
    .refine⟨p,by simp[Trace.g?,X,hz],?_⟩;rcases F with rfl|F
     .simp only[Trace.g?,X,Option.map_some,Option.some.injEq]at G;exact absurd (G.symm.trans hz) hne
     .exact F
   .intro x G;obtain⟨j,E,ad⟩:=mem_iff_getElem.1 G;rw[getElem_drop]at ad
    have:gs[1+j]?=some x:=by
     rw[<- ad];simp only[crowd]at E ⊢;have:1+j<gs.size:=by simp at E;omega
     simp[this]
    exact⟨_,(Y (1+j) x O1 this).leaves⟩
   .intro j x G E;have:=Y j x E G;refine⟨q' j,?_⟩;have e:(tr++MemOp.ofEvents 0 g.frame.fn g.frame.place es).deaf j (tr++MemOp.ofEvents 0 g.frame.fn g.frame.place es).size=Deaf tr j:=L j E;rw[e];exact this.hears _
  simp_all
def SG(h:Conc.Good P f B o w' tr)(z:∀v W',f v W'->e v W'):Conc.Good P e B o w' tr:=
 h.elim λ v x=>⟨v,x.1,z v _ x.2.1,x.2.2⟩
def runs(h:MI P t N (Fin P Q) none gs w tr V rk rel q) :
  ∃n last o w' e,runNT P (n+1) (crowd gs w sl) tr=(.ended o w',e)/\runN P n (crowd gs w sl)=.next last/\step P last=.ended o w'/\Conc.Good P (λ v W'=>∃U,Q v U/\U.ok W'/\WE w.os W'.os/\W'.output=w.output) last o w' e:=by
 have key:∀(μ:List Tr×Nat)gs w sl tr V rk rel q,QF gs rk q=μ->MI P t N (Fin P Q) none gs w tr V rk rel q ->
   ∃n last o w' e,runNT P (n+1) (crowd gs w sl) tr=(.ended o w',e)/\runN P n (crowd gs w sl)=.next last/\step P last=.ended o w'/\Conc.Good P (λ v W'=>∃U,Q v U/\U.ok W'/\WE w.os W'.os/\W'.output=w.output) last o w' e:=by
  intro μ
  induction μ using(WellFounded.transGen LR).induction with
  |_ μ L=>
   intro gs w sl tr V rk rel q K h;rcases h.move (sl:=sl)with⟨o,w',ops,z,I⟩|⟨B,w',F,ops,V',rk',rel',q',z,G,H,E,f⟩
   .exact⟨0,crowd gs w sl,o,w',tr++ops,by simp[runNT,z],rfl,by simp[step,z],I⟩
   .obtain⟨n,last,o,w'',e,k1,k2,k3,k4⟩:=L _ (K▸G) B w' F (tr++ops) V' rk' rel' q' rfl H;exact⟨n+1,last,o,w'',e,by grind[runNT_succ_next],by grind[runN_succ_next],k3,SG k4 λ v W'⟨U,a,b,c,d⟩=>⟨U,a,b,E.trans c,d.trans f⟩⟩
 exact key _ gs w sl tr V rk rel q rfl h
def Lz(V:JR (Zj P t N) (Fin P Q) r true g U)(M:U.ok w)(z:U.tok=⟨0,.out,none⟩) :
  MI P t N (Fin P Q) none #[g] w #[] (Q7 (λ _=>ZN) (.run 0) U) (Q9 (λ _=>none) 0 (some r)) (λ _=>none) (λ _=>0):=by
 have G:Q7 (λ _=>ZN) (.run 0) U (.run 0)=U:=Qj ..;have H:∀j,j≠0->Q7 (λ _=>ZN) (.run 0) U (.run j)=ZN:=λ j X=>Qg _ _ (λ e=>X (Hd.run.inj e));have I:∀k,k≠.run 0->Q7 (λ _=>ZN) (.run 0) U k=ZN:=λ k Y=>Qg _ _ Y;have W:∀j,Deaf #[] j=0:=λ _=>rfl
 have no:∀i a,touchAt #[] i≠some a:=by
  intro i a h;obtain⟨x,K,_⟩:=touch_of h;simp at K
 have B:∀j,Q8 (Q7 (λ _=>ZN) (.run 0) U) j=none:=by
  intro j;unfold Q8;by_cases e:j=0
  .subst e;rw[G,z]
  .rw[H j e];rfl
 have T:Q7 (λ _=>ZN) (.run 0) U .lck=ZN:=I _ S1;refine⟨?_,by rw[Qf];simp,?_,?_,?_,?_,?_,?_,?_,?_,?_,⟨none,?_⟩,?_,⟨λ j x u _ e=>(by rw[B]at e;cases e),by rw[T];rfl,by simp_all⟩,λ j _=>B j⟩
 .intro i r' _ f;by_cases e:i=0
  .subst e;rw[Qf]at f;grind
  .rw[Qv _ _ e]at f;cases f
 .intro i x f K _;have e:i≠0:=λ e=>by subst e;rw[Qf]at f;cases f
  simp_all
 .intro i f hp;have e:i≠0:=λ e=>by simp_all
  rw[H i e]at hp;exact absurd rfl hp
 .intro i L;simp at L;exact⟨Qv _ _ O1,W i,rfl⟩
 .intro i f;have e:i≠0:=λ e=>by subst e;rw[Qf]at f;cases f
  rw[H i e];exact⟨rfl,rfl⟩
 .intro i h0 f;rw[Qv _ _ h0]at f;simp_all
 .intro i E;by_cases e:i=0
  .subst e;rw[Qf];simp
  .rw[H i e]at E;obtain⟨_,_,e⟩:=E;cases e
 .intro i f;by_cases e:i=0
  .simp_all
  .rw[Qv _ _ e]at f;simp_all
 .simp_all
 .refine⟨λ k=>?_,λ F S l Z E f=>?_⟩
  .by_cases e:k=.run 0
   .simp_all
   .rw[I k e];exact VY _ _
  .by_cases e:F=.run 0
   .subst e;rw[I S (Ne.symm Z)]at f;exact Wn _ _ f
   .rw[I F e]at E;exact Wo _ _ E
 .refine⟨λ said=>?_,λ k i a h=>absurd h (no i a),λ op h=>by simp at h,λ i a h=>?_,λ i a h=>absurd h (no i a),λ i a h=>absurd h (no i a),λ g r h=>(by cases h),λ i g h=>?_,λ i a h=>absurd h (no i a),λ i a h=>absurd h (no i a),λ r h=>(by cases h)⟩
  .rintro⟨i,j,_,⟨a,b,ha,_⟩,_⟩;exact no i a ha
  .simp[Trace.act?]at h
  .simp[Trace.g?]at h
 .unfold QI;rw[G,z];exact⟨λ i L=>by rw[H i L];rfl,λ _=>rfl⟩
def J.runs{g:Gr}{U:Qa Tk}(f:J (Zj P t N) (Fin P Q) true g U)(z:U.ok w)(e:U.tok=⟨0,.out,none⟩) :
  ∃n last o w' B,runNT P (n+1) (solo g w) #[]=(.ended o w',B)/\runN P n (solo g w)=.next last/\step P last=.ended o w'/\Conc.Good P (λ v W'=>∃U,Q v U/\U.ok W'/\WE w.os W'.os/\W'.output=w.output) last o w' B:=by
 obtain⟨r,f⟩:=f.rank;rw[solo_eq_crowd];exact TM.runs (Lz f z e)
