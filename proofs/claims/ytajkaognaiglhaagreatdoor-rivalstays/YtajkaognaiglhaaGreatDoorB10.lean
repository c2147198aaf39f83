/- Lemmas. No conditions. -/
import Derived.Test.YtajkaognaiglhaaGreatDoorB01
import Derived.Test.YtajkaognaiglhaaGreatDoorB09
set_option linter.all false
open List
namespace Go.TM
variable{P:Program}{t:TypeId}{m:Bool}{n N b d k:Nat}{g g':Gr}{l bs:List (Nat×Bool)}{U:Qa Tk}{Stop:QK Tk}{p:Ph}{st sm:Value}{es:Array Event}{s:SE}
section
open Go.Conc (QuitsD)
def WH(P:Program)(t:TypeId)(m:Bool):Nat->Gr->Option (Gr×List (Nat×Bool))
 |0,g=>some (g,[])
 |n+1,g=>match g.status,Q5 P t m g undef undef with
  |.running,.go g' _ _ es bs=>bif es.isEmpty&&bs.all (!·.2)then(WH P t m n g').map (λ x=>(x.1,bs++x.2))else none
  |_,_=>none
def JY(P:Program)(t:TypeId)(m:Bool)(n:Nat)(g:Gr):Gr:=match WH P t m n g with|some x=>x.1|none=>g
def JX(P:Program)(t:TypeId)(m:Bool)(n:Nat)(g:Gr):Option (List (Nat×Bool)):=(WH P t m n g).map (·.2)
def VP(h:WH P t m (n+1) g=some (g',l)) :
  ∃e bs l',g.status=.running/\(∀st sm,Q5 P t m g st sm=.go e st sm #[] bs)/\WH P t m n e=some (g',l')/\l=bs++l':=by
 simp only[WH]at h;split at h
 .rename_i e st' sm' es bs hs hst;cases w:es.isEmpty&&bs.all (!·.2)with
  |false=>rw[w]at h;cases h
  |true=>
   rw[w]at h;simp only[cond_true]at h;obtain⟨⟨F,l'⟩,z,B⟩:=Option.map_eq_some_iff.1 h;cases B;simp only[Bool.and_eq_true,Array.isEmpty_iff]at w;obtain⟨rfl,E⟩:=w;obtain⟨-,f⟩:=Ug _ _ _ _ _ _ _ hst E;grind
 .cases h
def Vi(h:JX P t m n g=some l):WH P t m n g=some (JY P t m n g,l):=by
 grind[JX,JY]
def OP{b:Nat}(w:U.tok.ph.blk=some b):∀{n:Nat}{g g':Gr}{l:List (Nat×Bool)},WH P t m n g=some (g',l)->Js b l->J (Zj P t N) Stop m g' U->J (Zj P t N) Stop m g U
 |0,g,g',l,h,_,k=>by grind[WH,Option.some.injEq,Prod.mk.injEq]
 |n+1,g,g',l,h,z,k=>by
  obtain⟨B,bs,l',F,e,E,rfl⟩:=VP h;exact .syn (QC.quiet F w e (λ y f=>z y (mem_append_left _ f)) (OP w E (λ y f=>z y (mem_append_right _ f)) k))
def J.calm(e:U.tok.ph.blk=some b)(h:JX P t m n g=some l)(f:Js b l)(k:J (Zj P t N) Stop m (JY P t m n g) U):J (Zj P t N) Stop m g U:=
 OP e (Vi h) f k
def DU{b d k:Nat}{p:Ph}:∀{n:Nat}{g g':Gr}{l:List (Nat×Bool)},WH P t false n g=some (g',l)->Js b l->Tl P t N b k d p g'->Tl P t N b (n+k) d p g
 |0,g,g',l,h,_,q=>by simp_all[WH,Option.some.injEq,Prod.mk.injEq,Nat.zero_add]
 |n+1,g,g',l,h,z,q=>by
  obtain⟨e,bs,l',E,f,B,rfl⟩:=VP h;rw[show n+1+k=(n+k)+1 by omega];exact⟨E,.inl ⟨e,#[],bs,S1,λ y w=>z y (mem_append_left _ w),f,DU B (λ y w=>z y (mem_append_right _ w)) q⟩⟩
def Tl.calm(h:JX P t false n g=some l)(e:Js b l)(q:Tl P t N b k d p (JY P t false n g)):Tl P t N b (n+k) d p g:=
 DU (Vi h) e q
def Sy{d k:Nat}:∀{n:Nat}{g g':Gr},WH P t false n g=some (g',[])->QuitsD P k d g'->QuitsD P (n+k) d g
 |0,g,g',h,q=>by simp_all[WH,Option.some.injEq,Prod.mk.injEq,Nat.zero_add]
 |n+1,g,g',h,q=>by
  obtain⟨e,bs,l',E,f,B,z⟩:=VP h;have:bs=[]/\l'=[]:=by simpa using z.symm
  obtain⟨rfl,rfl⟩:=this;rw[show n+1+k=(n+k)+1 by omega];exact .inr ⟨E,e,#[],S1,λ w=>KY (f undef undef) w,Sy B q⟩
def SX(h:JX P t false n g=some [])(q:QuitsD P k d (JY P t false n g)):QuitsD P (n+k) d g:=Sy (Vi h) q
def SY(z:g.status=.running)(h:Q5 P t false g undef undef=.go g' st sm es [])(f:∀e∈es,Event.mute e=true)(q:QuitsD P k (deafBehind d es) g'):QuitsD P (k+1) d g:=
 .inr ⟨z,g',es,f,λ w=>KY h w,q⟩
def SE.info:SE->Option (Value×Value×Array Event×List (Nat×Bool))
 |.go _ st sm es bs=>some (st,sm,es,bs)
 |_=>none
def SE.of_info(h:s.info=some (st,sm,es,bs)):s=.go (s.get g) st sm es bs:=by
 cases s <;> simp only[SE.info,Option.some.injEq,Prod.mk.injEq,reduceCtorEq]at h;obtain⟨rfl,rfl,rfl,rfl⟩:=h;rfl
def HM(h:(Q5 P t m g undef undef).info=some (st,sm,es,bs))(e:bs.all (!·.2)=true):∀st sm,Q5 P t m g st sm=.go ((Q5 P t m g undef undef).get g) st sm es bs:=
 (Ug _ _ _ _ _ _ _ (SE.of_info h) e).2
def Tl.mute{b d n:Nat}{p:Ph}{g:Gr}{st sm:Value}{es:Array Event}{bs:List (Nat×Bool)}(h:(Q5 P t false g undef undef).info=some (st,sm,es,bs))(w:bs.all (!·.2)=true)(f:Js b bs)
  (z:∀e∈es,Event.mute e=true) (k:Tl P t N b n (deafBehind d es) p ((Q5 P t false g undef undef).get g)):Tl P t N b (n+1) d p g:=
 ⟨Zp (SE.of_info (g:=g) h),.inl ⟨_,es,bs,z,f,HM h w,k⟩⟩
def Fo(h:(Q5 P t false g undef undef).info=some (st,sm,es,[]))(f:∀e∈es,Event.mute e=true)(q:QuitsD P k (deafBehind d es) ((Q5 P t false g undef undef).get g)):QuitsD P (k+1) d g:=
 SY (Zp (SE.of_info (g:=g) h)) (SE.of_info h) f q
def KU:∀{n d k:Nat}{g:Gr},QuitsD P n d g->QuitsD P (n+k) d g
 |0,d,k,g,h=>by cases k with|zero=>exact h|succ k=>exact .inl h
 |n+1,d,k,g,h=>by
  rw[show n+1+k=(n+k)+1 by omega];exact h.imp id λ⟨w,g',es,f,e,q⟩=>⟨w,g',es,f,e,KU q⟩
end
variable{x pend:Bool}{ds:List Spec}{k₀:PS}{mu:Option ZL}
def Z0:Js b []:=λ _ h=>by cases h
def Z9:Js b [(b,x),(b,m)]:=λ z h=>by grind
def Xz:Js b [(b,x)]:=λ z h=>by simp_all
def J.dis(e:U.tok=⟨d,.par b ds pend k₀,mu⟩)(h:(Q5 P t m g undef undef).info=some (st,sm,#[Wj .disable],[]))(k:J (Zj P t N) Stop m ((Q5 P t m g undef undef).get g) (U.at (d+1) (.par b ds pend k₀))):J (Zj P t N) Stop m g U:=
 .syn (QC.dis (Zp (SE.of_info (g:=g) h)) e (HM h rfl) Z0 k)
def J.ena(e:U.tok=⟨d+1,.par b ds pend k₀,mu⟩)(h:(Q5 P t m g undef undef).info=some (st,sm,#[Wj .enable],[]))(k:J (Zj P t N) Stop m ((Q5 P t m g undef undef).get g) (U.at d (.par b ds pend k₀))):J (Zj P t N) Stop m g U:=
 .syn (QC.ena (Zp (SE.of_info (g:=g) h)) e (HM h rfl) Z0 k)
def J.said(wr:Bool)(e:U.tok=⟨1,.par b ds pend k₀,mu⟩)(h:(Q5 P t m g undef undef).info=some (st,sm,#[Wj (bif wr then .write ⟨b,1,none⟩else .read ⟨b,1,none⟩)],[]))(k:J (Zj P t N) Stop m ((Q5 P t m g undef undef).get g) U):J (Zj P t N) Stop m g U:=
 .syn (QC.said (wr:=wr) (Zp (SE.of_info (g:=g) h)) e (HM h rfl) Z0 k)
def J.acq(f:U.tok=⟨0,.par b ds false .up,none⟩)(h:(Q5 P t m g undef undef).info=some (st,sm,#[Wj (.acquire ⟨b,0,none⟩)],[]))(k:∀e,XL ds e->J (Zj P t N) Stop m ((Q5 P t m g undef undef).get g) ((U.with e.flatten).at 0 .out)):J (Zj P t N) Stop m g U:=
 .syn (QC.acq (Zp (SE.of_info (g:=g) h)) f Z0 (HM h rfl) k)
def J.acqM{x:ZA}{u:Nat->Bool}(f:U.tok=⟨0,.par b ds false .up,some (.par x u)⟩)(h:(Q5 P t m g undef undef).info=some (st,sm,#[Wj (.acquire ⟨b,0,none⟩)],[]))(k:∀e M,XL ds e->x.sp u M->J (Zj P t N) Stop m ((Q5 P t m g undef undef).get g) { U with M:=(U.M++e.flatten)++M,tok:=⟨0,.out,none⟩ }):J (Zj P t N) Stop m g U:=
 .syn (QC.acqM (Zp (SE.of_info (g:=g) h)) f Z0 (HM h rfl) k)
def J.add(w:U.tok=⟨1,.par b ds false .run,mu⟩)(f:ds.length<N)(h:∀c,c<=ds.length->(Q5 P t m g (Jh c 0) (Zx 0)).info=some (Jh (c+1) 0,Zx 0,#[QA b 0,QD b 0],[(b,true),(b,true)]) /\
  J (Zj P t N) Stop m ((Q5 P t m g (Jh c 0) (Zx 0)).get g) (U.at 1 (.par b ds true .run))):J (Zj P t N) Stop m g U:=
 .syn (QC.add (Zp (SE.of_info (g:=g) (h 0 (Nat.zero_le _)).1)) w f λ c e=>⟨_,_,SE.of_info (g:=g) (h c e).1,Z9,(h c e).2⟩)
def J.load(w:U.tok=⟨1,.par b ds false k₀,mu⟩)(f:X9 ds n k₀)(h:∀c,c<=n->(Q5 P t m g (Jh c 0) (Zx 0)).info=some (Jh c 0,Zx 0,#[QA b 0],[(b,true)]) /\
  (J (Zj P t N) Stop m ((Q5 P t m g (Jh c 0) (Zx 0)).get g) (U.at 1 (.par b ds false (.seen c)))\/(c=0/\J (Zj P t N) Stop m ((Q5 P t m g (Jh c 0) (Zx 0)).get g) (U.at 1 (.par b ds false .up))))):J (Zj P t N) Stop m g U:=
 .syn (QC.look (Zp (SE.of_info (g:=g) (h 0 (Nat.zero_le _)).1)) w f λ c e=>⟨_,_,Xz,.inl ⟨SE.of_info (g:=g) (h c e).1,(h c e).2⟩⟩)
def J.look2{bs:List (Nat×Bool)}(f:U.tok=⟨1,.par b ds false .up,mu⟩)(e:Js b bs)(h:(Q5 P t m g (Jh 0 0) (Zx 0)).info=some (Jh 0 0,Zx 0,#[QA b 0],bs))(k:J (Zj P t N) Stop m ((Q5 P t m g (Jh 0 0) (Zx 0)).get g) U):J (Zj P t N) Stop m g U:=
 .syn (QC.look2 (Zp (SE.of_info (g:=g) h)) f e (SE.of_info (g:=g) h) k)
def DT:∀{n:Nat}{g g':Gr},WH P t m n g=some (g',[])->J (Zj P t N) Stop m g' U->J (Zj P t N) Stop m g U
 |0,g,g',h,k=>by grind[WH,Option.some.injEq,Prod.mk.injEq]
 |n+1,g,g',h,k=>by
  obtain⟨f,bs,l',E,e,B,z⟩:=VP h;have:bs=[]/\l'=[]:=by simpa using z.symm
  obtain⟨rfl,rfl⟩:=this;exact J.still E (λ w=>KY (e undef undef) w) (DT B k)
def J.calm0(h:JX P t m n g=some [])(k:J (Zj P t N) Stop m (JY P t m n g) U):J (Zj P t N) Stop m g U:=DT (Vi h) k
def J.cas(F:U.tok=⟨1,.par b ds false k₀,mu⟩)(B:X9 ds n k₀)(E:g.status=.running)(h:∀c,c<=n ->
  (∃bs,Js b bs/\(Q5 P t m g (Jh c 0) (Zx 0)).info=some (Jh c 0,Zx 0,#[QA b 0],bs)/\J (Zj P t N) Stop m ((Q5 P t m g (Jh c 0) (Zx 0)).get g) (U.at 1 (.par b ds false (.seen c)))) \/
  (1<=c/\∃bs,Js b bs/\(Q5 P t m g (Jh c 0) (Zx 0)).info=some (Jh c 1,Zx 0,#[QA b 0,QD b 0],bs)/\J (Zj P t N) Stop m ((Q5 P t m g (Jh c 0) (Zx 0)).get g) (U.at 1 (.par b ds false .wait)))):J (Zj P t N) Stop m g U:=
 .syn (QC.look E F B λ c z=>by
  rcases h c z with⟨bs,e,f,k⟩|⟨w,bs,e,f,k⟩
  .exact⟨_,bs,e,.inl ⟨SE.of_info (g:=g) f,.inl k⟩⟩
  .exact⟨_,bs,e,.inr ⟨w,SE.of_info (g:=g) f,k⟩⟩)
def Xi:∀{n:Nat}{l:List Nat},l.Nodup->(∀x∈l,x<n)->l.length<=n
 |0,l,_,h=>by
  cases l with
  |nil=>simp
  |cons a l=>exact absurd (h a S1) O1
 |n+1,l,f,h=>by
  have z:(l.erase n).length<=n:=Xi (f.erase n) λ x w=>by
   have B:=h x (mem_of_mem_erase w);have E:=(f.mem_erase_iff.1 w).1;omega
  grind
def Ja(l:List Nat):Nat:=l.foldl (λ d k=>d||| (1<<<k)) 0
def Py(i k:Nat):(1<<<i).testBit k=decide (k=i):=by
 rw[Nat.one_shiftLeft,Nat.testBit_two_pow];grind
def BY(l:List Nat):∀(d k:Nat),(l.foldl (λ d k=>d||| (1<<<k)) d).testBit k=(d.testBit k|| l.contains k):=by
 induction l with
 |nil=>simp
 |cons a l e=>
  intro d k;rw[foldl_cons,e,Nat.testBit_or,Py];grind
def W3(l:List Nat)(k:Nat):(Ja l).testBit k=l.contains k:=by simp[Ja,BY]
section
variable(A:List (List Nat))
def Jd(i:Nat):List Nat:=A.getD i []
def WI(d i:Nat):Nat:=if(Jd A i).all (λ k=>d.testBit k)then d||| (1<<<i)else d
def EB(d:Nat):Nat:=(range A.length).foldl (WI A) d
def JP:Nat->Nat
 |0=>0
 |k+1=>EB A (JP k)
def W4:Bool:=decide (JP A A.length≠2^A.length-1)
def WL(two:Nat):Nat->Nat->Bool
 |0,_=>false
 |s+1,one=>(Jd A one).any λ k=>k==two|| WL two s k
def GC:Bool:=(range A.length).any λ i=>WL A i A.length i
structure ZO(d:Nat)(L:List Nat):Prop where
 bit:∀k,d.testBit k=true↔k∈L
 low:∀k∈L,k<A.length
 nod:L.Nodup
 aft:∀(X Y:List Nat)x,L=X++x::Y->∀k∈Jd A x,k∈Y
end
variable{i:Nat}{L:List Nat}
section
variable(A:List (List Nat))
variable{A}
def ZO.nil:ZO A 0 []:=⟨S1,S1,.nil,λ X Y x h=>by simp_all⟩
def ZO.step(h:ZO A d L)(G:i<A.length):∃w,ZO A (WI A d i) w/\(w=L\/w=i::L)/\(i∈w\/∃k∈Jd A i,k∉L):=by
 unfold WI;by_cases E:i∈L
 .refine⟨L,?_,.inl rfl,.inl E⟩;split
  .refine⟨λ k=>?_,h.low,h.nod,h.aft⟩;rw[Nat.testBit_or,Bool.or_eq_true,Py,h.bit];simp_all
  .exact h
 .by_cases ha:(Jd A i).all (λ k=>d.testBit k)=true
  .rw[if_pos ha];rw[all_eq_true]at ha;refine⟨i::L,⟨λ k=>?_,?_,nodup_cons.2 ⟨E,h.nod⟩,?_⟩,.inr rfl,.inl S1⟩
   .rw[Nat.testBit_or,Bool.or_eq_true,Py,h.bit,mem_cons];grind
   .intro k f;rcases mem_cons.1 f with rfl|f
    .exact G
    .exact h.low k f
   .intro X Y x e k f;cases X with
    |nil=>
     simp only[nil_append,List.cons.injEq]at e;obtain⟨rfl,rfl⟩:=e;exact(h.bit k).1 (ha k f)
    |cons y X=>
     simp only[cons_append,List.cons.injEq]at e;exact h.aft X Y x e.2 k f
  .rw[if_neg ha];refine⟨L,h,.inl rfl,.inr ?_⟩
   have:∃k∈Jd A i,¬d.testBit k=true:=by
    apply Classical.byContradiction;intro H;apply ha;rw[all_eq_true];intro k f;apply Classical.byContradiction;intro z;exact H ⟨k,f,z⟩
   obtain⟨k,f,F⟩:=this;exact⟨k,f,λ B=>F ((h.bit k).2 B)⟩
def ZO.fold:∀{l:List Nat}{d:Nat}{L:List Nat},ZO A d L->(∀i∈l,i<A.length)->∃w,ZO A (l.foldl (WI A) d) w/\L.length<=w.length/\(w.length=L.length->w=L/\∀i∈l,i∈L\/∃k∈Jd A i,k∉L)
 |[],d,L,h,_=>⟨L,h,Nat.le_refl _,λ _=>⟨rfl,S1⟩⟩
 |i::l,d,L,h,E=>by
  obtain⟨L₁,F,B,G⟩:=h.step (E i S1);obtain⟨L₂,H,z,I⟩:=ZO.fold (l:=l) F λ j f=>E j (by simp[f]);grind
def ZO.round(h:ZO A d L):∃f,ZO A (EB A d) f/\L.length<=f.length/\(f.length=L.length->f=L/\∀i,i<A.length->i∈L\/∃k∈Jd A i,k∉L):=by
 obtain⟨f,z,B,w⟩:=ZO.fold (l:=range A.length) h S1;exact⟨f,z,B,λ e=>⟨(w e).1,λ i E=>(w e).2 i (by simpa using E)⟩⟩
def ZO.rounds(n:Nat):∃L,ZO A (JP A n) L/\(n<=L.length\/∀i,i<A.length->i∈L\/∃k∈Jd A i,k∉L):=by
 induction n with
 |zero=>exact⟨[],.nil,.inl S1⟩
 |succ n K=>
  obtain⟨L,P,B⟩:=K;obtain⟨z,N,k2,k3⟩:=P.round;refine⟨z,N,?_⟩;by_cases e:z.length=L.length
  .simp_all
  .rcases B with B|B
   .exact .inl O1
   .exfalso
    have:∀(l:List Nat)(d:Nat) , (∀i∈l,i<A.length)->(∀k,d.testBit k=true↔k∈L)->∀k,((l.foldl (WI A) d).testBit k=true↔k∈L):=by
     intro l
     induction l with
     |nil=>simp_all
     |cons i l M=>
      intro d Q G;refine M _ (λ j W=>Q j (by simp[W])) λ k=>?_;unfold WI;split
      .rename_i E;rw[all_eq_true]at E;rcases B i (Q i S1)with V|⟨k',H,f⟩
       .rw[Nat.testBit_or,Bool.or_eq_true,Py,G];constructor
        .rintro(h|h)
         .exact h
         .simp at h;subst h;exact V
        .exact .inl
       simp_all
      .exact G k
    have U:=this (range A.length) (JP A n) S1 P.bit;have w:∀x∈z,x∈L:=λ x F=>(U x).1 ((N.bit x).2 F)
    have Z:z.length<=L.length:=by
     have:∀{X Y:List Nat},X.Nodup->(∀x∈X,x∈Y)->X.length<=Y.length:=by
      intro X
      induction X with
      |nil=>intro Y _ _;simp
      |cons a X K=>
       intro Y f T;obtain⟨E,f⟩:=nodup_cons.1 f;have S:=T a S1
       have:=K (Y:=Y.erase a) f λ x F=>by
        have I:x≠a:=λ e=>E (e▸F);exact(mem_erase_of_ne I).2 (T x (by simp[F]))
       grind
     exact this N.nod w
    omega
def SW{two:Nat}:∀{s e one:Nat},s<=e->WL A two s one=true->WL A two e one=true
 |0,_,_,_,h=>by simp[WL]at h
 |s+1,0,_,w,_=>O1
 |s+1,e+1,one,w,h=>by
  simp only[WL,any_eq_true,Bool.or_eq_true]at h ⊢;obtain⟨k,f,h⟩:=h;exact⟨k,f,h.imp id (SW O1)⟩
def ZO.must{d:Nat}{L:List Nat}(h:ZO A d L){two:Nat}:∀(s:Nat)(X Y:List Nat)(x:Nat),L=X++x::Y->WL A two s x=true->two∈Y
 |0,_,_,_,_,f=>by simp[WL]at f
 |s+1,X,Y,x,e,f=>by
  simp only[WL,any_eq_true,Bool.or_eq_true,beq_iff_eq]at f;obtain⟨k,z,f⟩:=f;have w:=h.aft X Y x e k z;rcases f with rfl|f
  .exact w
  .obtain⟨Y1,Y2,rfl⟩:=append_of_mem w;have:=ZO.must h s (X++x::Y1) Y2 k (by rw[e];simp) f;simp[this]
def M0(hA:∀i,i<A.length->∀k∈Jd A i,k<A.length):W4 A=GC A:=by
 obtain⟨L,F,w⟩:=ZO.rounds (A:=A) A.length
 have E:(JP A A.length=2^A.length-1)↔∀i,i<A.length->i∈L:=by
  constructor
  .intro e i z;rw[<- F.bit,e,Nat.testBit_two_pow_sub_one];simpa using z
  .intro h;refine Nat.eq_of_testBit_eq λ i=>?_;rw[Nat.testBit_two_pow_sub_one];by_cases z:i<A.length
   .rw[(F.bit i).2 (h i z)];simp[z]
   .have:¬(JP A A.length).testBit i=true:=λ hb=>z (F.low i ((F.bit i).1 hb));simp only[Bool.not_eq_true]at this;rw[this];simp[z]
 have key:GC A=true↔¬ ∀i,i<A.length->i∈L:=by
  unfold GC;rw[any_eq_true];constructor
  .rintro⟨i,z,N⟩ hall;have W:i<A.length:=by simpa using z
   obtain⟨X,Y,e⟩:=append_of_mem (hall i W);have hY:=F.must _ X Y i e N;have T:=F.nod;rw[e,nodup_append]at T;exact(nodup_cons.1 T.2.1).1 hY
  .intro T
   obtain⟨i0,P,S⟩:∃i,i<A.length/\i∉L:=by
    apply Classical.byContradiction;intro h;exact T λ i z=>Classical.byContradiction λ N=>h ⟨i,z,N⟩
   have w:∀i,i<A.length->i∉L->∃k,k∈Jd A i/\k∉L:=by
    intro i z N;rcases w with w|w
    .exfalso
     have B:=Xi (n:=A.length) (l:=i::L) (nodup_cons.2 ⟨N,F.nod⟩) (by
      intro x H;rcases mem_cons.1 H with rfl|H
      .exact z
      .exact F.low x H)
     simp at B;omega
    .exact(w i z).resolve_left N
   let f:Nat->Nat:=λ i=>if h:i<A.length/\i∉L then Classical.choose (w i h.1 h.2)else i
   have U:∀i,i<A.length->i∉L->f i∈Jd A i/\f i∉L/\f i<A.length:=by
    intro i B I;have K:=Classical.choose_spec (w i B I);have h4:f i=Classical.choose (w i B I):=by simp only[f];rw[dif_pos ⟨B,I⟩]
    rw[<- h4]at K;exact⟨K.1,K.2,hA i B _ K.1⟩
   let g:Nat->Nat:=λ n=>Nat.rec i0 (λ _ x=>f x) n
   have gs:∀n,g (n+1)=f (g n):=λ n=>rfl
   have M:∀n,g n<A.length/\g n∉L:=by
    intro n
    induction n with
    |zero=>exact⟨P,S⟩
    |succ n G=>rw[gs];exact⟨(U _ G.1 G.2).2.2,(U _ G.1 G.2).2.1⟩
   obtain⟨a,b,aa,hb,e⟩:∃a b,a<b/\b<=A.length/\g a=g b:=by
    apply Classical.byContradiction;intro Z
    have Q:∀n,n<=A.length+1->((range n).map g).Nodup:=by
     intro n
     induction n with
     |zero=>intro _;simp
     |succ n G=>
      intro T;rw[range_succ,map_append,nodup_append];refine⟨G O1,S1,?_⟩;intro x H y hy V;obtain⟨j,hj,rfl⟩:=mem_map.1 H;simp at hy hj;subst hy;exact Z ⟨j,n,hj,O1,V⟩
    have B:=Xi (Q (A.length+1) (Nat.le_refl _)) (n:=A.length) (by
     intro x H;obtain⟨j,_,rfl⟩:=mem_map.1 H;exact(M j).1)
    simp at B;omega
   have hp:∀n a,WL A (g (a+n+1)) (n+1) (g a)=true:=by
    intro n
    induction n with
    |zero=>
     intro a;simp only[WL,any_eq_true,Bool.or_false,beq_iff_eq];exact⟨g (a+1),(U _ (M a).1 (M a).2).1,rfl⟩
    |succ n G=>
     intro a;rw[WL,any_eq_true];refine⟨g (a+1),(U _ (M a).1 (M a).2).1,?_⟩;rw[Bool.or_eq_true];right;have:=G (a+1)
     rwa [show a+1+n+1=a+(n+1)+1 by omega]at this
   refine⟨g a,by simpa using(M a).1,?_⟩;obtain⟨n,rfl⟩:∃n,b=a+n+1:=⟨b-a-1,O1⟩;have:=hp n a;rw[<- e]at this;exact SW O1 this
 unfold W4;grind
def YQ(h:W4 A=false):∃L,ZO A (JP A A.length) L/\∀i,i<A.length->i∈L:=by
 obtain⟨L,e,-⟩:=ZO.rounds (A:=A) A.length;refine⟨L,e,λ i f=>?_⟩;unfold W4 at h;have h:JP A A.length=2^A.length-1:=by simpa using h
 rw[<- e.bit,h,Nat.testBit_two_pow_sub_one];simpa using f
end
variable{α:Type}{c:List α}{j:α}{af:List Nat}
def parts:List α->Nat->List (List α)
 |_,0=>[[]]
 |[],_+1=>[]
 |a::l,m+1=>(parts l m).map (a::·)++parts l (m+1)
def Pb(l:List α):parts l 0=[[]]:=by cases l <;> rfl
def HG:∀{l:List α}{m:Nat}{p:List α},p∈parts l m↔p.Sublist l/\p.length=m
 |l,0,p=>by
  rw[Pb,mem_singleton];simp_all
 |[],m+1,p=>by
  simp_all[parts,not_mem_nil,false_iff]
 |a::l,m+1,p=>by
  simp only[parts,mem_append,mem_map];constructor
  .rintro(⟨q,hq,rfl⟩|h)
   .obtain⟨h1,h2⟩:=HG.1 hq;simp_all
   .obtain⟨h1,h2⟩:=HG.1 h;simp_all
  .rintro⟨h,e⟩;cases h with
   |cons _ h=>exact .inr (HG.2 ⟨h,e⟩)
   |cons_cons _ h=>exact .inl ⟨_,HG.2 ⟨h,by simpa using e⟩,rfl⟩
def Ek{m:Nat}(h:c[i]?=some j):parts (c.drop i) (m+1)=(parts (c.drop (i+1)) m).map (j::·)++parts (c.drop (i+1)) (m+1):=by
 obtain⟨e,rfl⟩:=List.getElem?_eq_some_iff.1 h;rw[drop_eq_getElem_cons e];rfl
def Da(h:c.length<=i):parts (c.drop i) (N+1)=[]:=by
 rw[drop_eq_nil_of_le h];rfl
def MA(h:∀k∈af,k<n):Ja af<2^n:=by
 refine Nat.lt_pow_two_of_testBit _ λ i f=>?_;rw[W3];grind
section
variable(A:List (List Nat))(out:Nat->Bool)
def QU:Nat->Nat->Nat->Bool
 |0,i,k=>(Jd A i).contains k
 |s+1,i,k=>(Jd A i).contains k|| (Jd A i).any λ o=>out o&&QU s o k
def WX(af:List Nat)(i k:Nat):List Nat:=if(af.getD i 0).testBit k&&out k then af.set i (af.getD i 0||| af.getD k 0)else af
def G1(n:Nat)(af:List Nat)(i:Nat):List Nat:=(range n).foldl (λ af k=>WX out af i k) af
def EO(n:Nat)(af:List Nat):List Nat:=(range n).foldl (λ af i=>G1 out n af i) af
def GR(n:Nat):Nat->List Nat->List Nat
 |0,af=>af
 |s+1,af=>GR n s (EO out n af)
end
section
variable(A:List (List Nat))(out:Nat->Bool)
variable{A out}
def VF:QU A out (N+1) i k=true↔(Jd A i).contains k=true\/∃o,o∈Jd A i/\out o=true/\QU A out N o k=true:=by
 simp_all[QU,Bool.or_eq_true,any_eq_true,Bool.and_eq_true]
def Vn(h:(Jd A i).contains k=true):QU A out N i k=true:=by
 cases N <;> simp only[QU,h,Bool.true_or]
def Pf:∀{s e i k:Nat},s<=e->QU A out s i k=true->QU A out e i k=true
 |0,e,_,_,_,h=>Vn h
 |s+1,0,_,_,h,_=>O1
 |s+1,e+1,i,k,h,f=>by
  simp only[QU,Bool.or_eq_true,any_eq_true,Bool.and_eq_true]at f ⊢;exact f.imp id λ⟨o,w,z,B⟩=>⟨o,w,z,Pf O1 B⟩
def SS:∀{s e i o k:Nat},QU A out s i o=true->out o=true->QU A out e o k=true->QU A out (s+e+1) i k=true
 |0,e,i,o,k,f,w,z=>by
  rw[Nat.zero_add,VF];grind[QU]
 |s+1,e,i,o,k,f,w,z=>by
  rw[show s+1+e+1=(s+e+1)+1 by omega,VF];rcases VF.1 f with f|⟨x,a1,a2,a3⟩
  .exact .inr ⟨o,by simpa using f,w,Pf O1 z⟩
  .exact .inr ⟨x,a1,a2,SS a3 w z⟩
def SR{d:Nat}{L:List Nat}(h:ZO A d L):∀{s i k:Nat}(X Y:List Nat),L=X++i::Y->QU A out s i k=true->QU A out Y.length i k=true
 |0,i,k,X,Y,_,f=>Pf (Nat.zero_le _) f
 |s+1,i,k,X,Y,e,f=>by
  simp only[QU,Bool.or_eq_true,any_eq_true,Bool.and_eq_true]at f;rcases f with f|⟨o,a1,a2,a3⟩
  .exact Vn f
  .obtain⟨Y1,Y2,rfl⟩:=append_of_mem (h.aft X Y i e o a1);have:=SR h (X++i::Y1) Y2 (by rw[e];simp) a3;refine Pf (s:=Y2.length+1) S1 ?_;simp only[QU,Bool.or_eq_true,any_eq_true,Bool.and_eq_true];grind
structure JB(n:Nat)(A:List (List Nat))(out:Nat->Bool)(r:Nat)(af:List Nat):Prop where
 len:af.length=n
 sound:∀i,i<n->∀k,(af.getD i 0).testBit k=true->∃s,QU A out s i k=true
 full:∀i,i<n->∀k,QU A out r i k=true->(af.getD i 0).testBit k=true
def VJ(f:i<af.length):(af.set i b).getD N 0=if N=i then b else af.getD N 0:=by
 grind
def JB.one(h:JB n A out N af)(z:i<n)(F:k<n):JB n A out N (WX out af i k):=by
 unfold WX;split
 .rename_i hc;rw[Bool.and_eq_true]at hc;have B:i<af.length:=by rw[h.len];exact z
  refine⟨by simpa using h.len,λ j w x f=>?_,λ j w x f=>?_⟩
  .rw[VJ B]at f;split at f
   .rename_i e;subst e;rw[Nat.testBit_or,Bool.or_eq_true]at f;rcases f with f|f
    .exact h.sound j w x f
    .obtain⟨s,h1⟩:=h.sound j z k hc.1;obtain⟨G,E⟩:=h.sound k F x f;exact⟨_,SS h1 hc.2 E⟩
   .exact h.sound j w x f
  .rw[VJ B];have:=h.full j w x f;grind
 .exact h
def Xy(n:Nat)(af e:List Nat):Prop:=e.length=af.length/\∀i,i<n->∀k,(af.getD i 0).testBit k=true->(e.getD i 0).testBit k=true
def Xy.refl(n:Nat)(af:List Nat):Xy n af af:=⟨rfl,λ _ _ _ h=>h⟩
def Xy.trans{n:Nat}{a b c:List Nat}(h:Xy n a b)(k:Xy n b c):Xy n a c:=⟨k.1.trans h.1,λ i e x f=>k.2 i e x (h.2 i e x f)⟩
def N1(B:af.length=n)(w:i<n):Xy n af (WX out af i k):=by
 unfold WX;split
 .refine⟨S1,λ j z x f=>?_⟩;grind
 .exact .refl ..
def Ty{n r i:Nat}(f:i<n):∀{l:List Nat}{af:List Nat},(∀k∈l,k<n)->JB n A out r af ->
  JB n A out r (l.foldl (λ af k=>WX out af i k) af)/\Xy n af (l.foldl (λ af k=>WX out af i k) af) /\
  ∀o∈l,(af.getD i 0).testBit o=true->out o=true->∀x,(af.getD o 0).testBit x=true->((l.foldl (λ af k=>WX out af i k) af).getD i 0).testBit x=true
 |[],af,_,h=>⟨h,.refl ..,S1⟩
 |k::l,af,B,h=>by
  have M:=B k S1;have H:=h.one (i:=i) f M;have z:=N1 (out:=out) (k:=k) h.len f;obtain⟨I,E,K⟩:=Ty (l:=l) f (λ j L=>B j (by simp[L])) H;refine⟨I,z.trans E,λ o w F e x G=>?_⟩;rcases mem_cons.1 w with rfl|w
  .refine E.2 i f x ?_;unfold WX;grind
  .exact K o w (z.2 i f o F) e x (z.2 o (B o (by simp[w])) x G)
def TA{n r:Nat}(H:∀i,i<n->∀k∈Jd A i,k<n){e:List Nat}(B:JB n A out r e):∀{l:List Nat}{af:List Nat},(∀k∈l,k<n)->JB n A out r af->Xy n e af ->
  JB n A out r (l.foldl (λ af i=>G1 out n af i) af)/\Xy n af (l.foldl (λ af i=>G1 out n af i) af) /\
  ∀i∈l,∀x,QU A out (r+1) i x=true->((l.foldl (λ af i=>G1 out n af i) af).getD i 0).testBit x=true
 |[],af,_,h,_=>⟨h,.refl ..,S1⟩
 |i::l,af,I,h,L=>by
  have f:=I i S1;obtain⟨G,E,M⟩:=Ty (l:=range n) f S1 h;obtain⟨K,F,N⟩:=TA H B (l:=l) (λ j w=>I j (by simp[w])) G (L.trans E);refine⟨K,E.trans F,λ j w x z=>?_⟩;rcases mem_cons.1 w with rfl|w
  .refine F.2 j f x ?_;simp only[QU,Bool.or_eq_true,any_eq_true,Bool.and_eq_true]at z;rcases z with z|⟨o,a1,a2,a3⟩
   .exact G.full j f x (Vn z)
   .have ho:=H j f o a1;exact M o (by simpa using ho) (h.full j f o (Vn (by simpa using a1))) a2 x (h.full o ho x a3)
  .exact N j w x z
def JB.round(f:∀i,i<n->∀k∈Jd A i,k<n)(h:JB n A out N af):JB n A out (N+1) (EO out n af):=by
 obtain⟨e,E,B⟩:=TA f h (l:=range n) S1 h (.refl ..);exact⟨e.len,e.sound,λ i w x z=>B i (by simpa using w) x z⟩
def JB.rounds{n:Nat}(e:∀i,i<n->∀k∈Jd A i,k<n):∀{s r:Nat}{af:List Nat},JB n A out r af->JB n A out (r+s) (GR out n s af)
 |0,r,af,h=>h
 |s+1,r,af,h=>by
  have:=JB.rounds e (s:=s) (h.round e);rw[show r+(s+1)=r+1+s by omega];exact this
def JB.start:JB A.length A out 0 (A.map Ja):=by
 have key:∀i,i<A.length->(A.map Ja).getD i 0=Ja (Jd A i):=by
  intro i e;simp[getD_eq_getElem?_getD,Jd,e]
 refine⟨S1,λ i e k f=>⟨0,?_⟩,λ i e k f=>?_⟩
 .rw[key i e,W3]at f;exact f
 .rw[key i e,W3];exact f
def qm(E:∀i,i<A.length->∀k∈Jd A i,k<A.length)(F:W4 A=false)(z:i<A.length) :
  ((GR out A.length A.length (A.map Ja)).getD i 0).testBit k=QU A out A.length i k:=by
 have h:=JB.rounds (out:=out) E (s:=A.length) JB.start;rw[Nat.zero_add]at h;obtain⟨L,w,f⟩:=YQ F;rw[Bool.eq_iff_iff];constructor
 .intro hb;obtain⟨s,G⟩:=h.sound i z k hb;obtain⟨X,Y,e⟩:=append_of_mem (f i z);have:=SR w X Y e G;refine Pf ?_ this;have B:=Xi w.nod w.low;grind
 .exact h.full i z k
end
variable{fn:FuncId}{Q:Ex->Act->Qa Tk->Prop}{a:Act}{ops:Array Oper}{o:Oper}{xs:Array Operand}{F:Array TypeId}{first e:Array Value}{D:Spec}{Up Uc:Qa Tk}{K Z:Option ZL}
def CZ{x:Operand}{g:FuncId}
  (Y:ops[i]?=some o) (hw:Region.wanted o (yielded ops a.tmps)=true) (W:o.op=.go { callee:=.value x,args:=xs,argTypes:=F }) (hx:a.eval x=.func (.func g) first e)
   (ht:U.tok=⟨0,.par b ds true .run,mu⟩) (hf:HV U Up Uc) (hp:Up.tok=⟨0,.par b (D::ds) false .run,K⟩) (hc:Uc.tok=⟨0,.wrk b D,Z⟩) (V:V5 N mu K Z)
  (hk:∀Stop,J (Zj P t N) Stop false (GE P { target:=.fn (.func g) e,args:=first++xs.map a.eval }) Uc) (hq:J7 (Zj P t N) fn none ops af Q (a.put o.dst undef) Up) :
  J7 (Zj P t N) fn none ops (i::af) Q a U:=by
 intro Stop m f k cs M S;refine .syn (QC.go (X:=J (Zj P t N) Stop) (g':=R f (a.put o.dst undef) (.inRegion ops af::k) cs) rfl ht ?_ hf hp hc V (hq Stop m f k cs M S) (hk Stop));have T:f.kind≠.early:=M.2.2.1;have E:f.roundOf=none:=M.2.1;have z:=PA f a (.inRegion ops (i::af)::k);have w:=HJ (b:=f) (a:=a) (k:=k) (rest:=af) Y undef
 have I:execOp a.eval o=(do let d <- resolve a.eval { callee:=.value x,args:=xs,argTypes:=F } o.type;pure (.spawn d):Sem Next):=by
  unfold execOp;rw[W]
 have H:Jo P t (execOp a.eval o) undef undef #[] []=.ok (.spawn { target:=.fn (.func g) e,args:=first++xs.map a.eval }) undef undef #[] []:=by
  rw[I];simp only[resolve,hx,Deferred.ofValue];rfl
 show Q5 P t m (R f a (.inRegion ops (i::af)::k) cs) undef undef=_;unfold Q5 R;simp only[fr];unfold GN;simp only[Y,hw,E];simp only[fr]at z;rw[E]at z;rw[z,H];unfold X0;have:∀(L:CallKind)(A B:SE),L≠.early->(match L with|.early=>A|_=>B)=B:=by intro L A B h;cases L <;> first|rfl|exact absurd rfl h
 simp only;cases G:f.kind with
 |early=>exact absurd G T
 |_=>
  simp only[PH,V2,isEmpty_nil,Bool.and_self,cond_true,Wr,Wq];grind[fr]
