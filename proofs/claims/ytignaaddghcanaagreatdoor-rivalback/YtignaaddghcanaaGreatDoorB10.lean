/- Lemmas. No conditions. -/
import Derived.Conc.ClockLaws
import Derived.Test.YtignaaddghcanaaGreatDoorB01
import Derived.Test.YtignaaddghcanaaGreatDoorB09
set_option linter.all false
open List
namespace Go.TM
variable{P:Program}{t:TypeId}{m:Bool}{n N b d:Nat}{g g':Gr}{l bs:List (Nat×Bool)}{U:Qa Tk}{Stop:QH Tk}{p:Ph}{st sm:Value}{es:Array Event}{w:SE}
section
open Go.Conc (QuitsD)
def JI(P:Program)(t:TypeId)(m:Bool):Nat->Gr->Option (Gr×List (Nat×Bool))
 |0,g=>some (g,[])
 |n+1,g=>match g.status,Qc P t m g undef undef with
  |.running,.go g' _ _ es bs=>bif es.isEmpty&&bs.all (!·.2)then(JI P t m n g').map (λ x=>(x.1,bs++x.2))else none
  |_,_=>none
def Qi(P:Program)(t:TypeId)(m:Bool)(n:Nat)(g:Gr):Gr:=match JI P t m n g with|some x=>x.1|none=>g
def Qm(P:Program)(t:TypeId)(m:Bool)(n:Nat)(g:Gr):Option (List (Nat×Bool)):=(JI P t m n g).map (·.2)
def Pg(h:JI P t m (n+1) g=some (g',l)) :
  ∃b bs l',g.status=.running/\(∀st sm,Qc P t m g st sm=.go b st sm #[] bs)/\JI P t m n b=some (g',l')/\l=bs++l':=by
 simp only[JI]at h;split at h
 .rename_i b st' sm' es bs hs hst;cases w:es.isEmpty&&bs.all (!·.2)with
  |false=>rw[w]at h;cases h
  |true=>
   rw[w]at h;simp only[cond_true]at h;obtain⟨⟨F,l'⟩,z,B⟩:=Option.map_eq_some_iff.1 h;cases B;simp only[Bool.and_eq_true,Array.isEmpty_iff]at w;obtain⟨rfl,E⟩:=w;obtain⟨-,f⟩:=F9 _ _ _ _ _ _ _ hst E;exact⟨b,bs,l',hs,f,z,rfl⟩
 .cases h
def P4(h:Qm P t m n g=some l):JI P t m n g=some (Qi P t m n g,l):=by
 unfold Qm at h;obtain⟨⟨g',l'⟩,b,rfl⟩:=Option.map_eq_some_iff.1 h;simp only[Qi,b]
def IN{b:Nat}(z:U.tok.ph.blk=some b):∀{n:Nat}{g g':Gr}{l:List (Nat×Bool)},JI P t m n g=some (g',l)->Z6 b l->J (Za P t N) Stop m g' U->J (Za P t N) Stop m g U
 |0,g,g',l,h,_,k=>by simp only[JI,Option.some.injEq,Prod.mk.injEq]at h;rw[h.1];exact k
 |n+1,g,g',l,h,B,k=>by
  obtain⟨E,bs,l',G,f,F,rfl⟩:=Pg h;exact .syn (QB.quiet G z f (λ y w=>B y (mem_append_left _ w)) (IN z F (λ y w=>B y (mem_append_right _ w)) k))
def J.calm(f:U.tok.ph.blk=some b)(h:Qm P t m n g=some l)(w:Z6 b l)(k:J (Za P t N) Stop m (Qi P t m n g) U):J (Za P t N) Stop m g U:=
 IN f (P4 h) w k
def UU{b d k:Nat}{p:Ph}:∀{n:Nat}{g g':Gr}{l:List (Nat×Bool)},JI P t false n g=some (g',l)->Z6 b l->Tl P t N b k d p g'->Tl P t N b (n+k) d p g
 |0,g,g',l,h,_,q=>by simp only[JI,Option.some.injEq,Prod.mk.injEq]at h;rw[Nat.zero_add,h.1];exact q
 |n+1,g,g',l,h,B,q=>by
  obtain⟨f,bs,l',F,w,E,rfl⟩:=Pg h;rw[show n+1+k=(n+k)+1 by omega];exact⟨F,.inl ⟨f,#[],bs,S1,λ y z=>B y (mem_append_left _ z),w,UU E (λ y z=>B y (mem_append_right _ z)) q⟩⟩
def Tl.calm{k:Nat}(h:Qm P t false n g=some l)(f:Z6 b l)(q:Tl P t N b k d p (Qi P t false n g)):Tl P t N b (n+k) d p g:=
 UU (P4 h) f q
def EE{d k:Nat}:∀{n:Nat}{g g':Gr},JI P t false n g=some (g',[])->QuitsD P k d g'->QuitsD P (n+k) d g
 |0,g,g',h,q=>by simp only[JI,Option.some.injEq,Prod.mk.injEq]at h;rw[Nat.zero_add,h.1];exact q
 |n+1,g,g',h,q=>by
  obtain⟨b,bs,l',E,f,B,z⟩:=Pg h;have:bs=[]/\l'=[]:=by simpa using z.symm
  obtain⟨rfl,rfl⟩:=this;rw[show n+1+k=(n+k)+1 by omega];exact .inr ⟨E,b,#[],S1,λ w=>YT (f undef undef) w,EE B q⟩
def Zd{k:Nat}(h:Qm P t false n g=some [])(q:QuitsD P k d (Qi P t false n g)):QuitsD P (n+k) d g:=EE (P4 h) q
def z_(f:g.status=.running)(h:Qc P t false g undef undef=.go g' st sm es [])(b:∀e∈es,Event.mute e=true)(q:QuitsD P N (deafBehind d es) g'):QuitsD P (N+1) d g:=
 .inr ⟨f,g',es,b,λ w=>YT h w,q⟩
def SE.info:SE->Option (Value×Value×Array Event×List (Nat×Bool))
 |.go _ st sm es bs=>some (st,sm,es,bs)
 |_=>none
def SE.of_info(h:w.info=some (st,sm,es,bs)):w=.go (w.get g) st sm es bs:=by
 cases w <;> simp only[SE.info,Option.some.injEq,Prod.mk.injEq,reduceCtorEq]at h;obtain⟨rfl,rfl,rfl,rfl⟩:=h;rfl
def W1(h:(Qc P t m g undef undef).info=some (st,sm,es,bs))(b:bs.all (!·.2)=true):∀st sm,Qc P t m g st sm=.go ((Qc P t m g undef undef).get g) st sm es bs:=
 (F9 _ _ _ _ _ _ _ (SE.of_info h) b).2
def Tl.mute{b d n:Nat}{p:Ph}{g:Gr}{st sm:Value}{es:Array Event}{bs:List (Nat×Bool)}(h:(Qc P t false g undef undef).info=some (st,sm,es,bs))(w:bs.all (!·.2)=true)(f:Z6 b bs)
  (z:∀e∈es,Event.mute e=true) (k:Tl P t N b n (deafBehind d es) p ((Qc P t false g undef undef).get g)):Tl P t N b (n+1) d p g:=
 ⟨Qn (SE.of_info (g:=g) h),.inl ⟨_,es,bs,z,f,W1 h w,k⟩⟩
def J5(h:(Qc P t false g undef undef).info=some (st,sm,es,[]))(b:∀e∈es,Event.mute e=true)(q:QuitsD P N (deafBehind d es) ((Qc P t false g undef undef).get g)):QuitsD P (N+1) d g:=
 z_ (Qn (SE.of_info (g:=g) h)) (SE.of_info h) b q
def Jq:∀{n d k:Nat}{g:Gr},QuitsD P n d g->QuitsD P (n+k) d g
 |0,d,k,g,h=>by cases k with|zero=>exact h|succ k=>exact .inl h
 |n+1,d,k,g,h=>by
  rw[show n+1+k=(n+k)+1 by omega];exact h.imp id λ⟨w,g',es,f,b,q⟩=>⟨w,g',es,f,b,Jq q⟩
end
variable{y z s pend:Bool}{ds:List Spec}{k_0:PS}{mu:Option ZN}
def Qe:Z6 b []:=λ _ h=>by cases h
def Q3:Z6 b [(b,m),(b,y)]:=λ z h=>by simp at h;rcases h with rfl|rfl <;> rfl
def Zr:Z6 b [(b,m)]:=λ z h=>by simp at h;subst h;rfl
def Jo:Z6 b [(b,m),(b,y),(b,z),(b,s)]:=λ v h=>by simp at h;rcases h with rfl|rfl|rfl|rfl <;> rfl
def J.dis(f:U.tok=⟨d,.par b ds pend k_0,mu⟩)(h:(Qc P t m g undef undef).info=some (st,sm,#[Z0 .disable],[]))(k:J (Za P t N) Stop m ((Qc P t m g undef undef).get g) (U.at (d+1) (.par b ds pend k_0))):J (Za P t N) Stop m g U:=
 .syn (QB.dis (Qn (SE.of_info (g:=g) h)) f (W1 h rfl) Qe k)
def J.ena(f:U.tok=⟨d+1,.par b ds pend k_0,mu⟩)(h:(Qc P t m g undef undef).info=some (st,sm,#[Z0 .enable],[]))(k:J (Za P t N) Stop m ((Qc P t m g undef undef).get g) (U.at d (.par b ds pend k_0))):J (Za P t N) Stop m g U:=
 .syn (QB.ena (Qn (SE.of_info (g:=g) h)) f (W1 h rfl) Qe k)
def J.said(wr:Bool)(f:U.tok=⟨1,.par b ds pend k_0,mu⟩)(h:(Qc P t m g undef undef).info=some (st,sm,#[Z0 (bif wr then .write ⟨b,1,none⟩else .read ⟨b,1,none⟩)],[]))(k:J (Za P t N) Stop m ((Qc P t m g undef undef).get g) U):J (Za P t N) Stop m g U:=
 .syn (QB.said (wr:=wr) (Qn (SE.of_info (g:=g) h)) f (W1 h rfl) Qe k)
def J.acq(w:U.tok=⟨0,.par b ds false .up,none⟩)(h:(Qc P t m g undef undef).info=some (st,sm,#[Z0 (.acquire ⟨b,0,none⟩)],[]))(k:∀f,JK ds f->J (Za P t N) Stop m ((Qc P t m g undef undef).get g) ((U.with f.flatten).at 0 .out)):J (Za P t N) Stop m g U:=
 .syn (QB.acq (Qn (SE.of_info (g:=g) h)) w Qe (W1 h rfl) k)
def J.acqM{x:QV}{u:Bool->Bool}(w:U.tok=⟨0,.par b ds false .up,some (.par x u)⟩)(h:(Qc P t m g undef undef).info=some (st,sm,#[Z0 (.acquire ⟨b,0,none⟩)],[]))(k:∀f M,JK ds f->x.sp (u false) (u true) M->J (Za P t N) Stop m ((Qc P t m g undef undef).get g) { U with M:=(U.M++f.flatten)++M,tok:=⟨0,.out,none⟩ }):J (Za P t N) Stop m g U:=
 .syn (QB.acqM (Qn (SE.of_info (g:=g) h)) w Qe (W1 h rfl) k)
def J.add(z:U.tok=⟨1,.par b ds false .run,mu⟩)(w:ds.length<N)(h:∀c,c<=ds.length->(Qc P t m g (Q0 c 0) (Qp 0)).info=some (Q0 (c+1) 0,Qp 0,#[Jd b 0,W9 b 0],[(b,true),(b,true)]) /\
  J (Za P t N) Stop m ((Qc P t m g (Q0 c 0) (Qp 0)).get g) (U.at 1 (.par b ds true .run))):J (Za P t N) Stop m g U:=
 .syn (QB.add (Qn (SE.of_info (g:=g) (h 0 (Nat.zero_le _)).1)) z w λ c f=>⟨_,_,SE.of_info (g:=g) (h c f).1,Q3,(h c f).2⟩)
def J.load{u:Nat}(z:U.tok=⟨1,.par b ds false k_0,mu⟩)(w:Hi ds u k_0)(h:∀c,c<=u->(Qc P t m g (Q0 c 0) (Qp 0)).info=some (Q0 c 0,Qp 0,#[Jd b 0],[(b,true)]) /\
  (J (Za P t N) Stop m ((Qc P t m g (Q0 c 0) (Qp 0)).get g) (U.at 1 (.par b ds false (.seen c)))\/(c=0/\J (Za P t N) Stop m ((Qc P t m g (Q0 c 0) (Qp 0)).get g) (U.at 1 (.par b ds false .up))))):J (Za P t N) Stop m g U:=
 .syn (QB.look (Qn (SE.of_info (g:=g) (h 0 (Nat.zero_le _)).1)) z w λ c f=>⟨_,_,Zr,.inl ⟨SE.of_info (g:=g) (h c f).1,(h c f).2⟩⟩)
def J.look2{bs:List (Nat×Bool)}(w:U.tok=⟨1,.par b ds false .up,mu⟩)(f:Z6 b bs)(h:(Qc P t m g (Q0 0 0) (Qp 0)).info=some (Q0 0 0,Qp 0,#[Jd b 0],bs))(k:J (Za P t N) Stop m ((Qc P t m g (Q0 0 0) (Qp 0)).get g) U):J (Za P t N) Stop m g U:=
 .syn (QB.look2 (Qn (SE.of_info (g:=g) h)) w f (SE.of_info (g:=g) h) k)
def Zc:Z6 b [(b,m),(b,y),(b,z)]:=λ v h=>by simp at h;rcases h with rfl|rfl|rfl <;> rfl
def UT:∀{n:Nat}{g g':Gr},JI P t m n g=some (g',[])->J (Za P t N) Stop m g' U->J (Za P t N) Stop m g U
 |0,g,g',h,k=>by simp only[JI,Option.some.injEq,Prod.mk.injEq]at h;rw[h.1];exact k
 |n+1,g,g',h,k=>by
  obtain⟨f,bs,l',E,b,B,z⟩:=Pg h;have:bs=[]/\l'=[]:=by simpa using z.symm
  obtain⟨rfl,rfl⟩:=this;exact J.still E (λ w=>YT (b undef undef) w) (UT B k)
def J.calm0(h:Qm P t m n g=some [])(k:J (Za P t N) Stop m (Qi P t m n g) U):J (Za P t N) Stop m g U:=UT (P4 h) k
def J.cas{u:Nat}(G:U.tok=⟨1,.par b ds false k_0,mu⟩)(E:Hi ds u k_0)(F:g.status=.running)(h:∀c,c<=u ->
  (∃bs,Z6 b bs/\(Qc P t m g (Q0 c 0) (Qp 0)).info=some (Q0 c 0,Qp 0,#[Jd b 0],bs)/\J (Za P t N) Stop m ((Qc P t m g (Q0 c 0) (Qp 0)).get g) (U.at 1 (.par b ds false (.seen c)))) \/
  (1<=c/\∃bs,Z6 b bs/\(Qc P t m g (Q0 c 0) (Qp 0)).info=some (Q0 c 1,Qp 0,#[Jd b 0,W9 b 0],bs)/\J (Za P t N) Stop m ((Qc P t m g (Q0 c 0) (Qp 0)).get g) (U.at 1 (.par b ds false .wait)))):J (Za P t N) Stop m g U:=
 .syn (QB.look F G E λ c B=>by
  rcases h c B with⟨bs,f,w,k⟩|⟨z,bs,f,w,k⟩
  .exact⟨_,bs,f,.inl ⟨SE.of_info (g:=g) w,.inl k⟩⟩
  .exact⟨_,bs,f,.inr ⟨z,SE.of_info (g:=g) w,k⟩⟩)
def XJ:∀{n:Nat}{l:List Nat},l.Nodup->(∀x∈l,x<n)->l.length<=n
 |0,l,_,h=>by
  cases l with
  |nil=>simp
  |cons a l=>exact absurd (h a S1) O1
 |n+1,l,f,h=>by
  have z:(l.erase n).length<=n:=XJ (f.erase n) λ x w=>by
   have B:=h x (mem_of_mem_erase w);have E:=(f.mem_erase_iff.1 w).1;omega
  have F:l.length<=(l.erase n).length+1:=by
   by_cases b:n∈l
   .rw[length_erase_of_mem b];omega
   .rw[erase_of_not_mem b];omega
  omega
def Z5(l:List Nat):Nat:=l.foldl (λ d k=>d||| (1<<<k)) 0
def PF(i k:Nat):(1<<<i).testBit k=decide (k=i):=by
 rw[Nat.one_shiftLeft,Nat.testBit_two_pow];by_cases h:i=k
 .subst h;simp
 .simp[h,Ne.symm h]
def Bl(l:List Nat):∀(d k:Nat),(l.foldl (λ d k=>d||| (1<<<k)) d).testBit k=(d.testBit k|| l.contains k):=by
 induction l with
 |nil=>simp
 |cons a l b=>
  intro d k;rw[foldl_cons,b,Nat.testBit_or,PF];by_cases h:k=a
  .subst h;simp
  .simp[h,Ne.symm h]
def Wt(l:List Nat)(k:Nat):(Z5 l).testBit k=l.contains k:=by simp[Z5,Bl]
section
variable(A:List (List Nat))
def Jf(i:Nat):List Nat:=A.getD i []
def WD(d i:Nat):Nat:=if(Jf A i).all (λ k=>d.testBit k)then d||| (1<<<i)else d
def LF(d:Nat):Nat:=(range A.length).foldl (WD A) d
def JJ:Nat->Nat
 |0=>0
 |k+1=>LF A (JJ k)
def Wu:Bool:=decide (JJ A A.length≠2^A.length-1)
def WA(two:Nat):Nat->Nat->Bool
 |0,_=>false
 |s+1,one=>(Jf A one).any λ k=>k==two|| WA two s k
def Gk:Bool:=(range A.length).any λ i=>WA A i A.length i
structure ZH(d:Nat)(L:List Nat):Prop where
 bit:∀k,d.testBit k=true↔k∈L
 low:∀k∈L,k<A.length
 nod:L.Nodup
 aft:∀(X Y:List Nat)x,L=X++x::Y->∀k∈Jf A x,k∈Y
end
variable{i:Nat}{L:List Nat}
section
variable(A:List (List Nat))
variable{A}
def ZH.nil:ZH A 0 []:=⟨S1,S1,.nil,λ X Y x h=>by cases X <;> cases h⟩
def ZH.step(h:ZH A d L)(F:i<A.length):∃f,ZH A (WD A d i) f/\(f=L\/f=i::L)/\(i∈f\/∃k∈Jf A i,k∉L):=by
 unfold WD;by_cases B:i∈L
 .refine⟨L,?_,.inl rfl,.inl B⟩;split
  .refine⟨λ k=>?_,h.low,h.nod,h.aft⟩;rw[Nat.testBit_or,Bool.or_eq_true,PF,h.bit];constructor
   .rintro(h1|h1)
    .exact h1
    .simp at h1;subst h1;exact B
   .exact .inl
  .exact h
 .by_cases ha:(Jf A i).all (λ k=>d.testBit k)=true
  .rw[if_pos ha];rw[all_eq_true]at ha;refine⟨i::L,⟨λ k=>?_,?_,nodup_cons.2 ⟨B,h.nod⟩,?_⟩,.inr rfl,.inl S1⟩
   .rw[Nat.testBit_or,Bool.or_eq_true,PF,h.bit,mem_cons];constructor
    .rintro(h1|h1)
     .exact .inr h1
     .exact .inl (by simpa using h1)
    .rintro(h1|h1)
     .exact .inr (by simpa using h1)
     .exact .inl h1
   .intro k b;rcases mem_cons.1 b with rfl|b
    .exact F
    .exact h.low k b
   .intro X Y x e k b;cases X with
    |nil=>
     simp only[nil_append,List.cons.injEq]at e;obtain⟨rfl,rfl⟩:=e;exact(h.bit k).1 (ha k b)
    |cons y X=>
     simp only[cons_append,List.cons.injEq]at e;exact h.aft X Y x e.2 k b
  .rw[if_neg ha];refine⟨L,h,.inl rfl,.inr ?_⟩
   have:∃k∈Jf A i,¬d.testBit k=true:=by
    apply Classical.byContradiction;intro G;apply ha;rw[all_eq_true];intro k b;apply Classical.byContradiction;intro w;exact G ⟨k,b,w⟩
   obtain⟨k,b,E⟩:=this;exact⟨k,b,λ z=>E ((h.bit k).2 z)⟩
def ZH.fold:∀{l:List Nat}{d:Nat}{L:List Nat},ZH A d L->(∀i∈l,i<A.length)->∃f,ZH A (l.foldl (WD A) d) f/\L.length<=f.length/\(f.length=L.length->f=L/\∀i∈l,i∈L\/∃k∈Jf A i,k∉L)
 |[],d,L,h,_=>⟨L,h,Nat.le_refl _,λ _=>⟨rfl,S1⟩⟩
 |i::l,d,L,h,B=>by
  obtain⟨L₁,E,z,F⟩:=h.step (B i S1);obtain⟨L₂,G,w,H⟩:=ZH.fold (l:=l) E λ j b=>B j (by simp[b]);refine⟨L₂,G,?_,λ e=>?_⟩
  .rcases z with rfl|rfl
   .exact w
   .simp at w;omega
  .rcases z with rfl|rfl
   .obtain⟨rfl,k4⟩:=H e;refine⟨rfl,λ j b=>?_⟩;rcases mem_cons.1 b with rfl|b
    .exact F
    .exact k4 j b
   .simp at w;omega
def ZH.round(h:ZH A d L):∃b,ZH A (LF A d) b/\L.length<=b.length/\(b.length=L.length->b=L/\∀i,i<A.length->i∈L\/∃k∈Jf A i,k∉L):=by
 obtain⟨b,w,z,f⟩:=ZH.fold (l:=range A.length) h S1;exact⟨b,w,z,λ e=>⟨(f e).1,λ i B=>(f e).2 i (by simpa using B)⟩⟩
def ZH.rounds(n:Nat):∃L,ZH A (JJ A n) L/\(n<=L.length\/∀i,i<A.length->i∈L\/∃k∈Jf A i,k∉L):=by
 induction n with
 |zero=>exact⟨[],.nil,.inl S1⟩
 |succ n I=>
  obtain⟨L,P,z⟩:=I;obtain⟨w,N,k2,k3⟩:=P.round;refine⟨w,N,?_⟩;by_cases e:w.length=L.length
  .obtain⟨rfl,k4⟩:=k3 e;exact .inr k4
  .rcases z with z|z
   .exact .inl O1
   .exfalso
    have:∀(l:List Nat)(d:Nat) , (∀i∈l,i<A.length)->(∀k,d.testBit k=true↔k∈L)->∀k,((l.foldl (WD A) d).testBit k=true↔k∈L):=by
     intro l
     induction l with
     |nil=>exact λ d _ h k=>h k
     |cons i l K=>
      intro d Q F;refine K _ (λ j W=>Q j (by simp[W])) λ k=>?_;unfold WD;split
      .rename_i B;rw[all_eq_true]at B;rcases z i (Q i S1)with V|⟨k',G,b⟩
       .rw[Nat.testBit_or,Bool.or_eq_true,PF,F];constructor
        .rintro(h|h)
         .exact h
         .simp at h;subst h;exact V
        .exact .inl
       .exact absurd ((F k').1 (B k' G)) b
      .exact F k
    have U:=this (range A.length) (JJ A n) S1 P.bit;have f:∀x∈w,x∈L:=λ x E=>(U x).1 ((N.bit x).2 E)
    have Z:w.length<=L.length:=by
     have:∀{X Y:List Nat},X.Nodup->(∀x∈X,x∈Y)->X.length<=Y.length:=by
      intro X
      induction X with
      |nil=>intro Y _ _;simp
      |cons a X I=>
       intro Y b T;obtain⟨B,b⟩:=nodup_cons.1 b;have S:=T a S1
       have:=I (Y:=Y.erase a) b λ x E=>by
        have H:x≠a:=λ e=>B (e▸E);exact(mem_erase_of_ne H).2 (T x (by simp[E]))
       rw[length_erase_of_mem S]at this;have:0<Y.length:=length_pos_of_mem S;simp only[length_cons];omega
     exact this N.nod f
    omega
def EV{two:Nat}:∀{s b one:Nat},s<=b->WA A two s one=true->WA A two b one=true
 |0,_,_,_,h=>by simp[WA]at h
 |s+1,0,_,w,_=>O1
 |s+1,b+1,one,w,h=>by
  simp only[WA,any_eq_true,Bool.or_eq_true]at h ⊢;obtain⟨k,f,h⟩:=h;exact⟨k,f,h.imp id (EV O1)⟩
def ZH.must{d:Nat}{L:List Nat}(h:ZH A d L){two:Nat}:∀(s:Nat)(X Y:List Nat)(x:Nat),L=X++x::Y->WA A two s x=true->two∈Y
 |0,_,_,_,_,b=>by simp[WA]at b
 |s+1,X,Y,x,e,b=>by
  simp only[WA,any_eq_true,Bool.or_eq_true,beq_iff_eq]at b;obtain⟨k,w,b⟩:=b;have f:=h.aft X Y x e k w;rcases b with rfl|b
  .exact f
  .obtain⟨Y1,Y2,rfl⟩:=append_of_mem f;have:=ZH.must h s (X++x::Y1) Y2 k (by rw[e];simp) b;simp[this]
def pz(hA:∀i,i<A.length->∀k∈Jf A i,k<A.length):Wu A=Gk A:=by
 obtain⟨L,F,w⟩:=ZH.rounds (A:=A) A.length
 have E:(JJ A A.length=2^A.length-1)↔∀i,i<A.length->i∈L:=by
  constructor
  .intro e i z;rw[<- F.bit,e,Nat.testBit_two_pow_sub_one];simpa using z
  .intro h;refine Nat.eq_of_testBit_eq λ i=>?_;rw[Nat.testBit_two_pow_sub_one];by_cases z:i<A.length
   .rw[(F.bit i).2 (h i z)];simp[z]
   .have:¬(JJ A A.length).testBit i=true:=λ hb=>z (F.low i ((F.bit i).1 hb));simp only[Bool.not_eq_true]at this;rw[this];simp[z]
 have key:Gk A=true↔¬ ∀i,i<A.length->i∈L:=by
  unfold Gk;rw[any_eq_true];constructor
  .rintro⟨i,z,P⟩ hall;have Z:i<A.length:=by simpa using z
   obtain⟨X,Y,e⟩:=append_of_mem (hall i Z);have hY:=F.must _ X Y i e P;have U:=F.nod;rw[e,nodup_append]at U;exact(nodup_cons.1 U.2.1).1 hY
  .intro U
   obtain⟨i0,Q,T⟩:∃i,i<A.length/\i∉L:=by
    apply Classical.byContradiction;intro h;exact U λ i z=>Classical.byContradiction λ P=>h ⟨i,z,P⟩
   have w:∀i,i<A.length->i∉L->∃k,k∈Jf A i/\k∉L:=by
    intro i z P;rcases w with w|w
    .exfalso
     have B:=XJ (n:=A.length) (l:=i::L) (nodup_cons.2 ⟨P,F.nod⟩) (by
      intro x H;rcases mem_cons.1 H with rfl|H
      .exact z
      .exact F.low x H)
     simp at B;omega
    .exact(w i z).resolve_left P
   let f:Nat->Nat:=λ i=>if h:i<A.length/\i∉L then Classical.choose (w i h.1 h.2)else i
   have V:∀i,i<A.length->i∉L->f i∈Jf A i/\f i∉L/\f i<A.length:=by
    intro i B I;have K:=Classical.choose_spec (w i B I);have h4:f i=Classical.choose (w i B I):=by simp only[f];rw[dif_pos ⟨B,I⟩]
    rw[<- h4]at K;exact⟨K.1,K.2,hA i B _ K.1⟩
   let g:Nat->Nat:=λ n=>Nat.rec i0 (λ _ x=>f x) n
   have gs:∀n,g (n+1)=f (g n):=λ n=>rfl
   have N:∀n,g n<A.length/\g n∉L:=by
    intro n
    induction n with
    |zero=>exact⟨Q,T⟩
    |succ n G=>rw[gs];exact⟨(V _ G.1 G.2).2.2,(V _ G.1 G.2).2.1⟩
   obtain⟨a,b,ab,hb,e⟩:∃a b,a<b/\b<=A.length/\g a=g b:=by
    apply Classical.byContradiction;intro aa
    have S:∀n,n<=A.length+1->((range n).map g).Nodup:=by
     intro n
     induction n with
     |zero=>intro _;simp
     |succ n G=>
      intro U;rw[range_succ,map_append,nodup_append];refine⟨G O1,S1,?_⟩;intro x H y hy W;obtain⟨j,hj,rfl⟩:=mem_map.1 H;simp at hy hj;subst hy;exact aa ⟨j,n,hj,O1,W⟩
    have B:=XJ (S (A.length+1) (Nat.le_refl _)) (n:=A.length) (by
     intro x H;obtain⟨j,_,rfl⟩:=mem_map.1 H;exact(N j).1)
    simp at B;omega
   have hp:∀n a,WA A (g (a+n+1)) (n+1) (g a)=true:=by
    intro n
    induction n with
    |zero=>
     intro a;simp only[WA,any_eq_true,Bool.or_false,beq_iff_eq];exact⟨g (a+1),(V _ (N a).1 (N a).2).1,rfl⟩
    |succ n G=>
     intro a;rw[WA,any_eq_true];refine⟨g (a+1),(V _ (N a).1 (N a).2).1,?_⟩;rw[Bool.or_eq_true];right;have:=G (a+1)
     rwa [show a+1+n+1=a+(n+1)+1 by omega]at this
   refine⟨g a,by simpa using(N a).1,?_⟩;obtain⟨n,rfl⟩:∃n,b=a+n+1:=⟨b-a-1,O1⟩;have:=hp n a;rw[<- e]at this;exact EV O1 this
 unfold Wu;by_cases h:∀i,i<A.length->i∈L
 .have B:=E.2 h;have I:¬Gk A=true:=λ K=>(key.1 K) h;simp only[Bool.not_eq_true]at I;rw[I,B];simp
 .have B:JJ A A.length≠2^A.length-1:=λ e=>h (E.1 e);rw[key.2 h];simp[B]
def D8(h:Wu A=false):∃L,ZH A (JJ A A.length) L/\∀i,i<A.length->i∈L:=by
 obtain⟨L,b,-⟩:=ZH.rounds (A:=A) A.length;refine⟨L,b,λ i f=>?_⟩;unfold Wu at h;have h:JJ A A.length=2^A.length-1:=by simpa using h
 rw[<- b.bit,h,Nat.testBit_two_pow_sub_one];simpa using f
end
variable{α:Type}{e:List α}{A:α}{af:List Nat}
def parts:List α->Nat->List (List α)
 |_,0=>[[]]
 |[],_+1=>[]
 |a::l,m+1=>(parts l m).map (a::·)++parts l (m+1)
def GZ(l:List α):parts l 0=[[]]:=by cases l <;> rfl
def HX:∀{l:List α}{m:Nat}{p:List α},p∈parts l m↔p.Sublist l/\p.length=m
 |l,0,p=>by
  rw[GZ,mem_singleton];constructor
  .rintro rfl;exact⟨nil_sublist _,rfl⟩
  .rintro⟨_,h⟩;exact eq_nil_of_length_eq_zero h
 |[],m+1,p=>by
  simp only[parts,not_mem_nil,false_iff];rintro⟨h,b⟩;rw[sublist_nil.1 h]at b;cases b
 |a::l,m+1,p=>by
  simp only[parts,mem_append,mem_map];constructor
  .rintro(⟨q,hq,rfl⟩|h)
   .obtain⟨h1,h2⟩:=HX.1 hq;exact⟨h1.cons_cons a,by simp[h2]⟩
   .obtain⟨h1,h2⟩:=HX.1 h;exact⟨h1.cons a,h2⟩
  .rintro⟨h,b⟩;cases h with
   |cons _ h=>exact .inr (HX.2 ⟨h,b⟩)
   |cons_cons _ h=>exact .inl ⟨_,HX.2 ⟨h,by simpa using b⟩,rfl⟩
def D9{m:Nat}(h:e[i]?=some A):parts (e.drop i) (m+1)=(parts (e.drop (i+1)) m).map (A::·)++parts (e.drop (i+1)) (m+1):=by
 obtain⟨b,rfl⟩:=List.getElem?_eq_some_iff.1 h;rw[drop_eq_getElem_cons b];rfl
def Il(h:e.length<=i):parts (e.drop i) (b+1)=[]:=by
 rw[drop_eq_nil_of_le h];rfl
def vG(h:∀k∈af,k<n):Z5 af<2^n:=by
 refine Nat.lt_pow_two_of_testBit _ λ i f=>?_;rw[Wt];have:i∉af:=λ b=>by have:=h i b;omega
 simpa using this
section
variable(A:List (List Nat))(out:Nat->Bool)
def QM:Nat->Nat->Nat->Bool
 |0,i,k=>(Jf A i).contains k
 |s+1,i,k=>(Jf A i).contains k|| (Jf A i).any λ o=>out o&&QM s o k
def WP(af:List Nat)(i k:Nat):List Nat:=if(af.getD i 0).testBit k&&out k then af.set i (af.getD i 0||| af.getD k 0)else af
def HO(n:Nat)(af:List Nat)(i:Nat):List Nat:=(range n).foldl (λ af k=>WP out af i k) af
def LU(n:Nat)(af:List Nat):List Nat:=(range n).foldl (λ af i=>HO out n af i) af
def GE(n:Nat):Nat->List Nat->List Nat
 |0,af=>af
 |s+1,af=>GE n s (LU out n af)
end
section
variable(A:List (List Nat))(out:Nat->Bool)
variable{A out}
def VK:QM A out (b+1) i N=true↔(Jf A i).contains N=true\/∃o,o∈Jf A i/\out o=true/\QM A out b o N=true:=by
 rw[QM,Bool.or_eq_true,any_eq_true];simp only[Bool.and_eq_true]
def VL(h:(Jf A i).contains N=true):QM A out b i N=true:=by
 cases b <;> simp only[QM,h,Bool.true_or]
def Pe:∀{s b i k:Nat},s<=b->QM A out s i k=true->QM A out b i k=true
 |0,b,_,_,_,h=>VL h
 |s+1,0,_,_,h,_=>O1
 |s+1,b+1,i,k,h,f=>by
  simp only[QM,Bool.or_eq_true,any_eq_true,Bool.and_eq_true]at f ⊢;exact f.imp id λ⟨o,w,z,B⟩=>⟨o,w,z,Pe O1 B⟩
def EY:∀{s b i o k:Nat},QM A out s i o=true->out o=true->QM A out b o k=true->QM A out (s+b+1) i k=true
 |0,b,i,o,k,f,h,w=>by
  rw[Nat.zero_add,VK];exact .inr ⟨o,by simpa[QM]using f,h,w⟩
 |s+1,b,i,o,k,f,h,w=>by
  rw[show s+1+b+1=(s+b+1)+1 by omega,VK];rcases VK.1 f with f|⟨x,z,B,E⟩
  .exact .inr ⟨o,by simpa using f,h,Pe O1 w⟩
  .exact .inr ⟨x,z,B,EY E h w⟩
def EX{d:Nat}{L:List Nat}(h:ZH A d L):∀{s i k:Nat}(X Y:List Nat),L=X++i::Y->QM A out s i k=true->QM A out Y.length i k=true
 |0,i,k,X,Y,_,b=>Pe (Nat.zero_le _) b
 |s+1,i,k,X,Y,e,b=>by
  simp only[QM,Bool.or_eq_true,any_eq_true,Bool.and_eq_true]at b;rcases b with b|⟨o,f,w,z⟩
  .exact VL b
  .obtain⟨Y1,Y2,rfl⟩:=append_of_mem (h.aft X Y i e o f);have:=EX h (X++i::Y1) Y2 (by rw[e];simp) z;refine Pe (s:=Y2.length+1) S1 ?_;simp only[QM,Bool.or_eq_true,any_eq_true,Bool.and_eq_true];exact .inr ⟨o,f,w,this⟩
structure ZU(n:Nat)(A:List (List Nat))(out:Nat->Bool)(r:Nat)(af:List Nat):Prop where
 len:af.length=n
 sound:∀i,i<n->∀k,(af.getD i 0).testBit k=true->∃s,QM A out s i k=true
 full:∀i,i<n->∀k,QM A out r i k=true->(af.getD i 0).testBit k=true
def KI(b:i<af.length):(af.set i d).getD N 0=if N=i then d else af.getD N 0:=by
 rw[getD_eq_getElem?_getD,getElem?_set];by_cases e:i=N
 .subst e;simp[b]
 .simp[e,Ne.symm e]
def ZU.one(h:ZU n A out N af)(w:i<n)(E:d<n):ZU n A out N (WP out af i d):=by
 unfold WP;split
 .rename_i hc;rw[Bool.and_eq_true]at hc;have z:i<af.length:=by rw[h.len];exact w
  refine⟨by simpa using h.len,λ j f x b=>?_,λ j f x b=>?_⟩
  .rw[KI z]at b;split at b
   .rename_i e;subst e;rw[Nat.testBit_or,Bool.or_eq_true]at b;rcases b with b|b
    .exact h.sound j f x b
    .obtain⟨s,h1⟩:=h.sound j w d hc.1;obtain⟨F,B⟩:=h.sound d E x b;exact⟨_,EY h1 hc.2 B⟩
   .exact h.sound j f x b
  .rw[KI z];have:=h.full j f x b;split
   .rename_i e;subst e;rw[Nat.testBit_or,this,Bool.true_or]
   .exact this
 .exact h
def Xg(n:Nat)(af b:List Nat):Prop:=b.length=af.length/\∀i,i<n->∀k,(af.getD i 0).testBit k=true->(b.getD i 0).testBit k=true
def Xg.refl(n:Nat)(af:List Nat):Xg n af af:=⟨rfl,λ _ _ _ h=>h⟩
def Xg.trans{n:Nat}{a b c:List Nat}(h:Xg n a b)(k:Xg n b c):Xg n a c:=⟨k.1.trans h.1,λ i f x w=>k.2 i f x (h.2 i f x w)⟩
def kE{k:Nat}(w:af.length=n)(f:i<n):Xg n af (WP out af i k):=by
 unfold WP;split
 .refine⟨S1,λ j h x b=>?_⟩;rw[KI O1];split
  .rename_i e;subst e;rw[Nat.testBit_or,b,Bool.true_or]
  .exact b
 .exact .refl ..
def LB{n r i:Nat}(f:i<n):∀{l:List Nat}{af:List Nat},(∀k∈l,k<n)->ZU n A out r af ->
  ZU n A out r (l.foldl (λ af k=>WP out af i k) af)/\Xg n af (l.foldl (λ af k=>WP out af i k) af) /\
  ∀o∈l,(af.getD i 0).testBit o=true->out o=true->∀x,(af.getD o 0).testBit x=true->((l.foldl (λ af k=>WP out af i k) af).getD i 0).testBit x=true
 |[],af,_,h=>⟨h,.refl ..,S1⟩
 |k::l,af,B,h=>by
  have N:=B k S1;have H:=h.one (i:=i) f N;have z:=kE (out:=out) (k:=k) h.len f;obtain⟨I,E,K⟩:=LB (l:=l) f (λ j L=>B j (by simp[L])) H;refine⟨I,z.trans E,λ o w F b x G=>?_⟩;rcases mem_cons.1 w with rfl|w
  .refine E.2 i f x ?_;unfold WP;rw[if_pos (by rw[F,b];rfl),KI (by rw[h.len];exact f),if_pos rfl,Nat.testBit_or,G,Bool.or_true]
  .exact K o w (z.2 i f o F) b x (z.2 o (B o (by simp[w])) x G)
def LC{n r:Nat}(I:∀i,i<n->∀k∈Jf A i,k<n){b:List Nat}(B:ZU n A out r b):∀{l:List Nat}{af:List Nat},(∀k∈l,k<n)->ZU n A out r af->Xg n b af ->
  ZU n A out r (l.foldl (λ af i=>HO out n af i) af)/\Xg n af (l.foldl (λ af i=>HO out n af i) af) /\
  ∀i∈l,∀x,QM A out (r+1) i x=true->((l.foldl (λ af i=>HO out n af i) af).getD i 0).testBit x=true
 |[],af,_,h,_=>⟨h,.refl ..,S1⟩
 |i::l,af,K,h,Q=>by
  have f:=K i S1;obtain⟨H,F,S⟩:=LB (l:=range n) f S1 h;obtain⟨P,G,T⟩:=LC I B (l:=l) (λ j w=>K j (by simp[w])) H (Q.trans F);refine⟨P,F.trans G,λ j w x z=>?_⟩;rcases mem_cons.1 w with rfl|w
  .refine G.2 j f x ?_;simp only[QM,Bool.or_eq_true,any_eq_true,Bool.and_eq_true]at z;rcases z with z|⟨o,E,L,N⟩
   .exact H.full j f x (VL z)
   .have ho:=I j f o E;exact S o (by simpa using ho) (h.full j f o (VL (by simpa using E))) L x (h.full o ho x N)
  .exact T j w x z
def ZU.round(f:∀i,i<n->∀k∈Jf A i,k<n)(h:ZU n A out N af):ZU n A out (N+1) (LU out n af):=by
 obtain⟨b,E,B⟩:=LC f h (l:=range n) S1 h (.refl ..);exact⟨b.len,b.sound,λ i w x z=>B i (by simpa using w) x z⟩
def ZU.rounds{n:Nat}(b:∀i,i<n->∀k∈Jf A i,k<n):∀{s r:Nat}{af:List Nat},ZU n A out r af->ZU n A out (r+s) (GE out n s af)
 |0,r,af,h=>h
 |s+1,r,af,h=>by
  have:=ZU.rounds b (s:=s) (h.round b);rw[show r+(s+1)=r+1+s by omega];exact this
def ZU.start:ZU A.length A out 0 (A.map Z5):=by
 have key:∀i,i<A.length->(A.map Z5).getD i 0=Z5 (Jf A i):=by
  intro i b;simp[getD_eq_getElem?_getD,Jf,b]
 refine⟨S1,λ i b k f=>⟨0,?_⟩,λ i b k f=>?_⟩
 .rw[key i b,Wt]at f;exact f
 .rw[key i b,Wt];exact f
def kO(B:∀i,i<A.length->∀k∈Jf A i,k<A.length)(E:Wu A=false){k:Nat}(w:i<A.length) :
  ((GE out A.length A.length (A.map Z5)).getD i 0).testBit k=QM A out A.length i k:=by
 have h:=ZU.rounds (out:=out) B (s:=A.length) ZU.start;rw[Nat.zero_add]at h;obtain⟨L,f,b⟩:=D8 E;rw[Bool.eq_iff_iff];constructor
 .intro hb;obtain⟨s,F⟩:=h.sound i w k hb;obtain⟨X,Y,e⟩:=append_of_mem (b i w);have:=EX f X Y e F;refine Pe ?_ this;have z:=XJ f.nod f.low;rw[e]at z;simp at z;omega
 .exact h.full i w k
end
variable{q me:LP}{D:Spec}{x:QV}{lo:Nat}{f fn:FuncId}{as first:Array Value}{T:Type}{S:Sys P T}{j:Qa T}{v:Int}{u:Func}{Q:Ex->Act->Qa Tk->Prop}{a:Act}{ops:Array Oper}{o:Oper}{r:Operand}{xs:Array Operand}{G:Array TypeId}{Up Uc:Qa Tk}{c mc:Option ZN}
def wI(c:Nat):Nat:=if c=1 then 1 else 0
def LP.cls_le(q:LP):q.cls<=2:=by cases q <;> simp[LP.cls]
def LP.word_idle(h:LP.word .idle q=some (b,N)):b=wI q.cls/\N=0:=by
 cases q with
 |own v=>cases v <;> simp_all[LP.word,LP.cls,wI]
 |_=>first|(simp_all[LP.word,LP.cls,wI];done)|(simp[LP.word,LP.cls,wI]at h ⊢;omega)
def LP.word_got(h:LP.word .idle q=some (N,d))(b:q.cls≠1):LP.word .got q=some (1,0):=by
 cases q <;> simp_all[LP.word,LP.cls]
def LP.word_wai(h:LP.word .idle q=some (N,d))(b:q.cls=1):LP.word .wai q=some (9,0):=by
 cases q with
 |own v=>cases v <;> simp_all[LP.word,LP.cls]
 |_=>simp_all[LP.word,LP.cls]
def XQ(h:b<2):Gu n (Jd n b):=.inr ⟨b,false,h,rfl⟩
def Gl(h:b<2):Gu n (W9 n b):=.inr ⟨b,true,h,rfl⟩
def IP(z:U.tok=⟨d,.wrk b D,some (.lok x s me lo)⟩):∀{n:Nat}{g g':Gr}{l:List (Nat×Bool)},JI P x.t m n g=some (g',l)->Z6 x.m l->J (Za P t N) Stop m g' U->J (Za P t N) Stop m g U
 |0,g,g',l,h,_,k=>by simp only[JI,Option.some.injEq,Prod.mk.injEq]at h;rw[h.1];exact k
 |n+1,g,g',l,h,F,k=>by
  obtain⟨f,bs,l',I,w,G,rfl⟩:=Pg h;have E:=IP z G (λ y B=>F y (mem_append_right _ B)) k;refine .syn (QB.mu I z λ q st sm H K=>⟨f,bs,#[],me,st,sm,d,lo,H,λ y B=>F y (mem_append_left _ B),w _ _,K,Nat.le_refl _,rfl,rfl,λ _=>rfl,S1,rfl,.inl rfl,?_⟩);rw[Qa.lk_self z];exact E
def J.mcalm(w:U.tok=⟨d,.wrk b D,some (.lok x s me lo)⟩)(h:Qm P x.t m n g=some l)(f:Z6 x.m l)(k:J (Za P t N) Stop m (Qi P x.t m n g) U):J (Za P t N) Stop m g U:=
 IP w (P4 h) f k
def J.mdis(z:U.tok=⟨d,.wrk b D,some (.lok x s me lo)⟩)(h:(Qc P x.t m g undef undef).info=some (st,sm,#[Z0 .disable],[]))(k:J (Za P t N) Stop m ((Qc P x.t m g undef undef).get g) (U.lk (d+1) b D x s me lo)):J (Za P t N) Stop m g U:=
 .syn (QB.mu (Qn (SE.of_info (g:=g) h)) z λ q st sm w B=>⟨_,[],_,me,st,sm,d+1,lo,w,Qe,W1 h rfl _ _,B,Nat.le_refl _,rfl,rfl,λ _=>rfl,by intro e f;simp at f;subst f;exact .inl rfl,rfl,.inl rfl,k⟩)
def J.mena(z:U.tok=⟨d+1,.wrk b D,some (.lok x s me lo)⟩)(h:(Qc P x.t m g undef undef).info=some (st,sm,#[Z0 .enable],[]))(k:J (Za P t N) Stop m ((Qc P x.t m g undef undef).get g) (U.lk d b D x s me lo)):J (Za P t N) Stop m g U:=
 .syn (QB.mu (Qn (SE.of_info (g:=g) h)) z λ q st sm w B=>⟨_,[],_,me,st,sm,d,lo,w,Qe,W1 h rfl _ _,B,Nat.le_refl _,rfl,rfl,λ _=>rfl,by intro e f;simp at f;subst f;exact .inl rfl,rfl,.inl rfl,k⟩)
def J.midle(H:U.tok=⟨d,.wrk b D,some (.lok x s .idle lo)⟩)(G:g.status=.running)(h:∀c,lo<=c->c<=2 ->
  (∃bs es,Z6 x.m bs/\(Qc P x.t m g (Zb (wI c)) (Qp 0)).info=some (Zb (wI c),Qp 0,es,bs)/\(es=#[]\/es=#[Jd x.m 0])/\J (Za P t N) Stop m ((Qc P x.t m g (Zb (wI c)) (Qp 0)).get g) (U.lk d b D x s .idle c)) \/
  (c≠1/\∃bs,Z6 x.m bs/\(Qc P x.t m g (Zb (wI c)) (Qp 0)).info=some (Zb 1,Qp 0,#[Jd x.m 0,W9 x.m 0],bs)/\J (Za P t N) Stop m ((Qc P x.t m g (Zb (wI c)) (Qp 0)).get g) (U.lk d b D x s .got c)) \/
  (c=1/\∃bs,Z6 x.m bs/\(Qc P x.t m g (Zb (wI c)) (Qp 0)).info=some (Zb 9,Qp 0,#[Jd x.m 0,W9 x.m 0],bs)/\J (Za P t N) Stop m ((Qc P x.t m g (Zb (wI c)) (Qp 0)).get g) (U.lk d b D x s .wai c))):J (Za P t N) Stop m g U:=by
 refine .syn (QB.mu G H λ q a c F B=>?_);obtain⟨rfl,rfl⟩:=LP.word_idle B;rcases h q.cls F q.cls_le with⟨bs,es,w,z,f,k⟩|⟨E,bs,w,z,k⟩|⟨E,bs,w,z,k⟩
 .refine⟨_,bs,es,.idle,_,0,d,q.cls,Nat.le_refl _,w,SE.of_info (g:=g) z,B,Nat.le_refl _,rfl,rfl,λ e=>(by cases e),?_,?_,.inl rfl,k⟩
  .rcases f with rfl|rfl
   .simp
   .intro e f;simp at f;subst f;exact XQ O1
  .rcases f with rfl|rfl <;> rfl
 .exact⟨_,bs,_,.got,1,0,d,q.cls,Nat.le_refl _,w,SE.of_info (g:=g) z,LP.word_got B E,by simp[LP.cls],rfl,rfl,λ e=>(by cases e),by intro e f;simp at f;rcases f with rfl|rfl;exact XQ O1;exact Gl O1,rfl,.inl rfl,k⟩
 .exact⟨_,bs,_,.wai,9,0,d,q.cls,Nat.le_refl _,w,SE.of_info (g:=g) z,LP.word_wai B E,by simp[LP.cls],rfl,rfl,λ e=>(by cases e),by intro e f;simp at f;rcases f with rfl|rfl;exact XQ O1;exact Gl O1,rfl,.inl rfl,k⟩
def J.mwok(F:U.tok=⟨d,.wrk b D,some (.lok x s .wok lo)⟩)(E:g.status=.running)(h :
  (∃bs es,Z6 x.m bs/\(Qc P x.t m g (Zb 2) (Qp 0)).info=some (Zb 2,Qp 0,es,bs)/\(es=#[]\/es=#[Jd x.m 0])/\J (Za P t N) Stop m ((Qc P x.t m g (Zb 2) (Qp 0)).get g) (U.lk d b D x s .wok lo)) \/
  (∃bs,Z6 x.m bs/\(Qc P x.t m g (Zb 2) (Qp 0)).info=some (Zb 1,Qp 0,#[Jd x.m 0,W9 x.m 0],bs)/\J (Za P t N) Stop m ((Qc P x.t m g (Zb 2) (Qp 0)).get g) (U.lk d b D x s .got lo))):J (Za P t N) Stop m g U:=by
 refine .syn (QB.mu E F λ q a c B G=>?_);obtain⟨rfl,rfl,rfl⟩:q=.fin/\a=2/\c=0:=by cases q <;> simp_all[LP.word]
 rcases h with⟨bs,es,w,z,f,k⟩|⟨bs,w,z,k⟩
 .refine⟨_,bs,es,.wok,_,0,d,lo,B,w,SE.of_info (g:=g) z,G,Nat.le_refl _,rfl,rfl,λ e=>(by cases e),?_,?_,.inl rfl,k⟩
  .rcases f with rfl|rfl
   .simp
   .intro e f;simp at f;subst f;exact XQ O1
  .rcases f with rfl|rfl <;> rfl
 .exact⟨_,bs,_,.got,1,0,d,lo,B,w,SE.of_info (g:=g) z,rfl,by simp[LP.cls],rfl,rfl,λ e=>(by cases e),by intro e f;simp at f;rcases f with rfl|rfl;exact XQ O1;exact Gl O1,rfl,.inl rfl,k⟩
def J.mblk(E:U.tok=⟨d,.wrk b D,some (.lok x s .wai lo)⟩)(B:g.status=.running)(z:g.offers=none)(f:∀st,∃bs,Z6 x.m bs/\Qc P x.t m g st (Qp 0)=.blocked { g with status:=.blocked } st (Qp 0) bs)
  {bs:List (Nat×Bool)} (w:Z6 x.m bs) (h:(Qc P x.t m g (Zb 2) (Qp 1)).info=some (Zb 2,Qp 0,#[Z0 .disable,Jd x.m 1,W9 x.m 1,Z0 .enable],bs)) (k:J (Za P t N) Stop m ((Qc P x.t m g (Zb 2) (Qp 1)).get g) (U.lk d b D x s .wok 2)):J (Za P t N) Stop m g U:=
 .syn (QB.mblk B z E f ⟨_,bs,w,SE.of_info (g:=g) h,k⟩)
def J.macq(f:U.tok=⟨0,.wrk b D,some (.lok x s .got lo)⟩)(h:(Qc P x.t m g undef undef).info=some (st,sm,#[Z0 (.acquire ⟨x.m,0,none⟩)],[]))
  (k:∀v M,x.sp (if s then v else false) (if s then false else v) M->J (Za P t N) Stop m ((Qc P x.t m g undef undef).get g) { U with M:=U.M++M,tok:=⟨0,.wrk b D,some (.lok x s (.own v) lo)⟩ }):J (Za P t N) Stop m g U:=
 .syn (QB.macq (Qn (SE.of_info (g:=g) h)) f Qe (W1 h rfl) k)
def J.mown(w:U.tok=⟨d,.wrk b D,some (.lok x s (.own y) lo)⟩)(G:g.status=.running)(h:∀a,a=1\/a=9 ->
  ∃bs es,Z6 x.m bs/\(Qc P x.t m g (Zb a) (Qp 0)).info=some (Zb a,Qp 0,es,bs)/\(es=#[]\/es=#[Jd x.m 0])/\J (Za P t N) Stop m ((Qc P x.t m g (Zb a) (Qp 0)).get g) U):J (Za P t N) Stop m g U:=by
 refine .syn (QB.mu G w λ q a c F H=>?_);obtain⟨z,rfl⟩:(a=1\/a=9)/\c=0:=by cases q <;> cases y <;> simp_all[LP.word]
 obtain⟨bs,es,B,E,f,k⟩:=h a z;refine⟨_,bs,es,.own y,_,0,d,lo,F,B,SE.of_info (g:=g) E,H,Nat.le_refl _,rfl,rfl,λ _=>rfl,?_,?_,.inl rfl,by rw[Qa.lk_self w];exact k⟩
 .rcases f with rfl|rfl
  .simp
  .intro e f;simp at f;subst f;exact XQ O1
 .rcases f with rfl|rfl <;> rfl
def J.mrel{v:Bool}{M₁ M₂:List Qw}(z:U.tok=⟨0,.wrk b D,some (.lok x s (.own v) lo)⟩)(w:U.M=M₁++M₂)(f:x.sp (if s then v else true) (if s then true else v) M₁)(h:(Qc P x.t m g undef undef).info=some (st,sm,#[Z0 (.releaseMerge ⟨x.m,0,none⟩)],[]))
  (k:J (Za P t N) Stop m ((Qc P x.t m g undef undef).get g) { U with M:=M₂,tok:=⟨0,.wrk b D,some (.lok x s .rls lo)⟩ }):J (Za P t N) Stop m g U:=
 .syn (QB.mrel (Qn (SE.of_info (g:=g) h)) z Qe w f (W1 h rfl) k)
def J.mrls(H:U.tok=⟨d,.wrk b D,some (.lok x s .rls lo)⟩)(G:g.status=.running)
  (E:∃bs,Z6 x.m bs/\(Qc P x.t m g (Zb 1) (Qp 0)).info=some (Zb 0,Qp 0,#[Jd x.m 0,W9 x.m 0],bs)/\J (Za P t N) Stop m ((Qc P x.t m g (Zb 1) (Qp 0)).get g) (U.lk d b D x s .fin lo))
  (F:∃bs,Z6 x.m bs/\(Qc P x.t m g (Zb 9) (Qp 0)).info=some (Zb 8,Qp 0,#[Jd x.m 0,W9 x.m 0],bs)/\J (Za P t N) Stop m ((Qc P x.t m g (Zb 9) (Qp 0)).get g) (U.lk d b D x s .unl lo)):J (Za P t N) Stop m g U:=by
 refine .syn (QB.mu G H λ q a c B I=>?_);have f:∀e∈(#[Jd x.m 0,W9 x.m 0]:Array Event),Gu x.m e:=by intro e f;simp at f;rcases f with rfl|rfl;exact XQ O1;exact Gl O1
 by_cases z:q=.wai
 .subst z;cases I;obtain⟨bs,h,w,k⟩:=F;exact⟨_,bs,_,.unl,8,0,d,lo,B,h,SE.of_info (g:=g) w,rfl,by simp[LP.cls],rfl,rfl,λ e=>(by cases e),f,rfl,.inl rfl,k⟩
 .obtain⟨rfl,rfl⟩:a=1/\c=0:=by cases q <;> simp_all[LP.word]
  obtain⟨bs,h,w,k⟩:=E;exact⟨_,bs,_,.fin,0,0,d,lo,B,h,SE.of_info (g:=g) w,by cases q <;> simp_all[LP.word],by simp[LP.cls],rfl,rfl,λ e=>(by cases e),f,rfl,.inl rfl,k⟩
def J.munl(F:U.tok=⟨d,.wrk b D,some (.lok x s .unl lo)⟩)(E:g.status=.running)
  (h:∃bs,Z6 x.m bs/\(Qc P x.t m g (Zb 8) (Qp 0)).info=some (Zb 2,Qp 0,#[Jd x.m 0,W9 x.m 0],bs)/\J (Za P t N) Stop m ((Qc P x.t m g (Zb 8) (Qp 0)).get g) (U.lk d b D x s .unl2 lo)):J (Za P t N) Stop m g U:=by
 refine .syn (QB.mu E F λ q a c B G=>?_);obtain⟨rfl,rfl,rfl⟩:q=.wai/\a=8/\c=0:=by cases q <;> simp_all[LP.word]
 obtain⟨bs,w,z,k⟩:=h;exact⟨_,bs,_,.unl2,2,0,d,lo,B,w,SE.of_info (g:=g) z,rfl,by simp[LP.cls],rfl,rfl,λ e=>(by cases e),by intro e f;simp at f;rcases f with rfl|rfl;exact XQ O1;exact Gl O1,rfl,.inl rfl,k⟩
def J.munl2(G:U.tok=⟨d,.wrk b D,some (.lok x s .unl2 lo)⟩)(F:g.status=.running)(f:mayWake P g=true)
  (h:∃bs,Z6 x.m bs/\(Qc P x.t m g (Zb 2) (Qp 0)).info=some (Zb 2,Qp 1,#[Z0 .disable,Jd x.m 1,W9 x.m 1,Z0 .enable],bs)/\J (Za P t N) Stop m ((Qc P x.t m g (Zb 2) (Qp 0)).get g) (U.lk d b D x s .fin lo)):J (Za P t N) Stop m g U:=by
 refine .syn (QB.mu F G λ q a c E H=>?_);obtain⟨rfl,rfl,rfl⟩:q=.wai/\a=2/\c=0:=by cases q <;> simp_all[LP.word]
 obtain⟨bs,z,B,k⟩:=h;exact⟨_,bs,_,.fin,2,1,d,lo,E,z,SE.of_info (g:=g) B,rfl,by simp[LP.cls],rfl,rfl,λ e=>(by cases e),by intro e w;simp at w;rcases w with rfl|rfl|rfl|rfl <;> first|exact .inl rfl|exact XQ O1|exact Gl O1,rfl,.inr (.inr f),k⟩
def LK(g:Gr):Option (FuncId×Array Value):=
 match g.frame.todo with
 |.inRegion ops (i::_)::_=>(match ops[i]? with
  |some o=>(match Region.wanted o (yielded ops g.frame.tmps)with
   |true=>(match o.op with
    |.call c=>(match c.callee with
     |.value (.func f)=>some (f,c.args.map g.frame.eval)
     |_=>none)
    |_=>none)
   |false=>none)
  |none=>none)
 |_=>none
def aft(g:Gr)(v:Value):Gr:={ g with frame:=g.frame.finish v }
structure WU(P:Program)(g:Gr)(f:FuncId)(as:Array Value):Prop where
 run:g=Wj g.frame g.callers
 mode:(match g.frame.mode with|.run=>true|_=>false)=true
 kind:(g.frame.kind==.early)=false
 rnd:g.frame.roundOf.isNone=true
 at_:LK g=some (f,as)
def WU.open(h:WU P g f as):∃(b:Frame)(a:Act)(ops:Array Oper)(i:Nat)(rest:List Nat)(B:List Item)(cs:List Frame)(o:Oper)(z:Array TypeId)(xs:Array Operand),g=Go.Conc.G (b.at a (.inRegion ops (i::rest)::B)) cs/\ops[i]?=some o/\Region.wanted o (yielded ops a.tmps)=true/\b.kind≠.early /\
  o.op=.call { callee:=.value (.func f),args:=xs,argTypes:=z }/\xs.map a.eval=as/\∀v,aft g v=Go.Conc.G (b.at (a.put o.dst v) (.inRegion ops rest::B)) cs:=by
 obtain⟨F,H,E,K,w⟩:=h;obtain⟨fr,cs,st,L,of⟩:=g;simp only[Wj,Goroutine.mk.injEq,true_and]at F;obtain⟨rfl,rfl,rfl⟩:=F;obtain⟨fn,tmps,todo,defers,mode,kind,ro⟩:=fr;simp only at H E K;obtain rfl:ro=none:=by cases ro <;> simp_all
 cases mode with
 |run=>
  unfold LK at w;simp only at w;split at w
  .rename_i ops i rest B;split at w
   .rename_i o ho;split at w
    .rename_i hw;split at w
     .rename_i c hop;obtain⟨I,xs,z⟩:=c;simp only at w;split at w
      .cases w;refine⟨{ fn:=fn,tmps:=tmps,todo:=[],defers:=defers,mode:=.run,kind:=kind,roundOf:=none },⟨tmps,defers⟩,ops,i,rest,B,cs,o,z,xs,rfl,ho,hw,λ e=>?_,hop,?_,λ v=>?_⟩
       .simp only at e;rw[e]at E;cases E
       .congr 1
       .cases hd:o.dst <;> simp[aft,Go.Conc.G,Frame.at,Frame.finish,Act.put,ho,hd]
      .cases w
     .cases w
    .cases w
   .cases w
  .cases w
 |_=>cases H
def zT(U:Qa T)(w:World):ZQ U w w.later U:=
 ⟨⟨w.tick,rfl⟩,rfl,rfl,Nat.le_refl _,λ _ c _ fr h=>⟨c,fr,h,rfl,λ _ _=>rfl,.inl rfl⟩,λ _ _ h _ _=>h,λ _ h=>.inl h,λ _ h=>.inl h⟩
def zS(U:Qa T)(w:World):ZQ U w w.asked U:=
 ⟨.refl _,rfl,rfl,Nat.le_refl _,λ _ c _ fr h=>⟨c,fr,h,rfl,λ _ _=>rfl,.inl rfl⟩,λ _ _ h _ _=>h,λ _ h=>.inl h,λ _ h=>.inl h⟩
section
variable{Stop:QH T}
def J.nano{f:FuncId}{as:Array Value}{fn:Func}(h:WU P g f as)(K:P.funcs[f]?=some fn)(z:(fn.name== "runtime.NumGoroutine")=false)(H:fn.body.isNone=true)(N:Extern.findNext fn=none)(I:Extern.find fn=some Extern.OsHooks.nano)(T:fn.norace=true)
  (k:∀n:Int,J S Stop m (aft g (.int .i64 n)) j):J S Stop m g j:=by
 obtain⟨b,a,ops,i,rest,W,cs,o,G,xs,F,Q,V,L,E,-,B⟩:=h.open;refine .priv ⟨by rw[F];rfl,λ w ok=>⟨_,w.later,#[],j,?_,S1,zT j w,⟨ok.imm,ok.held,ok.apart,ok.sep⟩,rfl,k ((w.os.mono+w.tick:Nat):Int)⟩⟩;rw[B,F];exact Go.Conc.stepG_nanotime Q V L E K z H N I T
end
section
variable{Stop:QH T}
def J.spin{k_0:IntKind}(h:WU P g f #[.int k_0 v])(L:P.funcs[f]?=some u)(z:(u.name== "runtime.NumGoroutine")=false)(I:u.body.isNone=true)(Q:Extern.findNext u=none)(K:Extern.find u=some Extern.Sync.canSpin)
  (H:v<4) (k:∀r:Bool,J S Stop m (aft g (.bool r)) j):J S Stop m g j:=by
 obtain⟨b,a,ops,i,rest,X,cs,o,G,xs,F,T,V,N,E,W,B⟩:=h.open;refine .priv ⟨by rw[F];rfl,λ w ok=>⟨_,w.asked,#[],j,?_,S1,zS j w,⟨ok.imm,ok.held,ok.apart,ok.sep⟩,rfl,k w.spins⟩⟩;rw[B,F];exact Go.Conc.stepG_canSpin_ask T V N E L z I Q K W H
end
def kZ{g:FuncId}
  (Z:ops[i]?=some o) (hw:Region.wanted o (yielded ops a.tmps)=true) (Y:o.op=.go { callee:=.value r,args:=xs,argTypes:=G }) (hx:a.eval r=.func (.func g) first as)
   (ht:U.tok=⟨0,.par b ds true .run,mu⟩) (hf:Hs U Up Uc) (hp:Up.tok=⟨0,.par b (D::ds) false .run,c⟩) (hc:Uc.tok=⟨0,.wrk b D,mc⟩) (W:Yj mu c mc)
  (hk:∀Stop,J (Za P t N) Stop false (Gh P { target:=.fn (.func g) as,args:=first++xs.map a.eval }) Uc) (hq:QT (Za P t N) fn none ops af Q (a.put o.dst undef) Up) :
  QT (Za P t N) fn none ops (i::af) Q a U:=by
 intro Stop m w k cs S T;refine .syn (QB.go (X:=J (Za P t N) Stop) (g':=R w (a.put o.dst undef) (.inRegion ops af::k) cs) rfl ht ?_ hf hp hc W (hq Stop m w k cs S T) (hk Stop));have V:w.kind≠.early:=S.2.2.1;have F:w.roundOf=none:=S.2.1;have E:=KO w a (.inRegion ops (i::af)::k);have z:=HW (b:=w) (a:=a) (k:=k) (rest:=af) Z undef
 have K:execOp a.eval o=(do let d <- resolve a.eval { callee:=.value r,args:=xs,argTypes:=G } o.type;pure (.spawn d):Sem Next):=by
  unfold execOp;rw[Y]
 have I:QA P t (execOp a.eval o) undef undef #[] []=.ok (.spawn { target:=.fn (.func g) as,args:=first++xs.map a.eval }) undef undef #[] []:=by
  rw[K];simp only[resolve,hx,Deferred.ofValue];rfl
 show Qc P t m (R w a (.inRegion ops (i::af)::k) cs) undef undef=_;unfold Qc R;simp only[fr];unfold GN;simp only[Z,hw,F];simp only[fr]at E;rw[F]at E;rw[E,I];unfold Xo;have:∀(kd:CallKind)(A B:SE),kd≠.early->(match kd with|.early=>A|_=>B)=B:=by intro kd A B h;cases kd <;> first|rfl|exact absurd rfl h
 simp only;cases H:w.kind with
 |early=>exact absurd H V
 |_=>
  simp only[PM,Yg,isEmpty_nil,Bool.and_self,cond_true,Sj,Wj];simp only[fr,F,H]at z ⊢;rw[z]
