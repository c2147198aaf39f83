/- Lemmas. No conditions. -/
import Derived.Conc.ClockLaws
import Derived.Test.YtnpfcnfhfkflhaaGreatDoorB01
import Derived.Test.YtnpfcnfhfkflhaaGreatDoorB12
set_option linter.all false
open List
namespace Go.TM
open Go.Conc (QuitsD)
variable{P:Program}{t:TypeId}{N:Nat}{m:Bool}{U:Qa Tk}{Stop:QJ Tk}
def JL(P:Program)(t:TypeId)(m:Bool):Nat->Gr->Option (Gr×List (Nat×Bool))
 |0,g=>some (g,[])
 |n+1,g=>match g.status,Qc P t m g undef undef with
  |.running,.go g' _ _ es bs=>bif es.isEmpty&&bs.all (!·.2)then(JL P t m n g').map (λ x=>(x.1,bs++x.2))else none
  |_,_=>none
def Qi(P:Program)(t:TypeId)(m:Bool)(n:Nat)(g:Gr):Gr:=match JL P t m n g with|some x=>x.1|none=>g
def Qm(P:Program)(t:TypeId)(m:Bool)(n:Nat)(g:Gr):Option (List (Nat×Bool)):=(JL P t m n g).map (·.2)
def P7{n:Nat}{g g':Gr}{l:List (Nat×Bool)}(h:JL P t m (n+1) g=some (g',l)) :
  ∃b bs l',g.status=.running/\(∀st sm,Qc P t m g st sm=.go b st sm #[] bs)/\JL P t m n b=some (g',l')/\l=bs++l':=by
 simp only[JL]at h;split at h
 .rename_i b st' sm' es bs hs hst;cases e:es.isEmpty&&bs.all (!·.2)with
  |false=>simp_all
  |true=>
   rw[e]at h;simp only[cond_true]at h;obtain⟨⟨B,l'⟩,E,w⟩:=Option.map_eq_some_iff.1 h;cases w;simp only[Bool.and_eq_true,Array.isEmpty_iff]at e;obtain⟨rfl,z⟩:=e;obtain⟨-,f⟩:=Lu _ _ _ _ _ _ _ hst z;grind
 .cases h
def PJ{n:Nat}{g:Gr}{l:List (Nat×Bool)}(h:Qm P t m n g=some l):JL P t m n g=some (Qi P t m n g,l):=by
 grind[Qm,Qi]
def Il{b:Nat}(w:U.tok.ph.blk=some b):∀{n:Nat}{g g':Gr}{l:List (Nat×Bool)},JL P t m n g=some (g',l)->Z8 b l->J (Zb P t N) Stop m g' U->J (Zb P t N) Stop m g U
 |0,g,g',l,h,_,k=>by grind[JL,Option.some.injEq,Prod.mk.injEq]
 |n+1,g,g',l,h,z,k=>by
  obtain⟨B,bs,l',F,e,E,rfl⟩:=P7 h;exact .syn (QD.quiet F w e (λ y f=>z y (mem_append_left _ f)) (Il w E (λ y f=>z y (mem_append_right _ f)) k))
def J.calm{b n:Nat}{g:Gr}{l:List (Nat×Bool)}(e:U.tok.ph.blk=some b)(h:Qm P t m n g=some l)(f:Z8 b l)(k:J (Zb P t N) Stop m (Qi P t m n g) U):J (Zb P t N) Stop m g U:=
 Il e (PJ h) f k
def D9{b d k:Nat}{p:Ph}:∀{n:Nat}{g g':Gr}{l:List (Nat×Bool)},JL P t false n g=some (g',l)->Z8 b l->Tl P t N b k d p g'->Tl P t N b (n+k) d p g
 |0,g,g',l,h,_,q=>by simp_all[JL,Option.some.injEq,Prod.mk.injEq,Nat.zero_add]
 |n+1,g,g',l,h,z,q=>by
  obtain⟨e,bs,l',E,f,B,rfl⟩:=P7 h;rw[show n+1+k=(n+k)+1 by omega];exact⟨E,.inl ⟨e,#[],bs,S1,λ y w=>z y (mem_append_left _ w),f,D9 B (λ y w=>z y (mem_append_right _ w)) q⟩⟩
def Tl.calm{b d k n:Nat}{p:Ph}{g:Gr}{l:List (Nat×Bool)}(h:Qm P t false n g=some l)(e:Z8 b l)(q:Tl P t N b k d p (Qi P t false n g)):Tl P t N b (n+k) d p g:=
 D9 (PJ h) e q
def Dh{d k:Nat}:∀{n:Nat}{g g':Gr},JL P t false n g=some (g',[])->QuitsD P k d g'->QuitsD P (n+k) d g
 |0,g,g',h,q=>by simp only[JL,Option.some.injEq,Prod.mk.injEq]at h;rw[Nat.zero_add,h.1];exact q
 |n+1,g,g',h,q=>by
  obtain⟨b,bs,l',B,e,z,f⟩:=P7 h;have:bs=[]/\l'=[]:=by simpa using f.symm
  obtain⟨rfl,rfl⟩:=this;rw[show n+1+k=(n+k)+1 by omega];exact .inr ⟨B,b,#[],S1,λ w=>OR (e undef undef) w,Dh z q⟩
def Ze{d k n:Nat}{g:Gr}(h:Qm P t false n g=some [])(q:QuitsD P k d (Qi P t false n g)):QuitsD P (n+k) d g:=Dh (PJ h) q
def js{d k:Nat}{g g':Gr}{st sm:Value}{es:Array Event}(f:g.status=.running)(h:Qc P t false g undef undef=.go g' st sm es [])(b:∀e∈es,Event.mute e=true)(q:QuitsD P k (deafBehind d es) g'):QuitsD P (k+1) d g:=
 .inr ⟨f,g',es,b,λ w=>OR h w,q⟩
def SE.info:SE->Option (Value×Value×Array Event×List (Nat×Bool))
 |.go _ st sm es bs=>some (st,sm,es,bs)
 |_=>none
def SE.of_info{s:SE}{g:Gr}{st sm:Value}{es:Array Event}{bs:List (Nat×Bool)}(h:s.info=some (st,sm,es,bs)):s=.go (s.get g) st sm es bs:=by
 cases s <;> simp only[SE.info,Option.some.injEq,Prod.mk.injEq,reduceCtorEq]at h;obtain⟨rfl,rfl,rfl,rfl⟩:=h;rfl
def W5{g:Gr}{st sm:Value}{es:Array Event}{bs:List (Nat×Bool)}(h:(Qc P t m g undef undef).info=some (st,sm,es,bs))(b:bs.all (!·.2)=true):∀st sm,Qc P t m g st sm=.go ((Qc P t m g undef undef).get g) st sm es bs:=
 (Lu _ _ _ _ _ _ _ (SE.of_info h) b).2
def Tl.mute{b d n:Nat}{p:Ph}{g:Gr}{st sm:Value}{es:Array Event}{bs:List (Nat×Bool)}(h:(Qc P t false g undef undef).info=some (st,sm,es,bs))(w:bs.all (!·.2)=true)(f:Z8 b bs)
  (z:∀e∈es,Event.mute e=true) (k:Tl P t N b n (deafBehind d es) p ((Qc P t false g undef undef).get g)):Tl P t N b (n+1) d p g:=
 ⟨Qn (SE.of_info (g:=g) h),.inl ⟨_,es,bs,z,f,W5 h w,k⟩⟩
def J9{d k:Nat}{g:Gr}{st sm:Value}{es:Array Event}(h:(Qc P t false g undef undef).info=some (st,sm,es,[]))(b:∀e∈es,Event.mute e=true)(q:QuitsD P k (deafBehind d es) ((Qc P t false g undef undef).get g)):QuitsD P (k+1) d g:=
 js (Qn (SE.of_info (g:=g) h)) (SE.of_info h) b q
def Ju:∀{n d k:Nat}{g:Gr},QuitsD P n d g->QuitsD P (n+k) d g
 |0,d,k,g,h=>by cases k with|zero=>exact h|succ k=>exact .inl h
 |n+1,d,k,g,h=>by
  rw[show n+1+k=(n+k)+1 by omega];exact h.imp id λ⟨f,g',es,e,b,q⟩=>⟨f,g',es,e,b,Ju q⟩
end Go.TM
namespace Go.TM
variable{P:Program}{t:TypeId}{N:Nat}{m:Bool}{U:Qa Tk}{Stop:QJ Tk}{g:Gr}{b d:Nat}{ds:List Spec}{pend:Bool}{k_0:PS}{st sm:Value}{mu:Option ZS}
def Qg:Z8 b []:=λ _ h=>by cases h
def Q4{x y:Bool}:Z8 b [(b,x),(b,y)]:=λ z h=>by grind
def Zs{x:Bool}:Z8 b [(b,x)]:=λ z h=>S2
def Js{x y z w:Bool}:Z8 b [(b,x),(b,y),(b,z),(b,w)]:=λ v h=>by grind
def J.dis(e:U.tok=⟨d,.par b ds pend k_0,mu⟩)(h:(Qc P t m g undef undef).info=some (st,sm,#[Z2 .disable],[]))(k:J (Zb P t N) Stop m ((Qc P t m g undef undef).get g) (U.at (d+1) (.par b ds pend k_0))):J (Zb P t N) Stop m g U:=
 .syn (QD.dis (Qn (SE.of_info (g:=g) h)) e (W5 h rfl) Qg k)
def J.ena(e:U.tok=⟨d+1,.par b ds pend k_0,mu⟩)(h:(Qc P t m g undef undef).info=some (st,sm,#[Z2 .enable],[]))(k:J (Zb P t N) Stop m ((Qc P t m g undef undef).get g) (U.at d (.par b ds pend k_0))):J (Zb P t N) Stop m g U:=
 .syn (QD.ena (Qn (SE.of_info (g:=g) h)) e (W5 h rfl) Qg k)
def J.said(wr:Bool)(e:U.tok=⟨1,.par b ds pend k_0,mu⟩)(h:(Qc P t m g undef undef).info=some (st,sm,#[Z2 (bif wr then .write ⟨b,1,none⟩else .read ⟨b,1,none⟩)],[]))(k:J (Zb P t N) Stop m ((Qc P t m g undef undef).get g) U):J (Zb P t N) Stop m g U:=
 .syn (QD.said (wr:=wr) (Qn (SE.of_info (g:=g) h)) e (W5 h rfl) Qg k)
def J.acq(f:U.tok=⟨0,.par b ds false .up,none⟩)(h:(Qc P t m g undef undef).info=some (st,sm,#[Z2 (.acquire ⟨b,0,none⟩)],[]))(k:∀e,JO ds e->J (Zb P t N) Stop m ((Qc P t m g undef undef).get g) ((U.with e.flatten).at 0 .out)):J (Zb P t N) Stop m g U:=
 .syn (QD.acq (Qn (SE.of_info (g:=g) h)) f Qg (W5 h rfl) k)
def J.acqM{x:QY}{u:Bool->Bool}(f:U.tok=⟨0,.par b ds false .up,some (.par x u)⟩)(h:(Qc P t m g undef undef).info=some (st,sm,#[Z2 (.acquire ⟨b,0,none⟩)],[]))(k:∀e M,JO ds e->x.sp (u false) (u true) M->J (Zb P t N) Stop m ((Qc P t m g undef undef).get g) { U with M:=(U.M++e.flatten)++M,tok:=⟨0,.out,none⟩ }):J (Zb P t N) Stop m g U:=
 .syn (QD.acqM (Qn (SE.of_info (g:=g) h)) f Qg (W5 h rfl) k)
theorem J.add(w:U.tok=⟨1,.par b ds false .run,mu⟩)(f:ds.length<N)(h:∀c,c<=ds.length->(Qc P t m g (Q1 c 0) (Qq 0)).info=some (Q1 (c+1) 0,Qq 0,#[Jg b 0,QB b 0],[(b,true),(b,true)]) /\
  J (Zb P t N) Stop m ((Qc P t m g (Q1 c 0) (Qq 0)).get g) (U.at 1 (.par b ds true .run))):J (Zb P t N) Stop m g U:=
 .syn (QD.add (Qn (SE.of_info (g:=g) (h 0 (Nat.zero_le _)).1)) w f λ c e=>⟨_,_,SE.of_info (g:=g) (h c e).1,Q4,(h c e).2⟩)
def J.load{u:Nat}(w:U.tok=⟨1,.par b ds false k_0,mu⟩)(f:Ha ds u k_0)(h:∀c,c<=u->(Qc P t m g (Q1 c 0) (Qq 0)).info=some (Q1 c 0,Qq 0,#[Jg b 0],[(b,true)]) /\
  (J (Zb P t N) Stop m ((Qc P t m g (Q1 c 0) (Qq 0)).get g) (U.at 1 (.par b ds false (.seen c)))\/(c=0/\J (Zb P t N) Stop m ((Qc P t m g (Q1 c 0) (Qq 0)).get g) (U.at 1 (.par b ds false .up))))):J (Zb P t N) Stop m g U:=
 .syn (QD.look (Qn (SE.of_info (g:=g) (h 0 (Nat.zero_le _)).1)) w f λ c e=>⟨_,_,Zs,.inl ⟨SE.of_info (g:=g) (h c e).1,(h c e).2⟩⟩)
def J.look2{bs:List (Nat×Bool)}(f:U.tok=⟨1,.par b ds false .up,mu⟩)(e:Z8 b bs)(h:(Qc P t m g (Q1 0 0) (Qq 0)).info=some (Q1 0 0,Qq 0,#[Jg b 0],bs))(k:J (Zb P t N) Stop m ((Qc P t m g (Q1 0 0) (Qq 0)).get g) U):J (Zb P t N) Stop m g U:=
 .syn (QD.look2 (Qn (SE.of_info (g:=g) h)) f e (SE.of_info (g:=g) h) k)
def Zd{x y z:Bool}:Z8 b [(b,x),(b,y),(b,z)]:=λ v h=>by grind
def I7:∀{n:Nat}{g g':Gr},JL P t m n g=some (g',[])->J (Zb P t N) Stop m g' U->J (Zb P t N) Stop m g U
 |0,g,g',h,k=>by grind[JL,Option.some.injEq,Prod.mk.injEq]
 |n+1,g,g',h,k=>by
  obtain⟨e,bs,l',B,b,z,f⟩:=P7 h;have:bs=[]/\l'=[]:=by simpa using f.symm
  obtain⟨rfl,rfl⟩:=this;exact J.still B (λ w=>OR (b undef undef) w) (I7 z k)
def J.calm0{n:Nat}(h:Qm P t m n g=some [])(k:J (Zb P t N) Stop m (Qi P t m n g) U):J (Zb P t N) Stop m g U:=I7 (PJ h) k
def J.cas{u:Nat}(F:U.tok=⟨1,.par b ds false k_0,mu⟩)(B:Ha ds u k_0)(E:g.status=.running)(h:∀c,c<=u ->
  (∃bs,Z8 b bs/\(Qc P t m g (Q1 c 0) (Qq 0)).info=some (Q1 c 0,Qq 0,#[Jg b 0],bs)/\J (Zb P t N) Stop m ((Qc P t m g (Q1 c 0) (Qq 0)).get g) (U.at 1 (.par b ds false (.seen c)))) \/
  (1<=c/\∃bs,Z8 b bs/\(Qc P t m g (Q1 c 0) (Qq 0)).info=some (Q1 c 1,Qq 0,#[Jg b 0,QB b 0],bs)/\J (Zb P t N) Stop m ((Qc P t m g (Q1 c 0) (Qq 0)).get g) (U.at 1 (.par b ds false .wait)))):J (Zb P t N) Stop m g U:=
 .syn (QD.look E F B λ c z=>by
  rcases h c z with⟨bs,e,f,k⟩|⟨w,bs,e,f,k⟩
  .exact⟨_,bs,e,.inl ⟨SE.of_info (g:=g) f,.inl k⟩⟩
  .exact⟨_,bs,e,.inr ⟨w,SE.of_info (g:=g) f,k⟩⟩)
end Go.TM
namespace Go.TM
def H7:∀{n:Nat}{l:List Nat},l.Nodup->(∀x∈l,x<n)->l.length<=n
 |0,l,_,h=>by
  cases l with
  |nil=>simp
  |cons a l=>exact absurd (h a S1) O1
 |n+1,l,e,h=>by
  have w:(l.erase n).length<=n:=H7 (e.erase n) λ x f=>by
   have z:=h x (mem_of_mem_erase f);have B:=(e.mem_erase_iff.1 f).1;omega
  have E:l.length<=(l.erase n).length+1:=by
   by_cases b:n∈l
   .rw[length_erase_of_mem b];omega
   .rw[erase_of_not_mem b];omega
  omega
def Z7(l:List Nat):Nat:=l.foldl (λ d k=>d||| (1<<<k)) 0
def PO(i k:Nat):(1<<<i).testBit k=decide (k=i):=by
 rw[Nat.one_shiftLeft,Nat.testBit_two_pow];grind
def Rm(l:List Nat):∀(d k:Nat),(l.foldl (λ d k=>d||| (1<<<k)) d).testBit k=(d.testBit k|| l.contains k):=by
 induction l with
 |nil=>simp
 |cons a l b=>
  intro d k;rw[foldl_cons,b,Nat.testBit_or,PO];grind
theorem Wz(l:List Nat)(k:Nat):(Z7 l).testBit k=l.contains k:=by simp[Z7,Rm]
section
variable(A:List (List Nat))
def Je(i:Nat):List Nat:=A.getD i []
def WD(d i:Nat):Nat:=if(Je A i).all (λ k=>d.testBit k)then d||| (1<<<i)else d
def I4(d:Nat):Nat:=(range A.length).foldl (WD A) d
def JY:Nat->Nat
 |0=>0
 |k+1=>I4 A (JY k)
def Wq:Bool:=decide (JY A A.length≠2^A.length-1)
def Wo(two:Nat):Nat->Nat->Bool
 |0,_=>false
 |s+1,one=>(Je A one).any λ k=>k==two|| Wo two s k
def Xx:Bool:=(range A.length).any λ i=>Wo A i A.length i
structure ZM(d:Nat)(L:List Nat):Prop where
 bit:∀k,d.testBit k=true↔k∈L
 low:∀k∈L,k<A.length
 nod:L.Nodup
 aft:∀(X Y:List Nat)x,L=X++x::Y->∀k∈Je A x,k∈Y
variable{A}
def ZM.nil:ZM A 0 []:=⟨S1,S1,.nil,λ X Y x h=>S2⟩
theorem ZM.step{d i:Nat}{L:List Nat}(h:ZM A d L)(F:i<A.length):∃f,ZM A (WD A d i) f/\(f=L\/f=i::L)/\(i∈f\/∃k∈Je A i,k∉L):=by
 unfold WD;by_cases B:i∈L
 .refine⟨L,?_,.inl rfl,.inl B⟩;split
  .refine⟨λ k=>?_,h.low,h.nod,h.aft⟩;rw[Nat.testBit_or,Bool.or_eq_true,PO,h.bit];simp_all
  .exact h
 .by_cases ha:(Je A i).all (λ k=>d.testBit k)=true
  .rw[if_pos ha];rw[all_eq_true]at ha;refine⟨i::L,⟨λ k=>?_,?_,nodup_cons.2 ⟨B,h.nod⟩,?_⟩,.inr rfl,.inl S1⟩
   .rw[Nat.testBit_or,Bool.or_eq_true,PO,h.bit,mem_cons];grind
   .intro k b;rcases mem_cons.1 b with rfl|b
    .exact F
    .exact h.low k b
   .intro X Y x e k b;cases X with
    |nil=>
     simp only[nil_append,List.cons.injEq]at e;obtain⟨rfl,rfl⟩:=e;exact(h.bit k).1 (ha k b)
    |cons y X=>
     simp only[cons_append,List.cons.injEq]at e;exact h.aft X Y x e.2 k b
  .rw[if_neg ha];refine⟨L,h,.inl rfl,.inr ?_⟩
   have:∃k∈Je A i,¬d.testBit k=true:=by
    apply Classical.byContradiction;intro G;apply ha;rw[all_eq_true];intro k b;apply Classical.byContradiction;intro w;exact G ⟨k,b,w⟩
   obtain⟨k,b,E⟩:=this;exact⟨k,b,λ z=>E ((h.bit k).2 z)⟩
def ZM.fold:∀{l:List Nat}{d:Nat}{L:List Nat},ZM A d L->(∀i∈l,i<A.length)->∃b,ZM A (l.foldl (WD A) d) b/\L.length<=b.length/\(b.length=L.length->b=L/\∀i∈l,i∈L\/∃k∈Je A i,k∉L)
 |[],d,L,h,_=>⟨L,h,Nat.le_refl _,λ _=>⟨rfl,S1⟩⟩
 |i::l,d,L,h,e=>by
  obtain⟨L₁,f,z,B⟩:=h.step (e i S1);obtain⟨L₂,E,F,G⟩:=ZM.fold (l:=l) f λ j w=>e j (by simp[w]);grind
def ZM.round{d:Nat}{L:List Nat}(h:ZM A d L):∃b,ZM A (I4 A d) b/\L.length<=b.length/\(b.length=L.length->b=L/\∀i,i<A.length->i∈L\/∃k∈Je A i,k∉L):=by
 obtain⟨b,w,z,f⟩:=ZM.fold (l:=range A.length) h S1;exact⟨b,w,z,λ e=>⟨(f e).1,λ i B=>(f e).2 i (by simpa using B)⟩⟩
def ZM.rounds(n:Nat):∃L,ZM A (JY A n) L/\(n<=L.length\/∀i,i<A.length->i∈L\/∃k∈Je A i,k∉L):=by
 induction n with
 |zero=>exact⟨[],.nil,.inl S1⟩
 |succ n G=>
  obtain⟨L,K,w⟩:=G;obtain⟨f,I,Z,k3⟩:=K.round;refine⟨f,I,?_⟩;by_cases e:f.length=L.length
  .simp_all
  .rcases w with w|w
   .grind
   .exfalso
    have:∀(l:List Nat)(d:Nat) , (∀i∈l,i<A.length)->(∀k,d.testBit k=true↔k∈L)->∀k,((l.foldl (WD A) d).testBit k=true↔k∈L):=by
     intro l
     induction l with
     |nil=>simp_all
     |cons i l H=>
      intro d N M;refine H _ (λ j T=>N j (by simp[T])) λ k=>?_;unfold WD;split
      .rename_i E;rw[all_eq_true]at E;rcases w i (N i S1)with S|⟨k',U,z⟩
       .rw[Nat.testBit_or,Bool.or_eq_true,PO,M];constructor
        .rintro(h|h)
         .exact h
         .simp at h;subst h;exact S
        .exact .inl
       simp_all
      .exact M k
    have Q:=this (range A.length) (JY A n) S1 K.bit;have b:∀x∈f,x∈L:=λ x B=>(Q x).1 ((I.bit x).2 B)
    have V:f.length<=L.length:=by
     have:∀{X Y:List Nat},X.Nodup->(∀x∈X,x∈Y)->X.length<=Y.length:=by
      intro X
      induction X with
      |nil=>intro Y _ _;simp
      |cons a X G=>
       intro Y z P;obtain⟨E,z⟩:=nodup_cons.1 z;have W:=P a S1
       have:=G (Y:=Y.erase a) z λ x B=>by
        have F:x≠a:=λ e=>E (e▸B);exact(mem_erase_of_ne F).2 (P x (by simp[B]))
       grind
     exact this I.nod b
    omega
def LY{two:Nat}:∀{s b one:Nat},s<=b->Wo A two s one=true->Wo A two b one=true
 |0,_,_,_,h=>by simp[Wo]at h
 |s+1,0,_,f,_=>O1
 |s+1,b+1,one,f,h=>by
  simp only[Wo,any_eq_true,Bool.or_eq_true]at h ⊢;obtain⟨k,e,h⟩:=h;exact⟨k,e,h.imp id (LY O1)⟩
def ZM.must{d:Nat}{L:List Nat}(h:ZM A d L){two:Nat}:∀(s:Nat)(X Y:List Nat)(x:Nat),L=X++x::Y->Wo A two s x=true->two∈Y
 |0,_,_,_,_,b=>by simp[Wo]at b
 |s+1,X,Y,x,e,b=>by
  simp only[Wo,any_eq_true,Bool.or_eq_true,beq_iff_eq]at b;obtain⟨k,w,b⟩:=b;have f:=h.aft X Y x e k w;rcases b with rfl|b
  .exact f
  .obtain⟨Y1,Y2,rfl⟩:=append_of_mem f;have:=ZM.must h s (X++x::Y1) Y2 k (by rw[e];simp) b;simp[this]
def Fg(hA:∀i,i<A.length->∀k∈Je A i,k<A.length):Wq A=Xx A:=by
 obtain⟨L,E,w⟩:=ZM.rounds (A:=A) A.length
 have V:(JY A A.length=2^A.length-1)↔∀i,i<A.length->i∈L:=by
  constructor
  .intro e i z;rw[<- E.bit,e,Nat.testBit_two_pow_sub_one];simpa using z
  .intro h;refine Nat.eq_of_testBit_eq λ i=>?_;rw[Nat.testBit_two_pow_sub_one];by_cases z:i<A.length
   .rw[(E.bit i).2 (h i z)];simp[z]
   .have:¬(JY A A.length).testBit i=true:=λ hb=>z (E.low i ((E.bit i).1 hb));simp only[Bool.not_eq_true]at this;rw[this];simp[z]
 have key:Xx A=true↔¬ ∀i,i<A.length->i∈L:=by
  unfold Xx;rw[any_eq_true];constructor
  .rintro⟨i,z,I⟩ hall;have W:i<A.length:=by simpa using z
   obtain⟨X,Y,e⟩:=append_of_mem (hall i W);have hY:=E.must _ X Y i e I;have P:=E.nod;rw[e,nodup_append]at P;exact(nodup_cons.1 P.2.1).1 hY
  .intro P
   obtain⟨i0,K,N⟩:∃i,i<A.length/\i∉L:=by
    apply Classical.byContradiction;intro h;exact P λ i z=>Classical.byContradiction λ I=>h ⟨i,z,I⟩
   have w:∀i,i<A.length->i∉L->∃k,k∈Je A i/\k∉L:=by
    intro i z I;rcases w with w|w
    .exfalso
     have B:=H7 (n:=A.length) (l:=i::L) (nodup_cons.2 ⟨I,E.nod⟩) (by
      intro x G;rcases mem_cons.1 G with rfl|G
      .exact z
      .exact E.low x G)
     simp at B;omega
    .exact(w i z).resolve_left I
   let f:Nat->Nat:=λ i=>if h:i<A.length/\i∉L then Classical.choose (w i h.1 h.2)else i
   have S:∀i,i<A.length->i∉L->f i∈Je A i/\f i∉L/\f i<A.length:=by
    intro i B U;have Q:=Classical.choose_spec (w i B U);have h4:f i=Classical.choose (w i B U):=by simp only[f];rw[dif_pos ⟨B,U⟩]
    rw[<- h4]at Q;exact⟨Q.1,Q.2,hA i B _ Q.1⟩
   let g:Nat->Nat:=λ n=>Nat.rec i0 (λ _ x=>f x) n
   have gs:∀n,g (n+1)=f (g n):=λ n=>rfl
   have H:∀n,g n<A.length/\g n∉L:=by
    intro n
    induction n with
    |zero=>exact⟨K,N⟩
    |succ n F=>rw[gs];exact⟨(S _ F.1 F.2).2.2,(S _ F.1 F.2).2.1⟩
   obtain⟨a,b,aa,hb,e⟩:∃a b,a<b/\b<=A.length/\g a=g b:=by
    apply Classical.byContradiction;intro Z
    have M:∀n,n<=A.length+1->((range n).map g).Nodup:=by
     intro n
     induction n with
     |zero=>intro _;simp
     |succ n F=>
      intro P;rw[range_succ,map_append,nodup_append];refine⟨F O1,S1,?_⟩;intro x G y hy T;obtain⟨j,hj,rfl⟩:=mem_map.1 G;simp at hy hj;subst hy;exact Z ⟨j,n,hj,O1,T⟩
    have B:=H7 (M (A.length+1) (Nat.le_refl _)) (n:=A.length) (by
     intro x G;obtain⟨j,_,rfl⟩:=mem_map.1 G;exact(H j).1)
    simp at B;omega
   have hp:∀n a,Wo A (g (a+n+1)) (n+1) (g a)=true:=by
    intro n
    induction n with
    |zero=>
     intro a;simp only[Wo,any_eq_true,Bool.or_false,beq_iff_eq];exact⟨g (a+1),(S _ (H a).1 (H a).2).1,rfl⟩
    |succ n F=>
     intro a;rw[Wo,any_eq_true];refine⟨g (a+1),(S _ (H a).1 (H a).2).1,?_⟩;rw[Bool.or_eq_true];right;have:=F (a+1)
     rwa [show a+1+n+1=a+(n+1)+1 by omega]at this
   refine⟨g a,by simpa using(H a).1,?_⟩;obtain⟨n,rfl⟩:∃n,b=a+n+1:=⟨b-a-1,O1⟩;have:=hp n a;rw[<- e]at this;exact LY O1 this
 unfold Wq;grind
def DM(h:Wq A=false):∃L,ZM A (JY A A.length) L/\∀i,i<A.length->i∈L:=by
 obtain⟨L,b,-⟩:=ZM.rounds (A:=A) A.length;refine⟨L,b,λ i e=>?_⟩;unfold Wq at h;have h:JY A A.length=2^A.length-1:=by simpa using h
 rw[<- b.bit,h,Nat.testBit_two_pow_sub_one];simpa using e
end
section
variable{α:Type}
def parts:List α->Nat->List (List α)
 |_,0=>[[]]
 |[],_+1=>[]
 |a::l,m+1=>(parts l m).map (a::·)++parts l (m+1)
theorem P4(l:List α):parts l 0=[[]]:=by cases l <;> rfl
def Gk:∀{l:List α}{m:Nat}{p:List α},p∈parts l m↔p.Sublist l/\p.length=m
 |l,0,p=>by
  rw[P4,mem_singleton];constructor
  .rintro rfl;exact⟨nil_sublist _,rfl⟩
  .rintro⟨_,h⟩;exact eq_nil_of_length_eq_zero h
 |[],m+1,p=>by
  simp_all[parts,not_mem_nil,false_iff]
 |a::l,m+1,p=>by
  simp only[parts,mem_append,mem_map];constructor
  .rintro(⟨q,hq,rfl⟩|h)
   .obtain⟨h1,h2⟩:=Gk.1 hq;simp_all
   .obtain⟨h1,h2⟩:=Gk.1 h;simp_all
  .rintro⟨h,hl⟩;cases h with
   |cons _ h=>exact .inr (Gk.2 ⟨h,hl⟩)
   |cons_cons _ h=>exact .inl ⟨_,Gk.2 ⟨h,by simpa using hl⟩,rfl⟩
def La{l:List α}{i m:Nat}{a:α}(h:l[i]?=some a):parts (l.drop i) (m+1)=(parts (l.drop (i+1)) m).map (a::·)++parts (l.drop (i+1)) (m+1):=by
 obtain⟨b,rfl⟩:=List.getElem?_eq_some_iff.1 h;rw[drop_eq_getElem_cons b];rfl
def L4{l:List α}{i m:Nat}(h:l.length<=i):parts (l.drop i) (m+1)=[]:=by
 rw[drop_eq_nil_of_le h];rfl
end
def jI{n:Nat}{p:List Nat}(h:∀k∈p,k<n):Z7 p<2^n:=by
 refine Nat.lt_pow_two_of_testBit _ λ i b=>?_;grind[Wz]
section
variable(A:List (List Nat))(out:Nat->Bool)
def QP:Nat->Nat->Nat->Bool
 |0,i,k=>(Je A i).contains k
 |s+1,i,k=>(Je A i).contains k|| (Je A i).any λ o=>out o&&QP s o k
def WO(af:List Nat)(i k:Nat):List Nat:=if(af.getD i 0).testBit k&&out k then af.set i (af.getD i 0||| af.getD k 0)else af
def HK(n:Nat)(af:List Nat)(i:Nat):List Nat:=(range n).foldl (λ af k=>WO out af i k) af
def DK(n:Nat)(af:List Nat):List Nat:=(range n).foldl (λ af i=>HK out n af i) af
def Gv(n:Nat):Nat->List Nat->List Nat
 |0,af=>af
 |s+1,af=>Gv n s (DK out n af)
variable{A out}
def Kq{s i k:Nat}:QP A out (s+1) i k=true↔(Je A i).contains k=true\/∃o,o∈Je A i/\out o=true/\QP A out s o k=true:=by
 simp_all[QP,Bool.or_eq_true,any_eq_true,Bool.and_eq_true]
def Yv{s i k:Nat}(h:(Je A i).contains k=true):QP A out s i k=true:=by
 cases s <;> simp only[QP,h,Bool.true_or]
def PI:∀{s b i k:Nat},s<=b->QP A out s i k=true->QP A out b i k=true
 |0,b,_,_,_,h=>Yv h
 |s+1,0,_,_,h,_=>O1
 |s+1,b+1,i,k,h,e=>by
  simp only[QP,Bool.or_eq_true,any_eq_true,Bool.and_eq_true]at e ⊢;exact e.imp id λ⟨o,f,w,z⟩=>⟨o,f,w,PI O1 z⟩
def Lm:∀{s b i o k:Nat},QP A out s i o=true->out o=true->QP A out b o k=true->QP A out (s+b+1) i k=true
 |0,b,i,o,k,e,f,h=>by
  rw[Nat.zero_add,Kq];grind[QP]
 |s+1,b,i,o,k,e,f,h=>by
  rw[show s+1+b+1=(s+b+1)+1 by omega,Kq];rcases Kq.1 e with e|⟨x,w,z,B⟩
  .exact .inr ⟨o,by simpa using e,f,PI O1 h⟩
  .exact .inr ⟨x,w,z,Lm B f h⟩
def E0{d:Nat}{L:List Nat}(h:ZM A d L):∀{s i k:Nat}(X Y:List Nat),L=X++i::Y->QP A out s i k=true->QP A out Y.length i k=true
 |0,i,k,X,Y,_,b=>PI (Nat.zero_le _) b
 |s+1,i,k,X,Y,e,b=>by
  simp only[QP,Bool.or_eq_true,any_eq_true,Bool.and_eq_true]at b;rcases b with b|⟨o,f,z,w⟩
  .exact Yv b
  .obtain⟨Y1,Y2,rfl⟩:=append_of_mem (h.aft X Y i e o f);have:=E0 h (X++i::Y1) Y2 (by rw[e];simp) w;refine PI (s:=Y2.length+1) S1 ?_;simp only[QP,Bool.or_eq_true,any_eq_true,Bool.and_eq_true];grind
structure JA(n:Nat)(A:List (List Nat))(out:Nat->Bool)(r:Nat)(af:List Nat):Prop where
 len:af.length=n
 sound:∀i,i<n->∀k,(af.getD i 0).testBit k=true->∃s,QP A out s i k=true
 full:∀i,i<n->∀k,QP A out r i k=true->(af.getD i 0).testBit k=true
def LF{af:List Nat}{i j v:Nat}(b:i<af.length):(af.set i v).getD j 0=if j=i then v else af.getD j 0:=by
 grind
def JA.one{n r i k:Nat}{af:List Nat}(h:JA n A out r af)(w:i<n)(E:k<n):JA n A out r (WO out af i k):=by
 unfold WO;split
 .rename_i hc;rw[Bool.and_eq_true]at hc;have z:i<af.length:=by rw[h.len];exact w
  refine⟨by simpa using h.len,λ j f x b=>?_,λ j f x b=>?_⟩
  .rw[LF z]at b;split at b
   .rename_i e;subst e;rw[Nat.testBit_or,Bool.or_eq_true]at b;rcases b with b|b
    .exact h.sound j f x b
    .obtain⟨s,h1⟩:=h.sound j w k hc.1;obtain⟨F,B⟩:=h.sound k E x b;exact⟨_,Lm h1 hc.2 B⟩
   .exact h.sound j f x b
  .rw[LF z];have:=h.full j f x b;grind
 .exact h
def XH(n:Nat)(af b:List Nat):Prop:=b.length=af.length/\∀i,i<n->∀k,(af.getD i 0).testBit k=true->(b.getD i 0).testBit k=true
theorem XH.refl(n:Nat)(af:List Nat):XH n af af:=⟨rfl,λ _ _ _ h=>h⟩
def XH.trans{n:Nat}{a b c:List Nat}(h:XH n a b)(k:XH n b c):XH n a c:=⟨k.1.trans h.1,λ i e x f=>k.2 i e x (h.2 i e x f)⟩
def MR{n i k:Nat}{af:List Nat}(f:af.length=n)(b:i<n):XH n af (WO out af i k):=by
 unfold WO;split
 .refine⟨S1,λ j e x h=>?_⟩;grind
 .exact .refl ..
def Ev{n r i:Nat}(b:i<n):∀{l:List Nat}{af:List Nat},(∀k∈l,k<n)->JA n A out r af ->
  JA n A out r (l.foldl (λ af k=>WO out af i k) af)/\XH n af (l.foldl (λ af k=>WO out af i k) af) /\
  ∀o∈l,(af.getD i 0).testBit o=true->out o=true->∀x,(af.getD o 0).testBit x=true->((l.foldl (λ af k=>WO out af i k) af).getD i 0).testBit x=true
 |[],af,_,h=>⟨h,.refl ..,S1⟩
 |k::l,af,z,h=>by
  have K:=z k S1;have E:=h.one (i:=i) b K;have w:=MR (out:=out) (k:=k) h.len b;obtain⟨F,B,G⟩:=Ev (l:=l) b (λ j I=>z j (by simp[I])) E;refine⟨F,w.trans B,λ o f H e x L=>?_⟩;rcases mem_cons.1 f with rfl|f
  .refine B.2 i b x ?_;unfold WO;grind
  .exact G o f (w.2 i b o H) e x (w.2 o (z o (by simp[f])) x L)
def Mn{n r:Nat}(H:∀i,i<n->∀k∈Je A i,k<n){b:List Nat}(z:JA n A out r b):∀{l:List Nat}{af:List Nat},(∀k∈l,k<n)->JA n A out r af->XH n b af ->
  JA n A out r (l.foldl (λ af i=>HK out n af i) af)/\XH n af (l.foldl (λ af i=>HK out n af i) af) /\
  ∀i∈l,∀x,QP A out (r+1) i x=true->((l.foldl (λ af i=>HK out n af i) af).getD i 0).testBit x=true
 |[],af,_,h,_=>⟨h,.refl ..,S1⟩
 |i::l,af,I,h,N=>by
  have e:=I i S1;obtain⟨G,E,P⟩:=Ev (l:=range n) e S1 h;obtain⟨M,F,Q⟩:=Mn H z (l:=l) (λ j f=>I j (by simp[f])) G (N.trans E);refine⟨M,E.trans F,λ j f x w=>?_⟩;rcases mem_cons.1 f with rfl|f
  .refine F.2 j e x ?_;simp only[QP,Bool.or_eq_true,any_eq_true,Bool.and_eq_true]at w;rcases w with w|⟨o,B,K,L⟩
   .exact G.full j e x (Yv w)
   .have ho:=H j e o B;exact P o (by simpa using ho) (h.full j e o (Yv (by simpa using B))) K x (h.full o ho x L)
  .exact Q j f x w
def JA.round{n r:Nat}(e:∀i,i<n->∀k∈Je A i,k<n){af:List Nat}(h:JA n A out r af):JA n A out (r+1) (DK out n af):=by
 obtain⟨b,B,z⟩:=Mn e h (l:=range n) S1 h (.refl ..);exact⟨b.len,b.sound,λ i f x w=>z i (by simpa using f) x w⟩
def JA.rounds{n:Nat}(b:∀i,i<n->∀k∈Je A i,k<n):∀{s r:Nat}{af:List Nat},JA n A out r af->JA n A out (r+s) (Gv out n s af)
 |0,r,af,h=>h
 |s+1,r,af,h=>by
  have:=JA.rounds b (s:=s) (h.round b);rw[show r+(s+1)=r+1+s by omega];exact this
def JA.start:JA A.length A out 0 (A.map Z7):=by
 have key:∀i,i<A.length->(A.map Z7).getD i 0=Z7 (Je A i):=by
  intro i b;simp[getD_eq_getElem?_getD,Je,b]
 refine⟨S1,λ i b k e=>⟨0,?_⟩,λ i b k e=>?_⟩
 .rw[key i b,Wz]at e;exact e
 .rw[key i b,Wz];exact e
def NJ(z:∀i,i<A.length->∀k∈Je A i,k<A.length)(B:Wq A=false){i k:Nat}(w:i<A.length) :
  ((Gv out A.length A.length (A.map Z7)).getD i 0).testBit k=QP A out A.length i k:=by
 have h:=JA.rounds (out:=out) z (s:=A.length) JA.start;rw[Nat.zero_add]at h;obtain⟨L,f,b⟩:=DM B;rw[Bool.eq_iff_iff];constructor
 .intro hb;obtain⟨s,E⟩:=h.sound i w k hb;obtain⟨X,Y,e⟩:=append_of_mem (b i w);have:=E0 f X Y e E;refine PI ?_ this;have F:=H7 f.nod f.low;grind
 .exact h.full i w k
end
end Go.TM
namespace Go.TM
variable{P:Program}{t:TypeId}{N:Nat}{m:Bool}{U:Qa Tk}{Stop:QJ Tk}{g:Gr}{b d:Nat}{D:Spec}{x:QY}{s:Bool}{me:LP}{lo:Nat}{st sm:Value}
def wI(c:Nat):Nat:=if c=1 then 1 else 0
def LP.cls_le(q:LP):q.cls<=2:=by cases q <;> simp[LP.cls]
def LP.word_idle{q:LP}{a c:Nat}(h:LP.word .idle q=some (a,c)):a=wI q.cls/\c=0:=by
 cases q with
 |own v=>simp_all[LP.word,LP.cls,wI]
 |_=>first|(simp_all[LP.word,LP.cls,wI];done)|(simp[LP.word,LP.cls,wI]at h ⊢;omega)
def LP.word_got{q:LP}{a c:Nat}(h:LP.word .idle q=some (a,c))(b:q.cls≠1):LP.word .got q=some (1,0):=by
 cases q <;> simp_all[LP.word,LP.cls]
def LP.word_wai{q:LP}{a c:Nat}(h:LP.word .idle q=some (a,c))(b:q.cls=1):LP.word .wai q=some (9,0):=by
 cases q with
 |own v=>simp_all[LP.word,LP.cls]
 |_=>simp_all[LP.word,LP.cls]
theorem H4{n o:Nat}(h:o<2):GL n (Jg n o):=.inr ⟨o,false,h,rfl⟩
theorem Gg{n o:Nat}(h:o<2):GL n (QB n o):=.inr ⟨o,true,h,rfl⟩
def Lh(B:U.tok=⟨d,.wrk b D,some (.lok x s me lo)⟩):∀{n:Nat}{g g':Gr}{l:List (Nat×Bool)},JL P x.t m n g=some (g',l)->Z8 x.m l->J (Zb P t N) Stop m g' U->J (Zb P t N) Stop m g U
 |0,g,g',l,h,_,k=>by grind[JL,Option.some.injEq,Prod.mk.injEq]
 |n+1,g,g',l,h,z,k=>by
  obtain⟨e,bs,l',G,f,E,rfl⟩:=P7 h;have I:=Lh B E (λ y w=>z y (mem_append_right _ w)) k;refine .syn (QD.mu G B λ q st sm F H=>⟨e,bs,#[],me,st,sm,d,lo,F,λ y w=>z y (mem_append_left _ w),f _ _,H,Nat.le_refl _,rfl,rfl,λ _=>rfl,S1,rfl,.inl rfl,?_⟩);grind[Qa.lk_self]
def J.mcalm(f:U.tok=⟨d,.wrk b D,some (.lok x s me lo)⟩){n:Nat}{l:List (Nat×Bool)}(h:Qm P x.t m n g=some l)(e:Z8 x.m l)(k:J (Zb P t N) Stop m (Qi P x.t m n g) U):J (Zb P t N) Stop m g U:=
 Lh f (PJ h) e k
def J.mdis(z:U.tok=⟨d,.wrk b D,some (.lok x s me lo)⟩)(h:(Qc P x.t m g undef undef).info=some (st,sm,#[Z2 .disable],[]))(k:J (Zb P t N) Stop m ((Qc P x.t m g undef undef).get g) (U.lk (d+1) b D x s me lo)):J (Zb P t N) Stop m g U:=
 .syn (QD.mu (Qn (SE.of_info (g:=g) h)) z λ q st sm w B=>⟨_,[],_,me,st,sm,d+1,lo,w,Qg,W5 h rfl _ _,B,Nat.le_refl _,rfl,rfl,λ _=>rfl,by intro e f;simp at f;subst f;exact .inl rfl,rfl,.inl rfl,k⟩)
def J.mena(z:U.tok=⟨d+1,.wrk b D,some (.lok x s me lo)⟩)(h:(Qc P x.t m g undef undef).info=some (st,sm,#[Z2 .enable],[]))(k:J (Zb P t N) Stop m ((Qc P x.t m g undef undef).get g) (U.lk d b D x s me lo)):J (Zb P t N) Stop m g U:=
 .syn (QD.mu (Qn (SE.of_info (g:=g) h)) z λ q st sm w B=>⟨_,[],_,me,st,sm,d,lo,w,Qg,W5 h rfl _ _,B,Nat.le_refl _,rfl,rfl,λ _=>rfl,by intro e f;simp at f;subst f;exact .inl rfl,rfl,.inl rfl,k⟩)
def J.midle(H:U.tok=⟨d,.wrk b D,some (.lok x s .idle lo)⟩)(G:g.status=.running)(h:∀c,lo<=c->c<=2 ->
  (∃bs es,Z8 x.m bs/\(Qc P x.t m g (Zc (wI c)) (Qq 0)).info=some (Zc (wI c),Qq 0,es,bs)/\(es=#[]\/es=#[Jg x.m 0])/\J (Zb P t N) Stop m ((Qc P x.t m g (Zc (wI c)) (Qq 0)).get g) (U.lk d b D x s .idle c)) \/
  (c≠1/\∃bs,Z8 x.m bs/\(Qc P x.t m g (Zc (wI c)) (Qq 0)).info=some (Zc 1,Qq 0,#[Jg x.m 0,QB x.m 0],bs)/\J (Zb P t N) Stop m ((Qc P x.t m g (Zc (wI c)) (Qq 0)).get g) (U.lk d b D x s .got c)) \/
  (c=1/\∃bs,Z8 x.m bs/\(Qc P x.t m g (Zc (wI c)) (Qq 0)).info=some (Zc 9,Qq 0,#[Jg x.m 0,QB x.m 0],bs)/\J (Zb P t N) Stop m ((Qc P x.t m g (Zc (wI c)) (Qq 0)).get g) (U.lk d b D x s .wai c))):J (Zb P t N) Stop m g U:=by
 refine .syn (QD.mu G H λ q a c F z=>?_);obtain⟨rfl,rfl⟩:=LP.word_idle z;rcases h q.cls F q.cls_le with⟨bs,es,f,w,E,k⟩|⟨B,bs,f,w,k⟩|⟨B,bs,f,w,k⟩
 .refine⟨_,bs,es,.idle,_,0,d,q.cls,Nat.le_refl _,f,SE.of_info (g:=g) w,z,Nat.le_refl _,rfl,rfl,λ e=>(by cases e),?_,?_,.inl rfl,k⟩
  .grind[H4]
  .rcases E with rfl|rfl <;> rfl
 .exact⟨_,bs,_,.got,1,0,d,q.cls,Nat.le_refl _,f,SE.of_info (g:=g) w,LP.word_got z B,by simp[LP.cls],rfl,rfl,λ e=>(by cases e),by grind[H4,Gg],rfl,.inl rfl,k⟩
 .exact⟨_,bs,_,.wai,9,0,d,q.cls,Nat.le_refl _,f,SE.of_info (g:=g) w,LP.word_wai z B,by simp[LP.cls],rfl,rfl,λ e=>(by cases e),by grind[H4,Gg],rfl,.inl rfl,k⟩
def J.mwok(F:U.tok=⟨d,.wrk b D,some (.lok x s .wok lo)⟩)(E:g.status=.running)(h :
  (∃bs es,Z8 x.m bs/\(Qc P x.t m g (Zc 2) (Qq 0)).info=some (Zc 2,Qq 0,es,bs)/\(es=#[]\/es=#[Jg x.m 0])/\J (Zb P t N) Stop m ((Qc P x.t m g (Zc 2) (Qq 0)).get g) (U.lk d b D x s .wok lo)) \/
  (∃bs,Z8 x.m bs/\(Qc P x.t m g (Zc 2) (Qq 0)).info=some (Zc 1,Qq 0,#[Jg x.m 0,QB x.m 0],bs)/\J (Zb P t N) Stop m ((Qc P x.t m g (Zc 2) (Qq 0)).get g) (U.lk d b D x s .got lo))):J (Zb P t N) Stop m g U:=by
 refine .syn (QD.mu E F λ q a c z G=>?_);obtain⟨rfl,rfl,rfl⟩:q=.fin/\a=2/\c=0:=by grind[LP.word]
 rcases h with⟨bs,es,f,w,B,k⟩|⟨bs,f,w,k⟩
 .refine⟨_,bs,es,.wok,_,0,d,lo,z,f,SE.of_info (g:=g) w,G,Nat.le_refl _,rfl,rfl,λ e=>(by cases e),?_,?_,.inl rfl,k⟩
  .grind[H4]
  .rcases B with rfl|rfl <;> rfl
 .exact⟨_,bs,_,.got,1,0,d,lo,z,f,SE.of_info (g:=g) w,rfl,by simp[LP.cls],rfl,rfl,λ e=>(by cases e),by grind[H4,Gg],rfl,.inl rfl,k⟩
def J.mblk(B:U.tok=⟨d,.wrk b D,some (.lok x s .wai lo)⟩)(z:g.status=.running)(w:g.offers=none)(e:∀st,∃bs,Z8 x.m bs/\Qc P x.t m g st (Qq 0)=.blocked { g with status:=.blocked } st (Qq 0) bs)
  {bs:List (Nat×Bool)} (h:Z8 x.m bs) (f:(Qc P x.t m g (Zc 2) (Qq 1)).info=some (Zc 2,Qq 0,#[Z2 .disable,Jg x.m 1,QB x.m 1,Z2 .enable],bs)) (k:J (Zb P t N) Stop m ((Qc P x.t m g (Zc 2) (Qq 1)).get g) (U.lk d b D x s .wok 2)):J (Zb P t N) Stop m g U:=
 .syn (QD.mblk z w B e ⟨_,bs,h,SE.of_info (g:=g) f,k⟩)
def J.macq(e:U.tok=⟨0,.wrk b D,some (.lok x s .got lo)⟩)(h:(Qc P x.t m g undef undef).info=some (st,sm,#[Z2 (.acquire ⟨x.m,0,none⟩)],[]))
  (k:∀v M,x.sp (if s then v else false) (if s then false else v) M->J (Zb P t N) Stop m ((Qc P x.t m g undef undef).get g) { U with M:=U.M++M,tok:=⟨0,.wrk b D,some (.lok x s (.own v) lo)⟩ }):J (Zb P t N) Stop m g U:=
 .syn (QD.macq (Qn (SE.of_info (g:=g) h)) e Qg (W5 h rfl) k)
def J.mown{v:Bool}(F:U.tok=⟨d,.wrk b D,some (.lok x s (.own v) lo)⟩)(E:g.status=.running)(h:∀a,a=1\/a=9 ->
  ∃bs es,Z8 x.m bs/\(Qc P x.t m g (Zc a) (Qq 0)).info=some (Zc a,Qq 0,es,bs)/\(es=#[]\/es=#[Jg x.m 0])/\J (Zb P t N) Stop m ((Qc P x.t m g (Zc a) (Qq 0)).get g) U):J (Zb P t N) Stop m g U:=by
 refine .syn (QD.mu E F λ q a c B G=>?_);obtain⟨e,rfl⟩:(a=1\/a=9)/\c=0:=by cases q <;> cases v <;> simp_all[LP.word]
 obtain⟨bs,es,f,z,w,k⟩:=h a e;refine⟨_,bs,es,.own v,_,0,d,lo,B,f,SE.of_info (g:=g) z,G,Nat.le_refl _,rfl,rfl,λ _=>rfl,?_,?_,.inl rfl,by grind[Qa.lk_self]⟩
 .grind[H4]
 .rcases w with rfl|rfl <;> rfl
def J.mrel{v:Bool}{M₁ M₂:List Qx}(w:U.tok=⟨0,.wrk b D,some (.lok x s (.own v) lo)⟩)(f:U.M=M₁++M₂)(e:x.sp (if s then v else true) (if s then true else v) M₁)(h:(Qc P x.t m g undef undef).info=some (st,sm,#[Z2 (.releaseMerge ⟨x.m,0,none⟩)],[]))
  (k:J (Zb P t N) Stop m ((Qc P x.t m g undef undef).get g) { U with M:=M₂,tok:=⟨0,.wrk b D,some (.lok x s .rls lo)⟩ }):J (Zb P t N) Stop m g U:=
 .syn (QD.mrel (Qn (SE.of_info (g:=g) h)) w Qg f e (W5 h rfl) k)
def J.mrls(H:U.tok=⟨d,.wrk b D,some (.lok x s .rls lo)⟩)(G:g.status=.running)
  (E:∃bs,Z8 x.m bs/\(Qc P x.t m g (Zc 1) (Qq 0)).info=some (Zc 0,Qq 0,#[Jg x.m 0,QB x.m 0],bs)/\J (Zb P t N) Stop m ((Qc P x.t m g (Zc 1) (Qq 0)).get g) (U.lk d b D x s .fin lo))
  (F:∃bs,Z8 x.m bs/\(Qc P x.t m g (Zc 9) (Qq 0)).info=some (Zc 8,Qq 0,#[Jg x.m 0,QB x.m 0],bs)/\J (Zb P t N) Stop m ((Qc P x.t m g (Zc 9) (Qq 0)).get g) (U.lk d b D x s .unl lo)):J (Zb P t N) Stop m g U:=by
 refine .syn (QD.mu G H λ q a c B I=>?_);have f:∀e∈(#[Jg x.m 0,QB x.m 0]:Array Event),GL x.m e:=by intro e f;simp at f;rcases f with rfl|rfl;exact H4 O1;exact Gg O1
 by_cases z:q=.wai
 .subst z;cases I;obtain⟨bs,h,w,k⟩:=F;exact⟨_,bs,_,.unl,8,0,d,lo,B,h,SE.of_info (g:=g) w,rfl,by simp[LP.cls],rfl,rfl,λ e=>(by cases e),f,rfl,.inl rfl,k⟩
 .obtain⟨rfl,rfl⟩:a=1/\c=0:=by cases q <;> simp_all[LP.word]
  obtain⟨bs,h,w,k⟩:=E;exact⟨_,bs,_,.fin,0,0,d,lo,B,h,SE.of_info (g:=g) w,by cases q <;> simp_all[LP.word],by simp[LP.cls],rfl,rfl,λ e=>(by cases e),f,rfl,.inl rfl,k⟩
def J.munl(E:U.tok=⟨d,.wrk b D,some (.lok x s .unl lo)⟩)(B:g.status=.running)
  (h:∃bs,Z8 x.m bs/\(Qc P x.t m g (Zc 8) (Qq 0)).info=some (Zc 2,Qq 0,#[Jg x.m 0,QB x.m 0],bs)/\J (Zb P t N) Stop m ((Qc P x.t m g (Zc 8) (Qq 0)).get g) (U.lk d b D x s .unl2 lo)):J (Zb P t N) Stop m g U:=by
 refine .syn (QD.mu B E λ q a c z F=>?_);obtain⟨rfl,rfl,rfl⟩:q=.wai/\a=8/\c=0:=by grind[LP.word]
 obtain⟨bs,f,w,k⟩:=h;exact⟨_,bs,_,.unl2,2,0,d,lo,z,f,SE.of_info (g:=g) w,rfl,by simp[LP.cls],rfl,rfl,λ e=>(by cases e),by grind[H4,Gg],rfl,.inl rfl,k⟩
def J.munl2(G:U.tok=⟨d,.wrk b D,some (.lok x s .unl2 lo)⟩)(F:g.status=.running)(f:mayWake P g=true)
  (h:∃bs,Z8 x.m bs/\(Qc P x.t m g (Zc 2) (Qq 0)).info=some (Zc 2,Qq 1,#[Z2 .disable,Jg x.m 1,QB x.m 1,Z2 .enable],bs)/\J (Zb P t N) Stop m ((Qc P x.t m g (Zc 2) (Qq 0)).get g) (U.lk d b D x s .fin lo)):J (Zb P t N) Stop m g U:=by
 refine .syn (QD.mu F G λ q a c E H=>?_);obtain⟨rfl,rfl,rfl⟩:q=.wai/\a=2/\c=0:=by grind[LP.word]
 obtain⟨bs,z,B,k⟩:=h;exact⟨_,bs,_,.fin,2,1,d,lo,E,z,SE.of_info (g:=g) B,rfl,by simp[LP.cls],rfl,rfl,λ e=>(by cases e),by intro e w;simp at w;rcases w with rfl|rfl|rfl|rfl <;> first|exact .inl rfl|grind[H4]|grind[Gg],rfl,.inr (.inr f),k⟩
end Go.TM
namespace Go.TM
variable{P:Program}{T:Type}{S:Sys P T}{Stop:QJ T}{m:Bool}{g:Gr}{U:Qa T}
def UQ(g:Gr):Option (FuncId×Array Value):=
 match g.frame.todo with
 |.inRegion ops (i::_)::_=>(match ops[i]? with
  |some o=>(match Region.wanted o (yielded ops g.frame.tmps)with
   |true=>(match o.op with
    |.call c=>(match c.callee with
     |.value (.func f)=>some (f,c.args.map g.frame.eval)
     |_=>none)
    |_=>none)
   |false=>none)
  |none=>none)
 |_=>none
def aft(g:Gr)(v:Value):Gr:={ g with frame:=g.frame.finish v }
structure WW(P:Program)(g:Gr)(f:FuncId)(as:Array Value):Prop where
 run:g=Wn g.frame g.callers
 mode:(match g.frame.mode with|.run=>true|_=>false)=true
 kind:(g.frame.kind==.early)=false
 rnd:g.frame.roundOf.isNone=true
 at_:UQ g=some (f,as)
def WW.open{f:FuncId}{as:Array Value}(h:WW P g f as):∃(b:Frame)(a:Act)(ops:Array Oper)(i:Nat)(rest:List Nat)(B:List Item)(cs:List Frame)(o:Oper)(z:Array TypeId)(xs:Array Operand),g=Go.Conc.G (b.at a (.inRegion ops (i::rest)::B)) cs/\ops[i]?=some o/\Region.wanted o (yielded ops a.tmps)=true/\b.kind≠.early /\
  o.op=.call { callee:=.value (.func f),args:=xs,argTypes:=z }/\xs.map a.eval=as/\∀v,aft g v=Go.Conc.G (b.at (a.put o.dst v) (.inRegion ops rest::B)) cs:=by
 obtain⟨F,H,E,K,w⟩:=h;obtain⟨fr,cs,st,L,of⟩:=g;simp only[Wn,Goroutine.mk.injEq,true_and]at F;obtain⟨rfl,rfl,rfl⟩:=F;obtain⟨fn,tmps,todo,defers,mode,kind,ro⟩:=fr;simp only at H E K;obtain rfl:ro=none:=S2
 cases mode with
 |run=>
  unfold UQ at w;simp only at w;split at w
  .rename_i ops i rest B;split at w
   .rename_i o ho;split at w
    .rename_i hw;split at w
     .rename_i c hop;obtain⟨I,xs,z⟩:=c;simp only at w;split at w
      .cases w;refine⟨{ fn:=fn,tmps:=tmps,todo:=[],defers:=defers,mode:=.run,kind:=kind,roundOf:=none },⟨tmps,defers⟩,ops,i,rest,B,cs,o,z,xs,rfl,ho,hw,λ e=>?_,hop,?_,λ v=>?_⟩
       .simp only at e;rw[e]at E;cases E
       .congr 1
       grind[aft,Go.Conc.G,Frame.at,Frame.finish,Act.put]
      .cases w
     .cases w
    .cases w
   .cases w
  .cases w
 |_=>cases H
def Co(U:Qa T)(w:World):ZU U w w.later U:=
 ⟨⟨w.tick,rfl⟩,rfl,rfl,Nat.le_refl _,λ _ c _ fr h=>⟨c,fr,h,rfl,λ _ _=>rfl,.inl rfl⟩,λ _ _ h _ _=>h,λ _ h=>.inl h,λ _ h=>.inl h⟩
def qP(U:Qa T)(w:World):ZU U w w.asked U:=
 ⟨.refl _,rfl,rfl,Nat.le_refl _,λ _ c _ fr h=>⟨c,fr,h,rfl,λ _ _=>rfl,.inl rfl⟩,λ _ _ h _ _=>h,λ _ h=>.inl h,λ _ h=>.inl h⟩
def J.nano{f:FuncId}{as:Array Value}{fn:Func}(h:WW P g f as)(I:P.funcs[f]?=some fn)(e:(fn.name== "runtime.NumGoroutine")=false)(G:fn.body.isNone=true)(L:Extern.findNext fn=none)(H:Extern.find fn=some Extern.OsHooks.nano)(N:fn.norace=true)
  (k:∀n:Int,J S Stop m (aft g (.int .i64 n)) U):J S Stop m g U:=by
 obtain⟨b,a,ops,i,rest,T,cs,o,B,xs,E,M,Q,K,F,-,z⟩:=h.open;refine .priv ⟨by rw[E];rfl,λ w ok=>⟨_,w.later,#[],U,?_,S1,Co U w,⟨ok.imm,ok.held,ok.apart,ok.sep⟩,rfl,k ((w.os.mono+w.tick:Nat):Int)⟩⟩;grind[Go.Conc.stepG_nanotime]
def J.spin{f:FuncId}{k_0:IntKind}{n:Int}{fn:Func}(h:WW P g f #[.int k_0 n])(K:P.funcs[f]?=some fn)(e:(fn.name== "runtime.NumGoroutine")=false)(H:fn.body.isNone=true)(M:Extern.findNext fn=none)(I:Extern.find fn=some Extern.Sync.canSpin)
  (G:n<4) (k:∀r:Bool,J S Stop m (aft g (.bool r)) U):J S Stop m g U:=by
 obtain⟨b,a,ops,i,rest,V,cs,o,B,xs,E,N,Q,L,F,T,z⟩:=h.open;refine .priv ⟨by rw[E];rfl,λ w ok=>⟨_,w.asked,#[],U,?_,S1,qP U w,⟨ok.imm,ok.held,ok.apart,ok.sep⟩,rfl,k w.spins⟩⟩;grind[Go.Conc.stepG_canSpin_ask]
end Go.TM
namespace Go.TM
variable{P:Program}{t:TypeId}{N:Nat}{fn:FuncId}{Q:Ex->Act->Qa Tk->Prop}{a:Act}{U:Qa Tk}
def gZ{ops:Array Oper}{i:Nat}{rest:List Nat}{o:Oper}{x:Operand}{xs:Array Operand}{z:Array TypeId}{g:FuncId}{first e:Array Value}{b:Nat}{ds:List Spec}{D:Spec}{Up Uc:Qa Tk}
  (T:ops[i]?=some o) (hw:Region.wanted o (yielded ops a.tmps)=true) (M:o.op=.go { callee:=.value x,args:=xs,argTypes:=z }) (hx:a.eval x=.func (.func g) first e)
  {mu H V:Option ZS} (ht:U.tok=⟨0,.par b ds true .run,mu⟩) (Y:HH U Up Uc) (hp:Up.tok=⟨0,.par b (D::ds) false .run,H⟩) (W:Uc.tok=⟨0,.wrk b D,V⟩) (L:Ye mu H V)
  (Z:∀Stop,J (Zb P t N) Stop false (Gp P { target:=.fn (.func g) e,args:=first++xs.map a.eval }) Uc) (hq:QX (Zb P t N) fn none ops rest Q (a.put o.dst undef) Up) :
  QX (Zb P t N) fn none ops (i::rest) Q a U:=by
 intro Stop m f k cs I K;refine .syn (QD.go (X:=J (Zb P t N) Stop) (g':=R f (a.put o.dst undef) (.inRegion ops rest::k) cs) rfl ht ?_ Y hp W L (hq Stop m f k cs I K) (Z Stop));have ab:f.kind≠.early:=I.2.2.1;have F:f.roundOf=none:=I.2.1;have w:=Vs f a (.inRegion ops (i::rest)::k);have S:=GD (b:=f) (a:=a) (k:=k) (rest:=rest) T undef
 have G:execOp a.eval o=(do let d <- resolve a.eval { callee:=.value x,args:=xs,argTypes:=z } o.type;pure (.spawn d):Sem Next):=by
  unfold execOp;rw[M]
 have E:QC P t (execOp a.eval o) undef undef #[] []=.ok (.spawn { target:=.fn (.func g) e,args:=first++xs.map a.eval }) undef undef #[] []:=by
  rw[G];simp only[resolve,hx,Deferred.ofValue];rfl
 show Qc P t m (R f a (.inRegion ops (i::rest)::k) cs) undef undef=_;unfold Qc R;simp only[fr];unfold Ps;simp only[T,hw,F];simp only[fr]at w;rw[F]at w;rw[w,E];unfold XB;have:∀(kd:CallKind)(A B:SE),kd≠.early->(match kd with|.early=>A|_=>B)=B:=by intro kd A B h;cases kd <;> first|rfl|exact absurd rfl h
 simp only;cases aa:f.kind with
 |early=>simp_all
 |_=>
  simp_all[GW,Vq,isEmpty_nil,Bool.and_self,cond_true,Uf,Wn,fr]
end Go.TM

