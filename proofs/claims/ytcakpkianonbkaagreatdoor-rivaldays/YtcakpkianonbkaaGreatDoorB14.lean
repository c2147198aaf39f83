/- Lemmas. No conditions. -/
import Derived.Conc.ClockLaws
import Derived.Test.YtcakpkianonbkaaGreatDoorB01
import Derived.Test.YtcakpkianonbkaaGreatDoorB13
set_option linter.all false
open List
namespace Go.TM
open Go.Conc (QuitsD)
variable{P:Program}{t:TypeId}{N:Nat}{m:Bool}{U:Qa Tk}{Stop:QJ Tk}
def JN(P:Program)(t:TypeId)(m:Bool):Nat->Gr->Option (Gr×List (Nat×Bool))
 |0,g=>some (g,[])
 |n+1,g=>match g.status,Qc P t m g undef undef with
  |.running,.go g' _ _ es bs=>bif es.isEmpty&&bs.all (!·.2)then(JN P t m n g').map (λ x=>(x.1,bs++x.2))else none
  |_,_=>none
def Qi(P:Program)(t:TypeId)(m:Bool)(n:Nat)(g:Gr):Gr:=match JN P t m n g with|some x=>x.1|none=>g
def Qn(P:Program)(t:TypeId)(m:Bool)(n:Nat)(g:Gr):Option (List (Nat×Bool)):=(JN P t m n g).map (·.2)
def V9{n:Nat}{g g':Gr}{l:List (Nat×Bool)}(h:JN P t m (n+1) g=some (g',l)) :
  ∃b bs l',g.status=.running/\(∀st sm,Qc P t m g st sm=.go b st sm #[] bs)/\JN P t m n b=some (g',l')/\l=bs++l':=by
 simp only[JN]at h;split at h
 .rename_i b st' sm' es bs hs hst;cases w:es.isEmpty&&bs.all (!·.2)with
  |false=>rw[w]at h;cases h
  |true=>
   rw[w]at h;simp only[cond_true]at h;obtain⟨⟨F,l'⟩,z,B⟩:=Option.map_eq_some_iff.1 h;cases B;simp only[Bool.and_eq_true,Array.isEmpty_iff]at w;obtain⟨rfl,E⟩:=w;obtain⟨-,e⟩:=Lr _ _ _ _ _ _ _ hst E;exact⟨b,bs,l',hs,e,z,rfl⟩
 .cases h
def PN{n:Nat}{g:Gr}{l:List (Nat×Bool)}(h:Qn P t m n g=some l):JN P t m n g=some (Qi P t m n g,l):=by
 unfold Qn at h;obtain⟨⟨g',l'⟩,b,rfl⟩:=Option.map_eq_some_iff.1 h;simp only[Qi,b]
def MX{b:Nat}(z:U.tok.ph.blk=some b):∀{n:Nat}{g g':Gr}{l:List (Nat×Bool)},JN P t m n g=some (g',l)->Jc b l->J (Zd P t N) Stop m g' U->J (Zd P t N) Stop m g U
 |0,g,g',l,h,_,k=>by simp only[JN,Option.some.injEq,Prod.mk.injEq]at h;rw[h.1];exact k
 |n+1,g,g',l,h,B,k=>by
  obtain⟨E,bs,l',G,e,F,rfl⟩:=V9 h;exact .syn (QD.quiet G z e (λ y w=>B y (mem_append_left _ w)) (MX z F (λ y w=>B y (mem_append_right _ w)) k))
def J.calm{b n:Nat}{g:Gr}{l:List (Nat×Bool)}(e:U.tok.ph.blk=some b)(h:Qn P t m n g=some l)(w:Jc b l)(k:J (Zd P t N) Stop m (Qi P t m n g) U):J (Zd P t N) Stop m g U:=
 MX e (PN h) w k
def EX{b d k:Nat}{p:Ph}:∀{n:Nat}{g g':Gr}{l:List (Nat×Bool)},JN P t false n g=some (g',l)->Jc b l->Tl P t N b k d p g'->Tl P t N b (n+k) d p g
 |0,g,g',l,h,_,q=>by simp only[JN,Option.some.injEq,Prod.mk.injEq]at h;rw[Nat.zero_add,h.1];exact q
 |n+1,g,g',l,h,B,q=>by
  obtain⟨e,bs,l',F,w,E,rfl⟩:=V9 h;rw[show n+1+k=(n+k)+1 by omega];exact⟨F,.inl ⟨e,#[],bs,S1,λ y z=>B y (mem_append_left _ z),w,EX E (λ y z=>B y (mem_append_right _ z)) q⟩⟩
def Tl.calm{b d k n:Nat}{p:Ph}{g:Gr}{l:List (Nat×Bool)}(h:Qn P t false n g=some l)(e:Jc b l)(q:Tl P t N b k d p (Qi P t false n g)):Tl P t N b (n+k) d p g:=
 EX (PN h) e q
def IH{d k:Nat}:∀{n:Nat}{g g':Gr},JN P t false n g=some (g',[])->QuitsD P k d g'->QuitsD P (n+k) d g
 |0,g,g',h,q=>by simp only[JN,Option.some.injEq,Prod.mk.injEq]at h;rw[Nat.zero_add,h.1];exact q
 |n+1,g,g',h,q=>by
  obtain⟨b,bs,l',E,e,B,z⟩:=V9 h;have:bs=[]/\l'=[]:=by simpa using z.symm
  obtain⟨rfl,rfl⟩:=this;rw[show n+1+k=(n+k)+1 by omega];exact .inr ⟨E,b,#[],S1,λ w=>TJ (e undef undef) w,IH B q⟩
def Zj{d k n:Nat}{g:Gr}(h:Qn P t false n g=some [])(q:QuitsD P k d (Qi P t false n g)):QuitsD P (n+k) d g:=IH (PN h) q
def gD{d k:Nat}{g g':Gr}{st sm:Value}{es:Array Event}(z:g.status=.running)(h:Qc P t false g undef undef=.go g' st sm es [])(b:∀e∈es,Event.mute e=true)(q:QuitsD P k (deafBehind d es) g'):QuitsD P (k+1) d g:=
 .inr ⟨z,g',es,b,λ w=>TJ h w,q⟩
def SE.info:SE->Option (Value×Value×Array Event×List (Nat×Bool))
 |.go _ st sm es bs=>some (st,sm,es,bs)
 |_=>none
def SE.of_info{s:SE}{g:Gr}{st sm:Value}{es:Array Event}{bs:List (Nat×Bool)}(h:s.info=some (st,sm,es,bs)):s=.go (s.get g) st sm es bs:=by
 cases s <;> simp only[SE.info,Option.some.injEq,Prod.mk.injEq,reduceCtorEq]at h;obtain⟨rfl,rfl,rfl,rfl⟩:=h;rfl
def Xl{g:Gr}{st sm:Value}{es:Array Event}{bs:List (Nat×Bool)}(h:(Qc P t m g undef undef).info=some (st,sm,es,bs))(b:bs.all (!·.2)=true):∀st sm,Qc P t m g st sm=.go ((Qc P t m g undef undef).get g) st sm es bs:=
 (Lr _ _ _ _ _ _ _ (SE.of_info h) b).2
def Tl.mute{b d n:Nat}{p:Ph}{g:Gr}{st sm:Value}{es:Array Event}{bs:List (Nat×Bool)}(h:(Qc P t false g undef undef).info=some (st,sm,es,bs))(z:bs.all (!·.2)=true)(w:Jc b bs)
  (B:∀e∈es,Event.mute e=true) (k:Tl P t N b n (deafBehind d es) p ((Qc P t false g undef undef).get g)):Tl P t N b (n+1) d p g:=
 ⟨Qo (SE.of_info (g:=g) h),.inl ⟨_,es,bs,B,w,Xl h z,k⟩⟩
def Wc{d k:Nat}{g:Gr}{st sm:Value}{es:Array Event}(h:(Qc P t false g undef undef).info=some (st,sm,es,[]))(b:∀e∈es,Event.mute e=true)(q:QuitsD P k (deafBehind d es) ((Qc P t false g undef undef).get g)):QuitsD P (k+1) d g:=
 gD (Qo (SE.of_info (g:=g) h)) (SE.of_info h) b q
def Jv:∀{n d k:Nat}{g:Gr},QuitsD P n d g->QuitsD P (n+k) d g
 |0,d,k,g,h=>by cases k with|zero=>exact h|succ k=>exact .inl h
 |n+1,d,k,g,h=>by
  rw[show n+1+k=(n+k)+1 by omega];exact h.imp id λ⟨w,g',es,e,b,q⟩=>⟨w,g',es,e,b,Jv q⟩
end Go.TM
namespace Go.TM
variable{P:Program}{t:TypeId}{N:Nat}{m:Bool}{U:Qa Tk}{Stop:QJ Tk}{g:Gr}{b d:Nat}{ds:List Spec}{pend:Bool}{k_0:PS}{st sm:Value}{mu:Option ZS}
def Qg:Jc b []:=λ _ h=>by cases h
def Q6{x y:Bool}:Jc b [(b,x),(b,y)]:=λ z h=>by simp at h;rcases h with rfl|rfl <;> rfl
def Zw{x:Bool}:Jc b [(b,x)]:=λ z h=>by simp at h;subst h;rfl
def Js{x y z w:Bool}:Jc b [(b,x),(b,y),(b,z),(b,w)]:=λ v h=>by simp at h;rcases h with rfl|rfl|rfl|rfl <;> rfl
def J.dis(e:U.tok=⟨d,.par b ds pend k_0,mu⟩)(h:(Qc P t m g undef undef).info=some (st,sm,#[Z8 .disable],[]))(k:J (Zd P t N) Stop m ((Qc P t m g undef undef).get g) (U.at (d+1) (.par b ds pend k_0))):J (Zd P t N) Stop m g U:=
 .syn (QD.dis (Qo (SE.of_info (g:=g) h)) e (Xl h rfl) Qg k)
def J.ena(e:U.tok=⟨d+1,.par b ds pend k_0,mu⟩)(h:(Qc P t m g undef undef).info=some (st,sm,#[Z8 .enable],[]))(k:J (Zd P t N) Stop m ((Qc P t m g undef undef).get g) (U.at d (.par b ds pend k_0))):J (Zd P t N) Stop m g U:=
 .syn (QD.ena (Qo (SE.of_info (g:=g) h)) e (Xl h rfl) Qg k)
def J.said(wr:Bool)(e:U.tok=⟨1,.par b ds pend k_0,mu⟩)(h:(Qc P t m g undef undef).info=some (st,sm,#[Z8 (bif wr then .write ⟨b,1,none⟩else .read ⟨b,1,none⟩)],[]))(k:J (Zd P t N) Stop m ((Qc P t m g undef undef).get g) U):J (Zd P t N) Stop m g U:=
 .syn (QD.said (wr:=wr) (Qo (SE.of_info (g:=g) h)) e (Xl h rfl) Qg k)
def J.acq(w:U.tok=⟨0,.par b ds false .up,none⟩)(h:(Qc P t m g undef undef).info=some (st,sm,#[Z8 (.acquire ⟨b,0,none⟩)],[]))(k:∀e,JP ds e->J (Zd P t N) Stop m ((Qc P t m g undef undef).get g) ((U.with e.flatten).at 0 .out)):J (Zd P t N) Stop m g U:=
 .syn (QD.acq (Qo (SE.of_info (g:=g) h)) w Qg (Xl h rfl) k)
def J.acqM{x:QW}{u:Bool->Bool}(w:U.tok=⟨0,.par b ds false .up,some (.par x u)⟩)(h:(Qc P t m g undef undef).info=some (st,sm,#[Z8 (.acquire ⟨b,0,none⟩)],[]))(k:∀e M,JP ds e->x.sp (u false) (u true) M->J (Zd P t N) Stop m ((Qc P t m g undef undef).get g) { U with M:=(U.M++e.flatten)++M,tok:=⟨0,.out,none⟩ }):J (Zd P t N) Stop m g U:=
 .syn (QD.acqM (Qo (SE.of_info (g:=g) h)) w Qg (Xl h rfl) k)
def J.add(z:U.tok=⟨1,.par b ds false .run,mu⟩)(w:ds.length<N)(h:∀c,c<=ds.length->(Qc P t m g (Q2 c 0) (Qq 0)).info=some (Q2 (c+1) 0,Qq 0,#[Ji b 0,QA b 0],[(b,true),(b,true)]) /\
  J (Zd P t N) Stop m ((Qc P t m g (Q2 c 0) (Qq 0)).get g) (U.at 1 (.par b ds true .run))):J (Zd P t N) Stop m g U:=
 .syn (QD.add (Qo (SE.of_info (g:=g) (h 0 (Nat.zero_le _)).1)) z w λ c e=>⟨_,_,SE.of_info (g:=g) (h c e).1,Q6,(h c e).2⟩)
def J.load{u:Nat}(z:U.tok=⟨1,.par b ds false k_0,mu⟩)(w:HR ds u k_0)(h:∀c,c<=u->(Qc P t m g (Q2 c 0) (Qq 0)).info=some (Q2 c 0,Qq 0,#[Ji b 0],[(b,true)]) /\
  (J (Zd P t N) Stop m ((Qc P t m g (Q2 c 0) (Qq 0)).get g) (U.at 1 (.par b ds false (.seen c)))\/(c=0/\J (Zd P t N) Stop m ((Qc P t m g (Q2 c 0) (Qq 0)).get g) (U.at 1 (.par b ds false .up))))):J (Zd P t N) Stop m g U:=
 .syn (QD.look (Qo (SE.of_info (g:=g) (h 0 (Nat.zero_le _)).1)) z w λ c e=>⟨_,_,Zw,.inl ⟨SE.of_info (g:=g) (h c e).1,(h c e).2⟩⟩)
def J.look2{bs:List (Nat×Bool)}(w:U.tok=⟨1,.par b ds false .up,mu⟩)(e:Jc b bs)(h:(Qc P t m g (Q2 0 0) (Qq 0)).info=some (Q2 0 0,Qq 0,#[Ji b 0],bs))(k:J (Zd P t N) Stop m ((Qc P t m g (Q2 0 0) (Qq 0)).get g) U):J (Zd P t N) Stop m g U:=
 .syn (QD.look2 (Qo (SE.of_info (g:=g) h)) w e (SE.of_info (g:=g) h) k)
def Zi{x y z:Bool}:Jc b [(b,x),(b,y),(b,z)]:=λ v h=>by simp at h;rcases h with rfl|rfl|rfl <;> rfl
def EW:∀{n:Nat}{g g':Gr},JN P t m n g=some (g',[])->J (Zd P t N) Stop m g' U->J (Zd P t N) Stop m g U
 |0,g,g',h,k=>by simp only[JN,Option.some.injEq,Prod.mk.injEq]at h;rw[h.1];exact k
 |n+1,g,g',h,k=>by
  obtain⟨e,bs,l',E,b,B,z⟩:=V9 h;have:bs=[]/\l'=[]:=by simpa using z.symm
  obtain⟨rfl,rfl⟩:=this;exact J.still E (λ w=>TJ (b undef undef) w) (EW B k)
def J.calm0{n:Nat}(h:Qn P t m n g=some [])(k:J (Zd P t N) Stop m (Qi P t m n g) U):J (Zd P t N) Stop m g U:=EW (PN h) k
def J.cas{u:Nat}(G:U.tok=⟨1,.par b ds false k_0,mu⟩)(E:HR ds u k_0)(F:g.status=.running)(h:∀c,c<=u ->
  (∃bs,Jc b bs/\(Qc P t m g (Q2 c 0) (Qq 0)).info=some (Q2 c 0,Qq 0,#[Ji b 0],bs)/\J (Zd P t N) Stop m ((Qc P t m g (Q2 c 0) (Qq 0)).get g) (U.at 1 (.par b ds false (.seen c)))) \/
  (1<=c/\∃bs,Jc b bs/\(Qc P t m g (Q2 c 0) (Qq 0)).info=some (Q2 c 1,Qq 0,#[Ji b 0,QA b 0],bs)/\J (Zd P t N) Stop m ((Qc P t m g (Q2 c 0) (Qq 0)).get g) (U.at 1 (.par b ds false .wait)))):J (Zd P t N) Stop m g U:=
 .syn (QD.look F G E λ c B=>by
  rcases h c B with⟨bs,e,w,k⟩|⟨z,bs,e,w,k⟩
  .exact⟨_,bs,e,.inl ⟨SE.of_info (g:=g) w,.inl k⟩⟩
  .exact⟨_,bs,e,.inr ⟨z,SE.of_info (g:=g) w,k⟩⟩)
end Go.TM
namespace Go.TM
def Hj:∀{n:Nat}{l:List Nat},l.Nodup->(∀x∈l,x<n)->l.length<=n
 |0,l,_,h=>by
  cases l with
  |nil=>simp
  |cons a l=>exact absurd (h a S1) O1
 |n+1,l,e,h=>by
  have z:(l.erase n).length<=n:=Hj (e.erase n) λ x w=>by
   have B:=h x (mem_of_mem_erase w);have E:=(e.mem_erase_iff.1 w).1;omega
  have F:l.length<=(l.erase n).length+1:=by
   by_cases b:n∈l
   .rw[length_erase_of_mem b];omega
   .rw[erase_of_not_mem b];omega
  omega
def Jb(l:List Nat):Nat:=l.foldl (λ d k=>d||| (1<<<k)) 0
def VA(i k:Nat):(1<<<i).testBit k=decide (k=i):=by
 rw[Nat.one_shiftLeft,Nat.testBit_two_pow];by_cases h:i=k
 .subst h;simp
 .simp[h,Ne.symm h]
def gQ(l:List Nat):∀(d k:Nat),(l.foldl (λ d k=>d||| (1<<<k)) d).testBit k=(d.testBit k|| l.contains k):=by
 induction l with
 |nil=>simp
 |cons a l b=>
  intro d k;rw[foldl_cons,b,Nat.testBit_or,VA];by_cases h:k=a
  .subst h;simp
  .simp[h,Ne.symm h]
def W5(l:List Nat)(k:Nat):(Jb l).testBit k=l.contains k:=by simp[Jb,gQ]
section
variable(A:List (List Nat))
def Jg(i:Nat):List Nat:=A.getD i []
def WG(d i:Nat):Nat:=if(Jg A i).all (λ k=>d.testBit k)then d||| (1<<<i)else d
def NS(d:Nat):Nat:=(range A.length).foldl (WG A) d
def JO:Nat->Nat
 |0=>0
 |k+1=>NS A (JO k)
def Wp:Bool:=decide (JO A A.length≠2^A.length-1)
def Wu(two:Nat):Nat->Nat->Bool
 |0,_=>false
 |s+1,one=>(Jg A one).any λ k=>k==two|| Wu two s k
def Xu:Bool:=(range A.length).any λ i=>Wu A i A.length i
structure ZK(d:Nat)(L:List Nat):Prop where
 bit:∀k,d.testBit k=true↔k∈L
 low:∀k∈L,k<A.length
 nod:L.Nodup
 aft:∀(X Y:List Nat)x,L=X++x::Y->∀k∈Jg A x,k∈Y
variable{A}
def ZK.nil:ZK A 0 []:=⟨S1,S1,.nil,λ X Y x h=>by cases X <;> cases h⟩
def ZK.step{d i:Nat}{L:List Nat}(h:ZK A d L)(G:i<A.length):∃w,ZK A (WG A d i) w/\(w=L\/w=i::L)/\(i∈w\/∃k∈Jg A i,k∉L):=by
 unfold WG;by_cases E:i∈L
 .refine⟨L,?_,.inl rfl,.inl E⟩;split
  .refine⟨λ k=>?_,h.low,h.nod,h.aft⟩;rw[Nat.testBit_or,Bool.or_eq_true,VA,h.bit];constructor
   .rintro(h1|h1)
    .exact h1
    .simp at h1;subst h1;exact E
   .exact .inl
  .exact h
 .by_cases ha:(Jg A i).all (λ k=>d.testBit k)=true
  .rw[if_pos ha];rw[all_eq_true]at ha;refine⟨i::L,⟨λ k=>?_,?_,nodup_cons.2 ⟨E,h.nod⟩,?_⟩,.inr rfl,.inl S1⟩
   .rw[Nat.testBit_or,Bool.or_eq_true,VA,h.bit,mem_cons];constructor
    .rintro(h1|h1)
     .exact .inr h1
     .exact .inl (by simpa using h1)
    .rintro(h1|h1)
     .exact .inr (by simpa using h1)
     .exact .inl h1
   .intro k b;rcases mem_cons.1 b with rfl|b
    .exact G
    .exact h.low k b
   .intro X Y x e k b;cases X with
    |nil=>
     simp only[nil_append,List.cons.injEq]at e;obtain⟨rfl,rfl⟩:=e;exact(h.bit k).1 (ha k b)
    |cons y X=>
     simp only[cons_append,List.cons.injEq]at e;exact h.aft X Y x e.2 k b
  .rw[if_neg ha];refine⟨L,h,.inl rfl,.inr ?_⟩
   have:∃k∈Jg A i,¬d.testBit k=true:=by
    apply Classical.byContradiction;intro H;apply ha;rw[all_eq_true];intro k b;apply Classical.byContradiction;intro z;exact H ⟨k,b,z⟩
   obtain⟨k,b,F⟩:=this;exact⟨k,b,λ B=>F ((h.bit k).2 B)⟩
def ZK.fold:∀{l:List Nat}{d:Nat}{L:List Nat},ZK A d L->(∀i∈l,i<A.length)->∃w,ZK A (l.foldl (WG A) d) w/\L.length<=w.length/\(w.length=L.length->w=L/\∀i∈l,i∈L\/∃k∈Jg A i,k∉L)
 |[],d,L,h,_=>⟨L,h,Nat.le_refl _,λ _=>⟨rfl,S1⟩⟩
 |i::l,d,L,h,E=>by
  obtain⟨L₁,F,B,G⟩:=h.step (E i S1);obtain⟨L₂,H,z,I⟩:=ZK.fold (l:=l) F λ j b=>E j (by simp[b]);refine⟨L₂,H,?_,λ e=>?_⟩
  .rcases B with rfl|rfl
   .exact z
   .simp at z;omega
  .rcases B with rfl|rfl
   .obtain⟨rfl,k4⟩:=I e;refine⟨rfl,λ j b=>?_⟩;rcases mem_cons.1 b with rfl|b
    .exact G
    .exact k4 j b
   .simp at z;omega
def ZK.round{d:Nat}{L:List Nat}(h:ZK A d L):∃b,ZK A (NS A d) b/\L.length<=b.length/\(b.length=L.length->b=L/\∀i,i<A.length->i∈L\/∃k∈Jg A i,k∉L):=by
 obtain⟨b,z,B,w⟩:=ZK.fold (l:=range A.length) h S1;exact⟨b,z,B,λ e=>⟨(w e).1,λ i E=>(w e).2 i (by simpa using E)⟩⟩
def ZK.rounds(n:Nat):∃L,ZK A (JO A n) L/\(n<=L.length\/∀i,i<A.length->i∈L\/∃k∈Jg A i,k∉L):=by
 induction n with
 |zero=>exact⟨[],.nil,.inl S1⟩
 |succ n K=>
  obtain⟨L,P,B⟩:=K;obtain⟨z,N,k2,k3⟩:=P.round;refine⟨z,N,?_⟩;by_cases e:z.length=L.length
  .obtain⟨rfl,k4⟩:=k3 e;exact .inr k4
  .rcases B with B|B
   .exact .inl O1
   .exfalso
    have:∀(l:List Nat)(d:Nat) , (∀i∈l,i<A.length)->(∀k,d.testBit k=true↔k∈L)->∀k,((l.foldl (WG A) d).testBit k=true↔k∈L):=by
     intro l
     induction l with
     |nil=>exact λ d _ h k=>h k
     |cons i l M=>
      intro d Q G;refine M _ (λ j W=>Q j (by simp[W])) λ k=>?_;unfold WG;split
      .rename_i E;rw[all_eq_true]at E;rcases B i (Q i S1)with V|⟨k',H,b⟩
       .rw[Nat.testBit_or,Bool.or_eq_true,VA,G];constructor
        .rintro(h|h)
         .exact h
         .simp at h;subst h;exact V
        .exact .inl
       .exact absurd ((G k').1 (E k' H)) b
      .exact G k
    have U:=this (range A.length) (JO A n) S1 P.bit;have w:∀x∈z,x∈L:=λ x F=>(U x).1 ((N.bit x).2 F)
    have Z:z.length<=L.length:=by
     have:∀{X Y:List Nat},X.Nodup->(∀x∈X,x∈Y)->X.length<=Y.length:=by
      intro X
      induction X with
      |nil=>intro Y _ _;simp
      |cons a X K=>
       intro Y b T;obtain⟨E,b⟩:=nodup_cons.1 b;have S:=T a S1
       have:=K (Y:=Y.erase a) b λ x F=>by
        have I:x≠a:=λ e=>E (e▸F);exact(mem_erase_of_ne I).2 (T x (by simp[F]))
       rw[length_erase_of_mem S]at this;have:0<Y.length:=length_pos_of_mem S;simp only[length_cons];omega
     exact this N.nod w
    omega
def Ln{two:Nat}:∀{s b one:Nat},s<=b->Wu A two s one=true->Wu A two b one=true
 |0,_,_,_,h=>by simp[Wu]at h
 |s+1,0,_,w,_=>O1
 |s+1,b+1,one,w,h=>by
  simp only[Wu,any_eq_true,Bool.or_eq_true]at h ⊢;obtain⟨k,e,h⟩:=h;exact⟨k,e,h.imp id (Ln O1)⟩
def ZK.must{d:Nat}{L:List Nat}(h:ZK A d L){two:Nat}:∀(s:Nat)(X Y:List Nat)(x:Nat),L=X++x::Y->Wu A two s x=true->two∈Y
 |0,_,_,_,_,b=>by simp[Wu]at b
 |s+1,X,Y,x,e,b=>by
  simp only[Wu,any_eq_true,Bool.or_eq_true,beq_iff_eq]at b;obtain⟨k,z,b⟩:=b;have w:=h.aft X Y x e k z;rcases b with rfl|b
  .exact w
  .obtain⟨Y1,Y2,rfl⟩:=append_of_mem w;have:=ZK.must h s (X++x::Y1) Y2 k (by rw[e];simp) b;simp[this]
def EM(hA:∀i,i<A.length->∀k∈Jg A i,k<A.length):Wp A=Xu A:=by
 obtain⟨L,F,w⟩:=ZK.rounds (A:=A) A.length
 have E:(JO A A.length=2^A.length-1)↔∀i,i<A.length->i∈L:=by
  constructor
  .intro e i z;rw[<- F.bit,e,Nat.testBit_two_pow_sub_one];simpa using z
  .intro h;refine Nat.eq_of_testBit_eq λ i=>?_;rw[Nat.testBit_two_pow_sub_one];by_cases z:i<A.length
   .rw[(F.bit i).2 (h i z)];simp[z]
   .have:¬(JO A A.length).testBit i=true:=λ hb=>z (F.low i ((F.bit i).1 hb));simp only[Bool.not_eq_true]at this;rw[this];simp[z]
 have key:Xu A=true↔¬ ∀i,i<A.length->i∈L:=by
  unfold Xu;rw[any_eq_true];constructor
  .rintro⟨i,z,N⟩ hall;have W:i<A.length:=by simpa using z
   obtain⟨X,Y,e⟩:=append_of_mem (hall i W);have hY:=F.must _ X Y i e N;have T:=F.nod;rw[e,nodup_append]at T;exact(nodup_cons.1 T.2.1).1 hY
  .intro T
   obtain⟨i0,P,S⟩:∃i,i<A.length/\i∉L:=by
    apply Classical.byContradiction;intro h;exact T λ i z=>Classical.byContradiction λ N=>h ⟨i,z,N⟩
   have w:∀i,i<A.length->i∉L->∃k,k∈Jg A i/\k∉L:=by
    intro i z N;rcases w with w|w
    .exfalso
     have B:=Hj (n:=A.length) (l:=i::L) (nodup_cons.2 ⟨N,F.nod⟩) (by
      intro x H;rcases mem_cons.1 H with rfl|H
      .exact z
      .exact F.low x H)
     simp at B;omega
    .exact(w i z).resolve_left N
   let f:Nat->Nat:=λ i=>if h:i<A.length/\i∉L then Classical.choose (w i h.1 h.2)else i
   have U:∀i,i<A.length->i∉L->f i∈Jg A i/\f i∉L/\f i<A.length:=by
    intro i B I;have K:=Classical.choose_spec (w i B I);have h4:f i=Classical.choose (w i B I):=by simp only[f];rw[dif_pos ⟨B,I⟩]
    rw[<- h4]at K;exact⟨K.1,K.2,hA i B _ K.1⟩
   let g:Nat->Nat:=λ n=>Nat.rec i0 (λ _ x=>f x) n
   have gs:∀n,g (n+1)=f (g n):=λ n=>rfl
   have M:∀n,g n<A.length/\g n∉L:=by
    intro n
    induction n with
    |zero=>exact⟨P,S⟩
    |succ n G=>rw[gs];exact⟨(U _ G.1 G.2).2.2,(U _ G.1 G.2).2.1⟩
   obtain⟨a,b,aa,hb,e⟩:∃a b,a<b/\b<=A.length/\g a=g b:=by
    apply Classical.byContradiction;intro Z
    have Q:∀n,n<=A.length+1->((range n).map g).Nodup:=by
     intro n
     induction n with
     |zero=>intro _;simp
     |succ n G=>
      intro T;rw[range_succ,map_append,nodup_append];refine⟨G O1,S1,?_⟩;intro x H y hy V;obtain⟨j,hj,rfl⟩:=mem_map.1 H;simp at hy hj;subst hy;exact Z ⟨j,n,hj,O1,V⟩
    have B:=Hj (Q (A.length+1) (Nat.le_refl _)) (n:=A.length) (by
     intro x H;obtain⟨j,_,rfl⟩:=mem_map.1 H;exact(M j).1)
    simp at B;omega
   have hp:∀n a,Wu A (g (a+n+1)) (n+1) (g a)=true:=by
    intro n
    induction n with
    |zero=>
     intro a;simp only[Wu,any_eq_true,Bool.or_false,beq_iff_eq];exact⟨g (a+1),(U _ (M a).1 (M a).2).1,rfl⟩
    |succ n G=>
     intro a;rw[Wu,any_eq_true];refine⟨g (a+1),(U _ (M a).1 (M a).2).1,?_⟩;rw[Bool.or_eq_true];right;have:=G (a+1)
     rwa [show a+1+n+1=a+(n+1)+1 by omega]at this
   refine⟨g a,by simpa using(M a).1,?_⟩;obtain⟨n,rfl⟩:∃n,b=a+n+1:=⟨b-a-1,O1⟩;have:=hp n a;rw[<- e]at this;exact Ln O1 this
 unfold Wp;by_cases h:∀i,i<A.length->i∈L
 .have B:=E.2 h;have I:¬Xu A=true:=λ K=>(key.1 K) h;simp only[Bool.not_eq_true]at I;rw[I,B];simp
 .have B:JO A A.length≠2^A.length-1:=λ e=>h (E.1 e);rw[key.2 h];simp[B]
def F9(h:Wp A=false):∃L,ZK A (JO A A.length) L/\∀i,i<A.length->i∈L:=by
 obtain⟨L,b,-⟩:=ZK.rounds (A:=A) A.length;refine⟨L,b,λ i e=>?_⟩;unfold Wp at h;have h:JO A A.length=2^A.length-1:=by simpa using h
 rw[<- b.bit,h,Nat.testBit_two_pow_sub_one];simpa using e
end
section
variable{α:Type}
def parts:List α->Nat->List (List α)
 |_,0=>[[]]
 |[],_+1=>[]
 |a::l,m+1=>(parts l m).map (a::·)++parts l (m+1)
def PQ(l:List α):parts l 0=[[]]:=by cases l <;> rfl
def GE:∀{l:List α}{m:Nat}{p:List α},p∈parts l m↔p.Sublist l/\p.length=m
 |l,0,p=>by
  rw[PQ,mem_singleton];constructor
  .rintro rfl;exact⟨nil_sublist _,rfl⟩
  .rintro⟨_,h⟩;exact eq_nil_of_length_eq_zero h
 |[],m+1,p=>by
  simp only[parts,not_mem_nil,false_iff];rintro⟨h,b⟩;rw[sublist_nil.1 h]at b;cases b
 |a::l,m+1,p=>by
  simp only[parts,mem_append,mem_map];constructor
  .rintro(⟨q,hq,rfl⟩|h)
   .obtain⟨h1,h2⟩:=GE.1 hq;exact⟨h1.cons_cons a,by simp[h2]⟩
   .obtain⟨h1,h2⟩:=GE.1 h;exact⟨h1.cons a,h2⟩
  .rintro⟨h,b⟩;cases h with
   |cons _ h=>exact .inr (GE.2 ⟨h,b⟩)
   |cons_cons _ h=>exact .inl ⟨_,GE.2 ⟨h,by simpa using b⟩,rfl⟩
def Fa{l:List α}{i m:Nat}{a:α}(h:l[i]?=some a):parts (l.drop i) (m+1)=(parts (l.drop (i+1)) m).map (a::·)++parts (l.drop (i+1)) (m+1):=by
 obtain⟨b,rfl⟩:=List.getElem?_eq_some_iff.1 h;rw[drop_eq_getElem_cons b];rfl
def M9{l:List α}{i m:Nat}(h:l.length<=i):parts (l.drop i) (m+1)=[]:=by
 rw[drop_eq_nil_of_le h];rfl
end
def ui{n:Nat}{p:List Nat}(h:∀k∈p,k<n):Jb p<2^n:=by
 refine Nat.lt_pow_two_of_testBit _ λ i e=>?_;rw[W5];have:i∉p:=λ b=>by have:=h i b;omega
 simpa using this
section
variable(A:List (List Nat))(out:Nat->Bool)
def QO:Nat->Nat->Nat->Bool
 |0,i,k=>(Jg A i).contains k
 |s+1,i,k=>(Jg A i).contains k|| (Jg A i).any λ o=>out o&&QO s o k
def WW(af:List Nat)(i k:Nat):List Nat:=if(af.getD i 0).testBit k&&out k then af.set i (af.getD i 0||| af.getD k 0)else af
def Gs(n:Nat)(af:List Nat)(i:Nat):List Nat:=(range n).foldl (λ af k=>WW out af i k) af
def N_(n:Nat)(af:List Nat):List Nat:=(range n).foldl (λ af i=>Gs out n af i) af
def Pk(n:Nat):Nat->List Nat->List Nat
 |0,af=>af
 |s+1,af=>Pk n s (N_ out n af)
variable{A out}
def KI{s i k:Nat}:QO A out (s+1) i k=true↔(Jg A i).contains k=true\/∃o,o∈Jg A i/\out o=true/\QO A out s o k=true:=by
 rw[QO,Bool.or_eq_true,any_eq_true];simp only[Bool.and_eq_true]
def KJ{s i k:Nat}(h:(Jg A i).contains k=true):QO A out s i k=true:=by
 cases s <;> simp only[QO,h,Bool.true_or]
def V3:∀{s b i k:Nat},s<=b->QO A out s i k=true->QO A out b i k=true
 |0,b,_,_,_,h=>KJ h
 |s+1,0,_,_,h,_=>O1
 |s+1,b+1,i,k,h,e=>by
  simp only[QO,Bool.or_eq_true,any_eq_true,Bool.and_eq_true]at e ⊢;exact e.imp id λ⟨o,w,z,B⟩=>⟨o,w,z,V3 O1 B⟩
def Le:∀{s b i o k:Nat},QO A out s i o=true->out o=true->QO A out b o k=true->QO A out (s+b+1) i k=true
 |0,b,i,o,k,e,h,w=>by
  rw[Nat.zero_add,KI];exact .inr ⟨o,by simpa[QO]using e,h,w⟩
 |s+1,b,i,o,k,e,h,w=>by
  rw[show s+1+b+1=(s+b+1)+1 by omega,KI];rcases KI.1 e with e|⟨x,z,B,E⟩
  .exact .inr ⟨o,by simpa using e,h,V3 O1 w⟩
  .exact .inr ⟨x,z,B,Le E h w⟩
def Ld{d:Nat}{L:List Nat}(h:ZK A d L):∀{s i k:Nat}(X Y:List Nat),L=X++i::Y->QO A out s i k=true->QO A out Y.length i k=true
 |0,i,k,X,Y,_,b=>V3 (Nat.zero_le _) b
 |s+1,i,k,X,Y,e,b=>by
  simp only[QO,Bool.or_eq_true,any_eq_true,Bool.and_eq_true]at b;rcases b with b|⟨o,w,z,B⟩
  .exact KJ b
  .obtain⟨Y1,Y2,rfl⟩:=append_of_mem (h.aft X Y i e o w);have:=Ld h (X++i::Y1) Y2 (by rw[e];simp) B;refine V3 (s:=Y2.length+1) S1 ?_;simp only[QO,Bool.or_eq_true,any_eq_true,Bool.and_eq_true];exact .inr ⟨o,w,z,this⟩
structure Z_(n:Nat)(A:List (List Nat))(out:Nat->Bool)(r:Nat)(af:List Nat):Prop where
 len:af.length=n
 sound:∀i,i<n->∀k,(af.getD i 0).testBit k=true->∃s,QO A out s i k=true
 full:∀i,i<n->∀k,QO A out r i k=true->(af.getD i 0).testBit k=true
def YW{af:List Nat}{i j v:Nat}(b:i<af.length):(af.set i v).getD j 0=if j=i then v else af.getD j 0:=by
 rw[getD_eq_getElem?_getD,getElem?_set];by_cases e:i=j
 .subst e;simp[b]
 .simp[e,Ne.symm e]
def Z_.one{n r i k:Nat}{af:List Nat}(h:Z_ n A out r af)(z:i<n)(F:k<n):Z_ n A out r (WW out af i k):=by
 unfold WW;split
 .rename_i hc;rw[Bool.and_eq_true]at hc;have B:i<af.length:=by rw[h.len];exact z
  refine⟨by simpa using h.len,λ j w x b=>?_,λ j w x b=>?_⟩
  .rw[YW B]at b;split at b
   .rename_i e;subst e;rw[Nat.testBit_or,Bool.or_eq_true]at b;rcases b with b|b
    .exact h.sound j w x b
    .obtain⟨s,h1⟩:=h.sound j z k hc.1;obtain⟨G,E⟩:=h.sound k F x b;exact⟨_,Le h1 hc.2 E⟩
   .exact h.sound j w x b
  .rw[YW B];have:=h.full j w x b;split
   .rename_i e;subst e;rw[Nat.testBit_or,this,Bool.true_or]
   .exact this
 .exact h
def XG(n:Nat)(af b:List Nat):Prop:=b.length=af.length/\∀i,i<n->∀k,(af.getD i 0).testBit k=true->(b.getD i 0).testBit k=true
def XG.refl(n:Nat)(af:List Nat):XG n af af:=⟨rfl,λ _ _ _ h=>h⟩
def XG.trans{n:Nat}{a b c:List Nat}(h:XG n a b)(k:XG n b c):XG n a c:=⟨k.1.trans h.1,λ i e x w=>k.2 i e x (h.2 i e x w)⟩
def dJ{n i k:Nat}{af:List Nat}(z:af.length=n)(h:i<n):XG n af (WW out af i k):=by
 unfold WW;split
 .refine⟨S1,λ j w x b=>?_⟩;rw[YW O1];split
  .rename_i e;subst e;rw[Nat.testBit_or,b,Bool.true_or]
  .exact b
 .exact .refl ..
def NH{n r i:Nat}(e:i<n):∀{l:List Nat}{af:List Nat},(∀k∈l,k<n)->Z_ n A out r af ->
  Z_ n A out r (l.foldl (λ af k=>WW out af i k) af)/\XG n af (l.foldl (λ af k=>WW out af i k) af) /\
  ∀o∈l,(af.getD i 0).testBit o=true->out o=true->∀x,(af.getD o 0).testBit x=true->((l.foldl (λ af k=>WW out af i k) af).getD i 0).testBit x=true
 |[],af,_,h=>⟨h,.refl ..,S1⟩
 |k::l,af,B,h=>by
  have M:=B k S1;have H:=h.one (i:=i) e M;have z:=dJ (out:=out) (k:=k) h.len e;obtain⟨I,E,K⟩:=NH (l:=l) e (λ j L=>B j (by simp[L])) H;refine⟨I,z.trans E,λ o w F b x G=>?_⟩;rcases mem_cons.1 w with rfl|w
  .refine E.2 i e x ?_;unfold WW;rw[if_pos (by rw[F,b];rfl),YW (by rw[h.len];exact e),if_pos rfl,Nat.testBit_or,G,Bool.or_true]
  .exact K o w (z.2 i e o F) b x (z.2 o (B o (by simp[w])) x G)
def NI{n r:Nat}(I:∀i,i<n->∀k∈Jg A i,k<n){b:List Nat}(B:Z_ n A out r b):∀{l:List Nat}{af:List Nat},(∀k∈l,k<n)->Z_ n A out r af->XG n b af ->
  Z_ n A out r (l.foldl (λ af i=>Gs out n af i) af)/\XG n af (l.foldl (λ af i=>Gs out n af i) af) /\
  ∀i∈l,∀x,QO A out (r+1) i x=true->((l.foldl (λ af i=>Gs out n af i) af).getD i 0).testBit x=true
 |[],af,_,h,_=>⟨h,.refl ..,S1⟩
 |i::l,af,K,h,P=>by
  have e:=K i S1;obtain⟨H,F,Q⟩:=NH (l:=range n) e S1 h;obtain⟨N,G,S⟩:=NI I B (l:=l) (λ j w=>K j (by simp[w])) H (P.trans F);refine⟨N,F.trans G,λ j w x z=>?_⟩;rcases mem_cons.1 w with rfl|w
  .refine G.2 j e x ?_;simp only[QO,Bool.or_eq_true,any_eq_true,Bool.and_eq_true]at z;rcases z with z|⟨o,E,L,M⟩
   .exact H.full j e x (KJ z)
   .have ho:=I j e o E;exact Q o (by simpa using ho) (h.full j e o (KJ (by simpa using E))) L x (h.full o ho x M)
  .exact S j w x z
def Z_.round{n r:Nat}(e:∀i,i<n->∀k∈Jg A i,k<n){af:List Nat}(h:Z_ n A out r af):Z_ n A out (r+1) (N_ out n af):=by
 obtain⟨b,E,B⟩:=NI e h (l:=range n) S1 h (.refl ..);exact⟨b.len,b.sound,λ i w x z=>B i (by simpa using w) x z⟩
def Z_.rounds{n:Nat}(b:∀i,i<n->∀k∈Jg A i,k<n):∀{s r:Nat}{af:List Nat},Z_ n A out r af->Z_ n A out (r+s) (Pk out n s af)
 |0,r,af,h=>h
 |s+1,r,af,h=>by
  have:=Z_.rounds b (s:=s) (h.round b);rw[show r+(s+1)=r+1+s by omega];exact this
def Z_.start:Z_ A.length A out 0 (A.map Jb):=by
 have key:∀i,i<A.length->(A.map Jb).getD i 0=Jb (Jg A i):=by
  intro i b;simp[getD_eq_getElem?_getD,Jg,b]
 refine⟨S1,λ i b k e=>⟨0,?_⟩,λ i b k e=>?_⟩
 .rw[key i b,W5]at e;exact e
 .rw[key i b,W5];exact e
def dS(E:∀i,i<A.length->∀k∈Jg A i,k<A.length)(F:Wp A=false){i k:Nat}(z:i<A.length) :
  ((Pk out A.length A.length (A.map Jb)).getD i 0).testBit k=QO A out A.length i k:=by
 have h:=Z_.rounds (out:=out) E (s:=A.length) Z_.start;rw[Nat.zero_add]at h;obtain⟨L,w,b⟩:=F9 F;rw[Bool.eq_iff_iff];constructor
 .intro hb;obtain⟨s,G⟩:=h.sound i z k hb;obtain⟨X,Y,e⟩:=append_of_mem (b i z);have:=Ld w X Y e G;refine V3 ?_ this;have B:=Hj w.nod w.low;rw[e]at B;simp at B;omega
 .exact h.full i z k
end
end Go.TM
namespace Go.TM
variable{P:Program}{t:TypeId}{N:Nat}{m:Bool}{U:Qa Tk}{Stop:QJ Tk}{g:Gr}{b d:Nat}{D:Spec}{x:QW}{s:Bool}{me:LP}{lo:Nat}{st sm:Value}
def wI(c:Nat):Nat:=if c=1 then 1 else 0
def LP.cls_le(q:LP):q.cls<=2:=by cases q <;> simp[LP.cls]
def LP.word_idle{q:LP}{a c:Nat}(h:LP.word .idle q=some (a,c)):a=wI q.cls/\c=0:=by
 cases q with
 |own v=>cases v <;> simp_all[LP.word,LP.cls,wI]
 |_=>first|(simp_all[LP.word,LP.cls,wI];done)|(simp[LP.word,LP.cls,wI]at h ⊢;omega)
def LP.word_got{q:LP}{a c:Nat}(h:LP.word .idle q=some (a,c))(b:q.cls≠1):LP.word .got q=some (1,0):=by
 cases q <;> simp_all[LP.word,LP.cls]
def LP.word_wai{q:LP}{a c:Nat}(h:LP.word .idle q=some (a,c))(b:q.cls=1):LP.word .wai q=some (9,0):=by
 cases q with
 |own v=>cases v <;> simp_all[LP.word,LP.cls]
 |_=>simp_all[LP.word,LP.cls]
def Ho{n o:Nat}(h:o<2):Pa n (Ji n o):=.inr ⟨o,false,h,rfl⟩
def P2{n o:Nat}(h:o<2):Pa n (QA n o):=.inr ⟨o,true,h,rfl⟩
def MY(z:U.tok=⟨d,.wrk b D,some (.lok x s me lo)⟩):∀{n:Nat}{g g':Gr}{l:List (Nat×Bool)},JN P x.t m n g=some (g',l)->Jc x.m l->J (Zd P t N) Stop m g' U->J (Zd P t N) Stop m g U
 |0,g,g',l,h,_,k=>by simp only[JN,Option.some.injEq,Prod.mk.injEq]at h;rw[h.1];exact k
 |n+1,g,g',l,h,F,k=>by
  obtain⟨e,bs,l',I,w,G,rfl⟩:=V9 h;have E:=MY z G (λ y B=>F y (mem_append_right _ B)) k;refine .syn (QD.mu I z λ q st sm H K=>⟨e,bs,#[],me,st,sm,d,lo,H,λ y B=>F y (mem_append_left _ B),w _ _,K,Nat.le_refl _,rfl,rfl,λ _=>rfl,S1,rfl,.inl rfl,?_⟩);rw[Qa.lk_self z];exact E
def J.mcalm(w:U.tok=⟨d,.wrk b D,some (.lok x s me lo)⟩){n:Nat}{l:List (Nat×Bool)}(h:Qn P x.t m n g=some l)(e:Jc x.m l)(k:J (Zd P t N) Stop m (Qi P x.t m n g) U):J (Zd P t N) Stop m g U:=
 MY w (PN h) e k
def J.mdis(B:U.tok=⟨d,.wrk b D,some (.lok x s me lo)⟩)(h:(Qc P x.t m g undef undef).info=some (st,sm,#[Z8 .disable],[]))(k:J (Zd P t N) Stop m ((Qc P x.t m g undef undef).get g) (U.lk (d+1) b D x s me lo)):J (Zd P t N) Stop m g U:=
 .syn (QD.mu (Qo (SE.of_info (g:=g) h)) B λ q st sm z E=>⟨_,[],_,me,st,sm,d+1,lo,z,Qg,Xl h rfl _ _,E,Nat.le_refl _,rfl,rfl,λ _=>rfl,by intro e w;simp at w;subst w;exact .inl rfl,rfl,.inl rfl,k⟩)
def J.mena(B:U.tok=⟨d+1,.wrk b D,some (.lok x s me lo)⟩)(h:(Qc P x.t m g undef undef).info=some (st,sm,#[Z8 .enable],[]))(k:J (Zd P t N) Stop m ((Qc P x.t m g undef undef).get g) (U.lk d b D x s me lo)):J (Zd P t N) Stop m g U:=
 .syn (QD.mu (Qo (SE.of_info (g:=g) h)) B λ q st sm z E=>⟨_,[],_,me,st,sm,d,lo,z,Qg,Xl h rfl _ _,E,Nat.le_refl _,rfl,rfl,λ _=>rfl,by intro e w;simp at w;subst w;exact .inl rfl,rfl,.inl rfl,k⟩)
def J.midle(I:U.tok=⟨d,.wrk b D,some (.lok x s .idle lo)⟩)(H:g.status=.running)(h:∀c,lo<=c->c<=2 ->
  (∃bs es,Jc x.m bs/\(Qc P x.t m g (Zg (wI c)) (Qq 0)).info=some (Zg (wI c),Qq 0,es,bs)/\(es=#[]\/es=#[Ji x.m 0])/\J (Zd P t N) Stop m ((Qc P x.t m g (Zg (wI c)) (Qq 0)).get g) (U.lk d b D x s .idle c)) \/
  (c≠1/\∃bs,Jc x.m bs/\(Qc P x.t m g (Zg (wI c)) (Qq 0)).info=some (Zg 1,Qq 0,#[Ji x.m 0,QA x.m 0],bs)/\J (Zd P t N) Stop m ((Qc P x.t m g (Zg (wI c)) (Qq 0)).get g) (U.lk d b D x s .got c)) \/
  (c=1/\∃bs,Jc x.m bs/\(Qc P x.t m g (Zg (wI c)) (Qq 0)).info=some (Zg 9,Qq 0,#[Ji x.m 0,QA x.m 0],bs)/\J (Zd P t N) Stop m ((Qc P x.t m g (Zg (wI c)) (Qq 0)).get g) (U.lk d b D x s .wai c))):J (Zd P t N) Stop m g U:=by
 refine .syn (QD.mu H I λ q a c G E=>?_);obtain⟨rfl,rfl⟩:=LP.word_idle E;rcases h q.cls G q.cls_le with⟨bs,es,z,B,w,k⟩|⟨F,bs,z,B,k⟩|⟨F,bs,z,B,k⟩
 .refine⟨_,bs,es,.idle,_,0,d,q.cls,Nat.le_refl _,z,SE.of_info (g:=g) B,E,Nat.le_refl _,rfl,rfl,λ e=>(by cases e),?_,?_,.inl rfl,k⟩
  .rcases w with rfl|rfl
   .simp
   .intro e w;simp at w;subst w;exact Ho O1
  .rcases w with rfl|rfl <;> rfl
 .exact⟨_,bs,_,.got,1,0,d,q.cls,Nat.le_refl _,z,SE.of_info (g:=g) B,LP.word_got E F,by simp[LP.cls],rfl,rfl,λ e=>(by cases e),by intro e w;simp at w;rcases w with rfl|rfl;exact Ho O1;exact P2 O1,rfl,.inl rfl,k⟩
 .exact⟨_,bs,_,.wai,9,0,d,q.cls,Nat.le_refl _,z,SE.of_info (g:=g) B,LP.word_wai E F,by simp[LP.cls],rfl,rfl,λ e=>(by cases e),by intro e w;simp at w;rcases w with rfl|rfl;exact Ho O1;exact P2 O1,rfl,.inl rfl,k⟩
def J.mwok(G:U.tok=⟨d,.wrk b D,some (.lok x s .wok lo)⟩)(F:g.status=.running)(h :
  (∃bs es,Jc x.m bs/\(Qc P x.t m g (Zg 2) (Qq 0)).info=some (Zg 2,Qq 0,es,bs)/\(es=#[]\/es=#[Ji x.m 0])/\J (Zd P t N) Stop m ((Qc P x.t m g (Zg 2) (Qq 0)).get g) (U.lk d b D x s .wok lo)) \/
  (∃bs,Jc x.m bs/\(Qc P x.t m g (Zg 2) (Qq 0)).info=some (Zg 1,Qq 0,#[Ji x.m 0,QA x.m 0],bs)/\J (Zd P t N) Stop m ((Qc P x.t m g (Zg 2) (Qq 0)).get g) (U.lk d b D x s .got lo))):J (Zd P t N) Stop m g U:=by
 refine .syn (QD.mu F G λ q a c E H=>?_);obtain⟨rfl,rfl,rfl⟩:q=.fin/\a=2/\c=0:=by cases q <;> simp_all[LP.word]
 rcases h with⟨bs,es,z,B,w,k⟩|⟨bs,z,B,k⟩
 .refine⟨_,bs,es,.wok,_,0,d,lo,E,z,SE.of_info (g:=g) B,H,Nat.le_refl _,rfl,rfl,λ e=>(by cases e),?_,?_,.inl rfl,k⟩
  .rcases w with rfl|rfl
   .simp
   .intro e w;simp at w;subst w;exact Ho O1
  .rcases w with rfl|rfl <;> rfl
 .exact⟨_,bs,_,.got,1,0,d,lo,E,z,SE.of_info (g:=g) B,rfl,by simp[LP.cls],rfl,rfl,λ e=>(by cases e),by intro e w;simp at w;rcases w with rfl|rfl;exact Ho O1;exact P2 O1,rfl,.inl rfl,k⟩
def J.mblk(E:U.tok=⟨d,.wrk b D,some (.lok x s .wai lo)⟩)(B:g.status=.running)(z:g.offers=none)(e:∀st,∃bs,Jc x.m bs/\Qc P x.t m g st (Qq 0)=.blocked { g with status:=.blocked } st (Qq 0) bs)
  {bs:List (Nat×Bool)} (w:Jc x.m bs) (h:(Qc P x.t m g (Zg 2) (Qq 1)).info=some (Zg 2,Qq 0,#[Z8 .disable,Ji x.m 1,QA x.m 1,Z8 .enable],bs)) (k:J (Zd P t N) Stop m ((Qc P x.t m g (Zg 2) (Qq 1)).get g) (U.lk d b D x s .wok 2)):J (Zd P t N) Stop m g U:=
 .syn (QD.mblk B z E e ⟨_,bs,w,SE.of_info (g:=g) h,k⟩)
def J.macq(e:U.tok=⟨0,.wrk b D,some (.lok x s .got lo)⟩)(h:(Qc P x.t m g undef undef).info=some (st,sm,#[Z8 (.acquire ⟨x.m,0,none⟩)],[]))
  (k:∀v M,x.sp (if s then v else false) (if s then false else v) M->J (Zd P t N) Stop m ((Qc P x.t m g undef undef).get g) { U with M:=U.M++M,tok:=⟨0,.wrk b D,some (.lok x s (.own v) lo)⟩ }):J (Zd P t N) Stop m g U:=
 .syn (QD.macq (Qo (SE.of_info (g:=g) h)) e Qg (Xl h rfl) k)
def J.mown{v:Bool}(z:U.tok=⟨d,.wrk b D,some (.lok x s (.own v) lo)⟩)(H:g.status=.running)(h:∀a,a=1\/a=9 ->
  ∃bs es,Jc x.m bs/\(Qc P x.t m g (Zg a) (Qq 0)).info=some (Zg a,Qq 0,es,bs)/\(es=#[]\/es=#[Ji x.m 0])/\J (Zd P t N) Stop m ((Qc P x.t m g (Zg a) (Qq 0)).get g) U):J (Zd P t N) Stop m g U:=by
 refine .syn (QD.mu H z λ q a c G I=>?_);obtain⟨B,rfl⟩:(a=1\/a=9)/\c=0:=by cases q <;> cases v <;> simp_all[LP.word]
 obtain⟨bs,es,E,F,w,k⟩:=h a B;refine⟨_,bs,es,.own v,_,0,d,lo,G,E,SE.of_info (g:=g) F,I,Nat.le_refl _,rfl,rfl,λ _=>rfl,?_,?_,.inl rfl,by rw[Qa.lk_self z];exact k⟩
 .rcases w with rfl|rfl
  .simp
  .intro e w;simp at w;subst w;exact Ho O1
 .rcases w with rfl|rfl <;> rfl
def J.mrel{v:Bool}{M₁ M₂:List Qw}(z:U.tok=⟨0,.wrk b D,some (.lok x s (.own v) lo)⟩)(w:U.M=M₁++M₂)(e:x.sp (if s then v else true) (if s then true else v) M₁)(h:(Qc P x.t m g undef undef).info=some (st,sm,#[Z8 (.releaseMerge ⟨x.m,0,none⟩)],[]))
  (k:J (Zd P t N) Stop m ((Qc P x.t m g undef undef).get g) { U with M:=M₂,tok:=⟨0,.wrk b D,some (.lok x s .rls lo)⟩ }):J (Zd P t N) Stop m g U:=
 .syn (QD.mrel (Qo (SE.of_info (g:=g) h)) z Qg w e (Xl h rfl) k)
def J.mrls(I:U.tok=⟨d,.wrk b D,some (.lok x s .rls lo)⟩)(H:g.status=.running)
  (F:∃bs,Jc x.m bs/\(Qc P x.t m g (Zg 1) (Qq 0)).info=some (Zg 0,Qq 0,#[Ji x.m 0,QA x.m 0],bs)/\J (Zd P t N) Stop m ((Qc P x.t m g (Zg 1) (Qq 0)).get g) (U.lk d b D x s .fin lo))
  (G:∃bs,Jc x.m bs/\(Qc P x.t m g (Zg 9) (Qq 0)).info=some (Zg 8,Qq 0,#[Ji x.m 0,QA x.m 0],bs)/\J (Zd P t N) Stop m ((Qc P x.t m g (Zg 9) (Qq 0)).get g) (U.lk d b D x s .unl lo)):J (Zd P t N) Stop m g U:=by
 refine .syn (QD.mu H I λ q a c E K=>?_);have h:∀e∈(#[Ji x.m 0,QA x.m 0]:Array Event),Pa x.m e:=by intro e h;simp at h;rcases h with rfl|rfl;exact Ho O1;exact P2 O1
 by_cases B:q=.wai
 .subst B;cases K;obtain⟨bs,w,z,k⟩:=G;exact⟨_,bs,_,.unl,8,0,d,lo,E,w,SE.of_info (g:=g) z,rfl,by simp[LP.cls],rfl,rfl,λ e=>(by cases e),h,rfl,.inl rfl,k⟩
 .obtain⟨rfl,rfl⟩:a=1/\c=0:=by cases q <;> simp_all[LP.word]
  obtain⟨bs,w,z,k⟩:=F;exact⟨_,bs,_,.fin,0,0,d,lo,E,w,SE.of_info (g:=g) z,by cases q <;> simp_all[LP.word],by simp[LP.cls],rfl,rfl,λ e=>(by cases e),h,rfl,.inl rfl,k⟩
def J.munl(G:U.tok=⟨d,.wrk b D,some (.lok x s .unl lo)⟩)(F:g.status=.running)
  (h:∃bs,Jc x.m bs/\(Qc P x.t m g (Zg 8) (Qq 0)).info=some (Zg 2,Qq 0,#[Ji x.m 0,QA x.m 0],bs)/\J (Zd P t N) Stop m ((Qc P x.t m g (Zg 8) (Qq 0)).get g) (U.lk d b D x s .unl2 lo)):J (Zd P t N) Stop m g U:=by
 refine .syn (QD.mu F G λ q a c E H=>?_);obtain⟨rfl,rfl,rfl⟩:q=.wai/\a=8/\c=0:=by cases q <;> simp_all[LP.word]
 obtain⟨bs,z,B,k⟩:=h;exact⟨_,bs,_,.unl2,2,0,d,lo,E,z,SE.of_info (g:=g) B,rfl,by simp[LP.cls],rfl,rfl,λ e=>(by cases e),by intro e w;simp at w;rcases w with rfl|rfl;exact Ho O1;exact P2 O1,rfl,.inl rfl,k⟩
def J.munl2(H:U.tok=⟨d,.wrk b D,some (.lok x s .unl2 lo)⟩)(G:g.status=.running)(w:mayWake P g=true)
  (h:∃bs,Jc x.m bs/\(Qc P x.t m g (Zg 2) (Qq 0)).info=some (Zg 2,Qq 1,#[Z8 .disable,Ji x.m 1,QA x.m 1,Z8 .enable],bs)/\J (Zd P t N) Stop m ((Qc P x.t m g (Zg 2) (Qq 0)).get g) (U.lk d b D x s .fin lo)):J (Zd P t N) Stop m g U:=by
 refine .syn (QD.mu G H λ q a c F I=>?_);obtain⟨rfl,rfl,rfl⟩:q=.wai/\a=2/\c=0:=by cases q <;> simp_all[LP.word]
 obtain⟨bs,B,E,k⟩:=h;exact⟨_,bs,_,.fin,2,1,d,lo,F,B,SE.of_info (g:=g) E,rfl,by simp[LP.cls],rfl,rfl,λ e=>(by cases e),by intro e z;simp at z;rcases z with rfl|rfl|rfl|rfl <;> first|exact .inl rfl|exact Ho O1|exact P2 O1,rfl,.inr (.inr w),k⟩
end Go.TM
namespace Go.TM
variable{P:Program}{T:Type}{S:Sys P T}{Stop:QJ T}{m:Bool}{g:Gr}{U:Qa T}
def NP(g:Gr):Option (FuncId×Array Value):=
 match g.frame.todo with
 |.inRegion ops (i::_)::_=>(match ops[i]? with
  |some o=>(match Region.wanted o (yielded ops g.frame.tmps)with
   |true=>(match o.op with
    |.call c=>(match c.callee with
     |.value (.func f)=>some (f,c.args.map g.frame.eval)
     |_=>none)
    |_=>none)
   |false=>none)
  |none=>none)
 |_=>none
def aft(g:Gr)(v:Value):Gr:={ g with frame:=g.frame.finish v }
structure WJ(P:Program)(g:Gr)(f:FuncId)(as:Array Value):Prop where
 run:g=Wr g.frame g.callers
 mode:(match g.frame.mode with|.run=>true|_=>false)=true
 kind:(g.frame.kind==.early)=false
 rnd:g.frame.roundOf.isNone=true
 at_:NP g=some (f,as)
def WJ.open{f:FuncId}{as:Array Value}(h:WJ P g f as):∃(b:Frame)(a:Act)(ops:Array Oper)(i:Nat)(rest:List Nat)(B:List Item)(cs:List Frame)(o:Oper)(z:Array TypeId)(xs:Array Operand),g=Go.Conc.G (b.at a (.inRegion ops (i::rest)::B)) cs/\ops[i]?=some o/\Region.wanted o (yielded ops a.tmps)=true/\b.kind≠.early /\
  o.op=.call { callee:=.value (.func f),args:=xs,argTypes:=z }/\xs.map a.eval=as/\∀v,aft g v=Go.Conc.G (b.at (a.put o.dst v) (.inRegion ops rest::B)) cs:=by
 obtain⟨F,H,E,I,w⟩:=h;obtain⟨fr,cs,st,dy,of⟩:=g;simp only[Wr,Goroutine.mk.injEq,true_and]at F;obtain⟨rfl,rfl,rfl⟩:=F;obtain⟨fn,tmps,todo,defers,mode,kind,ro⟩:=fr;simp only at H E I;obtain rfl:ro=none:=by cases ro <;> simp_all
 cases mode with
 |run=>
  unfold NP at w;simp only at w;split at w
  .rename_i ops i rest B;split at w
   .rename_i o ho;split at w
    .rename_i hw;split at w
     .rename_i c hop;obtain⟨cal,xs,z⟩:=c;simp only at w;split at w
      .cases w;refine⟨{ fn:=fn,tmps:=tmps,todo:=[],defers:=defers,mode:=.run,kind:=kind,roundOf:=none },⟨tmps,defers⟩,ops,i,rest,B,cs,o,z,xs,rfl,ho,hw,λ e=>?_,hop,?_,λ v=>?_⟩
       .simp only at e;rw[e]at E;cases E
       .congr 1
       .cases hd:o.dst <;> simp[aft,Go.Conc.G,Frame.at,Frame.finish,Act.put,ho,hd]
      .cases w
     .cases w
    .cases w
   .cases w
  .cases w
 |_=>cases H
def gV(U:Qa T)(w:World):ZV U w w.later U:=
 ⟨⟨w.tick,rfl⟩,rfl,rfl,Nat.le_refl _,λ _ c _ fr h=>⟨c,fr,h,rfl,λ _ _=>rfl,.inl rfl⟩,λ _ _ h _ _=>h,λ _ h=>.inl h,λ _ h=>.inl h⟩
def gU(U:Qa T)(w:World):ZV U w w.asked U:=
 ⟨.refl _,rfl,rfl,Nat.le_refl _,λ _ c _ fr h=>⟨c,fr,h,rfl,λ _ _=>rfl,.inl rfl⟩,λ _ _ h _ _=>h,λ _ h=>.inl h,λ _ h=>.inl h⟩
def J.nano{f:FuncId}{as:Array Value}{fn:Func}(h:WJ P g f as)(I:P.funcs[f]?=some fn)(e:(fn.name== "runtime.NumGoroutine")=false)(G:fn.body.isNone=true)(L:Extern.findNext fn=none)(H:Extern.find fn=some Extern.OsHooks.nano)(N:fn.norace=true)
  (k:∀n:Int,J S Stop m (aft g (.int .i64 n)) U):J S Stop m g U:=by
 obtain⟨b,a,ops,i,rest,T,cs,o,F,xs,E,M,Q,K,B,-,z⟩:=h.open;refine .priv ⟨by rw[E];rfl,λ w ok=>⟨_,w.later,#[],U,?_,S1,gV U w,⟨ok.imm,ok.held,ok.apart,ok.sep⟩,rfl,k ((w.os.mono+w.tick:Nat):Int)⟩⟩;rw[z,E];exact Go.Conc.stepG_nanotime M Q K B I e G L H N
def J.spin{f:FuncId}{k_0:IntKind}{n:Int}{fn:Func}(h:WJ P g f #[.int k_0 n])(K:P.funcs[f]?=some fn)(e:(fn.name== "runtime.NumGoroutine")=false)(H:fn.body.isNone=true)(M:Extern.findNext fn=none)(I:Extern.find fn=some Extern.Sync.canSpin)
  (G:n<4) (k:∀r:Bool,J S Stop m (aft g (.bool r)) U):J S Stop m g U:=by
 obtain⟨b,a,ops,i,rest,V,cs,o,F,xs,E,N,Q,L,B,T,z⟩:=h.open;refine .priv ⟨by rw[E];rfl,λ w ok=>⟨_,w.asked,#[],U,?_,S1,gU U w,⟨ok.imm,ok.held,ok.apart,ok.sep⟩,rfl,k w.spins⟩⟩;rw[z,E];exact Go.Conc.stepG_canSpin_ask N Q L B K e H M I T G
end Go.TM
namespace Go.TM
variable{P:Program}{t:TypeId}{N:Nat}{fn:FuncId}{Q:Ex->Act->Qa Tk->Prop}{a:Act}{U:Qa Tk}
def ef{ops:Array Oper}{i:Nat}{rest:List Nat}{o:Oper}{x:Operand}{xs:Array Operand}{G:Array TypeId}{g:FuncId}{first e:Array Value}{b:Nat}{ds:List Spec}{D:Spec}{Up Uc:Qa Tk}
  (Y:ops[i]?=some o) (hw:Region.wanted o (yielded ops a.tmps)=true) (W:o.op=.go { callee:=.value x,args:=xs,argTypes:=G }) (hx:a.eval x=.func (.func g) first e)
  {mu L Z:Option ZS} (ht:U.tok=⟨0,.par b ds true .run,mu⟩) (hf:H_ U Up Uc) (hp:Up.tok=⟨0,.par b (D::ds) false .run,L⟩) (hc:Uc.tok=⟨0,.wrk b D,Z⟩) (V:Ot mu L Z)
  (hk:∀Stop,J (Zd P t N) Stop false (P3 P { target:=.fn (.func g) e,args:=first++xs.map a.eval }) Uc) (hq:QU (Zd P t N) fn none ops rest Q (a.put o.dst undef) Up) :
  QU (Zd P t N) fn none ops (i::rest) Q a U:=by
 intro Stop m w k cs M S;refine .syn (QD.go (X:=J (Zd P t N) Stop) (g':=R w (a.put o.dst undef) (.inRegion ops rest::k) cs) rfl ht ?_ hf hp hc V (hq Stop m w k cs M S) (hk Stop));have T:w.kind≠.early:=M.2.2.1;have F:w.roundOf=none:=M.2.1;have E:=O4 w a (.inRegion ops (i::rest)::k);have z:=GD (b:=w) (a:=a) (k:=k) (rest:=rest) Y undef
 have K:execOp a.eval o=(do let d <- resolve a.eval { callee:=.value x,args:=xs,argTypes:=G } o.type;pure (.spawn d):Sem Next):=by
  unfold execOp;rw[W]
 have I:QB P t (execOp a.eval o) undef undef #[] []=.ok (.spawn { target:=.fn (.func g) e,args:=first++xs.map a.eval }) undef undef #[] []:=by
  rw[K];simp only[resolve,hx,Deferred.ofValue];rfl
 show Qc P t m (R w a (.inRegion ops (i::rest)::k) cs) undef undef=_;unfold Qc R;simp only[fr];unfold Pt;simp only[Y,hw,F];simp only[fr]at E;rw[F]at E;rw[E,I];unfold XQ;have:∀(kd:CallKind)(A B:SE),kd≠.early->(match kd with|.early=>A|_=>B)=B:=by intro kd A B h;cases kd <;> first|rfl|exact absurd rfl h
 simp only;cases H:w.kind with
 |early=>exact absurd H T
 |_=>
  simp only[VE,Og,isEmpty_nil,Bool.and_self,cond_true,De,Wr];simp only[fr,F,H]at z ⊢;rw[z]
end Go.TM
namespace Go.TM
def ZN(n m:Nat):Nat:=if m=1/\n % 4=0 then 29 else[31,28,31,30,31,30,31,31,30,31,30,31].getD m 0
def ZA(n:Nat):Nat:=n / 4*1461+n % 4*365+min 1 (n % 4)
def W9(n:Nat):Nat->Nat
 |0=>0
 |m+1=>W9 n m+ZN n m
def Wt(k:Nat):Nat:=ZA (k / 12)+W9 (k / 12) (k % 12)
def ZL(k:Nat):Nat:=ZN (k / 12) (k % 12)
def dT(n:Nat):ZA (n+1)=ZA n+W9 n 12:=by
 unfold ZA;simp only[W9,ZN];rcases Nat.lt_or_ge 0 (n % 4)with h|h
 .have:¬n % 4=0:=O1
  simp[this];omega
 .have:n % 4=0:=O1
  simp[this];omega
def Od{n m:Nat}(h:m<12):28<=ZN n m/\ZN n m<=31:=by
 unfold ZN;split
 .omega
 .have:∀m,m<12->28<=[31,28,31,30,31,30,31,31,30,31,30,31].getD m 0/\[31,28,31,30,31,30,31,31,30,31,30,31].getD m 0<=31:=D1
  exact this m h
def O5(k:Nat):28<=ZL k/\ZL k<=31:=Od (Nat.mod_lt _ O1)
def G4(k:Nat):Wt (k+1)=Wt k+ZL k:=by
 unfold Wt ZL;rcases Nat.lt_or_ge (k % 12) 11 with h|h
 .rw[show(k+1) / 12=k / 12 by omega,show(k+1) % 12=k % 12+1 by omega];simp only[W9];omega
 .rw[show(k+1) / 12=k / 12+1 by omega,show(k+1) % 12=0 by omega,show k % 12=11 by omega,dT];simp only[W9];omega
def GF{a b:Nat}(h:a<=b):Wt a<=Wt b:=by
 induction b with
 |zero=>rw[Nat.le_zero.mp h];exact Nat.le_refl _
 |succ b e=>
  rcases Nat.lt_or_ge b a with l|l
  .rw[show a=b+1 by omega];exact Nat.le_refl _
  .have:=e l;rw[G4];omega
def TU:Wt 1200=36525:=D1
def X0(k d c:Nat):Nat:=if 1200<=k+c then 36524 else Wt (k+c)+min (d+1) (ZL (k+c))-1
def EO(k d c:Nat):X0 k d c<=36524:=by
 unfold X0;split
 .exact Nat.le_refl _
 .have h:=GF (a:=k+c+1) (b:=1200) O1;rw[TU,G4]at h;have:=O5 (k+c);omega
def gA{k d c k' d' w:Nat}(E:d<ZL k)(z:d'<ZL k')(h:Wt k+d<=Wt k'+d')(B:c<=w):X0 k d c<=X0 k' d' w:=by
 have F:k<=k':=by
  rcases Nat.lt_or_ge k' k with l|l
  .have:=GF (a:=k'+1) (b:=k) l;rw[G4]at this;omega
  .exact l
 rcases Nat.lt_or_ge (k'+w) 1200 with l|l
 .rcases Nat.lt_or_ge (k+c) (k'+w)with m|m
  .have h1:=GF (a:=k+c+1) (b:=k'+w) m;rw[G4]at h1;have:=O5 (k+c);have:=O5 (k'+w);unfold X0;rw[if_neg O1,if_neg O1];omega
  .have e:k=k':=O1
   subst e;have e:c=w:=O1
   subst e;unfold X0;rw[if_neg O1,if_neg O1];omega
 .have:=EO k d c;rw[show X0 k' d' w=36524 by unfold X0;rw[if_pos l]];exact this
def kP(n:Nat)(h:n<36525):∃k d,k<1200/\d<ZL k/\n=Wt k+d:=by
 have key:∀j,∀n<Wt j,∃k d,k<j/\d<ZL k/\n=Wt k+d:=by
  intro j
  induction j with
  |zero=>intro n h;exact absurd h (by show ¬n<0;omega)
  |succ j b=>
   intro n h;rcases Nat.lt_or_ge n (Wt j)with l|l
   .obtain⟨k,d,h1,h2⟩:=b n l;exact⟨k,d,O1,h2⟩
   .rw[G4]at h;exact⟨j,n-Wt j,O1,O1,O1⟩
 exact key 1200 n (by rw[TU];exact h)
def NT(o:Nat->Bool):Nat->Nat->Nat
 |0,_=>36524
 |f+1,d=>if o d then d else NT o f (d+1)
def QC(o:Nat->Bool)(d:Nat):Nat:=NT o (36525-d) d
def Db{o:Nat->Bool}{d:Nat}(h:d<=36524):QC o d=if o d then d else QC o (d+1):=by
 unfold QC;rw[show 36525-d=36525-(d+1)+1 by omega];rfl
def OB(o:Nat->Bool){d:Nat}(h:36524<d):QC o d=36524:=by
 unfold QC;rw[show 36525-d=0 by omega];rfl
def Dh{o:Nat->Bool}:∀{n d:Nat},d+n=36525->QC o d<=36524/\(d<=36524->d<=QC o d)
 |0,d,h=>by rw[OB o O1];omega
 |n+1,d,h=>by
  have:=Dh (o:=o) (n:=n) (d:=d+1) O1;rw[Db O1];split
  .omega
  .refine⟨this.1,λ _=>?_⟩;rcases Nat.lt_or_ge d 36524 with l|l
   .have:=this.2 O1;omega
   .rw[OB o O1];omega
def dj{o:Nat->Bool}{d:Nat}(h:d<=36524):QC o d<=36524:=(Dh (o:=o) (n:=36525-d) (d:=d) O1).1
def sY{o:Nat->Bool}{a b:Nat}(h:a<=b)(w:b<=36524):QC o a<=QC o b:=by
 obtain⟨n,rfl⟩:∃n,b=a+n:=⟨b-a,O1⟩
 induction n with
 |zero=>exact Nat.le_refl _
 |succ n e=>
  refine Nat.le_trans (e O1 O1) ?_;rw[Db (d:=a+n) O1];split
  .have:=(Dh (o:=o) (n:=36525-(a+(n+1))) (d:=a+(n+1)) O1).2 O1;omega
  .exact Nat.le_refl _
def Xw(u s c k d:Nat):Nat:=if u=0 then min 36524 (s+c)else if u=1 then min 36524 (s+c*7)else X0 k d c
def UT(u s c k d:Nat):Xw u s c k d<=36524:=by
 unfold Xw;split
 .omega
 .split
  .omega
  .exact EO k d c
def gY{u s c k d e w k' d':Nat}(F:s=Wt k+d)(E:e=Wt k'+d')(B:d<ZL k)(b:d'<ZL k')(h:s<=e)(z:c<=w):Xw u s c k d<=Xw u e w k' d':=by
 unfold Xw;split
 .omega
 .split
  .omega
  .exact gA B b O1 z
def kR{o:Nat->Bool}{u s c k d w z k' d':Nat}(F:s=Wt k+d)(e:w=Wt k'+d')(E:d<ZL k)(b:d'<ZL k')(h:s<=w)(B:c<=z):QC o (Xw u s c k d)<=QC o (Xw u w z k' d'):=
 sY (gY F e E b h B) (UT ..)
end Go.TM

