/- Lemmas. No conditions. -/
import Derived.Conc.ClockLaws
import Derived.Test.YtnjljnhoaafkiaaGreatDoorB01
import Derived.Test.YtnjljnhoaafkiaaGreatDoorB10
set_option linter.all false
open List
namespace Go.TM
variable{P:Program}{t:TypeId}{m:Bool}{n N b d:Nat}{g g':Gr}{l bs:List (Nat×Bool)}{U:Qa Tk}{Stop:QI Tk}{p:Ph}{st sm:Value}{es:Array Event}{v:SE}
section
open Go.Conc (QuitsD)
def JL(P:Program)(t:TypeId)(m:Bool):Nat->Gr->Option (Gr×List (Nat×Bool))
 |0,g=>some (g,[])
 |n+1,g=>match g.status,Qc P t m g undef undef with
  |.running,.go g' _ _ es bs=>bif es.isEmpty&&bs.all (!·.2)then(JL P t m n g').map (λ x=>(x.1,bs++x.2))else none
  |_,_=>none
def Qj(P:Program)(t:TypeId)(m:Bool)(n:Nat)(g:Gr):Gr:=match JL P t m n g with|some x=>x.1|none=>g
def Qm(P:Program)(t:TypeId)(m:Bool)(n:Nat)(g:Gr):Option (List (Nat×Bool)):=(JL P t m n g).map (·.2)
def Pz(h:JL P t m (n+1) g=some (g',l)) :
  ∃b bs l',g.status=.running/\(∀st sm,Qc P t m g st sm=.go b st sm #[] bs)/\JL P t m n b=some (g',l')/\l=bs++l':=by
 simp only[JL]at h;split at h
 .rename_i b st' sm' es bs hs hst;cases w:es.isEmpty&&bs.all (!·.2)with
  |false=>rw[w]at h;cases h
  |true=>
   rw[w]at h;simp only[cond_true]at h;obtain⟨⟨h2,l'⟩,B,E⟩:=Option.map_eq_some_iff.1 h;cases E;simp only[Bool.and_eq_true,Array.isEmpty_iff]at w;obtain⟨rfl,hb⟩:=w;obtain⟨-,f⟩:=Ft _ _ _ _ _ _ _ hst hb;exact⟨b,bs,l',hs,f,B,rfl⟩
 .cases h
def Pf(h:Qm P t m n g=some l):JL P t m n g=some (Qj P t m n g,l):=by
 unfold Qm at h;obtain⟨⟨g',l'⟩,h1,rfl⟩:=Option.map_eq_some_iff.1 h;simp only[Qj,h1]
def IY{b:Nat}(hb:U.tok.ph.blk=some b):∀{n:Nat}{g g':Gr}{l:List (Nat×Bool)},JL P t m n g=some (g',l)->Z5 b l->J (Za P t N) Stop m g' U->J (Za P t N) Stop m g U
 |0,g,g',l,h,_,k=>by simp only[JL,Option.some.injEq,Prod.mk.injEq]at h;rw[h.1];exact k
 |n+1,g,g',l,h,hl,k=>by
  obtain⟨w,bs,l',E,f,B,rfl⟩:=Pz h;exact .syn (QC.quiet E hb f (λ y hy=>hl y (mem_append_left _ hy)) (IY hb B (λ y hy=>hl y (mem_append_right _ hy)) k))
def J.calm(hb:U.tok.ph.blk=some b)(h:Qm P t m n g=some l)(hl:Z5 b l)(k:J (Za P t N) Stop m (Qj P t m n g) U):J (Za P t N) Stop m g U:=
 IY hb (Pf h) hl k
def Dg{b d k:Nat}{p:Ph}:∀{n:Nat}{g g':Gr}{l:List (Nat×Bool)},JL P t false n g=some (g',l)->Z5 b l->Tl P t N b k d p g'->Tl P t N b (n+k) d p g
 |0,g,g',l,h,_,q=>by simp only[JL,Option.some.injEq,Prod.mk.injEq]at h;rw[Nat.zero_add,h.1];exact q
 |n+1,g,g',l,h,hl,q=>by
  obtain⟨f,bs,l',E,w,B,rfl⟩:=Pz h;rw[show n+1+k=(n+k)+1 by omega];exact⟨E,.inl ⟨f,#[],bs,S1,λ y hy=>hl y (mem_append_left _ hy),w,Dg B (λ y hy=>hl y (mem_append_right _ hy)) q⟩⟩
def Tl.calm{k:Nat}(h:Qm P t false n g=some l)(hl:Z5 b l)(q:Tl P t N b k d p (Qj P t false n g)):Tl P t N b (n+k) d p g:=
 Dg (Pf h) hl q
def Em{d k:Nat}:∀{n:Nat}{g g':Gr},JL P t false n g=some (g',[])->QuitsD P k d g'->QuitsD P (n+k) d g
 |0,g,g',h,q=>by simp only[JL,Option.some.injEq,Prod.mk.injEq]at h;rw[Nat.zero_add,h.1];exact q
 |n+1,g,g',h,q=>by
  obtain⟨b,bs,l',E,f,B,hl⟩:=Pz h;have:bs=[]/\l'=[]:=by simpa using hl.symm
  obtain⟨rfl,rfl⟩:=this;rw[show n+1+k=(n+k)+1 by omega];exact .inr ⟨E,b,#[],S1,λ w=>Om (f undef undef) w,Em B q⟩
def Zd{k:Nat}(h:Qm P t false n g=some [])(q:QuitsD P k d (Qj P t false n g)):QuitsD P (n+k) d g:=Em (Pf h) q
def jx(b:g.status=.running)(h:Qc P t false g undef undef=.go g' st sm es [])(hm:∀e∈es,Event.mute e=true)(q:QuitsD P N (deafBehind d es) g'):QuitsD P (N+1) d g:=
 .inr ⟨b,g',es,hm,λ w=>Om h w,q⟩
def SE.info:SE->Option (Value×Value×Array Event×List (Nat×Bool))
 |.go _ st sm es bs=>some (st,sm,es,bs)
 |_=>none
def SE.of_info(h:v.info=some (st,sm,es,bs)):v=.go (v.get g) st sm es bs:=by
 cases v <;> simp only[SE.info,Option.some.injEq,Prod.mk.injEq,reduceCtorEq]at h;obtain⟨rfl,rfl,rfl,rfl⟩:=h;rfl
def W4(h:(Qc P t m g undef undef).info=some (st,sm,es,bs))(hf:bs.all (!·.2)=true):∀st sm,Qc P t m g st sm=.go ((Qc P t m g undef undef).get g) st sm es bs:=
 (Ft _ _ _ _ _ _ _ (SE.of_info h) hf).2
def Tl.mute{b d n:Nat}{p:Ph}{g:Gr}{st sm:Value}{es:Array Event}{bs:List (Nat×Bool)}(h:(Qc P t false g undef undef).info=some (st,sm,es,bs))(hf:bs.all (!·.2)=true)(hb:Z5 b bs)
  (hm:∀e∈es,Event.mute e=true) (k:Tl P t N b n (deafBehind d es) p ((Qc P t false g undef undef).get g)):Tl P t N b (n+1) d p g:=
 ⟨Qn (SE.of_info (g:=g) h),.inl ⟨_,es,bs,hm,hb,W4 h hf,k⟩⟩
def J5(h:(Qc P t false g undef undef).info=some (st,sm,es,[]))(hm:∀e∈es,Event.mute e=true)(q:QuitsD P b (deafBehind d es) ((Qc P t false g undef undef).get g)):QuitsD P (b+1) d g:=
 jx (Qn (SE.of_info (g:=g) h)) (SE.of_info h) hm q
def Jr:∀{n d k:Nat}{g:Gr},QuitsD P n d g->QuitsD P (n+k) d g
 |0,d,k,g,h=>by cases k with|zero=>exact h|succ k=>exact .inl h
 |n+1,d,k,g,h=>by
  rw[show n+1+k=(n+k)+1 by omega];exact h.imp id λ⟨f,g',es,hm,b,q⟩=>⟨f,g',es,hm,b,Jr q⟩
end
variable{y z s pend:Bool}{ds:List Spec}{k_0:PS}{mu:Option ZO}
def Qe:Z5 b []:=λ _ h=>by cases h
def Q3:Z5 b [(b,m),(b,y)]:=λ z h=>by simp at h;rcases h with rfl|rfl <;> rfl
def Zs:Z5 b [(b,m)]:=λ z h=>by simp at h;subst h;rfl
def Jp:Z5 b [(b,m),(b,y),(b,z),(b,s)]:=λ v h=>by simp at h;rcases h with rfl|rfl|rfl|rfl <;> rfl
def J.dis(ht:U.tok=⟨d,.par b ds pend k_0,mu⟩)(h:(Qc P t m g undef undef).info=some (st,sm,#[Z0 .disable],[]))(k:J (Za P t N) Stop m ((Qc P t m g undef undef).get g) (U.at (d+1) (.par b ds pend k_0))):J (Za P t N) Stop m g U:=
 .syn (QC.dis (Qn (SE.of_info (g:=g) h)) ht (W4 h rfl) Qe k)
def J.ena(ht:U.tok=⟨d+1,.par b ds pend k_0,mu⟩)(h:(Qc P t m g undef undef).info=some (st,sm,#[Z0 .enable],[]))(k:J (Za P t N) Stop m ((Qc P t m g undef undef).get g) (U.at d (.par b ds pend k_0))):J (Za P t N) Stop m g U:=
 .syn (QC.ena (Qn (SE.of_info (g:=g) h)) ht (W4 h rfl) Qe k)
def J.said(wr:Bool)(ht:U.tok=⟨1,.par b ds pend k_0,mu⟩)(h:(Qc P t m g undef undef).info=some (st,sm,#[Z0 (bif wr then .write ⟨b,1,none⟩else .read ⟨b,1,none⟩)],[]))(k:J (Za P t N) Stop m ((Qc P t m g undef undef).get g) U):J (Za P t N) Stop m g U:=
 .syn (QC.said (wr:=wr) (Qn (SE.of_info (g:=g) h)) ht (W4 h rfl) Qe k)
def J.acq(ht:U.tok=⟨0,.par b ds false .up,none⟩)(h:(Qc P t m g undef undef).info=some (st,sm,#[Z0 (.acquire ⟨b,0,none⟩)],[]))(k:∀f,JM ds f->J (Za P t N) Stop m ((Qc P t m g undef undef).get g) ((U.with f.flatten).at 0 .out)):J (Za P t N) Stop m g U:=
 .syn (QC.acq (Qn (SE.of_info (g:=g) h)) ht Qe (W4 h rfl) k)
def J.acqM{x:QW}{u:Bool->Bool}(ht:U.tok=⟨0,.par b ds false .up,some (.par x u)⟩)(h:(Qc P t m g undef undef).info=some (st,sm,#[Z0 (.acquire ⟨b,0,none⟩)],[]))(k:∀f M,JM ds f->x.sp (u false) (u true) M->J (Za P t N) Stop m ((Qc P t m g undef undef).get g) { U with M:=(U.M++f.flatten)++M,tok:=⟨0,.out,none⟩ }):J (Za P t N) Stop m g U:=
 .syn (QC.acqM (Qn (SE.of_info (g:=g) h)) ht Qe (W4 h rfl) k)
def J.add(ht:U.tok=⟨1,.par b ds false .run,mu⟩)(w:ds.length<N)(h:∀c,c<=ds.length->(Qc P t m g (Q0 c 0) (Qp 0)).info=some (Q0 (c+1) 0,Qp 0,#[Jc b 0,QA b 0],[(b,true),(b,true)]) /\
  J (Za P t N) Stop m ((Qc P t m g (Q0 c 0) (Qp 0)).get g) (U.at 1 (.par b ds true .run))):J (Za P t N) Stop m g U:=
 .syn (QC.add (Qn (SE.of_info (g:=g) (h 0 (Nat.zero_le _)).1)) ht w λ c f=>⟨_,_,SE.of_info (g:=g) (h c f).1,Q3,(h c f).2⟩)
def J.load{u:Nat}(ht:U.tok=⟨1,.par b ds false k_0,mu⟩)(w:Hq ds u k_0)(h:∀c,c<=u->(Qc P t m g (Q0 c 0) (Qp 0)).info=some (Q0 c 0,Qp 0,#[Jc b 0],[(b,true)]) /\
  (J (Za P t N) Stop m ((Qc P t m g (Q0 c 0) (Qp 0)).get g) (U.at 1 (.par b ds false (.seen c)))\/(c=0/\J (Za P t N) Stop m ((Qc P t m g (Q0 c 0) (Qp 0)).get g) (U.at 1 (.par b ds false .up))))):J (Za P t N) Stop m g U:=
 .syn (QC.look (Qn (SE.of_info (g:=g) (h 0 (Nat.zero_le _)).1)) ht w λ c f=>⟨_,_,Zs,.inl ⟨SE.of_info (g:=g) (h c f).1,(h c f).2⟩⟩)
def J.look2{bs:List (Nat×Bool)}(ht:U.tok=⟨1,.par b ds false .up,mu⟩)(hb:Z5 b bs)(h:(Qc P t m g (Q0 0 0) (Qp 0)).info=some (Q0 0 0,Qp 0,#[Jc b 0],bs))(k:J (Za P t N) Stop m ((Qc P t m g (Q0 0 0) (Qp 0)).get g) U):J (Za P t N) Stop m g U:=
 .syn (QC.look2 (Qn (SE.of_info (g:=g) h)) ht hb (SE.of_info (g:=g) h) k)
def Zc:Z5 b [(b,m),(b,y),(b,z)]:=λ v h=>by simp at h;rcases h with rfl|rfl|rfl <;> rfl
def Df:∀{n:Nat}{g g':Gr},JL P t m n g=some (g',[])->J (Za P t N) Stop m g' U->J (Za P t N) Stop m g U
 |0,g,g',h,k=>by simp only[JL,Option.some.injEq,Prod.mk.injEq]at h;rw[h.1];exact k
 |n+1,g,g',h,k=>by
  obtain⟨f,bs,l',E,b,B,hl⟩:=Pz h;have:bs=[]/\l'=[]:=by simpa using hl.symm
  obtain⟨rfl,rfl⟩:=this;exact J.still E (λ w=>Om (b undef undef) w) (Df B k)
def J.calm0(h:Qm P t m n g=some [])(k:J (Za P t N) Stop m (Qj P t m n g) U):J (Za P t N) Stop m g U:=Df (Pf h) k
def J.cas{u:Nat}(ht:U.tok=⟨1,.par b ds false k_0,mu⟩)(w:Hq ds u k_0)(B:g.status=.running)(h:∀c,c<=u ->
  (∃bs,Z5 b bs/\(Qc P t m g (Q0 c 0) (Qp 0)).info=some (Q0 c 0,Qp 0,#[Jc b 0],bs)/\J (Za P t N) Stop m ((Qc P t m g (Q0 c 0) (Qp 0)).get g) (U.at 1 (.par b ds false (.seen c)))) \/
  (1<=c/\∃bs,Z5 b bs/\(Qc P t m g (Q0 c 0) (Qp 0)).info=some (Q0 c 1,Qp 0,#[Jc b 0,QA b 0],bs)/\J (Za P t N) Stop m ((Qc P t m g (Q0 c 0) (Qp 0)).get g) (U.at 1 (.par b ds false .wait)))):J (Za P t N) Stop m g U:=
 .syn (QC.look B ht w λ c f=>by
  rcases h c f with⟨bs,hb,hi,k⟩|⟨h1,bs,hb,hi,k⟩
  .exact⟨_,bs,hb,.inl ⟨SE.of_info (g:=g) hi,.inl k⟩⟩
  .exact⟨_,bs,hb,.inr ⟨h1,SE.of_info (g:=g) hi,k⟩⟩)
def XN:∀{n:Nat}{l:List Nat},l.Nodup->(∀x∈l,x<n)->l.length<=n
 |0,l,_,h=>by
  cases l with
  |nil=>simp
  |cons a l=>exact absurd (h a S1) O1
 |n+1,l,b,h=>by
  have h1:(l.erase n).length<=n:=XN (b.erase n) λ x hx=>by
   have h2:=h x (mem_of_mem_erase hx);have f:=(b.mem_erase_iff.1 hx).1;omega
  have w:l.length<=(l.erase n).length+1:=by
   by_cases hm:n∈l
   .rw[length_erase_of_mem hm];omega
   .rw[erase_of_not_mem hm];omega
  omega
def Z4(l:List Nat):Nat:=l.foldl (λ d k=>d||| (1<<<k)) 0
def PU(i k:Nat):(1<<<i).testBit k=decide (k=i):=by
 rw[Nat.one_shiftLeft,Nat.testBit_two_pow];by_cases h:i=k
 .subst h;simp
 .simp[h,Ne.symm h]
def BI(l:List Nat):∀(d k:Nat),(l.foldl (λ d k=>d||| (1<<<k)) d).testBit k=(d.testBit k|| l.contains k):=by
 induction l with
 |nil=>simp
 |cons a l b=>
  intro d k;rw[foldl_cons,b,Nat.testBit_or,PU];by_cases h:k=a
  .subst h;simp
  .simp[h,Ne.symm h]
def Wv(l:List Nat)(k:Nat):(Z4 l).testBit k=l.contains k:=by simp[Z4,BI]
section
variable(A:List (List Nat))
def Jf(i:Nat):List Nat:=A.getD i []
def WG(d i:Nat):Nat:=if(Jf A i).all (λ k=>d.testBit k)then d||| (1<<<i)else d
def LO(d:Nat):Nat:=(range A.length).foldl (WG A) d
def JK:Nat->Nat
 |0=>0
 |k+1=>LO A (JK k)
def Wy:Bool:=decide (JK A A.length≠2^A.length-1)
def WE(two:Nat):Nat->Nat->Bool
 |0,_=>false
 |s+1,one=>(Jf A one).any λ k=>k==two|| WE two s k
def Gw:Bool:=(range A.length).any λ i=>WE A i A.length i
structure ZI(d:Nat)(L:List Nat):Prop where
 bit:∀k,d.testBit k=true↔k∈L
 low:∀k∈L,k<A.length
 nod:L.Nodup
 aft:∀(X Y:List Nat)x,L=X++x::Y->∀k∈Jf A x,k∈Y
end
variable{i:Nat}{L:List Nat}
section
variable(A:List (List Nat))
variable{A}
def ZI.nil:ZI A 0 []:=⟨S1,S1,.nil,λ X Y x h=>by cases X <;> cases h⟩
def ZI.step(h:ZI A d L)(hi:i<A.length):∃f,ZI A (WG A d i) f/\(f=L\/f=i::L)/\(i∈f\/∃k∈Jf A i,k∉L):=by
 unfold WG;by_cases hm:i∈L
 .refine⟨L,?_,.inl rfl,.inl hm⟩;split
  .refine⟨λ k=>?_,h.low,h.nod,h.aft⟩;rw[Nat.testBit_or,Bool.or_eq_true,PU,h.bit];constructor
   .rintro(h1|h1)
    .exact h1
    .simp at h1;subst h1;exact hm
   .exact .inl
  .exact h
 .by_cases ha:(Jf A i).all (λ k=>d.testBit k)=true
  .rw[if_pos ha];rw[all_eq_true]at ha;refine⟨i::L,⟨λ k=>?_,?_,nodup_cons.2 ⟨hm,h.nod⟩,?_⟩,.inr rfl,.inl S1⟩
   .rw[Nat.testBit_or,Bool.or_eq_true,PU,h.bit,mem_cons];constructor
    .rintro(h1|h1)
     .exact .inr h1
     .exact .inl (by simpa using h1)
    .rintro(h1|h1)
     .exact .inr (by simpa using h1)
     .exact .inl h1
   .intro k b;rcases mem_cons.1 b with rfl|b
    .exact hi
    .exact h.low k b
   .intro X Y x e k b;cases X with
    |nil=>
     simp only[nil_append,List.cons.injEq]at e;obtain⟨rfl,rfl⟩:=e;exact(h.bit k).1 (ha k b)
    |cons y X=>
     simp only[cons_append,List.cons.injEq]at e;exact h.aft X Y x e.2 k b
  .rw[if_neg ha];refine⟨L,h,.inl rfl,.inr ?_⟩
   have:∃k∈Jf A i,¬d.testBit k=true:=by
    apply Classical.byContradiction;intro F;apply ha;rw[all_eq_true];intro k b;apply Classical.byContradiction;intro w;exact F ⟨k,b,w⟩
   obtain⟨k,b,E⟩:=this;exact⟨k,b,λ B=>E ((h.bit k).2 B)⟩
def ZI.fold:∀{l:List Nat}{d:Nat}{L:List Nat},ZI A d L->(∀i∈l,i<A.length)->∃f,ZI A (l.foldl (WG A) d) f/\L.length<=f.length/\(f.length=L.length->f=L/\∀i∈l,i∈L\/∃k∈Jf A i,k∉L)
 |[],d,L,h,_=>⟨L,h,Nat.le_refl _,λ _=>⟨rfl,S1⟩⟩
 |i::l,d,L,h,hl=>by
  obtain⟨L₁,h1,h2,B⟩:=h.step (hl i S1);obtain⟨L₂,E,w,F⟩:=ZI.fold (l:=l) h1 λ j b=>hl j (by simp[b]);refine⟨L₂,E,?_,λ e=>?_⟩
  .rcases h2 with rfl|rfl
   .exact w
   .simp at w;omega
  .rcases h2 with rfl|rfl
   .obtain⟨rfl,k4⟩:=F e;refine⟨rfl,λ j b=>?_⟩;rcases mem_cons.1 b with rfl|b
    .exact B
    .exact k4 j b
   .simp at w;omega
def ZI.round(h:ZI A d L):∃b,ZI A (LO A d) b/\L.length<=b.length/\(b.length=L.length->b=L/\∀i,i<A.length->i∈L\/∃k∈Jf A i,k∉L):=by
 obtain⟨b,h1,h2,f⟩:=ZI.fold (l:=range A.length) h S1;exact⟨b,h1,h2,λ e=>⟨(f e).1,λ i hi=>(f e).2 i (by simpa using hi)⟩⟩
def ZI.rounds(n:Nat):∃L,ZI A (JK A n) L/\(n<=L.length\/∀i,i<A.length->i∈L\/∃k∈Jf A i,k∉L):=by
 induction n with
 |zero=>exact⟨[],.nil,.inl S1⟩
 |succ n G=>
  obtain⟨L,h1,h2⟩:=G;obtain⟨w,I,Q,P⟩:=h1.round;refine⟨w,I,?_⟩;by_cases e:w.length=L.length
  .obtain⟨rfl,k4⟩:=P e;exact .inr k4
  .rcases h2 with h2|h2
   .exact .inl O1
   .exfalso
    have:∀(l:List Nat)(d:Nat) , (∀i∈l,i<A.length)->(∀k,d.testBit k=true↔k∈L)->∀k,((l.foldl (WG A) d).testBit k=true↔k∈L):=by
     intro l
     induction l with
     |nil=>exact λ d _ h k=>h k
     |cons i l H=>
      intro d hl B;refine H _ (λ j M=>hl j (by simp[M])) λ k=>?_;unfold WG;split
      .rename_i ha;rw[all_eq_true]at ha;rcases h2 i (hl i S1)with hi|⟨k',E,b⟩
       .rw[Nat.testBit_or,Bool.or_eq_true,PU,B];constructor
        .rintro(h|h)
         .exact h
         .simp at h;subst h;exact hi
        .exact .inl
       .exact absurd ((B k').1 (ha k' E)) b
      .exact B k
    have hb:=this (range A.length) (JK A n) S1 h1.bit;have f:∀x∈w,x∈L:=λ x hx=>(hb x).1 ((I.bit x).2 hx)
    have N:w.length<=L.length:=by
     have:∀{X Y:List Nat},X.Nodup->(∀x∈X,x∈Y)->X.length<=Y.length:=by
      intro X
      induction X with
      |nil=>intro Y _ _;simp
      |cons a X G=>
       intro Y b K;obtain⟨ha,b⟩:=nodup_cons.1 b;have hm:=K a S1
       have:=G (Y:=Y.erase a) b λ x hx=>by
        have F:x≠a:=λ e=>ha (e▸hx);exact(mem_erase_of_ne F).2 (K x (by simp[hx]))
       rw[length_erase_of_mem hm]at this;have:0<Y.length:=length_pos_of_mem hm;simp only[length_cons];omega
     exact this I.nod f
    omega
def Fl{two:Nat}:∀{s b one:Nat},s<=b->WE A two s one=true->WE A two b one=true
 |0,_,_,_,h=>by simp[WE]at h
 |s+1,0,_,w,_=>O1
 |s+1,b+1,one,w,h=>by
  simp only[WE,any_eq_true,Bool.or_eq_true]at h ⊢;obtain⟨k,f,h⟩:=h;exact⟨k,f,h.imp id (Fl O1)⟩
def ZI.must{d:Nat}{L:List Nat}(h:ZI A d L){two:Nat}:∀(s:Nat)(X Y:List Nat)(x:Nat),L=X++x::Y->WE A two s x=true->two∈Y
 |0,_,_,_,_,hm=>by simp[WE]at hm
 |s+1,X,Y,x,e,hm=>by
  simp only[WE,any_eq_true,Bool.or_eq_true,beq_iff_eq]at hm;obtain⟨k,f,hm⟩:=hm;have b:=h.aft X Y x e k f;rcases hm with rfl|hm
  .exact b
  .obtain⟨Y1,Y2,rfl⟩:=append_of_mem b;have:=ZI.must h s (X++x::Y1) Y2 k (by rw[e];simp) hm;simp[this]
def gA(U:∀i,i<A.length->∀k∈Jf A i,k<A.length):Wy A=Gw A:=by
 obtain⟨L,hL,w⟩:=ZI.rounds (A:=A) A.length
 have B:(JK A A.length=2^A.length-1)↔∀i,i<A.length->i∈L:=by
  constructor
  .intro e i hi;rw[<- hL.bit,e,Nat.testBit_two_pow_sub_one];simpa using hi
  .intro h;refine Nat.eq_of_testBit_eq λ i=>?_;rw[Nat.testBit_two_pow_sub_one];by_cases hi:i<A.length
   .rw[(hL.bit i).2 (h i hi)];simp[hi]
   .have:¬(JK A A.length).testBit i=true:=λ hb=>hi (hL.low i ((hL.bit i).1 hb));simp only[Bool.not_eq_true]at this;rw[this];simp[hi]
 have key:Gw A=true↔¬ ∀i,i<A.length->i∈L:=by
  unfold Gw;rw[any_eq_true];constructor
  .rintro⟨i,hi,hm⟩ hall;have P:i<A.length:=by simpa using hi
   obtain⟨X,Y,e⟩:=append_of_mem (hall i P);have V:=hL.must _ X Y i e hm;have M:=hL.nod;rw[e,nodup_append]at M;exact(nodup_cons.1 M.2.1).1 V
  .intro M
   obtain⟨Z,H,K⟩:∃i,i<A.length/\i∉L:=by
    apply Classical.byContradiction;intro h;exact M λ i hi=>Classical.byContradiction λ hm=>h ⟨i,hi,hm⟩
   have w:∀i,i<A.length->i∉L->∃k,k∈Jf A i/\k∉L:=by
    intro i hi hm;rcases w with w|w
    .exfalso
     have h1:=XN (n:=A.length) (l:=i::L) (nodup_cons.2 ⟨hm,hL.nod⟩) (by
      intro x hx;rcases mem_cons.1 hx with rfl|hx
      .exact hi
      .exact hL.low x hx)
     simp at h1;omega
    .exact(w i hi).resolve_left hm
   let f:Nat->Nat:=λ i=>if h:i<A.length/\i∉L then Classical.choose (w i h.1 h.2)else i
   have hf:∀i,i<A.length->i∉L->f i∈Jf A i/\f i∉L/\f i<A.length:=by
    intro i h1 h2;have F:=Classical.choose_spec (w i h1 h2);have T:f i=Classical.choose (w i h1 h2):=by simp only[f];rw[dif_pos ⟨h1,h2⟩]
    rw[<- T]at F;exact⟨F.1,F.2,U i h1 _ F.1⟩
   let g:Nat->Nat:=λ n=>Nat.rec Z (λ _ x=>f x) n
   have gs:∀n,g (n+1)=f (g n):=λ n=>rfl
   have G:∀n,g n<A.length/\g n∉L:=by
    intro n
    induction n with
    |zero=>exact⟨H,K⟩
    |succ n E=>rw[gs];exact⟨(hf _ E.1 E.2).2.2,(hf _ E.1 E.2).2.1⟩
   obtain⟨a,b,W,hb,e⟩:∃a b,a<b/\b<=A.length/\g a=g b:=by
    apply Classical.byContradiction;intro Q
    have I:∀n,n<=A.length+1->((range n).map g).Nodup:=by
     intro n
     induction n with
     |zero=>intro _;simp
     |succ n E=>
      intro M;rw[range_succ,map_append,nodup_append];refine⟨E O1,S1,?_⟩;intro x hx y hy N;obtain⟨j,S,rfl⟩:=mem_map.1 hx;simp at hy S;subst hy;exact Q ⟨j,n,S,O1,N⟩
    have h1:=XN (I (A.length+1) (Nat.le_refl _)) (n:=A.length) (by
     intro x hx;obtain⟨j,_,rfl⟩:=mem_map.1 hx;exact(G j).1)
    simp at h1;omega
   have hp:∀n a,WE A (g (a+n+1)) (n+1) (g a)=true:=by
    intro n
    induction n with
    |zero=>
     intro a;simp only[WE,any_eq_true,Bool.or_false,beq_iff_eq];exact⟨g (a+1),(hf _ (G a).1 (G a).2).1,rfl⟩
    |succ n E=>
     intro a;rw[WE,any_eq_true];refine⟨g (a+1),(hf _ (G a).1 (G a).2).1,?_⟩;rw[Bool.or_eq_true];right;have:=E (a+1)
     rwa [show a+1+n+1=a+(n+1)+1 by omega]at this
   refine⟨g a,by simpa using(G a).1,?_⟩;obtain⟨n,rfl⟩:∃n,b=a+n+1:=⟨b-a-1,O1⟩;have:=hp n a;rw[<- e]at this;exact Fl O1 this
 unfold Wy;by_cases h:∀i,i<A.length->i∈L
 .have h1:=B.2 h;have h2:¬Gw A=true:=λ F=>(key.1 F) h;simp only[Bool.not_eq_true]at h2;rw[h2,h1];simp
 .have h1:JK A A.length≠2^A.length-1:=λ e=>h (B.1 e);rw[key.2 h];simp[h1]
def Dr(h:Wy A=false):∃L,ZI A (JK A A.length) L/\∀i,i<A.length->i∈L:=by
 obtain⟨L,hL,-⟩:=ZI.rounds (A:=A) A.length;refine⟨L,hL,λ i hi=>?_⟩;unfold Wy at h;have h:JK A A.length=2^A.length-1:=by simpa using h
 rw[<- hL.bit,h,Nat.testBit_two_pow_sub_one];simpa using hi
end
variable{α:Type}{c:List α}{w:α}{af:List Nat}
def parts:List α->Nat->List (List α)
 |_,0=>[[]]
 |[],_+1=>[]
 |a::l,m+1=>(parts l m).map (a::·)++parts l (m+1)
def P9(l:List α):parts l 0=[[]]:=by cases l <;> rfl
def G8:∀{l:List α}{m:Nat}{p:List α},p∈parts l m↔p.Sublist l/\p.length=m
 |l,0,p=>by
  rw[P9,mem_singleton];constructor
  .rintro rfl;exact⟨nil_sublist _,rfl⟩
  .rintro⟨_,h⟩;exact eq_nil_of_length_eq_zero h
 |[],m+1,p=>by
  simp only[parts,not_mem_nil,false_iff];rintro⟨h,hl⟩;rw[sublist_nil.1 h]at hl;cases hl
 |a::l,m+1,p=>by
  simp only[parts,mem_append,mem_map];constructor
  .rintro(⟨q,hq,rfl⟩|h)
   .obtain⟨h1,h2⟩:=G8.1 hq;exact⟨h1.cons_cons a,by simp[h2]⟩
   .obtain⟨h1,h2⟩:=G8.1 h;exact⟨h1.cons a,h2⟩
  .rintro⟨h,hl⟩;cases h with
   |cons _ h=>exact .inr (G8.2 ⟨h,hl⟩)
   |cons_cons _ h=>exact .inl ⟨_,G8.2 ⟨h,by simpa using hl⟩,rfl⟩
def Ds{m:Nat}(h:c[i]?=some w):parts (c.drop i) (m+1)=(parts (c.drop (i+1)) m).map (w::·)++parts (c.drop (i+1)) (m+1):=by
 obtain⟨hi,rfl⟩:=List.getElem?_eq_some_iff.1 h;rw[drop_eq_getElem_cons hi];rfl
def IA(h:c.length<=i):parts (c.drop i) (b+1)=[]:=by
 rw[drop_eq_nil_of_le h];rfl
def pG(h:∀k∈af,k<n):Z4 af<2^n:=by
 refine Nat.lt_pow_two_of_testBit _ λ i hi=>?_;rw[Wv];have:i∉af:=λ hm=>by have:=h i hm;omega
 simpa using this
section
variable(A:List (List Nat))(out:Nat->Bool)
def QN:Nat->Nat->Nat->Bool
 |0,i,k=>(Jf A i).contains k
 |s+1,i,k=>(Jf A i).contains k|| (Jf A i).any λ o=>out o&&QN s o k
def WS(af:List Nat)(i k:Nat):List Nat:=if(af.getD i 0).testBit k&&out k then af.set i (af.getD i 0||| af.getD k 0)else af
def H_(n:Nat)(af:List Nat)(i:Nat):List Nat:=(range n).foldl (λ af k=>WS out af i k) af
def Me(n:Nat)(af:List Nat):List Nat:=(range n).foldl (λ af i=>H_ out n af i) af
def GP(n:Nat):Nat->List Nat->List Nat
 |0,af=>af
 |s+1,af=>GP n s (Me out n af)
end
section
variable(A:List (List Nat))(out:Nat->Bool)
variable{A out}
def VQ:QN A out (b+1) i N=true↔(Jf A i).contains N=true\/∃o,o∈Jf A i/\out o=true/\QN A out b o N=true:=by
 rw[QN,Bool.or_eq_true,any_eq_true];simp only[Bool.and_eq_true]
def VR(h:(Jf A i).contains N=true):QN A out b i N=true:=by
 cases b <;> simp only[QN,h,Bool.true_or]
def Pi:∀{s b i k:Nat},s<=b->QN A out s i k=true->QN A out b i k=true
 |0,b,_,_,_,h=>VR h
 |s+1,0,_,_,h,_=>O1
 |s+1,b+1,i,k,h,hb=>by
  simp only[QN,Bool.or_eq_true,any_eq_true,Bool.and_eq_true]at hb ⊢;exact hb.imp id λ⟨o,h1,h2,f⟩=>⟨o,h1,h2,Pi O1 f⟩
def Fh:∀{s b i o k:Nat},QN A out s i o=true->out o=true->QN A out b o k=true->QN A out (s+b+1) i k=true
 |0,b,i,o,k,h1,h2,f=>by
  rw[Nat.zero_add,VQ];exact .inr ⟨o,by simpa[QN]using h1,h2,f⟩
 |s+1,b,i,o,k,h1,h2,f=>by
  rw[show s+1+b+1=(s+b+1)+1 by omega,VQ];rcases VQ.1 h1 with h1|⟨x,h,w,B⟩
  .exact .inr ⟨o,by simpa using h1,h2,Pi O1 f⟩
  .exact .inr ⟨x,h,w,Fh B h2 f⟩
def Fg{d:Nat}{L:List Nat}(h:ZI A d L):∀{s i k:Nat}(X Y:List Nat),L=X++i::Y->QN A out s i k=true->QN A out Y.length i k=true
 |0,i,k,X,Y,_,hb=>Pi (Nat.zero_le _) hb
 |s+1,i,k,X,Y,e,hb=>by
  simp only[QN,Bool.or_eq_true,any_eq_true,Bool.and_eq_true]at hb;rcases hb with hb|⟨o,b,f,w⟩
  .exact VR hb
  .obtain⟨Y1,Y2,rfl⟩:=append_of_mem (h.aft X Y i e o b);have:=Fg h (X++i::Y1) Y2 (by rw[e];simp) w;refine Pi (s:=Y2.length+1) S1 ?_;simp only[QN,Bool.or_eq_true,any_eq_true,Bool.and_eq_true];exact .inr ⟨o,b,f,this⟩
structure ZX(n:Nat)(A:List (List Nat))(out:Nat->Bool)(r:Nat)(af:List Nat):Prop where
 len:af.length=n
 sound:∀i,i<n->∀k,(af.getD i 0).testBit k=true->∃s,QN A out s i k=true
 full:∀i,i<n->∀k,QN A out r i k=true->(af.getD i 0).testBit k=true
def K_(hi:i<af.length):(af.set i N).getD b 0=if b=i then N else af.getD b 0:=by
 rw[getD_eq_getElem?_getD,getElem?_set];by_cases e:i=b
 .subst e;simp[hi]
 .simp[e,Ne.symm e]
def ZX.one(h:ZX n A out N af)(hi:i<n)(f:d<n):ZX n A out N (WS out af i d):=by
 unfold WS;split
 .rename_i hc;rw[Bool.and_eq_true]at hc;have hl:i<af.length:=by rw[h.len];exact hi
  refine⟨by simpa using h.len,λ j b x hx=>?_,λ j b x hx=>?_⟩
  .rw[K_ hl]at hx;split at hx
   .rename_i e;subst e;rw[Nat.testBit_or,Bool.or_eq_true]at hx;rcases hx with hx|hx
    .exact h.sound j b x hx
    .obtain⟨s,h1⟩:=h.sound j hi d hc.1;obtain⟨w,h2⟩:=h.sound d f x hx;exact⟨_,Fh h1 hc.2 h2⟩
   .exact h.sound j b x hx
  .rw[K_ hl];have:=h.full j b x hx;split
   .rename_i e;subst e;rw[Nat.testBit_or,this,Bool.true_or]
   .exact this
 .exact h
def Xl(n:Nat)(af b:List Nat):Prop:=b.length=af.length/\∀i,i<n->∀k,(af.getD i 0).testBit k=true->(b.getD i 0).testBit k=true
def Xl.refl(n:Nat)(af:List Nat):Xl n af af:=⟨rfl,λ _ _ _ h=>h⟩
def Xl.trans{n:Nat}{a b c:List Nat}(h:Xl n a b)(k:Xl n b c):Xl n a c:=⟨k.1.trans h.1,λ i hi x hx=>k.2 i hi x (h.2 i hi x hx)⟩
def vF{k:Nat}(hl:af.length=n)(hi:i<n):Xl n af (WS out af i k):=by
 unfold WS;split
 .refine⟨S1,λ j b x hx=>?_⟩;rw[K_ O1];split
  .rename_i e;subst e;rw[Nat.testBit_or,hx,Bool.true_or]
  .exact hx
 .exact .refl ..
def LL{n r i:Nat}(hi:i<n):∀{l:List Nat}{af:List Nat},(∀k∈l,k<n)->ZX n A out r af ->
  ZX n A out r (l.foldl (λ af k=>WS out af i k) af)/\Xl n af (l.foldl (λ af k=>WS out af i k) af) /\
  ∀o∈l,(af.getD i 0).testBit o=true->out o=true->∀x,(af.getD o 0).testBit x=true->((l.foldl (λ af k=>WS out af i k) af).getD i 0).testBit x=true
 |[],af,_,h=>⟨h,.refl ..,S1⟩
 |k::l,af,hl,h=>by
  have G:=hl k S1;have h1:=h.one (i:=i) hi G;have w:=vF (out:=out) (k:=k) h.len hi;obtain⟨h2,B,E⟩:=LL (l:=l) hi (λ j F=>hl j (by simp[F])) h1;refine⟨h2,w.trans B,λ o f hb b x hx=>?_⟩;rcases mem_cons.1 f with rfl|f
  .refine B.2 i hi x ?_;unfold WS;rw[if_pos (by rw[hb,b];rfl),K_ (by rw[h.len];exact hi),if_pos rfl,Nat.testBit_or,hx,Bool.or_true]
  .exact E o f (w.2 i hi o hb) b x (w.2 o (hl o (by simp[f])) x hx)
def LM{n r:Nat}(G:∀i,i<n->∀k∈Jf A i,k<n){b:List Nat}(w:ZX n A out r b):∀{l:List Nat}{af:List Nat},(∀k∈l,k<n)->ZX n A out r af->Xl n b af ->
  ZX n A out r (l.foldl (λ af i=>H_ out n af i) af)/\Xl n af (l.foldl (λ af i=>H_ out n af i) af) /\
  ∀i∈l,∀x,QN A out (r+1) i x=true->((l.foldl (λ af i=>H_ out n af i) af).getD i 0).testBit x=true
 |[],af,_,h,_=>⟨h,.refl ..,S1⟩
 |i::l,af,hl,h,K=>by
  have hi:=hl i S1;obtain⟨h1,E,L⟩:=LL (l:=range n) hi S1 h;obtain⟨h2,F,M⟩:=LM G w (l:=l) (λ j f=>hl j (by simp[f])) h1 (K.trans E);refine⟨h2,E.trans F,λ j f x hx=>?_⟩;rcases mem_cons.1 f with rfl|f
  .refine F.2 j hi x ?_;simp only[QN,Bool.or_eq_true,any_eq_true,Bool.and_eq_true]at hx;rcases hx with hx|⟨o,B,H,I⟩
   .exact h1.full j hi x (VR hx)
   .have ho:=G j hi o B;exact L o (by simpa using ho) (h.full j hi o (VR (by simpa using B))) H x (h.full o ho x I)
  .exact M j f x hx
def ZX.round(b:∀i,i<n->∀k∈Jf A i,k<n)(h:ZX n A out N af):ZX n A out (N+1) (Me out n af):=by
 obtain⟨h1,w,f⟩:=LM b h (l:=range n) S1 h (.refl ..);exact⟨h1.len,h1.sound,λ i hi x hx=>f i (by simpa using hi) x hx⟩
def ZX.rounds{n:Nat}(b:∀i,i<n->∀k∈Jf A i,k<n):∀{s r:Nat}{af:List Nat},ZX n A out r af->ZX n A out (r+s) (GP out n s af)
 |0,r,af,h=>h
 |s+1,r,af,h=>by
  have:=ZX.rounds b (s:=s) (h.round b);rw[show r+(s+1)=r+1+s by omega];exact this
def ZX.start:ZX A.length A out 0 (A.map Z4):=by
 have key:∀i,i<A.length->(A.map Z4).getD i 0=Z4 (Jf A i):=by
  intro i hi;simp[getD_eq_getElem?_getD,Jf,hi]
 refine⟨S1,λ i hi k b=>⟨0,?_⟩,λ i hi k b=>?_⟩
 .rw[key i hi,Wv]at b;exact b
 .rw[key i hi,Wv];exact b
def kr(f:∀i,i<A.length->∀k∈Jf A i,k<A.length)(hl:Wy A=false){k:Nat}(hi:i<A.length) :
  ((GP out A.length A.length (A.map Z4)).getD i 0).testBit k=QN A out A.length i k:=by
 have h:=ZX.rounds (out:=out) f (s:=A.length) ZX.start;rw[Nat.zero_add]at h;obtain⟨L,hL,b⟩:=Dr hl;rw[Bool.eq_iff_iff];constructor
 .intro hb;obtain⟨s,w⟩:=h.sound i hi k hb;obtain⟨X,Y,e⟩:=append_of_mem (b i hi);have:=Fg hL X Y e w;refine Pi ?_ this;have h1:=XN hL.nod hL.low;rw[e]at h1;simp at h1;omega
 .exact h.full i hi k
end
variable{q me:LP}{D:Spec}{x:QW}{lo:Nat}{f fn:FuncId}{as first:Array Value}{T:Type}{S:Sys P T}{e:QI T}{j:IntKind}{u:Int}{Q:Ex->Act->Qa Tk->Prop}{a:Act}{ops:Array Oper}{o:Oper}{xs:Array Operand}{H:Array TypeId}{Up Uc:Qa Tk}{M mc:Option ZO}
def wI(c:Nat):Nat:=if c=1 then 1 else 0
def LP.cls_le(q:LP):q.cls<=2:=by cases q <;> simp[LP.cls]
def LP.word_idle(h:LP.word .idle q=some (b,N)):b=wI q.cls/\N=0:=by
 cases q with
 |own v=>cases v <;> simp_all[LP.word,LP.cls,wI]
 |_=>first|(simp_all[LP.word,LP.cls,wI];done)|(simp[LP.word,LP.cls,wI]at h ⊢;omega)
def LP.word_got(h:LP.word .idle q=some (N,d))(b:q.cls≠1):LP.word .got q=some (1,0):=by
 cases q <;> simp_all[LP.word,LP.cls]
def LP.word_wai(h:LP.word .idle q=some (N,d))(b:q.cls=1):LP.word .wai q=some (9,0):=by
 cases q with
 |own v=>cases v <;> simp_all[LP.word,LP.cls]
 |_=>simp_all[LP.word,LP.cls]
def XT(h:b<2):GG n (Jc n b):=.inr ⟨b,false,h,rfl⟩
def Gx(h:b<2):GG n (QA n b):=.inr ⟨b,true,h,rfl⟩
def IZ(ht:U.tok=⟨d,.wrk b D,some (.lok x s me lo)⟩):∀{n:Nat}{g g':Gr}{l:List (Nat×Bool)},JL P x.t m n g=some (g',l)->Z5 x.m l->J (Za P t N) Stop m g' U->J (Za P t N) Stop m g U
 |0,g,g',l,h,_,k=>by simp only[JL,Option.some.injEq,Prod.mk.injEq]at h;rw[h.1];exact k
 |n+1,g,g',l,h,hl,k=>by
  obtain⟨f,bs,l',G,w,E,rfl⟩:=Pz h;have B:=IZ ht E (λ y hy=>hl y (mem_append_right _ hy)) k;refine .syn (QC.mu G ht λ q st sm F H=>⟨f,bs,#[],me,st,sm,d,lo,F,λ y hy=>hl y (mem_append_left _ hy),w _ _,H,Nat.le_refl _,rfl,rfl,λ _=>rfl,S1,rfl,.inl rfl,?_⟩);rw[Qa.lk_self ht];exact B
def J.mcalm(ht:U.tok=⟨d,.wrk b D,some (.lok x s me lo)⟩)(h:Qm P x.t m n g=some l)(hl:Z5 x.m l)(k:J (Za P t N) Stop m (Qj P x.t m n g) U):J (Za P t N) Stop m g U:=
 IZ ht (Pf h) hl k
def J.mdis(ht:U.tok=⟨d,.wrk b D,some (.lok x s me lo)⟩)(h:(Qc P x.t m g undef undef).info=some (st,sm,#[Z0 .disable],[]))(k:J (Za P t N) Stop m ((Qc P x.t m g undef undef).get g) (U.lk (d+1) b D x s me lo)):J (Za P t N) Stop m g U:=
 .syn (QC.mu (Qn (SE.of_info (g:=g) h)) ht λ q st sm w B=>⟨_,[],_,me,st,sm,d+1,lo,w,Qe,W4 h rfl _ _,B,Nat.le_refl _,rfl,rfl,λ _=>rfl,by intro e f;simp at f;subst f;exact .inl rfl,rfl,.inl rfl,k⟩)
def J.mena(ht:U.tok=⟨d+1,.wrk b D,some (.lok x s me lo)⟩)(h:(Qc P x.t m g undef undef).info=some (st,sm,#[Z0 .enable],[]))(k:J (Za P t N) Stop m ((Qc P x.t m g undef undef).get g) (U.lk d b D x s me lo)):J (Za P t N) Stop m g U:=
 .syn (QC.mu (Qn (SE.of_info (g:=g) h)) ht λ q st sm w B=>⟨_,[],_,me,st,sm,d,lo,w,Qe,W4 h rfl _ _,B,Nat.le_refl _,rfl,rfl,λ _=>rfl,by intro e f;simp at f;subst f;exact .inl rfl,rfl,.inl rfl,k⟩)
def J.midle(ht:U.tok=⟨d,.wrk b D,some (.lok x s .idle lo)⟩)(F:g.status=.running)(h:∀c,lo<=c->c<=2 ->
  (∃bs es,Z5 x.m bs/\(Qc P x.t m g (Zb (wI c)) (Qp 0)).info=some (Zb (wI c),Qp 0,es,bs)/\(es=#[]\/es=#[Jc x.m 0])/\J (Za P t N) Stop m ((Qc P x.t m g (Zb (wI c)) (Qp 0)).get g) (U.lk d b D x s .idle c)) \/
  (c≠1/\∃bs,Z5 x.m bs/\(Qc P x.t m g (Zb (wI c)) (Qp 0)).info=some (Zb 1,Qp 0,#[Jc x.m 0,QA x.m 0],bs)/\J (Za P t N) Stop m ((Qc P x.t m g (Zb (wI c)) (Qp 0)).get g) (U.lk d b D x s .got c)) \/
  (c=1/\∃bs,Z5 x.m bs/\(Qc P x.t m g (Zb (wI c)) (Qp 0)).info=some (Zb 9,Qp 0,#[Jc x.m 0,QA x.m 0],bs)/\J (Za P t N) Stop m ((Qc P x.t m g (Zb (wI c)) (Qp 0)).get g) (U.lk d b D x s .wai c))):J (Za P t N) Stop m g U:=by
 refine .syn (QC.mu F ht λ q a c E w=>?_);obtain⟨rfl,rfl⟩:=LP.word_idle w;rcases h q.cls E q.cls_le with⟨bs,es,hb,hi,f,k⟩|⟨B,bs,hb,hi,k⟩|⟨B,bs,hb,hi,k⟩
 .refine⟨_,bs,es,.idle,_,0,d,q.cls,Nat.le_refl _,hb,SE.of_info (g:=g) hi,w,Nat.le_refl _,rfl,rfl,λ e=>(by cases e),?_,?_,.inl rfl,k⟩
  .rcases f with rfl|rfl
   .simp
   .intro e f;simp at f;subst f;exact XT O1
  .rcases f with rfl|rfl <;> rfl
 .exact⟨_,bs,_,.got,1,0,d,q.cls,Nat.le_refl _,hb,SE.of_info (g:=g) hi,LP.word_got w B,by simp[LP.cls],rfl,rfl,λ e=>(by cases e),by intro e f;simp at f;rcases f with rfl|rfl;exact XT O1;exact Gx O1,rfl,.inl rfl,k⟩
 .exact⟨_,bs,_,.wai,9,0,d,q.cls,Nat.le_refl _,hb,SE.of_info (g:=g) hi,LP.word_wai w B,by simp[LP.cls],rfl,rfl,λ e=>(by cases e),by intro e f;simp at f;rcases f with rfl|rfl;exact XT O1;exact Gx O1,rfl,.inl rfl,k⟩
def J.mwok(ht:U.tok=⟨d,.wrk b D,some (.lok x s .wok lo)⟩)(B:g.status=.running)(h :
  (∃bs es,Z5 x.m bs/\(Qc P x.t m g (Zb 2) (Qp 0)).info=some (Zb 2,Qp 0,es,bs)/\(es=#[]\/es=#[Jc x.m 0])/\J (Za P t N) Stop m ((Qc P x.t m g (Zb 2) (Qp 0)).get g) (U.lk d b D x s .wok lo)) \/
  (∃bs,Z5 x.m bs/\(Qc P x.t m g (Zb 2) (Qp 0)).info=some (Zb 1,Qp 0,#[Jc x.m 0,QA x.m 0],bs)/\J (Za P t N) Stop m ((Qc P x.t m g (Zb 2) (Qp 0)).get g) (U.lk d b D x s .got lo))):J (Za P t N) Stop m g U:=by
 refine .syn (QC.mu B ht λ q a c w E=>?_);obtain⟨rfl,rfl,rfl⟩:q=.fin/\a=2/\c=0:=by cases q <;> simp_all[LP.word]
 rcases h with⟨bs,es,hb,hi,f,k⟩|⟨bs,hb,hi,k⟩
 .refine⟨_,bs,es,.wok,_,0,d,lo,w,hb,SE.of_info (g:=g) hi,E,Nat.le_refl _,rfl,rfl,λ e=>(by cases e),?_,?_,.inl rfl,k⟩
  .rcases f with rfl|rfl
   .simp
   .intro e f;simp at f;subst f;exact XT O1
  .rcases f with rfl|rfl <;> rfl
 .exact⟨_,bs,_,.got,1,0,d,lo,w,hb,SE.of_info (g:=g) hi,rfl,by simp[LP.cls],rfl,rfl,λ e=>(by cases e),by intro e f;simp at f;rcases f with rfl|rfl;exact XT O1;exact Gx O1,rfl,.inl rfl,k⟩
def J.mblk(ht:U.tok=⟨d,.wrk b D,some (.lok x s .wai lo)⟩)(w:g.status=.running)(h:g.offers=none)(f:∀st,∃bs,Z5 x.m bs/\Qc P x.t m g st (Qp 0)=.blocked { g with status:=.blocked } st (Qp 0) bs)
  {bs:List (Nat×Bool)} (hb:Z5 x.m bs) (h1:(Qc P x.t m g (Zb 2) (Qp 1)).info=some (Zb 2,Qp 0,#[Z0 .disable,Jc x.m 1,QA x.m 1,Z0 .enable],bs)) (k:J (Za P t N) Stop m ((Qc P x.t m g (Zb 2) (Qp 1)).get g) (U.lk d b D x s .wok 2)):J (Za P t N) Stop m g U:=
 .syn (QC.mblk w h ht f ⟨_,bs,hb,SE.of_info (g:=g) h1,k⟩)
def J.macq(ht:U.tok=⟨0,.wrk b D,some (.lok x s .got lo)⟩)(h:(Qc P x.t m g undef undef).info=some (st,sm,#[Z0 (.acquire ⟨x.m,0,none⟩)],[]))
  (k:∀v M,x.sp (if s then v else false) (if s then false else v) M->J (Za P t N) Stop m ((Qc P x.t m g undef undef).get g) { U with M:=U.M++M,tok:=⟨0,.wrk b D,some (.lok x s (.own v) lo)⟩ }):J (Za P t N) Stop m g U:=
 .syn (QC.macq (Qn (SE.of_info (g:=g) h)) ht Qe (W4 h rfl) k)
def J.mown(ht:U.tok=⟨d,.wrk b D,some (.lok x s (.own y) lo)⟩)(B:g.status=.running)(h:∀a,a=1\/a=9 ->
  ∃bs es,Z5 x.m bs/\(Qc P x.t m g (Zb a) (Qp 0)).info=some (Zb a,Qp 0,es,bs)/\(es=#[]\/es=#[Jc x.m 0])/\J (Za P t N) Stop m ((Qc P x.t m g (Zb a) (Qp 0)).get g) U):J (Za P t N) Stop m g U:=by
 refine .syn (QC.mu B ht λ q a c w E=>?_);obtain⟨ha,rfl⟩:(a=1\/a=9)/\c=0:=by cases q <;> cases y <;> simp_all[LP.word]
 obtain⟨bs,es,hb,hi,f,k⟩:=h a ha;refine⟨_,bs,es,.own y,_,0,d,lo,w,hb,SE.of_info (g:=g) hi,E,Nat.le_refl _,rfl,rfl,λ _=>rfl,?_,?_,.inl rfl,by rw[Qa.lk_self ht];exact k⟩
 .rcases f with rfl|rfl
  .simp
  .intro e f;simp at f;subst f;exact XT O1
 .rcases f with rfl|rfl <;> rfl
def J.mrel{v:Bool}{M₁ M₂:List Qw}(ht:U.tok=⟨0,.wrk b D,some (.lok x s (.own v) lo)⟩)(w:U.M=M₁++M₂)(f:x.sp (if s then v else true) (if s then true else v) M₁)(h:(Qc P x.t m g undef undef).info=some (st,sm,#[Z0 (.releaseMerge ⟨x.m,0,none⟩)],[]))
  (k:J (Za P t N) Stop m ((Qc P x.t m g undef undef).get g) { U with M:=M₂,tok:=⟨0,.wrk b D,some (.lok x s .rls lo)⟩ }):J (Za P t N) Stop m g U:=
 .syn (QC.mrel (Qn (SE.of_info (g:=g) h)) ht Qe w f (W4 h rfl) k)
def J.mrls(ht:U.tok=⟨d,.wrk b D,some (.lok x s .rls lo)⟩)(E:g.status=.running)
  (h1:∃bs,Z5 x.m bs/\(Qc P x.t m g (Zb 1) (Qp 0)).info=some (Zb 0,Qp 0,#[Jc x.m 0,QA x.m 0],bs)/\J (Za P t N) Stop m ((Qc P x.t m g (Zb 1) (Qp 0)).get g) (U.lk d b D x s .fin lo))
  (B:∃bs,Z5 x.m bs/\(Qc P x.t m g (Zb 9) (Qp 0)).info=some (Zb 8,Qp 0,#[Jc x.m 0,QA x.m 0],bs)/\J (Za P t N) Stop m ((Qc P x.t m g (Zb 9) (Qp 0)).get g) (U.lk d b D x s .unl lo)):J (Za P t N) Stop m g U:=by
 refine .syn (QC.mu E ht λ q a c w F=>?_);have f:∀e∈(#[Jc x.m 0,QA x.m 0]:Array Event),GG x.m e:=by intro e f;simp at f;rcases f with rfl|rfl;exact XT O1;exact Gx O1
 by_cases h:q=.wai
 .subst h;cases F;obtain⟨bs,hb,hi,k⟩:=B;exact⟨_,bs,_,.unl,8,0,d,lo,w,hb,SE.of_info (g:=g) hi,rfl,by simp[LP.cls],rfl,rfl,λ e=>(by cases e),f,rfl,.inl rfl,k⟩
 .obtain⟨rfl,rfl⟩:a=1/\c=0:=by cases q <;> simp_all[LP.word]
  obtain⟨bs,hb,hi,k⟩:=h1;exact⟨_,bs,_,.fin,0,0,d,lo,w,hb,SE.of_info (g:=g) hi,by cases q <;> simp_all[LP.word],by simp[LP.cls],rfl,rfl,λ e=>(by cases e),f,rfl,.inl rfl,k⟩
def J.munl(ht:U.tok=⟨d,.wrk b D,some (.lok x s .unl lo)⟩)(B:g.status=.running)
  (h:∃bs,Z5 x.m bs/\(Qc P x.t m g (Zb 8) (Qp 0)).info=some (Zb 2,Qp 0,#[Jc x.m 0,QA x.m 0],bs)/\J (Za P t N) Stop m ((Qc P x.t m g (Zb 8) (Qp 0)).get g) (U.lk d b D x s .unl2 lo)):J (Za P t N) Stop m g U:=by
 refine .syn (QC.mu B ht λ q a c w E=>?_);obtain⟨rfl,rfl,rfl⟩:q=.wai/\a=8/\c=0:=by cases q <;> simp_all[LP.word]
 obtain⟨bs,hb,hi,k⟩:=h;exact⟨_,bs,_,.unl2,2,0,d,lo,w,hb,SE.of_info (g:=g) hi,rfl,by simp[LP.cls],rfl,rfl,λ e=>(by cases e),by intro e f;simp at f;rcases f with rfl|rfl;exact XT O1;exact Gx O1,rfl,.inl rfl,k⟩
def J.munl2(ht:U.tok=⟨d,.wrk b D,some (.lok x s .unl2 lo)⟩)(E:g.status=.running)(f:mayWake P g=true)
  (h:∃bs,Z5 x.m bs/\(Qc P x.t m g (Zb 2) (Qp 0)).info=some (Zb 2,Qp 1,#[Z0 .disable,Jc x.m 1,QA x.m 1,Z0 .enable],bs)/\J (Za P t N) Stop m ((Qc P x.t m g (Zb 2) (Qp 0)).get g) (U.lk d b D x s .fin lo)):J (Za P t N) Stop m g U:=by
 refine .syn (QC.mu E ht λ q a c B F=>?_);obtain⟨rfl,rfl,rfl⟩:q=.wai/\a=2/\c=0:=by cases q <;> simp_all[LP.word]
 obtain⟨bs,hb,hi,k⟩:=h;exact⟨_,bs,_,.fin,2,1,d,lo,B,hb,SE.of_info (g:=g) hi,rfl,by simp[LP.cls],rfl,rfl,λ e=>(by cases e),by intro e w;simp at w;rcases w with rfl|rfl|rfl|rfl <;> first|exact .inl rfl|exact XT O1|exact Gx O1,rfl,.inr (.inr f),k⟩
def LX(g:Gr):Option (FuncId×Array Value):=
 match g.frame.todo with
 |.inRegion ops (i::_)::_=>(match ops[i]? with
  |some o=>(match Region.wanted o (yielded ops g.frame.tmps)with
   |true=>(match o.op with
    |.call c=>(match c.callee with
     |.value (.func f)=>some (f,c.args.map g.frame.eval)
     |_=>none)
    |_=>none)
   |false=>none)
  |none=>none)
 |_=>none
def aft(g:Gr)(v:Value):Gr:={ g with frame:=g.frame.finish v }
structure WX(P:Program)(g:Gr)(f:FuncId)(as:Array Value):Prop where
 run:g=Wj g.frame g.callers
 mode:(match g.frame.mode with|.run=>true|_=>false)=true
 kind:(g.frame.kind==.early)=false
 rnd:g.frame.roundOf.isNone=true
 at_:LX g=some (f,as)
def WX.open(h:WX P g f as):∃(b:Frame)(a:Act)(ops:Array Oper)(i:Nat)(rest:List Nat)(E:List Item)(cs:List Frame)(o:Oper)(B:Array TypeId)(xs:Array Operand),g=Go.Conc.G (b.at a (.inRegion ops (i::rest)::E)) cs/\ops[i]?=some o/\Region.wanted o (yielded ops a.tmps)=true/\b.kind≠.early /\
  o.op=.call { callee:=.value (.func f),args:=xs,argTypes:=B }/\xs.map a.eval=as/\∀v,aft g v=Go.Conc.G (b.at (a.put o.dst v) (.inRegion ops rest::E)) cs:=by
 obtain⟨h1,h2,F,h5,w⟩:=h;obtain⟨fr,cs,st,I,of⟩:=g;simp only[Wj,Goroutine.mk.injEq,true_and]at h1;obtain⟨rfl,rfl,rfl⟩:=h1;obtain⟨fn,tmps,todo,defers,mode,kind,ro⟩:=fr;simp only at h2 F h5;obtain rfl:ro=none:=by cases ro <;> simp_all
 cases mode with
 |run=>
  unfold LX at w;simp only at w;split at w
  .rename_i ops i rest E;split at w
   .rename_i o ho;split at w
    .rename_i hw;split at w
     .rename_i c hop;obtain⟨H,xs,B⟩:=c;simp only at w;split at w
      .cases w;refine⟨{ fn:=fn,tmps:=tmps,todo:=[],defers:=defers,mode:=.run,kind:=kind,roundOf:=none },⟨tmps,defers⟩,ops,i,rest,E,cs,o,B,xs,rfl,ho,hw,λ e=>?_,hop,?_,λ v=>?_⟩
       .simp only at e;rw[e]at F;cases F
       .congr 1
       .cases hd:o.dst <;> simp[aft,Go.Conc.G,Frame.at,Frame.finish,Act.put,ho,hd]
      .cases w
     .cases w
    .cases w
   .cases w
  .cases w
 |_=>cases h2
def jq(U:Qa T)(w:World):ZQ U w w.later U:=
 ⟨⟨w.tick,rfl⟩,rfl,rfl,Nat.le_refl _,λ _ c _ fr h=>⟨c,fr,h,rfl,λ _ _=>rfl,.inl rfl⟩,λ _ _ h _ _=>h,λ _ h=>.inl h,λ _ h=>.inl h⟩
def jp(U:Qa T)(w:World):ZQ U w w.asked U:=
 ⟨.refl _,rfl,rfl,Nat.le_refl _,λ _ c _ fr h=>⟨c,fr,h,rfl,λ _ _=>rfl,.inl rfl⟩,λ _ _ h _ _=>h,λ _ h=>.inl h,λ _ h=>.inl h⟩
section
variable{U:Qa T}
def J.nano{f:FuncId}{as:Array Value}{fn:Func}(h:WX P g f as)(hf:P.funcs[f]?=some fn)(B:(fn.name== "runtime.NumGoroutine")=false)(hb:fn.body.isNone=true)(L:Extern.findNext fn=none)(I:Extern.find fn=some Extern.OsHooks.nano)(N:fn.norace=true)
  (k:∀n:Int,J S e m (aft g (.int .i64 n)) U):J S e m g U:=by
 obtain⟨b,a,ops,i,rest,T,cs,o,H,xs,G,M,Q,K,F,-,E⟩:=h.open;refine .priv ⟨by rw[G];rfl,λ w ok=>⟨_,w.later,#[],U,?_,S1,jq U w,⟨ok.imm,ok.held,ok.apart,ok.sep⟩,rfl,k ((w.os.mono+w.tick:Nat):Int)⟩⟩;rw[E,G];exact Go.Conc.stepG_nanotime M Q K F hf B hb L I N
end
section
variable{U:Qa T}
def J.spin{fn:Func}(h:WX P g f #[.int j u])(hf:P.funcs[f]?=some fn)(B:(fn.name== "runtime.NumGoroutine")=false)(hb:fn.body.isNone=true)(M:Extern.findNext fn=none)(K:Extern.find fn=some Extern.Sync.canSpin)
  (I:u<4) (k:∀r:Bool,J S e m (aft g (.bool r)) U):J S e m g U:=by
 obtain⟨b,a,ops,i,rest,T,cs,o,H,xs,G,N,Q,L,F,hx,E⟩:=h.open;refine .priv ⟨by rw[G];rfl,λ w ok=>⟨_,w.asked,#[],U,?_,S1,jp U w,⟨ok.imm,ok.held,ok.apart,ok.sep⟩,rfl,k w.spins⟩⟩;rw[E,G];exact Go.Conc.stepG_canSpin_ask N Q L F hf B hb M K hx I
end
def vG{x:Operand}{g:FuncId}
  (Y:ops[i]?=some o) (hw:Region.wanted o (yielded ops a.tmps)=true) (W:o.op=.go { callee:=.value x,args:=xs,argTypes:=H }) (hx:a.eval x=.func (.func g) first as)
   (ht:U.tok=⟨0,.par b ds true .run,mu⟩) (hf:HC U Up Uc) (hp:Up.tok=⟨0,.par b (D::ds) false .run,M⟩) (Z:Uc.tok=⟨0,.wrk b D,mc⟩) (V:Yy mu M mc)
  (hk:∀Stop,J (Za P t N) Stop false (Gu P { target:=.fn (.func g) as,args:=first++xs.map a.eval }) Uc) (hq:QU (Za P t N) fn none ops af Q (a.put o.dst undef) Up) :
  QU (Za P t N) fn none ops (i::af) Q a U:=by
 intro Stop m w k cs hb S;refine .syn (QC.go (X:=J (Za P t N) Stop) (g':=R w (a.put o.dst undef) (.inRegion ops af::k) cs) rfl ht ?_ hf hp Z V (hq Stop m w k cs hb S) (hk Stop));have T:w.kind≠.early:=hb.2.2.1;have G:w.roundOf=none:=hb.2.1;have F:=Y8 w a (.inRegion ops (i::af)::k);have E:=G7 (b:=w) (a:=a) (k:=k) (rest:=af) Y undef
 have L:execOp a.eval o=(do let d <- resolve a.eval { callee:=.value x,args:=xs,argTypes:=H } o.type;pure (.spawn d):Sem Next):=by
  unfold execOp;rw[W]
 have K:QB P t (execOp a.eval o) undef undef #[] []=.ok (.spawn { target:=.fn (.func g) as,args:=first++xs.map a.eval }) undef undef #[] []:=by
  rw[L];simp only[resolve,hx,Deferred.ofValue];rfl
 show Qc P t m (R w a (.inRegion ops (i::af)::k) cs) undef undef=_;unfold Qc R;simp only[fr];unfold GX;simp only[Y,hw,G];simp only[fr]at F;rw[G]at F;rw[F,K];unfold Xu;have:∀(kd:CallKind)(A B:SE),kd≠.early->(match kd with|.early=>A|_=>B)=B:=by intro kd A B h;cases kd <;> first|rfl|exact absurd rfl h
 simp only;cases I:w.kind with
 |early=>exact absurd I T
 |_=>
  simp only[P_,Yv,isEmpty_nil,Bool.and_self,cond_true,SD,Wj];simp only[fr,G,I]at E ⊢;rw[E]
