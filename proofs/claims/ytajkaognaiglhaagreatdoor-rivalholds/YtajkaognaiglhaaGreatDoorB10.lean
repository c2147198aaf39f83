/- Lemmas. No conditions. -/
import Derived.Test.YtajkaognaiglhaaGreatDoorB01
import Derived.Test.YtajkaognaiglhaaGreatDoorB09
set_option linter.all false
open List
namespace Go.TM
open Go.Conc (QuitsD)
variable{P:Program}{t:TypeId}{N:Nat}{m:Bool}{U:Qa Tk}{Stop:QK Tk}
def WG(P:Program)(t:TypeId)(m:Bool):Nat->Gr->Option (Gr×List (Nat×Bool))
 |0,g=>some (g,[])
 |n+1,g=>match g.status,Q5 P t m g undef undef with
  |.running,.go g' _ _ es bs=>bif es.isEmpty&&bs.all (!·.2)then(WG P t m n g').map (λ x=>(x.1,bs++x.2))else none
  |_,_=>none
def JX(P:Program)(t:TypeId)(m:Bool)(n:Nat)(g:Gr):Gr:=match WG P t m n g with|some x=>x.1|none=>g
def JW(P:Program)(t:TypeId)(m:Bool)(n:Nat)(g:Gr):Option (List (Nat×Bool)):=(WG P t m n g).map (·.2)
def VU{n:Nat}{g g':Gr}{l:List (Nat×Bool)}(h:WG P t m (n+1) g=some (g',l)) :
  ∃e bs l',g.status=.running/\(∀st sm,Q5 P t m g st sm=.go e st sm #[] bs)/\WG P t m n e=some (g',l')/\l=bs++l':=by
 simp only[WG]at h;split at h
 .rename_i e st' sm' es bs hs hst;cases w:es.isEmpty&&bs.all (!·.2)with
  |false=>rw[w]at h;cases h
  |true=>
   rw[w]at h;simp only[cond_true]at h;obtain⟨⟨F,l'⟩,z,B⟩:=Option.map_eq_some_iff.1 h;cases B;simp only[Bool.and_eq_true,Array.isEmpty_iff]at w;obtain⟨rfl,E⟩:=w;obtain⟨-,f⟩:=Uy _ _ _ _ _ _ _ hst E;exact⟨e,bs,l',hs,f,z,rfl⟩
 .cases h
def Vl{n:Nat}{g:Gr}{l:List (Nat×Bool)}(h:JW P t m n g=some l):WG P t m n g=some (JX P t m n g,l):=by
 unfold JW at h;obtain⟨⟨g',l'⟩,e,rfl⟩:=Option.map_eq_some_iff.1 h;simp only[JX,e]
def OT{b:Nat}(w:U.tok.ph.blk=some b):∀{n:Nat}{g g':Gr}{l:List (Nat×Bool)},WG P t m n g=some (g',l)->Js b l->J (Zj P t N) Stop m g' U->J (Zj P t N) Stop m g U
 |0,g,g',l,h,_,k=>by simp only[WG,Option.some.injEq,Prod.mk.injEq]at h;rw[h.1];exact k
 |n+1,g,g',l,h,z,k=>by
  obtain⟨B,bs,l',F,e,E,rfl⟩:=VU h;exact .syn (QC.quiet F w e (λ y f=>z y (mem_append_left _ f)) (OT w E (λ y f=>z y (mem_append_right _ f)) k))
def J.calm{b n:Nat}{g:Gr}{l:List (Nat×Bool)}(e:U.tok.ph.blk=some b)(h:JW P t m n g=some l)(f:Js b l)(k:J (Zj P t N) Stop m (JX P t m n g) U):J (Zj P t N) Stop m g U:=
 OT e (Vl h) f k
def Ek{b d k:Nat}{p:Ph}:∀{n:Nat}{g g':Gr}{l:List (Nat×Bool)},WG P t false n g=some (g',l)->Js b l->Tl P t N b k d p g'->Tl P t N b (n+k) d p g
 |0,g,g',l,h,_,q=>by simp only[WG,Option.some.injEq,Prod.mk.injEq]at h;rw[Nat.zero_add,h.1];exact q
 |n+1,g,g',l,h,z,q=>by
  obtain⟨e,bs,l',E,f,B,rfl⟩:=VU h;rw[show n+1+k=(n+k)+1 by omega];exact⟨E,.inl ⟨e,#[],bs,S1,λ y w=>z y (mem_append_left _ w),f,Ek B (λ y w=>z y (mem_append_right _ w)) q⟩⟩
def Tl.calm{b d k n:Nat}{p:Ph}{g:Gr}{l:List (Nat×Bool)}(h:JW P t false n g=some l)(e:Js b l)(q:Tl P t N b k d p (JX P t false n g)):Tl P t N b (n+k) d p g:=
 Ek (Vl h) e q
def SU{d k:Nat}:∀{n:Nat}{g g':Gr},WG P t false n g=some (g',[])->QuitsD P k d g'->QuitsD P (n+k) d g
 |0,g,g',h,q=>by simp only[WG,Option.some.injEq,Prod.mk.injEq]at h;rw[Nat.zero_add,h.1];exact q
 |n+1,g,g',h,q=>by
  obtain⟨e,bs,l',E,f,B,z⟩:=VU h;have:bs=[]/\l'=[]:=by simpa using z.symm
  obtain⟨rfl,rfl⟩:=this;rw[show n+1+k=(n+k)+1 by omega];exact .inr ⟨E,e,#[],S1,λ w=>Y3 (f undef undef) w,SU B q⟩
def Ur{d k n:Nat}{g:Gr}(h:JW P t false n g=some [])(q:QuitsD P k d (JX P t false n g)):QuitsD P (n+k) d g:=SU (Vl h) q
def Ut{d k:Nat}{g g':Gr}{st sm:Value}{es:Array Event}(z:g.status=.running)(h:Q5 P t false g undef undef=.go g' st sm es [])(f:∀e∈es,Event.mute e=true)(q:QuitsD P k (deafBehind d es) g'):QuitsD P (k+1) d g:=
 .inr ⟨z,g',es,f,λ w=>Y3 h w,q⟩
def SE.info:SE->Option (Value×Value×Array Event×List (Nat×Bool))
 |.go _ st sm es bs=>some (st,sm,es,bs)
 |_=>none
def SE.of_info{s:SE}{g:Gr}{st sm:Value}{es:Array Event}{bs:List (Nat×Bool)}(h:s.info=some (st,sm,es,bs)):s=.go (s.get g) st sm es bs:=by
 cases s <;> simp only[SE.info,Option.some.injEq,Prod.mk.injEq,reduceCtorEq]at h;obtain⟨rfl,rfl,rfl,rfl⟩:=h;rfl
def HK{g:Gr}{st sm:Value}{es:Array Event}{bs:List (Nat×Bool)}(h:(Q5 P t m g undef undef).info=some (st,sm,es,bs))(e:bs.all (!·.2)=true):∀st sm,Q5 P t m g st sm=.go ((Q5 P t m g undef undef).get g) st sm es bs:=
 (Uy _ _ _ _ _ _ _ (SE.of_info h) e).2
def Tl.mute{b d n:Nat}{p:Ph}{g:Gr}{st sm:Value}{es:Array Event}{bs:List (Nat×Bool)}(h:(Q5 P t false g undef undef).info=some (st,sm,es,bs))(w:bs.all (!·.2)=true)(f:Js b bs)
  (z:∀e∈es,Event.mute e=true) (k:Tl P t N b n (deafBehind d es) p ((Q5 P t false g undef undef).get g)):Tl P t N b (n+1) d p g:=
 ⟨Zp (SE.of_info (g:=g) h),.inl ⟨_,es,bs,z,f,HK h w,k⟩⟩
def Im{d k:Nat}{g:Gr}{st sm:Value}{es:Array Event}(h:(Q5 P t false g undef undef).info=some (st,sm,es,[]))(f:∀e∈es,Event.mute e=true)(q:QuitsD P k (deafBehind d es) ((Q5 P t false g undef undef).get g)):QuitsD P (k+1) d g:=
 Ut (Zp (SE.of_info (g:=g) h)) (SE.of_info h) f q
def KZ:∀{n d k:Nat}{g:Gr},QuitsD P n d g->QuitsD P (n+k) d g
 |0,d,k,g,h=>by cases k with|zero=>exact h|succ k=>exact .inl h
 |n+1,d,k,g,h=>by
  rw[show n+1+k=(n+k)+1 by omega];exact h.imp id λ⟨w,g',es,f,e,q⟩=>⟨w,g',es,f,e,KZ q⟩
end Go.TM
namespace Go.TM
variable{P:Program}{t:TypeId}{N:Nat}{m:Bool}{U:Qa Tk}{Stop:QK Tk}{g:Gr}{b d:Nat}{ds:List Spec}{pend:Bool}{k₀:PS}{st sm:Value}{mu:Option ZK}
def Z0:Js b []:=λ _ h=>by cases h
def Z9{x y:Bool}:Js b [(b,x),(b,y)]:=λ z h=>by simp at h;rcases h with rfl|rfl <;> rfl
def Xw{x:Bool}:Js b [(b,x)]:=λ z h=>by simp at h;subst h;rfl
def J.dis(e:U.tok=⟨d,.par b ds pend k₀,mu⟩)(h:(Q5 P t m g undef undef).info=some (st,sm,#[Wj .disable],[]))(k:J (Zj P t N) Stop m ((Q5 P t m g undef undef).get g) (U.at (d+1) (.par b ds pend k₀))):J (Zj P t N) Stop m g U:=
 .syn (QC.dis (Zp (SE.of_info (g:=g) h)) e (HK h rfl) Z0 k)
def J.ena(e:U.tok=⟨d+1,.par b ds pend k₀,mu⟩)(h:(Q5 P t m g undef undef).info=some (st,sm,#[Wj .enable],[]))(k:J (Zj P t N) Stop m ((Q5 P t m g undef undef).get g) (U.at d (.par b ds pend k₀))):J (Zj P t N) Stop m g U:=
 .syn (QC.ena (Zp (SE.of_info (g:=g) h)) e (HK h rfl) Z0 k)
def J.said(wr:Bool)(e:U.tok=⟨1,.par b ds pend k₀,mu⟩)(h:(Q5 P t m g undef undef).info=some (st,sm,#[Wj (bif wr then .write ⟨b,1,none⟩else .read ⟨b,1,none⟩)],[]))(k:J (Zj P t N) Stop m ((Q5 P t m g undef undef).get g) U):J (Zj P t N) Stop m g U:=
 .syn (QC.said (wr:=wr) (Zp (SE.of_info (g:=g) h)) e (HK h rfl) Z0 k)
def J.acq(f:U.tok=⟨0,.par b ds false .up,none⟩)(h:(Q5 P t m g undef undef).info=some (st,sm,#[Wj (.acquire ⟨b,0,none⟩)],[]))(k:∀e,XI ds e->J (Zj P t N) Stop m ((Q5 P t m g undef undef).get g) ((U.with e.flatten).at 0 .out)):J (Zj P t N) Stop m g U:=
 .syn (QC.acq (Zp (SE.of_info (g:=g) h)) f Z0 (HK h rfl) k)
def J.acqM{x:ZA}{u:Nat->Bool}(f:U.tok=⟨0,.par b ds false .up,some (.par x u)⟩)(h:(Q5 P t m g undef undef).info=some (st,sm,#[Wj (.acquire ⟨b,0,none⟩)],[]))(k:∀e M,XI ds e->x.sp u M->J (Zj P t N) Stop m ((Q5 P t m g undef undef).get g) { U with M:=(U.M++e.flatten)++M,tok:=⟨0,.out,none⟩ }):J (Zj P t N) Stop m g U:=
 .syn (QC.acqM (Zp (SE.of_info (g:=g) h)) f Z0 (HK h rfl) k)
def J.add(w:U.tok=⟨1,.par b ds false .run,mu⟩)(f:ds.length<N)(h:∀c,c<=ds.length->(Q5 P t m g (Jh c 0) (Zx 0)).info=some (Jh (c+1) 0,Zx 0,#[QA b 0,QD b 0],[(b,true),(b,true)]) /\
  J (Zj P t N) Stop m ((Q5 P t m g (Jh c 0) (Zx 0)).get g) (U.at 1 (.par b ds true .run))):J (Zj P t N) Stop m g U:=
 .syn (QC.add (Zp (SE.of_info (g:=g) (h 0 (Nat.zero_le _)).1)) w f λ c e=>⟨_,_,SE.of_info (g:=g) (h c e).1,Z9,(h c e).2⟩)
def J.load{u:Nat}(w:U.tok=⟨1,.par b ds false k₀,mu⟩)(f:X7 ds u k₀)(h:∀c,c<=u->(Q5 P t m g (Jh c 0) (Zx 0)).info=some (Jh c 0,Zx 0,#[QA b 0],[(b,true)]) /\
  (J (Zj P t N) Stop m ((Q5 P t m g (Jh c 0) (Zx 0)).get g) (U.at 1 (.par b ds false (.seen c)))\/(c=0/\J (Zj P t N) Stop m ((Q5 P t m g (Jh c 0) (Zx 0)).get g) (U.at 1 (.par b ds false .up))))):J (Zj P t N) Stop m g U:=
 .syn (QC.look (Zp (SE.of_info (g:=g) (h 0 (Nat.zero_le _)).1)) w f λ c e=>⟨_,_,Xw,.inl ⟨SE.of_info (g:=g) (h c e).1,(h c e).2⟩⟩)
def J.look2{bs:List (Nat×Bool)}(f:U.tok=⟨1,.par b ds false .up,mu⟩)(e:Js b bs)(h:(Q5 P t m g (Jh 0 0) (Zx 0)).info=some (Jh 0 0,Zx 0,#[QA b 0],bs))(k:J (Zj P t N) Stop m ((Q5 P t m g (Jh 0 0) (Zx 0)).get g) U):J (Zj P t N) Stop m g U:=
 .syn (QC.look2 (Zp (SE.of_info (g:=g) h)) f e (SE.of_info (g:=g) h) k)
def Ej:∀{n:Nat}{g g':Gr},WG P t m n g=some (g',[])->J (Zj P t N) Stop m g' U->J (Zj P t N) Stop m g U
 |0,g,g',h,k=>by simp only[WG,Option.some.injEq,Prod.mk.injEq]at h;rw[h.1];exact k
 |n+1,g,g',h,k=>by
  obtain⟨f,bs,l',E,e,B,z⟩:=VU h;have:bs=[]/\l'=[]:=by simpa using z.symm
  obtain⟨rfl,rfl⟩:=this;exact J.still E (λ w=>Y3 (e undef undef) w) (Ej B k)
def J.calm0{n:Nat}(h:JW P t m n g=some [])(k:J (Zj P t N) Stop m (JX P t m n g) U):J (Zj P t N) Stop m g U:=Ej (Vl h) k
def J.cas{u:Nat}(F:U.tok=⟨1,.par b ds false k₀,mu⟩)(B:X7 ds u k₀)(E:g.status=.running)(h:∀c,c<=u ->
  (∃bs,Js b bs/\(Q5 P t m g (Jh c 0) (Zx 0)).info=some (Jh c 0,Zx 0,#[QA b 0],bs)/\J (Zj P t N) Stop m ((Q5 P t m g (Jh c 0) (Zx 0)).get g) (U.at 1 (.par b ds false (.seen c)))) \/
  (1<=c/\∃bs,Js b bs/\(Q5 P t m g (Jh c 0) (Zx 0)).info=some (Jh c 1,Zx 0,#[QA b 0,QD b 0],bs)/\J (Zj P t N) Stop m ((Q5 P t m g (Jh c 0) (Zx 0)).get g) (U.at 1 (.par b ds false .wait)))):J (Zj P t N) Stop m g U:=
 .syn (QC.look E F B λ c z=>by
  rcases h c z with⟨bs,e,f,k⟩|⟨w,bs,e,f,k⟩
  .exact⟨_,bs,e,.inl ⟨SE.of_info (g:=g) f,.inl k⟩⟩
  .exact⟨_,bs,e,.inr ⟨w,SE.of_info (g:=g) f,k⟩⟩)
end Go.TM
namespace Go.TM
def Xf:∀{n:Nat}{l:List Nat},l.Nodup->(∀x∈l,x<n)->l.length<=n
 |0,l,_,h=>by
  cases l with
  |nil=>simp
  |cons a l=>exact absurd (h a S1) O1
 |n+1,l,f,h=>by
  have z:(l.erase n).length<=n:=Xf (f.erase n) λ x w=>by
   have B:=h x (mem_of_mem_erase w);have E:=(f.mem_erase_iff.1 w).1;omega
  have F:l.length<=(l.erase n).length+1:=by
   by_cases e:n∈l
   .rw[length_erase_of_mem e];omega
   .rw[erase_of_not_mem e];omega
  omega
def Ja(l:List Nat):Nat:=l.foldl (λ d k=>d||| (1<<<k)) 0
def PE(i k:Nat):(1<<<i).testBit k=decide (k=i):=by
 rw[Nat.one_shiftLeft,Nat.testBit_two_pow];by_cases h:i=k
 .subst h;simp
 .simp[h,Ne.symm h]
def CF(l:List Nat):∀(d k:Nat),(l.foldl (λ d k=>d||| (1<<<k)) d).testBit k=(d.testBit k|| l.contains k):=by
 induction l with
 |nil=>simp
 |cons a l e=>
  intro d k;rw[foldl_cons,e,Nat.testBit_or,PE];by_cases h:k=a
  .subst h;simp
  .simp[h,Ne.symm h]
def W3(l:List Nat)(k:Nat):(Ja l).testBit k=l.contains k:=by simp[Ja,CF]
section
variable(A:List (List Nat))
def Jd(i:Nat):List Nat:=A.getD i []
def WH(d i:Nat):Nat:=if(Jd A i).all (λ k=>d.testBit k)then d||| (1<<<i)else d
def EO(d:Nat):Nat:=(range A.length).foldl (WH A) d
def JO:Nat->Nat
 |0=>0
 |k+1=>EO A (JO k)
def W4:Bool:=decide (JO A A.length≠2^A.length-1)
def WK(two:Nat):Nat->Nat->Bool
 |0,_=>false
 |s+1,one=>(Jd A one).any λ k=>k==two|| WK two s k
def GE:Bool:=(range A.length).any λ i=>WK A i A.length i
structure ZN(d:Nat)(L:List Nat):Prop where
 bit:∀k,d.testBit k=true↔k∈L
 low:∀k∈L,k<A.length
 nod:L.Nodup
 aft:∀(X Y:List Nat)x,L=X++x::Y->∀k∈Jd A x,k∈Y
variable{A}
def ZN.nil:ZN A 0 []:=⟨S1,S1,.nil,λ X Y x h=>by cases X <;> cases h⟩
def ZN.step{d i:Nat}{L:List Nat}(h:ZN A d L)(G:i<A.length):∃w,ZN A (WH A d i) w/\(w=L\/w=i::L)/\(i∈w\/∃k∈Jd A i,k∉L):=by
 unfold WH;by_cases E:i∈L
 .refine⟨L,?_,.inl rfl,.inl E⟩;split
  .refine⟨λ k=>?_,h.low,h.nod,h.aft⟩;rw[Nat.testBit_or,Bool.or_eq_true,PE,h.bit];constructor
   .rintro(h1|h1)
    .exact h1
    .simp at h1;subst h1;exact E
   .exact .inl
  .exact h
 .by_cases ha:(Jd A i).all (λ k=>d.testBit k)=true
  .rw[if_pos ha];rw[all_eq_true]at ha;refine⟨i::L,⟨λ k=>?_,?_,nodup_cons.2 ⟨E,h.nod⟩,?_⟩,.inr rfl,.inl S1⟩
   .rw[Nat.testBit_or,Bool.or_eq_true,PE,h.bit,mem_cons];constructor
    .rintro(h1|h1)
     .exact .inr h1
     .exact .inl (by simpa using h1)
    .rintro(h1|h1)
     .exact .inr (by simpa using h1)
     .exact .inl h1
   .intro k f;rcases mem_cons.1 f with rfl|f
    .exact G
    .exact h.low k f
   .intro X Y x e k f;cases X with
    |nil=>
     simp only[nil_append,List.cons.injEq]at e;obtain⟨rfl,rfl⟩:=e;exact(h.bit k).1 (ha k f)
    |cons y X=>
     simp only[cons_append,List.cons.injEq]at e;exact h.aft X Y x e.2 k f
  .rw[if_neg ha];refine⟨L,h,.inl rfl,.inr ?_⟩
   have:∃k∈Jd A i,¬d.testBit k=true:=by
    apply Classical.byContradiction;intro H;apply ha;rw[all_eq_true];intro k f;apply Classical.byContradiction;intro z;exact H ⟨k,f,z⟩
   obtain⟨k,f,F⟩:=this;exact⟨k,f,λ B=>F ((h.bit k).2 B)⟩
def ZN.fold:∀{l:List Nat}{d:Nat}{L:List Nat},ZN A d L->(∀i∈l,i<A.length)->∃w,ZN A (l.foldl (WH A) d) w/\L.length<=w.length/\(w.length=L.length->w=L/\∀i∈l,i∈L\/∃k∈Jd A i,k∉L)
 |[],d,L,h,_=>⟨L,h,Nat.le_refl _,λ _=>⟨rfl,S1⟩⟩
 |i::l,d,L,h,E=>by
  obtain⟨L₁,F,B,G⟩:=h.step (E i S1);obtain⟨L₂,H,z,I⟩:=ZN.fold (l:=l) F λ j f=>E j (by simp[f]);refine⟨L₂,H,?_,λ e=>?_⟩
  .rcases B with rfl|rfl
   .exact z
   .simp at z;omega
  .rcases B with rfl|rfl
   .obtain⟨rfl,k4⟩:=I e;refine⟨rfl,λ j f=>?_⟩;rcases mem_cons.1 f with rfl|f
    .exact G
    .exact k4 j f
   .simp at z;omega
def ZN.round{d:Nat}{L:List Nat}(h:ZN A d L):∃f,ZN A (EO A d) f/\L.length<=f.length/\(f.length=L.length->f=L/\∀i,i<A.length->i∈L\/∃k∈Jd A i,k∉L):=by
 obtain⟨f,z,B,w⟩:=ZN.fold (l:=range A.length) h S1;exact⟨f,z,B,λ e=>⟨(w e).1,λ i E=>(w e).2 i (by simpa using E)⟩⟩
def ZN.rounds(n:Nat):∃L,ZN A (JO A n) L/\(n<=L.length\/∀i,i<A.length->i∈L\/∃k∈Jd A i,k∉L):=by
 induction n with
 |zero=>exact⟨[],.nil,.inl S1⟩
 |succ n K=>
  obtain⟨L,P,B⟩:=K;obtain⟨z,N,k2,k3⟩:=P.round;refine⟨z,N,?_⟩;by_cases e:z.length=L.length
  .obtain⟨rfl,k4⟩:=k3 e;exact .inr k4
  .rcases B with B|B
   .exact .inl O1
   .exfalso
    have:∀(l:List Nat)(d:Nat) , (∀i∈l,i<A.length)->(∀k,d.testBit k=true↔k∈L)->∀k,((l.foldl (WH A) d).testBit k=true↔k∈L):=by
     intro l
     induction l with
     |nil=>exact λ d _ h k=>h k
     |cons i l M=>
      intro d Q G;refine M _ (λ j W=>Q j (by simp[W])) λ k=>?_;unfold WH;split
      .rename_i E;rw[all_eq_true]at E;rcases B i (Q i S1)with V|⟨k',H,f⟩
       .rw[Nat.testBit_or,Bool.or_eq_true,PE,G];constructor
        .rintro(h|h)
         .exact h
         .simp at h;subst h;exact V
        .exact .inl
       .exact absurd ((G k').1 (E k' H)) f
      .exact G k
    have U:=this (range A.length) (JO A n) S1 P.bit;have w:∀x∈z,x∈L:=λ x F=>(U x).1 ((N.bit x).2 F)
    have Z:z.length<=L.length:=by
     have:∀{X Y:List Nat},X.Nodup->(∀x∈X,x∈Y)->X.length<=Y.length:=by
      intro X
      induction X with
      |nil=>intro Y _ _;simp
      |cons a X K=>
       intro Y f T;obtain⟨E,f⟩:=nodup_cons.1 f;have S:=T a S1
       have:=K (Y:=Y.erase a) f λ x F=>by
        have I:x≠a:=λ e=>E (e▸F);exact(mem_erase_of_ne I).2 (T x (by simp[F]))
       rw[length_erase_of_mem S]at this;have:0<Y.length:=length_pos_of_mem S;simp only[length_cons];omega
     exact this N.nod w
    omega
def Uq{two:Nat}:∀{s e one:Nat},s<=e->WK A two s one=true->WK A two e one=true
 |0,_,_,_,h=>by simp[WK]at h
 |s+1,0,_,w,_=>O1
 |s+1,e+1,one,w,h=>by
  simp only[WK,any_eq_true,Bool.or_eq_true]at h ⊢;obtain⟨k,f,h⟩:=h;exact⟨k,f,h.imp id (Uq O1)⟩
def ZN.must{d:Nat}{L:List Nat}(h:ZN A d L){two:Nat}:∀(s:Nat)(X Y:List Nat)(x:Nat),L=X++x::Y->WK A two s x=true->two∈Y
 |0,_,_,_,_,f=>by simp[WK]at f
 |s+1,X,Y,x,e,f=>by
  simp only[WK,any_eq_true,Bool.or_eq_true,beq_iff_eq]at f;obtain⟨k,z,f⟩:=f;have w:=h.aft X Y x e k z;rcases f with rfl|f
  .exact w
  .obtain⟨Y1,Y2,rfl⟩:=append_of_mem w;have:=ZN.must h s (X++x::Y1) Y2 k (by rw[e];simp) f;simp[this]
def Mq(hA:∀i,i<A.length->∀k∈Jd A i,k<A.length):W4 A=GE A:=by
 obtain⟨L,F,w⟩:=ZN.rounds (A:=A) A.length
 have E:(JO A A.length=2^A.length-1)↔∀i,i<A.length->i∈L:=by
  constructor
  .intro e i z;rw[<- F.bit,e,Nat.testBit_two_pow_sub_one];simpa using z
  .intro h;refine Nat.eq_of_testBit_eq λ i=>?_;rw[Nat.testBit_two_pow_sub_one];by_cases z:i<A.length
   .rw[(F.bit i).2 (h i z)];simp[z]
   .have:¬(JO A A.length).testBit i=true:=λ hb=>z (F.low i ((F.bit i).1 hb));simp only[Bool.not_eq_true]at this;rw[this];simp[z]
 have key:GE A=true↔¬ ∀i,i<A.length->i∈L:=by
  unfold GE;rw[any_eq_true];constructor
  .rintro⟨i,z,N⟩ hall;have W:i<A.length:=by simpa using z
   obtain⟨X,Y,e⟩:=append_of_mem (hall i W);have hY:=F.must _ X Y i e N;have T:=F.nod;rw[e,nodup_append]at T;exact(nodup_cons.1 T.2.1).1 hY
  .intro T
   obtain⟨i0,P,S⟩:∃i,i<A.length/\i∉L:=by
    apply Classical.byContradiction;intro h;exact T λ i z=>Classical.byContradiction λ N=>h ⟨i,z,N⟩
   have w:∀i,i<A.length->i∉L->∃k,k∈Jd A i/\k∉L:=by
    intro i z N;rcases w with w|w
    .exfalso
     have B:=Xf (n:=A.length) (l:=i::L) (nodup_cons.2 ⟨N,F.nod⟩) (by
      intro x H;rcases mem_cons.1 H with rfl|H
      .exact z
      .exact F.low x H)
     simp at B;omega
    .exact(w i z).resolve_left N
   let f:Nat->Nat:=λ i=>if h:i<A.length/\i∉L then Classical.choose (w i h.1 h.2)else i
   have U:∀i,i<A.length->i∉L->f i∈Jd A i/\f i∉L/\f i<A.length:=by
    intro i B I;have K:=Classical.choose_spec (w i B I);have h4:f i=Classical.choose (w i B I):=by simp only[f];rw[dif_pos ⟨B,I⟩]
    rw[<- h4]at K;exact⟨K.1,K.2,hA i B _ K.1⟩
   let g:Nat->Nat:=λ n=>Nat.rec i0 (λ _ x=>f x) n
   have gs:∀n,g (n+1)=f (g n):=λ n=>rfl
   have M:∀n,g n<A.length/\g n∉L:=by
    intro n
    induction n with
    |zero=>exact⟨P,S⟩
    |succ n G=>rw[gs];exact⟨(U _ G.1 G.2).2.2,(U _ G.1 G.2).2.1⟩
   obtain⟨a,b,aa,hb,e⟩:∃a b,a<b/\b<=A.length/\g a=g b:=by
    apply Classical.byContradiction;intro Z
    have Q:∀n,n<=A.length+1->((range n).map g).Nodup:=by
     intro n
     induction n with
     |zero=>intro _;simp
     |succ n G=>
      intro T;rw[range_succ,map_append,nodup_append];refine⟨G O1,S1,?_⟩;intro x H y hy V;obtain⟨j,hj,rfl⟩:=mem_map.1 H;simp at hy hj;subst hy;exact Z ⟨j,n,hj,O1,V⟩
    have B:=Xf (Q (A.length+1) (Nat.le_refl _)) (n:=A.length) (by
     intro x H;obtain⟨j,_,rfl⟩:=mem_map.1 H;exact(M j).1)
    simp at B;omega
   have hp:∀n a,WK A (g (a+n+1)) (n+1) (g a)=true:=by
    intro n
    induction n with
    |zero=>
     intro a;simp only[WK,any_eq_true,Bool.or_false,beq_iff_eq];exact⟨g (a+1),(U _ (M a).1 (M a).2).1,rfl⟩
    |succ n G=>
     intro a;rw[WK,any_eq_true];refine⟨g (a+1),(U _ (M a).1 (M a).2).1,?_⟩;rw[Bool.or_eq_true];right;have:=G (a+1)
     rwa [show a+1+n+1=a+(n+1)+1 by omega]at this
   refine⟨g a,by simpa using(M a).1,?_⟩;obtain⟨n,rfl⟩:∃n,b=a+n+1:=⟨b-a-1,O1⟩;have:=hp n a;rw[<- e]at this;exact Uq O1 this
 unfold W4;by_cases h:∀i,i<A.length->i∈L
 .have B:=E.2 h;have I:¬GE A=true:=λ K=>(key.1 K) h;simp only[Bool.not_eq_true]at I;rw[I,B];simp
 .have B:JO A A.length≠2^A.length-1:=λ e=>h (E.1 e);rw[key.2 h];simp[B]
def YT(h:W4 A=false):∃L,ZN A (JO A A.length) L/\∀i,i<A.length->i∈L:=by
 obtain⟨L,e,-⟩:=ZN.rounds (A:=A) A.length;refine⟨L,e,λ i f=>?_⟩;unfold W4 at h;have h:JO A A.length=2^A.length-1:=by simpa using h
 rw[<- e.bit,h,Nat.testBit_two_pow_sub_one];simpa using f
end
section
variable{α:Type}
def parts:List α->Nat->List (List α)
 |_,0=>[[]]
 |[],_+1=>[]
 |a::l,m+1=>(parts l m).map (a::·)++parts l (m+1)
def Pc(l:List α):parts l 0=[[]]:=by cases l <;> rfl
def HE:∀{l:List α}{m:Nat}{p:List α},p∈parts l m↔p.Sublist l/\p.length=m
 |l,0,p=>by
  rw[Pc,mem_singleton];constructor
  .rintro rfl;exact⟨nil_sublist _,rfl⟩
  .rintro⟨_,h⟩;exact eq_nil_of_length_eq_zero h
 |[],m+1,p=>by
  simp only[parts,not_mem_nil,false_iff];rintro⟨h,e⟩;rw[sublist_nil.1 h]at e;cases e
 |a::l,m+1,p=>by
  simp only[parts,mem_append,mem_map];constructor
  .rintro(⟨q,hq,rfl⟩|h)
   .obtain⟨h1,h2⟩:=HE.1 hq;exact⟨h1.cons_cons a,by simp[h2]⟩
   .obtain⟨h1,h2⟩:=HE.1 h;exact⟨h1.cons a,h2⟩
  .rintro⟨h,e⟩;cases h with
   |cons _ h=>exact .inr (HE.2 ⟨h,e⟩)
   |cons_cons _ h=>exact .inl ⟨_,HE.2 ⟨h,by simpa using e⟩,rfl⟩
def Ez{l:List α}{i m:Nat}{a:α}(h:l[i]?=some a):parts (l.drop i) (m+1)=(parts (l.drop (i+1)) m).map (a::·)++parts (l.drop (i+1)) (m+1):=by
 obtain⟨e,rfl⟩:=List.getElem?_eq_some_iff.1 h;rw[drop_eq_getElem_cons e];rfl
def Dv{l:List α}{i m:Nat}(h:l.length<=i):parts (l.drop i) (m+1)=[]:=by
 rw[drop_eq_nil_of_le h];rfl
end
def MG{n:Nat}{p:List Nat}(h:∀k∈p,k<n):Ja p<2^n:=by
 refine Nat.lt_pow_two_of_testBit _ λ i f=>?_;rw[W3];have:i∉p:=λ e=>by have:=h i e;omega
 simpa using this
section
variable(A:List (List Nat))(out:Nat->Bool)
def QU:Nat->Nat->Nat->Bool
 |0,i,k=>(Jd A i).contains k
 |s+1,i,k=>(Jd A i).contains k|| (Jd A i).any λ o=>out o&&QU s o k
def WV(af:List Nat)(i k:Nat):List Nat:=if(af.getD i 0).testBit k&&out k then af.set i (af.getD i 0||| af.getD k 0)else af
def G0(n:Nat)(af:List Nat)(i:Nat):List Nat:=(range n).foldl (λ af k=>WV out af i k) af
def F3(n:Nat)(af:List Nat):List Nat:=(range n).foldl (λ af i=>G0 out n af i) af
def GS(n:Nat):Nat->List Nat->List Nat
 |0,af=>af
 |s+1,af=>GS n s (F3 out n af)
variable{A out}
def Vq{s i k:Nat}:QU A out (s+1) i k=true↔(Jd A i).contains k=true\/∃o,o∈Jd A i/\out o=true/\QU A out s o k=true:=by
 rw[QU,Bool.or_eq_true,any_eq_true];simp only[Bool.and_eq_true]
def Vr{s i k:Nat}(h:(Jd A i).contains k=true):QU A out s i k=true:=by
 cases s <;> simp only[QU,h,Bool.true_or]
def Pg:∀{s e i k:Nat},s<=e->QU A out s i k=true->QU A out e i k=true
 |0,e,_,_,_,h=>Vr h
 |s+1,0,_,_,h,_=>O1
 |s+1,e+1,i,k,h,f=>by
  simp only[QU,Bool.or_eq_true,any_eq_true,Bool.and_eq_true]at f ⊢;exact f.imp id λ⟨o,w,z,B⟩=>⟨o,w,z,Pg O1 B⟩
def S_:∀{s e i o k:Nat},QU A out s i o=true->out o=true->QU A out e o k=true->QU A out (s+e+1) i k=true
 |0,e,i,o,k,f,w,z=>by
  rw[Nat.zero_add,Vq];exact .inr ⟨o,by simpa[QU]using f,w,z⟩
 |s+1,e,i,o,k,f,w,z=>by
  rw[show s+1+e+1=(s+e+1)+1 by omega,Vq];rcases Vq.1 f with f|⟨x,a1,a2,a3⟩
  .exact .inr ⟨o,by simpa using f,w,Pg O1 z⟩
  .exact .inr ⟨x,a1,a2,S_ a3 w z⟩
def SZ{d:Nat}{L:List Nat}(h:ZN A d L):∀{s i k:Nat}(X Y:List Nat),L=X++i::Y->QU A out s i k=true->QU A out Y.length i k=true
 |0,i,k,X,Y,_,f=>Pg (Nat.zero_le _) f
 |s+1,i,k,X,Y,e,f=>by
  simp only[QU,Bool.or_eq_true,any_eq_true,Bool.and_eq_true]at f;rcases f with f|⟨o,a1,a2,a3⟩
  .exact Vr f
  .obtain⟨Y1,Y2,rfl⟩:=append_of_mem (h.aft X Y i e o a1);have:=SZ h (X++i::Y1) Y2 (by rw[e];simp) a3;refine Pg (s:=Y2.length+1) S1 ?_;simp only[QU,Bool.or_eq_true,any_eq_true,Bool.and_eq_true];exact .inr ⟨o,a1,a2,this⟩
structure JA(n:Nat)(A:List (List Nat))(out:Nat->Bool)(r:Nat)(af:List Nat):Prop where
 len:af.length=n
 sound:∀i,i<n->∀k,(af.getD i 0).testBit k=true->∃s,QU A out s i k=true
 full:∀i,i<n->∀k,QU A out r i k=true->(af.getD i 0).testBit k=true
def VX{af:List Nat}{i j v:Nat}(f:i<af.length):(af.set i v).getD j 0=if j=i then v else af.getD j 0:=by
 rw[getD_eq_getElem?_getD,getElem?_set];by_cases e:i=j
 .subst e;simp[f]
 .simp[e,Ne.symm e]
def JA.one{n r i k:Nat}{af:List Nat}(h:JA n A out r af)(z:i<n)(F:k<n):JA n A out r (WV out af i k):=by
 unfold WV;split
 .rename_i hc;rw[Bool.and_eq_true]at hc;have B:i<af.length:=by rw[h.len];exact z
  refine⟨by simpa using h.len,λ j w x f=>?_,λ j w x f=>?_⟩
  .rw[VX B]at f;split at f
   .rename_i e;subst e;rw[Nat.testBit_or,Bool.or_eq_true]at f;rcases f with f|f
    .exact h.sound j w x f
    .obtain⟨s,h1⟩:=h.sound j z k hc.1;obtain⟨G,E⟩:=h.sound k F x f;exact⟨_,S_ h1 hc.2 E⟩
   .exact h.sound j w x f
  .rw[VX B];have:=h.full j w x f;split
   .rename_i e;subst e;rw[Nat.testBit_or,this,Bool.true_or]
   .exact this
 .exact h
def Xv(n:Nat)(af e:List Nat):Prop:=e.length=af.length/\∀i,i<n->∀k,(af.getD i 0).testBit k=true->(e.getD i 0).testBit k=true
def Xv.refl(n:Nat)(af:List Nat):Xv n af af:=⟨rfl,λ _ _ _ h=>h⟩
def Xv.trans{n:Nat}{a b c:List Nat}(h:Xv n a b)(k:Xv n b c):Xv n a c:=⟨k.1.trans h.1,λ i e x f=>k.2 i e x (h.2 i e x f)⟩
def qh{n i k:Nat}{af:List Nat}(B:af.length=n)(w:i<n):Xv n af (WV out af i k):=by
 unfold WV;split
 .refine⟨S1,λ j z x f=>?_⟩;rw[VX O1];split
  .rename_i e;subst e;rw[Nat.testBit_or,f,Bool.true_or]
  .exact f
 .exact .refl ..
def TN{n r i:Nat}(f:i<n):∀{l:List Nat}{af:List Nat},(∀k∈l,k<n)->JA n A out r af ->
  JA n A out r (l.foldl (λ af k=>WV out af i k) af)/\Xv n af (l.foldl (λ af k=>WV out af i k) af) /\
  ∀o∈l,(af.getD i 0).testBit o=true->out o=true->∀x,(af.getD o 0).testBit x=true->((l.foldl (λ af k=>WV out af i k) af).getD i 0).testBit x=true
 |[],af,_,h=>⟨h,.refl ..,S1⟩
 |k::l,af,B,h=>by
  have M:=B k S1;have H:=h.one (i:=i) f M;have z:=qh (out:=out) (k:=k) h.len f;obtain⟨I,E,K⟩:=TN (l:=l) f (λ j L=>B j (by simp[L])) H;refine⟨I,z.trans E,λ o w F e x G=>?_⟩;rcases mem_cons.1 w with rfl|w
  .refine E.2 i f x ?_;unfold WV;rw[if_pos (by rw[F,e];rfl),VX (by rw[h.len];exact f),if_pos rfl,Nat.testBit_or,G,Bool.or_true]
  .exact K o w (z.2 i f o F) e x (z.2 o (B o (by simp[w])) x G)
def TO{n r:Nat}(H:∀i,i<n->∀k∈Jd A i,k<n){e:List Nat}(B:JA n A out r e):∀{l:List Nat}{af:List Nat},(∀k∈l,k<n)->JA n A out r af->Xv n e af ->
  JA n A out r (l.foldl (λ af i=>G0 out n af i) af)/\Xv n af (l.foldl (λ af i=>G0 out n af i) af) /\
  ∀i∈l,∀x,QU A out (r+1) i x=true->((l.foldl (λ af i=>G0 out n af i) af).getD i 0).testBit x=true
 |[],af,_,h,_=>⟨h,.refl ..,S1⟩
 |i::l,af,I,h,L=>by
  have f:=I i S1;obtain⟨G,E,M⟩:=TN (l:=range n) f S1 h;obtain⟨K,F,N⟩:=TO H B (l:=l) (λ j w=>I j (by simp[w])) G (L.trans E);refine⟨K,E.trans F,λ j w x z=>?_⟩;rcases mem_cons.1 w with rfl|w
  .refine F.2 j f x ?_;simp only[QU,Bool.or_eq_true,any_eq_true,Bool.and_eq_true]at z;rcases z with z|⟨o,a1,a2,a3⟩
   .exact G.full j f x (Vr z)
   .have ho:=H j f o a1;exact M o (by simpa using ho) (h.full j f o (Vr (by simpa using a1))) a2 x (h.full o ho x a3)
  .exact N j w x z
def JA.round{n r:Nat}(f:∀i,i<n->∀k∈Jd A i,k<n){af:List Nat}(h:JA n A out r af):JA n A out (r+1) (F3 out n af):=by
 obtain⟨e,E,B⟩:=TO f h (l:=range n) S1 h (.refl ..);exact⟨e.len,e.sound,λ i w x z=>B i (by simpa using w) x z⟩
def JA.rounds{n:Nat}(e:∀i,i<n->∀k∈Jd A i,k<n):∀{s r:Nat}{af:List Nat},JA n A out r af->JA n A out (r+s) (GS out n s af)
 |0,r,af,h=>h
 |s+1,r,af,h=>by
  have:=JA.rounds e (s:=s) (h.round e);rw[show r+(s+1)=r+1+s by omega];exact this
def JA.start:JA A.length A out 0 (A.map Ja):=by
 have key:∀i,i<A.length->(A.map Ja).getD i 0=Ja (Jd A i):=by
  intro i e;simp[getD_eq_getElem?_getD,Jd,e]
 refine⟨S1,λ i e k f=>⟨0,?_⟩,λ i e k f=>?_⟩
 .rw[key i e,W3]at f;exact f
 .rw[key i e,W3];exact f
def qQ(E:∀i,i<A.length->∀k∈Jd A i,k<A.length)(F:W4 A=false){i k:Nat}(z:i<A.length) :
  ((GS out A.length A.length (A.map Ja)).getD i 0).testBit k=QU A out A.length i k:=by
 have h:=JA.rounds (out:=out) E (s:=A.length) JA.start;rw[Nat.zero_add]at h;obtain⟨L,w,f⟩:=YT F;rw[Bool.eq_iff_iff];constructor
 .intro hb;obtain⟨s,G⟩:=h.sound i z k hb;obtain⟨X,Y,e⟩:=append_of_mem (f i z);have:=SZ w X Y e G;refine Pg ?_ this;have B:=Xf w.nod w.low;rw[e]at B;simp at B;omega
 .exact h.full i z k
end
end Go.TM
namespace Go.TM
variable{P:Program}{t:TypeId}{N:Nat}{fn:FuncId}{Q:Ex->Act->Qa Tk->Prop}{a:Act}{U:Qa Tk}
def qk{ops:Array Oper}{i:Nat}{rest:List Nat}{o:Oper}{x:Operand}{xs:Array Operand}{F:Array TypeId}{g:FuncId}{first e:Array Value}{b:Nat}{ds:List Spec}{D:Spec}{Up Uc:Qa Tk}
  (Y:ops[i]?=some o) (hw:Region.wanted o (yielded ops a.tmps)=true) (W:o.op=.go { callee:=.value x,args:=xs,argTypes:=F }) (hx:a.eval x=.func (.func g) first e)
  {mu K Z:Option ZK} (ht:U.tok=⟨0,.par b ds true .run,mu⟩) (hf:HU U Up Uc) (hp:Up.tok=⟨0,.par b (D::ds) false .run,K⟩) (hc:Uc.tok=⟨0,.wrk b D,Z⟩) (V:V9 N mu K Z)
  (hk:∀Stop,J (Zj P t N) Stop false (GG P { target:=.fn (.func g) e,args:=first++xs.map a.eval }) Uc) (hq:J7 (Zj P t N) fn none ops rest Q (a.put o.dst undef) Up) :
  J7 (Zj P t N) fn none ops (i::rest) Q a U:=by
 intro Stop m f k cs M S;refine .syn (QC.go (X:=J (Zj P t N) Stop) (g':=R f (a.put o.dst undef) (.inRegion ops rest::k) cs) rfl ht ?_ hf hp hc V (hq Stop m f k cs M S) (hk Stop));have T:f.kind≠.early:=M.2.2.1;have E:f.roundOf=none:=M.2.1;have z:=PC f a (.inRegion ops (i::rest)::k);have w:=HH (b:=f) (a:=a) (k:=k) (rest:=rest) Y undef
 have I:execOp a.eval o=(do let d <- resolve a.eval { callee:=.value x,args:=xs,argTypes:=F } o.type;pure (.spawn d):Sem Next):=by
  unfold execOp;rw[W]
 have H:Jo P t (execOp a.eval o) undef undef #[] []=.ok (.spawn { target:=.fn (.func g) e,args:=first++xs.map a.eval }) undef undef #[] []:=by
  rw[I];simp only[resolve,hx,Deferred.ofValue];rfl
 show Q5 P t m (R f a (.inRegion ops (i::rest)::k) cs) undef undef=_;unfold Q5 R;simp only[fr];unfold GO;simp only[Y,hw,E];simp only[fr]at z;rw[E]at z;rw[z,H];unfold WZ;have:∀(L:CallKind)(A B:SE),L≠.early->(match L with|.early=>A|_=>B)=B:=by intro L A B h;cases L <;> first|rfl|exact absurd rfl h
 simp only;cases G:f.kind with
 |early=>exact absurd G T
 |_=>
  simp only[PK,P_,isEmpty_nil,Bool.and_self,cond_true,Wr,Wq];simp only[fr,E,G]at w ⊢;rw[w]
end Go.TM

