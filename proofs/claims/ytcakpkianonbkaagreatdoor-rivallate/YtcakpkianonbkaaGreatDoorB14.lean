/- Lemmas. No conditions. -/
import Derived.Conc.ClockLaws
import Derived.Test.YtcakpkianonbkaaGreatDoorB01
import Derived.Test.YtcakpkianonbkaaGreatDoorB13
set_option linter.all false
open List
namespace Go.TM
open Go.Conc (QuitsD)
variable{P:Program}{t:TypeId}{N:Nat}{m:Bool}{U:Qa Tk}{Stop:Stp Tk}
def Qcf(P:Program)(t:TypeId)(m:Bool):Nat->Goroutine->Option (Goroutine×List (Nat×Bool))
 |0,g=>some (g,[])
 |n+1,g=>match g.status,Qc P t m g undef undef with
  |.running,.go g' _ _ es bs=>bif es.isEmpty&&bs.all (!·.2)then(Qcf P t m n g').map (λ x=>(x.1,bs++x.2))else none
  |_,_=>none
def Qj(P:Program)(t:TypeId)(m:Bool)(n:Nat)(g:Goroutine):Goroutine:=match Qcf P t m n g with|some x=>x.1|none=>g
def Qm(P:Program)(t:TypeId)(m:Bool)(n:Nat)(g:Goroutine):Option (List (Nat×Bool)):=(Qcf P t m n g).map (·.2)
def Qh2{n:Nat}{g g':Goroutine}{l:List (Nat×Bool)}(h:Qcf P t m (n+1) g=some (g',l)) :
  ∃g_1 bs l',g.status=.running/\(∀st sm,Qc P t m g st sm=.go g_1 st sm #[] bs)/\Qcf P t m n g_1=some (g',l')/\l=bs++l':=by
 simp only[Qcf]at h;split at h
 .rename_i g_1 st' sm' es bs hs hst;cases hc:es.isEmpty&&bs.all (!·.2)with
  |false=>rw[hc]at h;cases h
  |true=>
   rw[hc]at h;simp only[cond_true]at h;obtain⟨⟨h2,l'⟩,h3,h4⟩:=Option.map_eq_some_iff.1 h;cases h4;simp only[Bool.and_eq_true,Array.isEmpty_iff]at hc;obtain⟨rfl,hb⟩:=hc;obtain⟨-,hall⟩:=Qwa _ _ _ _ _ _ _ hst hb;exact⟨g_1,bs,l',hs,hall,h3,rfl⟩
 .cases h
def Qdf{n:Nat}{g:Goroutine}{l:List (Nat×Bool)}(h:Qm P t m n g=some l):Qcf P t m n g=some (Qj P t m n g,l):=by
 unfold Qm at h;obtain⟨⟨g',l'⟩,h1,rfl⟩:=Option.map_eq_some_iff.1 h;simp only[Qj,h1]
def Zey{b:Nat}(hb:U.tok.ph.blk=some b):∀{n:Nat}{g g':Goroutine}{l:List (Nat×Bool)},Qcf P t m n g=some (g',l)->Jb b l->J (Zb P t N) Stop m g' U->J (Zb P t N) Stop m g U
 |0,g,g',l,h,_,k=>by simp only[Qcf,Option.some.injEq,Prod.mk.injEq]at h;rw[h.1];exact k
 |n+1,g,g',l,h,hl,k=>by
  obtain⟨g_1,bs,l',hs,hst,hn,rfl⟩:=Qh2 h;exact .syn (Syn.quiet hs hb hst (λ y hy=>hl y (mem_append_left _ hy)) (Zey hb hn (λ y hy=>hl y (mem_append_right _ hy)) k))
def J.calm{b n:Nat}{g:Goroutine}{l:List (Nat×Bool)}(hb:U.tok.ph.blk=some b)(h:Qm P t m n g=some l)(hl:Jb b l)(k:J (Zb P t N) Stop m (Qj P t m n g) U):J (Zb P t N) Stop m g U:=
 Zey hb (Qdf h) hl k
def Q5i{b d k:Nat}{p:Ph}:∀{n:Nat}{g g':Goroutine}{l:List (Nat×Bool)},Qcf P t false n g=some (g',l)->Jb b l->Tl P t N b k d p g'->Tl P t N b (n+k) d p g
 |0,g,g',l,h,_,q=>by simp only[Qcf,Option.some.injEq,Prod.mk.injEq]at h;rw[Nat.zero_add,h.1];exact q
 |n+1,g,g',l,h,hl,q=>by
  obtain⟨g_1,bs,l',hs,hst,hn,rfl⟩:=Qh2 h;rw[show n+1+k=(n+k)+1 by omega];exact⟨hs,.inl ⟨g_1,#[],bs,by simp,λ y hy=>hl y (mem_append_left _ hy),hst,Q5i hn (λ y hy=>hl y (mem_append_right _ hy)) q⟩⟩
def Tl.calm{b d k n:Nat}{p:Ph}{g:Goroutine}{l:List (Nat×Bool)}(h:Qm P t false n g=some l)(hl:Jb b l)(q:Tl P t N b k d p (Qj P t false n g)):Tl P t N b (n+k) d p g:=
 Q5i (Qdf h) hl q
def Qp8{d k:Nat}:∀{n:Nat}{g g':Goroutine},Qcf P t false n g=some (g',[])->QuitsD P k d g'->QuitsD P (n+k) d g
 |0,g,g',h,q=>by simp only[Qcf,Option.some.injEq,Prod.mk.injEq]at h;rw[Nat.zero_add,h.1];exact q
 |n+1,g,g',h,q=>by
  obtain⟨g_1,bs,l',hs,hst,hn,hl⟩:=Qh2 h;have:bs=[]/\l'=[]:=by simpa using hl.symm
  obtain⟨rfl,rfl⟩:=this;rw[show n+1+k=(n+k)+1 by omega];exact .inr ⟨hs,g_1,#[],by simp,λ w=>Qkf (hst undef undef) w,Qp8 hn q⟩
def Zj{d k n:Nat}{g:Goroutine}(h:Qm P t false n g=some [])(q:QuitsD P k d (Qj P t false n g)):QuitsD P (n+k) d g:=Qp8 (Qdf h) q
def Zea{d k:Nat}{g g':Goroutine}{st sm:Value}{es:Array Event}(hs:g.status=.running)(h:Qc P t false g undef undef=.go g' st sm es [])(hm:∀e∈es,Event.mute e=true)(q:QuitsD P k (deafBehind d es) g'):QuitsD P (k+1) d g:=
 .inr ⟨hs,g',es,hm,λ w=>Qkf h w,q⟩
def SE.info:SE->Option (Value×Value×Array Event×List (Nat×Bool))
 |.go _ st sm es bs=>some (st,sm,es,bs)
 |_=>none
def SE.of_info{s:SE}{g:Goroutine}{st sm:Value}{es:Array Event}{bs:List (Nat×Bool)}(h:s.info=some (st,sm,es,bs)):s=.go (s.get g) st sm es bs:=by
 cases s <;> simp only[SE.info,Option.some.injEq,Prod.mk.injEq,reduceCtorEq]at h;obtain⟨rfl,rfl,rfl,rfl⟩:=h;rfl
def W8{g:Goroutine}{st sm:Value}{es:Array Event}{bs:List (Nat×Bool)}(h:(Qc P t m g undef undef).info=some (st,sm,es,bs))(hf:bs.all (!·.2)=true):∀st sm,Qc P t m g st sm=.go ((Qc P t m g undef undef).get g) st sm es bs:=
 (Qwa _ _ _ _ _ _ _ (SE.of_info h) hf).2
def Tl.mute{b d n:Nat}{p:Ph}{g:Goroutine}{st sm:Value}{es:Array Event}{bs:List (Nat×Bool)}(h:(Qc P t false g undef undef).info=some (st,sm,es,bs))(hf:bs.all (!·.2)=true)(hb:Jb b bs)
  (hm:∀e∈es,Event.mute e=true) (k:Tl P t N b n (deafBehind d es) p ((Qc P t false g undef undef).get g)):Tl P t N b (n+1) d p g:=
 ⟨Qn (SE.of_info (g:=g) h),.inl ⟨_,es,bs,hm,hb,W8 h hf,k⟩⟩
def J9{d k:Nat}{g:Goroutine}{st sm:Value}{es:Array Event}(h:(Qc P t false g undef undef).info=some (st,sm,es,[]))(hm:∀e∈es,Event.mute e=true)(q:QuitsD P k (deafBehind d es) ((Qc P t false g undef undef).get g)):QuitsD P (k+1) d g:=
 Zea (Qn (SE.of_info (g:=g) h)) (SE.of_info h) hm q
def Jv:∀{n d k:Nat}{g:Goroutine},QuitsD P n d g->QuitsD P (n+k) d g
 |0,d,k,g,h=>by cases k with|zero=>exact h|succ k=>exact .inl h
 |n+1,d,k,g,h=>by
  rw[show n+1+k=(n+k)+1 by omega];exact h.imp id λ⟨hs,g',es,hm,hst,q⟩=>⟨hs,g',es,hm,hst,Jv q⟩
end Go.TM
namespace Go.TM
variable{P:Program}{t:TypeId}{N:Nat}{m:Bool}{U:Qa Tk}{Stop:Stp Tk}{g:Goroutine}{b d:Nat}{ds:List Spec}{pend:Bool}{k_0:PS}{st sm:Value}{mu:Option MuT}
def Qg:Jb b []:=λ _ h=>by cases h
def Q4{x y:Bool}:Jb b [(b,x),(b,y)]:=λ z h=>by simp at h;rcases h with rfl|rfl <;> rfl
def Zv{x:Bool}:Jb b [(b,x)]:=λ z h=>by simp at h;subst h;rfl
def Jr{x y z w:Bool}:Jb b [(b,x),(b,y),(b,z),(b,w)]:=λ v h=>by simp at h;rcases h with rfl|rfl|rfl|rfl <;> rfl
def J.dis(ht:U.tok=⟨d,.par b ds pend k_0,mu⟩)(h:(Qc P t m g undef undef).info=some (st,sm,#[Z5 .disable],[]))(k:J (Zb P t N) Stop m ((Qc P t m g undef undef).get g) (U.at (d+1) (.par b ds pend k_0))):J (Zb P t N) Stop m g U:=
 .syn (Syn.dis (Qn (SE.of_info (g:=g) h)) ht (W8 h rfl) Qg k)
def J.ena(ht:U.tok=⟨d+1,.par b ds pend k_0,mu⟩)(h:(Qc P t m g undef undef).info=some (st,sm,#[Z5 .enable],[]))(k:J (Zb P t N) Stop m ((Qc P t m g undef undef).get g) (U.at d (.par b ds pend k_0))):J (Zb P t N) Stop m g U:=
 .syn (Syn.ena (Qn (SE.of_info (g:=g) h)) ht (W8 h rfl) Qg k)
def J.said(wr:Bool)(ht:U.tok=⟨1,.par b ds pend k_0,mu⟩)(h:(Qc P t m g undef undef).info=some (st,sm,#[Z5 (bif wr then .write ⟨b,1,none⟩else .read ⟨b,1,none⟩)],[]))(k:J (Zb P t N) Stop m ((Qc P t m g undef undef).get g) U):J (Zb P t N) Stop m g U:=
 .syn (Syn.said (wr:=wr) (Qn (SE.of_info (g:=g) h)) ht (W8 h rfl) Qg k)
def J.acq(ht:U.tok=⟨0,.par b ds false .up,none⟩)(h:(Qc P t m g undef undef).info=some (st,sm,#[Z5 (.acquire ⟨b,0,none⟩)],[]))(k:∀Ms,Qg6 ds Ms->J (Zb P t N) Stop m ((Qc P t m g undef undef).get g) ((U.with Ms.flatten).at 0 .out)):J (Zb P t N) Stop m g U:=
 .syn (Syn.acq (Qn (SE.of_info (g:=g) h)) ht Qg (W8 h rfl) k)
def J.acqM{x:Mux}{u:Bool->Bool}(ht:U.tok=⟨0,.par b ds false .up,some (.par x u)⟩)(h:(Qc P t m g undef undef).info=some (st,sm,#[Z5 (.acquire ⟨b,0,none⟩)],[]))(k:∀Ms M,Qg6 ds Ms->x.sp (u false) (u true) M->J (Zb P t N) Stop m ((Qc P t m g undef undef).get g) { U with M:=(U.M++Ms.flatten)++M,tok:=⟨0,.out,none⟩ }):J (Zb P t N) Stop m g U:=
 .syn (Syn.acqM (Qn (SE.of_info (g:=g) h)) ht Qg (W8 h rfl) k)
def J.add(ht:U.tok=⟨1,.par b ds false .run,mu⟩)(hN:ds.length<N)(h:∀c,c<=ds.length->(Qc P t m g (Q1 c 0) (Qp 0)).info=some (Q1 (c+1) 0,Qp 0,#[Jg b 0,evW b 0],[(b,true),(b,true)]) /\
  J (Zb P t N) Stop m ((Qc P t m g (Q1 c 0) (Qp 0)).get g) (U.at 1 (.par b ds true .run))):J (Zb P t N) Stop m g U:=
 .syn (Syn.add (Qn (SE.of_info (g:=g) (h 0 (Nat.zero_le _)).1)) ht hN λ c hc=>⟨_,_,SE.of_info (g:=g) (h c hc).1,Q4,(h c hc).2⟩)
def J.load{u:Nat}(ht:U.tok=⟨1,.par b ds false k_0,mu⟩)(hk:Qg7 ds u k_0)(h:∀c,c<=u->(Qc P t m g (Q1 c 0) (Qp 0)).info=some (Q1 c 0,Qp 0,#[Jg b 0],[(b,true)]) /\
  (J (Zb P t N) Stop m ((Qc P t m g (Q1 c 0) (Qp 0)).get g) (U.at 1 (.par b ds false (.seen c)))\/(c=0/\J (Zb P t N) Stop m ((Qc P t m g (Q1 c 0) (Qp 0)).get g) (U.at 1 (.par b ds false .up))))):J (Zb P t N) Stop m g U:=
 .syn (Syn.look (Qn (SE.of_info (g:=g) (h 0 (Nat.zero_le _)).1)) ht hk λ c hc=>⟨_,_,Zv,.inl ⟨SE.of_info (g:=g) (h c hc).1,(h c hc).2⟩⟩)
def J.look2{bs:List (Nat×Bool)}(ht:U.tok=⟨1,.par b ds false .up,mu⟩)(hb:Jb b bs)(h:(Qc P t m g (Q1 0 0) (Qp 0)).info=some (Q1 0 0,Qp 0,#[Jg b 0],bs))(k:J (Zb P t N) Stop m ((Qc P t m g (Q1 0 0) (Qp 0)).get g) U):J (Zb P t N) Stop m g U:=
 .syn (Syn.look2 (Qn (SE.of_info (g:=g) h)) ht hb (SE.of_info (g:=g) h) k)
def Zi{x y z:Bool}:Jb b [(b,x),(b,y),(b,z)]:=λ v h=>by simp at h;rcases h with rfl|rfl|rfl <;> rfl
def Q5h:∀{n:Nat}{g g':Goroutine},Qcf P t m n g=some (g',[])->J (Zb P t N) Stop m g' U->J (Zb P t N) Stop m g U
 |0,g,g',h,k=>by simp only[Qcf,Option.some.injEq,Prod.mk.injEq]at h;rw[h.1];exact k
 |n+1,g,g',h,k=>by
  obtain⟨g_1,bs,l',hs,hst,hn,hl⟩:=Qh2 h;have:bs=[]/\l'=[]:=by simpa using hl.symm
  obtain⟨rfl,rfl⟩:=this;exact J.still hs (λ w=>Qkf (hst undef undef) w) (Q5h hn k)
def J.calm0{n:Nat}(h:Qm P t m n g=some [])(k:J (Zb P t N) Stop m (Qj P t m n g) U):J (Zb P t N) Stop m g U:=Q5h (Qdf h) k
def J.cas{u:Nat}(ht:U.tok=⟨1,.par b ds false k_0,mu⟩)(hk:Qg7 ds u k_0)(hs:g.status=.running)(h:∀c,c<=u ->
  (∃bs,Jb b bs/\(Qc P t m g (Q1 c 0) (Qp 0)).info=some (Q1 c 0,Qp 0,#[Jg b 0],bs)/\J (Zb P t N) Stop m ((Qc P t m g (Q1 c 0) (Qp 0)).get g) (U.at 1 (.par b ds false (.seen c)))) \/
  (1<=c/\∃bs,Jb b bs/\(Qc P t m g (Q1 c 0) (Qp 0)).info=some (Q1 c 1,Qp 0,#[Jg b 0,evW b 0],bs)/\J (Zb P t N) Stop m ((Qc P t m g (Q1 c 0) (Qp 0)).get g) (U.at 1 (.par b ds false .wait)))):J (Zb P t N) Stop m g U:=
 .syn (Syn.look hs ht hk λ c hc=>by
  rcases h c hc with⟨bs,hb,hi,k⟩|⟨h1,bs,hb,hi,k⟩
  .exact⟨_,bs,hb,.inl ⟨SE.of_info (g:=g) hi,.inl k⟩⟩
  .exact⟨_,bs,hb,.inr ⟨h1,SE.of_info (g:=g) hi,k⟩⟩)
end Go.TM
namespace Go.TM
def Qbi:∀{n:Nat}{l:List Nat},l.Nodup->(∀x∈l,x<n)->l.length<=n
 |0,l,_,h=>by
  cases l with
  |nil=>simp
  |cons a l=>exact absurd (h a (by simp)) (by omega)
 |n+1,l,hn,h=>by
  have h1:(l.erase n).length<=n:=Qbi (hn.erase n) λ x hx=>by
   have h2:=h x (mem_of_mem_erase hx);have h3:=(hn.mem_erase_iff.1 hx).1;omega
  have h4:l.length<=(l.erase n).length+1:=by
   by_cases hm:n∈l
   .rw[length_erase_of_mem hm];omega
   .rw[erase_of_not_mem hm];omega
  omega
def Ja(l:List Nat):Nat:=l.foldl (λ d k=>d||| (1<<<k)) 0
def Qmp(i k:Nat):(1<<<i).testBit k=decide (k=i):=by
 rw[Nat.one_shiftLeft,Nat.testBit_two_pow];by_cases h:i=k
 .subst h;simp
 .simp[h,Ne.symm h]
def Zdo(l:List Nat):∀(d k:Nat),(l.foldl (λ d k=>d||| (1<<<k)) d).testBit k=(d.testBit k|| l.contains k):=by
 induction l with
 |nil=>simp
 |cons a l ih=>
  intro d k;rw[foldl_cons,ih,Nat.testBit_or,Qmp];by_cases h:k=a
  .subst h;simp
  .simp[h,Ne.symm h]
def Wy(l:List Nat)(k:Nat):(Ja l).testBit k=l.contains k:=by simp[Ja,Zdo]
section
variable(A:List (List Nat))
def Ji(i:Nat):List Nat:=A.getD i []
def Qdg(d i:Nat):Nat:=if(Ji A i).all (λ k=>d.testBit k)then d||| (1<<<i)else d
def Zrp(d:Nat):Nat:=(range A.length).foldl (Qdg A) d
def Qcg:Nat->Nat
 |0=>0
 |k+1=>Zrp A (Qcg k)
def Wz:Bool:=decide (Qcg A A.length≠2^A.length-1)
def Qdp(two:Nat):Nat->Nat->Bool
 |0,_=>false
 |s+1,one=>(Ji A one).any λ k=>k==two|| Qdp two s k
def Qos:Bool:=(range A.length).any λ i=>Qdp A i A.length i
structure Qd0(d:Nat)(L:List Nat):Prop where
 bit:∀k,d.testBit k=true↔k∈L
 low:∀k∈L,k<A.length
 nod:L.Nodup
 aft:∀(X Y:List Nat)x,L=X++x::Y->∀k∈Ji A x,k∈Y
variable{A}
def Qd0.nil:Qd0 A 0 []:=⟨by simp,by simp,.nil,λ X Y x h=>by cases X <;> cases h⟩
def Qd0.step{d i:Nat}{L:List Nat}(h:Qd0 A d L)(hi:i<A.length):∃L',Qd0 A (Qdg A d i) L'/\(L'=L\/L'=i::L)/\(i∈L'\/∃k∈Ji A i,k∉L):=by
 unfold Qdg;by_cases hm:i∈L
 .refine⟨L,?_,.inl rfl,.inl hm⟩;split
  .refine⟨λ k=>?_,h.low,h.nod,h.aft⟩;rw[Nat.testBit_or,Bool.or_eq_true,Qmp,h.bit];constructor
   .rintro(h1|h1)
    .exact h1
    .simp at h1;subst h1;exact hm
   .exact .inl
  .exact h
 .by_cases ha:(Ji A i).all (λ k=>d.testBit k)=true
  .rw[if_pos ha];rw[all_eq_true]at ha;refine⟨i::L,⟨λ k=>?_,?_,nodup_cons.2 ⟨hm,h.nod⟩,?_⟩,.inr rfl,.inl (by simp)⟩
   .rw[Nat.testBit_or,Bool.or_eq_true,Qmp,h.bit,mem_cons];constructor
    .rintro(h1|h1)
     .exact .inr h1
     .exact .inl (by simpa using h1)
    .rintro(h1|h1)
     .exact .inr (by simpa using h1)
     .exact .inl h1
   .intro k hk;rcases mem_cons.1 hk with rfl|hk
    .exact hi
    .exact h.low k hk
   .intro X Y x e k hk;cases X with
    |nil=>
     simp only[nil_append,List.cons.injEq]at e;obtain⟨rfl,rfl⟩:=e;exact(h.bit k).1 (ha k hk)
    |cons y X=>
     simp only[cons_append,List.cons.injEq]at e;exact h.aft X Y x e.2 k hk
  .rw[if_neg ha];refine⟨L,h,.inl rfl,.inr ?_⟩
   have:∃k∈Ji A i,¬d.testBit k=true:=by
    apply Classical.byContradiction;intro hn;apply ha;rw[all_eq_true];intro k hk;apply Classical.byContradiction;intro hk';exact hn ⟨k,hk,hk'⟩
   obtain⟨k,hk,hd⟩:=this;exact⟨k,hk,λ hkL=>hd ((h.bit k).2 hkL)⟩
def Qd0.fold:∀{l:List Nat}{d:Nat}{L:List Nat},Qd0 A d L->(∀i∈l,i<A.length)->∃L',Qd0 A (l.foldl (Qdg A) d) L'/\L.length<=L'.length/\(L'.length=L.length->L'=L/\∀i∈l,i∈L\/∃k∈Ji A i,k∉L)
 |[],d,L,h,_=>⟨L,h,Nat.le_refl _,λ _=>⟨rfl,by simp⟩⟩
 |i::l,d,L,h,hl=>by
  obtain⟨L₁,h1,h2,h3⟩:=h.step (hl i (by simp));obtain⟨L₂,k1,k2,k3⟩:=Qd0.fold (l:=l) h1 λ j hj=>hl j (by simp[hj]);refine⟨L₂,k1,?_,λ e=>?_⟩
  .rcases h2 with rfl|rfl
   .exact k2
   .simp at k2;omega
  .rcases h2 with rfl|rfl
   .obtain⟨rfl,k4⟩:=k3 e;refine⟨rfl,λ j hj=>?_⟩;rcases mem_cons.1 hj with rfl|hj
    .exact h3
    .exact k4 j hj
   .simp at k2;omega
def Qd0.round{d:Nat}{L:List Nat}(h:Qd0 A d L):∃L',Qd0 A (Zrp A d) L'/\L.length<=L'.length/\(L'.length=L.length->L'=L/\∀i,i<A.length->i∈L\/∃k∈Ji A i,k∉L):=by
 obtain⟨L',h1,h2,h3⟩:=Qd0.fold (l:=range A.length) h (by simp);exact⟨L',h1,h2,λ e=>⟨(h3 e).1,λ i hi=>(h3 e).2 i (by simpa using hi)⟩⟩
def Qd0.rounds(n:Nat):∃L,Qd0 A (Qcg A n) L/\(n<=L.length\/∀i,i<A.length->i∈L\/∃k∈Ji A i,k∉L):=by
 induction n with
 |zero=>exact⟨[],.nil,.inl (by simp)⟩
 |succ n ih=>
  obtain⟨L,h1,h2⟩:=ih;obtain⟨L',k1,k2,k3⟩:=h1.round;refine⟨L',k1,?_⟩;by_cases e:L'.length=L.length
  .obtain⟨rfl,k4⟩:=k3 e;exact .inr k4
  .rcases h2 with h2|h2
   .exact .inl (by omega)
   .exfalso
    have:∀(l:List Nat)(d:Nat) , (∀i∈l,i<A.length)->(∀k,d.testBit k=true↔k∈L)->∀k,((l.foldl (Qdg A) d).testBit k=true↔k∈L):=by
     intro l
     induction l with
     |nil=>exact λ d _ h k=>h k
     |cons i l ihl=>
      intro d hl hd;refine ihl _ (λ j hj=>hl j (by simp[hj])) λ k=>?_;unfold Qdg;split
      .rename_i ha;rw[all_eq_true]at ha;rcases h2 i (hl i (by simp))with hi|⟨k',hk',hn⟩
       .rw[Nat.testBit_or,Bool.or_eq_true,Qmp,hd];constructor
        .rintro(h|h)
         .exact h
         .simp at h;subst h;exact hi
        .exact .inl
       .exact absurd ((hd k').1 (ha k' hk')) hn
      .exact hd k
    have hb:=this (range A.length) (Qcg A n) (by simp) h1.bit;have hsub:∀x∈L',x∈L:=λ x hx=>(hb x).1 ((k1.bit x).2 hx)
    have hle:L'.length<=L.length:=by
     have:∀{X Y:List Nat},X.Nodup->(∀x∈X,x∈Y)->X.length<=Y.length:=by
      intro X
      induction X with
      |nil=>intro Y _ _;simp
      |cons a X ih=>
       intro Y hn hs;obtain⟨ha,hn⟩:=nodup_cons.1 hn;have hm:=hs a (by simp)
       have:=ih (Y:=Y.erase a) hn λ x hx=>by
        have hxa:x≠a:=λ e=>ha (e▸hx);exact(mem_erase_of_ne hxa).2 (hs x (by simp[hx]))
       rw[length_erase_of_mem hm]at this;have:0<Y.length:=length_pos_of_mem hm;simp only[length_cons];omega
     exact this k1.nod hsub
    omega
def Qvy{two:Nat}:∀{s s' one:Nat},s<=s'->Qdp A two s one=true->Qdp A two s' one=true
 |0,_,_,_,h=>by simp[Qdp]at h
 |s+1,0,_,hs,_=>by omega
 |s+1,s'+1,one,hs,h=>by
  simp only[Qdp,any_eq_true,Bool.or_eq_true]at h ⊢;obtain⟨k,hk,h⟩:=h;exact⟨k,hk,h.imp id (Qvy (by omega))⟩
def Qd0.must{d:Nat}{L:List Nat}(h:Qd0 A d L){two:Nat}:∀(s:Nat)(X Y:List Nat)(x:Nat),L=X++x::Y->Qdp A two s x=true->two∈Y
 |0,_,_,_,_,hm=>by simp[Qdp]at hm
 |s+1,X,Y,x,e,hm=>by
  simp only[Qdp,any_eq_true,Bool.or_eq_true,beq_iff_eq]at hm;obtain⟨k,hk,hm⟩:=hm;have hkY:=h.aft X Y x e k hk;rcases hm with rfl|hm
  .exact hkY
  .obtain⟨Y1,Y2,rfl⟩:=append_of_mem hkY;have:=Qd0.must h s (X++x::Y1) Y2 k (by rw[e];simp) hm;simp[this]
def Zn4(hA:∀i,i<A.length->∀k∈Ji A i,k<A.length):Wz A=Qos A:=by
 obtain⟨L,hL,hst⟩:=Qd0.rounds (A:=A) A.length
 have hfull:(Qcg A A.length=2^A.length-1)↔∀i,i<A.length->i∈L:=by
  constructor
  .intro e i hi;rw[<- hL.bit,e,Nat.testBit_two_pow_sub_one];simpa using hi
  .intro h;refine Nat.eq_of_testBit_eq λ i=>?_;rw[Nat.testBit_two_pow_sub_one];by_cases hi:i<A.length
   .rw[(hL.bit i).2 (h i hi)];simp[hi]
   .have:¬(Qcg A A.length).testBit i=true:=λ hb=>hi (hL.low i ((hL.bit i).1 hb));simp only[Bool.not_eq_true]at this;rw[this];simp[hi]
 have key:Qos A=true↔¬ ∀i,i<A.length->i∈L:=by
  unfold Qos;rw[any_eq_true];constructor
  .rintro⟨i,hi,hm⟩ hall;have hi':i<A.length:=by simpa using hi
   obtain⟨X,Y,e⟩:=append_of_mem (hall i hi');have hY:=hL.must _ X Y i e hm;have hn:=hL.nod;rw[e,nodup_append]at hn;exact(nodup_cons.1 hn.2.1).1 hY
  .intro hn
   obtain⟨i0,hi_0,hm_0⟩:∃i,i<A.length/\i∉L:=by
    apply Classical.byContradiction;intro h;exact hn λ i hi=>Classical.byContradiction λ hm=>h ⟨i,hi,hm⟩
   have hst:∀i,i<A.length->i∉L->∃k,k∈Ji A i/\k∉L:=by
    intro i hi hm;rcases hst with hst|hst
    .exfalso
     have h1:=Qbi (n:=A.length) (l:=i::L) (nodup_cons.2 ⟨hm,hL.nod⟩) (by
      intro x hx;rcases mem_cons.1 hx with rfl|hx
      .exact hi
      .exact hL.low x hx)
     simp at h1;omega
    .exact(hst i hi).resolve_left hm
   let f:Nat->Nat:=λ i=>if h:i<A.length/\i∉L then Classical.choose (hst i h.1 h.2)else i
   have hf:∀i,i<A.length->i∉L->f i∈Ji A i/\f i∉L/\f i<A.length:=by
    intro i h1 h2;have h3:=Classical.choose_spec (hst i h1 h2);have h4:f i=Classical.choose (hst i h1 h2):=by simp only[f];rw[dif_pos ⟨h1,h2⟩]
    rw[<- h4]at h3;exact⟨h3.1,h3.2,hA i h1 _ h3.1⟩
   let g:Nat->Nat:=λ n=>Nat.rec i0 (λ _ x=>f x) n
   have gs:∀n,g (n+1)=f (g n):=λ n=>rfl
   have hg:∀n,g n<A.length/\g n∉L:=by
    intro n
    induction n with
    |zero=>exact⟨hi_0,hm_0⟩
    |succ n ih=>rw[gs];exact⟨(hf _ ih.1 ih.2).2.2,(hf _ ih.1 ih.2).2.1⟩
   obtain⟨a,b,hab,hb,e⟩:∃a b,a<b/\b<=A.length/\g a=g b:=by
    apply Classical.byContradiction;intro hno
    have hinj:∀n,n<=A.length+1->((range n).map g).Nodup:=by
     intro n
     induction n with
     |zero=>intro _;simp
     |succ n ih=>
      intro hn;rw[range_succ,map_append,nodup_append];refine⟨ih (by omega),by simp,?_⟩;intro x hx y hy exy;obtain⟨j,hj,rfl⟩:=mem_map.1 hx;simp at hy hj;subst hy;exact hno ⟨j,n,hj,by omega,exy⟩
    have h1:=Qbi (hinj (A.length+1) (Nat.le_refl _)) (n:=A.length) (by
     intro x hx;obtain⟨j,_,rfl⟩:=mem_map.1 hx;exact(hg j).1)
    simp at h1;omega
   have hp:∀n a,Qdp A (g (a+n+1)) (n+1) (g a)=true:=by
    intro n
    induction n with
    |zero=>
     intro a;simp only[Qdp,any_eq_true,Bool.or_false,beq_iff_eq];exact⟨g (a+1),(hf _ (hg a).1 (hg a).2).1,rfl⟩
    |succ n ih=>
     intro a;rw[Qdp,any_eq_true];refine⟨g (a+1),(hf _ (hg a).1 (hg a).2).1,?_⟩;rw[Bool.or_eq_true];right;have:=ih (a+1)
     rwa [show a+1+n+1=a+(n+1)+1 by omega]at this
   refine⟨g a,by simpa using(hg a).1,?_⟩;obtain⟨n,rfl⟩:∃n,b=a+n+1:=⟨b-a-1,by omega⟩;have:=hp n a;rw[<- e]at this;exact Qvy (by omega) this
 unfold Wz;by_cases h:∀i,i<A.length->i∈L
 .have h1:=hfull.2 h;have h2:¬Qos A=true:=λ h3=>(key.1 h3) h;simp only[Bool.not_eq_true]at h2;rw[h2,h1];simp
 .have h1:Qcg A A.length≠2^A.length-1:=λ e=>h (hfull.1 e);rw[key.2 h];simp[h1]
def Q6e(h:Wz A=false):∃L,Qd0 A (Qcg A A.length) L/\∀i,i<A.length->i∈L:=by
 obtain⟨L,hL,-⟩:=Qd0.rounds (A:=A) A.length;refine⟨L,hL,λ i hi=>?_⟩;unfold Wz at h;have h:Qcg A A.length=2^A.length-1:=by simpa using h
 rw[<- hL.bit,h,Nat.testBit_two_pow_sub_one];simpa using hi
end
section
variable{α:Type}
def parts:List α->Nat->List (List α)
 |_,0=>[[]]
 |[],_+1=>[]
 |a::l,m+1=>(parts l m).map (a::·)++parts l (m+1)
def Qdr(l:List α):parts l 0=[[]]:=by cases l <;> rfl
def Qc6:∀{l:List α}{m:Nat}{p:List α},p∈parts l m↔p.Sublist l/\p.length=m
 |l,0,p=>by
  rw[Qdr,mem_singleton];constructor
  .rintro rfl;exact⟨nil_sublist _,rfl⟩
  .rintro⟨_,h⟩;exact eq_nil_of_length_eq_zero h
 |[],m+1,p=>by
  simp only[parts,not_mem_nil,false_iff];rintro⟨h,hl⟩;rw[sublist_nil.1 h]at hl;cases hl
 |a::l,m+1,p=>by
  simp only[parts,mem_append,mem_map];constructor
  .rintro(⟨q,hq,rfl⟩|h)
   .obtain⟨h1,h2⟩:=Qc6.1 hq;exact⟨h1.cons_cons a,by simp[h2]⟩
   .obtain⟨h1,h2⟩:=Qc6.1 h;exact⟨h1.cons a,h2⟩
  .rintro⟨h,hl⟩;cases h with
   |cons _ h=>exact .inr (Qc6.2 ⟨h,hl⟩)
   |cons_cons _ h=>exact .inl ⟨_,Qc6.2 ⟨h,by simpa using hl⟩,rfl⟩
def Q6f{l:List α}{i m:Nat}{a:α}(h:l[i]?=some a):parts (l.drop i) (m+1)=(parts (l.drop (i+1)) m).map (a::·)++parts (l.drop (i+1)) (m+1):=by
 obtain⟨hi,rfl⟩:=List.getElem?_eq_some_iff.1 h;rw[drop_eq_getElem_cons hi];rfl
def Qzk{l:List α}{i m:Nat}(h:l.length<=i):parts (l.drop i) (m+1)=[]:=by
 rw[drop_eq_nil_of_le h];rfl
end
def Zpr{n:Nat}{p:List Nat}(h:∀k∈p,k<n):Ja p<2^n:=by
 refine Nat.lt_pow_two_of_testBit _ λ i hi=>?_;rw[Wy];have:i∉p:=λ hm=>by have:=h i hm;omega
 simpa using this
section
variable(A:List (List Nat))(out:Nat->Bool)
def Qam:Nat->Nat->Nat->Bool
 |0,i,k=>(Ji A i).contains k
 |s+1,i,k=>(Ji A i).contains k|| (Ji A i).any λ o=>out o&&Qam s o k
def wl1(af:List Nat)(i k:Nat):List Nat:=if(af.getD i 0).testBit k&&out k then af.set i (af.getD i 0||| af.getD k 0)else af
def wlI(n:Nat)(af:List Nat)(i:Nat):List Nat:=(range n).foldl (λ af k=>wl1 out af i k) af
def wlR(n:Nat)(af:List Nat):List Nat:=(range n).foldl (λ af i=>wlI out n af i) af
def wlN(n:Nat):Nat->List Nat->List Nat
 |0,af=>af
 |s+1,af=>wlN n s (wlR out n af)
variable{A out}
def Qiy{s i k:Nat}:Qam A out (s+1) i k=true↔(Ji A i).contains k=true\/∃o,o∈Ji A i/\out o=true/\Qam A out s o k=true:=by
 rw[Qam,Bool.or_eq_true,any_eq_true];simp only[Bool.and_eq_true]
def Qiz{s i k:Nat}(h:(Ji A i).contains k=true):Qam A out s i k=true:=by
 cases s <;> simp only[Qam,h,Bool.true_or]
def Qfs:∀{s s' i k:Nat},s<=s'->Qam A out s i k=true->Qam A out s' i k=true
 |0,s',_,_,_,h=>Qiz h
 |s+1,0,_,_,h,_=>by omega
 |s+1,s'+1,i,k,h,hb=>by
  simp only[Qam,Bool.or_eq_true,any_eq_true,Bool.and_eq_true]at hb ⊢;exact hb.imp id λ⟨o,h1,h2,h3⟩=>⟨o,h1,h2,Qfs (by omega) h3⟩
def Qu9:∀{s s' i o k:Nat},Qam A out s i o=true->out o=true->Qam A out s' o k=true->Qam A out (s+s'+1) i k=true
 |0,s',i,o,k,h1,h2,h3=>by
  rw[Nat.zero_add,Qiy];exact .inr ⟨o,by simpa[Qam]using h1,h2,h3⟩
 |s+1,s',i,o,k,h1,h2,h3=>by
  rw[show s+1+s'+1=(s+s'+1)+1 by omega,Qiy];rcases Qiy.1 h1 with h1|⟨x,a1,a2,a3⟩
  .exact .inr ⟨o,by simpa using h1,h2,Qfs (by omega) h3⟩
  .exact .inr ⟨x,a1,a2,Qu9 a3 h2 h3⟩
def Qu8{d:Nat}{L:List Nat}(h:Qd0 A d L):∀{s i k:Nat}(X Y:List Nat),L=X++i::Y->Qam A out s i k=true->Qam A out Y.length i k=true
 |0,i,k,X,Y,_,hb=>Qfs (Nat.zero_le _) hb
 |s+1,i,k,X,Y,e,hb=>by
  simp only[Qam,Bool.or_eq_true,any_eq_true,Bool.and_eq_true]at hb;rcases hb with hb|⟨o,a1,a2,a3⟩
  .exact Qiz hb
  .obtain⟨Y1,Y2,rfl⟩:=append_of_mem (h.aft X Y i e o a1);have:=Qu8 h (X++i::Y1) Y2 (by rw[e];simp) a3;refine Qfs (s:=Y2.length+1) (by simp) ?_;simp only[Qam,Bool.or_eq_true,any_eq_true,Bool.and_eq_true];exact .inr ⟨o,a1,a2,this⟩
structure WOk(n:Nat)(A:List (List Nat))(out:Nat->Bool)(r:Nat)(af:List Nat):Prop where
 len:af.length=n
 sound:∀i,i<n->∀k,(af.getD i 0).testBit k=true->∃s,Qam A out s i k=true
 full:∀i,i<n->∀k,Qam A out r i k=true->(af.getD i 0).testBit k=true
def Qmo{af:List Nat}{i j v:Nat}(hi:i<af.length):(af.set i v).getD j 0=if j=i then v else af.getD j 0:=by
 rw[getD_eq_getElem?_getD,getElem?_set];by_cases e:i=j
 .subst e;simp[hi]
 .simp[e,Ne.symm e]
def WOk.one{n r i k:Nat}{af:List Nat}(h:WOk n A out r af)(hi:i<n)(hk:k<n):WOk n A out r (wl1 out af i k):=by
 unfold wl1;split
 .rename_i hc;rw[Bool.and_eq_true]at hc;have hl:i<af.length:=by rw[h.len];exact hi
  refine⟨by simpa using h.len,λ j hj x hx=>?_,λ j hj x hx=>?_⟩
  .rw[Qmo hl]at hx;split at hx
   .rename_i e;subst e;rw[Nat.testBit_or,Bool.or_eq_true]at hx;rcases hx with hx|hx
    .exact h.sound j hj x hx
    .obtain⟨s,h1⟩:=h.sound j hi k hc.1;obtain⟨s',h2⟩:=h.sound k hk x hx;exact⟨_,Qu9 h1 hc.2 h2⟩
   .exact h.sound j hj x hx
  .rw[Qmo hl];have:=h.full j hj x hx;split
   .rename_i e;subst e;rw[Nat.testBit_or,this,Bool.true_or]
   .exact this
 .exact h
def Grw(n:Nat)(af af':List Nat):Prop:=af'.length=af.length/\∀i,i<n->∀k,(af.getD i 0).testBit k=true->(af'.getD i 0).testBit k=true
def Grw.refl(n:Nat)(af:List Nat):Grw n af af:=⟨rfl,λ _ _ _ h=>h⟩
def Grw.trans{n:Nat}{a b c:List Nat}(h:Grw n a b)(k:Grw n b c):Grw n a c:=⟨k.1.trans h.1,λ i hi x hx=>k.2 i hi x (h.2 i hi x hx)⟩
def Zrf{n i k:Nat}{af:List Nat}(hl:af.length=n)(hi:i<n):Grw n af (wl1 out af i k):=by
 unfold wl1;split
 .refine⟨by simp,λ j hj x hx=>?_⟩;rw[Qmo (by omega)];split
  .rename_i e;subst e;rw[Nat.testBit_or,hx,Bool.true_or]
  .exact hx
 .exact .refl ..
def Zoz{n r i:Nat}(hi:i<n):∀{l:List Nat}{af:List Nat},(∀k∈l,k<n)->WOk n A out r af ->
  WOk n A out r (l.foldl (λ af k=>wl1 out af i k) af)/\Grw n af (l.foldl (λ af k=>wl1 out af i k) af) /\
  ∀o∈l,(af.getD i 0).testBit o=true->out o=true->∀x,(af.getD o 0).testBit x=true->((l.foldl (λ af k=>wl1 out af i k) af).getD i 0).testBit x=true
 |[],af,_,h=>⟨h,.refl ..,by simp⟩
 |k::l,af,hl,h=>by
  have hk:=hl k (by simp);have h1:=h.one (i:=i) hi hk;have g1:=Zrf (out:=out) (k:=k) h.len hi;obtain⟨h2,g2,h3⟩:=Zoz (l:=l) hi (λ j hj=>hl j (by simp[hj])) h1;refine⟨h2,g1.trans g2,λ o ho hb hout x hx=>?_⟩;rcases mem_cons.1 ho with rfl|ho
  .refine g2.2 i hi x ?_;unfold wl1;rw[if_pos (by rw[hb,hout];rfl),Qmo (by rw[h.len];exact hi),if_pos rfl,Nat.testBit_or,hx,Bool.or_true]
  .exact h3 o ho (g1.2 i hi o hb) hout x (g1.2 o (hl o (by simp[ho])) x hx)
def Zo0{n r:Nat}(hA:∀i,i<n->∀k∈Ji A i,k<n){af0:List Nat}(h_0:WOk n A out r af0):∀{l:List Nat}{af:List Nat},(∀k∈l,k<n)->WOk n A out r af->Grw n af0 af ->
  WOk n A out r (l.foldl (λ af i=>wlI out n af i) af)/\Grw n af (l.foldl (λ af i=>wlI out n af i) af) /\
  ∀i∈l,∀x,Qam A out (r+1) i x=true->((l.foldl (λ af i=>wlI out n af i) af).getD i 0).testBit x=true
 |[],af,_,h,_=>⟨h,.refl ..,by simp⟩
 |i::l,af,hl,h,hg=>by
  have hi:=hl i (by simp);obtain⟨h1,g1,k1⟩:=Zoz (l:=range n) hi (by simp) h;obtain⟨h2,g2,k2⟩:=Zo0 hA h_0 (l:=l) (λ j hj=>hl j (by simp[hj])) h1 (hg.trans g1);refine⟨h2,g1.trans g2,λ j hj x hx=>?_⟩;rcases mem_cons.1 hj with rfl|hj
  .refine g2.2 j hi x ?_;simp only[Qam,Bool.or_eq_true,any_eq_true,Bool.and_eq_true]at hx;rcases hx with hx|⟨o,a1,a2,a3⟩
   .exact h1.full j hi x (Qiz hx)
   .have ho:=hA j hi o a1;exact k1 o (by simpa using ho) (h.full j hi o (Qiz (by simpa using a1))) a2 x (h.full o ho x a3)
  .exact k2 j hj x hx
def WOk.round{n r:Nat}(hA:∀i,i<n->∀k∈Ji A i,k<n){af:List Nat}(h:WOk n A out r af):WOk n A out (r+1) (wlR out n af):=by
 obtain⟨h1,g1,k1⟩:=Zo0 hA h (l:=range n) (by simp) h (.refl ..);exact⟨h1.len,h1.sound,λ i hi x hx=>k1 i (by simpa using hi) x hx⟩
def WOk.rounds{n:Nat}(hA:∀i,i<n->∀k∈Ji A i,k<n):∀{s r:Nat}{af:List Nat},WOk n A out r af->WOk n A out (r+s) (wlN out n s af)
 |0,r,af,h=>h
 |s+1,r,af,h=>by
  have:=WOk.rounds hA (s:=s) (h.round hA);rw[show r+(s+1)=r+1+s by omega];exact this
def WOk.start:WOk A.length A out 0 (A.map Ja):=by
 have key:∀i,i<A.length->(A.map Ja).getD i 0=Ja (Ji A i):=by
  intro i hi;simp[getD_eq_getElem?_getD,Ji,hi]
 refine⟨by simp,λ i hi k hk=>⟨0,?_⟩,λ i hi k hk=>?_⟩
 .rw[key i hi,Wy]at hk;exact hk
 .rw[key i hi,Wy];exact hk
def Zsz(hA:∀i,i<A.length->∀k∈Ji A i,k<A.length)(hl:Wz A=false){i k:Nat}(hi:i<A.length) :
  ((wlN out A.length A.length (A.map Ja)).getD i 0).testBit k=Qam A out A.length i k:=by
 have h:=WOk.rounds (out:=out) hA (s:=A.length) WOk.start;rw[Nat.zero_add]at h;obtain⟨L,hL,hall⟩:=Q6e hl;rw[Bool.eq_iff_iff];constructor
 .intro hb;obtain⟨s,hs⟩:=h.sound i hi k hb;obtain⟨X,Y,e⟩:=append_of_mem (hall i hi);have:=Qu8 hL X Y e hs;refine Qfs ?_ this;have h1:=Qbi hL.nod hL.low;rw[e]at h1;simp at h1;omega
 .exact h.full i hi k
end
end Go.TM
namespace Go.TM
variable{P:Program}{t:TypeId}{N:Nat}{m:Bool}{U:Qa Tk}{Stop:Stp Tk}{g:Goroutine}{b d:Nat}{D:Spec}{x:Mux}{s:Bool}{me:LP}{lo:Nat}{st sm:Value}
def wI(c:Nat):Nat:=if c=1 then 1 else 0
def LP.cls_le(q:LP):q.cls<=2:=by cases q <;> simp[LP.cls]
def LP.word_idle{q:LP}{a c:Nat}(h:LP.word .idle q=some (a,c)):a=wI q.cls/\c=0:=by
 cases q with
 |own v=>cases v <;> simp_all[LP.word,LP.cls,wI]
 |_=>first|(simp_all[LP.word,LP.cls,wI];done)|(simp[LP.word,LP.cls,wI]at h ⊢;omega)
def LP.word_got{q:LP}{a c:Nat}(h:LP.word .idle q=some (a,c))(hc:q.cls≠1):LP.word .got q=some (1,0):=by
 cases q <;> simp_all[LP.word,LP.cls]
def LP.word_wai{q:LP}{a c:Nat}(h:LP.word .idle q=some (a,c))(hc:q.cls=1):LP.word .wai q=some (9,0):=by
 cases q with
 |own v=>cases v <;> simp_all[LP.word,LP.cls]
 |_=>simp_all[LP.word,LP.cls]
def Qgk{n o:Nat}(h:o<2):Zf6 n (Jg n o):=.inr ⟨o,false,h,rfl⟩
def Qou{n o:Nat}(h:o<2):Zf6 n (evW n o):=.inr ⟨o,true,h,rfl⟩
def Zez(ht:U.tok=⟨d,.wrk b D,some (.lok x s me lo)⟩):∀{n:Nat}{g g':Goroutine}{l:List (Nat×Bool)},Qcf P x.t m n g=some (g',l)->Jb x.m l->J (Zb P t N) Stop m g' U->J (Zb P t N) Stop m g U
 |0,g,g',l,h,_,k=>by simp only[Qcf,Option.some.injEq,Prod.mk.injEq]at h;rw[h.1];exact k
 |n+1,g,g',l,h,hl,k=>by
  obtain⟨g_1,bs,l',hs,hst,hn,rfl⟩:=Qh2 h;have k_1:=Zez ht hn (λ y hy=>hl y (mem_append_right _ hy)) k;refine .syn (Syn.mu hs ht λ q st sm hq hw=>⟨g_1,bs,#[],me,st,sm,d,lo,hq,λ y hy=>hl y (mem_append_left _ hy),hst _ _,hw,Nat.le_refl _,rfl,rfl,λ _=>rfl,by simp,rfl,.inl rfl,?_⟩);rw[Qa.lk_self ht];exact k_1
def J.mcalm(ht:U.tok=⟨d,.wrk b D,some (.lok x s me lo)⟩){n:Nat}{l:List (Nat×Bool)}(h:Qm P x.t m n g=some l)(hl:Jb x.m l)(k:J (Zb P t N) Stop m (Qj P x.t m n g) U):J (Zb P t N) Stop m g U:=
 Zez ht (Qdf h) hl k
def J.mdis(ht:U.tok=⟨d,.wrk b D,some (.lok x s me lo)⟩)(h:(Qc P x.t m g undef undef).info=some (st,sm,#[Z5 .disable],[]))(k:J (Zb P t N) Stop m ((Qc P x.t m g undef undef).get g) (U.lk (d+1) b D x s me lo)):J (Zb P t N) Stop m g U:=
 .syn (Syn.mu (Qn (SE.of_info (g:=g) h)) ht λ q st sm hq hw=>⟨_,[],_,me,st,sm,d+1,lo,hq,Qg,W8 h rfl _ _,hw,Nat.le_refl _,rfl,rfl,λ _=>rfl,by intro e he;simp at he;subst he;exact .inl rfl,rfl,.inl rfl,k⟩)
def J.mena(ht:U.tok=⟨d+1,.wrk b D,some (.lok x s me lo)⟩)(h:(Qc P x.t m g undef undef).info=some (st,sm,#[Z5 .enable],[]))(k:J (Zb P t N) Stop m ((Qc P x.t m g undef undef).get g) (U.lk d b D x s me lo)):J (Zb P t N) Stop m g U:=
 .syn (Syn.mu (Qn (SE.of_info (g:=g) h)) ht λ q st sm hq hw=>⟨_,[],_,me,st,sm,d,lo,hq,Qg,W8 h rfl _ _,hw,Nat.le_refl _,rfl,rfl,λ _=>rfl,by intro e he;simp at he;subst he;exact .inl rfl,rfl,.inl rfl,k⟩)
def J.midle(ht:U.tok=⟨d,.wrk b D,some (.lok x s .idle lo)⟩)(hs:g.status=.running)(h:∀c,lo<=c->c<=2 ->
  (∃bs es,Jb x.m bs/\(Qc P x.t m g (Ze (wI c)) (Qp 0)).info=some (Ze (wI c),Qp 0,es,bs)/\(es=#[]\/es=#[Jg x.m 0])/\J (Zb P t N) Stop m ((Qc P x.t m g (Ze (wI c)) (Qp 0)).get g) (U.lk d b D x s .idle c)) \/
  (c≠1/\∃bs,Jb x.m bs/\(Qc P x.t m g (Ze (wI c)) (Qp 0)).info=some (Ze 1,Qp 0,#[Jg x.m 0,evW x.m 0],bs)/\J (Zb P t N) Stop m ((Qc P x.t m g (Ze (wI c)) (Qp 0)).get g) (U.lk d b D x s .got c)) \/
  (c=1/\∃bs,Jb x.m bs/\(Qc P x.t m g (Ze (wI c)) (Qp 0)).info=some (Ze 9,Qp 0,#[Jg x.m 0,evW x.m 0],bs)/\J (Zb P t N) Stop m ((Qc P x.t m g (Ze (wI c)) (Qp 0)).get g) (U.lk d b D x s .wai c))):J (Zb P t N) Stop m g U:=by
 refine .syn (Syn.mu hs ht λ q a c hq hw=>?_);obtain⟨rfl,rfl⟩:=LP.word_idle hw;rcases h q.cls hq q.cls_le with⟨bs,es,hb,hi,he,k⟩|⟨hc,bs,hb,hi,k⟩|⟨hc,bs,hb,hi,k⟩
 .refine⟨_,bs,es,.idle,_,0,d,q.cls,Nat.le_refl _,hb,SE.of_info (g:=g) hi,hw,Nat.le_refl _,rfl,rfl,λ e=>(by cases e),?_,?_,.inl rfl,k⟩
  .rcases he with rfl|rfl
   .simp
   .intro e he;simp at he;subst he;exact Qgk (by omega)
  .rcases he with rfl|rfl <;> rfl
 .exact⟨_,bs,_,.got,1,0,d,q.cls,Nat.le_refl _,hb,SE.of_info (g:=g) hi,LP.word_got hw hc,by simp[LP.cls],rfl,rfl,λ e=>(by cases e),by intro e he;simp at he;rcases he with rfl|rfl;exact Qgk (by omega);exact Qou (by omega),rfl,.inl rfl,k⟩
 .exact⟨_,bs,_,.wai,9,0,d,q.cls,Nat.le_refl _,hb,SE.of_info (g:=g) hi,LP.word_wai hw hc,by simp[LP.cls],rfl,rfl,λ e=>(by cases e),by intro e he;simp at he;rcases he with rfl|rfl;exact Qgk (by omega);exact Qou (by omega),rfl,.inl rfl,k⟩
def J.mwok(ht:U.tok=⟨d,.wrk b D,some (.lok x s .wok lo)⟩)(hs:g.status=.running)(h :
  (∃bs es,Jb x.m bs/\(Qc P x.t m g (Ze 2) (Qp 0)).info=some (Ze 2,Qp 0,es,bs)/\(es=#[]\/es=#[Jg x.m 0])/\J (Zb P t N) Stop m ((Qc P x.t m g (Ze 2) (Qp 0)).get g) (U.lk d b D x s .wok lo)) \/
  (∃bs,Jb x.m bs/\(Qc P x.t m g (Ze 2) (Qp 0)).info=some (Ze 1,Qp 0,#[Jg x.m 0,evW x.m 0],bs)/\J (Zb P t N) Stop m ((Qc P x.t m g (Ze 2) (Qp 0)).get g) (U.lk d b D x s .got lo))):J (Zb P t N) Stop m g U:=by
 refine .syn (Syn.mu hs ht λ q a c hq hw=>?_);obtain⟨rfl,rfl,rfl⟩:q=.fin/\a=2/\c=0:=by cases q <;> simp_all[LP.word]
 rcases h with⟨bs,es,hb,hi,he,k⟩|⟨bs,hb,hi,k⟩
 .refine⟨_,bs,es,.wok,_,0,d,lo,hq,hb,SE.of_info (g:=g) hi,hw,Nat.le_refl _,rfl,rfl,λ e=>(by cases e),?_,?_,.inl rfl,k⟩
  .rcases he with rfl|rfl
   .simp
   .intro e he;simp at he;subst he;exact Qgk (by omega)
  .rcases he with rfl|rfl <;> rfl
 .exact⟨_,bs,_,.got,1,0,d,lo,hq,hb,SE.of_info (g:=g) hi,rfl,by simp[LP.cls],rfl,rfl,λ e=>(by cases e),by intro e he;simp at he;rcases he with rfl|rfl;exact Qgk (by omega);exact Qou (by omega),rfl,.inl rfl,k⟩
def J.mblk(ht:U.tok=⟨d,.wrk b D,some (.lok x s .wai lo)⟩)(hs:g.status=.running)(ho:g.offers=none)(h0:∀st,∃bs,Jb x.m bs/\Qc P x.t m g st (Qp 0)=.blocked { g with status:=.blocked } st (Qp 0) bs)
  {bs:List (Nat×Bool)} (hb:Jb x.m bs) (h1:(Qc P x.t m g (Ze 2) (Qp 1)).info=some (Ze 2,Qp 0,#[Z5 .disable,Jg x.m 1,evW x.m 1,Z5 .enable],bs)) (k:J (Zb P t N) Stop m ((Qc P x.t m g (Ze 2) (Qp 1)).get g) (U.lk d b D x s .wok 2)):J (Zb P t N) Stop m g U:=
 .syn (Syn.mblk hs ho ht h0 ⟨_,bs,hb,SE.of_info (g:=g) h1,k⟩)
def J.macq(ht:U.tok=⟨0,.wrk b D,some (.lok x s .got lo)⟩)(h:(Qc P x.t m g undef undef).info=some (st,sm,#[Z5 (.acquire ⟨x.m,0,none⟩)],[]))
  (k:∀v M,x.sp (if s then v else false) (if s then false else v) M->J (Zb P t N) Stop m ((Qc P x.t m g undef undef).get g) { U with M:=U.M++M,tok:=⟨0,.wrk b D,some (.lok x s (.own v) lo)⟩ }):J (Zb P t N) Stop m g U:=
 .syn (Syn.macq (Qn (SE.of_info (g:=g) h)) ht Qg (W8 h rfl) k)
def J.mown{v:Bool}(ht:U.tok=⟨d,.wrk b D,some (.lok x s (.own v) lo)⟩)(hs:g.status=.running)(h:∀a,a=1\/a=9 ->
  ∃bs es,Jb x.m bs/\(Qc P x.t m g (Ze a) (Qp 0)).info=some (Ze a,Qp 0,es,bs)/\(es=#[]\/es=#[Jg x.m 0])/\J (Zb P t N) Stop m ((Qc P x.t m g (Ze a) (Qp 0)).get g) U):J (Zb P t N) Stop m g U:=by
 refine .syn (Syn.mu hs ht λ q a c hq hw=>?_);obtain⟨ha,rfl⟩:(a=1\/a=9)/\c=0:=by cases q <;> cases v <;> simp_all[LP.word]
 obtain⟨bs,es,hb,hi,he,k⟩:=h a ha;refine⟨_,bs,es,.own v,_,0,d,lo,hq,hb,SE.of_info (g:=g) hi,hw,Nat.le_refl _,rfl,rfl,λ _=>rfl,?_,?_,.inl rfl,by rw[Qa.lk_self ht];exact k⟩
 .rcases he with rfl|rfl
  .simp
  .intro e he;simp at he;subst he;exact Qgk (by omega)
 .rcases he with rfl|rfl <;> rfl
def J.mrel{v:Bool}{M₁ M₂:List Qv}(ht:U.tok=⟨0,.wrk b D,some (.lok x s (.own v) lo)⟩)(hM:U.M=M₁++M₂)(hD:x.sp (if s then v else true) (if s then true else v) M₁)(h:(Qc P x.t m g undef undef).info=some (st,sm,#[Z5 (.releaseMerge ⟨x.m,0,none⟩)],[]))
  (k:J (Zb P t N) Stop m ((Qc P x.t m g undef undef).get g) { U with M:=M₂,tok:=⟨0,.wrk b D,some (.lok x s .rls lo)⟩ }):J (Zb P t N) Stop m g U:=
 .syn (Syn.mrel (Qn (SE.of_info (g:=g) h)) ht Qg hM hD (W8 h rfl) k)
def J.mrls(ht:U.tok=⟨d,.wrk b D,some (.lok x s .rls lo)⟩)(hs:g.status=.running)
  (h1:∃bs,Jb x.m bs/\(Qc P x.t m g (Ze 1) (Qp 0)).info=some (Ze 0,Qp 0,#[Jg x.m 0,evW x.m 0],bs)/\J (Zb P t N) Stop m ((Qc P x.t m g (Ze 1) (Qp 0)).get g) (U.lk d b D x s .fin lo))
  (h9:∃bs,Jb x.m bs/\(Qc P x.t m g (Ze 9) (Qp 0)).info=some (Ze 8,Qp 0,#[Jg x.m 0,evW x.m 0],bs)/\J (Zb P t N) Stop m ((Qc P x.t m g (Ze 9) (Qp 0)).get g) (U.lk d b D x s .unl lo)):J (Zb P t N) Stop m g U:=by
 refine .syn (Syn.mu hs ht λ q a c hq hw=>?_);have he:∀e∈(#[Jg x.m 0,evW x.m 0]:Array Event),Zf6 x.m e:=by intro e he;simp at he;rcases he with rfl|rfl;exact Qgk (by omega);exact Qou (by omega)
 by_cases hq9:q=.wai
 .subst hq9;cases hw;obtain⟨bs,hb,hi,k⟩:=h9;exact⟨_,bs,_,.unl,8,0,d,lo,hq,hb,SE.of_info (g:=g) hi,rfl,by simp[LP.cls],rfl,rfl,λ e=>(by cases e),he,rfl,.inl rfl,k⟩
 .obtain⟨rfl,rfl⟩:a=1/\c=0:=by cases q <;> simp_all[LP.word]
  obtain⟨bs,hb,hi,k⟩:=h1;exact⟨_,bs,_,.fin,0,0,d,lo,hq,hb,SE.of_info (g:=g) hi,by cases q <;> simp_all[LP.word],by simp[LP.cls],rfl,rfl,λ e=>(by cases e),he,rfl,.inl rfl,k⟩
def J.munl(ht:U.tok=⟨d,.wrk b D,some (.lok x s .unl lo)⟩)(hs:g.status=.running)
  (h:∃bs,Jb x.m bs/\(Qc P x.t m g (Ze 8) (Qp 0)).info=some (Ze 2,Qp 0,#[Jg x.m 0,evW x.m 0],bs)/\J (Zb P t N) Stop m ((Qc P x.t m g (Ze 8) (Qp 0)).get g) (U.lk d b D x s .unl2 lo)):J (Zb P t N) Stop m g U:=by
 refine .syn (Syn.mu hs ht λ q a c hq hw=>?_);obtain⟨rfl,rfl,rfl⟩:q=.wai/\a=8/\c=0:=by cases q <;> simp_all[LP.word]
 obtain⟨bs,hb,hi,k⟩:=h;exact⟨_,bs,_,.unl2,2,0,d,lo,hq,hb,SE.of_info (g:=g) hi,rfl,by simp[LP.cls],rfl,rfl,λ e=>(by cases e),by intro e he;simp at he;rcases he with rfl|rfl;exact Qgk (by omega);exact Qou (by omega),rfl,.inl rfl,k⟩
def J.munl2(ht:U.tok=⟨d,.wrk b D,some (.lok x s .unl2 lo)⟩)(hs:g.status=.running)(hmw:mayWake P g=true)
  (h:∃bs,Jb x.m bs/\(Qc P x.t m g (Ze 2) (Qp 0)).info=some (Ze 2,Qp 1,#[Z5 .disable,Jg x.m 1,evW x.m 1,Z5 .enable],bs)/\J (Zb P t N) Stop m ((Qc P x.t m g (Ze 2) (Qp 0)).get g) (U.lk d b D x s .fin lo)):J (Zb P t N) Stop m g U:=by
 refine .syn (Syn.mu hs ht λ q a c hq hw=>?_);obtain⟨rfl,rfl,rfl⟩:q=.wai/\a=2/\c=0:=by cases q <;> simp_all[LP.word]
 obtain⟨bs,hb,hi,k⟩:=h;exact⟨_,bs,_,.fin,2,1,d,lo,hq,hb,SE.of_info (g:=g) hi,rfl,by simp[LP.cls],rfl,rfl,λ e=>(by cases e),by intro e he;simp at he;rcases he with rfl|rfl|rfl|rfl <;> first|exact .inl rfl|exact Qgk (by omega)|exact Qou (by omega),rfl,.inr (.inr hmw),k⟩
end Go.TM
namespace Go.TM
variable{P:Program}{T:Type}{S:Sys P T}{Stop:Stp T}{m:Bool}{g:Goroutine}{U:Qa T}
def Zrk(g:Goroutine):Option (FuncId×Array Value):=
 match g.frame.todo with
 |.inRegion ops (i::_)::_=>(match ops[i]? with
  |some o=>(match Region.wanted o (yielded ops g.frame.tmps)with
   |true=>(match o.op with
    |.call c=>(match c.callee with
     |.value (.func f)=>some (f,c.args.map g.frame.eval)
     |_=>none)
    |_=>none)
   |false=>none)
  |none=>none)
 |_=>none
def aft(g:Goroutine)(v:Value):Goroutine:={ g with frame:=g.frame.finish v }
structure Qjv(P:Program)(g:Goroutine)(f:FuncId)(as:Array Value):Prop where
 run:g=Wn g.frame g.callers
 mode:(match g.frame.mode with|.run=>true|_=>false)=true
 kind:(g.frame.kind==.early)=false
 rnd:g.frame.roundOf.isNone=true
 at_:Zrk g=some (f,as)
def Qjv.open{f:FuncId}{as:Array Value}(h:Qjv P g f as):∃(b:Frame)(a:Act)(ops:Array Oper)(i:Nat)(rest:List Nat)(kk:List Item)(cs:List Frame)(o:Oper)(ats:Array TypeId)(xs:Array Operand),g=Go.Conc.G (b.at a (.inRegion ops (i::rest)::kk)) cs/\ops[i]?=some o/\Region.wanted o (yielded ops a.tmps)=true/\b.kind≠.early /\
  o.op=.call { callee:=.value (.func f),args:=xs,argTypes:=ats }/\xs.map a.eval=as/\∀v,aft g v=Go.Conc.G (b.at (a.put o.dst v) (.inRegion ops rest::kk)) cs:=by
 obtain⟨h1,h2,h3,h5,h4⟩:=h;obtain⟨fr,cs,st,dy,of⟩:=g;simp only[Wn,Goroutine.mk.injEq,true_and]at h1;obtain⟨rfl,rfl,rfl⟩:=h1;obtain⟨fn,tmps,todo,defers,mode,kind,ro⟩:=fr;simp only at h2 h3 h5;obtain rfl:ro=none:=by cases ro <;> simp_all
 cases mode with
 |run=>
  unfold Zrk at h4;simp only at h4;split at h4
  .rename_i ops i rest kk;split at h4
   .rename_i o ho;split at h4
    .rename_i hw;split at h4
     .rename_i c hop;obtain⟨cal,xs,ats⟩:=c;simp only at h4;split at h4
      .cases h4;refine⟨{ fn:=fn,tmps:=tmps,todo:=[],defers:=defers,mode:=.run,kind:=kind,roundOf:=none },⟨tmps,defers⟩,ops,i,rest,kk,cs,o,ats,xs,rfl,ho,hw,λ e=>?_,hop,?_,λ v=>?_⟩
       .simp only at e;rw[e]at h3;cases h3
       .congr 1
       .cases hd:o.dst <;> simp[aft,Go.Conc.G,Frame.at,Frame.finish,Act.put,ho,hd]
      .cases h4
     .cases h4
    .cases h4
   .cases h4
  .cases h4
 |_=>cases h2
def Zdw(U:Qa T)(w:World):Qfb U w w.later U:=
 ⟨⟨w.tick,rfl⟩,rfl,rfl,Nat.le_refl _,λ _ c _ fr h=>⟨c,fr,h,rfl,λ _ _=>rfl,.inl rfl⟩,λ _ _ h _ _=>h,λ _ h=>.inl h,λ _ h=>.inl h⟩
def Zdv(U:Qa T)(w:World):Qfb U w w.asked U:=
 ⟨.refl _,rfl,rfl,Nat.le_refl _,λ _ c _ fr h=>⟨c,fr,h,rfl,λ _ _=>rfl,.inl rfl⟩,λ _ _ h _ _=>h,λ _ h=>.inl h,λ _ h=>.inl h⟩
def J.nano{f:FuncId}{as:Array Value}{fn:Func}(h:Qjv P g f as)(hf:P.funcs[f]?=some fn)(hname:(fn.name== "runtime.NumGoroutine")=false)(hb:fn.body.isNone=true)(hn:Extern.findNext fn=none)(he:Extern.find fn=some Extern.OsHooks.nano)(hq:fn.norace=true)
  (k:∀n:Int,J S Stop m (aft g (.int .i64 n)) U):J S Stop m g U:=by
 obtain⟨b,a,ops,i,rest,kk,cs,o,ats,xs,hg,ho,hw,hk,hop,-,haft⟩:=h.open;refine .priv ⟨by rw[hg];rfl,λ w ok=>⟨_,w.later,#[],U,?_,by simp,Zdw U w,⟨ok.imm,ok.held,ok.apart,ok.sep⟩,rfl,k ((w.os.mono+w.tick:Nat):Int)⟩⟩;rw[haft,hg];exact Go.Conc.stepG_nanotime ho hw hk hop hf hname hb hn he hq
def J.spin{f:FuncId}{k_0:IntKind}{n:Int}{fn:Func}(h:Qjv P g f #[.int k_0 n])(hf:P.funcs[f]?=some fn)(hname:(fn.name== "runtime.NumGoroutine")=false)(hb:fn.body.isNone=true)(hn:Extern.findNext fn=none)(he:Extern.find fn=some Extern.Sync.canSpin)
  (h4:n<4) (k:∀r:Bool,J S Stop m (aft g (.bool r)) U):J S Stop m g U:=by
 obtain⟨b,a,ops,i,rest,kk,cs,o,ats,xs,hg,ho,hw,hk,hop,hx,haft⟩:=h.open;refine .priv ⟨by rw[hg];rfl,λ w ok=>⟨_,w.asked,#[],U,?_,by simp,Zdv U w,⟨ok.imm,ok.held,ok.apart,ok.sep⟩,rfl,k w.spins⟩⟩;rw[haft,hg];exact Go.Conc.stepG_canSpin_ask ho hw hk hop hf hname hb hn he hx h4
end Go.TM
namespace Go.TM
variable{P:Program}{t:TypeId}{N:Nat}{fn:FuncId}{Q:Ex->Act->Qa Tk->Prop}{a:Act}{U:Qa Tk}
def Zsi{ops:Array Oper}{i:Nat}{rest:List Nat}{o:Oper}{x:Operand}{xs:Array Operand}{ats:Array TypeId}{g:FuncId}{first capt:Array Value}{b:Nat}{ds:List Spec}{D:Spec}{Up Uc:Qa Tk}
  (ho:ops[i]?=some o) (hw:Region.wanted o (yielded ops a.tmps)=true) (hop:o.op=.go { callee:=.value x,args:=xs,argTypes:=ats }) (hx:a.eval x=.func (.func g) first capt)
  {mu mu' mc:Option MuT} (ht:U.tok=⟨0,.par b ds true .run,mu⟩) (hf:Q64 U Up Uc) (hp:Up.tok=⟨0,.par b (D::ds) false .run,mu'⟩) (hc:Uc.tok=⟨0,.wrk b D,mc⟩) (hmu:Zpa mu mu' mc)
  (hk:∀Stop,J (Zb P t N) Stop false (Qon P { target:=.fn (.func g) capt,args:=first++xs.map a.eval }) Uc) (hq:Qbm (Zb P t N) fn none ops rest Q (a.put o.dst undef) Up) :
  Qbm (Zb P t N) fn none ops (i::rest) Q a U:=by
 intro Stop m b' k cs hb hcc;refine .syn (Syn.go (X:=J (Zb P t N) Stop) (g':=R b' (a.put o.dst undef) (.inRegion ops rest::k) cs) rfl ht ?_ hf hp hc hmu (hq Stop m b' k cs hb hcc) (hk Stop));have hke:b'.kind≠.early:=hb.2.2.1;have hro:b'.roundOf=none:=hb.2.1;have hev:=Qrd b' a (.inRegion ops (i::rest)::k);have hfin:=Qc5 (b:=b') (a:=a) (k:=k) (rest:=rest) ho undef
 have hsem:execOp a.eval o=(do let d <- resolve a.eval { callee:=.value x,args:=xs,argTypes:=ats } o.type;pure (.spawn d):Sem Next):=by
  unfold execOp;rw[hop]
 have hres:evT P t (execOp a.eval o) undef undef #[] []=.ok (.spawn { target:=.fn (.func g) capt,args:=first++xs.map a.eval }) undef undef #[] []:=by
  rw[hsem];simp only[resolve,hx,Deferred.ofValue];rfl
 show Qc P t m (R b' a (.inRegion ops (i::rest)::k) cs) undef undef=_;unfold Qc R;simp only[fr];unfold Q5u;simp only[ho,hw,hro];simp only[fr]at hev;rw[hro]at hev;rw[hev,hres];unfold Qe6;have:∀(kd:CallKind)(A B:SE),kd≠.early->(match kd with|.early=>A|_=>B)=B:=by intro kd A B h;cases kd <;> first|rfl|exact absurd rfl h
 simp only;cases hkd:b'.kind with
 |early=>exact absurd hkd hke
 |_=>
  simp only[Qv8,Zfe,isEmpty_nil,Bool.and_self,cond_true,Qv4,Wn];simp only[fr,hro,hkd]at hfin ⊢;rw[hfin]
end Go.TM
namespace Go.TM
def Qd3(n m:Nat):Nat:=if m=1/\n % 4=0 then 29 else[31,28,31,30,31,30,31,31,30,31,30,31].getD m 0
def Qct(n:Nat):Nat:=n / 4*1461+n % 4*365+min 1 (n % 4)
def W3(n:Nat):Nat->Nat
 |0=>0
 |m+1=>W3 n m+Qd3 n m
def Wo(k:Nat):Nat:=Qct (k / 12)+W3 (k / 12) (k % 12)
def Qd1(k:Nat):Nat:=Qd3 (k / 12) (k % 12)
def Zs0(n:Nat):Qct (n+1)=Qct n+W3 n 12:=by
 unfold Qct;simp only[W3,Qd3];rcases Nat.lt_or_ge 0 (n % 4)with h|h
 .have:¬n % 4=0:=by omega
  simp[this];omega
 .have:n % 4=0:=by omega
  simp[this];omega
def Qrl{n m:Nat}(h:m<12):28<=Qd3 n m/\Qd3 n m<=31:=by
 unfold Qd3;split
 .omega
 .have:∀m,m<12->28<=[31,28,31,30,31,30,31,31,30,31,30,31].getD m 0/\[31,28,31,30,31,30,31,31,30,31,30,31].getD m 0<=31:=by decide
  exact this m h
def Qrf(k:Nat):28<=Qd1 k/\Qd1 k<=31:=Qrl (Nat.mod_lt _ (by omega))
def Qbz(k:Nat):Wo (k+1)=Wo k+Qd1 k:=by
 unfold Wo Qd1;rcases Nat.lt_or_ge (k % 12) 11 with h|h
 .rw[show(k+1) / 12=k / 12 by omega,show(k+1) % 12=k % 12+1 by omega];simp only[W3];omega
 .rw[show(k+1) / 12=k / 12+1 by omega,show(k+1) % 12=0 by omega,show k % 12=11 by omega,Zs0];simp only[W3];omega
def Qc7{a b:Nat}(h:a<=b):Wo a<=Wo b:=by
 induction b with
 |zero=>rw[Nat.le_zero.mp h];exact Nat.le_refl _
 |succ b ih=>
  rcases Nat.lt_or_ge b a with l|l
  .rw[show a=b+1 by omega];exact Nat.le_refl _
  .have:=ih l;rw[Qbz];omega
def Qot:Wo 1200=36525:=by decide
def Qf0(k d c:Nat):Nat:=if 1200<=k+c then 36524 else Wo (k+c)+min (d+1) (Qd1 (k+c))-1
def Q59(k d c:Nat):Qf0 k d c<=36524:=by
 unfold Qf0;split
 .exact Nat.le_refl _
 .have h:=Qc7 (a:=k+c+1) (b:=1200) (by omega);rw[Qot,Qbz]at h;have:=Qrf (k+c);omega
def Zd4{k d c k' d' c':Nat}(hd:d<Qd1 k)(hd':d'<Qd1 k')(h:Wo k+d<=Wo k'+d')(hc:c<=c'):Qf0 k d c<=Qf0 k' d' c':=by
 have hk:k<=k':=by
  rcases Nat.lt_or_ge k' k with l|l
  .have:=Qc7 (a:=k'+1) (b:=k) l;rw[Qbz]at this;omega
  .exact l
 rcases Nat.lt_or_ge (k'+c') 1200 with l|l
 .rcases Nat.lt_or_ge (k+c) (k'+c')with m|m
  .have h1:=Qc7 (a:=k+c+1) (b:=k'+c') m;rw[Qbz]at h1;have:=Qrf (k+c);have:=Qrf (k'+c');unfold Qf0;rw[if_neg (by omega),if_neg (by omega)];omega
  .have e:k=k':=by omega
   subst e;have e:c=c':=by omega
   subst e;unfold Qf0;rw[if_neg (by omega),if_neg (by omega)];omega
 .have:=Q59 k d c;rw[show Qf0 k' d' c'=36524 by unfold Qf0;rw[if_pos l]];exact this
def Zix(n:Nat)(h:n<36525):∃k d,k<1200/\d<Qd1 k/\n=Wo k+d:=by
 have key:∀j,∀n<Wo j,∃k d,k<j/\d<Qd1 k/\n=Wo k+d:=by
  intro j
  induction j with
  |zero=>intro n h;exact absurd h (by show ¬n<0;omega)
  |succ j ih=>
   intro n h;rcases Nat.lt_or_ge n (Wo j)with l|l
   .obtain⟨k,d,h1,h2⟩:=ih n l;exact⟨k,d,by omega,h2⟩
   .rw[Qbz]at h;exact⟨j,n-Wo j,by omega,by omega,by omega⟩
 exact key 1200 n (by rw[Qot];exact h)
def Ztv(o:Nat->Bool):Nat->Nat->Nat
 |0,_=>36524
 |f+1,d=>if o d then d else Ztv o f (d+1)
def nxt(o:Nat->Bool)(d:Nat):Nat:=Ztv o (36525-d) d
def Qvz{o:Nat->Bool}{d:Nat}(h:d<=36524):nxt o d=if o d then d else nxt o (d+1):=by
 unfold nxt;rw[show 36525-d=36525-(d+1)+1 by omega];rfl
def Q1c(o:Nat->Bool){d:Nat}(h:36524<d):nxt o d=36524:=by
 unfold nxt;rw[show 36525-d=0 by omega];rfl
def Zd5{o:Nat->Bool}:∀{n d:Nat},d+n=36525->nxt o d<=36524/\(d<=36524->d<=nxt o d)
 |0,d,h=>by rw[Q1c o (by omega)];omega
 |n+1,d,h=>by
  have:=Zd5 (o:=o) (n:=n) (d:=d+1) (by omega);rw[Qvz (by omega)];split
  .omega
  .refine⟨this.1,λ _=>?_⟩;rcases Nat.lt_or_ge d 36524 with l|l
   .have:=this.2 (by omega);omega
   .rw[Q1c o (by omega)];omega
def Zqi{o:Nat->Bool}{d:Nat}(h:d<=36524):nxt o d<=36524:=(Zd5 (o:=o) (n:=36525-d) (d:=d) (by omega)).1
def Zn7{o:Nat->Bool}{a b:Nat}(h:a<=b)(hb:b<=36524):nxt o a<=nxt o b:=by
 obtain⟨n,rfl⟩:∃n,b=a+n:=⟨b-a,by omega⟩
 induction n with
 |zero=>exact Nat.le_refl _
 |succ n ih=>
  refine Nat.le_trans (ih (by omega) (by omega)) ?_;rw[Qvz (d:=a+n) (by omega)];split
  .have:=(Zd5 (o:=o) (n:=36525-(a+(n+1))) (d:=a+(n+1)) (by omega)).2 (by omega);omega
  .exact Nat.le_refl _
def Qia(u s c k d:Nat):Nat:=if u=0 then min 36524 (s+c)else if u=1 then min 36524 (s+c*7)else Qf0 k d c
def Qvt(u s c k d:Nat):Qia u s c k d<=36524:=by
 unfold Qia;split
 .omega
 .split
  .omega
  .exact Q59 k d c
def Zd0{u s c k d s' c' k' d':Nat}(hs:s=Wo k+d)(hs':s'=Wo k'+d')(hd:d<Qd1 k)(hd':d'<Qd1 k')(h:s<=s')(hc:c<=c'):Qia u s c k d<=Qia u s' c' k' d':=by
 unfold Qia;split
 .omega
 .split
  .omega
  .exact Zd4 hd hd' (by omega) hc
def Zi0{o:Nat->Bool}{u s c k d s' c' k' d':Nat}(hs:s=Wo k+d)(hs':s'=Wo k'+d')(hd:d<Qd1 k)(hd':d'<Qd1 k')(h:s<=s')(hc:c<=c'):nxt o (Qia u s c k d)<=nxt o (Qia u s' c' k' d'):=
 Zn7 (Zd0 hs hs' hd hd' h hc) (Qvt ..)
end Go.TM
