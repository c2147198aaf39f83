/- Lemmas. No conditions. -/
import Derived.Test.YtnpfcnfhfkflhaaGreatDoorC00
set_option linter.all false
open List
namespace Go.TM
variable{b:Bk}
def Bk.every_asc(b:Bk):b.every.Pairwise (· < ·):=pairwise_map.2 (pairwise_lt_range.imp λ h=>O1)
def Bk.every_len(b:Bk):b.every.length=b.cs.length:=by simp[Bk.every]
def Q4x:∀{l b:List Int},l.Pairwise (· < ·)->b.Pairwise (· < ·)->(∀x,x∈l↔x∈b)->l=b
 |[],[],_,_,_=>rfl
 |[],y::b,_,_,h=>by have:=(h y).2 (mem_cons_self ..);cases this
 |x::l,[],_,_,h=>by have:=(h x).1 (mem_cons_self ..);cases this
 |x::l,y::b,n,o,h=>by
  obtain⟨g,j⟩:=pairwise_cons.1 n;obtain⟨i,m⟩:=pairwise_cons.1 o
  have f:x=y:=by
   have p:=(h x).1 (mem_cons_self ..);have q:=(h y).2 (mem_cons_self ..);rcases mem_cons.1 p with e|e
   .exact e
   .rcases mem_cons.1 q with d|d
    .exact d.symm
    .have:=i x e;have:=g y d;omega
  subst f;rw[Q4x j m λ z=>?_];constructor
  .intro hz;rcases mem_cons.1 ((h z).1 (mem_cons_of_mem _ hz))with e|e
   .have:=g z hz;omega
   .exact e
  .intro hz;rcases mem_cons.1 ((h z).2 (mem_cons_of_mem _ hz))with e|e
   .have:=i z hz;omega
   .exact e
def Q4v{n:Int}:∀{l:List Int}{p:Option Int},J1 n p l=0->l.Pairwise (· < ·)/\∀m,p=some m->∀x∈l,m<x
 |[],_,_=>⟨.nil,λ _ _ x b=>by cases b⟩
 |y::l,p,h=>by
  rw[Wm]at h;by_cases d:btw y 0 (n-1)=true
  .rw[if_pos d]at h
   have f:J1 n (some y) l=0/\∀m,p=some m->m<y:=by
    cases p with
    |none=>exact⟨h,λ _ e=>by cases e⟩
    |some m=>
     simp only at h;split at h
     .cases h
     .exact⟨h,λ _ e=>by cases e;omega⟩
   obtain⟨j,g⟩:=Q4v f.1;refine⟨pairwise_cons.2 ⟨g y rfl,j⟩,λ m e x b=>?_⟩;have i:=f.2 m e;rcases mem_cons.1 b with rfl|b
   .exact i
   .have:=g y rfl x b;omega
  .rw[if_neg d]at h;cases h
def Q4u{l:List Nat}(h:l.Nodup){i j x:Nat}(n:l[i]?=some x)(o:l[j]?=some x):i=j:=by
 obtain⟨g,d⟩:=List.getElem?_eq_some_iff.1 n;obtain⟨m,f⟩:=List.getElem?_eq_some_iff.1 o;rw[nodup_iff_pairwise_ne,pairwise_iff_getElem]at h;rcases Nat.lt_trichotomy i j with b|e|b
 .exact absurd (d.trans f.symm) (h i j g m b)
 .exact e
 .exact absurd (f.trans d.symm) (h j i m g b)
def Qjj(g:b.Ok){out:Nat->Bool}{i k:Nat}(j:i<b.cs.length):QP b.A out b.cs.length i k=true↔∃s,QP b.A out s i k=true:=by
 refine⟨λ h=>⟨_,h⟩,λ⟨s,h⟩=>?_⟩;obtain⟨L,f,d⟩:=DM g.lo;rw[b.A_n]at d f;obtain⟨X,Y,e⟩:=append_of_mem (d i j);refine PI ?_ (E0 f X Y e h);have:=H7 f.nod (n:=b.cs.length) λ x l=>by rw[<- b.A_n];exact f.low x l
 rw[e]at this;simp at this;omega
def Bk.wo_none(d:b.Ok):b.wo (WR []).testBit=b:=by
 have t:∀k,(WR []).testBit k=false:=λ k=>by simp[WR,Z7]
 have u:b.kept (WR []).testBit=range b.cs.length:=by
  unfold Bk.kept;rw[filter_eq_self];intro k _;rw[t];rfl
 have j:(b.wo (WR []).testBit).cs=b.cs:=by
  show(b.kept (WR []).testBit).map _=_;rw[u]
  conv=>rhs;rw[<- b.cas_all]
  refine map_congr_left λ i f=>?_;rw[mem_range]at f;have r:=Bk.mem_cas f;have m:=(Q4v (d.ri _ r)).1;have l:=d.af _ r;have e:Je b.A i=(b.cas i).af.map Int.toNat:=by simp[Je,Bk.A,Bk.cas,getD_eq_getElem?_getD,f]
  have g:((range (range b.cs.length).length).filter λ p=>QP b.A (WR []).testBit b.cs.length i ((range b.cs.length).getD p 0)).map (λ(p:Nat)=>(p:Int))=(b.cas i).af:=by
   refine Q4x (pairwise_map.2 ((pairwise_lt_range.filter _).imp λ h=>O1)) m λ x=>?_;simp only[mem_map,mem_filter,mem_range,length_range]
   have q:∀k,QP b.A (WR []).testBit b.cs.length i k=true↔k∈Je b.A i:=λ k=>by
    rw[Qjj d f];constructor
    .rintro⟨s,hs⟩;cases s with
     |zero=>simpa[QP]using hs
     |succ s=>
      rcases Kq.1 hs with h|⟨o,-,h,-⟩
      .simpa using h
      .rw[t]at h;cases h
    .intro h;exact⟨0,Yv (by simpa using h)⟩
   constructor
   .rintro⟨p,⟨hp,h⟩,rfl⟩;rw[getD_eq_getElem?_getD,getElem?_range hp]at h;exact Bk.aft_cas d f ((q _).1 h)
   .intro hx;have n:=l x hx;unfold Bk.nc at n;refine⟨x.toNat,⟨O1,?_⟩,O1⟩;rw[getD_eq_getElem?_getD,getElem?_range O1];refine(q _).2 ?_;rw[e];exact mem_map.2 ⟨x,hx,rfl⟩
  rw[g]
 have:(b.wo (WR []).testBit)=⟨(b.wo (WR []).testBit).rs,(b.wo (WR []).testBit).cs⟩:=rfl;rw[this,j];rfl
def Q0m{A:List (List Nat)}{D b:Nat->Bool}{x:Nat}(g:∀k,b k=(D k|| k==x)){k:Nat}:∀(s i:Nat),QP A b s i k=true->(∃s,QP A D s i k=true)\/(∃s,QP A D s i x=true)/\∃s,QP A D s x k=true
 |0,i,h=>.inl ⟨0,Yv (by simpa[QP]using h)⟩
 |s+1,i,h=>by
  rcases Kq.1 h with h|⟨o,e,f,m⟩
  .exact .inl ⟨0,Yv h⟩
  .have ih:=Q0m g s o m;rw[g]at f;by_cases j:o=x
   .subst j;have d:∃s,QP A D s i o=true:=⟨0,Yv (by simpa using e)⟩;rcases ih with h|⟨-,h⟩
    .exact .inr ⟨d,h⟩
    .exact .inr ⟨d,h⟩
   .have hDo:D o=true:=by simpa[j]using f
    have st:∀{z:Nat},(∃s,QP A D s o z=true)->∃s,QP A D s i z=true:=λ⟨s,n⟩=>⟨s+1,Kq.2 (.inr ⟨o,e,hDo,n⟩)⟩;rcases ih with h|⟨h,l⟩
    .exact .inl (st h)
    .exact .inr ⟨st h,l⟩
def Qlg{A:List (List Nat)}{D b:Nat->Bool}(d:∀k,D k=true->b k=true){k:Nat}:∀(s i:Nat),QP A D s i k=true->QP A b s i k=true
 |0,i,h=>by simpa[QP]using h
 |s+1,i,h=>by
  rcases Kq.1 h with h|⟨o,e,f,g⟩
  .exact Kq.2 (.inl h)
  .exact Kq.2 (.inr ⟨o,e,d o f,Qlg d s o g⟩)
def Q4z{out:Nat->Bool}{x n:Nat}(e:x<n)(b:∀k,k<=x->out k=false):((range n).filter λ i=>!out i)[x]?=some x:=by
 obtain⟨m,rfl⟩:∃m,n=(x+1)+m:=⟨n-(x+1),O1⟩;rw[range_add,filter_append,getElem?_append_left]
 .rw[filter_eq_self.2 λ k d=>by rw[mem_range]at d;rw[b k O1];rfl];rw[getElem?_range O1]
 .rw[filter_eq_self.2 λ k d=>by rw[mem_range]at d;rw[b k O1];rfl];simp
def Bk.wo_cas(out:Nat->Bool){p i:Nat}(h:(b.kept out)[p]?=some i):(b.wo out).cas p={ b.cas i with af:=((range (b.kept out).length).filter λ q=>QP b.A out b.cs.length i ((b.kept out).getD q 0)).map λ(p:Nat)=>(p:Int) }:=by
 unfold Bk.wo Bk.cas;simp[getD_eq_getElem?_getD,h]
def Bk.wo_more(v:b.Ok){D m:Nat->Bool}{x:Nat}(hx:x<b.cs.length)(M:∀k,m k=(D k|| k==x))(J:∀k,k<=x->D k=false):(b.wo D).wo (λ k=>k==x)=b.wo m:=by
 have ho:=v.wo D;have hK:=Q4z (out:=D) hx J;have f:(b.kept D)[x]?=some x:=hK;have N:(b.wo D).cs.length=(b.kept D).length:=b.wo_nc D
 have I:∀p i,(b.kept D)[p]?=some i->i<b.cs.length/\D i=false:=λ p i h=>by
  obtain⟨r,H⟩:=mem_filter.1 (mem_of_getElem? h);exact⟨mem_range.1 r,by simpa using H⟩
 have Q:(b.kept D).Nodup:=nodup_range.filter _
 have u:b.kept m=((b.wo D).kept λ k=>k==x).map λ p=>(b.kept D).getD p 0:=by
  have G:b.kept m=(b.kept D).filter λ k=>!(k==x):=by
   unfold Bk.kept;rw[filter_filter];refine filter_congr λ k _=>?_;rw[M];cases D k <;> simp
  have O:b.kept D=(range (b.kept D).length).map λ p=>(b.kept D).getD p 0:=by
   apply ext_getElem?;intro p;by_cases e:p<(b.kept D).length
   .simp[e]
   .rw[getElem?_eq_none O1,getElem?_eq_none S3]
  rw[G]
  conv=>lhs;rw[O]
  rw[filter_map];unfold Bk.kept;rw[N];congr 1;refine filter_congr λ p e=>?_;rw[mem_range]at e;have K:p<(b.kept D).length:=e;show(!((b.kept D).getD p 0==x))=!(p==x);congr 1;rw[Bool.eq_iff_iff,beq_iff_eq,beq_iff_eq,getD_eq_getElem?_getD,getElem?_eq_getElem K];constructor
  .intro h;have r:(b.kept D)[p]?=some x:=by rw[getElem?_eq_getElem K];exact congrArg some h
   exact Q4u Q r f
  .rintro rfl;obtain⟨ab,W⟩:=List.getElem?_eq_some_iff.1 f;exact W
 have t:∀k,D k=true->m k=true:=λ k h=>by rw[M,h];rfl
 have P:m x=true:=by rw[M];simp
 have d:∀p i,(b.kept D)[p]?=some i->∀q j,(b.kept D)[q]?=some j->(q∈Je (b.wo D).A p↔∃s,QP b.A D s i j=true):=λ p i e q j g=>by
  have S:=(List.getElem?_eq_some_iff.1 e).1;have T:=(List.getElem?_eq_some_iff.1 g).1;rw[b.wo_aft D S,mem_filter,mem_range];have G:(b.kept D).getD p 0=i:=by rw[getD_eq_getElem?_getD,e];rfl
  have O:(b.kept D).getD q 0=j:=by rw[getD_eq_getElem?_getD,g];rfl
  rw[G,O,Qjj v (I p i e).1];exact⟨λ h=>h.2,λ h=>⟨T,h⟩⟩
 have n:∀(s p i:Nat),(b.kept D)[p]?=some i->∀q j,(b.kept D)[q]?=some j->QP (b.wo D).A (λ k=>k==x) s p q=true->∃s,QP b.A m s i j=true:=by
  intro s
  induction s with
  |zero=>
   intro p i e q j g h;obtain⟨s,C⟩:=(d p i e q j g).1 (by simpa[QP]using h);exact⟨s,Qlg t s i C⟩
  |succ s ih=>
   intro p i e q j g h;rcases Kq.1 h with h|⟨o,r,H,Z⟩
   .obtain⟨s,C⟩:=(d p i e q j g).1 (by simpa using h);exact⟨s,Qlg t s i C⟩
   .obtain rfl:o=x:=by simpa using H
    obtain⟨s1,U⟩:=(d p i e o o f).1 r;obtain⟨s2,V⟩:=ih o o f q j g Z;exact⟨_,Lm (Qlg t s1 i U) P V⟩
 have F:∀(p i:Nat),(b.kept D)[p]?=some i->∀q j,(b.kept D)[q]?=some j->(∃s,QP b.A m s i j=true)->∃s,QP (b.wo D).A (λ k=>k==x) s p q=true:=by
  rintro p i e q j g⟨s,C⟩;rcases Q0m M s i C with h|⟨r,H⟩
  .exact⟨0,Yv (by simpa using(d p i e q j g).2 h)⟩
  .refine⟨1,Kq.2 (.inr ⟨x,(d p i e x x f).2 r,S1,Yv (by simpa using(d x x f q j g).2 H)⟩)⟩
 have R:((b.wo D).wo λ k=>k==x).cs=(b.wo m).cs:=by
  show List.map _ _=List.map _ _;rw[u,map_map];refine map_congr_left λ p e=>?_;obtain⟨w,aa⟩:=mem_filter.1 e;rw[mem_range,N]at w;obtain⟨i,l⟩:∃i,(b.kept D)[p]?=some i:=⟨_,getElem?_eq_getElem w⟩;have G:(b.kept D).getD p 0=i:=by rw[getD_eq_getElem?_getD,l];rfl
  show _=_;simp only[Function.comp];rw[G,b.wo_cas D l];simp only[Cs.mk.injEq,true_and];rw[length_map];congr 1;refine filter_congr λ q g=>?_;rw[mem_range]at g;obtain⟨E,z⟩:∃E,((b.wo D).kept λ k=>k==x)[q]?=some E:=⟨_,getElem?_eq_getElem g⟩;have X:((b.wo D).kept λ k=>k==x).getD q 0=E:=by rw[getD_eq_getElem?_getD,z];rfl
  obtain⟨L,-⟩:=mem_filter.1 (mem_of_getElem? z);rw[mem_range,N]at L;obtain⟨j,B⟩:∃j,(b.kept D)[E]?=some j:=⟨_,getElem?_eq_getElem L⟩
  have Y:(((b.wo D).kept λ k=>k==x).map λ p=>(b.kept D).getD p 0).getD q 0=j:=by
   rw[getD_eq_getElem?_getD,getElem?_map,z];show(b.kept D).getD E 0=j;rw[getD_eq_getElem?_getD,B];rfl
  rw[X,Y,Bool.eq_iff_iff,Qjj ho (by rw[N];exact w),Qjj v (I p i l).1];exact⟨λ⟨s,C⟩=>n s p i l E j B C,λ hh=>F p i l E j B hh⟩
 have:((b.wo D).wo λ k=>k==x)=⟨b.rs,((b.wo D).wo λ k=>k==x).cs⟩:=rfl;rw[this,R];rfl
def Bk.Ord.before{o:List Nat}(f:b.Ok)(d:b.Ord o){out:Nat->Bool}{k:Nat}:∀(s i:Nat)(X Y:List Nat),o=X++i::Y->QP b.A out s i k=true->k∈X
 |0,i,X,Y,e,h=>d.aft X i Y e k (by simpa[QP]using h)
 |s+1,i,X,Y,e,h=>by
  rcases Kq.1 h with h|⟨q,m,-,n⟩
  .exact d.aft X i Y e k (by simpa using h)
  .have hq:=d.aft X i Y e q m;obtain⟨j,l,g⟩:=append_of_mem hq;have:=Bk.Ord.before f d s q j (l++i::Y) (by rw[e,g];simp) n;rw[g];simp[this]
def Bk.restO(b:Bk)(out:Nat->Bool)(o:List Nat):List Nat:=o.flatMap λ a=>(range (b.kept out).length).filter λ k=>(b.kept out).getD k 0==a
def Bk.restO_map(out:Nat->Bool):∀{o:List Nat},(∀i∈o,i<b.cs.length)->(b.restO out o).map (λ k=>(b.kept out).getD k 0)=o.filter λ i=>!out i
 |[],_=>rfl
 |a::o,h=>by
  have q:=Bk.restO_map out (o:=o) λ i z=>h i (mem_cons_of_mem _ z);have v:=h a (mem_cons_self ..);unfold Bk.restO at q ⊢;rw[flatMap_cons,map_append,q,filter_cons];have l:(b.kept out).Nodup:=nodup_range.filter _;have f:a∈b.kept out↔out a=false:=by unfold Bk.kept;rw[mem_filter,mem_range];simp[v]
  have n:((range (b.kept out).length).filter λ k=>(b.kept out).getD k 0==a).map (λ k=>(b.kept out).getD k 0)=(b.kept out).filter λ k=>k==a:=by
   have r:b.kept out=(range (b.kept out).length).map λ p=>(b.kept out).getD p 0:=by
    apply ext_getElem?;intro p;by_cases A:p<(b.kept out).length
    .simp[A]
    .rw[getElem?_eq_none O1,getElem?_eq_none S3]
   conv=>rhs;rw[r]
   rw[filter_map];rfl
  rw[n];cases d:out a with
  |true=>
   have m:a∉b.kept out:=λ w=>by rw[f.1 w]at d;cases d
   rw[filter_eq_nil_iff.2 λ k g=>by rw[beq_iff_eq];rintro rfl;exact m g];simp
  |false=>
   obtain⟨X,Y,e⟩:=append_of_mem (f.2 d);have j:=l;rw[e]at j ⊢;rw[nodup_append]at j;have t:X.filter (λ k=>k==a)=[]:=filter_eq_nil_iff.2 λ k g=>by rw[beq_iff_eq];exact j.2.2 k g a (mem_cons_self ..)
   have u:Y.filter (λ k=>k==a)=[]:=filter_eq_nil_iff.2 λ k g=>by rw[beq_iff_eq];rintro rfl;exact(nodup_cons.1 j.2.1).1 g
   rw[filter_append,filter_cons,t,u];simp
def Bk.restO_ord(D:b.Ok)(out:Nat->Bool){o:List Nat}(n:b.Ord o):(b.wo out).Ord (b.restO out o):=by
 have f:=Bk.restO_map (b:=b) out n.low;have J:(b.wo out).cs.length=(b.kept out).length:=b.wo_nc out
 have d:∀k∈b.restO out o,k<(b.kept out).length:=λ k r=>by
  obtain⟨a,-,h⟩:=mem_flatMap.1 r;exact mem_range.1 (mem_filter.1 h).1
 have C:(b.restO out o).Nodup:=by
  have l:((b.restO out o).map λ k=>(b.kept out).getD k 0).Nodup:=by rw[f];exact n.nod.filter _
  exact Pairwise.of_map (S:=(·≠·)) _ (λ x y E e=>E (by rw[e])) l
 have t:(b.restO out o).length=(b.kept out).length:=by
  have l:=congrArg List.length f;rw[length_map]at l;rw[l]
  have T:(o.filter λ i=>!out i).Perm (b.kept out):=by
   refine(perm_ext_iff_of_nodup (n.nod.filter _) (nodup_range.filter _)).2 λ a=>?_;rw[mem_filter,mem_filter,mem_range];exact⟨λ⟨l,v⟩=>⟨n.low a l,v⟩,λ⟨l,v⟩=>⟨n.has l,v⟩⟩
  exact T.length_eq
 refine⟨by rw[t,J],λ k r=>by rw[J];exact d k r,C,λ X k Y e j I=>?_⟩;have r:=d k (by rw[e];simp);rw[b.wo_aft out r,mem_filter,mem_range]at I;obtain⟨g,A⟩:=I;have H:=f;rw[e,map_append,map_cons]at H;obtain⟨u,U,M,N,O⟩:=filter_eq_append_iff.1 H.symm;obtain⟨F,L,P,Q,V,W⟩:=filter_eq_cons_iff.1 O;have R:(b.kept out).getD j 0∈u++F:=Bk.Ord.before D n b.cs.length _ (u++F) L (by rw[M,P];simp) A;have B:(b.kept out).getD j 0∈b.kept out:=by rw[getD_eq_getElem?_getD,getElem?_eq_getElem g];exact getElem_mem g
 have q:(!out ((b.kept out).getD j 0))=true:=(mem_filter.1 B).2
 have z:(b.kept out).getD j 0∈u:=by
  rcases mem_append.1 R with h|h
  .exact h
  .exact absurd q (Q _ h)
 have:(b.kept out).getD j 0∈X.map λ k=>(b.kept out).getD k 0:=by rw[<- N];exact mem_filter.2 ⟨z,q⟩
 obtain⟨K,p,G⟩:=mem_map.1 this;have m:=d K (by rw[e];simp[p]);have w:(b.kept out).Nodup:=nodup_range.filter _;rw[getD_eq_getElem?_getD,getD_eq_getElem?_getD,getElem?_eq_getElem m,getElem?_eq_getElem g]at G;have:K=j:=Q4u w (getElem?_eq_getElem m) (by rw[getElem?_eq_getElem g];exact congrArg some G.symm);exact this▸p
end Go.TM

