/- Lemmas. No conditions. -/
import Derived.Test.YtnpfcnfhfkflhaaGreatDoorC03
set_option linter.all false
open List
namespace Go.TM
variable{b:Bk}
def Zc3:∀{l:List Int}{m:Nat},l.Pairwise (· < ·)->(parts l m).Pairwise λ x y=>Qp3 x y=true
 |l,0,_=>by rw[P4];exact pairwise_singleton ..
 |[],m+1,_=>.nil
 |a::l,m+1,h=>by
  obtain⟨e,d⟩:=pairwise_cons.1 h;rw[show parts (a::l) (m+1)=(parts l m).map (a::·)++parts l (m+1) from rfl,pairwise_append];refine⟨pairwise_map.2 ((Zc3 d).imp λ{x y}b=>by simpa[Qp3]using b),Zc3 d,λ x j y o=>?_⟩;obtain⟨q,-,rfl⟩:=mem_map.1 j;obtain⟨f,g⟩:=Gk.1 o;cases y with
  |nil=>cases g
  |cons c y=>
   have:=e c (f.subset (mem_cons_self ..));simp only[Qp3];rw[if_neg O1];simpa using this
def Zom{l:List Int}{p:List Int->Bool}(u:l.Pairwise (· < ·)):∀(n m:Nat){x:List Int},WP l p m n=some x ->
  x.Sublist l/\p x=true/\∀y:List Int,y.Sublist l->p y=true->m<=y.length->x.length<y.length\/x.length=y.length/\Qp3 y x=false
 |0,m,x,h=>by cases h
 |n+1,m,x,h=>by
  rw[BW]at h;cases g:(parts l m).find? p with
  |some z=>
   rw[g]at h;obtain rfl:z=x:=Option.some.inj h;obtain⟨B,X,Y,e,w⟩:=find?_eq_some_iff_append.1 g;obtain⟨o,t⟩:=Gk.1 (show z∈parts l m by rw[e];simp);refine⟨o,B,λ y j d A=>?_⟩;by_cases b:y.length=m
   .refine .inr ⟨O1,?_⟩;have f:=Gk.2 ⟨j,b⟩;have q:=Zc3 (m:=m) u;rw[e]at f q;rw[pairwise_append]at q;rcases mem_append.1 f with h|h
    .have:=w y h;rw[d]at this;cases this
    .rcases mem_cons.1 h with rfl|h
     .exact Zpx _
     .exact Zon _ _ ((pairwise_cons.1 q.2.1).1 y h)
   .exact .inl O1
  |none=>
   rw[g]at h;obtain⟨o,t,v⟩:=Zom u n (m+1) h;refine⟨o,t,λ y j d A=>?_⟩;by_cases b:y.length=m
   .have:=find?_eq_none.1 g y (Gk.2 ⟨j,b⟩);exact absurd d this
   .exact v y j d O1
def Zol{l:List Int}{p:List Int->Bool}:∀(n m:Nat),WP l p m n=none->∀y:List Int,y.Sublist l->m<=y.length->y.length<m+n->p y=false
 |0,m,_,y,_,f,g=>O1
 |n+1,m,h,y,e,f,g=>by
  rw[BW]at h;cases d:(parts l m).find? p with
  |some z=>rw[d]at h;cases h
  |none=>
   rw[d]at h;by_cases b:y.length=m
   .simpa using find?_eq_none.1 d y (Gk.2 ⟨e,b⟩)
   .exact Zol n (m+1) h y e O1 O1
def Bk.every_asc(b:Bk):b.every.Pairwise (· < ·):=pairwise_map.2 (pairwise_lt_range.imp λ h=>O1)
def Bk.every_len(b:Bk):b.every.length=b.cs.length:=by simp[Bk.every]
def Zqv{y:List Int}(h:∀n∈y,0<=n)(k:Nat):(WR y).testBit k=true↔(k:Int)∈y:=by
 unfold WR;rw[Wz,contains_iff_mem,mem_map];constructor
 .rintro⟨n,hn,e⟩;have:=h n hn;have:n=(k:Int):=O1
  exact this▸hn
 .intro hk;exact⟨_,hk,S1⟩
def Bk.every_pos{y:List Int}(h:y.Sublist b.every):∀n∈y,0<=n:=λ n d=>by
 obtain⟨k,-,rfl⟩:=mem_map.1 (h.subset d);omega
def Zqz:∀{l b:List Int},l.Pairwise (· < ·)->b.Pairwise (· < ·)->(∀x,x∈l↔x∈b)->l=b
 |[],[],_,_,_=>rfl
 |[],y::b,_,_,h=>by have:=(h y).2 (mem_cons_self ..);cases this
 |x::l,[],_,_,h=>by have:=(h x).1 (mem_cons_self ..);cases this
 |x::l,y::b,q,t,h=>by
  obtain⟨g,m⟩:=pairwise_cons.1 q;obtain⟨j,o⟩:=pairwise_cons.1 t
  have f:x=y:=by
   have u:=(h x).1 (mem_cons_self ..);have v:=(h y).2 (mem_cons_self ..);rcases mem_cons.1 u with e|e
   .exact e
   .rcases mem_cons.1 v with d|d
    .exact d.symm
    .have:=j x e;have:=g y d;omega
  subst f;rw[Zqz m o λ z=>?_];constructor
  .intro hz;rcases mem_cons.1 ((h z).1 (mem_cons_of_mem _ hz))with e|e
   .have:=g z hz;omega
   .exact e
  .intro hz;rcases mem_cons.1 ((h z).2 (mem_cons_of_mem _ hz))with e|e
   .have:=j z hz;omega
   .exact e
def Zqw{n:Int}:∀{l:List Int}{p:Option Int},J1 n p l=0->l.Pairwise (· < ·)/\∀m,p=some m->∀x∈l,m<x
 |[],_,_=>⟨.nil,λ _ _ x b=>by cases b⟩
 |y::l,p,h=>by
  rw[Wm]at h;by_cases d:btw y 0 (n-1)=true
  .rw[if_pos d]at h
   have f:J1 n (some y) l=0/\∀m,p=some m->m<y:=by
    cases p with
    |none=>exact⟨h,λ _ e=>by cases e⟩
    |some m=>
     simp only at h;split at h
     .cases h
     .exact⟨h,λ _ e=>by cases e;omega⟩
   obtain⟨o,g⟩:=Zqw f.1;refine⟨pairwise_cons.2 ⟨g y rfl,o⟩,λ m e x b=>?_⟩;have j:=f.2 m e;rcases mem_cons.1 b with rfl|b
   .exact j
   .have:=g y rfl x b;omega
  .rw[if_neg d]at h;cases h
def Zr1(g:b.Ok){out:Nat->Bool}{i k:Nat}(j:i<b.cs.length):QP b.A out b.cs.length i k=true↔∃s,QP b.A out s i k=true:=by
 refine⟨λ h=>⟨_,h⟩,λ⟨s,h⟩=>?_⟩;obtain⟨L,f,d⟩:=DM g.lo;rw[b.A_n]at d f;obtain⟨X,Y,e⟩:=append_of_mem (d i j);refine PI ?_ (E0 f X Y e h);have:=H7 f.nod (n:=b.cs.length) λ x m=>by rw[<- b.A_n];exact f.low x m
 rw[e]at this;simp at this;omega
def Bk.wo_none(d:b.Ok):b.wo (WR []).testBit=b:=by
 have w:∀k,(WR []).testBit k=false:=λ k=>by simp[WR,Z7]
 have z:b.kept (WR []).testBit=range b.cs.length:=by
  unfold Bk.kept;rw[filter_eq_self];intro k _;rw[w];rfl
 have j:(b.wo (WR []).testBit).cs=b.cs:=by
  show(b.kept (WR []).testBit).map _=_;rw[z]
  conv=>rhs;rw[<- b.cas_all]
  refine map_congr_left λ i f=>?_;rw[mem_range]at f;have v:=Bk.mem_cas f;have q:=(Zqw (d.ri _ v)).1;have m:=d.af _ v;have e:Je b.A i=(b.cas i).af.map Int.toNat:=by simp[Je,Bk.A,Bk.cas,getD_eq_getElem?_getD,f]
  have g:((range (range b.cs.length).length).filter λ p=>QP b.A (WR []).testBit b.cs.length i ((range b.cs.length).getD p 0)).map (λ(p:Nat)=>(p:Int))=(b.cas i).af:=by
   refine Zqz (pairwise_map.2 ((pairwise_lt_range.filter _).imp λ h=>O1)) q λ x=>?_;simp only[mem_map,mem_filter,mem_range,length_range]
   have u:∀k,QP b.A (WR []).testBit b.cs.length i k=true↔k∈Je b.A i:=λ k=>by
    rw[Zr1 d f];constructor
    .rintro⟨s,hs⟩;cases s with
     |zero=>simpa[QP]using hs
     |succ s=>
      rcases Kq.1 hs with h|⟨o,-,h,-⟩
      .simpa using h
      .rw[w]at h;cases h
    .intro h;exact⟨0,Yv (by simpa using h)⟩
   constructor
   .rintro⟨p,⟨hp,h⟩,rfl⟩;rw[getD_eq_getElem?_getD,getElem?_range hp]at h;exact Bk.aft_cas d f ((u _).1 h)
   .intro hx;have t:=m x hx;unfold Bk.nc at t;refine⟨x.toNat,⟨O1,?_⟩,O1⟩;rw[getD_eq_getElem?_getD,getElem?_range O1];refine(u _).2 ?_;rw[e];exact mem_map.2 ⟨x,hx,rfl⟩
  rw[g]
 have:(b.wo (WR []).testBit)=⟨(b.wo (WR []).testBit).rs,(b.wo (WR []).testBit).cs⟩:=rfl;rw[this,j];rfl
def Bk.Ord.before{o:List Nat}(f:b.Ok)(d:b.Ord o){out:Nat->Bool}{k:Nat}:∀(s i:Nat)(X Y:List Nat),o=X++i::Y->QP b.A out s i k=true->k∈X
 |0,i,X,Y,e,h=>d.aft X i Y e k (by simpa[QP]using h)
 |s+1,i,X,Y,e,h=>by
  rcases Kq.1 h with h|⟨q,t,-,u⟩
  .exact d.aft X i Y e k (by simpa using h)
  .have hq:=d.aft X i Y e q t;obtain⟨j,m,g⟩:=append_of_mem hq;have:=Bk.Ord.before f d s q j (m++i::Y) (by rw[e,g];simp) u;rw[g];simp[this]
end Go.TM

