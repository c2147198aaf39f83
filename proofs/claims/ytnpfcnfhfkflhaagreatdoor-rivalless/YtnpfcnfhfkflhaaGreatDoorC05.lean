/- Lemmas. No conditions. -/
import Derived.Test.YtnpfcnfhfkflhaaGreatDoorC03
set_option linter.all false
open List
namespace Go.TM
variable{b:Bk}
def Zod:∀{l:List Int}{m:Nat},l.Pairwise (· < ·)->(parts l m).Pairwise λ x y=>Qqa x y=true
 |l,0,_=>by rw[P4];exact pairwise_singleton ..
 |[],m+1,_=>.nil
 |a::l,m+1,h=>by
  obtain⟨e,d⟩:=pairwise_cons.1 h;rw[show parts (a::l) (m+1)=(parts l m).map (a::·)++parts l (m+1) from rfl,pairwise_append];refine⟨pairwise_map.2 ((Zod d).imp λ{x y}b=>by simpa[Qqa]using b),Zod d,λ x j y o=>?_⟩;obtain⟨q,-,rfl⟩:=mem_map.1 j;obtain⟨f,g⟩:=Gk.1 o;cases y with
  |nil=>cases g
  |cons c y=>
   have:=e c (f.subset (mem_cons_self ..));simp only[Qqa];rw[if_neg O1];simpa using this
def Q4w{l:List Int}{p:List Int->Bool}(t:l.Pairwise (· < ·)):∀(n m:Nat){x:List Int},WP l p m n=some x ->
  x.Sublist l/\p x=true/\∀y:List Int,y.Sublist l->p y=true->m<=y.length->x.length<y.length\/x.length=y.length/\Qqa y x=false
 |0,m,x,h=>by cases h
 |n+1,m,x,h=>by
  rw[BW]at h;cases f:(parts l m).find? p with
  |some z=>
   rw[f]at h;obtain rfl:z=x:=Option.some.inj h;obtain⟨A,X,Y,e,v⟩:=find?_eq_some_iff_append.1 f;obtain⟨j,q⟩:=Gk.1 (show z∈parts l m by rw[e];simp);refine⟨j,A,λ y g c w=>?_⟩;by_cases b:y.length=m
   .refine .inr ⟨O1,?_⟩;have d:=Gk.2 ⟨g,b⟩;have o:=Zod (m:=m) t;rw[e]at d o;rw[pairwise_append]at o;rcases mem_append.1 d with h|h
    .have:=v y h;rw[c]at this;cases this
    .rcases mem_cons.1 h with rfl|h
     .exact Zp7 _
     .exact Zpp _ _ ((pairwise_cons.1 o.2.1).1 y h)
   .exact .inl O1
  |none=>
   rw[f]at h;obtain⟨j,q,u⟩:=Q4w t n (m+1) h;refine⟨j,q,λ y g c w=>?_⟩;by_cases b:y.length=m
   .have:=find?_eq_none.1 f y (Gk.2 ⟨g,b⟩);exact absurd c this
   .exact u y g c O1
def Q4v{l:List Int}{p:List Int->Bool}:∀(n m:Nat),WP l p m n=none->∀y:List Int,y.Sublist l->m<=y.length->y.length<m+n->p y=false
 |0,m,_,y,_,e,f=>O1
 |n+1,m,h,y,d,e,f=>by
  rw[BW]at h;cases c:(parts l m).find? p with
  |some z=>rw[c]at h;cases h
  |none=>
   rw[c]at h;by_cases b:y.length=m
   .simpa using find?_eq_none.1 c y (Gk.2 ⟨d,b⟩)
   .exact Q4v n (m+1) h y d O1 O1
def Bk.every_asc(b:Bk):b.every.Pairwise (· < ·):=pairwise_map.2 (pairwise_lt_range.imp λ h=>O1)
def Bk.every_len(b:Bk):b.every.length=b.cs.length:=by simp[Bk.every]
def Zk8{y:List Int}(h:∀n∈y,0<=n)(k:Nat):(WR y).testBit k=true↔(k:Int)∈y:=by
 unfold WR;rw[Wz,contains_iff_mem,mem_map];constructor
 .rintro⟨n,hn,e⟩;have:=h n hn;have:n=(k:Int):=O1
  exact this▸hn
 .intro hk;exact⟨_,hk,S1⟩
def Bk.every_pos{y:List Int}(h:y.Sublist b.every):∀n∈y,0<=n:=λ n c=>by
 obtain⟨k,-,rfl⟩:=mem_map.1 (h.subset c);omega
def Bk.wd_ag(c:b.Ok){r:Nat}(q:r<b.rs.length):b.wdP r (b.every.filter λ n=>(b.cas n.toNat).ag==(r:Int))=true:=by
 have t:(b.every.filter λ n=>(b.cas n.toNat).ag==(r:Int)).Sublist b.every:=filter_sublist;unfold Bk.wdP;rw[beq_iff_eq];have o:=c.wo (WR (b.every.filter λ n=>(b.cas n.toNat).ag==(r:Int))).testBit;refine Bk.safe_stands _ o q λ i m v=>?_;exfalso
 obtain⟨j,g,e⟩:∃j∈b.kept (WR (b.every.filter λ n=>(b.cas n.toNat).ag==(r:Int))).testBit,((b.wo (WR (b.every.filter λ n=>(b.cas n.toNat).ag==(r:Int))).testBit).cas i).ag=(b.cas j).ag:=by
  obtain⟨j,g,e⟩:=mem_map.1 (Bk.mem_cas m);exact⟨j,g,by rw[<- e]⟩
 obtain⟨d,h⟩:=mem_filter.1 g;rw[mem_range]at d;have u:=(c.ag _ (Bk.mem_cas d)).1
 have f:(j:Int)∈b.every.filter λ n=>(b.cas n.toNat).ag==(r:Int):=by
  rw[mem_filter];refine⟨mem_map.2 ⟨j,mem_range.2 d,rfl⟩,?_⟩;rw[Int.toNat_natCast,beq_iff_eq];omega
 rw[(Zk8 (Bk.every_pos t) j).2 f]at h;cases h
def Bk.wd_facts(d:b.Ok){r:Nat}(o:r<b.rs.length):(b.wdL r).Sublist b.every/\b.wdP r (b.wdL r)=true /\
  (∀y:List Int,y.Sublist b.every->b.wdP r y=true->(b.wdL r).length<y.length\/(b.wdL r).length=y.length/\Qqa y (b.wdL r)=false):=by
 unfold Bk.wdL;cases h:WP b.every (b.wdP r) 0 (b.cs.length+1)with
 |some x=>
  obtain⟨f,g,j⟩:=Q4w b.every_asc _ _ h;exact⟨f,g,λ y q m=>j y q m (Nat.zero_le _)⟩
 |none=>
  have e:(b.every.filter λ n=>(b.cas n.toNat).ag==(r:Int)).Sublist b.every:=filter_sublist;have c:=e.length_le;rw[b.every_len]at c;have:=Q4v _ _ h _ e (Nat.zero_le _) O1;rw[Bk.wd_ag d o]at this;cases this
def Zq7:∀{l b:List Int},l.Pairwise (· < ·)->b.Pairwise (· < ·)->(∀x,x∈l↔x∈b)->l=b
 |[],[],_,_,_=>rfl
 |[],y::b,_,_,h=>by have:=(h y).2 (mem_cons_self ..);cases this
 |x::l,[],_,_,h=>by have:=(h x).1 (mem_cons_self ..);cases this
 |x::l,y::b,o,q,h=>by
  obtain⟨f,j⟩:=pairwise_cons.1 o;obtain⟨g,m⟩:=pairwise_cons.1 q
  have d:x=y:=by
   have t:=(h x).1 (mem_cons_self ..);have u:=(h y).2 (mem_cons_self ..);rcases mem_cons.1 t with e|e
   .exact e
   .rcases mem_cons.1 u with c|c
    .exact c.symm
    .have:=g x e;have:=f y c;omega
  subst d;rw[Zq7 j m λ z=>?_];constructor
  .intro hz;rcases mem_cons.1 ((h z).1 (mem_cons_of_mem _ hz))with e|e
   .have:=f z hz;omega
   .exact e
  .intro hz;rcases mem_cons.1 ((h z).2 (mem_cons_of_mem _ hz))with e|e
   .have:=g z hz;omega
   .exact e
def Zq2{n:Int}:∀{l:List Int}{p:Option Int},J1 n p l=0->l.Pairwise (· < ·)/\∀m,p=some m->∀x∈l,m<x
 |[],_,_=>⟨.nil,λ _ _ x b=>by cases b⟩
 |y::l,p,h=>by
  rw[Wm]at h;by_cases c:btw y 0 (n-1)=true
  .rw[if_pos c]at h
   have d:J1 n (some y) l=0/\∀m,p=some m->m<y:=by
    cases p with
    |none=>exact⟨h,λ _ e=>by cases e⟩
    |some m=>
     simp only at h;split at h
     .cases h
     .exact⟨h,λ _ e=>by cases e;omega⟩
   obtain⟨j,f⟩:=Zq2 d.1;refine⟨pairwise_cons.2 ⟨f y rfl,j⟩,λ m e x b=>?_⟩;have g:=d.2 m e;rcases mem_cons.1 b with rfl|b
   .exact g
   .have:=f y rfl x b;omega
  .rw[if_neg c]at h;cases h
def Zsh(f:b.Ok){out:Nat->Bool}{i k:Nat}(g:i<b.cs.length):QP b.A out b.cs.length i k=true↔∃s,QP b.A out s i k=true:=by
 refine⟨λ h=>⟨_,h⟩,λ⟨s,h⟩=>?_⟩;obtain⟨L,d,c⟩:=DM f.lo;rw[b.A_n]at c d;obtain⟨X,Y,e⟩:=append_of_mem (c i g);refine PI ?_ (E0 d X Y e h);have:=H7 d.nod (n:=b.cs.length) λ x j=>by rw[<- b.A_n];exact d.low x j
 rw[e]at this;simp at this;omega
def Bk.wo_none(c:b.Ok):b.wo (WR []).testBit=b:=by
 have v:∀k,(WR []).testBit k=false:=λ k=>by simp[WR,Z7]
 have w:b.kept (WR []).testBit=range b.cs.length:=by
  unfold Bk.kept;rw[filter_eq_self];intro k _;rw[v];rfl
 have g:(b.wo (WR []).testBit).cs=b.cs:=by
  show(b.kept (WR []).testBit).map _=_;rw[w]
  conv=>rhs;rw[<- b.cas_all]
  refine map_congr_left λ i d=>?_;rw[mem_range]at d;have u:=Bk.mem_cas d;have m:=(Zq2 (c.ri _ u)).1;have j:=c.af _ u;have e:Je b.A i=(b.cas i).af.map Int.toNat:=by simp[Je,Bk.A,Bk.cas,getD_eq_getElem?_getD,d]
  have f:((range (range b.cs.length).length).filter λ p=>QP b.A (WR []).testBit b.cs.length i ((range b.cs.length).getD p 0)).map (λ(p:Nat)=>(p:Int))=(b.cas i).af:=by
   refine Zq7 (pairwise_map.2 ((pairwise_lt_range.filter _).imp λ h=>O1)) m λ x=>?_;simp only[mem_map,mem_filter,mem_range,length_range]
   have t:∀k,QP b.A (WR []).testBit b.cs.length i k=true↔k∈Je b.A i:=λ k=>by
    rw[Zsh c d];constructor
    .rintro⟨s,hs⟩;cases s with
     |zero=>simpa[QP]using hs
     |succ s=>
      rcases Kq.1 hs with h|⟨o,-,h,-⟩
      .simpa using h
      .rw[v]at h;cases h
    .intro h;exact⟨0,Yv (by simpa using h)⟩
   constructor
   .rintro⟨p,⟨hp,h⟩,rfl⟩;rw[getD_eq_getElem?_getD,getElem?_range hp]at h;exact Bk.aft_cas c d ((t _).1 h)
   .intro hx;have q:=j x hx;unfold Bk.nc at q;refine⟨x.toNat,⟨O1,?_⟩,O1⟩;rw[getD_eq_getElem?_getD,getElem?_range O1];refine(t _).2 ?_;rw[e];exact mem_map.2 ⟨x,hx,rfl⟩
  rw[f]
 have:(b.wo (WR []).testBit)=⟨(b.wo (WR []).testBit).rs,(b.wo (WR []).testBit).cs⟩:=rfl;rw[this,g];rfl
def Bk.Ord.before{o:List Nat}(d:b.Ok)(c:b.Ord o){out:Nat->Bool}{k:Nat}:∀(s i:Nat)(X Y:List Nat),o=X++i::Y->QP b.A out s i k=true->k∈X
 |0,i,X,Y,e,h=>c.aft X i Y e k (by simpa[QP]using h)
 |s+1,i,X,Y,e,h=>by
  rcases Kq.1 h with h|⟨q,m,-,t⟩
  .exact c.aft X i Y e k (by simpa using h)
  .have hq:=c.aft X i Y e q m;obtain⟨g,j,f⟩:=append_of_mem hq;have:=Bk.Ord.before d c s q g (j++i::Y) (by rw[e,f];simp) t;rw[f];simp[this]
end Go.TM

