/- Lemmas. No conditions. -/
import Derived.Test.YtnpfcnfhfkflhaaGreatDoorC00
set_option linter.all false
open List
namespace Go.TM
variable{b:Bk}
def Qek:∀{l:List Int}{m:Nat},l.Pairwise (· < ·)->(parts l m).Pairwise λ x y=>Qae x y=true
 |l,0,_=>by rw[P4];exact pairwise_singleton ..
 |[],m+1,_=>.nil
 |a::l,m+1,h=>by
  obtain⟨e,d⟩:=pairwise_cons.1 h;rw[show parts (a::l) (m+1)=(parts l m).map (a::·)++parts l (m+1) from rfl,pairwise_append];refine⟨pairwise_map.2 ((Qek d).imp λ{x y}b=>by simpa[Qae]using b),Qek d,λ x j y o=>?_⟩;obtain⟨q,-,rfl⟩:=mem_map.1 j;obtain⟨f,g⟩:=Gk.1 o;cases y with
  |nil=>cases g
  |cons c y=>
   have:=e c (f.subset (mem_cons_self ..));simp only[Qae];rw[if_neg O1];simpa using this
def Qoa{l:List Int}{p:List Int->Bool}(s:l.Pairwise (· < ·)):∀(n m:Nat){x:List Int},WP l p m n=some x ->
  x.Sublist l/\p x=true/\∀y:List Int,y.Sublist l->p y=true->m<=y.length->x.length<y.length\/x.length=y.length/\Qae y x=false
 |0,m,x,h=>by cases h
 |n+1,m,x,h=>by
  rw[BW]at h;cases g:(parts l m).find? p with
  |some z=>
   rw[g]at h;obtain rfl:z=x:=Option.some.inj h;obtain⟨w,X,Y,e,u⟩:=find?_eq_some_iff_append.1 g;obtain⟨o,r⟩:=Gk.1 (show z∈parts l m by rw[e];simp);refine⟨o,w,λ y j d v=>?_⟩;by_cases b:y.length=m
   .refine .inr ⟨O1,?_⟩;have f:=Gk.2 ⟨j,b⟩;have q:=Qek (m:=m) s;rw[e]at f q;rw[pairwise_append]at q;rcases mem_append.1 f with h|h
    .have:=u y h;rw[d]at this;cases this
    .rcases mem_cons.1 h with rfl|h
     .exact Qvo _
     .exact Qpf _ _ ((pairwise_cons.1 q.2.1).1 y h)
   .exact .inl O1
  |none=>
   rw[g]at h;obtain⟨o,r,t⟩:=Qoa s n (m+1) h;refine⟨o,r,λ y j d v=>?_⟩;by_cases b:y.length=m
   .have:=find?_eq_none.1 g y (Gk.2 ⟨j,b⟩);exact absurd d this
   .exact t y j d O1
def Qlg{l:List Int}{p:List Int->Bool}:∀(n m:Nat),WP l p m n=none->∀y:List Int,y.Sublist l->m<=y.length->y.length<m+n->p y=false
 |0,m,_,y,_,f,g=>O1
 |n+1,m,h,y,e,f,g=>by
  rw[BW]at h;cases d:(parts l m).find? p with
  |some z=>rw[d]at h;cases h
  |none=>
   rw[d]at h;by_cases b:y.length=m
   .simpa using find?_eq_none.1 d y (Gk.2 ⟨e,b⟩)
   .exact Qlg n (m+1) h y e O1 O1
def Bk.every_asc(b:Bk):b.every.Pairwise (· < ·):=pairwise_map.2 (pairwise_lt_range.imp λ h=>O1)
def Bk.every_len(b:Bk):b.every.length=b.cs.length:=by simp[Bk.every]
def Zl2{y:List Int}(h:∀n∈y,0<=n)(k:Nat):(WR y).testBit k=true↔(k:Int)∈y:=by
 unfold WR;rw[Wz,contains_iff_mem,mem_map];constructor
 .rintro⟨n,hn,e⟩;have:=h n hn;have:n=(k:Int):=O1
  exact this▸hn
 .intro hk;exact⟨_,hk,S1⟩
def Bk.every_pos{y:List Int}(h:y.Sublist b.every):∀n∈y,0<=n:=λ n d=>by
 obtain⟨k,-,rfl⟩:=mem_map.1 (h.subset d);omega
def Bk.wd_ag(d:b.Ok){r:Nat}(s:r<b.rs.length):b.wdP r (b.every.filter λ n=>(b.cas n.toNat).ag==(r:Int))=true:=by
 have t:(b.every.filter λ n=>(b.cas n.toNat).ag==(r:Int)).Sublist b.every:=filter_sublist;unfold Bk.wdP;rw[beq_iff_eq];have q:=d.wo (WR (b.every.filter λ n=>(b.cas n.toNat).ag==(r:Int))).testBit;refine Bk.safe_stands _ q s λ i o v=>?_;exfalso
 obtain⟨j,h,e⟩:∃j∈b.kept (WR (b.every.filter λ n=>(b.cas n.toNat).ag==(r:Int))).testBit,((b.wo (WR (b.every.filter λ n=>(b.cas n.toNat).ag==(r:Int))).testBit).cas i).ag=(b.cas j).ag:=by
  obtain⟨j,h,e⟩:=mem_map.1 (Bk.mem_cas o);exact⟨j,h,by rw[<- e]⟩
 obtain⟨f,m⟩:=mem_filter.1 h;rw[mem_range]at f;have u:=(d.ag _ (Bk.mem_cas f)).1
 have g:(j:Int)∈b.every.filter λ n=>(b.cas n.toNat).ag==(r:Int):=by
  rw[mem_filter];refine⟨mem_map.2 ⟨j,mem_range.2 f,rfl⟩,?_⟩;rw[Int.toNat_natCast,beq_iff_eq];omega
 rw[(Zl2 (Bk.every_pos t) j).2 g]at m;cases m
def Bk.wd_facts(e:b.Ok){r:Nat}(q:r<b.rs.length):(b.wdL r).Sublist b.every/\b.wdP r (b.wdL r)=true /\
  (∀y:List Int,y.Sublist b.every->b.wdP r y=true->(b.wdL r).length<y.length\/(b.wdL r).length=y.length/\Qae y (b.wdL r)=false):=by
 unfold Bk.wdL;cases h:WP b.every (b.wdP r) 0 (b.cs.length+1)with
 |some x=>
  obtain⟨g,j,m⟩:=Qoa b.every_asc _ _ h;exact⟨g,j,λ y s o=>m y s o (Nat.zero_le _)⟩
 |none=>
  have f:(b.every.filter λ n=>(b.cas n.toNat).ag==(r:Int)).Sublist b.every:=filter_sublist;have d:=f.length_le;rw[b.every_len]at d;have:=Qlg _ _ h _ f (Nat.zero_le _) O1;rw[Bk.wd_ag e q]at this;cases this
end Go.TM

