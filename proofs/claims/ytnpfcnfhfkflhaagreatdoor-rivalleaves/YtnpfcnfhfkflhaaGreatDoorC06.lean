/- Lemmas. No conditions. -/
import Derived.Test.YtnpfcnfhfkflhaaGreatDoorC05
set_option linter.all false
open List
namespace Go.TM
variable{b:Bk}
def Qdc{l:List Int}(b:∀n∈l,0<=n)(k:Nat):(WR l).testBit k=l.contains (k:Int):=by
 unfold WR;rw[Wz,Bool.eq_iff_iff,contains_iff_mem,contains_iff_mem,mem_map];constructor
 .rintro⟨n,hn,e⟩;have:=b n hn
  rwa [show(k:Int)=n by omega]
 .exact λ h=>⟨_,h,rfl⟩
def Bk.part_asc(bits n:Nat):(Bk.partTo bits n).Pairwise (· < ·):=by
 unfold Bk.partTo;rw[pairwise_map];exact(pairwise_lt_range.sublist filter_sublist).imp λ h=>O1
def Bk.part_mem{bits n:Nat}{x:Int}:x∈Bk.partTo bits n↔∃k:Nat,k<n/\Qdg bits k=true/\(k:Int)=x:=by
 unfold Bk.partTo;rw[mem_map];exact⟨λ⟨k,h,e⟩=>⟨k,mem_range.1 (mem_filter.1 h).1,(mem_filter.1 h).2,e⟩,λ⟨k,b,d,e⟩=>⟨k,mem_filter.2 ⟨mem_range.2 b,d⟩,e⟩⟩
def Bk.part_nn{bits n:Nat}:∀x∈Bk.partTo bits n,0<=x:=λ x h=>by obtain⟨k,-,-,rfl⟩:=Bk.part_mem.1 h;omega
def Bk.part_bit{bits n k:Nat}(h:k<n):(WR (Bk.partTo bits n)).testBit k=Qdg bits k:=by
 rw[Qdc Bk.part_nn,Bool.eq_iff_iff,contains_iff_mem,Bk.part_mem];exact⟨λ⟨j,_,d,e⟩=>by rwa [show k=j by omega],λ b=>⟨k,h,b,rfl⟩⟩
def Bk.part_kept(b:Bk)(bits:Nat):(b.kept (WR (Bk.partTo bits b.cs.length)).testBit).length+(Bk.partTo bits b.cs.length).length=b.cs.length:=by
 have e:b.kept (WR (Bk.partTo bits b.cs.length)).testBit=(range b.cs.length).filter λ i=>!Qdg bits i:=by
  unfold Bk.kept;exact filter_congr λ i f=>by rw[Bk.part_bit (mem_range.1 f)]
 have d:(Bk.partTo bits b.cs.length).length=((range b.cs.length).filter (Qdg bits)).length:=by unfold Bk.partTo;rw[length_map]
 have:=length_eq_countP_add_countP (Qdg bits) (l:=range b.cs.length);rw[length_range]at this;rw[e,d,<- countP_eq_length_filter,<- countP_eq_length_filter,Nat.add_comm];refine Eq.trans ?_ this.symm;congr 1;exact countP_congr λ i _=>S1
def Bk.leave_step(w:b.flaw Qu=0){l:List Int}(G:l.Sublist b.every)(E:l.Pairwise (· < ·)){i x:Nat}(z:l[i]?=some (x:Int)) :
  (b.wo (WR (l.drop (i+1))).testBit).woF [(x:Int)]=0/\(b.wo (WR (l.drop (i+1))).testBit).wo (WR [(x:Int)]).testBit=b.wo (WR (l.drop i)).testBit:=by
 have o:=Bk.ok_of w
 have m:∀y∈l,∃k:Nat,k<b.cs.length/\(k:Int)=y:=λ y g=>by
  obtain⟨k,t,u⟩:=mem_map.1 (G.subset g);exact⟨k,mem_range.1 t,u⟩
 have f:∀{q:List Int},(∀y∈q,y∈l)->∀y∈q,0<=y:=λ h y g=>by obtain⟨k,-,rfl⟩:=m y (h y g);omega
 have v:l.drop i=(x:Int)::l.drop (i+1):=WT z;have r:(x:Int)∈l:=mem_of_getElem? z;have B:x<b.cs.length:=by obtain⟨k,t,u⟩:=m _ r;omega
 have d:=E.sublist (drop_sublist i l);rw[v,pairwise_cons]at d;have j:∀y∈l.drop (i+1),y∈l:=λ y g=>mem_of_mem_drop g
 have e:∀k,k<=x->(WR (l.drop (i+1))).testBit k=false:=λ k A=>by
  rw[Qdc (f j),Bool.eq_false_iff];intro h;have:=d.1 k (by simpa using h);omega
 have D:∀k,(WR (l.drop i)).testBit k=((WR (l.drop (i+1))).testBit k|| k==x):=λ k=>by
  rw[Qdc (f λ y g=>mem_of_mem_drop g),Qdc (f j),v,contains_cons,Bool.or_comm];congr 1;rw[Bool.eq_iff_iff,beq_iff_eq,beq_iff_eq];omega
 have C:(WR [(x:Int)]).testBit=λ k=>k==x:=funext λ k=>by
  rw[Qdc (λ n F=>by rw[mem_singleton.1 F];omega),Bool.eq_iff_iff,contains_iff_mem,mem_singleton,beq_iff_eq];omega
 have A:=Q4z (out:=(WR (l.drop (i+1))).testBit) B e;have p:x<(b.kept (WR (l.drop (i+1))).testBit).length:=(List.getElem?_eq_some_iff.1 A).1;refine⟨?_,by rw[C];exact Bk.wo_more o B D e⟩;unfold Bk.woF;rw[if_pos (Bk.wo_flaw w _)];refine Bk.sub_rises (singleton_sublist.2 (mem_map.2 ⟨x,mem_range.2 ?_,rfl⟩));rw[Bk.wo_nc];exact p
def Bk.restO_snoc(out:Nat->Bool){o:List Nat}{i a:Nat}(h:o[i]?=some a):b.restO out (o.take (i+1))=b.restO out (o.take i)++(range (b.kept out).length).filter λ k=>(b.kept out).getD k 0==a:=by
 unfold Bk.restO;rw[take_add_one,h,flatMap_append];simp
def Bk.restO_le(out:Nat->Bool):∀(o:List Nat),(b.restO out o).length<=o.length*(b.kept out).length
 |[]=>by simp[Bk.restO]
 |a::o=>by
  have d:=Bk.restO_le out o;unfold Bk.restO at d ⊢;have:=length_filter_le (λ k=>(b.kept out).getD k 0==a) (range (b.kept out).length);rw[length_range]at this;rw[flatMap_cons,length_append,length_cons,Nat.succ_mul];omega
end Go.TM

