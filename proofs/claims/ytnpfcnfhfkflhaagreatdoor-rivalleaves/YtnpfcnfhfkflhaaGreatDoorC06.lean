/- Lemmas of the proof. No conditions of their own. -/
import Derived.Test.YtnpfcnfhfkflhaaGreatDoorC05
set_option linter.all false
namespace Go.TM
variable {b:Bk}
theorem Qdc {l:List Int} (hl:∀n∈l,0<=n) (k:Nat):(Qli l).testBit k=l.contains (k:Int):=by
 unfold Qli;rw [Wz,Bool.eq_iff_iff,List.contains_iff_mem,List.contains_iff_mem,List.mem_map];constructor
 ·rintro⟨n,hn,e⟩;have:=hl n hn
  rwa [show (k:Int)=n by omega]
 ·exact λ h=>⟨_,h,rfl⟩
theorem Bk.part_asc (bits n:Nat):(Bk.partTo bits n).Pairwise (· < ·):=by
 unfold Bk.partTo;rw [List.pairwise_map];exact (List.pairwise_lt_range.sublist List.filter_sublist).imp λ h=>by omega
theorem Bk.part_mem {bits n:Nat} {x:Int}:x∈Bk.partTo bits n↔∃k:Nat,k<n/\Qdg bits k=true/\(k:Int)=x:=by
 unfold Bk.partTo;rw [List.mem_map];exact⟨λ⟨k,h,e⟩=>⟨k,List.mem_range.1 (List.mem_filter.1 h).1,(List.mem_filter.1 h).2,e⟩,λ⟨k,h1,h2,e⟩=>⟨k,List.mem_filter.2 ⟨List.mem_range.2 h1,h2⟩,e⟩⟩
theorem Bk.part_nn {bits n:Nat}:∀x∈Bk.partTo bits n,0<=x:=λ x h=>by obtain⟨k,-,-,rfl⟩:=Bk.part_mem.1 h;omega
theorem Bk.part_bit {bits n k:Nat} (h:k<n):(Qli (Bk.partTo bits n)).testBit k=Qdg bits k:=by
 rw [Qdc Bk.part_nn,Bool.eq_iff_iff,List.contains_iff_mem,Bk.part_mem];exact⟨λ⟨j,_,hj,e⟩=>by rwa [show k=j by omega],λ hp=>⟨k,h,hp,rfl⟩⟩
theorem Bk.part_kept (b:Bk) (bits:Nat):(b.kept (Qli (Bk.partTo bits b.cs.length)).testBit).length+(Bk.partTo bits b.cs.length).length=b.cs.length:=by
 have e:b.kept (Qli (Bk.partTo bits b.cs.length)).testBit=(List.range b.cs.length).filter λ i=>!Qdg bits i:=by
  unfold Bk.kept;exact List.filter_congr λ i hi=>by rw [Bk.part_bit (List.mem_range.1 hi)]
 have e2:(Bk.partTo bits b.cs.length).length=((List.range b.cs.length).filter (Qdg bits)).length:=by unfold Bk.partTo;rw [List.length_map]
 have:=List.length_eq_countP_add_countP (Qdg bits) (l:=List.range b.cs.length);rw [List.length_range] at this;rw [e,e2,<- List.countP_eq_length_filter,<- List.countP_eq_length_filter,Nat.add_comm];refine Eq.trans ?_ this.symm;congr 1;exact List.countP_congr λ i _=>by simp
theorem Bk.leave_step (hf:b.flaw Qu=0) {l:List Int} (hs:l.Sublist b.every) (ha:l.Pairwise (· < ·)) {i x:Nat} (hi:l[i]?=some (x:Int)) :
  (b.wo (Qli (l.drop (i+1))).testBit).woF [(x:Int)]=0/\(b.wo (Qli (l.drop (i+1))).testBit).wo (Qli [(x:Int)]).testBit=b.wo (Qli (l.drop i)).testBit:=by
 have hok:=Bk.ok_of hf
 have hev:∀y∈l,∃k:Nat,k<b.cs.length/\(k:Int)=y:=λ y hy=>by
  obtain⟨k,h1,h2⟩:=List.mem_map.1 (hs.subset hy);exact⟨k,List.mem_range.1 h1,h2⟩
 have hnn:∀{q:List Int},(∀y∈q,y∈l)->∀y∈q,0<=y:=λ h y hy=>by obtain⟨k,-,rfl⟩:=hev y (h y hy);omega
 have hd:l.drop i=(x:Int)::l.drop (i+1):=Qad hi;have hxl:(x:Int)∈l:=List.mem_of_getElem? hi;have hx:x<b.cs.length:=by obtain⟨k,h1,h2⟩:=hev _ hxl;omega
 have hasc:=ha.sublist (List.drop_sublist i l);rw [hd,List.pairwise_cons] at hasc;have hdm:∀y∈l.drop (i+1),y∈l:=λ y hy=>List.mem_of_mem_drop hy
 have hlow:∀k,k<=x->(Qli (l.drop (i+1))).testBit k=false:=λ k hk=>by
  rw [Qdc (hnn hdm),Bool.eq_false_iff];intro h;have:=hasc.1 k (by simpa using h);omega
 have hD:∀k,(Qli (l.drop i)).testBit k=((Qli (l.drop (i+1))).testBit k || k == x):=λ k=>by
  rw [Qdc (hnn λ y hy=>List.mem_of_mem_drop hy),Qdc (hnn hdm),hd,List.contains_cons,Bool.or_comm];congr 1;rw [Bool.eq_iff_iff,beq_iff_eq,beq_iff_eq];omega
 have e1:(Qli [(x:Int)]).testBit=λ k=>k == x:=funext λ k=>by
  rw [Qdc (λ n hn=>by rw [List.mem_singleton.1 hn];omega),Bool.eq_iff_iff,List.contains_iff_mem,List.mem_singleton,beq_iff_eq];omega
 have hk:=Q4z (out:=(Qli (l.drop (i+1))).testBit) hx hlow;have hxk:x<(b.kept (Qli (l.drop (i+1))).testBit).length:=(List.getElem?_eq_some_iff.1 hk).1;refine⟨?_,by rw [e1];exact Bk.wo_more hok hx hD hlow⟩;unfold Bk.woF;rw [if_pos (Bk.wo_flaw hf _)];refine Bk.sub_rises (List.singleton_sublist.2 (List.mem_map.2 ⟨x,List.mem_range.2 ?_,rfl⟩));rw [Bk.wo_nc];exact hxk
theorem Bk.restO_snoc (out:Nat->Bool) {o:List Nat} {i a:Nat} (h:o[i]?=some a):b.restO out (o.take (i+1))=b.restO out (o.take i)++(List.range (b.kept out).length).filter λ k=>(b.kept out).getD k 0 == a:=by
 unfold Bk.restO;rw [List.take_add_one,h,List.flatMap_append];simp
theorem Bk.restO_le (out:Nat->Bool):∀(o:List Nat),(b.restO out o).length<=o.length*(b.kept out).length
 | []=>by simp [Bk.restO]
 | a::o=>by
  have ih:=Bk.restO_le out o;unfold Bk.restO at ih ⊢;have:=List.length_filter_le (λ k=>(b.kept out).getD k 0 == a) (List.range (b.kept out).length);rw [List.length_range] at this;rw [List.flatMap_cons,List.length_append,List.length_cons,Nat.succ_mul];omega
end Go.TM
