/- Lemmas of the proof. No conditions of their own. -/
import Derived.Test.YtnpfcnfhfkflhaaGreatDoorC00
set_option linter.all false
namespace Go.TM
variable {b:Bk}
def Bk.okTo (b:Bk):List Nat->List Nat->Bool
 | _,[]=>true
 | p,i::q=>decide (i<b.cs.length) && b.can p i && b.okTo (p++[i]) q
theorem Bk.mem_ords:∀(k:Nat) (p o:List Nat),o∈b.ords k p↔∃q,o=p++q/\q.length=k/\b.okTo p q=true
 | 0,p,o=>by
  simp only [Bk.ords,List.mem_singleton];constructor
  ·rintro rfl;exact⟨[],by simp,rfl,rfl⟩
  ·rintro⟨q,rfl,hq,-⟩;rw [List.length_eq_zero_iff] at hq;simp [hq]
 | k+1,p,o=>by
  simp only [Bk.ords,List.mem_flatMap,List.mem_range];constructor
  ·rintro⟨i,hi,ho⟩;split at ho
   ·rename_i hc;obtain⟨q,rfl,hq,hk⟩:=(Bk.mem_ords k (p++[i]) o).1 ho;exact⟨i::q,by simp,by simp [hq],by simp [Bk.okTo,hi,hc,hk]⟩
   ·cases ho
  ·rintro⟨q,rfl,hq,hk⟩;cases q with
   | nil=>cases hq
   | cons i q=>
    simp only [Bk.okTo,Bool.and_eq_true,decide_eq_true_eq] at hk;refine⟨i,hk.1.1,?_⟩;rw [if_pos hk.1.2];exact (Bk.mem_ords k (p++[i]) _).2 ⟨q,by simp,by simpa using hq,hk.2⟩
theorem Bk.mem_all {o:List Nat}:o∈b.all↔o.length=b.cs.length/\b.okTo [] o=true:=by
 unfold Bk.all;rw [Bk.mem_ords];constructor
 ·rintro⟨q,rfl,hq,hk⟩;exact⟨hq,hk⟩
 ·rintro⟨h1,h2⟩;exact⟨o,rfl,h1,h2⟩
theorem Bk.okTo_iff:∀(q p:List Nat),b.okTo p q=true↔∀X i Y,q=X++i::Y->i<b.cs.length/\b.can (p++X) i=true
 | [],p=>by simp [Bk.okTo]
 | i::q,p=>by
  simp only [Bk.okTo,Bool.and_eq_true,decide_eq_true_eq];rw [Bk.okTo_iff q (p++[i])];constructor
  ·rintro⟨⟨h1,h2⟩,h3⟩ X j Y e;cases X with
   | nil=>
    simp only [List.nil_append,List.cons.injEq] at e;obtain⟨rfl,rfl⟩:=e;simpa using ⟨h1,h2⟩
   | cons x X=>
    simp only [List.cons_append,List.cons.injEq] at e;obtain⟨rfl,rfl⟩:=e;have:=h3 X j Y rfl;simpa using this
  ·intro h;refine⟨by simpa using h [] i q rfl,λ X j Y e=>?_⟩;have:=h (i::X) j Y (by simp [e]);simpa using this
theorem Bk.can_iff {o:List Nat} {i:Nat}:b.can o i=true↔i∉o/\∀k∈Je b.A i,k∈o:=by
 simp [Bk.can]
structure Bk.Ord (b:Bk) (o:List Nat):Prop where
 len:o.length=b.cs.length
 low:∀i∈o,i<b.cs.length
 nod:o.Nodup
 aft:∀X i Y,o=X++i::Y->∀k∈Je b.A i,k∈X
theorem Zof:∀{o:List Nat},(∀X i Y,o=X++i::Y->i∉X)->o.Nodup:=by
 intro o h;rw [List.nodup_iff_pairwise_ne,List.pairwise_iff_getElem];intro i j hi hj hij e;refine h (o.take j) o[j] (o.drop (j+1)) (by rw [List.getElem_cons_drop,List.take_append_drop]) ?_;rw [<- e,List.mem_take_iff_getElem];exact⟨i,by omega,rfl⟩
theorem Bk.mem_all_iff {o:List Nat}:o∈b.all↔b.Ord o:=by
 rw [Bk.mem_all,Bk.okTo_iff];simp only [List.nil_append];constructor
 ·rintro⟨h1,h2⟩;refine⟨h1,λ i hi=>?_,Zof λ X i Y e=>(Bk.can_iff.1 (h2 X i Y e).2).1,λ X i Y e=>(Bk.can_iff.1 (h2 X i Y e).2).2⟩;obtain⟨X,Y,e⟩:=List.append_of_mem hi;exact (h2 X i Y e).1
 ·intro h;refine⟨h.len,λ X i Y e=>⟨h.low i (by rw [e];simp),Bk.can_iff.2 ⟨λ hm=>?_,h.aft X i Y e⟩⟩⟩;have hn:=h.nod;rw [e] at hn;exact (List.nodup_append.1 hn).2.2 i hm i (List.mem_cons_self ..) rfl
theorem Bk.Ord.has {b:Bk} {o:List Nat} (h:b.Ord o) {i:Nat} (hi:i<b.cs.length):i∈o:=by
 apply Classical.byContradiction;intro hn;have h1:(i::o).Nodup:=List.nodup_cons.2 ⟨hn,h.nod⟩
 have:=Qbc h1 (n:=b.cs.length) λ x hx=>by
  rcases List.mem_cons.1 hx with rfl | hx
  ·exact hi
  ·exact h.low x hx
 rw [List.length_cons,h.len] at this;omega
theorem Bk.stp_len (b:Bk) (x:List Bool×List Bool) (i:Nat):(b.stp x i).1.length=x.1.length/\(b.stp x i).2.length=x.2.length:=by
 unfold Bk.stp;split <;> simp
theorem Bk.end_len (b:Bk) (o:List Nat):(b.ends o).1.length=b.rs.length/\(b.ends o).2.length=b.cs.length:=by
 have key:∀(o:List Nat) (x:List Bool×List Bool),(o.foldl b.stp x).1.length=x.1.length/\(o.foldl b.stp x).2.length=x.2.length:=by
  intro o
  induction o with
  | nil=>exact λ x=>⟨rfl,rfl⟩
  | cons i o ih=>
   intro x;have h1:=ih (b.stp x i);have h2:=b.stp_len x i;exact⟨h1.1.trans h2.1,h1.2.trans h2.2⟩
 have:=key o b.ini;simpa [Bk.ends,Bk.ini] using this
theorem Bk.Ord.split {b:Bk} {o:List Nat} (h:b.Ord o) {i:Nat} (hi:i<b.cs.length):∃X Y,o=X++i::Y:=List.append_of_mem (h.has hi)
structure Bk.Beg (b:Bk) (o:List Nat):Prop where
 low:∀i∈o,i<b.cs.length
 nod:o.Nodup
 aft:∀X i Y,o=X++i::Y->∀k∈Je b.A i,k∈X
theorem Bk.Beg.nil:b.Beg []:=⟨by simp,.nil,λ X i Y e=>by cases X <;> cases e⟩
theorem Bk.Beg.le {o:List Nat} (h:b.Beg o):o.length<=b.cs.length:=Qbc h.nod h.low
theorem Bk.Ord.flaw {o:List Nat} (h:b.Ord o):b.ordF (o.map λ (k:Nat)=>(k:Int))=0:=by
 have key:∀(q p:List Nat),o=p++q->b.ordL p (q.map λ (k:Nat)=>(k:Int))=0:=by
  intro q
  induction q with
  | nil=>intro p _;rfl
  | cons i q ih=>
   intro p e;have hi:i<b.cs.length:=h.low i (by rw [e];simp);have hn:=h.nod;rw [e,List.nodup_append] at hn;have hip:i∉p:=λ hm=>hn.2.2 i hm i (List.mem_cons_self ..) rfl;have ha:=h.aft p i q e;show (if Go.TM.btw (i:Int) 0 (b.nc-1) then (if (i:Int).toNat∈p then 5 else if (Je b.A (i:Int).toNat).all (λ k=>p.contains k) then b.ordL (p++[(i:Int).toNat]) (q.map λ (k:Nat)=>(k:Int)) else 7) else 6)=0;rw [if_pos (by unfold Bk.nc;simp [btw];omega),Int.toNat_natCast,if_neg hip,if_pos (by rw [List.all_eq_true];intro k hk;simpa using ha k hk)];exact ih (p++[i]) (by rw [e];simp)
 unfold Bk.ordF;rw [if_neg (by rw [List.length_map,h.len];simp)];exact key o [] rfl
abbrev Qae (o:List Nat):List Int:=o.map λ (k:Nat)=>(k:Int)
end Go.TM
namespace Go.TM
variable {α:Type} {L:List α} {F:α->Nat->Bool} {n k i j:Nat}
def Qaq (L:List α) (F:α->Nat->Bool) (n k i:Nat):List Nat:=(List.range n).map λ j=>(L.take (if j<i then k+1 else k)).countP λ o=>F o j
theorem Qbj:(Qaq L F n k i).length=n:=by simp [Qaq]
theorem Qdh (h:j<n):(Qaq L F n k i)[j]?=some ((L.take (if j<i then k+1 else k)).countP λ o=>F o j):=by
 unfold Qaq;rw [List.getElem?_map,List.getElem?_range h];rfl
theorem Qpf {o:α} (h:L[k]?=some o):L.take (k+1)=L.take k++[o]:=by
 rw [List.take_add_one,h];rfl
theorem Q0m {i':Nat} {X:List Nat} (hl:X.length=n) (h:∀j,j<n->X[j]?=some ((L.take (if j<i' then k+1 else k)).countP λ o=>F o j)):X=Qaq L F n k i':=by
 apply List.ext_getElem?;intro j;by_cases hj:j<n
 ·rw [h j hj,Qdh hj]
 ·rw [List.getElem?_eq_none (by omega),List.getElem?_eq_none (by rw [Qbj];omega)]
theorem Zod {o:α} (hx:L[k]?=some o) (hi:i<n) (hF:F o i=true):(Qaq L F n k i).set i ((Qaq L F n k i).getD i 0+1)=Qaq L F n k (i+1):=by
 refine Q0m (by rw [List.length_set,Qbj]) λ j hj=>?_;rw [List.getElem?_set];by_cases e:i=j
 ·subst e;rw [if_pos rfl,if_pos (by rw [Qbj];exact hi),List.getD_eq_getElem?_getD,Qdh hi,if_neg (by omega),if_pos (by omega),Qpf hx,List.countP_append];simp [hF]
 ·rw [if_neg e,Qdh hj];have:(j<i)=(j<i+1):=propext (by omega);simp only [this]
theorem Q4z {o:α} (hx:L[k]?=some o) (hF:F o i=false):Qaq L F n k i=Qaq L F n k (i+1):=by
 refine Q0m Qbj λ j hj=>?_;rw [Qdh hj];by_cases e:i=j
 ·subst e;rw [if_neg (by omega),if_pos (by omega),Qpf hx,List.countP_append];simp [hF]
 ·have:(j<i)=(j<i+1):=propext (by omega);simp only [this]
theorem Q41:Qaq L F n k n=Qaq L F n (k+1) 0:=by
 refine Q0m Qbj λ j hj=>?_;rw [Qdh hj,if_pos hj,if_neg (by omega)]
theorem Zbz:Qaq L F n 0 0=List.replicate n 0:=by
 apply List.ext_getElem?;intro j;by_cases hj:j<n
 ·rw [Qdh hj,if_neg (by omega),List.getElem?_replicate,if_pos hj];rfl
 ·rw [List.getElem?_eq_none (by rw [Qbj];omega),List.getElem?_eq_none (by simp;omega)]
theorem Znw:Qaq L F n L.length 0=(List.range n).map λ j=>L.countP λ o=>F o j:=by
 unfold Qaq;refine List.map_congr_left λ j _=>?_;rw [if_neg (by omega),List.take_length]
theorem Zok (h:j<n):(Qaq L F n k i).getD j 0<=L.length:=by
 rw [List.getD_eq_getElem?_getD,Qdh h];exact Nat.le_trans List.countP_le_length (by rw [List.length_take];omega)
end Go.TM
