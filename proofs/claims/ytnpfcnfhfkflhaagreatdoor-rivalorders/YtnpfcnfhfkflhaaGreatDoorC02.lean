/- Lemmas of the proof. No conditions of their own. -/
import Derived.Test.YtnpfcnfhfkflhaaGreatDoorB34
set_option linter.all false
namespace Go.TM
variable {b:Bk}
structure Bk.Ord (b:Bk) (o:List Nat):Prop where
 len:o.length=b.cs.length
 low:∀i∈o,i<b.cs.length
 nod:o.Nodup
 aft:∀X i Y,o=X++i::Y->∀k∈Je b.A i,k∈X
theorem Bk.Ord.has {b:Bk} {o:List Nat} (h:b.Ord o) {i:Nat} (hi:i<b.cs.length):i∈o:=by
 apply Classical.byContradiction;intro hn;have h1:(i::o).Nodup:=List.nodup_cons.2 ⟨hn,h.nod⟩
 have:=Qbc h1 (n:=b.cs.length) λ x hx=>by
  rcases List.mem_cons.1 hx with rfl | hx
  ·exact hi
  ·exact h.low x hx
 rw [List.length_cons,h.len] at this;omega
theorem Bk.stp_len (b:Bk) (x:List Bool×List Bool) (i:Nat):(b.stp x i).1.length=x.1.length/\(b.stp x i).2.length=x.2.length:=by
 unfold Bk.stp;split <;> simp
theorem Bk.end_len (b:Bk) (o:List Nat):(b.ends o).1.length=b.rs.length/\(b.ends o).2.length=b.cs.length:=by
 have key:∀(o:List Nat) (x:List Bool×List Bool),(o.foldl b.stp x).1.length=x.1.length/\(o.foldl b.stp x).2.length=x.2.length:=by
  intro o
  induction o with
  | nil=>exact λ x=>⟨rfl,rfl⟩
  | cons i o ih=>
   intro x;have h1:=ih (b.stp x i);have h2:=b.stp_len x i;exact⟨h1.1.trans h2.1,h1.2.trans h2.2⟩
 have:=key o b.ini;simpa [Bk.ends,Bk.ini] using this
theorem Bk.Ord.split {b:Bk} {o:List Nat} (h:b.Ord o) {i:Nat} (hi:i<b.cs.length):∃X Y,o=X++i::Y:=List.append_of_mem (h.has hi)
end Go.TM
