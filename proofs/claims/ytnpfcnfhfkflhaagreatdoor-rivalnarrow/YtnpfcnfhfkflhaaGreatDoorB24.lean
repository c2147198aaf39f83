/- Lemmas of the proof. No conditions of their own. -/
import Derived.Test.YtnpfcnfhfkflhaaGreatDoorB18
import Derived.Test.YtnpfcnfhfkflhaaGreatDoorB19
import Derived.Test.YtnpfcnfhfkflhaaGreatDoorB20
import Derived.Test.YtnpfcnfhfkflhaaGreatDoorB21
import Derived.Test.YtnpfcnfhfkflhaaGreatDoorB22
import Derived.Test.YtnpfcnfhfkflhaaGreatDoorB23
set_option linter.all false
set_option maxRecDepth 100000
namespace Go.Proofs
open Go.TM
open Go.Conc (QuitsD)
section
variable (b:Nat) (T:Array Value) (todo:List Item)
theorem Qvg:QuitsD Tryz.prog 24 1 (Qg4 b T todo):=Ze (n:=17) (Qmh b T todo) (J9 (Qmi b T todo) (by simp [Z2,Event.mute]) (Ze (n:=6) (k:=0) (Qmj b T todo) ⟨Qpp b T todo,rfl⟩))
theorem Qzc:Tl Tryz.prog 209 6 b 177 1 (.lst b 0) (Qdw b T todo):=
 Tl.calm (n:=103) (k:=73+1) (Qmc b T todo) Qg ⟨Qn (SE.of_info (g:=Qdx b T todo) (Qey b T todo)),.inr (.inr (.inl ⟨rfl,rfl,_,_,Zs,SE.of_info (g:=Qdx b T todo) (Qey b T todo),
 Tl.calm (n:=20) (k:=52+1) (Qme b T todo) Qg ⟨Qn (SE.of_info (g:=Qdy b T todo) (Qez b T todo)),.inr (.inr (.inr (.inl ⟨rfl,rfl,_,_,Zs,SE.of_info (g:=Qdy b T todo) (Qez b T todo),
 Tl.calm (n:=27) (k:=24+1) (Qmf b T todo) Qg ⟨Qn (SE.of_info (g:=Qbw b T todo) (Qe0 b T todo)),.inr (.inr (.inr (.inr ⟨rfl,rfl,Qmg b T todo,_,_,Q4,SE.of_info (g:=Qbw b T todo) (Qe0 b T todo),Qvg b T todo⟩)))⟩⟩)))⟩⟩))⟩
theorem Ze5 (c wt:Nat) (h1:1<=c) (h2:c<=6) (h3:wt<=1):∃g' bs,Z8 b bs/\Qc Tryz.prog 209 false (Q9 b T todo) (Q1 c wt) (Qq 0)=.go g' (Q1 (c-1) wt) (Qq 0) #[Jg b 0,evW b 0] bs /\
  (if c=1/\wt=1 then Tl Tryz.prog 209 6 b 177 1 (.lst b 0) g' else QuitsD Tryz.prog 177 1 g'):=by
 obtain rfl | rfl | rfl | rfl | rfl | rfl:c=1\/c=2\/c=3\/c=4\/c=5\/c=6:=by omega
 .obtain rfl | rfl:wt=0\/wt=1:=by omega
  .exact⟨Qdv b T todo,_,Q4,SE.of_info (g:=Q9 b T todo) (Qex b T todo),(by rw [if_neg (by decide)];exact Ju (k:=83) (Q6h b T todo))⟩
  .exact⟨Qdw b T todo,_,Q4,SE.of_info (g:=Q9 b T todo) (Qmd b T todo),(by rw [if_pos ⟨rfl,rfl⟩];exact Qzc b T todo)⟩
 .obtain rfl | rfl:wt=0\/wt=1:=by omega
  .exact⟨Qdz b T todo,_,Q4,SE.of_info (g:=Q9 b T todo) (Qml b T todo),(by rw [if_neg (by decide)];exact Ju (k:=83) (Q6i b T todo))⟩
  .exact⟨Qd0 b T todo,_,Q4,SE.of_info (g:=Q9 b T todo) (Qmp b T todo),(by rw [if_neg (by decide)];exact Ju (k:=83) (Q6j b T todo))⟩
 .obtain rfl | rfl:wt=0\/wt=1:=by omega
  .exact⟨Qd1 b T todo,_,Q4,SE.of_info (g:=Q9 b T todo) (Qmt b T todo),(by rw [if_neg (by decide)];exact Ju (k:=83) (Q6k b T todo))⟩
  .exact⟨Qd2 b T todo,_,Q4,SE.of_info (g:=Q9 b T todo) (Qmx b T todo),(by rw [if_neg (by decide)];exact Ju (k:=83) (Q6l b T todo))⟩
 .obtain rfl | rfl:wt=0\/wt=1:=by omega
  .exact⟨Qd3 b T todo,_,Q4,SE.of_info (g:=Q9 b T todo) (Qm1 b T todo),(by rw [if_neg (by decide)];exact Ju (k:=83) (Q6m b T todo))⟩
  .exact⟨Qd4 b T todo,_,Q4,SE.of_info (g:=Q9 b T todo) (Qm5 b T todo),(by rw [if_neg (by decide)];exact Ju (k:=83) (Q6n b T todo))⟩
 .obtain rfl | rfl:wt=0\/wt=1:=by omega
  .exact⟨Qd5 b T todo,_,Q4,SE.of_info (g:=Q9 b T todo) (Qm9 b T todo),(by rw [if_neg (by decide)];exact Ju (k:=83) (Q6o b T todo))⟩
  .exact⟨Qd6 b T todo,_,Q4,SE.of_info (g:=Q9 b T todo) (Qnd b T todo),(by rw [if_neg (by decide)];exact Ju (k:=83) (Q6p b T todo))⟩
 .obtain rfl | rfl:wt=0\/wt=1:=by omega
  .exact⟨Qd7 b T todo,_,Q4,SE.of_info (g:=Q9 b T todo) (Qnh b T todo),(by rw [if_neg (by decide)];exact Ju (k:=83) (Q6q b T todo))⟩
  .exact⟨Qd8 b T todo,_,Q4,SE.of_info (g:=Q9 b T todo) (Qnl b T todo),(by rw [if_neg (by decide)];exact Ju (k:=83) (Q6r b T todo))⟩
theorem Q2r:∃n,Tl Tryz.prog 209 6 b n 0 (.rel b) (Qqw b T todo):=
 ⟨_,Tl.calm (n:=3) (Qu5 b T todo) Qg (Tl.mute (n:=34+(177+1)) (d:=0) (Qu6 b T todo) rfl Qg (by simp [Z2,Event.mute]) (Tl.calm (n:=34) (Qu7 b T todo) Qg
  ⟨Qn (SE.of_info (g:=Q9 b T todo) (Qex b T todo)),.inr (.inl ⟨rfl,rfl,λ c wt h1 h2 h3=>Ze5 b T todo c wt h1 h2 h3⟩)⟩))⟩
end
end Go.Proofs
