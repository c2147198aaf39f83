/- Lemmas of the proof. No conditions of their own. -/
import Derived.Test.YtnpfcnfhfkflhaaGreatDoorB14
set_option linter.all false
open Go.Proofs.Tryz (prog)
set_option maxRecDepth 100000
noncomputable section
namespace Go.Proofs
open Go.TM
section
variable (b:Nat) (T:Array Value) (todo:List Item)
def Qd5:Gr:=nxt (Q9 b T todo) (Q1 5 0) (Qq 0)
theorem Qm9:(Qc prog 209 false (Q9 b T todo) (Q1 5 0) (Qq 0)).info=some (Q1 4 0,Qq 0,#[Jg b 0,evW b 0],[(b,true),(b,true)]):=by kernel_rfl
theorem Qm8:Qm prog 209 false 87 (Qd5 b T todo)=some []:=by kernel_rfl
def Qo0:Gr:=Qi prog 209 false 87 (Qd5 b T todo)
theorem Qna:(Qc prog 209 false (Qo0 b T todo) undef undef).info=some (undef,undef,#[Z2 .enable],[]):=by kernel_rfl
def Qo1:Gr:=nxt (Qo0 b T todo) undef undef
theorem Qnb:Qm prog 209 false 6 (Qo1 b T todo)=some []:=by kernel_rfl
theorem Qpw:(Qi prog 209 false 6 (Qo1 b T todo)).status=.finished:=by kernel_rfl
theorem Q6o:Go.Conc.QuitsD prog 94 1 (Qd5 b T todo):=Ze (n:=87) (Qm8 b T todo) (J9 (Qna b T todo) (by simp [Z2,Event.mute]) (Ze (n:=6) (k:=0) (Qnb b T todo) ⟨Qpw b T todo,rfl⟩))
end
section
variable (b:Nat) (T:Array Value) (todo:List Item)
def Qd6:Gr:=nxt (Q9 b T todo) (Q1 5 1) (Qq 0)
theorem Qnd:(Qc prog 209 false (Q9 b T todo) (Q1 5 1) (Qq 0)).info=some (Q1 4 1,Qq 0,#[Jg b 0,evW b 0],[(b,true),(b,true)]):=by kernel_rfl
theorem Qnc:Qm prog 209 false 87 (Qd6 b T todo)=some []:=by kernel_rfl
def Qo2:Gr:=Qi prog 209 false 87 (Qd6 b T todo)
theorem Qne:(Qc prog 209 false (Qo2 b T todo) undef undef).info=some (undef,undef,#[Z2 .enable],[]):=by kernel_rfl
def Qo3:Gr:=nxt (Qo2 b T todo) undef undef
theorem Qnf:Qm prog 209 false 6 (Qo3 b T todo)=some []:=by kernel_rfl
theorem Qpx:(Qi prog 209 false 6 (Qo3 b T todo)).status=.finished:=by kernel_rfl
theorem Q6p:Go.Conc.QuitsD prog 94 1 (Qd6 b T todo):=Ze (n:=87) (Qnc b T todo) (J9 (Qne b T todo) (by simp [Z2,Event.mute]) (Ze (n:=6) (k:=0) (Qnf b T todo) ⟨Qpx b T todo,rfl⟩))
end
end Go.Proofs
end
