/- Lemmas of the proof. No conditions of their own. -/
import Derived.Test.YtnpfcnfhfkflhaaGreatDoorB14
set_option linter.all false
open Go.Proofs.Tryz (prog)
set_option maxRecDepth 100000
noncomputable section
namespace Go.Proofs
open Go.TM
section
variable (b:Nat) (T:Array Value) (todo:List Item)
def Qd7:Gr:=nxt (Q9 b T todo) (Q1 6 0) (Qq 0)
theorem Qnh:(Qc prog 209 false (Q9 b T todo) (Q1 6 0) (Qq 0)).info=some (Q1 5 0,Qq 0,#[Jg b 0,evW b 0],[(b,true),(b,true)]):=by kernel_rfl
theorem Qng:Qm prog 209 false 87 (Qd7 b T todo)=some []:=by kernel_rfl
def Qo4:Gr:=Qi prog 209 false 87 (Qd7 b T todo)
theorem Qni:(Qc prog 209 false (Qo4 b T todo) undef undef).info=some (undef,undef,#[Z2 .enable],[]):=by kernel_rfl
def Qo5:Gr:=nxt (Qo4 b T todo) undef undef
theorem Qnj:Qm prog 209 false 6 (Qo5 b T todo)=some []:=by kernel_rfl
theorem Qpy:(Qi prog 209 false 6 (Qo5 b T todo)).status=.finished:=by kernel_rfl
theorem Q6q:Go.Conc.QuitsD prog 94 1 (Qd7 b T todo):=Ze (n:=87) (Qng b T todo) (J9 (Qni b T todo) (by simp [Z2,Event.mute]) (Ze (n:=6) (k:=0) (Qnj b T todo) ⟨Qpy b T todo,rfl⟩))
end
section
variable (b:Nat) (T:Array Value) (todo:List Item)
def Qd8:Gr:=nxt (Q9 b T todo) (Q1 6 1) (Qq 0)
theorem Qnl:(Qc prog 209 false (Q9 b T todo) (Q1 6 1) (Qq 0)).info=some (Q1 5 1,Qq 0,#[Jg b 0,evW b 0],[(b,true),(b,true)]):=by kernel_rfl
theorem Qnk:Qm prog 209 false 87 (Qd8 b T todo)=some []:=by kernel_rfl
def Qo6:Gr:=Qi prog 209 false 87 (Qd8 b T todo)
theorem Qnm:(Qc prog 209 false (Qo6 b T todo) undef undef).info=some (undef,undef,#[Z2 .enable],[]):=by kernel_rfl
def Qo7:Gr:=nxt (Qo6 b T todo) undef undef
theorem Qnn:Qm prog 209 false 6 (Qo7 b T todo)=some []:=by kernel_rfl
theorem Qpz:(Qi prog 209 false 6 (Qo7 b T todo)).status=.finished:=by kernel_rfl
theorem Q6r:Go.Conc.QuitsD prog 94 1 (Qd8 b T todo):=Ze (n:=87) (Qnk b T todo) (J9 (Qnm b T todo) (by simp [Z2,Event.mute]) (Ze (n:=6) (k:=0) (Qnn b T todo) ⟨Qpz b T todo,rfl⟩))
end
end Go.Proofs
end
