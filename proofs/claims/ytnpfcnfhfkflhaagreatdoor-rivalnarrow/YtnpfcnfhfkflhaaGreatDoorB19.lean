/- Lemmas of the proof. No conditions of their own. -/
import Derived.Test.YtnpfcnfhfkflhaaGreatDoorB14
set_option linter.all false
open Go.Proofs.Tryz (prog)
set_option maxRecDepth 100000
noncomputable section
namespace Go.Proofs
open Go.TM
section
variable (b:Nat) (T:Array Value) (todo:List Item)
def Qdz:Gr:=nxt (Q9 b T todo) (Q1 2 0) (Qq 0)
theorem Qml:(Qc prog 209 false (Q9 b T todo) (Q1 2 0) (Qq 0)).info=some (Q1 1 0,Qq 0,#[Jg b 0,evW b 0],[(b,true),(b,true)]):=by kernel_rfl
theorem Qmk:Qm prog 209 false 87 (Qdz b T todo)=some []:=by kernel_rfl
def Qoo:Gr:=Qi prog 209 false 87 (Qdz b T todo)
theorem Qmm:(Qc prog 209 false (Qoo b T todo) undef undef).info=some (undef,undef,#[Z2 .enable],[]):=by kernel_rfl
def Qop:Gr:=nxt (Qoo b T todo) undef undef
theorem Qmn:Qm prog 209 false 6 (Qop b T todo)=some []:=by kernel_rfl
theorem Qpq:(Qi prog 209 false 6 (Qop b T todo)).status=.finished:=by kernel_rfl
theorem Q6i:Go.Conc.QuitsD prog 94 1 (Qdz b T todo):=Ze (n:=87) (Qmk b T todo) (J9 (Qmm b T todo) (by simp [Z2,Event.mute]) (Ze (n:=6) (k:=0) (Qmn b T todo) ⟨Qpq b T todo,rfl⟩))
end
section
variable (b:Nat) (T:Array Value) (todo:List Item)
def Qd0:Gr:=nxt (Q9 b T todo) (Q1 2 1) (Qq 0)
theorem Qmp:(Qc prog 209 false (Q9 b T todo) (Q1 2 1) (Qq 0)).info=some (Q1 1 1,Qq 0,#[Jg b 0,evW b 0],[(b,true),(b,true)]):=by kernel_rfl
theorem Qmo:Qm prog 209 false 87 (Qd0 b T todo)=some []:=by kernel_rfl
def Qoq:Gr:=Qi prog 209 false 87 (Qd0 b T todo)
theorem Qmq:(Qc prog 209 false (Qoq b T todo) undef undef).info=some (undef,undef,#[Z2 .enable],[]):=by kernel_rfl
def Qor:Gr:=nxt (Qoq b T todo) undef undef
theorem Qmr:Qm prog 209 false 6 (Qor b T todo)=some []:=by kernel_rfl
theorem Qpr:(Qi prog 209 false 6 (Qor b T todo)).status=.finished:=by kernel_rfl
theorem Q6j:Go.Conc.QuitsD prog 94 1 (Qd0 b T todo):=Ze (n:=87) (Qmo b T todo) (J9 (Qmq b T todo) (by simp [Z2,Event.mute]) (Ze (n:=6) (k:=0) (Qmr b T todo) ⟨Qpr b T todo,rfl⟩))
end
end Go.Proofs
end
