/- Lemmas of the proof. No conditions of their own. -/
import Derived.Test.YtnpfcnfhfkflhaaGreatDoorB14
set_option linter.all false
open Go.Proofs.Tryz (prog)
set_option maxRecDepth 100000
noncomputable section
namespace Go.Proofs
open Go.TM
section
variable (b:Nat) (T:Array Value) (todo:List Item)
def Qd1:Gr:=nxt (Q9 b T todo) (Q1 3 0) (Qq 0)
theorem Qmt:(Qc prog 209 false (Q9 b T todo) (Q1 3 0) (Qq 0)).info=some (Q1 2 0,Qq 0,#[Jg b 0,evW b 0],[(b,true),(b,true)]):=by kernel_rfl
theorem Qms:Qm prog 209 false 87 (Qd1 b T todo)=some []:=by kernel_rfl
def Qos:Gr:=Qi prog 209 false 87 (Qd1 b T todo)
theorem Qmu:(Qc prog 209 false (Qos b T todo) undef undef).info=some (undef,undef,#[Z2 .enable],[]):=by kernel_rfl
def Qot:Gr:=nxt (Qos b T todo) undef undef
theorem Qmv:Qm prog 209 false 6 (Qot b T todo)=some []:=by kernel_rfl
theorem Qps:(Qi prog 209 false 6 (Qot b T todo)).status=.finished:=by kernel_rfl
theorem Q6k:Go.Conc.QuitsD prog 94 1 (Qd1 b T todo):=Ze (n:=87) (Qms b T todo) (J9 (Qmu b T todo) (by simp [Z2,Event.mute]) (Ze (n:=6) (k:=0) (Qmv b T todo) ⟨Qps b T todo,rfl⟩))
end
section
variable (b:Nat) (T:Array Value) (todo:List Item)
def Qd2:Gr:=nxt (Q9 b T todo) (Q1 3 1) (Qq 0)
theorem Qmx:(Qc prog 209 false (Q9 b T todo) (Q1 3 1) (Qq 0)).info=some (Q1 2 1,Qq 0,#[Jg b 0,evW b 0],[(b,true),(b,true)]):=by kernel_rfl
theorem Qmw:Qm prog 209 false 87 (Qd2 b T todo)=some []:=by kernel_rfl
def Qou:Gr:=Qi prog 209 false 87 (Qd2 b T todo)
theorem Qmy:(Qc prog 209 false (Qou b T todo) undef undef).info=some (undef,undef,#[Z2 .enable],[]):=by kernel_rfl
def Qov:Gr:=nxt (Qou b T todo) undef undef
theorem Qmz:Qm prog 209 false 6 (Qov b T todo)=some []:=by kernel_rfl
theorem Qpt:(Qi prog 209 false 6 (Qov b T todo)).status=.finished:=by kernel_rfl
theorem Q6l:Go.Conc.QuitsD prog 94 1 (Qd2 b T todo):=Ze (n:=87) (Qmw b T todo) (J9 (Qmy b T todo) (by simp [Z2,Event.mute]) (Ze (n:=6) (k:=0) (Qmz b T todo) ⟨Qpt b T todo,rfl⟩))
end
end Go.Proofs
end
