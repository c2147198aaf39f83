/- Lemmas of the proof. No conditions of their own. -/
import Derived.Test.YtnpfcnfhfkflhaaGreatDoorB14
set_option linter.all false
open Go.Proofs.Tryz (prog)
set_option maxRecDepth 100000
noncomputable section
namespace Go.Proofs
open Go.TM
section
variable (b:Nat) (T:Array Value) (todo:List Item)
def Qd3:Gr:=nxt (Q9 b T todo) (Q1 4 0) (Qq 0)
theorem Qm1:(Qc prog 209 false (Q9 b T todo) (Q1 4 0) (Qq 0)).info=some (Q1 3 0,Qq 0,#[Jg b 0,evW b 0],[(b,true),(b,true)]):=by kernel_rfl
theorem Qm0:Qm prog 209 false 87 (Qd3 b T todo)=some []:=by kernel_rfl
def Qow:Gr:=Qi prog 209 false 87 (Qd3 b T todo)
theorem Qm2:(Qc prog 209 false (Qow b T todo) undef undef).info=some (undef,undef,#[Z2 .enable],[]):=by kernel_rfl
def Qox:Gr:=nxt (Qow b T todo) undef undef
theorem Qm3:Qm prog 209 false 6 (Qox b T todo)=some []:=by kernel_rfl
theorem Qpu:(Qi prog 209 false 6 (Qox b T todo)).status=.finished:=by kernel_rfl
theorem Q6m:Go.Conc.QuitsD prog 94 1 (Qd3 b T todo):=Ze (n:=87) (Qm0 b T todo) (J9 (Qm2 b T todo) (by simp [Z2,Event.mute]) (Ze (n:=6) (k:=0) (Qm3 b T todo) ⟨Qpu b T todo,rfl⟩))
end
section
variable (b:Nat) (T:Array Value) (todo:List Item)
def Qd4:Gr:=nxt (Q9 b T todo) (Q1 4 1) (Qq 0)
theorem Qm5:(Qc prog 209 false (Q9 b T todo) (Q1 4 1) (Qq 0)).info=some (Q1 3 1,Qq 0,#[Jg b 0,evW b 0],[(b,true),(b,true)]):=by kernel_rfl
theorem Qm4:Qm prog 209 false 87 (Qd4 b T todo)=some []:=by kernel_rfl
def Qoy:Gr:=Qi prog 209 false 87 (Qd4 b T todo)
theorem Qm6:(Qc prog 209 false (Qoy b T todo) undef undef).info=some (undef,undef,#[Z2 .enable],[]):=by kernel_rfl
def Qoz:Gr:=nxt (Qoy b T todo) undef undef
theorem Qm7:Qm prog 209 false 6 (Qoz b T todo)=some []:=by kernel_rfl
theorem Qpv:(Qi prog 209 false 6 (Qoz b T todo)).status=.finished:=by kernel_rfl
theorem Q6n:Go.Conc.QuitsD prog 94 1 (Qd4 b T todo):=Ze (n:=87) (Qm4 b T todo) (J9 (Qm6 b T todo) (by simp [Z2,Event.mute]) (Ze (n:=6) (k:=0) (Qm7 b T todo) ⟨Qpv b T todo,rfl⟩))
end
end Go.Proofs
end
