/- Lemmas of the proof. No conditions of their own. -/
import Derived.Test.YtnpfcnfhfkflhaaGreatDoorB14
set_option linter.all false
open Go.Proofs.Tryz (prog)
set_option maxRecDepth 100000
noncomputable section
namespace Go.Proofs
open Go.TM
section
variable (b:Nat) (T:Array Value) (todo:List Item)
def Qdv:Gr:=nxt (Q9 b T todo) (Q1 1 0) (Qq 0)
theorem Qex:(Qc prog 209 false (Q9 b T todo) (Q1 1 0) (Qq 0)).info=some (Q1 0 0,Qq 0,#[Jg b 0,evW b 0],[(b,true),(b,true)]):=by kernel_rfl
theorem Ql9:Qm prog 209 false 87 (Qdv b T todo)=some []:=by kernel_rfl
def Qoi:Gr:=Qi prog 209 false 87 (Qdv b T todo)
theorem Qma:(Qc prog 209 false (Qoi b T todo) undef undef).info=some (undef,undef,#[Z2 .enable],[]):=by kernel_rfl
def Qoj:Gr:=nxt (Qoi b T todo) undef undef
theorem Qmb:Qm prog 209 false 6 (Qoj b T todo)=some []:=by kernel_rfl
theorem Qpo:(Qi prog 209 false 6 (Qoj b T todo)).status=.finished:=by kernel_rfl
theorem Q6h:Go.Conc.QuitsD prog 94 1 (Qdv b T todo):=Ze (n:=87) (Ql9 b T todo) (J9 (Qma b T todo) (by simp [Z2,Event.mute]) (Ze (n:=6) (k:=0) (Qmb b T todo) ⟨Qpo b T todo,rfl⟩))
end
section
variable (b:Nat) (T:Array Value) (todo:List Item)
def Qdw:Gr:=nxt (Q9 b T todo) (Q1 1 1) (Qq 0)
theorem Qmd:(Qc prog 209 false (Q9 b T todo) (Q1 1 1) (Qq 0)).info=some (Q1 0 1,Qq 0,#[Jg b 0,evW b 0],[(b,true),(b,true)]):=by kernel_rfl
theorem Qmc:Qm prog 209 false 103 (Qdw b T todo)=some []:=by kernel_rfl
def Qdx:Gr:=Qi prog 209 false 103 (Qdw b T todo)
theorem Qey:(Qc prog 209 false (Qdx b T todo) (Q1 0 1) (Qq 0)).info=some (Q1 0 1,Qq 0,#[Jg b 0],[(b,true)]):=by kernel_rfl
def Qok:Gr:=nxt (Qdx b T todo) (Q1 0 1) (Qq 0)
theorem Qme:Qm prog 209 false 20 (Qok b T todo)=some []:=by kernel_rfl
def Qdy:Gr:=Qi prog 209 false 20 (Qok b T todo)
theorem Qez:(Qc prog 209 false (Qdy b T todo) (Q1 0 1) (Qq 0)).info=some (Q1 0 0,Qq 0,#[evW b 0],[(b,true)]):=by kernel_rfl
def Qol:Gr:=nxt (Qdy b T todo) (Q1 0 1) (Qq 0)
theorem Qmf:Qm prog 209 false 27 (Qol b T todo)=some []:=by kernel_rfl
def Qbw:Gr:=Qi prog 209 false 27 (Qol b T todo)
theorem Qe0:(Qc prog 209 false (Qbw b T todo) (Q1 0 0) (Qq 0)).info=some (Q1 0 0,Qq 1,#[Z2 .disable,Jg b 1,evW b 1,Z2 .enable],[(b,true),(b,true)]):=by kernel_rfl
theorem Qmg:mayWake prog (Qbw b T todo)=true:=by kernel_rfl
def Qg4:Gr:=nxt (Qbw b T todo) (Q1 0 0) (Qq 0)
theorem Qmh:Qm prog 209 false 17 (Qg4 b T todo)=some []:=by kernel_rfl
def Qom:Gr:=Qi prog 209 false 17 (Qg4 b T todo)
theorem Qmi:(Qc prog 209 false (Qom b T todo) undef undef).info=some (undef,undef,#[Z2 .enable],[]):=by kernel_rfl
def Qon:Gr:=nxt (Qom b T todo) undef undef
theorem Qmj:Qm prog 209 false 6 (Qon b T todo)=some []:=by kernel_rfl
theorem Qpp:(Qi prog 209 false 6 (Qon b T todo)).status=.finished:=by kernel_rfl
end
end Go.Proofs
end
