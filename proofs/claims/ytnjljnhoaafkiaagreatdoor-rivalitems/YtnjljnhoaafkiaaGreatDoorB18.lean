/- Lemmas. No conditions. -/
import Derived.Test.YtnjljnhoaafkiaaGreatDoorB12
set_option linter.all false
open Go.Proofs.Tryz (prog)
set_option maxRecDepth 100000
noncomputable section
namespace Go.Proofs
open Go.TM
section
variable(b:Nat)(T:Array Value)(todo:List Item)
def VB:Gr:=QT (Q8 b T todo) (Q0 3 0) (Qp 0)
def CD:(Qc prog 176 false (Q8 b T todo) (Q0 3 0) (Qp 0)).info=some (Q0 2 0,Qp 0,#[Jc b 0,QA b 0],[(b,true),(b,true)]):=K1
def CC:Qm prog 176 false 87 (VB b T todo)=some []:=K1
def EH:Gr:=Qj prog 176 false 87 (VB b T todo)
def CE:(Qc prog 176 false (EH b T todo) undef undef).info=some (undef,undef,#[Z0 .enable],[]):=K1
def EI:Gr:=QT (EH b T todo) undef undef
def CF:Qm prog 176 false 6 (EI b T todo)=some []:=K1
def qj:(Qj prog 176 false 6 (EI b T todo)).status=.finished:=K1
def R0:Go.Conc.QuitsD prog 94 1 (VB b T todo):=Ze (n:=87) (CC b T todo) (J5 (CE b T todo) (by simp[Z0,Event.mute]) (Ze (n:=6) (k:=0) (CF b T todo) ⟨qj b T todo,rfl⟩))
end
section
variable(b:Nat)(T:Array Value)(todo:List Item)
def Vg:Gr:=QT (Q8 b T todo) (Q0 3 1) (Qp 0)
def CH:(Qc prog 176 false (Q8 b T todo) (Q0 3 1) (Qp 0)).info=some (Q0 2 1,Qp 0,#[Jc b 0,QA b 0],[(b,true),(b,true)]):=K1
def CG:Qm prog 176 false 87 (Vg b T todo)=some []:=K1
def EJ:Gr:=Qj prog 176 false 87 (Vg b T todo)
def CI:(Qc prog 176 false (EJ b T todo) undef undef).info=some (undef,undef,#[Z0 .enable],[]):=K1
def EK:Gr:=QT (EJ b T todo) undef undef
def CJ:Qm prog 176 false 6 (EK b T todo)=some []:=K1
def qk:(Qj prog 176 false 6 (EK b T todo)).status=.finished:=K1
def R1:Go.Conc.QuitsD prog 94 1 (Vg b T todo):=Ze (n:=87) (CG b T todo) (J5 (CI b T todo) (by simp[Z0,Event.mute]) (Ze (n:=6) (k:=0) (CJ b T todo) ⟨qk b T todo,rfl⟩))
end
end Go.Proofs
end

