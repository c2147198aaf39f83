/- Lemmas. No conditions. -/
import Derived.Test.YtnjljnhoaafkiaaGreatDoorB12
set_option linter.all false
open Go.Proofs.Tryz (prog)
set_option maxRecDepth 100000
noncomputable section
namespace Go.Proofs
open Go.TM
section
variable(b:Nat)(T:Array Value)(todo:List Item)
def Vh:Gr:=QT (Q8 b T todo) (Q0 4 0) (Qp 0)
def CL:(Qc prog 176 false (Q8 b T todo) (Q0 4 0) (Qp 0)).info=some (Q0 3 0,Qp 0,#[Jc b 0,QA b 0],[(b,true),(b,true)]):=K1
def CK:Qm prog 176 false 87 (Vh b T todo)=some []:=K1
def EL:Gr:=Qj prog 176 false 87 (Vh b T todo)
def C9:(Qc prog 176 false (EL b T todo) undef undef).info=some (undef,undef,#[Z0 .enable],[]):=K1
def EM:Gr:=QT (EL b T todo) undef undef
def Ca:Qm prog 176 false 6 (EM b T todo)=some []:=K1
def qm:(Qj prog 176 false 6 (EM b T todo)).status=.finished:=K1
def R2:Go.Conc.QuitsD prog 94 1 (Vh b T todo):=Ze (n:=87) (CK b T todo) (J5 (C9 b T todo) (by simp[Z0,Event.mute]) (Ze (n:=6) (k:=0) (Ca b T todo) ⟨qm b T todo,rfl⟩))
end
section
variable(b:Nat)(T:Array Value)(todo:List Item)
def Vi:Gr:=QT (Q8 b T todo) (Q0 4 1) (Qp 0)
def Cc:(Qc prog 176 false (Q8 b T todo) (Q0 4 1) (Qp 0)).info=some (Q0 3 1,Qp 0,#[Jc b 0,QA b 0],[(b,true),(b,true)]):=K1
def Cb:Qm prog 176 false 87 (Vi b T todo)=some []:=K1
def EN:Gr:=Qj prog 176 false 87 (Vi b T todo)
def Cd:(Qc prog 176 false (EN b T todo) undef undef).info=some (undef,undef,#[Z0 .enable],[]):=K1
def EO:Gr:=QT (EN b T todo) undef undef
def Ce:Qm prog 176 false 6 (EO b T todo)=some []:=K1
def qn:(Qj prog 176 false 6 (EO b T todo)).status=.finished:=K1
def R3:Go.Conc.QuitsD prog 94 1 (Vi b T todo):=Ze (n:=87) (Cb b T todo) (J5 (Cd b T todo) (by simp[Z0,Event.mute]) (Ze (n:=6) (k:=0) (Ce b T todo) ⟨qn b T todo,rfl⟩))
end
end Go.Proofs
end

