/- Lemmas. No conditions. -/
import Derived.Test.YtnjljnhoaafkiaaGreatDoorB12
set_option linter.all false
open Go.Proofs.Tryz (prog)
set_option maxRecDepth 100000
noncomputable section
namespace Go.Proofs
open Go.TM
section
variable(b:Nat)(T:Array Value)(todo:List Item)
def Vz:Gr:=QT (Q8 b T todo) (Q0 2 0) (Qp 0)
def Cu:(Qc prog 176 false (Q8 b T todo) (Q0 2 0) (Qp 0)).info=some (Q0 1 0,Qp 0,#[Jc b 0,QA b 0],[(b,true),(b,true)]):=K1
def Ct:Qm prog 176 false 87 (Vz b T todo)=some []:=K1
def ED:Gr:=Qj prog 176 false 87 (Vz b T todo)
def Cv:(Qc prog 176 false (ED b T todo) undef undef).info=some (undef,undef,#[Z0 .enable],[]):=K1
def EE:Gr:=QT (ED b T todo) undef undef
def Cw:Qm prog 176 false 6 (EE b T todo)=some []:=K1
def qh:(Qj prog 176 false 6 (EE b T todo)).status=.finished:=K1
def NZ:Go.Conc.QuitsD prog 94 1 (Vz b T todo):=Ze (n:=87) (Ct b T todo) (J5 (Cv b T todo) (by simp[Z0,Event.mute]) (Ze (n:=6) (k:=0) (Cw b T todo) ⟨qh b T todo,rfl⟩))
end
section
variable(b:Nat)(T:Array Value)(todo:List Item)
def VA:Gr:=QT (Q8 b T todo) (Q0 2 1) (Qp 0)
def Cy:(Qc prog 176 false (Q8 b T todo) (Q0 2 1) (Qp 0)).info=some (Q0 1 1,Qp 0,#[Jc b 0,QA b 0],[(b,true),(b,true)]):=K1
def Cx:Qm prog 176 false 87 (VA b T todo)=some []:=K1
def EF:Gr:=Qj prog 176 false 87 (VA b T todo)
def Cz:(Qc prog 176 false (EF b T todo) undef undef).info=some (undef,undef,#[Z0 .enable],[]):=K1
def EG:Gr:=QT (EF b T todo) undef undef
def CA:Qm prog 176 false 6 (EG b T todo)=some []:=K1
def qi:(Qj prog 176 false 6 (EG b T todo)).status=.finished:=K1
def N_:Go.Conc.QuitsD prog 94 1 (VA b T todo):=Ze (n:=87) (Cx b T todo) (J5 (Cz b T todo) (by simp[Z0,Event.mute]) (Ze (n:=6) (k:=0) (CA b T todo) ⟨qi b T todo,rfl⟩))
end
end Go.Proofs
end

