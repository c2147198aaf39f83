/- Lemmas. No conditions. -/
import Derived.Test.YtnjljnhoaafkiaaGreatDoorB12
set_option linter.all false
set_option maxRecDepth 100000
open Go.Proofs.Tryz (prog)
noncomputable section
namespace Go.TM
open Go.Proofs
section
variable(b:Nat)(T:Array Value)(todo:List Item)
def VC:Gr:=QT (Q8 b T todo) (Q0 2 0) (Qp 0)
def CG:(Qc prog 176 false (Q8 b T todo) (Q0 2 0) (Qp 0)).info=some (Q0 1 0,Qp 0,#[Jc b 0,QA b 0],[(b,true),(b,true)]):=K1
def CF:Qm prog 176 false 87 (VC b T todo)=some []:=K1
def EC:Gr:=Qj prog 176 false 87 (VC b T todo)
def CH:(Qc prog 176 false (EC b T todo) undef undef).info=some (undef,undef,#[Z0 .enable],[]):=K1
def ED:Gr:=QT (EC b T todo) undef undef
def CI:Qm prog 176 false 6 (ED b T todo)=some []:=K1
def qw:(Qj prog 176 false 6 (ED b T todo)).status=.finished:=K1
def Ry:Go.Conc.QuitsD prog 94 1 (VC b T todo):=Zd (n:=87) (CF b T todo) (J5 (CH b T todo) (by simp[Z0,Event.mute]) (Zd (n:=6) (k:=0) (CI b T todo) ⟨qw b T todo,rfl⟩))
def VD:Gr:=QT (Q8 b T todo) (Q0 2 1) (Qp 0)
def CK:(Qc prog 176 false (Q8 b T todo) (Q0 2 1) (Qp 0)).info=some (Q0 1 1,Qp 0,#[Jc b 0,QA b 0],[(b,true),(b,true)]):=K1
def CJ:Qm prog 176 false 87 (VD b T todo)=some []:=K1
def EE:Gr:=Qj prog 176 false 87 (VD b T todo)
def CL:(Qc prog 176 false (EE b T todo) undef undef).info=some (undef,undef,#[Z0 .enable],[]):=K1
def EF:Gr:=QT (EE b T todo) undef undef
def CM:Qm prog 176 false 6 (EF b T todo)=some []:=K1
def qx:(Qj prog 176 false 6 (EF b T todo)).status=.finished:=K1
def Rz:Go.Conc.QuitsD prog 94 1 (VD b T todo):=Zd (n:=87) (CJ b T todo) (J5 (CL b T todo) (by simp[Z0,Event.mute]) (Zd (n:=6) (k:=0) (CM b T todo) ⟨qx b T todo,rfl⟩))
