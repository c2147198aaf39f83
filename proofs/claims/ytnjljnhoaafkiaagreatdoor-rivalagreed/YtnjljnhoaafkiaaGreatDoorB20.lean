/- Lemmas. No conditions. -/
import Derived.Test.YtnjljnhoaafkiaaGreatDoorB12
set_option linter.all false
set_option maxRecDepth 100000
open Go.Proofs.Tryz (prog)
noncomputable section
namespace Go.TM
open Go.Proofs
section
variable(b:Nat)(T:Array Value)(todo:List Item)
def Vm:Gr:=QT (Q8 b T todo) (Q0 5 0) (Qp 0)
def Ct:(Qc prog 176 false (Q8 b T todo) (Q0 5 0) (Qp 0)).info=some (Q0 4 0,Qp 0,#[Jc b 0,QA b 0],[(b,true),(b,true)]):=K1
def Cr:Qm prog 176 false 87 (Vm b T todo)=some []:=K1
def EO:Gr:=Qj prog 176 false 87 (Vm b T todo)
def Cu:(Qc prog 176 false (EO b T todo) undef undef).info=some (undef,undef,#[Z0 .enable],[]):=K1
def EP:Gr:=QT (EO b T todo) undef undef
def Cv:Qm prog 176 false 6 (EP b T todo)=some []:=K1
def qC:(Qj prog 176 false 6 (EP b T todo)).status=.finished:=K1
def RE:Go.Conc.QuitsD prog 94 1 (Vm b T todo):=Zd (n:=87) (Cr b T todo) (J5 (Cu b T todo) (by simp[Z0,Event.mute]) (Zd (n:=6) (k:=0) (Cv b T todo) ⟨qC b T todo,rfl⟩))
def Vn:Gr:=QT (Q8 b T todo) (Q0 5 1) (Qp 0)
def CY:(Qc prog 176 false (Q8 b T todo) (Q0 5 1) (Qp 0)).info=some (Q0 4 1,Qp 0,#[Jc b 0,QA b 0],[(b,true),(b,true)]):=K1
def CX:Qm prog 176 false 87 (Vn b T todo)=some []:=K1
def EQ:Gr:=Qj prog 176 false 87 (Vn b T todo)
def CZ:(Qc prog 176 false (EQ b T todo) undef undef).info=some (undef,undef,#[Z0 .enable],[]):=K1
def ER:Gr:=QT (EQ b T todo) undef undef
def C_:Qm prog 176 false 6 (ER b T todo)=some []:=K1
def qD:(Qj prog 176 false 6 (ER b T todo)).status=.finished:=K1
def RF:Go.Conc.QuitsD prog 94 1 (Vn b T todo):=Zd (n:=87) (CX b T todo) (J5 (CZ b T todo) (by simp[Z0,Event.mute]) (Zd (n:=6) (k:=0) (C_ b T todo) ⟨qD b T todo,rfl⟩))
