/- Lemmas. No conditions. -/
import Derived.Test.YtnjljnhoaafkiaaGreatDoorB12
set_option linter.all false
open Go.Proofs.Tryz (prog)
set_option maxRecDepth 100000
noncomputable section
namespace Go.Proofs
open Go.TM
section
variable(b:Nat)(T:Array Value)(todo:List Item)
def Vv:Gr:=QT (Q8 b T todo) (Q0 1 0) (Qp 0)
def DD:(Qc prog 176 false (Q8 b T todo) (Q0 1 0) (Qp 0)).info=some (Q0 0 0,Qp 0,#[Jc b 0,QA b 0],[(b,true),(b,true)]):=K1
def C6:Qm prog 176 false 87 (Vv b T todo)=some []:=K1
def Ew:Gr:=Qj prog 176 false 87 (Vv b T todo)
def C7:(Qc prog 176 false (Ew b T todo) undef undef).info=some (undef,undef,#[Z0 .enable],[]):=K1
def Ey:Gr:=QT (Ew b T todo) undef undef
def C8:Qm prog 176 false 6 (Ey b T todo)=some []:=K1
def qf:(Qj prog 176 false 6 (Ey b T todo)).status=.finished:=K1
def NY:Go.Conc.QuitsD prog 94 1 (Vv b T todo):=Ze (n:=87) (C6 b T todo) (J5 (C7 b T todo) (by simp[Z0,Event.mute]) (Ze (n:=6) (k:=0) (C8 b T todo) ⟨qf b T todo,rfl⟩))
end
section
variable(b:Nat)(T:Array Value)(todo:List Item)
def Vw:Gr:=QT (Q8 b T todo) (Q0 1 1) (Qp 0)
def Ck:(Qc prog 176 false (Q8 b T todo) (Q0 1 1) (Qp 0)).info=some (Q0 0 1,Qp 0,#[Jc b 0,QA b 0],[(b,true),(b,true)]):=K1
def Cj:Qm prog 176 false 103 (Vw b T todo)=some []:=K1
def Vx:Gr:=Qj prog 176 false 103 (Vw b T todo)
def DE:(Qc prog 176 false (Vx b T todo) (Q0 0 1) (Qp 0)).info=some (Q0 0 1,Qp 0,#[Jc b 0],[(b,true)]):=K1
def Ez:Gr:=QT (Vx b T todo) (Q0 0 1) (Qp 0)
def Cl:Qm prog 176 false 20 (Ez b T todo)=some []:=K1
def Vy:Gr:=Qj prog 176 false 20 (Ez b T todo)
def DF:(Qc prog 176 false (Vy b T todo) (Q0 0 1) (Qp 0)).info=some (Q0 0 0,Qp 0,#[QA b 0],[(b,true)]):=K1
def EA:Gr:=QT (Vy b T todo) (Q0 0 1) (Qp 0)
def Cm:Qm prog 176 false 27 (EA b T todo)=some []:=K1
def P3:Gr:=Qj prog 176 false 27 (EA b T todo)
def DG:(Qc prog 176 false (P3 b T todo) (Q0 0 0) (Qp 0)).info=some (Q0 0 0,Qp 1,#[Z0 .disable,Jc b 1,QA b 1,Z0 .enable],[(b,true),(b,true)]):=K1
def Co:mayWake prog (P3 b T todo)=true:=K1
def YJ:Gr:=QT (P3 b T todo) (Q0 0 0) (Qp 0)
def Cp:Qm prog 176 false 17 (YJ b T todo)=some []:=K1
def EB:Gr:=Qj prog 176 false 17 (YJ b T todo)
def Cq:(Qc prog 176 false (EB b T todo) undef undef).info=some (undef,undef,#[Z0 .enable],[]):=K1
def EC:Gr:=QT (EB b T todo) undef undef
def Cr:Qm prog 176 false 6 (EC b T todo)=some []:=K1
def qg:(Qj prog 176 false 6 (EC b T todo)).status=.finished:=K1
end
end Go.Proofs
end

