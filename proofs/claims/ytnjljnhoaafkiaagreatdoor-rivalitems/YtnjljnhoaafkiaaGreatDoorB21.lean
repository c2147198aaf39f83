/- Lemmas. No conditions. -/
import Derived.Test.YtnjljnhoaafkiaaGreatDoorB12
set_option linter.all false
open Go.Proofs.Tryz (prog)
set_option maxRecDepth 100000
noncomputable section
namespace Go.Proofs
open Go.TM
section
variable(b:Nat)(T:Array Value)(todo:List Item)
def Vl:Gr:=QT (Q8 b T todo) (Q0 6 0) (Qp 0)
def CR:(Qc prog 176 false (Q8 b T todo) (Q0 6 0) (Qp 0)).info=some (Q0 5 0,Qp 0,#[Jc b 0,QA b 0],[(b,true),(b,true)]):=K1
def CQ:Qm prog 176 false 87 (Vl b T todo)=some []:=K1
def Ei:Gr:=Qj prog 176 false 87 (Vl b T todo)
def CS:(Qc prog 176 false (Ei b T todo) undef undef).info=some (undef,undef,#[Z0 .enable],[]):=K1
def Ej:Gr:=QT (Ei b T todo) undef undef
def CT:Qm prog 176 false 6 (Ej b T todo)=some []:=K1
def qt:(Qj prog 176 false 6 (Ej b T todo)).status=.finished:=K1
def RH:Go.Conc.QuitsD prog 94 1 (Vl b T todo):=Ze (n:=87) (CQ b T todo) (J5 (CS b T todo) (by simp[Z0,Event.mute]) (Ze (n:=6) (k:=0) (CT b T todo) ⟨qt b T todo,rfl⟩))
end
section
variable(b:Nat)(T:Array Value)(todo:List Item)
def Vm:Gr:=QT (Q8 b T todo) (Q0 6 1) (Qp 0)
def CV:(Qc prog 176 false (Q8 b T todo) (Q0 6 1) (Qp 0)).info=some (Q0 5 1,Qp 0,#[Jc b 0,QA b 0],[(b,true),(b,true)]):=K1
def CU:Qm prog 176 false 87 (Vm b T todo)=some []:=K1
def Ek:Gr:=Qj prog 176 false 87 (Vm b T todo)
def CW:(Qc prog 176 false (Ek b T todo) undef undef).info=some (undef,undef,#[Z0 .enable],[]):=K1
def El:Gr:=QT (Ek b T todo) undef undef
def CX:Qm prog 176 false 6 (El b T todo)=some []:=K1
def qu:(Qj prog 176 false 6 (El b T todo)).status=.finished:=K1
def RI:Go.Conc.QuitsD prog 94 1 (Vm b T todo):=Ze (n:=87) (CU b T todo) (J5 (CW b T todo) (by simp[Z0,Event.mute]) (Ze (n:=6) (k:=0) (CX b T todo) ⟨qu b T todo,rfl⟩))
end
end Go.Proofs
end

