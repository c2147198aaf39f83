/- Lemmas. No conditions. -/
import Derived.Test.YtignaaddghcanaaGreatDoorB11
set_option linter.all false
set_option maxRecDepth 100000
open Go.Proofs.Tryz (prog)
noncomputable section
namespace Go.TM
open Go.Proofs
section
variable(b:Nat)(T:Array Value)(todo:List Item)
def Vm:Gr:=QS (Q7 b T todo) (Q0 3 0) (Qp 0)
def Cp:(Qc prog 173 false (Q7 b T todo) (Q0 3 0) (Qp 0)).info=some (Q0 2 0,Qp 0,#[Jd b 0,W9 b 0],[(b,true),(b,true)]):=K1
def Co:Qm prog 173 false 87 (Vm b T todo)=some []:=K1
def El:Gr:=Qi prog 173 false 87 (Vm b T todo)
def Cq:(Qc prog 173 false (El b T todo) undef undef).info=some (undef,undef,#[Z0 .enable],[]):=K1
def Em:Gr:=QS (El b T todo) undef undef
def Cr:Qm prog 173 false 6 (Em b T todo)=some []:=K1
def CW:(Qi prog 173 false 6 (Em b T todo)).status=.finished:=K1
def Rh:Go.Conc.QuitsD prog 94 1 (Vm b T todo):=Zd (n:=87) (Co b T todo) (J5 (Cq b T todo) (by simp[Z0,Event.mute]) (Zd (n:=6) (k:=0) (Cr b T todo) ⟨CW b T todo,rfl⟩))
def Vn:Gr:=QS (Q7 b T todo) (Q0 3 1) (Qp 0)
def Cu:(Qc prog 173 false (Q7 b T todo) (Q0 3 1) (Qp 0)).info=some (Q0 2 1,Qp 0,#[Jd b 0,W9 b 0],[(b,true),(b,true)]):=K1
def Ct:Qm prog 173 false 87 (Vn b T todo)=some []:=K1
def En:Gr:=Qi prog 173 false 87 (Vn b T todo)
def Cv:(Qc prog 173 false (En b T todo) undef undef).info=some (undef,undef,#[Z0 .enable],[]):=K1
def Eo:Gr:=QS (En b T todo) undef undef
def Cw:Qm prog 173 false 6 (Eo b T todo)=some []:=K1
def CX:(Qi prog 173 false 6 (Eo b T todo)).status=.finished:=K1
def Ri:Go.Conc.QuitsD prog 94 1 (Vn b T todo):=Zd (n:=87) (Ct b T todo) (J5 (Cv b T todo) (by simp[Z0,Event.mute]) (Zd (n:=6) (k:=0) (Cw b T todo) ⟨CX b T todo,rfl⟩))
