/- Lemmas. No conditions. -/
import Derived.Test.YtnjljnhoaafkiaaGreatDoorB12
set_option linter.all false
set_option maxRecDepth 100000
open Go.Proofs.Tryz (prog)
noncomputable section
namespace Go.TM
open Go.Proofs
section
variable(b:Nat)(T:Array Value)(todo:List Item)
def Vk:Gr:=QT (Q8 b T todo) (Q0 4 0) (Qp 0)
def CW:(Qc prog 176 false (Q8 b T todo) (Q0 4 0) (Qp 0)).info=some (Q0 3 0,Qp 0,#[Jc b 0,QA b 0],[(b,true),(b,true)]):=K1
def CV:Qm prog 176 false 87 (Vk b T todo)=some []:=K1
def EK:Gr:=Qj prog 176 false 87 (Vk b T todo)
def Ck:(Qc prog 176 false (EK b T todo) undef undef).info=some (undef,undef,#[Z0 .enable],[]):=K1
def EL:Gr:=QT (EK b T todo) undef undef
def Cl:Qm prog 176 false 6 (EL b T todo)=some []:=K1
def qA:(Qj prog 176 false 6 (EL b T todo)).status=.finished:=K1
def RC:Go.Conc.QuitsD prog 94 1 (Vk b T todo):=Zd (n:=87) (CV b T todo) (J5 (Ck b T todo) (by simp[Z0,Event.mute]) (Zd (n:=6) (k:=0) (Cl b T todo) ⟨qA b T todo,rfl⟩))
def Vl:Gr:=QT (Q8 b T todo) (Q0 4 1) (Qp 0)
def Co:(Qc prog 176 false (Q8 b T todo) (Q0 4 1) (Qp 0)).info=some (Q0 3 1,Qp 0,#[Jc b 0,QA b 0],[(b,true),(b,true)]):=K1
def Cm:Qm prog 176 false 87 (Vl b T todo)=some []:=K1
def EM:Gr:=Qj prog 176 false 87 (Vl b T todo)
def Cp:(Qc prog 176 false (EM b T todo) undef undef).info=some (undef,undef,#[Z0 .enable],[]):=K1
def EN:Gr:=QT (EM b T todo) undef undef
def Cq:Qm prog 176 false 6 (EN b T todo)=some []:=K1
def qB:(Qj prog 176 false 6 (EN b T todo)).status=.finished:=K1
def RD:Go.Conc.QuitsD prog 94 1 (Vl b T todo):=Zd (n:=87) (Cm b T todo) (J5 (Cp b T todo) (by simp[Z0,Event.mute]) (Zd (n:=6) (k:=0) (Cq b T todo) ⟨qB b T todo,rfl⟩))
