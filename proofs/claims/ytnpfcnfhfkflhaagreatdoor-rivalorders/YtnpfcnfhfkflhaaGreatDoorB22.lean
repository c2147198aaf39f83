/- Lemmas. No conditions. -/
import Derived.Test.YtnpfcnfhfkflhaaGreatDoorB14
set_option linter.all false
open Go.Proofs.Tryz (prog)
set_option maxRecDepth 100000
noncomputable section
namespace Go.Proofs
open Go.TM
section
variable(b:Nat)(T:Array Value)(todo:List Item)
def Vr:Gr:=QV (Q9 b T todo) (Q1 5 0) (Qq 0)
def jD:(Qc prog 209 false (Q9 b T todo) (Q1 5 0) (Qq 0)).info=some (Q1 4 0,Qq 0,#[Jg b 0,QB b 0],[(b,true),(b,true)]):=K1
def gt:Qm prog 209 false 87 (Vr b T todo)=some []:=K1
def E7:Gr:=Qi prog 209 false 87 (Vr b T todo)
def jP:(Qc prog 209 false (E7 b T todo) undef undef).info=some (undef,undef,#[Z2 .enable],[]):=K1
def EG:Gr:=QV (E7 b T todo) undef undef
def kp:Qm prog 209 false 6 (EG b T todo)=some []:=K1
def xr:(Qi prog 209 false 6 (EG b T todo)).status=.finished:=K1
def zA:Go.Conc.QuitsD prog 94 1 (Vr b T todo):=Ze (n:=87) (gt b T todo) (J9 (jP b T todo) (by simp[Z2,Event.mute]) (Ze (n:=6) (k:=0) (kp b T todo) ⟨xr b T todo,rfl⟩))
end
section
variable(b:Nat)(T:Array Value)(todo:List Item)
def Kh:Gr:=QV (Q9 b T todo) (Q1 5 1) (Qq 0)
def jy:(Qc prog 209 false (Q9 b T todo) (Q1 5 1) (Qq 0)).info=some (Q1 4 1,Qq 0,#[Jg b 0,QB b 0],[(b,true),(b,true)]):=K1
def BD:Qm prog 209 false 87 (Kh b T todo)=some []:=K1
def LR:Gr:=Qi prog 209 false 87 (Kh b T todo)
def Al:(Qc prog 209 false (LR b T todo) undef undef).info=some (undef,undef,#[Z2 .enable],[]):=K1
def L8:Gr:=QV (LR b T todo) undef undef
def we:Qm prog 209 false 6 (L8 b T todo)=some []:=K1
def q_:(Qi prog 209 false 6 (L8 b T todo)).status=.finished:=K1
def Mt:Go.Conc.QuitsD prog 94 1 (Kh b T todo):=Ze (n:=87) (BD b T todo) (J9 (Al b T todo) (by simp[Z2,Event.mute]) (Ze (n:=6) (k:=0) (we b T todo) ⟨q_ b T todo,rfl⟩))
end
end Go.Proofs
end

