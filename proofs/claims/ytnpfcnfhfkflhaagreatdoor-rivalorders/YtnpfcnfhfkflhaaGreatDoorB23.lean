/- Lemmas. No conditions. -/
import Derived.Test.YtnpfcnfhfkflhaaGreatDoorB14
set_option linter.all false
open Go.Proofs.Tryz (prog)
set_option maxRecDepth 100000
noncomputable section
namespace Go.Proofs
open Go.TM
section
variable(b:Nat)(T:Array Value)(todo:List Item)
def K4:Gr:=QV (Q9 b T todo) (Q1 6 0) (Qq 0)
def NC:(Qc prog 209 false (Q9 b T todo) (Q1 6 0) (Qq 0)).info=some (Q1 5 0,Qq 0,#[Jg b 0,QB b 0],[(b,true),(b,true)]):=K1
def xm:Qm prog 209 false 87 (K4 b T todo)=some []:=K1
def FC:Gr:=Qi prog 209 false 87 (K4 b T todo)
def AB:(Qc prog 209 false (FC b T todo) undef undef).info=some (undef,undef,#[Z2 .enable],[]):=K1
def FI:Gr:=QV (FC b T todo) undef undef
def wO:Qm prog 209 false 6 (FI b T todo)=some []:=K1
def RB:(Qi prog 209 false 6 (FI b T todo)).status=.finished:=K1
def wH:Go.Conc.QuitsD prog 94 1 (K4 b T todo):=Ze (n:=87) (xm b T todo) (J9 (AB b T todo) (by simp[Z2,Event.mute]) (Ze (n:=6) (k:=0) (wO b T todo) ⟨RB b T todo,rfl⟩))
end
section
variable(b:Nat)(T:Array Value)(todo:List Item)
def Yg:Gr:=QV (Q9 b T todo) (Q1 6 1) (Qq 0)
def wN:(Qc prog 209 false (Q9 b T todo) (Q1 6 1) (Qq 0)).info=some (Q1 5 1,Qq 0,#[Jg b 0,QB b 0],[(b,true),(b,true)]):=K1
def vS:Qm prog 209 false 87 (Yg b T todo)=some []:=K1
def Ds:Gr:=Qi prog 209 false 87 (Yg b T todo)
def gS:(Qc prog 209 false (Ds b T todo) undef undef).info=some (undef,undef,#[Z2 .enable],[]):=K1
def FH:Gr:=QV (Ds b T todo) undef undef
def yx:Qm prog 209 false 6 (FH b T todo)=some []:=K1
def pC:(Qi prog 209 false 6 (FH b T todo)).status=.finished:=K1
def xU:Go.Conc.QuitsD prog 94 1 (Yg b T todo):=Ze (n:=87) (vS b T todo) (J9 (gS b T todo) (by simp[Z2,Event.mute]) (Ze (n:=6) (k:=0) (yx b T todo) ⟨pC b T todo,rfl⟩))
end
end Go.Proofs
end

