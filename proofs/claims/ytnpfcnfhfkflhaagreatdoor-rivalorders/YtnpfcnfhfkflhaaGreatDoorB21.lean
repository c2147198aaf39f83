/- Lemmas. No conditions. -/
import Derived.Test.YtnpfcnfhfkflhaaGreatDoorB14
set_option linter.all false
open Go.Proofs.Tryz (prog)
set_option maxRecDepth 100000
noncomputable section
namespace Go.Proofs
open Go.TM
section
variable(b:Nat)(T:Array Value)(todo:List Item)
def Yb:Gr:=QV (Q9 b T todo) (Q1 4 0) (Qq 0)
def jR:(Qc prog 209 false (Q9 b T todo) (Q1 4 0) (Qq 0)).info=some (Q1 3 0,Qq 0,#[Jg b 0,QB b 0],[(b,true),(b,true)]):=K1
def qF:Qm prog 209 false 87 (Yb b T todo)=some []:=K1
def LG:Gr:=Qi prog 209 false 87 (Yb b T todo)
def Bv:(Qc prog 209 false (LG b T todo) undef undef).info=some (undef,undef,#[Z2 .enable],[]):=K1
def FE:Gr:=QV (LG b T todo) undef undef
def N_:Qm prog 209 false 6 (FE b T todo)=some []:=K1
def tx:(Qi prog 209 false 6 (FE b T todo)).status=.finished:=K1
def BF:Go.Conc.QuitsD prog 94 1 (Yb b T todo):=Ze (n:=87) (qF b T todo) (J9 (Bv b T todo) (by simp[Z2,Event.mute]) (Ze (n:=6) (k:=0) (N_ b T todo) ⟨tx b T todo,rfl⟩))
end
section
variable(b:Nat)(T:Array Value)(todo:List Item)
def VZ:Gr:=QV (Q9 b T todo) (Q1 4 1) (Qq 0)
def Nl:(Qc prog 209 false (Q9 b T todo) (Q1 4 1) (Qq 0)).info=some (Q1 3 1,Qq 0,#[Jg b 0,QB b 0],[(b,true),(b,true)]):=K1
def tv:Qm prog 209 false 87 (VZ b T todo)=some []:=K1
def DE:Gr:=Qi prog 209 false 87 (VZ b T todo)
def AI:(Qc prog 209 false (DE b T todo) undef undef).info=some (undef,undef,#[Z2 .enable],[]):=K1
def UV:Gr:=QV (DE b T todo) undef undef
def RK:Qm prog 209 false 6 (UV b T todo)=some []:=K1
def MN:(Qi prog 209 false 6 (UV b T todo)).status=.finished:=K1
def jt:Go.Conc.QuitsD prog 94 1 (VZ b T todo):=Ze (n:=87) (tv b T todo) (J9 (AI b T todo) (by simp[Z2,Event.mute]) (Ze (n:=6) (k:=0) (RK b T todo) ⟨MN b T todo,rfl⟩))
end
end Go.Proofs
end

