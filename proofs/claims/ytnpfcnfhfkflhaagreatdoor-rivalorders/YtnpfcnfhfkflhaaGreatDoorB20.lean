/- Lemmas. No conditions. -/
import Derived.Test.YtnpfcnfhfkflhaaGreatDoorB14
set_option linter.all false
open Go.Proofs.Tryz (prog)
set_option maxRecDepth 100000
noncomputable section
namespace Go.Proofs
open Go.TM
section
variable(b:Nat)(T:Array Value)(todo:List Item)
def Vk:Gr:=QV (Q9 b T todo) (Q1 3 0) (Qq 0)
def N2:(Qc prog 209 false (Q9 b T todo) (Q1 3 0) (Qq 0)).info=some (Q1 2 0,Qq 0,#[Jg b 0,QB b 0],[(b,true),(b,true)]):=K1
def MD:Qm prog 209 false 87 (Vk b T todo)=some []:=K1
def LI:Gr:=Qi prog 209 false 87 (Vk b T todo)
def kr:(Qc prog 209 false (LI b T todo) undef undef).info=some (undef,undef,#[Z2 .enable],[]):=K1
def Ij:Gr:=QV (LI b T todo) undef undef
def pH:Qm prog 209 false 6 (Ij b T todo)=some []:=K1
def Cj:(Qi prog 209 false 6 (Ij b T todo)).status=.finished:=K1
def jv:Go.Conc.QuitsD prog 94 1 (Vk b T todo):=Ze (n:=87) (MD b T todo) (J9 (kr b T todo) (by simp[Z2,Event.mute]) (Ze (n:=6) (k:=0) (pH b T todo) ⟨Cj b T todo,rfl⟩))
end
section
variable(b:Nat)(T:Array Value)(todo:List Item)
def KG:Gr:=QV (Q9 b T todo) (Q1 3 1) (Qq 0)
def Rj:(Qc prog 209 false (Q9 b T todo) (Q1 3 1) (Qq 0)).info=some (Q1 2 1,Qq 0,#[Jg b 0,QB b 0],[(b,true),(b,true)]):=K1
def pe:Qm prog 209 false 87 (KG b T todo)=some []:=K1
def EJ:Gr:=Qi prog 209 false 87 (KG b T todo)
def je:(Qc prog 209 false (EJ b T todo) undef undef).info=some (undef,undef,#[Z2 .enable],[]):=K1
def DJ:Gr:=QV (EJ b T todo) undef undef
def wx:Qm prog 209 false 6 (DJ b T todo)=some []:=K1
def vo:(Qi prog 209 false 6 (DJ b T todo)).status=.finished:=K1
def gw:Go.Conc.QuitsD prog 94 1 (KG b T todo):=Ze (n:=87) (pe b T todo) (J9 (je b T todo) (by simp[Z2,Event.mute]) (Ze (n:=6) (k:=0) (wx b T todo) ⟨vo b T todo,rfl⟩))
end
end Go.Proofs
end

