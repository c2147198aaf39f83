/- Lemmas. No conditions. -/
import Derived.Test.YtnjljnhoaafkiaaGreatDoorB12
set_option linter.all false
open Go.Proofs.Tryz (prog)
set_option maxRecDepth 100000
noncomputable section
namespace Go.Proofs
open Go.TM
section
variable(b:Nat)(T:Array Value)(todo:List Item)
def Vj:Gr:=QT (Q8 b T todo) (Q0 5 0) (Qp 0)
def Cg:(Qc prog 176 false (Q8 b T todo) (Q0 5 0) (Qp 0)).info=some (Q0 4 0,Qp 0,#[Jc b 0,QA b 0],[(b,true),(b,true)]):=K1
def Cf:Qm prog 176 false 87 (Vj b T todo)=some []:=K1
def EP:Gr:=Qj prog 176 false 87 (Vj b T todo)
def Ch:(Qc prog 176 false (EP b T todo) undef undef).info=some (undef,undef,#[Z0 .enable],[]):=K1
def EQ:Gr:=QT (EP b T todo) undef undef
def Ci:Qm prog 176 false 6 (EQ b T todo)=some []:=K1
def qq:(Qj prog 176 false 6 (EQ b T todo)).status=.finished:=K1
def R4:Go.Conc.QuitsD prog 94 1 (Vj b T todo):=Ze (n:=87) (Cf b T todo) (J5 (Ch b T todo) (by simp[Z0,Event.mute]) (Ze (n:=6) (k:=0) (Ci b T todo) ⟨qq b T todo,rfl⟩))
end
section
variable(b:Nat)(T:Array Value)(todo:List Item)
def Vk:Gr:=QT (Q8 b T todo) (Q0 5 1) (Qp 0)
def CN:(Qc prog 176 false (Q8 b T todo) (Q0 5 1) (Qp 0)).info=some (Q0 4 1,Qp 0,#[Jc b 0,QA b 0],[(b,true),(b,true)]):=K1
def CM:Qm prog 176 false 87 (Vk b T todo)=some []:=K1
def Eg:Gr:=Qj prog 176 false 87 (Vk b T todo)
def CO:(Qc prog 176 false (Eg b T todo) undef undef).info=some (undef,undef,#[Z0 .enable],[]):=K1
def Eh:Gr:=QT (Eg b T todo) undef undef
def CP:Qm prog 176 false 6 (Eh b T todo)=some []:=K1
def qr:(Qj prog 176 false 6 (Eh b T todo)).status=.finished:=K1
def R5:Go.Conc.QuitsD prog 94 1 (Vk b T todo):=Ze (n:=87) (CM b T todo) (J5 (CO b T todo) (by simp[Z0,Event.mute]) (Ze (n:=6) (k:=0) (CP b T todo) ⟨qr b T todo,rfl⟩))
end
end Go.Proofs
end

