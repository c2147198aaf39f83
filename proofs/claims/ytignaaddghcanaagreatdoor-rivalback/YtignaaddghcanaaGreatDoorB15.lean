/- Lemmas. No conditions. -/
import Derived.Test.YtignaaddghcanaaGreatDoorB11
set_option linter.all false
set_option maxRecDepth 100000
open Go.Proofs.Tryz (prog)
noncomputable section
namespace Go.TM
open Go.Proofs
section
variable(b:Nat)(T:Array Value)(todo:List Item)
def Vg:Gr:=QS (Q7 b T todo) (Q0 1 0) (Qp 0)
def Dn:(Qc prog 173 false (Q7 b T todo) (Q0 1 0) (Qp 0)).info=some (Q0 0 0,Qp 0,#[Jd b 0,W9 b 0],[(b,true),(b,true)]):=K1
def C4:Qm prog 173 false 87 (Vg b T todo)=some []:=K1
def E6:Gr:=Qi prog 173 false 87 (Vg b T todo)
def C5:(Qc prog 173 false (E6 b T todo) undef undef).info=some (undef,undef,#[Z0 .enable],[]):=K1
def E7:Gr:=QS (E6 b T todo) undef undef
def BU:Qm prog 173 false 6 (E7 b T todo)=some []:=K1
def CS:(Qi prog 173 false 6 (E7 b T todo)).status=.finished:=K1
def Rd:Go.Conc.QuitsD prog 94 1 (Vg b T todo):=Zd (n:=87) (C4 b T todo) (J5 (C5 b T todo) (by simp[Z0,Event.mute]) (Zd (n:=6) (k:=0) (BU b T todo) ⟨CS b T todo,rfl⟩))
def Vh:Gr:=QS (Q7 b T todo) (Q0 1 1) (Qp 0)
def BW:(Qc prog 173 false (Q7 b T todo) (Q0 1 1) (Qp 0)).info=some (Q0 0 1,Qp 0,#[Jd b 0,W9 b 0],[(b,true),(b,true)]):=K1
def BV:Qm prog 173 false 103 (Vh b T todo)=some []:=K1
def Vi:Gr:=Qi prog 173 false 103 (Vh b T todo)
def Do:(Qc prog 173 false (Vi b T todo) (Q0 0 1) (Qp 0)).info=some (Q0 0 1,Qp 0,#[Jd b 0],[(b,true)]):=K1
def Ed:Gr:=QS (Vi b T todo) (Q0 0 1) (Qp 0)
def BX:Qm prog 173 false 20 (Ed b T todo)=some []:=K1
def Vj:Gr:=Qi prog 173 false 20 (Ed b T todo)
def Dp:(Qc prog 173 false (Vj b T todo) (Q0 0 1) (Qp 0)).info=some (Q0 0 0,Qp 0,#[W9 b 0],[(b,true)]):=K1
def Ee:Gr:=QS (Vj b T todo) (Q0 0 1) (Qp 0)
def BY:Qm prog 173 false 27 (Ee b T todo)=some []:=K1
def GV:Gr:=Qi prog 173 false 27 (Ee b T todo)
def Dq:(Qc prog 173 false (GV b T todo) (Q0 0 0) (Qp 0)).info=some (Q0 0 0,Qp 1,#[Z0 .disable,Jd b 1,W9 b 1,Z0 .enable],[(b,true),(b,true)]):=K1
def BZ:mayWake prog (GV b T todo)=true:=K1
def YI:Gr:=QS (GV b T todo) (Q0 0 0) (Qp 0)
def B_:Qm prog 173 false 17 (YI b T todo)=some []:=K1
def Ef:Gr:=Qi prog 173 false 17 (YI b T todo)
def C0:(Qc prog 173 false (Ef b T todo) undef undef).info=some (undef,undef,#[Z0 .enable],[]):=K1
def Eg:Gr:=QS (Ef b T todo) undef undef
def C1:Qm prog 173 false 6 (Eg b T todo)=some []:=K1
def CT:(Qi prog 173 false 6 (Eg b T todo)).status=.finished:=K1
