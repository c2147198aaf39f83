/- Lemmas. No conditions. -/
import Derived.Test.YtignaaddghcanaaGreatDoorB11
set_option linter.all false
set_option maxRecDepth 100000
open Go.Proofs.Tryz (prog)
noncomputable section
namespace Go.TM
open Go.Proofs
section
variable(b:Nat)(T:Array Value)(todo:List Item)
def V4:Gr:=QS (Q7 b T todo) (Q0 5 0) (Qp 0)
def CH:(Qc prog 173 false (Q7 b T todo) (Q0 5 0) (Qp 0)).info=some (Q0 4 0,Qp 0,#[Jd b 0,W9 b 0],[(b,true),(b,true)]):=K1
def CG:Qm prog 173 false 87 (V4 b T todo)=some []:=K1
def Eu:Gr:=Qi prog 173 false 87 (V4 b T todo)
def CI:(Qc prog 173 false (Eu b T todo) undef undef).info=some (undef,undef,#[Z0 .enable],[]):=K1
def Ev:Gr:=QS (Eu b T todo) undef undef
def C6:Qm prog 173 false 6 (Ev b T todo)=some []:=K1
def C_:(Qi prog 173 false 6 (Ev b T todo)).status=.finished:=K1
def Rl:Go.Conc.QuitsD prog 94 1 (V4 b T todo):=Zd (n:=87) (CG b T todo) (J5 (CI b T todo) (by simp[Z0,Event.mute]) (Zd (n:=6) (k:=0) (C6 b T todo) ⟨C_ b T todo,rfl⟩))
def V5:Gr:=QS (Q7 b T todo) (Q0 5 1) (Qp 0)
def C8:(Qc prog 173 false (Q7 b T todo) (Q0 5 1) (Qp 0)).info=some (Q0 4 1,Qp 0,#[Jd b 0,W9 b 0],[(b,true),(b,true)]):=K1
def C7:Qm prog 173 false 87 (V5 b T todo)=some []:=K1
def Ew:Gr:=Qi prog 173 false 87 (V5 b T todo)
def C9:(Qc prog 173 false (Ew b T todo) undef undef).info=some (undef,undef,#[Z0 .enable],[]):=K1
def Ey:Gr:=QS (Ew b T todo) undef undef
def Ca:Qm prog 173 false 6 (Ey b T todo)=some []:=K1
def qb:(Qi prog 173 false 6 (Ey b T todo)).status=.finished:=K1
def Rm:Go.Conc.QuitsD prog 94 1 (V5 b T todo):=Zd (n:=87) (C7 b T todo) (J5 (C9 b T todo) (by simp[Z0,Event.mute]) (Zd (n:=6) (k:=0) (Ca b T todo) ⟨qb b T todo,rfl⟩))
