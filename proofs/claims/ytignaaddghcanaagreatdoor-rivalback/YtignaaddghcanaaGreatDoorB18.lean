/- Lemmas. No conditions. -/
import Derived.Test.YtignaaddghcanaaGreatDoorB11
set_option linter.all false
set_option maxRecDepth 100000
open Go.Proofs.Tryz (prog)
noncomputable section
namespace Go.TM
open Go.Proofs
section
variable(b:Nat)(T:Array Value)(todo:List Item)
def Vo:Gr:=QS (Q7 b T todo) (Q0 4 0) (Qp 0)
def Cy:(Qc prog 173 false (Q7 b T todo) (Q0 4 0) (Qp 0)).info=some (Q0 3 0,Qp 0,#[Jd b 0,W9 b 0],[(b,true),(b,true)]):=K1
def Cx:Qm prog 173 false 87 (Vo b T todo)=some []:=K1
def Ep:Gr:=Qi prog 173 false 87 (Vo b T todo)
def Cz:(Qc prog 173 false (Ep b T todo) undef undef).info=some (undef,undef,#[Z0 .enable],[]):=K1
def Er:Gr:=QS (Ep b T todo) undef undef
def CA:Qm prog 173 false 6 (Er b T todo)=some []:=K1
def CY:(Qi prog 173 false 6 (Er b T todo)).status=.finished:=K1
def Rj:Go.Conc.QuitsD prog 94 1 (Vo b T todo):=Zd (n:=87) (Cx b T todo) (J5 (Cz b T todo) (by simp[Z0,Event.mute]) (Zd (n:=6) (k:=0) (CA b T todo) ⟨CY b T todo,rfl⟩))
def Vp:Gr:=QS (Q7 b T todo) (Q0 4 1) (Qp 0)
def CD:(Qc prog 173 false (Q7 b T todo) (Q0 4 1) (Qp 0)).info=some (Q0 3 1,Qp 0,#[Jd b 0,W9 b 0],[(b,true),(b,true)]):=K1
def CC:Qm prog 173 false 87 (Vp b T todo)=some []:=K1
def Es:Gr:=Qi prog 173 false 87 (Vp b T todo)
def CE:(Qc prog 173 false (Es b T todo) undef undef).info=some (undef,undef,#[Z0 .enable],[]):=K1
def Et:Gr:=QS (Es b T todo) undef undef
def CF:Qm prog 173 false 6 (Et b T todo)=some []:=K1
def CZ:(Qi prog 173 false 6 (Et b T todo)).status=.finished:=K1
def Rk:Go.Conc.QuitsD prog 94 1 (Vp b T todo):=Zd (n:=87) (CC b T todo) (J5 (CE b T todo) (by simp[Z0,Event.mute]) (Zd (n:=6) (k:=0) (CF b T todo) ⟨CZ b T todo,rfl⟩))
