/- Lemmas. No conditions. -/
import Derived.Test.YtignaaddghcanaaGreatDoorB11
set_option linter.all false
set_option maxRecDepth 100000
open Go.Proofs.Tryz (prog)
noncomputable section
namespace Go.TM
open Go.Proofs
section
variable(b:Nat)(T:Array Value)(todo:List Item)
def V6:Gr:=QS (Q7 b T todo) (Q0 6 0) (Qp 0)
def Cc:(Qc prog 173 false (Q7 b T todo) (Q0 6 0) (Qp 0)).info=some (Q0 5 0,Qp 0,#[Jd b 0,W9 b 0],[(b,true),(b,true)]):=K1
def Cb:Qm prog 173 false 87 (V6 b T todo)=some []:=K1
def Ez:Gr:=Qi prog 173 false 87 (V6 b T todo)
def Cd:(Qc prog 173 false (Ez b T todo) undef undef).info=some (undef,undef,#[Z0 .enable],[]):=K1
def EA:Gr:=QS (Ez b T todo) undef undef
def Ce:Qm prog 173 false 6 (EA b T todo)=some []:=K1
def qd:(Qi prog 173 false 6 (EA b T todo)).status=.finished:=K1
def Rn:Go.Conc.QuitsD prog 94 1 (V6 b T todo):=Zd (n:=87) (Cb b T todo) (J5 (Cd b T todo) (by simp[Z0,Event.mute]) (Zd (n:=6) (k:=0) (Ce b T todo) ⟨qd b T todo,rfl⟩))
def V7:Gr:=QS (Q7 b T todo) (Q0 6 1) (Qp 0)
def CJ:(Qc prog 173 false (Q7 b T todo) (Q0 6 1) (Qp 0)).info=some (Q0 5 1,Qp 0,#[Jd b 0,W9 b 0],[(b,true),(b,true)]):=K1
def Cf:Qm prog 173 false 87 (V7 b T todo)=some []:=K1
def EB:Gr:=Qi prog 173 false 87 (V7 b T todo)
def CK:(Qc prog 173 false (EB b T todo) undef undef).info=some (undef,undef,#[Z0 .enable],[]):=K1
def EC:Gr:=QS (EB b T todo) undef undef
def CL:Qm prog 173 false 6 (EC b T todo)=some []:=K1
def qe:(Qi prog 173 false 6 (EC b T todo)).status=.finished:=K1
def NP:Go.Conc.QuitsD prog 94 1 (V7 b T todo):=Zd (n:=87) (Cf b T todo) (J5 (CK b T todo) (by simp[Z0,Event.mute]) (Zd (n:=6) (k:=0) (CL b T todo) ⟨qe b T todo,rfl⟩))
