/- Lemmas. No conditions. -/
import Derived.Test.YtignaaddghcanaaGreatDoorB11
set_option linter.all false
set_option maxRecDepth 100000
open Go.Proofs.Tryz (prog)
noncomputable section
namespace Go.TM
open Go.Proofs
section
variable(b:Nat)(T:Array Value)(todo:List Item)
def Vk:Gr:=QS (Q7 b T todo) (Q0 2 0) (Qp 0)
def Cg:(Qc prog 173 false (Q7 b T todo) (Q0 2 0) (Qp 0)).info=some (Q0 1 0,Qp 0,#[Jd b 0,W9 b 0],[(b,true),(b,true)]):=K1
def C2:Qm prog 173 false 87 (Vk b T todo)=some []:=K1
def Eh:Gr:=Qi prog 173 false 87 (Vk b T todo)
def Ch:(Qc prog 173 false (Eh b T todo) undef undef).info=some (undef,undef,#[Z0 .enable],[]):=K1
def Ei:Gr:=QS (Eh b T todo) undef undef
def Ci:Qm prog 173 false 6 (Ei b T todo)=some []:=K1
def CU:(Qi prog 173 false 6 (Ei b T todo)).status=.finished:=K1
def Re:Go.Conc.QuitsD prog 94 1 (Vk b T todo):=Zd (n:=87) (C2 b T todo) (J5 (Ch b T todo) (by simp[Z0,Event.mute]) (Zd (n:=6) (k:=0) (Ci b T todo) ⟨CU b T todo,rfl⟩))
def Vl:Gr:=QS (Q7 b T todo) (Q0 2 1) (Qp 0)
def Ck:(Qc prog 173 false (Q7 b T todo) (Q0 2 1) (Qp 0)).info=some (Q0 1 1,Qp 0,#[Jd b 0,W9 b 0],[(b,true),(b,true)]):=K1
def Cj:Qm prog 173 false 87 (Vl b T todo)=some []:=K1
def Ej:Gr:=Qi prog 173 false 87 (Vl b T todo)
def Cl:(Qc prog 173 false (Ej b T todo) undef undef).info=some (undef,undef,#[Z0 .enable],[]):=K1
def Ek:Gr:=QS (Ej b T todo) undef undef
def Cm:Qm prog 173 false 6 (Ek b T todo)=some []:=K1
def CV:(Qi prog 173 false 6 (Ek b T todo)).status=.finished:=K1
def Rg:Go.Conc.QuitsD prog 94 1 (Vl b T todo):=Zd (n:=87) (Cj b T todo) (J5 (Cl b T todo) (by simp[Z0,Event.mute]) (Zd (n:=6) (k:=0) (Cm b T todo) ⟨CV b T todo,rfl⟩))
