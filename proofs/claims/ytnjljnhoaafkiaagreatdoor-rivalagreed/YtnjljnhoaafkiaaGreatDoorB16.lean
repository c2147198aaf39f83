/- Lemmas. No conditions. -/
import Derived.Test.YtnjljnhoaafkiaaGreatDoorB12
set_option linter.all false
set_option maxRecDepth 100000
open Go.Proofs.Tryz (prog)
noncomputable section
namespace Go.TM
open Go.Proofs
section
variable(b:Nat)(T:Array Value)(todo:List Item)
def Vy:Gr:=QT (Q8 b T todo) (Q0 1 0) (Qp 0)
def DG:(Qc prog 176 false (Q8 b T todo) (Q0 1 0) (Qp 0)).info=some (Q0 0 0,Qp 0,#[Jc b 0,QA b 0],[(b,true),(b,true)]):=K1
def Ch:Qm prog 176 false 87 (Vy b T todo)=some []:=K1
def Ev:Gr:=Qj prog 176 false 87 (Vy b T todo)
def Ci:(Qc prog 176 false (Ev b T todo) undef undef).info=some (undef,undef,#[Z0 .enable],[]):=K1
def Ew:Gr:=QT (Ev b T todo) undef undef
def Cj:Qm prog 176 false 6 (Ew b T todo)=some []:=K1
def qu:(Qj prog 176 false 6 (Ew b T todo)).status=.finished:=K1
def Rx:Go.Conc.QuitsD prog 94 1 (Vy b T todo):=Zd (n:=87) (Ch b T todo) (J5 (Ci b T todo) (by simp[Z0,Event.mute]) (Zd (n:=6) (k:=0) (Cj b T todo) ⟨qu b T todo,rfl⟩))
def Vz:Gr:=QT (Q8 b T todo) (Q0 1 1) (Qp 0)
def Cx:(Qc prog 176 false (Q8 b T todo) (Q0 1 1) (Qp 0)).info=some (Q0 0 1,Qp 0,#[Jc b 0,QA b 0],[(b,true),(b,true)]):=K1
def Cw:Qm prog 176 false 103 (Vz b T todo)=some []:=K1
def VA:Gr:=Qj prog 176 false 103 (Vz b T todo)
def DH:(Qc prog 176 false (VA b T todo) (Q0 0 1) (Qp 0)).info=some (Q0 0 1,Qp 0,#[Jc b 0],[(b,true)]):=K1
def Ey:Gr:=QT (VA b T todo) (Q0 0 1) (Qp 0)
def Cy:Qm prog 176 false 20 (Ey b T todo)=some []:=K1
def VB:Gr:=Qj prog 176 false 20 (Ey b T todo)
def DI:(Qc prog 176 false (VB b T todo) (Q0 0 1) (Qp 0)).info=some (Q0 0 0,Qp 0,#[QA b 0],[(b,true)]):=K1
def Ez:Gr:=QT (VB b T todo) (Q0 0 1) (Qp 0)
def Cz:Qm prog 176 false 27 (Ez b T todo)=some []:=K1
def P5:Gr:=Qj prog 176 false 27 (Ez b T todo)
def DJ:(Qc prog 176 false (P5 b T todo) (Q0 0 0) (Qp 0)).info=some (Q0 0 0,Qp 1,#[Z0 .disable,Jc b 1,QA b 1,Z0 .enable],[(b,true),(b,true)]):=K1
def CA:mayWake prog (P5 b T todo)=true:=K1
def YO:Gr:=QT (P5 b T todo) (Q0 0 0) (Qp 0)
def CC:Qm prog 176 false 17 (YO b T todo)=some []:=K1
def EA:Gr:=Qj prog 176 false 17 (YO b T todo)
def CD:(Qc prog 176 false (EA b T todo) undef undef).info=some (undef,undef,#[Z0 .enable],[]):=K1
def EB:Gr:=QT (EA b T todo) undef undef
def CE:Qm prog 176 false 6 (EB b T todo)=some []:=K1
def qv:(Qj prog 176 false 6 (EB b T todo)).status=.finished:=K1
