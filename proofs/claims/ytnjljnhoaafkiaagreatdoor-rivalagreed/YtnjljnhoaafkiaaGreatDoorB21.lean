/- Lemmas. No conditions. -/
import Derived.Test.YtnjljnhoaafkiaaGreatDoorB12
set_option linter.all false
set_option maxRecDepth 100000
open Go.Proofs.Tryz (prog)
noncomputable section
namespace Go.TM
open Go.Proofs
section
variable(b:Nat)(T:Array Value)(todo:List Item)
def Vo:Gr:=QT (Q8 b T todo) (Q0 6 0) (Qp 0)
def qd:(Qc prog 176 false (Q8 b T todo) (Q0 6 0) (Qp 0)).info=some (Q0 5 0,Qp 0,#[Jc b 0,QA b 0],[(b,true),(b,true)]):=K1
def qb:Qm prog 176 false 87 (Vo b T todo)=some []:=K1
def ES:Gr:=Qj prog 176 false 87 (Vo b T todo)
def qe:(Qc prog 176 false (ES b T todo) undef undef).info=some (undef,undef,#[Z0 .enable],[]):=K1
def Ei:Gr:=QT (ES b T todo) undef undef
def qf:Qm prog 176 false 6 (Ei b T todo)=some []:=K1
def qE:(Qj prog 176 false 6 (Ei b T todo)).status=.finished:=K1
def RG:Go.Conc.QuitsD prog 94 1 (Vo b T todo):=Zd (n:=87) (qb b T todo) (J5 (qe b T todo) (by simp[Z0,Event.mute]) (Zd (n:=6) (k:=0) (qf b T todo) ⟨qE b T todo,rfl⟩))
def Vp:Gr:=QT (Q8 b T todo) (Q0 6 1) (Qp 0)
def qh:(Qc prog 176 false (Q8 b T todo) (Q0 6 1) (Qp 0)).info=some (Q0 5 1,Qp 0,#[Jc b 0,QA b 0],[(b,true),(b,true)]):=K1
def qg:Qm prog 176 false 87 (Vp b T todo)=some []:=K1
def Ej:Gr:=Qj prog 176 false 87 (Vp b T todo)
def qi:(Qc prog 176 false (Ej b T todo) undef undef).info=some (undef,undef,#[Z0 .enable],[]):=K1
def Ek:Gr:=QT (Ej b T todo) undef undef
def qj:Qm prog 176 false 6 (Ek b T todo)=some []:=K1
def qF:(Qj prog 176 false 6 (Ek b T todo)).status=.finished:=K1
def RH:Go.Conc.QuitsD prog 94 1 (Vp b T todo):=Zd (n:=87) (qg b T todo) (J5 (qi b T todo) (by simp[Z0,Event.mute]) (Zd (n:=6) (k:=0) (qj b T todo) ⟨qF b T todo,rfl⟩))
