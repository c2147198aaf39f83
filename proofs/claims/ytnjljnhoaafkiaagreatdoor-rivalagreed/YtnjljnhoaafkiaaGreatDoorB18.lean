/- Lemmas. No conditions. -/
import Derived.Test.YtnjljnhoaafkiaaGreatDoorB12
set_option linter.all false
set_option maxRecDepth 100000
open Go.Proofs.Tryz (prog)
noncomputable section
namespace Go.TM
open Go.Proofs
section
variable(b:Nat)(T:Array Value)(todo:List Item)
def VE:Gr:=QT (Q8 b T todo) (Q0 3 0) (Qp 0)
def CO:(Qc prog 176 false (Q8 b T todo) (Q0 3 0) (Qp 0)).info=some (Q0 2 0,Qp 0,#[Jc b 0,QA b 0],[(b,true),(b,true)]):=K1
def CN:Qm prog 176 false 87 (VE b T todo)=some []:=K1
def EG:Gr:=Qj prog 176 false 87 (VE b T todo)
def CP:(Qc prog 176 false (EG b T todo) undef undef).info=some (undef,undef,#[Z0 .enable],[]):=K1
def EH:Gr:=QT (EG b T todo) undef undef
def CQ:Qm prog 176 false 6 (EH b T todo)=some []:=K1
def qy:(Qj prog 176 false 6 (EH b T todo)).status=.finished:=K1
def RA:Go.Conc.QuitsD prog 94 1 (VE b T todo):=Zd (n:=87) (CN b T todo) (J5 (CP b T todo) (by simp[Z0,Event.mute]) (Zd (n:=6) (k:=0) (CQ b T todo) ⟨qy b T todo,rfl⟩))
def Vj:Gr:=QT (Q8 b T todo) (Q0 3 1) (Qp 0)
def CS:(Qc prog 176 false (Q8 b T todo) (Q0 3 1) (Qp 0)).info=some (Q0 2 1,Qp 0,#[Jc b 0,QA b 0],[(b,true),(b,true)]):=K1
def CR:Qm prog 176 false 87 (Vj b T todo)=some []:=K1
def EI:Gr:=Qj prog 176 false 87 (Vj b T todo)
def CT:(Qc prog 176 false (EI b T todo) undef undef).info=some (undef,undef,#[Z0 .enable],[]):=K1
def EJ:Gr:=QT (EI b T todo) undef undef
def CU:Qm prog 176 false 6 (EJ b T todo)=some []:=K1
def qz:(Qj prog 176 false 6 (EJ b T todo)).status=.finished:=K1
def RB:Go.Conc.QuitsD prog 94 1 (Vj b T todo):=Zd (n:=87) (CR b T todo) (J5 (CT b T todo) (by simp[Z0,Event.mute]) (Zd (n:=6) (k:=0) (CU b T todo) ⟨qz b T todo,rfl⟩))
