/- Lemmas. No conditions. -/
import Derived.Test.YtcakpkianonbkaaGreatDoorB15
set_option linter.all false
open Go.Proofs.Tryz (prog)
set_option maxRecDepth 100000
noncomputable section
namespace Go.Proofs
open Go.TM
section
variable(b:Nat)(T:Array Value)(todo:List Item)
def Kp:Gr:=QC (Zc b T todo) (Q2 2 0) (Qq 0)
def C_:(Qc prog 175 false (Zc b T todo) (Q2 2 0) (Qq 0)).info=some (Q2 1 0,Qq 0,#[Ji b 0,QA b 0],[(b,true),(b,true)]):=K1
def CZ:Qn prog 175 false 87 (Kp b T todo)=some []:=K1
def Iw:Gr:=Qi prog 175 false 87 (Kp b T todo)
def qb:(Qc prog 175 false (Iw b T todo) undef undef).info=some (undef,undef,#[Z8 .enable],[]):=K1
def Ia:Gr:=QC (Iw b T todo) undef undef
def qd:Qn prog 175 false 6 (Ia b T todo)=some []:=K1
def qM:(Qi prog 175 false 6 (Ia b T todo)).status=.finished:=K1
def BV:Go.Conc.QuitsD prog 94 1 (Kp b T todo):=Zj (n:=87) (CZ b T todo) (Wc (qb b T todo) (by simp[Z8,Event.mute]) (Zj (n:=6) (k:=0) (qd b T todo) ⟨qM b T todo,rfl⟩))
end
section
variable(b:Nat)(T:Array Value)(todo:List Item)
def Kq:Gr:=QC (Zc b T todo) (Q2 2 1) (Qq 0)
def qf:(Qc prog 175 false (Zc b T todo) (Q2 2 1) (Qq 0)).info=some (Q2 1 1,Qq 0,#[Ji b 0,QA b 0],[(b,true),(b,true)]):=K1
def qe:Qn prog 175 false 87 (Kq b T todo)=some []:=K1
def Ib:Gr:=Qi prog 175 false 87 (Kq b T todo)
def qg:(Qc prog 175 false (Ib b T todo) undef undef).info=some (undef,undef,#[Z8 .enable],[]):=K1
def Ic:Gr:=QC (Ib b T todo) undef undef
def qh:Qn prog 175 false 6 (Ic b T todo)=some []:=K1
def qN:(Qi prog 175 false 6 (Ic b T todo)).status=.finished:=K1
def BW:Go.Conc.QuitsD prog 94 1 (Kq b T todo):=Zj (n:=87) (qe b T todo) (Wc (qg b T todo) (by simp[Z8,Event.mute]) (Zj (n:=6) (k:=0) (qh b T todo) ⟨qN b T todo,rfl⟩))
end
end Go.Proofs
end

