/- Lemmas. No conditions. -/
import Derived.Test.YtcakpkianonbkaaGreatDoorB15
set_option linter.all false
open Go.Proofs.Tryz (prog)
set_option maxRecDepth 100000
noncomputable section
namespace Go.Proofs
open Go.TM
section
variable(b:Nat)(T:Array Value)(todo:List Item)
def Kt:Gr:=QC (Zc b T todo) (Q2 4 0) (Qq 0)
def CK:(Qc prog 175 false (Zc b T todo) (Q2 4 0) (Qq 0)).info=some (Q2 3 0,Qq 0,#[Ji b 0,QA b 0],[(b,true),(b,true)]):=K1
def CJ:Qn prog 175 false 87 (Kt b T todo)=some []:=K1
def Ii:Gr:=Qi prog 175 false 87 (Kt b T todo)
def CL:(Qc prog 175 false (Ii b T todo) undef undef).info=some (undef,undef,#[Z8 .enable],[]):=K1
def Ij:Gr:=QC (Ii b T todo) undef undef
def qk:Qn prog 175 false 6 (Ij b T todo)=some []:=K1
def qQ:(Qi prog 175 false 6 (Ij b T todo)).status=.finished:=K1
def BZ:Go.Conc.QuitsD prog 94 1 (Kt b T todo):=Zj (n:=87) (CJ b T todo) (Wc (CL b T todo) (by simp[Z8,Event.mute]) (Zj (n:=6) (k:=0) (qk b T todo) ⟨qQ b T todo,rfl⟩))
end
section
variable(b:Nat)(T:Array Value)(todo:List Item)
def Ku:Gr:=QC (Zc b T todo) (Q2 4 1) (Qq 0)
def qn:(Qc prog 175 false (Zc b T todo) (Q2 4 1) (Qq 0)).info=some (Q2 3 1,Qq 0,#[Ji b 0,QA b 0],[(b,true),(b,true)]):=K1
def qm:Qn prog 175 false 87 (Ku b T todo)=some []:=K1
def Ik:Gr:=Qi prog 175 false 87 (Ku b T todo)
def qq:(Qc prog 175 false (Ik b T todo) undef undef).info=some (undef,undef,#[Z8 .enable],[]):=K1
def Ix:Gr:=QC (Ik b T todo) undef undef
def qr:Qn prog 175 false 6 (Ix b T todo)=some []:=K1
def qR:(Qi prog 175 false 6 (Ix b T todo)).status=.finished:=K1
def B_:Go.Conc.QuitsD prog 94 1 (Ku b T todo):=Zj (n:=87) (qm b T todo) (Wc (qq b T todo) (by simp[Z8,Event.mute]) (Zj (n:=6) (k:=0) (qr b T todo) ⟨qR b T todo,rfl⟩))
end
end Go.Proofs
end

