/- Lemmas. No conditions. -/
import Derived.Test.YtcakpkianonbkaaGreatDoorB15
set_option linter.all false
open Go.Proofs.Tryz (prog)
set_option maxRecDepth 100000
noncomputable section
namespace Go.Proofs
open Go.TM
section
variable(b:Nat)(T:Array Value)(todo:List Item)
def Kr:Gr:=QC (Zc b T todo) (Q2 3 0) (Qq 0)
def CA:(Qc prog 175 false (Zc b T todo) (Q2 3 0) (Qq 0)).info=some (Q2 2 0,Qq 0,#[Ji b 0,QA b 0],[(b,true),(b,true)]):=K1
def qi:Qn prog 175 false 87 (Kr b T todo)=some []:=K1
def Ie:Gr:=Qi prog 175 false 87 (Kr b T todo)
def CC:(Qc prog 175 false (Ie b T todo) undef undef).info=some (undef,undef,#[Z8 .enable],[]):=K1
def If:Gr:=QC (Ie b T todo) undef undef
def CD:Qn prog 175 false 6 (If b T todo)=some []:=K1
def qO:(Qi prog 175 false 6 (If b T todo)).status=.finished:=K1
def BX:Go.Conc.QuitsD prog 94 1 (Kr b T todo):=Zj (n:=87) (qi b T todo) (Wc (CC b T todo) (by simp[Z8,Event.mute]) (Zj (n:=6) (k:=0) (CD b T todo) ⟨qO b T todo,rfl⟩))
end
section
variable(b:Nat)(T:Array Value)(todo:List Item)
def Ks:Gr:=QC (Zc b T todo) (Q2 3 1) (Qq 0)
def CF:(Qc prog 175 false (Zc b T todo) (Q2 3 1) (Qq 0)).info=some (Q2 2 1,Qq 0,#[Ji b 0,QA b 0],[(b,true),(b,true)]):=K1
def CE:Qn prog 175 false 87 (Ks b T todo)=some []:=K1
def Ig:Gr:=Qi prog 175 false 87 (Ks b T todo)
def CG:(Qc prog 175 false (Ig b T todo) undef undef).info=some (undef,undef,#[Z8 .enable],[]):=K1
def Ih:Gr:=QC (Ig b T todo) undef undef
def CI:Qn prog 175 false 6 (Ih b T todo)=some []:=K1
def qP:(Qi prog 175 false 6 (Ih b T todo)).status=.finished:=K1
def BY:Go.Conc.QuitsD prog 94 1 (Ks b T todo):=Zj (n:=87) (CE b T todo) (Wc (CG b T todo) (by simp[Z8,Event.mute]) (Zj (n:=6) (k:=0) (CI b T todo) ⟨qP b T todo,rfl⟩))
end
end Go.Proofs
end

