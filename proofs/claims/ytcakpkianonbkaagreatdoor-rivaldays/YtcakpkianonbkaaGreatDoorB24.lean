/- Lemmas. No conditions. -/
import Derived.Test.YtcakpkianonbkaaGreatDoorB15
set_option linter.all false
open Go.Proofs.Tryz (prog)
set_option maxRecDepth 100000
noncomputable section
namespace Go.Proofs
open Go.TM
section
variable(b:Nat)(T:Array Value)(todo:List Item)
def K8:Gr:=QC (Zc b T todo) (Q2 6 0) (Qq 0)
def qC:(Qc prog 175 false (Zc b T todo) (Q2 6 0) (Qq 0)).info=some (Q2 5 0,Qq 0,#[Ji b 0,QA b 0],[(b,true),(b,true)]):=K1
def qB:Qn prog 175 false 87 (K8 b T todo)=some []:=K1
def IC:Gr:=Qi prog 175 false 87 (K8 b T todo)
def qD:(Qc prog 175 false (IC b T todo) undef undef).info=some (undef,undef,#[Z8 .enable],[]):=K1
def ID:Gr:=QC (IC b T todo) undef undef
def qE:Qn prog 175 false 6 (ID b T todo)=some []:=K1
def za:(Qi prog 175 false 6 (ID b T todo)).status=.finished:=K1
def jo:Go.Conc.QuitsD prog 94 1 (K8 b T todo):=Zj (n:=87) (qB b T todo) (Wc (qD b T todo) (by simp[Z8,Event.mute]) (Zj (n:=6) (k:=0) (qE b T todo) ⟨za b T todo,rfl⟩))
end
section
variable(b:Nat)(T:Array Value)(todo:List Item)
def K9:Gr:=QC (Zc b T todo) (Q2 6 1) (Qq 0)
def qG:(Qc prog 175 false (Zc b T todo) (Q2 6 1) (Qq 0)).info=some (Q2 5 1,Qq 0,#[Ji b 0,QA b 0],[(b,true),(b,true)]):=K1
def qF:Qn prog 175 false 87 (K9 b T todo)=some []:=K1
def IE:Gr:=Qi prog 175 false 87 (K9 b T todo)
def qH:(Qc prog 175 false (IE b T todo) undef undef).info=some (undef,undef,#[Z8 .enable],[]):=K1
def IF:Gr:=QC (IE b T todo) undef undef
def qI:Qn prog 175 false 6 (IF b T todo)=some []:=K1
def zb:(Qi prog 175 false 6 (IF b T todo)).status=.finished:=K1
def jp:Go.Conc.QuitsD prog 94 1 (K9 b T todo):=Zj (n:=87) (qF b T todo) (Wc (qH b T todo) (by simp[Z8,Event.mute]) (Zj (n:=6) (k:=0) (qI b T todo) ⟨zb b T todo,rfl⟩))
end
end Go.Proofs
end

