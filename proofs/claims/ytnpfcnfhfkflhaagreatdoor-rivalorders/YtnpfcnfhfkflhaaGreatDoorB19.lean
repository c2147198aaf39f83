/- Lemmas. No conditions. -/
import Derived.Test.YtnpfcnfhfkflhaaGreatDoorB14
set_option linter.all false
open Go.Proofs.Tryz (prog)
set_option maxRecDepth 100000
noncomputable section
namespace Go.Proofs
open Go.TM
section
variable(b:Nat)(T:Array Value)(todo:List Item)
def Kl:Gr:=QV (Q9 b T todo) (Q1 2 0) (Qq 0)
def zi:(Qc prog 209 false (Q9 b T todo) (Q1 2 0) (Qq 0)).info=some (Q1 1 0,Qq 0,#[Jg b 0,QB b 0],[(b,true),(b,true)]):=K1
def qf:Qm prog 209 false 87 (Kl b T todo)=some []:=K1
def Dc:Gr:=Qi prog 209 false 87 (Kl b T todo)
def NN:(Qc prog 209 false (Dc b T todo) undef undef).info=some (undef,undef,#[Z2 .enable],[]):=K1
def LA:Gr:=QV (Dc b T todo) undef undef
def pD:Qm prog 209 false 6 (LA b T todo)=some []:=K1
def vG:(Qi prog 209 false 6 (LA b T todo)).status=.finished:=K1
def wW:Go.Conc.QuitsD prog 94 1 (Kl b T todo):=Ze (n:=87) (qf b T todo) (J9 (NN b T todo) (by simp[Z2,Event.mute]) (Ze (n:=6) (k:=0) (pD b T todo) ⟨vG b T todo,rfl⟩))
end
section
variable(b:Nat)(T:Array Value)(todo:List Item)
def Ys:Gr:=QV (Q9 b T todo) (Q1 2 1) (Qq 0)
def vC:(Qc prog 209 false (Q9 b T todo) (Q1 2 1) (Qq 0)).info=some (Q1 1 1,Qq 0,#[Jg b 0,QB b 0],[(b,true),(b,true)]):=K1
def gL:Qm prog 209 false 87 (Ys b T todo)=some []:=K1
def IC:Gr:=Qi prog 209 false 87 (Ys b T todo)
def zb:(Qc prog 209 false (IC b T todo) undef undef).info=some (undef,undef,#[Z2 .enable],[]):=K1
def LD:Gr:=QV (IC b T todo) undef undef
def qw:Qm prog 209 false 6 (LD b T todo)=some []:=K1
def zp:(Qi prog 209 false 6 (LD b T todo)).status=.finished:=K1
def R9:Go.Conc.QuitsD prog 94 1 (Ys b T todo):=Ze (n:=87) (gL b T todo) (J9 (zb b T todo) (by simp[Z2,Event.mute]) (Ze (n:=6) (k:=0) (qw b T todo) ⟨zp b T todo,rfl⟩))
end
end Go.Proofs
end

