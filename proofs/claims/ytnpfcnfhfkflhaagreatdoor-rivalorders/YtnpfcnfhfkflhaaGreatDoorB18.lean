/- Lemmas. No conditions. -/
import Derived.Test.YtnpfcnfhfkflhaaGreatDoorB14
set_option linter.all false
open Go.Proofs.Tryz (prog)
set_option maxRecDepth 100000
noncomputable section
namespace Go.Proofs
open Go.TM
section
variable(b:Nat)(T:Array Value)(todo:List Item)
def Yq:Gr:=QV (Q9 b T todo) (Q1 1 0) (Qq 0)
def EY:(Qc prog 209 false (Q9 b T todo) (Q1 1 0) (Qq 0)).info=some (Q1 0 0,Qq 0,#[Jg b 0,QB b 0],[(b,true),(b,true)]):=K1
def gT:Qm prog 209 false 87 (Yq b T todo)=some []:=K1
def Et:Gr:=Qi prog 209 false 87 (Yq b T todo)
def As:(Qc prog 209 false (Et b T todo) undef undef).info=some (undef,undef,#[Z2 .enable],[]):=K1
def LH:Gr:=QV (Et b T todo) undef undef
def B6:Qm prog 209 false 6 (LH b T todo)=some []:=K1
def M_:(Qi prog 209 false 6 (LH b T todo)).status=.finished:=K1
def jO:Go.Conc.QuitsD prog 94 1 (Yq b T todo):=Ze (n:=87) (gT b T todo) (J9 (As b T todo) (by simp[Z2,Event.mute]) (Ze (n:=6) (k:=0) (B6 b T todo) ⟨M_ b T todo,rfl⟩))
end
section
variable(b:Nat)(T:Array Value)(todo:List Item)
def Yx:Gr:=QV (Q9 b T todo) (Q1 1 1) (Qq 0)
def tq:(Qc prog 209 false (Q9 b T todo) (Q1 1 1) (Qq 0)).info=some (Q1 0 1,Qq 0,#[Jg b 0,QB b 0],[(b,true),(b,true)]):=K1
def RG:Qm prog 209 false 103 (Yx b T todo)=some []:=K1
def Va:Gr:=Qi prog 209 false 103 (Yx b T todo)
def EW:(Qc prog 209 false (Va b T todo) (Q1 0 1) (Qq 0)).info=some (Q1 0 1,Qq 0,#[Jg b 0],[(b,true)]):=K1
def Mh:Gr:=QV (Va b T todo) (Q1 0 1) (Qq 0)
def C7:Qm prog 209 false 20 (Mh b T todo)=some []:=K1
def Y0:Gr:=Qi prog 209 false 20 (Mh b T todo)
def IF:(Qc prog 209 false (Y0 b T todo) (Q1 0 1) (Qq 0)).info=some (Q1 0 0,Qq 0,#[QB b 0],[(b,true)]):=K1
def Fh:Gr:=QV (Y0 b T todo) (Q1 0 1) (Qq 0)
def pO:Qm prog 209 false 27 (Fh b T todo)=some []:=K1
def Pz:Gr:=Qi prog 209 false 27 (Fh b T todo)
def Iy:(Qc prog 209 false (Pz b T todo) (Q1 0 0) (Qq 0)).info=some (Q1 0 0,Qq 1,#[Z2 .disable,Jg b 1,QB b 1,Z2 .enable],[(b,true),(b,true)]):=K1
def Rd:mayWake prog (Pz b T todo)=true:=K1
def Ur:Gr:=QV (Pz b T todo) (Q1 0 0) (Qq 0)
def k_:Qm prog 209 false 17 (Ur b T todo)=some []:=K1
def LK:Gr:=Qi prog 209 false 17 (Ur b T todo)
def Mw:(Qc prog 209 false (LK b T todo) undef undef).info=some (undef,undef,#[Z2 .enable],[]):=K1
def DQ:Gr:=QV (LK b T todo) undef undef
def Bi:Qm prog 209 false 6 (DQ b T todo)=some []:=K1
def Be:(Qi prog 209 false 6 (DQ b T todo)).status=.finished:=K1
end
end Go.Proofs
end

