/- Lemmas. No conditions. -/
import Derived.Test.YtnpfcnfhfkflhaaGreatDoorProg
import Derived.Test.YtnpfcnfhfkflhaaGreatDoorB13
set_option linter.all false
open Go.Proofs.Tryz (prog)
set_option maxRecDepth 100000
noncomputable section
namespace Go.Proofs
open Go.TM
section
variable(b:Nat)(T:Array Value)(todo:List Item)
noncomputable def GS:Frame:={ (default:Frame)with fn:=prog.funcs.size,defers:=[],mode:=.panicking [goexitEntry] }
def RL:Frame:={ fn:=140,tmps:=T,todo:=todo,defers:=[],mode:=.returning,kind:=.deferred }
noncomputable def Sk:Gr:=Wn (Frame.enter prog 141 #[.pointer (some ⟨b,0,none⟩)] .deferred) [RL T todo,GS]
def ov:Qm prog 209 false 15 (Sk b T todo)=some [(b,false),(b,false)]:=K1
noncomputable def QV(g:Gr)(st sm:Value):Gr:=(Qc prog 209 false g st sm).get g
def KF:Gr:=Qi prog 209 false 15 (Sk b T todo)
def Ey:(Qc prog 209 false (KF b T todo) undef undef).info=some (undef,undef,#[Z2 (.releaseMerge ⟨b,0,none⟩)],[]):=K1
def SO:Gr:=QV (KF b T todo) undef undef
def Ay:Qm prog 209 false 3 (SO b T todo)=some []:=K1
def F2:Gr:=Qi prog 209 false 3 (SO b T todo)
def Cy:(Qc prog 209 false (F2 b T todo) undef undef).info=some (undef,undef,#[Z2 .disable],[]):=K1
def EQ:Gr:=QV (F2 b T todo) undef undef
def yf:Qm prog 209 false 34 (EQ b T todo)=some []:=K1
def Q9:Gr:=Qi prog 209 false 34 (EQ b T todo)
end
end Go.Proofs
end

