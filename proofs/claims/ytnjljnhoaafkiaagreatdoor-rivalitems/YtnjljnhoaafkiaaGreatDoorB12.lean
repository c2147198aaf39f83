/- Lemmas. No conditions. -/
import Derived.Test.YtnjljnhoaafkiaaGreatDoorProg
import Derived.Test.YtnjljnhoaafkiaaGreatDoorB11
set_option linter.all false
open Go.Proofs.Tryz (prog)
set_option maxRecDepth 100000
noncomputable section
namespace Go.Proofs
open Go.TM
section
variable(b:Nat)(T:Array Value)(todo:List Item)
noncomputable def Pc:Frame:={ (default:Frame)with fn:=prog.funcs.size,defers:=[],mode:=.panicking [goexitEntry] }
def vj:Frame:={ fn:=86,tmps:=T,todo:=todo,defers:=[],mode:=.returning,kind:=.deferred }
noncomputable def OV:Gr:=Wj (Frame.enter prog 87 #[.pointer (some ⟨b,0,none⟩)] .deferred) [vj T todo,Pc]
def qZ:Qm prog 176 false 15 (OV b T todo)=some [(b,false),(b,false)]:=K1
noncomputable def QT(g:Gr)(st sm:Value):Gr:=(Qc prog 176 false g st sm).get g
def Kc:Gr:=Qj prog 176 false 15 (OV b T todo)
def DU:(Qc prog 176 false (Kc b T todo) undef undef).info=some (undef,undef,#[Z0 (.releaseMerge ⟨b,0,none⟩)],[]):=K1
def OW:Gr:=QT (Kc b T todo) undef undef
def q_:Qm prog 176 false 3 (OW b T todo)=some []:=K1
def UG:Gr:=Qj prog 176 false 3 (OW b T todo)
def qJ:(Qc prog 176 false (UG b T todo) undef undef).info=some (undef,undef,#[Z0 .disable],[]):=K1
def UH:Gr:=QT (UG b T todo) undef undef
def qK:Qm prog 176 false 34 (UH b T todo)=some []:=K1
def Q8:Gr:=Qj prog 176 false 34 (UH b T todo)
end
end Go.Proofs
end

