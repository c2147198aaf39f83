/- Lemmas. No conditions. -/
import Derived.Test.YtignaaddghcanaaGreatDoorProg
import Derived.Test.YtignaaddghcanaaGreatDoorB10
set_option linter.all false
set_option maxRecDepth 100000
open Go.Proofs.Tryz (prog)
noncomputable section
namespace Go.TM
open Go.Proofs
section
variable(b:Nat)(T:Array Value)(todo:List Item)
noncomputable def P3:Frame:={ (default:Frame)with fn:=prog.funcs.size,defers:=[],mode:=.panicking [goexitEntry] }
def pw:Frame:={ fn:=87,tmps:=T,todo:=todo,defers:=[],mode:=.returning,kind:=.deferred }
def OM:Gr:=Wj (Frame.enter prog 88 #[.pb b] .deferred) [pw T todo,P3]
def qH:Qm prog 173 false 15 (OM b T todo)=some [(b,false),(b,false)]:=K1
noncomputable def QS(g:Gr)(st sm:Value):Gr:=(Qc prog 173 false g st sm).get g
def K4:Gr:=Qi prog 173 false 15 (OM b T todo)
def DC:(Qc prog 173 false (K4 b T todo) undef undef).info=some (undef,undef,#[Z0 (.releaseMerge ⟨b,0,none⟩)],[]):=K1
def ON:Gr:=QS (K4 b T todo) undef undef
def qI:Qm prog 173 false 3 (ON b T todo)=some []:=K1
def UA:Gr:=Qi prog 173 false 3 (ON b T todo)
def qJ:(Qc prog 173 false (UA b T todo) undef undef).info=some (undef,undef,#[Z0 .disable],[]):=K1
def UB:Gr:=QS (UA b T todo) undef undef
def qK:Qm prog 173 false 34 (UB b T todo)=some []:=K1
def Q7:Gr:=Qi prog 173 false 34 (UB b T todo)
