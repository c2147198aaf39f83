/- Lemmas. No conditions. -/
import Derived.Test.YtnjljnhoaafkiaaGreatDoorProg
import Derived.Test.YtnjljnhoaafkiaaGreatDoorB11
set_option linter.all false
set_option maxRecDepth 100000
open Go.Proofs.Tryz (prog)
noncomputable section
namespace Go.TM
open Go.Proofs
section
variable(b:Nat)(T:Array Value)(todo:List Item)
def Pe:Frame:={ (default:Frame)with fn:=prog.funcs.size,defers:=[],mode:=.panicking [goexitEntry] }
def xQ:Frame:={ fn:=86,tmps:=T,todo:=todo,defers:=[],mode:=.returning,kind:=.deferred }
def T0:Gr:=Wj (Frame.enter prog 87 #[.pb b] .deferred) [xQ T todo,Pe]
def zh:Qm prog 176 false 15 (T0 b T todo)=some [(b,false),(b,false)]:=K1
def QT(g:Gr)(st sm:Value):Gr:=(Qc prog 176 false g st sm).get g
def Kf:Gr:=Qj prog 176 false 15 (T0 b T todo)
def DZ:(Qc prog 176 false (Kf b T todo) undef undef).info=some (undef,undef,#[Z0 (.releaseMerge ⟨b,0,none⟩)],[]):=K1
def T4:Gr:=QT (Kf b T todo) undef undef
def zi:Qm prog 176 false 3 (T4 b T todo)=some []:=K1
def UV:Gr:=Qj prog 176 false 3 (T4 b T todo)
def zj:(Qc prog 176 false (UV b T todo) undef undef).info=some (undef,undef,#[Z0 .disable],[]):=K1
def UL:Gr:=QT (UV b T todo) undef undef
def zk:Qm prog 176 false 34 (UL b T todo)=some []:=K1
def Q8:Gr:=Qj prog 176 false 34 (UL b T todo)
