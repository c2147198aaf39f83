/- Lemmas. No conditions. -/
import Derived.Test.YtcakpkianonbkaaGreatDoorProg
import Derived.Test.YtcakpkianonbkaaGreatDoorB14
set_option linter.all false
open Go.Proofs.Tryz (prog)
set_option maxRecDepth 100000
noncomputable section
namespace Go.Proofs
open Go.TM
section
variable(b:Nat)(T:Array Value)(todo:List Item)
noncomputable def Qdd:Frame:={ (default:Frame)with fn:=prog.funcs.size,defers:=[],mode:=.panicking [goexitEntry] }
def Zm0:Frame:={ fn:=86,tmps:=T,todo:=todo,defers:=[],mode:=.returning,kind:=.deferred }
noncomputable def Qr4:Goroutine:=Wn (Frame.enter prog 87 #[.pointer (some ⟨b,0,none⟩)] .deferred) [Zm0 T todo,Qdd]
def Qwl:Qm prog 175 false 15 (Qr4 b T todo)=some [(b,false),(b,false)]:=by kernel_rfl
noncomputable def nxt(g:Goroutine)(st sm:Value):Goroutine:=(Qc prog 175 false g st sm).get g
def Qkq:Goroutine:=Qj prog 175 false 15 (Qr4 b T todo)
def Qjh:(Qc prog 175 false (Qkq b T todo) undef undef).info=some (undef,undef,#[Z5 (.releaseMerge ⟨b,0,none⟩)],[]):=by kernel_rfl
def Qr5:Goroutine:=nxt (Qkq b T todo) undef undef
def Qwm:Qm prog 175 false 3 (Qr5 b T todo)=some []:=by kernel_rfl
def Q24:Goroutine:=Qj prog 175 false 3 (Qr5 b T todo)
def Qwn:(Qc prog 175 false (Q24 b T todo) undef undef).info=some (undef,undef,#[Z5 .disable],[]):=by kernel_rfl
def Q25:Goroutine:=nxt (Q24 b T todo) undef undef
def Qwo:Qm prog 175 false 34 (Q25 b T todo)=some []:=by kernel_rfl
def Za:Goroutine:=Qj prog 175 false 34 (Q25 b T todo)
end
end Go.Proofs
end
