/- Lemmas. No conditions. -/
import Derived.Test.YtcakpkianonbkaaGreatDoorProg
import Derived.Test.YtcakpkianonbkaaGreatDoorB14
set_option linter.all false
open Go.Proofs.Tryz (prog)
set_option maxRecDepth 100000
noncomputable section
namespace Go.Proofs
open Go.TM
section
variable(b:Nat)(T:Array Value)(todo:List Item)
noncomputable def PM:Frame:={ (default:Frame)with fn:=prog.funcs.size,defers:=[],mode:=.panicking [goexitEntry] }
def su:Frame:={ fn:=86,tmps:=T,todo:=todo,defers:=[],mode:=.returning,kind:=.deferred }
noncomputable def Sq:Gr:=Wr (Frame.enter prog 87 #[.pointer (some ⟨b,0,none⟩)] .deferred) [su T todo,PM]
def zu:Qn prog 175 false 15 (Sq b T todo)=some [(b,false),(b,false)]:=K1
noncomputable def QC(g:Gr)(st sm:Value):Gr:=(Qc prog 175 false g st sm).get g
def Yd:Gr:=Qi prog 175 false 15 (Sq b T todo)
def FG:(Qc prog 175 false (Yd b T todo) undef undef).info=some (undef,undef,#[Z8 (.releaseMerge ⟨b,0,none⟩)],[]):=K1
def Sr:Gr:=QC (Yd b T todo) undef undef
def zv:Qn prog 175 false 3 (Sr b T todo)=some []:=K1
def E5:Gr:=Qi prog 175 false 3 (Sr b T todo)
def zw:(Qc prog 175 false (E5 b T todo) undef undef).info=some (undef,undef,#[Z8 .disable],[]):=K1
def E6:Gr:=QC (E5 b T todo) undef undef
def zx:Qn prog 175 false 34 (E6 b T todo)=some []:=K1
def Zc:Gr:=Qi prog 175 false 34 (E6 b T todo)
end
end Go.Proofs
end

