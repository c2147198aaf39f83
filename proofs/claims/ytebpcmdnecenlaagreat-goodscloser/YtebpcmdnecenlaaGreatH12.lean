/- A part of the proof: lemmas that the last text uses. No conditions of its own. -/
import Derived.Test.YtebpcmdnecenlaaGreatProg
import Derived.KernelRfl
import Derived.Test.YtebpcmdnecenlaaGreatH05
set_option linter.unusedSimpArgs false
set_option linter.unusedVariables false
namespace Go.Proofs
open Go.TM
section
variable (b:Nat) (T:Array Value) (todo:List Item)
noncomputable def Tryz.wroot:Frame:={ (default:Frame) with fn:=Tryz.prog.funcs.size,defers:=[],mode:=.panicking [goexitEntry] }
noncomputable def Tryz.wfr:Frame:={ fn:=122,tmps:=T,todo:=todo,defers:=[],mode:=.returning,kind:=.deferred }
noncomputable def Tryz.dn0:Goroutine:=run1 (Frame.enter Tryz.prog 123 #[.pointer (some ⟨b,0,none⟩)] .deferred) [Tryz.wfr T todo,Tryz.wroot]
set_option maxRecDepth 100000
theorem Tryz.dn0_calm:calmB Tryz.prog 164 false 15 (Tryz.dn0 b T todo)=some [(b,false),(b,false)]:=by kernel_rfl
noncomputable def nxt (g:Goroutine) (st sm:Value):Goroutine:=(stepE Tryz.prog 164 false g st sm).get g
noncomputable def Tryz.dn1:Goroutine:=calmG Tryz.prog 164 false 15 (Tryz.dn0 b T todo)
theorem Tryz.dn1_info:(stepE Tryz.prog 164 false (Tryz.dn1 b T todo) undef undef).info=some (undef,undef,#[evM (.releaseMerge ⟨b,0,none⟩)],[]):=by kernel_rfl
noncomputable def Tryz.dn2:Goroutine:=nxt (Tryz.dn1 b T todo) undef undef
theorem Tryz.dn2_calm:calmB Tryz.prog 164 false 3 (Tryz.dn2 b T todo)=some []:=by kernel_rfl
noncomputable def Tryz.dn3:Goroutine:=calmG Tryz.prog 164 false 3 (Tryz.dn2 b T todo)
theorem Tryz.dn3_info:(stepE Tryz.prog 164 false (Tryz.dn3 b T todo) undef undef).info=some (undef,undef,#[evM .disable],[]):=by kernel_rfl
noncomputable def Tryz.dn4:Goroutine:=nxt (Tryz.dn3 b T todo) undef undef
theorem Tryz.dn4_calm:calmB Tryz.prog 164 false 34 (Tryz.dn4 b T todo)=some []:=by kernel_rfl
noncomputable def Tryz.dn5:Goroutine:=calmG Tryz.prog 164 false 34 (Tryz.dn4 b T todo)
end
end Go.Proofs
