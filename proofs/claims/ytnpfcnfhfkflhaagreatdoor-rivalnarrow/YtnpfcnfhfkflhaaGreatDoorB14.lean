/- Lemmas of the proof. No conditions of their own. -/
import Derived.Test.YtnpfcnfhfkflhaaGreatDoorProg
import Derived.KernelRfl
import Derived.Test.YtnpfcnfhfkflhaaGreatDoorB13
set_option linter.all false
open Go.Proofs.Tryz (prog)
set_option maxRecDepth 100000
noncomputable section
namespace Go.Proofs
open Go.TM
section
variable (b:Nat) (T:Array Value) (todo:List Item)
def Qcu:Frame:={ (default:Frame) with fn:=prog.funcs.size,defers:=[],mode:=.panicking [goexitEntry] }
def Zi4:Frame:={ fn:=140,tmps:=T,todo:=todo,defers:=[],mode:=.returning,kind:=.deferred }
def Qqv:Gr:=Wn (Frame.enter prog 141 #[.pointer (some ⟨b,0,none⟩)] .deferred) [Zi4 T todo,Qcu]
theorem Qu4:Qm prog 209 false 15 (Qqv b T todo)=some [(b,false),(b,false)]:=by kernel_rfl
def nxt (g:Gr) (st sm:Value):Gr:=(Qc prog 209 false g st sm).get g
def Qjs:Gr:=Qi prog 209 false 15 (Qqv b T todo)
theorem Qik:(Qc prog 209 false (Qjs b T todo) undef undef).info=some (undef,undef,#[Z2 (.releaseMerge ⟨b,0,none⟩)],[]):=by kernel_rfl
def Qqw:Gr:=nxt (Qjs b T todo) undef undef
theorem Qu5:Qm prog 209 false 3 (Qqw b T todo)=some []:=by kernel_rfl
def Q1r:Gr:=Qi prog 209 false 3 (Qqw b T todo)
theorem Qu6:(Qc prog 209 false (Q1r b T todo) undef undef).info=some (undef,undef,#[Z2 .disable],[]):=by kernel_rfl
def Q1s:Gr:=nxt (Q1r b T todo) undef undef
theorem Qu7:Qm prog 209 false 34 (Q1s b T todo)=some []:=by kernel_rfl
def Q9:Gr:=Qi prog 209 false 34 (Q1s b T todo)
end
end Go.Proofs
end
