/- A part of the proof: lemmas that the last text uses. No conditions of its own. -/
import Derived.Test.YtebpcmdnecenlaaGreatH12
set_option linter.unusedSimpArgs false
set_option linter.unusedVariables false
namespace Go.Proofs
open Go.TM
section
variable (b:Nat) (T:Array Value) (todo:List Item)
set_option maxRecDepth 100000
noncomputable def Tryz.tl3_0a:Goroutine:=nxt (Tryz.dn5 b T todo) (stV 3 0) (smV 0)
theorem Tryz.tl3_0a_info:(stepE Tryz.prog 164 false (Tryz.dn5 b T todo) (stV 3 0) (smV 0)).info=some (stV 2 0,smV 0,#[evR b 0,evW b 0],[(b,true),(b,true)]):=by kernel_rfl
theorem Tryz.tl3_0a_calm:calmB Tryz.prog 164 false 87 (Tryz.tl3_0a b T todo)=some []:=by kernel_rfl
noncomputable def Tryz.tl3_0b:Goroutine:=calmG Tryz.prog 164 false 87 (Tryz.tl3_0a b T todo)
theorem Tryz.tl3_0b_info:(stepE Tryz.prog 164 false (Tryz.tl3_0b b T todo) undef undef).info=some (undef,undef,#[evM .enable],[]):=by kernel_rfl
noncomputable def Tryz.tl3_0c:Goroutine:=nxt (Tryz.tl3_0b b T todo) undef undef
theorem Tryz.tl3_0c_calm:calmB Tryz.prog 164 false 6 (Tryz.tl3_0c b T todo)=some []:=by kernel_rfl
theorem Tryz.tl3_0c_end:(calmG Tryz.prog 164 false 6 (Tryz.tl3_0c b T todo)).status=.finished:=by kernel_rfl
theorem Tryz.tl3_0:Go.Conc.QuitsD Tryz.prog 94 1 (Tryz.tl3_0a b T todo):=quits_calm (n:=87) (Tryz.tl3_0a_calm b T todo) (quits_say (Tryz.tl3_0b_info b T todo) (by simp [evM,Event.mute]) (quits_calm (n:=6) (k:=0) (Tryz.tl3_0c_calm b T todo) ⟨Tryz.tl3_0c_end b T todo,rfl⟩))
end
end Go.Proofs
