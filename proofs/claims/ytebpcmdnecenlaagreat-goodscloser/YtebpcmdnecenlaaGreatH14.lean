/- A part of the proof: lemmas that the last text uses. No conditions of its own. -/
import Derived.Test.YtebpcmdnecenlaaGreatH12
set_option linter.unusedSimpArgs false
set_option linter.unusedVariables false
namespace Go.Proofs
open Go.TM
section
variable (b:Nat) (T:Array Value) (todo:List Item)
set_option maxRecDepth 100000
noncomputable def Tryz.tl1_1a:Goroutine:=nxt (Tryz.dn5 b T todo) (stV 1 1) (smV 0)
theorem Tryz.tl1_1a_info:(stepE Tryz.prog 164 false (Tryz.dn5 b T todo) (stV 1 1) (smV 0)).info=some (stV 0 1,smV 0,#[evR b 0,evW b 0],[(b,true),(b,true)]):=by kernel_rfl
theorem Tryz.tl1_1a_calm:calmB Tryz.prog 164 false 103 (Tryz.tl1_1a b T todo)=some []:=by kernel_rfl
noncomputable def Tryz.tl1_1b:Goroutine:=calmG Tryz.prog 164 false 103 (Tryz.tl1_1a b T todo)
theorem Tryz.tl1_1b_info:(stepE Tryz.prog 164 false (Tryz.tl1_1b b T todo) (stV 0 1) (smV 0)).info=some (stV 0 1,smV 0,#[evR b 0],[(b,true)]):=by kernel_rfl
noncomputable def Tryz.tl1_1c:Goroutine:=nxt (Tryz.tl1_1b b T todo) (stV 0 1) (smV 0)
theorem Tryz.tl1_1c_calm:calmB Tryz.prog 164 false 20 (Tryz.tl1_1c b T todo)=some []:=by kernel_rfl
noncomputable def Tryz.tl1_1d:Goroutine:=calmG Tryz.prog 164 false 20 (Tryz.tl1_1c b T todo)
theorem Tryz.tl1_1d_info:(stepE Tryz.prog 164 false (Tryz.tl1_1d b T todo) (stV 0 1) (smV 0)).info=some (stV 0 0,smV 0,#[evW b 0],[(b,true)]):=by kernel_rfl
noncomputable def Tryz.tl1_1e:Goroutine:=nxt (Tryz.tl1_1d b T todo) (stV 0 1) (smV 0)
theorem Tryz.tl1_1e_calm:calmB Tryz.prog 164 false 27 (Tryz.tl1_1e b T todo)=some []:=by kernel_rfl
noncomputable def Tryz.tl1_1f:Goroutine:=calmG Tryz.prog 164 false 27 (Tryz.tl1_1e b T todo)
theorem Tryz.tl1_1f_info:(stepE Tryz.prog 164 false (Tryz.tl1_1f b T todo) (stV 0 0) (smV 0)).info=some (stV 0 0,smV 1,#[evM .disable,evR b 1,evW b 1,evM .enable],[(b,true),(b,true)]):=by kernel_rfl
theorem Tryz.tl1_1f_wake:mayWake Tryz.prog (Tryz.tl1_1f b T todo)=true:=by kernel_rfl
noncomputable def Tryz.tl1_1g:Goroutine:=nxt (Tryz.tl1_1f b T todo) (stV 0 0) (smV 0)
theorem Tryz.tl1_1g_calm:calmB Tryz.prog 164 false 17 (Tryz.tl1_1g b T todo)=some []:=by kernel_rfl
noncomputable def Tryz.tl1_1h:Goroutine:=calmG Tryz.prog 164 false 17 (Tryz.tl1_1g b T todo)
theorem Tryz.tl1_1h_info:(stepE Tryz.prog 164 false (Tryz.tl1_1h b T todo) undef undef).info=some (undef,undef,#[evM .enable],[]):=by kernel_rfl
noncomputable def Tryz.tl1_1i:Goroutine:=nxt (Tryz.tl1_1h b T todo) undef undef
theorem Tryz.tl1_1i_calm:calmB Tryz.prog 164 false 6 (Tryz.tl1_1i b T todo)=some []:=by kernel_rfl
theorem Tryz.tl1_1i_end:(calmG Tryz.prog 164 false 6 (Tryz.tl1_1i b T todo)).status=.finished:=by kernel_rfl
end
end Go.Proofs
