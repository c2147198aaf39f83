/- A part of the proof: lemmas that the last text uses. No conditions of its own. -/
import Derived.Test.YtebpcmdnecenlaaGreatProg
import Derived.KernelRfl
import Derived.Test.YtebpcmdnecenlaaGreatH05
set_option linter.unusedSimpArgs false
set_option linter.unusedVariables false
namespace Go.Proofs
open Go.TM
open Go.Conc (QuitsD)
section
variable (b:Nat) (m:Bool) (c:Frame) (cs:List Frame)
set_option maxRecDepth 100000
noncomputable def Tryz.ad0 (b:Nat) (_:Bool) (c:Frame) (cs:List Frame):Goroutine:=Rf (Frame.enter Tryz.prog 121 #[.pointer (some ⟨b,0,none⟩),.int .i64 1] .normal) (c::cs)
theorem Tryz.ad0_c:calmB Tryz.prog 164 m 12 (Tryz.ad0 b m c cs)=some []:=by kernel_rfl
noncomputable def Tryz.ad1:Goroutine:=calmG Tryz.prog 164 m 12 (Tryz.ad0 b m c cs)
theorem Tryz.ad1_i:(stepE Tryz.prog 164 m (Tryz.ad1 b m c cs) undef undef).info=some (undef,undef,#[evM .disable],[]):=by kernel_rfl
noncomputable def Tryz.ad2:Goroutine:=(stepE Tryz.prog 164 m (Tryz.ad1 b m c cs) undef undef).get (Tryz.ad1 b m c cs)
theorem Tryz.ad2_c:calmB Tryz.prog 164 m 34 (Tryz.ad2 b m c cs)=some []:=by kernel_rfl
noncomputable def Tryz.ad3:Goroutine:=calmG Tryz.prog 164 m 34 (Tryz.ad2 b m c cs)
theorem Tryz.ad3_0:(stepE Tryz.prog 164 m (Tryz.ad3 b m c cs) (stV 0 0) (smV 0)).info=some (stV 1 0,smV 0,#[evR b 0,evW b 0],[(b,true),(b,true)]):=by kernel_rfl
noncomputable def Tryz.ad4_0:Goroutine:=(stepE Tryz.prog 164 m (Tryz.ad3 b m c cs) (stV 0 0) (smV 0)).get (Tryz.ad3 b m c cs)
theorem Tryz.ad4_0c:calmB Tryz.prog 164 m 53 (Tryz.ad4_0 b m c cs)=some [(b,false),(b,false)]:=by kernel_rfl
noncomputable def Tryz.ad4_0x:Goroutine:=calmG Tryz.prog 164 m 53 (Tryz.ad4_0 b m c cs)
theorem Tryz.ad4_0r:(stepE Tryz.prog 164 m (Tryz.ad4_0x b m c cs) undef undef).info=some (undef,undef,#[evM (bif false then .write ⟨b,1,none⟩ else .read ⟨b,1,none⟩)],[]):=by kernel_rfl
noncomputable def Tryz.ad4_0y:Goroutine:=(stepE Tryz.prog 164 m (Tryz.ad4_0x b m c cs) undef undef).get (Tryz.ad4_0x b m c cs)
theorem Tryz.ad4_0d:calmB Tryz.prog 164 m 39 (Tryz.ad4_0y b m c cs)=some []:=by kernel_rfl
noncomputable def Tryz.ad4_0z:Goroutine:=calmG Tryz.prog 164 m 39 (Tryz.ad4_0y b m c cs)
theorem Tryz.ad4_0e:(stepE Tryz.prog 164 m (Tryz.ad4_0z b m c cs) undef undef).info=some (undef,undef,#[evM .enable],[]):=by kernel_rfl
noncomputable def Tryz.ad4_0w:Goroutine:=(stepE Tryz.prog 164 m (Tryz.ad4_0z b m c cs) undef undef).get (Tryz.ad4_0z b m c cs)
theorem Tryz.ad4_0f:calmB Tryz.prog 164 m 1 (Tryz.ad4_0w b m c cs)=some []:=by kernel_rfl
theorem Tryz.ad4_0g:calmG Tryz.prog 164 m 1 (Tryz.ad4_0w b m c cs)=Rf (c.finish (.tuple #[])) cs:=by kernel_rfl
theorem Tryz.ad3_1:(stepE Tryz.prog 164 m (Tryz.ad3 b m c cs) (stV 1 0) (smV 0)).info=some (stV 2 0,smV 0,#[evR b 0,evW b 0],[(b,true),(b,true)]):=by kernel_rfl
noncomputable def Tryz.ad4_1:Goroutine:=(stepE Tryz.prog 164 m (Tryz.ad3 b m c cs) (stV 1 0) (smV 0)).get (Tryz.ad3 b m c cs)
theorem Tryz.ad4_1c:calmB Tryz.prog 164 m 87 (Tryz.ad4_1 b m c cs)=some []:=by kernel_rfl
noncomputable def Tryz.ad4_1z:Goroutine:=calmG Tryz.prog 164 m 87 (Tryz.ad4_1 b m c cs)
theorem Tryz.ad4_1e:(stepE Tryz.prog 164 m (Tryz.ad4_1z b m c cs) undef undef).info=some (undef,undef,#[evM .enable],[]):=by kernel_rfl
noncomputable def Tryz.ad4_1w:Goroutine:=(stepE Tryz.prog 164 m (Tryz.ad4_1z b m c cs) undef undef).get (Tryz.ad4_1z b m c cs)
theorem Tryz.ad4_1f:calmB Tryz.prog 164 m 1 (Tryz.ad4_1w b m c cs)=some []:=by kernel_rfl
theorem Tryz.ad4_1g:calmG Tryz.prog 164 m 1 (Tryz.ad4_1w b m c cs)=Rf (c.finish (.tuple #[])) cs:=by kernel_rfl
theorem Tryz.ad3_2:(stepE Tryz.prog 164 m (Tryz.ad3 b m c cs) (stV 2 0) (smV 0)).info=some (stV 3 0,smV 0,#[evR b 0,evW b 0],[(b,true),(b,true)]):=by kernel_rfl
noncomputable def Tryz.ad4_2:Goroutine:=(stepE Tryz.prog 164 m (Tryz.ad3 b m c cs) (stV 2 0) (smV 0)).get (Tryz.ad3 b m c cs)
theorem Tryz.ad4_2c:calmB Tryz.prog 164 m 87 (Tryz.ad4_2 b m c cs)=some []:=by kernel_rfl
noncomputable def Tryz.ad4_2z:Goroutine:=calmG Tryz.prog 164 m 87 (Tryz.ad4_2 b m c cs)
theorem Tryz.ad4_2e:(stepE Tryz.prog 164 m (Tryz.ad4_2z b m c cs) undef undef).info=some (undef,undef,#[evM .enable],[]):=by kernel_rfl
noncomputable def Tryz.ad4_2w:Goroutine:=(stepE Tryz.prog 164 m (Tryz.ad4_2z b m c cs) undef undef).get (Tryz.ad4_2z b m c cs)
theorem Tryz.ad4_2f:calmB Tryz.prog 164 m 1 (Tryz.ad4_2w b m c cs)=some []:=by kernel_rfl
theorem Tryz.ad4_2g:calmG Tryz.prog 164 m 1 (Tryz.ad4_2w b m c cs)=Rf (c.finish (.tuple #[])) cs:=by kernel_rfl
theorem Tryz.ad3_3:(stepE Tryz.prog 164 m (Tryz.ad3 b m c cs) (stV 3 0) (smV 0)).info=some (stV 4 0,smV 0,#[evR b 0,evW b 0],[(b,true),(b,true)]):=by kernel_rfl
noncomputable def Tryz.ad4_3:Goroutine:=(stepE Tryz.prog 164 m (Tryz.ad3 b m c cs) (stV 3 0) (smV 0)).get (Tryz.ad3 b m c cs)
theorem Tryz.ad4_3c:calmB Tryz.prog 164 m 87 (Tryz.ad4_3 b m c cs)=some []:=by kernel_rfl
noncomputable def Tryz.ad4_3z:Goroutine:=calmG Tryz.prog 164 m 87 (Tryz.ad4_3 b m c cs)
theorem Tryz.ad4_3e:(stepE Tryz.prog 164 m (Tryz.ad4_3z b m c cs) undef undef).info=some (undef,undef,#[evM .enable],[]):=by kernel_rfl
noncomputable def Tryz.ad4_3w:Goroutine:=(stepE Tryz.prog 164 m (Tryz.ad4_3z b m c cs) undef undef).get (Tryz.ad4_3z b m c cs)
theorem Tryz.ad4_3f:calmB Tryz.prog 164 m 1 (Tryz.ad4_3w b m c cs)=some []:=by kernel_rfl
theorem Tryz.ad4_3g:calmG Tryz.prog 164 m 1 (Tryz.ad4_3w b m c cs)=Rf (c.finish (.tuple #[])) cs:=by kernel_rfl
theorem Tryz.ad3_4:(stepE Tryz.prog 164 m (Tryz.ad3 b m c cs) (stV 4 0) (smV 0)).info=some (stV 5 0,smV 0,#[evR b 0,evW b 0],[(b,true),(b,true)]):=by kernel_rfl
noncomputable def Tryz.ad4_4:Goroutine:=(stepE Tryz.prog 164 m (Tryz.ad3 b m c cs) (stV 4 0) (smV 0)).get (Tryz.ad3 b m c cs)
theorem Tryz.ad4_4c:calmB Tryz.prog 164 m 87 (Tryz.ad4_4 b m c cs)=some []:=by kernel_rfl
noncomputable def Tryz.ad4_4z:Goroutine:=calmG Tryz.prog 164 m 87 (Tryz.ad4_4 b m c cs)
theorem Tryz.ad4_4e:(stepE Tryz.prog 164 m (Tryz.ad4_4z b m c cs) undef undef).info=some (undef,undef,#[evM .enable],[]):=by kernel_rfl
noncomputable def Tryz.ad4_4w:Goroutine:=(stepE Tryz.prog 164 m (Tryz.ad4_4z b m c cs) undef undef).get (Tryz.ad4_4z b m c cs)
theorem Tryz.ad4_4f:calmB Tryz.prog 164 m 1 (Tryz.ad4_4w b m c cs)=some []:=by kernel_rfl
theorem Tryz.ad4_4g:calmG Tryz.prog 164 m 1 (Tryz.ad4_4w b m c cs)=Rf (c.finish (.tuple #[])) cs:=by kernel_rfl
theorem Tryz.ad3_5:(stepE Tryz.prog 164 m (Tryz.ad3 b m c cs) (stV 5 0) (smV 0)).info=some (stV 6 0,smV 0,#[evR b 0,evW b 0],[(b,true),(b,true)]):=by kernel_rfl
noncomputable def Tryz.ad4_5:Goroutine:=(stepE Tryz.prog 164 m (Tryz.ad3 b m c cs) (stV 5 0) (smV 0)).get (Tryz.ad3 b m c cs)
theorem Tryz.ad4_5c:calmB Tryz.prog 164 m 87 (Tryz.ad4_5 b m c cs)=some []:=by kernel_rfl
noncomputable def Tryz.ad4_5z:Goroutine:=calmG Tryz.prog 164 m 87 (Tryz.ad4_5 b m c cs)
theorem Tryz.ad4_5e:(stepE Tryz.prog 164 m (Tryz.ad4_5z b m c cs) undef undef).info=some (undef,undef,#[evM .enable],[]):=by kernel_rfl
noncomputable def Tryz.ad4_5w:Goroutine:=(stepE Tryz.prog 164 m (Tryz.ad4_5z b m c cs) undef undef).get (Tryz.ad4_5z b m c cs)
theorem Tryz.ad4_5f:calmB Tryz.prog 164 m 1 (Tryz.ad4_5w b m c cs)=some []:=by kernel_rfl
theorem Tryz.ad4_5g:calmG Tryz.prog 164 m 1 (Tryz.ad4_5w b m c cs)=Rf (c.finish (.tuple #[])) cs:=by kernel_rfl
theorem Tryz.ad3_6:(stepE Tryz.prog 164 m (Tryz.ad3 b m c cs) (stV 6 0) (smV 0)).info=some (stV 7 0,smV 0,#[evR b 0,evW b 0],[(b,true),(b,true)]):=by kernel_rfl
noncomputable def Tryz.ad4_6:Goroutine:=(stepE Tryz.prog 164 m (Tryz.ad3 b m c cs) (stV 6 0) (smV 0)).get (Tryz.ad3 b m c cs)
theorem Tryz.ad4_6c:calmB Tryz.prog 164 m 87 (Tryz.ad4_6 b m c cs)=some []:=by kernel_rfl
noncomputable def Tryz.ad4_6z:Goroutine:=calmG Tryz.prog 164 m 87 (Tryz.ad4_6 b m c cs)
theorem Tryz.ad4_6e:(stepE Tryz.prog 164 m (Tryz.ad4_6z b m c cs) undef undef).info=some (undef,undef,#[evM .enable],[]):=by kernel_rfl
noncomputable def Tryz.ad4_6w:Goroutine:=(stepE Tryz.prog 164 m (Tryz.ad4_6z b m c cs) undef undef).get (Tryz.ad4_6z b m c cs)
theorem Tryz.ad4_6f:calmB Tryz.prog 164 m 1 (Tryz.ad4_6w b m c cs)=some []:=by kernel_rfl
theorem Tryz.ad4_6g:calmG Tryz.prog 164 m 1 (Tryz.ad4_6w b m c cs)=Rf (c.finish (.tuple #[])) cs:=by kernel_rfl
theorem Tryz.ad3_7:(stepE Tryz.prog 164 m (Tryz.ad3 b m c cs) (stV 7 0) (smV 0)).info=some (stV 8 0,smV 0,#[evR b 0,evW b 0],[(b,true),(b,true)]):=by kernel_rfl
noncomputable def Tryz.ad4_7:Goroutine:=(stepE Tryz.prog 164 m (Tryz.ad3 b m c cs) (stV 7 0) (smV 0)).get (Tryz.ad3 b m c cs)
theorem Tryz.ad4_7c:calmB Tryz.prog 164 m 87 (Tryz.ad4_7 b m c cs)=some []:=by kernel_rfl
noncomputable def Tryz.ad4_7z:Goroutine:=calmG Tryz.prog 164 m 87 (Tryz.ad4_7 b m c cs)
theorem Tryz.ad4_7e:(stepE Tryz.prog 164 m (Tryz.ad4_7z b m c cs) undef undef).info=some (undef,undef,#[evM .enable],[]):=by kernel_rfl
noncomputable def Tryz.ad4_7w:Goroutine:=(stepE Tryz.prog 164 m (Tryz.ad4_7z b m c cs) undef undef).get (Tryz.ad4_7z b m c cs)
theorem Tryz.ad4_7f:calmB Tryz.prog 164 m 1 (Tryz.ad4_7w b m c cs)=some []:=by kernel_rfl
theorem Tryz.ad4_7g:calmG Tryz.prog 164 m 1 (Tryz.ad4_7w b m c cs)=Rf (c.finish (.tuple #[])) cs:=by kernel_rfl
end
end Go.Proofs
