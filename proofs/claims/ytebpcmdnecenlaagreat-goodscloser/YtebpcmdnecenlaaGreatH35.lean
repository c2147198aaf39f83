/- A part of the proof: lemmas that the last text uses. No conditions of its own. -/
import Derived.Test.YtebpcmdnecenlaaGreatH31
set_option linter.unusedSimpArgs false
set_option linter.unusedVariables false
namespace Go.Proofs
open Go.TM
open Go.Conc (QuitsD)
section
variable (b:Nat) (m:Bool) (c:Frame) (cs:List Frame) (x:Nat->Value)
set_option maxRecDepth 100000
theorem Tryz.w4l:(stepE Tryz.prog 164 m (Tryz.wl b m c cs x) (stV 4 0) (smV 0)).info=some (stV 4 0,smV 0,#[evR b 0],[(b,true)]):=by kernel_rfl
noncomputable def Tryz.w4a:Goroutine:=(stepE Tryz.prog 164 m (Tryz.wl b m c cs x) (stV 4 0) (smV 0)).get (Tryz.wl b m c cs x)
theorem Tryz.w4a_c:calmB Tryz.prog 164 m 48 (Tryz.w4a b m c cs x)=some []:=by kernel_rfl
noncomputable def Tryz.w4b:Goroutine:=calmG Tryz.prog 164 m 48 (Tryz.w4a b m c cs x)
theorem Tryz.w4b_0:(stepE Tryz.prog 164 m (Tryz.w4b b m c cs x) (stV 0 0) (smV 0)).info=some (stV 0 0,smV 0,#[evR b 0],[(b,true),(b,false),(b,false)]):=by kernel_rfl
noncomputable def Tryz.w4f:Goroutine:=(stepE Tryz.prog 164 m (Tryz.w4b b m c cs x) (stV 0 0) (smV 0)).get (Tryz.w4b b m c cs x)
theorem Tryz.w4b_1:(stepE Tryz.prog 164 m (Tryz.w4b b m c cs x) (stV 1 0) (smV 0)).info=some (stV 1 0,smV 0,#[evR b 0],[(b,true),(b,false),(b,false)]):=by kernel_rfl
theorem Tryz.w4b_1e:(stepE Tryz.prog 164 m (Tryz.w4b b m c cs x) (stV 1 0) (smV 0)).get (Tryz.w4b b m c cs x)=Tryz.w4f b m c cs x:=by kernel_rfl
theorem Tryz.w4b_2:(stepE Tryz.prog 164 m (Tryz.w4b b m c cs x) (stV 2 0) (smV 0)).info=some (stV 2 0,smV 0,#[evR b 0],[(b,true),(b,false),(b,false)]):=by kernel_rfl
theorem Tryz.w4b_2e:(stepE Tryz.prog 164 m (Tryz.w4b b m c cs x) (stV 2 0) (smV 0)).get (Tryz.w4b b m c cs x)=Tryz.w4f b m c cs x:=by kernel_rfl
theorem Tryz.w4b_3:(stepE Tryz.prog 164 m (Tryz.w4b b m c cs x) (stV 3 0) (smV 0)).info=some (stV 3 0,smV 0,#[evR b 0],[(b,true),(b,false),(b,false)]):=by kernel_rfl
theorem Tryz.w4b_3e:(stepE Tryz.prog 164 m (Tryz.w4b b m c cs x) (stV 3 0) (smV 0)).get (Tryz.w4b b m c cs x)=Tryz.w4f b m c cs x:=by kernel_rfl
theorem Tryz.w4f_c:calmB Tryz.prog 164 m 25 (Tryz.w4f b m c cs x)=some []:=by kernel_rfl
theorem Tryz.w4f_e:calmG Tryz.prog 164 m 25 (Tryz.w4f b m c cs x)=Tryz.wl b m c cs (λ i=>(tmpsOf (calmG Tryz.prog 164 m 25 (Tryz.w4f b m c cs x))).getD i undef):=by kernel_rfl
theorem Tryz.w4b_i:(stepE Tryz.prog 164 m (Tryz.w4b b m c cs x) (stV 4 0) (smV 0)).info=some (stV 4 1,smV 0,#[evR b 0,evW b 0],[(b,true),(b,true),(b,false),(b,false)]):=by kernel_rfl
noncomputable def Tryz.w4c:Goroutine:=(stepE Tryz.prog 164 m (Tryz.w4b b m c cs x) (stV 4 0) (smV 0)).get (Tryz.w4b b m c cs x)
theorem Tryz.w4c_c:calmB Tryz.prog 164 m 20 (Tryz.w4c b m c cs x)=some [(b,false),(b,false)]:=by kernel_rfl
noncomputable def Tryz.w4d:Goroutine:=calmG Tryz.prog 164 m 20 (Tryz.w4c b m c cs x)
theorem Tryz.w4d_i:(stepE Tryz.prog 164 m (Tryz.w4d b m c cs x) undef undef).info=some (undef,undef,#[evM (bif true then .write ⟨b,1,none⟩ else .read ⟨b,1,none⟩)],[]):=by kernel_rfl
noncomputable def Tryz.w4e:Goroutine:=(stepE Tryz.prog 164 m (Tryz.w4d b m c cs x) undef undef).get (Tryz.w4d b m c cs x)
theorem Tryz.w4e_c:calmB Tryz.prog 164 m 23 (Tryz.w4e b m c cs x)=some []:=by kernel_rfl
noncomputable def Tryz.w4g:Goroutine:=calmG Tryz.prog 164 m 23 (Tryz.w4e b m c cs x)
theorem Tryz.w4g_o:(Tryz.w4g b m c cs x).offers=none:=by kernel_rfl
theorem Tryz.w4g_r:(Tryz.w4g b m c cs x).status=.running:=by kernel_rfl
theorem Tryz.w4g_b (st:Value):stepE Tryz.prog 164 m (Tryz.w4g b m c cs x) st (smV 0)=.blocked { Tryz.w4g b m c cs x with status:=.blocked } st (smV 0) [(b,true)]:=by kernel_rfl
theorem Tryz.w4g_i:(stepE Tryz.prog 164 m (Tryz.w4g b m c cs x) (stV 0 0) (smV 1)).info=some (stV 0 0,smV 0,#[evM .disable,evR b 1,evW b 1,evM .enable],[(b,true),(b,true)]):=by kernel_rfl
noncomputable def Tryz.w4h:Goroutine:=(stepE Tryz.prog 164 m (Tryz.w4g b m c cs x) (stV 0 0) (smV 1)).get (Tryz.w4g b m c cs x)
theorem Tryz.w4h_c:calmB Tryz.prog 164 m 16 (Tryz.w4h b m c cs x)=some []:=by kernel_rfl
noncomputable def Tryz.w4i:Goroutine:=calmG Tryz.prog 164 m 16 (Tryz.w4h b m c cs x)
theorem Tryz.w4i_i:(stepE Tryz.prog 164 m (Tryz.w4i b m c cs x) (stV 0 0) (smV 0)).info=some (stV 0 0,smV 0,#[evR b 0],[(b,true)]):=by kernel_rfl
noncomputable def Tryz.w4j:Goroutine:=(stepE Tryz.prog 164 m (Tryz.w4i b m c cs x) (stV 0 0) (smV 0)).get (Tryz.w4i b m c cs x)
theorem Tryz.w4j_c:calmB Tryz.prog 164 m 11 (Tryz.w4j b m c cs x)=some []:=by kernel_rfl
noncomputable def Tryz.w4k:Goroutine:=calmG Tryz.prog 164 m 11 (Tryz.w4j b m c cs x)
theorem Tryz.w4k_i:(stepE Tryz.prog 164 m (Tryz.w4k b m c cs x) undef undef).info=some (undef,undef,#[evM .enable],[]):=by kernel_rfl
noncomputable def Tryz.w4m:Goroutine:=(stepE Tryz.prog 164 m (Tryz.w4k b m c cs x) undef undef).get (Tryz.w4k b m c cs x)
theorem Tryz.w4m_c:calmB Tryz.prog 164 m 4 (Tryz.w4m b m c cs x)=some [(b,false),(b,false)]:=by kernel_rfl
noncomputable def Tryz.w4n:Goroutine:=calmG Tryz.prog 164 m 4 (Tryz.w4m b m c cs x)
theorem Tryz.w4n_i:(stepE Tryz.prog 164 m (Tryz.w4n b m c cs x) undef undef).info=some (undef,undef,#[evM (.acquire ⟨b,0,none⟩)],[]):=by kernel_rfl
noncomputable def Tryz.w4o:Goroutine:=(stepE Tryz.prog 164 m (Tryz.w4n b m c cs x) undef undef).get (Tryz.w4n b m c cs x)
theorem Tryz.w4o_c:calmB Tryz.prog 164 m 10 (Tryz.w4o b m c cs x)=some []:=by kernel_rfl
theorem Tryz.w4o_e:calmG Tryz.prog 164 m 10 (Tryz.w4o b m c cs x)=Rf (c.finish (.tuple #[])) cs:=by kernel_rfl
end
end Go.Proofs
