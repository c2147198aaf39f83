/- A part of the proof: lemmas that the last text uses. No conditions of its own. -/
import Derived.Test.YtebpcmdnecenlaaGreatH31
set_option linter.unusedSimpArgs false
set_option linter.unusedVariables false
namespace Go.Proofs
open Go.TM
open Go.Conc (QuitsD)
section
variable (b:Nat) (m:Bool) (c:Frame) (cs:List Frame) (x:Nat->Value)
set_option maxRecDepth 100000
theorem Tryz.w3l:(stepE Tryz.prog 164 m (Tryz.wl b m c cs x) (stV 3 0) (smV 0)).info=some (stV 3 0,smV 0,#[evR b 0],[(b,true)]):=by kernel_rfl
noncomputable def Tryz.w3a:Goroutine:=(stepE Tryz.prog 164 m (Tryz.wl b m c cs x) (stV 3 0) (smV 0)).get (Tryz.wl b m c cs x)
theorem Tryz.w3a_c:calmB Tryz.prog 164 m 48 (Tryz.w3a b m c cs x)=some []:=by kernel_rfl
noncomputable def Tryz.w3b:Goroutine:=calmG Tryz.prog 164 m 48 (Tryz.w3a b m c cs x)
theorem Tryz.w3b_0:(stepE Tryz.prog 164 m (Tryz.w3b b m c cs x) (stV 0 0) (smV 0)).info=some (stV 0 0,smV 0,#[evR b 0],[(b,true),(b,false),(b,false)]):=by kernel_rfl
noncomputable def Tryz.w3f:Goroutine:=(stepE Tryz.prog 164 m (Tryz.w3b b m c cs x) (stV 0 0) (smV 0)).get (Tryz.w3b b m c cs x)
theorem Tryz.w3b_1:(stepE Tryz.prog 164 m (Tryz.w3b b m c cs x) (stV 1 0) (smV 0)).info=some (stV 1 0,smV 0,#[evR b 0],[(b,true),(b,false),(b,false)]):=by kernel_rfl
theorem Tryz.w3b_1e:(stepE Tryz.prog 164 m (Tryz.w3b b m c cs x) (stV 1 0) (smV 0)).get (Tryz.w3b b m c cs x)=Tryz.w3f b m c cs x:=by kernel_rfl
theorem Tryz.w3b_2:(stepE Tryz.prog 164 m (Tryz.w3b b m c cs x) (stV 2 0) (smV 0)).info=some (stV 2 0,smV 0,#[evR b 0],[(b,true),(b,false),(b,false)]):=by kernel_rfl
theorem Tryz.w3b_2e:(stepE Tryz.prog 164 m (Tryz.w3b b m c cs x) (stV 2 0) (smV 0)).get (Tryz.w3b b m c cs x)=Tryz.w3f b m c cs x:=by kernel_rfl
theorem Tryz.w3f_c:calmB Tryz.prog 164 m 25 (Tryz.w3f b m c cs x)=some []:=by kernel_rfl
theorem Tryz.w3f_e:calmG Tryz.prog 164 m 25 (Tryz.w3f b m c cs x)=Tryz.wl b m c cs (λ i=>(tmpsOf (calmG Tryz.prog 164 m 25 (Tryz.w3f b m c cs x))).getD i undef):=by kernel_rfl
theorem Tryz.w3b_i:(stepE Tryz.prog 164 m (Tryz.w3b b m c cs x) (stV 3 0) (smV 0)).info=some (stV 3 1,smV 0,#[evR b 0,evW b 0],[(b,true),(b,true),(b,false),(b,false)]):=by kernel_rfl
noncomputable def Tryz.w3c:Goroutine:=(stepE Tryz.prog 164 m (Tryz.w3b b m c cs x) (stV 3 0) (smV 0)).get (Tryz.w3b b m c cs x)
theorem Tryz.w3c_c:calmB Tryz.prog 164 m 20 (Tryz.w3c b m c cs x)=some [(b,false),(b,false)]:=by kernel_rfl
noncomputable def Tryz.w3d:Goroutine:=calmG Tryz.prog 164 m 20 (Tryz.w3c b m c cs x)
theorem Tryz.w3d_i:(stepE Tryz.prog 164 m (Tryz.w3d b m c cs x) undef undef).info=some (undef,undef,#[evM (bif true then .write ⟨b,1,none⟩ else .read ⟨b,1,none⟩)],[]):=by kernel_rfl
noncomputable def Tryz.w3e:Goroutine:=(stepE Tryz.prog 164 m (Tryz.w3d b m c cs x) undef undef).get (Tryz.w3d b m c cs x)
theorem Tryz.w3e_c:calmB Tryz.prog 164 m 23 (Tryz.w3e b m c cs x)=some []:=by kernel_rfl
noncomputable def Tryz.w3g:Goroutine:=calmG Tryz.prog 164 m 23 (Tryz.w3e b m c cs x)
theorem Tryz.w3g_o:(Tryz.w3g b m c cs x).offers=none:=by kernel_rfl
theorem Tryz.w3g_r:(Tryz.w3g b m c cs x).status=.running:=by kernel_rfl
theorem Tryz.w3g_b (st:Value):stepE Tryz.prog 164 m (Tryz.w3g b m c cs x) st (smV 0)=.blocked { Tryz.w3g b m c cs x with status:=.blocked } st (smV 0) [(b,true)]:=by kernel_rfl
theorem Tryz.w3g_i:(stepE Tryz.prog 164 m (Tryz.w3g b m c cs x) (stV 0 0) (smV 1)).info=some (stV 0 0,smV 0,#[evM .disable,evR b 1,evW b 1,evM .enable],[(b,true),(b,true)]):=by kernel_rfl
noncomputable def Tryz.w3h:Goroutine:=(stepE Tryz.prog 164 m (Tryz.w3g b m c cs x) (stV 0 0) (smV 1)).get (Tryz.w3g b m c cs x)
theorem Tryz.w3h_c:calmB Tryz.prog 164 m 16 (Tryz.w3h b m c cs x)=some []:=by kernel_rfl
noncomputable def Tryz.w3i:Goroutine:=calmG Tryz.prog 164 m 16 (Tryz.w3h b m c cs x)
theorem Tryz.w3i_i:(stepE Tryz.prog 164 m (Tryz.w3i b m c cs x) (stV 0 0) (smV 0)).info=some (stV 0 0,smV 0,#[evR b 0],[(b,true)]):=by kernel_rfl
noncomputable def Tryz.w3j:Goroutine:=(stepE Tryz.prog 164 m (Tryz.w3i b m c cs x) (stV 0 0) (smV 0)).get (Tryz.w3i b m c cs x)
theorem Tryz.w3j_c:calmB Tryz.prog 164 m 11 (Tryz.w3j b m c cs x)=some []:=by kernel_rfl
noncomputable def Tryz.w3k:Goroutine:=calmG Tryz.prog 164 m 11 (Tryz.w3j b m c cs x)
theorem Tryz.w3k_i:(stepE Tryz.prog 164 m (Tryz.w3k b m c cs x) undef undef).info=some (undef,undef,#[evM .enable],[]):=by kernel_rfl
noncomputable def Tryz.w3m:Goroutine:=(stepE Tryz.prog 164 m (Tryz.w3k b m c cs x) undef undef).get (Tryz.w3k b m c cs x)
theorem Tryz.w3m_c:calmB Tryz.prog 164 m 4 (Tryz.w3m b m c cs x)=some [(b,false),(b,false)]:=by kernel_rfl
noncomputable def Tryz.w3n:Goroutine:=calmG Tryz.prog 164 m 4 (Tryz.w3m b m c cs x)
theorem Tryz.w3n_i:(stepE Tryz.prog 164 m (Tryz.w3n b m c cs x) undef undef).info=some (undef,undef,#[evM (.acquire ⟨b,0,none⟩)],[]):=by kernel_rfl
noncomputable def Tryz.w3o:Goroutine:=(stepE Tryz.prog 164 m (Tryz.w3n b m c cs x) undef undef).get (Tryz.w3n b m c cs x)
theorem Tryz.w3o_c:calmB Tryz.prog 164 m 10 (Tryz.w3o b m c cs x)=some []:=by kernel_rfl
theorem Tryz.w3o_e:calmG Tryz.prog 164 m 10 (Tryz.w3o b m c cs x)=Rf (c.finish (.tuple #[])) cs:=by kernel_rfl
end
end Go.Proofs
