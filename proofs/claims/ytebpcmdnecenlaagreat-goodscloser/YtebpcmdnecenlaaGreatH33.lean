/- A part of the proof: lemmas that the last text uses. No conditions of its own. -/
import Derived.Test.YtebpcmdnecenlaaGreatH31
set_option linter.unusedSimpArgs false
set_option linter.unusedVariables false
namespace Go.Proofs
open Go.TM
open Go.Conc (QuitsD)
section
variable (b:Nat) (m:Bool) (c:Frame) (cs:List Frame) (x:Nat->Value)
set_option maxRecDepth 100000
theorem Tryz.w2l:(stepE Tryz.prog 164 m (Tryz.wl b m c cs x) (stV 2 0) (smV 0)).info=some (stV 2 0,smV 0,#[evR b 0],[(b,true)]):=by kernel_rfl
noncomputable def Tryz.w2a:Goroutine:=(stepE Tryz.prog 164 m (Tryz.wl b m c cs x) (stV 2 0) (smV 0)).get (Tryz.wl b m c cs x)
theorem Tryz.w2a_c:calmB Tryz.prog 164 m 48 (Tryz.w2a b m c cs x)=some []:=by kernel_rfl
noncomputable def Tryz.w2b:Goroutine:=calmG Tryz.prog 164 m 48 (Tryz.w2a b m c cs x)
theorem Tryz.w2b_0:(stepE Tryz.prog 164 m (Tryz.w2b b m c cs x) (stV 0 0) (smV 0)).info=some (stV 0 0,smV 0,#[evR b 0],[(b,true),(b,false),(b,false)]):=by kernel_rfl
noncomputable def Tryz.w2f:Goroutine:=(stepE Tryz.prog 164 m (Tryz.w2b b m c cs x) (stV 0 0) (smV 0)).get (Tryz.w2b b m c cs x)
theorem Tryz.w2b_1:(stepE Tryz.prog 164 m (Tryz.w2b b m c cs x) (stV 1 0) (smV 0)).info=some (stV 1 0,smV 0,#[evR b 0],[(b,true),(b,false),(b,false)]):=by kernel_rfl
theorem Tryz.w2b_1e:(stepE Tryz.prog 164 m (Tryz.w2b b m c cs x) (stV 1 0) (smV 0)).get (Tryz.w2b b m c cs x)=Tryz.w2f b m c cs x:=by kernel_rfl
theorem Tryz.w2f_c:calmB Tryz.prog 164 m 25 (Tryz.w2f b m c cs x)=some []:=by kernel_rfl
theorem Tryz.w2f_e:calmG Tryz.prog 164 m 25 (Tryz.w2f b m c cs x)=Tryz.wl b m c cs (λ i=>(tmpsOf (calmG Tryz.prog 164 m 25 (Tryz.w2f b m c cs x))).getD i undef):=by kernel_rfl
theorem Tryz.w2b_i:(stepE Tryz.prog 164 m (Tryz.w2b b m c cs x) (stV 2 0) (smV 0)).info=some (stV 2 1,smV 0,#[evR b 0,evW b 0],[(b,true),(b,true),(b,false),(b,false)]):=by kernel_rfl
noncomputable def Tryz.w2c:Goroutine:=(stepE Tryz.prog 164 m (Tryz.w2b b m c cs x) (stV 2 0) (smV 0)).get (Tryz.w2b b m c cs x)
theorem Tryz.w2c_c:calmB Tryz.prog 164 m 20 (Tryz.w2c b m c cs x)=some [(b,false),(b,false)]:=by kernel_rfl
noncomputable def Tryz.w2d:Goroutine:=calmG Tryz.prog 164 m 20 (Tryz.w2c b m c cs x)
theorem Tryz.w2d_i:(stepE Tryz.prog 164 m (Tryz.w2d b m c cs x) undef undef).info=some (undef,undef,#[evM (bif true then .write ⟨b,1,none⟩ else .read ⟨b,1,none⟩)],[]):=by kernel_rfl
noncomputable def Tryz.w2e:Goroutine:=(stepE Tryz.prog 164 m (Tryz.w2d b m c cs x) undef undef).get (Tryz.w2d b m c cs x)
theorem Tryz.w2e_c:calmB Tryz.prog 164 m 23 (Tryz.w2e b m c cs x)=some []:=by kernel_rfl
noncomputable def Tryz.w2g:Goroutine:=calmG Tryz.prog 164 m 23 (Tryz.w2e b m c cs x)
theorem Tryz.w2g_o:(Tryz.w2g b m c cs x).offers=none:=by kernel_rfl
theorem Tryz.w2g_r:(Tryz.w2g b m c cs x).status=.running:=by kernel_rfl
theorem Tryz.w2g_b (st:Value):stepE Tryz.prog 164 m (Tryz.w2g b m c cs x) st (smV 0)=.blocked { Tryz.w2g b m c cs x with status:=.blocked } st (smV 0) [(b,true)]:=by kernel_rfl
theorem Tryz.w2g_i:(stepE Tryz.prog 164 m (Tryz.w2g b m c cs x) (stV 0 0) (smV 1)).info=some (stV 0 0,smV 0,#[evM .disable,evR b 1,evW b 1,evM .enable],[(b,true),(b,true)]):=by kernel_rfl
noncomputable def Tryz.w2h:Goroutine:=(stepE Tryz.prog 164 m (Tryz.w2g b m c cs x) (stV 0 0) (smV 1)).get (Tryz.w2g b m c cs x)
theorem Tryz.w2h_c:calmB Tryz.prog 164 m 16 (Tryz.w2h b m c cs x)=some []:=by kernel_rfl
noncomputable def Tryz.w2i:Goroutine:=calmG Tryz.prog 164 m 16 (Tryz.w2h b m c cs x)
theorem Tryz.w2i_i:(stepE Tryz.prog 164 m (Tryz.w2i b m c cs x) (stV 0 0) (smV 0)).info=some (stV 0 0,smV 0,#[evR b 0],[(b,true)]):=by kernel_rfl
noncomputable def Tryz.w2j:Goroutine:=(stepE Tryz.prog 164 m (Tryz.w2i b m c cs x) (stV 0 0) (smV 0)).get (Tryz.w2i b m c cs x)
theorem Tryz.w2j_c:calmB Tryz.prog 164 m 11 (Tryz.w2j b m c cs x)=some []:=by kernel_rfl
noncomputable def Tryz.w2k:Goroutine:=calmG Tryz.prog 164 m 11 (Tryz.w2j b m c cs x)
theorem Tryz.w2k_i:(stepE Tryz.prog 164 m (Tryz.w2k b m c cs x) undef undef).info=some (undef,undef,#[evM .enable],[]):=by kernel_rfl
noncomputable def Tryz.w2m:Goroutine:=(stepE Tryz.prog 164 m (Tryz.w2k b m c cs x) undef undef).get (Tryz.w2k b m c cs x)
theorem Tryz.w2m_c:calmB Tryz.prog 164 m 4 (Tryz.w2m b m c cs x)=some [(b,false),(b,false)]:=by kernel_rfl
noncomputable def Tryz.w2n:Goroutine:=calmG Tryz.prog 164 m 4 (Tryz.w2m b m c cs x)
theorem Tryz.w2n_i:(stepE Tryz.prog 164 m (Tryz.w2n b m c cs x) undef undef).info=some (undef,undef,#[evM (.acquire ⟨b,0,none⟩)],[]):=by kernel_rfl
noncomputable def Tryz.w2o:Goroutine:=(stepE Tryz.prog 164 m (Tryz.w2n b m c cs x) undef undef).get (Tryz.w2n b m c cs x)
theorem Tryz.w2o_c:calmB Tryz.prog 164 m 10 (Tryz.w2o b m c cs x)=some []:=by kernel_rfl
theorem Tryz.w2o_e:calmG Tryz.prog 164 m 10 (Tryz.w2o b m c cs x)=Rf (c.finish (.tuple #[])) cs:=by kernel_rfl
end
end Go.Proofs
