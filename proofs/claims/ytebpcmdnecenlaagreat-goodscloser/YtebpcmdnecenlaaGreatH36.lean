/- A part of the proof: lemmas that the last text uses. No conditions of its own. -/
import Derived.Test.YtebpcmdnecenlaaGreatH31
set_option linter.unusedSimpArgs false
set_option linter.unusedVariables false
namespace Go.Proofs
open Go.TM
open Go.Conc (QuitsD)
section
variable (b:Nat) (m:Bool) (c:Frame) (cs:List Frame) (x:Nat->Value)
set_option maxRecDepth 100000
theorem Tryz.w5l:(stepE Tryz.prog 164 m (Tryz.wl b m c cs x) (stV 5 0) (smV 0)).info=some (stV 5 0,smV 0,#[evR b 0],[(b,true)]):=by kernel_rfl
noncomputable def Tryz.w5a:Goroutine:=(stepE Tryz.prog 164 m (Tryz.wl b m c cs x) (stV 5 0) (smV 0)).get (Tryz.wl b m c cs x)
theorem Tryz.w5a_c:calmB Tryz.prog 164 m 48 (Tryz.w5a b m c cs x)=some []:=by kernel_rfl
noncomputable def Tryz.w5b:Goroutine:=calmG Tryz.prog 164 m 48 (Tryz.w5a b m c cs x)
theorem Tryz.w5b_0:(stepE Tryz.prog 164 m (Tryz.w5b b m c cs x) (stV 0 0) (smV 0)).info=some (stV 0 0,smV 0,#[evR b 0],[(b,true),(b,false),(b,false)]):=by kernel_rfl
noncomputable def Tryz.w5f:Goroutine:=(stepE Tryz.prog 164 m (Tryz.w5b b m c cs x) (stV 0 0) (smV 0)).get (Tryz.w5b b m c cs x)
theorem Tryz.w5b_1:(stepE Tryz.prog 164 m (Tryz.w5b b m c cs x) (stV 1 0) (smV 0)).info=some (stV 1 0,smV 0,#[evR b 0],[(b,true),(b,false),(b,false)]):=by kernel_rfl
theorem Tryz.w5b_1e:(stepE Tryz.prog 164 m (Tryz.w5b b m c cs x) (stV 1 0) (smV 0)).get (Tryz.w5b b m c cs x)=Tryz.w5f b m c cs x:=by kernel_rfl
theorem Tryz.w5b_2:(stepE Tryz.prog 164 m (Tryz.w5b b m c cs x) (stV 2 0) (smV 0)).info=some (stV 2 0,smV 0,#[evR b 0],[(b,true),(b,false),(b,false)]):=by kernel_rfl
theorem Tryz.w5b_2e:(stepE Tryz.prog 164 m (Tryz.w5b b m c cs x) (stV 2 0) (smV 0)).get (Tryz.w5b b m c cs x)=Tryz.w5f b m c cs x:=by kernel_rfl
theorem Tryz.w5b_3:(stepE Tryz.prog 164 m (Tryz.w5b b m c cs x) (stV 3 0) (smV 0)).info=some (stV 3 0,smV 0,#[evR b 0],[(b,true),(b,false),(b,false)]):=by kernel_rfl
theorem Tryz.w5b_3e:(stepE Tryz.prog 164 m (Tryz.w5b b m c cs x) (stV 3 0) (smV 0)).get (Tryz.w5b b m c cs x)=Tryz.w5f b m c cs x:=by kernel_rfl
theorem Tryz.w5b_4:(stepE Tryz.prog 164 m (Tryz.w5b b m c cs x) (stV 4 0) (smV 0)).info=some (stV 4 0,smV 0,#[evR b 0],[(b,true),(b,false),(b,false)]):=by kernel_rfl
theorem Tryz.w5b_4e:(stepE Tryz.prog 164 m (Tryz.w5b b m c cs x) (stV 4 0) (smV 0)).get (Tryz.w5b b m c cs x)=Tryz.w5f b m c cs x:=by kernel_rfl
theorem Tryz.w5f_c:calmB Tryz.prog 164 m 25 (Tryz.w5f b m c cs x)=some []:=by kernel_rfl
theorem Tryz.w5f_e:calmG Tryz.prog 164 m 25 (Tryz.w5f b m c cs x)=Tryz.wl b m c cs (λ i=>(tmpsOf (calmG Tryz.prog 164 m 25 (Tryz.w5f b m c cs x))).getD i undef):=by kernel_rfl
theorem Tryz.w5b_i:(stepE Tryz.prog 164 m (Tryz.w5b b m c cs x) (stV 5 0) (smV 0)).info=some (stV 5 1,smV 0,#[evR b 0,evW b 0],[(b,true),(b,true),(b,false),(b,false)]):=by kernel_rfl
noncomputable def Tryz.w5c:Goroutine:=(stepE Tryz.prog 164 m (Tryz.w5b b m c cs x) (stV 5 0) (smV 0)).get (Tryz.w5b b m c cs x)
theorem Tryz.w5c_c:calmB Tryz.prog 164 m 20 (Tryz.w5c b m c cs x)=some [(b,false),(b,false)]:=by kernel_rfl
noncomputable def Tryz.w5d:Goroutine:=calmG Tryz.prog 164 m 20 (Tryz.w5c b m c cs x)
theorem Tryz.w5d_i:(stepE Tryz.prog 164 m (Tryz.w5d b m c cs x) undef undef).info=some (undef,undef,#[evM (bif true then .write ⟨b,1,none⟩ else .read ⟨b,1,none⟩)],[]):=by kernel_rfl
noncomputable def Tryz.w5e:Goroutine:=(stepE Tryz.prog 164 m (Tryz.w5d b m c cs x) undef undef).get (Tryz.w5d b m c cs x)
theorem Tryz.w5e_c:calmB Tryz.prog 164 m 23 (Tryz.w5e b m c cs x)=some []:=by kernel_rfl
noncomputable def Tryz.w5g:Goroutine:=calmG Tryz.prog 164 m 23 (Tryz.w5e b m c cs x)
theorem Tryz.w5g_o:(Tryz.w5g b m c cs x).offers=none:=by kernel_rfl
theorem Tryz.w5g_r:(Tryz.w5g b m c cs x).status=.running:=by kernel_rfl
theorem Tryz.w5g_b (st:Value):stepE Tryz.prog 164 m (Tryz.w5g b m c cs x) st (smV 0)=.blocked { Tryz.w5g b m c cs x with status:=.blocked } st (smV 0) [(b,true)]:=by kernel_rfl
theorem Tryz.w5g_i:(stepE Tryz.prog 164 m (Tryz.w5g b m c cs x) (stV 0 0) (smV 1)).info=some (stV 0 0,smV 0,#[evM .disable,evR b 1,evW b 1,evM .enable],[(b,true),(b,true)]):=by kernel_rfl
noncomputable def Tryz.w5h:Goroutine:=(stepE Tryz.prog 164 m (Tryz.w5g b m c cs x) (stV 0 0) (smV 1)).get (Tryz.w5g b m c cs x)
theorem Tryz.w5h_c:calmB Tryz.prog 164 m 16 (Tryz.w5h b m c cs x)=some []:=by kernel_rfl
noncomputable def Tryz.w5i:Goroutine:=calmG Tryz.prog 164 m 16 (Tryz.w5h b m c cs x)
theorem Tryz.w5i_i:(stepE Tryz.prog 164 m (Tryz.w5i b m c cs x) (stV 0 0) (smV 0)).info=some (stV 0 0,smV 0,#[evR b 0],[(b,true)]):=by kernel_rfl
noncomputable def Tryz.w5j:Goroutine:=(stepE Tryz.prog 164 m (Tryz.w5i b m c cs x) (stV 0 0) (smV 0)).get (Tryz.w5i b m c cs x)
theorem Tryz.w5j_c:calmB Tryz.prog 164 m 11 (Tryz.w5j b m c cs x)=some []:=by kernel_rfl
noncomputable def Tryz.w5k:Goroutine:=calmG Tryz.prog 164 m 11 (Tryz.w5j b m c cs x)
theorem Tryz.w5k_i:(stepE Tryz.prog 164 m (Tryz.w5k b m c cs x) undef undef).info=some (undef,undef,#[evM .enable],[]):=by kernel_rfl
noncomputable def Tryz.w5m:Goroutine:=(stepE Tryz.prog 164 m (Tryz.w5k b m c cs x) undef undef).get (Tryz.w5k b m c cs x)
theorem Tryz.w5m_c:calmB Tryz.prog 164 m 4 (Tryz.w5m b m c cs x)=some [(b,false),(b,false)]:=by kernel_rfl
noncomputable def Tryz.w5n:Goroutine:=calmG Tryz.prog 164 m 4 (Tryz.w5m b m c cs x)
theorem Tryz.w5n_i:(stepE Tryz.prog 164 m (Tryz.w5n b m c cs x) undef undef).info=some (undef,undef,#[evM (.acquire ⟨b,0,none⟩)],[]):=by kernel_rfl
noncomputable def Tryz.w5o:Goroutine:=(stepE Tryz.prog 164 m (Tryz.w5n b m c cs x) undef undef).get (Tryz.w5n b m c cs x)
theorem Tryz.w5o_c:calmB Tryz.prog 164 m 10 (Tryz.w5o b m c cs x)=some []:=by kernel_rfl
theorem Tryz.w5o_e:calmG Tryz.prog 164 m 10 (Tryz.w5o b m c cs x)=Rf (c.finish (.tuple #[])) cs:=by kernel_rfl
end
end Go.Proofs
