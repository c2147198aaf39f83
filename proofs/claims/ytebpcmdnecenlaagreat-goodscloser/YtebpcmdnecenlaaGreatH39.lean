/- A part of the proof: lemmas that the last text uses. No conditions of its own. -/
import Derived.Test.YtebpcmdnecenlaaGreatH31
set_option linter.unusedSimpArgs false
set_option linter.unusedVariables false
namespace Go.Proofs
open Go.TM
open Go.Conc (QuitsD)
section
variable (b:Nat) (m:Bool) (c:Frame) (cs:List Frame) (x:Nat->Value)
set_option maxRecDepth 100000
theorem Tryz.w8l:(stepE Tryz.prog 164 m (Tryz.wl b m c cs x) (stV 8 0) (smV 0)).info=some (stV 8 0,smV 0,#[evR b 0],[(b,true)]):=by kernel_rfl
noncomputable def Tryz.w8a:Goroutine:=(stepE Tryz.prog 164 m (Tryz.wl b m c cs x) (stV 8 0) (smV 0)).get (Tryz.wl b m c cs x)
theorem Tryz.w8a_c:calmB Tryz.prog 164 m 48 (Tryz.w8a b m c cs x)=some []:=by kernel_rfl
noncomputable def Tryz.w8b:Goroutine:=calmG Tryz.prog 164 m 48 (Tryz.w8a b m c cs x)
theorem Tryz.w8b_0:(stepE Tryz.prog 164 m (Tryz.w8b b m c cs x) (stV 0 0) (smV 0)).info=some (stV 0 0,smV 0,#[evR b 0],[(b,true),(b,false),(b,false)]):=by kernel_rfl
noncomputable def Tryz.w8f:Goroutine:=(stepE Tryz.prog 164 m (Tryz.w8b b m c cs x) (stV 0 0) (smV 0)).get (Tryz.w8b b m c cs x)
theorem Tryz.w8b_1:(stepE Tryz.prog 164 m (Tryz.w8b b m c cs x) (stV 1 0) (smV 0)).info=some (stV 1 0,smV 0,#[evR b 0],[(b,true),(b,false),(b,false)]):=by kernel_rfl
theorem Tryz.w8b_1e:(stepE Tryz.prog 164 m (Tryz.w8b b m c cs x) (stV 1 0) (smV 0)).get (Tryz.w8b b m c cs x)=Tryz.w8f b m c cs x:=by kernel_rfl
theorem Tryz.w8b_2:(stepE Tryz.prog 164 m (Tryz.w8b b m c cs x) (stV 2 0) (smV 0)).info=some (stV 2 0,smV 0,#[evR b 0],[(b,true),(b,false),(b,false)]):=by kernel_rfl
theorem Tryz.w8b_2e:(stepE Tryz.prog 164 m (Tryz.w8b b m c cs x) (stV 2 0) (smV 0)).get (Tryz.w8b b m c cs x)=Tryz.w8f b m c cs x:=by kernel_rfl
theorem Tryz.w8b_3:(stepE Tryz.prog 164 m (Tryz.w8b b m c cs x) (stV 3 0) (smV 0)).info=some (stV 3 0,smV 0,#[evR b 0],[(b,true),(b,false),(b,false)]):=by kernel_rfl
theorem Tryz.w8b_3e:(stepE Tryz.prog 164 m (Tryz.w8b b m c cs x) (stV 3 0) (smV 0)).get (Tryz.w8b b m c cs x)=Tryz.w8f b m c cs x:=by kernel_rfl
theorem Tryz.w8b_4:(stepE Tryz.prog 164 m (Tryz.w8b b m c cs x) (stV 4 0) (smV 0)).info=some (stV 4 0,smV 0,#[evR b 0],[(b,true),(b,false),(b,false)]):=by kernel_rfl
theorem Tryz.w8b_4e:(stepE Tryz.prog 164 m (Tryz.w8b b m c cs x) (stV 4 0) (smV 0)).get (Tryz.w8b b m c cs x)=Tryz.w8f b m c cs x:=by kernel_rfl
theorem Tryz.w8b_5:(stepE Tryz.prog 164 m (Tryz.w8b b m c cs x) (stV 5 0) (smV 0)).info=some (stV 5 0,smV 0,#[evR b 0],[(b,true),(b,false),(b,false)]):=by kernel_rfl
theorem Tryz.w8b_5e:(stepE Tryz.prog 164 m (Tryz.w8b b m c cs x) (stV 5 0) (smV 0)).get (Tryz.w8b b m c cs x)=Tryz.w8f b m c cs x:=by kernel_rfl
theorem Tryz.w8b_6:(stepE Tryz.prog 164 m (Tryz.w8b b m c cs x) (stV 6 0) (smV 0)).info=some (stV 6 0,smV 0,#[evR b 0],[(b,true),(b,false),(b,false)]):=by kernel_rfl
theorem Tryz.w8b_6e:(stepE Tryz.prog 164 m (Tryz.w8b b m c cs x) (stV 6 0) (smV 0)).get (Tryz.w8b b m c cs x)=Tryz.w8f b m c cs x:=by kernel_rfl
theorem Tryz.w8b_7:(stepE Tryz.prog 164 m (Tryz.w8b b m c cs x) (stV 7 0) (smV 0)).info=some (stV 7 0,smV 0,#[evR b 0],[(b,true),(b,false),(b,false)]):=by kernel_rfl
theorem Tryz.w8b_7e:(stepE Tryz.prog 164 m (Tryz.w8b b m c cs x) (stV 7 0) (smV 0)).get (Tryz.w8b b m c cs x)=Tryz.w8f b m c cs x:=by kernel_rfl
theorem Tryz.w8f_c:calmB Tryz.prog 164 m 25 (Tryz.w8f b m c cs x)=some []:=by kernel_rfl
theorem Tryz.w8f_e:calmG Tryz.prog 164 m 25 (Tryz.w8f b m c cs x)=Tryz.wl b m c cs (λ i=>(tmpsOf (calmG Tryz.prog 164 m 25 (Tryz.w8f b m c cs x))).getD i undef):=by kernel_rfl
theorem Tryz.w8b_i:(stepE Tryz.prog 164 m (Tryz.w8b b m c cs x) (stV 8 0) (smV 0)).info=some (stV 8 1,smV 0,#[evR b 0,evW b 0],[(b,true),(b,true),(b,false),(b,false)]):=by kernel_rfl
noncomputable def Tryz.w8c:Goroutine:=(stepE Tryz.prog 164 m (Tryz.w8b b m c cs x) (stV 8 0) (smV 0)).get (Tryz.w8b b m c cs x)
theorem Tryz.w8c_c:calmB Tryz.prog 164 m 20 (Tryz.w8c b m c cs x)=some [(b,false),(b,false)]:=by kernel_rfl
noncomputable def Tryz.w8d:Goroutine:=calmG Tryz.prog 164 m 20 (Tryz.w8c b m c cs x)
theorem Tryz.w8d_i:(stepE Tryz.prog 164 m (Tryz.w8d b m c cs x) undef undef).info=some (undef,undef,#[evM (bif true then .write ⟨b,1,none⟩ else .read ⟨b,1,none⟩)],[]):=by kernel_rfl
noncomputable def Tryz.w8e:Goroutine:=(stepE Tryz.prog 164 m (Tryz.w8d b m c cs x) undef undef).get (Tryz.w8d b m c cs x)
theorem Tryz.w8e_c:calmB Tryz.prog 164 m 23 (Tryz.w8e b m c cs x)=some []:=by kernel_rfl
noncomputable def Tryz.w8g:Goroutine:=calmG Tryz.prog 164 m 23 (Tryz.w8e b m c cs x)
theorem Tryz.w8g_o:(Tryz.w8g b m c cs x).offers=none:=by kernel_rfl
theorem Tryz.w8g_r:(Tryz.w8g b m c cs x).status=.running:=by kernel_rfl
theorem Tryz.w8g_b (st:Value):stepE Tryz.prog 164 m (Tryz.w8g b m c cs x) st (smV 0)=.blocked { Tryz.w8g b m c cs x with status:=.blocked } st (smV 0) [(b,true)]:=by kernel_rfl
theorem Tryz.w8g_i:(stepE Tryz.prog 164 m (Tryz.w8g b m c cs x) (stV 0 0) (smV 1)).info=some (stV 0 0,smV 0,#[evM .disable,evR b 1,evW b 1,evM .enable],[(b,true),(b,true)]):=by kernel_rfl
noncomputable def Tryz.w8h:Goroutine:=(stepE Tryz.prog 164 m (Tryz.w8g b m c cs x) (stV 0 0) (smV 1)).get (Tryz.w8g b m c cs x)
theorem Tryz.w8h_c:calmB Tryz.prog 164 m 16 (Tryz.w8h b m c cs x)=some []:=by kernel_rfl
noncomputable def Tryz.w8i:Goroutine:=calmG Tryz.prog 164 m 16 (Tryz.w8h b m c cs x)
theorem Tryz.w8i_i:(stepE Tryz.prog 164 m (Tryz.w8i b m c cs x) (stV 0 0) (smV 0)).info=some (stV 0 0,smV 0,#[evR b 0],[(b,true)]):=by kernel_rfl
noncomputable def Tryz.w8j:Goroutine:=(stepE Tryz.prog 164 m (Tryz.w8i b m c cs x) (stV 0 0) (smV 0)).get (Tryz.w8i b m c cs x)
theorem Tryz.w8j_c:calmB Tryz.prog 164 m 11 (Tryz.w8j b m c cs x)=some []:=by kernel_rfl
noncomputable def Tryz.w8k:Goroutine:=calmG Tryz.prog 164 m 11 (Tryz.w8j b m c cs x)
theorem Tryz.w8k_i:(stepE Tryz.prog 164 m (Tryz.w8k b m c cs x) undef undef).info=some (undef,undef,#[evM .enable],[]):=by kernel_rfl
noncomputable def Tryz.w8m:Goroutine:=(stepE Tryz.prog 164 m (Tryz.w8k b m c cs x) undef undef).get (Tryz.w8k b m c cs x)
theorem Tryz.w8m_c:calmB Tryz.prog 164 m 4 (Tryz.w8m b m c cs x)=some [(b,false),(b,false)]:=by kernel_rfl
noncomputable def Tryz.w8n:Goroutine:=calmG Tryz.prog 164 m 4 (Tryz.w8m b m c cs x)
theorem Tryz.w8n_i:(stepE Tryz.prog 164 m (Tryz.w8n b m c cs x) undef undef).info=some (undef,undef,#[evM (.acquire ⟨b,0,none⟩)],[]):=by kernel_rfl
noncomputable def Tryz.w8o:Goroutine:=(stepE Tryz.prog 164 m (Tryz.w8n b m c cs x) undef undef).get (Tryz.w8n b m c cs x)
theorem Tryz.w8o_c:calmB Tryz.prog 164 m 10 (Tryz.w8o b m c cs x)=some []:=by kernel_rfl
theorem Tryz.w8o_e:calmG Tryz.prog 164 m 10 (Tryz.w8o b m c cs x)=Rf (c.finish (.tuple #[])) cs:=by kernel_rfl
end
end Go.Proofs
