/- A part of the proof: lemmas that the last text uses. No conditions of its own. -/
import Derived.Test.YtebpcmdnecenlaaGreatH31
set_option linter.unusedSimpArgs false
set_option linter.unusedVariables false
namespace Go.Proofs
open Go.TM
open Go.Conc (QuitsD)
section
variable (b:Nat) (m:Bool) (c:Frame) (cs:List Frame) (x:Nat->Value)
set_option maxRecDepth 100000
theorem Tryz.w6l:(stepE Tryz.prog 164 m (Tryz.wl b m c cs x) (stV 6 0) (smV 0)).info=some (stV 6 0,smV 0,#[evR b 0],[(b,true)]):=by kernel_rfl
noncomputable def Tryz.w6a:Goroutine:=(stepE Tryz.prog 164 m (Tryz.wl b m c cs x) (stV 6 0) (smV 0)).get (Tryz.wl b m c cs x)
theorem Tryz.w6a_c:calmB Tryz.prog 164 m 48 (Tryz.w6a b m c cs x)=some []:=by kernel_rfl
noncomputable def Tryz.w6b:Goroutine:=calmG Tryz.prog 164 m 48 (Tryz.w6a b m c cs x)
theorem Tryz.w6b_0:(stepE Tryz.prog 164 m (Tryz.w6b b m c cs x) (stV 0 0) (smV 0)).info=some (stV 0 0,smV 0,#[evR b 0],[(b,true),(b,false),(b,false)]):=by kernel_rfl
noncomputable def Tryz.w6f:Goroutine:=(stepE Tryz.prog 164 m (Tryz.w6b b m c cs x) (stV 0 0) (smV 0)).get (Tryz.w6b b m c cs x)
theorem Tryz.w6b_1:(stepE Tryz.prog 164 m (Tryz.w6b b m c cs x) (stV 1 0) (smV 0)).info=some (stV 1 0,smV 0,#[evR b 0],[(b,true),(b,false),(b,false)]):=by kernel_rfl
theorem Tryz.w6b_1e:(stepE Tryz.prog 164 m (Tryz.w6b b m c cs x) (stV 1 0) (smV 0)).get (Tryz.w6b b m c cs x)=Tryz.w6f b m c cs x:=by kernel_rfl
theorem Tryz.w6b_2:(stepE Tryz.prog 164 m (Tryz.w6b b m c cs x) (stV 2 0) (smV 0)).info=some (stV 2 0,smV 0,#[evR b 0],[(b,true),(b,false),(b,false)]):=by kernel_rfl
theorem Tryz.w6b_2e:(stepE Tryz.prog 164 m (Tryz.w6b b m c cs x) (stV 2 0) (smV 0)).get (Tryz.w6b b m c cs x)=Tryz.w6f b m c cs x:=by kernel_rfl
theorem Tryz.w6b_3:(stepE Tryz.prog 164 m (Tryz.w6b b m c cs x) (stV 3 0) (smV 0)).info=some (stV 3 0,smV 0,#[evR b 0],[(b,true),(b,false),(b,false)]):=by kernel_rfl
theorem Tryz.w6b_3e:(stepE Tryz.prog 164 m (Tryz.w6b b m c cs x) (stV 3 0) (smV 0)).get (Tryz.w6b b m c cs x)=Tryz.w6f b m c cs x:=by kernel_rfl
theorem Tryz.w6b_4:(stepE Tryz.prog 164 m (Tryz.w6b b m c cs x) (stV 4 0) (smV 0)).info=some (stV 4 0,smV 0,#[evR b 0],[(b,true),(b,false),(b,false)]):=by kernel_rfl
theorem Tryz.w6b_4e:(stepE Tryz.prog 164 m (Tryz.w6b b m c cs x) (stV 4 0) (smV 0)).get (Tryz.w6b b m c cs x)=Tryz.w6f b m c cs x:=by kernel_rfl
theorem Tryz.w6b_5:(stepE Tryz.prog 164 m (Tryz.w6b b m c cs x) (stV 5 0) (smV 0)).info=some (stV 5 0,smV 0,#[evR b 0],[(b,true),(b,false),(b,false)]):=by kernel_rfl
theorem Tryz.w6b_5e:(stepE Tryz.prog 164 m (Tryz.w6b b m c cs x) (stV 5 0) (smV 0)).get (Tryz.w6b b m c cs x)=Tryz.w6f b m c cs x:=by kernel_rfl
theorem Tryz.w6f_c:calmB Tryz.prog 164 m 25 (Tryz.w6f b m c cs x)=some []:=by kernel_rfl
theorem Tryz.w6f_e:calmG Tryz.prog 164 m 25 (Tryz.w6f b m c cs x)=Tryz.wl b m c cs (λ i=>(tmpsOf (calmG Tryz.prog 164 m 25 (Tryz.w6f b m c cs x))).getD i undef):=by kernel_rfl
theorem Tryz.w6b_i:(stepE Tryz.prog 164 m (Tryz.w6b b m c cs x) (stV 6 0) (smV 0)).info=some (stV 6 1,smV 0,#[evR b 0,evW b 0],[(b,true),(b,true),(b,false),(b,false)]):=by kernel_rfl
noncomputable def Tryz.w6c:Goroutine:=(stepE Tryz.prog 164 m (Tryz.w6b b m c cs x) (stV 6 0) (smV 0)).get (Tryz.w6b b m c cs x)
theorem Tryz.w6c_c:calmB Tryz.prog 164 m 20 (Tryz.w6c b m c cs x)=some [(b,false),(b,false)]:=by kernel_rfl
noncomputable def Tryz.w6d:Goroutine:=calmG Tryz.prog 164 m 20 (Tryz.w6c b m c cs x)
theorem Tryz.w6d_i:(stepE Tryz.prog 164 m (Tryz.w6d b m c cs x) undef undef).info=some (undef,undef,#[evM (bif true then .write ⟨b,1,none⟩ else .read ⟨b,1,none⟩)],[]):=by kernel_rfl
noncomputable def Tryz.w6e:Goroutine:=(stepE Tryz.prog 164 m (Tryz.w6d b m c cs x) undef undef).get (Tryz.w6d b m c cs x)
theorem Tryz.w6e_c:calmB Tryz.prog 164 m 23 (Tryz.w6e b m c cs x)=some []:=by kernel_rfl
noncomputable def Tryz.w6g:Goroutine:=calmG Tryz.prog 164 m 23 (Tryz.w6e b m c cs x)
theorem Tryz.w6g_o:(Tryz.w6g b m c cs x).offers=none:=by kernel_rfl
theorem Tryz.w6g_r:(Tryz.w6g b m c cs x).status=.running:=by kernel_rfl
theorem Tryz.w6g_b (st:Value):stepE Tryz.prog 164 m (Tryz.w6g b m c cs x) st (smV 0)=.blocked { Tryz.w6g b m c cs x with status:=.blocked } st (smV 0) [(b,true)]:=by kernel_rfl
theorem Tryz.w6g_i:(stepE Tryz.prog 164 m (Tryz.w6g b m c cs x) (stV 0 0) (smV 1)).info=some (stV 0 0,smV 0,#[evM .disable,evR b 1,evW b 1,evM .enable],[(b,true),(b,true)]):=by kernel_rfl
noncomputable def Tryz.w6h:Goroutine:=(stepE Tryz.prog 164 m (Tryz.w6g b m c cs x) (stV 0 0) (smV 1)).get (Tryz.w6g b m c cs x)
theorem Tryz.w6h_c:calmB Tryz.prog 164 m 16 (Tryz.w6h b m c cs x)=some []:=by kernel_rfl
noncomputable def Tryz.w6i:Goroutine:=calmG Tryz.prog 164 m 16 (Tryz.w6h b m c cs x)
theorem Tryz.w6i_i:(stepE Tryz.prog 164 m (Tryz.w6i b m c cs x) (stV 0 0) (smV 0)).info=some (stV 0 0,smV 0,#[evR b 0],[(b,true)]):=by kernel_rfl
noncomputable def Tryz.w6j:Goroutine:=(stepE Tryz.prog 164 m (Tryz.w6i b m c cs x) (stV 0 0) (smV 0)).get (Tryz.w6i b m c cs x)
theorem Tryz.w6j_c:calmB Tryz.prog 164 m 11 (Tryz.w6j b m c cs x)=some []:=by kernel_rfl
noncomputable def Tryz.w6k:Goroutine:=calmG Tryz.prog 164 m 11 (Tryz.w6j b m c cs x)
theorem Tryz.w6k_i:(stepE Tryz.prog 164 m (Tryz.w6k b m c cs x) undef undef).info=some (undef,undef,#[evM .enable],[]):=by kernel_rfl
noncomputable def Tryz.w6m:Goroutine:=(stepE Tryz.prog 164 m (Tryz.w6k b m c cs x) undef undef).get (Tryz.w6k b m c cs x)
theorem Tryz.w6m_c:calmB Tryz.prog 164 m 4 (Tryz.w6m b m c cs x)=some [(b,false),(b,false)]:=by kernel_rfl
noncomputable def Tryz.w6n:Goroutine:=calmG Tryz.prog 164 m 4 (Tryz.w6m b m c cs x)
theorem Tryz.w6n_i:(stepE Tryz.prog 164 m (Tryz.w6n b m c cs x) undef undef).info=some (undef,undef,#[evM (.acquire ⟨b,0,none⟩)],[]):=by kernel_rfl
noncomputable def Tryz.w6o:Goroutine:=(stepE Tryz.prog 164 m (Tryz.w6n b m c cs x) undef undef).get (Tryz.w6n b m c cs x)
theorem Tryz.w6o_c:calmB Tryz.prog 164 m 10 (Tryz.w6o b m c cs x)=some []:=by kernel_rfl
theorem Tryz.w6o_e:calmG Tryz.prog 164 m 10 (Tryz.w6o b m c cs x)=Rf (c.finish (.tuple #[])) cs:=by kernel_rfl
end
end Go.Proofs
