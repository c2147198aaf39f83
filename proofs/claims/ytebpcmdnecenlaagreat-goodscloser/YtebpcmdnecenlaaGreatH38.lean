/- A part of the proof: lemmas that the last text uses. No conditions of its own. -/
import Derived.Test.YtebpcmdnecenlaaGreatH31
set_option linter.unusedSimpArgs false
set_option linter.unusedVariables false
namespace Go.Proofs
open Go.TM
open Go.Conc (QuitsD)
section
variable (b:Nat) (m:Bool) (c:Frame) (cs:List Frame) (x:Nat->Value)
set_option maxRecDepth 100000
theorem Tryz.w7l:(stepE Tryz.prog 164 m (Tryz.wl b m c cs x) (stV 7 0) (smV 0)).info=some (stV 7 0,smV 0,#[evR b 0],[(b,true)]):=by kernel_rfl
noncomputable def Tryz.w7a:Goroutine:=(stepE Tryz.prog 164 m (Tryz.wl b m c cs x) (stV 7 0) (smV 0)).get (Tryz.wl b m c cs x)
theorem Tryz.w7a_c:calmB Tryz.prog 164 m 48 (Tryz.w7a b m c cs x)=some []:=by kernel_rfl
noncomputable def Tryz.w7b:Goroutine:=calmG Tryz.prog 164 m 48 (Tryz.w7a b m c cs x)
theorem Tryz.w7b_0:(stepE Tryz.prog 164 m (Tryz.w7b b m c cs x) (stV 0 0) (smV 0)).info=some (stV 0 0,smV 0,#[evR b 0],[(b,true),(b,false),(b,false)]):=by kernel_rfl
noncomputable def Tryz.w7f:Goroutine:=(stepE Tryz.prog 164 m (Tryz.w7b b m c cs x) (stV 0 0) (smV 0)).get (Tryz.w7b b m c cs x)
theorem Tryz.w7b_1:(stepE Tryz.prog 164 m (Tryz.w7b b m c cs x) (stV 1 0) (smV 0)).info=some (stV 1 0,smV 0,#[evR b 0],[(b,true),(b,false),(b,false)]):=by kernel_rfl
theorem Tryz.w7b_1e:(stepE Tryz.prog 164 m (Tryz.w7b b m c cs x) (stV 1 0) (smV 0)).get (Tryz.w7b b m c cs x)=Tryz.w7f b m c cs x:=by kernel_rfl
theorem Tryz.w7b_2:(stepE Tryz.prog 164 m (Tryz.w7b b m c cs x) (stV 2 0) (smV 0)).info=some (stV 2 0,smV 0,#[evR b 0],[(b,true),(b,false),(b,false)]):=by kernel_rfl
theorem Tryz.w7b_2e:(stepE Tryz.prog 164 m (Tryz.w7b b m c cs x) (stV 2 0) (smV 0)).get (Tryz.w7b b m c cs x)=Tryz.w7f b m c cs x:=by kernel_rfl
theorem Tryz.w7b_3:(stepE Tryz.prog 164 m (Tryz.w7b b m c cs x) (stV 3 0) (smV 0)).info=some (stV 3 0,smV 0,#[evR b 0],[(b,true),(b,false),(b,false)]):=by kernel_rfl
theorem Tryz.w7b_3e:(stepE Tryz.prog 164 m (Tryz.w7b b m c cs x) (stV 3 0) (smV 0)).get (Tryz.w7b b m c cs x)=Tryz.w7f b m c cs x:=by kernel_rfl
theorem Tryz.w7b_4:(stepE Tryz.prog 164 m (Tryz.w7b b m c cs x) (stV 4 0) (smV 0)).info=some (stV 4 0,smV 0,#[evR b 0],[(b,true),(b,false),(b,false)]):=by kernel_rfl
theorem Tryz.w7b_4e:(stepE Tryz.prog 164 m (Tryz.w7b b m c cs x) (stV 4 0) (smV 0)).get (Tryz.w7b b m c cs x)=Tryz.w7f b m c cs x:=by kernel_rfl
theorem Tryz.w7b_5:(stepE Tryz.prog 164 m (Tryz.w7b b m c cs x) (stV 5 0) (smV 0)).info=some (stV 5 0,smV 0,#[evR b 0],[(b,true),(b,false),(b,false)]):=by kernel_rfl
theorem Tryz.w7b_5e:(stepE Tryz.prog 164 m (Tryz.w7b b m c cs x) (stV 5 0) (smV 0)).get (Tryz.w7b b m c cs x)=Tryz.w7f b m c cs x:=by kernel_rfl
theorem Tryz.w7b_6:(stepE Tryz.prog 164 m (Tryz.w7b b m c cs x) (stV 6 0) (smV 0)).info=some (stV 6 0,smV 0,#[evR b 0],[(b,true),(b,false),(b,false)]):=by kernel_rfl
theorem Tryz.w7b_6e:(stepE Tryz.prog 164 m (Tryz.w7b b m c cs x) (stV 6 0) (smV 0)).get (Tryz.w7b b m c cs x)=Tryz.w7f b m c cs x:=by kernel_rfl
theorem Tryz.w7f_c:calmB Tryz.prog 164 m 25 (Tryz.w7f b m c cs x)=some []:=by kernel_rfl
theorem Tryz.w7f_e:calmG Tryz.prog 164 m 25 (Tryz.w7f b m c cs x)=Tryz.wl b m c cs (λ i=>(tmpsOf (calmG Tryz.prog 164 m 25 (Tryz.w7f b m c cs x))).getD i undef):=by kernel_rfl
theorem Tryz.w7b_i:(stepE Tryz.prog 164 m (Tryz.w7b b m c cs x) (stV 7 0) (smV 0)).info=some (stV 7 1,smV 0,#[evR b 0,evW b 0],[(b,true),(b,true),(b,false),(b,false)]):=by kernel_rfl
noncomputable def Tryz.w7c:Goroutine:=(stepE Tryz.prog 164 m (Tryz.w7b b m c cs x) (stV 7 0) (smV 0)).get (Tryz.w7b b m c cs x)
theorem Tryz.w7c_c:calmB Tryz.prog 164 m 20 (Tryz.w7c b m c cs x)=some [(b,false),(b,false)]:=by kernel_rfl
noncomputable def Tryz.w7d:Goroutine:=calmG Tryz.prog 164 m 20 (Tryz.w7c b m c cs x)
theorem Tryz.w7d_i:(stepE Tryz.prog 164 m (Tryz.w7d b m c cs x) undef undef).info=some (undef,undef,#[evM (bif true then .write ⟨b,1,none⟩ else .read ⟨b,1,none⟩)],[]):=by kernel_rfl
noncomputable def Tryz.w7e:Goroutine:=(stepE Tryz.prog 164 m (Tryz.w7d b m c cs x) undef undef).get (Tryz.w7d b m c cs x)
theorem Tryz.w7e_c:calmB Tryz.prog 164 m 23 (Tryz.w7e b m c cs x)=some []:=by kernel_rfl
noncomputable def Tryz.w7g:Goroutine:=calmG Tryz.prog 164 m 23 (Tryz.w7e b m c cs x)
theorem Tryz.w7g_o:(Tryz.w7g b m c cs x).offers=none:=by kernel_rfl
theorem Tryz.w7g_r:(Tryz.w7g b m c cs x).status=.running:=by kernel_rfl
theorem Tryz.w7g_b (st:Value):stepE Tryz.prog 164 m (Tryz.w7g b m c cs x) st (smV 0)=.blocked { Tryz.w7g b m c cs x with status:=.blocked } st (smV 0) [(b,true)]:=by kernel_rfl
theorem Tryz.w7g_i:(stepE Tryz.prog 164 m (Tryz.w7g b m c cs x) (stV 0 0) (smV 1)).info=some (stV 0 0,smV 0,#[evM .disable,evR b 1,evW b 1,evM .enable],[(b,true),(b,true)]):=by kernel_rfl
noncomputable def Tryz.w7h:Goroutine:=(stepE Tryz.prog 164 m (Tryz.w7g b m c cs x) (stV 0 0) (smV 1)).get (Tryz.w7g b m c cs x)
theorem Tryz.w7h_c:calmB Tryz.prog 164 m 16 (Tryz.w7h b m c cs x)=some []:=by kernel_rfl
noncomputable def Tryz.w7i:Goroutine:=calmG Tryz.prog 164 m 16 (Tryz.w7h b m c cs x)
theorem Tryz.w7i_i:(stepE Tryz.prog 164 m (Tryz.w7i b m c cs x) (stV 0 0) (smV 0)).info=some (stV 0 0,smV 0,#[evR b 0],[(b,true)]):=by kernel_rfl
noncomputable def Tryz.w7j:Goroutine:=(stepE Tryz.prog 164 m (Tryz.w7i b m c cs x) (stV 0 0) (smV 0)).get (Tryz.w7i b m c cs x)
theorem Tryz.w7j_c:calmB Tryz.prog 164 m 11 (Tryz.w7j b m c cs x)=some []:=by kernel_rfl
noncomputable def Tryz.w7k:Goroutine:=calmG Tryz.prog 164 m 11 (Tryz.w7j b m c cs x)
theorem Tryz.w7k_i:(stepE Tryz.prog 164 m (Tryz.w7k b m c cs x) undef undef).info=some (undef,undef,#[evM .enable],[]):=by kernel_rfl
noncomputable def Tryz.w7m:Goroutine:=(stepE Tryz.prog 164 m (Tryz.w7k b m c cs x) undef undef).get (Tryz.w7k b m c cs x)
theorem Tryz.w7m_c:calmB Tryz.prog 164 m 4 (Tryz.w7m b m c cs x)=some [(b,false),(b,false)]:=by kernel_rfl
noncomputable def Tryz.w7n:Goroutine:=calmG Tryz.prog 164 m 4 (Tryz.w7m b m c cs x)
theorem Tryz.w7n_i:(stepE Tryz.prog 164 m (Tryz.w7n b m c cs x) undef undef).info=some (undef,undef,#[evM (.acquire ⟨b,0,none⟩)],[]):=by kernel_rfl
noncomputable def Tryz.w7o:Goroutine:=(stepE Tryz.prog 164 m (Tryz.w7n b m c cs x) undef undef).get (Tryz.w7n b m c cs x)
theorem Tryz.w7o_c:calmB Tryz.prog 164 m 10 (Tryz.w7o b m c cs x)=some []:=by kernel_rfl
theorem Tryz.w7o_e:calmG Tryz.prog 164 m 10 (Tryz.w7o b m c cs x)=Rf (c.finish (.tuple #[])) cs:=by kernel_rfl
end
end Go.Proofs
