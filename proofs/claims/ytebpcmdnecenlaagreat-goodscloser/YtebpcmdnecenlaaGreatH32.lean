/- A part of the proof: lemmas that the last text uses. No conditions of its own. -/
import Derived.Test.YtebpcmdnecenlaaGreatH31
set_option linter.unusedSimpArgs false
set_option linter.unusedVariables false
namespace Go.Proofs
open Go.TM
open Go.Conc (QuitsD)
section
variable (b:Nat) (m:Bool) (c:Frame) (cs:List Frame) (x:Nat->Value)
set_option maxRecDepth 100000
theorem Tryz.w1l:(stepE Tryz.prog 164 m (Tryz.wl b m c cs x) (stV 1 0) (smV 0)).info=some (stV 1 0,smV 0,#[evR b 0],[(b,true)]):=by kernel_rfl
noncomputable def Tryz.w1a:Goroutine:=(stepE Tryz.prog 164 m (Tryz.wl b m c cs x) (stV 1 0) (smV 0)).get (Tryz.wl b m c cs x)
theorem Tryz.w1a_c:calmB Tryz.prog 164 m 48 (Tryz.w1a b m c cs x)=some []:=by kernel_rfl
noncomputable def Tryz.w1b:Goroutine:=calmG Tryz.prog 164 m 48 (Tryz.w1a b m c cs x)
theorem Tryz.w1b_0:(stepE Tryz.prog 164 m (Tryz.w1b b m c cs x) (stV 0 0) (smV 0)).info=some (stV 0 0,smV 0,#[evR b 0],[(b,true),(b,false),(b,false)]):=by kernel_rfl
noncomputable def Tryz.w1f:Goroutine:=(stepE Tryz.prog 164 m (Tryz.w1b b m c cs x) (stV 0 0) (smV 0)).get (Tryz.w1b b m c cs x)
theorem Tryz.w1f_c:calmB Tryz.prog 164 m 25 (Tryz.w1f b m c cs x)=some []:=by kernel_rfl
theorem Tryz.w1f_e:calmG Tryz.prog 164 m 25 (Tryz.w1f b m c cs x)=Tryz.wl b m c cs (λ i=>(tmpsOf (calmG Tryz.prog 164 m 25 (Tryz.w1f b m c cs x))).getD i undef):=by kernel_rfl
theorem Tryz.w1b_i:(stepE Tryz.prog 164 m (Tryz.w1b b m c cs x) (stV 1 0) (smV 0)).info=some (stV 1 1,smV 0,#[evR b 0,evW b 0],[(b,true),(b,true),(b,false),(b,false)]):=by kernel_rfl
noncomputable def Tryz.w1c:Goroutine:=(stepE Tryz.prog 164 m (Tryz.w1b b m c cs x) (stV 1 0) (smV 0)).get (Tryz.w1b b m c cs x)
theorem Tryz.w1c_c:calmB Tryz.prog 164 m 20 (Tryz.w1c b m c cs x)=some [(b,false),(b,false)]:=by kernel_rfl
noncomputable def Tryz.w1d:Goroutine:=calmG Tryz.prog 164 m 20 (Tryz.w1c b m c cs x)
theorem Tryz.w1d_i:(stepE Tryz.prog 164 m (Tryz.w1d b m c cs x) undef undef).info=some (undef,undef,#[evM (bif true then .write ⟨b,1,none⟩ else .read ⟨b,1,none⟩)],[]):=by kernel_rfl
noncomputable def Tryz.w1e:Goroutine:=(stepE Tryz.prog 164 m (Tryz.w1d b m c cs x) undef undef).get (Tryz.w1d b m c cs x)
theorem Tryz.w1e_c:calmB Tryz.prog 164 m 23 (Tryz.w1e b m c cs x)=some []:=by kernel_rfl
noncomputable def Tryz.w1g:Goroutine:=calmG Tryz.prog 164 m 23 (Tryz.w1e b m c cs x)
theorem Tryz.w1g_o:(Tryz.w1g b m c cs x).offers=none:=by kernel_rfl
theorem Tryz.w1g_r:(Tryz.w1g b m c cs x).status=.running:=by kernel_rfl
theorem Tryz.w1g_b (st:Value):stepE Tryz.prog 164 m (Tryz.w1g b m c cs x) st (smV 0)=.blocked { Tryz.w1g b m c cs x with status:=.blocked } st (smV 0) [(b,true)]:=by kernel_rfl
theorem Tryz.w1g_i:(stepE Tryz.prog 164 m (Tryz.w1g b m c cs x) (stV 0 0) (smV 1)).info=some (stV 0 0,smV 0,#[evM .disable,evR b 1,evW b 1,evM .enable],[(b,true),(b,true)]):=by kernel_rfl
noncomputable def Tryz.w1h:Goroutine:=(stepE Tryz.prog 164 m (Tryz.w1g b m c cs x) (stV 0 0) (smV 1)).get (Tryz.w1g b m c cs x)
theorem Tryz.w1h_c:calmB Tryz.prog 164 m 16 (Tryz.w1h b m c cs x)=some []:=by kernel_rfl
noncomputable def Tryz.w1i:Goroutine:=calmG Tryz.prog 164 m 16 (Tryz.w1h b m c cs x)
theorem Tryz.w1i_i:(stepE Tryz.prog 164 m (Tryz.w1i b m c cs x) (stV 0 0) (smV 0)).info=some (stV 0 0,smV 0,#[evR b 0],[(b,true)]):=by kernel_rfl
noncomputable def Tryz.w1j:Goroutine:=(stepE Tryz.prog 164 m (Tryz.w1i b m c cs x) (stV 0 0) (smV 0)).get (Tryz.w1i b m c cs x)
theorem Tryz.w1j_c:calmB Tryz.prog 164 m 11 (Tryz.w1j b m c cs x)=some []:=by kernel_rfl
noncomputable def Tryz.w1k:Goroutine:=calmG Tryz.prog 164 m 11 (Tryz.w1j b m c cs x)
theorem Tryz.w1k_i:(stepE Tryz.prog 164 m (Tryz.w1k b m c cs x) undef undef).info=some (undef,undef,#[evM .enable],[]):=by kernel_rfl
noncomputable def Tryz.w1m:Goroutine:=(stepE Tryz.prog 164 m (Tryz.w1k b m c cs x) undef undef).get (Tryz.w1k b m c cs x)
theorem Tryz.w1m_c:calmB Tryz.prog 164 m 4 (Tryz.w1m b m c cs x)=some [(b,false),(b,false)]:=by kernel_rfl
noncomputable def Tryz.w1n:Goroutine:=calmG Tryz.prog 164 m 4 (Tryz.w1m b m c cs x)
theorem Tryz.w1n_i:(stepE Tryz.prog 164 m (Tryz.w1n b m c cs x) undef undef).info=some (undef,undef,#[evM (.acquire ⟨b,0,none⟩)],[]):=by kernel_rfl
noncomputable def Tryz.w1o:Goroutine:=(stepE Tryz.prog 164 m (Tryz.w1n b m c cs x) undef undef).get (Tryz.w1n b m c cs x)
theorem Tryz.w1o_c:calmB Tryz.prog 164 m 10 (Tryz.w1o b m c cs x)=some []:=by kernel_rfl
theorem Tryz.w1o_e:calmG Tryz.prog 164 m 10 (Tryz.w1o b m c cs x)=Rf (c.finish (.tuple #[])) cs:=by kernel_rfl
end
end Go.Proofs
