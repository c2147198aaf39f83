/- A part of the proof: lemmas that the last text uses. No conditions of its own. -/
import Derived.Test.YtebpcmdnecenlaaGreatProg
import Derived.KernelRfl
import Derived.Test.YtebpcmdnecenlaaGreatH05
set_option linter.unusedSimpArgs false
set_option linter.unusedVariables false
namespace Go.Proofs
open Go.TM
open Go.Conc (QuitsD)
section
variable (b:Nat) (m:Bool) (c:Frame) (cs:List Frame)
set_option maxRecDepth 100000
noncomputable def Tryz.wa0 (b:Nat) (_:Bool) (c:Frame) (cs:List Frame):Goroutine:=Rf (Frame.enter Tryz.prog 125 #[.pointer (some ⟨b,0,none⟩)] .normal) (c::cs)
theorem Tryz.wa0_c:calmB Tryz.prog 164 m 3 (Tryz.wa0 b m c cs)=some []:=by kernel_rfl
noncomputable def Tryz.wa1:Goroutine:=calmG Tryz.prog 164 m 3 (Tryz.wa0 b m c cs)
theorem Tryz.wa1_i:(stepE Tryz.prog 164 m (Tryz.wa1 b m c cs) undef undef).info=some (undef,undef,#[evM .disable],[]):=by kernel_rfl
noncomputable def Tryz.wa2:Goroutine:=(stepE Tryz.prog 164 m (Tryz.wa1 b m c cs) undef undef).get (Tryz.wa1 b m c cs)
theorem Tryz.wa2_c:calmB Tryz.prog 164 m 19 (Tryz.wa2 b m c cs)=some []:=by kernel_rfl
noncomputable def Tryz.wa3:Goroutine:=calmG Tryz.prog 164 m 19 (Tryz.wa2 b m c cs)
noncomputable def withT (g:Goroutine) (t:Array Value):Goroutine:={ g with callers:=match g.callers with | w::r=>{ w with tmps:=t }::r | []=>[] }
noncomputable def tmpsOf (g:Goroutine):Array Value:=match g.callers with | w::_=>w.tmps | []=>#[]
noncomputable def headT (b:Nat) (x:Nat->Value):Array Value:=#[.pointer (some ⟨b,0,none⟩),x 1,x 2,x 3,x 4,x 5,x 6,x 7,x 8,x 9,x 10,x 11,x 12,x 13,x 14,x 15,x 16,x 17,x 18,x 19,x 20,x 21,x 22,x 23,x 24,x 25,x 26,x 27,x 28,x 29,x 30,x 31,x 32,x 33,x 34,x 35,x 36,x 37,x 38,x 39,x 40,x 41,x 42,x 43,x 44,x 45,x 46,x 47,x 48,x 49,x 50,x 51,x 52,x 53,x 54,x 55,x 56,x 57,x 58,x 59,x 60,x 61,x 62,x 63,x 64,x 65,x 66,x 67,x 68,x 69,x 70,x 71,x 72,x 73,x 74,x 75,x 76,x 77,x 78,x 79,x 80,x 81,x 82,x 83]
end
section
variable (b:Nat) (m:Bool) (c:Frame) (cs:List Frame) (x:Nat->Value)
noncomputable def Tryz.wl (b:Nat) (m:Bool) (c:Frame) (cs:List Frame) (x:Nat->Value):Goroutine:=withT (Tryz.wa3 b m c cs) (headT b x)
theorem Tryz.wa3_eq:Tryz.wa3 b m c cs=Tryz.wl b m c cs (λ i=>(tmpsOf (Tryz.wa3 b m c cs)).getD i undef):=by kernel_rfl
theorem Tryz.wl_0:(stepE Tryz.prog 164 m (Tryz.wl b m c cs x) (stV 0 0) (smV 0)).info=some (stV 0 0,smV 0,#[evR b 0],[(b,true)]):=by kernel_rfl
noncomputable def Tryz.wz1:Goroutine:=(stepE Tryz.prog 164 m (Tryz.wl b m c cs x) (stV 0 0) (smV 0)).get (Tryz.wl b m c cs x)
theorem Tryz.wz1_c:calmB Tryz.prog 164 m 31 (Tryz.wz1 b m c cs x)=some []:=by kernel_rfl
noncomputable def Tryz.wz2:Goroutine:=calmG Tryz.prog 164 m 31 (Tryz.wz1 b m c cs x)
theorem Tryz.wz2_i:(stepE Tryz.prog 164 m (Tryz.wz2 b m c cs x) undef undef).info=some (undef,undef,#[evM .enable],[]):=by kernel_rfl
noncomputable def Tryz.wz3:Goroutine:=(stepE Tryz.prog 164 m (Tryz.wz2 b m c cs x) undef undef).get (Tryz.wz2 b m c cs x)
theorem Tryz.wz3_c:calmB Tryz.prog 164 m 4 (Tryz.wz3 b m c cs x)=some [(b,false),(b,false)]:=by kernel_rfl
noncomputable def Tryz.wz4:Goroutine:=calmG Tryz.prog 164 m 4 (Tryz.wz3 b m c cs x)
theorem Tryz.wz4_i:(stepE Tryz.prog 164 m (Tryz.wz4 b m c cs x) undef undef).info=some (undef,undef,#[evM (.acquire ⟨b,0,none⟩)],[]):=by kernel_rfl
noncomputable def Tryz.wz5:Goroutine:=(stepE Tryz.prog 164 m (Tryz.wz4 b m c cs x) undef undef).get (Tryz.wz4 b m c cs x)
theorem Tryz.wz5_c:calmB Tryz.prog 164 m 20 (Tryz.wz5 b m c cs x)=some []:=by kernel_rfl
theorem Tryz.wz5_e:calmG Tryz.prog 164 m 20 (Tryz.wz5 b m c cs x)=Rf (c.finish (.tuple #[])) cs:=by kernel_rfl
end
end Go.Proofs
