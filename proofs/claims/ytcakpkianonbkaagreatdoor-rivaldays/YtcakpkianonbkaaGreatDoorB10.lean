/- Lemmas. No conditions. -/
import Derived.Test.YtcakpkianonbkaaGreatDoorCards
import Derived.Test.YtcakpkianonbkaaGreatDoorB09
set_option linter.all false
set_option maxRecDepth 100000
namespace Go.Proofs.YtcakpkianonbkaaGreatDoor
open Go.TM
def Zst:Tryz.prog.mainIs=some (true, "343623f8dcc179b41c33c845adbfe035ddd7a55932a929884cf34c9623bfe0ec".toList):=by
 unfold Program.mainIs;rw[Lc]
 kernel_rfl
def Zss:false=Tryz.prog.looks []:=by kernel_rfl
def Zk2:([3,4,5,31,32,33,43].all λ u=>!Tryz.prog.wantsStandIn u)=true:=by kernel_rfl
end Go.Proofs.YtcakpkianonbkaaGreatDoor

