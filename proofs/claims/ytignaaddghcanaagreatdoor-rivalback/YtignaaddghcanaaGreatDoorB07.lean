/- Lemmas. No conditions. -/
import Derived.Test.YtignaaddghcanaaGreatDoorCards
import Derived.Test.YtignaaddghcanaaGreatDoorB06
set_option linter.all false
set_option maxRecDepth 100000
namespace Go.Proofs.YtignaaddghcanaaGreatDoor
open Go.TM
def Zly:Tryz.prog.mainIs=some (true, "c3d499a9b28f31848feaad5e0446a69e4b797f668f6b53c019351d28f1fb0997".toList):=by
 unfold Program.mainIs;rw[EW]
 kernel_rfl
def Zlx:true=Tryz.prog.looks []:=by kernel_rfl
def Zfw:([3,4,5,9,25].all λ u=>!Tryz.prog.wantsStandIn u)=true:=by kernel_rfl
