/- Lemmas. No conditions. -/
import Derived.Test.YtnjljnhoaafkiaaGreatDoorCards
import Derived.Test.YtnjljnhoaafkiaaGreatDoorB07
set_option linter.all false
set_option maxRecDepth 100000
namespace Go.Proofs.YtnjljnhoaafkiaaGreatDoor
open Go.TM
def Zjy:Tryz.prog.mainIs=some (true, "d6efb37b39f05be48a751ce7beb1e56c658b245522e0fb1db98562bbb72c1793".toList):=by
 unfold Program.mainIs;rw[Ff]
 kernel_rfl
def Zjx:false=Tryz.prog.looks []:=by kernel_rfl
def Ze5:([3,4,5,26,38].all λ u=>!Tryz.prog.wantsStandIn u)=true:=by kernel_rfl
