/- Lemmas. No conditions. -/
import Derived.Test.YtnjljnhoaafkiaaGreatDoorProg
import Derived.Test.YtnjljnhoaafkiaaGreatDoorB01
set_option linter.all false
set_option maxRecDepth 100000
namespace Go.TM
open Go.Proofs
def Zul:Zj Tryz.prog 4 177 (cz Tryz.prog Tryz.f4 [1019] [] [15,19]) [.t 10]:=.z Tryz.func4
