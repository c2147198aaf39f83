/- Lemmas. No conditions. -/
import Derived.Test.YtnjljnhoaafkiaaGreatDoorProg
import Derived.Test.YtnjljnhoaafkiaaGreatDoorB01
set_option linter.all false
set_option maxRecDepth 100000
namespace Go.TM
open Go.Proofs
def gY:Zj Tryz.prog 6 188 (cz Tryz.prog Tryz.f6 [] [] []) [.t 0]:=.z Tryz.func6
def xZ:Zj Tryz.prog 14 29 (cz Tryz.prog Tryz.f14 [] [] []) [.t 4,.t 5]:=.z Tryz.func14
def ON:Zj Tryz.prog 25 26 (cz Tryz.prog Tryz.f25 [] [25] []) [.t 4]:=.z Tryz.func25
def UO:Zj Tryz.prog 18 12 (cz Tryz.prog Tryz.f18 [] [] []) [.cn 0 2]:=.z Tryz.func18
