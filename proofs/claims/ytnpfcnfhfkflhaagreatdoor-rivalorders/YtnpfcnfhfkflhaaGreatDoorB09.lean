/- Lemmas. No conditions. -/
import Derived.Test.YtnpfcnfhfkflhaaGreatDoorCards
import Derived.Test.YtnpfcnfhfkflhaaGreatDoorB08
set_option linter.all false
set_option maxRecDepth 100000
namespace Go.Proofs.YtnpfcnfhfkflhaaGreatDoor
open Go.TM
def Zm4:Tryz.prog.mainIs=some (true, "375651d122c04421ce498e33069ddb9fbc3642b8e91d60a78b8c96a8de8d53b0".toList):=by
 unfold Program.mainIs;rw[UN]
 kernel_rfl
def Zm3:true=Tryz.prog.looks []:=by kernel_rfl
def Zg6:([3,4,5,25,26,44,68].all λ u=>!Tryz.prog.wantsStandIn u)=true:=by kernel_rfl
end Go.Proofs.YtnpfcnfhfkflhaaGreatDoor

