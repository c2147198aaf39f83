/- Lemmas. No conditions. -/
import Derived.Test.YtajkaognaiglhaaGreatDoorCards
import Derived.Test.YtajkaognaiglhaaGreatDoorB06
set_option linter.all false
set_option maxRecDepth 100000
namespace Go.Proofs.YtajkaognaiglhaaGreatDoor
open Go.TM
def Zae:Tryz.prog.mainIs=some (true, "76433441f829be6d863b30a6252ee84e16d6e6f53450c9c92ca8f3c5549eee53".toList):=by
 unfold Program.mainIs;rw[SP]
 kernel_rfl
def Zad:false=Tryz.prog.looks []:=by kernel_rfl
def Q3o:([3,4,5,25,26,37,44].all λ u=>!Tryz.prog.wantsStandIn u)=true:=by kernel_rfl
