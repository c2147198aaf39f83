/- Lemmas. No conditions. -/
import Derived.Test.YtajkaognaiglhaaGreatDoorProg
import Derived.Test.YtajkaognaiglhaaGreatDoorB10
set_option linter.all false
set_option maxRecDepth 100000
open Go.Proofs.Tryz (prog)
noncomputable section
namespace Go.TM
open Go.Proofs
section
variable(b:Nat)(T:Array Value)(todo:List Item)
def P1:Frame:={ (default:Frame)with fn:=prog.funcs.size,defers:=[],mode:=.panicking [goexitEntry] }
def Lv:Frame:={ fn:=60,tmps:=T,todo:=todo,defers:=[],mode:=.returning,kind:=.deferred }
def Yw:Gr:=Wq (Frame.enter prog 61 #[.pb b] .deferred) [Lv T todo,P1]
def R0:JX prog 118 false 15 (Yw b T todo)=some [(b,false),(b,false)]:=K1
def XT(g:Gr)(st sm:Value):Gr:=(Q5 prog 118 false g st sm).get g
def VK:Gr:=JY prog 118 false 15 (Yw b T todo)
def TW:(Q5 prog 118 false (VK b T todo) undef undef).info=some (undef,undef,#[Wj (.releaseMerge ⟨b,0,none⟩)],[]):=K1
def Yx:Gr:=XT (VK b T todo) undef undef
def R1:JX prog 118 false 3 (Yx b T todo)=some []:=K1
def Dt:Gr:=JY prog 118 false 3 (Yx b T todo)
def R2:(Q5 prog 118 false (Dt b T todo) undef undef).info=some (undef,undef,#[Wj .disable],[]):=K1
def Du:Gr:=XT (Dt b T todo) undef undef
def R3:JX prog 118 false 34 (Du b T todo)=some []:=K1
def Hg:Gr:=JY prog 118 false 34 (Du b T todo)
