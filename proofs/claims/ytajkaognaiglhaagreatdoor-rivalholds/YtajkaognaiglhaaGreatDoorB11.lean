/- Lemmas. No conditions. -/
import Derived.Test.YtajkaognaiglhaaGreatDoorProg
import Derived.Test.YtajkaognaiglhaaGreatDoorB10
set_option linter.all false
open Go.Proofs.Tryz (prog)
set_option maxRecDepth 100000
noncomputable section
namespace Go.Proofs
open Go.TM
section
variable(b:Nat)(T:Array Value)(todo:List Item)
def P2:Frame:={ (default:Frame)with fn:=prog.funcs.size,defers:=[],mode:=.panicking [goexitEntry] }
def LU:Frame:={ fn:=60,tmps:=T,todo:=todo,defers:=[],mode:=.returning,kind:=.deferred }
def Yr:Gr:=Wq (Frame.enter prog 61 #[.pointer (some ⟨b,0,none⟩)] .deferred) [LU T todo,P2]
def Re:JW prog 118 false 15 (Yr b T todo)=some [(b,false),(b,false)]:=K1
def XQ(g:Gr)(st sm:Value):Gr:=(Q5 prog 118 false g st sm).get g
def VP:Gr:=JX prog 118 false 15 (Yr b T todo)
def S9:(Q5 prog 118 false (VP b T todo) undef undef).info=some (undef,undef,#[Wj (.releaseMerge ⟨b,0,none⟩)],[]):=K1
def Ys:Gr:=XQ (VP b T todo) undef undef
def Rg:JW prog 118 false 3 (Ys b T todo)=some []:=K1
def DC:Gr:=JX prog 118 false 3 (Ys b T todo)
def Rh:(Q5 prog 118 false (DC b T todo) undef undef).info=some (undef,undef,#[Wj .disable],[]):=K1
def DD:Gr:=XQ (DC b T todo) undef undef
def Ri:JW prog 118 false 34 (DD b T todo)=some []:=K1
def Hc:Gr:=JX prog 118 false 34 (DD b T todo)
end
end Go.Proofs
end

