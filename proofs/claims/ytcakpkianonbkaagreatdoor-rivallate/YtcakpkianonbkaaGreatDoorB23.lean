/- Lemmas. No conditions. -/
import Derived.Test.YtcakpkianonbkaaGreatDoorB15
set_option linter.all false
open Go.Proofs.Tryz (prog)
set_option maxRecDepth 100000
noncomputable section
namespace Go.Proofs
open Go.TM
section
variable(b:Nat)(T:Array Value)(todo:List Item)
def Qeu:Goroutine:=nxt (Za b T todo) (Q1 5 0) (Qp 0)
def Qn5:(Qc prog 175 false (Za b T todo) (Q1 5 0) (Qp 0)).info=some (Q1 4 0,Qp 0,#[Jg b 0,evW b 0],[(b,true),(b,true)]):=by kernel_rfl
def Qn4:Qm prog 175 false 87 (Qeu b T todo)=some []:=by kernel_rfl
def Qpz:Goroutine:=Qj prog 175 false 87 (Qeu b T todo)
def Qn6:(Qc prog 175 false (Qpz b T todo) undef undef).info=some (undef,undef,#[Z5 .enable],[]):=by kernel_rfl
def Qp0:Goroutine:=nxt (Qpz b T todo) undef undef
def Qn7:Qm prog 175 false 6 (Qp0 b T todo)=some []:=by kernel_rfl
def Qqx:(Qj prog 175 false 6 (Qp0 b T todo)).status=.finished:=by kernel_rfl
def Q9c:Go.Conc.QuitsD prog 94 1 (Qeu b T todo):=Zj (n:=87) (Qn4 b T todo) (J9 (Qn6 b T todo) (by simp[Z5,Event.mute]) (Zj (n:=6) (k:=0) (Qn7 b T todo) ⟨Qqx b T todo,rfl⟩))
end
section
variable(b:Nat)(T:Array Value)(todo:List Item)
def Qev:Goroutine:=nxt (Za b T todo) (Q1 5 1) (Qp 0)
def Qn9:(Qc prog 175 false (Za b T todo) (Q1 5 1) (Qp 0)).info=some (Q1 4 1,Qp 0,#[Jg b 0,evW b 0],[(b,true),(b,true)]):=by kernel_rfl
def Qn8:Qm prog 175 false 87 (Qev b T todo)=some []:=by kernel_rfl
def Qp1:Goroutine:=Qj prog 175 false 87 (Qev b T todo)
def Qoa:(Qc prog 175 false (Qp1 b T todo) undef undef).info=some (undef,undef,#[Z5 .enable],[]):=by kernel_rfl
def Qp2:Goroutine:=nxt (Qp1 b T todo) undef undef
def Qob:Qm prog 175 false 6 (Qp2 b T todo)=some []:=by kernel_rfl
def Qqy:(Qj prog 175 false 6 (Qp2 b T todo)).status=.finished:=by kernel_rfl
def Q9d:Go.Conc.QuitsD prog 94 1 (Qev b T todo):=Zj (n:=87) (Qn8 b T todo) (J9 (Qoa b T todo) (by simp[Z5,Event.mute]) (Zj (n:=6) (k:=0) (Qob b T todo) ⟨Qqy b T todo,rfl⟩))
end
end Go.Proofs
end
