/- Lemmas. No conditions. -/
import Derived.Test.YtcakpkianonbkaaGreatDoorB15
set_option linter.all false
open Go.Proofs.Tryz (prog)
set_option maxRecDepth 100000
noncomputable section
namespace Go.Proofs
open Go.TM
section
variable(b:Nat)(T:Array Value)(todo:List Item)
def Qes:Goroutine:=nxt (Za b T todo) (Q1 4 0) (Qp 0)
def Qnx:(Qc prog 175 false (Za b T todo) (Q1 4 0) (Qp 0)).info=some (Q1 3 0,Qp 0,#[Jg b 0,evW b 0],[(b,true),(b,true)]):=by kernel_rfl
def Qnw:Qm prog 175 false 87 (Qes b T todo)=some []:=by kernel_rfl
def Qpv:Goroutine:=Qj prog 175 false 87 (Qes b T todo)
def Qny:(Qc prog 175 false (Qpv b T todo) undef undef).info=some (undef,undef,#[Z5 .enable],[]):=by kernel_rfl
def Qpw:Goroutine:=nxt (Qpv b T todo) undef undef
def Qnz:Qm prog 175 false 6 (Qpw b T todo)=some []:=by kernel_rfl
def Qqv:(Qj prog 175 false 6 (Qpw b T todo)).status=.finished:=by kernel_rfl
def Q9a:Go.Conc.QuitsD prog 94 1 (Qes b T todo):=Zj (n:=87) (Qnw b T todo) (J9 (Qny b T todo) (by simp[Z5,Event.mute]) (Zj (n:=6) (k:=0) (Qnz b T todo) ⟨Qqv b T todo,rfl⟩))
end
section
variable(b:Nat)(T:Array Value)(todo:List Item)
def Qet:Goroutine:=nxt (Za b T todo) (Q1 4 1) (Qp 0)
def Qn1:(Qc prog 175 false (Za b T todo) (Q1 4 1) (Qp 0)).info=some (Q1 3 1,Qp 0,#[Jg b 0,evW b 0],[(b,true),(b,true)]):=by kernel_rfl
def Qn0:Qm prog 175 false 87 (Qet b T todo)=some []:=by kernel_rfl
def Qpx:Goroutine:=Qj prog 175 false 87 (Qet b T todo)
def Qn2:(Qc prog 175 false (Qpx b T todo) undef undef).info=some (undef,undef,#[Z5 .enable],[]):=by kernel_rfl
def Qpy:Goroutine:=nxt (Qpx b T todo) undef undef
def Qn3:Qm prog 175 false 6 (Qpy b T todo)=some []:=by kernel_rfl
def Qqw:(Qj prog 175 false 6 (Qpy b T todo)).status=.finished:=by kernel_rfl
def Q9b:Go.Conc.QuitsD prog 94 1 (Qet b T todo):=Zj (n:=87) (Qn0 b T todo) (J9 (Qn2 b T todo) (by simp[Z5,Event.mute]) (Zj (n:=6) (k:=0) (Qn3 b T todo) ⟨Qqw b T todo,rfl⟩))
end
end Go.Proofs
end
