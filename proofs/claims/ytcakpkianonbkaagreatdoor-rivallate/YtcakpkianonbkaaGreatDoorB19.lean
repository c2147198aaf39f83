/- Lemmas. No conditions. -/
import Derived.Test.YtcakpkianonbkaaGreatDoorB15
set_option linter.all false
open Go.Proofs.Tryz (prog)
set_option maxRecDepth 100000
noncomputable section
namespace Go.Proofs
open Go.TM
section
variable(b:Nat)(T:Array Value)(todo:List Item)
def Qek:Goroutine:=nxt (Za b T todo) (Q1 1 0) (Qp 0)
def Qfl:(Qc prog 175 false (Za b T todo) (Q1 1 0) (Qp 0)).info=some (Q1 0 0,Qp 0,#[Jg b 0,evW b 0],[(b,true),(b,true)]):=by kernel_rfl
def Qm5:Qm prog 175 false 87 (Qek b T todo)=some []:=by kernel_rfl
def Qph:Goroutine:=Qj prog 175 false 87 (Qek b T todo)
def Qm6:(Qc prog 175 false (Qph b T todo) undef undef).info=some (undef,undef,#[Z5 .enable],[]):=by kernel_rfl
def Qpi:Goroutine:=nxt (Qph b T todo) undef undef
def Qm7:Qm prog 175 false 6 (Qpi b T todo)=some []:=by kernel_rfl
def Qqp:(Qj prog 175 false 6 (Qpi b T todo)).status=.finished:=by kernel_rfl
def Q85:Go.Conc.QuitsD prog 94 1 (Qek b T todo):=Zj (n:=87) (Qm5 b T todo) (J9 (Qm6 b T todo) (by simp[Z5,Event.mute]) (Zj (n:=6) (k:=0) (Qm7 b T todo) ⟨Qqp b T todo,rfl⟩))
end
section
variable(b:Nat)(T:Array Value)(todo:List Item)
def Qel:Goroutine:=nxt (Za b T todo) (Q1 1 1) (Qp 0)
def Qm9:(Qc prog 175 false (Za b T todo) (Q1 1 1) (Qp 0)).info=some (Q1 0 1,Qp 0,#[Jg b 0,evW b 0],[(b,true),(b,true)]):=by kernel_rfl
def Qm8:Qm prog 175 false 103 (Qel b T todo)=some []:=by kernel_rfl
def Qem:Goroutine:=Qj prog 175 false 103 (Qel b T todo)
def Qfm:(Qc prog 175 false (Qem b T todo) (Q1 0 1) (Qp 0)).info=some (Q1 0 1,Qp 0,#[Jg b 0],[(b,true)]):=by kernel_rfl
def Qpj:Goroutine:=nxt (Qem b T todo) (Q1 0 1) (Qp 0)
def Qna:Qm prog 175 false 20 (Qpj b T todo)=some []:=by kernel_rfl
def Qen:Goroutine:=Qj prog 175 false 20 (Qpj b T todo)
def Qfn:(Qc prog 175 false (Qen b T todo) (Q1 0 1) (Qp 0)).info=some (Q1 0 0,Qp 0,#[evW b 0],[(b,true)]):=by kernel_rfl
def Qpk:Goroutine:=nxt (Qen b T todo) (Q1 0 1) (Qp 0)
def Qnb:Qm prog 175 false 27 (Qpk b T todo)=some []:=by kernel_rfl
def Qca:Goroutine:=Qj prog 175 false 27 (Qpk b T todo)
def Qfo:(Qc prog 175 false (Qca b T todo) (Q1 0 0) (Qp 0)).info=some (Q1 0 0,Qp 1,#[Z5 .disable,Jg b 1,evW b 1,Z5 .enable],[(b,true),(b,true)]):=by kernel_rfl
def Qnc:mayWake prog (Qca b T todo)=true:=by kernel_rfl
def Qhz:Goroutine:=nxt (Qca b T todo) (Q1 0 0) (Qp 0)
def Qnd:Qm prog 175 false 17 (Qhz b T todo)=some []:=by kernel_rfl
def Qpl:Goroutine:=Qj prog 175 false 17 (Qhz b T todo)
def Qne:(Qc prog 175 false (Qpl b T todo) undef undef).info=some (undef,undef,#[Z5 .enable],[]):=by kernel_rfl
def Qpm:Goroutine:=nxt (Qpl b T todo) undef undef
def Qnf:Qm prog 175 false 6 (Qpm b T todo)=some []:=by kernel_rfl
def Qqq:(Qj prog 175 false 6 (Qpm b T todo)).status=.finished:=by kernel_rfl
end
end Go.Proofs
end
