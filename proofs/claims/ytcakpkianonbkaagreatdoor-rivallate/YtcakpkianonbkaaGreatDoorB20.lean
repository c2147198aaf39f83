/- Lemmas. No conditions. -/
import Derived.Test.YtcakpkianonbkaaGreatDoorB15
set_option linter.all false
open Go.Proofs.Tryz (prog)
set_option maxRecDepth 100000
noncomputable section
namespace Go.Proofs
open Go.TM
section
variable(b:Nat)(T:Array Value)(todo:List Item)
def Qeo:Goroutine:=nxt (Za b T todo) (Q1 2 0) (Qp 0)
def Qnh:(Qc prog 175 false (Za b T todo) (Q1 2 0) (Qp 0)).info=some (Q1 1 0,Qp 0,#[Jg b 0,evW b 0],[(b,true),(b,true)]):=by kernel_rfl
def Qng:Qm prog 175 false 87 (Qeo b T todo)=some []:=by kernel_rfl
def Qpn:Goroutine:=Qj prog 175 false 87 (Qeo b T todo)
def Qni:(Qc prog 175 false (Qpn b T todo) undef undef).info=some (undef,undef,#[Z5 .enable],[]):=by kernel_rfl
def Qpo:Goroutine:=nxt (Qpn b T todo) undef undef
def Qnj:Qm prog 175 false 6 (Qpo b T todo)=some []:=by kernel_rfl
def Qqr:(Qj prog 175 false 6 (Qpo b T todo)).status=.finished:=by kernel_rfl
def Q86:Go.Conc.QuitsD prog 94 1 (Qeo b T todo):=Zj (n:=87) (Qng b T todo) (J9 (Qni b T todo) (by simp[Z5,Event.mute]) (Zj (n:=6) (k:=0) (Qnj b T todo) ⟨Qqr b T todo,rfl⟩))
end
section
variable(b:Nat)(T:Array Value)(todo:List Item)
def Qep:Goroutine:=nxt (Za b T todo) (Q1 2 1) (Qp 0)
def Qnl:(Qc prog 175 false (Za b T todo) (Q1 2 1) (Qp 0)).info=some (Q1 1 1,Qp 0,#[Jg b 0,evW b 0],[(b,true),(b,true)]):=by kernel_rfl
def Qnk:Qm prog 175 false 87 (Qep b T todo)=some []:=by kernel_rfl
def Qpp:Goroutine:=Qj prog 175 false 87 (Qep b T todo)
def Qnm:(Qc prog 175 false (Qpp b T todo) undef undef).info=some (undef,undef,#[Z5 .enable],[]):=by kernel_rfl
def Qpq:Goroutine:=nxt (Qpp b T todo) undef undef
def Qnn:Qm prog 175 false 6 (Qpq b T todo)=some []:=by kernel_rfl
def Qqs:(Qj prog 175 false 6 (Qpq b T todo)).status=.finished:=by kernel_rfl
def Q87:Go.Conc.QuitsD prog 94 1 (Qep b T todo):=Zj (n:=87) (Qnk b T todo) (J9 (Qnm b T todo) (by simp[Z5,Event.mute]) (Zj (n:=6) (k:=0) (Qnn b T todo) ⟨Qqs b T todo,rfl⟩))
end
end Go.Proofs
end
