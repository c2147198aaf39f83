/- Lemmas. No conditions. -/
import Derived.Test.YtcakpkianonbkaaGreatDoorB15
set_option linter.all false
open Go.Proofs.Tryz (prog)
set_option maxRecDepth 100000
noncomputable section
namespace Go.Proofs
open Go.TM
section
variable(b:Nat)(T:Array Value)(todo:List Item)
def Qew:Goroutine:=nxt (Za b T todo) (Q1 6 0) (Qp 0)
def Qod:(Qc prog 175 false (Za b T todo) (Q1 6 0) (Qp 0)).info=some (Q1 5 0,Qp 0,#[Jg b 0,evW b 0],[(b,true),(b,true)]):=by kernel_rfl
def Qoc:Qm prog 175 false 87 (Qew b T todo)=some []:=by kernel_rfl
def Qp3:Goroutine:=Qj prog 175 false 87 (Qew b T todo)
def Qoe:(Qc prog 175 false (Qp3 b T todo) undef undef).info=some (undef,undef,#[Z5 .enable],[]):=by kernel_rfl
def Qp4:Goroutine:=nxt (Qp3 b T todo) undef undef
def Qof:Qm prog 175 false 6 (Qp4 b T todo)=some []:=by kernel_rfl
def Qqz:(Qj prog 175 false 6 (Qp4 b T todo)).status=.finished:=by kernel_rfl
def Q9e:Go.Conc.QuitsD prog 94 1 (Qew b T todo):=Zj (n:=87) (Qoc b T todo) (J9 (Qoe b T todo) (by simp[Z5,Event.mute]) (Zj (n:=6) (k:=0) (Qof b T todo) ⟨Qqz b T todo,rfl⟩))
end
section
variable(b:Nat)(T:Array Value)(todo:List Item)
def Qex:Goroutine:=nxt (Za b T todo) (Q1 6 1) (Qp 0)
def Qoh:(Qc prog 175 false (Za b T todo) (Q1 6 1) (Qp 0)).info=some (Q1 5 1,Qp 0,#[Jg b 0,evW b 0],[(b,true),(b,true)]):=by kernel_rfl
def Qog:Qm prog 175 false 87 (Qex b T todo)=some []:=by kernel_rfl
def Qp5:Goroutine:=Qj prog 175 false 87 (Qex b T todo)
def Qoi:(Qc prog 175 false (Qp5 b T todo) undef undef).info=some (undef,undef,#[Z5 .enable],[]):=by kernel_rfl
def Qp6:Goroutine:=nxt (Qp5 b T todo) undef undef
def Qoj:Qm prog 175 false 6 (Qp6 b T todo)=some []:=by kernel_rfl
def Qq0:(Qj prog 175 false 6 (Qp6 b T todo)).status=.finished:=by kernel_rfl
def Q9f:Go.Conc.QuitsD prog 94 1 (Qex b T todo):=Zj (n:=87) (Qog b T todo) (J9 (Qoi b T todo) (by simp[Z5,Event.mute]) (Zj (n:=6) (k:=0) (Qoj b T todo) ⟨Qq0 b T todo,rfl⟩))
end
end Go.Proofs
end
