/- Lemmas. No conditions. -/
import Derived.Test.YtcakpkianonbkaaGreatDoorB15
set_option linter.all false
open Go.Proofs.Tryz (prog)
set_option maxRecDepth 100000
noncomputable section
namespace Go.Proofs
open Go.TM
section
variable(b:Nat)(T:Array Value)(todo:List Item)
def Qeq:Goroutine:=nxt (Za b T todo) (Q1 3 0) (Qp 0)
def Qnp:(Qc prog 175 false (Za b T todo) (Q1 3 0) (Qp 0)).info=some (Q1 2 0,Qp 0,#[Jg b 0,evW b 0],[(b,true),(b,true)]):=by kernel_rfl
def Qno:Qm prog 175 false 87 (Qeq b T todo)=some []:=by kernel_rfl
def Qpr:Goroutine:=Qj prog 175 false 87 (Qeq b T todo)
def Qnq:(Qc prog 175 false (Qpr b T todo) undef undef).info=some (undef,undef,#[Z5 .enable],[]):=by kernel_rfl
def Qps:Goroutine:=nxt (Qpr b T todo) undef undef
def Qnr:Qm prog 175 false 6 (Qps b T todo)=some []:=by kernel_rfl
def Qqt:(Qj prog 175 false 6 (Qps b T todo)).status=.finished:=by kernel_rfl
def Q88:Go.Conc.QuitsD prog 94 1 (Qeq b T todo):=Zj (n:=87) (Qno b T todo) (J9 (Qnq b T todo) (by simp[Z5,Event.mute]) (Zj (n:=6) (k:=0) (Qnr b T todo) ⟨Qqt b T todo,rfl⟩))
end
section
variable(b:Nat)(T:Array Value)(todo:List Item)
def Qer:Goroutine:=nxt (Za b T todo) (Q1 3 1) (Qp 0)
def Qnt:(Qc prog 175 false (Za b T todo) (Q1 3 1) (Qp 0)).info=some (Q1 2 1,Qp 0,#[Jg b 0,evW b 0],[(b,true),(b,true)]):=by kernel_rfl
def Qns:Qm prog 175 false 87 (Qer b T todo)=some []:=by kernel_rfl
def Qpt:Goroutine:=Qj prog 175 false 87 (Qer b T todo)
def Qnu:(Qc prog 175 false (Qpt b T todo) undef undef).info=some (undef,undef,#[Z5 .enable],[]):=by kernel_rfl
def Qpu:Goroutine:=nxt (Qpt b T todo) undef undef
def Qnv:Qm prog 175 false 6 (Qpu b T todo)=some []:=by kernel_rfl
def Qqu:(Qj prog 175 false 6 (Qpu b T todo)).status=.finished:=by kernel_rfl
def Q89:Go.Conc.QuitsD prog 94 1 (Qer b T todo):=Zj (n:=87) (Qns b T todo) (J9 (Qnu b T todo) (by simp[Z5,Event.mute]) (Zj (n:=6) (k:=0) (Qnv b T todo) ⟨Qqu b T todo,rfl⟩))
end
end Go.Proofs
end
