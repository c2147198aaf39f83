/- Lemmas. No conditions. -/
import Derived.Test.YtcakpkianonbkaaGreatDoorProg
import Derived.Test.YtcakpkianonbkaaGreatDoorB14
set_option linter.all false
open Go.Proofs.Tryz (prog)
set_option maxRecDepth 100000
noncomputable section
namespace Go.Proofs
open Go.TM
open Go.Conc (QuitsD)
section
variable(b:Nat)(m:Bool)(c:Frame)(cs:List Frame)
noncomputable def Qru(b:Nat)(_:Bool)(c:Frame)(cs:List Frame):Goroutine:=Rf (Frame.enter prog 96 #[.pointer (some ⟨b,0,none⟩),.int .i64 1] .normal) (c::cs)
def Q68:Qm prog 175 m 12 (Qru b m c cs)=some []:=by kernel_rfl
def Qkk:Goroutine:=Qj prog 175 m 12 (Qru b m c cs)
def Q69:(Qc prog 175 m (Qkk b m c cs) undef undef).info=some (undef,undef,#[Z5 .disable],[]):=by kernel_rfl
def Qrv:Goroutine:=(Qc prog 175 m (Qkk b m c cs) undef undef).get (Qkk b m c cs)
def Q7a:Qm prog 175 m 34 (Qrv b m c cs)=some []:=by kernel_rfl
def Jc:Goroutine:=Qj prog 175 m 34 (Qrv b m c cs)
def Q7b:(Qc prog 175 m (Jc b m c cs) (Q1 0 0) (Qp 0)).info=some (Q1 1 0,Qp 0,#[Jg b 0,evW b 0],[(b,true),(b,true)]):=by kernel_rfl
def Qjz:Goroutine:=(Qc prog 175 m (Jc b m c cs) (Q1 0 0) (Qp 0)).get (Jc b m c cs)
def Q16:Qm prog 175 m 53 (Qjz b m c cs)=some [(b,false),(b,false)]:=by kernel_rfl
def Qd6:Goroutine:=Qj prog 175 m 53 (Qjz b m c cs)
def Q2b:(Qc prog 175 m (Qd6 b m c cs) undef undef).info=some (undef,undef,#[Z5 (bif false then .write ⟨b,1,none⟩else .read ⟨b,1,none⟩)],[]):=by kernel_rfl
def Qhd:Goroutine:=(Qc prog 175 m (Qd6 b m c cs) undef undef).get (Qd6 b m c cs)
def Q17:Qm prog 175 m 39 (Qhd b m c cs)=some []:=by kernel_rfl
def Qd7:Goroutine:=Qj prog 175 m 39 (Qhd b m c cs)
def Q18:(Qc prog 175 m (Qd7 b m c cs) undef undef).info=some (undef,undef,#[Z5 .enable],[]):=by kernel_rfl
def Qhc:Goroutine:=(Qc prog 175 m (Qd7 b m c cs) undef undef).get (Qd7 b m c cs)
def Q19:Qm prog 175 m 1 (Qhc b m c cs)=some []:=by kernel_rfl
def Q2a:Qj prog 175 m 1 (Qhc b m c cs)=Rf (c.finish (.tuple #[])) cs:=by kernel_rfl
def Q7c:(Qc prog 175 m (Jc b m c cs) (Q1 1 0) (Qp 0)).info=some (Q1 2 0,Qp 0,#[Jg b 0,evW b 0],[(b,true),(b,true)]):=by kernel_rfl
def Qj0:Goroutine:=(Qc prog 175 m (Jc b m c cs) (Q1 1 0) (Qp 0)).get (Jc b m c cs)
def Q2c:Qm prog 175 m 87 (Qj0 b m c cs)=some []:=by kernel_rfl
def Qd8:Goroutine:=Qj prog 175 m 87 (Qj0 b m c cs)
def Q2d:(Qc prog 175 m (Qd8 b m c cs) undef undef).info=some (undef,undef,#[Z5 .enable],[]):=by kernel_rfl
def Qhe:Goroutine:=(Qc prog 175 m (Qd8 b m c cs) undef undef).get (Qd8 b m c cs)
def Q2e:Qm prog 175 m 1 (Qhe b m c cs)=some []:=by kernel_rfl
def Q2f:Qj prog 175 m 1 (Qhe b m c cs)=Rf (c.finish (.tuple #[])) cs:=by kernel_rfl
def Q7d:(Qc prog 175 m (Jc b m c cs) (Q1 2 0) (Qp 0)).info=some (Q1 3 0,Qp 0,#[Jg b 0,evW b 0],[(b,true),(b,true)]):=by kernel_rfl
def Qj1:Goroutine:=(Qc prog 175 m (Jc b m c cs) (Q1 2 0) (Qp 0)).get (Jc b m c cs)
def Q2g:Qm prog 175 m 87 (Qj1 b m c cs)=some []:=by kernel_rfl
def Qd9:Goroutine:=Qj prog 175 m 87 (Qj1 b m c cs)
def Q2h:(Qc prog 175 m (Qd9 b m c cs) undef undef).info=some (undef,undef,#[Z5 .enable],[]):=by kernel_rfl
def Qhf:Goroutine:=(Qc prog 175 m (Qd9 b m c cs) undef undef).get (Qd9 b m c cs)
def Q2i:Qm prog 175 m 1 (Qhf b m c cs)=some []:=by kernel_rfl
def Q2j:Qj prog 175 m 1 (Qhf b m c cs)=Rf (c.finish (.tuple #[])) cs:=by kernel_rfl
def Q7e:(Qc prog 175 m (Jc b m c cs) (Q1 3 0) (Qp 0)).info=some (Q1 4 0,Qp 0,#[Jg b 0,evW b 0],[(b,true),(b,true)]):=by kernel_rfl
def Qj2:Goroutine:=(Qc prog 175 m (Jc b m c cs) (Q1 3 0) (Qp 0)).get (Jc b m c cs)
def Q2k:Qm prog 175 m 87 (Qj2 b m c cs)=some []:=by kernel_rfl
def Qea:Goroutine:=Qj prog 175 m 87 (Qj2 b m c cs)
def Q2l:(Qc prog 175 m (Qea b m c cs) undef undef).info=some (undef,undef,#[Z5 .enable],[]):=by kernel_rfl
def Qhg:Goroutine:=(Qc prog 175 m (Qea b m c cs) undef undef).get (Qea b m c cs)
def Q2m:Qm prog 175 m 1 (Qhg b m c cs)=some []:=by kernel_rfl
def Q2n:Qj prog 175 m 1 (Qhg b m c cs)=Rf (c.finish (.tuple #[])) cs:=by kernel_rfl
def Q7f:(Qc prog 175 m (Jc b m c cs) (Q1 4 0) (Qp 0)).info=some (Q1 5 0,Qp 0,#[Jg b 0,evW b 0],[(b,true),(b,true)]):=by kernel_rfl
def Qj3:Goroutine:=(Qc prog 175 m (Jc b m c cs) (Q1 4 0) (Qp 0)).get (Jc b m c cs)
def Q2o:Qm prog 175 m 87 (Qj3 b m c cs)=some []:=by kernel_rfl
def Qeb:Goroutine:=Qj prog 175 m 87 (Qj3 b m c cs)
def Q2p:(Qc prog 175 m (Qeb b m c cs) undef undef).info=some (undef,undef,#[Z5 .enable],[]):=by kernel_rfl
def Qhh:Goroutine:=(Qc prog 175 m (Qeb b m c cs) undef undef).get (Qeb b m c cs)
def Q2q:Qm prog 175 m 1 (Qhh b m c cs)=some []:=by kernel_rfl
def Q2r:Qj prog 175 m 1 (Qhh b m c cs)=Rf (c.finish (.tuple #[])) cs:=by kernel_rfl
def Q7g:(Qc prog 175 m (Jc b m c cs) (Q1 5 0) (Qp 0)).info=some (Q1 6 0,Qp 0,#[Jg b 0,evW b 0],[(b,true),(b,true)]):=by kernel_rfl
def Qj4:Goroutine:=(Qc prog 175 m (Jc b m c cs) (Q1 5 0) (Qp 0)).get (Jc b m c cs)
def Q2s:Qm prog 175 m 87 (Qj4 b m c cs)=some []:=by kernel_rfl
def Qec:Goroutine:=Qj prog 175 m 87 (Qj4 b m c cs)
def Q2t:(Qc prog 175 m (Qec b m c cs) undef undef).info=some (undef,undef,#[Z5 .enable],[]):=by kernel_rfl
def Qhi:Goroutine:=(Qc prog 175 m (Qec b m c cs) undef undef).get (Qec b m c cs)
def Q2u:Qm prog 175 m 1 (Qhi b m c cs)=some []:=by kernel_rfl
def Q2v:Qj prog 175 m 1 (Qhi b m c cs)=Rf (c.finish (.tuple #[])) cs:=by kernel_rfl
end
end Go.Proofs
end
