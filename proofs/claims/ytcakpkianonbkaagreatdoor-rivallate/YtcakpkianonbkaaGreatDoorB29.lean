/- Lemmas. No conditions. -/
import Derived.Test.YtcakpkianonbkaaGreatDoorB16
set_option linter.all false
open Go.Proofs.Tryz (prog)
set_option maxRecDepth 100000
noncomputable section
namespace Go.Proofs
open Go.TM
open Go.Conc (QuitsD)
section
variable(b:Nat)(m:Bool)(c:Frame)(cs:List Frame)(x:Nat->Value)
def Zmw:(Qc prog 175 m (Zo b m c cs x) (Q1 3 0) (Qp 0)).info=some (Q1 3 0,Qp 0,#[Jg b 0],[(b,true)]):=by kernel_rfl
def Qt3:Goroutine:=(Qc prog 175 m (Zo b m c cs x) (Q1 3 0) (Qp 0)).get (Zo b m c cs x)
def Zaw:Qm prog 175 m 48 (Qt3 b m c cs x)=some []:=by kernel_rfl
def Wb:Goroutine:=Qj prog 175 m 48 (Qt3 b m c cs x)
def Qt4:(Qc prog 175 m (Wb b m c cs x) (Q1 0 0) (Qp 0)).info=some (Q1 0 0,Qp 0,#[Jg b 0],[(b,true),(b,false),(b,false)]):=by kernel_rfl
def Qcc:Goroutine:=(Qc prog 175 m (Wb b m c cs x) (Q1 0 0) (Qp 0)).get (Wb b m c cs x)
def Zax:(Qc prog 175 m (Wb b m c cs x) (Q1 1 0) (Qp 0)).info=some (Q1 1 0,Qp 0,#[Jg b 0],[(b,true),(b,false),(b,false)]):=by kernel_rfl
def Q4y:(Qc prog 175 m (Wb b m c cs x) (Q1 1 0) (Qp 0)).get (Wb b m c cs x)=Qcc b m c cs x:=by kernel_rfl
def Zay:(Qc prog 175 m (Wb b m c cs x) (Q1 2 0) (Qp 0)).info=some (Q1 2 0,Qp 0,#[Jg b 0],[(b,true),(b,false),(b,false)]):=by kernel_rfl
def Q4z:(Qc prog 175 m (Wb b m c cs x) (Q1 2 0) (Qp 0)).get (Wb b m c cs x)=Qcc b m c cs x:=by kernel_rfl
def Qj7:Qm prog 175 m 25 (Qcc b m c cs x)=some []:=by kernel_rfl
def Qj8:Qj prog 175 m 25 (Qcc b m c cs x)=Zo b m c cs (λ i=>(Qkg (Qj prog 175 m 25 (Qcc b m c cs x))).getD i undef):=by kernel_rfl
def Zaz:(Qc prog 175 m (Wb b m c cs x) (Q1 3 0) (Qp 0)).info=some (Q1 3 1,Qp 0,#[Jg b 0,evW b 0],[(b,true),(b,true),(b,false),(b,false)]):=by kernel_rfl
def Qt5:Goroutine:=(Qc prog 175 m (Wb b m c cs x) (Q1 3 0) (Qp 0)).get (Wb b m c cs x)
def Za0:Qm prog 175 m 20 (Qt5 b m c cs x)=some [(b,false),(b,false)]:=by kernel_rfl
def Qlk:Goroutine:=Qj prog 175 m 20 (Qt5 b m c cs x)
def Za1:(Qc prog 175 m (Qlk b m c cs x) undef undef).info=some (undef,undef,#[Z5 (bif true then .write ⟨b,1,none⟩else .read ⟨b,1,none⟩)],[]):=by kernel_rfl
def Qt6:Goroutine:=(Qc prog 175 m (Qlk b m c cs x) undef undef).get (Qlk b m c cs x)
def Za2:Qm prog 175 m 23 (Qt6 b m c cs x)=some []:=by kernel_rfl
def Qba:Goroutine:=Qj prog 175 m 23 (Qt6 b m c cs x)
def Za5:(Qba b m c cs x).offers=none:=by kernel_rfl
def Za6:(Qba b m c cs x).status=.running:=by kernel_rfl
def Za3(st:Value):Qc prog 175 m (Qba b m c cs x) st (Qp 0)=.blocked { Qba b m c cs x with status:=.blocked } st (Qp 0) [(b,true)]:=by kernel_rfl
def Za4:(Qc prog 175 m (Qba b m c cs x) (Q1 0 0) (Qp 1)).info=some (Q1 0 0,Qp 0,#[Z5 .disable,Jg b 1,evW b 1,Z5 .enable],[(b,true),(b,true)]):=by kernel_rfl
def Qt7:Goroutine:=(Qc prog 175 m (Qba b m c cs x) (Q1 0 0) (Qp 1)).get (Qba b m c cs x)
def Za7:Qm prog 175 m 16 (Qt7 b m c cs x)=some []:=by kernel_rfl
def Qll:Goroutine:=Qj prog 175 m 16 (Qt7 b m c cs x)
def Za8:(Qc prog 175 m (Qll b m c cs x) (Q1 0 0) (Qp 0)).info=some (Q1 0 0,Qp 0,#[Jg b 0],[(b,true)]):=by kernel_rfl
def Qt8:Goroutine:=(Qc prog 175 m (Qll b m c cs x) (Q1 0 0) (Qp 0)).get (Qll b m c cs x)
def Za9:Qm prog 175 m 11 (Qt8 b m c cs x)=some []:=by kernel_rfl
def Qlm:Goroutine:=Qj prog 175 m 11 (Qt8 b m c cs x)
def Zba:(Qc prog 175 m (Qlm b m c cs x) undef undef).info=some (undef,undef,#[Z5 .enable],[]):=by kernel_rfl
def Qt9:Goroutine:=(Qc prog 175 m (Qlm b m c cs x) undef undef).get (Qlm b m c cs x)
def Zbb:Qm prog 175 m 4 (Qt9 b m c cs x)=some [(b,false),(b,false)]:=by kernel_rfl
def Qln:Goroutine:=Qj prog 175 m 4 (Qt9 b m c cs x)
def Zbc:(Qc prog 175 m (Qln b m c cs x) undef undef).info=some (undef,undef,#[Z5 (.acquire ⟨b,0,none⟩)],[]):=by kernel_rfl
def Qua:Goroutine:=(Qc prog 175 m (Qln b m c cs x) undef undef).get (Qln b m c cs x)
def Zbd:Qm prog 175 m 10 (Qua b m c cs x)=some []:=by kernel_rfl
def Zbe:Qj prog 175 m 10 (Qua b m c cs x)=Rf (c.finish (.tuple #[])) cs:=by kernel_rfl
end
end Go.Proofs
end
