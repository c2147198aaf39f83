/- Lemmas. No conditions. -/
import Derived.Test.YtcakpkianonbkaaGreatDoorB16
set_option linter.all false
open Go.Proofs.Tryz (prog)
set_option maxRecDepth 100000
noncomputable section
namespace Go.Proofs
open Go.TM
open Go.Conc (QuitsD)
section
variable(b:Nat)(m:Bool)(c:Frame)(cs:List Frame)(x:Nat->Value)
def Zmu:(Qc prog 175 m (Zo b m c cs x) (Q1 1 0) (Qp 0)).info=some (Q1 1 0,Qp 0,#[Jg b 0],[(b,true)]):=by kernel_rfl
def Qtl:Goroutine:=(Qc prog 175 m (Zo b m c cs x) (Q1 1 0) (Qp 0)).get (Zo b m c cs x)
def Q9v:Qm prog 175 m 48 (Qtl b m c cs x)=some []:=by kernel_rfl
def Qcb:Goroutine:=Qj prog 175 m 48 (Qtl b m c cs x)
def Qtm:(Qc prog 175 m (Qcb b m c cs x) (Q1 0 0) (Qp 0)).info=some (Q1 0 0,Qp 0,#[Jg b 0],[(b,true),(b,false),(b,false)]):=by kernel_rfl
def Qlc:Goroutine:=(Qc prog 175 m (Qcb b m c cs x) (Q1 0 0) (Qp 0)).get (Qcb b m c cs x)
def Q90:Qm prog 175 m 25 (Qlc b m c cs x)=some []:=by kernel_rfl
def Q91:Qj prog 175 m 25 (Qlc b m c cs x)=Zo b m c cs (λ i=>(Qkg (Qj prog 175 m 25 (Qlc b m c cs x))).getD i undef):=by kernel_rfl
def Q9w:(Qc prog 175 m (Qcb b m c cs x) (Q1 1 0) (Qp 0)).info=some (Q1 1 1,Qp 0,#[Jg b 0,evW b 0],[(b,true),(b,true),(b,false),(b,false)]):=by kernel_rfl
def Qtn:Goroutine:=(Qc prog 175 m (Qcb b m c cs x) (Q1 1 0) (Qp 0)).get (Qcb b m c cs x)
def Q9x:Qm prog 175 m 20 (Qtn b m c cs x)=some [(b,false),(b,false)]:=by kernel_rfl
def Qlb:Goroutine:=Qj prog 175 m 20 (Qtn b m c cs x)
def Q9y:(Qc prog 175 m (Qlb b m c cs x) undef undef).info=some (undef,undef,#[Z5 (bif true then .write ⟨b,1,none⟩else .read ⟨b,1,none⟩)],[]):=by kernel_rfl
def Qto:Goroutine:=(Qc prog 175 m (Qlb b m c cs x) undef undef).get (Qlb b m c cs x)
def Q9z:Qm prog 175 m 23 (Qto b m c cs x)=some []:=by kernel_rfl
def Qa8:Goroutine:=Qj prog 175 m 23 (Qto b m c cs x)
def Q94:(Qa8 b m c cs x).offers=none:=by kernel_rfl
def Q95:(Qa8 b m c cs x).status=.running:=by kernel_rfl
def Q92(st:Value):Qc prog 175 m (Qa8 b m c cs x) st (Qp 0)=.blocked { Qa8 b m c cs x with status:=.blocked } st (Qp 0) [(b,true)]:=by kernel_rfl
def Q93:(Qc prog 175 m (Qa8 b m c cs x) (Q1 0 0) (Qp 1)).info=some (Q1 0 0,Qp 0,#[Z5 .disable,Jg b 1,evW b 1,Z5 .enable],[(b,true),(b,true)]):=by kernel_rfl
def Qtp:Goroutine:=(Qc prog 175 m (Qa8 b m c cs x) (Q1 0 0) (Qp 1)).get (Qa8 b m c cs x)
def Q96:Qm prog 175 m 16 (Qtp b m c cs x)=some []:=by kernel_rfl
def Qld:Goroutine:=Qj prog 175 m 16 (Qtp b m c cs x)
def Q97:(Qc prog 175 m (Qld b m c cs x) (Q1 0 0) (Qp 0)).info=some (Q1 0 0,Qp 0,#[Jg b 0],[(b,true)]):=by kernel_rfl
def Qtq:Goroutine:=(Qc prog 175 m (Qld b m c cs x) (Q1 0 0) (Qp 0)).get (Qld b m c cs x)
def Q98:Qm prog 175 m 11 (Qtq b m c cs x)=some []:=by kernel_rfl
def Qle:Goroutine:=Qj prog 175 m 11 (Qtq b m c cs x)
def Q99:(Qc prog 175 m (Qle b m c cs x) undef undef).info=some (undef,undef,#[Z5 .enable],[]):=by kernel_rfl
def Qtr:Goroutine:=(Qc prog 175 m (Qle b m c cs x) undef undef).get (Qle b m c cs x)
def Zaa:Qm prog 175 m 4 (Qtr b m c cs x)=some [(b,false),(b,false)]:=by kernel_rfl
def Qlf:Goroutine:=Qj prog 175 m 4 (Qtr b m c cs x)
def Zab:(Qc prog 175 m (Qlf b m c cs x) undef undef).info=some (undef,undef,#[Z5 (.acquire ⟨b,0,none⟩)],[]):=by kernel_rfl
def Qts:Goroutine:=(Qc prog 175 m (Qlf b m c cs x) undef undef).get (Qlf b m c cs x)
def Zac:Qm prog 175 m 10 (Qts b m c cs x)=some []:=by kernel_rfl
def Zad:Qj prog 175 m 10 (Qts b m c cs x)=Rf (c.finish (.tuple #[])) cs:=by kernel_rfl
end
end Go.Proofs
end
