/- Lemmas. No conditions. -/
import Derived.Test.YtcakpkianonbkaaGreatDoorB16
set_option linter.all false
open Go.Proofs.Tryz (prog)
set_option maxRecDepth 100000
noncomputable section
namespace Go.Proofs
open Go.TM
open Go.Conc (QuitsD)
section
variable(b:Nat)(m:Bool)(c:Frame)(cs:List Frame)(x:Nat->Value)
def Zmx:(Qc prog 175 m (Zo b m c cs x) (Q1 4 0) (Qp 0)).info=some (Q1 4 0,Qp 0,#[Jg b 0],[(b,true)]):=by kernel_rfl
def Qub:Goroutine:=(Qc prog 175 m (Zo b m c cs x) (Q1 4 0) (Qp 0)).get (Zo b m c cs x)
def Zbf:Qm prog 175 m 48 (Qub b m c cs x)=some []:=by kernel_rfl
def Jn:Goroutine:=Qj prog 175 m 48 (Qub b m c cs x)
def Quc:(Qc prog 175 m (Jn b m c cs x) (Q1 0 0) (Qp 0)).info=some (Q1 0 0,Qp 0,#[Jg b 0],[(b,true),(b,false),(b,false)]):=by kernel_rfl
def Qaq:Goroutine:=(Qc prog 175 m (Jn b m c cs x) (Q1 0 0) (Qp 0)).get (Jn b m c cs x)
def Zbg:(Qc prog 175 m (Jn b m c cs x) (Q1 1 0) (Qp 0)).info=some (Q1 1 0,Qp 0,#[Jg b 0],[(b,true),(b,false),(b,false)]):=by kernel_rfl
def Q40:(Qc prog 175 m (Jn b m c cs x) (Q1 1 0) (Qp 0)).get (Jn b m c cs x)=Qaq b m c cs x:=by kernel_rfl
def Zbh:(Qc prog 175 m (Jn b m c cs x) (Q1 2 0) (Qp 0)).info=some (Q1 2 0,Qp 0,#[Jg b 0],[(b,true),(b,false),(b,false)]):=by kernel_rfl
def Q41:(Qc prog 175 m (Jn b m c cs x) (Q1 2 0) (Qp 0)).get (Jn b m c cs x)=Qaq b m c cs x:=by kernel_rfl
def Zbi:(Qc prog 175 m (Jn b m c cs x) (Q1 3 0) (Qp 0)).info=some (Q1 3 0,Qp 0,#[Jg b 0],[(b,true),(b,false),(b,false)]):=by kernel_rfl
def Q42:(Qc prog 175 m (Jn b m c cs x) (Q1 3 0) (Qp 0)).get (Jn b m c cs x)=Qaq b m c cs x:=by kernel_rfl
def Qgc:Qm prog 175 m 25 (Qaq b m c cs x)=some []:=by kernel_rfl
def Qgd:Qj prog 175 m 25 (Qaq b m c cs x)=Zo b m c cs (λ i=>(Qkg (Qj prog 175 m 25 (Qaq b m c cs x))).getD i undef):=by kernel_rfl
def Zbj:(Qc prog 175 m (Jn b m c cs x) (Q1 4 0) (Qp 0)).info=some (Q1 4 1,Qp 0,#[Jg b 0,evW b 0],[(b,true),(b,true),(b,false),(b,false)]):=by kernel_rfl
def Qud:Goroutine:=(Qc prog 175 m (Jn b m c cs x) (Q1 4 0) (Qp 0)).get (Jn b m c cs x)
def Zbk:Qm prog 175 m 20 (Qud b m c cs x)=some [(b,false),(b,false)]:=by kernel_rfl
def Qlo:Goroutine:=Qj prog 175 m 20 (Qud b m c cs x)
def Zbl:(Qc prog 175 m (Qlo b m c cs x) undef undef).info=some (undef,undef,#[Z5 (bif true then .write ⟨b,1,none⟩else .read ⟨b,1,none⟩)],[]):=by kernel_rfl
def Que:Goroutine:=(Qc prog 175 m (Qlo b m c cs x) undef undef).get (Qlo b m c cs x)
def Zbm:Qm prog 175 m 23 (Que b m c cs x)=some []:=by kernel_rfl
def Qbb:Goroutine:=Qj prog 175 m 23 (Que b m c cs x)
def Zbp:(Qbb b m c cs x).offers=none:=by kernel_rfl
def Zbq:(Qbb b m c cs x).status=.running:=by kernel_rfl
def Zbn(st:Value):Qc prog 175 m (Qbb b m c cs x) st (Qp 0)=.blocked { Qbb b m c cs x with status:=.blocked } st (Qp 0) [(b,true)]:=by kernel_rfl
def Zbo:(Qc prog 175 m (Qbb b m c cs x) (Q1 0 0) (Qp 1)).info=some (Q1 0 0,Qp 0,#[Z5 .disable,Jg b 1,evW b 1,Z5 .enable],[(b,true),(b,true)]):=by kernel_rfl
def Quf:Goroutine:=(Qc prog 175 m (Qbb b m c cs x) (Q1 0 0) (Qp 1)).get (Qbb b m c cs x)
def Zbr:Qm prog 175 m 16 (Quf b m c cs x)=some []:=by kernel_rfl
def Qlp:Goroutine:=Qj prog 175 m 16 (Quf b m c cs x)
def Zbs:(Qc prog 175 m (Qlp b m c cs x) (Q1 0 0) (Qp 0)).info=some (Q1 0 0,Qp 0,#[Jg b 0],[(b,true)]):=by kernel_rfl
def Qug:Goroutine:=(Qc prog 175 m (Qlp b m c cs x) (Q1 0 0) (Qp 0)).get (Qlp b m c cs x)
def Zbt:Qm prog 175 m 11 (Qug b m c cs x)=some []:=by kernel_rfl
def Qlq:Goroutine:=Qj prog 175 m 11 (Qug b m c cs x)
def Zbu:(Qc prog 175 m (Qlq b m c cs x) undef undef).info=some (undef,undef,#[Z5 .enable],[]):=by kernel_rfl
def Quh:Goroutine:=(Qc prog 175 m (Qlq b m c cs x) undef undef).get (Qlq b m c cs x)
def Zbv:Qm prog 175 m 4 (Quh b m c cs x)=some [(b,false),(b,false)]:=by kernel_rfl
def Qlr:Goroutine:=Qj prog 175 m 4 (Quh b m c cs x)
def Zbw:(Qc prog 175 m (Qlr b m c cs x) undef undef).info=some (undef,undef,#[Z5 (.acquire ⟨b,0,none⟩)],[]):=by kernel_rfl
def Qui:Goroutine:=(Qc prog 175 m (Qlr b m c cs x) undef undef).get (Qlr b m c cs x)
def Zbx:Qm prog 175 m 10 (Qui b m c cs x)=some []:=by kernel_rfl
def Zby:Qj prog 175 m 10 (Qui b m c cs x)=Rf (c.finish (.tuple #[])) cs:=by kernel_rfl
end
end Go.Proofs
end
