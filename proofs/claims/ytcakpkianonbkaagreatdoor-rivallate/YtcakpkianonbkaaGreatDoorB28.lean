/- Lemmas. No conditions. -/
import Derived.Test.YtcakpkianonbkaaGreatDoorB16
set_option linter.all false
open Go.Proofs.Tryz (prog)
set_option maxRecDepth 100000
noncomputable section
namespace Go.Proofs
open Go.TM
open Go.Conc (QuitsD)
section
variable(b:Nat)(m:Bool)(c:Frame)(cs:List Frame)(x:Nat->Value)
def Zmv:(Qc prog 175 m (Zo b m c cs x) (Q1 2 0) (Qp 0)).info=some (Q1 2 0,Qp 0,#[Jg b 0],[(b,true)]):=by kernel_rfl
def Qtt:Goroutine:=(Qc prog 175 m (Zo b m c cs x) (Q1 2 0) (Qp 0)).get (Zo b m c cs x)
def Zae:Qm prog 175 m 48 (Qtt b m c cs x)=some []:=by kernel_rfl
def W6:Goroutine:=Qj prog 175 m 48 (Qtt b m c cs x)
def Qtu:(Qc prog 175 m (W6 b m c cs x) (Q1 0 0) (Qp 0)).info=some (Q1 0 0,Qp 0,#[Jg b 0],[(b,true),(b,false),(b,false)]):=by kernel_rfl
def Qfr:Goroutine:=(Qc prog 175 m (W6 b m c cs x) (Q1 0 0) (Qp 0)).get (W6 b m c cs x)
def Zaf:(Qc prog 175 m (W6 b m c cs x) (Q1 1 0) (Qp 0)).info=some (Q1 1 0,Qp 0,#[Jg b 0],[(b,true),(b,false),(b,false)]):=by kernel_rfl
def Q4x:(Qc prog 175 m (W6 b m c cs x) (Q1 1 0) (Qp 0)).get (W6 b m c cs x)=Qfr b m c cs x:=by kernel_rfl
def Qtx:Qm prog 175 m 25 (Qfr b m c cs x)=some []:=by kernel_rfl
def Qty:Qj prog 175 m 25 (Qfr b m c cs x)=Zo b m c cs (λ i=>(Qkg (Qj prog 175 m 25 (Qfr b m c cs x))).getD i undef):=by kernel_rfl
def Zag:(Qc prog 175 m (W6 b m c cs x) (Q1 2 0) (Qp 0)).info=some (Q1 2 1,Qp 0,#[Jg b 0,evW b 0],[(b,true),(b,true),(b,false),(b,false)]):=by kernel_rfl
def Qtv:Goroutine:=(Qc prog 175 m (W6 b m c cs x) (Q1 2 0) (Qp 0)).get (W6 b m c cs x)
def Zah:Qm prog 175 m 20 (Qtv b m c cs x)=some [(b,false),(b,false)]:=by kernel_rfl
def Qlg:Goroutine:=Qj prog 175 m 20 (Qtv b m c cs x)
def Zai:(Qc prog 175 m (Qlg b m c cs x) undef undef).info=some (undef,undef,#[Z5 (bif true then .write ⟨b,1,none⟩else .read ⟨b,1,none⟩)],[]):=by kernel_rfl
def Qtw:Goroutine:=(Qc prog 175 m (Qlg b m c cs x) undef undef).get (Qlg b m c cs x)
def Zaj:Qm prog 175 m 23 (Qtw b m c cs x)=some []:=by kernel_rfl
def Qa9:Goroutine:=Qj prog 175 m 23 (Qtw b m c cs x)
def Zam:(Qa9 b m c cs x).offers=none:=by kernel_rfl
def Zan:(Qa9 b m c cs x).status=.running:=by kernel_rfl
def Zak(st:Value):Qc prog 175 m (Qa9 b m c cs x) st (Qp 0)=.blocked { Qa9 b m c cs x with status:=.blocked } st (Qp 0) [(b,true)]:=by kernel_rfl
def Zal:(Qc prog 175 m (Qa9 b m c cs x) (Q1 0 0) (Qp 1)).info=some (Q1 0 0,Qp 0,#[Z5 .disable,Jg b 1,evW b 1,Z5 .enable],[(b,true),(b,true)]):=by kernel_rfl
def Qtz:Goroutine:=(Qc prog 175 m (Qa9 b m c cs x) (Q1 0 0) (Qp 1)).get (Qa9 b m c cs x)
def Zao:Qm prog 175 m 16 (Qtz b m c cs x)=some []:=by kernel_rfl
def Qlh:Goroutine:=Qj prog 175 m 16 (Qtz b m c cs x)
def Zap:(Qc prog 175 m (Qlh b m c cs x) (Q1 0 0) (Qp 0)).info=some (Q1 0 0,Qp 0,#[Jg b 0],[(b,true)]):=by kernel_rfl
def Qt0:Goroutine:=(Qc prog 175 m (Qlh b m c cs x) (Q1 0 0) (Qp 0)).get (Qlh b m c cs x)
def Zaq:Qm prog 175 m 11 (Qt0 b m c cs x)=some []:=by kernel_rfl
def Qli:Goroutine:=Qj prog 175 m 11 (Qt0 b m c cs x)
def Zar:(Qc prog 175 m (Qli b m c cs x) undef undef).info=some (undef,undef,#[Z5 .enable],[]):=by kernel_rfl
def Qt1:Goroutine:=(Qc prog 175 m (Qli b m c cs x) undef undef).get (Qli b m c cs x)
def Zas:Qm prog 175 m 4 (Qt1 b m c cs x)=some [(b,false),(b,false)]:=by kernel_rfl
def Qlj:Goroutine:=Qj prog 175 m 4 (Qt1 b m c cs x)
def Zat:(Qc prog 175 m (Qlj b m c cs x) undef undef).info=some (undef,undef,#[Z5 (.acquire ⟨b,0,none⟩)],[]):=by kernel_rfl
def Qt2:Goroutine:=(Qc prog 175 m (Qlj b m c cs x) undef undef).get (Qlj b m c cs x)
def Zau:Qm prog 175 m 10 (Qt2 b m c cs x)=some []:=by kernel_rfl
def Zav:Qj prog 175 m 10 (Qt2 b m c cs x)=Rf (c.finish (.tuple #[])) cs:=by kernel_rfl
end
end Go.Proofs
end
