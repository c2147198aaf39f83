/- Lemmas. No conditions. -/
import Derived.Test.YtcakpkianonbkaaGreatDoorB16
set_option linter.all false
open Go.Proofs.Tryz (prog)
set_option maxRecDepth 100000
noncomputable section
namespace Go.Proofs
open Go.TM
open Go.Conc (QuitsD)
section
variable(b:Nat)(m:Bool)(c:Frame)(cs:List Frame)(x:Nat->Value)
def Zmy:(Qc prog 175 m (Zo b m c cs x) (Q1 5 0) (Qp 0)).info=some (Q1 5 0,Qp 0,#[Jg b 0],[(b,true)]):=by kernel_rfl
def Quj:Goroutine:=(Qc prog 175 m (Zo b m c cs x) (Q1 5 0) (Qp 0)).get (Zo b m c cs x)
def Zbz:Qm prog 175 m 48 (Quj b m c cs x)=some []:=by kernel_rfl
def Z9:Goroutine:=Qj prog 175 m 48 (Quj b m c cs x)
def Quk:(Qc prog 175 m (Z9 b m c cs x) (Q1 0 0) (Qp 0)).info=some (Q1 0 0,Qp 0,#[Jg b 0],[(b,true),(b,false),(b,false)]):=by kernel_rfl
def Wv:Goroutine:=(Qc prog 175 m (Z9 b m c cs x) (Q1 0 0) (Qp 0)).get (Z9 b m c cs x)
def Zb0:(Qc prog 175 m (Z9 b m c cs x) (Q1 1 0) (Qp 0)).info=some (Q1 1 0,Qp 0,#[Jg b 0],[(b,true),(b,false),(b,false)]):=by kernel_rfl
def Q43:(Qc prog 175 m (Z9 b m c cs x) (Q1 1 0) (Qp 0)).get (Z9 b m c cs x)=Wv b m c cs x:=by kernel_rfl
def Zb1:(Qc prog 175 m (Z9 b m c cs x) (Q1 2 0) (Qp 0)).info=some (Q1 2 0,Qp 0,#[Jg b 0],[(b,true),(b,false),(b,false)]):=by kernel_rfl
def Q44:(Qc prog 175 m (Z9 b m c cs x) (Q1 2 0) (Qp 0)).get (Z9 b m c cs x)=Wv b m c cs x:=by kernel_rfl
def Zb2:(Qc prog 175 m (Z9 b m c cs x) (Q1 3 0) (Qp 0)).info=some (Q1 3 0,Qp 0,#[Jg b 0],[(b,true),(b,false),(b,false)]):=by kernel_rfl
def Q45:(Qc prog 175 m (Z9 b m c cs x) (Q1 3 0) (Qp 0)).get (Z9 b m c cs x)=Wv b m c cs x:=by kernel_rfl
def Zb3:(Qc prog 175 m (Z9 b m c cs x) (Q1 4 0) (Qp 0)).info=some (Q1 4 0,Qp 0,#[Jg b 0],[(b,true),(b,false),(b,false)]):=by kernel_rfl
def Q46:(Qc prog 175 m (Z9 b m c cs x) (Q1 4 0) (Qp 0)).get (Z9 b m c cs x)=Wv b m c cs x:=by kernel_rfl
def Qdb:Qm prog 175 m 25 (Wv b m c cs x)=some []:=by kernel_rfl
def Qdc:Qj prog 175 m 25 (Wv b m c cs x)=Zo b m c cs (λ i=>(Qkg (Qj prog 175 m 25 (Wv b m c cs x))).getD i undef):=by kernel_rfl
def Zb4:(Qc prog 175 m (Z9 b m c cs x) (Q1 5 0) (Qp 0)).info=some (Q1 5 1,Qp 0,#[Jg b 0,evW b 0],[(b,true),(b,true),(b,false),(b,false)]):=by kernel_rfl
def Qul:Goroutine:=(Qc prog 175 m (Z9 b m c cs x) (Q1 5 0) (Qp 0)).get (Z9 b m c cs x)
def Zb5:Qm prog 175 m 20 (Qul b m c cs x)=some [(b,false),(b,false)]:=by kernel_rfl
def Qls:Goroutine:=Qj prog 175 m 20 (Qul b m c cs x)
def Zb6:(Qc prog 175 m (Qls b m c cs x) undef undef).info=some (undef,undef,#[Z5 (bif true then .write ⟨b,1,none⟩else .read ⟨b,1,none⟩)],[]):=by kernel_rfl
def Qum:Goroutine:=(Qc prog 175 m (Qls b m c cs x) undef undef).get (Qls b m c cs x)
def Zb7:Qm prog 175 m 23 (Qum b m c cs x)=some []:=by kernel_rfl
def Qbc:Goroutine:=Qj prog 175 m 23 (Qum b m c cs x)
def Zca:(Qbc b m c cs x).offers=none:=by kernel_rfl
def Zcb:(Qbc b m c cs x).status=.running:=by kernel_rfl
def Zb8(st:Value):Qc prog 175 m (Qbc b m c cs x) st (Qp 0)=.blocked { Qbc b m c cs x with status:=.blocked } st (Qp 0) [(b,true)]:=by kernel_rfl
def Zb9:(Qc prog 175 m (Qbc b m c cs x) (Q1 0 0) (Qp 1)).info=some (Q1 0 0,Qp 0,#[Z5 .disable,Jg b 1,evW b 1,Z5 .enable],[(b,true),(b,true)]):=by kernel_rfl
def Qun:Goroutine:=(Qc prog 175 m (Qbc b m c cs x) (Q1 0 0) (Qp 1)).get (Qbc b m c cs x)
def Zcc:Qm prog 175 m 16 (Qun b m c cs x)=some []:=by kernel_rfl
def Qlt:Goroutine:=Qj prog 175 m 16 (Qun b m c cs x)
def Zcd:(Qc prog 175 m (Qlt b m c cs x) (Q1 0 0) (Qp 0)).info=some (Q1 0 0,Qp 0,#[Jg b 0],[(b,true)]):=by kernel_rfl
def Quo:Goroutine:=(Qc prog 175 m (Qlt b m c cs x) (Q1 0 0) (Qp 0)).get (Qlt b m c cs x)
def Zce:Qm prog 175 m 11 (Quo b m c cs x)=some []:=by kernel_rfl
def Qlu:Goroutine:=Qj prog 175 m 11 (Quo b m c cs x)
def Zcf:(Qc prog 175 m (Qlu b m c cs x) undef undef).info=some (undef,undef,#[Z5 .enable],[]):=by kernel_rfl
def Qup:Goroutine:=(Qc prog 175 m (Qlu b m c cs x) undef undef).get (Qlu b m c cs x)
def Zcg:Qm prog 175 m 4 (Qup b m c cs x)=some [(b,false),(b,false)]:=by kernel_rfl
def Qlv:Goroutine:=Qj prog 175 m 4 (Qup b m c cs x)
def Zch:(Qc prog 175 m (Qlv b m c cs x) undef undef).info=some (undef,undef,#[Z5 (.acquire ⟨b,0,none⟩)],[]):=by kernel_rfl
def Quq:Goroutine:=(Qc prog 175 m (Qlv b m c cs x) undef undef).get (Qlv b m c cs x)
def Zci:Qm prog 175 m 10 (Quq b m c cs x)=some []:=by kernel_rfl
def Zcj:Qj prog 175 m 10 (Quq b m c cs x)=Rf (c.finish (.tuple #[])) cs:=by kernel_rfl
end
end Go.Proofs
end
