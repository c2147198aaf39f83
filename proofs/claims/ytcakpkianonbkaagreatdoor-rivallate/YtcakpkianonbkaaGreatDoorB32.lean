/- Lemmas. No conditions. -/
import Derived.Test.YtcakpkianonbkaaGreatDoorB16
set_option linter.all false
open Go.Proofs.Tryz (prog)
set_option maxRecDepth 100000
noncomputable section
namespace Go.Proofs
open Go.TM
open Go.Conc (QuitsD)
section
variable(b:Nat)(m:Bool)(c:Frame)(cs:List Frame)(x:Nat->Value)
def Zmz:(Qc prog 175 m (Zo b m c cs x) (Q1 6 0) (Qp 0)).info=some (Q1 6 0,Qp 0,#[Jg b 0],[(b,true)]):=by kernel_rfl
def Qur:Goroutine:=(Qc prog 175 m (Zo b m c cs x) (Q1 6 0) (Qp 0)).get (Zo b m c cs x)
def Zck:Qm prog 175 m 48 (Qur b m c cs x)=some []:=by kernel_rfl
def Zy:Goroutine:=Qj prog 175 m 48 (Qur b m c cs x)
def Qus:(Qc prog 175 m (Zy b m c cs x) (Q1 0 0) (Qp 0)).info=some (Q1 0 0,Qp 0,#[Jg b 0],[(b,true),(b,false),(b,false)]):=by kernel_rfl
def Wc:Goroutine:=(Qc prog 175 m (Zy b m c cs x) (Q1 0 0) (Qp 0)).get (Zy b m c cs x)
def Zcl:(Qc prog 175 m (Zy b m c cs x) (Q1 1 0) (Qp 0)).info=some (Q1 1 0,Qp 0,#[Jg b 0],[(b,true),(b,false),(b,false)]):=by kernel_rfl
def Q47:(Qc prog 175 m (Zy b m c cs x) (Q1 1 0) (Qp 0)).get (Zy b m c cs x)=Wc b m c cs x:=by kernel_rfl
def Zcm:(Qc prog 175 m (Zy b m c cs x) (Q1 2 0) (Qp 0)).info=some (Q1 2 0,Qp 0,#[Jg b 0],[(b,true),(b,false),(b,false)]):=by kernel_rfl
def Q48:(Qc prog 175 m (Zy b m c cs x) (Q1 2 0) (Qp 0)).get (Zy b m c cs x)=Wc b m c cs x:=by kernel_rfl
def Zcn:(Qc prog 175 m (Zy b m c cs x) (Q1 3 0) (Qp 0)).info=some (Q1 3 0,Qp 0,#[Jg b 0],[(b,true),(b,false),(b,false)]):=by kernel_rfl
def Q49:(Qc prog 175 m (Zy b m c cs x) (Q1 3 0) (Qp 0)).get (Zy b m c cs x)=Wc b m c cs x:=by kernel_rfl
def Zco:(Qc prog 175 m (Zy b m c cs x) (Q1 4 0) (Qp 0)).info=some (Q1 4 0,Qp 0,#[Jg b 0],[(b,true),(b,false),(b,false)]):=by kernel_rfl
def Q5a:(Qc prog 175 m (Zy b m c cs x) (Q1 4 0) (Qp 0)).get (Zy b m c cs x)=Wc b m c cs x:=by kernel_rfl
def Zcp:(Qc prog 175 m (Zy b m c cs x) (Q1 5 0) (Qp 0)).info=some (Q1 5 0,Qp 0,#[Jg b 0],[(b,true),(b,false),(b,false)]):=by kernel_rfl
def Q5b:(Qc prog 175 m (Zy b m c cs x) (Q1 5 0) (Qp 0)).get (Zy b m c cs x)=Wc b m c cs x:=by kernel_rfl
def Qbu:Qm prog 175 m 25 (Wc b m c cs x)=some []:=by kernel_rfl
def Qbv:Qj prog 175 m 25 (Wc b m c cs x)=Zo b m c cs (λ i=>(Qkg (Qj prog 175 m 25 (Wc b m c cs x))).getD i undef):=by kernel_rfl
def Zcq:(Qc prog 175 m (Zy b m c cs x) (Q1 6 0) (Qp 0)).info=some (Q1 6 1,Qp 0,#[Jg b 0,evW b 0],[(b,true),(b,true),(b,false),(b,false)]):=by kernel_rfl
def Qut:Goroutine:=(Qc prog 175 m (Zy b m c cs x) (Q1 6 0) (Qp 0)).get (Zy b m c cs x)
def Zcr:Qm prog 175 m 20 (Qut b m c cs x)=some [(b,false),(b,false)]:=by kernel_rfl
def Qlw:Goroutine:=Qj prog 175 m 20 (Qut b m c cs x)
def Zcs:(Qc prog 175 m (Qlw b m c cs x) undef undef).info=some (undef,undef,#[Z5 (bif true then .write ⟨b,1,none⟩else .read ⟨b,1,none⟩)],[]):=by kernel_rfl
def Quu:Goroutine:=(Qc prog 175 m (Qlw b m c cs x) undef undef).get (Qlw b m c cs x)
def Zct:Qm prog 175 m 23 (Quu b m c cs x)=some []:=by kernel_rfl
def Qbd:Goroutine:=Qj prog 175 m 23 (Quu b m c cs x)
def Zcw:(Qbd b m c cs x).offers=none:=by kernel_rfl
def Zcx:(Qbd b m c cs x).status=.running:=by kernel_rfl
def Zcu(st:Value):Qc prog 175 m (Qbd b m c cs x) st (Qp 0)=.blocked { Qbd b m c cs x with status:=.blocked } st (Qp 0) [(b,true)]:=by kernel_rfl
def Zcv:(Qc prog 175 m (Qbd b m c cs x) (Q1 0 0) (Qp 1)).info=some (Q1 0 0,Qp 0,#[Z5 .disable,Jg b 1,evW b 1,Z5 .enable],[(b,true),(b,true)]):=by kernel_rfl
def Quv:Goroutine:=(Qc prog 175 m (Qbd b m c cs x) (Q1 0 0) (Qp 1)).get (Qbd b m c cs x)
def Zcy:Qm prog 175 m 16 (Quv b m c cs x)=some []:=by kernel_rfl
def Qlx:Goroutine:=Qj prog 175 m 16 (Quv b m c cs x)
def Zcz:(Qc prog 175 m (Qlx b m c cs x) (Q1 0 0) (Qp 0)).info=some (Q1 0 0,Qp 0,#[Jg b 0],[(b,true)]):=by kernel_rfl
def Quw:Goroutine:=(Qc prog 175 m (Qlx b m c cs x) (Q1 0 0) (Qp 0)).get (Qlx b m c cs x)
def Zc0:Qm prog 175 m 11 (Quw b m c cs x)=some []:=by kernel_rfl
def Qly:Goroutine:=Qj prog 175 m 11 (Quw b m c cs x)
def Zc1:(Qc prog 175 m (Qly b m c cs x) undef undef).info=some (undef,undef,#[Z5 .enable],[]):=by kernel_rfl
def Qux:Goroutine:=(Qc prog 175 m (Qly b m c cs x) undef undef).get (Qly b m c cs x)
def Zc2:Qm prog 175 m 4 (Qux b m c cs x)=some [(b,false),(b,false)]:=by kernel_rfl
def Qlz:Goroutine:=Qj prog 175 m 4 (Qux b m c cs x)
def Zc3:(Qc prog 175 m (Qlz b m c cs x) undef undef).info=some (undef,undef,#[Z5 (.acquire ⟨b,0,none⟩)],[]):=by kernel_rfl
def Quy:Goroutine:=(Qc prog 175 m (Qlz b m c cs x) undef undef).get (Qlz b m c cs x)
def Zc4:Qm prog 175 m 10 (Quy b m c cs x)=some []:=by kernel_rfl
def Zc5:Qj prog 175 m 10 (Quy b m c cs x)=Rf (c.finish (.tuple #[])) cs:=by kernel_rfl
end
end Go.Proofs
end
