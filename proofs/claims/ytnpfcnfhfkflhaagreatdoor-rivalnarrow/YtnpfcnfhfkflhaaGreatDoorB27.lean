/- Lemmas of the proof. No conditions of their own. -/
import Derived.Test.YtnpfcnfhfkflhaaGreatDoorB15
set_option linter.all false
open Go.Proofs.Tryz (prog)
set_option maxRecDepth 100000
noncomputable section
namespace Go.Proofs
open Go.TM
open Go.Conc (QuitsD)
section
variable (b:Nat) (m:Bool) (c:Frame) (cs:List Frame) (x:Nat->Value)
theorem Ziz:(Qc prog 209 m (Zh b m c cs x) (Q1 2 0) (Qq 0)).info=some (Q1 2 0,Qq 0,#[Jg b 0],[(b,true)]):=by kernel_rfl
def Qsg:Gr:=(Qc prog 209 m (Zh b m c cs x) (Q1 2 0) (Qq 0)).get (Zh b m c cs x)
theorem Q7q:Qm prog 209 m 48 (Qsg b m c cs x)=some []:=by kernel_rfl
def W3:Gr:=Qi prog 209 m 48 (Qsg b m c cs x)
theorem Qsh:(Qc prog 209 m (W3 b m c cs x) (Q1 0 0) (Qq 0)).info=some (Q1 0 0,Qq 0,#[Jg b 0],[(b,true),(b,false),(b,false)]):=by kernel_rfl
def Qe3:Gr:=(Qc prog 209 m (W3 b m c cs x) (Q1 0 0) (Qq 0)).get (W3 b m c cs x)
theorem Q7r:(Qc prog 209 m (W3 b m c cs x) (Q1 1 0) (Qq 0)).info=some (Q1 1 0,Qq 0,#[Jg b 0],[(b,true),(b,false),(b,false)]):=by kernel_rfl
theorem Q2s:(Qc prog 209 m (W3 b m c cs x) (Q1 1 0) (Qq 0)).get (W3 b m c cs x)=Qe3 b m c cs x:=by kernel_rfl
theorem Qsk:Qm prog 209 m 25 (Qe3 b m c cs x)=some []:=by kernel_rfl
theorem Qsl:Qi prog 209 m 25 (Qe3 b m c cs x)=Zh b m c cs (λ i=>(Qjh (Qi prog 209 m 25 (Qe3 b m c cs x))).getD i undef):=by kernel_rfl
theorem Q7s:(Qc prog 209 m (W3 b m c cs x) (Q1 2 0) (Qq 0)).info=some (Q1 2 1,Qq 0,#[Jg b 0,evW b 0],[(b,true),(b,true),(b,false),(b,false)]):=by kernel_rfl
def Qsi:Gr:=(Qc prog 209 m (W3 b m c cs x) (Q1 2 0) (Qq 0)).get (W3 b m c cs x)
theorem Q7t:Qm prog 209 m 20 (Qsi b m c cs x)=some [(b,false),(b,false)]:=by kernel_rfl
def Qkg:Gr:=Qi prog 209 m 20 (Qsi b m c cs x)
theorem Q7u:(Qc prog 209 m (Qkg b m c cs x) undef undef).info=some (undef,undef,#[Z2 (bif true then .write ⟨b,1,none⟩ else .read ⟨b,1,none⟩)],[]):=by kernel_rfl
def Qsj:Gr:=(Qc prog 209 m (Qkg b m c cs x) undef undef).get (Qkg b m c cs x)
theorem Q7v:Qm prog 209 m 23 (Qsj b m c cs x)=some []:=by kernel_rfl
def Qa3:Gr:=Qi prog 209 m 23 (Qsj b m c cs x)
theorem Q7y:(Qa3 b m c cs x).offers=none:=by kernel_rfl
theorem Q7z:(Qa3 b m c cs x).status=.running:=by kernel_rfl
theorem Q7w (st:Value):Qc prog 209 m (Qa3 b m c cs x) st (Qq 0)=.blocked { Qa3 b m c cs x with status:=.blocked } st (Qq 0) [(b,true)]:=by kernel_rfl
theorem Q7x:(Qc prog 209 m (Qa3 b m c cs x) (Q1 0 0) (Qq 1)).info=some (Q1 0 0,Qq 0,#[Z2 .disable,Jg b 1,evW b 1,Z2 .enable],[(b,true),(b,true)]):=by kernel_rfl
def Qsm:Gr:=(Qc prog 209 m (Qa3 b m c cs x) (Q1 0 0) (Qq 1)).get (Qa3 b m c cs x)
theorem Q70:Qm prog 209 m 16 (Qsm b m c cs x)=some []:=by kernel_rfl
def Qkh:Gr:=Qi prog 209 m 16 (Qsm b m c cs x)
theorem Q71:(Qc prog 209 m (Qkh b m c cs x) (Q1 0 0) (Qq 0)).info=some (Q1 0 0,Qq 0,#[Jg b 0],[(b,true)]):=by kernel_rfl
def Qsn:Gr:=(Qc prog 209 m (Qkh b m c cs x) (Q1 0 0) (Qq 0)).get (Qkh b m c cs x)
theorem Q72:Qm prog 209 m 11 (Qsn b m c cs x)=some []:=by kernel_rfl
def Qki:Gr:=Qi prog 209 m 11 (Qsn b m c cs x)
theorem Q73:(Qc prog 209 m (Qki b m c cs x) undef undef).info=some (undef,undef,#[Z2 .enable],[]):=by kernel_rfl
def Qso:Gr:=(Qc prog 209 m (Qki b m c cs x) undef undef).get (Qki b m c cs x)
theorem Q74:Qm prog 209 m 4 (Qso b m c cs x)=some [(b,false),(b,false)]:=by kernel_rfl
def Qkj:Gr:=Qi prog 209 m 4 (Qso b m c cs x)
theorem Q75:(Qc prog 209 m (Qkj b m c cs x) undef undef).info=some (undef,undef,#[Z2 (.acquire ⟨b,0,none⟩)],[]):=by kernel_rfl
def Qsp:Gr:=(Qc prog 209 m (Qkj b m c cs x) undef undef).get (Qkj b m c cs x)
theorem Q76:Qm prog 209 m 10 (Qsp b m c cs x)=some []:=by kernel_rfl
theorem Q77:Qi prog 209 m 10 (Qsp b m c cs x)=Rf (c.finish (.tuple #[])) cs:=by kernel_rfl
end
end Go.Proofs
end
