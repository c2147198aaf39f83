/- Lemmas of the proof. No conditions of their own. -/
import Derived.Test.YtnpfcnfhfkflhaaGreatDoorB15
set_option linter.all false
open Go.Proofs.Tryz (prog)
set_option maxRecDepth 100000
noncomputable section
namespace Go.Proofs
open Go.TM
open Go.Conc (QuitsD)
section
variable (b:Nat) (m:Bool) (c:Frame) (cs:List Frame) (x:Nat->Value)
theorem Zi0:(Qc prog 209 m (Zh b m c cs x) (Q1 3 0) (Qq 0)).info=some (Q1 3 0,Qq 0,#[Jg b 0],[(b,true)]):=by kernel_rfl
def Qsq:Gr:=(Qc prog 209 m (Zh b m c cs x) (Q1 3 0) (Qq 0)).get (Zh b m c cs x)
theorem Q78:Qm prog 209 m 48 (Qsq b m c cs x)=some []:=by kernel_rfl
def Wb:Gr:=Qi prog 209 m 48 (Qsq b m c cs x)
theorem Qsr:(Qc prog 209 m (Wb b m c cs x) (Q1 0 0) (Qq 0)).info=some (Q1 0 0,Qq 0,#[Jg b 0],[(b,true),(b,false),(b,false)]):=by kernel_rfl
def Qby:Gr:=(Qc prog 209 m (Wb b m c cs x) (Q1 0 0) (Qq 0)).get (Wb b m c cs x)
theorem Q79:(Qc prog 209 m (Wb b m c cs x) (Q1 1 0) (Qq 0)).info=some (Q1 1 0,Qq 0,#[Jg b 0],[(b,true),(b,false),(b,false)]):=by kernel_rfl
theorem Q2t:(Qc prog 209 m (Wb b m c cs x) (Q1 1 0) (Qq 0)).get (Wb b m c cs x)=Qby b m c cs x:=by kernel_rfl
theorem Q8a:(Qc prog 209 m (Wb b m c cs x) (Q1 2 0) (Qq 0)).info=some (Q1 2 0,Qq 0,#[Jg b 0],[(b,true),(b,false),(b,false)]):=by kernel_rfl
theorem Q2u:(Qc prog 209 m (Wb b m c cs x) (Q1 2 0) (Qq 0)).get (Wb b m c cs x)=Qby b m c cs x:=by kernel_rfl
theorem Qi7:Qm prog 209 m 25 (Qby b m c cs x)=some []:=by kernel_rfl
theorem Qi8:Qi prog 209 m 25 (Qby b m c cs x)=Zh b m c cs (λ i=>(Qjh (Qi prog 209 m 25 (Qby b m c cs x))).getD i undef):=by kernel_rfl
theorem Q8b:(Qc prog 209 m (Wb b m c cs x) (Q1 3 0) (Qq 0)).info=some (Q1 3 1,Qq 0,#[Jg b 0,evW b 0],[(b,true),(b,true),(b,false),(b,false)]):=by kernel_rfl
def Qss:Gr:=(Qc prog 209 m (Wb b m c cs x) (Q1 3 0) (Qq 0)).get (Wb b m c cs x)
theorem Q8c:Qm prog 209 m 20 (Qss b m c cs x)=some [(b,false),(b,false)]:=by kernel_rfl
def Qkk:Gr:=Qi prog 209 m 20 (Qss b m c cs x)
theorem Q8d:(Qc prog 209 m (Qkk b m c cs x) undef undef).info=some (undef,undef,#[Z2 (bif true then .write ⟨b,1,none⟩ else .read ⟨b,1,none⟩)],[]):=by kernel_rfl
def Qst:Gr:=(Qc prog 209 m (Qkk b m c cs x) undef undef).get (Qkk b m c cs x)
theorem Q8e:Qm prog 209 m 23 (Qst b m c cs x)=some []:=by kernel_rfl
def Qa4:Gr:=Qi prog 209 m 23 (Qst b m c cs x)
theorem Q8h:(Qa4 b m c cs x).offers=none:=by kernel_rfl
theorem Q8i:(Qa4 b m c cs x).status=.running:=by kernel_rfl
theorem Q8f (st:Value):Qc prog 209 m (Qa4 b m c cs x) st (Qq 0)=.blocked { Qa4 b m c cs x with status:=.blocked } st (Qq 0) [(b,true)]:=by kernel_rfl
theorem Q8g:(Qc prog 209 m (Qa4 b m c cs x) (Q1 0 0) (Qq 1)).info=some (Q1 0 0,Qq 0,#[Z2 .disable,Jg b 1,evW b 1,Z2 .enable],[(b,true),(b,true)]):=by kernel_rfl
def Qsu:Gr:=(Qc prog 209 m (Qa4 b m c cs x) (Q1 0 0) (Qq 1)).get (Qa4 b m c cs x)
theorem Q8j:Qm prog 209 m 16 (Qsu b m c cs x)=some []:=by kernel_rfl
def Qkl:Gr:=Qi prog 209 m 16 (Qsu b m c cs x)
theorem Q8k:(Qc prog 209 m (Qkl b m c cs x) (Q1 0 0) (Qq 0)).info=some (Q1 0 0,Qq 0,#[Jg b 0],[(b,true)]):=by kernel_rfl
def Qsv:Gr:=(Qc prog 209 m (Qkl b m c cs x) (Q1 0 0) (Qq 0)).get (Qkl b m c cs x)
theorem Q8l:Qm prog 209 m 11 (Qsv b m c cs x)=some []:=by kernel_rfl
def Qkm:Gr:=Qi prog 209 m 11 (Qsv b m c cs x)
theorem Q8m:(Qc prog 209 m (Qkm b m c cs x) undef undef).info=some (undef,undef,#[Z2 .enable],[]):=by kernel_rfl
def Qsw:Gr:=(Qc prog 209 m (Qkm b m c cs x) undef undef).get (Qkm b m c cs x)
theorem Q8n:Qm prog 209 m 4 (Qsw b m c cs x)=some [(b,false),(b,false)]:=by kernel_rfl
def Qkn:Gr:=Qi prog 209 m 4 (Qsw b m c cs x)
theorem Q8o:(Qc prog 209 m (Qkn b m c cs x) undef undef).info=some (undef,undef,#[Z2 (.acquire ⟨b,0,none⟩)],[]):=by kernel_rfl
def Qsx:Gr:=(Qc prog 209 m (Qkn b m c cs x) undef undef).get (Qkn b m c cs x)
theorem Q8p:Qm prog 209 m 10 (Qsx b m c cs x)=some []:=by kernel_rfl
theorem Q8q:Qi prog 209 m 10 (Qsx b m c cs x)=Rf (c.finish (.tuple #[])) cs:=by kernel_rfl
end
end Go.Proofs
end
