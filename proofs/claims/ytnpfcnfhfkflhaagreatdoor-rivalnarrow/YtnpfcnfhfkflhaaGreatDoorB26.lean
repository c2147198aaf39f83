/- Lemmas of the proof. No conditions of their own. -/
import Derived.Test.YtnpfcnfhfkflhaaGreatDoorB15
set_option linter.all false
open Go.Proofs.Tryz (prog)
set_option maxRecDepth 100000
noncomputable section
namespace Go.Proofs
open Go.TM
open Go.Conc (QuitsD)
section
variable (b:Nat) (m:Bool) (c:Frame) (cs:List Frame) (x:Nat->Value)
theorem Ziy:(Qc prog 209 m (Zh b m c cs x) (Q1 1 0) (Qq 0)).info=some (Q1 1 0,Qq 0,#[Jg b 0],[(b,true)]):=by kernel_rfl
def Qr8:Gr:=(Qc prog 209 m (Zh b m c cs x) (Q1 1 0) (Qq 0)).get (Zh b m c cs x)
theorem Q67:Qm prog 209 m 48 (Qr8 b m c cs x)=some []:=by kernel_rfl
def Qbx:Gr:=Qi prog 209 m 48 (Qr8 b m c cs x)
theorem Qr9:(Qc prog 209 m (Qbx b m c cs x) (Q1 0 0) (Qq 0)).info=some (Q1 0 0,Qq 0,#[Jg b 0],[(b,true),(b,false),(b,false)]):=by kernel_rfl
def Qkc:Gr:=(Qc prog 209 m (Qbx b m c cs x) (Q1 0 0) (Qq 0)).get (Qbx b m c cs x)
theorem Q7c:Qm prog 209 m 25 (Qkc b m c cs x)=some []:=by kernel_rfl
theorem Q7d:Qi prog 209 m 25 (Qkc b m c cs x)=Zh b m c cs (λ i=>(Qjh (Qi prog 209 m 25 (Qkc b m c cs x))).getD i undef):=by kernel_rfl
theorem Q68:(Qc prog 209 m (Qbx b m c cs x) (Q1 1 0) (Qq 0)).info=some (Q1 1 1,Qq 0,#[Jg b 0,evW b 0],[(b,true),(b,true),(b,false),(b,false)]):=by kernel_rfl
def Qsa:Gr:=(Qc prog 209 m (Qbx b m c cs x) (Q1 1 0) (Qq 0)).get (Qbx b m c cs x)
theorem Q69:Qm prog 209 m 20 (Qsa b m c cs x)=some [(b,false),(b,false)]:=by kernel_rfl
def Qkb:Gr:=Qi prog 209 m 20 (Qsa b m c cs x)
theorem Q7a:(Qc prog 209 m (Qkb b m c cs x) undef undef).info=some (undef,undef,#[Z2 (bif true then .write ⟨b,1,none⟩ else .read ⟨b,1,none⟩)],[]):=by kernel_rfl
def Qsb:Gr:=(Qc prog 209 m (Qkb b m c cs x) undef undef).get (Qkb b m c cs x)
theorem Q7b:Qm prog 209 m 23 (Qsb b m c cs x)=some []:=by kernel_rfl
def Qa2:Gr:=Qi prog 209 m 23 (Qsb b m c cs x)
theorem Q7g:(Qa2 b m c cs x).offers=none:=by kernel_rfl
theorem Q7h:(Qa2 b m c cs x).status=.running:=by kernel_rfl
theorem Q7e (st:Value):Qc prog 209 m (Qa2 b m c cs x) st (Qq 0)=.blocked { Qa2 b m c cs x with status:=.blocked } st (Qq 0) [(b,true)]:=by kernel_rfl
theorem Q7f:(Qc prog 209 m (Qa2 b m c cs x) (Q1 0 0) (Qq 1)).info=some (Q1 0 0,Qq 0,#[Z2 .disable,Jg b 1,evW b 1,Z2 .enable],[(b,true),(b,true)]):=by kernel_rfl
def Qsc:Gr:=(Qc prog 209 m (Qa2 b m c cs x) (Q1 0 0) (Qq 1)).get (Qa2 b m c cs x)
theorem Q7i:Qm prog 209 m 16 (Qsc b m c cs x)=some []:=by kernel_rfl
def Qkd:Gr:=Qi prog 209 m 16 (Qsc b m c cs x)
theorem Q7j:(Qc prog 209 m (Qkd b m c cs x) (Q1 0 0) (Qq 0)).info=some (Q1 0 0,Qq 0,#[Jg b 0],[(b,true)]):=by kernel_rfl
def Qsd:Gr:=(Qc prog 209 m (Qkd b m c cs x) (Q1 0 0) (Qq 0)).get (Qkd b m c cs x)
theorem Q7k:Qm prog 209 m 11 (Qsd b m c cs x)=some []:=by kernel_rfl
def Qke:Gr:=Qi prog 209 m 11 (Qsd b m c cs x)
theorem Q7l:(Qc prog 209 m (Qke b m c cs x) undef undef).info=some (undef,undef,#[Z2 .enable],[]):=by kernel_rfl
def Qse:Gr:=(Qc prog 209 m (Qke b m c cs x) undef undef).get (Qke b m c cs x)
theorem Q7m:Qm prog 209 m 4 (Qse b m c cs x)=some [(b,false),(b,false)]:=by kernel_rfl
def Qkf:Gr:=Qi prog 209 m 4 (Qse b m c cs x)
theorem Q7n:(Qc prog 209 m (Qkf b m c cs x) undef undef).info=some (undef,undef,#[Z2 (.acquire ⟨b,0,none⟩)],[]):=by kernel_rfl
def Qsf:Gr:=(Qc prog 209 m (Qkf b m c cs x) undef undef).get (Qkf b m c cs x)
theorem Q7o:Qm prog 209 m 10 (Qsf b m c cs x)=some []:=by kernel_rfl
theorem Q7p:Qi prog 209 m 10 (Qsf b m c cs x)=Rf (c.finish (.tuple #[])) cs:=by kernel_rfl
end
end Go.Proofs
end
