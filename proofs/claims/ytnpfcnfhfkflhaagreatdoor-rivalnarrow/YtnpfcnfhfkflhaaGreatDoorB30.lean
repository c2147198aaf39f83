/- Lemmas of the proof. No conditions of their own. -/
import Derived.Test.YtnpfcnfhfkflhaaGreatDoorB15
set_option linter.all false
open Go.Proofs.Tryz (prog)
set_option maxRecDepth 100000
noncomputable section
namespace Go.Proofs
open Go.TM
open Go.Conc (QuitsD)
section
variable (b:Nat) (m:Bool) (c:Frame) (cs:List Frame) (x:Nat->Value)
theorem Zi2:(Qc prog 209 m (Zh b m c cs x) (Q1 5 0) (Qq 0)).info=some (Q1 5 0,Qq 0,#[Jg b 0],[(b,true)]):=by kernel_rfl
def Qs6:Gr:=(Qc prog 209 m (Zh b m c cs x) (Q1 5 0) (Qq 0)).get (Zh b m c cs x)
theorem Q9b:Qm prog 209 m 48 (Qs6 b m c cs x)=some []:=by kernel_rfl
def Z6:Gr:=Qi prog 209 m 48 (Qs6 b m c cs x)
theorem Qs7:(Qc prog 209 m (Z6 b m c cs x) (Q1 0 0) (Qq 0)).info=some (Q1 0 0,Qq 0,#[Jg b 0],[(b,true),(b,false),(b,false)]):=by kernel_rfl
def Ww:Gr:=(Qc prog 209 m (Z6 b m c cs x) (Q1 0 0) (Qq 0)).get (Z6 b m c cs x)
theorem Q9c:(Qc prog 209 m (Z6 b m c cs x) (Q1 1 0) (Qq 0)).info=some (Q1 1 0,Qq 0,#[Jg b 0],[(b,true),(b,false),(b,false)]):=by kernel_rfl
theorem Q2y:(Qc prog 209 m (Z6 b m c cs x) (Q1 1 0) (Qq 0)).get (Z6 b m c cs x)=Ww b m c cs x:=by kernel_rfl
theorem Q9d:(Qc prog 209 m (Z6 b m c cs x) (Q1 2 0) (Qq 0)).info=some (Q1 2 0,Qq 0,#[Jg b 0],[(b,true),(b,false),(b,false)]):=by kernel_rfl
theorem Q2z:(Qc prog 209 m (Z6 b m c cs x) (Q1 2 0) (Qq 0)).get (Z6 b m c cs x)=Ww b m c cs x:=by kernel_rfl
theorem Q9e:(Qc prog 209 m (Z6 b m c cs x) (Q1 3 0) (Qq 0)).info=some (Q1 3 0,Qq 0,#[Jg b 0],[(b,true),(b,false),(b,false)]):=by kernel_rfl
theorem Q20:(Qc prog 209 m (Z6 b m c cs x) (Q1 3 0) (Qq 0)).get (Z6 b m c cs x)=Ww b m c cs x:=by kernel_rfl
theorem Q9f:(Qc prog 209 m (Z6 b m c cs x) (Q1 4 0) (Qq 0)).info=some (Q1 4 0,Qq 0,#[Jg b 0],[(b,true),(b,false),(b,false)]):=by kernel_rfl
theorem Q21:(Qc prog 209 m (Z6 b m c cs x) (Q1 4 0) (Qq 0)).get (Z6 b m c cs x)=Ww b m c cs x:=by kernel_rfl
theorem Qcs:Qm prog 209 m 25 (Ww b m c cs x)=some []:=by kernel_rfl
theorem Qct:Qi prog 209 m 25 (Ww b m c cs x)=Zh b m c cs (λ i=>(Qjh (Qi prog 209 m 25 (Ww b m c cs x))).getD i undef):=by kernel_rfl
theorem Q9g:(Qc prog 209 m (Z6 b m c cs x) (Q1 5 0) (Qq 0)).info=some (Q1 5 1,Qq 0,#[Jg b 0,evW b 0],[(b,true),(b,true),(b,false),(b,false)]):=by kernel_rfl
def Qs8:Gr:=(Qc prog 209 m (Z6 b m c cs x) (Q1 5 0) (Qq 0)).get (Z6 b m c cs x)
theorem Q9h:Qm prog 209 m 20 (Qs8 b m c cs x)=some [(b,false),(b,false)]:=by kernel_rfl
def Qks:Gr:=Qi prog 209 m 20 (Qs8 b m c cs x)
theorem Q9i:(Qc prog 209 m (Qks b m c cs x) undef undef).info=some (undef,undef,#[Z2 (bif true then .write ⟨b,1,none⟩ else .read ⟨b,1,none⟩)],[]):=by kernel_rfl
def Qs9:Gr:=(Qc prog 209 m (Qks b m c cs x) undef undef).get (Qks b m c cs x)
theorem Q9j:Qm prog 209 m 23 (Qs9 b m c cs x)=some []:=by kernel_rfl
def Qa6:Gr:=Qi prog 209 m 23 (Qs9 b m c cs x)
theorem Q9m:(Qa6 b m c cs x).offers=none:=by kernel_rfl
theorem Q9n:(Qa6 b m c cs x).status=.running:=by kernel_rfl
theorem Q9k (st:Value):Qc prog 209 m (Qa6 b m c cs x) st (Qq 0)=.blocked { Qa6 b m c cs x with status:=.blocked } st (Qq 0) [(b,true)]:=by kernel_rfl
theorem Q9l:(Qc prog 209 m (Qa6 b m c cs x) (Q1 0 0) (Qq 1)).info=some (Q1 0 0,Qq 0,#[Z2 .disable,Jg b 1,evW b 1,Z2 .enable],[(b,true),(b,true)]):=by kernel_rfl
def Qta:Gr:=(Qc prog 209 m (Qa6 b m c cs x) (Q1 0 0) (Qq 1)).get (Qa6 b m c cs x)
theorem Q9o:Qm prog 209 m 16 (Qta b m c cs x)=some []:=by kernel_rfl
def Qkt:Gr:=Qi prog 209 m 16 (Qta b m c cs x)
theorem Q9p:(Qc prog 209 m (Qkt b m c cs x) (Q1 0 0) (Qq 0)).info=some (Q1 0 0,Qq 0,#[Jg b 0],[(b,true)]):=by kernel_rfl
def Qtb:Gr:=(Qc prog 209 m (Qkt b m c cs x) (Q1 0 0) (Qq 0)).get (Qkt b m c cs x)
theorem Q9q:Qm prog 209 m 11 (Qtb b m c cs x)=some []:=by kernel_rfl
def Qku:Gr:=Qi prog 209 m 11 (Qtb b m c cs x)
theorem Q9r:(Qc prog 209 m (Qku b m c cs x) undef undef).info=some (undef,undef,#[Z2 .enable],[]):=by kernel_rfl
def Qtc:Gr:=(Qc prog 209 m (Qku b m c cs x) undef undef).get (Qku b m c cs x)
theorem Q9s:Qm prog 209 m 4 (Qtc b m c cs x)=some [(b,false),(b,false)]:=by kernel_rfl
def Qkv:Gr:=Qi prog 209 m 4 (Qtc b m c cs x)
theorem Q9t:(Qc prog 209 m (Qkv b m c cs x) undef undef).info=some (undef,undef,#[Z2 (.acquire ⟨b,0,none⟩)],[]):=by kernel_rfl
def Qtd:Gr:=(Qc prog 209 m (Qkv b m c cs x) undef undef).get (Qkv b m c cs x)
theorem Q9u:Qm prog 209 m 10 (Qtd b m c cs x)=some []:=by kernel_rfl
theorem Q9v:Qi prog 209 m 10 (Qtd b m c cs x)=Rf (c.finish (.tuple #[])) cs:=by kernel_rfl
end
end Go.Proofs
end
