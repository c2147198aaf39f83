/- Lemmas of the proof. No conditions of their own. -/
import Derived.Test.YtnpfcnfhfkflhaaGreatDoorB15
set_option linter.all false
open Go.Proofs.Tryz (prog)
set_option maxRecDepth 100000
noncomputable section
namespace Go.Proofs
open Go.TM
open Go.Conc (QuitsD)
section
variable (b:Nat) (m:Bool) (c:Frame) (cs:List Frame) (x:Nat->Value)
theorem Zi1:(Qc prog 209 m (Zh b m c cs x) (Q1 4 0) (Qq 0)).info=some (Q1 4 0,Qq 0,#[Jg b 0],[(b,true)]):=by kernel_rfl
def Qsy:Gr:=(Qc prog 209 m (Zh b m c cs x) (Q1 4 0) (Qq 0)).get (Zh b m c cs x)
theorem Q8r:Qm prog 209 m 48 (Qsy b m c cs x)=some []:=by kernel_rfl
def Jo:Gr:=Qi prog 209 m 48 (Qsy b m c cs x)
theorem Qsz:(Qc prog 209 m (Jo b m c cs x) (Q1 0 0) (Qq 0)).info=some (Q1 0 0,Qq 0,#[Jg b 0],[(b,true),(b,false),(b,false)]):=by kernel_rfl
def Qam:Gr:=(Qc prog 209 m (Jo b m c cs x) (Q1 0 0) (Qq 0)).get (Jo b m c cs x)
theorem Q8s:(Qc prog 209 m (Jo b m c cs x) (Q1 1 0) (Qq 0)).info=some (Q1 1 0,Qq 0,#[Jg b 0],[(b,true),(b,false),(b,false)]):=by kernel_rfl
theorem Q2v:(Qc prog 209 m (Jo b m c cs x) (Q1 1 0) (Qq 0)).get (Jo b m c cs x)=Qam b m c cs x:=by kernel_rfl
theorem Q8t:(Qc prog 209 m (Jo b m c cs x) (Q1 2 0) (Qq 0)).info=some (Q1 2 0,Qq 0,#[Jg b 0],[(b,true),(b,false),(b,false)]):=by kernel_rfl
theorem Q2w:(Qc prog 209 m (Jo b m c cs x) (Q1 2 0) (Qq 0)).get (Jo b m c cs x)=Qam b m c cs x:=by kernel_rfl
theorem Q8u:(Qc prog 209 m (Jo b m c cs x) (Q1 3 0) (Qq 0)).info=some (Q1 3 0,Qq 0,#[Jg b 0],[(b,true),(b,false),(b,false)]):=by kernel_rfl
theorem Q2x:(Qc prog 209 m (Jo b m c cs x) (Q1 3 0) (Qq 0)).get (Jo b m c cs x)=Qam b m c cs x:=by kernel_rfl
theorem Qfl:Qm prog 209 m 25 (Qam b m c cs x)=some []:=by kernel_rfl
theorem Qfm:Qi prog 209 m 25 (Qam b m c cs x)=Zh b m c cs (λ i=>(Qjh (Qi prog 209 m 25 (Qam b m c cs x))).getD i undef):=by kernel_rfl
theorem Q8v:(Qc prog 209 m (Jo b m c cs x) (Q1 4 0) (Qq 0)).info=some (Q1 4 1,Qq 0,#[Jg b 0,evW b 0],[(b,true),(b,true),(b,false),(b,false)]):=by kernel_rfl
def Qs0:Gr:=(Qc prog 209 m (Jo b m c cs x) (Q1 4 0) (Qq 0)).get (Jo b m c cs x)
theorem Q8w:Qm prog 209 m 20 (Qs0 b m c cs x)=some [(b,false),(b,false)]:=by kernel_rfl
def Qko:Gr:=Qi prog 209 m 20 (Qs0 b m c cs x)
theorem Q8x:(Qc prog 209 m (Qko b m c cs x) undef undef).info=some (undef,undef,#[Z2 (bif true then .write ⟨b,1,none⟩ else .read ⟨b,1,none⟩)],[]):=by kernel_rfl
def Qs1:Gr:=(Qc prog 209 m (Qko b m c cs x) undef undef).get (Qko b m c cs x)
theorem Q8y:Qm prog 209 m 23 (Qs1 b m c cs x)=some []:=by kernel_rfl
def Qa5:Gr:=Qi prog 209 m 23 (Qs1 b m c cs x)
theorem Q81:(Qa5 b m c cs x).offers=none:=by kernel_rfl
theorem Q82:(Qa5 b m c cs x).status=.running:=by kernel_rfl
theorem Q8z (st:Value):Qc prog 209 m (Qa5 b m c cs x) st (Qq 0)=.blocked { Qa5 b m c cs x with status:=.blocked } st (Qq 0) [(b,true)]:=by kernel_rfl
theorem Q80:(Qc prog 209 m (Qa5 b m c cs x) (Q1 0 0) (Qq 1)).info=some (Q1 0 0,Qq 0,#[Z2 .disable,Jg b 1,evW b 1,Z2 .enable],[(b,true),(b,true)]):=by kernel_rfl
def Qs2:Gr:=(Qc prog 209 m (Qa5 b m c cs x) (Q1 0 0) (Qq 1)).get (Qa5 b m c cs x)
theorem Q83:Qm prog 209 m 16 (Qs2 b m c cs x)=some []:=by kernel_rfl
def Qkp:Gr:=Qi prog 209 m 16 (Qs2 b m c cs x)
theorem Q84:(Qc prog 209 m (Qkp b m c cs x) (Q1 0 0) (Qq 0)).info=some (Q1 0 0,Qq 0,#[Jg b 0],[(b,true)]):=by kernel_rfl
def Qs3:Gr:=(Qc prog 209 m (Qkp b m c cs x) (Q1 0 0) (Qq 0)).get (Qkp b m c cs x)
theorem Q85:Qm prog 209 m 11 (Qs3 b m c cs x)=some []:=by kernel_rfl
def Qkq:Gr:=Qi prog 209 m 11 (Qs3 b m c cs x)
theorem Q86:(Qc prog 209 m (Qkq b m c cs x) undef undef).info=some (undef,undef,#[Z2 .enable],[]):=by kernel_rfl
def Qs4:Gr:=(Qc prog 209 m (Qkq b m c cs x) undef undef).get (Qkq b m c cs x)
theorem Q87:Qm prog 209 m 4 (Qs4 b m c cs x)=some [(b,false),(b,false)]:=by kernel_rfl
def Qkr:Gr:=Qi prog 209 m 4 (Qs4 b m c cs x)
theorem Q88:(Qc prog 209 m (Qkr b m c cs x) undef undef).info=some (undef,undef,#[Z2 (.acquire ⟨b,0,none⟩)],[]):=by kernel_rfl
def Qs5:Gr:=(Qc prog 209 m (Qkr b m c cs x) undef undef).get (Qkr b m c cs x)
theorem Q89:Qm prog 209 m 10 (Qs5 b m c cs x)=some []:=by kernel_rfl
theorem Q9a:Qi prog 209 m 10 (Qs5 b m c cs x)=Rf (c.finish (.tuple #[])) cs:=by kernel_rfl
end
end Go.Proofs
end
