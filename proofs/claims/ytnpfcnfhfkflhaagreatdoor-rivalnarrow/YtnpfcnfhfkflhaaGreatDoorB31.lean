/- Lemmas of the proof. No conditions of their own. -/
import Derived.Test.YtnpfcnfhfkflhaaGreatDoorB15
set_option linter.all false
open Go.Proofs.Tryz (prog)
set_option maxRecDepth 100000
noncomputable section
namespace Go.Proofs
open Go.TM
open Go.Conc (QuitsD)
section
variable (b:Nat) (m:Bool) (c:Frame) (cs:List Frame) (x:Nat->Value)
theorem Zi3:(Qc prog 209 m (Zh b m c cs x) (Q1 6 0) (Qq 0)).info=some (Q1 6 0,Qq 0,#[Jg b 0],[(b,true)]):=by kernel_rfl
def Qte:Gr:=(Qc prog 209 m (Zh b m c cs x) (Q1 6 0) (Qq 0)).get (Zh b m c cs x)
theorem Q9w:Qm prog 209 m 48 (Qte b m c cs x)=some []:=by kernel_rfl
def Zy:Gr:=Qi prog 209 m 48 (Qte b m c cs x)
theorem Qtf:(Qc prog 209 m (Zy b m c cs x) (Q1 0 0) (Qq 0)).info=some (Q1 0 0,Qq 0,#[Jg b 0],[(b,true),(b,false),(b,false)]):=by kernel_rfl
def Wc:Gr:=(Qc prog 209 m (Zy b m c cs x) (Q1 0 0) (Qq 0)).get (Zy b m c cs x)
theorem Q9x:(Qc prog 209 m (Zy b m c cs x) (Q1 1 0) (Qq 0)).info=some (Q1 1 0,Qq 0,#[Jg b 0],[(b,true),(b,false),(b,false)]):=by kernel_rfl
theorem Q22:(Qc prog 209 m (Zy b m c cs x) (Q1 1 0) (Qq 0)).get (Zy b m c cs x)=Wc b m c cs x:=by kernel_rfl
theorem Q9y:(Qc prog 209 m (Zy b m c cs x) (Q1 2 0) (Qq 0)).info=some (Q1 2 0,Qq 0,#[Jg b 0],[(b,true),(b,false),(b,false)]):=by kernel_rfl
theorem Q23:(Qc prog 209 m (Zy b m c cs x) (Q1 2 0) (Qq 0)).get (Zy b m c cs x)=Wc b m c cs x:=by kernel_rfl
theorem Q9z:(Qc prog 209 m (Zy b m c cs x) (Q1 3 0) (Qq 0)).info=some (Q1 3 0,Qq 0,#[Jg b 0],[(b,true),(b,false),(b,false)]):=by kernel_rfl
theorem Q24:(Qc prog 209 m (Zy b m c cs x) (Q1 3 0) (Qq 0)).get (Zy b m c cs x)=Wc b m c cs x:=by kernel_rfl
theorem Q90:(Qc prog 209 m (Zy b m c cs x) (Q1 4 0) (Qq 0)).info=some (Q1 4 0,Qq 0,#[Jg b 0],[(b,true),(b,false),(b,false)]):=by kernel_rfl
theorem Q25:(Qc prog 209 m (Zy b m c cs x) (Q1 4 0) (Qq 0)).get (Zy b m c cs x)=Wc b m c cs x:=by kernel_rfl
theorem Q91:(Qc prog 209 m (Zy b m c cs x) (Q1 5 0) (Qq 0)).info=some (Q1 5 0,Qq 0,#[Jg b 0],[(b,true),(b,false),(b,false)]):=by kernel_rfl
theorem Q26:(Qc prog 209 m (Zy b m c cs x) (Q1 5 0) (Qq 0)).get (Zy b m c cs x)=Wc b m c cs x:=by kernel_rfl
theorem Qbl:Qm prog 209 m 25 (Wc b m c cs x)=some []:=by kernel_rfl
theorem Qbm:Qi prog 209 m 25 (Wc b m c cs x)=Zh b m c cs (λ i=>(Qjh (Qi prog 209 m 25 (Wc b m c cs x))).getD i undef):=by kernel_rfl
theorem Q92:(Qc prog 209 m (Zy b m c cs x) (Q1 6 0) (Qq 0)).info=some (Q1 6 1,Qq 0,#[Jg b 0,evW b 0],[(b,true),(b,true),(b,false),(b,false)]):=by kernel_rfl
def Qtg:Gr:=(Qc prog 209 m (Zy b m c cs x) (Q1 6 0) (Qq 0)).get (Zy b m c cs x)
theorem Q93:Qm prog 209 m 20 (Qtg b m c cs x)=some [(b,false),(b,false)]:=by kernel_rfl
def Qkw:Gr:=Qi prog 209 m 20 (Qtg b m c cs x)
theorem Q94:(Qc prog 209 m (Qkw b m c cs x) undef undef).info=some (undef,undef,#[Z2 (bif true then .write ⟨b,1,none⟩ else .read ⟨b,1,none⟩)],[]):=by kernel_rfl
def Qth:Gr:=(Qc prog 209 m (Qkw b m c cs x) undef undef).get (Qkw b m c cs x)
theorem Q95:Qm prog 209 m 23 (Qth b m c cs x)=some []:=by kernel_rfl
def Qa7:Gr:=Qi prog 209 m 23 (Qth b m c cs x)
theorem Q98:(Qa7 b m c cs x).offers=none:=by kernel_rfl
theorem Q99:(Qa7 b m c cs x).status=.running:=by kernel_rfl
theorem Q96 (st:Value):Qc prog 209 m (Qa7 b m c cs x) st (Qq 0)=.blocked { Qa7 b m c cs x with status:=.blocked } st (Qq 0) [(b,true)]:=by kernel_rfl
theorem Q97:(Qc prog 209 m (Qa7 b m c cs x) (Q1 0 0) (Qq 1)).info=some (Q1 0 0,Qq 0,#[Z2 .disable,Jg b 1,evW b 1,Z2 .enable],[(b,true),(b,true)]):=by kernel_rfl
def Qti:Gr:=(Qc prog 209 m (Qa7 b m c cs x) (Q1 0 0) (Qq 1)).get (Qa7 b m c cs x)
theorem Zaa:Qm prog 209 m 16 (Qti b m c cs x)=some []:=by kernel_rfl
def Qkx:Gr:=Qi prog 209 m 16 (Qti b m c cs x)
theorem Zab:(Qc prog 209 m (Qkx b m c cs x) (Q1 0 0) (Qq 0)).info=some (Q1 0 0,Qq 0,#[Jg b 0],[(b,true)]):=by kernel_rfl
def Qtj:Gr:=(Qc prog 209 m (Qkx b m c cs x) (Q1 0 0) (Qq 0)).get (Qkx b m c cs x)
theorem Zac:Qm prog 209 m 11 (Qtj b m c cs x)=some []:=by kernel_rfl
def Qky:Gr:=Qi prog 209 m 11 (Qtj b m c cs x)
theorem Zad:(Qc prog 209 m (Qky b m c cs x) undef undef).info=some (undef,undef,#[Z2 .enable],[]):=by kernel_rfl
def Qtk:Gr:=(Qc prog 209 m (Qky b m c cs x) undef undef).get (Qky b m c cs x)
theorem Zae:Qm prog 209 m 4 (Qtk b m c cs x)=some [(b,false),(b,false)]:=by kernel_rfl
def Qkz:Gr:=Qi prog 209 m 4 (Qtk b m c cs x)
theorem Zaf:(Qc prog 209 m (Qkz b m c cs x) undef undef).info=some (undef,undef,#[Z2 (.acquire ⟨b,0,none⟩)],[]):=by kernel_rfl
def Qtl:Gr:=(Qc prog 209 m (Qkz b m c cs x) undef undef).get (Qkz b m c cs x)
theorem Zag:Qm prog 209 m 10 (Qtl b m c cs x)=some []:=by kernel_rfl
theorem Zah:Qi prog 209 m 10 (Qtl b m c cs x)=Rf (c.finish (.tuple #[])) cs:=by kernel_rfl
end
end Go.Proofs
end
