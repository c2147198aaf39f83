/- Lemmas. No conditions. -/
import Derived.Test.YtnjljnhoaafkiaaGreatDoorB13
set_option linter.all false
set_option maxRecDepth 100000
open Go.Proofs.Tryz (prog)
noncomputable section
namespace Go.TM
open Go.Proofs
section
open Go.Conc (QuitsD)
variable(b:Nat)(m:Bool)(c:Frame)(cs:List Frame)(x:Nat->Value)
def gr:(Qc prog 176 m (Zh b m c cs x) (Q0 1 0) (Qp 0)).info=some (Q0 1 0,Qp 0,#[Jc b 0],[(b,true)]):=K1
def Td:Gr:=(Qc prog 176 m (Zh b m c cs x) (Q0 1 0) (Qp 0)).get (Zh b m c cs x)
def RY:Qm prog 176 m 48 (Td b m c cs x)=some []:=K1
def Ha:Gr:=Qj prog 176 m 48 (Td b m c cs x)
def EW:(Qc prog 176 m (Ha b m c cs x) (Q0 0 0) (Qp 0)).info=some (Q0 0 0,Qp 0,#[Jc b 0],[(b,true),(b,false),(b,false)]):=K1
def Kv:Gr:=(Qc prog 176 m (Ha b m c cs x) (Q0 0 0) (Qp 0)).get (Ha b m c cs x)
def A4:Qm prog 176 m 25 (Kv b m c cs x)=some []:=K1
def A7:Qj prog 176 m 25 (Kv b m c cs x)=Zh b m c cs (λ i=>(HR (Qj prog 176 m 25 (Kv b m c cs x))).getD i undef):=K1
def RZ:(Qc prog 176 m (Ha b m c cs x) (Q0 1 0) (Qp 0)).info=some (Q0 1 1,Qp 0,#[Jc b 0,QA b 0],[(b,true),(b,true),(b,false),(b,false)]):=K1
def Te:Gr:=(Qc prog 176 m (Ha b m c cs x) (Q0 1 0) (Qp 0)).get (Ha b m c cs x)
def R_:Qm prog 176 m 20 (Te b m c cs x)=some [(b,false),(b,false)]:=K1
def Ku:Gr:=Qj prog 176 m 20 (Te b m c cs x)
def A0:(Qc prog 176 m (Ku b m c cs x) undef undef).info=some (undef,undef,#[Z0 (bif true then .write ⟨b,1,none⟩else .read ⟨b,1,none⟩)],[]):=K1
def Tf:Gr:=(Qc prog 176 m (Ku b m c cs x) undef undef).get (Ku b m c cs x)
def A3:Qm prog 176 m 23 (Tf b m c cs x)=some []:=K1
def XP:Gr:=Qj prog 176 m 23 (Tf b m c cs x)
def Aa:(XP b m c cs x).offers=none:=K1
def Ab:(XP b m c cs x).status=.running:=K1
def A8(st:Value):Qc prog 176 m (XP b m c cs x) st (Qp 0)=.blocked { XP b m c cs x with status:=.blocked } st (Qp 0) [(b,true)]:=K1
def A9:(Qc prog 176 m (XP b m c cs x) (Q0 0 0) (Qp 1)).info=some (Q0 0 0,Qp 0,#[Z0 .disable,Jc b 1,QA b 1,Z0 .enable],[(b,true),(b,true)]):=K1
def Tg:Gr:=(Qc prog 176 m (XP b m c cs x) (Q0 0 0) (Qp 1)).get (XP b m c cs x)
def Ac:Qm prog 176 m 16 (Tg b m c cs x)=some []:=K1
def Kw:Gr:=Qj prog 176 m 16 (Tg b m c cs x)
def Ad:(Qc prog 176 m (Kw b m c cs x) (Q0 0 0) (Qp 0)).info=some (Q0 0 0,Qp 0,#[Jc b 0],[(b,true)]):=K1
def Th:Gr:=(Qc prog 176 m (Kw b m c cs x) (Q0 0 0) (Qp 0)).get (Kw b m c cs x)
def Ae:Qm prog 176 m 11 (Th b m c cs x)=some []:=K1
def Kx:Gr:=Qj prog 176 m 11 (Th b m c cs x)
def Af:(Qc prog 176 m (Kx b m c cs x) undef undef).info=some (undef,undef,#[Z0 .enable],[]):=K1
def Ti:Gr:=(Qc prog 176 m (Kx b m c cs x) undef undef).get (Kx b m c cs x)
def Ag:Qm prog 176 m 4 (Ti b m c cs x)=some [(b,false),(b,false)]:=K1
def Ky:Gr:=Qj prog 176 m 4 (Ti b m c cs x)
def Ah:(Qc prog 176 m (Ky b m c cs x) undef undef).info=some (undef,undef,#[Z0 (.acquire ⟨b,0,none⟩)],[]):=K1
def Tj:Gr:=(Qc prog 176 m (Ky b m c cs x) undef undef).get (Ky b m c cs x)
def Ai:Qm prog 176 m 10 (Tj b m c cs x)=some []:=K1
def Aj:Qj prog 176 m 10 (Tj b m c cs x)=Rf (c.finish (.tuple #[])) cs:=K1
