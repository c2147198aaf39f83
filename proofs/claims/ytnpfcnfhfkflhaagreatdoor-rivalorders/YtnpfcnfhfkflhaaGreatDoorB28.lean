/- Lemmas. No conditions. -/
import Derived.Test.YtnpfcnfhfkflhaaGreatDoorB15
set_option linter.all false
open Go.Proofs.Tryz (prog)
set_option maxRecDepth 100000
noncomputable section
namespace Go.Proofs
open Go.TM
open Go.Conc (QuitsD)
section
variable(b:Nat)(m:Bool)(c:Frame)(cs:List Frame)(x:Nat->Value)
def yI:(Qc prog 209 m (Zh b m c cs x) (Q1 3 0) (Qq 0)).info=some (Q1 3 0,Qq 0,#[Jg b 0],[(b,true)]):=K1
def Uq:Gr:=(Qc prog 209 m (Zh b m c cs x) (Q1 3 0) (Qq 0)).get (Zh b m c cs x)
def Rw:Qm prog 209 m 48 (Uq b m c cs x)=some []:=K1
def Wb:Gr:=Qi prog 209 m 48 (Uq b m c cs x)
def IT:(Qc prog 209 m (Wb b m c cs x) (Q1 0 0) (Qq 0)).info=some (Q1 0 0,Qq 0,#[Jg b 0],[(b,true),(b,false),(b,false)]):=K1
def HB:Gr:=(Qc prog 209 m (Wb b m c cs x) (Q1 0 0) (Qq 0)).get (Wb b m c cs x)
def zJ:(Qc prog 209 m (Wb b m c cs x) (Q1 1 0) (Qq 0)).info=some (Q1 1 0,Qq 0,#[Jg b 0],[(b,true),(b,false),(b,false)]):=K1
def Nu:(Qc prog 209 m (Wb b m c cs x) (Q1 1 0) (Qq 0)).get (Wb b m c cs x)=HB b m c cs x:=K1
def jw:(Qc prog 209 m (Wb b m c cs x) (Q1 2 0) (Qq 0)).info=some (Q1 2 0,Qq 0,#[Jg b 0],[(b,true),(b,false),(b,false)]):=K1
def AN:(Qc prog 209 m (Wb b m c cs x) (Q1 2 0) (Qq 0)).get (Wb b m c cs x)=HB b m c cs x:=K1
def Tw:Qm prog 209 m 25 (HB b m c cs x)=some []:=K1
def OE:Qi prog 209 m 25 (HB b m c cs x)=Zh b m c cs (λ i=>(HF (Qi prog 209 m 25 (HB b m c cs x))).getD i undef):=K1
def xu:(Qc prog 209 m (Wb b m c cs x) (Q1 3 0) (Qq 0)).info=some (Q1 3 1,Qq 0,#[Jg b 0,QB b 0],[(b,true),(b,true),(b,false),(b,false)]):=K1
def TG:Gr:=(Qc prog 209 m (Wb b m c cs x) (Q1 3 0) (Qq 0)).get (Wb b m c cs x)
def Nm:Qm prog 209 m 20 (TG b m c cs x)=some [(b,false),(b,false)]:=K1
def Vx:Gr:=Qi prog 209 m 20 (TG b m c cs x)
def gO:(Qc prog 209 m (Vx b m c cs x) undef undef).info=some (undef,undef,#[Z2 (bif true then .write ⟨b,1,none⟩else .read ⟨b,1,none⟩)],[]):=K1
def Tj:Gr:=(Qc prog 209 m (Vx b m c cs x) undef undef).get (Vx b m c cs x)
def kY:Qm prog 209 m 23 (Tj b m c cs x)=some []:=K1
def XV:Gr:=Qi prog 209 m 23 (Tj b m c cs x)
def BZ:(XV b m c cs x).offers=none:=K1
def zL:(XV b m c cs x).status=.running:=K1
def yV(st:Value):Qc prog 209 m (XV b m c cs x) st (Qq 0)=.blocked { XV b m c cs x with status:=.blocked } st (Qq 0) [(b,true)]:=K1
def qi:(Qc prog 209 m (XV b m c cs x) (Q1 0 0) (Qq 1)).info=some (Q1 0 0,Qq 0,#[Z2 .disable,Jg b 1,QB b 1,Z2 .enable],[(b,true),(b,true)]):=K1
def Un:Gr:=(Qc prog 209 m (XV b m c cs x) (Q1 0 0) (Qq 1)).get (XV b m c cs x)
def Av:Qm prog 209 m 16 (Un b m c cs x)=some []:=K1
def Y9:Gr:=Qi prog 209 m 16 (Un b m c cs x)
def vv:(Qc prog 209 m (Y9 b m c cs x) (Q1 0 0) (Qq 0)).info=some (Q1 0 0,Qq 0,#[Jg b 0],[(b,true)]):=K1
def On:Gr:=(Qc prog 209 m (Y9 b m c cs x) (Q1 0 0) (Qq 0)).get (Y9 b m c cs x)
def jh:Qm prog 209 m 11 (On b m c cs x)=some []:=K1
def VM:Gr:=Qi prog 209 m 11 (On b m c cs x)
def AD:(Qc prog 209 m (VM b m c cs x) undef undef).info=some (undef,undef,#[Z2 .enable],[]):=K1
def Um:Gr:=(Qc prog 209 m (VM b m c cs x) undef undef).get (VM b m c cs x)
def vP:Qm prog 209 m 4 (Um b m c cs x)=some [(b,false),(b,false)]:=K1
def VJ:Gr:=Qi prog 209 m 4 (Um b m c cs x)
def zI:(Qc prog 209 m (VJ b m c cs x) undef undef).info=some (undef,undef,#[Z2 (.acquire ⟨b,0,none⟩)],[]):=K1
def Oy:Gr:=(Qc prog 209 m (VJ b m c cs x) undef undef).get (VJ b m c cs x)
def NV:Qm prog 209 m 10 (Oy b m c cs x)=some []:=K1
def xI:Qi prog 209 m 10 (Oy b m c cs x)=Rf (c.finish (.tuple #[])) cs:=K1
end
end Go.Proofs
end

