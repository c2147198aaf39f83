/- Lemmas. No conditions. -/
import Derived.Test.YtignaaddghcanaaGreatDoorB12
set_option linter.all false
set_option maxRecDepth 100000
open Go.Proofs.Tryz (prog)
noncomputable section
namespace Go.TM
open Go.Proofs
section
open Go.Conc (QuitsD)
variable(b:Nat)(m:Bool)(c:Frame)(cs:List Frame)(x:Nat->Value)
def po:(Qc prog 173 m (Zf b m c cs x) (Q0 1 0) (Qp 0)).info=some (Q0 1 0,Qp 0,#[Jd b 0],[(b,true)]):=K1
def Tn:Gr:=(Qc prog 173 m (Zf b m c cs x) (Q0 1 0) (Qp 0)).get (Zf b m c cs x)
def RF:Qm prog 173 m 48 (Tn b m c cs x)=some []:=K1
def H4:Gr:=Qi prog 173 m 48 (Tn b m c cs x)
def EP:(Qc prog 173 m (H4 b m c cs x) (Q0 0 0) (Qp 0)).info=some (Q0 0 0,Qp 0,#[Jd b 0],[(b,true),(b,false),(b,false)]):=K1
def VU:Gr:=(Qc prog 173 m (H4 b m c cs x) (Q0 0 0) (Qp 0)).get (H4 b m c cs x)
def RK:Qm prog 173 m 25 (VU b m c cs x)=some []:=K1
def RL:Qi prog 173 m 25 (VU b m c cs x)=Zf b m c cs (λ i=>(HD (Qi prog 173 m 25 (VU b m c cs x))).getD i undef):=K1
def RG:(Qc prog 173 m (H4 b m c cs x) (Q0 1 0) (Qp 0)).info=some (Q0 1 1,Qp 0,#[Jd b 0,W9 b 0],[(b,true),(b,true),(b,false),(b,false)]):=K1
def To:Gr:=(Qc prog 173 m (H4 b m c cs x) (Q0 1 0) (Qp 0)).get (H4 b m c cs x)
def RH:Qm prog 173 m 20 (To b m c cs x)=some [(b,false),(b,false)]:=K1
def VT:Gr:=Qi prog 173 m 20 (To b m c cs x)
def RI:(Qc prog 173 m (VT b m c cs x) undef undef).info=some (undef,undef,#[Z0 (bif true then .write ⟨b,1,none⟩else .read ⟨b,1,none⟩)],[]):=K1
def Tp:Gr:=(Qc prog 173 m (VT b m c cs x) undef undef).get (VT b m c cs x)
def RJ:Qm prog 173 m 23 (Tp b m c cs x)=some []:=K1
def XM:Gr:=Qi prog 173 m 23 (Tp b m c cs x)
def RO:(XM b m c cs x).offers=none:=K1
def RP:(XM b m c cs x).status=.running:=K1
def RM(st:Value):Qc prog 173 m (XM b m c cs x) st (Qp 0)=.blocked { XM b m c cs x with status:=.blocked } st (Qp 0) [(b,true)]:=K1
def RN:(Qc prog 173 m (XM b m c cs x) (Q0 0 0) (Qp 1)).info=some (Q0 0 0,Qp 0,#[Z0 .disable,Jd b 1,W9 b 1,Z0 .enable],[(b,true),(b,true)]):=K1
def Tq:Gr:=(Qc prog 173 m (XM b m c cs x) (Q0 0 0) (Qp 1)).get (XM b m c cs x)
def RQ:Qm prog 173 m 16 (Tq b m c cs x)=some []:=K1
def VV:Gr:=Qi prog 173 m 16 (Tq b m c cs x)
def RR:(Qc prog 173 m (VV b m c cs x) (Q0 0 0) (Qp 0)).info=some (Q0 0 0,Qp 0,#[Jd b 0],[(b,true)]):=K1
def OZ:Gr:=(Qc prog 173 m (VV b m c cs x) (Q0 0 0) (Qp 0)).get (VV b m c cs x)
def RS:Qm prog 173 m 11 (OZ b m c cs x)=some []:=K1
def VW:Gr:=Qi prog 173 m 11 (OZ b m c cs x)
def RT:(Qc prog 173 m (VW b m c cs x) undef undef).info=some (undef,undef,#[Z0 .enable],[]):=K1
def O_:Gr:=(Qc prog 173 m (VW b m c cs x) undef undef).get (VW b m c cs x)
def RU:Qm prog 173 m 4 (O_ b m c cs x)=some [(b,false),(b,false)]:=K1
def VX:Gr:=Qi prog 173 m 4 (O_ b m c cs x)
def RW:(Qc prog 173 m (VX b m c cs x) undef undef).info=some (undef,undef,#[Z0 (.acquire ⟨b,0,none⟩)],[]):=K1
def T0:Gr:=(Qc prog 173 m (VX b m c cs x) undef undef).get (VX b m c cs x)
def RX:Qm prog 173 m 10 (T0 b m c cs x)=some []:=K1
def RY:Qi prog 173 m 10 (T0 b m c cs x)=Rf (c.finish (.tuple #[])) cs:=K1
