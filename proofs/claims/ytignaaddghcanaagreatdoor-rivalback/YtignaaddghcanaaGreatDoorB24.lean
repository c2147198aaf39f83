/- Lemmas. No conditions. -/
import Derived.Test.YtignaaddghcanaaGreatDoorB12
set_option linter.all false
set_option maxRecDepth 100000
open Go.Proofs.Tryz (prog)
noncomputable section
namespace Go.TM
open Go.Proofs
section
open Go.Conc (QuitsD)
variable(b:Nat)(m:Bool)(c:Frame)(cs:List Frame)(x:Nat->Value)
def pp:(Qc prog 173 m (Zf b m c cs x) (Q0 2 0) (Qp 0)).info=some (Q0 2 0,Qp 0,#[Jd b 0],[(b,true)]):=K1
def T4:Gr:=(Qc prog 173 m (Zf b m c cs x) (Q0 2 0) (Qp 0)).get (Zf b m c cs x)
def RZ:Qm prog 173 m 48 (T4 b m c cs x)=some []:=K1
def Wz:Gr:=Qi prog 173 m 48 (T4 b m c cs x)
def EH:(Qc prog 173 m (Wz b m c cs x) (Q0 0 0) (Qp 0)).info=some (Q0 0 0,Qp 0,#[Jd b 0],[(b,true),(b,false),(b,false)]):=K1
def G7:Gr:=(Qc prog 173 m (Wz b m c cs x) (Q0 0 0) (Qp 0)).get (Wz b m c cs x)
def Ro:(Qc prog 173 m (Wz b m c cs x) (Q0 1 0) (Qp 0)).info=some (Q0 1 0,Qp 0,#[Jd b 0],[(b,true),(b,false),(b,false)]):=K1
def Mo:(Qc prog 173 m (Wz b m c cs x) (Q0 1 0) (Qp 0)).get (Wz b m c cs x)=G7 b m c cs x:=K1
def EI:Qm prog 173 m 25 (G7 b m c cs x)=some []:=K1
def EJ:Qi prog 173 m 25 (G7 b m c cs x)=Zf b m c cs (λ i=>(HD (Qi prog 173 m 25 (G7 b m c cs x))).getD i undef):=K1
def Rp:(Qc prog 173 m (Wz b m c cs x) (Q0 2 0) (Qp 0)).info=some (Q0 2 1,Qp 0,#[Jd b 0,W9 b 0],[(b,true),(b,true),(b,false),(b,false)]):=K1
def T5:Gr:=(Qc prog 173 m (Wz b m c cs x) (Q0 2 0) (Qp 0)).get (Wz b m c cs x)
def Rq:Qm prog 173 m 20 (T5 b m c cs x)=some [(b,false),(b,false)]:=K1
def VY:Gr:=Qi prog 173 m 20 (T5 b m c cs x)
def Rr:(Qc prog 173 m (VY b m c cs x) undef undef).info=some (undef,undef,#[Z0 (bif true then .write ⟨b,1,none⟩else .read ⟨b,1,none⟩)],[]):=K1
def T6:Gr:=(Qc prog 173 m (VY b m c cs x) undef undef).get (VY b m c cs x)
def Rs:Qm prog 173 m 23 (T6 b m c cs x)=some []:=K1
def XN:Gr:=Qi prog 173 m 23 (T6 b m c cs x)
def Rw:(XN b m c cs x).offers=none:=K1
def Rx:(XN b m c cs x).status=.running:=K1
def Ru(st:Value):Qc prog 173 m (XN b m c cs x) st (Qp 0)=.blocked { XN b m c cs x with status:=.blocked } st (Qp 0) [(b,true)]:=K1
def Rv:(Qc prog 173 m (XN b m c cs x) (Q0 0 0) (Qp 1)).info=some (Q0 0 0,Qp 0,#[Z0 .disable,Jd b 1,W9 b 1,Z0 .enable],[(b,true),(b,true)]):=K1
def T7:Gr:=(Qc prog 173 m (XN b m c cs x) (Q0 0 0) (Qp 1)).get (XN b m c cs x)
def Ry:Qm prog 173 m 16 (T7 b m c cs x)=some []:=K1
def VZ:Gr:=Qi prog 173 m 16 (T7 b m c cs x)
def Aa:(Qc prog 173 m (VZ b m c cs x) (Q0 0 0) (Qp 0)).info=some (Q0 0 0,Qp 0,#[Jd b 0],[(b,true)]):=K1
def TB:Gr:=(Qc prog 173 m (VZ b m c cs x) (Q0 0 0) (Qp 0)).get (VZ b m c cs x)
def Ab:Qm prog 173 m 11 (TB b m c cs x)=some []:=K1
def V_:Gr:=Qi prog 173 m 11 (TB b m c cs x)
def Ac:(Qc prog 173 m (V_ b m c cs x) undef undef).info=some (undef,undef,#[Z0 .enable],[]):=K1
def TC:Gr:=(Qc prog 173 m (V_ b m c cs x) undef undef).get (V_ b m c cs x)
def Ad:Qm prog 173 m 4 (TC b m c cs x)=some [(b,false),(b,false)]:=K1
def Ki:Gr:=Qi prog 173 m 4 (TC b m c cs x)
def Ae:(Qc prog 173 m (Ki b m c cs x) undef undef).info=some (undef,undef,#[Z0 (.acquire ⟨b,0,none⟩)],[]):=K1
def TD:Gr:=(Qc prog 173 m (Ki b m c cs x) undef undef).get (Ki b m c cs x)
def Af:Qm prog 173 m 10 (TD b m c cs x)=some []:=K1
def Ag:Qi prog 173 m 10 (TD b m c cs x)=Rf (c.finish (.tuple #[])) cs:=K1
