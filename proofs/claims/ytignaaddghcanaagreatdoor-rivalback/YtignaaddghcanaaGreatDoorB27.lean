/- Lemmas. No conditions. -/
import Derived.Test.YtignaaddghcanaaGreatDoorB12
set_option linter.all false
set_option maxRecDepth 100000
open Go.Proofs.Tryz (prog)
noncomputable section
namespace Go.TM
open Go.Proofs
section
open Go.Conc (QuitsD)
variable(b:Nat)(m:Bool)(c:Frame)(cs:List Frame)(x:Nat->Value)
def pu:(Qc prog 173 m (Zf b m c cs x) (Q0 5 0) (Qp 0)).info=some (Q0 5 0,Qp 0,#[Jd b 0],[(b,true)]):=K1
def TV:Gr:=(Qc prog 173 m (Zf b m c cs x) (Q0 5 0) (Qp 0)).get (Zf b m c cs x)
def AU:Qm prog 173 m 48 (TV b m c cs x)=some []:=K1
def Z4:Gr:=Qi prog 173 m 48 (TV b m c cs x)
def ET:(Qc prog 173 m (Z4 b m c cs x) (Q0 0 0) (Qp 0)).info=some (Q0 0 0,Qp 0,#[Jd b 0],[(b,true),(b,false),(b,false)]):=K1
def Wq:Gr:=(Qc prog 173 m (Z4 b m c cs x) (Q0 0 0) (Qp 0)).get (Z4 b m c cs x)
def AV:(Qc prog 173 m (Z4 b m c cs x) (Q0 1 0) (Qp 0)).info=some (Q0 1 0,Qp 0,#[Jd b 0],[(b,true),(b,false),(b,false)]):=K1
def Mx:(Qc prog 173 m (Z4 b m c cs x) (Q0 1 0) (Qp 0)).get (Z4 b m c cs x)=Wq b m c cs x:=K1
def AW:(Qc prog 173 m (Z4 b m c cs x) (Q0 2 0) (Qp 0)).info=some (Q0 2 0,Qp 0,#[Jd b 0],[(b,true),(b,false),(b,false)]):=K1
def My:(Qc prog 173 m (Z4 b m c cs x) (Q0 2 0) (Qp 0)).get (Z4 b m c cs x)=Wq b m c cs x:=K1
def AX:(Qc prog 173 m (Z4 b m c cs x) (Q0 3 0) (Qp 0)).info=some (Q0 3 0,Qp 0,#[Jd b 0],[(b,true),(b,false),(b,false)]):=K1
def MX:(Qc prog 173 m (Z4 b m c cs x) (Q0 3 0) (Qp 0)).get (Z4 b m c cs x)=Wq b m c cs x:=K1
def AZ:(Qc prog 173 m (Z4 b m c cs x) (Q0 4 0) (Qp 0)).info=some (Q0 4 0,Qp 0,#[Jd b 0],[(b,true),(b,false),(b,false)]):=K1
def MY:(Qc prog 173 m (Z4 b m c cs x) (Q0 4 0) (Qp 0)).get (Z4 b m c cs x)=Wq b m c cs x:=K1
def P1:Qm prog 173 m 25 (Wq b m c cs x)=some []:=K1
def P2:Qi prog 173 m 25 (Wq b m c cs x)=Zf b m c cs (λ i=>(HD (Qi prog 173 m 25 (Wq b m c cs x))).getD i undef):=K1
def A_:(Qc prog 173 m (Z4 b m c cs x) (Q0 5 0) (Qp 0)).info=some (Q0 5 1,Qp 0,#[Jd b 0,W9 b 0],[(b,true),(b,true),(b,false),(b,false)]):=K1
def TW:Gr:=(Qc prog 173 m (Z4 b m c cs x) (Q0 5 0) (Qp 0)).get (Z4 b m c cs x)
def B0:Qm prog 173 m 20 (TW b m c cs x)=some [(b,false),(b,false)]:=K1
def Ks:Gr:=Qi prog 173 m 20 (TW b m c cs x)
def B1:(Qc prog 173 m (Ks b m c cs x) undef undef).info=some (undef,undef,#[Z0 (bif true then .write ⟨b,1,none⟩else .read ⟨b,1,none⟩)],[]):=K1
def TX:Gr:=(Qc prog 173 m (Ks b m c cs x) undef undef).get (Ks b m c cs x)
def B2:Qm prog 173 m 23 (TX b m c cs x)=some []:=K1
def XG:Gr:=Qi prog 173 m 23 (TX b m c cs x)
def B8:(XG b m c cs x).offers=none:=K1
def B9:(XG b m c cs x).status=.running:=K1
def B6(st:Value):Qc prog 173 m (XG b m c cs x) st (Qp 0)=.blocked { XG b m c cs x with status:=.blocked } st (Qp 0) [(b,true)]:=K1
def B7:(Qc prog 173 m (XG b m c cs x) (Q0 0 0) (Qp 1)).info=some (Q0 0 0,Qp 0,#[Z0 .disable,Jd b 1,W9 b 1,Z0 .enable],[(b,true),(b,true)]):=K1
def TY:Gr:=(Qc prog 173 m (XG b m c cs x) (Q0 0 0) (Qp 1)).get (XG b m c cs x)
def Bb:Qm prog 173 m 16 (TY b m c cs x)=some []:=K1
def Kt:Gr:=Qi prog 173 m 16 (TY b m c cs x)
def Bc:(Qc prog 173 m (Kt b m c cs x) (Q0 0 0) (Qp 0)).info=some (Q0 0 0,Qp 0,#[Jd b 0],[(b,true)]):=K1
def TZ:Gr:=(Qc prog 173 m (Kt b m c cs x) (Q0 0 0) (Qp 0)).get (Kt b m c cs x)
def Be:Qm prog 173 m 11 (TZ b m c cs x)=some []:=K1
def Ku:Gr:=Qi prog 173 m 11 (TZ b m c cs x)
def AA:(Qc prog 173 m (Ku b m c cs x) undef undef).info=some (undef,undef,#[Z0 .enable],[]):=K1
def T_:Gr:=(Qc prog 173 m (Ku b m c cs x) undef undef).get (Ku b m c cs x)
def AB:Qm prog 173 m 4 (T_ b m c cs x)=some [(b,false),(b,false)]:=K1
def Kv:Gr:=Qi prog 173 m 4 (T_ b m c cs x)
def AC:(Qc prog 173 m (Kv b m c cs x) undef undef).info=some (undef,undef,#[Z0 (.acquire ⟨b,0,none⟩)],[]):=K1
def Ts:Gr:=(Qc prog 173 m (Kv b m c cs x) undef undef).get (Kv b m c cs x)
def AD:Qm prog 173 m 10 (Ts b m c cs x)=some []:=K1
def AE:Qi prog 173 m 10 (Ts b m c cs x)=Rf (c.finish (.tuple #[])) cs:=K1
