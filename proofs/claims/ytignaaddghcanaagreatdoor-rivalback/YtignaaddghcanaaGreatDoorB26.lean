/- Lemmas. No conditions. -/
import Derived.Test.YtignaaddghcanaaGreatDoorB12
set_option linter.all false
set_option maxRecDepth 100000
open Go.Proofs.Tryz (prog)
noncomputable section
namespace Go.TM
open Go.Proofs
section
open Go.Conc (QuitsD)
variable(b:Nat)(m:Bool)(c:Frame)(cs:List Frame)(x:Nat->Value)
def pt:(Qc prog 173 m (Zf b m c cs x) (Q0 4 0) (Qp 0)).info=some (Q0 4 0,Qp 0,#[Jd b 0],[(b,true)]):=K1
def TO:Gr:=(Qc prog 173 m (Zf b m c cs x) (Q0 4 0) (Qp 0)).get (Zf b m c cs x)
def R_:Qm prog 173 m 48 (TO b m c cs x)=some []:=K1
def Jk:Gr:=Qi prog 173 m 48 (TO b m c cs x)
def ES:(Qc prog 173 m (Jk b m c cs x) (Q0 0 0) (Qp 0)).info=some (Q0 0 0,Qp 0,#[Jd b 0],[(b,true),(b,false),(b,false)]):=K1
def Xi:Gr:=(Qc prog 173 m (Jk b m c cs x) (Q0 0 0) (Qp 0)).get (Jk b m c cs x)
def A0:(Qc prog 173 m (Jk b m c cs x) (Q0 1 0) (Qp 0)).info=some (Q0 1 0,Qp 0,#[Jd b 0],[(b,true),(b,false),(b,false)]):=K1
def Mt:(Qc prog 173 m (Jk b m c cs x) (Q0 1 0) (Qp 0)).get (Jk b m c cs x)=Xi b m c cs x:=K1
def A1:(Qc prog 173 m (Jk b m c cs x) (Q0 2 0) (Qp 0)).info=some (Q0 2 0,Qp 0,#[Jd b 0],[(b,true),(b,false),(b,false)]):=K1
def Mv:(Qc prog 173 m (Jk b m c cs x) (Q0 2 0) (Qp 0)).get (Jk b m c cs x)=Xi b m c cs x:=K1
def A3:(Qc prog 173 m (Jk b m c cs x) (Q0 3 0) (Qp 0)).info=some (Q0 3 0,Qp 0,#[Jd b 0],[(b,true),(b,false),(b,false)]):=K1
def Mw:(Qc prog 173 m (Jk b m c cs x) (Q0 3 0) (Qp 0)).get (Jk b m c cs x)=Xi b m c cs x:=K1
def Vr:Qm prog 173 m 25 (Xi b m c cs x)=some []:=K1
def Vs:Qi prog 173 m 25 (Xi b m c cs x)=Zf b m c cs (λ i=>(HD (Qi prog 173 m 25 (Xi b m c cs x))).getD i undef):=K1
def A4:(Qc prog 173 m (Jk b m c cs x) (Q0 4 0) (Qp 0)).info=some (Q0 4 1,Qp 0,#[Jd b 0,W9 b 0],[(b,true),(b,true),(b,false),(b,false)]):=K1
def TP:Gr:=(Qc prog 173 m (Jk b m c cs x) (Q0 4 0) (Qp 0)).get (Jk b m c cs x)
def A5:Qm prog 173 m 20 (TP b m c cs x)=some [(b,false),(b,false)]:=K1
def Ko:Gr:=Qi prog 173 m 20 (TP b m c cs x)
def A6:(Qc prog 173 m (Ko b m c cs x) undef undef).info=some (undef,undef,#[Z0 (bif true then .write ⟨b,1,none⟩else .read ⟨b,1,none⟩)],[]):=K1
def TQ:Gr:=(Qc prog 173 m (Ko b m c cs x) undef undef).get (Ko b m c cs x)
def A7:Qm prog 173 m 23 (TQ b m c cs x)=some []:=K1
def XF:Gr:=Qi prog 173 m 23 (TQ b m c cs x)
def AK:(XF b m c cs x).offers=none:=K1
def AL:(XF b m c cs x).status=.running:=K1
def A8(st:Value):Qc prog 173 m (XF b m c cs x) st (Qp 0)=.blocked { XF b m c cs x with status:=.blocked } st (Qp 0) [(b,true)]:=K1
def A9:(Qc prog 173 m (XF b m c cs x) (Q0 0 0) (Qp 1)).info=some (Q0 0 0,Qp 0,#[Z0 .disable,Jd b 1,W9 b 1,Z0 .enable],[(b,true),(b,true)]):=K1
def TR:Gr:=(Qc prog 173 m (XF b m c cs x) (Q0 0 0) (Qp 1)).get (XF b m c cs x)
def AM:Qm prog 173 m 16 (TR b m c cs x)=some []:=K1
def Kp:Gr:=Qi prog 173 m 16 (TR b m c cs x)
def AN:(Qc prog 173 m (Kp b m c cs x) (Q0 0 0) (Qp 0)).info=some (Q0 0 0,Qp 0,#[Jd b 0],[(b,true)]):=K1
def TS:Gr:=(Qc prog 173 m (Kp b m c cs x) (Q0 0 0) (Qp 0)).get (Kp b m c cs x)
def AO:Qm prog 173 m 11 (TS b m c cs x)=some []:=K1
def Kq:Gr:=Qi prog 173 m 11 (TS b m c cs x)
def AP:(Qc prog 173 m (Kq b m c cs x) undef undef).info=some (undef,undef,#[Z0 .enable],[]):=K1
def TT:Gr:=(Qc prog 173 m (Kq b m c cs x) undef undef).get (Kq b m c cs x)
def AQ:Qm prog 173 m 4 (TT b m c cs x)=some [(b,false),(b,false)]:=K1
def Kr:Gr:=Qi prog 173 m 4 (TT b m c cs x)
def AR:(Qc prog 173 m (Kr b m c cs x) undef undef).info=some (undef,undef,#[Z0 (.acquire ⟨b,0,none⟩)],[]):=K1
def TU:Gr:=(Qc prog 173 m (Kr b m c cs x) undef undef).get (Kr b m c cs x)
def AS:Qm prog 173 m 10 (TU b m c cs x)=some []:=K1
def AT:Qi prog 173 m 10 (TU b m c cs x)=Rf (c.finish (.tuple #[])) cs:=K1
