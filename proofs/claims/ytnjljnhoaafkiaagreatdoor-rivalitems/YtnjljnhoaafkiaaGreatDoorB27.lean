/- Lemmas. No conditions. -/
import Derived.Test.YtnjljnhoaafkiaaGreatDoorB13
set_option linter.all false
open Go.Proofs.Tryz (prog)
set_option maxRecDepth 100000
noncomputable section
namespace Go.Proofs
open Go.TM
open Go.Conc (QuitsD)
section
variable(b:Nat)(m:Bool)(c:Frame)(cs:List Frame)(x:Nat->Value)
def vf:(Qc prog 176 m (Zg b m c cs x) (Q0 4 0) (Qp 0)).info=some (Q0 4 0,Qp 0,#[Jc b 0],[(b,true)]):=K1
def TY:Gr:=(Qc prog 176 m (Zg b m c cs x) (Q0 4 0) (Qp 0)).get (Zg b m c cs x)
def AV:Qm prog 176 m 48 (TY b m c cs x)=some []:=K1
def Jk:Gr:=Qj prog 176 m 48 (TY b m c cs x)
def F8:(Qc prog 176 m (Jk b m c cs x) (Q0 0 0) (Qp 0)).info=some (Q0 0 0,Qp 0,#[Jc b 0],[(b,true),(b,false),(b,false)]):=K1
def Xl:Gr:=(Qc prog 176 m (Jk b m c cs x) (Q0 0 0) (Qp 0)).get (Jk b m c cs x)
def AW:(Qc prog 176 m (Jk b m c cs x) (Q0 1 0) (Qp 0)).info=some (Q0 1 0,Qp 0,#[Jc b 0],[(b,true),(b,false),(b,false)]):=K1
def N4:(Qc prog 176 m (Jk b m c cs x) (Q0 1 0) (Qp 0)).get (Jk b m c cs x)=Xl b m c cs x:=K1
def AX:(Qc prog 176 m (Jk b m c cs x) (Q0 2 0) (Qp 0)).info=some (Q0 2 0,Qp 0,#[Jc b 0],[(b,true),(b,false),(b,false)]):=K1
def N5:(Qc prog 176 m (Jk b m c cs x) (Q0 2 0) (Qp 0)).get (Jk b m c cs x)=Xl b m c cs x:=K1
def AZ:(Qc prog 176 m (Jk b m c cs x) (Q0 3 0) (Qp 0)).info=some (Q0 3 0,Qp 0,#[Jc b 0],[(b,true),(b,false),(b,false)]):=K1
def N6:(Qc prog 176 m (Jk b m c cs x) (Q0 3 0) (Qp 0)).get (Jk b m c cs x)=Xl b m c cs x:=K1
def VD:Qm prog 176 m 25 (Xl b m c cs x)=some []:=K1
def VE:Qj prog 176 m 25 (Xl b m c cs x)=Zg b m c cs (λ i=>(HM (Qj prog 176 m 25 (Xl b m c cs x))).getD i undef):=K1
def A_:(Qc prog 176 m (Jk b m c cs x) (Q0 4 0) (Qp 0)).info=some (Q0 4 1,Qp 0,#[Jc b 0,QA b 0],[(b,true),(b,true),(b,false),(b,false)]):=K1
def TZ:Gr:=(Qc prog 176 m (Jk b m c cs x) (Q0 4 0) (Qp 0)).get (Jk b m c cs x)
def B0:Qm prog 176 m 20 (TZ b m c cs x)=some [(b,false),(b,false)]:=K1
def KF:Gr:=Qj prog 176 m 20 (TZ b m c cs x)
def B1:(Qc prog 176 m (KF b m c cs x) undef undef).info=some (undef,undef,#[Z0 (bif true then .write ⟨b,1,none⟩else .read ⟨b,1,none⟩)],[]):=K1
def T_:Gr:=(Qc prog 176 m (KF b m c cs x) undef undef).get (KF b m c cs x)
def B2:Qm prog 176 m 23 (T_ b m c cs x)=some []:=K1
def XI:Gr:=Qj prog 176 m 23 (T_ b m c cs x)
def B8:(XI b m c cs x).offers=none:=K1
def B9:(XI b m c cs x).status=.running:=K1
def B6(st:Value):Qc prog 176 m (XI b m c cs x) st (Qp 0)=.blocked { XI b m c cs x with status:=.blocked } st (Qp 0) [(b,true)]:=K1
def B7:(Qc prog 176 m (XI b m c cs x) (Q0 0 0) (Qp 1)).info=some (Q0 0 0,Qp 0,#[Z0 .disable,Jc b 1,QA b 1,Z0 .enable],[(b,true),(b,true)]):=K1
def S0:Gr:=(Qc prog 176 m (XI b m c cs x) (Q0 0 0) (Qp 1)).get (XI b m c cs x)
def Bb:Qm prog 176 m 16 (S0 b m c cs x)=some []:=K1
def KG:Gr:=Qj prog 176 m 16 (S0 b m c cs x)
def Bc:(Qc prog 176 m (KG b m c cs x) (Q0 0 0) (Qp 0)).info=some (Q0 0 0,Qp 0,#[Jc b 0],[(b,true)]):=K1
def S4:Gr:=(Qc prog 176 m (KG b m c cs x) (Q0 0 0) (Qp 0)).get (KG b m c cs x)
def Be:Qm prog 176 m 11 (S4 b m c cs x)=some []:=K1
def KI:Gr:=Qj prog 176 m 11 (S4 b m c cs x)
def Bf:(Qc prog 176 m (KI b m c cs x) undef undef).info=some (undef,undef,#[Z0 .enable],[]):=K1
def Tw:Gr:=(Qc prog 176 m (KI b m c cs x) undef undef).get (KI b m c cs x)
def Bg:Qm prog 176 m 4 (Tw b m c cs x)=some [(b,false),(b,false)]:=K1
def KJ:Gr:=Qj prog 176 m 4 (Tw b m c cs x)
def Bh:(Qc prog 176 m (KJ b m c cs x) undef undef).info=some (undef,undef,#[Z0 (.acquire ⟨b,0,none⟩)],[]):=K1
def Tx:Gr:=(Qc prog 176 m (KJ b m c cs x) undef undef).get (KJ b m c cs x)
def Bi:Qm prog 176 m 10 (Tx b m c cs x)=some []:=K1
def Bj:Qj prog 176 m 10 (Tx b m c cs x)=Rf (c.finish (.tuple #[])) cs:=K1
end
end Go.Proofs
end

