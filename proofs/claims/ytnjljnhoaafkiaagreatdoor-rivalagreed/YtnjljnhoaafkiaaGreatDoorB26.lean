/- Lemmas. No conditions. -/
import Derived.Test.YtnjljnhoaafkiaaGreatDoorB13
set_option linter.all false
set_option maxRecDepth 100000
open Go.Proofs.Tryz (prog)
noncomputable section
namespace Go.TM
open Go.Proofs
section
open Go.Conc (QuitsD)
variable(b:Nat)(m:Bool)(c:Frame)(cs:List Frame)(x:Nat->Value)
def gu:(Qc prog 176 m (Zh b m c cs x) (Q0 3 0) (Qp 0)).info=some (Q0 3 0,Qp 0,#[Jc b 0],[(b,true)]):=K1
def TW:Gr:=(Qc prog 176 m (Zh b m c cs x) (Q0 3 0) (Qp 0)).get (Zh b m c cs x)
def AC:Qm prog 176 m 48 (TW b m c cs x)=some []:=K1
def J7:Gr:=Qj prog 176 m 48 (TW b m c cs x)
def F8:(Qc prog 176 m (J7 b m c cs x) (Q0 0 0) (Qp 0)).info=some (Q0 0 0,Qp 0,#[Jc b 0],[(b,true),(b,false),(b,false)]):=K1
def Hb:Gr:=(Qc prog 176 m (J7 b m c cs x) (Q0 0 0) (Qp 0)).get (J7 b m c cs x)
def AD:(Qc prog 176 m (J7 b m c cs x) (Q0 1 0) (Qp 0)).info=some (Q0 1 0,Qp 0,#[Jc b 0],[(b,true),(b,false),(b,false)]):=K1
def MN:(Qc prog 176 m (J7 b m c cs x) (Q0 1 0) (Qp 0)).get (J7 b m c cs x)=Hb b m c cs x:=K1
def AE:(Qc prog 176 m (J7 b m c cs x) (Q0 2 0) (Qp 0)).info=some (Q0 2 0,Qp 0,#[Jc b 0],[(b,true),(b,false),(b,false)]):=K1
def MO:(Qc prog 176 m (J7 b m c cs x) (Q0 2 0) (Qp 0)).get (J7 b m c cs x)=Hb b m c cs x:=K1
def Od:Qm prog 176 m 25 (Hb b m c cs x)=some []:=K1
def Oe:Qj prog 176 m 25 (Hb b m c cs x)=Zh b m c cs (λ i=>(HR (Qj prog 176 m 25 (Hb b m c cs x))).getD i undef):=K1
def AF:(Qc prog 176 m (J7 b m c cs x) (Q0 3 0) (Qp 0)).info=some (Q0 3 1,Qp 0,#[Jc b 0,QA b 0],[(b,true),(b,true),(b,false),(b,false)]):=K1
def TX:Gr:=(Qc prog 176 m (J7 b m c cs x) (Q0 3 0) (Qp 0)).get (J7 b m c cs x)
def AG:Qm prog 176 m 20 (TX b m c cs x)=some [(b,false),(b,false)]:=K1
def KE:Gr:=Qj prog 176 m 20 (TX b m c cs x)
def AH:(Qc prog 176 m (KE b m c cs x) undef undef).info=some (undef,undef,#[Z0 (bif true then .write ⟨b,1,none⟩else .read ⟨b,1,none⟩)],[]):=K1
def TY:Gr:=(Qc prog 176 m (KE b m c cs x) undef undef).get (KE b m c cs x)
def AI:Qm prog 176 m 23 (TY b m c cs x)=some []:=K1
def XI:Gr:=Qj prog 176 m 23 (TY b m c cs x)
def AL:(XI b m c cs x).offers=none:=K1
def AM:(XI b m c cs x).status=.running:=K1
def AJ(st:Value):Qc prog 176 m (XI b m c cs x) st (Qp 0)=.blocked { XI b m c cs x with status:=.blocked } st (Qp 0) [(b,true)]:=K1
def AK:(Qc prog 176 m (XI b m c cs x) (Q0 0 0) (Qp 1)).info=some (Q0 0 0,Qp 0,#[Z0 .disable,Jc b 1,QA b 1,Z0 .enable],[(b,true),(b,true)]):=K1
def TZ:Gr:=(Qc prog 176 m (XI b m c cs x) (Q0 0 0) (Qp 1)).get (XI b m c cs x)
def AN:Qm prog 176 m 16 (TZ b m c cs x)=some []:=K1
def KF:Gr:=Qj prog 176 m 16 (TZ b m c cs x)
def AO:(Qc prog 176 m (KF b m c cs x) (Q0 0 0) (Qp 0)).info=some (Q0 0 0,Qp 0,#[Jc b 0],[(b,true)]):=K1
def T_:Gr:=(Qc prog 176 m (KF b m c cs x) (Q0 0 0) (Qp 0)).get (KF b m c cs x)
def AP:Qm prog 176 m 11 (T_ b m c cs x)=some []:=K1
def KG:Gr:=Qj prog 176 m 11 (T_ b m c cs x)
def AQ:(Qc prog 176 m (KG b m c cs x) undef undef).info=some (undef,undef,#[Z0 .enable],[]):=K1
def S0:Gr:=(Qc prog 176 m (KG b m c cs x) undef undef).get (KG b m c cs x)
def AR:Qm prog 176 m 4 (S0 b m c cs x)=some [(b,false),(b,false)]:=K1
def KI:Gr:=Qj prog 176 m 4 (S0 b m c cs x)
def AS:(Qc prog 176 m (KI b m c cs x) undef undef).info=some (undef,undef,#[Z0 (.acquire ⟨b,0,none⟩)],[]):=K1
def S4:Gr:=(Qc prog 176 m (KI b m c cs x) undef undef).get (KI b m c cs x)
def AT:Qm prog 176 m 10 (S4 b m c cs x)=some []:=K1
def AU:Qj prog 176 m 10 (S4 b m c cs x)=Rf (c.finish (.tuple #[])) cs:=K1
