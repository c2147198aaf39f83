/- Lemmas. No conditions. -/
import Derived.Test.YtnjljnhoaafkiaaGreatDoorB13
set_option linter.all false
set_option maxRecDepth 100000
open Go.Proofs.Tryz (prog)
noncomputable section
namespace Go.TM
open Go.Proofs
section
open Go.Conc (QuitsD)
variable(b:Nat)(m:Bool)(c:Frame)(cs:List Frame)(x:Nat->Value)
def gv:(Qc prog 176 m (Zh b m c cs x) (Q0 4 0) (Qp 0)).info=some (Q0 4 0,Qp 0,#[Jc b 0],[(b,true)]):=K1
def S5:Gr:=(Qc prog 176 m (Zh b m c cs x) (Q0 4 0) (Qp 0)).get (Zh b m c cs x)
def AV:Qm prog 176 m 48 (S5 b m c cs x)=some []:=K1
def Jk:Gr:=Qj prog 176 m 48 (S5 b m c cs x)
def F9:(Qc prog 176 m (Jk b m c cs x) (Q0 0 0) (Qp 0)).info=some (Q0 0 0,Qp 0,#[Jc b 0],[(b,true),(b,false),(b,false)]):=K1
def Xn:Gr:=(Qc prog 176 m (Jk b m c cs x) (Q0 0 0) (Qp 0)).get (Jk b m c cs x)
def Am:(Qc prog 176 m (Jk b m c cs x) (Q0 1 0) (Qp 0)).info=some (Q0 1 0,Qp 0,#[Jc b 0],[(b,true),(b,false),(b,false)]):=K1
def MP:(Qc prog 176 m (Jk b m c cs x) (Q0 1 0) (Qp 0)).get (Jk b m c cs x)=Xn b m c cs x:=K1
def An:(Qc prog 176 m (Jk b m c cs x) (Q0 2 0) (Qp 0)).info=some (Q0 2 0,Qp 0,#[Jc b 0],[(b,true),(b,false),(b,false)]):=K1
def MQ:(Qc prog 176 m (Jk b m c cs x) (Q0 2 0) (Qp 0)).get (Jk b m c cs x)=Xn b m c cs x:=K1
def Ao:(Qc prog 176 m (Jk b m c cs x) (Q0 3 0) (Qp 0)).info=some (Q0 3 0,Qp 0,#[Jc b 0],[(b,true),(b,false),(b,false)]):=K1
def MR:(Qc prog 176 m (Jk b m c cs x) (Q0 3 0) (Qp 0)).get (Jk b m c cs x)=Xn b m c cs x:=K1
def VG:Qm prog 176 m 25 (Xn b m c cs x)=some []:=K1
def VH:Qj prog 176 m 25 (Xn b m c cs x)=Zh b m c cs (λ i=>(HR (Qj prog 176 m 25 (Xn b m c cs x))).getD i undef):=K1
def Ap:(Qc prog 176 m (Jk b m c cs x) (Q0 4 0) (Qp 0)).info=some (Q0 4 1,Qp 0,#[Jc b 0,QA b 0],[(b,true),(b,true),(b,false),(b,false)]):=K1
def S6:Gr:=(Qc prog 176 m (Jk b m c cs x) (Q0 4 0) (Qp 0)).get (Jk b m c cs x)
def Aq:Qm prog 176 m 20 (S6 b m c cs x)=some [(b,false),(b,false)]:=K1
def KJ:Gr:=Qj prog 176 m 20 (S6 b m c cs x)
def Ar:(Qc prog 176 m (KJ b m c cs x) undef undef).info=some (undef,undef,#[Z0 (bif true then .write ⟨b,1,none⟩else .read ⟨b,1,none⟩)],[]):=K1
def S7:Gr:=(Qc prog 176 m (KJ b m c cs x) undef undef).get (KJ b m c cs x)
def As:Qm prog 176 m 23 (S7 b m c cs x)=some []:=K1
def XJ:Gr:=Qj prog 176 m 23 (S7 b m c cs x)
def Av:(XJ b m c cs x).offers=none:=K1
def Bb:(XJ b m c cs x).status=.running:=K1
def At(st:Value):Qc prog 176 m (XJ b m c cs x) st (Qp 0)=.blocked { XJ b m c cs x with status:=.blocked } st (Qp 0) [(b,true)]:=K1
def Au:(Qc prog 176 m (XJ b m c cs x) (Q0 0 0) (Qp 1)).info=some (Q0 0 0,Qp 0,#[Z0 .disable,Jc b 1,QA b 1,Z0 .enable],[(b,true),(b,true)]):=K1
def S8:Gr:=(Qc prog 176 m (XJ b m c cs x) (Q0 0 0) (Qp 1)).get (XJ b m c cs x)
def Bc:Qm prog 176 m 16 (S8 b m c cs x)=some []:=K1
def KK:Gr:=Qj prog 176 m 16 (S8 b m c cs x)
def Be:(Qc prog 176 m (KK b m c cs x) (Q0 0 0) (Qp 0)).info=some (Q0 0 0,Qp 0,#[Jc b 0],[(b,true)]):=K1
def S9:Gr:=(Qc prog 176 m (KK b m c cs x) (Q0 0 0) (Qp 0)).get (KK b m c cs x)
def Bf:Qm prog 176 m 11 (S9 b m c cs x)=some []:=K1
def KL:Gr:=Qj prog 176 m 11 (S9 b m c cs x)
def Bg:(Qc prog 176 m (KL b m c cs x) undef undef).info=some (undef,undef,#[Z0 .enable],[]):=K1
def Sa:Gr:=(Qc prog 176 m (KL b m c cs x) undef undef).get (KL b m c cs x)
def Bh:Qm prog 176 m 4 (Sa b m c cs x)=some [(b,false),(b,false)]:=K1
def KM:Gr:=Qj prog 176 m 4 (Sa b m c cs x)
def Bi:(Qc prog 176 m (KM b m c cs x) undef undef).info=some (undef,undef,#[Z0 (.acquire ⟨b,0,none⟩)],[]):=K1
def Sb:Gr:=(Qc prog 176 m (KM b m c cs x) undef undef).get (KM b m c cs x)
def Bj:Qm prog 176 m 10 (Sb b m c cs x)=some []:=K1
def Bl:Qj prog 176 m 10 (Sb b m c cs x)=Rf (c.finish (.tuple #[])) cs:=K1
