/- Lemmas. No conditions. -/
import Derived.Test.YtnjljnhoaafkiaaGreatDoorB13
set_option linter.all false
set_option maxRecDepth 100000
open Go.Proofs.Tryz (prog)
noncomputable section
namespace Go.TM
open Go.Proofs
section
open Go.Conc (QuitsD)
variable(b:Nat)(m:Bool)(c:Frame)(cs:List Frame)(x:Nat->Value)
def xP:(Qc prog 176 m (Zh b m c cs x) (Q0 6 0) (Qp 0)).info=some (Q0 6 0,Qp 0,#[Jc b 0],[(b,true)]):=K1
def TO:Gr:=(Qc prog 176 m (Zh b m c cs x) (Q0 6 0) (Qp 0)).get (Zh b m c cs x)
def B0:Qm prog 176 m 48 (TO b m c cs x)=some []:=K1
def Zw:Gr:=Qj prog 176 m 48 (TO b m c cs x)
def F4:(Qc prog 176 m (Zw b m c cs x) (Q0 0 0) (Qp 0)).info=some (Q0 0 0,Qp 0,#[Jc b 0],[(b,true),(b,false),(b,false)]):=K1
def J8:Gr:=(Qc prog 176 m (Zw b m c cs x) (Q0 0 0) (Qp 0)).get (Zw b m c cs x)
def B2:(Qc prog 176 m (Zw b m c cs x) (Q0 1 0) (Qp 0)).info=some (Q0 1 0,Qp 0,#[Jc b 0],[(b,true),(b,false),(b,false)]):=K1
def Ng:(Qc prog 176 m (Zw b m c cs x) (Q0 1 0) (Qp 0)).get (Zw b m c cs x)=J8 b m c cs x:=K1
def B6:(Qc prog 176 m (Zw b m c cs x) (Q0 2 0) (Qp 0)).info=some (Q0 2 0,Qp 0,#[Jc b 0],[(b,true),(b,false),(b,false)]):=K1
def Nh:(Qc prog 176 m (Zw b m c cs x) (Q0 2 0) (Qp 0)).get (Zw b m c cs x)=J8 b m c cs x:=K1
def B7:(Qc prog 176 m (Zw b m c cs x) (Q0 3 0) (Qp 0)).info=some (Q0 3 0,Qp 0,#[Jc b 0],[(b,true),(b,false),(b,false)]):=K1
def Ni:(Qc prog 176 m (Zw b m c cs x) (Q0 3 0) (Qp 0)).get (Zw b m c cs x)=J8 b m c cs x:=K1
def B8:(Qc prog 176 m (Zw b m c cs x) (Q0 4 0) (Qp 0)).info=some (Q0 4 0,Qp 0,#[Jc b 0],[(b,true),(b,false),(b,false)]):=K1
def Nj:(Qc prog 176 m (Zw b m c cs x) (Q0 4 0) (Qp 0)).get (Zw b m c cs x)=J8 b m c cs x:=K1
def B9:(Qc prog 176 m (Zw b m c cs x) (Q0 5 0) (Qp 0)).info=some (Q0 5 0,Qp 0,#[Jc b 0],[(b,true),(b,false),(b,false)]):=K1
def Nk:(Qc prog 176 m (Zw b m c cs x) (Q0 5 0) (Qp 0)).get (Zw b m c cs x)=J8 b m c cs x:=K1
def G3:Qm prog 176 m 25 (J8 b m c cs x)=some []:=K1
def G4:Qj prog 176 m 25 (J8 b m c cs x)=Zh b m c cs (λ i=>(HR (Qj prog 176 m 25 (J8 b m c cs x))).getD i undef):=K1
def BM:(Qc prog 176 m (Zw b m c cs x) (Q0 6 0) (Qp 0)).info=some (Q0 6 1,Qp 0,#[Jc b 0,QA b 0],[(b,true),(b,true),(b,false),(b,false)]):=K1
def TP:Gr:=(Qc prog 176 m (Zw b m c cs x) (Q0 6 0) (Qp 0)).get (Zw b m c cs x)
def BN:Qm prog 176 m 20 (TP b m c cs x)=some [(b,false),(b,false)]:=K1
def KT:Gr:=Qj prog 176 m 20 (TP b m c cs x)
def BO:(Qc prog 176 m (KT b m c cs x) undef undef).info=some (undef,undef,#[Z0 (bif true then .write ⟨b,1,none⟩else .read ⟨b,1,none⟩)],[]):=K1
def Sj:Gr:=(Qc prog 176 m (KT b m c cs x) undef undef).get (KT b m c cs x)
def BP:Qm prog 176 m 23 (Sj b m c cs x)=some []:=K1
def XL:Gr:=Qj prog 176 m 23 (Sj b m c cs x)
def BS:(XL b m c cs x).offers=none:=K1
def BT:(XL b m c cs x).status=.running:=K1
def BQ(st:Value):Qc prog 176 m (XL b m c cs x) st (Qp 0)=.blocked { XL b m c cs x with status:=.blocked } st (Qp 0) [(b,true)]:=K1
def BR:(Qc prog 176 m (XL b m c cs x) (Q0 0 0) (Qp 1)).info=some (Q0 0 0,Qp 0,#[Z0 .disable,Jc b 1,QA b 1,Z0 .enable],[(b,true),(b,true)]):=K1
def Sk:Gr:=(Qc prog 176 m (XL b m c cs x) (Q0 0 0) (Qp 1)).get (XL b m c cs x)
def BU:Qm prog 176 m 16 (Sk b m c cs x)=some []:=K1
def KU:Gr:=Qj prog 176 m 16 (Sk b m c cs x)
def BV:(Qc prog 176 m (KU b m c cs x) (Q0 0 0) (Qp 0)).info=some (Q0 0 0,Qp 0,#[Jc b 0],[(b,true)]):=K1
def Sl:Gr:=(Qc prog 176 m (KU b m c cs x) (Q0 0 0) (Qp 0)).get (KU b m c cs x)
def BW:Qm prog 176 m 11 (Sl b m c cs x)=some []:=K1
def Kj:Gr:=Qj prog 176 m 11 (Sl b m c cs x)
def BX:(Qc prog 176 m (Kj b m c cs x) undef undef).info=some (undef,undef,#[Z0 .enable],[]):=K1
def Sm:Gr:=(Qc prog 176 m (Kj b m c cs x) undef undef).get (Kj b m c cs x)
def BY:Qm prog 176 m 4 (Sm b m c cs x)=some [(b,false),(b,false)]:=K1
def Kk:Gr:=Qj prog 176 m 4 (Sm b m c cs x)
def BZ:(Qc prog 176 m (Kk b m c cs x) undef undef).info=some (undef,undef,#[Z0 (.acquire ⟨b,0,none⟩)],[]):=K1
def Sn:Gr:=(Qc prog 176 m (Kk b m c cs x) undef undef).get (Kk b m c cs x)
def B_:Qm prog 176 m 10 (Sn b m c cs x)=some []:=K1
def C0:Qj prog 176 m 10 (Sn b m c cs x)=Rf (c.finish (.tuple #[])) cs:=K1
