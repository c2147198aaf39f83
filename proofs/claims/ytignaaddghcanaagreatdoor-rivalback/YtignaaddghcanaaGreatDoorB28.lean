/- Lemmas. No conditions. -/
import Derived.Test.YtignaaddghcanaaGreatDoorB12
set_option linter.all false
set_option maxRecDepth 100000
open Go.Proofs.Tryz (prog)
noncomputable section
namespace Go.TM
open Go.Proofs
section
open Go.Conc (QuitsD)
variable(b:Nat)(m:Bool)(c:Frame)(cs:List Frame)(x:Nat->Value)
def pv:(Qc prog 173 m (Zf b m c cs x) (Q0 6 0) (Qp 0)).info=some (Q0 6 0,Qp 0,#[Jd b 0],[(b,true)]):=K1
def Tt:Gr:=(Qc prog 173 m (Zf b m c cs x) (Q0 6 0) (Qp 0)).get (Zf b m c cs x)
def AF:Qm prog 173 m 48 (Tt b m c cs x)=some []:=K1
def Zw:Gr:=Qi prog 173 m 48 (Tt b m c cs x)
def EQ:(Qc prog 173 m (Zw b m c cs x) (Q0 0 0) (Qp 0)).info=some (Q0 0 0,Qp 0,#[Jd b 0],[(b,true),(b,false),(b,false)]):=K1
def J8:Gr:=(Qc prog 173 m (Zw b m c cs x) (Q0 0 0) (Qp 0)).get (Zw b m c cs x)
def AG:(Qc prog 173 m (Zw b m c cs x) (Q0 1 0) (Qp 0)).info=some (Q0 1 0,Qp 0,#[Jd b 0],[(b,true),(b,false),(b,false)]):=K1
def MZ:(Qc prog 173 m (Zw b m c cs x) (Q0 1 0) (Qp 0)).get (Zw b m c cs x)=J8 b m c cs x:=K1
def AH:(Qc prog 173 m (Zw b m c cs x) (Q0 2 0) (Qp 0)).info=some (Q0 2 0,Qp 0,#[Jd b 0],[(b,true),(b,false),(b,false)]):=K1
def M_:(Qc prog 173 m (Zw b m c cs x) (Q0 2 0) (Qp 0)).get (Zw b m c cs x)=J8 b m c cs x:=K1
def AI:(Qc prog 173 m (Zw b m c cs x) (Q0 3 0) (Qp 0)).info=some (Q0 3 0,Qp 0,#[Jd b 0],[(b,true),(b,false),(b,false)]):=K1
def N0:(Qc prog 173 m (Zw b m c cs x) (Q0 3 0) (Qp 0)).get (Zw b m c cs x)=J8 b m c cs x:=K1
def AJ:(Qc prog 173 m (Zw b m c cs x) (Q0 4 0) (Qp 0)).info=some (Q0 4 0,Qp 0,#[Jd b 0],[(b,true),(b,false),(b,false)]):=K1
def N1:(Qc prog 173 m (Zw b m c cs x) (Q0 4 0) (Qp 0)).get (Zw b m c cs x)=J8 b m c cs x:=K1
def Bo:(Qc prog 173 m (Zw b m c cs x) (Q0 5 0) (Qp 0)).info=some (Q0 5 0,Qp 0,#[Jd b 0],[(b,true),(b,false),(b,false)]):=K1
def N2:(Qc prog 173 m (Zw b m c cs x) (Q0 5 0) (Qp 0)).get (Zw b m c cs x)=J8 b m c cs x:=K1
def HS:Qm prog 173 m 25 (J8 b m c cs x)=some []:=K1
def HT:Qi prog 173 m 25 (J8 b m c cs x)=Zf b m c cs (λ i=>(HD (Qi prog 173 m 25 (J8 b m c cs x))).getD i undef):=K1
def Bp:(Qc prog 173 m (Zw b m c cs x) (Q0 6 0) (Qp 0)).info=some (Q0 6 1,Qp 0,#[Jd b 0,W9 b 0],[(b,true),(b,true),(b,false),(b,false)]):=K1
def Tu:Gr:=(Qc prog 173 m (Zw b m c cs x) (Q0 6 0) (Qp 0)).get (Zw b m c cs x)
def Bq:Qm prog 173 m 20 (Tu b m c cs x)=some [(b,false),(b,false)]:=K1
def Kw:Gr:=Qi prog 173 m 20 (Tu b m c cs x)
def Br:(Qc prog 173 m (Kw b m c cs x) undef undef).info=some (undef,undef,#[Z0 (bif true then .write ⟨b,1,none⟩else .read ⟨b,1,none⟩)],[]):=K1
def Tv:Gr:=(Qc prog 173 m (Kw b m c cs x) undef undef).get (Kw b m c cs x)
def Bs:Qm prog 173 m 23 (Tv b m c cs x)=some []:=K1
def XH:Gr:=Qi prog 173 m 23 (Tv b m c cs x)
def Bv:(XH b m c cs x).offers=none:=K1
def Bw:(XH b m c cs x).status=.running:=K1
def Bt(st:Value):Qc prog 173 m (XH b m c cs x) st (Qp 0)=.blocked { XH b m c cs x with status:=.blocked } st (Qp 0) [(b,true)]:=K1
def Bu:(Qc prog 173 m (XH b m c cs x) (Q0 0 0) (Qp 1)).info=some (Q0 0 0,Qp 0,#[Z0 .disable,Jd b 1,W9 b 1,Z0 .enable],[(b,true),(b,true)]):=K1
def Tw:Gr:=(Qc prog 173 m (XH b m c cs x) (Q0 0 0) (Qp 1)).get (XH b m c cs x)
def Bx:Qm prog 173 m 16 (Tw b m c cs x)=some []:=K1
def Kx:Gr:=Qi prog 173 m 16 (Tw b m c cs x)
def By:(Qc prog 173 m (Kx b m c cs x) (Q0 0 0) (Qp 0)).info=some (Q0 0 0,Qp 0,#[Jd b 0],[(b,true)]):=K1
def Tx:Gr:=(Qc prog 173 m (Kx b m c cs x) (Q0 0 0) (Qp 0)).get (Kx b m c cs x)
def Bz:Qm prog 173 m 11 (Tx b m c cs x)=some []:=K1
def Ky:Gr:=Qi prog 173 m 11 (Tx b m c cs x)
def BA:(Qc prog 173 m (Ky b m c cs x) undef undef).info=some (undef,undef,#[Z0 .enable],[]):=K1
def Ty:Gr:=(Qc prog 173 m (Ky b m c cs x) undef undef).get (Ky b m c cs x)
def BB:Qm prog 173 m 4 (Ty b m c cs x)=some [(b,false),(b,false)]:=K1
def Kz:Gr:=Qi prog 173 m 4 (Ty b m c cs x)
def BC:(Qc prog 173 m (Kz b m c cs x) undef undef).info=some (undef,undef,#[Z0 (.acquire ⟨b,0,none⟩)],[]):=K1
def Tz:Gr:=(Qc prog 173 m (Kz b m c cs x) undef undef).get (Kz b m c cs x)
def BD:Qm prog 173 m 10 (Tz b m c cs x)=some []:=K1
def BE:Qi prog 173 m 10 (Tz b m c cs x)=Rf (c.finish (.tuple #[])) cs:=K1
