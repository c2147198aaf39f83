/- Lemmas. No conditions. -/
import Derived.Test.YtnjljnhoaafkiaaGreatDoorB13
set_option linter.all false
open Go.Proofs.Tryz (prog)
set_option maxRecDepth 100000
noncomputable section
namespace Go.Proofs
open Go.TM
open Go.Conc (QuitsD)
section
variable(b:Nat)(m:Bool)(c:Frame)(cs:List Frame)(x:Nat->Value)
def vh:(Qc prog 176 m (Zg b m c cs x) (Q0 6 0) (Qp 0)).info=some (Q0 6 0,Qp 0,#[Jc b 0],[(b,true)]):=K1
def S9:Gr:=(Qc prog 176 m (Zg b m c cs x) (Q0 6 0) (Qp 0)).get (Zg b m c cs x)
def BG:Qm prog 176 m 48 (S9 b m c cs x)=some []:=K1
def Zw:Gr:=Qj prog 176 m 48 (S9 b m c cs x)
def Ff:(Qc prog 176 m (Zw b m c cs x) (Q0 0 0) (Qp 0)).info=some (Q0 0 0,Qp 0,#[Jc b 0],[(b,true),(b,false),(b,false)]):=K1
def J8:Gr:=(Qc prog 176 m (Zw b m c cs x) (Q0 0 0) (Qp 0)).get (Zw b m c cs x)
def BI:(Qc prog 176 m (Zw b m c cs x) (Q0 1 0) (Qp 0)).info=some (Q0 1 0,Qp 0,#[Jc b 0],[(b,true),(b,false),(b,false)]):=K1
def Nb:(Qc prog 176 m (Zw b m c cs x) (Q0 1 0) (Qp 0)).get (Zw b m c cs x)=J8 b m c cs x:=K1
def BJ:(Qc prog 176 m (Zw b m c cs x) (Q0 2 0) (Qp 0)).info=some (Q0 2 0,Qp 0,#[Jc b 0],[(b,true),(b,false),(b,false)]):=K1
def Nc:(Qc prog 176 m (Zw b m c cs x) (Q0 2 0) (Qp 0)).get (Zw b m c cs x)=J8 b m c cs x:=K1
def BK:(Qc prog 176 m (Zw b m c cs x) (Q0 3 0) (Qp 0)).info=some (Q0 3 0,Qp 0,#[Jc b 0],[(b,true),(b,false),(b,false)]):=K1
def Nd:(Qc prog 176 m (Zw b m c cs x) (Q0 3 0) (Qp 0)).get (Zw b m c cs x)=J8 b m c cs x:=K1
def BL:(Qc prog 176 m (Zw b m c cs x) (Q0 4 0) (Qp 0)).info=some (Q0 4 0,Qp 0,#[Jc b 0],[(b,true),(b,false),(b,false)]):=K1
def Nf:(Qc prog 176 m (Zw b m c cs x) (Q0 4 0) (Qp 0)).get (Zw b m c cs x)=J8 b m c cs x:=K1
def BM:(Qc prog 176 m (Zw b m c cs x) (Q0 5 0) (Qp 0)).info=some (Q0 5 0,Qp 0,#[Jc b 0],[(b,true),(b,false),(b,false)]):=K1
def Ng:(Qc prog 176 m (Zw b m c cs x) (Q0 5 0) (Qp 0)).get (Zw b m c cs x)=J8 b m c cs x:=K1
def H_:Qm prog 176 m 25 (J8 b m c cs x)=some []:=K1
def G0:Qj prog 176 m 25 (J8 b m c cs x)=Zg b m c cs (λ i=>(HM (Qj prog 176 m 25 (J8 b m c cs x))).getD i undef):=K1
def BN:(Qc prog 176 m (Zw b m c cs x) (Q0 6 0) (Qp 0)).info=some (Q0 6 1,Qp 0,#[Jc b 0,QA b 0],[(b,true),(b,true),(b,false),(b,false)]):=K1
def Sa:Gr:=(Qc prog 176 m (Zw b m c cs x) (Q0 6 0) (Qp 0)).get (Zw b m c cs x)
def BO:Qm prog 176 m 20 (Sa b m c cs x)=some [(b,false),(b,false)]:=K1
def KP:Gr:=Qj prog 176 m 20 (Sa b m c cs x)
def BP:(Qc prog 176 m (KP b m c cs x) undef undef).info=some (undef,undef,#[Z0 (bif true then .write ⟨b,1,none⟩else .read ⟨b,1,none⟩)],[]):=K1
def Sb:Gr:=(Qc prog 176 m (KP b m c cs x) undef undef).get (KP b m c cs x)
def BQ:Qm prog 176 m 23 (Sb b m c cs x)=some []:=K1
def XK:Gr:=Qj prog 176 m 23 (Sb b m c cs x)
def BT:(XK b m c cs x).offers=none:=K1
def BU:(XK b m c cs x).status=.running:=K1
def BR(st:Value):Qc prog 176 m (XK b m c cs x) st (Qp 0)=.blocked { XK b m c cs x with status:=.blocked } st (Qp 0) [(b,true)]:=K1
def BS:(Qc prog 176 m (XK b m c cs x) (Q0 0 0) (Qp 1)).info=some (Q0 0 0,Qp 0,#[Z0 .disable,Jc b 1,QA b 1,Z0 .enable],[(b,true),(b,true)]):=K1
def Sc:Gr:=(Qc prog 176 m (XK b m c cs x) (Q0 0 0) (Qp 1)).get (XK b m c cs x)
def BV:Qm prog 176 m 16 (Sc b m c cs x)=some []:=K1
def Kg:Gr:=Qj prog 176 m 16 (Sc b m c cs x)
def BW:(Qc prog 176 m (Kg b m c cs x) (Q0 0 0) (Qp 0)).info=some (Q0 0 0,Qp 0,#[Jc b 0],[(b,true)]):=K1
def Sd:Gr:=(Qc prog 176 m (Kg b m c cs x) (Q0 0 0) (Qp 0)).get (Kg b m c cs x)
def BX:Qm prog 176 m 11 (Sd b m c cs x)=some []:=K1
def Kh:Gr:=Qj prog 176 m 11 (Sd b m c cs x)
def BY:(Qc prog 176 m (Kh b m c cs x) undef undef).info=some (undef,undef,#[Z0 .enable],[]):=K1
def Se:Gr:=(Qc prog 176 m (Kh b m c cs x) undef undef).get (Kh b m c cs x)
def BZ:Qm prog 176 m 4 (Se b m c cs x)=some [(b,false),(b,false)]:=K1
def Ki:Gr:=Qj prog 176 m 4 (Se b m c cs x)
def B_:(Qc prog 176 m (Ki b m c cs x) undef undef).info=some (undef,undef,#[Z0 (.acquire ⟨b,0,none⟩)],[]):=K1
def Sf:Gr:=(Qc prog 176 m (Ki b m c cs x) undef undef).get (Ki b m c cs x)
def Bq:Qm prog 176 m 10 (Sf b m c cs x)=some []:=K1
def Br:Qj prog 176 m 10 (Sf b m c cs x)=Rf (c.finish (.tuple #[])) cs:=K1
end
end Go.Proofs
end

