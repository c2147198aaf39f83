/- Lemmas. No conditions. -/
import Derived.Test.YtnjljnhoaafkiaaGreatDoorB13
set_option linter.all false
open Go.Proofs.Tryz (prog)
set_option maxRecDepth 100000
noncomputable section
namespace Go.Proofs
open Go.TM
open Go.Conc (QuitsD)
section
variable(b:Nat)(m:Bool)(c:Frame)(cs:List Frame)(x:Nat->Value)
def vb:(Qc prog 176 m (Zg b m c cs x) (Q0 2 0) (Qp 0)).info=some (Q0 2 0,Qp 0,#[Jc b 0],[(b,true)]):=K1
def TJ:Gr:=(Qc prog 176 m (Zg b m c cs x) (Q0 2 0) (Qp 0)).get (Zg b m c cs x)
def Ak:Qm prog 176 m 48 (TJ b m c cs x)=some []:=K1
def W2:Gr:=Qj prog 176 m 48 (TJ b m c cs x)
def F4:(Qc prog 176 m (W2 b m c cs x) (Q0 0 0) (Qp 0)).info=some (Q0 0 0,Qp 0,#[Jc b 0],[(b,true),(b,false),(b,false)]):=K1
def G8:Gr:=(Qc prog 176 m (W2 b m c cs x) (Q0 0 0) (Qp 0)).get (W2 b m c cs x)
def Al:(Qc prog 176 m (W2 b m c cs x) (Q0 1 0) (Qp 0)).info=some (Q0 1 0,Qp 0,#[Jc b 0],[(b,true),(b,false),(b,false)]):=K1
def N1:(Qc prog 176 m (W2 b m c cs x) (Q0 1 0) (Qp 0)).get (W2 b m c cs x)=G8 b m c cs x:=K1
def F5:Qm prog 176 m 25 (G8 b m c cs x)=some []:=K1
def F6:Qj prog 176 m 25 (G8 b m c cs x)=Zg b m c cs (λ i=>(HM (Qj prog 176 m 25 (G8 b m c cs x))).getD i undef):=K1
def Am:(Qc prog 176 m (W2 b m c cs x) (Q0 2 0) (Qp 0)).info=some (Q0 2 1,Qp 0,#[Jc b 0,QA b 0],[(b,true),(b,true),(b,false),(b,false)]):=K1
def TK:Gr:=(Qc prog 176 m (W2 b m c cs x) (Q0 2 0) (Qp 0)).get (W2 b m c cs x)
def An:Qm prog 176 m 20 (TK b m c cs x)=some [(b,false),(b,false)]:=K1
def Kw:Gr:=Qj prog 176 m 20 (TK b m c cs x)
def Ao:(Qc prog 176 m (Kw b m c cs x) undef undef).info=some (undef,undef,#[Z0 (bif true then .write ⟨b,1,none⟩else .read ⟨b,1,none⟩)],[]):=K1
def TL:Gr:=(Qc prog 176 m (Kw b m c cs x) undef undef).get (Kw b m c cs x)
def Ap:Qm prog 176 m 23 (TL b m c cs x)=some []:=K1
def XG:Gr:=Qj prog 176 m 23 (TL b m c cs x)
def As:(XG b m c cs x).offers=none:=K1
def At:(XG b m c cs x).status=.running:=K1
def Aq(st:Value):Qc prog 176 m (XG b m c cs x) st (Qp 0)=.blocked { XG b m c cs x with status:=.blocked } st (Qp 0) [(b,true)]:=K1
def Ar:(Qc prog 176 m (XG b m c cs x) (Q0 0 0) (Qp 1)).info=some (Q0 0 0,Qp 0,#[Z0 .disable,Jc b 1,QA b 1,Z0 .enable],[(b,true),(b,true)]):=K1
def TN:Gr:=(Qc prog 176 m (XG b m c cs x) (Q0 0 0) (Qp 1)).get (XG b m c cs x)
def Au:Qm prog 176 m 16 (TN b m c cs x)=some []:=K1
def Kx:Gr:=Qj prog 176 m 16 (TN b m c cs x)
def Av:(Qc prog 176 m (Kx b m c cs x) (Q0 0 0) (Qp 0)).info=some (Q0 0 0,Qp 0,#[Jc b 0],[(b,true)]):=K1
def TO:Gr:=(Qc prog 176 m (Kx b m c cs x) (Q0 0 0) (Qp 0)).get (Kx b m c cs x)
def Aw:Qm prog 176 m 11 (TO b m c cs x)=some []:=K1
def Ky:Gr:=Qj prog 176 m 11 (TO b m c cs x)
def Ax:(Qc prog 176 m (Ky b m c cs x) undef undef).info=some (undef,undef,#[Z0 .enable],[]):=K1
def TP:Gr:=(Qc prog 176 m (Ky b m c cs x) undef undef).get (Ky b m c cs x)
def Ay:Qm prog 176 m 4 (TP b m c cs x)=some [(b,false),(b,false)]:=K1
def Kz:Gr:=Qj prog 176 m 4 (TP b m c cs x)
def Az:(Qc prog 176 m (Kz b m c cs x) undef undef).info=some (undef,undef,#[Z0 (.acquire ⟨b,0,none⟩)],[]):=K1
def TQ:Gr:=(Qc prog 176 m (Kz b m c cs x) undef undef).get (Kz b m c cs x)
def AA:Qm prog 176 m 10 (TQ b m c cs x)=some []:=K1
def AB:Qj prog 176 m 10 (TQ b m c cs x)=Rf (c.finish (.tuple #[])) cs:=K1
end
end Go.Proofs
end

