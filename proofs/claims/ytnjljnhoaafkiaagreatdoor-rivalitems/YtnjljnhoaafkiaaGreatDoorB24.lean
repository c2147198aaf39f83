/- Lemmas. No conditions. -/
import Derived.Test.YtnjljnhoaafkiaaGreatDoorB13
set_option linter.all false
open Go.Proofs.Tryz (prog)
set_option maxRecDepth 100000
noncomputable section
namespace Go.Proofs
open Go.TM
open Go.Conc (QuitsD)
section
variable(b:Nat)(m:Bool)(c:Frame)(cs:List Frame)(x:Nat->Value)
def pt:(Qc prog 176 m (Zg b m c cs x) (Q0 1 0) (Qp 0)).info=some (Q0 1 0,Qp 0,#[Jc b 0],[(b,true)]):=K1
def T6:Gr:=(Qc prog 176 m (Zg b m c cs x) (Q0 1 0) (Qp 0)).get (Zg b m c cs x)
def RZ:Qm prog 176 m 48 (T6 b m c cs x)=some []:=K1
def H8:Gr:=Qj prog 176 m 48 (T6 b m c cs x)
def EX:(Qc prog 176 m (H8 b m c cs x) (Q0 0 0) (Qp 0)).info=some (Q0 0 0,Qp 0,#[Jc b 0],[(b,true),(b,false),(b,false)]):=K1
def Ks:Gr:=(Qc prog 176 m (H8 b m c cs x) (Q0 0 0) (Qp 0)).get (H8 b m c cs x)
def A6:Qm prog 176 m 25 (Ks b m c cs x)=some []:=K1
def A7:Qj prog 176 m 25 (Ks b m c cs x)=Zg b m c cs (λ i=>(HM (Qj prog 176 m 25 (Ks b m c cs x))).getD i undef):=K1
def R_:(Qc prog 176 m (H8 b m c cs x) (Q0 1 0) (Qp 0)).info=some (Q0 1 1,Qp 0,#[Jc b 0,QA b 0],[(b,true),(b,true),(b,false),(b,false)]):=K1
def T7:Gr:=(Qc prog 176 m (H8 b m c cs x) (Q0 1 0) (Qp 0)).get (H8 b m c cs x)
def A3:Qm prog 176 m 20 (T7 b m c cs x)=some [(b,false),(b,false)]:=K1
def Kr:Gr:=Qj prog 176 m 20 (T7 b m c cs x)
def A4:(Qc prog 176 m (Kr b m c cs x) undef undef).info=some (undef,undef,#[Z0 (bif true then .write ⟨b,1,none⟩else .read ⟨b,1,none⟩)],[]):=K1
def T8:Gr:=(Qc prog 176 m (Kr b m c cs x) undef undef).get (Kr b m c cs x)
def A5:Qm prog 176 m 23 (T8 b m c cs x)=some []:=K1
def XO:Gr:=Qj prog 176 m 23 (T8 b m c cs x)
def Rx:(XO b m c cs x).offers=none:=K1
def Ry:(XO b m c cs x).status=.running:=K1
def A8(st:Value):Qc prog 176 m (XO b m c cs x) st (Qp 0)=.blocked { XO b m c cs x with status:=.blocked } st (Qp 0) [(b,true)]:=K1
def A9:(Qc prog 176 m (XO b m c cs x) (Q0 0 0) (Qp 1)).info=some (Q0 0 0,Qp 0,#[Z0 .disable,Jc b 1,QA b 1,Z0 .enable],[(b,true),(b,true)]):=K1
def T9:Gr:=(Qc prog 176 m (XO b m c cs x) (Q0 0 0) (Qp 1)).get (XO b m c cs x)
def Rz:Qm prog 176 m 16 (T9 b m c cs x)=some []:=K1
def Kt:Gr:=Qj prog 176 m 16 (T9 b m c cs x)
def RA:(Qc prog 176 m (Kt b m c cs x) (Q0 0 0) (Qp 0)).info=some (Q0 0 0,Qp 0,#[Jc b 0],[(b,true)]):=K1
def Ta:Gr:=(Qc prog 176 m (Kt b m c cs x) (Q0 0 0) (Qp 0)).get (Kt b m c cs x)
def RB:Qm prog 176 m 11 (Ta b m c cs x)=some []:=K1
def Ku:Gr:=Qj prog 176 m 11 (Ta b m c cs x)
def RC:(Qc prog 176 m (Ku b m c cs x) undef undef).info=some (undef,undef,#[Z0 .enable],[]):=K1
def TF:Gr:=(Qc prog 176 m (Ku b m c cs x) undef undef).get (Ku b m c cs x)
def RD:Qm prog 176 m 4 (TF b m c cs x)=some [(b,false),(b,false)]:=K1
def Kv:Gr:=Qj prog 176 m 4 (TF b m c cs x)
def RE:(Qc prog 176 m (Kv b m c cs x) undef undef).info=some (undef,undef,#[Z0 (.acquire ⟨b,0,none⟩)],[]):=K1
def TG:Gr:=(Qc prog 176 m (Kv b m c cs x) undef undef).get (Kv b m c cs x)
def RF:Qm prog 176 m 10 (TG b m c cs x)=some []:=K1
def RG:Qj prog 176 m 10 (TG b m c cs x)=Rf (c.finish (.tuple #[])) cs:=K1
end
end Go.Proofs
end

