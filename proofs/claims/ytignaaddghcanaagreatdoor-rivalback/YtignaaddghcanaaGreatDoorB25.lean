/- Lemmas. No conditions. -/
import Derived.Test.YtignaaddghcanaaGreatDoorB12
set_option linter.all false
set_option maxRecDepth 100000
open Go.Proofs.Tryz (prog)
noncomputable section
namespace Go.TM
open Go.Proofs
section
open Go.Conc (QuitsD)
variable(b:Nat)(m:Bool)(c:Frame)(cs:List Frame)(x:Nat->Value)
def pr:(Qc prog 173 m (Zf b m c cs x) (Q0 3 0) (Qp 0)).info=some (Q0 3 0,Qp 0,#[Jd b 0],[(b,true)]):=K1
def TE:Gr:=(Qc prog 173 m (Zf b m c cs x) (Q0 3 0) (Qp 0)).get (Zf b m c cs x)
def Ah:Qm prog 173 m 48 (TE b m c cs x)=some []:=K1
def J7:Gr:=Qi prog 173 m 48 (TE b m c cs x)
def ER:(Qc prog 173 m (J7 b m c cs x) (Q0 0 0) (Qp 0)).info=some (Q0 0 0,Qp 0,#[Jd b 0],[(b,true),(b,false),(b,false)]):=K1
def H5:Gr:=(Qc prog 173 m (J7 b m c cs x) (Q0 0 0) (Qp 0)).get (J7 b m c cs x)
def Ai:(Qc prog 173 m (J7 b m c cs x) (Q0 1 0) (Qp 0)).info=some (Q0 1 0,Qp 0,#[Jd b 0],[(b,true),(b,false),(b,false)]):=K1
def Mp:(Qc prog 173 m (J7 b m c cs x) (Q0 1 0) (Qp 0)).get (J7 b m c cs x)=H5 b m c cs x:=K1
def Aj:(Qc prog 173 m (J7 b m c cs x) (Q0 2 0) (Qp 0)).info=some (Q0 2 0,Qp 0,#[Jd b 0],[(b,true),(b,false),(b,false)]):=K1
def Mq:(Qc prog 173 m (J7 b m c cs x) (Q0 2 0) (Qp 0)).get (J7 b m c cs x)=H5 b m c cs x:=K1
def O5:Qm prog 173 m 25 (H5 b m c cs x)=some []:=K1
def O6:Qi prog 173 m 25 (H5 b m c cs x)=Zf b m c cs (λ i=>(HD (Qi prog 173 m 25 (H5 b m c cs x))).getD i undef):=K1
def Ak:(Qc prog 173 m (J7 b m c cs x) (Q0 3 0) (Qp 0)).info=some (Q0 3 1,Qp 0,#[Jd b 0,W9 b 0],[(b,true),(b,true),(b,false),(b,false)]):=K1
def TF:Gr:=(Qc prog 173 m (J7 b m c cs x) (Q0 3 0) (Qp 0)).get (J7 b m c cs x)
def Al:Qm prog 173 m 20 (TF b m c cs x)=some [(b,false),(b,false)]:=K1
def Kj:Gr:=Qi prog 173 m 20 (TF b m c cs x)
def Am:(Qc prog 173 m (Kj b m c cs x) undef undef).info=some (undef,undef,#[Z0 (bif true then .write ⟨b,1,none⟩else .read ⟨b,1,none⟩)],[]):=K1
def TG:Gr:=(Qc prog 173 m (Kj b m c cs x) undef undef).get (Kj b m c cs x)
def An:Qm prog 173 m 23 (TG b m c cs x)=some []:=K1
def XO:Gr:=Qi prog 173 m 23 (TG b m c cs x)
def Aq:(XO b m c cs x).offers=none:=K1
def Ar:(XO b m c cs x).status=.running:=K1
def Ao(st:Value):Qc prog 173 m (XO b m c cs x) st (Qp 0)=.blocked { XO b m c cs x with status:=.blocked } st (Qp 0) [(b,true)]:=K1
def Ap:(Qc prog 173 m (XO b m c cs x) (Q0 0 0) (Qp 1)).info=some (Q0 0 0,Qp 0,#[Z0 .disable,Jd b 1,W9 b 1,Z0 .enable],[(b,true),(b,true)]):=K1
def TJ:Gr:=(Qc prog 173 m (XO b m c cs x) (Q0 0 0) (Qp 1)).get (XO b m c cs x)
def As:Qm prog 173 m 16 (TJ b m c cs x)=some []:=K1
def Kk:Gr:=Qi prog 173 m 16 (TJ b m c cs x)
def At:(Qc prog 173 m (Kk b m c cs x) (Q0 0 0) (Qp 0)).info=some (Q0 0 0,Qp 0,#[Jd b 0],[(b,true)]):=K1
def TK:Gr:=(Qc prog 173 m (Kk b m c cs x) (Q0 0 0) (Qp 0)).get (Kk b m c cs x)
def Au:Qm prog 173 m 11 (TK b m c cs x)=some []:=K1
def Kl:Gr:=Qi prog 173 m 11 (TK b m c cs x)
def Av:(Qc prog 173 m (Kl b m c cs x) undef undef).info=some (undef,undef,#[Z0 .enable],[]):=K1
def TL:Gr:=(Qc prog 173 m (Kl b m c cs x) undef undef).get (Kl b m c cs x)
def Aw:Qm prog 173 m 4 (TL b m c cs x)=some [(b,false),(b,false)]:=K1
def Km:Gr:=Qi prog 173 m 4 (TL b m c cs x)
def Ax:(Qc prog 173 m (Km b m c cs x) undef undef).info=some (undef,undef,#[Z0 (.acquire ⟨b,0,none⟩)],[]):=K1
def TN:Gr:=(Qc prog 173 m (Km b m c cs x) undef undef).get (Km b m c cs x)
def Ay:Qm prog 173 m 10 (TN b m c cs x)=some []:=K1
def Az:Qi prog 173 m 10 (TN b m c cs x)=Rf (c.finish (.tuple #[])) cs:=K1
