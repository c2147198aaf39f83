/- Lemmas. No conditions. -/
import Derived.Test.YtnjljnhoaafkiaaGreatDoorB13
set_option linter.all false
set_option maxRecDepth 100000
open Go.Proofs.Tryz (prog)
noncomputable section
namespace Go.TM
open Go.Proofs
section
open Go.Conc (QuitsD)
variable(b:Nat)(m:Bool)(c:Frame)(cs:List Frame)(x:Nat->Value)
def gw:(Qc prog 176 m (Zh b m c cs x) (Q0 5 0) (Qp 0)).info=some (Q0 5 0,Qp 0,#[Jc b 0],[(b,true)]):=K1
def Sc:Gr:=(Qc prog 176 m (Zh b m c cs x) (Q0 5 0) (Qp 0)).get (Zh b m c cs x)
def Bm:Qm prog 176 m 48 (Sc b m c cs x)=some []:=K1
def Z3:Gr:=Qj prog 176 m 48 (Sc b m c cs x)
def F3:(Qc prog 176 m (Z3 b m c cs x) (Q0 0 0) (Qp 0)).info=some (Q0 0 0,Qp 0,#[Jc b 0],[(b,true),(b,false),(b,false)]):=K1
def Ws:Gr:=(Qc prog 176 m (Z3 b m c cs x) (Q0 0 0) (Qp 0)).get (Z3 b m c cs x)
def Bn:(Qc prog 176 m (Z3 b m c cs x) (Q0 1 0) (Qp 0)).info=some (Q0 1 0,Qp 0,#[Jc b 0],[(b,true),(b,false),(b,false)]):=K1
def MT:(Qc prog 176 m (Z3 b m c cs x) (Q0 1 0) (Qp 0)).get (Z3 b m c cs x)=Ws b m c cs x:=K1
def Bo:(Qc prog 176 m (Z3 b m c cs x) (Q0 2 0) (Qp 0)).info=some (Q0 2 0,Qp 0,#[Jc b 0],[(b,true),(b,false),(b,false)]):=K1
def Nc:(Qc prog 176 m (Z3 b m c cs x) (Q0 2 0) (Qp 0)).get (Z3 b m c cs x)=Ws b m c cs x:=K1
def Bp:(Qc prog 176 m (Z3 b m c cs x) (Q0 3 0) (Qp 0)).info=some (Q0 3 0,Qp 0,#[Jc b 0],[(b,true),(b,false),(b,false)]):=K1
def Nd:(Qc prog 176 m (Z3 b m c cs x) (Q0 3 0) (Qp 0)).get (Z3 b m c cs x)=Ws b m c cs x:=K1
def Bq:(Qc prog 176 m (Z3 b m c cs x) (Q0 4 0) (Qp 0)).info=some (Q0 4 0,Qp 0,#[Jc b 0],[(b,true),(b,false),(b,false)]):=K1
def Nf:(Qc prog 176 m (Z3 b m c cs x) (Q0 4 0) (Qp 0)).get (Z3 b m c cs x)=Ws b m c cs x:=K1
def Pc:Qm prog 176 m 25 (Ws b m c cs x)=some []:=K1
def Pd:Qj prog 176 m 25 (Ws b m c cs x)=Zh b m c cs (λ i=>(HR (Qj prog 176 m 25 (Ws b m c cs x))).getD i undef):=K1
def Br:(Qc prog 176 m (Z3 b m c cs x) (Q0 5 0) (Qp 0)).info=some (Q0 5 1,Qp 0,#[Jc b 0,QA b 0],[(b,true),(b,true),(b,false),(b,false)]):=K1
def TF:Gr:=(Qc prog 176 m (Z3 b m c cs x) (Q0 5 0) (Qp 0)).get (Z3 b m c cs x)
def Bs:Qm prog 176 m 20 (TF b m c cs x)=some [(b,false),(b,false)]:=K1
def KO:Gr:=Qj prog 176 m 20 (TF b m c cs x)
def Bt:(Qc prog 176 m (KO b m c cs x) undef undef).info=some (undef,undef,#[Z0 (bif true then .write ⟨b,1,none⟩else .read ⟨b,1,none⟩)],[]):=K1
def TG:Gr:=(Qc prog 176 m (KO b m c cs x) undef undef).get (KO b m c cs x)
def Bu:Qm prog 176 m 23 (TG b m c cs x)=some []:=K1
def XK:Gr:=Qj prog 176 m 23 (TG b m c cs x)
def Bx:(XK b m c cs x).offers=none:=K1
def By:(XK b m c cs x).status=.running:=K1
def Bv(st:Value):Qc prog 176 m (XK b m c cs x) st (Qp 0)=.blocked { XK b m c cs x with status:=.blocked } st (Qp 0) [(b,true)]:=K1
def Bw:(Qc prog 176 m (XK b m c cs x) (Q0 0 0) (Qp 1)).info=some (Q0 0 0,Qp 0,#[Z0 .disable,Jc b 1,QA b 1,Z0 .enable],[(b,true),(b,true)]):=K1
def TJ:Gr:=(Qc prog 176 m (XK b m c cs x) (Q0 0 0) (Qp 1)).get (XK b m c cs x)
def Bz:Qm prog 176 m 16 (TJ b m c cs x)=some []:=K1
def KP:Gr:=Qj prog 176 m 16 (TJ b m c cs x)
def BA:(Qc prog 176 m (KP b m c cs x) (Q0 0 0) (Qp 0)).info=some (Q0 0 0,Qp 0,#[Jc b 0],[(b,true)]):=K1
def TK:Gr:=(Qc prog 176 m (KP b m c cs x) (Q0 0 0) (Qp 0)).get (KP b m c cs x)
def BB:Qm prog 176 m 11 (TK b m c cs x)=some []:=K1
def KQ:Gr:=Qj prog 176 m 11 (TK b m c cs x)
def BC:(Qc prog 176 m (KQ b m c cs x) undef undef).info=some (undef,undef,#[Z0 .enable],[]):=K1
def TL:Gr:=(Qc prog 176 m (KQ b m c cs x) undef undef).get (KQ b m c cs x)
def AW:Qm prog 176 m 4 (TL b m c cs x)=some [(b,false),(b,false)]:=K1
def KS:Gr:=Qj prog 176 m 4 (TL b m c cs x)
def AX:(Qc prog 176 m (KS b m c cs x) undef undef).info=some (undef,undef,#[Z0 (.acquire ⟨b,0,none⟩)],[]):=K1
def TN:Gr:=(Qc prog 176 m (KS b m c cs x) undef undef).get (KS b m c cs x)
def AZ:Qm prog 176 m 10 (TN b m c cs x)=some []:=K1
def A_:Qj prog 176 m 10 (TN b m c cs x)=Rf (c.finish (.tuple #[])) cs:=K1
