/- Lemmas. No conditions. -/
import Derived.Test.YtnjljnhoaafkiaaGreatDoorB13
set_option linter.all false
set_option maxRecDepth 100000
open Go.Proofs.Tryz (prog)
noncomputable section
namespace Go.TM
open Go.Proofs
section
open Go.Conc (QuitsD)
variable(b:Nat)(m:Bool)(c:Frame)(cs:List Frame)(x:Nat->Value)
def gt:(Qc prog 176 m (Zh b m c cs x) (Q0 2 0) (Qp 0)).info=some (Q0 2 0,Qp 0,#[Jc b 0],[(b,true)]):=K1
def Tm:Gr:=(Qc prog 176 m (Zh b m c cs x) (Q0 2 0) (Qp 0)).get (Zh b m c cs x)
def Ak:Qm prog 176 m 48 (Tm b m c cs x)=some []:=K1
def W2:Gr:=Qj prog 176 m 48 (Tm b m c cs x)
def F5:(Qc prog 176 m (W2 b m c cs x) (Q0 0 0) (Qp 0)).info=some (Q0 0 0,Qp 0,#[Jc b 0],[(b,true),(b,false),(b,false)]):=K1
def Gc:Gr:=(Qc prog 176 m (W2 b m c cs x) (Q0 0 0) (Qp 0)).get (W2 b m c cs x)
def Al:(Qc prog 176 m (W2 b m c cs x) (Q0 1 0) (Qp 0)).info=some (Q0 1 0,Qp 0,#[Jc b 0],[(b,true),(b,false),(b,false)]):=K1
def MM:(Qc prog 176 m (W2 b m c cs x) (Q0 1 0) (Qp 0)).get (W2 b m c cs x)=Gc b m c cs x:=K1
def F6:Qm prog 176 m 25 (Gc b m c cs x)=some []:=K1
def F7:Qj prog 176 m 25 (Gc b m c cs x)=Zh b m c cs (λ i=>(HR (Qj prog 176 m 25 (Gc b m c cs x))).getD i undef):=K1
def RI:(Qc prog 176 m (W2 b m c cs x) (Q0 2 0) (Qp 0)).info=some (Q0 2 1,Qp 0,#[Jc b 0,QA b 0],[(b,true),(b,true),(b,false),(b,false)]):=K1
def TQ:Gr:=(Qc prog 176 m (W2 b m c cs x) (Q0 2 0) (Qp 0)).get (W2 b m c cs x)
def RJ:Qm prog 176 m 20 (TQ b m c cs x)=some [(b,false),(b,false)]:=K1
def Kz:Gr:=Qj prog 176 m 20 (TQ b m c cs x)
def RK:(Qc prog 176 m (Kz b m c cs x) undef undef).info=some (undef,undef,#[Z0 (bif true then .write ⟨b,1,none⟩else .read ⟨b,1,none⟩)],[]):=K1
def TR:Gr:=(Qc prog 176 m (Kz b m c cs x) undef undef).get (Kz b m c cs x)
def RL:Qm prog 176 m 23 (TR b m c cs x)=some []:=K1
def XQ:Gr:=Qj prog 176 m 23 (TR b m c cs x)
def RO:(XQ b m c cs x).offers=none:=K1
def RP:(XQ b m c cs x).status=.running:=K1
def RM(st:Value):Qc prog 176 m (XQ b m c cs x) st (Qp 0)=.blocked { XQ b m c cs x with status:=.blocked } st (Qp 0) [(b,true)]:=K1
def RN:(Qc prog 176 m (XQ b m c cs x) (Q0 0 0) (Qp 1)).info=some (Q0 0 0,Qp 0,#[Z0 .disable,Jc b 1,QA b 1,Z0 .enable],[(b,true),(b,true)]):=K1
def TS:Gr:=(Qc prog 176 m (XQ b m c cs x) (Q0 0 0) (Qp 1)).get (XQ b m c cs x)
def RQ:Qm prog 176 m 16 (TS b m c cs x)=some []:=K1
def KB:Gr:=Qj prog 176 m 16 (TS b m c cs x)
def RR:(Qc prog 176 m (KB b m c cs x) (Q0 0 0) (Qp 0)).info=some (Q0 0 0,Qp 0,#[Jc b 0],[(b,true)]):=K1
def TT:Gr:=(Qc prog 176 m (KB b m c cs x) (Q0 0 0) (Qp 0)).get (KB b m c cs x)
def Aw:Qm prog 176 m 11 (TT b m c cs x)=some []:=K1
def KC:Gr:=Qj prog 176 m 11 (TT b m c cs x)
def Ax:(Qc prog 176 m (KC b m c cs x) undef undef).info=some (undef,undef,#[Z0 .enable],[]):=K1
def TU:Gr:=(Qc prog 176 m (KC b m c cs x) undef undef).get (KC b m c cs x)
def Ay:Qm prog 176 m 4 (TU b m c cs x)=some [(b,false),(b,false)]:=K1
def KD:Gr:=Qj prog 176 m 4 (TU b m c cs x)
def Az:(Qc prog 176 m (KD b m c cs x) undef undef).info=some (undef,undef,#[Z0 (.acquire ⟨b,0,none⟩)],[]):=K1
def TV:Gr:=(Qc prog 176 m (KD b m c cs x) undef undef).get (KD b m c cs x)
def AA:Qm prog 176 m 10 (TV b m c cs x)=some []:=K1
def AB:Qj prog 176 m 10 (TV b m c cs x)=Rf (c.finish (.tuple #[])) cs:=K1
