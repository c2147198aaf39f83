/- Lemmas. No conditions. -/
import Derived.Test.YtnjljnhoaafkiaaGreatDoorB13
set_option linter.all false
open Go.Proofs.Tryz (prog)
set_option maxRecDepth 100000
noncomputable section
namespace Go.Proofs
open Go.TM
open Go.Conc (QuitsD)
section
variable(b:Nat)(m:Bool)(c:Frame)(cs:List Frame)(x:Nat->Value)
def ve:(Qc prog 176 m (Zg b m c cs x) (Q0 3 0) (Qp 0)).info=some (Q0 3 0,Qp 0,#[Jc b 0],[(b,true)]):=K1
def TR:Gr:=(Qc prog 176 m (Zg b m c cs x) (Q0 3 0) (Qp 0)).get (Zg b m c cs x)
def AC:Qm prog 176 m 48 (TR b m c cs x)=some []:=K1
def J7:Gr:=Qj prog 176 m 48 (TR b m c cs x)
def F7:(Qc prog 176 m (J7 b m c cs x) (Q0 0 0) (Qp 0)).info=some (Q0 0 0,Qp 0,#[Jc b 0],[(b,true),(b,false),(b,false)]):=K1
def H9:Gr:=(Qc prog 176 m (J7 b m c cs x) (Q0 0 0) (Qp 0)).get (J7 b m c cs x)
def AD:(Qc prog 176 m (J7 b m c cs x) (Q0 1 0) (Qp 0)).info=some (Q0 1 0,Qp 0,#[Jc b 0],[(b,true),(b,false),(b,false)]):=K1
def N2:(Qc prog 176 m (J7 b m c cs x) (Q0 1 0) (Qp 0)).get (J7 b m c cs x)=H9 b m c cs x:=K1
def AE:(Qc prog 176 m (J7 b m c cs x) (Q0 2 0) (Qp 0)).info=some (Q0 2 0,Qp 0,#[Jc b 0],[(b,true),(b,false),(b,false)]):=K1
def N3:(Qc prog 176 m (J7 b m c cs x) (Q0 2 0) (Qp 0)).get (J7 b m c cs x)=H9 b m c cs x:=K1
def O8:Qm prog 176 m 25 (H9 b m c cs x)=some []:=K1
def O9:Qj prog 176 m 25 (H9 b m c cs x)=Zg b m c cs (λ i=>(HM (Qj prog 176 m 25 (H9 b m c cs x))).getD i undef):=K1
def AF:(Qc prog 176 m (J7 b m c cs x) (Q0 3 0) (Qp 0)).info=some (Q0 3 1,Qp 0,#[Jc b 0,QA b 0],[(b,true),(b,true),(b,false),(b,false)]):=K1
def TS:Gr:=(Qc prog 176 m (J7 b m c cs x) (Q0 3 0) (Qp 0)).get (J7 b m c cs x)
def AG:Qm prog 176 m 20 (TS b m c cs x)=some [(b,false),(b,false)]:=K1
def KB:Gr:=Qj prog 176 m 20 (TS b m c cs x)
def AH:(Qc prog 176 m (KB b m c cs x) undef undef).info=some (undef,undef,#[Z0 (bif true then .write ⟨b,1,none⟩else .read ⟨b,1,none⟩)],[]):=K1
def TT:Gr:=(Qc prog 176 m (KB b m c cs x) undef undef).get (KB b m c cs x)
def AI:Qm prog 176 m 23 (TT b m c cs x)=some []:=K1
def XH:Gr:=Qj prog 176 m 23 (TT b m c cs x)
def Ab:(XH b m c cs x).offers=none:=K1
def Ac:(XH b m c cs x).status=.running:=K1
def AJ(st:Value):Qc prog 176 m (XH b m c cs x) st (Qp 0)=.blocked { XH b m c cs x with status:=.blocked } st (Qp 0) [(b,true)]:=K1
def Aa:(Qc prog 176 m (XH b m c cs x) (Q0 0 0) (Qp 1)).info=some (Q0 0 0,Qp 0,#[Z0 .disable,Jc b 1,QA b 1,Z0 .enable],[(b,true),(b,true)]):=K1
def TU:Gr:=(Qc prog 176 m (XH b m c cs x) (Q0 0 0) (Qp 1)).get (XH b m c cs x)
def Ad:Qm prog 176 m 16 (TU b m c cs x)=some []:=K1
def KC:Gr:=Qj prog 176 m 16 (TU b m c cs x)
def Ae:(Qc prog 176 m (KC b m c cs x) (Q0 0 0) (Qp 0)).info=some (Q0 0 0,Qp 0,#[Jc b 0],[(b,true)]):=K1
def TV:Gr:=(Qc prog 176 m (KC b m c cs x) (Q0 0 0) (Qp 0)).get (KC b m c cs x)
def Af:Qm prog 176 m 11 (TV b m c cs x)=some []:=K1
def KD:Gr:=Qj prog 176 m 11 (TV b m c cs x)
def Ag:(Qc prog 176 m (KD b m c cs x) undef undef).info=some (undef,undef,#[Z0 .enable],[]):=K1
def TW:Gr:=(Qc prog 176 m (KD b m c cs x) undef undef).get (KD b m c cs x)
def Ah:Qm prog 176 m 4 (TW b m c cs x)=some [(b,false),(b,false)]:=K1
def KE:Gr:=Qj prog 176 m 4 (TW b m c cs x)
def Ai:(Qc prog 176 m (KE b m c cs x) undef undef).info=some (undef,undef,#[Z0 (.acquire ⟨b,0,none⟩)],[]):=K1
def TX:Gr:=(Qc prog 176 m (KE b m c cs x) undef undef).get (KE b m c cs x)
def Aj:Qm prog 176 m 10 (TX b m c cs x)=some []:=K1
def AU:Qj prog 176 m 10 (TX b m c cs x)=Rf (c.finish (.tuple #[])) cs:=K1
end
end Go.Proofs
end

