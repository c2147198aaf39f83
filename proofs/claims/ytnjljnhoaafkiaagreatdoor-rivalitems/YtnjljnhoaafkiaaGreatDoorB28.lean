/- Lemmas. No conditions. -/
import Derived.Test.YtnjljnhoaafkiaaGreatDoorB13
set_option linter.all false
open Go.Proofs.Tryz (prog)
set_option maxRecDepth 100000
noncomputable section
namespace Go.Proofs
open Go.TM
open Go.Conc (QuitsD)
section
variable(b:Nat)(m:Bool)(c:Frame)(cs:List Frame)(x:Nat->Value)
def vg:(Qc prog 176 m (Zg b m c cs x) (Q0 5 0) (Qp 0)).info=some (Q0 5 0,Qp 0,#[Jc b 0],[(b,true)]):=K1
def Ty:Gr:=(Qc prog 176 m (Zg b m c cs x) (Q0 5 0) (Qp 0)).get (Zg b m c cs x)
def Bl:Qm prog 176 m 48 (Ty b m c cs x)=some []:=K1
def Z3:Gr:=Qj prog 176 m 48 (Ty b m c cs x)
def F3:(Qc prog 176 m (Z3 b m c cs x) (Q0 0 0) (Qp 0)).info=some (Q0 0 0,Qp 0,#[Jc b 0],[(b,true),(b,false),(b,false)]):=K1
def Ws:Gr:=(Qc prog 176 m (Z3 b m c cs x) (Q0 0 0) (Qp 0)).get (Z3 b m c cs x)
def Bm:(Qc prog 176 m (Z3 b m c cs x) (Q0 1 0) (Qp 0)).info=some (Q0 1 0,Qp 0,#[Jc b 0],[(b,true),(b,false),(b,false)]):=K1
def N7:(Qc prog 176 m (Z3 b m c cs x) (Q0 1 0) (Qp 0)).get (Z3 b m c cs x)=Ws b m c cs x:=K1
def Bn:(Qc prog 176 m (Z3 b m c cs x) (Q0 2 0) (Qp 0)).info=some (Q0 2 0,Qp 0,#[Jc b 0],[(b,true),(b,false),(b,false)]):=K1
def N8:(Qc prog 176 m (Z3 b m c cs x) (Q0 2 0) (Qp 0)).get (Z3 b m c cs x)=Ws b m c cs x:=K1
def Bo:(Qc prog 176 m (Z3 b m c cs x) (Q0 3 0) (Qp 0)).info=some (Q0 3 0,Qp 0,#[Jc b 0],[(b,true),(b,false),(b,false)]):=K1
def N9:(Qc prog 176 m (Z3 b m c cs x) (Q0 3 0) (Qp 0)).get (Z3 b m c cs x)=Ws b m c cs x:=K1
def Bp:(Qc prog 176 m (Z3 b m c cs x) (Q0 4 0) (Qp 0)).info=some (Q0 4 0,Qp 0,#[Jc b 0],[(b,true),(b,false),(b,false)]):=K1
def Na:(Qc prog 176 m (Z3 b m c cs x) (Q0 4 0) (Qp 0)).get (Z3 b m c cs x)=Ws b m c cs x:=K1
def Pa:Qm prog 176 m 25 (Ws b m c cs x)=some []:=K1
def Pb:Qj prog 176 m 25 (Ws b m c cs x)=Zg b m c cs (λ i=>(HM (Qj prog 176 m 25 (Ws b m c cs x))).getD i undef):=K1
def AK:(Qc prog 176 m (Z3 b m c cs x) (Q0 5 0) (Qp 0)).info=some (Q0 5 1,Qp 0,#[Jc b 0,QA b 0],[(b,true),(b,true),(b,false),(b,false)]):=K1
def Tz:Gr:=(Qc prog 176 m (Z3 b m c cs x) (Q0 5 0) (Qp 0)).get (Z3 b m c cs x)
def AL:Qm prog 176 m 20 (Tz b m c cs x)=some [(b,false),(b,false)]:=K1
def KK:Gr:=Qj prog 176 m 20 (Tz b m c cs x)
def AM:(Qc prog 176 m (KK b m c cs x) undef undef).info=some (undef,undef,#[Z0 (bif true then .write ⟨b,1,none⟩else .read ⟨b,1,none⟩)],[]):=K1
def TA:Gr:=(Qc prog 176 m (KK b m c cs x) undef undef).get (KK b m c cs x)
def AN:Qm prog 176 m 23 (TA b m c cs x)=some []:=K1
def XJ:Gr:=Qj prog 176 m 23 (TA b m c cs x)
def AQ:(XJ b m c cs x).offers=none:=K1
def AR:(XJ b m c cs x).status=.running:=K1
def AO(st:Value):Qc prog 176 m (XJ b m c cs x) st (Qp 0)=.blocked { XJ b m c cs x with status:=.blocked } st (Qp 0) [(b,true)]:=K1
def AP:(Qc prog 176 m (XJ b m c cs x) (Q0 0 0) (Qp 1)).info=some (Q0 0 0,Qp 0,#[Z0 .disable,Jc b 1,QA b 1,Z0 .enable],[(b,true),(b,true)]):=K1
def TB:Gr:=(Qc prog 176 m (XJ b m c cs x) (Q0 0 0) (Qp 1)).get (XJ b m c cs x)
def AS:Qm prog 176 m 16 (TB b m c cs x)=some []:=K1
def KL:Gr:=Qj prog 176 m 16 (TB b m c cs x)
def AT:(Qc prog 176 m (KL b m c cs x) (Q0 0 0) (Qp 0)).info=some (Q0 0 0,Qp 0,#[Jc b 0],[(b,true)]):=K1
def TC:Gr:=(Qc prog 176 m (KL b m c cs x) (Q0 0 0) (Qp 0)).get (KL b m c cs x)
def BA:Qm prog 176 m 11 (TC b m c cs x)=some []:=K1
def KM:Gr:=Qj prog 176 m 11 (TC b m c cs x)
def BB:(Qc prog 176 m (KM b m c cs x) undef undef).info=some (undef,undef,#[Z0 .enable],[]):=K1
def TD:Gr:=(Qc prog 176 m (KM b m c cs x) undef undef).get (KM b m c cs x)
def BC:Qm prog 176 m 4 (TD b m c cs x)=some [(b,false),(b,false)]:=K1
def KO:Gr:=Qj prog 176 m 4 (TD b m c cs x)
def BD:(Qc prog 176 m (KO b m c cs x) undef undef).info=some (undef,undef,#[Z0 (.acquire ⟨b,0,none⟩)],[]):=K1
def TE:Gr:=(Qc prog 176 m (KO b m c cs x) undef undef).get (KO b m c cs x)
def BE:Qm prog 176 m 10 (TE b m c cs x)=some []:=K1
def BF:Qj prog 176 m 10 (TE b m c cs x)=Rf (c.finish (.tuple #[])) cs:=K1
end
end Go.Proofs
end

