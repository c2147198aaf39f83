/- Lemmas. No conditions. -/
import Derived.Test.YtnpfcnfhfkflhaaGreatDoorB15
set_option linter.all false
open Go.Proofs.Tryz (prog)
set_option maxRecDepth 100000
noncomputable section
namespace Go.Proofs
open Go.TM
open Go.Conc (QuitsD)
section
variable(b:Nat)(m:Bool)(c:Frame)(cs:List Frame)(x:Nat->Value)
def RS:(Qc prog 209 m (Zh b m c cs x) (Q1 5 0) (Qq 0)).info=some (Q1 5 0,Qq 0,#[Jg b 0],[(b,true)]):=K1
def Tx:Gr:=(Qc prog 209 m (Zh b m c cs x) (Q1 5 0) (Qq 0)).get (Zh b m c cs x)
def yA:Qm prog 209 m 48 (Tx b m c cs x)=some []:=K1
def Z6:Gr:=Qi prog 209 m 48 (Tx b m c cs x)
def M1:(Qc prog 209 m (Z6 b m c cs x) (Q1 0 0) (Qq 0)).info=some (Q1 0 0,Qq 0,#[Jg b 0],[(b,true),(b,false),(b,false)]):=K1
def Ww:Gr:=(Qc prog 209 m (Z6 b m c cs x) (Q1 0 0) (Qq 0)).get (Z6 b m c cs x)
def wq:(Qc prog 209 m (Z6 b m c cs x) (Q1 1 0) (Qq 0)).info=some (Q1 1 0,Qq 0,#[Jg b 0],[(b,true),(b,false),(b,false)]):=K1
def Rn:(Qc prog 209 m (Z6 b m c cs x) (Q1 1 0) (Qq 0)).get (Z6 b m c cs x)=Ww b m c cs x:=K1
def qK:(Qc prog 209 m (Z6 b m c cs x) (Q1 2 0) (Qq 0)).info=some (Q1 2 0,Qq 0,#[Jg b 0],[(b,true),(b,false),(b,false)]):=K1
def CN:(Qc prog 209 m (Z6 b m c cs x) (Q1 2 0) (Qq 0)).get (Z6 b m c cs x)=Ww b m c cs x:=K1
def Bc:(Qc prog 209 m (Z6 b m c cs x) (Q1 3 0) (Qq 0)).info=some (Q1 3 0,Qq 0,#[Jg b 0],[(b,true),(b,false),(b,false)]):=K1
def wP:(Qc prog 209 m (Z6 b m c cs x) (Q1 3 0) (Qq 0)).get (Z6 b m c cs x)=Ww b m c cs x:=K1
def qM:(Qc prog 209 m (Z6 b m c cs x) (Q1 4 0) (Qq 0)).info=some (Q1 4 0,Qq 0,#[Jg b 0],[(b,true),(b,false),(b,false)]):=K1
def Nw:(Qc prog 209 m (Z6 b m c cs x) (Q1 4 0) (Qq 0)).get (Z6 b m c cs x)=Ww b m c cs x:=K1
def Pv:Qm prog 209 m 25 (Ww b m c cs x)=some []:=K1
def Pg:Qi prog 209 m 25 (Ww b m c cs x)=Zh b m c cs (λ i=>(HF (Qi prog 209 m 25 (Ww b m c cs x))).getD i undef):=K1
def CL:(Qc prog 209 m (Z6 b m c cs x) (Q1 5 0) (Qq 0)).info=some (Q1 5 1,Qq 0,#[Jg b 0,QB b 0],[(b,true),(b,true),(b,false),(b,false)]):=K1
def T6:Gr:=(Qc prog 209 m (Z6 b m c cs x) (Q1 5 0) (Qq 0)).get (Z6 b m c cs x)
def xT:Qm prog 209 m 20 (T6 b m c cs x)=some [(b,false),(b,false)]:=K1
def Vh:Gr:=Qi prog 209 m 20 (T6 b m c cs x)
def Bw:(Qc prog 209 m (Vh b m c cs x) undef undef).info=some (undef,undef,#[Z2 (bif true then .write ⟨b,1,none⟩else .read ⟨b,1,none⟩)],[]):=K1
def OM:Gr:=(Qc prog 209 m (Vh b m c cs x) undef undef).get (Vh b m c cs x)
def kC:Qm prog 209 m 23 (OM b m c cs x)=some []:=K1
def XY:Gr:=Qi prog 209 m 23 (OM b m c cs x)
def oC:(XY b m c cs x).offers=none:=K1
def NK:(XY b m c cs x).status=.running:=K1
def Am(st:Value):Qc prog 209 m (XY b m c cs x) st (Qq 0)=.blocked { XY b m c cs x with status:=.blocked } st (Qq 0) [(b,true)]:=K1
def Nt:(Qc prog 209 m (XY b m c cs x) (Q1 0 0) (Qq 1)).info=some (Q1 0 0,Qq 0,#[Z2 .disable,Jg b 1,QB b 1,Z2 .enable],[(b,true),(b,true)]):=K1
def Sq:Gr:=(Qc prog 209 m (XY b m c cs x) (Q1 0 0) (Qq 1)).get (XY b m c cs x)
def pL:Qm prog 209 m 16 (Sq b m c cs x)=some []:=K1
def KH:Gr:=Qi prog 209 m 16 (Sq b m c cs x)
def qt:(Qc prog 209 m (KH b m c cs x) (Q1 0 0) (Qq 0)).info=some (Q1 0 0,Qq 0,#[Jg b 0],[(b,true)]):=K1
def Se:Gr:=(Qc prog 209 m (KH b m c cs x) (Q1 0 0) (Qq 0)).get (KH b m c cs x)
def pf:Qm prog 209 m 11 (Se b m c cs x)=some []:=K1
def Ka:Gr:=Qi prog 209 m 11 (Se b m c cs x)
def qU:(Qc prog 209 m (Ka b m c cs x) undef undef).info=some (undef,undef,#[Z2 .enable],[]):=K1
def UD:Gr:=(Qc prog 209 m (Ka b m c cs x) undef undef).get (Ka b m c cs x)
def MF:Qm prog 209 m 4 (UD b m c cs x)=some [(b,false),(b,false)]:=K1
def Kk:Gr:=Qi prog 209 m 4 (UD b m c cs x)
def vb:(Qc prog 209 m (Kk b m c cs x) undef undef).info=some (undef,undef,#[Z2 (.acquire ⟨b,0,none⟩)],[]):=K1
def Uu:Gr:=(Qc prog 209 m (Kk b m c cs x) undef undef).get (Kk b m c cs x)
def qO:Qm prog 209 m 10 (Uu b m c cs x)=some []:=K1
def qn:Qi prog 209 m 10 (Uu b m c cs x)=Rf (c.finish (.tuple #[])) cs:=K1
end
end Go.Proofs
end

