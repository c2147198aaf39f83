/- Lemmas. No conditions. -/
import Derived.Test.YtnpfcnfhfkflhaaGreatDoorB15
set_option linter.all false
open Go.Proofs.Tryz (prog)
set_option maxRecDepth 100000
noncomputable section
namespace Go.Proofs
open Go.TM
open Go.Conc (QuitsD)
section
variable(b:Nat)(m:Bool)(c:Frame)(cs:List Frame)(x:Nat->Value)
def zr:(Qc prog 209 m (Zh b m c cs x) (Q1 4 0) (Qq 0)).info=some (Q1 4 0,Qq 0,#[Jg b 0],[(b,true)]):=K1
def SV:Gr:=(Qc prog 209 m (Zh b m c cs x) (Q1 4 0) (Qq 0)).get (Zh b m c cs x)
def Ry:Qm prog 209 m 48 (SV b m c cs x)=some []:=K1
def Jo:Gr:=Qi prog 209 m 48 (SV b m c cs x)
def Ln:(Qc prog 209 m (Jo b m c cs x) (Q1 0 0) (Qq 0)).info=some (Q1 0 0,Qq 0,#[Jg b 0],[(b,true),(b,false),(b,false)]):=K1
def XJ:Gr:=(Qc prog 209 m (Jo b m c cs x) (Q1 0 0) (Qq 0)).get (Jo b m c cs x)
def vX:(Qc prog 209 m (Jo b m c cs x) (Q1 1 0) (Qq 0)).info=some (Q1 1 0,Qq 0,#[Jg b 0],[(b,true),(b,false),(b,false)]):=K1
def Ra:(Qc prog 209 m (Jo b m c cs x) (Q1 1 0) (Qq 0)).get (Jo b m c cs x)=XJ b m c cs x:=K1
def xK:(Qc prog 209 m (Jo b m c cs x) (Q1 2 0) (Qq 0)).info=some (Q1 2 0,Qq 0,#[Jg b 0],[(b,true),(b,false),(b,false)]):=K1
def Cr:(Qc prog 209 m (Jo b m c cs x) (Q1 2 0) (Qq 0)).get (Jo b m c cs x)=XJ b m c cs x:=K1
def jc:(Qc prog 209 m (Jo b m c cs x) (Q1 3 0) (Qq 0)).info=some (Q1 3 0,Qq 0,#[Jg b 0],[(b,true),(b,false),(b,false)]):=K1
def qG:(Qc prog 209 m (Jo b m c cs x) (Q1 3 0) (Qq 0)).get (Jo b m c cs x)=XJ b m c cs x:=K1
def KC:Qm prog 209 m 25 (XJ b m c cs x)=some []:=K1
def KL:Qi prog 209 m 25 (XJ b m c cs x)=Zh b m c cs (λ i=>(HF (Qi prog 209 m 25 (XJ b m c cs x))).getD i undef):=K1
def Rv:(Qc prog 209 m (Jo b m c cs x) (Q1 4 0) (Qq 0)).info=some (Q1 4 1,Qq 0,#[Jg b 0,QB b 0],[(b,true),(b,true),(b,false),(b,false)]):=K1
def OL:Gr:=(Qc prog 209 m (Jo b m c cs x) (Q1 4 0) (Qq 0)).get (Jo b m c cs x)
def yD:Qm prog 209 m 20 (OL b m c cs x)=some [(b,false),(b,false)]:=K1
def Kd:Gr:=Qi prog 209 m 20 (OL b m c cs x)
def vO:(Qc prog 209 m (Kd b m c cs x) undef undef).info=some (undef,undef,#[Z2 (bif true then .write ⟨b,1,none⟩else .read ⟨b,1,none⟩)],[]):=K1
def OU:Gr:=(Qc prog 209 m (Kd b m c cs x) undef undef).get (Kd b m c cs x)
def Bs:Qm prog 209 m 23 (OU b m c cs x)=some []:=K1
def XU:Gr:=Qi prog 209 m 23 (OU b m c cs x)
def CY:(XU b m c cs x).offers=none:=K1
def MG:(XU b m c cs x).status=.running:=K1
def jB(st:Value):Qc prog 209 m (XU b m c cs x) st (Qq 0)=.blocked { XU b m c cs x with status:=.blocked } st (Qq 0) [(b,true)]:=K1
def R0:(Qc prog 209 m (XU b m c cs x) (Q1 0 0) (Qq 1)).info=some (Q1 0 0,Qq 0,#[Z2 .disable,Jg b 1,QB b 1,Z2 .enable],[(b,true),(b,true)]):=K1
def ST:Gr:=(Qc prog 209 m (XU b m c cs x) (Q1 0 0) (Qq 1)).get (XU b m c cs x)
def N3:Qm prog 209 m 16 (ST b m c cs x)=some []:=K1
def Y6:Gr:=Qi prog 209 m 16 (ST b m c cs x)
def RE:(Qc prog 209 m (Y6 b m c cs x) (Q1 0 0) (Qq 0)).info=some (Q1 0 0,Qq 0,#[Jg b 0],[(b,true)]):=K1
def Uz:Gr:=(Qc prog 209 m (Y6 b m c cs x) (Q1 0 0) (Qq 0)).get (Y6 b m c cs x)
def zE:Qm prog 209 m 11 (Uz b m c cs x)=some []:=K1
def KU:Gr:=Qi prog 209 m 11 (Uz b m c cs x)
def zH:(Qc prog 209 m (KU b m c cs x) undef undef).info=some (undef,undef,#[Z2 .enable],[]):=K1
def YH:Gr:=(Qc prog 209 m (KU b m c cs x) undef undef).get (KU b m c cs x)
def zX:Qm prog 209 m 4 (YH b m c cs x)=some [(b,false),(b,false)]:=K1
def Kv:Gr:=Qi prog 209 m 4 (YH b m c cs x)
def RH:(Qc prog 209 m (Kv b m c cs x) undef undef).info=some (undef,undef,#[Z2 (.acquire ⟨b,0,none⟩)],[]):=K1
def Ol:Gr:=(Qc prog 209 m (Kv b m c cs x) undef undef).get (Kv b m c cs x)
def z_:Qm prog 209 m 10 (Ol b m c cs x)=some []:=K1
def gK:Qi prog 209 m 10 (Ol b m c cs x)=Rf (c.finish (.tuple #[])) cs:=K1
end
end Go.Proofs
end

