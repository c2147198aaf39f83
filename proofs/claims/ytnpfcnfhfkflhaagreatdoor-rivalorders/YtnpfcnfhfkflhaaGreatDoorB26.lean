/- Lemmas. No conditions. -/
import Derived.Test.YtnpfcnfhfkflhaaGreatDoorB15
set_option linter.all false
open Go.Proofs.Tryz (prog)
set_option maxRecDepth 100000
noncomputable section
namespace Go.Proofs
open Go.TM
open Go.Conc (QuitsD)
section
variable(b:Nat)(m:Bool)(c:Frame)(cs:List Frame)(x:Nat->Value)
def zq:(Qc prog 209 m (Zh b m c cs x) (Q1 1 0) (Qq 0)).info=some (Q1 1 0,Qq 0,#[Jg b 0],[(b,true)]):=K1
def TN:Gr:=(Qc prog 209 m (Zh b m c cs x) (Q1 1 0) (Qq 0)).get (Zh b m c cs x)
def Cf:Qm prog 209 m 48 (TN b m c cs x)=some []:=K1
def Hk:Gr:=Qi prog 209 m 48 (TN b m c cs x)
def EN:(Qc prog 209 m (Hk b m c cs x) (Q1 0 0) (Qq 0)).info=some (Q1 0 0,Qq 0,#[Jg b 0],[(b,true),(b,false),(b,false)]):=K1
def K0:Gr:=(Qc prog 209 m (Hk b m c cs x) (Q1 0 0) (Qq 0)).get (Hk b m c cs x)
def wu:Qm prog 209 m 25 (K0 b m c cs x)=some []:=K1
def xx:Qi prog 209 m 25 (K0 b m c cs x)=Zh b m c cs (λ i=>(HF (Qi prog 209 m 25 (K0 b m c cs x))).getD i undef):=K1
def CP:(Qc prog 209 m (Hk b m c cs x) (Q1 1 0) (Qq 0)).info=some (Q1 1 1,Qq 0,#[Jg b 0,QB b 0],[(b,true),(b,true),(b,false),(b,false)]):=K1
def UA:Gr:=(Qc prog 209 m (Hk b m c cs x) (Q1 1 0) (Qq 0)).get (Hk b m c cs x)
def pI:Qm prog 209 m 20 (UA b m c cs x)=some [(b,false),(b,false)]:=K1
def Y3:Gr:=Qi prog 209 m 20 (UA b m c cs x)
def AA:(Qc prog 209 m (Y3 b m c cs x) undef undef).info=some (undef,undef,#[Z2 (bif true then .write ⟨b,1,none⟩else .read ⟨b,1,none⟩)],[]):=K1
def T7:Gr:=(Qc prog 209 m (Y3 b m c cs x) undef undef).get (Y3 b m c cs x)
def AL:Qm prog 209 m 23 (T7 b m c cs x)=some []:=K1
def H2:Gr:=Qi prog 209 m 23 (T7 b m c cs x)
def RN:(H2 b m c cs x).offers=none:=K1
def An:(H2 b m c cs x).status=.running:=K1
def kq(st:Value):Qc prog 209 m (H2 b m c cs x) st (Qq 0)=.blocked { H2 b m c cs x with status:=.blocked } st (Qq 0) [(b,true)]:=K1
def yZ:(Qc prog 209 m (H2 b m c cs x) (Q1 0 0) (Qq 1)).info=some (Q1 0 0,Qq 0,#[Z2 .disable,Jg b 1,QB b 1,Z2 .enable],[(b,true),(b,true)]):=K1
def Uk:Gr:=(Qc prog 209 m (H2 b m c cs x) (Q1 0 0) (Qq 1)).get (H2 b m c cs x)
def zP:Qm prog 209 m 16 (Uk b m c cs x)=some []:=K1
def Vu:Gr:=Qi prog 209 m 16 (Uk b m c cs x)
def Ac:(Qc prog 209 m (Vu b m c cs x) (Q1 0 0) (Qq 0)).info=some (Q1 0 0,Qq 0,#[Jg b 0],[(b,true)]):=K1
def Sj:Gr:=(Qc prog 209 m (Vu b m c cs x) (Q1 0 0) (Qq 0)).get (Vu b m c cs x)
def jH:Qm prog 209 m 11 (Sj b m c cs x)=some []:=K1
def Yl:Gr:=Qi prog 209 m 11 (Sj b m c cs x)
def jA:(Qc prog 209 m (Yl b m c cs x) undef undef).info=some (undef,undef,#[Z2 .enable],[]):=K1
def Uo:Gr:=(Qc prog 209 m (Yl b m c cs x) undef undef).get (Yl b m c cs x)
def AO:Qm prog 209 m 4 (Uo b m c cs x)=some [(b,false),(b,false)]:=K1
def Ks:Gr:=Qi prog 209 m 4 (Uo b m c cs x)
def Nf:(Qc prog 209 m (Ks b m c cs x) undef undef).info=some (undef,undef,#[Z2 (.acquire ⟨b,0,none⟩)],[]):=K1
def T0:Gr:=(Qc prog 209 m (Ks b m c cs x) undef undef).get (Ks b m c cs x)
def yQ:Qm prog 209 m 10 (T0 b m c cs x)=some []:=K1
def jb:Qi prog 209 m 10 (T0 b m c cs x)=Rf (c.finish (.tuple #[])) cs:=K1
end
end Go.Proofs
end

