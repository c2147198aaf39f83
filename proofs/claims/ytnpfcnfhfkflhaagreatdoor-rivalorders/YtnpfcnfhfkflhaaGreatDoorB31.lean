/- Lemmas. No conditions. -/
import Derived.Test.YtnpfcnfhfkflhaaGreatDoorB15
set_option linter.all false
open Go.Proofs.Tryz (prog)
set_option maxRecDepth 100000
noncomputable section
namespace Go.Proofs
open Go.TM
open Go.Conc (QuitsD)
section
variable(b:Nat)(m:Bool)(c:Frame)(cs:List Frame)(x:Nat->Value)
def yq:(Qc prog 209 m (Zh b m c cs x) (Q1 6 0) (Qq 0)).info=some (Q1 6 0,Qq 0,#[Jg b 0],[(b,true)]):=K1
def Od:Gr:=(Qc prog 209 m (Zh b m c cs x) (Q1 6 0) (Qq 0)).get (Zh b m c cs x)
def BB:Qm prog 209 m 48 (Od b m c cs x)=some []:=K1
def Zy:Gr:=Qi prog 209 m 48 (Od b m c cs x)
def FU:(Qc prog 209 m (Zy b m c cs x) (Q1 0 0) (Qq 0)).info=some (Q1 0 0,Qq 0,#[Jg b 0],[(b,true),(b,false),(b,false)]):=K1
def Wc:Gr:=(Qc prog 209 m (Zy b m c cs x) (Q1 0 0) (Qq 0)).get (Zy b m c cs x)
def Rb:(Qc prog 209 m (Zy b m c cs x) (Q1 1 0) (Qq 0)).info=some (Q1 1 0,Qq 0,#[Jg b 0],[(b,true),(b,false),(b,false)]):=K1
def py:(Qc prog 209 m (Zy b m c cs x) (Q1 1 0) (Qq 0)).get (Zy b m c cs x)=Wc b m c cs x:=K1
def Cc:(Qc prog 209 m (Zy b m c cs x) (Q1 2 0) (Qq 0)).info=some (Q1 2 0,Qq 0,#[Jg b 0],[(b,true),(b,false),(b,false)]):=K1
def qD:(Qc prog 209 m (Zy b m c cs x) (Q1 2 0) (Qq 0)).get (Zy b m c cs x)=Wc b m c cs x:=K1
def zN:(Qc prog 209 m (Zy b m c cs x) (Q1 3 0) (Qq 0)).info=some (Q1 3 0,Qq 0,#[Jg b 0],[(b,true),(b,false),(b,false)]):=K1
def xg:(Qc prog 209 m (Zy b m c cs x) (Q1 3 0) (Qq 0)).get (Zy b m c cs x)=Wc b m c cs x:=K1
def ou:(Qc prog 209 m (Zy b m c cs x) (Q1 4 0) (Qq 0)).info=some (Q1 4 0,Qq 0,#[Jg b 0],[(b,true),(b,false),(b,false)]):=K1
def oQ:(Qc prog 209 m (Zy b m c cs x) (Q1 4 0) (Qq 0)).get (Zy b m c cs x)=Wc b m c cs x:=K1
def oJ:(Qc prog 209 m (Zy b m c cs x) (Q1 5 0) (Qq 0)).info=some (Q1 5 0,Qq 0,#[Jg b 0],[(b,true),(b,false),(b,false)]):=K1
def wU:(Qc prog 209 m (Zy b m c cs x) (Q1 5 0) (Qq 0)).get (Zy b m c cs x)=Wc b m c cs x:=K1
def G6:Qm prog 209 m 25 (Wc b m c cs x)=some []:=K1
def G3:Qi prog 209 m 25 (Wc b m c cs x)=Zh b m c cs (λ i=>(HF (Qi prog 209 m 25 (Wc b m c cs x))).getD i undef):=K1
def vH:(Qc prog 209 m (Zy b m c cs x) (Q1 6 0) (Qq 0)).info=some (Q1 6 1,Qq 0,#[Jg b 0,QB b 0],[(b,true),(b,true),(b,false),(b,false)]):=K1
def TJ:Gr:=(Qc prog 209 m (Zy b m c cs x) (Q1 6 0) (Qq 0)).get (Zy b m c cs x)
def pj:Qm prog 209 m 20 (TJ b m c cs x)=some [(b,false),(b,false)]:=K1
def Vv:Gr:=Qi prog 209 m 20 (TJ b m c cs x)
def ju:(Qc prog 209 m (Vv b m c cs x) undef undef).info=some (undef,undef,#[Z2 (bif true then .write ⟨b,1,none⟩else .read ⟨b,1,none⟩)],[]):=K1
def Sw:Gr:=(Qc prog 209 m (Vv b m c cs x) undef undef).get (Vv b m c cs x)
def kb:Qm prog 209 m 23 (Sw b m c cs x)=some []:=K1
def XS:Gr:=Qi prog 209 m 23 (Sw b m c cs x)
def pK:(XS b m c cs x).offers=none:=K1
def yR:(XS b m c cs x).status=.running:=K1
def qC(st:Value):Qc prog 209 m (XS b m c cs x) st (Qq 0)=.blocked { XS b m c cs x with status:=.blocked } st (Qq 0) [(b,true)]:=K1
def xW:(Qc prog 209 m (XS b m c cs x) (Q1 0 0) (Qq 1)).info=some (Q1 0 0,Qq 0,#[Z2 .disable,Jg b 1,QB b 1,Z2 .enable],[(b,true),(b,true)]):=K1
def Ss:Gr:=(Qc prog 209 m (XS b m c cs x) (Q1 0 0) (Qq 1)).get (XS b m c cs x)
def tj:Qm prog 209 m 16 (Ss b m c cs x)=some []:=K1
def KW:Gr:=Qi prog 209 m 16 (Ss b m c cs x)
def ow:(Qc prog 209 m (KW b m c cs x) (Q1 0 0) (Qq 0)).info=some (Q1 0 0,Qq 0,#[Jg b 0],[(b,true)]):=K1
def TZ:Gr:=(Qc prog 209 m (KW b m c cs x) (Q1 0 0) (Qq 0)).get (KW b m c cs x)
def Rl:Qm prog 209 m 11 (TZ b m c cs x)=some []:=K1
def Yc:Gr:=Qi prog 209 m 11 (TZ b m c cs x)
def Ch:(Qc prog 209 m (Yc b m c cs x) undef undef).info=some (undef,undef,#[Z2 .enable],[]):=K1
def Uh:Gr:=(Qc prog 209 m (Yc b m c cs x) undef undef).get (Yc b m c cs x)
def MO:Qm prog 209 m 4 (Uh b m c cs x)=some [(b,false),(b,false)]:=K1
def Yw:Gr:=Qi prog 209 m 4 (Uh b m c cs x)
def ke:(Qc prog 209 m (Yw b m c cs x) undef undef).info=some (undef,undef,#[Z2 (.acquire ⟨b,0,none⟩)],[]):=K1
def T9:Gr:=(Qc prog 209 m (Yw b m c cs x) undef undef).get (Yw b m c cs x)
def qE:Qm prog 209 m 10 (T9 b m c cs x)=some []:=K1
def Cm:Qi prog 209 m 10 (T9 b m c cs x)=Rf (c.finish (.tuple #[])) cs:=K1
end
end Go.Proofs
end

