/- Lemmas. No conditions. -/
import Derived.Test.YtcakpkianonbkaaGreatDoorB16
set_option linter.all false
open Go.Proofs.Tryz (prog)
set_option maxRecDepth 100000
noncomputable section
namespace Go.Proofs
open Go.TM
open Go.Conc (QuitsD)
section
variable(b:Nat)(m:Bool)(c:Frame)(cs:List Frame)(x:Nat->Value)
def tA:(Qc prog 175 m (Zm b m c cs x) (Q2 2 0) (Qq 0)).info=some (Q2 2 0,Qq 0,#[Ji b 0],[(b,true)]):=K1
def SO:Gr:=(Qc prog 175 m (Zm b m c cs x) (Q2 2 0) (Qq 0)).get (Zm b m c cs x)
def jY:Qn prog 175 m 48 (SO b m c cs x)=some []:=K1
def Xk:Gr:=Qi prog 175 m 48 (SO b m c cs x)
def IV:(Qc prog 175 m (Xk b m c cs x) (Q2 0 0) (Qq 0)).info=some (Q2 0 0,Qq 0,#[Ji b 0],[(b,true),(b,false),(b,false)]):=K1
def GR:Gr:=(Qc prog 175 m (Xk b m c cs x) (Q2 0 0) (Qq 0)).get (Xk b m c cs x)
def jZ:(Qc prog 175 m (Xk b m c cs x) (Q2 1 0) (Qq 0)).info=some (Q2 1 0,Qq 0,#[Ji b 0],[(b,true),(b,false),(b,false)]):=K1
def AL:(Qc prog 175 m (Xk b m c cs x) (Q2 1 0) (Qq 0)).get (Xk b m c cs x)=GR b m c cs x:=K1
def L5:Qn prog 175 m 25 (GR b m c cs x)=some []:=K1
def L6:Qi prog 175 m 25 (GR b m c cs x)=Zm b m c cs (λ i=>(Gf (Qi prog 175 m 25 (GR b m c cs x))).getD i undef):=K1
def j_:(Qc prog 175 m (Xk b m c cs x) (Q2 2 0) (Qq 0)).info=some (Q2 2 1,Qq 0,#[Ji b 0,QA b 0],[(b,true),(b,true),(b,false),(b,false)]):=K1
def SP:Gr:=(Qc prog 175 m (Xk b m c cs x) (Q2 2 0) (Qq 0)).get (Xk b m c cs x)
def we:Qn prog 175 m 20 (SP b m c cs x)=some [(b,false),(b,false)]:=K1
def YA:Gr:=Qi prog 175 m 20 (SP b m c cs x)
def wg:(Qc prog 175 m (YA b m c cs x) undef undef).info=some (undef,undef,#[Z8 (bif true then .write ⟨b,1,none⟩else .read ⟨b,1,none⟩)],[]):=K1
def SQ:Gr:=(Qc prog 175 m (YA b m c cs x) undef undef).get (YA b m c cs x)
def wh:Qn prog 175 m 23 (SQ b m c cs x)=some []:=K1
def He:Gr:=Qi prog 175 m 23 (SQ b m c cs x)
def wm:(He b m c cs x).offers=none:=K1
def wn:(He b m c cs x).status=.running:=K1
def wi(st:Value):Qc prog 175 m (He b m c cs x) st (Qq 0)=.blocked { He b m c cs x with status:=.blocked } st (Qq 0) [(b,true)]:=K1
def wj:(Qc prog 175 m (He b m c cs x) (Q2 0 0) (Qq 1)).info=some (Q2 0 0,Qq 0,#[Z8 .disable,Ji b 1,QA b 1,Z8 .enable],[(b,true),(b,true)]):=K1
def Uu:Gr:=(Qc prog 175 m (He b m c cs x) (Q2 0 0) (Qq 1)).get (He b m c cs x)
def wq:Qn prog 175 m 16 (Uu b m c cs x)=some []:=K1
def YB:Gr:=Qi prog 175 m 16 (Uu b m c cs x)
def wu:(Qc prog 175 m (YB b m c cs x) (Q2 0 0) (Qq 0)).info=some (Q2 0 0,Qq 0,#[Ji b 0],[(b,true)]):=K1
def Uv:Gr:=(Qc prog 175 m (YB b m c cs x) (Q2 0 0) (Qq 0)).get (YB b m c cs x)
def wv:Qn prog 175 m 11 (Uv b m c cs x)=some []:=K1
def YC:Gr:=Qi prog 175 m 11 (Uv b m c cs x)
def ww:(Qc prog 175 m (YC b m c cs x) undef undef).info=some (undef,undef,#[Z8 .enable],[]):=K1
def Uw:Gr:=(Qc prog 175 m (YC b m c cs x) undef undef).get (YC b m c cs x)
def wx:Qn prog 175 m 4 (Uw b m c cs x)=some [(b,false),(b,false)]:=K1
def YD:Gr:=Qi prog 175 m 4 (Uw b m c cs x)
def wy:(Qc prog 175 m (YD b m c cs x) undef undef).info=some (undef,undef,#[Z8 (.acquire ⟨b,0,none⟩)],[]):=K1
def Uy:Gr:=(Qc prog 175 m (YD b m c cs x) undef undef).get (YD b m c cs x)
def wz:Qn prog 175 m 10 (Uy b m c cs x)=some []:=K1
def wA:Qi prog 175 m 10 (Uy b m c cs x)=Rf (c.finish (.tuple #[])) cs:=K1
end
end Go.Proofs
end

