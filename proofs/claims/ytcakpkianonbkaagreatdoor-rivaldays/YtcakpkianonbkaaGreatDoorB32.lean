/- Lemmas. No conditions. -/
import Derived.Test.YtcakpkianonbkaaGreatDoorB16
set_option linter.all false
open Go.Proofs.Tryz (prog)
set_option maxRecDepth 100000
noncomputable section
namespace Go.Proofs
open Go.TM
open Go.Conc (QuitsD)
section
variable(b:Nat)(m:Bool)(c:Frame)(cs:List Frame)(x:Nat->Value)
def sr:(Qc prog 175 m (Zm b m c cs x) (Q2 6 0) (Qq 0)).info=some (Q2 6 0,Qq 0,#[Ji b 0],[(b,true)]):=K1
def Um:Gr:=(Qc prog 175 m (Zm b m c cs x) (Q2 6 0) (Qq 0)).get (Zm b m c cs x)
def xZ:Qn prog 175 m 48 (Um b m c cs x)=some []:=K1
def Zz:Gr:=Qi prog 175 m 48 (Um b m c cs x)
def L4:(Qc prog 175 m (Zz b m c cs x) (Q2 0 0) (Qq 0)).info=some (Q2 0 0,Qq 0,#[Ji b 0],[(b,true),(b,false),(b,false)]):=K1
def Wf:Gr:=(Qc prog 175 m (Zz b m c cs x) (Q2 0 0) (Qq 0)).get (Zz b m c cs x)
def x_:(Qc prog 175 m (Zz b m c cs x) (Q2 1 0) (Qq 0)).info=some (Q2 1 0,Qq 0,#[Ji b 0],[(b,true),(b,false),(b,false)]):=K1
def Ao:(Qc prog 175 m (Zz b m c cs x) (Q2 1 0) (Qq 0)).get (Zz b m c cs x)=Wf b m c cs x:=K1
def h_:(Qc prog 175 m (Zz b m c cs x) (Q2 2 0) (Qq 0)).info=some (Q2 2 0,Qq 0,#[Ji b 0],[(b,true),(b,false),(b,false)]):=K1
def Aq:(Qc prog 175 m (Zz b m c cs x) (Q2 2 0) (Qq 0)).get (Zz b m c cs x)=Wf b m c cs x:=K1
def gb:(Qc prog 175 m (Zz b m c cs x) (Q2 3 0) (Qq 0)).info=some (Q2 3 0,Qq 0,#[Ji b 0],[(b,true),(b,false),(b,false)]):=K1
def Ar:(Qc prog 175 m (Zz b m c cs x) (Q2 3 0) (Qq 0)).get (Zz b m c cs x)=Wf b m c cs x:=K1
def gd:(Qc prog 175 m (Zz b m c cs x) (Q2 4 0) (Qq 0)).info=some (Q2 4 0,Qq 0,#[Ji b 0],[(b,true),(b,false),(b,false)]):=K1
def As:(Qc prog 175 m (Zz b m c cs x) (Q2 4 0) (Qq 0)).get (Zz b m c cs x)=Wf b m c cs x:=K1
def ge:(Qc prog 175 m (Zz b m c cs x) (Q2 5 0) (Qq 0)).info=some (Q2 5 0,Qq 0,#[Ji b 0],[(b,true),(b,false),(b,false)]):=K1
def At:(Qc prog 175 m (Zz b m c cs x) (Q2 5 0) (Qq 0)).get (Zz b m c cs x)=Wf b m c cs x:=K1
def Gx:Qn prog 175 m 25 (Wf b m c cs x)=some []:=K1
def Gy:Qi prog 175 m 25 (Wf b m c cs x)=Zm b m c cs (λ i=>(Gf (Qi prog 175 m 25 (Wf b m c cs x))).getD i undef):=K1
def gf:(Qc prog 175 m (Zz b m c cs x) (Q2 6 0) (Qq 0)).info=some (Q2 6 1,Qq 0,#[Ji b 0,QA b 0],[(b,true),(b,true),(b,false),(b,false)]):=K1
def Un:Gr:=(Qc prog 175 m (Zz b m c cs x) (Q2 6 0) (Qq 0)).get (Zz b m c cs x)
def gg:Qn prog 175 m 20 (Un b m c cs x)=some [(b,false),(b,false)]:=K1
def Yk:Gr:=Qi prog 175 m 20 (Un b m c cs x)
def gh:(Qc prog 175 m (Yk b m c cs x) undef undef).info=some (undef,undef,#[Z8 (bif true then .write ⟨b,1,none⟩else .read ⟨b,1,none⟩)],[]):=K1
def Uo:Gr:=(Qc prog 175 m (Yk b m c cs x) undef undef).get (Yk b m c cs x)
def gj:Qn prog 175 m 23 (Uo b m c cs x)=some []:=K1
def Hi:Gr:=Qi prog 175 m 23 (Uo b m c cs x)
def gp:(Hi b m c cs x).offers=none:=K1
def gq:(Hi b m c cs x).status=.running:=K1
def gm(st:Value):Qc prog 175 m (Hi b m c cs x) st (Qq 0)=.blocked { Hi b m c cs x with status:=.blocked } st (Qq 0) [(b,true)]:=K1
def gn:(Qc prog 175 m (Hi b m c cs x) (Q2 0 0) (Qq 1)).info=some (Q2 0 0,Qq 0,#[Z8 .disable,Ji b 1,QA b 1,Z8 .enable],[(b,true),(b,true)]):=K1
def Ur:Gr:=(Qc prog 175 m (Hi b m c cs x) (Q2 0 0) (Qq 1)).get (Hi b m c cs x)
def gr:Qn prog 175 m 16 (Ur b m c cs x)=some []:=K1
def Yl:Gr:=Qi prog 175 m 16 (Ur b m c cs x)
def gt:(Qc prog 175 m (Yl b m c cs x) (Q2 0 0) (Qq 0)).info=some (Q2 0 0,Qq 0,#[Ji b 0],[(b,true)]):=K1
def Ut:Gr:=(Qc prog 175 m (Yl b m c cs x) (Q2 0 0) (Qq 0)).get (Yl b m c cs x)
def gu:Qn prog 175 m 11 (Ut b m c cs x)=some []:=K1
def Ym:Gr:=Qi prog 175 m 11 (Ut b m c cs x)
def gv:(Qc prog 175 m (Ym b m c cs x) undef undef).info=some (undef,undef,#[Z8 .enable],[]):=K1
def UW:Gr:=(Qc prog 175 m (Ym b m c cs x) undef undef).get (Ym b m c cs x)
def gw:Qn prog 175 m 4 (UW b m c cs x)=some [(b,false),(b,false)]:=K1
def Yn:Gr:=Qi prog 175 m 4 (UW b m c cs x)
def gz:(Qc prog 175 m (Yn b m c cs x) undef undef).info=some (undef,undef,#[Z8 (.acquire ⟨b,0,none⟩)],[]):=K1
def UX:Gr:=(Qc prog 175 m (Yn b m c cs x) undef undef).get (Yn b m c cs x)
def xJ:Qn prog 175 m 10 (UX b m c cs x)=some []:=K1
def xK:Qi prog 175 m 10 (UX b m c cs x)=Rf (c.finish (.tuple #[])) cs:=K1
end
end Go.Proofs
end

