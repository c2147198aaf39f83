/- Lemmas. No conditions. -/
import Derived.Test.YtcakpkianonbkaaGreatDoorB16
set_option linter.all false
open Go.Proofs.Tryz (prog)
set_option maxRecDepth 100000
noncomputable section
namespace Go.Proofs
open Go.TM
open Go.Conc (QuitsD)
section
variable(b:Nat)(m:Bool)(c:Frame)(cs:List Frame)(x:Nat->Value)
def tC:(Qc prog 175 m (Zm b m c cs x) (Q2 4 0) (Qq 0)).info=some (Q2 4 0,Qq 0,#[Ji b 0],[(b,true)]):=K1
def UG:Gr:=(Qc prog 175 m (Zm b m c cs x) (Q2 4 0) (Qq 0)).get (Zm b m c cs x)
def wV:Qn prog 175 m 48 (UG b m c cs x)=some []:=K1
def Jo:Gr:=Qi prog 175 m 48 (UG b m c cs x)
def L8:(Qc prog 175 m (Jo b m c cs x) (Q2 0 0) (Qq 0)).info=some (Q2 0 0,Qq 0,#[Ji b 0],[(b,true),(b,false),(b,false)]):=K1
def XJ:Gr:=(Qc prog 175 m (Jo b m c cs x) (Q2 0 0) (Qq 0)).get (Jo b m c cs x)
def wW:(Qc prog 175 m (Jo b m c cs x) (Q2 1 0) (Qq 0)).info=some (Q2 1 0,Qq 0,#[Ji b 0],[(b,true),(b,false),(b,false)]):=K1
def AO:(Qc prog 175 m (Jo b m c cs x) (Q2 1 0) (Qq 0)).get (Jo b m c cs x)=XJ b m c cs x:=K1
def wX:(Qc prog 175 m (Jo b m c cs x) (Q2 2 0) (Qq 0)).info=some (Q2 2 0,Qq 0,#[Ji b 0],[(b,true),(b,false),(b,false)]):=K1
def AP:(Qc prog 175 m (Jo b m c cs x) (Q2 2 0) (Qq 0)).get (Jo b m c cs x)=XJ b m c cs x:=K1
def wY:(Qc prog 175 m (Jo b m c cs x) (Q2 3 0) (Qq 0)).info=some (Q2 3 0,Qq 0,#[Ji b 0],[(b,true),(b,false),(b,false)]):=K1
def AQ:(Qc prog 175 m (Jo b m c cs x) (Q2 3 0) (Qq 0)).get (Jo b m c cs x)=XJ b m c cs x:=K1
def Kx:Qn prog 175 m 25 (XJ b m c cs x)=some []:=K1
def Ky:Qi prog 175 m 25 (XJ b m c cs x)=Zm b m c cs (λ i=>(Gf (Qi prog 175 m 25 (XJ b m c cs x))).getD i undef):=K1
def wZ:(Qc prog 175 m (Jo b m c cs x) (Q2 4 0) (Qq 0)).info=some (Q2 4 1,Qq 0,#[Ji b 0,QA b 0],[(b,true),(b,true),(b,false),(b,false)]):=K1
def UH:Gr:=(Qc prog 175 m (Jo b m c cs x) (Q2 4 0) (Qq 0)).get (Jo b m c cs x)
def w_:Qn prog 175 m 20 (UH b m c cs x)=some [(b,false),(b,false)]:=K1
def YI:Gr:=Qi prog 175 m 20 (UH b m c cs x)
def xf:(Qc prog 175 m (YI b m c cs x) undef undef).info=some (undef,undef,#[Z8 (bif true then .write ⟨b,1,none⟩else .read ⟨b,1,none⟩)],[]):=K1
def UI:Gr:=(Qc prog 175 m (YI b m c cs x) undef undef).get (YI b m c cs x)
def xg:Qn prog 175 m 23 (UI b m c cs x)=some []:=K1
def Hg:Gr:=Qi prog 175 m 23 (UI b m c cs x)
def xm:(Hg b m c cs x).offers=none:=K1
def xr:(Hg b m c cs x).status=.running:=K1
def xh(st:Value):Qc prog 175 m (Hg b m c cs x) st (Qq 0)=.blocked { Hg b m c cs x with status:=.blocked } st (Qq 0) [(b,true)]:=K1
def xj:(Qc prog 175 m (Hg b m c cs x) (Q2 0 0) (Qq 1)).info=some (Q2 0 0,Qq 0,#[Z8 .disable,Ji b 1,QA b 1,Z8 .enable],[(b,true),(b,true)]):=K1
def UJ:Gr:=(Qc prog 175 m (Hg b m c cs x) (Q2 0 0) (Qq 1)).get (Hg b m c cs x)
def xu:Qn prog 175 m 16 (UJ b m c cs x)=some []:=K1
def YJ:Gr:=Qi prog 175 m 16 (UJ b m c cs x)
def xw:(Qc prog 175 m (YJ b m c cs x) (Q2 0 0) (Qq 0)).info=some (Q2 0 0,Qq 0,#[Ji b 0],[(b,true)]):=K1
def UK:Gr:=(Qc prog 175 m (YJ b m c cs x) (Q2 0 0) (Qq 0)).get (YJ b m c cs x)
def xx:Qn prog 175 m 11 (UK b m c cs x)=some []:=K1
def YK:Gr:=Qi prog 175 m 11 (UK b m c cs x)
def xy:(Qc prog 175 m (YK b m c cs x) undef undef).info=some (undef,undef,#[Z8 .enable],[]):=K1
def UL:Gr:=(Qc prog 175 m (YK b m c cs x) undef undef).get (YK b m c cs x)
def xA:Qn prog 175 m 4 (UL b m c cs x)=some [(b,false),(b,false)]:=K1
def YL:Gr:=Qi prog 175 m 4 (UL b m c cs x)
def xB:(Qc prog 175 m (YL b m c cs x) undef undef).info=some (undef,undef,#[Z8 (.acquire ⟨b,0,none⟩)],[]):=K1
def UM:Gr:=(Qc prog 175 m (YL b m c cs x) undef undef).get (YL b m c cs x)
def xC:Qn prog 175 m 10 (UM b m c cs x)=some []:=K1
def xD:Qi prog 175 m 10 (UM b m c cs x)=Rf (c.finish (.tuple #[])) cs:=K1
end
end Go.Proofs
end

