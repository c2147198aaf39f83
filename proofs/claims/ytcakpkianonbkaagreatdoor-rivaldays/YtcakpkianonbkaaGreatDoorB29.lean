/- Lemmas. No conditions. -/
import Derived.Test.YtcakpkianonbkaaGreatDoorB16
set_option linter.all false
open Go.Proofs.Tryz (prog)
set_option maxRecDepth 100000
noncomputable section
namespace Go.Proofs
open Go.TM
open Go.Conc (QuitsD)
section
variable(b:Nat)(m:Bool)(c:Frame)(cs:List Frame)(x:Nat->Value)
def tB:(Qc prog 175 m (Zm b m c cs x) (Q2 3 0) (Qq 0)).info=some (Q2 3 0,Qq 0,#[Ji b 0],[(b,true)]):=K1
def Uz:Gr:=(Qc prog 175 m (Zm b m c cs x) (Q2 3 0) (Qq 0)).get (Zm b m c cs x)
def wB:Qn prog 175 m 48 (Uz b m c cs x)=some []:=K1
def We:Gr:=Qi prog 175 m 48 (Uz b m c cs x)
def L7:(Qc prog 175 m (We b m c cs x) (Q2 0 0) (Qq 0)).info=some (Q2 0 0,Qq 0,#[Ji b 0],[(b,true),(b,false),(b,false)]):=K1
def HE:Gr:=(Qc prog 175 m (We b m c cs x) (Q2 0 0) (Qq 0)).get (We b m c cs x)
def wC:(Qc prog 175 m (We b m c cs x) (Q2 1 0) (Qq 0)).info=some (Q2 1 0,Qq 0,#[Ji b 0],[(b,true),(b,false),(b,false)]):=K1
def AM:(Qc prog 175 m (We b m c cs x) (Q2 1 0) (Qq 0)).get (We b m c cs x)=HE b m c cs x:=K1
def wD:(Qc prog 175 m (We b m c cs x) (Q2 2 0) (Qq 0)).info=some (Q2 2 0,Qq 0,#[Ji b 0],[(b,true),(b,false),(b,false)]):=K1
def AN:(Qc prog 175 m (We b m c cs x) (Q2 2 0) (Qq 0)).get (We b m c cs x)=HE b m c cs x:=K1
def Tz:Qn prog 175 m 25 (HE b m c cs x)=some []:=K1
def TA:Qi prog 175 m 25 (HE b m c cs x)=Zm b m c cs (λ i=>(Gf (Qi prog 175 m 25 (HE b m c cs x))).getD i undef):=K1
def wE:(Qc prog 175 m (We b m c cs x) (Q2 3 0) (Qq 0)).info=some (Q2 3 1,Qq 0,#[Ji b 0,QA b 0],[(b,true),(b,true),(b,false),(b,false)]):=K1
def UA:Gr:=(Qc prog 175 m (We b m c cs x) (Q2 3 0) (Qq 0)).get (We b m c cs x)
def wF:Qn prog 175 m 20 (UA b m c cs x)=some [(b,false),(b,false)]:=K1
def YE:Gr:=Qi prog 175 m 20 (UA b m c cs x)
def wG:(Qc prog 175 m (YE b m c cs x) undef undef).info=some (undef,undef,#[Z8 (bif true then .write ⟨b,1,none⟩else .read ⟨b,1,none⟩)],[]):=K1
def UB:Gr:=(Qc prog 175 m (YE b m c cs x) undef undef).get (YE b m c cs x)
def wH:Qn prog 175 m 23 (UB b m c cs x)=some []:=K1
def Hf:Gr:=Qi prog 175 m 23 (UB b m c cs x)
def jP:(Hf b m c cs x).offers=none:=K1
def jQ:(Hf b m c cs x).status=.running:=K1
def wJ(st:Value):Qc prog 175 m (Hf b m c cs x) st (Qq 0)=.blocked { Hf b m c cs x with status:=.blocked } st (Qq 0) [(b,true)]:=K1
def jO:(Qc prog 175 m (Hf b m c cs x) (Q2 0 0) (Qq 1)).info=some (Q2 0 0,Qq 0,#[Z8 .disable,Ji b 1,QA b 1,Z8 .enable],[(b,true),(b,true)]):=K1
def UC:Gr:=(Qc prog 175 m (Hf b m c cs x) (Q2 0 0) (Qq 1)).get (Hf b m c cs x)
def jR:Qn prog 175 m 16 (UC b m c cs x)=some []:=K1
def YF:Gr:=Qi prog 175 m 16 (UC b m c cs x)
def jS:(Qc prog 175 m (YF b m c cs x) (Q2 0 0) (Qq 0)).info=some (Q2 0 0,Qq 0,#[Ji b 0],[(b,true)]):=K1
def UD:Gr:=(Qc prog 175 m (YF b m c cs x) (Q2 0 0) (Qq 0)).get (YF b m c cs x)
def jT:Qn prog 175 m 11 (UD b m c cs x)=some []:=K1
def YG:Gr:=Qi prog 175 m 11 (UD b m c cs x)
def jU:(Qc prog 175 m (YG b m c cs x) undef undef).info=some (undef,undef,#[Z8 .enable],[]):=K1
def UE:Gr:=(Qc prog 175 m (YG b m c cs x) undef undef).get (YG b m c cs x)
def jV:Qn prog 175 m 4 (UE b m c cs x)=some [(b,false),(b,false)]:=K1
def YH:Gr:=Qi prog 175 m 4 (UE b m c cs x)
def jW:(Qc prog 175 m (YH b m c cs x) undef undef).info=some (undef,undef,#[Z8 (.acquire ⟨b,0,none⟩)],[]):=K1
def UF:Gr:=(Qc prog 175 m (YH b m c cs x) undef undef).get (YH b m c cs x)
def jX:Qn prog 175 m 10 (UF b m c cs x)=some []:=K1
def wU:Qi prog 175 m 10 (UF b m c cs x)=Rf (c.finish (.tuple #[])) cs:=K1
end
end Go.Proofs
end

