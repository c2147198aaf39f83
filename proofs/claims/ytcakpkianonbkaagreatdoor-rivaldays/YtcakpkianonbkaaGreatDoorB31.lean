/- Lemmas. No conditions. -/
import Derived.Test.YtcakpkianonbkaaGreatDoorB16
set_option linter.all false
open Go.Proofs.Tryz (prog)
set_option maxRecDepth 100000
noncomputable section
namespace Go.Proofs
open Go.TM
open Go.Conc (QuitsD)
section
variable(b:Nat)(m:Bool)(c:Frame)(cs:List Frame)(x:Nat->Value)
def tD:(Qc prog 175 m (Zm b m c cs x) (Q2 5 0) (Qq 0)).info=some (Q2 5 0,Qq 0,#[Ji b 0],[(b,true)]):=K1
def UN:Gr:=(Qc prog 175 m (Zm b m c cs x) (Q2 5 0) (Qq 0)).get (Zm b m c cs x)
def xE:Qn prog 175 m 48 (UN b m c cs x)=some []:=K1
def Ja:Gr:=Qi prog 175 m 48 (UN b m c cs x)
def L9:(Qc prog 175 m (Ja b m c cs x) (Q2 0 0) (Qq 0)).info=some (Q2 0 0,Qq 0,#[Ji b 0],[(b,true),(b,false),(b,false)]):=K1
def W2:Gr:=(Qc prog 175 m (Ja b m c cs x) (Q2 0 0) (Qq 0)).get (Ja b m c cs x)
def xF:(Qc prog 175 m (Ja b m c cs x) (Q2 1 0) (Qq 0)).info=some (Q2 1 0,Qq 0,#[Ji b 0],[(b,true),(b,false),(b,false)]):=K1
def AR:(Qc prog 175 m (Ja b m c cs x) (Q2 1 0) (Qq 0)).get (Ja b m c cs x)=W2 b m c cs x:=K1
def xG:(Qc prog 175 m (Ja b m c cs x) (Q2 2 0) (Qq 0)).info=some (Q2 2 0,Qq 0,#[Ji b 0],[(b,true),(b,false),(b,false)]):=K1
def AS:(Qc prog 175 m (Ja b m c cs x) (Q2 2 0) (Qq 0)).get (Ja b m c cs x)=W2 b m c cs x:=K1
def xH:(Qc prog 175 m (Ja b m c cs x) (Q2 3 0) (Qq 0)).info=some (Q2 3 0,Qq 0,#[Ji b 0],[(b,true),(b,false),(b,false)]):=K1
def AT:(Qc prog 175 m (Ja b m c cs x) (Q2 3 0) (Qq 0)).get (Ja b m c cs x)=W2 b m c cs x:=K1
def xI:(Qc prog 175 m (Ja b m c cs x) (Q2 4 0) (Qq 0)).info=some (Q2 4 0,Qq 0,#[Ji b 0],[(b,true),(b,false),(b,false)]):=K1
def AU:(Qc prog 175 m (Ja b m c cs x) (Q2 4 0) (Qq 0)).get (Ja b m c cs x)=W2 b m c cs x:=K1
def PK:Qn prog 175 m 25 (W2 b m c cs x)=some []:=K1
def PL:Qi prog 175 m 25 (W2 b m c cs x)=Zm b m c cs (λ i=>(Gf (Qi prog 175 m 25 (W2 b m c cs x))).getD i undef):=K1
def wK:(Qc prog 175 m (Ja b m c cs x) (Q2 5 0) (Qq 0)).info=some (Q2 5 1,Qq 0,#[Ji b 0,QA b 0],[(b,true),(b,true),(b,false),(b,false)]):=K1
def UO:Gr:=(Qc prog 175 m (Ja b m c cs x) (Q2 5 0) (Qq 0)).get (Ja b m c cs x)
def wL:Qn prog 175 m 20 (UO b m c cs x)=some [(b,false),(b,false)]:=K1
def Yg:Gr:=Qi prog 175 m 20 (UO b m c cs x)
def wM:(Qc prog 175 m (Yg b m c cs x) undef undef).info=some (undef,undef,#[Z8 (bif true then .write ⟨b,1,none⟩else .read ⟨b,1,none⟩)],[]):=K1
def UP:Gr:=(Qc prog 175 m (Yg b m c cs x) undef undef).get (Yg b m c cs x)
def wN:Qn prog 175 m 23 (UP b m c cs x)=some []:=K1
def Hh:Gr:=Qi prog 175 m 23 (UP b m c cs x)
def wQ:(Hh b m c cs x).offers=none:=K1
def wR:(Hh b m c cs x).status=.running:=K1
def wO(st:Value):Qc prog 175 m (Hh b m c cs x) st (Qq 0)=.blocked { Hh b m c cs x with status:=.blocked } st (Qq 0) [(b,true)]:=K1
def wP:(Qc prog 175 m (Hh b m c cs x) (Q2 0 0) (Qq 1)).info=some (Q2 0 0,Qq 0,#[Z8 .disable,Ji b 1,QA b 1,Z8 .enable],[(b,true),(b,true)]):=K1
def Ui:Gr:=(Qc prog 175 m (Hh b m c cs x) (Q2 0 0) (Qq 1)).get (Hh b m c cs x)
def wS:Qn prog 175 m 16 (Ui b m c cs x)=some []:=K1
def Yh:Gr:=Qi prog 175 m 16 (Ui b m c cs x)
def wT:(Qc prog 175 m (Yh b m c cs x) (Q2 0 0) (Qq 0)).info=some (Q2 0 0,Qq 0,#[Ji b 0],[(b,true)]):=K1
def Uj:Gr:=(Qc prog 175 m (Yh b m c cs x) (Q2 0 0) (Qq 0)).get (Yh b m c cs x)
def xT:Qn prog 175 m 11 (Uj b m c cs x)=some []:=K1
def Yi:Gr:=Qi prog 175 m 11 (Uj b m c cs x)
def xU:(Qc prog 175 m (Yi b m c cs x) undef undef).info=some (undef,undef,#[Z8 .enable],[]):=K1
def Uk:Gr:=(Qc prog 175 m (Yi b m c cs x) undef undef).get (Yi b m c cs x)
def xV:Qn prog 175 m 4 (Uk b m c cs x)=some [(b,false),(b,false)]:=K1
def Yj:Gr:=Qi prog 175 m 4 (Uk b m c cs x)
def xW:(Qc prog 175 m (Yj b m c cs x) undef undef).info=some (undef,undef,#[Z8 (.acquire ⟨b,0,none⟩)],[]):=K1
def Ul:Gr:=(Qc prog 175 m (Yj b m c cs x) undef undef).get (Yj b m c cs x)
def xX:Qn prog 175 m 10 (Ul b m c cs x)=some []:=K1
def xY:Qi prog 175 m 10 (Ul b m c cs x)=Rf (c.finish (.tuple #[])) cs:=K1
end
end Go.Proofs
end

