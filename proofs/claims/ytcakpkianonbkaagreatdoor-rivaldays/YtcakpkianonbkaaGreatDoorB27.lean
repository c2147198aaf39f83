/- Lemmas. No conditions. -/
import Derived.Test.YtcakpkianonbkaaGreatDoorB16
set_option linter.all false
open Go.Proofs.Tryz (prog)
set_option maxRecDepth 100000
noncomputable section
namespace Go.Proofs
open Go.TM
open Go.Conc (QuitsD)
section
variable(b:Nat)(m:Bool)(c:Frame)(cs:List Frame)(x:Nat->Value)
def tz:(Qc prog 175 m (Zm b m c cs x) (Q2 1 0) (Qq 0)).info=some (Q2 1 0,Qq 0,#[Ji b 0],[(b,true)]):=K1
def Uh:Gr:=(Qc prog 175 m (Zm b m c cs x) (Q2 1 0) (Qq 0)).get (Zm b m c cs x)
def jF:Qn prog 175 m 48 (Uh b m c cs x)=some []:=K1
def HD:Gr:=Qi prog 175 m 48 (Uh b m c cs x)
def L0:(Qc prog 175 m (HD b m c cs x) (Q2 0 0) (Qq 0)).info=some (Q2 0 0,Qq 0,#[Ji b 0],[(b,true),(b,false),(b,false)]):=K1
def Yw:Gr:=(Qc prog 175 m (HD b m c cs x) (Q2 0 0) (Qq 0)).get (HD b m c cs x)
def jK:Qn prog 175 m 25 (Yw b m c cs x)=some []:=K1
def jL:Qi prog 175 m 25 (Yw b m c cs x)=Zm b m c cs (λ i=>(Gf (Qi prog 175 m 25 (Yw b m c cs x))).getD i undef):=K1
def jG:(Qc prog 175 m (HD b m c cs x) (Q2 1 0) (Qq 0)).info=some (Q2 1 1,Qq 0,#[Ji b 0,QA b 0],[(b,true),(b,true),(b,false),(b,false)]):=K1
def SI:Gr:=(Qc prog 175 m (HD b m c cs x) (Q2 1 0) (Qq 0)).get (HD b m c cs x)
def jH:Qn prog 175 m 20 (SI b m c cs x)=some [(b,false),(b,false)]:=K1
def Yv:Gr:=Qi prog 175 m 20 (SI b m c cs x)
def jI:(Qc prog 175 m (Yv b m c cs x) undef undef).info=some (undef,undef,#[Z8 (bif true then .write ⟨b,1,none⟩else .read ⟨b,1,none⟩)],[]):=K1
def SJ:Gr:=(Qc prog 175 m (Yv b m c cs x) undef undef).get (Yv b m c cs x)
def jJ:Qn prog 175 m 23 (SJ b m c cs x)=some []:=K1
def Hc:Gr:=Qi prog 175 m 23 (SJ b m c cs x)
def jd:(Hc b m c cs x).offers=none:=K1
def je:(Hc b m c cs x).status=.running:=K1
def jM(st:Value):Qc prog 175 m (Hc b m c cs x) st (Qq 0)=.blocked { Hc b m c cs x with status:=.blocked } st (Qq 0) [(b,true)]:=K1
def jN:(Qc prog 175 m (Hc b m c cs x) (Q2 0 0) (Qq 1)).info=some (Q2 0 0,Qq 0,#[Z8 .disable,Ji b 1,QA b 1,Z8 .enable],[(b,true),(b,true)]):=K1
def SK:Gr:=(Qc prog 175 m (Hc b m c cs x) (Q2 0 0) (Qq 1)).get (Hc b m c cs x)
def jf:Qn prog 175 m 16 (SK b m c cs x)=some []:=K1
def Yx:Gr:=Qi prog 175 m 16 (SK b m c cs x)
def jg:(Qc prog 175 m (Yx b m c cs x) (Q2 0 0) (Qq 0)).info=some (Q2 0 0,Qq 0,#[Ji b 0],[(b,true)]):=K1
def SL:Gr:=(Qc prog 175 m (Yx b m c cs x) (Q2 0 0) (Qq 0)).get (Yx b m c cs x)
def jh:Qn prog 175 m 11 (SL b m c cs x)=some []:=K1
def Yy:Gr:=Qi prog 175 m 11 (SL b m c cs x)
def ji:(Qc prog 175 m (Yy b m c cs x) undef undef).info=some (undef,undef,#[Z8 .enable],[]):=K1
def SM:Gr:=(Qc prog 175 m (Yy b m c cs x) undef undef).get (Yy b m c cs x)
def jk:Qn prog 175 m 4 (SM b m c cs x)=some [(b,false),(b,false)]:=K1
def Yz:Gr:=Qi prog 175 m 4 (SM b m c cs x)
def jl:(Qc prog 175 m (Yz b m c cs x) undef undef).info=some (undef,undef,#[Z8 (.acquire ⟨b,0,none⟩)],[]):=K1
def SN:Gr:=(Qc prog 175 m (Yz b m c cs x) undef undef).get (Yz b m c cs x)
def jm:Qn prog 175 m 10 (SN b m c cs x)=some []:=K1
def jn:Qi prog 175 m 10 (SN b m c cs x)=Rf (c.finish (.tuple #[])) cs:=K1
end
end Go.Proofs
end

