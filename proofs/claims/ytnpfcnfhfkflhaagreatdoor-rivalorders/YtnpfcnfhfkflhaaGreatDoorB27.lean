/- Lemmas. No conditions. -/
import Derived.Test.YtnpfcnfhfkflhaaGreatDoorB15
set_option linter.all false
open Go.Proofs.Tryz (prog)
set_option maxRecDepth 100000
noncomputable section
namespace Go.Proofs
open Go.TM
open Go.Conc (QuitsD)
section
variable(b:Nat)(m:Bool)(c:Frame)(cs:List Frame)(x:Nat->Value)
def qb:(Qc prog 209 m (Zh b m c cs x) (Q1 2 0) (Qq 0)).info=some (Q1 2 0,Qq 0,#[Jg b 0],[(b,true)]):=K1
def Ou:Gr:=(Qc prog 209 m (Zh b m c cs x) (Q1 2 0) (Qq 0)).get (Zh b m c cs x)
def Bm:Qm prog 209 m 48 (Ou b m c cs x)=some []:=K1
def W3:Gr:=Qi prog 209 m 48 (Ou b m c cs x)
def IN:(Qc prog 209 m (W3 b m c cs x) (Q1 0 0) (Qq 0)).info=some (Q1 0 0,Qq 0,#[Jg b 0],[(b,true),(b,false),(b,false)]):=K1
def G0:Gr:=(Qc prog 209 m (W3 b m c cs x) (Q1 0 0) (Qq 0)).get (W3 b m c cs x)
def NU:(Qc prog 209 m (W3 b m c cs x) (Q1 1 0) (Qq 0)).info=some (Q1 1 0,Qq 0,#[Jg b 0],[(b,true),(b,false),(b,false)]):=K1
def pn:(Qc prog 209 m (W3 b m c cs x) (Q1 1 0) (Qq 0)).get (W3 b m c cs x)=G0 b m c cs x:=K1
def Mb:Qm prog 209 m 25 (G0 b m c cs x)=some []:=K1
def Ma:Qi prog 209 m 25 (G0 b m c cs x)=Zh b m c cs (λ i=>(HF (Qi prog 209 m 25 (G0 b m c cs x))).getD i undef):=K1
def pA:(Qc prog 209 m (W3 b m c cs x) (Q1 2 0) (Qq 0)).info=some (Q1 2 1,Qq 0,#[Jg b 0,QB b 0],[(b,true),(b,true),(b,false),(b,false)]):=K1
def O5:Gr:=(Qc prog 209 m (W3 b m c cs x) (Q1 2 0) (Qq 0)).get (W3 b m c cs x)
def zd:Qm prog 209 m 20 (O5 b m c cs x)=some [(b,false),(b,false)]:=K1
def Vc:Gr:=Qi prog 209 m 20 (O5 b m c cs x)
def zl:(Qc prog 209 m (Vc b m c cs x) undef undef).info=some (undef,undef,#[Z2 (bif true then .write ⟨b,1,none⟩else .read ⟨b,1,none⟩)],[]):=K1
def YI:Gr:=(Qc prog 209 m (Vc b m c cs x) undef undef).get (Vc b m c cs x)
def A8:Qm prog 209 m 23 (YI b m c cs x)=some []:=K1
def H1:Gr:=Qi prog 209 m 23 (YI b m c cs x)
def oZ:(H1 b m c cs x).offers=none:=K1
def xX:(H1 b m c cs x).status=.running:=K1
def Aw(st:Value):Qc prog 209 m (H1 b m c cs x) st (Qq 0)=.blocked { H1 b m c cs x with status:=.blocked } st (Qq 0) [(b,true)]:=K1
def vE:(Qc prog 209 m (H1 b m c cs x) (Q1 0 0) (Qq 1)).info=some (Q1 0 0,Qq 0,#[Z2 .disable,Jg b 1,QB b 1,Z2 .enable],[(b,true),(b,true)]):=K1
def YD:Gr:=(Qc prog 209 m (H1 b m c cs x) (Q1 0 0) (Qq 1)).get (H1 b m c cs x)
def AF:Qm prog 209 m 16 (YD b m c cs x)=some []:=K1
def Ke:Gr:=Qi prog 209 m 16 (YD b m c cs x)
def pW:(Qc prog 209 m (Ke b m c cs x) (Q1 0 0) (Qq 0)).info=some (Q1 0 0,Qq 0,#[Jg b 0],[(b,true)]):=K1
def Oa:Gr:=(Qc prog 209 m (Ke b m c cs x) (Q1 0 0) (Qq 0)).get (Ke b m c cs x)
def xQ:Qm prog 209 m 11 (Oa b m c cs x)=some []:=K1
def KJ:Gr:=Qi prog 209 m 11 (Oa b m c cs x)
def ze:(Qc prog 209 m (KJ b m c cs x) undef undef).info=some (undef,undef,#[Z2 .enable],[]):=K1
def Th:Gr:=(Qc prog 209 m (KJ b m c cs x) undef undef).get (KJ b m c cs x)
def oG:Qm prog 209 m 4 (Th b m c cs x)=some [(b,false),(b,false)]:=K1
def VW:Gr:=Qi prog 209 m 4 (Th b m c cs x)
def CA:(Qc prog 209 m (VW b m c cs x) undef undef).info=some (undef,undef,#[Z2 (.acquire ⟨b,0,none⟩)],[]):=K1
def S7:Gr:=(Qc prog 209 m (VW b m c cs x) undef undef).get (VW b m c cs x)
def Ca:Qm prog 209 m 10 (S7 b m c cs x)=some []:=K1
def zR:Qi prog 209 m 10 (S7 b m c cs x)=Rf (c.finish (.tuple #[])) cs:=K1
end
end Go.Proofs
end

