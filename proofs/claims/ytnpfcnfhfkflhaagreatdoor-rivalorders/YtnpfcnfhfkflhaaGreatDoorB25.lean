/- Lemmas. No conditions. -/
import Derived.Test.YtnpfcnfhfkflhaaGreatDoorProg
import Derived.Test.YtnpfcnfhfkflhaaGreatDoorB13
set_option linter.all false
open Go.Proofs.Tryz (prog)
set_option maxRecDepth 100000
noncomputable section
namespace Go.Proofs
open Go.TM
open Go.Conc (QuitsD)
section
variable(b:Nat)(m:Bool)(c:Frame)(cs:List Frame)
noncomputable def Oc(b:Nat)(_:Bool)(c:Frame)(cs:List Frame):Gr:=Rf (Frame.enter prog 149 #[.pointer (some ⟨b,0,none⟩),.int .i64 1] .normal) (c::cs)
def gm:Qm prog 209 m 12 (Oc b m c cs)=some []:=K1
def Ve:Gr:=Qi prog 209 m 12 (Oc b m c cs)
def Ar:(Qc prog 209 m (Ve b m c cs) undef undef).info=some (undef,undef,#[Z2 .disable],[]):=K1
def Tv:Gr:=(Qc prog 209 m (Ve b m c cs) undef undef).get (Ve b m c cs)
def oN:Qm prog 209 m 34 (Tv b m c cs)=some []:=K1
def Z9:Gr:=Qi prog 209 m 34 (Tv b m c cs)
def NY:(Qc prog 209 m (Z9 b m c cs) (Q1 0 0) (Qq 0)).info=some (Q1 1 0,Qq 0,#[Jg b 0,QB b 0],[(b,true),(b,true)]):=K1
def Ov:Gr:=(Qc prog 209 m (Z9 b m c cs) (Q1 0 0) (Qq 0)).get (Z9 b m c cs)
def Ag:Qm prog 209 m 53 (Ov b m c cs)=some [(b,false),(b,false)]:=K1
def Vm:Gr:=Qi prog 209 m 53 (Ov b m c cs)
def B9:(Qc prog 209 m (Vm b m c cs) undef undef).info=some (undef,undef,#[Z2 (bif false then .write ⟨b,1,none⟩else .read ⟨b,1,none⟩)],[]):=K1
def SB:Gr:=(Qc prog 209 m (Vm b m c cs) undef undef).get (Vm b m c cs)
def ve:Qm prog 209 m 39 (SB b m c cs)=some []:=K1
def KV:Gr:=Qi prog 209 m 39 (SB b m c cs)
def wT:(Qc prog 209 m (KV b m c cs) undef undef).info=some (undef,undef,#[Z2 .enable],[]):=K1
def TX:Gr:=(Qc prog 209 m (KV b m c cs) undef undef).get (KV b m c cs)
def BV:Qm prog 209 m 1 (TX b m c cs)=some []:=K1
def xB:Qi prog 209 m 1 (TX b m c cs)=Rf (c.finish (.tuple #[])) cs:=K1
def Bu:(Qc prog 209 m (Z9 b m c cs) (Q1 1 0) (Qq 0)).info=some (Q1 2 0,Qq 0,#[Jg b 0,QB b 0],[(b,true),(b,true)]):=K1
def YS:Gr:=(Qc prog 209 m (Z9 b m c cs) (Q1 1 0) (Qq 0)).get (Z9 b m c cs)
def ot:Qm prog 209 m 87 (YS b m c cs)=some []:=K1
def Vi:Gr:=Qi prog 209 m 87 (YS b m c cs)
def po:(Qc prog 209 m (Vi b m c cs) undef undef).info=some (undef,undef,#[Z2 .enable],[]):=K1
def SN:Gr:=(Qc prog 209 m (Vi b m c cs) undef undef).get (Vi b m c cs)
def AE:Qm prog 209 m 1 (SN b m c cs)=some []:=K1
def vK:Qi prog 209 m 1 (SN b m c cs)=Rf (c.finish (.tuple #[])) cs:=K1
def zC:(Qc prog 209 m (Z9 b m c cs) (Q1 2 0) (Qq 0)).info=some (Q1 3 0,Qq 0,#[Jg b 0,QB b 0],[(b,true),(b,true)]):=K1
def YG:Gr:=(Qc prog 209 m (Z9 b m c cs) (Q1 2 0) (Qq 0)).get (Z9 b m c cs)
def MP:Qm prog 209 m 87 (YG b m c cs)=some []:=K1
def Yo:Gr:=Qi prog 209 m 87 (YG b m c cs)
def vj:(Qc prog 209 m (Yo b m c cs) undef undef).info=some (undef,undef,#[Z2 .enable],[]):=K1
def OI:Gr:=(Qc prog 209 m (Yo b m c cs) undef undef).get (Yo b m c cs)
def xF:Qm prog 209 m 1 (OI b m c cs)=some []:=K1
def gP:Qi prog 209 m 1 (OI b m c cs)=Rf (c.finish (.tuple #[])) cs:=K1
def ND:(Qc prog 209 m (Z9 b m c cs) (Q1 3 0) (Qq 0)).info=some (Q1 4 0,Qq 0,#[Jg b 0,QB b 0],[(b,true),(b,true)]):=K1
def TP:Gr:=(Qc prog 209 m (Z9 b m c cs) (Q1 3 0) (Qq 0)).get (Z9 b m c cs)
def wQ:Qm prog 209 m 87 (TP b m c cs)=some []:=K1
def Vy:Gr:=Qi prog 209 m 87 (TP b m c cs)
def zM:(Qc prog 209 m (Vy b m c cs) undef undef).info=some (undef,undef,#[Z2 .enable],[]):=K1
def Oi:Gr:=(Qc prog 209 m (Vy b m c cs) undef undef).get (Vy b m c cs)
def N4:Qm prog 209 m 1 (Oi b m c cs)=some []:=K1
def om:Qi prog 209 m 1 (Oi b m c cs)=Rf (c.finish (.tuple #[])) cs:=K1
def gY:(Qc prog 209 m (Z9 b m c cs) (Q1 4 0) (Qq 0)).info=some (Q1 5 0,Qq 0,#[Jg b 0,QB b 0],[(b,true),(b,true)]):=K1
def S0:Gr:=(Qc prog 209 m (Z9 b m c cs) (Q1 4 0) (Qq 0)).get (Z9 b m c cs)
def xN:Qm prog 209 m 87 (S0 b m c cs)=some []:=K1
def Yh:Gr:=Qi prog 209 m 87 (S0 b m c cs)
def N1:(Qc prog 209 m (Yh b m c cs) undef undef).info=some (undef,undef,#[Z2 .enable],[]):=K1
def Y_:Gr:=(Qc prog 209 m (Yh b m c cs) undef undef).get (Yh b m c cs)
def pG:Qm prog 209 m 1 (Y_ b m c cs)=some []:=K1
def xG:Qi prog 209 m 1 (Y_ b m c cs)=Rf (c.finish (.tuple #[])) cs:=K1
def B0:(Qc prog 209 m (Z9 b m c cs) (Q1 5 0) (Qq 0)).info=some (Q1 6 0,Qq 0,#[Jg b 0,QB b 0],[(b,true),(b,true)]):=K1
def Ui:Gr:=(Qc prog 209 m (Z9 b m c cs) (Q1 5 0) (Qq 0)).get (Z9 b m c cs)
def RY:Qm prog 209 m 87 (Ui b m c cs)=some []:=K1
def Vg:Gr:=Qi prog 209 m 87 (Ui b m c cs)
def kI:(Qc prog 209 m (Vg b m c cs) undef undef).info=some (undef,undef,#[Z2 .enable],[]):=K1
def Oz:Gr:=(Qc prog 209 m (Vg b m c cs) undef undef).get (Vg b m c cs)
def og:Qm prog 209 m 1 (Oz b m c cs)=some []:=K1
def jQ:Qi prog 209 m 1 (Oz b m c cs)=Rf (c.finish (.tuple #[])) cs:=K1
end
end Go.Proofs
end

