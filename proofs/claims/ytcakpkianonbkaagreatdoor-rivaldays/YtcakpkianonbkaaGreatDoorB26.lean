/- Lemmas. No conditions. -/
import Derived.Test.YtcakpkianonbkaaGreatDoorProg
import Derived.Test.YtcakpkianonbkaaGreatDoorB14
set_option linter.all false
open Go.Proofs.Tryz (prog)
set_option maxRecDepth 100000
noncomputable section
namespace Go.Proofs
open Go.TM
open Go.Conc (QuitsD)
section
variable(b:Nat)(m:Bool)(c:Frame)(cs:List Frame)
noncomputable def Se(b:Nat)(_:Bool)(c:Frame)(cs:List Frame):Gr:=Rf (Frame.enter prog 96 #[.pointer (some ⟨b,0,none⟩),.int .i64 1] .normal) (c::cs)
def B2:Qn prog 175 m 12 (Se b m c cs)=some []:=K1
def Yc:Gr:=Qi prog 175 m 12 (Se b m c cs)
def B6:(Qc prog 175 m (Yc b m c cs) undef undef).info=some (undef,undef,#[Z8 .disable],[]):=K1
def Sf:Gr:=(Qc prog 175 m (Yc b m c cs) undef undef).get (Yc b m c cs)
def B7:Qn prog 175 m 34 (Sf b m c cs)=some []:=K1
def Jd:Gr:=Qi prog 175 m 34 (Sf b m c cs)
def B8:(Qc prog 175 m (Jd b m c cs) (Q2 0 0) (Qq 0)).info=some (Q2 1 0,Qq 0,#[Ji b 0,QA b 0],[(b,true),(b,true)]):=K1
def Tq:Gr:=(Qc prog 175 m (Jd b m c cs) (Q2 0 0) (Qq 0)).get (Jd b m c cs)
def RW:Qn prog 175 m 53 (Tq b m c cs)=some [(b,false),(b,false)]:=K1
def Kb:Gr:=Qi prog 175 m 53 (Tq b m c cs)
def RI:(Qc prog 175 m (Kb b m c cs) undef undef).info=some (undef,undef,#[Z8 (bif false then .write ⟨b,1,none⟩else .read ⟨b,1,none⟩)],[]):=K1
def Tb:Gr:=(Qc prog 175 m (Kb b m c cs) undef undef).get (Kb b m c cs)
def RX:Qn prog 175 m 39 (Tb b m c cs)=some []:=K1
def Kc:Gr:=Qi prog 175 m 39 (Tb b m c cs)
def RY:(Qc prog 175 m (Kc b m c cs) undef undef).info=some (undef,undef,#[Z8 .enable],[]):=K1
def Ta:Gr:=(Qc prog 175 m (Kc b m c cs) undef undef).get (Kc b m c cs)
def RZ:Qn prog 175 m 1 (Ta b m c cs)=some []:=K1
def RH:Qi prog 175 m 1 (Ta b m c cs)=Rf (c.finish (.tuple #[])) cs:=K1
def B9:(Qc prog 175 m (Jd b m c cs) (Q2 1 0) (Qq 0)).info=some (Q2 2 0,Qq 0,#[Ji b 0,QA b 0],[(b,true),(b,true)]):=K1
def Ts:Gr:=(Qc prog 175 m (Jd b m c cs) (Q2 1 0) (Qq 0)).get (Jd b m c cs)
def RJ:Qn prog 175 m 87 (Ts b m c cs)=some []:=K1
def Kd:Gr:=Qi prog 175 m 87 (Ts b m c cs)
def RK:(Qc prog 175 m (Kd b m c cs) undef undef).info=some (undef,undef,#[Z8 .enable],[]):=K1
def Tc:Gr:=(Qc prog 175 m (Kd b m c cs) undef undef).get (Kd b m c cs)
def RL:Qn prog 175 m 1 (Tc b m c cs)=some []:=K1
def RM:Qi prog 175 m 1 (Tc b m c cs)=Rf (c.finish (.tuple #[])) cs:=K1
def Bb:(Qc prog 175 m (Jd b m c cs) (Q2 2 0) (Qq 0)).info=some (Q2 3 0,Qq 0,#[Ji b 0,QA b 0],[(b,true),(b,true)]):=K1
def Tt:Gr:=(Qc prog 175 m (Jd b m c cs) (Q2 2 0) (Qq 0)).get (Jd b m c cs)
def RN:Qn prog 175 m 87 (Tt b m c cs)=some []:=K1
def Ke:Gr:=Qi prog 175 m 87 (Tt b m c cs)
def RO:(Qc prog 175 m (Ke b m c cs) undef undef).info=some (undef,undef,#[Z8 .enable],[]):=K1
def Td:Gr:=(Qc prog 175 m (Ke b m c cs) undef undef).get (Ke b m c cs)
def RP:Qn prog 175 m 1 (Td b m c cs)=some []:=K1
def RQ:Qi prog 175 m 1 (Td b m c cs)=Rf (c.finish (.tuple #[])) cs:=K1
def Bs:(Qc prog 175 m (Jd b m c cs) (Q2 3 0) (Qq 0)).info=some (Q2 4 0,Qq 0,#[Ji b 0,QA b 0],[(b,true),(b,true)]):=K1
def Tu:Gr:=(Qc prog 175 m (Jd b m c cs) (Q2 3 0) (Qq 0)).get (Jd b m c cs)
def R_:Qn prog 175 m 87 (Tu b m c cs)=some []:=K1
def Kf:Gr:=Qi prog 175 m 87 (Tu b m c cs)
def A0:(Qc prog 175 m (Kf b m c cs) undef undef).info=some (undef,undef,#[Z8 .enable],[]):=K1
def Te:Gr:=(Qc prog 175 m (Kf b m c cs) undef undef).get (Kf b m c cs)
def A1:Qn prog 175 m 1 (Te b m c cs)=some []:=K1
def A3:Qi prog 175 m 1 (Te b m c cs)=Rf (c.finish (.tuple #[])) cs:=K1
def Bt:(Qc prog 175 m (Jd b m c cs) (Q2 4 0) (Qq 0)).info=some (Q2 5 0,Qq 0,#[Ji b 0,QA b 0],[(b,true),(b,true)]):=K1
def Tv:Gr:=(Qc prog 175 m (Jd b m c cs) (Q2 4 0) (Qq 0)).get (Jd b m c cs)
def A4:Qn prog 175 m 87 (Tv b m c cs)=some []:=K1
def Kg:Gr:=Qi prog 175 m 87 (Tv b m c cs)
def A5:(Qc prog 175 m (Kg b m c cs) undef undef).info=some (undef,undef,#[Z8 .enable],[]):=K1
def Tf:Gr:=(Qc prog 175 m (Kg b m c cs) undef undef).get (Kg b m c cs)
def A6:Qn prog 175 m 1 (Tf b m c cs)=some []:=K1
def A7:Qi prog 175 m 1 (Tf b m c cs)=Rf (c.finish (.tuple #[])) cs:=K1
def Bu:(Qc prog 175 m (Jd b m c cs) (Q2 5 0) (Qq 0)).info=some (Q2 6 0,Qq 0,#[Ji b 0,QA b 0],[(b,true),(b,true)]):=K1
def Tw:Gr:=(Qc prog 175 m (Jd b m c cs) (Q2 5 0) (Qq 0)).get (Jd b m c cs)
def A8:Qn prog 175 m 87 (Tw b m c cs)=some []:=K1
def Kh:Gr:=Qi prog 175 m 87 (Tw b m c cs)
def A9:(Qc prog 175 m (Kh b m c cs) undef undef).info=some (undef,undef,#[Z8 .enable],[]):=K1
def Tg:Gr:=(Qc prog 175 m (Kh b m c cs) undef undef).get (Kh b m c cs)
def Aa:Qn prog 175 m 1 (Tg b m c cs)=some []:=K1
def Ab:Qi prog 175 m 1 (Tg b m c cs)=Rf (c.finish (.tuple #[])) cs:=K1
end
end Go.Proofs
end

