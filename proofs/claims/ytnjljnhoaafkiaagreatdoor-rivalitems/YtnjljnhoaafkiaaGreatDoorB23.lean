/- Lemmas. No conditions. -/
import Derived.Test.YtnjljnhoaafkiaaGreatDoorProg
import Derived.Test.YtnjljnhoaafkiaaGreatDoorB11
set_option linter.all false
open Go.Proofs.Tryz (prog)
set_option maxRecDepth 100000
noncomputable section
namespace Go.Proofs
open Go.TM
open Go.Conc (QuitsD)
section
variable(b:Nat)(m:Bool)(c:Frame)(cs:List Frame)
noncomputable def OT(b:Nat)(_:Bool)(c:Frame)(cs:List Frame):Gr:=Rf (Frame.enter prog 96 #[.pointer (some ⟨b,0,none⟩),.int .i64 1] .normal) (c::cs)
def NE:Qm prog 176 m 12 (OT b m c cs)=some []:=K1
def Kb:Gr:=Qj prog 176 m 12 (OT b m c cs)
def NF:(Qc prog 176 m (Kb b m c cs) undef undef).info=some (undef,undef,#[Z0 .disable],[]):=K1
def OU:Gr:=(Qc prog 176 m (Kb b m c cs) undef undef).get (Kb b m c cs)
def NG:Qm prog 176 m 34 (OU b m c cs)=some []:=K1
def Z8:Gr:=Qj prog 176 m 34 (OU b m c cs)
def NH:(Qc prog 176 m (Z8 b m c cs) (Q0 0 0) (Qp 0)).info=some (Q0 1 0,Qp 0,#[Jc b 0,QA b 0],[(b,true),(b,true)]):=K1
def YY:Gr:=(Qc prog 176 m (Z8 b m c cs) (Q0 0 0) (Qp 0)).get (Z8 b m c cs)
def zS:Qm prog 176 m 53 (YY b m c cs)=some [(b,false),(b,false)]:=K1
def Vn:Gr:=Qj prog 176 m 53 (YY b m c cs)
def Mh:(Qc prog 176 m (Vn b m c cs) undef undef).info=some (undef,undef,#[Z0 (bif false then .write ⟨b,1,none⟩else .read ⟨b,1,none⟩)],[]):=K1
def YL:Gr:=(Qc prog 176 m (Vn b m c cs) undef undef).get (Vn b m c cs)
def Md:Qm prog 176 m 39 (YL b m c cs)=some []:=K1
def Vo:Gr:=Qj prog 176 m 39 (YL b m c cs)
def Me:(Qc prog 176 m (Vo b m c cs) undef undef).info=some (undef,undef,#[Z0 .enable],[]):=K1
def YK:Gr:=(Qc prog 176 m (Vo b m c cs) undef undef).get (Vo b m c cs)
def Mf:Qm prog 176 m 1 (YK b m c cs)=some []:=K1
def Mg:Qj prog 176 m 1 (YK b m c cs)=Rf (c.finish (.tuple #[])) cs:=K1
def NI:(Qc prog 176 m (Z8 b m c cs) (Q0 1 0) (Qp 0)).info=some (Q0 2 0,Qp 0,#[Jc b 0,QA b 0],[(b,true),(b,true)]):=K1
def YZ:Gr:=(Qc prog 176 m (Z8 b m c cs) (Q0 1 0) (Qp 0)).get (Z8 b m c cs)
def Mi:Qm prog 176 m 87 (YZ b m c cs)=some []:=K1
def Vp:Gr:=Qj prog 176 m 87 (YZ b m c cs)
def Mj:(Qc prog 176 m (Vp b m c cs) undef undef).info=some (undef,undef,#[Z0 .enable],[]):=K1
def YM:Gr:=(Qc prog 176 m (Vp b m c cs) undef undef).get (Vp b m c cs)
def Mk:Qm prog 176 m 1 (YM b m c cs)=some []:=K1
def Ml:Qj prog 176 m 1 (YM b m c cs)=Rf (c.finish (.tuple #[])) cs:=K1
def NJ:(Qc prog 176 m (Z8 b m c cs) (Q0 2 0) (Qp 0)).info=some (Q0 3 0,Qp 0,#[Jc b 0,QA b 0],[(b,true),(b,true)]):=K1
def Y_:Gr:=(Qc prog 176 m (Z8 b m c cs) (Q0 2 0) (Qp 0)).get (Z8 b m c cs)
def Mm:Qm prog 176 m 87 (Y_ b m c cs)=some []:=K1
def Vq:Gr:=Qj prog 176 m 87 (Y_ b m c cs)
def Mn:(Qc prog 176 m (Vq b m c cs) undef undef).info=some (undef,undef,#[Z0 .enable],[]):=K1
def YN:Gr:=(Qc prog 176 m (Vq b m c cs) undef undef).get (Vq b m c cs)
def Mo:Qm prog 176 m 1 (YN b m c cs)=some []:=K1
def Mp:Qj prog 176 m 1 (YN b m c cs)=Rf (c.finish (.tuple #[])) cs:=K1
def NK:(Qc prog 176 m (Z8 b m c cs) (Q0 3 0) (Qp 0)).info=some (Q0 4 0,Qp 0,#[Jc b 0,QA b 0],[(b,true),(b,true)]):=K1
def O0:Gr:=(Qc prog 176 m (Z8 b m c cs) (Q0 3 0) (Qp 0)).get (Z8 b m c cs)
def Mq:Qm prog 176 m 87 (O0 b m c cs)=some []:=K1
def Vr:Gr:=Qj prog 176 m 87 (O0 b m c cs)
def Mt:(Qc prog 176 m (Vr b m c cs) undef undef).info=some (undef,undef,#[Z0 .enable],[]):=K1
def YO:Gr:=(Qc prog 176 m (Vr b m c cs) undef undef).get (Vr b m c cs)
def Mv:Qm prog 176 m 1 (YO b m c cs)=some []:=K1
def Mw:Qj prog 176 m 1 (YO b m c cs)=Rf (c.finish (.tuple #[])) cs:=K1
def NL:(Qc prog 176 m (Z8 b m c cs) (Q0 4 0) (Qp 0)).info=some (Q0 5 0,Qp 0,#[Jc b 0,QA b 0],[(b,true),(b,true)]):=K1
def O4:Gr:=(Qc prog 176 m (Z8 b m c cs) (Q0 4 0) (Qp 0)).get (Z8 b m c cs)
def Mx:Qm prog 176 m 87 (O4 b m c cs)=some []:=K1
def Vs:Gr:=Qj prog 176 m 87 (O4 b m c cs)
def My:(Qc prog 176 m (Vs b m c cs) undef undef).info=some (undef,undef,#[Z0 .enable],[]):=K1
def YP:Gr:=(Qc prog 176 m (Vs b m c cs) undef undef).get (Vs b m c cs)
def Mz:Qm prog 176 m 1 (YP b m c cs)=some []:=K1
def MA:Qj prog 176 m 1 (YP b m c cs)=Rf (c.finish (.tuple #[])) cs:=K1
def NM:(Qc prog 176 m (Z8 b m c cs) (Q0 5 0) (Qp 0)).info=some (Q0 6 0,Qp 0,#[Jc b 0,QA b 0],[(b,true),(b,true)]):=K1
def O5:Gr:=(Qc prog 176 m (Z8 b m c cs) (Q0 5 0) (Qp 0)).get (Z8 b m c cs)
def MB:Qm prog 176 m 87 (O5 b m c cs)=some []:=K1
def Vt:Gr:=Qj prog 176 m 87 (O5 b m c cs)
def MC:(Qc prog 176 m (Vt b m c cs) undef undef).info=some (undef,undef,#[Z0 .enable],[]):=K1
def YQ:Gr:=(Qc prog 176 m (Vt b m c cs) undef undef).get (Vt b m c cs)
def MD:Qm prog 176 m 1 (YQ b m c cs)=some []:=K1
def ME:Qj prog 176 m 1 (YQ b m c cs)=Rf (c.finish (.tuple #[])) cs:=K1
end
end Go.Proofs
end

