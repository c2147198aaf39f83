/- Lemmas. No conditions. -/
import Derived.Test.YtnjljnhoaafkiaaGreatDoorProg
import Derived.Test.YtnjljnhoaafkiaaGreatDoorB11
set_option linter.all false
set_option maxRecDepth 100000
open Go.Proofs.Tryz (prog)
noncomputable section
namespace Go.TM
open Go.Proofs
section
open Go.Conc (QuitsD)
variable(b:Nat)(m:Bool)(c:Frame)(cs:List Frame)
def OZ(b:Nat)(_:Bool)(c:Frame)(cs:List Frame):Gr:=Rf (Frame.enter prog 96 #[.pb b,.int .i64 1] .normal) (c::cs)
def No:Qm prog 176 m 12 (OZ b m c cs)=some []:=K1
def Ke:Gr:=Qj prog 176 m 12 (OZ b m c cs)
def Np:(Qc prog 176 m (Ke b m c cs) undef undef).info=some (undef,undef,#[Z0 .disable],[]):=K1
def O_:Gr:=(Qc prog 176 m (Ke b m c cs) undef undef).get (Ke b m c cs)
def Nq:Qm prog 176 m 34 (O_ b m c cs)=some []:=K1
def Z7:Gr:=Qj prog 176 m 34 (O_ b m c cs)
def Nr:(Qc prog 176 m (Z7 b m c cs) (Q0 0 0) (Qp 0)).info=some (Q0 1 0,Qp 0,#[Jc b 0,QA b 0],[(b,true),(b,true)]):=K1
def O5:Gr:=(Qc prog 176 m (Z7 b m c cs) (Q0 0 0) (Qp 0)).get (Z7 b m c cs)
def zV:Qm prog 176 m 53 (O5 b m c cs)=some [(b,false),(b,false)]:=K1
def Vq:Gr:=Qj prog 176 m 53 (O5 b m c cs)
def z_:(Qc prog 176 m (Vq b m c cs) undef undef).info=some (undef,undef,#[Z0 (bif false then .write ⟨b,1,none⟩else .read ⟨b,1,none⟩)],[]):=K1
def YQ:Gr:=(Qc prog 176 m (Vq b m c cs) undef undef).get (Vq b m c cs)
def zW:Qm prog 176 m 39 (YQ b m c cs)=some []:=K1
def Vr:Gr:=Qj prog 176 m 39 (YQ b m c cs)
def zX:(Qc prog 176 m (Vr b m c cs) undef undef).info=some (undef,undef,#[Z0 .enable],[]):=K1
def YP:Gr:=(Qc prog 176 m (Vr b m c cs) undef undef).get (Vr b m c cs)
def zY:Qm prog 176 m 1 (YP b m c cs)=some []:=K1
def zZ:Qj prog 176 m 1 (YP b m c cs)=Rf (c.finish (.tuple #[])) cs:=K1
def Ns:(Qc prog 176 m (Z7 b m c cs) (Q0 1 0) (Qp 0)).info=some (Q0 2 0,Qp 0,#[Jc b 0,QA b 0],[(b,true),(b,true)]):=K1
def O6:Gr:=(Qc prog 176 m (Z7 b m c cs) (Q0 1 0) (Qp 0)).get (Z7 b m c cs)
def jb:Qm prog 176 m 87 (O6 b m c cs)=some []:=K1
def Vs:Gr:=Qj prog 176 m 87 (O6 b m c cs)
def Mg:(Qc prog 176 m (Vs b m c cs) undef undef).info=some (undef,undef,#[Z0 .enable],[]):=K1
def YR:Gr:=(Qc prog 176 m (Vs b m c cs) undef undef).get (Vs b m c cs)
def Mh:Qm prog 176 m 1 (YR b m c cs)=some []:=K1
def Mi:Qj prog 176 m 1 (YR b m c cs)=Rf (c.finish (.tuple #[])) cs:=K1
def NI:(Qc prog 176 m (Z7 b m c cs) (Q0 2 0) (Qp 0)).info=some (Q0 3 0,Qp 0,#[Jc b 0,QA b 0],[(b,true),(b,true)]):=K1
def O7:Gr:=(Qc prog 176 m (Z7 b m c cs) (Q0 2 0) (Qp 0)).get (Z7 b m c cs)
def Mj:Qm prog 176 m 87 (O7 b m c cs)=some []:=K1
def Vt:Gr:=Qj prog 176 m 87 (O7 b m c cs)
def Mk:(Qc prog 176 m (Vt b m c cs) undef undef).info=some (undef,undef,#[Z0 .enable],[]):=K1
def YS:Gr:=(Qc prog 176 m (Vt b m c cs) undef undef).get (Vt b m c cs)
def Ml:Qm prog 176 m 1 (YS b m c cs)=some []:=K1
def Mm:Qj prog 176 m 1 (YS b m c cs)=Rf (c.finish (.tuple #[])) cs:=K1
def NJ:(Qc prog 176 m (Z7 b m c cs) (Q0 3 0) (Qp 0)).info=some (Q0 4 0,Qp 0,#[Jc b 0,QA b 0],[(b,true),(b,true)]):=K1
def O8:Gr:=(Qc prog 176 m (Z7 b m c cs) (Q0 3 0) (Qp 0)).get (Z7 b m c cs)
def Mn:Qm prog 176 m 87 (O8 b m c cs)=some []:=K1
def Vu:Gr:=Qj prog 176 m 87 (O8 b m c cs)
def Mo:(Qc prog 176 m (Vu b m c cs) undef undef).info=some (undef,undef,#[Z0 .enable],[]):=K1
def YT:Gr:=(Qc prog 176 m (Vu b m c cs) undef undef).get (Vu b m c cs)
def Mp:Qm prog 176 m 1 (YT b m c cs)=some []:=K1
def Mq:Qj prog 176 m 1 (YT b m c cs)=Rf (c.finish (.tuple #[])) cs:=K1
def NK:(Qc prog 176 m (Z7 b m c cs) (Q0 4 0) (Qp 0)).info=some (Q0 5 0,Qp 0,#[Jc b 0,QA b 0],[(b,true),(b,true)]):=K1
def O9:Gr:=(Qc prog 176 m (Z7 b m c cs) (Q0 4 0) (Qp 0)).get (Z7 b m c cs)
def Mt:Qm prog 176 m 87 (O9 b m c cs)=some []:=K1
def Vv:Gr:=Qj prog 176 m 87 (O9 b m c cs)
def Mv:(Qc prog 176 m (Vv b m c cs) undef undef).info=some (undef,undef,#[Z0 .enable],[]):=K1
def YU:Gr:=(Qc prog 176 m (Vv b m c cs) undef undef).get (Vv b m c cs)
def Mw:Qm prog 176 m 1 (YU b m c cs)=some []:=K1
def Mx:Qj prog 176 m 1 (YU b m c cs)=Rf (c.finish (.tuple #[])) cs:=K1
def NL:(Qc prog 176 m (Z7 b m c cs) (Q0 5 0) (Qp 0)).info=some (Q0 6 0,Qp 0,#[Jc b 0,QA b 0],[(b,true),(b,true)]):=K1
def Oa:Gr:=(Qc prog 176 m (Z7 b m c cs) (Q0 5 0) (Qp 0)).get (Z7 b m c cs)
def My:Qm prog 176 m 87 (Oa b m c cs)=some []:=K1
def Vw:Gr:=Qj prog 176 m 87 (Oa b m c cs)
def Mz:(Qc prog 176 m (Vw b m c cs) undef undef).info=some (undef,undef,#[Z0 .enable],[]):=K1
def YV:Gr:=(Qc prog 176 m (Vw b m c cs) undef undef).get (Vw b m c cs)
def MA:Qm prog 176 m 1 (YV b m c cs)=some []:=K1
def MB:Qj prog 176 m 1 (YV b m c cs)=Rf (c.finish (.tuple #[])) cs:=K1
