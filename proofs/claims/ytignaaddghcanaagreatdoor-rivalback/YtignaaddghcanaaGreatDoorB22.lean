/- Lemmas. No conditions. -/
import Derived.Test.YtignaaddghcanaaGreatDoorProg
import Derived.Test.YtignaaddghcanaaGreatDoorB10
set_option linter.all false
set_option maxRecDepth 100000
open Go.Proofs.Tryz (prog)
noncomputable section
namespace Go.TM
open Go.Proofs
section
open Go.Conc (QuitsD)
variable(b:Nat)(m:Bool)(c:Frame)(cs:List Frame)
noncomputable def OK(b:Nat)(_:Bool)(c:Frame)(cs:List Frame):Gr:=Rf (Frame.enter prog 97 #[.pb b,.int .i64 1] .normal) (c::cs)
def N5:Qm prog 173 m 12 (OK b m c cs)=some []:=K1
def K0:Gr:=Qi prog 173 m 12 (OK b m c cs)
def N6:(Qc prog 173 m (K0 b m c cs) undef undef).info=some (undef,undef,#[Z0 .disable],[]):=K1
def OL:Gr:=(Qc prog 173 m (K0 b m c cs) undef undef).get (K0 b m c cs)
def No:Qm prog 173 m 34 (OL b m c cs)=some []:=K1
def Z7:Gr:=Qi prog 173 m 34 (OL b m c cs)
def Np:(Qc prog 173 m (Z7 b m c cs) (Q0 0 0) (Qp 0)).info=some (Q0 1 0,Qp 0,#[Jd b 0,W9 b 0],[(b,true),(b,true)]):=K1
def YV:Gr:=(Qc prog 173 m (Z7 b m c cs) (Q0 0 0) (Qp 0)).get (Z7 b m c cs)
def zA:Qm prog 173 m 53 (YV b m c cs)=some [(b,false),(b,false)]:=K1
def V8:Gr:=Qi prog 173 m 53 (YV b m c cs)
def zF:(Qc prog 173 m (V8 b m c cs) undef undef).info=some (undef,undef,#[Z0 (bif false then .write ⟨b,1,none⟩else .read ⟨b,1,none⟩)],[]):=K1
def YC:Gr:=(Qc prog 173 m (V8 b m c cs) undef undef).get (V8 b m c cs)
def zB:Qm prog 173 m 39 (YC b m c cs)=some []:=K1
def V9:Gr:=Qi prog 173 m 39 (YC b m c cs)
def zC:(Qc prog 173 m (V9 b m c cs) undef undef).info=some (undef,undef,#[Z0 .enable],[]):=K1
def YB:Gr:=(Qc prog 173 m (V9 b m c cs) undef undef).get (V9 b m c cs)
def zD:Qm prog 173 m 1 (YB b m c cs)=some []:=K1
def zE:Qi prog 173 m 1 (YB b m c cs)=Rf (c.finish (.tuple #[])) cs:=K1
def Nq:(Qc prog 173 m (Z7 b m c cs) (Q0 1 0) (Qp 0)).info=some (Q0 2 0,Qp 0,#[Jd b 0,W9 b 0],[(b,true),(b,true)]):=K1
def YW:Gr:=(Qc prog 173 m (Z7 b m c cs) (Q0 1 0) (Qp 0)).get (Z7 b m c cs)
def zG:Qm prog 173 m 87 (YW b m c cs)=some []:=K1
def Va:Gr:=Qi prog 173 m 87 (YW b m c cs)
def zH:(Qc prog 173 m (Va b m c cs) undef undef).info=some (undef,undef,#[Z0 .enable],[]):=K1
def YD:Gr:=(Qc prog 173 m (Va b m c cs) undef undef).get (Va b m c cs)
def zI:Qm prog 173 m 1 (YD b m c cs)=some []:=K1
def LW:Qi prog 173 m 1 (YD b m c cs)=Rf (c.finish (.tuple #[])) cs:=K1
def Nr:(Qc prog 173 m (Z7 b m c cs) (Q0 2 0) (Qp 0)).info=some (Q0 3 0,Qp 0,#[Jd b 0,W9 b 0],[(b,true),(b,true)]):=K1
def YX:Gr:=(Qc prog 173 m (Z7 b m c cs) (Q0 2 0) (Qp 0)).get (Z7 b m c cs)
def LX:Qm prog 173 m 87 (YX b m c cs)=some []:=K1
def Vb:Gr:=Qi prog 173 m 87 (YX b m c cs)
def LY:(Qc prog 173 m (Vb b m c cs) undef undef).info=some (undef,undef,#[Z0 .enable],[]):=K1
def YE:Gr:=(Qc prog 173 m (Vb b m c cs) undef undef).get (Vb b m c cs)
def LZ:Qm prog 173 m 1 (YE b m c cs)=some []:=K1
def L_:Qi prog 173 m 1 (YE b m c cs)=Rf (c.finish (.tuple #[])) cs:=K1
def Ns:(Qc prog 173 m (Z7 b m c cs) (Q0 3 0) (Qp 0)).info=some (Q0 4 0,Qp 0,#[Jd b 0,W9 b 0],[(b,true),(b,true)]):=K1
def YY:Gr:=(Qc prog 173 m (Z7 b m c cs) (Q0 3 0) (Qp 0)).get (Z7 b m c cs)
def M0:Qm prog 173 m 87 (YY b m c cs)=some []:=K1
def Vc:Gr:=Qi prog 173 m 87 (YY b m c cs)
def M4:(Qc prog 173 m (Vc b m c cs) undef undef).info=some (undef,undef,#[Z0 .enable],[]):=K1
def YF:Gr:=(Qc prog 173 m (Vc b m c cs) undef undef).get (Vc b m c cs)
def M5:Qm prog 173 m 1 (YF b m c cs)=some []:=K1
def M6:Qi prog 173 m 1 (YF b m c cs)=Rf (c.finish (.tuple #[])) cs:=K1
def Nt:(Qc prog 173 m (Z7 b m c cs) (Q0 4 0) (Qp 0)).info=some (Q0 5 0,Qp 0,#[Jd b 0,W9 b 0],[(b,true),(b,true)]):=K1
def YZ:Gr:=(Qc prog 173 m (Z7 b m c cs) (Q0 4 0) (Qp 0)).get (Z7 b m c cs)
def M7:Qm prog 173 m 87 (YZ b m c cs)=some []:=K1
def Vd:Gr:=Qi prog 173 m 87 (YZ b m c cs)
def M8:(Qc prog 173 m (Vd b m c cs) undef undef).info=some (undef,undef,#[Z0 .enable],[]):=K1
def YG:Gr:=(Qc prog 173 m (Vd b m c cs) undef undef).get (Vd b m c cs)
def M9:Qm prog 173 m 1 (YG b m c cs)=some []:=K1
def Ma:Qi prog 173 m 1 (YG b m c cs)=Rf (c.finish (.tuple #[])) cs:=K1
def Nu:(Qc prog 173 m (Z7 b m c cs) (Q0 5 0) (Qp 0)).info=some (Q0 6 0,Qp 0,#[Jd b 0,W9 b 0],[(b,true),(b,true)]):=K1
def Y_:Gr:=(Qc prog 173 m (Z7 b m c cs) (Q0 5 0) (Qp 0)).get (Z7 b m c cs)
def Mb:Qm prog 173 m 87 (Y_ b m c cs)=some []:=K1
def Ve:Gr:=Qi prog 173 m 87 (Y_ b m c cs)
def Md:(Qc prog 173 m (Ve b m c cs) undef undef).info=some (undef,undef,#[Z0 .enable],[]):=K1
def YH:Gr:=(Qc prog 173 m (Ve b m c cs) undef undef).get (Ve b m c cs)
def Me:Qm prog 173 m 1 (YH b m c cs)=some []:=K1
def Mf:Qi prog 173 m 1 (YH b m c cs)=Rf (c.finish (.tuple #[])) cs:=K1
