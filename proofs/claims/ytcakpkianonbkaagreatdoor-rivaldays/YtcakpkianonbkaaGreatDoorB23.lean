/- Lemmas. No conditions. -/
import Derived.Test.YtcakpkianonbkaaGreatDoorB15
set_option linter.all false
open Go.Proofs.Tryz (prog)
set_option maxRecDepth 100000
noncomputable section
namespace Go.Proofs
open Go.TM
section
variable(b:Nat)(T:Array Value)(todo:List Item)
def Kv:Gr:=QC (Zc b T todo) (Q2 5 0) (Qq 0)
def qu:(Qc prog 175 false (Zc b T todo) (Q2 5 0) (Qq 0)).info=some (Q2 4 0,Qq 0,#[Ji b 0,QA b 0],[(b,true),(b,true)]):=K1
def qt:Qn prog 175 false 87 (Kv b T todo)=some []:=K1
def Iy:Gr:=Qi prog 175 false 87 (Kv b T todo)
def qv:(Qc prog 175 false (Iy b T todo) undef undef).info=some (undef,undef,#[Z8 .enable],[]):=K1
def Iz:Gr:=QC (Iy b T todo) undef undef
def qw:Qn prog 175 false 6 (Iz b T todo)=some []:=K1
def qS:(Qi prog 175 false 6 (Iz b T todo)).status=.finished:=K1
def C0:Go.Conc.QuitsD prog 94 1 (Kv b T todo):=Zj (n:=87) (qt b T todo) (Wc (qv b T todo) (by simp[Z8,Event.mute]) (Zj (n:=6) (k:=0) (qw b T todo) ⟨qS b T todo,rfl⟩))
end
section
variable(b:Nat)(T:Array Value)(todo:List Item)
def Kw:Gr:=QC (Zc b T todo) (Q2 5 1) (Qq 0)
def qy:(Qc prog 175 false (Zc b T todo) (Q2 5 1) (Qq 0)).info=some (Q2 4 1,Qq 0,#[Ji b 0,QA b 0],[(b,true),(b,true)]):=K1
def qx:Qn prog 175 false 87 (Kw b T todo)=some []:=K1
def IA:Gr:=Qi prog 175 false 87 (Kw b T todo)
def qz:(Qc prog 175 false (IA b T todo) undef undef).info=some (undef,undef,#[Z8 .enable],[]):=K1
def IB:Gr:=QC (IA b T todo) undef undef
def qA:Qn prog 175 false 6 (IB b T todo)=some []:=K1
def q_:(Qi prog 175 false 6 (IB b T todo)).status=.finished:=K1
def C1:Go.Conc.QuitsD prog 94 1 (Kw b T todo):=Zj (n:=87) (qx b T todo) (Wc (qz b T todo) (by simp[Z8,Event.mute]) (Zj (n:=6) (k:=0) (qA b T todo) ⟨q_ b T todo,rfl⟩))
end
end Go.Proofs
end

