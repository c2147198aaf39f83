/- Lemmas. No conditions. -/
import Derived.Test.YtcakpkianonbkaaGreatDoorB15
set_option linter.all false
open Go.Proofs.Tryz (prog)
set_option maxRecDepth 100000
noncomputable section
namespace Go.Proofs
open Go.TM
section
variable(b:Nat)(T:Array Value)(todo:List Item)
def Kk:Gr:=QC (Zc b T todo) (Q2 1 0) (Qq 0)
def Fp:(Qc prog 175 false (Zc b T todo) (Q2 1 0) (Qq 0)).info=some (Q2 0 0,Qq 0,#[Ji b 0,QA b 0],[(b,true),(b,true)]):=K1
def CO:Qn prog 175 false 87 (Kk b T todo)=some []:=K1
def Iq:Gr:=Qi prog 175 false 87 (Kk b T todo)
def CP:(Qc prog 175 false (Iq b T todo) undef undef).info=some (undef,undef,#[Z8 .enable],[]):=K1
def Ir:Gr:=QC (Iq b T todo) undef undef
def CQ:Qn prog 175 false 6 (Ir b T todo)=some []:=K1
def qK:(Qi prog 175 false 6 (Ir b T todo)).status=.finished:=K1
def BU:Go.Conc.QuitsD prog 94 1 (Kk b T todo):=Zj (n:=87) (CO b T todo) (Wc (CP b T todo) (by simp[Z8,Event.mute]) (Zj (n:=6) (k:=0) (CQ b T todo) ⟨qK b T todo,rfl⟩))
end
section
variable(b:Nat)(T:Array Value)(todo:List Item)
def Kl:Gr:=QC (Zc b T todo) (Q2 1 1) (Qq 0)
def CS:(Qc prog 175 false (Zc b T todo) (Q2 1 1) (Qq 0)).info=some (Q2 0 1,Qq 0,#[Ji b 0,QA b 0],[(b,true),(b,true)]):=K1
def CR:Qn prog 175 false 103 (Kl b T todo)=some []:=K1
def Km:Gr:=Qi prog 175 false 103 (Kl b T todo)
def Fq:(Qc prog 175 false (Km b T todo) (Q2 0 1) (Qq 0)).info=some (Q2 0 1,Qq 0,#[Ji b 0],[(b,true)]):=K1
def Is:Gr:=QC (Km b T todo) (Q2 0 1) (Qq 0)
def CT:Qn prog 175 false 20 (Is b T todo)=some []:=K1
def Ko:Gr:=Qi prog 175 false 20 (Is b T todo)
def Fs:(Qc prog 175 false (Ko b T todo) (Q2 0 1) (Qq 0)).info=some (Q2 0 0,Qq 0,#[QA b 0],[(b,true)]):=K1
def It:Gr:=QC (Ko b T todo) (Q2 0 1) (Qq 0)
def CU:Qn prog 175 false 27 (It b T todo)=some []:=K1
def PD:Gr:=Qi prog 175 false 27 (It b T todo)
def Ft:(Qc prog 175 false (PD b T todo) (Q2 0 0) (Qq 0)).info=some (Q2 0 0,Qq 1,#[Z8 .disable,Ji b 1,QA b 1,Z8 .enable],[(b,true),(b,true)]):=K1
def CV:mayWake prog (PD b T todo)=true:=K1
def T8:Gr:=QC (PD b T todo) (Q2 0 0) (Qq 0)
def CW:Qn prog 175 false 17 (T8 b T todo)=some []:=K1
def Iu:Gr:=Qi prog 175 false 17 (T8 b T todo)
def CX:(Qc prog 175 false (Iu b T todo) undef undef).info=some (undef,undef,#[Z8 .enable],[]):=K1
def Iv:Gr:=QC (Iu b T todo) undef undef
def CY:Qn prog 175 false 6 (Iv b T todo)=some []:=K1
def qL:(Qi prog 175 false 6 (Iv b T todo)).status=.finished:=K1
end
end Go.Proofs
end

