/- Lemmas. No conditions. -/
import Derived.Test.YtajkaognaiglhaaGreatDoorB11
set_option linter.all false
open Go.Proofs.Tryz (prog)
set_option maxRecDepth 100000
noncomputable section
namespace Go.Proofs
open Go.TM
section
variable(b:Nat)(T:Array Value)(todo:List Item)
def KH:Gr:=XQ (Hc b T todo) (Jh 1 1) (Zx 0)
def NE:JW prog 118 false 103 (KH b T todo)=some []:=K1
def Vi:Gr:=JX prog 118 false 103 (KH b T todo)
def TS:(Q5 prog 118 false (Vi b T todo) (Jh 0 1) (Zx 0)).info=some (Jh 0 1,Zx 0,#[QA b 0],[(b,true)]):=K1
def SN:Gr:=XQ (Vi b T todo) (Jh 0 1) (Zx 0)
def NF:JW prog 118 false 20 (SN b T todo)=some []:=K1
def Vj:Gr:=JX prog 118 false 20 (SN b T todo)
def TU:(Q5 prog 118 false (Vj b T todo) (Jh 0 1) (Zx 0)).info=some (Jh 0 0,Zx 0,#[QD b 0],[(b,true)]):=K1
def SO:Gr:=XQ (Vj b T todo) (Jh 0 1) (Zx 0)
def NG:JW prog 118 false 27 (SO b T todo)=some []:=K1
def P4:Gr:=JX prog 118 false 27 (SO b T todo)
def TV:(Q5 prog 118 false (P4 b T todo) (Jh 0 0) (Zx 0)).info=some (Jh 0 0,Zx 1,#[Wj .disable,QA b 1,QD b 1,Wj .enable],[(b,true),(b,true)]):=K1
def NH:mayWake prog (P4 b T todo)=true:=K1
def KI:Gr:=XQ (P4 b T todo) (Jh 0 0) (Zx 0)
def NI:JW prog 118 false 17 (KI b T todo)=some []:=K1
def SP:Gr:=JX prog 118 false 17 (KI b T todo)
def NJ:(Q5 prog 118 false (SP b T todo) undef undef).info=some (undef,undef,#[Wj .enable],[]):=K1
def SQ:Gr:=XQ (SP b T todo) undef undef
def NK:JW prog 118 false 6 (SQ b T todo)=some []:=K1
def NV:(JX prog 118 false 6 (SQ b T todo)).status=.finished:=K1
end
end Go.Proofs
end

