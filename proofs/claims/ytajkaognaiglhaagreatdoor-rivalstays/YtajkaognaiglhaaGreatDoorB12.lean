/- Lemmas. No conditions. -/
import Derived.Test.YtajkaognaiglhaaGreatDoorB11
set_option linter.all false
set_option maxRecDepth 100000
open Go.Proofs.Tryz (prog)
noncomputable section
namespace Go.TM
open Go.Proofs
section
variable(b:Nat)(T:Array Value)(todo:List Item)
def KE:Gr:=XT (Hg b T todo) (Jh 1 1) (Zx 0)
def NA:JX prog 118 false 103 (KE b T todo)=some []:=K1
def Vf:Gr:=JY prog 118 false 103 (KE b T todo)
def TE:(Q5 prog 118 false (Vf b T todo) (Jh 0 1) (Zx 0)).info=some (Jh 0 1,Zx 0,#[QA b 0],[(b,true)]):=K1
def Sr:Gr:=XT (Vf b T todo) (Jh 0 1) (Zx 0)
def NB:JX prog 118 false 20 (Sr b T todo)=some []:=K1
def Vg:Gr:=JY prog 118 false 20 (Sr b T todo)
def TF:(Q5 prog 118 false (Vg b T todo) (Jh 0 1) (Zx 0)).info=some (Jh 0 0,Zx 0,#[QD b 0],[(b,true)]):=K1
def Ss:Gr:=XT (Vg b T todo) (Jh 0 1) (Zx 0)
def NC:JX prog 118 false 27 (Ss b T todo)=some []:=K1
def P3:Gr:=JY prog 118 false 27 (Ss b T todo)
def TG:(Q5 prog 118 false (P3 b T todo) (Jh 0 0) (Zx 0)).info=some (Jh 0 0,Zx 1,#[Wj .disable,QA b 1,QD b 1,Wj .enable],[(b,true),(b,true)]):=K1
def ND:mayWake prog (P3 b T todo)=true:=K1
def KF:Gr:=XT (P3 b T todo) (Jh 0 0) (Zx 0)
def NE:JX prog 118 false 17 (KF b T todo)=some []:=K1
def Su:Gr:=JY prog 118 false 17 (KF b T todo)
def NF:(Q5 prog 118 false (Su b T todo) undef undef).info=some (undef,undef,#[Wj .enable],[]):=K1
def Sv:Gr:=XT (Su b T todo) undef undef
def NG:JX prog 118 false 6 (Sv b T todo)=some []:=K1
def NM:(JY prog 118 false 6 (Sv b T todo)).status=.finished:=K1
