/- Lemmas. No conditions. -/
import Derived.Test.YtnjljnhoaafkiaaGreatDoorProg
import Derived.Test.YtnjljnhoaafkiaaGreatDoorB01
set_option linter.all false
set_option maxRecDepth 100000
open List
noncomputable section
namespace Go.TM
open Go.Proofs
def Hm:Code->Option Code
 |.seq a b=>match Hm a with|some c=>some c|none=>Hm b
 |.cond _ a b=>match Hm a with|some c=>some c|none=>Hm b
 |.block _ b=>Hm b
 |.loop b=>Hm b
 |.scope b=>Hm b
 |.region id ops d=>if Uq ops then some (.region id ops d)else none
 |_=>none
def kH:Code->Nat
 |.region id _ _=>id
 |_=>0
def GF:Code->Array Oper
 |.region _ ops _=>ops
 |_=>#[]
def HF:Code:=(Hm (Tryz.f58.body.getD .skip)).getD .skip
def Wr(i:Nat):Oper:=(GF HF).getD i default
def Mf:range (GF HF).size=[0,1,2]:=K1
def NH:(GF HF)[0]?=some (Wr 0):=K1
def MZ:(Wr 0).guard=none:=K1
def Ri:(GF HF)[1]?=some (Wr 1):=K1
def M_:(Wr 1).guard=none:=K1
def Rj:(GF HF)[2]?=some (Wr 2):=K1
def N0:(Wr 2).guard=none:=K1
def zK:(Wr 0).op=.move (.t 15):=K1
def zL:(Wr 1).op=.move (.t 16):=K1
def zM:(Wr 2).op=.go { callee:=.value (.t 26),args:=#[.tmp 27],argTypes:=#[3] }:=K1
def MW:(Wr 0).dst=some 26:=K1
def MX:(Wr 1).dst=some 27:=K1
def MY:(Wr 2).dst=none:=K1
def NN:(Tryz.prog.funcs[96]?.any λ fd=>fd.body.isSome&&fd.name != "runtime.NumGoroutine")=true:=K1
def NO:(Tryz.prog.funcs[97]?.any λ fd=>fd.body.isSome&&fd.name != "runtime.NumGoroutine")=true:=K1
def NM:(Tryz.prog.funcs[92]?.any λ fd=>fd.body.isSome&&fd.name != "runtime.NumGoroutine")=true:=K1
def Ob:(Tryz.prog.funcs[93]?.any λ fd=>fd.body.isSome&&fd.name != "runtime.NumGoroutine")=true:=K1
def OW:Zj Tryz.prog 58 32 (cz Tryz.prog Tryz.f58 [] [] []) [.t 8,.t 9]:=.z Tryz.func58
