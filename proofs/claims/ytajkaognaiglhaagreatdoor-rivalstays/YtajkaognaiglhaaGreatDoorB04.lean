/- Lemmas. No conditions. -/
import Derived.Test.YtajkaognaiglhaaGreatDoorProg
import Derived.Test.YtajkaognaiglhaaGreatDoorB01
set_option linter.all false
set_option maxRecDepth 100000
open List
noncomputable section
namespace Go.TM
open Go.Proofs
def Hl:Code->Option Code
 |.seq a b=>match Hl a with|some c=>some c|none=>Hl b
 |.cond _ a b=>match Hl a with|some c=>some c|none=>Hl b
 |.block _ b=>Hl b
 |.loop b=>Hl b
 |.scope b=>Hl b
 |.region id ops d=>if ED ops then some (.region id ops d)else none
 |_=>none
def qn:Code->Nat
 |.region id _ _=>id
 |_=>0
def GO:Code->Array Oper
 |.region _ ops _=>ops
 |_=>#[]
def XV:Code:=(Hl (Tryz.f28.body.getD .skip)).getD .skip
def Wz(i:Nat):Oper:=(GO XV).getD i default
def RO:XV=.region (qn XV) (GO XV) false:=K1
def At:range (GO XV).size=[0,1,2]:=K1
def C4:(GO XV)[0]?=some (Wz 0):=K1
def AN:(Wz 0).guard=none:=K1
def C5:(GO XV)[1]?=some (Wz 1):=K1
def AO:(Wz 1).guard=none:=K1
def C6:(GO XV)[2]?=some (Wz 2):=K1
def AP:(Wz 2).guard=none:=K1
def A0:(Wz 0).op=.move (.t 15):=K1
def A3:(Wz 1).op=.move (.t 16):=K1
def A4:(Wz 2).op=.go { callee:=.value (.t 26),args:=#[.tmp 27],argTypes:=#[3] }:=K1
def AK:(Wz 0).dst=some 26:=K1
def AL:(Wz 1).dst=some 27:=K1
def AM:(Wz 2).dst=none:=K1
def BO:(Tryz.prog.funcs[69]?.any λ fd=>fd.body.isSome&&fd.name != "runtime.NumGoroutine")=true:=K1
def BP:(Tryz.prog.funcs[70]?.any λ fd=>fd.body.isSome&&fd.name != "runtime.NumGoroutine")=true:=K1
def BN:(Tryz.prog.funcs[65]?.any λ fd=>fd.body.isSome&&fd.name != "runtime.NumGoroutine")=true:=K1
def KZ:(Tryz.prog.funcs[66]?.any λ fd=>fd.body.isSome&&fd.name != "runtime.NumGoroutine")=true:=K1
def I4:C:=(.sr [.d 4 (.box 64 (.t 0)),.d 5 (.box 3 (.t 1)),.d 6 (.box 3 (.t 2)),.d 7 (.box 38 (.t 3)),.xs 8,.xb 9 false]
 (.sr [.xd 17 2 4,.d 18 (.call (.func 59) #[(.t 17)]),.d 10 (.alloc 26 #[.nl]),⟨.st 1 (.t 10) (.t 18),none,none,none⟩]
 (.sr [.d 11 (.alloc 111 #[(.int .i32 0),(.int .u32 0)])]
 (.sr [.d 12 (.alloc 118 #[(.int .u64 0),(.int .u32 0)])]
 (.sr [.d 13 (.alloc 26 #[.nl])]
 (.sr [.d 14 (.alloc 4 #[(.bool false)]),⟨.st 1 (.t 14) (.cb false),none,none,none⟩]
 (.sr [.d 19 (.mkf (.func 60) #[] #[(.t 12),(.t 10),(.t 6),(.t 4),(.t 5),(.t 7),(.t 11),(.t 14),(.t 13)]),.m 15 19]
 (.seq (.sr [.xl 20 10,.xn 21 20,.xv 22 0]
 (.block 0 (.loop (.sr [.xc 23 .lss 22 21]
 (.seq (.ite (.t 23) .skip (.exit 0))
 (.seq (.block 1 (.sr [.m 24 22,.m 16 24]
 (.sr [.d 25 (.call (.func 69) #[(.t 12),(.ci 1)])]
 (.cd 32 XV))))
 (.reg [.xa 28 22,.m 22 28])))))))
 (.sr [.d 29 (.call (.func 70) #[(.t 12)])]
 (.seq (.drw [(0,.xl 30 13),(0,.xl 31 14),(0,.m 8 30)] [.m 9 31])
 .ret))))))))))
def Yr:Zg Tryz.prog 28 32 I4 [.t 8,.t 9]:=.o [] [] Tryz.func28 K1
