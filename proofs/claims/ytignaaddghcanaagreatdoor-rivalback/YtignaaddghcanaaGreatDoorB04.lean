/- Lemmas. No conditions. -/
import Derived.Test.YtignaaddghcanaaGreatDoorProg
import Derived.Test.YtignaaddghcanaaGreatDoorB01
set_option linter.all false
set_option maxRecDepth 100000
open List
noncomputable section
namespace Go.TM
open Go.Proofs
def Hb:Code->Option Code
 |.seq a b=>match Hb a with|some c=>some c|none=>Hb b
 |.cond _ a b=>match Hb a with|some c=>some c|none=>Hb b
 |.block _ b=>Hb b
 |.loop b=>Hb b
 |.scope b=>Hb b
 |.region id ops d=>if LG ops then some (.region id ops d)else none
 |_=>none
def yg:Code->Nat
 |.region id _ _=>id
 |_=>0
def Gt:Code->Array Oper
 |.region _ ops _=>ops
 |_=>#[]
noncomputable def W6:Code:=(Hb (Tryz.f61.body.getD .skip)).getD .skip
def Wp(i:Nat):Oper:=(Gt W6).getD i default
def za:W6=.region (yg W6) (Gt W6) false:=K1
def LV:range (Gt W6).size=[0,1,2]:=K1
def NZ:(Gt W6)[0]?=some (Wp 0):=K1
def MG:(Wp 0).guard=none:=K1
def N_:(Gt W6)[1]?=some (Wp 1):=K1
def MH:(Wp 1).guard=none:=K1
def R0:(Gt W6)[2]?=some (Wp 2):=K1
def MJ:(Wp 2).guard=none:=K1
def zp:(Wp 0).op=.move (.t 15):=K1
def zq:(Wp 1).op=.move (.t 16):=K1
def zr:(Wp 2).op=.go { callee:=.value (.t 26),args:=#[.tmp 27],argTypes:=#[3] }:=K1
def MD:(Wp 0).dst=some 26:=K1
def ME:(Wp 1).dst=some 27:=K1
def MF:(Wp 2).dst=none:=K1
def Nw:(Tryz.prog.funcs[97]?.any λ fd=>fd.body.isSome&&fd.name != "runtime.NumGoroutine")=true:=K1
def Ny:(Tryz.prog.funcs[98]?.any λ fd=>fd.body.isSome&&fd.name != "runtime.NumGoroutine")=true:=K1
def Nv:(Tryz.prog.funcs[93]?.any λ fd=>fd.body.isSome&&fd.name != "runtime.NumGoroutine")=true:=K1
def O0:(Tryz.prog.funcs[94]?.any λ fd=>fd.body.isSome&&fd.name != "runtime.NumGoroutine")=true:=K1
def gE:C:=(.sr [.d 4 (.box 111 (.t 0)),.d 5 (.box 3 (.t 1)),.d 6 (.box 3 (.t 2)),.d 7 (.box 56 (.t 3)),.xs 8,.xb 9 false]
 (.sr [.xd 17 2 4,.d 18 (.call (.func 86) #[(.t 17)]),.d 10 (.alloc 49 #[.nl]),⟨.st 1 (.t 10) (.t 18),none,none,none⟩]
 (.sr [.d 11 (.alloc 166 #[(.int .i32 0),(.int .u32 0)])]
 (.sr [.d 12 (.alloc 173 #[(.int .u64 0),(.int .u32 0)])]
 (.sr [.d 13 (.alloc 49 #[.nl])]
 (.sr [.d 14 (.alloc 4 #[(.bool false)]),⟨.st 1 (.t 14) (.cb false),none,none,none⟩]
 (.sr [.d 19 (.mkf (.func 87) #[] #[(.t 12),(.t 10),(.t 6),(.t 4),(.t 5),(.t 7),(.t 11),(.t 14),(.t 13)]),.m 15 19]
 (.seq (.sr [.xl 20 10,.xn 21 20,.xv 22 0]
 (.block 0 (.loop (.sr [.xc 23 .lss 22 21]
 (.seq (.ite (.t 23) .skip (.exit 0))
 (.seq (.block 1 (.sr [.m 24 22,.m 16 24]
 (.sr [.d 25 (.call (.func 97) #[(.t 12),(.ci 1)])]
 (.cd 32 W6))))
 (.reg [.xa 28 22,.m 22 28])))))))
 (.sr [.d 29 (.call (.func 98) #[(.t 12)])]
 (.seq (.drw [(0,.xl 30 13),(0,.xl 31 14),(0,.m 8 30)] [.m 9 31])
 .ret))))))))))
def OC:Zk Tryz.prog 61 32 gE [.t 8,.t 9]:=.o [] [] Tryz.func61 K1
