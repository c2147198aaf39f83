/- Lemmas. No conditions. -/
import Derived.Test.YtnpfcnfhfkflhaaGreatDoorProg
import Derived.Test.YtnpfcnfhfkflhaaGreatDoorB01
set_option linter.all false
set_option maxRecDepth 100000
open List
noncomputable section
namespace Go.Proofs
open Go.TM
def Hb:Code->Option Code
 |.seq a b=>match Hb a with|some c=>some c|none=>Hb b
 |.cond _ a b=>match Hb a with|some c=>some c|none=>Hb b
 |.block _ b=>Hb b
 |.loop b=>Hb b
 |.scope b=>Hb b
 |.region id ops d=>if DT ops then some (.region id ops d)else none
 |_=>none
def wJ:Code->Nat
 |.region id _ _=>id
 |_=>0
def GH:Code->Array Oper
 |.region _ ops _=>ops
 |_=>#[]
noncomputable def XZ:Code:=(Hb (Tryz.f95.body.getD .skip)).getD .skip
def Wv(i:Nat):Oper:=(GH XZ).getD i default
def Cu:XZ=.region (wJ XZ) (GH XZ) false:=K1
def qZ:range (GH XZ).size=[0,1,2]:=K1
def vg:(GH XZ)[0]?=some (Wv 0):=K1
def Bf:(Wv 0).guard=none:=K1
def p_:(GH XZ)[1]?=some (Wv 1):=K1
def vz:(Wv 1).guard=none:=K1
def qu:(GH XZ)[2]?=some (Wv 2):=K1
def MW:(Wv 2).guard=none:=K1
def Au:(Wv 0).op=.move (.t 15):=K1
def Ny:(Wv 1).op=.move (.t 16):=K1
def RO:(Wv 2).op=.go { callee:=.value (.t 26),args:=#[.tmp 27],argTypes:=#[3] }:=K1
def Bx:(Wv 0).dst=some 26:=K1
def zo:(Wv 1).dst=some 27:=K1
def vx:(Wv 2).dst=none:=K1
def Cb:(Tryz.prog.funcs[149]?.any λ fd=>fd.body.isSome&&fd.name != "runtime.NumGoroutine")=true:=K1
def jd:(Tryz.prog.funcs[150]?.any λ fd=>fd.body.isSome&&fd.name != "runtime.NumGoroutine")=true:=K1
def BK:(Tryz.prog.funcs[145]?.any λ fd=>fd.body.isSome&&fd.name != "runtime.NumGoroutine")=true:=K1
def Td:(Tryz.prog.funcs[146]?.any λ fd=>fd.body.isSome&&fd.name != "runtime.NumGoroutine")=true:=K1
def gr:C:=(.seq (.reg [.d 4 (.box 86 (.t 0)),.d 5 (.box 3 (.t 1)),.d 6 (.box 3 (.t 2)),.d 7 (.box 51 (.t 3)),.xs 8,.xb 9 false])
 (.seq (.reg [.xd 17 2 4,.d 18 (.call (.func 139) #[(.t 17)]),.d 10 (.alloc 68 #[(.slice none 0 0)]),⟨.st 1 (.t 10) (.t 18),none,none,none⟩])
 (.seq (.reg [.d 11 (.alloc 202 #[(.int .i32 0),(.int .u32 0)])])
 (.seq (.reg [.d 12 (.alloc 209 #[(.int .u64 0),(.int .u32 0)])])
 (.seq (.reg [.d 13 (.alloc 68 #[(.slice none 0 0)])])
 (.seq (.reg [.d 14 (.alloc 4 #[(.bool false)]),⟨.st 1 (.t 14) (.cb false),none,none,none⟩])
 (.seq (.reg [.d 19 (.mkf (.func 140) #[] #[(.t 12),(.t 10),(.t 6),(.t 4),(.t 5),(.t 7),(.t 11),(.t 14),(.t 13)]),.m 15 19])
 (.seq (.seq (.reg [.xl 20 10,.xn 21 20,.xv 22 0])
 (.block 0 (.loop (.seq (.reg [.xc 23 .lss 22 21])
 (.seq (.ite (.t 23) .skip (.exit 0))
 (.seq (.block 1 (.seq (.reg [.m 24 22,.m 16 24])
 (.seq (.reg [.d 25 (.call (.func 149) #[(.t 12),(.ci 1)])])
 (.cd 32 XZ))))
 (.reg [.xa 28 22,.m 22 28])))))))
 (.seq (.reg [.d 29 (.call (.func 150) #[(.t 12)])])
 (.seq (.drw [(0,.xl 30 13),(0,.xl 31 14),(0,.m 8 30)] [.m 9 31])
 .ret))))))))))
def Oq:Zf Tryz.prog 95 32 gr [.t 8,.t 9]:=.o [] [] Tryz.func95 K1
end Go.Proofs
end

