/- Lemmas. No conditions. -/
import Derived.Test.YtajkaognaiglhaaGreatDoorProg
import Derived.Test.YtajkaognaiglhaaGreatDoorB01
set_option linter.all false
set_option maxRecDepth 100000
open List
noncomputable section
namespace Go.Proofs
open Go.TM
def Hi:Code->Option Code
 |.seq a b=>match Hi a with|some c=>some c|none=>Hi b
 |.cond _ a b=>match Hi a with|some c=>some c|none=>Hi b
 |.block _ b=>Hi b
 |.loop b=>Hi b
 |.scope b=>Hi b
 |.region id ops d=>if EQ ops then some (.region id ops d)else none
 |_=>none
def q_:Code->Nat
 |.region id _ _=>id
 |_=>0
def GP:Code->Array Oper
 |.region _ ops _=>ops
 |_=>#[]
def XS:Code:=(Hi (Tryz.f28.body.getD .skip)).getD .skip
def Wz(i:Nat):Oper:=(GP XS).getD i default
def A0:XS=.region (q_ XS) (GP XS) false:=K1
def AR:range (GP XS).size=[0,1,2]:=K1
def Cg:(GP XS)[0]?=some (Wz 0):=K1
def Bb:(Wz 0).guard=none:=K1
def Ch:(GP XS)[1]?=some (Wz 1):=K1
def Bc:(Wz 1).guard=none:=K1
def Ci:(GP XS)[2]?=some (Wz 2):=K1
def Be:(Wz 2).guard=none:=K1
def RD:(Wz 0).op=.move (.t 15):=K1
def RE:(Wz 1).op=.move (.t 16):=K1
def RF:(Wz 2).op=.go { callee:=.value (.t 26),args:=#[.tmp 27],argTypes:=#[3] }:=K1
def B7:(Wz 0).dst=some 26:=K1
def B8:(Wz 1).dst=some 27:=K1
def B9:(Wz 2).dst=none:=K1
def BG:(Tryz.prog.funcs[69]?.any λ fd=>fd.body.isSome&&fd.name != "runtime.NumGoroutine")=true:=K1
def BI:(Tryz.prog.funcs[70]?.any λ fd=>fd.body.isSome&&fd.name != "runtime.NumGoroutine")=true:=K1
def BF:(Tryz.prog.funcs[65]?.any λ fd=>fd.body.isSome&&fd.name != "runtime.NumGoroutine")=true:=K1
def KT:(Tryz.prog.funcs[66]?.any λ fd=>fd.body.isSome&&fd.name != "runtime.NumGoroutine")=true:=K1
def IT:C:=(.seq (.reg [.d 4 (.box 64 (.t 0)),.d 5 (.box 3 (.t 1)),.d 6 (.box 3 (.t 2)),.d 7 (.box 38 (.t 3)),.xs 8,.xb 9 false])
 (.seq (.reg [.xd 17 2 4,.d 18 (.call (.func 59) #[(.t 17)]),.d 10 (.alloc 26 #[(.slice none 0 0)]),⟨.st 1 (.t 10) (.t 18),none,none,none⟩])
 (.seq (.reg [.d 11 (.alloc 111 #[(.int .i32 0),(.int .u32 0)])])
 (.seq (.reg [.d 12 (.alloc 118 #[(.int .u64 0),(.int .u32 0)])])
 (.seq (.reg [.d 13 (.alloc 26 #[(.slice none 0 0)])])
 (.seq (.reg [.d 14 (.alloc 4 #[(.bool false)]),⟨.st 1 (.t 14) (.cb false),none,none,none⟩])
 (.seq (.reg [.d 19 (.mkf (.func 60) #[] #[(.t 12),(.t 10),(.t 6),(.t 4),(.t 5),(.t 7),(.t 11),(.t 14),(.t 13)]),.m 15 19])
 (.seq (.seq (.reg [.xl 20 10,.xn 21 20,.xv 22 0])
 (.block 0 (.loop (.seq (.reg [.xc 23 .lss 22 21])
 (.seq (.ite (.t 23) .skip (.exit 0))
 (.seq (.block 1 (.seq (.reg [.m 24 22,.m 16 24])
 (.seq (.reg [.d 25 (.call (.func 69) #[(.t 12),(.ci 1)])])
 (.cd 32 XS))))
 (.reg [.xa 28 22,.m 22 28])))))))
 (.seq (.reg [.d 29 (.call (.func 70) #[(.t 12)])])
 (.seq (.drw [(0,.xl 30 13),(0,.xl 31 14),(0,.m 8 30)] [.m 9 31])
 .ret))))))))))
def Yy:Zg Tryz.prog 28 32 IT [.t 8,.t 9]:=.o [] [] Tryz.func28 K1
end Go.Proofs
end

