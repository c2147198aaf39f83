/- Lemmas. No conditions. -/
import Derived.Test.YtnjljnhoaafkiaaGreatDoorProg
import Derived.Test.YtnjljnhoaafkiaaGreatDoorB01
set_option linter.all false
set_option maxRecDepth 100000
open List
noncomputable section
namespace Go.Proofs
open Go.TM
def Hk:Code->Option Code
 |.seq a b=>match Hk a with|some c=>some c|none=>Hk b
 |.cond _ a b=>match Hk a with|some c=>some c|none=>Hk b
 |.block _ b=>Hk b
 |.loop b=>Hk b
 |.scope b=>Hk b
 |.region id ops d=>if LU ops then some (.region id ops d)else none
 |_=>none
def oh:Code->Nat
 |.region id _ _=>id
 |_=>0
def GC:Code->Array Oper
 |.region _ ops _=>ops
 |_=>#[]
noncomputable def W8:Code:=(Hk (Tryz.f58.body.getD .skip)).getD .skip
def Wr(i:Nat):Oper:=(GC W8).getD i default
def zA:W8=.region (oh W8) (GC W8) false:=K1
def Mb:range (GC W8).size=[0,1,2]:=K1
def Ri:(GC W8)[0]?=some (Wr 0):=K1
def MH:(Wr 0).guard=none:=K1
def Rj:(GC W8)[1]?=some (Wr 1):=K1
def MJ:(Wr 1).guard=none:=K1
def Rk:(GC W8)[2]?=some (Wr 2):=K1
def ML:(Wr 2).guard=none:=K1
def zK:(Wr 0).op=.move (.t 15):=K1
def zL:(Wr 1).op=.move (.t 16):=K1
def zM:(Wr 2).op=.go { callee:=.value (.t 26),args:=#[.tmp 27],argTypes:=#[3] }:=K1
def MW:(Wr 0).dst=some 26:=K1
def MX:(Wr 1).dst=some 27:=K1
def MG:(Wr 2).dst=none:=K1
def NO:(Tryz.prog.funcs[96]?.any λ fd=>fd.body.isSome&&fd.name != "runtime.NumGoroutine")=true:=K1
def NP:(Tryz.prog.funcs[97]?.any λ fd=>fd.body.isSome&&fd.name != "runtime.NumGoroutine")=true:=K1
def NN:(Tryz.prog.funcs[92]?.any λ fd=>fd.body.isSome&&fd.name != "runtime.NumGoroutine")=true:=K1
def O6:(Tryz.prog.funcs[93]?.any λ fd=>fd.body.isSome&&fd.name != "runtime.NumGoroutine")=true:=K1
def gz:C:=(.seq (.reg [.d 4 (.box 92 (.t 0)),.d 5 (.box 3 (.t 1)),.d 6 (.box 3 (.t 2)),.d 7 (.box 53 (.t 3)),.xs 8,.xb 9 false])
 (.seq (.reg [.xd 17 2 4,.d 18 (.call (.func 85) #[(.t 17)]),.d 10 (.alloc 68 #[(.slice none 0 0)]),⟨.st 1 (.t 10) (.t 18),none,none,none⟩])
 (.seq (.reg [.d 11 (.alloc 169 #[(.int .i32 0),(.int .u32 0)])])
 (.seq (.reg [.d 12 (.alloc 176 #[(.int .u64 0),(.int .u32 0)])])
 (.seq (.reg [.d 13 (.alloc 68 #[(.slice none 0 0)])])
 (.seq (.reg [.d 14 (.alloc 4 #[(.bool false)]),⟨.st 1 (.t 14) (.cb false),none,none,none⟩])
 (.seq (.reg [.d 19 (.mkf (.func 86) #[] #[(.t 12),(.t 10),(.t 6),(.t 4),(.t 5),(.t 7),(.t 11),(.t 14),(.t 13)]),.m 15 19])
 (.seq (.seq (.reg [.xl 20 10,.xn 21 20,.xv 22 0])
 (.block 0 (.loop (.seq (.reg [.xc 23 .lss 22 21])
 (.seq (.ite (.t 23) .skip (.exit 0))
 (.seq (.block 1 (.seq (.reg [.m 24 22,.m 16 24])
 (.seq (.reg [.d 25 (.call (.func 96) #[(.t 12),(.ci 1)])])
 (.cd 32 W8))))
 (.reg [.xa 28 22,.m 22 28])))))))
 (.seq (.reg [.d 29 (.call (.func 97) #[(.t 12)])])
 (.seq (.drw [(0,.xl 30 13),(0,.xl 31 14),(0,.m 8 30)] [.m 9 31])
 .ret))))))))))
def Td:Zl Tryz.prog 58 32 gz [.t 8,.t 9]:=.o [] [] Tryz.func58 K1
end Go.Proofs
end

