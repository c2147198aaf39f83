/- Lemmas. No conditions. -/
import Derived.Test.YtcakpkianonbkaaGreatDoorProg
import Derived.Test.YtcakpkianonbkaaGreatDoorB01
set_option linter.all false
set_option maxRecDepth 100000
open List
noncomputable section
namespace Go.Proofs
open Go.TM
def HL:Code->Option Code
 |.seq a b=>match HL a with|some c=>some c|none=>HL b
 |.cond _ a b=>match HL a with|some c=>some c|none=>HL b
 |.block _ b=>HL b
 |.loop b=>HL b
 |.scope b=>HL b
 |.region id ops d=>if NJ ops then some (.region id ops d)else none
 |_=>none
def eD:Code->Nat
 |.region id _ _=>id
 |_=>0
def P7:Code->Array Oper
 |.region _ ops _=>ops
 |_=>#[]
noncomputable def H9:Code:=(HL (Tryz.f59.body.getD .skip)).getD .skip
def W1(i:Nat):Oper:=(P7 H9).getD i default
def Rm:H9=.region (eD H9) (P7 H9) false:=K1
def Aj:range (P7 H9).size=[0,1,2]:=K1
def Cd:(P7 H9)[0]?=some (W1 0):=K1
def AA:(W1 0).guard=none:=K1
def Ce:(P7 H9)[1]?=some (W1 1):=K1
def AB:(W1 1).guard=none:=K1
def Cf:(P7 H9)[2]?=some (W1 2):=K1
def AC:(W1 2).guard=none:=K1
def R7:(W1 0).op=.move (.t 15):=K1
def R8:(W1 1).op=.move (.t 16):=K1
def R9:(W1 2).op=.go { callee:=.value (.t 26),args:=#[.tmp 27],argTypes:=#[3] }:=K1
def Ax:(W1 0).dst=some 26:=K1
def Ay:(W1 1).dst=some 27:=K1
def Az:(W1 2).dst=none:=K1
def Bw:(Tryz.prog.funcs[96]?.any λ fd=>fd.body.isSome&&fd.name != "runtime.NumGoroutine")=true:=K1
def Bx:(Tryz.prog.funcs[97]?.any λ fd=>fd.body.isSome&&fd.name != "runtime.NumGoroutine")=true:=K1
def Bv:(Tryz.prog.funcs[92]?.any λ fd=>fd.body.isSome&&fd.name != "runtime.NumGoroutine")=true:=K1
def Tx:(Tryz.prog.funcs[93]?.any λ fd=>fd.body.isSome&&fd.name != "runtime.NumGoroutine")=true:=K1
def oQ:C:=(.seq (.reg [.d 4 (.box 90 (.t 0)),.d 5 (.box 3 (.t 1)),.d 6 (.box 3 (.t 2)),.d 7 (.box 39 (.t 3)),.xs 8,.xb 9 false])
 (.seq (.reg [.xd 17 2 4,.d 18 (.call (.func 85) #[(.t 17)]),.d 10 (.alloc 70 #[(.slice none 0 0)]),⟨.st 1 (.t 10) (.t 18),none,none,none⟩])
 (.seq (.reg [.d 11 (.alloc 168 #[(.int .i32 0),(.int .u32 0)])])
 (.seq (.reg [.d 12 (.alloc 175 #[(.int .u64 0),(.int .u32 0)])])
 (.seq (.reg [.d 13 (.alloc 70 #[(.slice none 0 0)])])
 (.seq (.reg [.d 14 (.alloc 4 #[(.bool false)]),⟨.st 1 (.t 14) (.cb false),none,none,none⟩])
 (.seq (.reg [.d 19 (.mkf (.func 86) #[] #[(.t 12),(.t 10),(.t 6),(.t 4),(.t 5),(.t 7),(.t 11),(.t 14),(.t 13)]),.m 15 19])
 (.seq (.seq (.reg [.xl 20 10,.xn 21 20,.xv 22 0])
 (.block 0 (.loop (.seq (.reg [.xc 23 .lss 22 21])
 (.seq (.ite (.t 23) .skip (.exit 0))
 (.seq (.block 1 (.seq (.reg [.m 24 22,.m 16 24])
 (.seq (.reg [.d 25 (.call (.func 96) #[(.t 12),(.ci 1)])])
 (.cd 32 H9))))
 (.reg [.xa 28 22,.m 22 28])))))))
 (.seq (.reg [.d 29 (.call (.func 97) #[(.t 12)])])
 (.seq (.drw [(0,.xl 30 13),(0,.xl 31 14),(0,.m 8 30)] [.m 9 31])
 .ret))))))))))
def Sj:Q4 Tryz.prog 59 32 oQ [.t 8,.t 9]:=.o [] [] Tryz.func59 K1
end Go.Proofs
end

