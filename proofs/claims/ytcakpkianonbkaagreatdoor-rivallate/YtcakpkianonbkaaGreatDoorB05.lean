/- Lemmas. No conditions. -/
import Derived.Test.YtcakpkianonbkaaGreatDoorProg
import Derived.KernelRfl
import Derived.Test.YtcakpkianonbkaaGreatDoorB01
set_option linter.all false
set_option maxRecDepth 100000
open List
noncomputable section
namespace Go.Proofs
open Go.TM
def Qe0:Code->Option Code
 |.seq a b=>match Qe0 a with|some c=>some c|none=>Qe0 b
 |.cond _ a b=>match Qe0 a with|some c=>some c|none=>Qe0 b
 |.block _ b=>Qe0 b
 |.loop b=>Qe0 b
 |.scope b=>Qe0 b
 |.region id ops d=>if Zrq ops then some (.region id ops d)else none
 |_=>none
def Ztz:Code->Nat
 |.region id _ _=>id
 |_=>0
def Qzj:Code->Array Oper
 |.region _ ops _=>ops
 |_=>#[]
noncomputable def Qad:Code:=(Qe0 (Tryz.f59.body.getD .skip)).getD .skip
def Wu(i:Nat):Oper:=(Qzj Qad).getD i default
def Qz5:Qad=.region (Ztz Qad) (Qzj Qad) false:=by kernel_rfl
def Q27:range (Qzj Qad).size=[0,1,2]:=by kernel_rfl
def Q8p:(Qzj Qad)[0]?=some (Wu 0):=by kernel_rfl
def Q4k:(Wu 0).guard=none:=by kernel_rfl
def Q8q:(Qzj Qad)[1]?=some (Wu 1):=by kernel_rfl
def Q4l:(Wu 1).guard=none:=by kernel_rfl
def Q8r:(Qzj Qad)[2]?=some (Wu 2):=by kernel_rfl
def Q4m:(Wu 2).guard=none:=by kernel_rfl
def Q0g:(Wu 0).op=.move (.t 15):=by kernel_rfl
def Q0h:(Wu 1).op=.move (.t 16):=by kernel_rfl
def Q0i:(Wu 2).op=.go { callee:=.value (.t 26),args:=#[.tmp 27],argTypes:=#[3] }:=by kernel_rfl
def Q4h:(Wu 0).dst=some 26:=by kernel_rfl
def Q4i:(Wu 1).dst=some 27:=by kernel_rfl
def Q4j:(Wu 2).dst=none:=by kernel_rfl
def Q7i:(Tryz.prog.funcs[96]?.any λ fd=>fd.body.isSome&&fd.name != "runtime.NumGoroutine")=true:=by kernel_rfl
def Q7j:(Tryz.prog.funcs[97]?.any λ fd=>fd.body.isSome&&fd.name != "runtime.NumGoroutine")=true:=by kernel_rfl
def Q7h:(Tryz.prog.funcs[92]?.any λ fd=>fd.body.isSome&&fd.name != "runtime.NumGoroutine")=true:=by kernel_rfl
def Qj5:(Tryz.prog.funcs[93]?.any λ fd=>fd.body.isSome&&fd.name != "runtime.NumGoroutine")=true:=by kernel_rfl
def Zle:C:=(.seq (.reg [.d 4 (.box 90 (.t 0)),.d 5 (.box 3 (.t 1)),.d 6 (.box 3 (.t 2)),.d 7 (.box 39 (.t 3)),.xs 8,.xb 9 false])
 (.seq (.reg [.xd 17 2 4,.d 18 (.call (.func 85) #[(.t 17)]),.d 10 (.alloc 70 #[(.slice none 0 0)]),⟨.st 1 (.t 10) (.t 18),none,none,none⟩])
 (.seq (.reg [.d 11 (.alloc 168 #[(.int .i32 0),(.int .u32 0)])])
 (.seq (.reg [.d 12 (.alloc 175 #[(.int .u64 0),(.int .u32 0)])])
 (.seq (.reg [.d 13 (.alloc 70 #[(.slice none 0 0)])])
 (.seq (.reg [.d 14 (.alloc 4 #[(.bool false)]),⟨.st 1 (.t 14) (.cb false),none,none,none⟩])
 (.seq (.reg [.d 19 (.mkf (.func 86) #[] #[(.t 12),(.t 10),(.t 6),(.t 4),(.t 5),(.t 7),(.t 11),(.t 14),(.t 13)]),.m 15 19])
 (.seq (.seq (.reg [.xl 20 10,.xn 21 20,.xv 22 0])
 (.block 0 (.loop (.seq (.reg [.xc 23 .lss 22 21])
 (.seq (.ite (.t 23) .skip (.exit 0))
 (.seq (.block 1 (.seq (.reg [.m 24 22,.m 16 24])
 (.seq (.reg [.d 25 (.call (.func 96) #[(.t 12),(.ci 1)])])
 (.cd 32 Qad))))
 (.reg [.xa 28 22,.m 22 28])))))))
 (.seq (.reg [.d 29 (.call (.func 97) #[(.t 12)])])
 (.seq (.drw [(0,.xl 30 13),(0,.xl 31 14),(0,.m 8 30)] [.m 9 31])
 .ret))))))))))
def Qsr:Q5 Tryz.prog 59 32 Zle [.t 8,.t 9]:=.o [] [] Tryz.func59 (by kernel_rfl)
end Go.Proofs
end
