/- A part of the proof: lemmas that the last text uses. No conditions of its own. -/
import Derived.Test.YtebpcmdnecenlaaGreatProg
import Derived.KernelRfl
import Derived.Test.YtebpcmdnecenlaaGreatH02
set_option linter.unusedSimpArgs false
set_option linter.unusedVariables false
namespace Go.Proofs
open Go.TM
set_option maxRecDepth 100000
noncomputable def Tryz.c17:C:=(.seq (.reg [.d 6 (.box 26 (.t 0)),.d 12 (.mv (.cb false))])
 (.seq (.seq (.reg [.d 23 (.ldn 3 (.t 6)),.d 24 (.call (.func 48) #[(.t 23)]),.d 25 (.not (.t 24))])
 (.ite (.t 25) (.seq (.reg [.d 26 (.call (.func 26) #[]),.m 12 26])
 .ret) .skip))
 (.seq (.drw [(0,.d 27 (.ldn 3 (.t 6))),(0,.m 28 1),(1,.d 29 (.call (.func 49) #[(.t 27),(.t 28)])),(0,.d 30 (.ldn 3 (.t 6))),(0,.m 31 2)] [.d 32 (.call (.func 49) #[(.t 30),(.t 31)]),.m 13 29,.m 14 32])
 (.seq (.drw [(0,.d 33 (.ldn 3 (.t 6))),(0,.m 34 13),(0,.m 35 3),(0,.d 37 (.ldn 3 (.t 6))),(0,.m 38 14),(0,.m 39 4),(2,.d 36 (.call (.func 50) #[(.t 33),(.t 34),(.t 35)]))] [.d 40 (.call (.func 50) #[(.t 37),(.t 38),(.t 39)]),.m 15 36,.m 16 40])
 (.seq (.reg [.d 42 (.ldn 3 (.t 6)),.m 43 13,.m 44 15,.m 45 14,.m 46 16,.d 47 (.call (.func 41) #[(.t 42),(.t 43),(.t 44),(.t 45),(.t 46)]),.m 41 47,.d 48 (.ext (.t 41) 0),.d 49 (.ext (.t 41) 1),.d 17 (.alloc 49 #[(.int .i64 0),(.int .i64 0)]),⟨.st 2 (.t 17) (.t 48),none,none,none⟩,.m 18 49])
 (.seq (.cd 119 (rgAt Tryz.f17 6))
 (.seq (.cd 119 (rgAt Tryz.f17 7))
 (.seq (.reg [.m 78 18,.d 79 (.cmp .eql (.t 78) (.ci 0)),.m 80 79,.u 81 80 true (.mv (.t 20)),.u 82 80 true (.cmp .eql (.t 81) (.ci 0)),.d 83 (.pick (.t 80) (.t 82) (.cb false)),.m 84 83,.u 85 84 true (.mv (.t 22)),.u 86 84 true (.cmp .eql (.t 85) (.ci 0)),.d 87 (.pick (.t 84) (.t 86) (.cb false)),.m 88 87,.u 89 88 true (.off 0 (.t 19)),.u 90 88 true (.ld (.t 89)),.u 91 88 true (.off 0 (.t 17)),.u 92 88 true (.ld (.t 91)),.u 93 88 true (.cmp .leq (.t 90) (.t 92)),.d 94 (.pick (.t 88) (.t 93) (.cb false)),.m 95 94,.u 96 95 true (.off 1 (.t 19)),.u 97 95 true (.ld (.t 96)),.u 98 95 true (.off 1 (.t 17)),.u 99 95 true (.ld (.t 98)),.u 100 95 true (.cmp .leq (.t 97) (.t 99)),.d 101 (.pick (.t 95) (.t 100) (.cb false)),.m 102 101,.u 103 102 true (.off 0 (.t 21)),.u 104 102 true (.ld (.t 103)),.u 105 102 true (.off 0 (.t 17)),.u 106 102 true (.ld (.t 105)),.u 107 102 true (.cmp .leq (.t 104) (.t 106)),.d 108 (.pick (.t 102) (.t 107) (.cb false)),.m 109 108,.u 110 109 true (.off 1 (.t 21)),.u 111 109 true (.ld (.t 110)),.u 112 109 true (.off 1 (.t 17)),.u 113 109 true (.ld (.t 112)),.u 114 109 true (.cmp .leq (.t 111) (.t 113)),.d 115 (.pick (.t 109) (.t 114) (.cb false)),.m 116 115,.u 117 116 true (.call (.func 26) #[]),.d 118 (.pick (.t 116) (.t 117) (.cb false)),.m 12 118])
 .ret))))))))
theorem Tryz.k17:FnOk Tryz.prog 17 119 Tryz.c17 [.t 12]:=.o [] [29,32] Tryz.func17 (by kernel_rfl)
def Tryz.c48:C:=(.seq (.reg [.d 1 (.box 26 (.t 0)),.d 2 (.mv (.cb false))])
 (.seq (.reg [.d 3 (.ldn 3 (.t 1)),.d 4 (.call (.func 24) #[(.t 3)]),.d 5 (.not (.t 4)),.m 6 5,.u 7 6 true (.ldn 3 (.t 1)),.u 8 6 true (.call (.func 30) #[(.t 7)]),.u 9 6 true (.cmp .eql (.t 8) (.ci 0)),.d 10 (.pick (.t 6) (.t 9) (.cb false)),.m 2 10])
 .ret))
theorem Tryz.k48:FnOk Tryz.prog 48 11 Tryz.c48 [.t 2]:=.o [] [] Tryz.func48 (by kernel_rfl)
def Tryz.c49:C:=(.seq (.reg [.d 2 (.box 26 (.t 0)),.d 4 (.mv (.ci 0))])
 (.seq (.reg [.m 5 1,.d 6 (.conv .i64 (.t 5)),.d 7 (.off 0 (.t 2)),.d 8 (.ld (.t 7)),.d 9 (.len (.t 8)),.d 10 (.ar .rem (.t 6) (.t 9)),.m 4 10])
 .ret))
theorem Tryz.k49:FnOk Tryz.prog 49 11 Tryz.c49 [.t 4]:=.o [] [] Tryz.func49 (by kernel_rfl)
def Tryz.c50:C:=(.seq (.reg [.d 3 (.box 26 (.t 0)),.d 6 (.mv .cn)])
 (.seq (.reg [.d 7 (.mv .cn)])
 (.seq (.seq (.reg [.d 8 (.mv (.ci 0))])
 (.block 0 (.loop (.seq (.seq (.reg [.m 9 8,.d 10 (.off 0 (.t 3)),.d 11 (.ld (.t 10)),.m 12 1,.d 13 (.idx 1 (.t 11) (.t 12)),.d 14 (.off 0 (.t 13)),.d 15 (.ld (.t 14)),.d 16 (.len (.t 15)),.d 17 (.cmp .lss (.t 9) (.t 16))])
 (.ite (.t 17) .skip (.exit 0)))
 (.seq (.block 1 (.seq (.reg [.m 20 2,.m 21 8,.d 22 (.ar .shr (.t 20) (.t 21)),.d 23 (.ar .and (.t 22) (.const (.int .u8 1))),.d 24 (.cmp .eql (.t 23) (.const (.int .u8 1)))])
 (.ite (.t 24) (.reg [.m 25 7,.m 26 8,.d 27 (.bsl 3 1 #[(.int .i64 0)] [(0,1,(.t 26))]),.d 28 (.raw { dst:=none,op:=(.call { callee:=.builtin .append,args:=#[(.t 25),(.t 27)],argTypes:=#[27,27] }),type:=27,pos := "", after:=#[],guard:=none }),.m 7 28]) .skip)))
 (.reg [.m 18 8,.d 19 (.add (.t 18) (.ci 1)),.m 8 19]))))))
 (.seq (.reg [.m 29 7,.m 6 29])
 .ret))))
theorem Tryz.k50:FnOk Tryz.prog 50 30 Tryz.c50 [.t 6]:=.o [] [] Tryz.func50 (by kernel_rfl)
end Go.Proofs
