/- A part of the proof: lemmas that the last text uses. No conditions of its own. -/
import Derived.Test.YtebpcmdnecenlaaGreatProg
import Derived.KernelRfl
import Derived.Test.YtebpcmdnecenlaaGreatD02
set_option linter.unusedSimpArgs false
set_option linter.unusedVariables false
namespace Go.Proofs
open Go.TM
set_option maxRecDepth 100000
def Tryz.c16:C:=(.seq (.reg [.d 5 (.box 26 (.tmp 0)),.d 10 (.mv (.const (.bool false)))])
 (.seq (.seq (.reg [.d 23 (.ldn 3 (.tmp 5)),.d 24 (.call (.func 48) #[(.tmp 23)]),.d 25 (.not (.tmp 24))])
 (.ite (.tmp 25) (.seq (.reg [.d 26 (.call (.func 26) #[]),.m 10 26])
 .ret) .skip))
 (.seq (.drw [(0,.d 27 (.ldn 3 (.tmp 5))),(0,.m 28 1),(1,.d 29 (.call (.func 49) #[(.tmp 27),(.tmp 28)])),(0,.d 30 (.ldn 3 (.tmp 5))),(0,.m 31 2)] [.d 32 (.call (.func 49) #[(.tmp 30),(.tmp 31)]),.m 11 29,.m 12 32])
 (.seq (.drw [(0,.d 33 (.ldn 3 (.tmp 5))),(0,.m 34 11),(0,.m 35 3),(0,.d 37 (.ldn 3 (.tmp 5))),(0,.m 38 12),(0,.m 39 4),(2,.d 36 (.call (.func 50) #[(.tmp 33),(.tmp 34),(.tmp 35)]))] [.d 40 (.call (.func 50) #[(.tmp 37),(.tmp 38),(.tmp 39)]),.m 13 36,.m 14 40])
 (.seq (.reg [.d 42 (.ldn 3 (.tmp 5)),.m 43 11,.m 44 13,.m 45 12,.m 46 14,.d 47 (.call (.func 41) #[(.tmp 42),(.tmp 43),(.tmp 44),(.tmp 45),(.tmp 46)]),.m 41 47,.d 48 (.ext (.tmp 41) 0),.d 49 (.ext (.tmp 41) 1),.d 15 (.alloc 49 #[(.int .i64 0),(.int .i64 0)]),⟨.st 2 (.tmp 15) (.tmp 48),none,none,none⟩,.m 16 49])
 (.seq (.reg [.d 51 (.ldn 3 (.tmp 5)),.m 52 12,.m 53 14,.m 54 11,.m 55 13,.d 56 (.call (.func 41) #[(.tmp 51),(.tmp 52),(.tmp 53),(.tmp 54),(.tmp 55)]),.m 50 56,.d 57 (.ext (.tmp 50) 0),.d 58 (.ext (.tmp 50) 1),.d 17 (.alloc 49 #[(.int .i64 0),(.int .i64 0)]),⟨.st 2 (.tmp 17) (.tmp 57),none,none,none⟩,.m 18 58])
 (.seq (.reg [.d 60 (.ldn 3 (.tmp 5)),.m 61 11,.m 62 13,.m 63 11,.m 64 13,.d 65 (.call (.func 41) #[(.tmp 60),(.tmp 61),(.tmp 62),(.tmp 63),(.tmp 64)]),.m 59 65,.d 66 (.ext (.tmp 59) 0),.d 67 (.ext (.tmp 59) 1),.d 19 (.alloc 49 #[(.int .i64 0),(.int .i64 0)]),⟨.st 2 (.tmp 19) (.tmp 66),none,none,none⟩,.m 20 67])
 (.seq (.reg [.d 69 (.ldn 3 (.tmp 5)),.m 70 11,.m 71 13,.m 72 12,.d 73 (.call (.func 41) #[(.tmp 69),(.tmp 70),(.tmp 71),(.tmp 72),(.const (.slice none 0 0))]),.m 68 73,.d 74 (.ext (.tmp 68) 0),.d 75 (.ext (.tmp 68) 1),.d 21 (.alloc 49 #[(.int .i64 0),(.int .i64 0)]),⟨.st 2 (.tmp 21) (.tmp 74),none,none,none⟩,.m 22 75])
 (.seq (.seq (.reg [.m 76 16,.d 77 (.cmp .neq (.tmp 76) (.const (.int .i64 0))),.m 78 77,.u 79 78 false (.mv (.tmp 18)),.u 80 78 false (.cmp .neq (.tmp 79) (.const (.int .i64 0))),.d 81 (.pick (.tmp 78) (.const (.bool true)) (.tmp 80)),.m 82 81,.u 83 82 false (.mv (.tmp 20)),.u 84 82 false (.cmp .neq (.tmp 83) (.const (.int .i64 0))),.d 85 (.pick (.tmp 82) (.const (.bool true)) (.tmp 84)),.m 86 85,.u 87 86 false (.mv (.tmp 22)),.u 88 86 false (.cmp .neq (.tmp 87) (.const (.int .i64 0))),.d 89 (.pick (.tmp 86) (.const (.bool true)) (.tmp 88)),.m 90 89,.u 91 90 false (.ldn 2 (.tmp 15)),.u 92 90 false (.ldn 2 (.tmp 17)),.u 93 90 false (.raw { dst:=none,op:=(.binOp .neq 49 (.tmp 91) (.tmp 92) 49),type:=4,pos := "", after:=#[],guard:=none }),.d 94 (.pick (.tmp 90) (.const (.bool true)) (.tmp 93)),.m 95 94,.u 96 95 false (.ldn 2 (.tmp 21)),.u 97 95 false (.build #[(.int .i64 0),(.int .i64 0)] []),.u 98 95 false (.raw { dst:=none,op:=(.binOp .neq 49 (.tmp 96) (.tmp 97) 49),type:=4,pos := "", after:=#[],guard:=none }),.d 99 (.pick (.tmp 95) (.const (.bool true)) (.tmp 98)),.m 100 99,.u 101 100 false (.ldn 2 (.tmp 15)),.u 102 100 false (.call (.func 57) #[(.tmp 101),(.const (.int .i64 0)),(.const (.int .i64 5))]),.u 103 100 false (.not (.tmp 102)),.d 104 (.pick (.tmp 100) (.const (.bool true)) (.tmp 103))])
 (.ite (.tmp 104) (.seq (.reg [.d 10 (.mv (.const (.bool false)))])
 .ret) .skip))
 (.seq (.seq (.reg [.m 105 13,.d 106 (.len (.tmp 105)),.d 107 (.cmp .eql (.tmp 106) (.const (.int .i64 0)))])
 (.ite (.tmp 107) (.seq (.reg [.d 108 (.ldn 2 (.tmp 19)),.d 109 (.build #[(.int .i64 0),(.int .i64 0)] []),.d 110 (.raw { dst:=none,op:=(.binOp .eql 49 (.tmp 108) (.tmp 109) 49),type:=4,pos := "", after:=#[],guard:=none }),.m 111 110,.u 112 111 true (.call (.func 26) #[]),.d 113 (.pick (.tmp 111) (.tmp 112) (.const (.bool false))),.m 10 113])
 .ret) .skip))
 (.seq (.reg [.d 114 (.ldn 2 (.tmp 19)),.d 115 (.build #[(.int .i64 0),(.int .i64 0)] [(0,1,(.const (.int .i64 5))),(1,1,(.const (.int .i64 5)))]),.d 116 (.raw { dst:=none,op:=(.binOp .eql 49 (.tmp 114) (.tmp 115) 49),type:=4,pos := "", after:=#[],guard:=none }),.m 117 116,.u 118 117 true (.call (.func 26) #[]),.d 119 (.pick (.tmp 117) (.tmp 118) (.const (.bool false))),.m 10 119])
 .ret)))))))))))
theorem Tryz.k16:FnOk Tryz.prog 16 120 Tryz.c16 [.t 10]:=.mk' [] [29,32] Tryz.func16 rfl (by kernel_rfl) (by kernel_rfl) (by kernel_rfl) (by kernel_rfl)
def Tryz.c48:C:=(.seq (.reg [.d 1 (.box 26 (.tmp 0)),.d 2 (.mv (.const (.bool false)))])
 (.seq (.reg [.d 3 (.ldn 3 (.tmp 1)),.d 4 (.call (.func 24) #[(.tmp 3)]),.d 5 (.not (.tmp 4)),.m 6 5,.u 7 6 true (.ldn 3 (.tmp 1)),.u 8 6 true (.call (.func 30) #[(.tmp 7)]),.u 9 6 true (.cmp .eql (.tmp 8) (.const (.int .i64 0))),.d 10 (.pick (.tmp 6) (.tmp 9) (.const (.bool false))),.m 2 10])
 .ret))
theorem Tryz.k48:FnOk Tryz.prog 48 11 Tryz.c48 [.t 2]:=.mk' [] [] Tryz.func48 rfl (by kernel_rfl) (by kernel_rfl) (by kernel_rfl) (by kernel_rfl)
def Tryz.c49:C:=(.seq (.reg [.d 2 (.box 26 (.tmp 0)),.d 4 (.mv (.const (.int .i64 0)))])
 (.seq (.reg [.m 5 1,.d 6 (.conv .i64 (.tmp 5)),.d 7 (.off 0 (.tmp 2)),.d 8 (.ld (.tmp 7)),.d 9 (.len (.tmp 8)),.d 10 (.ar .rem (.tmp 6) (.tmp 9)),.m 4 10])
 .ret))
theorem Tryz.k49:FnOk Tryz.prog 49 11 Tryz.c49 [.t 4]:=.mk' [] [] Tryz.func49 rfl (by kernel_rfl) (by kernel_rfl) (by kernel_rfl) (by kernel_rfl)
def Tryz.c50:C:=(.seq (.reg [.d 3 (.box 26 (.tmp 0)),.d 6 (.mv (.const (.slice none 0 0)))])
 (.seq (.reg [.d 7 (.mv (.const (.slice none 0 0)))])
 (.seq (.seq (.reg [.d 8 (.mv (.const (.int .i64 0)))])
 (.block 0 (.loop (.seq (.seq (.reg [.m 9 8,.d 10 (.off 0 (.tmp 3)),.d 11 (.ld (.tmp 10)),.m 12 1,.d 13 (.idx 1 (.tmp 11) (.tmp 12)),.d 14 (.off 0 (.tmp 13)),.d 15 (.ld (.tmp 14)),.d 16 (.len (.tmp 15)),.d 17 (.cmp .lss (.tmp 9) (.tmp 16))])
 (.ite (.tmp 17) .skip (.exit 0)))
 (.seq (.block 1 (.seq (.reg [.m 20 2,.m 21 8,.d 22 (.ar .shr (.tmp 20) (.tmp 21)),.d 23 (.ar .and (.tmp 22) (.const (.int .u8 1))),.d 24 (.cmp .eql (.tmp 23) (.const (.int .u8 1)))])
 (.ite (.tmp 24) (.reg [.m 25 7,.m 26 8,.d 27 (.bsl 3 1 #[(.int .i64 0)] [(0,1,(.tmp 26))]),.d 28 (.raw { dst:=none,op:=(.call { callee:=.builtin .append,args:=#[(.tmp 25),(.tmp 27)],argTypes:=#[27,27] }),type:=27,pos := "", after:=#[],guard:=none }),.m 7 28]) .skip)))
 (.reg [.m 18 8,.d 19 (.add (.tmp 18) (.const (.int .i64 1))),.m 8 19]))))))
 (.seq (.reg [.m 29 7,.m 6 29])
 .ret))))
theorem Tryz.k50:FnOk Tryz.prog 50 30 Tryz.c50 [.t 6]:=.mk' [] [] Tryz.func50 rfl (by kernel_rfl) (by kernel_rfl) (by kernel_rfl) (by kernel_rfl)
def Tryz.c57:C:=(.seq (.reg [.d 3 (.box 49 (.tmp 0)),.d 6 (.mv (.const (.bool false)))])
 (.seq (.reg [.m 7 1,.d 8 (.off 0 (.tmp 3)),.d 9 (.ld (.tmp 8)),.d 10 (.cmp .leq (.tmp 7) (.tmp 9)),.m 11 10,.u 12 11 true (.off 0 (.tmp 3)),.u 13 11 true (.ld (.tmp 12)),.u 14 11 true (.off 1 (.tmp 3)),.u 15 11 true (.ld (.tmp 14)),.u 16 11 true (.cmp .leq (.tmp 13) (.tmp 15)),.d 17 (.pick (.tmp 11) (.tmp 16) (.const (.bool false))),.m 18 17,.u 19 18 true (.off 1 (.tmp 3)),.u 20 18 true (.ld (.tmp 19)),.u 21 18 true (.mv (.tmp 2)),.u 22 18 true (.cmp .leq (.tmp 20) (.tmp 21)),.d 23 (.pick (.tmp 18) (.tmp 22) (.const (.bool false))),.m 6 23])
 .ret))
theorem Tryz.k57:FnOk Tryz.prog 57 24 Tryz.c57 [.t 6]:=.mk' [] [] Tryz.func57 rfl (by kernel_rfl) (by kernel_rfl) (by kernel_rfl) (by kernel_rfl)
end Go.Proofs
