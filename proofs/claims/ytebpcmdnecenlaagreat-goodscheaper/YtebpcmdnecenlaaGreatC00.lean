/- A part of the proof: lemmas that the last text uses. No conditions of its own. -/
import Derived.Test.YtebpcmdnecenlaaGreatProg
import Derived.KernelRfl
import Derived.Test.YtebpcmdnecenlaaGreatF02
set_option linter.unusedSimpArgs false
set_option linter.unusedVariables false
namespace Go.Proofs
open Go.TM
set_option maxRecDepth 100000
def Tryz.c20:C:=(.seq (.reg [.d 6 (.box 26 (.t 0)),.d 12 (.mv (.cb false))])
 (.seq (.seq (.reg [.d 32 (.ldn 3 (.t 6)),.d 33 (.call (.func 48) #[(.t 32)]),.d 34 (.not (.t 33))])
 (.ite (.t 34) (.seq (.reg [.d 35 (.call (.func 26) #[]),.m 12 35])
 .ret) .skip))
 (.seq (.reg [.d 36 (.ldn 3 (.t 6)),.m 37 1,.d 38 (.call (.func 49) #[(.t 36),(.t 37)]),.m 39 4,.d 40 (.conv .i64 (.t 39)),.d 41 (.ar .rem (.t 40) (.ci 5)),.d 42 (.add (.ci 1) (.t 41)),.m 13 38,.m 14 42])
 (.seq (.drw [(0,.d 43 (.ldn 3 (.t 6))),(0,.m 44 13),(0,.m 45 2),(0,.d 47 (.ldn 3 (.t 6))),(0,.m 48 13),(0,.m 49 3),(2,.d 46 (.call (.func 50) #[(.t 43),(.t 44),(.t 45)]))] [.d 50 (.call (.func 50) #[(.t 47),(.t 48),(.t 49)]),.m 15 46,.m 16 50])
 (.seq (.reg [.d 52 (.ldn 3 (.t 6)),.m 53 13,.m 54 15,.m 55 16,.m 56 14,.d 57 (.call (.func 46) #[(.t 52),(.t 53),(.t 54),(.t 55),(.t 56)]),.m 51 57,.d 58 (.ext (.t 51) 0),.d 59 (.ext (.t 51) 1),.d 60 (.ext (.t 51) 2),.d 61 (.ext (.t 51) 3),.m 17 58,.m 18 59,.m 19 60,.m 20 61])
 (.seq (.drw [(0,.d 63 (.ldn 3 (.t 6))),(0,.m 64 13),(0,.d 65 (.ldn 3 (.t 6))),(0,.m 66 13),(0,.m 67 2),(0,.m 68 5),(0,.d 69 (.ar .and (.t 67) (.t 68))),(0,.m 71 16),(0,.m 72 14),(2,.d 70 (.call (.func 50) #[(.t 65),(.t 66),(.t 69)])),(2,.d 73 (.call (.func 46) #[(.t 63),(.t 64),(.t 70),(.t 71),(.t 72)])),(0,.m 62 73),(0,.d 74 (.ext (.t 62) 0)),(0,.d 75 (.ext (.t 62) 1)),(0,.d 76 (.ext (.t 62) 2)),(0,.d 77 (.ext (.t 62) 3)),(0,.m 21 74),(0,.m 22 75),(0,.m 23 76)] [.m 24 77])
 (.seq (.reg [.d 79 (.ldn 3 (.t 6)),.m 80 13,.m 81 16,.m 82 15,.m 83 14,.d 84 (.call (.func 46) #[(.t 79),(.t 80),(.t 81),(.t 82),(.t 83)]),.m 78 84,.d 85 (.ext (.t 78) 0),.d 86 (.ext (.t 78) 1),.d 87 (.ext (.t 78) 2),.d 88 (.ext (.t 78) 3),.m 25 85,.m 26 86,.m 27 87,.m 28 88])
 (.seq (.seq (.reg [.m 89 20,.d 90 (.cmp .neq (.t 89) (.ci 0)),.m 91 90,.u 92 91 false (.mv (.t 24)),.u 93 91 false (.cmp .neq (.t 92) (.ci 0)),.d 94 (.pick (.t 91) (.cb true) (.t 93)),.m 95 94,.u 96 95 false (.mv (.t 28)),.u 97 95 false (.cmp .neq (.t 96) (.ci 0)),.d 98 (.pick (.t 95) (.cb true) (.t 97)),.m 99 98,.u 100 99 false (.mv (.t 21)),.u 101 99 false (.len (.t 100)),.u 102 99 false (.mv (.t 22)),.u 103 99 false (.len (.t 102)),.u 104 99 false (.add (.t 101) (.t 103)),.u 105 99 false (.mv (.t 17)),.u 106 99 false (.len (.t 105)),.u 107 99 false (.mv (.t 18)),.u 108 99 false (.len (.t 107)),.u 109 99 false (.add (.t 106) (.t 108)),.u 110 99 false (.cmp .gtr (.t 104) (.t 109)),.d 111 (.pick (.t 99) (.cb true) (.t 110)),.m 112 111,.u 113 112 false (.mv (.t 25)),.u 114 112 false (.len (.t 113)),.u 115 112 false (.mv (.t 26)),.u 116 112 false (.len (.t 115)),.u 117 112 false (.add (.t 114) (.t 116)),.u 118 112 false (.mv (.t 17)),.u 119 112 false (.len (.t 118)),.u 120 112 false (.mv (.t 18)),.u 121 112 false (.len (.t 120)),.u 122 112 false (.add (.t 119) (.t 121)),.u 123 112 false (.cmp .neq (.t 117) (.t 122)),.d 124 (.pick (.t 112) (.cb true) (.t 123))])
 (.ite (.t 124) (.seq (.reg [.d 12 (.mv (.cb false))])
 .ret) .skip))
 (.seq (.seq (.reg [.m 125 14,.d 126 (.cmp .eql (.t 125) (.ci 5))])
 (.ite (.t 126) (.seq (.reg [.d 127 (.call (.func 26) #[]),.m 12 127])
 .ret) .skip))
 (.seq (.reg [.d 129 (.ldn 3 (.t 6)),.m 130 13,.m 131 15,.m 132 16,.m 133 14,.d 134 (.add (.t 133) (.ci 1)),.d 135 (.call (.func 46) #[(.t 129),(.t 130),(.t 131),(.t 132),(.t 134)]),.m 128 135,.d 136 (.ext (.t 128) 0),.d 137 (.ext (.t 128) 1),.d 138 (.ext (.t 128) 2),.d 139 (.ext (.t 128) 3),.m 29 136,.m 30 137,.m 31 138,.m 20 139])
 (.seq (.reg [.m 140 20,.d 141 (.cmp .eql (.t 140) (.ci 0)),.m 142 141,.u 143 142 true (.mv (.t 29)),.u 144 142 true (.len (.t 143)),.u 145 142 true (.mv (.t 30)),.u 146 142 true (.len (.t 145)),.u 147 142 true (.add (.t 144) (.t 146)),.u 148 142 true (.mv (.t 17)),.u 149 142 true (.len (.t 148)),.u 150 142 true (.mv (.t 18)),.u 151 142 true (.len (.t 150)),.u 152 142 true (.add (.t 149) (.t 151)),.u 153 142 true (.cmp .leq (.t 147) (.t 152)),.d 154 (.pick (.t 142) (.t 153) (.cb false)),.m 155 154,.u 156 155 true (.call (.func 26) #[]),.d 157 (.pick (.t 155) (.t 156) (.cb false)),.m 12 157])
 .ret)))))))))))
theorem Tryz.k20:FnOk Tryz.prog 20 158 Tryz.c20 [.t 12]:=.o [] [] Tryz.func20 (by kernel_rfl)
def Tryz.c48:C:=(.seq (.reg [.d 1 (.box 26 (.t 0)),.d 2 (.mv (.cb false))])
 (.seq (.reg [.d 3 (.ldn 3 (.t 1)),.d 4 (.call (.func 24) #[(.t 3)]),.d 5 (.not (.t 4)),.m 6 5,.u 7 6 true (.ldn 3 (.t 1)),.u 8 6 true (.call (.func 30) #[(.t 7)]),.u 9 6 true (.cmp .eql (.t 8) (.ci 0)),.d 10 (.pick (.t 6) (.t 9) (.cb false)),.m 2 10])
 .ret))
theorem Tryz.k48:FnOk Tryz.prog 48 11 Tryz.c48 [.t 2]:=.o [] [] Tryz.func48 (by kernel_rfl)
def Tryz.c49:C:=(.seq (.reg [.d 2 (.box 26 (.t 0)),.d 4 (.mv (.ci 0))])
 (.seq (.reg [.m 5 1,.d 6 (.conv .i64 (.t 5)),.d 7 (.off 0 (.t 2)),.d 8 (.ld (.t 7)),.d 9 (.len (.t 8)),.d 10 (.ar .rem (.t 6) (.t 9)),.m 4 10])
 .ret))
theorem Tryz.k49:FnOk Tryz.prog 49 11 Tryz.c49 [.t 4]:=.o [] [] Tryz.func49 (by kernel_rfl)
def Tryz.c50:C:=(.seq (.reg [.d 3 (.box 26 (.t 0)),.d 6 (.mv .cn)])
 (.seq (.reg [.d 7 (.mv .cn)])
 (.seq (.seq (.reg [.d 8 (.mv (.ci 0))])
 (.block 0 (.loop (.seq (.seq (.reg [.m 9 8,.d 10 (.off 0 (.t 3)),.d 11 (.ld (.t 10)),.m 12 1,.d 13 (.idx 1 (.t 11) (.t 12)),.d 14 (.off 0 (.t 13)),.d 15 (.ld (.t 14)),.d 16 (.len (.t 15)),.d 17 (.cmp .lss (.t 9) (.t 16))])
 (.ite (.t 17) .skip (.exit 0)))
 (.seq (.block 1 (.seq (.reg [.m 20 2,.m 21 8,.d 22 (.ar .shr (.t 20) (.t 21)),.d 23 (.ar .and (.t 22) (.const (.int .u8 1))),.d 24 (.cmp .eql (.t 23) (.const (.int .u8 1)))])
 (.ite (.t 24) (.reg [.m 25 7,.m 26 8,.d 27 (.bsl 3 1 #[(.int .i64 0)] [(0,1,(.t 26))]),.d 28 (.raw { dst:=none,op:=(.call { callee:=.builtin .append,args:=#[(.t 25),(.t 27)],argTypes:=#[27,27] }),type:=27,pos := "", after:=#[],guard:=none }),.m 7 28]) .skip)))
 (.reg [.m 18 8,.d 19 (.add (.t 18) (.ci 1)),.m 8 19]))))))
 (.seq (.reg [.m 29 7,.m 6 29])
 .ret))))
theorem Tryz.k50:FnOk Tryz.prog 50 30 Tryz.c50 [.t 6]:=.o [] [] Tryz.func50 (by kernel_rfl)
end Go.Proofs
