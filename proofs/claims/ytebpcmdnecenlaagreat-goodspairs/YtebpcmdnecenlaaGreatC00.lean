/- A part of the proof: lemmas that the last text uses. No conditions of its own. -/
import Derived.Test.YtebpcmdnecenlaaGreatProg
import Derived.KernelRfl
import Derived.Test.YtebpcmdnecenlaaGreatD02
set_option linter.unusedSimpArgs false
set_option linter.unusedVariables false
namespace Go.Proofs
open Go.TM
set_option maxRecDepth 100000
def Tryz.c18:C:=(.seq (.reg [.d 6 (.box 26 (.tmp 0)),.d 12 (.mv (.const (.bool false)))])
 (.seq (.seq (.reg [.d 28 (.ldn 3 (.tmp 6)),.d 29 (.call (.func 48) #[(.tmp 28)]),.d 30 (.not (.tmp 29))])
 (.ite (.tmp 30) (.seq (.reg [.d 31 (.call (.func 26) #[]),.m 12 31])
 .ret) .skip))
 (.seq (.reg [.d 32 (.ldn 3 (.tmp 6)),.m 33 1,.d 34 (.call (.func 49) #[(.tmp 32),(.tmp 33)]),.m 13 34])
 (.seq (.drw [(0,.d 35 (.ldn 3 (.tmp 6))),(0,.m 36 13),(0,.m 37 2),(0,.d 39 (.ldn 3 (.tmp 6))),(0,.m 40 13),(0,.m 41 3),(2,.d 38 (.call (.func 50) #[(.tmp 35),(.tmp 36),(.tmp 37)]))] [.d 42 (.call (.func 50) #[(.tmp 39),(.tmp 40),(.tmp 41)]),.m 14 38,.m 15 42])
 (.seq (.reg [.m 43 4,.m 44 5,.d 45 (.raw { dst:=none,op:=(.call { callee:=.builtin .min,args:=#[(.tmp 43),(.tmp 44)],argTypes:=#[5,5] }),type:=5,pos := "", after:=#[],guard:=none }),.d 46 (.conv .i64 (.tmp 45)),.d 47 (.ar .rem (.tmp 46) (.const (.int .i64 5))),.d 48 (.add (.const (.int .i64 1)) (.tmp 47)),.m 49 4,.m 50 5,.d 51 (.raw { dst:=none,op:=(.call { callee:=.builtin .max,args:=#[(.tmp 49),(.tmp 50)],argTypes:=#[5,5] }),type:=5,pos := "", after:=#[],guard:=none }),.d 52 (.conv .i64 (.tmp 51)),.d 53 (.ar .rem (.tmp 52) (.const (.int .i64 5))),.d 54 (.add (.const (.int .i64 1)) (.tmp 53)),.m 16 48,.m 17 54])
 (.seq (.reg [.d 56 (.ldn 3 (.tmp 6)),.m 57 13,.m 58 14,.m 59 13,.m 60 15,.d 61 (.call (.func 41) #[(.tmp 56),(.tmp 57),(.tmp 58),(.tmp 59),(.tmp 60)]),.m 55 61,.d 62 (.ext (.tmp 55) 0),.d 63 (.ext (.tmp 55) 1),.d 18 (.alloc 49 #[(.int .i64 0),(.int .i64 0)]),⟨.st 2 (.tmp 18) (.tmp 62),none,none,none⟩,.m 19 63])
 (.seq (.reg [.d 65 (.ldn 3 (.tmp 6)),.m 66 13,.m 67 14,.m 68 15,.m 69 16,.m 70 17,.d 71 (.raw { dst:=none,op:=(.call { callee:=.builtin .min,args:=#[(.tmp 69),(.tmp 70)],argTypes:=#[3,3] }),type:=3,pos := "", after:=#[],guard:=none }),.d 72 (.call (.func 43) #[(.tmp 65),(.tmp 66),(.tmp 67),(.tmp 68),(.tmp 71)]),.m 64 72,.d 73 (.ext (.tmp 64) 0),.d 74 (.ext (.tmp 64) 1),.m 20 73,.m 21 74])
 (.seq (.reg [.d 76 (.ldn 3 (.tmp 6)),.m 77 13,.m 78 14,.m 79 15,.m 80 16,.m 81 17,.d 82 (.raw { dst:=none,op:=(.call { callee:=.builtin .max,args:=#[(.tmp 80),(.tmp 81)],argTypes:=#[3,3] }),type:=3,pos := "", after:=#[],guard:=none }),.d 83 (.call (.func 43) #[(.tmp 76),(.tmp 77),(.tmp 78),(.tmp 79),(.tmp 82)]),.m 75 83,.d 84 (.ext (.tmp 75) 0),.d 85 (.ext (.tmp 75) 1),.m 22 84,.m 23 85])
 (.seq (.seq (.reg [.m 86 19,.d 87 (.cmp .neq (.tmp 86) (.const (.int .i64 0))),.m 88 87,.u 89 88 false (.mv (.tmp 21)),.u 90 88 false (.cmp .neq (.tmp 89) (.const (.int .i64 0))),.d 91 (.pick (.tmp 88) (.const (.bool true)) (.tmp 90)),.m 92 91,.u 93 92 false (.mv (.tmp 23)),.u 94 92 false (.cmp .neq (.tmp 93) (.const (.int .i64 0))),.d 95 (.pick (.tmp 92) (.const (.bool true)) (.tmp 94)),.m 96 95,.u 97 96 false (.off 0 (.tmp 18)),.u 98 96 false (.ld (.tmp 97)),.u 99 96 false (.off 1 (.tmp 18)),.u 100 96 false (.ld (.tmp 99)),.u 101 96 false (.cmp .neq (.tmp 98) (.tmp 100)),.d 102 (.pick (.tmp 96) (.const (.bool true)) (.tmp 101)),.m 103 102,.u 104 103 false (.mv (.tmp 20)),.u 105 103 false (.len (.tmp 104)),.u 106 103 false (.cmp .gtr (.tmp 105) (.const (.int .i64 0))),.u 107 103 false (.off 1 (.tmp 18)),.u 108 103 false (.ld (.tmp 107)),.u 109 103 false (.mv (.tmp 16)),.u 110 103 false (.mv (.tmp 17)),.u 111 103 false (.raw { dst:=none,op:=(.call { callee:=.builtin .min,args:=#[(.tmp 109),(.tmp 110)],argTypes:=#[3,3] }),type:=3,pos := "", after:=#[],guard:=none }),.u 112 103 false (.cmp .geq (.tmp 108) (.tmp 111)),.u 113 103 false (.beq .neq (.tmp 106) (.tmp 112)),.d 114 (.pick (.tmp 103) (.const (.bool true)) (.tmp 113)),.m 115 114,.u 116 115 false (.mv (.tmp 22)),.u 117 115 false (.len (.tmp 116)),.u 118 115 false (.cmp .gtr (.tmp 117) (.const (.int .i64 0))),.u 119 115 false (.off 1 (.tmp 18)),.u 120 115 false (.ld (.tmp 119)),.u 121 115 false (.mv (.tmp 16)),.u 122 115 false (.mv (.tmp 17)),.u 123 115 false (.raw { dst:=none,op:=(.call { callee:=.builtin .max,args:=#[(.tmp 121),(.tmp 122)],argTypes:=#[3,3] }),type:=3,pos := "", after:=#[],guard:=none }),.u 124 115 false (.cmp .geq (.tmp 120) (.tmp 123)),.u 125 115 false (.beq .neq (.tmp 118) (.tmp 124)),.d 126 (.pick (.tmp 115) (.const (.bool true)) (.tmp 125)),.m 127 126,.u 128 127 false (.mv (.tmp 22)),.u 129 127 false (.len (.tmp 128)),.u 130 127 false (.mv (.tmp 20)),.u 131 127 false (.len (.tmp 130)),.u 132 127 false (.cmp .gtr (.tmp 129) (.tmp 131)),.d 133 (.pick (.tmp 127) (.const (.bool true)) (.tmp 132))])
 (.ite (.tmp 133) (.seq (.reg [.d 12 (.mv (.const (.bool false)))])
 .ret) .skip))
 (.seq (.seq (.reg [.d 24 (.mv (.const (.int .i64 0)))])
 (.block 0 (.loop (.seq (.seq (.reg [.m 134 24,.m 135 20,.d 136 (.len (.tmp 135)),.d 137 (.cmp .lss (.tmp 134) (.tmp 136))])
 (.ite (.tmp 137) .skip (.exit 0)))
 (.seq (.block 1 (.seq (.reg [.m 140 20,.m 141 24,.d 142 (.idx 2 (.tmp 140) (.tmp 141)),.d 143 (.ldn 2 (.tmp 142)),.d 25 (.alloc 80 #[(.int .i64 0),(.int .i64 0)]),⟨.st 2 (.tmp 25) (.tmp 143),none,none,none⟩])
 (.seq (.reg [.d 145 (.ldn 3 (.tmp 6)),.m 146 13,.d 147 (.off 0 (.tmp 25)),.d 148 (.ld (.tmp 147)),.d 149 (.bsl 3 1 #[(.int .i64 0)] [(0,1,(.tmp 148))]),.m 150 13,.d 151 (.off 1 (.tmp 25)),.d 152 (.ld (.tmp 151)),.d 153 (.bsl 3 1 #[(.int .i64 0)] [(0,1,(.tmp 152))]),.d 154 (.call (.func 41) #[(.tmp 145),(.tmp 146),(.tmp 149),(.tmp 150),(.tmp 153)]),.m 144 154,.d 155 (.ext (.tmp 144) 0),.d 156 (.ext (.tmp 144) 1),.d 26 (.alloc 49 #[(.int .i64 0),(.int .i64 0)]),⟨.st 2 (.tmp 26) (.tmp 155),none,none,none⟩,.m 27 156])
 (.seq (.reg [.m 157 27,.d 158 (.cmp .neq (.tmp 157) (.const (.int .i64 0))),.m 159 158,.u 160 159 false (.off 1 (.tmp 26)),.u 161 159 false (.ld (.tmp 160)),.u 162 159 false (.mv (.tmp 16)),.u 163 159 false (.mv (.tmp 17)),.u 164 159 false (.raw { dst:=none,op:=(.call { callee:=.builtin .min,args:=#[(.tmp 162),(.tmp 163)],argTypes:=#[3,3] }),type:=3,pos := "", after:=#[],guard:=none }),.u 165 159 false (.cmp .lss (.tmp 161) (.tmp 164)),.d 166 (.pick (.tmp 159) (.const (.bool true)) (.tmp 165)),.m 167 166,.u 168 167 false (.mv (.tmp 14)),.u 169 167 false (.off 0 (.tmp 25)),.u 170 167 false (.ld (.tmp 169)),.u 171 167 false (.call (.func 53) #[(.tmp 168),(.tmp 170)]),.u 172 167 false (.not (.tmp 171)),.d 173 (.pick (.tmp 167) (.const (.bool true)) (.tmp 172)),.m 174 173,.u 175 174 false (.mv (.tmp 15)),.u 176 174 false (.off 1 (.tmp 25)),.u 177 174 false (.ld (.tmp 176)),.u 178 174 false (.call (.func 53) #[(.tmp 175),(.tmp 177)]),.u 179 174 false (.not (.tmp 178)),.d 180 (.pick (.tmp 174) (.const (.bool true)) (.tmp 179))])
 (.ite (.tmp 180) (.seq (.reg [.d 12 (.mv (.const (.bool false)))])
 .ret) .skip)))))
 (.reg [.m 138 24,.d 139 (.add (.tmp 138) (.const (.int .i64 1))),.m 24 139]))))))
 (.seq (.reg [.d 181 (.call (.func 26) #[]),.m 12 181])
 .ret)))))))))))
theorem Tryz.k18:FnOk Tryz.prog 18 182 Tryz.c18 [.t 12]:=.mk' [] [] Tryz.func18 rfl (by kernel_rfl) (by kernel_rfl) (by kernel_rfl) (by kernel_rfl)
def Tryz.c48:C:=(.seq (.reg [.d 1 (.box 26 (.tmp 0)),.d 2 (.mv (.const (.bool false)))])
 (.seq (.reg [.d 3 (.ldn 3 (.tmp 1)),.d 4 (.call (.func 24) #[(.tmp 3)]),.d 5 (.not (.tmp 4)),.m 6 5,.u 7 6 true (.ldn 3 (.tmp 1)),.u 8 6 true (.call (.func 30) #[(.tmp 7)]),.u 9 6 true (.cmp .eql (.tmp 8) (.const (.int .i64 0))),.d 10 (.pick (.tmp 6) (.tmp 9) (.const (.bool false))),.m 2 10])
 .ret))
theorem Tryz.k48:FnOk Tryz.prog 48 11 Tryz.c48 [.t 2]:=.mk' [] [] Tryz.func48 rfl (by kernel_rfl) (by kernel_rfl) (by kernel_rfl) (by kernel_rfl)
def Tryz.c49:C:=(.seq (.reg [.d 2 (.box 26 (.tmp 0)),.d 4 (.mv (.const (.int .i64 0)))])
 (.seq (.reg [.m 5 1,.d 6 (.conv .i64 (.tmp 5)),.d 7 (.off 0 (.tmp 2)),.d 8 (.ld (.tmp 7)),.d 9 (.len (.tmp 8)),.d 10 (.ar .rem (.tmp 6) (.tmp 9)),.m 4 10])
 .ret))
theorem Tryz.k49:FnOk Tryz.prog 49 11 Tryz.c49 [.t 4]:=.mk' [] [] Tryz.func49 rfl (by kernel_rfl) (by kernel_rfl) (by kernel_rfl) (by kernel_rfl)
def Tryz.c50:C:=(.seq (.reg [.d 3 (.box 26 (.tmp 0)),.d 6 (.mv (.const (.slice none 0 0)))])
 (.seq (.reg [.d 7 (.mv (.const (.slice none 0 0)))])
 (.seq (.seq (.reg [.d 8 (.mv (.const (.int .i64 0)))])
 (.block 0 (.loop (.seq (.seq (.reg [.m 9 8,.d 10 (.off 0 (.tmp 3)),.d 11 (.ld (.tmp 10)),.m 12 1,.d 13 (.idx 1 (.tmp 11) (.tmp 12)),.d 14 (.off 0 (.tmp 13)),.d 15 (.ld (.tmp 14)),.d 16 (.len (.tmp 15)),.d 17 (.cmp .lss (.tmp 9) (.tmp 16))])
 (.ite (.tmp 17) .skip (.exit 0)))
 (.seq (.block 1 (.seq (.reg [.m 20 2,.m 21 8,.d 22 (.ar .shr (.tmp 20) (.tmp 21)),.d 23 (.ar .and (.tmp 22) (.const (.int .u8 1))),.d 24 (.cmp .eql (.tmp 23) (.const (.int .u8 1)))])
 (.ite (.tmp 24) (.reg [.m 25 7,.m 26 8,.d 27 (.bsl 3 1 #[(.int .i64 0)] [(0,1,(.tmp 26))]),.d 28 (.raw { dst:=none,op:=(.call { callee:=.builtin .append,args:=#[(.tmp 25),(.tmp 27)],argTypes:=#[27,27] }),type:=27,pos := "", after:=#[],guard:=none }),.m 7 28]) .skip)))
 (.reg [.m 18 8,.d 19 (.add (.tmp 18) (.const (.int .i64 1))),.m 8 19]))))))
 (.seq (.reg [.m 29 7,.m 6 29])
 .ret))))
theorem Tryz.k50:FnOk Tryz.prog 50 30 Tryz.c50 [.t 6]:=.mk' [] [] Tryz.func50 rfl (by kernel_rfl) (by kernel_rfl) (by kernel_rfl) (by kernel_rfl)
end Go.Proofs
