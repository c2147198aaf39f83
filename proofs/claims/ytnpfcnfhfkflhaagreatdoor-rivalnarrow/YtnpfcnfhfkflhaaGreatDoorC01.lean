/- Lemmas of the proof. No conditions of their own. -/
import Derived.Test.YtnpfcnfhfkflhaaGreatDoorC00
set_option linter.all false
set_option maxRecDepth 100000
noncomputable section
namespace Go.Proofs
open Go.TM
def Q4x:C:=(.seq (.reg [.d 2 (.box 25 (.t 0)),.xb 4 false])
 (.seq (.seq (.reg [.xd 19 2 2,.d 20 (.call (.func 32) #[(.t 19)]),.xt 21 20])
 (.ite (.t 21) (.seq (.reg [.d 22 (.call (.func 20) #[]),.m 4 22])
 .ret) .skip))
 (.seq (.cd 184 (Zgm Tryz.f16 3))
 (.seq (.seq (.reg [.m 31 6,.xk 32 .neq 31 0])
 (.ite (.t 32) (.seq (.reg [.m 33 6,.xk 34 .eql 33 5,.m 35 34,.ym 36 35 false 6,.yk 37 35 false .eql 36 8,.xq 38 35 37,.m 39 38,.yo 40 39 true 0 5,.yl 41 39 true 40,.yn 42 39 true 41,.yo 43 39 true 1 5,.yl 44 39 true 43,.yn 45 39 true 44,.u 46 39 true (.add (.t 42) (.t 45)),.yk 47 39 true .eql 46 0,.xp 48 39 47,.m 49 48,.u 50 49 true (.call (.func 20) #[]),.xp 51 49 50,.m 4 51])
 .ret) .skip))
 (.seq (.seq (.reg [.xd 52 2 5,.d 53 (.call (.func 24) #[(.t 52)]),.xk 54 .neq 53 0,.m 55 54,.yo 56 55 false 1 5,.yl 57 55 false 56,.yn 58 55 false 57,.yo 59 55 false 1 2,.yl 60 55 false 59,.yn 61 55 false 60,.u 62 55 false (.cmp .neq (.t 58) (.t 61)),.xq 63 55 62,.m 64 63,.yo 65 64 false 0 5,.yl 66 64 false 65,.yo 67 64 false 0 2,.yl 68 64 false 67,.u 69 64 false (.call (.func 59) #[(.t 66),(.t 68)]),.u 70 64 false (.not (.t 69)),.xq 71 64 70])
 (.ite (.t 71) (.seq (.reg [.xb 4 false])
 .ret) .skip))
 (.seq (.reg [.xd 73 2 2,.d 74 (.call (.func 26) #[(.t 73)]),.m 72 74,.xe 75 72 0,.xe 76 72 1,.xe 77 72 2,.m 7 75,.m 8 76,.m 6 77])
 (.seq (.reg [.xd 79 2 5,.d 80 (.call (.func 26) #[(.t 79)]),.m 78 80,.xe 81 78 0,.xe 82 78 1,.xe 83 78 2,.m 9 81,.m 10 82,.m 11 83])
 (.seq (.seq (.reg [.m 84 6,.xk 85 .neq 84 0,.m 86 85,.ym 87 86 false 11,.yk 88 86 false .neq 87 0,.xq 89 86 88,.m 90 89,.ym 91 90 false 9,.yn 92 90 false 91,.ym 93 90 false 7,.yn 94 90 false 93,.u 95 90 false (.cmp .neq (.t 92) (.t 94)),.xq 96 90 95,.m 97 96,.ym 98 97 false 10,.yn 99 97 false 98,.ym 100 97 false 8,.yn 101 97 false 100,.u 102 97 false (.cmp .neq (.t 99) (.t 101)),.xq 103 97 102])
 (.ite (.t 103) (.seq (.reg [.xb 4 false])
 .ret) .skip))
 (.seq (.seq (.reg [.xv 12 0])
 (.block 0 (.loop (.seq (.seq (.reg [.m 104 12,.m 105 7,.xn 106 105,.xc 107 .lss 104 106])
 (.ite (.t 107) .skip (.exit 0)))
 (.seq (.block 1 (.seq (.drw [(0,.m 110 7),(0,.m 111 12),(0,.xi 112 1 110 111),(0,.xl 113 112),(0,.xk 114 .neq 113 0),(0,.m 115 114),(0,.ym 116 115 true 9),(0,.ym 117 115 true 12),(0,.yi 118 115 true 1 116 117),(0,.yl 119 115 true 118),(0,.ym 120 115 true 7),(0,.ym 121 115 true 12),(0,.yi 122 115 true 1 120 121),(0,.yl 123 115 true 122)] [.u 124 115 true (.cmp .neq (.t 119) (.t 123)),.xp 125 115 124])
 (.ite (.t 125) (.seq (.reg [.xb 4 false])
 .ret) .skip)))
 (.reg [.m 108 12,.xa 109 108,.m 12 109]))))))
 (.seq (.seq (.reg [.xv 13 0])
 (.block 2 (.loop (.seq (.seq (.reg [.m 126 13,.m 127 8,.xn 128 127,.xc 129 .lss 126 128])
 (.ite (.t 129) .skip (.exit 2)))
 (.seq (.block 3 (.seq (.drw [(0,.m 132 8),(0,.m 133 13),(0,.xi 134 1 132 133),(0,.xl 135 134),(0,.xk 136 .neq 135 0),(0,.m 137 136),(0,.ym 138 137 true 10),(0,.ym 139 137 true 13),(0,.yi 140 137 true 1 138 139),(0,.yl 141 137 true 140),(0,.ym 142 137 true 8),(0,.ym 143 137 true 13),(0,.yi 144 137 true 1 142 143),(0,.yl 145 137 true 144)] [.u 146 137 true (.cmp .neq (.t 141) (.t 145)),.xp 147 137 146])
 (.ite (.t 147) (.seq (.reg [.xb 4 false])
 .ret) .skip)))
 (.reg [.m 130 13,.xa 131 130,.m 13 131]))))))
 (.seq (.reg [.xd 148 2 5,.m 149 1,.d 150 (.call (.func 33) #[(.t 148),(.t 149)]),.m 14 150])
 (.seq (.reg [.xd 152 2 2,.m 153 14,.d 154 (.call (.func 21) #[(.t 152),(.t 153)]),.m 151 154,.xe 155 151 0,.xe 156 151 1,.xe 157 151 2,.m 15 155,.m 16 156,.m 6 157])
 (.seq (.reg [.xd 159 2 5,.m 160 14,.d 161 (.call (.func 21) #[(.t 159),(.t 160)]),.m 158 161,.xe 162 158 0,.xe 163 158 1,.xe 164 158 2,.m 17 162,.m 18 163,.m 11 164])
 (.seq (.reg [.m 165 6,.xk 166 .eql 165 0,.m 167 166,.ym 168 167 true 11,.yk 169 167 true .eql 168 0,.xp 170 167 169,.m 171 170,.ym 172 171 true 15,.ym 173 171 true 17,.u 174 171 true (.call (.func 25) #[(.t 172),(.t 173)]),.xp 175 171 174,.m 176 175,.ym 177 176 true 16,.ym 178 176 true 18,.u 179 176 true (.call (.func 25) #[(.t 177),(.t 178)]),.xp 180 176 179,.m 181 180,.u 182 181 true (.call (.func 20) #[]),.xp 183 181 182,.m 4 183])
 .ret))))))))))))))
theorem Zc6:Zf Tryz.prog 16 184 Q4x [.t 4]:=.o [] [] Tryz.func16 (by kernel_rfl)
end Go.Proofs
end
