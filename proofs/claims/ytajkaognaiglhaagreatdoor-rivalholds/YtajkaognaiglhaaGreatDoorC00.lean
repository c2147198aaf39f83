/- Lemmas. No conditions. -/
import Derived.Test.YtajkaognaiglhaaGreatDoorProg
import Derived.Test.YtajkaognaiglhaaGreatDoorB01
set_option linter.all false
set_option maxRecDepth 100000
noncomputable section
namespace Go.Proofs
open Go.TM
noncomputable def Zej:C:=(.seq (.reg [.d 4 (.box 25 (.t 0)),.xb 8 false])
 (.seq (.seq (.reg [.xd 29 2 4,.d 30 (.call (.func 13) #[(.t 29)]),.xt 31 30,.m 32 31,.yo 33 32 false 0 4,.yl 34 32 false 33,.yn 35 32 false 34,.yk 36 32 false .eql 35 0,.xq 37 32 36])
 (.ite (.t 37) (.seq (.reg [.d 38 (.call (.func 6) #[]),.m 8 38])
 .ret) .skip))
 (.seq (.reg [.m 39 1,.d 40 (.conv .i64 (.t 39)),.xo 41 0 4,.xl 42 41,.xn 43 42,.d 44 (.ar .rem (.t 40) (.t 43)),.m 9 44,.xv 10 2])
 (.seq (.seq (.reg [.m 45 2])
 (.ite (.t 45) (.reg [.xv 10 1]) .skip))
 (.seq (.reg [.xd 47 2 4,.m 48 9,.m 49 2,.d 50 (.call (.func 7) #[(.t 47),(.t 48),(.t 49)]),.m 46 50,.xe 51 46 0,.xe 52 46 1,.xe 53 46 2,.m 11 51,.m 12 52,.m 13 53])
 (.seq (.reg [.xd 55 2 4,.m 56 9,.d 57 (.call (.func 14) #[(.t 55),(.t 56)]),.m 54 57,.xe 58 54 0,.xe 59 54 1,.m 14 58,.m 15 59])
 (.seq (.seq (.reg [.m 60 13,.xk 61 .neq 60 0,.m 62 61,.ym 63 62 false 15,.u 64 62 false (.not (.t 63)),.xq 65 62 64,.m 66 65,.ym 67 66 false 12,.ym 68 66 false 14,.yk 69 66 false .eql 68 0,.ym 70 66 false 69,.ym 71 70 false 14,.ym 72 70 false 10,.u 73 70 false (.cmp .eql (.t 71) (.t 72)),.u 74 66 false (.pick (.t 70) (.cb true) (.t 73)),.u 75 66 false (.beq .neq (.t 67) (.t 74)),.xq 76 66 75,.m 77 76,.ym 78 77 false 12,.u 79 77 false (.not (.t 78)),.ym 80 77 false 79,.ym 81 80 true 11,.yn 82 80 true 81,.yk 83 80 true .gtr 82 0,.u 84 77 false (.pick (.t 80) (.t 83) (.cb false)),.xq 85 77 84])
 (.ite (.t 85) (.seq (.reg [.xb 8 false])
 .ret) .skip))
 (.seq (.reg [.xd 86 2 4,.m 87 3,.d 88 (.call (.func 15) #[(.t 86),(.t 87)]),.m 16 88])
 (.seq (.reg [.xd 90 2 4,.m 91 16,.d 92 (.call (.func 10) #[(.t 90),(.t 91)]),.m 89 92,.xe 93 89 0,.xe 94 89 1,.d 17 (.alloc 25 #[(.slice none 0 0),(.slice none 0 0)]),⟨.st 2 (.t 17) (.t 93),none,none,none⟩,.m 13 94])
 (.seq (.seq (.reg [.m 95 13,.xk 96 .eql 95 0])
 (.ite (.t 96) (.seq (.reg [.xd 98 2 17,.m 99 9,.d 100 (.call (.func 14) #[(.t 98),(.t 99)]),.m 97 100,.xe 101 97 0,.xe 102 97 1,.m 18 101,.m 19 102])
 (.seq (.seq (.reg [.m 103 19,.xt 104 103,.m 105 104,.ym 106 105 false 18,.ym 107 105 false 10,.u 108 105 false (.cmp .eql (.t 106) (.t 107)),.ym 109 105 false 108,.ym 110 109 true 12,.u 111 109 true (.not (.t 110)),.ym 112 109 true 111,.ym 113 112 false 16,.yn 114 112 false 113,.ym 115 112 false 11,.yn 116 112 false 115,.u 117 112 false (.cmp .lss (.t 114) (.t 116)),.u 118 109 true (.pick (.t 112) (.cb true) (.t 117)),.u 119 105 false (.pick (.t 109) (.t 118) (.cb false)),.xq 120 105 119])
 (.ite (.t 120) (.seq (.reg [.xb 8 false])
 .ret) .skip))
 (.seq (.reg [.xb 20 true])
 (.seq (.seq (.reg [.xv 21 1])
 (.block 0 (.loop (.seq (.seq (.reg [.m 121 21,.m 122 16,.xn 123 122,.xc 124 .lss 121 123])
 (.ite (.t 124) .skip (.exit 0)))
 (.seq (.block 1 (.drw [(0,.m 127 20),(0,.m 128 127),(0,.ym 129 128 true 16),(0,.ym 130 128 true 21),(0,.u 131 128 true (.sub (.t 130) (.ci 1))),(0,.ym 132 128 true 21),(0,.u 133 128 true (.sub3 2 (.t 129) (some (.t 131)) (some (.t 132)))),(0,.ym 134 128 true 16),(0,.ym 135 128 true 21),(0,.ym 136 128 true 21),(0,.u 137 128 true (.add (.t 136) (.ci 1))),(0,.u 138 128 true (.sub3 2 (.t 134) (some (.t 135)) (some (.t 137))))] [.u 139 128 true (.call (.func 16) #[(.t 133),(.t 138)]),.xp 140 128 139,.m 20 140]))
 (.reg [.m 125 21,.xa 126 125,.m 21 126]))))))
 (.seq (.reg [.m 141 18,.m 142 10,.xc 143 .eql 141 142,.m 144 143,.ym 145 144 true 20,.xp 146 144 145,.m 147 146,.ym 148 147 true 16,.yn 149 147 true 148,.ym 150 147 true 11,.yn 151 147 true 150,.u 152 147 true (.cmp .eql (.t 149) (.t 151)),.xp 153 147 152,.m 154 153,.ym 155 154 true 16,.ym 156 154 true 11,.u 157 154 true (.call (.func 16) #[(.t 155),(.t 156)]),.xp 158 154 157])
 (.ite (.t 158) (.seq (.reg [.xb 8 false])
 .ret) .skip)))))) .skip))
 (.seq (.seq (.reg [.m 159 12,.xt 160 159])
 (.ite (.t 160) (.seq (.reg [.d 161 (.call (.func 6) #[]),.m 8 161])
 .ret) .skip))
 (.seq (.reg [.xd 163 2 4,.m 164 11,.d 165 (.call (.func 10) #[(.t 163),(.t 164)]),.m 162 165,.xe 166 162 0,.xe 167 162 1,⟨.st 2 (.t 17) (.t 166),none,none,none⟩,.m 13 167])
 (.seq (.reg [.xd 169 2 17,.m 170 9,.d 171 (.call (.func 14) #[(.t 169),(.t 170)]),.m 168 171,.xe 172 168 0,.xe 173 168 1,.m 22 172,.m 23 173])
 (.seq (.seq (.reg [.m 174 13,.xk 175 .neq 174 0,.m 176 175,.ym 177 176 false 23,.u 178 176 false (.not (.t 177)),.xq 179 176 178,.m 180 179,.ym 181 180 false 22,.ym 182 180 false 10,.u 183 180 false (.cmp .neq (.t 181) (.t 182)),.xq 184 180 183])
 (.ite (.t 184) (.seq (.reg [.xb 8 false])
 .ret) .skip))
 (.seq (.seq (.reg [.xv 24 0])
 (.block 2 (.loop (.seq (.seq (.reg [.m 185 24,.m 186 11,.xn 187 186,.xc 188 .lss 185 187])
 (.ite (.t 188) .skip (.exit 2)))
 (.seq (.block 3 (.seq (.cd 224 (Zl Tryz.f4 32))
 (.seq (.reg [.xd 207 2 25,.m 208 9,.d 209 (.call (.func 14) #[(.t 207),(.t 208)]),.m 206 209,.xe 210 206 0,.xe 211 206 1,.m 27 210,.m 28 211])
 (.seq (.reg [.m 212 26,.xk 213 .neq 212 0,.m 214 213,.ym 215 214 false 28,.u 216 214 false (.not (.t 215)),.xq 217 214 216,.m 218 217,.ym 219 218 false 27,.ym 220 218 false 10,.u 221 218 false (.cmp .eql (.t 219) (.t 220)),.xq 222 218 221])
 (.ite (.t 222) (.seq (.reg [.xb 8 false])
 .ret) .skip)))))
 (.reg [.m 189 24,.xa 190 189,.m 24 190]))))))
 (.seq (.reg [.d 223 (.call (.func 6) #[]),.m 8 223])
 .ret))))))))))))))))
def Zel:Zg Tryz.prog 4 224 Zej [.t 8]:=.o [] [139] Tryz.func4 K1
end Go.Proofs
end

