/- Lemmas. No conditions. -/
import Derived.Test.YtnjljnhoaafkiaaGreatDoorProg
import Derived.Test.YtnjljnhoaafkiaaGreatDoorB01
set_option linter.all false
set_option maxRecDepth 100000
noncomputable section
namespace Go.Proofs
open Go.TM
noncomputable def Zto:C:=(.seq (.reg [.d 5 (.box 26 (.t 0)),.xb 10 false])
 (.seq (.seq (.reg [.xd 29 3 5,.d 30 (.call (.func 5) #[(.t 29)]),.xt 31 30])
 (.ite (.t 31) (.seq (.reg [.d 32 (.call (.func 6) #[]),.m 10 32])
 .ret) .skip))
 (.seq (.reg [.m 33 1,.d 34 (.conv .i64 (.t 33)),.xo 35 0 5,.xl 36 35,.xn 37 36,.d 38 (.ar .rem (.t 34) (.t 37)),.m 39 4,.d 40 (.conv .i64 (.t 39)),.d 41 (.ar .rem (.t 40) (.ci 5)),.d 42 (.add (.ci 1) (.t 41)),.m 11 38,.m 12 42])
 (.seq (.drw [(0,.xd 43 3 5),(0,.m 44 11),(0,.m 45 2),(0,.xd 47 3 5),(0,.m 48 11),(0,.m 49 3),(2,.d 46 (.call (.func 7) #[(.t 43),(.t 44),(.t 45)]))] [.d 50 (.call (.func 7) #[(.t 47),(.t 48),(.t 49)]),.m 13 46,.m 14 50])
 (.seq (.seq (.reg [.m 51 13,.xn 52 51,.xk 53 .gtr 52 5])
 (.ite (.t 53) (.reg [.m 54 13,.d 55 (.sub3 1 (.t 54) none (some (.ci 5))),.m 13 55]) .skip))
 (.seq (.reg [.xd 57 3 5,.m 58 11,.m 59 13,.m 60 14,.m 61 12,.d 62 (.call (.func 8) #[(.t 57),(.t 58),(.t 59),(.t 60),(.t 61)]),.m 56 62,.xe 63 56 0,.xe 64 56 1,.m 15 63,.m 16 64])
 (.seq (.seq (.reg [.m 65 16,.xk 66 .neq 65 0])
 (.ite (.t 66) (.seq (.reg [.xb 10 false])
 .ret) .skip))
 (.seq (.reg [⟨.bsl 9 1 #[(.string ⟨#[]⟩)] [(0,1,(.const (.string ⟨#[111,119,110,101,114]⟩)))],some 67,none,none⟩,.d 68 (.build #[(.slice none 0 0),(.slice none 0 0)] [(0,1,(.t 67))]),.d 17 (.alloc 38 #[(.slice none 0 0),(.slice none 0 0)]),⟨.st 2 (.t 17) (.t 68),none,none,none⟩])
 (.seq (.reg [.xs 18])
 (.seq (.seq (.reg [.xv 19 0])
 (.block 0 (.loop (.seq (.seq (.reg [.m 69 19,.m 70 13,.xn 71 70,.xc 72 .lss 69 71])
 (.ite (.t 72) .skip (.exit 0)))
 (.seq (.block 1 (.seq (.cd 206 (GL Tryz.f3 15))
 (.seq (.reg [.xb 20 false])
 (.seq (.seq (.reg [.xv 21 0])
 (.block 2 (.loop (.seq (.seq (.reg [.m 82 21,.m 83 15,.xn 84 83,.xc 85 .lss 82 84])
 (.ite (.t 85) .skip (.exit 2)))
 (.seq (.block 3 (.drw [(0,.m 88 20),(0,.m 89 88),(0,.ym 90 89 false 15),(0,.ym 91 89 false 21),(0,.yi 92 89 false 2 90 91),(0,.yo 93 89 false 0 92),(0,.yl 94 89 false 93),(0,.ym 95 89 false 13),(0,.ym 96 89 false 19),(0,.yi 97 89 false 1 95 96),(0,.yl 98 89 false 97)] [.u 99 89 false (.cmp .eql (.t 94) (.t 98)),.xq 100 89 99,.m 20 100]))
 (.reg [.m 86 21,.xa 87 86,.m 21 87]))))))
 (.seq (.reg [.m 101 20])
 (.ite (.t 101) (.seq (.cd 206 (GL Tryz.f3 22))
 (.cd 206 (GL Tryz.f3 23))) .skip))))))
 (.reg [.m 73 19,.xa 74 73,.m 19 74]))))))
 (.seq (.cd 206 (GL Tryz.f3 24))
 (.seq (.reg [.xd 128 3 5,.m 129 11,.m 130 13,.m 131 18,.d 132 (.build #[(.slice none 0 0),(.bool false)] [(0,1,(.t 131))]),.d 133 (.bsl 51 1 #[(.slice none 0 0),(.bool false)] [(0,2,(.t 132))]),.d 134 (.call (.func 11) #[(.t 128),(.t 129),(.t 130),(.t 133)]),.m 127 134,.xe 135 127 0,.xe 136 127 1,.m 24 135,.m 25 136])
 (.seq (.seq (.reg [.m 137 16,.xk 138 .neq 137 0,.m 139 138,.ym 140 139 false 25,.yk 141 139 false .neq 140 0,.xq 142 139 141,.m 143 142,.ym 144 143 false 22,.yn 145 143 false 144,.ym 146 143 false 13,.yn 147 143 false 146,.u 148 143 false (.add (.t 147) (.ci 1)),.u 149 143 false (.cmp .neq (.t 145) (.t 148)),.xq 150 143 149,.m 151 150,.ym 152 151 false 22,.u 153 151 false (.idx 1 (.t 152) (.ci 0)),.yl 154 151 false 153,.yk 155 151 false .neq 154 1,.xq 156 151 155])
 (.ite (.t 156) (.seq (.reg [.xb 10 false])
 .ret) .skip))
 (.seq (.reg [.xs 26])
 (.seq (.seq (.reg [.xv 27 0])
 (.block 4 (.loop (.seq (.seq (.reg [.m 157 27,.m 158 13,.xn 159 158,.xc 160 .lss 157 159])
 (.ite (.t 160) .skip (.exit 4)))
 (.seq (.block 5 (.seq (.seq (.reg [.m 163 22,.m 164 27,.xa 165 164,.xi 166 1 163 165,.xl 167 166,.xk 168 .eql 167 0])
 (.ite (.t 168) (.seq (.reg [.xb 10 false])
 .ret) .skip))
 (.seq (.reg [.m 169 22,.m 170 27,.xa 171 170,.xi 172 1 169 171,.xl 173 172,.xk 174 .eql 173 1])
 (.ite (.t 174) (.reg [.m 175 26,.m 176 13,.m 177 27,.xi 178 1 176 177,.xl 179 178,.d 180 (.bsl 3 1 #[(.int .i64 0)] [(0,1,(.t 179))]),.xz 181 175 180 29,.m 26 181]) .skip))))
 (.reg [.m 161 27,.xa 162 161,.m 27 162]))))))
 (.seq (.cd 206 (GL Tryz.f3 36))
 (.seq (.reg [.m 191 16,.xk 192 .eql 191 0,.m 193 192,.ym 194 193 true 28,.yn 195 193 true 194,.yk 196 193 true .eql 195 0,.xp 197 193 196,.m 198 197,.ym 199 198 true 26,.ym 200 198 true 24,.u 201 198 true (.call (.func 12) #[(.t 199),(.t 200)]),.xp 202 198 201,.m 203 202,.u 204 203 true (.call (.func 6) #[]),.xp 205 203 204,.m 10 205])
 .ret)))))))))))))))))
def Zts:Zl Tryz.prog 3 206 Zto [.t 10]:=.o [1015,1022,1023,1024,1036] [78,112] Tryz.func3 K1
end Go.Proofs
end





