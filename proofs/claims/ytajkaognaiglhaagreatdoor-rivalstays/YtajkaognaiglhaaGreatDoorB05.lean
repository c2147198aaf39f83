/- Lemmas. No conditions. -/
import Derived.Test.YtajkaognaiglhaaGreatDoorProg
import Derived.Test.YtajkaognaiglhaaGreatDoorB01
set_option linter.all false
set_option maxRecDepth 100000
namespace Go.TM
open Go.Proofs
def M1:C:=(.sr [.xb 0 false]
 (.sr [.d 26 (.call (.func 17) #[]),.d 1 (.alloc 25 #[.nl,.nl]),⟨.st 2 (.t 1) (.t 26),none,none,none⟩]
 (.sr [.xd 28 2 1,.d 29 (.bsl 3 3 #[(.int .i64 0),(.int .i64 0),(.int .i64 0)] [(0,1,(.ci 0)),(1,1,(.ci 1)),(2,1,(.ci 2))]),.d 30 (.call (.func 18) #[(.t 28),(.t 29)]),.m 27 30,.xe 31 27 0,.xe 32 27 1,.xe 33 27 2,.m 2 31,.m 3 32,.m 4 33]
 (.sr [.xd 35 2 1,.d 36 (.bsl 3 3 #[(.int .i64 0),(.int .i64 0),(.int .i64 0)] [(0,1,(.ci 1)),(1,1,(.ci 0)),(2,1,(.ci 2))]),.d 37 (.call (.func 18) #[(.t 35),(.t 36)]),.m 34 37,.xe 38 34 0,.xe 39 34 1,.xe 40 34 2,.m 5 38,.m 6 39,.m 7 40]
 (.sr [.xd 42 2 1,.d 43 (.call (.func 19) #[(.t 42)]),.m 41 43,.xe 44 41 0,.xe 45 41 1,.xe 46 41 2,.m 8 44,.m 9 45,.m 10 46]
 (.sr [.xd 48 2 1,.d 49 (.call (.func 20) #[(.t 48),(.ci 1)]),.m 47 49,.xe 50 47 0,.xe 51 47 1,.xe 52 47 2,.m 11 50,.m 12 51,.m 13 52]
 (.sr [.xd 54 2 1,.d 55 (.call (.func 7) #[(.t 54),(.ci 1),(.cb true)]),.m 53 55,.xe 56 53 0,.xe 57 53 1,.xe 58 53 2,.m 14 56,.m 15 57,.m 16 58]
 (.sr [.xd 60 2 1,.d 61 (.call (.func 7) #[(.t 60),(.ci 2),(.cb true)]),.m 59 61,.xe 62 59 0,.xe 63 59 1,.xe 64 59 2,.m 17 62,.m 18 63,.m 19 64]
 (.sr [.xd 66 2 1,.d 67 (.call (.func 21) #[(.t 66),(.ci 1)]),.m 65 67,.xe 68 65 0,.xe 69 65 1,.m 20 68,.m 21 69]
 (.sr [.xd 71 2 1,.d 72 (.call (.func 22) #[(.t 71),(.ci 0)]),.m 70 72,.xe 73 70 0,.xe 74 70 1,.m 22 73,.m 23 74]
 (.sr [.xd 76 2 1,.d 77 (.call (.func 22) #[(.t 76),(.ci 1)]),.m 75 77,.xe 78 75 0,.xe 79 75 1,.m 24 78,.m 25 79]
 (.seq (.sr [.m 80 4,.xk 81 .neq 80 0,.m 82 81,.ym 83 82 false 7,.yk 84 82 false .neq 83 0,.xq 85 82 84,.m 86 85,.ym 87 86 false 10,.yk 88 86 false .neq 87 0,.xq 89 86 88,.m 90 89,.ym 91 90 false 13,.yk 92 90 false .neq 91 0,.xq 93 90 92,.m 94 93,.ym 95 94 false 16,.yk 96 94 false .neq 95 0,.xq 97 94 96,.m 98 97,.ym 99 98 false 19,.yk 100 98 false .neq 99 0,.xq 101 98 100,.m 102 101,.ym 103 102 false 21,.yk 104 102 false .neq 103 0,.xq 105 102 104,.m 106 105,.ym 107 106 false 23,.yk 108 106 false .neq 107 0,.xq 109 106 108,.m 110 109,.ym 111 110 false 25,.yk 112 110 false .neq 111 0,.xq 113 110 112,.m 114 113,.ym 115 114 false 15,.u 116 114 false (.not (.t 115)),.xq 117 114 116,.m 118 117,.ym 119 118 false 18,.u 120 118 false (.not (.t 119)),.xq 121 118 120]
 (.ite (.t 121) (.sr [.xb 0 false]
 .ret) .skip))
 (.sr [.m 122 2,.d 123 (.bsl 4 3 #[(.bool false),(.bool false),(.bool false)] [(0,1,(.cb false)),(1,1,(.cb false)),(2,1,(.cb true))]),.d 124 (.call (.func 23) #[(.t 122),(.t 123)]),.m 125 124,.ym 126 125 true 3,.u 127 125 true (.bsl 4 3 #[(.bool false),(.bool false),(.bool false)] [(0,1,(.cb true)),(1,1,(.cb true)),(2,1,(.cb false))]),.u 128 125 true (.call (.func 23) #[(.t 126),(.t 127)]),.xp 129 125 128,.m 130 129,.ym 131 130 true 5,.u 132 130 true (.bsl 4 3 #[(.bool false),(.bool false),(.bool false)] [(0,1,(.cb false)),(1,1,(.cb true)),(2,1,(.cb false))]),.u 133 130 true (.call (.func 23) #[(.t 131),(.t 132)]),.xp 134 130 133,.m 135 134,.ym 136 135 true 6,.u 137 135 true (.bsl 4 3 #[(.bool false),(.bool false),(.bool false)] [(0,1,(.cb false)),(1,1,(.cb true)),(2,1,(.cb true))]),.u 138 135 true (.call (.func 23) #[(.t 136),(.t 137)]),.xp 139 135 138,.m 140 139,.ym 141 140 true 8,.u 142 140 true (.bsl 38 3 #[(.int .i64 0),(.int .i64 0),(.int .i64 0)] [(0,1,(.ci 2)),(1,1,(.ci 0)),(2,1,(.ci 0))]),.u 143 140 true (.call (.func 24) #[(.t 141),(.t 142)]),.xp 144 140 143,.m 145 144,.ym 146 145 true 9,.u 147 145 true (.bsl 38 3 #[(.int .i64 0),(.int .i64 0),(.int .i64 0)] [(0,1,(.ci 0)),(1,1,(.ci 1)),(2,1,(.ci 0))]),.u 148 145 true (.call (.func 24) #[(.t 146),(.t 147)]),.xp 149 145 148,.m 150 149,.ym 151 150 true 11,.u 152 150 true (.bsl 3 3 #[(.int .i64 0),(.int .i64 0),(.int .i64 0)] [(0,1,(.ci 1)),(1,1,(.ci 0)),(2,1,(.ci 2))]),.u 153 150 true (.call (.func 25) #[(.t 151),(.t 152)]),.xp 154 150 153,.m 155 154,.ym 156 155 true 12,.u 157 155 true (.bsl 3 3 #[(.int .i64 0),(.int .i64 0),(.int .i64 0)] [(0,1,(.ci 0)),(1,1,(.ci 1)),(2,1,(.ci 2))]),.u 158 155 true (.call (.func 25) #[(.t 156),(.t 157)]),.xp 159 155 158,.m 160 159,.ym 161 160 true 14,.u 162 160 true (.build #[(.int .i64 0),(.int .i64 0)] [(1,1,(.ci 1))]),.u 163 160 true (.bsl 62 1 #[(.int .i64 0),(.int .i64 0)] [(0,2,(.t 162))]),.u 164 160 true (.call (.func 9) #[(.t 161),(.t 163)]),.xp 165 160 164,.m 166 165,.ym 167 166 true 17,.u 168 166 true (.build #[(.int .i64 0),(.int .i64 0)] [(0,1,(.ci 1))]),.u 169 166 true (.build #[(.int .i64 0),(.int .i64 0)] [(0,1,(.ci 2))]),.u 170 166 true (.bsl 62 2 #[(.int .i64 0),(.int .i64 0),(.int .i64 0),(.int .i64 0)] [(0,2,(.t 168)),(2,2,(.t 169))]),.u 171 166 true (.call (.func 9) #[(.t 167),(.t 170)]),.xp 172 166 171,.m 173 172,.ym 174 173 true 20,.u 175 173 true (.bsl 3 1 #[(.int .i64 0)] [(0,1,(.ci 0))]),.u 176 173 true (.call (.func 25) #[(.t 174),(.t 175)]),.xp 177 173 176,.m 178 177,.ym 179 178 true 22,.u 180 178 true (.bsl 3 1 #[(.int .i64 0)] [(0,1,(.ci 1))]),.u 181 178 true (.call (.func 25) #[(.t 179),(.t 180)]),.xp 182 178 181,.m 183 182,.ym 184 183 true 24,.u 185 183 true (.bsl 3 2 #[(.int .i64 0),(.int .i64 0)] [(0,1,(.ci 0)),(1,1,(.ci 1))]),.u 186 183 true (.call (.func 25) #[(.t 184),(.t 185)]),.xp 187 183 186,.m 0 187]
 .ret)))))))))))))
def M5:Zg Tryz.prog 6 188 M1 [.t 0]:=.o [] [] Tryz.func6 K1
def M4:C:=(.sr [.xb 4 false]
 (.seq (.sr [.m 6 0,.xn 7 6,.m 8 1,.xn 9 8,.xc 10 .neq 7 9]
 (.ite (.t 10) (.sr [.xb 4 false]
 .ret) .skip))
 (.seq (.sr [.xv 5 0]
 (.block 0 (.loop (.seq (.sr [.m 11 5,.m 12 0,.xn 13 12,.xc 14 .lss 11 13]
 (.ite (.t 14) .skip (.exit 0)))
 (.seq (.block 1 (.seq (.drw [(0,.m 17 0),(0,.m 18 5),(0,.xi 19 2 17 18),(0,.xd 20 2 19),(0,.m 21 1),(0,.m 22 5),(0,.xi 23 2 21 22),(0,.xd 24 2 23)] [.d 25 (.rw (.binOp .neq 62 (.t 20) (.t 24) 62) 4)])
 (.ite (.t 25) (.sr [.xb 4 false]
 .ret) .skip)))
 (.reg [.m 15 5,.xa 16 15,.m 5 16]))))))
 (.sr [.xb 4 true]
 .ret))))
def YU:Zg Tryz.prog 9 26 M4 [.t 4]:=.o [] [25] Tryz.func9 K1
def Il:C:=(.sr [.d 0 (.alloc 25 #[.nl,.nl])]
 (.sr [⟨.bsl 9 3 #[(.string ⟨#[]⟩),(.string ⟨#[]⟩),(.string ⟨#[]⟩)] [(0,1,(.const (.string ⟨#[97,122,117,114]⟩))),(1,1,(.const (.string ⟨#[98,111,114,97]⟩))),(2,1,(.const (.string ⟨#[99,105,109,97]⟩)))],some 1,none,none⟩,.d 2 (.bsl 3 1 #[(.int .i64 0)] [(0,1,(.ci 0))]),.d 3 (.bsl 44 1 #[.nl] [(0,1,(.t 2))]),⟨.build #[(.string ⟨#[]⟩),(.int .i64 0),.nl,.nl] [(0,1,(.const (.string ⟨#[111,112,112]⟩))),(1,1,(.ci 1)),(2,1,(.t 3))],some 4,none,none⟩,.d 5 (.bsl 44 1 #[.nl] [(0,1,.cn)]),⟨.build #[(.string ⟨#[]⟩),(.int .i64 0),.nl,.nl] [(0,1,(.const (.string ⟨#[114,101,118]⟩))),(2,1,(.t 5))],some 6,none,none⟩,.d 7 (.bsl 3 1 #[(.int .i64 0)] [(0,1,(.ci 1))]),.d 8 (.bsl 44 1 #[.nl] [(0,1,(.t 7))]),⟨.build #[(.string ⟨#[]⟩),(.int .i64 0),.nl,.nl] [(0,1,(.const (.string ⟨#[105,110,118]⟩))),(1,1,(.ci 2)),(2,1,(.t 8))],some 9,none,none⟩,.d 10 (.bsl 46 3 #[(.string ⟨#[]⟩),(.int .i64 0),.nl,.nl,(.string ⟨#[]⟩),(.int .i64 0),.nl,.nl,(.string ⟨#[]⟩),(.int .i64 0),.nl,.nl] [(0,4,(.t 4)),(4,4,(.t 6)),(8,4,(.t 9))]),.d 11 (.build #[.nl,.nl] [(0,1,(.t 1)),(1,1,(.t 10))]),⟨.st 2 (.t 0) (.t 11),none,none,none⟩]
 .ret))
def Dp:Zg Tryz.prog 17 12 Il [.cn 0 2]:=.o [] [] Tryz.func17 K1
