/- Lemmas. No conditions. -/
import Derived.Test.YtajkaognaiglhaaGreatDoorProg
import Derived.Test.YtajkaognaiglhaaGreatDoorB01
set_option linter.all false
set_option maxRecDepth 100000
open Go.Proofs.Tryz (prog)
noncomputable section
namespace Go.TM
open Go.Proofs
def I7:C:=(.sr [.xb 6 false]
 (.sr [.m 7 1,.m 8 0,.xc 9 .leq 7 8,.m 10 9,.ym 11 10 true 0,.ym 12 10 true 2,.u 13 10 true (.cmp .leq (.t 11) (.t 12)),.xp 14 10 13,.m 6 14]
 .ret))
def Gn:Zg prog 38 15 I7 [.t 6]:=.o [] [] Tryz.func38 K1
def IA:C:=(.sr [.xb 4 false]
 (.sr [.m 5 0,.m 6 1,.d 7 (.call (.func 77) #[(.t 5),(.t 6)]),.xk 8 .geq 7 0,.m 4 8]
 .ret))
def Ys:Zg prog 39 9 IA [.t 4]:=.o [] [] Tryz.func39 K1
def Ir:C:=(.sr [.xv 4 0]
 (.seq (.sr [.m 6 0,.xn 7 6,.xv 8 0]
 (.block 0 (.loop (.sr [.xc 9 .lss 8 7]
 (.seq (.ite (.t 9) .skip (.exit 0))
 (.seq (.block 1 (.sr [.m 10 8,.m 5 10]
 (.sr [.m 11 1,.m 12 0,.m 13 5,.xi 14 1 12 13,.xl 15 14,.xc 16 .eql 11 15]
 (.ite (.t 16) (.sr [.m 17 5,.m 4 17]
 .ret) .skip))))
 (.reg [.xa 18 8,.m 8 18])))))))
 (.sr [.xv 4 (-1)]
 .ret)))
def DH:Zg prog 77 19 Ir [.t 4]:=.o [] [] Tryz.func77 K1
def F2:C:=(.sr [.xs 2]
 (.seq (.sr [.m 3 0,.d 4 (.rw (.binOp .eql 44 (.t 3) .cn 44) 4)]
 (.ite (.t 4) (.sr [.xs 2]
 .ret) .skip))
 (.sr [.d 5 (.bsl 3 0 #[] []),.m 6 0,.d 7 (.rw (.call { callee:=.builtin .append,args:=#[(.t 5),(.t 6)],argTypes:=#[44,44] }) 44),.m 2 7]
 .ret)))
def P9:Zg prog 112 8 F2 [.t 2]:=.o [] [] Tryz.func112 K1
def ET:C:=(.sr [.xb 2 false]
 (.seq (.sr [.m 3 0,.d 4 (.lenT (.t 3)),.d 5 (.call (.func 38) #[(.t 4),(.ci 1),(.ci 10)]),.xt 6 5,.m 7 6,.ym 8 7 false 0,.u 9 7 false (.sidx (.t 8) (.ci 0)),.u 10 7 false (.cmp .lss (.t 9) (.const (.int .u8 97))),.xq 11 7 10,.m 12 11,.ym 13 12 false 0,.u 14 12 false (.sidx (.t 13) (.ci 0)),.u 15 12 false (.cmp .gtr (.t 14) (.const (.int .u8 122))),.xq 16 12 15]
 (.ite (.t 16) (.sr [.xb 2 false]
 .ret) .skip))
 (.sr [.m 17 0,.d 18 (.rw (.convert 9 228 (.t 17)) 228),.d 19 (.call (.func 179) #[(.t 18),(.func 180)]),.xt 20 19,.m 2 20]
 .ret)))
def UM:Zg prog 178 21 ET [.t 2]:=.o [] [] Tryz.func178 K1
def EU:C:=(.sr [.xb 4 false]
 (.sr [.m 5 0,.m 6 1,.d 7 (.call (.func 181) #[(.t 5),(.t 6)]),.xk 8 .geq 7 0,.m 4 8]
 .ret))
def UN:Zg prog 179 9 EU [.t 4]:=.o [] [] Tryz.func179 K1
def EV:C:=(.sr [.xb 2 false]
 (.sr [.m 3 0,.d 4 (.cmp .lss (.t 3) (.const (.int .u8 97))),.m 5 4,.ym 6 5 false 0,.u 7 5 false (.cmp .gtr (.t 6) (.const (.int .u8 122))),.xq 8 5 7,.m 9 8,.ym 10 9 true 0,.u 11 9 true (.cmp .lss (.t 10) (.const (.int .u8 48))),.ym 12 9 true 11,.ym 13 12 false 0,.u 14 12 false (.cmp .gtr (.t 13) (.const (.int .u8 57))),.u 15 9 true (.pick (.t 12) (.cb true) (.t 14)),.xp 16 9 15,.m 2 16]
 .ret))
def UO:Zg prog 180 17 EV [.t 2]:=.o [] [] Tryz.func180 K1
def EW:C:=(.sr [.xv 4 0]
 (.seq (.sr [.m 6 0,.xn 7 6,.xv 8 0]
 (.block 0 (.loop (.sr [.xc 9 .lss 8 7]
 (.seq (.ite (.t 9) .skip (.exit 0))
 (.seq (.block 1 (.sr [.m 10 8,.m 5 10]
 (.sr [.m 11 1,.m 12 0,.m 13 5,.xi 14 1 12 13,.xl 15 14,.d 16 (.call (.t 11) #[(.t 15)])]
 (.ite (.t 16) (.sr [.m 17 5,.m 4 17]
 .ret) .skip))))
 (.reg [.xa 18 8,.m 8 18])))))))
 (.sr [.xv 4 (-1)]
 .ret)))
def UP:Zg prog 181 19 EW [.t 4]:=.o [] [] Tryz.func181 K1
def F7:C:=(.sr [.xb 4 false]
 (.sr [.m 5 0,.m 6 1,.d 7 (.call (.func 142) #[(.t 5),(.t 6)]),.xk 8 .geq 7 0,.m 4 8]
 .ret))
def UA:Zg prog 118 9 F7 [.t 4]:=.o [] [] Tryz.func118 K1
def Fh:C:=(.sr [.xv 4 0]
 (.seq (.sr [.m 6 0,.xn 7 6,.xv 8 0]
 (.block 0 (.loop (.sr [.xc 9 .lss 8 7]
 (.seq (.ite (.t 9) .skip (.exit 0))
 (.seq (.block 1 (.sr [.m 10 8,.m 5 10]
 (.sr [.m 11 1,.m 12 0,.m 13 5,.xi 14 1 12 13,.xl 15 14,.d 16 (.call (.t 11) #[(.t 15)])]
 (.ite (.t 16) (.sr [.m 17 5,.m 4 17]
 .ret) .skip))))
 (.reg [.xa 18 8,.m 8 18])))))))
 (.sr [.xv 4 (-1)]
 .ret)))
def UH:Zg prog 142 19 Fh [.t 4]:=.o [] [] Tryz.func142 K1
def Fg:C:=(.sr [.xv 4 0]
 (.seq (.sr [.m 6 0,.xn 7 6,.xv 8 0]
 (.block 0 (.loop (.sr [.xc 9 .lss 8 7]
 (.seq (.ite (.t 9) .skip (.exit 0))
 (.seq (.block 1 (.sr [.m 10 8,.m 5 10]
 (.sr [.m 11 1,.m 12 0,.m 13 5,.xi 14 1 12 13,.xl 15 14,.d 16 (.call (.t 11) #[(.t 15)])]
 (.ite (.t 16) (.sr [.m 17 5,.m 4 17]
 .ret) .skip))))
 (.reg [.xa 18 8,.m 8 18])))))))
 (.sr [.xv 4 (-1)]
 .ret)))
def UG:Zg prog 141 19 Fg [.t 4]:=.o [] [] Tryz.func141 K1
def F5:C:=(.sr [.xb 4 false]
 (.sr [.m 5 0,.m 6 1,.d 7 (.call (.func 141) #[(.t 5),(.t 6)]),.xk 8 .geq 7 0,.m 4 8]
 .ret))
def Um:Zg prog 116 9 F5 [.t 4]:=.o [] [] Tryz.func116 K1
def Is:C:=(.sr [.m 3 0,.xn 4 3,.m 2 4]
 (.reg [.m 5 0,.m 6 2,.m 7 2,.d 8 (.conv .u64 (.t 7)),.d 9 (.call (.func 114) #[(.t 8)]),.d 10 (.call (.func 113) #[(.t 5),(.ci 0),(.t 6),(.t 9)])]))
def DI:Zg prog 78 11 Is []:=.o [] [] Tryz.func78 K1
def F3:C:=(.sr [.xb 8 true]
 (.sr [.xb 9 true]
 (.block 0 (.loop (.block 1 (.sr [.m 19 2,.m 20 1,.d 21 (.sub (.t 19) (.t 20)),.m 10 21]
 (.seq (.sr [.m 22 10,.xk 23 .leq 22 12]
 (.ite (.t 23) (.sr [.m 24 0,.m 25 1,.m 26 2,.d 27 (.call (.func 130) #[(.t 24),(.t 25),(.t 26)])]
 .ret) .skip))
 (.seq (.sr [.m 28 3,.xk 29 .eql 28 0]
 (.ite (.t 29) (.sr [.m 30 0,.m 31 1,.m 32 2,.d 33 (.call (.func 131) #[(.t 30),(.t 31),(.t 32)])]
 .ret) .skip))
 (.seq (.sr [.m 34 8,.xt 35 34]
 (.ite (.t 35) (.sr [.m 36 0,.m 37 1,.m 38 2,.d 39 (.call (.func 132) #[(.t 36),(.t 37),(.t 38)])]
 (.reg [.m 40 3,.d 41 (.sub (.t 40) (.ci 1)),.m 3 41])) .skip))
 (.sr [.m 43 0,.m 44 1,.m 45 2,.d 46 (.call (.func 133) #[(.t 43),(.t 44),(.t 45)]),.m 42 46,.xe 47 42 0,.xe 48 42 1,.m 11 47,.m 12 48]
 (.seq (.sr [.m 49 12,.xk 50 .eql 49 2]
 (.ite (.t 50) (.sr [.m 51 0,.m 52 1,.m 53 2,.d 54 (.call (.func 134) #[(.t 51),(.t 52),(.t 53)])]
 (.sr [.m 55 2,.d 56 (.sub (.t 55) (.ci 1)),.m 57 11,.m 58 1,.d 59 (.sub (.t 57) (.t 58)),.d 60 (.sub (.t 56) (.t 59)),.m 11 60]
 (.reg [.xv 12 1]))) .skip))
 (.seq (.sr [.m 61 8,.m 62 61,.ym 63 62 true 9,.xp 64 62 63,.m 65 64,.ym 66 65 true 12,.yk 67 65 true .eql 66 1,.xp 68 65 67]
 (.ite (.t 68) (.sr [.m 69 0,.m 70 1,.m 71 2,.d 72 (.call (.func 135) #[(.t 69),(.t 70),(.t 71)])]
 (.ite (.t 72) .ret .skip)) .skip))
 (.seq (.seq (.drw [(0,.m 73 1),(0,.xk 74 .gtr 73 0),(0,.m 75 74),(0,.ym 76 75 true 0),(0,.ym 77 75 true 1),(0,.u 78 75 true (.sub (.t 77) (.ci 1))),(0,.yi 79 75 true 1 76 78),(0,.yl 80 75 true 79),(0,.ym 81 75 true 0),(0,.ym 82 75 true 11),(0,.yi 83 75 true 1 81 82),(0,.yl 84 75 true 83)] [.u 85 75 true (.call (.func 136) #[(.t 80),(.t 84)]),.u 86 75 true (.not (.t 85)),.xp 87 75 86])
 (.ite (.t 87) (.sr [.m 88 0,.m 89 1,.m 90 2,.m 91 11,.d 92 (.call (.func 137) #[(.t 88),(.t 89),(.t 90),(.t 91)]),.m 13 92]
 (.sr [.m 93 13,.m 1 93]
 (.exit 1))) .skip))
 (.sr [.m 95 0,.m 96 1,.m 97 2,.m 98 11,.d 99 (.call (.func 138) #[(.t 95),(.t 96),(.t 97),(.t 98)]),.m 94 99,.xe 100 94 0,.xe 101 94 1,.m 14 100,.m 15 101]
 (.sr [.m 102 15,.m 9 102]
 (.sr [.m 103 14,.m 104 1,.d 105 (.sub (.t 103) (.t 104)),.m 106 2,.m 107 14,.d 108 (.sub (.t 106) (.t 107)),.m 16 105,.m 17 108]
 (.sr [.m 109 10,.d 110 (.ar .quo (.t 109) (.ci 8)),.m 18 110]
 (.sr [.m 111 16,.m 112 17,.xc 113 .lss 111 112]
 (.ite (.t 113) (.sr [.m 114 16,.m 115 18,.xc 116 .geq 114 115,.m 8 116]
 (.sr [.m 117 0,.m 118 1,.m 119 14,.m 120 3,.d 121 (.call (.func 113) #[(.t 117),(.t 118),(.t 119),(.t 120)])]
 (.reg [.m 122 14,.xa 123 122,.m 1 123]))) (.sr [.m 124 17,.m 125 18,.xc 126 .geq 124 125,.m 8 126]
 (.sr [.m 127 0,.m 128 14,.xa 129 128,.m 130 2,.m 131 3,.d 132 (.call (.func 113) #[(.t 127),(.t 129),(.t 130),(.t 131)])]
 (.reg [.m 133 14,.m 2 133]))))))))))))))))))))))
def Uk:Zg prog 113 134 F3 []:=.o [] [85] Tryz.func113 K1
def Fc:C:=(.sr [.m 8 1,.xa 9 8,.m 6 9]
 (.block 0 (.loop (.seq (.sr [.m 10 6,.m 11 2,.xc 12 .lss 10 11]
 (.ite (.t 12) .skip (.exit 0)))
 (.seq (.block 1 (.sr [.m 15 6,.m 7 15]
 (.block 2 (.loop (.seq (.seq (.drw [(0,.m 16 7),(0,.m 17 1),(0,.xc 18 .gtr 16 17),(0,.m 19 18),(0,.ym 20 19 true 0),(0,.ym 21 19 true 7),(0,.yi 22 19 true 1 20 21),(0,.yl 23 19 true 22),(0,.ym 24 19 true 0),(0,.ym 25 19 true 7),(0,.u 26 19 true (.sub (.t 25) (.ci 1))),(0,.yi 27 19 true 1 24 26),(0,.yl 28 19 true 27)] [.u 29 19 true (.call (.func 136) #[(.t 23),(.t 28)]),.xp 30 19 29])
 (.ite (.t 30) .skip (.exit 2)))
 (.seq (.block 3 (.drs [(0,.m 33 0),(0,.m 34 7),(0,.m 35 0),(0,.m 36 7),(0,.d 37 (.sub (.t 36) (.ci 1))),(0,.m 38 0),(0,.m 39 7),(0,.d 40 (.sub (.t 39) (.ci 1))),(0,.xi 41 1 38 40),(0,.xl 42 41),(0,.m 43 0),(0,.m 44 7),(0,.xi 45 1 43 44),(0,.xl 46 45),(0,.xi 47 1 33 34)] ⟨.st 1 (.t 47) (.t 42),none,none,none⟩ [.xi 48 1 35 37,⟨.st 1 (.t 48) (.t 46),none,none,none⟩]))
 (.reg [.m 31 7,.d 32 (.sub (.t 31) (.ci 1)),.m 7 32])))))))
 (.reg [.m 13 6,.xa 14 13,.m 6 14]))))))
def Vy:Zg prog 130 49 Fc []:=.o [] [29] Tryz.func130 K1
def F4:C:=(.sr [.xv 2 0]
 (.seq (.ite (.cb false) (.sr [.m 3 0,.d 4 (.conv .u32 (.t 3)),.d 5 (.call (.func 139) #[(.t 4)]),.m 2 5]
 .ret) .skip)
 (.sr [.m 6 0,.d 7 (.call (.func 140) #[(.t 6)]),.m 2 7]
 .ret)))
def Ul:Zg prog 114 8 F4 [.t 2]:=.o [] [] Tryz.func114 K1
def Ff:C:=(.sr [.xv 2 0]
 (.seq (.sr [.m 3 0,.d 4 (.cmp .geq (.t 3) (.const (.int .u64 4294967296)))]
 (.ite (.t 4) (.sr [.m 5 0,.d 6 (.ar .shr (.t 5) (.const (.int .u64 32))),.m 0 6]
 (.reg [.xv 2 32])) .skip))
 (.seq (.sr [.m 7 0,.d 8 (.cmp .geq (.t 7) (.const (.int .u64 65536)))]
 (.ite (.t 8) (.sr [.m 9 0,.d 10 (.ar .shr (.t 9) (.const (.int .u64 16))),.m 0 10]
 (.reg [.m 11 2,.d 12 (.add (.t 11) (.ci 16)),.m 2 12])) .skip))
 (.seq (.sr [.m 13 0,.d 14 (.cmp .geq (.t 13) (.const (.int .u64 256)))]
 (.ite (.t 14) (.sr [.m 15 0,.d 16 (.ar .shr (.t 15) (.const (.int .u64 8))),.m 0 16]
 (.reg [.m 17 2,.d 18 (.add (.t 17) (.ci 8)),.m 2 18])) .skip))
 (.sr [.m 19 2,.m 20 0,.d 21 (.conv .u8 (.t 20)),⟨.sidx (.const (.string ⟨#[0,1,2,2,3,3,3,3,4,4,4,4,4,4,4,4,5,5,5,5,5,5,5,5,5,5,5,5,5,5,5,5,6,6,6,6,6,6,6,6,6,6,6,6,6,6,6,6,6,6,6,6,6,6,6,6,6,6,6,6,6,6,6,6,7,7,7,7,7,7,7,7,7,7,7,7,7,7,7,7,7,7,7,7,7,7,7,7,7,7,7,7,7,7,7,7,7,7,7,7,7,7,7,7,7,7,7,7,7,7,7,7,7,7,7,7,7,7,7,7,7,7,7,7,7,7,7,7,8,8,8,8,8,8,8,8,8,8,8,8,8,8,8,8,8,8,8,8,8,8,8,8,8,8,8,8,8,8,8,8,8,8,8,8,8,8,8,8,8,8,8,8,8,8,8,8,8,8,8,8,8,8,8,8,8,8,8,8,8,8,8,8,8,8,8,8,8,8,8,8,8,8,8,8,8,8,8,8,8,8,8,8,8,8,8,8,8,8,8,8,8,8,8,8,8,8,8,8,8,8,8,8,8,8,8,8,8,8,8,8,8,8,8,8,8,8,8,8,8,8,8,8,8,8,8,8]⟩)) (.t 21),some 22,none,none⟩,.d 23 (.conv .i64 (.t 22)),.d 24 (.add (.t 19) (.t 23)),.m 2 24]
 .ret)))))
def UF:Zg prog 140 25 Ff [.t 2]:=.o [] [] Tryz.func140 K1
def Fe:C:=(.sr [.xb 4 false]
 (.sr [.m 5 0,.d 6 (.call (.func 155) #[(.t 5)]),.m 7 6,.ym 8 7 true 1,.u 9 7 true (.call (.func 155) #[(.t 8)]),.u 10 7 true (.not (.t 9)),.xp 11 7 10,.m 12 11,.ym 13 12 false 0,.ym 14 12 false 1,.u 15 12 false (.cmp .lss (.t 13) (.t 14)),.xq 16 12 15,.m 4 16]
 .ret))
def UE:Zg prog 136 17 Fe [.t 4]:=.o [] [] Tryz.func136 K1
def Fi:C:=(.sr [.xb 2 false]
 (.sr [.m 3 0,.m 4 0,.xc 5 .neq 3 4,.m 2 5]
 .ret))
def UI:Zg prog 155 6 Fi [.t 2]:=.o [] [] Tryz.func155 K1
def ES:C:=(.sr [.xv 4 0]
 (.seq (.sr [.m 7 0,.xn 8 7,.xv 9 0]
 (.block 0 (.loop (.sr [.xc 10 .lss 9 8]
 (.seq (.ite (.t 10) .skip (.exit 0))
 (.seq (.block 1 (.sr [.m 11 9,.xi 12 1 7 9,.xl 13 12,.m 5 11,.m 6 13]
 (.block 2 (.sr [.m 15 6,.m 16 1,.d 17 (.sub (.t 16) (.ci 1)),.d 18 (.call (.func 38) #[(.t 15),(.ci 0),(.t 17)]),.xt 19 18,.m 14 19]
 (.ite (.t 14) (.sr [.xv 4 6]
 .ret) (.sr [.m 21 5,.xk 22 .gtr 21 0,.m 23 22,.ym 24 23 true 6,.ym 25 23 true 0,.ym 26 23 true 5,.u 27 23 true (.sub (.t 26) (.ci 1)),.yi 28 23 true 1 25 27,.yl 29 23 true 28,.u 30 23 true (.cmp .leq (.t 24) (.t 29)),.xp 31 23 30,.m 20 31]
 (.ite (.t 20) (.sr [.xv 4 7]
 .ret) .skip)))))))
 (.reg [.xa 32 9,.m 9 32])))))))
 (.sr [.xv 4 0]
 .ret)))
def Yb:Zg prog 177 33 ES [.t 4]:=.o [] [] Tryz.func177 K1
def EQ:C:=(.sr [.xv 6 0]
 (.seq (.sr [.m 9 1,.d 10 (.call (.func 178) #[(.t 9)]),.xt 11 10]
 (.ite (.t 11) (.sr [.xv 6 4]
 .ret) .skip))
 (.seq (.sr [.m 13 0,.m 14 1,.d 15 (.rw (.lookup 224 (.t 13) (.t 14) true) 148),.m 12 15,.xe 16 12 0,.xe 17 12 1,.m 7 16,.m 8 17]
 (.sr [.m 18 8]
 (.ite (.t 18) (.sr [.xv 6 5]
 .ret) .skip)))
 (.sr [.m 19 0,.m 20 1,.m 21 2,⟨.rw (.mapUpdate 224 (.t 19) (.t 20) (.t 21)) 0,none,none,none⟩]
 (.sr [.xv 6 0]
 .ret)))))
def Ya:Zg prog 175 22 EQ [.t 6]:=.o [] [] Tryz.func175 K1
def Fj:C:=(.sr [.d 1 (.box 64 (.t 0)),.xv 2 0]
 (.seq (.sr [.xo 7 0 1,.xo 8 0 7,.xl 9 8,.xn 10 9,.xk 11 .gtr 10 6]
 (.ite (.t 11) (.sr [.xv 2 2]
 .ret) .skip))
 (.sr [.d 12 (.rw (.makeMap 224 none) 224),.m 3 12]
 (.seq (.sr [.xo 13 0 1,.xo 14 0 13,.xl 15 14,.xn 16 15,.xv 17 0]
 (.block 0 (.loop (.sr [.xc 18 .lss 17 16]
 (.seq (.ite (.t 18) .skip (.exit 0))
 (.seq (.block 1 (.sr [.m 19 17,.xi 20 1 15 17,.xl 21 20,.m 4 19,.m 5 21]
 (.sr [.m 22 3,.m 23 5,.m 24 4,.d 25 (.call (.func 175) #[(.t 22),(.t 23),(.t 24)]),.m 6 25]
 (.sr [.m 26 6,.xk 27 .neq 26 0]
 (.ite (.t 27) (.sr [.m 28 6,.m 2 28]
 .ret) .skip)))))
 (.reg [.xa 29 17,.m 17 29])))))))
 (.sr [.xv 2 0]
 .ret)))))
def UJ:Zg prog 173 30 Fj [.t 2]:=.o [] [] Tryz.func173 K1
def ER:C:=(.sr [.d 2 (.box 64 (.t 0)),.xv 4 0]
 (.seq (.sr [.m 8 1,.xn 9 8,.xk 10 .gtr 9 3]
 (.ite (.t 10) (.sr [.xv 4 2]
 .ret) .skip))
 (.seq (.sr [.m 11 1,.xn 12 11,.xv 13 0]
 (.block 0 (.loop (.sr [.xc 14 .lss 13 12]
 (.seq (.ite (.t 14) .skip (.exit 0))
 (.seq (.block 1 (.sr [.xi 15 1 11 13,.xl 16 15,.m 6 16]
 (.seq (.sr [.m 17 6,.xn 18 17,.xk 19 .gtr 18 3]
 (.ite (.t 19) (.sr [.xv 4 2]
 .ret) .skip))
 (.sr [.m 20 6,.xo 21 0 2,.xo 22 0 21,.xl 23 22,.xn 24 23,.d 25 (.call (.func 177) #[(.t 20),(.t 24)]),.m 7 25]
 (.sr [.m 26 7,.xk 27 .neq 26 0]
 (.ite (.t 27) (.sr [.m 28 7,.m 4 28]
 .ret) .skip))))))
 (.reg [.xa 29 13,.m 13 29])))))))
 (.sr [.xv 4 0]
 .ret))))
def UL:Zg prog 176 30 ER [.t 4]:=.o [] [] Tryz.func176 K1
def EP:C:=(.sr [.d 1 (.box 64 (.t 0)),.xv 2 0]
 (.seq (.sr [.xo 9 0 1,.xo 10 1 9,.xl 11 10,.xn 12 11,.xk 13 .gtr 12 5]
 (.ite (.t 13) (.sr [.xv 2 2]
 .ret) .skip))
 (.sr [.d 14 (.rw (.makeMap 224 none) 224),.m 3 14]
 (.seq (.sr [.xo 15 0 1,.xo 16 1 15,.xl 17 16,.xn 18 17,.xv 19 0]
 (.block 0 (.loop (.sr [.xc 20 .lss 19 18]
 (.seq (.ite (.t 20) .skip (.exit 0))
 (.seq (.block 1 (.sr [.m 21 19,.xi 22 4 17 19,.xd 23 4 22,⟨.alloc 46 #[(.string ⟨#[]⟩),(.int .i64 0),.nl,.nl],some 5,none,none⟩,.m 4 21,⟨.st 4 (.t 5) (.t 23),none,none,none⟩]
 (.seq (.sr [.m 24 3,.xo 25 0 5,.xl 26 25,.m 27 4,.d 28 (.call (.func 175) #[(.t 24),(.t 26),(.t 27)]),.m 6 28]
 (.sr [.m 29 6,.xk 30 .neq 29 0]
 (.ite (.t 30) (.sr [.m 31 6,.m 2 31]
 .ret) .skip)))
 (.seq (.sr [.xo 32 1 5,.xl 33 32,.xo 34 0 1,.xo 35 0 34,.xl 36 35,.xn 37 36,.d 38 (.sub (.t 37) (.ci 1)),.d 39 (.call (.func 38) #[(.t 33),(.ci 0),(.t 38)]),.xt 40 39]
 (.ite (.t 40) (.sr [.xv 2 6]
 .ret) .skip))
 (.seq (.sr [.xd 41 2 1,.xo 42 2 5,.xl 43 42,.d 44 (.call (.func 176) #[(.t 41),(.t 43)]),.m 7 44]
 (.sr [.m 45 7,.xk 46 .neq 45 0]
 (.ite (.t 46) (.sr [.m 47 7,.m 2 47]
 .ret) .skip)))
 (.sr [.xo 48 3 5,.xl 49 48,.xo 50 0 1,.xo 51 1 50,.xl 52 51,.xn 53 52,.d 54 (.call (.func 177) #[(.t 49),(.t 53)]),.m 8 54]
 (.sr [.m 55 8,.xk 56 .neq 55 0]
 (.ite (.t 56) (.sr [.m 57 8,.m 2 57]
 .ret) .skip))))))))
 (.reg [.xa 58 19,.m 19 58])))))))
 (.sr [.xv 2 0]
 .ret)))))
def UK:Zg prog 174 59 EP [.t 2]:=.o [] [] Tryz.func174 K1
def IC:C:=(.sr [.d 1 (.box 64 (.t 0)),.xv 2 0]
 (.sr [.xv 3 0]
 (.seq (.sr [.xo 6 0 1,.xo 7 1 6,.xl 8 7,.xn 9 8,.xv 10 0]
 (.block 0 (.loop (.sr [.xc 11 .lss 10 9]
 (.seq (.ite (.t 11) .skip (.exit 0))
 (.seq (.block 1 (.sr [.xo 12 0 1,.xo 13 1 12,.xl 14 13,.xn 15 14,.xv 16 0]
 (.block 2 (.loop (.sr [.xc 17 .lss 16 15]
 (.seq (.ite (.t 17) .skip (.exit 2))
 (.seq (.block 3 (.sr [.m 18 16,.xi 19 4 14 16,.xd 20 4 19,⟨.alloc 46 #[(.string ⟨#[]⟩),(.int .i64 0),.nl,.nl],some 5,none,none⟩,.m 4 18,⟨.st 4 (.t 5) (.t 20),none,none,none⟩]
 (.sr [.xo 21 3 5,.xl 22 21,.d 23 (.call (.func 49) #[(.t 22)]),.m 24 3,.d 25 (.ar .andNot (.t 23) (.t 24)),.xk 26 .eql 25 0]
 (.ite (.t 26) (.reg [.m 27 3,.m 28 4,.d 29 (.ar .shl (.ci 1) (.t 28)),.d 30 (.ar .or (.t 27) (.t 29)),.m 3 30]) .skip))))
 (.reg [.xa 31 16,.m 16 31]))))))))
 (.reg [.xa 32 10,.m 10 32])))))))
 (.seq (.sr [.m 33 3,.xo 34 0 1,.xo 35 1 34,.xl 36 35,.xn 37 36,.d 38 (.ar .shl (.ci 1) (.t 37)),.d 39 (.sub (.t 38) (.ci 1)),.xc 40 .neq 33 39]
 (.ite (.t 40) (.sr [.xv 2 8]
 .ret) .skip))
 (.sr [.xv 2 0]
 .ret)))))
def Yt:Zg prog 41 41 IC [.t 2]:=.o [] [] Tryz.func41 K1
def I5:C:=(.sr [.d 1 (.box 25 (.t 0)),.xv 2 0]
 (.seq (.sr [.d 6 (.ldn 3 (.global 0)),.xv 7 0]
 (.block 0 (.loop (.sr [.xk 8 .lss 7 3]
 (.seq (.ite (.t 8) .skip (.exit 0))
 (.seq (.block 1 (.sr [.d 9 (.rw (.index 133 (.t 6) (.t 7)) 132),.m 4 9]
 (.sr [.m 10 4,.xd 11 2 1,.d 12 (.build #[.nl,.nl] [(0,2,(.t 11))]),.d 13 (.call (.t 10) #[(.t 12)]),.m 5 13]
 (.sr [.m 14 5,.xk 15 .neq 14 0]
 (.ite (.t 15) (.sr [.m 16 5,.m 2 16]
 .ret) .skip)))))
 (.reg [.xa 17 7,.m 7 17])))))))
 (.sr [.xv 2 0]
 .ret)))
def VL:Zg prog 36 18 I5 [.t 2]:=.o [] [] Tryz.func36 K1
def IF:C:=(.sr [.xv 2 0]
 (.sr [.xv 3 0]
 (.seq (.sr [.m 6 0,.xn 7 6,.xv 8 0]
 (.block 0 (.loop (.sr [.xc 9 .lss 8 7]
 (.seq (.ite (.t 9) .skip (.exit 0))
 (.seq (.block 1 (.sr [.xi 10 1 6 8,.xl 11 10,.m 5 11]
 (.reg [.m 12 3,.m 13 5,.d 14 (.ar .shl (.ci 1) (.t 13)),.d 15 (.ar .or (.t 12) (.t 14)),.m 3 15])))
 (.reg [.xa 16 8,.m 8 16])))))))
 (.sr [.m 17 3,.m 2 17]
 .ret))))
def XW:Zg prog 49 18 IF [.t 2]:=.o [] [] Tryz.func49 K1
def IE:C:=(.sr [.d 1 (.box 64 (.t 0)),.d 2 (.alloc 87 #[(.bool false),(.bool false),(.bool false),(.bool false),(.bool false),(.bool false)])]
 (.sr [.d 3 (.alloc 87 #[(.bool false),(.bool false),(.bool false),(.bool false),(.bool false),(.bool false)])]
 (.seq (.sr [.xo 5 0 1,.xo 6 0 5,.xl 7 6,.xn 8 7,.xv 9 0]
 (.block 0 (.loop (.sr [.xc 10 .lss 9 8]
 (.seq (.ite (.t 10) .skip (.exit 0))
 (.seq (.block 1 (.sr [.m 11 9,.m 4 11]
 (.reg [.m 12 4,.d 13 (.aidx 6 1 (.t 3) (.t 12)),⟨.st 1 (.t 13) (.cb true),none,none,none⟩])))
 (.reg [.xa 14 9,.m 9 14])))))))
 (.sr [.xd 15 6 3,⟨.st 6 (.t 2) (.t 15),none,none,none⟩]
 .ret))))
def Yu:Zg prog 48 16 IE [.cn 2 6]:=.o [] [] Tryz.func48 K1
def Iu:C:=(.sr [.d 3 (.box 64 (.t 0)),.d 4 (.box 46 (.t 1)),.d 5 (.box 87 (.t 2)),.xb 6 false]
 (.sr [.xo 7 2 4,.xl 8 7,.d 9 (.mkf (.func 117) #[] #[(.t 5)]),.d 10 (.call (.func 116) #[(.t 8),(.t 9)]),.m 6 10]
 .ret))
def DJ:Zg prog 82 11 Iu [.t 6]:=.o [] [] Tryz.func82 K1
def F6:C:=(.sr [.xb 3 false]
 (.sr [.m 4 0,.d 5 (.mkf (.func 119) #[] #[(.t 1)]),.d 6 (.call (.func 118) #[(.t 4),(.t 5)]),.xt 7 6,.m 3 7]
 .ret))
def Un:Zg prog 117 8 F6 [.t 3]:=.o [] [] Tryz.func117 K1
def F8:C:=(.sr [.xb 3 false]
 (.sr [.m 4 0,.d 5 (.aidx 6 1 (.t 1) (.t 4)),.xl 6 5,.xt 7 6,.m 3 7]
 .ret))
def UB:Zg prog 119 8 F8 [.t 3]:=.o [] [] Tryz.func119 K1
def IG:C:=(.sr [.d 3 (.box 64 (.t 0)),.d 4 (.boxM 90 (.t 1)),.d 6 (.alloc 90 #[.nl,(.bool false),(.bool false),(.bool false),(.bool false),(.bool false),(.bool false),(.int .i64 0)])]
 (.sr [.xo 8 0 4,.xl 9 8,.xo 10 0 4,.xl 11 10,.xn 12 11,.xo 13 0 4,.xl 14 13,.xn 15 14,.d 16 (.rw (.slice 44 (.t 9) none (some (.t 12)) (some (.t 15))) 44),.m 17 2,.d 18 (.bsl 3 1 #[(.int .i64 0)] [(0,1,(.t 17))]),.d 19 (.rw (.call { callee:=.builtin .append,args:=#[(.t 16),(.t 18)],argTypes:=#[44,44] }) 44),.xo 20 0 4,⟨.st 1 (.t 20) (.t 19),none,none,none⟩]
 (.seq (.sr [.xo 21 0 3,.xo 22 1 21,.xl 23 22,.m 24 2,.xi 25 4 23 24,.xd 26 4 25,⟨.alloc 46 #[(.string ⟨#[]⟩),(.int .i64 0),.nl,.nl],some 7,none,none⟩,⟨.st 4 (.t 7) (.t 26),none,none,none⟩]
 (.sr [.xd 27 2 3,.xd 28 4 7,.xo 29 1 4,.xd 30 6 29,.d 31 (.call (.func 82) #[(.t 27),(.t 28),(.t 30)])]
 (.ite (.t 31) (.seq (.drw [(0,.xo 32 7 4),(0,.xl 33 32),(0,.m 34 2),(0,.d 35 (.ar .shl (.ci 1) (.t 34)))] [.d 36 (.ar .or (.t 33) (.t 35)),.xo 37 7 4,⟨.st 1 (.t 37) (.t 36),none,none,none⟩])
 (.reg [.xo 38 1 7,.xl 39 38,.xo 40 1 4,.d 41 (.aidx 6 1 (.t 40) (.t 39)),⟨.st 1 (.t 41) (.cb false),none,none,none⟩])) .skip)))
 (.sr [.xd 42 8 4,⟨.st 8 (.t 6) (.t 42),none,none,none⟩]
 .ret))))
def Yv:Zg prog 50 43 IG [.cn 6 8]:=.o [4] [] Tryz.func50 K1
def IH:C:=(.sr [.xs 4]
 (.sr [.xs 5]
 (.seq (.sr [.m 7 1,.xv 8 0]
 (.block 0 (.loop (.sr [.xc 9 .lss 8 7]
 (.seq (.ite (.t 9) .skip (.exit 0))
 (.seq (.block 1 (.sr [.m 10 8,.m 6 10]
 (.reg [.m 11 5,.m 12 0,.m 13 6,.d 14 (.ar .shr (.t 12) (.t 13)),.d 15 (.ar .and (.t 14) (.ci 1)),.xk 16 .eql 15 1,.d 17 (.bsl 4 1 #[(.bool false)] [(0,1,(.t 16))]),.d 18 (.rw (.call { callee:=.builtin .append,args:=#[(.t 11),(.t 17)],argTypes:=#[48,48] }) 48),.m 5 18])))
 (.reg [.xa 19 8,.m 8 19])))))))
 (.sr [.m 20 5,.m 4 20]
 .ret))))
def Dy:Zg prog 51 21 IH [.t 4]:=.o [] [] Tryz.func51 K1
def Im:C:=(.sr [.d 2 (.box 25 (.t 0)),.xs 4,.xs 5,.xv 6 0]
 (.seq (.sr [.xd 12 2 2,.d 13 (.call (.func 36) #[(.t 12)]),.m 7 13]
 (.sr [.m 14 7,.xk 15 .neq 14 0]
 (.ite (.t 15) (.sr [.m 16 7,.xs 4,.xs 5,.m 6 16]
 .ret) .skip)))
 (.seq (.sr [.m 17 1,.xn 18 17,.xo 19 1 2,.xl 20 19,.xn 21 20,.xc 22 .neq 18 21]
 (.ite (.t 22) (.sr [.xs 4,.xs 5,.xv 6 2]
 .ret) .skip))
 (.sr [.xd 23 2 2,.d 24 (.build #[.nl,.nl] [(0,2,(.t 23))]),.d 8 (.alloc 64 #[.nl,.nl]),⟨.st 2 (.t 8) (.t 24),none,none,none⟩]
 (.sr [.xd 25 2 8,.d 26 (.call (.func 48) #[(.t 25)]),.d 27 (.build #[.nl,(.bool false),(.bool false),(.bool false),(.bool false),(.bool false),(.bool false),(.int .i64 0)] [(1,6,(.t 26))]),.d 9 (.alloc 90 #[.nl,(.bool false),(.bool false),(.bool false),(.bool false),(.bool false),(.bool false),(.int .i64 0)]),⟨.st 8 (.t 9) (.t 27),none,none,none⟩]
 (.seq (.sr [.m 28 1,.xn 29 28,.xv 30 0]
 (.block 0 (.loop (.sr [.xc 31 .lss 30 29]
 (.seq (.ite (.t 31) .skip (.exit 0))
 (.seq (.block 1 (.sr [.xi 32 1 28 30,.xl 33 32,.m 11 33]
 (.seq (.block 2 (.sr [.m 35 11,.xo 36 1 2,.xl 37 36,.xn 38 37,.d 39 (.sub (.t 38) (.ci 1)),.d 40 (.call (.func 38) #[(.t 35),(.ci 0),(.t 39)]),.xt 41 40,.m 34 41]
 (.ite (.t 34) (.sr [.xs 4,.xs 5,.xv 6 6]
 .ret) (.sr [.xo 43 0 9,.xl 44 43,.m 45 11,.d 46 (.call (.func 39) #[(.t 44),(.t 45)]),.m 42 46]
 (.ite (.t 42) (.sr [.xs 4,.xs 5,.xv 6 5]
 .ret) (.seq (.drw [(0,.xo 48 1 2),(0,.xl 49 48),(0,.m 50 11),(0,.xi 51 4 49 50),(0,.xo 52 3 51),(0,.xl 53 52),(1,.d 54 (.call (.func 49) #[(.t 53)])),(0,.xo 55 0 9),(0,.xl 56 55)] [.d 57 (.call (.func 49) #[(.t 56)]),.d 58 (.ar .andNot (.t 54) (.t 57)),.xk 59 .neq 58 0,.m 47 59])
 (.ite (.t 47) (.sr [.xs 4,.xs 5,.xv 6 7]
 .ret) .skip)))))))
 (.reg [.xd 60 2 8,.xd 61 8 9,.m 62 11,.d 63 (.call (.func 50) #[(.t 60),(.t 61),(.t 62)]),⟨.st 8 (.t 9) (.t 63),none,none,none⟩]))))
 (.reg [.xa 64 30,.m 30 64])))))))
 (.seq (.drw [(0,.xo 65 1 9),(0,.xo 66 0 2),(0,.xl 67 66),(0,.xn 68 67),(0,.xo 71 7 9),(0,.xl 72 71),(0,.xo 73 1 2),(0,.xl 74 73),(0,.xn 75 74),(2,.d 69 (.rw (.slice 87 (.t 65) none (some (.t 68)) none) 48)),(2,.d 70 (.rw (.call { callee:=.builtin .append,args:=#[.cn,(.t 69)],argTypes:=#[48,48] }) 48))] [.d 76 (.call (.func 51) #[(.t 72),(.t 75)]),.m 4 70,.m 5 76,.xv 6 0])
 .ret)))))))
def Yn:Zg prog 18 77 Im [.t 4,.t 5,.t 6]:=.o [] [54,57] Tryz.func18 K1
def Iv:C:=(.sr [.xv 4 0]
 (.seq (.sr [.m 5 0]
 (.block 0 (.sr [.m 7 1,.xc 8 .eql 5 7,.m 6 8]
 (.ite (.t 6) (.sr [.xv 4 1]
 .ret) (.sr [.xk 10 .eql 5 0,.m 9 10]
 (.ite (.t 9) (.sr [.xv 4 2]
 .ret) .skip))))))
 (.sr [.xv 4 0]
 .ret)))
def YI:Zg prog 83 11 Iv [.t 4]:=.o [] [] Tryz.func83 K1
def IJ:C:=(.sr [.d 1 (.box 64 (.t 0)),.d 2 (.mv (.const .nilFunc))]
 (.sr [.d 3 (.mkf (.func 84) #[] #[(.t 1)]),.m 2 3]
 .ret))
def YC:Zg prog 53 4 IJ [.t 2]:=.o [] [] Tryz.func53 K1
def Iw:C:=(.sr [.d 2 (.box 143 (.t 0))]
 (.sr [.d 3 (.alloc 143 #[.nilFunc])]
 (.sr [.d 4 (.mkf (.func 85) #[] #[(.t 1),(.t 2),(.t 3)]),⟨.st 1 (.t 3) (.t 4),none,none,none⟩]
 (.drw [(0,.xl 5 3),(0,.xd 6 2 1),(1,.d 7 (.call (.func 48) #[(.t 6)])),(0,.d 8 (.build #[.nl,(.bool false),(.bool false),(.bool false),(.bool false),(.bool false),(.bool false),(.int .i64 0)] [(1,6,(.t 7))]))] [.d 9 (.call (.t 5) #[(.t 8)])]))))
def YJ:Zg prog 84 10 Iw []:=.o [] [7,9] Tryz.func84 K1
def Ix:C:=(.sr [.d 4 (.box 90 (.t 0)),.xb 5 false]
 (.scope (.seq (.sr [.xo 9 0 4,.xl 10 9,.xn 11 10,.xo 12 0 1,.xo 13 1 12,.xl 14 13,.xn 15 14,.xc 16 .eql 11 15]
 (.ite (.t 16) (.sr [.xl 17 2,.xd 18 8 4,.d 19 (.call (.t 17) #[(.t 18)]),.m 5 19]
 .ret) .skip))
 (.sr [.xo 20 0 4,.xl 21 20,.d 22 (.call (.func 49) #[(.t 21)]),.m 6 22]
 (.seq .skip
 (.seq (.sr [.xo 23 0 1,.xo 24 1 23,.xl 25 24,.xn 26 25,.xv 27 0]
 (.block 0 (.loop (.sr [.xc 28 .lss 27 26]
 (.seq (.ite (.t 28) .skip (.exit 0))
 (.seq (.block 1 (.sr [.m 29 27,.xi 30 4 25 27,.xd 31 4 30,⟨.alloc 46 #[(.string ⟨#[]⟩),(.int .i64 0),.nl,.nl],some 8,none,none⟩,.m 7 29,⟨.st 4 (.t 8) (.t 31),none,none,none⟩]
 (.seq (.sr [.m 32 6,.m 33 7,.d 34 (.ar .shr (.t 32) (.t 33)),.d 35 (.ar .and (.t 34) (.ci 1)),.xk 36 .eql 35 1,.m 37 36,.yo 38 37 false 3 8,.yl 39 37 false 38,.u 40 37 false (.call (.func 49) #[(.t 39)]),.ym 41 37 false 6,.u 42 37 false (.ar .andNot (.t 40) (.t 41)),.yk 43 37 false .neq 42 0,.xq 44 37 43]
 (.ite (.t 44) (.exit 1) .skip))
 (.seq (.drw [(0,.xl 45 3),(0,.xd 46 2 1),(0,.xd 47 8 4),(0,.m 48 7),(2,.d 49 (.call (.func 50) #[(.t 46),(.t 47),(.t 48)]))] [.d 50 (.call (.t 45) #[(.t 49)]),.xt 51 50])
 (.ite (.t 51) (.sr [.xb 5 false]
 .ret) .skip)))))
 (.reg [.xa 52 27,.m 27 52])))))))
 (.sr [.xb 5 true]
 .ret)))))))
def VM:Zg prog 85 53 Ix [.t 5]:=.o [] [50] Tryz.func85 K1
noncomputable def II:C:=(.sr [.d 1 (.box 64 (.t 0)),.xs 2,.xs 3]
 (.sr [.d 16 (.rw (.makeMap 142 none) 142),.d 4 (.alloc 142 #[(.map none)]),⟨.st 1 (.t 4) (.t 16),none,none,none⟩]
 (.sr [.xo 17 0 1,.xo 18 1 17,.xl 19 18,.xn 20 19,.d 21 (.rw (.makeSlice 44 (.t 20) (.t 20)) 44),.d 5 (.alloc 44 #[.nl]),⟨.st 1 (.t 5) (.t 21),none,none,none⟩]
 (.sr [.d 6 (.alloc 3 #[(.int .i64 0)]),⟨.st 1 (.t 6) (.ci 0),none,none,none⟩]
 (.seq (.sr [.xd 22 2 1,.d 23 (.call (.func 53) #[(.t 22)])]
 (.block 0 (.rng 96 [] [30] (.t 23) #[24] (.reg [.d 7 (.alloc 90 #[.nl,(.bool false),(.bool false),(.bool false),(.bool false),(.bool false),(.bool false),(.int .i64 0)]),⟨.st 8 (.t 7) (.t 24),none,none,none⟩]) (.block 1 (.sr [.xl 25 6,.xa 26 25,⟨.st 1 (.t 6) (.t 26),none,none,none⟩]
 (.seq (.cd 96 (Zl Tryz.f52 7))
 (.sr [.xl 34 5,.xn 35 34,.xv 36 0]
 (.block 2 (.loop (.sr [.xc 37 .lss 36 35]
 (.seq (.ite (.t 37) .skip (.exit 2))
 (.seq (.block 3 (.sr [.m 38 36,.m 8 38]
 (.drw [(0,.xl 39 5),(0,.m 40 8),(0,.xi 41 1 39 40),(0,.xl 42 41),(0,.xo 43 7 7),(0,.xl 44 43),(0,.m 45 8),(0,.d 46 (.ar .shr (.t 44) (.t 45))),(0,.d 47 (.ar .and (.t 46) (.ci 1)))] [.d 48 (.add (.t 42) (.t 47)),.xi 49 1 39 40,⟨.st 1 (.t 49) (.t 48),none,none,none⟩])))
 (.reg [.xa 50 36,.m 36 50])))))))))))))
 (.seq (.sr [.xo 51 0 1,.xo 52 0 51,.xl 53 52,.xn 54 53,.xv 55 0]
 (.block 4 (.loop (.sr [.xc 56 .lss 55 54]
 (.seq (.ite (.t 56) .skip (.exit 4))
 (.seq (.block 5 (.sr [.m 57 55,.m 9 57]
 (.sr [.xv 10 0]
 (.seq (.sr [.xl 58 4,.d 59 (.rw (.range 142 (.t 58)) 0)]
 (.block 6 (.loop (.sr [.d 60 (.rw (.next (.t 59) false) 0),.xe 61 60 0]
 (.seq (.ite (.t 61) .skip (.exit 6))
 (.block 7 (.sr [.d 62 (.rw (.entry (.t 59)) 0),.xe 63 62 0,.xe 64 62 1,.d 11 (.alloc 87 #[(.bool false),(.bool false),(.bool false),(.bool false),(.bool false),(.bool false)]),⟨.st 6 (.t 11) (.t 63),none,none,none⟩,.m 12 64]
 (.sr [.xd 65 6 11,.d 13 (.alloc 87 #[(.bool false),(.bool false),(.bool false),(.bool false),(.bool false),(.bool false)]),⟨.st 6 (.t 13) (.t 65),none,none,none⟩]
 (.sr [.m 66 9,.d 67 (.aidx 6 1 (.t 13) (.t 66)),⟨.st 1 (.t 67) (.cb true),none,none,none⟩]
 (.sr [.xd 68 6 11,.xd 69 6 13,.d 70 (.rw (.binOp .eql 87 (.t 68) (.t 69) 87) 4)]
 (.ite (.t 70) (.reg [.m 71 10,.m 72 12,.d 73 (.add (.t 71) (.t 72)),.m 10 73]) .skip)))))))))))
 (.reg [.m 74 2,.m 75 10,.xl 76 6,.d 77 (.call (.func 83) #[(.t 75),(.t 76)]),.d 78 (.bsl 38 1 #[(.int .i64 0)] [(0,1,(.t 77))]),.d 79 (.rw (.call { callee:=.builtin .append,args:=#[(.t 74),(.t 78)],argTypes:=#[51,51] }) 51),.m 2 79])))))
 (.reg [.xa 80 55,.m 55 80])))))))
 (.seq (.sr [.xl 81 5,.xn 82 81,.xv 83 0]
 (.block 8 (.loop (.sr [.xc 84 .lss 83 82]
 (.seq (.ite (.t 84) .skip (.exit 8))
 (.seq (.block 9 (.sr [.xi 85 1 81 83,.xl 86 85,.m 15 86]
 (.reg [.m 87 3,.m 88 15,.xl 89 6,.d 90 (.call (.func 83) #[(.t 88),(.t 89)]),.d 91 (.bsl 38 1 #[(.int .i64 0)] [(0,1,(.t 90))]),.d 92 (.rw (.call { callee:=.builtin .append,args:=#[(.t 87),(.t 91)],argTypes:=#[51,51] }) 51),.m 3 92])))
 (.reg [.xa 93 83,.m 83 93])))))))
 (.sr [.m 94 2,.m 95 3,.m 2 94,.m 3 95]
 .ret))))))))
def YB:Zg prog 52 96 II [.t 2,.t 3]:=.o [] [30] Tryz.func52 K1
def In:C:=(.sr [.d 1 (.box 25 (.t 0)),.xs 2,.xs 3,.xv 4 0]
 (.seq (.sr [.xd 6 2 1,.d 7 (.call (.func 36) #[(.t 6)]),.m 5 7]
 (.sr [.m 8 5,.xk 9 .neq 8 0]
 (.ite (.t 9) (.sr [.m 10 5,.xs 2,.xs 3,.m 4 10]
 .ret) .skip)))
 (.sr [.xd 12 2 1,.d 13 (.build #[.nl,.nl] [(0,2,(.t 12))]),.d 14 (.call (.func 52) #[(.t 13)]),.m 11 14,.xe 15 11 0,.xe 16 11 1,.m 2 15,.m 3 16]
 (.sr [.m 17 2,.m 18 3,.m 2 17,.m 3 18,.xv 4 0]
 .ret))))
def Dq:Zg prog 19 19 In [.t 2,.t 3,.t 4]:=.o [] [] Tryz.func19 K1
def F_:C:=(.sr [.d 2 (.box 25 (.t 0)),.d 4 (.alloc 64 #[.nl,.nl]),.xv 5 0]
 (.seq (.sr [.xd 7 2 2,.d 8 (.call (.func 36) #[(.t 7)]),.m 6 8]
 (.sr [.m 9 6,.xk 10 .neq 9 0]
 (.ite (.t 10) (.sr [.d 11 (.build #[.nl,.nl] []),.m 12 6,⟨.st 2 (.t 4) (.t 11),none,none,none⟩,.m 5 12]
 .ret) .skip)))
 (.seq (.sr [.m 13 1,.xo 14 0 2,.xl 15 14,.xn 16 15,.d 17 (.sub (.t 16) (.ci 1)),.d 18 (.call (.func 38) #[(.t 13),(.ci 0),(.t 17)]),.xt 19 18]
 (.ite (.t 19) (.sr [.d 20 (.build #[.nl,.nl] []),⟨.st 2 (.t 4) (.t 20),none,none,none⟩,.xv 5 6]
 .ret) .skip))
 (.sr [.xd 21 2 2,.d 22 (.build #[.nl,.nl] [(0,2,(.t 21))]),⟨.st 2 (.t 4) (.t 22),none,none,none⟩,.xv 5 0]
 .ret))))
def Pp:Zg prog 26 23 F_ [.cn 4 2,.t 5]:=.o [] [] Tryz.func26 K1
def Io:C:=(.sr [.d 2 (.box 25 (.t 0)),.d 3 (.box 3 (.t 1)),.d 4 (.alloc 44 #[.nl]),.d 5 (.alloc 44 #[.nl]),.xv 6 0]
 (.sr [.xd 11 2 2,.xl 12 3,.d 13 (.call (.func 26) #[(.t 11),(.t 12)]),.m 10 13,.xe 14 10 0,.xe 15 10 1,.d 7 (.alloc 64 #[.nl,.nl]),⟨.st 2 (.t 7) (.t 14),none,none,none⟩,.m 6 15]
 (.seq (.sr [.m 16 6,.xk 17 .neq 16 0]
 (.ite (.t 17) (.sr [.m 18 6,⟨.st 1 (.t 4) .cn,none,none,none⟩,⟨.st 1 (.t 5) .cn,none,none,none⟩,.m 6 18]
 .ret) .skip))
 (.sr [.d 8 (.alloc 95 #[(.bool false),(.bool false)])]
 (.seq (.sr [.xd 19 2 7,.d 20 (.call (.func 53) #[(.t 19)])]
 (.block 0 (.rng 51 [] [] (.t 20) #[21] (.reg [.d 9 (.alloc 90 #[.nl,(.bool false),(.bool false),(.bool false),(.bool false),(.bool false),(.bool false),(.int .i64 0)]),⟨.st 8 (.t 9) (.t 21),none,none,none⟩]) (.block 1 (.block 2 (.sr [.xl 23 3,.xo 24 1 9,.d 25 (.aidx 6 1 (.t 24) (.t 23)),.xl 26 25,.m 27 26,.u 28 27 true (.aidx 2 1 (.t 8) (.ci 0)),.yl 29 27 true 28,.u 30 27 true (.not (.t 29)),.xp 31 27 30,.m 22 31]
 (.ite (.t 22) (.reg [.xo 32 0 9,.xl 33 32,⟨.st 1 (.t 4) (.t 33),none,none,none⟩,.d 34 (.aidx 2 1 (.t 8) (.ci 0)),⟨.st 1 (.t 34) (.cb true),none,none,none⟩]) (.sr [.xl 36 3,.xo 37 1 9,.d 38 (.aidx 6 1 (.t 37) (.t 36)),.xl 39 38,.xt 40 39,.m 41 40,.u 42 41 true (.aidx 2 1 (.t 8) (.ci 1)),.yl 43 41 true 42,.u 44 41 true (.not (.t 43)),.xp 45 41 44,.m 35 45]
 (.ite (.t 35) (.reg [.xo 46 0 9,.xl 47 46,⟨.st 1 (.t 5) (.t 47),none,none,none⟩,.d 48 (.aidx 2 1 (.t 8) (.ci 1)),⟨.st 1 (.t 48) (.cb true),none,none,none⟩]) .skip)))))))))
 (.seq (.drs [(0,.xl 49 4),(3,.xl 50 5)] ⟨.st 1 (.t 4) (.t 49),none,none,none⟩ [⟨.st 1 (.t 5) (.t 50),none,none,none⟩,.xv 6 0])
 .ret))))))
def Dr:Zg prog 20 51 Io [.c 4,.c 5,.t 6]:=.o [] [] Tryz.func20 K1
def I0:C:=(.sr [.d 2 (.box 64 (.t 0)),.xv 4 0]
 (.sr [.xd 8 2 2,.d 9 (.call (.func 52) #[(.t 8)]),.m 7 9,.xe 10 7 0,.xe 11 7 1,.m 5 10,.m 6 11]
 (.sr [.m 12 5,.m 13 1,.xi 14 1 12 13,.xl 15 14,.m 4 15]
 .ret)))
def Gm:Zg prog 27 16 I0 [.t 4]:=.o [] [] Tryz.func27 K1
def ID:C:=(.sr [.xb 6 false]
 (.sr [.m 7 1,.m 8 0,.xc 9 .leq 7 8,.m 10 9,.ym 11 10 true 0,.ym 12 10 true 2,.u 13 10 true (.cmp .leq (.t 11) (.t 12)),.xp 14 10 13,.m 6 14]
 .ret))
def Ll:Zg prog 44 15 ID [.t 6]:=.o [] [] Tryz.func44 K1
def It:C:=(.sr [.xb 2 false]
 (.seq (.sr [.m 6 0,.d 7 (.lenT (.t 6)),.xk 8 .eql 7 0,.m 9 8,.ym 10 9 false 0,.u 11 9 false (.lenT (.t 10)),.yk 12 9 false .gtr 11 10,.xq 13 9 12]
 (.ite (.t 13) (.sr [.xb 2 false]
 .ret) .skip))
 (.seq (.sr [.xv 3 0]
 (.block 0 (.loop (.seq (.sr [.m 14 3,.m 15 0,.d 16 (.lenT (.t 15)),.xc 17 .lss 14 16]
 (.ite (.t 17) .skip (.exit 0)))
 (.seq (.block 1 (.seq (.drw [(0,.m 20 0),(0,.m 21 3),(0,.d 22 (.sidx (.t 20) (.t 21))),(0,.d 23 (.conv .i64 (.t 22))),(1,.d 24 (.call (.func 44) #[(.t 23),(.ci 97),(.ci 122)])),(0,.m 25 0),(0,.m 26 3),(0,.d 27 (.sidx (.t 25) (.t 26))),(0,.d 28 (.conv .i64 (.t 27)))] [.d 29 (.call (.func 44) #[(.t 28),(.ci 48),(.ci 57)]),.m 4 24,.m 5 29])
 (.sr [.m 30 4,.xt 31 30,.m 32 31,.ym 33 32 true 5,.u 34 32 true (.not (.t 33)),.ym 35 32 true 34,.ym 36 35 false 3,.yk 37 35 false .eql 36 0,.u 38 32 true (.pick (.t 35) (.cb true) (.t 37)),.xp 39 32 38]
 (.ite (.t 39) (.sr [.xb 2 false]
 .ret) .skip))))
 (.reg [.m 18 3,.xa 19 18,.m 3 19]))))))
 (.sr [.xb 2 true]
 .ret))))
def Zcd:Zg prog 79 40 It [.t 2]:=.o [] [24,29] Tryz.func79 K1
def FZ:C:=(.sr [.xb 4 false]
 (.seq (.sr [.m 6 0,.xn 7 6,.m 8 1,.xn 9 8,.xc 10 .neq 7 9]
 (.ite (.t 10) (.sr [.xb 4 false]
 .ret) .skip))
 (.seq (.sr [.xv 5 0]
 (.block 0 (.loop (.seq (.sr [.m 11 5,.m 12 0,.xn 13 12,.xc 14 .lss 11 13]
 (.ite (.t 14) .skip (.exit 0)))
 (.seq (.block 1 (.seq (.drw [(0,.m 17 0),(0,.m 18 5),(0,.xi 19 1 17 18),(0,.xl 20 19),(0,.m 21 1),(0,.m 22 5),(0,.xi 23 1 21 22),(0,.xl 24 23)] [.xc 25 .neq 20 24])
 (.ite (.t 25) (.sr [.xb 4 false]
 .ret) .skip)))
 (.reg [.m 15 5,.xa 16 15,.m 5 16]))))))
 (.sr [.xb 4 true]
 .ret))))
def Gl:Zg prog 25 26 FZ [.t 4]:=.o [] [] Tryz.func25 K1
def FX:C:=(.sr [.xb 4 false]
 (.seq (.sr [.m 6 0,.xn 7 6,.m 8 1,.xn 9 8,.xc 10 .neq 7 9]
 (.ite (.t 10) (.sr [.xb 4 false]
 .ret) .skip))
 (.seq (.sr [.xv 5 0]
 (.block 0 (.loop (.seq (.sr [.m 11 5,.m 12 0,.xn 13 12,.xc 14 .lss 11 13]
 (.ite (.t 14) .skip (.exit 0)))
 (.seq (.block 1 (.seq (.drw [(0,.m 17 0),(0,.m 18 5),(0,.xi 19 1 17 18),(0,.xl 20 19),(0,.m 21 1),(0,.m 22 5),(0,.xi 23 1 21 22),(0,.xl 24 23)] [.d 25 (.beq .neq (.t 20) (.t 24))])
 (.ite (.t 25) (.sr [.xb 4 false]
 .ret) .skip)))
 (.reg [.m 15 5,.xa 16 15,.m 5 16]))))))
 (.sr [.xb 4 true]
 .ret))))
def Po:Zg prog 23 26 FX [.t 4]:=.o [] [] Tryz.func23 K1
def FY:C:=(.sr [.xb 4 false]
 (.seq (.sr [.m 6 0,.xn 7 6,.m 8 1,.xn 9 8,.xc 10 .neq 7 9]
 (.ite (.t 10) (.sr [.xb 4 false]
 .ret) .skip))
 (.seq (.sr [.xv 5 0]
 (.block 0 (.loop (.seq (.sr [.m 11 5,.m 12 0,.xn 13 12,.xc 14 .lss 11 13]
 (.ite (.t 14) .skip (.exit 0)))
 (.seq (.block 1 (.seq (.drw [(0,.m 17 0),(0,.m 18 5),(0,.xi 19 1 17 18),(0,.xl 20 19),(0,.m 21 1),(0,.m 22 5),(0,.xi 23 1 21 22),(0,.xl 24 23)] [.xc 25 .neq 20 24])
 (.ite (.t 25) (.sr [.xb 4 false]
 .ret) .skip)))
 (.reg [.m 15 5,.xa 16 15,.m 5 16]))))))
 (.sr [.xb 4 true]
 .ret))))
def Yq:Zg prog 24 26 FY [.t 4]:=.o [] [] Tryz.func24 K1
