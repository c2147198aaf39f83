/- Lemmas. No conditions. -/
import Derived.Test.YtajkaognaiglhaaGreatDoorProg
import Derived.Test.YtajkaognaiglhaaGreatDoorB01
set_option linter.all false
set_option maxRecDepth 100000
open Go.Proofs.Tryz (prog)
noncomputable section
namespace Go.TM
open Go.Proofs
def Zg8:C:=(.sr [.d 1 (.box 25 (.t 0)),.xb 2 false]
 (.seq (.sr [.xo 8 0 1,.xl 9 8,.xn 10 9,.xk 11 .gtr 10 40,.m 12 11,.yo 13 12 false 1 1,.yl 14 12 false 13,.yn 15 12 false 14,.yk 16 12 false .gtr 15 40,.xq 17 12 16]
 (.ite (.t 17) (.sr [.xb 2 true]
 .ret) .skip))
 (.sr [.xv 3 0]
 (.seq (.sr [.xv 4 0]
 (.block 0 (.loop (.seq (.sr [.m 18 4,.xo 19 0 1,.xl 20 19,.xn 21 20,.xc 22 .lss 18 21]
 (.ite (.t 22) .skip (.exit 0)))
 (.seq (.block 1 (.reg [.m 25 3,.xo 26 0 1,.xl 27 26,.m 28 4,.xi 29 1 27 28,.xl 30 29,.d 31 (.lenT (.t 30)),.d 32 (.add (.t 25) (.t 31)),.m 3 32]))
 (.reg [.m 23 4,.xa 24 23,.m 4 24]))))))
 (.seq (.sr [.xv 5 0]
 (.block 2 (.loop (.seq (.sr [.m 33 5,.xo 34 1 1,.xl 35 34,.xn 36 35,.xc 37 .lss 33 36]
 (.ite (.t 37) .skip (.exit 2)))
 (.seq (.block 3 (.sr [.xo 40 1 1,.xl 41 40,.m 42 5,.xi 43 4 41 42,.xd 44 4 43,.d 6 (.alloc 46 #[(.string ⟨#[]⟩),(.int .i64 0),.nl,.nl]),⟨.st 4 (.t 6) (.t 44),none,none,none⟩]
 (.seq (.sr [.xo 45 2 6,.xl 46 45,.xn 47 46,.xk 48 .gtr 47 40,.m 49 48,.yo 50 49 false 3 6,.yl 51 49 false 50,.yn 52 49 false 51,.yk 53 49 false .gtr 52 40,.xq 54 49 53]
 (.ite (.t 54) (.sr [.xb 2 true]
 .ret) .skip))
 (.seq (.sr [.xv 7 0]
 (.block 4 (.loop (.seq (.sr [.m 55 7,.xo 56 2 6,.xl 57 56,.xn 58 57,.xc 59 .lss 55 58]
 (.ite (.t 59) .skip (.exit 4)))
 (.seq (.block 5 (.sr [.xo 62 2 6,.xl 63 62,.m 64 7,.xi 65 1 63 64,.xl 66 65,.xn 67 66,.xk 68 .gtr 67 40]
 (.ite (.t 68) (.sr [.xb 2 true]
 .ret) .skip)))
 (.reg [.m 60 7,.xa 61 60,.m 7 61]))))))
 (.reg [.m 69 3,.xo 70 0 6,.xl 71 70,.d 72 (.lenT (.t 71)),.d 73 (.add (.t 69) (.t 72)),.m 3 73])))))
 (.reg [.m 38 5,.xa 39 38,.m 5 39]))))))
 (.sr [.m 74 3,.xk 75 .gtr 74 1000,.m 2 75]
 .ret))))))
def Zfq:Zg prog 5 76 Zg8 [.t 2]:=.o [] [] Tryz.func5 K1
def Zgl:C:=(.sr [.d 1 (.box 25 (.t 0)),.xv 2 0]
 (.seq (.sr [.xo 6 0 1,.xl 7 6,.xn 8 7,.xk 9 .gtr 8 6]
 (.ite (.t 9) (.sr [.xv 2 2]
 .ret) .skip))
 (.seq (.sr [.xv 3 0]
 (.block 0 (.loop (.seq (.sr [.m 10 3,.xo 11 0 1,.xl 12 11,.xn 13 12,.xc 14 .lss 10 13]
 (.ite (.t 14) .skip (.exit 0)))
 (.seq (.block 1 (.seq (.sr [.xo 17 0 1,.xl 18 17,.m 19 3,.xi 20 1 18 19,.xl 21 20,.d 22 (.call (.func 79) #[(.t 21)]),.xt 23 22]
 (.ite (.t 23) (.sr [.xv 2 4]
 .ret) .skip))
 (.seq (.drw [(0,.xo 24 0 1),(0,.xl 25 24),(0,.m 26 3),(0,.d 27 (.sub3 1 (.t 25) none (some (.t 26)))),(0,.xo 28 0 1),(0,.xl 29 28),(0,.m 30 3),(0,.xi 31 1 29 30),(0,.xl 32 31)] [.d 33 (.call (.func 80) #[(.t 27),(.t 32)]),.xk 34 .geq 33 0])
 (.ite (.t 34) (.sr [.xv 2 5]
 .ret) .skip))))
 (.reg [.m 15 3,.xa 16 15,.m 3 16]))))))
 (.seq (.sr [.xo 35 1 1,.xl 36 35,.xn 37 36,.xk 38 .gtr 37 5]
 (.ite (.t 38) (.sr [.xv 2 2]
 .ret) .skip))
 (.seq (.sr [.xv 4 0]
 (.block 2 (.loop (.seq (.sr [.m 39 4,.xo 40 1 1,.xl 41 40,.xn 42 41,.xc 43 .lss 39 42]
 (.ite (.t 43) .skip (.exit 2)))
 (.seq (.block 3 (.sr [.xd 46 2 1,.m 47 4,.d 48 (.call (.func 81) #[(.t 46),(.t 47)]),.m 5 48]
 (.sr [.m 49 5,.xk 50 .neq 49 0]
 (.ite (.t 50) (.sr [.m 51 5,.m 2 51]
 .ret) .skip))))
 (.reg [.m 44 4,.xa 45 44,.m 4 45]))))))
 (.seq (.sr [.xd 52 2 1,.d 53 (.call (.func 35) #[(.t 52)])]
 (.ite (.t 53) (.sr [.xv 2 8]
 .ret) .skip))
 (.sr [.xv 2 0]
 .ret)))))))
def Zdx:Zg prog 42 54 Zgl [.t 2]:=.o [] [33] Tryz.func42 K1
noncomputable def Zgd:C:=(.sr [.d 2 (.box 25 (.t 0)),.d 3 (.box 25 (.t 1)),.xb 4 false]
 (.seq (.sr [.xo 9 0 2,.xl 10 9,.xo 11 0 3,.xl 12 11,.d 13 (.call (.func 46) #[(.t 10),(.t 12)]),.xt 14 13,.m 15 14,.yo 16 15 false 1 2,.yl 17 15 false 16,.yn 18 15 false 17,.yo 19 15 false 1 3,.yl 20 15 false 19,.yn 21 15 false 20,.u 22 15 false (.cmp .neq (.t 18) (.t 21)),.xq 23 15 22]
 (.ite (.t 23) (.sr [.xb 4 false]
 .ret) .skip))
 (.seq (.sr [.xv 5 0]
 (.block 0 (.loop (.seq (.sr [.m 24 5,.xo 25 1 2,.xl 26 25,.xn 27 26,.xc 28 .lss 24 27]
 (.ite (.t 28) .skip (.exit 0)))
 (.seq (.block 1 (.seq (.cd 89 (Zl Tryz.f12 6))
 (.seq (.sr [.xo 41 0 6,.xl 42 41,.xo 43 0 7,.xl 44 43,.d 45 (.teq .neq (.t 42) (.t 44)),.m 46 45,.yo 47 46 false 1 6,.yl 48 46 false 47,.yo 49 46 false 1 7,.yl 50 46 false 49,.u 51 46 false (.cmp .neq (.t 48) (.t 50)),.xq 52 46 51,.m 53 52,.yo 54 53 false 3 6,.yl 55 53 false 54,.yo 56 53 false 3 7,.yl 57 53 false 56,.u 58 53 false (.call (.func 25) #[(.t 55),(.t 57)]),.u 59 53 false (.not (.t 58)),.xq 60 53 59,.m 61 60,.yo 62 61 false 2 6,.yl 63 61 false 62,.yn 64 61 false 63,.yo 65 61 false 2 7,.yl 66 61 false 65,.yn 67 61 false 66,.u 68 61 false (.cmp .neq (.t 64) (.t 67)),.xq 69 61 68]
 (.ite (.t 69) (.sr [.xb 4 false]
 .ret) .skip))
 (.sr [.xv 8 0]
 (.block 2 (.loop (.seq (.sr [.m 70 8,.xo 71 2 6,.xl 72 71,.xn 73 72,.xc 74 .lss 70 73]
 (.ite (.t 74) .skip (.exit 2)))
 (.seq (.block 3 (.seq (.drw [(0,.xo 77 2 6),(0,.xl 78 77),(0,.m 79 8),(0,.xi 80 1 78 79),(0,.xl 81 80),(0,.xo 82 2 7),(0,.xl 83 82),(0,.m 84 8),(0,.xi 85 1 83 84),(0,.xl 86 85)] [.d 87 (.call (.func 25) #[(.t 81),(.t 86)]),.xt 88 87])
 (.ite (.t 88) (.sr [.xb 4 false]
 .ret) .skip)))
 (.reg [.m 75 8,.xa 76 75,.m 8 76])))))))))
 (.reg [.m 29 5,.xa 30 29,.m 5 30]))))))
 (.sr [.xb 4 true]
 .ret))))
def Ze0:Zg prog 12 89 Zgd [.t 4]:=.o [] [87] Tryz.func12 K1
def Zgt:C:=(.sr [.xv 4 0]
 (.seq (.sr [.xv 5 0]
 (.block 0 (.loop (.seq (.sr [.m 6 5,.m 7 0,.xn 8 7,.xc 9 .lss 6 8]
 (.ite (.t 9) .skip (.exit 0)))
 (.seq (.block 1 (.sr [.m 12 0,.m 13 5,.xi 14 1 12 13,.xl 15 14,.m 16 1,.d 17 (.teq .eql (.t 15) (.t 16))]
 (.ite (.t 17) (.sr [.m 18 5,.m 4 18]
 .ret) .skip)))
 (.reg [.m 10 5,.xa 11 10,.m 5 11]))))))
 (.sr [.xv 4 (-1)]
 .ret)))
def Ze5:Zg prog 80 19 Zgt [.t 4]:=.o [] [] Tryz.func80 K1
def Zgo:C:=(.sr [.xb 4 false]
 (.seq (.sr [.m 6 0,.xn 7 6,.m 8 1,.xn 9 8,.xc 10 .neq 7 9]
 (.ite (.t 10) (.sr [.xb 4 false]
 .ret) .skip))
 (.seq (.sr [.xv 5 0]
 (.block 0 (.loop (.seq (.sr [.m 11 5,.m 12 0,.xn 13 12,.xc 14 .lss 11 13]
 (.ite (.t 14) .skip (.exit 0)))
 (.seq (.block 1 (.seq (.drw [(0,.m 17 0),(0,.m 18 5),(0,.xi 19 1 17 18),(0,.xl 20 19),(0,.m 21 1),(0,.m 22 5),(0,.xi 23 1 21 22),(0,.xl 24 23)] [.d 25 (.teq .neq (.t 20) (.t 24))])
 (.ite (.t 25) (.sr [.xb 4 false]
 .ret) .skip)))
 (.reg [.m 15 5,.xa 16 15,.m 5 16]))))))
 (.sr [.xb 4 true]
 .ret))))
def Ze4:Zg prog 46 26 Zgo [.t 4]:=.o [] [] Tryz.func46 K1
def Zfx:C:=(.sr [.xv 4 0]
 (.seq (.sr [.xv 5 0]
 (.block 0 (.loop (.seq (.sr [.m 6 5,.m 7 0,.xn 8 7,.xc 9 .lss 6 8]
 (.ite (.t 9) .skip (.exit 0)))
 (.seq (.block 1 (.seq (.sr [.m 12 0,.m 13 5,.xi 14 1 12 13,.xl 15 14,.m 16 1,.d 17 (.sub (.t 16) (.ci 1)),.d 18 (.call (.func 44) #[(.t 15),(.ci 0),(.t 17)]),.xt 19 18]
 (.ite (.t 19) (.sr [.xv 4 6]
 .ret) .skip))
 (.seq (.drw [(0,.m 20 5),(0,.xk 21 .gtr 20 0),(0,.m 22 21),(0,.ym 23 22 true 0),(0,.ym 24 22 true 5),(0,.yi 25 22 true 1 23 24),(0,.yl 26 22 true 25),(0,.ym 27 22 true 0),(0,.ym 28 22 true 5),(0,.u 29 22 true (.sub (.t 28) (.ci 1))),(0,.yi 30 22 true 1 27 29),(0,.yl 31 22 true 30)] [.u 32 22 true (.cmp .leq (.t 26) (.t 31)),.xp 33 22 32])
 (.ite (.t 33) (.sr [.xv 4 7]
 .ret) .skip))))
 (.reg [.m 10 5,.xa 11 10,.m 5 11]))))))
 (.sr [.xv 4 0]
 .ret)))
def Zaf:Zg prog 115 34 Zfx [.t 4]:=.o [] [] Tryz.func115 K1
def Zgs:C:=(.sr [.d 4 (.box 25 (.t 0)),.xb 8 false]
 (.seq (.sr [.xv 9 0]
 (.block 0 (.loop (.seq (.sr [.m 11 9,.xo 12 1 4,.xl 13 12,.m 14 1,.xi 15 4 13 14,.xo 16 3 15,.xl 17 16,.xn 18 17,.xc 19 .lss 11 18,.m 20 19,.ym 21 20 true 3,.yk 22 20 true .gtr 21 0,.xp 23 20 22]
 (.ite (.t 23) .skip (.exit 0)))
 (.seq (.block 1 (.sr [.xo 26 1 4,.xl 27 26,.m 28 1,.xi 29 4 27 28,.xo 30 3 29,.xl 31 30,.m 32 9,.xi 33 1 31 32,.xl 34 33,.m 10 34]
 (.sr [.m 35 10,.m 36 2,.xc 37 .eql 35 36,.m 38 37,.u 39 38 false (.ldn 2 (.t 4)),.ym 40 38 false 10,.ym 41 38 false 2,.ym 42 38 false 3,.u 43 38 false (.sub (.t 42) (.ci 1)),.u 44 38 false (.call (.func 74) #[(.t 39),(.t 40),(.t 41),(.t 43)]),.xq 45 38 44]
 (.ite (.t 45) (.sr [.xb 8 true]
 .ret) .skip))))
 (.reg [.m 24 9,.xa 25 24,.m 9 25]))))))
 (.sr [.xb 8 false]
 .ret)))
def Q1e:Zg prog 74 46 Zgs [.t 8]:=.o [] [] Tryz.func74 K1
def Zgu:C:=(.sr [.d 2 (.box 25 (.t 0)),.xv 4 0]
 (.sr [.xo 9 1 2,.xl 10 9,.m 11 1,.xi 12 4 10 11,.xd 13 4 12,.d 5 (.alloc 46 #[(.string ⟨#[]⟩),(.int .i64 0),.nl,.nl]),⟨.st 4 (.t 5) (.t 13),none,none,none⟩]
 (.seq (.sr [.xo 14 0 5,.xl 15 14,.d 16 (.call (.func 79) #[(.t 15)]),.xt 17 16]
 (.ite (.t 17) (.sr [.xv 4 4]
 .ret) .skip))
 (.seq (.sr [.xv 6 0]
 (.block 0 (.loop (.seq (.sr [.m 18 6,.m 19 1,.xc 20 .lss 18 19]
 (.ite (.t 20) .skip (.exit 0)))
 (.seq (.block 1 (.seq (.drw [(0,.xo 23 1 2),(0,.xl 24 23),(0,.m 25 6),(0,.xi 26 4 24 25),(0,.xo 27 0 26),(0,.xl 28 27),(0,.xo 29 0 5),(0,.xl 30 29)] [.d 31 (.teq .eql (.t 28) (.t 30))])
 (.ite (.t 31) (.sr [.xv 4 5]
 .ret) .skip)))
 (.reg [.m 21 6,.xa 22 21,.m 6 22]))))))
 (.seq (.sr [.xo 32 1 5,.xl 33 32,.xo 34 0 2,.xl 35 34,.xn 36 35,.d 37 (.sub (.t 36) (.ci 1)),.d 38 (.call (.func 44) #[(.t 33),(.ci 0),(.t 37)]),.xt 39 38]
 (.ite (.t 39) (.sr [.xv 4 6]
 .ret) .skip))
 (.seq (.sr [.xo 40 2 5,.xl 41 40,.xn 42 41,.xk 43 .gtr 42 3]
 (.ite (.t 43) (.sr [.xv 4 2]
 .ret) .skip))
 (.seq (.sr [.xv 7 0]
 (.block 2 (.loop (.seq (.sr [.m 44 7,.xo 45 2 5,.xl 46 45,.xn 47 46,.xc 48 .lss 44 47]
 (.ite (.t 48) .skip (.exit 2)))
 (.seq (.block 3 (.seq (.sr [.xo 51 2 5,.xl 52 51,.m 53 7,.xi 54 1 52 53,.xl 55 54,.xn 56 55,.xk 57 .gtr 56 3]
 (.ite (.t 57) (.sr [.xv 4 2]
 .ret) .skip))
 (.seq (.drw [(0,.xo 58 2 5),(0,.xl 59 58),(0,.m 60 7),(0,.xi 61 1 59 60),(0,.xl 62 61),(0,.xo 63 0 2),(0,.xl 64 63),(0,.xn 65 64)] [.d 66 (.call (.func 115) #[(.t 62),(.t 65)]),.m 8 66])
 (.sr [.m 67 8,.xk 68 .neq 67 0]
 (.ite (.t 68) (.sr [.m 69 8,.m 4 69]
 .ret) .skip)))))
 (.reg [.m 49 7,.xa 50 49,.m 7 50]))))))
 (.sr [.xo 70 3 5,.xl 71 70,.xo 72 1 2,.xl 73 72,.xn 74 73,.d 75 (.call (.func 115) #[(.t 71),(.t 74)]),.m 4 75]
 .ret))))))))
def Ze6:Zg prog 81 76 Zgu [.t 4]:=.o [] [66] Tryz.func81 K1
def Zgk:C:=(.sr [.d 1 (.box 25 (.t 0)),.xb 2 false]
 (.seq (.sr [.xv 3 0]
 (.block 0 (.loop (.seq (.sr [.m 4 3,.xo 5 1 1,.xl 6 5,.xn 7 6,.xc 8 .lss 4 7]
 (.ite (.t 8) .skip (.exit 0)))
 (.seq (.block 1 (.sr [.xd 11 2 1,.m 12 3,.m 13 3,.xo 14 1 1,.xl 15 14,.xn 16 15,.d 17 (.call (.func 74) #[(.t 11),(.t 12),(.t 13),(.t 16)])]
 (.ite (.t 17) (.sr [.xb 2 true]
 .ret) .skip)))
 (.reg [.m 9 3,.xa 10 9,.m 3 10]))))))
 (.sr [.xb 2 false]
 .ret)))
def Q1d:Zg prog 35 18 Zgk [.t 2]:=.o [] [] Tryz.func35 K1
