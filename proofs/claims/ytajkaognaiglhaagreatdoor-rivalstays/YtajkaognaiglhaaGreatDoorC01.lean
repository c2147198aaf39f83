/- Lemmas. No conditions. -/
import Derived.Test.YtajkaognaiglhaaGreatDoorProg
import Derived.Test.YtajkaognaiglhaaGreatDoorB01
set_option linter.all false
set_option maxRecDepth 100000
open Go.Proofs.Tryz (prog)
noncomputable section
namespace Go.TM
open Go.Proofs
def Zfv:C:=(.sr [.xb 4 false]
 (.seq (.sr [.xv 5 0]
 (.block 0 (.loop (.seq (.sr [.m 6 5,.m 7 0,.xn 8 7,.xc 9 .lss 6 8]
 (.ite (.t 9) .skip (.exit 0)))
 (.seq (.block 1 (.sr [.m 12 1,.m 13 0,.m 14 5,.xi 15 1 13 14,.xl 16 15,.d 17 (.call (.func 45) #[(.t 12),(.t 16)]),.xt 18 17]
 (.ite (.t 18) (.sr [.xb 4 false]
 .ret) .skip)))
 (.reg [.m 10 5,.xa 11 10,.m 5 11]))))))
 (.sr [.xb 4 true]
 .ret)))
def Zed:Zg prog 110 19 Zfv [.t 4]:=.o [] [] Tryz.func110 K1
def Zfw:C:=(.sr [.d 2 (.box 46 (.t 0)),.xb 4 false]
 (.seq (.sr [.xv 5 0]
 (.block 0 (.loop (.seq (.sr [.m 8 5,.xo 9 2 2,.xl 10 9,.xn 11 10,.xc 12 .lss 8 11]
 (.ite (.t 12) .skip (.exit 0)))
 (.seq (.block 1 (.sr [.xb 6 true]
 (.seq (.sr [.xv 7 0]
 (.block 2 (.loop (.seq (.sr [.m 15 7,.xo 16 2 2,.xl 17 16,.m 18 5,.xi 19 1 17 18,.xl 20 19,.xn 21 20,.xc 22 .lss 15 21]
 (.ite (.t 22) .skip (.exit 2)))
 (.seq (.block 3 (.reg [.m 25 6,.m 26 25,.ym 27 26 true 1,.yo 28 26 true 2 2,.yl 29 26 true 28,.ym 30 26 true 5,.yi 31 26 true 1 29 30,.yl 32 26 true 31,.ym 33 26 true 7,.yi 34 26 true 1 32 33,.yl 35 26 true 34,.yi 36 26 true 1 27 35,.yl 37 26 true 36,.xp 38 26 37,.m 6 38]))
 (.reg [.m 23 7,.xa 24 23,.m 7 24]))))))
 (.sr [.m 39 6]
 (.ite (.t 39) (.sr [.xb 4 true]
 .ret) .skip)))))
 (.reg [.m 13 5,.xa 14 13,.m 5 14]))))))
 (.sr [.xb 4 false]
 .ret)))
def Zee:Zg prog 111 40 Zfw [.t 4]:=.o [] [] Tryz.func111 K1
noncomputable def Zgq:C:=(.sr [.d 2 (.box 25 (.t 0)),.xs 4,.xs 5]
 (.seq (.cd 57 (Zl Tryz.f72 1))
 (.seq (.sr [.xv 8 0]
 (.block 0 (.loop (.seq (.sr [.m 19 8,.m 20 6,.xn 21 20,.xc 22 .lss 19 21]
 (.ite (.t 22) .skip (.exit 0)))
 (.seq (.block 1 (.reg [.m 25 6,.m 26 8,.xi 27 1 25 26,⟨.st 1 (.t 27) (.cb true),none,none,none⟩]))
 (.reg [.m 23 8,.xa 24 23,.m 8 24]))))))
 (.seq (.sr [.xv 9 0]
 (.block 2 (.loop (.seq (.sr [.m 28 9,.m 29 1,.xn 30 29,.xc 31 .lss 28 30]
 (.ite (.t 31) .skip (.exit 2)))
 (.seq (.block 3 (.seq (.cd 57 (Zl Tryz.f72 9))
 (.sr [.xd 42 4 10,.m 43 6,.d 44 (.call (.func 111) #[(.t 42),(.t 43)])]
 (.ite (.t 44) (.sr [.m 45 7,.m 46 1,.m 47 9,.xi 48 1 46 47,.xl 49 48,.xi 50 1 45 49,⟨.st 1 (.t 50) (.cb true),none,none,none⟩]
 (.reg [.m 51 6,.xo 52 1 10,.xl 53 52,.xi 54 1 51 53,⟨.st 1 (.t 54) (.cb false),none,none,none⟩])) .skip))))
 (.reg [.m 32 9,.xa 33 32,.m 9 33]))))))
 (.sr [.m 55 6,.m 56 7,.m 4 55,.m 5 56]
 .ret)))))
def Zdy:Zg prog 72 57 Zgq [.t 4,.t 5]:=.o [1009] [] Tryz.func72 K1
noncomputable def Zgp:C:=(.sr [.d 2 (.box 25 (.t 0)),.xs 4]
 (.seq (.sr [.m 7 1,.xn 8 7,.xo 9 1 2,.xl 10 9,.xn 11 10,.xc 12 .eql 8 11]
 (.ite (.t 12) (.sr [.d 13 (.bsl 3 0 #[] []),.m 14 1,.xz 15 13 14 44,.d 16 (.bsl 44 1 #[.nl] [(0,1,(.t 15))]),.m 4 16]
 .ret) .skip))
 (.sr [.xs 5]
 (.seq (.sr [.xv 6 0]
 (.block 0 (.loop (.seq (.sr [.m 17 6,.xo 18 1 2,.xl 19 18,.xn 20 19,.xc 21 .lss 17 20]
 (.ite (.t 21) .skip (.exit 0)))
 (.seq (.block 1 (.sr [.m 24 1,.m 25 6,.d 26 (.call (.func 45) #[(.t 24),(.t 25)]),.xt 27 26,.m 28 27,.yo 29 28 true 1 2,.yl 30 28 true 29,.ym 31 28 true 6,.yi 32 28 true 4 30 31,.yo 33 28 true 3 32,.yl 34 28 true 33,.ym 35 28 true 1,.u 36 28 true (.call (.func 110) #[(.t 34),(.t 35)]),.xp 37 28 36]
 (.ite (.t 37) (.cd 49 (Zl Tryz.f71 8)) .skip)))
 (.reg [.m 22 6,.xa 23 22,.m 6 23]))))))
 (.sr [.m 48 5,.m 4 48]
 .ret)))))
def Qfx:Zg prog 71 49 Zgp [.t 4]:=.o [] [] Tryz.func71 K1
def Zgr:C:=(.sr [.xv 4 0]
 (.seq (.sr [.m 5 0,.m 6 1,.xc 7 .eql 5 6]
 (.ite (.t 7) (.sr [.xv 4 1]
 .ret) .skip))
 (.seq (.sr [.m 8 0,.xk 9 .eql 8 0]
 (.ite (.t 9) (.sr [.xv 4 2]
 .ret) .skip))
 (.sr [.xv 4 0]
 .ret))))
def Zdz:Zg prog 73 10 Zgr [.t 4]:=.o [] [] Tryz.func73 K1
noncomputable def Zgg:C:=(.sr [.d 1 (.box 25 (.t 0)),.xs 2,.xs 3]
 (.sr [.xd 16 2 1,.d 17 (.call (.func 71) #[(.t 16),.cn]),.m 4 17]
 (.seq (.cd 107 (Zl Tryz.f31 2))
 (.seq (.sr [.xv 7 0]
 (.block 0 (.loop (.seq (.sr [.m 26 7,.m 27 4,.xn 28 27,.xc 29 .lss 26 28]
 (.ite (.t 29) .skip (.exit 0)))
 (.seq (.block 1 (.seq (.drw [(0,.xd 33 2 1),(0,.m 34 4),(0,.m 35 7),(0,.xi 36 1 34 35),(0,.xl 37 36),(2,.d 38 (.call (.func 72) #[(.t 33),(.t 37)])),(0,.m 32 38),(0,.xe 39 32 0),(0,.xe 40 32 1),(0,.m 8 39)] [.m 9 40])
 (.seq (.sr [.xv 10 0]
 (.block 2 (.loop (.seq (.sr [.m 41 10,.m 42 5,.xn 43 42,.xc 44 .lss 41 43]
 (.ite (.t 44) .skip (.exit 2)))
 (.seq (.block 3 (.sr [.m 47 8,.m 48 10,.xi 49 1 47 48,.xl 50 49]
 (.ite (.t 50) (.reg [.m 51 5,.m 52 10,.xi 53 1 51 52,.xl 54 53,.xa 55 54,.xi 56 1 51 52,⟨.st 1 (.t 56) (.t 55),none,none,none⟩]) .skip)))
 (.reg [.m 45 10,.xa 46 45,.m 10 46]))))))
 (.sr [.xv 11 0]
 (.block 4 (.loop (.seq (.sr [.m 57 11,.m 58 6,.xn 59 58,.xc 60 .lss 57 59]
 (.ite (.t 60) .skip (.exit 4)))
 (.seq (.block 5 (.sr [.m 63 9,.m 64 11,.xi 65 1 63 64,.xl 66 65]
 (.ite (.t 66) (.reg [.m 67 6,.m 68 11,.xi 69 1 67 68,.xl 70 69,.xa 71 70,.xi 72 1 67 68,⟨.st 1 (.t 72) (.t 71),none,none,none⟩]) .skip)))
 (.reg [.m 61 11,.xa 62 61,.m 11 62])))))))))
 (.reg [.m 30 7,.xa 31 30,.m 7 31]))))))
 (.sr [.xs 12,.xs 13]
 (.seq (.sr [.xv 14 0]
 (.block 6 (.loop (.seq (.sr [.m 73 14,.m 74 5,.xn 75 74,.xc 76 .lss 73 75]
 (.ite (.t 76) .skip (.exit 6)))
 (.seq (.block 7 (.reg [.m 79 12,.m 80 5,.m 81 14,.xi 82 1 80 81,.xl 83 82,.m 84 4,.xn 85 84,.d 86 (.call (.func 73) #[(.t 83),(.t 85)]),.d 87 (.bsl 38 1 #[(.int .i64 0)] [(0,1,(.t 86))]),.xz 88 79 87 51,.m 12 88]))
 (.reg [.m 77 14,.xa 78 77,.m 14 78]))))))
 (.seq (.sr [.xv 15 0]
 (.block 8 (.loop (.seq (.sr [.m 89 15,.m 90 6,.xn 91 90,.xc 92 .lss 89 91]
 (.ite (.t 92) .skip (.exit 8)))
 (.seq (.block 9 (.reg [.m 95 13,.m 96 6,.m 97 15,.xi 98 1 96 97,.xl 99 98,.m 100 4,.xn 101 100,.d 102 (.call (.func 73) #[(.t 99),(.t 101)]),.d 103 (.bsl 38 1 #[(.int .i64 0)] [(0,1,(.t 102))]),.xz 104 95 103 51,.m 13 104]))
 (.reg [.m 93 15,.xa 94 93,.m 15 94]))))))
 (.sr [.m 105 12,.m 106 13,.m 2 105,.m 3 106]
 .ret))))))))
def Zdv:Zg prog 31 107 Zgg [.t 2,.t 3]:=.o [] [] Tryz.func31 K1
def Zge:C:=(.sr [.d 2 (.box 25 (.t 0)),.xv 4 0]
 (.seq (.sr [.xd 6 2 2,.d 7 (.call (.func 42) #[(.t 6)]),.m 5 7]
 (.sr [.m 8 5,.xk 9 .neq 8 0]
 (.ite (.t 9) (.sr [.m 10 5,.m 4 10]
 .ret) .skip)))
 (.seq (.sr [.m 11 1,.xo 12 0 2,.xl 13 12,.xn 14 13,.d 15 (.sub (.t 14) (.ci 1)),.d 16 (.call (.func 44) #[(.t 11),(.ci 0),(.t 15)]),.xt 17 16]
 (.ite (.t 17) (.sr [.xv 4 6]
 .ret) .skip))
 (.sr [.xv 4 0]
 .ret))))
def Zdo:Zg prog 29 18 Zge [.t 4]:=.o [] [] Tryz.func29 K1
def Zgf:C:=(.sr [.d 2 (.box 25 (.t 0)),.xs 4,.xs 5,.xv 6 0]
 (.seq (.sr [.xd 14 2 2,.m 15 1,.d 16 (.call (.func 29) #[(.t 14),(.t 15)]),.m 7 16]
 (.sr [.m 17 7,.xk 18 .neq 17 0]
 (.ite (.t 18) (.sr [.m 19 7,.xs 4,.xs 5,.m 6 19]
 .ret) .skip)))
 (.sr [.xd 20 2 2,.d 21 (.call (.func 71) #[(.t 20),.cn]),.m 8 21]
 (.sr [.xs 9,.xs 10]
 (.seq (.sr [.m 22 8,.xn 23 22,.d 24 (.sub (.t 23) (.ci 1)),.m 11 24]
 (.block 0 (.loop (.seq (.sr [.m 25 11,.xk 26 .geq 25 0]
 (.ite (.t 26) .skip (.exit 0)))
 (.seq (.block 1 (.seq (.drw [(0,.xd 30 2 2),(0,.m 31 8),(0,.m 32 11),(0,.xi 33 1 31 32),(0,.xl 34 33),(2,.d 35 (.call (.func 72) #[(.t 30),(.t 34)])),(0,.m 29 35),(0,.xe 36 29 0),(0,.xe 37 29 1),(0,.m 12 36)] [.m 13 37])
 (.sr [.m 38 12,.m 39 1,.xi 40 1 38 39,.xl 41 40]
 (.ite (.t 41) (.reg [.m 42 8,.m 43 11,.xi 44 1 42 43,.xl 45 44,.m 9 45]) (.reg [.m 46 8,.m 47 11,.xi 48 1 46 47,.xl 49 48,.m 10 49])))))
 (.reg [.m 27 11,.d 28 (.sub (.t 27) (.ci 1)),.m 11 28]))))))
 (.sr [.m 50 9,.m 51 10,.m 4 50,.m 5 51,.xv 6 0]
 .ret))))))
def Ze1:Zg prog 30 52 Zgf [.t 4,.t 5,.t 6]:=.o [] [] Tryz.func30 K1
noncomputable def Zgm:C:=(.sr [.d 1 (.box 25 (.t 0)),.d 2 (.alloc 25 #[.nl,.nl])]
 (.sr [.d 7 (.bsl 9 0 #[] []),.xo 8 0 1,.xl 9 8,.xz 10 7 9 22,.d 11 (.build #[.nl,.nl] [(0,1,(.t 10))]),.d 3 (.alloc 25 #[.nl,.nl]),⟨.st 2 (.t 3) (.t 11),none,none,none⟩]
 (.seq (.sr [.xv 4 0]
 (.block 0 (.loop (.seq (.sr [.m 12 4,.xo 13 1 1,.xl 14 13,.xn 15 14,.xc 16 .lss 12 15]
 (.ite (.t 16) .skip (.exit 0)))
 (.seq (.block 1 (.sr [.xo 19 1 1,.xl 20 19,.m 21 4,.xi 22 4 20 21,.xd 23 4 22,.d 5 (.alloc 46 #[(.string ⟨#[]⟩),(.int .i64 0),.nl,.nl]),⟨.st 4 (.t 5) (.t 23),none,none,none⟩]
 (.sr [.d 24 (.bsl 3 0 #[] []),.xo 25 3 5,.xl 26 25,.xz 27 24 26 44,.xo 28 2 5,⟨.st 1 (.t 28) .cn,none,none,none⟩,.xo 29 3 5,⟨.st 1 (.t 29) (.t 27),none,none,none⟩]
 (.seq (.sr [.xv 6 0]
 (.block 2 (.loop (.seq (.sr [.m 30 6,.xo 31 1 1,.xl 32 31,.m 33 4,.xi 34 4 32 33,.xo 35 2 34,.xl 36 35,.xn 37 36,.xc 38 .lss 30 37]
 (.ite (.t 38) .skip (.exit 2)))
 (.seq (.block 3 (.drw [(0,.xo 41 2 5),(0,.xl 42 41),(0,.xo 44 1 1),(0,.xl 45 44),(0,.m 46 4),(0,.xi 47 4 45 46),(0,.xo 48 2 47),(0,.xl 49 48),(0,.m 50 6),(0,.xi 51 1 49 50),(0,.xl 52 51),(2,.d 43 (.bsl 3 0 #[] [])),(2,.xz 53 43 52 44),(2,.d 54 (.bsl 44 1 #[.nl] [(0,1,(.t 53))]))] [.xz 55 42 54 43,.xo 56 2 5,⟨.st 1 (.t 56) (.t 55),none,none,none⟩]))
 (.reg [.m 39 6,.xa 40 39,.m 6 40]))))))
 (.cd 64 (Zl Tryz.f43 11))))))
 (.reg [.m 17 4,.xa 18 17,.m 4 18]))))))
 (.sr [.xd 63 2 3,⟨.st 2 (.t 2) (.t 63),none,none,none⟩]
 .ret))))
def Ze3:Zg prog 43 64 Zgm [.cn 2 2]:=.o [1011] [] Tryz.func43 K1
noncomputable def Zgj:C:=(.sr [.d 2 (.box 25 (.t 0)),.d 4 (.alloc 25 #[.nl,.nl])]
 (.sr [.xd 10 2 2,.d 5 (.alloc 25 #[.nl,.nl]),⟨.st 2 (.t 5) (.t 10),none,none,none⟩]
 (.sr [.d 11 (.bsl 46 0 #[] []),.xo 12 1 2,.xl 13 12,.xz 14 11 13 23,.xo 15 1 5,⟨.st 1 (.t 15) (.t 14),none,none,none⟩]
 (.seq (.sr [.xv 6 0]
 (.block 0 (.loop (.seq (.sr [.m 16 6,.m 17 1,.xn 18 17,.xc 19 .lss 16 18]
 (.ite (.t 19) .skip (.exit 0)))
 (.seq (.block 1 (.seq (.cd 81 (Zl Tryz.f34 6))
 (.sr [.xv 8 0]
 (.seq (.block 2 (.loop (.seq (.seq (.drw [(0,.m 31 8),(0,.xo 32 3 7),(0,.xl 33 32),(0,.xn 34 33),(0,.xc 35 .lss 31 34),(0,.m 36 35),(0,.yo 37 36 true 3 7),(0,.yl 38 36 true 37),(0,.ym 39 36 true 8),(0,.yi 40 36 true 1 38 39),(0,.yl 41 36 true 40),(0,.ym 42 36 true 1),(0,.ym 43 36 true 6),(0,.yi 44 36 true 2 42 43),(0,.yo 45 36 true 1 44),(0,.yl 46 36 true 45)] [.u 47 36 true (.cmp .lss (.t 41) (.t 46)),.xp 48 36 47])
 (.ite (.t 48) .skip (.exit 2)))
 (.block 3 (.reg [.m 49 8,.xa 50 49,.m 8 50])))))
 (.seq (.cd 81 (Zl Tryz.f34 10))
 (.sr [.m 64 9,.xo 65 3 7,.xl 66 65,.m 67 8,.d 68 (.sub3 1 (.t 66) (some (.t 67)) none),.xz 69 64 68 44,.xo 70 3 7,⟨.st 1 (.t 70) (.t 69),none,none,none⟩]
 (.drw [(0,.xo 71 1 5),(0,.xl 72 71),(0,.m 73 1),(0,.m 74 6),(0,.xi 75 2 73 74),(0,.xo 76 0 75),(0,.xl 77 76),(0,.xd 78 4 7)] [.xi 79 4 72 77,⟨.st 4 (.t 79) (.t 78),none,none,none⟩])))))))
 (.reg [.m 20 6,.xa 21 20,.m 6 21]))))))
 (.sr [.xd 80 2 5,⟨.st 2 (.t 4) (.t 80),none,none,none⟩]
 .ret)))))
def Qz8:Zg prog 34 81 Zgj [.cn 4 2]:=.o [1006] [] Tryz.func34 K1
def Zgi:C:=(.sr [.xs 4]
 (.seq (.sr [.m 9 1,.xk 10 .eql 9 0]
 (.ite (.t 10) (.sr [.d 11 (.bsl 26 1 #[.nl] [(0,1,.cn)]),.m 4 11]
 .ret) .skip))
 (.sr [.xs 5]
 (.seq (.sr [.xv 6 0]
 (.block 0 (.loop (.seq (.sr [.m 12 6,.m 13 0,.xn 14 13,.xc 15 .lss 12 14]
 (.ite (.t 15) .skip (.exit 0)))
 (.seq (.block 1 (.sr [.m 18 0,.m 19 6,.xa 20 19,.d 21 (.sub3 2 (.t 18) (some (.t 20)) none),.m 22 1,.d 23 (.sub (.t 22) (.ci 1)),.d 24 (.call (.func 33) #[(.t 21),(.t 23)]),.m 7 24]
 (.sr [.xv 8 0]
 (.block 2 (.loop (.seq (.sr [.m 25 8,.m 26 7,.xn 27 26,.xc 28 .lss 25 27]
 (.ite (.t 28) .skip (.exit 2)))
 (.seq (.block 3 (.drw [(0,.m 31 5),(0,.m 32 0),(0,.m 33 6),(0,.xi 34 2 32 33),(0,.xd 35 2 34),(0,.m 37 7),(0,.m 38 8),(0,.xi 39 1 37 38),(0,.xl 40 39),(2,.d 36 (.bsl 62 1 #[(.int .i64 0),(.int .i64 0)] [(0,2,(.t 35))])),(2,.xz 41 36 40 26),(2,.d 42 (.bsl 26 1 #[.nl] [(0,1,(.t 41))]))] [.xz 43 31 42 74,.m 5 43]))
 (.reg [.m 29 8,.xa 30 29,.m 8 30]))))))))
 (.reg [.m 16 6,.xa 17 16,.m 6 17]))))))
 (.sr [.m 44 5,.m 4 44]
 .ret)))))
def Qz7:Zg prog 33 45 Zgi [.t 4]:=.o [] [] Tryz.func33 K1
def Zgh:C:=(.sr [.d 1 (.box 25 (.t 0)),.xs 2]
 (.sr [.xs 3]
 (.seq (.sr [.xv 4 0]
 (.block 0 (.loop (.seq (.sr [.m 6 4,.xo 7 1 1,.xl 8 7,.xn 9 8,.xc 10 .lss 6 9]
 (.ite (.t 10) .skip (.exit 0)))
 (.seq (.block 1 (.sr [.xv 5 0]
 (.block 2 (.loop (.seq (.sr [.m 13 5,.xo 14 1 1,.xl 15 14,.xn 16 15,.xc 17 .lss 13 16]
 (.ite (.t 17) .skip (.exit 2)))
 (.seq (.block 3 (.sr [.m 20 4,.m 21 5,.xc 22 .neq 20 21,.m 23 22,.yo 24 23 true 1 1,.yl 25 23 true 24,.ym 26 23 true 4,.yi 27 23 true 4 25 26,.yo 28 23 true 3 27,.yl 29 23 true 28,.ym 30 23 true 5,.u 31 23 true (.call (.func 45) #[(.t 29),(.t 30)]),.u 32 23 true (.not (.t 31)),.xp 33 23 32]
 (.ite (.t 33) (.reg [.m 34 3,.m 35 4,.m 36 5,.d 37 (.build #[(.int .i64 0),(.int .i64 0)] [(0,1,(.t 35)),(1,1,(.t 36))]),.d 38 (.bsl 62 1 #[(.int .i64 0),(.int .i64 0)] [(0,2,(.t 37))]),.xz 39 34 38 26,.m 3 39]) .skip)))
 (.reg [.m 18 5,.xa 19 18,.m 5 19])))))))
 (.reg [.m 11 4,.xa 12 11,.m 4 12]))))))
 (.sr [.m 40 3,.m 2 40]
 .ret))))
def Ze2:Zg prog 32 41 Zgh [.t 2]:=.o [] [] Tryz.func32 K1
noncomputable def Zg9:C:=(.sr [.d 3 (.box 25 (.t 0)),.xs 6,.xb 7 false,.xv 8 0]
 (.seq (.sr [.xd 23 2 3,.m 24 1,.d 25 (.call (.func 29) #[(.t 23),(.t 24)]),.m 9 25]
 (.sr [.m 26 9,.xk 27 .neq 26 0]
 (.ite (.t 27) (.sr [.m 28 9,.xs 6,.xb 7 false,.m 8 28]
 .ret) .skip)))
 (.sr [.xv 10 2]
 (.seq (.sr [.m 29 2]
 (.ite (.t 29) (.reg [.xv 10 1]) .skip))
 (.sr [.xd 31 2 3,.m 32 1,.d 33 (.call (.func 30) #[(.t 31),(.t 32)]),.m 30 33,.xe 34 30 0,.xe 35 30 1,.xe 36 30 2,.m 11 34,.m 12 35,.m 13 36]
 (.seq (.sr [.xd 38 2 3,.d 39 (.call (.func 31) #[(.t 38)]),.m 37 39,.xe 40 37 0,.xe 41 37 1,.m 14 40,.m 15 41]
 (.sr [.m 42 14,.m 43 1,.xi 44 1 42 43,.xl 45 44,.m 46 10,.xc 47 .neq 45 46,.m 48 47,.ym 49 48 true 2,.ym 50 48 true 49,.ym 51 50 true 11,.yn 52 50 true 51,.yk 53 50 true .eql 52 0,.u 54 48 true (.pick (.t 50) (.t 53) (.cb false)),.ym 55 48 true 54,.ym 56 55 false 2,.u 57 55 false (.not (.t 56)),.ym 58 55 false 57,.ym 59 58 true 12,.yn 60 58 true 59,.yk 61 58 true .eql 60 0,.u 62 55 false (.pick (.t 58) (.t 61) (.cb false)),.u 63 48 true (.pick (.t 55) (.cb true) (.t 62)),.xp 64 48 63]
 (.ite (.t 64) (.sr [.xs 6,.xb 7 false,.xv 8 0]
 .ret) .skip)))
 (.sr [.xd 65 2 3,.d 66 (.call (.func 32) #[(.t 65)]),.m 16 66]
 (.seq (.sr [.xv 17 0]
 (.block 0 (.loop (.seq (.sr [.m 67 17,.xo 68 1 3,.xl 69 68,.xn 70 69,.xc 71 .leq 67 70]
 (.ite (.t 71) .skip (.exit 0)))
 (.seq (.block 1 (.sr [.m 74 16,.m 75 17,.d 76 (.call (.func 33) #[(.t 74),(.t 75)]),.m 18 76]
 (.sr [.xv 19 0]
 (.block 2 (.loop (.seq (.sr [.m 77 19,.m 78 18,.xn 79 78,.xc 80 .lss 77 79]
 (.ite (.t 80) .skip (.exit 2)))
 (.seq (.block 3 (.seq (.cd 106 (Zl Tryz.f8 19))
 (.seq (.sr [.xd 89 2 20,.d 90 (.call (.func 35) #[(.t 89)])]
 (.ite (.t 90) (.exit 3) .skip))
 (.sr [.xd 92 2 20,.d 93 (.call (.func 31) #[(.t 92)]),.m 91 93,.xe 94 91 0,.xe 95 91 1,.m 21 94,.m 22 95]
 (.sr [.m 96 21,.m 97 1,.xi 98 1 96 97,.xl 99 98,.m 100 10,.xc 101 .eql 99 100]
 (.ite (.t 101) (.sr [.m 102 18,.m 103 19,.xi 104 1 102 103,.xl 105 104,.m 6 105,.xb 7 true,.xv 8 0]
 .ret) .skip))))))
 (.reg [.m 81 19,.xa 82 81,.m 19 82]))))))))
 (.reg [.m 72 17,.xa 73 72,.m 17 73]))))))
 (.sr [.xs 6,.xb 7 false,.xv 8 0]
 .ret)))))))))
def Zfr:Zg prog 8 106 Zg9 [.t 6,.t 7,.t 8]:=.o [] [] Tryz.func8 K1
def Zgc:C:=(.sr [.d 2 (.box 25 (.t 0)),.d 4 (.alloc 25 #[.nl,.nl]),.xv 5 0]
 (.seq (.sr [.xd 9 2 2,.d 10 (.call (.func 42) #[(.t 9)]),.m 6 10]
 (.sr [.m 11 6,.xk 12 .neq 11 0]
 (.ite (.t 12) (.sr [.d 13 (.build #[.nl,.nl] []),.m 14 6,⟨.st 2 (.t 4) (.t 13),none,none,none⟩,.m 5 14]
 .ret) .skip)))
 (.sr [.xd 15 2 2,.d 16 (.call (.func 43) #[(.t 15)]),.d 7 (.alloc 25 #[.nl,.nl]),⟨.st 2 (.t 7) (.t 16),none,none,none⟩]
 (.seq (.sr [.xv 8 0]
 (.block 0 (.loop (.seq (.sr [.m 17 8,.m 18 1,.xn 19 18,.xc 20 .lss 17 19]
 (.ite (.t 20) .skip (.exit 0)))
 (.seq (.block 1 (.seq (.seq (.drw [(0,.m 23 1),(0,.m 24 8),(0,.xi 25 2 23 24),(0,.xo 26 0 25),(0,.xl 27 26),(0,.xo 28 1 2),(0,.xl 29 28),(0,.xn 30 29),(0,.d 31 (.sub (.t 30) (.ci 1))),(1,.d 32 (.call (.func 44) #[(.t 27),(.ci 0),(.t 31)])),(0,.xt 33 32),(0,.m 34 33),(0,.ym 35 34 false 1),(0,.ym 36 34 false 8),(0,.yi 37 34 false 2 35 36),(0,.yo 38 34 false 1 37),(0,.yl 39 34 false 38),(0,.yo 40 34 false 1 2),(0,.yl 41 34 false 40),(0,.yn 42 34 false 41),(0,.u 43 34 false (.sub (.t 42) (.ci 1)))] [.u 44 34 false (.call (.func 44) #[(.t 39),(.ci 0),(.t 43)]),.u 45 34 false (.not (.t 44)),.xq 46 34 45])
 (.ite (.t 46) (.sr [.d 47 (.build #[.nl,.nl] []),⟨.st 2 (.t 4) (.t 47),none,none,none⟩,.xv 5 6]
 .ret) .skip))
 (.seq (.seq (.drw [(0,.xo 48 1 7),(0,.xl 49 48),(0,.m 50 1),(0,.m 51 8),(0,.xi 52 2 50 51),(0,.xo 53 0 52),(0,.xl 54 53),(0,.xi 55 4 49 54),(0,.xo 56 3 55),(0,.xl 57 56),(0,.m 58 1),(0,.m 59 8),(0,.xi 60 2 58 59),(0,.xo 61 1 60),(0,.xl 62 61)] [.d 63 (.call (.func 45) #[(.t 57),(.t 62)])])
 (.ite (.t 63) (.sr [.d 64 (.build #[.nl,.nl] []),⟨.st 2 (.t 4) (.t 64),none,none,none⟩,.xv 5 5]
 .ret) .skip))
 (.drw [(0,.xd 65 2 7),(0,.m 66 1),(0,.m 67 8),(0,.m 68 8),(0,.xa 69 68),(0,.d 70 (.sub3 2 (.t 66) (some (.t 67)) (some (.t 69))))] [.d 71 (.call (.func 34) #[(.t 65),(.t 70)]),⟨.st 2 (.t 7) (.t 71),none,none,none⟩]))))
 (.reg [.m 21 8,.xa 22 21,.m 8 22]))))))
 (.seq (.sr [.xd 72 2 7,.d 73 (.call (.func 35) #[(.t 72)])]
 (.ite (.t 73) (.sr [.d 74 (.build #[.nl,.nl] []),⟨.st 2 (.t 4) (.t 74),none,none,none⟩,.xv 5 8]
 .ret) .skip))
 (.sr [.xd 75 2 7,⟨.st 2 (.t 4) (.t 75),none,none,none⟩,.xv 5 0]
 .ret))))))
def Zez:Zg prog 11 76 Zgc [.cn 4 2,.t 5]:=.o [] [32,44,63] Tryz.func11 K1
def Zg7:C:=(.sr [.d 4 (.box 25 (.t 0)),.xb 8 false]
 (.seq (.sr [.xd 17 2 4,.d 18 (.call (.func 5) #[(.t 17)]),.m 19 18,.ym 20 19 false 3,.yn 21 19 false 20,.yk 22 19 false .gtr 21 40,.xq 23 19 22]
 (.ite (.t 23) (.sr [.d 24 (.call (.func 6) #[]),.m 8 24]
 .ret) .skip))
 (.sr [.xd 26 2 4,.m 27 1,.m 28 2,.d 29 (.call (.func 7) #[(.t 26),(.t 27),(.t 28)]),.m 25 29,.xe 30 25 0,.xe 31 25 1,.xe 32 25 2,.m 9 30,.m 10 31,.m 11 32]
 (.sr [.xd 34 2 4,.m 35 1,.m 36 2,.d 37 (.call (.func 8) #[(.t 34),(.t 35),(.t 36)]),.m 33 37,.xe 38 33 0,.xe 39 33 1,.xe 40 33 2,.m 12 38,.m 13 39,.m 14 40]
 (.seq (.sr [.m 41 9,.m 42 12,.d 43 (.call (.func 9) #[(.t 41),(.t 42)]),.xt 44 43,.m 45 44,.ym 46 45 false 10,.ym 47 45 false 13,.u 48 45 false (.beq .neq (.t 46) (.t 47)),.xq 49 45 48,.m 50 49,.ym 51 50 false 11,.ym 52 50 false 14,.u 53 50 false (.cmp .neq (.t 51) (.t 52)),.xq 54 50 53]
 (.ite (.t 54) (.sr [.xb 8 false]
 .ret) .skip))
 (.sr [.xd 56 2 4,.m 57 3,.d 58 (.call (.func 10) #[(.t 56),(.t 57)]),.m 55 58,.xe 59 55 0,.xe 60 55 1,.d 15 (.alloc 25 #[.nl,.nl]),⟨.st 2 (.t 15) (.t 59),none,none,none⟩,.m 11 60]
 (.sr [.xd 62 2 4,.m 63 3,.d 64 (.call (.func 11) #[(.t 62),(.t 63)]),.m 61 64,.xe 65 61 0,.xe 66 61 1,.d 16 (.alloc 25 #[.nl,.nl]),⟨.st 2 (.t 16) (.t 65),none,none,none⟩,.m 14 66]
 (.sr [.xd 67 2 15,.xd 68 2 16,.d 69 (.call (.func 12) #[(.t 67),(.t 68)]),.m 70 69,.ym 71 70 true 11,.ym 72 70 true 14,.u 73 70 true (.cmp .eql (.t 71) (.t 72)),.xp 74 70 73,.m 75 74,.u 76 75 true (.call (.func 6) #[]),.xp 77 75 76,.m 8 77]
 .ret))))))))
def Zhb:Zg prog 3 78 Zg7 [.t 8]:=.o [] [] Tryz.func3 K1
def Zgn:C:=(.sr [.xb 4 false]
 (.seq (.sr [.xv 5 0]
 (.block 0 (.loop (.seq (.sr [.m 6 5,.m 7 0,.xn 8 7,.xc 9 .lss 6 8]
 (.ite (.t 9) .skip (.exit 0)))
 (.seq (.block 1 (.sr [.m 12 0,.m 13 5,.xi 14 1 12 13,.xl 15 14,.m 16 1,.xc 17 .eql 15 16]
 (.ite (.t 17) (.sr [.xb 4 true]
 .ret) .skip)))
 (.reg [.m 10 5,.xa 11 10,.m 5 11]))))))
 (.sr [.xb 4 false]
 .ret)))
def Qop:Zg prog 45 18 Zgn [.t 4]:=.o [] [] Tryz.func45 K1
