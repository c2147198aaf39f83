/- Lemmas. No conditions. -/
import Derived.Test.YtajkaognaiglhaaGreatDoorProg
import Derived.Test.YtajkaognaiglhaaGreatDoorB01
set_option linter.all false
set_option maxRecDepth 100000
open Go.Proofs.Tryz (prog)
noncomputable section
namespace Go.TM
open Go.Proofs
def Iq:C:=(.sr [.d 1 (.boxM 46 (.t 0)),.d 2 (.alloc 46 #[(.string ⟨#[]⟩),(.int .i64 0),.nl,.nl])]
 (.sr [.xo 6 2 1,.xl 7 6,.xn 8 7,.d 9 (.rw (.makeSlice 43 (.ci 0) (.t 8)) 43),.m 3 9]
 (.seq (.sr [.xo 10 2 1,.xl 11 10,.xn 12 11,.xv 13 0]
 (.block 0 (.loop (.sr [.xc 14 .lss 13 12]
 (.seq (.ite (.t 14) .skip (.exit 0))
 (.seq (.block 1 (.sr [.xi 15 1 11 13,.xl 16 15,.m 5 16]
 (.reg [.m 17 3,.m 18 5,.d 19 (.call (.func 112) #[(.t 18)]),.d 20 (.bsl 44 1 #[.nl] [(0,1,(.t 19))]),.xz 21 17 20 43,.m 3 21])))
 (.reg [.xa 22 13,.m 13 22])))))))
 (.sr [.m 23 3,.xo 24 3 1,.xl 25 24,.d 26 (.call (.func 112) #[(.t 25)]),.xo 27 2 1,⟨.st 1 (.t 27) (.t 23),none,none,none⟩,.xo 28 3 1,⟨.st 1 (.t 28) (.t 26),none,none,none⟩]
 (.sr [.xd 29 4 1,⟨.st 4 (.t 2) (.t 29),none,none,none⟩]
 .ret)))))
def YH:Zg prog 76 30 Iq [.cn 2 4]:=.o [1] [] Tryz.func76 K1
noncomputable def I6:C:=(.sr [.d 1 (.box 64 (.t 0)),.d 2 (.alloc 64 #[.nl,.nl])]
 (.sr [.xo 6 0 1,.xo 7 0 6,.xl 8 7,.d 9 (.call (.func 75) #[(.t 8)]),.d 10 (.build #[.nl,.nl] [(0,1,(.t 9))]),.d 3 (.alloc 25 #[.nl,.nl]),⟨.st 2 (.t 3) (.t 10),none,none,none⟩]
 (.seq (.sr [.xo 11 0 1,.xo 12 1 11,.xl 13 12,.xn 14 13,.xv 15 0]
 (.block 0 (.loop (.sr [.xc 16 .lss 15 14]
 (.seq (.ite (.t 16) .skip (.exit 0))
 (.seq (.block 1 (.sr [.xi 17 4 13 15,.xd 18 4 17,.d 5 (.alloc 46 #[(.string ⟨#[]⟩),(.int .i64 0),.nl,.nl]),⟨.st 4 (.t 5) (.t 18),none,none,none⟩]
 (.cd 29 (Zl Tryz.f37 5))))
 (.reg [.xa 26 15,.m 15 26])))))))
 (.sr [.xd 27 2 3,.d 28 (.build #[.nl,.nl] [(0,2,(.t 27))]),⟨.st 2 (.t 2) (.t 28),none,none,none⟩]
 .ret))))
def Dw:Zg prog 37 29 I6 [.cn 2 2]:=.o [1005] [] Tryz.func37 K1
def IB:C:=(.sr [.d 2 (.box 64 (.t 0)),.d 3 (.box 62 (.t 1))]
 (.seq (.drw [(0,.xo 5 0 2),(0,.xo 6 1 5),(0,.xl 7 6),(0,.xo 8 0 3),(0,.xl 9 8),(0,.xi 10 4 7 9),(0,.xo 11 3 10),(0,.xl 12 11),(0,.xo 13 1 3),(0,.xl 14 13),(2,.d 15 (.bsl 3 1 #[(.int .i64 0)] [(0,1,(.t 14))]))] [.xz 16 12 15 44,.m 4 16])
 (.sr [.m 17 4,.d 18 (.call (.func 78) #[(.t 17)])]
 (.reg [.xo 19 0 2,.xo 20 1 19,.xl 21 20,.xo 22 0 3,.xl 23 22,.m 24 4,.xi 25 4 21 23,.xo 26 3 25,⟨.st 1 (.t 26) (.t 24),none,none,none⟩]))))
def Dx:Zg prog 40 27 IB []:=.o [] [] Tryz.func40 K1
def IT:C:=(.sr [.d 2 (.box 64 (.t 0)),.d 4 (.alloc 64 #[.nl,.nl])]
 (.sr [.xd 8 2 2,.d 9 (.call (.func 37) #[(.t 8)]),.d 5 (.alloc 64 #[.nl,.nl]),⟨.st 2 (.t 5) (.t 9),none,none,none⟩]
 (.seq (.sr [.m 10 1,.xn 11 10,.xv 12 0]
 (.block 0 (.loop (.sr [.xc 13 .lss 12 11]
 (.seq (.ite (.t 13) .skip (.exit 0))
 (.seq (.block 1 (.sr [.xi 14 2 10 12,.xd 15 2 14,.d 7 (.alloc 62 #[(.int .i64 0),(.int .i64 0)]),⟨.st 2 (.t 7) (.t 15),none,none,none⟩]
 (.reg [.xd 16 2 5,.xd 17 2 7,.d 18 (.call (.func 40) #[(.t 16),(.t 17)])])))
 (.reg [.xa 19 12,.m 12 19])))))))
 (.sr [.xd 20 2 5,⟨.st 2 (.t 4) (.t 20),none,none,none⟩]
 .ret))))
def DE:Zg prog 64 21 IT [.cn 4 2]:=.o [] [] Tryz.func64 K1
def IQ:C:=(.sr [.d 1 (.box 64 (.t 0)),.xs 2]
 (.sr [.xs 3]
 (.seq (.sr [.xo 7 0 1,.xo 8 1 7,.xl 9 8,.xn 10 9,.xv 11 0]
 (.block 0 (.loop (.sr [.xc 12 .lss 11 10]
 (.seq (.ite (.t 12) .skip (.exit 0))
 (.seq (.block 1 (.sr [.m 13 11,.xi 14 4 9 11,.xd 15 4 14,.d 5 (.alloc 46 #[(.string ⟨#[]⟩),(.int .i64 0),.nl,.nl]),.m 4 13,⟨.st 4 (.t 5) (.t 15),none,none,none⟩]
 (.sr [.xo 16 0 1,.xo 17 1 16,.xl 18 17,.xn 19 18,.xv 20 0]
 (.block 2 (.loop (.sr [.xc 21 .lss 20 19]
 (.seq (.ite (.t 21) .skip (.exit 2))
 (.seq (.block 3 (.sr [.m 22 20,.m 6 22]
 (.sr [.m 23 6,.m 24 4,.xc 25 .neq 23 24,.m 26 25,.yo 27 26 true 3 5,.yl 28 26 true 27,.ym 29 26 true 6,.u 30 26 true (.call (.func 39) #[(.t 28),(.t 29)]),.u 31 26 true (.not (.t 30)),.xp 32 26 31]
 (.ite (.t 32) (.reg [.m 33 3,.m 34 4,.m 35 6,.d 36 (.build #[(.int .i64 0),(.int .i64 0)] [(0,1,(.t 34)),(1,1,(.t 35))]),.d 37 (.bsl 62 1 #[(.int .i64 0),(.int .i64 0)] [(0,2,(.t 36))]),.xz 38 33 37 26,.m 3 38]) .skip))))
 (.reg [.xa 39 20,.m 20 39])))))))))
 (.reg [.xa 40 11,.m 11 40])))))))
 (.sr [.m 41 3,.m 2 41]
 .ret))))
def DB:Zg prog 59 42 IQ [.t 2]:=.o [] [] Tryz.func59 K1
def IR:C:=(.sr [.d 3 (.box 120 (.t 0)),.d 4 (.box 3 (.t 1)),.d 5 (.box 125 (.t 2)),.xb 6 false]
 (.sr [.d 7 (.alloc 150 #[.nilFunc])]
 (.sr [.d 8 (.mkf (.func 88) #[] #[(.t 4),(.t 5),(.t 3),(.t 7)]),⟨.st 1 (.t 7) (.t 8),none,none,none⟩]
 (.sr [.xl 9 7,.d 10 (.call (.t 9) #[.cn,(.ci 0)]),.m 6 10]
 .ret))))
def DC:Zg prog 62 11 IR [.t 6]:=.o [] [] Tryz.func62 K1
noncomputable def La:C:=(.sr [.xb 8 false]
 (.seq (.sr [.m 10 0,.xn 11 10,.xl 12 2,.xc 13 .eql 11 12]
 (.ite (.t 13) (.seq (.drw [(0,.xl 14 3),(0,.m 15 0),(2,.d 16 (.call (.func 89) #[(.t 15)]))] [.d 17 (.call (.t 14) #[(.t 16)]),.m 8 17])
 .ret) .skip))
 (.seq (.sr [.m 18 1,.m 9 18]
 (.block 0 (.loop (.seq (.sr [.m 19 9,.xo 20 0 4,.xl 21 20,.xn 22 21,.xc 23 .lss 19 22]
 (.ite (.t 23) .skip (.exit 0)))
 (.seq (.block 1 (.seq (.cd 38 (Zl Tryz.f88 6))
 (.ite (.t 37) (.sr [.xb 8 true]
 .ret) .skip)))
 (.reg [.m 24 9,.xa 25 24,.m 9 25]))))))
 (.sr [.xb 8 false]
 .ret))))
def VN:Zg prog 88 38 La [.t 8]:=.o [1006] [17,37] Tryz.func88 K1
def Lb:C:=(.sr [.xs 2]
 (.seq (.sr [.m 3 0,.d 4 (.rw (.binOp .eql 26 (.t 3) .cn 26) 4)]
 (.ite (.t 4) (.sr [.xs 2]
 .ret) .skip))
 (.sr [.d 5 (.bsl 62 0 #[] []),.m 6 0,.xz 7 5 6 26,.m 2 7]
 .ret)))
def DM:Zg prog 89 8 Lb [.t 2]:=.o [] [] Tryz.func89 K1
def IS:C:=(.sr [.xb 10 false]
 (.sr [.xl 13 1,.xl 14 2,.xi 15 2 13 14,.xd 16 2 15,.d 17 (.bsl 62 1 #[(.int .i64 0),(.int .i64 0)] [(0,2,(.t 16))]),.m 18 0,.xz 19 17 18 26,.m 11 19]
 (.sr [.xd 20 2 3,.m 21 11,.d 22 (.call (.func 64) #[(.t 20),(.t 21)]),.d 12 (.alloc 64 #[.nl,.nl]),⟨.st 2 (.t 12) (.t 22),none,none,none⟩]
 (.seq (.seq (.drw [(0,.xd 23 2 12),(1,.d 24 (.call (.func 41) #[(.t 23)])),(0,.xk 25 .neq 24 0),(0,.m 26 25),(0,.u 27 26 false (.ldn 2 (.t 12))),(0,.yl 28 26 false 4),(1,.u 29 26 false (.call (.func 27) #[(.t 27),(.t 28)])),(0,.yl 30 26 false 5)] [.u 31 26 false (.cmp .neq (.t 29) (.t 30)),.xq 32 26 31])
 (.ite (.t 32) (.sr [.xb 10 false]
 .ret) .skip))
 (.sr [.d 33 (.call (.func 65) #[(.t 6)])]
 (.sr [⟨.mv (.func 66),none,none,some ((.func 66),#[(.t 6)])⟩]
 (.seq (.sr [.xl 34 7,.xt 35 34,.m 36 35,.ym 37 36 false 11,.yl 38 36 false 8,.u 39 36 false (.call (.func 67) #[(.t 37),(.t 38),(.func 68)]),.yk 40 36 false .lss 39 0,.xq 41 36 40]
 (.ite (.t 41) (.reg [.m 42 11,⟨.st 1 (.t 8) (.t 42),none,none,none⟩,⟨.st 1 (.t 7) (.cb true),none,none,none⟩]) .skip))
 (.sr [.xb 10 true]
 .ret))))))))
def DD:Zg prog 63 43 IS [.t 10]:=.o [] [24,29] Tryz.func63 K1
def Ds:C:=(.sr [.d 10 (.box 3 (.t 0))]
 (.sr [⟨.mv (.func 61),none,none,some ((.func 61),#[(.t 1)])⟩]
 (.drw [(0,.xl 11 2),(0,.xl 12 10),(0,.xa 13 12),(0,.d 14 (.sub3 2 (.t 11) (some (.t 13)) none)),(0,.d 15 (.build #[.nl] [(0,1,(.t 14))])),(0,.xl 16 3),(0,.d 17 (.sub (.t 16) (.ci 1))),(0,.d 18 (.mkf (.func 63) #[] #[(.t 2),(.t 10),(.t 4),(.t 5),(.t 6),(.t 7),(.t 8),(.t 9)]))] [.d 19 (.call (.func 62) #[(.t 15),(.t 17),(.t 18)])])))
def Lm:Zg prog 60 20 Ds []:=.o [] [19] Tryz.func60 K1
def M2:C:=(.sr [.d 3 (.box 25 (.t 0)),.xs 6,.xb 7 false,.xv 8 0]
 (.sr [.xd 16 2 3,.m 17 1,.d 18 (.call (.func 26) #[(.t 16),(.t 17)]),.m 15 18,.xe 19 15 0,.xe 20 15 1,.d 9 (.alloc 64 #[.nl,.nl]),⟨.st 2 (.t 9) (.t 19),none,none,none⟩,.m 8 20]
 (.seq (.sr [.m 21 8,.xk 22 .neq 21 0]
 (.ite (.t 22) (.sr [.m 23 8,.xs 6,.xb 7 false,.m 8 23]
 .ret) .skip))
 (.sr [.xv 10 1,.xv 11 2]
 (.seq (.sr [.m 24 2,.xt 25 24]
 (.ite (.t 25) (.reg [.m 26 11,.m 27 10,.m 10 26,.m 11 27]) .skip))
 (.seq (.sr [.xd 28 2 9,.m 29 1,.d 30 (.call (.func 27) #[(.t 28),(.t 29)])]
 (.block 0 (.sr [.m 32 10,.xc 33 .eql 30 32,.m 31 33]
 (.ite (.t 31) (.sr [.xs 6,.xb 7 true,.xv 8 0]
 .ret) (.sr [.m 35 11,.xc 36 .eql 30 35,.m 34 36]
 (.ite (.t 34) (.sr [.xs 6,.xb 7 false,.xv 8 0]
 .ret) .skip))))))
 (.seq (.sr [.xv 12 1]
 (.block 1 (.loop (.seq (.sr [.m 37 12,.xo 38 1 3,.xl 39 38,.xn 40 39,.xc 41 .lss 37 40]
 (.ite (.t 41) .skip (.exit 1)))
 (.seq (.block 2 (.sr [.xd 45 2 9,.m 46 1,.m 47 12,.m 48 10,.d 49 (.call (.func 28) #[(.t 45),(.t 46),(.t 47),(.t 48)]),.m 44 49,.xe 50 44 0,.xe 51 44 1,.m 13 50,.m 14 51]
 (.sr [.m 52 14]
 (.ite (.t 52) (.sr [.m 53 13,.m 6 53,.xb 7 true,.xv 8 0]
 .ret) .skip))))
 (.reg [.m 42 12,.xa 43 42,.m 12 43]))))))
 (.sr [.xs 6,.xb 7 false,.xv 8 0]
 .ret))))))))
def YT:Zg prog 7 54 M2 [.t 6,.t 7,.t 8]:=.o [] [] Tryz.func7 K1
noncomputable def IN:C:=(.sr [.d 2 (.box 64 (.t 0)),.d 4 (.alloc 64 #[.nl,.nl])]
 (.sr [.xo 19 0 2,.xo 20 1 19,.xl 21 20,.xn 22 21,.d 23 (.rw (.makeSlice 44 (.t 22) (.t 22)) 44),.m 5 23]
 (.seq (.sr [.xo 24 0 2,.xo 25 1 24,.xl 26 25,.xn 27 26,.xv 28 0]
 (.block 0 (.loop (.sr [.xc 29 .lss 28 27]
 (.seq (.ite (.t 29) .skip (.exit 0))
 (.seq (.block 1 (.sr [.m 30 28,.xi 31 4 26 28,.xd 32 4 31,.d 7 (.alloc 46 #[(.string ⟨#[]⟩),(.int .i64 0),.nl,.nl]),.m 6 30,⟨.st 4 (.t 7) (.t 32),none,none,none⟩]
 (.reg [.m 33 5,.m 34 6,.xo 35 3 7,.xl 36 35,.d 37 (.call (.func 49) #[(.t 36)]),.xi 38 1 33 34,⟨.st 1 (.t 38) (.t 37),none,none,none⟩])))
 (.reg [.xa 39 28,.m 28 39])))))))
 (.seq (.sr [.xo 40 0 2,.xo 41 1 40,.xl 42 41,.xn 43 42,.xv 44 0]
 (.block 2 (.loop (.sr [.xc 45 .lss 44 43]
 (.seq (.ite (.t 45) .skip (.exit 2))
 (.seq (.block 3 (.sr [.m 46 5,.xn 47 46,.xv 48 0]
 (.block 4 (.loop (.sr [.xc 49 .lss 48 47]
 (.seq (.ite (.t 49) .skip (.exit 4))
 (.seq (.block 5 (.sr [.m 50 48,.m 8 50]
 (.sr [.xo 51 0 2,.xo 52 1 51,.xl 53 52,.xn 54 53,.xv 55 0]
 (.block 6 (.loop (.sr [.xc 56 .lss 55 54]
 (.seq (.ite (.t 56) .skip (.exit 6))
 (.seq (.block 7 (.sr [.m 57 55,.m 9 57]
 (.sr [.m 58 5,.m 59 8,.xi 60 1 58 59,.xl 61 60,.m 62 9,.d 63 (.ar .shr (.t 61) (.t 62)),.d 64 (.ar .and (.t 63) (.ci 1)),.xk 65 .eql 64 1,.m 66 65,.ym 67 66 true 1,.ym 68 66 true 9,.u 69 66 true (.ar .shr (.t 67) (.t 68)),.u 70 66 true (.ar .and (.t 69) (.ci 1)),.yk 71 66 true .eql 70 1,.xp 72 66 71]
 (.ite (.t 72) (.drw [(0,.m 73 5),(0,.m 74 8),(0,.xi 75 1 73 74),(0,.xl 76 75),(0,.m 77 5),(0,.m 78 9),(0,.xi 79 1 77 78),(0,.xl 80 79)] [.d 81 (.ar .or (.t 76) (.t 80)),.xi 82 1 73 74,⟨.st 1 (.t 82) (.t 81),none,none,none⟩]) .skip))))
 (.reg [.xa 83 55,.m 55 83])))))))))
 (.reg [.xa 84 48,.m 48 84]))))))))
 (.reg [.xa 85 44,.m 44 85])))))))
 (.sr [.xo 86 0 2,.xo 87 0 86,.xl 88 87,.d 89 (.call (.func 75) #[(.t 88)]),.d 90 (.build #[.nl,.nl] [(0,1,(.t 89))]),.d 10 (.alloc 25 #[.nl,.nl]),⟨.st 2 (.t 10) (.t 90),none,none,none⟩]
 (.sr [.d 91 (.rw (.makeMap 147 none) 147),.m 11 91]
 (.seq (.sr [.xo 92 0 2,.xo 93 1 92,.xl 94 93,.xn 95 94,.xv 96 0]
 (.block 8 (.loop (.sr [.xc 97 .lss 96 95]
 (.seq (.ite (.t 97) .skip (.exit 8))
 (.seq (.block 9 (.sr [.m 98 96,.xi 99 4 94 96,.xd 100 4 99,.d 13 (.alloc 46 #[(.string ⟨#[]⟩),(.int .i64 0),.nl,.nl]),.m 12 98,⟨.st 4 (.t 13) (.t 100),none,none,none⟩]
 (.seq (.sr [.m 101 1,.m 102 12,.d 103 (.ar .shr (.t 101) (.t 102)),.d 104 (.ar .and (.t 103) (.ci 1)),.xk 105 .eql 104 1]
 (.ite (.t 105) (.exit 9) .skip))
 (.sr [.m 106 11,.m 107 12,.xo 108 1 10,.xl 109 108,.xn 110 109,⟨.rw (.mapUpdate 147 (.t 106) (.t 107) (.t 110)) 0,none,none,none⟩]
 (.sr [.xd 111 4 13,.d 112 (.call (.func 76) #[(.t 111)]),⟨.st 4 (.t 13) (.t 112),none,none,none⟩]
 (.sr [.xo 113 3 13,⟨.st 1 (.t 113) .cn,none,none,none⟩]
 (.reg [.xo 114 1 10,.xl 115 114,.xd 116 4 13,.d 117 (.bsl 46 1 #[(.string ⟨#[]⟩),(.int .i64 0),.nl,.nl] [(0,4,(.t 116))]),.xz 118 115 117 23,.xo 119 1 10,⟨.st 1 (.t 119) (.t 118),none,none,none⟩])))))))
 (.reg [.xa 120 96,.m 96 120])))))))
 (.seq (.sr [.m 121 11,.d 122 (.rw (.range 147 (.t 121)) 0)]
 (.block 10 (.loop (.sr [.d 123 (.rw (.next (.t 122) false) 0),.xe 124 123 0]
 (.seq (.ite (.t 124) .skip (.exit 10))
 (.block 11 (.sr [.d 125 (.rw (.entry (.t 122)) 0),.xe 126 125 0,.xe 127 125 1,.m 14 126,.m 15 127]
 (.sr [.xo 128 0 2,.xo 129 1 128,.xl 130 129,.xn 131 130,.xv 132 0]
 (.block 12 (.loop (.sr [.xc 133 .lss 132 131]
 (.seq (.ite (.t 133) .skip (.exit 12))
 (.seq (.block 13 (.sr [.m 134 132,.m 16 134]
 (.sr [.m 136 11,.m 137 16,.d 138 (.rw (.lookup 147 (.t 136) (.t 137) true) 148),.m 135 138,.xe 139 135 0,.xe 140 135 1,.m 17 139,.m 18 140]
 (.sr [.m 141 18,.m 142 141,.ym 143 142 true 5,.ym 144 142 true 14,.yi 145 142 true 1 143 144,.yl 146 142 true 145,.ym 147 142 true 16,.u 148 142 true (.ar .shr (.t 146) (.t 147)),.u 149 142 true (.ar .and (.t 148) (.ci 1)),.yk 150 142 true .eql 149 1,.xp 151 142 150]
 (.ite (.t 151) (.cd 169 (Zl Tryz.f57 39)) .skip)))))
 (.reg [.xa 166 132,.m 132 166]))))))))))))))
 (.sr [.xd 167 2 10,.d 168 (.build #[.nl,.nl] [(0,2,(.t 167))]),⟨.st 2 (.t 4) (.t 168),none,none,none⟩]
 .ret)))))))))
def YF:Zg prog 57 169 IN [.cn 4 2]:=.o [1039] [] Tryz.func57 K1
def IL:C:=(.sr [.d 1 (.box 64 (.t 0)),.xs 2]
 (.sr [.xs 3]
 (.seq (.sr [.xo 5 0 1,.xo 6 1 5,.xl 7 6,.xn 8 7,.xv 9 0]
 (.block 0 (.loop (.sr [.xc 10 .lss 9 8]
 (.seq (.ite (.t 10) .skip (.exit 0))
 (.seq (.block 1 (.sr [.m 11 9,.m 4 11]
 (.reg [.m 12 3,.m 13 4,.d 14 (.bsl 3 1 #[(.int .i64 0)] [(0,1,(.t 13))]),.xz 15 12 14 44,.m 3 15])))
 (.reg [.xa 16 9,.m 9 16])))))))
 (.sr [.m 17 3,.m 2 17]
 .ret))))
def YE:Zg prog 55 18 IL [.t 2]:=.o [] [] Tryz.func55 K1
def Iy:C:=(.sr [.d 3 (.box 145 (.t 0)),.d 4 (.box 3 (.t 1)),.d 5 (.box 102 (.t 2)),.xb 6 false]
 (.sr [.d 7 (.alloc 80 #[.nilFunc])]
 (.sr [.d 8 (.mkf (.func 120) #[] #[(.t 4),(.t 5),(.t 3),(.t 7)]),⟨.st 1 (.t 7) (.t 8),none,none,none⟩]
 (.sr [.xl 9 7,.d 10 (.call (.t 9) #[.cn,(.ci 0)]),.m 6 10]
 .ret))))
def DK:Zg prog 86 11 Iy [.t 6]:=.o [] [] Tryz.func86 K1
noncomputable def F9:C:=(.sr [.xb 8 false]
 (.seq (.sr [.m 10 0,.xn 11 10,.xl 12 2,.xc 13 .eql 11 12]
 (.ite (.t 13) (.seq (.drw [(0,.xl 14 3),(0,.m 15 0),(2,.d 16 (.call (.func 112) #[(.t 15)]))] [.d 17 (.call (.t 14) #[(.t 16)]),.m 8 17])
 .ret) .skip))
 (.seq (.sr [.m 18 1,.m 9 18]
 (.block 0 (.loop (.seq (.sr [.m 19 9,.xo 20 0 4,.xl 21 20,.xn 22 21,.xc 23 .lss 19 22]
 (.ite (.t 23) .skip (.exit 0)))
 (.seq (.block 1 (.seq (.cd 38 (Zl Tryz.f120 6))
 (.ite (.t 37) (.sr [.xb 8 true]
 .ret) .skip)))
 (.reg [.m 24 9,.xa 25 24,.m 9 25]))))))
 (.sr [.xb 8 false]
 .ret))))
def Vx:Zg prog 120 38 F9 [.t 8]:=.o [1006] [17,37] Tryz.func120 K1
def IK:C:=(.sr [.d 5 (.box 102 (.t 2)),.xs 6,.xb 7 false]
 (.seq (.sr [.m 10 1,.xa 11 10,.xv 12 0]
 (.block 0 (.loop (.sr [.xc 13 .lss 12 11]
 (.seq (.ite (.t 13) .skip (.exit 0))
 (.seq (.block 1 (.sr [.m 14 12,.m 8 14]
 (.sr [.d 9 (.alloc 44 #[.nl])]
 (.sr [.m 15 0,.d 16 (.build #[.nl] [(0,1,(.t 15))]),.m 17 8,.d 18 (.mkf (.func 87) #[] #[(.t 9),(.t 5)]),.d 19 (.call (.func 86) #[(.t 16),(.t 17),(.t 18)])]
 (.ite (.t 19) (.sr [.xl 20 9,.m 6 20,.xb 7 true]
 .ret) .skip)))))
 (.reg [.xa 21 12,.m 12 21])))))))
 (.sr [.xs 6,.xb 7 false]
 .ret)))
def YD:Zg prog 54 22 IK [.t 6,.t 7]:=.o [] [] Tryz.func54 K1
def Iz:C:=(.sr [.xb 4 false]
 (.sr [.m 5 0,⟨.st 1 (.t 1) (.t 5),none,none,none⟩]
 (.sr [.xl 6 2,.m 7 0,.d 8 (.call (.t 6) #[(.t 7)]),.m 4 8]
 .ret)))
def DL:Zg prog 87 9 Iz [.t 4]:=.o [] [] Tryz.func87 K1
def Ip:C:=(.sr [.d 2 (.box 25 (.t 0)),.d 3 (.box 3 (.t 1)),.xs 4,.xv 5 0]
 (.sr [.xd 11 2 2,.xl 12 3,.d 13 (.call (.func 26) #[(.t 11),(.t 12)]),.m 10 13,.xe 14 10 0,.xe 15 10 1,.d 6 (.alloc 64 #[.nl,.nl]),⟨.st 2 (.t 6) (.t 14),none,none,none⟩,.m 7 15]
 (.seq (.sr [.m 16 7,.xk 17 .neq 16 0]
 (.ite (.t 17) (.sr [.m 18 7,.xs 4,.m 5 18]
 .ret) .skip))
 (.seq (.drw [(0,.xd 20 2 6),(0,.xo 22 1 2),(0,.xl 23 22),(0,.xn 24 23),(0,.d 25 (.mkf (.func 56) #[] #[(.t 6),(.t 3)])),(2,.d 21 (.call (.func 55) #[(.t 20)])),(2,.d 26 (.call (.func 54) #[(.t 21),(.t 24),(.t 25)])),(0,.m 19 26),(0,.xe 27 19 0),(0,.xe 28 19 1),(0,.m 8 27)] [.m 9 28])
 (.sr [.m 29 8,.m 4 29,.xv 5 0]
 .ret)))))
def Dv:Zg prog 21 30 Ip [.t 4,.t 5]:=.o [] [] Tryz.func21 K1
def IM:C:=(.sr [.xb 4 false]
 (.seq (.drw [(0,.xd 5 2 1),(0,.m 6 0),(1,.d 7 (.call (.func 49) #[(.t 6)])),(0,.xl 9 2),(2,.d 8 (.call (.func 57) #[(.t 5),(.t 7)]))] [.d 10 (.call (.func 27) #[(.t 8),(.t 9)]),.xk 11 .eql 10 1,.m 4 11])
 .ret))
def Dz:Zg prog 56 12 IM [.t 4]:=.o [] [7,10] Tryz.func56 K1
def FW:C:=(.sr [.d 2 (.box 25 (.t 0)),.xs 4,.xv 5 0]
 (.sr [.xd 13 2 2,.m 14 1,.d 15 (.call (.func 26) #[(.t 13),(.t 14)]),.m 12 15,.xe 16 12 0,.xe 17 12 1,.d 6 (.alloc 64 #[.nl,.nl]),⟨.st 2 (.t 6) (.t 16),none,none,none⟩,.m 7 17]
 (.seq (.sr [.m 18 7,.xk 19 .neq 18 0]
 (.ite (.t 19) (.sr [.m 20 7,.xs 4,.m 5 20]
 .ret) .skip))
 (.sr [.d 21 (.rw (.makeMap 103 none) 103),.d 8 (.alloc 103 #[(.map none)]),⟨.st 1 (.t 8) (.t 21),none,none,none⟩]
 (.seq (.sr [.xo 22 1 2,.xl 23 22,.xn 24 23,.d 25 (.ar .shl (.ci 1) (.t 24)),.xv 26 0]
 (.block 0 (.loop (.sr [.xc 27 .lss 26 25]
 (.seq (.ite (.t 27) .skip (.exit 0))
 (.seq (.block 1 (.sr [.m 28 26,.m 9 28]
 (.drw [(0,.xl 29 8),(0,.m 30 9),(0,.xd 31 2 6),(0,.m 32 9),(0,.m 34 1),(2,.d 33 (.call (.func 57) #[(.t 31),(.t 32)])),(1,.d 35 (.call (.func 27) #[(.t 33),(.t 34)]))] [⟨.rw (.mapUpdate 103 (.t 29) (.t 30) (.t 35)) 0,none,none,none⟩])))
 (.reg [.xa 36 26,.m 26 36])))))))
 (.seq (.drw [(0,.xd 38 2 6),(0,.xo 40 1 2),(0,.xl 41 40),(0,.xn 42 41),(0,.d 43 (.mkf (.func 58) #[] #[(.t 8)])),(2,.d 39 (.call (.func 55) #[(.t 38)])),(2,.d 44 (.call (.func 54) #[(.t 39),(.t 42),(.t 43)])),(0,.m 37 44),(0,.xe 45 37 0),(0,.xe 46 37 1),(0,.m 10 45)] [.m 11 46])
 (.sr [.m 47 10,.m 4 47,.xv 5 0]
 .ret)))))))
def Yo:Zg prog 22 48 FW [.t 4,.t 5]:=.o [] [35] Tryz.func22 K1
def IP:C:=(.sr [.xb 3 false]
 (.seq (.sr [.xl 6 1,.d 7 (.rw (.range 103 (.t 6)) 0)]
 (.block 0 (.loop (.sr [.d 8 (.rw (.next (.t 7) false) 0),.xe 9 8 0]
 (.seq (.ite (.t 9) .skip (.exit 0))
 (.block 1 (.sr [.d 10 (.rw (.entry (.t 7)) 0),.xe 11 10 0,.xe 12 10 1,.m 4 11,.m 5 12]
 (.sr [.m 13 4,.m 14 0,.d 15 (.call (.func 49) #[(.t 14)]),.d 16 (.ar .and (.t 13) (.t 15)),.xk 17 .eql 16 0,.m 18 17,.ym 19 18 true 5,.yl 20 18 true 1,.u 21 18 true (.rw (.lookup 103 (.t 20) (.ci 0) false) 38),.u 22 18 true (.cmp .neq (.t 19) (.t 21)),.xp 23 18 22]
 (.ite (.t 23) (.sr [.xb 3 false]
 .ret) .skip)))))))))
 (.sr [.xb 3 true]
 .ret)))
def DA:Zg prog 58 24 IP [.t 3]:=.o [] [] Tryz.func58 K1
def I_:C:=(.sr [.xs 2]
 (.seq (.sr [.m 3 0,.d 4 (.rw (.binOp .eql 22 (.t 3) .cn 22) 4)]
 (.ite (.t 4) (.sr [.xs 2]
 .ret) .skip))
 (.sr [.d 5 (.bsl 9 0 #[] []),.m 6 0,.xz 7 5 6 22,.m 2 7]
 .ret)))
def YG:Zg prog 75 8 I_ [.t 2]:=.o [] [] Tryz.func75 K1
def IW:C:=(.sr [.xv 6 0]
 (.seq (.sr [.m 11 0,.xn 12 11,.xv 13 0]
 (.block 0 (.loop (.sr [.xc 14 .lss 13 12]
 (.seq (.ite (.t 14) .skip (.exit 0))
 (.seq (.block 1 (.sr [.m 15 13,.xi 16 2 11 13,.xd 17 2 16,.d 8 (.alloc 62 #[(.int .i64 0),(.int .i64 0)]),.m 7 15,⟨.st 2 (.t 8) (.t 17),none,none,none⟩]
 (.seq (.sr [.m 18 7,.m 19 1,.xn 20 19,.xc 21 .geq 18 20]
 (.ite (.t 21) (.sr [.xv 6 1]
 .ret) .skip))
 (.sr [.m 22 1,.m 23 7,.xi 24 2 22 23,.xd 25 2 24,.d 9 (.alloc 62 #[(.int .i64 0),(.int .i64 0)]),⟨.st 2 (.t 9) (.t 25),none,none,none⟩]
 (.sr [.m 26 2,.xd 27 2 8,.xd 28 2 9,.d 29 (.call (.t 26) #[(.t 27),(.t 28)]),.m 10 29]
 (.sr [.m 30 10,.xk 31 .neq 30 0]
 (.ite (.t 31) (.sr [.m 32 10,.m 6 32]
 .ret) .skip)))))))
 (.reg [.xa 33 13,.m 13 33])))))))
 (.seq (.sr [.m 34 0,.xn 35 34,.m 36 1,.xn 37 36,.xc 38 .lss 35 37]
 (.ite (.t 38) (.sr [.xv 6 (-1)]
 .ret) .skip))
 (.sr [.xv 6 0]
 .ret))))
def DF:Zg prog 67 39 IW [.t 6]:=.o [] [] Tryz.func67 K1
def IX:C:=(.sr [.d 2 (.box 62 (.t 0)),.d 3 (.box 62 (.t 1)),.xv 4 0]
 (.seq (.block 0 (.sr [.xd 6 2 2,.xd 7 2 3,.d 8 (.rw (.binOp .eql 62 (.t 6) (.t 7) 62) 4),.m 5 8]
 (.ite (.t 5) (.sr [.xv 4 0]
 .ret) (.sr [.xo 10 0 2,.xl 11 10,.xo 12 0 3,.xl 13 12,.xc 14 .lss 11 13,.m 15 14,.yo 16 15 false 0 2,.yl 17 15 false 16,.yo 18 15 false 0 3,.yl 19 15 false 18,.u 20 15 false (.cmp .eql (.t 17) (.t 19)),.ym 21 15 false 20,.yo 22 21 true 1 2,.yl 23 21 true 22,.yo 24 21 true 1 3,.yl 25 21 true 24,.u 26 21 true (.cmp .lss (.t 23) (.t 25)),.u 27 15 false (.pick (.t 21) (.t 26) (.cb false)),.xq 28 15 27,.m 9 28]
 (.ite (.t 9) (.sr [.xv 4 (-1)]
 .ret) .skip)))))
 (.sr [.xv 4 1]
 .ret)))
def DG:Zg prog 68 29 IX [.t 4]:=.o [] [] Tryz.func68 K1
