/- Lemmas. No conditions. -/
import Derived.Test.YtnpfcnfhfkflhaaGreatDoorB09
import Derived.Test.YtnpfcnfhfkflhaaGreatDoorB42
import Derived.Test.YtnpfcnfhfkflhaaGreatDoorB44
set_option linter.all false
open List
open Go.Proofs.Tryz (prog)
set_option maxRecDepth 100000
noncomputable section
namespace Go.TM
variable{T:Type}{P:Program}{S:Sys P T}
def Qb.sep0{f:FuncId}{args:Array Value}{R:Value->Qa T->Prop}{U:Qa T}(h:WH U->Qb S f args R U):Qb S f args R U:=by
 intro b m c cs k;by_cases d:WH U
 .exact h d b m c cs k
 .exact .priv ⟨rfl,λ w ok=>absurd ok.sep d⟩
end Go.TM
namespace Go.Proofs
open Go.TM
def Zrn:C:=(.seq (.reg [.xb 4 false])
 (.seq (.seq (.reg [.xv 5 0])
 (.block 0 (.loop (.seq (.seq (.reg [.m 6 5,.m 7 0,.xn 8 7,.xc 9 .lss 6 8])
 (.ite (.t 9) .skip (.exit 0)))
 (.seq (.block 1 (.seq (.reg [.m 12 0,.m 13 5,.xi 14 1 12 13,.xl 15 14,.m 16 1,.xc 17 .eql 15 16])
 (.ite (.t 17) (.seq (.reg [.xb 4 true])
 .ret) .skip)))
 (.reg [.m 10 5,.xa 11 10,.m 5 11]))))))
 (.seq (.reg [.xb 4 false])
 .ret)))
def Qvy:Zf prog 38 18 Zrn [.t 4]:=.o [] [] Tryz.func38 K1
def Zru:C:=(.seq (.reg [.xb 4 false])
 (.seq (.seq (.reg [.m 6 0,.xn 7 6,.m 8 1,.xn 9 8,.xc 10 .neq 7 9])
 (.ite (.t 10) (.seq (.reg [.xb 4 false])
 .ret) .skip))
 (.seq (.seq (.reg [.xv 5 0])
 (.block 0 (.loop (.seq (.seq (.reg [.m 11 5,.m 12 0,.xn 13 12,.xc 14 .lss 11 13])
 (.ite (.t 14) .skip (.exit 0)))
 (.seq (.block 1 (.seq (.drw [(0,.m 17 0),(0,.m 18 5),(0,.xi 19 1 17 18),(0,.xl 20 19),(0,.m 21 1),(0,.m 22 5),(0,.xi 23 1 21 22),(0,.xl 24 23)] [.d 25 (.teq .neq (.t 20) (.t 24))])
 (.ite (.t 25) (.seq (.reg [.xb 4 false])
 .ret) .skip)))
 (.reg [.m 15 5,.xa 16 15,.m 5 16]))))))
 (.seq (.reg [.xb 4 true])
 .ret))))
def Zql:Zf prog 59 26 Zru [.t 4]:=.o [] [] Tryz.func59 K1
def Zrp:C:=(.seq (.reg [.d 2 (.box 25 (.t 0)),.d 4 (.alloc 25 #[(.slice none 0 0),(.slice none 0 0)]),.xv 5 0])
 (.seq (.seq (.reg [.xd 8 2 2,.d 9 (.call (.func 23) #[(.t 8)]),.m 6 9])
 (.seq (.reg [.m 10 6,.xk 11 .neq 10 0])
 (.ite (.t 11) (.seq (.reg [.d 12 (.build #[(.slice none 0 0),(.slice none 0 0)] []),.m 13 6,⟨.st 2 (.t 4) (.t 12),none,none,none⟩,.m 5 13])
 .ret) .skip)))
 (.seq (.seq (.reg [.m 14 1,.xo 15 1 2,.xl 16 15,.xn 17 16,.d 18 (.call (.func 92) #[(.t 14),(.t 17)]),.m 7 18])
 (.seq (.reg [.m 19 7,.xk 20 .neq 19 0])
 (.ite (.t 20) (.seq (.reg [.d 21 (.build #[(.slice none 0 0),(.slice none 0 0)] []),.m 22 7,⟨.st 2 (.t 4) (.t 21),none,none,none⟩,.m 5 22])
 .ret) .skip)))
 (.seq (.drw [(0,.xd 23 2 2),(0,.d 24 (.build #[(.slice none 0 0),(.slice none 0 0)] [(0,2,(.t 23))])),(0,.m 25 1),(1,.d 26 (.call (.func 68) #[(.t 25)]))] [.d 27 (.call (.func 87) #[(.t 24),(.t 26)]),.d 28 (.part 0 2 (.t 27)),⟨.st 2 (.t 4) (.t 28),none,none,none⟩,.xv 5 0])
 .ret))))
def Zqg:Zf prog 41 29 Zrp [.cn 4 2,.t 5]:=.o [] [26] Tryz.func41 K1
noncomputable def Zrx:C:=(.seq (.reg [.d 2 (.box 25 (.t 0)),.xs 4])
 (.seq (.seq (.reg [.m 7 1,.xn 8 7,.xo 9 1 2,.xl 10 9,.xn 11 10,.xc 12 .eql 8 11])
 (.ite (.t 12) (.seq (.reg [.d 13 (.bsl 3 0 #[] []),.m 14 1,.xz 15 13 14 26,.d 16 (.bsl 26 1 #[(.slice none 0 0)] [(0,1,(.t 15))]),.m 4 16])
 .ret) .skip))
 (.seq (.reg [.xs 5])
 (.seq (.seq (.reg [.xv 6 0])
 (.block 0 (.loop (.seq (.seq (.reg [.m 17 6,.xo 18 1 2,.xl 19 18,.xn 20 19,.xc 21 .lss 17 20])
 (.ite (.t 21) .skip (.exit 0)))
 (.seq (.block 1 (.seq (.reg [.m 24 1,.m 25 6,.d 26 (.call (.func 38) #[(.t 24),(.t 25)]),.xt 27 26,.m 28 27,.yo 29 28 true 1 2,.yl 30 28 true 29,.ym 31 28 true 6,.yi 32 28 true 4 30 31,.yo 33 28 true 3 32,.yl 34 28 true 33,.ym 35 28 true 1,.u 36 28 true (.call (.func 127) #[(.t 34),(.t 35)]),.xp 37 28 36])
 (.ite (.t 37) (.cd 49 (Gl Tryz.f82 8)) .skip)))
 (.reg [.m 22 6,.xa 23 22,.m 6 23]))))))
 (.seq (.reg [.m 48 5,.m 4 48])
 .ret)))))
def Qp3:Zf prog 82 49 Zrx [.t 4]:=.o [] [] Tryz.func82 K1
noncomputable def Zrv:C:=(.seq (.reg [.d 1 (.box 25 (.t 0)),.xs 2,.xs 3])
 (.seq (.reg [.xd 16 2 1,.d 17 (.call (.func 82) #[(.t 16),.cn]),.m 4 17])
 (.seq (.cd 107 (Gl Tryz.f78 2))
 (.seq (.seq (.reg [.xv 7 0])
 (.block 0 (.loop (.seq (.seq (.reg [.m 26 7,.m 27 4,.xn 28 27,.xc 29 .lss 26 28])
 (.ite (.t 29) .skip (.exit 0)))
 (.seq (.block 1 (.seq (.drw [(0,.xd 33 2 1),(0,.m 34 4),(0,.m 35 7),(0,.xi 36 1 34 35),(0,.xl 37 36),(2,.d 38 (.call (.func 72) #[(.t 33),(.t 37)])),(0,.m 32 38),(0,.xe 39 32 0),(0,.xe 40 32 1),(0,.m 8 39)] [.m 9 40])
 (.seq (.seq (.reg [.xv 10 0])
 (.block 2 (.loop (.seq (.seq (.reg [.m 41 10,.m 42 5,.xn 43 42,.xc 44 .lss 41 43])
 (.ite (.t 44) .skip (.exit 2)))
 (.seq (.block 3 (.seq (.reg [.m 47 8,.m 48 10,.xi 49 1 47 48,.xl 50 49])
 (.ite (.t 50) (.reg [.m 51 5,.m 52 10,.xi 53 1 51 52,.xl 54 53,.xa 55 54,.xi 56 1 51 52,⟨.st 1 (.t 56) (.t 55),none,none,none⟩]) .skip)))
 (.reg [.m 45 10,.xa 46 45,.m 10 46]))))))
 (.seq (.reg [.xv 11 0])
 (.block 4 (.loop (.seq (.seq (.reg [.m 57 11,.m 58 6,.xn 59 58,.xc 60 .lss 57 59])
 (.ite (.t 60) .skip (.exit 4)))
 (.seq (.block 5 (.seq (.reg [.m 63 9,.m 64 11,.xi 65 1 63 64,.xl 66 65])
 (.ite (.t 66) (.reg [.m 67 6,.m 68 11,.xi 69 1 67 68,.xl 70 69,.xa 71 70,.xi 72 1 67 68,⟨.st 1 (.t 72) (.t 71),none,none,none⟩]) .skip)))
 (.reg [.m 61 11,.xa 62 61,.m 11 62])))))))))
 (.reg [.m 30 7,.xa 31 30,.m 7 31]))))))
 (.seq (.reg [.xs 12,.xs 13])
 (.seq (.seq (.reg [.xv 14 0])
 (.block 6 (.loop (.seq (.seq (.reg [.m 73 14,.m 74 5,.xn 75 74,.xc 76 .lss 73 75])
 (.ite (.t 76) .skip (.exit 6)))
 (.seq (.block 7 (.reg [.m 79 12,.m 80 5,.m 81 14,.xi 82 1 80 81,.xl 83 82,.m 84 4,.xn 85 84,.d 86 (.call (.func 131) #[(.t 83),(.t 85)]),.d 87 (.bsl 51 1 #[(.int .i64 0)] [(0,1,(.t 86))]),.xz 88 79 87 36,.m 12 88]))
 (.reg [.m 77 14,.xa 78 77,.m 14 78]))))))
 (.seq (.seq (.reg [.xv 15 0])
 (.block 8 (.loop (.seq (.seq (.reg [.m 89 15,.m 90 6,.xn 91 90,.xc 92 .lss 89 91])
 (.ite (.t 92) .skip (.exit 8)))
 (.seq (.block 9 (.reg [.m 95 13,.m 96 6,.m 97 15,.xi 98 1 96 97,.xl 99 98,.m 100 4,.xn 101 100,.d 102 (.call (.func 131) #[(.t 99),(.t 101)]),.d 103 (.bsl 51 1 #[(.int .i64 0)] [(0,1,(.t 102))]),.xz 104 95 103 36,.m 13 104]))
 (.reg [.m 93 15,.xa 94 93,.m 15 94]))))))
 (.seq (.reg [.m 105 12,.m 106 13,.m 2 105,.m 3 106])
 .ret))))))))
def Q41:Zf prog 78 107 Zrv [.t 2,.t 3]:=.o [] [] Tryz.func78 K1
def Zrw:C:=(.seq (.reg [.d 2 (.box 25 (.t 0)),.xv 4 0])
 (.seq (.seq (.reg [.xd 6 2 2,.d 7 (.call (.func 24) #[(.t 6)]),.m 5 7])
 (.seq (.reg [.m 8 5,.xk 9 .neq 8 0])
 (.ite (.t 9) (.seq (.reg [.m 10 5,.m 4 10])
 .ret) .skip)))
 (.seq (.seq (.reg [.m 11 1,.xo 12 0 2,.xl 13 12,.xn 14 13,.d 15 (.sub (.t 14) (.ci 1)),.d 16 (.call (.func 103) #[(.t 11),(.ci 0),(.t 15)]),.xt 17 16])
 (.ite (.t 17) (.seq (.reg [.xv 4 6])
 .ret) .skip))
 (.seq (.reg [.xv 4 0])
 .ret))))
def Zph:Zf prog 81 18 Zrw [.t 4]:=.o [] [] Tryz.func81 K1
def Zro:C:=(.seq (.reg [.d 2 (.box 25 (.t 0)),.xs 4,.xv 5 0])
 (.seq (.seq (.reg [.xd 12 2 2,.m 13 1,.d 14 (.call (.func 81) #[(.t 12),(.t 13)]),.m 6 14])
 (.seq (.reg [.m 15 6,.xk 16 .neq 15 0])
 (.ite (.t 16) (.seq (.reg [.m 17 6,.xs 4,.m 5 17])
 .ret) .skip)))
 (.seq (.seq (.reg [.xv 7 0])
 (.block 0 (.loop (.seq (.seq (.reg [.m 18 7,.xo 19 1 2,.xl 20 19,.xn 21 20,.xc 22 .leq 18 21])
 (.ite (.t 22) .skip (.exit 0)))
 (.seq (.block 1 (.seq (.reg [.xd 25 2 2,.d 26 (.call (.func 90) #[(.t 25)]),.m 27 7,.d 28 (.call (.func 89) #[(.t 26),(.t 27)]),.m 8 28])
 (.seq (.reg [.xv 9 0])
 (.block 2 (.loop (.seq (.seq (.reg [.m 29 9,.m 30 8,.xn 31 30,.xc 32 .lss 29 31])
 (.ite (.t 32) .skip (.exit 2)))
 (.seq (.block 3 (.seq (.drw [(0,.xd 36 2 2),(0,.m 37 8),(0,.m 38 9),(0,.xi 39 1 37 38),(0,.xl 40 39),(2,.d 41 (.call (.func 91) #[(.t 36),(.t 40)])),(2,.d 42 (.call (.func 78) #[(.t 41)])),(0,.m 35 42),(0,.xe 43 35 0),(0,.xe 44 35 1),(0,.m 10 43)] [.m 11 44])
 (.seq (.reg [.m 45 10,.m 46 1,.xi 47 1 45 46,.xl 48 47,.xk 49 .eql 48 1])
 (.ite (.t 49) (.seq (.reg [.m 50 8,.m 51 9,.xi 52 1 50 51,.xl 53 52,.m 4 53,.xv 5 0])
 .ret) .skip))))
 (.reg [.m 33 9,.xa 34 33,.m 9 34]))))))))
 (.reg [.m 23 7,.xa 24 23,.m 7 24]))))))
 (.seq (.reg [.xs 4,.xv 5 0])
 .ret))))
def Zqf:Zf prog 40 54 Zro [.t 4,.t 5]:=.o [] [] Tryz.func40 K1
def Zrq:C:=(.seq (.reg [.d 2 (.box 25 (.t 0)),.d 4 (.alloc 25 #[(.slice none 0 0),(.slice none 0 0)]),.xv 5 0])
 (.seq (.seq (.reg [.xd 8 2 2,.d 9 (.call (.func 24) #[(.t 8)]),.m 6 9])
 (.seq (.reg [.m 10 6,.xk 11 .neq 10 0])
 (.ite (.t 11) (.seq (.reg [.d 12 (.build #[(.slice none 0 0),(.slice none 0 0)] []),.m 13 6,⟨.st 2 (.t 4) (.t 12),none,none,none⟩,.m 5 13])
 .ret) .skip)))
 (.seq (.seq (.reg [.m 14 1,.xo 15 1 2,.xl 16 15,.xn 17 16,.d 18 (.call (.func 93) #[(.t 14),(.t 17)]),.m 7 18])
 (.seq (.reg [.m 19 7,.xk 20 .neq 19 0])
 (.ite (.t 20) (.seq (.reg [.d 21 (.build #[(.slice none 0 0),(.slice none 0 0)] []),.m 22 7,⟨.st 2 (.t 4) (.t 21),none,none,none⟩,.m 5 22])
 .ret) .skip)))
 (.seq (.reg [.xd 23 2 2,.m 24 1,.d 25 (.call (.func 91) #[(.t 23),(.t 24)]),⟨.st 2 (.t 4) (.t 25),none,none,none⟩,.xv 5 0])
 .ret))))
def Zqh:Zf prog 42 26 Zrq [.cn 4 2,.t 5]:=.o [] [] Tryz.func42 K1
def Zrs:C:=(.seq (.reg [.d 2 (.box 25 (.t 0)),.xs 4,.xv 5 0])
 (.seq (.seq (.reg [.xd 10 2 2,.m 11 1,.d 12 (.call (.func 81) #[(.t 10),(.t 11)]),.m 6 12])
 (.seq (.reg [.m 13 6,.xk 14 .neq 13 0])
 (.ite (.t 14) (.seq (.reg [.m 15 6,.xs 4,.m 5 15])
 .ret) .skip)))
 (.seq (.seq (.reg [.xv 7 0])
 (.block 0 (.loop (.seq (.seq (.reg [.m 16 7,.xo 17 1 2,.xl 18 17,.xn 19 18,.xc 20 .leq 16 19])
 (.ite (.t 20) .skip (.exit 0)))
 (.seq (.block 1 (.seq (.reg [.xd 23 2 2,.d 24 (.call (.func 90) #[(.t 23)]),.m 25 7,.d 26 (.call (.func 89) #[(.t 24),(.t 25)]),.m 8 26])
 (.seq (.reg [.xv 9 0])
 (.block 2 (.loop (.seq (.seq (.reg [.m 27 9,.m 28 8,.xn 29 28,.xc 30 .lss 27 29])
 (.ite (.t 30) .skip (.exit 2)))
 (.seq (.block 3 (.seq (.drw [(0,.xd 33 2 2),(0,.m 34 1),(0,.m 35 8),(0,.m 36 9),(0,.xi 37 1 35 36),(0,.xl 38 37)] [.d 39 (.call (.func 51) #[(.t 33),(.t 34),(.t 38)])])
 (.ite (.t 39) (.seq (.reg [.m 40 8,.m 41 9,.xi 42 1 40 41,.xl 43 42,.m 4 43,.xv 5 0])
 .ret) .skip)))
 (.reg [.m 31 9,.xa 32 31,.m 9 32]))))))))
 (.reg [.m 21 7,.xa 22 21,.m 7 22]))))))
 (.seq (.reg [.xs 4,.xv 5 0])
 .ret))))
def Zqj:Zf prog 45 44 Zrs [.t 4,.t 5]:=.o [] [39] Tryz.func45 K1
def Zrt:C:=(.seq (.reg [.d 3 (.box 25 (.t 0)),.xb 6 false])
 (.seq (.reg [.xs 7])
 (.seq (.seq (.reg [.xv 8 0])
 (.block 0 (.loop (.seq (.seq (.reg [.m 16 8,.xo 17 1 3,.xl 18 17,.xn 19 18,.xc 20 .lss 16 19])
 (.ite (.t 20) .skip (.exit 0)))
 (.seq (.block 1 (.seq (.reg [.m 23 2,.m 24 8,.d 25 (.call (.func 38) #[(.t 23),(.t 24)]),.xt 26 25])
 (.ite (.t 26) (.reg [.m 27 7,.m 28 8,.d 29 (.bsl 3 1 #[(.int .i64 0)] [(0,1,(.t 28))]),.xz 30 27 29 26,.m 7 30]) .skip)))
 (.reg [.m 21 8,.xa 22 21,.m 8 22]))))))
 (.seq (.reg [.xd 32 2 3,.d 33 (.call (.func 78) #[(.t 32)]),.m 31 33,.xe 34 31 0,.xe 35 31 1,.m 9 34,.m 10 35])
 (.seq (.seq (.reg [.xv 11 0])
 (.block 2 (.loop (.seq (.seq (.reg [.m 36 11,.m 37 7,.xn 38 37,.xc 39 .leq 36 38])
 (.ite (.t 39) .skip (.exit 2)))
 (.seq (.block 3 (.seq (.reg [.m 42 7,.m 43 11,.d 44 (.call (.func 89) #[(.t 42),(.t 43)]),.m 12 44])
 (.seq (.reg [.xv 13 0])
 (.block 4 (.loop (.seq (.seq (.reg [.m 45 13,.m 46 12,.xn 47 46,.xc 48 .lss 45 47])
 (.ite (.t 48) .skip (.exit 4)))
 (.seq (.block 5 (.seq (.drw [(0,.xd 52 2 3),(0,.m 53 12),(0,.m 54 13),(0,.xi 55 1 53 54),(0,.xl 56 55),(2,.d 57 (.call (.func 91) #[(.t 52),(.t 56)])),(2,.d 58 (.call (.func 78) #[(.t 57)])),(0,.m 51 58),(0,.xe 59 51 0),(0,.xe 60 51 1),(0,.m 14 59)] [.m 15 60])
 (.seq (.drw [(0,.m 61 14),(0,.m 62 1),(0,.xi 63 1 61 62),(0,.xl 64 63),(0,.m 65 9),(0,.m 66 1),(0,.xi 67 1 65 66),(0,.xl 68 67)] [.xc 69 .neq 64 68])
 (.ite (.t 69) (.seq (.reg [.xb 6 false])
 .ret) .skip))))
 (.reg [.m 49 13,.xa 50 49,.m 13 50]))))))))
 (.reg [.m 40 11,.xa 41 40,.m 11 41]))))))
 (.seq (.reg [.xb 6 true])
 .ret))))))
def Zqk:Zf prog 51 70 Zrt [.t 6]:=.o [] [] Tryz.func51 K1
def Zry:C:=(.seq (.reg [.xs 4])
 (.seq (.seq (.reg [.m 9 1,.xk 10 .eql 9 0])
 (.ite (.t 10) (.seq (.reg [.d 11 (.bsl 26 1 #[(.slice none 0 0)] [(0,1,.cn)]),.m 4 11])
 .ret) .skip))
 (.seq (.reg [.xs 5])
 (.seq (.seq (.reg [.xv 6 0])
 (.block 0 (.loop (.seq (.seq (.reg [.m 12 6,.m 13 0,.xn 14 13,.xc 15 .lss 12 14])
 (.ite (.t 15) .skip (.exit 0)))
 (.seq (.block 1 (.seq (.reg [.m 18 0,.m 19 6,.xa 20 19,.d 21 (.sub3 1 (.t 18) (some (.t 20)) none),.m 22 1,.d 23 (.sub (.t 22) (.ci 1)),.d 24 (.call (.func 89) #[(.t 21),(.t 23)]),.m 7 24])
 (.seq (.reg [.xv 8 0])
 (.block 2 (.loop (.seq (.seq (.reg [.m 25 8,.m 26 7,.xn 27 26,.xc 28 .lss 25 27])
 (.ite (.t 28) .skip (.exit 2)))
 (.seq (.block 3 (.drw [(0,.m 31 5),(0,.m 32 0),(0,.m 33 6),(0,.xi 34 1 32 33),(0,.xl 35 34),(0,.m 37 7),(0,.m 38 8),(0,.xi 39 1 37 38),(0,.xl 40 39),(2,.d 36 (.bsl 3 1 #[(.int .i64 0)] [(0,1,(.t 35))])),(2,.xz 41 36 40 26),(2,.d 42 (.bsl 26 1 #[(.slice none 0 0)] [(0,1,(.t 41))]))] [.xz 43 31 42 47,.m 5 43]))
 (.reg [.m 29 8,.xa 30 29,.m 8 30]))))))))
 (.reg [.m 16 6,.xa 17 16,.m 6 17]))))))
 (.seq (.reg [.m 44 5,.m 4 44])
 .ret)))))
def Qp5:Zf prog 89 45 Zry [.t 4]:=.o [] [] Tryz.func89 K1
def Zrz:C:=(.seq (.reg [.d 1 (.box 25 (.t 0)),.xs 2])
 (.seq (.reg [.xs 3])
 (.seq (.seq (.reg [.xv 4 0])
 (.block 0 (.loop (.seq (.seq (.reg [.m 5 4,.xo 6 1 1,.xl 7 6,.xn 8 7,.xc 9 .lss 5 8])
 (.ite (.t 9) .skip (.exit 0)))
 (.seq (.block 1 (.reg [.m 12 3,.m 13 4,.d 14 (.bsl 3 1 #[(.int .i64 0)] [(0,1,(.t 13))]),.xz 15 12 14 26,.m 3 15]))
 (.reg [.m 10 4,.xa 11 10,.m 4 11]))))))
 (.seq (.reg [.m 16 3,.m 2 16])
 .ret))))
def Zpi:Zf prog 90 17 Zrz [.t 2]:=.o [] [] Tryz.func90 K1
noncomputable def Zr0:C:=(.seq (.reg [.d 2 (.box 25 (.t 0)),.d 4 (.alloc 25 #[(.slice none 0 0),(.slice none 0 0)])])
 (.seq (.reg [.xd 12 2 2,.d 13 (.call (.func 102) #[(.t 12)]),.d 5 (.alloc 25 #[(.slice none 0 0),(.slice none 0 0)]),⟨.st 2 (.t 5) (.t 13),none,none,none⟩])
 (.seq (.reg [.xo 14 1 5,⟨.st 1 (.t 14) .cn,none,none,none⟩])
 (.seq (.reg [.xs 6])
 (.seq (.seq (.reg [.xv 7 0])
 (.block 0 (.loop (.seq (.seq (.reg [.m 15 7,.xo 16 1 2,.xl 17 16,.xn 18 17,.xc 19 .lss 15 18])
 (.ite (.t 19) .skip (.exit 0)))
 (.seq (.block 1 (.seq (.reg [.m 22 1,.m 23 7,.d 24 (.call (.func 38) #[(.t 22),(.t 23)]),.xt 25 24])
 (.ite (.t 25) (.reg [.m 26 6,.m 27 7,.d 28 (.bsl 3 1 #[(.int .i64 0)] [(0,1,(.t 27))]),.xz 29 26 28 26,.m 6 29]) .skip)))
 (.reg [.m 20 7,.xa 21 20,.m 7 21]))))))
 (.seq (.seq (.cd 76 (Gl Tryz.f91 9))
 (.block 2 (.loop (.seq (.seq (.reg [.m 30 8,.m 31 6,.xn 32 31,.xc 33 .lss 30 32])
 (.ite (.t 33) .skip (.exit 2)))
 (.seq (.block 3 (.seq (.cd 76 (Gl Tryz.f91 12))
 (.seq (.reg [.xd 45 2 2,.xo 46 3 9,.xl 47 46,.m 48 1,.d 49 (.call (.func 138) #[(.t 45),(.t 47),(.t 48)]),.m 10 49])
 (.seq (.reg [.xo 50 3 9,⟨.st 1 (.t 50) .cn,none,none,none⟩])
 (.seq (.seq (.reg [.xv 11 0])
 (.block 4 (.loop (.seq (.seq (.reg [.m 51 11,.m 52 6,.xn 53 52,.xc 54 .lss 51 53])
 (.ite (.t 54) .skip (.exit 4)))
 (.seq (.block 5 (.seq (.reg [.m 57 10,.m 58 6,.m 59 11,.xi 60 1 58 59,.xl 61 60,.d 62 (.call (.func 38) #[(.t 57),(.t 61)])])
 (.ite (.t 62) (.reg [.xo 63 3 9,.xl 64 63,.m 65 11,.d 66 (.bsl 3 1 #[(.int .i64 0)] [(0,1,(.t 65))]),.xz 67 64 66 26,.xo 68 3 9,⟨.st 1 (.t 68) (.t 67),none,none,none⟩]) .skip)))
 (.reg [.m 55 11,.xa 56 55,.m 11 56]))))))
 (.cd 76 (Gl Tryz.f91 20)))))))
 (.reg [.m 34 8,.xa 35 34,.m 8 35]))))))
 (.seq (.reg [.xd 75 2 5,⟨.st 2 (.t 4) (.t 75),none,none,none⟩])
 .ret)))))))
def Zbz:Zf prog 91 76 Zr0 [.cn 4 2]:=.o [1009,1020] [] Tryz.func91 K1
noncomputable def Zrb:C:=(.seq (.reg [.d 1 (.box 25 (.t 0)),.d 2 (.alloc 25 #[(.slice none 0 0),(.slice none 0 0)])])
 (.seq (.reg [.d 7 (.bsl 9 0 #[] []),.xo 8 0 1,.xl 9 8,.xz 10 7 9 22,.d 11 (.build #[(.slice none 0 0),(.slice none 0 0)] [(0,1,(.t 10))]),.d 3 (.alloc 25 #[(.slice none 0 0),(.slice none 0 0)]),⟨.st 2 (.t 3) (.t 11),none,none,none⟩])
 (.seq (.seq (.reg [.xv 4 0])
 (.block 0 (.loop (.seq (.seq (.reg [.m 12 4,.xo 13 1 1,.xl 14 13,.xn 15 14,.xc 16 .lss 12 15])
 (.ite (.t 16) .skip (.exit 0)))
 (.seq (.block 1 (.seq (.reg [.xo 19 1 1,.xl 20 19,.m 21 4,.xi 22 4 20 21,.xd 23 4 22,.d 5 (.alloc 49 #[(.string ⟨#[]⟩),(.int .i64 0),(.slice none 0 0),(.slice none 0 0)]),⟨.st 4 (.t 5) (.t 23),none,none,none⟩])
 (.seq (.reg [.d 24 (.bsl 3 0 #[] []),.xo 25 3 5,.xl 26 25,.xz 27 24 26 26,.xo 28 2 5,⟨.st 1 (.t 28) .cn,none,none,none⟩,.xo 29 3 5,⟨.st 1 (.t 29) (.t 27),none,none,none⟩])
 (.seq (.seq (.reg [.xv 6 0])
 (.block 2 (.loop (.seq (.seq (.reg [.m 30 6,.xo 31 1 1,.xl 32 31,.m 33 4,.xi 34 4 32 33,.xo 35 2 34,.xl 36 35,.xn 37 36,.xc 38 .lss 30 37])
 (.ite (.t 38) .skip (.exit 2)))
 (.seq (.block 3 (.drw [(0,.xo 41 2 5),(0,.xl 42 41),(0,.xo 44 1 1),(0,.xl 45 44),(0,.m 46 4),(0,.xi 47 4 45 46),(0,.xo 48 2 47),(0,.xl 49 48),(0,.m 50 6),(0,.xi 51 1 49 50),(0,.xl 52 51),(2,.d 43 (.bsl 3 0 #[] [])),(2,.xz 53 43 52 26),(2,.d 54 (.bsl 26 1 #[(.slice none 0 0)] [(0,1,(.t 53))]))] [.xz 55 42 54 47,.xo 56 2 5,⟨.st 1 (.t 56) (.t 55),none,none,none⟩]))
 (.reg [.m 39 6,.xa 40 39,.m 6 40]))))))
 (.cd 64 (Gl Tryz.f102 11))))))
 (.reg [.m 17 4,.xa 18 17,.m 4 18]))))))
 (.seq (.reg [.xd 63 2 3,⟨.st 2 (.t 2) (.t 63),none,none,none⟩])
 .ret))))
def Qpj:Zf prog 102 64 Zrb [.cn 2 2]:=.o [1011] [] Tryz.func102 K1
def Zrc:C:=(.seq (.reg [.xv 4 0])
 (.seq (.seq (.reg [.m 5 0,.m 6 1,.xc 7 .eql 5 6])
 (.ite (.t 7) (.seq (.reg [.xv 4 1])
 .ret) .skip))
 (.seq (.seq (.reg [.m 8 0,.xk 9 .eql 8 0])
 (.ite (.t 9) (.seq (.reg [.xv 4 2])
 .ret) .skip))
 (.seq (.reg [.xv 4 0])
 .ret))))
def Zm0:Zf prog 131 10 Zrc [.t 4]:=.o [] [] Tryz.func131 K1
def Zrd:C:=(.seq (.reg [.d 3 (.box 25 (.t 0)),.xs 6])
 (.seq (.reg [.xs 7])
 (.seq (.seq (.reg [.xv 8 0])
 (.block 0 (.loop (.seq (.seq (.reg [.m 9 8,.m 10 1,.xn 11 10,.xc 12 .lss 9 11])
 (.ite (.t 12) .skip (.exit 0)))
 (.seq (.block 1 (.seq (.reg [.m 15 2,.m 16 1,.m 17 8,.xi 18 1 16 17,.xl 19 18,.d 20 (.call (.func 38) #[(.t 15),(.t 19)])])
 (.ite (.t 20) (.drw [(0,.m 21 7),(0,.xd 22 2 3),(0,.xo 23 1 3),(0,.xl 24 23),(0,.m 25 1),(0,.m 26 8),(0,.xi 27 1 25 26),(0,.xl 28 27),(0,.xi 29 4 24 28),(0,.xo 30 3 29),(0,.xl 31 30),(0,.m 32 2),(2,.d 33 (.call (.func 138) #[(.t 22),(.t 31),(.t 32)]))] [.xz 34 21 33 26,.m 7 34]) (.reg [.m 35 7,.m 36 1,.m 37 8,.xi 38 1 36 37,.xl 39 38,.d 40 (.bsl 3 1 #[(.int .i64 0)] [(0,1,(.t 39))]),.xz 41 35 40 26,.m 7 41]))))
 (.reg [.m 13 8,.xa 14 13,.m 8 14]))))))
 (.seq (.reg [.m 42 7,.m 6 42])
 .ret))))
def Zm6:Zf prog 138 43 Zrd [.t 6]:=.o [] [] Tryz.func138 K1
noncomputable def Zrr:C:=(.seq (.reg [.d 2 (.box 25 (.t 0)),.d 3 (.box 25 (.t 1)),.xb 4 false])
 (.seq (.seq (.reg [.xo 9 0 2,.xl 10 9,.xo 11 0 3,.xl 12 11,.d 13 (.call (.func 59) #[(.t 10),(.t 12)]),.xt 14 13,.m 15 14,.yo 16 15 false 1 2,.yl 17 15 false 16,.yn 18 15 false 17,.yo 19 15 false 1 3,.yl 20 15 false 19,.yn 21 15 false 20,.u 22 15 false (.cmp .neq (.t 18) (.t 21)),.xq 23 15 22])
 (.ite (.t 23) (.seq (.reg [.xb 4 false])
 .ret) .skip))
 (.seq (.seq (.reg [.xv 5 0])
 (.block 0 (.loop (.seq (.seq (.reg [.m 24 5,.xo 25 1 2,.xl 26 25,.xn 27 26,.xc 28 .lss 24 27])
 (.ite (.t 28) .skip (.exit 0)))
 (.seq (.block 1 (.seq (.cd 89 (Gl Tryz.f43 6))
 (.seq (.seq (.reg [.xo 41 0 6,.xl 42 41,.xo 43 0 7,.xl 44 43,.d 45 (.teq .neq (.t 42) (.t 44)),.m 46 45,.yo 47 46 false 1 6,.yl 48 46 false 47,.yo 49 46 false 1 7,.yl 50 46 false 49,.u 51 46 false (.cmp .neq (.t 48) (.t 50)),.xq 52 46 51,.m 53 52,.yo 54 53 false 3 6,.yl 55 53 false 54,.yo 56 53 false 3 7,.yl 57 53 false 56,.u 58 53 false (.call (.func 31) #[(.t 55),(.t 57)]),.u 59 53 false (.not (.t 58)),.xq 60 53 59,.m 61 60,.yo 62 61 false 2 6,.yl 63 61 false 62,.yn 64 61 false 63,.yo 65 61 false 2 7,.yl 66 61 false 65,.yn 67 61 false 66,.u 68 61 false (.cmp .neq (.t 64) (.t 67)),.xq 69 61 68])
 (.ite (.t 69) (.seq (.reg [.xb 4 false])
 .ret) .skip))
 (.seq (.reg [.xv 8 0])
 (.block 2 (.loop (.seq (.seq (.reg [.m 70 8,.xo 71 2 6,.xl 72 71,.xn 73 72,.xc 74 .lss 70 73])
 (.ite (.t 74) .skip (.exit 2)))
 (.seq (.block 3 (.seq (.drw [(0,.xo 77 2 6),(0,.xl 78 77),(0,.m 79 8),(0,.xi 80 1 78 79),(0,.xl 81 80),(0,.xo 82 2 7),(0,.xl 83 82),(0,.m 84 8),(0,.xi 85 1 83 84),(0,.xl 86 85)] [.d 87 (.call (.func 31) #[(.t 81),(.t 86)]),.xt 88 87])
 (.ite (.t 88) (.seq (.reg [.xb 4 false])
 .ret) .skip)))
 (.reg [.m 75 8,.xa 76 75,.m 8 76])))))))))
 (.reg [.m 29 5,.xa 30 29,.m 5 30]))))))
 (.seq (.reg [.xb 4 true])
 .ret))))
def Zqi:Zf prog 43 89 Zrr [.t 4]:=.o [] [87] Tryz.func43 K1
end Go.Proofs
namespace Go.TM
section
variable{α:Type}
end
def Zqu{n d:Nat}(h:d<2^n):Z7 ((range n).filter λ k=>d.testBit k)=d:=by
 refine Nat.eq_of_testBit_eq λ k=>?_;rw[Wz,Bool.eq_iff_iff];simp only[contains_eq_mem,decide_eq_true_eq,mem_filter,mem_range];refine⟨λ x=>x.2,λ b=>⟨?_,b⟩⟩;apply Classical.byContradiction;intro e;have c:d<2^k:=Nat.lt_of_lt_of_le h (Nat.pow_le_pow_right O1 O1);rw[Nat.testBit_lt_two_pow c]at b;cases b
def Zq6{p x:List Nat}:Z7 p&&&Z7 x=0↔∀k∈p,k∉x:=by
 constructor
 .intro h k b hx;have c:(Z7 p&&&Z7 x).testBit k=true:=by rw[Nat.testBit_and,Wz,Wz];simp[b,hx]
  rw[h]at c;simp at c
 .intro h;refine Nat.eq_of_testBit_eq λ k=>?_;rw[Nat.testBit_and,Wz,Wz,Nat.zero_testBit];by_cases b:k∈p
  .have:=h k b;simp[this]
  .simp[b]
def Q0k(n:Nat)(x:List Nat):List Nat:=(range n).filter λ k=>!x.contains k
def Zri{n:Nat}{x:List Nat}(F:Nat->Prop):(∀d,d<2^n->d&&&Z7 x=0->F d)↔∀m,m<=(Q0k n x).length->∀p∈parts (Q0k n x) m,F (Z7 p):=by
 constructor
 .intro h m _ p hp;obtain⟨c,o⟩:=Gk.1 hp
  have f:∀k∈p,k<n/\k∉x:=λ k b=>by
   have:=c.subset b;simpa[Q0k]using this
  exact h _ (jI λ k b=>(f k b).1) (Zq6.2 λ k b=>(f k b).2)
 .intro h d hd hx
  have g:((range n).filter λ k=>d.testBit k).Sublist (Q0k n x):=by
   have:((range n).filter λ k=>d.testBit k)=(Q0k n x).filter λ k=>d.testBit k:=by
    unfold Q0k;rw[filter_filter];refine filter_congr λ k b=>?_;cases j:d.testBit k with
    |false=>simp
    |true=>
     have:(Z7 x).testBit k=false:=by
      cases e:(Z7 x).testBit k with
      |false=>rfl
      |true=>
       have c:(d&&&Z7 x).testBit k=true:=by rw[Nat.testBit_and,j,e];rfl
       rw[hx]at c;simp at c
     rw[Wz]at this;rw[this];rfl
   rw[this];exact filter_sublist
  have:=h _ g.length_le _ (Gk.2 ⟨g,rfl⟩)
  rwa [Zqu hd]at this
section
variable(A:List (List Nat))(out:Nat->Bool)
def Qcf:Nat->List Nat->List Nat
 |0,_=>[]
 |s+1,l=>l.flatMap λ x=>if out x then Qcf s (Je A x)else[x]
variable{A out}
def Zr7{s:Nat}{k:Nat}:∀{i:Nat},k∈Qcf A out (s+1) (Je A i)↔out k=false/\QP A out s i k=true:=by
 induction s with
 |zero=>
  intro i;simp only[Qcf,mem_flatMap,QP];constructor
  .rintro⟨x,hx,h⟩;split at h
   .cases h
   .rename_i ho;rw[mem_singleton]at h;subst h;exact⟨by simpa using ho,by simpa using hx⟩
  .rintro⟨b,c⟩;exact⟨k,by simpa using c,by rw[b];simp⟩
 |succ s d=>
  intro i;rw[Qcf,mem_flatMap];simp only[QP,Bool.or_eq_true,any_eq_true,Bool.and_eq_true];constructor
  .rintro⟨x,hx,h⟩;split at h
   .rename_i ho;obtain⟨b,c⟩:=d.1 h;exact⟨b,.inr ⟨x,hx,ho,c⟩⟩
   .rename_i ho;rw[mem_singleton]at h;subst h;exact⟨by simpa using ho,.inl (by simpa using hx)⟩
  .rintro⟨b,c|⟨o,a1,a2,a3⟩⟩
   .exact⟨k,by simpa using c,by rw[b];simp⟩
   .exact⟨o,a1,by rw[if_pos a2];exact d.2 ⟨b,a3⟩⟩
def Zsg(m:∀i,i<A.length->∀k∈Je A i,k<A.length)(g:Wq A=false){i k s:Nat}(f:i<A.length)(j:A.length<=s):k∈Qcf A out (s+1) (Je A i)↔out k=false/\QP A out A.length i k=true:=by
 rw[Zr7];obtain⟨L,c,b⟩:=DM g;refine and_congr Iff.rfl ⟨λ h=>?_,PI j⟩;obtain⟨X,Y,e⟩:=append_of_mem (b i f);have:=E0 c X Y e h;refine PI ?_ this;have d:=H7 c.nod c.low;rw[e]at d;simp at d;omega
end
end Go.TM
namespace Go.TM
variable{P:Program}{t:TypeId}{N:Nat}
def Zsk{T:Type}{S:Sys P T}{fn:FuncId}{ro:Option Nat}{c:Code}{Q:Ex->Act->Qa T->Prop}{a:Act}{U:Qa T}(h:(∃w,U.ok w)->Zw S fn ro c Q a U):Zw S fn ro c Q a U:=by
 intro d m b k cs f g;by_cases e:∃w,U.ok w
 .exact h e d m b k cs f g
 .exact .priv ⟨rfl,λ w ok=>absurd ⟨w,ok⟩ e⟩
end Go.TM
set_option linter.unusedSimpArgs false
namespace Go.TM
variable{T:Type}{P:Program}{S:Sys P T}{fn:FuncId}{ro:Option Nat}
def V3.frz2{U U':Qa T}{b:Nat}{e:TypeId}{c:Array Value}(h:V3 U b e c U'):U.frz.lg U'.frz:=⟨h.imm,⟨[],rfl⟩,h.tok⟩
def V3.frz1{U U':Qa T}{b:Nat}{e:TypeId}{c:Array Value}(h:V3 U b e c U'):U.frz.lg U':=⟨h.imm,⟨_,(append_nil _).symm⟩,h.tok⟩
def V3.made{U U':Qa T}{b:Nat}{e:TypeId}{c:Array Value}(h:U.le U')(f:U'.free b):V3 U b e c (U'.put b (.cells c e)):=by
 refine⟨h.imm,by show _::U'.M=_;rw[h.own],h.tok,?_⟩;cases d:U.I b with
 |none=>rfl
 |some o=>have:=h.imm b o d;rw[f.1]at this;cases this
end Go.TM
namespace Go.Proofs
open Go.TM
variable{T:Type}{S:TM.Sys prog T}{U:Qa T}
attribute [local irreducible] Qb Zl Wt
def Qdc(a:Option Addr)(len cap:Nat)(l:List Int)(e:Z5 U a len l)(g:len<2^60)(n:Int) :
  Qb S 38 #[.slice a len cap,.int .i64 n] (λ v U'=>v=.bool (l.contains n)/\U'=U) U:=by
 refine Qb.of (args:=[_,_]) Qvy Qf S1 ?_
 repeat refine⟨rfl,?_⟩
 refine⟨Nat,λ i=>[(0,.slice a len cap),(1,.int .i64 n),(5,.int .i64 i)],λ i U'=>U'=U/\i<=len/\n∉l.take i,λ i=>len-i,0,T1,⟨rfl,O1,S1⟩,?_⟩;rintro i f _⟨rfl,q,b⟩
 repeat refine⟨rfl,?_⟩
 conv=>whnf
 apply Qe<;>intro d
 .have hlt:i<len:=by simpa using d
  obtain⟨j,x,h,rfl,o,m⟩:=e.at hlt;refine⟨j,i,⟨rfl,rfl,hlt⟩,_,m,?_⟩
  repeat refine⟨rfl,?_⟩
  conv=>whnf
  apply Qe<;>intro d
  .repeat refine⟨rfl,?_⟩
   conv=>whnf
   have c:x=n:=by simpa using d
   refine⟨?_,rfl⟩;have:n∈l:=c▸mem_of_getElem? h;simp[this]
  .have c:x≠n:=by simpa using d
   refine⟨I1,?_⟩;refine⟨rfl,i+1,T1,⟨rfl,O1,?_⟩,L1⟩;rw[Ji h];simp[b,Ne.symm c]
 .have hge:len<=i:=by simpa using d
  repeat refine⟨rfl,?_⟩
  refine⟨?_,rfl⟩;have:l.take i=l:=take_of_length_le (by rw[e.1];exact hge);rw[this]at b;simp[b]
end Go.Proofs
end

namespace Go.Proofs
open Go.TM
def Zrm:C:=(.seq (.reg [.d 3 (.box 25 (.t 0)),.xb 6 false])
 (.seq (.seq (.reg [.xd 13 2 3,.d 14 (.call (.func 19) #[(.t 13)]),.m 15 14,.ym 16 15 false 2,.yn 17 15 false 16,.yk 18 15 false .gtr 17 40,.xq 19 15 18])
 (.ite (.t 19) (.seq (.reg [.d 20 (.call (.func 20) #[]),.m 6 20])
 .ret) .skip))
 (.seq (.reg [.xd 22 2 3,.m 23 1,.d 24 (.call (.func 39) #[(.t 22),(.t 23)]),.m 21 24,.xe 25 21 0,.xe 26 21 1,.m 7 25,.m 8 26])
 (.seq (.reg [.xd 28 2 3,.m 29 1,.d 30 (.call (.func 40) #[(.t 28),(.t 29)]),.m 27 30,.xe 31 27 0,.xe 32 27 1,.m 9 31,.m 10 32])
 (.seq (.seq (.reg [.m 33 7,.m 34 9,.d 35 (.call (.func 31) #[(.t 33),(.t 34)]),.xt 36 35,.m 37 36,.ym 38 37 false 8,.ym 39 37 false 10,.u 40 37 false (.cmp .neq (.t 38) (.t 39)),.xq 41 37 40])
 (.ite (.t 41) (.seq (.reg [.xb 6 false])
 .ret) .skip))
 (.seq (.reg [.xd 43 2 3,.m 44 2,.d 45 (.call (.func 41) #[(.t 43),(.t 44)]),.m 42 45,.xe 46 42 0,.xe 47 42 1,.d 11 (.alloc 25 #[(.slice none 0 0),(.slice none 0 0)]),⟨.st 2 (.t 11) (.t 46),none,none,none⟩,.m 8 47])
 (.seq (.reg [.xd 49 2 3,.m 50 2,.d 51 (.call (.func 42) #[(.t 49),(.t 50)]),.m 48 51,.xe 52 48 0,.xe 53 48 1,.d 12 (.alloc 25 #[(.slice none 0 0),(.slice none 0 0)]),⟨.st 2 (.t 12) (.t 52),none,none,none⟩,.m 10 53])
 (.seq (.seq (.reg [.xd 54 2 11,.xd 55 2 12,.d 56 (.call (.func 43) #[(.t 54),(.t 55)]),.xt 57 56,.m 58 57,.ym 59 58 false 8,.ym 60 58 false 10,.u 61 58 false (.cmp .neq (.t 59) (.t 60)),.xq 62 58 61])
 (.ite (.t 62) (.seq (.reg [.xb 6 false])
 .ret) .skip))
 (.seq (.reg [.xd 64 2 3,.m 65 1,.d 66 (.call (.func 44) #[(.t 64),(.t 65)]),.m 63 66,.xe 67 63 0,.xe 68 63 1,.m 7 67,.m 8 68])
 (.seq (.reg [.xd 70 2 3,.m 71 1,.d 72 (.call (.func 45) #[(.t 70),(.t 71)]),.m 69 72,.xe 73 69 0,.xe 74 69 1,.m 9 73,.m 10 74])
 (.seq (.reg [.m 75 7,.m 76 9,.d 77 (.call (.func 31) #[(.t 75),(.t 76)]),.m 78 77,.ym 79 78 true 8,.ym 80 78 true 10,.u 81 78 true (.cmp .eql (.t 79) (.t 80)),.xp 82 78 81,.m 83 82,.u 84 83 true (.call (.func 20) #[]),.xp 85 83 84,.m 6 85])
 .ret)))))))))))
def Zr2:Zf Tryz.prog 10 86 Zrm [.t 6]:=.o [] [] Tryz.func10 K1
end Go.Proofs

noncomputable section
namespace Go.Proofs
open Go.TM
def Zre:C:=(.seq (.reg [.xb 4 false])
 (.seq (.seq (.reg [.xv 5 0])
 (.block 0 (.loop (.seq (.seq (.reg [.m 6 5,.m 7 0,.xn 8 7,.xc 9 .lss 6 8])
 (.ite (.t 9) .skip (.exit 0)))
 (.seq (.block 1 (.seq (.reg [.m 12 1,.m 13 0,.m 14 5,.xi 15 1 13 14,.xl 16 15,.d 17 (.call (.func 38) #[(.t 12),(.t 16)]),.xt 18 17])
 (.ite (.t 18) (.seq (.reg [.xb 4 false])
 .ret) .skip)))
 (.reg [.m 10 5,.xa 11 10,.m 5 11]))))))
 (.seq (.reg [.xb 4 true])
 .ret)))
def Zp1:Zf Tryz.prog 127 19 Zre [.t 4]:=.o [] [] Tryz.func127 K1
def Zrf:C:=(.seq (.reg [.d 2 (.box 49 (.t 0)),.xb 4 false])
 (.seq (.seq (.reg [.xv 5 0])
 (.block 0 (.loop (.seq (.seq (.reg [.m 8 5,.xo 9 2 2,.xl 10 9,.xn 11 10,.xc 12 .lss 8 11])
 (.ite (.t 12) .skip (.exit 0)))
 (.seq (.block 1 (.seq (.reg [.xb 6 true])
 (.seq (.seq (.reg [.xv 7 0])
 (.block 2 (.loop (.seq (.seq (.reg [.m 15 7,.xo 16 2 2,.xl 17 16,.m 18 5,.xi 19 1 17 18,.xl 20 19,.xn 21 20,.xc 22 .lss 15 21])
 (.ite (.t 22) .skip (.exit 2)))
 (.seq (.block 3 (.reg [.m 25 6,.m 26 25,.ym 27 26 true 1,.yo 28 26 true 2 2,.yl 29 26 true 28,.ym 30 26 true 5,.yi 31 26 true 1 29 30,.yl 32 26 true 31,.ym 33 26 true 7,.yi 34 26 true 1 32 33,.yl 35 26 true 34,.yi 36 26 true 1 27 35,.yl 37 26 true 36,.xp 38 26 37,.m 6 38]))
 (.reg [.m 23 7,.xa 24 23,.m 7 24]))))))
 (.seq (.reg [.m 39 6])
 (.ite (.t 39) (.seq (.reg [.xb 4 true])
 .ret) .skip)))))
 (.reg [.m 13 5,.xa 14 13,.m 5 14]))))))
 (.seq (.reg [.xb 4 false])
 .ret)))
def Zp2:Zf Tryz.prog 128 40 Zrf [.t 4]:=.o [] [] Tryz.func128 K1
noncomputable def Zr4:C:=(.seq (.reg [.d 2 (.box 25 (.t 0)),.xs 4,.xs 5])
 (.seq (.cd 57 (Gl Tryz.f72 1))
 (.seq (.seq (.reg [.xv 8 0])
 (.block 0 (.loop (.seq (.seq (.reg [.m 19 8,.m 20 6,.xn 21 20,.xc 22 .lss 19 21])
 (.ite (.t 22) .skip (.exit 0)))
 (.seq (.block 1 (.reg [.m 25 6,.m 26 8,.xi 27 1 25 26,⟨.st 1 (.t 27) (.cb true),none,none,none⟩]))
 (.reg [.m 23 8,.xa 24 23,.m 8 24]))))))
 (.seq (.seq (.reg [.xv 9 0])
 (.block 2 (.loop (.seq (.seq (.reg [.m 28 9,.m 29 1,.xn 30 29,.xc 31 .lss 28 30])
 (.ite (.t 31) .skip (.exit 2)))
 (.seq (.block 3 (.seq (.cd 57 (Gl Tryz.f72 9))
 (.seq (.reg [.xd 42 4 10,.m 43 6,.d 44 (.call (.func 128) #[(.t 42),(.t 43)])])
 (.ite (.t 44) (.seq (.reg [.m 45 7,.m 46 1,.m 47 9,.xi 48 1 46 47,.xl 49 48,.xi 50 1 45 49,⟨.st 1 (.t 50) (.cb true),none,none,none⟩])
 (.reg [.m 51 6,.xo 52 1 10,.xl 53 52,.xi 54 1 51 53,⟨.st 1 (.t 54) (.cb false),none,none,none⟩])) .skip))))
 (.reg [.m 32 9,.xa 33 32,.m 9 33]))))))
 (.seq (.reg [.m 55 6,.m 56 7,.m 4 55,.m 5 56])
 .ret)))))
def Zqt:Zf Tryz.prog 72 57 Zr4 [.t 4,.t 5]:=.o [1009] [] Tryz.func72 K1
def Zoh:List (List (Nat×St)):=[[(0,.xo 11 0 2),(0,.xl 12 11),(0,.xn 13 12),(0,.xo 15 1 2),(0,.xl 16 15),(0,.xn 17 16),(2,.d 14 (.raw { dst:=none,op:=(.makeSlice 29 (.t 13) (.t 13)),type:=29,pos := "", after:=#[],guard:=none })),(0,.d 6 (.mv (.t 14))),(2,.d 18 (.raw { dst:=none,op:=(.makeSlice 29 (.t 17) (.t 17)),type:=29,pos := "", after:=#[],guard:=none }))],
 [(0,.xo 11 0 2),(0,.xl 12 11),(0,.xn 13 12),(0,.xo 15 1 2),(0,.xl 16 15),(0,.xn 17 16),(2,.d 18 (.raw { dst:=none,op:=(.makeSlice 29 (.t 17) (.t 17)),type:=29,pos := "", after:=#[],guard:=none })),(2,.d 14 (.raw { dst:=none,op:=(.makeSlice 29 (.t 13) (.t 13)),type:=29,pos := "", after:=#[],guard:=none })),(0,.d 6 (.mv (.t 14)))]]
def Zqn:List St:=[.d 7 (.mv (.t 18))]
def Zok:List (List (Nat×St)):=[[(0,.xo 34 1 2),(0,.xl 35 34),(0,.d 36 (.mv (.t 1))),(0,.d 37 (.mv (.t 9))),(0,.xi 38 1 36 37),(0,.xl 39 38),(0,.xi 40 4 35 39),(0,.xd 41 4 40),(2,.d 10 (.alloc 49 #[(.string ⟨#[]⟩),(.int .i64 0),(.slice none 0 0),(.slice none 0 0)]))]]
def Zqo:List St:=[⟨.st 4 (.t 10) (.t 41),none,none,none⟩]
end Go.Proofs
end

