/- Lemmas. No conditions. -/
import Derived.Test.YtajkaognaiglhaaGreatDoorProg
import Derived.Test.YtajkaognaiglhaaGreatDoorB01
set_option linter.all false
set_option maxRecDepth 100000
namespace Go.TM
open Go.Proofs
def Zgb:C:=(.sr [.d 2 (.box 25 (.t 0)),.d 4 (.alloc 25 #[.nl,.nl]),.xv 5 0]
 (.seq (.sr [.xd 11 2 2,.d 12 (.call (.func 36) #[(.t 11)]),.m 6 12]
 (.sr [.m 13 6,.xk 14 .neq 13 0]
 (.ite (.t 14) (.sr [.d 15 (.build #[.nl,.nl] []),.m 16 6,⟨.st 2 (.t 4) (.t 15),none,none,none⟩,.m 5 16]
 .ret) .skip)))
 (.sr [.xd 17 2 2,.d 18 (.build #[.nl,.nl] [(0,2,(.t 17))]),.d 19 (.call (.func 37) #[(.t 18)]),.d 7 (.alloc 64 #[.nl,.nl]),⟨.st 2 (.t 7) (.t 19),none,none,none⟩]
 (.seq (.sr [.m 20 1,.xn 21 20,.xv 22 0]
 (.block 0 (.loop (.sr [.xc 23 .lss 22 21]
 (.seq (.ite (.t 23) .skip (.exit 0))
 (.seq (.block 1 (.sr [.xi 24 2 20 22,.xd 25 2 24,.d 9 (.alloc 62 #[(.int .i64 0),(.int .i64 0)]),⟨.st 2 (.t 9) (.t 25),none,none,none⟩]
 (.seq (.block 2 (.sr [.xo 27 0 9,.xl 28 27,.xo 29 1 2,.xl 30 29,.xn 31 30,.d 32 (.sub (.t 31) (.ci 1)),.d 33 (.call (.func 38) #[(.t 28),(.ci 0),(.t 32)]),.xt 34 33,.m 35 34,.yo 36 35 false 1 9,.yl 37 35 false 36,.yo 38 35 false 1 2,.yl 39 35 false 38,.yn 40 35 false 39,.u 41 35 false (.sub (.t 40) (.ci 1)),.u 42 35 false (.call (.func 38) #[(.t 37),(.ci 0),(.t 41)]),.u 43 35 false (.not (.t 42)),.xq 44 35 43,.m 26 44]
 (.ite (.t 26) (.sr [.d 45 (.build #[.nl,.nl] []),⟨.st 2 (.t 4) (.t 45),none,none,none⟩,.xv 5 6]
 .ret) (.seq (.drw [(0,.xo 47 0 7),(0,.xo 48 1 47),(0,.xl 49 48),(0,.xo 50 0 9),(0,.xl 51 50),(0,.xi 52 4 49 51),(0,.xo 53 3 52),(0,.xl 54 53),(0,.xo 55 1 9),(0,.xl 56 55)] [.d 57 (.call (.func 39) #[(.t 54),(.t 56)]),.m 46 57])
 (.ite (.t 46) (.sr [.d 58 (.build #[.nl,.nl] []),⟨.st 2 (.t 4) (.t 58),none,none,none⟩,.xv 5 5]
 .ret) .skip)))))
 (.reg [.xd 59 2 7,.xd 60 2 9,.d 61 (.call (.func 40) #[(.t 59),(.t 60)])]))))
 (.reg [.xa 62 22,.m 22 62])))))))
 (.seq (.sr [.xd 63 2 7,.d 64 (.call (.func 41) #[(.t 63)]),.m 10 64]
 (.sr [.m 65 10,.xk 66 .neq 65 0]
 (.ite (.t 66) (.sr [.d 67 (.build #[.nl,.nl] []),.m 68 10,⟨.st 2 (.t 4) (.t 67),none,none,none⟩,.m 5 68]
 .ret) .skip)))
 (.sr [.xo 69 0 7,.xd 70 2 69,⟨.st 2 (.t 4) (.t 70),none,none,none⟩,.xv 5 0]
 .ret))))))
def Zey:Zg Tryz.prog 10 71 Zgb [.cn 4 2,.t 5]:=.o [] [57] Tryz.func10 K1
def Zho:C:=(.sr [.d 2 (.box 25 (.t 0)),.xs 4]
 (.sr [.xs 5]
 (.seq (.sr [.xv 6 0]
 (.block 0 (.loop (.seq (.sr [.m 7 6,.m 8 1,.d 9 (.call (.func 47) #[(.t 8),(.ci 20)]),.d 10 (.ar .rem (.t 9) (.ci 5)),.xc 11 .lss 7 10,.m 12 11,.yo 13 12 true 1 2,.yl 14 12 true 13,.yn 15 12 true 14,.yk 16 12 true .gtr 15 0,.xp 17 12 16]
 (.ite (.t 17) .skip (.exit 0)))
 (.seq (.block 1 (.drw [(0,.m 20 5),(0,.m 21 1),(0,.m 22 6),(0,.d 23 (.mul (.ci 2) (.t 22))),(0,.d 24 (.add (.ci 21) (.t 23))),(1,.d 25 (.call (.func 47) #[(.t 21),(.t 24)])),(0,.xo 26 1 2),(0,.xl 27 26),(0,.xn 28 27),(0,.d 29 (.ar .rem (.t 25) (.t 28))),(0,.m 30 1),(0,.m 31 6),(0,.d 32 (.mul (.ci 2) (.t 31))),(0,.d 33 (.add (.ci 22) (.t 32))),(1,.d 34 (.call (.func 47) #[(.t 30),(.t 33)])),(0,.xo 35 1 2),(0,.xl 36 35),(0,.xn 37 36),(0,.d 38 (.ar .rem (.t 34) (.t 37))),(0,.d 39 (.build #[(.int .i64 0),(.int .i64 0)] [(0,1,(.t 29)),(1,1,(.t 38))])),(2,.d 40 (.bsl 62 1 #[(.int .i64 0),(.int .i64 0)] [(0,2,(.t 39))]))] [.xz 41 20 40 26,.m 5 41]))
 (.reg [.m 18 6,.xa 19 18,.m 6 19]))))))
 (.sr [.m 42 5,.m 4 42]
 .ret))))
def Zhn:C:=(.sr [.d 2 (.box 25 (.t 0)),.xv 4 0,.xb 5 false]
 (.sr [.xd 10 2 2,.d 11 (.call (.func 19) #[(.t 10)]),.m 9 11,.xe 12 9 0,.xe 13 9 1,.xe 14 9 2,.m 6 12,.m 7 13,.m 8 14]
 (.seq (.sr [.m 15 8,.xk 16 .neq 15 0,.m 17 16,.ym 18 17 false 6,.yn 19 17 false 18,.yo 20 17 false 0 2,.yl 21 17 false 20,.yn 22 17 false 21,.u 23 17 false (.cmp .neq (.t 19) (.t 22)),.xq 24 17 23]
 (.ite (.t 24) (.sr [.xv 4 0,.xb 5 false]
 .ret) .skip))
 (.sr [.m 25 6,.m 26 1,.xi 27 1 25 26,.xl 28 27,.m 4 28,.xb 5 true]
 .ret))))
def Zhp:C:=(.sr [.xb 4 false]
 (.seq (.sr [.xv 5 0]
 (.block 0 (.loop (.seq (.sr [.m 6 5,.m 7 0,.xn 8 7,.xc 9 .lss 6 8,.m 10 9,.ym 11 10 true 5,.ym 12 10 true 1,.yn 13 10 true 12,.u 14 10 true (.cmp .lss (.t 11) (.t 13)),.xp 15 10 14]
 (.ite (.t 15) .skip (.exit 0)))
 (.seq (.block 1 (.seq (.seq (.drw [(0,.m 18 0),(0,.m 19 5),(0,.xi 20 2 18 19),(0,.xo 21 0 20),(0,.xl 22 21),(0,.m 23 1),(0,.m 24 5),(0,.xi 25 2 23 24),(0,.xo 26 0 25),(0,.xl 27 26)] [.xc 28 .neq 22 27])
 (.ite (.t 28) (.seq (.drw [(0,.m 29 0),(0,.m 30 5),(0,.xi 31 2 29 30),(0,.xo 32 0 31),(0,.xl 33 32),(0,.m 34 1),(0,.m 35 5),(0,.xi 36 2 34 35),(0,.xo 37 0 36),(0,.xl 38 37)] [.xc 39 .lss 33 38,.m 4 39])
 .ret) .skip))
 (.seq (.drw [(0,.m 40 0),(0,.m 41 5),(0,.xi 42 2 40 41),(0,.xo 43 1 42),(0,.xl 44 43),(0,.m 45 1),(0,.m 46 5),(0,.xi 47 2 45 46),(0,.xo 48 1 47),(0,.xl 49 48)] [.xc 50 .neq 44 49])
 (.ite (.t 50) (.seq (.drw [(0,.m 51 0),(0,.m 52 5),(0,.xi 53 2 51 52),(0,.xo 54 1 53),(0,.xl 55 54),(0,.m 56 1),(0,.m 57 5),(0,.xi 58 2 56 57),(0,.xo 59 1 58),(0,.xl 60 59)] [.xc 61 .lss 55 60,.m 4 61])
 .ret) .skip))))
 (.reg [.m 16 5,.xa 17 16,.m 5 17]))))))
 (.sr [.m 62 0,.xn 63 62,.m 64 1,.xn 65 64,.xc 66 .lss 63 65,.m 4 66]
 .ret)))
