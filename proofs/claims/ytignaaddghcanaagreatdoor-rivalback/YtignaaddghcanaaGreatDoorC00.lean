/- Lemmas. No conditions. -/
import Derived.Test.YtignaaddghcanaaGreatDoorProg
import Derived.Test.YtignaaddghcanaaGreatDoorB01
set_option linter.all false
set_option maxRecDepth 100000
namespace Go.TM
open Go.Proofs
def Zxj:C:=(.sr [.d 1 (.box 25 (.t 0)),.xb 2 false]
 (.seq (.sr [.xd 7 2 1,.d 8 (.call (.func 5) #[(.t 7)])]
 (.ite (.t 8) (.sr [.d 9 (.call (.func 6) #[]),.m 2 9]
 .ret) .skip))
 (.sr [.xd 11 2 1,.d 12 (.call (.func 7) #[(.t 11)]),.m 10 12,.xe 13 10 0,.xe 14 10 1,.m 3 13,.m 4 14]
 (.seq (.sr [.xd 15 2 1,.d 16 (.call (.func 12) #[(.t 15)]),.xk 17 .neq 16 0]
 (.ite (.t 17) (.sr [.m 18 4,.xk 19 .neq 18 0,.m 20 19,.ym 21 20 true 3,⟨.teq .eql (.t 21) (.const (.string ⟨#[]⟩)),some 22,some (20,true),none⟩,.xp 23 20 22,.m 24 23,.u 25 24 true (.call (.func 6) #[]),.xp 26 24 25,.m 2 26]
 .ret) .skip))
 (.seq (.sr [.m 27 4,.xk 28 .neq 27 0]
 (.ite (.t 28) (.sr [.xb 2 false]
 .ret) .skip))
 (.sr [.m 30 3,.d 31 (.call (.func 9) #[(.t 30)]),.m 29 31,.xe 32 29 0,.xe 33 29 1,.xe 34 29 2,.d 5 (.alloc 25 #[.nl,.nl]),⟨.st 2 (.t 5) (.t 32),none,none,none⟩,.m 6 33,.m 4 34]
 (.seq (.sr [.m 35 4,.xk 36 .neq 35 0,.m 37 36,.ym 38 37 false 6,.yk 39 37 false .neq 38 0,.xq 40 37 39,.m 41 40,.u 42 41 false (.ldn 2 (.t 5)),.u 43 41 false (.ldn 2 (.t 1)),.u 44 41 false (.call (.func 11) #[(.t 42),(.t 43)]),.u 45 41 false (.not (.t 44)),.xq 46 41 45]
 (.ite (.t 46) (.sr [.xb 2 false]
 .ret) .skip))
 (.seq (.sr [.m 47 3,.d 48 (.lenT (.t 47)),.xk 49 .eql 48 0]
 (.ite (.t 49) (.sr [.d 50 (.call (.func 6) #[]),.m 2 50]
 .ret) .skip))
 (.sr [.m 52 3,.m 53 3,.d 54 (.lenT (.t 53)),.d 55 (.sub (.t 54) (.ci 1)),.d 56 (.rw (.slice 9 (.t 52) none (some (.t 55)) none) 9),.d 57 (.call (.func 9) #[(.t 56)]),.m 51 57,.xe 58 51 0,.xe 59 51 1,.xe 60 51 2,⟨.st 2 (.t 5) (.t 58),none,none,none⟩,.m 6 59,.m 4 60]
 (.sr [.m 61 4,.xk 62 .eql 61 0,.m 63 62,.ym 64 63 true 6,.yk 65 63 true .eql 64 0,.xp 66 63 65,.m 67 66,.u 68 67 true (.ldn 2 (.t 5)),.u 69 67 true (.ldn 2 (.t 1)),.u 70 67 true (.call (.func 11) #[(.t 68),(.t 69)]),.xp 71 67 70,.m 72 71,.u 73 72 true (.call (.func 6) #[]),.xp 74 72 73,.m 2 74]
 .ret))))))))))
def Zxn:Zk Tryz.prog 4 75 Zxj [.t 2]:=.o [] [] Tryz.func4 K1
