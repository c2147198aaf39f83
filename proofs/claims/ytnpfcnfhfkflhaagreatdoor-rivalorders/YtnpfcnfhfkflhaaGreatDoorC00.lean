/- Lemmas of the proof. No conditions of their own. -/
import Derived.Test.YtnpfcnfhfkflhaaGreatDoorProg
import Derived.KernelRfl
import Derived.Test.YtnpfcnfhfkflhaaGreatDoorB01
set_option linter.all false
set_option maxRecDepth 100000
namespace Go.Proofs
open Go.TM
def Q4x:C:=(.seq (.reg [.d 2 (.box 25 (.t 0)),.xb 4 false])
 (.seq (.seq (.reg [.xd 11 2 2,.d 12 (.call (.func 19) #[(.t 11)]),.m 13 12,.ym 14 13 false 1,.yn 15 13 false 14,.yk 16 13 false .gtr 15 40,.xq 17 13 16])
 (.ite (.t 17) (.seq (.reg [.d 18 (.call (.func 20) #[]),.m 4 18])
 .ret) .skip))
 (.seq (.reg [.xd 20 2 2,.m 21 1,.d 22 (.call (.func 21) #[(.t 20),(.t 21)]),.m 19 22,.xe 23 19 0,.xe 24 19 1,.xe 25 19 2,.m 5 23,.m 6 24,.m 7 25])
 (.seq (.reg [.xd 27 2 2,.m 28 1,.d 29 (.call (.func 22) #[(.t 27),(.t 28)]),.m 26 29,.xe 30 26 0,.xe 31 26 1,.xe 32 26 2,.m 8 30,.m 9 31,.m 10 32])
 (.seq (.drw [(0,.xd 33 2 2),(1,.d 34 (.call (.func 23) #[(.t 33)])),(0,.xd 35 2 2),(1,.d 36 (.call (.func 24) #[(.t 35)])),(0,.xc 37 .eql 34 36),(0,.m 38 37),(0,.ym 39 38 true 5),(0,.ym 40 38 true 8),(1,.u 41 38 true (.call (.func 25) #[(.t 39),(.t 40)])),(0,.xp 42 38 41),(0,.m 43 42),(0,.ym 44 43 true 6),(0,.ym 45 43 true 9),(1,.u 46 43 true (.call (.func 25) #[(.t 44),(.t 45)])),(0,.xp 47 43 46),(0,.m 48 47),(0,.ym 49 48 true 7),(0,.ym 50 48 true 10)] [.u 51 48 true (.cmp .eql (.t 49) (.t 50)),.xp 52 48 51,.m 53 52,.u 54 53 true (.call (.func 20) #[]),.xp 55 53 54,.m 4 55])
 .ret)))))
theorem Q41:Zf Tryz.prog 3 56 Q4x [.t 4]:=.o [] [34,36,41,46,54] Tryz.func3 (by kernel_rfl)
end Go.Proofs
