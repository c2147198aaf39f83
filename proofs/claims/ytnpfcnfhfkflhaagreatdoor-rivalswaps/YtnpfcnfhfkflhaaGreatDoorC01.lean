/- Lemmas of the proof. No conditions of their own. -/
import Derived.Test.YtnpfcnfhfkflhaaGreatDoorC00
set_option linter.all false
set_option maxRecDepth 100000
namespace Go.Proofs
open Go.TM
def Q4z:C:=(.seq (.reg [.d 3 (.box 25 (.t 0)),.xb 6 false])
 (.seq (.seq (.reg [.xd 16 2 3,.d 17 (.call (.func 32) #[(.t 16)]),.xt 18 17,.m 19 18,.yo 20 19 false 1 3,.yl 21 19 false 20,.yn 22 19 false 21,.yk 23 19 false .lss 22 2,.xq 24 19 23])
 (.ite (.t 24) (.seq (.reg [.d 25 (.call (.func 20) #[]),.m 6 25])
 .ret) .skip))
 (.seq (.reg [.xd 26 2 3,.m 27 2,.d 28 (.call (.func 33) #[(.t 26),(.t 27)]),.m 7 28])
 (.seq (.reg [.m 29 1,.d 30 (.conv .i64 (.t 29)),.m 31 7,.xn 32 31,.d 33 (.sub (.t 32) (.ci 1)),.d 34 (.ar .rem (.t 30) (.t 33)),.m 8 34])
 (.seq (.seq (.drw [(0,.xd 35 2 3),(0,.m 36 7),(0,.m 37 8),(0,.xi 38 1 36 37),(0,.xl 39 38),(0,.m 40 7),(0,.m 41 8),(0,.xa 42 41),(0,.xi 43 1 40 42),(0,.xl 44 43)] [.d 45 (.call (.func 37) #[(.t 35),(.t 39),(.t 44)]),.xt 46 45])
 (.ite (.t 46) (.seq (.reg [.d 47 (.call (.func 20) #[]),.m 6 47])
 .ret) .skip))
 (.seq (.reg [.d 48 (.bsl 3 0 #[] []),.m 49 7,.d 50 (.raw { dst:=none,op:=(.call { callee:=.builtin .append,args:=#[(.t 48),(.t 49)],argTypes:=#[26,26] }),type:=26,pos := "", after:=#[],guard:=none }),.m 9 50])
 (.seq (.drs [(0,.m 51 9),(0,.m 52 8),(0,.m 53 9),(0,.m 54 8),(0,.xa 55 54),(0,.m 56 7),(0,.m 57 8),(0,.xa 58 57),(0,.xi 59 1 56 58),(0,.xl 60 59),(0,.m 61 7),(0,.m 62 8),(0,.xi 63 1 61 62),(0,.xl 64 63),(0,.xi 65 1 51 52)] ⟨.st 1 (.t 65) (.t 60),none,none,none⟩ [.xi 66 1 53 55,⟨.st 1 (.t 66) (.t 64),none,none,none⟩])
 (.seq (.reg [.xd 68 2 3,.m 69 7,.d 70 (.call (.func 21) #[(.t 68),(.t 69)]),.m 67 70,.xe 71 67 0,.xe 72 67 1,.xe 73 67 2,.m 10 71,.m 11 72,.m 12 73])
 (.seq (.reg [.xd 75 2 3,.m 76 9,.d 77 (.call (.func 21) #[(.t 75),(.t 76)]),.m 74 77,.xe 78 74 0,.xe 79 74 1,.xe 80 74 2,.m 13 78,.m 14 79,.m 15 80])
 (.seq (.reg [.m 81 12,.xk 82 .eql 81 0,.m 83 82,.ym 84 83 true 15,.yk 85 83 true .eql 84 0,.xp 86 83 85,.m 87 86,.ym 88 87 true 10,.ym 89 87 true 13,.u 90 87 true (.call (.func 25) #[(.t 88),(.t 89)]),.xp 91 87 90,.m 92 91,.ym 93 92 true 11,.ym 94 92 true 14,.u 95 92 true (.call (.func 25) #[(.t 93),(.t 94)]),.xp 96 92 95,.m 97 96,.u 98 97 true (.call (.func 20) #[]),.xp 99 97 98,.m 6 99])
 .ret))))))))))
theorem Q41:Zf Tryz.prog 7 100 Q4z [.t 6]:=.o [] [45] Tryz.func7 (by kernel_rfl)
end Go.Proofs
