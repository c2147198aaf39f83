/- Lemmas of the proof. No conditions of their own. -/
import Derived.Test.YtnpfcnfhfkflhaaGreatDoorC00
set_option linter.all false
set_option maxRecDepth 100000
noncomputable section
namespace Go.Proofs
open Go.TM
def Zcx:C:=(.seq (.reg [.d 3 (.box 25 (.t 0)),.xb 6 false])
 (.seq (.seq (.reg [.xd 16 2 3,.d 17 (.call (.func 32) #[(.t 16)]),.xt 18 17,.m 19 18,.yo 20 19 false 0 3,.yl 21 19 false 20,.yn 22 19 false 21,.yk 23 19 false .eql 22 0,.xq 24 19 23])
 (.ite (.t 24) (.seq (.reg [.d 25 (.call (.func 20) #[]),.m 6 25])
 .ret) .skip))
 (.seq (.reg [.m 26 1,.d 27 (.conv .i64 (.t 26)),.xo 28 0 3,.xl 29 28,.xn 30 29,.d 31 (.ar .rem (.t 27) (.t 30)),.m 7 31])
 (.seq (.reg [.xd 33 2 3,.m 34 7,.d 35 (.call (.func 39) #[(.t 33),(.t 34)]),.m 32 35,.xe 36 32 0,.xe 37 32 1,.m 8 36,.m 9 37])
 (.seq (.reg [.xd 39 2 3,.m 40 8,.m 41 7,.d 42 (.call (.func 46) #[(.t 39),(.t 40),(.t 41)]),.m 38 42,.xe 43 38 0,.xe 44 38 1,.m 10 43,.m 11 44])
 (.seq (.seq (.reg [.m 45 9,.xk 46 .neq 45 0,.m 47 46,.ym 48 47 false 11,.u 49 47 false (.not (.t 48)),.xq 50 47 49,.m 51 50,.ym 52 51 false 10,.yk 53 51 false .neq 52 1,.xq 54 51 53])
 (.ite (.t 54) (.seq (.reg [.xb 6 false])
 .ret) .skip))
 (.seq (.reg [.xd 55 2 3,.m 56 2,.d 57 (.call (.func 47) #[(.t 55),(.t 56)]),.m 12 57])
 (.seq (.reg [.xd 59 2 3,.m 60 12,.m 61 7,.d 62 (.call (.func 46) #[(.t 59),(.t 60),(.t 61)]),.m 58 62,.xe 63 58 0,.xe 64 58 1,.m 10 63,.m 11 64])
 (.seq (.seq (.reg [.m 65 11,.xt 66 65,.m 67 66,.ym 68 67 false 10,.yk 69 67 false .eql 68 1,.ym 70 67 false 69,.ym 71 70 true 12,.ym 72 70 true 8,.u 73 70 true (.call (.func 48) #[(.t 71),(.t 72)]),.u 74 67 false (.pick (.t 70) (.t 73) (.cb false)),.xq 75 67 74])
 (.ite (.t 75) (.seq (.reg [.xb 6 false])
 .ret) .skip))
 (.seq (.reg [.xv 13 0])
 (.seq (.seq (.reg [.xv 14 0])
 (.block 0 (.loop (.seq (.seq (.reg [.m 76 14,.xo 77 1 3,.xl 78 77,.xn 79 78,.xc 80 .lss 76 79])
 (.ite (.t 80) .skip (.exit 0)))
 (.seq (.block 1 (.seq (.reg [.xo 83 1 3,.xl 84 83,.m 85 14,.xi 86 4 84 85,.xo 87 1 86,.xl 88 87,.m 89 7,.xc 90 .eql 88 89])
 (.ite (.t 90) (.reg [.m 91 13,.xa 92 91,.m 13 92]) .skip)))
 (.reg [.m 81 14,.xa 82 81,.m 14 82]))))))
 (.seq (.seq (.reg [.m 93 8,.xn 94 93,.m 95 13,.xc 96 .gtr 94 95])
 (.ite (.t 96) (.seq (.reg [.xb 6 false])
 .ret) .skip))
 (.seq (.seq (.reg [.xv 15 0])
 (.block 2 (.loop (.seq (.seq (.reg [.m 97 15,.m 98 8,.xn 99 98,.xc 100 .lss 97 99])
 (.ite (.t 100) .skip (.exit 2)))
 (.seq (.block 3 (.seq (.cd 126 (Zgm Tryz.f11 23))
 (.seq (.reg [.m 119 11,.xt 120 119,.m 121 120,.ym 122 121 false 10,.yk 123 121 false .eql 122 1,.xq 124 121 123])
 (.ite (.t 124) (.seq (.reg [.xb 6 false])
 .ret) .skip))))
 (.reg [.m 101 15,.xa 102 101,.m 15 102]))))))
 (.seq (.reg [.d 125 (.call (.func 20) #[]),.m 6 125])
 .ret))))))))))))))
theorem Zk8:Zf Tryz.prog 11 126 Zcx [.t 6]:=.o [1023] [] Tryz.func11 (by kernel_rfl)
end Go.Proofs
end
