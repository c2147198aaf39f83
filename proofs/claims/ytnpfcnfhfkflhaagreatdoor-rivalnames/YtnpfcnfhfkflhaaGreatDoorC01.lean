/- Lemmas of the proof. No conditions of their own. -/
import Derived.Test.YtnpfcnfhfkflhaaGreatDoorC00
set_option linter.all false
set_option maxRecDepth 100000
noncomputable section
namespace Go.Proofs
open Go.TM
def Qvv:C:=(.seq (.reg [.d 2 (.box 25 (.t 0)),.xb 4 false])
 (.seq (.seq (.reg [.xd 18 2 2,.d 19 (.call (.func 32) #[(.t 18)]),.xt 20 19,.m 21 20,.yo 22 21 false 1 2,.yl 23 21 false 22,.yn 24 21 false 23,.yk 25 21 false .eql 24 0,.xq 26 21 25])
 (.ite (.t 26) (.seq (.reg [.d 27 (.call (.func 20) #[]),.m 4 27])
 .ret) .skip))
 (.seq (.reg [.xo 28 1 2,.xl 29 28,.xn 30 29,.m 5 30])
 (.seq (.reg [.m 31 1,.d 32 (.conv .i64 (.t 31)),.m 33 5,.d 34 (.ar .rem (.t 32) (.t 33)),.m 6 34])
 (.seq (.reg [.xd 35 2 2,.d 7 (.alloc 25 #[(.slice none 0 0),(.slice none 0 0)]),⟨.st 2 (.t 7) (.t 35),none,none,none⟩])
 (.seq (.cd 135 (Zgm Tryz.f8 6))
 (.seq (.seq (.reg [.xv 8 0])
 (.block 0 (.loop (.seq (.seq (.reg [.m 48 8,.m 49 5,.xc 50 .lss 48 49])
 (.ite (.t 50) .skip (.exit 0)))
 (.seq (.block 1 (.seq (.reg [.xs 9])
 (.seq (.seq (.reg [.xv 10 0])
 (.block 2 (.loop (.seq (.seq (.reg [.m 53 10,.m 54 5,.xc 55 .lss 53 54])
 (.ite (.t 55) .skip (.exit 2)))
 (.seq (.block 3 (.seq (.drw [(0,.xo 58 1 7),(0,.xl 59 58),(0,.m 60 8),(0,.xi 61 4 59 60),(0,.xo 62 3 61),(0,.xl 63 62),(0,.m 64 10),(0,.m 65 6),(0,.d 66 (.add (.t 64) (.t 65))),(0,.m 67 5),(0,.d 68 (.ar .rem (.t 66) (.t 67)))] [.d 69 (.call (.func 38) #[(.t 63),(.t 68)])])
 (.ite (.t 69) (.reg [.m 70 9,.m 71 10,.d 72 (.bsl 3 1 #[(.int .i64 0)] [(0,1,(.t 71))]),.d 73 (.raw { dst:=none,op:=(.call { callee:=.builtin .append,args:=#[(.t 70),(.t 72)],argTypes:=#[26,26] }),type:=26,pos := "", after:=#[],guard:=none }),.m 9 73]) .skip)))
 (.reg [.m 56 10,.xa 57 56,.m 10 57]))))))
 (.reg [.xo 74 1 7,.xl 75 74,.m 76 8,.m 77 9,.xi 78 4 75 76,.xo 79 3 78,⟨.st 1 (.t 79) (.t 77),none,none,none⟩]))))
 (.reg [.m 51 8,.xa 52 51,.m 8 52]))))))
 (.seq (.reg [.xd 81 2 2,.d 82 (.call (.func 26) #[(.t 81)]),.m 80 82,.xe 83 80 0,.xe 84 80 1,.xe 85 80 2,.m 11 83,.m 12 84,.m 13 85])
 (.seq (.reg [.xd 87 2 7,.d 88 (.call (.func 26) #[(.t 87)]),.m 86 88,.xe 89 86 0,.xe 90 86 1,.xe 91 86 2,.m 14 89,.m 15 90,.m 16 91])
 (.seq (.seq (.reg [.m 92 13,.xk 93 .neq 92 0,.m 94 93,.ym 95 94 false 16,.yk 96 94 false .neq 95 0,.xq 97 94 96,.m 98 97,.ym 99 98 false 11,.ym 100 98 false 14,.u 101 98 false (.call (.func 28) #[(.t 99),(.t 100)]),.u 102 98 false (.not (.t 101)),.xq 103 98 102,.m 104 103,.ym 105 104 false 15,.yn 106 104 false 105,.ym 107 104 false 5,.u 108 104 false (.cmp .neq (.t 106) (.t 107)),.xq 109 104 108,.m 110 109,.ym 111 110 false 12,.yn 112 110 false 111,.ym 113 110 false 5,.u 114 110 false (.cmp .neq (.t 112) (.t 113)),.xq 115 110 114])
 (.ite (.t 115) (.seq (.reg [.xb 4 false])
 .ret) .skip))
 (.seq (.seq (.reg [.xv 17 0])
 (.block 4 (.loop (.seq (.seq (.reg [.m 116 17,.m 117 5,.xc 118 .lss 116 117])
 (.ite (.t 118) .skip (.exit 4)))
 (.seq (.block 5 (.seq (.drw [(0,.m 121 15),(0,.m 122 17),(0,.xi 123 1 121 122),(0,.xl 124 123),(0,.m 125 12),(0,.m 126 17),(0,.m 127 6),(0,.d 128 (.add (.t 126) (.t 127))),(0,.m 129 5),(0,.d 130 (.ar .rem (.t 128) (.t 129))),(0,.xi 131 1 125 130),(0,.xl 132 131)] [.xc 133 .neq 124 132])
 (.ite (.t 133) (.seq (.reg [.xb 4 false])
 .ret) .skip)))
 (.reg [.m 119 17,.xa 120 119,.m 17 120]))))))
 (.seq (.reg [.d 134 (.call (.func 20) #[]),.m 4 134])
 .ret))))))))))))
theorem Qvy:Zf Tryz.prog 8 135 Qvv [.t 4]:=.o [1006] [69] Tryz.func8 (by kernel_rfl)
end Go.Proofs
end
