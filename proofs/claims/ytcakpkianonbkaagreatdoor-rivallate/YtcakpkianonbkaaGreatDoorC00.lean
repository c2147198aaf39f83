/- Lemmas. No conditions. -/
import Derived.Test.YtcakpkianonbkaaGreatDoorProg
import Derived.KernelRfl
import Derived.Test.YtcakpkianonbkaaGreatDoorB01
set_option linter.all false
set_option maxRecDepth 100000
noncomputable section
namespace Go.Proofs
open Go.TM
noncomputable def Zf1:C:=(.seq (.reg [.d 7 (.box 31 (.t 0)),.xb 14 false])
 (.seq (.seq (.reg [.xd 29 15 7,.d 30 (.call (.func 5) #[(.t 29)]),.xt 31 30])
 (.ite (.t 31) (.seq (.reg [.d 32 (.call (.func 6) #[]),.m 14 32])
 .ret) .skip))
 (.seq (.reg [.m 33 5,.d 34 (.ar .rem (.t 33) (.const (.int .u8 3))),.d 35 (.conv .i64 (.t 34)),.m 15 35])
 (.seq (.reg [.m 36 1,.d 37 (.conv .i64 (.t 36)),.d 38 (.ar .rem (.t 37) (.ci 30000)),.m 16 38])
 (.seq (.reg [.xo 40 0 7,.xd 41 2 40,.m 42 16,.m 43 3,.d 44 (.conv .i64 (.t 43)),.d 45 (.ar .rem (.t 44) (.ci 60)),.m 46 15,.d 47 (.build #[(.int .i64 0),(.int .i64 0)] [(0,1,(.t 45)),(1,1,(.t 46))]),.d 48 (.call (.func 7) #[(.t 41),(.t 42),(.t 47)]),.m 39 48,.xe 49 39 0,.xe 50 39 1,.m 17 49,.m 18 50])
 (.seq (.reg [.xo 52 0 7,.xd 53 2 52,.m 54 16,.m 55 2,.d 56 (.conv .i64 (.t 55)),.d 57 (.ar .rem (.t 56) (.ci 100)),.d 58 (.add (.t 54) (.t 57)),.d 59 (.raw { dst:=none,op:=(.call { callee:=.builtin .min,args:=#[(.ci 36524),(.t 58)],argTypes:=#[3,3] }),type:=3,pos := "", after:=#[],guard:=none }),.m 60 3,.d 61 (.conv .i64 (.t 60)),.d 62 (.ar .rem (.t 61) (.ci 60)),.m 63 4,.d 64 (.conv .i64 (.t 63)),.d 65 (.ar .rem (.t 64) (.ci 20)),.d 66 (.add (.t 62) (.t 65)),.m 67 15,.d 68 (.build #[(.int .i64 0),(.int .i64 0)] [(0,1,(.t 66)),(1,1,(.t 67))]),.d 69 (.call (.func 7) #[(.t 53),(.t 59),(.t 68)]),.m 51 69,.xe 70 51 0,.xe 71 51 1,.m 19 70,.m 20 71])
 (.seq (.seq (.reg [.m 72 18,.xk 73 .neq 72 0,.m 74 73,.ym 75 74 false 20,.yk 76 74 false .neq 75 0,.xq 77 74 76,.m 78 77,.ym 79 78 false 19,.ym 80 78 false 17,.u 81 78 false (.cmp .lss (.t 79) (.t 80)),.xq 82 78 81])
 (.ite (.t 82) (.seq (.reg [.xb 14 false])
 .ret) .skip))
 (.seq (.reg [.xv 21 1])
 (.seq (.seq (.reg [.xv 22 0])
 (.block 0 (.loop (.seq (.seq (.reg [.m 83 22,.xk 84 .lss 83 2])
 (.ite (.t 84) .skip (.exit 0)))
 (.seq (.block 1 (.seq (.reg [⟨.bsl 9 1 #[(.string ⟨#[]⟩)] [(0,1,(.const (.string ⟨#[114,105,103,104,116]⟩)))],some 87,none,none⟩,.d 88 (.build #[(.slice none 0 0),(.slice none 0 0)] [(0,1,(.t 87))]),.d 23 (.alloc 43 #[(.slice none 0 0),(.slice none 0 0)]),⟨.st 2 (.t 23) (.t 88),none,none,none⟩])
 (.seq (.seq (.reg [.xv 24 0])
 (.block 2 (.loop (.seq (.seq (.reg [.m 89 24,.xk 90 .lss 89 5])
 (.ite (.t 90) .skip (.exit 2)))
 (.seq (.block 3 (.seq (.cd 167 (Zji Tryz.f3 17))
 (.ite (.t 105) (.drw [(0,.xo 106 1 23),(0,.xl 107 106),(0,.m 108 24),(1,⟨.call (.func 9) #[(.const (.string ⟨#[111,112,112]⟩)),(.t 108)],some 109,none,none⟩),(2,.d 110 (.bsl 22 1 #[(.slice none 0 0)] [(0,1,.cn)])),(0,⟨.build #[(.string ⟨#[]⟩),(.int .i64 0),(.slice none 0 0),(.slice none 0 0)] [(0,1,(.t 109)),(2,1,(.t 110))],some 111,none,none⟩),(2,.d 112 (.bsl 48 1 #[(.string ⟨#[]⟩),(.int .i64 0),(.slice none 0 0),(.slice none 0 0)] [(0,4,(.t 111))]))] [.xz 113 107 112 41,.xo 114 1 23,⟨.st 1 (.t 114) (.t 113),none,none,none⟩]) .skip)))
 (.reg [.m 91 24,.xa 92 91,.m 24 92]))))))
 (.seq (.cd 167 (Zji Tryz.f3 19))
 (.seq (.reg [.xd 121 2 23,.d 122 (.call (.func 11) #[(.t 121),(.ci 0)]),.m 120 122,.xe 123 120 0,.xe 124 120 1,.m 27 123,.m 28 124])
 (.seq (.seq (.reg [.m 125 28,.xk 126 .neq 125 0,.m 127 126,.ym 128 127 false 26,.u 129 127 false (.not (.t 128)),.xq 130 127 129,.m 131 130,.ym 132 131 false 25,.yk 133 131 false .eql 132 1,.yo 134 131 false 1 23,.yl 135 131 false 134,.yn 136 131 false 135,.yk 137 131 false .eql 136 0,.u 138 131 false (.beq .neq (.t 133) (.t 137)),.xq 139 131 138,.m 140 139,.ym 141 140 false 25,.yk 142 140 false .eql 141 2,.yo 143 140 false 1 23,.yl 144 140 false 143,.yn 145 140 false 144,.yk 146 140 false .gtr 145 0,.u 147 140 false (.beq .neq (.t 142) (.t 146)),.xq 148 140 147,.m 149 148,.ym 150 149 false 27,.yn 151 149 false 150,.yo 152 149 false 1 23,.yl 153 149 false 152,.yn 154 149 false 153,.u 155 149 false (.cmp .neq (.t 151) (.t 154)),.xq 156 149 155,.m 157 156,.ym 158 157 false 21,.yk 159 157 false .eql 158 2,.ym 160 157 false 159,.ym 161 160 true 25,.yk 162 160 true .neq 161 2,.u 163 157 false (.pick (.t 160) (.t 162) (.cb false)),.xq 164 157 163])
 (.ite (.t 164) (.seq (.reg [.xb 14 false])
 .ret) .skip))
 (.reg [.m 165 25,.m 21 165])))))))
 (.reg [.m 85 22,.xa 86 85,.m 22 86]))))))
 (.seq (.reg [.d 166 (.call (.func 6) #[]),.m 14 166])
 .ret))))))))))
def Zf5:Q5 Tryz.prog 3 167 Zf1 [.t 14]:=.o [1017,1019] [96,109] Tryz.func3 (by kernel_rfl)
end Go.Proofs
end
