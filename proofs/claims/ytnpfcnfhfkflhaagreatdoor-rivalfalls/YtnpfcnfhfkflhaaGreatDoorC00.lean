/- Lemmas of the proof. No conditions of their own. -/
import Derived.Test.YtnpfcnfhfkflhaaGreatDoorProg
import Derived.KernelRfl
import Derived.Test.YtnpfcnfhfkflhaaGreatDoorB01
set_option linter.all false
set_option maxRecDepth 100000
noncomputable section
namespace Go.Proofs
open Go.TM
def Qqa:C:=(.seq (.reg [.d 1 (.box 25 (.t 0)),.xb 2 false])
 (.seq (.seq (.reg [.xd 13 2 1,.d 14 (.call (.func 32) #[(.t 13)]),.xt 15 14])
 (.ite (.t 15) (.seq (.reg [.d 16 (.call (.func 20) #[]),.m 2 16])
 .ret) .skip))
 (.seq (.reg [.xd 18 2 1,.d 19 (.call (.func 26) #[(.t 18)]),.m 17 19,.xe 20 17 0,.xe 21 17 1,.xe 22 17 2,.m 3 20,.m 4 21,.m 5 22])
 (.seq (.seq (.reg [.m 23 5,.xk 24 .neq 23 0,.m 25 24,.ym 26 25 false 3,.yn 27 25 false 26,.yo 28 25 false 0 1,.yl 29 25 false 28,.yn 30 25 false 29,.u 31 25 false (.cmp .neq (.t 27) (.t 30)),.xq 32 25 31,.m 33 32,.ym 34 33 false 4,.yn 35 33 false 34,.yo 36 33 false 1 1,.yl 37 33 false 36,.yn 38 33 false 37,.u 39 33 false (.cmp .neq (.t 35) (.t 38)),.xq 40 33 39])
 (.ite (.t 40) (.seq (.reg [.xb 2 false])
 .ret) .skip))
 (.seq (.cd 173 (Zgm Tryz.f9 6))
 (.seq (.seq (.reg [.xv 8 0])
 (.block 0 (.loop (.seq (.seq (.reg [.m 47 8,.m 48 4,.xn 49 48,.xc 50 .lss 47 49])
 (.ite (.t 50) .skip (.exit 0)))
 (.seq (.block 1 (.seq (.reg [.xo 53 1 1,.xl 54 53,.m 55 8,.xi 56 4 54 55,.xd 57 4 56,⟨.alloc 49 #[(.string ⟨#[]⟩),(.int .i64 0),(.slice none 0 0),(.slice none 0 0)],some 9,none,none⟩,⟨.st 4 (.t 9) (.t 57),none,none,none⟩])
 (.seq (.reg [.xb 10 false])
 (.seq (.seq (.reg [.xv 11 0])
 (.block 2 (.loop (.seq (.seq (.reg [.m 58 11,.xo 59 2 9,.xl 60 59,.xn 61 60,.xc 62 .lss 58 61])
 (.ite (.t 62) .skip (.exit 2)))
 (.seq (.block 3 (.reg [.m 65 10,.m 66 65,.yo 67 66 false 2 9,.yl 68 66 false 67,.ym 69 66 false 11,.yi 70 66 false 1 68 69,.yl 71 66 false 70,.yn 72 66 false 71,.yk 73 66 false .eql 72 0,.xq 74 66 73,.m 10 74]))
 (.reg [.m 63 11,.xa 64 63,.m 11 64]))))))
 (.seq (.seq (.reg [.m 75 10,.m 76 75,.ym 77 76 true 4,.ym 78 76 true 8,.yi 79 76 true 1 77 78,.yl 80 76 true 79,.yk 81 76 true .neq 80 1,.xp 82 76 81,.m 83 82,.yo 84 83 false 2 9,.yl 85 83 false 84,.yn 86 83 false 85,.yk 87 83 false .eql 86 0,.ym 88 83 false 87,.ym 89 88 true 4,.ym 90 88 true 8,.yi 91 88 true 1 89 90,.yl 92 88 true 91,.yk 93 88 true .neq 92 2,.u 94 83 false (.pick (.t 88) (.t 93) (.cb false)),.xq 95 83 94])
 (.ite (.t 95) (.seq (.reg [.xb 2 false])
 .ret) .skip))
 (.seq (.drw [(0,.m 96 6),(0,.xo 97 1 9),(0,.xl 98 97),(0,.m 99 6),(0,.xo 100 1 9),(0,.xl 101 100),(0,.xi 102 1 99 101),(0,.xl 103 102),(0,.m 104 103),(0,.ym 105 104 false 4),(0,.ym 106 104 false 8),(0,.yi 107 104 false 1 105 106),(0,.yl 108 104 false 107),(0,.yk 109 104 false .eql 108 1),(0,.xq 110 104 109)] [.xi 111 1 96 98,⟨.st 1 (.t 111) (.t 110),none,none,none⟩])
 (.drw [(0,.m 112 7),(0,.xo 113 1 9),(0,.xl 114 113),(0,.m 115 7),(0,.xo 116 1 9),(0,.xl 117 116),(0,.xi 118 1 115 117),(0,.xl 119 118),(0,.m 120 119),(0,.ym 121 120 false 4),(0,.ym 122 120 false 8),(0,.yi 123 120 false 1 121 122),(0,.yl 124 120 false 123),(0,.yk 125 120 false .neq 124 2),(0,.xq 126 120 125)] [.xi 127 1 112 114,⟨.st 1 (.t 127) (.t 126),none,none,none⟩])))))))
 (.reg [.m 51 8,.xa 52 51,.m 8 52]))))))
 (.seq (.seq (.reg [.xv 12 0])
 (.block 4 (.loop (.seq (.seq (.reg [.m 128 12,.m 129 3,.xn 130 129,.xc 131 .lss 128 130])
 (.ite (.t 131) .skip (.exit 4)))
 (.seq (.block 5 (.seq (.reg [.m 134 6,.m 135 12,.xi 136 1 134 135,.xl 137 136,.m 138 137,.ym 139 138 true 3,.ym 140 138 true 12,.yi 141 138 true 1 139 140,.yl 142 138 true 141,.yk 143 138 true .neq 142 2,.xp 144 138 143,.m 145 144,.ym 146 145 false 7,.ym 147 145 false 12,.yi 148 145 false 1 146 147,.yl 149 145 false 148,.u 150 145 false (.not (.t 149)),.ym 151 145 false 150,.ym 152 151 true 3,.ym 153 151 true 12,.yi 154 151 true 1 152 153,.yl 155 151 true 154,.yk 156 151 true .neq 155 1,.u 157 145 false (.pick (.t 151) (.t 156) (.cb false)),.xq 158 145 157,.m 159 158,.ym 160 159 false 7,.ym 161 159 false 12,.yi 162 159 false 1 160 161,.yl 163 159 false 162,.ym 164 159 false 163,.ym 165 164 true 3,.ym 166 164 true 12,.yi 167 164 true 1 165 166,.yl 168 164 true 167,.yk 169 164 true .eql 168 1,.u 170 159 false (.pick (.t 164) (.t 169) (.cb false)),.xq 171 159 170])
 (.ite (.t 171) (.seq (.reg [.xb 2 false])
 .ret) .skip)))
 (.reg [.m 132 12,.xa 133 132,.m 12 133]))))))
 (.seq (.reg [.d 172 (.call (.func 20) #[]),.m 2 172])
 .ret))))))))
theorem Qvv:Zf Tryz.prog 9 173 Qqa [.t 2]:=.o [] [] Tryz.func9 (by kernel_rfl)
def Qek:List (List (Nat×St)):=[[(0,⟨.mv (.t 3),some 41,none,none⟩),(0,⟨.len (.t 41),some 42,none,none⟩),(0,⟨.mv (.t 3),some 44,none,none⟩),(0,⟨.len (.t 44),some 45,none,none⟩),(2,⟨.raw { dst:=none,op:=(.makeSlice 29 (.t 42) (.t 42)),type:=29,pos := "", after:=#[],guard:=none },some 43,none,none⟩),(0,⟨.mv (.t 43),some 6,none,none⟩),(2,⟨.raw { dst:=none,op:=(.makeSlice 29 (.t 45) (.t 45)),type:=29,pos := "", after:=#[],guard:=none },some 46,none,none⟩)],
 [(0,⟨.mv (.t 3),some 41,none,none⟩),(0,⟨.len (.t 41),some 42,none,none⟩),(0,⟨.mv (.t 3),some 44,none,none⟩),(0,⟨.len (.t 44),some 45,none,none⟩),(2,⟨.raw { dst:=none,op:=(.makeSlice 29 (.t 45) (.t 45)),type:=29,pos := "", after:=#[],guard:=none },some 46,none,none⟩),(2,⟨.raw { dst:=none,op:=(.makeSlice 29 (.t 42) (.t 42)),type:=29,pos := "", after:=#[],guard:=none },some 43,none,none⟩),(0,⟨.mv (.t 43),some 6,none,none⟩)]]
def Qlg:List St:=[⟨.mv (.t 46),some 7,none,none⟩]
end Go.Proofs
end
