/- Lemmas of the proof. No conditions of their own. -/
import Derived.Test.YtnpfcnfhfkflhaaGreatDoorC00
set_option linter.all false
set_option maxRecDepth 100000
noncomputable section
namespace Go.Proofs
open Go.TM
def Zom:C:=(.seq (.reg [.xb 4 false])
 (.seq (.seq (.reg [.xv 5 0])
 (.block 0 (.loop (.seq (.seq (.reg [.m 6 5,.m 7 0,.xn 8 7,.xc 9 .lss 6 8])
 (.ite (.t 9) .skip (.exit 0)))
 (.seq (.block 1 (.seq (.reg [.m 12 1,.m 13 0,.m 14 5,.xi 15 1 13 14,.xl 16 15,.d 17 (.call (.func 38) #[(.t 12),(.t 16)]),.xt 18 17])
 (.ite (.t 18) (.seq (.reg [.xb 4 false])
 .ret) .skip)))
 (.reg [.m 10 5,.xa 11 10,.m 5 11]))))))
 (.seq (.reg [.xb 4 true])
 .ret)))
theorem Q4v:Zf Tryz.prog 127 19 Zom [.t 4]:=.o [] [] Tryz.func127 (by kernel_rfl)
def Zon:C:=(.seq (.reg [.d 2 (.box 49 (.t 0)),.xb 4 false])
 (.seq (.seq (.reg [.xv 5 0])
 (.block 0 (.loop (.seq (.seq (.reg [.m 8 5,.xo 9 2 2,.xl 10 9,.xn 11 10,.xc 12 .lss 8 11])
 (.ite (.t 12) .skip (.exit 0)))
 (.seq (.block 1 (.seq (.reg [.xb 6 true])
 (.seq (.seq (.reg [.xv 7 0])
 (.block 2 (.loop (.seq (.seq (.reg [.m 15 7,.xo 16 2 2,.xl 17 16,.m 18 5,.xi 19 1 17 18,.xl 20 19,.xn 21 20,.xc 22 .lss 15 21])
 (.ite (.t 22) .skip (.exit 2)))
 (.seq (.block 3 (.reg [.m 25 6,.m 26 25,.ym 27 26 true 1,.yo 28 26 true 2 2,.yl 29 26 true 28,.ym 30 26 true 5,.yi 31 26 true 1 29 30,.yl 32 26 true 31,.ym 33 26 true 7,.yi 34 26 true 1 32 33,.yl 35 26 true 34,.yi 36 26 true 1 27 35,.yl 37 26 true 36,.xp 38 26 37,.m 6 38]))
 (.reg [.m 23 7,.xa 24 23,.m 7 24]))))))
 (.seq (.reg [.m 39 6])
 (.ite (.t 39) (.seq (.reg [.xb 4 true])
 .ret) .skip)))))
 (.reg [.m 13 5,.xa 14 13,.m 5 14]))))))
 (.seq (.reg [.xb 4 false])
 .ret)))
theorem Q4w:Zf Tryz.prog 128 40 Zon [.t 4]:=.o [] [] Tryz.func128 (by kernel_rfl)
def Zpj:C:=(.seq (.reg [.d 2 (.box 25 (.t 0)),.xs 4,.xs 5])
 (.seq (.cd 57 (Zgm Tryz.f72 1))
 (.seq (.seq (.reg [.xv 8 0])
 (.block 0 (.loop (.seq (.seq (.reg [.m 19 8,.m 20 6,.xn 21 20,.xc 22 .lss 19 21])
 (.ite (.t 22) .skip (.exit 0)))
 (.seq (.block 1 (.reg [.m 25 6,.m 26 8,.xi 27 1 25 26,⟨.st 1 (.t 27) (.cb true),none,none,none⟩]))
 (.reg [.m 23 8,.xa 24 23,.m 8 24]))))))
 (.seq (.seq (.reg [.xv 9 0])
 (.block 2 (.loop (.seq (.seq (.reg [.m 28 9,.m 29 1,.xn 30 29,.xc 31 .lss 28 30])
 (.ite (.t 31) .skip (.exit 2)))
 (.seq (.block 3 (.seq (.cd 57 (Zgm Tryz.f72 9))
 (.seq (.reg [.xd 42 4 10,.m 43 6,.d 44 (.call (.func 128) #[(.t 42),(.t 43)])])
 (.ite (.t 44) (.seq (.reg [.m 45 7,.m 46 1,.m 47 9,.xi 48 1 46 47,.xl 49 48,.xi 50 1 45 49,⟨.st 1 (.t 50) (.cb true),none,none,none⟩])
 (.reg [.m 51 6,.xo 52 1 10,.xl 53 52,.xi 54 1 51 53,⟨.st 1 (.t 54) (.cb false),none,none,none⟩])) .skip))))
 (.reg [.m 32 9,.xa 33 32,.m 9 33]))))))
 (.seq (.reg [.m 55 6,.m 56 7,.m 4 55,.m 5 56])
 .ret)))))
theorem Q0h:Zf Tryz.prog 72 57 Zpj [.t 4,.t 5]:=.o [1009] [] Tryz.func72 (by kernel_rfl)
def Qp5:List (List (Nat×St)):=[[(0,⟨.off 0 (.t 2),some 11,none,none⟩),(0,⟨.ld (.t 11),some 12,none,none⟩),(0,⟨.len (.t 12),some 13,none,none⟩),(0,⟨.off 1 (.t 2),some 15,none,none⟩),(0,⟨.ld (.t 15),some 16,none,none⟩),(0,⟨.len (.t 16),some 17,none,none⟩),(2,⟨.raw { dst:=none,op:=(.makeSlice 29 (.t 13) (.t 13)),type:=29,pos := "", after:=#[],guard:=none },some 14,none,none⟩),(0,⟨.mv (.t 14),some 6,none,none⟩),(2,⟨.raw { dst:=none,op:=(.makeSlice 29 (.t 17) (.t 17)),type:=29,pos := "", after:=#[],guard:=none },some 18,none,none⟩)],
 [(0,⟨.off 0 (.t 2),some 11,none,none⟩),(0,⟨.ld (.t 11),some 12,none,none⟩),(0,⟨.len (.t 12),some 13,none,none⟩),(0,⟨.off 1 (.t 2),some 15,none,none⟩),(0,⟨.ld (.t 15),some 16,none,none⟩),(0,⟨.len (.t 16),some 17,none,none⟩),(2,⟨.raw { dst:=none,op:=(.makeSlice 29 (.t 17) (.t 17)),type:=29,pos := "", after:=#[],guard:=none },some 18,none,none⟩),(2,⟨.raw { dst:=none,op:=(.makeSlice 29 (.t 13) (.t 13)),type:=29,pos := "", after:=#[],guard:=none },some 14,none,none⟩),(0,⟨.mv (.t 14),some 6,none,none⟩)]]
def Zk5:List St:=[⟨.mv (.t 18),some 7,none,none⟩]
def Qqa:List (List (Nat×St)):=[[(0,⟨.off 1 (.t 2),some 34,none,none⟩),(0,⟨.ld (.t 34),some 35,none,none⟩),(0,⟨.mv (.t 1),some 36,none,none⟩),(0,⟨.mv (.t 9),some 37,none,none⟩),(0,⟨.idx 1 (.t 36) (.t 37),some 38,none,none⟩),(0,⟨.ld (.t 38),some 39,none,none⟩),(0,⟨.idx 4 (.t 35) (.t 39),some 40,none,none⟩),(0,⟨.ldn 4 (.t 40),some 41,none,none⟩),(2,⟨.alloc 49 #[(.string ⟨#[]⟩),(.int .i64 0),(.slice none 0 0),(.slice none 0 0)],some 10,none,none⟩)]]
def Zk8:List St:=[⟨.st 4 (.t 10) (.t 41),none,none,none⟩]
end Go.Proofs
end
