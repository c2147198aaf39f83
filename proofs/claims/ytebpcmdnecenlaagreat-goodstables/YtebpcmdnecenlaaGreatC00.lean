/- A part of the proof: lemmas that the last text uses. No conditions of its own. -/
import Derived.Test.YtebpcmdnecenlaaGreatProg
import Derived.KernelRfl
import Derived.Test.YtebpcmdnecenlaaGreatB02
set_option linter.unusedSimpArgs false
set_option linter.unusedVariables false
namespace Go.Proofs
open Go.TM
set_option maxRecDepth 100000
def Tryz.c3 : C := (.seq (.reg [.d 3 (.box 26 (.tmp 0)), .d 6 (.mv (.const (.bool false)))])
 (.seq (.seq (.reg [.d 11 (.ldn 3 (.tmp 3)), .d 12 (.call (.func 24) #[(.tmp 11)]), .m 13 12, .u 14 13 false (.mv (.tmp 2)), .u 15 13 false (.bsl 27 1 #[(.slice none 0 0)] [(0, 1, (.tmp 14))]), .u 16 13 false (.call (.func 25) #[(.tmp 15)]), .d 17 (.pick (.tmp 13) (.const (.bool true)) (.tmp 16))])
 (.ite (.tmp 17) (.seq (.reg [.d 18 (.call (.func 26) #[]), .m 6 18])
 .ret) .skip))
 (.seq (.reg [.d 20 (.ldn 3 (.tmp 3)), .m 21 1, .m 22 2, .d 23 (.call (.func 27) #[(.tmp 20), (.tmp 21), (.tmp 22)]), .m 19 23, .d 24 (.ext (.tmp 19) 0), .d 25 (.ext (.tmp 19) 1), .m 7 24, .m 8 25])
 (.seq (.reg [.d 27 (.ldn 3 (.tmp 3)), .m 28 1, .m 29 2, .d 30 (.call (.func 28) #[(.tmp 27), (.tmp 28), (.tmp 29)]), .m 26 30, .d 31 (.ext (.tmp 26) 0), .d 32 (.ext (.tmp 26) 1), .m 9 31, .m 10 32])
 (.seq (.drw [(0, .d 33 (.ldn 3 (.tmp 3))), (1, .d 34 (.call (.func 29) #[(.tmp 33)])), (0, .d 35 (.ldn 3 (.tmp 3))), (1, .d 36 (.call (.func 30) #[(.tmp 35)])), (0, .d 37 (.cmp .eql (.tmp 34) (.tmp 36))), (0, .m 38 37), (0, .u 39 38 true (.ldn 3 (.tmp 3))), (0, .u 40 38 true (.mv (.tmp 1))), (0, .u 41 38 true (.mv (.tmp 2))), (1, .u 42 38 true (.call (.func 31) #[(.tmp 39), (.tmp 40), (.tmp 41)])), (0, .u 43 38 true (.ldn 3 (.tmp 3))), (0, .u 44 38 true (.mv (.tmp 1))), (0, .u 45 38 true (.mv (.tmp 2))), (1, .u 46 38 true (.call (.func 32) #[(.tmp 43), (.tmp 44), (.tmp 45)])), (0, .u 47 38 true (.cmp .eql (.tmp 42) (.tmp 46))), (0, .d 48 (.pick (.tmp 38) (.tmp 47) (.const (.bool false)))), (0, .m 49 48), (0, .u 50 49 true (.mv (.tmp 7))), (0, .u 51 49 true (.mv (.tmp 9))), (1, .u 52 49 true (.call (.func 33) #[(.tmp 50), (.tmp 51)])), (0, .d 53 (.pick (.tmp 49) (.tmp 52) (.const (.bool false)))), (0, .m 54 53), (0, .u 55 54 true (.mv (.tmp 8))), (0, .u 56 54 true (.mv (.tmp 10)))] [.u 57 54 true (.cmp .eql (.tmp 55) (.tmp 56)), .d 58 (.pick (.tmp 54) (.tmp 57) (.const (.bool false))), .m 59 58, .u 60 59 true (.call (.func 26) #[]), .d 61 (.pick (.tmp 59) (.tmp 60) (.const (.bool false))), .m 6 61])
 .ret)))))
theorem Tryz.k3 : FnOk Tryz.prog 3 62 Tryz.c3 [.t 6] := .mk' [] [34, 36, 42, 46, 52, 60] Tryz.func3 rfl (by kernel_rfl) (by kernel_rfl) (by kernel_rfl) (by kernel_rfl)
def Tryz.c28 : C := (.seq (.reg [.d 3 (.box 26 (.tmp 0)), .d 6 (.mv (.const (.slice none 0 0))), .d 7 (.mv (.const (.int .i64 0)))])
 (.seq (.seq (.reg [.d 13 (.ldn 3 (.tmp 3)), .m 14 1, .m 15 2, .d 16 (.call (.func 32) #[(.tmp 13), (.tmp 14), (.tmp 15)]), .m 8 16])
 (.seq (.reg [.m 17 8, .d 18 (.cmp .neq (.tmp 17) (.const (.int .i64 0)))])
 (.ite (.tmp 18) (.seq (.reg [.m 19 8, .d 6 (.mv (.const (.slice none 0 0))), .m 7 19])
 .ret) .skip)))
 (.seq (.reg [.d 9 (.mv (.const (.slice none 0 0)))])
 (.seq (.seq (.reg [.d 10 (.mv (.const (.int .i64 1)))])
 (.block 0 (.loop (.seq (.seq (.reg [.m 20 10, .d 21 (.cmp .leq (.tmp 20) (.const (.int .i64 45)))])
 (.ite (.tmp 21) .skip (.exit 0)))
 (.seq (.block 1 (.seq (.reg [.d 11 (.mv (.const (.bool false)))])
 (.seq (.seq (.reg [.d 12 (.mv (.const (.int .i64 0)))])
 (.block 2 (.loop (.seq (.seq (.reg [.m 24 12, .m 25 2, .d 26 (.len (.tmp 25)), .d 27 (.cmp .lss (.tmp 24) (.tmp 26))])
 (.ite (.tmp 27) .skip (.exit 2)))
 (.seq (.block 3 (.drw [(0, .m 30 11), (0, .m 31 30), (0, .u 32 31 false (.off 0 (.tmp 3))), (0, .u 33 31 false (.ld (.tmp 32))), (0, .u 34 31 false (.mv (.tmp 1))), (0, .u 35 31 false (.idx 1 (.tmp 33) (.tmp 34))), (0, .u 36 31 false (.off 0 (.tmp 35))), (0, .u 37 31 false (.ld (.tmp 36))), (0, .u 38 31 false (.mv (.tmp 2))), (0, .u 39 31 false (.mv (.tmp 12))), (0, .u 40 31 false (.idx 1 (.tmp 38) (.tmp 39))), (0, .u 41 31 false (.ld (.tmp 40))), (0, .u 42 31 false (.idx 2 (.tmp 37) (.tmp 41))), (0, .u 43 31 false (.off 1 (.tmp 42))), (0, .u 44 31 false (.ld (.tmp 43))), (0, .u 45 31 false (.mv (.tmp 10)))] [.u 46 31 false (.cmp .eql (.tmp 44) (.tmp 45)), .d 47 (.pick (.tmp 31) (.const (.bool true)) (.tmp 46)), .m 11 47]))
 (.reg [.m 28 12, .d 29 (.add (.tmp 28) (.const (.int .i64 1))), .m 12 29]))))))
 (.seq (.reg [.m 48 11])
 (.ite (.tmp 48) (.reg [.m 49 9, .m 50 10, .d 51 (.bsl 3 1 #[(.int .i64 0)] [(0, 1, (.tmp 50))]), .d 52 (.raw { dst := none, op := (.call { callee := .builtin .append, args := #[(.tmp 49), (.tmp 51)], argTypes := #[27, 27] }), type := 27, pos := "", after := #[], guard := none }), .m 9 52]) .skip)))))
 (.reg [.m 22 10, .d 23 (.add (.tmp 22) (.const (.int .i64 1))), .m 10 23]))))))
 (.seq (.reg [.m 53 9, .m 6 53, .d 7 (.mv (.const (.int .i64 0)))])
 .ret)))))
theorem Tryz.k28 : FnOk Tryz.prog 28 54 Tryz.c28 [.t 6, .t 7] := .mk' [] [] Tryz.func28 rfl (by kernel_rfl) (by kernel_rfl) (by kernel_rfl) (by kernel_rfl)
end Go.Proofs
