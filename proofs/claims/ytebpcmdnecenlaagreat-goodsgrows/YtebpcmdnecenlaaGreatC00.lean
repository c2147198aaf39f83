/- A part of the proof: lemmas that the last text uses. No conditions of its own. -/
import Derived.Test.YtebpcmdnecenlaaGreatProg
import Derived.KernelRfl
import Derived.Test.YtebpcmdnecenlaaGreatB02
set_option linter.unusedSimpArgs false
set_option linter.unusedVariables false
namespace Go.Proofs
open Go.TM
set_option maxRecDepth 100000
def Tryz.c14 : C := (.seq (.reg [.d 4 (.box 26 (.tmp 0)), .d 8 (.mv (.const (.bool false)))])
 (.seq (.seq (.reg [.d 17 (.ldn 3 (.tmp 4)), .d 18 (.call (.func 48) #[(.tmp 17)]), .d 19 (.not (.tmp 18))])
 (.ite (.tmp 19) (.seq (.reg [.d 20 (.call (.func 26) #[]), .m 8 20])
 .ret) .skip))
 (.seq (.reg [.d 21 (.ldn 3 (.tmp 4)), .m 22 1, .d 23 (.call (.func 49) #[(.tmp 21), (.tmp 22)]), .m 9 23])
 (.seq (.drw [(0, .d 24 (.ldn 3 (.tmp 4))), (0, .m 25 9), (0, .m 26 2), (0, .d 28 (.ldn 3 (.tmp 4))), (0, .m 29 9), (0, .m 30 3), (2, .d 27 (.call (.func 50) #[(.tmp 24), (.tmp 25), (.tmp 26)]))] [.d 31 (.call (.func 50) #[(.tmp 28), (.tmp 29), (.tmp 30)]), .m 10 27, .m 11 31])
 (.seq (.reg [.d 33 (.ldn 3 (.tmp 4)), .m 34 9, .m 35 10, .m 36 11, .d 37 (.call (.func 39) #[(.tmp 33), (.tmp 34), (.tmp 35), (.tmp 36)]), .m 32 37, .d 38 (.ext (.tmp 32) 0), .d 39 (.ext (.tmp 32) 1), .m 12 38, .m 13 39])
 (.seq (.reg [.d 41 (.ldn 3 (.tmp 4)), .m 42 9, .m 43 10, .m 44 11, .d 45 (.build #[(.slice none 0 0), (.bool false)] [(0, 1, (.tmp 44)), (1, 1, (.const (.bool true)))]), .d 46 (.bsl 74 1 #[(.slice none 0 0), (.bool false)] [(0, 2, (.tmp 45))]), .d 47 (.call (.func 37) #[(.tmp 41), (.tmp 42), (.tmp 43), (.tmp 46)]), .m 40 47, .d 48 (.ext (.tmp 40) 0), .d 49 (.ext (.tmp 40) 1), .m 14 48, .m 15 49])
 (.seq (.seq (.reg [.m 50 13, .d 51 (.cmp .neq (.tmp 50) (.const (.int .i64 0))), .m 52 51, .u 53 52 false (.mv (.tmp 15)), .u 54 52 false (.cmp .neq (.tmp 53) (.const (.int .i64 0))), .d 55 (.pick (.tmp 52) (.const (.bool true)) (.tmp 54)), .m 56 55, .u 57 56 false (.mv (.tmp 12)), .u 58 56 false (.cmp .eql (.tmp 57) (.const (.int .i64 (-1)))), .u 59 56 false (.mv (.tmp 14)), .u 60 56 false (.mv (.tmp 11)), .u 61 56 false (.call (.func 33) #[(.tmp 59), (.tmp 60)]), .u 62 56 false (.beq .neq (.tmp 58) (.tmp 61)), .d 63 (.pick (.tmp 56) (.const (.bool true)) (.tmp 62))])
 (.ite (.tmp 63) (.seq (.reg [.d 8 (.mv (.const (.bool false)))])
 .ret) .skip))
 (.seq (.seq (.reg [.m 64 12, .d 65 (.cmp .eql (.tmp 64) (.const (.int .i64 (-1))))])
 (.ite (.tmp 65) (.seq (.reg [.d 66 (.call (.func 26) #[]), .m 8 66])
 .ret) .skip))
 (.seq (.seq (.reg [.d 16 (.mv (.const (.int .i64 0)))])
 (.block 0 (.loop (.seq (.seq (.reg [.m 67 16, .m 68 11, .d 69 (.len (.tmp 68)), .d 70 (.cmp .lss (.tmp 67) (.tmp 69))])
 (.ite (.tmp 70) .skip (.exit 0)))
 (.seq (.block 1 (.seq (.reg [.m 73 11, .m 74 16, .d 75 (.idx 1 (.tmp 73) (.tmp 74)), .d 76 (.ld (.tmp 75)), .m 77 12, .d 78 (.cmp .lss (.tmp 76) (.tmp 77)), .m 79 78, .u 80 79 true (.mv (.tmp 10)), .u 81 79 true (.mv (.tmp 11)), .u 82 79 true (.mv (.tmp 16)), .u 83 79 true (.idx 1 (.tmp 81) (.tmp 82)), .u 84 79 true (.ld (.tmp 83)), .u 85 79 true (.call (.func 53) #[(.tmp 80), (.tmp 84)]), .u 86 79 true (.not (.tmp 85)), .d 87 (.pick (.tmp 79) (.tmp 86) (.const (.bool false)))])
 (.ite (.tmp 87) (.seq (.reg [.d 8 (.mv (.const (.bool false)))])
 .ret) .skip)))
 (.reg [.m 71 16, .d 72 (.add (.tmp 71) (.const (.int .i64 1))), .m 16 72]))))))
 (.seq (.reg [.m 88 11, .m 89 12, .d 90 (.call (.func 53) #[(.tmp 88), (.tmp 89)]), .m 91 90, .u 92 91 true (.mv (.tmp 10)), .u 93 91 true (.mv (.tmp 12)), .u 94 91 true (.call (.func 53) #[(.tmp 92), (.tmp 93)]), .u 95 91 true (.not (.tmp 94)), .d 96 (.pick (.tmp 91) (.tmp 95) (.const (.bool false))), .m 97 96, .u 98 97 true (.call (.func 26) #[]), .d 99 (.pick (.tmp 97) (.tmp 98) (.const (.bool false))), .m 8 99])
 .ret))))))))))
theorem Tryz.k14 : FnOk Tryz.prog 14 100 Tryz.c14 [.t 8] := .mk' [] [] Tryz.func14 rfl (by kernel_rfl) (by kernel_rfl) (by kernel_rfl) (by kernel_rfl)
def Tryz.c48 : C := (.seq (.reg [.d 1 (.box 26 (.tmp 0)), .d 2 (.mv (.const (.bool false)))])
 (.seq (.reg [.d 3 (.ldn 3 (.tmp 1)), .d 4 (.call (.func 24) #[(.tmp 3)]), .d 5 (.not (.tmp 4)), .m 6 5, .u 7 6 true (.ldn 3 (.tmp 1)), .u 8 6 true (.call (.func 30) #[(.tmp 7)]), .u 9 6 true (.cmp .eql (.tmp 8) (.const (.int .i64 0))), .d 10 (.pick (.tmp 6) (.tmp 9) (.const (.bool false))), .m 2 10])
 .ret))
theorem Tryz.k48 : FnOk Tryz.prog 48 11 Tryz.c48 [.t 2] := .mk' [] [] Tryz.func48 rfl (by kernel_rfl) (by kernel_rfl) (by kernel_rfl) (by kernel_rfl)
def Tryz.c49 : C := (.seq (.reg [.d 2 (.box 26 (.tmp 0)), .d 4 (.mv (.const (.int .i64 0)))])
 (.seq (.reg [.m 5 1, .d 6 (.conv .i64 (.tmp 5)), .d 7 (.off 0 (.tmp 2)), .d 8 (.ld (.tmp 7)), .d 9 (.len (.tmp 8)), .d 10 (.ar .rem (.tmp 6) (.tmp 9)), .m 4 10])
 .ret))
theorem Tryz.k49 : FnOk Tryz.prog 49 11 Tryz.c49 [.t 4] := .mk' [] [] Tryz.func49 rfl (by kernel_rfl) (by kernel_rfl) (by kernel_rfl) (by kernel_rfl)
def Tryz.c50 : C := (.seq (.reg [.d 3 (.box 26 (.tmp 0)), .d 6 (.mv (.const (.slice none 0 0)))])
 (.seq (.reg [.d 7 (.mv (.const (.slice none 0 0)))])
 (.seq (.seq (.reg [.d 8 (.mv (.const (.int .i64 0)))])
 (.block 0 (.loop (.seq (.seq (.reg [.m 9 8, .d 10 (.off 0 (.tmp 3)), .d 11 (.ld (.tmp 10)), .m 12 1, .d 13 (.idx 1 (.tmp 11) (.tmp 12)), .d 14 (.off 0 (.tmp 13)), .d 15 (.ld (.tmp 14)), .d 16 (.len (.tmp 15)), .d 17 (.cmp .lss (.tmp 9) (.tmp 16))])
 (.ite (.tmp 17) .skip (.exit 0)))
 (.seq (.block 1 (.seq (.reg [.m 20 2, .m 21 8, .d 22 (.ar .shr (.tmp 20) (.tmp 21)), .d 23 (.ar .and (.tmp 22) (.const (.int .u8 1))), .d 24 (.cmp .eql (.tmp 23) (.const (.int .u8 1)))])
 (.ite (.tmp 24) (.reg [.m 25 7, .m 26 8, .d 27 (.bsl 3 1 #[(.int .i64 0)] [(0, 1, (.tmp 26))]), .d 28 (.raw { dst := none, op := (.call { callee := .builtin .append, args := #[(.tmp 25), (.tmp 27)], argTypes := #[27, 27] }), type := 27, pos := "", after := #[], guard := none }), .m 7 28]) .skip)))
 (.reg [.m 18 8, .d 19 (.add (.tmp 18) (.const (.int .i64 1))), .m 8 19]))))))
 (.seq (.reg [.m 29 7, .m 6 29])
 .ret))))
theorem Tryz.k50 : FnOk Tryz.prog 50 30 Tryz.c50 [.t 6] := .mk' [] [] Tryz.func50 rfl (by kernel_rfl) (by kernel_rfl) (by kernel_rfl) (by kernel_rfl)
end Go.Proofs
