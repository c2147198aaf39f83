/- A part of the proof: lemmas that the last text uses. No conditions of its own. -/
import Derived.Test.YtebpcmdnecenlaaGreatProg
import Derived.KernelRfl
import Derived.Test.YtebpcmdnecenlaaGreatB02
set_option linter.unusedSimpArgs false
set_option linter.unusedVariables false
namespace Go.Proofs
open Go.TM
set_option maxRecDepth 100000
def Tryz.c9 : C := (.seq (.reg [.d 5 (.box 26 (.tmp 0)), .d 10 (.mv (.const (.bool false)))])
 (.seq (.seq (.reg [.d 21 (.ldn 3 (.tmp 5)), .d 22 (.call (.func 48) #[(.tmp 21)]), .d 23 (.not (.tmp 22))])
 (.ite (.tmp 23) (.seq (.reg [.d 24 (.call (.func 26) #[]), .m 10 24])
 .ret) .skip))
 (.seq (.drw [(0, .d 25 (.ldn 3 (.tmp 5))), (0, .m 26 1), (1, .d 27 (.call (.func 49) #[(.tmp 25), (.tmp 26)])), (0, .d 28 (.ldn 3 (.tmp 5))), (0, .m 29 2)] [.d 30 (.call (.func 49) #[(.tmp 28), (.tmp 29)]), .m 11 27, .m 12 30])
 (.seq (.drw [(0, .d 31 (.ldn 3 (.tmp 5))), (0, .m 32 11), (0, .m 33 3), (0, .d 35 (.ldn 3 (.tmp 5))), (0, .m 36 11), (0, .m 37 3), (0, .m 38 4), (0, .d 39 (.ar .or (.tmp 37) (.tmp 38))), (2, .d 34 (.call (.func 50) #[(.tmp 31), (.tmp 32), (.tmp 33)]))] [.d 40 (.call (.func 50) #[(.tmp 35), (.tmp 36), (.tmp 39)]), .m 13 34, .m 14 40])
 (.seq (.reg [.d 42 (.ldn 3 (.tmp 5)), .m 43 11, .m 44 12, .m 45 13, .d 46 (.call (.func 34) #[(.tmp 42), (.tmp 43), (.tmp 44), (.tmp 45)]), .m 41 46, .d 47 (.ext (.tmp 41) 0), .d 48 (.ext (.tmp 41) 1), .d 49 (.ext (.tmp 41) 2), .m 15 47, .m 16 48, .m 17 49])
 (.seq (.reg [.d 51 (.ldn 3 (.tmp 5)), .m 52 11, .m 53 12, .m 54 14, .d 55 (.call (.func 34) #[(.tmp 51), (.tmp 52), (.tmp 53), (.tmp 54)]), .m 50 55, .d 56 (.ext (.tmp 50) 0), .d 57 (.ext (.tmp 50) 1), .d 58 (.ext (.tmp 50) 2), .m 18 56, .m 19 57, .m 20 58])
 (.seq (.seq (.reg [.m 59 17, .d 60 (.cmp .neq (.tmp 59) (.const (.int .i64 0))), .m 61 60, .u 62 61 false (.mv (.tmp 20)), .u 63 61 false (.cmp .neq (.tmp 62) (.const (.int .i64 0))), .d 64 (.pick (.tmp 61) (.const (.bool true)) (.tmp 63)), .m 65 64, .u 66 65 false (.mv (.tmp 15)), .u 67 65 false (.mv (.tmp 16)), .u 68 65 false (.call (.func 51) #[(.tmp 66), (.tmp 67)]), .u 69 65 false (.not (.tmp 68)), .d 70 (.pick (.tmp 65) (.const (.bool true)) (.tmp 69)), .m 71 70, .u 72 71 false (.mv (.tmp 18)), .u 73 71 false (.mv (.tmp 19)), .u 74 71 false (.call (.func 51) #[(.tmp 72), (.tmp 73)]), .u 75 71 false (.not (.tmp 74)), .d 76 (.pick (.tmp 71) (.const (.bool true)) (.tmp 75)), .m 77 76, .u 78 77 false (.mv (.tmp 15)), .u 79 77 false (.mv (.tmp 18)), .u 80 77 false (.call (.func 51) #[(.tmp 78), (.tmp 79)]), .u 81 77 false (.not (.tmp 80)), .d 82 (.pick (.tmp 77) (.const (.bool true)) (.tmp 81)), .m 83 82, .u 84 83 false (.mv (.tmp 16)), .u 85 83 false (.mv (.tmp 19)), .u 86 83 false (.call (.func 51) #[(.tmp 84), (.tmp 85)]), .u 87 83 false (.not (.tmp 86)), .d 88 (.pick (.tmp 83) (.const (.bool true)) (.tmp 87))])
 (.ite (.tmp 88) (.seq (.reg [.d 10 (.mv (.const (.bool false)))])
 .ret) .skip))
 (.seq (.reg [.d 89 (.ldn 3 (.tmp 5)), .m 90 12, .m 91 15, .d 92 (.call (.func 31) #[(.tmp 89), (.tmp 90), (.tmp 91)]), .d 93 (.cmp .eql (.tmp 92) (.const (.int .i64 0))), .m 94 93, .u 95 94 true (.ldn 3 (.tmp 5)), .u 96 94 true (.mv (.tmp 12)), .u 97 94 true (.mv (.tmp 19)), .u 98 94 true (.call (.func 31) #[(.tmp 95), (.tmp 96), (.tmp 97)]), .u 99 94 true (.cmp .eql (.tmp 98) (.const (.int .i64 0))), .d 100 (.pick (.tmp 94) (.tmp 99) (.const (.bool false))), .m 101 100, .u 102 101 true (.ldn 3 (.tmp 5)), .u 103 101 true (.mv (.tmp 12)), .u 104 101 true (.mv (.tmp 16)), .u 105 101 true (.call (.func 31) #[(.tmp 102), (.tmp 103), (.tmp 104)]), .u 106 101 true (.cmp .eql (.tmp 105) (.const (.int .i64 0))), .d 107 (.pick (.tmp 101) (.tmp 106) (.const (.bool false))), .m 108 107, .u 109 108 true (.ldn 3 (.tmp 5)), .u 110 108 true (.mv (.tmp 12)), .u 111 108 true (.mv (.tmp 18)), .u 112 108 true (.call (.func 31) #[(.tmp 109), (.tmp 110), (.tmp 111)]), .u 113 108 true (.cmp .eql (.tmp 112) (.const (.int .i64 0))), .d 114 (.pick (.tmp 108) (.tmp 113) (.const (.bool false))), .m 115 114, .u 116 115 true (.call (.func 26) #[]), .d 117 (.pick (.tmp 115) (.tmp 116) (.const (.bool false))), .m 10 117])
 .ret))))))))
theorem Tryz.k9 : FnOk Tryz.prog 9 118 Tryz.c9 [.t 10] := .mk' [] [27, 30] Tryz.func9 rfl (by kernel_rfl) (by kernel_rfl) (by kernel_rfl) (by kernel_rfl)
def Tryz.c48 : C := (.seq (.reg [.d 1 (.box 26 (.tmp 0)), .d 2 (.mv (.const (.bool false)))])
 (.seq (.reg [.d 3 (.ldn 3 (.tmp 1)), .d 4 (.call (.func 24) #[(.tmp 3)]), .d 5 (.not (.tmp 4)), .m 6 5, .u 7 6 true (.ldn 3 (.tmp 1)), .u 8 6 true (.call (.func 30) #[(.tmp 7)]), .u 9 6 true (.cmp .eql (.tmp 8) (.const (.int .i64 0))), .d 10 (.pick (.tmp 6) (.tmp 9) (.const (.bool false))), .m 2 10])
 .ret))
theorem Tryz.k48 : FnOk Tryz.prog 48 11 Tryz.c48 [.t 2] := .mk' [] [] Tryz.func48 rfl (by kernel_rfl) (by kernel_rfl) (by kernel_rfl) (by kernel_rfl)
def Tryz.c49 : C := (.seq (.reg [.d 2 (.box 26 (.tmp 0)), .d 4 (.mv (.const (.int .i64 0)))])
 (.seq (.reg [.m 5 1, .d 6 (.conv .i64 (.tmp 5)), .d 7 (.off 0 (.tmp 2)), .d 8 (.ld (.tmp 7)), .d 9 (.len (.tmp 8)), .d 10 (.ar .rem (.tmp 6) (.tmp 9)), .m 4 10])
 .ret))
theorem Tryz.k49 : FnOk Tryz.prog 49 11 Tryz.c49 [.t 4] := .mk' [] [] Tryz.func49 rfl (by kernel_rfl) (by kernel_rfl) (by kernel_rfl) (by kernel_rfl)
def Tryz.c50 : C := (.seq (.reg [.d 3 (.box 26 (.tmp 0)), .d 6 (.mv (.const (.slice none 0 0)))])
 (.seq (.reg [.d 7 (.mv (.const (.slice none 0 0)))])
 (.seq (.seq (.reg [.d 8 (.mv (.const (.int .i64 0)))])
 (.block 0 (.loop (.seq (.seq (.reg [.m 9 8, .d 10 (.off 0 (.tmp 3)), .d 11 (.ld (.tmp 10)), .m 12 1, .d 13 (.idx 1 (.tmp 11) (.tmp 12)), .d 14 (.off 0 (.tmp 13)), .d 15 (.ld (.tmp 14)), .d 16 (.len (.tmp 15)), .d 17 (.cmp .lss (.tmp 9) (.tmp 16))])
 (.ite (.tmp 17) .skip (.exit 0)))
 (.seq (.block 1 (.seq (.reg [.m 20 2, .m 21 8, .d 22 (.ar .shr (.tmp 20) (.tmp 21)), .d 23 (.ar .and (.tmp 22) (.const (.int .u8 1))), .d 24 (.cmp .eql (.tmp 23) (.const (.int .u8 1)))])
 (.ite (.tmp 24) (.reg [.m 25 7, .m 26 8, .d 27 (.bsl 3 1 #[(.int .i64 0)] [(0, 1, (.tmp 26))]), .d 28 (.raw { dst := none, op := (.call { callee := .builtin .append, args := #[(.tmp 25), (.tmp 27)], argTypes := #[27, 27] }), type := 27, pos := "", after := #[], guard := none }), .m 7 28]) .skip)))
 (.reg [.m 18 8, .d 19 (.add (.tmp 18) (.const (.int .i64 1))), .m 8 19]))))))
 (.seq (.reg [.m 29 7, .m 6 29])
 .ret))))
theorem Tryz.k50 : FnOk Tryz.prog 50 30 Tryz.c50 [.t 6] := .mk' [] [] Tryz.func50 rfl (by kernel_rfl) (by kernel_rfl) (by kernel_rfl) (by kernel_rfl)
def Tryz.c51 : C := (.seq (.reg [.d 4 (.mv (.const (.bool false)))])
 (.seq (.seq (.reg [.d 5 (.mv (.const (.int .i64 0)))])
 (.block 0 (.loop (.seq (.seq (.reg [.m 6 5, .m 7 0, .d 8 (.len (.tmp 7)), .d 9 (.cmp .lss (.tmp 6) (.tmp 8))])
 (.ite (.tmp 9) .skip (.exit 0)))
 (.seq (.block 1 (.seq (.reg [.m 12 1, .m 13 0, .m 14 5, .d 15 (.idx 1 (.tmp 13) (.tmp 14)), .d 16 (.ld (.tmp 15)), .d 17 (.call (.func 53) #[(.tmp 12), (.tmp 16)]), .d 18 (.not (.tmp 17))])
 (.ite (.tmp 18) (.seq (.reg [.d 4 (.mv (.const (.bool false)))])
 .ret) .skip)))
 (.reg [.m 10 5, .d 11 (.add (.tmp 10) (.const (.int .i64 1))), .m 5 11]))))))
 (.seq (.reg [.d 4 (.mv (.const (.bool true)))])
 .ret)))
theorem Tryz.k51 : FnOk Tryz.prog 51 19 Tryz.c51 [.t 4] := .mk' [] [] Tryz.func51 rfl (by kernel_rfl) (by kernel_rfl) (by kernel_rfl) (by kernel_rfl)
end Go.Proofs
