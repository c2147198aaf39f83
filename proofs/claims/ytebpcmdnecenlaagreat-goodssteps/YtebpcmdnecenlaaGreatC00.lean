/- A part of the proof: lemmas that the last text uses. No conditions of its own. -/
import Derived.Test.YtebpcmdnecenlaaGreatProg
import Derived.KernelRfl
import Derived.Test.YtebpcmdnecenlaaGreatB02
set_option linter.unusedSimpArgs false
set_option linter.unusedVariables false
namespace Go.Proofs
open Go.TM
set_option maxRecDepth 100000
def Tryz.c11 : C := (.seq (.reg [.d 5 (.box 26 (.tmp 0)), .d 10 (.mv (.const (.bool false)))])
 (.seq (.seq (.reg [.d 29 (.ldn 3 (.tmp 5)), .d 30 (.call (.func 48) #[(.tmp 29)]), .d 31 (.not (.tmp 30))])
 (.ite (.tmp 31) (.seq (.reg [.d 32 (.call (.func 26) #[]), .m 10 32])
 .ret) .skip))
 (.seq (.drw [(0, .d 33 (.ldn 3 (.tmp 5))), (0, .m 34 1), (1, .d 35 (.call (.func 49) #[(.tmp 33), (.tmp 34)])), (0, .d 36 (.ldn 3 (.tmp 5))), (0, .m 37 2), (1, .d 38 (.call (.func 49) #[(.tmp 36), (.tmp 37)])), (0, .d 39 (.ldn 3 (.tmp 5))), (0, .m 40 3)] [.d 41 (.call (.func 49) #[(.tmp 39), (.tmp 40)]), .m 11 35, .m 12 38, .m 13 41])
 (.seq (.reg [.d 42 (.ldn 3 (.tmp 5)), .m 43 11, .m 44 4, .d 45 (.call (.func 50) #[(.tmp 42), (.tmp 43), (.tmp 44)]), .m 14 45])
 (.seq (.reg [.d 47 (.ldn 3 (.tmp 5)), .m 48 11, .m 49 11, .m 50 14, .d 51 (.call (.func 34) #[(.tmp 47), (.tmp 48), (.tmp 49), (.tmp 50)]), .m 46 51, .d 52 (.ext (.tmp 46) 0), .d 53 (.ext (.tmp 46) 1), .d 54 (.ext (.tmp 46) 2), .m 15 52, .m 16 53, .m 17 54])
 (.seq (.seq (.reg [.m 55 17, .d 56 (.cmp .neq (.tmp 55) (.const (.int .i64 0))), .m 57 56, .u 58 57 false (.mv (.tmp 15)), .u 59 57 false (.mv (.tmp 14)), .u 60 57 false (.call (.func 33) #[(.tmp 58), (.tmp 59)]), .u 61 57 false (.not (.tmp 60)), .d 62 (.pick (.tmp 57) (.const (.bool true)) (.tmp 61)), .m 63 62, .u 64 63 false (.mv (.tmp 16)), .u 65 63 false (.mv (.tmp 14)), .u 66 63 false (.call (.func 33) #[(.tmp 64), (.tmp 65)]), .u 67 63 false (.not (.tmp 66)), .d 68 (.pick (.tmp 63) (.const (.bool true)) (.tmp 67))])
 (.ite (.tmp 68) (.seq (.reg [.d 10 (.mv (.const (.bool false)))])
 .ret) .skip))
 (.seq (.seq (.reg [.m 69 12, .m 70 11, .m 71 13, .d 72 (.raw { dst := none, op := (.call { callee := .builtin .min, args := #[(.tmp 70), (.tmp 71)], argTypes := #[3, 3] }), type := 3, pos := "", after := #[], guard := none }), .d 73 (.cmp .lss (.tmp 69) (.tmp 72)), .m 74 73, .u 75 74 false (.mv (.tmp 12)), .u 76 74 false (.mv (.tmp 11)), .u 77 74 false (.mv (.tmp 13)), .u 78 74 false (.raw { dst := none, op := (.call { callee := .builtin .max, args := #[(.tmp 76), (.tmp 77)], argTypes := #[3, 3] }), type := 3, pos := "", after := #[], guard := none }), .u 79 74 false (.cmp .gtr (.tmp 75) (.tmp 78)), .d 80 (.pick (.tmp 74) (.const (.bool true)) (.tmp 79))])
 (.ite (.tmp 80) (.seq (.reg [.d 81 (.call (.func 26) #[]), .m 10 81])
 .ret) .skip))
 (.seq (.reg [.d 83 (.ldn 3 (.tmp 5)), .m 84 11, .m 85 13, .m 86 14, .d 87 (.call (.func 34) #[(.tmp 83), (.tmp 84), (.tmp 85), (.tmp 86)]), .m 82 87, .d 88 (.ext (.tmp 82) 0), .d 89 (.ext (.tmp 82) 1), .d 90 (.ext (.tmp 82) 2), .m 18 88, .m 19 89, .m 17 90])
 (.seq (.reg [.d 92 (.ldn 3 (.tmp 5)), .m 93 11, .m 94 12, .m 95 14, .d 96 (.call (.func 34) #[(.tmp 92), (.tmp 93), (.tmp 94), (.tmp 95)]), .m 91 96, .d 97 (.ext (.tmp 91) 0), .d 98 (.ext (.tmp 91) 1), .d 99 (.ext (.tmp 91) 2), .m 20 97, .m 21 98, .m 22 99])
 (.seq (.reg [.d 101 (.ldn 3 (.tmp 5)), .m 102 12, .m 103 13, .m 104 20, .d 105 (.call (.func 34) #[(.tmp 101), (.tmp 102), (.tmp 103), (.tmp 104)]), .m 100 105, .d 106 (.ext (.tmp 100) 0), .d 107 (.ext (.tmp 100) 1), .d 108 (.ext (.tmp 100) 2), .m 23 106, .m 24 107, .m 25 108])
 (.seq (.reg [.d 110 (.ldn 3 (.tmp 5)), .m 111 12, .m 112 13, .m 113 21, .d 114 (.call (.func 34) #[(.tmp 110), (.tmp 111), (.tmp 112), (.tmp 113)]), .m 109 114, .d 115 (.ext (.tmp 109) 0), .d 116 (.ext (.tmp 109) 1), .d 117 (.ext (.tmp 109) 2), .m 26 115, .m 27 116, .m 28 117])
 (.seq (.reg [.m 118 17, .d 119 (.cmp .eql (.tmp 118) (.const (.int .i64 0))), .m 120 119, .u 121 120 true (.mv (.tmp 22)), .u 122 120 true (.cmp .eql (.tmp 121) (.const (.int .i64 0))), .d 123 (.pick (.tmp 120) (.tmp 122) (.const (.bool false))), .m 124 123, .u 125 124 true (.mv (.tmp 25)), .u 126 124 true (.cmp .eql (.tmp 125) (.const (.int .i64 0))), .d 127 (.pick (.tmp 124) (.tmp 126) (.const (.bool false))), .m 128 127, .u 129 128 true (.mv (.tmp 28)), .u 130 128 true (.cmp .eql (.tmp 129) (.const (.int .i64 0))), .d 131 (.pick (.tmp 128) (.tmp 130) (.const (.bool false))), .m 132 131, .u 133 132 true (.mv (.tmp 18)), .u 134 132 true (.mv (.tmp 23)), .u 135 132 true (.call (.func 33) #[(.tmp 133), (.tmp 134)]), .d 136 (.pick (.tmp 132) (.tmp 135) (.const (.bool false))), .m 137 136, .u 138 137 true (.mv (.tmp 19)), .u 139 137 true (.mv (.tmp 27)), .u 140 137 true (.call (.func 33) #[(.tmp 138), (.tmp 139)]), .d 141 (.pick (.tmp 137) (.tmp 140) (.const (.bool false))), .m 142 141, .u 143 142 true (.call (.func 26) #[]), .d 144 (.pick (.tmp 142) (.tmp 143) (.const (.bool false))), .m 10 144])
 .ret))))))))))))
theorem Tryz.k11 : FnOk Tryz.prog 11 145 Tryz.c11 [.t 10] := .mk' [] [35, 38, 41] Tryz.func11 rfl (by kernel_rfl) (by kernel_rfl) (by kernel_rfl) (by kernel_rfl)
def Tryz.c48 : C := (.seq (.reg [.d 1 (.box 26 (.tmp 0)), .d 2 (.mv (.const (.bool false)))])
 (.seq (.reg [.d 3 (.ldn 3 (.tmp 1)), .d 4 (.call (.func 24) #[(.tmp 3)]), .d 5 (.not (.tmp 4)), .m 6 5, .u 7 6 true (.ldn 3 (.tmp 1)), .u 8 6 true (.call (.func 30) #[(.tmp 7)]), .u 9 6 true (.cmp .eql (.tmp 8) (.const (.int .i64 0))), .d 10 (.pick (.tmp 6) (.tmp 9) (.const (.bool false))), .m 2 10])
 .ret))
theorem Tryz.k48 : FnOk Tryz.prog 48 11 Tryz.c48 [.t 2] := .mk' [] [] Tryz.func48 rfl (by kernel_rfl) (by kernel_rfl) (by kernel_rfl) (by kernel_rfl)
def Tryz.c49 : C := (.seq (.reg [.d 2 (.box 26 (.tmp 0)), .d 4 (.mv (.const (.int .i64 0)))])
 (.seq (.reg [.m 5 1, .d 6 (.conv .i64 (.tmp 5)), .d 7 (.off 0 (.tmp 2)), .d 8 (.ld (.tmp 7)), .d 9 (.len (.tmp 8)), .d 10 (.ar .rem (.tmp 6) (.tmp 9)), .m 4 10])
 .ret))
theorem Tryz.k49 : FnOk Tryz.prog 49 11 Tryz.c49 [.t 4] := .mk' [] [] Tryz.func49 rfl (by kernel_rfl) (by kernel_rfl) (by kernel_rfl) (by kernel_rfl)
def Tryz.c50 : C := (.seq (.reg [.d 3 (.box 26 (.tmp 0)), .d 6 (.mv (.const (.slice none 0 0)))])
 (.seq (.reg [.d 7 (.mv (.const (.slice none 0 0)))])
 (.seq (.seq (.reg [.d 8 (.mv (.const (.int .i64 0)))])
 (.block 0 (.loop (.seq (.seq (.reg [.m 9 8, .d 10 (.off 0 (.tmp 3)), .d 11 (.ld (.tmp 10)), .m 12 1, .d 13 (.idx 1 (.tmp 11) (.tmp 12)), .d 14 (.off 0 (.tmp 13)), .d 15 (.ld (.tmp 14)), .d 16 (.len (.tmp 15)), .d 17 (.cmp .lss (.tmp 9) (.tmp 16))])
 (.ite (.tmp 17) .skip (.exit 0)))
 (.seq (.block 1 (.seq (.reg [.m 20 2, .m 21 8, .d 22 (.ar .shr (.tmp 20) (.tmp 21)), .d 23 (.ar .and (.tmp 22) (.const (.int .u8 1))), .d 24 (.cmp .eql (.tmp 23) (.const (.int .u8 1)))])
 (.ite (.tmp 24) (.reg [.m 25 7, .m 26 8, .d 27 (.bsl 3 1 #[(.int .i64 0)] [(0, 1, (.tmp 26))]), .d 28 (.raw { dst := none, op := (.call { callee := .builtin .append, args := #[(.tmp 25), (.tmp 27)], argTypes := #[27, 27] }), type := 27, pos := "", after := #[], guard := none }), .m 7 28]) .skip)))
 (.reg [.m 18 8, .d 19 (.add (.tmp 18) (.const (.int .i64 1))), .m 8 19]))))))
 (.seq (.reg [.m 29 7, .m 6 29])
 .ret))))
theorem Tryz.k50 : FnOk Tryz.prog 50 30 Tryz.c50 [.t 6] := .mk' [] [] Tryz.func50 rfl (by kernel_rfl) (by kernel_rfl) (by kernel_rfl) (by kernel_rfl)
end Go.Proofs
