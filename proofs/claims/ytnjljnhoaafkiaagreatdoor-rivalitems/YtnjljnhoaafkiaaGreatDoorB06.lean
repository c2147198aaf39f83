/- Lemmas. No conditions. -/
import Derived.Test.YtnjljnhoaafkiaaGreatDoorProg
import Derived.Test.YtnjljnhoaafkiaaGreatDoorB01
set_option linter.all false
set_option maxRecDepth 100000
namespace Go.Proofs
open Go.TM
def km:C:=(.seq (.reg [.d 4 (.mv (.const (.string ⟨#[]⟩)))])
 (.seq (.reg [.m 5 0,.m 6 1,.d 7 (.call (.func 29) #[(.t 6)]),.d 8 (.raw { dst:=none,op:=(.binOp .add 9 (.t 5) (.t 7) 9),type:=9,pos := "", after:=#[],guard:=none }),.m 4 8])
 .ret))
def ko:Zl Tryz.prog 9 9 km [.t 4]:=.o [] [] Tryz.func9 K1
def gP:C:=(.seq (.reg [.d 2 (.mv (.const (.string ⟨#[]⟩)))])
 (.seq (.seq (.reg [.m 3 0,.xk 4 .lss 3 10])
 (.ite (.t 4) (.seq (.reg [.m 5 0,.d 6 (.add (.ci 48) (.t 5)),.d 7 (.conv .u8 (.t 6)),.d 8 (.bsl 5 1 #[(.int .u8 0)] [(0,1,(.t 7))]),.d 9 (.raw { dst:=none,op:=(.convert 135 9 (.t 8)),type:=9,pos := "", after:=#[],guard:=none }),.m 2 9])
 .ret) .skip))
 (.seq (.drw [(0,.m 10 0),(0,.d 11 (.ar .quo (.t 10) (.ci 10))),(1,.d 12 (.call (.func 29) #[(.t 11)])),(0,.m 13 0),(0,.d 14 (.ar .rem (.t 13) (.ci 10))),(0,.d 15 (.add (.ci 48) (.t 14))),(0,.d 16 (.conv .u8 (.t 15))),(2,.d 17 (.bsl 5 1 #[(.int .u8 0)] [(0,1,(.t 16))])),(1,.d 18 (.raw { dst:=none,op:=(.convert 135 9 (.t 17)),type:=9,pos := "", after:=#[],guard:=none }))] [.d 19 (.raw { dst:=none,op:=(.binOp .add 9 (.t 12) (.t 18) 9),type:=9,pos := "", after:=#[],guard:=none }),.m 2 19])
 .ret)))
def UO:Zl Tryz.prog 29 20 gP [.t 2]:=.o [] [12,18,19] Tryz.func29 K1
end Go.Proofs

