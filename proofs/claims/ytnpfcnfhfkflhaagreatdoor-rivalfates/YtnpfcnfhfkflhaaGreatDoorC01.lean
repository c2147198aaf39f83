/- Lemmas of the proof. No conditions of their own. -/
import Derived.Test.YtnpfcnfhfkflhaaGreatDoorC00
set_option linter.all false
set_option maxRecDepth 100000
namespace Go.Proofs
open Go.TM
def Zpq:C:=(.seq (.reg [.d 2 (.box 25 (.t 0)),.xb 4 false])
 (.seq (.seq (.reg [.xd 15 2 2,.d 16 (.call (.func 19) #[(.t 15)])])
 (.ite (.t 16) (.seq (.reg [.d 17 (.call (.func 20) #[]),.m 4 17])
 .ret) .skip))
 (.seq (.reg [.xd 19 2 2,.d 20 (.call (.func 26) #[(.t 19)]),.m 18 20,.xe 21 18 0,.xe 22 18 1,.xe 23 18 2,.m 5 21,.m 6 22,.m 7 23])
 (.seq (.reg [.xd 25 2 2,.d 26 (.call (.func 27) #[(.t 25)]),.m 24 26,.xe 27 24 0,.xe 28 24 1,.xe 29 24 2,.m 8 27,.m 9 28,.m 10 29])
 (.seq (.seq (.reg [.m 30 5,.m 31 8,.d 32 (.call (.func 28) #[(.t 30),(.t 31)]),.xt 33 32,.m 34 33,.ym 35 34 false 6,.ym 36 34 false 9,.u 37 34 false (.call (.func 28) #[(.t 35),(.t 36)]),.u 38 34 false (.not (.t 37)),.xq 39 34 38,.m 40 39,.ym 41 40 false 7,.ym 42 40 false 10,.u 43 40 false (.cmp .neq (.t 41) (.t 42)),.xq 44 40 43])
 (.ite (.t 44) (.seq (.reg [.xb 4 false])
 .ret) .skip))
 (.seq (.reg [.xd 46 2 2,.m 47 1,.d 48 (.call (.func 29) #[(.t 46),(.t 47)]),.m 45 48,.xe 49 45 0,.xe 50 45 1,.xe 51 45 2,.m 11 49,.m 12 50,.m 7 51])
 (.seq (.reg [.xd 53 2 2,.m 54 1,.d 55 (.call (.func 30) #[(.t 53),(.t 54)]),.m 52 55,.xe 56 52 0,.xe 57 52 1,.xe 58 52 2,.m 13 56,.m 14 57,.m 10 58])
 (.seq (.reg [.m 59 11,.m 60 13,.d 61 (.call (.func 31) #[(.t 59),(.t 60)]),.m 62 61,.ym 63 62 true 12,.ym 64 62 true 14,.u 65 62 true (.call (.func 31) #[(.t 63),(.t 64)]),.xp 66 62 65,.m 67 66,.ym 68 67 true 7,.ym 69 67 true 10,.u 70 67 true (.cmp .eql (.t 68) (.t 69)),.xp 71 67 70,.m 72 71,.u 73 72 true (.call (.func 20) #[]),.xp 74 72 73,.m 4 74])
 .ret))))))))
theorem Zpw:Zf Tryz.prog 4 75 Zpq [.t 4]:=.o [] [] Tryz.func4 (by kernel_rfl)
end Go.Proofs
