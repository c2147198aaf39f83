/- Lemmas of the proof. No conditions of their own. -/
import Derived.Test.YtnpfcnfhfkflhaaGreatDoorB09
import Derived.Test.YtnpfcnfhfkflhaaGreatDoorB42
import Derived.Test.YtnpfcnfhfkflhaaGreatDoorB44
set_option linter.all false
set_option maxRecDepth 100000
noncomputable section
namespace Go.TM
variable {T:Type} {P:Program} {S:Sys P T}
theorem Qb.sep0 {f:FuncId} {args:Array Value} {R:Value->Qa T->Prop} {U:Qa T} (h:Sep U->Qb S f args R U):Qb S f args R U:=by
 intro Stop m c cs k;by_cases hs:Sep U
 ·exact h hs Stop m c cs k
 ·exact .priv ⟨rfl,λ w ok=>absurd ok.sep hs⟩
end Go.TM
namespace Go.Proofs
open Go.TM
def Zpf:C:=(.seq (.reg [.d 2 (.box 25 (.tmp 0)),.d 4 (.mv (.const (.slice none 0 0)))])
 (.seq (.seq (.reg [.m 7 1,.d 8 (.len (.tmp 7)),.d 9 (.off 1 (.tmp 2)),.d 10 (.ld (.tmp 9)),.d 11 (.len (.tmp 10)),.d 12 (.cmp .eql (.tmp 8) (.tmp 11))])
 (.ite (.tmp 12) (.seq (.reg [.d 13 (.bsl 3 0 #[] []),.m 14 1,.d 15 (.raw { dst:=none,op:=(.call { callee:=.builtin .append,args:=#[(.tmp 13),(.tmp 14)],argTypes:=#[26,26] }),type:=26,pos := "", after:=#[],guard:=none }),.d 16 (.bsl 26 1 #[(.slice none 0 0)] [(0,1,(.tmp 15))]),.m 4 16])
 .ret) .skip))
 (.seq (.reg [.d 5 (.mv (.const (.slice none 0 0)))])
 (.seq (.seq (.reg [.d 6 (.mv (.const (.int .i64 0)))])
 (.block 0 (.loop (.seq (.seq (.reg [.m 17 6,.d 18 (.off 1 (.tmp 2)),.d 19 (.ld (.tmp 18)),.d 20 (.len (.tmp 19)),.d 21 (.cmp .lss (.tmp 17) (.tmp 20))])
 (.ite (.tmp 21) .skip (.exit 0)))
 (.seq (.block 1 (.seq (.reg [.m 24 1,.m 25 6,.d 26 (.call (.func 38) #[(.tmp 24),(.tmp 25)]),.d 27 (.not (.tmp 26)),.m 28 27,.u 29 28 true (.off 1 (.tmp 2)),.u 30 28 true (.ld (.tmp 29)),.u 31 28 true (.mv (.tmp 6)),.u 32 28 true (.idx 4 (.tmp 30) (.tmp 31)),.u 33 28 true (.off 3 (.tmp 32)),.u 34 28 true (.ld (.tmp 33)),.u 35 28 true (.mv (.tmp 1)),.u 36 28 true (.call (.func 127) #[(.tmp 34),(.tmp 35)]),.d 37 (.pick (.tmp 28) (.tmp 36) (.const (.bool false)))])
 (.ite (.tmp 37) (.cd 49 (Zgm Tryz.f82 8)) .skip)))
 (.reg [.m 22 6,.d 23 (.add (.tmp 22) (.const (.int .i64 1))),.m 6 23]))))))
 (.seq (.reg [.m 48 5,.m 4 48])
 .ret)))))
theorem Qdc:Zf Tryz.prog 82 49 Zpf [.t 4]:=.mk' [] [] Tryz.func82 rfl (by kernel_rfl) (by kernel_rfl) (by kernel_rfl) (by kernel_rfl)
def Zoo:C:=(.seq (.reg [.d 1 (.box 25 (.tmp 0)),.d 2 (.mv (.const (.slice none 0 0))),.d 3 (.mv (.const (.slice none 0 0))),.d 4 (.mv (.const (.int .i64 0)))])
 (.seq (.seq (.reg [.d 8 (.ldn 2 (.tmp 1)),.d 9 (.call (.func 24) #[(.tmp 8)]),.m 5 9])
 (.seq (.reg [.m 10 5,.d 11 (.cmp .neq (.tmp 10) (.const (.int .i64 0)))])
 (.ite (.tmp 11) (.seq (.reg [.m 12 5,.d 2 (.mv (.const (.slice none 0 0))),.d 3 (.mv (.const (.slice none 0 0))),.m 4 12])
 .ret) .skip)))
 (.seq (.reg [.d 14 (.ldn 2 (.tmp 1)),.d 15 (.call (.func 78) #[(.tmp 14)]),.m 13 15,.d 16 (.ext (.tmp 13) 0),.d 17 (.ext (.tmp 13) 1),.m 6 16,.m 7 17])
 (.seq (.reg [.m 18 6,.m 19 7,.m 2 18,.m 3 19,.d 4 (.mv (.const (.int .i64 0)))])
 .ret))))
theorem Zc6:Zf Tryz.prog 27 20 Zoo [.t 2,.t 3,.t 4]:=.mk' [] [] Tryz.func27 rfl (by kernel_rfl) (by kernel_rfl) (by kernel_rfl) (by kernel_rfl)
def Zoq:C:=(.seq (.reg [.d 1 (.box 25 (.tmp 0)),.d 2 (.mv (.const (.slice none 0 0))),.d 3 (.mv (.const (.slice none 0 0)))])
 (.seq (.reg [.d 16 (.ldn 2 (.tmp 1)),.d 17 (.call (.func 82) #[(.tmp 16),(.const (.slice none 0 0))]),.m 4 17])
 (.seq (.cd 107 (Zgm Tryz.f78 2))
 (.seq (.seq (.reg [.d 7 (.mv (.const (.int .i64 0)))])
 (.block 0 (.loop (.seq (.seq (.reg [.m 26 7,.m 27 4,.d 28 (.len (.tmp 27)),.d 29 (.cmp .lss (.tmp 26) (.tmp 28))])
 (.ite (.tmp 29) .skip (.exit 0)))
 (.seq (.block 1 (.seq (.drw [(0,.d 33 (.ldn 2 (.tmp 1))),(0,.m 34 4),(0,.m 35 7),(0,.d 36 (.idx 1 (.tmp 34) (.tmp 35))),(0,.d 37 (.ld (.tmp 36))),(2,.d 38 (.call (.func 72) #[(.tmp 33),(.tmp 37)])),(0,.m 32 38),(0,.d 39 (.ext (.tmp 32) 0)),(0,.d 40 (.ext (.tmp 32) 1)),(0,.m 8 39)] [.m 9 40])
 (.seq (.seq (.reg [.d 10 (.mv (.const (.int .i64 0)))])
 (.block 2 (.loop (.seq (.seq (.reg [.m 41 10,.m 42 5,.d 43 (.len (.tmp 42)),.d 44 (.cmp .lss (.tmp 41) (.tmp 43))])
 (.ite (.tmp 44) .skip (.exit 2)))
 (.seq (.block 3 (.seq (.reg [.m 47 8,.m 48 10,.d 49 (.idx 1 (.tmp 47) (.tmp 48)),.d 50 (.ld (.tmp 49))])
 (.ite (.tmp 50) (.reg [.m 51 5,.m 52 10,.d 53 (.idx 1 (.tmp 51) (.tmp 52)),.d 54 (.ld (.tmp 53)),.d 55 (.add (.tmp 54) (.const (.int .i64 1))),.d 56 (.idx 1 (.tmp 51) (.tmp 52)),⟨.st 1 (.tmp 56) (.tmp 55),none,none,none⟩]) .skip)))
 (.reg [.m 45 10,.d 46 (.add (.tmp 45) (.const (.int .i64 1))),.m 10 46]))))))
 (.seq (.reg [.d 11 (.mv (.const (.int .i64 0)))])
 (.block 4 (.loop (.seq (.seq (.reg [.m 57 11,.m 58 6,.d 59 (.len (.tmp 58)),.d 60 (.cmp .lss (.tmp 57) (.tmp 59))])
 (.ite (.tmp 60) .skip (.exit 4)))
 (.seq (.block 5 (.seq (.reg [.m 63 9,.m 64 11,.d 65 (.idx 1 (.tmp 63) (.tmp 64)),.d 66 (.ld (.tmp 65))])
 (.ite (.tmp 66) (.reg [.m 67 6,.m 68 11,.d 69 (.idx 1 (.tmp 67) (.tmp 68)),.d 70 (.ld (.tmp 69)),.d 71 (.add (.tmp 70) (.const (.int .i64 1))),.d 72 (.idx 1 (.tmp 67) (.tmp 68)),⟨.st 1 (.tmp 72) (.tmp 71),none,none,none⟩]) .skip)))
 (.reg [.m 61 11,.d 62 (.add (.tmp 61) (.const (.int .i64 1))),.m 11 62])))))))))
 (.reg [.m 30 7,.d 31 (.add (.tmp 30) (.const (.int .i64 1))),.m 7 31]))))))
 (.seq (.reg [.d 12 (.mv (.const (.slice none 0 0))),.d 13 (.mv (.const (.slice none 0 0)))])
 (.seq (.seq (.reg [.d 14 (.mv (.const (.int .i64 0)))])
 (.block 6 (.loop (.seq (.seq (.reg [.m 73 14,.m 74 5,.d 75 (.len (.tmp 74)),.d 76 (.cmp .lss (.tmp 73) (.tmp 75))])
 (.ite (.tmp 76) .skip (.exit 6)))
 (.seq (.block 7 (.reg [.m 79 12,.m 80 5,.m 81 14,.d 82 (.idx 1 (.tmp 80) (.tmp 81)),.d 83 (.ld (.tmp 82)),.m 84 4,.d 85 (.len (.tmp 84)),.d 86 (.call (.func 131) #[(.tmp 83),(.tmp 85)]),.d 87 (.bsl 51 1 #[(.int .i64 0)] [(0,1,(.tmp 86))]),.d 88 (.raw { dst:=none,op:=(.call { callee:=.builtin .append,args:=#[(.tmp 79),(.tmp 87)],argTypes:=#[36,36] }),type:=36,pos := "", after:=#[],guard:=none }),.m 12 88]))
 (.reg [.m 77 14,.d 78 (.add (.tmp 77) (.const (.int .i64 1))),.m 14 78]))))))
 (.seq (.seq (.reg [.d 15 (.mv (.const (.int .i64 0)))])
 (.block 8 (.loop (.seq (.seq (.reg [.m 89 15,.m 90 6,.d 91 (.len (.tmp 90)),.d 92 (.cmp .lss (.tmp 89) (.tmp 91))])
 (.ite (.tmp 92) .skip (.exit 8)))
 (.seq (.block 9 (.reg [.m 95 13,.m 96 6,.m 97 15,.d 98 (.idx 1 (.tmp 96) (.tmp 97)),.d 99 (.ld (.tmp 98)),.m 100 4,.d 101 (.len (.tmp 100)),.d 102 (.call (.func 131) #[(.tmp 99),(.tmp 101)]),.d 103 (.bsl 51 1 #[(.int .i64 0)] [(0,1,(.tmp 102))]),.d 104 (.raw { dst:=none,op:=(.call { callee:=.builtin .append,args:=#[(.tmp 95),(.tmp 103)],argTypes:=#[36,36] }),type:=36,pos := "", after:=#[],guard:=none }),.m 13 104]))
 (.reg [.m 93 15,.d 94 (.add (.tmp 93) (.const (.int .i64 1))),.m 15 94]))))))
 (.seq (.reg [.m 105 12,.m 106 13,.m 2 105,.m 3 106])
 .ret))))))))
theorem Zg4:Zf Tryz.prog 78 107 Zoq [.t 2,.t 3]:=.mk' [] [] Tryz.func78 rfl (by kernel_rfl) (by kernel_rfl) (by kernel_rfl) (by kernel_rfl)
def Zop:C:=(.seq (.reg [.d 2 (.box 25 (.tmp 0)),.d 4 (.mv (.const (.slice none 0 0))),.d 5 (.mv (.const (.slice none 0 0))),.d 6 (.mv (.const (.int .i64 0)))])
 (.seq (.seq (.reg [.d 14 (.ldn 2 (.tmp 2)),.m 15 1,.d 16 (.call (.func 81) #[(.tmp 14),(.tmp 15)]),.m 7 16])
 (.seq (.reg [.m 17 7,.d 18 (.cmp .neq (.tmp 17) (.const (.int .i64 0)))])
 (.ite (.tmp 18) (.seq (.reg [.m 19 7,.d 4 (.mv (.const (.slice none 0 0))),.d 5 (.mv (.const (.slice none 0 0))),.m 6 19])
 .ret) .skip)))
 (.seq (.reg [.d 20 (.ldn 2 (.tmp 2)),.d 21 (.call (.func 82) #[(.tmp 20),(.const (.slice none 0 0))]),.m 8 21])
 (.seq (.reg [.d 9 (.mv (.const (.slice none 0 0))),.d 10 (.mv (.const (.slice none 0 0)))])
 (.seq (.seq (.reg [.m 22 8,.d 23 (.len (.tmp 22)),.d 24 (.sub (.tmp 23) (.const (.int .i64 1))),.m 11 24])
 (.block 0 (.loop (.seq (.seq (.reg [.m 25 11,.d 26 (.cmp .geq (.tmp 25) (.const (.int .i64 0)))])
 (.ite (.tmp 26) .skip (.exit 0)))
 (.seq (.block 1 (.seq (.drw [(0,.d 30 (.ldn 2 (.tmp 2))),(0,.m 31 8),(0,.m 32 11),(0,.d 33 (.idx 1 (.tmp 31) (.tmp 32))),(0,.d 34 (.ld (.tmp 33))),(2,.d 35 (.call (.func 72) #[(.tmp 30),(.tmp 34)])),(0,.m 29 35),(0,.d 36 (.ext (.tmp 29) 0)),(0,.d 37 (.ext (.tmp 29) 1)),(0,.m 12 36)] [.m 13 37])
 (.seq (.reg [.m 38 12,.m 39 1,.d 40 (.idx 1 (.tmp 38) (.tmp 39)),.d 41 (.ld (.tmp 40))])
 (.ite (.tmp 41) (.reg [.m 42 8,.m 43 11,.d 44 (.idx 1 (.tmp 42) (.tmp 43)),.d 45 (.ld (.tmp 44)),.m 9 45]) (.reg [.m 46 8,.m 47 11,.d 48 (.idx 1 (.tmp 46) (.tmp 47)),.d 49 (.ld (.tmp 48)),.m 10 49])))))
 (.reg [.m 27 11,.d 28 (.sub (.tmp 27) (.const (.int .i64 1))),.m 11 28]))))))
 (.seq (.reg [.m 50 9,.m 51 10,.m 4 50,.m 5 51,.d 6 (.mv (.const (.int .i64 0)))])
 .ret))))))
theorem Zg3:Zf Tryz.prog 30 52 Zop [.t 4,.t 5,.t 6]:=.mk' [] [] Tryz.func30 rfl (by kernel_rfl) (by kernel_rfl) (by kernel_rfl) (by kernel_rfl)
def Zos:C:=(.seq (.reg [.d 2 (.box 25 (.tmp 0)),.d 4 (.mv (.const (.int .i64 0)))])
 (.seq (.seq (.reg [.d 6 (.ldn 2 (.tmp 2)),.d 7 (.call (.func 24) #[(.tmp 6)]),.m 5 7])
 (.seq (.reg [.m 8 5,.d 9 (.cmp .neq (.tmp 8) (.const (.int .i64 0)))])
 (.ite (.tmp 9) (.seq (.reg [.m 10 5,.m 4 10])
 .ret) .skip)))
 (.seq (.seq (.reg [.m 11 1,.d 12 (.off 0 (.tmp 2)),.d 13 (.ld (.tmp 12)),.d 14 (.len (.tmp 13)),.d 15 (.sub (.tmp 14) (.const (.int .i64 1))),.d 16 (.call (.func 103) #[(.tmp 11),(.const (.int .i64 0)),(.tmp 15)]),.d 17 (.not (.tmp 16))])
 (.ite (.tmp 17) (.seq (.reg [.d 4 (.mv (.const (.int .i64 6)))])
 .ret) .skip))
 (.seq (.reg [.d 4 (.mv (.const (.int .i64 0)))])
 .ret))))
theorem Zk4:Zf Tryz.prog 81 18 Zos [.t 4]:=.mk' [] [] Tryz.func81 rfl (by kernel_rfl) (by kernel_rfl) (by kernel_rfl) (by kernel_rfl)
def Zol:C:=(.seq (.reg [.d 4 (.mv (.const (.int .i64 0)))])
 (.seq (.seq (.reg [.m 5 0,.m 6 1,.d 7 (.cmp .eql (.tmp 5) (.tmp 6))])
 (.ite (.tmp 7) (.seq (.reg [.d 4 (.mv (.const (.int .i64 1)))])
 .ret) .skip))
 (.seq (.seq (.reg [.m 8 0,.d 9 (.cmp .eql (.tmp 8) (.const (.int .i64 0)))])
 (.ite (.tmp 9) (.seq (.reg [.d 4 (.mv (.const (.int .i64 2)))])
 .ret) .skip))
 (.seq (.reg [.d 4 (.mv (.const (.int .i64 0)))])
 .ret))))
theorem Qpj:Zf Tryz.prog 131 10 Zol [.t 4]:=.mk' [] [] Tryz.func131 rfl (by kernel_rfl) (by kernel_rfl) (by kernel_rfl) (by kernel_rfl)
end Go.Proofs
set_option linter.unusedSimpArgs false
namespace Go.TM
variable {T:Type} {P:Program} {S:Sys P T} {fn:FuncId} {ro:Option Nat}
theorem Hld.frz2 {U U':Qa T} {b:Nat} {e:TypeId} {c:Array Value} (h:Hld U b e c U'):U.frz.lg U'.frz:=⟨h.imm,⟨[],rfl⟩,h.tok⟩
end Go.TM
end
