/- A part of the proof: lemmas that the last text uses. No conditions of its own. -/
import Derived.Test.YtebpcmdnecenlaaGreatProg
import Derived.KernelRfl
import Derived.Test.YtebpcmdnecenlaaGreatH02
set_option linter.unusedSimpArgs false
set_option linter.unusedVariables false
namespace Go.Proofs
open Go.TM
set_option maxRecDepth 100000
def firstGo:Code->Option Code
 | .seq a b=>match firstGo a with | some c=>some c | none=>firstGo b
 | .cond _ a b=>match firstGo a with | some c=>some c | none=>firstGo b
 | .block _ b=>firstGo b
 | .loop b=>firstGo b
 | .scope b=>firstGo b
 | .region id ops d=>if hasGo ops then some (.region id ops d) else none
 | _=>none
def ridOf:Code->Nat
 | .region id _ _=>id
 | _=>0
def opsOf:Code->Array Oper
 | .region _ ops _=>ops
 | _=>#[]
noncomputable def Tryz.go88:Code:=(firstGo (Tryz.f88.body.getD .skip)).getD .skip
noncomputable def Tryz.o88 (i:Nat):Oper:=(opsOf Tryz.go88).getD i default
theorem Tryz.go88_eq:Tryz.go88=.region (ridOf Tryz.go88) (opsOf Tryz.go88) false:=by kernel_rfl
theorem Tryz.go88_r:List.range (opsOf Tryz.go88).size=[0,1]:=by kernel_rfl
theorem Tryz.o88_0:(opsOf Tryz.go88)[0]?=some (Tryz.o88 0):=by kernel_rfl
theorem Tryz.o88_1:(opsOf Tryz.go88)[1]?=some (Tryz.o88 1):=by kernel_rfl
theorem Tryz.o88_op0:(Tryz.o88 0).op=.makeFunc (.func 122) #[] #[.tmp 10,.tmp 7,.tmp 9,.tmp 11,.tmp 4,.tmp 5,.tmp 12]:=by kernel_rfl
theorem Tryz.o88_op1:(Tryz.o88 1).op=.go { callee:=.value (.tmp 24),args:=#[],argTypes:=#[] }:=by kernel_rfl
theorem Tryz.o88_g0:(Tryz.o88 0).guard=none:=by kernel_rfl
theorem Tryz.o88_g1:(Tryz.o88 1).guard=none:=by kernel_rfl
theorem Tryz.o88_d0:(Tryz.o88 0).dst=some 24:=by kernel_rfl
theorem Tryz.o88_d1:(Tryz.o88 1).dst=none:=by kernel_rfl
theorem Tryz.any121:(Tryz.prog.funcs[121]?.any λ fd=>fd.body.isSome && fd.name != "runtime.NumGoroutine")=true:=by kernel_rfl
theorem Tryz.any125:(Tryz.prog.funcs[125]?.any λ fd=>fd.body.isSome && fd.name != "runtime.NumGoroutine")=true:=by kernel_rfl
theorem Tryz.u27:Tryz.prog.underlying 27=some (.slice 3):=by kernel_rfl
theorem Tryz.i3:∃inf,Tryz.prog.info? 3=some inf/\inf.zero=some (.int .i64 0)/\inf.size=1/\inf.bytes=8:=by
 have h1:(Tryz.prog.info? 3).map (·.zero)=some (some (.int .i64 0)):=by kernel_rfl
 have h2:(Tryz.prog.info? 3).map (·.size)=some 1:=by kernel_rfl
 have h3:(Tryz.prog.info? 3).map (·.bytes)=some 8:=by kernel_rfl
 cases h:Tryz.prog.info? 3 with
 | none=>rw [h] at h1;cases h1
 | some inf=>
  rw [h] at h1 h2 h3
  exact⟨inf,rfl,Option.some.inj h1,Option.some.inj h2,Option.some.inj h3⟩
noncomputable def Tryz.c88:C:=(.seq (.reg [⟨.box 90 (.tmp 0),some 4,none,none⟩,⟨.box 3 (.tmp 1),some 5,none,none⟩,⟨.box 27 (.tmp 3),some 7,none,none⟩,⟨.mv (.const (.int .i64 0)),some 8,none,none⟩])
 (.seq (.reg [⟨.mv (.tmp 2),some 13,none,none⟩,⟨.len (.tmp 13),some 14,none,none⟩,⟨.raw { dst:=none,op:=(.makeSlice 27 (.tmp 14) (.tmp 14)),type:=27,pos := "", after:=#[],guard:=none },some 15,none,none⟩,⟨.alloc 27 #[(.slice none 0 0)],some 9,none,none⟩,⟨.st 1 (.tmp 9) (.tmp 15),none,none,none⟩])
 (.seq (.reg [⟨.alloc 164 #[(.int .u64 0),(.int .u32 0)],some 10,none,none⟩])
 (.seq (.seq (.reg [⟨.mv (.tmp 2),some 16,none,none⟩,⟨.len (.tmp 16),some 17,none,none⟩,⟨.mv (.const (.int .i64 0)),some 18,none,none⟩])
 (.block 0 (.loop (.seq (.reg [⟨.cmp .lss (.tmp 18) (.tmp 17),some 19,none,none⟩])
 (.seq (.ite (.tmp 19) .skip (.exit 0))
 (.seq (.block 1 (.seq (.reg [⟨.mv (.tmp 18),some 20,none,none⟩,⟨.idx 1 (.tmp 16) (.tmp 18),some 21,none,none⟩,⟨.ld (.tmp 21),some 22,none,none⟩,⟨.alloc 3 #[(.int .i64 0)],some 11,none,none⟩,⟨.alloc 3 #[(.int .i64 0)],some 12,none,none⟩,⟨.st 1 (.tmp 11) (.tmp 20),none,none,none⟩,⟨.st 1 (.tmp 12) (.tmp 22),none,none,none⟩])
 (.seq (.reg [⟨.call (.func 121) #[(.tmp 10),(.const (.int .i64 1))],some 23,none,none⟩])
 (.cd 32 Tryz.go88))))
 (.reg [⟨.add (.tmp 18) (.const (.int .i64 1)),some 25,none,none⟩,⟨.mv (.tmp 25),some 18,none,none⟩])))))))
 (.seq (.reg [⟨.call (.func 125) #[(.tmp 10)],some 26,none,none⟩])
 (.seq (.seq (.reg [⟨.ld (.tmp 9),some 27,none,none⟩,⟨.len (.tmp 27),some 28,none,none⟩,⟨.cmp .eql (.tmp 28) (.const (.int .i64 0)),some 29,none,none⟩])
 (.ite (.tmp 29) (.seq (.reg [⟨.mv (.const (.int .i64 0)),some 8,none,none⟩])
 .ret) .skip))
 (.seq (.reg [⟨.ld (.tmp 9),some 30,none,none⟩,⟨.call (.func 126) #[(.tmp 30)],some 31,none,none⟩,⟨.mv (.tmp 31),some 8,none,none⟩])
 .ret)))))))
theorem Tryz.k88:FnOk Tryz.prog 88 32 Tryz.c88 [.t 8]:=.mk' [] [] Tryz.func88 rfl (by kernel_rfl) (by kernel_rfl) (by kernel_rfl) (by kernel_rfl)
end Go.Proofs
