/- Lemmas of the proof. No conditions of their own. -/
import Derived.Test.YtnpfcnfhfkflhaaGreatDoorB09
import Derived.Test.YtnpfcnfhfkflhaaGreatDoorB42
import Derived.Test.YtnpfcnfhfkflhaaGreatDoorB44
set_option linter.all false
open Go.Proofs.Tryz (prog)
set_option maxRecDepth 100000
namespace Go.TM
variable {T:Type} {P:Program} {S:Sys P T}
theorem Qb.sep0 {f:FuncId} {args:Array Value} {R:Value->Qa T->Prop} {U:Qa T} (h:Sep U->Qb S f args R U):Qb S f args R U:=by
 intro Stop m c cs k;by_cases hs:Sep U
 ·exact h hs Stop m c cs k
 ·exact .priv ⟨rfl,λ w ok=>absurd ok.sep hs⟩
end Go.TM
namespace Go.Proofs
open Go.TM
def Zk5:C:=(.seq (.reg [.d 4 (.mv (.const (.bool false)))])
 (.seq (.seq (.reg [.m 6 0,.d 7 (.len (.tmp 6)),.m 8 1,.d 9 (.len (.tmp 8)),.d 10 (.cmp .neq (.tmp 7) (.tmp 9))])
 (.ite (.tmp 10) (.seq (.reg [.d 4 (.mv (.const (.bool false)))])
 .ret) .skip))
 (.seq (.seq (.reg [.d 5 (.mv (.const (.int .i64 0)))])
 (.block 0 (.loop (.seq (.seq (.reg [.m 11 5,.m 12 0,.d 13 (.len (.tmp 12)),.d 14 (.cmp .lss (.tmp 11) (.tmp 13))])
 (.ite (.tmp 14) .skip (.exit 0)))
 (.seq (.block 1 (.seq (.drw [(0,.m 17 0),(0,.m 18 5),(0,.d 19 (.idx 1 (.tmp 17) (.tmp 18))),(0,.d 20 (.ld (.tmp 19))),(0,.m 21 1),(0,.m 22 5),(0,.d 23 (.idx 1 (.tmp 21) (.tmp 22))),(0,.d 24 (.ld (.tmp 23)))] [.d 25 (.teq .neq (.tmp 20) (.tmp 24))])
 (.ite (.tmp 25) (.seq (.reg [.d 4 (.mv (.const (.bool false)))])
 .ret) .skip)))
 (.reg [.m 15 5,.d 16 (.add (.tmp 15) (.const (.int .i64 1))),.m 5 16]))))))
 (.seq (.reg [.d 4 (.mv (.const (.bool true)))])
 .ret))))
theorem Q0m:Zf prog 59 26 Zk5 [.t 4]:=.mk' [] [] Tryz.func59 rfl (by kernel_rfl) (by kernel_rfl) (by kernel_rfl) (by kernel_rfl)
def Zc5:C:=(.seq (.reg [.d 2 (.box 25 (.tmp 0)),.d 4 (.alloc 25 #[(.slice none 0 0),(.slice none 0 0)]),.d 5 (.mv (.const (.int .i64 0)))])
 (.seq (.seq (.reg [.d 8 (.ldn 2 (.tmp 2)),.d 9 (.call (.func 23) #[(.tmp 8)]),.m 6 9])
 (.seq (.reg [.m 10 6,.d 11 (.cmp .neq (.tmp 10) (.const (.int .i64 0)))])
 (.ite (.tmp 11) (.seq (.reg [.d 12 (.build #[(.slice none 0 0),(.slice none 0 0)] []),.m 13 6,⟨.st 2 (.tmp 4) (.tmp 12),none,none,none⟩,.m 5 13])
 .ret) .skip)))
 (.seq (.seq (.reg [.m 14 1,.d 15 (.off 1 (.tmp 2)),.d 16 (.ld (.tmp 15)),.d 17 (.len (.tmp 16)),.d 18 (.call (.func 92) #[(.tmp 14),(.tmp 17)]),.m 7 18])
 (.seq (.reg [.m 19 7,.d 20 (.cmp .neq (.tmp 19) (.const (.int .i64 0)))])
 (.ite (.tmp 20) (.seq (.reg [.d 21 (.build #[(.slice none 0 0),(.slice none 0 0)] []),.m 22 7,⟨.st 2 (.tmp 4) (.tmp 21),none,none,none⟩,.m 5 22])
 .ret) .skip)))
 (.seq (.drw [(0,.d 23 (.ldn 2 (.tmp 2))),(0,.d 24 (.build #[(.slice none 0 0),(.slice none 0 0)] [(0,2,(.tmp 23))])),(0,.m 25 1),(1,.d 26 (.call (.func 68) #[(.tmp 25)]))] [.d 27 (.call (.func 87) #[(.tmp 24),(.tmp 26)]),.d 28 (.part 0 2 (.tmp 27)),⟨.st 2 (.tmp 4) (.tmp 28),none,none,none⟩,.d 5 (.mv (.const (.int .i64 0)))])
 .ret))))
theorem Qzk:Zf prog 41 29 Zc5 [.cn 4 2,.t 5]:=.mk' [] [26] Tryz.func41 rfl (by kernel_rfl) (by kernel_rfl) (by kernel_rfl) (by kernel_rfl)
def Zc3:C:=(.seq (.reg [.d 4 (.mv (.const (.bool false)))])
 (.seq (.seq (.reg [.d 5 (.mv (.const (.int .i64 0)))])
 (.block 0 (.loop (.seq (.seq (.reg [.m 6 5,.m 7 0,.d 8 (.len (.tmp 7)),.d 9 (.cmp .lss (.tmp 6) (.tmp 8)),.m 10 9,.u 11 10 true (.mv (.tmp 5)),.u 12 10 true (.mv (.tmp 1)),.u 13 10 true (.len (.tmp 12)),.u 14 10 true (.cmp .lss (.tmp 11) (.tmp 13)),.d 15 (.pick (.tmp 10) (.tmp 14) (.const (.bool false)))])
 (.ite (.tmp 15) .skip (.exit 0)))
 (.seq (.block 1 (.seq (.drw [(0,.m 18 0),(0,.m 19 5),(0,.d 20 (.idx 1 (.tmp 18) (.tmp 19))),(0,.d 21 (.ld (.tmp 20))),(0,.m 22 1),(0,.m 23 5),(0,.d 24 (.idx 1 (.tmp 22) (.tmp 23))),(0,.d 25 (.ld (.tmp 24)))] [.d 26 (.cmp .neq (.tmp 21) (.tmp 25))])
 (.ite (.tmp 26) (.seq (.drw [(0,.m 27 0),(0,.m 28 5),(0,.d 29 (.idx 1 (.tmp 27) (.tmp 28))),(0,.d 30 (.ld (.tmp 29))),(0,.m 31 1),(0,.m 32 5),(0,.d 33 (.idx 1 (.tmp 31) (.tmp 32))),(0,.d 34 (.ld (.tmp 33)))] [.d 35 (.cmp .lss (.tmp 30) (.tmp 34)),.m 4 35])
 .ret) .skip)))
 (.reg [.m 16 5,.d 17 (.add (.tmp 16) (.const (.int .i64 1))),.m 5 17]))))))
 (.seq (.reg [.m 36 0,.d 37 (.len (.tmp 36)),.m 38 1,.d 39 (.len (.tmp 38)),.d 40 (.cmp .lss (.tmp 37) (.tmp 39)),.m 4 40])
 .ret)))
theorem Qvz:Zf prog 36 41 Zc3 [.t 4]:=.mk' [] [] Tryz.func36 rfl (by kernel_rfl) (by kernel_rfl) (by kernel_rfl) (by kernel_rfl)
def Zc6:C:=(.seq (.reg [.d 3 (.box 25 (.tmp 0)),.d 6 (.mv (.const (.int .i64 0))),.d 7 (.mv (.const (.bool false)))])
 (.seq (.reg [.d 11 (.ldn 2 (.tmp 3)),.m 12 1,.d 13 (.call (.func 41) #[(.tmp 11),(.tmp 12)]),.m 10 13,.d 14 (.ext (.tmp 10) 0),.d 15 (.ext (.tmp 10) 1),.d 8 (.alloc 25 #[(.slice none 0 0),(.slice none 0 0)]),⟨.st 2 (.tmp 8) (.tmp 14),none,none,none⟩,.m 9 15])
 (.seq (.seq (.reg [.m 16 9,.d 17 (.cmp .neq (.tmp 16) (.const (.int .i64 0))),.m 18 17,.u 19 18 false (.off 0 (.tmp 8)),.u 20 18 false (.ld (.tmp 19)),.u 21 18 false (.off 0 (.tmp 3)),.u 22 18 false (.ld (.tmp 21)),.u 23 18 false (.call (.func 59) #[(.tmp 20),(.tmp 22)]),.u 24 18 false (.not (.tmp 23)),.d 25 (.pick (.tmp 18) (.const (.bool true)) (.tmp 24)),.m 26 25,.u 27 26 false (.ldn 2 (.tmp 8)),.u 28 26 false (.call (.func 24) #[(.tmp 27)]),.u 29 26 false (.cmp .neq (.tmp 28) (.const (.int .i64 0))),.d 30 (.pick (.tmp 26) (.const (.bool true)) (.tmp 29))])
 (.ite (.tmp 30) (.seq (.reg [.d 6 (.mv (.const (.int .i64 0))),.d 7 (.mv (.const (.bool false)))])
 .ret) .skip))
 (.seq (.reg [.d 31 (.ldn 2 (.tmp 8)),.m 32 2,.d 33 (.call (.func 49) #[(.tmp 31),(.tmp 32)]),.d 34 (.ext (.tmp 33) 0),.d 35 (.ext (.tmp 33) 1),.m 6 34,.m 7 35])
 .ret))))
theorem Qcf:Zf prog 46 36 Zc6 [.t 6,.t 7]:=.mk' [] [] Tryz.func46 rfl (by kernel_rfl) (by kernel_rfl) (by kernel_rfl) (by kernel_rfl)
def Zg3:C:=(.seq (.reg [.d 2 (.box 25 (.tmp 0)),.d 4 (.mv (.const (.slice none 0 0)))])
 (.seq (.reg [.d 5 (.mv (.const (.slice none 0 0)))])
 (.seq (.seq (.reg [.d 6 (.mv (.const (.int .i64 0)))])
 (.block 0 (.loop (.seq (.seq (.reg [.m 7 6,.d 8 (.off 1 (.tmp 2)),.d 9 (.ld (.tmp 8)),.d 10 (.len (.tmp 9)),.d 11 (.cmp .lss (.tmp 7) (.tmp 10))])
 (.ite (.tmp 11) .skip (.exit 0)))
 (.seq (.block 1 (.seq (.reg [.m 14 1,.m 15 6,.d 16 (.ar .shr (.tmp 14) (.tmp 15)),.d 17 (.ar .and (.tmp 16) (.const (.int .u8 1))),.d 18 (.cmp .eql (.tmp 17) (.const (.int .u8 1)))])
 (.ite (.tmp 18) (.reg [.m 19 5,.m 20 6,.d 21 (.bsl 3 1 #[(.int .i64 0)] [(0,1,(.tmp 20))]),.d 22 (.raw { dst:=none,op:=(.call { callee:=.builtin .append,args:=#[(.tmp 19),(.tmp 21)],argTypes:=#[26,26] }),type:=26,pos := "", after:=#[],guard:=none }),.m 5 22]) .skip)))
 (.reg [.m 12 6,.d 13 (.add (.tmp 12) (.const (.int .i64 1))),.m 6 13]))))))
 (.seq (.reg [.m 23 5,.m 4 23])
 .ret))))
theorem Q0h:Zf prog 47 24 Zg3 [.t 4]:=.mk' [] [] Tryz.func47 rfl (by kernel_rfl) (by kernel_rfl) (by kernel_rfl) (by kernel_rfl)
def Zg4:C:=(.seq (.reg [.d 4 (.mv (.const (.bool false)))])
 (.seq (.reg [.m 5 0,.d 6 (.len (.tmp 5)),.m 7 1,.d 8 (.len (.tmp 7)),.d 9 (.cmp .lss (.tmp 6) (.tmp 8)),.m 10 9,.u 11 10 false (.mv (.tmp 0)),.u 12 10 false (.len (.tmp 11)),.u 13 10 false (.mv (.tmp 1)),.u 14 10 false (.len (.tmp 13)),.u 15 10 false (.cmp .eql (.tmp 12) (.tmp 14)),.u 16 10 false (.mv (.tmp 15)),.u 17 16 true (.mv (.tmp 0)),.u 18 16 true (.mv (.tmp 1)),.u 19 16 true (.call (.func 36) #[(.tmp 17),(.tmp 18)]),.u 20 10 false (.pick (.tmp 16) (.tmp 19) (.const (.bool false))),.d 21 (.pick (.tmp 10) (.const (.bool true)) (.tmp 20)),.m 4 21])
 .ret))
theorem Q0j:Zf prog 48 22 Zg4 [.t 4]:=.mk' [] [] Tryz.func48 rfl (by kernel_rfl) (by kernel_rfl) (by kernel_rfl) (by kernel_rfl)
def Zk4:C:=(.seq (.reg [.d 2 (.box 25 (.tmp 0)),.d 4 (.mv (.const (.int .i64 0))),.d 5 (.mv (.const (.bool false)))])
 (.seq (.reg [.d 10 (.ldn 2 (.tmp 2)),.d 11 (.call (.func 26) #[(.tmp 10)]),.m 9 11,.d 12 (.ext (.tmp 9) 0),.d 13 (.ext (.tmp 9) 1),.d 14 (.ext (.tmp 9) 2),.m 6 12,.m 7 13,.m 8 14])
 (.seq (.seq (.reg [.m 15 8,.d 16 (.cmp .neq (.tmp 15) (.const (.int .i64 0))),.m 17 16,.u 18 17 false (.mv (.tmp 6)),.u 19 17 false (.len (.tmp 18)),.u 20 17 false (.off 0 (.tmp 2)),.u 21 17 false (.ld (.tmp 20)),.u 22 17 false (.len (.tmp 21)),.u 23 17 false (.cmp .neq (.tmp 19) (.tmp 22)),.d 24 (.pick (.tmp 17) (.const (.bool true)) (.tmp 23))])
 (.ite (.tmp 24) (.seq (.reg [.d 4 (.mv (.const (.int .i64 0))),.d 5 (.mv (.const (.bool false)))])
 .ret) .skip))
 (.seq (.reg [.m 25 6,.m 26 1,.d 27 (.idx 1 (.tmp 25) (.tmp 26)),.d 28 (.ld (.tmp 27)),.m 4 28,.d 5 (.mv (.const (.bool true)))])
 .ret))))
theorem Q0k:Zf prog 49 29 Zk4 [.t 4,.t 5]:=.mk' [] [] Tryz.func49 rfl (by kernel_rfl) (by kernel_rfl) (by kernel_rfl) (by kernel_rfl)
end Go.Proofs
set_option linter.unusedSimpArgs false
namespace Go.TM
variable {T:Type} {P:Program} {S:Sys P T} {fn:FuncId} {ro:Option Nat}
theorem Hld.frz2 {U U':Qa T} {b:Nat} {e:TypeId} {c:Array Value} (h:Hld U b e c U'):U.frz.lg U'.frz:=⟨h.imm,⟨[],rfl⟩,h.tok⟩
theorem Hld.made {U U':Qa T} {b:Nat} {e:TypeId} {c:Array Value} (h:U.le U') (hf:U'.free b):Hld U b e c (U'.put b (.cells c e)):=by
 refine⟨h.imm,by show _::U'.M=_;rw [h.own],h.tok,?_⟩;cases hb:U.I b with
 | none=>rfl
 | some o=>have:=h.imm b o hb;rw [hf.1] at this;cases this
end Go.TM
namespace Go.Proofs
open Go.TM Go.ChangeShapes Go.WideShapes Go.RowKit
section
variable {H:Type} {enc:TypeId×Value->H} {W:World} {fuel:Nat} {x:DataW H×List MemPlace} {v:Value} {cs:List Value}
theorem Zof {k:IntKind} {t:TypeId} {m:Nat} (hu:prog.underlying t=some (.int k)) (h0:k.min=0) (hm:k.max=(m:Int)) (h:Trd enc prog W fuel t cs=some x):∃u:Nat,cs=[.int k u]/\u<=m:=by
 obtain⟨n,h1,-,hw⟩:=DataW.trod_int hu h;simp only [Lit.wf,Bool.and_eq_true,decide_eq_true_eq] at hw;rw [h0,hm] at hw;obtain⟨u,rfl⟩:=Int.eq_ofNat_of_zero_le hw.1;exact⟨u,h1,by omega⟩
theorem Zoh (h:Trd enc prog W fuel 5 [v]=some x):∃u:Nat,v=.int .u8 u/\u<256:=by
 obtain⟨u,h1,h2⟩:=Zof (m:=255) Zpm (by decide) (by decide) h;exact⟨u,by simpa using h1,by omega⟩
end
end Go.Proofs
