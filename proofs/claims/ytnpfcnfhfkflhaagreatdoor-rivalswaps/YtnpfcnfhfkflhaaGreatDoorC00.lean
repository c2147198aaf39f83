/- Lemmas of the proof. No conditions of their own. -/
import Derived.Test.YtnpfcnfhfkflhaaGreatDoorB09
import Derived.Test.YtnpfcnfhfkflhaaGreatDoorB42
import Derived.Test.YtnpfcnfhfkflhaaGreatDoorB44
set_option linter.all false
open Go.Proofs.Tryz (prog)
set_option maxRecDepth 100000
noncomputable section
namespace Go.Proofs
open Go.TM
def Qzk:C:=(.seq (.reg [.d 4 (.mv (.const (.bool false)))])
 (.seq (.seq (.reg [.d 5 (.mv (.const (.int .i64 0)))])
 (.block 0 (.loop (.seq (.seq (.reg [.m 6 5,.m 7 0,.d 8 (.len (.tmp 7)),.d 9 (.cmp .lss (.tmp 6) (.tmp 8))])
 (.ite (.tmp 9) .skip (.exit 0)))
 (.seq (.block 1 (.seq (.reg [.m 12 0,.m 13 5,.d 14 (.idx 1 (.tmp 12) (.tmp 13)),.d 15 (.ld (.tmp 14)),.m 16 1,.d 17 (.cmp .eql (.tmp 15) (.tmp 16))])
 (.ite (.tmp 17) (.seq (.reg [.d 4 (.mv (.const (.bool true)))])
 .ret) .skip)))
 (.reg [.m 10 5,.d 11 (.add (.tmp 10) (.const (.int .i64 1))),.m 5 11]))))))
 (.seq (.reg [.d 4 (.mv (.const (.bool false)))])
 .ret)))
theorem Qaq:Zf prog 38 18 Qzk [.t 4]:=.mk' [] [] Tryz.func38 rfl (by kernel_rfl) (by kernel_rfl) (by kernel_rfl) (by kernel_rfl)
def Qvy:C:=(.seq (.reg [.d 2 (.box 25 (.tmp 0)),.d 4 (.mv (.const (.slice none 0 0)))])
 (.seq (.reg [.d 5 (.mv (.const (.slice none 0 0)))])
 (.seq (.block 0 (.loop (.seq (.seq (.reg [.m 10 5,.d 11 (.len (.tmp 10)),.d 12 (.off 1 (.tmp 2)),.d 13 (.ld (.tmp 12)),.d 14 (.len (.tmp 13)),.d 15 (.cmp .lss (.tmp 11) (.tmp 14))])
 (.ite (.tmp 15) .skip (.exit 0)))
 (.block 1 (.seq (.reg [.d 6 (.mv (.const (.slice none 0 0)))])
 (.seq (.seq (.reg [.d 7 (.mv (.const (.int .i64 0)))])
 (.block 2 (.loop (.seq (.seq (.reg [.m 16 7,.d 17 (.off 1 (.tmp 2)),.d 18 (.ld (.tmp 17)),.d 19 (.len (.tmp 18)),.d 20 (.cmp .lss (.tmp 16) (.tmp 19))])
 (.ite (.tmp 20) .skip (.exit 2)))
 (.seq (.block 3 (.seq (.reg [.m 23 5,.m 24 7,.d 25 (.call (.func 38) #[(.tmp 23),(.tmp 24)]),.d 26 (.not (.tmp 25)),.m 8 26])
 (.seq (.seq (.reg [.d 9 (.mv (.const (.int .i64 0)))])
 (.block 4 (.loop (.seq (.seq (.reg [.m 27 9,.d 28 (.off 1 (.tmp 2)),.d 29 (.ld (.tmp 28)),.m 30 7,.d 31 (.idx 4 (.tmp 29) (.tmp 30)),.d 32 (.off 3 (.tmp 31)),.d 33 (.ld (.tmp 32)),.d 34 (.len (.tmp 33)),.d 35 (.cmp .lss (.tmp 27) (.tmp 34))])
 (.ite (.tmp 35) .skip (.exit 4)))
 (.seq (.block 5 (.reg [.m 38 8,.m 39 38,.u 40 39 true (.mv (.tmp 5)),.u 41 39 true (.off 1 (.tmp 2)),.u 42 39 true (.ld (.tmp 41)),.u 43 39 true (.mv (.tmp 7)),.u 44 39 true (.idx 4 (.tmp 42) (.tmp 43)),.u 45 39 true (.off 3 (.tmp 44)),.u 46 39 true (.ld (.tmp 45)),.u 47 39 true (.mv (.tmp 9)),.u 48 39 true (.idx 1 (.tmp 46) (.tmp 47)),.u 49 39 true (.ld (.tmp 48)),.u 50 39 true (.call (.func 38) #[(.tmp 40),(.tmp 49)]),.d 51 (.pick (.tmp 39) (.tmp 50) (.const (.bool false))),.m 8 51]))
 (.reg [.m 36 9,.d 37 (.add (.tmp 36) (.const (.int .i64 1))),.m 9 37]))))))
 (.seq (.reg [.m 52 8])
 (.ite (.tmp 52) (.reg [.m 53 6,.m 54 7,.d 55 (.bsl 3 1 #[(.int .i64 0)] [(0,1,(.tmp 54))]),.d 56 (.raw { dst:=none,op:=(.call { callee:=.builtin .append,args:=#[(.tmp 53),(.tmp 55)],argTypes:=#[26,26] }),type:=26,pos := "", after:=#[],guard:=none }),.m 6 56]) .skip)))))
 (.reg [.m 21 7,.d 22 (.add (.tmp 21) (.const (.int .i64 1))),.m 7 22]))))))
 (.reg [.m 57 5,.m 58 6,.m 59 1,.m 60 5,.d 61 (.len (.tmp 60)),.d 62 (.call (.func 83) #[(.tmp 59),(.tmp 61)]),.m 63 6,.d 64 (.len (.tmp 63)),.d 65 (.ar .rem (.tmp 62) (.tmp 64)),.d 66 (.idx 1 (.tmp 58) (.tmp 65)),.d 67 (.ld (.tmp 66)),.d 68 (.bsl 3 1 #[(.int .i64 0)] [(0,1,(.tmp 67))]),.d 69 (.raw { dst:=none,op:=(.call { callee:=.builtin .append,args:=#[(.tmp 57),(.tmp 68)],argTypes:=#[26,26] }),type:=26,pos := "", after:=#[],guard:=none }),.m 5 69])))))))
 (.seq (.reg [.m 70 5,.m 4 70])
 .ret))))
theorem Qlg:Zf prog 33 71 Qvy [.t 4]:=.mk' [] [] Tryz.func33 rfl (by kernel_rfl) (by kernel_rfl) (by kernel_rfl) (by kernel_rfl)
def Qvz:C:=(.seq (.reg [.d 3 (.box 25 (.tmp 0)),.d 6 (.mv (.const (.bool false)))])
 (.seq (.cd 63 (Zgm Tryz.f37 1))
 (.seq (.seq (.reg [.d 9 (.mv (.const (.int .i64 0)))])
 (.block 0 (.loop (.seq (.seq (.reg [.m 21 9,.d 22 (.off 2 (.tmp 7)),.d 23 (.ld (.tmp 22)),.d 24 (.len (.tmp 23)),.d 25 (.cmp .lss (.tmp 21) (.tmp 24))])
 (.ite (.tmp 25) .skip (.exit 0)))
 (.seq (.block 1 (.seq (.drw [(0,.d 28 (.off 2 (.tmp 7))),(0,.d 29 (.ld (.tmp 28))),(0,.m 30 9),(0,.d 31 (.idx 1 (.tmp 29) (.tmp 30))),(0,.d 32 (.ld (.tmp 31))),(0,.d 33 (.off 1 (.tmp 8))),(0,.d 34 (.ld (.tmp 33)))] [.d 35 (.call (.func 38) #[(.tmp 32),(.tmp 34)])])
 (.ite (.tmp 35) (.seq (.reg [.d 6 (.mv (.const (.bool false)))])
 .ret) .skip)))
 (.reg [.m 26 9,.d 27 (.add (.tmp 26) (.const (.int .i64 1))),.m 9 27]))))))
 (.seq (.seq (.reg [.d 10 (.mv (.const (.int .i64 0)))])
 (.block 2 (.loop (.seq (.seq (.reg [.m 36 10,.d 37 (.off 2 (.tmp 8)),.d 38 (.ld (.tmp 37)),.d 39 (.len (.tmp 38)),.d 40 (.cmp .lss (.tmp 36) (.tmp 39))])
 (.ite (.tmp 40) .skip (.exit 2)))
 (.seq (.block 3 (.seq (.drw [(0,.d 43 (.off 2 (.tmp 8))),(0,.d 44 (.ld (.tmp 43))),(0,.m 45 10),(0,.d 46 (.idx 1 (.tmp 44) (.tmp 45))),(0,.d 47 (.ld (.tmp 46))),(0,.d 48 (.off 1 (.tmp 7))),(0,.d 49 (.ld (.tmp 48)))] [.d 50 (.call (.func 38) #[(.tmp 47),(.tmp 49)])])
 (.ite (.tmp 50) (.seq (.reg [.d 6 (.mv (.const (.bool false)))])
 .ret) .skip)))
 (.reg [.m 41 10,.d 42 (.add (.tmp 41) (.const (.int .i64 1))),.m 10 42]))))))
 (.seq (.reg [.d 51 (.off 3 (.tmp 7)),.d 52 (.ld (.tmp 51)),.m 53 2,.d 54 (.call (.func 38) #[(.tmp 52),(.tmp 53)]),.d 55 (.not (.tmp 54)),.m 56 55,.u 57 56 true (.off 3 (.tmp 8)),.u 58 56 true (.ld (.tmp 57)),.u 59 56 true (.mv (.tmp 1)),.u 60 56 true (.call (.func 38) #[(.tmp 58),(.tmp 59)]),.u 61 56 true (.not (.tmp 60)),.d 62 (.pick (.tmp 56) (.tmp 61) (.const (.bool false))),.m 6 62])
 .ret)))))
theorem Qoa:Zf prog 37 63 Qvz [.t 6]:=.mk' [] [35,50] Tryz.func37 rfl (by kernel_rfl) (by kernel_rfl) (by kernel_rfl) (by kernel_rfl)
def Q0h:C:=(.seq (.reg [.d 4 (.mv (.const (.int .i64 0)))])
 (.seq (.seq (.reg [.m 5 1,.m 6 0,.d 7 (.len (.tmp 6)),.d 8 (.cmp .lss (.tmp 5) (.tmp 7))])
 (.ite (.tmp 8) (.seq (.reg [.m 9 0,.m 10 1,.d 11 (.idx 1 (.tmp 9) (.tmp 10)),.d 12 (.ld (.tmp 11)),.d 13 (.conv .i64 (.tmp 12)),.m 4 13])
 .ret) .skip))
 (.seq (.reg [.d 4 (.mv (.const (.int .i64 0)))])
 .ret)))
theorem Qpf:Zf prog 83 14 Q0h [.t 4]:=.mk' [] [] Tryz.func83 rfl (by kernel_rfl) (by kernel_rfl) (by kernel_rfl) (by kernel_rfl)
end Go.Proofs
set_option linter.unusedSimpArgs false
namespace Go.TM
variable {T:Type} {P:Program} {S:Sys P T} {fn:FuncId} {ro:Option Nat}
theorem Hld.frz1 {U U':Qa T} {b:Nat} {e:TypeId} {c:Array Value} (h:Hld U b e c U'):U.frz.lg U':=⟨h.imm,⟨_,(List.append_nil _).symm⟩,h.tok⟩
theorem Hld.made {U U':Qa T} {b:Nat} {e:TypeId} {c:Array Value} (h:U.le U') (hf:U'.free b):Hld U b e c (U'.put b (.cells c e)):=by
 refine⟨h.imm,by show _::U'.M=_;rw [h.own],h.tok,?_⟩;cases hb:U.I b with
 | none=>rfl
 | some o=>have:=h.imm b o hb;rw [hf.1] at this;cases this
end Go.TM
namespace Go.Proofs
open Go.TM
variable {T:Type} {S:TM.Sys prog T} {U:Qa T}
attribute [local irreducible] Qb Zl Wt
theorem Qae (a:Option Addr) (len cap:Nat) (l:List Int) (hl:Z5 U a len l) (hlen:len<2 ^ 60) (n:Int) :
  Qb S 38 #[.slice a len cap,.int .i64 n] (λ v U'=>v=.bool (l.contains n)/\U'=U) U:=by
 refine Qb.of (args:=[_,_]) Qaq Qf (by simp) ?_
 repeat refine⟨rfl,?_⟩
 refine⟨Nat,λ i=>[(0,.slice a len cap),(1,.int .i64 n),(5,.int .i64 i)],λ i U'=>U'=U/\i<=len/\n∉l.take i,λ i=>len-i,0,⟨rfl,rfl,rfl,trivial⟩,⟨rfl,by omega,by simp⟩,?_⟩;rintro i f _ ⟨rfl,hi,hno⟩
 repeat refine⟨rfl,?_⟩
 conv=>whnf
 apply Qe<;>intro hc
 ·have hlt:i<len:=by simpa using hc
  obtain⟨ad,x,hx,rfl,hsp,hs⟩:=hl.at hlt;refine⟨ad,i,⟨rfl,rfl,hlt⟩,?_⟩;refine⟨_,hs,?_⟩
  repeat refine⟨rfl,?_⟩
  conv=>whnf
  apply Qe<;>intro hc
  ·repeat refine⟨rfl,?_⟩
   conv=>whnf
   have hxn:x=n:=by simpa using hc
   refine⟨?_,rfl⟩;have:n∈l:=hxn ▸ List.mem_of_getElem? hx;simp [this]
  ·have hxn:x≠n:=by simpa using hc
   refine⟨by unfold Zu;omega,?_⟩;refine⟨rfl,i+1,⟨rfl,rfl,rfl,trivial⟩,⟨rfl,by omega,?_⟩,by show _-_<_-_;omega⟩;rw [Ji hx];simp [hno,Ne.symm hxn]
 ·have hge:len<=i:=by simpa using hc
  repeat refine⟨rfl,?_⟩
  refine⟨?_,rfl⟩;have:l.take i=l:=List.take_of_length_le (by rw [hl.1];exact hge);rw [this] at hno;simp [hno]
end Go.Proofs
namespace Go.Proofs
open Go.TM Go.ChangeShapes Go.WideShapes Go.RowKit
section
variable {H:Type} {enc:TypeId×Value->H} {W:World} {fuel:Nat} {x:DataW H×List MemPlace} {v:Value} {cs:List Value}
theorem Q0k:prog.underlying 44=some (.slice 186):=by kernel_rfl
theorem Qvo:prog.underlying 186=some (.int .u16):=by kernel_rfl
theorem Qf7:prog.cellsOf 186=1:=by kernel_rfl
theorem Qek:0<prog.bytesOf 186:=of_decide_eq_true (by kernel_rfl)
theorem Q4x {k:IntKind} {t:TypeId} {m:Nat} (hu:prog.underlying t=some (.int k)) (h0:k.min=0) (hm:k.max=(m:Int)) (h:Trd enc prog W fuel t cs=some x):∃u:Nat,cs=[.int k u]/\u<=m:=by
 obtain⟨n,h1,-,hw⟩:=DataW.trod_int hu h;simp only [Lit.wf,Bool.and_eq_true,decide_eq_true_eq] at hw;rw [h0,hm] at hw;obtain⟨u,rfl⟩:=Int.eq_ofNat_of_zero_le hw.1;exact⟨u,h1,by omega⟩
theorem Zg3 (h:Trd enc prog W fuel 5 [v]=some x):∃u:Nat,v=.int .u8 u/\u<256:=by
 obtain⟨u,h1,h2⟩:=Q4x (m:=255) Zpm (by decide) (by decide) h;exact⟨u,by simpa using h1,by omega⟩
def Zc6 {T:Type} (U:Qa T) (a:Option Addr) (len:Nat) (l:List Nat):Prop:=Q5 U a len 1 l λ n vs=>vs=[.int .u16 (n:Int)]/\n<65536
theorem Zc5 (h:Trd enc prog W fuel 44 [v]=some x) (hz:Sz prog 44 x.1):∃a len cap l,v=.slice a len cap/\Zc6 (Qa.all W) a len l/\len<2 ^ 60:=by
 obtain⟨a,len,cap,l,h1,h2,h3⟩:=Qls (R:=λ (n:Nat) vs=>vs=[.int .u16 (n:Int)]/\n<65536) Q0k Qf7 (by decide) Qek h hz λ m r y hy _=>by
  obtain⟨u,h1,h2⟩:=Q4x (m:=65535) Qvo (by decide) (by decide) hy;exact⟨u,h1,by omega⟩
 exact⟨a,len,cap,l,h1,h2,h3⟩
end
end Go.Proofs
end
