/- Lemmas of the proof. No conditions of their own. -/
import Derived.Test.YtnpfcnfhfkflhaaGreatDoorB09
import Derived.Test.YtnpfcnfhfkflhaaGreatDoorB42
import Derived.Test.YtnpfcnfhfkflhaaGreatDoorB44
set_option linter.all false
set_option maxRecDepth 100000
namespace Go.Proofs
open Go.TM
def Qp3:C:=(.seq (.reg [.d 4 (.mv (.const (.bool false)))])
 (.seq (.seq (.reg [.d 5 (.mv (.const (.int .i64 0)))])
 (.block 0 (.loop (.seq (.seq (.reg [.m 6 5,.m 7 0,.d 8 (.len (.tmp 7)),.d 9 (.cmp .lss (.tmp 6) (.tmp 8))])
 (.ite (.tmp 9) .skip (.exit 0)))
 (.seq (.block 1 (.seq (.reg [.m 12 0,.m 13 5,.d 14 (.idx 1 (.tmp 12) (.tmp 13)),.d 15 (.ld (.tmp 14)),.m 16 1,.d 17 (.cmp .eql (.tmp 15) (.tmp 16))])
 (.ite (.tmp 17) (.seq (.reg [.d 4 (.mv (.const (.bool true)))])
 .ret) .skip)))
 (.reg [.m 10 5,.d 11 (.add (.tmp 10) (.const (.int .i64 1))),.m 5 11]))))))
 (.seq (.reg [.d 4 (.mv (.const (.bool false)))])
 .ret)))
theorem Qf7:Zf Tryz.prog 38 18 Qp3 [.t 4]:=.mk' [] [] Tryz.func38 rfl (by kernel_rfl) (by kernel_rfl) (by kernel_rfl) (by kernel_rfl)
end Go.Proofs
namespace Go.Proofs
open Go.TM
variable {T:Type} {S:TM.Sys Tryz.prog T} {U:Qa T}
attribute [local irreducible] Qb Zl Wt
theorem Qcf (a:Option Addr) (len cap:Nat) (l:List Int) (hl:Z5 U a len l) (hlen:len<2 ^ 60) (n:Int) :
  Qb S 38 #[.slice a len cap,.int .i64 n] (λ v U'=>v=.bool (l.contains n)/\U'=U) U:=by
 refine Qb.of (args:=[_,_]) Qf7 Qf (by simp) ?_
 repeat refine⟨rfl,?_⟩
 refine⟨Nat,λ i=>[(0,.slice a len cap),(1,.int .i64 n),(5,.int .i64 i)],λ i U'=>U'=U/\i<=len/\n∉l.take i,λ i=>len-i,0,⟨rfl,rfl,rfl,trivial⟩,⟨rfl,by omega,by simp⟩,?_⟩;rintro i f _ ⟨rfl,hi,hno⟩
 repeat refine⟨rfl,?_⟩
 conv=>whnf
 apply Qe<;>intro hc
 ·have hlt:i<len:=by simpa using hc
  obtain⟨ad,x,hx,rfl,hsp,hs⟩:=hl.at hlt;refine⟨ad,i,⟨rfl,rfl,hlt⟩,?_⟩;refine⟨_,hs,?_⟩
  repeat refine⟨rfl,?_⟩
  conv=>whnf
  apply Qe<;>intro hc
  ·repeat refine⟨rfl,?_⟩
   conv=>whnf
   have hxn:x=n:=by simpa using hc
   refine⟨?_,rfl⟩;have:n∈l:=hxn ▸ List.mem_of_getElem? hx;simp [this]
  ·have hxn:x≠n:=by simpa using hc
   refine⟨by unfold Zu;omega,?_⟩;refine⟨rfl,i+1,⟨rfl,rfl,rfl,trivial⟩,⟨rfl,by omega,?_⟩,by show _-_<_-_;omega⟩;rw [Ji hx];simp [hno,Ne.symm hxn]
 ·have hge:len<=i:=by simpa using hc
  repeat refine⟨rfl,?_⟩
  refine⟨?_,rfl⟩;have:l.take i=l:=List.take_of_length_le (by rw [hl.1];exact hge);rw [this] at hno;simp [hno]
end Go.Proofs
namespace Go.Proofs
open Go.TM Go.ChangeShapes Go.WideShapes Go.RowKit
section
variable {H:Type} {enc:TypeId×Value->H} {W:World} {fuel:Nat} {x:DataW H×List MemPlace} {v:Value} {cs:List Value}
theorem Q0h {k:IntKind} {t:TypeId} {m:Nat} (hu:Tryz.prog.underlying t=some (.int k)) (h0:k.min=0) (hm:k.max=(m:Int)) (h:Trd enc Tryz.prog W fuel t cs=some x):∃u:Nat,cs=[.int k u]/\u<=m:=by
 obtain⟨n,h1,-,hw⟩:=DataW.trod_int hu h;simp only [Lit.wf,Bool.and_eq_true,decide_eq_true_eq] at hw;rw [h0,hm] at hw;obtain⟨u,rfl⟩:=Int.eq_ofNat_of_zero_le hw.1;exact⟨u,h1,by omega⟩
theorem Q0j (h:Trd enc Tryz.prog W fuel 5 [v]=some x):∃u:Nat,v=.int .u8 u/\u<256:=by
 obtain⟨u,h1,h2⟩:=Q0h (m:=255) Zpm (by decide) (by decide) h;exact⟨u,by simpa using h1,by omega⟩
end
end Go.Proofs
