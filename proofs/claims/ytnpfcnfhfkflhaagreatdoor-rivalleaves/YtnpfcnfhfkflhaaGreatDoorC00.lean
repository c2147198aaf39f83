/- Lemmas of the proof. No conditions of their own. -/
import Derived.Test.YtnpfcnfhfkflhaaGreatDoorB09
import Derived.Test.YtnpfcnfhfkflhaaGreatDoorB42
import Derived.Test.YtnpfcnfhfkflhaaGreatDoorB44
set_option linter.all false
open Go.Proofs.Tryz (prog)
set_option maxRecDepth 100000
noncomputable section
namespace Go.TM
variable {T:Type} {P:Program} {S:Sys P T}
theorem Qb.sep0 {f:FuncId} {args:Array Value} {R:Value->Qa T->Prop} {U:Qa T} (h:Sep U->Qb S f args R U):Qb S f args R U:=by
 intro Stop m c cs k;by_cases hs:Sep U
 ·exact h hs Stop m c cs k
 ·exact .priv ⟨rfl,λ w ok=>absurd ok.sep hs⟩
end Go.TM
namespace Go.Proofs
open Go.TM
def Zc6:C:=(.seq (.reg [.d 4 (.mv (.const (.bool false)))])
 (.seq (.seq (.reg [.d 5 (.mv (.const (.int .i64 0)))])
 (.block 0 (.loop (.seq (.seq (.reg [.m 6 5,.m 7 0,.d 8 (.len (.tmp 7)),.d 9 (.cmp .lss (.tmp 6) (.tmp 8))])
 (.ite (.tmp 9) .skip (.exit 0)))
 (.seq (.block 1 (.seq (.reg [.m 12 0,.m 13 5,.d 14 (.idx 1 (.tmp 12) (.tmp 13)),.d 15 (.ld (.tmp 14)),.m 16 1,.d 17 (.cmp .eql (.tmp 15) (.tmp 16))])
 (.ite (.tmp 17) (.seq (.reg [.d 4 (.mv (.const (.bool true)))])
 .ret) .skip)))
 (.reg [.m 10 5,.d 11 (.add (.tmp 10) (.const (.int .i64 1))),.m 5 11]))))))
 (.seq (.reg [.d 4 (.mv (.const (.bool false)))])
 .ret)))
theorem Qdh:Zf prog 38 18 Zc6 [.t 4]:=.mk' [] [] Tryz.func38 rfl (by kernel_rfl) (by kernel_rfl) (by kernel_rfl) (by kernel_rfl)
def Zk5:C:=(.seq (.reg [.d 4 (.mv (.const (.bool false)))])
 (.seq (.seq (.reg [.m 6 0,.d 7 (.len (.tmp 6)),.m 8 1,.d 9 (.len (.tmp 8)),.d 10 (.cmp .neq (.tmp 7) (.tmp 9))])
 (.ite (.tmp 10) (.seq (.reg [.d 4 (.mv (.const (.bool false)))])
 .ret) .skip))
 (.seq (.seq (.reg [.d 5 (.mv (.const (.int .i64 0)))])
 (.block 0 (.loop (.seq (.seq (.reg [.m 11 5,.m 12 0,.d 13 (.len (.tmp 12)),.d 14 (.cmp .lss (.tmp 11) (.tmp 13))])
 (.ite (.tmp 14) .skip (.exit 0)))
 (.seq (.block 1 (.seq (.drw [(0,.m 17 0),(0,.m 18 5),(0,.d 19 (.idx 1 (.tmp 17) (.tmp 18))),(0,.d 20 (.ld (.tmp 19))),(0,.m 21 1),(0,.m 22 5),(0,.d 23 (.idx 1 (.tmp 21) (.tmp 22))),(0,.d 24 (.ld (.tmp 23)))] [.d 25 (.teq .neq (.tmp 20) (.tmp 24))])
 (.ite (.tmp 25) (.seq (.reg [.d 4 (.mv (.const (.bool false)))])
 .ret) .skip)))
 (.reg [.m 15 5,.d 16 (.add (.tmp 15) (.const (.int .i64 1))),.m 5 16]))))))
 (.seq (.reg [.d 4 (.mv (.const (.bool true)))])
 .ret))))
theorem Q0h:Zf prog 59 26 Zk5 [.t 4]:=.mk' [] [] Tryz.func59 rfl (by kernel_rfl) (by kernel_rfl) (by kernel_rfl) (by kernel_rfl)
def Zg3:C:=(.seq (.reg [.d 2 (.box 25 (.tmp 0)),.d 4 (.alloc 25 #[(.slice none 0 0),(.slice none 0 0)]),.d 5 (.mv (.const (.int .i64 0)))])
 (.seq (.seq (.reg [.d 8 (.ldn 2 (.tmp 2)),.d 9 (.call (.func 23) #[(.tmp 8)]),.m 6 9])
 (.seq (.reg [.m 10 6,.d 11 (.cmp .neq (.tmp 10) (.const (.int .i64 0)))])
 (.ite (.tmp 11) (.seq (.reg [.d 12 (.build #[(.slice none 0 0),(.slice none 0 0)] []),.m 13 6,⟨.st 2 (.tmp 4) (.tmp 12),none,none,none⟩,.m 5 13])
 .ret) .skip)))
 (.seq (.seq (.reg [.m 14 1,.d 15 (.off 1 (.tmp 2)),.d 16 (.ld (.tmp 15)),.d 17 (.len (.tmp 16)),.d 18 (.call (.func 92) #[(.tmp 14),(.tmp 17)]),.m 7 18])
 (.seq (.reg [.m 19 7,.d 20 (.cmp .neq (.tmp 19) (.const (.int .i64 0)))])
 (.ite (.tmp 20) (.seq (.reg [.d 21 (.build #[(.slice none 0 0),(.slice none 0 0)] []),.m 22 7,⟨.st 2 (.tmp 4) (.tmp 21),none,none,none⟩,.m 5 22])
 .ret) .skip)))
 (.seq (.drw [(0,.d 23 (.ldn 2 (.tmp 2))),(0,.d 24 (.build #[(.slice none 0 0),(.slice none 0 0)] [(0,2,(.tmp 23))])),(0,.m 25 1),(1,.d 26 (.call (.func 68) #[(.tmp 25)]))] [.d 27 (.call (.func 87) #[(.tmp 24),(.tmp 26)]),.d 28 (.part 0 2 (.tmp 27)),⟨.st 2 (.tmp 4) (.tmp 28),none,none,none⟩,.d 5 (.mv (.const (.int .i64 0)))])
 .ret))))
theorem Qek:Zf prog 41 29 Zg3 [.cn 4 2,.t 5]:=.mk' [] [26] Tryz.func41 rfl (by kernel_rfl) (by kernel_rfl) (by kernel_rfl) (by kernel_rfl)
def Zc5:C:=(.seq (.reg [.d 2 (.box 25 (.tmp 0)),.d 4 (.mv (.const (.slice none 0 0)))])
 (.seq (.reg [.d 5 (.mv (.const (.slice none 0 0)))])
 (.seq (.block 0 (.loop (.seq (.seq (.reg [.m 10 5,.d 11 (.len (.tmp 10)),.d 12 (.off 1 (.tmp 2)),.d 13 (.ld (.tmp 12)),.d 14 (.len (.tmp 13)),.d 15 (.cmp .lss (.tmp 11) (.tmp 14))])
 (.ite (.tmp 15) .skip (.exit 0)))
 (.block 1 (.seq (.reg [.d 6 (.mv (.const (.slice none 0 0)))])
 (.seq (.seq (.reg [.d 7 (.mv (.const (.int .i64 0)))])
 (.block 2 (.loop (.seq (.seq (.reg [.m 16 7,.d 17 (.off 1 (.tmp 2)),.d 18 (.ld (.tmp 17)),.d 19 (.len (.tmp 18)),.d 20 (.cmp .lss (.tmp 16) (.tmp 19))])
 (.ite (.tmp 20) .skip (.exit 2)))
 (.seq (.block 3 (.seq (.reg [.m 23 5,.m 24 7,.d 25 (.call (.func 38) #[(.tmp 23),(.tmp 24)]),.d 26 (.not (.tmp 25)),.m 8 26])
 (.seq (.seq (.reg [.d 9 (.mv (.const (.int .i64 0)))])
 (.block 4 (.loop (.seq (.seq (.reg [.m 27 9,.d 28 (.off 1 (.tmp 2)),.d 29 (.ld (.tmp 28)),.m 30 7,.d 31 (.idx 4 (.tmp 29) (.tmp 30)),.d 32 (.off 3 (.tmp 31)),.d 33 (.ld (.tmp 32)),.d 34 (.len (.tmp 33)),.d 35 (.cmp .lss (.tmp 27) (.tmp 34))])
 (.ite (.tmp 35) .skip (.exit 4)))
 (.seq (.block 5 (.reg [.m 38 8,.m 39 38,.u 40 39 true (.mv (.tmp 5)),.u 41 39 true (.off 1 (.tmp 2)),.u 42 39 true (.ld (.tmp 41)),.u 43 39 true (.mv (.tmp 7)),.u 44 39 true (.idx 4 (.tmp 42) (.tmp 43)),.u 45 39 true (.off 3 (.tmp 44)),.u 46 39 true (.ld (.tmp 45)),.u 47 39 true (.mv (.tmp 9)),.u 48 39 true (.idx 1 (.tmp 46) (.tmp 47)),.u 49 39 true (.ld (.tmp 48)),.u 50 39 true (.call (.func 38) #[(.tmp 40),(.tmp 49)]),.d 51 (.pick (.tmp 39) (.tmp 50) (.const (.bool false))),.m 8 51]))
 (.reg [.m 36 9,.d 37 (.add (.tmp 36) (.const (.int .i64 1))),.m 9 37]))))))
 (.seq (.reg [.m 52 8])
 (.ite (.tmp 52) (.reg [.m 53 6,.m 54 7,.d 55 (.bsl 3 1 #[(.int .i64 0)] [(0,1,(.tmp 54))]),.d 56 (.raw { dst:=none,op:=(.call { callee:=.builtin .append,args:=#[(.tmp 53),(.tmp 55)],argTypes:=#[26,26] }),type:=26,pos := "", after:=#[],guard:=none }),.m 6 56]) .skip)))))
 (.reg [.m 21 7,.d 22 (.add (.tmp 21) (.const (.int .i64 1))),.m 7 22]))))))
 (.reg [.m 57 5,.m 58 6,.m 59 1,.m 60 5,.d 61 (.len (.tmp 60)),.d 62 (.call (.func 83) #[(.tmp 59),(.tmp 61)]),.m 63 6,.d 64 (.len (.tmp 63)),.d 65 (.ar .rem (.tmp 62) (.tmp 64)),.d 66 (.idx 1 (.tmp 58) (.tmp 65)),.d 67 (.ld (.tmp 66)),.d 68 (.bsl 3 1 #[(.int .i64 0)] [(0,1,(.tmp 67))]),.d 69 (.raw { dst:=none,op:=(.call { callee:=.builtin .append,args:=#[(.tmp 57),(.tmp 68)],argTypes:=#[26,26] }),type:=26,pos := "", after:=#[],guard:=none }),.m 5 69])))))))
 (.seq (.reg [.m 70 5,.m 4 70])
 .ret))))
theorem Qvz:Zf prog 33 71 Zc5 [.t 4]:=.mk' [] [] Tryz.func33 rfl (by kernel_rfl) (by kernel_rfl) (by kernel_rfl) (by kernel_rfl)
def Zk4:C:=(.seq (.reg [.d 2 (.box 25 (.tmp 0)),.d 4 (.mv (.const (.slice none 0 0)))])
 (.seq (.reg [.d 5 (.mv (.const (.slice none 0 0)))])
 (.seq (.seq (.reg [.d 6 (.mv (.const (.int .i64 0)))])
 (.block 0 (.loop (.seq (.seq (.reg [.m 7 6,.d 8 (.off 1 (.tmp 2)),.d 9 (.ld (.tmp 8)),.d 10 (.len (.tmp 9)),.d 11 (.cmp .lss (.tmp 7) (.tmp 10))])
 (.ite (.tmp 11) .skip (.exit 0)))
 (.seq (.block 1 (.seq (.reg [.m 14 1,.m 15 6,.d 16 (.ar .shr (.tmp 14) (.tmp 15)),.d 17 (.ar .and (.tmp 16) (.const (.int .u8 1))),.d 18 (.cmp .eql (.tmp 17) (.const (.int .u8 1)))])
 (.ite (.tmp 18) (.reg [.m 19 5,.m 20 6,.d 21 (.bsl 3 1 #[(.int .i64 0)] [(0,1,(.tmp 20))]),.d 22 (.raw { dst:=none,op:=(.call { callee:=.builtin .append,args:=#[(.tmp 19),(.tmp 21)],argTypes:=#[26,26] }),type:=26,pos := "", after:=#[],guard:=none }),.m 5 22]) .skip)))
 (.reg [.m 12 6,.d 13 (.add (.tmp 12) (.const (.int .i64 1))),.m 6 13]))))))
 (.seq (.reg [.m 23 5,.m 4 23])
 .ret))))
theorem Qzk:Zf prog 47 24 Zk4 [.t 4]:=.mk' [] [] Tryz.func47 rfl (by kernel_rfl) (by kernel_rfl) (by kernel_rfl) (by kernel_rfl)
def Zk8:C:=(.seq (.reg [.d 4 (.mv (.const (.int .i64 0)))])
 (.seq (.seq (.reg [.m 5 1,.m 6 0,.d 7 (.len (.tmp 6)),.d 8 (.cmp .lss (.tmp 5) (.tmp 7))])
 (.ite (.tmp 8) (.seq (.reg [.m 9 0,.m 10 1,.d 11 (.idx 1 (.tmp 9) (.tmp 10)),.d 12 (.ld (.tmp 11)),.d 13 (.conv .i64 (.tmp 12)),.m 4 13])
 .ret) .skip))
 (.seq (.reg [.d 4 (.mv (.const (.int .i64 0)))])
 .ret)))
theorem Q0j:Zf prog 83 14 Zk8 [.t 4]:=.mk' [] [] Tryz.func83 rfl (by kernel_rfl) (by kernel_rfl) (by kernel_rfl) (by kernel_rfl)
def Zg4:C:=(.seq (.reg [.d 2 (.box 25 (.tmp 0)),.d 3 (.box 25 (.tmp 1)),.d 4 (.mv (.const (.bool false)))])
 (.seq (.seq (.reg [.d 9 (.off 0 (.tmp 2)),.d 10 (.ld (.tmp 9)),.d 11 (.off 0 (.tmp 3)),.d 12 (.ld (.tmp 11)),.d 13 (.call (.func 59) #[(.tmp 10),(.tmp 12)]),.d 14 (.not (.tmp 13)),.m 15 14,.u 16 15 false (.off 1 (.tmp 2)),.u 17 15 false (.ld (.tmp 16)),.u 18 15 false (.len (.tmp 17)),.u 19 15 false (.off 1 (.tmp 3)),.u 20 15 false (.ld (.tmp 19)),.u 21 15 false (.len (.tmp 20)),.u 22 15 false (.cmp .neq (.tmp 18) (.tmp 21)),.d 23 (.pick (.tmp 15) (.const (.bool true)) (.tmp 22))])
 (.ite (.tmp 23) (.seq (.reg [.d 4 (.mv (.const (.bool false)))])
 .ret) .skip))
 (.seq (.seq (.reg [.d 5 (.mv (.const (.int .i64 0)))])
 (.block 0 (.loop (.seq (.seq (.reg [.m 24 5,.d 25 (.off 1 (.tmp 2)),.d 26 (.ld (.tmp 25)),.d 27 (.len (.tmp 26)),.d 28 (.cmp .lss (.tmp 24) (.tmp 27))])
 (.ite (.tmp 28) .skip (.exit 0)))
 (.seq (.block 1 (.seq (.cd 89 (Zgm Tryz.f43 6))
 (.seq (.seq (.reg [.d 41 (.off 0 (.tmp 6)),.d 42 (.ld (.tmp 41)),.d 43 (.off 0 (.tmp 7)),.d 44 (.ld (.tmp 43)),.d 45 (.teq .neq (.tmp 42) (.tmp 44)),.m 46 45,.u 47 46 false (.off 1 (.tmp 6)),.u 48 46 false (.ld (.tmp 47)),.u 49 46 false (.off 1 (.tmp 7)),.u 50 46 false (.ld (.tmp 49)),.u 51 46 false (.cmp .neq (.tmp 48) (.tmp 50)),.d 52 (.pick (.tmp 46) (.const (.bool true)) (.tmp 51)),.m 53 52,.u 54 53 false (.off 3 (.tmp 6)),.u 55 53 false (.ld (.tmp 54)),.u 56 53 false (.off 3 (.tmp 7)),.u 57 53 false (.ld (.tmp 56)),.u 58 53 false (.call (.func 31) #[(.tmp 55),(.tmp 57)]),.u 59 53 false (.not (.tmp 58)),.d 60 (.pick (.tmp 53) (.const (.bool true)) (.tmp 59)),.m 61 60,.u 62 61 false (.off 2 (.tmp 6)),.u 63 61 false (.ld (.tmp 62)),.u 64 61 false (.len (.tmp 63)),.u 65 61 false (.off 2 (.tmp 7)),.u 66 61 false (.ld (.tmp 65)),.u 67 61 false (.len (.tmp 66)),.u 68 61 false (.cmp .neq (.tmp 64) (.tmp 67)),.d 69 (.pick (.tmp 61) (.const (.bool true)) (.tmp 68))])
 (.ite (.tmp 69) (.seq (.reg [.d 4 (.mv (.const (.bool false)))])
 .ret) .skip))
 (.seq (.reg [.d 8 (.mv (.const (.int .i64 0)))])
 (.block 2 (.loop (.seq (.seq (.reg [.m 70 8,.d 71 (.off 2 (.tmp 6)),.d 72 (.ld (.tmp 71)),.d 73 (.len (.tmp 72)),.d 74 (.cmp .lss (.tmp 70) (.tmp 73))])
 (.ite (.tmp 74) .skip (.exit 2)))
 (.seq (.block 3 (.seq (.drw [(0,.d 77 (.off 2 (.tmp 6))),(0,.d 78 (.ld (.tmp 77))),(0,.m 79 8),(0,.d 80 (.idx 1 (.tmp 78) (.tmp 79))),(0,.d 81 (.ld (.tmp 80))),(0,.d 82 (.off 2 (.tmp 7))),(0,.d 83 (.ld (.tmp 82))),(0,.m 84 8),(0,.d 85 (.idx 1 (.tmp 83) (.tmp 84))),(0,.d 86 (.ld (.tmp 85)))] [.d 87 (.call (.func 31) #[(.tmp 81),(.tmp 86)]),.d 88 (.not (.tmp 87))])
 (.ite (.tmp 88) (.seq (.reg [.d 4 (.mv (.const (.bool false)))])
 .ret) .skip)))
 (.reg [.m 75 8,.d 76 (.add (.tmp 75) (.const (.int .i64 1))),.m 8 76])))))))))
 (.reg [.m 29 5,.d 30 (.add (.tmp 29) (.const (.int .i64 1))),.m 5 30]))))))
 (.seq (.reg [.d 4 (.mv (.const (.bool true)))])
 .ret))))
theorem Qpj:Zf prog 43 89 Zg4 [.t 4]:=.mk' [] [87] Tryz.func43 rfl (by kernel_rfl) (by kernel_rfl) (by kernel_rfl) (by kernel_rfl)
end Go.Proofs
set_option linter.unusedSimpArgs false
namespace Go.TM
variable {T:Type} {P:Program} {S:Sys P T} {fn:FuncId} {ro:Option Nat}
theorem Hld.frz1 {U U':Qa T} {b:Nat} {e:TypeId} {c:Array Value} (h:Hld U b e c U'):U.frz.lg U':=⟨h.imm,⟨_,(List.append_nil _).symm⟩,h.tok⟩
theorem Hld.made {U U':Qa T} {b:Nat} {e:TypeId} {c:Array Value} (h:U.le U') (hf:U'.free b):Hld U b e c (U'.put b (.cells c e)):=by
 refine⟨h.imm,by show _::U'.M=_;rw [h.own],h.tok,?_⟩;cases hb:U.I b with
 | none=>rfl
 | some o=>have:=h.imm b o hb;rw [hf.1] at this;cases this
end Go.TM
namespace Go.Proofs
open Go.TM
variable {T:Type} {S:TM.Sys prog T} {U:Qa T}
attribute [local irreducible] Qb Zl Wt
theorem Qbj (a:Option Addr) (len cap:Nat) (l:List Int) (hl:Z5 U a len l) (hlen:len<2 ^ 60) (n:Int) :
  Qb S 38 #[.slice a len cap,.int .i64 n] (λ v U'=>v=.bool (l.contains n)/\U'=U) U:=by
 refine Qb.of (args:=[_,_]) Qdh Qf (by simp) ?_
 repeat refine⟨rfl,?_⟩
 refine⟨Nat,λ i=>[(0,.slice a len cap),(1,.int .i64 n),(5,.int .i64 i)],λ i U'=>U'=U/\i<=len/\n∉l.take i,λ i=>len-i,0,⟨rfl,rfl,rfl,trivial⟩,⟨rfl,by omega,by simp⟩,?_⟩;rintro i f _ ⟨rfl,hi,hno⟩
 repeat refine⟨rfl,?_⟩
 conv=>whnf
 apply Qe<;>intro hc
 ·have hlt:i<len:=by simpa using hc
  obtain⟨ad,x,hx,rfl,hsp,hs⟩:=hl.at hlt;refine⟨ad,i,⟨rfl,rfl,hlt⟩,?_⟩;refine⟨_,hs,?_⟩
  repeat refine⟨rfl,?_⟩
  conv=>whnf
  apply Qe<;>intro hc
  ·repeat refine⟨rfl,?_⟩
   conv=>whnf
   have hxn:x=n:=by simpa using hc
   refine⟨?_,rfl⟩;have:n∈l:=hxn ▸ List.mem_of_getElem? hx;simp [this]
  ·have hxn:x≠n:=by simpa using hc
   refine⟨by unfold Zu;omega,?_⟩;refine⟨rfl,i+1,⟨rfl,rfl,rfl,trivial⟩,⟨rfl,by omega,?_⟩,by show _-_<_-_;omega⟩;rw [Ji hx];simp [hno,Ne.symm hxn]
 ·have hge:len<=i:=by simpa using hc
  repeat refine⟨rfl,?_⟩
  refine⟨?_,rfl⟩;have:l.take i=l:=List.take_of_length_le (by rw [hl.1];exact hge);rw [this] at hno;simp [hno]
end Go.Proofs
namespace Go.Proofs
open Go.TM Go.ChangeShapes Go.WideShapes Go.RowKit
section
variable {H:Type} {enc:TypeId×Value->H} {W:World} {fuel:Nat} {x:DataW H×List MemPlace} {v:Value} {cs:List Value}
theorem Zm0:prog.underlying 44=some (.slice 186):=by kernel_rfl
theorem Q41:prog.underlying 186=some (.int .u16):=by kernel_rfl
theorem Qqa:prog.cellsOf 186=1:=by kernel_rfl
theorem Qp5:0<prog.bytesOf 186:=of_decide_eq_true (by kernel_rfl)
theorem Zod {k:IntKind} {t:TypeId} {m:Nat} (hu:prog.underlying t=some (.int k)) (h0:k.min=0) (hm:k.max=(m:Int)) (h:Trd enc prog W fuel t cs=some x):∃u:Nat,cs=[.int k u]/\u<=m:=by
 obtain⟨n,h1,-,hw⟩:=DataW.trod_int hu h;simp only [Lit.wf,Bool.and_eq_true,decide_eq_true_eq] at hw;rw [h0,hm] at hw;obtain⟨u,rfl⟩:=Int.eq_ofNat_of_zero_le hw.1;exact⟨u,h1,by omega⟩
theorem Zom (h:Trd enc prog W fuel 5 [v]=some x):∃u:Nat,v=.int .u8 u/\u<256:=by
 obtain⟨u,h1,h2⟩:=Zod (m:=255) Zpm (by decide) (by decide) h;exact⟨u,by simpa using h1,by omega⟩
def Zol {T:Type} (U:Qa T) (a:Option Addr) (len:Nat) (l:List Nat):Prop:=Q5 U a len 1 l λ n vs=>vs=[.int .u16 (n:Int)]/\n<65536
theorem Zok (h:Trd enc prog W fuel 44 [v]=some x) (hz:Sz prog 44 x.1):∃a len cap l,v=.slice a len cap/\Zol (Qa.all W) a len l/\len<2 ^ 60:=by
 obtain⟨a,len,cap,l,h1,h2,h3⟩:=Qls (R:=λ (n:Nat) vs=>vs=[.int .u16 (n:Int)]/\n<65536) Zm0 Qqa (by decide) Qp5 h hz λ m r y hy _=>by
  obtain⟨u,h1,h2⟩:=Zod (m:=65535) Q41 (by decide) (by decide) hy;exact⟨u,h1,by omega⟩
 exact⟨a,len,cap,l,h1,h2,h3⟩
end
end Go.Proofs
end
