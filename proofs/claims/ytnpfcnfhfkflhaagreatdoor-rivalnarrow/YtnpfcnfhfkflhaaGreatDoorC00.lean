/- Lemmas of the proof. No conditions of their own. -/
import Derived.Test.YtnpfcnfhfkflhaaGreatDoorB09
import Derived.Test.YtnpfcnfhfkflhaaGreatDoorB42
import Derived.Test.YtnpfcnfhfkflhaaGreatDoorB44
set_option linter.all false
open Go.Proofs.Tryz (prog)
set_option maxRecDepth 100000
namespace Go.Proofs
open Go.TM
def Q41:C:=(.seq (.reg [.d 4 (.mv (.const (.bool false)))])
 (.seq (.seq (.reg [.d 5 (.mv (.const (.int .i64 0)))])
 (.block 0 (.loop (.seq (.seq (.reg [.m 6 5,.m 7 0,.d 8 (.len (.tmp 7)),.d 9 (.cmp .lss (.tmp 6) (.tmp 8))])
 (.ite (.tmp 9) .skip (.exit 0)))
 (.seq (.block 1 (.seq (.reg [.m 12 0,.m 13 5,.d 14 (.idx 1 (.tmp 12) (.tmp 13)),.d 15 (.ld (.tmp 14)),.m 16 1,.d 17 (.cmp .eql (.tmp 15) (.tmp 16))])
 (.ite (.tmp 17) (.seq (.reg [.d 4 (.mv (.const (.bool true)))])
 .ret) .skip)))
 (.reg [.m 10 5,.d 11 (.add (.tmp 10) (.const (.int .i64 1))),.m 5 11]))))))
 (.seq (.reg [.d 4 (.mv (.const (.bool false)))])
 .ret)))
theorem Qf7:Zf prog 38 18 Q41 [.t 4]:=.mk' [] [] Tryz.func38 rfl (by kernel_rfl) (by kernel_rfl) (by kernel_rfl) (by kernel_rfl)
def Zc3:C:=(.seq (.reg [.d 4 (.mv (.const (.bool false)))])
 (.seq (.seq (.reg [.m 6 0,.d 7 (.len (.tmp 6)),.m 8 1,.d 9 (.len (.tmp 8)),.d 10 (.cmp .neq (.tmp 7) (.tmp 9))])
 (.ite (.tmp 10) (.seq (.reg [.d 4 (.mv (.const (.bool false)))])
 .ret) .skip))
 (.seq (.seq (.reg [.d 5 (.mv (.const (.int .i64 0)))])
 (.block 0 (.loop (.seq (.seq (.reg [.m 11 5,.m 12 0,.d 13 (.len (.tmp 12)),.d 14 (.cmp .lss (.tmp 11) (.tmp 13))])
 (.ite (.tmp 14) .skip (.exit 0)))
 (.seq (.block 1 (.seq (.drw [(0,.m 17 0),(0,.m 18 5),(0,.d 19 (.idx 1 (.tmp 17) (.tmp 18))),(0,.d 20 (.ld (.tmp 19))),(0,.m 21 1),(0,.m 22 5),(0,.d 23 (.idx 1 (.tmp 21) (.tmp 22))),(0,.d 24 (.ld (.tmp 23)))] [.d 25 (.teq .neq (.tmp 20) (.tmp 24))])
 (.ite (.tmp 25) (.seq (.reg [.d 4 (.mv (.const (.bool false)))])
 .ret) .skip)))
 (.reg [.m 15 5,.d 16 (.add (.tmp 15) (.const (.int .i64 1))),.m 5 16]))))))
 (.seq (.reg [.d 4 (.mv (.const (.bool true)))])
 .ret))))
theorem Qqa:Zf prog 59 26 Zc3 [.t 4]:=.mk' [] [] Tryz.func59 rfl (by kernel_rfl) (by kernel_rfl) (by kernel_rfl) (by kernel_rfl)
def Zbz:C:=(.seq (.reg [.d 2 (.box 25 (.tmp 0)),.d 4 (.alloc 25 #[(.slice none 0 0),(.slice none 0 0)]),.d 5 (.mv (.const (.int .i64 0)))])
 (.seq (.seq (.reg [.d 11 (.ldn 2 (.tmp 2)),.d 12 (.call (.func 23) #[(.tmp 11)]),.m 6 12])
 (.seq (.reg [.m 13 6,.d 14 (.cmp .neq (.tmp 13) (.const (.int .i64 0)))])
 (.ite (.tmp 14) (.seq (.reg [.d 15 (.build #[(.slice none 0 0),(.slice none 0 0)] []),.m 16 6,⟨.st 2 (.tmp 4) (.tmp 15),none,none,none⟩,.m 5 16])
 .ret) .skip)))
 (.seq (.reg [.d 17 (.ldn 2 (.tmp 2)),.d 18 (.build #[(.slice none 0 0),(.slice none 0 0)] [(0,2,(.tmp 17))]),.d 19 (.call (.func 99) #[(.tmp 18)]),.d 7 (.alloc 86 #[(.slice none 0 0),(.slice none 0 0)]),⟨.st 2 (.tmp 7) (.tmp 19),none,none,none⟩])
 (.seq (.seq (.reg [.m 20 1,.d 21 (.len (.tmp 20)),.d 22 (.mv (.const (.int .i64 0)))])
 (.block 0 (.loop (.seq (.reg [.d 23 (.cmp .lss (.tmp 22) (.tmp 21))])
 (.seq (.ite (.tmp 23) .skip (.exit 0))
 (.seq (.block 1 (.seq (.reg [.d 24 (.idx 2 (.tmp 20) (.tmp 22)),.d 25 (.ldn 2 (.tmp 24)),.d 9 (.alloc 84 #[(.int .i64 0),(.int .i64 0)]),⟨.st 2 (.tmp 9) (.tmp 25),none,none,none⟩])
 (.seq (.block 2 (.seq (.reg [.d 27 (.off 0 (.tmp 9)),.d 28 (.ld (.tmp 27)),.d 29 (.off 1 (.tmp 2)),.d 30 (.ld (.tmp 29)),.d 31 (.len (.tmp 30)),.d 32 (.sub (.tmp 31) (.const (.int .i64 1))),.d 33 (.call (.func 66) #[(.tmp 28),(.const (.int .i64 0)),(.tmp 32)]),.d 34 (.not (.tmp 33)),.m 35 34,.u 36 35 false (.off 1 (.tmp 9)),.u 37 35 false (.ld (.tmp 36)),.u 38 35 false (.off 1 (.tmp 2)),.u 39 35 false (.ld (.tmp 38)),.u 40 35 false (.len (.tmp 39)),.u 41 35 false (.sub (.tmp 40) (.const (.int .i64 1))),.u 42 35 false (.call (.func 66) #[(.tmp 37),(.const (.int .i64 0)),(.tmp 41)]),.u 43 35 false (.not (.tmp 42)),.d 44 (.pick (.tmp 35) (.const (.bool true)) (.tmp 43)),.m 26 44])
 (.ite (.tmp 26) (.seq (.reg [.d 45 (.build #[(.slice none 0 0),(.slice none 0 0)] []),⟨.st 2 (.tmp 4) (.tmp 45),none,none,none⟩,.d 5 (.mv (.const (.int .i64 6)))])
 .ret) (.seq (.drw [(0,.d 47 (.off 0 (.tmp 7))),(0,.d 48 (.off 1 (.tmp 47))),(0,.d 49 (.ld (.tmp 48))),(0,.d 50 (.off 0 (.tmp 9))),(0,.d 51 (.ld (.tmp 50))),(0,.d 52 (.idx 4 (.tmp 49) (.tmp 51))),(0,.d 53 (.off 3 (.tmp 52))),(0,.d 54 (.ld (.tmp 53))),(0,.d 55 (.off 1 (.tmp 9))),(0,.d 56 (.ld (.tmp 55)))] [.d 57 (.call (.func 67) #[(.tmp 54),(.tmp 56)]),.m 46 57])
 (.ite (.tmp 46) (.seq (.reg [.d 58 (.build #[(.slice none 0 0),(.slice none 0 0)] []),⟨.st 2 (.tmp 4) (.tmp 58),none,none,none⟩,.d 5 (.mv (.const (.int .i64 5)))])
 .ret) .skip)))))
 (.reg [.d 59 (.ldn 2 (.tmp 7)),.d 60 (.ldn 2 (.tmp 9)),.d 61 (.call (.func 100) #[(.tmp 59),(.tmp 60)])]))))
 (.reg [.d 62 (.add (.tmp 22) (.const (.int .i64 1))),.m 22 62])))))))
 (.seq (.seq (.reg [.d 63 (.ldn 2 (.tmp 7)),.d 64 (.call (.func 101) #[(.tmp 63)]),.m 10 64])
 (.seq (.reg [.m 65 10,.d 66 (.cmp .neq (.tmp 65) (.const (.int .i64 0)))])
 (.ite (.tmp 66) (.seq (.reg [.d 67 (.build #[(.slice none 0 0),(.slice none 0 0)] []),.m 68 10,⟨.st 2 (.tmp 4) (.tmp 67),none,none,none⟩,.m 5 68])
 .ret) .skip)))
 (.seq (.reg [.d 69 (.off 0 (.tmp 7)),.d 70 (.ldn 2 (.tmp 69)),⟨.st 2 (.tmp 4) (.tmp 70),none,none,none⟩,.d 5 (.mv (.const (.int .i64 0)))])
 .ret))))))
theorem Qdc:Zf prog 55 71 Zbz [.cn 4 2,.t 5]:=.mk' [] [57] Tryz.func55 rfl (by kernel_rfl) (by kernel_rfl) (by kernel_rfl) (by kernel_rfl)
def Q4z:C:=(.seq (.reg [.d 2 (.box 25 (.tmp 0)),.d 4 (.mv (.const (.slice none 0 0)))])
 (.seq (.reg [.d 5 (.mv (.const (.slice none 0 0)))])
 (.seq (.block 0 (.loop (.seq (.seq (.reg [.m 10 5,.d 11 (.len (.tmp 10)),.d 12 (.off 1 (.tmp 2)),.d 13 (.ld (.tmp 12)),.d 14 (.len (.tmp 13)),.d 15 (.cmp .lss (.tmp 11) (.tmp 14))])
 (.ite (.tmp 15) .skip (.exit 0)))
 (.block 1 (.seq (.reg [.d 6 (.mv (.const (.slice none 0 0)))])
 (.seq (.seq (.reg [.d 7 (.mv (.const (.int .i64 0)))])
 (.block 2 (.loop (.seq (.seq (.reg [.m 16 7,.d 17 (.off 1 (.tmp 2)),.d 18 (.ld (.tmp 17)),.d 19 (.len (.tmp 18)),.d 20 (.cmp .lss (.tmp 16) (.tmp 19))])
 (.ite (.tmp 20) .skip (.exit 2)))
 (.seq (.block 3 (.seq (.reg [.m 23 5,.m 24 7,.d 25 (.call (.func 38) #[(.tmp 23),(.tmp 24)]),.d 26 (.not (.tmp 25)),.m 8 26])
 (.seq (.seq (.reg [.d 9 (.mv (.const (.int .i64 0)))])
 (.block 4 (.loop (.seq (.seq (.reg [.m 27 9,.d 28 (.off 1 (.tmp 2)),.d 29 (.ld (.tmp 28)),.m 30 7,.d 31 (.idx 4 (.tmp 29) (.tmp 30)),.d 32 (.off 3 (.tmp 31)),.d 33 (.ld (.tmp 32)),.d 34 (.len (.tmp 33)),.d 35 (.cmp .lss (.tmp 27) (.tmp 34))])
 (.ite (.tmp 35) .skip (.exit 4)))
 (.seq (.block 5 (.reg [.m 38 8,.m 39 38,.u 40 39 true (.mv (.tmp 5)),.u 41 39 true (.off 1 (.tmp 2)),.u 42 39 true (.ld (.tmp 41)),.u 43 39 true (.mv (.tmp 7)),.u 44 39 true (.idx 4 (.tmp 42) (.tmp 43)),.u 45 39 true (.off 3 (.tmp 44)),.u 46 39 true (.ld (.tmp 45)),.u 47 39 true (.mv (.tmp 9)),.u 48 39 true (.idx 1 (.tmp 46) (.tmp 47)),.u 49 39 true (.ld (.tmp 48)),.u 50 39 true (.call (.func 38) #[(.tmp 40),(.tmp 49)]),.d 51 (.pick (.tmp 39) (.tmp 50) (.const (.bool false))),.m 8 51]))
 (.reg [.m 36 9,.d 37 (.add (.tmp 36) (.const (.int .i64 1))),.m 9 37]))))))
 (.seq (.reg [.m 52 8])
 (.ite (.tmp 52) (.reg [.m 53 6,.m 54 7,.d 55 (.bsl 3 1 #[(.int .i64 0)] [(0,1,(.tmp 54))]),.d 56 (.raw { dst:=none,op:=(.call { callee:=.builtin .append,args:=#[(.tmp 53),(.tmp 55)],argTypes:=#[26,26] }),type:=26,pos := "", after:=#[],guard:=none }),.m 6 56]) .skip)))))
 (.reg [.m 21 7,.d 22 (.add (.tmp 21) (.const (.int .i64 1))),.m 7 22]))))))
 (.reg [.m 57 5,.m 58 6,.m 59 1,.m 60 5,.d 61 (.len (.tmp 60)),.d 62 (.call (.func 83) #[(.tmp 59),(.tmp 61)]),.m 63 6,.d 64 (.len (.tmp 63)),.d 65 (.ar .rem (.tmp 62) (.tmp 64)),.d 66 (.idx 1 (.tmp 58) (.tmp 65)),.d 67 (.ld (.tmp 66)),.d 68 (.bsl 3 1 #[(.int .i64 0)] [(0,1,(.tmp 67))]),.d 69 (.raw { dst:=none,op:=(.call { callee:=.builtin .append,args:=#[(.tmp 57),(.tmp 68)],argTypes:=#[26,26] }),type:=26,pos := "", after:=#[],guard:=none }),.m 5 69])))))))
 (.seq (.reg [.m 70 5,.m 4 70])
 .ret))))
theorem Qp5:Zf prog 33 71 Q4z [.t 4]:=.mk' [] [] Tryz.func33 rfl (by kernel_rfl) (by kernel_rfl) (by kernel_rfl) (by kernel_rfl)
def Zcx:C:=(.seq (.reg [.d 2 (.box 25 (.tmp 0)),.d 4 (.mv (.const (.slice none 0 0)))])
 (.seq (.reg [.d 5 (.mv (.const (.slice none 0 0)))])
 (.seq (.seq (.reg [.d 6 (.mv (.const (.int .i64 0)))])
 (.block 0 (.loop (.seq (.seq (.reg [.m 7 6,.m 8 1,.d 9 (.call (.func 83) #[(.tmp 8),(.const (.int .i64 20))]),.d 10 (.ar .rem (.tmp 9) (.const (.int .i64 5))),.d 11 (.cmp .lss (.tmp 7) (.tmp 10)),.m 12 11,.u 13 12 true (.off 1 (.tmp 2)),.u 14 12 true (.ld (.tmp 13)),.u 15 12 true (.len (.tmp 14)),.u 16 12 true (.cmp .gtr (.tmp 15) (.const (.int .i64 0))),.d 17 (.pick (.tmp 12) (.tmp 16) (.const (.bool false)))])
 (.ite (.tmp 17) .skip (.exit 0)))
 (.seq (.block 1 (.drw [(0,.m 20 5),(0,.m 21 1),(0,.m 22 6),(0,.d 23 (.mul (.const (.int .i64 2)) (.tmp 22))),(0,.d 24 (.add (.const (.int .i64 21)) (.tmp 23))),(1,.d 25 (.call (.func 83) #[(.tmp 21),(.tmp 24)])),(0,.d 26 (.off 1 (.tmp 2))),(0,.d 27 (.ld (.tmp 26))),(0,.d 28 (.len (.tmp 27))),(0,.d 29 (.ar .rem (.tmp 25) (.tmp 28))),(0,.m 30 1),(0,.m 31 6),(0,.d 32 (.mul (.const (.int .i64 2)) (.tmp 31))),(0,.d 33 (.add (.const (.int .i64 22)) (.tmp 32))),(1,.d 34 (.call (.func 83) #[(.tmp 30),(.tmp 33)])),(0,.d 35 (.off 1 (.tmp 2))),(0,.d 36 (.ld (.tmp 35))),(0,.d 37 (.len (.tmp 36))),(0,.d 38 (.ar .rem (.tmp 34) (.tmp 37))),(0,.d 39 (.build #[(.int .i64 0),(.int .i64 0)] [(0,1,(.tmp 29)),(1,1,(.tmp 38))])),(2,.d 40 (.bsl 84 1 #[(.int .i64 0),(.int .i64 0)] [(0,2,(.tmp 39))]))] [.d 41 (.raw { dst:=none,op:=(.call { callee:=.builtin .append,args:=#[(.tmp 20),(.tmp 40)],argTypes:=#[68,68] }),type:=68,pos := "", after:=#[],guard:=none }),.m 5 41]))
 (.reg [.m 18 6,.d 19 (.add (.tmp 18) (.const (.int .i64 1))),.m 6 19]))))))
 (.seq (.reg [.m 42 5,.m 4 42])
 .ret))))
theorem Qdg:Zf prog 57 43 Zcx [.t 4]:=.mk' [] [25,34] Tryz.func57 rfl (by kernel_rfl) (by kernel_rfl) (by kernel_rfl) (by kernel_rfl)
def Zc5:C:=(.seq (.reg [.d 4 (.mv (.const (.int .i64 0)))])
 (.seq (.seq (.reg [.m 5 1,.m 6 0,.d 7 (.len (.tmp 6)),.d 8 (.cmp .lss (.tmp 5) (.tmp 7))])
 (.ite (.tmp 8) (.seq (.reg [.m 9 0,.m 10 1,.d 11 (.idx 1 (.tmp 9) (.tmp 10)),.d 12 (.ld (.tmp 11)),.d 13 (.conv .i64 (.tmp 12)),.m 4 13])
 .ret) .skip))
 (.seq (.reg [.d 4 (.mv (.const (.int .i64 0)))])
 .ret)))
theorem Qbj:Zf prog 83 14 Zc5 [.t 4]:=.mk' [] [] Tryz.func83 rfl (by kernel_rfl) (by kernel_rfl) (by kernel_rfl) (by kernel_rfl)
end Go.Proofs
set_option linter.unusedSimpArgs false
namespace Go.TM
variable {T:Type} {P:Program} {S:Sys P T} {fn:FuncId} {ro:Option Nat}
theorem Hld.frz1 {U U':Qa T} {b:Nat} {e:TypeId} {c:Array Value} (h:Hld U b e c U'):U.frz.lg U':=⟨h.imm,⟨_,(List.append_nil _).symm⟩,h.tok⟩
theorem Hld.made {U U':Qa T} {b:Nat} {e:TypeId} {c:Array Value} (h:U.le U') (hf:U'.free b):Hld U b e c (U'.put b (.cells c e)):=by
 refine⟨h.imm,by show _::U'.M=_;rw [h.own],h.tok,?_⟩;cases hb:U.I b with
 | none=>rfl
 | some o=>have:=h.imm b o hb;rw [hf.1] at this;cases this
end Go.TM
namespace Go.Proofs
open Go.TM
variable {T:Type} {S:TM.Sys prog T} {U:Qa T}
attribute [local irreducible] Qb Zl Wt
theorem Qaq (a:Option Addr) (len cap:Nat) (l:List Int) (hl:Z5 U a len l) (hlen:len<2 ^ 60) (n:Int) :
  Qb S 38 #[.slice a len cap,.int .i64 n] (λ v U'=>v=.bool (l.contains n)/\U'=U) U:=by
 refine Qb.of (args:=[_,_]) Qf7 Qf (by simp) ?_
 repeat refine⟨rfl,?_⟩
 refine⟨Nat,λ i=>[(0,.slice a len cap),(1,.int .i64 n),(5,.int .i64 i)],λ i U'=>U'=U/\i<=len/\n∉l.take i,λ i=>len-i,0,⟨rfl,rfl,rfl,trivial⟩,⟨rfl,by omega,by simp⟩,?_⟩;rintro i f _ ⟨rfl,hi,hno⟩
 repeat refine⟨rfl,?_⟩
 conv=>whnf
 apply Qe<;>intro hc
 ·have hlt:i<len:=by simpa using hc
  obtain⟨ad,x,hx,rfl,hsp,hs⟩:=hl.at hlt;refine⟨ad,i,⟨rfl,rfl,hlt⟩,?_⟩;refine⟨_,hs,?_⟩
  repeat refine⟨rfl,?_⟩
  conv=>whnf
  apply Qe<;>intro hc
  ·repeat refine⟨rfl,?_⟩
   conv=>whnf
   have hxn:x=n:=by simpa using hc
   refine⟨?_,rfl⟩;have:n∈l:=hxn ▸ List.mem_of_getElem? hx;simp [this]
  ·have hxn:x≠n:=by simpa using hc
   refine⟨by unfold Zu;omega,?_⟩;refine⟨rfl,i+1,⟨rfl,rfl,rfl,trivial⟩,⟨rfl,by omega,?_⟩,by show _-_<_-_;omega⟩;rw [Ji hx];simp [hno,Ne.symm hxn]
 ·have hge:len<=i:=by simpa using hc
  repeat refine⟨rfl,?_⟩
  refine⟨?_,rfl⟩;have:l.take i=l:=List.take_of_length_le (by rw [hl.1];exact hge);rw [this] at hno;simp [hno]
end Go.Proofs
namespace Go.Proofs
open Go.TM Go.ChangeShapes Go.WideShapes Go.RowKit
section
variable {H:Type} {enc:TypeId×Value->H} {W:World} {fuel:Nat} {x:DataW H×List MemPlace} {v:Value} {cs:List Value}
theorem Zg3:prog.underlying 44=some (.slice 186):=by kernel_rfl
theorem Q0m:prog.underlying 186=some (.int .u16):=by kernel_rfl
theorem Qpj:prog.cellsOf 186=1:=by kernel_rfl
theorem Qpf:0<prog.bytesOf 186:=of_decide_eq_true (by kernel_rfl)
theorem Zk5 {k:IntKind} {t:TypeId} {m:Nat} (hu:prog.underlying t=some (.int k)) (h0:k.min=0) (hm:k.max=(m:Int)) (h:Trd enc prog W fuel t cs=some x):∃u:Nat,cs=[.int k u]/\u<=m:=by
 obtain⟨n,h1,-,hw⟩:=DataW.trod_int hu h;simp only [Lit.wf,Bool.and_eq_true,decide_eq_true_eq] at hw;rw [h0,hm] at hw;obtain⟨u,rfl⟩:=Int.eq_ofNat_of_zero_le hw.1;exact⟨u,h1,by omega⟩
def Zm0 {T:Type} (U:Qa T) (a:Option Addr) (len:Nat) (l:List Nat):Prop:=Q5 U a len 1 l λ n vs=>vs=[.int .u16 (n:Int)]/\n<65536
theorem Zl2 (h:Trd enc prog W fuel 44 [v]=some x) (hz:Sz prog 44 x.1):∃a len cap l,v=.slice a len cap/\Zm0 (Qa.all W) a len l/\len<2 ^ 60:=by
 obtain⟨a,len,cap,l,h1,h2,h3⟩:=Qls (R:=λ (n:Nat) vs=>vs=[.int .u16 (n:Int)]/\n<65536) Zg3 Qpj (by decide) Qpf h hz λ m r y hy _=>by
  obtain⟨u,h1,h2⟩:=Zk5 (m:=65535) Q0m (by decide) (by decide) hy;exact⟨u,h1,by omega⟩
 exact⟨a,len,cap,l,h1,h2,h3⟩
end
end Go.Proofs
