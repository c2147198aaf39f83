/- Lemmas. No conditions. -/
import Derived.Test.YtnpfcnfhfkflhaaGreatDoorB09
import Derived.Test.YtnpfcnfhfkflhaaGreatDoorB42
import Derived.Test.YtnpfcnfhfkflhaaGreatDoorB44
set_option linter.all false
open List
open Go.Proofs.Tryz (prog)
set_option maxRecDepth 100000
noncomputable section
namespace Go.TM
variable{T:Type}{P:Program}{S:Sys P T}
def Qb.sep0{f:FuncId}{args:Array Value}{R:Value->Qa T->Prop}{U:Qa T}(h:WH U->Qb S f args R U):Qb S f args R U:=by
 intro b m c cs k;by_cases d:WH U
 .exact h d b m c cs k
 .exact .priv ⟨rfl,λ w e=>absurd e.sep d⟩
end Go.TM
namespace Go.Proofs
open Go.TM
def Zc6:C:=(.seq (.reg [.xb 4 false])
 (.seq (.seq (.reg [.xv 5 0])
 (.block 0 (.loop (.seq (.seq (.reg [.m 6 5,.m 7 0,.xn 8 7,.xc 9 .lss 6 8])
 (.ite (.t 9) .skip (.exit 0)))
 (.seq (.block 1 (.seq (.reg [.m 12 0,.m 13 5,.xi 14 1 12 13,.xl 15 14,.m 16 1,.xc 17 .eql 15 16])
 (.ite (.t 17) (.seq (.reg [.xb 4 true])
 .ret) .skip)))
 (.reg [.m 10 5,.xa 11 10,.m 5 11]))))))
 (.seq (.reg [.xb 4 false])
 .ret)))
def Qdh:Zf prog 38 18 Zc6 [.t 4]:=.o [] [] Tryz.func38 K1
def Zk5:C:=(.seq (.reg [.xb 4 false])
 (.seq (.seq (.reg [.m 6 0,.xn 7 6,.m 8 1,.xn 9 8,.xc 10 .neq 7 9])
 (.ite (.t 10) (.seq (.reg [.xb 4 false])
 .ret) .skip))
 (.seq (.seq (.reg [.xv 5 0])
 (.block 0 (.loop (.seq (.seq (.reg [.m 11 5,.m 12 0,.xn 13 12,.xc 14 .lss 11 13])
 (.ite (.t 14) .skip (.exit 0)))
 (.seq (.block 1 (.seq (.drw [(0,.m 17 0),(0,.m 18 5),(0,.xi 19 1 17 18),(0,.xl 20 19),(0,.m 21 1),(0,.m 22 5),(0,.xi 23 1 21 22),(0,.xl 24 23)] [.d 25 (.teq .neq (.t 20) (.t 24))])
 (.ite (.t 25) (.seq (.reg [.xb 4 false])
 .ret) .skip)))
 (.reg [.m 15 5,.xa 16 15,.m 5 16]))))))
 (.seq (.reg [.xb 4 true])
 .ret))))
def Q0h:Zf prog 59 26 Zk5 [.t 4]:=.o [] [] Tryz.func59 K1
def Zg3:C:=(.seq (.reg [.d 2 (.box 25 (.t 0)),.d 4 (.alloc 25 #[(.slice none 0 0),(.slice none 0 0)]),.xv 5 0])
 (.seq (.seq (.reg [.xd 8 2 2,.d 9 (.call (.func 23) #[(.t 8)]),.m 6 9])
 (.seq (.reg [.m 10 6,.xk 11 .neq 10 0])
 (.ite (.t 11) (.seq (.reg [.d 12 (.build #[(.slice none 0 0),(.slice none 0 0)] []),.m 13 6,⟨.st 2 (.t 4) (.t 12),none,none,none⟩,.m 5 13])
 .ret) .skip)))
 (.seq (.seq (.reg [.m 14 1,.xo 15 1 2,.xl 16 15,.xn 17 16,.d 18 (.call (.func 92) #[(.t 14),(.t 17)]),.m 7 18])
 (.seq (.reg [.m 19 7,.xk 20 .neq 19 0])
 (.ite (.t 20) (.seq (.reg [.d 21 (.build #[(.slice none 0 0),(.slice none 0 0)] []),.m 22 7,⟨.st 2 (.t 4) (.t 21),none,none,none⟩,.m 5 22])
 .ret) .skip)))
 (.seq (.drw [(0,.xd 23 2 2),(0,.d 24 (.build #[(.slice none 0 0),(.slice none 0 0)] [(0,2,(.t 23))])),(0,.m 25 1),(1,.d 26 (.call (.func 68) #[(.t 25)]))] [.d 27 (.call (.func 87) #[(.t 24),(.t 26)]),.d 28 (.part 0 2 (.t 27)),⟨.st 2 (.t 4) (.t 28),none,none,none⟩,.xv 5 0])
 .ret))))
def Qek:Zf prog 41 29 Zg3 [.cn 4 2,.t 5]:=.o [] [26] Tryz.func41 K1
def Zc5:C:=(.seq (.reg [.d 2 (.box 25 (.t 0)),.xs 4])
 (.seq (.reg [.xs 5])
 (.seq (.block 0 (.loop (.seq (.seq (.reg [.m 10 5,.xn 11 10,.xo 12 1 2,.xl 13 12,.xn 14 13,.xc 15 .lss 11 14])
 (.ite (.t 15) .skip (.exit 0)))
 (.block 1 (.seq (.reg [.xs 6])
 (.seq (.seq (.reg [.xv 7 0])
 (.block 2 (.loop (.seq (.seq (.reg [.m 16 7,.xo 17 1 2,.xl 18 17,.xn 19 18,.xc 20 .lss 16 19])
 (.ite (.t 20) .skip (.exit 2)))
 (.seq (.block 3 (.seq (.reg [.m 23 5,.m 24 7,.d 25 (.call (.func 38) #[(.t 23),(.t 24)]),.xt 26 25,.m 8 26])
 (.seq (.seq (.reg [.xv 9 0])
 (.block 4 (.loop (.seq (.seq (.reg [.m 27 9,.xo 28 1 2,.xl 29 28,.m 30 7,.xi 31 4 29 30,.xo 32 3 31,.xl 33 32,.xn 34 33,.xc 35 .lss 27 34])
 (.ite (.t 35) .skip (.exit 4)))
 (.seq (.block 5 (.reg [.m 38 8,.m 39 38,.ym 40 39 true 5,.yo 41 39 true 1 2,.yl 42 39 true 41,.ym 43 39 true 7,.yi 44 39 true 4 42 43,.yo 45 39 true 3 44,.yl 46 39 true 45,.ym 47 39 true 9,.yi 48 39 true 1 46 47,.yl 49 39 true 48,.u 50 39 true (.call (.func 38) #[(.t 40),(.t 49)]),.xp 51 39 50,.m 8 51]))
 (.reg [.m 36 9,.xa 37 36,.m 9 37]))))))
 (.seq (.reg [.m 52 8])
 (.ite (.t 52) (.reg [.m 53 6,.m 54 7,.d 55 (.bsl 3 1 #[(.int .i64 0)] [(0,1,(.t 54))]),.xz 56 53 55 26,.m 6 56]) .skip)))))
 (.reg [.m 21 7,.xa 22 21,.m 7 22]))))))
 (.reg [.m 57 5,.m 58 6,.m 59 1,.m 60 5,.xn 61 60,.d 62 (.call (.func 83) #[(.t 59),(.t 61)]),.m 63 6,.xn 64 63,.d 65 (.ar .rem (.t 62) (.t 64)),.xi 66 1 58 65,.xl 67 66,.d 68 (.bsl 3 1 #[(.int .i64 0)] [(0,1,(.t 67))]),.xz 69 57 68 26,.m 5 69])))))))
 (.seq (.reg [.m 70 5,.m 4 70])
 .ret))))
def Qvz:Zf prog 33 71 Zc5 [.t 4]:=.o [] [] Tryz.func33 K1
def Zk4:C:=(.seq (.reg [.d 2 (.box 25 (.t 0)),.xs 4])
 (.seq (.reg [.xs 5])
 (.seq (.seq (.reg [.xv 6 0])
 (.block 0 (.loop (.seq (.seq (.reg [.m 7 6,.xo 8 1 2,.xl 9 8,.xn 10 9,.xc 11 .lss 7 10])
 (.ite (.t 11) .skip (.exit 0)))
 (.seq (.block 1 (.seq (.reg [.m 14 1,.m 15 6,.d 16 (.ar .shr (.t 14) (.t 15)),.d 17 (.ar .and (.t 16) (.const (.int .u8 1))),.d 18 (.cmp .eql (.t 17) (.const (.int .u8 1)))])
 (.ite (.t 18) (.reg [.m 19 5,.m 20 6,.d 21 (.bsl 3 1 #[(.int .i64 0)] [(0,1,(.t 20))]),.xz 22 19 21 26,.m 5 22]) .skip)))
 (.reg [.m 12 6,.xa 13 12,.m 6 13]))))))
 (.seq (.reg [.m 23 5,.m 4 23])
 .ret))))
def Qzk:Zf prog 47 24 Zk4 [.t 4]:=.o [] [] Tryz.func47 K1
def Zk8:C:=(.seq (.reg [.xv 4 0])
 (.seq (.seq (.reg [.m 5 1,.m 6 0,.xn 7 6,.xc 8 .lss 5 7])
 (.ite (.t 8) (.seq (.reg [.m 9 0,.m 10 1,.xi 11 1 9 10,.xl 12 11,.d 13 (.conv .i64 (.t 12)),.m 4 13])
 .ret) .skip))
 (.seq (.reg [.xv 4 0])
 .ret)))
def Q0j:Zf prog 83 14 Zk8 [.t 4]:=.o [] [] Tryz.func83 K1
noncomputable def Zg4:C:=(.seq (.reg [.d 2 (.box 25 (.t 0)),.d 3 (.box 25 (.t 1)),.xb 4 false])
 (.seq (.seq (.reg [.xo 9 0 2,.xl 10 9,.xo 11 0 3,.xl 12 11,.d 13 (.call (.func 59) #[(.t 10),(.t 12)]),.xt 14 13,.m 15 14,.yo 16 15 false 1 2,.yl 17 15 false 16,.yn 18 15 false 17,.yo 19 15 false 1 3,.yl 20 15 false 19,.yn 21 15 false 20,.u 22 15 false (.cmp .neq (.t 18) (.t 21)),.xq 23 15 22])
 (.ite (.t 23) (.seq (.reg [.xb 4 false])
 .ret) .skip))
 (.seq (.seq (.reg [.xv 5 0])
 (.block 0 (.loop (.seq (.seq (.reg [.m 24 5,.xo 25 1 2,.xl 26 25,.xn 27 26,.xc 28 .lss 24 27])
 (.ite (.t 28) .skip (.exit 0)))
 (.seq (.block 1 (.seq (.cd 89 (Gl Tryz.f43 6))
 (.seq (.seq (.reg [.xo 41 0 6,.xl 42 41,.xo 43 0 7,.xl 44 43,.d 45 (.teq .neq (.t 42) (.t 44)),.m 46 45,.yo 47 46 false 1 6,.yl 48 46 false 47,.yo 49 46 false 1 7,.yl 50 46 false 49,.u 51 46 false (.cmp .neq (.t 48) (.t 50)),.xq 52 46 51,.m 53 52,.yo 54 53 false 3 6,.yl 55 53 false 54,.yo 56 53 false 3 7,.yl 57 53 false 56,.u 58 53 false (.call (.func 31) #[(.t 55),(.t 57)]),.u 59 53 false (.not (.t 58)),.xq 60 53 59,.m 61 60,.yo 62 61 false 2 6,.yl 63 61 false 62,.yn 64 61 false 63,.yo 65 61 false 2 7,.yl 66 61 false 65,.yn 67 61 false 66,.u 68 61 false (.cmp .neq (.t 64) (.t 67)),.xq 69 61 68])
 (.ite (.t 69) (.seq (.reg [.xb 4 false])
 .ret) .skip))
 (.seq (.reg [.xv 8 0])
 (.block 2 (.loop (.seq (.seq (.reg [.m 70 8,.xo 71 2 6,.xl 72 71,.xn 73 72,.xc 74 .lss 70 73])
 (.ite (.t 74) .skip (.exit 2)))
 (.seq (.block 3 (.seq (.drw [(0,.xo 77 2 6),(0,.xl 78 77),(0,.m 79 8),(0,.xi 80 1 78 79),(0,.xl 81 80),(0,.xo 82 2 7),(0,.xl 83 82),(0,.m 84 8),(0,.xi 85 1 83 84),(0,.xl 86 85)] [.d 87 (.call (.func 31) #[(.t 81),(.t 86)]),.xt 88 87])
 (.ite (.t 88) (.seq (.reg [.xb 4 false])
 .ret) .skip)))
 (.reg [.m 75 8,.xa 76 75,.m 8 76])))))))))
 (.reg [.m 29 5,.xa 30 29,.m 5 30]))))))
 (.seq (.reg [.xb 4 true])
 .ret))))
def Qpj:Zf prog 43 89 Zg4 [.t 4]:=.o [] [87] Tryz.func43 K1
end Go.Proofs
set_option linter.unusedSimpArgs false
namespace Go.TM
variable{T:Type}{P:Program}{S:Sys P T}{fn:FuncId}{ro:Option Nat}
def V3.frz1{U U':Qa T}{b:Nat}{e:TypeId}{c:Array Value}(h:V3 U b e c U'):U.frz.lg U':=⟨h.imm,⟨_,(append_nil _).symm⟩,h.tok⟩
def V3.made{U U':Qa T}{b:Nat}{e:TypeId}{c:Array Value}(h:U.le U')(f:U'.free b):V3 U b e c (U'.put b (.cells c e)):=by
 refine⟨h.imm,by show _::U'.M=_;rw[h.own],h.tok,?_⟩;cases d:U.I b with
 |none=>rfl
 |some o=>have:=h.imm b o d;rw[f.1]at this;cases this
end Go.TM
namespace Go.Proofs
open Go.TM
variable{T:Type}{S:TM.Sys prog T}{U:Qa T}
attribute [local irreducible] Qb Zl Wt
def Qbj(a:Option Addr)(len cap:Nat)(l:List Int)(g:Z5 U a len l)(h:len<2^60)(n:Int) :
  Qb S 38 #[.slice a len cap,.int .i64 n] (λ v U'=>v=.bool (l.contains n)/\U'=U) U:=by
 refine Qb.of (args:=[_,_]) Qdh Qf S1 ?_
 repeat refine⟨rfl,?_⟩
 refine⟨Nat,λ i=>[(0,.slice a len cap),(1,.int .i64 n),(5,.int .i64 i)],λ i U'=>U'=U/\i<=len/\n∉l.take i,λ i=>len-i,0,T1,⟨rfl,O1,S1⟩,?_⟩;rintro i f _⟨rfl,q,b⟩
 repeat refine⟨rfl,?_⟩
 conv=>whnf
 apply Qe<;>intro e
 .have hlt:i<len:=by simpa using e
  obtain⟨m,x,j,rfl,p,o⟩:=g.at hlt;refine⟨m,i,⟨rfl,rfl,hlt⟩,_,o,?_⟩
  repeat refine⟨rfl,?_⟩
  conv=>whnf
  apply Qe<;>intro e
  .repeat refine⟨rfl,?_⟩
   conv=>whnf
   have d:x=n:=by simpa using e
   refine⟨?_,rfl⟩;have:n∈l:=d▸mem_of_getElem? j;simp[this]
  .have d:x≠n:=by simpa using e
   refine⟨I1,?_⟩;refine⟨rfl,i+1,T1,⟨rfl,O1,?_⟩,L1⟩;rw[Ji j];simp[b,Ne.symm d]
 .have hge:len<=i:=by simpa using e
  repeat refine⟨rfl,?_⟩
  refine⟨?_,rfl⟩;have:l.take i=l:=take_of_length_le (by rw[g.1];exact hge);rw[this]at b;simp[b]
end Go.Proofs
namespace Go.Proofs
open Go.TM Go.ChangeShapes Go.WideShapes Go.RowKit
section
variable{H:Type}{enc:TypeId×Value->H}{W:World}{fuel:Nat}{x:DataW H×List MemPlace}{v:Value}{cs:List Value}
def Zm0:prog.underlying 44=some (.slice 186):=K1
def Q41:prog.underlying 186=some (.int .u16):=K1
def Qqa:prog.cellsOf 186=1:=K1
def Qp5:0<prog.bytesOf 186:=of_decide_eq_true K1
def Zod{k:IntKind}{t:TypeId}{m:Nat}(g:prog.underlying t=some (.int k))(d:k.min=0)(f:k.max=(m:Int))(h:JZ enc prog W fuel t cs=some x):∃u:Nat,cs=[.int k u]/\u<=m:=by
 obtain⟨n,e,-,b⟩:=DataW.trod_int g h;simp only[Lit.wf,Bool.and_eq_true,decide_eq_true_eq]at b;rw[d,f]at b;obtain⟨u,rfl⟩:=Int.eq_ofNat_of_zero_le b.1;exact⟨u,e,O1⟩
def Zom(h:JZ enc prog W fuel 5 [v]=some x):∃u:Nat,v=.int .u8 u/\u<256:=by
 obtain⟨u,b,d⟩:=Zod (m:=255) Zpm D1 D1 h;exact⟨u,by simpa using b,O1⟩
def Zol{T:Type}(U:Qa T)(a:Option Addr)(len:Nat)(l:List Nat):Prop:=Q5 U a len 1 l λ n vs=>vs=[.int .u16 (n:Int)]/\n<65536
def Zok(h:JZ enc prog W fuel 44 [v]=some x)(g:Sz prog 44 x.1):∃a len cap l,v=.slice a len cap/\Zol (Qa.all W) a len l/\len<2^60:=by
 obtain⟨a,len,cap,l,b,d,e⟩:=Yd (R:=λ(n:Nat)vs=>vs=[.int .u16 (n:Int)]/\n<65536) Zm0 Qqa D1 Qp5 h g λ m r y f _=>by
  obtain⟨u,b,d⟩:=Zod (m:=65535) Q41 D1 D1 f;exact⟨u,b,O1⟩
 exact⟨a,len,cap,l,b,d,e⟩
end
end Go.Proofs
end

namespace Go.Proofs
open Go.TM
def Zc3:C:=(.seq (.reg [.d 3 (.box 25 (.t 0)),.xb 6 false])
 (.seq (.seq (.reg [.xd 20 2 3,.d 21 (.call (.func 32) #[(.t 20)]),.xt 22 21])
 (.ite (.t 22) (.seq (.reg [.d 23 (.call (.func 20) #[]),.m 6 23])
 .ret) .skip))
 (.seq (.reg [.xd 24 2 3,.m 25 1,.d 26 (.call (.func 47) #[(.t 24),(.t 25)]),.m 7 26])
 (.seq (.reg [.xd 28 2 3,.m 29 7,.d 30 (.call (.func 41) #[(.t 28),(.t 29)]),.m 27 30,.xe 31 27 0,.xe 32 27 1,.d 8 (.alloc 25 #[(.slice none 0 0),(.slice none 0 0)]),⟨.st 2 (.t 8) (.t 31),none,none,none⟩,.m 9 32])
 (.seq (.reg [.xd 34 2 3,.d 35 (.call (.func 41) #[(.t 34),.cn]),.m 33 35,.xe 36 33 0,.xe 37 33 1,.d 10 (.alloc 25 #[(.slice none 0 0),(.slice none 0 0)]),⟨.st 2 (.t 10) (.t 36),none,none,none⟩,.m 11 37])
 (.seq (.seq (.reg [.m 38 9,.xk 39 .neq 38 0,.m 40 39,.ym 41 40 false 11,.yk 42 40 false .neq 41 0,.xq 43 40 42,.m 44 43,.u 45 44 false (.ldn 2 (.t 10)),.u 46 44 false (.ldn 2 (.t 3)),.u 47 44 false (.call (.func 43) #[(.t 45),(.t 46)]),.u 48 44 false (.not (.t 47)),.xq 49 44 48,.m 50 49,.yo 51 50 false 1 8,.yl 52 50 false 51,.yn 53 50 false 52,.yo 54 50 false 1 3,.yl 55 50 false 54,.yn 56 50 false 55,.ym 57 50 false 7,.yn 58 50 false 57,.u 59 50 false (.sub (.t 56) (.t 58)),.u 60 50 false (.cmp .neq (.t 53) (.t 59)),.xq 61 50 60,.m 62 61,.u 63 62 false (.ldn 2 (.t 8)),.u 64 62 false (.call (.func 24) #[(.t 63)]),.yk 65 62 false .neq 64 0,.xq 66 62 65])
 (.ite (.t 66) (.seq (.reg [.xb 6 false])
 .ret) .skip))
 (.seq (.reg [.xd 67 2 3,.d 12 (.alloc 25 #[(.slice none 0 0),(.slice none 0 0)]),⟨.st 2 (.t 12) (.t 67),none,none,none⟩])
 (.seq (.seq (.reg [.m 68 7,.xn 69 68,.d 70 (.sub (.t 69) (.ci 1)),.m 13 70])
 (.block 0 (.loop (.seq (.seq (.reg [.m 71 13,.xk 72 .geq 71 0])
 (.ite (.t 72) .skip (.exit 0)))
 (.seq (.block 1 (.seq (.drs [(0,.xd 76 2 12),(0,.m 77 7),(0,.m 78 13),(0,.m 79 13),(0,.xa 80 79),(0,.d 81 (.sub3 1 (.t 77) (some (.t 78)) (some (.t 80)))),(2,.d 82 (.call (.func 41) #[(.t 76),(.t 81)])),(0,.m 75 82),(0,.xe 83 75 0),(0,.xe 84 75 1)] ⟨.st 2 (.t 12) (.t 83),none,none,none⟩ [.m 9 84])
 (.seq (.reg [.m 85 9,.xk 86 .neq 85 0,.m 87 86,.u 88 87 false (.ldn 2 (.t 12)),.u 89 87 false (.call (.func 24) #[(.t 88)]),.yk 90 87 false .neq 89 0,.xq 91 87 90])
 (.ite (.t 91) (.seq (.reg [.xb 6 false])
 .ret) .skip))))
 (.reg [.m 73 13,.d 74 (.sub (.t 73) (.ci 1)),.m 13 74]))))))
 (.seq (.seq (.reg [.xd 92 2 12,.xd 93 2 8,.d 94 (.call (.func 43) #[(.t 92),(.t 93)]),.xt 95 94])
 (.ite (.t 95) (.seq (.reg [.xb 6 false])
 .ret) .skip))
 (.seq (.reg [.xs 14,.xs 15])
 (.seq (.seq (.reg [.xv 16 0])
 (.block 2 (.loop (.seq (.seq (.reg [.m 96 16,.xo 97 1 3,.xl 98 97,.xn 99 98,.xc 100 .lss 96 99])
 (.ite (.t 100) .skip (.exit 2)))
 (.seq (.block 3 (.seq (.reg [.m 103 7,.m 104 16,.d 105 (.call (.func 38) #[(.t 103),(.t 104)]),.xt 106 105])
 (.ite (.t 106) (.reg [.m 107 14,.m 108 16,.d 109 (.bsl 3 1 #[(.int .i64 0)] [(0,1,(.t 108))]),.xz 110 107 109 26,.m 14 110]) .skip)))
 (.reg [.m 101 16,.xa 102 101,.m 16 102]))))))
 (.seq (.reg [.xd 111 2 3,.m 112 2,.d 113 (.call (.func 33) #[(.t 111),(.t 112)]),.m 17 113])
 (.seq (.seq (.reg [.xv 18 0])
 (.block 4 (.loop (.seq (.seq (.reg [.m 114 18,.m 115 17,.xn 116 115,.xc 117 .lss 114 116])
 (.ite (.t 117) .skip (.exit 4)))
 (.seq (.block 5 (.seq (.reg [.xv 19 0])
 (.block 6 (.loop (.seq (.seq (.reg [.m 120 19,.m 121 14,.xn 122 121,.xc 123 .lss 120 122])
 (.ite (.t 123) .skip (.exit 6)))
 (.seq (.block 7 (.seq (.drw [(0,.m 126 14),(0,.m 127 19),(0,.xi 128 1 126 127),(0,.xl 129 128),(0,.m 130 17),(0,.m 131 18),(0,.xi 132 1 130 131),(0,.xl 133 132)] [.xc 134 .eql 129 133])
 (.ite (.t 134) (.reg [.m 135 15,.m 136 19,.d 137 (.bsl 3 1 #[(.int .i64 0)] [(0,1,(.t 136))]),.xz 138 135 137 26,.m 15 138]) .skip)))
 (.reg [.m 124 19,.xa 125 124,.m 19 125])))))))
 (.reg [.m 118 18,.xa 119 118,.m 18 119]))))))
 (.seq (.reg [.xd 140 2 8,.m 141 15,.d 142 (.call (.func 21) #[(.t 140),(.t 141)]),.m 139 142,.xe 143 139 0,.xe 144 139 1,.xe 145 139 2,.m 9 145])
 (.seq (.reg [.m 146 9,.xk 147 .eql 146 0,.m 148 147,.u 149 148 true (.call (.func 20) #[]),.xp 150 148 149,.m 6 150])
 .ret)))))))))))))))
def Zl2:Zf Tryz.prog 13 151 Zc3 [.t 6]:=.o [] [] Tryz.func13 K1
end Go.Proofs

namespace Go.TM
variable{b:Bk}
def Bk.can_iff{o:List Nat}{i:Nat}:b.can o i=true↔i∉o/\∀k∈Je b.A i,k∈o:=by
 simp[Bk.can]
structure Bk.Ord(b:Bk)(o:List Nat):Prop where
 len:o.length=b.cs.length
 low:∀i∈o,i<b.cs.length
 nod:o.Nodup
 aft:∀X i Y,o=X++i::Y->∀k∈Je b.A i,k∈X
def Znw{n:Nat}{l:List Nat}(h:∀i,i<n->i∈l):n<=l.length:=by
 have b:∀(n:Nat)(l:List Nat),(∀i,i<n->i∈l)->n<=l.length:=by
  intro n
  induction n with
  |zero=>intro l _;exact Nat.zero_le _
  |succ n d=>
   intro l h;obtain⟨X,Y,e⟩:=append_of_mem (h n O1)
   have:=d (X++Y) λ i f=>by
    have:=h i O1;rw[e]at this;simp only[mem_append,mem_cons]at this ⊢;rcases this with h|h|h
    .exact .inl h
    .omega
    .exact .inr h
   rw[e];simp at this ⊢;omega
 exact b n l h
def Bk.A_n(b:Bk):b.A.length=b.cs.length:=by simp[Bk.A]
def Bk.Ok.ord{b:Bk}(h:b.Ok):∃o,b.Ord o:=by
 obtain⟨L,f,d⟩:=DM h.lo;rw[b.A_n]at d;refine⟨L.reverse,?_,λ i g=>by rw[<- b.A_n];exact f.low i (by simpa using g),(by unfold Nodup;rw[pairwise_reverse];exact f.nod.imp Ne.symm),λ X i Y e k j=>?_⟩
 .rw[length_reverse];have m:=H7 f.nod (n:=b.cs.length) λ x l=>by rw[<- b.A_n];exact f.low x l
  have p:=Znw d;omega
 .have e':L=Y.reverse++i::X.reverse:=by
   rw[<- reverse_reverse L,e];simp
  have:=f.aft _ _ _ e' k j;simpa using this
def Bk.Ord.has{b:Bk}{o:List Nat}(h:b.Ord o){i:Nat}(f:i<b.cs.length):i∈o:=by
 apply Classical.byContradiction;intro g;have e:(i::o).Nodup:=nodup_cons.2 ⟨g,h.nod⟩
 have:=H7 e (n:=b.cs.length) λ x d=>by
  rcases mem_cons.1 d with rfl|d
  .exact f
  .exact h.low x d
 rw[length_cons,h.len]at this;omega
def Bk.Ord.split{b:Bk}{o:List Nat}(h:b.Ord o){i:Nat}(d:i<b.cs.length):∃X Y,o=X++i::Y:=append_of_mem (h.has d)
def Bk.nexts(b:Bk)(o:List Nat):List Nat:=(range b.cs.length).filter λ i=>b.can o i
def Bk.pickO(b:Bk)(p:List Nat):Nat->List Nat->List Nat
 |0,o=>o
 |k+1,o=>b.pickO p k (o++[(b.nexts o).getD (p.getD o.length 0 % (b.nexts o).length) 0])
structure Bk.Beg(b:Bk)(o:List Nat):Prop where
 low:∀i∈o,i<b.cs.length
 nod:o.Nodup
 aft:∀X i Y,o=X++i::Y->∀k∈Je b.A i,k∈X
def Bk.Beg.nil:b.Beg []:=⟨S1,.nil,λ X i Y e=>by cases X <;> cases e⟩
def Bk.Beg.le{o:List Nat}(h:b.Beg o):o.length<=b.cs.length:=H7 h.nod h.low
def Bk.Beg.snoc{o:List Nat}{i:Nat}(h:b.Beg o)(r:i<b.cs.length)(q:b.can o i=true):b.Beg (o++[i]):=by
 obtain⟨n,p⟩:=Bk.can_iff.1 q;refine⟨λ j d=>?_,?_,λ X j Y e k g=>?_⟩
 .rcases mem_append.1 d with d|d
  .exact h.low j d
  .simp at d;subst d;exact r
 .rw[nodup_append];exact⟨h.nod,S1,λ x t y l e=>by simp at l;subst l;subst e;exact n t⟩
 .rcases eq_nil_or_concat Y with rfl|⟨f,y,rfl⟩
  .obtain⟨rfl,e2⟩:=append_inj' e S1;cases e2;exact p k g
  .have e':o++[i]=(X++j::f)++[y]:=by rw[e];simp
   obtain⟨m,-⟩:=append_inj' e' S1;exact h.aft X j f m k g
def Bk.Beg.next{o:List Nat}(r:b.Ok)(h:b.Beg o)(v:o.length<b.cs.length):0<(b.nexts o).length:=by
 obtain⟨f,q⟩:=r.ord
 have p:∃i∈f,i∉o:=by
  apply Classical.byContradiction;intro w
  have m:∀i,i<b.cs.length->i∈o:=λ i g=>by
   apply Classical.byContradiction;intro j;exact w ⟨i,q.has g,j⟩
  have:=Znw m;omega
 have d:∃X i Y,f=X++i::Y/\i∉o/\∀k∈X,k∈o:=by
  have u:∀(Y X:List Nat),f=X++Y->(∀k∈X,k∈o)->(∃i∈Y,i∉o)->∃X i Y,f=X++i::Y/\i∉o/\∀k∈X,k∈o:=by
   intro Y
   induction Y with
   |nil=>rintro X _ _⟨i,g,-⟩;cases g
   |cons y Y z=>
    rintro X e n⟨i,g,j⟩;by_cases t:y∈o
    .refine z (X++[y]) (by rw[e];simp) (λ k l=>?_) ?_
     .rcases mem_append.1 l with l|l
      .exact n k l
      .simp at l;subst l;exact t
     .rcases mem_cons.1 g with rfl|g
      .exact absurd t j
      .exact⟨i,g,j⟩
    .exact⟨X,y,Y,e,t,n⟩
  exact u f [] S1 S1 p
 obtain⟨X,i,Y,e,g,n⟩:=d;refine length_pos_of_mem (a:=i) (mem_filter.2 ⟨mem_range.2 (q.low i (by rw[e];simp)),?_⟩);exact Bk.can_iff.2 ⟨g,λ k l=>n k (q.aft X i Y e k l)⟩
def Bk.nexts_at{o:List Nat}{q:Nat}(h:q<(b.nexts o).length):(b.nexts o).getD q 0<b.cs.length/\b.can o ((b.nexts o).getD q 0)=true:=by
 have f:(b.nexts o).getD q 0∈b.nexts o:=by
  rw[getD_eq_getElem?_getD,getElem?_eq_getElem h];exact getElem_mem h
 obtain⟨d,e⟩:=mem_filter.1 f;exact⟨mem_range.1 d,e⟩
def Bk.pick_beg(d:b.Ok)(p:List Nat):∀(k:Nat)(o:List Nat),b.Beg o->o.length+k<=b.cs.length->b.Beg (b.pickO p k o)/\(b.pickO p k o).length=o.length+k
 |0,o,h,_=>⟨h,rfl⟩
 |k+1,o,h,j=>by
  have i:=h.next d O1;obtain⟨e,f⟩:=Bk.nexts_at (Nat.mod_lt (p.getD o.length 0) i);have:=Bk.pick_beg d p k _ (h.snoc e f) S3;refine⟨this.1,?_⟩;have g:=this.2;simp only[length_append,length_singleton]at g;show(b.pickO p k _).length=_;omega
def Bk.pick_ord(e:b.Ok)(p:List Nat):b.Ord (b.pickO p b.cs.length []):=by
 obtain⟨d,f⟩:=Bk.pick_beg e p b.cs.length [] Bk.Beg.nil S1;exact⟨by simpa using f,d.low,d.nod,d.aft⟩
def Bk.Ord.flaw{o:List Nat}(h:b.Ord o):b.ordF (o.map λ(k:Nat)=>(k:Int))=0:=by
 have f:∀(q p:List Nat),o=p++q->b.ordL p (q.map λ(k:Nat)=>(k:Int))=0:=by
  intro q
  induction q with
  |nil=>intro p _;rfl
  |cons i q n=>
   intro p e;have r:i<b.cs.length:=h.low i (by rw[e];simp);have g:=h.nod;rw[e,nodup_append]at g;have d:i∉p:=λ m=>g.2.2 i m i (mem_cons_self ..) rfl;have j:=h.aft p i q e;show(if Go.TM.btw (i:Int) 0 (b.nc-1)then(if(i:Int).toNat∈p then 5 else if(Je b.A (i:Int).toNat).all (λ k=>p.contains k)then b.ordL (p++[(i:Int).toNat]) (q.map λ(k:Nat)=>(k:Int))else 7)else 6)=0;rw[if_pos (by unfold Bk.nc;simp[btw];omega),Int.toNat_natCast,if_neg d,if_pos (by rw[all_eq_true];intro k l;simpa using j k l)];exact n (p++[i]) (by rw[e];simp)
 unfold Bk.ordF;rw[if_neg (by rw[length_map,h.len];simp)];exact f o [] rfl
abbrev Qae(o:List Nat):List Int:=o.map λ(k:Nat)=>(k:Int)
end Go.TM
namespace Go.TM
variable{b o:Bk}
structure Bk.Turn(b o:Bk)(p q:Nat->Nat):Prop where
 rs:o.rs=b.rs
 n:o.cs.length=b.cs.length
 pl:∀i,i<b.cs.length->p i<b.cs.length
 ql:∀i,i<b.cs.length->q i<b.cs.length
 qp:∀i,i<b.cs.length->q (p i)=i
 pq:∀i,i<b.cs.length->p (q i)=i
 nm:∀i,i<b.cs.length->(o.cas i).nm=(b.cas (p i)).nm
 ag:∀i,i<b.cs.length->(o.cas i).ag=(b.cas (p i)).ag
 gs:∀i,i<b.cs.length->(o.cas i).gs=(b.cas (p i)).gs
 af:∀i,i<b.cs.length->∀k,k<b.cs.length->(k∈Je o.A i↔p k∈Je b.A (p i))
def Bk.Turn.symm{p q:Nat->Nat}(h:b.Turn o p q):o.Turn b q p:=by
 have d:=h.n;refine⟨h.rs.symm,h.n.symm,?_,?_,?_,?_,?_,?_,?_,?_⟩ <;> rw[d]
 .exact h.ql
 .exact h.pl
 .exact h.pq
 .exact h.qp
 .intro i hi;rw[h.nm _ (h.ql i hi),h.pq i hi]
 .intro i hi;rw[h.ag _ (h.ql i hi),h.pq i hi]
 .intro i hi;rw[h.gs _ (h.ql i hi),h.pq i hi]
 .intro i hi k hk;rw[h.af _ (h.ql i hi) _ (h.ql k hk),h.pq i hi,h.pq k hk]
def Bk.Turn.ord{p q:Nat->Nat}(t:b.Ok)(h:b.Turn o p q){l:List Nat}(m:o.Ord l):b.Ord (l.map p):=by
 have d:∀i∈l,i<b.cs.length:=λ i g=>h.n▸m.low i g;refine⟨by rw[length_map,m.len,h.n],λ i g=>?_,?_,λ X j Y e k u=>?_⟩
 .obtain⟨j,hj,rfl⟩:=mem_map.1 g;exact h.pl j (d j hj)
 .refine pairwise_map.2 (m.nod.imp_of_mem λ{x y}w z r e=>r ?_);rw[<- h.qp x (d x w),e,h.qp y (d y z)]
 .obtain⟨X',l',rfl,rfl,e2⟩:=map_eq_append_iff.1 e;obtain⟨i,v,rfl,rfl,rfl⟩:=map_eq_cons_iff.1 e2;have g:=d i S1
  have f:k<b.cs.length:=by
   have:=t.low (p i) (by rw[b.A_n];exact h.pl i g) k u
   rwa [b.A_n]at this
  refine mem_map.2 ⟨q k,m.aft X' i v rfl (q k) ?_,h.pq k f⟩;rw[h.af i g (q k) (h.ql k f),h.pq k f];exact u
def Qf7{nameB:ByteArray->Bool}{nr nc:Int}:∀{l:List Cs}{seen:List ByteArray},WC nameB nr nc seen l=0 ↔
  (∀c∈l,nameB c.nm=true/\btw c.ag 0 (nr-1)=true/\ZX nr c.gs=0/\J1 nc none c.af=0/\c.nm∉seen)/\(l.map (·.nm)).Nodup
 |[],seen=>by simp[WC]
 |c::l,seen=>by
  have r:=Qf7 (nameB:=nameB) (nr:=nr) (nc:=nc) (l:=l) (seen:=seen++[c.nm]);simp only[WC,mem_cons,map_cons,nodup_cons,forall_eq_or_imp];by_cases i:nameB c.nm=true
  .by_cases h2:QR seen c.nm=true
   .rw[if_pos i,if_pos h2];have:=xL.1 h2;simp[this]
   .have h2':c.nm∉seen:=λ h=>h2 (xL.2 h);rw[if_pos i,if_neg h2];by_cases f:btw c.ag 0 (nr-1)=true
    .by_cases h4:ZX nr c.gs=0
     .by_cases h5:J1 nc none c.af=0
      .rw[if_pos f,if_pos h4,if_pos h5,r];simp only[i,h2',f,h4,h5,true_and,not_false_iff];constructor
       .rintro⟨a1,a2⟩;refine⟨λ d g=>?_,λ q=>?_,a2⟩
        .obtain⟨j,m,n,o,p⟩:=a1 d g;exact⟨j,m,n,o,λ b=>p (by simp[b])⟩
        .obtain⟨d,g,e⟩:=mem_map.1 q;exact(a1 d g).2.2.2.2 (by simp[e])
       .rintro⟨a1,a2,a3⟩;refine⟨λ d g=>?_,a3⟩;obtain⟨j,m,n,o,p⟩:=a1 d g;refine⟨j,m,n,o,λ b=>?_⟩;rcases mem_append.1 b with b|b
        .exact p b
        .simp at b;exact a2 (mem_map.2 ⟨d,g,b⟩)
      .rw[if_pos f,if_pos h4,if_neg h5];simp[h5]
     .rw[if_pos f,if_neg h4];simp[h4]
    .rw[if_neg f];simp[f]
  .rw[if_neg i];simp[i]
def Bk.cas_ex{c:Cs}(h:c∈b.cs):∃i,i<b.cs.length/\b.cas i=c:=by
 obtain⟨i,d,e⟩:=mem_iff_getElem.1 h;exact⟨i,d,by simp[Bk.cas,getD_eq_getElem?_getD,d,e]⟩
def Bk.mem_cas{i:Nat}(d:i<b.cs.length):b.cas i∈b.cs:=by
 unfold Bk.cas;rw[getD_eq_getElem?_getD,getElem?_eq_getElem d];exact getElem_mem d
def Bk.Turn.flaw{nameB:ByteArray->Bool}{p q:Nat->Nat}(m:b.flaw nameB=0)(h:b.Turn o p q)(t:∀i,i<b.cs.length->J1 b.nc none (o.cas i).af=0):o.flaw nameB=0:=by
 have D:=Bk.ok_of m
 have g:∀i,i<o.A.length->∀k∈Je o.A i,k<o.A.length:=λ i d k f=>by
  rw[o.A_n]at d ⊢;have e:Je o.A i=(o.cas i).af.map Int.toNat:=by simp[Je,Bk.A,Bk.cas,getD_eq_getElem?_getD,d]
  rw[e]at f;obtain⟨n,M,rfl⟩:=mem_map.1 f;have:=Yk (t i (h.n▸d)) n M;rw[h.n];unfold Bk.nc at this;omega
 have J:Wq o.A=false:=by
  obtain⟨ρ,N⟩:=wS D.lo;refine qq g (λ i=>ρ (p i)) λ i d k f=>?_;have r:=g i d k f;rw[o.A_n,h.n]at d r;exact N (p i) (by rw[b.A_n];exact h.pl i d) (p k) ((h.af i d k r).1 f)
 unfold Bk.flaw at m ⊢;have E:o.rsF nameB=b.rsF nameB:=by unfold Bk.rsF;rw[h.rs]
 rw[E];split at m
 .rename_i h1;rw[if_pos h1];split at m
  .rename_i h2
   have v:o.csF nameB=0:=by
    unfold Bk.csF at h2 ⊢;rw[h.n];split at h2
    .cases h2
    .rename_i h5;rw[if_neg h5,Qf7];obtain⟨F,u⟩:=Qf7.1 h2;have C:o.nr=b.nr:=by unfold Bk.nr;rw[h.rs]
     have z:o.nc=b.nc:=by unfold Bk.nc;rw[h.n]
     rw[C,z];refine⟨λ c K=>?_,?_⟩
     .obtain⟨i,d,rfl⟩:=Bk.cas_ex K;rw[h.n]at d;obtain⟨O,P,Q,-,-⟩:=F _ (Bk.mem_cas (h.pl i d));rw[h.nm i d,h.ag i d,h.gs i d];exact⟨O,P,Q,t i d,S1⟩
     .rw[nodup_iff_pairwise_ne,pairwise_iff_getElem]at u ⊢;simp only[length_map,getElem_map]at u ⊢;intro i j d l L e;have H:(o.cas i).nm=(o.cs[i]).nm:=by simp[Bk.cas,getD_eq_getElem?_getD,d]
      have I:(o.cas j).nm=(o.cs[j]).nm:=by simp[Bk.cas,getD_eq_getElem?_getD,l]
      rw[<- H,<- I]at e;rw[h.n]at d l;rw[h.nm i d,h.nm j l]at e
      have B:p i≠p j:=λ G=>by
       have:=h.qp i d;rw[G,h.qp j l]at this;omega
      have ci:∀k(f:k<b.cs.length),b.cas k=b.cs[k]:=λ k f=>by simp[Bk.cas,getD_eq_getElem?_getD,f]
      rw[ci _ (h.pl i d),ci _ (h.pl j l)]at e;rcases Nat.lt_or_gt_of_ne B with w|w
      .exact u (p i) (p j) (h.pl i d) (h.pl j l) w e
      .exact u (p j) (p i) (h.pl j l) (h.pl i d) w e.symm
   rw[if_pos v,if_neg (by simp[J])]
  .rename_i h2;exact absurd m h2
 .rename_i h1;exact absurd m h1
end Go.TM
namespace Go.TM
variable{b:Bk}
def Bk.flaw_zero{nameB:ByteArray->Bool}:b.flaw nameB=0↔b.rsF nameB=0/\b.csF nameB=0/\Wq b.A=false:=by
 unfold Bk.flaw;by_cases d:b.rsF nameB=0
 .by_cases h2:b.csF nameB=0
  .rw[if_pos d,if_pos h2];cases Wq b.A <;> simp[d,h2]
  .rw[if_pos d,if_neg h2];simp[h2]
 .rw[if_neg d];simp[d]
def Bk.csF_zero{nameB:ByteArray->Bool}:b.csF nameB=0↔b.cs.length<=5/\(∀c∈b.cs,nameB c.nm=true/\btw c.ag 0 (b.nr-1)=true/\ZX b.nr c.gs=0/\J1 b.nc none c.af=0)/\(b.cs.map (·.nm)).Nodup:=by
 unfold Bk.csF;by_cases h:b.cs.length > 5
 .rw[if_pos h];constructor
  .intro x;cases x
  .rintro⟨x,-⟩;omega
 .rw[if_neg h,Qf7];constructor
  .rintro⟨h1,h2⟩;exact⟨O1,λ c d=>let ⟨x1,x2,x3,x4,_⟩:=h1 c d;⟨x1,x2,x3,x4⟩,h2⟩
  .rintro⟨-,h1,h2⟩;exact⟨λ c d=>let ⟨x1,x2,x3,x4⟩:=h1 c d;⟨x1,x2,x3,x4,S1⟩,h2⟩
def Bk.cas_all(b:Bk):(range b.cs.length).map b.cas=b.cs:=by
 apply ext_getElem?;intro i;by_cases h:i<b.cs.length
 .simp[h,Bk.cas,getD_eq_getElem?_getD]
 .simp[h]
def Bk.wo_flaw{nameB:ByteArray->Bool}(j:b.flaw nameB=0)(out:Nat->Bool):(b.wo out).flaw nameB=0:=by
 have f:=(Bk.ok_of j).wo out;obtain⟨l,m,-⟩:=Bk.flaw_zero.1 j;obtain⟨-,n,g⟩:=Bk.csF_zero.1 m;refine Bk.flaw_zero.2 ⟨l,Bk.csF_zero.2 ⟨f.nc,λ c h=>?_,?_⟩,f.lo⟩
 .have hri:=f.ri c h;obtain⟨i,o,rfl⟩:=mem_map.1 h;have d:i<b.cs.length:=mem_range.1 (mem_filter.1 o).1;obtain⟨p,q,r,-⟩:=n _ (Bk.mem_cas d);exact⟨p,q,r,hri⟩
 .have e:(b.wo out).cs.map (·.nm)=(b.kept out).map λ i=>(b.cas i).nm:=by
   show List.map _ (List.map _ _)=_;rw[map_map];rfl
  rw[e];rw[<- b.cas_all,map_map]at g;exact g.sublist (filter_sublist.map _)
structure Bk.Free(b:Bk)(i k:Nat):Prop where
 gi:∀g∈(b.cas i).gs,(b.cas k).ag∉g
 gk:∀g∈(b.cas k).gs,(b.cas i).ag∉g
 ai:(k:Int)∉(b.cas i).af
 ak:(i:Int)∉(b.cas k).af
def Bk.Ok.casIn{b:Bk}{i:Nat}(d:i<b.cs.length):b.cas i∈b.cs:=by
 unfold Bk.cas;rw[getD_eq_getElem?_getD,getElem?_eq_getElem d];exact getElem_mem d
def Bk.aft_cas(d:b.Ok){i k:Nat}(f:i<b.cs.length)(h:k∈Je b.A i):(k:Int)∈(b.cas i).af:=by
 have ci:=Bk.Ok.casIn f
 have e:Je b.A i=(b.cas i).af.map Int.toNat:=by
  simp[Je,Bk.A,Bk.cas,getD_eq_getElem?_getD,f]
 rw[e]at h;obtain⟨n,g,j⟩:=mem_map.1 h;have:=(d.af _ ci n g).1;have:(k:Int)=n:=O1
 exact this▸g
end Go.TM

