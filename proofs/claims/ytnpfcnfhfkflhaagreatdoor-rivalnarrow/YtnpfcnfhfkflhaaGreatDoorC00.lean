/- Lemmas. No conditions. -/
import Derived.Test.YtnpfcnfhfkflhaaGreatDoorB09
import Derived.Test.YtnpfcnfhfkflhaaGreatDoorB42
import Derived.Test.YtnpfcnfhfkflhaaGreatDoorB44
set_option linter.all false
open List
open Go.Proofs.Tryz (prog)
set_option maxRecDepth 100000
namespace Go.Proofs
open Go.TM
def Q41:C:=(.seq (.reg [.xb 4 false])
 (.seq (.seq (.reg [.xv 5 0])
 (.block 0 (.loop (.seq (.seq (.reg [.m 6 5,.m 7 0,.xn 8 7,.xc 9 .lss 6 8])
 (.ite (.t 9) .skip (.exit 0)))
 (.seq (.block 1 (.seq (.reg [.m 12 0,.m 13 5,.xi 14 1 12 13,.xl 15 14,.m 16 1,.xc 17 .eql 15 16])
 (.ite (.t 17) (.seq (.reg [.xb 4 true])
 .ret) .skip)))
 (.reg [.m 10 5,.xa 11 10,.m 5 11]))))))
 (.seq (.reg [.xb 4 false])
 .ret)))
def Qf7:Zf prog 38 18 Q41 [.t 4]:=.o [] [] Tryz.func38 K1
def Zc3:C:=(.seq (.reg [.xb 4 false])
 (.seq (.seq (.reg [.m 6 0,.xn 7 6,.m 8 1,.xn 9 8,.xc 10 .neq 7 9])
 (.ite (.t 10) (.seq (.reg [.xb 4 false])
 .ret) .skip))
 (.seq (.seq (.reg [.xv 5 0])
 (.block 0 (.loop (.seq (.seq (.reg [.m 11 5,.m 12 0,.xn 13 12,.xc 14 .lss 11 13])
 (.ite (.t 14) .skip (.exit 0)))
 (.seq (.block 1 (.seq (.drw [(0,.m 17 0),(0,.m 18 5),(0,.xi 19 1 17 18),(0,.xl 20 19),(0,.m 21 1),(0,.m 22 5),(0,.xi 23 1 21 22),(0,.xl 24 23)] [.d 25 (.teq .neq (.t 20) (.t 24))])
 (.ite (.t 25) (.seq (.reg [.xb 4 false])
 .ret) .skip)))
 (.reg [.m 15 5,.xa 16 15,.m 5 16]))))))
 (.seq (.reg [.xb 4 true])
 .ret))))
def Qqa:Zf prog 59 26 Zc3 [.t 4]:=.o [] [] Tryz.func59 K1
def Zbz:C:=(.seq (.reg [.d 2 (.box 25 (.t 0)),.d 4 (.alloc 25 #[(.slice none 0 0),(.slice none 0 0)]),.xv 5 0])
 (.seq (.seq (.reg [.xd 11 2 2,.d 12 (.call (.func 23) #[(.t 11)]),.m 6 12])
 (.seq (.reg [.m 13 6,.xk 14 .neq 13 0])
 (.ite (.t 14) (.seq (.reg [.d 15 (.build #[(.slice none 0 0),(.slice none 0 0)] []),.m 16 6,⟨.st 2 (.t 4) (.t 15),none,none,none⟩,.m 5 16])
 .ret) .skip)))
 (.seq (.reg [.xd 17 2 2,.d 18 (.build #[(.slice none 0 0),(.slice none 0 0)] [(0,2,(.t 17))]),.d 19 (.call (.func 99) #[(.t 18)]),.d 7 (.alloc 86 #[(.slice none 0 0),(.slice none 0 0)]),⟨.st 2 (.t 7) (.t 19),none,none,none⟩])
 (.seq (.seq (.reg [.m 20 1,.xn 21 20,.xv 22 0])
 (.block 0 (.loop (.seq (.reg [.xc 23 .lss 22 21])
 (.seq (.ite (.t 23) .skip (.exit 0))
 (.seq (.block 1 (.seq (.reg [.xi 24 2 20 22,.xd 25 2 24,.d 9 (.alloc 84 #[(.int .i64 0),(.int .i64 0)]),⟨.st 2 (.t 9) (.t 25),none,none,none⟩])
 (.seq (.block 2 (.seq (.reg [.xo 27 0 9,.xl 28 27,.xo 29 1 2,.xl 30 29,.xn 31 30,.d 32 (.sub (.t 31) (.ci 1)),.d 33 (.call (.func 66) #[(.t 28),(.ci 0),(.t 32)]),.xt 34 33,.m 35 34,.yo 36 35 false 1 9,.yl 37 35 false 36,.yo 38 35 false 1 2,.yl 39 35 false 38,.yn 40 35 false 39,.u 41 35 false (.sub (.t 40) (.ci 1)),.u 42 35 false (.call (.func 66) #[(.t 37),(.ci 0),(.t 41)]),.u 43 35 false (.not (.t 42)),.xq 44 35 43,.m 26 44])
 (.ite (.t 26) (.seq (.reg [.d 45 (.build #[(.slice none 0 0),(.slice none 0 0)] []),⟨.st 2 (.t 4) (.t 45),none,none,none⟩,.xv 5 6])
 .ret) (.seq (.drw [(0,.xo 47 0 7),(0,.xo 48 1 47),(0,.xl 49 48),(0,.xo 50 0 9),(0,.xl 51 50),(0,.xi 52 4 49 51),(0,.xo 53 3 52),(0,.xl 54 53),(0,.xo 55 1 9),(0,.xl 56 55)] [.d 57 (.call (.func 67) #[(.t 54),(.t 56)]),.m 46 57])
 (.ite (.t 46) (.seq (.reg [.d 58 (.build #[(.slice none 0 0),(.slice none 0 0)] []),⟨.st 2 (.t 4) (.t 58),none,none,none⟩,.xv 5 5])
 .ret) .skip)))))
 (.reg [.xd 59 2 7,.xd 60 2 9,.d 61 (.call (.func 100) #[(.t 59),(.t 60)])]))))
 (.reg [.xa 62 22,.m 22 62])))))))
 (.seq (.seq (.reg [.xd 63 2 7,.d 64 (.call (.func 101) #[(.t 63)]),.m 10 64])
 (.seq (.reg [.m 65 10,.xk 66 .neq 65 0])
 (.ite (.t 66) (.seq (.reg [.d 67 (.build #[(.slice none 0 0),(.slice none 0 0)] []),.m 68 10,⟨.st 2 (.t 4) (.t 67),none,none,none⟩,.m 5 68])
 .ret) .skip)))
 (.seq (.reg [.xo 69 0 7,.xd 70 2 69,⟨.st 2 (.t 4) (.t 70),none,none,none⟩,.xv 5 0])
 .ret))))))
def Qdc:Zf prog 55 71 Zbz [.cn 4 2,.t 5]:=.o [] [57] Tryz.func55 K1
def Q4z:C:=(.seq (.reg [.d 2 (.box 25 (.t 0)),.xs 4])
 (.seq (.reg [.xs 5])
 (.seq (.block 0 (.loop (.seq (.seq (.reg [.m 10 5,.xn 11 10,.xo 12 1 2,.xl 13 12,.xn 14 13,.xc 15 .lss 11 14])
 (.ite (.t 15) .skip (.exit 0)))
 (.block 1 (.seq (.reg [.xs 6])
 (.seq (.seq (.reg [.xv 7 0])
 (.block 2 (.loop (.seq (.seq (.reg [.m 16 7,.xo 17 1 2,.xl 18 17,.xn 19 18,.xc 20 .lss 16 19])
 (.ite (.t 20) .skip (.exit 2)))
 (.seq (.block 3 (.seq (.reg [.m 23 5,.m 24 7,.d 25 (.call (.func 38) #[(.t 23),(.t 24)]),.xt 26 25,.m 8 26])
 (.seq (.seq (.reg [.xv 9 0])
 (.block 4 (.loop (.seq (.seq (.reg [.m 27 9,.xo 28 1 2,.xl 29 28,.m 30 7,.xi 31 4 29 30,.xo 32 3 31,.xl 33 32,.xn 34 33,.xc 35 .lss 27 34])
 (.ite (.t 35) .skip (.exit 4)))
 (.seq (.block 5 (.reg [.m 38 8,.m 39 38,.ym 40 39 true 5,.yo 41 39 true 1 2,.yl 42 39 true 41,.ym 43 39 true 7,.yi 44 39 true 4 42 43,.yo 45 39 true 3 44,.yl 46 39 true 45,.ym 47 39 true 9,.yi 48 39 true 1 46 47,.yl 49 39 true 48,.u 50 39 true (.call (.func 38) #[(.t 40),(.t 49)]),.xp 51 39 50,.m 8 51]))
 (.reg [.m 36 9,.xa 37 36,.m 9 37]))))))
 (.seq (.reg [.m 52 8])
 (.ite (.t 52) (.reg [.m 53 6,.m 54 7,.d 55 (.bsl 3 1 #[(.int .i64 0)] [(0,1,(.t 54))]),.xz 56 53 55 26,.m 6 56]) .skip)))))
 (.reg [.m 21 7,.xa 22 21,.m 7 22]))))))
 (.reg [.m 57 5,.m 58 6,.m 59 1,.m 60 5,.xn 61 60,.d 62 (.call (.func 83) #[(.t 59),(.t 61)]),.m 63 6,.xn 64 63,.d 65 (.ar .rem (.t 62) (.t 64)),.xi 66 1 58 65,.xl 67 66,.d 68 (.bsl 3 1 #[(.int .i64 0)] [(0,1,(.t 67))]),.xz 69 57 68 26,.m 5 69])))))))
 (.seq (.reg [.m 70 5,.m 4 70])
 .ret))))
def Qp5:Zf prog 33 71 Q4z [.t 4]:=.o [] [] Tryz.func33 K1
def Zcx:C:=(.seq (.reg [.d 2 (.box 25 (.t 0)),.xs 4])
 (.seq (.reg [.xs 5])
 (.seq (.seq (.reg [.xv 6 0])
 (.block 0 (.loop (.seq (.seq (.reg [.m 7 6,.m 8 1,.d 9 (.call (.func 83) #[(.t 8),(.ci 20)]),.d 10 (.ar .rem (.t 9) (.ci 5)),.xc 11 .lss 7 10,.m 12 11,.yo 13 12 true 1 2,.yl 14 12 true 13,.yn 15 12 true 14,.yk 16 12 true .gtr 15 0,.xp 17 12 16])
 (.ite (.t 17) .skip (.exit 0)))
 (.seq (.block 1 (.drw [(0,.m 20 5),(0,.m 21 1),(0,.m 22 6),(0,.d 23 (.mul (.ci 2) (.t 22))),(0,.d 24 (.add (.ci 21) (.t 23))),(1,.d 25 (.call (.func 83) #[(.t 21),(.t 24)])),(0,.xo 26 1 2),(0,.xl 27 26),(0,.xn 28 27),(0,.d 29 (.ar .rem (.t 25) (.t 28))),(0,.m 30 1),(0,.m 31 6),(0,.d 32 (.mul (.ci 2) (.t 31))),(0,.d 33 (.add (.ci 22) (.t 32))),(1,.d 34 (.call (.func 83) #[(.t 30),(.t 33)])),(0,.xo 35 1 2),(0,.xl 36 35),(0,.xn 37 36),(0,.d 38 (.ar .rem (.t 34) (.t 37))),(0,.d 39 (.build #[(.int .i64 0),(.int .i64 0)] [(0,1,(.t 29)),(1,1,(.t 38))])),(2,.d 40 (.bsl 84 1 #[(.int .i64 0),(.int .i64 0)] [(0,2,(.t 39))]))] [.xz 41 20 40 68,.m 5 41]))
 (.reg [.m 18 6,.xa 19 18,.m 6 19]))))))
 (.seq (.reg [.m 42 5,.m 4 42])
 .ret))))
def Qdg:Zf prog 57 43 Zcx [.t 4]:=.o [] [25,34] Tryz.func57 K1
def Zc5:C:=(.seq (.reg [.xv 4 0])
 (.seq (.seq (.reg [.m 5 1,.m 6 0,.xn 7 6,.xc 8 .lss 5 7])
 (.ite (.t 8) (.seq (.reg [.m 9 0,.m 10 1,.xi 11 1 9 10,.xl 12 11,.d 13 (.conv .i64 (.t 12)),.m 4 13])
 .ret) .skip))
 (.seq (.reg [.xv 4 0])
 .ret)))
def Qbj:Zf prog 83 14 Zc5 [.t 4]:=.o [] [] Tryz.func83 K1
end Go.Proofs
set_option linter.unusedSimpArgs false
namespace Go.TM
variable{T:Type}{P:Program}{S:Sys P T}{fn:FuncId}{ro:Option Nat}
def V3.frz1{U U':Qa T}{b:Nat}{e:TypeId}{c:Array Value}(h:V3 U b e c U'):U.frz.lg U':=⟨h.imm,⟨_,(append_nil _).symm⟩,h.tok⟩
def V3.made{U U':Qa T}{b:Nat}{e:TypeId}{c:Array Value}(h:U.le U')(d:U'.free b):V3 U b e c (U'.put b (.cells c e)):=by
 refine⟨h.imm,by show _::U'.M=_;rw[h.own],h.tok,?_⟩;cases a:U.I b with
 |none=>rfl
 |some o=>have:=h.imm b o a;rw[d.1]at this;cases this
end Go.TM
namespace Go.Proofs
open Go.TM
variable{T:Type}{S:TM.Sys prog T}{U:Qa T}
attribute [local irreducible] Qb Zl Wt
def Qaq(a:Option Addr)(len cap:Nat)(l:List Int)(g:Z5 U a len l)(h:len<2^60)(n:Int) :
  Qb S 38 #[.slice a len cap,.int .i64 n] (λ v U'=>v=.bool (l.contains n)/\U'=U) U:=by
 refine Qb.of (args:=[_,_]) Qf7 Qf S1 ?_
 repeat refine⟨rfl,?_⟩
 refine⟨Nat,λ i=>[(0,.slice a len cap),(1,.int .i64 n),(5,.int .i64 i)],λ i U'=>U'=U/\i<=len/\n∉l.take i,λ i=>len-i,0,T1,⟨rfl,O1,S1⟩,?_⟩;rintro i f _⟨rfl,r,b⟩
 repeat refine⟨rfl,?_⟩
 conv=>whnf
 apply Qe<;>intro e
 .have hlt:i<len:=by simpa using e
  obtain⟨m,x,j,rfl,q,o⟩:=g.at hlt;refine⟨m,i,⟨rfl,rfl,hlt⟩,_,o,?_⟩
  repeat refine⟨rfl,?_⟩
  conv=>whnf
  apply Qe<;>intro e
  .repeat refine⟨rfl,?_⟩
   conv=>whnf
   have d:x=n:=by simpa using e
   refine⟨?_,rfl⟩;have:n∈l:=d▸mem_of_getElem? j;simp[this]
  .have d:x≠n:=by simpa using e
   refine⟨I1,?_⟩;refine⟨rfl,i+1,T1,⟨rfl,O1,?_⟩,L1⟩;rw[Ji j];simp[b,Ne.symm d]
 .have hge:len<=i:=by simpa using e
  repeat refine⟨rfl,?_⟩
  refine⟨?_,rfl⟩;have:l.take i=l:=take_of_length_le (by rw[g.1];exact hge);rw[this]at b;simp[b]
end Go.Proofs
namespace Go.Proofs
open Go.TM Go.ChangeShapes Go.WideShapes Go.RowKit
section
variable{H:Type}{enc:TypeId×Value->H}{W:World}{fuel:Nat}{x:DataW H×List MemPlace}{v:Value}{cs:List Value}
def Zg3:prog.underlying 44=some (.slice 186):=K1
def Q0m:prog.underlying 186=some (.int .u16):=K1
def Qpj:prog.cellsOf 186=1:=K1
def Qpf:0<prog.bytesOf 186:=of_decide_eq_true K1
def Zk5{k:IntKind}{t:TypeId}{m:Nat}(f:prog.underlying t=some (.int k))(b:k.min=0)(e:k.max=(m:Int))(h:JZ enc prog W fuel t cs=some x):∃u:Nat,cs=[.int k u]/\u<=m:=by
 obtain⟨n,d,-,a⟩:=DataW.trod_int f h;simp only[Lit.wf,Bool.and_eq_true,decide_eq_true_eq]at a;rw[b,e]at a;obtain⟨u,rfl⟩:=Int.eq_ofNat_of_zero_le a.1;exact⟨u,d,O1⟩
def Zm0{T:Type}(U:Qa T)(a:Option Addr)(len:Nat)(l:List Nat):Prop:=Q5 U a len 1 l λ n vs=>vs=[.int .u16 (n:Int)]/\n<65536
def Zl2(h:JZ enc prog W fuel 44 [v]=some x)(g:Sz prog 44 x.1):∃a len cap l,v=.slice a len cap/\Zm0 (Qa.all W) a len l/\len<2^60:=by
 obtain⟨a,len,cap,l,b,d,e⟩:=Yd (R:=λ(n:Nat)vs=>vs=[.int .u16 (n:Int)]/\n<65536) Zg3 Qpj D1 Qpf h g λ m r y f _=>by
  obtain⟨u,b,d⟩:=Zk5 (m:=65535) Q0m D1 D1 f;exact⟨u,b,O1⟩
 exact⟨a,len,cap,l,b,d,e⟩
end
end Go.Proofs

noncomputable section
namespace Go.Proofs
open Go.TM
noncomputable def Q4x:C:=(.seq (.reg [.d 2 (.box 25 (.t 0)),.xb 4 false])
 (.seq (.seq (.reg [.xd 19 2 2,.d 20 (.call (.func 32) #[(.t 19)]),.xt 21 20])
 (.ite (.t 21) (.seq (.reg [.d 22 (.call (.func 20) #[]),.m 4 22])
 .ret) .skip))
 (.seq (.cd 184 (Gl Tryz.f16 3))
 (.seq (.seq (.reg [.m 31 6,.xk 32 .neq 31 0])
 (.ite (.t 32) (.seq (.reg [.m 33 6,.xk 34 .eql 33 5,.m 35 34,.ym 36 35 false 6,.yk 37 35 false .eql 36 8,.xq 38 35 37,.m 39 38,.yo 40 39 true 0 5,.yl 41 39 true 40,.yn 42 39 true 41,.yo 43 39 true 1 5,.yl 44 39 true 43,.yn 45 39 true 44,.u 46 39 true (.add (.t 42) (.t 45)),.yk 47 39 true .eql 46 0,.xp 48 39 47,.m 49 48,.u 50 49 true (.call (.func 20) #[]),.xp 51 49 50,.m 4 51])
 .ret) .skip))
 (.seq (.seq (.reg [.xd 52 2 5,.d 53 (.call (.func 24) #[(.t 52)]),.xk 54 .neq 53 0,.m 55 54,.yo 56 55 false 1 5,.yl 57 55 false 56,.yn 58 55 false 57,.yo 59 55 false 1 2,.yl 60 55 false 59,.yn 61 55 false 60,.u 62 55 false (.cmp .neq (.t 58) (.t 61)),.xq 63 55 62,.m 64 63,.yo 65 64 false 0 5,.yl 66 64 false 65,.yo 67 64 false 0 2,.yl 68 64 false 67,.u 69 64 false (.call (.func 59) #[(.t 66),(.t 68)]),.u 70 64 false (.not (.t 69)),.xq 71 64 70])
 (.ite (.t 71) (.seq (.reg [.xb 4 false])
 .ret) .skip))
 (.seq (.reg [.xd 73 2 2,.d 74 (.call (.func 26) #[(.t 73)]),.m 72 74,.xe 75 72 0,.xe 76 72 1,.xe 77 72 2,.m 7 75,.m 8 76,.m 6 77])
 (.seq (.reg [.xd 79 2 5,.d 80 (.call (.func 26) #[(.t 79)]),.m 78 80,.xe 81 78 0,.xe 82 78 1,.xe 83 78 2,.m 9 81,.m 10 82,.m 11 83])
 (.seq (.seq (.reg [.m 84 6,.xk 85 .neq 84 0,.m 86 85,.ym 87 86 false 11,.yk 88 86 false .neq 87 0,.xq 89 86 88,.m 90 89,.ym 91 90 false 9,.yn 92 90 false 91,.ym 93 90 false 7,.yn 94 90 false 93,.u 95 90 false (.cmp .neq (.t 92) (.t 94)),.xq 96 90 95,.m 97 96,.ym 98 97 false 10,.yn 99 97 false 98,.ym 100 97 false 8,.yn 101 97 false 100,.u 102 97 false (.cmp .neq (.t 99) (.t 101)),.xq 103 97 102])
 (.ite (.t 103) (.seq (.reg [.xb 4 false])
 .ret) .skip))
 (.seq (.seq (.reg [.xv 12 0])
 (.block 0 (.loop (.seq (.seq (.reg [.m 104 12,.m 105 7,.xn 106 105,.xc 107 .lss 104 106])
 (.ite (.t 107) .skip (.exit 0)))
 (.seq (.block 1 (.seq (.drw [(0,.m 110 7),(0,.m 111 12),(0,.xi 112 1 110 111),(0,.xl 113 112),(0,.xk 114 .neq 113 0),(0,.m 115 114),(0,.ym 116 115 true 9),(0,.ym 117 115 true 12),(0,.yi 118 115 true 1 116 117),(0,.yl 119 115 true 118),(0,.ym 120 115 true 7),(0,.ym 121 115 true 12),(0,.yi 122 115 true 1 120 121),(0,.yl 123 115 true 122)] [.u 124 115 true (.cmp .neq (.t 119) (.t 123)),.xp 125 115 124])
 (.ite (.t 125) (.seq (.reg [.xb 4 false])
 .ret) .skip)))
 (.reg [.m 108 12,.xa 109 108,.m 12 109]))))))
 (.seq (.seq (.reg [.xv 13 0])
 (.block 2 (.loop (.seq (.seq (.reg [.m 126 13,.m 127 8,.xn 128 127,.xc 129 .lss 126 128])
 (.ite (.t 129) .skip (.exit 2)))
 (.seq (.block 3 (.seq (.drw [(0,.m 132 8),(0,.m 133 13),(0,.xi 134 1 132 133),(0,.xl 135 134),(0,.xk 136 .neq 135 0),(0,.m 137 136),(0,.ym 138 137 true 10),(0,.ym 139 137 true 13),(0,.yi 140 137 true 1 138 139),(0,.yl 141 137 true 140),(0,.ym 142 137 true 8),(0,.ym 143 137 true 13),(0,.yi 144 137 true 1 142 143),(0,.yl 145 137 true 144)] [.u 146 137 true (.cmp .neq (.t 141) (.t 145)),.xp 147 137 146])
 (.ite (.t 147) (.seq (.reg [.xb 4 false])
 .ret) .skip)))
 (.reg [.m 130 13,.xa 131 130,.m 13 131]))))))
 (.seq (.reg [.xd 148 2 5,.m 149 1,.d 150 (.call (.func 33) #[(.t 148),(.t 149)]),.m 14 150])
 (.seq (.reg [.xd 152 2 2,.m 153 14,.d 154 (.call (.func 21) #[(.t 152),(.t 153)]),.m 151 154,.xe 155 151 0,.xe 156 151 1,.xe 157 151 2,.m 15 155,.m 16 156,.m 6 157])
 (.seq (.reg [.xd 159 2 5,.m 160 14,.d 161 (.call (.func 21) #[(.t 159),(.t 160)]),.m 158 161,.xe 162 158 0,.xe 163 158 1,.xe 164 158 2,.m 17 162,.m 18 163,.m 11 164])
 (.seq (.reg [.m 165 6,.xk 166 .eql 165 0,.m 167 166,.ym 168 167 true 11,.yk 169 167 true .eql 168 0,.xp 170 167 169,.m 171 170,.ym 172 171 true 15,.ym 173 171 true 17,.u 174 171 true (.call (.func 25) #[(.t 172),(.t 173)]),.xp 175 171 174,.m 176 175,.ym 177 176 true 16,.ym 178 176 true 18,.u 179 176 true (.call (.func 25) #[(.t 177),(.t 178)]),.xp 180 176 179,.m 181 180,.u 182 181 true (.call (.func 20) #[]),.xp 183 181 182,.m 4 183])
 .ret))))))))))))))
def Zc6:Zf Tryz.prog 16 184 Q4x [.t 4]:=.o [] [] Tryz.func16 K1
end Go.Proofs
end

namespace Go.TM
variable{b:Bk}
def Bk.okTo(b:Bk):List Nat->List Nat->Bool
 |_,[]=>true
 |p,i::q=>decide (i<b.cs.length)&&b.can p i&&b.okTo (p++[i]) q
def Bk.mem_ords:∀(k:Nat)(p o:List Nat),o∈b.ords k p↔∃q,o=p++q/\q.length=k/\b.okTo p q=true
 |0,p,o=>by
  simp only[Bk.ords,mem_singleton];constructor
  .rintro rfl;exact⟨[],S1,rfl,rfl⟩
  .rintro⟨q,rfl,a,-⟩;rw[length_eq_zero_iff]at a;simp[a]
 |k+1,p,o=>by
  simp only[Bk.ords,mem_flatMap,mem_range];constructor
  .rintro⟨i,hi,ho⟩;split at ho
   .rename_i hc;obtain⟨q,rfl,a,d⟩:=(Bk.mem_ords k (p++[i]) o).1 ho;exact⟨i::q,S1,by simp[a],by simp[Bk.okTo,hi,hc,d]⟩
   .cases ho
  .rintro⟨q,rfl,a,d⟩;cases q with
   |nil=>cases a
   |cons i q=>
    simp only[Bk.okTo,Bool.and_eq_true,decide_eq_true_eq]at d;refine⟨i,d.1.1,?_⟩;rw[if_pos d.1.2];exact(Bk.mem_ords k (p++[i]) _).2 ⟨q,S1,by simpa using a,d.2⟩
def Bk.mem_all{o:List Nat}:o∈b.all↔o.length=b.cs.length/\b.okTo [] o=true:=by
 unfold Bk.all;rw[Bk.mem_ords];constructor
 .rintro⟨q,rfl,hq,hk⟩;exact⟨hq,hk⟩
 .rintro⟨h1,h2⟩;exact⟨o,rfl,h1,h2⟩
def Bk.okTo_iff:∀(q p:List Nat),b.okTo p q=true↔∀X i Y,q=X++i::Y->i<b.cs.length/\b.can (p++X) i=true
 |[],p=>by simp[Bk.okTo]
 |i::q,p=>by
  simp only[Bk.okTo,Bool.and_eq_true,decide_eq_true_eq];rw[Bk.okTo_iff q (p++[i])];constructor
  .rintro⟨⟨h1,h2⟩,h3⟩ X j Y e;cases X with
   |nil=>
    simp only[nil_append,List.cons.injEq]at e;obtain⟨rfl,rfl⟩:=e;simpa using⟨h1,h2⟩
   |cons x X=>
    simp only[cons_append,List.cons.injEq]at e;obtain⟨rfl,rfl⟩:=e;have:=h3 X j Y rfl;simpa using this
  .intro h;refine⟨by simpa using h [] i q rfl,λ X j Y e=>?_⟩;have:=h (i::X) j Y (by simp[e]);simpa using this
def Bk.can_iff{o:List Nat}{i:Nat}:b.can o i=true↔i∉o/\∀k∈Je b.A i,k∈o:=by
 simp[Bk.can]
structure Bk.Ord(b:Bk)(o:List Nat):Prop where
 len:o.length=b.cs.length
 low:∀i∈o,i<b.cs.length
 nod:o.Nodup
 aft:∀X i Y,o=X++i::Y->∀k∈Je b.A i,k∈X
def Qzk:∀{o:List Nat},(∀X i Y,o=X++i::Y->i∉X)->o.Nodup:=by
 intro o h;rw[nodup_iff_pairwise_ne,pairwise_iff_getElem];intro i j b d a e;refine h (o.take j) o[j] (o.drop (j+1)) (by rw[getElem_cons_drop,take_append_drop]) ?_;rw[<- e,mem_take_iff_getElem];exact⟨i,O1,rfl⟩
def Bk.mem_all_iff{o:List Nat}:o∈b.all↔b.Ord o:=by
 rw[Bk.mem_all,Bk.okTo_iff];simp only[nil_append];constructor
 .rintro⟨h1,h2⟩;refine⟨h1,λ i d=>?_,Qzk λ X i Y e=>(Bk.can_iff.1 (h2 X i Y e).2).1,λ X i Y e=>(Bk.can_iff.1 (h2 X i Y e).2).2⟩;obtain⟨X,Y,e⟩:=append_of_mem d;exact(h2 X i Y e).1
 .intro h;refine⟨h.len,λ X i Y e=>⟨h.low i (by rw[e];simp),Bk.can_iff.2 ⟨λ f=>?_,h.aft X i Y e⟩⟩⟩;have a:=h.nod;rw[e]at a;exact(nodup_append.1 a).2.2 i f i (mem_cons_self ..) rfl
def Zg4{n:Nat}{l:List Nat}(h:∀i,i<n->i∈l):n<=l.length:=by
 have a:∀(n:Nat)(l:List Nat),(∀i,i<n->i∈l)->n<=l.length:=by
  intro n
  induction n with
  |zero=>intro l _;exact Nat.zero_le _
  |succ n b=>
   intro l h;obtain⟨X,Y,e⟩:=append_of_mem (h n O1)
   have:=b (X++Y) λ i d=>by
    have:=h i O1;rw[e]at this;simp only[mem_append,mem_cons]at this ⊢;rcases this with h|h|h
    .exact .inl h
    .omega
    .exact .inr h
   rw[e];simp at this ⊢;omega
 exact a n l h
def Bk.A_n(b:Bk):b.A.length=b.cs.length:=by simp[Bk.A]
def Bk.Ok.ord{b:Bk}(h:b.Ok):∃o,b.Ord o:=by
 obtain⟨L,d,a⟩:=DM h.lo;rw[b.A_n]at a;refine⟨L.reverse,?_,λ i f=>by rw[<- b.A_n];exact d.low i (by simpa using f),(by unfold Nodup;rw[pairwise_reverse];exact d.nod.imp Ne.symm),λ X i Y e k g=>?_⟩
 .rw[length_reverse];have l:=H7 d.nod (n:=b.cs.length) λ x j=>by rw[<- b.A_n];exact d.low x j
  have m:=Zg4 a;omega
 .have e':L=Y.reverse++i::X.reverse:=by
   rw[<- reverse_reverse L,e];simp
  have:=d.aft _ _ _ e' k g;simpa using this
def Bk.Ord.has{b:Bk}{o:List Nat}(h:b.Ord o){i:Nat}(e:i<b.cs.length):i∈o:=by
 apply Classical.byContradiction;intro f;have d:(i::o).Nodup:=nodup_cons.2 ⟨f,h.nod⟩
 have:=H7 d (n:=b.cs.length) λ x a=>by
  rcases mem_cons.1 a with rfl|a
  .exact e
  .exact h.low x a
 rw[length_cons,h.len]at this;omega
def Bk.Ok.all_pos{b:Bk}(h:b.Ok):0<b.all.length:=by
 obtain⟨o,a⟩:=h.ord;exact length_pos_of_mem (Bk.mem_all_iff.2 a)
def Bk.stp_len(b:Bk)(x:List Bool×List Bool)(i:Nat):(b.stp x i).1.length=x.1.length/\(b.stp x i).2.length=x.2.length:=by
 unfold Bk.stp;split <;> simp
def Bk.end_len(b:Bk)(o:List Nat):(b.ends o).1.length=b.rs.length/\(b.ends o).2.length=b.cs.length:=by
 have a:∀(o:List Nat)(x:List Bool×List Bool),(o.foldl b.stp x).1.length=x.1.length/\(o.foldl b.stp x).2.length=x.2.length:=by
  intro o
  induction o with
  |nil=>exact λ x=>⟨rfl,rfl⟩
  |cons i o f=>
   intro x;have d:=f (b.stp x i);have e:=b.stp_len x i;exact⟨d.1.trans e.1,d.2.trans e.2⟩
 have:=a o b.ini;simpa[Bk.ends,Bk.ini]using this
def Qvz{l:List Bool}{i j:Nat}{v:Bool}:(l.set i v).getD j false=if i=j/\i<l.length then v else l.getD j false:=by
 simp only[getD_eq_getElem?_getD,getElem?_set];by_cases e:i=j
 .subst e;by_cases h:i<l.length
  .simp[h]
  .simp[h]
 .simp[e]
def Bk.Ord.split{b:Bk}{o:List Nat}(h:b.Ord o){i:Nat}(a:i<b.cs.length):∃X Y,o=X++i::Y:=append_of_mem (h.has a)
def Q0h{a all:Nat}:H9 a all=1↔a=all:=by
 unfold H9;split
 .rename_i h;simp[h]
 .rename_i h;split
  .simp[h]
  .simp[h]
def Q0j{a all:Nat}(b:0<all):H9 a all=2↔a=0:=by
 unfold H9;split
 .rename_i h;constructor
  .intro x;cases x
  .intro x;omega
 .split
  .rename_i h;simp[h]
  .rename_i h;simp[h]
def Qlg(a all:Nat):H9 a all=0\/H9 a all=1\/H9 a all=2:=by
 unfold H9;split
 .exact .inr (.inl rfl)
 .split
  .exact .inr (.inr rfl)
  .exact .inl rfl
def Bk.fatC_one(b:Bk){i:Nat}:b.fatC i=1↔∀o,b.Ord o->(b.ends o).2.getD i false=true:=by
 unfold Bk.fatC;rw[Q0h,countP_eq_length];exact⟨λ h o a=>h o (Bk.mem_all_iff.2 a),λ h o a=>h o (Bk.mem_all_iff.1 a)⟩
def Bk.fatR_one(b:Bk){i:Nat}:b.fatR i=1↔∀o,b.Ord o->(b.ends o).1.getD i false=true:=by
 unfold Bk.fatR;rw[Q0h,countP_eq_length];exact⟨λ h o a=>h o (Bk.mem_all_iff.2 a),λ h o a=>h o (Bk.mem_all_iff.1 a)⟩
def Bk.fatC_two(b:Bk)(h:b.Ok){i:Nat}:b.fatC i=2↔∀o,b.Ord o->(b.ends o).2.getD i false=false:=by
 unfold Bk.fatC;rw[Q0j h.all_pos,countP_eq_zero];exact⟨λ h o a=>by simpa using h o (Bk.mem_all_iff.2 a),λ h o a=>by simpa using h o (Bk.mem_all_iff.1 a)⟩
def Bk.fatR_two(b:Bk)(h:b.Ok){i:Nat}:b.fatR i=2↔∀o,b.Ord o->(b.ends o).1.getD i false=false:=by
 unfold Bk.fatR;rw[Q0j h.all_pos,countP_eq_zero];exact⟨λ h o a=>by simpa using h o (Bk.mem_all_iff.2 a),λ h o a=>by simpa using h o (Bk.mem_all_iff.1 a)⟩
def Bk.nexts(b:Bk)(o:List Nat):List Nat:=(range b.cs.length).filter λ i=>b.can o i
def Bk.pickO(b:Bk)(p:List Nat):Nat->List Nat->List Nat
 |0,o=>o
 |k+1,o=>b.pickO p k (o++[(b.nexts o).getD (p.getD o.length 0 % (b.nexts o).length) 0])
structure Bk.Beg(b:Bk)(o:List Nat):Prop where
 low:∀i∈o,i<b.cs.length
 nod:o.Nodup
 aft:∀X i Y,o=X++i::Y->∀k∈Je b.A i,k∈X
def Bk.Beg.nil:b.Beg []:=⟨S1,.nil,λ X i Y e=>by cases X <;> cases e⟩
def Bk.Beg.le{o:List Nat}(h:b.Beg o):o.length<=b.cs.length:=H7 h.nod h.low
def Bk.Beg.snoc{o:List Nat}{i:Nat}(h:b.Beg o)(r:i<b.cs.length)(q:b.can o i=true):b.Beg (o++[i]):=by
 obtain⟨m,n⟩:=Bk.can_iff.1 q;refine⟨λ j a=>?_,?_,λ X j Y e k f=>?_⟩
 .rcases mem_append.1 a with a|a
  .exact h.low j a
  .simp at a;subst a;exact r
 .rw[nodup_append];exact⟨h.nod,S1,λ x t y g e=>by simp at g;subst g;subst e;exact m t⟩
 .rcases eq_nil_or_concat Y with rfl|⟨d,y,rfl⟩
  .obtain⟨rfl,e2⟩:=append_inj' e S1;cases e2;exact n k f
  .have e':o++[i]=(X++j::d)++[y]:=by rw[e];simp
   obtain⟨l,-⟩:=append_inj' e' S1;exact h.aft X j d l k f
def Bk.Beg.next{o:List Nat}(t:b.Ok)(h:b.Beg o)(w:o.length<b.cs.length):0<(b.nexts o).length:=by
 obtain⟨f,r⟩:=t.ord
 have q:∃i∈f,i∉o:=by
  apply Classical.byContradiction;intro z
  have m:∀i,i<b.cs.length->i∈o:=λ i g=>by
   apply Classical.byContradiction;intro j;exact z ⟨i,r.has g,j⟩
  have:=Zg4 m;omega
 have d:∃X i Y,f=X++i::Y/\i∉o/\∀k∈X,k∈o:=by
  have v:∀(Y X:List Nat),f=X++Y->(∀k∈X,k∈o)->(∃i∈Y,i∉o)->∃X i Y,f=X++i::Y/\i∉o/\∀k∈X,k∈o:=by
   intro Y
   induction Y with
   |nil=>rintro X _ _⟨i,g,-⟩;cases g
   |cons y Y A=>
    rintro X e n⟨i,g,j⟩;by_cases u:y∈o
    .refine A (X++[y]) (by rw[e];simp) (λ k l=>?_) ?_
     .rcases mem_append.1 l with l|l
      .exact n k l
      .simp at l;subst l;exact u
     .rcases mem_cons.1 g with rfl|g
      .exact absurd u j
      .exact⟨i,g,j⟩
    .exact⟨X,y,Y,e,u,n⟩
  exact v f [] S1 S1 q
 obtain⟨X,i,Y,e,g,n⟩:=d;refine length_pos_of_mem (a:=i) (mem_filter.2 ⟨mem_range.2 (r.low i (by rw[e];simp)),?_⟩);exact Bk.can_iff.2 ⟨g,λ k l=>n k (r.aft X i Y e k l)⟩
def Bk.nexts_at{o:List Nat}{q:Nat}(h:q<(b.nexts o).length):(b.nexts o).getD q 0<b.cs.length/\b.can o ((b.nexts o).getD q 0)=true:=by
 have e:(b.nexts o).getD q 0∈b.nexts o:=by
  rw[getD_eq_getElem?_getD,getElem?_eq_getElem h];exact getElem_mem h
 obtain⟨a,d⟩:=mem_filter.1 e;exact⟨mem_range.1 a,d⟩
def Bk.pick_beg(a:b.Ok)(p:List Nat):∀(k:Nat)(o:List Nat),b.Beg o->o.length+k<=b.cs.length->b.Beg (b.pickO p k o)/\(b.pickO p k o).length=o.length+k
 |0,o,h,_=>⟨h,rfl⟩
 |k+1,o,h,j=>by
  have g:=h.next a O1;obtain⟨d,e⟩:=Bk.nexts_at (Nat.mod_lt (p.getD o.length 0) g);have:=Bk.pick_beg a p k _ (h.snoc d e) S3;refine⟨this.1,?_⟩;have f:=this.2;simp only[length_append,length_singleton]at f;show(b.pickO p k _).length=_;omega
def Bk.pick_ord(d:b.Ok)(p:List Nat):b.Ord (b.pickO p b.cs.length []):=by
 obtain⟨a,e⟩:=Bk.pick_beg d p b.cs.length [] Bk.Beg.nil S1;exact⟨by simpa using e,a.low,a.nod,a.aft⟩
def Bk.Ord.flaw{o:List Nat}(h:b.Ord o):b.ordF (o.map λ(k:Nat)=>(k:Int))=0:=by
 have d:∀(q p:List Nat),o=p++q->b.ordL p (q.map λ(k:Nat)=>(k:Int))=0:=by
  intro q
  induction q with
  |nil=>intro p _;rfl
  |cons i q m=>
   intro p e;have n:i<b.cs.length:=h.low i (by rw[e];simp);have f:=h.nod;rw[e,nodup_append]at f;have a:i∉p:=λ l=>f.2.2 i l i (mem_cons_self ..) rfl;have g:=h.aft p i q e;show(if Go.TM.btw (i:Int) 0 (b.nc-1)then(if(i:Int).toNat∈p then 5 else if(Je b.A (i:Int).toNat).all (λ k=>p.contains k)then b.ordL (p++[(i:Int).toNat]) (q.map λ(k:Nat)=>(k:Int))else 7)else 6)=0;rw[if_pos (by unfold Bk.nc;simp[btw];omega),Int.toNat_natCast,if_neg a,if_pos (by rw[all_eq_true];intro k j;simpa using g k j)];exact m (p++[i]) (by rw[e];simp)
 unfold Bk.ordF;rw[if_neg (by rw[length_map,h.len];simp)];exact d o [] rfl
end Go.TM
namespace Go.TM
variable{b o:Bk}
structure Bk.Turn(b o:Bk)(p q:Nat->Nat):Prop where
 rs:o.rs=b.rs
 n:o.cs.length=b.cs.length
 pl:∀i,i<b.cs.length->p i<b.cs.length
 ql:∀i,i<b.cs.length->q i<b.cs.length
 qp:∀i,i<b.cs.length->q (p i)=i
 pq:∀i,i<b.cs.length->p (q i)=i
 nm:∀i,i<b.cs.length->(o.cas i).nm=(b.cas (p i)).nm
 ag:∀i,i<b.cs.length->(o.cas i).ag=(b.cas (p i)).ag
 gs:∀i,i<b.cs.length->(o.cas i).gs=(b.cas (p i)).gs
 af:∀i,i<b.cs.length->∀k,k<b.cs.length->(k∈Je o.A i↔p k∈Je b.A (p i))
def Bk.Turn.symm{p q:Nat->Nat}(h:b.Turn o p q):o.Turn b q p:=by
 have a:=h.n;refine⟨h.rs.symm,h.n.symm,?_,?_,?_,?_,?_,?_,?_,?_⟩ <;> rw[a]
 .exact h.ql
 .exact h.pl
 .exact h.pq
 .exact h.qp
 .intro i hi;rw[h.nm _ (h.ql i hi),h.pq i hi]
 .intro i hi;rw[h.ag _ (h.ql i hi),h.pq i hi]
 .intro i hi;rw[h.gs _ (h.ql i hi),h.pq i hi]
 .intro i hi k hk;rw[h.af _ (h.ql i hi) _ (h.ql k hk),h.pq i hi,h.pq k hk]
def Bk.Turn.ends{p q:Nat->Nat}(h:b.Turn o p q):∀(n:Nat)(l:List Nat),l.length=n->(∀i∈l,i<b.cs.length)->(o.ends l).1=(b.ends (l.map p)).1/\∀i,i<b.cs.length->(o.ends l).2.getD i false=(b.ends (l.map p)).2.getD (p i) false:=by
 intro n
 induction n with
 |zero=>
  intro l g _;rw[length_eq_zero_iff]at g;subst g;refine⟨by simp[Bk.ends,Bk.ini,h.rs],λ i a=>?_⟩;simp[Bk.ends,Bk.ini,getD_eq_getElem?_getD,getElem?_replicate,h.n,a,h.pl i a]
 |succ n w=>
  intro l g d
  obtain⟨f,i,rfl⟩:∃f i,l=f++[i]:=by
   rcases eq_nil_or_concat l with e|⟨q,i,e⟩
   .rw[e]at g;cases g
   .exact⟨q,i,by simpa using e⟩
  obtain⟨t,u⟩:=w f (by simpa using g) λ j m=>d j (by simp[m]);have a:=d i S1;rw[map_append,map_singleton,o.ends_snoc,b.ends_snoc];unfold Bk.stp;rw[h.gs i a,h.ag i a,t];by_cases r:Iq (b.cas (p i)).gs (b.ends (f.map p)).1=true
  .rw[if_pos r,if_pos r];refine⟨rfl,λ j m=>?_⟩;show((o.ends f).2.set i true).getD j false=((b.ends (f.map p)).2.set (p i) true).getD (p j) false;rw[Qvz,Qvz,(o.end_len f).2,(b.end_len _).2,h.n,u j m];by_cases e:i=j
   .subst e;simp[a,h.pl i a]
   .have:p i≠p j:=λ v=>e (by rw[<- h.qp i a,v,h.qp j m]);simp[e,this]
  .rw[if_neg r,if_neg r];exact⟨t,u⟩
def Bk.Turn.ord{p q:Nat->Nat}(r:b.Ok)(h:b.Turn o p q){l:List Nat}(g:o.Ord l):b.Ord (l.map p):=by
 have a:∀i∈l,i<b.cs.length:=λ i f=>h.n▸g.low i f;refine⟨by rw[length_map,g.len,h.n],λ i f=>?_,?_,λ X j Y e k t=>?_⟩
 .obtain⟨j,hj,rfl⟩:=mem_map.1 f;exact h.pl j (a j hj)
 .refine pairwise_map.2 (g.nod.imp_of_mem λ{x y}v w m e=>m ?_);rw[<- h.qp x (a x v),e,h.qp y (a y w)]
 .obtain⟨X',l',rfl,rfl,e2⟩:=map_eq_append_iff.1 e;obtain⟨i,u,rfl,rfl,rfl⟩:=map_eq_cons_iff.1 e2;have f:=a i S1
  have d:k<b.cs.length:=by
   have:=r.low (p i) (by rw[b.A_n];exact h.pl i f) k t
   rwa [b.A_n]at this
  refine mem_map.2 ⟨q k,g.aft X' i u rfl (q k) ?_,h.pq k d⟩;rw[h.af i f (q k) (h.ql k d),h.pq k d];exact t
def Qjj{nameB:ByteArray->Bool}{nr nc:Int}:∀{l:List Cs}{seen:List ByteArray},WC nameB nr nc seen l=0 ↔
  (∀c∈l,nameB c.nm=true/\btw c.ag 0 (nr-1)=true/\ZX nr c.gs=0/\J1 nc none c.af=0/\c.nm∉seen)/\(l.map (·.nm)).Nodup
 |[],seen=>by simp[WC]
 |c::l,seen=>by
  have t:=Qjj (nameB:=nameB) (nr:=nr) (nc:=nc) (l:=l) (seen:=seen++[c.nm]);simp only[WC,mem_cons,map_cons,nodup_cons,forall_eq_or_imp];by_cases g:nameB c.nm=true
  .by_cases h2:QR seen c.nm=true
   .rw[if_pos g,if_pos h2];have:=xL.1 h2;simp[this]
   .have h2':c.nm∉seen:=λ h=>h2 (xL.2 h);rw[if_pos g,if_neg h2];by_cases b:btw c.ag 0 (nr-1)=true
    .by_cases h4:ZX nr c.gs=0
     .by_cases h5:J1 nc none c.af=0
      .rw[if_pos b,if_pos h4,if_pos h5,t];simp only[g,h2',b,h4,h5,true_and,not_false_iff];constructor
       .rintro⟨a1,a2⟩;refine⟨λ d f=>?_,λ r=>?_,a2⟩
        .obtain⟨j,m,n,o,q⟩:=a1 d f;exact⟨j,m,n,o,λ a=>q (by simp[a])⟩
        .obtain⟨d,f,e⟩:=mem_map.1 r;exact(a1 d f).2.2.2.2 (by simp[e])
       .rintro⟨a1,a2,a3⟩;refine⟨λ d f=>?_,a3⟩;obtain⟨j,m,n,o,q⟩:=a1 d f;refine⟨j,m,n,o,λ a=>?_⟩;rcases mem_append.1 a with a|a
        .exact q a
        .simp at a;exact a2 (mem_map.2 ⟨d,f,a⟩)
      .rw[if_pos b,if_pos h4,if_neg h5];simp[h5]
     .rw[if_pos b,if_neg h4];simp[h4]
    .rw[if_neg b];simp[b]
  .rw[if_neg g];simp[g]
def Bk.cas_ex{c:Cs}(h:c∈b.cs):∃i,i<b.cs.length/\b.cas i=c:=by
 obtain⟨i,a,e⟩:=mem_iff_getElem.1 h;exact⟨i,a,by simp[Bk.cas,getD_eq_getElem?_getD,a,e]⟩
def Bk.mem_cas{i:Nat}(a:i<b.cs.length):b.cas i∈b.cs:=by
 unfold Bk.cas;rw[getD_eq_getElem?_getD,getElem?_eq_getElem a];exact getElem_mem a
def Bk.Turn.flaw{nameB:ByteArray->Bool}{p q:Nat->Nat}(l:b.flaw nameB=0)(h:b.Turn o p q)(r:∀i,i<b.cs.length->J1 b.nc none (o.cas i).af=0):o.flaw nameB=0:=by
 have B:=Bk.ok_of l
 have f:∀i,i<o.A.length->∀k∈Je o.A i,k<o.A.length:=λ i a k d=>by
  rw[o.A_n]at a ⊢;have e:Je o.A i=(o.cas i).af.map Int.toNat:=by simp[Je,Bk.A,Bk.cas,getD_eq_getElem?_getD,a]
  rw[e]at d;obtain⟨n,K,rfl⟩:=mem_map.1 d;have:=Yk (r i (h.n▸a)) n K;rw[h.n];unfold Bk.nc at this;omega
 have H:Wq o.A=false:=by
  obtain⟨ρ,L⟩:=wS B.lo;refine qq f (λ i=>ρ (p i)) λ i a k d=>?_;have m:=f i a k d;rw[o.A_n,h.n]at a m;exact L (p i) (by rw[b.A_n];exact h.pl i a) (p k) ((h.af i a k m).1 d)
 unfold Bk.flaw at l ⊢;have C:o.rsF nameB=b.rsF nameB:=by unfold Bk.rsF;rw[h.rs]
 rw[C];split at l
 .rename_i h1;rw[if_pos h1];split at l
  .rename_i h2
   have u:o.csF nameB=0:=by
    unfold Bk.csF at h2 ⊢;rw[h.n];split at h2
    .cases h2
    .rename_i h5;rw[if_neg h5,Qjj];obtain⟨D,t⟩:=Qjj.1 h2;have z:o.nr=b.nr:=by unfold Bk.nr;rw[h.rs]
     have w:o.nc=b.nc:=by unfold Bk.nc;rw[h.n]
     rw[z,w];refine⟨λ c I=>?_,?_⟩
     .obtain⟨i,a,rfl⟩:=Bk.cas_ex I;rw[h.n]at a;obtain⟨M,N,O,-,-⟩:=D _ (Bk.mem_cas (h.pl i a));rw[h.nm i a,h.ag i a,h.gs i a];exact⟨M,N,O,r i a,S1⟩
     .rw[nodup_iff_pairwise_ne,pairwise_iff_getElem]at t ⊢;simp only[length_map,getElem_map]at t ⊢;intro i j a g J e;have F:(o.cas i).nm=(o.cs[i]).nm:=by simp[Bk.cas,getD_eq_getElem?_getD,a]
      have G:(o.cas j).nm=(o.cs[j]).nm:=by simp[Bk.cas,getD_eq_getElem?_getD,g]
      rw[<- F,<- G]at e;rw[h.n]at a g;rw[h.nm i a,h.nm j g]at e
      have y:p i≠p j:=λ E=>by
       have:=h.qp i a;rw[E,h.qp j g]at this;omega
      have ci:∀k(d:k<b.cs.length),b.cas k=b.cs[k]:=λ k d=>by simp[Bk.cas,getD_eq_getElem?_getD,d]
      rw[ci _ (h.pl i a),ci _ (h.pl j g)]at e;rcases Nat.lt_or_gt_of_ne y with v|v
      .exact t (p i) (p j) (h.pl i a) (h.pl j g) v e
      .exact t (p j) (p i) (h.pl j g) (h.pl i a) v e.symm
   rw[if_pos u,if_neg (by simp[H])]
  .rename_i h2;exact absurd l h2
 .rename_i h1;exact absurd l h1
end Go.TM

