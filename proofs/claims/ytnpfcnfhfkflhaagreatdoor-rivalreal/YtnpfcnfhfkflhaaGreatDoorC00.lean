/- Lemmas. No conditions. -/
import Derived.Test.YtnpfcnfhfkflhaaGreatDoorB09
import Derived.Test.YtnpfcnfhfkflhaaGreatDoorB42
import Derived.Test.YtnpfcnfhfkflhaaGreatDoorB44
set_option linter.all false
open List
open Go.Proofs.Tryz (prog)
set_option maxRecDepth 100000
namespace Go.Proofs
open Go.TM
def Q0k:C:=(.seq (.reg [.xb 4 false])
 (.seq (.seq (.reg [.xv 5 0])
 (.block 0 (.loop (.seq (.seq (.reg [.m 6 5,.m 7 0,.xn 8 7,.xc 9 .lss 6 8])
 (.ite (.t 9) .skip (.exit 0)))
 (.seq (.block 1 (.seq (.reg [.m 12 0,.m 13 5,.xi 14 1 12 13,.xl 15 14,.m 16 1,.xc 17 .eql 15 16])
 (.ite (.t 17) (.seq (.reg [.xb 4 true])
 .ret) .skip)))
 (.reg [.m 10 5,.xa 11 10,.m 5 11]))))))
 (.seq (.reg [.xb 4 false])
 .ret)))
def Qf7:Zf prog 38 18 Q0k [.t 4]:=.o [] [] Tryz.func38 K1
def Qzk:C:=(.seq (.reg [.d 2 (.box 25 (.t 0)),.xs 4])
 (.seq (.reg [.xs 5])
 (.seq (.block 0 (.loop (.seq (.seq (.reg [.m 10 5,.xn 11 10,.xo 12 1 2,.xl 13 12,.xn 14 13,.xc 15 .lss 11 14])
 (.ite (.t 15) .skip (.exit 0)))
 (.block 1 (.seq (.reg [.xs 6])
 (.seq (.seq (.reg [.xv 7 0])
 (.block 2 (.loop (.seq (.seq (.reg [.m 16 7,.xo 17 1 2,.xl 18 17,.xn 19 18,.xc 20 .lss 16 19])
 (.ite (.t 20) .skip (.exit 2)))
 (.seq (.block 3 (.seq (.reg [.m 23 5,.m 24 7,.d 25 (.call (.func 38) #[(.t 23),(.t 24)]),.xt 26 25,.m 8 26])
 (.seq (.seq (.reg [.xv 9 0])
 (.block 4 (.loop (.seq (.seq (.reg [.m 27 9,.xo 28 1 2,.xl 29 28,.m 30 7,.xi 31 4 29 30,.xo 32 3 31,.xl 33 32,.xn 34 33,.xc 35 .lss 27 34])
 (.ite (.t 35) .skip (.exit 4)))
 (.seq (.block 5 (.reg [.m 38 8,.m 39 38,.ym 40 39 true 5,.yo 41 39 true 1 2,.yl 42 39 true 41,.ym 43 39 true 7,.yi 44 39 true 4 42 43,.yo 45 39 true 3 44,.yl 46 39 true 45,.ym 47 39 true 9,.yi 48 39 true 1 46 47,.yl 49 39 true 48,.u 50 39 true (.call (.func 38) #[(.t 40),(.t 49)]),.xp 51 39 50,.m 8 51]))
 (.reg [.m 36 9,.xa 37 36,.m 9 37]))))))
 (.seq (.reg [.m 52 8])
 (.ite (.t 52) (.reg [.m 53 6,.m 54 7,.d 55 (.bsl 3 1 #[(.int .i64 0)] [(0,1,(.t 54))]),.xz 56 53 55 26,.m 6 56]) .skip)))))
 (.reg [.m 21 7,.xa 22 21,.m 7 22]))))))
 (.reg [.m 57 5,.m 58 6,.m 59 1,.m 60 5,.xn 61 60,.d 62 (.call (.func 83) #[(.t 59),(.t 61)]),.m 63 6,.xn 64 63,.d 65 (.ar .rem (.t 62) (.t 64)),.xi 66 1 58 65,.xl 67 66,.d 68 (.bsl 3 1 #[(.int .i64 0)] [(0,1,(.t 67))]),.xz 69 57 68 26,.m 5 69])))))))
 (.seq (.reg [.m 70 5,.m 4 70])
 .ret))))
def Qpf:Zf prog 33 71 Qzk [.t 4]:=.o [] [] Tryz.func33 K1
def Q0h:C:=(.seq (.reg [.xb 2 false])
 (.seq (.seq (.reg [.xv 3 0])
 (.block 0 (.loop (.seq (.seq (.reg [.m 4 3,.m 5 0,.xn 6 5,.xc 7 .lss 4 6])
 (.ite (.t 7) .skip (.exit 0)))
 (.seq (.block 1 (.seq (.reg [.m 10 0,.m 11 3,.xi 12 1 10 11,.xl 13 12,.xk 14 .neq 13 0,.m 15 14,.ym 16 15 true 0,.ym 17 15 true 3,.yi 18 15 true 1 16 17,.yl 19 15 true 18,.yk 20 15 true .neq 19 1,.xp 21 15 20,.m 22 21,.ym 23 22 true 0,.ym 24 22 true 3,.yi 25 22 true 1 23 24,.yl 26 22 true 25,.yk 27 22 true .neq 26 2,.xp 28 22 27])
 (.ite (.t 28) (.seq (.reg [.xb 2 false])
 .ret) .skip)))
 (.reg [.m 8 3,.xa 9 8,.m 3 9]))))))
 (.seq (.reg [.xb 2 true])
 .ret)))
def Qek:Zf prog 34 29 Q0h [.t 2]:=.o [] [] Tryz.func34 K1
def Q0j:C:=(.seq (.reg [.xb 4 false])
 (.seq (.reg [.m 5 0,.xk 6 .eql 5 0,.m 7 6,.ym 8 7 false 0,.yk 9 7 false .eql 8 1,.ym 10 7 false 1,.u 11 7 false (.beq .eql (.t 9) (.t 10)),.xq 12 7 11,.m 4 12])
 .ret))
def Qdg:Zf prog 35 13 Q0j [.t 4]:=.o [] [] Tryz.func35 K1
def Q0m:C:=(.seq (.reg [.xv 4 0])
 (.seq (.seq (.reg [.m 5 1,.m 6 0,.xn 7 6,.xc 8 .lss 5 7])
 (.ite (.t 8) (.seq (.reg [.m 9 0,.m 10 1,.xi 11 1 9 10,.xl 12 11,.d 13 (.conv .i64 (.t 12)),.m 4 13])
 .ret) .skip))
 (.seq (.reg [.xv 4 0])
 .ret)))
def Qpj:Zf prog 83 14 Q0m [.t 4]:=.o [] [] Tryz.func83 K1
end Go.Proofs
namespace Go.Proofs
open Go.TM
variable{T:Type}{S:TM.Sys prog T}{U:Qa T}
attribute [local irreducible] Qb Zl Wt
def Qcf(a:Option Addr)(len cap:Nat)(l:List Int)(e:Z5 U a len l)(g:len<2^60)(n:Int) :
  Qb S 38 #[.slice a len cap,.int .i64 n] (λ v U'=>v=.bool (l.contains n)/\U'=U) U:=by
 refine Qb.of (args:=[_,_]) Qf7 Qf S1 ?_
 repeat refine⟨rfl,?_⟩
 refine⟨Nat,λ i=>[(0,.slice a len cap),(1,.int .i64 n),(5,.int .i64 i)],λ i U'=>U'=U/\i<=len/\n∉l.take i,λ i=>len-i,0,T1,⟨rfl,O1,S1⟩,?_⟩;rintro i f _⟨rfl,q,b⟩
 repeat refine⟨rfl,?_⟩
 conv=>whnf
 apply Qe<;>intro d
 .have hlt:i<len:=by simpa using d
  obtain⟨j,x,h,rfl,o,m⟩:=e.at hlt;refine⟨j,i,⟨rfl,rfl,hlt⟩,_,m,?_⟩
  repeat refine⟨rfl,?_⟩
  conv=>whnf
  apply Qe<;>intro d
  .repeat refine⟨rfl,?_⟩
   conv=>whnf
   have c:x=n:=by simpa using d
   refine⟨?_,rfl⟩;have:n∈l:=c▸mem_of_getElem? h;simp[this]
  .have c:x≠n:=by simpa using d
   refine⟨I1,?_⟩;refine⟨rfl,i+1,T1,⟨rfl,O1,?_⟩,L1⟩;rw[Ji h];simp[b,Ne.symm c]
 .have hge:len<=i:=by simpa using d
  repeat refine⟨rfl,?_⟩
  refine⟨?_,rfl⟩;have:l.take i=l:=take_of_length_le (by rw[e.1];exact hge);rw[this]at b;simp[b]
end Go.Proofs
namespace Go.Proofs
open Go.TM Go.ChangeShapes Go.WideShapes Go.RowKit
section
variable{H:Type}{enc:TypeId×Value->H}{W:World}{fuel:Nat}{x:DataW H×List MemPlace}{v:Value}{cs:List Value}
def Q4u:prog.underlying 44=some (.slice 186):=K1
def Qvy:prog.underlying 186=some (.int .u16):=K1
def Qlg:prog.cellsOf 186=1:=K1
def Qjj:0<prog.bytesOf 186:=of_decide_eq_true K1
def Zc5{k:IntKind}{t:TypeId}{m:Nat}(e:prog.underlying t=some (.int k))(b:k.min=0)(d:k.max=(m:Int))(h:JZ enc prog W fuel t cs=some x):∃u:Nat,cs=[.int k u]/\u<=m:=by
 obtain⟨n,c,-,a⟩:=DataW.trod_int e h;simp only[Lit.wf,Bool.and_eq_true,decide_eq_true_eq]at a;rw[b,d]at a;obtain⟨u,rfl⟩:=Int.eq_ofNat_of_zero_le a.1;exact⟨u,c,O1⟩
def Zg4{T:Type}(U:Qa T)(a:Option Addr)(len:Nat)(l:List Nat):Prop:=Q5 U a len 1 l λ n vs=>vs=[.int .u16 (n:Int)]/\n<65536
def Zg3(h:JZ enc prog W fuel 44 [v]=some x)(f:Sz prog 44 x.1):∃a len cap l,v=.slice a len cap/\Zg4 (Qa.all W) a len l/\len<2^60:=by
 obtain⟨a,len,cap,l,b,c,d⟩:=Yd (R:=λ(n:Nat)vs=>vs=[.int .u16 (n:Int)]/\n<65536) Q4u Qlg D1 Qjj h f λ m r y e _=>by
  obtain⟨u,b,c⟩:=Zc5 (m:=65535) Qvy D1 D1 e;exact⟨u,b,O1⟩
 exact⟨a,len,cap,l,b,c,d⟩
end
end Go.Proofs

namespace Go.Proofs
open Go.TM
def Q41:C:=(.seq (.reg [.d 2 (.box 25 (.t 0)),.xb 4 false])
 (.seq (.seq (.reg [.xd 19 2 2,.d 20 (.call (.func 32) #[(.t 19)]),.xt 21 20])
 (.ite (.t 21) (.seq (.reg [.d 22 (.call (.func 20) #[]),.m 4 22])
 .ret) .skip))
 (.seq (.reg [.xd 23 2 2,.m 24 1,.d 25 (.call (.func 33) #[(.t 23),(.t 24)]),.m 5 25])
 (.seq (.reg [.xd 27 2 2,.m 28 5,.d 29 (.call (.func 21) #[(.t 27),(.t 28)]),.m 26 29,.xe 30 26 0,.xe 31 26 1,.xe 32 26 2,.m 6 30,.m 7 31,.m 8 32])
 (.seq (.reg [.xd 34 2 2,.d 35 (.call (.func 26) #[(.t 34)]),.m 33 35,.xe 36 33 0,.xe 37 33 1,.xe 38 33 2,.m 9 36,.m 10 37,.m 11 38])
 (.seq (.seq (.reg [.m 39 8,.xk 40 .neq 39 0,.m 41 40,.ym 42 41 false 11,.yk 43 41 false .neq 42 0,.xq 44 41 43,.m 45 44,.ym 46 45 false 6,.yn 47 45 false 46,.yo 48 45 false 0 2,.yl 49 45 false 48,.yn 50 45 false 49,.u 51 45 false (.cmp .neq (.t 47) (.t 50)),.xq 52 45 51,.m 53 52,.ym 54 53 false 7,.yn 55 53 false 54,.yo 56 53 false 1 2,.yl 57 53 false 56,.yn 58 53 false 57,.u 59 53 false (.cmp .neq (.t 55) (.t 58)),.xq 60 53 59,.m 61 60,.ym 62 61 false 9,.yn 63 61 false 62,.ym 64 61 false 6,.yn 65 61 false 64,.u 66 61 false (.cmp .neq (.t 63) (.t 65)),.xq 67 61 66,.m 68 67,.ym 69 68 false 10,.yn 70 68 false 69,.ym 71 68 false 7,.yn 72 68 false 71,.u 73 68 false (.cmp .neq (.t 70) (.t 72)),.xq 74 68 73,.m 75 74,.ym 76 75 false 9,.u 77 75 false (.call (.func 34) #[(.t 76)]),.u 78 75 false (.not (.t 77)),.xq 79 75 78,.m 80 79,.ym 81 80 false 10,.u 82 80 false (.call (.func 34) #[(.t 81)]),.u 83 80 false (.not (.t 82)),.xq 84 80 83])
 (.ite (.t 84) (.seq (.reg [.xb 4 false])
 .ret) .skip))
 (.seq (.reg [.m 85 6,.xn 86 85,.d 87 (.raw { dst:=none,op:=(.makeSlice 29 (.t 86) (.t 86)),type:=29,pos := "", after:=#[],guard:=none }),.m 12 87])
 (.seq (.seq (.reg [.xv 13 0])
 (.block 0 (.loop (.seq (.seq (.reg [.m 88 13,.m 89 5,.xn 90 89,.xc 91 .lss 88 90])
 (.ite (.t 91) .skip (.exit 0)))
 (.seq (.block 1 (.seq (.reg [.xb 14 false])
 (.seq (.seq (.reg [.xv 15 0])
 (.block 2 (.loop (.seq (.seq (.drw [(0,.m 94 15),(0,.xo 95 1 2),(0,.xl 96 95),(0,.m 97 5),(0,.m 98 13),(0,.xi 99 1 97 98),(0,.xl 100 99),(0,.xi 101 4 96 100),(0,.xo 102 2 101),(0,.xl 103 102),(0,.xn 104 103)] [.xc 105 .lss 94 104])
 (.ite (.t 105) .skip (.exit 2)))
 (.seq (.block 3 (.seq (.reg [.xb 16 true])
 (.seq (.seq (.reg [.xv 17 0])
 (.block 4 (.loop (.seq (.seq (.drw [(0,.m 108 17),(0,.xo 109 1 2),(0,.xl 110 109),(0,.m 111 5),(0,.m 112 13),(0,.xi 113 1 111 112),(0,.xl 114 113),(0,.xi 115 4 110 114),(0,.xo 116 2 115),(0,.xl 117 116),(0,.m 118 15),(0,.xi 119 1 117 118),(0,.xl 120 119),(0,.xn 121 120)] [.xc 122 .lss 108 121])
 (.ite (.t 122) .skip (.exit 4)))
 (.seq (.block 5 (.drw [(0,.m 125 16),(0,.m 126 125),(0,.ym 127 126 true 12),(0,.yo 128 126 true 1 2),(0,.yl 129 126 true 128),(0,.ym 130 126 true 5),(0,.ym 131 126 true 13),(0,.yi 132 126 true 1 130 131),(0,.yl 133 126 true 132),(0,.yi 134 126 true 4 129 133),(0,.yo 135 126 true 2 134),(0,.yl 136 126 true 135),(0,.ym 137 126 true 15),(0,.yi 138 126 true 1 136 137),(0,.yl 139 126 true 138),(0,.ym 140 126 true 17),(0,.yi 141 126 true 1 139 140),(0,.yl 142 126 true 141)] [.yi 143 126 true 1 127 142,.yl 144 126 true 143,.u 145 126 true (.not (.t 144)),.xp 146 126 145,.m 16 146]))
 (.reg [.m 123 17,.xa 124 123,.m 17 124]))))))
 (.reg [.m 147 14,.m 148 147,.ym 149 148 false 16,.xq 150 148 149,.m 14 150]))))
 (.reg [.m 106 15,.xa 107 106,.m 15 107]))))))
 (.seq (.seq (.reg [.m 151 14,.m 152 7,.m 153 5,.m 154 13,.xi 155 1 153 154,.xl 156 155,.xi 157 1 152 156,.xl 158 157,.d 159 (.beq .neq (.t 151) (.t 158)),.m 160 159,.ym 161 160 false 10,.ym 162 160 false 5,.ym 163 160 false 13,.yi 164 160 false 1 162 163,.yl 165 160 false 164,.yi 166 160 false 1 161 165,.yl 167 160 false 166,.ym 168 160 false 14,.u 169 160 false (.call (.func 35) #[(.t 167),(.t 168)]),.u 170 160 false (.not (.t 169)),.xq 171 160 170])
 (.ite (.t 171) (.seq (.reg [.xb 4 false])
 .ret) .skip))
 (.seq (.reg [.m 172 14])
 (.ite (.t 172) (.drw [(0,.m 173 12),(0,.xo 174 1 2),(0,.xl 175 174),(0,.m 176 5),(0,.m 177 13),(0,.xi 178 1 176 177),(0,.xl 179 178),(0,.xi 180 4 175 179),(0,.xo 181 1 180),(0,.xl 182 181)] [.xi 183 1 173 182,⟨.st 1 (.t 183) (.cb true),none,none,none⟩]) .skip))))))
 (.reg [.m 92 13,.xa 93 92,.m 13 93]))))))
 (.seq (.seq (.reg [.xv 18 0])
 (.block 6 (.loop (.seq (.seq (.reg [.m 184 18,.m 185 6,.xn 186 185,.xc 187 .lss 184 186])
 (.ite (.t 187) .skip (.exit 6)))
 (.seq (.block 7 (.seq (.drw [(0,.m 190 6),(0,.m 191 18),(0,.xi 192 1 190 191),(0,.xl 193 192),(0,.m 194 12),(0,.m 195 18),(0,.xi 196 1 194 195),(0,.xl 197 196),(0,.d 198 (.beq .eql (.t 193) (.t 197))),(0,.m 199 198),(0,.ym 200 199 false 9),(0,.ym 201 199 false 18),(0,.yi 202 199 false 1 200 201),(0,.yl 203 199 false 202),(0,.ym 204 199 false 6),(0,.ym 205 199 false 18),(0,.yi 206 199 false 1 204 205),(0,.yl 207 199 false 206)] [.u 208 199 false (.call (.func 35) #[(.t 203),(.t 207)]),.u 209 199 false (.not (.t 208)),.xq 210 199 209])
 (.ite (.t 210) (.seq (.reg [.xb 4 false])
 .ret) .skip)))
 (.reg [.m 188 18,.xa 189 188,.m 18 189]))))))
 (.seq (.reg [.d 211 (.call (.func 20) #[]),.m 4 211])
 .ret))))))))))
def Zcx:Zf Tryz.prog 5 212 Q41 [.t 4]:=.o [] [208] Tryz.func5 K1
end Go.Proofs


