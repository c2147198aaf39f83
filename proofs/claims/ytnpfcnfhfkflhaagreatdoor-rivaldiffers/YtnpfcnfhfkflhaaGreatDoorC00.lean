/- Lemmas. No conditions. -/
import Derived.Test.YtnpfcnfhfkflhaaGreatDoorB09
import Derived.Test.YtnpfcnfhfkflhaaGreatDoorB42
import Derived.Test.YtnpfcnfhfkflhaaGreatDoorB44
set_option linter.all false
open List
open Go.Proofs.Tryz (prog)
set_option maxRecDepth 100000
namespace Go.Proofs
open Go.TM
def Qzk:C:=(.seq (.reg [.xb 4 false])
 (.seq (.seq (.reg [.xv 5 0])
 (.block 0 (.loop (.seq (.seq (.reg [.m 6 5,.m 7 0,.xn 8 7,.xc 9 .lss 6 8])
 (.ite (.t 9) .skip (.exit 0)))
 (.seq (.block 1 (.seq (.reg [.m 12 0,.m 13 5,.xi 14 1 12 13,.xl 15 14,.m 16 1,.xc 17 .eql 15 16])
 (.ite (.t 17) (.seq (.reg [.xb 4 true])
 .ret) .skip)))
 (.reg [.m 10 5,.xa 11 10,.m 5 11]))))))
 (.seq (.reg [.xb 4 false])
 .ret)))
def Qdh:Zf prog 38 18 Qzk [.t 4]:=.o [] [] Tryz.func38 K1
def Qvy:C:=(.seq (.reg [.d 2 (.box 25 (.t 0)),.xs 4])
 (.seq (.reg [.xs 5])
 (.seq (.block 0 (.loop (.seq (.seq (.reg [.m 10 5,.xn 11 10,.xo 12 1 2,.xl 13 12,.xn 14 13,.xc 15 .lss 11 14])
 (.ite (.t 15) .skip (.exit 0)))
 (.block 1 (.seq (.reg [.xs 6])
 (.seq (.seq (.reg [.xv 7 0])
 (.block 2 (.loop (.seq (.seq (.reg [.m 16 7,.xo 17 1 2,.xl 18 17,.xn 19 18,.xc 20 .lss 16 19])
 (.ite (.t 20) .skip (.exit 2)))
 (.seq (.block 3 (.seq (.reg [.m 23 5,.m 24 7,.d 25 (.call (.func 38) #[(.t 23),(.t 24)]),.xt 26 25,.m 8 26])
 (.seq (.seq (.reg [.xv 9 0])
 (.block 4 (.loop (.seq (.seq (.reg [.m 27 9,.xo 28 1 2,.xl 29 28,.m 30 7,.xi 31 4 29 30,.xo 32 3 31,.xl 33 32,.xn 34 33,.xc 35 .lss 27 34])
 (.ite (.t 35) .skip (.exit 4)))
 (.seq (.block 5 (.reg [.m 38 8,.m 39 38,.ym 40 39 true 5,.yo 41 39 true 1 2,.yl 42 39 true 41,.ym 43 39 true 7,.yi 44 39 true 4 42 43,.yo 45 39 true 3 44,.yl 46 39 true 45,.ym 47 39 true 9,.yi 48 39 true 1 46 47,.yl 49 39 true 48,.u 50 39 true (.call (.func 38) #[(.t 40),(.t 49)]),.xp 51 39 50,.m 8 51]))
 (.reg [.m 36 9,.xa 37 36,.m 9 37]))))))
 (.seq (.reg [.m 52 8])
 (.ite (.t 52) (.reg [.m 53 6,.m 54 7,.d 55 (.bsl 3 1 #[(.int .i64 0)] [(0,1,(.t 54))]),.xz 56 53 55 26,.m 6 56]) .skip)))))
 (.reg [.m 21 7,.xa 22 21,.m 7 22]))))))
 (.reg [.m 57 5,.m 58 6,.m 59 1,.m 60 5,.xn 61 60,.d 62 (.call (.func 83) #[(.t 59),(.t 61)]),.m 63 6,.xn 64 63,.d 65 (.ar .rem (.t 62) (.t 64)),.xi 66 1 58 65,.xl 67 66,.d 68 (.bsl 3 1 #[(.int .i64 0)] [(0,1,(.t 67))]),.xz 69 57 68 26,.m 5 69])))))))
 (.seq (.reg [.m 70 5,.m 4 70])
 .ret))))
def Qpj:Zf prog 33 71 Qvy [.t 4]:=.o [] [] Tryz.func33 K1
def Qvz:C:=(.seq (.reg [.xb 4 false])
 (.seq (.seq (.reg [.xv 5 0])
 (.block 0 (.loop (.seq (.seq (.reg [.m 6 5,.m 7 0,.xn 8 7,.xc 9 .lss 6 8,.m 10 9,.ym 11 10 true 5,.ym 12 10 true 1,.yn 13 10 true 12,.u 14 10 true (.cmp .lss (.t 11) (.t 13)),.xp 15 10 14])
 (.ite (.t 15) .skip (.exit 0)))
 (.seq (.block 1 (.seq (.drw [(0,.m 18 0),(0,.m 19 5),(0,.xi 20 1 18 19),(0,.xl 21 20),(0,.m 22 1),(0,.m 23 5),(0,.xi 24 1 22 23),(0,.xl 25 24)] [.xc 26 .neq 21 25])
 (.ite (.t 26) (.seq (.drw [(0,.m 27 0),(0,.m 28 5),(0,.xi 29 1 27 28),(0,.xl 30 29),(0,.m 31 1),(0,.m 32 5),(0,.xi 33 1 31 32),(0,.xl 34 33)] [.xc 35 .lss 30 34,.m 4 35])
 .ret) .skip)))
 (.reg [.m 16 5,.xa 17 16,.m 5 17]))))))
 (.seq (.reg [.m 36 0,.xn 37 36,.m 38 1,.xn 39 38,.xc 40 .lss 37 39,.m 4 40])
 .ret)))
def Qdg:Zf prog 36 41 Qvz [.t 4]:=.o [] [] Tryz.func36 K1
def Q0h:C:=(.seq (.reg [.xv 4 0])
 (.seq (.seq (.reg [.m 5 1,.m 6 0,.xn 7 6,.xc 8 .lss 5 7])
 (.ite (.t 8) (.seq (.reg [.m 9 0,.m 10 1,.xi 11 1 9 10,.xl 12 11,.d 13 (.conv .i64 (.t 12)),.m 4 13])
 .ret) .skip))
 (.seq (.reg [.xv 4 0])
 .ret)))
def Qp3:Zf prog 83 14 Q0h [.t 4]:=.o [] [] Tryz.func83 K1
end Go.Proofs
namespace Go.Proofs
open Go.TM
variable{T:Type}{S:TM.Sys prog T}{U:Qa T}
attribute [local irreducible] Qb Zl Wt
def Qaq(a:Option Addr)(len cap:Nat)(l:List Int)(e:Z5 U a len l)(g:len<2^60)(n:Int) :
  Qb S 38 #[.slice a len cap,.int .i64 n] (λ v U'=>v=.bool (l.contains n)/\U'=U) U:=by
 refine Qb.of (args:=[_,_]) Qdh Qf S1 ?_
 repeat refine⟨rfl,?_⟩
 refine⟨Nat,λ i=>[(0,.slice a len cap),(1,.int .i64 n),(5,.int .i64 i)],λ i U'=>U'=U/\i<=len/\n∉l.take i,λ i=>len-i,0,T1,⟨rfl,O1,S1⟩,?_⟩;rintro i f _⟨rfl,q,b⟩
 repeat refine⟨rfl,?_⟩
 conv=>whnf
 apply Qe<;>intro d
 .have hlt:i<len:=by simpa using d
  obtain⟨j,x,h,rfl,o,m⟩:=e.at hlt;refine⟨j,i,⟨rfl,rfl,hlt⟩,_,m,?_⟩
  repeat refine⟨rfl,?_⟩
  conv=>whnf
  apply Qe<;>intro d
  .repeat refine⟨rfl,?_⟩
   conv=>whnf
   have c:x=n:=by simpa using d
   refine⟨?_,rfl⟩;have:n∈l:=c▸mem_of_getElem? h;simp[this]
  .have c:x≠n:=by simpa using d
   refine⟨I1,?_⟩;refine⟨rfl,i+1,T1,⟨rfl,O1,?_⟩,L1⟩;rw[Ji h];simp[b,Ne.symm c]
 .have hge:len<=i:=by simpa using d
  repeat refine⟨rfl,?_⟩
  refine⟨?_,rfl⟩;have:l.take i=l:=take_of_length_le (by rw[e.1];exact hge);rw[this]at b;simp[b]
end Go.Proofs
namespace Go.Proofs
open Go.TM Go.ChangeShapes Go.WideShapes Go.RowKit
section
variable{H:Type}{enc:TypeId×Value->H}{W:World}{fuel:Nat}{x:DataW H×List MemPlace}{v:Value}{cs:List Value}
def Q0j:prog.underlying 44=some (.slice 186):=K1
def Qvv:prog.underlying 186=some (.int .u16):=K1
def Qlg:prog.cellsOf 186=1:=K1
def Qjj:0<prog.bytesOf 186:=of_decide_eq_true K1
def Q4u{k:IntKind}{t:TypeId}{m:Nat}(e:prog.underlying t=some (.int k))(b:k.min=0)(d:k.max=(m:Int))(h:JZ enc prog W fuel t cs=some x):∃u:Nat,cs=[.int k u]/\u<=m:=by
 obtain⟨n,c,-,a⟩:=DataW.trod_int e h;simp only[Lit.wf,Bool.and_eq_true,decide_eq_true_eq]at a;rw[b,d]at a;obtain⟨u,rfl⟩:=Int.eq_ofNat_of_zero_le a.1;exact⟨u,c,O1⟩
def Q41(h:JZ enc prog W fuel 5 [v]=some x):∃u:Nat,v=.int .u8 u/\u<256:=by
 obtain⟨u,a,b⟩:=Q4u (m:=255) Zpm D1 D1 h;exact⟨u,by simpa using a,O1⟩
def Q4z{T:Type}(U:Qa T)(a:Option Addr)(len:Nat)(l:List Nat):Prop:=Q5 U a len 1 l λ n vs=>vs=[.int .u16 (n:Int)]/\n<65536
def Q4x(h:JZ enc prog W fuel 44 [v]=some x)(f:Sz prog 44 x.1):∃a len cap l,v=.slice a len cap/\Q4z (Qa.all W) a len l/\len<2^60:=by
 obtain⟨a,len,cap,l,b,c,d⟩:=Yd (R:=λ(n:Nat)vs=>vs=[.int .u16 (n:Int)]/\n<65536) Q0j Qlg D1 Qjj h f λ m r y e _=>by
  obtain⟨u,b,c⟩:=Q4u (m:=65535) Qvv D1 D1 e;exact⟨u,b,O1⟩
 exact⟨a,len,cap,l,b,c,d⟩
end
end Go.Proofs

namespace Go.Proofs
open Go.TM
def Q4v:C:=(.seq (.reg [.d 3 (.box 25 (.t 0)),.xb 6 false])
 (.seq (.seq (.reg [.xd 22 2 3,.d 23 (.call (.func 32) #[(.t 22)]),.xt 24 23,.m 25 24,.yo 26 25 false 0 3,.yl 27 25 false 26,.yn 28 25 false 27,.yk 29 25 false .eql 28 0,.xq 30 25 29])
 (.ite (.t 30) (.seq (.reg [.d 31 (.call (.func 20) #[]),.m 6 31])
 .ret) .skip))
 (.seq (.reg [.m 32 1,.d 33 (.conv .i64 (.t 32)),.xo 34 0 3,.xl 35 34,.xn 36 35,.d 37 (.ar .rem (.t 33) (.t 36)),.m 7 37])
 (.seq (.reg [.xd 39 2 3,.m 40 7,.d 41 (.call (.func 29) #[(.t 39),(.t 40)]),.m 38 41,.xe 42 38 0,.xe 43 38 1,.xe 44 38 2,.m 8 42,.m 9 43,.m 10 44])
 (.seq (.reg [.xd 46 2 3,.d 47 (.call (.func 26) #[(.t 46)]),.m 45 47,.xe 48 45 0,.xe 49 45 1,.xe 50 45 2,.m 11 48,.m 12 49,.m 13 50])
 (.seq (.seq (.reg [.m 51 10,.xk 52 .neq 51 0,.m 53 52,.ym 54 53 false 13,.yk 55 53 false .neq 54 0,.xq 56 53 55,.m 57 56,.ym 58 57 false 11,.yn 59 57 false 58,.yo 60 57 false 0 3,.yl 61 57 false 60,.yn 62 57 false 61,.u 63 57 false (.cmp .neq (.t 59) (.t 62)),.xq 64 57 63])
 (.ite (.t 64) (.seq (.reg [.xb 6 false])
 .ret) .skip))
 (.seq (.seq (.reg [.xo 65 1 3,.xl 66 65,.xn 67 66,.xk 68 .eql 67 0])
 (.ite (.t 68) (.seq (.reg [.m 69 8,.xn 70 69,.m 71 9,.xn 72 71,.d 73 (.add (.t 70) (.t 72)),.xk 74 .eql 73 0,.m 75 74,.ym 76 75 true 11,.ym 77 75 true 7,.yi 78 75 true 1 76 77,.yl 79 75 true 78,.yk 80 75 true .eql 79 1,.xp 81 75 80,.m 82 81,.u 83 82 true (.call (.func 20) #[]),.xp 84 82 83,.m 6 84])
 .ret) .skip))
 (.seq (.seq (.reg [.m 85 8,.xn 86 85,.xk 87 .gtr 86 0,.m 88 11,.m 89 7,.xi 90 1 88 89,.xl 91 90,.xk 92 .neq 91 2,.d 93 (.beq .neq (.t 87) (.t 92)),.m 94 93,.ym 95 94 false 9,.yn 96 94 false 95,.yk 97 94 false .gtr 96 0,.ym 98 94 false 11,.ym 99 94 false 7,.yi 100 94 false 1 98 99,.yl 101 94 false 100,.yk 102 94 false .neq 101 1,.u 103 94 false (.beq .neq (.t 97) (.t 102)),.xq 104 94 103])
 (.ite (.t 104) (.seq (.reg [.xb 6 false])
 .ret) .skip))
 (.seq (.seq (.reg [.xv 14 0])
 (.block 0 (.loop (.seq (.seq (.reg [.m 105 14,.xk 106 .lss 105 2])
 (.ite (.t 106) .skip (.exit 0)))
 (.seq (.block 1 (.seq (.reg [.m 109 8,.m 110 9,.d 111 (.bsl 26 2 #[(.slice none 0 0),(.slice none 0 0)] [(0,1,(.t 109)),(1,1,(.t 110))]),.m 112 14,.xi 113 1 111 112,.xl 114 113,.m 15 114])
 (.seq (.seq (.reg [.m 115 15,.xn 116 115,.xk 117 .eql 116 0])
 (.ite (.t 117) (.exit 1) .skip))
 (.seq (.reg [.xd 119 2 3,.m 120 15,.d 121 (.call (.func 21) #[(.t 119),(.t 120)]),.m 118 121,.xe 122 118 0,.xe 123 118 1,.xe 124 118 2,.m 16 122,.m 17 123,.m 18 124])
 (.seq (.reg [.m 125 18,.xk 126 .neq 125 0,.m 127 126,.ym 128 127 false 16,.yn 129 127 false 128,.yo 130 127 false 0 3,.yl 131 127 false 130,.yn 132 127 false 131,.u 133 127 false (.cmp .neq (.t 129) (.t 132)),.xq 134 127 133,.m 135 134,.ym 136 135 false 16,.ym 137 135 false 7,.yi 138 135 false 1 136 137,.yl 139 135 false 138,.ym 140 135 false 14,.yk 141 135 false .eql 140 0,.u 142 135 false (.beq .neq (.t 139) (.t 141)),.xq 143 135 142])
 (.ite (.t 143) (.seq (.reg [.xb 6 false])
 .ret) .skip))))))
 (.reg [.m 107 14,.xa 108 107,.m 14 108]))))))
 (.seq (.reg [.xd 144 2 3,.m 145 2,.d 146 (.call (.func 33) #[(.t 144),(.t 145)]),.m 19 146])
 (.seq (.reg [.xd 148 2 3,.m 149 19,.d 150 (.call (.func 21) #[(.t 148),(.t 149)]),.m 147 150,.xe 151 147 0,.xe 152 147 1,.xe 153 147 2,.m 20 151,.m 21 152,.m 10 153])
 (.seq (.seq (.reg [.m 154 10,.xk 155 .neq 154 0,.m 156 155,.ym 157 156 false 20,.yn 158 156 false 157,.yo 159 156 false 0 3,.yl 160 156 false 159,.yn 161 156 false 160,.u 162 156 false (.cmp .neq (.t 158) (.t 161)),.xq 163 156 162])
 (.ite (.t 163) (.seq (.reg [.xb 6 false])
 .ret) .skip))
 (.seq (.seq (.reg [.m 164 20,.m 165 7,.xi 166 1 164 165,.xl 167 166])
 (.ite (.t 167) (.seq (.reg [.m 168 19,.m 169 8,.d 170 (.call (.func 36) #[(.t 168),(.t 169)]),.xt 171 170,.m 172 171,.u 173 172 true (.call (.func 20) #[]),.xp 174 172 173,.m 6 174])
 .ret) .skip))
 (.seq (.reg [.m 175 19,.m 176 9,.d 177 (.call (.func 36) #[(.t 175),(.t 176)]),.xt 178 177,.m 179 178,.u 180 179 true (.call (.func 20) #[]),.xp 181 179 180,.m 6 181])
 .ret))))))))))))))
def Q4w:Zf Tryz.prog 6 182 Q4v [.t 6]:=.o [] [] Tryz.func6 K1
end Go.Proofs

namespace Go.TM
variable{b:Bk}
def Bk.okTo(b:Bk):List Nat->List Nat->Bool
 |_,[]=>true
 |p,i::q=>decide (i<b.cs.length)&&b.can p i&&b.okTo (p++[i]) q
def Bk.mem_ords:∀(k:Nat)(p o:List Nat),o∈b.ords k p↔∃q,o=p++q/\q.length=k/\b.okTo p q=true
 |0,p,o=>by
  simp only[Bk.ords,mem_singleton];constructor
  .rintro rfl;exact⟨[],S1,rfl,rfl⟩
  .rintro⟨q,rfl,a,-⟩;rw[length_eq_zero_iff]at a;simp[a]
 |k+1,p,o=>by
  simp only[Bk.ords,mem_flatMap,mem_range];constructor
  .rintro⟨i,hi,ho⟩;split at ho
   .rename_i hc;obtain⟨q,rfl,a,c⟩:=(Bk.mem_ords k (p++[i]) o).1 ho;exact⟨i::q,S1,by simp[a],by simp[Bk.okTo,hi,hc,c]⟩
   .cases ho
  .rintro⟨q,rfl,a,c⟩;cases q with
   |nil=>cases a
   |cons i q=>
    simp only[Bk.okTo,Bool.and_eq_true,decide_eq_true_eq]at c;refine⟨i,c.1.1,?_⟩;rw[if_pos c.1.2];exact(Bk.mem_ords k (p++[i]) _).2 ⟨q,S1,by simpa using a,c.2⟩
def Bk.mem_all{o:List Nat}:o∈b.all↔o.length=b.cs.length/\b.okTo [] o=true:=by
 unfold Bk.all;rw[Bk.mem_ords];constructor
 .rintro⟨q,rfl,hq,hk⟩;exact⟨hq,hk⟩
 .rintro⟨h1,h2⟩;exact⟨o,rfl,h1,h2⟩
def Bk.okTo_iff:∀(q p:List Nat),b.okTo p q=true↔∀X i Y,q=X++i::Y->i<b.cs.length/\b.can (p++X) i=true
 |[],p=>by simp[Bk.okTo]
 |i::q,p=>by
  simp only[Bk.okTo,Bool.and_eq_true,decide_eq_true_eq];rw[Bk.okTo_iff q (p++[i])];constructor
  .rintro⟨⟨h1,h2⟩,h3⟩ X j Y e;cases X with
   |nil=>
    simp only[nil_append,List.cons.injEq]at e;obtain⟨rfl,rfl⟩:=e;simpa using⟨h1,h2⟩
   |cons x X=>
    simp only[cons_append,List.cons.injEq]at e;obtain⟨rfl,rfl⟩:=e;have:=h3 X j Y rfl;simpa using this
  .intro h;refine⟨by simpa using h [] i q rfl,λ X j Y e=>?_⟩;have:=h (i::X) j Y (by simp[e]);simpa using this
def Bk.can_iff{o:List Nat}{i:Nat}:b.can o i=true↔i∉o/\∀k∈Je b.A i,k∈o:=by
 simp[Bk.can]
structure Bk.Ord(b:Bk)(o:List Nat):Prop where
 len:o.length=b.cs.length
 low:∀i∈o,i<b.cs.length
 nod:o.Nodup
 aft:∀X i Y,o=X++i::Y->∀k∈Je b.A i,k∈X
def Qqa:∀{o:List Nat},(∀X i Y,o=X++i::Y->i∉X)->o.Nodup:=by
 intro o h;rw[nodup_iff_pairwise_ne,pairwise_iff_getElem];intro i j b c a e;refine h (o.take j) o[j] (o.drop (j+1)) (by rw[getElem_cons_drop,take_append_drop]) ?_;rw[<- e,mem_take_iff_getElem];exact⟨i,O1,rfl⟩
def Bk.mem_all_iff{o:List Nat}:o∈b.all↔b.Ord o:=by
 rw[Bk.mem_all,Bk.okTo_iff];simp only[nil_append];constructor
 .rintro⟨h1,h2⟩;refine⟨h1,λ i c=>?_,Qqa λ X i Y e=>(Bk.can_iff.1 (h2 X i Y e).2).1,λ X i Y e=>(Bk.can_iff.1 (h2 X i Y e).2).2⟩;obtain⟨X,Y,e⟩:=append_of_mem c;exact(h2 X i Y e).1
 .intro h;refine⟨h.len,λ X i Y e=>⟨h.low i (by rw[e];simp),Bk.can_iff.2 ⟨λ d=>?_,h.aft X i Y e⟩⟩⟩;have a:=h.nod;rw[e]at a;exact(nodup_append.1 a).2.2 i d i (mem_cons_self ..) rfl
def Q0k{n:Nat}{l:List Nat}(h:∀i,i<n->i∈l):n<=l.length:=by
 have a:∀(n:Nat)(l:List Nat),(∀i,i<n->i∈l)->n<=l.length:=by
  intro n
  induction n with
  |zero=>intro l _;exact Nat.zero_le _
  |succ n b=>
   intro l h;obtain⟨X,Y,e⟩:=append_of_mem (h n O1)
   have:=b (X++Y) λ i c=>by
    have:=h i O1;rw[e]at this;simp only[mem_append,mem_cons]at this ⊢;rcases this with h|h|h
    .exact .inl h
    .omega
    .exact .inr h
   rw[e];simp at this ⊢;omega
 exact a n l h
def Bk.A_n(b:Bk):b.A.length=b.cs.length:=by simp[Bk.A]
def Bk.Ok.ord{b:Bk}(h:b.Ok):∃o,b.Ord o:=by
 obtain⟨L,c,a⟩:=DM h.lo;rw[b.A_n]at a;refine⟨L.reverse,?_,λ i d=>by rw[<- b.A_n];exact c.low i (by simpa using d),(by unfold Nodup;rw[pairwise_reverse];exact c.nod.imp Ne.symm),λ X i Y e k f=>?_⟩
 .rw[length_reverse];have j:=H7 c.nod (n:=b.cs.length) λ x g=>by rw[<- b.A_n];exact c.low x g
  have l:=Q0k a;omega
 .have e':L=Y.reverse++i::X.reverse:=by
   rw[<- reverse_reverse L,e];simp
  have:=c.aft _ _ _ e' k f;simpa using this
def Bk.Ord.has{b:Bk}{o:List Nat}(h:b.Ord o){i:Nat}(d:i<b.cs.length):i∈o:=by
 apply Classical.byContradiction;intro e;have c:(i::o).Nodup:=nodup_cons.2 ⟨e,h.nod⟩
 have:=H7 c (n:=b.cs.length) λ x a=>by
  rcases mem_cons.1 a with rfl|a
  .exact d
  .exact h.low x a
 rw[length_cons,h.len]at this;omega
def Bk.Ok.all_pos{b:Bk}(h:b.Ok):0<b.all.length:=by
 obtain⟨o,a⟩:=h.ord;exact length_pos_of_mem (Bk.mem_all_iff.2 a)
def Bk.stp_len(b:Bk)(x:List Bool×List Bool)(i:Nat):(b.stp x i).1.length=x.1.length/\(b.stp x i).2.length=x.2.length:=by
 unfold Bk.stp;split <;> simp
def Bk.end_len(b:Bk)(o:List Nat):(b.ends o).1.length=b.rs.length/\(b.ends o).2.length=b.cs.length:=by
 have a:∀(o:List Nat)(x:List Bool×List Bool),(o.foldl b.stp x).1.length=x.1.length/\(o.foldl b.stp x).2.length=x.2.length:=by
  intro o
  induction o with
  |nil=>exact λ x=>⟨rfl,rfl⟩
  |cons i o e=>
   intro x;have c:=e (b.stp x i);have d:=b.stp_len x i;exact⟨c.1.trans d.1,c.2.trans d.2⟩
 have:=a o b.ini;simpa[Bk.ends,Bk.ini]using this
def Bk.Ord.split{b:Bk}{o:List Nat}(h:b.Ord o){i:Nat}(a:i<b.cs.length):∃X Y,o=X++i::Y:=append_of_mem (h.has a)
def Q0m{a all:Nat}:H9 a all=1↔a=all:=by
 unfold H9;split
 .rename_i h;simp[h]
 .rename_i h;split
  .simp[h]
  .simp[h]
def Q0o{a all:Nat}(b:0<all):H9 a all=2↔a=0:=by
 unfold H9;split
 .rename_i h;constructor
  .intro x;cases x
  .intro x;omega
 .split
  .rename_i h;simp[h]
  .rename_i h;simp[h]
def Bk.fatR_one(b:Bk){i:Nat}:b.fatR i=1↔∀o,b.Ord o->(b.ends o).1.getD i false=true:=by
 unfold Bk.fatR;rw[Q0m,countP_eq_length];exact⟨λ h o a=>h o (Bk.mem_all_iff.2 a),λ h o a=>h o (Bk.mem_all_iff.1 a)⟩
def Bk.fatR_two(b:Bk)(h:b.Ok){i:Nat}:b.fatR i=2↔∀o,b.Ord o->(b.ends o).1.getD i false=false:=by
 unfold Bk.fatR;rw[Q0o h.all_pos,countP_eq_zero];exact⟨λ h o a=>by simpa using h o (Bk.mem_all_iff.2 a),λ h o a=>by simpa using h o (Bk.mem_all_iff.1 a)⟩
def Bk.nexts(b:Bk)(o:List Nat):List Nat:=(range b.cs.length).filter λ i=>b.can o i
def Bk.pickO(b:Bk)(p:List Nat):Nat->List Nat->List Nat
 |0,o=>o
 |k+1,o=>b.pickO p k (o++[(b.nexts o).getD (p.getD o.length 0 % (b.nexts o).length) 0])
structure Bk.Beg(b:Bk)(o:List Nat):Prop where
 low:∀i∈o,i<b.cs.length
 nod:o.Nodup
 aft:∀X i Y,o=X++i::Y->∀k∈Je b.A i,k∈X
def Bk.Beg.nil:b.Beg []:=⟨S1,.nil,λ X i Y e=>by cases X <;> cases e⟩
def Bk.Beg.le{o:List Nat}(h:b.Beg o):o.length<=b.cs.length:=H7 h.nod h.low
def Bk.Beg.snoc{o:List Nat}{i:Nat}(h:b.Beg o)(q:i<b.cs.length)(n:b.can o i=true):b.Beg (o++[i]):=by
 obtain⟨l,m⟩:=Bk.can_iff.1 n;refine⟨λ j a=>?_,?_,λ X j Y e k d=>?_⟩
 .rcases mem_append.1 a with a|a
  .exact h.low j a
  .simp at a;subst a;exact q
 .rw[nodup_append];exact⟨h.nod,S1,λ x r y f e=>by simp at f;subst f;subst e;exact l r⟩
 .rcases eq_nil_or_concat Y with rfl|⟨c,y,rfl⟩
  .obtain⟨rfl,e2⟩:=append_inj' e S1;cases e2;exact m k d
  .have e':o++[i]=(X++j::c)++[y]:=by rw[e];simp
   obtain⟨g,-⟩:=append_inj' e' S1;exact h.aft X j c g k d
def Bk.Beg.next{o:List Nat}(r:b.Ok)(h:b.Beg o)(u:o.length<b.cs.length):0<(b.nexts o).length:=by
 obtain⟨f,q⟩:=r.ord
 have n:∃i∈f,i∉o:=by
  apply Classical.byContradiction;intro v
  have l:∀i,i<b.cs.length->i∈o:=λ i d=>by
   apply Classical.byContradiction;intro g;exact v ⟨i,q.has d,g⟩
  have:=Q0k l;omega
 have c:∃X i Y,f=X++i::Y/\i∉o/\∀k∈X,k∈o:=by
  have t:∀(Y X:List Nat),f=X++Y->(∀k∈X,k∈o)->(∃i∈Y,i∉o)->∃X i Y,f=X++i::Y/\i∉o/\∀k∈X,k∈o:=by
   intro Y
   induction Y with
   |nil=>rintro X _ _⟨i,d,-⟩;cases d
   |cons y Y w=>
    rintro X e m⟨i,d,g⟩;by_cases s:y∈o
    .refine w (X++[y]) (by rw[e];simp) (λ k j=>?_) ?_
     .rcases mem_append.1 j with j|j
      .exact m k j
      .simp at j;subst j;exact s
     .rcases mem_cons.1 d with rfl|d
      .exact absurd s g
      .exact⟨i,d,g⟩
    .exact⟨X,y,Y,e,s,m⟩
  exact t f [] S1 S1 n
 obtain⟨X,i,Y,e,d,m⟩:=c;refine length_pos_of_mem (a:=i) (mem_filter.2 ⟨mem_range.2 (q.low i (by rw[e];simp)),?_⟩);exact Bk.can_iff.2 ⟨d,λ k j=>m k (q.aft X i Y e k j)⟩
def Bk.nexts_at{o:List Nat}{q:Nat}(h:q<(b.nexts o).length):(b.nexts o).getD q 0<b.cs.length/\b.can o ((b.nexts o).getD q 0)=true:=by
 have d:(b.nexts o).getD q 0∈b.nexts o:=by
  rw[getD_eq_getElem?_getD,getElem?_eq_getElem h];exact getElem_mem h
 obtain⟨a,c⟩:=mem_filter.1 d;exact⟨mem_range.1 a,c⟩
def Bk.pick_beg(a:b.Ok)(p:List Nat):∀(k:Nat)(o:List Nat),b.Beg o->o.length+k<=b.cs.length->b.Beg (b.pickO p k o)/\(b.pickO p k o).length=o.length+k
 |0,o,h,_=>⟨h,rfl⟩
 |k+1,o,h,g=>by
  have f:=h.next a O1;obtain⟨c,d⟩:=Bk.nexts_at (Nat.mod_lt (p.getD o.length 0) f);have:=Bk.pick_beg a p k _ (h.snoc c d) S3;refine⟨this.1,?_⟩;have e:=this.2;simp only[length_append,length_singleton]at e;show(b.pickO p k _).length=_;omega
def Bk.pick_ord(c:b.Ok)(p:List Nat):b.Ord (b.pickO p b.cs.length []):=by
 obtain⟨a,d⟩:=Bk.pick_beg c p b.cs.length [] Bk.Beg.nil S1;exact⟨by simpa using d,a.low,a.nod,a.aft⟩
def Bk.Ord.flaw{o:List Nat}(h:b.Ord o):b.ordF (o.map λ(k:Nat)=>(k:Int))=0:=by
 have c:∀(q p:List Nat),o=p++q->b.ordL p (q.map λ(k:Nat)=>(k:Int))=0:=by
  intro q
  induction q with
  |nil=>intro p _;rfl
  |cons i q l=>
   intro p e;have m:i<b.cs.length:=h.low i (by rw[e];simp);have d:=h.nod;rw[e,nodup_append]at d;have a:i∉p:=λ j=>d.2.2 i j i (mem_cons_self ..) rfl;have f:=h.aft p i q e;show(if Go.TM.btw (i:Int) 0 (b.nc-1)then(if(i:Int).toNat∈p then 5 else if(Je b.A (i:Int).toNat).all (λ k=>p.contains k)then b.ordL (p++[(i:Int).toNat]) (q.map λ(k:Nat)=>(k:Int))else 7)else 6)=0;rw[if_pos (by unfold Bk.nc;simp[btw];omega),Int.toNat_natCast,if_neg a,if_pos (by rw[all_eq_true];intro k g;simpa using f k g)];exact l (p++[i]) (by rw[e];simp)
 unfold Bk.ordF;rw[if_neg (by rw[length_map,h.len];simp)];exact c o [] rfl
def Qae:List Int->List Int->Bool
 |[],l=>!l.isEmpty
 |_::_,[]=>false
 |x::l,y::r=>if x=y then Qae l r else decide (x<y)
def Qpf:∀l,Qae l l=false
 |[]=>rfl
 |x::l=>by simp[Qae,Qpf l]
def Qek:∀l r,Qae l r=true->Qae r l=false
 |[],[],h=>by simp[Qae]at h
 |[],_::_,_=>rfl
 |_::_,[],h=>by simp[Qae]at h
 |x::l,y::r,h=>by
  simp only[Qae]at h ⊢;by_cases e:x=y
  .rw[if_pos e]at h;rw[if_pos e.symm];exact Qek l r h
  .rw[if_neg e]at h;rw[if_neg (Ne.symm e)];simp at h ⊢;omega
def Qoa:∀p l r,Qae (p++l) (p++r)=Qae l r
 |[],_,_=>rfl
 |x::p,l,r=>by simp[Qae,Qoa p]
abbrev Qbj(o:List Nat):List Int:=o.map λ(k:Nat)=>(k:Int)
def Bk.ords_asc(b:Bk):∀(k:Nat)(p:List Nat),(b.ords k p).Pairwise λ o e=>Qae (Qbj o) (Qbj e)=true
 |0,p=>by simp[Bk.ords]
 |k+1,p=>by
  simp only[Bk.ords];rw[pairwise_flatMap];refine⟨λ i _=>?_,pairwise_lt_range.imp λ{i j}c o d e a=>?_⟩
  .split
   .exact Bk.ords_asc b k _
   .exact .nil
  .split at d
   .split at a
    .obtain⟨q,rfl,-,-⟩:=(Bk.mem_ords k _ o).1 d;obtain⟨f,rfl,-,-⟩:=(Bk.mem_ords k _ e).1 a;simp only[Qbj,map_append,append_assoc,Qoa,map_cons,map_nil,singleton_append,Qae];rw[if_neg O1];simpa using c
    .cases a
   .cases d
def Bk.dif_some{r:Nat}{w:Bool}{o:List Nat}(n:b.Ord o)(g:(b.ends o).1.getD r false=w) :
  b.Ord (b.difS r w)/\(b.ends (b.difS r w)).1.getD r false=w/\Qae (Qbj o) (Qbj (b.difS r w))=false:=by
 have c:=Bk.mem_all_iff.2 n;cases a:b.all.find? λ o=>(b.ends o).1.getD r false==w with
 |none=>
  have:=find?_eq_none.1 a o c;rw[g]at this;simp at this
 |some d=>
  have m:b.difS r w=d:=by unfold Bk.difS;rw[a];rfl
  obtain⟨q,X,Y,e,l⟩:=find?_eq_some_iff_append.1 a;rw[m];refine⟨Bk.mem_all_iff.1 (by rw[e];simp),by simpa using q,?_⟩;have f:=b.ords_asc b.cs.length [];have j:b.ords b.cs.length []=X++d::Y:=e;rw[j,pairwise_append]at f;rw[e]at c;rcases mem_append.1 c with h|h
  .have:=l o h;rw[g]at this;simp at this
  .rcases mem_cons.1 h with rfl|h
   .exact Qpf _
   .exact Qek _ _ ((pairwise_cons.1 f.2.1).1 o h)
def Bk.dif_none{r:Nat}{w:Bool}(h:∀o,b.Ord o->(b.ends o).1.getD r false≠w):b.difS r w=[]:=by
 unfold Bk.difS;rw[find?_eq_none.2 λ o a=>by simpa using h o (Bk.mem_all_iff.1 a)];rfl
def Bk.dif_true(c:b.Ok){r:Nat}(e:0<b.cs.length):(0<(b.difS r true).length↔b.fatR r≠2)/\(b.fatR r≠2->b.Ord (b.difS r true)/\(b.ends (b.difS r true)).1.getD r false=true):=by
 by_cases h:b.fatR r=2
 .have:=b.dif_none (r:=r) (w:=true) λ o a=>by rw[(b.fatR_two c).1 h o a];simp
  rw[this];simp[h]
 .have:∃o,b.Ord o/\(b.ends o).1.getD r false=true:=by
   apply Classical.byContradiction;intro j;exact h ((b.fatR_two c).2 λ o a=>by simpa using λ g=>j ⟨o,a,g⟩)
  obtain⟨o,a,l⟩:=this;obtain⟨d,f,-⟩:=Bk.dif_some a l;refine⟨⟨λ _=>h,λ _=>by rw[d.len];exact e⟩,λ _=>⟨d,f⟩⟩
def Bk.dif_false{r:Nat}(d:0<b.cs.length):(0<(b.difS r false).length↔b.fatR r≠1)/\(b.fatR r≠1->b.Ord (b.difS r false)/\(b.ends (b.difS r false)).1.getD r false=false):=by
 by_cases h:b.fatR r=1
 .have:=b.dif_none (r:=r) (w:=false) λ o a=>by rw[b.fatR_one.1 h o a];simp
  rw[this];simp[h]
 .have:∃o,b.Ord o/\(b.ends o).1.getD r false=false:=by
   apply Classical.byContradiction;intro g;exact h (b.fatR_one.2 λ o a=>by simpa using λ f=>g ⟨o,a,f⟩)
  obtain⟨o,a,j⟩:=this;obtain⟨c,e,-⟩:=Bk.dif_some a j;refine⟨⟨λ _=>h,λ _=>by rw[c.len];exact d⟩,λ _=>⟨c,e⟩⟩
def Bk.dif_zero{r:Nat}(f:r<b.rs.length)(d:b.cs.length=0):b.difS r true=[]/\b.difS r false=[]/\b.fatR r=1:=by
 have a:b.all=[[]]:=by unfold Bk.all;rw[d];rfl
 have c:(b.ends []).1.getD r false=true:=by simp[Bk.ends,Bk.ini,getD_eq_getElem?_getD,getElem?_replicate,f]
 refine⟨?_,?_,?_⟩
 .unfold Bk.difS;rw[a];simp only[find?_cons,c];rfl
 .unfold Bk.difS;rw[a];simp only[find?_cons,c];rfl
 .rw[Bk.fatR_one];intro o e;have:o=[]:=length_eq_zero_iff.1 (e.len.trans d);rw[this];exact c
end Go.TM

