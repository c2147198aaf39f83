/- Lemmas. No conditions. -/
import Derived.Test.YtnpfcnfhfkflhaaGreatDoorB09
import Derived.Test.YtnpfcnfhfkflhaaGreatDoorB42
import Derived.Test.YtnpfcnfhfkflhaaGreatDoorB44
set_option linter.all false
open Go.Proofs.Tryz (prog)
set_option maxRecDepth 100000
namespace Go.TM
variable{T:Type}{P:Program}{S:Sys P T}
def Qb.sep0{f:FuncId}{args:Array Value}{R:Value->Qa T->Prop}{U:Qa T}(h:WH U->Qb S f args R U):Qb S f args R U:=by
 intro b m c cs k;by_cases d:WH U
 .exact h d b m c cs k
 .exact .priv ⟨rfl,λ w e=>absurd e.sep d⟩
end Go.TM
namespace Go.Proofs
open Go.TM
def Zk5:C:=(.seq (.reg [.xb 4 false])
 (.seq (.seq (.reg [.m 6 0,.xn 7 6,.m 8 1,.xn 9 8,.xc 10 .neq 7 9])
 (.ite (.t 10) (.seq (.reg [.xb 4 false])
 .ret) .skip))
 (.seq (.seq (.reg [.xv 5 0])
 (.block 0 (.loop (.seq (.seq (.reg [.m 11 5,.m 12 0,.xn 13 12,.xc 14 .lss 11 13])
 (.ite (.t 14) .skip (.exit 0)))
 (.seq (.block 1 (.seq (.drw [(0,.m 17 0),(0,.m 18 5),(0,.xi 19 1 17 18),(0,.xl 20 19),(0,.m 21 1),(0,.m 22 5),(0,.xi 23 1 21 22),(0,.xl 24 23)] [.d 25 (.teq .neq (.t 20) (.t 24))])
 (.ite (.t 25) (.seq (.reg [.xb 4 false])
 .ret) .skip)))
 (.reg [.m 15 5,.xa 16 15,.m 5 16]))))))
 (.seq (.reg [.xb 4 true])
 .ret))))
def Q0m:Zf prog 59 26 Zk5 [.t 4]:=.o [] [] Tryz.func59 K1
def Zc5:C:=(.seq (.reg [.d 2 (.box 25 (.t 0)),.d 4 (.alloc 25 #[(.slice none 0 0),(.slice none 0 0)]),.xv 5 0])
 (.seq (.seq (.reg [.xd 8 2 2,.d 9 (.call (.func 23) #[(.t 8)]),.m 6 9])
 (.seq (.reg [.m 10 6,.xk 11 .neq 10 0])
 (.ite (.t 11) (.seq (.reg [.d 12 (.build #[(.slice none 0 0),(.slice none 0 0)] []),.m 13 6,⟨.st 2 (.t 4) (.t 12),none,none,none⟩,.m 5 13])
 .ret) .skip)))
 (.seq (.seq (.reg [.m 14 1,.xo 15 1 2,.xl 16 15,.xn 17 16,.d 18 (.call (.func 92) #[(.t 14),(.t 17)]),.m 7 18])
 (.seq (.reg [.m 19 7,.xk 20 .neq 19 0])
 (.ite (.t 20) (.seq (.reg [.d 21 (.build #[(.slice none 0 0),(.slice none 0 0)] []),.m 22 7,⟨.st 2 (.t 4) (.t 21),none,none,none⟩,.m 5 22])
 .ret) .skip)))
 (.seq (.drw [(0,.xd 23 2 2),(0,.d 24 (.build #[(.slice none 0 0),(.slice none 0 0)] [(0,2,(.t 23))])),(0,.m 25 1),(1,.d 26 (.call (.func 68) #[(.t 25)]))] [.d 27 (.call (.func 87) #[(.t 24),(.t 26)]),.d 28 (.part 0 2 (.t 27)),⟨.st 2 (.t 4) (.t 28),none,none,none⟩,.xv 5 0])
 .ret))))
def Qzk:Zf prog 41 29 Zc5 [.cn 4 2,.t 5]:=.o [] [26] Tryz.func41 K1
def Zc3:C:=(.seq (.reg [.xb 4 false])
 (.seq (.seq (.reg [.xv 5 0])
 (.block 0 (.loop (.seq (.seq (.reg [.m 6 5,.m 7 0,.xn 8 7,.xc 9 .lss 6 8,.m 10 9,.ym 11 10 true 5,.ym 12 10 true 1,.yn 13 10 true 12,.u 14 10 true (.cmp .lss (.t 11) (.t 13)),.xp 15 10 14])
 (.ite (.t 15) .skip (.exit 0)))
 (.seq (.block 1 (.seq (.drw [(0,.m 18 0),(0,.m 19 5),(0,.xi 20 1 18 19),(0,.xl 21 20),(0,.m 22 1),(0,.m 23 5),(0,.xi 24 1 22 23),(0,.xl 25 24)] [.xc 26 .neq 21 25])
 (.ite (.t 26) (.seq (.drw [(0,.m 27 0),(0,.m 28 5),(0,.xi 29 1 27 28),(0,.xl 30 29),(0,.m 31 1),(0,.m 32 5),(0,.xi 33 1 31 32),(0,.xl 34 33)] [.xc 35 .lss 30 34,.m 4 35])
 .ret) .skip)))
 (.reg [.m 16 5,.xa 17 16,.m 5 17]))))))
 (.seq (.reg [.m 36 0,.xn 37 36,.m 38 1,.xn 39 38,.xc 40 .lss 37 39,.m 4 40])
 .ret)))
def Qvz:Zf prog 36 41 Zc3 [.t 4]:=.o [] [] Tryz.func36 K1
def Zc6:C:=(.seq (.reg [.d 3 (.box 25 (.t 0)),.xv 6 0,.xb 7 false])
 (.seq (.reg [.xd 11 2 3,.m 12 1,.d 13 (.call (.func 41) #[(.t 11),(.t 12)]),.m 10 13,.xe 14 10 0,.xe 15 10 1,.d 8 (.alloc 25 #[(.slice none 0 0),(.slice none 0 0)]),⟨.st 2 (.t 8) (.t 14),none,none,none⟩,.m 9 15])
 (.seq (.seq (.reg [.m 16 9,.xk 17 .neq 16 0,.m 18 17,.yo 19 18 false 0 8,.yl 20 18 false 19,.yo 21 18 false 0 3,.yl 22 18 false 21,.u 23 18 false (.call (.func 59) #[(.t 20),(.t 22)]),.u 24 18 false (.not (.t 23)),.xq 25 18 24,.m 26 25,.u 27 26 false (.ldn 2 (.t 8)),.u 28 26 false (.call (.func 24) #[(.t 27)]),.yk 29 26 false .neq 28 0,.xq 30 26 29])
 (.ite (.t 30) (.seq (.reg [.xv 6 0,.xb 7 false])
 .ret) .skip))
 (.seq (.reg [.xd 31 2 8,.m 32 2,.d 33 (.call (.func 49) #[(.t 31),(.t 32)]),.xe 34 33 0,.xe 35 33 1,.m 6 34,.m 7 35])
 .ret))))
def Qcf:Zf prog 46 36 Zc6 [.t 6,.t 7]:=.o [] [] Tryz.func46 K1
def Zg3:C:=(.seq (.reg [.d 2 (.box 25 (.t 0)),.xs 4])
 (.seq (.reg [.xs 5])
 (.seq (.seq (.reg [.xv 6 0])
 (.block 0 (.loop (.seq (.seq (.reg [.m 7 6,.xo 8 1 2,.xl 9 8,.xn 10 9,.xc 11 .lss 7 10])
 (.ite (.t 11) .skip (.exit 0)))
 (.seq (.block 1 (.seq (.reg [.m 14 1,.m 15 6,.d 16 (.ar .shr (.t 14) (.t 15)),.d 17 (.ar .and (.t 16) (.const (.int .u8 1))),.d 18 (.cmp .eql (.t 17) (.const (.int .u8 1)))])
 (.ite (.t 18) (.reg [.m 19 5,.m 20 6,.d 21 (.bsl 3 1 #[(.int .i64 0)] [(0,1,(.t 20))]),.xz 22 19 21 26,.m 5 22]) .skip)))
 (.reg [.m 12 6,.xa 13 12,.m 6 13]))))))
 (.seq (.reg [.m 23 5,.m 4 23])
 .ret))))
def Q0h:Zf prog 47 24 Zg3 [.t 4]:=.o [] [] Tryz.func47 K1
def Zg4:C:=(.seq (.reg [.xb 4 false])
 (.seq (.reg [.m 5 0,.xn 6 5,.m 7 1,.xn 8 7,.xc 9 .lss 6 8,.m 10 9,.ym 11 10 false 0,.yn 12 10 false 11,.ym 13 10 false 1,.yn 14 10 false 13,.u 15 10 false (.cmp .eql (.t 12) (.t 14)),.ym 16 10 false 15,.ym 17 16 true 0,.ym 18 16 true 1,.u 19 16 true (.call (.func 36) #[(.t 17),(.t 18)]),.u 20 10 false (.pick (.t 16) (.t 19) (.cb false)),.xq 21 10 20,.m 4 21])
 .ret))
def Q0j:Zf prog 48 22 Zg4 [.t 4]:=.o [] [] Tryz.func48 K1
def Zk4:C:=(.seq (.reg [.d 2 (.box 25 (.t 0)),.xv 4 0,.xb 5 false])
 (.seq (.reg [.xd 10 2 2,.d 11 (.call (.func 26) #[(.t 10)]),.m 9 11,.xe 12 9 0,.xe 13 9 1,.xe 14 9 2,.m 6 12,.m 7 13,.m 8 14])
 (.seq (.seq (.reg [.m 15 8,.xk 16 .neq 15 0,.m 17 16,.ym 18 17 false 6,.yn 19 17 false 18,.yo 20 17 false 0 2,.yl 21 17 false 20,.yn 22 17 false 21,.u 23 17 false (.cmp .neq (.t 19) (.t 22)),.xq 24 17 23])
 (.ite (.t 24) (.seq (.reg [.xv 4 0,.xb 5 false])
 .ret) .skip))
 (.seq (.reg [.m 25 6,.m 26 1,.xi 27 1 25 26,.xl 28 27,.m 4 28,.xb 5 true])
 .ret))))
def Q0k:Zf prog 49 29 Zk4 [.t 4,.t 5]:=.o [] [] Tryz.func49 K1
end Go.Proofs
set_option linter.unusedSimpArgs false
namespace Go.TM
variable{T:Type}{P:Program}{S:Sys P T}{fn:FuncId}{ro:Option Nat}
def V3.frz2{U U':Qa T}{b:Nat}{e:TypeId}{c:Array Value}(h:V3 U b e c U'):U.frz.lg U'.frz:=⟨h.imm,⟨[],rfl⟩,h.tok⟩
def V3.made{U U':Qa T}{b:Nat}{e:TypeId}{c:Array Value}(h:U.le U')(f:U'.free b):V3 U b e c (U'.put b (.cells c e)):=by
 refine⟨h.imm,by show _::U'.M=_;rw[h.own],h.tok,?_⟩;cases d:U.I b with
 |none=>rfl
 |some o=>have:=h.imm b o d;rw[f.1]at this;cases this
end Go.TM
namespace Go.Proofs
open Go.TM Go.ChangeShapes Go.WideShapes Go.RowKit
section
variable{H:Type}{enc:TypeId×Value->H}{W:World}{fuel:Nat}{x:DataW H×List MemPlace}{v:Value}{cs:List Value}
def Zof{k:IntKind}{t:TypeId}{m:Nat}(g:prog.underlying t=some (.int k))(d:k.min=0)(f:k.max=(m:Int))(h:JZ enc prog W fuel t cs=some x):∃u:Nat,cs=[.int k u]/\u<=m:=by
 obtain⟨n,e,-,b⟩:=DataW.trod_int g h;simp only[Lit.wf,Bool.and_eq_true,decide_eq_true_eq]at b;rw[d,f]at b;obtain⟨u,rfl⟩:=Int.eq_ofNat_of_zero_le b.1;exact⟨u,e,O1⟩
def Zoh(h:JZ enc prog W fuel 5 [v]=some x):∃u:Nat,v=.int .u8 u/\u<256:=by
 obtain⟨u,b,d⟩:=Zof (m:=255) Zpm D1 D1 h;exact⟨u,by simpa using b,O1⟩
end
end Go.Proofs

noncomputable section
namespace Go.Proofs
open Go.TM
noncomputable def Zcx:C:=(.seq (.reg [.d 3 (.box 25 (.t 0)),.xb 6 false])
 (.seq (.seq (.reg [.xd 16 2 3,.d 17 (.call (.func 32) #[(.t 16)]),.xt 18 17,.m 19 18,.yo 20 19 false 0 3,.yl 21 19 false 20,.yn 22 19 false 21,.yk 23 19 false .eql 22 0,.xq 24 19 23])
 (.ite (.t 24) (.seq (.reg [.d 25 (.call (.func 20) #[]),.m 6 25])
 .ret) .skip))
 (.seq (.reg [.m 26 1,.d 27 (.conv .i64 (.t 26)),.xo 28 0 3,.xl 29 28,.xn 30 29,.d 31 (.ar .rem (.t 27) (.t 30)),.m 7 31])
 (.seq (.reg [.xd 33 2 3,.m 34 7,.d 35 (.call (.func 39) #[(.t 33),(.t 34)]),.m 32 35,.xe 36 32 0,.xe 37 32 1,.m 8 36,.m 9 37])
 (.seq (.reg [.xd 39 2 3,.m 40 8,.m 41 7,.d 42 (.call (.func 46) #[(.t 39),(.t 40),(.t 41)]),.m 38 42,.xe 43 38 0,.xe 44 38 1,.m 10 43,.m 11 44])
 (.seq (.seq (.reg [.m 45 9,.xk 46 .neq 45 0,.m 47 46,.ym 48 47 false 11,.u 49 47 false (.not (.t 48)),.xq 50 47 49,.m 51 50,.ym 52 51 false 10,.yk 53 51 false .neq 52 1,.xq 54 51 53])
 (.ite (.t 54) (.seq (.reg [.xb 6 false])
 .ret) .skip))
 (.seq (.reg [.xd 55 2 3,.m 56 2,.d 57 (.call (.func 47) #[(.t 55),(.t 56)]),.m 12 57])
 (.seq (.reg [.xd 59 2 3,.m 60 12,.m 61 7,.d 62 (.call (.func 46) #[(.t 59),(.t 60),(.t 61)]),.m 58 62,.xe 63 58 0,.xe 64 58 1,.m 10 63,.m 11 64])
 (.seq (.seq (.reg [.m 65 11,.xt 66 65,.m 67 66,.ym 68 67 false 10,.yk 69 67 false .eql 68 1,.ym 70 67 false 69,.ym 71 70 true 12,.ym 72 70 true 8,.u 73 70 true (.call (.func 48) #[(.t 71),(.t 72)]),.u 74 67 false (.pick (.t 70) (.t 73) (.cb false)),.xq 75 67 74])
 (.ite (.t 75) (.seq (.reg [.xb 6 false])
 .ret) .skip))
 (.seq (.reg [.xv 13 0])
 (.seq (.seq (.reg [.xv 14 0])
 (.block 0 (.loop (.seq (.seq (.reg [.m 76 14,.xo 77 1 3,.xl 78 77,.xn 79 78,.xc 80 .lss 76 79])
 (.ite (.t 80) .skip (.exit 0)))
 (.seq (.block 1 (.seq (.reg [.xo 83 1 3,.xl 84 83,.m 85 14,.xi 86 4 84 85,.xo 87 1 86,.xl 88 87,.m 89 7,.xc 90 .eql 88 89])
 (.ite (.t 90) (.reg [.m 91 13,.xa 92 91,.m 13 92]) .skip)))
 (.reg [.m 81 14,.xa 82 81,.m 14 82]))))))
 (.seq (.seq (.reg [.m 93 8,.xn 94 93,.m 95 13,.xc 96 .gtr 94 95])
 (.ite (.t 96) (.seq (.reg [.xb 6 false])
 .ret) .skip))
 (.seq (.seq (.reg [.xv 15 0])
 (.block 2 (.loop (.seq (.seq (.reg [.m 97 15,.m 98 8,.xn 99 98,.xc 100 .lss 97 99])
 (.ite (.t 100) .skip (.exit 2)))
 (.seq (.block 3 (.seq (.cd 126 (Gl Tryz.f11 23))
 (.seq (.reg [.m 119 11,.xt 120 119,.m 121 120,.ym 122 121 false 10,.yk 123 121 false .eql 122 1,.xq 124 121 123])
 (.ite (.t 124) (.seq (.reg [.xb 6 false])
 .ret) .skip))))
 (.reg [.m 101 15,.xa 102 101,.m 15 102]))))))
 (.seq (.reg [.d 125 (.call (.func 20) #[]),.m 6 125])
 .ret))))))))))))))
def Zk8:Zf Tryz.prog 11 126 Zcx [.t 6]:=.o [1023] [] Tryz.func11 K1
end Go.Proofs
end

open List
namespace Go.TM
variable{b:Bk}
def Bk.okTo(b:Bk):List Nat->List Nat->Bool
 |_,[]=>true
 |p,i::q=>decide (i<b.cs.length)&&b.can p i&&b.okTo (p++[i]) q
def Bk.mem_ords:∀(k:Nat)(p o:List Nat),o∈b.ords k p↔∃q,o=p++q/\q.length=k/\b.okTo p q=true
 |0,p,o=>by
  simp only[Bk.ords,mem_singleton];constructor
  .rintro rfl;exact⟨[],S1,rfl,rfl⟩
  .rintro⟨q,rfl,d,-⟩;rw[length_eq_zero_iff]at d;simp[d]
 |k+1,p,o=>by
  simp only[Bk.ords,mem_flatMap,mem_range];constructor
  .rintro⟨i,hi,ho⟩;split at ho
   .rename_i hc;obtain⟨q,rfl,d,e⟩:=(Bk.mem_ords k (p++[i]) o).1 ho;exact⟨i::q,S1,by simp[d],by simp[Bk.okTo,hi,hc,e]⟩
   .cases ho
  .rintro⟨q,rfl,d,e⟩;cases q with
   |nil=>cases d
   |cons i q=>
    simp only[Bk.okTo,Bool.and_eq_true,decide_eq_true_eq]at e;refine⟨i,e.1.1,?_⟩;rw[if_pos e.1.2];exact(Bk.mem_ords k (p++[i]) _).2 ⟨q,S1,by simpa using d,e.2⟩
def Bk.mem_all{o:List Nat}:o∈b.all↔o.length=b.cs.length/\b.okTo [] o=true:=by
 unfold Bk.all;rw[Bk.mem_ords];constructor
 .rintro⟨q,rfl,hq,hk⟩;exact⟨hq,hk⟩
 .rintro⟨h1,h2⟩;exact⟨o,rfl,h1,h2⟩
def Bk.okTo_iff:∀(q p:List Nat),b.okTo p q=true↔∀X i Y,q=X++i::Y->i<b.cs.length/\b.can (p++X) i=true
 |[],p=>by simp[Bk.okTo]
 |i::q,p=>by
  simp only[Bk.okTo,Bool.and_eq_true,decide_eq_true_eq];rw[Bk.okTo_iff q (p++[i])];constructor
  .rintro⟨⟨h1,h2⟩,h3⟩ X j Y e;cases X with
   |nil=>
    simp only[nil_append,List.cons.injEq]at e;obtain⟨rfl,rfl⟩:=e;simpa using⟨h1,h2⟩
   |cons x X=>
    simp only[cons_append,List.cons.injEq]at e;obtain⟨rfl,rfl⟩:=e;have:=h3 X j Y rfl;simpa using this
  .intro h;refine⟨by simpa using h [] i q rfl,λ X j Y e=>?_⟩;have:=h (i::X) j Y (by simp[e]);simpa using this
def Bk.can_iff{o:List Nat}{i:Nat}:b.can o i=true↔i∉o/\∀k∈Je b.A i,k∈o:=by
 simp[Bk.can]
structure Bk.Ord(b:Bk)(o:List Nat):Prop where
 len:o.length=b.cs.length
 low:∀i∈o,i<b.cs.length
 nod:o.Nodup
 aft:∀X i Y,o=X++i::Y->∀k∈Je b.A i,k∈X
def Q0o:∀{o:List Nat},(∀X i Y,o=X++i::Y->i∉X)->o.Nodup:=by
 intro o h;rw[nodup_iff_pairwise_ne,pairwise_iff_getElem];intro i j d f b e;refine h (o.take j) o[j] (o.drop (j+1)) (by rw[getElem_cons_drop,take_append_drop]) ?_;rw[<- e,mem_take_iff_getElem];exact⟨i,O1,rfl⟩
def Bk.mem_all_iff{o:List Nat}:o∈b.all↔b.Ord o:=by
 rw[Bk.mem_all,Bk.okTo_iff];simp only[nil_append];constructor
 .rintro⟨h1,h2⟩;refine⟨h1,λ i f=>?_,Q0o λ X i Y e=>(Bk.can_iff.1 (h2 X i Y e).2).1,λ X i Y e=>(Bk.can_iff.1 (h2 X i Y e).2).2⟩;obtain⟨X,Y,e⟩:=append_of_mem f;exact(h2 X i Y e).1
 .intro h;refine⟨h.len,λ X i Y e=>⟨h.low i (by rw[e];simp),Bk.can_iff.2 ⟨λ g=>?_,h.aft X i Y e⟩⟩⟩;have d:=h.nod;rw[e]at d;exact(nodup_append.1 d).2.2 i g i (mem_cons_self ..) rfl
def Zod{n:Nat}{l:List Nat}(h:∀i,i<n->i∈l):n<=l.length:=by
 have b:∀(n:Nat)(l:List Nat),(∀i,i<n->i∈l)->n<=l.length:=by
  intro n
  induction n with
  |zero=>intro l _;exact Nat.zero_le _
  |succ n d=>
   intro l h;obtain⟨X,Y,e⟩:=append_of_mem (h n O1)
   have:=d (X++Y) λ i f=>by
    have:=h i O1;rw[e]at this;simp only[mem_append,mem_cons]at this ⊢;rcases this with h|h|h
    .exact .inl h
    .omega
    .exact .inr h
   rw[e];simp at this ⊢;omega
 exact b n l h
def Bk.A_n(b:Bk):b.A.length=b.cs.length:=by simp[Bk.A]
def Bk.Ok.ord{b:Bk}(h:b.Ok):∃o,b.Ord o:=by
 obtain⟨L,f,d⟩:=DM h.lo;rw[b.A_n]at d;refine⟨L.reverse,?_,λ i g=>by rw[<- b.A_n];exact f.low i (by simpa using g),(by unfold Nodup;rw[pairwise_reverse];exact f.nod.imp Ne.symm),λ X i Y e k j=>?_⟩
 .rw[length_reverse];have q:=H7 f.nod (n:=b.cs.length) λ x m=>by rw[<- b.A_n];exact f.low x m
  have r:=Zod d;omega
 .have e':L=Y.reverse++i::X.reverse:=by
   rw[<- reverse_reverse L,e];simp
  have:=f.aft _ _ _ e' k j;simpa using this
def Bk.Ord.has{b:Bk}{o:List Nat}(h:b.Ord o){i:Nat}(f:i<b.cs.length):i∈o:=by
 apply Classical.byContradiction;intro g;have e:(i::o).Nodup:=nodup_cons.2 ⟨g,h.nod⟩
 have:=H7 e (n:=b.cs.length) λ x d=>by
  rcases mem_cons.1 d with rfl|d
  .exact f
  .exact h.low x d
 rw[length_cons,h.len]at this;omega
def Bk.Ok.all_pos{b:Bk}(h:b.Ok):0<b.all.length:=by
 obtain⟨o,d⟩:=h.ord;exact length_pos_of_mem (Bk.mem_all_iff.2 d)
def Bk.stp_len(b:Bk)(x:List Bool×List Bool)(i:Nat):(b.stp x i).1.length=x.1.length/\(b.stp x i).2.length=x.2.length:=by
 unfold Bk.stp;split <;> simp
def Bk.end_len(b:Bk)(o:List Nat):(b.ends o).1.length=b.rs.length/\(b.ends o).2.length=b.cs.length:=by
 have d:∀(o:List Nat)(x:List Bool×List Bool),(o.foldl b.stp x).1.length=x.1.length/\(o.foldl b.stp x).2.length=x.2.length:=by
  intro o
  induction o with
  |nil=>exact λ x=>⟨rfl,rfl⟩
  |cons i o g=>
   intro x;have e:=g (b.stp x i);have f:=b.stp_len x i;exact⟨e.1.trans f.1,e.2.trans f.2⟩
 have:=d o b.ini;simpa[Bk.ends,Bk.ini]using this
def Qaq{l:List Bool}{i j:Nat}{v:Bool}:(l.set i v).getD j false=if i=j/\i<l.length then v else l.getD j false:=by
 simp only[getD_eq_getElem?_getD,getElem?_set];by_cases e:i=j
 .subst e;by_cases h:i<l.length
  .simp[h]
  .simp[h]
 .simp[e]
def Bk.end_facts(b:Bk)(h:b.Ok):∀(n:Nat)(o:List Nat),o.length=n->o.Nodup->(∀i∈o,i<b.cs.length) ->
  (∀i,i∉o->(b.ends o).2.getD i false=false)/\∀r,r<b.rs.length->(b.ends o).1.getD r false=!(o.any λ i=>(b.ends o).2.getD i false&&(b.cas i).ag.toNat==r):=by
 intro n
 induction n with
 |zero=>
  intro o f _ _;rw[length_eq_zero_iff]at f;subst f;refine⟨λ i _=>?_,λ r s=>?_⟩
  .simp only[Bk.ends,Bk.ini,foldl_nil,getD_eq_getElem?_getD,getElem?_replicate];split <;> rfl
  .simp[Bk.ends,Bk.ini,getD_eq_getElem?_getD,getElem?_replicate,s]
 |succ n E=>
  intro o f v z
  obtain⟨q,i,rfl⟩:∃q i,o=q++[i]:=by
   rcases eq_nil_or_concat o with e|⟨q,i,e⟩
   .rw[e]at f;cases f
   .exact⟨q,i,by simpa using e⟩
  rw[nodup_append]at v;have g:i∉q:=λ u=>v.2.2 i u i (mem_singleton.2 rfl) rfl;have y:i<b.cs.length:=z i S1;obtain⟨t,w⟩:=E q (by simpa using f) v.1 λ j d=>z j (by simp[d]);obtain⟨F,G⟩:=b.end_len q
  have B:(b.cas i).ag.toNat<b.rs.length:=by
   have u:b.cas i∈b.cs:=by
    unfold Bk.cas;rw[getD_eq_getElem?_getD,getElem?_eq_getElem y];exact getElem_mem y
   have:=h.ag _ u;unfold Bk.nr at this;omega
  rw[b.ends_snoc];unfold Bk.stp;by_cases A:Iq (b.cas i).gs (b.ends q).1=true
  .rw[if_pos A];refine⟨λ j d=>?_,λ r s=>?_⟩
   .simp only[mem_append,mem_singleton,not_or]at d;show((b.ends q).2.set i true).getD j false=false;rw[Qaq,if_neg λ e=>d.2 e.1.symm];exact t j d.1
   .show((b.ends q).1.set (b.cas i).ag.toNat false).getD r false=!((q++[i]).any λ j=>((b.ends q).2.set i true).getD j false&&(b.cas j).ag.toNat==r);rw[Qaq,any_append]
    have C:(q.any λ j=>((b.ends q).2.set i true).getD j false&&(b.cas j).ag.toNat==r)=q.any λ j=>(b.ends q).2.getD j false&&(b.cas j).ag.toNat==r:=by
     have m:∀j∈q,((b.ends q).2.set i true).getD j false=(b.ends q).2.getD j false:=λ j d=>by rw[Qaq,if_neg (λ e:i=j/\_=>g (e.1▸d))]
     rw[Bool.eq_iff_iff,any_eq_true,any_eq_true];constructor
     .rintro⟨j,d,hx⟩;rw[m j d]at hx;exact⟨j,d,hx⟩
     .rintro⟨j,d,hx⟩;rw[<- m j d]at hx;exact⟨j,d,hx⟩
    rw[C];by_cases e:(b.cas i).ag.toNat=r
    .rw[if_pos ⟨e,O1⟩];have D:((b.ends q).2.set i true).getD i false=true:=by rw[Qaq,if_pos ⟨rfl,O1⟩]
     rw[any_cons,D,e];simp
    .rw[if_neg λ x=>e x.1,w r s,any_cons,beq_false_of_ne e];simp
  .rw[if_neg A];refine⟨λ j d=>t j λ x=>d (by simp[x]),λ r s=>?_⟩;rw[w r s,any_append];rw[any_cons,t i g];simp
def Bk.Ord.split{b:Bk}{o:List Nat}(h:b.Ord o){i:Nat}(d:i<b.cs.length):∃X Y,o=X++i::Y:=append_of_mem (h.has d)
def Bk.end_right(b:Bk)(h:b.Ok){o:List Nat}(d:b.Ord o){r:Nat}(e:r<b.rs.length):(b.ends o).1.getD r false=false↔∃i,i<b.cs.length/\(b.ends o).2.getD i false=true/\(b.cas i).ag.toNat=r:=by
 rw[(b.end_facts h o.length o rfl d.nod d.low).2 r e];simp only[Bool.not_eq_false',any_eq_true,Bool.and_eq_true,beq_iff_eq];constructor
 .rintro⟨i,hi,h1,h2⟩;exact⟨i,d.low i hi,h1,h2⟩
 .rintro⟨i,hi,h1,h2⟩;exact⟨i,d.has hi,h1,h2⟩
def Zm0{b all:Nat}:H9 b all=1↔b=all:=by
 unfold H9;split
 .rename_i h;simp[h]
 .rename_i h;split
  .simp[h]
  .simp[h]
def Zm6{b all:Nat}(d:0<all):H9 b all=2↔b=0:=by
 unfold H9;split
 .rename_i h;constructor
  .intro x;cases x
  .intro x;omega
 .split
  .rename_i h;simp[h]
  .rename_i h;simp[h]
def Bk.fatR_one(b:Bk){i:Nat}:b.fatR i=1↔∀o,b.Ord o->(b.ends o).1.getD i false=true:=by
 unfold Bk.fatR;rw[Zm0,countP_eq_length];exact⟨λ h o d=>h o (Bk.mem_all_iff.2 d),λ h o d=>h o (Bk.mem_all_iff.1 d)⟩
def Bk.fatC_two(b:Bk)(h:b.Ok){i:Nat}:b.fatC i=2↔∀o,b.Ord o->(b.ends o).2.getD i false=false:=by
 unfold Bk.fatC;rw[Zm6 h.all_pos,countP_eq_zero];exact⟨λ h o d=>by simpa using h o (Bk.mem_all_iff.2 d),λ h o d=>by simpa using h o (Bk.mem_all_iff.1 d)⟩
def Bk.safe_stands(b:Bk)(h:b.Ok){r:Nat}(q:r<b.rs.length)(g:∀i,i<b.cs.length->(b.cas i).ag.toNat=r->b.fatC i=2):b.fatR r=1:=by
 rw[Bk.fatR_one];intro o d;apply Classical.byContradiction;intro m;obtain⟨i,j,e,f⟩:=(b.end_right h d q).1 (by simpa using m);rw[(b.fatC_two h).1 (g i j f) o d]at e;cases e
structure Bk.Beg(b:Bk)(o:List Nat):Prop where
 low:∀i∈o,i<b.cs.length
 nod:o.Nodup
 aft:∀X i Y,o=X++i::Y->∀k∈Je b.A i,k∈X
def Bk.Beg.nil:b.Beg []:=⟨S1,.nil,λ X i Y e=>by cases X <;> cases e⟩
def Bk.Beg.le{o:List Nat}(h:b.Beg o):o.length<=b.cs.length:=H7 h.nod h.low
def Bk.Ord.flaw{o:List Nat}(h:b.Ord o):b.ordF (o.map λ(k:Nat)=>(k:Int))=0:=by
 have f:∀(q p:List Nat),o=p++q->b.ordL p (q.map λ(k:Nat)=>(k:Int))=0:=by
  intro q
  induction q with
  |nil=>intro p _;rfl
  |cons i q s=>
   intro p e;have t:i<b.cs.length:=h.low i (by rw[e];simp);have g:=h.nod;rw[e,nodup_append]at g;have d:i∉p:=λ r=>g.2.2 i r i (mem_cons_self ..) rfl;have j:=h.aft p i q e;show(if Go.TM.btw (i:Int) 0 (b.nc-1)then(if(i:Int).toNat∈p then 5 else if(Je b.A (i:Int).toNat).all (λ k=>p.contains k)then b.ordL (p++[(i:Int).toNat]) (q.map λ(k:Nat)=>(k:Int))else 7)else 6)=0;rw[if_pos (by unfold Bk.nc;simp[btw];omega),Int.toNat_natCast,if_neg d,if_pos (by rw[all_eq_true];intro k m;simpa using j k m)];exact s (p++[i]) (by rw[e];simp)
 unfold Bk.ordF;rw[if_neg (by rw[length_map,h.len];simp)];exact f o [] rfl
def Qae:List Int->List Int->Bool
 |[],l=>!l.isEmpty
 |_::_,[]=>false
 |x::l,y::r=>if x=y then Qae l r else decide (x<y)
def Qvo:∀l,Qae l l=false
 |[]=>rfl
 |x::l=>by simp[Qae,Qvo l]
def Qpf:∀l r,Qae l r=true->Qae r l=false
 |[],[],h=>by simp[Qae]at h
 |[],_::_,_=>rfl
 |_::_,[],h=>by simp[Qae]at h
 |x::l,y::r,h=>by
  simp only[Qae]at h ⊢;by_cases e:x=y
  .rw[if_pos e]at h;rw[if_pos e.symm];exact Qpf l r h
  .rw[if_neg e]at h;rw[if_neg (Ne.symm e)];simp at h ⊢;omega
end Go.TM
namespace Go.TM
variable{b o:Bk}
structure Bk.Turn(b o:Bk)(p q:Nat->Nat):Prop where
 rs:o.rs=b.rs
 n:o.cs.length=b.cs.length
 pl:∀i,i<b.cs.length->p i<b.cs.length
 ql:∀i,i<b.cs.length->q i<b.cs.length
 qp:∀i,i<b.cs.length->q (p i)=i
 pq:∀i,i<b.cs.length->p (q i)=i
 nm:∀i,i<b.cs.length->(o.cas i).nm=(b.cas (p i)).nm
 ag:∀i,i<b.cs.length->(o.cas i).ag=(b.cas (p i)).ag
 gs:∀i,i<b.cs.length->(o.cas i).gs=(b.cas (p i)).gs
 af:∀i,i<b.cs.length->∀k,k<b.cs.length->(k∈Je o.A i↔p k∈Je b.A (p i))
def Bk.Turn.symm{p q:Nat->Nat}(h:b.Turn o p q):o.Turn b q p:=by
 have d:=h.n;refine⟨h.rs.symm,h.n.symm,?_,?_,?_,?_,?_,?_,?_,?_⟩ <;> rw[d]
 .exact h.ql
 .exact h.pl
 .exact h.pq
 .exact h.qp
 .intro i hi;rw[h.nm _ (h.ql i hi),h.pq i hi]
 .intro i hi;rw[h.ag _ (h.ql i hi),h.pq i hi]
 .intro i hi;rw[h.gs _ (h.ql i hi),h.pq i hi]
 .intro i hi k hk;rw[h.af _ (h.ql i hi) _ (h.ql k hk),h.pq i hi,h.pq k hk]
def Bk.Turn.ends{p q:Nat->Nat}(h:b.Turn o p q):∀(n:Nat)(l:List Nat),l.length=n->(∀i∈l,i<b.cs.length)->(o.ends l).1=(b.ends (l.map p)).1/\∀i,i<b.cs.length->(o.ends l).2.getD i false=(b.ends (l.map p)).2.getD (p i) false:=by
 intro n
 induction n with
 |zero=>
  intro l m _;rw[length_eq_zero_iff]at m;subst m;refine⟨by simp[Bk.ends,Bk.ini,h.rs],λ i d=>?_⟩;simp[Bk.ends,Bk.ini,getD_eq_getElem?_getD,getElem?_replicate,h.n,d,h.pl i d]
 |succ n w=>
  intro l m f
  obtain⟨g,i,rfl⟩:∃g i,l=g++[i]:=by
   rcases eq_nil_or_concat l with e|⟨q,i,e⟩
   .rw[e]at m;cases m
   .exact⟨q,i,by simpa using e⟩
  obtain⟨t,u⟩:=w g (by simpa using m) λ j r=>f j (by simp[r]);have d:=f i S1;rw[map_append,map_singleton,o.ends_snoc,b.ends_snoc];unfold Bk.stp;rw[h.gs i d,h.ag i d,t];by_cases s:Iq (b.cas (p i)).gs (b.ends (g.map p)).1=true
  .rw[if_pos s,if_pos s];refine⟨rfl,λ j r=>?_⟩;show((o.ends g).2.set i true).getD j false=((b.ends (g.map p)).2.set (p i) true).getD (p j) false;rw[Qaq,Qaq,(o.end_len g).2,(b.end_len _).2,h.n,u j r];by_cases e:i=j
   .subst e;simp[d,h.pl i d]
   .have:p i≠p j:=λ v=>e (by rw[<- h.qp i d,v,h.qp j r]);simp[e,this]
  .rw[if_neg s,if_neg s];exact⟨t,u⟩
def Bk.Turn.ord{p q:Nat->Nat}(s:b.Ok)(h:b.Turn o p q){l:List Nat}(m:o.Ord l):b.Ord (l.map p):=by
 have d:∀i∈l,i<b.cs.length:=λ i g=>h.n▸m.low i g;refine⟨by rw[length_map,m.len,h.n],λ i g=>?_,?_,λ X j Y e k t=>?_⟩
 .obtain⟨j,hj,rfl⟩:=mem_map.1 g;exact h.pl j (d j hj)
 .refine pairwise_map.2 (m.nod.imp_of_mem λ{x y}v w r e=>r ?_);rw[<- h.qp x (d x v),e,h.qp y (d y w)]
 .obtain⟨X',l',rfl,rfl,e2⟩:=map_eq_append_iff.1 e;obtain⟨i,u,rfl,rfl,rfl⟩:=map_eq_cons_iff.1 e2;have g:=d i S1
  have f:k<b.cs.length:=by
   have:=s.low (p i) (by rw[b.A_n];exact h.pl i g) k t
   rwa [b.A_n]at this
  refine mem_map.2 ⟨q k,m.aft X' i u rfl (q k) ?_,h.pq k f⟩;rw[h.af i g (q k) (h.ql k f),h.pq k f];exact t
def Qdg{nameB:ByteArray->Bool}{nr nc:Int}:∀{l:List Cs}{seen:List ByteArray},WC nameB nr nc seen l=0 ↔
  (∀c∈l,nameB c.nm=true/\btw c.ag 0 (nr-1)=true/\ZX nr c.gs=0/\J1 nc none c.af=0/\c.nm∉seen)/\(l.map (·.nm)).Nodup
 |[],seen=>by simp[WC]
 |c::l,seen=>by
  have u:=Qdg (nameB:=nameB) (nr:=nr) (nc:=nc) (l:=l) (seen:=seen++[c.nm]);simp only[WC,mem_cons,map_cons,nodup_cons,forall_eq_or_imp];by_cases j:nameB c.nm=true
  .by_cases h2:QR seen c.nm=true
   .rw[if_pos j,if_pos h2];have:=xL.1 h2;simp[this]
   .have h2':c.nm∉seen:=λ h=>h2 (xL.2 h);rw[if_pos j,if_neg h2];by_cases f:btw c.ag 0 (nr-1)=true
    .by_cases h4:ZX nr c.gs=0
     .by_cases h5:J1 nc none c.af=0
      .rw[if_pos f,if_pos h4,if_pos h5,u];simp only[j,h2',f,h4,h5,true_and,not_false_iff];constructor
       .rintro⟨a1,a2⟩;refine⟨λ d g=>?_,λ t=>?_,a2⟩
        .obtain⟨m,o,q,r,s⟩:=a1 d g;exact⟨m,o,q,r,λ b=>s (by simp[b])⟩
        .obtain⟨d,g,e⟩:=mem_map.1 t;exact(a1 d g).2.2.2.2 (by simp[e])
       .rintro⟨a1,a2,a3⟩;refine⟨λ d g=>?_,a3⟩;obtain⟨m,o,q,r,s⟩:=a1 d g;refine⟨m,o,q,r,λ b=>?_⟩;rcases mem_append.1 b with b|b
        .exact s b
        .simp at b;exact a2 (mem_map.2 ⟨d,g,b⟩)
      .rw[if_pos f,if_pos h4,if_neg h5];simp[h5]
     .rw[if_pos f,if_neg h4];simp[h4]
    .rw[if_neg f];simp[f]
  .rw[if_neg j];simp[j]
def Bk.cas_ex{c:Cs}(h:c∈b.cs):∃i,i<b.cs.length/\b.cas i=c:=by
 obtain⟨i,d,e⟩:=mem_iff_getElem.1 h;exact⟨i,d,by simp[Bk.cas,getD_eq_getElem?_getD,d,e]⟩
def Bk.mem_cas{i:Nat}(d:i<b.cs.length):b.cas i∈b.cs:=by
 unfold Bk.cas;rw[getD_eq_getElem?_getD,getElem?_eq_getElem d];exact getElem_mem d
def Bk.Turn.flaw{nameB:ByteArray->Bool}{p q:Nat->Nat}(r:b.flaw nameB=0)(h:b.Turn o p q)(t:∀i,i<b.cs.length->J1 b.nc none (o.cas i).af=0):o.flaw nameB=0:=by
 have C:=Bk.ok_of r
 have g:∀i,i<o.A.length->∀k∈Je o.A i,k<o.A.length:=λ i d k f=>by
  rw[o.A_n]at d ⊢;have e:Je o.A i=(o.cas i).af.map Int.toNat:=by simp[Je,Bk.A,Bk.cas,getD_eq_getElem?_getD,d]
  rw[e]at f;obtain⟨n,M,rfl⟩:=mem_map.1 f;have:=Yk (t i (h.n▸d)) n M;rw[h.n];unfold Bk.nc at this;omega
 have J:Wq o.A=false:=by
  obtain⟨ρ,N⟩:=wS C.lo;refine qq g (λ i=>ρ (p i)) λ i d k f=>?_;have s:=g i d k f;rw[o.A_n,h.n]at d s;exact N (p i) (by rw[b.A_n];exact h.pl i d) (p k) ((h.af i d k s).1 f)
 unfold Bk.flaw at r ⊢;have D:o.rsF nameB=b.rsF nameB:=by unfold Bk.rsF;rw[h.rs]
 rw[D];split at r
 .rename_i h1;rw[if_pos h1];split at r
  .rename_i h2
   have v:o.csF nameB=0:=by
    unfold Bk.csF at h2 ⊢;rw[h.n];split at h2
    .cases h2
    .rename_i h5;rw[if_neg h5,Qdg];obtain⟨F,u⟩:=Qdg.1 h2;have B:o.nr=b.nr:=by unfold Bk.nr;rw[h.rs]
     have y:o.nc=b.nc:=by unfold Bk.nc;rw[h.n]
     rw[B,y];refine⟨λ c K=>?_,?_⟩
     .obtain⟨i,d,rfl⟩:=Bk.cas_ex K;rw[h.n]at d;obtain⟨O,P,Q,-,-⟩:=F _ (Bk.mem_cas (h.pl i d));rw[h.nm i d,h.ag i d,h.gs i d];exact⟨O,P,Q,t i d,S1⟩
     .rw[nodup_iff_pairwise_ne,pairwise_iff_getElem]at u ⊢;simp only[length_map,getElem_map]at u ⊢;intro i j d m L e;have H:(o.cas i).nm=(o.cs[i]).nm:=by simp[Bk.cas,getD_eq_getElem?_getD,d]
      have I:(o.cas j).nm=(o.cs[j]).nm:=by simp[Bk.cas,getD_eq_getElem?_getD,m]
      rw[<- H,<- I]at e;rw[h.n]at d m;rw[h.nm i d,h.nm j m]at e
      have z:p i≠p j:=λ G=>by
       have:=h.qp i d;rw[G,h.qp j m]at this;omega
      have E:∀k(f:k<b.cs.length),b.cas k=b.cs[k]:=λ k f=>by simp[Bk.cas,getD_eq_getElem?_getD,f]
      rw[E _ (h.pl i d),E _ (h.pl j m)]at e;rcases Nat.lt_or_gt_of_ne z with w|w
      .exact u (p i) (p j) (h.pl i d) (h.pl j m) w e
      .exact u (p j) (p i) (h.pl j m) (h.pl i d) w e.symm
   rw[if_pos v,if_neg (by simp[J])]
  .rename_i h2;exact absurd r h2
 .rename_i h1;exact absurd r h1
end Go.TM
namespace Go.TM
variable{b:Bk}
def Bk.flaw_zero{nameB:ByteArray->Bool}:b.flaw nameB=0↔b.rsF nameB=0/\b.csF nameB=0/\Wq b.A=false:=by
 unfold Bk.flaw;by_cases d:b.rsF nameB=0
 .by_cases h2:b.csF nameB=0
  .rw[if_pos d,if_pos h2];cases Wq b.A <;> simp[d,h2]
  .rw[if_pos d,if_neg h2];simp[h2]
 .rw[if_neg d];simp[d]
def Bk.csF_zero{nameB:ByteArray->Bool}:b.csF nameB=0↔b.cs.length<=5/\(∀c∈b.cs,nameB c.nm=true/\btw c.ag 0 (b.nr-1)=true/\ZX b.nr c.gs=0/\J1 b.nc none c.af=0)/\(b.cs.map (·.nm)).Nodup:=by
 unfold Bk.csF;by_cases h:b.cs.length > 5
 .rw[if_pos h];constructor
  .intro x;cases x
  .rintro⟨x,-⟩;omega
 .rw[if_neg h,Qdg];constructor
  .rintro⟨h1,h2⟩;exact⟨O1,λ c d=>let ⟨x1,x2,x3,x4,_⟩:=h1 c d;⟨x1,x2,x3,x4⟩,h2⟩
  .rintro⟨-,h1,h2⟩;exact⟨λ c d=>let ⟨x1,x2,x3,x4⟩:=h1 c d;⟨x1,x2,x3,x4,S1⟩,h2⟩
def Bk.cas_all(b:Bk):(range b.cs.length).map b.cas=b.cs:=by
 apply ext_getElem?;intro i;by_cases h:i<b.cs.length
 .simp[h,Bk.cas,getD_eq_getElem?_getD]
 .simp[h]
def Bk.wo_flaw{nameB:ByteArray->Bool}(j:b.flaw nameB=0)(out:Nat->Bool):(b.wo out).flaw nameB=0:=by
 have f:=(Bk.ok_of j).wo out;obtain⟨m,o,-⟩:=Bk.flaw_zero.1 j;obtain⟨-,q,g⟩:=Bk.csF_zero.1 o;refine Bk.flaw_zero.2 ⟨m,Bk.csF_zero.2 ⟨f.nc,λ c h=>?_,?_⟩,f.lo⟩
 .have hri:=f.ri c h;obtain⟨i,r,rfl⟩:=mem_map.1 h;have d:i<b.cs.length:=mem_range.1 (mem_filter.1 r).1;obtain⟨s,t,u,-⟩:=q _ (Bk.mem_cas d);exact⟨s,t,u,hri⟩
 .have e:(b.wo out).cs.map (·.nm)=(b.kept out).map λ i=>(b.cas i).nm:=by
   show List.map _ (List.map _ _)=_;rw[map_map];rfl
  rw[e];rw[<- b.cas_all,map_map]at g;exact g.sublist (filter_sublist.map _)
end Go.TM

