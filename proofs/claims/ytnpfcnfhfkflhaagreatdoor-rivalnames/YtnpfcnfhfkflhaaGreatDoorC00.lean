/- Lemmas. No conditions. -/
import Derived.Test.YtnpfcnfhfkflhaaGreatDoorB09
import Derived.Test.YtnpfcnfhfkflhaaGreatDoorB42
import Derived.Test.YtnpfcnfhfkflhaaGreatDoorB44
set_option linter.all false
set_option maxRecDepth 100000
open List
namespace Go.Proofs
open Go.TM
def Qp3:C:=(.seq (.reg [.xb 4 false])
 (.seq (.seq (.reg [.xv 5 0])
 (.block 0 (.loop (.seq (.seq (.reg [.m 6 5,.m 7 0,.xn 8 7,.xc 9 .lss 6 8])
 (.ite (.t 9) .skip (.exit 0)))
 (.seq (.block 1 (.seq (.reg [.m 12 0,.m 13 5,.xi 14 1 12 13,.xl 15 14,.m 16 1,.xc 17 .eql 15 16])
 (.ite (.t 17) (.seq (.reg [.xb 4 true])
 .ret) .skip)))
 (.reg [.m 10 5,.xa 11 10,.m 5 11]))))))
 (.seq (.reg [.xb 4 false])
 .ret)))
def Qf7:Zf Tryz.prog 38 18 Qp3 [.t 4]:=.o [] [] Tryz.func38 K1
end Go.Proofs
namespace Go.Proofs
open Go.TM
variable{T:Type}{S:TM.Sys Tryz.prog T}{U:Qa T}
attribute [local irreducible] Qb Zl Wt
def Qcf(a:Option Addr)(len cap:Nat)(l:List Int)(g:Z5 U a len l)(h:len<2^60)(n:Int) :
  Qb S 38 #[.slice a len cap,.int .i64 n] (λ v U'=>v=.bool (l.contains n)/\U'=U) U:=by
 refine Qb.of (args:=[_,_]) Qf7 Qf S1 ?_
 repeat refine⟨rfl,?_⟩
 refine⟨Nat,λ i=>[(0,.slice a len cap),(1,.int .i64 n),(5,.int .i64 i)],λ i U'=>U'=U/\i<=len/\n∉l.take i,λ i=>len-i,0,T1,⟨rfl,O1,S1⟩,?_⟩;rintro i f _⟨rfl,s,b⟩
 repeat refine⟨rfl,?_⟩
 conv=>whnf
 apply Qe<;>intro e
 .have hlt:i<len:=by simpa using e
  obtain⟨m,x,j,rfl,q,o⟩:=g.at hlt;refine⟨m,i,⟨rfl,rfl,hlt⟩,_,o,?_⟩
  repeat refine⟨rfl,?_⟩
  conv=>whnf
  apply Qe<;>intro e
  .repeat refine⟨rfl,?_⟩
   conv=>whnf
   have d:x=n:=by simpa using e
   refine⟨?_,rfl⟩;have:n∈l:=d▸mem_of_getElem? j;simp[this]
  .have d:x≠n:=by simpa using e
   refine⟨I1,?_⟩;refine⟨rfl,i+1,T1,⟨rfl,O1,?_⟩,L1⟩;rw[Ji j];simp[b,Ne.symm d]
 .have hge:len<=i:=by simpa using e
  repeat refine⟨rfl,?_⟩
  refine⟨?_,rfl⟩;have:l.take i=l:=take_of_length_le (by rw[g.1];exact hge);rw[this]at b;simp[b]
end Go.Proofs
namespace Go.Proofs
open Go.TM Go.ChangeShapes Go.WideShapes Go.RowKit
section
variable{H:Type}{enc:TypeId×Value->H}{W:World}{fuel:Nat}{x:DataW H×List MemPlace}{v:Value}{cs:List Value}
def Q0h{k:IntKind}{t:TypeId}{m:Nat}(f:Tryz.prog.underlying t=some (.int k))(b:k.min=0)(e:k.max=(m:Int))(h:JZ enc Tryz.prog W fuel t cs=some x):∃u:Nat,cs=[.int k u]/\u<=m:=by
 obtain⟨n,d,-,a⟩:=DataW.trod_int f h;simp only[Lit.wf,Bool.and_eq_true,decide_eq_true_eq]at a;rw[b,e]at a;obtain⟨u,rfl⟩:=Int.eq_ofNat_of_zero_le a.1;exact⟨u,d,O1⟩
def Q0j(h:JZ enc Tryz.prog W fuel 5 [v]=some x):∃u:Nat,v=.int .u8 u/\u<256:=by
 obtain⟨u,a,b⟩:=Q0h (m:=255) Zpm D1 D1 h;exact⟨u,by simpa using a,O1⟩
end
end Go.Proofs

noncomputable section
namespace Go.Proofs
open Go.TM
noncomputable def Qvv:C:=(.seq (.reg [.d 2 (.box 25 (.t 0)),.xb 4 false])
 (.seq (.seq (.reg [.xd 18 2 2,.d 19 (.call (.func 32) #[(.t 18)]),.xt 20 19,.m 21 20,.yo 22 21 false 1 2,.yl 23 21 false 22,.yn 24 21 false 23,.yk 25 21 false .eql 24 0,.xq 26 21 25])
 (.ite (.t 26) (.seq (.reg [.d 27 (.call (.func 20) #[]),.m 4 27])
 .ret) .skip))
 (.seq (.reg [.xo 28 1 2,.xl 29 28,.xn 30 29,.m 5 30])
 (.seq (.reg [.m 31 1,.d 32 (.conv .i64 (.t 31)),.m 33 5,.d 34 (.ar .rem (.t 32) (.t 33)),.m 6 34])
 (.seq (.reg [.xd 35 2 2,.d 7 (.alloc 25 #[(.slice none 0 0),(.slice none 0 0)]),⟨.st 2 (.t 7) (.t 35),none,none,none⟩])
 (.seq (.cd 135 (Gl Tryz.f8 6))
 (.seq (.seq (.reg [.xv 8 0])
 (.block 0 (.loop (.seq (.seq (.reg [.m 48 8,.m 49 5,.xc 50 .lss 48 49])
 (.ite (.t 50) .skip (.exit 0)))
 (.seq (.block 1 (.seq (.reg [.xs 9])
 (.seq (.seq (.reg [.xv 10 0])
 (.block 2 (.loop (.seq (.seq (.reg [.m 53 10,.m 54 5,.xc 55 .lss 53 54])
 (.ite (.t 55) .skip (.exit 2)))
 (.seq (.block 3 (.seq (.drw [(0,.xo 58 1 7),(0,.xl 59 58),(0,.m 60 8),(0,.xi 61 4 59 60),(0,.xo 62 3 61),(0,.xl 63 62),(0,.m 64 10),(0,.m 65 6),(0,.d 66 (.add (.t 64) (.t 65))),(0,.m 67 5),(0,.d 68 (.ar .rem (.t 66) (.t 67)))] [.d 69 (.call (.func 38) #[(.t 63),(.t 68)])])
 (.ite (.t 69) (.reg [.m 70 9,.m 71 10,.d 72 (.bsl 3 1 #[(.int .i64 0)] [(0,1,(.t 71))]),.xz 73 70 72 26,.m 9 73]) .skip)))
 (.reg [.m 56 10,.xa 57 56,.m 10 57]))))))
 (.reg [.xo 74 1 7,.xl 75 74,.m 76 8,.m 77 9,.xi 78 4 75 76,.xo 79 3 78,⟨.st 1 (.t 79) (.t 77),none,none,none⟩]))))
 (.reg [.m 51 8,.xa 52 51,.m 8 52]))))))
 (.seq (.reg [.xd 81 2 2,.d 82 (.call (.func 26) #[(.t 81)]),.m 80 82,.xe 83 80 0,.xe 84 80 1,.xe 85 80 2,.m 11 83,.m 12 84,.m 13 85])
 (.seq (.reg [.xd 87 2 7,.d 88 (.call (.func 26) #[(.t 87)]),.m 86 88,.xe 89 86 0,.xe 90 86 1,.xe 91 86 2,.m 14 89,.m 15 90,.m 16 91])
 (.seq (.seq (.reg [.m 92 13,.xk 93 .neq 92 0,.m 94 93,.ym 95 94 false 16,.yk 96 94 false .neq 95 0,.xq 97 94 96,.m 98 97,.ym 99 98 false 11,.ym 100 98 false 14,.u 101 98 false (.call (.func 28) #[(.t 99),(.t 100)]),.u 102 98 false (.not (.t 101)),.xq 103 98 102,.m 104 103,.ym 105 104 false 15,.yn 106 104 false 105,.ym 107 104 false 5,.u 108 104 false (.cmp .neq (.t 106) (.t 107)),.xq 109 104 108,.m 110 109,.ym 111 110 false 12,.yn 112 110 false 111,.ym 113 110 false 5,.u 114 110 false (.cmp .neq (.t 112) (.t 113)),.xq 115 110 114])
 (.ite (.t 115) (.seq (.reg [.xb 4 false])
 .ret) .skip))
 (.seq (.seq (.reg [.xv 17 0])
 (.block 4 (.loop (.seq (.seq (.reg [.m 116 17,.m 117 5,.xc 118 .lss 116 117])
 (.ite (.t 118) .skip (.exit 4)))
 (.seq (.block 5 (.seq (.drw [(0,.m 121 15),(0,.m 122 17),(0,.xi 123 1 121 122),(0,.xl 124 123),(0,.m 125 12),(0,.m 126 17),(0,.m 127 6),(0,.d 128 (.add (.t 126) (.t 127))),(0,.m 129 5),(0,.d 130 (.ar .rem (.t 128) (.t 129))),(0,.xi 131 1 125 130),(0,.xl 132 131)] [.xc 133 .neq 124 132])
 (.ite (.t 133) (.seq (.reg [.xb 4 false])
 .ret) .skip)))
 (.reg [.m 119 17,.xa 120 119,.m 17 120]))))))
 (.seq (.reg [.d 134 (.call (.func 20) #[]),.m 4 134])
 .ret))))))))))))
def Qvy:Zf Tryz.prog 8 135 Qvv [.t 4]:=.o [1006] [69] Tryz.func8 K1
end Go.Proofs
end

namespace Go.TM
variable{b:Bk}
def Bk.okTo(b:Bk):List Nat->List Nat->Bool
 |_,[]=>true
 |p,i::q=>decide (i<b.cs.length)&&b.can p i&&b.okTo (p++[i]) q
def Bk.mem_ords:∀(k:Nat)(p o:List Nat),o∈b.ords k p↔∃q,o=p++q/\q.length=k/\b.okTo p q=true
 |0,p,o=>by
  simp only[Bk.ords,mem_singleton];constructor
  .rintro rfl;exact⟨[],S1,rfl,rfl⟩
  .rintro⟨q,rfl,a,-⟩;rw[length_eq_zero_iff]at a;simp[a]
 |k+1,p,o=>by
  simp only[Bk.ords,mem_flatMap,mem_range];constructor
  .rintro⟨i,hi,ho⟩;split at ho
   .rename_i hc;obtain⟨q,rfl,a,d⟩:=(Bk.mem_ords k (p++[i]) o).1 ho;exact⟨i::q,S1,by simp[a],by simp[Bk.okTo,hi,hc,d]⟩
   .cases ho
  .rintro⟨q,rfl,a,d⟩;cases q with
   |nil=>cases a
   |cons i q=>
    simp only[Bk.okTo,Bool.and_eq_true,decide_eq_true_eq]at d;refine⟨i,d.1.1,?_⟩;rw[if_pos d.1.2];exact(Bk.mem_ords k (p++[i]) _).2 ⟨q,S1,by simpa using a,d.2⟩
def Bk.mem_all{o:List Nat}:o∈b.all↔o.length=b.cs.length/\b.okTo [] o=true:=by
 unfold Bk.all;rw[Bk.mem_ords];constructor
 .rintro⟨q,rfl,hq,hk⟩;exact⟨hq,hk⟩
 .rintro⟨h1,h2⟩;exact⟨o,rfl,h1,h2⟩
def Bk.okTo_iff:∀(q p:List Nat),b.okTo p q=true↔∀X i Y,q=X++i::Y->i<b.cs.length/\b.can (p++X) i=true
 |[],p=>by simp[Bk.okTo]
 |i::q,p=>by
  simp only[Bk.okTo,Bool.and_eq_true,decide_eq_true_eq];rw[Bk.okTo_iff q (p++[i])];constructor
  .rintro⟨⟨h1,h2⟩,h3⟩ X j Y e;cases X with
   |nil=>
    simp only[nil_append,List.cons.injEq]at e;obtain⟨rfl,rfl⟩:=e;simpa using⟨h1,h2⟩
   |cons x X=>
    simp only[cons_append,List.cons.injEq]at e;obtain⟨rfl,rfl⟩:=e;have:=h3 X j Y rfl;simpa using this
  .intro h;refine⟨by simpa using h [] i q rfl,λ X j Y e=>?_⟩;have:=h (i::X) j Y (by simp[e]);simpa using this
def Bk.can_iff{o:List Nat}{i:Nat}:b.can o i=true↔i∉o/\∀k∈Je b.A i,k∈o:=by
 simp[Bk.can]
structure Bk.Ord(b:Bk)(o:List Nat):Prop where
 len:o.length=b.cs.length
 low:∀i∈o,i<b.cs.length
 nod:o.Nodup
 aft:∀X i Y,o=X++i::Y->∀k∈Je b.A i,k∈X
def Qjj:∀{o:List Nat},(∀X i Y,o=X++i::Y->i∉X)->o.Nodup:=by
 intro o h;rw[nodup_iff_pairwise_ne,pairwise_iff_getElem];intro i j b d a e;refine h (o.take j) o[j] (o.drop (j+1)) (by rw[getElem_cons_drop,take_append_drop]) ?_;rw[<- e,mem_take_iff_getElem];exact⟨i,O1,rfl⟩
def Bk.mem_all_iff{o:List Nat}:o∈b.all↔b.Ord o:=by
 rw[Bk.mem_all,Bk.okTo_iff];simp only[nil_append];constructor
 .rintro⟨h1,h2⟩;refine⟨h1,λ i d=>?_,Qjj λ X i Y e=>(Bk.can_iff.1 (h2 X i Y e).2).1,λ X i Y e=>(Bk.can_iff.1 (h2 X i Y e).2).2⟩;obtain⟨X,Y,e⟩:=append_of_mem d;exact(h2 X i Y e).1
 .intro h;refine⟨h.len,λ X i Y e=>⟨h.low i (by rw[e];simp),Bk.can_iff.2 ⟨λ f=>?_,h.aft X i Y e⟩⟩⟩;have a:=h.nod;rw[e]at a;exact(nodup_append.1 a).2.2 i f i (mem_cons_self ..) rfl
def Qzk{n:Nat}{l:List Nat}(h:∀i,i<n->i∈l):n<=l.length:=by
 have a:∀(n:Nat)(l:List Nat),(∀i,i<n->i∈l)->n<=l.length:=by
  intro n
  induction n with
  |zero=>intro l _;exact Nat.zero_le _
  |succ n b=>
   intro l h;obtain⟨X,Y,e⟩:=append_of_mem (h n O1)
   have:=b (X++Y) λ i d=>by
    have:=h i O1;rw[e]at this;simp only[mem_append,mem_cons]at this ⊢;rcases this with h|h|h
    .exact .inl h
    .omega
    .exact .inr h
   rw[e];simp at this ⊢;omega
 exact a n l h
def Bk.A_n(b:Bk):b.A.length=b.cs.length:=by simp[Bk.A]
def Bk.Ok.ord{b:Bk}(h:b.Ok):∃o,b.Ord o:=by
 obtain⟨L,d,a⟩:=DM h.lo;rw[b.A_n]at a;refine⟨L.reverse,?_,λ i f=>by rw[<- b.A_n];exact d.low i (by simpa using f),(by unfold Nodup;rw[pairwise_reverse];exact d.nod.imp Ne.symm),λ X i Y e k g=>?_⟩
 .rw[length_reverse];have l:=H7 d.nod (n:=b.cs.length) λ x j=>by rw[<- b.A_n];exact d.low x j
  have m:=Qzk a;omega
 .have e':L=Y.reverse++i::X.reverse:=by
   rw[<- reverse_reverse L,e];simp
  have:=d.aft _ _ _ e' k g;simpa using this
def Bk.Ord.has{b:Bk}{o:List Nat}(h:b.Ord o){i:Nat}(e:i<b.cs.length):i∈o:=by
 apply Classical.byContradiction;intro f;have d:(i::o).Nodup:=nodup_cons.2 ⟨f,h.nod⟩
 have:=H7 d (n:=b.cs.length) λ x a=>by
  rcases mem_cons.1 a with rfl|a
  .exact e
  .exact h.low x a
 rw[length_cons,h.len]at this;omega
def Bk.Ok.all_pos{b:Bk}(h:b.Ok):0<b.all.length:=by
 obtain⟨o,a⟩:=h.ord;exact length_pos_of_mem (Bk.mem_all_iff.2 a)
def Bk.stp_len(b:Bk)(x:List Bool×List Bool)(i:Nat):(b.stp x i).1.length=x.1.length/\(b.stp x i).2.length=x.2.length:=by
 unfold Bk.stp;split <;> simp
def Bk.end_len(b:Bk)(o:List Nat):(b.ends o).1.length=b.rs.length/\(b.ends o).2.length=b.cs.length:=by
 have a:∀(o:List Nat)(x:List Bool×List Bool),(o.foldl b.stp x).1.length=x.1.length/\(o.foldl b.stp x).2.length=x.2.length:=by
  intro o
  induction o with
  |nil=>exact λ x=>⟨rfl,rfl⟩
  |cons i o f=>
   intro x;have d:=f (b.stp x i);have e:=b.stp_len x i;exact⟨d.1.trans e.1,d.2.trans e.2⟩
 have:=a o b.ini;simpa[Bk.ends,Bk.ini]using this
def Qga{l:List Bool}{i j:Nat}{v:Bool}:(l.set i v).getD j false=if i=j/\i<l.length then v else l.getD j false:=by
 simp only[getD_eq_getElem?_getD,getElem?_set];by_cases e:i=j
 .subst e;by_cases h:i<l.length
  .simp[h]
  .simp[h]
 .simp[e]
def Bk.Ord.split{b:Bk}{o:List Nat}(h:b.Ord o){i:Nat}(a:i<b.cs.length):∃X Y,o=X++i::Y:=append_of_mem (h.has a)
def Qlg{a all:Nat}:H9 a all=1↔a=all:=by
 unfold H9;split
 .rename_i h;simp[h]
 .rename_i h;split
  .simp[h]
  .simp[h]
def Qoa{a all:Nat}(b:0<all):H9 a all=2↔a=0:=by
 unfold H9;split
 .rename_i h;constructor
  .intro x;cases x
  .intro x;omega
 .split
  .rename_i h;simp[h]
  .rename_i h;simp[h]
def Qae(a all:Nat):H9 a all=0\/H9 a all=1\/H9 a all=2:=by
 unfold H9;split
 .exact .inr (.inl rfl)
 .split
  .exact .inr (.inr rfl)
  .exact .inl rfl
def Bk.fatC_one(b:Bk){i:Nat}:b.fatC i=1↔∀o,b.Ord o->(b.ends o).2.getD i false=true:=by
 unfold Bk.fatC;rw[Qlg,countP_eq_length];exact⟨λ h o a=>h o (Bk.mem_all_iff.2 a),λ h o a=>h o (Bk.mem_all_iff.1 a)⟩
def Bk.fatR_one(b:Bk){i:Nat}:b.fatR i=1↔∀o,b.Ord o->(b.ends o).1.getD i false=true:=by
 unfold Bk.fatR;rw[Qlg,countP_eq_length];exact⟨λ h o a=>h o (Bk.mem_all_iff.2 a),λ h o a=>h o (Bk.mem_all_iff.1 a)⟩
def Bk.fatC_two(b:Bk)(h:b.Ok){i:Nat}:b.fatC i=2↔∀o,b.Ord o->(b.ends o).2.getD i false=false:=by
 unfold Bk.fatC;rw[Qoa h.all_pos,countP_eq_zero];exact⟨λ h o a=>by simpa using h o (Bk.mem_all_iff.2 a),λ h o a=>by simpa using h o (Bk.mem_all_iff.1 a)⟩
def Bk.fatR_two(b:Bk)(h:b.Ok){i:Nat}:b.fatR i=2↔∀o,b.Ord o->(b.ends o).1.getD i false=false:=by
 unfold Bk.fatR;rw[Qoa h.all_pos,countP_eq_zero];exact⟨λ h o a=>by simpa using h o (Bk.mem_all_iff.2 a),λ h o a=>by simpa using h o (Bk.mem_all_iff.1 a)⟩
structure Bk.Beg(b:Bk)(o:List Nat):Prop where
 low:∀i∈o,i<b.cs.length
 nod:o.Nodup
 aft:∀X i Y,o=X++i::Y->∀k∈Je b.A i,k∈X
def Bk.Beg.nil:b.Beg []:=⟨S1,.nil,λ X i Y e=>by cases X <;> cases e⟩
def Bk.Beg.le{o:List Nat}(h:b.Beg o):o.length<=b.cs.length:=H7 h.nod h.low
def Bk.Ord.flaw{o:List Nat}(h:b.Ord o):b.ordF (o.map λ(k:Nat)=>(k:Int))=0:=by
 have d:∀(q p:List Nat),o=p++q->b.ordL p (q.map λ(k:Nat)=>(k:Int))=0:=by
  intro q
  induction q with
  |nil=>intro p _;rfl
  |cons i q m=>
   intro p e;have n:i<b.cs.length:=h.low i (by rw[e];simp);have f:=h.nod;rw[e,nodup_append]at f;have a:i∉p:=λ l=>f.2.2 i l i (mem_cons_self ..) rfl;have g:=h.aft p i q e;show(if Go.TM.btw (i:Int) 0 (b.nc-1)then(if(i:Int).toNat∈p then 5 else if(Je b.A (i:Int).toNat).all (λ k=>p.contains k)then b.ordL (p++[(i:Int).toNat]) (q.map λ(k:Nat)=>(k:Int))else 7)else 6)=0;rw[if_pos (by unfold Bk.nc;simp[btw];omega),Int.toNat_natCast,if_neg a,if_pos (by rw[all_eq_true];intro k j;simpa using g k j)];exact m (p++[i]) (by rw[e];simp)
 unfold Bk.ordF;rw[if_neg (by rw[length_map,h.len];simp)];exact d o [] rfl
end Go.TM
namespace Go.TM
variable{b o:Bk}
structure Bk.Turn(b o:Bk)(p q:Nat->Nat):Prop where
 rs:o.rs=b.rs
 n:o.cs.length=b.cs.length
 pl:∀i,i<b.cs.length->p i<b.cs.length
 ql:∀i,i<b.cs.length->q i<b.cs.length
 qp:∀i,i<b.cs.length->q (p i)=i
 pq:∀i,i<b.cs.length->p (q i)=i
 nm:∀i,i<b.cs.length->(o.cas i).nm=(b.cas (p i)).nm
 ag:∀i,i<b.cs.length->(o.cas i).ag=(b.cas (p i)).ag
 gs:∀i,i<b.cs.length->(o.cas i).gs=(b.cas (p i)).gs
 af:∀i,i<b.cs.length->∀k,k<b.cs.length->(k∈Je o.A i↔p k∈Je b.A (p i))
def Bk.Turn.symm{p q:Nat->Nat}(h:b.Turn o p q):o.Turn b q p:=by
 have a:=h.n;refine⟨h.rs.symm,h.n.symm,?_,?_,?_,?_,?_,?_,?_,?_⟩ <;> rw[a]
 .exact h.ql
 .exact h.pl
 .exact h.pq
 .exact h.qp
 .intro i hi;rw[h.nm _ (h.ql i hi),h.pq i hi]
 .intro i hi;rw[h.ag _ (h.ql i hi),h.pq i hi]
 .intro i hi;rw[h.gs _ (h.ql i hi),h.pq i hi]
 .intro i hi k hk;rw[h.af _ (h.ql i hi) _ (h.ql k hk),h.pq i hi,h.pq k hk]
def Bk.Turn.ends{p q:Nat->Nat}(h:b.Turn o p q):∀(n:Nat)(l:List Nat),l.length=n->(∀i∈l,i<b.cs.length)->(o.ends l).1=(b.ends (l.map p)).1/\∀i,i<b.cs.length->(o.ends l).2.getD i false=(b.ends (l.map p)).2.getD (p i) false:=by
 intro n
 induction n with
 |zero=>
  intro l g _;rw[length_eq_zero_iff]at g;subst g;refine⟨by simp[Bk.ends,Bk.ini,h.rs],λ i a=>?_⟩;simp[Bk.ends,Bk.ini,getD_eq_getElem?_getD,getElem?_replicate,h.n,a,h.pl i a]
 |succ n w=>
  intro l g d
  obtain⟨f,i,rfl⟩:∃f i,l=f++[i]:=by
   rcases eq_nil_or_concat l with e|⟨q,i,e⟩
   .rw[e]at g;cases g
   .exact⟨q,i,by simpa using e⟩
  obtain⟨t,u⟩:=w f (by simpa using g) λ j m=>d j (by simp[m]);have a:=d i S1;rw[map_append,map_singleton,o.ends_snoc,b.ends_snoc];unfold Bk.stp;rw[h.gs i a,h.ag i a,t];by_cases s:Iq (b.cas (p i)).gs (b.ends (f.map p)).1=true
  .rw[if_pos s,if_pos s];refine⟨rfl,λ j m=>?_⟩;show((o.ends f).2.set i true).getD j false=((b.ends (f.map p)).2.set (p i) true).getD (p j) false;rw[Qga,Qga,(o.end_len f).2,(b.end_len _).2,h.n,u j m];by_cases e:i=j
   .subst e;simp[a,h.pl i a]
   .have:p i≠p j:=λ v=>e (by rw[<- h.qp i a,v,h.qp j m]);simp[e,this]
  .rw[if_neg s,if_neg s];exact⟨t,u⟩
def Bk.Turn.ord{p q:Nat->Nat}(s:b.Ok)(h:b.Turn o p q){l:List Nat}(g:o.Ord l):b.Ord (l.map p):=by
 have a:∀i∈l,i<b.cs.length:=λ i f=>h.n▸g.low i f;refine⟨by rw[length_map,g.len,h.n],λ i f=>?_,?_,λ X j Y e k t=>?_⟩
 .obtain⟨j,hj,rfl⟩:=mem_map.1 f;exact h.pl j (a j hj)
 .refine pairwise_map.2 (g.nod.imp_of_mem λ{x y}v w m e=>m ?_);rw[<- h.qp x (a x v),e,h.qp y (a y w)]
 .obtain⟨X',l',rfl,rfl,e2⟩:=map_eq_append_iff.1 e;obtain⟨i,u,rfl,rfl,rfl⟩:=map_eq_cons_iff.1 e2;have f:=a i S1
  have d:k<b.cs.length:=by
   have:=s.low (p i) (by rw[b.A_n];exact h.pl i f) k t
   rwa [b.A_n]at this
  refine mem_map.2 ⟨q k,g.aft X' i u rfl (q k) ?_,h.pq k d⟩;rw[h.af i f (q k) (h.ql k d),h.pq k d];exact t
def Bk.Turn.sayR{p q:Nat->Nat}(d:b.Ok)(e:o.Ok)(h:b.Turn o p q)(r:Nat):o.fatR r=b.fatR r:=by
 have m:o.fatR r=1↔b.fatR r=1:=by
  rw[Bk.fatR_one,Bk.fatR_one];constructor
  .intro hh l hl;have f:=h.symm.ord e hl;rw[<- (h.symm.ends l.length l rfl λ i a=>by rw[h.n];exact hl.low i a).1.symm];exact hh _ f
  .intro hh l hl;rw[(h.ends l.length l rfl λ i a=>h.n▸hl.low i a).1];exact hh _ (h.ord d hl)
 have s:o.fatR r=2↔b.fatR r=2:=by
  rw[o.fatR_two e,b.fatR_two d];constructor
  .intro hh l hl;have f:=h.symm.ord e hl;rw[<- (h.symm.ends l.length l rfl λ i a=>by rw[h.n];exact hl.low i a).1.symm];exact hh _ f
  .intro hh l hl;rw[(h.ends l.length l rfl λ i a=>h.n▸hl.low i a).1];exact hh _ (h.ord d hl)
 have g:o.fatR r=0\/o.fatR r=1\/o.fatR r=2:=Qae _ _;have j:b.fatR r=0\/b.fatR r=1\/b.fatR r=2:=Qae _ _;omega
def Bk.Turn.sayC{p q:Nat->Nat}(j:b.Ok)(m:o.Ok)(h:b.Turn o p q){i:Nat}(g:i<b.cs.length):o.fatC i=b.fatC (p i):=by
 have e:∀l,b.Ord l->(b.ends l).2.getD (p i) false=(o.ends (l.map q)).2.getD i false:=λ l a=>by
  have:=(h.symm.ends l.length l rfl λ i g=>by rw[h.n];exact a.low i g).2 (p i) (by rw[h.n];exact h.pl i g);rw[this,h.qp i g]
 have d:∀l,o.Ord l->(o.ends l).2.getD i false=(b.ends (l.map p)).2.getD (p i) false:=λ l a=>(h.ends l.length l rfl λ i g=>h.n▸a.low i g).2 i g
 have u:o.fatC i=1↔b.fatC (p i)=1:=by
  rw[Bk.fatC_one,Bk.fatC_one];exact⟨λ f l a=>by rw[e l a];exact f _ (h.symm.ord m a),λ f l a=>by rw[d l a];exact f _ (h.ord j a)⟩
 have v:o.fatC i=2↔b.fatC (p i)=2:=by
  rw[o.fatC_two m,b.fatC_two j];exact⟨λ f l a=>by rw[e l a];exact f _ (h.symm.ord m a),λ f l a=>by rw[d l a];exact f _ (h.ord j a)⟩
 have s:o.fatC i=0\/o.fatC i=1\/o.fatC i=2:=Qae _ _;have t:b.fatC (p i)=0\/b.fatC (p i)=1\/b.fatC (p i)=2:=Qae _ _;omega
def Qdg{nameB:ByteArray->Bool}{nr nc:Int}:∀{l:List Cs}{seen:List ByteArray},WC nameB nr nc seen l=0 ↔
  (∀c∈l,nameB c.nm=true/\btw c.ag 0 (nr-1)=true/\ZX nr c.gs=0/\J1 nc none c.af=0/\c.nm∉seen)/\(l.map (·.nm)).Nodup
 |[],seen=>by simp[WC]
 |c::l,seen=>by
  have t:=Qdg (nameB:=nameB) (nr:=nr) (nc:=nc) (l:=l) (seen:=seen++[c.nm]);simp only[WC,mem_cons,map_cons,nodup_cons,forall_eq_or_imp];by_cases g:nameB c.nm=true
  .by_cases h2:QR seen c.nm=true
   .rw[if_pos g,if_pos h2];have:=xL.1 h2;simp[this]
   .have h2':c.nm∉seen:=λ h=>h2 (xL.2 h);rw[if_pos g,if_neg h2];by_cases b:btw c.ag 0 (nr-1)=true
    .by_cases h4:ZX nr c.gs=0
     .by_cases h5:J1 nc none c.af=0
      .rw[if_pos b,if_pos h4,if_pos h5,t];simp only[g,h2',b,h4,h5,true_and,not_false_iff];constructor
       .rintro⟨a1,a2⟩;refine⟨λ d f=>?_,λ s=>?_,a2⟩
        .obtain⟨j,m,n,o,q⟩:=a1 d f;exact⟨j,m,n,o,λ a=>q (by simp[a])⟩
        .obtain⟨d,f,e⟩:=mem_map.1 s;exact(a1 d f).2.2.2.2 (by simp[e])
       .rintro⟨a1,a2,a3⟩;refine⟨λ d f=>?_,a3⟩;obtain⟨j,m,n,o,q⟩:=a1 d f;refine⟨j,m,n,o,λ a=>?_⟩;rcases mem_append.1 a with a|a
        .exact q a
        .simp at a;exact a2 (mem_map.2 ⟨d,f,a⟩)
      .rw[if_pos b,if_pos h4,if_neg h5];simp[h5]
     .rw[if_pos b,if_neg h4];simp[h4]
    .rw[if_neg b];simp[b]
  .rw[if_neg g];simp[g]
def Bk.cas_ex{c:Cs}(h:c∈b.cs):∃i,i<b.cs.length/\b.cas i=c:=by
 obtain⟨i,a,e⟩:=mem_iff_getElem.1 h;exact⟨i,a,by simp[Bk.cas,getD_eq_getElem?_getD,a,e]⟩
def Bk.mem_cas{i:Nat}(a:i<b.cs.length):b.cas i∈b.cs:=by
 unfold Bk.cas;rw[getD_eq_getElem?_getD,getElem?_eq_getElem a];exact getElem_mem a
def Bk.Turn.flaw{nameB:ByteArray->Bool}{p q:Nat->Nat}(l:b.flaw nameB=0)(h:b.Turn o p q)(s:∀i,i<b.cs.length->J1 b.nc none (o.cas i).af=0):o.flaw nameB=0:=by
 have z:=Bk.ok_of l
 have f:∀i,i<o.A.length->∀k∈Je o.A i,k<o.A.length:=λ i a k d=>by
  rw[o.A_n]at a ⊢;have e:Je o.A i=(o.cas i).af.map Int.toNat:=by simp[Je,Bk.A,Bk.cas,getD_eq_getElem?_getD,a]
  rw[e]at d;obtain⟨n,K,rfl⟩:=mem_map.1 d;have:=Yk (s i (h.n▸a)) n K;rw[h.n];unfold Bk.nc at this;omega
 have H:Wq o.A=false:=by
  obtain⟨ρ,L⟩:=wS z.lo;refine qq f (λ i=>ρ (p i)) λ i a k d=>?_;have m:=f i a k d;rw[o.A_n,h.n]at a m;exact L (p i) (by rw[b.A_n];exact h.pl i a) (p k) ((h.af i a k m).1 d)
 unfold Bk.flaw at l ⊢;have B:o.rsF nameB=b.rsF nameB:=by unfold Bk.rsF;rw[h.rs]
 rw[B];split at l
 .rename_i h1;rw[if_pos h1];split at l
  .rename_i h2
   have u:o.csF nameB=0:=by
    unfold Bk.csF at h2 ⊢;rw[h.n];split at h2
    .cases h2
    .rename_i h5;rw[if_neg h5,Qdg];obtain⟨D,t⟩:=Qdg.1 h2;have y:o.nr=b.nr:=by unfold Bk.nr;rw[h.rs]
     have w:o.nc=b.nc:=by unfold Bk.nc;rw[h.n]
     rw[y,w];refine⟨λ c I=>?_,?_⟩
     .obtain⟨i,a,rfl⟩:=Bk.cas_ex I;rw[h.n]at a;obtain⟨M,N,O,-,-⟩:=D _ (Bk.mem_cas (h.pl i a));rw[h.nm i a,h.ag i a,h.gs i a];exact⟨M,N,O,s i a,S1⟩
     .rw[nodup_iff_pairwise_ne,pairwise_iff_getElem]at t ⊢;simp only[length_map,getElem_map]at t ⊢;intro i j a g J e;have F:(o.cas i).nm=(o.cs[i]).nm:=by simp[Bk.cas,getD_eq_getElem?_getD,a]
      have G:(o.cas j).nm=(o.cs[j]).nm:=by simp[Bk.cas,getD_eq_getElem?_getD,g]
      rw[<- F,<- G]at e;rw[h.n]at a g;rw[h.nm i a,h.nm j g]at e
      have x:p i≠p j:=λ E=>by
       have:=h.qp i a;rw[E,h.qp j g]at this;omega
      have C:∀k(d:k<b.cs.length),b.cas k=b.cs[k]:=λ k d=>by simp[Bk.cas,getD_eq_getElem?_getD,d]
      rw[C _ (h.pl i a),C _ (h.pl j g)]at e;rcases Nat.lt_or_gt_of_ne x with v|v
      .exact t (p i) (p j) (h.pl i a) (h.pl j g) v e
      .exact t (p j) (p i) (h.pl j g) (h.pl i a) v e.symm
   rw[if_pos u,if_neg (by simp[H])]
  .rename_i h2;exact absurd l h2
 .rename_i h1;exact absurd l h1
def Bk.rotAf(b:Bk)(t i:Nat):List Int:=((range b.cs.length).filter λ k=>(b.cas ((i+t) % b.cs.length)).af.contains (((k+t) % b.cs.length:Nat):Int)).map λ(k:Nat)=>(k:Int)
def Bk.rot(b:Bk)(t:Nat):Bk:=⟨b.rs,(range b.cs.length).map λ i=>{ b.cas ((i+t) % b.cs.length)with af:=b.rotAf t i }⟩
def Qpj{n t i:Nat}(j:t<n)(g:i<n):((i+t) % n+(n-t)) % n=i/\((i+(n-t)) % n+t) % n=i:=by
 have a:∀x,x<n->x % n=x:=λ x e=>Nat.mod_eq_of_lt e;have b:∀x,n<=x->x<2*n->x % n=x-n:=λ x d f=>by rw[Nat.mod_eq_sub_mod d,Nat.mod_eq_of_lt O1]
 constructor
 .by_cases h:i+t<n
  .rw[a (i+t) h,b (i+t+(n-t)) O1 O1];omega
  .rw[b (i+t) O1 O1,a (i+t-n+(n-t)) O1];omega
 .by_cases h:i+(n-t)<n
  .rw[a (i+(n-t)) h,b (i+(n-t)+t) O1 O1];omega
  .rw[b (i+(n-t)) O1 O1,a (i+(n-t)-n+t) O1];omega
def Bk.rot_cas(b:Bk)(t:Nat){i:Nat}(a:i<b.cs.length):(b.rot t).cas i={ b.cas ((i+t) % b.cs.length)with af:=b.rotAf t i }:=by
 simp[Bk.rot,Bk.cas,getD_eq_getElem?_getD,a]
def Bk.rot_turn(f:b.Ok){t:Nat}(h:t<b.cs.length):b.Turn (b.rot t) (λ i=>(i+t) % b.cs.length) (λ i=>(i+(b.cs.length-t)) % b.cs.length):=by
 have g:(b.rot t).cs.length=b.cs.length:=by simp[Bk.rot]
 have d:∀x,x % b.cs.length<b.cs.length:=λ x=>Nat.mod_lt _ O1;refine⟨rfl,g,λ _ _=>d _,λ _ _=>d _,λ i a=>(Qpj h a).1,λ i a=>(Qpj h a).2,λ i a=>by rw[b.rot_cas t a],λ i a=>by rw[b.rot_cas t a],λ i a=>by rw[b.rot_cas t a],λ i a k m=>?_⟩;have e:Je (b.rot t).A i=((b.rot t).cas i).af.map Int.toNat:=by simp[Je,Bk.A,Bk.cas,getD_eq_getElem?_getD,g,a]
 have j:Je b.A ((i+t) % b.cs.length)=(b.cas ((i+t) % b.cs.length)).af.map Int.toNat:=by simp[Je,Bk.A,Bk.cas,getD_eq_getElem?_getD,d]
 rw[e,j,b.rot_cas t a];simp only[Bk.rotAf,map_map,mem_map,mem_filter,mem_range,contains_iff_mem];constructor
 .rintro⟨k',⟨h1,h2⟩,rfl⟩;exact⟨_,h2,rfl⟩
 .rintro⟨n,h1,h2⟩;have l:=(f.af _ (Bk.mem_cas (d _)) n h1).1;refine⟨k,⟨m,?_⟩,rfl⟩;rw[<- h2,Int.toNat_of_nonneg l];exact h1
def Bk.rot_flaw{nameB:ByteArray->Bool}(d:b.flaw nameB=0){t:Nat}(g:t<b.cs.length):(b.rot t).flaw nameB=0:=by
 have a:=Bk.ok_of d;refine(Bk.rot_turn a g).flaw d λ i f=>?_;rw[b.rot_cas t f];refine YE ?_ (λ x e=>?_) S1
 .unfold Bk.rotAf;refine pairwise_map.2 ((pairwise_lt_range.filter _).imp λ h=>O1)
 .simp only[Bk.rotAf,mem_map,mem_filter,mem_range]at e;obtain⟨k,⟨j,-⟩,rfl⟩:=e;unfold Bk.nc;omega
def Bk.rot_says{nameB:ByteArray->Bool}(d:b.flaw nameB=0){t:Nat}(f:t<b.cs.length):(b.rot t).fatesR=b.fatesR/\∀i,i<b.cs.length->(b.rot t).fatC i=b.fatC ((i+t) % b.cs.length):=by
 have a:=Bk.ok_of d;have e:=Bk.ok_of (Bk.rot_flaw d f);have h:=Bk.rot_turn a f;refine⟨?_,λ i g=>h.sayC a e g⟩;unfold Bk.fatesR;rw[h.rs];exact map_congr_left λ r _=>h.sayR a e r
end Go.TM

