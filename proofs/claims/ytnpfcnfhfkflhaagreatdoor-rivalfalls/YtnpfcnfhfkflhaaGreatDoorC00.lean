/- Lemmas. No conditions. -/
import Derived.Test.YtnpfcnfhfkflhaaGreatDoorProg
import Derived.Test.YtnpfcnfhfkflhaaGreatDoorB01
import Derived.Test.YtnpfcnfhfkflhaaGreatDoorB34
import Derived.Test.YtnpfcnfhfkflhaaGreatDoorB42
import Derived.Test.YtnpfcnfhfkflhaaGreatDoorB43
set_option linter.all false
set_option maxRecDepth 100000
noncomputable section
namespace Go.Proofs
open Go.TM
noncomputable def Qqa:C:=(.seq (.reg [.d 1 (.box 25 (.t 0)),.xb 2 false])
 (.seq (.seq (.reg [.xd 13 2 1,.d 14 (.call (.func 32) #[(.t 13)]),.xt 15 14])
 (.ite (.t 15) (.seq (.reg [.d 16 (.call (.func 20) #[]),.m 2 16])
 .ret) .skip))
 (.seq (.reg [.xd 18 2 1,.d 19 (.call (.func 26) #[(.t 18)]),.m 17 19,.xe 20 17 0,.xe 21 17 1,.xe 22 17 2,.m 3 20,.m 4 21,.m 5 22])
 (.seq (.seq (.reg [.m 23 5,.xk 24 .neq 23 0,.m 25 24,.ym 26 25 false 3,.yn 27 25 false 26,.yo 28 25 false 0 1,.yl 29 25 false 28,.yn 30 25 false 29,.u 31 25 false (.cmp .neq (.t 27) (.t 30)),.xq 32 25 31,.m 33 32,.ym 34 33 false 4,.yn 35 33 false 34,.yo 36 33 false 1 1,.yl 37 33 false 36,.yn 38 33 false 37,.u 39 33 false (.cmp .neq (.t 35) (.t 38)),.xq 40 33 39])
 (.ite (.t 40) (.seq (.reg [.xb 2 false])
 .ret) .skip))
 (.seq (.cd 173 (Gl Tryz.f9 6))
 (.seq (.seq (.reg [.xv 8 0])
 (.block 0 (.loop (.seq (.seq (.reg [.m 47 8,.m 48 4,.xn 49 48,.xc 50 .lss 47 49])
 (.ite (.t 50) .skip (.exit 0)))
 (.seq (.block 1 (.seq (.reg [.xo 53 1 1,.xl 54 53,.m 55 8,.xi 56 4 54 55,.xd 57 4 56,.d 9 (.alloc 49 #[(.string ⟨#[]⟩),(.int .i64 0),(.slice none 0 0),(.slice none 0 0)]),⟨.st 4 (.t 9) (.t 57),none,none,none⟩])
 (.seq (.reg [.xb 10 false])
 (.seq (.seq (.reg [.xv 11 0])
 (.block 2 (.loop (.seq (.seq (.reg [.m 58 11,.xo 59 2 9,.xl 60 59,.xn 61 60,.xc 62 .lss 58 61])
 (.ite (.t 62) .skip (.exit 2)))
 (.seq (.block 3 (.reg [.m 65 10,.m 66 65,.yo 67 66 false 2 9,.yl 68 66 false 67,.ym 69 66 false 11,.yi 70 66 false 1 68 69,.yl 71 66 false 70,.yn 72 66 false 71,.yk 73 66 false .eql 72 0,.xq 74 66 73,.m 10 74]))
 (.reg [.m 63 11,.xa 64 63,.m 11 64]))))))
 (.seq (.seq (.reg [.m 75 10,.m 76 75,.ym 77 76 true 4,.ym 78 76 true 8,.yi 79 76 true 1 77 78,.yl 80 76 true 79,.yk 81 76 true .neq 80 1,.xp 82 76 81,.m 83 82,.yo 84 83 false 2 9,.yl 85 83 false 84,.yn 86 83 false 85,.yk 87 83 false .eql 86 0,.ym 88 83 false 87,.ym 89 88 true 4,.ym 90 88 true 8,.yi 91 88 true 1 89 90,.yl 92 88 true 91,.yk 93 88 true .neq 92 2,.u 94 83 false (.pick (.t 88) (.t 93) (.cb false)),.xq 95 83 94])
 (.ite (.t 95) (.seq (.reg [.xb 2 false])
 .ret) .skip))
 (.seq (.drw [(0,.m 96 6),(0,.xo 97 1 9),(0,.xl 98 97),(0,.m 99 6),(0,.xo 100 1 9),(0,.xl 101 100),(0,.xi 102 1 99 101),(0,.xl 103 102),(0,.m 104 103),(0,.ym 105 104 false 4),(0,.ym 106 104 false 8),(0,.yi 107 104 false 1 105 106),(0,.yl 108 104 false 107),(0,.yk 109 104 false .eql 108 1),(0,.xq 110 104 109)] [.xi 111 1 96 98,⟨.st 1 (.t 111) (.t 110),none,none,none⟩])
 (.drw [(0,.m 112 7),(0,.xo 113 1 9),(0,.xl 114 113),(0,.m 115 7),(0,.xo 116 1 9),(0,.xl 117 116),(0,.xi 118 1 115 117),(0,.xl 119 118),(0,.m 120 119),(0,.ym 121 120 false 4),(0,.ym 122 120 false 8),(0,.yi 123 120 false 1 121 122),(0,.yl 124 120 false 123),(0,.yk 125 120 false .neq 124 2),(0,.xq 126 120 125)] [.xi 127 1 112 114,⟨.st 1 (.t 127) (.t 126),none,none,none⟩])))))))
 (.reg [.m 51 8,.xa 52 51,.m 8 52]))))))
 (.seq (.seq (.reg [.xv 12 0])
 (.block 4 (.loop (.seq (.seq (.reg [.m 128 12,.m 129 3,.xn 130 129,.xc 131 .lss 128 130])
 (.ite (.t 131) .skip (.exit 4)))
 (.seq (.block 5 (.seq (.reg [.m 134 6,.m 135 12,.xi 136 1 134 135,.xl 137 136,.m 138 137,.ym 139 138 true 3,.ym 140 138 true 12,.yi 141 138 true 1 139 140,.yl 142 138 true 141,.yk 143 138 true .neq 142 2,.xp 144 138 143,.m 145 144,.ym 146 145 false 7,.ym 147 145 false 12,.yi 148 145 false 1 146 147,.yl 149 145 false 148,.u 150 145 false (.not (.t 149)),.ym 151 145 false 150,.ym 152 151 true 3,.ym 153 151 true 12,.yi 154 151 true 1 152 153,.yl 155 151 true 154,.yk 156 151 true .neq 155 1,.u 157 145 false (.pick (.t 151) (.t 156) (.cb false)),.xq 158 145 157,.m 159 158,.ym 160 159 false 7,.ym 161 159 false 12,.yi 162 159 false 1 160 161,.yl 163 159 false 162,.ym 164 159 false 163,.ym 165 164 true 3,.ym 166 164 true 12,.yi 167 164 true 1 165 166,.yl 168 164 true 167,.yk 169 164 true .eql 168 1,.u 170 159 false (.pick (.t 164) (.t 169) (.cb false)),.xq 171 159 170])
 (.ite (.t 171) (.seq (.reg [.xb 2 false])
 .ret) .skip)))
 (.reg [.m 132 12,.xa 133 132,.m 12 133]))))))
 (.seq (.reg [.d 172 (.call (.func 20) #[]),.m 2 172])
 .ret))))))))
def Qvv:Zf Tryz.prog 9 173 Qqa [.t 2]:=.o [] [] Tryz.func9 K1
def Qek:List (List (Nat×St)):=[[(0,.d 41 (.mv (.t 3))),(0,.xn 42 41),(0,.d 44 (.mv (.t 3))),(0,.xn 45 44),(2,.d 43 (.raw { dst:=none,op:=(.makeSlice 29 (.t 42) (.t 42)),type:=29,pos := "", after:=#[],guard:=none })),(0,.d 6 (.mv (.t 43))),(2,.d 46 (.raw { dst:=none,op:=(.makeSlice 29 (.t 45) (.t 45)),type:=29,pos := "", after:=#[],guard:=none }))],
 [(0,.d 41 (.mv (.t 3))),(0,.xn 42 41),(0,.d 44 (.mv (.t 3))),(0,.xn 45 44),(2,.d 46 (.raw { dst:=none,op:=(.makeSlice 29 (.t 45) (.t 45)),type:=29,pos := "", after:=#[],guard:=none })),(2,.d 43 (.raw { dst:=none,op:=(.makeSlice 29 (.t 42) (.t 42)),type:=29,pos := "", after:=#[],guard:=none })),(0,.d 6 (.mv (.t 43)))]]
def Qlg:List St:=[.d 7 (.mv (.t 46))]
end Go.Proofs
end

open List
namespace Go.TM
variable{b:Bk}
def Bk.okTo(b:Bk):List Nat->List Nat->Bool
 |_,[]=>true
 |p,i::q=>decide (i<b.cs.length)&&b.can p i&&b.okTo (p++[i]) q
def Bk.mem_ords:∀(k:Nat)(p o:List Nat),o∈b.ords k p↔∃q,o=p++q/\q.length=k/\b.okTo p q=true
 |0,p,o=>by
  simp only[Bk.ords,mem_singleton];constructor
  .rintro rfl;exact⟨[],S1,rfl,rfl⟩
  .rintro⟨q,rfl,a,-⟩;rw[length_eq_zero_iff]at a;simp[a]
 |k+1,p,o=>by
  simp only[Bk.ords,mem_flatMap,mem_range];constructor
  .rintro⟨i,hi,ho⟩;split at ho
   .rename_i hc;obtain⟨q,rfl,a,c⟩:=(Bk.mem_ords k (p++[i]) o).1 ho;exact⟨i::q,S1,by simp[a],by simp[Bk.okTo,hi,hc,c]⟩
   .cases ho
  .rintro⟨q,rfl,a,c⟩;cases q with
   |nil=>cases a
   |cons i q=>
    simp only[Bk.okTo,Bool.and_eq_true,decide_eq_true_eq]at c;refine⟨i,c.1.1,?_⟩;rw[if_pos c.1.2];exact(Bk.mem_ords k (p++[i]) _).2 ⟨q,S1,by simpa using a,c.2⟩
def Bk.mem_all{o:List Nat}:o∈b.all↔o.length=b.cs.length/\b.okTo [] o=true:=by
 unfold Bk.all;rw[Bk.mem_ords];constructor
 .rintro⟨q,rfl,hq,hk⟩;exact⟨hq,hk⟩
 .rintro⟨h1,h2⟩;exact⟨o,rfl,h1,h2⟩
def Bk.okTo_iff:∀(q p:List Nat),b.okTo p q=true↔∀X i Y,q=X++i::Y->i<b.cs.length/\b.can (p++X) i=true
 |[],p=>by simp[Bk.okTo]
 |i::q,p=>by
  simp only[Bk.okTo,Bool.and_eq_true,decide_eq_true_eq];rw[Bk.okTo_iff q (p++[i])];constructor
  .rintro⟨⟨h1,h2⟩,h3⟩ X j Y e;cases X with
   |nil=>
    simp only[nil_append,List.cons.injEq]at e;obtain⟨rfl,rfl⟩:=e;simpa using⟨h1,h2⟩
   |cons x X=>
    simp only[cons_append,List.cons.injEq]at e;obtain⟨rfl,rfl⟩:=e;have:=h3 X j Y rfl;simpa using this
  .intro h;refine⟨by simpa using h [] i q rfl,λ X j Y e=>?_⟩;have:=h (i::X) j Y (by simp[e]);simpa using this
def Bk.can_iff{o:List Nat}{i:Nat}:b.can o i=true↔i∉o/\∀k∈Je b.A i,k∈o:=by
 simp[Bk.can]
structure Bk.Ord(b:Bk)(o:List Nat):Prop where
 len:o.length=b.cs.length
 low:∀i∈o,i<b.cs.length
 nod:o.Nodup
 aft:∀X i Y,o=X++i::Y->∀k∈Je b.A i,k∈X
def Qf7:∀{o:List Nat},(∀X i Y,o=X++i::Y->i∉X)->o.Nodup:=by
 intro o h;rw[nodup_iff_pairwise_ne,pairwise_iff_getElem];intro i j b c a e;refine h (o.take j) o[j] (o.drop (j+1)) (by rw[getElem_cons_drop,take_append_drop]) ?_;rw[<- e,mem_take_iff_getElem];exact⟨i,O1,rfl⟩
def Bk.mem_all_iff{o:List Nat}:o∈b.all↔b.Ord o:=by
 rw[Bk.mem_all,Bk.okTo_iff];simp only[nil_append];constructor
 .rintro⟨h1,h2⟩;refine⟨h1,λ i c=>?_,Qf7 λ X i Y e=>(Bk.can_iff.1 (h2 X i Y e).2).1,λ X i Y e=>(Bk.can_iff.1 (h2 X i Y e).2).2⟩;obtain⟨X,Y,e⟩:=append_of_mem c;exact(h2 X i Y e).1
 .intro h;refine⟨h.len,λ X i Y e=>⟨h.low i (by rw[e];simp),Bk.can_iff.2 ⟨λ d=>?_,h.aft X i Y e⟩⟩⟩;have a:=h.nod;rw[e]at a;exact(nodup_append.1 a).2.2 i d i (mem_cons_self ..) rfl
def Qvy{n:Nat}{l:List Nat}(h:∀i,i<n->i∈l):n<=l.length:=by
 have a:∀(n:Nat)(l:List Nat),(∀i,i<n->i∈l)->n<=l.length:=by
  intro n
  induction n with
  |zero=>intro l _;exact Nat.zero_le _
  |succ n b=>
   intro l h;obtain⟨X,Y,e⟩:=append_of_mem (h n O1)
   have:=b (X++Y) λ i c=>by
    have:=h i O1;rw[e]at this;simp only[mem_append,mem_cons]at this ⊢;rcases this with h|h|h
    .exact .inl h
    .omega
    .exact .inr h
   rw[e];simp at this ⊢;omega
 exact a n l h
def Bk.A_n(b:Bk):b.A.length=b.cs.length:=by simp[Bk.A]
def Bk.Ok.ord{b:Bk}(h:b.Ok):∃o,b.Ord o:=by
 obtain⟨L,c,a⟩:=DM h.lo;rw[b.A_n]at a;refine⟨L.reverse,?_,λ i d=>by rw[<- b.A_n];exact c.low i (by simpa using d),(by unfold Nodup;rw[pairwise_reverse];exact c.nod.imp Ne.symm),λ X i Y e k f=>?_⟩
 .rw[length_reverse];have j:=H7 c.nod (n:=b.cs.length) λ x g=>by rw[<- b.A_n];exact c.low x g
  have l:=Qvy a;omega
 .have e':L=Y.reverse++i::X.reverse:=by
   rw[<- reverse_reverse L,e];simp
  have:=c.aft _ _ _ e' k f;simpa using this
def Bk.Ord.has{b:Bk}{o:List Nat}(h:b.Ord o){i:Nat}(d:i<b.cs.length):i∈o:=by
 apply Classical.byContradiction;intro e;have c:(i::o).Nodup:=nodup_cons.2 ⟨e,h.nod⟩
 have:=H7 c (n:=b.cs.length) λ x a=>by
  rcases mem_cons.1 a with rfl|a
  .exact d
  .exact h.low x a
 rw[length_cons,h.len]at this;omega
def Bk.Ok.all_pos{b:Bk}(h:b.Ok):0<b.all.length:=by
 obtain⟨o,a⟩:=h.ord;exact length_pos_of_mem (Bk.mem_all_iff.2 a)
def Bk.stp_len(b:Bk)(x:List Bool×List Bool)(i:Nat):(b.stp x i).1.length=x.1.length/\(b.stp x i).2.length=x.2.length:=by
 unfold Bk.stp;split <;> simp
def Bk.end_len(b:Bk)(o:List Nat):(b.ends o).1.length=b.rs.length/\(b.ends o).2.length=b.cs.length:=by
 have a:∀(o:List Nat)(x:List Bool×List Bool),(o.foldl b.stp x).1.length=x.1.length/\(o.foldl b.stp x).2.length=x.2.length:=by
  intro o
  induction o with
  |nil=>exact λ x=>⟨rfl,rfl⟩
  |cons i o e=>
   intro x;have c:=e (b.stp x i);have d:=b.stp_len x i;exact⟨c.1.trans d.1,c.2.trans d.2⟩
 have:=a o b.ini;simpa[Bk.ends,Bk.ini]using this
def Qbj{l:List Bool}{i j:Nat}{v:Bool}:(l.set i v).getD j false=if i=j/\i<l.length then v else l.getD j false:=by
 simp only[getD_eq_getElem?_getD,getElem?_set];by_cases e:i=j
 .subst e;by_cases h:i<l.length
  .simp[h]
  .simp[h]
 .simp[e]
def Bk.end_facts(b:Bk)(h:b.Ok):∀(n:Nat)(o:List Nat),o.length=n->o.Nodup->(∀i∈o,i<b.cs.length) ->
  (∀i,i∉o->(b.ends o).2.getD i false=false)/\∀r,r<b.rs.length->(b.ends o).1.getD r false=!(o.any λ i=>(b.ends o).2.getD i false&&(b.cas i).ag.toNat==r):=by
 intro n
 induction n with
 |zero=>
  intro o c _ _;rw[length_eq_zero_iff]at c;subst c;refine⟨λ i _=>?_,λ r g=>?_⟩
  .simp only[Bk.ends,Bk.ini,foldl_nil,getD_eq_getElem?_getD,getElem?_replicate];split <;> rfl
  .simp[Bk.ends,Bk.ini,getD_eq_getElem?_getD,getElem?_replicate,g]
 |succ n B=>
  intro o c s v
  obtain⟨q,i,rfl⟩:∃q i,o=q++[i]:=by
   rcases eq_nil_or_concat o with e|⟨q,i,e⟩
   .rw[e]at c;cases c
   .exact⟨q,i,by simpa using e⟩
  rw[nodup_append]at s;have d:i∉q:=λ m=>s.2.2 i m i (mem_singleton.2 rfl) rfl;have u:i<b.cs.length:=v i S1;obtain⟨l,t⟩:=B q (by simpa using c) s.1 λ j a=>v j (by simp[a]);obtain⟨C,D⟩:=b.end_len q
  have y:(b.cas i).ag.toNat<b.rs.length:=by
   have m:b.cas i∈b.cs:=by
    unfold Bk.cas;rw[getD_eq_getElem?_getD,getElem?_eq_getElem u];exact getElem_mem u
   have:=h.ag _ m;unfold Bk.nr at this;omega
  rw[b.ends_snoc];unfold Bk.stp;by_cases w:Iq (b.cas i).gs (b.ends q).1=true
  .rw[if_pos w];refine⟨λ j a=>?_,λ r g=>?_⟩
   .simp only[mem_append,mem_singleton,not_or]at a;show((b.ends q).2.set i true).getD j false=false;rw[Qbj,if_neg λ e=>a.2 e.1.symm];exact l j a.1
   .show((b.ends q).1.set (b.cas i).ag.toNat false).getD r false=!((q++[i]).any λ j=>((b.ends q).2.set i true).getD j false&&(b.cas j).ag.toNat==r);rw[Qbj,any_append]
    have z:(q.any λ j=>((b.ends q).2.set i true).getD j false&&(b.cas j).ag.toNat==r)=q.any λ j=>(b.ends q).2.getD j false&&(b.cas j).ag.toNat==r:=by
     have f:∀j∈q,((b.ends q).2.set i true).getD j false=(b.ends q).2.getD j false:=λ j a=>by rw[Qbj,if_neg (λ e:i=j/\_=>d (e.1▸a))]
     rw[Bool.eq_iff_iff,any_eq_true,any_eq_true];constructor
     .rintro⟨j,a,hx⟩;rw[f j a]at hx;exact⟨j,a,hx⟩
     .rintro⟨j,a,hx⟩;rw[<- f j a]at hx;exact⟨j,a,hx⟩
    rw[z];by_cases e:(b.cas i).ag.toNat=r
    .rw[if_pos ⟨e,O1⟩];have A:((b.ends q).2.set i true).getD i false=true:=by rw[Qbj,if_pos ⟨rfl,O1⟩]
     rw[any_cons,A,e];simp
    .rw[if_neg λ x=>e x.1,t r g,any_cons,beq_false_of_ne e];simp
  .rw[if_neg w];refine⟨λ j a=>l j λ x=>a (by simp[x]),λ r g=>?_⟩;rw[t r g,any_append];rw[any_cons,l i d];simp
def Bk.end_keep(b:Bk):∀(Y X:List Nat)(i:Nat),i∉Y->(b.ends (X++Y)).2.getD i false=(b.ends X).2.getD i false:=by
 intro Y
 induction Y with
 |nil=>intro X i _;simp
 |cons j Y c=>
  intro X i a;have e:X++j::Y=(X++[j])++Y:=S1
  rw[e,c (X++[j]) i λ h=>a (by simp[h]),b.ends_snoc];unfold Bk.stp;split
  .show((b.ends X).2.set j true).getD i false=_;rw[Qbj,if_neg λ e=>a (by simp[e.1])]
  .rfl
def Bk.end_won(b:Bk)(h:b.Ok){o X Y:List Nat}{i:Nat}(f:b.Ord o)(e:o=X++i::Y):(b.ends o).2.getD i false=Iq (b.cas i).gs (b.ends X).1:=by
 have a:=f.nod;rw[e,nodup_append]at a;have c:i∉X:=λ m=>a.2.2 i m i (mem_cons_self ..) rfl;have d:i∉Y:=(nodup_cons.1 a.2.1).1;have n:i<b.cs.length:=f.low i (by rw[e];simp);have g:o=(X++[i])++Y:=by rw[e];simp
 rw[g,b.end_keep Y (X++[i]) i d,b.ends_snoc];unfold Bk.stp;obtain⟨-,q⟩:=b.end_len X;split
 .rename_i hw;show((b.ends X).2.set i true).getD i false=_;rw[Qbj,if_pos ⟨rfl,O1⟩,hw]
 .rename_i hw;have:=(b.end_facts h X.length X rfl a.1 λ j l=>f.low j (by rw[e];simp[l])).1 i c;rw[this];simpa using hw
def Bk.Ord.split{b:Bk}{o:List Nat}(h:b.Ord o){i:Nat}(a:i<b.cs.length):∃X Y,o=X++i::Y:=append_of_mem (h.has a)
def Bk.end_right(b:Bk)(h:b.Ok){o:List Nat}(a:b.Ord o){r:Nat}(c:r<b.rs.length):(b.ends o).1.getD r false=false↔∃i,i<b.cs.length/\(b.ends o).2.getD i false=true/\(b.cas i).ag.toNat=r:=by
 rw[(b.end_facts h o.length o rfl a.nod a.low).2 r c];simp only[Bool.not_eq_false',any_eq_true,Bool.and_eq_true,beq_iff_eq];constructor
 .rintro⟨i,hi,h1,h2⟩;exact⟨i,a.low i hi,h1,h2⟩
 .rintro⟨i,hi,h1,h2⟩;exact⟨i,a.has hi,h1,h2⟩
def Qga{a all:Nat}:H9 a all=1↔a=all:=by
 unfold H9;split
 .rename_i h;simp[h]
 .rename_i h;split
  .simp[h]
  .simp[h]
def Qjj{a all:Nat}(b:0<all):H9 a all=2↔a=0:=by
 unfold H9;split
 .rename_i h;constructor
  .intro x;cases x
  .intro x;omega
 .split
  .rename_i h;simp[h]
  .rename_i h;simp[h]
def Qoa(a all:Nat):H9 a all=0\/H9 a all=1\/H9 a all=2:=by
 unfold H9;split
 .exact .inr (.inl rfl)
 .split
  .exact .inr (.inr rfl)
  .exact .inl rfl
def Bk.fatC_one(b:Bk){i:Nat}:b.fatC i=1↔∀o,b.Ord o->(b.ends o).2.getD i false=true:=by
 unfold Bk.fatC;rw[Qga,countP_eq_length];exact⟨λ h o a=>h o (Bk.mem_all_iff.2 a),λ h o a=>h o (Bk.mem_all_iff.1 a)⟩
def Bk.fatR_one(b:Bk){i:Nat}:b.fatR i=1↔∀o,b.Ord o->(b.ends o).1.getD i false=true:=by
 unfold Bk.fatR;rw[Qga,countP_eq_length];exact⟨λ h o a=>h o (Bk.mem_all_iff.2 a),λ h o a=>h o (Bk.mem_all_iff.1 a)⟩
def Bk.fatC_two(b:Bk)(h:b.Ok){i:Nat}:b.fatC i=2↔∀o,b.Ord o->(b.ends o).2.getD i false=false:=by
 unfold Bk.fatC;rw[Qjj h.all_pos,countP_eq_zero];exact⟨λ h o a=>by simpa using h o (Bk.mem_all_iff.2 a),λ h o a=>by simpa using h o (Bk.mem_all_iff.1 a)⟩
def Bk.fatR_two(b:Bk)(h:b.Ok){i:Nat}:b.fatR i=2↔∀o,b.Ord o->(b.ends o).1.getD i false=false:=by
 unfold Bk.fatR;rw[Qjj h.all_pos,countP_eq_zero];exact⟨λ h o a=>by simpa using h o (Bk.mem_all_iff.2 a),λ h o a=>by simpa using h o (Bk.mem_all_iff.1 a)⟩
def Bk.sure_wins(b:Bk)(h:b.Ok){i:Nat}(c:i<b.cs.length)(d:[]∈(b.cas i).gs):b.fatC i=1:=by
 rw[Bk.fatC_one];intro o a;obtain⟨X,Y,e⟩:=a.split c;rw[b.end_won h a e];unfold Iq;rw[any_eq_true];exact⟨[],d,rfl⟩
def Bk.none_wins(b:Bk)(h:b.Ok){i:Nat}(c:i<b.cs.length)(d:(b.cas i).gs=[]):b.fatC i=2:=by
 rw[b.fatC_two h];intro o a;obtain⟨X,Y,e⟩:=a.split c;rw[b.end_won h a e,d];rfl
def Bk.won_falls(b:Bk)(h:b.Ok){i r:Nat}(e:i<b.cs.length)(f:r<b.rs.length)(c:(b.cas i).ag.toNat=r)(d:b.fatC i=1):b.fatR r=2:=by
 rw[b.fatR_two h];intro o a;rw[b.end_right h a f];exact⟨i,e,b.fatC_one.1 d o a,c⟩
def Bk.safe_stands(b:Bk)(h:b.Ok){r:Nat}(j:r<b.rs.length)(e:∀i,i<b.cs.length->(b.cas i).ag.toNat=r->b.fatC i=2):b.fatR r=1:=by
 rw[Bk.fatR_one];intro o a;apply Classical.byContradiction;intro g;obtain⟨i,f,c,d⟩:=(b.end_right h a j).1 (by simpa using g);rw[(b.fatC_two h).1 (e i f d) o a]at c;cases c
def Bk.lost_not(b:Bk)(h:b.Ok){i r:Nat}(f:i<b.cs.length)(g:r<b.rs.length)(d:(b.cas i).ag.toNat=r)(e:b.fatC i≠2):b.fatR r≠1:=by
 intro c;apply e;rw[b.fatC_two h];intro o a;cases j:(b.ends o).2.getD i false with
 |false=>rfl
 |true=>
  have:=(b.end_right h a g).2 ⟨i,f,j,d⟩;rw[b.fatR_one.1 c o a]at this;cases this
end Go.TM

namespace Go.TM
def Qp5{P:Program}{t:TypeId}(h:(match P.info? t with|some a=>a.zero.isSome&&(match a.zero with|some (.bool false)=>true|_=>false)&&a.size==1&&decide (a.bytes<=64)|none=>false)=true):∃a,P.info? t=some a/\a.zero=some (.bool false)/\a.size=1/\a.bytes<=64:=by
 split at h
 .rename_i a hi;simp only[Bool.and_eq_true,beq_iff_eq,decide_eq_true_eq]at h;obtain⟨⟨⟨e,b⟩,c⟩,d⟩:=h;refine⟨a,hi,?_,c,d⟩;split at b
  .assumption
  .cases b
 .cases h
def flC(l:List Bool):List Value:=l.map .bool
def Qae(nr j:Nat)(p:Nat->Bool)(ag:Nat->Nat):List Bool:=(range nr).map λ r=>(range j).any λ i=>ag i==r&&p i
def Qaq(nr j:Nat)(p:Nat->Bool)(ag:Nat->Nat):(Qae nr j p ag).length=nr:=by simp[Qae]
def Qpj(nr:Nat)(p:Nat->Bool)(ag:Nat->Nat):Qae nr 0 p ag=replicate nr false:=by
 unfold Qae;simp[map_const']
def Qdh{nr j r:Nat}{p:Nat->Bool}{ag:Nat->Nat}(h:r<nr):(Qae nr j p ag).getD r false=(range j).any λ i=>ag i==r&&p i:=by
 simp[Qae,getD_eq_getElem?_getD,h]
def Qdg{l:List Bool}{r:Nat}(h:r<l.length):(flC l)[r]?=some (.bool (l.getD r false)):=by
 simp[flC,getD_eq_getElem?_getD,h]
def Qpf{nr j:Nat}{p:Nat->Bool}{ag:Nat->Nat}{v:Bool}(h:ag j<nr)(c:v=((Qae nr j p ag).getD (ag j) false|| p j)):(flC (Qae nr j p ag)).toArray.setIfInBounds (ag j) (.bool v)=(flC (Qae nr (j+1) p ag)).toArray:=by
 subst c;rw[Qdh h];apply Array.ext';rw[Array.toList_setIfInBounds];show(flC (Qae nr j p ag)).set (ag j) (.bool _)=flC (Qae nr (j+1) p ag);apply ext_getElem?;intro r;rw[getElem?_set];by_cases a:r<nr
 .have e1:=Qdg (l:=Qae nr j p ag) (r:=r) (by rw[Qaq];exact a);have b:=Qdg (l:=Qae nr (j+1) p ag) (r:=r) (by rw[Qaq];exact a);rw[e1,b,Qdh a,Qdh a,range_succ,any_append];by_cases e:ag j=r
  .rw[if_pos e,if_pos (by simpa[flC,Qae]using h)];subst e;simp
  .rw[if_neg e];simp[e]
 .have l1:(flC (Qae nr j p ag)).length=nr:=by simp[flC,Qae]
  have d:(flC (Qae nr (j+1) p ag)).length=nr:=by simp[flC,Qae]
  rw[getElem?_eq_none O1,getElem?_eq_none O1];split
  .split
   .omega
   .rfl
  .rfl
end Go.TM
namespace Go.Proofs
open Go.TM
attribute [local irreducible] Qb Zl Wt
def Qvo:∃a,Tryz.prog.info? 4=some a/\a.zero=some (.bool false)/\a.size=1/\a.bytes<=64:=Qp5 K1
def Qdc:Tryz.prog.underlying 29=some (.slice 4):=K1
set_option maxHeartbeats 4000000 in
def Qp3{U:Qa Tk}(bd:U.tok=⟨0,.out,none⟩)(hk:WA U)(h:BH)(b:Bk)(hb:Zq U.frz h b)(cp:DH b)(cr:h.rl<=h.rc)(c7:h.cl<=h.cc) :
  J (Zb Tryz.prog 209 6) (QA Tryz.prog λ v U'=>v=.bool true/\U.lg U') true (Rf (Frame.enter Tryz.prog 9 #[h.v] .normal) []) U:=by
 refine Zpy (args:=[_]) (Q:=λ v U'=>v=.bool true/\U.lg U') Qvv Qf K1 S1 (λ v U' q=>q.2.tok.trans bd) ?_;have bs:=hb.cs.1;have b3:=hb.rs.1;have bl:∀Y:Qa Tk,U.lg Y->Qb (Zb Tryz.prog 209 6) 20 #[] (λ v U'=>v=.bool true/\U'=Y) Y:=λ Y h=>Zm2 (h.tok.trans bd) (hk.lg h)
 repeat refine⟨rfl,?_⟩
 conv=>whnf
 intro B U1 aq hB;have hB:Zi U1 B #[.slice h.ra h.rl h.rc,.slice h.ca h.cl h.cc]:=hB;have bg:=hb.lg aq.lg.frz2;refine⟨_,⟨rfl,hB.rd⟩,?_⟩;refine⟨kh.any,(Zm1 h b bg cp cr).mono ?_⟩;rintro _ U'⟨⟨g,rfl,hg⟩,cb⟩-;obtain rfl:=cb.symm
 repeat refine⟨rfl,?_⟩
 conv=>whnf
 apply Qe<;>intro hc
 .refine⟨yL.any,(bl _ aq.lg).go λ _=>?_⟩
  repeat refine⟨rfl,?_⟩
  conv=>whnf
  exact aq.lg
 have hf:b.flaw Qu=0:=hg (by simpa using hc);have ai:=Bk.ok_of hf;have dc:=ai.nr;have db:=ai.nc;have cm:b.fatesC.length=h.cl:=by simp[Bk.fatesC,bs]
 have cn:b.fatesR.length=h.rl:=by simp[Bk.fatesR,b3]
 have bp:∀i,i<h.cl->b.fatesC[i]?=some (b.fatC i):=λ i hi=>by simp[Bk.fatesC,bs,hi]
 have bq:∀i,i<h.rl->b.fatesR[i]?=some (b.fatR i):=λ i hi=>by simp[Bk.fatesR,b3,hi]
 refine⟨_,⟨rfl,hB.rd⟩,?_⟩;refine⟨Fj.any,(yC h b bg (hk.lg aq.lg)).mono ?_⟩;rintro _ Y⟨⟨_,_,rfl,⟨ra,rc,rfl,hR⟩,⟨ca,cc,rfl,hC⟩⟩,a3⟩-;rw[hf]at *;rw[if_pos rfl]at hR hC;rw[if_pos rfl,if_pos rfl];rw[cm]at hC ⊢;rw[cn]at hR ⊢;have be:=hB.lg a3.lg;have cd:=bg.lg a3.lg.frz2;have af:=aq.lg.trans a3.lg;have bn:Y.M=U.M:=a3.own.trans aq.own
 repeat refine⟨rfl,?_⟩
 refine⟨_,be.sees3 (o:=0) rfl,?_⟩
 repeat refine⟨rfl,?_⟩
 conv=>whnf
 apply Zr<;>intro hc
 rotate_left
 .exact absurd hc S1
 refine⟨_,be.sees3 (o:=1) rfl,?_⟩
 repeat refine⟨rfl,?_⟩
 conv=>whnf
 apply Qe<;>intro hc
 .exact absurd hc S1
 obtain⟨i4,a7,a8,a9,ba⟩:=Qvo
 let Z:List Bool:=replicate h.rl false
 have hZ:(replicate h.rl (Value.bool false)).toArray=(flC Z).toArray:=by simp[flC,Z]
 conv=>whnf
 intro ac ay
 refine SQ (mu:=[]) (ops:=Pl Tryz.f9 6) (id:=6) ay [2,5] [[0,1,3,4,2,6,5],[0,1,3,4,5,2,6]] [7] Qek Qlg Qf K1 K1 K1 K1 K1
  (λ f' bk U'=>bk=[]/\∃t F,XF f' [(1,.pointer (some ⟨B,0,none⟩)),(3,.slice ra h.rl rc),(4,.slice ca h.cl cc),(6,.slice (some ⟨t,0,none⟩) h.rl h.rl),(46,.slice (some ⟨F,0,none⟩) h.rl h.rl)]/\Y.frz.lg U'/\U'.M=.obj t (.cells (flC Z).toArray 4 (0,0))::.obj F (.cells (flC Z).toArray 4 (0,0))::U.M) ?_ ?_
 .intro l H;simp only[Qek,mem_cons,not_mem_nil,or_false]at H;rcases H with rfl|rfl
  .refine⟨λ v U'=>∃t,v=.slice (some ⟨t,0,none⟩) h.rl h.rl/\Y.frz.lg U'/\U'.M=.obj t (.cells (flC Z).toArray 4 (0,0))::U.M,λ v U1 Y⟨t,e,H,hM⟩W=>⟨t,e,H.trans W.lg,W.own.trans hM⟩,λ v U'⟨t,e,H,hM⟩=>H,λ U' hC=>?_,λ v hv=>?_⟩
   .conv=>whnf
    refine EK (n:=h.rl) Qdc a7 a8 rfl a9 ba rfl rfl O1 λ t cv=>?_;refine⟨_,.refl _,t,rfl,⟨λ x o N=>hC.imm x o N,⟨_,(append_nil _).symm⟩,hC.tok⟩,?_⟩;show _::U'.M=_;rw[hC.own,bn,hZ]
   obtain⟨_,t,rfl,-⟩:=hv;refine⟨λ v U'=>∃F,v=.slice (some ⟨F,0,none⟩) h.rl h.rl/\Y.frz.lg U'/\U'.M=.obj t (.cells (flC Z).toArray 4 (0,0))::.obj F (.cells (flC Z).toArray 4 (0,0))::U.M,λ v U1 Y⟨F,e,H,hM⟩W=>⟨F,e,H.trans W.lg,W.own.trans hM⟩,λ v U'⟨F,e,H,hM⟩=>H,λ U' hC=>?_,λ v hv=>?_⟩
   .obtain⟨a2,e,ah,ak⟩:=hC;obtain rfl:t=a2:=by simpa using e
    conv=>whnf
    refine EK (n:=h.rl) Qdc a7 a8 rfl a9 ba rfl rfl O1 λ F co=>?_;refine⟨_,W7 (M':=.obj t (.cells (flC Z).toArray 4 (0,0))::.obj F (.cells (flC Z).toArray 4 (0,0))::U.M) ?_,F,rfl,⟨λ x o N=>ah.imm x o N,⟨_,(append_nil _).symm⟩,ah.tok⟩,rfl⟩;show(_::U'.M).Perm _;rw[ak,hZ];exact Perm.swap _ _ _
   obtain⟨_,F,rfl,-⟩:=hv
   conv=>whnf
   rintro U'⟨cy,e,ah,ak⟩;obtain rfl:F=cy:=by simpa using e
   exact⟨rfl,t,F,T1,ah,ak⟩
  .refine⟨λ v U'=>∃t,v=.slice (some ⟨t,0,none⟩) h.rl h.rl/\Y.frz.lg U'/\U'.M=.obj t (.cells (flC Z).toArray 4 (0,0))::U.M,λ v U1 Y⟨t,e,H,hM⟩W=>⟨t,e,H.trans W.lg,W.own.trans hM⟩,λ v U'⟨t,e,H,hM⟩=>H,λ U' hC=>?_,λ v hv=>?_⟩
   .conv=>whnf
    refine EK (n:=h.rl) Qdc a7 a8 rfl a9 ba rfl rfl O1 λ t cv=>?_;refine⟨_,.refl _,t,rfl,⟨λ x o N=>hC.imm x o N,⟨_,(append_nil _).symm⟩,hC.tok⟩,?_⟩;show _::U'.M=_;rw[hC.own,bn,hZ]
   obtain⟨_,F,rfl,-⟩:=hv;refine⟨λ v U'=>∃t,v=.slice (some ⟨t,0,none⟩) h.rl h.rl/\Y.frz.lg U'/\U'.M=.obj t (.cells (flC Z).toArray 4 (0,0))::.obj F (.cells (flC Z).toArray 4 (0,0))::U.M,λ v U1 Y⟨F,e,H,hM⟩W=>⟨F,e,H.trans W.lg,W.own.trans hM⟩,λ v U'⟨F,e,H,hM⟩=>H,λ U' hC=>?_,λ v hv=>?_⟩
   .obtain⟨a2,e,ah,ak⟩:=hC;obtain rfl:F=a2:=by simpa using e
    conv=>whnf
    refine EK (n:=h.rl) Qdc a7 a8 rfl a9 ba rfl rfl O1 λ t co=>?_;refine⟨_,.refl _,t,rfl,⟨λ x o N=>ah.imm x o N,⟨_,(append_nil _).symm⟩,ah.tok⟩,?_⟩;show _::U'.M=_;rw[ak,hZ]
   obtain⟨_,t,rfl,-⟩:=hv
   conv=>whnf
   rintro U'⟨a2,e,ah,ak⟩;obtain rfl:t=a2:=by simpa using e
   exact⟨rfl,t,F,T1,ah,ak⟩
 rintro f' bk U3⟨rfl,t,F,bu,b0,b8⟩;rw[<- bu.ovr];clear bu
 conv=>whnf
 intro a' a4;refine⟨by rw[a4.size,ay.size],_,a4.get,?_⟩;rw[a4.ds];clear a4 ay
 let p1:Nat->Bool:=λ i=>b.fatC i==1
 let P:Nat->Bool:=λ i=>b.fatC i != 2
 let ag:Nat->Nat:=λ i=>(b.cas i).ag.toNat
 have bm:∀p,flC Z=flC (Qae h.rl 0 p ag):=λ p=>by rw[Qpj]
 refine⟨Nat,λ i=>[(1,.pointer (some ⟨B,0,none⟩)),(3,.slice ra h.rl rc),(4,.slice ca h.cl cc),(6,.slice (some ⟨t,0,none⟩) h.rl h.rl),(7,.slice (some ⟨F,0,none⟩) h.rl h.rl),(8,.int .i64 i)],
  λ i U'=>Y.frz.lg U'/\i<=h.cl/\U'.M=.obj t (.cells (flC (Qae h.rl i p1 ag)).toArray 4 (0,0))::.obj F (.cells (flC (Qae h.rl i P ag)).toArray 4 (0,0))::U.M,λ i=>h.cl-i,0,T1,⟨b0,O1,by rw[b8,<- bm,<- bm]⟩,?_⟩
 rintro i f U4⟨H,hi,au⟩;have R:Zu ((i:Int)+1):=I1
 repeat refine⟨rfl,?_⟩
 conv=>whnf
 apply Qe<;>intro hc
 .have hlt:i<h.cl:=by simpa using hc
  have b7:Zi U4 B _:=be.imI H.imm;have cf:U.lg U4:=⟨λ x o N=>H.imm x o (af.imm x o N),⟨[_,_],au⟩,H.tok.trans af.tok⟩;obtain⟨ad,c,ga,gl,gc,aa,al,ac,N,ce,c1,ct,hg,c8,ha,c6,b1⟩:=cd.case hlt;have aw:b.cas i=c:=by simp[Bk.cas,getD_eq_getElem?_getD,N]
  have bo:=ai.ag c b1;have d:c.ag=((ag i:Nat):Int):=by show _=(((b.cas i).ag.toNat:Nat):Int);rw[aw];omega
  have a:ag i<h.rl:=by unfold Bk.nr at bo;omega
  obtain⟨E,xC,cw,V,c4,ar⟩:=hC.at hlt;obtain rfl:b.fatC i=xC:=Option.some.inj ((bp i hlt).symm.trans cw);have b4:=ar;have ar:U4.sees (E.add (i*1)) (.int .i64 (b.fatC i)):=ar.lg H;have cz:c.gs.length=gl:=hg.1;refine⟨_,b7.sees3 (o:=1) rfl,ad,i,⟨ce,rfl,hlt⟩,_,⟨rfl,ct.lg H⟩,?_⟩
  conv=>whnf
  intro b9 cg;refine⟨_,.refl _,rfl,Zt (vs:=[.string c.nm,.int .i64 c.ag,.slice ga gl gc,.slice aa al ac]) cg rfl (by simp[Value.single]) λ U5 h5 L=>?_⟩;have ci:=(hg.lg H.frz2).lg h5.lg.frz2
  refine⟨Nat×Bool,λ y=>[(1,.pointer (some ⟨B,0,none⟩)),(3,.slice ra h.rl rc),(4,.slice ca h.cl cc),(6,.slice (some ⟨t,0,none⟩) h.rl h.rl),(7,.slice (some ⟨F,0,none⟩) h.rl h.rl),(8,.int .i64 i),(9,.pointer (some ⟨b9,0,none⟩)),(10,.bool y.2),(11,.int .i64 y.1)],
   λ y U'=>U5.le U'/\y.1<=gl/\(c.gs.take y.1).any (·.isEmpty)=y.2,λ y=>gl-y.1,(0,false),T1,⟨.refl _,S1,rfl⟩,?_⟩
  rintro⟨j,s⟩f U6⟨h6,hj,hs⟩;simp only at hj hs;have bb:Zu ((j:Int)+1):=I1
  have L:=L.lg h6.lg;have cj:=ci.lg h6.lg.frz2;refine⟨_,L.sees3 (o:=2) rfl,?_⟩
  repeat refine⟨rfl,?_⟩
  conv=>whnf
  apply Qe<;>intro hc
  .have hltj:j<gl:=by simpa using hc
   obtain⟨b5,g2,c2,b6,c3,ch,bt,c0,cu,ae,ck,bw⟩:=(J3.lg cj Qp).at hltj;have bv:=ae.1;have an:(c.gs.take (j+1)).any (·.isEmpty)=((c.gs.take j).any (·.isEmpty)|| g2.isEmpty):=by rw[Ji ch,any_append];simp
   rw[hs]at an;cases s with
   |true=>
    refine⟨bb,?_⟩
    conv=>whnf
    exact⟨rfl,(j+1,true),T1,⟨h6,by show j+1<=gl;omega,by rw[an];rfl⟩,L1⟩
   |false=>
    refine⟨_,L.sees3 (o:=2) rfl,b5,j,⟨bt,rfl,hltj⟩,_,cu,?_⟩
    repeat refine⟨rfl,?_⟩
    refine⟨bb,rfl,(j+1,((b6:Int)==0)),T1,⟨h6,by show j+1<=gl;omega,?_⟩,L1⟩;rw[an,<- bv,Bool.false_or];cases g2 <;> rfl
  have a5:j=gl:=by simp at hc;omega
  rw[take_of_length_le O1]at hs
  have bi:c.gs.any (·.isEmpty)=true->b.fatC i=1:=λ h=>by
   refine b.sure_wins ai O1 ?_;rw[aw];obtain⟨g,bw,a5⟩:=any_eq_true.1 h;have:g=[]:=by simpa using a5
   exact this▸bw
  have az:gl=0->b.fatC i=2:=λ h=>by
   refine b.none_wins ai O1 ?_;rw[aw];exact length_eq_zero_iff.1 O1
  have ap:U4.lg U6:=h5.lg.trans h6.lg;have au:U6.M=_:=(h6.own.trans h5.own).trans au;have bc:Y.frz.lg U6:=H.trans ap;have am:U6.M=.obj t (.cells (flC (Qae h.rl i p1 ag)).toArray 4 (0,0))::.obj F (.cells (flC (Qae h.rl i P ag)).toArray 4 (0,0))::U.M:=au;have a1:U6.sees (E.add (i*1)) (.int .i64 (b.fatC i)):=ar.lg ap;have a6:U6.sees ((Addr.mk t 0 none).add (ag i*1)) (.bool ((Qae h.rl i p1 ag).getD (ag i) false)):=by rw[Nat.mul_one];exact Za [] am (ag i) _ (Qdg (by rw[Qaq];exact a))
  have z:∀p,ag i*1<(flC (Qae h.rl i p ag)).toArray.size:=λ p=>by rw[Nat.mul_one];simpa[flC,Qae]using a
  generalize cq:(Qae h.rl i p1 ag).getD (ag i) false=o1 at a6;generalize b2:(Qae h.rl i P ag).getD (ag i) false=o2
  have S8:∀(x1 w:Qa Tk)(v:Bool),U6.le x1->w.I=x1.I->w.tok=x1.tok->v=(o1|| p1 i)->w.M=[]++.obj t (.cells ((flC (Qae h.rl i p1 ag)).toArray.setIfInBounds (ag i*1) (.bool v)) 4 (0,0))::.obj F (.cells (flC (Qae h.rl i P ag)).toArray 4 (0,0))::U.M ->
    Zi w b9 #[.string c.nm,.int .i64 c.ag,.slice ga gl gc,.slice aa al ac]/\Y.frz.lg w/\w.sees (E.add (i*1)) (.int .i64 (b.fatC i))/\w.M=[.obj t (.cells (flC (Qae h.rl (i+1) p1 ag)).toArray 4 (0,0))]++.obj F (.cells (flC (Qae h.rl i P ag)).toArray 4 (0,0))::U.M/\w.sees ((Addr.mk F 0 none).add (ag i*1)) (.bool o2):=by
   intro x1 w v k1 k2 k3 hv k4;rw[Nat.mul_one,Qpf a (by rw[cq];exact hv)]at k4;have bz:Y.frz.lg w:=⟨λ x o N=>by rw[k2];exact k1.imm x o (bc.imm x o N),⟨_,(append_nil _).symm⟩,by rw[k3];exact k1.tok.trans bc.tok⟩;refine⟨L.imI λ x o N=>by rw[k2];exact k1.imm x o N,bz,b4.lg bz,k4,?_⟩;rw[Nat.mul_one,<- b2];exact Za [_] k4 (ag i) _ (Qdg (by rw[Qaq];exact a))
  have S9:∀(w K G:Qa Tk)(v:Bool),Y.frz.lg w->w.le K->G.I=K.I->G.tok=K.tok->v=(o2|| P i)->G.M=[.obj t (.cells (flC (Qae h.rl (i+1) p1 ag)).toArray 4 (0,0))]++.obj F (.cells ((flC (Qae h.rl i P ag)).toArray.setIfInBounds (ag i*1) (.bool v)) 4 (0,0))::U.M ->
    Y.frz.lg G/\G.M=.obj t (.cells (flC (Qae h.rl (i+1) p1 ag)).toArray 4 (0,0))::.obj F (.cells (flC (Qae h.rl (i+1) P ag)).toArray 4 (0,0))::U.M:=by
   intro w K G v bx u S T hv O;rw[Nat.mul_one,Qpf a (by rw[b2];exact hv)]at O;exact⟨⟨λ x o N=>by rw[S];exact u.imm x o (bx.imm x o N),⟨_,(append_nil _).symm⟩,by rw[T];exact u.tok.trans bx.tok⟩,O⟩
  cases s with
  |true=>
   have br:=bi hs;have a0:U6.sees (E.add (i*1)) (.int .i64 1):=by have:=ar.lg ap;rw[br]at this;exact this
   refine⟨E,i,⟨V,rfl,hlt⟩,_,a0,?_⟩
   repeat refine⟨rfl,?_⟩
   refine⟨_,L.sees3 (o:=2) rfl,?_⟩
   repeat refine⟨rfl,?_⟩
   conv=>whnf
   apply Zr<;>intro hc
   .have h0:gl=0:=by have bh:((gl:Int)==0)=true:=hc;have:=eq_of_beq bh;omega
    have h2:=az h0;rw[br]at h2;cases h2
   .have h67:=ap;have da:=ap
    repeat refine⟨rfl,?_⟩
    refine⟨_,L.sees3 (o:=1) rfl,_,L.sees3 (o:=1) rfl,_,ag i,⟨rfl,d,a⟩,_,a6,?_⟩;cases o1 with
    |false=>
     refine⟨E,i,⟨V,rfl,hlt⟩,_,a1,?_⟩
     repeat refine⟨rfl,?_⟩
     conv=>whnf
     intro x1 k1 _;refine⟨_,ag i,⟨rfl,d,a⟩,rfl,gb (L₁:=[]) (by rw[k1.own,am];exact Perm.refl _) (z p1) rfl λ w k2 k3 k4=>?_⟩;obtain⟨m,r,C,A,X⟩:=S8 x1 w (b.fatC i==1) k1 k2 k3 rfl k4;clear k4;refine⟨_,m.sees3 (o:=1) rfl,_,m.sees3 (o:=1) rfl,_,ag i,⟨rfl,d,a⟩,_,X,?_⟩;cases o2 with
     |false=>
      refine⟨E,i,⟨V,rfl,hlt⟩,_,C,?_⟩
      repeat refine⟨rfl,?_⟩
      conv=>whnf
      intro K u _;refine⟨_,ag i,⟨rfl,d,a⟩,rfl,gb (L₁:=[_]) (by rw[u.own,A];first|done|exact Perm.refl _) (z P) rfl λ G S T O=>?_⟩;have D:=S9 w K G (b.fatC i != 2) r u S T rfl O
      repeat refine⟨rfl,?_⟩
      refine⟨R,?_⟩
      conv=>whnf
      exact⟨rfl,i+1,T1,⟨D.1,O1,D.2⟩,L1⟩
     |true=>
      conv=>whnf
      intro K u _;refine⟨_,ag i,⟨rfl,d,a⟩,rfl,gb (L₁:=[_]) (by rw[u.own,A];first|done|exact Perm.refl _) (z P) rfl λ G S T O=>?_⟩;have D:=S9 w K G true r u S T rfl O
      repeat refine⟨rfl,?_⟩
      refine⟨R,?_⟩
      conv=>whnf
      exact⟨rfl,i+1,T1,⟨D.1,O1,D.2⟩,L1⟩
    |true=>
     conv=>whnf
     intro x1 k1 _;refine⟨_,ag i,⟨rfl,d,a⟩,rfl,gb (L₁:=[]) (by rw[k1.own,am];exact Perm.refl _) (z p1) rfl λ w k2 k3 k4=>?_⟩;obtain⟨m,r,C,A,X⟩:=S8 x1 w true k1 k2 k3 rfl k4;clear k4;refine⟨_,m.sees3 (o:=1) rfl,_,m.sees3 (o:=1) rfl,_,ag i,⟨rfl,d,a⟩,_,X,?_⟩;cases o2 with
     |false=>
      refine⟨E,i,⟨V,rfl,hlt⟩,_,C,?_⟩
      repeat refine⟨rfl,?_⟩
      conv=>whnf
      intro K u _;refine⟨_,ag i,⟨rfl,d,a⟩,rfl,gb (L₁:=[_]) (by rw[u.own,A];first|done|exact Perm.refl _) (z P) rfl λ G S T O=>?_⟩;have D:=S9 w K G (b.fatC i != 2) r u S T rfl O
      repeat refine⟨rfl,?_⟩
      refine⟨R,?_⟩
      conv=>whnf
      exact⟨rfl,i+1,T1,⟨D.1,O1,D.2⟩,L1⟩
     |true=>
      conv=>whnf
      intro K u _;refine⟨_,ag i,⟨rfl,d,a⟩,rfl,gb (L₁:=[_]) (by rw[u.own,A];first|done|exact Perm.refl _) (z P) rfl λ G S T O=>?_⟩;have D:=S9 w K G true r u S T rfl O
      repeat refine⟨rfl,?_⟩
      refine⟨R,?_⟩
      conv=>whnf
      exact⟨rfl,i+1,T1,⟨D.1,O1,D.2⟩,L1⟩
  |false=>
   refine⟨_,L.sees3 (o:=2) rfl,?_⟩
   repeat refine⟨rfl,?_⟩
   conv=>whnf
   apply Zr<;>intro hc
   .have h0:gl=0:=by have bh:((gl:Int)==0)=true:=hc;have:=eq_of_beq bh;omega
    have h2:=az h0;have a0:U6.sees (E.add (i*1)) (.int .i64 2):=by have:=ar.lg ap;rw[h2]at this;exact this
    refine⟨E,i,⟨V,rfl,hlt⟩,_,a0,?_⟩
    repeat refine⟨rfl,?_⟩
    refine⟨_,L.sees3 (o:=1) rfl,_,L.sees3 (o:=1) rfl,_,ag i,⟨rfl,d,a⟩,_,a6,?_⟩;cases o1 with
    |false=>
     refine⟨E,i,⟨V,rfl,hlt⟩,_,a1,?_⟩
     repeat refine⟨rfl,?_⟩
     conv=>whnf
     intro x1 k1 _;refine⟨_,ag i,⟨rfl,d,a⟩,rfl,gb (L₁:=[]) (by rw[k1.own,am];exact Perm.refl _) (z p1) rfl λ w k2 k3 k4=>?_⟩;obtain⟨m,r,C,A,X⟩:=S8 x1 w (b.fatC i==1) k1 k2 k3 rfl k4;clear k4;refine⟨_,m.sees3 (o:=1) rfl,_,m.sees3 (o:=1) rfl,_,ag i,⟨rfl,d,a⟩,_,X,?_⟩;cases o2 with
     |false=>
      refine⟨E,i,⟨V,rfl,hlt⟩,_,C,?_⟩
      repeat refine⟨rfl,?_⟩
      conv=>whnf
      intro K u _;refine⟨_,ag i,⟨rfl,d,a⟩,rfl,gb (L₁:=[_]) (by rw[u.own,A];first|done|exact Perm.refl _) (z P) rfl λ G S T O=>?_⟩;have D:=S9 w K G (b.fatC i != 2) r u S T rfl O
      repeat refine⟨rfl,?_⟩
      refine⟨R,?_⟩
      conv=>whnf
      exact⟨rfl,i+1,T1,⟨D.1,O1,D.2⟩,L1⟩
     |true=>
      conv=>whnf
      intro K u _;refine⟨_,ag i,⟨rfl,d,a⟩,rfl,gb (L₁:=[_]) (by rw[u.own,A];first|done|exact Perm.refl _) (z P) rfl λ G S T O=>?_⟩;have D:=S9 w K G true r u S T rfl O
      repeat refine⟨rfl,?_⟩
      refine⟨R,?_⟩
      conv=>whnf
      exact⟨rfl,i+1,T1,⟨D.1,O1,D.2⟩,L1⟩
    |true=>
     conv=>whnf
     intro x1 k1 _;refine⟨_,ag i,⟨rfl,d,a⟩,rfl,gb (L₁:=[]) (by rw[k1.own,am];exact Perm.refl _) (z p1) rfl λ w k2 k3 k4=>?_⟩;obtain⟨m,r,C,A,X⟩:=S8 x1 w true k1 k2 k3 rfl k4;clear k4;refine⟨_,m.sees3 (o:=1) rfl,_,m.sees3 (o:=1) rfl,_,ag i,⟨rfl,d,a⟩,_,X,?_⟩;cases o2 with
     |false=>
      refine⟨E,i,⟨V,rfl,hlt⟩,_,C,?_⟩
      repeat refine⟨rfl,?_⟩
      conv=>whnf
      intro K u _;refine⟨_,ag i,⟨rfl,d,a⟩,rfl,gb (L₁:=[_]) (by rw[u.own,A];first|done|exact Perm.refl _) (z P) rfl λ G S T O=>?_⟩;have D:=S9 w K G (b.fatC i != 2) r u S T rfl O
      repeat refine⟨rfl,?_⟩
      refine⟨R,?_⟩
      conv=>whnf
      exact⟨rfl,i+1,T1,⟨D.1,O1,D.2⟩,L1⟩
     |true=>
      conv=>whnf
      intro K u _;refine⟨_,ag i,⟨rfl,d,a⟩,rfl,gb (L₁:=[_]) (by rw[u.own,A];first|done|exact Perm.refl _) (z P) rfl λ G S T O=>?_⟩;have D:=S9 w K G true r u S T rfl O
      repeat refine⟨rfl,?_⟩
      refine⟨R,?_⟩
      conv=>whnf
      exact⟨rfl,i+1,T1,⟨D.1,O1,D.2⟩,L1⟩
   .repeat refine⟨rfl,?_⟩
    refine⟨_,L.sees3 (o:=1) rfl,_,L.sees3 (o:=1) rfl,_,ag i,⟨rfl,d,a⟩,_,a6,?_⟩;cases o1 with
    |false=>
     refine⟨E,i,⟨V,rfl,hlt⟩,_,a1,?_⟩
     repeat refine⟨rfl,?_⟩
     conv=>whnf
     intro x1 k1 _;refine⟨_,ag i,⟨rfl,d,a⟩,rfl,gb (L₁:=[]) (by rw[k1.own,am];exact Perm.refl _) (z p1) rfl λ w k2 k3 k4=>?_⟩;obtain⟨m,r,C,A,X⟩:=S8 x1 w (b.fatC i==1) k1 k2 k3 rfl k4;clear k4;refine⟨_,m.sees3 (o:=1) rfl,_,m.sees3 (o:=1) rfl,_,ag i,⟨rfl,d,a⟩,_,X,?_⟩;cases o2 with
     |false=>
      refine⟨E,i,⟨V,rfl,hlt⟩,_,C,?_⟩
      repeat refine⟨rfl,?_⟩
      conv=>whnf
      intro K u _;refine⟨_,ag i,⟨rfl,d,a⟩,rfl,gb (L₁:=[_]) (by rw[u.own,A];first|done|exact Perm.refl _) (z P) rfl λ G S T O=>?_⟩;have D:=S9 w K G (b.fatC i != 2) r u S T rfl O
      repeat refine⟨rfl,?_⟩
      refine⟨R,?_⟩
      conv=>whnf
      exact⟨rfl,i+1,T1,⟨D.1,O1,D.2⟩,L1⟩
     |true=>
      conv=>whnf
      intro K u _;refine⟨_,ag i,⟨rfl,d,a⟩,rfl,gb (L₁:=[_]) (by rw[u.own,A];first|done|exact Perm.refl _) (z P) rfl λ G S T O=>?_⟩;have D:=S9 w K G true r u S T rfl O
      repeat refine⟨rfl,?_⟩
      refine⟨R,?_⟩
      conv=>whnf
      exact⟨rfl,i+1,T1,⟨D.1,O1,D.2⟩,L1⟩
    |true=>
     conv=>whnf
     intro x1 k1 _;refine⟨_,ag i,⟨rfl,d,a⟩,rfl,gb (L₁:=[]) (by rw[k1.own,am];exact Perm.refl _) (z p1) rfl λ w k2 k3 k4=>?_⟩;obtain⟨m,r,C,A,X⟩:=S8 x1 w true k1 k2 k3 rfl k4;clear k4;refine⟨_,m.sees3 (o:=1) rfl,_,m.sees3 (o:=1) rfl,_,ag i,⟨rfl,d,a⟩,_,X,?_⟩;cases o2 with
     |false=>
      refine⟨E,i,⟨V,rfl,hlt⟩,_,C,?_⟩
      repeat refine⟨rfl,?_⟩
      conv=>whnf
      intro K u _;refine⟨_,ag i,⟨rfl,d,a⟩,rfl,gb (L₁:=[_]) (by rw[u.own,A];first|done|exact Perm.refl _) (z P) rfl λ G S T O=>?_⟩;have D:=S9 w K G (b.fatC i != 2) r u S T rfl O
      repeat refine⟨rfl,?_⟩
      refine⟨R,?_⟩
      conv=>whnf
      exact⟨rfl,i+1,T1,⟨D.1,O1,D.2⟩,L1⟩
     |true=>
      conv=>whnf
      intro K u _;refine⟨_,ag i,⟨rfl,d,a⟩,rfl,gb (L₁:=[_]) (by rw[u.own,A];first|done|exact Perm.refl _) (z P) rfl λ G S T O=>?_⟩;have D:=S9 w K G true r u S T rfl O
      repeat refine⟨rfl,?_⟩
      refine⟨R,?_⟩
      conv=>whnf
      exact⟨rfl,i+1,T1,⟨D.1,O1,D.2⟩,L1⟩
 have a5:i=h.cl:=by simp at hc;omega
 subst a5
 refine⟨Nat,λ k=>[(3,.slice ra h.rl rc),(6,.slice (some ⟨t,0,none⟩) h.rl h.rl),(7,.slice (some ⟨F,0,none⟩) h.rl h.rl),(12,.int .i64 k)],
  λ k U'=>U4.le U'/\k<=h.rl,λ k=>h.rl-k,0,T1,⟨.refl _,O1⟩,?_⟩
 rintro k f U5⟨h5,c9⟩;have ae:Zu ((k:Int)+1):=I1
 have bf:U5.M=_:=h5.own.trans au;have ax:U.lg U5:=⟨λ x o N=>h5.imm x o (H.imm x o (af.imm x o N)),⟨[_,_],bf⟩,h5.tok.trans (H.tok.trans af.tok)⟩
 repeat refine⟨rfl,?_⟩
 conv=>whnf
 apply Qe<;>intro hc
 .have hlt:k<h.rl:=by simpa using hc
  obtain⟨ao,xR,cx,av,c5,aj⟩:=hR.at hlt;obtain rfl:b.fatR k=xR:=Option.some.inj ((bq k hlt).symm.trans cx);have aj:U5.sees (ao.add (k*1)) (.int .i64 (b.fatR k)):=(aj.lg H).lg h5.lg;have bj:U5.sees ((Addr.mk t 0 none).add (k*1)) (.bool ((Qae h.rl h.cl p1 ag).getD k false)):=by rw[Nat.mul_one];exact Za [] bf k _ (Qdg (by rw[Qaq];exact hlt))
  have ab:U5.sees ((Addr.mk F 0 none).add (k*1)) (.bool ((Qae h.rl h.cl P ag).getD k false)):=by rw[Nat.mul_one];exact Za [_] bf k _ (Qdg (by rw[Qaq];exact hlt))
  rw[Qdh hlt]at bj ab
  have f1:((range h.cl).any λ i=>ag i==k&&p1 i)=true->b.fatR k=2:=λ h=>by
   obtain⟨i,hi,N⟩:=any_eq_true.1 h;simp only[Bool.and_eq_true,beq_iff_eq,p1]at N;exact b.won_falls ai (by have:=mem_range.1 hi;omega) O1 N.1 N.2
  have f2:((range h.cl).any λ i=>ag i==k&&P i)=false->b.fatR k=1:=λ h=>by
   refine b.safe_stands ai O1 λ i hi ha=>?_;have:=any_eq_false.1 h i (mem_range.2 O1);simp only[Bool.and_eq_true,beq_iff_eq,P,bne_iff_ne]at this;apply Classical.byContradiction;intro hn;exact this ⟨ha,hn⟩
  have f3:((range h.cl).any λ i=>ag i==k&&P i)=true->b.fatR k≠1:=λ h=>by
   obtain⟨i,hi,N⟩:=any_eq_true.1 h;simp only[Bool.and_eq_true,beq_iff_eq,P,bne_iff_ne]at N;exact b.lost_not ai (by have:=mem_range.1 hi;omega) O1 N.1 N.2
  have f4:b.fatR k=0\/b.fatR k=1\/b.fatR k=2:=Qoa _ _;generalize b.fatR k=rr at aj f1 f2 f3 f4;generalize((range h.cl).any λ i=>ag i==k&&p1 i)=ww at bj f1;generalize((range h.cl).any λ i=>ag i==k&&P i)=ll at ab f2 f3;refine⟨_,k,⟨rfl,rfl,hlt⟩,_,bj,?_⟩;cases ww with
  |true=>
   have:=f1 rfl;subst this;cases ll with
   |false=>exact absurd (f2 rfl) D1
   |true=>
    refine⟨ao,k,⟨av,rfl,hlt⟩,_,aj,?_⟩
    repeat refine⟨rfl,?_⟩
    refine⟨_,k,⟨rfl,rfl,hlt⟩,_,ab,_,k,⟨rfl,rfl,hlt⟩,_,ab,ao,k,⟨av,rfl,hlt⟩,_,aj,?_⟩
    repeat refine⟨rfl,?_⟩
    refine⟨ae,?_⟩
    conv=>whnf
    exact⟨rfl,k+1,T1,⟨h5,O1⟩,L1⟩
  |false=>
   cases ll with
   |false=>
    have:=f2 rfl;subst this;refine⟨_,k,⟨rfl,rfl,hlt⟩,_,ab,ao,k,⟨av,rfl,hlt⟩,_,aj,?_⟩
    repeat refine⟨rfl,?_⟩
    refine⟨_,k,⟨rfl,rfl,hlt⟩,_,ab,ae,?_⟩
    conv=>whnf
    exact⟨rfl,k+1,T1,⟨h5,O1⟩,L1⟩
   |true=>
    have h1:=f3 rfl;obtain rfl|rfl|rfl:=f4
    .refine⟨_,k,⟨rfl,rfl,hlt⟩,_,ab,_,k,⟨rfl,rfl,hlt⟩,_,ab,ao,k,⟨av,rfl,hlt⟩,_,aj,?_⟩
     repeat refine⟨rfl,?_⟩
     refine⟨ae,?_⟩
     conv=>whnf
     exact⟨rfl,k+1,T1,⟨h5,O1⟩,L1⟩
    .exact absurd rfl h1
    .refine⟨_,k,⟨rfl,rfl,hlt⟩,_,ab,_,k,⟨rfl,rfl,hlt⟩,_,ab,ao,k,⟨av,rfl,hlt⟩,_,aj,?_⟩
     repeat refine⟨rfl,?_⟩
     refine⟨ae,?_⟩
     conv=>whnf
     exact⟨rfl,k+1,T1,⟨h5,O1⟩,L1⟩
 .refine⟨yL.any,(bl _ ax).go λ _=>?_⟩
  repeat refine⟨rfl,?_⟩
  conv=>whnf
  exact ax
end Go.Proofs

