/- Lemmas of the proof. No conditions of their own. -/
import Derived.Test.YtnpfcnfhfkflhaaGreatDoorC00
set_option linter.all false
namespace Go.TM
variable {b:Bk}
def Bk.okTo (b:Bk):List Nat->List Nat->Bool
 | _,[]=>true
 | p,i::q=>decide (i<b.cs.length) && b.can p i && b.okTo (p++[i]) q
theorem Bk.mem_ords:∀(k:Nat) (p o:List Nat),o∈b.ords k p↔∃q,o=p++q/\q.length=k/\b.okTo p q=true
 | 0,p,o=>by
  simp only [Bk.ords,List.mem_singleton];constructor
  ·rintro rfl;exact⟨[],by simp,rfl,rfl⟩
  ·rintro⟨q,rfl,hq,-⟩;rw [List.length_eq_zero_iff] at hq;simp [hq]
 | k+1,p,o=>by
  simp only [Bk.ords,List.mem_flatMap,List.mem_range];constructor
  ·rintro⟨i,hi,ho⟩;split at ho
   ·rename_i hc;obtain⟨q,rfl,hq,hk⟩:=(Bk.mem_ords k (p++[i]) o).1 ho;exact⟨i::q,by simp,by simp [hq],by simp [Bk.okTo,hi,hc,hk]⟩
   ·cases ho
  ·rintro⟨q,rfl,hq,hk⟩;cases q with
   | nil=>cases hq
   | cons i q=>
    simp only [Bk.okTo,Bool.and_eq_true,decide_eq_true_eq] at hk;refine⟨i,hk.1.1,?_⟩;rw [if_pos hk.1.2];exact (Bk.mem_ords k (p++[i]) _).2 ⟨q,by simp,by simpa using hq,hk.2⟩
theorem Bk.mem_all {o:List Nat}:o∈b.all↔o.length=b.cs.length/\b.okTo [] o=true:=by
 unfold Bk.all;rw [Bk.mem_ords];constructor
 ·rintro⟨q,rfl,hq,hk⟩;exact⟨hq,hk⟩
 ·rintro⟨h1,h2⟩;exact⟨o,rfl,h1,h2⟩
theorem Bk.okTo_iff:∀(q p:List Nat),b.okTo p q=true↔∀X i Y,q=X++i::Y->i<b.cs.length/\b.can (p++X) i=true
 | [],p=>by simp [Bk.okTo]
 | i::q,p=>by
  simp only [Bk.okTo,Bool.and_eq_true,decide_eq_true_eq];rw [Bk.okTo_iff q (p++[i])];constructor
  ·rintro⟨⟨h1,h2⟩,h3⟩ X j Y e;cases X with
   | nil=>
    simp only [List.nil_append,List.cons.injEq] at e;obtain⟨rfl,rfl⟩:=e;simpa using ⟨h1,h2⟩
   | cons x X=>
    simp only [List.cons_append,List.cons.injEq] at e;obtain⟨rfl,rfl⟩:=e;have:=h3 X j Y rfl;simpa using this
  ·intro h;refine⟨by simpa using h [] i q rfl,λ X j Y e=>?_⟩;have:=h (i::X) j Y (by simp [e]);simpa using this
theorem Bk.can_iff {o:List Nat} {i:Nat}:b.can o i=true↔i∉o/\∀k∈Je b.A i,k∈o:=by
 simp [Bk.can]
structure Bk.Ord (b:Bk) (o:List Nat):Prop where
 len:o.length=b.cs.length
 low:∀i∈o,i<b.cs.length
 nod:o.Nodup
 aft:∀X i Y,o=X++i::Y->∀k∈Je b.A i,k∈X
theorem Qp5:∀{o:List Nat},(∀X i Y,o=X++i::Y->i∉X)->o.Nodup:=by
 intro o h;rw [List.nodup_iff_pairwise_ne,List.pairwise_iff_getElem];intro i j hi hj hij e;refine h (o.take j) o[j] (o.drop (j+1)) (by rw [List.getElem_cons_drop,List.take_append_drop]) ?_;rw [<- e,List.mem_take_iff_getElem];exact⟨i,by omega,rfl⟩
theorem Bk.mem_all_iff {o:List Nat}:o∈b.all↔b.Ord o:=by
 rw [Bk.mem_all,Bk.okTo_iff];simp only [List.nil_append];constructor
 ·rintro⟨h1,h2⟩;refine⟨h1,λ i hi=>?_,Qp5 λ X i Y e=>(Bk.can_iff.1 (h2 X i Y e).2).1,λ X i Y e=>(Bk.can_iff.1 (h2 X i Y e).2).2⟩;obtain⟨X,Y,e⟩:=List.append_of_mem hi;exact (h2 X i Y e).1
 ·intro h;refine⟨h.len,λ X i Y e=>⟨h.low i (by rw [e];simp),Bk.can_iff.2 ⟨λ hm=>?_,h.aft X i Y e⟩⟩⟩;have hn:=h.nod;rw [e] at hn;exact (List.nodup_append.1 hn).2.2 i hm i (List.mem_cons_self ..) rfl
theorem Q4w {n:Nat} {l:List Nat} (h:∀i,i<n->i∈l):n<=l.length:=by
 have key:∀(n:Nat) (l:List Nat),(∀i,i<n->i∈l)->n<=l.length:=by
  intro n
  induction n with
  | zero=>intro l _;exact Nat.zero_le _
  | succ n ih=>
   intro l h;obtain⟨X,Y,e⟩:=List.append_of_mem (h n (by omega))
   have:=ih (X++Y) λ i hi=>by
    have:=h i (by omega);rw [e] at this;simp only [List.mem_append,List.mem_cons] at this ⊢;rcases this with h | h | h
    ·exact .inl h
    ·omega
    ·exact .inr h
   rw [e];simp at this ⊢;omega
 exact key n l h
theorem Bk.A_n (b:Bk):b.A.length=b.cs.length:=by simp [Bk.A]
theorem Bk.Ok.ord {b:Bk} (h:b.Ok):∃o,b.Ord o:=by
 obtain⟨L,hL,hall⟩:=Q38 h.lo;rw [b.A_n] at hall;refine⟨L.reverse,?_,λ i hi=>by rw [<- b.A_n];exact hL.low i (by simpa using hi),(by unfold List.Nodup;rw [List.pairwise_reverse];exact hL.nod.imp Ne.symm),λ X i Y e k hk=>?_⟩
 ·rw [List.length_reverse];have h1:=Qbc hL.nod (n:=b.cs.length) λ x hx=>by rw [<- b.A_n];exact hL.low x hx
  have h2:=Q4w hall;omega
 ·have e':L=Y.reverse++i::X.reverse:=by
   rw [<- List.reverse_reverse L,e];simp
  have:=hL.aft _ _ _ e' k hk;simpa using this
theorem Bk.Ord.has {b:Bk} {o:List Nat} (h:b.Ord o) {i:Nat} (hi:i<b.cs.length):i∈o:=by
 apply Classical.byContradiction;intro hn;have h1:(i::o).Nodup:=List.nodup_cons.2 ⟨hn,h.nod⟩
 have:=Qbc h1 (n:=b.cs.length) λ x hx=>by
  rcases List.mem_cons.1 hx with rfl | hx
  ·exact hi
  ·exact h.low x hx
 rw [List.length_cons,h.len] at this;omega
theorem Bk.Ok.all_pos {b:Bk} (h:b.Ok):0<b.all.length:=by
 obtain⟨o,ho⟩:=h.ord;exact List.length_pos_of_mem (Bk.mem_all_iff.2 ho)
theorem Bk.stp_len (b:Bk) (x:List Bool×List Bool) (i:Nat):(b.stp x i).1.length=x.1.length/\(b.stp x i).2.length=x.2.length:=by
 unfold Bk.stp;split <;> simp
theorem Bk.end_len (b:Bk) (o:List Nat):(b.ends o).1.length=b.rs.length/\(b.ends o).2.length=b.cs.length:=by
 have key:∀(o:List Nat) (x:List Bool×List Bool),(o.foldl b.stp x).1.length=x.1.length/\(o.foldl b.stp x).2.length=x.2.length:=by
  intro o
  induction o with
  | nil=>exact λ x=>⟨rfl,rfl⟩
  | cons i o ih=>
   intro x;have h1:=ih (b.stp x i);have h2:=b.stp_len x i;exact⟨h1.1.trans h2.1,h1.2.trans h2.2⟩
 have:=key o b.ini;simpa [Bk.ends,Bk.ini] using this
theorem Qbj {l:List Bool} {i j:Nat} {v:Bool}:(l.set i v).getD j false=if i=j/\i<l.length then v else l.getD j false:=by
 simp only [List.getD_eq_getElem?_getD,List.getElem?_set];by_cases e:i=j
 ·subst e;by_cases h:i<l.length
  ·simp [h]
  ·simp [h]
 ·simp [e]
theorem Bk.end_facts (b:Bk) (h:b.Ok):∀(n:Nat) (o:List Nat),o.length=n->o.Nodup->(∀i∈o,i<b.cs.length) ->
  (∀i,i∉o->(b.ends o).2.getD i false=false)/\∀r,r<b.rs.length->(b.ends o).1.getD r false=!(o.any λ i=>(b.ends o).2.getD i false && (b.cas i).ag.toNat == r):=by
 intro n
 induction n with
 | zero=>
  intro o ho _ _;rw [List.length_eq_zero_iff] at ho;subst ho;refine⟨λ i _=>?_,λ r hr=>?_⟩
  ·simp only [Bk.ends,Bk.ini,List.foldl_nil,List.getD_eq_getElem?_getD,List.getElem?_replicate];split <;> rfl
  ·simp [Bk.ends,Bk.ini,List.getD_eq_getElem?_getD,List.getElem?_replicate,hr]
 | succ n ih=>
  intro o ho hn hl
  obtain⟨q,i,rfl⟩:∃q i,o=q++[i]:=by
   rcases List.eq_nil_or_concat o with e | ⟨q,i,e⟩
   ·rw [e] at ho;cases ho
   ·exact⟨q,i,by simpa using e⟩
  rw [List.nodup_append] at hn;have hni:i∉q:=λ hm=>hn.2.2 i hm i (List.mem_singleton.2 rfl) rfl;have hi:i<b.cs.length:=hl i (by simp);obtain⟨h1,h2⟩:=ih q (by simpa using ho) hn.1 λ j hj=>hl j (by simp [hj]);obtain⟨e1,e2⟩:=b.end_len q
  have hag:(b.cas i).ag.toNat<b.rs.length:=by
   have hm:b.cas i∈b.cs:=by
    unfold Bk.cas;rw [List.getD_eq_getElem?_getD,List.getElem?_eq_getElem hi];exact List.getElem_mem hi
   have:=h.ag _ hm;unfold Bk.nr at this;omega
  rw [b.ends_snoc];unfold Bk.stp;by_cases hw:Zng (b.cas i).gs (b.ends q).1=true
  ·rw [if_pos hw];refine⟨λ j hj=>?_,λ r hr=>?_⟩
   ·simp only [List.mem_append,List.mem_singleton,not_or] at hj;show ((b.ends q).2.set i true).getD j false=false;rw [Qbj,if_neg λ e=>hj.2 e.1.symm];exact h1 j hj.1
   ·show ((b.ends q).1.set (b.cas i).ag.toNat false).getD r false=!((q++[i]).any λ j=>((b.ends q).2.set i true).getD j false && (b.cas j).ag.toNat == r);rw [Qbj,List.any_append]
    have hq:(q.any λ j=>((b.ends q).2.set i true).getD j false && (b.cas j).ag.toNat == r)=q.any λ j=>(b.ends q).2.getD j false && (b.cas j).ag.toNat == r:=by
     have hq':∀j∈q,((b.ends q).2.set i true).getD j false=(b.ends q).2.getD j false:=λ j hj=>by rw [Qbj,if_neg (λ e:i=j/\_=>hni (e.1 ▸ hj))]
     rw [Bool.eq_iff_iff,List.any_eq_true,List.any_eq_true];constructor
     ·rintro⟨j,hj,hx⟩;rw [hq' j hj] at hx;exact⟨j,hj,hx⟩
     ·rintro⟨j,hj,hx⟩;rw [<- hq' j hj] at hx;exact⟨j,hj,hx⟩
    rw [hq];by_cases e:(b.cas i).ag.toNat=r
    ·rw [if_pos ⟨e,by omega⟩];have ht:((b.ends q).2.set i true).getD i false=true:=by rw [Qbj,if_pos ⟨rfl,by omega⟩]
     rw [List.any_cons,ht,e];simp
    ·rw [if_neg λ x=>e x.1,h2 r hr,List.any_cons,beq_false_of_ne e];simp
  ·rw [if_neg hw];refine⟨λ j hj=>h1 j λ x=>hj (by simp [x]),λ r hr=>?_⟩;rw [h2 r hr,List.any_append];rw [List.any_cons,h1 i hni];simp
theorem Bk.end_keep (b:Bk):∀(Y X:List Nat) (i:Nat),i∉Y->(b.ends (X++Y)).2.getD i false=(b.ends X).2.getD i false:=by
 intro Y
 induction Y with
 | nil=>intro X i _;simp
 | cons j Y ih=>
  intro X i hi;have e:X++j::Y=(X++[j])++Y:=by simp
  rw [e,ih (X++[j]) i λ h=>hi (by simp [h]),b.ends_snoc];unfold Bk.stp;split
  ·show ((b.ends X).2.set j true).getD i false=_;rw [Qbj,if_neg λ e=>hi (by simp [e.1])]
  ·rfl
theorem Bk.end_won (b:Bk) (h:b.Ok) {o X Y:List Nat} {i:Nat} (ho:b.Ord o) (e:o=X++i::Y):(b.ends o).2.getD i false=Zng (b.cas i).gs (b.ends X).1:=by
 have hn:=ho.nod;rw [e,List.nodup_append] at hn;have hiX:i∉X:=λ hm=>hn.2.2 i hm i (List.mem_cons_self ..) rfl;have hiY:i∉Y:=(List.nodup_cons.1 hn.2.1).1;have hi:i<b.cs.length:=ho.low i (by rw [e];simp);have e':o=(X++[i])++Y:=by rw [e];simp
 rw [e',b.end_keep Y (X++[i]) i hiY,b.ends_snoc];unfold Bk.stp;obtain⟨-,l2⟩:=b.end_len X;split
 ·rename_i hw;show ((b.ends X).2.set i true).getD i false=_;rw [Qbj,if_pos ⟨rfl,by omega⟩,hw]
 ·rename_i hw;have:=(b.end_facts h X.length X rfl hn.1 λ j hj=>ho.low j (by rw [e];simp [hj])).1 i hiX;rw [this];simpa using hw
theorem Bk.Ord.split {b:Bk} {o:List Nat} (h:b.Ord o) {i:Nat} (hi:i<b.cs.length):∃X Y,o=X++i::Y:=List.append_of_mem (h.has hi)
theorem Qqa {so all:Nat}:Q4h so all=1↔so=all:=by
 unfold Q4h;split
 ·rename_i h;simp [h]
 ·rename_i h;split
  ·simp [h]
  ·simp [h]
theorem Qvo {so all:Nat} (h0:0<all):Q4h so all=2↔so=0:=by
 unfold Q4h;split
 ·rename_i h;constructor
  ·intro x;cases x
  ·intro x;omega
 ·split
  ·rename_i h;simp [h]
  ·rename_i h;simp [h]
theorem Qae (so all:Nat):Q4h so all=0\/Q4h so all=1\/Q4h so all=2:=by
 unfold Q4h;split
 ·exact .inr (.inl rfl)
 ·split
  ·exact .inr (.inr rfl)
  ·exact .inl rfl
theorem Bk.fatC_one (b:Bk) {i:Nat}:b.fatC i=1↔∀o,b.Ord o->(b.ends o).2.getD i false=true:=by
 unfold Bk.fatC;rw [Qqa,List.countP_eq_length];exact⟨λ h o ho=>h o (Bk.mem_all_iff.2 ho),λ h o ho=>h o (Bk.mem_all_iff.1 ho)⟩
theorem Bk.fatR_one (b:Bk) {i:Nat}:b.fatR i=1↔∀o,b.Ord o->(b.ends o).1.getD i false=true:=by
 unfold Bk.fatR;rw [Qqa,List.countP_eq_length];exact⟨λ h o ho=>h o (Bk.mem_all_iff.2 ho),λ h o ho=>h o (Bk.mem_all_iff.1 ho)⟩
theorem Bk.fatC_two (b:Bk) (h:b.Ok) {i:Nat}:b.fatC i=2↔∀o,b.Ord o->(b.ends o).2.getD i false=false:=by
 unfold Bk.fatC;rw [Qvo h.all_pos,List.countP_eq_zero];exact⟨λ h o ho=>by simpa using h o (Bk.mem_all_iff.2 ho),λ h o ho=>by simpa using h o (Bk.mem_all_iff.1 ho)⟩
theorem Bk.fatR_two (b:Bk) (h:b.Ok) {i:Nat}:b.fatR i=2↔∀o,b.Ord o->(b.ends o).1.getD i false=false:=by
 unfold Bk.fatR;rw [Qvo h.all_pos,List.countP_eq_zero];exact⟨λ h o ho=>by simpa using h o (Bk.mem_all_iff.2 ho),λ h o ho=>by simpa using h o (Bk.mem_all_iff.1 ho)⟩
def Bk.nexts (b:Bk) (o:List Nat):List Nat:=(List.range b.cs.length).filter λ i=>b.can o i
def Bk.pickO (b:Bk) (p:List Nat):Nat->List Nat->List Nat
 | 0,o=>o
 | k+1,o=>b.pickO p k (o++[(b.nexts o).getD (p.getD o.length 0 % (b.nexts o).length) 0])
structure Bk.Beg (b:Bk) (o:List Nat):Prop where
 low:∀i∈o,i<b.cs.length
 nod:o.Nodup
 aft:∀X i Y,o=X++i::Y->∀k∈Je b.A i,k∈X
theorem Bk.Beg.nil:b.Beg []:=⟨by simp,.nil,λ X i Y e=>by cases X <;> cases e⟩
theorem Bk.Beg.le {o:List Nat} (h:b.Beg o):o.length<=b.cs.length:=Qbc h.nod h.low
theorem Bk.Beg.snoc {o:List Nat} {i:Nat} (h:b.Beg o) (hi:i<b.cs.length) (hc:b.can o i=true):b.Beg (o++[i]):=by
 obtain⟨h1,h2⟩:=Bk.can_iff.1 hc;refine⟨λ j hj=>?_,?_,λ X j Y e k hk=>?_⟩
 ·rcases List.mem_append.1 hj with hj | hj
  ·exact h.low j hj
  ·simp at hj;subst hj;exact hi
 ·rw [List.nodup_append];exact⟨h.nod,by simp,λ x hx y hy e=>by simp at hy;subst hy;subst e;exact h1 hx⟩
 ·rcases List.eq_nil_or_concat Y with rfl | ⟨Y',y,rfl⟩
  ·obtain⟨rfl,e2⟩:=List.append_inj' e (by simp);cases e2;exact h2 k hk
  ·have e':o++[i]=(X++j::Y')++[y]:=by rw [e];simp
   obtain⟨e1,-⟩:=List.append_inj' e' (by simp);exact h.aft X j Y' e1 k hk
theorem Bk.Beg.next {o:List Nat} (hok:b.Ok) (h:b.Beg o) (hlt:o.length<b.cs.length):0<(b.nexts o).length:=by
 obtain⟨f,hf⟩:=hok.ord
 have hex:∃i∈f,i∉o:=by
  apply Classical.byContradiction;intro hn
  have hall:∀i,i<b.cs.length->i∈o:=λ i hi=>by
   apply Classical.byContradiction;intro hni;exact hn ⟨i,hf.has hi,hni⟩
  have:=Q4w hall;omega
 have hfirst:∃X i Y,f=X++i::Y/\i∉o/\∀k∈X,k∈o:=by
  have key:∀(Y X:List Nat),f=X++Y->(∀k∈X,k∈o)->(∃i∈Y,i∉o)->∃X i Y,f=X++i::Y/\i∉o/\∀k∈X,k∈o:=by
   intro Y
   induction Y with
   | nil=>rintro X _ _ ⟨i,hi,-⟩;cases hi
   | cons y Y ih=>
    rintro X e hX ⟨i,hi,hni⟩;by_cases hy:y∈o
    ·refine ih (X++[y]) (by rw [e];simp) (λ k hk=>?_) ?_
     ·rcases List.mem_append.1 hk with hk | hk
      ·exact hX k hk
      ·simp at hk;subst hk;exact hy
     ·rcases List.mem_cons.1 hi with rfl | hi
      ·exact absurd hy hni
      ·exact⟨i,hi,hni⟩
    ·exact⟨X,y,Y,e,hy,hX⟩
  exact key f [] (by simp) (by simp) hex
 obtain⟨X,i,Y,e,hi,hX⟩:=hfirst;refine List.length_pos_of_mem (a:=i) (List.mem_filter.2 ⟨List.mem_range.2 (hf.low i (by rw [e];simp)),?_⟩);exact Bk.can_iff.2 ⟨hi,λ k hk=>hX k (hf.aft X i Y e k hk)⟩
theorem Bk.nexts_at {o:List Nat} {q:Nat} (h:q<(b.nexts o).length):(b.nexts o).getD q 0<b.cs.length/\b.can o ((b.nexts o).getD q 0)=true:=by
 have hm:(b.nexts o).getD q 0∈b.nexts o:=by
  rw [List.getD_eq_getElem?_getD,List.getElem?_eq_getElem h];exact List.getElem_mem h
 obtain⟨h1,h2⟩:=List.mem_filter.1 hm;exact⟨List.mem_range.1 h1,h2⟩
theorem Bk.pick_beg (hok:b.Ok) (p:List Nat):∀(k:Nat) (o:List Nat),b.Beg o->o.length+k<=b.cs.length->b.Beg (b.pickO p k o)/\(b.pickO p k o).length=o.length+k
 | 0,o,h,_=>⟨h,rfl⟩
 | k+1,o,h,hl=>by
  have hn:=h.next hok (by omega);obtain⟨h1,h2⟩:=Bk.nexts_at (Nat.mod_lt (p.getD o.length 0) hn);have:=Bk.pick_beg hok p k _ (h.snoc h1 h2) (by simp;omega);refine⟨this.1,?_⟩;have h3:=this.2;simp only [List.length_append,List.length_singleton] at h3;show (b.pickO p k _).length=_;omega
theorem Bk.pick_ord (hok:b.Ok) (p:List Nat):b.Ord (b.pickO p b.cs.length []):=by
 obtain⟨h1,h2⟩:=Bk.pick_beg hok p b.cs.length [] Bk.Beg.nil (by simp);exact⟨by simpa using h2,h1.low,h1.nod,h1.aft⟩
theorem Bk.Ord.flaw {o:List Nat} (h:b.Ord o):b.ordF (o.map λ (k:Nat)=>(k:Int))=0:=by
 have key:∀(q p:List Nat),o=p++q->b.ordL p (q.map λ (k:Nat)=>(k:Int))=0:=by
  intro q
  induction q with
  | nil=>intro p _;rfl
  | cons i q ih=>
   intro p e;have hi:i<b.cs.length:=h.low i (by rw [e];simp);have hn:=h.nod;rw [e,List.nodup_append] at hn;have hip:i∉p:=λ hm=>hn.2.2 i hm i (List.mem_cons_self ..) rfl;have ha:=h.aft p i q e;show (if Go.TM.btw (i:Int) 0 (b.nc-1) then (if (i:Int).toNat∈p then 5 else if (Je b.A (i:Int).toNat).all (λ k=>p.contains k) then b.ordL (p++[(i:Int).toNat]) (q.map λ (k:Nat)=>(k:Int)) else 7) else 6)=0;rw [if_pos (by unfold Bk.nc;simp [btw];omega),Int.toNat_natCast,if_neg hip,if_pos (by rw [List.all_eq_true];intro k hk;simpa using ha k hk)];exact ih (p++[i]) (by rw [e];simp)
 unfold Bk.ordF;rw [if_neg (by rw [List.length_map,h.len];simp)];exact key o [] rfl
theorem Bk.agC (hok:b.Ok) {o:List Nat} (ho:b.Ord o) (i:Nat):(b.fatC i == 0 || ((b.fatC i == 1) == (b.ends o).2.getD i false))=true:=by
 rcases Qae (b.all.countP λ o=>(b.ends o).2.getD i false) b.all.length with h | h | h
 ·have h:b.fatC i=0:=h;rw [h];rfl
 ·have h:b.fatC i=1:=h;have:=b.fatC_one.1 h o ho;rw [h,this];rfl
 ·have h:b.fatC i=2:=h;have:=(b.fatC_two hok).1 h o ho;rw [h,this];rfl
theorem Bk.agR (hok:b.Ok) {o:List Nat} (ho:b.Ord o) (i:Nat):(b.fatR i == 0 || ((b.fatR i == 1) == (b.ends o).1.getD i false))=true:=by
 rcases Qae (b.all.countP λ o=>(b.ends o).1.getD i false) b.all.length with h | h | h
 ·have h:b.fatR i=0:=h;rw [h];rfl
 ·have h:b.fatR i=1:=h;have:=b.fatR_one.1 h o ho;rw [h,this];rfl
 ·have h:b.fatR i=2:=h;have:=(b.fatR_two hok).1 h o ho;rw [h,this];rfl
theorem Bk.won_at (hok:b.Ok) {o:List Nat} (ho:b.Ord o) {j i:Nat} (hj:o[j]?=some i):(b.ends o).2.getD i false=Zng (b.cas i).gs (b.ends (o.take j)).1:=by
 obtain⟨hlt,e⟩:=List.getElem?_eq_some_iff.1 hj;refine b.end_won hok ho (X:=o.take j) (Y:=o.drop (j+1)) ?_;rw [<- e,List.getElem_cons_drop,List.take_append_drop]
end Go.TM
