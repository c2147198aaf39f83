/- Lemmas of the proof. No conditions of their own. -/
import Derived.Test.YtnpfcnfhfkflhaaGreatDoorC00
set_option linter.all false
namespace Go.TM
variable {b:Bk}
def Bk.okTo (b:Bk):List Nat->List Nat->Bool
 | _,[]=>true
 | p,i::q=>decide (i<b.cs.length) && b.can p i && b.okTo (p++[i]) q
theorem Bk.mem_ords:∀(k:Nat) (p o:List Nat),o∈b.ords k p↔∃q,o=p++q/\q.length=k/\b.okTo p q=true
 | 0,p,o=>by
  simp only [Bk.ords,List.mem_singleton];constructor
  ·rintro rfl;exact⟨[],by simp,rfl,rfl⟩
  ·rintro⟨q,rfl,hq,-⟩;rw [List.length_eq_zero_iff] at hq;simp [hq]
 | k+1,p,o=>by
  simp only [Bk.ords,List.mem_flatMap,List.mem_range];constructor
  ·rintro⟨i,hi,ho⟩;split at ho
   ·rename_i hc;obtain⟨q,rfl,hq,hk⟩:=(Bk.mem_ords k (p++[i]) o).1 ho;exact⟨i::q,by simp,by simp [hq],by simp [Bk.okTo,hi,hc,hk]⟩
   ·cases ho
  ·rintro⟨q,rfl,hq,hk⟩;cases q with
   | nil=>cases hq
   | cons i q=>
    simp only [Bk.okTo,Bool.and_eq_true,decide_eq_true_eq] at hk;refine⟨i,hk.1.1,?_⟩;rw [if_pos hk.1.2];exact (Bk.mem_ords k (p++[i]) _).2 ⟨q,by simp,by simpa using hq,hk.2⟩
theorem Bk.mem_all {o:List Nat}:o∈b.all↔o.length=b.cs.length/\b.okTo [] o=true:=by
 unfold Bk.all;rw [Bk.mem_ords];constructor
 ·rintro⟨q,rfl,hq,hk⟩;exact⟨hq,hk⟩
 ·rintro⟨h1,h2⟩;exact⟨o,rfl,h1,h2⟩
theorem Bk.okTo_iff:∀(q p:List Nat),b.okTo p q=true↔∀X i Y,q=X++i::Y->i<b.cs.length/\b.can (p++X) i=true
 | [],p=>by simp [Bk.okTo]
 | i::q,p=>by
  simp only [Bk.okTo,Bool.and_eq_true,decide_eq_true_eq];rw [Bk.okTo_iff q (p++[i])];constructor
  ·rintro⟨⟨h1,h2⟩,h3⟩ X j Y e;cases X with
   | nil=>
    simp only [List.nil_append,List.cons.injEq] at e;obtain⟨rfl,rfl⟩:=e;simpa using ⟨h1,h2⟩
   | cons x X=>
    simp only [List.cons_append,List.cons.injEq] at e;obtain⟨rfl,rfl⟩:=e;have:=h3 X j Y rfl;simpa using this
  ·intro h;refine⟨by simpa using h [] i q rfl,λ X j Y e=>?_⟩;have:=h (i::X) j Y (by simp [e]);simpa using this
theorem Bk.can_iff {o:List Nat} {i:Nat}:b.can o i=true↔i∉o/\∀k∈Je b.A i,k∈o:=by
 simp [Bk.can]
structure Bk.Ord (b:Bk) (o:List Nat):Prop where
 len:o.length=b.cs.length
 low:∀i∈o,i<b.cs.length
 nod:o.Nodup
 aft:∀X i Y,o=X++i::Y->∀k∈Je b.A i,k∈X
theorem Qzk:∀{o:List Nat},(∀X i Y,o=X++i::Y->i∉X)->o.Nodup:=by
 intro o h;rw [List.nodup_iff_pairwise_ne,List.pairwise_iff_getElem];intro i j hi hj hij e;refine h (o.take j) o[j] (o.drop (j+1)) (by rw [List.getElem_cons_drop,List.take_append_drop]) ?_;rw [<- e,List.mem_take_iff_getElem];exact⟨i,by omega,rfl⟩
theorem Bk.mem_all_iff {o:List Nat}:o∈b.all↔b.Ord o:=by
 rw [Bk.mem_all,Bk.okTo_iff];simp only [List.nil_append];constructor
 ·rintro⟨h1,h2⟩;refine⟨h1,λ i hi=>?_,Qzk λ X i Y e=>(Bk.can_iff.1 (h2 X i Y e).2).1,λ X i Y e=>(Bk.can_iff.1 (h2 X i Y e).2).2⟩;obtain⟨X,Y,e⟩:=List.append_of_mem hi;exact (h2 X i Y e).1
 ·intro h;refine⟨h.len,λ X i Y e=>⟨h.low i (by rw [e];simp),Bk.can_iff.2 ⟨λ hm=>?_,h.aft X i Y e⟩⟩⟩;have hn:=h.nod;rw [e] at hn;exact (List.nodup_append.1 hn).2.2 i hm i (List.mem_cons_self ..) rfl
theorem Zg4 {n:Nat} {l:List Nat} (h:∀i,i<n->i∈l):n<=l.length:=by
 have key:∀(n:Nat) (l:List Nat),(∀i,i<n->i∈l)->n<=l.length:=by
  intro n
  induction n with
  | zero=>intro l _;exact Nat.zero_le _
  | succ n ih=>
   intro l h;obtain⟨X,Y,e⟩:=List.append_of_mem (h n (by omega))
   have:=ih (X++Y) λ i hi=>by
    have:=h i (by omega);rw [e] at this;simp only [List.mem_append,List.mem_cons] at this ⊢;rcases this with h | h | h
    ·exact .inl h
    ·omega
    ·exact .inr h
   rw [e];simp at this ⊢;omega
 exact key n l h
theorem Bk.A_n (b:Bk):b.A.length=b.cs.length:=by simp [Bk.A]
theorem Bk.Ok.ord {b:Bk} (h:b.Ok):∃o,b.Ord o:=by
 obtain⟨L,hL,hall⟩:=Q38 h.lo;rw [b.A_n] at hall;refine⟨L.reverse,?_,λ i hi=>by rw [<- b.A_n];exact hL.low i (by simpa using hi),(by unfold List.Nodup;rw [List.pairwise_reverse];exact hL.nod.imp Ne.symm),λ X i Y e k hk=>?_⟩
 ·rw [List.length_reverse];have h1:=Qbc hL.nod (n:=b.cs.length) λ x hx=>by rw [<- b.A_n];exact hL.low x hx
  have h2:=Zg4 hall;omega
 ·have e':L=Y.reverse++i::X.reverse:=by
   rw [<- List.reverse_reverse L,e];simp
  have:=hL.aft _ _ _ e' k hk;simpa using this
theorem Bk.Ord.has {b:Bk} {o:List Nat} (h:b.Ord o) {i:Nat} (hi:i<b.cs.length):i∈o:=by
 apply Classical.byContradiction;intro hn;have h1:(i::o).Nodup:=List.nodup_cons.2 ⟨hn,h.nod⟩
 have:=Qbc h1 (n:=b.cs.length) λ x hx=>by
  rcases List.mem_cons.1 hx with rfl | hx
  ·exact hi
  ·exact h.low x hx
 rw [List.length_cons,h.len] at this;omega
theorem Bk.Ok.all_pos {b:Bk} (h:b.Ok):0<b.all.length:=by
 obtain⟨o,ho⟩:=h.ord;exact List.length_pos_of_mem (Bk.mem_all_iff.2 ho)
theorem Bk.stp_len (b:Bk) (x:List Bool×List Bool) (i:Nat):(b.stp x i).1.length=x.1.length/\(b.stp x i).2.length=x.2.length:=by
 unfold Bk.stp;split <;> simp
theorem Bk.end_len (b:Bk) (o:List Nat):(b.ends o).1.length=b.rs.length/\(b.ends o).2.length=b.cs.length:=by
 have key:∀(o:List Nat) (x:List Bool×List Bool),(o.foldl b.stp x).1.length=x.1.length/\(o.foldl b.stp x).2.length=x.2.length:=by
  intro o
  induction o with
  | nil=>exact λ x=>⟨rfl,rfl⟩
  | cons i o ih=>
   intro x;have h1:=ih (b.stp x i);have h2:=b.stp_len x i;exact⟨h1.1.trans h2.1,h1.2.trans h2.2⟩
 have:=key o b.ini;simpa [Bk.ends,Bk.ini] using this
theorem Qvz {l:List Bool} {i j:Nat} {v:Bool}:(l.set i v).getD j false=if i=j/\i<l.length then v else l.getD j false:=by
 simp only [List.getD_eq_getElem?_getD,List.getElem?_set];by_cases e:i=j
 ·subst e;by_cases h:i<l.length
  ·simp [h]
  ·simp [h]
 ·simp [e]
theorem Bk.Ord.split {b:Bk} {o:List Nat} (h:b.Ord o) {i:Nat} (hi:i<b.cs.length):∃X Y,o=X++i::Y:=List.append_of_mem (h.has hi)
theorem Q0h {so all:Nat}:Q4h so all=1↔so=all:=by
 unfold Q4h;split
 ·rename_i h;simp [h]
 ·rename_i h;split
  ·simp [h]
  ·simp [h]
theorem Q0j {so all:Nat} (h0:0<all):Q4h so all=2↔so=0:=by
 unfold Q4h;split
 ·rename_i h;constructor
  ·intro x;cases x
  ·intro x;omega
 ·split
  ·rename_i h;simp [h]
  ·rename_i h;simp [h]
theorem Qlg (so all:Nat):Q4h so all=0\/Q4h so all=1\/Q4h so all=2:=by
 unfold Q4h;split
 ·exact .inr (.inl rfl)
 ·split
  ·exact .inr (.inr rfl)
  ·exact .inl rfl
theorem Bk.fatC_one (b:Bk) {i:Nat}:b.fatC i=1↔∀o,b.Ord o->(b.ends o).2.getD i false=true:=by
 unfold Bk.fatC;rw [Q0h,List.countP_eq_length];exact⟨λ h o ho=>h o (Bk.mem_all_iff.2 ho),λ h o ho=>h o (Bk.mem_all_iff.1 ho)⟩
theorem Bk.fatR_one (b:Bk) {i:Nat}:b.fatR i=1↔∀o,b.Ord o->(b.ends o).1.getD i false=true:=by
 unfold Bk.fatR;rw [Q0h,List.countP_eq_length];exact⟨λ h o ho=>h o (Bk.mem_all_iff.2 ho),λ h o ho=>h o (Bk.mem_all_iff.1 ho)⟩
theorem Bk.fatC_two (b:Bk) (h:b.Ok) {i:Nat}:b.fatC i=2↔∀o,b.Ord o->(b.ends o).2.getD i false=false:=by
 unfold Bk.fatC;rw [Q0j h.all_pos,List.countP_eq_zero];exact⟨λ h o ho=>by simpa using h o (Bk.mem_all_iff.2 ho),λ h o ho=>by simpa using h o (Bk.mem_all_iff.1 ho)⟩
theorem Bk.fatR_two (b:Bk) (h:b.Ok) {i:Nat}:b.fatR i=2↔∀o,b.Ord o->(b.ends o).1.getD i false=false:=by
 unfold Bk.fatR;rw [Q0j h.all_pos,List.countP_eq_zero];exact⟨λ h o ho=>by simpa using h o (Bk.mem_all_iff.2 ho),λ h o ho=>by simpa using h o (Bk.mem_all_iff.1 ho)⟩
def Bk.nexts (b:Bk) (o:List Nat):List Nat:=(List.range b.cs.length).filter λ i=>b.can o i
def Bk.pickO (b:Bk) (p:List Nat):Nat->List Nat->List Nat
 | 0,o=>o
 | k+1,o=>b.pickO p k (o++[(b.nexts o).getD (p.getD o.length 0 % (b.nexts o).length) 0])
structure Bk.Beg (b:Bk) (o:List Nat):Prop where
 low:∀i∈o,i<b.cs.length
 nod:o.Nodup
 aft:∀X i Y,o=X++i::Y->∀k∈Je b.A i,k∈X
theorem Bk.Beg.nil:b.Beg []:=⟨by simp,.nil,λ X i Y e=>by cases X <;> cases e⟩
theorem Bk.Beg.le {o:List Nat} (h:b.Beg o):o.length<=b.cs.length:=Qbc h.nod h.low
theorem Bk.Beg.snoc {o:List Nat} {i:Nat} (h:b.Beg o) (hi:i<b.cs.length) (hc:b.can o i=true):b.Beg (o++[i]):=by
 obtain⟨h1,h2⟩:=Bk.can_iff.1 hc;refine⟨λ j hj=>?_,?_,λ X j Y e k hk=>?_⟩
 ·rcases List.mem_append.1 hj with hj | hj
  ·exact h.low j hj
  ·simp at hj;subst hj;exact hi
 ·rw [List.nodup_append];exact⟨h.nod,by simp,λ x hx y hy e=>by simp at hy;subst hy;subst e;exact h1 hx⟩
 ·rcases List.eq_nil_or_concat Y with rfl | ⟨Y',y,rfl⟩
  ·obtain⟨rfl,e2⟩:=List.append_inj' e (by simp);cases e2;exact h2 k hk
  ·have e':o++[i]=(X++j::Y')++[y]:=by rw [e];simp
   obtain⟨e1,-⟩:=List.append_inj' e' (by simp);exact h.aft X j Y' e1 k hk
theorem Bk.Beg.next {o:List Nat} (hok:b.Ok) (h:b.Beg o) (hlt:o.length<b.cs.length):0<(b.nexts o).length:=by
 obtain⟨f,hf⟩:=hok.ord
 have hex:∃i∈f,i∉o:=by
  apply Classical.byContradiction;intro hn
  have hall:∀i,i<b.cs.length->i∈o:=λ i hi=>by
   apply Classical.byContradiction;intro hni;exact hn ⟨i,hf.has hi,hni⟩
  have:=Zg4 hall;omega
 have hfirst:∃X i Y,f=X++i::Y/\i∉o/\∀k∈X,k∈o:=by
  have key:∀(Y X:List Nat),f=X++Y->(∀k∈X,k∈o)->(∃i∈Y,i∉o)->∃X i Y,f=X++i::Y/\i∉o/\∀k∈X,k∈o:=by
   intro Y
   induction Y with
   | nil=>rintro X _ _ ⟨i,hi,-⟩;cases hi
   | cons y Y ih=>
    rintro X e hX ⟨i,hi,hni⟩;by_cases hy:y∈o
    ·refine ih (X++[y]) (by rw [e];simp) (λ k hk=>?_) ?_
     ·rcases List.mem_append.1 hk with hk | hk
      ·exact hX k hk
      ·simp at hk;subst hk;exact hy
     ·rcases List.mem_cons.1 hi with rfl | hi
      ·exact absurd hy hni
      ·exact⟨i,hi,hni⟩
    ·exact⟨X,y,Y,e,hy,hX⟩
  exact key f [] (by simp) (by simp) hex
 obtain⟨X,i,Y,e,hi,hX⟩:=hfirst;refine List.length_pos_of_mem (a:=i) (List.mem_filter.2 ⟨List.mem_range.2 (hf.low i (by rw [e];simp)),?_⟩);exact Bk.can_iff.2 ⟨hi,λ k hk=>hX k (hf.aft X i Y e k hk)⟩
theorem Bk.nexts_at {o:List Nat} {q:Nat} (h:q<(b.nexts o).length):(b.nexts o).getD q 0<b.cs.length/\b.can o ((b.nexts o).getD q 0)=true:=by
 have hm:(b.nexts o).getD q 0∈b.nexts o:=by
  rw [List.getD_eq_getElem?_getD,List.getElem?_eq_getElem h];exact List.getElem_mem h
 obtain⟨h1,h2⟩:=List.mem_filter.1 hm;exact⟨List.mem_range.1 h1,h2⟩
theorem Bk.pick_beg (hok:b.Ok) (p:List Nat):∀(k:Nat) (o:List Nat),b.Beg o->o.length+k<=b.cs.length->b.Beg (b.pickO p k o)/\(b.pickO p k o).length=o.length+k
 | 0,o,h,_=>⟨h,rfl⟩
 | k+1,o,h,hl=>by
  have hn:=h.next hok (by omega);obtain⟨h1,h2⟩:=Bk.nexts_at (Nat.mod_lt (p.getD o.length 0) hn);have:=Bk.pick_beg hok p k _ (h.snoc h1 h2) (by simp;omega);refine⟨this.1,?_⟩;have h3:=this.2;simp only [List.length_append,List.length_singleton] at h3;show (b.pickO p k _).length=_;omega
theorem Bk.pick_ord (hok:b.Ok) (p:List Nat):b.Ord (b.pickO p b.cs.length []):=by
 obtain⟨h1,h2⟩:=Bk.pick_beg hok p b.cs.length [] Bk.Beg.nil (by simp);exact⟨by simpa using h2,h1.low,h1.nod,h1.aft⟩
theorem Bk.Ord.flaw {o:List Nat} (h:b.Ord o):b.ordF (o.map λ (k:Nat)=>(k:Int))=0:=by
 have key:∀(q p:List Nat),o=p++q->b.ordL p (q.map λ (k:Nat)=>(k:Int))=0:=by
  intro q
  induction q with
  | nil=>intro p _;rfl
  | cons i q ih=>
   intro p e;have hi:i<b.cs.length:=h.low i (by rw [e];simp);have hn:=h.nod;rw [e,List.nodup_append] at hn;have hip:i∉p:=λ hm=>hn.2.2 i hm i (List.mem_cons_self ..) rfl;have ha:=h.aft p i q e;show (if Go.TM.btw (i:Int) 0 (b.nc-1) then (if (i:Int).toNat∈p then 5 else if (Je b.A (i:Int).toNat).all (λ k=>p.contains k) then b.ordL (p++[(i:Int).toNat]) (q.map λ (k:Nat)=>(k:Int)) else 7) else 6)=0;rw [if_pos (by unfold Bk.nc;simp [btw];omega),Int.toNat_natCast,if_neg hip,if_pos (by rw [List.all_eq_true];intro k hk;simpa using ha k hk)];exact ih (p++[i]) (by rw [e];simp)
 unfold Bk.ordF;rw [if_neg (by rw [List.length_map,h.len];simp)];exact key o [] rfl
end Go.TM
namespace Go.TM
variable {b o:Bk}
structure Bk.Turn (b o:Bk) (p q:Nat->Nat):Prop where
 rs:o.rs=b.rs
 n:o.cs.length=b.cs.length
 pl:∀i,i<b.cs.length->p i<b.cs.length
 ql:∀i,i<b.cs.length->q i<b.cs.length
 qp:∀i,i<b.cs.length->q (p i)=i
 pq:∀i,i<b.cs.length->p (q i)=i
 nm:∀i,i<b.cs.length->(o.cas i).nm=(b.cas (p i)).nm
 ag:∀i,i<b.cs.length->(o.cas i).ag=(b.cas (p i)).ag
 gs:∀i,i<b.cs.length->(o.cas i).gs=(b.cas (p i)).gs
 af:∀i,i<b.cs.length->∀k,k<b.cs.length->(k∈Je o.A i↔p k∈Je b.A (p i))
theorem Bk.Turn.symm {p q:Nat->Nat} (h:b.Turn o p q):o.Turn b q p:=by
 have hn:=h.n;refine⟨h.rs.symm,h.n.symm,?_,?_,?_,?_,?_,?_,?_,?_⟩ <;> rw [hn]
 ·exact h.ql
 ·exact h.pl
 ·exact h.pq
 ·exact h.qp
 ·intro i hi;rw [h.nm _ (h.ql i hi),h.pq i hi]
 ·intro i hi;rw [h.ag _ (h.ql i hi),h.pq i hi]
 ·intro i hi;rw [h.gs _ (h.ql i hi),h.pq i hi]
 ·intro i hi k hk;rw [h.af _ (h.ql i hi) _ (h.ql k hk),h.pq i hi,h.pq k hk]
theorem Bk.Turn.ends {p q:Nat->Nat} (h:b.Turn o p q):∀(n:Nat) (l:List Nat),l.length=n->(∀i∈l,i<b.cs.length)->(o.ends l).1=(b.ends (l.map p)).1/\∀i,i<b.cs.length->(o.ends l).2.getD i false=(b.ends (l.map p)).2.getD (p i) false:=by
 intro n
 induction n with
 | zero=>
  intro l hl _;rw [List.length_eq_zero_iff] at hl;subst hl;refine⟨by simp [Bk.ends,Bk.ini,h.rs],λ i hi=>?_⟩;simp [Bk.ends,Bk.ini,List.getD_eq_getElem?_getD,List.getElem?_replicate,h.n,hi,h.pl i hi]
 | succ n ih=>
  intro l hl hlow
  obtain⟨l',i,rfl⟩:∃l' i,l=l'++[i]:=by
   rcases List.eq_nil_or_concat l with e | ⟨q,i,e⟩
   ·rw [e] at hl;cases hl
   ·exact⟨q,i,by simpa using e⟩
  obtain⟨h1,h2⟩:=ih l' (by simpa using hl) λ j hj=>hlow j (by simp [hj]);have hi:=hlow i (by simp);rw [List.map_append,List.map_singleton,o.ends_snoc,b.ends_snoc];unfold Bk.stp;rw [h.gs i hi,h.ag i hi,h1];by_cases hw:Zng (b.cas (p i)).gs (b.ends (l'.map p)).1=true
  ·rw [if_pos hw,if_pos hw];refine⟨rfl,λ j hj=>?_⟩;show ((o.ends l').2.set i true).getD j false=((b.ends (l'.map p)).2.set (p i) true).getD (p j) false;rw [Qvz,Qvz,(o.end_len l').2,(b.end_len _).2,h.n,h2 j hj];by_cases e:i=j
   ·subst e;simp [hi,h.pl i hi]
   ·have:p i≠p j:=λ e'=>e (by rw [<- h.qp i hi,e',h.qp j hj]);simp [e,this]
  ·rw [if_neg hw,if_neg hw];exact⟨h1,h2⟩
theorem Bk.Turn.ord {p q:Nat->Nat} (hok:b.Ok) (h:b.Turn o p q) {l:List Nat} (hl:o.Ord l):b.Ord (l.map p):=by
 have hlow:∀i∈l,i<b.cs.length:=λ i hi=>h.n ▸ hl.low i hi;refine⟨by rw [List.length_map,hl.len,h.n],λ i hi=>?_,?_,λ X j Y e k hk=>?_⟩
 ·obtain⟨j,hj,rfl⟩:=List.mem_map.1 hi;exact h.pl j (hlow j hj)
 ·refine List.pairwise_map.2 (hl.nod.imp_of_mem λ {x y} hx hy hne e=>hne ?_);rw [<- h.qp x (hlow x hx),e,h.qp y (hlow y hy)]
 ·obtain⟨X',l',rfl,rfl,e2⟩:=List.map_eq_append_iff.1 e;obtain⟨i,Y',rfl,rfl,rfl⟩:=List.map_eq_cons_iff.1 e2;have hi:=hlow i (by simp)
  have hkl:k<b.cs.length:=by
   have:=hok.low (p i) (by rw [b.A_n];exact h.pl i hi) k hk
   rwa [b.A_n] at this
  refine List.mem_map.2 ⟨q k,hl.aft X' i Y' rfl (q k) ?_,h.pq k hkl⟩;rw [h.af i hi (q k) (h.ql k hkl),h.pq k hkl];exact hk
theorem Qjj {nameB:ByteArray->Bool} {nr nc:Int}:∀{l:List Cs} {seen:List ByteArray},Qi9 nameB nr nc seen l=0 ↔
  (∀c∈l,nameB c.nm=true/\btw c.ag 0 (nr-1)=true/\Qfp nr c.gs=0/\J1 nc none c.af=0/\c.nm∉seen)/\(l.map (·.nm)).Nodup
 | [],seen=>by simp [Qi9]
 | c::l,seen=>by
  have ih:=Qjj (nameB:=nameB) (nr:=nr) (nc:=nc) (l:=l) (seen:=seen++[c.nm]);simp only [Qi9,List.mem_cons,List.map_cons,List.nodup_cons,forall_eq_or_imp];by_cases h1:nameB c.nm=true
  ·by_cases h2:Qa8 seen c.nm=true
   ·rw [if_pos h1,if_pos h2];have:=Zj1.1 h2;simp [this]
   ·have h2':c.nm∉seen:=λ h=>h2 (Zj1.2 h);rw [if_pos h1,if_neg h2];by_cases h3:btw c.ag 0 (nr-1)=true
    ·by_cases h4:Qfp nr c.gs=0
     ·by_cases h5:J1 nc none c.af=0
      ·rw [if_pos h3,if_pos h4,if_pos h5,ih];simp only [h1,h2',h3,h4,h5,true_and,not_false_iff];constructor
       ·rintro⟨a1,a2⟩;refine⟨λ d hd=>?_,λ hm=>?_,a2⟩
        ·obtain⟨x1,x2,x3,x4,x5⟩:=a1 d hd;exact⟨x1,x2,x3,x4,λ hh=>x5 (by simp [hh])⟩
        ·obtain⟨d,hd,e⟩:=List.mem_map.1 hm;exact (a1 d hd).2.2.2.2 (by simp [e])
       ·rintro⟨a1,a2,a3⟩;refine⟨λ d hd=>?_,a3⟩;obtain⟨x1,x2,x3,x4,x5⟩:=a1 d hd;refine⟨x1,x2,x3,x4,λ hh=>?_⟩;rcases List.mem_append.1 hh with hh | hh
        ·exact x5 hh
        ·simp at hh;exact a2 (List.mem_map.2 ⟨d,hd,hh⟩)
      ·rw [if_pos h3,if_pos h4,if_neg h5];simp [h5]
     ·rw [if_pos h3,if_neg h4];simp [h4]
    ·rw [if_neg h3];simp [h3]
  ·rw [if_neg h1];simp [h1]
theorem Bk.cas_ex {c:Cs} (h:c∈b.cs):∃i,i<b.cs.length/\b.cas i=c:=by
 obtain⟨i,hi,e⟩:=List.mem_iff_getElem.1 h;exact⟨i,hi,by simp [Bk.cas,List.getD_eq_getElem?_getD,hi,e]⟩
theorem Bk.mem_cas {i:Nat} (hi:i<b.cs.length):b.cas i∈b.cs:=by
 unfold Bk.cas;rw [List.getD_eq_getElem?_getD,List.getElem?_eq_getElem hi];exact List.getElem_mem hi
theorem Bk.Turn.flaw {nameB:ByteArray->Bool} {p q:Nat->Nat} (hf:b.flaw nameB=0) (h:b.Turn o p q) (hri:∀i,i<b.cs.length->J1 b.nc none (o.cas i).af=0):o.flaw nameB=0:=by
 have hok:=Bk.ok_of hf
 have hlow:∀i,i<o.A.length->∀k∈Je o.A i,k<o.A.length:=λ i hi k hk=>by
  rw [o.A_n] at hi ⊢;have e:Je o.A i=(o.cas i).af.map Int.toNat:=by simp [Je,Bk.A,Bk.cas,List.getD_eq_getElem?_getD,hi]
  rw [e] at hk;obtain⟨n,hn,rfl⟩:=List.mem_map.1 hk;have:=Qqf (hri i (h.n ▸ hi)) n hn;rw [h.n];unfold Bk.nc at this;omega
 have h3:Wq o.A=false:=by
  obtain⟨ρ,hρ⟩:=Zmb hok.lo;refine Za9 hlow (λ i=>ρ (p i)) λ i hi k hk=>?_;have hkl:=hlow i hi k hk;rw [o.A_n,h.n] at hi hkl;exact hρ (p i) (by rw [b.A_n];exact h.pl i hi) (p k) ((h.af i hi k hkl).1 hk)
 unfold Bk.flaw at hf ⊢;have hrs:o.rsF nameB=b.rsF nameB:=by unfold Bk.rsF;rw [h.rs]
 rw [hrs];split at hf
 ·rename_i h1;rw [if_pos h1];split at hf
  ·rename_i h2
   have hcs:o.csF nameB=0:=by
    unfold Bk.csF at h2 ⊢;rw [h.n];split at h2
    ·cases h2
    ·rename_i h5;rw [if_neg h5,Qjj];obtain⟨a1,a2⟩:=Qjj.1 h2;have hnr:o.nr=b.nr:=by unfold Bk.nr;rw [h.rs]
     have hnc:o.nc=b.nc:=by unfold Bk.nc;rw [h.n]
     rw [hnr,hnc];refine⟨λ c hc=>?_,?_⟩
     ·obtain⟨i,hi,rfl⟩:=Bk.cas_ex hc;rw [h.n] at hi;obtain⟨x1,x2,x3,-,-⟩:=a1 _ (Bk.mem_cas (h.pl i hi));rw [h.nm i hi,h.ag i hi,h.gs i hi];exact⟨x1,x2,x3,hri i hi,by simp⟩
     ·rw [List.nodup_iff_pairwise_ne,List.pairwise_iff_getElem] at a2 ⊢;simp only [List.length_map,List.getElem_map] at a2 ⊢;intro i j hi hj hij e;have ei:(o.cas i).nm=(o.cs[i]).nm:=by simp [Bk.cas,List.getD_eq_getElem?_getD,hi]
      have ej:(o.cas j).nm=(o.cs[j]).nm:=by simp [Bk.cas,List.getD_eq_getElem?_getD,hj]
      rw [<- ei,<- ej] at e;rw [h.n] at hi hj;rw [h.nm i hi,h.nm j hj] at e
      have hne:p i≠p j:=λ e'=>by
       have:=h.qp i hi;rw [e',h.qp j hj] at this;omega
      have ci:∀k (hk:k<b.cs.length),b.cas k=b.cs[k]:=λ k hk=>by simp [Bk.cas,List.getD_eq_getElem?_getD,hk]
      rw [ci _ (h.pl i hi),ci _ (h.pl j hj)] at e;rcases Nat.lt_or_gt_of_ne hne with hl | hl
      ·exact a2 (p i) (p j) (h.pl i hi) (h.pl j hj) hl e
      ·exact a2 (p j) (p i) (h.pl j hj) (h.pl i hi) hl e.symm
   rw [if_pos hcs,if_neg (by simp [h3])]
  ·rename_i h2;exact absurd hf h2
 ·rename_i h1;exact absurd hf h1
end Go.TM
