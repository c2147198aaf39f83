/- Lemmas of the proof. No conditions of their own. -/
import Derived.Test.YtnpfcnfhfkflhaaGreatDoorC00
set_option linter.all false
namespace Go.TM
variable {b:Bk}
def Bk.okTo (b:Bk):List Nat->List Nat->Bool
 | _,[]=>true
 | p,i::q=>decide (i<b.cs.length) && b.can p i && b.okTo (p++[i]) q
theorem Bk.mem_ords:∀(k:Nat) (p o:List Nat),o∈b.ords k p↔∃q,o=p++q/\q.length=k/\b.okTo p q=true
 | 0,p,o=>by
  simp only [Bk.ords,List.mem_singleton];constructor
  ·rintro rfl;exact⟨[],by simp,rfl,rfl⟩
  ·rintro⟨q,rfl,hq,-⟩;rw [List.length_eq_zero_iff] at hq;simp [hq]
 | k+1,p,o=>by
  simp only [Bk.ords,List.mem_flatMap,List.mem_range];constructor
  ·rintro⟨i,hi,ho⟩;split at ho
   ·rename_i hc;obtain⟨q,rfl,hq,hk⟩:=(Bk.mem_ords k (p++[i]) o).1 ho;exact⟨i::q,by simp,by simp [hq],by simp [Bk.okTo,hi,hc,hk]⟩
   ·cases ho
  ·rintro⟨q,rfl,hq,hk⟩;cases q with
   | nil=>cases hq
   | cons i q=>
    simp only [Bk.okTo,Bool.and_eq_true,decide_eq_true_eq] at hk;refine⟨i,hk.1.1,?_⟩;rw [if_pos hk.1.2];exact (Bk.mem_ords k (p++[i]) _).2 ⟨q,by simp,by simpa using hq,hk.2⟩
theorem Bk.mem_all {o:List Nat}:o∈b.all↔o.length=b.cs.length/\b.okTo [] o=true:=by
 unfold Bk.all;rw [Bk.mem_ords];constructor
 ·rintro⟨q,rfl,hq,hk⟩;exact⟨hq,hk⟩
 ·rintro⟨h1,h2⟩;exact⟨o,rfl,h1,h2⟩
theorem Bk.okTo_iff:∀(q p:List Nat),b.okTo p q=true↔∀X i Y,q=X++i::Y->i<b.cs.length/\b.can (p++X) i=true
 | [],p=>by simp [Bk.okTo]
 | i::q,p=>by
  simp only [Bk.okTo,Bool.and_eq_true,decide_eq_true_eq];rw [Bk.okTo_iff q (p++[i])];constructor
  ·rintro⟨⟨h1,h2⟩,h3⟩ X j Y e;cases X with
   | nil=>
    simp only [List.nil_append,List.cons.injEq] at e;obtain⟨rfl,rfl⟩:=e;simpa using ⟨h1,h2⟩
   | cons x X=>
    simp only [List.cons_append,List.cons.injEq] at e;obtain⟨rfl,rfl⟩:=e;have:=h3 X j Y rfl;simpa using this
  ·intro h;refine⟨by simpa using h [] i q rfl,λ X j Y e=>?_⟩;have:=h (i::X) j Y (by simp [e]);simpa using this
theorem Bk.can_iff {o:List Nat} {i:Nat}:b.can o i=true↔i∉o/\∀k∈Je b.A i,k∈o:=by
 simp [Bk.can]
structure Bk.Ord (b:Bk) (o:List Nat):Prop where
 len:o.length=b.cs.length
 low:∀i∈o,i<b.cs.length
 nod:o.Nodup
 aft:∀X i Y,o=X++i::Y->∀k∈Je b.A i,k∈X
theorem Q0o:∀{o:List Nat},(∀X i Y,o=X++i::Y->i∉X)->o.Nodup:=by
 intro o h;rw [List.nodup_iff_pairwise_ne,List.pairwise_iff_getElem];intro i j hi hj hij e;refine h (o.take j) o[j] (o.drop (j+1)) (by rw [List.getElem_cons_drop,List.take_append_drop]) ?_;rw [<- e,List.mem_take_iff_getElem];exact⟨i,by omega,rfl⟩
theorem Bk.mem_all_iff {o:List Nat}:o∈b.all↔b.Ord o:=by
 rw [Bk.mem_all,Bk.okTo_iff];simp only [List.nil_append];constructor
 ·rintro⟨h1,h2⟩;refine⟨h1,λ i hi=>?_,Q0o λ X i Y e=>(Bk.can_iff.1 (h2 X i Y e).2).1,λ X i Y e=>(Bk.can_iff.1 (h2 X i Y e).2).2⟩;obtain⟨X,Y,e⟩:=List.append_of_mem hi;exact (h2 X i Y e).1
 ·intro h;refine⟨h.len,λ X i Y e=>⟨h.low i (by rw [e];simp),Bk.can_iff.2 ⟨λ hm=>?_,h.aft X i Y e⟩⟩⟩;have hn:=h.nod;rw [e] at hn;exact (List.nodup_append.1 hn).2.2 i hm i (List.mem_cons_self ..) rfl
theorem Zod {n:Nat} {l:List Nat} (h:∀i,i<n->i∈l):n<=l.length:=by
 have key:∀(n:Nat) (l:List Nat),(∀i,i<n->i∈l)->n<=l.length:=by
  intro n
  induction n with
  | zero=>intro l _;exact Nat.zero_le _
  | succ n ih=>
   intro l h;obtain⟨X,Y,e⟩:=List.append_of_mem (h n (by omega))
   have:=ih (X++Y) λ i hi=>by
    have:=h i (by omega);rw [e] at this;simp only [List.mem_append,List.mem_cons] at this ⊢;rcases this with h | h | h
    ·exact .inl h
    ·omega
    ·exact .inr h
   rw [e];simp at this ⊢;omega
 exact key n l h
theorem Bk.A_n (b:Bk):b.A.length=b.cs.length:=by simp [Bk.A]
theorem Bk.Ok.ord {b:Bk} (h:b.Ok):∃o,b.Ord o:=by
 obtain⟨L,hL,hall⟩:=Q38 h.lo;rw [b.A_n] at hall;refine⟨L.reverse,?_,λ i hi=>by rw [<- b.A_n];exact hL.low i (by simpa using hi),(by unfold List.Nodup;rw [List.pairwise_reverse];exact hL.nod.imp Ne.symm),λ X i Y e k hk=>?_⟩
 ·rw [List.length_reverse];have h1:=Qbc hL.nod (n:=b.cs.length) λ x hx=>by rw [<- b.A_n];exact hL.low x hx
  have h2:=Zod hall;omega
 ·have e':L=Y.reverse++i::X.reverse:=by
   rw [<- List.reverse_reverse L,e];simp
  have:=hL.aft _ _ _ e' k hk;simpa using this
theorem Bk.Ord.has {b:Bk} {o:List Nat} (h:b.Ord o) {i:Nat} (hi:i<b.cs.length):i∈o:=by
 apply Classical.byContradiction;intro hn;have h1:(i::o).Nodup:=List.nodup_cons.2 ⟨hn,h.nod⟩
 have:=Qbc h1 (n:=b.cs.length) λ x hx=>by
  rcases List.mem_cons.1 hx with rfl | hx
  ·exact hi
  ·exact h.low x hx
 rw [List.length_cons,h.len] at this;omega
theorem Bk.Ok.all_pos {b:Bk} (h:b.Ok):0<b.all.length:=by
 obtain⟨o,ho⟩:=h.ord;exact List.length_pos_of_mem (Bk.mem_all_iff.2 ho)
theorem Bk.stp_len (b:Bk) (x:List Bool×List Bool) (i:Nat):(b.stp x i).1.length=x.1.length/\(b.stp x i).2.length=x.2.length:=by
 unfold Bk.stp;split <;> simp
theorem Bk.end_len (b:Bk) (o:List Nat):(b.ends o).1.length=b.rs.length/\(b.ends o).2.length=b.cs.length:=by
 have key:∀(o:List Nat) (x:List Bool×List Bool),(o.foldl b.stp x).1.length=x.1.length/\(o.foldl b.stp x).2.length=x.2.length:=by
  intro o
  induction o with
  | nil=>exact λ x=>⟨rfl,rfl⟩
  | cons i o ih=>
   intro x;have h1:=ih (b.stp x i);have h2:=b.stp_len x i;exact⟨h1.1.trans h2.1,h1.2.trans h2.2⟩
 have:=key o b.ini;simpa [Bk.ends,Bk.ini] using this
theorem Qaq {l:List Bool} {i j:Nat} {v:Bool}:(l.set i v).getD j false=if i=j/\i<l.length then v else l.getD j false:=by
 simp only [List.getD_eq_getElem?_getD,List.getElem?_set];by_cases e:i=j
 ·subst e;by_cases h:i<l.length
  ·simp [h]
  ·simp [h]
 ·simp [e]
theorem Bk.end_facts (b:Bk) (h:b.Ok):∀(n:Nat) (o:List Nat),o.length=n->o.Nodup->(∀i∈o,i<b.cs.length) ->
  (∀i,i∉o->(b.ends o).2.getD i false=false)/\∀r,r<b.rs.length->(b.ends o).1.getD r false=!(o.any λ i=>(b.ends o).2.getD i false && (b.cas i).ag.toNat == r):=by
 intro n
 induction n with
 | zero=>
  intro o ho _ _;rw [List.length_eq_zero_iff] at ho;subst ho;refine⟨λ i _=>?_,λ r hr=>?_⟩
  ·simp only [Bk.ends,Bk.ini,List.foldl_nil,List.getD_eq_getElem?_getD,List.getElem?_replicate];split <;> rfl
  ·simp [Bk.ends,Bk.ini,List.getD_eq_getElem?_getD,List.getElem?_replicate,hr]
 | succ n ih=>
  intro o ho hn hl
  obtain⟨q,i,rfl⟩:∃q i,o=q++[i]:=by
   rcases List.eq_nil_or_concat o with e | ⟨q,i,e⟩
   ·rw [e] at ho;cases ho
   ·exact⟨q,i,by simpa using e⟩
  rw [List.nodup_append] at hn;have hni:i∉q:=λ hm=>hn.2.2 i hm i (List.mem_singleton.2 rfl) rfl;have hi:i<b.cs.length:=hl i (by simp);obtain⟨h1,h2⟩:=ih q (by simpa using ho) hn.1 λ j hj=>hl j (by simp [hj]);obtain⟨e1,e2⟩:=b.end_len q
  have hag:(b.cas i).ag.toNat<b.rs.length:=by
   have hm:b.cas i∈b.cs:=by
    unfold Bk.cas;rw [List.getD_eq_getElem?_getD,List.getElem?_eq_getElem hi];exact List.getElem_mem hi
   have:=h.ag _ hm;unfold Bk.nr at this;omega
  rw [b.ends_snoc];unfold Bk.stp;by_cases hw:Zng (b.cas i).gs (b.ends q).1=true
  ·rw [if_pos hw];refine⟨λ j hj=>?_,λ r hr=>?_⟩
   ·simp only [List.mem_append,List.mem_singleton,not_or] at hj;show ((b.ends q).2.set i true).getD j false=false;rw [Qaq,if_neg λ e=>hj.2 e.1.symm];exact h1 j hj.1
   ·show ((b.ends q).1.set (b.cas i).ag.toNat false).getD r false=!((q++[i]).any λ j=>((b.ends q).2.set i true).getD j false && (b.cas j).ag.toNat == r);rw [Qaq,List.any_append]
    have hq:(q.any λ j=>((b.ends q).2.set i true).getD j false && (b.cas j).ag.toNat == r)=q.any λ j=>(b.ends q).2.getD j false && (b.cas j).ag.toNat == r:=by
     have hq':∀j∈q,((b.ends q).2.set i true).getD j false=(b.ends q).2.getD j false:=λ j hj=>by rw [Qaq,if_neg (λ e:i=j/\_=>hni (e.1 ▸ hj))]
     rw [Bool.eq_iff_iff,List.any_eq_true,List.any_eq_true];constructor
     ·rintro⟨j,hj,hx⟩;rw [hq' j hj] at hx;exact⟨j,hj,hx⟩
     ·rintro⟨j,hj,hx⟩;rw [<- hq' j hj] at hx;exact⟨j,hj,hx⟩
    rw [hq];by_cases e:(b.cas i).ag.toNat=r
    ·rw [if_pos ⟨e,by omega⟩];have ht:((b.ends q).2.set i true).getD i false=true:=by rw [Qaq,if_pos ⟨rfl,by omega⟩]
     rw [List.any_cons,ht,e];simp
    ·rw [if_neg λ x=>e x.1,h2 r hr,List.any_cons,beq_false_of_ne e];simp
  ·rw [if_neg hw];refine⟨λ j hj=>h1 j λ x=>hj (by simp [x]),λ r hr=>?_⟩;rw [h2 r hr,List.any_append];rw [List.any_cons,h1 i hni];simp
theorem Bk.Ord.split {b:Bk} {o:List Nat} (h:b.Ord o) {i:Nat} (hi:i<b.cs.length):∃X Y,o=X++i::Y:=List.append_of_mem (h.has hi)
theorem Bk.end_right (b:Bk) (h:b.Ok) {o:List Nat} (ho:b.Ord o) {r:Nat} (hr:r<b.rs.length):(b.ends o).1.getD r false=false↔∃i,i<b.cs.length/\(b.ends o).2.getD i false=true/\(b.cas i).ag.toNat=r:=by
 rw [(b.end_facts h o.length o rfl ho.nod ho.low).2 r hr];simp only [Bool.not_eq_false',List.any_eq_true,Bool.and_eq_true,beq_iff_eq];constructor
 ·rintro⟨i,hi,h1,h2⟩;exact⟨i,ho.low i hi,h1,h2⟩
 ·rintro⟨i,hi,h1,h2⟩;exact⟨i,ho.has hi,h1,h2⟩
theorem Zm0 {so all:Nat}:Q4h so all=1↔so=all:=by
 unfold Q4h;split
 ·rename_i h;simp [h]
 ·rename_i h;split
  ·simp [h]
  ·simp [h]
theorem Zm6 {so all:Nat} (h0:0<all):Q4h so all=2↔so=0:=by
 unfold Q4h;split
 ·rename_i h;constructor
  ·intro x;cases x
  ·intro x;omega
 ·split
  ·rename_i h;simp [h]
  ·rename_i h;simp [h]
theorem Bk.fatR_one (b:Bk) {i:Nat}:b.fatR i=1↔∀o,b.Ord o->(b.ends o).1.getD i false=true:=by
 unfold Bk.fatR;rw [Zm0,List.countP_eq_length];exact⟨λ h o ho=>h o (Bk.mem_all_iff.2 ho),λ h o ho=>h o (Bk.mem_all_iff.1 ho)⟩
theorem Bk.fatC_two (b:Bk) (h:b.Ok) {i:Nat}:b.fatC i=2↔∀o,b.Ord o->(b.ends o).2.getD i false=false:=by
 unfold Bk.fatC;rw [Zm6 h.all_pos,List.countP_eq_zero];exact⟨λ h o ho=>by simpa using h o (Bk.mem_all_iff.2 ho),λ h o ho=>by simpa using h o (Bk.mem_all_iff.1 ho)⟩
theorem Bk.safe_stands (b:Bk) (h:b.Ok) {r:Nat} (hr:r<b.rs.length) (hc:∀i,i<b.cs.length->(b.cas i).ag.toNat=r->b.fatC i=2):b.fatR r=1:=by
 rw [Bk.fatR_one];intro o ho;apply Classical.byContradiction;intro hn;obtain⟨i,hi,hw,ha⟩:=(b.end_right h ho hr).1 (by simpa using hn);rw [(b.fatC_two h).1 (hc i hi ha) o ho] at hw;cases hw
structure Bk.Beg (b:Bk) (o:List Nat):Prop where
 low:∀i∈o,i<b.cs.length
 nod:o.Nodup
 aft:∀X i Y,o=X++i::Y->∀k∈Je b.A i,k∈X
theorem Bk.Beg.nil:b.Beg []:=⟨by simp,.nil,λ X i Y e=>by cases X <;> cases e⟩
theorem Bk.Beg.le {o:List Nat} (h:b.Beg o):o.length<=b.cs.length:=Qbc h.nod h.low
theorem Bk.Ord.flaw {o:List Nat} (h:b.Ord o):b.ordF (o.map λ (k:Nat)=>(k:Int))=0:=by
 have key:∀(q p:List Nat),o=p++q->b.ordL p (q.map λ (k:Nat)=>(k:Int))=0:=by
  intro q
  induction q with
  | nil=>intro p _;rfl
  | cons i q ih=>
   intro p e;have hi:i<b.cs.length:=h.low i (by rw [e];simp);have hn:=h.nod;rw [e,List.nodup_append] at hn;have hip:i∉p:=λ hm=>hn.2.2 i hm i (List.mem_cons_self ..) rfl;have ha:=h.aft p i q e;show (if Go.TM.btw (i:Int) 0 (b.nc-1) then (if (i:Int).toNat∈p then 5 else if (Je b.A (i:Int).toNat).all (λ k=>p.contains k) then b.ordL (p++[(i:Int).toNat]) (q.map λ (k:Nat)=>(k:Int)) else 7) else 6)=0;rw [if_pos (by unfold Bk.nc;simp [btw];omega),Int.toNat_natCast,if_neg hip,if_pos (by rw [List.all_eq_true];intro k hk;simpa using ha k hk)];exact ih (p++[i]) (by rw [e];simp)
 unfold Bk.ordF;rw [if_neg (by rw [List.length_map,h.len];simp)];exact key o [] rfl
def Qae:List Int->List Int->Bool
 | [],l=>!l.isEmpty
 | _::_,[]=>false
 | x::l,y::r=>if x=y then Qae l r else decide (x<y)
theorem Qvo:∀l,Qae l l=false
 | []=>rfl
 | x::l=>by simp [Qae,Qvo l]
theorem Qpf:∀l r,Qae l r=true->Qae r l=false
 | [],[],h=>by simp [Qae] at h
 | [],_::_,_=>rfl
 | _::_,[],h=>by simp [Qae] at h
 | x::l,y::r,h=>by
  simp only [Qae] at h ⊢;by_cases e:x=y
  ·rw [if_pos e] at h;rw [if_pos e.symm];exact Qpf l r h
  ·rw [if_neg e] at h;rw [if_neg (Ne.symm e)];simp at h ⊢;omega
end Go.TM
namespace Go.TM
variable {b o:Bk}
structure Bk.Turn (b o:Bk) (p q:Nat->Nat):Prop where
 rs:o.rs=b.rs
 n:o.cs.length=b.cs.length
 pl:∀i,i<b.cs.length->p i<b.cs.length
 ql:∀i,i<b.cs.length->q i<b.cs.length
 qp:∀i,i<b.cs.length->q (p i)=i
 pq:∀i,i<b.cs.length->p (q i)=i
 nm:∀i,i<b.cs.length->(o.cas i).nm=(b.cas (p i)).nm
 ag:∀i,i<b.cs.length->(o.cas i).ag=(b.cas (p i)).ag
 gs:∀i,i<b.cs.length->(o.cas i).gs=(b.cas (p i)).gs
 af:∀i,i<b.cs.length->∀k,k<b.cs.length->(k∈Je o.A i↔p k∈Je b.A (p i))
theorem Bk.Turn.symm {p q:Nat->Nat} (h:b.Turn o p q):o.Turn b q p:=by
 have hn:=h.n;refine⟨h.rs.symm,h.n.symm,?_,?_,?_,?_,?_,?_,?_,?_⟩ <;> rw [hn]
 ·exact h.ql
 ·exact h.pl
 ·exact h.pq
 ·exact h.qp
 ·intro i hi;rw [h.nm _ (h.ql i hi),h.pq i hi]
 ·intro i hi;rw [h.ag _ (h.ql i hi),h.pq i hi]
 ·intro i hi;rw [h.gs _ (h.ql i hi),h.pq i hi]
 ·intro i hi k hk;rw [h.af _ (h.ql i hi) _ (h.ql k hk),h.pq i hi,h.pq k hk]
theorem Bk.Turn.ends {p q:Nat->Nat} (h:b.Turn o p q):∀(n:Nat) (l:List Nat),l.length=n->(∀i∈l,i<b.cs.length)->(o.ends l).1=(b.ends (l.map p)).1/\∀i,i<b.cs.length->(o.ends l).2.getD i false=(b.ends (l.map p)).2.getD (p i) false:=by
 intro n
 induction n with
 | zero=>
  intro l hl _;rw [List.length_eq_zero_iff] at hl;subst hl;refine⟨by simp [Bk.ends,Bk.ini,h.rs],λ i hi=>?_⟩;simp [Bk.ends,Bk.ini,List.getD_eq_getElem?_getD,List.getElem?_replicate,h.n,hi,h.pl i hi]
 | succ n ih=>
  intro l hl hlow
  obtain⟨l',i,rfl⟩:∃l' i,l=l'++[i]:=by
   rcases List.eq_nil_or_concat l with e | ⟨q,i,e⟩
   ·rw [e] at hl;cases hl
   ·exact⟨q,i,by simpa using e⟩
  obtain⟨h1,h2⟩:=ih l' (by simpa using hl) λ j hj=>hlow j (by simp [hj]);have hi:=hlow i (by simp);rw [List.map_append,List.map_singleton,o.ends_snoc,b.ends_snoc];unfold Bk.stp;rw [h.gs i hi,h.ag i hi,h1];by_cases hw:Zng (b.cas (p i)).gs (b.ends (l'.map p)).1=true
  ·rw [if_pos hw,if_pos hw];refine⟨rfl,λ j hj=>?_⟩;show ((o.ends l').2.set i true).getD j false=((b.ends (l'.map p)).2.set (p i) true).getD (p j) false;rw [Qaq,Qaq,(o.end_len l').2,(b.end_len _).2,h.n,h2 j hj];by_cases e:i=j
   ·subst e;simp [hi,h.pl i hi]
   ·have:p i≠p j:=λ e'=>e (by rw [<- h.qp i hi,e',h.qp j hj]);simp [e,this]
  ·rw [if_neg hw,if_neg hw];exact⟨h1,h2⟩
theorem Bk.Turn.ord {p q:Nat->Nat} (hok:b.Ok) (h:b.Turn o p q) {l:List Nat} (hl:o.Ord l):b.Ord (l.map p):=by
 have hlow:∀i∈l,i<b.cs.length:=λ i hi=>h.n ▸ hl.low i hi;refine⟨by rw [List.length_map,hl.len,h.n],λ i hi=>?_,?_,λ X j Y e k hk=>?_⟩
 ·obtain⟨j,hj,rfl⟩:=List.mem_map.1 hi;exact h.pl j (hlow j hj)
 ·refine List.pairwise_map.2 (hl.nod.imp_of_mem λ {x y} hx hy hne e=>hne ?_);rw [<- h.qp x (hlow x hx),e,h.qp y (hlow y hy)]
 ·obtain⟨X',l',rfl,rfl,e2⟩:=List.map_eq_append_iff.1 e;obtain⟨i,Y',rfl,rfl,rfl⟩:=List.map_eq_cons_iff.1 e2;have hi:=hlow i (by simp)
  have hkl:k<b.cs.length:=by
   have:=hok.low (p i) (by rw [b.A_n];exact h.pl i hi) k hk
   rwa [b.A_n] at this
  refine List.mem_map.2 ⟨q k,hl.aft X' i Y' rfl (q k) ?_,h.pq k hkl⟩;rw [h.af i hi (q k) (h.ql k hkl),h.pq k hkl];exact hk
theorem Qdg {nameB:ByteArray->Bool} {nr nc:Int}:∀{l:List Cs} {seen:List ByteArray},Qi9 nameB nr nc seen l=0 ↔
  (∀c∈l,nameB c.nm=true/\btw c.ag 0 (nr-1)=true/\Qfp nr c.gs=0/\J1 nc none c.af=0/\c.nm∉seen)/\(l.map (·.nm)).Nodup
 | [],seen=>by simp [Qi9]
 | c::l,seen=>by
  have ih:=Qdg (nameB:=nameB) (nr:=nr) (nc:=nc) (l:=l) (seen:=seen++[c.nm]);simp only [Qi9,List.mem_cons,List.map_cons,List.nodup_cons,forall_eq_or_imp];by_cases h1:nameB c.nm=true
  ·by_cases h2:Qa8 seen c.nm=true
   ·rw [if_pos h1,if_pos h2];have:=Zj1.1 h2;simp [this]
   ·have h2':c.nm∉seen:=λ h=>h2 (Zj1.2 h);rw [if_pos h1,if_neg h2];by_cases h3:btw c.ag 0 (nr-1)=true
    ·by_cases h4:Qfp nr c.gs=0
     ·by_cases h5:J1 nc none c.af=0
      ·rw [if_pos h3,if_pos h4,if_pos h5,ih];simp only [h1,h2',h3,h4,h5,true_and,not_false_iff];constructor
       ·rintro⟨a1,a2⟩;refine⟨λ d hd=>?_,λ hm=>?_,a2⟩
        ·obtain⟨x1,x2,x3,x4,x5⟩:=a1 d hd;exact⟨x1,x2,x3,x4,λ hh=>x5 (by simp [hh])⟩
        ·obtain⟨d,hd,e⟩:=List.mem_map.1 hm;exact (a1 d hd).2.2.2.2 (by simp [e])
       ·rintro⟨a1,a2,a3⟩;refine⟨λ d hd=>?_,a3⟩;obtain⟨x1,x2,x3,x4,x5⟩:=a1 d hd;refine⟨x1,x2,x3,x4,λ hh=>?_⟩;rcases List.mem_append.1 hh with hh | hh
        ·exact x5 hh
        ·simp at hh;exact a2 (List.mem_map.2 ⟨d,hd,hh⟩)
      ·rw [if_pos h3,if_pos h4,if_neg h5];simp [h5]
     ·rw [if_pos h3,if_neg h4];simp [h4]
    ·rw [if_neg h3];simp [h3]
  ·rw [if_neg h1];simp [h1]
theorem Bk.cas_ex {c:Cs} (h:c∈b.cs):∃i,i<b.cs.length/\b.cas i=c:=by
 obtain⟨i,hi,e⟩:=List.mem_iff_getElem.1 h;exact⟨i,hi,by simp [Bk.cas,List.getD_eq_getElem?_getD,hi,e]⟩
theorem Bk.mem_cas {i:Nat} (hi:i<b.cs.length):b.cas i∈b.cs:=by
 unfold Bk.cas;rw [List.getD_eq_getElem?_getD,List.getElem?_eq_getElem hi];exact List.getElem_mem hi
theorem Bk.Turn.flaw {nameB:ByteArray->Bool} {p q:Nat->Nat} (hf:b.flaw nameB=0) (h:b.Turn o p q) (hri:∀i,i<b.cs.length->J1 b.nc none (o.cas i).af=0):o.flaw nameB=0:=by
 have hok:=Bk.ok_of hf
 have hlow:∀i,i<o.A.length->∀k∈Je o.A i,k<o.A.length:=λ i hi k hk=>by
  rw [o.A_n] at hi ⊢;have e:Je o.A i=(o.cas i).af.map Int.toNat:=by simp [Je,Bk.A,Bk.cas,List.getD_eq_getElem?_getD,hi]
  rw [e] at hk;obtain⟨n,hn,rfl⟩:=List.mem_map.1 hk;have:=Qqf (hri i (h.n ▸ hi)) n hn;rw [h.n];unfold Bk.nc at this;omega
 have h3:Wq o.A=false:=by
  obtain⟨ρ,hρ⟩:=Zmb hok.lo;refine Za9 hlow (λ i=>ρ (p i)) λ i hi k hk=>?_;have hkl:=hlow i hi k hk;rw [o.A_n,h.n] at hi hkl;exact hρ (p i) (by rw [b.A_n];exact h.pl i hi) (p k) ((h.af i hi k hkl).1 hk)
 unfold Bk.flaw at hf ⊢;have hrs:o.rsF nameB=b.rsF nameB:=by unfold Bk.rsF;rw [h.rs]
 rw [hrs];split at hf
 ·rename_i h1;rw [if_pos h1];split at hf
  ·rename_i h2
   have hcs:o.csF nameB=0:=by
    unfold Bk.csF at h2 ⊢;rw [h.n];split at h2
    ·cases h2
    ·rename_i h5;rw [if_neg h5,Qdg];obtain⟨a1,a2⟩:=Qdg.1 h2;have hnr:o.nr=b.nr:=by unfold Bk.nr;rw [h.rs]
     have hnc:o.nc=b.nc:=by unfold Bk.nc;rw [h.n]
     rw [hnr,hnc];refine⟨λ c hc=>?_,?_⟩
     ·obtain⟨i,hi,rfl⟩:=Bk.cas_ex hc;rw [h.n] at hi;obtain⟨x1,x2,x3,-,-⟩:=a1 _ (Bk.mem_cas (h.pl i hi));rw [h.nm i hi,h.ag i hi,h.gs i hi];exact⟨x1,x2,x3,hri i hi,by simp⟩
     ·rw [List.nodup_iff_pairwise_ne,List.pairwise_iff_getElem] at a2 ⊢;simp only [List.length_map,List.getElem_map] at a2 ⊢;intro i j hi hj hij e;have ei:(o.cas i).nm=(o.cs[i]).nm:=by simp [Bk.cas,List.getD_eq_getElem?_getD,hi]
      have ej:(o.cas j).nm=(o.cs[j]).nm:=by simp [Bk.cas,List.getD_eq_getElem?_getD,hj]
      rw [<- ei,<- ej] at e;rw [h.n] at hi hj;rw [h.nm i hi,h.nm j hj] at e
      have hne:p i≠p j:=λ e'=>by
       have:=h.qp i hi;rw [e',h.qp j hj] at this;omega
      have ci:∀k (hk:k<b.cs.length),b.cas k=b.cs[k]:=λ k hk=>by simp [Bk.cas,List.getD_eq_getElem?_getD,hk]
      rw [ci _ (h.pl i hi),ci _ (h.pl j hj)] at e;rcases Nat.lt_or_gt_of_ne hne with hl | hl
      ·exact a2 (p i) (p j) (h.pl i hi) (h.pl j hj) hl e
      ·exact a2 (p j) (p i) (h.pl j hj) (h.pl i hi) hl e.symm
   rw [if_pos hcs,if_neg (by simp [h3])]
  ·rename_i h2;exact absurd hf h2
 ·rename_i h1;exact absurd hf h1
end Go.TM
namespace Go.TM
variable {b:Bk}
theorem Bk.flaw_zero {nameB:ByteArray->Bool}:b.flaw nameB=0↔b.rsF nameB=0/\b.csF nameB=0/\Wq b.A=false:=by
 unfold Bk.flaw;by_cases h1:b.rsF nameB=0
 ·by_cases h2:b.csF nameB=0
  ·rw [if_pos h1,if_pos h2];cases Wq b.A <;> simp [h1,h2]
  ·rw [if_pos h1,if_neg h2];simp [h2]
 ·rw [if_neg h1];simp [h1]
theorem Bk.csF_zero {nameB:ByteArray->Bool}:b.csF nameB=0↔b.cs.length<=5/\(∀c∈b.cs,nameB c.nm=true/\btw c.ag 0 (b.nr-1)=true/\Qfp b.nr c.gs=0/\J1 b.nc none c.af=0)/\(b.cs.map (·.nm)).Nodup:=by
 unfold Bk.csF;by_cases h:b.cs.length > 5
 ·rw [if_pos h];constructor
  ·intro x;cases x
  ·rintro⟨x,-⟩;omega
 ·rw [if_neg h,Qdg];constructor
  ·rintro⟨h1,h2⟩;exact⟨by omega,λ c hc=>let ⟨x1,x2,x3,x4,_⟩:=h1 c hc;⟨x1,x2,x3,x4⟩,h2⟩
  ·rintro⟨-,h1,h2⟩;exact⟨λ c hc=>let ⟨x1,x2,x3,x4⟩:=h1 c hc;⟨x1,x2,x3,x4,by simp⟩,h2⟩
theorem Bk.cas_all (b:Bk):(List.range b.cs.length).map b.cas=b.cs:=by
 apply List.ext_getElem?;intro i;by_cases h:i<b.cs.length
 ·simp [h,Bk.cas,List.getD_eq_getElem?_getD]
 ·simp [h]
theorem Bk.wo_flaw {nameB:ByteArray->Bool} (hf:b.flaw nameB=0) (out:Nat->Bool):(b.wo out).flaw nameB=0:=by
 have ho:=(Bk.ok_of hf).wo out;obtain⟨h1,h2,-⟩:=Bk.flaw_zero.1 hf;obtain⟨-,h3,h4⟩:=Bk.csF_zero.1 h2;refine Bk.flaw_zero.2 ⟨h1,Bk.csF_zero.2 ⟨ho.nc,λ c hc=>?_,?_⟩,ho.lo⟩
 ·have hri:=ho.ri c hc;obtain⟨i,hi,rfl⟩:=List.mem_map.1 hc;have hil:i<b.cs.length:=List.mem_range.1 (List.mem_filter.1 hi).1;obtain⟨x1,x2,x3,-⟩:=h3 _ (Bk.mem_cas hil);exact⟨x1,x2,x3,hri⟩
 ·have e:(b.wo out).cs.map (·.nm)=(b.kept out).map λ i=>(b.cas i).nm:=by
   show List.map _ (List.map _ _)=_;rw [List.map_map];rfl
  rw [e];rw [<- b.cas_all,List.map_map] at h4;exact h4.sublist (List.filter_sublist.map _)
end Go.TM
