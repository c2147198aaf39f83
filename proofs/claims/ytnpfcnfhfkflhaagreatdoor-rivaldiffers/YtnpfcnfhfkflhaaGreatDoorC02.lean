/- Lemmas of the proof. No conditions of their own. -/
import Derived.Test.YtnpfcnfhfkflhaaGreatDoorC00
set_option linter.all false
namespace Go.TM
variable {b:Bk}
def Bk.okTo (b:Bk):List Nat->List Nat->Bool
 | _,[]=>true
 | p,i::q=>decide (i<b.cs.length) && b.can p i && b.okTo (p++[i]) q
theorem Bk.mem_ords:∀(k:Nat) (p o:List Nat),o∈b.ords k p↔∃q,o=p++q/\q.length=k/\b.okTo p q=true
 | 0,p,o=>by
  simp only [Bk.ords,List.mem_singleton];constructor
  ·rintro rfl;exact⟨[],by simp,rfl,rfl⟩
  ·rintro⟨q,rfl,hq,-⟩;rw [List.length_eq_zero_iff] at hq;simp [hq]
 | k+1,p,o=>by
  simp only [Bk.ords,List.mem_flatMap,List.mem_range];constructor
  ·rintro⟨i,hi,ho⟩;split at ho
   ·rename_i hc;obtain⟨q,rfl,hq,hk⟩:=(Bk.mem_ords k (p++[i]) o).1 ho;exact⟨i::q,by simp,by simp [hq],by simp [Bk.okTo,hi,hc,hk]⟩
   ·cases ho
  ·rintro⟨q,rfl,hq,hk⟩;cases q with
   | nil=>cases hq
   | cons i q=>
    simp only [Bk.okTo,Bool.and_eq_true,decide_eq_true_eq] at hk;refine⟨i,hk.1.1,?_⟩;rw [if_pos hk.1.2];exact (Bk.mem_ords k (p++[i]) _).2 ⟨q,by simp,by simpa using hq,hk.2⟩
theorem Bk.mem_all {o:List Nat}:o∈b.all↔o.length=b.cs.length/\b.okTo [] o=true:=by
 unfold Bk.all;rw [Bk.mem_ords];constructor
 ·rintro⟨q,rfl,hq,hk⟩;exact⟨hq,hk⟩
 ·rintro⟨h1,h2⟩;exact⟨o,rfl,h1,h2⟩
theorem Bk.okTo_iff:∀(q p:List Nat),b.okTo p q=true↔∀X i Y,q=X++i::Y->i<b.cs.length/\b.can (p++X) i=true
 | [],p=>by simp [Bk.okTo]
 | i::q,p=>by
  simp only [Bk.okTo,Bool.and_eq_true,decide_eq_true_eq];rw [Bk.okTo_iff q (p++[i])];constructor
  ·rintro⟨⟨h1,h2⟩,h3⟩ X j Y e;cases X with
   | nil=>
    simp only [List.nil_append,List.cons.injEq] at e;obtain⟨rfl,rfl⟩:=e;simpa using ⟨h1,h2⟩
   | cons x X=>
    simp only [List.cons_append,List.cons.injEq] at e;obtain⟨rfl,rfl⟩:=e;have:=h3 X j Y rfl;simpa using this
  ·intro h;refine⟨by simpa using h [] i q rfl,λ X j Y e=>?_⟩;have:=h (i::X) j Y (by simp [e]);simpa using this
theorem Bk.can_iff {o:List Nat} {i:Nat}:b.can o i=true↔i∉o/\∀k∈Je b.A i,k∈o:=by
 simp [Bk.can]
structure Bk.Ord (b:Bk) (o:List Nat):Prop where
 len:o.length=b.cs.length
 low:∀i∈o,i<b.cs.length
 nod:o.Nodup
 aft:∀X i Y,o=X++i::Y->∀k∈Je b.A i,k∈X
theorem Qqa:∀{o:List Nat},(∀X i Y,o=X++i::Y->i∉X)->o.Nodup:=by
 intro o h;rw [List.nodup_iff_pairwise_ne,List.pairwise_iff_getElem];intro i j hi hj hij e;refine h (o.take j) o[j] (o.drop (j+1)) (by rw [List.getElem_cons_drop,List.take_append_drop]) ?_;rw [<- e,List.mem_take_iff_getElem];exact⟨i,by omega,rfl⟩
theorem Bk.mem_all_iff {o:List Nat}:o∈b.all↔b.Ord o:=by
 rw [Bk.mem_all,Bk.okTo_iff];simp only [List.nil_append];constructor
 ·rintro⟨h1,h2⟩;refine⟨h1,λ i hi=>?_,Qqa λ X i Y e=>(Bk.can_iff.1 (h2 X i Y e).2).1,λ X i Y e=>(Bk.can_iff.1 (h2 X i Y e).2).2⟩;obtain⟨X,Y,e⟩:=List.append_of_mem hi;exact (h2 X i Y e).1
 ·intro h;refine⟨h.len,λ X i Y e=>⟨h.low i (by rw [e];simp),Bk.can_iff.2 ⟨λ hm=>?_,h.aft X i Y e⟩⟩⟩;have hn:=h.nod;rw [e] at hn;exact (List.nodup_append.1 hn).2.2 i hm i (List.mem_cons_self ..) rfl
theorem Q0k {n:Nat} {l:List Nat} (h:∀i,i<n->i∈l):n<=l.length:=by
 have key:∀(n:Nat) (l:List Nat),(∀i,i<n->i∈l)->n<=l.length:=by
  intro n
  induction n with
  | zero=>intro l _;exact Nat.zero_le _
  | succ n ih=>
   intro l h;obtain⟨X,Y,e⟩:=List.append_of_mem (h n (by omega))
   have:=ih (X++Y) λ i hi=>by
    have:=h i (by omega);rw [e] at this;simp only [List.mem_append,List.mem_cons] at this ⊢;rcases this with h | h | h
    ·exact .inl h
    ·omega
    ·exact .inr h
   rw [e];simp at this ⊢;omega
 exact key n l h
theorem Bk.A_n (b:Bk):b.A.length=b.cs.length:=by simp [Bk.A]
theorem Bk.Ok.ord {b:Bk} (h:b.Ok):∃o,b.Ord o:=by
 obtain⟨L,hL,hall⟩:=Q38 h.lo;rw [b.A_n] at hall;refine⟨L.reverse,?_,λ i hi=>by rw [<- b.A_n];exact hL.low i (by simpa using hi),(by unfold List.Nodup;rw [List.pairwise_reverse];exact hL.nod.imp Ne.symm),λ X i Y e k hk=>?_⟩
 ·rw [List.length_reverse];have h1:=Qbc hL.nod (n:=b.cs.length) λ x hx=>by rw [<- b.A_n];exact hL.low x hx
  have h2:=Q0k hall;omega
 ·have e':L=Y.reverse++i::X.reverse:=by
   rw [<- List.reverse_reverse L,e];simp
  have:=hL.aft _ _ _ e' k hk;simpa using this
theorem Bk.Ord.has {b:Bk} {o:List Nat} (h:b.Ord o) {i:Nat} (hi:i<b.cs.length):i∈o:=by
 apply Classical.byContradiction;intro hn;have h1:(i::o).Nodup:=List.nodup_cons.2 ⟨hn,h.nod⟩
 have:=Qbc h1 (n:=b.cs.length) λ x hx=>by
  rcases List.mem_cons.1 hx with rfl | hx
  ·exact hi
  ·exact h.low x hx
 rw [List.length_cons,h.len] at this;omega
theorem Bk.Ok.all_pos {b:Bk} (h:b.Ok):0<b.all.length:=by
 obtain⟨o,ho⟩:=h.ord;exact List.length_pos_of_mem (Bk.mem_all_iff.2 ho)
theorem Bk.stp_len (b:Bk) (x:List Bool×List Bool) (i:Nat):(b.stp x i).1.length=x.1.length/\(b.stp x i).2.length=x.2.length:=by
 unfold Bk.stp;split <;> simp
theorem Bk.end_len (b:Bk) (o:List Nat):(b.ends o).1.length=b.rs.length/\(b.ends o).2.length=b.cs.length:=by
 have key:∀(o:List Nat) (x:List Bool×List Bool),(o.foldl b.stp x).1.length=x.1.length/\(o.foldl b.stp x).2.length=x.2.length:=by
  intro o
  induction o with
  | nil=>exact λ x=>⟨rfl,rfl⟩
  | cons i o ih=>
   intro x;have h1:=ih (b.stp x i);have h2:=b.stp_len x i;exact⟨h1.1.trans h2.1,h1.2.trans h2.2⟩
 have:=key o b.ini;simpa [Bk.ends,Bk.ini] using this
theorem Bk.Ord.split {b:Bk} {o:List Nat} (h:b.Ord o) {i:Nat} (hi:i<b.cs.length):∃X Y,o=X++i::Y:=List.append_of_mem (h.has hi)
theorem Q0m {so all:Nat}:Q4h so all=1↔so=all:=by
 unfold Q4h;split
 ·rename_i h;simp [h]
 ·rename_i h;split
  ·simp [h]
  ·simp [h]
theorem Q0o {so all:Nat} (h0:0<all):Q4h so all=2↔so=0:=by
 unfold Q4h;split
 ·rename_i h;constructor
  ·intro x;cases x
  ·intro x;omega
 ·split
  ·rename_i h;simp [h]
  ·rename_i h;simp [h]
theorem Bk.fatR_one (b:Bk) {i:Nat}:b.fatR i=1↔∀o,b.Ord o->(b.ends o).1.getD i false=true:=by
 unfold Bk.fatR;rw [Q0m,List.countP_eq_length];exact⟨λ h o ho=>h o (Bk.mem_all_iff.2 ho),λ h o ho=>h o (Bk.mem_all_iff.1 ho)⟩
theorem Bk.fatR_two (b:Bk) (h:b.Ok) {i:Nat}:b.fatR i=2↔∀o,b.Ord o->(b.ends o).1.getD i false=false:=by
 unfold Bk.fatR;rw [Q0o h.all_pos,List.countP_eq_zero];exact⟨λ h o ho=>by simpa using h o (Bk.mem_all_iff.2 ho),λ h o ho=>by simpa using h o (Bk.mem_all_iff.1 ho)⟩
def Bk.nexts (b:Bk) (o:List Nat):List Nat:=(List.range b.cs.length).filter λ i=>b.can o i
def Bk.pickO (b:Bk) (p:List Nat):Nat->List Nat->List Nat
 | 0,o=>o
 | k+1,o=>b.pickO p k (o++[(b.nexts o).getD (p.getD o.length 0 % (b.nexts o).length) 0])
structure Bk.Beg (b:Bk) (o:List Nat):Prop where
 low:∀i∈o,i<b.cs.length
 nod:o.Nodup
 aft:∀X i Y,o=X++i::Y->∀k∈Je b.A i,k∈X
theorem Bk.Beg.nil:b.Beg []:=⟨by simp,.nil,λ X i Y e=>by cases X <;> cases e⟩
theorem Bk.Beg.le {o:List Nat} (h:b.Beg o):o.length<=b.cs.length:=Qbc h.nod h.low
theorem Bk.Beg.snoc {o:List Nat} {i:Nat} (h:b.Beg o) (hi:i<b.cs.length) (hc:b.can o i=true):b.Beg (o++[i]):=by
 obtain⟨h1,h2⟩:=Bk.can_iff.1 hc;refine⟨λ j hj=>?_,?_,λ X j Y e k hk=>?_⟩
 ·rcases List.mem_append.1 hj with hj | hj
  ·exact h.low j hj
  ·simp at hj;subst hj;exact hi
 ·rw [List.nodup_append];exact⟨h.nod,by simp,λ x hx y hy e=>by simp at hy;subst hy;subst e;exact h1 hx⟩
 ·rcases List.eq_nil_or_concat Y with rfl | ⟨Y',y,rfl⟩
  ·obtain⟨rfl,e2⟩:=List.append_inj' e (by simp);cases e2;exact h2 k hk
  ·have e':o++[i]=(X++j::Y')++[y]:=by rw [e];simp
   obtain⟨e1,-⟩:=List.append_inj' e' (by simp);exact h.aft X j Y' e1 k hk
theorem Bk.Beg.next {o:List Nat} (hok:b.Ok) (h:b.Beg o) (hlt:o.length<b.cs.length):0<(b.nexts o).length:=by
 obtain⟨f,hf⟩:=hok.ord
 have hex:∃i∈f,i∉o:=by
  apply Classical.byContradiction;intro hn
  have hall:∀i,i<b.cs.length->i∈o:=λ i hi=>by
   apply Classical.byContradiction;intro hni;exact hn ⟨i,hf.has hi,hni⟩
  have:=Q0k hall;omega
 have hfirst:∃X i Y,f=X++i::Y/\i∉o/\∀k∈X,k∈o:=by
  have key:∀(Y X:List Nat),f=X++Y->(∀k∈X,k∈o)->(∃i∈Y,i∉o)->∃X i Y,f=X++i::Y/\i∉o/\∀k∈X,k∈o:=by
   intro Y
   induction Y with
   | nil=>rintro X _ _ ⟨i,hi,-⟩;cases hi
   | cons y Y ih=>
    rintro X e hX ⟨i,hi,hni⟩;by_cases hy:y∈o
    ·refine ih (X++[y]) (by rw [e];simp) (λ k hk=>?_) ?_
     ·rcases List.mem_append.1 hk with hk | hk
      ·exact hX k hk
      ·simp at hk;subst hk;exact hy
     ·rcases List.mem_cons.1 hi with rfl | hi
      ·exact absurd hy hni
      ·exact⟨i,hi,hni⟩
    ·exact⟨X,y,Y,e,hy,hX⟩
  exact key f [] (by simp) (by simp) hex
 obtain⟨X,i,Y,e,hi,hX⟩:=hfirst;refine List.length_pos_of_mem (a:=i) (List.mem_filter.2 ⟨List.mem_range.2 (hf.low i (by rw [e];simp)),?_⟩);exact Bk.can_iff.2 ⟨hi,λ k hk=>hX k (hf.aft X i Y e k hk)⟩
theorem Bk.nexts_at {o:List Nat} {q:Nat} (h:q<(b.nexts o).length):(b.nexts o).getD q 0<b.cs.length/\b.can o ((b.nexts o).getD q 0)=true:=by
 have hm:(b.nexts o).getD q 0∈b.nexts o:=by
  rw [List.getD_eq_getElem?_getD,List.getElem?_eq_getElem h];exact List.getElem_mem h
 obtain⟨h1,h2⟩:=List.mem_filter.1 hm;exact⟨List.mem_range.1 h1,h2⟩
theorem Bk.pick_beg (hok:b.Ok) (p:List Nat):∀(k:Nat) (o:List Nat),b.Beg o->o.length+k<=b.cs.length->b.Beg (b.pickO p k o)/\(b.pickO p k o).length=o.length+k
 | 0,o,h,_=>⟨h,rfl⟩
 | k+1,o,h,hl=>by
  have hn:=h.next hok (by omega);obtain⟨h1,h2⟩:=Bk.nexts_at (Nat.mod_lt (p.getD o.length 0) hn);have:=Bk.pick_beg hok p k _ (h.snoc h1 h2) (by simp;omega);refine⟨this.1,?_⟩;have h3:=this.2;simp only [List.length_append,List.length_singleton] at h3;show (b.pickO p k _).length=_;omega
theorem Bk.pick_ord (hok:b.Ok) (p:List Nat):b.Ord (b.pickO p b.cs.length []):=by
 obtain⟨h1,h2⟩:=Bk.pick_beg hok p b.cs.length [] Bk.Beg.nil (by simp);exact⟨by simpa using h2,h1.low,h1.nod,h1.aft⟩
theorem Bk.Ord.flaw {o:List Nat} (h:b.Ord o):b.ordF (o.map λ (k:Nat)=>(k:Int))=0:=by
 have key:∀(q p:List Nat),o=p++q->b.ordL p (q.map λ (k:Nat)=>(k:Int))=0:=by
  intro q
  induction q with
  | nil=>intro p _;rfl
  | cons i q ih=>
   intro p e;have hi:i<b.cs.length:=h.low i (by rw [e];simp);have hn:=h.nod;rw [e,List.nodup_append] at hn;have hip:i∉p:=λ hm=>hn.2.2 i hm i (List.mem_cons_self ..) rfl;have ha:=h.aft p i q e;show (if Go.TM.btw (i:Int) 0 (b.nc-1) then (if (i:Int).toNat∈p then 5 else if (Je b.A (i:Int).toNat).all (λ k=>p.contains k) then b.ordL (p++[(i:Int).toNat]) (q.map λ (k:Nat)=>(k:Int)) else 7) else 6)=0;rw [if_pos (by unfold Bk.nc;simp [btw];omega),Int.toNat_natCast,if_neg hip,if_pos (by rw [List.all_eq_true];intro k hk;simpa using ha k hk)];exact ih (p++[i]) (by rw [e];simp)
 unfold Bk.ordF;rw [if_neg (by rw [List.length_map,h.len];simp)];exact key o [] rfl
def Qae:List Int->List Int->Bool
 | [],l=>!l.isEmpty
 | _::_,[]=>false
 | x::l,y::r=>if x=y then Qae l r else decide (x<y)
theorem Qpf:∀l,Qae l l=false
 | []=>rfl
 | x::l=>by simp [Qae,Qpf l]
theorem Qek:∀l r,Qae l r=true->Qae r l=false
 | [],[],h=>by simp [Qae] at h
 | [],_::_,_=>rfl
 | _::_,[],h=>by simp [Qae] at h
 | x::l,y::r,h=>by
  simp only [Qae] at h ⊢;by_cases e:x=y
  ·rw [if_pos e] at h;rw [if_pos e.symm];exact Qek l r h
  ·rw [if_neg e] at h;rw [if_neg (Ne.symm e)];simp at h ⊢;omega
theorem Qoa:∀p l r,Qae (p++l) (p++r)=Qae l r
 | [],_,_=>rfl
 | x::p,l,r=>by simp [Qae,Qoa p]
abbrev Qbj (o:List Nat):List Int:=o.map λ (k:Nat)=>(k:Int)
theorem Bk.ords_asc (b:Bk):∀(k:Nat) (p:List Nat),(b.ords k p).Pairwise λ o o'=>Qae (Qbj o) (Qbj o')=true
 | 0,p=>by simp [Bk.ords]
 | k+1,p=>by
  simp only [Bk.ords];rw [List.pairwise_flatMap];refine⟨λ i _=>?_,List.pairwise_lt_range.imp λ {i j} hij o ho o' ho'=>?_⟩
  ·split
   ·exact Bk.ords_asc b k _
   ·exact .nil
  ·split at ho
   ·split at ho'
    ·obtain⟨q,rfl,-,-⟩:=(Bk.mem_ords k _ o).1 ho;obtain⟨q',rfl,-,-⟩:=(Bk.mem_ords k _ o').1 ho';simp only [Qbj,List.map_append,List.append_assoc,Qoa,List.map_cons,List.map_nil,List.singleton_append,Qae];rw [if_neg (by omega)];simpa using hij
    ·cases ho'
   ·cases ho
theorem Bk.dif_some {r:Nat} {w:Bool} {o:List Nat} (ho:b.Ord o) (hw:(b.ends o).1.getD r false=w) :
  b.Ord (b.difS r w)/\(b.ends (b.difS r w)).1.getD r false=w/\Qae (Qbj o) (Qbj (b.difS r w))=false:=by
 have hm:=Bk.mem_all_iff.2 ho;cases hf:b.all.find? λ o=>(b.ends o).1.getD r false == w with
 | none=>
  have:=List.find?_eq_none.1 hf o hm;rw [hw] at this;simp at this
 | some d=>
  have hd:b.difS r w=d:=by unfold Bk.difS;rw [hf];rfl
  obtain⟨hp,X,Y,e,hX⟩:=List.find?_eq_some_iff_append.1 hf;rw [hd];refine⟨Bk.mem_all_iff.1 (by rw [e];simp),by simpa using hp,?_⟩;have hs:=b.ords_asc b.cs.length [];have e':b.ords b.cs.length []=X++d::Y:=e;rw [e',List.pairwise_append] at hs;rw [e] at hm;rcases List.mem_append.1 hm with h | h
  ·have:=hX o h;rw [hw] at this;simp at this
  ·rcases List.mem_cons.1 h with rfl | h
   ·exact Qpf _
   ·exact Qek _ _ ((List.pairwise_cons.1 hs.2.1).1 o h)
theorem Bk.dif_none {r:Nat} {w:Bool} (h:∀o,b.Ord o->(b.ends o).1.getD r false≠w):b.difS r w=[]:=by
 unfold Bk.difS;rw [List.find?_eq_none.2 λ o ho=>by simpa using h o (Bk.mem_all_iff.1 ho)];rfl
theorem Bk.dif_true (hok:b.Ok) {r:Nat} (h0:0<b.cs.length):(0<(b.difS r true).length↔b.fatR r≠2)/\(b.fatR r≠2->b.Ord (b.difS r true)/\(b.ends (b.difS r true)).1.getD r false=true):=by
 by_cases h:b.fatR r=2
 ·have:=b.dif_none (r:=r) (w:=true) λ o ho=>by rw [(b.fatR_two hok).1 h o ho];simp
  rw [this];simp [h]
 ·have:∃o,b.Ord o/\(b.ends o).1.getD r false=true:=by
   apply Classical.byContradiction;intro hn;exact h ((b.fatR_two hok).2 λ o ho=>by simpa using λ hh=>hn ⟨o,ho,hh⟩)
  obtain⟨o,ho,hw⟩:=this;obtain⟨h1,h2,-⟩:=Bk.dif_some ho hw;refine⟨⟨λ _=>h,λ _=>by rw [h1.len];exact h0⟩,λ _=>⟨h1,h2⟩⟩
theorem Bk.dif_false {r:Nat} (h0:0<b.cs.length):(0<(b.difS r false).length↔b.fatR r≠1)/\(b.fatR r≠1->b.Ord (b.difS r false)/\(b.ends (b.difS r false)).1.getD r false=false):=by
 by_cases h:b.fatR r=1
 ·have:=b.dif_none (r:=r) (w:=false) λ o ho=>by rw [b.fatR_one.1 h o ho];simp
  rw [this];simp [h]
 ·have:∃o,b.Ord o/\(b.ends o).1.getD r false=false:=by
   apply Classical.byContradiction;intro hn;exact h (b.fatR_one.2 λ o ho=>by simpa using λ hh=>hn ⟨o,ho,hh⟩)
  obtain⟨o,ho,hw⟩:=this;obtain⟨h1,h2,-⟩:=Bk.dif_some ho hw;refine⟨⟨λ _=>h,λ _=>by rw [h1.len];exact h0⟩,λ _=>⟨h1,h2⟩⟩
theorem Bk.dif_zero {r:Nat} (hr:r<b.rs.length) (h0:b.cs.length=0):b.difS r true=[]/\b.difS r false=[]/\b.fatR r=1:=by
 have hall:b.all=[[]]:=by unfold Bk.all;rw [h0];rfl
 have he:(b.ends []).1.getD r false=true:=by simp [Bk.ends,Bk.ini,List.getD_eq_getElem?_getD,List.getElem?_replicate,hr]
 refine⟨?_,?_,?_⟩
 ·unfold Bk.difS;rw [hall];simp only [List.find?_cons,he];rfl
 ·unfold Bk.difS;rw [hall];simp only [List.find?_cons,he];rfl
 ·rw [Bk.fatR_one];intro o ho;have:o=[]:=List.length_eq_zero_iff.1 (ho.len.trans h0);rw [this];exact he
end Go.TM
