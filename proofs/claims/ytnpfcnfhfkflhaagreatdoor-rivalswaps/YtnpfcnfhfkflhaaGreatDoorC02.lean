/- Lemmas of the proof. No conditions of their own. -/
import Derived.Test.YtnpfcnfhfkflhaaGreatDoorC00
set_option linter.all false
namespace Go.TM
variable {b:Bk}
theorem Bk.can_iff {o:List Nat} {i:Nat}:b.can o i=true↔i∉o/\∀k∈Je b.A i,k∈o:=by
 simp [Bk.can]
structure Bk.Ord (b:Bk) (o:List Nat):Prop where
 len:o.length=b.cs.length
 low:∀i∈o,i<b.cs.length
 nod:o.Nodup
 aft:∀X i Y,o=X++i::Y->∀k∈Je b.A i,k∈X
theorem Q4w {n:Nat} {l:List Nat} (h:∀i,i<n->i∈l):n<=l.length:=by
 have key:∀(n:Nat) (l:List Nat),(∀i,i<n->i∈l)->n<=l.length:=by
  intro n
  induction n with
  | zero=>intro l _;exact Nat.zero_le _
  | succ n ih=>
   intro l h;obtain⟨X,Y,e⟩:=List.append_of_mem (h n (by omega))
   have:=ih (X++Y) λ i hi=>by
    have:=h i (by omega);rw [e] at this;simp only [List.mem_append,List.mem_cons] at this ⊢;rcases this with h | h | h
    ·exact .inl h
    ·omega
    ·exact .inr h
   rw [e];simp at this ⊢;omega
 exact key n l h
theorem Bk.A_n (b:Bk):b.A.length=b.cs.length:=by simp [Bk.A]
theorem Bk.Ok.ord {b:Bk} (h:b.Ok):∃o,b.Ord o:=by
 obtain⟨L,hL,hall⟩:=Q38 h.lo;rw [b.A_n] at hall;refine⟨L.reverse,?_,λ i hi=>by rw [<- b.A_n];exact hL.low i (by simpa using hi),(by unfold List.Nodup;rw [List.pairwise_reverse];exact hL.nod.imp Ne.symm),λ X i Y e k hk=>?_⟩
 ·rw [List.length_reverse];have h1:=Qbc hL.nod (n:=b.cs.length) λ x hx=>by rw [<- b.A_n];exact hL.low x hx
  have h2:=Q4w hall;omega
 ·have e':L=Y.reverse++i::X.reverse:=by
   rw [<- List.reverse_reverse L,e];simp
  have:=hL.aft _ _ _ e' k hk;simpa using this
theorem Bk.Ord.has {b:Bk} {o:List Nat} (h:b.Ord o) {i:Nat} (hi:i<b.cs.length):i∈o:=by
 apply Classical.byContradiction;intro hn;have h1:(i::o).Nodup:=List.nodup_cons.2 ⟨hn,h.nod⟩
 have:=Qbc h1 (n:=b.cs.length) λ x hx=>by
  rcases List.mem_cons.1 hx with rfl | hx
  ·exact hi
  ·exact h.low x hx
 rw [List.length_cons,h.len] at this;omega
theorem Bk.stp_len (b:Bk) (x:List Bool×List Bool) (i:Nat):(b.stp x i).1.length=x.1.length/\(b.stp x i).2.length=x.2.length:=by
 unfold Bk.stp;split <;> simp
theorem Bk.end_len (b:Bk) (o:List Nat):(b.ends o).1.length=b.rs.length/\(b.ends o).2.length=b.cs.length:=by
 have key:∀(o:List Nat) (x:List Bool×List Bool),(o.foldl b.stp x).1.length=x.1.length/\(o.foldl b.stp x).2.length=x.2.length:=by
  intro o
  induction o with
  | nil=>exact λ x=>⟨rfl,rfl⟩
  | cons i o ih=>
   intro x;have h1:=ih (b.stp x i);have h2:=b.stp_len x i;exact⟨h1.1.trans h2.1,h1.2.trans h2.2⟩
 have:=key o b.ini;simpa [Bk.ends,Bk.ini] using this
theorem Q4v {l:List Bool} {i j:Nat} {v:Bool}:(l.set i v).getD j false=if i=j/\i<l.length then v else l.getD j false:=by
 simp only [List.getD_eq_getElem?_getD,List.getElem?_set];by_cases e:i=j
 ·subst e;by_cases h:i<l.length
  ·simp [h]
  ·simp [h]
 ·simp [e]
theorem Bk.Ord.split {b:Bk} {o:List Nat} (h:b.Ord o) {i:Nat} (hi:i<b.cs.length):∃X Y,o=X++i::Y:=List.append_of_mem (h.has hi)
def Bk.nexts (b:Bk) (o:List Nat):List Nat:=(List.range b.cs.length).filter λ i=>b.can o i
def Bk.pickO (b:Bk) (p:List Nat):Nat->List Nat->List Nat
 | 0,o=>o
 | k+1,o=>b.pickO p k (o++[(b.nexts o).getD (p.getD o.length 0 % (b.nexts o).length) 0])
structure Bk.Beg (b:Bk) (o:List Nat):Prop where
 low:∀i∈o,i<b.cs.length
 nod:o.Nodup
 aft:∀X i Y,o=X++i::Y->∀k∈Je b.A i,k∈X
theorem Bk.Beg.nil:b.Beg []:=⟨by simp,.nil,λ X i Y e=>by cases X <;> cases e⟩
theorem Bk.Beg.le {o:List Nat} (h:b.Beg o):o.length<=b.cs.length:=Qbc h.nod h.low
theorem Bk.Beg.snoc {o:List Nat} {i:Nat} (h:b.Beg o) (hi:i<b.cs.length) (hc:b.can o i=true):b.Beg (o++[i]):=by
 obtain⟨h1,h2⟩:=Bk.can_iff.1 hc;refine⟨λ j hj=>?_,?_,λ X j Y e k hk=>?_⟩
 ·rcases List.mem_append.1 hj with hj | hj
  ·exact h.low j hj
  ·simp at hj;subst hj;exact hi
 ·rw [List.nodup_append];exact⟨h.nod,by simp,λ x hx y hy e=>by simp at hy;subst hy;subst e;exact h1 hx⟩
 ·rcases List.eq_nil_or_concat Y with rfl | ⟨Y',y,rfl⟩
  ·obtain⟨rfl,e2⟩:=List.append_inj' e (by simp);cases e2;exact h2 k hk
  ·have e':o++[i]=(X++j::Y')++[y]:=by rw [e];simp
   obtain⟨e1,-⟩:=List.append_inj' e' (by simp);exact h.aft X j Y' e1 k hk
theorem Bk.Beg.next {o:List Nat} (hok:b.Ok) (h:b.Beg o) (hlt:o.length<b.cs.length):0<(b.nexts o).length:=by
 obtain⟨f,hf⟩:=hok.ord
 have hex:∃i∈f,i∉o:=by
  apply Classical.byContradiction;intro hn
  have hall:∀i,i<b.cs.length->i∈o:=λ i hi=>by
   apply Classical.byContradiction;intro hni;exact hn ⟨i,hf.has hi,hni⟩
  have:=Q4w hall;omega
 have hfirst:∃X i Y,f=X++i::Y/\i∉o/\∀k∈X,k∈o:=by
  have key:∀(Y X:List Nat),f=X++Y->(∀k∈X,k∈o)->(∃i∈Y,i∉o)->∃X i Y,f=X++i::Y/\i∉o/\∀k∈X,k∈o:=by
   intro Y
   induction Y with
   | nil=>rintro X _ _ ⟨i,hi,-⟩;cases hi
   | cons y Y ih=>
    rintro X e hX ⟨i,hi,hni⟩;by_cases hy:y∈o
    ·refine ih (X++[y]) (by rw [e];simp) (λ k hk=>?_) ?_
     ·rcases List.mem_append.1 hk with hk | hk
      ·exact hX k hk
      ·simp at hk;subst hk;exact hy
     ·rcases List.mem_cons.1 hi with rfl | hi
      ·exact absurd hy hni
      ·exact⟨i,hi,hni⟩
    ·exact⟨X,y,Y,e,hy,hX⟩
  exact key f [] (by simp) (by simp) hex
 obtain⟨X,i,Y,e,hi,hX⟩:=hfirst;refine List.length_pos_of_mem (a:=i) (List.mem_filter.2 ⟨List.mem_range.2 (hf.low i (by rw [e];simp)),?_⟩);exact Bk.can_iff.2 ⟨hi,λ k hk=>hX k (hf.aft X i Y e k hk)⟩
theorem Bk.nexts_at {o:List Nat} {q:Nat} (h:q<(b.nexts o).length):(b.nexts o).getD q 0<b.cs.length/\b.can o ((b.nexts o).getD q 0)=true:=by
 have hm:(b.nexts o).getD q 0∈b.nexts o:=by
  rw [List.getD_eq_getElem?_getD,List.getElem?_eq_getElem h];exact List.getElem_mem h
 obtain⟨h1,h2⟩:=List.mem_filter.1 hm;exact⟨List.mem_range.1 h1,h2⟩
theorem Bk.pick_beg (hok:b.Ok) (p:List Nat):∀(k:Nat) (o:List Nat),b.Beg o->o.length+k<=b.cs.length->b.Beg (b.pickO p k o)/\(b.pickO p k o).length=o.length+k
 | 0,o,h,_=>⟨h,rfl⟩
 | k+1,o,h,hl=>by
  have hn:=h.next hok (by omega);obtain⟨h1,h2⟩:=Bk.nexts_at (Nat.mod_lt (p.getD o.length 0) hn);have:=Bk.pick_beg hok p k _ (h.snoc h1 h2) (by simp;omega);refine⟨this.1,?_⟩;have h3:=this.2;simp only [List.length_append,List.length_singleton] at h3;show (b.pickO p k _).length=_;omega
theorem Bk.pick_ord (hok:b.Ok) (p:List Nat):b.Ord (b.pickO p b.cs.length []):=by
 obtain⟨h1,h2⟩:=Bk.pick_beg hok p b.cs.length [] Bk.Beg.nil (by simp);exact⟨by simpa using h2,h1.low,h1.nod,h1.aft⟩
theorem Bk.Ord.flaw {o:List Nat} (h:b.Ord o):b.ordF (o.map λ (k:Nat)=>(k:Int))=0:=by
 have key:∀(q p:List Nat),o=p++q->b.ordL p (q.map λ (k:Nat)=>(k:Int))=0:=by
  intro q
  induction q with
  | nil=>intro p _;rfl
  | cons i q ih=>
   intro p e;have hi:i<b.cs.length:=h.low i (by rw [e];simp);have hn:=h.nod;rw [e,List.nodup_append] at hn;have hip:i∉p:=λ hm=>hn.2.2 i hm i (List.mem_cons_self ..) rfl;have ha:=h.aft p i q e;show (if Go.TM.btw (i:Int) 0 (b.nc-1) then (if (i:Int).toNat∈p then 5 else if (Je b.A (i:Int).toNat).all (λ k=>p.contains k) then b.ordL (p++[(i:Int).toNat]) (q.map λ (k:Nat)=>(k:Int)) else 7) else 6)=0;rw [if_pos (by unfold Bk.nc;simp [btw];omega),Int.toNat_natCast,if_neg hip,if_pos (by rw [List.all_eq_true];intro k hk;simpa using ha k hk)];exact ih (p++[i]) (by rw [e];simp)
 unfold Bk.ordF;rw [if_neg (by rw [List.length_map,h.len];simp)];exact key o [] rfl
abbrev Qjj (o:List Nat):List Int:=o.map λ (k:Nat)=>(k:Int)
structure Bk.Free (b:Bk) (i k:Nat):Prop where
 gi:∀g∈(b.cas i).gs,(b.cas k).ag∉g
 gk:∀g∈(b.cas k).gs,(b.cas i).ag∉g
 ai:(k:Int)∉(b.cas i).af
 ak:(i:Int)∉(b.cas k).af
theorem Qbj {gs:List (List Int)} {s:List Bool} {a:Int} (ha:0<=a) (h0:∀g∈gs,∀n∈g,0<=n) (h:∀g∈gs,a∉g):Zng gs (s.set a.toNat false)=Zng gs s:=by
 unfold Zng
 have key:∀g∈gs,(g.all λ r=>(s.set a.toNat false).getD r.toNat false)=g.all λ r=>s.getD r.toNat false:=by
  intro g hg;rw [Bool.eq_iff_iff,List.all_eq_true,List.all_eq_true]
  have e:∀r∈g,(s.set a.toNat false).getD r.toNat false=s.getD r.toNat false:=λ r hr=>by
   rw [Q4v,if_neg];rintro⟨e,-⟩;have:=h0 g hg r hr;have:a=r:=by omega
   exact h g hg (this ▸ hr)
  constructor
  ·intro hh r hr;rw [<- e r hr];exact hh r hr
  ·intro hh r hr;rw [e r hr];exact hh r hr
 rw [Bool.eq_iff_iff,List.any_eq_true,List.any_eq_true];constructor
 ·rintro⟨g,hg,hx⟩;rw [key g hg] at hx;exact⟨g,hg,hx⟩
 ·rintro⟨g,hg,hx⟩;rw [<- key g hg] at hx;exact⟨g,hg,hx⟩
theorem Bk.Ok.casIn {b:Bk} {i:Nat} (hi:i<b.cs.length):b.cas i∈b.cs:=by
 unfold Bk.cas;rw [List.getD_eq_getElem?_getD,List.getElem?_eq_getElem hi];exact List.getElem_mem hi
theorem Zc3 {l:List Bool} {i k:Nat} {v:Bool}:(l.set i v).set k v=(l.set k v).set i v:=by
 by_cases e:i=k
 ·subst e;rfl
 ·exact List.set_comm v v e
theorem Bk.stp_swap (hok:b.Ok) {i k:Nat} (hi:i<b.cs.length) (hk:k<b.cs.length) (hf:b.Free i k) (x:List Bool×List Bool):b.stp (b.stp x i) k=b.stp (b.stp x k) i:=by
 have ci:=Bk.Ok.casIn hi;have ck:=Bk.Ok.casIn hk;have hai:=(hok.ag _ ci).1;have hak:=(hok.ag _ ck).1;have gi0:∀g∈(b.cas i).gs,∀n∈g,0<=n:=λ g hg n hn=>((hok.gs _ ci g hg).2 n hn).1;have gk0:∀g∈(b.cas k).gs,∀n∈g,0<=n:=λ g hg n hn=>((hok.gs _ ck g hg).2 n hn).1;unfold Bk.stp;by_cases h1:Zng (b.cas i).gs x.1=true
 ·by_cases h2:Zng (b.cas k).gs x.1=true
  ·rw [if_pos h1,if_pos h2];simp only;rw [Qbj hai gk0 hf.gk,Qbj hak gi0 hf.gi,if_pos h1,if_pos h2];rw [Zc3,Zc3 (i:=i) (k:=k)]
  ·rw [if_pos h1,if_neg h2];simp only;rw [Qbj hai gk0 hf.gk,if_neg h2,if_pos h1]
 ·by_cases h2:Zng (b.cas k).gs x.1=true
  ·rw [if_neg h1,if_pos h2];simp only;rw [Qbj hak gi0 hf.gi,if_neg h1]
  ·rw [if_neg h1,if_neg h2,if_neg h1]
theorem Bk.ends_app (b:Bk) (X Y:List Nat):b.ends (X++Y)=Y.foldl b.stp (b.ends X):=by simp [Bk.ends]
theorem Bk.swap_ends (hok:b.Ok) {i k:Nat} (hi:i<b.cs.length) (hk:k<b.cs.length) (hf:b.Free i k) (X Y:List Nat):b.ends (X++i::k::Y)=b.ends (X++k::i::Y):=by
 rw [b.ends_app,b.ends_app];show Y.foldl b.stp (b.stp (b.stp (b.ends X) i) k)=Y.foldl b.stp (b.stp (b.stp (b.ends X) k) i);rw [Bk.stp_swap hok hi hk hf]
theorem Bk.aft_cas (hok:b.Ok) {i k:Nat} (hi:i<b.cs.length) (h:k∈Je b.A i):(k:Int)∈(b.cas i).af:=by
 have ci:=Bk.Ok.casIn hi
 have e:Je b.A i=(b.cas i).af.map Int.toNat:=by
  simp [Je,Bk.A,Bk.cas,List.getD_eq_getElem?_getD,hi]
 rw [e] at h;obtain⟨n,hn,hk⟩:=List.mem_map.1 h;have:=(hok.af _ ci n hn).1;have:(k:Int)=n:=by omega
 exact this ▸ hn
theorem Bk.swap_ord (hok:b.Ok) {i k:Nat} {X Y:List Nat} (ho:b.Ord (X++i::k::Y)) (hf:b.Free i k):b.Ord (X++k::i::Y):=by
 have hi:i<b.cs.length:=ho.low i (by simp);have hk:k<b.cs.length:=ho.low k (by simp);have hp:(X++k::i::Y).Perm (X++i::k::Y):=(List.Perm.swap i k Y).append_left X;refine⟨hp.length_eq.trans ho.len,λ j hj=>ho.low j (hp.mem_iff.1 hj),hp.nodup_iff.2 ho.nod,λ Z j W e n hn=>?_⟩;have hj:j<b.cs.length:=ho.low j (hp.mem_iff.1 (by rw [e];simp));have hX:∀P Q,X=P++j::Q->n∈P:=λ P Q e1=>ho.aft P j (Q++i::k::Y) (by rw [e1];simp) n hn;rcases List.append_eq_append_iff.1 e with⟨az,e1,e2⟩ | ⟨bs,e1,e2⟩
 ·
  cases az with
  | nil=>
   simp only [List.nil_append,List.cons.injEq] at e2;obtain⟨rfl,e3⟩:=e2;rw [List.append_nil] at e1;subst e1;have:=ho.aft (Z++[i]) k Y (by simp) n hn;rcases List.mem_append.1 this with h | h
   ·exact h
   ·simp at h;subst h;exact absurd (Bk.aft_cas hok hk hn) hf.ak
  | cons u az=>
   simp only [List.cons_append,List.cons.injEq] at e2;obtain⟨rfl,e3⟩:=e2;cases az with
   | nil=>
    simp only [List.nil_append,List.cons.injEq] at e3;obtain⟨rfl,e4⟩:=e3;have:=ho.aft X i (k::Y) rfl n hn;rw [e1];simp [this]
   | cons w az=>
    simp only [List.cons_append,List.cons.injEq] at e3;obtain⟨rfl,e4⟩:=e3;have:=ho.aft (X++i::k::az) j W (by rw [e4];simp) n hn;rw [e1];simp only [List.mem_append,List.mem_cons] at this ⊢;rcases this with h | h | h | h
    ·exact .inl h
    ·exact .inr (.inr (.inl h))
    ·exact .inr (.inl h)
    ·exact .inr (.inr (.inr h))
 ·
  cases bs with
  | nil=>
   simp only [List.nil_append,List.cons.injEq] at e2;obtain⟨rfl,e3⟩:=e2;rw [List.append_nil] at e1;subst e1;have:=ho.aft (X++[i]) j Y (by simp) n hn;rcases List.mem_append.1 this with h | h
   ·exact h
   ·simp at h;subst h;exact absurd (Bk.aft_cas hok hk hn) hf.ak
  | cons u bs=>
   simp only [List.cons_append,List.cons.injEq] at e2;obtain⟨rfl,e3⟩:=e2;exact hX Z bs e1
end Go.TM
