/- Lemmas of the proof. No conditions of their own. -/
import Derived.Test.YtnpfcnfhfkflhaaGreatDoorC02
set_option linter.all false
namespace Go.TM
variable {b:Bk}
theorem Bk.every_asc (b:Bk):b.every.Pairwise (· < ·):=List.pairwise_map.2 (List.pairwise_lt_range.imp λ h=>by omega)
theorem Bk.every_len (b:Bk):b.every.length=b.cs.length:=by simp [Bk.every]
theorem Q4x:∀{l l':List Int},l.Pairwise (· < ·)->l'.Pairwise (· < ·)->(∀x,x∈l↔x∈l')->l=l'
 | [],[],_,_,_=>rfl
 | [],y::l',_,_,h=>by have:=(h y).2 (List.mem_cons_self ..);cases this
 | x::l,[],_,_,h=>by have:=(h x).1 (List.mem_cons_self ..);cases this
 | x::l,y::l',h1,h2,h=>by
  obtain⟨a1,a2⟩:=List.pairwise_cons.1 h1;obtain⟨b1,b2⟩:=List.pairwise_cons.1 h2
  have hxy:x=y:=by
   have k1:=(h x).1 (List.mem_cons_self ..);have k2:=(h y).2 (List.mem_cons_self ..);rcases List.mem_cons.1 k1 with e | e
   ·exact e
   ·rcases List.mem_cons.1 k2 with e' | e'
    ·exact e'.symm
    ·have:=b1 x e;have:=a1 y e';omega
  subst hxy;rw [Q4x a2 b2 λ z=>?_];constructor
  ·intro hz;rcases List.mem_cons.1 ((h z).1 (List.mem_cons_of_mem _ hz)) with e | e
   ·have:=a1 z hz;omega
   ·exact e
  ·intro hz;rcases List.mem_cons.1 ((h z).2 (List.mem_cons_of_mem _ hz)) with e | e
   ·have:=b1 z hz;omega
   ·exact e
theorem Q4v {n:Int}:∀{l:List Int} {p:Option Int},J1 n p l=0->l.Pairwise (· < ·)/\∀m,p=some m->∀x∈l,m<x
 | [],_,_=>⟨.nil,λ _ _ x hx=>by cases hx⟩
 | y::l,p,h=>by
  rw [Wm] at h;by_cases hb:btw y 0 (n-1)=true
  ·rw [if_pos hb] at h
   have hr:J1 n (some y) l=0/\∀m,p=some m->m<y:=by
    cases p with
    | none=>exact⟨h,λ _ e=>by cases e⟩
    | some m=>
     simp only at h;split at h
     ·cases h
     ·exact⟨h,λ _ e=>by cases e;omega⟩
   obtain⟨k1,k2⟩:=Q4v hr.1;refine⟨List.pairwise_cons.2 ⟨k2 y rfl,k1⟩,λ m e x hx=>?_⟩;have h1:=hr.2 m e;rcases List.mem_cons.1 hx with rfl | hx
   ·exact h1
   ·have:=k2 y rfl x hx;omega
  ·rw [if_neg hb] at h;cases h
theorem Q4u {l:List Nat} (h:l.Nodup) {i j x:Nat} (hi:l[i]?=some x) (hj:l[j]?=some x):i=j:=by
 obtain⟨h1,e1⟩:=List.getElem?_eq_some_iff.1 hi;obtain⟨h2,e2⟩:=List.getElem?_eq_some_iff.1 hj;rw [List.nodup_iff_pairwise_ne,List.pairwise_iff_getElem] at h;rcases Nat.lt_trichotomy i j with hlt | e | hlt
 ·exact absurd (e1.trans e2.symm) (h i j h1 h2 hlt)
 ·exact e
 ·exact absurd (e2.trans e1.symm) (h j i h2 h1 hlt)
theorem Qjj (hok:b.Ok) {out:Nat->Bool} {i k:Nat} (hi:i<b.cs.length):Qaj b.A out b.cs.length i k=true↔∃s,Qaj b.A out s i k=true:=by
 refine⟨λ h=>⟨_,h⟩,λ⟨s,h⟩=>?_⟩;obtain⟨L,hL,hall⟩:=Q38 hok.lo;rw [b.A_n] at hall hL;obtain⟨X,Y,e⟩:=List.append_of_mem (hall i hi);refine Qe4 ?_ (Qtu hL X Y e h);have:=Qbc hL.nod (n:=b.cs.length) λ x hx=>by rw [<- b.A_n];exact hL.low x hx
 rw [e] at this;simp at this;omega
theorem Bk.wo_none (hok:b.Ok):b.wo (Qli []).testBit=b:=by
 have ho:∀k,(Qli []).testBit k=false:=λ k=>by simp [Qli,Z7]
 have hk:b.kept (Qli []).testBit=List.range b.cs.length:=by
  unfold Bk.kept;rw [List.filter_eq_self];intro k _;rw [ho];rfl
 have hcs:(b.wo (Qli []).testBit).cs=b.cs:=by
  show (b.kept (Qli []).testBit).map _=_;rw [hk]
  conv=>rhs;rw [<- b.cas_all]
  refine List.map_congr_left λ i hi=>?_;rw [List.mem_range] at hi;have hm:=Bk.mem_cas hi;have hri:=(Q4v (hok.ri _ hm)).1;have hin:=hok.af _ hm;have e:Je b.A i=(b.cas i).af.map Int.toNat:=by simp [Je,Bk.A,Bk.cas,List.getD_eq_getElem?_getD,hi]
  have haf:((List.range (List.range b.cs.length).length).filter λ p=>Qaj b.A (Qli []).testBit b.cs.length i ((List.range b.cs.length).getD p 0)).map (λ (p:Nat)=>(p:Int))=(b.cas i).af:=by
   refine Q4x (List.pairwise_map.2 ((List.pairwise_lt_range.filter _).imp λ h=>by omega)) hri λ x=>?_;simp only [List.mem_map,List.mem_filter,List.mem_range,List.length_range]
   have hb:∀k,Qaj b.A (Qli []).testBit b.cs.length i k=true↔k∈Je b.A i:=λ k=>by
    rw [Qjj hok hi];constructor
    ·rintro⟨s,hs⟩;cases s with
     | zero=>simpa [Qaj] using hs
     | succ s=>
      rcases Qh1.1 hs with h | ⟨o,-,h,-⟩
      ·simpa using h
      ·rw [ho] at h;cases h
    ·intro h;exact⟨0,Qh2 (by simpa using h)⟩
   constructor
   ·rintro⟨p,⟨hp,h⟩,rfl⟩;rw [List.getD_eq_getElem?_getD,List.getElem?_range hp] at h;exact Bk.aft_cas hok hi ((hb _).1 h)
   ·intro hx;have hx2:=hin x hx;unfold Bk.nc at hx2;refine⟨x.toNat,⟨by omega,?_⟩,by omega⟩;rw [List.getD_eq_getElem?_getD,List.getElem?_range (by omega)];refine (hb _).2 ?_;rw [e];exact List.mem_map.2 ⟨x,hx,rfl⟩
  rw [haf]
 have:(b.wo (Qli []).testBit)=⟨(b.wo (Qli []).testBit).rs,(b.wo (Qli []).testBit).cs⟩:=rfl;rw [this,hcs];rfl
theorem Q0m {A:List (List Nat)} {D D':Nat->Bool} {x:Nat} (hD:∀k,D' k=(D k || k == x)) {k:Nat}:∀(s i:Nat),Qaj A D' s i k=true->(∃s,Qaj A D s i k=true)\/(∃s,Qaj A D s i x=true)/\∃s,Qaj A D s x k=true
 | 0,i,h=>.inl ⟨0,Qh2 (by simpa [Qaj] using h)⟩
 | s+1,i,h=>by
  rcases Qh1.1 h with h | ⟨o,h1,h2,h3⟩
  ·exact .inl ⟨0,Qh2 h⟩
  ·have ih:=Q0m hD s o h3;rw [hD] at h2;by_cases hx:o=x
   ·subst hx;have h0:∃s,Qaj A D s i o=true:=⟨0,Qh2 (by simpa using h1)⟩;rcases ih with h | ⟨-,h⟩
    ·exact .inr ⟨h0,h⟩
    ·exact .inr ⟨h0,h⟩
   ·have hDo:D o=true:=by simpa [hx] using h2
    have st:∀{z:Nat},(∃s,Qaj A D s o z=true)->∃s,Qaj A D s i z=true:=λ⟨s,hs⟩=>⟨s+1,Qh1.2 (.inr ⟨o,h1,hDo,hs⟩)⟩;rcases ih with h | ⟨h,h'⟩
    ·exact .inl (st h)
    ·exact .inr ⟨st h,h'⟩
theorem Qlg {A:List (List Nat)} {D D':Nat->Bool} (hD:∀k,D k=true->D' k=true) {k:Nat}:∀(s i:Nat),Qaj A D s i k=true->Qaj A D' s i k=true
 | 0,i,h=>by simpa [Qaj] using h
 | s+1,i,h=>by
  rcases Qh1.1 h with h | ⟨o,h1,h2,h3⟩
  ·exact Qh1.2 (.inl h)
  ·exact Qh1.2 (.inr ⟨o,h1,hD o h2,Qlg hD s o h3⟩)
theorem Q4z {out:Nat->Bool} {x n:Nat} (hx:x<n) (hlow:∀k,k<=x->out k=false):((List.range n).filter λ i=>!out i)[x]?=some x:=by
 obtain⟨m,rfl⟩:∃m,n=(x+1)+m:=⟨n-(x+1),by omega⟩;rw [List.range_add,List.filter_append,List.getElem?_append_left]
 ·rw [List.filter_eq_self.2 λ k hk=>by rw [List.mem_range] at hk;rw [hlow k (by omega)];rfl];rw [List.getElem?_range (by omega)]
 ·rw [List.filter_eq_self.2 λ k hk=>by rw [List.mem_range] at hk;rw [hlow k (by omega)];rfl];simp
theorem Bk.wo_cas (out:Nat->Bool) {p i:Nat} (h:(b.kept out)[p]?=some i):(b.wo out).cas p={ b.cas i with af:=((List.range (b.kept out).length).filter λ q=>Qaj b.A out b.cs.length i ((b.kept out).getD q 0)).map λ (p:Nat)=>(p:Int) }:=by
 unfold Bk.wo Bk.cas;simp [List.getD_eq_getElem?_getD,h]
theorem Bk.wo_more (hok:b.Ok) {D D':Nat->Bool} {x:Nat} (hx:x<b.cs.length) (hD:∀k,D' k=(D k || k == x)) (hlow:∀k,k<=x->D k=false):(b.wo D).wo (λ k=>k == x)=b.wo D':=by
 have ho:=hok.wo D;have hK:=Q4z (out:=D) hx hlow;have hKx:(b.kept D)[x]?=some x:=hK;have hm:(b.wo D).cs.length=(b.kept D).length:=b.wo_nc D
 have hKl:∀p i,(b.kept D)[p]?=some i->i<b.cs.length/\D i=false:=λ p i h=>by
  obtain⟨h1,h2⟩:=List.mem_filter.1 (List.mem_of_getElem? h);exact⟨List.mem_range.1 h1,by simpa using h2⟩
 have hKn:(b.kept D).Nodup:=List.nodup_range.filter _
 have hkept:b.kept D'=((b.wo D).kept λ k=>k == x).map λ p=>(b.kept D).getD p 0:=by
  have e1:b.kept D'=(b.kept D).filter λ k=>!(k == x):=by
   unfold Bk.kept;rw [List.filter_filter];refine List.filter_congr λ k _=>?_;rw [hD];cases D k <;> simp
  have e2:b.kept D=(List.range (b.kept D).length).map λ p=>(b.kept D).getD p 0:=by
   apply List.ext_getElem?;intro p;by_cases hp:p<(b.kept D).length
   ·simp [hp]
   ·rw [List.getElem?_eq_none (by omega),List.getElem?_eq_none (by simp;omega)]
  rw [e1]
  conv=>lhs;rw [e2]
  rw [List.filter_map];unfold Bk.kept;rw [hm];congr 1;refine List.filter_congr λ p hp=>?_;rw [List.mem_range] at hp;have hp':p<(b.kept D).length:=hp;show (!((b.kept D).getD p 0 == x))=!(p == x);congr 1;rw [Bool.eq_iff_iff,beq_iff_eq,beq_iff_eq,List.getD_eq_getElem?_getD,List.getElem?_eq_getElem hp'];constructor
  ·intro h;have h1:(b.kept D)[p]?=some x:=by rw [List.getElem?_eq_getElem hp'];exact congrArg some h
   exact Q4u hKn h1 hKx
  ·rintro rfl;obtain⟨hx1,hx2⟩:=List.getElem?_eq_some_iff.1 hKx;exact hx2
 have hDo:∀k,D k=true->D' k=true:=λ k h=>by rw [hD,h];rfl
 have hDx:D' x=true:=by rw [hD];simp
 have haft:∀p i,(b.kept D)[p]?=some i->∀q j,(b.kept D)[q]?=some j->(q∈Je (b.wo D).A p↔∃s,Qaj b.A D s i j=true):=λ p i hp q j hq=>by
  have hpl:=(List.getElem?_eq_some_iff.1 hp).1;have hql:=(List.getElem?_eq_some_iff.1 hq).1;rw [b.wo_aft D hpl,List.mem_filter,List.mem_range];have e1:(b.kept D).getD p 0=i:=by rw [List.getD_eq_getElem?_getD,hp];rfl
  have e2:(b.kept D).getD q 0=j:=by rw [List.getD_eq_getElem?_getD,hq];rfl
  rw [e1,e2,Qjj hok (hKl p i hp).1];exact⟨λ h=>h.2,λ h=>⟨hql,h⟩⟩
 have forth:∀(s p i:Nat),(b.kept D)[p]?=some i->∀q j,(b.kept D)[q]?=some j->Qaj (b.wo D).A (λ k=>k == x) s p q=true->∃s,Qaj b.A D' s i j=true:=by
  intro s
  induction s with
  | zero=>
   intro p i hp q j hq h;obtain⟨s,hs⟩:=(haft p i hp q j hq).1 (by simpa [Qaj] using h);exact⟨s,Qlg hDo s i hs⟩
  | succ s ih=>
   intro p i hp q j hq h;rcases Qh1.1 h with h | ⟨o,h1,h2,h3⟩
   ·obtain⟨s,hs⟩:=(haft p i hp q j hq).1 (by simpa using h);exact⟨s,Qlg hDo s i hs⟩
   ·obtain rfl:o=x:=by simpa using h2
    obtain⟨s1,hs1⟩:=(haft p i hp o o hKx).1 h1;obtain⟨s2,hs2⟩:=ih o o hKx q j hq h3;exact⟨_,Qtv (Qlg hDo s1 i hs1) hDx hs2⟩
 have back:∀(p i:Nat),(b.kept D)[p]?=some i->∀q j,(b.kept D)[q]?=some j->(∃s,Qaj b.A D' s i j=true)->∃s,Qaj (b.wo D).A (λ k=>k == x) s p q=true:=by
  rintro p i hp q j hq ⟨s,hs⟩;rcases Q0m hD s i hs with h | ⟨h1,h2⟩
  ·exact⟨0,Qh2 (by simpa using (haft p i hp q j hq).2 h)⟩
  ·refine⟨1,Qh1.2 (.inr ⟨x,(haft p i hp x x hKx).2 h1,by simp,Qh2 (by simpa using (haft x x hKx q j hq).2 h2)⟩)⟩
 have hcs:((b.wo D).wo λ k=>k == x).cs=(b.wo D').cs:=by
  show List.map _ _=List.map _ _;rw [hkept,List.map_map];refine List.map_congr_left λ p hp=>?_;obtain⟨hpm,hpx⟩:=List.mem_filter.1 hp;rw [List.mem_range,hm] at hpm;obtain⟨i,hpi⟩:∃i,(b.kept D)[p]?=some i:=⟨_,List.getElem?_eq_getElem hpm⟩;have e1:(b.kept D).getD p 0=i:=by rw [List.getD_eq_getElem?_getD,hpi];rfl
  show _=_;simp only [Function.comp];rw [e1,b.wo_cas D hpi];simp only [Cs.mk.injEq,true_and];rw [List.length_map];congr 1;refine List.filter_congr λ q hq=>?_;rw [List.mem_range] at hq;obtain⟨q',hq'⟩:∃q',((b.wo D).kept λ k=>k == x)[q]?=some q':=⟨_,List.getElem?_eq_getElem hq⟩;have e3:((b.wo D).kept λ k=>k == x).getD q 0=q':=by rw [List.getD_eq_getElem?_getD,hq'];rfl
  obtain⟨hqm,-⟩:=List.mem_filter.1 (List.mem_of_getElem? hq');rw [List.mem_range,hm] at hqm;obtain⟨j,hqj⟩:∃j,(b.kept D)[q']?=some j:=⟨_,List.getElem?_eq_getElem hqm⟩
  have e4:(((b.wo D).kept λ k=>k == x).map λ p=>(b.kept D).getD p 0).getD q 0=j:=by
   rw [List.getD_eq_getElem?_getD,List.getElem?_map,hq'];show (b.kept D).getD q' 0=j;rw [List.getD_eq_getElem?_getD,hqj];rfl
  rw [e3,e4,Bool.eq_iff_iff,Qjj ho (by rw [hm];exact hpm),Qjj hok (hKl p i hpi).1];exact⟨λ⟨s,hs⟩=>forth s p i hpi q' j hqj hs,λ hh=>back p i hpi q' j hqj hh⟩
 have:((b.wo D).wo λ k=>k == x)=⟨b.rs,((b.wo D).wo λ k=>k == x).cs⟩:=rfl;rw [this,hcs];rfl
theorem Bk.Ord.before {o:List Nat} (hok:b.Ok) (ho:b.Ord o) {out:Nat->Bool} {k:Nat}:∀(s i:Nat) (X Y:List Nat),o=X++i::Y->Qaj b.A out s i k=true->k∈X
 | 0,i,X,Y,e,h=>ho.aft X i Y e k (by simpa [Qaj] using h)
 | s+1,i,X,Y,e,h=>by
  rcases Qh1.1 h with h | ⟨q,h1,-,h3⟩
  ·exact ho.aft X i Y e k (by simpa using h)
  ·have hq:=ho.aft X i Y e q h1;obtain⟨X1,X2,e1⟩:=List.append_of_mem hq;have:=Bk.Ord.before hok ho s q X1 (X2++i::Y) (by rw [e,e1];simp) h3;rw [e1];simp [this]
def Bk.restO (b:Bk) (out:Nat->Bool) (o:List Nat):List Nat:=o.flatMap λ a=>(List.range (b.kept out).length).filter λ k=>(b.kept out).getD k 0 == a
theorem Bk.restO_map (out:Nat->Bool):∀{o:List Nat},(∀i∈o,i<b.cs.length)->(b.restO out o).map (λ k=>(b.kept out).getD k 0)=o.filter λ i=>!out i
 | [],_=>rfl
 | a::o,h=>by
  have ih:=Bk.restO_map out (o:=o) λ i hi=>h i (List.mem_cons_of_mem _ hi);have ha:=h a (List.mem_cons_self ..);unfold Bk.restO at ih ⊢;rw [List.flatMap_cons,List.map_append,ih,List.filter_cons];have hKn:(b.kept out).Nodup:=List.nodup_range.filter _;have hmem:a∈b.kept out↔out a=false:=by unfold Bk.kept;rw [List.mem_filter,List.mem_range];simp [ha]
  have key:((List.range (b.kept out).length).filter λ k=>(b.kept out).getD k 0 == a).map (λ k=>(b.kept out).getD k 0)=(b.kept out).filter λ k=>k == a:=by
   have e2:b.kept out=(List.range (b.kept out).length).map λ p=>(b.kept out).getD p 0:=by
    apply List.ext_getElem?;intro p;by_cases hp:p<(b.kept out).length
    ·simp [hp]
    ·rw [List.getElem?_eq_none (by omega),List.getElem?_eq_none (by simp;omega)]
   conv=>rhs;rw [e2]
   rw [List.filter_map];rfl
  rw [key];cases hout:out a with
  | true=>
   have hno:a∉b.kept out:=λ hh=>by rw [hmem.1 hh] at hout;cases hout
   rw [List.filter_eq_nil_iff.2 λ k hk=>by rw [beq_iff_eq];rintro rfl;exact hno hk];simp
  | false=>
   obtain⟨X,Y,e⟩:=List.append_of_mem (hmem.2 hout);have hn:=hKn;rw [e] at hn ⊢;rw [List.nodup_append] at hn;have h1:X.filter (λ k=>k == a)=[]:=List.filter_eq_nil_iff.2 λ k hk=>by rw [beq_iff_eq];exact hn.2.2 k hk a (List.mem_cons_self ..)
   have h2:Y.filter (λ k=>k == a)=[]:=List.filter_eq_nil_iff.2 λ k hk=>by rw [beq_iff_eq];rintro rfl;exact (List.nodup_cons.1 hn.2.1).1 hk
   rw [List.filter_append,List.filter_cons,h1,h2];simp
theorem Bk.restO_ord (hok:b.Ok) (out:Nat->Bool) {o:List Nat} (ho:b.Ord o):(b.wo out).Ord (b.restO out o):=by
 have hmap:=Bk.restO_map (b:=b) out ho.low;have hm:(b.wo out).cs.length=(b.kept out).length:=b.wo_nc out
 have hlow:∀k∈b.restO out o,k<(b.kept out).length:=λ k hk=>by
  obtain⟨a,-,h⟩:=List.mem_flatMap.1 hk;exact List.mem_range.1 (List.mem_filter.1 h).1
 have hnd:(b.restO out o).Nodup:=by
  have h1:((b.restO out o).map λ k=>(b.kept out).getD k 0).Nodup:=by rw [hmap];exact ho.nod.filter _
  exact List.Pairwise.of_map (S:=(·≠·)) _ (λ x y hxy e=>hxy (by rw [e])) h1
 have hlen:(b.restO out o).length=(b.kept out).length:=by
  have h1:=congrArg List.length hmap;rw [List.length_map] at h1;rw [h1]
  have hp:(o.filter λ i=>!out i).Perm (b.kept out):=by
   refine (List.perm_ext_iff_of_nodup (ho.nod.filter _) (List.nodup_range.filter _)).2 λ a=>?_;rw [List.mem_filter,List.mem_filter,List.mem_range];exact⟨λ⟨h1,h2⟩=>⟨ho.low a h1,h2⟩,λ⟨h1,h2⟩=>⟨ho.has h1,h2⟩⟩
  exact hp.length_eq
 refine⟨by rw [hlen,hm],λ k hk=>by rw [hm];exact hlow k hk,hnd,λ X k Y e j hj=>?_⟩;have hk:=hlow k (by rw [e];simp);rw [b.wo_aft out hk,List.mem_filter,List.mem_range] at hj;obtain⟨hjl,hjb⟩:=hj;have he:=hmap;rw [e,List.map_append,List.map_cons] at he;obtain⟨U1,V0,e1,e2,e3⟩:=List.filter_eq_append_iff.1 he.symm;obtain⟨V1,V2,e4,h5,h6,h7⟩:=List.filter_eq_cons_iff.1 e3;have hU:(b.kept out).getD j 0∈U1++V1:=Bk.Ord.before hok ho b.cs.length _ (U1++V1) V2 (by rw [e1,e4];simp) hjb;have hjm:(b.kept out).getD j 0∈b.kept out:=by rw [List.getD_eq_getElem?_getD,List.getElem?_eq_getElem hjl];exact List.getElem_mem hjl
 have hjo:(!out ((b.kept out).getD j 0))=true:=(List.mem_filter.1 hjm).2
 have hUm:(b.kept out).getD j 0∈U1:=by
  rcases List.mem_append.1 hU with h | h
  ·exact h
  ·exact absurd hjo (h5 _ h)
 have:(b.kept out).getD j 0∈X.map λ k=>(b.kept out).getD k 0:=by rw [<- e2];exact List.mem_filter.2 ⟨hUm,hjo⟩
 obtain⟨j',hj',ee⟩:=List.mem_map.1 this;have hj'l:=hlow j' (by rw [e];simp [hj']);have hKn:(b.kept out).Nodup:=List.nodup_range.filter _;rw [List.getD_eq_getElem?_getD,List.getD_eq_getElem?_getD,List.getElem?_eq_getElem hj'l,List.getElem?_eq_getElem hjl] at ee;have:j'=j:=Q4u hKn (List.getElem?_eq_getElem hj'l) (by rw [List.getElem?_eq_getElem hjl];exact congrArg some ee.symm);exact this ▸ hj'
end Go.TM
