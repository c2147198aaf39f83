/- Lemmas of the proof. No conditions of their own. -/
import Derived.Test.YtnpfcnfhfkflhaaGreatDoorC02
set_option linter.all false
namespace Go.TM
variable {b:Bk}
theorem Bk.sty_cas {s:Int×Int} (hs:s.1.toNat<b.cs.length) (i:Nat):(b.sty s).cas i=if i=s.1.toNat then { b.cas s.1.toNat with af:=Qcj s.2 (b.cas s.1.toNat).af } else b.cas i:=by
 show (b.cs.set s.1.toNat _).getD i default=_;rw [List.getD_eq_getElem?_getD,List.getElem?_set];by_cases e:s.1.toNat=i
 ·rw [if_pos e,if_pos hs,if_pos e.symm];rfl
 ·rw [if_neg e,if_neg (λ h=>e h.symm),<- List.getD_eq_getElem?_getD];rfl
theorem Bk.sty_stp {s:Int×Int} (hs:s.1.toNat<b.cs.length):(b.sty s).stp=b.stp:=by
 funext x i;have h:=Bk.sty_cas hs i;have h1:((b.sty s).cas i).gs=(b.cas i).gs:=by rw [h];split <;> simp_all
 have h2:((b.sty s).cas i).ag=(b.cas i).ag:=by rw [h];split <;> simp_all
 unfold Bk.stp;rw [h1,h2]
theorem Bk.sty_ends {s:Int×Int} (hs:s.1.toNat<b.cs.length) (o:List Nat):(b.sty s).ends o=b.ends o:=by
 unfold Bk.ends;rw [Bk.sty_stp hs];unfold Bk.ini;rw [b.sty_len];rfl
theorem Bk.sty_aft {s:Int×Int} (hs:s.1.toNat<b.cs.length) {i k:Nat} (h:k∈Je b.A i):k∈Je (b.sty s).A i:=by
 unfold Je Bk.A at h ⊢;rw [List.getD_eq_getElem?_getD,List.getElem?_map] at h ⊢;show k∈((((b.cs.set s.1.toNat _))[i]?).map _).getD [];rw [List.getElem?_set];by_cases e:s.1.toNat=i
 ·rw [if_pos e,if_pos hs];subst e;have hc:b.cas s.1.toNat=b.cs[s.1.toNat]:=by simp [Bk.cas,List.getD_eq_getElem?_getD,hs]
  rw [List.getElem?_eq_getElem hs,<- hc] at h;simp only [Option.map_some,Option.getD_some,List.mem_map] at h ⊢;obtain⟨n,hn,e⟩:=h;exact⟨n,(Qhc _ _ _).2 (.inr hn),e⟩
 ·rw [if_neg e];exact h
theorem Bk.sty_ord {s:Int×Int} (hs:s.1.toNat<b.cs.length) {o:List Nat} (h:(b.sty s).Ord o):b.Ord o:=
 ⟨by rw [h.len,b.sty_len],λ i hi=>by have:=h.low i hi;rwa [b.sty_len] at this,h.nod,λ X i Y e k hk=>h.aft X i Y e k (Bk.sty_aft hs hk)⟩
def Bk.FrL (b:Bk):List (Int×Int)->Prop
 | []=>True
 | s::l=>b.Fr s/\(b.sty s).FrL l
theorem Bk.FrL.snoc {l:List (Int×Int)} {s:Int×Int}:∀{b:Bk},b.FrL l->(b.stys l).Fr s->b.FrL (l++[s]):=by
 induction l with
 | nil=>exact λ h h1=>⟨h1,trivial⟩
 | cons x l ih=>exact λ h h1=>⟨h.1,ih h.2 h1⟩
theorem Bk.FrL.ok1 {l:List (Int×Int)}:∀{b:Bk},b.Ok1->b.FrL l->(b.stys l).Ok1:=by
 induction l with
 | nil=>exact λ h _=>h
 | cons x l ih=>exact λ h h1=>ih (h.sty h1.1) h1.2
theorem Bk.FrL.ends {l:List (Int×Int)}:∀{b:Bk},b.FrL l->∀o,(b.stys l).ends o=b.ends o:=by
 induction l with
 | nil=>exact λ _ _=>rfl
 | cons x l ih=>exact λ h o=>(ih h.2 o).trans (Bk.sty_ends h.1.cl o)
theorem Bk.FrL.ord {l:List (Int×Int)}:∀{b:Bk},b.FrL l->∀{o},(b.stys l).Ord o->b.Ord o:=by
 induction l with
 | nil=>exact λ _ _ h=>h
 | cons x l ih=>exact λ h o ho=>Bk.sty_ord h.1.cl (ih h.2 ho)
theorem Qcf {nameB:ByteArray->Bool} {nr nc:Int} {seen:List ByteArray} {c:Cs} {l:List Cs}:Qi9 nameB nr nc seen (c::l)=0↔(nameB c.nm=true/\Qa8 seen c.nm=false/\btw c.ag 0 (nr-1)=true/\Qfp nr c.gs=0/\J1 nc none c.af=0/\Qi9 nameB nr nc (seen++[c.nm]) l=0):=by
 rw [Qi9]
 grind
theorem Qvv {nameB:ByteArray->Bool} {nr nc:Int} {af:List Int} (ha:J1 nc none af=0):∀{cs:List Cs} {seen:List ByteArray} {k:Nat} {c:Cs},Qi9 nameB nr nc seen cs=0->cs[k]?=some c->Qi9 nameB nr nc seen (cs.set k { c with af:=af })=0
 | [],_,_,_,_,h=>by simp at h
 | x::cs,seen,0,c,h,hc=>by
  obtain rfl:x=c:=by simpa using hc
  obtain⟨h1,h2,h3,h4,-,h6⟩:=Qcf.1 h;exact Qcf.2 ⟨h1,h2,h3,h4,ha,h6⟩
 | x::cs,seen,k+1,c,h,hc=>by
  obtain⟨h1,h2,h3,h4,h5,h6⟩:=Qcf.1 h;exact Qcf.2 ⟨h1,h2,h3,h4,h5,Qvv ha h6 (by simpa using hc)⟩
theorem Bk.sty_csF {nameB:ByteArray->Bool} (h:b.csF nameB=0) (hok:b.Ok1) {s:Int×Int} (hs:b.Fr s):(b.sty s).csF nameB=0:=by
 have h1:=(hok.sty hs);unfold Bk.csF at h ⊢;split at h
 ·cases h
 rename_i h5;rw [b.sty_len,if_neg h5];have hnc:(b.sty s).nc=b.nc:=by unfold Bk.nc;rw [b.sty_len]
 rw [hnc];have hc:b.cs[s.1.toNat]?=some (b.cas s.1.toNat):=by simp [Bk.cas,List.getD_eq_getElem?_getD,hs.cl]
 have hm:{ b.cas s.1.toNat with af:=Qcj s.2 (b.cas s.1.toNat).af }∈(b.sty s).cs:=List.mem_of_getElem? (i:=s.1.toNat) (by show (b.cs.set _ _)[_]?=_;rw [List.getElem?_set,if_pos rfl,if_pos hs.cl]);refine Qvv (Qz6 (h1.ri _ hm) (λ n hn=>by have:=h1.af _ hm n hn;rwa [hnc] at this) (λ m e=>by cases e)) h hc
theorem Bk.FrL.csF {nameB:ByteArray->Bool} {l:List (Int×Int)}:∀{b:Bk},b.csF nameB=0->b.Ok1->b.FrL l->(b.stys l).csF nameB=0:=by
 induction l with
 | nil=>exact λ h _ _=>h
 | cons x l ih=>exact λ h h1 h2=>ih (Bk.sty_csF h h1 h2.1) (h1.sty h2.1) h2.2
theorem Bk.FrL.flaw {nameB:ByteArray->Bool} {l:List (Int×Int)} (hf:b.flaw nameB=0) (h:b.FrL l):(b.stys l).flaw nameB=if Wq (b.stys l).A then 8 else 0:=by
 have hok:=Bk.ok_of hf;have hr:(b.stys l).rsF nameB=b.rsF nameB:=by unfold Bk.rsF;rw [Bk.stys_rs]
 have h0:b.rsF nameB=0/\b.csF nameB=0:=by
  unfold Bk.flaw at hf;split at hf
  ·rename_i h1;split at hf
   ·rename_i h2;exact⟨h1,h2⟩
   ·rename_i h2;exact absurd hf h2
  ·rename_i h1;exact absurd hf h1
 unfold Bk.flaw;rw [hr,if_pos h0.1,if_pos (Bk.FrL.csF h0.2 hok.ok1 h)]
theorem Bk.FrL.fatR {l:List (Int×Int)} (hok:b.Ok) (hok':(b.stys l).Ok) (h:b.FrL l) (r:Nat) (hr:b.fatR r≠0):(b.stys l).fatR r=b.fatR r:=by
 rcases Qlg (b.all.countP λ o=>(b.ends o).1.getD r false) b.all.length with e | e | e
 ·exact absurd e hr
 ·have e:b.fatR r=1:=e;rw [e,Bk.fatR_one];exact λ o ho=>by rw [h.ends];exact b.fatR_one.1 e o (h.ord ho)
 ·have e:b.fatR r=2:=e;rw [e,Bk.fatR_two _ hok'];exact λ o ho=>by rw [h.ends];exact (b.fatR_two hok).1 e o (h.ord ho)
theorem Bk.FrL.fatC {l:List (Int×Int)} (hok:b.Ok) (hok':(b.stys l).Ok) (h:b.FrL l) (r:Nat) (hr:b.fatC r≠0):(b.stys l).fatC r=b.fatC r:=by
 rcases Qlg (b.all.countP λ o=>(b.ends o).2.getD r false) b.all.length with e | e | e
 ·exact absurd e hr
 ·have e:b.fatC r=1:=e;rw [e,Bk.fatC_one];exact λ o ho=>by rw [h.ends];exact b.fatC_one.1 e o (h.ord ho)
 ·have e:b.fatC r=2:=e;rw [e,Bk.fatC_two _ hok'];exact λ o ho=>by rw [h.ends];exact (b.fatC_two hok).1 e o (h.ord ho)
end Go.TM
