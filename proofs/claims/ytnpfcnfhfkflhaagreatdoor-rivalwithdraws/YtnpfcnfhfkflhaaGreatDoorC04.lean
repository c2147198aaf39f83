/- Lemmas of the proof. No conditions of their own. -/
import Derived.Test.YtnpfcnfhfkflhaaGreatDoorC02
set_option linter.all false
namespace Go.TM
variable {b:Bk}
theorem Qek:∀{l:List Int} {m:Nat},l.Pairwise (· < ·)->(parts l m).Pairwise λ x y=>Qae x y=true
 | l,0,_=>by rw [Qc7];exact List.pairwise_singleton ..
 | [],m+1,_=>.nil
 | a::l,m+1,h=>by
  obtain⟨h1,h2⟩:=List.pairwise_cons.1 h;rw [show parts (a::l) (m+1)=(parts l m).map (a::·)++parts l (m+1) from rfl,List.pairwise_append];refine⟨List.pairwise_map.2 ((Qek h2).imp λ {x y} hxy=>by simpa [Qae] using hxy),Qek h2,λ x hx y hy=>?_⟩;obtain⟨x',-,rfl⟩:=List.mem_map.1 hx;obtain⟨h3,h4⟩:=Qcp.1 hy;cases y with
  | nil=>cases h4
  | cons c y=>
   have:=h1 c (h3.subset (List.mem_cons_self ..));simp only [Qae];rw [if_neg (by omega)];simpa using this
theorem Qoa {l:List Int} {p:List Int->Bool} (hl:l.Pairwise (· < ·)):∀(n m:Nat) {x:List Int},Qbb l p m n=some x ->
  x.Sublist l/\p x=true/\∀y:List Int,y.Sublist l->p y=true->m<=y.length->x.length<y.length\/x.length=y.length/\Qae y x=false
 | 0,m,x,h=>by cases h
 | n+1,m,x,h=>by
  rw [Q3z] at h;cases hf:(parts l m).find? p with
  | some z=>
   rw [hf] at h;obtain rfl:z=x:=Option.some.inj h;obtain⟨hp,X,Y,e,hX⟩:=List.find?_eq_some_iff_append.1 hf;obtain⟨h1,h2⟩:=Qcp.1 (show z∈parts l m by rw [e];simp);refine⟨h1,hp,λ y hy hpy hm=>?_⟩;by_cases hlen:y.length=m
   ·refine .inr ⟨by omega,?_⟩;have hmem:=Qcp.2 ⟨hy,hlen⟩;have hs:=Qek (m:=m) hl;rw [e] at hmem hs;rw [List.pairwise_append] at hs;rcases List.mem_append.1 hmem with h | h
    ·have:=hX y h;rw [hpy] at this;cases this
    ·rcases List.mem_cons.1 h with rfl | h
     ·exact Qvo _
     ·exact Qpf _ _ ((List.pairwise_cons.1 hs.2.1).1 y h)
   ·exact .inl (by omega)
  | none=>
   rw [hf] at h;obtain⟨h1,h2,h3⟩:=Qoa hl n (m+1) h;refine⟨h1,h2,λ y hy hpy hm=>?_⟩;by_cases hlen:y.length=m
   ·have:=List.find?_eq_none.1 hf y (Qcp.2 ⟨hy,hlen⟩);exact absurd hpy this
   ·exact h3 y hy hpy (by omega)
theorem Qlg {l:List Int} {p:List Int->Bool}:∀(n m:Nat),Qbb l p m n=none->∀y:List Int,y.Sublist l->m<=y.length->y.length<m+n->p y=false
 | 0,m,_,y,_,h1,h2=>by omega
 | n+1,m,h,y,hy,h1,h2=>by
  rw [Q3z] at h;cases hf:(parts l m).find? p with
  | some z=>rw [hf] at h;cases h
  | none=>
   rw [hf] at h;by_cases hlen:y.length=m
   ·simpa using List.find?_eq_none.1 hf y (Qcp.2 ⟨hy,hlen⟩)
   ·exact Qlg n (m+1) h y hy (by omega) (by omega)
theorem Bk.every_asc (b:Bk):b.every.Pairwise (· < ·):=List.pairwise_map.2 (List.pairwise_lt_range.imp λ h=>by omega)
theorem Bk.every_len (b:Bk):b.every.length=b.cs.length:=by simp [Bk.every]
theorem Zl2 {y:List Int} (h:∀n∈y,0<=n) (k:Nat):(Qli y).testBit k=true↔(k:Int)∈y:=by
 unfold Qli;rw [Wz,List.contains_iff_mem,List.mem_map];constructor
 ·rintro⟨n,hn,e⟩;have:=h n hn;have:n=(k:Int):=by omega
  exact this ▸ hn
 ·intro hk;exact⟨_,hk,by simp⟩
theorem Bk.every_pos {y:List Int} (h:y.Sublist b.every):∀n∈y,0<=n:=λ n hn=>by
 obtain⟨k,-,rfl⟩:=List.mem_map.1 (h.subset hn);omega
theorem Bk.wd_ag (hok:b.Ok) {r:Nat} (hr:r<b.rs.length):b.wdP r (b.every.filter λ n=>(b.cas n.toNat).ag == (r:Int))=true:=by
 have hs:(b.every.filter λ n=>(b.cas n.toNat).ag == (r:Int)).Sublist b.every:=List.filter_sublist;unfold Bk.wdP;rw [beq_iff_eq];have ho:=hok.wo (Qli (b.every.filter λ n=>(b.cas n.toNat).ag == (r:Int))).testBit;refine Bk.safe_stands _ ho hr λ i hi ha=>?_;exfalso
 obtain⟨j,hj,e⟩:∃j∈b.kept (Qli (b.every.filter λ n=>(b.cas n.toNat).ag == (r:Int))).testBit,((b.wo (Qli (b.every.filter λ n=>(b.cas n.toNat).ag == (r:Int))).testBit).cas i).ag=(b.cas j).ag:=by
  obtain⟨j,hj,e⟩:=List.mem_map.1 (Bk.mem_cas hi);exact⟨j,hj,by rw [<- e]⟩
 obtain⟨h1,h2⟩:=List.mem_filter.1 hj;rw [List.mem_range] at h1;have h0:=(hok.ag _ (Bk.mem_cas h1)).1
 have hin:(j:Int)∈b.every.filter λ n=>(b.cas n.toNat).ag == (r:Int):=by
  rw [List.mem_filter];refine⟨List.mem_map.2 ⟨j,List.mem_range.2 h1,rfl⟩,?_⟩;rw [Int.toNat_natCast,beq_iff_eq];omega
 rw [(Zl2 (Bk.every_pos hs) j).2 hin] at h2;cases h2
theorem Bk.wd_facts (hok:b.Ok) {r:Nat} (hr:r<b.rs.length):(b.wdL r).Sublist b.every/\b.wdP r (b.wdL r)=true /\
  (∀y:List Int,y.Sublist b.every->b.wdP r y=true->(b.wdL r).length<y.length\/(b.wdL r).length=y.length/\Qae y (b.wdL r)=false):=by
 unfold Bk.wdL;cases h:Qbb b.every (b.wdP r) 0 (b.cs.length+1) with
 | some x=>
  obtain⟨h1,h2,h3⟩:=Qoa b.every_asc _ _ h;exact⟨h1,h2,λ y hy hp=>h3 y hy hp (Nat.zero_le _)⟩
 | none=>
  have hs:(b.every.filter λ n=>(b.cas n.toNat).ag == (r:Int)).Sublist b.every:=List.filter_sublist;have hle:=hs.length_le;rw [b.every_len] at hle;have:=Qlg _ _ h _ hs (Nat.zero_le _) (by omega);rw [Bk.wd_ag hok hr] at this;cases this
end Go.TM
