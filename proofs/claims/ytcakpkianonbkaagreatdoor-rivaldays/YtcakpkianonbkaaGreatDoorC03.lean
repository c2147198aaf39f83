/- Lemmas. No conditions. -/
import Derived.Test.YtcakpkianonbkaaGreatDoorC01
import Derived.Test.YtcakpkianonbkaaGreatDoorB43
set_option linter.all false
open List
namespace Go.TM
variable{b:Bk}
def Zgq:∀{l l':List Int},l.Pairwise (· < ·)->l'.Pairwise (· < ·)->(∀x,x∈l↔x∈l')->l=l'
 |[],[],_,_,_=>rfl
 |[],y::l',_,_,h=>by have:=(h y).2 (mem_cons_self ..);cases this
 |x::l,[],_,_,h=>by have:=(h x).1 (mem_cons_self ..);cases this
 |x::l,y::l',G,H,h=>by
  obtain⟨w,E⟩:=pairwise_cons.1 G;obtain⟨B,F⟩:=pairwise_cons.1 H
  have b:x=y:=by
   have I:=(h x).1 (mem_cons_self ..);have K:=(h y).2 (mem_cons_self ..);rcases mem_cons.1 I with e|e
   .exact e
   .rcases mem_cons.1 K with e'|e'
    .exact e'.symm
    .have:=B x e;have:=w y e';omega
  subst b;rw[Zgq E F λ z=>?_];constructor
  .intro hz;rcases mem_cons.1 ((h z).1 (mem_cons_of_mem _ hz))with e|e
   .have:=w z hz;omega
   .exact e
  .intro hz;rcases mem_cons.1 ((h z).2 (mem_cons_of_mem _ hz))with e|e
   .have:=B z hz;omega
   .exact e
def Bk.Ord.before{o:List Nat}(z:b.Ok)(w:b.Ord o){out:Nat->Bool}{k:Nat}:∀(s i:Nat)(X Y:List Nat),o=X++i::Y->QO b.A out s i k=true->k∈X
 |0,i,X,Y,e,h=>w.aft X i Y e k (by simpa[QO]using h)
 |s+1,i,X,Y,e,h=>by
  rcases KI.1 h with h|⟨q,G,-,H⟩
  .exact w.aft X i Y e k (by simpa using h)
  .have hq:=w.aft X i Y e q G;obtain⟨E,F,B⟩:=append_of_mem hq;have:=Bk.Ord.before z w s q E (F++i::Y) (by rw[e,B];simp) H;rw[B];simp[this]
end Go.TM
namespace Go.TM
def Bk.reA(b:Bk)(g:Nat->List Int):Bk:=⟨b.rs,(range b.cs.length).map λ i=>{ b.cas i with af:=g i }⟩
def Zk4(n:Nat)(dy:Nat->Int)(i:Nat):List Int:=((range n).filter λ k=>decide (dy k<dy i)).map λ(k:Nat)=>(k:Int)
def Bk.byDay(b:Bk)(dy:Nat->Int):Bk:=b.reA (Zk4 b.cs.length dy)
def Bk.bare(b:Bk):Bk:=b.reA λ _=>[]
variable{b:Bk}{g:Nat->List Int}{dy:Nat->Int}
def Bk.reA_len:(b.reA g).cs.length=b.cs.length:=by simp[Bk.reA]
def Bk.reA_cas{i:Nat}(h:i<b.cs.length):(b.reA g).cas i={ b.cas i with af:=g i }:=by
 show((range b.cs.length).map _).getD i default=_;rw[getD_eq_getElem?_getD,getElem?_map,getElem?_range h];rfl
def Bk.reA_aft{i:Nat}(h:i<b.cs.length):Jg (b.reA g).A i=(g i).map Int.toNat:=by
 unfold Jg Bk.A;rw[getD_eq_getElem?_getD,getElem?_map];show(Option.map _ (((range b.cs.length).map _)[i]?)).getD []=_;rw[getElem?_map,getElem?_range h];rfl
def Bk.reA_stp(x:List Bool×List Bool){i:Nat}(h:i<b.cs.length):(b.reA g).stp x i=b.stp x i:=by
 unfold Bk.stp;rw[Bk.reA_cas h]
def Bk.reA_ends{o:List Nat}(h:∀i∈o,i<b.cs.length):(b.reA g).ends o=b.ends o:=by
 unfold Bk.ends;have e:(b.reA g).ini=b.ini:=by unfold Bk.ini;rw[Bk.reA_len];rfl
 rw[e];generalize b.ini=x
 induction o generalizing x with
 |nil=>rfl
 |cons i o z=>
  rw[foldl_cons,foldl_cons,Bk.reA_stp x (h i S1)];exact z (λ k w=>h k (by simp[w])) _
def Bk.reA_flaw{nameB:ByteArray->Bool}(N:b.flaw nameB=0)(E:∀i,i<b.cs.length->(g i).Pairwise (· < ·)/\∀n∈g i,0<=n/\n<b.nc)(ρ:Nat->Nat)(P:∀i,i<b.cs.length->∀n∈g i,ρ n.toNat<ρ i):(b.reA g).flaw nameB=0:=by
 obtain⟨G,H,-⟩:=Bk.flaw_zero.1 N;obtain⟨L,I,K⟩:=Bk.csF_zero.1 H;have F:(b.reA g).nc=b.nc:=by unfold Bk.nc;rw[Bk.reA_len]
 refine Bk.flaw_zero.2 ⟨G,Bk.csF_zero.2 ⟨by rw[Bk.reA_len];exact L,λ c M=>?_,?_⟩,?_⟩
 .obtain⟨i,h,rfl⟩:=mem_map.1 M;have w:i<b.cs.length:=mem_range.1 h;obtain⟨Q,S,T,-⟩:=I _ (Bk.mem_cas w);refine⟨Q,S,T,?_⟩;rw[F];exact OD (E i w).1 (E i w).2 λ m e=>by cases e
 .have e:(b.reA g).cs.map (·.nm)=b.cs.map (·.nm):=by
   show List.map _ (List.map _ _)=_;rw[map_map]
   conv=>rhs;rw[<- b.cas_all,map_map]
   rfl
  rw[e];exact K
 .have hn:(b.reA g).A.length=b.cs.length:=by rw[Bk.A_n,Bk.reA_len]
  refine gZ (λ i h k B=>?_) ρ λ i h k B=>?_
  .rw[hn]at h ⊢;rw[Bk.reA_aft h]at B;obtain⟨n,z,rfl⟩:=mem_map.1 B;have:=(E i h).2 n z;unfold Bk.nc at this;omega
  .rw[hn]at h;rw[Bk.reA_aft h]at B;obtain⟨n,z,rfl⟩:=mem_map.1 B;exact P i h n z
def Q2o{n i k:Nat}:(k:Int)∈Zk4 n dy i↔k<n/\dy k<dy i:=by
 unfold Zk4;rw[mem_map];constructor
 .rintro⟨x,hx,e⟩;obtain rfl:x=k:=O1
  obtain⟨b,h⟩:=mem_filter.1 hx;exact⟨mem_range.1 b,by simpa using h⟩
 .rintro⟨b,h⟩;exact⟨k,mem_filter.2 ⟨mem_range.2 b,by simpa using h⟩,rfl⟩
def Zt7(n i:Nat):(Zk4 n dy i).Pairwise (· < ·)/\∀x∈Zk4 n dy i,0<=x/\x<(n:Int):=by
 refine⟨pairwise_map.2 ((pairwise_lt_range.filter _).imp λ h=>O1),λ x e=>?_⟩;obtain⟨k,b,rfl⟩:=mem_map.1 e;have:=mem_range.1 (mem_filter.1 b).1;omega
def Bk.bare_flaw{nameB:ByteArray->Bool}(e:b.flaw nameB=0):b.bare.flaw nameB=0:=
 Bk.reA_flaw e (λ _ _=>⟨.nil,λ _ h=>by cases h⟩) (λ _=>0) λ _ _ _ h=>by cases h
def Bk.byDay_flaw{nameB:ByteArray->Bool}(z:b.flaw nameB=0)(w:∀i,i<b.cs.length->0<=dy i):(b.byDay dy).flaw nameB=0:=
 Bk.reA_flaw z (λ i _=>Zt7 _ i) (λ i=>(dy i).toNat) λ i E n e=>by
  obtain⟨k,F,rfl⟩:=mem_map.1 e;obtain⟨h,B⟩:=Q2o.1 e;have:=w k h;show(dy k).toNat<(dy i).toNat;omega
def Bk.byDay_ord{o:List Nat}(h:(b.byDay dy).Ord o):b.bare.Ord o:=by
 have B:(b.byDay dy).cs.length=b.bare.cs.length:=by unfold Bk.byDay Bk.bare;rw[Bk.reA_len,Bk.reA_len]
 refine⟨by rw[h.len,B],λ i w=>by rw[<- B];exact h.low i w,h.nod,λ X i Y e k z=>?_⟩;have w:i<b.cs.length:=by have:=h.low i (by simp[e]);unfold Bk.byDay at this;rwa [Bk.reA_len]at this
 unfold Bk.bare at z;rw[Bk.reA_aft w]at z;cases z
def Bk.byDay_ends{o:List Nat}(h:(b.byDay dy).Ord o):(b.byDay dy).ends o=b.bare.ends o:=by
 have e:∀i∈o,i<b.cs.length:=λ i e=>by have:=h.low i e;unfold Bk.byDay at this;rwa [Bk.reA_len]at this
 unfold Bk.byDay Bk.bare;rw[Bk.reA_ends e,Bk.reA_ends e]
def Bk.byDay_fatR(w:b.bare.Ok)(z:(b.byDay dy).Ok)(r:Nat)(B:b.bare.fatR r≠0):(b.byDay dy).fatR r=b.bare.fatR r:=by
 rcases Qam (b.bare.all.countP λ o=>(b.bare.ends o).1.getD r false) b.bare.all.length with e|e|e
 .exact absurd e B
 .have e:b.bare.fatR r=1:=e;rw[e,Bk.fatR_one];exact λ o h=>by rw[Bk.byDay_ends h];exact b.bare.fatR_one.1 e o (Bk.byDay_ord h)
 .have e:b.bare.fatR r=2:=e;rw[e,Bk.fatR_two _ z];exact λ o h=>by rw[Bk.byDay_ends h];exact(b.bare.fatR_two w).1 e o (Bk.byDay_ord h)
def Bk.byDay_fatC(w:b.bare.Ok)(z:(b.byDay dy).Ok)(r:Nat)(B:b.bare.fatC r≠0):(b.byDay dy).fatC r=b.bare.fatC r:=by
 rcases Qam (b.bare.all.countP λ o=>(b.bare.ends o).2.getD r false) b.bare.all.length with e|e|e
 .exact absurd e B
 .have e:b.bare.fatC r=1:=e;rw[e,Bk.fatC_one];exact λ o h=>by rw[Bk.byDay_ends h];exact b.bare.fatC_one.1 e o (Bk.byDay_ord h)
 .have e:b.bare.fatC r=2:=e;rw[e,Bk.fatC_two _ z];exact λ o h=>by rw[Bk.byDay_ends h];exact(b.bare.fatC_two w).1 e o (Bk.byDay_ord h)
def Bk.byDay_one(M:∀i k,i<b.cs.length->k<b.cs.length->i≠k->dy i≠dy k){o H:List Nat}(h:(b.byDay dy).Ord o)(B:(b.byDay dy).Ord H):o=H:=by
 have w:(b.byDay dy).cs.length=b.cs.length:=Bk.reA_len
 have key:∀{o:List Nat},(b.byDay dy).Ord o->o.Pairwise λ i k=>dy i<dy k:=by
  intro o h;rw[pairwise_iff_getElem];intro p q F K P;have z:o[p]<b.cs.length:=by have:=h.low o[p] (getElem_mem F);rwa [w]at this
  have G:o[q]<b.cs.length:=by have:=h.low o[q] (getElem_mem K);rwa [w]at this
  have I:o[p]≠o[q]:=λ e=>by have:=(getElem_inj (h₀:=F) (h₁:=K) h.nod).1 e;omega
  rcases Int.lt_or_le (dy o[p]) (dy o[q])with l|l
  .exact l
  .have l:dy o[q]<dy o[p]:=by have:=M _ _ z G I;omega
   have e:o=o.take p++o[p]::o.drop (p+1):=by rw[getElem_cons_drop,take_append_drop]
   have N:=h.aft _ _ _ e o[q] (by
    unfold Bk.byDay;rw[Bk.reA_aft z];exact mem_map.2 ⟨(o[q]:Int),Q2o.2 ⟨G,l⟩,rfl⟩)
   obtain⟨x,Q,ex⟩:=mem_take_iff_getElem.1 N;have:=(getElem_inj (h₀:=O1) (h₁:=K) h.nod).1 ex;omega
 have low:∀{o:List Nat},(b.byDay dy).Ord o->∀i∈o,i<b.cs.length:=λ h i E=>by have:=h.low i E;rwa [w]at this
 have e:o.map dy=H.map dy:=Zgq (pairwise_map.2 (key h)) (pairwise_map.2 (key B)) λ x=>by
  rw[mem_map,mem_map];exact⟨λ⟨i,E,e⟩=>⟨i,B.has (h.low i E),e⟩,λ⟨i,E,e⟩=>⟨i,h.has (B.low i E),e⟩⟩
 refine ext_getElem (by rw[h.len,B.len]) λ p F z=>?_;have L:(o.map dy)[p]'(by simpa using F)=(H.map dy)[p]'(by simpa using z):=by simp only[e]
 rw[getElem_map,getElem_map]at L;rcases Nat.decEq o[p] H[p]with n|n
 .exact absurd L (M _ _ (low h _ (getElem_mem F)) (low B _ (getElem_mem z)) n)
 .exact n
def Bk.byDay_sureR(w:(b.byDay dy).Ok)(z:∀i k,i<b.cs.length->k<b.cs.length->i≠k->dy i≠dy k)(r:Nat):(b.byDay dy).fatR r≠0:=by
 obtain⟨o,B⟩:=w.ord;cases e:((b.byDay dy).ends o).1.getD r false with
 |true=>rw[(Bk.fatR_one _).2 λ E h=>by rw[<- Bk.byDay_one z B h];exact e];omega
 |false=>rw[(Bk.fatR_two _ w).2 λ E h=>by rw[<- Bk.byDay_one z B h];exact e];omega
def Bk.byDay_sureC(w:(b.byDay dy).Ok)(z:∀i k,i<b.cs.length->k<b.cs.length->i≠k->dy i≠dy k)(r:Nat):(b.byDay dy).fatC r≠0:=by
 obtain⟨o,B⟩:=w.ord;cases e:((b.byDay dy).ends o).2.getD r false with
 |true=>rw[(Bk.fatC_one _).2 λ E h=>by rw[<- Bk.byDay_one z B h];exact e];omega
 |false=>rw[(Bk.fatC_two _ w).2 λ E h=>by rw[<- Bk.byDay_one z B h];exact e];omega
end Go.TM

