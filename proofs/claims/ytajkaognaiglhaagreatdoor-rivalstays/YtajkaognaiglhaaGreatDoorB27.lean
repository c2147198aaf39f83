/- Lemmas. No conditions. -/
import Derived.Test.YtajkaognaiglhaaGreatDoorB26
set_option linter.all false
open List
namespace Go.TM
variable{b:Bk}{i m n:Nat}{s:Int×Int}{L:Nat->Option (List (Int×Int))}{a:Nat->Bool}{o:Option (List (Int×Int))}
def Bk.canI_lt(e:i<m):(b.canI i m).length<=m-1:=by
 unfold Bk.canI;rw[length_map]
 have:((range m).filter λ k=>k != i&&!(b.cas i).af.contains (k:Int)).length<(range m).length:=
  length_filter_lt_length_iff_exists.2 ⟨i,mem_range.2 e,S1⟩
 simp at this ⊢;omega
def Bk.cansTo_le:∀{i:Nat},i<=b.cs.length->(b.cansTo i).length<=i*(b.cs.length-1)
 |0,_=>by simp[Bk.cansTo]
 |i+1,h=>by
  rw[Bk.cansTo_succ,length_append,Nat.succ_mul];have e:=Bk.cansTo_le (i:=i) O1;have f:=Bk.canI_lt (b:=b) (i:=i) (m:=b.cs.length) O1;omega
def Bk.cans_20(h:b.cs.length<=5):b.cans.length<=20:=by
 have e:=Bk.cansTo_le (b:=b) (Nat.le_refl _);rw[Bk.cansTo_all]at e;have:b.cs.length*(b.cs.length-1)<=5*4:=Nat.mul_le_mul h O1;omega
def Bk.canI_mem(h:s∈b.canI i m):s.1=i:=by
 unfold Bk.canI at h;obtain⟨k,-,rfl⟩:=mem_map.1 h;rfl
def Bk.cansTo_mem:∀{i:Nat}{s:Int×Int},s∈b.cansTo i->s.1<i
 |0,s,h=>by simp[Bk.cansTo]at h
 |i+1,s,h=>by
  rw[Bk.cansTo_succ,mem_append]at h;rcases h with h|h
  .have:=Bk.cansTo_mem h;omega
  .have:=Bk.canI_mem h;omega
def Bk.canI_nodup(b:Bk)(i m:Nat):(b.canI i m).Nodup:=by
 unfold Bk.canI;refine Pairwise.map _ (λ a c f e=>f ?_) ((nodup_range).filter _);simp only[Prod.mk.injEq]at e;omega
def Bk.cansTo_nodup(b:Bk):∀i:Nat,(b.cansTo i).Nodup
 |0=>by simp[Bk.cansTo]
 |i+1=>by
  rw[Bk.cansTo_succ];refine nodup_append.2 ⟨Bk.cansTo_nodup b i,Bk.canI_nodup b i _,λ x f y w e=>?_⟩;subst e;have z:=Bk.cansTo_mem f;have B:=Bk.canI_mem w;omega
def Bk.cans_nodup(b:Bk):b.cans.Nodup:=Bk.cansTo_nodup b _
def Bk.cans_iff:s∈b.cans↔∃i k:Nat,i<b.cs.length/\k<b.cs.length/\k≠i/\(k:Int)∉(b.cas i).af/\s=((i:Int),(k:Int)):=by
 rw[<- Bk.cansTo_all];unfold Bk.cansTo Bk.canI;simp only[mem_flatMap,mem_range,mem_map,mem_filter,Bool.and_eq_true,bne_iff_ne,ne_eq,Bool.not_eq_true',contains_eq_mem,decide_eq_false_iff_not];constructor
 .rintro⟨i,hi,k,⟨hk,h1,h2⟩,rfl⟩;exact⟨i,k,hi,hk,h1,h2,rfl⟩
 .rintro⟨i,k,hi,hk,h1,h2,rfl⟩;exact⟨i,hi,k,⟨hk,h1,h2⟩,rfl⟩
def Bk.cans_pos(h:b.Ok)(H:2<=b.cs.length):0<b.cans.length:=by
 obtain⟨o,f⟩:=h.ord;have w:=f.len
 match o,w,f with
 |[],w,_=>simp at w;omega
 |[_],w,_=>simp at w;omega
 |i::k::o,w,f=>
  have B:=f.low i S1;have F:=f.low k S1
  have G:k≠i:=by
   have:=f.nod;intro e;subst e;simp at this
  refine length_pos_of_mem (Bk.cans_iff.2 ⟨i,k,B,F,G,?_,rfl⟩);intro z
  have E:Jd b.A i=(b.cas i).af.map Int.toNat:=by
   unfold Jd Bk.A Bk.cas;rw[getD_eq_getElem?_getD,getD_eq_getElem?_getD,getElem?_map,getElem?_eq_getElem B];rfl
  have:=f.aft [] i (k::o) rfl k (by rw[E];exact mem_map.2 ⟨_,z,S1⟩);cases this
def Bk.certD(h:b.Ok)(e:m+1<b.cs.length):Ko b m:=by
 have:=h.nc;exact⟨Bk.cans_nodup b,Bk.cans_pos h O1,Bk.cans_20 h.nc,O1⟩
def Hs(L:Nat->Option (List (Int×Int))):Nat->Option (List (Int×Int))
 |0=>none
 |n+1=>match L n with
  |some l=>some (GQ l (Hs L n))
  |none=>Hs L n
def W9.up(h:W9 L n a o)(z:∀i,a i=true->i<n):W9 L (n+1) a o:=
 ⟨λ i x _ f w=>h.1 i x (z i f) f w,λ y e=>let ⟨i,h1,f,w⟩:=h.2 y e;⟨i,O1,f,w⟩⟩
def ql(h:ZH L n i=true):i<n:=by
 unfold ZH at h;simp at h;exact h.1
def Sx(L:Nat->Option (List (Int×Int))):∀n,W9 L n (ZH L n) (Hs L n)
 |0=>by rw[Eu];exact .nil λ _=>rfl
 |n+1=>by
  have h:=(Sx L n).up λ i=>ql;cases e:L n with
  |none=>
   rw[Es e];have:Hs L (n+1)=Hs L n:=by show(match L n with|some l=>_|none=>_)=_;rw[e]
   rw[this];exact h
  |some l=>
   rw[(Et e).2];have:Hs L (n+1)=some (GQ l (Hs L n)):=by show(match L n with|some l=>_|none=>_)=_;rw[e]
   rw[this];exact h.put O1 e
