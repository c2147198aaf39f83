/- Lemmas. No conditions. -/
import Derived.Test.YtnpfcnfhfkflhaaGreatDoorC00
set_option linter.all false
open List
namespace Go.TM
variable{b:Bk}
def Bk.okTo(b:Bk):List Nat->List Nat->Bool
 |_,[]=>true
 |p,i::q=>decide (i<b.cs.length)&&b.can p i&&b.okTo (p++[i]) q
def Bk.mem_ords:∀(k:Nat)(p o:List Nat),o∈b.ords k p↔∃q,o=p++q/\q.length=k/\b.okTo p q=true
 |0,p,o=>by
  simp only[Bk.ords,mem_singleton];constructor
  .rintro rfl;exact⟨[],S1,rfl,rfl⟩
  .rintro⟨q,rfl,a,-⟩;rw[length_eq_zero_iff]at a;simp[a]
 |k+1,p,o=>by
  simp only[Bk.ords,mem_flatMap,mem_range];constructor
  .rintro⟨i,hi,ho⟩;split at ho
   .rename_i hc;obtain⟨q,rfl,a,c⟩:=(Bk.mem_ords k (p++[i]) o).1 ho;exact⟨i::q,S1,by simp[a],by simp[Bk.okTo,hi,hc,c]⟩
   .cases ho
  .rintro⟨q,rfl,a,c⟩;cases q with
   |nil=>cases a
   |cons i q=>
    simp only[Bk.okTo,Bool.and_eq_true,decide_eq_true_eq]at c;refine⟨i,c.1.1,?_⟩;rw[if_pos c.1.2];exact(Bk.mem_ords k (p++[i]) _).2 ⟨q,S1,by simpa using a,c.2⟩
def Bk.mem_all{o:List Nat}:o∈b.all↔o.length=b.cs.length/\b.okTo [] o=true:=by
 unfold Bk.all;rw[Bk.mem_ords];constructor
 .rintro⟨q,rfl,hq,hk⟩;exact⟨hq,hk⟩
 .rintro⟨h1,h2⟩;exact⟨o,rfl,h1,h2⟩
def Bk.okTo_iff:∀(q p:List Nat),b.okTo p q=true↔∀X i Y,q=X++i::Y->i<b.cs.length/\b.can (p++X) i=true
 |[],p=>by simp[Bk.okTo]
 |i::q,p=>by
  simp only[Bk.okTo,Bool.and_eq_true,decide_eq_true_eq];rw[Bk.okTo_iff q (p++[i])];constructor
  .rintro⟨⟨h1,h2⟩,h3⟩ X j Y e;cases X with
   |nil=>
    simp only[nil_append,List.cons.injEq]at e;obtain⟨rfl,rfl⟩:=e;simpa using⟨h1,h2⟩
   |cons x X=>
    simp only[cons_append,List.cons.injEq]at e;obtain⟨rfl,rfl⟩:=e;have:=h3 X j Y rfl;simpa using this
  .intro h;refine⟨by simpa using h [] i q rfl,λ X j Y e=>?_⟩;have:=h (i::X) j Y (by simp[e]);simpa using this
def Bk.can_iff{o:List Nat}{i:Nat}:b.can o i=true↔i∉o/\∀k∈Je b.A i,k∈o:=by
 simp[Bk.can]
structure Bk.Ord(b:Bk)(o:List Nat):Prop where
 len:o.length=b.cs.length
 low:∀i∈o,i<b.cs.length
 nod:o.Nodup
 aft:∀X i Y,o=X++i::Y->∀k∈Je b.A i,k∈X
def Zof:∀{o:List Nat},(∀X i Y,o=X++i::Y->i∉X)->o.Nodup:=by
 intro o h;rw[nodup_iff_pairwise_ne,pairwise_iff_getElem];intro i j b c a e;refine h (o.take j) o[j] (o.drop (j+1)) (by rw[getElem_cons_drop,take_append_drop]) ?_;rw[<- e,mem_take_iff_getElem];exact⟨i,O1,rfl⟩
def Bk.mem_all_iff{o:List Nat}:o∈b.all↔b.Ord o:=by
 rw[Bk.mem_all,Bk.okTo_iff];simp only[nil_append];constructor
 .rintro⟨h1,h2⟩;refine⟨h1,λ i c=>?_,Zof λ X i Y e=>(Bk.can_iff.1 (h2 X i Y e).2).1,λ X i Y e=>(Bk.can_iff.1 (h2 X i Y e).2).2⟩;obtain⟨X,Y,e⟩:=append_of_mem c;exact(h2 X i Y e).1
 .intro h;refine⟨h.len,λ X i Y e=>⟨h.low i (by rw[e];simp),Bk.can_iff.2 ⟨λ d=>?_,h.aft X i Y e⟩⟩⟩;have a:=h.nod;rw[e]at a;exact(nodup_append.1 a).2.2 i d i (mem_cons_self ..) rfl
def Bk.Ord.has{b:Bk}{o:List Nat}(h:b.Ord o){i:Nat}(d:i<b.cs.length):i∈o:=by
 apply Classical.byContradiction;intro e;have c:(i::o).Nodup:=nodup_cons.2 ⟨e,h.nod⟩
 have:=H7 c (n:=b.cs.length) λ x a=>by
  rcases mem_cons.1 a with rfl|a
  .exact d
  .exact h.low x a
 rw[length_cons,h.len]at this;omega
def Bk.stp_len(b:Bk)(x:List Bool×List Bool)(i:Nat):(b.stp x i).1.length=x.1.length/\(b.stp x i).2.length=x.2.length:=by
 unfold Bk.stp;split <;> simp
def Bk.end_len(b:Bk)(o:List Nat):(b.ends o).1.length=b.rs.length/\(b.ends o).2.length=b.cs.length:=by
 have a:∀(o:List Nat)(x:List Bool×List Bool),(o.foldl b.stp x).1.length=x.1.length/\(o.foldl b.stp x).2.length=x.2.length:=by
  intro o
  induction o with
  |nil=>exact λ x=>⟨rfl,rfl⟩
  |cons i o e=>
   intro x;have c:=e (b.stp x i);have d:=b.stp_len x i;exact⟨c.1.trans d.1,c.2.trans d.2⟩
 have:=a o b.ini;simpa[Bk.ends,Bk.ini]using this
def Bk.Ord.split{b:Bk}{o:List Nat}(h:b.Ord o){i:Nat}(a:i<b.cs.length):∃X Y,o=X++i::Y:=append_of_mem (h.has a)
structure Bk.Beg(b:Bk)(o:List Nat):Prop where
 low:∀i∈o,i<b.cs.length
 nod:o.Nodup
 aft:∀X i Y,o=X++i::Y->∀k∈Je b.A i,k∈X
def Bk.Beg.nil:b.Beg []:=⟨S1,.nil,λ X i Y e=>by cases X <;> cases e⟩
def Bk.Beg.le{o:List Nat}(h:b.Beg o):o.length<=b.cs.length:=H7 h.nod h.low
def Bk.Ord.flaw{o:List Nat}(h:b.Ord o):b.ordF (o.map λ(k:Nat)=>(k:Int))=0:=by
 have c:∀(q p:List Nat),o=p++q->b.ordL p (q.map λ(k:Nat)=>(k:Int))=0:=by
  intro q
  induction q with
  |nil=>intro p _;rfl
  |cons i q l=>
   intro p e;have m:i<b.cs.length:=h.low i (by rw[e];simp);have d:=h.nod;rw[e,nodup_append]at d;have a:i∉p:=λ j=>d.2.2 i j i (mem_cons_self ..) rfl;have f:=h.aft p i q e;show(if Go.TM.btw (i:Int) 0 (b.nc-1)then(if(i:Int).toNat∈p then 5 else if(Je b.A (i:Int).toNat).all (λ k=>p.contains k)then b.ordL (p++[(i:Int).toNat]) (q.map λ(k:Nat)=>(k:Int))else 7)else 6)=0;rw[if_pos (by unfold Bk.nc;simp[btw];omega),Int.toNat_natCast,if_neg a,if_pos (by rw[all_eq_true];intro k g;simpa using f k g)];exact l (p++[i]) (by rw[e];simp)
 unfold Bk.ordF;rw[if_neg (by rw[length_map,h.len];simp)];exact c o [] rfl
abbrev Qae(o:List Nat):List Int:=o.map λ(k:Nat)=>(k:Int)
end Go.TM
namespace Go.TM
variable{α:Type}{L:List α}{F:α->Nat->Bool}{n k i j:Nat}
def Qaq(L:List α)(F:α->Nat->Bool)(n k i:Nat):List Nat:=(range n).map λ j=>(L.take (if j<i then k+1 else k)).countP λ o=>F o j
def Qbj:(Qaq L F n k i).length=n:=by simp[Qaq]
def Qdh(h:j<n):(Qaq L F n k i)[j]?=some ((L.take (if j<i then k+1 else k)).countP λ o=>F o j):=by
 unfold Qaq;rw[getElem?_map,getElem?_range h];rfl
def Qpf{o:α}(h:L[k]?=some o):L.take (k+1)=L.take k++[o]:=by
 rw[take_add_one,h];rfl
def Q0m{b:Nat}{X:List Nat}(c:X.length=n)(h:∀j,j<n->X[j]?=some ((L.take (if j<b then k+1 else k)).countP λ o=>F o j)):X=Qaq L F n k b:=by
 apply ext_getElem?;intro j;by_cases a:j<n
 .rw[h j a,Qdh a]
 .rw[getElem?_eq_none O1,getElem?_eq_none (by rw[Qbj];omega)]
def Zod{o:α}(d:L[k]?=some o)(a:i<n)(b:F o i=true):(Qaq L F n k i).set i ((Qaq L F n k i).getD i 0+1)=Qaq L F n k (i+1):=by
 refine Q0m (by rw[length_set,Qbj]) λ j c=>?_;rw[getElem?_set];by_cases e:i=j
 .subst e;rw[if_pos rfl,if_pos (by rw[Qbj];exact a),getD_eq_getElem?_getD,Qdh a,if_neg O1,if_pos O1,Qpf d,countP_append];simp[b]
 .rw[if_neg e,Qdh c];have:(j<i)=(j<i+1):=propext O1;simp only[this]
def Q4z{o:α}(c:L[k]?=some o)(a:F o i=false):Qaq L F n k i=Qaq L F n k (i+1):=by
 refine Q0m Qbj λ j b=>?_;rw[Qdh b];by_cases e:i=j
 .subst e;rw[if_neg O1,if_pos O1,Qpf c,countP_append];simp[a]
 .have:(j<i)=(j<i+1):=propext O1;simp only[this]
def Q41:Qaq L F n k n=Qaq L F n (k+1) 0:=by
 refine Q0m Qbj λ j a=>?_;rw[Qdh a,if_pos a,if_neg O1]
def Zbz:Qaq L F n 0 0=replicate n 0:=by
 apply ext_getElem?;intro j;by_cases a:j<n
 .rw[Qdh a,if_neg O1,getElem?_replicate,if_pos a];rfl
 .rw[getElem?_eq_none (by rw[Qbj];omega),getElem?_eq_none S3]
def Znw:Qaq L F n L.length 0=(range n).map λ j=>L.countP λ o=>F o j:=by
 unfold Qaq;refine map_congr_left λ j _=>?_;rw[if_neg O1,take_length]
def Zok(h:j<n):(Qaq L F n k i).getD j 0<=L.length:=by
 rw[getD_eq_getElem?_getD,Qdh h];exact Nat.le_trans countP_le_length (by rw[length_take];omega)
end Go.TM

