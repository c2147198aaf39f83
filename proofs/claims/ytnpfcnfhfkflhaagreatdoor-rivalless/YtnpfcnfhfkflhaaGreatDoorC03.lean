/- Lemmas. No conditions. -/
import Derived.Test.YtnpfcnfhfkflhaaGreatDoorC00
set_option linter.all false
open List
namespace Go.TM
variable{b:Bk}
def Bk.okTo(b:Bk):List Nat->List Nat->Bool
 |_,[]=>true
 |p,i::q=>decide (i<b.cs.length)&&b.can p i&&b.okTo (p++[i]) q
def Bk.mem_ords:∀(k:Nat)(p o:List Nat),o∈b.ords k p↔∃q,o=p++q/\q.length=k/\b.okTo p q=true
 |0,p,o=>by
  simp only[Bk.ords,mem_singleton];constructor
  .rintro rfl;exact⟨[],S1,rfl,rfl⟩
  .rintro⟨q,rfl,c,-⟩;rw[length_eq_zero_iff]at c;simp[c]
 |k+1,p,o=>by
  simp only[Bk.ords,mem_flatMap,mem_range];constructor
  .rintro⟨i,hi,ho⟩;split at ho
   .rename_i hc;obtain⟨q,rfl,c,d⟩:=(Bk.mem_ords k (p++[i]) o).1 ho;exact⟨i::q,S1,by simp[c],by simp[Bk.okTo,hi,hc,d]⟩
   .cases ho
  .rintro⟨q,rfl,c,d⟩;cases q with
   |nil=>cases c
   |cons i q=>
    simp only[Bk.okTo,Bool.and_eq_true,decide_eq_true_eq]at d;refine⟨i,d.1.1,?_⟩;rw[if_pos d.1.2];exact(Bk.mem_ords k (p++[i]) _).2 ⟨q,S1,by simpa using c,d.2⟩
def Bk.mem_all{o:List Nat}:o∈b.all↔o.length=b.cs.length/\b.okTo [] o=true:=by
 unfold Bk.all;rw[Bk.mem_ords];constructor
 .rintro⟨q,rfl,hq,hk⟩;exact⟨hq,hk⟩
 .rintro⟨h1,h2⟩;exact⟨o,rfl,h1,h2⟩
def Bk.okTo_iff:∀(q p:List Nat),b.okTo p q=true↔∀X i Y,q=X++i::Y->i<b.cs.length/\b.can (p++X) i=true
 |[],p=>by simp[Bk.okTo]
 |i::q,p=>by
  simp only[Bk.okTo,Bool.and_eq_true,decide_eq_true_eq];rw[Bk.okTo_iff q (p++[i])];constructor
  .rintro⟨⟨h1,h2⟩,h3⟩ X j Y e;cases X with
   |nil=>
    simp only[nil_append,List.cons.injEq]at e;obtain⟨rfl,rfl⟩:=e;simpa using⟨h1,h2⟩
   |cons x X=>
    simp only[cons_append,List.cons.injEq]at e;obtain⟨rfl,rfl⟩:=e;have:=h3 X j Y rfl;simpa using this
  .intro h;refine⟨by simpa using h [] i q rfl,λ X j Y e=>?_⟩;have:=h (i::X) j Y (by simp[e]);simpa using this
def Bk.can_iff{o:List Nat}{i:Nat}:b.can o i=true↔i∉o/\∀k∈Je b.A i,k∈o:=by
 simp[Bk.can]
structure Bk.Ord(b:Bk)(o:List Nat):Prop where
 len:o.length=b.cs.length
 low:∀i∈o,i<b.cs.length
 nod:o.Nodup
 aft:∀X i Y,o=X++i::Y->∀k∈Je b.A i,k∈X
def Zq0:∀{o:List Nat},(∀X i Y,o=X++i::Y->i∉X)->o.Nodup:=by
 intro o h;rw[nodup_iff_pairwise_ne,pairwise_iff_getElem];intro i j c d b e;refine h (o.take j) o[j] (o.drop (j+1)) (by rw[getElem_cons_drop,take_append_drop]) ?_;rw[<- e,mem_take_iff_getElem];exact⟨i,O1,rfl⟩
def Bk.mem_all_iff{o:List Nat}:o∈b.all↔b.Ord o:=by
 rw[Bk.mem_all,Bk.okTo_iff];simp only[nil_append];constructor
 .rintro⟨h1,h2⟩;refine⟨h1,λ i d=>?_,Zq0 λ X i Y e=>(Bk.can_iff.1 (h2 X i Y e).2).1,λ X i Y e=>(Bk.can_iff.1 (h2 X i Y e).2).2⟩;obtain⟨X,Y,e⟩:=append_of_mem d;exact(h2 X i Y e).1
 .intro h;refine⟨h.len,λ X i Y e=>⟨h.low i (by rw[e];simp),Bk.can_iff.2 ⟨λ f=>?_,h.aft X i Y e⟩⟩⟩;have c:=h.nod;rw[e]at c;exact(nodup_append.1 c).2.2 i f i (mem_cons_self ..) rfl
def Zsl{n:Nat}{l:List Nat}(h:∀i,i<n->i∈l):n<=l.length:=by
 have b:∀(n:Nat)(l:List Nat),(∀i,i<n->i∈l)->n<=l.length:=by
  intro n
  induction n with
  |zero=>intro l _;exact Nat.zero_le _
  |succ n c=>
   intro l h;obtain⟨X,Y,e⟩:=append_of_mem (h n O1)
   have:=c (X++Y) λ i d=>by
    have:=h i O1;rw[e]at this;simp only[mem_append,mem_cons]at this ⊢;rcases this with h|h|h
    .exact .inl h
    .omega
    .exact .inr h
   rw[e];simp at this ⊢;omega
 exact b n l h
def Bk.A_n(b:Bk):b.A.length=b.cs.length:=by simp[Bk.A]
def Bk.Ok.ord{b:Bk}(h:b.Ok):∃o,b.Ord o:=by
 obtain⟨L,d,c⟩:=DM h.lo;rw[b.A_n]at c;refine⟨L.reverse,?_,λ i f=>by rw[<- b.A_n];exact d.low i (by simpa using f),(by unfold Nodup;rw[pairwise_reverse];exact d.nod.imp Ne.symm),λ X i Y e k g=>?_⟩
 .rw[length_reverse];have m:=H7 d.nod (n:=b.cs.length) λ x j=>by rw[<- b.A_n];exact d.low x j
  have q:=Zsl c;omega
 .have e':L=Y.reverse++i::X.reverse:=by
   rw[<- reverse_reverse L,e];simp
  have:=d.aft _ _ _ e' k g;simpa using this
def Bk.Ord.has{b:Bk}{o:List Nat}(h:b.Ord o){i:Nat}(e:i<b.cs.length):i∈o:=by
 apply Classical.byContradiction;intro f;have d:(i::o).Nodup:=nodup_cons.2 ⟨f,h.nod⟩
 have:=H7 d (n:=b.cs.length) λ x c=>by
  rcases mem_cons.1 c with rfl|c
  .exact e
  .exact h.low x c
 rw[length_cons,h.len]at this;omega
def Bk.Ok.all_pos{b:Bk}(h:b.Ok):0<b.all.length:=by
 obtain⟨o,c⟩:=h.ord;exact length_pos_of_mem (Bk.mem_all_iff.2 c)
def Bk.stp_len(b:Bk)(x:List Bool×List Bool)(i:Nat):(b.stp x i).1.length=x.1.length/\(b.stp x i).2.length=x.2.length:=by
 unfold Bk.stp;split <;> simp
def Bk.end_len(b:Bk)(o:List Nat):(b.ends o).1.length=b.rs.length/\(b.ends o).2.length=b.cs.length:=by
 have c:∀(o:List Nat)(x:List Bool×List Bool),(o.foldl b.stp x).1.length=x.1.length/\(o.foldl b.stp x).2.length=x.2.length:=by
  intro o
  induction o with
  |nil=>exact λ x=>⟨rfl,rfl⟩
  |cons i o f=>
   intro x;have d:=f (b.stp x i);have e:=b.stp_len x i;exact⟨d.1.trans e.1,d.2.trans e.2⟩
 have:=c o b.ini;simpa[Bk.ends,Bk.ini]using this
def Zk5{l:List Bool}{i j:Nat}{v:Bool}:(l.set i v).getD j false=if i=j/\i<l.length then v else l.getD j false:=by
 simp only[getD_eq_getElem?_getD,getElem?_set];by_cases e:i=j
 .subst e;by_cases h:i<l.length
  .simp[h]
  .simp[h]
 .simp[e]
def Bk.end_facts(b:Bk)(h:b.Ok):∀(n:Nat)(o:List Nat),o.length=n->o.Nodup->(∀i∈o,i<b.cs.length) ->
  (∀i,i∉o->(b.ends o).2.getD i false=false)/\∀r,r<b.rs.length->(b.ends o).1.getD r false=!(o.any λ i=>(b.ends o).2.getD i false&&(b.cas i).ag.toNat==r):=by
 intro n
 induction n with
 |zero=>
  intro o d _ _;rw[length_eq_zero_iff]at d;subst d;refine⟨λ i _=>?_,λ r m=>?_⟩
  .simp only[Bk.ends,Bk.ini,foldl_nil,getD_eq_getElem?_getD,getElem?_replicate];split <;> rfl
  .simp[Bk.ends,Bk.ini,getD_eq_getElem?_getD,getElem?_replicate,m]
 |succ n F=>
  intro o d v A
  obtain⟨q,i,rfl⟩:∃q i,o=q++[i]:=by
   rcases eq_nil_or_concat o with e|⟨q,i,e⟩
   .rw[e]at d;cases d
   .exact⟨q,i,by simpa using e⟩
  rw[nodup_append]at v;have f:i∉q:=λ u=>v.2.2 i u i (mem_singleton.2 rfl) rfl;have z:i<b.cs.length:=A i S1;obtain⟨t,w⟩:=F q (by simpa using d) v.1 λ j c=>A j (by simp[c]);obtain⟨G,H⟩:=b.end_len q
  have C:(b.cas i).ag.toNat<b.rs.length:=by
   have u:b.cas i∈b.cs:=by
    unfold Bk.cas;rw[getD_eq_getElem?_getD,getElem?_eq_getElem z];exact getElem_mem z
   have:=h.ag _ u;unfold Bk.nr at this;omega
  rw[b.ends_snoc];unfold Bk.stp;by_cases B:Iq (b.cas i).gs (b.ends q).1=true
  .rw[if_pos B];refine⟨λ j c=>?_,λ r m=>?_⟩
   .simp only[mem_append,mem_singleton,not_or]at c;show((b.ends q).2.set i true).getD j false=false;rw[Zk5,if_neg λ e=>c.2 e.1.symm];exact t j c.1
   .show((b.ends q).1.set (b.cas i).ag.toNat false).getD r false=!((q++[i]).any λ j=>((b.ends q).2.set i true).getD j false&&(b.cas j).ag.toNat==r);rw[Zk5,any_append]
    have D:(q.any λ j=>((b.ends q).2.set i true).getD j false&&(b.cas j).ag.toNat==r)=q.any λ j=>(b.ends q).2.getD j false&&(b.cas j).ag.toNat==r:=by
     have g:∀j∈q,((b.ends q).2.set i true).getD j false=(b.ends q).2.getD j false:=λ j c=>by rw[Zk5,if_neg (λ e:i=j/\_=>f (e.1▸c))]
     rw[Bool.eq_iff_iff,any_eq_true,any_eq_true];constructor
     .rintro⟨j,c,hx⟩;rw[g j c]at hx;exact⟨j,c,hx⟩
     .rintro⟨j,c,hx⟩;rw[<- g j c]at hx;exact⟨j,c,hx⟩
    rw[D];by_cases e:(b.cas i).ag.toNat=r
    .rw[if_pos ⟨e,O1⟩];have E:((b.ends q).2.set i true).getD i false=true:=by rw[Zk5,if_pos ⟨rfl,O1⟩]
     rw[any_cons,E,e];simp
    .rw[if_neg λ x=>e x.1,w r m,any_cons,beq_false_of_ne e];simp
  .rw[if_neg B];refine⟨λ j c=>t j λ x=>c (by simp[x]),λ r m=>?_⟩;rw[w r m,any_append];rw[any_cons,t i f];simp
def Bk.Ord.split{b:Bk}{o:List Nat}(h:b.Ord o){i:Nat}(c:i<b.cs.length):∃X Y,o=X++i::Y:=append_of_mem (h.has c)
def Bk.end_right(b:Bk)(h:b.Ok){o:List Nat}(c:b.Ord o){r:Nat}(d:r<b.rs.length):(b.ends o).1.getD r false=false↔∃i,i<b.cs.length/\(b.ends o).2.getD i false=true/\(b.cas i).ag.toNat=r:=by
 rw[(b.end_facts h o.length o rfl c.nod c.low).2 r d];simp only[Bool.not_eq_false',any_eq_true,Bool.and_eq_true,beq_iff_eq];constructor
 .rintro⟨i,hi,h1,h2⟩;exact⟨i,c.low i hi,h1,h2⟩
 .rintro⟨i,hi,h1,h2⟩;exact⟨i,c.has hi,h1,h2⟩
def Zsc{b all:Nat}:H9 b all=1↔b=all:=by
 unfold H9;split
 .rename_i h;simp[h]
 .rename_i h;split
  .simp[h]
  .simp[h]
def Zsd{b all:Nat}(c:0<all):H9 b all=2↔b=0:=by
 unfold H9;split
 .rename_i h;constructor
  .intro x;cases x
  .intro x;omega
 .split
  .rename_i h;simp[h]
  .rename_i h;simp[h]
def Bk.fatR_one(b:Bk){i:Nat}:b.fatR i=1↔∀o,b.Ord o->(b.ends o).1.getD i false=true:=by
 unfold Bk.fatR;rw[Zsc,countP_eq_length];exact⟨λ h o c=>h o (Bk.mem_all_iff.2 c),λ h o c=>h o (Bk.mem_all_iff.1 c)⟩
def Bk.fatC_two(b:Bk)(h:b.Ok){i:Nat}:b.fatC i=2↔∀o,b.Ord o->(b.ends o).2.getD i false=false:=by
 unfold Bk.fatC;rw[Zsd h.all_pos,countP_eq_zero];exact⟨λ h o c=>by simpa using h o (Bk.mem_all_iff.2 c),λ h o c=>by simpa using h o (Bk.mem_all_iff.1 c)⟩
def Bk.safe_stands(b:Bk)(h:b.Ok){r:Nat}(m:r<b.rs.length)(f:∀i,i<b.cs.length->(b.cas i).ag.toNat=r->b.fatC i=2):b.fatR r=1:=by
 rw[Bk.fatR_one];intro o c;apply Classical.byContradiction;intro j;obtain⟨i,g,d,e⟩:=(b.end_right h c m).1 (by simpa using j);rw[(b.fatC_two h).1 (f i g e) o c]at d;cases d
structure Bk.Beg(b:Bk)(o:List Nat):Prop where
 low:∀i∈o,i<b.cs.length
 nod:o.Nodup
 aft:∀X i Y,o=X++i::Y->∀k∈Je b.A i,k∈X
def Bk.Beg.nil:b.Beg []:=⟨S1,.nil,λ X i Y e=>by cases X <;> cases e⟩
def Bk.Beg.le{o:List Nat}(h:b.Beg o):o.length<=b.cs.length:=H7 h.nod h.low
def Bk.Beg.snoc{o:List Nat}{i:Nat}(h:b.Beg o)(v:i<b.cs.length)(u:b.can o i=true):b.Beg (o++[i]):=by
 obtain⟨q,t⟩:=Bk.can_iff.1 u;refine⟨λ j c=>?_,?_,λ X j Y e k f=>?_⟩
 .rcases mem_append.1 c with c|c
  .exact h.low j c
  .simp at c;subst c;exact v
 .rw[nodup_append];exact⟨h.nod,S1,λ x w y g e=>by simp at g;subst g;subst e;exact q w⟩
 .rcases eq_nil_or_concat Y with rfl|⟨d,y,rfl⟩
  .obtain⟨rfl,e2⟩:=append_inj' e S1;cases e2;exact t k f
  .have e':o++[i]=(X++j::d)++[y]:=by rw[e];simp
   obtain⟨m,-⟩:=append_inj' e' S1;exact h.aft X j d m k f
def Qqa:List Int->List Int->Bool
 |[],l=>!l.isEmpty
 |_::_,[]=>false
 |x::l,y::r=>if x=y then Qqa l r else decide (x<y)
def Zp7:∀l,Qqa l l=false
 |[]=>rfl
 |x::l=>by simp[Qqa,Zp7 l]
def Zpp:∀l r,Qqa l r=true->Qqa r l=false
 |[],[],h=>by simp[Qqa]at h
 |[],_::_,_=>rfl
 |_::_,[],h=>by simp[Qqa]at h
 |x::l,y::r,h=>by
  simp only[Qqa]at h ⊢;by_cases e:x=y
  .rw[if_pos e]at h;rw[if_pos e.symm];exact Zpp l r h
  .rw[if_neg e]at h;rw[if_neg (Ne.symm e)];simp at h ⊢;omega
abbrev Qae(o:List Nat):List Int:=o.map λ(k:Nat)=>(k:Int)
end Go.TM
namespace Go.TM
variable{α:Type}{L:List α}{F:α->Nat->Bool}{n k i j:Nat}
def Qaq(L:List α)(F:α->Nat->Bool)(n k i:Nat):List Nat:=(range n).map λ j=>(L.take (if j<i then k+1 else k)).countP λ o=>F o j
def Qbj:(Qaq L F n k i).length=n:=by simp[Qaq]
def Qvo(h:j<n):(Qaq L F n k i)[j]?=some ((L.take (if j<i then k+1 else k)).countP λ o=>F o j):=by
 unfold Qaq;rw[getElem?_map,getElem?_range h];rfl
def Zl2{o:α}(h:L[k]?=some o):L.take (k+1)=L.take k++[o]:=by
 rw[take_add_one,h];rfl
def Zpk{c:Nat}{X:List Nat}(d:X.length=n)(h:∀j,j<n->X[j]?=some ((L.take (if j<c then k+1 else k)).countP λ o=>F o j)):X=Qaq L F n k c:=by
 apply ext_getElem?;intro j;by_cases b:j<n
 .rw[h j b,Qvo b]
 .rw[getElem?_eq_none O1,getElem?_eq_none (by rw[Qbj];omega)]
def Zqy{o:α}(f:L[k]?=some o)(b:i<n)(c:F o i=true):(Qaq L F n k i).set i ((Qaq L F n k i).getD i 0+1)=Qaq L F n k (i+1):=by
 refine Zpk (by rw[length_set,Qbj]) λ j d=>?_;rw[getElem?_set];by_cases e:i=j
 .subst e;rw[if_pos rfl,if_pos (by rw[Qbj];exact b),getD_eq_getElem?_getD,Qvo b,if_neg O1,if_pos O1,Zl2 f,countP_append];simp[c]
 .rw[if_neg e,Qvo d];have:(j<i)=(j<i+1):=propext O1;simp only[this]
def Zp4{o:α}(d:L[k]?=some o)(b:F o i=false):Qaq L F n k i=Qaq L F n k (i+1):=by
 refine Zpk Qbj λ j c=>?_;rw[Qvo c];by_cases e:i=j
 .subst e;rw[if_neg O1,if_pos O1,Zl2 d,countP_append];simp[b]
 .have:(j<i)=(j<i+1):=propext O1;simp only[this]
def Zp5:Qaq L F n k n=Qaq L F n (k+1) 0:=by
 refine Zpk Qbj λ j b=>?_;rw[Qvo b,if_pos b,if_neg O1]
def Zp6:Qaq L F n 0 0=replicate n 0:=by
 apply ext_getElem?;intro j;by_cases b:j<n
 .rw[Qvo b,if_neg O1,getElem?_replicate,if_pos b];rfl
 .rw[getElem?_eq_none (by rw[Qbj];omega),getElem?_eq_none S3]
def Zqx:Qaq L F n L.length 0=(range n).map λ j=>L.countP λ o=>F o j:=by
 unfold Qaq;refine map_congr_left λ j _=>?_;rw[if_neg O1,take_length]
def Zq8(h:j<n):(Qaq L F n k i).getD j 0<=L.length:=by
 rw[getD_eq_getElem?_getD,Qvo h];exact Nat.le_trans countP_le_length (by rw[length_take];omega)
end Go.TM
namespace Go.TM
variable{b o:Bk}
structure Bk.Turn(b o:Bk)(p q:Nat->Nat):Prop where
 rs:o.rs=b.rs
 n:o.cs.length=b.cs.length
 pl:∀i,i<b.cs.length->p i<b.cs.length
 ql:∀i,i<b.cs.length->q i<b.cs.length
 qp:∀i,i<b.cs.length->q (p i)=i
 pq:∀i,i<b.cs.length->p (q i)=i
 nm:∀i,i<b.cs.length->(o.cas i).nm=(b.cas (p i)).nm
 ag:∀i,i<b.cs.length->(o.cas i).ag=(b.cas (p i)).ag
 gs:∀i,i<b.cs.length->(o.cas i).gs=(b.cas (p i)).gs
 af:∀i,i<b.cs.length->∀k,k<b.cs.length->(k∈Je o.A i↔p k∈Je b.A (p i))
def Bk.Turn.symm{p q:Nat->Nat}(h:b.Turn o p q):o.Turn b q p:=by
 have c:=h.n;refine⟨h.rs.symm,h.n.symm,?_,?_,?_,?_,?_,?_,?_,?_⟩ <;> rw[c]
 .exact h.ql
 .exact h.pl
 .exact h.pq
 .exact h.qp
 .intro i hi;rw[h.nm _ (h.ql i hi),h.pq i hi]
 .intro i hi;rw[h.ag _ (h.ql i hi),h.pq i hi]
 .intro i hi;rw[h.gs _ (h.ql i hi),h.pq i hi]
 .intro i hi k hk;rw[h.af _ (h.ql i hi) _ (h.ql k hk),h.pq i hi,h.pq k hk]
def Bk.mem_cas{i:Nat}(c:i<b.cs.length):b.cas i∈b.cs:=by
 unfold Bk.cas;rw[getD_eq_getElem?_getD,getElem?_eq_getElem c];exact getElem_mem c
end Go.TM
namespace Go.TM
variable{b:Bk}
def Bk.cas_all(b:Bk):(range b.cs.length).map b.cas=b.cs:=by
 apply ext_getElem?;intro i;by_cases h:i<b.cs.length
 .simp[h,Bk.cas,getD_eq_getElem?_getD]
 .simp[h]
structure Bk.Free(b:Bk)(i k:Nat):Prop where
 gi:∀g∈(b.cas i).gs,(b.cas k).ag∉g
 gk:∀g∈(b.cas k).gs,(b.cas i).ag∉g
 ai:(k:Int)∉(b.cas i).af
 ak:(i:Int)∉(b.cas k).af
def Bk.Ok.casIn{b:Bk}{i:Nat}(c:i<b.cs.length):b.cas i∈b.cs:=by
 unfold Bk.cas;rw[getD_eq_getElem?_getD,getElem?_eq_getElem c];exact getElem_mem c
def Bk.aft_cas(c:b.Ok){i k:Nat}(d:i<b.cs.length)(h:k∈Je b.A i):(k:Int)∈(b.cas i).af:=by
 have ci:=Bk.Ok.casIn d
 have e:Je b.A i=(b.cas i).af.map Int.toNat:=by
  simp[Je,Bk.A,Bk.cas,getD_eq_getElem?_getD,d]
 rw[e]at h;obtain⟨n,f,g⟩:=mem_map.1 h;have:=(c.af _ ci n f).1;have:(k:Int)=n:=O1
 exact this▸f
end Go.TM

