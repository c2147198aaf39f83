/- Lemmas. No conditions. -/
import Derived.Test.YtnpfcnfhfkflhaaGreatDoorC00
set_option linter.all false
open List
namespace Go.TM
variable{b:Bk}
def Bk.okTo(b:Bk):List Nat->List Nat->Bool
 |_,[]=>true
 |p,i::q=>decide (i<b.cs.length)&&b.can p i&&b.okTo (p++[i]) q
def Bk.mem_ords:∀(k:Nat)(p o:List Nat),o∈b.ords k p↔∃q,o=p++q/\q.length=k/\b.okTo p q=true
 |0,p,o=>by
  simp only[Bk.ords,mem_singleton];constructor
  .rintro rfl;exact⟨[],S1,rfl,rfl⟩
  .rintro⟨q,rfl,d,-⟩;rw[length_eq_zero_iff]at d;simp[d]
 |k+1,p,o=>by
  simp only[Bk.ords,mem_flatMap,mem_range];constructor
  .rintro⟨i,hi,ho⟩;split at ho
   .rename_i hc;obtain⟨q,rfl,d,e⟩:=(Bk.mem_ords k (p++[i]) o).1 ho;exact⟨i::q,S1,by simp[d],by simp[Bk.okTo,hi,hc,e]⟩
   .cases ho
  .rintro⟨q,rfl,d,e⟩;cases q with
   |nil=>cases d
   |cons i q=>
    simp only[Bk.okTo,Bool.and_eq_true,decide_eq_true_eq]at e;refine⟨i,e.1.1,?_⟩;rw[if_pos e.1.2];exact(Bk.mem_ords k (p++[i]) _).2 ⟨q,S1,by simpa using d,e.2⟩
def Bk.mem_all{o:List Nat}:o∈b.all↔o.length=b.cs.length/\b.okTo [] o=true:=by
 unfold Bk.all;rw[Bk.mem_ords];constructor
 .rintro⟨q,rfl,hq,hk⟩;exact⟨hq,hk⟩
 .rintro⟨h1,h2⟩;exact⟨o,rfl,h1,h2⟩
def Bk.okTo_iff:∀(q p:List Nat),b.okTo p q=true↔∀X i Y,q=X++i::Y->i<b.cs.length/\b.can (p++X) i=true
 |[],p=>by simp[Bk.okTo]
 |i::q,p=>by
  simp only[Bk.okTo,Bool.and_eq_true,decide_eq_true_eq];rw[Bk.okTo_iff q (p++[i])];constructor
  .rintro⟨⟨h1,h2⟩,h3⟩ X j Y e;cases X with
   |nil=>
    simp only[nil_append,List.cons.injEq]at e;obtain⟨rfl,rfl⟩:=e;simpa using⟨h1,h2⟩
   |cons x X=>
    simp only[cons_append,List.cons.injEq]at e;obtain⟨rfl,rfl⟩:=e;have:=h3 X j Y rfl;simpa using this
  .intro h;refine⟨by simpa using h [] i q rfl,λ X j Y e=>?_⟩;have:=h (i::X) j Y (by simp[e]);simpa using this
def Bk.can_iff{o:List Nat}{i:Nat}:b.can o i=true↔i∉o/\∀k∈Je b.A i,k∈o:=by
 simp[Bk.can]
structure Bk.Ord(b:Bk)(o:List Nat):Prop where
 len:o.length=b.cs.length
 low:∀i∈o,i<b.cs.length
 nod:o.Nodup
 aft:∀X i Y,o=X++i::Y->∀k∈Je b.A i,k∈X
def Zqu:∀{o:List Nat},(∀X i Y,o=X++i::Y->i∉X)->o.Nodup:=by
 intro o h;rw[nodup_iff_pairwise_ne,pairwise_iff_getElem];intro i j d f b e;refine h (o.take j) o[j] (o.drop (j+1)) (by rw[getElem_cons_drop,take_append_drop]) ?_;rw[<- e,mem_take_iff_getElem];exact⟨i,O1,rfl⟩
def Bk.mem_all_iff{o:List Nat}:o∈b.all↔b.Ord o:=by
 rw[Bk.mem_all,Bk.okTo_iff];simp only[nil_append];constructor
 .rintro⟨h1,h2⟩;refine⟨h1,λ i f=>?_,Zqu λ X i Y e=>(Bk.can_iff.1 (h2 X i Y e).2).1,λ X i Y e=>(Bk.can_iff.1 (h2 X i Y e).2).2⟩;obtain⟨X,Y,e⟩:=append_of_mem f;exact(h2 X i Y e).1
 .intro h;refine⟨h.len,λ X i Y e=>⟨h.low i (by rw[e];simp),Bk.can_iff.2 ⟨λ g=>?_,h.aft X i Y e⟩⟩⟩;have d:=h.nod;rw[e]at d;exact(nodup_append.1 d).2.2 i g i (mem_cons_self ..) rfl
def Bk.A_n(b:Bk):b.A.length=b.cs.length:=by simp[Bk.A]
def Bk.Ord.has{b:Bk}{o:List Nat}(h:b.Ord o){i:Nat}(f:i<b.cs.length):i∈o:=by
 apply Classical.byContradiction;intro g;have e:(i::o).Nodup:=nodup_cons.2 ⟨g,h.nod⟩
 have:=H7 e (n:=b.cs.length) λ x d=>by
  rcases mem_cons.1 d with rfl|d
  .exact f
  .exact h.low x d
 rw[length_cons,h.len]at this;omega
def Bk.stp_len(b:Bk)(x:List Bool×List Bool)(i:Nat):(b.stp x i).1.length=x.1.length/\(b.stp x i).2.length=x.2.length:=by
 unfold Bk.stp;split <;> simp
def Bk.end_len(b:Bk)(o:List Nat):(b.ends o).1.length=b.rs.length/\(b.ends o).2.length=b.cs.length:=by
 have d:∀(o:List Nat)(x:List Bool×List Bool),(o.foldl b.stp x).1.length=x.1.length/\(o.foldl b.stp x).2.length=x.2.length:=by
  intro o
  induction o with
  |nil=>exact λ x=>⟨rfl,rfl⟩
  |cons i o g=>
   intro x;have e:=g (b.stp x i);have f:=b.stp_len x i;exact⟨e.1.trans f.1,e.2.trans f.2⟩
 have:=d o b.ini;simpa[Bk.ends,Bk.ini]using this
def Bk.Ord.split{b:Bk}{o:List Nat}(h:b.Ord o){i:Nat}(d:i<b.cs.length):∃X Y,o=X++i::Y:=append_of_mem (h.has d)
structure Bk.Beg(b:Bk)(o:List Nat):Prop where
 low:∀i∈o,i<b.cs.length
 nod:o.Nodup
 aft:∀X i Y,o=X++i::Y->∀k∈Je b.A i,k∈X
def Bk.Beg.nil:b.Beg []:=⟨S1,.nil,λ X i Y e=>by cases X <;> cases e⟩
def Bk.Beg.le{o:List Nat}(h:b.Beg o):o.length<=b.cs.length:=H7 h.nod h.low
def Bk.Beg.snoc{o:List Nat}{i:Nat}(h:b.Beg o)(w:i<b.cs.length)(v:b.can o i=true):b.Beg (o++[i]):=by
 obtain⟨t,u⟩:=Bk.can_iff.1 v;refine⟨λ j d=>?_,?_,λ X j Y e k g=>?_⟩
 .rcases mem_append.1 d with d|d
  .exact h.low j d
  .simp at d;subst d;exact w
 .rw[nodup_append];exact⟨h.nod,S1,λ x z y m e=>by simp at m;subst m;subst e;exact t z⟩
 .rcases eq_nil_or_concat Y with rfl|⟨f,y,rfl⟩
  .obtain⟨rfl,e2⟩:=append_inj' e S1;cases e2;exact u k g
  .have e':o++[i]=(X++j::f)++[y]:=by rw[e];simp
   obtain⟨q,-⟩:=append_inj' e' S1;exact h.aft X j f q k g
def Bk.Ord.flaw{o:List Nat}(h:b.Ord o):b.ordF (o.map λ(k:Nat)=>(k:Int))=0:=by
 have f:∀(q p:List Nat),o=p++q->b.ordL p (q.map λ(k:Nat)=>(k:Int))=0:=by
  intro q
  induction q with
  |nil=>intro p _;rfl
  |cons i q u=>
   intro p e;have v:i<b.cs.length:=h.low i (by rw[e];simp);have g:=h.nod;rw[e,nodup_append]at g;have d:i∉p:=λ t=>g.2.2 i t i (mem_cons_self ..) rfl;have j:=h.aft p i q e;show(if Go.TM.btw (i:Int) 0 (b.nc-1)then(if(i:Int).toNat∈p then 5 else if(Je b.A (i:Int).toNat).all (λ k=>p.contains k)then b.ordL (p++[(i:Int).toNat]) (q.map λ(k:Nat)=>(k:Int))else 7)else 6)=0;rw[if_pos (by unfold Bk.nc;simp[btw];omega),Int.toNat_natCast,if_neg d,if_pos (by rw[all_eq_true];intro k m;simpa using j k m)];exact u (p++[i]) (by rw[e];simp)
 unfold Bk.ordF;rw[if_neg (by rw[length_map,h.len];simp)];exact f o [] rfl
def Qp3:List Int->List Int->Bool
 |[],l=>!l.isEmpty
 |_::_,[]=>false
 |x::l,y::r=>if x=y then Qp3 l r else decide (x<y)
def Zpx:∀l,Qp3 l l=false
 |[]=>rfl
 |x::l=>by simp[Qp3,Zpx l]
def Zon:∀l r,Qp3 l r=true->Qp3 r l=false
 |[],[],h=>by simp[Qp3]at h
 |[],_::_,_=>rfl
 |_::_,[],h=>by simp[Qp3]at h
 |x::l,y::r,h=>by
  simp only[Qp3]at h ⊢;by_cases e:x=y
  .rw[if_pos e]at h;rw[if_pos e.symm];exact Zon l r h
  .rw[if_neg e]at h;rw[if_neg (Ne.symm e)];simp at h ⊢;omega
abbrev Qae(o:List Nat):List Int:=o.map λ(k:Nat)=>(k:Int)
end Go.TM
namespace Go.TM
variable{α:Type}{L:List α}{F:α->Nat->Bool}{n k i j:Nat}
def Qaq(L:List α)(F:α->Nat->Bool)(n k i:Nat):List Nat:=(range n).map λ j=>(L.take (if j<i then k+1 else k)).countP λ o=>F o j
def Qdc:(Qaq L F n k i).length=n:=by simp[Qaq]
def Qpj(h:j<n):(Qaq L F n k i)[j]?=some ((L.take (if j<i then k+1 else k)).countP λ o=>F o j):=by
 unfold Qaq;rw[getElem?_map,getElem?_range h];rfl
def Q4z{o:α}(h:L[k]?=some o):L.take (k+1)=L.take k++[o]:=by
 rw[take_add_one,h];rfl
def Zok{d:Nat}{X:List Nat}(e:X.length=n)(h:∀j,j<n->X[j]?=some ((L.take (if j<d then k+1 else k)).countP λ o=>F o j)):X=Qaq L F n k d:=by
 apply ext_getElem?;intro j;by_cases b:j<n
 .rw[h j b,Qpj b]
 .rw[getElem?_eq_none O1,getElem?_eq_none (by rw[Qdc];omega)]
def Zqs{o:α}(g:L[k]?=some o)(b:i<n)(d:F o i=true):(Qaq L F n k i).set i ((Qaq L F n k i).getD i 0+1)=Qaq L F n k (i+1):=by
 refine Zok (by rw[length_set,Qdc]) λ j f=>?_;rw[getElem?_set];by_cases e:i=j
 .subst e;rw[if_pos rfl,if_pos (by rw[Qdc];exact b),getD_eq_getElem?_getD,Qpj b,if_neg O1,if_pos O1,Q4z g,countP_append];simp[d]
 .rw[if_neg e,Qpj f];have:(j<i)=(j<i+1):=propext O1;simp only[this]
def Zpj{o:α}(f:L[k]?=some o)(b:F o i=false):Qaq L F n k i=Qaq L F n k (i+1):=by
 refine Zok Qdc λ j d=>?_;rw[Qpj d];by_cases e:i=j
 .subst e;rw[if_neg O1,if_pos O1,Q4z f,countP_append];simp[b]
 .have:(j<i)=(j<i+1):=propext O1;simp only[this]
def Zpk:Qaq L F n k n=Qaq L F n (k+1) 0:=by
 refine Zok Qdc λ j b=>?_;rw[Qpj b,if_pos b,if_neg O1]
def Zpp:Qaq L F n 0 0=replicate n 0:=by
 apply ext_getElem?;intro j;by_cases b:j<n
 .rw[Qpj b,if_neg O1,getElem?_replicate,if_pos b];rfl
 .rw[getElem?_eq_none (by rw[Qdc];omega),getElem?_eq_none S3]
def Zqr:Qaq L F n L.length 0=(range n).map λ j=>L.countP λ o=>F o j:=by
 unfold Qaq;refine map_congr_left λ j _=>?_;rw[if_neg O1,take_length]
def Zq0(h:j<n):(Qaq L F n k i).getD j 0<=L.length:=by
 rw[getD_eq_getElem?_getD,Qpj h];exact Nat.le_trans countP_le_length (by rw[length_take];omega)
end Go.TM
namespace Go.TM
variable{b o:Bk}
structure Bk.Turn(b o:Bk)(p q:Nat->Nat):Prop where
 rs:o.rs=b.rs
 n:o.cs.length=b.cs.length
 pl:∀i,i<b.cs.length->p i<b.cs.length
 ql:∀i,i<b.cs.length->q i<b.cs.length
 qp:∀i,i<b.cs.length->q (p i)=i
 pq:∀i,i<b.cs.length->p (q i)=i
 nm:∀i,i<b.cs.length->(o.cas i).nm=(b.cas (p i)).nm
 ag:∀i,i<b.cs.length->(o.cas i).ag=(b.cas (p i)).ag
 gs:∀i,i<b.cs.length->(o.cas i).gs=(b.cas (p i)).gs
 af:∀i,i<b.cs.length->∀k,k<b.cs.length->(k∈Je o.A i↔p k∈Je b.A (p i))
def Bk.Turn.symm{p q:Nat->Nat}(h:b.Turn o p q):o.Turn b q p:=by
 have d:=h.n;refine⟨h.rs.symm,h.n.symm,?_,?_,?_,?_,?_,?_,?_,?_⟩ <;> rw[d]
 .exact h.ql
 .exact h.pl
 .exact h.pq
 .exact h.qp
 .intro i hi;rw[h.nm _ (h.ql i hi),h.pq i hi]
 .intro i hi;rw[h.ag _ (h.ql i hi),h.pq i hi]
 .intro i hi;rw[h.gs _ (h.ql i hi),h.pq i hi]
 .intro i hi k hk;rw[h.af _ (h.ql i hi) _ (h.ql k hk),h.pq i hi,h.pq k hk]
def Q4w{nameB:ByteArray->Bool}{nr nc:Int}:∀{l:List Cs}{seen:List ByteArray},WC nameB nr nc seen l=0 ↔
  (∀c∈l,nameB c.nm=true/\btw c.ag 0 (nr-1)=true/\ZX nr c.gs=0/\J1 nc none c.af=0/\c.nm∉seen)/\(l.map (·.nm)).Nodup
 |[],seen=>by simp[WC]
 |c::l,seen=>by
  have w:=Q4w (nameB:=nameB) (nr:=nr) (nc:=nc) (l:=l) (seen:=seen++[c.nm]);simp only[WC,mem_cons,map_cons,nodup_cons,forall_eq_or_imp];by_cases j:nameB c.nm=true
  .by_cases h2:QR seen c.nm=true
   .rw[if_pos j,if_pos h2];have:=xL.1 h2;simp[this]
   .have h2':c.nm∉seen:=λ h=>h2 (xL.2 h);rw[if_pos j,if_neg h2];by_cases f:btw c.ag 0 (nr-1)=true
    .by_cases h4:ZX nr c.gs=0
     .by_cases h5:J1 nc none c.af=0
      .rw[if_pos f,if_pos h4,if_pos h5,w];simp only[j,h2',f,h4,h5,true_and,not_false_iff];constructor
       .rintro⟨a1,a2⟩;refine⟨λ d g=>?_,λ v=>?_,a2⟩
        .obtain⟨m,o,q,t,u⟩:=a1 d g;exact⟨m,o,q,t,λ b=>u (by simp[b])⟩
        .obtain⟨d,g,e⟩:=mem_map.1 v;exact(a1 d g).2.2.2.2 (by simp[e])
       .rintro⟨a1,a2,a3⟩;refine⟨λ d g=>?_,a3⟩;obtain⟨m,o,q,t,u⟩:=a1 d g;refine⟨m,o,q,t,λ b=>?_⟩;rcases mem_append.1 b with b|b
        .exact u b
        .simp at b;exact a2 (mem_map.2 ⟨d,g,b⟩)
      .rw[if_pos f,if_pos h4,if_neg h5];simp[h5]
     .rw[if_pos f,if_neg h4];simp[h4]
    .rw[if_neg f];simp[f]
  .rw[if_neg j];simp[j]
def Bk.cas_ex{c:Cs}(h:c∈b.cs):∃i,i<b.cs.length/\b.cas i=c:=by
 obtain⟨i,d,e⟩:=mem_iff_getElem.1 h;exact⟨i,d,by simp[Bk.cas,getD_eq_getElem?_getD,d,e]⟩
def Bk.mem_cas{i:Nat}(d:i<b.cs.length):b.cas i∈b.cs:=by
 unfold Bk.cas;rw[getD_eq_getElem?_getD,getElem?_eq_getElem d];exact getElem_mem d
def Bk.Turn.flaw{nameB:ByteArray->Bool}{p q:Nat->Nat}(t:b.flaw nameB=0)(h:b.Turn o p q)(v:∀i,i<b.cs.length->J1 b.nc none (o.cas i).af=0):o.flaw nameB=0:=by
 have F:=Bk.ok_of t
 have g:∀i,i<o.A.length->∀k∈Je o.A i,k<o.A.length:=λ i d k f=>by
  rw[o.A_n]at d ⊢;have e:Je o.A i=(o.cas i).af.map Int.toNat:=by simp[Je,Bk.A,Bk.cas,getD_eq_getElem?_getD,d]
  rw[e]at f;obtain⟨n,O,rfl⟩:=mem_map.1 f;have:=Yk (v i (h.n▸d)) n O;rw[h.n];unfold Bk.nc at this;omega
 have L:Wq o.A=false:=by
  obtain⟨ρ,P⟩:=wS F.lo;refine qq g (λ i=>ρ (p i)) λ i d k f=>?_;have u:=g i d k f;rw[o.A_n,h.n]at d u;exact P (p i) (by rw[b.A_n];exact h.pl i d) (p k) ((h.af i d k u).1 f)
 unfold Bk.flaw at t ⊢;have G:o.rsF nameB=b.rsF nameB:=by unfold Bk.rsF;rw[h.rs]
 rw[G];split at t
 .rename_i h1;rw[if_pos h1];split at t
  .rename_i h2
   have z:o.csF nameB=0:=by
    unfold Bk.csF at h2 ⊢;rw[h.n];split at h2
    .cases h2
    .rename_i h5;rw[if_neg h5,Q4w];obtain⟨H,w⟩:=Q4w.1 h2;have E:o.nr=b.nr:=by unfold Bk.nr;rw[h.rs]
     have C:o.nc=b.nc:=by unfold Bk.nc;rw[h.n]
     rw[E,C];refine⟨λ c M=>?_,?_⟩
     .obtain⟨i,d,rfl⟩:=Bk.cas_ex M;rw[h.n]at d;obtain⟨Q,R,S,-,-⟩:=H _ (Bk.mem_cas (h.pl i d));rw[h.nm i d,h.ag i d,h.gs i d];exact⟨Q,R,S,v i d,S1⟩
     .rw[nodup_iff_pairwise_ne,pairwise_iff_getElem]at w ⊢;simp only[length_map,getElem_map]at w ⊢;intro i j d m N e;have J:(o.cas i).nm=(o.cs[i]).nm:=by simp[Bk.cas,getD_eq_getElem?_getD,d]
      have K:(o.cas j).nm=(o.cs[j]).nm:=by simp[Bk.cas,getD_eq_getElem?_getD,m]
      rw[<- J,<- K]at e;rw[h.n]at d m;rw[h.nm i d,h.nm j m]at e
      have D:p i≠p j:=λ I=>by
       have:=h.qp i d;rw[I,h.qp j m]at this;omega
      have ci:∀k(f:k<b.cs.length),b.cas k=b.cs[k]:=λ k f=>by simp[Bk.cas,getD_eq_getElem?_getD,f]
      rw[ci _ (h.pl i d),ci _ (h.pl j m)]at e;rcases Nat.lt_or_gt_of_ne D with B|B
      .exact w (p i) (p j) (h.pl i d) (h.pl j m) B e
      .exact w (p j) (p i) (h.pl j m) (h.pl i d) B e.symm
   rw[if_pos z,if_neg (by simp[L])]
  .rename_i h2;exact absurd t h2
 .rename_i h1;exact absurd t h1
end Go.TM
namespace Go.TM
variable{b:Bk}
def Bk.flaw_zero{nameB:ByteArray->Bool}:b.flaw nameB=0↔b.rsF nameB=0/\b.csF nameB=0/\Wq b.A=false:=by
 unfold Bk.flaw;by_cases d:b.rsF nameB=0
 .by_cases h2:b.csF nameB=0
  .rw[if_pos d,if_pos h2];cases Wq b.A <;> simp[d,h2]
  .rw[if_pos d,if_neg h2];simp[h2]
 .rw[if_neg d];simp[d]
def Bk.csF_zero{nameB:ByteArray->Bool}:b.csF nameB=0↔b.cs.length<=5/\(∀c∈b.cs,nameB c.nm=true/\btw c.ag 0 (b.nr-1)=true/\ZX b.nr c.gs=0/\J1 b.nc none c.af=0)/\(b.cs.map (·.nm)).Nodup:=by
 unfold Bk.csF;by_cases h:b.cs.length > 5
 .rw[if_pos h];constructor
  .intro x;cases x
  .rintro⟨x,-⟩;omega
 .rw[if_neg h,Q4w];constructor
  .rintro⟨h1,h2⟩;exact⟨O1,λ c d=>let ⟨x1,x2,x3,x4,_⟩:=h1 c d;⟨x1,x2,x3,x4⟩,h2⟩
  .rintro⟨-,h1,h2⟩;exact⟨λ c d=>let ⟨x1,x2,x3,x4⟩:=h1 c d;⟨x1,x2,x3,x4,S1⟩,h2⟩
def Bk.cas_all(b:Bk):(range b.cs.length).map b.cas=b.cs:=by
 apply ext_getElem?;intro i;by_cases h:i<b.cs.length
 .simp[h,Bk.cas,getD_eq_getElem?_getD]
 .simp[h]
def Bk.wo_flaw{nameB:ByteArray->Bool}(j:b.flaw nameB=0)(out:Nat->Bool):(b.wo out).flaw nameB=0:=by
 have f:=(Bk.ok_of j).wo out;obtain⟨m,o,-⟩:=Bk.flaw_zero.1 j;obtain⟨-,q,g⟩:=Bk.csF_zero.1 o;refine Bk.flaw_zero.2 ⟨m,Bk.csF_zero.2 ⟨f.nc,λ c h=>?_,?_⟩,f.lo⟩
 .have hri:=f.ri c h;obtain⟨i,t,rfl⟩:=mem_map.1 h;have d:i<b.cs.length:=mem_range.1 (mem_filter.1 t).1;obtain⟨u,v,w,-⟩:=q _ (Bk.mem_cas d);exact⟨u,v,w,hri⟩
 .have e:(b.wo out).cs.map (·.nm)=(b.kept out).map λ i=>(b.cas i).nm:=by
   show List.map _ (List.map _ _)=_;rw[map_map];rfl
  rw[e];rw[<- b.cas_all,map_map]at g;exact g.sublist (filter_sublist.map _)
structure Bk.Free(b:Bk)(i k:Nat):Prop where
 gi:∀g∈(b.cas i).gs,(b.cas k).ag∉g
 gk:∀g∈(b.cas k).gs,(b.cas i).ag∉g
 ai:(k:Int)∉(b.cas i).af
 ak:(i:Int)∉(b.cas k).af
def Bk.Ok.casIn{b:Bk}{i:Nat}(d:i<b.cs.length):b.cas i∈b.cs:=by
 unfold Bk.cas;rw[getD_eq_getElem?_getD,getElem?_eq_getElem d];exact getElem_mem d
def Bk.aft_cas(d:b.Ok){i k:Nat}(f:i<b.cs.length)(h:k∈Je b.A i):(k:Int)∈(b.cas i).af:=by
 have ci:=Bk.Ok.casIn f
 have e:Je b.A i=(b.cas i).af.map Int.toNat:=by
  simp[Je,Bk.A,Bk.cas,getD_eq_getElem?_getD,f]
 rw[e]at h;obtain⟨n,g,j⟩:=mem_map.1 h;have:=(d.af _ ci n g).1;have:(k:Int)=n:=O1
 exact this▸g
end Go.TM

