/- Lemmas. No conditions. -/
import Derived.Test.YtcakpkianonbkaaGreatDoorB35
set_option linter.all false
open List
namespace Go.TM
variable{b:Bk}
def Bk.okTo(b:Bk):List Nat->List Nat->Bool
 |_,[]=>true
 |p,i::q=>decide (i<b.cs.length)&&b.can p i&&b.okTo (p++[i]) q
def Bk.mem_ords:∀(k:Nat)(p o:List Nat),o∈b.ords k p↔∃q,o=p++q/\q.length=k/\b.okTo p q=true
 |0,p,o=>by
  simp only[Bk.ords,mem_singleton];constructor
  .rintro rfl;exact⟨[],S1,rfl,rfl⟩
  .rintro⟨q,rfl,e,-⟩;rw[length_eq_zero_iff]at e;simp[e]
 |k+1,p,o=>by
  simp only[Bk.ords,mem_flatMap,mem_range];constructor
  .rintro⟨i,hi,ho⟩;split at ho
   .rename_i hc;obtain⟨q,rfl,e,h⟩:=(Bk.mem_ords k (p++[i]) o).1 ho;exact⟨i::q,S1,by simp[e],by simp[Bk.okTo,hi,hc,h]⟩
   .cases ho
  .rintro⟨q,rfl,e,h⟩;cases q with
   |nil=>cases e
   |cons i q=>
    simp only[Bk.okTo,Bool.and_eq_true,decide_eq_true_eq]at h;refine⟨i,h.1.1,?_⟩;rw[if_pos h.1.2];exact(Bk.mem_ords k (p++[i]) _).2 ⟨q,S1,by simpa using e,h.2⟩
def Bk.mem_all{o:List Nat}:o∈b.all↔o.length=b.cs.length/\b.okTo [] o=true:=by
 unfold Bk.all;rw[Bk.mem_ords];constructor
 .rintro⟨q,rfl,hq,hk⟩;exact⟨hq,hk⟩
 .rintro⟨h1,h2⟩;exact⟨o,rfl,h1,h2⟩
def Bk.okTo_iff:∀(q p:List Nat),b.okTo p q=true↔∀X i Y,q=X++i::Y->i<b.cs.length/\b.can (p++X) i=true
 |[],p=>by simp[Bk.okTo]
 |i::q,p=>by
  simp only[Bk.okTo,Bool.and_eq_true,decide_eq_true_eq];rw[Bk.okTo_iff q (p++[i])];constructor
  .rintro⟨⟨h1,h2⟩,h3⟩ X j Y e;cases X with
   |nil=>
    simp only[nil_append,List.cons.injEq]at e;obtain⟨rfl,rfl⟩:=e;simpa using⟨h1,h2⟩
   |cons x X=>
    simp only[cons_append,List.cons.injEq]at e;obtain⟨rfl,rfl⟩:=e;have:=h3 X j Y rfl;simpa using this
  .intro h;refine⟨by simpa using h [] i q rfl,λ X j Y e=>?_⟩;have:=h (i::X) j Y (by simp[e]);simpa using this
def Bk.can_iff{o:List Nat}{i:Nat}:b.can o i=true↔i∉o/\∀k∈Jg b.A i,k∈o:=by
 simp[Bk.can]
structure Bk.Ord(b:Bk)(o:List Nat):Prop where
 len:o.length=b.cs.length
 low:∀i∈o,i<b.cs.length
 nod:o.Nodup
 aft:∀X i Y,o=X++i::Y->∀k∈Jg b.A i,k∈X
def Q2s:∀{o:List Nat},(∀X i Y,o=X++i::Y->i∉X)->o.Nodup:=by
 intro o h;rw[nodup_iff_pairwise_ne,pairwise_iff_getElem];intro i j w z b e;refine h (o.take j) o[j] (o.drop (j+1)) (by rw[getElem_cons_drop,take_append_drop]) ?_;rw[<- e,mem_take_iff_getElem];exact⟨i,O1,rfl⟩
def Bk.mem_all_iff{o:List Nat}:o∈b.all↔b.Ord o:=by
 rw[Bk.mem_all,Bk.okTo_iff];simp only[nil_append];constructor
 .rintro⟨h1,h2⟩;refine⟨h1,λ i z=>?_,Q2s λ X i Y e=>(Bk.can_iff.1 (h2 X i Y e).2).1,λ X i Y e=>(Bk.can_iff.1 (h2 X i Y e).2).2⟩;obtain⟨X,Y,e⟩:=append_of_mem z;exact(h2 X i Y e).1
 .intro h;refine⟨h.len,λ X i Y e=>⟨h.low i (by rw[e];simp),Bk.can_iff.2 ⟨λ B=>?_,h.aft X i Y e⟩⟩⟩;have w:=h.nod;rw[e]at w;exact(nodup_append.1 w).2.2 i B i (mem_cons_self ..) rfl
def Zsp{n:Nat}{l:List Nat}(h:∀i,i<n->i∈l):n<=l.length:=by
 have key:∀(n:Nat)(l:List Nat),(∀i,i<n->i∈l)->n<=l.length:=by
  intro n
  induction n with
  |zero=>intro l _;exact Nat.zero_le _
  |succ n b=>
   intro l h;obtain⟨X,Y,e⟩:=append_of_mem (h n O1)
   have:=b (X++Y) λ i w=>by
    have:=h i O1;rw[e]at this;simp only[mem_append,mem_cons]at this ⊢;rcases this with h|h|h
    .exact .inl h
    .omega
    .exact .inr h
   rw[e];simp at this ⊢;omega
 exact key n l h
def Bk.A_n(b:Bk):b.A.length=b.cs.length:=by simp[Bk.A]
def Bk.Ok.ord{b:Bk}(h:b.Ok):∃o,b.Ord o:=by
 obtain⟨L,z,w⟩:=F9 h.lo;rw[b.A_n]at w;refine⟨L.reverse,?_,λ i B=>by rw[<- b.A_n];exact z.low i (by simpa using B),(by unfold Nodup;rw[pairwise_reverse];exact z.nod.imp Ne.symm),λ X i Y e k E=>?_⟩
 .rw[length_reverse];have G:=Hj z.nod (n:=b.cs.length) λ x F=>by rw[<- b.A_n];exact z.low x F
  have H:=Zsp w;omega
 .have e':L=Y.reverse++i::X.reverse:=by
   rw[<- reverse_reverse L,e];simp
  have:=z.aft _ _ _ e' k E;simpa using this
def Bk.Ord.has{b:Bk}{o:List Nat}(h:b.Ord o){i:Nat}(z:i<b.cs.length):i∈o:=by
 apply Classical.byContradiction;intro B;have w:(i::o).Nodup:=nodup_cons.2 ⟨B,h.nod⟩
 have:=Hj w (n:=b.cs.length) λ x e=>by
  rcases mem_cons.1 e with rfl|e
  .exact z
  .exact h.low x e
 rw[length_cons,h.len]at this;omega
def Bk.Ok.all_pos{b:Bk}(h:b.Ok):0<b.all.length:=by
 obtain⟨o,e⟩:=h.ord;exact length_pos_of_mem (Bk.mem_all_iff.2 e)
def Bk.stp_len(b:Bk)(x:List Bool×List Bool)(i:Nat):(b.stp x i).1.length=x.1.length/\(b.stp x i).2.length=x.2.length:=by
 unfold Bk.stp;split <;> simp
def Bk.end_len(b:Bk)(o:List Nat):(b.ends o).1.length=b.rs.length/\(b.ends o).2.length=b.cs.length:=by
 have key:∀(o:List Nat)(x:List Bool×List Bool),(o.foldl b.stp x).1.length=x.1.length/\(o.foldl b.stp x).2.length=x.2.length:=by
  intro o
  induction o with
  |nil=>exact λ x=>⟨rfl,rfl⟩
  |cons i o w=>
   intro x;have e:=w (b.stp x i);have h:=b.stp_len x i;exact⟨e.1.trans h.1,e.2.trans h.2⟩
 have:=key o b.ini;simpa[Bk.ends,Bk.ini]using this
def Q2q{l:List Bool}{i j:Nat}{v:Bool}:(l.set i v).getD j false=if i=j/\i<l.length then v else l.getD j false:=by
 simp only[getD_eq_getElem?_getD,getElem?_set];by_cases e:i=j
 .subst e;by_cases h:i<l.length
  .simp[h]
  .simp[h]
 .simp[e]
def Bk.Ord.split{b:Bk}{o:List Nat}(h:b.Ord o){i:Nat}(e:i<b.cs.length):∃X Y,o=X++i::Y:=append_of_mem (h.has e)
def Q7v{b all:Nat}:Hy b all=1↔b=all:=by
 unfold Hy;split
 .rename_i h;simp[h]
 .rename_i h;split
  .simp[h]
  .simp[h]
def Q7w{b all:Nat}(e:0<all):Hy b all=2↔b=0:=by
 unfold Hy;split
 .rename_i h;constructor
  .intro x;cases x
  .intro x;omega
 .split
  .rename_i h;simp[h]
  .rename_i h;simp[h]
def Qam(b all:Nat):Hy b all=0\/Hy b all=1\/Hy b all=2:=by
 unfold Hy;split
 .exact .inr (.inl rfl)
 .split
  .exact .inr (.inr rfl)
  .exact .inl rfl
def Bk.fatC_one(b:Bk){i:Nat}:b.fatC i=1↔∀o,b.Ord o->(b.ends o).2.getD i false=true:=by
 unfold Bk.fatC;rw[Q7v,countP_eq_length];exact⟨λ h o e=>h o (Bk.mem_all_iff.2 e),λ h o e=>h o (Bk.mem_all_iff.1 e)⟩
def Bk.fatR_one(b:Bk){i:Nat}:b.fatR i=1↔∀o,b.Ord o->(b.ends o).1.getD i false=true:=by
 unfold Bk.fatR;rw[Q7v,countP_eq_length];exact⟨λ h o e=>h o (Bk.mem_all_iff.2 e),λ h o e=>h o (Bk.mem_all_iff.1 e)⟩
def Bk.fatC_two(b:Bk)(h:b.Ok){i:Nat}:b.fatC i=2↔∀o,b.Ord o->(b.ends o).2.getD i false=false:=by
 unfold Bk.fatC;rw[Q7w h.all_pos,countP_eq_zero];exact⟨λ h o e=>by simpa using h o (Bk.mem_all_iff.2 e),λ h o e=>by simpa using h o (Bk.mem_all_iff.1 e)⟩
def Bk.fatR_two(b:Bk)(h:b.Ok){i:Nat}:b.fatR i=2↔∀o,b.Ord o->(b.ends o).1.getD i false=false:=by
 unfold Bk.fatR;rw[Q7w h.all_pos,countP_eq_zero];exact⟨λ h o e=>by simpa using h o (Bk.mem_all_iff.2 e),λ h o e=>by simpa using h o (Bk.mem_all_iff.1 e)⟩
def Bk.nexts(b:Bk)(o:List Nat):List Nat:=(range b.cs.length).filter λ i=>b.can o i
def Bk.pickO(b:Bk)(p:List Nat):Nat->List Nat->List Nat
 |0,o=>o
 |k+1,o=>b.pickO p k (o++[(b.nexts o).getD (p.getD o.length 0 % (b.nexts o).length) 0])
structure Bk.Beg(b:Bk)(o:List Nat):Prop where
 low:∀i∈o,i<b.cs.length
 nod:o.Nodup
 aft:∀X i Y,o=X++i::Y->∀k∈Jg b.A i,k∈X
def Bk.Beg.nil:b.Beg []:=⟨S1,.nil,λ X i Y e=>by cases X <;> cases e⟩
def Bk.Beg.le{o:List Nat}(h:b.Beg o):o.length<=b.cs.length:=Hj h.nod h.low
def Bk.Beg.snoc{o:List Nat}{i:Nat}(h:b.Beg o)(K:i<b.cs.length)(I:b.can o i=true):b.Beg (o++[i]):=by
 obtain⟨G,H⟩:=Bk.can_iff.1 I;refine⟨λ j w=>?_,?_,λ X j Y e k B=>?_⟩
 .rcases mem_append.1 w with w|w
  .exact h.low j w
  .simp at w;subst w;exact K
 .rw[nodup_append];exact⟨h.nod,S1,λ x L y E e=>by simp at E;subst E;subst e;exact G L⟩
 .rcases eq_nil_or_concat Y with rfl|⟨z,y,rfl⟩
  .obtain⟨rfl,e2⟩:=append_inj' e S1;cases e2;exact H k B
  .have e':o++[i]=(X++j::z)++[y]:=by rw[e];simp
   obtain⟨F,-⟩:=append_inj' e' S1;exact h.aft X j z F k B
def Bk.Beg.next{o:List Nat}(K:b.Ok)(h:b.Beg o)(M:o.length<b.cs.length):0<(b.nexts o).length:=by
 obtain⟨f,I⟩:=K.ord
 have H:∃i∈f,i∉o:=by
  apply Classical.byContradiction;intro N
  have F:∀i,i<b.cs.length->i∈o:=λ i z=>by
   apply Classical.byContradiction;intro B;exact N ⟨i,I.has z,B⟩
  have:=Zsp F;omega
 have w:∃X i Y,f=X++i::Y/\i∉o/\∀k∈X,k∈o:=by
  have key:∀(Y X:List Nat),f=X++Y->(∀k∈X,k∈o)->(∃i∈Y,i∉o)->∃X i Y,f=X++i::Y/\i∉o/\∀k∈X,k∈o:=by
   intro Y
   induction Y with
   |nil=>rintro X _ _⟨i,z,-⟩;cases z
   |cons y Y P=>
    rintro X e G⟨i,z,B⟩;by_cases L:y∈o
    .refine P (X++[y]) (by rw[e];simp) (λ k E=>?_) ?_
     .rcases mem_append.1 E with E|E
      .exact G k E
      .simp at E;subst E;exact L
     .rcases mem_cons.1 z with rfl|z
      .exact absurd L B
      .exact⟨i,z,B⟩
    .exact⟨X,y,Y,e,L,G⟩
  exact key f [] S1 S1 H
 obtain⟨X,i,Y,e,z,G⟩:=w;refine length_pos_of_mem (a:=i) (mem_filter.2 ⟨mem_range.2 (I.low i (by rw[e];simp)),?_⟩);exact Bk.can_iff.2 ⟨z,λ k E=>G k (I.aft X i Y e k E)⟩
def Bk.nexts_at{o:List Nat}{q:Nat}(h:q<(b.nexts o).length):(b.nexts o).getD q 0<b.cs.length/\b.can o ((b.nexts o).getD q 0)=true:=by
 have z:(b.nexts o).getD q 0∈b.nexts o:=by
  rw[getD_eq_getElem?_getD,getElem?_eq_getElem h];exact getElem_mem h
 obtain⟨e,w⟩:=mem_filter.1 z;exact⟨mem_range.1 e,w⟩
def Bk.pick_beg(e:b.Ok)(p:List Nat):∀(k:Nat)(o:List Nat),b.Beg o->o.length+k<=b.cs.length->b.Beg (b.pickO p k o)/\(b.pickO p k o).length=o.length+k
 |0,o,h,_=>⟨h,rfl⟩
 |k+1,o,h,F=>by
  have E:=h.next e O1;obtain⟨w,z⟩:=Bk.nexts_at (Nat.mod_lt (p.getD o.length 0) E);have:=Bk.pick_beg e p k _ (h.snoc w z) S3;refine⟨this.1,?_⟩;have B:=this.2;simp only[length_append,length_singleton]at B;show(b.pickO p k _).length=_;omega
def Bk.pick_ord(h:b.Ok)(p:List Nat):b.Ord (b.pickO p b.cs.length []):=by
 obtain⟨e,w⟩:=Bk.pick_beg h p b.cs.length [] Bk.Beg.nil S1;exact⟨by simpa using w,e.low,e.nod,e.aft⟩
def Bk.Ord.flaw{o:List Nat}(h:b.Ord o):b.ordF (o.map λ(k:Nat)=>(k:Int))=0:=by
 have key:∀(q p:List Nat),o=p++q->b.ordL p (q.map λ(k:Nat)=>(k:Int))=0:=by
  intro q
  induction q with
  |nil=>intro p _;rfl
  |cons i q G=>
   intro p e;have H:i<b.cs.length:=h.low i (by rw[e];simp);have z:=h.nod;rw[e,nodup_append]at z;have w:i∉p:=λ F=>z.2.2 i F i (mem_cons_self ..) rfl;have B:=h.aft p i q e;show(if Go.TM.Ws (i:Int) 0 (b.nc-1)then(if(i:Int).toNat∈p then 5 else if(Jg b.A (i:Int).toNat).all (λ k=>p.contains k)then b.ordL (p++[(i:Int).toNat]) (q.map λ(k:Nat)=>(k:Int))else 7)else 6)=0;rw[if_pos (by unfold Bk.nc;simp[Ws];omega),Int.toNat_natCast,if_neg w,if_pos (by rw[all_eq_true];intro k E;simpa using B k E)];exact G (p++[i]) (by rw[e];simp)
 unfold Bk.ordF;rw[if_neg (by rw[length_map,h.len];simp)];exact key o [] rfl
def Bk.agC(e:b.Ok){o:List Nat}(w:b.Ord o)(i:Nat):(b.fatC i==0|| ((b.fatC i==1)==(b.ends o).2.getD i false))=true:=by
 rcases Qam (b.all.countP λ o=>(b.ends o).2.getD i false) b.all.length with h|h|h
 .have h:b.fatC i=0:=h;rw[h];rfl
 .have h:b.fatC i=1:=h;have:=b.fatC_one.1 h o w;rw[h,this];rfl
 .have h:b.fatC i=2:=h;have:=(b.fatC_two e).1 h o w;rw[h,this];rfl
def Bk.agR(e:b.Ok){o:List Nat}(w:b.Ord o)(i:Nat):(b.fatR i==0|| ((b.fatR i==1)==(b.ends o).1.getD i false))=true:=by
 rcases Qam (b.all.countP λ o=>(b.ends o).1.getD i false) b.all.length with h|h|h
 .have h:b.fatR i=0:=h;rw[h];rfl
 .have h:b.fatR i=1:=h;have:=b.fatR_one.1 h o w;rw[h,this];rfl
 .have h:b.fatR i=2:=h;have:=(b.fatR_two e).1 h o w;rw[h,this];rfl
end Go.TM
namespace Go.TM
variable{b o:Bk}
structure Bk.Turn(b o:Bk)(p q:Nat->Nat):Prop where
 rs:o.rs=b.rs
 n:o.cs.length=b.cs.length
 pl:∀i,i<b.cs.length->p i<b.cs.length
 ql:∀i,i<b.cs.length->q i<b.cs.length
 qp:∀i,i<b.cs.length->q (p i)=i
 pq:∀i,i<b.cs.length->p (q i)=i
 nm:∀i,i<b.cs.length->(o.cas i).nm=(b.cas (p i)).nm
 ag:∀i,i<b.cs.length->(o.cas i).ag=(b.cas (p i)).ag
 gs:∀i,i<b.cs.length->(o.cas i).gs=(b.cas (p i)).gs
 af:∀i,i<b.cs.length->∀k,k<b.cs.length->(k∈Jg o.A i↔p k∈Jg b.A (p i))
def Bk.Turn.symm{p q:Nat->Nat}(h:b.Turn o p q):o.Turn b q p:=by
 have e:=h.n;refine⟨h.rs.symm,h.n.symm,?_,?_,?_,?_,?_,?_,?_,?_⟩ <;> rw[e]
 .exact h.ql
 .exact h.pl
 .exact h.pq
 .exact h.qp
 .intro i hi;rw[h.nm _ (h.ql i hi),h.pq i hi]
 .intro i hi;rw[h.ag _ (h.ql i hi),h.pq i hi]
 .intro i hi;rw[h.gs _ (h.ql i hi),h.pq i hi]
 .intro i hi k hk;rw[h.af _ (h.ql i hi) _ (h.ql k hk),h.pq i hi,h.pq k hk]
def Bk.Turn.ends{p q:Nat->Nat}(h:b.Turn o p q):∀(n:Nat)(l:List Nat),l.length=n->(∀i∈l,i<b.cs.length)->(o.ends l).1=(b.ends (l.map p)).1/\∀i,i<b.cs.length->(o.ends l).2.getD i false=(b.ends (l.map p)).2.getD (p i) false:=by
 intro n
 induction n with
 |zero=>
  intro l B _;rw[length_eq_zero_iff]at B;subst B;refine⟨by simp[Bk.ends,Bk.ini,h.rs],λ i w=>?_⟩;simp[Bk.ends,Bk.ini,getD_eq_getElem?_getD,getElem?_replicate,h.n,w,h.pl i w]
 |succ n I=>
  intro l B z
  obtain⟨l',i,rfl⟩:∃l' i,l=l'++[i]:=by
   rcases eq_nil_or_concat l with e|⟨q,i,e⟩
   .rw[e]at B;cases B
   .exact⟨q,i,by simpa using e⟩
  obtain⟨G,H⟩:=I l' (by simpa using B) λ j E=>z j (by simp[E]);have w:=z i S1;rw[map_append,map_singleton,o.ends_snoc,b.ends_snoc];unfold Bk.stp;rw[h.gs i w,h.ag i w,G];by_cases F:NN (b.cas (p i)).gs (b.ends (l'.map p)).1=true
  .rw[if_pos F,if_pos F];refine⟨rfl,λ j E=>?_⟩;show((o.ends l').2.set i true).getD j false=((b.ends (l'.map p)).2.set (p i) true).getD (p j) false;rw[Q2q,Q2q,(o.end_len l').2,(b.end_len _).2,h.n,H j E];by_cases e:i=j
   .subst e;simp[w,h.pl i w]
   .have:p i≠p j:=λ e'=>e (by rw[<- h.qp i w,e',h.qp j E]);simp[e,this]
  .rw[if_neg F,if_neg F];exact⟨G,H⟩
def Qpk{nameB:ByteArray->Bool}{nr nc:Int}:∀{l:List Cs}{seen:List ByteArray},WM nameB nr nc seen l=0 ↔
  (∀c∈l,nameB c.nm=true/\Ws c.ag 0 (nr-1)=true/\ZY nr c.gs=0/\J3 nc none c.af=0/\c.nm∉seen)/\(l.map (·.nm)).Nodup
 |[],seen=>by simp[WM]
 |c::l,seen=>by
  have L:=Qpk (nameB:=nameB) (nr:=nr) (nc:=nc) (l:=l) (seen:=seen++[c.nm]);simp only[WM,mem_cons,map_cons,nodup_cons,forall_eq_or_imp];by_cases B:nameB c.nm=true
  .by_cases h2:QQ seen c.nm=true
   .rw[if_pos B,if_pos h2];have:=sq.1 h2;simp[this]
   .have h2':c.nm∉seen:=λ h=>h2 (sq.2 h);rw[if_pos B,if_neg h2];by_cases w:Ws c.ag 0 (nr-1)=true
    .by_cases h4:ZY nr c.gs=0
     .by_cases h5:J3 nc none c.af=0
      .rw[if_pos w,if_pos h4,if_pos h5,L];simp only[B,h2',w,h4,h5,true_and,not_false_iff];constructor
       .rintro⟨a1,a2⟩;refine⟨λ d z=>?_,λ K=>?_,a2⟩
        .obtain⟨E,F,G,H,I⟩:=a1 d z;exact⟨E,F,G,H,λ b=>I (by simp[b])⟩
        .obtain⟨d,z,e⟩:=mem_map.1 K;exact(a1 d z).2.2.2.2 (by simp[e])
       .rintro⟨a1,a2,a3⟩;refine⟨λ d z=>?_,a3⟩;obtain⟨E,F,G,H,I⟩:=a1 d z;refine⟨E,F,G,H,λ b=>?_⟩;rcases mem_append.1 b with b|b
        .exact I b
        .simp at b;exact a2 (mem_map.2 ⟨d,z,b⟩)
      .rw[if_pos w,if_pos h4,if_neg h5];simp[h5]
     .rw[if_pos w,if_neg h4];simp[h4]
    .rw[if_neg w];simp[w]
  .rw[if_neg B];simp[B]
def Bk.cas_ex{c:Cs}(h:c∈b.cs):∃i,i<b.cs.length/\b.cas i=c:=by
 obtain⟨i,w,e⟩:=mem_iff_getElem.1 h;exact⟨i,w,by simp[Bk.cas,getD_eq_getElem?_getD,w,e]⟩
def Bk.mem_cas{i:Nat}(e:i<b.cs.length):b.cas i∈b.cs:=by
 unfold Bk.cas;rw[getD_eq_getElem?_getD,getElem?_eq_getElem e];exact getElem_mem e
def Bk.Turn.flaw{nameB:ByteArray->Bool}{p q:Nat->Nat}(F:b.flaw nameB=0)(h:b.Turn o p q)(H:∀i,i<b.cs.length->J3 b.nc none (o.cas i).af=0):o.flaw nameB=0:=by
 have Q:=Bk.ok_of F
 have B:∀i,i<o.A.length->∀k∈Jg o.A i,k<o.A.length:=λ i w k z=>by
  rw[o.A_n]at w ⊢;have e:Jg o.A i=(o.cas i).af.map Int.toNat:=by simp[Jg,Bk.A,Bk.cas,getD_eq_getElem?_getD,w]
  rw[e]at z;obtain⟨n,Z,rfl⟩:=mem_map.1 z;have:=O8 (H i (h.n▸w)) n Z;rw[h.n];unfold Bk.nc at this;omega
 have W:Wp o.A=false:=by
  obtain⟨ρ,hρ⟩:=uI Q.lo;refine gZ B (λ i=>ρ (p i)) λ i w k z=>?_;have G:=B i w k z;rw[o.A_n,h.n]at w G;exact hρ (p i) (by rw[b.A_n];exact h.pl i w) (p k) ((h.af i w k G).1 z)
 unfold Bk.flaw at F ⊢;have S:o.rsF nameB=b.rsF nameB:=by unfold Bk.rsF;rw[h.rs]
 rw[S];split at F
 .rename_i h1;rw[if_pos h1];split at F
  .rename_i h2
   have K:o.csF nameB=0:=by
    unfold Bk.csF at h2 ⊢;rw[h.n];split at h2
    .cases h2
    .rename_i h5;rw[if_neg h5,Qpk];obtain⟨T,I⟩:=Qpk.1 h2;have P:o.nr=b.nr:=by unfold Bk.nr;rw[h.rs]
     have M:o.nc=b.nc:=by unfold Bk.nc;rw[h.n]
     rw[P,M];refine⟨λ c X=>?_,?_⟩
     .obtain⟨i,w,rfl⟩:=Bk.cas_ex X;rw[h.n]at w;obtain⟨x1,x2,x3,-,-⟩:=T _ (Bk.mem_cas (h.pl i w));rw[h.nm i w,h.ag i w,h.gs i w];exact⟨x1,x2,x3,H i w,S1⟩
     .rw[nodup_iff_pairwise_ne,pairwise_iff_getElem]at I ⊢;simp only[length_map,getElem_map]at I ⊢;intro i j w E Y e;have U:(o.cas i).nm=(o.cs[i]).nm:=by simp[Bk.cas,getD_eq_getElem?_getD,w]
      have V:(o.cas j).nm=(o.cs[j]).nm:=by simp[Bk.cas,getD_eq_getElem?_getD,E]
      rw[<- U,<- V]at e;rw[h.n]at w E;rw[h.nm i w,h.nm j E]at e
      have N:p i≠p j:=λ e'=>by
       have:=h.qp i w;rw[e',h.qp j E]at this;omega
      have ci:∀k(z:k<b.cs.length),b.cas k=b.cs[k]:=λ k z=>by simp[Bk.cas,getD_eq_getElem?_getD,z]
      rw[ci _ (h.pl i w),ci _ (h.pl j E)]at e;rcases Nat.lt_or_gt_of_ne N with L|L
      .exact I (p i) (p j) (h.pl i w) (h.pl j E) L e
      .exact I (p j) (p i) (h.pl j E) (h.pl i w) L e.symm
   rw[if_pos K,if_neg (by simp[W])]
  .rename_i h2;exact absurd F h2
 .rename_i h1;exact absurd F h1
end Go.TM
namespace Go.TM
variable{b:Bk}
def Bk.flaw_zero{nameB:ByteArray->Bool}:b.flaw nameB=0↔b.rsF nameB=0/\b.csF nameB=0/\Wp b.A=false:=by
 unfold Bk.flaw;by_cases e:b.rsF nameB=0
 .by_cases h2:b.csF nameB=0
  .rw[if_pos e,if_pos h2];cases Wp b.A <;> simp[e,h2]
  .rw[if_pos e,if_neg h2];simp[h2]
 .rw[if_neg e];simp[e]
def Bk.csF_zero{nameB:ByteArray->Bool}:b.csF nameB=0↔b.cs.length<=5/\(∀c∈b.cs,nameB c.nm=true/\Ws c.ag 0 (b.nr-1)=true/\ZY b.nr c.gs=0/\J3 b.nc none c.af=0)/\(b.cs.map (·.nm)).Nodup:=by
 unfold Bk.csF;by_cases h:b.cs.length > 5
 .rw[if_pos h];constructor
  .intro x;cases x
  .rintro⟨x,-⟩;omega
 .rw[if_neg h,Qpk];constructor
  .rintro⟨h1,h2⟩;exact⟨O1,λ c e=>let ⟨x1,x2,x3,x4,_⟩:=h1 c e;⟨x1,x2,x3,x4⟩,h2⟩
  .rintro⟨-,h1,h2⟩;exact⟨λ c e=>let ⟨x1,x2,x3,x4⟩:=h1 c e;⟨x1,x2,x3,x4,S1⟩,h2⟩
def Bk.cas_all(b:Bk):(range b.cs.length).map b.cas=b.cs:=by
 apply ext_getElem?;intro i;by_cases h:i<b.cs.length
 .simp[h,Bk.cas,getD_eq_getElem?_getD]
 .simp[h]
structure Bk.Free(b:Bk)(i k:Nat):Prop where
 gi:∀g∈(b.cas i).gs,(b.cas k).ag∉g
 gk:∀g∈(b.cas k).gs,(b.cas i).ag∉g
 ai:(k:Int)∉(b.cas i).af
 ak:(i:Int)∉(b.cas k).af
end Go.TM

