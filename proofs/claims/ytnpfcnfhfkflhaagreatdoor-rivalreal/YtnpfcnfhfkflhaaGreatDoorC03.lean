/- Lemmas. No conditions. -/
import Derived.Test.YtnpfcnfhfkflhaaGreatDoorC00
set_option linter.all false
open List
namespace Go.TM
variable{b:Bk}
def Bk.okTo(b:Bk):List Nat->List Nat->Bool
 |_,[]=>true
 |p,i::q=>decide (i<b.cs.length)&&b.can p i&&b.okTo (p++[i]) q
def Bk.mem_ords:∀(k:Nat)(p o:List Nat),o∈b.ords k p↔∃q,o=p++q/\q.length=k/\b.okTo p q=true
 |0,p,o=>by
  simp only[Bk.ords,mem_singleton];constructor
  .rintro rfl;exact⟨[],S1,rfl,rfl⟩
  .rintro⟨q,rfl,a,-⟩;rw[length_eq_zero_iff]at a;simp[a]
 |k+1,p,o=>by
  simp only[Bk.ords,mem_flatMap,mem_range];constructor
  .rintro⟨i,hi,ho⟩;split at ho
   .rename_i hc;obtain⟨q,rfl,a,c⟩:=(Bk.mem_ords k (p++[i]) o).1 ho;exact⟨i::q,S1,by simp[a],by simp[Bk.okTo,hi,hc,c]⟩
   .cases ho
  .rintro⟨q,rfl,a,c⟩;cases q with
   |nil=>cases a
   |cons i q=>
    simp only[Bk.okTo,Bool.and_eq_true,decide_eq_true_eq]at c;refine⟨i,c.1.1,?_⟩;rw[if_pos c.1.2];exact(Bk.mem_ords k (p++[i]) _).2 ⟨q,S1,by simpa using a,c.2⟩
def Bk.mem_all{o:List Nat}:o∈b.all↔o.length=b.cs.length/\b.okTo [] o=true:=by
 unfold Bk.all;rw[Bk.mem_ords];constructor
 .rintro⟨q,rfl,hq,hk⟩;exact⟨hq,hk⟩
 .rintro⟨h1,h2⟩;exact⟨o,rfl,h1,h2⟩
def Bk.okTo_iff:∀(q p:List Nat),b.okTo p q=true↔∀X i Y,q=X++i::Y->i<b.cs.length/\b.can (p++X) i=true
 |[],p=>by simp[Bk.okTo]
 |i::q,p=>by
  simp only[Bk.okTo,Bool.and_eq_true,decide_eq_true_eq];rw[Bk.okTo_iff q (p++[i])];constructor
  .rintro⟨⟨h1,h2⟩,h3⟩ X j Y e;cases X with
   |nil=>
    simp only[nil_append,List.cons.injEq]at e;obtain⟨rfl,rfl⟩:=e;simpa using⟨h1,h2⟩
   |cons x X=>
    simp only[cons_append,List.cons.injEq]at e;obtain⟨rfl,rfl⟩:=e;have:=h3 X j Y rfl;simpa using this
  .intro h;refine⟨by simpa using h [] i q rfl,λ X j Y e=>?_⟩;have:=h (i::X) j Y (by simp[e]);simpa using this
def Bk.can_iff{o:List Nat}{i:Nat}:b.can o i=true↔i∉o/\∀k∈Je b.A i,k∈o:=by
 simp[Bk.can]
structure Bk.Ord(b:Bk)(o:List Nat):Prop where
 len:o.length=b.cs.length
 low:∀i∈o,i<b.cs.length
 nod:o.Nodup
 aft:∀X i Y,o=X++i::Y->∀k∈Je b.A i,k∈X
def Qp5:∀{o:List Nat},(∀X i Y,o=X++i::Y->i∉X)->o.Nodup:=by
 intro o h;rw[nodup_iff_pairwise_ne,pairwise_iff_getElem];intro i j b c a e;refine h (o.take j) o[j] (o.drop (j+1)) (by rw[getElem_cons_drop,take_append_drop]) ?_;rw[<- e,mem_take_iff_getElem];exact⟨i,O1,rfl⟩
def Bk.mem_all_iff{o:List Nat}:o∈b.all↔b.Ord o:=by
 rw[Bk.mem_all,Bk.okTo_iff];simp only[nil_append];constructor
 .rintro⟨h1,h2⟩;refine⟨h1,λ i c=>?_,Qp5 λ X i Y e=>(Bk.can_iff.1 (h2 X i Y e).2).1,λ X i Y e=>(Bk.can_iff.1 (h2 X i Y e).2).2⟩;obtain⟨X,Y,e⟩:=append_of_mem c;exact(h2 X i Y e).1
 .intro h;refine⟨h.len,λ X i Y e=>⟨h.low i (by rw[e];simp),Bk.can_iff.2 ⟨λ d=>?_,h.aft X i Y e⟩⟩⟩;have a:=h.nod;rw[e]at a;exact(nodup_append.1 a).2.2 i d i (mem_cons_self ..) rfl
def Q4w{n:Nat}{l:List Nat}(h:∀i,i<n->i∈l):n<=l.length:=by
 have a:∀(n:Nat)(l:List Nat),(∀i,i<n->i∈l)->n<=l.length:=by
  intro n
  induction n with
  |zero=>intro l _;exact Nat.zero_le _
  |succ n b=>
   intro l h;obtain⟨X,Y,e⟩:=append_of_mem (h n O1)
   have:=b (X++Y) λ i c=>by
    have:=h i O1;rw[e]at this;simp only[mem_append,mem_cons]at this ⊢;rcases this with h|h|h
    .exact .inl h
    .omega
    .exact .inr h
   rw[e];simp at this ⊢;omega
 exact a n l h
def Bk.A_n(b:Bk):b.A.length=b.cs.length:=by simp[Bk.A]
def Bk.Ok.ord{b:Bk}(h:b.Ok):∃o,b.Ord o:=by
 obtain⟨L,c,a⟩:=DM h.lo;rw[b.A_n]at a;refine⟨L.reverse,?_,λ i d=>by rw[<- b.A_n];exact c.low i (by simpa using d),(by unfold Nodup;rw[pairwise_reverse];exact c.nod.imp Ne.symm),λ X i Y e k f=>?_⟩
 .rw[length_reverse];have j:=H7 c.nod (n:=b.cs.length) λ x g=>by rw[<- b.A_n];exact c.low x g
  have l:=Q4w a;omega
 .have e':L=Y.reverse++i::X.reverse:=by
   rw[<- reverse_reverse L,e];simp
  have:=c.aft _ _ _ e' k f;simpa using this
def Bk.Ord.has{b:Bk}{o:List Nat}(h:b.Ord o){i:Nat}(d:i<b.cs.length):i∈o:=by
 apply Classical.byContradiction;intro e;have c:(i::o).Nodup:=nodup_cons.2 ⟨e,h.nod⟩
 have:=H7 c (n:=b.cs.length) λ x a=>by
  rcases mem_cons.1 a with rfl|a
  .exact d
  .exact h.low x a
 rw[length_cons,h.len]at this;omega
def Bk.Ok.all_pos{b:Bk}(h:b.Ok):0<b.all.length:=by
 obtain⟨o,a⟩:=h.ord;exact length_pos_of_mem (Bk.mem_all_iff.2 a)
def Bk.stp_len(b:Bk)(x:List Bool×List Bool)(i:Nat):(b.stp x i).1.length=x.1.length/\(b.stp x i).2.length=x.2.length:=by
 unfold Bk.stp;split <;> simp
def Bk.end_len(b:Bk)(o:List Nat):(b.ends o).1.length=b.rs.length/\(b.ends o).2.length=b.cs.length:=by
 have a:∀(o:List Nat)(x:List Bool×List Bool),(o.foldl b.stp x).1.length=x.1.length/\(o.foldl b.stp x).2.length=x.2.length:=by
  intro o
  induction o with
  |nil=>exact λ x=>⟨rfl,rfl⟩
  |cons i o e=>
   intro x;have c:=e (b.stp x i);have d:=b.stp_len x i;exact⟨c.1.trans d.1,c.2.trans d.2⟩
 have:=a o b.ini;simpa[Bk.ends,Bk.ini]using this
def Qbj{l:List Bool}{i j:Nat}{v:Bool}:(l.set i v).getD j false=if i=j/\i<l.length then v else l.getD j false:=by
 simp only[getD_eq_getElem?_getD,getElem?_set];by_cases e:i=j
 .subst e;by_cases h:i<l.length
  .simp[h]
  .simp[h]
 .simp[e]
def Bk.end_facts(b:Bk)(h:b.Ok):∀(n:Nat)(o:List Nat),o.length=n->o.Nodup->(∀i∈o,i<b.cs.length) ->
  (∀i,i∉o->(b.ends o).2.getD i false=false)/\∀r,r<b.rs.length->(b.ends o).1.getD r false=!(o.any λ i=>(b.ends o).2.getD i false&&(b.cas i).ag.toNat==r):=by
 intro n
 induction n with
 |zero=>
  intro o c _ _;rw[length_eq_zero_iff]at c;subst c;refine⟨λ i _=>?_,λ r g=>?_⟩
  .simp only[Bk.ends,Bk.ini,foldl_nil,getD_eq_getElem?_getD,getElem?_replicate];split <;> rfl
  .simp[Bk.ends,Bk.ini,getD_eq_getElem?_getD,getElem?_replicate,g]
 |succ n B=>
  intro o c s v
  obtain⟨q,i,rfl⟩:∃q i,o=q++[i]:=by
   rcases eq_nil_or_concat o with e|⟨q,i,e⟩
   .rw[e]at c;cases c
   .exact⟨q,i,by simpa using e⟩
  rw[nodup_append]at s;have d:i∉q:=λ m=>s.2.2 i m i (mem_singleton.2 rfl) rfl;have u:i<b.cs.length:=v i S1;obtain⟨l,t⟩:=B q (by simpa using c) s.1 λ j a=>v j (by simp[a]);obtain⟨C,D⟩:=b.end_len q
  have y:(b.cas i).ag.toNat<b.rs.length:=by
   have m:b.cas i∈b.cs:=by
    unfold Bk.cas;rw[getD_eq_getElem?_getD,getElem?_eq_getElem u];exact getElem_mem u
   have:=h.ag _ m;unfold Bk.nr at this;omega
  rw[b.ends_snoc];unfold Bk.stp;by_cases w:Iq (b.cas i).gs (b.ends q).1=true
  .rw[if_pos w];refine⟨λ j a=>?_,λ r g=>?_⟩
   .simp only[mem_append,mem_singleton,not_or]at a;show((b.ends q).2.set i true).getD j false=false;rw[Qbj,if_neg λ e=>a.2 e.1.symm];exact l j a.1
   .show((b.ends q).1.set (b.cas i).ag.toNat false).getD r false=!((q++[i]).any λ j=>((b.ends q).2.set i true).getD j false&&(b.cas j).ag.toNat==r);rw[Qbj,any_append]
    have z:(q.any λ j=>((b.ends q).2.set i true).getD j false&&(b.cas j).ag.toNat==r)=q.any λ j=>(b.ends q).2.getD j false&&(b.cas j).ag.toNat==r:=by
     have f:∀j∈q,((b.ends q).2.set i true).getD j false=(b.ends q).2.getD j false:=λ j a=>by rw[Qbj,if_neg (λ e:i=j/\_=>d (e.1▸a))]
     rw[Bool.eq_iff_iff,any_eq_true,any_eq_true];constructor
     .rintro⟨j,a,hx⟩;rw[f j a]at hx;exact⟨j,a,hx⟩
     .rintro⟨j,a,hx⟩;rw[<- f j a]at hx;exact⟨j,a,hx⟩
    rw[z];by_cases e:(b.cas i).ag.toNat=r
    .rw[if_pos ⟨e,O1⟩];have A:((b.ends q).2.set i true).getD i false=true:=by rw[Qbj,if_pos ⟨rfl,O1⟩]
     rw[any_cons,A,e];simp
    .rw[if_neg λ x=>e x.1,t r g,any_cons,beq_false_of_ne e];simp
  .rw[if_neg w];refine⟨λ j a=>l j λ x=>a (by simp[x]),λ r g=>?_⟩;rw[t r g,any_append];rw[any_cons,l i d];simp
def Bk.end_keep(b:Bk):∀(Y X:List Nat)(i:Nat),i∉Y->(b.ends (X++Y)).2.getD i false=(b.ends X).2.getD i false:=by
 intro Y
 induction Y with
 |nil=>intro X i _;simp
 |cons j Y c=>
  intro X i a;have e:X++j::Y=(X++[j])++Y:=S1
  rw[e,c (X++[j]) i λ h=>a (by simp[h]),b.ends_snoc];unfold Bk.stp;split
  .show((b.ends X).2.set j true).getD i false=_;rw[Qbj,if_neg λ e=>a (by simp[e.1])]
  .rfl
def Bk.end_won(b:Bk)(h:b.Ok){o X Y:List Nat}{i:Nat}(f:b.Ord o)(e:o=X++i::Y):(b.ends o).2.getD i false=Iq (b.cas i).gs (b.ends X).1:=by
 have a:=f.nod;rw[e,nodup_append]at a;have c:i∉X:=λ m=>a.2.2 i m i (mem_cons_self ..) rfl;have d:i∉Y:=(nodup_cons.1 a.2.1).1;have n:i<b.cs.length:=f.low i (by rw[e];simp);have g:o=(X++[i])++Y:=by rw[e];simp
 rw[g,b.end_keep Y (X++[i]) i d,b.ends_snoc];unfold Bk.stp;obtain⟨-,q⟩:=b.end_len X;split
 .rename_i hw;show((b.ends X).2.set i true).getD i false=_;rw[Qbj,if_pos ⟨rfl,O1⟩,hw]
 .rename_i hw;have:=(b.end_facts h X.length X rfl a.1 λ j l=>f.low j (by rw[e];simp[l])).1 i c;rw[this];simpa using hw
def Bk.Ord.split{b:Bk}{o:List Nat}(h:b.Ord o){i:Nat}(a:i<b.cs.length):∃X Y,o=X++i::Y:=append_of_mem (h.has a)
def Qqa{a all:Nat}:H9 a all=1↔a=all:=by
 unfold H9;split
 .rename_i h;simp[h]
 .rename_i h;split
  .simp[h]
  .simp[h]
def Qvo{a all:Nat}(b:0<all):H9 a all=2↔a=0:=by
 unfold H9;split
 .rename_i h;constructor
  .intro x;cases x
  .intro x;omega
 .split
  .rename_i h;simp[h]
  .rename_i h;simp[h]
def Qae(a all:Nat):H9 a all=0\/H9 a all=1\/H9 a all=2:=by
 unfold H9;split
 .exact .inr (.inl rfl)
 .split
  .exact .inr (.inr rfl)
  .exact .inl rfl
def Bk.fatC_one(b:Bk){i:Nat}:b.fatC i=1↔∀o,b.Ord o->(b.ends o).2.getD i false=true:=by
 unfold Bk.fatC;rw[Qqa,countP_eq_length];exact⟨λ h o a=>h o (Bk.mem_all_iff.2 a),λ h o a=>h o (Bk.mem_all_iff.1 a)⟩
def Bk.fatR_one(b:Bk){i:Nat}:b.fatR i=1↔∀o,b.Ord o->(b.ends o).1.getD i false=true:=by
 unfold Bk.fatR;rw[Qqa,countP_eq_length];exact⟨λ h o a=>h o (Bk.mem_all_iff.2 a),λ h o a=>h o (Bk.mem_all_iff.1 a)⟩
def Bk.fatC_two(b:Bk)(h:b.Ok){i:Nat}:b.fatC i=2↔∀o,b.Ord o->(b.ends o).2.getD i false=false:=by
 unfold Bk.fatC;rw[Qvo h.all_pos,countP_eq_zero];exact⟨λ h o a=>by simpa using h o (Bk.mem_all_iff.2 a),λ h o a=>by simpa using h o (Bk.mem_all_iff.1 a)⟩
def Bk.fatR_two(b:Bk)(h:b.Ok){i:Nat}:b.fatR i=2↔∀o,b.Ord o->(b.ends o).1.getD i false=false:=by
 unfold Bk.fatR;rw[Qvo h.all_pos,countP_eq_zero];exact⟨λ h o a=>by simpa using h o (Bk.mem_all_iff.2 a),λ h o a=>by simpa using h o (Bk.mem_all_iff.1 a)⟩
def Bk.nexts(b:Bk)(o:List Nat):List Nat:=(range b.cs.length).filter λ i=>b.can o i
def Bk.pickO(b:Bk)(p:List Nat):Nat->List Nat->List Nat
 |0,o=>o
 |k+1,o=>b.pickO p k (o++[(b.nexts o).getD (p.getD o.length 0 % (b.nexts o).length) 0])
structure Bk.Beg(b:Bk)(o:List Nat):Prop where
 low:∀i∈o,i<b.cs.length
 nod:o.Nodup
 aft:∀X i Y,o=X++i::Y->∀k∈Je b.A i,k∈X
def Bk.Beg.nil:b.Beg []:=⟨S1,.nil,λ X i Y e=>by cases X <;> cases e⟩
def Bk.Beg.le{o:List Nat}(h:b.Beg o):o.length<=b.cs.length:=H7 h.nod h.low
def Bk.Beg.snoc{o:List Nat}{i:Nat}(h:b.Beg o)(q:i<b.cs.length)(n:b.can o i=true):b.Beg (o++[i]):=by
 obtain⟨l,m⟩:=Bk.can_iff.1 n;refine⟨λ j a=>?_,?_,λ X j Y e k d=>?_⟩
 .rcases mem_append.1 a with a|a
  .exact h.low j a
  .simp at a;subst a;exact q
 .rw[nodup_append];exact⟨h.nod,S1,λ x r y f e=>by simp at f;subst f;subst e;exact l r⟩
 .rcases eq_nil_or_concat Y with rfl|⟨c,y,rfl⟩
  .obtain⟨rfl,e2⟩:=append_inj' e S1;cases e2;exact m k d
  .have e':o++[i]=(X++j::c)++[y]:=by rw[e];simp
   obtain⟨g,-⟩:=append_inj' e' S1;exact h.aft X j c g k d
def Bk.Beg.next{o:List Nat}(r:b.Ok)(h:b.Beg o)(u:o.length<b.cs.length):0<(b.nexts o).length:=by
 obtain⟨f,q⟩:=r.ord
 have n:∃i∈f,i∉o:=by
  apply Classical.byContradiction;intro v
  have l:∀i,i<b.cs.length->i∈o:=λ i d=>by
   apply Classical.byContradiction;intro g;exact v ⟨i,q.has d,g⟩
  have:=Q4w l;omega
 have c:∃X i Y,f=X++i::Y/\i∉o/\∀k∈X,k∈o:=by
  have t:∀(Y X:List Nat),f=X++Y->(∀k∈X,k∈o)->(∃i∈Y,i∉o)->∃X i Y,f=X++i::Y/\i∉o/\∀k∈X,k∈o:=by
   intro Y
   induction Y with
   |nil=>rintro X _ _⟨i,d,-⟩;cases d
   |cons y Y w=>
    rintro X e m⟨i,d,g⟩;by_cases s:y∈o
    .refine w (X++[y]) (by rw[e];simp) (λ k j=>?_) ?_
     .rcases mem_append.1 j with j|j
      .exact m k j
      .simp at j;subst j;exact s
     .rcases mem_cons.1 d with rfl|d
      .exact absurd s g
      .exact⟨i,d,g⟩
    .exact⟨X,y,Y,e,s,m⟩
  exact t f [] S1 S1 n
 obtain⟨X,i,Y,e,d,m⟩:=c;refine length_pos_of_mem (a:=i) (mem_filter.2 ⟨mem_range.2 (q.low i (by rw[e];simp)),?_⟩);exact Bk.can_iff.2 ⟨d,λ k j=>m k (q.aft X i Y e k j)⟩
def Bk.nexts_at{o:List Nat}{q:Nat}(h:q<(b.nexts o).length):(b.nexts o).getD q 0<b.cs.length/\b.can o ((b.nexts o).getD q 0)=true:=by
 have d:(b.nexts o).getD q 0∈b.nexts o:=by
  rw[getD_eq_getElem?_getD,getElem?_eq_getElem h];exact getElem_mem h
 obtain⟨a,c⟩:=mem_filter.1 d;exact⟨mem_range.1 a,c⟩
def Bk.pick_beg(a:b.Ok)(p:List Nat):∀(k:Nat)(o:List Nat),b.Beg o->o.length+k<=b.cs.length->b.Beg (b.pickO p k o)/\(b.pickO p k o).length=o.length+k
 |0,o,h,_=>⟨h,rfl⟩
 |k+1,o,h,g=>by
  have f:=h.next a O1;obtain⟨c,d⟩:=Bk.nexts_at (Nat.mod_lt (p.getD o.length 0) f);have:=Bk.pick_beg a p k _ (h.snoc c d) S3;refine⟨this.1,?_⟩;have e:=this.2;simp only[length_append,length_singleton]at e;show(b.pickO p k _).length=_;omega
def Bk.pick_ord(c:b.Ok)(p:List Nat):b.Ord (b.pickO p b.cs.length []):=by
 obtain⟨a,d⟩:=Bk.pick_beg c p b.cs.length [] Bk.Beg.nil S1;exact⟨by simpa using d,a.low,a.nod,a.aft⟩
def Bk.Ord.flaw{o:List Nat}(h:b.Ord o):b.ordF (o.map λ(k:Nat)=>(k:Int))=0:=by
 have c:∀(q p:List Nat),o=p++q->b.ordL p (q.map λ(k:Nat)=>(k:Int))=0:=by
  intro q
  induction q with
  |nil=>intro p _;rfl
  |cons i q l=>
   intro p e;have m:i<b.cs.length:=h.low i (by rw[e];simp);have d:=h.nod;rw[e,nodup_append]at d;have a:i∉p:=λ j=>d.2.2 i j i (mem_cons_self ..) rfl;have f:=h.aft p i q e;show(if Go.TM.btw (i:Int) 0 (b.nc-1)then(if(i:Int).toNat∈p then 5 else if(Je b.A (i:Int).toNat).all (λ k=>p.contains k)then b.ordL (p++[(i:Int).toNat]) (q.map λ(k:Nat)=>(k:Int))else 7)else 6)=0;rw[if_pos (by unfold Bk.nc;simp[btw];omega),Int.toNat_natCast,if_neg a,if_pos (by rw[all_eq_true];intro k g;simpa using f k g)];exact l (p++[i]) (by rw[e];simp)
 unfold Bk.ordF;rw[if_neg (by rw[length_map,h.len];simp)];exact c o [] rfl
def Bk.agC(a:b.Ok){o:List Nat}(c:b.Ord o)(i:Nat):(b.fatC i==0|| ((b.fatC i==1)==(b.ends o).2.getD i false))=true:=by
 rcases Qae (b.all.countP λ o=>(b.ends o).2.getD i false) b.all.length with h|h|h
 .have h:b.fatC i=0:=h;rw[h];rfl
 .have h:b.fatC i=1:=h;have:=b.fatC_one.1 h o c;rw[h,this];rfl
 .have h:b.fatC i=2:=h;have:=(b.fatC_two a).1 h o c;rw[h,this];rfl
def Bk.agR(a:b.Ok){o:List Nat}(c:b.Ord o)(i:Nat):(b.fatR i==0|| ((b.fatR i==1)==(b.ends o).1.getD i false))=true:=by
 rcases Qae (b.all.countP λ o=>(b.ends o).1.getD i false) b.all.length with h|h|h
 .have h:b.fatR i=0:=h;rw[h];rfl
 .have h:b.fatR i=1:=h;have:=b.fatR_one.1 h o c;rw[h,this];rfl
 .have h:b.fatR i=2:=h;have:=(b.fatR_two a).1 h o c;rw[h,this];rfl
def Bk.won_at(a:b.Ok){o:List Nat}(f:b.Ord o){j i:Nat}(c:o[j]?=some i):(b.ends o).2.getD i false=Iq (b.cas i).gs (b.ends (o.take j)).1:=by
 obtain⟨d,e⟩:=List.getElem?_eq_some_iff.1 c;refine b.end_won a f (X:=o.take j) (Y:=o.drop (j+1)) ?_;rw[<- e,getElem_cons_drop,take_append_drop]
end Go.TM

