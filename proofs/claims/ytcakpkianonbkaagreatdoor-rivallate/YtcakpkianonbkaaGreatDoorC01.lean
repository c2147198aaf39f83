/- Lemmas. No conditions. -/
import Derived.Test.YtcakpkianonbkaaGreatDoorB35
set_option linter.all false
open List
namespace Go.TM
variable{b:Bk}
def Bk.okTo(b:Bk):List Nat->List Nat->Bool
 |_,[]=>true
 |p,i::q=>decide (i<b.cs.length)&&b.can p i&&b.okTo (p++[i]) q
def Bk.mem_ords:∀(k:Nat)(p o:List Nat),o∈b.ords k p↔∃q,o=p++q/\q.length=k/\b.okTo p q=true
 |0,p,o=>by
  simp only[Bk.ords,mem_singleton];constructor
  .rintro rfl;exact⟨[],by simp,rfl,rfl⟩
  .rintro⟨q,rfl,hq,-⟩;rw[length_eq_zero_iff]at hq;simp[hq]
 |k+1,p,o=>by
  simp only[Bk.ords,mem_flatMap,mem_range];constructor
  .rintro⟨i,hi,ho⟩;split at ho
   .rename_i hc;obtain⟨q,rfl,hq,hk⟩:=(Bk.mem_ords k (p++[i]) o).1 ho;exact⟨i::q,by simp,by simp[hq],by simp[Bk.okTo,hi,hc,hk]⟩
   .cases ho
  .rintro⟨q,rfl,hq,hk⟩;cases q with
   |nil=>cases hq
   |cons i q=>
    simp only[Bk.okTo,Bool.and_eq_true,decide_eq_true_eq]at hk;refine⟨i,hk.1.1,?_⟩;rw[if_pos hk.1.2];exact(Bk.mem_ords k (p++[i]) _).2 ⟨q,by simp,by simpa using hq,hk.2⟩
def Bk.mem_all{o:List Nat}:o∈b.all↔o.length=b.cs.length/\b.okTo [] o=true:=by
 unfold Bk.all;rw[Bk.mem_ords];constructor
 .rintro⟨q,rfl,hq,hk⟩;exact⟨hq,hk⟩
 .rintro⟨h1,h2⟩;exact⟨o,rfl,h1,h2⟩
def Bk.okTo_iff:∀(q p:List Nat),b.okTo p q=true↔∀X i Y,q=X++i::Y->i<b.cs.length/\b.can (p++X) i=true
 |[],p=>by simp[Bk.okTo]
 |i::q,p=>by
  simp only[Bk.okTo,Bool.and_eq_true,decide_eq_true_eq];rw[Bk.okTo_iff q (p++[i])];constructor
  .rintro⟨⟨h1,h2⟩,h3⟩ X j Y e;cases X with
   |nil=>
    simp only[nil_append,List.cons.injEq]at e;obtain⟨rfl,rfl⟩:=e;simpa using⟨h1,h2⟩
   |cons x X=>
    simp only[cons_append,List.cons.injEq]at e;obtain⟨rfl,rfl⟩:=e;have:=h3 X j Y rfl;simpa using this
  .intro h;refine⟨by simpa using h [] i q rfl,λ X j Y e=>?_⟩;have:=h (i::X) j Y (by simp[e]);simpa using this
def Bk.can_iff{o:List Nat}{i:Nat}:b.can o i=true↔i∉o/\∀k∈Ji b.A i,k∈o:=by
 simp[Bk.can]
structure Bk.Ord(b:Bk)(o:List Nat):Prop where
 len:o.length=b.cs.length
 low:∀i∈o,i<b.cs.length
 nod:o.Nodup
 aft:∀X i Y,o=X++i::Y->∀k∈Ji b.A i,k∈X
def Qxl:∀{o:List Nat},(∀X i Y,o=X++i::Y->i∉X)->o.Nodup:=by
 intro o h;rw[nodup_iff_pairwise_ne,pairwise_iff_getElem];intro i j hi hj hij e;refine h (o.take j) o[j] (o.drop (j+1)) (by rw[getElem_cons_drop,take_append_drop]) ?_;rw[<- e,mem_take_iff_getElem];exact⟨i,by omega,rfl⟩
def Bk.mem_all_iff{o:List Nat}:o∈b.all↔b.Ord o:=by
 rw[Bk.mem_all,Bk.okTo_iff];simp only[nil_append];constructor
 .rintro⟨h1,h2⟩;refine⟨h1,λ i hi=>?_,Qxl λ X i Y e=>(Bk.can_iff.1 (h2 X i Y e).2).1,λ X i Y e=>(Bk.can_iff.1 (h2 X i Y e).2).2⟩;obtain⟨X,Y,e⟩:=append_of_mem hi;exact(h2 X i Y e).1
 .intro h;refine⟨h.len,λ X i Y e=>⟨h.low i (by rw[e];simp),Bk.can_iff.2 ⟨λ hm=>?_,h.aft X i Y e⟩⟩⟩;have hn:=h.nod;rw[e]at hn;exact(nodup_append.1 hn).2.2 i hm i (mem_cons_self ..) rfl
def Q11{n:Nat}{l:List Nat}(h:∀i,i<n->i∈l):n<=l.length:=by
 have key:∀(n:Nat)(l:List Nat),(∀i,i<n->i∈l)->n<=l.length:=by
  intro n
  induction n with
  |zero=>intro l _;exact Nat.zero_le _
  |succ n ih=>
   intro l h;obtain⟨X,Y,e⟩:=append_of_mem (h n (by omega))
   have:=ih (X++Y) λ i hi=>by
    have:=h i (by omega);rw[e]at this;simp only[mem_append,mem_cons]at this ⊢;rcases this with h|h|h
    .exact .inl h
    .omega
    .exact .inr h
   rw[e];simp at this ⊢;omega
 exact key n l h
def Bk.A_n(b:Bk):b.A.length=b.cs.length:=by simp[Bk.A]
def Bk.Ok.ord{b:Bk}(h:b.Ok):∃o,b.Ord o:=by
 obtain⟨L,hL,hall⟩:=Q6e h.lo;rw[b.A_n]at hall;refine⟨L.reverse,?_,λ i hi=>by rw[<- b.A_n];exact hL.low i (by simpa using hi),(by unfold Nodup;rw[pairwise_reverse];exact hL.nod.imp Ne.symm),λ X i Y e k hk=>?_⟩
 .rw[length_reverse];have h1:=Qbi hL.nod (n:=b.cs.length) λ x hx=>by rw[<- b.A_n];exact hL.low x hx
  have h2:=Q11 hall;omega
 .have e':L=Y.reverse++i::X.reverse:=by
   rw[<- reverse_reverse L,e];simp
  have:=hL.aft _ _ _ e' k hk;simpa using this
def Bk.Ord.has{b:Bk}{o:List Nat}(h:b.Ord o){i:Nat}(hi:i<b.cs.length):i∈o:=by
 apply Classical.byContradiction;intro hn;have h1:(i::o).Nodup:=nodup_cons.2 ⟨hn,h.nod⟩
 have:=Qbi h1 (n:=b.cs.length) λ x hx=>by
  rcases mem_cons.1 hx with rfl|hx
  .exact hi
  .exact h.low x hx
 rw[length_cons,h.len]at this;omega
def Bk.Ok.all_pos{b:Bk}(h:b.Ok):0<b.all.length:=by
 obtain⟨o,ho⟩:=h.ord;exact length_pos_of_mem (Bk.mem_all_iff.2 ho)
def Bk.stp_len(b:Bk)(x:List Bool×List Bool)(i:Nat):(b.stp x i).1.length=x.1.length/\(b.stp x i).2.length=x.2.length:=by
 unfold Bk.stp;split <;> simp
def Bk.end_len(b:Bk)(o:List Nat):(b.ends o).1.length=b.rs.length/\(b.ends o).2.length=b.cs.length:=by
 have key:∀(o:List Nat)(x:List Bool×List Bool),(o.foldl b.stp x).1.length=x.1.length/\(o.foldl b.stp x).2.length=x.2.length:=by
  intro o
  induction o with
  |nil=>exact λ x=>⟨rfl,rfl⟩
  |cons i o ih=>
   intro x;have h1:=ih (b.stp x i);have h2:=b.stp_len x i;exact⟨h1.1.trans h2.1,h1.2.trans h2.2⟩
 have:=key o b.ini;simpa[Bk.ends,Bk.ini]using this
def Qbn{l:List Bool}{i j:Nat}{v:Bool}:(l.set i v).getD j false=if i=j/\i<l.length then v else l.getD j false:=by
 simp only[getD_eq_getElem?_getD,getElem?_set];by_cases e:i=j
 .subst e;by_cases h:i<l.length
  .simp[h]
  .simp[h]
 .simp[e]
def Bk.end_facts(b:Bk)(h:b.Ok):∀(n:Nat)(o:List Nat),o.length=n->o.Nodup->(∀i∈o,i<b.cs.length) ->
  (∀i,i∉o->(b.ends o).2.getD i false=false)/\∀r,r<b.rs.length->(b.ends o).1.getD r false=!(o.any λ i=>(b.ends o).2.getD i false&&(b.cas i).ag.toNat==r):=by
 intro n
 induction n with
 |zero=>
  intro o ho _ _;rw[length_eq_zero_iff]at ho;subst ho;refine⟨λ i _=>?_,λ r hr=>?_⟩
  .simp only[Bk.ends,Bk.ini,foldl_nil,getD_eq_getElem?_getD,getElem?_replicate];split <;> rfl
  .simp[Bk.ends,Bk.ini,getD_eq_getElem?_getD,getElem?_replicate,hr]
 |succ n ih=>
  intro o ho hn hl
  obtain⟨q,i,rfl⟩:∃q i,o=q++[i]:=by
   rcases eq_nil_or_concat o with e|⟨q,i,e⟩
   .rw[e]at ho;cases ho
   .exact⟨q,i,by simpa using e⟩
  rw[nodup_append]at hn;have hni:i∉q:=λ hm=>hn.2.2 i hm i (mem_singleton.2 rfl) rfl;have hi:i<b.cs.length:=hl i (by simp);obtain⟨h1,h2⟩:=ih q (by simpa using ho) hn.1 λ j hj=>hl j (by simp[hj]);obtain⟨e1,e2⟩:=b.end_len q
  have hag:(b.cas i).ag.toNat<b.rs.length:=by
   have hm:b.cas i∈b.cs:=by
    unfold Bk.cas;rw[getD_eq_getElem?_getD,getElem?_eq_getElem hi];exact getElem_mem hi
   have:=h.ag _ hm;unfold Bk.nr at this;omega
  rw[b.ends_snoc];unfold Bk.stp;by_cases hw:Zrw (b.cas i).gs (b.ends q).1=true
  .rw[if_pos hw];refine⟨λ j hj=>?_,λ r hr=>?_⟩
   .simp only[mem_append,mem_singleton,not_or]at hj;show((b.ends q).2.set i true).getD j false=false;rw[Qbn,if_neg λ e=>hj.2 e.1.symm];exact h1 j hj.1
   .show((b.ends q).1.set (b.cas i).ag.toNat false).getD r false=!((q++[i]).any λ j=>((b.ends q).2.set i true).getD j false&&(b.cas j).ag.toNat==r);rw[Qbn,any_append]
    have hq:(q.any λ j=>((b.ends q).2.set i true).getD j false&&(b.cas j).ag.toNat==r)=q.any λ j=>(b.ends q).2.getD j false&&(b.cas j).ag.toNat==r:=by
     have hq':∀j∈q,((b.ends q).2.set i true).getD j false=(b.ends q).2.getD j false:=λ j hj=>by rw[Qbn,if_neg (λ e:i=j/\_=>hni (e.1▸hj))]
     rw[Bool.eq_iff_iff,any_eq_true,any_eq_true];constructor
     .rintro⟨j,hj,hx⟩;rw[hq' j hj]at hx;exact⟨j,hj,hx⟩
     .rintro⟨j,hj,hx⟩;rw[<- hq' j hj]at hx;exact⟨j,hj,hx⟩
    rw[hq];by_cases e:(b.cas i).ag.toNat=r
    .rw[if_pos ⟨e,by omega⟩];have ht:((b.ends q).2.set i true).getD i false=true:=by rw[Qbn,if_pos ⟨rfl,by omega⟩]
     rw[any_cons,ht,e];simp
    .rw[if_neg λ x=>e x.1,h2 r hr,any_cons,beq_false_of_ne e];simp
  .rw[if_neg hw];refine⟨λ j hj=>h1 j λ x=>hj (by simp[x]),λ r hr=>?_⟩;rw[h2 r hr,any_append];rw[any_cons,h1 i hni];simp
def Bk.end_keep(b:Bk):∀(Y X:List Nat)(i:Nat),i∉Y->(b.ends (X++Y)).2.getD i false=(b.ends X).2.getD i false:=by
 intro Y
 induction Y with
 |nil=>intro X i _;simp
 |cons j Y ih=>
  intro X i hi;have e:X++j::Y=(X++[j])++Y:=by simp
  rw[e,ih (X++[j]) i λ h=>hi (by simp[h]),b.ends_snoc];unfold Bk.stp;split
  .show((b.ends X).2.set j true).getD i false=_;rw[Qbn,if_neg λ e=>hi (by simp[e.1])]
  .rfl
def Bk.end_won(b:Bk)(h:b.Ok){o X Y:List Nat}{i:Nat}(ho:b.Ord o)(e:o=X++i::Y):(b.ends o).2.getD i false=Zrw (b.cas i).gs (b.ends X).1:=by
 have hn:=ho.nod;rw[e,nodup_append]at hn;have hiX:i∉X:=λ hm=>hn.2.2 i hm i (mem_cons_self ..) rfl;have hiY:i∉Y:=(nodup_cons.1 hn.2.1).1;have hi:i<b.cs.length:=ho.low i (by rw[e];simp);have e':o=(X++[i])++Y:=by rw[e];simp
 rw[e',b.end_keep Y (X++[i]) i hiY,b.ends_snoc];unfold Bk.stp;obtain⟨-,l2⟩:=b.end_len X;split
 .rename_i hw;show((b.ends X).2.set i true).getD i false=_;rw[Qbn,if_pos ⟨rfl,by omega⟩,hw]
 .rename_i hw;have:=(b.end_facts h X.length X rfl hn.1 λ j hj=>ho.low j (by rw[e];simp[hj])).1 i hiX;rw[this];simpa using hw
def Bk.Ord.split{b:Bk}{o:List Nat}(h:b.Ord o){i:Nat}(hi:i<b.cs.length):∃X Y,o=X++i::Y:=append_of_mem (h.has hi)
def Bk.end_right(b:Bk)(h:b.Ok){o:List Nat}(ho:b.Ord o){r:Nat}(hr:r<b.rs.length):(b.ends o).1.getD r false=false↔∃i,i<b.cs.length/\(b.ends o).2.getD i false=true/\(b.cas i).ag.toNat=r:=by
 rw[(b.end_facts h o.length o rfl ho.nod ho.low).2 r hr];simp only[Bool.not_eq_false',any_eq_true,Bool.and_eq_true,beq_iff_eq];constructor
 .rintro⟨i,hi,h1,h2⟩;exact⟨i,ho.low i hi,h1,h2⟩
 .rintro⟨i,hi,h1,h2⟩;exact⟨i,ho.has hi,h1,h2⟩
def Q1u{so all:Nat}:Q6n so all=1↔so=all:=by
 unfold Q6n;split
 .rename_i h;simp[h]
 .rename_i h;split
  .simp[h]
  .simp[h]
def Q1x{so all:Nat}(h0:0<all):Q6n so all=2↔so=0:=by
 unfold Q6n;split
 .rename_i h;constructor
  .intro x;cases x
  .intro x;omega
 .split
  .rename_i h;simp[h]
  .rename_i h;simp[h]
def Bk.fatC_one(b:Bk){i:Nat}:b.fatC i=1↔∀o,b.Ord o->(b.ends o).2.getD i false=true:=by
 unfold Bk.fatC;rw[Q1u,countP_eq_length];exact⟨λ h o ho=>h o (Bk.mem_all_iff.2 ho),λ h o ho=>h o (Bk.mem_all_iff.1 ho)⟩
def Bk.fatR_one(b:Bk){i:Nat}:b.fatR i=1↔∀o,b.Ord o->(b.ends o).1.getD i false=true:=by
 unfold Bk.fatR;rw[Q1u,countP_eq_length];exact⟨λ h o ho=>h o (Bk.mem_all_iff.2 ho),λ h o ho=>h o (Bk.mem_all_iff.1 ho)⟩
def Bk.fatC_two(b:Bk)(h:b.Ok){i:Nat}:b.fatC i=2↔∀o,b.Ord o->(b.ends o).2.getD i false=false:=by
 unfold Bk.fatC;rw[Q1x h.all_pos,countP_eq_zero];exact⟨λ h o ho=>by simpa using h o (Bk.mem_all_iff.2 ho),λ h o ho=>by simpa using h o (Bk.mem_all_iff.1 ho)⟩
def Bk.fatR_two(b:Bk)(h:b.Ok){i:Nat}:b.fatR i=2↔∀o,b.Ord o->(b.ends o).1.getD i false=false:=by
 unfold Bk.fatR;rw[Q1x h.all_pos,countP_eq_zero];exact⟨λ h o ho=>by simpa using h o (Bk.mem_all_iff.2 ho),λ h o ho=>by simpa using h o (Bk.mem_all_iff.1 ho)⟩
def Bk.sure_wins(b:Bk)(h:b.Ok){i:Nat}(hi:i<b.cs.length)(hs:[]∈(b.cas i).gs):b.fatC i=1:=by
 rw[Bk.fatC_one];intro o ho;obtain⟨X,Y,e⟩:=ho.split hi;rw[b.end_won h ho e];unfold Zrw;rw[any_eq_true];exact⟨[],hs,rfl⟩
def Bk.won_falls(b:Bk)(h:b.Ok){i r:Nat}(hi:i<b.cs.length)(hr:r<b.rs.length)(ha:(b.cas i).ag.toNat=r)(hc:b.fatC i=1):b.fatR r=2:=by
 rw[b.fatR_two h];intro o ho;rw[b.end_right h ho hr];exact⟨i,hi,b.fatC_one.1 hc o ho,ha⟩
def Bk.safe_stands(b:Bk)(h:b.Ok){r:Nat}(hr:r<b.rs.length)(hc:∀i,i<b.cs.length->(b.cas i).ag.toNat=r->b.fatC i=2):b.fatR r=1:=by
 rw[Bk.fatR_one];intro o ho;apply Classical.byContradiction;intro hn;obtain⟨i,hi,hw,ha⟩:=(b.end_right h ho hr).1 (by simpa using hn);rw[(b.fatC_two h).1 (hc i hi ha) o ho]at hw;cases hw
def Bk.nexts(b:Bk)(o:List Nat):List Nat:=(range b.cs.length).filter λ i=>b.can o i
structure Bk.Beg(b:Bk)(o:List Nat):Prop where
 low:∀i∈o,i<b.cs.length
 nod:o.Nodup
 aft:∀X i Y,o=X++i::Y->∀k∈Ji b.A i,k∈X
def Bk.Beg.nil:b.Beg []:=⟨by simp,.nil,λ X i Y e=>by cases X <;> cases e⟩
def Bk.Beg.le{o:List Nat}(h:b.Beg o):o.length<=b.cs.length:=Qbi h.nod h.low
def Bk.Beg.snoc{o:List Nat}{i:Nat}(h:b.Beg o)(hi:i<b.cs.length)(hc:b.can o i=true):b.Beg (o++[i]):=by
 obtain⟨h1,h2⟩:=Bk.can_iff.1 hc;refine⟨λ j hj=>?_,?_,λ X j Y e k hk=>?_⟩
 .rcases mem_append.1 hj with hj|hj
  .exact h.low j hj
  .simp at hj;subst hj;exact hi
 .rw[nodup_append];exact⟨h.nod,by simp,λ x hx y hy e=>by simp at hy;subst hy;subst e;exact h1 hx⟩
 .rcases eq_nil_or_concat Y with rfl|⟨Y',y,rfl⟩
  .obtain⟨rfl,e2⟩:=append_inj' e (by simp);cases e2;exact h2 k hk
  .have e':o++[i]=(X++j::Y')++[y]:=by rw[e];simp
   obtain⟨e1,-⟩:=append_inj' e' (by simp);exact h.aft X j Y' e1 k hk
def Bk.Beg.next{o:List Nat}(hok:b.Ok)(h:b.Beg o)(hlt:o.length<b.cs.length):0<(b.nexts o).length:=by
 obtain⟨f,hf⟩:=hok.ord
 have hex:∃i∈f,i∉o:=by
  apply Classical.byContradiction;intro hn
  have hall:∀i,i<b.cs.length->i∈o:=λ i hi=>by
   apply Classical.byContradiction;intro hni;exact hn ⟨i,hf.has hi,hni⟩
  have:=Q11 hall;omega
 have hfirst:∃X i Y,f=X++i::Y/\i∉o/\∀k∈X,k∈o:=by
  have key:∀(Y X:List Nat),f=X++Y->(∀k∈X,k∈o)->(∃i∈Y,i∉o)->∃X i Y,f=X++i::Y/\i∉o/\∀k∈X,k∈o:=by
   intro Y
   induction Y with
   |nil=>rintro X _ _⟨i,hi,-⟩;cases hi
   |cons y Y ih=>
    rintro X e hX⟨i,hi,hni⟩;by_cases hy:y∈o
    .refine ih (X++[y]) (by rw[e];simp) (λ k hk=>?_) ?_
     .rcases mem_append.1 hk with hk|hk
      .exact hX k hk
      .simp at hk;subst hk;exact hy
     .rcases mem_cons.1 hi with rfl|hi
      .exact absurd hy hni
      .exact⟨i,hi,hni⟩
    .exact⟨X,y,Y,e,hy,hX⟩
  exact key f [] (by simp) (by simp) hex
 obtain⟨X,i,Y,e,hi,hX⟩:=hfirst;refine length_pos_of_mem (a:=i) (mem_filter.2 ⟨mem_range.2 (hf.low i (by rw[e];simp)),?_⟩);exact Bk.can_iff.2 ⟨hi,λ k hk=>hX k (hf.aft X i Y e k hk)⟩
def Bk.Ord.flaw{o:List Nat}(h:b.Ord o):b.ordF (o.map λ(k:Nat)=>(k:Int))=0:=by
 have key:∀(q p:List Nat),o=p++q->b.ordL p (q.map λ(k:Nat)=>(k:Int))=0:=by
  intro q
  induction q with
  |nil=>intro p _;rfl
  |cons i q ih=>
   intro p e;have hi:i<b.cs.length:=h.low i (by rw[e];simp);have hn:=h.nod;rw[e,nodup_append]at hn;have hip:i∉p:=λ hm=>hn.2.2 i hm i (mem_cons_self ..) rfl;have ha:=h.aft p i q e;show(if Go.TM.W1 (i:Int) 0 (b.nc-1)then(if(i:Int).toNat∈p then 5 else if(Ji b.A (i:Int).toNat).all (λ k=>p.contains k)then b.ordL (p++[(i:Int).toNat]) (q.map λ(k:Nat)=>(k:Int))else 7)else 6)=0;rw[if_pos (by unfold Bk.nc;simp[W1];omega),Int.toNat_natCast,if_neg hip,if_pos (by rw[all_eq_true];intro k hk;simpa using ha k hk)];exact ih (p++[i]) (by rw[e];simp)
 unfold Bk.ordF;rw[if_neg (by rw[length_map,h.len];simp)];exact key o [] rfl
def Qbq:List Int->List Int->Bool
 |[],l=>!l.isEmpty
 |_::_,[]=>false
 |x::l,y::r=>if x=y then Qbq l r else decide (x<y)
def Qq7:∀l,Qbq l l=false
 |[]=>rfl
 |x::l=>by simp[Qbq,Qq7 l]
def Qq4:∀l r,Qbq l r=true->Qbq r l=false
 |[],[],h=>by simp[Qbq]at h
 |[],_::_,_=>rfl
 |_::_,[],h=>by simp[Qbq]at h
 |x::l,y::r,h=>by
  simp only[Qbq]at h ⊢;by_cases e:x=y
  .rw[if_pos e]at h;rw[if_pos e.symm];exact Qq4 l r h
  .rw[if_neg e]at h;rw[if_neg (Ne.symm e)];simp at h ⊢;omega
end Go.TM
namespace Go.TM
variable{b o:Bk}
structure Bk.Turn(b o:Bk)(p q:Nat->Nat):Prop where
 rs:o.rs=b.rs
 n:o.cs.length=b.cs.length
 pl:∀i,i<b.cs.length->p i<b.cs.length
 ql:∀i,i<b.cs.length->q i<b.cs.length
 qp:∀i,i<b.cs.length->q (p i)=i
 pq:∀i,i<b.cs.length->p (q i)=i
 nm:∀i,i<b.cs.length->(o.cas i).nm=(b.cas (p i)).nm
 ag:∀i,i<b.cs.length->(o.cas i).ag=(b.cas (p i)).ag
 gs:∀i,i<b.cs.length->(o.cas i).gs=(b.cas (p i)).gs
 af:∀i,i<b.cs.length->∀k,k<b.cs.length->(k∈Ji o.A i↔p k∈Ji b.A (p i))
def Bk.Turn.symm{p q:Nat->Nat}(h:b.Turn o p q):o.Turn b q p:=by
 have hn:=h.n;refine⟨h.rs.symm,h.n.symm,?_,?_,?_,?_,?_,?_,?_,?_⟩ <;> rw[hn]
 .exact h.ql
 .exact h.pl
 .exact h.pq
 .exact h.qp
 .intro i hi;rw[h.nm _ (h.ql i hi),h.pq i hi]
 .intro i hi;rw[h.ag _ (h.ql i hi),h.pq i hi]
 .intro i hi;rw[h.gs _ (h.ql i hi),h.pq i hi]
 .intro i hi k hk;rw[h.af _ (h.ql i hi) _ (h.ql k hk),h.pq i hi,h.pq k hk]
def Qpb{nameB:ByteArray->Bool}{nr nc:Int}:∀{l:List Cs}{seen:List ByteArray},Q5j nameB nr nc seen l=0 ↔
  (∀c∈l,nameB c.nm=true/\W1 c.ag 0 (nr-1)=true/\Q04 nr c.gs=0/\Qb0 nc none c.af=0/\c.nm∉seen)/\(l.map (·.nm)).Nodup
 |[],seen=>by simp[Q5j]
 |c::l,seen=>by
  have ih:=Qpb (nameB:=nameB) (nr:=nr) (nc:=nc) (l:=l) (seen:=seen++[c.nm]);simp only[Q5j,mem_cons,map_cons,nodup_cons,forall_eq_or_imp];by_cases h1:nameB c.nm=true
  .by_cases h2:Qg3 seen c.nm=true
   .rw[if_pos h1,if_pos h2];have:=Ztn.1 h2;simp[this]
   .have h2':c.nm∉seen:=λ h=>h2 (Ztn.2 h);rw[if_pos h1,if_neg h2];by_cases h3:W1 c.ag 0 (nr-1)=true
    .by_cases h4:Q04 nr c.gs=0
     .by_cases h5:Qb0 nc none c.af=0
      .rw[if_pos h3,if_pos h4,if_pos h5,ih];simp only[h1,h2',h3,h4,h5,true_and,not_false_iff];constructor
       .rintro⟨a1,a2⟩;refine⟨λ d hd=>?_,λ hm=>?_,a2⟩
        .obtain⟨x1,x2,x3,x4,x5⟩:=a1 d hd;exact⟨x1,x2,x3,x4,λ hh=>x5 (by simp[hh])⟩
        .obtain⟨d,hd,e⟩:=mem_map.1 hm;exact(a1 d hd).2.2.2.2 (by simp[e])
       .rintro⟨a1,a2,a3⟩;refine⟨λ d hd=>?_,a3⟩;obtain⟨x1,x2,x3,x4,x5⟩:=a1 d hd;refine⟨x1,x2,x3,x4,λ hh=>?_⟩;rcases mem_append.1 hh with hh|hh
        .exact x5 hh
        .simp at hh;exact a2 (mem_map.2 ⟨d,hd,hh⟩)
      .rw[if_pos h3,if_pos h4,if_neg h5];simp[h5]
     .rw[if_pos h3,if_neg h4];simp[h4]
    .rw[if_neg h3];simp[h3]
  .rw[if_neg h1];simp[h1]
def Bk.cas_ex{c:Cs}(h:c∈b.cs):∃i,i<b.cs.length/\b.cas i=c:=by
 obtain⟨i,hi,e⟩:=mem_iff_getElem.1 h;exact⟨i,hi,by simp[Bk.cas,getD_eq_getElem?_getD,hi,e]⟩
def Bk.mem_cas{i:Nat}(hi:i<b.cs.length):b.cas i∈b.cs:=by
 unfold Bk.cas;rw[getD_eq_getElem?_getD,getElem?_eq_getElem hi];exact getElem_mem hi
def Bk.Turn.flaw{nameB:ByteArray->Bool}{p q:Nat->Nat}(hf:b.flaw nameB=0)(h:b.Turn o p q)(hri:∀i,i<b.cs.length->Qb0 b.nc none (o.cas i).af=0):o.flaw nameB=0:=by
 have hok:=Bk.ok_of hf
 have hlow:∀i,i<o.A.length->∀k∈Ji o.A i,k<o.A.length:=λ i hi k hk=>by
  rw[o.A_n]at hi ⊢;have e:Ji o.A i=(o.cas i).af.map Int.toNat:=by simp[Ji,Bk.A,Bk.cas,getD_eq_getElem?_getD,hi]
  rw[e]at hk;obtain⟨n,hn,rfl⟩:=mem_map.1 hk;have:=Qri (hri i (h.n▸hi)) n hn;rw[h.n];unfold Bk.nc at this;omega
 have h3:Wz o.A=false:=by
  obtain⟨ρ,hρ⟩:=Zqr hok.lo;refine Zd2 hlow (λ i=>ρ (p i)) λ i hi k hk=>?_;have hkl:=hlow i hi k hk;rw[o.A_n,h.n]at hi hkl;exact hρ (p i) (by rw[b.A_n];exact h.pl i hi) (p k) ((h.af i hi k hkl).1 hk)
 unfold Bk.flaw at hf ⊢;have hrs:o.rsF nameB=b.rsF nameB:=by unfold Bk.rsF;rw[h.rs]
 rw[hrs];split at hf
 .rename_i h1;rw[if_pos h1];split at hf
  .rename_i h2
   have hcs:o.csF nameB=0:=by
    unfold Bk.csF at h2 ⊢;rw[h.n];split at h2
    .cases h2
    .rename_i h5;rw[if_neg h5,Qpb];obtain⟨a1,a2⟩:=Qpb.1 h2;have hnr:o.nr=b.nr:=by unfold Bk.nr;rw[h.rs]
     have hnc:o.nc=b.nc:=by unfold Bk.nc;rw[h.n]
     rw[hnr,hnc];refine⟨λ c hc=>?_,?_⟩
     .obtain⟨i,hi,rfl⟩:=Bk.cas_ex hc;rw[h.n]at hi;obtain⟨x1,x2,x3,-,-⟩:=a1 _ (Bk.mem_cas (h.pl i hi));rw[h.nm i hi,h.ag i hi,h.gs i hi];exact⟨x1,x2,x3,hri i hi,by simp⟩
     .rw[nodup_iff_pairwise_ne,pairwise_iff_getElem]at a2 ⊢;simp only[length_map,getElem_map]at a2 ⊢;intro i j hi hj hij e;have ei:(o.cas i).nm=(o.cs[i]).nm:=by simp[Bk.cas,getD_eq_getElem?_getD,hi]
      have ej:(o.cas j).nm=(o.cs[j]).nm:=by simp[Bk.cas,getD_eq_getElem?_getD,hj]
      rw[<- ei,<- ej]at e;rw[h.n]at hi hj;rw[h.nm i hi,h.nm j hj]at e
      have hne:p i≠p j:=λ e'=>by
       have:=h.qp i hi;rw[e',h.qp j hj]at this;omega
      have ci:∀k(hk:k<b.cs.length),b.cas k=b.cs[k]:=λ k hk=>by simp[Bk.cas,getD_eq_getElem?_getD,hk]
      rw[ci _ (h.pl i hi),ci _ (h.pl j hj)]at e;rcases Nat.lt_or_gt_of_ne hne with hl|hl
      .exact a2 (p i) (p j) (h.pl i hi) (h.pl j hj) hl e
      .exact a2 (p j) (p i) (h.pl j hj) (h.pl i hi) hl e.symm
   rw[if_pos hcs,if_neg (by simp[h3])]
  .rename_i h2;exact absurd hf h2
 .rename_i h1;exact absurd hf h1
end Go.TM
