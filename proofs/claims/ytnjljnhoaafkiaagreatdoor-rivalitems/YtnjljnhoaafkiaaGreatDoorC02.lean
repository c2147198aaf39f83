/- Lemmas. No conditions. -/
import Derived.Test.YtnjljnhoaafkiaaGreatDoorB32
set_option linter.all false
open List
namespace Go.TM
def look(y:Int):List (Int×Int)->Option Int
 |[]=>none
 |p::r=>if y=p.1 then some p.2 else look y r
def Zt0(y x:Int):List (Int×Int)->List (Int×Int)
 |[]=>[(y,x)]
 |p::r=>if y=p.1 then(p.1,x)::r else p::Zt0 y x r
structure GS where
 seen:List Int
 own:List (Int×Int)
def Zox(g:Int->GS->Bool×GS)(one:Int):List (Int×Int)->GS->Bool×GS
 |[],s=>(false,s)
 |p::r,s=>
  if p.1≠one\/p.2∈s.seen then Zox g one r s
  else match look p.2 s.own with
   |none=>(true,⟨s.seen++[p.2],Zt0 p.2 one s.own⟩)
   |some o=>match g o ⟨s.seen++[p.2],s.own⟩with
    |(true,b)=>(true,⟨b.seen,Zt0 p.2 one b.own⟩)
    |(false,b)=>Zox g one r b
def Zt3(b:List (Int×Int)):Nat->Int->GS->Bool×GS
 |0,_,s=>(false,s)
 |n+1,one,s=>Zox (Zt3 b n) one b s
def Ztk(b:List (Int×Int))(st:Nat×List (Int×Int))(a:Int):Nat×List (Int×Int):=
 match Zt3 b (b.length+1) a ⟨[],st.2⟩with
 |(true,s)=>(st.1+1,s.own)
 |(false,s)=>(st.1,s.own)
def Zui(as:List Int)(b:List (Int×Int)):Nat:=(as.foldl (Ztk b) (0,[])).1
def Zth(x:Int)(m:List (Int×Int)):Nat:=(m.filter λ p=>decide (p.2=x)).length
def ga(l:List Int)(i:Nat):Int:=l.getD i 0
def Srt(l:List Int)(a b:Nat):Prop:=∀i j,a<=i->i<j->j<b->ga l i<=ga l j
def Low(l:List Int)(a b c d:Nat):Prop:=∀i j,a<=i->i<b->c<=j->j<d->ga l i<=ga l j
def Kid(p c:Nat):Prop:=c=2*p+1\/c=2*p+2
end Go.TM
namespace Go.TM
variable{b:Bk}
def Bk.okTo(b:Bk):List Nat->List Nat->Bool
 |_,[]=>true
 |p,i::q=>decide (i<b.cs.length)&&b.can p i&&b.okTo (p++[i]) q
def Bk.mem_ords:∀(k:Nat)(p o:List Nat),o∈b.ords k p↔∃q,o=p++q/\q.length=k/\b.okTo p q=true
 |0,p,o=>by
  simp only[Bk.ords,mem_singleton];constructor
  .rintro rfl;exact⟨[],S1,rfl,rfl⟩
  .rintro⟨q,rfl,f,-⟩;rw[length_eq_zero_iff]at f;simp[f]
 |k+1,p,o=>by
  simp only[Bk.ords,mem_flatMap,mem_range];constructor
  .rintro⟨i,hi,ho⟩;split at ho
   .rename_i hc;obtain⟨q,rfl,f,h⟩:=(Bk.mem_ords k (p++[i]) o).1 ho;exact⟨i::q,S1,by simp[f],by simp[Bk.okTo,hi,hc,h]⟩
   .cases ho
  .rintro⟨q,rfl,f,h⟩;cases q with
   |nil=>cases f
   |cons i q=>
    simp only[Bk.okTo,Bool.and_eq_true,decide_eq_true_eq]at h;refine⟨i,h.1.1,?_⟩;rw[if_pos h.1.2];exact(Bk.mem_ords k (p++[i]) _).2 ⟨q,S1,by simpa using f,h.2⟩
def Bk.mem_all{o:List Nat}:o∈b.all↔o.length=b.cs.length/\b.okTo [] o=true:=by
 unfold Bk.all;rw[Bk.mem_ords];constructor
 .rintro⟨q,rfl,hq,hk⟩;exact⟨hq,hk⟩
 .rintro⟨h1,h2⟩;exact⟨o,rfl,h1,h2⟩
def Bk.okTo_iff:∀(q p:List Nat),b.okTo p q=true↔∀X i Y,q=X++i::Y->i<b.cs.length/\b.can (p++X) i=true
 |[],p=>by simp[Bk.okTo]
 |i::q,p=>by
  simp only[Bk.okTo,Bool.and_eq_true,decide_eq_true_eq];rw[Bk.okTo_iff q (p++[i])];constructor
  .rintro⟨⟨h1,h2⟩,h3⟩ X j Y e;cases X with
   |nil=>
    simp only[nil_append,List.cons.injEq]at e;obtain⟨rfl,rfl⟩:=e;simpa using⟨h1,h2⟩
   |cons x X=>
    simp only[cons_append,List.cons.injEq]at e;obtain⟨rfl,rfl⟩:=e;have:=h3 X j Y rfl;simpa using this
  .intro h;refine⟨by simpa using h [] i q rfl,λ X j Y e=>?_⟩;have:=h (i::X) j Y (by simp[e]);simpa using this
def Bk.can_iff{o:List Nat}{i:Nat}:b.can o i=true↔i∉o/\∀k∈Jf b.A i,k∈o:=by
 simp[Bk.can]
structure Bk.Ord(b:Bk)(o:List Nat):Prop where
 len:o.length=b.cs.length
 low:∀i∈o,i<b.cs.length
 nod:o.Nodup
 aft:∀X i Y,o=X++i::Y->∀k∈Jf b.A i,k∈X
def Zre:∀{o:List Nat},(∀X i Y,o=X++i::Y->i∉X)->o.Nodup:=by
 intro o h;rw[nodup_iff_pairwise_ne,pairwise_iff_getElem];intro i j f w b e;refine h (o.take j) o[j] (o.drop (j+1)) (by rw[getElem_cons_drop,take_append_drop]) ?_;rw[<- e,mem_take_iff_getElem];exact⟨i,O1,rfl⟩
def Bk.mem_all_iff{o:List Nat}:o∈b.all↔b.Ord o:=by
 rw[Bk.mem_all,Bk.okTo_iff];simp only[nil_append];constructor
 .rintro⟨h1,h2⟩;refine⟨h1,λ i w=>?_,Zre λ X i Y e=>(Bk.can_iff.1 (h2 X i Y e).2).1,λ X i Y e=>(Bk.can_iff.1 (h2 X i Y e).2).2⟩;obtain⟨X,Y,e⟩:=append_of_mem w;exact(h2 X i Y e).1
 .intro h;refine⟨h.len,λ X i Y e=>⟨h.low i (by rw[e];simp),Bk.can_iff.2 ⟨λ hm=>?_,h.aft X i Y e⟩⟩⟩;have f:=h.nod;rw[e]at f;exact(nodup_append.1 f).2.2 i hm i (mem_cons_self ..) rfl
def Ztz{n:Nat}{l:List Nat}(h:∀i,i<n->i∈l):n<=l.length:=by
 have key:∀(n:Nat)(l:List Nat),(∀i,i<n->i∈l)->n<=l.length:=by
  intro n
  induction n with
  |zero=>intro l _;exact Nat.zero_le _
  |succ n b=>
   intro l h;obtain⟨X,Y,e⟩:=append_of_mem (h n O1)
   have:=b (X++Y) λ i f=>by
    have:=h i O1;rw[e]at this;simp only[mem_append,mem_cons]at this ⊢;rcases this with h|h|h
    .exact .inl h
    .omega
    .exact .inr h
   rw[e];simp at this ⊢;omega
 exact key n l h
def Bk.A_n(b:Bk):b.A.length=b.cs.length:=by simp[Bk.A]
def Bk.Ok.ord{b:Bk}(h:b.Ok):∃o,b.Ord o:=by
 obtain⟨L,hL,f⟩:=Du h.lo;rw[b.A_n]at f;refine⟨L.reverse,?_,λ i w=>by rw[<- b.A_n];exact hL.low i (by simpa using w),(by unfold Nodup;rw[pairwise_reverse];exact hL.nod.imp Ne.symm),λ X i Y e k z=>?_⟩
 .rw[length_reverse];have h1:=XM hL.nod (n:=b.cs.length) λ x hx=>by rw[<- b.A_n];exact hL.low x hx
  have h2:=Ztz f;omega
 .have e':L=Y.reverse++i::X.reverse:=by
   rw[<- reverse_reverse L,e];simp
  have:=hL.aft _ _ _ e' k z;simpa using this
def Bk.Ord.has{b:Bk}{o:List Nat}(h:b.Ord o){i:Nat}(f:i<b.cs.length):i∈o:=by
 apply Classical.byContradiction;intro w;have h1:(i::o).Nodup:=nodup_cons.2 ⟨w,h.nod⟩
 have:=XM h1 (n:=b.cs.length) λ x hx=>by
  rcases mem_cons.1 hx with rfl|hx
  .exact f
  .exact h.low x hx
 rw[length_cons,h.len]at this;omega
def Bk.Ok.all_pos{b:Bk}(h:b.Ok):0<b.all.length:=by
 obtain⟨o,f⟩:=h.ord;exact length_pos_of_mem (Bk.mem_all_iff.2 f)
def Bk.stp_len(b:Bk)(x:List Bool×List Bool)(i:Nat):(b.stp x i).1.length=x.1.length/\(b.stp x i).2.length=x.2.length:=by
 unfold Bk.stp;split <;> simp
def Bk.end_len(b:Bk)(o:List Nat):(b.ends o).1.length=b.rs.length/\(b.ends o).2.length=b.cs.length:=by
 have key:∀(o:List Nat)(x:List Bool×List Bool),(o.foldl b.stp x).1.length=x.1.length/\(o.foldl b.stp x).2.length=x.2.length:=by
  intro o
  induction o with
  |nil=>exact λ x=>⟨rfl,rfl⟩
  |cons i o f=>
   intro x;have h1:=f (b.stp x i);have h2:=b.stp_len x i;exact⟨h1.1.trans h2.1,h1.2.trans h2.2⟩
 have:=key o b.ini;simpa[Bk.ends,Bk.ini]using this
def Qpd{l:List Bool}{i j:Nat}{v:Bool}:(l.set i v).getD j false=if i=j/\i<l.length then v else l.getD j false:=by
 simp only[getD_eq_getElem?_getD,getElem?_set];by_cases e:i=j
 .subst e;by_cases h:i<l.length
  .simp[h]
  .simp[h]
 .simp[e]
def Bk.end_facts(b:Bk)(h:b.Ok):∀(n:Nat)(o:List Nat),o.length=n->o.Nodup->(∀i∈o,i<b.cs.length) ->
  (∀i,i∉o->(b.ends o).2.getD i false=false)/\∀r,r<b.rs.length->(b.ends o).1.getD r false=!(o.any λ i=>(b.ends o).2.getD i false&&(b.cas i).ag.toNat==r):=by
 intro n
 induction n with
 |zero=>
  intro o w _ _;rw[length_eq_zero_iff]at w;subst w;refine⟨λ i _=>?_,λ r E=>?_⟩
  .simp only[Bk.ends,Bk.ini,foldl_nil,getD_eq_getElem?_getD,getElem?_replicate];split <;> rfl
  .simp[Bk.ends,Bk.ini,getD_eq_getElem?_getD,getElem?_replicate,E]
 |succ n L=>
  intro o w F hl
  obtain⟨q,i,rfl⟩:∃q i,o=q++[i]:=by
   rcases eq_nil_or_concat o with e|⟨q,i,e⟩
   .rw[e]at w;cases w
   .exact⟨q,i,by simpa using e⟩
  rw[nodup_append]at F;have z:i∉q:=λ hm=>F.2.2 i hm i (mem_singleton.2 rfl) rfl;have G:i<b.cs.length:=hl i S1;obtain⟨h1,h2⟩:=L q (by simpa using w) F.1 λ j f=>hl j (by simp[f]);obtain⟨M,N⟩:=b.end_len q
  have I:(b.cas i).ag.toNat<b.rs.length:=by
   have hm:b.cas i∈b.cs:=by
    unfold Bk.cas;rw[getD_eq_getElem?_getD,getElem?_eq_getElem G];exact getElem_mem G
   have:=h.ag _ hm;unfold Bk.nr at this;omega
  rw[b.ends_snoc];unfold Bk.stp;by_cases H:LY (b.cas i).gs (b.ends q).1=true
  .rw[if_pos H];refine⟨λ j f=>?_,λ r E=>?_⟩
   .simp only[mem_append,mem_singleton,not_or]at f;show((b.ends q).2.set i true).getD j false=false;rw[Qpd,if_neg λ e=>f.2 e.1.symm];exact h1 j f.1
   .show((b.ends q).1.set (b.cas i).ag.toNat false).getD r false=!((q++[i]).any λ j=>((b.ends q).2.set i true).getD j false&&(b.cas j).ag.toNat==r);rw[Qpd,any_append]
    have K:(q.any λ j=>((b.ends q).2.set i true).getD j false&&(b.cas j).ag.toNat==r)=q.any λ j=>(b.ends q).2.getD j false&&(b.cas j).ag.toNat==r:=by
     have B:∀j∈q,((b.ends q).2.set i true).getD j false=(b.ends q).2.getD j false:=λ j f=>by rw[Qpd,if_neg (λ e:i=j/\_=>z (e.1▸f))]
     rw[Bool.eq_iff_iff,any_eq_true,any_eq_true];constructor
     .rintro⟨j,f,hx⟩;rw[B j f]at hx;exact⟨j,f,hx⟩
     .rintro⟨j,f,hx⟩;rw[<- B j f]at hx;exact⟨j,f,hx⟩
    rw[K];by_cases e:(b.cas i).ag.toNat=r
    .rw[if_pos ⟨e,O1⟩];have ht:((b.ends q).2.set i true).getD i false=true:=by rw[Qpd,if_pos ⟨rfl,O1⟩]
     rw[any_cons,ht,e];simp
    .rw[if_neg λ x=>e x.1,h2 r E,any_cons,beq_false_of_ne e];simp
  .rw[if_neg H];refine⟨λ j f=>h1 j λ x=>f (by simp[x]),λ r E=>?_⟩;rw[h2 r E,any_append];rw[any_cons,h1 i z];simp
def Bk.end_keep(b:Bk):∀(Y X:List Nat)(i:Nat),i∉Y->(b.ends (X++Y)).2.getD i false=(b.ends X).2.getD i false:=by
 intro Y
 induction Y with
 |nil=>intro X i _;simp
 |cons j Y w=>
  intro X i f;have e:X++j::Y=(X++[j])++Y:=S1
  rw[e,w (X++[j]) i λ h=>f (by simp[h]),b.ends_snoc];unfold Bk.stp;split
  .show((b.ends X).2.set j true).getD i false=_;rw[Qpd,if_neg λ e=>f (by simp[e.1])]
  .rfl
def Bk.end_won(b:Bk)(h:b.Ok){o X Y:List Nat}{i:Nat}(B:b.Ord o)(e:o=X++i::Y):(b.ends o).2.getD i false=LY (b.cas i).gs (b.ends X).1:=by
 have f:=B.nod;rw[e,nodup_append]at f;have w:i∉X:=λ hm=>f.2.2 i hm i (mem_cons_self ..) rfl;have z:i∉Y:=(nodup_cons.1 f.2.1).1;have F:i<b.cs.length:=B.low i (by rw[e];simp);have e':o=(X++[i])++Y:=by rw[e];simp
 rw[e',b.end_keep Y (X++[i]) i z,b.ends_snoc];unfold Bk.stp;obtain⟨-,G⟩:=b.end_len X;split
 .rename_i hw;show((b.ends X).2.set i true).getD i false=_;rw[Qpd,if_pos ⟨rfl,O1⟩,hw]
 .rename_i hw;have:=(b.end_facts h X.length X rfl f.1 λ j E=>B.low j (by rw[e];simp[E])).1 i w;rw[this];simpa using hw
def Bk.Ord.split{b:Bk}{o:List Nat}(h:b.Ord o){i:Nat}(f:i<b.cs.length):∃X Y,o=X++i::Y:=append_of_mem (h.has f)
def Bk.end_right(b:Bk)(h:b.Ok){o:List Nat}(f:b.Ord o){r:Nat}(w:r<b.rs.length):(b.ends o).1.getD r false=false↔∃i,i<b.cs.length/\(b.ends o).2.getD i false=true/\(b.cas i).ag.toNat=r:=by
 rw[(b.end_facts h o.length o rfl f.nod f.low).2 r w];simp only[Bool.not_eq_false',any_eq_true,Bool.and_eq_true,beq_iff_eq];constructor
 .rintro⟨i,hi,h1,h2⟩;exact⟨i,f.low i hi,h1,h2⟩
 .rintro⟨i,hi,h1,h2⟩;exact⟨i,f.has hi,h1,h2⟩
def Zrh{b all:Nat}:H1 b all=1↔b=all:=by
 unfold H1;split
 .rename_i h;simp[h]
 .rename_i h;split
  .simp[h]
  .simp[h]
def Zri{b all:Nat}(f:0<all):H1 b all=2↔b=0:=by
 unfold H1;split
 .rename_i h;constructor
  .intro x;cases x
  .intro x;omega
 .split
  .rename_i h;simp[h]
  .rename_i h;simp[h]
def Bk.fatC_one(b:Bk){i:Nat}:b.fatC i=1↔∀o,b.Ord o->(b.ends o).2.getD i false=true:=by
 unfold Bk.fatC;rw[Zrh,countP_eq_length];exact⟨λ h o f=>h o (Bk.mem_all_iff.2 f),λ h o f=>h o (Bk.mem_all_iff.1 f)⟩
def Bk.fatR_one(b:Bk){i:Nat}:b.fatR i=1↔∀o,b.Ord o->(b.ends o).1.getD i false=true:=by
 unfold Bk.fatR;rw[Zrh,countP_eq_length];exact⟨λ h o f=>h o (Bk.mem_all_iff.2 f),λ h o f=>h o (Bk.mem_all_iff.1 f)⟩
def Bk.fatC_two(b:Bk)(h:b.Ok){i:Nat}:b.fatC i=2↔∀o,b.Ord o->(b.ends o).2.getD i false=false:=by
 unfold Bk.fatC;rw[Zri h.all_pos,countP_eq_zero];exact⟨λ h o f=>by simpa using h o (Bk.mem_all_iff.2 f),λ h o f=>by simpa using h o (Bk.mem_all_iff.1 f)⟩
def Bk.fatR_two(b:Bk)(h:b.Ok){i:Nat}:b.fatR i=2↔∀o,b.Ord o->(b.ends o).1.getD i false=false:=by
 unfold Bk.fatR;rw[Zri h.all_pos,countP_eq_zero];exact⟨λ h o f=>by simpa using h o (Bk.mem_all_iff.2 f),λ h o f=>by simpa using h o (Bk.mem_all_iff.1 f)⟩
def Bk.won_falls(b:Bk)(h:b.Ok){i r:Nat}(z:i<b.cs.length)(B:r<b.rs.length)(ha:(b.cas i).ag.toNat=r)(w:b.fatC i=1):b.fatR r=2:=by
 rw[b.fatR_two h];intro o f;rw[b.end_right h f B];exact⟨i,z,b.fatC_one.1 w o f,ha⟩
def Bk.safe_stands(b:Bk)(h:b.Ok){r:Nat}(F:r<b.rs.length)(z:∀i,i<b.cs.length->(b.cas i).ag.toNat=r->b.fatC i=2):b.fatR r=1:=by
 rw[Bk.fatR_one];intro o f;apply Classical.byContradiction;intro E;obtain⟨i,B,w,ha⟩:=(b.end_right h f F).1 (by simpa using E);rw[(b.fatC_two h).1 (z i B ha) o f]at w;cases w
def Bk.nexts(b:Bk)(o:List Nat):List Nat:=(range b.cs.length).filter λ i=>b.can o i
end Go.TM
namespace Go.TM
variable{b o:Bk}
def Bk.mem_cas{i:Nat}(f:i<b.cs.length):b.cas i∈b.cs:=by
 unfold Bk.cas;rw[getD_eq_getElem?_getD,getElem?_eq_getElem f];exact getElem_mem f
end Go.TM





