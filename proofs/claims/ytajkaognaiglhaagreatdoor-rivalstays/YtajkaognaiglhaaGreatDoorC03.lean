/- Lemmas. No conditions. -/
import Derived.Lib.Bytealg
import Derived.Test.YtajkaognaiglhaaGreatDoorB27
set_option linter.all false
open List
namespace Go.TM
section
open Go
def Zdh(a b:ByteArray):(a.toList==b.toList)=decide (a=b):=by
 by_cases h:a=b
 .simp[h]
 .have:a.toList≠b.toList:=λ e=>h (by
   rw[ByteArray.toList_eq,ByteArray.toList_eq]at e;exact ByteArray.ext (Array.toList_inj.1 e))
  simp[h,this]
end
variable{b:Bk}{r j n k i:Nat}{w st:Bool}{o X f Y z:List Nat}{α:Type}{L:List α}{F:α->Nat->Bool}{c:α}{s a:Int×Int}{l l':List (Int×Int)}
def Bk.nexts(b:Bk)(o:List Nat):List Nat:=(range b.cs.length).filter λ i=>b.can o i
structure Bk.Beg(b:Bk)(o:List Nat):Prop where
 low:∀i∈o,i<b.cs.length
 nod:o.Nodup
 aft:∀X i Y,o=X++i::Y->∀k∈Jd b.A i,k∈X
def Qky:List Int->List Int->Bool
 |[],l=>!l.isEmpty
 |_::_,[]=>false
 |x::l,y::r=>if x=y then Qky l r else decide (x<y)
def Zek:∀l,Qky l l=false
 |[]=>rfl
 |x::l=>by simp[Qky,Zek l]
def Zd5:∀l r,Qky l r=true->Qky r l=false
 |[],[],h=>by simp[Qky]at h
 |[],_::_,_=>rfl
 |_::_,[],h=>by simp[Qky]at h
 |x::l,y::r,h=>by
  simp only[Qky]at h ⊢;by_cases e:x=y
  .rw[if_pos e]at h;rw[if_pos e.symm];exact Zd5 l r h
  .rw[if_neg e]at h;rw[if_neg (Ne.symm e)];simp at h ⊢;omega
def Zej:∀p l r,Qky (p++l) (p++r)=Qky l r
 |[],_,_=>rfl
 |x::p,l,r=>by simp[Qky,Zej p]
abbrev Qan(o:List Nat):List Int:=o.map λ(k:Nat)=>(k:Int)
def Bk.ords_asc(b:Bk):∀(k:Nat)(p:List Nat),(b.ords k p).Pairwise λ o z=>Qky (Qan o) (Qan z)=true
 |0,p=>by simp[Bk.ords]
 |k+1,p=>by
  simp only[Bk.ords];rw[pairwise_flatMap];refine⟨λ i _=>?_,pairwise_lt_range.imp λ{i j}f o w z e=>?_⟩
  .split
   .exact Bk.ords_asc b k _
   .exact .nil
  .split at w
   .split at e
    .obtain⟨q,rfl,-,-⟩:=(Bk.mem_ords k _ o).1 w;obtain⟨q',rfl,-,-⟩:=(Bk.mem_ords k _ z).1 e;simp only[Qan,map_append,append_assoc,Zej,map_cons,map_nil,singleton_append,Qky];rw[if_neg O1];simpa using f
    .cases e
   .cases w
def Bk.dif_some(H:b.Ord o)(E:(b.ends o).1.getD r false=w) :
  b.Ord (b.difS r w)/\(b.ends (b.difS r w)).1.getD r false=w/\Qky (Qan o) (Qan (b.difS r w))=false:=by
 have z:=Bk.mem_all_iff.2 H;cases f:b.all.find? λ o=>(b.ends o).1.getD r false==w with
 |none=>
  have:=find?_eq_none.1 f o z;rw[E]at this;simp at this
 |some d=>
  have G:b.difS r w=d:=by unfold Bk.difS;rw[f];rfl
  obtain⟨I,X,Y,e,F⟩:=find?_eq_some_iff_append.1 f;rw[G];refine⟨Bk.mem_all_iff.1 (by rw[e];simp),by simpa using I,?_⟩;have B:=b.ords_asc b.cs.length [];have e':b.ords b.cs.length []=X++d::Y:=e;rw[e',pairwise_append]at B;rw[e]at z;rcases mem_append.1 z with h|h
  .have:=F o h;rw[E]at this;simp at this
  .rcases mem_cons.1 h with rfl|h
   .exact Zek _
   .exact Zd5 _ _ ((pairwise_cons.1 B.2.1).1 o h)
def Bk.dif_none(h:∀o,b.Ord o->(b.ends o).1.getD r false≠w):b.difS r w=[]:=by
 unfold Bk.difS;rw[find?_eq_none.2 λ o e=>by simpa using h o (Bk.mem_all_iff.1 e)];rfl
def Bk.dif_true(f:b.Ok)(B:0<b.cs.length):(0<(b.difS r true).length↔b.fatR r≠2)/\(b.fatR r≠2->b.Ord (b.difS r true)/\(b.ends (b.difS r true)).1.getD r false=true):=by
 by_cases h:b.fatR r=2
 .have:=b.dif_none (r:=r) (w:=true) λ o e=>by rw[(b.fatR_two f).1 h o e];simp
  rw[this];simp[h]
 .have:∃o,b.Ord o/\(b.ends o).1.getD r false=true:=by
   apply Classical.byContradiction;intro G;exact h ((b.fatR_two f).2 λ o e=>by simpa using λ F=>G ⟨o,e,F⟩)
  obtain⟨o,e,H⟩:=this;obtain⟨z,E,-⟩:=Bk.dif_some e H;refine⟨⟨λ _=>h,λ _=>by rw[z.len];exact B⟩,λ _=>⟨z,E⟩⟩
def Bk.dif_false(z:0<b.cs.length):(0<(b.difS r false).length↔b.fatR r≠1)/\(b.fatR r≠1->b.Ord (b.difS r false)/\(b.ends (b.difS r false)).1.getD r false=false):=by
 by_cases h:b.fatR r=1
 .have:=b.dif_none (r:=r) (w:=false) λ o e=>by rw[b.fatR_one.1 h o e];simp
  rw[this];simp[h]
 .have:∃o,b.Ord o/\(b.ends o).1.getD r false=false:=by
   apply Classical.byContradiction;intro F;exact h (b.fatR_one.2 λ o e=>by simpa using λ E=>F ⟨o,e,E⟩)
  obtain⟨o,e,G⟩:=this;obtain⟨f,B,-⟩:=Bk.dif_some e G;refine⟨⟨λ _=>h,λ _=>by rw[f.len];exact z⟩,λ _=>⟨f,B⟩⟩
def Bk.dif_zero(B:r<b.rs.length)(w:b.cs.length=0):b.difS r true=[]/\b.difS r false=[]/\b.fatR r=1:=by
 have e:b.all=[[]]:=by unfold Bk.all;rw[w];rfl
 have f:(b.ends []).1.getD r false=true:=by simp[Bk.ends,Bk.ini,getD_eq_getElem?_getD,getElem?_replicate,B]
 refine⟨?_,?_,?_⟩
 .unfold Bk.difS;rw[e];simp only[find?_cons,f];rfl
 .unfold Bk.difS;rw[e];simp only[find?_cons,f];rfl
 .rw[Bk.fatR_one];intro o z;have:o=[]:=length_eq_zero_iff.1 (z.len.trans w);rw[this];exact f
def Qb8(L:List α)(F:α->Nat->Bool)(n k i:Nat):List Nat:=(range n).map λ j=>(L.take (if j<i then k+1 else k)).countP λ o=>F o j
def Qdo:(Qb8 L F n k i).length=n:=by simp[Qb8]
def Qk2(h:j<n):(Qb8 L F n k i)[j]?=some ((L.take (if j<i then k+1 else k)).countP λ o=>F o j):=by
 unfold Qb8;rw[getElem?_map,getElem?_range h];rfl
def Q87(h:L[k]?=some c):L.take (k+1)=L.take k++[c]:=by
 rw[take_add_one,h];rfl
def Zd2(w:X.length=n)(h:∀j,j<n->X[j]?=some ((L.take (if j<i then k+1 else k)).countP λ o=>F o j)):X=Qb8 L F n k i:=by
 apply ext_getElem?;intro j;by_cases e:j<n
 .rw[h j e,Qk2 e]
 .rw[getElem?_eq_none O1,getElem?_eq_none (by rw[Qdo];omega)]
def Zfi(B:L[k]?=some c)(f:i<n)(w:F c i=true):(Qb8 L F n k i).set i ((Qb8 L F n k i).getD i 0+1)=Qb8 L F n k (i+1):=by
 refine Zd2 (by rw[length_set,Qdo]) λ j z=>?_;rw[getElem?_set];by_cases e:i=j
 .subst e;rw[if_pos rfl,if_pos (by rw[Qdo];exact f),getD_eq_getElem?_getD,Qk2 f,if_neg O1,if_pos O1,Q87 B,countP_append];simp[w]
 .rw[if_neg e,Qk2 z];have:(j<i)=(j<i+1):=propext O1;simp only[this]
def Zeg(z:L[k]?=some c)(f:F c i=false):Qb8 L F n k i=Qb8 L F n k (i+1):=by
 refine Zd2 Qdo λ j w=>?_;rw[Qk2 w];by_cases e:i=j
 .subst e;rw[if_neg O1,if_pos O1,Q87 z,countP_append];simp[f]
 .have:(j<i)=(j<i+1):=propext O1;simp only[this]
def Zeh:Qb8 L F n k n=Qb8 L F n (k+1) 0:=by
 refine Zd2 Qdo λ j e=>?_;rw[Qk2 e,if_pos e,if_neg O1]
def Zei:Qb8 L F n 0 0=replicate n 0:=by
 apply ext_getElem?;intro j;by_cases e:j<n
 .rw[Qk2 e,if_neg O1,getElem?_replicate,if_pos e];rfl
 .rw[getElem?_eq_none (by rw[Qdo];omega),getElem?_eq_none S3]
def Zfh:Qb8 L F n L.length 0=(range n).map λ j=>L.countP λ o=>F o j:=by
 unfold Qb8;refine map_congr_left λ j _=>?_;rw[if_neg O1,take_length]
def Zfs(h:j<n):(Qb8 L F n k i).getD j 0<=L.length:=by
 rw[getD_eq_getElem?_getD,Qk2 h];exact Nat.le_trans countP_le_length (by rw[length_take];omega)
def Bk.sty_cas(f:s.1.toNat<b.cs.length)(i:Nat):(b.sty s).cas i=if i=s.1.toNat then{ b.cas s.1.toNat with af:=ZI s.2 (b.cas s.1.toNat).af }else b.cas i:=by
 show(b.cs.set s.1.toNat _).getD i default=_;rw[getD_eq_getElem?_getD,getElem?_set];by_cases e:s.1.toNat=i
 .rw[if_pos e,if_pos f,if_pos e.symm];rfl
 .rw[if_neg e,if_neg (λ h=>e h.symm),<- getD_eq_getElem?_getD];rfl
def Bk.sty_stp(w:s.1.toNat<b.cs.length):(b.sty s).stp=b.stp:=by
 funext x i;have h:=Bk.sty_cas w i;have e:((b.sty s).cas i).gs=(b.cas i).gs:=by rw[h];split <;> simp_all
 have f:((b.sty s).cas i).ag=(b.cas i).ag:=by rw[h];split <;> simp_all
 unfold Bk.stp;rw[e,f]
def Bk.sty_ends(e:s.1.toNat<b.cs.length)(o:List Nat):(b.sty s).ends o=b.ends o:=by
 unfold Bk.ends;rw[Bk.sty_stp e];unfold Bk.ini;rw[b.sty_len];rfl
def Bk.sty_aft(f:s.1.toNat<b.cs.length)(h:k∈Jd b.A i):k∈Jd (b.sty s).A i:=by
 unfold Jd Bk.A at h ⊢;rw[getD_eq_getElem?_getD,getElem?_map]at h ⊢;show k∈((((b.cs.set s.1.toNat _))[i]?).map _).getD [];rw[getElem?_set];by_cases e:s.1.toNat=i
 .rw[if_pos e,if_pos f];subst e;have w:b.cas s.1.toNat=b.cs[s.1.toNat]:=by simp[Bk.cas,getD_eq_getElem?_getD,f]
  rw[getElem?_eq_getElem f,<- w]at h;simp only[Option.map_some,Option.getD_some,mem_map]at h ⊢;obtain⟨n,z,e⟩:=h;exact⟨n,(Ps _ _ _).2 (.inr z),e⟩
 .rw[if_neg e];exact h
def Bk.sty_ord(z:s.1.toNat<b.cs.length)(h:(b.sty s).Ord o):b.Ord o:=
 ⟨by rw[h.len,b.sty_len],λ i f=>by have:=h.low i f;rwa [b.sty_len]at this,h.nod,λ X i Y e k w=>h.aft X i Y e k (Bk.sty_aft z w)⟩
def Bk.FrL(b:Bk):List (Int×Int)->Prop
 |[]=>True
 |s::l=>b.Fr s/\(b.sty s).FrL l
def Bk.FrL.snoc:∀{b:Bk},b.FrL l->(b.stys l).Fr s->b.FrL (l++[s]):=by
 induction l with
 |nil=>exact λ h e=>⟨e,trivial⟩
 |cons x l f=>exact λ h e=>⟨h.1,f h.2 e⟩
def Bk.FrL.ok1:∀{b:Bk},b.Ok1->b.FrL l->(b.stys l).Ok1:=by
 induction l with
 |nil=>exact λ h _=>h
 |cons x l f=>exact λ h e=>f (h.sty e.1) e.2
def Bk.FrL.ends{l:List (Int×Int)}:∀{b:Bk},b.FrL l->∀o,(b.stys l).ends o=b.ends o:=by
 induction l with
 |nil=>exact λ _ _=>rfl
 |cons x l e=>exact λ h o=>(e h.2 o).trans (Bk.sty_ends h.1.cl o)
def Zhi(o:List Nat)(s:Int×Int):Prop:=∀X Y,o=X++s.1.toNat::Y->s.2.toNat∈X
def Bk.aft1_cas(e:i<b.cs.length):Jd b.A i=(b.cas i).af.map Int.toNat:=by
 unfold Jd Bk.A Bk.cas;rw[getD_eq_getElem?_getD,getD_eq_getElem?_getD,getElem?_map,getElem?_eq_getElem e];rfl
def Bk.sty_aft_iff(w:s.1.toNat<b.cs.length)(f:i<b.cs.length):k∈Jd (b.sty s).A i↔k∈Jd b.A i\/(i=s.1.toNat/\k=s.2.toNat):=by
 rw[Bk.aft1_cas (by rw[b.sty_len];exact f),Bk.aft1_cas f,Bk.sty_cas w];by_cases e:i=s.1.toNat
 .subst e;simp only[if_true,mem_map,Ps,true_and];constructor
  .rintro⟨n,rfl|hn,e⟩
   .exact .inr e.symm
   .exact .inl ⟨n,hn,e⟩
  .rintro(⟨n,hn,e⟩|rfl)
   .exact⟨n,.inr hn,e⟩
   .exact⟨_,.inl rfl,rfl⟩
 .rw[if_neg e];simp[e]
def Bk.sty_ord_iff(f:s.1.toNat<b.cs.length):(b.sty s).Ord o↔b.Ord o/\Zhi o s:=by
 constructor
 .intro h;refine⟨Bk.sty_ord f h,λ X Y e=>?_⟩;exact h.aft X _ Y e _ ((Bk.sty_aft_iff f f).2 (.inr ⟨rfl,rfl⟩))
 .rintro⟨h,hk⟩;refine⟨by rw[h.len,b.sty_len],λ i B=>by rw[b.sty_len];exact h.low i B,h.nod,λ X i Y e k w=>?_⟩;rcases(Bk.sty_aft_iff f (h.low i (by rw[e];simp))).1 w with z|⟨rfl,rfl⟩
  .exact h.aft X i Y e k z
  .exact hk X Y e
def Bk.FrL.ord_iff:∀{l:List (Int×Int)}{b:Bk},b.FrL l->∀{o},(b.stys l).Ord o↔b.Ord o/\∀s∈l,Zhi o s
 |[],b,_,o=>by simp[Bk.stys]
 |s::l,b,h,o=>by
  have e:(b.stys (s::l)).Ord o↔((b.sty s).stys l).Ord o:=Iff.rfl;rw[e,Bk.FrL.ord_iff h.2,Bk.sty_ord_iff h.1.cl];simp only[mem_cons,forall_eq_or_imp,and_assoc]
def Bk.Ok1.loops_iff(h:b.Ok1):W4 b.A=false↔∃o,b.Ord o:=by
 constructor
 .exact λ G=>(h.ok G).ord
 .rintro⟨o,ho⟩
  have w:∀i,i<b.A.length->∀k∈Jd b.A i,k<b.A.length:=by
   intro i f k z;rw[b.A_n]at f ⊢;rw[Bk.aft1_cas f]at z;obtain⟨n,B,rfl⟩:=mem_map.1 z;obtain⟨I,F⟩:=h.af _ (Bk.cas_mem f) n B;unfold Bk.nc at F;omega
  refine Cx w (λ i=>o.idxOf i) λ i f k z=>?_;rw[b.A_n]at f;obtain⟨X,Y,e⟩:=ho.split f;have E:=ho.aft X i Y e k z
  have B:i∉X:=by
   have:=ho.nod;rw[e]at this;intro H;exact(nodup_append.1 this).2.2 i H i S1 rfl
  show o.idxOf k<o.idxOf i;rw[e,idxOf_append,idxOf_append,if_pos E,if_neg B,idxOf_cons_self];have:=idxOf_lt_length_of_mem E;omega
def Bk.frL_of:∀{l:List (Int×Int)}{b:Bk},(∀s∈l,b.Fr s)->l.Nodup->b.FrL l
 |[],_,_,_=>trivial
 |s::l,b,h,B=>by
  obtain⟨w,z⟩:=nodup_cons.1 B;exact⟨h s S1,Bk.frL_of (λ E f=>(h s S1).sty (h E (by simp[f])) λ e=>w (e▸f)) z⟩
def Bk.OrdK(b:Bk)(l:List (Int×Int))(o:List Nat):Prop:=b.Ord o/\∀s∈l,Zhi o s
def Bk.good_iff(E:b.Ok)(h:b.FrL l):b.good r (X5 st) l=true↔(∃o,b.OrdK l o)/\∀o,b.OrdK l o->(b.ends o).1.getD r false=st:=by
 have w:=h.ok1 E.ok1;unfold Bk.good;rw[Bool.and_eq_true,Bool.not_eq_true',w.loops_iff,beq_iff_eq];constructor
 .rintro⟨⟨o,f⟩,hf⟩;have e:=w.ok (w.loops_iff.2 ⟨o,f⟩);refine⟨⟨o,h.ord_iff.1 f⟩,λ o f=>?_⟩;have B:=h.ord_iff.2 f;rw[<- h.ends];cases st with
  |true=>exact(Bk.fatR_one _).1 hf o B
  |false=>exact(Bk.fatR_two _ e).1 hf o B
 .rintro⟨⟨o,f⟩,hf⟩;have z:∃o,(b.stys l).Ord o:=⟨o,h.ord_iff.2 f⟩;have e:=w.ok (w.loops_iff.2 z);refine⟨z,?_⟩;cases st with
  |true=>exact(Bk.fatR_one _).2 λ o f=>by rw[h.ends];exact hf o (h.ord_iff.1 f)
  |false=>exact(Bk.fatR_two _ e).2 λ o f=>by rw[h.ends];exact hf o (h.ord_iff.1 f)
def Bk.OrdK.mono(h:b.OrdK l o)(f:∀s∈l',s∈l):b.OrdK l' o:=⟨h.1,λ s e=>h.2 s (f s e)⟩
def Qtc:∀{l:List (Int×Int)},l.Pairwise (λ x y=>Ws x y<0)->∀m,(TM.parts l m).Pairwise λ x y=>Wi x y<0
 |l,_,0=>by rw[Pb];simp
 |[],_,m+1=>by simp[TM.parts]
 |a::l,h,m+1=>by
  have w:=pairwise_cons.1 h;have e:TM.parts (a::l) (m+1)=(TM.parts l m).map (a::·)++TM.parts l (m+1):=rfl;rw[e,pairwise_append];refine⟨?_,Qtc w.2 (m+1),λ x H y I=>?_⟩
  .refine Pairwise.map _ (λ x y E=>?_) (Qtc w.2 m);have f:Wi (a::x) (a::y)=if Ws a a≠0 then Ws a a else Wi x y:=rfl
   rw[f,HP.2 (rfl:a=a)];simpa using E
  .obtain⟨x,-,rfl⟩:=mem_map.1 H;obtain⟨z,F⟩:=HG.1 I
   match y,z,F with
   |b::y,z,_=>
    have G:b∈l:=z.subset S1;have B:=w.1 b G;have f:Wi (a::x) (b::y)=if Ws a b≠0 then Ws a b else Wi x y:=rfl
    rw[f,if_pos O1];exact B
def Bk.canI_asc(b:Bk)(i m:Nat):(b.canI i m).Pairwise λ x y=>Ws x y<0:=by
 unfold Bk.canI;refine Pairwise.map _ (λ a c e=>?_) ((pairwise_lt_range).filter _);rw[Pz];exact .inr ⟨rfl,by simp only;omega⟩
def Bk.cansTo_asc(b:Bk):∀i:Nat,(b.cansTo i).Pairwise λ x y=>Ws x y<0
 |0=>by simp[Bk.cansTo]
 |i+1=>by
  rw[Bk.cansTo_succ,pairwise_append];refine⟨Bk.cansTo_asc b i,Bk.canI_asc b i _,λ x e y f=>?_⟩;have w:=Bk.cansTo_mem e;have z:=Bk.canI_mem f;rw[Pz];exact .inl O1
def Bk.cans_asc(b:Bk):b.cans.Pairwise λ x y=>Ws x y<0:=Bk.cansTo_asc b _
def Zd3{p:List (Int×Int)->Bool}:∀{L:List (List (Int×Int))},L.Pairwise (λ x y=>Wi x y<0)->∀{x},L.find? p=some x->∀y∈L,p y=true->¬Wi y x<0
 |[],_,_,h,_,_,_=>by cases h
 |a::L,E,x,h,y,w,f=>by
  have z:=pairwise_cons.1 E;rw[find?_cons]at h;cases e:p a with
  |true=>
   rw[e]at h;cases h;rcases mem_cons.1 w with rfl|w
   .exact VR _
   .exact λ B=>VR _ (KP (z.1 y w) B)
  |false=>
   rw[e]at h;rcases mem_cons.1 w with rfl|w
   .rw[e]at f;cases f
   .exact Zd3 z.2 h y w f
def Bk.cert_least(b:Bk)(r:Nat)(w:Int)(m:Nat):(∀x,x.Sublist b.cans->x.length=m+1->b.good r w x=true->∃y,Hs (b.crL r w m) b.cans.length=some y/\¬Wi x y<0) /\
  ∀y,Hs (b.crL r w m) b.cans.length=some y->y.Sublist b.cans/\y.length=m+1/\b.good r w y=true:=by
 have S:=Sx (b.crL r w m) b.cans.length;constructor
 .intro x hs z hg
  match x,z with
  |ci::q,z=>
   obtain⟨i,N,I⟩:∃i,b.cans[i]?=some ci/\q.Sublist (b.cans.drop (i+1)):=by
    have:∀(L:List (Int×Int)),(ci::q).Sublist L->∃i,L[i]?=some ci/\q.Sublist (L.drop (i+1)):=by
     intro L
     induction L with
     |nil=>intro h;cases h
     |cons a L W=>
      intro h;cases h with
      |cons _ h=>
       obtain⟨i,E,K⟩:=W h;exact⟨i+1,E,K⟩
      |cons_cons _ h=>exact⟨0,rfl,h⟩
    exact this _ hs
   have F:=(List.getElem?_eq_some_iff.1 N).1;have H:q∈TM.parts (b.cans.drop (i+1)) m:=HG.2 ⟨I,by simpa using z⟩;have f:b.crL r w m i=((TM.parts (b.cans.drop (i+1)) m).find? λ q=>b.good r w (ci::q)).map (ci::·):=by unfold Bk.crL;rw[N];rfl
   obtain⟨B,G⟩:∃B,(TM.parts (b.cans.drop (i+1)) m).find? (λ q=>b.good r w (ci::q))=some B:=by
    rw[<- Option.isSome_iff_exists,find?_isSome];exact⟨q,H,hg⟩
   have P:¬Wi q B<0:=Zd3 (Qtc ((Bk.cans_asc b).drop) m) G q H hg;have f:b.crL r w m i=some (ci::B):=by rw[f,G];rfl
   obtain⟨y,Q,V⟩:=S.1 i (ci::B) F (by simp[ZH,F,f]) f;refine⟨y,Q,λ E=>V ?_⟩;by_cases e:Wi (ci::B) (ci::q)<0
   .exact KP e E
   .have e1:Wi (ci::q) (ci::B)=if Ws ci ci≠0 then Ws ci ci else Wi q B:=rfl
    have T:¬Wi (ci::q) (ci::B)<0:=by
     rw[e1,HP.2 (rfl:ci=ci)];simpa using P
    rw[DY e T];exact E
 .intro y Q;obtain⟨i,N,-,f⟩:=S.2 y Q;unfold Bk.crL at f;obtain⟨ci,M,f⟩:=Option.bind_eq_some_iff.1 f;obtain⟨q,I,rfl⟩:=Option.map_eq_some_iff.1 f;obtain⟨E,K⟩:=HG.1 (mem_of_find?_eq_some I);refine⟨?_,by simp[K],by have:=find?_some I;exact this⟩;have:b.cans.drop i=ci::b.cans.drop (i+1):=Hk M;have U:(ci::q).Sublist (b.cans.drop i):=by rw[this];exact E.cons_cons ci
  exact U.trans (drop_sublist ..)
def Zca{α:Type}{F:Nat->Option α}:∀{k m:Nat},Xm F m k=none↔∀j,j<k->F (m+j)=none
 |0,m=>by simp[Xm]
 |k+1,m=>by
  rw[SC];cases e:F m with
  |some x=>
   simp only[reduceCtorEq,false_iff];intro h;have:=h 0 O1;rw[Nat.add_zero,e]at this;cases this
  |none=>
   simp only;rw[Zca];constructor
   .intro h j hj;rcases Nat.eq_zero_or_pos j with rfl|f
    .exact e
    .have:=h (j-1) O1
     rwa [show m+1+(j-1)=m+j by omega]at this
   .intro h j hj;have:=h (j+1) O1
    rwa [show m+(j+1)=m+1+j by omega]at this
def Qjd{α:Type}{F:Nat->Option α}{x:α}:∀{k m:Nat},Xm F m k=some x->∃j,j<k/\F (m+j)=some x/\∀f,f<j->F (m+f)=none
 |0,m,h=>by cases h
 |k+1,m,h=>by
  rw[SC]at h;cases e:F m with
  |some y=>
   rw[e]at h;cases h;exact⟨0,O1,e,λ f h=>O1⟩
  |none=>
   rw[e]at h;obtain⟨j,G,w,z⟩:=Qjd h;refine⟨j+1,O1,by rw[<- w];congr 1;omega,λ f B=>?_⟩;rcases Nat.eq_zero_or_pos f with rfl|E
   .exact e
   .have:=z (f-1) O1
    rwa [show m+1+(f-1)=m+f by omega]at this
def Bk.Fr.of_sty(B:b.Fr s)(h:(b.sty s).Fr a):b.Fr a/\a≠s:=by
 have w:=Bk.sty_cas B.cl a.1.toNat;have f:=h.no;rw[w]at f;refine⟨⟨h.c0,by have:=h.cl;rwa [b.sty_len]at this,h.u0,by have:=h.ul;unfold Bk.nc at this ⊢;rwa [b.sty_len]at this,?_⟩,?_⟩
 .intro hm;apply f;split
  .rename_i e;rw[e]at hm;exact(Ps _ _ _).2 (.inr hm)
  .exact hm
 .rintro rfl;apply f;rw[if_pos rfl];exact(Ps _ _ _).2 (.inl rfl)
def Bk.FrL.all:∀{l:List (Int×Int)}{b:Bk},b.FrL l->(∀s∈l,b.Fr s)/\l.Nodup
 |[],_,_=>⟨S1,.nil⟩
 |s::l,b,h=>by
  obtain⟨f,w⟩:=Bk.FrL.all h.2;refine⟨λ B e=>?_,nodup_cons.2 ⟨λ z=>(Bk.Fr.of_sty h.1 (f s z)).2 rfl,w⟩⟩;rcases mem_cons.1 e with rfl|e
  .exact h.1
  .exact(Bk.Fr.of_sty h.1 (f B e)).1
def Bk.norm(b:Bk)(l:List (Int×Int)):List (Int×Int):=b.cans.filter λ s=>l.contains s
def Bk.norm_sub(b:Bk)(l:List (Int×Int)):(b.norm l).Sublist b.cans:=filter_sublist
def Bk.norm_mem(h:∀s∈l,s∈b.cans)(s:Int×Int):s∈b.norm l↔s∈l:=by
 unfold Bk.norm;rw[mem_filter];simp only[contains_eq_mem,decide_eq_true_eq];exact⟨λ x=>x.2,λ x=>⟨h s x,x⟩⟩
def Bk.norm_perm(h:∀s∈l,s∈b.cans)(e:l.Nodup):(b.norm l).Perm l:=
 (perm_ext_iff_of_nodup ((Bk.cans_nodup b).sublist (Bk.norm_sub b l)) e).2 (Bk.norm_mem h)
def Bk.sub_frL(h:l.Sublist b.cans):b.FrL l:=Bk.frL_of (λ s e=>Bk.cans_fr (h.subset e)) ((Bk.cans_nodup b).sublist h)
def Bk.chain(b:Bk):List Nat->List (Int×Int)
 |a::c::o=>(if a∈Jd b.A c then[]else[((c:Int),(a:Int))])++b.chain (c::o)
 |_=>[]
def Bk.chain_len(b:Bk):∀o:List Nat,(b.chain o).length<=o.length-1
 |[]=>by simp[Bk.chain]
 |[_]=>by simp[Bk.chain]
 |a::c::o=>by
  have:=Bk.chain_len b (c::o);unfold Bk.chain;split <;> simp at this ⊢ <;> omega
def Bk.chain_mem:∀{o:List Nat}{s:Int×Int},s∈b.chain o->∃(X:List Nat)(a c:Nat)(Y:List Nat),o=X++a::c::Y/\s=((c:Int),(a:Int))/\a∉Jd b.A c
 |[],s,h=>by simp[Bk.chain]at h
 |[_],s,h=>by simp[Bk.chain]at h
 |a::c::o,s,h=>by
  unfold Bk.chain at h;rw[mem_append]at h;rcases h with h|h
  .split at h
   .cases h
   .rename_i hn;rw[mem_singleton]at h;exact⟨[],a,c,o,rfl,h,hn⟩
  .obtain⟨X,a',c',Y,e,e2,hn⟩:=Bk.chain_mem h;exact⟨a::X,a',c',Y,by rw[e];rfl,e2,hn⟩
def Bk.chain_has:∀{X:List Nat}{a c:Nat}{Y:List Nat},a∉Jd b.A c->((c:Int),(a:Int))∈b.chain (X++a::c::Y)
 |[],a,c,Y,h=>by
  show _∈(if a∈Jd b.A c then[]else[((c:Int),(a:Int))])++_;rw[if_neg h];simp
 |[x],a,c,Y,h=>by
  show _∈(if x∈Jd b.A a then[]else[((a:Int),(x:Int))])++b.chain (a::c::Y);exact mem_append_right _ (Bk.chain_has (X:=[]) h)
 |x::e::X,a,c,Y,h=>by
  show _∈(if x∈Jd b.A e then[]else[((e:Int),(x:Int))])++b.chain (e::(X++a::c::Y));exact mem_append_right _ (Bk.chain_has (X:=e::X) h)
def Zd7(w:o.Nodup)(h:o=X++i::Y)(B:o=f++i::z):X=f:=by
 have key:∀{X f Y z:List Nat},(X++i::Y).Nodup->X++i::Y=f++i::z->X=f:=by
  intro X
  induction X with
  |nil=>
   intro f Y z w e;cases f with
   |nil=>rfl
   |cons x f=>
    simp only[nil_append,cons_append,List.cons.injEq]at e;obtain⟨rfl,e⟩:=e;rw[e]at w;simp at w
  |cons x X E=>
   intro f Y z w e;cases f with
   |nil=>
    simp only[nil_append,cons_append,List.cons.injEq]at e;obtain⟨rfl,e⟩:=e;simp at w
   |cons F f=>
    simp only[cons_append,List.cons.injEq]at e;obtain⟨rfl,e⟩:=e;rw[E (nodup_cons.1 w).2 e]
 subst h;exact key w B
def Bk.Ord.chain_kept(f:b.Ord o):b.OrdK (b.chain o) o:=by
 refine⟨f,λ s B E F e=>?_⟩;obtain⟨X,a,c,Y,w,rfl,-⟩:=Bk.chain_mem B;simp only[Int.toNat_natCast]at e ⊢;have z:o=(X++[a])++c::Y:=by rw[w];simp
 rw[<- Zd7 f.nod z e];simp
def Qs5{R:Nat->Nat->Prop}(z:∀a c d,R a c->R c d->R a d):∀{o:List Nat},(∀X a c Y,o=X++a::c::Y->R a c)->o.Pairwise R
 |[],_=>.nil
 |[_],_=>S1
 |a::c::o,h=>by
  have B:=Qs5 z (o:=c::o) λ X a' E Y e=>h (a::X) a' E Y (by rw[e];rfl);refine pairwise_cons.2 ⟨λ x f=>?_,B⟩;have w:=h [] a c o rfl;rcases mem_cons.1 f with rfl|f
  .exact w
  .exact z _ _ _ w ((pairwise_cons.1 B).1 x f)
def Zhe(h:∀X a c Y,o=X++a::c::Y->∀f w,z=f++c::w->a∈f)(M:z.Nodup)(U:∀x,x∈o↔x∈z)(N:o.Nodup):z=o:=by
 have V:∀a c d,(∀f w,z=f++c::w->a∈f)->(∀f w,z=f++d::w->c∈f)->∀f w,z=f++d::w->a∈f:=by
  intro a c d H I f w e;obtain⟨F,G,B⟩:=append_of_mem (I f w e);have:=H F (G++d::w) (by rw[e,B];simp);rw[B];simp[this]
 have Z:=Qs5 (R:=λ a c=>∀f w,z=f++c::w->a∈f) V h
 have p2:∀(L P:List Nat),z=P++L->L.Pairwise λ a c=>∀f w,z=f++c::w->a∈f:=by
  intro L
  induction L with
  |nil=>exact λ _ _=>.nil
  |cons a L W=>
   intro P e;refine pairwise_cons.2 ⟨λ c K f w e'=>?_,W (P++[a]) (by rw[e];simp)⟩;obtain⟨Q,S,T⟩:=append_of_mem K;have:z=(P++a::Q)++c::S:=by rw[e,T];simp
   rw[<- Zd7 M this e'];simp
 refine(Perm.eq_of_pairwise (le:=λ a c=>∀f w,z=f++c::w->a∈f) (λ a c ha K H I=>?_) Z (p2 z [] rfl) ((perm_ext_iff_of_nodup N M).2 U)).symm;exfalso;obtain⟨X,Y,e⟩:=append_of_mem K;obtain⟨F,G,B⟩:=append_of_mem (H X Y e);have:=I F (G++c::Y) (by rw[e,B];simp);have E:=M;rw[e]at E;exact(nodup_append.1 E).2.2 c (by rw[B];simp[this]) c S1 rfl
def Bk.chain_only{F:List Nat}(B:b.Ord o)(h:b.OrdK (b.chain o) F):F=o:=by
 have f:∀X a c Y,o=X++a::c::Y->∀w z,F=w++c::z->a∈w:=by
  intro X a c Y e w z e';by_cases G:a∈Jd b.A c
  .exact h.1.aft w c z e' a G
  .have:=h.2 _ (by rw[e];exact Bk.chain_has G) w z (by simpa using e');simpa using this
 exact Zhe f h.1.nod (λ x=>⟨λ E=>h.1.has (B.low x E),λ E=>B.has (h.1.low x E)⟩) B.nod
