/- Lemmas. No conditions. -/
import Derived.Test.YtajkaognaiglhaaGreatDoorC03
import Derived.Test.YtajkaognaiglhaaGreatDoorB28
set_option linter.all false
open List
namespace Go.TM
variable{b:Bk}
def Bk.chain_fst{o:List Nat}{a:Nat}{s:Int×Int}(h:s∈b.chain (a::o)):∃c∈o,s.1=(c:Int):=by
 obtain⟨X,a',c,Y,e,rfl,-⟩:=Bk.chain_mem h;refine⟨c,?_,rfl⟩;cases X with
 |nil=>simp only[nil_append,List.cons.injEq]at e;rw[e.2];simp
 |cons x X=>simp only[cons_append,List.cons.injEq]at e;rw[e.2];simp
def Bk.chain_nodup:∀{o:List Nat},o.Nodup->(b.chain o).Nodup
 |[],_=>.nil
 |[_],_=>.nil
 |a::c::o,h=>by
  obtain⟨E,f⟩:=nodup_cons.1 h;have w:=Bk.chain_nodup f;unfold Bk.chain;split
  .exact w
  .refine nodup_cons.2 ⟨λ z=>?_,w⟩;obtain⟨x,B,e⟩:=Bk.chain_fst z;have:c=x:=by simp only at e;omega
   subst this;exact(nodup_cons.1 f).1 B
def Bk.chain_cans{o:List Nat}(f:b.Ord o){s:Int×Int}(h:s∈b.chain o):s∈b.cans:=by
 obtain⟨X,a,c,Y,e,rfl,F⟩:=Bk.chain_mem h;have w:=f.low c (by rw[e];simp);have B:=f.low a (by rw[e];simp);refine Bk.cans_iff.2 ⟨c,a,w,B,λ z=>?_,λ E=>F ?_,rfl⟩
 .subst z;have:=f.nod;rw[e]at this;exact(nodup_cons.1 (nodup_append.1 this).2.1).1 S1
 .rw[Bk.aft1_cas w];exact mem_map.2 ⟨_,E,S1⟩
def Zdv{st:Bool}(x:Int)(h:x=X3 st):x≠X3 (!st):=by cases st <;> subst h <;> decide
def Bk.fat_want(e:b.Ok){r:Nat}{st:Bool}:b.fatR r=X3 st↔∀o,b.Ord o->(b.ends o).1.getD r false=st:=by
 cases st with
 |true=>exact Bk.fatR_one _
 |false=>exact Bk.fatR_two _ e
def Bk.good_nil(e:b.Ok){r:Nat}{st:Bool}(h:b.good r (X3 st) []=true):b.fatR r=X3 st:=by
 have h:=(Bk.good_iff e (l:=[]) trivial).1 h;exact(Bk.fat_want e).2 λ o f=>h.2 o ⟨f,S1⟩
def Bk.enough(z:b.Ok){r:Nat}{st:Bool}(I:b.fatR r≠X3 st)(K:b.fatR r≠X3 (!st)):∃x,x.Sublist b.cans/\b.good r (X3 st) x=true/\0<x.length/\x.length<=b.cs.length-1:=by
 obtain⟨o,w,H⟩:∃o,b.Ord o/\(b.ends o).1.getD r false=st:=by
  apply Classical.byContradiction;intro L;apply K;rw[Bk.fat_want z];intro o w;have:(b.ends o).1.getD r false≠st:=λ e=>L ⟨o,w,e⟩;cases st <;> cases h:(b.ends o).1.getD r false <;> simp_all
 have E:∀s∈b.chain o,s∈b.cans:=λ s B=>Bk.chain_cans w B;have M:=Bk.norm_perm E (Bk.chain_nodup w.nod);have f:=Bk.chain_len b o;rw[w.len]at f
 have F:b.good r (X3 st) (b.norm (b.chain o))=true:=by
  rw[Bk.good_iff z (Bk.sub_frL (Bk.norm_sub b _))];refine⟨⟨o,w.chain_kept.mono λ s B=>(Bk.norm_mem E s).1 B⟩,λ P G=>?_⟩;rw[Bk.chain_only w (G.mono λ s B=>(Bk.norm_mem E s).2 B)];exact H
 refine⟨_,Bk.norm_sub b _,F,?_,by rw[M.length_eq];exact f⟩;cases N:b.norm (b.chain o)with
 |nil=>rw[N]at F;exact absurd (Bk.good_nil z F) I
 |cons=>simp
def Bk.stF_eq(b:Bk){r:Nat}{st:Bool}(h:b.askF r=0):b.stF r st=if b.fatR r=X3 st then some []else if b.fatR r=X3 (!st)then none else Xj (λ m=>Hq (b.crL r (X3 st) m) b.cans.length) 0 (b.cs.length-1):=by
 unfold Bk.stF Bk.staF;rw[if_pos h,Int.toNat_natCast]
def Bk.stF_good(e:b.Ok){r:Nat}{st:Bool}(h:b.askF r=0){y:List (Int×Int)}(f:b.stF r st=some y):y.Sublist b.cans/\b.good r (X3 st) y=true:=by
 rw[Bk.stF_eq b h]at f;split at f
 .rename_i hf;cases f;refine⟨nil_sublist _,(Bk.good_iff e (l:=[]) trivial).2 ⟨?_,λ o w=>(Bk.fat_want e).1 hf o w.1⟩⟩;obtain⟨o,w⟩:=e.ord;exact⟨o,w,S1⟩
 .split at f
  .cases f
  .obtain⟨j,-,hj,-⟩:=Qdo f;rw[Nat.zero_add]at hj;obtain⟨z,-,B⟩:=(Bk.cert_least b r (X3 st) j).2 y hj;exact⟨z,B⟩
def Bk.stF_some(w:b.Ok){r:Nat}{st:Bool}(h:b.askF r=0):(b.stF r st).isSome=true↔b.fatR r≠X3 (!st):=by
 rw[Bk.stF_eq b h];by_cases f:b.fatR r=X3 st
 .rw[if_pos f];simp only[Option.isSome_some,true_iff];exact Zdv _ f
 .rw[if_neg f];by_cases e:b.fatR r=X3 (!st)
  .rw[if_pos e];simp[e]
  .rw[if_neg e];simp only[ne_eq,e,not_false_eq_true,iff_true];rw[<- Option.ne_none_iff_isSome];intro B;obtain⟨x,E,z,G,H⟩:=Bk.enough w f e;obtain⟨y,F,-⟩:=(Bk.cert_least b r (X3 st) (x.length-1)).1 x E O1 z;have:=Qn1.1 B (x.length-1) O1;rw[Nat.zero_add]at this;rw[F]at this;cases this
def Bk.stF_least(f:b.Ok){r:Nat}{st:Bool}(h:b.askF r=0){x:List (Int×Int)}(M:x.Sublist b.cans)(G:b.good r (X3 st) x=true):∃y,b.stF r st=some y/\y.length<=x.length/\(x.length=y.length->¬Wi x y<0):=by
 obtain⟨⟨o,L⟩,B⟩:=(Bk.good_iff f (Bk.sub_frL M)).1 G
 have K:b.fatR r≠X3 (!st):=by
  intro e;have:=(Bk.fat_want f).1 e o L.1;rw[B o L]at this;cases st <;> cases this
 obtain⟨y,w⟩:=Option.isSome_iff_exists.1 ((Bk.stF_some f h (st:=st)).2 K);refine⟨y,w,?_⟩;rw[Bk.stF_eq b h]at w;by_cases E:b.fatR r=X3 st
 .rw[if_pos E]at w;cases w;refine⟨S1,λ e=>?_⟩;have:x=[]:=length_eq_zero_iff.1 (by simpa using e);subst this;exact VW _
 .rw[if_neg E,if_neg K]at w;obtain⟨j,U,F,H⟩:=Qdo w;rw[Nat.zero_add]at F;have S:=((Bk.cert_least b r (X3 st) j).2 y F).2.1
  have T:0<x.length:=by
   cases x with
   |nil=>exact absurd (Bk.good_nil f G) E
   |cons=>simp
  obtain⟨z,I,Q⟩:=(Bk.cert_least b r (X3 st) (x.length-1)).1 x M O1 G
  have N:j<=x.length-1:=by
   apply Classical.byContradiction;intro P;have:=H (x.length-1) O1;rw[Nat.zero_add]at this;rw[I]at this;cases this
  refine⟨O1,λ e=>?_⟩;have:x.length-1=j:=O1
  rw[this,F]at I;cases I;exact Q
def Bk.FrL.mid{x:Int×Int}{r:List (Int×Int)}:∀{l:List (Int×Int)}{b:Bk},b.FrL (l++x::r)->(b.stys l).Fr x
 |[],_,h=>h.1
 |_::l,_,h=>Bk.FrL.mid (l:=l) h.2
def Zeg{x y:List (Int×Int)}(w:x.Perm y)(z:x.Pairwise λ s t=>Ws s t<0)(B:y.Pairwise λ s t=>Ws s t<0):x=y:=by
 refine w.eq_of_pairwise (le:=λ s t=>Ws s t<0) (λ a c _ _ e f=>?_) z B;rw[PA]at e f;exact Prod.ext O1 O1
def Zcp:∀{l:List (Int×Int)},(∀i s t,l[i]?=some s->l[i+1]?=some t->Ws s t<0)->l.Pairwise λ s t=>Ws s t<0
 |[],_=>.nil
 |[_],_=>S1
 |a::c::l,h=>by
  have w:=Zcp (l:=c::l) λ i s t z B=>h (i+1) s t (by simpa using z) (by simpa using B);have e:=h 0 a c rfl rfl;refine pairwise_cons.2 ⟨λ s f=>?_,w⟩;rcases mem_cons.1 f with rfl|f
  .exact e
  .have:=(pairwise_cons.1 w).1 s f;rw[PA]at e this ⊢;omega
def Zdl{l r:List (Int×Int)}{i:Nat}{x y:Int×Int}(e:l[i]?=some x)(f:r[i]?=some y):Wi (l.drop i) (r.drop i)=if Ws x y≠0 then Ws x y else Wi (l.drop (i+1)) (r.drop (i+1)):=by
 rw[Hh e,Hh f,MH]
def Zce{l r:List (Int×Int)}{i:Nat}(B:i<=l.length)(z:i<=r.length)(h:i=l.length\/i=r.length):Wi (l.drop i) (r.drop i)<0↔l.length<r.length:=by
 by_cases f:i=l.length
 .rw[f,drop_length];by_cases e:l.length<r.length
  .rw[Hh (getElem?_eq_getElem e),ML];simp[e]
  .rw[drop_eq_nil_of_le O1,MM];simp[e]
 .have e:i=r.length:=O1
  have w:r.length<l.length:=O1
  rw[e,drop_length,Hh (getElem?_eq_getElem w),MJ];simp;omega
def Bk.stF_len{r:Nat}{st:Bool}(h:b.askF r=0){y:List (Int×Int)}(e:b.stF r st=some y):y.length<=b.cs.length-1:=by
 rw[Bk.stF_eq b h]at e;split at e
 .cases e;simp
 .split at e
  .cases e
  .obtain⟨j,hj,hF,-⟩:=Qdo e;rw[Nat.zero_add]at hF;have:=((Bk.cert_least b r (X3 st) j).2 y hF).2.1;omega
def Bk.good_of{r:Nat}{w:Int}{l:List (Int×Int)}:b.good r w l=true↔W4 (b.stys l).A=false/\(b.stys l).fatR r=w:=by
 unfold Bk.good;rw[Bool.and_eq_true,Bool.not_eq_true',beq_iff_eq]
def Bk.holds_found(e:b.Ok){r:Nat}{st:Bool}(h:b.askF r=0):(b.stF r st).isSome=(b.fatR r==0|| b.fatR r==X3 st):=by
 rw[Bool.eq_iff_iff,Bk.stF_some e h];have:=Zb8 (b.all.countP λ o=>(b.ends o).1.getD r false) b.all.length;have:b.fatR r=0\/b.fatR r=1\/b.fatR r=2:=this;cases st <;> simp[X3] <;> omega
def Bk.holds_other(f:b.Ok){r:Nat}{st:Bool}(h:b.askF r=0){x:List (Int×Int)}(z:b.FrL x)(E:W4 (b.stys x).A=false)(w:(b.stys x).fatR r=X3 st) :
  ∃y,b.stF r st=some y/\y.length<=x.length/\((x.Pairwise λ s t=>Ws s t<0)->x.length=y.length->¬Wi x y<0):=by
 have K:b.good r (X3 st) x=true:=Bk.good_of.2 ⟨E,w⟩;obtain⟨⟨o,L⟩,-⟩:=(Bk.good_iff f z).1 K;have I:∀s∈x,s∈b.cans:=λ s w=>Bk.cans_of (z.all.1 s w) L.1 (L.2 s w);have F:=Bk.norm_perm I z.all.2;have e:=Bk.norm_sub b x;have B:b.good r (X3 st) (b.norm x)=true:=by rw[Bk.good_perm f (Bk.sub_frL e) z (Bk.norm_mem I)];exact K
 obtain⟨y,N,G,H⟩:=Bk.stF_least f h e B;rw[F.length_eq]at G H;refine⟨y,N,G,λ M=>?_⟩;rw[<- Zeg F ((Bk.cans_asc b).sublist e) M];rw[F.length_eq];exact H
def Bk.sub_holds(e:b.Ok){y x:List (Int×Int)}(B:y.Sublist b.cans)(z:x.Sublist y)(E:W4 (b.stys y).A=false):b.FrL x/\W4 (b.stys x).A=false:=by
 have w:=Bk.sub_frL B;have f:=Bk.sub_frL (z.trans B);refine⟨f,?_⟩;obtain⟨o,F⟩:=((w.ok1 e.ok1).loops_iff).1 E;refine((f.ok1 e.ok1).loops_iff).2 ⟨o,f.ord_iff.2 ?_⟩;have:=w.ord_iff.1 F;exact⟨this.1,λ s G=>this.2 s (z.subset G)⟩
def Bk.holds_less(w:b.Ok){r:Nat}{st:Bool}(h:b.askF r=0){y:List (Int×Int)}(E:b.stF r st=some y){i:Nat}(I:i<y.length) :
  b.FrL (y.take i++y.drop (i+1))/\W4 (b.stys (y.take i++y.drop (i+1))).A=false/\(b.stys (y.take i++y.drop (i+1))).fatR r≠X3 st:=by
 obtain⟨B,H⟩:=Bk.stF_good w h E;have f:(y.take i++y.drop (i+1)).Sublist y:=by rw[<- eraseIdx_eq_take_drop_succ];exact eraseIdx_sublist ..
 obtain⟨L,G⟩:=Bk.sub_holds w B f (Bk.good_of.1 H).1;refine⟨L,G,λ e=>?_⟩;obtain⟨z,F,K,-⟩:=Bk.stF_least w h (f.trans B) (Bk.good_of.2 ⟨G,e⟩);rw[E]at F;cases F;rw[<- eraseIdx_eq_take_drop_succ,length_eraseIdx,if_pos I]at K;omega
end Go.TM

