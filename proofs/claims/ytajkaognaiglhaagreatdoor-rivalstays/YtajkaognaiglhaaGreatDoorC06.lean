/- Lemmas. No conditions. -/
import Derived.Test.YtajkaognaiglhaaGreatDoorC03
import Derived.Test.YtajkaognaiglhaaGreatDoorB28
set_option linter.all false
open List
namespace Go.TM
variable{b:Bk}{o:List Nat}{a r m i:Nat}{s:Int×Int}{st:Bool}{y l:List (Int×Int)}{c:Cs}
def Bk.chain_fst(h:s∈b.chain (a::o)):∃c∈o,s.1=(c:Int):=by
 obtain⟨X,a',c,Y,e,rfl,-⟩:=Bk.chain_mem h;refine⟨c,?_,rfl⟩;cases X with
 |nil=>simp only[nil_append,List.cons.injEq]at e;rw[e.2];simp
 |cons x X=>simp only[cons_append,List.cons.injEq]at e;rw[e.2];simp
def Bk.chain_nodup:∀{o:List Nat},o.Nodup->(b.chain o).Nodup
 |[],_=>.nil
 |[_],_=>.nil
 |a::c::o,h=>by
  obtain⟨E,f⟩:=nodup_cons.1 h;have w:=Bk.chain_nodup f;unfold Bk.chain;split
  .exact w
  .refine nodup_cons.2 ⟨λ z=>?_,w⟩;obtain⟨x,B,e⟩:=Bk.chain_fst z;have:c=x:=by simp only at e;omega
   subst this;exact(nodup_cons.1 f).1 B
def Bk.chain_cans(f:b.Ord o)(h:s∈b.chain o):s∈b.cans:=by
 obtain⟨X,a,c,Y,e,rfl,F⟩:=Bk.chain_mem h;have w:=f.low c (by rw[e];simp);have B:=f.low a (by rw[e];simp);refine Bk.cans_iff.2 ⟨c,a,w,B,λ z=>?_,λ E=>F ?_,rfl⟩
 .subst z;have:=f.nod;rw[e]at this;exact(nodup_cons.1 (nodup_append.1 this).2.1).1 S1
 .rw[Bk.aft1_cas w];exact mem_map.2 ⟨_,E,S1⟩
def Zf9(x:Int)(h:x=X5 st):x≠X5 (!st):=by cases st <;> subst h <;> decide
def Bk.fat_want(e:b.Ok):b.fatR r=X5 st↔∀o,b.Ord o->(b.ends o).1.getD r false=st:=by
 cases st with
 |true=>exact Bk.fatR_one _
 |false=>exact Bk.fatR_two _ e
def Bk.good_nil(e:b.Ok)(h:b.good r (X5 st) []=true):b.fatR r=X5 st:=by
 have h:=(Bk.good_iff e (l:=[]) trivial).1 h;exact(Bk.fat_want e).2 λ o f=>h.2 o ⟨f,S1⟩
def Bk.enough(z:b.Ok)(I:b.fatR r≠X5 st)(K:b.fatR r≠X5 (!st)):∃x,x.Sublist b.cans/\b.good r (X5 st) x=true/\0<x.length/\x.length<=b.cs.length-1:=by
 obtain⟨o,w,H⟩:∃o,b.Ord o/\(b.ends o).1.getD r false=st:=by
  apply Classical.byContradiction;intro L;apply K;rw[Bk.fat_want z];intro o w;have:(b.ends o).1.getD r false≠st:=λ e=>L ⟨o,w,e⟩;cases st <;> cases h:(b.ends o).1.getD r false <;> simp_all
 have E:∀s∈b.chain o,s∈b.cans:=λ s B=>Bk.chain_cans w B;have M:=Bk.norm_perm E (Bk.chain_nodup w.nod);have f:=Bk.chain_len b o;rw[w.len]at f
 have F:b.good r (X5 st) (b.norm (b.chain o))=true:=by
  rw[Bk.good_iff z (Bk.sub_frL (Bk.norm_sub b _))];refine⟨⟨o,w.chain_kept.mono λ s B=>(Bk.norm_mem E s).1 B⟩,λ P G=>?_⟩;rw[Bk.chain_only w (G.mono λ s B=>(Bk.norm_mem E s).2 B)];exact H
 refine⟨_,Bk.norm_sub b _,F,?_,by rw[M.length_eq];exact f⟩;cases N:b.norm (b.chain o)with
 |nil=>rw[N]at F;exact absurd (Bk.good_nil z F) I
 |cons=>simp
def Bk.stF_eq(b:Bk)(h:b.askF r=0):b.stF r st=if b.fatR r=X5 st then some []else if b.fatR r=X5 (!st)then none else Xm (λ m=>Hs (b.crL r (X5 st) m) b.cans.length) 0 (b.cs.length-1):=by
 unfold Bk.stF Bk.staF;rw[if_pos h,Int.toNat_natCast]
def Bk.stF_good(e:b.Ok)(h:b.askF r=0)(f:b.stF r st=some y):y.Sublist b.cans/\b.good r (X5 st) y=true:=by
 rw[Bk.stF_eq b h]at f;split at f
 .rename_i hf;cases f;refine⟨nil_sublist _,(Bk.good_iff e (l:=[]) trivial).2 ⟨?_,λ o w=>(Bk.fat_want e).1 hf o w.1⟩⟩;obtain⟨o,w⟩:=e.ord;exact⟨o,w,S1⟩
 .split at f
  .cases f
  .obtain⟨j,-,hj,-⟩:=Qjd f;rw[Nat.zero_add]at hj;obtain⟨z,-,B⟩:=(Bk.cert_least b r (X5 st) j).2 y hj;exact⟨z,B⟩
def Bk.stF_some(w:b.Ok)(h:b.askF r=0):(b.stF r st).isSome=true↔b.fatR r≠X5 (!st):=by
 rw[Bk.stF_eq b h];by_cases f:b.fatR r=X5 st
 .rw[if_pos f];simp only[Option.isSome_some,true_iff];exact Zf9 _ f
 .rw[if_neg f];by_cases e:b.fatR r=X5 (!st)
  .rw[if_pos e];simp[e]
  .rw[if_neg e];simp only[ne_eq,e,not_false_eq_true,iff_true];rw[<- Option.ne_none_iff_isSome];intro B;obtain⟨x,E,z,G,H⟩:=Bk.enough w f e;obtain⟨y,F,-⟩:=(Bk.cert_least b r (X5 st) (x.length-1)).1 x E O1 z;have:=Zca.1 B (x.length-1) O1;rw[Nat.zero_add]at this;rw[F]at this;cases this
def Bk.stF_least(f:b.Ok)(h:b.askF r=0)(M:l.Sublist b.cans)(G:b.good r (X5 st) l=true):∃y,b.stF r st=some y/\y.length<=l.length/\(l.length=y.length->¬Wi l y<0):=by
 obtain⟨⟨o,L⟩,B⟩:=(Bk.good_iff f (Bk.sub_frL M)).1 G
 have K:b.fatR r≠X5 (!st):=by
  intro e;have:=(Bk.fat_want f).1 e o L.1;rw[B o L]at this;cases st <;> cases this
 obtain⟨y,w⟩:=Option.isSome_iff_exists.1 ((Bk.stF_some f h (st:=st)).2 K);refine⟨y,w,?_⟩;rw[Bk.stF_eq b h]at w;by_cases E:b.fatR r=X5 st
 .rw[if_pos E]at w;cases w;refine⟨S1,λ e=>?_⟩;have:l=[]:=length_eq_zero_iff.1 (by simpa using e);subst this;exact VR _
 .rw[if_neg E,if_neg K]at w;obtain⟨j,U,F,H⟩:=Qjd w;rw[Nat.zero_add]at F;have S:=((Bk.cert_least b r (X5 st) j).2 y F).2.1
  have T:0<l.length:=by
   cases l with
   |nil=>exact absurd (Bk.good_nil f G) E
   |cons=>simp
  obtain⟨z,I,Q⟩:=(Bk.cert_least b r (X5 st) (l.length-1)).1 l M O1 G
  have N:j<=l.length-1:=by
   apply Classical.byContradiction;intro P;have:=H (l.length-1) O1;rw[Nat.zero_add]at this;rw[I]at this;cases this
  refine⟨O1,λ e=>?_⟩;have:l.length-1=j:=O1
  rw[this,F]at I;cases I;exact Q
def Bk.stys_app(b:Bk)(l r:List (Int×Int)):b.stys (l++r)=(b.stys l).stys r:=by simp[Bk.stys]
def Bk.stF_len(h:b.askF r=0)(e:b.stF r st=some y):y.length<=b.cs.length-1:=by
 rw[Bk.stF_eq b h]at e;split at e
 .cases e;simp
 .split at e
  .cases e
  .obtain⟨j,hj,hF,-⟩:=Qjd e;rw[Nat.zero_add]at hF;have:=((Bk.cert_least b r (X5 st) j).2 y hF).2.1;omega
def Bk.rst_hit(e:b.Ok)(h:b.askF r=0)(N:∀T,T<m->∀x∈TM.parts b.cans T,b.good r (X5 st) x=false)
  (B:(TM.parts b.cans m)[i]?=some y) (M:∀(j:Nat)(x:List (Int×Int)),j<i->(TM.parts b.cans m)[j]?=some x->b.good r (X5 st) x=false) (U:b.good r (X5 st) y=true):b.stF r st=some y:=by
 obtain⟨P,X⟩:=HG.1 (mem_of_getElem? B);obtain⟨z,S,Y,Q⟩:=Bk.stF_least e h P U;obtain⟨w,f⟩:=Bk.stF_good e h S
 have V:z.length=m:=by
  apply Classical.byContradiction;intro W;have:=N z.length O1 z (HG.2 ⟨w,rfl⟩);rw[f]at this;cases this
 obtain⟨j,H⟩:=getElem?_of_mem (HG.2 ⟨w,V⟩:z∈TM.parts b.cans m);rw[S];congr 1;rcases Nat.lt_trichotomy j i with L|rfl|G
 .have:=M j z L H;rw[f]at this;cases this
 .exact Option.some.inj (H.symm.trans B)
 .have hp:=Qtc b.cans_asc m;obtain⟨E,F⟩:=List.getElem?_eq_some_iff.1 B;obtain⟨I,K⟩:=List.getElem?_eq_some_iff.1 H;have:=pairwise_iff_getElem.1 hp i j E I G;rw[F,K]at this;exact absurd this (Q O1)
def Bk.rst_none(e:b.Ok)(h:b.askF r=0)(G:b.fatR r≠X5 (!st))(f:∀F,F<=b.cs.length->∀x∈TM.parts b.cans F,b.good r (X5 st) x=false):False:=by
 obtain⟨z,E⟩:=Option.isSome_iff_exists.1 ((Bk.stF_some e h (st:=st)).2 G);obtain⟨B,w⟩:=Bk.stF_good e h E;have H:=Bk.stF_len h E;have:=f z.length O1 z (HG.2 ⟨B,rfl⟩);rw[w]at this;cases this
def Bk.dif_want(e:b.Ok)(w:r<b.rs.length):(b.fatR r≠X5 st/\(b.difS r st).length=0)↔b.fatR r=X5 (!st):=by
 have z:b.fatR r=0\/b.fatR r=1\/b.fatR r=2:=Zbp _ _;by_cases f:b.cs.length=0
 .obtain⟨e1,e2,e3⟩:=Bk.dif_zero w f;cases st
  .rw[e2,e3];simp[X5]
  .rw[e1,e3];simp[X5]
 .cases st
  .have:=(Bk.dif_false (b:=b) (r:=r) O1).1;show(b.fatR r≠2/\(b.difS r false).length=0)↔b.fatR r=1;omega
  .have:=(Bk.dif_true e (r:=r) O1).1;show(b.fatR r≠1/\(b.difS r true).length=0)↔b.fatR r=2;omega
def Bk.syF:Bk->List (Int×Int)->Int
 |b,[]=>if W4 b.A then 8 else 0
 |b,s::l=>if Q_ s.1 0 (b.nc-1)&&Q_ s.2 0 (b.nc-1)then(if(b.cas s.1.toNat).af.contains s.2 then 5 else(b.sty s).syF l)else 6
def Bk.syG(b:Bk)(l:List (Int×Int)):Int:=if b.flaw Zk=0 then b.syF l else b.flaw Zk
def Bk.stys_nc(b:Bk)(l:List (Int×Int)):(b.stys l).nc=b.nc:=by unfold Bk.nc;rw[Bk.stys_len]
def Bk.syF_out(h:(Q_ s.1 0 (b.nc-1)&&Q_ s.2 0 (b.nc-1))=false):b.syF (s::l)=6:=by
 show(if _ then _ else(6:Int))=6;rw[if_neg (by rw[h];simp)]
def Bk.syF_in(h:(Q_ s.1 0 (b.nc-1)&&Q_ s.2 0 (b.nc-1))=true):b.syF (s::l)=if(b.cas s.1.toNat).af.contains s.2 then 5 else(b.sty s).syF l:=by
 show(if _ then(if _ then _ else _)else(6:Int))=_;rw[if_pos h]
def Bk.Ok1.loopsE(h:b.Ok1):W4 b.A=GC b.A:=M0 λ p e k f=>by
 rw[Bk.A_n]at e ⊢;rw[Bk.aft1_cas e]at f;obtain⟨n,z,rfl⟩:=mem_map.1 f;obtain⟨B,w⟩:=h.af _ (Bk.cas_mem e) n z;unfold Bk.nc at w;omega
def Bk.Ok1.af_len(h:b.Ok1)(f:c∈b.cs):Xw c.af/\c.af.length<=5:=by
 have w:=(M6 (b:=b.nc) (by unfold Bk.nc;omega) (O9 (h.ri c f) (h.af c f) (λ m e=>by cases e))).1;have z:=h.nc;exact⟨(h.ri c f).imp λ h=>Int.le_of_lt h,by unfold Bk.nc at w;omega⟩
