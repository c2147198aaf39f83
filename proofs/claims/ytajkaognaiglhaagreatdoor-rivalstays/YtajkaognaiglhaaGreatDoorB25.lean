/- Lemmas. No conditions. -/
import Derived.Test.YtajkaognaiglhaaGreatDoorB24
set_option linter.all false
namespace Go.TM
variable{a b:Int×Int}{L:Nat->Option (List (Int×Int))}{n s:Nat}{c:Nat->Bool}{o F:Option (List (Int×Int))}{l:List (Int×Int)}
def Pz:Ws a b<0↔a.1<b.1\/(a.1=b.1/\a.2<b.2):=by
 obtain⟨a1,a2⟩:=a;obtain⟨e,f⟩:=b;unfold Ws;simp only[Prod.mk.injEq];split
 .rename_i h;simp only[h.1,h.2];omega
 .split
  .rename_i h1 h2;simp at h2 ⊢;omega
  .rename_i h1 h2;simp at h1 h2 ⊢;omega
def HP:Ws a b=0↔a=b:=by
 obtain⟨a1,a2⟩:=a;obtain⟨e,f⟩:=b;unfold Ws;simp only[Prod.mk.injEq];split
 .rename_i h;simp[h]
 .split
  .rename_i h1 h2;simp;omega
  .rename_i h1 h2;simp;omega
def DY:∀{x y:List (Int×Int)},¬Wi x y<0->¬Wi y x<0->x=y
 |[],[],_,_=>rfl
 |[],_::_,h,_=>absurd (by show(-1:Int)<0;decide) h
 |_::_,[],_,h=>absurd (by show(-1:Int)<0;decide) h
 |a::x,b::y,w,z=>by
  have E:Wi (a::x) (b::y)=if Ws a b≠0 then Ws a b else Wi x y:=rfl
  have F:Wi (b::y) (a::x)=if Ws b a≠0 then Ws b a else Wi y x:=rfl
  rw[E]at w;rw[F]at z;by_cases f:Ws a b=0
  .have:=HP.1 f;subst this;have B:=f;simp only[f,ne_eq,not_true,if_false]at w z;rw[DY w z]
  .have B:¬Ws b a=0:=λ e=>f (HP.2 (HP.1 e).symm);simp only[ne_eq,f,B,not_false_eq_true,if_true]at w z;have G:=mt Pz.2 w;have n2:=mt Pz.2 z;exact absurd (HP.2 (Prod.ext O1 O1)) f
def KP:∀{x y z:List (Int×Int)},Wi x y<0->Wi y z<0->Wi x z<0
 |[],[],_,h,_=>absurd h (by show ¬(0:Int)<0;decide)
 |[],_::_,[],_,h=>absurd h (by show ¬(1:Int)<0;decide)
 |[],_::_,_::_,_,_=>by show(-1:Int)<0;decide
 |_::_,[],_,h,_=>absurd h (by show ¬(1:Int)<0;decide)
 |_::_,_::_,[],_,h=>absurd h (by show ¬(1:Int)<0;decide)
 |a::x,b::y,c::z,B,w=>by
  have E:Wi (a::x) (b::y)=if Ws a b≠0 then Ws a b else Wi x y:=rfl
  have F:Wi (b::y) (c::z)=if Ws b c≠0 then Ws b c else Wi y z:=rfl
  have G:Wi (a::x) (c::z)=if Ws a c≠0 then Ws a c else Wi x z:=rfl
  rw[E]at B;rw[F]at w;rw[G];by_cases f:Ws a b=0
  .have:=HP.1 f;subst this;simp only[f,ne_eq,not_true,if_false]at B;by_cases e:Ws a c=0
   .simp only[e,ne_eq,not_true,if_false]at w ⊢;exact KP B w
   .simp only[ne_eq,e,not_false_eq_true,if_true]at w ⊢;exact w
  .simp only[ne_eq,f,not_false_eq_true,if_true]at B;have I:=Pz.1 B;by_cases e:Ws b c=0
   .have:=HP.1 e;subst this;simp only[ne_eq,f,not_false_eq_true,if_true];exact B
   .simp only[ne_eq,e,not_false_eq_true,if_true]at w;have K:=Pz.1 w;have H:Ws a c<0:=Pz.2 O1;have:¬Ws a c=0:=O1
    simp only[ne_eq,this,not_false_eq_true,if_true];exact H
def VR(x:List (Int×Int)):¬Wi x x<0:=by
 induction x with
 |nil=>show ¬(0:Int)<0;decide
 |cons a x f=>
  have e:Wi (a::x) (a::x)=if Ws a a≠0 then Ws a a else Wi x x:=rfl
  rw[e];have:=HP.2 (rfl:a=a);simp only[this,ne_eq,not_true,if_false];exact f
def W9(L:Nat->Option (List (Int×Int)))(n:Nat)(R:Nat->Bool)(o:Option (List (Int×Int))):Prop:=
 (∀i x,i<n->R i=true->L i=some x->∃y,o=some y/\¬Wi x y<0)/\∀y,o=some y->∃i,i<n/\R i=true/\L i=some y
def W9.uniq(h:W9 L n c o)(f:W9 L n c F):o=F:=by
 cases o with
 |none=>
  cases F with
  |none=>rfl
  |some y=>
   obtain⟨i,w,B,E⟩:=f.2 y rfl;obtain⟨_,e,_⟩:=h.1 i y w B E;cases e
 |some x=>
  obtain⟨i,w,B,E⟩:=h.2 x rfl;obtain⟨y,rfl,G⟩:=f.1 i x w B E;obtain⟨j,H,I,K⟩:=f.2 y rfl;obtain⟨z,e,M⟩:=h.1 j y H I K;cases e;rw[DY G M]
def W9.nil(h:∀i,c i=false):W9 L n c none:=
 ⟨λ i x _ f _=>by(rw[h]at f;cases f),λ y e=>by cases e⟩
def GQ(l:List (Int×Int)):Option (List (Int×Int))->List (Int×Int)
 |none=>l
 |some y=>if Wi l y<0 then l else y
def W9.put(h:W9 L n c o)(G:s<n)(B:L s=some l):W9 L n (Q9 c s true) (some (GQ l o)):=by
 have I:∀y,o=some y->¬Wi y (GQ l o)<0:=by
  rintro y rfl;show ¬Wi y (if Wi l y<0 then l else y)<0;split
  .rename_i w;exact λ f=>VR _ (KP w f)
  .exact VR y
 have E:¬Wi l (GQ l o)<0:=by
  cases o with
  |none=>exact VR l
  |some y=>
   show ¬Wi l (if Wi l y<0 then l else y)<0;split
   .exact VR l
   .assumption
 refine⟨λ i x w f z=>⟨_,rfl,?_⟩,λ y e=>?_⟩
 .by_cases e:i=s
  .subst e;rw[B]at z;cases z;exact E
  .rw[Qv _ _ e]at f;obtain⟨y,rfl,F⟩:=h.1 i x w f z;show ¬Wi x (if Wi l y<0 then l else y)<0;split
   .rename_i h5;exact λ H=>F (KP H h5)
   .exact F
 .cases e;cases o with
  |none=>exact⟨s,G,Qf ..,B⟩
  |some y=>
   show ∃i,i<n/\Q9 c s true i=true/\L i=some (if Wi l y<0 then l else y);split
   .exact⟨s,G,Qf ..,B⟩
   .obtain⟨i,w,f,z⟩:=h.2 y rfl;refine⟨i,w,?_,z⟩;by_cases e:i=s
    .subst e;exact Qf ..
    .rw[Qv _ _ e];exact f
