/- A part of the proof: lemmas that the last text uses. No conditions of its own. -/
import Derived.Test.YtebpcmdnecenlaaGreatH05
import Derived.Test.YtebpcmdnecenlaaGreatH08
import Derived.Test.YtebpcmdnecenlaaGreatH09
import Derived.Test.YtebpcmdnecenlaaGreatH10
import Derived.Test.YtebpcmdnecenlaaGreatH07
set_option linter.unusedSimpArgs false
set_option linter.unusedVariables false
namespace Go.Proofs
open Go.TM
set_option maxRecDepth 100000
theorem Tryz.mixed:Tryz.prog.follows .mixedOrders=true:=by kernel_rfl
variable {T:Type} {S:TM.Sys Tryz.prog T} {Z:View T}
attribute [local irreducible] CallsV YieldV
theorem Tryz.between_ok (Z:View T) (n a b:Int):CallsV S 109 #[.int .i64 n,.int .i64 a,.int .i64 b] (λ v Z'=>v=.bool (btw n a b)/\Z'=Z) Z:=by
 refine CallsV.of (args:=[_,_,_]) Tryz.k109 Tryz.mixed (by simp) ?_
 repeat refine⟨rfl,?_⟩
 conv=>whnf
 apply gb_split<;>intro hc
 ·repeat refine⟨rfl,?_⟩
  conv=>whnf
  exact⟨by unfold btw;rw [hc];rfl,rfl⟩
 ·repeat refine⟨rfl,?_⟩
  conv=>whnf
  exact⟨by unfold btw;rw [hc];rfl,rfl⟩
theorem Tryz.in_ok (Z:View T) (n a b:Int):CallsV S 71 #[.int .i64 n,.int .i64 a,.int .i64 b] (λ v Z'=>v=.bool (btw n a b)/\Z'=Z) Z:=by
 refine CallsV.of (args:=[_,_,_]) Tryz.k71 Tryz.mixed (by simp) ?_
 repeat refine⟨rfl,?_⟩
 conv=>whnf
 apply gb_split<;>intro hc
 ·repeat refine⟨rfl,?_⟩
  conv=>whnf
  exact⟨by unfold btw;rw [hc];rfl,rfl⟩
 ·repeat refine⟨rfl,?_⟩
  conv=>whnf
  exact⟨by unfold btw;rw [hc];rfl,rfl⟩
theorem Tryz.isEdition_ok (h:TH) (t:Tbl) (ht:TabV Z h t) (n:Int):CallsV S 77 #[h.v,.int .i64 n] (λ v Z'=>v=.bool (t.isEd n)/\Z'=Z) Z:=by
 refine CallsV.pure' (CallsV.of (args:=[_,_]) Tryz.k77 Tryz.mixed (by simp) ?_)
 have hel:=ht.eds.1
 have:=ht.el
 repeat refine⟨rfl,?_⟩
 conv=>whnf
 intro b Z1 hle hb
 refine⟨_,hb.sees3 rfl,?_⟩
 refine⟨by unfold InR;omega,?_⟩
 refine⟨Tryz.k109.any,(Tryz.between_ok _ _ _ _).mono ?_⟩
 rintro v Z' ⟨rfl,rfl⟩ -
 repeat refine⟨rfl,?_⟩
 conv=>whnf
 exact⟨by rw [<- hel];rfl,hle.lg⟩
theorem Tryz.items_ok (h:TH) (t:Tbl) (ht:TabV Z h t) (n:Int):CallsV S 65 #[h.v,.int .i64 n] (λ v Z'=>ItemsV Z v (t.items n)/\Z'=Z) Z:=by
 refine CallsV.pure' (CallsV.of (args:=[_,_]) Tryz.k65 Tryz.mixed (by simp) ?_)
 have hel:=ht.eds.1
 have:=ht.el
 repeat refine⟨rfl,?_⟩
 conv=>whnf
 intro b Z1 hle hb
 refine⟨_,hb.sees3 rfl,?_⟩
 refine⟨by unfold InR;omega,?_⟩
 refine⟨Tryz.k109.any,(Tryz.between_ok _ _ _ _).mono ?_⟩
 rintro v Z' ⟨rfl,rfl⟩ -
 have he:btw n 0 ((h.el:Int)-1)=t.isEd n:=by rw [<- hel];rfl
 rw [he]
 conv=>whnf
 apply cb_split<;>intro hc
 ·repeat refine⟨rfl,?_⟩
  conv=>whnf
  have h':t.isEd n=false:=by simpa using hc
  exact⟨⟨none,0,0,rfl,by simp [Tbl.items,h'],λ i x hx=>by simp [Tbl.items,h'] at hx⟩,hle.lg⟩
 ·have h':t.isEd n=true:=by simpa using hc
  obtain⟨k,rfl,hk⟩:∃k:Nat,n=k/\k<h.el:=by
   unfold Tbl.isEd btw at h'
   simp only [Bool.and_eq_true,decide_eq_true_eq] at h'
   exact⟨n.toNat,by omega,by omega⟩
  obtain⟨ad,x,vs,hx,hea,hsp,⟨v,rfl,a,len,cap,rfl,hr⟩,-,hrd⟩:=ht.eds.at hk
  refine⟨_,hb.sees3 rfl,?_⟩
  refine⟨ad,k,⟨hea,rfl,hk⟩,?_⟩
  refine⟨_,(hrd 0 _ rfl).lg hle.lg,?_⟩
  repeat refine⟨rfl,?_⟩
  refine⟨⟨a,len,cap,rfl,?_⟩,hle.lg⟩
  simpa [Tbl.items,h',hx] using hr
theorem Tryz.isItem_ok (h:TH) (t:Tbl) (ht:TabV Z h t) (e n:Int):CallsV S 113 #[h.v,.int .i64 e,.int .i64 n] (λ v Z'=>v=.bool (t.isItem e n)/\Z'=Z) Z:=by
 refine CallsV.pure' (CallsV.of (args:=[_,_,_]) Tryz.k113 Tryz.mixed (by simp) ?_)
 repeat refine⟨rfl,?_⟩
 conv=>whnf
 intro b Z1 hle hb
 refine⟨_,⟨rfl,hb.rdT λ _ _ h=>h⟩,?_⟩
 refine⟨Tryz.k65.any,(Tryz.items_ok h t (ht.lg hle.lg) e).mono ?_⟩
 rintro v Z' ⟨⟨a,len,cap,rfl,hr⟩,rfl⟩ -
 have hlen:(t.items e).length=len:=hr.1
 have hlt:len<2 ^ 60:=by rw [<- hlen];exact ht.items_lt e
 refine⟨by unfold InR;omega,?_⟩
 refine⟨Tryz.k109.any,(Tryz.between_ok _ _ _ _).mono ?_⟩
 rintro v Z' ⟨rfl,rfl⟩ -
 repeat refine⟨rfl,?_⟩
 conv=>whnf
 exact⟨by unfold Tbl.isItem;rw [hlen],hle.lg⟩
theorem Tryz.checkList_ok (h:TH) (t:Tbl) (ht:TabV Z h t) (e:Int) (a:Option Addr) (len cap:Nat) (l:List Int) (hl:Ints Z a len l) (hlen:len<2 ^ 60) :
  CallsV S 78 #[h.v,.int .i64 e,.slice a len cap] (λ v Z'=>v=.int .i64 (t.chk e none l)/\Z'=Z) Z:=by
 refine CallsV.pure' (CallsV.of (args:=[_,_,_]) Tryz.k78 Tryz.mixed (by simp) ?_)
 repeat refine⟨rfl,?_⟩
 conv=>whnf
 intro b Z1 hle hb
 refine⟨Nat,λ i=>[(1,.int .i64 e),(2,.slice a len cap),(3,.pointer (some ⟨b,0,none⟩)),(9,.slice a len cap),(10,.int .i64 len),(11,.int .i64 i)],
  λ i Z'=>Z'=Z1/\i<=len/\t.chk e none l=t.chk e (if i=0 then none else l[i-1]?) (l.drop i),λ i=>len-i,0,⟨rfl,rfl,rfl,rfl,rfl,rfl,trivial⟩,⟨rfl,by omega,by simp⟩,?_⟩
 rintro i f _ ⟨rfl,hi,hinv⟩
 repeat refine⟨rfl,?_⟩
 conv=>whnf
 apply cb_split<;>intro hc
 ·have hlt:i<len:=by simpa using hc
  obtain⟨ad,x,hx,rfl,hsp,hs⟩:=hl.at hlt
  refine⟨ad,i,⟨rfl,rfl,hlt⟩,?_⟩
  refine⟨_,hs.lg hle.lg,?_⟩
  refine⟨_,⟨rfl,hb.rdT λ _ _ h=>h⟩,?_⟩
  refine⟨Tryz.k113.any,(Tryz.isItem_ok h t (ht.lg hle.lg) e x).mono ?_⟩
  rintro v Z' ⟨rfl,rfl⟩ -
  rw [drop_at hx,Tbl.chk_cons] at hinv
  conv=>whnf
  apply cb_split<;>intro hc
  ·have h':t.isItem e x=false:=by simpa using hc
   repeat refine⟨rfl,?_⟩
   conv=>whnf
   exact⟨by rw [hinv,h'];rfl,hle.lg⟩
  ·have h':t.isItem e x=true:=by simpa using hc
   rw [if_pos h'] at hinv
   repeat refine⟨rfl,?_⟩
   conv=>whnf
   apply gb_split<;>intro hc
   ·have hpos:0<i:=by simpa using hc
    refine⟨by unfold InR;omega,?_⟩
    obtain⟨ad',x',hx',he',hsp',hs'⟩:=hl.at (show i-1<len by omega)
    cases he'
    refine⟨ad,i-1,⟨rfl,by omega,by omega⟩,?_⟩
    refine⟨_,hs'.lg hle.lg,?_⟩
    repeat refine⟨rfl,?_⟩
    conv=>whnf
    rw [if_neg (by omega),hx'] at hinv
    apply cb_split<;>intro hc
    ·have hc':x<=x':=by simpa using hc
     repeat refine⟨rfl,?_⟩
     conv=>whnf
     exact⟨by rw [hinv];simp [hc'],hle.lg⟩
    ·have hc':¬x<=x':=by simpa using hc
     refine⟨by unfold InR;omega,?_⟩
     refine⟨rfl,i+1,⟨rfl,rfl,rfl,rfl,rfl,rfl,trivial⟩,⟨rfl,by omega,?_⟩,by show _-_<_-_;omega⟩
     rw [hinv];simp [hc',hx]
   ·have hpos:i=0:=by simpa using hc
    subst hpos
    repeat refine⟨rfl,?_⟩
    refine⟨by unfold InR;omega,?_⟩
    refine⟨rfl,1,⟨rfl,rfl,rfl,rfl,rfl,rfl,trivial⟩,⟨rfl,by omega,?_⟩,by show _-_<_-_;omega⟩
    rw [hinv];simp [hx]
 ·have hge:len<=i:=by simpa using hc
  repeat refine⟨rfl,?_⟩
  refine⟨?_,hle.lg⟩
  rw [hinv,List.drop_eq_nil_of_le (by rw [hl.1];exact hge)];rfl
end Go.Proofs
namespace Go.Proofs
open Go.TM
set_option maxRecDepth 100000
variable {T:Type} {S:TM.Sys Tryz.prog T} {Z:View T}
attribute [local irreducible] CallsV YieldV
def Asks {α:Type} (S:TM.Sys Tryz.prog T) (Z:View T) (g:FuncId) (first capt:Array Value) (enc:α->Value) (l:List α) (p:α->Bool):Prop:=
 (Tryz.prog.funcs[g]?.any λ fd=>fd.body.isSome && fd.name != "runtime.NumGoroutine")=true/\∀x∈l,CallsV S g (first.toList++[enc x]++capt.toList).toArray (λ v Z'=>v=.bool (p x)/\Z'=Z) Z
def idxV {α:Type} (p:α->Bool) (l:List α):Int:=match l.findIdx? p with | some i=>i | none=>-1
theorem idxV_none {α:Type} {p:α->Bool} {l:List α} (h:∀x∈l,p x=false):idxV p l = -1:=by
 unfold idxV;rw [List.findIdx?_eq_none_iff.2 h]
theorem idxV_some {α:Type} {p:α->Bool} {l:List α} {i:Nat} {x:α} (hx:l[i]?=some x) (hp:p x=true) (h:∀y∈l.take i,p y=false):idxV p l=i:=by
 unfold idxV
 have:l.findIdx? p=some i:=by
  obtain⟨hlt,rfl⟩:=List.getElem?_eq_some_iff.1 hx
  rw [List.findIdx?_eq_some_iff_getElem]
  refine⟨hlt,hp,λ j hj=>?_⟩
  have hm:l[j]'(by omega)∈l.take i:=by
   rw [List.mem_take_iff_getElem]
   exact⟨j,by omega,rfl⟩
  simpa using h _ hm
 rw [this]
theorem idxV_ge {α:Type} {p:α->Bool} {l:List α}:decide (idxV p l ≥ 0)=l.any p:=by
 unfold idxV
 cases h:l.findIdx? p with
 | none=>
  rw [List.findIdx?_eq_none_iff] at h
  have:l.any p=false:=by rw [List.any_eq_false];intro x hx;simp [h x hx]
  rw [this];rfl
 | some i=>
  have:l.any p=true:=by
   rw [List.findIdx?_eq_some_iff_getElem] at h
   obtain⟨hlt,hp,_⟩:=h
   exact List.any_eq_true.2 ⟨l[i],by simp,hp⟩
  rw [this];simp
theorem Tryz.idxB_ok {α:Type} (enc:α->Value) (a:Option Addr) (len cap:Nat) (l:List α) (hl:l.length=len) (hrd:∀i x,l[i]?=some x->∃ad,a=some ad/\ad.spot=none/\Z.sees (ad.add (i*1)) (enc x)) (hsm:∀x,∃k n,enc x=.int k n) (hlen:len<2 ^ 60) (g:FuncId) (first capt:Array Value) (p:α->Bool)
  (hf:Asks S Z g first capt enc l p):CallsV S 178 #[.slice a len cap,.func (.func g) first capt] (λ v Z'=>v=.int .i64 (idxV p l)/\Z'=Z) Z:=by
 refine CallsV.of (args:=[_,_]) Tryz.k178 Tryz.mixed (by simp) ?_
 repeat refine⟨rfl,?_⟩
 refine⟨Nat,λ i=>[(0,.slice a len cap),(1,.func (.func g) first capt),(6,.slice a len cap),(7,.int .i64 len),(8,.int .i64 i)],
  λ i Z'=>Z'=Z/\i<=len/\∀x∈l.take i,p x=false,λ i=>len-i,0,⟨rfl,rfl,rfl,rfl,rfl,trivial⟩,⟨rfl,by omega,by simp⟩,?_⟩
 rintro i f _ ⟨rfl,hi,hinv⟩
 repeat refine⟨rfl,?_⟩
 conv=>whnf
 apply cb_split<;>intro hc
 ·have hlt:i<len:=by simpa using hc
  have hx:l[i]?=some (l[i]'(by omega)):=by simp
  generalize l[i]'(by omega)=x at hx
  obtain⟨ad,rfl,hsp,hs⟩:=hrd i x hx
  obtain⟨k,n,he⟩:=hsm x
  have hcall:=hf.2 x (List.mem_of_getElem? hx)
  rw [he] at hcall hs
  refine⟨ad,i,⟨rfl,rfl,hlt⟩,?_⟩
  refine⟨_,hs,?_⟩
  refine⟨hf.1,hcall.mono ?_⟩
  rintro v Z' ⟨rfl,rfl⟩ -
  conv=>whnf
  apply cb_split<;>intro hc
  ·repeat refine⟨rfl,?_⟩
   conv=>whnf
   exact⟨by rw [idxV_some hx hc hinv],rfl⟩
  ·refine⟨by unfold InR;omega,?_⟩
   refine⟨rfl,i+1,⟨rfl,rfl,rfl,rfl,rfl,trivial⟩,⟨rfl,by omega,?_⟩,by show _-_<_-_;omega⟩
   intro y hy
   rw [take_at hx,List.mem_append] at hy
   rcases hy with hy | hy
   ·exact hinv y hy
   ·simp at hy;subst hy;exact hc
 ·have hge:len<=i:=by simpa using hc
  repeat refine⟨rfl,?_⟩
  refine⟨?_,rfl⟩
  rw [List.take_of_length_le (by omega)] at hinv
  rw [idxV_none hinv]
theorem Tryz.idxI_ok {α:Type} (enc:α->Value) (a:Option Addr) (len cap:Nat) (l:List α) (hl:l.length=len) (hrd:∀i x,l[i]?=some x->∃ad,a=some ad/\ad.spot=none/\Z.sees (ad.add (i*1)) (enc x)) (hsm:∀x,∃k n,enc x=.int k n) (hlen:len<2 ^ 60) (g:FuncId) (first capt:Array Value) (p:α->Bool)
  (hf:Asks S Z g first capt enc l p):CallsV S 86 #[.slice a len cap,.func (.func g) first capt] (λ v Z'=>v=.int .i64 (idxV p l)/\Z'=Z) Z:=by
 refine CallsV.of (args:=[_,_]) Tryz.k86 Tryz.mixed (by simp) ?_
 repeat refine⟨rfl,?_⟩
 refine⟨Nat,λ i=>[(0,.slice a len cap),(1,.func (.func g) first capt),(6,.slice a len cap),(7,.int .i64 len),(8,.int .i64 i)],
  λ i Z'=>Z'=Z/\i<=len/\∀x∈l.take i,p x=false,λ i=>len-i,0,⟨rfl,rfl,rfl,rfl,rfl,trivial⟩,⟨rfl,by omega,by simp⟩,?_⟩
 rintro i f _ ⟨rfl,hi,hinv⟩
 repeat refine⟨rfl,?_⟩
 conv=>whnf
 apply cb_split<;>intro hc
 ·have hlt:i<len:=by simpa using hc
  have hx:l[i]?=some (l[i]'(by omega)):=by simp
  generalize l[i]'(by omega)=x at hx
  obtain⟨ad,rfl,hsp,hs⟩:=hrd i x hx
  obtain⟨k,n,he⟩:=hsm x
  have hcall:=hf.2 x (List.mem_of_getElem? hx)
  rw [he] at hcall hs
  refine⟨ad,i,⟨rfl,rfl,hlt⟩,?_⟩
  refine⟨_,hs,?_⟩
  refine⟨hf.1,hcall.mono ?_⟩
  rintro v Z' ⟨rfl,rfl⟩ -
  conv=>whnf
  apply cb_split<;>intro hc
  ·repeat refine⟨rfl,?_⟩
   conv=>whnf
   exact⟨by rw [idxV_some hx hc hinv],rfl⟩
  ·refine⟨by unfold InR;omega,?_⟩
   refine⟨rfl,i+1,⟨rfl,rfl,rfl,rfl,rfl,trivial⟩,⟨rfl,by omega,?_⟩,by show _-_<_-_;omega⟩
   intro y hy
   rw [take_at hx,List.mem_append] at hy
   rcases hy with hy | hy
   ·exact hinv y hy
   ·simp at hy;subst hy;exact hc
 ·have hge:len<=i:=by simpa using hc
  repeat refine⟨rfl,?_⟩
  refine⟨?_,rfl⟩
  rw [List.take_of_length_le (by omega)] at hinv
  rw [idxV_none hinv]
theorem Tryz.idxP_ok {α:Type} (enc:α->List Value) (a:Option Addr) (len cap:Nat) (l:List α) (hrd:RowsV Z a len 2 l λ x vs=>vs=enc x) (hlen:len<2 ^ 60) (g:FuncId) (first capt:Array Value) (p:α->Bool)
  (hf:Asks S Z g first capt (λ x=>.agg (enc x).toArray) l p):CallsV S 135 #[.slice a len cap,.func (.func g) first capt] (λ v Z'=>v=.int .i64 (idxV p l)/\Z'=Z) Z:=by
 refine CallsV.of (args:=[_,_]) Tryz.k135 Tryz.mixed (by simp) ?_
 have hl:=hrd.1
 repeat refine⟨rfl,?_⟩
 refine⟨Nat,λ i=>[(0,.slice a len cap),(1,.func (.func g) first capt),(6,.slice a len cap),(7,.int .i64 len),(8,.int .i64 i)],
  λ i Z'=>Z'=Z/\i<=len/\∀x∈l.take i,p x=false,λ i=>len-i,0,⟨rfl,rfl,rfl,rfl,rfl,trivial⟩,⟨rfl,by omega,by simp⟩,?_⟩
 rintro i f _ ⟨rfl,hi,hinv⟩
 repeat refine⟨rfl,?_⟩
 conv=>whnf
 apply cb_split<;>intro hc
 ·have hlt:i<len:=by simpa using hc
  obtain⟨ad,x,vs,hx,rfl,hsp,rfl,hn,hs⟩:=hrd.at hlt
  have hcall:=hf.2 x (List.mem_of_getElem? hx)
  refine⟨ad,i,⟨rfl,rfl,hlt⟩,?_⟩
  refine⟨_,⟨hn,hs⟩,?_⟩
  refine⟨hf.1,hcall.mono ?_⟩
  rintro v Z' ⟨rfl,rfl⟩ -
  conv=>whnf
  apply cb_split<;>intro hc
  ·repeat refine⟨rfl,?_⟩
   conv=>whnf
   exact⟨by rw [idxV_some hx hc hinv],rfl⟩
  ·refine⟨by unfold InR;omega,?_⟩
   refine⟨rfl,i+1,⟨rfl,rfl,rfl,rfl,rfl,trivial⟩,⟨rfl,by omega,?_⟩,by show _-_<_-_;omega⟩
   intro y hy
   rw [take_at hx,List.mem_append] at hy
   rcases hy with hy | hy
   ·exact hinv y hy
   ·simp at hy;subst hy;exact hc
 ·have hge:len<=i:=by simpa using hc
  repeat refine⟨rfl,?_⟩
  refine⟨?_,rfl⟩
  rw [List.take_of_length_le (by omega)] at hinv
  rw [idxV_none hinv]
theorem Tryz.idxK_ok {α:Type} (enc:α->List Value) (a:Option Addr) (len cap:Nat) (l:List α) (hrd:RowsV Z a len 4 l λ x vs=>vs=enc x) (hlen:len<2 ^ 60) (g:FuncId) (first capt:Array Value) (p:α->Bool)
  (hf:Asks S Z g first capt (λ x=>.agg (enc x).toArray) l p):CallsV S 165 #[.slice a len cap,.func (.func g) first capt] (λ v Z'=>v=.int .i64 (idxV p l)/\Z'=Z) Z:=by
 refine CallsV.of (args:=[_,_]) Tryz.k165 Tryz.mixed (by simp) ?_
 have hl:=hrd.1
 repeat refine⟨rfl,?_⟩
 refine⟨Nat,λ i=>[(0,.slice a len cap),(1,.func (.func g) first capt),(6,.slice a len cap),(7,.int .i64 len),(8,.int .i64 i)],
  λ i Z'=>Z'=Z/\i<=len/\∀x∈l.take i,p x=false,λ i=>len-i,0,⟨rfl,rfl,rfl,rfl,rfl,trivial⟩,⟨rfl,by omega,by simp⟩,?_⟩
 rintro i f _ ⟨rfl,hi,hinv⟩
 repeat refine⟨rfl,?_⟩
 conv=>whnf
 apply cb_split<;>intro hc
 ·have hlt:i<len:=by simpa using hc
  obtain⟨ad,x,vs,hx,rfl,hsp,rfl,hn,hs⟩:=hrd.at hlt
  have hcall:=hf.2 x (List.mem_of_getElem? hx)
  refine⟨ad,i,⟨rfl,rfl,hlt⟩,?_⟩
  refine⟨_,⟨hn,hs⟩,?_⟩
  refine⟨hf.1,hcall.mono ?_⟩
  rintro v Z' ⟨rfl,rfl⟩ -
  conv=>whnf
  apply cb_split<;>intro hc
  ·repeat refine⟨rfl,?_⟩
   conv=>whnf
   exact⟨by rw [idxV_some hx hc hinv],rfl⟩
  ·refine⟨by unfold InR;omega,?_⟩
   refine⟨rfl,i+1,⟨rfl,rfl,rfl,rfl,rfl,trivial⟩,⟨rfl,by omega,?_⟩,by show _-_<_-_;omega⟩
   intro y hy
   rw [take_at hx,List.mem_append] at hy
   rcases hy with hy | hy
   ·exact hinv y hy
   ·simp at hy;subst hy;exact hc
 ·have hge:len<=i:=by simpa using hc
  repeat refine⟨rfl,?_⟩
  refine⟨?_,rfl⟩
  rw [List.take_of_length_le (by omega)] at hinv
  rw [idxV_none hinv]
def kinIs (e:Int) (x y:Int) (k:GKn):Bool:=k.ed == e && (k.one == min x y && k.two == max x y)
theorem Tryz.level1_ok (be bx by':Nat) (e x y:Int) (he:Z.sees ⟨be,0,none⟩ (.int .i64 e)) (hx:Z.sees ⟨bx,0,none⟩ (.int .i64 x)) (hy:Z.sees ⟨by',0,none⟩ (.int .i64 y)) (k:GKn) :
  CallsV S 166 #[.agg #[.int .i64 k.ed,.int .i64 k.one,.int .i64 k.two,.int .i64 k.lev],.pointer (some ⟨be,0,none⟩),.pointer (some ⟨bx,0,none⟩),.pointer (some ⟨by',0,none⟩)] (λ v Z'=>v=.bool (kinIs e x y k)/\Z'=Z) Z:=by
 refine CallsV.pure' (CallsV.of (args:=[_,_,_,_]) Tryz.k166 Tryz.mixed (by simp) ?_)
 repeat refine⟨rfl,?_⟩
 conv=>whnf
 intro b Z1 hle hb
 refine⟨_,hb.sees3 rfl,?_⟩
 refine⟨_,he.lg hle.lg,?_⟩
 repeat refine⟨rfl,?_⟩
 conv=>whnf
 have kk:kinIs e x y k=(k.ed == e && (k.one == min x y && k.two == max x y)):=rfl
 apply gb_split<;>intro hc
 ·refine⟨_,hb.sees3 rfl,?_⟩
  refine⟨_,hx.lg hle.lg,?_⟩
  refine⟨_,hy.lg hle.lg,?_⟩
  conv=>whnf
  refine raw_min rfl rfl ?_
  repeat refine⟨rfl,?_⟩
  conv=>whnf
  apply gb_split<;>intro hc
  ·refine⟨_,hb.sees3 rfl,?_⟩
   refine⟨_,hx.lg hle.lg,?_⟩
   refine⟨_,hy.lg hle.lg,?_⟩
   conv=>whnf
   refine raw_max rfl rfl ?_
   repeat refine⟨rfl,?_⟩
   conv=>whnf
   exact⟨by rw [kk];simp_all,hle.lg⟩
  ·repeat refine⟨rfl,?_⟩
   conv=>whnf
   exact⟨by rw [kk];simp_all,hle.lg⟩
 ·repeat refine⟨rfl,?_⟩
  conv=>whnf
  exact⟨by rw [kk];simp_all,hle.lg⟩
theorem Tryz.index_ok (a:Option Addr) (len cap:Nat) (l:List Int) (hl:Ints Z a len l) (hlen:len<2 ^ 60) (n:Int) :
  CallsV S 120 #[.slice a len cap,.int .i64 n] (λ v Z'=>v=.int .i64 (idxV (λ y=>n == y) l)/\Z'=Z) Z:=by
 refine CallsV.of (args:=[_,_]) Tryz.k120 Tryz.mixed (by simp) ?_
 have hll:=hl.1
 repeat refine⟨rfl,?_⟩
 refine⟨Nat,λ i=>[(0,.slice a len cap),(1,.int .i64 n),(6,.slice a len cap),(7,.int .i64 len),(8,.int .i64 i)],
  λ i Z'=>Z'=Z/\i<=len/\∀x∈l.take i,(n == x)=false,λ i=>len-i,0,⟨rfl,rfl,rfl,rfl,rfl,trivial⟩,⟨rfl,by omega,by simp⟩,?_⟩
 rintro i f _ ⟨rfl,hi,hinv⟩
 repeat refine⟨rfl,?_⟩
 conv=>whnf
 apply cb_split<;>intro hc
 ·have hlt:i<len:=by simpa using hc
  obtain⟨ad,x,hx,rfl,hsp,hs⟩:=hl.at hlt
  refine⟨ad,i,⟨rfl,rfl,hlt⟩,?_⟩
  refine⟨_,hs,?_⟩
  repeat refine⟨rfl,?_⟩
  conv=>whnf
  apply cb_split<;>intro hc
  ·repeat refine⟨rfl,?_⟩
   conv=>whnf
   exact⟨by rw [idxV_some (p:=λ y=>n == y) hx hc hinv],rfl⟩
  ·refine⟨by unfold InR;omega,?_⟩
   refine⟨rfl,i+1,⟨rfl,rfl,rfl,rfl,rfl,trivial⟩,⟨rfl,by omega,?_⟩,by show _-_<_-_;omega⟩
   intro y hy
   rw [take_at hx,List.mem_append] at hy
   rcases hy with hy | hy
   ·exact hinv y hy
   ·simp at hy;subst hy;exact hc
 ·have hge:len<=i:=by simpa using hc
  repeat refine⟨rfl,?_⟩
  refine⟨?_,rfl⟩
  rw [List.take_of_length_le (by omega)] at hinv
  rw [idxV_none hinv]
theorem Tryz.contains_ok (a:Option Addr) (len cap:Nat) (l:List Int) (hl:Ints Z a len l) (hlen:len<2 ^ 60) (n:Int) :
  CallsV S 85 #[.slice a len cap,.int .i64 n] (λ v Z'=>v=.bool (l.contains n)/\Z'=Z) Z:=by
 refine CallsV.of (args:=[_,_]) Tryz.k85 Tryz.mixed (by simp) ?_
 refine⟨Tryz.k120.any,(Tryz.index_ok a len cap l hl hlen n).mono ?_⟩
 rintro v Z' ⟨rfl,rfl⟩ -
 repeat refine⟨rfl,?_⟩
 refine⟨?_,rfl⟩
 show Value.bool _=_
 rw [idxV_ge]
 congr 1
 rw [Bool.eq_iff_iff]
 simp
end Go.Proofs
namespace Go.TM
open Go.Proofs
def badCh (c:UInt8):Bool:=(decide ((c.toNat:Int)<97) || decide ((c.toNat:Int) > 122)) && (decide ((c.toNat:Int)<48) || decide ((c.toNat:Int) > 57))
end Go.TM
namespace Go.Proofs
open Go.TM
set_option maxRecDepth 100000
variable {T:Type} {S:TM.Sys Tryz.prog T} {Z:View T}
attribute [local irreducible] CallsV YieldV
theorem Tryz.badCh_ok (c:UInt8):CallsV S 149 #[.int .u8 c.toNat] (λ v Z'=>v=.bool (badCh c)/\Z'=Z) Z:=by
 refine CallsV.of (args:=[_]) Tryz.k149 Tryz.mixed (by simp) ?_
 have kk:badCh c=((decide ((c.toNat:Int)<97) || decide ((c.toNat:Int) > 122)) && (decide ((c.toNat:Int)<48) || decide ((c.toNat:Int) > 57))):=rfl
 repeat refine⟨rfl,?_⟩
 conv=>whnf
 apply gb_split<;>intro hc
 ·repeat refine⟨rfl,?_⟩
  conv=>whnf
  apply gb_split<;>intro hc
  ·repeat refine⟨rfl,?_⟩
   conv=>whnf
   apply gb_split<;>intro hc
   ·repeat refine⟨rfl,?_⟩
    conv=>whnf
    exact⟨by rw [kk];first | (simp_all;done) | (simp_all;omega),rfl⟩
   ·repeat refine⟨rfl,?_⟩
    conv=>whnf
    exact⟨by rw [kk];first | (simp_all;done) | (simp_all;omega),rfl⟩
  ·repeat refine⟨rfl,?_⟩
   conv=>whnf
   exact⟨by rw [kk];first | (simp_all;done) | (simp_all;omega),rfl⟩
 ·repeat refine⟨rfl,?_⟩
  conv=>whnf
  apply gb_split<;>intro hc
  ·repeat refine⟨rfl,?_⟩
   conv=>whnf
   exact⟨by rw [kk];first | (simp_all;done) | (simp_all;omega),rfl⟩
  ·repeat refine⟨rfl,?_⟩
   conv=>whnf
   exact⟨by rw [kk];first | (simp_all;done) | (simp_all;omega),rfl⟩
end Go.Proofs
namespace Go.TM
open Go.Proofs
def nameOk (s:ByteArray):Bool:=btw s.size 1 10 && ((match s.data.toList with | c::_=>!(decide ((c.toNat:Int)<97)) && !(decide ((c.toNat:Int) > 122)) | []=>false) && !(s.data.toList.any badCh))
end Go.TM
namespace Go.Proofs
open Go.TM
set_option maxRecDepth 100000
variable {T:Type} {S:TM.Sys Tryz.prog T} {Z:View T}
attribute [local irreducible] CallsV YieldV
theorem Tryz.containsB_ok (a:Option Addr) (len cap:Nat) (l:List UInt8) (hl:l.length=len) (hrd:∀(i:Nat) x,l[i]?=some x->∃ad,a=some ad/\ad.spot=none/\Z.sees (ad.add (i*1)) (.int .u8 x.toNat)) (hlen:len<2 ^ 60) :
  CallsV S 148 #[.slice a len cap,.func (.func 149) #[] #[]] (λ v Z'=>v=.bool (l.any badCh)/\Z'=Z) Z:=by
 refine CallsV.of (args:=[_,_]) Tryz.k148 Tryz.mixed (by simp) ?_
 refine⟨Tryz.k178.any,(Tryz.idxB_ok (λ c:UInt8=>.int .u8 c.toNat) a len cap l hl hrd (λ x=>⟨_,_,rfl⟩) hlen 149 #[] #[] badCh ⟨Tryz.k149.any,λ x _=>Tryz.badCh_ok x⟩).mono ?_⟩
 rintro v Z' ⟨rfl,rfl⟩ -
 repeat refine⟨rfl,?_⟩
 refine⟨?_,rfl⟩
 show Value.bool _=_
 rw [idxV_ge]
theorem Tryz.u9:Tryz.prog.underlying 9=some .string:=by kernel_rfl
theorem Tryz.u190:Tryz.prog.underlying 190=some (.slice 5):=by kernel_rfl
theorem Tryz.u5:Tryz.prog.underlying 5=some (.int .u8):=by kernel_rfl
theorem bget {s:ByteArray} {c:UInt8} {r:List UInt8} (h:s.data.toList=c::r):s[0]?=some c:=by
 have h1:s.data[0]?=some c:=by rw [<- Array.getElem?_toList,h];rfl
 obtain⟨hlt,he⟩:=Array.getElem?_eq_some_iff.1 h1
 rw [getElem?_pos s 0 (by simpa using hlt)]
 exact congrArg some he
theorem Tryz.isName_ok (s:ByteArray) (hs:s.size<2 ^ 60):CallsV S 112 #[.string s] (λ v Z'=>v=.bool (nameOk s)/\Z'=Z) Z:=by
 refine CallsV.pure' (CallsV.of (args:=[_]) Tryz.k112 Tryz.mixed (by simp) ?_)
 have hsz:s.size=s.data.toList.length:=by rw [Array.length_toList];rfl
 refine⟨Tryz.k109.any,(Tryz.between_ok _ _ _ _).mono ?_⟩
 rintro v Z' ⟨rfl,rfl⟩ -
 conv=>whnf
 apply gb_split<;>intro hc
 ·have hb:btw (s.size:Int) 1 10=true:=by simpa using hc
  cases hd:s.data.toList with
  | nil=>rw [hsz,hd] at hb;simp [btw] at hb
  | cons c r=>
   have hk:nameOk s=(!(decide ((c.toNat:Int)<97)) && !(decide ((c.toNat:Int) > 122)) && !((c::r).any badCh)):=by unfold nameOk;rw [hb,hd];rfl
   refine⟨0,c,⟨rfl,bget hd⟩,?_⟩
   repeat refine⟨rfl,?_⟩
   conv=>whnf
   apply gb_split<;>intro hc
   ·have h1:decide ((c.toNat:Int)<97)=false:=by simpa using hc
    refine⟨0,c,⟨rfl,bget hd⟩,?_⟩
    repeat refine⟨rfl,?_⟩
    conv=>whnf
    apply cb_split<;>intro hc
    ·repeat refine⟨rfl,?_⟩
     conv=>whnf
     exact⟨by rw [hk,hc];simp,View.le.lg (.refl _)⟩
    ·conv=>whnf
     refine raw_bytes Tryz.u9 Tryz.u190 Tryz.u5 rfl λ b cap cs fr hb' hcs=>?_
     refine⟨Tryz.k148.any,(Tryz.containsB_ok (some ⟨b,0,none⟩) s.size cap (c::r) (by rw [hsz,hd]) (λ i x hx=>⟨_,rfl,rfl,?_⟩) hs).mono ?_⟩
     ·rw [add_none]
      refine⟨rfl,.inl ⟨cs,5,fr,.inl (by simp [addI]),?_⟩⟩
      have:=hcs i x (by rw [<- Array.getElem?_toList,hd];exact hx)
      simpa using this
     rintro v Z'' ⟨rfl,rfl⟩ -
     repeat refine⟨rfl,?_⟩
     refine⟨?_,(le_add hb').lg⟩
     show Value.bool _=_
     rw [hk,h1,hc];simp
   ·have h1:decide ((c.toNat:Int)<97)=true:=by simpa using hc
    repeat refine⟨rfl,?_⟩
    conv=>whnf
    exact⟨by rw [hk,h1];rfl,View.le.lg (.refl _)⟩
 ·have hb:btw (s.size:Int) 1 10=false:=by simpa using hc
  repeat refine⟨rfl,?_⟩
  conv=>whnf
  exact⟨by unfold nameOk;rw [hb];rfl,View.le.lg (.refl _)⟩
end Go.Proofs
namespace Go.TM
open Go.Proofs
def Tbl.lev (t:Tbl) (e x y:Int):Int:=if x=y then 5 else match t.kns.find? (kinIs e x y) with | some k=>k.lev | none=>0
end Go.TM
namespace Go.Proofs
open Go.TM
set_option maxRecDepth 100000
variable {T:Type} {S:TM.Sys Tryz.prog T} {Z:View T}
attribute [local irreducible] CallsV YieldV
theorem idxV_find {α:Type} {p:α->Bool} {l:List α} (h:¬idxV p l<0):∃i x,idxV p l=(i:Nat)/\l[i]?=some x/\l.find? p=some x:=by
 unfold idxV at h ⊢
 cases hf:l.findIdx? p with
 | none=>rw [hf] at h;simp at h
 | some i=>
  rw [List.findIdx?_eq_some_iff_getElem] at hf
  obtain⟨hlt,hp,hno⟩:=hf
  refine⟨i,l[i],rfl,by simp,?_⟩
  rw [List.find?_eq_some_iff_getElem]
  exact⟨hp,i,hlt,rfl,λ j hj=>by have:=hno j hj;simpa using this⟩
theorem idxV_nofind {α:Type} {p:α->Bool} {l:List α} (h:idxV p l<0):l.find? p=none:=by
 unfold idxV at h
 cases hf:l.findIdx? p with
 | none=>rw [List.findIdx?_eq_none_iff] at hf;rw [List.find?_eq_none];intro x hx;simp [hf x hx]
 | some i=>rw [hf] at h;simp at h;omega
theorem Tryz.level_ok (h:TH) (t:Tbl) (ht:TabV Z h t) (e x y:Int):CallsV S 124 #[h.v,.int .i64 e,.int .i64 x,.int .i64 y] (λ v Z'=>v=.int .i64 (t.lev e x y)/\Z'=Z) Z:=by
 refine CallsV.pure' (CallsV.of (args:=[_,_,_,_]) Tryz.k124 Tryz.mixed (by simp) ?_)
 repeat refine⟨rfl,?_⟩
 conv=>whnf
 intro b_1 Z1 h_1 hb_1
 conv=>whnf
 intro b_2 Z2 h_2 hb_2
 conv=>whnf
 intro b_3 Z3 h_3 hb_3
 conv=>whnf
 intro b_4 Z4 h_4 hb_4
 have hle:Z.lg Z4:=(((h_1.trans h_2).trans h_3).trans h_4).lg
 have hb_1:=hb_1.le ((h_2.trans h_3).trans h_4)
 have hb_2:=hb_2.le (h_3.trans h_4)
 have hb_3:=hb_3.le h_4
 refine⟨_,hb_3.sees rfl,?_⟩
 refine⟨_,hb_4.sees rfl,?_⟩
 repeat refine⟨rfl,?_⟩
 conv=>whnf
 apply cb_split<;>intro hc
 ·have hxy:x=y:=by simpa using hc
  repeat refine⟨rfl,?_⟩
  conv=>whnf
  exact⟨by simp [Tbl.lev,hxy],hle⟩
 ·have hxy:x≠y:=by simpa using hc
  have hlev:t.lev e x y=match t.kns.find? (kinIs e x y) with | some k=>k.lev | none=>0:=by simp [Tbl.lev,hxy]
  refine⟨_,hb_1.sees3 rfl,?_⟩
  have hk:=ht.kl
  rw [ht.kns.1] at hk
  refine⟨Tryz.k165.any,(Tryz.idxK_ok (λ k:GKn=>[.int .i64 k.ed,.int .i64 k.one,.int .i64 k.two,.int .i64 k.lev]) _ _ _ _ (ht.kns.lg hle λ _ _ h=>h) hk 166 #[] #[_,_,_] (kinIs e x y) ⟨Tryz.k166.any,λ k _=>Tryz.level1_ok b_2 b_3 b_4 e x y (hb_2.sees rfl) (hb_3.sees rfl) (hb_4.sees rfl) k⟩).mono ?_⟩
  rintro v Z' ⟨rfl,rfl⟩ -
  repeat refine⟨rfl,?_⟩
  conv=>whnf
  apply cb_split<;>intro hc
  ·have hlt:idxV (kinIs e x y) t.kns<0:=by simpa using hc
   repeat refine⟨rfl,?_⟩
   conv=>whnf
   exact⟨by rw [hlev,idxV_nofind hlt],hle⟩
  ·have hlt:¬idxV (kinIs e x y) t.kns<0:=by simpa using hc
   obtain⟨i,k,hi,hk',hfd⟩:=idxV_find hlt
   have hil:i<h.kl:=by rw [<- ht.kns.1];exact (List.getElem?_eq_some_iff.1 hk').1
   obtain⟨ad,k',vs,hk'',hka,hsp,rfl,-,hrd⟩:=ht.kns.at hil
   cases hk'.symm.trans hk''
   refine⟨_,hb_1.sees3 rfl,?_⟩
   refine⟨ad,i,⟨hka,hi,hil⟩,?_⟩
   refine⟨_,(hrd 3 _ rfl).lg hle,?_⟩
   repeat refine⟨rfl,?_⟩
   conv=>whnf
   exact⟨by rw [hlev,hfd],hle⟩
end Go.Proofs
namespace Go.TM
theorem ba_beq (a b:ByteArray):(a == b)=decide (a=b):=by
 rw [Bool.eq_iff_iff]
 cases a with | mk x=>cases b with | mk y=>
 show (ByteArray.beq ⟨x⟩ ⟨y⟩)=true↔_
 simp [ByteArray.beq]
def setL {κ:Type} (s:List κ):List (κ×Value):=s.map λ k=>(k,.bool true)
theorem lkI_set {κ:Type} [DecidableEq κ] (k:κ):∀(s:List κ) (i:Nat),(lkI k (setL s) i).map (·.2)=if k∈s then some (.bool true) else none
 | [],i=>rfl
 | a::s,i=>by
  simp only [setL,List.map_cons,lkI]
  by_cases e:k=a
  ·simp [e]
  ·rw [if_neg e]
   have:=lkI_set k s (i+1)
   simp only [setL] at this
   rw [this]
   simp [e]
def inS {κ:Type} [DecidableEq κ] (k:κ) (s:List κ):Bool:=decide (k∈s)
theorem lk_set {κ:Type} [DecidableEq κ] (k:κ) (s:List κ):(lk k (setL s)).getD (.bool false)=.bool (inS k s):=by
 unfold lk inS;rw [lkI_set]
 by_cases h:k∈s <;> simp [h]
theorem ups_set' {κ:Type} [DecidableEq κ] (k:κ):∀(s:List κ),k∉s->ups k (.bool true) (setL s)=setL (s++[k])
 | [],_=>rfl
 | a::s,h=>by
  simp only [List.mem_cons,not_or] at h
  simp only [setL,List.map_cons,List.cons_append,ups,if_neg h.1]
  have:=ups_set' k s h.2
  simp only [setL] at this
  rw [this]
theorem ups_set {κ:Type} [DecidableEq κ] {k:κ} {s:List κ} (h:inS k s=false):ups k (.bool true) (setL s)=setL (s++[k]):=ups_set' k s (by simpa [inS] using h)
def chkIt (e:Int) (it:GItem) (s:List (Int×ByteArray)):Int:=if nameOk it.name then (if inS (e,it.name) s then 5 else if btw it.cls 1 45 then 0 else 1) else 4
def chkIts (e:Int):List GItem->List (Int×ByteArray)->Int×List (Int×ByteArray)
 | [],s=>(0,s)
 | it::r,s=>if chkIt e it s=0 then chkIts e r (s++[(e,it.name)]) else (chkIt e it s,s)
def chkEds:Int->List (List GItem)->List (Int×ByteArray)->Int
 | _,[],_=>0
 | e,l::r,s=>if 8<l.length then 2 else if (chkIts e l s).1=0 then chkEds (e+1) r (chkIts e l s).2 else (chkIts e l s).1
def Tbl.chkItems (t:Tbl):Int:=if btw t.eds.length 1 3 then chkEds 0 t.eds [] else 2
end Go.TM
namespace Go.Proofs
open Go.TM
set_option maxRecDepth 100000
variable {T:Type} {S:TM.Sys Tryz.prog T} {Z:View T}
attribute [local irreducible] CallsV YieldV
theorem Tryz.s144:StructOk Tryz.prog 144 (fsOf Tryz.prog 144):=.of (by kernel_rfl)
def encP (k:Int×ByteArray):List Value:=[.int .i64 k.1,.string k.2]
theorem Tryz.kt144:KeyT T Tryz.prog 144 (λ k=>.agg (encP k).toArray):=by
 refine .struct Tryz.s144 (λ k=>?_) (λ k k'=>?_) (λ k=>?_)
 ·kernel_rfl
 ·obtain⟨a,b⟩:=k;obtain⟨c,d⟩:=k'
  simp only [encP,eqvL,eqv,ba_beq]
  rw [Bool.eq_iff_iff];simp
 ·simp [Instr.sameBits,encP,ba_beq]
theorem Tryz.u142:Tryz.prog.underlying 142=some (.map 144 4):=by kernel_rfl
theorem Tryz.z4:zeroAt Tryz.prog 4=some (.bool false):=by kernel_rfl
theorem Tryz.checkItems_ok (h:TH) (t:Tbl) (ht:TabV Z h t):CallsV S 68 #[h.v] (λ v Z'=>v=.int .i64 t.chkItems/\Z'=Z) Z:=by
 refine CallsV.pure' (CallsV.of (args:=[_]) Tryz.k68 Tryz.mixed (by simp) ?_)
 have hel:=ht.eds.1
 have hel':=ht.el
 repeat refine⟨rfl,?_⟩
 conv=>whnf
 intro b Z1 h_1 hb
 refine⟨_,hb.sees3 rfl,?_⟩
 refine⟨Tryz.k109.any,(Tryz.between_ok _ _ _ _).mono ?_⟩
 rintro v Z' ⟨rfl,rfl⟩ -
 conv=>whnf
 apply cb_split<;>intro hc
 ·have hc':btw (h.el:Int) 1 3=false:=by simpa using hc
  repeat refine⟨rfl,?_⟩
  conv=>whnf
  exact⟨by unfold Tbl.chkItems;rw [hel,hc'];rfl,h_1.lg⟩
 have hc':btw (h.el:Int) 1 3=true:=by simpa using hc
 have hspec:t.chkItems=chkEds 0 t.eds []:=by unfold Tbl.chkItems;rw [hel,hc'];rfl
 conv=>whnf
 refine raw_makeMap (λ k=>.agg (encP k).toArray) λ mb hmb=>?_
 refine⟨_,View.sees.lg (hb.sees3 rfl) (lg_put mb _),?_⟩
 refine⟨Nat×List (Int×ByteArray),λ y=>[(1,.pointer (some ⟨b,0,none⟩)),(3,.map (some mb)),(18,.slice h.ea h.el h.ec),(19,.int .i64 h.el),(20,.int .i64 y.1)],
  λ y Z'=>Z'.lg Z'/\Z.lg Z'/\Z'.M=.obj mb (mapObj (λ k=>.agg (encP k).toArray) (setL y.2))::Z.M/\y.1<=h.el/\chkEds 0 t.eds []=chkEds y.1 (t.eds.drop y.1) y.2,
  λ y=>h.el-y.1,(0,[]),⟨rfl,rfl,rfl,rfl,rfl,trivial⟩,⟨View.le.lg (.refl _),h_1.lg.trans (lg_put _ _),?_,by simp,by simp⟩,?_⟩
 ·show _::_=_
  rw [h_1.own];rfl
 rintro⟨i,s⟩ f Z2 ⟨-,hlg,hM,hi,hinv⟩
 simp only at hM hi hinv
 repeat refine⟨rfl,?_⟩
 conv=>whnf
 apply cb_split<;>intro hc
 ·have hlt:i<h.el:=by simpa using hc
  obtain⟨ad,its,vs,hx,hea,hsp,⟨v,rfl,ia,il,ic,rfl,hr⟩,-,hrd⟩:=ht.eds.at hlt
  rw [drop_at hx,chkEds] at hinv
  refine⟨ad,i,⟨hea,rfl,hlt⟩,?_⟩
  refine⟨[_],⟨rfl,hrd.lg hlg⟩,?_⟩
  conv=>whnf
  intro b5 hf5
  refine⟨_,.refl _,?_⟩
  refine⟨rfl,st_new (vs:=[.slice ia il ic]) hf5 rfl (by simp [Value.single]) λ Z3 h_3 hb_5=>?_⟩
  have hlg3:=hlg.trans h_3.lg
  have hM3:Z3.M=_:=h_3.own.trans hM
  have hil:=hr.1
  have hil':=ht.il its (List.mem_of_getElem? hx)
  refine⟨_,hb_5.sees3 (o:=0) rfl,?_⟩
  repeat refine⟨rfl,?_⟩
  conv=>whnf
  apply cb_split<;>intro hc
  ·have hbig:8<its.length:=by rw [hil];simp at hc;omega
   repeat refine⟨rfl,?_⟩
   conv=>whnf
   exact⟨by rw [hspec,hinv,if_pos hbig],hlg3⟩
  have hbig:¬8<its.length:=by rw [hil];simp at hc;omega
  rw [if_neg hbig] at hinv
  refine⟨_,hb_5.sees3 (o:=0) rfl,?_⟩
  refine⟨Nat×List (Int×ByteArray),λ y=>[(1,.pointer (some ⟨b,0,none⟩)),(3,.map (some mb)),(4,.int .i64 i),(18,.slice h.ea h.el h.ec),(19,.int .i64 h.el),(20,.int .i64 i),(30,.slice ia il ic),(31,.int .i64 il),(32,.int .i64 y.1)],
   λ y Z'=>Z.lg Z'/\Z'.M=.obj mb (mapObj (λ k=>.agg (encP k).toArray) (setL y.2))::Z.M/\y.1<=il/\chkIts i its s=chkIts i (its.drop y.1) y.2,
   λ y=>il-y.1,(0,s),⟨rfl,rfl,rfl,rfl,rfl,rfl,rfl,rfl,rfl,trivial⟩,⟨hlg3,hM3,by simp,by simp⟩,?_⟩
  rintro⟨j,s'⟩ f Z4 ⟨hlg4,hM4,hj,hinv'⟩
  simp only at hM4 hj hinv'
  repeat refine⟨rfl,?_⟩
  conv=>whnf
  apply cb_split<;>intro hc
  ·have hjl:j<il:=by simpa using hc
   obtain⟨ad',it,vs,hxi,rfl,hsp',rfl,-,hrd'⟩:=hr.at hjl
   rw [drop_at hxi,chkIts] at hinv'
   have hnl:=ht.nl its (List.mem_of_getElem? hx) it (List.mem_of_getElem? hxi)
   refine⟨ad',j,⟨rfl,rfl,hjl⟩,?_⟩
   refine⟨_,⟨rfl,hrd'.lg hlg4⟩,?_⟩
   conv=>whnf
   intro b7 hf7
   refine⟨_,.refl _,?_⟩
   refine⟨rfl,st_new (vs:=[.string it.name,.int .i64 it.cls]) hf7 rfl (by simp [Value.single]) λ Z5 h_5 hb_7=>?_⟩
   refine⟨_,hb_7.sees3 (o:=0) rfl,?_⟩
   conv=>whnf
   intro b8 hf8
   refine⟨_,.refl _,?_⟩
   refine⟨rfl,st_new (vs:=[.int .i64 i,.string it.name]) hf8 rfl (by simp [Value.single]) λ Z6 h_6 hb8=>?_⟩
   have hb_7:=hb_7.le h_6
   have hlg6:=hlg4.trans (h_5.trans h_6).lg
   have hM_6:Z6.M=_:=(h_5.trans h_6).own.trans hM4
   refine⟨_,hb_7.sees3 (o:=0) rfl,?_⟩
   refine⟨Tryz.k112.any,(Tryz.isName_ok it.name hnl).mono ?_⟩
   rintro v Z' ⟨rfl,rfl⟩ -
   conv=>whnf
   apply cb_split<;>intro hc
   ·have hn:nameOk it.name=false:=by simpa using hc
    repeat refine⟨rfl,?_⟩
    conv=>whnf
    have hf:chkIt i it s'=4:=by unfold chkIt;rw [hn];rfl
    rw [hf] at hinv'
    exact⟨by rw [hspec,hinv,hinv'];rfl,hlg6⟩
   have hn:nameOk it.name=true:=by simpa using hc
   refine⟨[.int .i64 i,.string it.name],⟨rfl,hb8.reads (λ k v hv=>by simpa using hv)⟩,?_⟩
   conv=>whnf
   refine raw_lookup (k:=((i:Int),it.name)) Tryz.kt144 Tryz.u142 Tryz.z4 rfl rfl (.inr (by rw [hM_6];exact List.mem_cons_self ..)) ?_
   rw [lk_set]
   repeat refine⟨rfl,?_⟩
   conv=>whnf
   apply cb_split<;>intro hc
   ·have hin:inS ((i:Int),it.name) s'=true:=by simpa using hc
    repeat refine⟨rfl,?_⟩
    conv=>whnf
    have hf:chkIt i it s'=5:=by unfold chkIt;rw [if_pos hn,if_pos hin]
    rw [hf] at hinv'
    exact⟨by rw [hspec,hinv,hinv'];rfl,hlg6⟩
   have hin:inS ((i:Int),it.name) s'=false:=by simpa using hc
   refine⟨_,hb_7.sees3 (o:=1) rfl,?_⟩
   refine⟨Tryz.k109.any,(Tryz.between_ok _ _ _ _).mono ?_⟩
   rintro v Z' ⟨rfl,rfl⟩ -
   conv=>whnf
   apply cb_split<;>intro hc
   ·have hcl:btw it.cls 1 45=false:=by simpa using hc
    repeat refine⟨rfl,?_⟩
    conv=>whnf
    have hf:chkIt i it s'=1:=by unfold chkIt;rw [if_pos hn,hin,hcl];rfl
    rw [hf] at hinv'
    exact⟨by rw [hspec,hinv,hinv'];rfl,hlg6⟩
   have hcl:btw it.cls 1 45=true:=by simpa using hc
   have hf:chkIt i it s'=0:=by unfold chkIt;rw [if_pos hn,hin,hcl];rfl
   rw [if_pos hf] at hinv'
   refine⟨[.int .i64 i,.string it.name],⟨rfl,hb8.reads (λ k v hv=>by simpa using hv)⟩,?_⟩
   conv=>whnf
   refine raw_mapUpdate (v:=.bool true) (k:=((i:Int),it.name)) (l:=setL s') (M':=.obj mb (mapObj (λ k=>.agg (encP k).toArray) (setL (s'++[((i:Int),it.name)])))::Z.M) Tryz.kt144 Tryz.u142 rfl rfl rfl (by rw [hM_6,ups_set hin];exact .here) ?_
   refine⟨by unfold InR;omega,?_⟩
   refine⟨rfl,(j+1,s'++[((i:Int),it.name)]),⟨rfl,rfl,rfl,rfl,rfl,rfl,rfl,rfl,rfl,trivial⟩,⟨⟨hlg6.imm,⟨[_],rfl⟩,hlg6.tok⟩,rfl,by show j+1<=il;omega,hinv'⟩,by show _-_<_-_;omega⟩
  ·have hge:il<=j:=by simpa using hc
   rw [List.drop_eq_nil_of_le (by omega),chkIts] at hinv'
   rw [hinv',if_pos rfl] at hinv
   refine⟨by unfold InR;omega,?_⟩
   refine⟨rfl,(i+1,s'),⟨rfl,rfl,rfl,rfl,rfl,trivial⟩,⟨View.le.lg (.refl _),hlg4,hM4,by show i+1<=h.el;omega,?_⟩,by show _-_<_-_;omega⟩
   rw [hinv];simp
 ·have hge:h.el<=i:=by simpa using hc
  repeat refine⟨rfl,?_⟩
  conv=>whnf
  rw [List.drop_eq_nil_of_le (by omega)] at hinv
  exact⟨by rw [hspec,hinv];rfl,hlg⟩
end Go.Proofs
namespace Go.TM
variable {T:Type} {Z:View T}
theorem put_new {b:Nat} {c:Array Value} {t:TypeId} {Q:View T->Prop} (hf:Z.free b) (h:∀Z1,Z.le Z1->Blk Z1 b c->Q Z1):∃Z1,Shift (Z.put b (.cells c t)) Z1/\Q Z1:=
 ⟨_,shift_freeze (b:=b) (M':=Z.M) (List.Perm.refl _),h _ (le_add hf) Blk.new⟩
theorem st_keep {b:Nat} {c:Array Value} {t:TypeId} {vs:List Value} {Q:View T->Prop} (hsz:c.size=vs.length) (hs:∀v∈vs,v.single=true) (h:Q (Z.put b (.cells vs.toArray t))) :
  StV ⟨b,0,none⟩ vs 0 (λ Z'=>∃Z1,Shift Z' Z1/\Q Z1) (Z.put b (.cells c t)):=by
 refine stv_head vs 0 c _ rfl hs (by omega) ?_
 rw [layAt_all hsz]
 exact⟨_,.refl _,h⟩
theorem st_cell {b i:Nat} {c:Array Value} {t:TypeId} {v:Value} {Q:View T->Prop} (hf:Z.free b) (hi:i<c.size) (hs:v.single=true) (h:∀Z1,Z.le Z1->Blk Z1 b (c.setIfInBounds i v)->Q Z1) :
  StV ((Addr.mk b 0 none).add i) [v] 0 (λ Z'=>∃Z1,Shift Z' Z1/\Q Z1) (Z.put b (.cells c t)):=by
 rw [add_none]
 refine stv_head [v] 0 c _ rfl (by simpa using hs) (by simp;omega) ?_
 simp only [layAt,Nat.zero_add,Nat.add_zero]
 exact put_new hf h
def Tbl.mvOk (t:Tbl) (m:GMv):Bool:=t.isEd m.ed && (t.isEd (m.ed+1) && (t.isItem m.ed m.fr && t.isItem (m.ed+1) m.to))
def Tbl.chkMv (t:Tbl) (m:GMv) (s:List (Int×Int×Int)):Int:=if t.mvOk m then (if inS (m.ed,m.fr,m.to) s then 5 else 0) else 6
def Tbl.chkMvs (t:Tbl):List GMv->List (Int×Int×Int)->Int
 | [],_=>0
 | m::r,s=>if t.chkMv m s=0 then t.chkMvs r (s++[(m.ed,m.fr,m.to)]) else t.chkMv m s
def Tbl.chkMoves (t:Tbl):Int:=if 16<t.mvs.length then 2 else t.chkMvs t.mvs []
def Tbl.knOk (t:Tbl) (k:GKn):Bool:=t.isEd k.ed && (t.isItem k.ed k.one && t.isItem k.ed k.two)
def Tbl.chkKn (t:Tbl) (k:GKn) (s:List (Int×Int×Int)):Int:=if t.knOk k then (if k.one<k.two then (if btw k.lev 1 5 then (if inS (k.ed,k.one,k.two) s then 5 else 0) else 1) else 7) else 6
def Tbl.chkKns (t:Tbl):List GKn->List (Int×Int×Int)->Int
 | [],_=>0
 | k::r,s=>if t.chkKn k s=0 then t.chkKns r (s++[(k.ed,k.one,k.two)]) else t.chkKn k s
def Tbl.chkKins (t:Tbl):Int:=if 10<t.kns.length then 2 else t.chkKns t.kns []
def Tbl.flaw (t:Tbl):Int:=if t.chkItems=0 then (if t.chkMoves=0 then t.chkKins else t.chkMoves) else t.chkItems
theorem Tbl.isEd_lt {t:Tbl} {e:Int} (h:t.isEd e=true):0<=e/\e<t.eds.length:=by
 unfold Tbl.isEd btw at h
 simp only [Bool.and_eq_true,decide_eq_true_eq] at h
 omega
end Go.TM
namespace Go.Proofs
open Go.TM
set_option maxRecDepth 100000
variable {T:Type} {S:TM.Sys Tryz.prog T} {Z:View T}
attribute [local irreducible] CallsV YieldV
theorem Tryz.s132:StructOk Tryz.prog 132 (fsOf Tryz.prog 132):=.of (by kernel_rfl)
def enc3 (k:Int×Int×Int):List Value:=[.int .i64 k.1,.int .i64 k.2.1,.int .i64 k.2.2]
theorem Tryz.kt132:KeyT T Tryz.prog 132 (λ k=>.agg (enc3 k).toArray):=by
 refine .struct Tryz.s132 (λ k=>?_) (λ k k'=>?_) (λ k=>?_)
 ·kernel_rfl
 ·obtain⟨a,b,c⟩:=k;obtain⟨a',b',c'⟩:=k'
  simp only [enc3,eqvL,eqv]
  rw [Bool.eq_iff_iff];simp
 ·simp [Instr.sameBits,enc3]
theorem Tryz.s138:StructOk Tryz.prog 138 (fsOf Tryz.prog 138):=.of (by kernel_rfl)
def enc4 (k:Int×Int×Int):List Value:=[.int .i64 k.1,.int .i64 k.2.1,.int .i64 k.2.2,.int .i64 0]
theorem Tryz.kt138:KeyT T Tryz.prog 138 (λ k=>.agg (enc4 k).toArray):=by
 refine .struct Tryz.s138 (λ k=>?_) (λ k k'=>?_) (λ k=>?_)
 ·kernel_rfl
 ·obtain⟨a,b,c⟩:=k;obtain⟨a',b',c'⟩:=k'
  simp only [enc4,eqvL,eqv]
  rw [Bool.eq_iff_iff];simp
 ·simp [Instr.sameBits,enc4]
theorem Tryz.u146:Tryz.prog.underlying 146=some (.map 132 4):=by kernel_rfl
theorem Tryz.u148:Tryz.prog.underlying 148=some (.map 138 4):=by kernel_rfl
theorem Tryz.checkMoves_ok (h:TH) (t:Tbl) (ht:TabV Z h t):CallsV S 69 #[h.v] (λ v Z'=>v=.int .i64 t.chkMoves/\Z'=Z) Z:=by
 refine CallsV.pure' (CallsV.of (args:=[_]) Tryz.k69 Tryz.mixed (by simp) ?_)
 have hel:=ht.mvs.1
 have hml:=ht.ml
 have hed:=ht.el
 repeat refine⟨rfl,?_⟩
 conv=>whnf
 intro b Z1 h_1 hb
 refine⟨_,hb.sees3 rfl,?_⟩
 repeat refine⟨rfl,?_⟩
 conv=>whnf
 apply cb_split<;>intro hc
 ·have hbig:16<t.mvs.length:=by rw [hel];simp at hc;omega
  repeat refine⟨rfl,?_⟩
  conv=>whnf
  exact⟨by unfold Tbl.chkMoves;rw [if_pos hbig],h_1.lg⟩
 have hbig:¬16<t.mvs.length:=by rw [hel];simp at hc;omega
 have hspec:t.chkMoves=t.chkMvs t.mvs []:=by unfold Tbl.chkMoves;rw [if_neg hbig]
 conv=>whnf
 refine raw_makeMap (λ k=>.agg (enc3 k).toArray) λ mb hmb=>?_
 refine⟨_,View.sees.lg (hb.sees3 rfl) (lg_put mb _),?_⟩
 have hg_1:Z1.lg Z1:=View.le.lg (.refl _)
 refine⟨Nat×List (Int×Int×Int),λ y=>[(1,.pointer (some ⟨b,0,none⟩)),(3,.map (some mb)),(14,.slice h.ma h.ml h.mc),(15,.int .i64 h.ml),(16,.int .i64 y.1)],
  λ y Z'=>Z1.lg Z'/\Z.lg Z'/\Z'.M=.obj mb (mapObj (λ k=>.agg (enc3 k).toArray) (setL y.2))::Z.M/\y.1<=h.ml/\t.chkMvs t.mvs []=t.chkMvs (t.mvs.drop y.1) y.2,
  λ y=>h.ml-y.1,(0,[]),⟨rfl,rfl,rfl,rfl,rfl,trivial⟩,⟨lg_put _ _,h_1.lg.trans (lg_put _ _),?_,by simp,by simp⟩,?_⟩
 ·show _::_=_
  rw [h_1.own];rfl
 rintro⟨i,s⟩ f Z2 ⟨hg,hlg,hM,hi,hinv⟩
 simp only at hM hi hinv
 repeat refine⟨rfl,?_⟩
 conv=>whnf
 apply cb_split<;>intro hc
 ·have hlt:i<h.ml:=by simpa using hc
  obtain⟨ad,m,vs,hx,hma,hsp,rfl,-,hrd⟩:=ht.mvs.at hlt
  rw [drop_at hx,Tbl.chkMvs] at hinv
  refine⟨ad,i,⟨hma,rfl,hlt⟩,?_⟩
  refine⟨_,⟨rfl,hrd.lg hlg⟩,?_⟩
  conv=>whnf
  intro b5 hf5
  refine⟨_,.refl _,?_⟩
  refine⟨rfl,st_new (vs:=[.int .i64 m.ed,.int .i64 m.fr,.int .i64 m.to]) hf5 rfl (by simp [Value.single]) λ Z3 h_3 hb_5=>?_⟩
  have hlg3:=hlg.trans h_3.lg
  have hM3:Z3.M=_:=h_3.own.trans hM
  have hb_3:=hb.lg (hg.trans h_3.lg)
  have ht3:=ht.lg hlg3
  have hok:t.mvOk m=(t.isEd m.ed && (t.isEd (m.ed+1) && (t.isItem m.ed m.fr && t.isItem (m.ed+1) m.to))):=rfl
  refine⟨[.slice h.ea h.el h.ec,.slice h.ma h.ml h.mc,.slice h.ka h.kl h.kc],⟨rfl,hb_3.reads (λ k v hv=>by simpa using hv)⟩,?_⟩
  refine⟨_,hb_5.sees3 (o:=0) rfl,?_⟩
  refine⟨Tryz.k77.any,(Tryz.isEdition_ok h t ht3 m.ed).mono ?_⟩
  rintro v Z' ⟨rfl,rfl⟩ -
  conv=>whnf
  have fin6:t.mvOk m=false->t.chkMoves=6:=λ hf=>by
   have h6:t.chkMv m s=6:=by unfold Tbl.chkMv;rw [hf];rfl
   rw [hspec,hinv,h6];rfl
  apply gb_split<;>intro hc
  ·have h1:t.isEd m.ed=true:=by simpa using hc
   have hb1:=Tbl.isEd_lt h1
   refine⟨[.slice h.ea h.el h.ec,.slice h.ma h.ml h.mc,.slice h.ka h.kl h.kc],⟨rfl,hb_3.reads (λ k v hv=>by simpa using hv)⟩,?_⟩
   refine⟨_,hb_5.sees3 (o:=0) rfl,?_⟩
   refine⟨by unfold InR;omega,?_⟩
   refine⟨Tryz.k77.any,(Tryz.isEdition_ok h t ht3 (m.ed+1)).mono ?_⟩
   rintro v Z' ⟨rfl,rfl⟩ -
   conv=>whnf
   apply gb_split<;>intro hc
   ·have h2:t.isEd (m.ed+1)=true:=by simpa using hc
    refine⟨[.slice h.ea h.el h.ec,.slice h.ma h.ml h.mc,.slice h.ka h.kl h.kc],⟨rfl,hb_3.reads (λ k v hv=>by simpa using hv)⟩,?_⟩
    refine⟨_,hb_5.sees3 (o:=0) rfl,?_⟩
    refine⟨_,hb_5.sees3 (o:=1) rfl,?_⟩
    refine⟨Tryz.k113.any,(Tryz.isItem_ok h t ht3 m.ed m.fr).mono ?_⟩
    rintro v Z' ⟨rfl,rfl⟩ -
    conv=>whnf
    apply gb_split<;>intro hc
    ·have h3:t.isItem m.ed m.fr=true:=by simpa using hc
     refine⟨[.slice h.ea h.el h.ec,.slice h.ma h.ml h.mc,.slice h.ka h.kl h.kc],⟨rfl,hb_3.reads (λ k v hv=>by simpa using hv)⟩,?_⟩
     refine⟨_,hb_5.sees3 (o:=0) rfl,?_⟩
     refine⟨by unfold InR;omega,?_⟩
     refine⟨_,hb_5.sees3 (o:=2) rfl,?_⟩
     refine⟨Tryz.k113.any,(Tryz.isItem_ok h t ht3 (m.ed+1) m.to).mono ?_⟩
     rintro v Z' ⟨rfl,rfl⟩ -
     conv=>whnf
     apply cb_split<;>intro hc
     ·repeat refine⟨rfl,?_⟩
      conv=>whnf
      exact⟨by rw [fin6];rw [hok];simp_all,hlg3⟩
     ·have h4:t.isItem (m.ed+1) m.to=true:=by simpa using hc
      have hok':t.mvOk m=true:=by rw [hok,h1,h2,h3,h4];rfl
      refine⟨[.int .i64 m.ed,.int .i64 m.fr,.int .i64 m.to],⟨rfl,hb_5.reads (λ k v hv=>by simpa using hv)⟩,?_⟩
      conv=>whnf
      refine raw_lookup (k:=(m.ed,m.fr,m.to)) Tryz.kt132 Tryz.u146 Tryz.z4 rfl rfl (.inr (by rw [hM3];exact List.mem_cons_self ..)) ?_
      rw [lk_set]
      repeat refine⟨rfl,?_⟩
      conv=>whnf
      apply cb_split<;>intro hc
      ·repeat refine⟨rfl,?_⟩
       conv=>whnf
       have h5:t.chkMv m s=5:=by unfold Tbl.chkMv;rw [hok',hc];rfl
       rw [h5] at hinv
       exact⟨by rw [hspec,hinv];rfl,hlg3⟩
      ·have hin:=hc
       have h5:t.chkMv m s=0:=by unfold Tbl.chkMv;rw [hok',hc];rfl
       rw [h5,if_pos rfl] at hinv
       refine⟨[.int .i64 m.ed,.int .i64 m.fr,.int .i64 m.to],⟨rfl,hb_5.reads (λ k v hv=>by simpa using hv)⟩,?_⟩
       conv=>whnf
       refine raw_mapUpdate (v:=.bool true) (k:=(m.ed,m.fr,m.to)) (l:=setL s) (M':=.obj mb (mapObj (λ k=>.agg (enc3 k).toArray) (setL (s++[(m.ed,m.fr,m.to)])))::Z.M) Tryz.kt132 Tryz.u146 rfl rfl rfl (by rw [hM3,ups_set hin];exact .here) ?_
       refine⟨by unfold InR;omega,?_⟩
       refine⟨rfl,(i+1,s++[(m.ed,m.fr,m.to)]),⟨rfl,rfl,rfl,rfl,rfl,trivial⟩,⟨⟨(hg.trans h_3.lg).imm,⟨[_],by show _::Z.M=_;rw [h_1.own];rfl⟩,(hg.trans h_3.lg).tok⟩,⟨hlg3.imm,⟨[_],rfl⟩,hlg3.tok⟩,rfl,by show i+1<=h.ml;omega,by rw [hinv]⟩,by show _-_<_-_;omega⟩
    ·repeat refine⟨rfl,?_⟩
     conv=>whnf
     exact⟨by rw [fin6];rw [hok];simp_all,hlg3⟩
   ·repeat refine⟨rfl,?_⟩
    conv=>whnf
    exact⟨by rw [fin6];rw [hok];simp_all,hlg3⟩
  ·repeat refine⟨rfl,?_⟩
   conv=>whnf
   exact⟨by rw [fin6];rw [hok];simp_all,hlg3⟩
 ·have hge:h.ml<=i:=by simpa using hc
  repeat refine⟨rfl,?_⟩
  conv=>whnf
  rw [List.drop_eq_nil_of_le (by omega)] at hinv
  exact⟨by rw [hspec,hinv];rfl,hlg⟩
theorem Tryz.checkKin_ok (h:TH) (t:Tbl) (ht:TabV Z h t):CallsV S 70 #[h.v] (λ v Z'=>v=.int .i64 t.chkKins/\Z'=Z) Z:=by
 refine CallsV.pure' (CallsV.of (args:=[_]) Tryz.k70 Tryz.mixed (by simp) ?_)
 have hel:=ht.kns.1
 have hml:=ht.kl
 repeat refine⟨rfl,?_⟩
 conv=>whnf
 intro b Z1 h_1 hb
 refine⟨_,hb.sees3 rfl,?_⟩
 repeat refine⟨rfl,?_⟩
 conv=>whnf
 apply cb_split<;>intro hc
 ·have hbig:10<t.kns.length:=by rw [hel];simp at hc;omega
  repeat refine⟨rfl,?_⟩
  conv=>whnf
  exact⟨by unfold Tbl.chkKins;rw [if_pos hbig],h_1.lg⟩
 have hbig:¬10<t.kns.length:=by rw [hel];simp at hc;omega
 have hspec:t.chkKins=t.chkKns t.kns []:=by unfold Tbl.chkKins;rw [if_neg hbig]
 conv=>whnf
 refine raw_makeMap (λ k=>.agg (enc4 k).toArray) λ mb hmb=>?_
 refine⟨_,View.sees.lg (hb.sees3 rfl) (lg_put mb _),?_⟩
 refine⟨Nat×List (Int×Int×Int),λ y=>[(1,.pointer (some ⟨b,0,none⟩)),(3,.map (some mb)),(15,.slice h.ka h.kl h.kc),(16,.int .i64 h.kl),(17,.int .i64 y.1)],
  λ y Z'=>Z1.lg Z'/\Z.lg Z'/\Z'.M=.obj mb (mapObj (λ k=>.agg (enc4 k).toArray) (setL y.2))::Z.M/\y.1<=h.kl/\t.chkKns t.kns []=t.chkKns (t.kns.drop y.1) y.2,
  λ y=>h.kl-y.1,(0,[]),⟨rfl,rfl,rfl,rfl,rfl,trivial⟩,⟨lg_put _ _,h_1.lg.trans (lg_put _ _),?_,by simp,by simp⟩,?_⟩
 ·show _::_=_
  rw [h_1.own];rfl
 rintro⟨i,s⟩ f Z2 ⟨hg,hlg,hM,hi,hinv⟩
 simp only at hM hi hinv
 repeat refine⟨rfl,?_⟩
 conv=>whnf
 apply cb_split<;>intro hc
 ·have hlt:i<h.kl:=by simpa using hc
  obtain⟨ad,m,vs,hx,hma,hsp,rfl,-,hrd⟩:=ht.kns.at hlt
  rw [drop_at hx,Tbl.chkKns] at hinv
  refine⟨ad,i,⟨hma,rfl,hlt⟩,?_⟩
  refine⟨_,⟨rfl,hrd.lg hlg⟩,?_⟩
  conv=>whnf
  intro b5 hf5
  refine⟨_,.refl _,?_⟩
  refine⟨rfl,st_new (vs:=[.int .i64 m.ed,.int .i64 m.one,.int .i64 m.two,.int .i64 m.lev]) hf5 rfl (by simp [Value.single]) λ Z3 h_3 hb_5=>?_⟩
  refine⟨[.int .i64 m.ed,.int .i64 m.one,.int .i64 m.two,.int .i64 m.lev],⟨rfl,hb_5.reads (λ k v hv=>by simpa using hv)⟩,?_⟩
  conv=>whnf
  intro b6 hf6
  refine⟨_,.refl _,?_⟩
  refine⟨rfl,st_keep (vs:=[.int .i64 m.ed,.int .i64 m.one,.int .i64 m.two,.int .i64 m.lev]) rfl (by simp [Value.single]) ?_⟩
  refine⟨rfl,st_cell (i:=3) hf6 (by simp) rfl λ Z4 h_4 hb6=>?_⟩
  have hb6:Blk Z4 b6 #[.int .i64 m.ed,.int .i64 m.one,.int .i64 m.two,.int .i64 0]:=hb6
  have hb_5:=hb_5.le h_4
  have hlg3:=hlg.trans (h_3.trans h_4).lg
  have hM3:Z4.M=_:=(h_3.trans h_4).own.trans hM
  have hb_3:=hb.lg (hg.trans (h_3.trans h_4).lg)
  have ht3:=ht.lg hlg3
  have hok:t.knOk m=(t.isEd m.ed && (t.isItem m.ed m.one && t.isItem m.ed m.two)):=rfl
  refine⟨[.slice h.ea h.el h.ec,.slice h.ma h.ml h.mc,.slice h.ka h.kl h.kc],⟨rfl,hb_3.reads (λ k v hv=>by simpa using hv)⟩,?_⟩
  refine⟨_,hb_5.sees3 (o:=0) rfl,?_⟩
  refine⟨Tryz.k77.any,(Tryz.isEdition_ok h t ht3 m.ed).mono ?_⟩
  rintro v Z' ⟨rfl,rfl⟩ -
  conv=>whnf
  have fin6:t.knOk m=false->t.chkKins=6:=λ hf=>by
   have h6:t.chkKn m s=6:=by unfold Tbl.chkKn;rw [hf];rfl
   rw [hspec,hinv,h6];rfl
  apply gb_split<;>intro hc
  ·have h1:t.isEd m.ed=true:=by simpa using hc
   refine⟨[.slice h.ea h.el h.ec,.slice h.ma h.ml h.mc,.slice h.ka h.kl h.kc],⟨rfl,hb_3.reads (λ k v hv=>by simpa using hv)⟩,?_⟩
   refine⟨_,hb_5.sees3 (o:=0) rfl,?_⟩
   refine⟨_,hb_5.sees3 (o:=1) rfl,?_⟩
   refine⟨Tryz.k113.any,(Tryz.isItem_ok h t ht3 m.ed m.one).mono ?_⟩
   rintro v Z' ⟨rfl,rfl⟩ -
   conv=>whnf
   apply gb_split<;>intro hc
   ·have h2:t.isItem m.ed m.one=true:=by simpa using hc
    refine⟨[.slice h.ea h.el h.ec,.slice h.ma h.ml h.mc,.slice h.ka h.kl h.kc],⟨rfl,hb_3.reads (λ k v hv=>by simpa using hv)⟩,?_⟩
    refine⟨_,hb_5.sees3 (o:=0) rfl,?_⟩
    refine⟨_,hb_5.sees3 (o:=2) rfl,?_⟩
    refine⟨Tryz.k113.any,(Tryz.isItem_ok h t ht3 m.ed m.two).mono ?_⟩
    rintro v Z' ⟨rfl,rfl⟩ -
    conv=>whnf
    apply cb_split<;>intro hc
    ·repeat refine⟨rfl,?_⟩
     conv=>whnf
     exact⟨by rw [fin6];rw [hok];simp_all,hlg3⟩
    ·have h4:t.isItem m.ed m.two=true:=by simpa using hc
     have hok':t.knOk m=true:=by rw [hok,h1,h2,h4];rfl
     refine⟨_,hb_5.sees3 (o:=1) rfl,?_⟩
     refine⟨_,hb_5.sees3 (o:=2) rfl,?_⟩
     repeat refine⟨rfl,?_⟩
     conv=>whnf
     apply cb_split<;>intro hc
     ·have hlt':¬m.one<m.two:=by simp at hc;omega
      repeat refine⟨rfl,?_⟩
      conv=>whnf
      have h5:t.chkKn m s=7:=by unfold Tbl.chkKn;rw [hok'];simp [hlt']
      rw [h5] at hinv
      exact⟨by rw [hspec,hinv];rfl,hlg3⟩
     have hlt':m.one<m.two:=by simp at hc;omega
     refine⟨_,hb_5.sees3 (o:=3) rfl,?_⟩
     refine⟨Tryz.k109.any,(Tryz.between_ok _ _ _ _).mono ?_⟩
     rintro v Z' ⟨rfl,rfl⟩ -
     conv=>whnf
     apply cb_split<;>intro hc
     ·have hl:btw m.lev 1 5=false:=by simpa using hc
      repeat refine⟨rfl,?_⟩
      conv=>whnf
      have h5:t.chkKn m s=1:=by unfold Tbl.chkKn;rw [hok',if_pos hlt',hl];rfl
      rw [h5] at hinv
      exact⟨by rw [hspec,hinv];rfl,hlg3⟩
     have hl:btw m.lev 1 5=true:=by simpa using hc
     refine⟨[.int .i64 m.ed,.int .i64 m.one,.int .i64 m.two,.int .i64 0],⟨rfl,hb6.reads (λ k v hv=>by simpa using hv)⟩,?_⟩
     conv=>whnf
     refine raw_lookup (k:=(m.ed,m.one,m.two)) Tryz.kt138 Tryz.u148 Tryz.z4 rfl rfl (.inr (by rw [hM3];exact List.mem_cons_self ..)) ?_
     rw [lk_set]
     repeat refine⟨rfl,?_⟩
     conv=>whnf
     apply cb_split<;>intro hc
     ·repeat refine⟨rfl,?_⟩
      conv=>whnf
      have h5:t.chkKn m s=5:=by unfold Tbl.chkKn;rw [hok',if_pos hlt',hl,hc];rfl
      rw [h5] at hinv
      exact⟨by rw [hspec,hinv];rfl,hlg3⟩
     ·have hin:=hc
      have h5:t.chkKn m s=0:=by unfold Tbl.chkKn;rw [hok',if_pos hlt',hl,hc];rfl
      rw [h5,if_pos rfl] at hinv
      refine⟨[.int .i64 m.ed,.int .i64 m.one,.int .i64 m.two,.int .i64 0],⟨rfl,hb6.reads (λ k v hv=>by simpa using hv)⟩,?_⟩
      conv=>whnf
      refine raw_mapUpdate (v:=.bool true) (k:=(m.ed,m.one,m.two)) (l:=setL s) (M':=.obj mb (mapObj (λ k=>.agg (enc4 k).toArray) (setL (s++[(m.ed,m.one,m.two)])))::Z.M) Tryz.kt138 Tryz.u148 rfl rfl rfl (by rw [hM3,ups_set hin];exact .here) ?_
      refine⟨by unfold InR;omega,?_⟩
      refine⟨rfl,(i+1,s++[(m.ed,m.one,m.two)]),⟨rfl,rfl,rfl,rfl,rfl,trivial⟩,⟨⟨(hg.trans (h_3.trans h_4).lg).imm,⟨[_],by show _::Z.M=_;rw [h_1.own];rfl⟩,(hg.trans (h_3.trans h_4).lg).tok⟩,⟨hlg3.imm,⟨[_],rfl⟩,hlg3.tok⟩,rfl,by show i+1<=h.kl;omega,by rw [hinv]⟩,by show _-_<_-_;omega⟩
   ·repeat refine⟨rfl,?_⟩
    conv=>whnf
    exact⟨by rw [fin6];rw [hok];simp_all,hlg3⟩
  ·repeat refine⟨rfl,?_⟩
   conv=>whnf
   exact⟨by rw [fin6];rw [hok];simp_all,hlg3⟩
 ·have hge:h.kl<=i:=by simpa using hc
  repeat refine⟨rfl,?_⟩
  conv=>whnf
  rw [List.drop_eq_nil_of_le (by omega)] at hinv
  exact⟨by rw [hspec,hinv];rfl,hlg⟩
theorem Tryz.checkTable_ok (h:TH) (t:Tbl) (ht:TabV Z h t):CallsV S 29 #[h.v] (λ v Z'=>v=.int .i64 t.flaw/\Z'=Z) Z:=by
 refine CallsV.pure' (CallsV.of (args:=[_]) Tryz.k29 Tryz.mixed (by simp) ?_)
 repeat refine⟨rfl,?_⟩
 conv=>whnf
 intro b Z1 h_1 hb
 refine⟨[.slice h.ea h.el h.ec,.slice h.ma h.ml h.mc,.slice h.ka h.kl h.kc],⟨rfl,hb.reads (λ k v hv=>by simpa using hv)⟩,?_⟩
 conv=>whnf
 intro b3 hf3
 refine⟨_,.refl _,?_⟩
 refine⟨rfl,st_new (vs:=[.slice h.ea h.el h.ec,.slice h.ma h.ml h.mc,.slice h.ka h.kl h.kc]) hf3 rfl (by simp [Value.single]) λ Z2 h_2 hb_3=>?_⟩
 have hrd:Reads Z2 ⟨b3,0,none⟩ [.slice h.ea h.el h.ec,.slice h.ma h.ml h.mc,.slice h.ka h.kl h.kc]:=hb_3.reads (λ k v hv=>by simpa using hv)
 refine⟨_,⟨rfl,hrd⟩,?_⟩
 refine⟨_,⟨rfl,hrd⟩,?_⟩
 refine⟨_,⟨rfl,hrd⟩,?_⟩
 conv=>whnf
 intro b4 hf4
 refine put_new hf4 λ Z3 h_4 hb_4=>?_
 have hb_4:Blk Z3 b4 #[.func (.func 68) #[h.v] #[],.func (.func 69) #[h.v] #[],.func (.func 70) #[h.v] #[]]:=hb_4
 have hlg:Z.lg Z3:=(h_1.trans (h_2.trans h_4)).lg
 have ht3:=ht.lg hlg
 refine⟨Nat,λ i=>[(15,.slice (some ⟨b4,0,none⟩) 3 3),(16,.int .i64 3),(17,.int .i64 i)],λ i Z'=>Z'=Z3/\i<=3/\(0<i->t.chkItems=0)/\(1<i->t.chkMoves=0)/\(2<i->t.chkKins=0),λ i=>3-i,0,⟨rfl,rfl,rfl,trivial⟩,
  ⟨rfl,by omega,λ h=>by omega,λ h=>by omega,λ h=>by omega⟩,?_⟩
 rintro i f _ ⟨rfl,hi,h1,h2,h3⟩
 repeat refine⟨rfl,?_⟩
 conv=>whnf
 apply cb_split<;>intro hc
 ·have hlt:i<3:=by simp at hc;omega
  refine⟨⟨b4,0,none⟩,i,⟨rfl,rfl,hlt⟩,?_⟩
  conv=>whnf
  obtain rfl | rfl | rfl:i=0\/i=1\/i=2:=by omega
  ·refine⟨_,hb_4.sees3 (o:=0*1) rfl,?_⟩
   refine⟨Tryz.k68.any,(Tryz.checkItems_ok h t ht3).mono ?_⟩
   rintro v Z' ⟨rfl,rfl⟩ -
   repeat refine⟨rfl,?_⟩
   conv=>whnf
   apply cb_split<;>intro hc
   ·have hn:t.chkItems≠0:=by simpa using hc
    repeat refine⟨rfl,?_⟩
    conv=>whnf
    exact⟨by unfold Tbl.flaw;rw [if_neg hn],hlg⟩
   ·have hn:t.chkItems=0:=by simpa using hc
    refine⟨by unfold InR;omega,?_⟩
    conv=>whnf
    exact⟨rfl,1,⟨rfl,rfl,rfl,trivial⟩,⟨rfl,by omega,λ _=>hn,λ h=>by omega,λ h=>by omega⟩,by show 3-1<3-0;omega⟩
  ·refine⟨_,hb_4.sees3 (o:=1*1) rfl,?_⟩
   refine⟨Tryz.k69.any,(Tryz.checkMoves_ok h t ht3).mono ?_⟩
   rintro v Z' ⟨rfl,rfl⟩ -
   repeat refine⟨rfl,?_⟩
   conv=>whnf
   apply cb_split<;>intro hc
   ·have hn:t.chkMoves≠0:=by simpa using hc
    repeat refine⟨rfl,?_⟩
    conv=>whnf
    exact⟨by unfold Tbl.flaw;rw [if_pos (h1 (by omega)),if_neg hn],hlg⟩
   ·have hn:t.chkMoves=0:=by simpa using hc
    refine⟨by unfold InR;omega,?_⟩
    conv=>whnf
    exact⟨rfl,2,⟨rfl,rfl,rfl,trivial⟩,⟨rfl,by omega,λ _=>h1 (by omega),λ _=>hn,λ h=>by omega⟩,by show 3-2<3-1;omega⟩
  ·refine⟨_,hb_4.sees3 (o:=2*1) rfl,?_⟩
   refine⟨Tryz.k70.any,(Tryz.checkKin_ok h t ht3).mono ?_⟩
   rintro v Z' ⟨rfl,rfl⟩ -
   repeat refine⟨rfl,?_⟩
   conv=>whnf
   apply cb_split<;>intro hc
   ·have hn:t.chkKins≠0:=by simpa using hc
    repeat refine⟨rfl,?_⟩
    conv=>whnf
    exact⟨by unfold Tbl.flaw;rw [if_pos (h1 (by omega)),if_pos (h2 (by omega))],hlg⟩
   ·have hn:t.chkKins=0:=by simpa using hc
    refine⟨by unfold InR;omega,?_⟩
    conv=>whnf
    exact⟨rfl,3,⟨rfl,rfl,rfl,trivial⟩,⟨rfl,by omega,λ _=>h1 (by omega),λ _=>h2 (by omega),λ _=>hn⟩,by show 3-3<3-2;omega⟩
 ·have hge:i=3:=by simp at hc;omega
  subst hge
  repeat refine⟨rfl,?_⟩
  conv=>whnf
  exact⟨by unfold Tbl.flaw;rw [if_pos (h1 (by omega)),if_pos (h2 (by omega)),h3 (by omega)],hlg⟩
end Go.Proofs
namespace Go.TM
variable {T:Type} {Z:View T}
theorem st_head {b:Nat} {c:Array Value} {e:TypeId} {vs:List Value} {M₀:List Res} {Q:View T->Prop} (hM:Z.M=.obj b (.cells c e (0,0))::M₀) (hsz:c.size=vs.length) (hs:∀v∈vs,v.single=true)
  (h:Q { Z with M:=.obj b (.cells vs.toArray e (0,0))::M₀ }):StV ⟨b,0,none⟩ vs 0 (λ Z'=>∃Z1,Shift Z' Z1/\Q Z1) Z:=by
 refine stv_head vs 0 c Z hM hs (by omega) ?_
 rw [layAt_all hsz]
 exact⟨_,.refl _,h⟩
theorem head_reads {b:Nat} {e:TypeId} {vs:List Value} {M₀:List Res} {I:Nat->Option Obj} {k:T}:Reads (⟨I,.obj b (.cells vs.toArray e (0,0))::M₀,k⟩:View T) ⟨b,0,none⟩ vs:=
 reads_head (M₀:=M₀) rfl λ i x h=>by simpa using h
def Tbl.chkAll (t:Tbl) (e:Int):List (List Int)->Int
 | []=>0
 | l::r=>if t.chk e none l=0 then t.chkAll e r else t.chk e none l
def Tbl.openF (t:Tbl) (e:Int) (ls:List (List Int)):Int:=if t.flaw=0 then (if t.isEd e then t.chkAll e ls else 6) else t.flaw
def ListsV (Z:View T) (a:Option Addr) (len:Nat) (ls:List (List Int)):Prop:=RowsV Z a len 1 ls λ l vs=>∃a' len' cap',vs=[.slice a' len' cap']/\Ints Z a' len' l/\len'<2 ^ 60
theorem ListsV.lg {Z':View T} {a:Option Addr} {len:Nat} {ls:List (List Int)} (h:ListsV Z a len ls) (hl:Z.lg Z'):ListsV Z' a len ls:=
 RowsV.lg h hl λ _ _ ⟨a',l',c',e,h,k⟩=>⟨a',l',c',e,h.lg hl,k⟩
end Go.TM
namespace Go.Proofs
open Go.TM
set_option maxRecDepth 100000
variable {T:Type} {S:TM.Sys Tryz.prog T} {Z:View T}
attribute [local irreducible] CallsV YieldV
theorem Tryz.open_ok (h:TH) (t:Tbl) (ht:TabV Z h t) (e:Int) (a:Option Addr) (len cap:Nat) (ls:List (List Int)) (hl:ListsV Z a len ls) (hlen:len<2 ^ 60) :
  CallsV S 64 #[h.v,.int .i64 e,.slice a len cap] (λ v Z'=>v=.tuple #[h.v,.int .i64 (t.openF e ls)]/\Z'=Z) Z:=by
 refine CallsV.pure' (CallsV.of (args:=[_,_,_]) Tryz.k64 Tryz.mixed (by simp) ?_)
 have hll:=hl.1
 repeat refine⟨rfl,?_⟩
 conv=>whnf
 intro b_1 Z1 h_1 hb_1
 conv=>whnf
 intro b6 hf6
 refine⟨_,.refl _,?_⟩
 refine⟨[.slice h.ea h.el h.ec,.slice h.ma h.ml h.mc,.slice h.ka h.kl h.kc],⟨rfl,(hb_1.lg (lg_put b6 _)).reads (λ k v hv=>by simpa using hv)⟩,?_⟩
 conv=>whnf
 intro b8 hf8
 refine⟨_,.refl _,?_⟩
 refine⟨rfl,st_new (vs:=[.slice h.ea h.el h.ec,.slice h.ma h.ml h.mc,.slice h.ka h.kl h.kc]) hf8 rfl (by simp [Value.single]) λ Z2 h_2 hb8=>?_⟩
 have hlg:Z.lg Z2:=h_1.lg.trans ((lg_put b6 _).trans h_2.lg)
 have hM:Z2.M=.obj b6 (.cells #[.slice none 0 0,.slice none 0 0,.slice none 0 0] 90 (0,0))::Z.M:=by rw [h_2.own];show _::Z1.M=_;rw [h_1.own]
 have ht_2:=ht.lg hlg
 have hrd:Reads Z2 ⟨b8,0,none⟩ [.slice h.ea h.el h.ec,.slice h.ma h.ml h.mc,.slice h.ka h.kl h.kc]:=hb8.reads (λ k v hv=>by simpa using hv)
 have hrd1:Reads Z2 ⟨b_1,0,none⟩ [.slice h.ea h.el h.ec,.slice h.ma h.ml h.mc,.slice h.ka h.kl h.kc]:=(hb_1.lg ((lg_put b6 _).trans h_2.lg)).reads (λ k v hv=>by simpa using hv)
 have hlgF:∀o,Z.lg { Z2 with M:=.obj b6 o::Z.M }:=λ o=>⟨hlg.imm,⟨[_],rfl⟩,hlg.tok⟩
 refine⟨_,⟨rfl,hrd1⟩,?_⟩
 refine⟨Tryz.k29.any,(Tryz.checkTable_ok h t ht_2).go λ _=>?_⟩
 repeat refine⟨rfl,?_⟩
 conv=>whnf
 apply cb_split<;>intro hc
 ·have hf:t.flaw≠0:=by simpa using hc
  refine⟨_,⟨rfl,hrd⟩,?_⟩
  refine⟨rfl,st_head (vs:=[.slice h.ea h.el h.ec,.slice h.ma h.ml h.mc,.slice h.ka h.kl h.kc]) hM rfl (by simp [Value.single]) ?_⟩
  refine⟨_,⟨rfl,head_reads⟩,?_⟩
  conv=>whnf
  exact⟨by unfold Tbl.openF;rw [if_neg hf];rfl,hlgF _⟩
 have hf:t.flaw=0:=by simpa using hc
 have ho:t.openF e ls=if t.isEd e then t.chkAll e ls else 6:=by unfold Tbl.openF;rw [if_pos hf]
 refine⟨_,⟨rfl,hrd⟩,?_⟩
 refine⟨Tryz.k77.any,(Tryz.isEdition_ok h t ht_2 e).go λ _=>?_⟩
 conv=>whnf
 apply cb_split<;>intro hc
 ·have he:t.isEd e=false:=by simpa using hc
  refine⟨_,⟨rfl,hrd⟩,?_⟩
  refine⟨rfl,st_head (vs:=[.slice h.ea h.el h.ec,.slice h.ma h.ml h.mc,.slice h.ka h.kl h.kc]) hM rfl (by simp [Value.single]) ?_⟩
  refine⟨_,⟨rfl,head_reads⟩,?_⟩
  conv=>whnf
  exact⟨by rw [ho,he];rfl,hlgF _⟩
 have he:t.isEd e=true:=by simpa using hc
 rw [if_pos he] at ho
 have hl_2:=hl.lg hlg
 refine⟨Nat,λ i=>[(1,.int .i64 e),(6,.pointer (some ⟨b6,0,none⟩)),(8,.pointer (some ⟨b8,0,none⟩)),(26,.slice a len cap),(27,.int .i64 len),(28,.int .i64 i)],
  λ i Z'=>Z2=Z'/\i<=len/\t.chkAll e ls=t.chkAll e (ls.drop i),λ i=>len-i,0,⟨rfl,rfl,rfl,rfl,rfl,rfl,trivial⟩,⟨rfl,by omega,by simp⟩,?_⟩
 rintro i f _ ⟨rfl,hi,hinv⟩
 repeat refine⟨rfl,?_⟩
 conv=>whnf
 apply cb_split<;>intro hc
 ·have hlt:i<len:=by simpa using hc
  obtain⟨ad,l,vs,hx,rfl,hsp,⟨a',l',c',rfl,hli,hll'⟩,-,hr⟩:=RowsV.at hl_2 hlt
  rw [drop_at hx,Tbl.chkAll] at hinv
  refine⟨ad,i,⟨rfl,rfl,hlt⟩,?_⟩
  refine⟨_,hr 0 _ rfl,?_⟩
  refine⟨_,⟨rfl,hrd⟩,?_⟩
  refine⟨Tryz.k78.any,(Tryz.checkList_ok h t ht_2 e a' l' c' l hli hll').go λ _=>?_⟩
  repeat refine⟨rfl,?_⟩
  conv=>whnf
  apply cb_split<;>intro hc
  ·have hn:t.chk e none l≠0:=by simpa using hc
   refine⟨_,⟨rfl,hrd⟩,?_⟩
   refine⟨rfl,st_head (vs:=[.slice h.ea h.el h.ec,.slice h.ma h.ml h.mc,.slice h.ka h.kl h.kc]) hM rfl (by simp [Value.single]) ?_⟩
   refine⟨_,⟨rfl,head_reads⟩,?_⟩
   conv=>whnf
   exact⟨by rw [ho,hinv,if_neg hn];rfl,hlgF _⟩
  ·have hn:t.chk e none l=0:=by simpa using hc
   refine⟨by unfold InR;omega,?_⟩
   refine⟨rfl,i+1,⟨rfl,rfl,rfl,rfl,rfl,rfl,trivial⟩,⟨rfl,by omega,by rw [hinv,if_pos hn]⟩,by show _-_<_-_;omega⟩
 ·have hge:len<=i:=by simpa using hc
  rw [List.drop_eq_nil_of_le (by omega)] at hinv
  refine⟨_,⟨rfl,hrd⟩,?_⟩
  refine⟨rfl,st_head (vs:=[.slice h.ea h.el h.ec,.slice h.ma h.ml h.mc,.slice h.ka h.kl h.kc]) hM rfl (by simp [Value.single]) ?_⟩
  refine⟨_,⟨rfl,head_reads⟩,?_⟩
  conv=>whnf
  exact⟨by rw [ho,hinv];rfl,hlgF _⟩
theorem Tryz.checkListG_ok (h:TH) (t:Tbl) (ht:TabV Z h t) (e:Int) (a:Option Addr) (len cap:Nat) (l:List Int) (hl:Ints Z a len l) (hlen:len<2 ^ 60) :
  CallsV S 31 #[h.v,.int .i64 e,.slice a len cap] (λ v Z'=>v=.int .i64 (t.openF e [l])/\Z'=Z) Z:=by
 refine CallsV.pure' (CallsV.of (args:=[_,_,_]) Tryz.k31 Tryz.mixed (by simp) ?_)
 repeat refine⟨rfl,?_⟩
 conv=>whnf
 intro b_1 Z1 h_1 hb_1
 refine⟨[.slice h.ea h.el h.ec,.slice h.ma h.ml h.mc,.slice h.ka h.kl h.kc],⟨rfl,hb_1.reads (λ k v hv=>by simpa using hv)⟩,?_⟩
 conv=>whnf
 intro b_2 hf_2
 refine put_new hf_2 λ Z2 h_2 hb_2=>?_
 have hb_2:Blk Z2 b_2 #[.slice a len cap]:=hb_2
 have hlg:=(h_1.trans h_2).lg
 refine⟨Tryz.k64.any,(Tryz.open_ok h t (ht.lg hlg) e (some ⟨b_2,0,none⟩) 1 1 [l] ⟨rfl,λ i x hx=>?_⟩ (by omega)).mono ?_⟩
 ·obtain rfl:i=0:=by have:=(List.getElem?_eq_some_iff.1 hx).1;simp at this;omega
  cases hx
  exact⟨_,_,rfl,rfl,⟨a,len,cap,rfl,hl.lg hlg,hlen⟩,rfl,hb_2.reads (λ k v hv=>by simpa using hv)⟩
 rintro v Z' ⟨rfl,rfl⟩ -
 conv=>whnf
 intro b7 hf7
 refine⟨_,.refl _,?_⟩
 refine⟨rfl,st_new (vs:=[.slice h.ea h.el h.ec,.slice h.ma h.ml h.mc,.slice h.ka h.kl h.kc]) hf7 rfl (by simp [Value.single]) λ Z3 h_3 hb_7=>?_⟩
 repeat refine⟨rfl,?_⟩
 conv=>whnf
 exact hlg.trans h_3.lg
end Go.Proofs
namespace Go.TM
variable {T:Type} {Z:View T}
def memS (l:List Int):Nat->Bool:=λ j=>decide ((j:Int)∈l)
def listS (s:Nat->Bool):List Int:=((List.range 8).filter s).map Int.ofNat
theorem memS_add (l:List Int) (j:Nat):setC (putS (memS l) j true)=setC (memS (l++[(j:Int)])):=by
 refine setC_congr λ k _=>?_
 unfold putS memS
 by_cases h:k=j
 ·simp [h]
 ·rw [if_neg h]
  simp;omega
end Go.TM
namespace Go.Proofs
open Go.TM
set_option maxRecDepth 100000
variable {T:Type} {S:TM.Sys Tryz.prog T} {Z:View T}
attribute [local irreducible] CallsV YieldV
theorem Tryz.setOf_ok (a:Option Addr) (len cap:Nat) (l:List Int) (hl:Ints Z a len l) (hlen:len<2 ^ 60) (h8:∀n∈l,0<=n/\n<8) :
  CallsV S 115 #[.slice a len cap] (λ v Z'=>v=setA (memS l)/\Z'=Z) Z:=by
 refine CallsV.pure' (CallsV.of (args:=[_]) Tryz.k115 Tryz.mixed (by simp) ?_)
 have hll:=hl.1
 repeat refine⟨rfl,?_⟩
 conv=>whnf
 intro b2 hf2
 refine⟨_,.refl _,?_⟩
 conv=>whnf
 intro b3 hf3
 refine⟨_,.refl _,?_⟩
 refine⟨Nat,λ i=>[(2,.pointer (some ⟨b2,0,none⟩)),(3,.pointer (some ⟨b3,0,none⟩)),(6,.slice a len cap),(7,.int .i64 len),(8,.int .i64 i)],
  λ i Z'=>Z.I=Z'.I/\Z.tok=Z'.tok/\Z'.M=.obj b3 (.cells (setC (memS (l.take i))).toArray 105 (0,0))::.obj b2 (.cells noC 105 (0,0))::Z.M/\i<=len,λ i=>len-i,0,⟨rfl,rfl,rfl,rfl,rfl,trivial⟩,⟨rfl,rfl,rfl,by omega⟩,?_⟩
 rintro i f Z1 ⟨hI,ht,hM,hi⟩
 have hlg:Z.lg Z1:=⟨λ b o h=>by rw [<- hI];exact h,⟨[_,_],hM⟩,ht.symm⟩
 repeat refine⟨rfl,?_⟩
 conv=>whnf
 apply cb_split<;>intro hc
 ·have hlt:i<len:=by simpa using hc
  obtain⟨ad,n,hx,rfl,hsp,hr⟩:=(hl.lg hlg).at hlt
  obtain⟨j,rfl⟩:=Int.eq_ofNat_of_zero_le (h8 n (List.mem_of_getElem? hx)).1
  have hj:j<8:=by have:=(h8 _ (List.mem_of_getElem? hx)).2;omega
  refine⟨ad,i,⟨rfl,rfl,hlt⟩,?_⟩
  refine⟨_,hr,?_⟩
  refine⟨j,⟨rfl,hj⟩,?_⟩
  refine⟨rfl,?_⟩
  show StV ((Addr.mk b3 0 none).add (j*1)) [.bool true] 0 _ _
  rw [Nat.mul_one]
  refine st_at [] hM hj rfl ?_
  rw [setC_set _ hj,memS_add]
  refine⟨by unfold InR;omega,?_⟩
  refine⟨rfl,i+1,⟨rfl,rfl,rfl,rfl,rfl,trivial⟩,⟨hI,ht,by rw [take_at hx];rfl,by omega⟩,by show _-_<_-_;omega⟩
 ·have hge:len<=i:=by simpa using hc
  rw [List.take_of_length_le (by omega)] at hM
  refine⟨_,⟨rfl,reads_at [] hM⟩,?_⟩
  refine⟨rfl,st_all [_] hM rfl (setC_single _) ?_⟩
  refine⟨_,⟨rfl,reads_at [_] rfl⟩,?_⟩
  conv=>whnf
  exact⟨rfl,hlg.imm,⟨[_,_],rfl⟩,hlg.tok⟩
theorem Tryz.ar105:ArrT Tryz.prog 105 8:=.of (by kernel_rfl)
theorem Tryz.sl27:SlT Tryz.prog 27 3 1:=.of (by kernel_rfl)
theorem Tryz.list_ok (s:Nat->Bool):CallsV S 80 #[setA s] (λ v Z'=>IntsV Z'.frz v (listS s)/\Z.le Z') Z:=by
 refine CallsV.ints (e:=3) (CallsV.of (args:=[_]) Tryz.k80 Tryz.mixed (by simp) ?_)
 repeat refine⟨rfl,?_⟩
 conv=>whnf
 intro b1 Z1 h_1 hb
 refine⟨setC s,⟨rfl,hb.reads (λ k v hv=>by simpa [setC] using hv)⟩,?_⟩
 refine⟨Nat×Value,λ y=>[(1,.pointer (some ⟨b1,0,none⟩)),(3,y.2),(6,setA s),(7,.int .i64 y.1)],
  λ y Z'=>(∀x ox,Z.I x=some ox->Z'.I x=some ox)/\Z'.tok=Z.tok/\Acc 3 1 y.2 ((((List.range y.1).filter s).map Int.ofNat).map λ n=>.int .i64 n) Z'.M Z.M/\y.1<=8,λ y=>8-y.1,(0,.slice none 0 0),⟨rfl,rfl,rfl,rfl,trivial⟩,⟨h_1.imm,h_1.tok,by rw [h_1.own];exact .nil,by omega⟩,?_⟩
 rintro⟨i,v⟩ f Z2 ⟨hI,ht,ha,hi⟩
 simp only at ha hi
 obtain⟨sa,sl,sc,rfl,-,-⟩:=ha.src
 repeat refine⟨rfl,?_⟩
 conv=>whnf
 apply cb_split<;>intro hc
 ·have hlt:i<8:=by simp at hc;omega
  conv=>whnf
  refine raw_ixA Tryz.ar105 (cs:=(setC s).toArray) rfl rfl hlt (by simpa using setC_at s hlt) ?_
  conv=>whnf
  apply cb_split<;>intro hc
  ·have hs:s i=true:=by simpa using hc
   conv=>whnf
   intro b14 hf14
   refine put_new hf14 λ Z3 h_3 hb_14=>?_
   have hb_14:Blk Z3 b14 #[.int .i64 (i:Int)]:=hb_14
   conv=>whnf
   refine raw_app (v:=.slice sa sl sc) (cs:=(((List.range i).filter s).map Int.ofNat).map λ n=>.int .i64 n) (new:=[.int .i64 (i:Int)]) (M₀:=Z.M) Tryz.sl27 rfl rfl (by rw [h_3.own];exact ha) (.inr ⟨_,rfl,hb_14.reads (λ k v hv=>by simpa using hv)⟩) rfl (by simp [Value.single])
    (by have:=List.length_filter_le s (List.range i);simp at this ⊢;omega) λ v' M' ha' _=>?_
   obtain⟨ta,tl,tc,rfl,-,-⟩:=Acc.src (Z:={ Z3 with M:=M' }) ha'
   refine⟨by unfold InR;omega,?_⟩
   refine⟨rfl,(i+1,.slice ta tl tc),⟨rfl,rfl,rfl,rfl,trivial⟩,⟨λ x o h=>h_3.imm _ _ (hI x o h),h_3.tok.trans ht,by rw [List.range_succ];simpa [hs] using ha',by omega⟩,by show _-_<_-_;omega⟩
  ·have hs:s i=false:=by simpa using hc
   refine⟨by unfold InR;omega,?_⟩
   refine⟨rfl,(i+1,.slice sa sl sc),⟨rfl,rfl,rfl,rfl,trivial⟩,⟨hI,ht,by rw [List.range_succ];simpa [hs] using ha,by omega⟩,by show _-_<_-_;omega⟩
 ·have hge:8<=i:=by simp at hc;omega
  obtain rfl:i=8:=by omega
  repeat refine⟨rfl,?_⟩
  conv=>whnf
  exact⟨ha,hI,ht⟩
end Go.Proofs
namespace Go.TM
variable {T:Type} {Z:View T}
def Tbl.fwdP (t:Tbl) (e:Int):List (Int×Int):=(t.mvs.filter λ m=>m.ed == e).map λ m=>(m.fr,m.to)
def Tbl.bckP (t:Tbl) (e:Int):List (Int×Int):=(t.mvs.filter λ m=>m.ed == (e-1)).map λ m=>(m.to,m.fr)
def encII (p:Int×Int):List Value:=[.int .i64 p.1,.int .i64 p.2]
theorem filter_at {α:Type} {l:List α} {i:Nat} {x:α} {f:α->Bool} (h:l[i]?=some x) (hf:f x=true):(l.filter f)[((l.take i).filter f).length]?=some x:=by
 have e:l=l.take i++x::l.drop (i+1):=by rw [<- drop_at h,List.take_append_drop]
 conv=>lhs;arg 1;rw [e]
 rw [List.filter_append,List.filter_cons,if_pos hf]
 simp
theorem RowsV.frz {Z1:View T} {a:Option Addr} {len n:Nat} {α:Type} {l:List α} {R R':α->List Value->Prop} (h:RowsV Z.frz a len n l R) (hl:Z.frz.lg Z1) (hR:∀x vs,R x vs->R' x vs):RowsV Z1 a len n l R':=h.lg hl hR
structure Cov where
 so:Nat->Bool
 la:Nat->Bool
 re:Nat->Bool
def Cov.step (sure can:Nat->Bool) (c:Cov) (p:Int×Int):Cov:=⟨putS c.so p.2.toNat true,putS c.la p.2.toNat (c.la p.2.toNat || !sure p.1.toNat),putS c.re p.2.toNat (c.re p.2.toNat || can p.1.toNat)⟩
def cov (sure can:Nat->Bool) (ps:List (Int×Int)):Cov:=ps.foldl (Cov.step sure can) ⟨λ _=>false,λ _=>false,λ _=>false⟩
def Cov.sure (c:Cov):Nat->Bool:=λ y=>c.so y && !c.la y
def Cov.upto (c:Cov) (i:Nat):Nat->Bool:=λ y=>if y<i then c.so y && !c.la y else c.so y
theorem Cov.upto_put (c:Cov) (i:Nat):putS (c.upto i) i (c.so i && !c.la i)=c.upto (i+1):=by
 funext y
 unfold putS Cov.upto
 by_cases h:y=i
 ·subst h;simp
 ·rw [if_neg h]
  by_cases h1:y<i
  ·rw [if_pos h1,if_pos (by omega)]
  ·rw [if_neg h1,if_neg (by omega)]
theorem cov_at {sure can:Nat->Bool} {ps:List (Int×Int)} {k:Nat} {p:Int×Int} (h:ps[k]?=some p):cov sure can (ps.take (k+1))=(cov sure can (ps.take k)).step sure can p:=by
 rw [take_at h];unfold cov;rw [List.foldl_append];rfl
end Go.TM
namespace Go.Proofs
open Go.TM
set_option maxRecDepth 100000
variable {T:Type} {S:TM.Sys Tryz.prog T} {Z:View T}
attribute [local irreducible] CallsV YieldV rngX
theorem Tryz.fwd_it (h:TH) (t:Tbl) (ht:TabV Z.frz h t) (e:Int) (he:-1000<e/\e<1000) (bx be l:Nat) (hb:Blk Z.frz bx #[.slice h.ea h.el h.ec,.slice h.ma h.ml h.mc,.slice h.ka h.kl h.kc]) (hbe:Blk Z.frz be #[.int .i64 e]) :
  IterV S 150 #[.func (.yield l) #[] #[],.pointer (some ⟨bx,0,none⟩),.pointer (some ⟨be,0,none⟩)] l ((t.fwdP e).map encII) Z:=by
 intro I E hK hR h0
 refine CallsV.of (args:=[_,_,_]) Tryz.k150 Tryz.mixed (by simp) ?_
 have hl0:=hK.lg 0 _ h0
 have hml:=ht.ml
 have hmv:=ht.mvs.1
 repeat refine⟨rfl,?_⟩
 refine⟨_,(hb.lg hl0).sees3 rfl,?_⟩
 repeat refine⟨rfl,?_⟩
 refine⟨Nat,λ i=>[(0,.func (.yield l) #[] #[]),(1,.pointer (some ⟨bx,0,none⟩)),(2,.pointer (some ⟨be,0,none⟩)),(8,.slice h.ma h.ml h.mc),(9,.int .i64 h.ml),(10,.int .i64 i)],
  λ i Z'=>I (((t.mvs.take i).filter λ m=>m.ed == e).length) Z'/\i<=h.ml,λ i=>h.ml-i,0,⟨rfl,rfl,rfl,rfl,rfl,rfl,trivial⟩,⟨by simpa using h0,by omega⟩,?_⟩
 rintro i f Z1 ⟨hI,hi⟩
 have hlg:=hK.lg _ _ hI
 repeat refine⟨rfl,?_⟩
 conv=>whnf
 apply cb_split<;>intro hc
 ·have hlt:i<h.ml:=by simpa using hc
  obtain⟨ad,m,vs,hx,hma,hsp,rfl,-,hrd⟩:=(ht.lg hlg).mvs.at hlt
  have hin:InR (i+1):=by unfold InR;omega
  refine⟨ad,i,⟨hma,rfl,hlt⟩,?_⟩
  refine⟨_,⟨rfl,hrd⟩,?_⟩
  conv=>whnf
  intro b5 hf5
  refine⟨_,.refl _,?_⟩
  refine⟨rfl,st_new (vs:=[.int .i64 m.ed,.int .i64 m.fr,.int .i64 m.to]) hf5 rfl (by simp [Value.single]) λ Z2 h_2 hb_5=>?_⟩
  have hb_5:Blk Z2 b5 #[.int .i64 m.ed,.int .i64 m.fr,.int .i64 m.to]:=hb_5
  have hI:=hK.le _ _ _ h_2 hI
  have hlg:=frz_le hlg h_2
  repeat refine⟨rfl,?_⟩
  refine⟨_,hb_5.sees3 rfl,?_⟩
  refine⟨_,(hbe.lg hlg).sees rfl,?_⟩
  repeat refine⟨rfl,?_⟩
  conv=>whnf
  try (refine⟨by unfold InR;omega,?_⟩;(conv=>whnf);(repeat (refine⟨rfl,?_⟩;conv=>whnf)))
  apply gb_split<;>intro hc
  ·have hed:(m.ed == e)=true:=by simpa using hc
   have hp:(((t.fwdP e).map encII))[((t.mvs.take i).filter λ m=>m.ed == e).length]?=some [.int .i64 m.fr,.int .i64 m.to]:=by
    rw [List.getElem?_map];unfold Tbl.fwdP;rw [List.getElem?_map,filter_at hx hed];rfl
   repeat refine⟨rfl,?_⟩
   refine⟨_,hb_5.sees3 rfl,?_⟩
   repeat refine⟨rfl,?_⟩
   refine⟨_,hb_5.sees3 rfl,?_⟩
   conv=>whnf
   refine hR _ _ Z2 _ hp hI (λ Z3 h_3=>?_) (λ Z3 h_3=>?_)
   ·repeat refine⟨rfl,?_⟩
    conv=>whnf
    refine⟨hin,?_⟩
    refine⟨rfl,i+1,⟨rfl,rfl,rfl,rfl,rfl,rfl,trivial⟩,⟨by rw [take_at hx,List.filter_append,List.filter_cons,if_pos hed,List.length_append];exact h_3,by omega⟩,by show _-_<_-_;omega⟩
   ·repeat refine⟨rfl,?_⟩
    conv=>whnf
    exact .inr h_3
  ·have hed:¬(m.ed == e)=true:=by simpa using hc
   repeat refine⟨rfl,?_⟩
   refine⟨hin,?_⟩
   refine⟨rfl,i+1,⟨rfl,rfl,rfl,rfl,rfl,rfl,trivial⟩,⟨by rw [take_at hx,List.filter_append,List.filter_cons,if_neg hed,List.filter_nil,List.append_nil];exact hI,by omega⟩,by show _-_<_-_;omega⟩
 ·have hge:h.ml<=i:=by simpa using hc
  rw [List.take_of_length_le (by omega)] at hI
  repeat refine⟨rfl,?_⟩
  conv=>whnf
  exact .inl (by unfold Tbl.fwdP;simpa using hI)
theorem Tryz.bck_it (h:TH) (t:Tbl) (ht:TabV Z.frz h t) (e:Int) (he:-1000<e/\e<1000) (bx be l:Nat) (hb:Blk Z.frz bx #[.slice h.ea h.el h.ec,.slice h.ma h.ml h.mc,.slice h.ka h.kl h.kc]) (hbe:Blk Z.frz be #[.int .i64 e]) :
  IterV S 151 #[.func (.yield l) #[] #[],.pointer (some ⟨bx,0,none⟩),.pointer (some ⟨be,0,none⟩)] l ((t.bckP e).map encII) Z:=by
 intro I E hK hR h0
 refine CallsV.of (args:=[_,_,_]) Tryz.k151 Tryz.mixed (by simp) ?_
 have hl0:=hK.lg 0 _ h0
 have hml:=ht.ml
 have hmv:=ht.mvs.1
 repeat refine⟨rfl,?_⟩
 refine⟨_,(hb.lg hl0).sees3 rfl,?_⟩
 repeat refine⟨rfl,?_⟩
 refine⟨Nat,λ i=>[(0,.func (.yield l) #[] #[]),(1,.pointer (some ⟨bx,0,none⟩)),(2,.pointer (some ⟨be,0,none⟩)),(8,.slice h.ma h.ml h.mc),(9,.int .i64 h.ml),(10,.int .i64 i)],
  λ i Z'=>I (((t.mvs.take i).filter λ m=>m.ed == (e-1)).length) Z'/\i<=h.ml,λ i=>h.ml-i,0,⟨rfl,rfl,rfl,rfl,rfl,rfl,trivial⟩,⟨by simpa using h0,by omega⟩,?_⟩
 rintro i f Z1 ⟨hI,hi⟩
 have hlg:=hK.lg _ _ hI
 repeat refine⟨rfl,?_⟩
 conv=>whnf
 apply cb_split<;>intro hc
 ·have hlt:i<h.ml:=by simpa using hc
  obtain⟨ad,m,vs,hx,hma,hsp,rfl,-,hrd⟩:=(ht.lg hlg).mvs.at hlt
  have hin:InR (i+1):=by unfold InR;omega
  refine⟨ad,i,⟨hma,rfl,hlt⟩,?_⟩
  refine⟨_,⟨rfl,hrd⟩,?_⟩
  conv=>whnf
  intro b5 hf5
  refine⟨_,.refl _,?_⟩
  refine⟨rfl,st_new (vs:=[.int .i64 m.ed,.int .i64 m.fr,.int .i64 m.to]) hf5 rfl (by simp [Value.single]) λ Z2 h_2 hb_5=>?_⟩
  have hb_5:Blk Z2 b5 #[.int .i64 m.ed,.int .i64 m.fr,.int .i64 m.to]:=hb_5
  have hI:=hK.le _ _ _ h_2 hI
  have hlg:=frz_le hlg h_2
  repeat refine⟨rfl,?_⟩
  refine⟨_,hb_5.sees3 rfl,?_⟩
  refine⟨_,(hbe.lg hlg).sees rfl,?_⟩
  repeat refine⟨rfl,?_⟩
  conv=>whnf
  try (refine⟨by unfold InR;omega,?_⟩;(conv=>whnf);(repeat (refine⟨rfl,?_⟩;conv=>whnf)))
  apply gb_split<;>intro hc
  ·have hed:(m.ed == (e-1))=true:=by simpa using hc
   have hp:(((t.bckP e).map encII))[((t.mvs.take i).filter λ m=>m.ed == (e-1)).length]?=some [.int .i64 m.to,.int .i64 m.fr]:=by
    rw [List.getElem?_map];unfold Tbl.bckP;rw [List.getElem?_map,filter_at hx hed];rfl
   repeat refine⟨rfl,?_⟩
   refine⟨_,hb_5.sees3 rfl,?_⟩
   repeat refine⟨rfl,?_⟩
   refine⟨_,hb_5.sees3 rfl,?_⟩
   conv=>whnf
   refine hR _ _ Z2 _ hp hI (λ Z3 h_3=>?_) (λ Z3 h_3=>?_)
   ·repeat refine⟨rfl,?_⟩
    conv=>whnf
    refine⟨hin,?_⟩
    refine⟨rfl,i+1,⟨rfl,rfl,rfl,rfl,rfl,rfl,trivial⟩,⟨by rw [take_at hx,List.filter_append,List.filter_cons,if_pos hed,List.length_append];exact h_3,by omega⟩,by show _-_<_-_;omega⟩
   ·repeat refine⟨rfl,?_⟩
    conv=>whnf
    exact .inr h_3
  ·have hed:¬(m.ed == (e-1))=true:=by simpa using hc
   repeat refine⟨rfl,?_⟩
   refine⟨hin,?_⟩
   refine⟨rfl,i+1,⟨rfl,rfl,rfl,rfl,rfl,rfl,trivial⟩,⟨by rw [take_at hx,List.filter_append,List.filter_cons,if_neg hed,List.filter_nil,List.append_nil];exact hI,by omega⟩,by show _-_<_-_;omega⟩
 ·have hge:h.ml<=i:=by simpa using hc
  rw [List.take_of_length_le (by omega)] at hI
  repeat refine⟨rfl,?_⟩
  conv=>whnf
  exact .inl (by unfold Tbl.bckP;simpa using hI)
theorem Tryz.fwdf_ok (h:TH) (e:Int):CallsV S 116 #[h.v,.int .i64 e] (λ v Z'=>∃bx be,v=.func (.func 150) #[] #[.pointer (some ⟨bx,0,none⟩),.pointer (some ⟨be,0,none⟩)]/\Blk Z' bx #[.slice h.ea h.el h.ec,.slice h.ma h.ml h.mc,.slice h.ka h.kl h.kc]/\Blk Z' be #[.int .i64 e]/\Z.le Z') Z:=by
 refine CallsV.of (args:=[_,_]) Tryz.k116 Tryz.mixed (by simp) ?_
 repeat refine⟨rfl,?_⟩
 conv=>whnf
 intro b2 Z1 h_1 hb_2
 conv=>whnf
 intro b3 Z2 h_2 hb_3
 repeat refine⟨rfl,?_⟩
 conv=>whnf
 exact⟨b2,b3,rfl,hb_2.le h_2,hb_3,h_1.trans h_2⟩
theorem Tryz.bckf_ok (h:TH) (e:Int):CallsV S 117 #[h.v,.int .i64 e] (λ v Z'=>∃bx be,v=.func (.func 151) #[] #[.pointer (some ⟨bx,0,none⟩),.pointer (some ⟨be,0,none⟩)]/\Blk Z' bx #[.slice h.ea h.el h.ec,.slice h.ma h.ml h.mc,.slice h.ka h.kl h.kc]/\Blk Z' be #[.int .i64 e]/\Z.le Z') Z:=by
 refine CallsV.of (args:=[_,_]) Tryz.k117 Tryz.mixed (by simp) ?_
 repeat refine⟨rfl,?_⟩
 conv=>whnf
 intro b2 Z1 h_1 hb_2
 conv=>whnf
 intro b3 Z2 h_2 hb_3
 repeat refine⟨rfl,?_⟩
 conv=>whnf
 exact⟨b2,b3,rfl,hb_2.le h_2,hb_3,h_1.trans h_2⟩
theorem Tryz.cover_ok (g p1 p2:Nat) (ps:List (Int×Int)) (sure can:Nat->Bool) (hg:(Tryz.prog.funcs[g]?.any λ fd=>fd.body.isSome && fd.name != "runtime.NumGoroutine")=true)
  (hit:∀l Z1,Z.frz.lg Z1->IterV S g #[.func (.yield l) #[] #[],.pointer (some ⟨p1,0,none⟩),.pointer (some ⟨p2,0,none⟩)] l (ps.map encII) Z1) (h8:∀p∈ps,0<=p.1/\p.1<8/\0<=p.2/\p.2<8) :
  CallsV S 118 #[.func (.func g) #[] #[.pointer (some ⟨p1,0,none⟩),.pointer (some ⟨p2,0,none⟩)],setA sure,setA can] (λ v Z'=>v=.tuple #[setA (cov sure can ps).sure,setA (cov sure can ps).re]/\Z'=Z) Z:=by
 refine CallsV.pure' (CallsV.of (args:=[_,_,_]) Tryz.k118 Tryz.mixed (by simp) ?_)
 repeat refine⟨rfl,?_⟩
 conv=>whnf
 intro b4 Z1 h_1 hb_4
 conv=>whnf
 intro b5 Z2 h_2 hb_5
 have hb_4:=hb_4.le h_2
 conv=>whnf
 intro b6 hf6
 refine⟨_,.refl _,?_⟩
 conv=>whnf
 intro b7 hf7
 refine⟨_,.refl _,?_⟩
 conv=>whnf
 intro b8 hf8
 refine⟨_,.refl _,?_⟩
 conv=>whnf
 intro b9 hf9
 refine⟨_,.refl _,?_⟩
 conv=>whnf
 intro b10 hf10
 refine⟨_,.refl _,?_⟩
 conv=>whnf
 let Inv:Nat->View T->Prop:=λ k Z'=>Z2.frz.lg Z'/\Z'.M=.obj b10 (.cells (setC (cov sure can (ps.take k)).re).toArray 105 (0,0))::.obj b9 (.cells (setC (cov sure can (ps.take k)).la).toArray 105 (0,0))::.obj b8 (.cells (setC (cov sure can (ps.take k)).so).toArray 105 (0,0)) ::
  .obj b7 (.cells noC 105 (0,0))::.obj b6 (.cells noC 105 (0,0))::Z2.M
 have hle2:Z.le Z2:=h_1.trans h_2
 refine rngX_iter Tryz.mixed (ps.map encII) Inv (λ _ _=>False) (λ _=>False) rfl rfl hg (λ l Z1 hl=>hit l Z1 ?_) ?_ ⟨?_,?_⟩ ?_ ?_ ?_ ?_ ?_
 ·exact⟨λ b o h=>hl.imm b o (hle2.imm b o h),⟨_,(List.append_nil _).symm⟩,hl.tok.trans hle2.tok⟩
 ·intro p hp
  obtain⟨q,_,rfl⟩:=List.mem_map.1 hp
  rfl
 ·rintro k Z' Z'' hle ⟨hl,hM⟩
  exact⟨frz_le hl hle,hle.own.trans hM⟩
 ·rintro k Z' ⟨hl,_⟩
  exact hl
 ·exact⟨⟨λ _ _ h=>h,⟨_,(List.append_nil _).symm⟩,rfl⟩,rfl⟩
 ·intro l A B D k p Z₀ KN KX KR KA hp ⟨hl,hM⟩ hKN hKX hKR hKA
  obtain⟨q,hq,rfl⟩:∃q,ps[k]?=some q/\p=encII q:=by
   rw [List.getElem?_map] at hp
   cases hq:ps[k]? with
   | none=>rw [hq] at hp;cases hp
   | some q=>rw [hq] at hp;cases hp;exact⟨q,rfl,rfl⟩
  obtain⟨qx,qy⟩:=q
  obtain⟨hx0,hx1,hy0,hy1⟩:=h8 _ (List.mem_of_getElem? hq)
  simp only at hx0 hx1 hy0 hy1
  obtain⟨x,rfl⟩:=Int.eq_ofNat_of_zero_le hx0
  obtain⟨y,rfl⟩:=Int.eq_ofNat_of_zero_le hy0
  have hx:x<8:=by omega
  have hy:y<8:=by omega
  have hcov:=cov_at (sure:=sure) (can:=can) hq
  generalize hco:cov sure can (ps.take k)=co at *
  have hlgA:∀M',Z2.frz.lg { Z₀ with M:=M' }:=λ M'=>⟨hl.imm,⟨M',(List.append_nil _).symm⟩,hl.tok⟩
  conv=>whnf
  refine hKA _ Z₀ ?_
  refine⟨y,⟨rfl,hy⟩,?_⟩
  refine⟨rfl,?_⟩
  show StV ((Addr.mk b8 0 none).add (y*1)) [.bool true] 0 _ _
  rw [Nat.mul_one]
  refine st_at [B,D,_,_] (by show B::D::Z₀.M=_;rw [hM];rfl) (by exact hy) rfl ?_
  rw [setC_set _ hy]
  refine⟨y,⟨rfl,hy⟩,?_⟩
  refine⟨_,(by rw [Nat.mul_one];exact (reads_at [B,D,_] rfl) y _ (setC_at _ hy)),?_⟩
  repeat refine⟨rfl,?_⟩
  conv=>whnf
  have hb4x:∀M',({ Z₀ with M:=M' }:View T).sees ⟨b4,x,none⟩ (.bool (sure x)):=λ M'=>(hb_4.imI (Z':={ Z₀ with M:=M' }) hl.imm).sees (by simpa [setC] using setC_at sure hx)
  have hb5x:∀M',({ Z₀ with M:=M' }:View T).sees ⟨b5,x,none⟩ (.bool (can x)):=λ M'=>(hb_5.imI (Z':={ Z₀ with M:=M' }) hl.imm).sees (by simpa [setC] using setC_at can hx)
  apply gb_split<;>intro hc
  ·have hla:co.la y=false:=by simpa using hc
   repeat refine⟨rfl,?_⟩
   refine⟨x,⟨rfl,hx⟩,?_⟩
   refine⟨_,(by rw [Nat.mul_one,add_none,Nat.zero_add];exact hb4x _),?_⟩
   repeat refine⟨rfl,?_⟩
   refine⟨y,⟨rfl,hy⟩,?_⟩
   refine⟨rfl,?_⟩
   show StV ((Addr.mk b9 0 none).add (y*1)) [.bool (!sure x)] 0 _ _
   rw [Nat.mul_one]
   refine st_at [B,D,_] rfl (by exact hy) rfl ?_
   rw [setC_set _ hy]
   refine⟨y,⟨rfl,hy⟩,?_⟩
   refine⟨_,(by rw [Nat.mul_one];exact (reads_at [B,D] rfl) y _ (setC_at _ hy)),?_⟩
   repeat refine⟨rfl,?_⟩
   conv=>whnf
   apply gb_split<;>intro hc
   ·have hre:co.re y=false:=by simpa using hc
    repeat refine⟨rfl,?_⟩
    refine⟨x,⟨rfl,hx⟩,?_⟩
    refine⟨_,(by rw [Nat.mul_one,add_none,Nat.zero_add];exact hb5x _),?_⟩
    repeat refine⟨rfl,?_⟩
    refine⟨y,⟨rfl,hy⟩,?_⟩
    refine⟨rfl,?_⟩
    show StV ((Addr.mk b10 0 none).add (y*1)) [.bool (can x)] 0 _ _
    rw [Nat.mul_one]
    refine st_at [B,D] rfl (by exact hy) rfl ?_
    rw [setC_set _ hy]
    conv=>whnf
    refine hKN _ _ { Z₀ with M:=.obj b10 (.cells (setC (putS co.re y (can x))).toArray 105 (0,0))::.obj b9 (.cells (setC (putS co.la y (!sure x))).toArray 105 (0,0))::.obj b8 (.cells (setC (putS co.so y true)).toArray 105 (0,0))::.obj b7 (.cells noC 105 (0,0))::.obj b6 (.cells noC 105 (0,0))::Z2.M } ⟨hlgA _,?_⟩
    simp only [hcov,Cov.step,Int.toNat_natCast,hla,hre,Bool.false_or,Bool.true_or]
   ·have hre:co.re y=true:=by simpa using hc
    repeat refine⟨rfl,?_⟩
    refine⟨y,⟨rfl,hy⟩,?_⟩
    refine⟨rfl,?_⟩
    show StV ((Addr.mk b10 0 none).add (y*1)) [.bool (true)] 0 _ _
    rw [Nat.mul_one]
    refine st_at [B,D] rfl (by exact hy) rfl ?_
    rw [setC_set _ hy]
    conv=>whnf
    refine hKN _ _ { Z₀ with M:=.obj b10 (.cells (setC (putS co.re y (true))).toArray 105 (0,0))::.obj b9 (.cells (setC (putS co.la y (!sure x))).toArray 105 (0,0))::.obj b8 (.cells (setC (putS co.so y true)).toArray 105 (0,0))::.obj b7 (.cells noC 105 (0,0))::.obj b6 (.cells noC 105 (0,0))::Z2.M } ⟨hlgA _,?_⟩
    simp only [hcov,Cov.step,Int.toNat_natCast,hla,hre,Bool.false_or,Bool.true_or]
  ·have hla:co.la y=true:=by simpa using hc
   repeat refine⟨rfl,?_⟩
   refine⟨y,⟨rfl,hy⟩,?_⟩
   refine⟨rfl,?_⟩
   show StV ((Addr.mk b9 0 none).add (y*1)) [.bool (true)] 0 _ _
   rw [Nat.mul_one]
   refine st_at [B,D,_] rfl (by exact hy) rfl ?_
   rw [setC_set _ hy]
   refine⟨y,⟨rfl,hy⟩,?_⟩
   refine⟨_,(by rw [Nat.mul_one];exact (reads_at [B,D] rfl) y _ (setC_at _ hy)),?_⟩
   repeat refine⟨rfl,?_⟩
   conv=>whnf
   apply gb_split<;>intro hc
   ·have hre:co.re y=false:=by simpa using hc
    repeat refine⟨rfl,?_⟩
    refine⟨x,⟨rfl,hx⟩,?_⟩
    refine⟨_,(by rw [Nat.mul_one,add_none,Nat.zero_add];exact hb5x _),?_⟩
    repeat refine⟨rfl,?_⟩
    refine⟨y,⟨rfl,hy⟩,?_⟩
    refine⟨rfl,?_⟩
    show StV ((Addr.mk b10 0 none).add (y*1)) [.bool (can x)] 0 _ _
    rw [Nat.mul_one]
    refine st_at [B,D] rfl (by exact hy) rfl ?_
    rw [setC_set _ hy]
    conv=>whnf
    refine hKN _ _ { Z₀ with M:=.obj b10 (.cells (setC (putS co.re y (can x))).toArray 105 (0,0))::.obj b9 (.cells (setC (putS co.la y (true))).toArray 105 (0,0))::.obj b8 (.cells (setC (putS co.so y true)).toArray 105 (0,0))::.obj b7 (.cells noC 105 (0,0))::.obj b6 (.cells noC 105 (0,0))::Z2.M } ⟨hlgA _,?_⟩
    simp only [hcov,Cov.step,Int.toNat_natCast,hla,hre,Bool.false_or,Bool.true_or]
   ·have hre:co.re y=true:=by simpa using hc
    repeat refine⟨rfl,?_⟩
    refine⟨y,⟨rfl,hy⟩,?_⟩
    refine⟨rfl,?_⟩
    show StV ((Addr.mk b10 0 none).add (y*1)) [.bool (true)] 0 _ _
    rw [Nat.mul_one]
    refine st_at [B,D] rfl (by exact hy) rfl ?_
    rw [setC_set _ hy]
    conv=>whnf
    refine hKN _ _ { Z₀ with M:=.obj b10 (.cells (setC (putS co.re y (true))).toArray 105 (0,0))::.obj b9 (.cells (setC (putS co.la y (true))).toArray 105 (0,0))::.obj b8 (.cells (setC (putS co.so y true)).toArray 105 (0,0))::.obj b7 (.cells noC 105 (0,0))::.obj b6 (.cells noC 105 (0,0))::Z2.M } ⟨hlgA _,?_⟩
    simp only [hcov,Cov.step,Int.toNat_natCast,hla,hre,Bool.false_or,Bool.true_or]
 ·rintro d l A Z3 ⟨hl,hM⟩
  rw [List.take_of_length_le (by simp)] at hM
  generalize hco:cov sure can ps=co at hM ⊢
  generalize hA:Res.obj l A=RA
  refine⟨Nat,λ i=>[(6,.pointer (some ⟨b6,0,none⟩)),(7,.pointer (some ⟨b7,0,none⟩)),(8,.pointer (some ⟨b8,0,none⟩)),(9,.pointer (some ⟨b9,0,none⟩)),(10,.pointer (some ⟨b10,0,none⟩)),(40,.int .i64 i)],
   λ i Z'=>Z2.frz.lg Z'/\Z'.M=RA::.obj d (.deferred (some []))::.obj b10 (.cells (setC co.re).toArray 105 (0,0))::.obj b9 (.cells (setC co.la).toArray 105 (0,0))::.obj b8 (.cells (setC (co.upto i)).toArray 105 (0,0)) ::
    .obj b7 (.cells noC 105 (0,0))::.obj b6 (.cells noC 105 (0,0))::Z2.M/\i<=8,λ i=>8-i,0,⟨rfl,rfl,rfl,rfl,rfl,rfl,trivial⟩,⟨⟨hl.imm,⟨_,(List.append_nil _).symm⟩,hl.tok⟩,?_,by omega⟩,?_⟩
  ·show RA::_::Z3.M=_
   rw [hM];rfl
  rintro i f Z4 ⟨hl,hM,hi⟩
  repeat refine⟨rfl,?_⟩
  conv=>whnf
  apply cb_split<;>intro hc
  ·have hlt:i<8:=by simp at hc;omega
   have hin:InR (i+1):=by unfold InR;omega
   have hup:(co.upto i) i=co.so i:=by unfold Cov.upto;rw [if_neg (by omega)]
   refine⟨i,⟨rfl,hlt⟩,?_⟩
   refine⟨_,(by rw [Nat.mul_one];exact (reads_at [_,_,_,_] hM) i _ (setC_at _ hlt)),?_⟩
   repeat refine⟨rfl,?_⟩
   conv=>whnf
   apply gb_split<;>intro hc
   ·have hso:co.so i=true:=by rw [hup] at hc;simpa using hc
    repeat refine⟨rfl,?_⟩
    refine⟨i,⟨rfl,hlt⟩,?_⟩
    refine⟨_,(by rw [Nat.mul_one];exact (reads_at [_,_,_] hM) i _ (setC_at _ hlt)),?_⟩
    repeat refine⟨rfl,?_⟩
    refine⟨i,⟨rfl,hlt⟩,?_⟩
    refine⟨rfl,?_⟩
    show StV ((Addr.mk b8 0 none).add (i*1)) [.bool (!co.la i)] 0 _ _
    rw [Nat.mul_one]
    refine st_at [_,_,_,_] hM (by exact hlt) rfl ?_
    rw [setC_set _ hlt,show (!co.la i)=(co.so i && !co.la i) by rw [hso];rfl,Cov.upto_put]
    refine⟨hin,?_⟩
    conv=>whnf
    exact⟨rfl,i+1,⟨rfl,rfl,rfl,rfl,rfl,rfl,trivial⟩,⟨⟨hl.imm,⟨_,(List.append_nil _).symm⟩,hl.tok⟩,rfl,by omega⟩,by show _-_<_-_;omega⟩
   ·have hso:co.so i=false:=by rw [hup] at hc;simpa using hc
    repeat refine⟨rfl,?_⟩
    refine⟨i,⟨rfl,hlt⟩,?_⟩
    refine⟨rfl,?_⟩
    show StV ((Addr.mk b8 0 none).add (i*1)) [.bool false] 0 _ _
    rw [Nat.mul_one]
    refine st_at [_,_,_,_] hM (by exact hlt) rfl ?_
    rw [setC_set _ hlt,show false=(co.so i && !co.la i) by rw [hso];rfl,Cov.upto_put]
    refine⟨hin,?_⟩
    conv=>whnf
    exact⟨rfl,i+1,⟨rfl,rfl,rfl,rfl,rfl,rfl,trivial⟩,⟨⟨hl.imm,⟨_,(List.append_nil _).symm⟩,hl.tok⟩,rfl,by omega⟩,by show _-_<_-_;omega⟩
  ·have hge:i=8:=by simp at hc;omega
   subst hge
   have e8:setC (co.upto 8)=setC co.sure:=setC_congr λ j hj=>by unfold Cov.upto Cov.sure;rw [if_pos hj]
   rw [e8] at hM
   refine⟨λ Z'=>Z2.frz.lg Z'/\Z'.M=RA::.obj d (.deferred (some []))::.obj b10 (.cells (setC co.re).toArray 105 (0,0))::.obj b9 (.cells (setC co.la).toArray 105 (0,0))::.obj b8 (.cells (setC co.sure).toArray 105 (0,0)) ::
    .obj b7 (.cells noC 105 (0,0))::.obj b6 (.cells (setC co.sure).toArray 105 (0,0))::Z2.M,λ Z Z' ⟨a,b⟩ hle=>⟨frz_le a hle,hle.own.trans b⟩,?_⟩
   refine⟨_,⟨rfl,reads_at [_,_,_,_] hM⟩,?_⟩
   refine⟨setA co.re,λ Z' hle _=>⟨setC co.re,⟨rfl,reads_at [_,_] (hle.own.trans hM)⟩,rfl,_,.refl _,.refl _⟩,λ Z' hG=>⟨setC co.re,⟨rfl,reads_at [_,_] hG.2⟩,rfl,_,.refl _,.refl _⟩,?_⟩
   conv=>whnf
   intro Z' hle _
   refine⟨⟨rfl,st_all [_,_,_,_,_,_] (hle.own.trans hM) rfl (setC_single _) ⟨rfl,_,.refl _,⟨⟨λ b o h=>hle.imm b o (hl.imm b o h),⟨_,(List.append_nil _).symm⟩,hle.tok.trans hl.tok⟩,rfl⟩⟩⟩,λ Z'' hG=>?_⟩
   obtain⟨hl5,hM_5⟩:=hG
   refine⟨rfl,st_all [_,_,_,_,_] hM_5 rfl (setC_single _) ?_⟩
   refine⟨_,.there .here,?_⟩
   refine⟨_,⟨rfl,reads_at [_,_,_,_,_,_] rfl⟩,?_⟩
   refine⟨_,⟨rfl,reads_at [_,_,_,_,_] rfl⟩,?_⟩
   conv=>whnf
   exact⟨rfl,λ b o h=>hl5.imm b o (hle2.imm b o h),⟨[_,_,_,_,_,_,_],by rw [<- hle2.own];rfl⟩,hl5.tok.trans hle2.tok⟩
 ·exact λ d l A i Z3 h=>h.elim
 ·exact λ d l A Z3 h=>h.elim
end Go.Proofs
