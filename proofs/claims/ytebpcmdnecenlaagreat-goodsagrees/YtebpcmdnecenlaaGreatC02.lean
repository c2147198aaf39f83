/- A part of the proof: lemmas that the last text uses. No conditions of its own. -/
import Derived.Test.YtebpcmdnecenlaaGreatG28
import Derived.Test.YtebpcmdnecenlaaGreatG24
import Derived.Test.YtebpcmdnecenlaaGreatG08
import Derived.Test.YtebpcmdnecenlaaGreatG09
import Derived.Test.YtebpcmdnecenlaaGreatG10
import Derived.Test.YtebpcmdnecenlaaGreatG06
import Derived.Test.YtebpcmdnecenlaaGreatG27
import Derived.Test.YtebpcmdnecenlaaGreatG23
import Derived.Test.YtebpcmdnecenlaaGreatC01
import Derived.Test.YtebpcmdnecenlaaGreatG25
import Derived.Test.YtebpcmdnecenlaaGreatC00
set_option linter.unusedSimpArgs false
set_option linter.unusedVariables false
namespace Go.TM
variable {T:Type} {P:Program} {S:Sys P T} {σ:View T}
theorem CallsV.okd {f:FuncId} {args:Array Value} {R R':Value->View T->Prop} (h:CallsV S f args R σ) (hr:∀v σ' w,σ'.ok w->R v σ'->∃σ'',Shift σ' σ''/\R' v σ''):CallsV S f args R' σ:=by
 intro Stop m c cs k
 refine h Stop m c cs λ v σ' r=>?_
 by_cases hs:∃w,σ'.ok w
 ·obtain⟨w,hw⟩:=hs
  obtain⟨σ'',h1,h2⟩:=hr v σ' w hw r
  exact .shift h1 (k v _ h2)
 ·exact .priv ⟨rfl,λ w ok=>absurd ⟨w,ok⟩ hs⟩
theorem AccIn.intsV {v:Value} {l:List Int} {A R:List Res} {I:Nat->Option Obj} {k:T} (h:AccIn 3 1 v (l.map λ n=>.int .i64 n) A) {w:World} (ok:(⟨I,A++R,k⟩:View T).ok w) :
  ∃σ'':View T,Shift ⟨I,A++R,k⟩ σ''/\σ''.ok w/\(∀x o,I x=some o->σ''.I x=some o)/\σ''.M=R/\σ''.tok=k/\IntsV σ''.frz v l:=by
 obtain⟨σ'',k1,k2,a,len,cap,rfl,hl,hsrc,hsp,_⟩:=Acc.freeze (σ:=⟨I,R,k⟩) (σ':=⟨I,A++R,k⟩) ok.sep (h R) (λ _ _ h=>h) rfl
 simp at hl
 exact⟨σ'',k1,(k1.2 w ok).1,k2.imm,k2.own,k2.tok,a,cap,by rw [hl],ints_src hsrc hsp⟩
end Go.TM
namespace Go.TM
variable {T:Type} {σ:View T}
theorem Ints.src {a:Option Addr} {len:Nat} {l:List Int} (h:Ints σ a len l):Src σ a (l.map λ n=>.int .i64 n):=by
 cases l with
 | nil=>
  cases a with
  | none=>exact .inl ⟨rfl,rfl⟩
  | some ad=>exact .inr ⟨ad,rfl,λ i v hv=>by simp at hv⟩
 | cons x r=>
  obtain⟨ad,rfl,hs,-⟩:=h.2 0 x rfl
  refine .inr ⟨ad,rfl,λ i v hv=>?_⟩
  rw [List.getElem?_map] at hv
  cases e:(x::r)[i]? with
  | none=>rw [e] at hv;simp at hv
  | some y=>
   rw [e] at hv
   simp at hv
   subst hv
   obtain⟨ad',e',_,h'⟩:=h.2 i y e
   cases e'
   rwa [Nat.mul_one] at h'
end Go.TM
namespace Go.TM
structure Tbl.Lst (t:Tbl) (e:Int) (l:List Int):Prop where
 asc:Asc l
 its:∀x∈l,t.isItem e x=true
theorem Tbl.chk_of {t:Tbl} {e:Int}:∀{l:List Int} {p:Option Int},(∀m,p=some m->∀x∈l,m<x)->Asc l->(∀x∈l,t.isItem e x=true)->t.chk e p l=0
 | [],_,_,_,_=>rfl
 | a::l,p,hp,ha,hi=>by
  have ha':=List.pairwise_cons.1 ha
  have ih:t.chk e (some a) l=0:=Tbl.chk_of (λ m e x hx=>by cases e;exact ha'.1 x hx) ha'.2 λ x hx=>hi x (List.mem_cons_of_mem _ hx)
  rw [Tbl.chk_cons,if_pos (hi a (List.mem_cons_self ..))]
  cases p with
  | none=>exact ih
  | some m=>
   have:=hp m rfl a (List.mem_cons_self ..)
   show (if a<=m then (7:Int) else _)=0
   rw [if_neg (by omega)];exact ih
theorem Tbl.Lst.chk {t:Tbl} {e:Int} {l:List Int} (h:t.Lst e l):t.chk e none l=0:=Tbl.chk_of (λ m e=>by cases e) h.asc h.its
theorem Tbl.Lst.of {t:Tbl} {e:Int} {l:List Int} (h:t.chk e none l=0):t.Lst e l:=⟨(Tbl.chk_asc h).1,λ x hx=>chk_items h x hx⟩
theorem Tbl.Lst.filter {t:Tbl} {e:Int} {l:List Int} (h:t.Lst e l) (p:Int->Bool):t.Lst e (l.filter p):=⟨h.asc.filter p,λ x hx=>h.its x (List.mem_filter.1 hx).1⟩
theorem Tbl.Lst.len {t:Tbl} {e:Int} {l:List Int} (hf:t.flaw=0) (h:t.Lst e l):l.length<=8:=by
 rcases chk_len hf h.chk (by simp) with rfl | h
 ·simp
 ·exact h
theorem Tbl.Lst.lt {t:Tbl} {e:Int} {l:List Int} (hf:t.flaw=0) (h:t.Lst e l):∀x∈l,0<=x/\x<8:=λ x hx=>Tbl.item_lt hf (h.its x hx)
section
variable {t:Tbl}
section
variable {x y:Int} (hf:t.flaw=0) (hx:t.isEd x=true) (hy:t.isEd y=true) {l:List Int} (h:t.Lst x l)
include hf hx hy h
end
end
end Go.TM
namespace Go.TM
variable {T:Type} {P:Program} {S:Sys P T} {σ:View T}
theorem Tbl.open_pr {t:Tbl} {e:Int} {a b:List Int}:t.openF e [a,b]=if t.openF e [a]=0 then t.chk e none b else t.openF e [a]:=by
 unfold Tbl.openF
 by_cases hf:t.flaw=0
 ·simp only [hf,if_true]
  by_cases he:t.isEd e=true
  ·simp only [he,if_true]
   unfold Tbl.chkAll
   by_cases ha:t.chk e none a=0
   ·simp only [ha,if_true,Tbl.chkAll]
    by_cases hb:t.chk e none b=0
    ·simp [hb]
    ·simp [hb]
   ·simp [ha]
  ·simp [he]
 ·simp [hf]
theorem CallsV.listedG {f:FuncId} {args:Array Value} {G:Value->Value} {R:List Int->Prop}
  (h:CallsV S f args (λ v σ'=>∃v1 l A X,v=G v1/\R l/\σ'.M=A++(X++σ.M)/\AccIn 3 1 v1 (l.map λ n=>.int .i64 n) A/\(∀x o,σ.I x=some o->σ'.I x=some o)/\σ'.tok=σ.tok) σ) :
  CallsV S f args (λ v σ'=>(∃v1 l,v=G v1/\R l/\IntsV σ'.frz v1 l)/\σ.le σ') σ:=by
 refine h.okd λ v σ' w ok ⟨v1,l,A,X,hv,hR,hM,hA,hI,ht⟩=>?_
 have s1:Shift σ' { σ' with M:=A++σ.M }:=shift_drop (by rw [hM];exact (List.Sublist.refl _).append (List.sublist_append_right ..))
 obtain⟨σ2,s2,ok2,i2,m2,t2,r2⟩:=hA.intsV (s1.2 w ok).1
 exact⟨σ2,s1.trans s2,⟨v1,l,hv,hR,r2⟩,λ x o h=>i2 x o (hI x o h),m2,t2.trans ht⟩
end Go.TM
namespace Go.Proofs
open Go.TM
set_option maxRecDepth 100000
variable {T:Type} {S:TM.Sys Tryz.prog T} {σ:View T}
attribute [local irreducible] CallsV YieldV rngX
theorem Tryz.long2_ok (a:Option Addr) (len cap:Nat) (ls:List (List Int)) (hl:ListsV σ a len ls) (hlen:len<2 ^ 60) :
  CallsV S 25 #[.slice a len cap] (λ v σ'=>(∃B:Bool,v=.bool B/\(B=false->∀l∈ls,l.length<=20))/\σ'=σ) σ:=by
 refine CallsV.of (args:=[_]) Tryz.k25 Tryz.mixed (by simp) ?_
 refine⟨Nat,λ i=>[(0,.slice a len cap),(3,.int .i64 i)],λ i σ'=>σ'=σ/\i<=len/\∀l∈ls.take i,l.length<=20,λ i=>len-i,0,⟨rfl,rfl,trivial⟩,⟨rfl,by omega,by simp⟩,?_⟩
 rintro i f _ ⟨rfl,hi,hall⟩
 repeat refine⟨rfl,?_⟩
 conv=>whnf
 apply cb_split<;>intro hc
 ·have hlt:i<len:=by simpa using hc
  obtain⟨ad,x,vs,hx,rfl,hsp,⟨a',len',cap',rfl,hli,-⟩,-,hrd⟩:=RowsV.at hl hlt
  refine⟨ad,i,⟨rfl,rfl,hlt⟩,?_⟩
  refine⟨_,hrd 0 _ rfl,?_⟩
  repeat refine⟨rfl,?_⟩
  conv=>whnf
  apply cb_split<;>intro hc
  ·conv=>whnf
   exact⟨⟨true,rfl,λ h=>by cases h⟩,rfl⟩
  ·have hle:len'<=20:=by simp at hc;omega
   refine⟨by unfold InR;omega,?_⟩
   refine⟨rfl,i+1,⟨rfl,rfl,trivial⟩,⟨rfl,by omega,λ l hl'=>?_⟩,by show _-_<_-_;omega⟩
   rw [take_at hx] at hl'
   rcases List.mem_append.1 hl' with h | h
   ·exact hall l h
   ·rw [List.mem_singleton.1 h,hli.1];exact hle
 ·have hge:len<=i:=by simpa using hc
  conv=>whnf
  exact⟨⟨false,rfl,λ _=>by rwa [List.take_of_length_le (by rw [hl.1];exact hge)] at hall⟩,rfl⟩
end Go.Proofs
namespace Go.TM
def othP (ps:List (Int×Int)) (x:List Int) (y:Int):Bool:=ps.any λ p=>p.2 == y && !x.contains p.1
def othF (ps:List (Int×Int)) (x b:List Int):List Int:=b.filter (othP ps x)
theorem oth_take {ps:List (Int×Int)} {x:List Int} {y:Int} {k:Nat} {p:Int×Int} (h:ps[k]?=some p):othP (ps.take (k+1)) x y=(othP (ps.take k) x y || (p.2 == y && !x.contains p.1)):=by
 unfold othP
 rw [take_at h,List.any_append]
 simp
theorem othF_take {ps:List (Int×Int)} {x b:List Int} {i:Nat} {y:Int} (h:b[i]?=some y):othF ps x (b.take (i+1))=othF ps x (b.take i)++(if othP ps x y=true then [y] else []):=by
 unfold othF
 rw [take_at h,List.filter_append,List.filter_cons,List.filter_nil]
end Go.TM
namespace Go.Proofs
open Go.TM
set_option maxRecDepth 100000
variable {T:Type} {S:TM.Sys Tryz.prog T} {σ:View T}
attribute [local irreducible] CallsV YieldV rngX
theorem Tryz.others_ok (pa xa ba:Option Addr) (pl pc xl xc bl bc:Nat) (ps:List (Int×Int)) (x b:List Int) (hp:PairsV σ pa pl ps) (hpl:pl<2 ^ 60) (hx:Ints σ xa xl x) (hxl:xl<2 ^ 60) (hb:Ints σ ba bl b) (hbl:bl<=1000000) :
  CallsV S 100 #[.slice pa pl pc,.slice xa xl xc,.slice ba bl bc] (λ v σ'=>(∃v1 q,v=v1/\q=othF ps x b/\IntsV σ'.frz v1 q)/\σ.le σ') σ:=by
 refine CallsV.listedG (G:=λ v1=>v1) (R:=λ q=>q=othF ps x b) (CallsV.of (args:=[_,_,_]) Tryz.k100 Tryz.mixed (by simp) ?_)
 have hpp:=hp.1
 have hbb:=hb.1
 refine⟨Nat×Value,λ y=>[(0,.slice pa pl pc),(1,.slice xa xl xc),(2,.slice ba bl bc),(7,y.2),(8,.int .i64 y.1)],
  λ y σ'=>(∀x o,σ.I x=some o->σ'.I x=some o)/\σ'.tok=σ.tok/\Acc 3 1 y.2 ((othF ps x (b.take y.1)).map λ n=>.int .i64 n) σ'.M σ.M/\y.1<=bl,λ y=>bl-y.1,(0,.slice none 0 0),⟨rfl,rfl,rfl,rfl,rfl,trivial⟩,⟨λ _ _ h=>h,rfl,.nil,by simp⟩,?_⟩
 rintro⟨i,v⟩ f σ2 ⟨hI,htk,ha,hi⟩
 simp only at ha hi
 have hlen:=List.length_filter_le (othP ps x) (b.take i)
 rw [List.length_take] at hlen
 have hlen':(othF ps x (b.take i)).length<=i:=Nat.le_trans hlen (Nat.min_le_left _ _)
 obtain⟨sa,sc,rfl,-⟩:=src_ints ha
 obtain⟨A',hA'⟩:=ha.own
 have hlg:σ.lg σ2:=⟨hI,⟨A',hA'⟩,htk⟩
 repeat refine⟨rfl,?_⟩
 conv=>whnf
 apply cb_split<;>intro hc
 ·have hlt:i<bl:=by simpa using hc
  obtain⟨ad,y,hy,hae,hsp,-⟩:=hb.at hlt
  have hin:InR ((i:Int)+1):=by unfold InR;omega
  have hns:=othF_take (ps:=ps) (x:=x) hy
  refine⟨Nat×Bool,λ z=>[(0,.slice pa pl pc),(1,.slice xa xl xc),(2,.slice ba bl bc),(7,.slice sa (othF ps x (b.take i)).length sc),(8,.int .i64 i),(9,.bool z.2),(10,.int .i64 z.1)],
   λ z σ'=>σ2.le σ'/\z.1<=pl/\z.2=othP (ps.take z.1) x y,λ z=>pl-z.1,(0,false),⟨rfl,rfl,rfl,rfl,rfl,rfl,rfl,trivial⟩,⟨.refl _,Nat.zero_le _,rfl⟩,?_⟩
  rintro⟨k,g⟩ f σ3 ⟨h_3,hk,hg⟩
  simp only at hk hg
  have hlg3:σ.lg σ3:=hlg.trans h_3.lg
  repeat refine⟨rfl,?_⟩
  conv=>whnf
  apply cb_split<;>intro hc
  ·have hkl:k<pl:=by simpa using hc
   obtain⟨ad2,p,vs2,hp2,hpa,hsp2,rfl,-,hrd⟩:=RowsV.at (PairsV.lg hp hlg3) hkl
   obtain⟨ad3,y3,hy3,hae3,hsp3,hsy⟩:=(hb.lg hlg3).at hlt
   obtain rfl:y=y3:=by rw [hy] at hy3;cases hy3;rfl
   have hkn:InR ((k:Int)+1):=by unfold InR;omega
   have ht:=oth_take (x:=x) (y:=y) hp2
   rw [<- hg] at ht
   have r1:=hrd 0 _ rfl
   have r2:=hrd 1 _ rfl
   cases g with
   | true=>
    conv=>whnf
    intro σ4 h_4 _
    refine⟨hkn,?_⟩
    conv=>whnf
    exact⟨rfl,(k+1,true),⟨rfl,rfl,rfl,rfl,rfl,rfl,rfl,trivial⟩,⟨h_3.trans h_4,by simp only;omega,by rw [ht];rfl⟩,by show _-_<_-_;omega⟩
   | false=>
    refine⟨ad2,k,⟨hpa,rfl,hkl⟩,?_⟩
    refine⟨_,r2,?_⟩
    refine⟨ad3,i,⟨hae3,rfl,hlt⟩,?_⟩
    refine⟨_,hsy,?_⟩
    repeat refine⟨rfl,?_⟩
    conv=>whnf
    by_cases hpy:p.2=y
    ·rw [show (p.2 == y)=true by simpa using hpy]
     refine⟨ad2,k,⟨hpa,rfl,hkl⟩,?_⟩
     refine⟨_,r1,?_⟩
     conv=>whnf
     intro σ4 h_4 _
     refine⟨Tryz.k53.any,(Tryz.hasInt_ok xa xl xc x (hx.lg (hlg3.trans h_4.lg)) hxl p.1).go λ _=>?_⟩
     refine⟨hkn,?_⟩
     conv=>whnf
     exact⟨rfl,(k+1,!x.contains p.1),⟨rfl,rfl,rfl,rfl,rfl,rfl,rfl,trivial⟩,⟨h_3.trans h_4,by simp only;omega,by rw [ht,show (p.2 == y)=true by simpa using hpy];rfl⟩,by show _-_<_-_;omega⟩
    ·rw [show (p.2 == y)=false by simpa using hpy]
     conv=>whnf
     intro σ4 h_4 _
     refine⟨hkn,?_⟩
     conv=>whnf
     exact⟨rfl,(k+1,false),⟨rfl,rfl,rfl,rfl,rfl,rfl,rfl,trivial⟩,⟨h_3.trans h_4,by simp only;omega,by rw [ht,show (p.2 == y)=false by simpa using hpy];rfl⟩,by show _-_<_-_;omega⟩
  ·have hge:pl<=k:=by simpa using hc
   rw [List.take_of_length_le (by omega)] at hg
   have hI3:∀x o,σ.I x=some o->σ3.I x=some o:=λ x o h=>h_3.imm x o (hI x o h)
   cases g with
   | true=>
    rw [if_pos hg.symm] at hns
    obtain⟨ad3,y3,hy3,hae3,hsp3,hsy⟩:=(hb.lg hlg3).at hlt
    obtain rfl:y=y3:=by rw [hy] at hy3;cases hy3;rfl
    refine⟨ad3,i,⟨hae3,rfl,hlt⟩,?_⟩
    refine⟨_,hsy,?_⟩
    conv=>whnf
    intro b52 hf52
    refine put_new hf52 λ σ5 h_5 hb_5=>?_
    have hb_5:Blk σ5 b52 #[.int .i64 y]:=hb_5
    conv=>whnf
    refine raw_app (v:=.slice sa _ sc) (cs:=(othF ps x (b.take i)).map λ n=>.int .i64 n) (new:=[.int .i64 y]) (M₀:=σ.M) Tryz.sl27 rfl rfl (by rw [h_5.own,h_3.own];exact ha) (.inr ⟨_,rfl,hb_5.reads (λ k v hv=>by simpa using hv)⟩) rfl (by simp [Value.single]) (by simp only [List.length_map,List.length_cons,List.length_nil];omega) λ v' M' ha' _=>?_
    have ha'':Acc 3 1 v' ((othF ps x (b.take (i+1))).map λ n=>.int .i64 n) M' σ.M:=by rw [hns];simpa using ha'
    obtain⟨ta,tc,rfl,-⟩:=src_ints (σ:={ σ5 with M:=M' }) ha''
    refine⟨hin,?_⟩
    conv=>whnf
    exact⟨rfl,(i+1,.slice ta _ tc),⟨rfl,rfl,rfl,rfl,rfl,trivial⟩,⟨λ x o h=>h_5.imm x o (hI3 x o h),h_5.tok.trans (h_3.tok.trans htk),ha'',by simp only;omega⟩,by show _-_<_-_;omega⟩
   | false=>
    rw [if_neg (by rw [<- hg];exact Bool.false_ne_true),List.append_nil] at hns
    refine⟨hin,?_⟩
    conv=>whnf
    exact⟨rfl,(i+1,.slice sa _ sc),⟨rfl,rfl,rfl,rfl,rfl,trivial⟩,⟨hI3,h_3.tok.trans htk,by rw [hns,h_3.own];exact ha,by simp only;omega⟩,by show _-_<_-_;omega⟩
 ·have hge:bl<=i:=by simpa using hc
  rw [List.take_of_length_le (by omega)] at ha
  obtain⟨A,hA,hain⟩:=ha.split
  repeat refine⟨rfl,?_⟩
  conv=>whnf
  rw [List.take_of_length_le (by omega)]
  exact⟨_,_,A,[],rfl,rfl,hA,hain,hI,htk⟩
end Go.Proofs
namespace Go.TM
theorem cmpL_self:∀(a:List Int),cmpL a a=0
 | []=>rfl
 | a::l=>by rw [cmpL,if_neg (by omega),if_neg (by omega)];exact cmpL_self l
theorem cmpL_cases:∀(a b:List Int),cmpL a b<0\/a=b\/cmpL b a<0
 | [],[]=>.inr (.inl rfl)
 | [],_::_=>.inl (by simp [cmpL])
 | _::_,[]=>.inr (.inr (by simp [cmpL]))
 | a::l,b::r=>by
  by_cases h1:a<b
  ·left;rw [cmpL,if_pos h1];decide
  ·by_cases h2:b<a
   ·right;right;rw [cmpL,if_pos h2];decide
   ·obtain rfl:a=b:=by omega
    rcases cmpL_cases l r with h | h | h
    ·left;rw [cmpL,if_neg h1,if_neg h1];exact h
    ·right;left;rw [h]
    ·right;right;rw [cmpL,if_neg h1,if_neg h1];exact h
theorem cmpL_trans:∀{a b c:List Int},cmpL a b<0->cmpL b c<0->cmpL a c<0
 | [],[],_,h,_=>by simp [cmpL] at h
 | [],_::_,[],_,h=>by simp [cmpL] at h
 | [],_::_,_::_,_,_=>by simp [cmpL]
 | _::_,[],_,h,_=>by simp [cmpL] at h
 | _::_,_::_,[],_,h=>by simp [cmpL] at h
 | a::l,b::r,c::q,h,k=>by
  rw [cmpL] at h k ⊢
  split at h
  ·split at k
   ·rw [if_pos (by omega)];decide
   ·split at k
    ·omega
    ·rw [if_pos (by omega)];decide
  ·split at h
   ·omega
   ·split at k
    ·rw [if_pos (by omega)];decide
    ·split at k
     ·omega
     ·rw [if_neg (by omega),if_neg (by omega)];exact cmpL_trans h k
theorem subA_half (s:Nat):∀(l:List Int) (i:Nat),subA s (i+1) l=subA (s / 2) i l
 | [],_=>rfl
 | a::l,i=>by
  have:s.testBit (i+1)=(s / 2).testBit i:=Nat.testBit_succ ..
  simp only [subA,subA_half s l (i+1),this]
theorem subA_sub (s:Nat):∀(l:List Int) (i:Nat),(subA s i l).Sublist l
 | [],_=>List.Sublist.slnil
 | a::l,i=>by
  simp only [subA]
  split
  ·exact (subA_sub s l _).cons_cons a
  ·exact (subA_sub s l _).cons a
theorem sub_subA:∀{l a:List Int},l.Sublist a->∃s,s<2 ^ a.length/\subA s 0 a=l
 | _,_,.slnil=>⟨0,by simp,rfl⟩
 | _,_,.cons x h=>by
  obtain⟨s,h1,h2⟩:=sub_subA h
  refine⟨2*s,by rw [List.length_cons,Nat.pow_succ];omega,?_⟩
  have e:(2*s).testBit 0=false:=by simp
  simp only [subA,e,Bool.false_eq_true,if_false]
  rw [subA_half,show 2*s / 2=s by omega];exact h2
 | _,_,.cons_cons x h=>by
  obtain⟨s,h1,h2⟩:=sub_subA h
  refine⟨2*s+1,by rw [List.length_cons,Nat.pow_succ];omega,?_⟩
  have e:(2*s+1).testBit 0=true:=by simp
  simp only [subA,e,if_true]
  rw [subA_half,show (2*s+1) / 2=s by omega,h2]
theorem Tbl.mem_reach {t:Tbl} {tk:Talk} {x y:List Int} {p:Int×Int}:p∈t.reach tk x y↔p.1∈tk.a/\p.2∈tk.b/\p.1∉x/\p.2∉y/\tk.lv<=t.lev tk.ed p.1 p.2:=by
 have hok:∀one two,t.okP tk x y one two=true↔one∉x/\two∉y/\tk.lv<=t.lev tk.ed one two:=λ one two=>by
  unfold Tbl.okP
  rw [Bool.not_eq_true',Bool.or_eq_false_iff,Bool.or_eq_false_iff,decide_eq_false_iff_not]
  constructor
  ·rintro⟨⟨h1,h2⟩,h3⟩;exact⟨by simpa using h1,by simpa using h2,by omega⟩
  ·rintro⟨h1,h2,h3⟩;exact⟨⟨by simpa using h1,by simpa using h2⟩,by omega⟩
 unfold Tbl.reach Tbl.reachRow
 rw [List.mem_flatMap]
 constructor
 ·rintro⟨one,h1,h2⟩
  obtain⟨two,h3,rfl⟩:=List.mem_map.1 h2
  obtain⟨h3,h4⟩:=List.mem_filter.1 h3
  exact⟨h1,h3,(hok _ _).1 h4⟩
 ·rintro⟨h1,h2,h3⟩
  exact⟨p.1,h1,List.mem_map.2 ⟨p.2,List.mem_filter.2 ⟨h2,(hok _ _).2 h3⟩,rfl⟩⟩
def Tbl.prs (t:Tbl) (tk:Talk):List (Int×Int):=t.reach tk [] []
theorem Tbl.mem_prs {t:Tbl} {tk:Talk} {p:Int×Int}:p∈t.prs tk↔p.1∈tk.a/\p.2∈tk.b/\tk.lv<=t.lev tk.ed p.1 p.2:=by
 unfold Tbl.prs;rw [Tbl.mem_reach];simp
theorem Tbl.mem_leftF {t:Tbl} {tk:Talk} {x:List Int} {y:Int}:y∈t.leftF tk x↔∃o,(o,y)∈t.prs tk/\o∉x:=by
 unfold Tbl.leftF
 rw [List.mem_filter,List.any_eq_true]
 constructor
 ·rintro⟨h1,p,h2,h3⟩
  rw [Tbl.mem_reach] at h2
  have h3:p.2=y:=by simpa using h3
  subst h3
  exact⟨p.1,Tbl.mem_prs.2 ⟨h2.1,h2.2.1,h2.2.2.2.2⟩,h2.2.2.1⟩
 ·rintro⟨o,h1,h2⟩
  have h1':=Tbl.mem_prs.1 h1
  exact⟨h1'.2.1,(o,y),Tbl.mem_reach.2 ⟨h1'.1,h1'.2.1,h2,by simp,h1'.2.2⟩,by simp⟩
theorem Asc.nodup {l:List Int} (h:Asc l):l.Nodup:=List.Pairwise.imp (λ h=>by omega) h
theorem Tbl.asc_leftF {t:Tbl} {tk:Talk} (hb:Asc tk.b) (x:List Int):Asc (t.leftF tk x):=hb.filter _
theorem Tbl.left_cover (t:Tbl) (tk:Talk) (x:List Int):IsCover x (t.leftF tk x) (t.prs tk):=λ p hp=>by
 by_cases h:p.1∈x
 ·exact .inl h
 ·exact .inr (Tbl.mem_leftF.2 ⟨p.1,hp,h⟩)
theorem Tbl.left_least {t:Tbl} {tk:Talk} {x v:List Int} (h:IsCover x v (t.prs tk)):∀y,y∈t.leftF tk x->y∈v:=λ y hy=>by
 obtain⟨o,h1,h2⟩:=Tbl.mem_leftF.1 hy
 rcases h _ h1 with h | h
 ·exact absurd h h2
 ·exact h
structure Tbl.Best (t:Tbl) (tk:Talk) (l r:List Int):Prop where
 sub:l.Sublist tk.a
 left:r=t.leftF tk l
 len:l.length+r.length=t.mostT tk
 least:∀l':List Int,l'.Sublist tk.a->l'.length+(t.leftF tk l').length=t.mostT tk->¬cmpL l' l<0
theorem Tbl.Best.uniq {t:Tbl} {tk:Talk} {l r l' r':List Int} (h:t.Best tk l r) (h':t.Best tk l' r'):l=l'/\r=r':=by
 have e:l=l':=by
  rcases cmpL_cases l l' with k | k | k
  ·exact absurd k (h'.least l h.sub (by rw [<- h.left];exact h.len))
  ·exact k
  ·exact absurd k (h.least l' h'.sub (by rw [<- h'.left];exact h'.len))
 subst e
 exact⟨rfl,h.left.trans h'.left.symm⟩
section
variable {t:Tbl} {tk:Talk} (ha:Asc tk.a) (hb:Asc tk.b)
include ha
theorem Tbl.prs_a:tk.a.Nodup/\∀p,p∈t.prs tk->p.1∈tk.a:=⟨ha.nodup,λ _ hp=>(Tbl.mem_prs.1 hp).1⟩
theorem Tbl.most_cover {x y:List Int} (h:IsCover x y (t.prs tk)):t.mostT tk<=x.length+y.length:=most_le_cover (Tbl.prs_a (t:=t) ha).1 (Tbl.prs_a (t:=t) ha).2 h
theorem Tbl.most_left (x:List Int):t.mostT tk<=x.length+(t.leftF tk x).length:=Tbl.most_cover ha (t.left_cover tk x)
include hb
theorem Tbl.some_best:∃l:List Int,l.Sublist tk.a/\l.length+(t.leftF tk l).length=t.mostT tk:=by
 obtain⟨-,X,Y,h1,h2,h3,h4⟩:=most_both (Tbl.prs_a (t:=t) ha).1 (Tbl.prs_a (t:=t) ha).2
 have hsub:(tk.a.filter λ n=>X.contains n).Sublist tk.a:=List.filter_sublist ..
 refine⟨_,hsub,Nat.le_antisymm ?_ (Tbl.most_left ha _)⟩
 have hl:(tk.a.filter λ n=>X.contains n).length<=X.length:=nodup_sub_len (ha.filter _).nodup λ x hx=>by simpa using (List.mem_filter.1 hx).2
 have hr:(t.leftF tk (tk.a.filter λ n=>X.contains n)).length<=Y.length:=nodup_sub_len (Tbl.asc_leftF hb _).nodup <| Tbl.left_least λ p hp=>by
  rcases h3 p hp with h | h
  ·exact .inl (List.mem_filter.2 ⟨(Tbl.mem_prs.1 hp).1,by simpa using h⟩)
  ·exact .inr h
 show _<=t.mostT tk
 have h4:X.length+Y.length=t.mostT tk:=h4
 omega
theorem Tbl.agr_best:t.Best tk (t.agr tk).1 (t.agr tk).2:=by
 obtain⟨l_0,hl_0,he_0⟩:=Tbl.some_best (t:=t) ha hb
 obtain⟨s0,hs_0,rfl⟩:=sub_subA hl_0
 have key:∀k,let st:=(List.range k).foldl (agStep (t.mostT tk) (t.leftF tk) tk.a) ([],[]);
   (st=([],[])/\∀s,s<k->(subA s 0 tk.a).length+(t.leftF tk (subA s 0 tk.a)).length≠t.mostT tk) \/
   ((∃s,s<k/\st=(subA s 0 tk.a,t.leftF tk (subA s 0 tk.a))/\(subA s 0 tk.a).length+(t.leftF tk (subA s 0 tk.a)).length=t.mostT tk) /\
    ∀s,s<k->(subA s 0 tk.a).length+(t.leftF tk (subA s 0 tk.a)).length=t.mostT tk->¬cmpL (subA s 0 tk.a) st.1<0):=by
  intro k
  induction k with
  | zero=>exact .inl ⟨rfl,λ s h=>absurd h (Nat.not_lt_zero _)⟩
  | succ k ih=>
   simp only at ih ⊢
   rw [List.range_succ,List.foldl_append,List.foldl_cons,List.foldl_nil]
   generalize (List.range k).foldl (agStep (t.mostT tk) (t.leftF tk) tk.a) ([],[])=st at ih ⊢
   unfold agStep
   by_cases hm:(subA k 0 tk.a).length+(t.leftF tk (subA k 0 tk.a)).length=t.mostT tk
   ·rcases ih with⟨rfl,hno⟩ | ⟨⟨s,hs,rfl,hse⟩,hle⟩
    ·rw [if_pos ⟨hm,.inr (.inl ⟨rfl,rfl⟩)⟩]
     refine .inr ⟨⟨k,by omega,rfl,hm⟩,λ s hs he=>?_⟩
     by_cases e:s=k
     ·subst e;simp only;rw [cmpL_self];decide
     ·exact absurd he (hno s (by omega))
    ·by_cases hc:cmpL (subA k 0 tk.a) (subA s 0 tk.a)<0
     ·rw [if_pos ⟨hm,.inr (.inr hc)⟩]
      refine .inr ⟨⟨k,by omega,rfl,hm⟩,λ s' hs' he hlt=>?_⟩
      by_cases e:s'=k
      ·subst e;simp only at hlt;rw [cmpL_self] at hlt;exact absurd hlt (by decide)
      ·exact hle s' (by omega) he (cmpL_trans hlt hc)
     ·by_cases hn:(k=0\/(subA s 0 tk.a=[]/\t.leftF tk (subA s 0 tk.a)=[])\/cmpL (subA k 0 tk.a) (subA s 0 tk.a)<0)
      ·rw [if_pos ⟨hm,hn⟩]
       have heq:subA k 0 tk.a=subA s 0 tk.a:=by
        rcases hn with rfl | ⟨h1,h2⟩ | h
        ·omega
        ·rw [h2,h1] at hse
         rw [<- hse] at hm
         rw [h1]
         exact List.eq_nil_of_length_eq_zero (by simp at hm;simp [hm.1])
        ·exact absurd h hc
       refine .inr ⟨⟨k,by omega,rfl,hm⟩,λ s' hs' he=>?_⟩
       simp only
       rw [heq]
       by_cases e:s'=k
       ·rw [e,heq,cmpL_self];decide
       ·exact hle s' (by omega) he
      ·rw [if_neg λ h=>hn h.2]
       refine .inr ⟨⟨s,by omega,rfl,hse⟩,λ s' hs' he=>?_⟩
       by_cases e:s'=k
       ·rw [e];exact hc
       ·exact hle s' (by omega) he
   ·rw [if_neg λ h=>hm h.1]
    rcases ih with⟨rfl,hno⟩ | ⟨⟨s,hs,he,hse⟩,hle⟩
    ·refine .inl ⟨rfl,λ s hs=>?_⟩
     by_cases e:s=k
     ·rw [e];exact hm
     ·exact hno s (by omega)
    ·refine .inr ⟨⟨s,by omega,he,hse⟩,λ s' hs' he'=>?_⟩
     by_cases e:s'=k
     ·rw [e] at he';exact absurd he' hm
     ·exact hle s' (by omega) he'
 have:=key (2 ^ tk.a.length)
 simp only at this
 unfold Tbl.agr agAll
 rcases this with⟨_,hno⟩ | ⟨⟨s,hs,he,hse⟩,hle⟩
 ·exact absurd he_0 (hno s0 hs_0)
 ·rw [he] at hle ⊢
  refine⟨subA_sub ..,rfl,hse,λ l' hl' he'=>?_⟩
  obtain⟨s',hs',rfl⟩:=sub_subA hl'
  exact hle s' hs' he'
end
def subs:List Int->List (List Int)
 | []=>[[]]
 | x::r=>[]::((subs r).map (x::·)++(subs r).tail)
theorem subs_cons:∀(l:List Int),∃q,subs l=[]::q
 | []=>⟨[],rfl⟩
 | _::_=>⟨_,rfl⟩
theorem mem_subs:∀{a l:List Int},l∈subs a↔l.Sublist a
 | [],l=>by simp [subs]
 | x::r,l=>by
  obtain⟨q,hq⟩:=subs_cons r
  have ih:∀l',l'∈subs r↔l'.Sublist r:=λ l'=>mem_subs
  rw [subs,List.mem_cons,List.mem_append,List.mem_map,hq,List.tail_cons,<- hq]
  constructor
  ·rintro (rfl | ⟨l',h,rfl⟩ | h)
   ·exact List.nil_sublist _
   ·exact ((ih l').1 h).cons_cons x
   ·exact ((ih l).1 (by rw [hq];exact List.mem_cons_of_mem _ h)).cons x
  ·intro h
   cases h with
   | cons _ h=>
    have:=(ih l).2 h
    rw [hq] at this
    rcases List.mem_cons.1 this with h | h
    ·exact .inl h
    ·exact .inr (.inr h)
   | cons_cons _ h=>exact .inr (.inl ⟨_,(ih _).2 h,rfl⟩)
theorem subs_sorted:∀{a:List Int},Asc a->(subs a).Pairwise λ x y=>cmpL x y<0
 | [],_=>by simp [subs]
 | x::r,ha=>by
  have ha':=List.pairwise_cons.1 ha
  have ih:=subs_sorted ha'.2
  obtain⟨q,hq⟩:=subs_cons r
  rw [subs,List.pairwise_cons]
  rw [hq] at ih
  have ih':=List.pairwise_cons.1 ih
  refine⟨λ y hy=>?_,?_⟩
  ·rcases List.mem_append.1 hy with h | h
   ·obtain⟨z,_,rfl⟩:=List.mem_map.1 h;simp [cmpL]
   ·rw [hq] at h;exact ih'.1 y h
  ·rw [List.pairwise_append]
   refine⟨?_,by rw [hq];exact ih'.2,?_⟩
   ·rw [List.pairwise_map,hq]
    refine ih.imp λ {y z} h=>?_
    rw [cmpL,if_neg (by omega),if_neg (by omega)];exact h
   ·intro y hy z hz
    obtain⟨y',_,rfl⟩:=List.mem_map.1 hy
    rw [hq,List.tail_cons] at hz
    have hzs:z.Sublist r:=mem_subs.1 (by rw [hq];exact List.mem_cons_of_mem _ hz)
    cases z with
    | nil=>exact absurd (ih'.1 [] hz) (by simp [cmpL])
    | cons w z'=>
     have hw:x<w:=ha'.1 w (hzs.subset (List.mem_cons_self ..))
     rw [cmpL,if_pos hw];decide
def bestStep (f:List Int->Nat) (best l:List Int):List Int:=if f l<f best then l else best
theorem bestOf {f:List Int->Nat}:∀{ls:List (List Int)} {b:List Int},(b::ls).Pairwise (λ x y=>cmpL x y<0)->ls.foldl (bestStep f) b∈b::ls/\∀l∈b::ls,f (ls.foldl (bestStep f) b)<=f l/\(f l=f (ls.foldl (bestStep f) b)->¬cmpL l (ls.foldl (bestStep f) b)<0)
 | [],b,_=>⟨List.mem_cons_self ..,λ l hl=>by
  rw [List.mem_singleton.1 hl]
  exact⟨Nat.le_refl _,λ _=>by rw [List.foldl_nil,cmpL_self];decide⟩⟩
 | x::ls,b,h=>by
  have h':=List.pairwise_cons.1 h
  have hxb:cmpL b x<0:=h'.1 x (List.mem_cons_self ..)
  rw [List.foldl_cons]
  by_cases hlt:f x<f b
  ·rw [show bestStep f b x=x from if_pos hlt]
   obtain⟨h1,h2⟩:=bestOf (f:=f) h'.2
   have hx:=h2 x (List.mem_cons_self ..)
   refine⟨List.mem_cons_of_mem _ h1,λ l hl=>?_⟩
   rcases List.mem_cons.1 hl with rfl | hl
   ·exact⟨Nat.le_trans hx.1 (by omega),λ e=>by have:=hx.1;omega⟩
   ·exact h2 l hl
  ·rw [show bestStep f b x=b from if_neg hlt]
   have hp:(b::ls).Pairwise (λ x y=>cmpL x y<0):=List.pairwise_cons.2 ⟨λ y hy=>h'.1 y (List.mem_cons_of_mem _ hy),(List.pairwise_cons.1 h'.2).2⟩
   obtain⟨h1,h2⟩:=bestOf (f:=f) hp
   have hb:=h2 b (List.mem_cons_self ..)
   refine⟨?_,λ l hl=>?_⟩
   ·rcases List.mem_cons.1 h1 with h | h
    ·rw [h];exact List.mem_cons_self ..
    ·exact List.mem_cons_of_mem _ (List.mem_cons_of_mem _ h)
   ·rcases List.mem_cons.1 hl with rfl | hl
    ·exact hb
    ·rcases List.mem_cons.1 hl with rfl | hl
     ·refine⟨Nat.le_trans hb.1 (by omega),λ e hc=>?_⟩
      have hfb:f b=f (ls.foldl (bestStep f) b):=by omega
      exact hb.2 hfb (cmpL_trans hxb hc)
     ·exact h2 l (List.mem_cons_of_mem _ hl)
theorem Tbl.spec_best {t:Tbl} {tk:Talk} (ha:Asc tk.a) (hb:Asc tk.b) {l:List Int} (h:l=(subs tk.a).foldl (bestStep λ l=>l.length+(t.leftF tk l).length) []):t.Best tk l (t.leftF tk l):=by
 obtain⟨q,hq⟩:=subs_cons tk.a
 have hs:=subs_sorted ha
 rw [hq] at hs h
 have e:l=q.foldl (bestStep λ l=>l.length+(t.leftF tk l).length) []:=by
  rw [h,List.foldl_cons];congr 1;unfold bestStep;split <;> rfl
 obtain⟨h1,h2⟩:=bestOf (f:=λ l=>l.length+(t.leftF tk l).length) hs
 rw [<- e] at h1 h2
 obtain⟨l_0,hl_0,he_0⟩:=Tbl.some_best (t:=t) ha hb
 have hm:l.length+(t.leftF tk l).length=t.mostT tk:=Nat.le_antisymm (by
  have:=(h2 l_0 (by rw [<- hq];exact mem_subs.2 hl_0)).1
  omega) (Tbl.most_left ha l)
 exact⟨mem_subs.1 (by rw [hq];exact h1),rfl,hm,λ l' hl' he'=>(h2 l' (by rw [<- hq];exact mem_subs.2 hl')).2 (by omega)⟩
def matchedL:Nat->List (Int×Int)->Int->List Int->Option (List (Int×Int))
 | 0,_,_,_=>some []
 | _+1,[],_,_=>none
 | n+1,p::r,one,taken=>if p.1<=one\/p.2∈taken then matchedL (n+1) r one taken else match matchedL n r p.1 (taken++[p.2]) with
  | some L=>some (p::L)
  | none=>matchedL (n+1) r one taken
theorem matchedL_nil (n:Nat) (one:Int) (taken:List Int):matchedL (n+1) [] one taken=none:=by rw [matchedL]
theorem matchedL_cons (n:Nat) (p:Int×Int) (r:List (Int×Int)) (one:Int) (taken:List Int):matchedL (n+1) (p::r) one taken=if p.1<=one\/p.2∈taken then matchedL (n+1) r one taken else match matchedL n r p.1 (taken++[p.2]) with
  | some L=>some (p::L)
  | none=>matchedL (n+1) r one taken:=by rw [matchedL]
def freeP (one:Int) (taken:List Int) (q:Int×Int):Bool:=decide (one<q.1) && !decide (q.2∈taken)
theorem free_rest {p:Int×Int} {r:List (Int×Int)} {one:Int} {taken:List Int} (hs:∀q∈r,p.1<=q.1) (hp:one<p.1):r.filter (freeP p.1 (taken++[p.2]))=restP p (r.filter (freeP one taken)):=by
 unfold restP
 rw [List.filter_filter]
 refine List.filter_congr λ q hq=>?_
 have:=hs q hq
 unfold freeP
 rw [Bool.eq_iff_iff]
 simp only [Bool.and_eq_true,decide_eq_true_eq,Bool.not_eq_true',decide_eq_false_iff_not,List.mem_append,List.mem_singleton,not_or,Bool.or_eq_false_iff,beq_eq_false_iff_ne,ne_eq]
 constructor
 ·rintro⟨h1,h2,h3⟩;exact⟨⟨by omega,h3⟩,by omega,h2⟩
 ·rintro⟨⟨h1,h2⟩,_,h3⟩;exact⟨by omega,h3,h2⟩
theorem most_nil (la:List Int) (hn:la.Nodup):most la []=0:=by
 have:=most_le_cover (X:=[]) (Y:=[]) hn (ps:=[]) (λ p h=>by cases h) (λ p h=>by cases h)
 simpa using this
theorem most_mono {la:List Int} (hn:la.Nodup) {ps qs:List (Int×Int)} (hq:∀p,p∈qs->p.1∈la) (h:∀p,p∈ps->p∈qs):most la ps<=most la qs:=by
 obtain⟨⟨L,hL,e⟩,_⟩:=most_both hn λ p hp=>hq p (h p hp)
 rw [<- e]
 exact match_le_most hn hq ⟨λ p hp=>h p (hL.1 p hp),hL.2⟩
theorem mem_restP {p q:Int×Int} {r:List (Int×Int)}:q∈restP p r↔q∈r/\q.1≠p.1/\q.2≠p.2:=by
 unfold restP
 rw [List.mem_filter]
 simp
theorem nodup_of_map {α β:Type} {f:α->β}:∀{L:List α},(L.map f).Nodup->L.Nodup
 | [],_=>List.Pairwise.nil
 | a::L,h=>by
  rw [List.map_cons,List.nodup_cons] at h
  rw [List.nodup_cons]
  exact⟨λ hm=>h.1 (List.mem_map.2 ⟨a,hm,rfl⟩),nodup_of_map h.2⟩
theorem most_pick {la:List Int} (hn:la.Nodup) {p:Int×Int} {r:List (Int×Int)} (hp:∀q,q∈p::r->q.1∈la) (n:Nat):n+1<=most la (p::r)↔n<=most la (restP p r)\/n+1<=most la r:=by
 have hr:∀q,q∈r->q.1∈la:=λ q hq=>hp q (List.mem_cons_of_mem _ hq)
 have hrest:∀q,q∈restP p r->q.1∈la:=λ q hq=>hr q (mem_restP.1 hq).1
 constructor
 ·intro h
  obtain⟨⟨L,hL,e⟩,_⟩:=most_both hn hp
  rw [<- e] at h
  by_cases hpL:p∈L
  ·left
   have hnd:L.Nodup:=nodup_of_map hL.2.1
   have hm:IsMatch (L.erase p) (restP p r):=by
    refine⟨λ q hq=>?_,(hL.2.1.sublist ((List.erase_sublist ..).map _)),(hL.2.2.sublist ((List.erase_sublist ..).map _))⟩
    have hq':q≠p/\q∈L:=(List.Nodup.mem_erase_iff hnd).1 hq
    have inj1:q.1≠p.1:=λ he=>hq'.1 (inj_of_nodup_map hL.2.1 hq'.2 hpL he)
    have inj2:q.2≠p.2:=λ he=>hq'.1 (inj_of_nodup_map hL.2.2 hq'.2 hpL he)
    rcases List.mem_cons.1 (hL.1 q hq'.2) with h | h
    ·exact absurd h hq'.1
    ·exact mem_restP.2 ⟨h,inj1,inj2⟩
   have:=match_le_most hn hrest hm
   rw [List.length_erase_of_mem hpL] at this
   omega
  ·right
   have hm:IsMatch L r:=⟨λ q hq=>by
    rcases List.mem_cons.1 (hL.1 q hq) with h | h
    ·rw [h] at hq;exact absurd hq hpL
    ·exact h,hL.2⟩
   exact Nat.le_trans h (match_le_most hn hr hm)
 ·rintro (h | h)
  ·obtain⟨⟨L,hL,e⟩,_⟩:=most_both hn hrest
   have hm:IsMatch (p::L) (p::r):=by
    refine⟨λ q hq=>?_,?_,?_⟩
    ·rcases List.mem_cons.1 hq with rfl | hq
     ·exact List.mem_cons_self ..
     ·exact List.mem_cons_of_mem _ (mem_restP.1 (hL.1 q hq)).1
    ·rw [List.map_cons,List.nodup_cons]
     refine⟨λ hc=>?_,hL.2.1⟩
     obtain⟨q,hq,he⟩:=List.mem_map.1 hc
     exact (mem_restP.1 (hL.1 q hq)).2.1 he
    ·rw [List.map_cons,List.nodup_cons]
     refine⟨λ hc=>?_,hL.2.2⟩
     obtain⟨q,hq,he⟩:=List.mem_map.1 hc
     exact (mem_restP.1 (hL.1 q hq)).2.2 he
   have:=match_le_most hn hp hm
   simp only [List.length_cons] at this
   omega
  ·exact Nat.le_trans h (most_mono hn hp λ q hq=>List.mem_cons_of_mem _ hq)
where
 inj_of_nodup_map {β:Type} {f:Int×Int->β}:∀{L:List (Int×Int)},(L.map f).Nodup->∀{p q:Int×Int},p∈L->q∈L->f p=f q->p=q
  | [],_,_,_,h,_,_=>by cases h
  | a::L,hn,p,q,hp,hq,he=>by
   rw [List.map_cons,List.nodup_cons] at hn
   rcases List.mem_cons.1 hp with rfl | hp2
   ·rcases List.mem_cons.1 hq with rfl | hq2
    ·rfl
    ·exact (hn.1 (List.mem_map.2 ⟨q,hq2,he.symm⟩)).elim
   ·rcases List.mem_cons.1 hq with rfl | hq2
    ·exact (hn.1 (List.mem_map.2 ⟨p,hp2,he⟩)).elim
    ·exact inj_of_nodup_map hn.2 hp2 hq2 he
theorem matched_eq {la:List Int} (hn:la.Nodup):∀(n:Nat) (ps:List (Int×Int)) (one:Int) (taken:List Int),ps.Pairwise (λ p q=>p.1<=q.1)->(∀p,p∈ps->p.1∈la) ->
  matchedL n ps one taken=(if n<=most la (ps.filter (freeP one taken)) then proofL la n (ps.filter (freeP one taken)) else none)/\(n<=most la (ps.filter (freeP one taken))->(proofL la n (ps.filter (freeP one taken))).isSome=true)
 | 0,ps,one,taken,_,_=>by
  rw [if_pos (Nat.zero_le _)]
  have e1:matchedL 0 ps one taken=some []:=by rw [matchedL]
  rw [e1]
  exact⟨by rw [proofL],λ _=>by rw [proofL];rfl⟩
 | n+1,[],one,taken,_,_=>by
  rw [List.filter_nil,most_nil la hn,if_neg (by omega)]
  exact⟨matchedL_nil ..,λ h=>absurd h (by omega)⟩
 | n+1,p::r,one,taken,hs,hp=>by
  have hs':=List.pairwise_cons.1 hs
  have hr:∀q,q∈r->q.1∈la:=λ q hq=>hp q (List.mem_cons_of_mem _ hq)
  obtain⟨ih1,ih2⟩:=matched_eq hn (n+1) r one taken hs'.2 hr
  by_cases hf:freeP one taken p=true
  ·have hf':one<p.1/\p.2∉taken:=by unfold freeP at hf;simpa using hf
   obtain⟨jh1,jh2⟩:=matched_eq hn n r p.1 (taken++[p.2]) hs'.2 hr
   rw [free_rest hs'.1 hf'.1] at jh1 jh2
   rw [List.filter_cons,if_pos hf]
   have hF:∀q,q∈p::r.filter (freeP one taken)->q.1∈la:=λ q hq=>by
    rcases List.mem_cons.1 hq with rfl | hq
    ·exact hp _ (List.mem_cons_self ..)
    ·exact hr q (List.mem_filter.1 hq).1
   have hpick:=most_pick hn hF n
   rw [matchedL_cons,if_neg (λ h=>h.elim (λ h=>by omega) hf'.2),jh1]
   by_cases h1:n<=most la (restP p (r.filter (freeP one taken)))
   ·obtain⟨L,hL⟩:=Option.isSome_iff_exists.1 (jh2 h1)
    rw [if_pos h1,hL,if_pos (hpick.2 (.inl h1)),proofL,pickP,if_pos h1]
    simp only [hL,Option.map_some,Option.isSome_some,implies_true,and_self]
   ·rw [if_neg h1]
    simp only
    have hiff:n+1<=most la (p::r.filter (freeP one taken))↔n+1<=most la (r.filter (freeP one taken)):=hpick.trans ⟨λ h=>h.resolve_left h1,.inr⟩
    have hpr:proofL la (n+1) (p::r.filter (freeP one taken))=proofL la (n+1) (r.filter (freeP one taken)):=by
     rw [proofL,pickP,if_neg h1,proofL]
    rw [ih1,hpr]
    refine⟨?_,λ h=>ih2 (hiff.1 h)⟩
    by_cases h2:n+1<=most la (r.filter (freeP one taken))
    ·rw [if_pos h2,if_pos (hiff.2 h2)]
    ·rw [if_neg h2,if_neg λ h=>h2 (hiff.1 h)]
  ·have hf':p.1<=one\/p.2∈taken:=by
    by_cases h:p.1<=one
    ·exact .inl h
    ·by_cases h2:p.2∈taken
     ·exact .inr h2
     ·exact (hf (by unfold freeP;simp [h2];omega)).elim
   rw [List.filter_cons,if_neg hf,matchedL_cons,if_pos hf']
   exact⟨ih1,ih2⟩
theorem View.le.frz2 {T:Type} {σ σ':View T} (h:σ.le σ'):σ.frz.lg σ'.frz:=⟨h.imm,⟨[],rfl⟩,h.tok⟩
theorem View.le.frz1 {T:Type} {σ σ':View T} (h:σ.le σ'):σ.frz.lg σ':=frz_self.trans h.lg
def LstV {T:Type} (σ:View T) (v:Value) (l:List Int):Prop:=∃a c,v=.slice a l.length c/\Ints σ.frz a l.length l
theorem LstV.le {T:Type} {σ σ':View T} {v:Value} {l:List Int} (h:LstV σ v l) (k:σ.le σ'):LstV σ' v l:=let ⟨a,c,e,h⟩:=h;⟨a,c,e,h.lg k.frz2⟩
end Go.TM
namespace Go.Proofs
open Go.TM
set_option maxRecDepth 100000
variable {T:Type} {S:TM.Sys Tryz.prog T} {σ:View T}
attribute [local irreducible] CallsV YieldV rngX
section
variable (h:TH) (t:Tbl) (ht:TabV σ.frz h t) (hf:t.flaw=0)
include ht hf
end
section
variable {a a':Option Addr} {cap cap':Nat} {l m:List Int} (hl:Ints σ.frz a l.length l) (hm:Ints σ.frz a' m.length m) (h1:l.length<=1000) (h2:m.length<=1000)
include hl hm h1 h2
theorem Tryz.sameL_ok:CallsV S 33 #[.slice a l.length cap,.slice a' m.length cap'] (λ v σ'=>v=.bool (decide (l=m))/\σ'=σ) σ:=by
 have _:=h2
 exact Tryz.same_ok a a' _ cap _ cap' _ _ (hl.lg frz_self) (hm.lg frz_self) (by omega)
theorem Tryz.sameT_ok (hw:l=m):CallsV S 33 #[.slice a l.length cap,.slice a' m.length cap'] (λ v σ'=>v=.bool true/\σ'=σ) σ:=by
 have k:=Tryz.sameL_ok (S:=S) (cap:=cap) (cap':=cap') hl hm h1 h2
 rw [decide_eq_true hw] at k
 exact k
end
end Go.Proofs
namespace Go.TM
section
variable {T:Type} {σ σ':View T}
theorem LstV.at {a:Option Addr} {n c:Nat} {l:List Int} (h:LstV σ (.slice a n c) l):Ints σ.frz a l.length l:=by
 obtain⟨_,_,e,h⟩:=h
 cases e;exact h
def MovV (σ:View T) (v:Value) (l m:List Int):Prop:=∃v1 v2,v=.tuple #[v1,v2,.int .i64 0]/\LstV σ v1 l/\LstV σ v2 m
theorem MovV.le {v:Value} {l m:List Int} (h:MovV σ v l m) (k:σ.le σ'):MovV σ' v l m:=let ⟨v1,v2,e,h1,h2⟩:=h;⟨v1,v2,e,h1.le k,h2.le k⟩
theorem MovV.at {a a':Option Addr} {n c n' c':Nat} {x:Value} {l m:List Int} (h:MovV σ (.tuple #[.slice a n c,.slice a' n' c',x]) l m):Ints σ.frz a l.length l/\Ints σ.frz a' m.length m:=by
 obtain⟨v1,v2,e,h1,h2⟩:=h
 simp at e
 obtain⟨rfl,rfl,-⟩:=e
 exact⟨h1.at,h2.at⟩
def OneV (σ:View T) (v:Value) (l:List Int):Prop:=∃v1,v=.tuple #[v1,.int .i64 0]/\LstV σ v1 l
theorem OneV.le {v:Value} {l:List Int} (h:OneV σ v l) (k:σ.le σ'):OneV σ' v l:=let ⟨v1,e,h1⟩:=h;⟨v1,e,h1.le k⟩
theorem OneV.at {a:Option Addr} {n c:Nat} {x:Value} {l:List Int} (h:OneV σ (.tuple #[.slice a n c,x]) l):Ints σ.frz a l.length l:=by
 obtain⟨v1,e,h1⟩:=h
 simp at e
 obtain⟨rfl,-⟩:=e
 exact h1.at
end
theorem CutsV.one {T:Type} {σ:View T} {b:Nat} {a:Option Addr} {cap:Nat} {l:List Int} {keep:Bool} (hb:Blk σ b #[.slice a l.length cap,.bool keep]) (h:Ints σ a l.length l) (k:l.length<2 ^ 60):CutsV σ (some ⟨b,0,none⟩) 1 [⟨l,keep⟩]:=by
 refine⟨rfl,λ i x hx=>?_⟩
 obtain rfl:i=0:=by have:=(List.getElem?_eq_some_iff.1 hx).1;simp at this;omega
 cases hx
 refine⟨_,_,rfl,rfl,⟨a,l.length,cap,rfl,h,k⟩,rfl,λ i v hv=>?_⟩
 match i,hv with
 | 0,hv=>simp at hv;subst hv;rw [Nat.zero_mul,add_none,add_none];exact hb.sees rfl
 | 1,hv=>simp at hv;subst hv;rw [Nat.zero_mul,add_none,add_none];exact hb.sees rfl
 | i+2,hv=>simp at hv
theorem Blk.frz {T:Type} {σ:View T} {b:Nat} {c:Array Value} (h:Blk σ b c):Blk σ.frz b c:=h
end Go.TM
namespace Go.TM
variable {T:Type} {σ:View T}
theorem subs_len:∀l:List Int,(subs l).length=2 ^ l.length
 | []=>rfl
 | x::r=>by
  have ih:=subs_len r
  have h1:0<2 ^ r.length:=Nat.pow_pos (by decide)
  rw [subs,List.length_cons,List.length_append,List.length_map,List.length_tail,ih,List.length_cons,Nat.pow_succ]
  omega
theorem ints_drop {a:Option Addr} {len cap i:Nat} {l:List Int} (h:Ints σ a len l) (hi:i<=len) (hc:len<=cap):Ints σ (if cap=i then a else a.map (·.add (i*1))) (len-i) (l.drop i):=by
 refine⟨by rw [List.length_drop,h.1],λ k x hx=>?_⟩
 rw [List.getElem?_drop] at hx
 obtain⟨ad,rfl,hsp,hv⟩:=h.2 _ x hx
 have hlt:i+k<len:=by have:=(List.getElem?_eq_some_iff.1 hx).1;rw [h.1] at this;exact this
 rw [if_neg (by omega)]
 refine⟨ad.add (i*1),rfl,?_,?_⟩
 ·obtain⟨b,o,s⟩:=ad
  cases hsp
  rw [add_none]
 ·rw [add_add _ hsp,<- Nat.add_mul];exact hv
theorem EncL.nil_one (σ:View T):EncL σ [Value.slice none 0 0] [[]]:=⟨rfl,λ i l hl=>by
 cases i with
 | zero=>simp at hl;subst hl;exact⟨none,0,rfl,⟨rfl,λ i x hx=>by simp at hx⟩,by simp⟩
 | succ i=>simp at hl⟩
end Go.TM
namespace Go.Proofs
open Go.TM
set_option maxRecDepth 100000
variable {T:Type} {S:TM.Sys Tryz.prog T} {σ:View T}
attribute [local irreducible] CallsV YieldV rngX
theorem Tryz.sl30:SlT Tryz.prog 30 27 1:=.of (by kernel_rfl)
set_option maxHeartbeats 1000000 in
theorem Tryz.subs_ok:∀(n:Nat) (l:List Int) (a:Option Addr) (len cap:Nat) (σ:View T),l.length<n->Ints σ.frz a len l->len<=cap->l.length<=8 ->
  CallsV S 99 #[.slice a len cap] (λ v σ'=>(∃a' c,v=.slice a' (subs l).length c/\ListsV σ'.frz a' (subs l).length (subs l))/\σ.le σ') σ:=by
 intro n
 induction n with
 | zero=>exact λ l a len cap σ h=>absurd h (Nat.not_lt_zero _)
 | succ n ih=>
 intro l a len cap σ hn hl hcap h8
 refine CallsV.sep (R:=λ v σ'=>∃cs,Acc 27 1 v cs σ'.M σ.M/\EncL σ' cs (subs l)/\(∀x o,σ.I x=some o->σ'.I x=some o)/\σ'.tok=σ.tok) (CallsV.of (args:=[_]) Tryz.k99 Tryz.mixed (by simp) ?_) ?_
 rotate_left
 ·rintro v σ' hs ⟨cs,ha,he,hI,htk⟩
  obtain⟨σ'',k1,k2,a',len',cap',rfl,hl',hsrc,hsp,_⟩:=Acc.freeze (σ:={ σ' with M:=σ.M }) hs ha (λ _ _ h=>h) rfl
  have e1:len'=(subs l).length:=by rw [<- he.1];omega
  subst e1
  have hz:σ'.frz.lg σ''.frz:=⟨k2.imm,⟨[],rfl⟩,k2.tok⟩
  exact⟨σ'',k1,⟨a',cap',rfl,(he.lg hz).lists hsrc hsp⟩,⟨λ x o h=>k2.imm x o (hI x o h),k2.own,k2.tok.trans htk⟩⟩
 have hll:=hl.1
 have hsl:=subs_len l
 have h256:(2:Nat) ^ l.length<=2 ^ 8:=Nat.pow_le_pow_right (by decide) h8
 conv=>whnf
 intro b7 hf7
 refine⟨_,.refl _,?_⟩
 refine⟨Nat×Value×List Value×List (List Int),λ y=>[(0,.slice a len cap),(3,y.2.1),(4,.int .i64 y.1)],
  λ y σ'=>(∀x o,σ.I x=some o->σ'.I x=some o)/\σ'.tok=σ.tok/\Acc 27 1 y.2.1 y.2.2.1 σ'.M σ.M/\EncL σ' y.2.2.1 y.2.2.2/\y.2.2.2++(subs (l.drop y.1)).tail=subs l/\y.1<=len,
  λ y=>len-y.1,(0,.slice (some ⟨b7,0,none⟩) 1 1,[.slice none 0 0],[[]]),⟨rfl,rfl,rfl,trivial⟩,⟨λ _ _ h=>h,rfl,.inr ⟨b7,#[.slice none 0 0],1,1,rfl,rfl,Nat.le_refl _,rfl,rfl,λ i x h=>by simpa using h⟩,.nil_one _,?_,Nat.zero_le _⟩,?_⟩
 ·obtain⟨q,hq⟩:=subs_cons l
  simp only [List.drop_zero]
  rw [hq];rfl
 rintro⟨i,v,cs,ls⟩ f σ2 ⟨hI,htk,ha,he,hls,hi⟩
 simp only at ha he hls hi
 have hz_2:σ.frz.lg σ2.frz:=⟨hI,⟨[],rfl⟩,htk⟩
 have hz2':σ.frz.lg σ2:=⟨hI,⟨_,(List.append_nil _).symm⟩,htk⟩
 obtain⟨va,vl,vc,rfl,-,-⟩:=Acc.src (σ:=σ2) ha
 have hlsl:ls.length<=256:=by
  have:=congrArg List.length hls
  rw [List.length_append,hsl] at this
  omega
 repeat refine⟨rfl,?_⟩
 conv=>whnf
 apply cb_split<;>intro hc
 ·have hlt:i<len:=by simpa using hc
  obtain⟨-,x,hx,-⟩:=hl.at hlt
  have hin:InR ((i:Int)+1):=by unfold InR;omega
  have hdrop:=drop_at hx
  have hr8:(l.drop (i+1)).length<l.length:=by rw [List.length_drop];omega
  have hdr:=ints_drop (i:=i+1) (hl.lg hz_2) (by omega) hcap
  refine⟨hin,?_⟩
  refine⟨i+1,len,⟨rfl,rfl,by omega,by omega⟩,?_⟩
  generalize (if cap=i+1 then a else a.map (·.add ((i+1)*1)))=da at hdr ⊢
  generalize hr:l.drop (i+1)=r at hdr hr8 hdrop
  have hrsl:=subs_len r
  have hr256:(2:Nat) ^ r.length<=2 ^ 8:=Nat.pow_le_pow_right (by decide) (by omega)
  refine⟨Tryz.k99.any,(ih r da (len-(i+1)) (cap-(i+1)) σ2 (by omega) hdr (by omega) (by omega)).mono ?_⟩
  rintro _ σ3 ⟨⟨ra,rc,rfl,hrl⟩,h_3⟩ -
  refine⟨Nat×Value×List Value×List (List Int),λ y=>[(0,.slice a len cap),(3,y.2.1),(4,.int .i64 i),(5,.slice ra (subs r).length rc),(6,.int .i64 y.1)],
   λ y σ'=>(∀x o,σ3.I x=some o->σ'.I x=some o)/\σ'.tok=σ.tok/\Acc 27 1 y.2.1 y.2.2.1 σ'.M σ.M/\EncL σ' y.2.2.1 y.2.2.2/\y.2.2.2=ls++((subs r).take y.1).map (x::·)/\y.1<=(subs r).length,
   λ y=>(subs r).length-y.1,(0,.slice va vl vc,cs,ls),⟨rfl,rfl,rfl,rfl,rfl,trivial⟩,⟨λ _ _ h=>h,h_3.tok.trans htk,by rw [h_3.own];exact ha,he.lg ⟨h_3.imm,⟨[],rfl⟩,h_3.tok⟩,by simp,Nat.zero_le _⟩,?_⟩
  rintro⟨k,v_3,cs3,ls3⟩ f σ4 ⟨hI4,ht4,ha4,he4,hls4,hk⟩
  simp only at ha4 he4 hls4 hk
  have hz3:σ3.frz.lg σ4:=⟨hI4,⟨_,(List.append_nil _).symm⟩,ht4.trans (h_3.tok.trans htk).symm⟩
  have hz4:σ.frz.lg σ4:=⟨λ y o h=>hI4 y o (h_3.imm y o (hI y o h)),⟨_,(List.append_nil _).symm⟩,ht4⟩
  obtain⟨ta,tl,tc,rfl,-,-⟩:=Acc.src (σ:=σ4) ha4
  have hcl4:cs3.length<=512:=by
   rw [he4.1,hls4,List.length_append,List.length_map,List.length_take,hrsl]
   omega
  repeat refine⟨rfl,?_⟩
  conv=>whnf
  apply cb_split<;>intro hc
  ·have hkl:k<(subs r).length:=by simpa using hc
   have hkn:InR ((k:Int)+1):=by unfold InR;omega
   obtain⟨ad,x',hx',hae,-,hsx⟩:=(hl.lg hz4).at hlt
   obtain rfl:x=x':=by rw [hx] at hx';cases hx';rfl
   obtain⟨ad2,q,vs2,hq,hqa,hsp2,⟨qa,qn,qc,rfl,hqi,hqn⟩,-,hrd⟩:=RowsV.at (hrl.lg hz3) hkl
   have hql:=hqi.1
   have hqs:q.Sublist r:=mem_subs.1 (List.mem_of_getElem? hq)
   have hq8:q.length<=8:=by have:=hqs.length_le;omega
   have hrd0:=hrd 0 _ rfl
   have htake:ls3++[x::q]=ls++((subs r).take (k+1)).map (x::·):=by rw [hls4,take_at hq,List.map_append,List.append_assoc];rfl
   refine⟨ad,i,⟨hae,rfl,hlt⟩,?_⟩
   refine⟨_,hsx,?_⟩
   refine⟨ad2,k,⟨hqa,rfl,hkl⟩,?_⟩
   refine⟨_,hrd0,?_⟩
   refine⟨λ v σ'=>∃bb,v=.slice (some ⟨bb,0,none⟩) 1 1/\Blk σ' bb #[.int .i64 x],λ v σ1 σ2 ⟨bb,e,hbb⟩ hle=>⟨bb,e,hbb.le hle⟩,λ σ' hle _=>?_,λ v hv=>?_⟩
   ·conv=>whnf
    intro b30 hf30
    exact put_new hf30 λ σ5 h_5 hb_5=>⟨σ5,.refl _,⟨b30,rfl,hb_5⟩,h_5⟩
   obtain⟨_,-,-,b30,rfl,-⟩:=hv
   refine⟨λ v σ'=>LstV σ' v (x::q),λ v σ1 σ2 hv hle=>hv.le hle,λ σ' hle hC=>?_,λ v hv=>?_⟩
   ·obtain⟨-,bb,e,hbb⟩:=hC
    cases e
    conv=>whnf
    refine raw_appF (cs:=[.int .i64 x]) (new:=q.map λ n=>.int .i64 n) Tryz.sl27 rfl rfl (.inr ⟨_,rfl,hbb.reads (λ k v hv=>by simpa using hv)⟩) rfl (Ints.src (hqi.lg hle.lg)) (by rw [List.length_map,hql,Nat.mul_one]) (by simp only [List.length_map,List.length_cons,List.length_nil];omega) (λ h0=>?_) (λ _ b35 c35 cap35 hf35 hle35 hsz hcc=>?_)
    ·have hq0:q=[]:=by simpa using h0
     subst hq0
     exact⟨σ',.refl _,⟨_,_,rfl,hbb.frz.ints λ i y hy=>by
      cases i with
      | zero=>simp at hy;subst hy;rfl
      | succ i=>simp at hy⟩,.refl _⟩
    ·refine put_new hf35 λ σ5 h_5 hb_5=>⟨⟨some ⟨b35,0,none⟩,cap35,by rw [show (x::q).length=1+qn by simp;omega],hb_5.frz.ints λ i y hy=>hcc i _ ?_⟩,h_5⟩
     cases i with
     | zero=>simp at hy;subst hy;rfl
     | succ i=>simp at hy ⊢;exact hy
   obtain⟨_,-,-,sa',sc',rfl,-⟩:=hv
   refine⟨λ v σ'=>∃bb,v=.slice (some ⟨bb,0,none⟩) 1 1/\Blk σ' bb #[.slice sa' (x::q).length sc'],λ v σ1 σ2 ⟨bb,e,hbb⟩ hle=>⟨bb,e,hbb.le hle⟩,λ σ' hle _=>?_,λ v hv=>?_⟩
   ·conv=>whnf
    intro b36 hf36
    exact put_new hf36 λ σ5 h_5 hb_5=>⟨σ5,.refl _,⟨b36,rfl,hb_5⟩,h_5⟩
   obtain⟨_,-,-,b36,rfl,-⟩:=hv
   conv=>whnf
   intro σ5 h_5 hC
   obtain⟨⟨⟨-,-⟩,hq2⟩,_,e3,hbb⟩:=hC
   cases e3
   have hq2:=hq2.at
   conv=>whnf
   refine raw_app (v:=.slice ta tl tc) (cs:=cs3) (new:=[.slice sa' (x::q).length sc']) (M₀:=σ.M) Tryz.sl30 rfl rfl (by rw [h_5.own];exact ha4) (.inr ⟨_,rfl,hbb.reads (λ k v hv=>by simpa using hv)⟩) rfl (by simp [Value.single]) (by simp only [List.length_cons,List.length_nil];omega) λ v' M' ha' _=>?_
   obtain⟨ua,ul,uc,rfl,-,-⟩:=Acc.src (σ:={ σ5 with M:=M' }) ha'
   refine⟨hkn,?_⟩
   conv=>whnf
   exact⟨rfl,(k+1,.slice ua ul uc,cs3++[.slice sa' (x::q).length sc'],ls3++[x::q]),⟨rfl,rfl,rfl,rfl,rfl,trivial⟩,⟨λ y o h=>h_5.imm y o (hI4 y o h),h_5.tok.trans ht4,ha',EncL.snoc (σ:={ σ5 with M:=M' }) (he4.lg ⟨h_5.imm,⟨[],rfl⟩,h_5.tok⟩) hq2 (by simp only [List.length_cons];omega),htake,by simp only;omega⟩,by show _-_<_-_;omega⟩
  ·have hge:(subs r).length<=k:=by simpa using hc
   rw [List.take_of_length_le hge] at hls4
   have hnew:ls3++(subs (l.drop (i+1))).tail=subs l:=by
    rw [hr,hls4,<- hls,hdrop,subs,List.tail_cons,List.append_assoc]
   refine⟨hin,?_⟩
   conv=>whnf
   exact⟨rfl,(i+1,.slice ta tl tc,cs3,ls3),⟨rfl,rfl,rfl,trivial⟩,⟨λ y o h=>hI4 y o (h_3.imm y o (hI y o h)),ht4,ha4,he4,hnew,by simp only;omega⟩,by show _-_<_-_;omega⟩
 ·have hge:len<=i:=by simpa using hc
  have e0:l.drop i=[]:=List.drop_eq_nil_of_le (by omega)
  rw [e0] at hls
  have hls':ls=subs l:=by rw [<- hls];simp [subs]
  subst hls'
  repeat refine⟨rfl,?_⟩
  conv=>whnf
  exact⟨cs,ha,he,hI,htk⟩
end Go.Proofs
namespace Go.TM
variable {T:Type} {σ:View T}
theorem pairs_srcP {a:Option Addr} {n:Nat} {l:List (Int×Int)} (h:PairsV σ a n l):Src σ a (l.flatMap encII):=by
 cases a with
 | none=>
  left
  refine⟨rfl,?_⟩
  cases l with
  | nil=>rfl
  | cons x r=>obtain⟨ad,vs,e,_⟩:=h.2 0 x rfl;cases e
 | some ad=>
  right
  refine⟨ad,rfl,λ i v hv=>?_⟩
  obtain⟨k,x,hx,hk⟩:=flat_inv hv
  obtain⟨ad',vs,e,hsp,rfl,-,hr⟩:=h.2 k x hx
  cases e
  rcases hk with⟨rfl,rfl⟩ | ⟨rfl,rfl⟩
  ·have:=hr 0 _ rfl
   rw [add_add _ hsp] at this
   exact this
  ·have:=hr 1 _ rfl
   rw [add_add _ hsp] at this
   exact this
theorem matchedL_le:∀{n:Nat} {ps:List (Int×Int)} {one:Int} {taken:List Int} {L:List (Int×Int)},matchedL n ps one taken=some L->L.length<=n
 | 0,ps,one,taken,L,h=>by rw [matchedL] at h;cases h;exact Nat.le_refl _
 | n+1,[],one,taken,L,h=>by rw [matchedL_nil] at h;cases h
 | n+1,p::r,one,taken,L,h=>by
  rw [matchedL_cons] at h
  split at h
  ·exact matchedL_le h
  ·split at h
   ·rename_i L' hL'
    cases h
    have:=matchedL_le hL'
    rw [List.length_cons];omega
   ·exact matchedL_le h
def MatV (σ:View T) (v:Value) (o:Option (List (Int×Int))):Prop:=(∃L v1,o=some L/\v=.tuple #[v1,.bool true]/\PairsN σ.frz v1 L)\/(o=none/\v=.tuple #[.slice none 0 0,.bool false])
theorem MatV.le {σ':View T} {v:Value} {o:Option (List (Int×Int))} (h:MatV σ v o) (k:σ.le σ'):MatV σ' v o:=by
 rcases h with⟨L,v1,h1,h2,h3⟩ | h
 ·exact .inl ⟨L,v1,h1,h2,h3.lg k.frz2⟩
 ·exact .inr h
end Go.TM
namespace Go.Proofs
open Go.TM
set_option maxRecDepth 100000
def Tryz.la101_8:List (List (Nat×St)):=[[(0,⟨.mv (.tmp 0),some 37,none,none⟩),(0,⟨.mv (.tmp 10),some 38,none,none⟩),(0,⟨.add (.tmp 38) (.const (.int .i64 1)),some 39,none,none⟩),(0,⟨.sub3 2 (.tmp 37) (some (.tmp 39)) none,some 40,none,none⟩),(0,⟨.mv (.tmp 1),some 41,none,none⟩),(0,⟨.sub (.tmp 41) (.const (.int .i64 1)),some 42,none,none⟩),(0,⟨.off 0 (.tmp 11),some 43,none,none⟩),(0,⟨.ld (.tmp 43),some 44,none,none⟩),(0,⟨.mv (.tmp 3),some 46,none,none⟩),(0,⟨.off 1 (.tmp 11),some 48,none,none⟩),(0,⟨.ld (.tmp 48),some 49,none,none⟩),(2,⟨.bsl 3 0 #[] [],some 45,none,none⟩),(2,⟨.raw { dst:=none,op:=(.call { callee:=.builtin .append,args:=#[(.tmp 45),(.tmp 46)],argTypes:=#[27,27] }),type:=27,pos := "", after:=#[],guard:=none },some 47,none,none⟩),(2,⟨.bsl 3 1 #[(.int .i64 0)] [(0,1,(.tmp 49))],some 50,none,none⟩),(2,⟨.raw { dst:=none,op:=(.call { callee:=.builtin .append,args:=#[(.tmp 47),(.tmp 50)],argTypes:=#[27,27] }),type:=27,pos := "", after:=#[],guard:=none },some 51,none,none⟩),(2,⟨.call (.func 101) #[(.tmp 40),(.tmp 42),(.tmp 44),(.tmp 51)],some 52,none,none⟩),(0,⟨.mv (.tmp 52),some 36,none,none⟩),(0,⟨.ext (.tmp 36) 0,some 53,none,none⟩),(0,⟨.ext (.tmp 36) 1,some 54,none,none⟩),(0,⟨.mv (.tmp 53),some 12,none,none⟩)],
 [(0,⟨.mv (.tmp 0),some 37,none,none⟩),(0,⟨.mv (.tmp 10),some 38,none,none⟩),(0,⟨.add (.tmp 38) (.const (.int .i64 1)),some 39,none,none⟩),(0,⟨.sub3 2 (.tmp 37) (some (.tmp 39)) none,some 40,none,none⟩),(0,⟨.mv (.tmp 1),some 41,none,none⟩),(0,⟨.sub (.tmp 41) (.const (.int .i64 1)),some 42,none,none⟩),(0,⟨.off 0 (.tmp 11),some 43,none,none⟩),(0,⟨.ld (.tmp 43),some 44,none,none⟩),(0,⟨.mv (.tmp 3),some 46,none,none⟩),(0,⟨.off 1 (.tmp 11),some 48,none,none⟩),(0,⟨.ld (.tmp 48),some 49,none,none⟩),(2,⟨.bsl 3 0 #[] [],some 45,none,none⟩),(2,⟨.bsl 3 1 #[(.int .i64 0)] [(0,1,(.tmp 49))],some 50,none,none⟩),(2,⟨.raw { dst:=none,op:=(.call { callee:=.builtin .append,args:=#[(.tmp 45),(.tmp 46)],argTypes:=#[27,27] }),type:=27,pos := "", after:=#[],guard:=none },some 47,none,none⟩),(2,⟨.raw { dst:=none,op:=(.call { callee:=.builtin .append,args:=#[(.tmp 47),(.tmp 50)],argTypes:=#[27,27] }),type:=27,pos := "", after:=#[],guard:=none },some 51,none,none⟩),(2,⟨.call (.func 101) #[(.tmp 40),(.tmp 42),(.tmp 44),(.tmp 51)],some 52,none,none⟩),(0,⟨.mv (.tmp 52),some 36,none,none⟩),(0,⟨.ext (.tmp 36) 0,some 53,none,none⟩),(0,⟨.ext (.tmp 36) 1,some 54,none,none⟩),(0,⟨.mv (.tmp 53),some 12,none,none⟩)],
 [(0,⟨.mv (.tmp 0),some 37,none,none⟩),(0,⟨.mv (.tmp 10),some 38,none,none⟩),(0,⟨.add (.tmp 38) (.const (.int .i64 1)),some 39,none,none⟩),(0,⟨.sub3 2 (.tmp 37) (some (.tmp 39)) none,some 40,none,none⟩),(0,⟨.mv (.tmp 1),some 41,none,none⟩),(0,⟨.sub (.tmp 41) (.const (.int .i64 1)),some 42,none,none⟩),(0,⟨.off 0 (.tmp 11),some 43,none,none⟩),(0,⟨.ld (.tmp 43),some 44,none,none⟩),(0,⟨.mv (.tmp 3),some 46,none,none⟩),(0,⟨.off 1 (.tmp 11),some 48,none,none⟩),(0,⟨.ld (.tmp 48),some 49,none,none⟩),(2,⟨.bsl 3 1 #[(.int .i64 0)] [(0,1,(.tmp 49))],some 50,none,none⟩),(2,⟨.bsl 3 0 #[] [],some 45,none,none⟩),(2,⟨.raw { dst:=none,op:=(.call { callee:=.builtin .append,args:=#[(.tmp 45),(.tmp 46)],argTypes:=#[27,27] }),type:=27,pos := "", after:=#[],guard:=none },some 47,none,none⟩),(2,⟨.raw { dst:=none,op:=(.call { callee:=.builtin .append,args:=#[(.tmp 47),(.tmp 50)],argTypes:=#[27,27] }),type:=27,pos := "", after:=#[],guard:=none },some 51,none,none⟩),(2,⟨.call (.func 101) #[(.tmp 40),(.tmp 42),(.tmp 44),(.tmp 51)],some 52,none,none⟩),(0,⟨.mv (.tmp 52),some 36,none,none⟩),(0,⟨.ext (.tmp 36) 0,some 53,none,none⟩),(0,⟨.ext (.tmp 36) 1,some 54,none,none⟩),(0,⟨.mv (.tmp 53),some 12,none,none⟩)]]
def Tryz.lt101_8:List St:=[⟨.mv (.tmp 54),some 13,none,none⟩]
variable {T:Type} {S:TM.Sys Tryz.prog T} {σ:View T}
attribute [local irreducible] CallsV YieldV rngX
set_option maxHeartbeats 4000000 in
theorem Tryz.matched_ok:∀(m:Nat) (ps:List (Int×Int)) (one:Int) (taken:List Int) (pa:Option Addr) (pl pc:Nat) (ta:Option Addr) (tl tc:Nat) (σ:View T),PairsV σ.frz pa pl ps->pl<=pc->ps.length<=1000->Ints σ.frz ta tl taken->taken.length+m<=1000 ->
  CallsV S 101 #[.slice pa pl pc,.int .i64 m,.int .i64 one,.slice ta tl tc] (λ v σ'=>MatV σ' v (matchedL m ps one taken)/\σ.le σ') σ:=by
 intro m
 induction m with
 | zero=>
  intro ps one taken pa pl pc ta tl tc σ _ _ _ _ _
  refine CallsV.of (args:=[_,_,_,_]) Tryz.k101 Tryz.mixed (by simp) ?_
  repeat refine⟨rfl,?_⟩
  conv=>whnf
  have e1:matchedL 0 ps one taken=some []:=by rw [matchedL]
  rw [e1]
  exact⟨.inl ⟨[],_,rfl,rfl,.nil⟩,.refl _⟩
 | succ m ih=>
 intro ps one taken pa pl pc ta tl tc σ hps hplc hpl htk htm
 refine CallsV.sep (R:=λ v σ'=>(∃L v1,matchedL (m+1) ps one taken=some L/\v=.tuple #[v1,.bool true]/\Acc 80 2 v1 (L.flatMap encII) σ'.M σ.M/\(∀x o,σ.I x=some o->σ'.I x=some o)/\σ'.tok=σ.tok)\/(matchedL (m+1) ps one taken=none/\v=.tuple #[.slice none 0 0,.bool false]/\σ.le σ')) (CallsV.of (args:=[_,_,_,_]) Tryz.k101 Tryz.mixed (by simp) ?_) ?_
 rotate_left
 ·rintro v σ' hs (⟨L,v1,hm,rfl,ha,hI,ht⟩ | ⟨hm,rfl,hle⟩)
  ·obtain⟨σ'',k1,k2,k3⟩:=ha.pairsN (σ:=σ) hs hI ht
   exact⟨σ'',k1,.inl ⟨L,v1,hm,rfl,k3⟩,k2⟩
  ·exact⟨σ',.refl _,.inr ⟨hm,rfl⟩,hle⟩
 have hpp:=hps.1
 have htl:=htk.1
 have hm1:InR (((m+1:Nat):Int)-1):=by unfold InR;omega
 repeat refine⟨rfl,?_⟩
 conv=>whnf
 rw [show (((m+1:Nat):Int) == 0)=false by rw [beq_eq_false_iff_ne];omega]
 refine⟨Nat,λ i=>[(0,.slice pa pl pc),(1,.int .i64 ((m+1:Nat):Int)),(2,.int .i64 one),(3,.slice ta tl tc),(10,.int .i64 i)],λ i σ'=>σ.le σ'/\i<=pl/\matchedL (m+1) ps one taken=matchedL (m+1) (ps.drop i) one taken,λ i=>pl-i,0,⟨rfl,rfl,rfl,rfl,rfl,trivial⟩,⟨.refl _,Nat.zero_le _,rfl⟩,?_⟩
 rintro i f σ1 ⟨hle1,hi,hinv⟩
 repeat refine⟨rfl,?_⟩
 conv=>whnf
 apply cb_split<;>intro hc
 ·have hlt:i<pl:=by simpa using hc
  have hin:InR ((i:Int)+1):=by unfold InR;omega
  obtain⟨ad,p,vs,hx,hpa,hsp,rfl,-,hrd⟩:=RowsV.at (PairsV.lg hps hle1.frz2) hlt
  obtain⟨p1,p2⟩:=p
  rw [drop_at hx,matchedL_cons] at hinv
  refine⟨ad,i,⟨hpa,rfl,hlt⟩,?_⟩
  refine⟨_,⟨rfl,hrd.lg frz_self⟩,?_⟩
  conv=>whnf
  intro b11 hf11
  refine⟨_,.refl _,?_⟩
  refine⟨rfl,st_new (vs:=encII (p1,p2)) hf11 rfl (by simp [encII,Value.single]) λ σa ha1 hb11=>?_⟩
  have hb11:Blk σa b11 #[.int .i64 p1,.int .i64 p2]:=hb11
  have hle:=hle1.trans ha1
  have htk:=htk.lg hle.frz2
  refine⟨_,hb11.sees3 (o:=0) rfl,?_⟩
  repeat refine⟨rfl,?_⟩
  conv=>whnf
  by_cases h1:p1<=one
  ·rw [decide_eq_true h1]
   rw [if_pos (.inl h1)] at hinv
   refine⟨hin,?_⟩
   conv=>whnf
   exact⟨rfl,i+1,⟨rfl,rfl,rfl,rfl,rfl,trivial⟩,⟨hle,by omega,hinv⟩,by show _-_<_-_;omega⟩
  rw [decide_eq_false h1]
  refine⟨_,hb11.sees3 (o:=1) rfl,?_⟩
  refine⟨Tryz.k53.any,(Tryz.hasInt_ok ta tl tc taken (htk.lg frz_self) (by omega) p2).go λ _=>?_⟩
  by_cases h2:p2∈taken
  ·rw [show taken.contains p2=true by simpa using h2]
   rw [if_pos (.inr h2)] at hinv
   refine⟨hin,?_⟩
   conv=>whnf
   exact⟨rfl,i+1,⟨rfl,rfl,rfl,rfl,rfl,trivial⟩,⟨hle,by omega,hinv⟩,by show _-_<_-_;omega⟩
  rw [show taken.contains p2=false by simpa using h2]
  rw [if_neg (by rintro (h | h);exact h1 h;exact h2 h)] at hinv
  simp only at hinv
  have hdr:=rows_drop (i:=i+1) (PairsV.lg hps hle.frz2) (by omega) hplc
  conv=>whnf
  intro ac hfr0
  refine cv_altsX (mu:=[]) (ops:=rgOps Tryz.f101 8) (id:=8) hfr0 [8,10,13,14,15] [[0,1,2,3,4,5,6,7,9,11,12,8,10,13,14,15,16,17,18,19],[0,1,2,3,4,5,6,7,9,11,12,8,13,10,14,15,16,17,18,19],[0,1,2,3,4,5,6,7,9,11,12,13,8,10,14,15,16,17,18,19]] [20] Tryz.la101_8 Tryz.lt101_8 Tryz.mixed (by kernel_rfl) (by kernel_rfl) (by kernel_rfl) (by kernel_rfl) (by kernel_rfl)
   (λ f' ds' σ'=>ds'=[]/\∃(qa:Option Addr) (ql qc:Nat) (g:Bool),AllEq f' [(0,.slice pa pl pc),(1,.int .i64 ((m+1:Nat):Int)),(2,.int .i64 one),(3,.slice ta tl tc),(10,.int .i64 i),(11,.pointer (some ⟨b11,0,none⟩)),(12,.slice qa ql qc),(54,.bool g)]/\σa.le σ' /\
    ((∃L,matchedL m (ps.drop (i+1)) p1 (taken++[p2])=some L/\g=true/\PairsN σ'.frz (.slice qa ql qc) L)\/(matchedL m (ps.drop (i+1)) p1 (taken++[p2])=none/\g=false))) ?_ ?_
  ·intro l hl
   simp only [Tryz.la101_8,List.mem_cons,List.not_mem_nil,or_false] at hl
   rcases hl with rfl | rfl | rfl
   ·skip
    refine⟨hin,?_⟩
    refine⟨i+1,pl,⟨rfl,rfl,by omega,by omega⟩,?_⟩
    generalize hdae:(if pc=i+1 then pa else pa.map (·.add ((i+1)*2)))=da at hdr ⊢
    refine⟨hm1,?_⟩
    rw [show ((m+1:Nat):Int)-1=(m:Int) by omega]
    refine⟨_,hb11.frz.sees3 (o:=0) rfl,?_⟩
    refine⟨_,hb11.frz.sees3 (o:=1) rfl,?_⟩
    refine⟨λ v σ'=>∃b8,v=.slice (some ⟨b8,0,none⟩) 0 0/\Hld σa b8 3 #[] σ',λ v σ1 σ2 h k=>?_,λ v σ' h=>?_,λ σ' hC=>?_,λ v hv=>?_⟩
    ·obtain⟨b8,e,h1⟩:=h
     exact⟨b8,e,h1.le k⟩
    ·obtain⟨b8,e,h1⟩:=h
     exact h1.frz1
    ·have hle:=hC
     conv=>whnf
     intro b8 hf8
     exact⟨_,.refl _,_,.refl _,b8,rfl,.made hle hf8⟩
    obtain⟨_,b8,rfl,-⟩:=hv
    refine⟨λ v σ'=>Acc 3 1 v (taken.map λ n=>.int .i64 n) σ'.M σa.M/\(∀y o,σa.I y=some o->σ'.I y=some o)/\σ'.tok=σa.tok,λ v σ1 σ2 h k=>⟨by rw [k.own];exact h.1,λ y o i=>k.imm y o (h.2.1 y o i),k.tok.trans h.2.2⟩,λ v σ' h=>⟨h.2.1,⟨_,(List.append_nil _).symm⟩,h.2.2⟩,λ σ' hC=>?_,λ v hv=>?_⟩
    ·obtain⟨b8',e,hH⟩:=hC
     cases e
     conv=>whnf
     refine raw_app (v:=.slice (some ⟨b8,0,none⟩) 0 0) (cs:=[]) (new:=(taken.map λ n=>.int .i64 n)) (M₀:=σa.M) Tryz.sl27 rfl rfl (by rw [hH.own];exact .empty) (Ints.src (htk.lg hH.frz1)) (by rw [List.length_map,htl];omega) (by simp [Value.single]) (by simp only [List.length_map,List.length_nil];omega) λ v' M' ha' _=>?_
     exact⟨_,.refl _,by simpa using ha',hH.imm,hH.tok⟩
    obtain⟨σ₀,hv,-⟩:=hv
    obtain⟨ta',tc',rfl,-⟩:=src_ints (σ:=σ₀) hv
    clear hv
    refine⟨λ v σ'=>∃b13,v=.slice (some ⟨b13,0,none⟩) 1 1/\Blk σ' b13 #[.int .i64 p2]/\Acc 3 1 (.slice ta' taken.length tc') (taken.map λ n=>.int .i64 n) σ'.M σa.M/\(∀y o,σa.I y=some o->σ'.I y=some o)/\σ'.tok=σa.tok,λ v σ1 σ2 ⟨b13,e,hX,h⟩ k=>⟨b13,e,hX.le k,⟨by rw [k.own];exact h.1,λ y o i=>k.imm y o (h.2.1 y o i),k.tok.trans h.2.2⟩⟩,λ v σ' ⟨b13,e,hX,h⟩=>⟨h.2.1,⟨_,(List.append_nil _).symm⟩,h.2.2⟩,λ σ' hC=>?_,λ v hv=>?_⟩
    ·have h:=hC
     conv=>whnf
     intro b13 hf13
     exact put_new hf13 λ σ2 k hb=>⟨σ2,.refl _,b13,rfl,hb,⟨by rw [k.own];exact h.1,λ y o i=>k.imm y o (h.2.1 y o i),k.tok.trans h.2.2⟩⟩
    obtain⟨_,b13,rfl,-⟩:=hv
    refine⟨λ v σ'=>Acc 3 1 v ((taken++[p2]).map λ n=>.int .i64 n) σ'.M σa.M/\(∀y o,σa.I y=some o->σ'.I y=some o)/\σ'.tok=σa.tok,λ v σ1 σ2 h k=>⟨by rw [k.own];exact h.1,λ y o i=>k.imm y o (h.2.1 y o i),k.tok.trans h.2.2⟩,λ v σ' h=>⟨h.2.1,⟨_,(List.append_nil _).symm⟩,h.2.2⟩,λ σ' hC=>?_,λ v hv=>?_⟩
    ·obtain⟨b13',e,hX,ha,hI,ht⟩:=hC
     cases e
     conv=>whnf
     refine raw_app (v:=.slice ta' taken.length tc') (cs:=(taken.map λ n=>.int .i64 n)) (new:=[.int .i64 p2]) (M₀:=σa.M) Tryz.sl27 rfl rfl ha (.inr ⟨_,rfl,hX.reads (λ k v hv=>by simpa using hv)⟩) rfl (by simp [Value.single]) (by simp only [List.length_map,List.length_cons,List.length_nil];omega) λ v' M' ha' _=>?_
     exact⟨_,.refl _,by simpa using ha',hI,ht⟩
    obtain⟨σ₀,hv,-⟩:=hv
    obtain⟨ua,uc,rfl,-⟩:=src_ints (σ:=σ₀) hv
    clear hv
    refine⟨λ v σ'=>σa.le σ'/\MatV σ' v (matchedL m (ps.drop (i+1)) p1 (taken++[p2])),λ v σ1 σ2 h k=>⟨h.1.trans k,h.2.le k⟩,λ v σ' h=>h.1.frz1,λ σ' hC=>?_,λ v hv=>?_⟩
    ·obtain⟨ha,hI,ht⟩:=hC
     refine⟨Tryz.k101.any,CallsV.sep0 λ hsep=>?_⟩
     obtain⟨σ7,k1,k2,na,nlen,nc,e3,hnl,hns,hnsp,-⟩:=Acc.freeze (σ:={ σ' with M:=σa.M }) hsep ha (λ _ _ h=>h) rfl
     cases e3
     have hni:Ints σ7.frz ua (taken++[p2]).length (taken++[p2]):=ints_src hns hnsp
     have hz:σa.frz.lg σ7.frz:=⟨λ y o h=>k2.imm y o (hI y o h),⟨[],rfl⟩,k2.tok.trans ht⟩
     refine CallsV.shift k1 ((ih (ps.drop (i+1)) p1 (taken++[p2]) da (pl-(i+1)) (pc-(i+1)) ua (taken++[p2]).length uc σ7 (PairsV.lg hdr hz) (by omega) (by rw [List.length_drop];omega) hni (by rw [List.length_append,List.length_singleton];omega)).mono ?_)
     rintro v σ8 ⟨hv,h_8⟩ -
     exact⟨σ8,.refl _,⟨λ y o h=>h_8.imm y o (k2.imm y o (hI y o h)),h_8.own.trans k2.own,h_8.tok.trans (k2.tok.trans ht)⟩,hv⟩
    obtain⟨σ₀,-,hv⟩:=hv
    rcases hv with⟨L,v1,hm,rfl,hL⟩ | ⟨hm,rfl⟩
    ·obtain⟨qa,qc,rfl,-,-⟩:=hL
     conv=>whnf
     rintro σ' ⟨hle,hv⟩
     refine⟨rfl,qa,_,qc,true,⟨rfl,rfl,rfl,rfl,rfl,rfl,rfl,rfl,trivial⟩,hle,.inl ⟨L,hm,rfl,?_⟩⟩
     rcases hv with⟨L',v1,hm',e,hL⟩ | ⟨hm',e⟩
     ·rw [hm] at hm';cases hm';cases e;exact hL
     ·rw [hm] at hm';cases hm'
    ·conv=>whnf
     rintro σ' ⟨hle,hv⟩
     exact⟨rfl,none,0,0,false,⟨rfl,rfl,rfl,rfl,rfl,rfl,rfl,rfl,trivial⟩,hle,.inr ⟨hm,rfl⟩⟩
   ·skip
    refine⟨hin,?_⟩
    refine⟨i+1,pl,⟨rfl,rfl,by omega,by omega⟩,?_⟩
    generalize hdae:(if pc=i+1 then pa else pa.map (·.add ((i+1)*2)))=da at hdr ⊢
    refine⟨hm1,?_⟩
    rw [show ((m+1:Nat):Int)-1=(m:Int) by omega]
    refine⟨_,hb11.frz.sees3 (o:=0) rfl,?_⟩
    refine⟨_,hb11.frz.sees3 (o:=1) rfl,?_⟩
    refine⟨λ v σ'=>∃b8,v=.slice (some ⟨b8,0,none⟩) 0 0/\Hld σa b8 3 #[] σ',λ v σ1 σ2 h k=>?_,λ v σ' h=>?_,λ σ' hC=>?_,λ v hv=>?_⟩
    ·obtain⟨b8,e,h1⟩:=h
     exact⟨b8,e,h1.le k⟩
    ·obtain⟨b8,e,h1⟩:=h
     exact h1.frz1
    ·have hle:=hC
     conv=>whnf
     intro b8 hf8
     exact⟨_,.refl _,_,.refl _,b8,rfl,.made hle hf8⟩
    obtain⟨_,b8,rfl,-⟩:=hv
    refine⟨λ v σ'=>∃b13,v=.slice (some ⟨b13,0,none⟩) 1 1/\Blk σ' b13 #[.int .i64 p2]/\Hld σa b8 3 #[] σ',λ v σ1 σ2 ⟨b13,e,hX,h⟩ k=>⟨b13,e,hX.le k,h.le k⟩,λ v σ' ⟨b13,e,hX,h⟩=>h.frz1,λ σ' hC=>?_,λ v hv=>?_⟩
    ·obtain⟨b8',e,h⟩:=hC
     cases e
     conv=>whnf
     intro b13 hf13
     exact put_new hf13 λ σ2 k hb=>⟨σ2,.refl _,b13,rfl,hb,h.le k⟩
    obtain⟨_,b13,rfl,-⟩:=hv
    refine⟨λ v σ'=>Acc 3 1 v (taken.map λ n=>.int .i64 n) σ'.M σa.M/\(∀y o,σa.I y=some o->σ'.I y=some o)/\σ'.tok=σa.tok/\Blk σ' b13 #[.int .i64 p2],λ v σ1 σ2 h k=>⟨by rw [k.own];exact h.1,λ y o i=>k.imm y o (h.2.1 y o i),k.tok.trans h.2.2.1,h.2.2.2.le k⟩,λ v σ' h=>⟨h.2.1,⟨_,(List.append_nil _).symm⟩,h.2.2.1⟩,λ σ' hC=>?_,λ v hv=>?_⟩
    ·obtain⟨b13',e,hX,hH⟩:=hC
     cases e
     conv=>whnf
     refine raw_app (v:=.slice (some ⟨b8,0,none⟩) 0 0) (cs:=[]) (new:=(taken.map λ n=>.int .i64 n)) (M₀:=σa.M) Tryz.sl27 rfl rfl (by rw [hH.own];exact .empty) (Ints.src (htk.lg hH.frz1)) (by rw [List.length_map,htl];omega) (by simp [Value.single]) (by simp only [List.length_map,List.length_nil];omega) λ v' M' ha' _=>?_
     exact⟨_,.refl _,by simpa using ha',hH.imm,hH.tok,hX⟩
    obtain⟨σ₀,hv,-⟩:=hv
    obtain⟨ta',tc',rfl,-⟩:=src_ints (σ:=σ₀) hv
    clear hv
    refine⟨λ v σ'=>Acc 3 1 v ((taken++[p2]).map λ n=>.int .i64 n) σ'.M σa.M/\(∀y o,σa.I y=some o->σ'.I y=some o)/\σ'.tok=σa.tok,λ v σ1 σ2 h k=>⟨by rw [k.own];exact h.1,λ y o i=>k.imm y o (h.2.1 y o i),k.tok.trans h.2.2⟩,λ v σ' h=>⟨h.2.1,⟨_,(List.append_nil _).symm⟩,h.2.2⟩,λ σ' hC=>?_,λ v hv=>?_⟩
    ·obtain⟨ha,hI,ht,hX⟩:=hC
     conv=>whnf
     refine raw_app (v:=.slice ta' taken.length tc') (cs:=(taken.map λ n=>.int .i64 n)) (new:=[.int .i64 p2]) (M₀:=σa.M) Tryz.sl27 rfl rfl ha (.inr ⟨_,rfl,hX.reads (λ k v hv=>by simpa using hv)⟩) rfl (by simp [Value.single]) (by simp only [List.length_map,List.length_cons,List.length_nil];omega) λ v' M' ha' _=>?_
     exact⟨_,.refl _,by simpa using ha',hI,ht⟩
    obtain⟨σ₀,hv,-⟩:=hv
    obtain⟨ua,uc,rfl,-⟩:=src_ints (σ:=σ₀) hv
    clear hv
    refine⟨λ v σ'=>σa.le σ'/\MatV σ' v (matchedL m (ps.drop (i+1)) p1 (taken++[p2])),λ v σ1 σ2 h k=>⟨h.1.trans k,h.2.le k⟩,λ v σ' h=>h.1.frz1,λ σ' hC=>?_,λ v hv=>?_⟩
    ·obtain⟨ha,hI,ht⟩:=hC
     refine⟨Tryz.k101.any,CallsV.sep0 λ hsep=>?_⟩
     obtain⟨σ7,k1,k2,na,nlen,nc,e3,hnl,hns,hnsp,-⟩:=Acc.freeze (σ:={ σ' with M:=σa.M }) hsep ha (λ _ _ h=>h) rfl
     cases e3
     have hni:Ints σ7.frz ua (taken++[p2]).length (taken++[p2]):=ints_src hns hnsp
     have hz:σa.frz.lg σ7.frz:=⟨λ y o h=>k2.imm y o (hI y o h),⟨[],rfl⟩,k2.tok.trans ht⟩
     refine CallsV.shift k1 ((ih (ps.drop (i+1)) p1 (taken++[p2]) da (pl-(i+1)) (pc-(i+1)) ua (taken++[p2]).length uc σ7 (PairsV.lg hdr hz) (by omega) (by rw [List.length_drop];omega) hni (by rw [List.length_append,List.length_singleton];omega)).mono ?_)
     rintro v σ8 ⟨hv,h_8⟩ -
     exact⟨σ8,.refl _,⟨λ y o h=>h_8.imm y o (k2.imm y o (hI y o h)),h_8.own.trans k2.own,h_8.tok.trans (k2.tok.trans ht)⟩,hv⟩
    obtain⟨σ₀,-,hv⟩:=hv
    rcases hv with⟨L,v1,hm,rfl,hL⟩ | ⟨hm,rfl⟩
    ·obtain⟨qa,qc,rfl,-,-⟩:=hL
     conv=>whnf
     rintro σ' ⟨hle,hv⟩
     refine⟨rfl,qa,_,qc,true,⟨rfl,rfl,rfl,rfl,rfl,rfl,rfl,rfl,trivial⟩,hle,.inl ⟨L,hm,rfl,?_⟩⟩
     rcases hv with⟨L',v1,hm',e,hL⟩ | ⟨hm',e⟩
     ·rw [hm] at hm';cases hm';cases e;exact hL
     ·rw [hm] at hm';cases hm'
    ·conv=>whnf
     rintro σ' ⟨hle,hv⟩
     exact⟨rfl,none,0,0,false,⟨rfl,rfl,rfl,rfl,rfl,rfl,rfl,rfl,trivial⟩,hle,.inr ⟨hm,rfl⟩⟩
   ·skip
    refine⟨hin,?_⟩
    refine⟨i+1,pl,⟨rfl,rfl,by omega,by omega⟩,?_⟩
    generalize hdae:(if pc=i+1 then pa else pa.map (·.add ((i+1)*2)))=da at hdr ⊢
    refine⟨hm1,?_⟩
    rw [show ((m+1:Nat):Int)-1=(m:Int) by omega]
    refine⟨_,hb11.frz.sees3 (o:=0) rfl,?_⟩
    refine⟨_,hb11.frz.sees3 (o:=1) rfl,?_⟩
    refine⟨λ v σ'=>∃b13,v=.slice (some ⟨b13,0,none⟩) 1 1/\Blk σ' b13 #[.int .i64 p2]/\σa.le σ',λ v σ1 σ2 ⟨b13,e,hX,h⟩ k=>⟨b13,e,hX.le k,h.trans k⟩,λ v σ' ⟨b13,e,hX,h⟩=>h.frz1,λ σ' hC=>?_,λ v hv=>?_⟩
    ·have h:=hC
     conv=>whnf
     intro b13 hf13
     exact put_new hf13 λ σ2 k hb=>⟨σ2,.refl _,b13,rfl,hb,h.trans k⟩
    obtain⟨_,b13,rfl,-⟩:=hv
    refine⟨λ v σ'=>∃b8,v=.slice (some ⟨b8,0,none⟩) 0 0/\Hld σa b8 3 #[] σ'/\Blk σ' b13 #[.int .i64 p2],λ v σ1 σ2 h k=>?_,λ v σ' h=>?_,λ σ' hC=>?_,λ v hv=>?_⟩
    ·obtain⟨b8,e,h1,h2⟩:=h
     exact⟨b8,e,h1.le k,h2.le k⟩
    ·obtain⟨b8,e,h1,-⟩:=h
     exact h1.frz1
    ·obtain⟨b13',e,hX,hle⟩:=hC
     cases e
     conv=>whnf
     intro b8 hf8
     exact⟨_,.refl _,_,.refl _,b8,rfl,.made hle hf8,hX⟩
    obtain⟨_,b8,rfl,-⟩:=hv
    refine⟨λ v σ'=>Acc 3 1 v (taken.map λ n=>.int .i64 n) σ'.M σa.M/\(∀y o,σa.I y=some o->σ'.I y=some o)/\σ'.tok=σa.tok/\Blk σ' b13 #[.int .i64 p2],λ v σ1 σ2 h k=>⟨by rw [k.own];exact h.1,λ y o i=>k.imm y o (h.2.1 y o i),k.tok.trans h.2.2.1,h.2.2.2.le k⟩,λ v σ' h=>⟨h.2.1,⟨_,(List.append_nil _).symm⟩,h.2.2.1⟩,λ σ' hC=>?_,λ v hv=>?_⟩
    ·obtain⟨b8',e,hH,hX⟩:=hC
     cases e
     conv=>whnf
     refine raw_app (v:=.slice (some ⟨b8,0,none⟩) 0 0) (cs:=[]) (new:=(taken.map λ n=>.int .i64 n)) (M₀:=σa.M) Tryz.sl27 rfl rfl (by rw [hH.own];exact .empty) (Ints.src (htk.lg hH.frz1)) (by rw [List.length_map,htl];omega) (by simp [Value.single]) (by simp only [List.length_map,List.length_nil];omega) λ v' M' ha' _=>?_
     exact⟨_,.refl _,by simpa using ha',hH.imm,hH.tok,hX⟩
    obtain⟨σ₀,hv,-⟩:=hv
    obtain⟨ta',tc',rfl,-⟩:=src_ints (σ:=σ₀) hv
    clear hv
    refine⟨λ v σ'=>Acc 3 1 v ((taken++[p2]).map λ n=>.int .i64 n) σ'.M σa.M/\(∀y o,σa.I y=some o->σ'.I y=some o)/\σ'.tok=σa.tok,λ v σ1 σ2 h k=>⟨by rw [k.own];exact h.1,λ y o i=>k.imm y o (h.2.1 y o i),k.tok.trans h.2.2⟩,λ v σ' h=>⟨h.2.1,⟨_,(List.append_nil _).symm⟩,h.2.2⟩,λ σ' hC=>?_,λ v hv=>?_⟩
    ·obtain⟨ha,hI,ht,hX⟩:=hC
     conv=>whnf
     refine raw_app (v:=.slice ta' taken.length tc') (cs:=(taken.map λ n=>.int .i64 n)) (new:=[.int .i64 p2]) (M₀:=σa.M) Tryz.sl27 rfl rfl ha (.inr ⟨_,rfl,hX.reads (λ k v hv=>by simpa using hv)⟩) rfl (by simp [Value.single]) (by simp only [List.length_map,List.length_cons,List.length_nil];omega) λ v' M' ha' _=>?_
     exact⟨_,.refl _,by simpa using ha',hI,ht⟩
    obtain⟨σ₀,hv,-⟩:=hv
    obtain⟨ua,uc,rfl,-⟩:=src_ints (σ:=σ₀) hv
    clear hv
    refine⟨λ v σ'=>σa.le σ'/\MatV σ' v (matchedL m (ps.drop (i+1)) p1 (taken++[p2])),λ v σ1 σ2 h k=>⟨h.1.trans k,h.2.le k⟩,λ v σ' h=>h.1.frz1,λ σ' hC=>?_,λ v hv=>?_⟩
    ·obtain⟨ha,hI,ht⟩:=hC
     refine⟨Tryz.k101.any,CallsV.sep0 λ hsep=>?_⟩
     obtain⟨σ7,k1,k2,na,nlen,nc,e3,hnl,hns,hnsp,-⟩:=Acc.freeze (σ:={ σ' with M:=σa.M }) hsep ha (λ _ _ h=>h) rfl
     cases e3
     have hni:Ints σ7.frz ua (taken++[p2]).length (taken++[p2]):=ints_src hns hnsp
     have hz:σa.frz.lg σ7.frz:=⟨λ y o h=>k2.imm y o (hI y o h),⟨[],rfl⟩,k2.tok.trans ht⟩
     refine CallsV.shift k1 ((ih (ps.drop (i+1)) p1 (taken++[p2]) da (pl-(i+1)) (pc-(i+1)) ua (taken++[p2]).length uc σ7 (PairsV.lg hdr hz) (by omega) (by rw [List.length_drop];omega) hni (by rw [List.length_append,List.length_singleton];omega)).mono ?_)
     rintro v σ8 ⟨hv,h_8⟩ -
     exact⟨σ8,.refl _,⟨λ y o h=>h_8.imm y o (k2.imm y o (hI y o h)),h_8.own.trans k2.own,h_8.tok.trans (k2.tok.trans ht)⟩,hv⟩
    obtain⟨σ₀,-,hv⟩:=hv
    rcases hv with⟨L,v1,hm,rfl,hL⟩ | ⟨hm,rfl⟩
    ·obtain⟨qa,qc,rfl,-,-⟩:=hL
     conv=>whnf
     rintro σ' ⟨hle,hv⟩
     refine⟨rfl,qa,_,qc,true,⟨rfl,rfl,rfl,rfl,rfl,rfl,rfl,rfl,trivial⟩,hle,.inl ⟨L,hm,rfl,?_⟩⟩
     rcases hv with⟨L',v1,hm',e,hL⟩ | ⟨hm',e⟩
     ·rw [hm] at hm';cases hm';cases e;exact hL
     ·rw [hm] at hm';cases hm'
    ·conv=>whnf
     rintro σ' ⟨hle,hv⟩
     exact⟨rfl,none,0,0,false,⟨rfl,rfl,rfl,rfl,rfl,rfl,rfl,rfl,trivial⟩,hle,.inr ⟨hm,rfl⟩⟩
  rintro f' ds' σb ⟨rfl,qa,ql,qc,g,hfr,hleb,hcase⟩
  rw [<- hfr.ovr]
  clear hfr
  have hb11:=hb11.le hleb
  have hle:=hle.trans hleb
  conv=>whnf
  intro a' hf'
  refine⟨by rw [hf'.size,hfr0.size],_,hf'.get,?_⟩
  rw [hf'.ds]
  clear hf' hfr0
  rcases hcase with⟨L,hm,rfl,hL⟩ | ⟨hm,rfl⟩
  ·rw [hm] at hinv
   obtain⟨qa,qc,e,-,hLr⟩:=hL
   cases e
   have hLl:L.length<=1000:=by
    have:=matchedL_le hm
    omega
   refine⟨_,⟨rfl,hb11.reads (vs:=encII (p1,p2)) (λ k v hv=>by simpa [encII] using hv)⟩,?_⟩
   conv=>whnf
   intro b57 hf57
   refine⟨_,.refl _,?_⟩
   conv=>whnf
   refine raw_app (v:=.slice (some ⟨b57,0,none⟩) 1 1) (cs:=encII (p1,p2)) (new:=L.flatMap encII) (M₀:=σb.M) Tryz.sl52 rfl rfl (.inr ⟨b57,_,1,1,rfl,rfl,Nat.le_refl _,rfl,rfl,λ i x hx=>by simpa [encII] using hx⟩) (pairs_srcP (PairsV.lg hLr ⟨λ _ _ h=>h,⟨_,(List.append_nil _).symm⟩,rfl⟩)) (by rw [encII_len]) (by intro w hw;obtain⟨q,_,hq⟩:=List.mem_flatMap.1 hw;simp [encII] at hq;rcases hq with rfl | rfl <;> rfl) (by rw [encII_len];simp [encII];omega) λ v' M' ha' _=>?_
   obtain⟨ua,ul,uc,rfl,-,-⟩:=Acc.src (σ:={ σb with M:=M' }) ha'
   repeat refine⟨rfl,?_⟩
   conv=>whnf
   exact .inl ⟨(p1,p2)::L,_,hinv,rfl,by rw [List.flatMap_cons,<- hle.own];exact ha',hle.imm,hle.tok⟩
  ·rw [hm] at hinv
   refine⟨hin,?_⟩
   conv=>whnf
   exact⟨rfl,i+1,⟨rfl,rfl,rfl,rfl,rfl,trivial⟩,⟨hle,by omega,hinv⟩,by show _-_<_-_;omega⟩
 ·have hge:pl<=i:=by simpa using hc
  rw [List.drop_eq_nil_of_le (by omega),matchedL_nil] at hinv
  repeat refine⟨rfl,?_⟩
  conv=>whnf
  exact .inr ⟨hinv,rfl,hle1⟩
end Go.Proofs
namespace Go.TM
open Go.Proofs
section
variable {t:Tbl} {e:Int} {xs ys:List Int}
end
section
variable {t:Tbl} (hf:t.flaw=0) {x y:Int} (hx:t.isEd x=true) (hy:t.isEd y=true) {a b:List Int} (ha:t.Lst x a) (hb:t.Lst y b)
include hf hx hy ha hb
end
end Go.TM
namespace Go.TM
section
variable {t:Tbl} {e:Int}
end
def Tbl.row (t:Tbl) (k:Talk) (x:Int) (l:List Int):List (Int×Int):=(l.filter λ y=>decide (k.lv<=t.lev k.ed x y)).map λ y=>(x,y)
theorem Tbl.prs_eq (t:Tbl) (k:Talk):t.prs k=k.a.flatMap λ x=>t.row k x k.b:=by
 unfold Tbl.prs Tbl.reach
 congr 1
 funext x
 unfold Tbl.reachRow Tbl.row
 congr 1
 refine List.filter_congr λ y _=>?_
 unfold Tbl.okP
 rw [Bool.eq_iff_iff]
 simp
theorem Tbl.row_take {t:Tbl} {k:Talk} {x y:Int} {l:List Int} {i:Nat} (h:l[i]?=some y):t.row k x (l.take (i+1))=t.row k x (l.take i)++(if decide (k.lv<=t.lev k.ed x y)=true then [(x,y)] else []):=by
 unfold Tbl.row
 rw [take_at h,List.filter_append,List.map_append,List.filter_cons,List.filter_nil]
 congr 1
 split <;> rfl
theorem Tbl.row_len (t:Tbl) (k:Talk) (x:Int) (l:List Int):(t.row k x l).length<=l.length:=by
 unfold Tbl.row
 rw [List.length_map];exact List.length_filter_le ..
theorem flat_len {α β:Type} {f:α->List β} {m:Nat}:∀{l:List α},(∀x,x∈l->(f x).length<=m)->(l.flatMap f).length<=l.length*m
 | [],_=>by simp
 | x::l,h=>by
  rw [List.flatMap_cons,List.length_append,List.length_cons,Nat.succ_mul]
  have h1:=h x (List.mem_cons_self ..)
  have h2:=flat_len (l:=l) λ y hy=>h y (List.mem_cons_of_mem _ hy)
  omega
theorem Tbl.prs_len (t:Tbl) (k:Talk):(t.prs k).length<=k.a.length*k.b.length:=by
 rw [Tbl.prs_eq]
 exact flat_len λ x _=>t.row_len k x k.b
theorem pickP_some {la:List Int} {n:Nat}:∀{ps:List (Int×Int)} {p:Int×Int} {rest:List (Int×Int)},pickP la n ps=some (p,rest)->∃r,(p::r).Sublist ps/\rest=restP p r
 | [],_,_,h=>by cases h
 | q::r,p,rest,h=>by
  rw [pickP] at h
  split at h
  ·cases h;exact⟨r,List.Sublist.refl _,rfl⟩
  ·obtain⟨r',h1,h2⟩:=pickP_some h
   exact⟨r',h1.cons q,h2⟩
abbrev Apart (p q:Int×Int):Prop:=p.1<q.1/\p.2≠q.2
theorem proofL_apart {la:List Int}:∀{n:Nat} {ps L:List (Int×Int)},ps.Pairwise (λ p q=>p.1<=q.1)->proofL la n ps=some L->L.length=n/\(∀p,p∈L->p∈ps)/\L.Pairwise Apart
 | 0,ps,L,_,h=>by
  rw [proofL] at h;cases h
  exact⟨rfl,(λ p hp=>by cases hp),List.Pairwise.nil⟩
 | n+1,ps,L,hs,h=>by
  rw [proofL] at h
  cases hp:pickP la n ps with
  | none=>rw [hp] at h;cases h
  | some x=>
   obtain⟨p,rest⟩:=x
   rw [hp] at h
   obtain⟨L',hL',rfl⟩:=Option.map_eq_some_iff.1 h
   obtain⟨r,h1,rfl⟩:=pickP_some hp
   have hs':=List.pairwise_cons.1 (hs.sublist h1)
   have hr:(restP p r).Sublist r:=List.filter_sublist ..
   obtain⟨k1,k2,k3⟩:=proofL_apart (hs'.2.sublist hr) hL'
   have hin:∀q,q∈restP p r->q∈ps:=λ q hq=>h1.subset (List.mem_cons_of_mem _ (hr.subset hq))
   refine⟨by rw [List.length_cons,k1],λ q hq=>?_,List.pairwise_cons.2 ⟨λ q hq=>?_,k3⟩⟩
   ·rcases List.mem_cons.1 hq with rfl | hq
    ·exact h1.subset (List.mem_cons_self ..)
    ·exact hin q (k2 q hq)
   ·obtain⟨m1,m2,m3⟩:=mem_restP.1 (k2 q hq)
    have hle:p.1<=q.1:=hs'.1 q m1
    have hlt:p.1<q.1:=by omega
    exact⟨hlt,λ e=>m3 e.symm⟩
theorem row_le (x:Int):∀l:List Int,(l.map λ y=>(x,y)).Pairwise (λ p q:Int×Int=>p.1<=q.1)
 | []=>List.Pairwise.nil
 | a::l=>by
  rw [List.map_cons,List.pairwise_cons]
  exact⟨λ q hq=>by obtain⟨_,_,rfl⟩:=List.mem_map.1 hq;exact Int.le_refl _,row_le x l⟩
theorem Tbl.prs_sorted {t:Tbl} {tk:Talk} (ha:Asc tk.a):(t.prs tk).Pairwise (λ p q=>p.1<=q.1):=by
 rw [Tbl.prs_eq]
 have hrow:∀x p,p∈t.row tk x tk.b->p.1=x:=λ x p hp=>by
  unfold Tbl.row at hp
  obtain⟨_,_,rfl⟩:=List.mem_map.1 hp
  rfl
 have key:∀l:List Int,Asc l->(l.flatMap λ x=>t.row tk x tk.b).Pairwise (λ p q=>p.1<=q.1):=by
  intro l
  induction l with
  | nil=>intro _;exact List.Pairwise.nil
  | cons x l ih=>
   intro h
   have h':=List.pairwise_cons.1 h
   rw [List.flatMap_cons,List.pairwise_append]
   refine⟨row_le _ _,ih h'.2,λ p hp q hq=>?_⟩
   obtain⟨x',hx',hq⟩:=List.mem_flatMap.1 hq
   have e1:=hrow _ _ hp
   have e2:=hrow _ _ hq
   have:=h'.1 x' hx'
   omega
 exact key tk.a ha
theorem Tbl.proof_some {t:Tbl} {tk:Talk} (ha:Asc tk.a) (h0:∀x∈tk.a,0<=x):(proofL tk.a (t.mostT tk) (t.prs tk)).isSome=true:=by
 have hk:=(matched_eq (la:=tk.a) ha.nodup (t.mostT tk) (t.prs tk) (-1) [] (Tbl.prs_sorted ha) (λ p hp=>(Tbl.mem_prs.1 hp).1)).2
 have e:(t.prs tk).filter (freeP (-1) [])=t.prs tk:=List.filter_eq_self.2 λ p hp=>by
  have:=h0 _ (Tbl.mem_prs.1 hp).1
  unfold freeP
  simp
  omega
 rw [e] at hk
 exact hk (Nat.le_refl _)
section
variable {t:Tbl} {tk:Talk} (ha:Asc tk.a) (hb:Asc tk.b)
include ha hb
theorem Tbl.agr_len:(t.agr tk).1.length+(t.agr tk).2.length=t.mostT tk:=(Tbl.agr_best (t:=t) ha hb).len
theorem Tbl.agr_one:(t.agr tk).1.Sublist tk.a:=(Tbl.agr_best (t:=t) ha hb).sub
theorem Tbl.agr_two:(t.agr tk).2.Sublist tk.b:=by
 have h:=Tbl.agr_best (t:=t) ha hb
 rw [h.left];exact List.filter_sublist ..
end
def PrsW {T:Type} (σ:View T) (v:Value) (l:List (Int×Int)):Prop:=∃a c,v=.slice a l.length c/\l.length<=c/\PairsV σ.frz a l.length l
theorem PrsW.le {T:Type} {σ σ':View T} {v:Value} {l:List (Int×Int)} (h:PrsW σ v l) (k:σ.le σ'):PrsW σ' v l:=let ⟨a,c,e,g,h⟩:=h;⟨a,c,e,g,h.lg k.frz2⟩
def AgrV {T:Type} (σ:View T) (v:Value) (t:Tbl) (tk:Talk):Prop:=∃va vb vp L,v=.tuple #[va,vb,vp,.int .i64 0]/\LstV σ va (t.agr tk).1/\LstV σ vb (t.agr tk).2/\PrsW σ vp L/\proofL tk.a (t.mostT tk) (t.prs tk)=some L
theorem AgrV.le {T:Type} {σ σ':View T} {v:Value} {t:Tbl} {tk:Talk} (h:AgrV σ v t tk) (k:σ.le σ'):AgrV σ' v t tk:=let ⟨va,vb,vp,L,e,h1,h2,h3,h4⟩:=h;⟨va,vb,vp,L,e,h1.le k,h2.le k,h3.le k,h4⟩
def PrsE {T:Type} (σ:View T) (v:Value) (l:List (Int×Int)):Prop:=∃v1,v=.tuple #[v1,.int .i64 0]/\PrsW σ v1 l
theorem PrsE.le {T:Type} {σ σ':View T} {v:Value} {l:List (Int×Int)} (h:PrsE σ v l) (k:σ.le σ'):PrsE σ' v l:=let ⟨v1,e,h⟩:=h;⟨v1,e,h.le k⟩
end Go.TM
namespace Go.Proofs
open Go.TM
set_option maxRecDepth 100000
variable {T:Type} {S:TM.Sys Tryz.prog T} {σ:View T}
attribute [local irreducible] CallsV YieldV rngX
section
variable (h:TH) (t:Tbl) (ht:TabV σ.frz h t) (hf:t.flaw=0) (e lv:Int) (hed:t.isEd e=true) {a a':Option Addr} {cap cap':Nat} {l l':List Int} (hl:Ints σ.frz a l.length l) (hL:t.Lst e l) (hl':Ints σ.frz a' l'.length l') (hL':t.Lst e l') (h1:1<=lv) (h5:lv<=5)
include ht hf hed hl hL hl' hL' h1 h5
end
end Go.Proofs
namespace Go.TM
variable {T:Type} {P:Program} {S:Sys P T} {σ:View T}
def U16s (σ:View T) (a:Option Addr) (len:Nat) (l:List Nat):Prop:=RowsV σ a len 1 l λ n vs=>vs=[.int .u16 (n:Int)]/\n<65536
theorem U16s.lg {σ':View T} {a:Option Addr} {len:Nat} {l:List Nat} (h:U16s σ a len l) (hl:σ.lg σ'):U16s σ' a len l:=RowsV.lg h hl λ _ _ h=>h
structure RC where
 a:Option Addr
 cap:Nat
 c:GCut
end Go.TM
namespace Go.TM
open Go.Proofs
theorem Tbl.talkF_eq {t:Tbl} {e lv:Int} {a b:List Int}:t.talkF e a b lv=if t.openF e [a]=0 then (if t.chk e none b=0 then (if btw lv 1 5=true then 0 else 1) else t.chk e none b) else t.openF e [a]:=by
 unfold Tbl.talkF
 rw [Tbl.open_pr]
 by_cases h1:t.openF e [a]=0
 ·simp only [h1,if_true]
 ·simp only [h1,if_false]
end Go.TM
namespace Go.Proofs
open Go.TM
set_option maxRecDepth 100000
variable {T:Type} {S:TM.Sys Tryz.prog T} {σ:View T}
attribute [local irreducible] CallsV YieldV rngX
theorem Tryz.refLevel_ok (h:TH) (t:Tbl) (ht:TabV σ h t) (e x y:Int):CallsV S 127 #[h.v,.int .i64 e,.int .i64 x,.int .i64 y] (λ v σ'=>v=.int .i64 (t.lev e x y)/\σ'=σ) σ:=by
 refine CallsV.pure' (CallsV.of (args:=[_,_,_,_]) Tryz.k127 Tryz.mixed (by simp) ?_)
 have hkl:=ht.kns.1
 have hkl2:=ht.kl
 repeat refine⟨rfl,?_⟩
 conv=>whnf
 intro b σ1 h_1 hb
 have hb:Blk σ1 b #[.slice h.ea h.el h.ec,.slice h.ma h.ml h.mc,.slice h.ka h.kl h.kc]:=hb
 repeat refine⟨rfl,?_⟩
 conv=>whnf
 apply cb_split<;>intro hc
 ·have hxy:x=y:=by simpa using hc
  repeat refine⟨rfl,?_⟩
  conv=>whnf
  exact⟨by unfold Tbl.lev;rw [if_pos hxy],h_1.lg⟩
 have hxy:x≠y:=by simpa using hc
 have hlev:t.lev e x y=match t.kns.find? (kinIs e x y) with | some k=>k.lev | none=>0:=by unfold Tbl.lev;rw [if_neg hxy];rfl
 refine⟨Nat,λ i=>[(1,.int .i64 e),(2,.int .i64 x),(3,.int .i64 y),(4,.pointer (some ⟨b,0,none⟩)),(9,.int .i64 i)],λ i σ'=>σ1.le σ'/\i<=h.kl/\t.kns.find? (kinIs e x y)=(t.kns.drop i).find? (kinIs e x y),λ i=>h.kl-i,0,⟨rfl,rfl,rfl,rfl,rfl,trivial⟩,⟨.refl _,Nat.zero_le _,by simp⟩,?_⟩
 rintro i f σ2 ⟨h_2,hi,hno⟩
 have hb_2:=hb.le h_2
 have h_12:=h_1.trans h_2
 refine⟨_,hb_2.sees3 (o:=2) rfl,?_⟩
 repeat refine⟨rfl,?_⟩
 conv=>whnf
 apply cb_split<;>intro hc
 ·have hlt:i<h.kl:=by simpa using hc
  obtain⟨ad,k,vs,hx,hka,hsp,rfl,-,hrd⟩:=ht.kns.at hlt
  have hin:InR ((i:Int)+1):=by unfold InR;omega
  rw [drop_at hx,List.find?_cons] at hno
  refine⟨_,hb_2.sees3 (o:=2) rfl,?_⟩
  refine⟨ad,i,⟨hka,rfl,hlt⟩,?_⟩
  refine⟨_,⟨rfl,hrd.lg h_12.lg⟩,?_⟩
  conv=>whnf
  intro b10 hf10
  refine⟨_,.refl _,?_⟩
  refine⟨rfl,st_new (vs:=[.int .i64 k.ed,.int .i64 k.one,.int .i64 k.two,.int .i64 k.lev]) hf10 rfl (by simp [Value.single]) λ σ3 h_3 hb_10=>?_⟩
  have hb_10:Blk σ3 b10 #[.int .i64 k.ed,.int .i64 k.one,.int .i64 k.two,.int .i64 k.lev]:=hb_10
  have go:kinIs e x y k=false->t.kns.find? (kinIs e x y)=(t.kns.drop (i+1)).find? (kinIs e x y):=λ hk=>by rw [hno,hk]
  have h_23:=h_2.trans h_3
  refine⟨_,hb_10.sees3 (o:=0) rfl,?_⟩
  repeat refine⟨rfl,?_⟩
  conv=>whnf
  apply gb_split<;>intro hc
  ·have k1:(k.ed == e)=true:=hc
   refine⟨_,hb_10.sees3 (o:=1) rfl,?_⟩
   conv=>whnf
   refine raw_min rfl rfl ?_
   repeat refine⟨rfl,?_⟩
   conv=>whnf
   apply gb_split<;>intro hc
   ·have k2:(k.one == min x y)=true:=hc
    refine⟨_,hb_10.sees3 (o:=2) rfl,?_⟩
    conv=>whnf
    refine raw_max rfl rfl ?_
    repeat refine⟨rfl,?_⟩
    conv=>whnf
    apply cb_split<;>intro hc
    ·have k3:(k.two == max x y)=true:=hc
     have hk:kinIs e x y k=true:=by unfold kinIs;rw [k1,k2,k3];rfl
     refine⟨_,hb_10.sees3 (o:=3) rfl,?_⟩
     repeat refine⟨rfl,?_⟩
     conv=>whnf
     exact⟨by rw [hlev,hno,hk],(h_1.trans h_23).lg⟩
    ·have k3:(k.two == max x y)=false:=hc
     have hk:kinIs e x y k=false:=by unfold kinIs;rw [k3,Bool.and_false,Bool.and_false]
     refine⟨hin,?_⟩
     conv=>whnf
     exact⟨rfl,i+1,⟨rfl,rfl,rfl,rfl,rfl,trivial⟩,⟨h_23,by omega,go hk⟩,by show _-_<_-_;omega⟩
   ·have k2:(k.one == min x y)=false:=hc
    have hk:kinIs e x y k=false:=by unfold kinIs;rw [k2,Bool.false_and,Bool.and_false]
    refine⟨hin,?_⟩
    conv=>whnf
    exact⟨rfl,i+1,⟨rfl,rfl,rfl,rfl,rfl,trivial⟩,⟨h_23,by omega,go hk⟩,by show _-_<_-_;omega⟩
  ·have k1:(k.ed == e)=false:=hc
   have hk:kinIs e x y k=false:=by unfold kinIs;rw [k1,Bool.false_and]
   refine⟨hin,?_⟩
   conv=>whnf
   exact⟨rfl,i+1,⟨rfl,rfl,rfl,rfl,rfl,trivial⟩,⟨h_23,by omega,go hk⟩,by show _-_<_-_;omega⟩
 ·have hge:h.kl<=i:=by simpa using hc
  rw [List.drop_eq_nil_of_le (by omega)] at hno
  repeat refine⟨rfl,?_⟩
  conv=>whnf
  exact⟨by rw [hlev,hno];rfl,h_12.lg⟩
theorem Tryz.asked_ok (h:TH) (t:Tbl) (ht:TabV σ h t) (e lv:Int) (a a':Option Addr) (len cap len' cap':Nat) (l l':List Int) (hl:Ints σ a len l) (hl':Ints σ a' len' l') (hlen:len<2 ^ 60) (hlen':len'<2 ^ 60) :
  CallsV S 93 #[h.v,.int .i64 e,.slice a len cap,.slice a' len' cap',.int .i64 lv] (λ v σ'=>v=.int .i64 (t.talkF e l l' lv)/\σ'=σ) σ:=by
 refine CallsV.pure' (CallsV.of (args:=[_,_,_,_,_]) Tryz.k93 Tryz.mixed (by simp) ?_)
 have hT:=t.talkF_eq (e:=e) (a:=l) (b:=l') (lv:=lv)
 repeat refine⟨rfl,?_⟩
 conv=>whnf
 intro b σ1 h_1 hb
 have hb:Blk σ1 b #[.slice h.ea h.el h.ec,.slice h.ma h.ml h.mc,.slice h.ka h.kl h.kc]:=hb
 have ht1:=ht.lg h_1.lg
 refine⟨_,⟨rfl,hb.rdT λ _ _ h=>h⟩,?_⟩
 refine⟨Tryz.k32.any,(Tryz.refList_ok h t ht1 e a len cap l (hl.lg h_1.lg) hlen).go λ _=>?_⟩
 repeat refine⟨rfl,?_⟩
 conv=>whnf
 apply cb_split<;>intro hc
 ·have hf:t.openF e [l]≠0:=by simpa using hc
  rw [if_neg hf] at hT
  repeat refine⟨rfl,?_⟩
  conv=>whnf
  exact⟨by rw [hT],h_1.lg⟩
 have hf:t.openF e [l]=0:=by simpa using hc
 rw [if_pos hf] at hT
 obtain⟨hfl,hed,hch⟩:=Tbl.open_one hf
 refine⟨_,⟨rfl,hb.rdT λ _ _ h=>h⟩,?_⟩
 refine⟨Tryz.k76.any,(Tryz.listFlaw_ok h t ht1 e hed a' len' cap' l' (hl'.lg h_1.lg) hlen').go λ _=>?_⟩
 repeat refine⟨rfl,?_⟩
 conv=>whnf
 apply cb_split<;>intro hc
 ·have hf2:t.chk e none l'≠0:=by simpa using hc
  rw [if_neg hf2] at hT
  repeat refine⟨rfl,?_⟩
  conv=>whnf
  exact⟨by rw [hT],h_1.lg⟩
 have hf2:t.chk e none l'=0:=by simpa using hc
 rw [if_pos hf2] at hT
 refine⟨Tryz.k71.any,(Tryz.in_ok _ lv 1 5).go λ _=>?_⟩
 repeat refine⟨rfl,?_⟩
 conv=>whnf
 apply cb_split<;>intro hc
 ·have hb5:btw lv 1 5=false:=by simpa using hc
  rw [hb5] at hT
  repeat refine⟨rfl,?_⟩
  conv=>whnf
  exact⟨by rw [hT];rfl,h_1.lg⟩
 ·have hb5:btw lv 1 5=true:=by simpa using hc
  rw [hb5] at hT
  repeat refine⟨rfl,?_⟩
  conv=>whnf
  exact⟨by rw [hT];rfl,h_1.lg⟩
set_option maxHeartbeats 1000000 in
theorem Tryz.reach_ok (h:TH) (t:Tbl) (ht:TabV σ h t) (e lv:Int) (a a':Option Addr) (len cap len' cap':Nat) (l l':List Int) (hl:Ints σ a len l) (hl':Ints σ a' len' l') (hlen:len<=100) (hlen':len'<=100) :
  CallsV S 94 #[h.v,.int .i64 e,.slice a len cap,.slice a' len' cap',.int .i64 lv] (λ v σ'=>PairsN σ'.frz v (t.prs ⟨e,lv,l,l'⟩)/\σ.le σ') σ:=by
 refine CallsV.sep (R:=λ v σ'=>Acc 80 2 v ((t.prs ⟨e,lv,l,l'⟩).flatMap encII) σ'.M σ.M/\(∀x o,σ.I x=some o->σ'.I x=some o)/\σ'.tok=σ.tok) (CallsV.of (args:=[_,_,_,_,_]) Tryz.k94 Tryz.mixed (by simp) ?_) ?_
 rotate_left
 ·rintro v σ' hs ⟨ha,hI,htk⟩
  obtain⟨σ'',k1,k2,k3⟩:=ha.pairsN (σ:=σ) hs hI htk
  exact⟨σ'',k1,k3,k2⟩
 have hll:=hl.1
 have hll':=hl'.1
 generalize htk:(⟨e,lv,l,l'⟩:Talk)=tk
 have hprs:=t.prs_eq tk
 repeat refine⟨rfl,?_⟩
 conv=>whnf
 intro b σ1 h_1 hb
 have hb:Blk σ1 b #[.slice h.ea h.el h.ec,.slice h.ma h.ml h.mc,.slice h.ka h.kl h.kc]:=hb
 refine⟨Nat×Value,λ y=>[(1,.int .i64 e),(2,.slice a len cap),(3,.slice a' len' cap'),(4,.int .i64 lv),(5,.pointer (some ⟨b,0,none⟩)),(11,y.2),(12,.int .i64 y.1)],
  λ y σ'=>σ1.lg σ'/\Acc 80 2 y.2 (((l.take y.1).flatMap λ x=>t.row tk x l').flatMap encII) σ'.M σ1.M/\y.1<=len,λ y=>len-y.1,(0,.slice none 0 0),⟨rfl,rfl,rfl,rfl,rfl,rfl,rfl,trivial⟩,⟨(View.le.refl _).lg,.nil,Nat.zero_le _⟩,?_⟩
 rintro⟨i,v⟩ f σ2 ⟨hlg2,ha,hi⟩
 simp only at ha hi
 have hn1:((l.take i).flatMap λ x=>t.row tk x l').length<=i*len':=by
  have:=flat_len (f:=λ x=>t.row tk x l') (m:=len') (l:=l.take i) λ x _=>by rw [<- hll'];exact t.row_len tk x l'
  rw [List.length_take] at this
  exact Nat.le_trans this (Nat.mul_le_mul_right _ (Nat.min_le_left _ _))
 obtain⟨sa,sl,sc,rfl,_⟩:=Acc.src (σ:=σ2) ha
 repeat refine⟨rfl,?_⟩
 conv=>whnf
 apply cb_split<;>intro hc
 ·have hlt:i<len:=by simpa using hc
  obtain⟨ad,x,hx,rfl,hsp,hs⟩:=(hl.lg (h_1.lg.trans hlg2)).at hlt
  have hin:InR ((i:Int)+1):=by unfold InR;omega
  have hnext:((l.take (i+1)).flatMap λ x=>t.row tk x l')=((l.take i).flatMap λ x=>t.row tk x l')++t.row tk x l':=by rw [take_at hx,List.flatMap_append];simp
  have hcap1:i*len'<=100*100:=Nat.mul_le_mul (by omega) (by omega)
  refine⟨Nat×Value,λ y=>[(1,.int .i64 e),(2,.slice (some ad) len cap),(3,.slice a' len' cap'),(4,.int .i64 lv),(5,.pointer (some ⟨b,0,none⟩)),(11,y.2),(12,.int .i64 i),(13,.int .i64 y.1)],
   λ y σ'=>(∀x o,σ2.I x=some o->σ'.I x=some o)/\σ'.tok=σ2.tok/\Acc 80 2 y.2 ((((l.take i).flatMap λ x=>t.row tk x l')++t.row tk x (l'.take y.1)).flatMap encII) σ'.M σ1.M/\y.1<=len',λ y=>len'-y.1,(0,.slice sa sl sc),⟨rfl,rfl,rfl,rfl,rfl,rfl,rfl,rfl,trivial⟩,⟨λ _ _ h=>h,rfl,by simpa [Tbl.row] using ha,Nat.zero_le _⟩,?_⟩
  rintro⟨k,v⟩ f σ3 ⟨hI3,ht3,ha3,hk⟩
  simp only at ha3 hk
  have hn2:=t.row_len tk x (l'.take k)
  rw [List.length_take] at hn2
  obtain⟨A3,hA3⟩:=ha3.own
  have hlg3:σ1.lg σ3:=⟨λ x o h=>hI3 x o (hlg2.imm x o h),⟨A3,hA3⟩,ht3.trans hlg2.tok⟩
  have hfz:σ.frz.lg σ3:=(frz_self.trans h_1.lg).trans hlg3
  have hl3:=(hl.lg (h_1.lg.trans hlg3)).2 i x hx
  obtain⟨ad2,e2,-,hs3⟩:=hl3
  cases e2
  obtain⟨ta,tl,tc,rfl,_⟩:=Acc.src (σ:=σ3) ha3
  repeat refine⟨rfl,?_⟩
  conv=>whnf
  apply cb_split<;>intro hc
  ·have hkt:k<len':=by simpa using hc
   obtain⟨ad',y,hy,rfl,hsp',hs'⟩:=(hl'.lg (h_1.lg.trans hlg3)).at hkt
   have hkn:InR ((k:Int)+1):=by unfold InR;omega
   have hrow:=Tbl.row_take (t:=t) (k:=tk) (x:=x) hy
   have htb:TabV σ3 h t:=ht.lg (h_1.lg.trans hlg3)
   refine⟨_,⟨rfl,(hb.lg hlg3).rdT λ _ _ h=>h⟩,?_⟩
   refine⟨ad,i,⟨rfl,rfl,hlt⟩,?_⟩
   refine⟨_,hs3,?_⟩
   refine⟨ad',k,⟨rfl,rfl,hkt⟩,?_⟩
   refine⟨_,hs',?_⟩
   refine⟨.int .i64 (t.lev e x y),λ σ' hle _=>?_,?_⟩
   ·refine⟨Tryz.k127.any,(Tryz.refLevel_ok h t (htb.lg hle.lg) e x y).mono ?_⟩
    rintro _ σ'' ⟨rfl,hσ⟩ -
    exact⟨rfl,_,.refl _,hσ ▸ .refl _⟩
   conv=>whnf
   intro σ4 h_4 _
   have hlg4:=hlg3.trans h_4.lg
   repeat refine⟨rfl,?_⟩
   conv=>whnf
   apply cb_split<;>intro hc
   ·have hyes:decide (tk.lv<=t.lev tk.ed x y)=true:=by subst htk;exact hc
    rw [if_pos hyes] at hrow
    refine⟨ad,i,⟨rfl,rfl,hlt⟩,?_⟩
    refine⟨_,hs3.lg h_4.lg,?_⟩
    refine⟨ad',k,⟨rfl,rfl,hkt⟩,?_⟩
    refine⟨_,hs'.lg h_4.lg,?_⟩
    refine⟨λ v σ'=>∃bb,v=.slice (some ⟨bb,0,none⟩) 1 1/\Blk σ' bb (encII (x,y)).toArray,λ v σ1 σ2 ⟨bb,e,hbb⟩ hle=>⟨bb,e,hbb.le hle⟩,λ σ' hle _=>?_,λ v hv=>?_⟩
    ·conv=>whnf
     intro b49 hf49
     exact put_new hf49 λ σ5 h_5 hb_5=>⟨σ5,.refl _,⟨b49,rfl,hb_5⟩,h_5⟩
    obtain⟨_,-,-,b49,rfl,-⟩:=hv
    conv=>whnf
    intro σ5 h_5 hC
    obtain⟨-,_,e3,hbb⟩:=hC
    cases e3
    conv=>whnf
    refine raw_app (v:=.slice ta tl tc) (cs:=(((l.take i).flatMap λ x=>t.row tk x l')++t.row tk x (l'.take k)).flatMap encII) (new:=encII (x,y)) (M₀:=σ1.M) Tryz.sl52 rfl rfl (by rw [h_5.own,h_4.own];exact ha3) (.inr ⟨_,rfl,hbb.reads (λ k v hv=>by simpa using hv)⟩) rfl (by simp [encII,Value.single]) (by rw [encII_len,List.length_append];simp only [encII,List.length_cons,List.length_nil];omega) λ v' M' ha' _=>?_
    have ha'':Acc 80 2 v' ((((l.take i).flatMap λ x=>t.row tk x l')++t.row tk x (l'.take (k+1))).flatMap encII) M' σ1.M:=by rw [hrow,<- List.append_assoc,List.flatMap_append (ys:=[(x,y)])];simpa using ha'
    obtain⟨ua,ul,uc,rfl,_⟩:=Acc.src (σ:={ σ5 with M:=M' }) ha''
    refine⟨hkn,?_⟩
    conv=>whnf
    exact⟨rfl,(k+1,.slice ua ul uc),⟨rfl,rfl,rfl,rfl,rfl,rfl,rfl,rfl,trivial⟩,⟨λ x o h=>h_5.imm x o (h_4.imm x o (hI3 x o h)),h_5.tok.trans (h_4.tok.trans ht3),ha'',by simp only;omega⟩,by show _-_<_-_;omega⟩
   ·have hno:¬decide (tk.lv<=t.lev tk.ed x y)=true:=by subst htk;rw [show decide (lv<=t.lev e x y)=false from hc];decide
    rw [if_neg hno,List.append_nil] at hrow
    refine⟨hkn,?_⟩
    conv=>whnf
    exact⟨rfl,(k+1,.slice ta tl tc),⟨rfl,rfl,rfl,rfl,rfl,rfl,rfl,rfl,trivial⟩,⟨λ x o h=>h_4.imm x o (hI3 x o h),h_4.tok.trans ht3,by rw [hrow,h_4.own];exact ha3,by simp only;omega⟩,by show _-_<_-_;omega⟩
  ·have hge:len'<=k:=by simpa using hc
   have htk':l'.take k=l':=List.take_of_length_le (by omega)
   rw [htk'] at ha3
   refine⟨hin,?_⟩
   conv=>whnf
   exact⟨rfl,(i+1,.slice ta tl tc),⟨rfl,rfl,rfl,rfl,rfl,rfl,rfl,trivial⟩,⟨hlg3,by rw [hnext];exact ha3,by simp only;omega⟩,by show _-_<_-_;omega⟩
 ·have hge:len<=i:=by simpa using hc
  rw [List.take_of_length_le (by omega)] at ha
  repeat refine⟨rfl,?_⟩
  conv=>whnf
  have hpp:t.prs tk=l.flatMap λ x=>t.row tk x l':=by rw [hprs];subst htk;rfl
  exact⟨by rw [hpp,<- h_1.own];exact ha,λ x o h=>hlg2.imm x o (h_1.imm x o h),hlg2.tok.trans h_1.tok⟩
end Go.Proofs
