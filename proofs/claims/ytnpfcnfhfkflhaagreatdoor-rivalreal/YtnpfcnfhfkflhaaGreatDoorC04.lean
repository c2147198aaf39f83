/- Lemmas of the proof. No conditions of their own. -/
import Derived.Test.YtnpfcnfhfkflhaaGreatDoorC03
import Derived.Test.YtnpfcnfhfkflhaaGreatDoorC02
import Derived.Test.YtnpfcnfhfkflhaaGreatDoorC01
set_option linter.all false
set_option maxRecDepth 100000
namespace Go.TM
variable {T:Type} {U:Qa T}
def Bk.nextsTo (b:Bk) (o:List Nat) (i:Nat):List Nat:=(List.range i).filter λ i=>b.can o i
theorem Bk.nextsTo_succ (b:Bk) (o:List Nat) (i:Nat):b.nextsTo o (i+1)=b.nextsTo o i++(if b.can o i then [i] else []):=by
 unfold Bk.nextsTo;rw [List.range_succ,List.filter_append];cases h:b.can o i <;> simp [h]
theorem Bk.nextsTo_len (b:Bk) (o:List Nat) (i:Nat):(b.nextsTo o i).length<=i:=Nat.le_trans (List.length_filter_le _ _) (by simp)
theorem Qp3 (o:List Nat) (i:Nat):(o.map λ (k:Nat)=>(k:Int)).contains (i:Int)=o.contains i:=by
 rw [Bool.eq_iff_iff,List.contains_iff_mem,List.contains_iff_mem,List.mem_map];constructor
 ·rintro⟨k,hk,e⟩;have:k=i:=by omega
  exact this ▸ hk
 ·intro h;exact⟨i,h,rfl⟩
theorem Bk.pickO_succ (b:Bk) (p:List Nat) (k:Nat) (o:List Nat):b.pickO p (k+1) o=b.pickO p k (o++[(b.nexts o).getD (p.getD o.length 0 % (b.nexts o).length) 0]):=rfl
end Go.TM
namespace Go.Proofs
open Go.TM
variable {T:Type} {S:TM.Sys Tryz.prog T} {U:Qa T}
attribute [local irreducible] Qb Zl Wt
theorem Qdh (a:Option Addr) (len cap:Nat) (p:List Nat) (hp:Q5 U a len 1 p λ n vs=>vs=[.int .u16 (n:Int)]/\n<65536) (k:Nat):Qb S 83 #[.slice a len cap,.int .i64 k] (λ v U'=>v=.int .i64 (p.getD k 0:Nat)/\U'=U) U:=by
 refine Qb.of (args:=[_,_]) Qpj Qf (by simp) ?_;have hpl:=hp.1
 repeat refine⟨rfl,?_⟩
 conv=>whnf
 apply Qe<;>intro hc
 ·have hlt:k<len:=by simpa using hc
  obtain⟨ad,n,vs,hx,hea,hsp,⟨rfl,hn⟩,-,hrd⟩:=hp.at hlt;have e:p.getD k 0=n:=by simp [List.getD_eq_getElem?_getD,hx]
  rw [e];refine⟨ad,k,⟨hea,rfl,hlt⟩,?_⟩;refine⟨_,hrd 0 _ rfl,?_⟩
  repeat refine⟨rfl,?_⟩
  conv=>whnf
  rw [wrap64 (by omega)];exact⟨rfl,rfl⟩
 ·have hge:len<=k:=by simp at hc;omega
  have e:p.getD k 0=0:=by simp [List.getD_eq_getElem?_getD,List.getElem?_eq_none (show p.length<=k by omega)]
  rw [e]
  repeat refine⟨rfl,?_⟩
  conv=>whnf
set_option maxHeartbeats 2000000 in
theorem Qga (h:BH) (b:Bk) (hb:Zq U.frz h b) (hok:b.Ok) (pa:Option Addr) (pl pc:Nat) (p:List Nat) (hp:Q5 U.frz pa pl 1 p λ n vs=>vs=[.int .u16 (n:Int)]/\n<65536) :
  Qb S 33 #[h.v,.slice pa pl pc] (λ v U'=>Jd U'.frz v ((b.pickO p b.cs.length []).map λ (k:Nat)=>(k:Int))/\U.le U') U:=by
 refine Qb.ints (e:=3) (Qb.of (args:=[_,_]) Qpf Qf (by simp) ?_);have hcl:=hb.cs.1;have hnc:=hok.nc
 repeat refine⟨rfl,?_⟩
 conv=>whnf
 intro B U1 h_1 hB;have hB:Zi U1 B #[.slice h.ra h.rl h.rc,.slice h.ca h.cl h.cc]:=hB;have hb1:=hb.lg h_1.lg.frz2
 refine⟨List Nat×Value,λ y=>[(1,.slice pa pl pc),(2,.pointer (some ⟨B,0,none⟩)),(5,y.2)],
  λ y U'=>U1.frz.lg U'/\Acc 3 1 y.2 ((y.1.map λ (k:Nat)=>(k:Int)).map λ n=>.int .i64 n) U'.M U.M/\b.Beg y.1/\b.pickO p (h.cl-y.1.length) y.1=b.pickO p h.cl [],λ y=>h.cl-y.1.length,([],.slice none 0 0),⟨rfl,rfl,rfl,trivial⟩,⟨Qp,by rw [h_1.own];exact .nil,.nil,rfl⟩,?_⟩
 rintro⟨o,v⟩ f U2 ⟨hl,hacc,hbeg,hpick⟩;simp only at hacc hbeg hpick;obtain⟨oa,oc,rfl,hO⟩:=Quu (U:=U2) hacc;rw [List.length_map] at hO hacc ⊢;have hol:=hbeg.le;have hB2:=hB.imI hl.imm;have hb2:=hb1.lg hl.frz2;refine⟨_,hB2.sees3 (o:=1) rfl,?_⟩
 repeat refine⟨rfl,?_⟩
 conv=>whnf
 apply Qe<;>intro hc
 ·have hlt:o.length<h.cl:=by simpa using hc
  refine⟨Nat×Value,λ y=>[(1,.slice pa pl pc),(2,.pointer (some ⟨B,0,none⟩)),(5,.slice oa o.length oc),(6,y.2),(7,.int .i64 y.1)],
   λ y U'=>U2.frz.lg U'/\Acc 3 1 y.2 (((b.nextsTo o y.1).map λ (k:Nat)=>(k:Int)).map λ n=>.int .i64 n) U'.M U2.M/\y.1<=h.cl,λ y=>h.cl-y.1,(0,.slice none 0 0),⟨rfl,rfl,rfl,rfl,rfl,trivial⟩,⟨Qp,.nil,by simp⟩,?_⟩
  rintro⟨i,vc⟩ f U3 ⟨hl3,haccC,hi⟩;simp only at haccC hi;obtain⟨A,hA,-⟩:=haccC.split;have h23:U2.lg U3:=⟨λ x o hx=>hl3.imm x o hx,⟨A,hA⟩,hl3.tok⟩;obtain⟨ca,cc,rfl,hC⟩:=Quu (U:=U3) haccC;rw [List.length_map] at hC haccC ⊢;have hO3:=hO.lg h23;have hB3:=hB2.lg h23;have hb3:=hb2.lg h23.frz2;have hin:Zu ((i:Int)+1):=by unfold Zu;omega
  have hnl:=b.nextsTo_len o i;refine⟨_,hB3.sees3 (o:=1) rfl,?_⟩
  repeat refine⟨rfl,?_⟩
  conv=>whnf
  apply Qe<;>intro hc
  ·have hlti:i<h.cl:=by simpa using hc
   obtain⟨ad,c,ga,gl,gc,aa,al,ac,hx,hea,hsp,hrd,-,-,ha,hal,hmem⟩:=hb3.case hlti;have hat:=Bk.aft1_at hx;have haf:=hok.af c hmem;have hall:=ha.1;refine⟨Qf7.any,(Qcf oa o.length oc (o.map λ (k:Nat)=>(k:Int)) hO3 (by omega) (i:Int)).go λ _=>?_⟩;rw [Qp3]
   refine⟨Nat×Bool,λ y=>[(1,.slice pa pl pc),(2,.pointer (some ⟨B,0,none⟩)),(5,.slice oa o.length oc),(6,.slice ca (b.nextsTo o i).length cc),(7,.int .i64 i),(8,.bool y.2),(9,.int .i64 y.1)],
    λ y U'=>U'=U3/\y.1<=al/\(!o.contains i && ((c.af.take y.1).map Int.toNat).all λ k=>o.contains k)=y.2,λ y=>al-y.1,(0,!o.contains i),⟨rfl,rfl,rfl,rfl,rfl,rfl,rfl,trivial⟩,⟨rfl,by simp,by simp⟩,?_⟩
   rintro⟨k,t⟩ f U4 ⟨hU,hk,ht⟩;obtain rfl:=hU.symm;simp only at hk ht;have hink:Zu ((k:Int)+1):=by unfold Zu;omega
   refine⟨_,hB3.sees3 (o:=1) rfl,?_⟩;refine⟨ad,i,⟨hea,rfl,hlti⟩,?_⟩;refine⟨_,(hrd.lg Qp).cell (i:=3) rfl,?_⟩
   repeat refine⟨rfl,?_⟩
   conv=>whnf
   apply Qe<;>intro hc
   ·have hltk:k<al:=by simpa using hc
    obtain⟨ad3,n,hxn,hea3,hsp3,hs3⟩:=(ha.lg Qp).at hltk;obtain⟨q,rfl⟩:=Int.eq_ofNat_of_zero_le (haf n (List.mem_of_getElem? hxn)).1
    have hnx:(!o.contains i && ((c.af.take (k+1)).map Int.toNat).all λ k=>o.contains k)=(t && o.contains q):=by
     rw [Ji hxn,List.map_append,List.all_append,<- Bool.and_assoc,ht];simp
    cases t with
    | false=>
     refine⟨hink,?_⟩
     conv=>whnf
     exact⟨rfl,(k+1,false),⟨rfl,rfl,rfl,rfl,rfl,rfl,rfl,trivial⟩,⟨rfl,by show k+1<=al;omega,hnx⟩,by show _-_<_-_;omega⟩
    | true=>
     refine⟨_,hB3.sees3 (o:=1) rfl,?_⟩;refine⟨ad,i,⟨hea,rfl,hlti⟩,?_⟩;refine⟨_,(hrd.lg Qp).cell (i:=3) rfl,?_⟩;refine⟨ad3,k,⟨hea3,rfl,hltk⟩,?_⟩;refine⟨_,hs3,?_⟩;refine⟨Qf7.any,(Qcf oa o.length oc (o.map λ (k:Nat)=>(k:Int)) hO3 (by omega) (q:Int)).go λ _=>?_⟩;rw [Qp3];refine⟨hink,?_⟩
     conv=>whnf
     exact⟨rfl,(k+1,o.contains q),⟨rfl,rfl,rfl,rfl,rfl,rfl,rfl,trivial⟩,⟨rfl,by show k+1<=al;omega,hnx⟩,by show _-_<_-_;omega⟩
   have hge:k=al:=by simp at hc;omega
   rw [List.take_of_length_le (by omega),<- hat] at ht;have hcan:b.can o i=t:=ht;have hsucc:=b.nextsTo_succ o i;rw [hcan] at hsucc;cases t with
   | false=>
    rw [if_neg (by simp),List.append_nil] at hsucc;refine⟨hin,?_⟩
    conv=>whnf
    exact⟨rfl,(i+1,.slice ca (b.nextsTo o i).length cc),⟨rfl,rfl,rfl,rfl,rfl,trivial⟩,⟨hl3,by rw [hsucc];exact haccC,by show i+1<=h.cl;omega⟩,by show _-_<_-_;omega⟩
   | true=>
    rw [if_pos rfl] at hsucc
    conv=>whnf
    intro b55 hf55;refine Zk hf55 λ U5 h5 hb55=>?_;have hb55:Zi U5 b55 #[.int .i64 i]:=hb55
    conv=>whnf
    refine Ws (v:=.slice ca (b.nextsTo o i).length cc) (cs:=((b.nextsTo o i).map λ (k:Nat)=>(k:Int)).map λ n=>.int .i64 n) (new:=[.int .i64 (i:Int)]) (M₀:=U2.M) Qat rfl rfl (by rw [h5.own];exact haccC) (.inr ⟨_,rfl,hb55.reads (λ k v hv=>by simpa using hv)⟩) rfl (by simp [Value.single]) (by simp;omega) λ v' M' ha' _=>?_;have ha'':Acc 3 1 v' (((b.nextsTo o (i+1)).map λ (k:Nat)=>(k:Int)).map λ n=>.int .i64 n) M' U2.M:=by rw [hsucc,List.map_append,List.map_append];exact ha'
    obtain⟨ta,tl,tc,rfl,-,-⟩:=Acc.src (U:={ U5 with M:=M' }) ha'';refine⟨hin,?_⟩
    conv=>whnf
    exact⟨rfl,(i+1,.slice ta tl tc),⟨rfl,rfl,rfl,rfl,rfl,trivial⟩,⟨⟨λ x o hx=>h5.imm x o (hl3.imm x o hx),⟨_,(List.append_nil _).symm⟩,h5.tok.trans hl3.tok⟩,ha'',by show i+1<=h.cl;omega⟩,by show _-_<_-_;omega⟩
  have hge:i=h.cl:=by simp at hc;omega
  subst hge;have hnx:b.nextsTo o h.cl=b.nexts o:=by unfold Bk.nextsTo Bk.nexts;rw [hcl]
  rw [hnx] at hC hnl ⊢;have hpos:=hbeg.next hok (by omega);obtain⟨q,hqq⟩:∃q,q=p.getD o.length 0 % (b.nexts o).length:=⟨_,rfl⟩;have hq:q<(b.nexts o).length:=hqq ▸ Nat.mod_lt _ hpos;obtain⟨hx1,hx2⟩:=Bk.nexts_at hq;obtain⟨m,hm⟩:∃m,h.cl-o.length=m+1:=⟨h.cl-o.length-1,by omega⟩;rw [hm,b.pickO_succ,<- hqq] at hpick;obtain⟨x,hxx⟩:∃x,x=(b.nexts o).getD q 0:=⟨_,rfl⟩;rw [<- hxx] at hx1 hx2 hpick
  have hgetC:(b.nexts o)[q]?=some x:=by
   rw [hxx,List.getD_eq_getElem?_getD,List.getElem?_eq_getElem hq];rfl
  obtain⟨ad4,x4,hx4,hea4,hsp4,hs4⟩:=hC.at hq;obtain rfl:(x:Int)=x4:=by rw [List.getElem?_map,hgetC] at hx4;exact Option.some.inj hx4
  have hrem:((p.getD o.length 0:Nat):Int).tmod ((b.nexts o).length:Nat)=(q:Nat):=by rw [hqq];exact (Int.ofNat_tmod _ _).symm
  refine⟨Qpj.any,(Qdh pa pl pc p (Q5.lg (R':=λ (n:Nat) vs=>vs=[.int .u16 (n:Int)]/\n<65536) hp ((h_1.lg.frz2.trans (hl.frz2.trans h23.frz2)).trans Qp) λ _ _ h=>h) o.length).go λ _=>?_⟩;refine⟨rfl,by omega,?_⟩;rw [hrem];refine⟨ad4,q,⟨hea4,rfl,hq⟩,?_⟩;refine⟨_,hs4,?_⟩
  conv=>whnf
  intro b68 hf68;refine Zbe (M':=U2.M) (M₀:=A) hf68 (by rw [hA];exact List.perm_append_comm) λ U5 hI5 ht5 hM_5 hb68=>?_;have hb68:Zi U5 b68 #[.int .i64 x]:=hb68
  conv=>whnf
  refine Ws (v:=.slice oa o.length oc) (cs:=(o.map λ (k:Nat)=>(k:Int)).map λ n=>.int .i64 n) (new:=[.int .i64 (x:Int)]) (M₀:=U.M) Qat rfl rfl (by rw [hM_5];exact hacc) (.inr ⟨_,rfl,hb68.reads (λ k v hv=>by simpa using hv)⟩) rfl (by simp [Value.single]) (by simp;omega) λ v' M' ha' _=>?_;have ha'':Acc 3 1 v' (((o++[x]).map λ (k:Nat)=>(k:Int)).map λ n=>.int .i64 n) M' U.M:=by rw [List.map_append,List.map_append];exact ha'
  obtain⟨ta,tl,tc,rfl,-,-⟩:=Acc.src (U:={ U5 with M:=M' }) ha''
  conv=>whnf
  exact⟨rfl,(o++[x],.slice ta tl tc),⟨rfl,rfl,rfl,trivial⟩,⟨⟨λ y u hy=>hI5 y u (hl3.imm y u (hl.imm y u hy)),⟨_,(List.append_nil _).symm⟩,ht5.trans (hl3.tok.trans hl.tok)⟩,ha'',hbeg.snoc hx1 hx2,by simp only [List.length_append,List.length_singleton];rw [show h.cl-(o.length+1)=m by omega];exact hpick⟩,by simp only [List.length_append,List.length_singleton];omega⟩
 ·have hge:o.length=h.cl:=by simp at hc;omega
  rw [show h.cl-o.length=0 by omega] at hpick;have hpick:o=b.pickO p h.cl []:=hpick
  repeat refine⟨rfl,?_⟩
  conv=>whnf
  exact⟨by rw [hcl,<- hpick];exact hacc,λ x o hx=>hl.imm x o (h_1.imm x o hx),hl.tok.trans h_1.tok⟩
theorem Qaq (U:Qa T) (s:Int) (hs:s=0\/s=1\/s=2) (is:Bool):Qb S 35 #[.int .i64 s,.bool is] (λ v U'=>v=.bool (s == 0 || ((s == 1) == is))/\U'=U) U:=by
 refine Qb.of (args:=[_,_]) Qdg Qf (by simp) ?_;rcases hs with rfl | rfl | rfl
 ·repeat refine⟨rfl,?_⟩
  conv=>whnf
 ·cases is
  ·repeat refine⟨rfl,?_⟩
   conv=>whnf
  ·repeat refine⟨rfl,?_⟩
   conv=>whnf
 ·cases is
  ·repeat refine⟨rfl,?_⟩
   conv=>whnf
  ·repeat refine⟨rfl,?_⟩
   conv=>whnf
theorem Qdc (a:Option Addr) (len cap:Nat) (l:List Int) (hl:Z5 U a len l) (hlen:len<2 ^ 60) (h3:∀n∈l,n=0\/n=1\/n=2):Qb S 34 #[.slice a len cap] (λ v U'=>v=.bool true/\U'=U) U:=by
 refine Qb.of (args:=[_]) Qek Qf (by simp) ?_;refine⟨Nat,λ i=>[(0,.slice a len cap),(3,.int .i64 i)],λ i U'=>U'=U/\i<=len,λ i=>len-i,0,⟨rfl,rfl,trivial⟩,⟨rfl,by omega⟩,?_⟩;rintro i f U1 ⟨hU,hi⟩;obtain rfl:=hU.symm;have hin:Zu ((i:Int)+1):=by unfold Zu;omega
 repeat refine⟨rfl,?_⟩
 conv=>whnf
 apply Qe<;>intro hc
 ·have hlt:i<len:=by simpa using hc
  obtain⟨ad,x,hx,hea,hsp,hs⟩:=hl.at hlt;refine⟨ad,i,⟨hea,rfl,hlt⟩,?_⟩;refine⟨_,hs,?_⟩;rcases h3 x (List.mem_of_getElem? hx) with rfl | rfl | rfl
  ·repeat refine⟨rfl,?_⟩
   refine⟨hin,?_⟩
   conv=>whnf
   exact⟨rfl,i+1,⟨rfl,rfl,trivial⟩,⟨rfl,by omega⟩,by show _-_<_-_;omega⟩
  ·repeat refine⟨rfl,?_⟩
   refine⟨ad,i,⟨hea,rfl,hlt⟩,?_⟩;refine⟨_,hs,?_⟩
   repeat refine⟨rfl,?_⟩
   refine⟨hin,?_⟩
   conv=>whnf
   exact⟨rfl,i+1,⟨rfl,rfl,trivial⟩,⟨rfl,by omega⟩,by show _-_<_-_;omega⟩
  ·repeat refine⟨rfl,?_⟩
   refine⟨ad,i,⟨hea,rfl,hlt⟩,?_⟩;refine⟨_,hs,?_⟩
   repeat refine⟨rfl,?_⟩
   refine⟨ad,i,⟨hea,rfl,hlt⟩,?_⟩;refine⟨_,hs,?_⟩
   repeat refine⟨rfl,?_⟩
   refine⟨hin,?_⟩
   conv=>whnf
   exact⟨rfl,i+1,⟨rfl,rfl,trivial⟩,⟨rfl,by omega⟩,by show _-_<_-_;omega⟩
 ·repeat refine⟨rfl,?_⟩
  conv=>whnf
  first | done | exact⟨rfl,rfl⟩
end Go.Proofs
namespace Go.TM
variable {T:Type} {P:Program} {S:Sys P T}
structure Hlr (U:Qa T) (b:Nat) (e:TypeId) (c:Array Value) (U':Qa T):Prop where
 imm:∀x o,U.I x=some o->U'.I x=some o
 own:U'.M=.obj b (.cells c e (0,0))::U.M
 tok:U'.tok=U.tok
 new:U.I b=none
theorem Hlr.le {U U' U'':Qa T} {b:Nat} {e:TypeId} {c:Array Value} (h:Hlr U b e c U') (k:U'.le U''):Hlr U b e c U'':=⟨λ x o i=>k.imm x o (h.imm x o i),k.own.trans h.own,k.tok.trans h.tok,h.new⟩
theorem Hlr.frz2 {U U':Qa T} {b:Nat} {e:TypeId} {c:Array Value} (h:Hlr U b e c U'):U.frz.lg U'.frz:=⟨h.imm,⟨[],rfl⟩,h.tok⟩
end Go.TM
namespace Go.TM
variable {T:Type} {U:Qa T}
def boC (l:List Bool):List Value:=l.map .bool
theorem Zc3 (l:List Bool) (i:Nat) (x:Bool):(boC l).toArray.setIfInBounds i (.bool x)=(boC (l.set i x)).toArray:=by
 simp [boC,List.map_set]
theorem Qel.of {b:Nat} {l:List Bool} (h:Jn U ⟨b,0,none⟩ (boC l)):Qel U (some ⟨b,0,none⟩) l.length l:=
 ⟨rfl,λ i x hx=>⟨_,rfl,rfl,by rw [Nat.mul_one];exact h i _ (by simp [boC,hx])⟩⟩
theorem Q4v {P:Program} {t:TypeId} (h:(match P.info? t with | some inf=>inf.zero.isSome && (match inf.zero with | some (.bool false)=>true | _=>false) && inf.size == 1 && decide (inf.bytes<=64) | none=>false)=true):∃inf,P.info? t=some inf/\inf.zero=some (.bool false)/\inf.size=1/\inf.bytes<=64:=by
 split at h
 ·rename_i inf hi;simp only [Bool.and_eq_true,beq_iff_eq,decide_eq_true_eq] at h;obtain⟨⟨⟨h1,h2⟩,h3⟩,h4⟩:=h;refine⟨inf,hi,?_,h3,h4⟩;split at h2
  ·assumption
  ·cases h2
 ·cases h
end Go.TM
namespace Go.Proofs
open Go.TM
variable {T:Type} {S:TM.Sys Tryz.prog T} {U:Qa T}
attribute [local irreducible] Qb Zl Wt
theorem Zbz:∃inf,Tryz.prog.info? 4=some inf/\inf.zero=some (.bool false)/\inf.size=1/\inf.bytes<=64:=Q4v (by kernel_rfl)
theorem Q0o:Tryz.prog.underlying 29=some (.slice 4):=by kernel_rfl
end Go.Proofs
namespace Go.TM
def Qoa (l:List Bool):List Bool:=l.map (!·)
theorem Q4x (l:List Bool) (i:Nat):(Qoa l).set i true=Qoa (l.set i false):=by simp [Qoa,List.map_set]
theorem Qvv {l:List Bool} {i:Nat} (h:i<l.length):(boC (Qoa l))[i]?=some (.bool (!l.getD i false)):=by
 simp [boC,Qoa,List.getD_eq_getElem?_getD,h]
end Go.TM
namespace Go.Proofs
open Go.TM
attribute [local irreducible] Qb Zl Wt
set_option maxHeartbeats 4000000 in
theorem Q4z {U:Qa Tk} (htok:U.tok=⟨0,.out,none⟩) (hk:Chk U) (h:BH) (b:Bk) (hb:Zq U.frz h b) (hnl:Q0n b) (hrc:h.rl<=h.rc) (hcc:h.cl<=h.cc) (pa:Option Addr) (pl pc:Nat) (p:List Nat) (hp:Q5 U.frz pa pl 1 p λ (n:Nat) vs=>vs=[.int .u16 (n:Int)]/\n<65536) (hpl:pl<2 ^ 60) :
  J (Zb Tryz.prog 209 6) (Fin Tryz.prog λ v U'=>v=.bool true/\U.lg U') true (Rf (Frame.enter Tryz.prog 5 #[h.v,.slice pa pl pc] .normal) []) U:=by
 refine Zpy (args:=[_,_]) (Q:=λ v U'=>v=.bool true/\U.lg U') Zcx Qf (by kernel_rfl) (by simp) (λ v U' q=>q.2.tok.trans htok) ?_;have hcl:=hb.cs.1;have hrl:=hb.rs.1;have fin:∀U2:Qa Tk,U.lg U2->Qb (Zb Tryz.prog 209 6) 20 #[] (λ v U'=>v=.bool true/\U'=U2) U2:=λ U2 h=>Zm2 (h.tok.trans htok) (hk.lg h)
 repeat refine⟨rfl,?_⟩
 conv=>whnf
 intro B U1 h_1 hB;have hB:Zi U1 B #[.slice h.ra h.rl h.rc,.slice h.ca h.cl h.cc]:=hB;have hb1:=hb.lg h_1.lg.frz2;have hrd:∀w:Qa Tk,U1.le w->Jn w ⟨B,0,none⟩ [.slice h.ra h.rl h.rc,.slice h.ca h.cl h.cc]:=λ w hw=>(hB.lg hw.lg).reads (λ k v hv=>by simpa using hv);refine⟨_,⟨rfl,hrd _ (.refl _)⟩,?_⟩;refine⟨Zij.any,(Zm1 h b hb1 hnl hrc).mono ?_⟩;rintro _ U' ⟨⟨g,rfl,hg⟩,hU'⟩ -;obtain rfl:=hU'.symm
 repeat refine⟨rfl,?_⟩
 conv=>whnf
 apply Qe<;>intro hc
 ·refine⟨Zii.any,(fin _ h_1.lg).go λ _=>?_⟩
  repeat refine⟨rfl,?_⟩
  conv=>whnf
  exact h_1.lg
 have hf:b.flaw Qu=0:=hg (by simpa using hc);have hok:=Bk.ok_of hf;have hnr:=hok.nr;have hnc:=hok.nc;have hatC:∀i,i<h.cl->b.fatesC[i]?=some (b.fatC i):=λ i hi=>by simp [Bk.fatesC,hcl,hi]
 have hatR:∀i,i<h.rl->b.fatesR[i]?=some (b.fatR i):=λ i hi=>by simp [Bk.fatesR,hrl,hi]
 refine⟨_,⟨rfl,hrd _ (.refl _)⟩,?_⟩;refine⟨Qpf.any,(Qga h b hb1 hok pa pl pc p (Q5.lg (R':=λ (n:Nat) vs=>vs=[.int .u16 (n:Int)]/\n<65536) hp h_1.lg.frz2 λ _ _ h=>h)).mono ?_⟩;rintro _ U2 ⟨⟨oa,oc,rfl,hO⟩,h_2⟩ -;have ho:=Bk.pick_ord hok p;generalize b.pickO p b.cs.length []=o at ho hO ⊢;rw [List.length_map] at hO ⊢;have hol:o.length=h.cl:=by rw [ho.len,hcl]
 have hof:b.outF (o.map λ (k:Nat)=>(k:Int))=0:=by unfold Bk.outF;rw [if_pos hf];exact ho.flaw
 have hom:(o.map λ (k:Nat)=>(k:Int)).map Int.toNat=o:=by
  rw [List.map_map];exact (List.map_congr_left (λ _ _=>rfl)).trans (List.map_id o)
 refine⟨_,⟨rfl,hrd _ h_2⟩,?_⟩;refine⟨Qq3.any,(Qfz h b (hb1.lg h_2.lg.frz2) (hk.lg (h_1.trans h_2).lg) oa o.length oc _ hO (by omega)).mono ?_⟩;rintro _ U3 ⟨⟨v1,v2,rfl,b1,b2⟩,h_3⟩ -;rw [hof,if_pos rfl,hom] at b1 b2;rw [hof];obtain⟨xa,xc,rfl,hX⟩:=b1;obtain⟨ya,yc,rfl,hY⟩:=b2;have hel:=b.end_len o;rw [hel.1,hrl,hel.2,hcl];have h_23:=h_2.trans h_3;refine⟨_,⟨rfl,hrd _ h_23⟩,?_⟩;refine⟨Q1x.any,(Quz h b (hb1.lg h_23.lg.frz2) (hk.lg (h_1.trans h_23).lg)).mono ?_⟩;rintro _ U4 ⟨⟨_,_,rfl,⟨ra,rc,rfl,hR⟩,⟨ca,cc,rfl,hC⟩⟩,h_4⟩ -;rw [hf] at hR hC ⊢;rw [if_pos rfl] at hR hC;rw [if_pos rfl,if_pos rfl];rw [show b.fatesC.length=h.cl by simp [Bk.fatesC,hcl]] at hC ⊢;rw [show b.fatesR.length=h.rl by simp [Bk.fatesR,hrl]] at hR ⊢;have h24:=h_23.trans h_4;have hB4:=hB.lg h24.lg;have hb4:=hb1.lg h24.lg.frz2;have hend4:=(h_1.trans h24).lg;have hM4:U4.M=U.M:=(h_1.trans h24).own;have hO4:Z5 U4.frz oa o.length _:=hO.lg (h_3.trans h_4).lg.frz2;have hX4:∀i x,(b.ends o).1[i]?=some x->∃ad,xa=some ad/\ad.spot=none/\U4.frz.sees (ad.add (i*1)) (.bool x):=λ i x hx=>let ⟨ad,e,s,r⟩:=hX i x hx;⟨ad,e,s,r.lg h_4.lg.frz2⟩;have hY4:∀i x,(b.ends o).2[i]?=some x->∃ad,ya=some ad/\ad.spot=none/\U4.frz.sees (ad.add (i*1)) (.bool x):=λ i x hx=>let ⟨ad,e,s,r⟩:=hY i x hx;⟨ad,e,s,r.lg h_4.lg.frz2⟩
 repeat refine⟨rfl,?_⟩
 refine⟨_,hB4.sees3 (o:=0) rfl,?_⟩
 repeat refine⟨rfl,?_⟩
 conv=>whnf
 apply Zr<;>intro hc
 rotate_left
 ·exact absurd hc (by simp)
 refine⟨_,hB4.sees3 (o:=1) rfl,?_⟩
 repeat refine⟨rfl,?_⟩
 conv=>whnf
 apply Zr<;>intro hc
 rotate_left
 ·exact absurd hc (by simp)
 repeat refine⟨rfl,?_⟩
 conv=>whnf
 apply Zr<;>intro hc
 rotate_left
 ·exact absurd hc (by simp)
 repeat refine⟨rfl,?_⟩
 conv=>whnf
 apply Zr<;>intro hc
 rotate_left
 ·exact absurd hc (by simp)
 refine⟨Qek.any,(Qdc ra h.rl rc b.fatesR (hR.lg Qp) (by omega) (λ n hn=>by obtain⟨i,-,rfl⟩:=List.mem_map.1 hn;exact Qae _ _)).go λ _=>?_⟩;refine⟨Qek.any,(Qdc ca h.cl cc b.fatesC (hC.lg Qp) (by omega) (λ n hn=>by obtain⟨i,-,rfl⟩:=List.mem_map.1 hn;exact Qae _ _)).go λ _=>?_⟩;obtain⟨i4,i4a,i4b,i4c,i4d⟩:=Zbz
 conv=>whnf
 refine Qlj (n:=h.rl) Q0o i4a i4b rfl i4c i4d rfl rfl (by omega) λ fb hfb=>?_
 let MM:List Bool->List Qx:=λ s=>.obj fb (.cells (boC (Qoa s)).toArray 4 (0,0))::U.M
 have hini:(List.replicate h.rl (Value.bool false)).toArray=(boC (Qoa b.ini.1)).toArray:=by simp [boC,Qoa,Bk.ini,hrl]
 refine⟨Nat,λ i=>[(2,.pointer (some ⟨B,0,none⟩)),(5,.slice oa o.length oc),(6,.slice xa h.rl xc),(7,.slice ya h.cl yc),(9,.slice ra h.rl rc),(10,.slice ca h.cl cc),(12,.slice (some ⟨fb,0,none⟩) h.rl h.rl),(13,.int .i64 i)],λ i U'=>U4.frz.lg U'/\i<=o.length/\U'.M=MM (b.ends (o.take i)).1,λ i=>o.length-i,0,⟨rfl,rfl,rfl,rfl,rfl,rfl,rfl,rfl,trivial⟩,⟨⟨λ _ _ h=>h,⟨_,(List.append_nil _).symm⟩,rfl⟩,by omega,?_⟩,?_⟩
 ·show _::U4.M=_;rw [hM4,hini];rfl
 rintro i f U5 ⟨hl5,hi,hM5⟩;have hin:Zu ((i:Int)+1):=by unfold Zu;omega
 repeat refine⟨rfl,?_⟩
 conv=>whnf
 apply Qe<;>intro hc
 ·have hlt:i<o.length:=by simpa using hc
  obtain⟨n,hxn⟩:∃n,o[i]?=some n:=⟨_,List.getElem?_eq_getElem hlt⟩;have hn:=ho.low n (List.mem_of_getElem? hxn);have hncl:n<h.cl:=by omega
  obtain⟨adO,x2,hx2,heO,hspO,hsO⟩:=hO4.at hlt;obtain rfl:(n:Int)=x2:=by rw [List.getElem?_map,hxn] at hx2;exact Option.some.inj hx2
  obtain⟨ad,c,ga,gl,gc,aa,al,ac,hx,hea,hsp,hrd4,hg,hgl,ha,hal,hmem⟩:=hb4.case hncl;have hcas:b.cas n=c:=by simp [Bk.cas,List.getD_eq_getElem?_getD,hx]
  have hag:=hok.ag c hmem;have hgs:=hok.gs c hmem;have hSl:(b.ends (o.take i)).1.length=h.rl:=by rw [(b.end_len _).1,hrl]
  have hnext:b.ends (o.take (i+1))=b.stp (b.ends (o.take i)) n:=by rw [Ji hxn,b.ends_snoc]
  have hwon:=b.won_at hok ho hxn;rw [hcas] at hwon;unfold Bk.stp at hnext;rw [hcas] at hnext;generalize hS:(b.ends (o.take i)).1=s at *;have hlx:∀w:Qa Tk,U5.le w->U4.frz.lg w:=λ w hw=>hl5.trans hw.lg;have hBx:∀w:Qa Tk,U5.le w->Zi w B #[.slice h.ra h.rl h.rc,.slice h.ca h.cl h.cc]:=λ w hw=>hB4.imI (hlx w hw).imm;refine⟨Nat×Bool,λ y=>[(2,.pointer (some ⟨B,0,none⟩)),(5,.slice oa o.length oc),(6,.slice xa h.rl xc),(7,.slice ya h.cl yc),(9,.slice ra h.rl rc),(10,.slice ca h.cl cc),(12,.slice (some ⟨fb,0,none⟩) h.rl h.rl),(13,.int .i64 i),(14,.bool y.2),(15,.int .i64 y.1)],λ y U'=>U5.le U'/\y.1<=gl/\Zng (c.gs.take y.1) s=y.2,λ y=>gl-y.1,(0,false),⟨rfl,rfl,rfl,rfl,rfl,rfl,rfl,rfl,rfl,rfl,trivial⟩,⟨.refl _,by simp,rfl⟩,?_⟩;rintro⟨k,t⟩ f U6 ⟨h6,hk,ht⟩;simp only at hk ht;have hink:Zu ((k:Int)+1):=by unfold Zu;omega
  refine⟨_,(hBx _ h6).sees3 (o:=1) rfl,?_⟩;refine⟨adO,i,⟨heO,rfl,hlt⟩,?_⟩;refine⟨_,hsO.lg (hlx _ h6),?_⟩;refine⟨ad,n,⟨hea,rfl,hncl⟩,?_⟩;refine⟨_,(hrd4.lg (hlx _ h6)).cell (i:=2) rfl,?_⟩
  conv=>whnf
  intro U7 h7 _;have h57:=h6.trans h7
  repeat refine⟨rfl,?_⟩
  conv=>whnf
  apply Qe<;>intro hc
  ·have hltk:k<gl:=by simpa using hc
   obtain⟨ad2,g2,ga2,gl2,gc2,hxg,hea2,hsp2,hs2,hi2,hgl2,hgm⟩:=hg.at hltk;have hg2l:=hi2.1;have hgin:=(hgs g2 hgm).2
   have hnx:Zng (c.gs.take (k+1)) s=(t || g2.all λ r=>s.getD r.toNat false):=by
    unfold Zng at ht ⊢;rw [Ji hxg,List.any_append,ht];simp
   refine⟨Nat×Bool,λ y=>[(2,.pointer (some ⟨B,0,none⟩)),(5,.slice oa o.length oc),(6,.slice xa h.rl xc),(7,.slice ya h.cl yc),(9,.slice ra h.rl rc),(10,.slice ca h.cl cc),(12,.slice (some ⟨fb,0,none⟩) h.rl h.rl),(13,.int .i64 i),(14,.bool t),(15,.int .i64 k),(16,.bool y.2),(17,.int .i64 y.1)],λ y U'=>U7.le U'/\y.1<=gl2/\((g2.take y.1).all λ r=>s.getD r.toNat false)=y.2,λ y=>gl2-y.1,(0,true),⟨rfl,rfl,rfl,rfl,rfl,rfl,rfl,rfl,rfl,rfl,rfl,rfl,trivial⟩,⟨.refl _,by simp,rfl⟩,?_⟩;rintro⟨j,u⟩ f U8 ⟨h8,hj,hu⟩;simp only at hj hu;have hinj:Zu ((j:Int)+1):=by unfold Zu;omega
   have h58:=h57.trans h8;refine⟨_,(hBx _ h58).sees3 (o:=1) rfl,?_⟩;refine⟨adO,i,⟨heO,rfl,hlt⟩,?_⟩;refine⟨_,hsO.lg (hlx _ h58),?_⟩;refine⟨ad,n,⟨hea,rfl,hncl⟩,?_⟩;refine⟨_,(hrd4.lg (hlx _ h58)).cell (i:=2) rfl,?_⟩;refine⟨ad2,k,⟨hea2,rfl,hltk⟩,?_⟩;refine⟨_,hs2.lg (hlx _ h58),?_⟩
   conv=>whnf
   intro U9 h9 _;have h59:=h58.trans h9
   repeat refine⟨rfl,?_⟩
   conv=>whnf
   apply Qe<;>intro hc
   ·have hltj:j<gl2:=by simpa using hc
    obtain⟨ad3,n2,hxn2,hea3,hsp3,hs3⟩:=hi2.at hltj;obtain⟨hn0,hn1⟩:=hgin n2 (List.mem_of_getElem? hxn2);have hn2:n2.toNat<h.rl:=by unfold Bk.nr at hn1;omega
    have hnu:((g2.take (j+1)).all λ r=>s.getD r.toNat false)=(u && s.getD n2.toNat false):=by rw [Ji hxn2,List.all_append,hu];simp
    cases u with
    | false=>
     conv=>whnf
     intro Ua ka _;refine⟨hinj,?_⟩
     conv=>whnf
     exact⟨rfl,(j+1,false),⟨rfl,rfl,rfl,rfl,rfl,rfl,rfl,rfl,rfl,rfl,rfl,rfl,trivial⟩,⟨(h8.trans h9).trans ka,by show j+1<=gl2;omega,hnu⟩,by show _-_<_-_;omega⟩
    | true=>
     refine⟨_,(hBx _ h59).sees3 (o:=1) rfl,?_⟩;refine⟨adO,i,⟨heO,rfl,hlt⟩,?_⟩;refine⟨_,hsO.lg (hlx _ h59),?_⟩;refine⟨ad,n,⟨hea,rfl,hncl⟩,?_⟩;refine⟨_,(hrd4.lg (hlx _ h59)).cell (i:=2) rfl,?_⟩;refine⟨ad2,k,⟨hea2,rfl,hltk⟩,?_⟩;refine⟨_,hs2.lg (hlx _ h59),?_⟩;refine⟨ad3,j,⟨hea3,rfl,hltj⟩,?_⟩;refine⟨_,hs3.lg (hlx _ h59),?_⟩
     conv=>whnf
     intro Ua ka _;have h5a:=h59.trans ka;have hMa:Ua.M=MM s:=by rw [h5a.own,hM5]
     have hfs:Ua.sees ((Addr.mk fb 0 none).add (n2.toNat*1)) (.bool (!s.getD n2.toNat false)):=by rw [Nat.mul_one];exact Za [] hMa _ _ (Qvv (by omega))
     refine⟨_,n2.toNat,⟨rfl,(Int.toNat_of_nonneg hn0).symm,hn2⟩,?_⟩;refine⟨_,hfs,?_⟩;refine⟨hinj,?_⟩
     conv=>whnf
     exact⟨rfl,(j+1,!(!s.getD n2.toNat false)),⟨rfl,rfl,rfl,rfl,rfl,rfl,rfl,rfl,rfl,rfl,rfl,rfl,trivial⟩,⟨(h8.trans h9).trans ka,by show j+1<=gl2;omega,by rw [hnu];simp⟩,by show _-_<_-_;omega⟩
   have hge:j=gl2:=by simp at hc;omega
   rw [List.take_of_length_le (by omega)] at hu;rw [hu] at hnx;cases t with
   | true=>
    refine⟨hink,?_⟩
    conv=>whnf
    exact⟨rfl,(k+1,true),⟨rfl,rfl,rfl,rfl,rfl,rfl,rfl,rfl,rfl,rfl,trivial⟩,⟨h59,by show k+1<=gl;omega,hnx⟩,by show _-_<_-_;omega⟩
   | false=>
    refine⟨hink,?_⟩
    conv=>whnf
    exact⟨rfl,(k+1,u),⟨rfl,rfl,rfl,rfl,rfl,rfl,rfl,rfl,rfl,rfl,trivial⟩,⟨h59,by show k+1<=gl;omega,hnx⟩,by show _-_<_-_;omega⟩
  have hge:k=gl:=by simp at hc;omega
  rw [List.take_of_length_le (by rw [hg.1];omega)] at ht;rw [ht] at hwon hnext
  have hyn:(b.ends o).2[n]?=some t:=by
   have hl:n<(b.ends o).2.length:=by rw [hel.2];exact hn
   rw [List.getElem?_eq_getElem hl,<- hwon,List.getD_eq_getElem?_getD,List.getElem?_eq_getElem hl];rfl
  obtain⟨adY,heY,hspY,hsY⟩:=hY4 n t hyn;obtain⟨adC,xC,hxC,hCa,hCs,hsC⟩:=hC.at hncl;obtain rfl:b.fatC n=xC:=Option.some.inj ((hatC n hncl).symm.trans hxC);have hagC:=b.agC hok ho n;rw [hwon] at hagC;have hag1:c.ag=(c.ag.toNat:Int)/\c.ag.toNat<h.rl:=by unfold Bk.nr at hag;omega
  cases t with
  | true=>
   refine⟨adO,i,⟨heO,rfl,hlt⟩,?_⟩;refine⟨_,hsO.lg (hlx _ h57),?_⟩;refine⟨adY,n,⟨heY,rfl,hncl⟩,?_⟩;refine⟨_,hsY.lg (hlx _ h57),?_⟩
   repeat refine⟨rfl,?_⟩
   refine⟨adO,i,⟨heO,rfl,hlt⟩,?_⟩;refine⟨_,hsO.lg (hlx _ h57),?_⟩;refine⟨adC,n,⟨hCa,rfl,hncl⟩,?_⟩;refine⟨_,hsC.lg (hlx _ h57),?_⟩;refine⟨Qdg.any,(Qaq U7 (b.fatC n) (Qae _ _) true).go λ _=>?_⟩;rw [hagC];refine⟨_,(hBx _ h57).sees3 (o:=1) rfl,?_⟩;refine⟨adO,i,⟨heO,rfl,hlt⟩,?_⟩;refine⟨_,hsO.lg (hlx _ h57),?_⟩;refine⟨ad,n,⟨hea,rfl,hncl⟩,?_⟩;refine⟨_,(hrd4.lg (hlx _ h57)).cell (i:=1) rfl,?_⟩
   conv=>whnf
   intro Ua ka _;refine⟨_,c.ag.toNat,⟨rfl,hag1.1,hag1.2⟩,?_⟩;refine⟨rfl,Zpc (L₁:=[]) (by rw [ka.own,h57.own,hM5];first | done | exact List.Perm.refl _) (by rw [Nat.mul_one];simp [boC,Qoa];omega) rfl λ x1 k1 k2 k3=>?_⟩
   have hM':x1.M=MM (s.set c.ag.toNat false):=by
    rw [k3,Nat.mul_one];show ([]:List Qx)++Qx.obj fb (.cells ((boC (Qoa s)).toArray.setIfInBounds c.ag.toNat (.bool true)) 4 (0,0))::_=_;rw [Zc3,Q4x];rfl
   have hla:=hlx _ (h57.trans ka);simp only [if_true] at hnext;refine⟨hin,?_⟩
   conv=>whnf
   exact⟨rfl,i+1,⟨rfl,rfl,rfl,rfl,rfl,rfl,rfl,rfl,trivial⟩,⟨⟨λ x o hx=>by rw [k1];exact hla.imm x o hx,⟨_,(List.append_nil _).symm⟩,by rw [k2];exact hla.tok⟩,by omega,by rw [hM',hnext]⟩,by show _-_<_-_;omega⟩
  | false=>
   refine⟨adO,i,⟨heO,rfl,hlt⟩,?_⟩;refine⟨_,hsO.lg (hlx _ h57),?_⟩;refine⟨adY,n,⟨heY,rfl,hncl⟩,?_⟩;refine⟨_,hsY.lg (hlx _ h57),?_⟩
   repeat refine⟨rfl,?_⟩
   refine⟨adO,i,⟨heO,rfl,hlt⟩,?_⟩;refine⟨_,hsO.lg (hlx _ h57),?_⟩;refine⟨adC,n,⟨hCa,rfl,hncl⟩,?_⟩;refine⟨_,hsC.lg (hlx _ h57),?_⟩;refine⟨Qdg.any,(Qaq U7 (b.fatC n) (Qae _ _) false).go λ _=>?_⟩;rw [hagC];refine⟨hin,?_⟩
   conv=>whnf
   have hnext':(b.ends (o.take (i+1))).1=s:=by rw [hnext,if_neg (by simp)];exact hS
   exact⟨rfl,i+1,⟨rfl,rfl,rfl,rfl,rfl,rfl,rfl,rfl,trivial⟩,⟨hlx _ h57,by omega,by rw [hnext',h57.own,hM5]⟩,by show _-_<_-_;omega⟩
 have hge:i=o.length:=by simp at hc;omega
 rw [List.take_of_length_le (by omega)] at hM5;refine⟨Nat,λ k=>[(6,.slice xa h.rl xc),(9,.slice ra h.rl rc),(12,.slice (some ⟨fb,0,none⟩) h.rl h.rl),(18,.int .i64 k)],λ k U'=>U5.le U'/\k<=h.rl,λ k=>h.rl-k,0,⟨rfl,rfl,rfl,rfl,trivial⟩,⟨.refl _,by omega⟩,?_⟩;rintro k f U6 ⟨h6,hk'⟩;have hink:Zu ((k:Int)+1):=by unfold Zu;omega
 have hM6:U6.M=MM (b.ends o).1:=h6.own.trans hM5;have hl6:U4.frz.lg U6:=hl5.trans h6.lg;have hend:∀w:Qa Tk,U5.le w->U.lg w:=λ w hw=>⟨λ x u hx=>hw.imm x u (hl5.imm x u (hend4.imm x u hx)),⟨[_],hw.own.trans hM5⟩,hw.tok.trans (hl5.tok.trans hend4.tok)⟩
 repeat refine⟨rfl,?_⟩
 conv=>whnf
 apply Qe<;>intro hc
 ·have hlt:k<h.rl:=by simpa using hc
  have hkl:k<(b.ends o).1.length:=by rw [hel.1,hrl];exact hlt
  obtain⟨x,hxk⟩:∃x,(b.ends o).1[k]?=some x:=⟨_,List.getElem?_eq_getElem hkl⟩;have hgd:(b.ends o).1.getD k false=x:=by simp [List.getD_eq_getElem?_getD,hxk]
  obtain⟨adX,heX,hspX,hsX⟩:=hX4 k x hxk;obtain⟨adR,xR,hxR,hRa,hRs,hsR⟩:=hR.at hlt;obtain rfl:b.fatR k=xR:=Option.some.inj ((hatR k hlt).symm.trans hxR);have hagR:=b.agR hok ho k;rw [hgd] at hagR;have hfs:U6.sees ((Addr.mk fb 0 none).add (k*1)) (.bool (!x)):=by rw [Nat.mul_one,<- hgd];exact Za [] hM6 _ _ (Qvv hkl)
  cases x
  all_goals
   refine⟨adX,k,⟨heX,rfl,hlt⟩,?_⟩;refine⟨_,hsX.lg hl6,?_⟩;refine⟨_,k,⟨rfl,rfl,hlt⟩,?_⟩;refine⟨_,hfs,?_⟩
   repeat refine⟨rfl,?_⟩
   refine⟨adR,k,⟨hRa,rfl,hlt⟩,?_⟩;refine⟨_,hsR.lg hl6,?_⟩;refine⟨adX,k,⟨heX,rfl,hlt⟩,?_⟩;refine⟨_,hsX.lg hl6,?_⟩
   conv=>whnf
   intro Ua ka _;refine⟨Qdg.any,(Qaq Ua (b.fatR k) (Qae _ _) _).go λ _=>?_⟩;rw [hagR];refine⟨hink,?_⟩
   conv=>whnf
   exact⟨rfl,k+1,⟨rfl,rfl,rfl,rfl,trivial⟩,⟨h6.trans ka,by omega⟩,by show _-_<_-_;omega⟩
 ·refine⟨Zii.any,(fin _ (hend _ h6)).go λ _=>?_⟩
  repeat refine⟨rfl,?_⟩
  conv=>whnf
  exact hend _ h6
end Go.Proofs
