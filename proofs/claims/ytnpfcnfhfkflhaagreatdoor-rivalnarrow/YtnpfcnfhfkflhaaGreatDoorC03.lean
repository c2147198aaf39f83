/- Lemmas of the proof. No conditions of their own. -/
import Derived.Test.YtnpfcnfhfkflhaaGreatDoorC02
set_option linter.all false
set_option maxRecDepth 100000
namespace Go.TM
variable {T:Type} {U:Qa T}
def Bk.nextsTo (b:Bk) (o:List Nat) (i:Nat):List Nat:=(List.range i).filter λ i=>b.can o i
theorem Bk.nextsTo_succ (b:Bk) (o:List Nat) (i:Nat):b.nextsTo o (i+1)=b.nextsTo o i++(if b.can o i then [i] else []):=by
 unfold Bk.nextsTo;rw [List.range_succ,List.filter_append];cases h:b.can o i <;> simp [h]
theorem Bk.nextsTo_len (b:Bk) (o:List Nat) (i:Nat):(b.nextsTo o i).length<=i:=Nat.le_trans (List.length_filter_le _ _) (by simp)
theorem Qvy (o:List Nat) (i:Nat):(o.map λ (k:Nat)=>(k:Int)).contains (i:Int)=o.contains i:=by
 rw [Bool.eq_iff_iff,List.contains_iff_mem,List.contains_iff_mem,List.mem_map];constructor
 ·rintro⟨k,hk,e⟩;have:k=i:=by omega
  exact this ▸ hk
 ·intro h;exact⟨i,h,rfl⟩
theorem Bk.pickO_succ (b:Bk) (p:List Nat) (k:Nat) (o:List Nat):b.pickO p (k+1) o=b.pickO p k (o++[(b.nexts o).getD (p.getD o.length 0 % (b.nexts o).length) 0]):=rfl
end Go.TM
namespace Go.Proofs
open Go.TM
variable {T:Type} {S:TM.Sys Tryz.prog T} {U:Qa T}
attribute [local irreducible] Qb Zl Wt
theorem Qae (a:Option Addr) (len cap:Nat) (p:List Nat) (hp:Q5 U a len 1 p λ n vs=>vs=[.int .u16 (n:Int)]/\n<65536) (k:Nat):Qb S 83 #[.slice a len cap,.int .i64 k] (λ v U'=>v=.int .i64 (p.getD k 0:Nat)/\U'=U) U:=by
 refine Qb.of (args:=[_,_]) Qbj Qf (by simp) ?_;have hpl:=hp.1
 repeat refine⟨rfl,?_⟩
 conv=>whnf
 apply Qe<;>intro hc
 ·have hlt:k<len:=by simpa using hc
  obtain⟨ad,n,vs,hx,hea,hsp,⟨rfl,hn⟩,-,hrd⟩:=hp.at hlt;have e:p.getD k 0=n:=by simp [List.getD_eq_getElem?_getD,hx]
  rw [e];refine⟨ad,k,⟨hea,rfl,hlt⟩,?_⟩;refine⟨_,hrd 0 _ rfl,?_⟩
  repeat refine⟨rfl,?_⟩
  conv=>whnf
  rw [wrap64 (by omega)];exact⟨rfl,rfl⟩
 ·have hge:len<=k:=by simp at hc;omega
  have e:p.getD k 0=0:=by simp [List.getD_eq_getElem?_getD,List.getElem?_eq_none (show p.length<=k by omega)]
  rw [e]
  repeat refine⟨rfl,?_⟩
  conv=>whnf
set_option maxHeartbeats 2000000 in
theorem Qoa (h:BH) (b:Bk) (hb:Zq U.frz h b) (hok:b.Ok) (pa:Option Addr) (pl pc:Nat) (p:List Nat) (hp:Q5 U.frz pa pl 1 p λ n vs=>vs=[.int .u16 (n:Int)]/\n<65536) :
  Qb S 33 #[h.v,.slice pa pl pc] (λ v U'=>Jd U'.frz v ((b.pickO p b.cs.length []).map λ (k:Nat)=>(k:Int))/\U.le U') U:=by
 refine Qb.ints (e:=3) (Qb.of (args:=[_,_]) Qp5 Qf (by simp) ?_);have hcl:=hb.cs.1;have hnc:=hok.nc
 repeat refine⟨rfl,?_⟩
 conv=>whnf
 intro B U1 h_1 hB;have hB:Zi U1 B #[.slice h.ra h.rl h.rc,.slice h.ca h.cl h.cc]:=hB;have hb1:=hb.lg h_1.lg.frz2
 refine⟨List Nat×Value,λ y=>[(1,.slice pa pl pc),(2,.pointer (some ⟨B,0,none⟩)),(5,y.2)],
  λ y U'=>U1.frz.lg U'/\Acc 3 1 y.2 ((y.1.map λ (k:Nat)=>(k:Int)).map λ n=>.int .i64 n) U'.M U.M/\b.Beg y.1/\b.pickO p (h.cl-y.1.length) y.1=b.pickO p h.cl [],λ y=>h.cl-y.1.length,([],.slice none 0 0),⟨rfl,rfl,rfl,trivial⟩,⟨Qp,by rw [h_1.own];exact .nil,.nil,rfl⟩,?_⟩
 rintro⟨o,v⟩ f U2 ⟨hl,hacc,hbeg,hpick⟩;simp only at hacc hbeg hpick;obtain⟨oa,oc,rfl,hO⟩:=Quu (U:=U2) hacc;rw [List.length_map] at hO hacc ⊢;have hol:=hbeg.le;have hB2:=hB.imI hl.imm;have hb2:=hb1.lg hl.frz2;refine⟨_,hB2.sees3 (o:=1) rfl,?_⟩
 repeat refine⟨rfl,?_⟩
 conv=>whnf
 apply Qe<;>intro hc
 ·have hlt:o.length<h.cl:=by simpa using hc
  refine⟨Nat×Value,λ y=>[(1,.slice pa pl pc),(2,.pointer (some ⟨B,0,none⟩)),(5,.slice oa o.length oc),(6,y.2),(7,.int .i64 y.1)],
   λ y U'=>U2.frz.lg U'/\Acc 3 1 y.2 (((b.nextsTo o y.1).map λ (k:Nat)=>(k:Int)).map λ n=>.int .i64 n) U'.M U2.M/\y.1<=h.cl,λ y=>h.cl-y.1,(0,.slice none 0 0),⟨rfl,rfl,rfl,rfl,rfl,trivial⟩,⟨Qp,.nil,by simp⟩,?_⟩
  rintro⟨i,vc⟩ f U3 ⟨hl3,haccC,hi⟩;simp only at haccC hi;obtain⟨A,hA,-⟩:=haccC.split;have h23:U2.lg U3:=⟨λ x o hx=>hl3.imm x o hx,⟨A,hA⟩,hl3.tok⟩;obtain⟨ca,cc,rfl,hC⟩:=Quu (U:=U3) haccC;rw [List.length_map] at hC haccC ⊢;have hO3:=hO.lg h23;have hB3:=hB2.lg h23;have hb3:=hb2.lg h23.frz2;have hin:Zu ((i:Int)+1):=by unfold Zu;omega
  have hnl:=b.nextsTo_len o i;refine⟨_,hB3.sees3 (o:=1) rfl,?_⟩
  repeat refine⟨rfl,?_⟩
  conv=>whnf
  apply Qe<;>intro hc
  ·have hlti:i<h.cl:=by simpa using hc
   obtain⟨ad,c,ga,gl,gc,aa,al,ac,hx,hea,hsp,hrd,-,-,ha,hal,hmem⟩:=hb3.case hlti;have hat:=Bk.aft1_at hx;have haf:=hok.af c hmem;have hall:=ha.1;refine⟨Qf7.any,(Qaq oa o.length oc (o.map λ (k:Nat)=>(k:Int)) hO3 (by omega) (i:Int)).go λ _=>?_⟩;rw [Qvy]
   refine⟨Nat×Bool,λ y=>[(1,.slice pa pl pc),(2,.pointer (some ⟨B,0,none⟩)),(5,.slice oa o.length oc),(6,.slice ca (b.nextsTo o i).length cc),(7,.int .i64 i),(8,.bool y.2),(9,.int .i64 y.1)],
    λ y U'=>U'=U3/\y.1<=al/\(!o.contains i && ((c.af.take y.1).map Int.toNat).all λ k=>o.contains k)=y.2,λ y=>al-y.1,(0,!o.contains i),⟨rfl,rfl,rfl,rfl,rfl,rfl,rfl,trivial⟩,⟨rfl,by simp,by simp⟩,?_⟩
   rintro⟨k,t⟩ f U4 ⟨hU,hk,ht⟩;obtain rfl:=hU.symm;simp only at hk ht;have hink:Zu ((k:Int)+1):=by unfold Zu;omega
   refine⟨_,hB3.sees3 (o:=1) rfl,?_⟩;refine⟨ad,i,⟨hea,rfl,hlti⟩,?_⟩;refine⟨_,(hrd.lg Qp).cell (i:=3) rfl,?_⟩
   repeat refine⟨rfl,?_⟩
   conv=>whnf
   apply Qe<;>intro hc
   ·have hltk:k<al:=by simpa using hc
    obtain⟨ad3,n,hxn,hea3,hsp3,hs3⟩:=(ha.lg Qp).at hltk;obtain⟨q,rfl⟩:=Int.eq_ofNat_of_zero_le (haf n (List.mem_of_getElem? hxn)).1
    have hnx:(!o.contains i && ((c.af.take (k+1)).map Int.toNat).all λ k=>o.contains k)=(t && o.contains q):=by
     rw [Ji hxn,List.map_append,List.all_append,<- Bool.and_assoc,ht];simp
    cases t with
    | false=>
     refine⟨hink,?_⟩
     conv=>whnf
     exact⟨rfl,(k+1,false),⟨rfl,rfl,rfl,rfl,rfl,rfl,rfl,trivial⟩,⟨rfl,by show k+1<=al;omega,hnx⟩,by show _-_<_-_;omega⟩
    | true=>
     refine⟨_,hB3.sees3 (o:=1) rfl,?_⟩;refine⟨ad,i,⟨hea,rfl,hlti⟩,?_⟩;refine⟨_,(hrd.lg Qp).cell (i:=3) rfl,?_⟩;refine⟨ad3,k,⟨hea3,rfl,hltk⟩,?_⟩;refine⟨_,hs3,?_⟩;refine⟨Qf7.any,(Qaq oa o.length oc (o.map λ (k:Nat)=>(k:Int)) hO3 (by omega) (q:Int)).go λ _=>?_⟩;rw [Qvy];refine⟨hink,?_⟩
     conv=>whnf
     exact⟨rfl,(k+1,o.contains q),⟨rfl,rfl,rfl,rfl,rfl,rfl,rfl,trivial⟩,⟨rfl,by show k+1<=al;omega,hnx⟩,by show _-_<_-_;omega⟩
   have hge:k=al:=by simp at hc;omega
   rw [List.take_of_length_le (by omega),<- hat] at ht;have hcan:b.can o i=t:=ht;have hsucc:=b.nextsTo_succ o i;rw [hcan] at hsucc;cases t with
   | false=>
    rw [if_neg (by simp),List.append_nil] at hsucc;refine⟨hin,?_⟩
    conv=>whnf
    exact⟨rfl,(i+1,.slice ca (b.nextsTo o i).length cc),⟨rfl,rfl,rfl,rfl,rfl,trivial⟩,⟨hl3,by rw [hsucc];exact haccC,by show i+1<=h.cl;omega⟩,by show _-_<_-_;omega⟩
   | true=>
    rw [if_pos rfl] at hsucc
    conv=>whnf
    intro b55 hf55;refine Zk hf55 λ U5 h_5 hb55=>?_;have hb55:Zi U5 b55 #[.int .i64 i]:=hb55
    conv=>whnf
    refine Ws (v:=.slice ca (b.nextsTo o i).length cc) (cs:=((b.nextsTo o i).map λ (k:Nat)=>(k:Int)).map λ n=>.int .i64 n) (new:=[.int .i64 (i:Int)]) (M₀:=U2.M) Qat rfl rfl (by rw [h_5.own];exact haccC) (.inr ⟨_,rfl,hb55.reads (λ k v hv=>by simpa using hv)⟩) rfl (by simp [Value.single]) (by simp;omega) λ v' M' ha' _=>?_;have ha'':Acc 3 1 v' (((b.nextsTo o (i+1)).map λ (k:Nat)=>(k:Int)).map λ n=>.int .i64 n) M' U2.M:=by rw [hsucc,List.map_append,List.map_append];exact ha'
    obtain⟨ta,tl,tc,rfl,-,-⟩:=Acc.src (U:={ U5 with M:=M' }) ha'';refine⟨hin,?_⟩
    conv=>whnf
    exact⟨rfl,(i+1,.slice ta tl tc),⟨rfl,rfl,rfl,rfl,rfl,trivial⟩,⟨⟨λ x o hx=>h_5.imm x o (hl3.imm x o hx),⟨_,(List.append_nil _).symm⟩,h_5.tok.trans hl3.tok⟩,ha'',by show i+1<=h.cl;omega⟩,by show _-_<_-_;omega⟩
  have hge:i=h.cl:=by simp at hc;omega
  subst hge;have hnx:b.nextsTo o h.cl=b.nexts o:=by unfold Bk.nextsTo Bk.nexts;rw [hcl]
  rw [hnx] at hC hnl ⊢;have hpos:=hbeg.next hok (by omega);obtain⟨q,hqq⟩:∃q,q=p.getD o.length 0 % (b.nexts o).length:=⟨_,rfl⟩;have hq:q<(b.nexts o).length:=hqq ▸ Nat.mod_lt _ hpos;obtain⟨hx1,hx2⟩:=Bk.nexts_at hq;obtain⟨m,hm⟩:∃m,h.cl-o.length=m+1:=⟨h.cl-o.length-1,by omega⟩;rw [hm,b.pickO_succ,<- hqq] at hpick;obtain⟨x,hxx⟩:∃x,x=(b.nexts o).getD q 0:=⟨_,rfl⟩;rw [<- hxx] at hx1 hx2 hpick
  have hgetC:(b.nexts o)[q]?=some x:=by
   rw [hxx,List.getD_eq_getElem?_getD,List.getElem?_eq_getElem hq];rfl
  obtain⟨ad4,x4,hx4,hea4,hsp4,hs4⟩:=hC.at hq;obtain rfl:(x:Int)=x4:=by rw [List.getElem?_map,hgetC] at hx4;exact Option.some.inj hx4
  have hrem:((p.getD o.length 0:Nat):Int).tmod ((b.nexts o).length:Nat)=(q:Nat):=by rw [hqq];exact (Int.ofNat_tmod _ _).symm
  refine⟨Qbj.any,(Qae pa pl pc p (Q5.lg (R':=λ (n:Nat) vs=>vs=[.int .u16 (n:Int)]/\n<65536) hp ((h_1.lg.frz2.trans (hl.frz2.trans h23.frz2)).trans Qp) λ _ _ h=>h) o.length).go λ _=>?_⟩;refine⟨rfl,by omega,?_⟩;rw [hrem];refine⟨ad4,q,⟨hea4,rfl,hq⟩,?_⟩;refine⟨_,hs4,?_⟩
  conv=>whnf
  intro b68 hf68;refine Zbe (M':=U2.M) (M₀:=A) hf68 (by rw [hA];exact List.perm_append_comm) λ U5 hI5 ht5 hM5 hb68=>?_;have hb68:Zi U5 b68 #[.int .i64 x]:=hb68
  conv=>whnf
  refine Ws (v:=.slice oa o.length oc) (cs:=(o.map λ (k:Nat)=>(k:Int)).map λ n=>.int .i64 n) (new:=[.int .i64 (x:Int)]) (M₀:=U.M) Qat rfl rfl (by rw [hM5];exact hacc) (.inr ⟨_,rfl,hb68.reads (λ k v hv=>by simpa using hv)⟩) rfl (by simp [Value.single]) (by simp;omega) λ v' M' ha' _=>?_;have ha'':Acc 3 1 v' (((o++[x]).map λ (k:Nat)=>(k:Int)).map λ n=>.int .i64 n) M' U.M:=by rw [List.map_append,List.map_append];exact ha'
  obtain⟨ta,tl,tc,rfl,-,-⟩:=Acc.src (U:={ U5 with M:=M' }) ha''
  conv=>whnf
  exact⟨rfl,(o++[x],.slice ta tl tc),⟨rfl,rfl,rfl,trivial⟩,⟨⟨λ y u hy=>hI5 y u (hl3.imm y u (hl.imm y u hy)),⟨_,(List.append_nil _).symm⟩,ht5.trans (hl3.tok.trans hl.tok)⟩,ha'',hbeg.snoc hx1 hx2,by simp only [List.length_append,List.length_singleton];rw [show h.cl-(o.length+1)=m by omega];exact hpick⟩,by simp only [List.length_append,List.length_singleton];omega⟩
 ·have hge:o.length=h.cl:=by simp at hc;omega
  rw [show h.cl-o.length=0 by omega] at hpick;have hpick:o=b.pickO p h.cl []:=hpick
  repeat refine⟨rfl,?_⟩
  conv=>whnf
  exact⟨by rw [hcl,<- hpick];exact hacc,λ x o hx=>hl.imm x o (h_1.imm x o hx),hl.tok.trans h_1.tok⟩
end Go.Proofs
namespace Go.TM
variable {T:Type} {P:Program} {S:Sys P T} {U U':Qa T}
theorem Qb.pre {f:FuncId} {args:Array Value} {Q:Value->Qa T->Prop} {U1:Qa T} (hs:Qw U U1) (h:Qb S f args Q U1):Qb S f args Q U:=λ Stop m c cs k=>.shift hs (h Stop m c cs k)
def Q4v (U:Qa T) (l:List Int) (v:Value) (U':Qa T):Prop:=(∃a l c,v=.slice a l c)/\U.frz.lg U'/\Acc 3 1 v (l.map λ n=>.int .i64 n) U'.M U.M
theorem Q4v.le {l:List Int} {v:Value} {U'':Qa T} (h:Q4v U l v U') (k:U'.le U''):Q4v U l v U'':=⟨h.1,h.2.1.trans k.lg,by rw [k.own];exact h.2.2⟩
theorem Q4v.new {p:Nat} (h:U.le U'):Q4v U [] (.slice (some ⟨p,0,none⟩) 0 0) (U'.put p (.cells #[] 3)):=
 ⟨⟨_,_,_,rfl⟩,⟨λ x o hx=>h.imm x o hx,⟨_,(List.append_nil _).symm⟩,h.tok⟩,.inr ⟨p,#[],0,0,rfl,rfl,Nat.le_refl _,rfl,by show _::U'.M=_;rw [h.own],by simp⟩⟩
end Go.TM
namespace Go.TM
variable {T:Type} {P:Program} {S:Sys P T}
structure Hlr (U:Qa T) (b:Nat) (e:TypeId) (c:Array Value) (U':Qa T):Prop where
 imm:∀x o,U.I x=some o->U'.I x=some o
 own:U'.M=.obj b (.cells c e (0,0))::U.M
 tok:U'.tok=U.tok
 new:U.I b=none
theorem Hlr.le {U U' U'':Qa T} {b:Nat} {e:TypeId} {c:Array Value} (h:Hlr U b e c U') (k:U'.le U''):Hlr U b e c U'':=⟨λ x o i=>k.imm x o (h.imm x o i),k.own.trans h.own,k.tok.trans h.tok,h.new⟩
theorem Hlr.frz2 {U U':Qa T} {b:Nat} {e:TypeId} {c:Array Value} (h:Hlr U b e c U'):U.frz.lg U'.frz:=⟨h.imm,⟨[],rfl⟩,h.tok⟩
theorem Hlr.frz1 {U U':Qa T} {b:Nat} {e:TypeId} {c:Array Value} (h:Hlr U b e c U'):U.frz.lg U':=⟨h.imm,⟨_,(List.append_nil _).symm⟩,h.tok⟩
theorem Hlr.made {U U':Qa T} {b:Nat} {e:TypeId} {c:Array Value} (h:U.le U') (hf:U'.free b):Hlr U b e c (U'.put b (.cells c e)):=by
 refine⟨h.imm,by show _::U'.M=_;rw [h.own],h.tok,?_⟩;cases hb:U.I b with
 | none=>rfl
 | some o=>have:=h.imm b o hb;rw [hf.1] at this;cases this
theorem Hlr.write {U U':Qa T} {b:Nat} {e:TypeId} {c:Array Value} {vs:List Value} {Q:Qa T->Prop} (h:Hlr U b e c U') (hsz:c.size=vs.length) (hs:∀v∈vs,v.single=true) (hQ:∀U1,U.le U1->Zi U1 b vs.toArray->Q U1):StV ⟨b,0,none⟩ vs 0 (λ U'=>∃U1,Qw U' U1/\Q U1) U':=by
 refine Qqh [] vs 0 c U' h.own hs (by omega) ?_;rw [Qh7 hsz];refine⟨_,We (b:=b) (M':=U.M) (List.Perm.refl _),hQ _ ⟨λ x o i=>?_,rfl,h.tok⟩ Zi.new⟩;show Qf8 U'.I b _ x=_;unfold Qf8;rw [if_neg]
 ·exact h.imm x o i
 ·rintro rfl;rw [h.new] at i;cases i
end Go.TM
