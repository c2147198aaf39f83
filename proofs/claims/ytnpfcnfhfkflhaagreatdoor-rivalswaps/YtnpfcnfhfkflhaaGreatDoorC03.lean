/- Lemmas of the proof. No conditions of their own. -/
import Derived.Test.YtnpfcnfhfkflhaaGreatDoorC02
import Derived.Test.YtnpfcnfhfkflhaaGreatDoorC01
set_option linter.all false
set_option maxRecDepth 100000
namespace Go.TM
variable {T:Type} {U:Qa T}
def Bk.nextsTo (b:Bk) (o:List Nat) (i:Nat):List Nat:=(List.range i).filter λ i=>b.can o i
theorem Bk.nextsTo_succ (b:Bk) (o:List Nat) (i:Nat):b.nextsTo o (i+1)=b.nextsTo o i++(if b.can o i then [i] else []):=by
 unfold Bk.nextsTo;rw [List.range_succ,List.filter_append];cases h:b.can o i <;> simp [h]
theorem Bk.nextsTo_len (b:Bk) (o:List Nat) (i:Nat):(b.nextsTo o i).length<=i:=Nat.le_trans (List.length_filter_le _ _) (by simp)
theorem Qp5 (o:List Nat) (i:Nat):(o.map λ (k:Nat)=>(k:Int)).contains (i:Int)=o.contains i:=by
 rw [Bool.eq_iff_iff,List.contains_iff_mem,List.contains_iff_mem,List.mem_map];constructor
 ·rintro⟨k,hk,e⟩;have:k=i:=by omega
  exact this ▸ hk
 ·intro h;exact⟨i,h,rfl⟩
theorem Bk.pickO_succ (b:Bk) (p:List Nat) (k:Nat) (o:List Nat):b.pickO p (k+1) o=b.pickO p k (o++[(b.nexts o).getD (p.getD o.length 0 % (b.nexts o).length) 0]):=rfl
end Go.TM
namespace Go.Proofs
open Go.TM
variable {T:Type} {S:TM.Sys Tryz.prog T} {U:Qa T}
attribute [local irreducible] Qb Zl Wt
theorem Qdc (a:Option Addr) (len cap:Nat) (p:List Nat) (hp:Q5 U a len 1 p λ n vs=>vs=[.int .u16 (n:Int)]/\n<65536) (k:Nat):Qb S 83 #[.slice a len cap,.int .i64 k] (λ v U'=>v=.int .i64 (p.getD k 0:Nat)/\U'=U) U:=by
 refine Qb.of (args:=[_,_]) Qpf Qf (by simp) ?_;have hpl:=hp.1
 repeat refine⟨rfl,?_⟩
 conv=>whnf
 apply Qe<;>intro hc
 ·have hlt:k<len:=by simpa using hc
  obtain⟨ad,n,vs,hx,hea,hsp,⟨rfl,hn⟩,-,hrd⟩:=hp.at hlt;have e:p.getD k 0=n:=by simp [List.getD_eq_getElem?_getD,hx]
  rw [e];refine⟨ad,k,⟨hea,rfl,hlt⟩,?_⟩;refine⟨_,hrd 0 _ rfl,?_⟩
  repeat refine⟨rfl,?_⟩
  conv=>whnf
  rw [wrap64 (by omega)];exact⟨rfl,rfl⟩
 ·have hge:len<=k:=by simp at hc;omega
  have e:p.getD k 0=0:=by simp [List.getD_eq_getElem?_getD,List.getElem?_eq_none (show p.length<=k by omega)]
  rw [e]
  repeat refine⟨rfl,?_⟩
  conv=>whnf
set_option maxHeartbeats 2000000 in
theorem Qdh (h:BH) (b:Bk) (hb:Zq U.frz h b) (hok:b.Ok) (pa:Option Addr) (pl pc:Nat) (p:List Nat) (hp:Q5 U.frz pa pl 1 p λ n vs=>vs=[.int .u16 (n:Int)]/\n<65536) :
  Qb S 33 #[h.v,.slice pa pl pc] (λ v U'=>Jd U'.frz v ((b.pickO p b.cs.length []).map λ (k:Nat)=>(k:Int))/\U.le U') U:=by
 refine Qb.ints (e:=3) (Qb.of (args:=[_,_]) Qlg Qf (by simp) ?_);have hcl:=hb.cs.1;have hnc:=hok.nc
 repeat refine⟨rfl,?_⟩
 conv=>whnf
 intro B U1 h_1 hB;have hB:Zi U1 B #[.slice h.ra h.rl h.rc,.slice h.ca h.cl h.cc]:=hB;have hb1:=hb.lg h_1.lg.frz2
 refine⟨List Nat×Value,λ y=>[(1,.slice pa pl pc),(2,.pointer (some ⟨B,0,none⟩)),(5,y.2)],
  λ y U'=>U1.frz.lg U'/\Acc 3 1 y.2 ((y.1.map λ (k:Nat)=>(k:Int)).map λ n=>.int .i64 n) U'.M U.M/\b.Beg y.1/\b.pickO p (h.cl-y.1.length) y.1=b.pickO p h.cl [],λ y=>h.cl-y.1.length,([],.slice none 0 0),⟨rfl,rfl,rfl,trivial⟩,⟨Qp,by rw [h_1.own];exact .nil,.nil,rfl⟩,?_⟩
 rintro⟨o,v⟩ f U2 ⟨hl,hacc,hbeg,hpick⟩;simp only at hacc hbeg hpick;obtain⟨oa,oc,rfl,hO⟩:=Quu (U:=U2) hacc;rw [List.length_map] at hO hacc ⊢;have hol:=hbeg.le;have hB2:=hB.imI hl.imm;have hb2:=hb1.lg hl.frz2;refine⟨_,hB2.sees3 (o:=1) rfl,?_⟩
 repeat refine⟨rfl,?_⟩
 conv=>whnf
 apply Qe<;>intro hc
 ·have hlt:o.length<h.cl:=by simpa using hc
  refine⟨Nat×Value,λ y=>[(1,.slice pa pl pc),(2,.pointer (some ⟨B,0,none⟩)),(5,.slice oa o.length oc),(6,y.2),(7,.int .i64 y.1)],
   λ y U'=>U2.frz.lg U'/\Acc 3 1 y.2 (((b.nextsTo o y.1).map λ (k:Nat)=>(k:Int)).map λ n=>.int .i64 n) U'.M U2.M/\y.1<=h.cl,λ y=>h.cl-y.1,(0,.slice none 0 0),⟨rfl,rfl,rfl,rfl,rfl,trivial⟩,⟨Qp,.nil,by simp⟩,?_⟩
  rintro⟨i,vc⟩ f U3 ⟨hl3,haccC,hi⟩;simp only at haccC hi;obtain⟨A,hA,-⟩:=haccC.split;have h23:U2.lg U3:=⟨λ x o hx=>hl3.imm x o hx,⟨A,hA⟩,hl3.tok⟩;obtain⟨ca,cc,rfl,hC⟩:=Quu (U:=U3) haccC;rw [List.length_map] at hC haccC ⊢;have hO3:=hO.lg h23;have hB3:=hB2.lg h23;have hb3:=hb2.lg h23.frz2;have hin:Zu ((i:Int)+1):=by unfold Zu;omega
  have hnl:=b.nextsTo_len o i;refine⟨_,hB3.sees3 (o:=1) rfl,?_⟩
  repeat refine⟨rfl,?_⟩
  conv=>whnf
  apply Qe<;>intro hc
  ·have hlti:i<h.cl:=by simpa using hc
   obtain⟨ad,c,ga,gl,gc,aa,al,ac,hx,hea,hsp,hrd,-,-,ha,hal,hmem⟩:=hb3.case hlti;have hat:=Bk.aft1_at hx;have haf:=hok.af c hmem;have hall:=ha.1;refine⟨Qaq.any,(Qae oa o.length oc (o.map λ (k:Nat)=>(k:Int)) hO3 (by omega) (i:Int)).go λ _=>?_⟩;rw [Qp5]
   refine⟨Nat×Bool,λ y=>[(1,.slice pa pl pc),(2,.pointer (some ⟨B,0,none⟩)),(5,.slice oa o.length oc),(6,.slice ca (b.nextsTo o i).length cc),(7,.int .i64 i),(8,.bool y.2),(9,.int .i64 y.1)],
    λ y U'=>U'=U3/\y.1<=al/\(!o.contains i && ((c.af.take y.1).map Int.toNat).all λ k=>o.contains k)=y.2,λ y=>al-y.1,(0,!o.contains i),⟨rfl,rfl,rfl,rfl,rfl,rfl,rfl,trivial⟩,⟨rfl,by simp,by simp⟩,?_⟩
   rintro⟨k,t⟩ f U4 ⟨hU,hk,ht⟩;obtain rfl:=hU.symm;simp only at hk ht;have hink:Zu ((k:Int)+1):=by unfold Zu;omega
   refine⟨_,hB3.sees3 (o:=1) rfl,?_⟩;refine⟨ad,i,⟨hea,rfl,hlti⟩,?_⟩;refine⟨_,(hrd.lg Qp).cell (i:=3) rfl,?_⟩
   repeat refine⟨rfl,?_⟩
   conv=>whnf
   apply Qe<;>intro hc
   ·have hltk:k<al:=by simpa using hc
    obtain⟨ad3,n,hxn,hea3,hsp3,hs3⟩:=(ha.lg Qp).at hltk;obtain⟨q,rfl⟩:=Int.eq_ofNat_of_zero_le (haf n (List.mem_of_getElem? hxn)).1
    have hnx:(!o.contains i && ((c.af.take (k+1)).map Int.toNat).all λ k=>o.contains k)=(t && o.contains q):=by
     rw [Ji hxn,List.map_append,List.all_append,<- Bool.and_assoc,ht];simp
    cases t with
    | false=>
     refine⟨hink,?_⟩
     conv=>whnf
     exact⟨rfl,(k+1,false),⟨rfl,rfl,rfl,rfl,rfl,rfl,rfl,trivial⟩,⟨rfl,by show k+1<=al;omega,hnx⟩,by show _-_<_-_;omega⟩
    | true=>
     refine⟨_,hB3.sees3 (o:=1) rfl,?_⟩;refine⟨ad,i,⟨hea,rfl,hlti⟩,?_⟩;refine⟨_,(hrd.lg Qp).cell (i:=3) rfl,?_⟩;refine⟨ad3,k,⟨hea3,rfl,hltk⟩,?_⟩;refine⟨_,hs3,?_⟩;refine⟨Qaq.any,(Qae oa o.length oc (o.map λ (k:Nat)=>(k:Int)) hO3 (by omega) (q:Int)).go λ _=>?_⟩;rw [Qp5];refine⟨hink,?_⟩
     conv=>whnf
     exact⟨rfl,(k+1,o.contains q),⟨rfl,rfl,rfl,rfl,rfl,rfl,rfl,trivial⟩,⟨rfl,by show k+1<=al;omega,hnx⟩,by show _-_<_-_;omega⟩
   have hge:k=al:=by simp at hc;omega
   rw [List.take_of_length_le (by omega),<- hat] at ht;have hcan:b.can o i=t:=ht;have hsucc:=b.nextsTo_succ o i;rw [hcan] at hsucc;cases t with
   | false=>
    rw [if_neg (by simp),List.append_nil] at hsucc;refine⟨hin,?_⟩
    conv=>whnf
    exact⟨rfl,(i+1,.slice ca (b.nextsTo o i).length cc),⟨rfl,rfl,rfl,rfl,rfl,trivial⟩,⟨hl3,by rw [hsucc];exact haccC,by show i+1<=h.cl;omega⟩,by show _-_<_-_;omega⟩
   | true=>
    rw [if_pos rfl] at hsucc
    conv=>whnf
    intro b55 hf55;refine Zk hf55 λ U5 h5 hb55=>?_;have hb55:Zi U5 b55 #[.int .i64 i]:=hb55
    conv=>whnf
    refine Ws (v:=.slice ca (b.nextsTo o i).length cc) (cs:=((b.nextsTo o i).map λ (k:Nat)=>(k:Int)).map λ n=>.int .i64 n) (new:=[.int .i64 (i:Int)]) (M₀:=U2.M) Qat rfl rfl (by rw [h5.own];exact haccC) (.inr ⟨_,rfl,hb55.reads (λ k v hv=>by simpa using hv)⟩) rfl (by simp [Value.single]) (by simp;omega) λ v' M' ha' _=>?_;have ha'':Acc 3 1 v' (((b.nextsTo o (i+1)).map λ (k:Nat)=>(k:Int)).map λ n=>.int .i64 n) M' U2.M:=by rw [hsucc,List.map_append,List.map_append];exact ha'
    obtain⟨ta,tl,tc,rfl,-,-⟩:=Acc.src (U:={ U5 with M:=M' }) ha'';refine⟨hin,?_⟩
    conv=>whnf
    exact⟨rfl,(i+1,.slice ta tl tc),⟨rfl,rfl,rfl,rfl,rfl,trivial⟩,⟨⟨λ x o hx=>h5.imm x o (hl3.imm x o hx),⟨_,(List.append_nil _).symm⟩,h5.tok.trans hl3.tok⟩,ha'',by show i+1<=h.cl;omega⟩,by show _-_<_-_;omega⟩
  have hge:i=h.cl:=by simp at hc;omega
  subst hge;have hnx:b.nextsTo o h.cl=b.nexts o:=by unfold Bk.nextsTo Bk.nexts;rw [hcl]
  rw [hnx] at hC hnl ⊢;have hpos:=hbeg.next hok (by omega);obtain⟨q,hqq⟩:∃q,q=p.getD o.length 0 % (b.nexts o).length:=⟨_,rfl⟩;have hq:q<(b.nexts o).length:=hqq ▸ Nat.mod_lt _ hpos;obtain⟨hx1,hx2⟩:=Bk.nexts_at hq;obtain⟨m,hm⟩:∃m,h.cl-o.length=m+1:=⟨h.cl-o.length-1,by omega⟩;rw [hm,b.pickO_succ,<- hqq] at hpick;obtain⟨x,hxx⟩:∃x,x=(b.nexts o).getD q 0:=⟨_,rfl⟩;rw [<- hxx] at hx1 hx2 hpick
  have hgetC:(b.nexts o)[q]?=some x:=by
   rw [hxx,List.getD_eq_getElem?_getD,List.getElem?_eq_getElem hq];rfl
  obtain⟨ad4,x4,hx4,hea4,hsp4,hs4⟩:=hC.at hq;obtain rfl:(x:Int)=x4:=by rw [List.getElem?_map,hgetC] at hx4;exact Option.some.inj hx4
  have hrem:((p.getD o.length 0:Nat):Int).tmod ((b.nexts o).length:Nat)=(q:Nat):=by rw [hqq];exact (Int.ofNat_tmod _ _).symm
  refine⟨Qpf.any,(Qdc pa pl pc p (Q5.lg (R':=λ (n:Nat) vs=>vs=[.int .u16 (n:Int)]/\n<65536) hp ((h_1.lg.frz2.trans (hl.frz2.trans h23.frz2)).trans Qp) λ _ _ h=>h) o.length).go λ _=>?_⟩;refine⟨rfl,by omega,?_⟩;rw [hrem];refine⟨ad4,q,⟨hea4,rfl,hq⟩,?_⟩;refine⟨_,hs4,?_⟩
  conv=>whnf
  intro b68 hf68;refine Zbe (M':=U2.M) (M₀:=A) hf68 (by rw [hA];exact List.perm_append_comm) λ U5 hI5 ht5 hM5 hb68=>?_;have hb68:Zi U5 b68 #[.int .i64 x]:=hb68
  conv=>whnf
  refine Ws (v:=.slice oa o.length oc) (cs:=(o.map λ (k:Nat)=>(k:Int)).map λ n=>.int .i64 n) (new:=[.int .i64 (x:Int)]) (M₀:=U.M) Qat rfl rfl (by rw [hM5];exact hacc) (.inr ⟨_,rfl,hb68.reads (λ k v hv=>by simpa using hv)⟩) rfl (by simp [Value.single]) (by simp;omega) λ v' M' ha' _=>?_;have ha'':Acc 3 1 v' (((o++[x]).map λ (k:Nat)=>(k:Int)).map λ n=>.int .i64 n) M' U.M:=by rw [List.map_append,List.map_append];exact ha'
  obtain⟨ta,tl,tc,rfl,-,-⟩:=Acc.src (U:={ U5 with M:=M' }) ha''
  conv=>whnf
  exact⟨rfl,(o++[x],.slice ta tl tc),⟨rfl,rfl,rfl,trivial⟩,⟨⟨λ y u hy=>hI5 y u (hl3.imm y u (hl.imm y u hy)),⟨_,(List.append_nil _).symm⟩,ht5.trans (hl3.tok.trans hl.tok)⟩,ha'',hbeg.snoc hx1 hx2,by simp only [List.length_append,List.length_singleton];rw [show h.cl-(o.length+1)=m by omega];exact hpick⟩,by simp only [List.length_append,List.length_singleton];omega⟩
 ·have hge:o.length=h.cl:=by simp at hc;omega
  rw [show h.cl-o.length=0 by omega] at hpick;have hpick:o=b.pickO p h.cl []:=hpick
  repeat refine⟨rfl,?_⟩
  conv=>whnf
  exact⟨by rw [hcl,<- hpick];exact hacc,λ x o hx=>hl.imm x o (h_1.imm x o hx),hl.tok.trans h_1.tok⟩
end Go.Proofs
namespace Go.TM
variable {T:Type} {P:Program} {S:Sys P T}
structure Hlr (U:Qa T) (b:Nat) (e:TypeId) (c:Array Value) (U':Qa T):Prop where
 imm:∀x o,U.I x=some o->U'.I x=some o
 own:U'.M=.obj b (.cells c e (0,0))::U.M
 tok:U'.tok=U.tok
 new:U.I b=none
theorem Hlr.le {U U' U'':Qa T} {b:Nat} {e:TypeId} {c:Array Value} (h:Hlr U b e c U') (k:U'.le U''):Hlr U b e c U'':=⟨λ x o i=>k.imm x o (h.imm x o i),k.own.trans h.own,k.tok.trans h.tok,h.new⟩
theorem Hlr.frz2 {U U':Qa T} {b:Nat} {e:TypeId} {c:Array Value} (h:Hlr U b e c U'):U.frz.lg U'.frz:=⟨h.imm,⟨[],rfl⟩,h.tok⟩
theorem Hlr.frz1 {U U':Qa T} {b:Nat} {e:TypeId} {c:Array Value} (h:Hlr U b e c U'):U.frz.lg U':=⟨h.imm,⟨_,(List.append_nil _).symm⟩,h.tok⟩
theorem Hlr.made {U U':Qa T} {b:Nat} {e:TypeId} {c:Array Value} (h:U.le U') (hf:U'.free b):Hlr U b e c (U'.put b (.cells c e)):=by
 refine⟨h.imm,by show _::U'.M=_;rw [h.own],h.tok,?_⟩;cases hb:U.I b with
 | none=>rfl
 | some o=>have:=h.imm b o hb;rw [hf.1] at this;cases this
theorem Hlr.write {U U':Qa T} {b:Nat} {e:TypeId} {c:Array Value} {vs:List Value} {Q:Qa T->Prop} (h:Hlr U b e c U') (hsz:c.size=vs.length) (hs:∀v∈vs,v.single=true) (hQ:∀U1,U.le U1->Zi U1 b vs.toArray->Q U1):StV ⟨b,0,none⟩ vs 0 (λ U'=>∃U1,Qw U' U1/\Q U1) U':=by
 refine Qqh [] vs 0 c U' h.own hs (by omega) ?_;rw [Qh7 hsz];refine⟨_,We (b:=b) (M':=U.M) (List.Perm.refl _),hQ _ ⟨λ x o i=>?_,rfl,h.tok⟩ Zi.new⟩;show Qf8 U'.I b _ x=_;unfold Qf8;rw [if_neg]
 ·exact h.imm x o i
 ·rintro rfl;rw [h.new] at i;cases i
end Go.TM
namespace Go.TM
variable {T:Type} {U U':Qa T} {e:TypeId} {z:Array Value} {b b7 b8:Nat} {vs:List Value}
def Tw1 (U:Qa T) (e:TypeId) (z:Array Value) (b:Nat) (U':Qa T):Prop:=U.free b/\Hlr U b e z U'
theorem Tw1.le {U'':Qa T} (h:Tw1 U e z b U') (k:U'.le U''):Tw1 U e z b U'':=⟨h.1,h.2.le k⟩
theorem Zbz (h:U.le U') (hf:U'.free b):U.free b:=by
 refine⟨?_,λ r hr=>hf.2 r (by rw [h.own];exact hr)⟩;cases hb:U.I b with
 | none=>rfl
 | some o=>have:=h.imm b o hb;rw [hf.1] at this;cases this
theorem Tw1.made (h:U.le U') (hf:U'.free b):Tw1 U e z b (U'.put b (.cells z e)):=⟨Zbz h hf,.made h hf⟩
structure Tw2 (U:Qa T) (e:TypeId) (z:Array Value) (b7 b8:Nat) (U':Qa T):Prop where
 imm:∀x o,U.I x=some o->U'.I x=some o
 own:U'.M=.obj b8 (.cells z e (0,0))::.obj b7 (.cells z e (0,0))::U.M
 tok:U'.tok=U.tok
 f7:U.free b7
 f8:U.free b8
 ne:b8≠b7
theorem Tw2.le {U'':Qa T} (h:Tw2 U e z b7 b8 U') (k:U'.le U''):Tw2 U e z b7 b8 U'':=⟨λ x o i=>k.imm x o (h.imm x o i),k.own.trans h.own,k.tok.trans h.tok,h.f7,h.f8,h.ne⟩
theorem Tw2.frz (h:Tw2 U e z b7 b8 U'):U.frz.lg U':=⟨h.imm,⟨_,(List.append_nil _).symm⟩,h.tok⟩
theorem Tw1.free2 (h:Tw1 U e z b U') {c:Nat} (hf:U'.free c):U.free c/\c≠b:=by
 refine⟨⟨?_,λ r hr=>hf.2 r (by rw [h.2.own];exact List.mem_cons_of_mem _ hr)⟩,λ e'=>hf.2 (.obj b (.cells z e (0,0))) (by rw [h.2.own];exact List.mem_cons_self ..) e'.symm⟩;cases hb:U.I c with
 | none=>rfl
 | some o=>have:=h.2.imm c o hb;rw [hf.1] at this;cases this
theorem Tw1.made1 (h:Tw1 U e z b7 U') (hf:U'.free b8):∃U1,Qw (U'.put b8 (.cells z e)) U1/\Tw2 U e z b7 b8 U1:=
 ⟨_,.refl _,h.2.imm,by show _::U'.M=_;rw [h.2.own],h.2.tok,h.1,(h.free2 hf).1,(h.free2 hf).2⟩
theorem Tw1.made2 (h:Tw1 U e z b8 U') (hf:U'.free b7):∃U1,Qw (U'.put b7 (.cells z e)) U1/\Tw2 U e z b7 b8 U1:=
 ⟨_,W7 (M':=.obj b8 (.cells z e (0,0))::.obj b7 (.cells z e (0,0))::U.M) (by show (_::U'.M).Perm _;rw [h.2.own];exact List.Perm.swap _ _ _),h.2.imm,rfl,h.2.tok,(h.free2 hf).1,h.1,(h.free2 hf).2.symm⟩
def Tw3 (U:Qa T) (e:TypeId) (z:Array Value) (vs:List Value) (b7 b8:Nat) (U':Qa T):Prop:=∃Ua,U.le Ua/\Zi Ua b7 vs.toArray/\Hlr Ua b8 e z U'
theorem Tw3.le {U'':Qa T} (h:Tw3 U e z vs b7 b8 U') (k:U'.le U''):Tw3 U e z vs b7 b8 U'':=let ⟨a,h1,h2,h3⟩:=h;⟨a,h1,h2,h3.le k⟩
theorem Tw3.frz (h:Tw3 U e z vs b7 b8 U'):U.frz.lg U':=let ⟨_,h1,_,h3⟩:=h;⟨λ x o i=>h3.imm x o (h1.imm x o i),⟨_,(List.append_nil _).symm⟩,h3.tok.trans h1.tok⟩
theorem Tw2.write (h:Tw2 U e z b7 b8 U') (hsz:z.size=vs.length) (hs:∀v∈vs,v.single=true):StV ⟨b7,0,none⟩ vs 0 (λ U''=>∃U1,Qw U'' U1/\Tw3 U e z vs b7 b8 U1) U':=by
 refine Qqh [.obj b8 (.cells z e (0,0))] vs 0 z U' (M₀:=U.M) h.own hs (by omega) ?_;rw [Qh7 hsz];refine⟨_,We (b:=b7) (M':=.obj b8 (.cells z e (0,0))::U.M) (List.Perm.swap ..),{ U with I:=Qf8 U.I b7 (.cells vs.toArray e) },Qnv h.f7,Zi.new,?_,rfl,h.tok,?_⟩
 ·intro x o hx;simp only [Qf8] at hx ⊢;split at hx
  ·rename_i hxb;rw [if_pos hxb];exact hx
  ·rename_i hxb;rw [if_neg hxb];exact h.imm x o hx
 ·show Qf8 U.I b7 _ b8=none;unfold Qf8;rw [if_neg h.ne];exact h.f8.1
theorem Tw3.write {ws:List Value} {Q:Qa T->Prop} (h:Tw3 U e z vs b7 b8 U') (hsz:z.size=ws.length) (hs:∀v∈ws,v.single=true) (hQ:∀U1,U.le U1->Zi U1 b7 vs.toArray->Zi U1 b8 ws.toArray->Q U1):StV ⟨b8,0,none⟩ ws 0 (λ U''=>∃U1,Qw U'' U1/\Q U1) U':=
 let ⟨_,h1,h2,h3⟩:=h
 h3.write hsz hs λ U1 k1 k2=>hQ U1 (h1.trans k1) (h2.le k1) k2
end Go.TM
namespace Go.TM
def Bk.freeB (b:Bk) (i k:Nat):Bool:=!((b.cas i).gs.any λ g=>g.contains (b.cas k).ag) && (!((b.cas k).gs.any λ g=>g.contains (b.cas i).ag) && (!(b.cas i).af.contains (k:Int) && !(b.cas k).af.contains (i:Int)))
theorem Bk.free_of {b:Bk} {i k:Nat} (h:b.freeB i k=true):b.Free i k:=by
 unfold Bk.freeB at h;simp only [Bool.and_eq_true,Bool.not_eq_true',List.any_eq_false,List.contains_iff_mem] at h;obtain⟨h1,h2,h3,h4⟩:=h;exact⟨λ g hg=>by simpa using h1 g hg,λ g hg=>by simpa using h2 g hg,by simpa using h3,by simpa using h4⟩
theorem Qp3 {α:Type} {l:List α} {p:α->Bool} {j:Nat} {x:α} (hx:l[j]?=some x) (h:(l.take j).any p=false) (hp:p x=false):(l.take (j+1)).any p=false:=by
 rw [Ji hx,List.any_append,h];simp [hp]
theorem Q4u {α:Type} {l:List α} {p:α->Bool} {j:Nat} {x:α} (hx:l[j]?=some x) (hp:p x=true):l.any p=true:=List.any_eq_true.2 ⟨x,List.mem_of_getElem? hx,hp⟩
end Go.TM
namespace Go.Proofs
open Go.TM
def Qcf:List (List (Nat×St)):=[[(0,⟨.off 1 (.tmp 3),some 11,none,none⟩),(0,⟨.ld (.tmp 11),some 12,none,none⟩),(0,⟨.mv (.tmp 1),some 13,none,none⟩),(0,⟨.idx 4 (.tmp 12) (.tmp 13),some 14,none,none⟩),(0,⟨.ldn 4 (.tmp 14),some 15,none,none⟩),(0,⟨.off 1 (.tmp 3),some 16,none,none⟩),(0,⟨.ld (.tmp 16),some 17,none,none⟩),(0,⟨.mv (.tmp 2),some 18,none,none⟩),(0,⟨.idx 4 (.tmp 17) (.tmp 18),some 19,none,none⟩),(0,⟨.ldn 4 (.tmp 19),some 20,none,none⟩),(2,⟨.alloc 49 #[(.string ⟨#[]⟩),(.int .i64 0),(.slice none 0 0),(.slice none 0 0)],some 7,none,none⟩),(2,⟨.alloc 49 #[(.string ⟨#[]⟩),(.int .i64 0),(.slice none 0 0),(.slice none 0 0)],some 8,none,none⟩),(2,⟨.st 4 (.tmp 7) (.tmp 15),none,none,none⟩)],
 [(0,⟨.off 1 (.tmp 3),some 11,none,none⟩),(0,⟨.ld (.tmp 11),some 12,none,none⟩),(0,⟨.mv (.tmp 1),some 13,none,none⟩),(0,⟨.idx 4 (.tmp 12) (.tmp 13),some 14,none,none⟩),(0,⟨.ldn 4 (.tmp 14),some 15,none,none⟩),(0,⟨.off 1 (.tmp 3),some 16,none,none⟩),(0,⟨.ld (.tmp 16),some 17,none,none⟩),(0,⟨.mv (.tmp 2),some 18,none,none⟩),(0,⟨.idx 4 (.tmp 17) (.tmp 18),some 19,none,none⟩),(0,⟨.ldn 4 (.tmp 19),some 20,none,none⟩),(2,⟨.alloc 49 #[(.string ⟨#[]⟩),(.int .i64 0),(.slice none 0 0),(.slice none 0 0)],some 8,none,none⟩),(2,⟨.alloc 49 #[(.string ⟨#[]⟩),(.int .i64 0),(.slice none 0 0),(.slice none 0 0)],some 7,none,none⟩),(2,⟨.st 4 (.tmp 7) (.tmp 15),none,none,none⟩)]]
def Qpj:List St:=[⟨.st 4 (.tmp 8) (.tmp 20),none,none,none⟩]
variable {T:Type} {S:TM.Sys Tryz.prog T} {U:Qa T}
attribute [local irreducible] Qb Zl Wt
theorem _root_.Go.TM.Zi.sees3F {T:Type} {U:Qa T} {B o:Nat} {c:Array Value} {v:Value} (h:Zi U B c) (hv:c[o]?=some v):U.frz.sees ((Addr.mk B 0 none).add o) v:=(show Zi U.frz B c from h).sees3 hv
theorem _root_.Go.TM.Blk.sees3F {B o:Nat} {c:Array Value} {v:Value} (h:Zi U B c) (hv:c[o]?=some v):U.frz.sees ((Addr.mk B 0 none).add o) v:=(show Zi U.frz B c from h).sees3 hv
set_option maxHeartbeats 1000000 in
theorem Qga (h:BH) (b:Bk) (hb:Zq U.frz h b) (i k:Nat) (hi:i<h.cl) (hk:k<h.cl) :
  Qb S 37 #[h.v,.int .i64 i,.int .i64 k] (λ v U'=>v=.bool (b.freeB i k)/\U'=U) U:=by
 refine Qb.pure' (Qb.of (args:=[_,_,_]) Qoa Qf (by simp) ?_)
 let zr0:Array Value:=#[.string ⟨#[]⟩,.int .i64 0,.slice none 0 0,.slice none 0 0]
 repeat refine⟨rfl,?_⟩
 conv=>whnf
 intro B U1 h_1 hB;have hB:Zi U1 B #[.slice h.ra h.rl h.rc,.slice h.ca h.cl h.cc]:=hB;have hb1:=hb.lg h_1.lg.frz2;obtain⟨ad,c,ga,gl,gc,aa,al,ac,hx,hea,hsp,hrd,hg,hgl,ha,hal,hmem⟩:=hb1.case hi;obtain⟨ad',c',ga',gl',gc',aa',al',ac',hx',hea',hsp',hrd',hg',hgl',ha',hal',hmem'⟩:=hb1.case hk;have hcas:b.cas i=c:=by simp [Bk.cas,List.getD_eq_getElem?_getD,hx]
 have hcas':b.cas k=c':=by simp [Bk.cas,List.getD_eq_getElem?_getD,hx']
 unfold Bk.freeB;rw [hcas,hcas'];have hg1:=hg.1;have hg1':=hg'.1
 conv=>whnf
 intro ac0 hfr0
 refine Qt2 (mu:=[]) (ops:=Q4g Tryz.f37 1) (id:=1) hfr0 [10,11,12] [[0,1,2,3,4,5,6,7,8,9,10,11,12],[0,1,2,3,4,5,6,7,8,9,11,10,12]] [13] Qcf Qpj Qf (by kernel_rfl) (by kernel_rfl) (by kernel_rfl) (by kernel_rfl) (by kernel_rfl)
  (λ f' ds' U'=>ds'=[]/\∃b7 b8,Qig f' [(1,.int .i64 i),(2,.int .i64 k),(7,.pointer (some ⟨b7,0,none⟩)),(8,.pointer (some ⟨b8,0,none⟩)),(20,.agg #[.string c'.nm,.int .i64 c'.ag,.slice ga' gl' gc',.slice aa' al' ac'])]/\Tw3 U1 49 zr0 [.string c.nm,.int .i64 c.ag,.slice ga gl gc,.slice aa al ac] b7 b8 U') ?_ ?_
 ·intro l hl;simp only [Qcf,List.mem_cons,List.not_mem_nil,or_false] at hl;rcases hl with rfl | rfl
  ·refine⟨_,hB.sees3F (o:=1) rfl,?_⟩;refine⟨ad,i,⟨hea,rfl,hi⟩,?_⟩;refine⟨_,⟨rfl,hrd⟩,?_⟩;refine⟨_,hB.sees3F (o:=1) rfl,?_⟩;refine⟨ad',k,⟨hea',rfl,hk⟩,?_⟩;refine⟨_,⟨rfl,hrd'⟩,?_⟩;refine⟨λ v U'=>∃p,v=.pointer (some ⟨p,0,none⟩)/\Tw1 U1 49 zr0 p U',λ v x1 x2 ⟨p,e,hh⟩ hle=>⟨p,e,hh.le hle⟩,λ v U' ⟨p,e,hh⟩=>hh.2.frz1,λ U' hC=>?_,λ v hv=>?_⟩
   ·conv=>whnf
    intro p hp;exact⟨_,.refl _,_,.refl _,p,rfl,.made hC hp⟩
   obtain⟨_,b7,rfl,-⟩:=hv;refine⟨λ v U'=>∃p,v=.pointer (some ⟨p,0,none⟩)/\Tw2 U1 49 zr0 b7 p U',λ v x1 x2 ⟨p,e,hh⟩ hle=>⟨p,e,hh.le hle⟩,λ v U' ⟨p,e,hh⟩=>hh.frz,λ U' hC=>?_,λ v hv=>?_⟩
   ·obtain⟨p',e,hh⟩:=hC;obtain rfl:b7=p':=by simpa using e
    conv=>whnf
    intro p hp;obtain⟨x1,k1,k2⟩:=hh.made1 hp;exact⟨x1,k1,_,.refl _,p,rfl,k2⟩
   obtain⟨_,b8,rfl,-⟩:=hv;refine⟨λ v U'=>Tw3 U1 49 zr0 [.string c.nm,.int .i64 c.ag,.slice ga gl gc,.slice aa al ac] b7 b8 U',λ v x1 x2 hh hle=>hh.le hle,λ v U' hh=>hh.frz,λ U' hC=>?_,λ v hv=>?_⟩
   ·obtain⟨p',e,hh⟩:=hC;obtain rfl:b8=p':=by simpa using e
    conv=>whnf
    exact⟨rfl,StV.mono (λ _ ⟨x1,k1,k2⟩=>⟨x1,k1,x1,.refl _,k2⟩) _ _ _ (hh.write (vs:=[.string c.nm,.int .i64 c.ag,.slice ga gl gc,.slice aa al ac]) rfl (by simp [Value.single]))⟩
   clear hv
   conv=>whnf
   intro U' hh;exact⟨rfl,b7,b8,⟨rfl,rfl,rfl,rfl,rfl,trivial⟩,hh⟩
  ·refine⟨_,hB.sees3F (o:=1) rfl,?_⟩;refine⟨ad,i,⟨hea,rfl,hi⟩,?_⟩;refine⟨_,⟨rfl,hrd⟩,?_⟩;refine⟨_,hB.sees3F (o:=1) rfl,?_⟩;refine⟨ad',k,⟨hea',rfl,hk⟩,?_⟩;refine⟨_,⟨rfl,hrd'⟩,?_⟩;refine⟨λ v U'=>∃p,v=.pointer (some ⟨p,0,none⟩)/\Tw1 U1 49 zr0 p U',λ v x1 x2 ⟨p,e,hh⟩ hle=>⟨p,e,hh.le hle⟩,λ v U' ⟨p,e,hh⟩=>hh.2.frz1,λ U' hC=>?_,λ v hv=>?_⟩
   ·conv=>whnf
    intro p hp;exact⟨_,.refl _,_,.refl _,p,rfl,.made hC hp⟩
   obtain⟨_,b8,rfl,-⟩:=hv;refine⟨λ v U'=>∃p,v=.pointer (some ⟨p,0,none⟩)/\Tw2 U1 49 zr0 p b8 U',λ v x1 x2 ⟨p,e,hh⟩ hle=>⟨p,e,hh.le hle⟩,λ v U' ⟨p,e,hh⟩=>hh.frz,λ U' hC=>?_,λ v hv=>?_⟩
   ·obtain⟨p',e,hh⟩:=hC;obtain rfl:b8=p':=by simpa using e
    conv=>whnf
    intro p hp;obtain⟨x1,k1,k2⟩:=hh.made2 hp;exact⟨x1,k1,_,.refl _,p,rfl,k2⟩
   obtain⟨_,b7,rfl,-⟩:=hv;refine⟨λ v U'=>Tw3 U1 49 zr0 [.string c.nm,.int .i64 c.ag,.slice ga gl gc,.slice aa al ac] b7 b8 U',λ v x1 x2 hh hle=>hh.le hle,λ v U' hh=>hh.frz,λ U' hC=>?_,λ v hv=>?_⟩
   ·obtain⟨p',e,hh⟩:=hC;obtain rfl:b7=p':=by simpa using e
    conv=>whnf
    exact⟨rfl,StV.mono (λ _ ⟨x1,k1,k2⟩=>⟨x1,k1,x1,.refl _,k2⟩) _ _ _ (hh.write (vs:=[.string c.nm,.int .i64 c.ag,.slice ga gl gc,.slice aa al ac]) rfl (by simp [Value.single]))⟩
   clear hv
   conv=>whnf
   intro U' hh;exact⟨rfl,b7,b8,⟨rfl,rfl,rfl,rfl,rfl,trivial⟩,hh⟩
 rintro f' ds' U2 ⟨rfl,b7,b8,hfr,hh⟩;rw [<- hfr.ovr];clear hfr;refine⟨rfl,hh.write (ws:=[.string c'.nm,.int .i64 c'.ag,.slice ga' gl' gc',.slice aa' al' ac']) rfl (by simp [Value.single]) λ U3 h_3 hb7 hb8=>?_⟩;have hb7:Zi U3 b7 #[.string c.nm,.int .i64 c.ag,.slice ga gl gc,.slice aa al ac]:=hb7;have hb8:Zi U3 b8 #[.string c'.nm,.int .i64 c'.ag,.slice ga' gl' gc',.slice aa' al' ac']:=hb8;have h13:=h_1.trans h_3;have hg3:=hg.lg h_3.lg.frz2;have hg3':=hg'.lg h_3.lg.frz2;have ha3:=(ha.lg h_3.lg.frz2).lg Qp;have ha3':=(ha'.lg h_3.lg.frz2).lg Qp
 conv=>whnf
 intro a' hf';refine⟨by rw [hf'.size,hfr0.size],_,hf'.get,?_⟩;rw [hf'.ds];clear hf' hfr0 hh;refine⟨Nat,λ j=>[(1,.int .i64 i),(2,.int .i64 k),(7,.pointer (some ⟨b7,0,none⟩)),(8,.pointer (some ⟨b8,0,none⟩)),(9,.int .i64 j)],λ j U'=>U3.le U'/\j<=gl/\((c.gs.take j).any λ g=>g.contains c'.ag)=false,λ j=>gl-j,0,⟨rfl,rfl,rfl,rfl,rfl,trivial⟩,⟨.refl _,by omega,rfl⟩,?_⟩;rintro j f U4 ⟨h_4,hj,hnone⟩;have hinj:Zu ((j:Int)+1):=by unfold Zu;omega
 have h34:=h_4;refine⟨_,(hb7.le h34).sees3 (o:=2) rfl,?_⟩
 repeat refine⟨rfl,?_⟩
 conv=>whnf
 apply Qe<;>intro hc
 ·have hlt:j<gl:=by simpa using hc
  obtain⟨ad2,g2,ga2,gl2,gc2,hxg,hea2,hsp2,hs2,hi2,hgl2,hgm⟩:=((hg3.lg h34.lg.frz2).lg Qp).at hlt;refine⟨_,(hb7.le h34).sees3 (o:=2) rfl,?_⟩;refine⟨ad2,j,⟨hea2,rfl,hlt⟩,?_⟩;refine⟨_,hs2,?_⟩;refine⟨_,(hb8.le h34).sees3 (o:=1) rfl,?_⟩
  conv=>whnf
  intro U9 h9 _;refine⟨Qaq.any,(Qae ga2 gl2 gc2 g2 (hi2.lg h9.lg) hgl2 c'.ag).go λ _=>?_⟩;cases hcg:g2.contains c'.ag with
  | true=>
   have hany:(c.gs.any λ g=>g.contains c'.ag)=true:=Q4u hxg hcg
   repeat refine⟨rfl,?_⟩
   conv=>whnf
   exact⟨by rw [hany];simp,(h13.trans (h34.trans h9)).lg⟩
  | false=>
   repeat refine⟨rfl,?_⟩
   refine⟨hinj,?_⟩
   conv=>whnf
   exact⟨rfl,j+1,⟨rfl,rfl,rfl,rfl,rfl,trivial⟩,⟨h_4.trans h9,by omega,Qp3 hxg hnone hcg⟩,by show _-_<_-_;omega⟩
 have hge:j=gl:=by simp at hc;omega
 rw [List.take_of_length_le (by omega)] at hnone;have hn4:(c.gs.any λ g=>g.contains c'.ag)=false:=hnone;clear hnone;refine⟨Nat,λ j=>[(1,.int .i64 i),(2,.int .i64 k),(7,.pointer (some ⟨b7,0,none⟩)),(8,.pointer (some ⟨b8,0,none⟩)),(10,.int .i64 j)],λ j U'=>U4.le U'/\j<=gl'/\((c'.gs.take j).any λ g=>g.contains c.ag)=false,λ j=>gl'-j,0,⟨rfl,rfl,rfl,rfl,rfl,trivial⟩,⟨.refl _,by omega,rfl⟩,?_⟩;rintro j f U6 ⟨h6,hj,hnone⟩;have hinj:Zu ((j:Int)+1):=by unfold Zu;omega
 have h36:=h34.trans h6;refine⟨_,(hb8.le h36).sees3 (o:=2) rfl,?_⟩
 repeat refine⟨rfl,?_⟩
 conv=>whnf
 apply Qe<;>intro hc
 ·have hlt:j<gl':=by simpa using hc
  obtain⟨ad2,g2,ga2,gl2,gc2,hxg,hea2,hsp2,hs2,hi2,hgl2,hgm⟩:=((hg3'.lg h36.lg.frz2).lg Qp).at hlt;refine⟨_,(hb8.le h36).sees3 (o:=2) rfl,?_⟩;refine⟨ad2,j,⟨hea2,rfl,hlt⟩,?_⟩;refine⟨_,hs2,?_⟩;refine⟨_,(hb7.le h36).sees3 (o:=1) rfl,?_⟩
  conv=>whnf
  intro U9 h9 _;refine⟨Qaq.any,(Qae ga2 gl2 gc2 g2 (hi2.lg h9.lg) hgl2 c.ag).go λ _=>?_⟩;cases hcg:g2.contains c.ag with
  | true=>
   have hany:(c'.gs.any λ g=>g.contains c.ag)=true:=Q4u hxg hcg
   repeat refine⟨rfl,?_⟩
   conv=>whnf
   exact⟨by rw [hany];simp,(h13.trans (h36.trans h9)).lg⟩
  | false=>
   repeat refine⟨rfl,?_⟩
   refine⟨hinj,?_⟩
   conv=>whnf
   exact⟨rfl,j+1,⟨rfl,rfl,rfl,rfl,rfl,trivial⟩,⟨h6.trans h9,by omega,Qp3 hxg hnone hcg⟩,by show _-_<_-_;omega⟩
 have hge:j=gl':=by simp at hc;omega
 rw [List.take_of_length_le (by omega)] at hnone;have hn6:(c'.gs.any λ g=>g.contains c.ag)=false:=hnone;clear hnone;refine⟨_,(hb7.le h36).sees3 (o:=3) rfl,?_⟩;refine⟨Qaq.any,(Qae aa al ac c.af (ha3.lg h36.lg) hal (k:Int)).go λ _=>?_⟩;cases c.af.contains (k:Int) with
 | true=>
  repeat refine⟨rfl,?_⟩
  conv=>whnf
  exact⟨by rw [hn4,hn6];rfl,(h13.trans h36).lg⟩
 | false=>
  refine⟨_,(hb8.le h36).sees3 (o:=3) rfl,?_⟩;refine⟨Qaq.any,(Qae aa' al' ac' c'.af (ha3'.lg h36.lg) hal' (i:Int)).go λ _=>?_⟩
  repeat refine⟨rfl,?_⟩
  conv=>whnf
  exact⟨by rw [hn4,hn6];rfl,(h13.trans h36).lg⟩
end Go.Proofs
namespace Go.TM
theorem Qdg (o:List Nat):(Qjj o).map Int.toNat=o:=by
 rw [List.map_map];exact (List.map_congr_left (λ _ _=>rfl)).trans (List.map_id o)
theorem Zcx {o:List Nat} {q x y:Nat} (hx:o[q]?=some x) (hy:o[q+1]?=some y):o=o.take q++x::y::o.drop (q+2)/\(o.set q y).set (q+1) x=o.take q++y::x::o.drop (q+2):=by
 obtain⟨h1,rfl⟩:=List.getElem?_eq_some_iff.1 hx;obtain⟨h2,rfl⟩:=List.getElem?_eq_some_iff.1 hy
 have e:o=o.take q++o[q]::o[q+1]::o.drop (q+2):=by
  rw [List.getElem_cons_drop,List.getElem_cons_drop,List.take_append_drop]
 refine⟨e,?_⟩;generalize o[q]=x at *;generalize o[q+1]=y at *;have hl:(o.take q).length=q:=by rw [List.length_take];omega
 generalize o.take q=X at *;generalize o.drop (q+2)=Y at *;subst e;rw [List.set_append_right _ _ (by omega),List.set_append_right _ _ (by omega)];simp [hl]
end Go.TM
namespace Go.Proofs
open Go.TM
attribute [local irreducible] Qb Zl Wt
set_option maxHeartbeats 4000000 in
theorem Q0j {U:Qa Tk} (htok:U.tok=⟨0,.out,none⟩) (hk:Chk U) (h:BH) (b:Bk) (hb:Zq U.frz h b) (hnl:Q0n b) (hrc:h.rl<=h.rc) (hcc:h.cl<=h.cc) (rt:Nat) (hrt:rt<256) (pa:Option Addr) (pl pc:Nat) (p:List Nat) (hp:Q5 U.frz pa pl 1 p λ (n:Nat) vs=>vs=[.int .u16 (n:Int)]/\n<65536) (hpl:pl<2 ^ 60) :
  J (Zb Tryz.prog 209 6) (Fin Tryz.prog λ v U'=>v=.bool true/\U.lg U') true (Rf (Frame.enter Tryz.prog 7 #[h.v,.int .u8 (rt:Int),.slice pa pl pc] .normal) []) U:=by
 refine Zpy (args:=[_,_,_]) (Q:=λ v U'=>v=.bool true/\U.lg U') Q41 Qf (by kernel_rfl) (by simp) (λ v U' q=>q.2.tok.trans htok) ?_;have hcl:=hb.cs.1;have hrl:=hb.rs.1;have fin:∀U2:Qa Tk,U.lg U2->Qb (Zb Tryz.prog 209 6) 20 #[] (λ v U'=>v=.bool true/\U'=U2) U2:=λ U2 h=>Zm2 (h.tok.trans htok) (hk.lg h)
 repeat refine⟨rfl,?_⟩
 conv=>whnf
 intro B U1 h_1 hB;have hB:Zi U1 B #[.slice h.ra h.rl h.rc,.slice h.ca h.cl h.cc]:=hB;have hb1:=hb.lg h_1.lg.frz2;have hrd:∀w:Qa Tk,U1.lg w->Jn w ⟨B,0,none⟩ [.slice h.ra h.rl h.rc,.slice h.ca h.cl h.cc]:=λ w hw=>(hB.lg hw).reads (λ k v hv=>by simpa using hv);refine⟨_,⟨rfl,hrd _ (Qa.le.refl _).lg⟩,?_⟩;refine⟨Zij.any,(Zm1 h b hb1 hnl hrc).mono ?_⟩;rintro _ U' ⟨⟨g,rfl,hg⟩,hU'⟩ -;obtain rfl:=hU'.symm;have Qcx:Qb (Zb Tryz.prog 209 6) 20 #[] (λ v U'=>v=.bool true/\U'=U1) U1:=fin _ h_1.lg;cases g with
 | false=>
  refine⟨Zii.any,Qcx.go λ _=>?_⟩
  repeat refine⟨rfl,?_⟩
  conv=>whnf
  exact h_1.lg
 | true=>
 have hf:b.flaw Qu=0:=hg rfl;refine⟨_,hB.sees3 (o:=1) rfl,?_⟩
 repeat refine⟨rfl,?_⟩
 conv=>whnf
 apply Qe<;>intro hc
 ·refine⟨Zii.any,Qcx.go λ _=>?_⟩
  repeat refine⟨rfl,?_⟩
  conv=>whnf
  exact h_1.lg
 have hc2:2<=h.cl:=by simp at hc;omega
 have hok:=Bk.ok_of hf;have hnc:=hok.nc;refine⟨_,⟨rfl,hrd _ (Qa.le.refl _).lg⟩,?_⟩;refine⟨Qlg.any,(Qdh h b hb1 hok pa pl pc p (Q5.lg (R':=λ (n:Nat) vs=>vs=[.int .u16 (n:Int)]/\n<65536) hp h_1.lg.frz2 λ _ _ h=>h)).mono ?_⟩;rintro _ U2 ⟨⟨oa,oc,rfl,hO⟩,h_2⟩ -;have ho:=Bk.pick_ord hok p;generalize b.pickO p b.cs.length []=o at ho hO ⊢;rw [List.length_map] at hO ⊢;have hol:o.length=h.cl:=by rw [ho.len,hcl]
 rw [hol] at hO ⊢;obtain⟨q,hqq⟩:∃q,q=rt % (h.cl-1):=⟨_,rfl⟩;have hq:q<h.cl-1:=hqq ▸ Nat.mod_lt _ (by omega);have hc1:(h.cl:Int)-1=((h.cl-1:Nat):Int):=by omega
 have hrem:(IntKind.wrap .i64 (rt:Int)).tmod ((h.cl:Int)-1)=(q:Nat):=by rw [wrap64 (by omega),hc1,hqq];exact (Int.ofNat_tmod _ _).symm
 have hq1:(q:Int)+1=((q+1:Nat):Int):=by omega
 have hinq:Zu ((q:Int)+1):=by unfold Zu;omega
 obtain⟨x,hx⟩:∃x,o[q]?=some x:=⟨_,List.getElem?_eq_getElem (by omega)⟩;obtain⟨y,hy⟩:∃y,o[q+1]?=some y:=⟨_,List.getElem?_eq_getElem (by omega)⟩;have hxl:=ho.low x (List.mem_of_getElem? hx);have hyl:=ho.low y (List.mem_of_getElem? hy);obtain⟨adX,x',hx',heX,hspX,hsX⟩:=hO.at (show q<h.cl by omega);obtain rfl:(x:Int)=x':=by rw [List.getElem?_map,hx] at hx';exact Option.some.inj hx'
 obtain⟨adY,y',hy',heY,hspY,hsY⟩:=hO.at (show q+1<h.cl by omega);obtain rfl:(y:Int)=y':=by rw [List.getElem?_map,hy] at hy';exact Option.some.inj hy'
 have hb2:=hb1.lg h_2.lg.frz2;have h12:=h_1.trans h_2;refine⟨by unfold Zu;omega,?_⟩;refine⟨rfl,by omega,?_⟩;rw [hrem];refine⟨_,⟨rfl,hrd _ h_2.lg⟩,?_⟩;refine⟨adX,q,⟨heX,rfl,by omega⟩,?_⟩;refine⟨_,hsX.lg Qp,?_⟩;refine⟨hinq,?_⟩;refine⟨adY,q+1,⟨heY,hq1,by omega⟩,?_⟩;refine⟨_,hsY.lg Qp,?_⟩
 conv=>whnf
 intro U3 h_3 _;have h23:=h_2.trans h_3;have h13:=h12.trans h_3;refine⟨Qoa.any,(Qga h b (hb2.lg h_3.lg.frz2) x y (by omega) (by omega)).go λ _=>?_⟩;cases hfr:b.freeB x y with
 | false=>
  refine⟨Zii.any,(fin _ h13.lg).go λ _=>?_⟩
  repeat refine⟨rfl,?_⟩
  conv=>whnf
  exact h13.lg
 | true=>
 have hF:=Bk.free_of hfr
 conv=>whnf
 intro b48 hf48;refine⟨_,.refl _,?_⟩;have hO3:Z5 U3.frz oa h.cl _:=hO.lg h_3.lg.frz2;have hsrcO:Src (U3.put b48 (.cells #[] 3)) oa ((o.map λ (k:Nat)=>(k:Int)).map λ n=>.int .i64 n):=((hO3.lg Qp).lg (Z4 b48 (.cells #[] 3))).src'
 conv=>whnf
 refine Ws (v:=.slice (some ⟨b48,0,none⟩) 0 0) (cs:=[]) (new:=(o.map λ (k:Nat)=>(k:Int)).map λ n=>.int .i64 n) (M₀:=U3.M) Qat rfl rfl (.inr ⟨b48,#[],0,0,rfl,rfl,Nat.le_refl _,rfl,rfl,by simp⟩) hsrcO (by simp [hol]) (by simp [Value.single]) (by simp;omega) λ v' M' ha' _=>?_;rw [List.nil_append] at ha';rcases ha' with⟨-,hnil,-⟩ | ⟨pb,c,len,cap,rfl,hl1,hl2,hl3,hM,hcl4⟩
 ·exfalso;rw [List.map_eq_nil_iff,List.map_eq_nil_iff] at hnil;rw [hnil] at hol;simp at hol;omega
 have hl1':o.length=len:=by simpa using hl1
 obtain rfl:len=h.cl:=by omega
 have hcells:Qix c (o.map λ (k:Nat)=>(k:Int)):=λ i z hz=>hcl4 i _ (by rw [List.getElem?_map,hz];rfl)
 let P:List Nat:=(o.set q y).set (q+1) x
 have hP:P.length=h.cl:=by simp [P,hol]
 let c':Array Value:=(c.setIfInBounds q (.int .i64 (y:Int))).setIfInBounds (q+1) (.int .i64 (x:Int))
 have hcells':Qix c' (P.map λ (k:Nat)=>(k:Int)):=by
  have:=(hcells.set (by simp;omega) q (y:Int)).set (by simp;omega) (q+1) (x:Int);simpa [P,c',List.map_set] using this
 obtain⟨eo,eP⟩:=Zcx hx hy
 have hordP:b.Ord P:=by
  have:=ho;rw [eo] at this;rw [show P=_ from eP];exact Bk.swap_ord hok this hF
 have hends:b.ends P=b.ends o:=by
  rw [show P=_ from eP]
  conv=>rhs;rw [eo]
  exact (Bk.swap_ends hok hxl hyl hF _ _).symm
 refine⟨λ U'=>(∀x o,U3.I x=some o->U'.I x=some o)/\U'.tok=U3.tok/\U'.M=.obj pb (.cells (c.setIfInBounds q (.int .i64 (y:Int))) 3 (0,0))::U3.M,λ x1 x2 ⟨a,b,c⟩ hle=>⟨λ x o h=>hle.imm x o (a x o h),hle.tok.trans b,hle.own.trans c⟩,?_⟩;have hgo:∀w:Qa Tk,U3.frz.lg w->w.sees (adX.add (q*1)) (.int .i64 (x:Int))/\w.sees (adY.add ((q+1)*1)) (.int .i64 (y:Int)):=λ w hw=>⟨(hsX.lg h_3.lg.frz2).lg hw,(hsY.lg h_3.lg.frz2).lg hw⟩;have hlgM:U3.frz.lg ({ (U3.put b48 (.cells #[] 3)) with M:=M' }:Qa Tk):=⟨λ _ _ h=>h,⟨_,(List.append_nil _).symm⟩,rfl⟩;refine⟨hinq,?_⟩;refine⟨hinq,?_⟩;refine⟨adY,q+1,⟨heY,hq1,by omega⟩,?_⟩;refine⟨_,(hgo _ hlgM).2,?_⟩;refine⟨adX,q,⟨heX,rfl,by omega⟩,?_⟩;refine⟨_,(hgo _ hlgM).1,?_⟩;refine⟨_,q,⟨rfl,rfl,by omega⟩,?_⟩
 conv=>whnf
 intro U4 h_4 _;refine⟨⟨rfl,?_⟩,λ U5 hG=>?_⟩
 ·show StV ((Addr.mk pb 0 none).add (q*1)) [.int .i64 (y:Int)] 0 _ _;rw [Nat.mul_one];exact Q4m [] (h_4.own.trans hM) (by omega) rfl ⟨rfl,_,.refl _,λ x o hh=>h_4.imm x o hh,h_4.tok,rfl⟩
 obtain⟨hI5,ht5,hM5⟩:=hG;refine⟨_,q+1,⟨rfl,hq1,by omega⟩,?_⟩;refine⟨rfl,?_⟩;show StV ((Addr.mk pb 0 none).add ((q+1)*1)) [.int .i64 (x:Int)] 0 _ _;rw [Nat.mul_one];refine Q4m [] hM5 (by simp;omega) rfl ?_;have hof:b.outF (Qjj o)=0:=by unfold Bk.outF;rw [if_pos hf];exact ho.flaw
 have hofP:b.outF (Qjj P)=0:=by unfold Bk.outF;rw [if_pos hf];exact hordP.flaw
 have call1:∀w:Qa Tk,U3.frz.lg w->w.M=.obj pb (.cells c' 3 (0,0))::U3.M->Qb (Zb Tryz.prog 209 6) 21 #[h.v,.slice oa h.cl oc] (λ v U'=>(∃v1 v2,v=.tuple #[v1,v2,.int .i64 0]/\Qaw U'.frz v1 (b.ends o).1/\Qaw U'.frz v2 (b.ends o).2)/\U3.le U'/\Zi U' pb c') w:=λ w hw hMw=>by
  have hlw:U1.lg w:=⟨λ x u hx=>hw.imm x u (h23.imm x u hx),⟨[_],by rw [hMw,h23.own];rfl⟩,hw.tok.trans h23.tok⟩;refine (Qfz h b (hb1.lg hlw.frz2) ((hk.lg h_1.lg).lg hlw) oa h.cl oc (Qjj o) (hO3.lg hw.frz2) (by omega)).sep λ v U' hs ⟨⟨v1,v2,e,b1,b2⟩,hle⟩=>?_;rw [hof,if_pos rfl,Qdg] at b1 b2;rw [hof] at e;obtain⟨x1,k1,k2,k3⟩:=Qxx (U:={ U' with M:=U3.M }) hs (hle.own.trans hMw) (λ _ _ h=>h) rfl rfl;have hz:U'.frz.lg x1.frz:=⟨k2.imm,⟨[],rfl⟩,k2.tok⟩;exact⟨x1,k1,⟨v1,v2,e,b1.lg hz,b2.lg hz⟩,⟨λ x u hx=>k2.imm x u (hle.imm x u (hw.imm x u hx)),k2.own,k2.tok.trans (hle.tok.trans hw.tok)⟩,⟨_,_,k3⟩⟩
 refine⟨_,⟨rfl,hrd _ ⟨λ x u hx=>hI5 x u (h23.imm x u hx),⟨[_],by show _=[_]++U1.M;rw [<- h23.own];rfl⟩,ht5.trans h23.tok⟩⟩,?_⟩;refine⟨Qq3.any,(call1 { U5 with M:=.obj pb (.cells c' 3 (0,0))::U3.M } ⟨λ x u hx=>hI5 x u hx,⟨_,(List.append_nil _).symm⟩,ht5⟩ rfl).mono ?_⟩;rintro _ U6 ⟨⟨_,_,rfl,⟨xa,xc,rfl,hX⟩,⟨ya,yc,rfl,hY⟩⟩,h6,hbP⟩ -;have h16:=h23.trans h6
 have hPi:Z5 U6.frz (some ⟨pb,0,none⟩) h.cl (Qjj P):=by
  have:=(show Zi U6.frz pb c' from hbP).ints (l:=Qjj P) hcells';rw [show (Qjj P).length=h.cl by simp [Qjj,hP]] at this;exact this
 refine⟨_,⟨rfl,hrd _ h16.lg⟩,?_⟩;refine⟨Qq3.any,(Qfz h b (hb1.lg h16.lg.frz2) (hk.lg (h_1.trans h16).lg) (some ⟨pb,0,none⟩) h.cl cap (Qjj P) hPi (by omega)).mono ?_⟩;rintro _ U7 ⟨⟨v1,v2,rfl,b1,b2⟩,h7⟩ -;rw [hofP,if_pos rfl,Qdg,hends] at b1 b2;rw [hofP];obtain⟨ua,uc,rfl,hU⟩:=b1;obtain⟨va,vc,rfl,hV⟩:=b2;have h17:=h16.trans h7;have hel:=b.end_len o;have hnr:=hok.nr;have bc:∀{a:Option Addr} {l:List Bool} {w:Qa Tk},(∀(i:Nat) x,l[i]?=some x->∃ad,a=some ad/\ad.spot=none/\U6.frz.sees (ad.add (i*1)) (.bool x))->Qel U7 a l.length l:=λ hh=>⟨rfl,λ i x hx=>let ⟨ad,e,s,r⟩:=hh i x hx;⟨ad,e,s,(r.lg h7.lg.frz2).lg Qp⟩⟩;have bc':∀{a:Option Addr} {l:List Bool},(∀(i:Nat) x,l[i]?=some x->∃ad,a=some ad/\ad.spot=none/\U7.frz.sees (ad.add (i*1)) (.bool x))->Qel U7 a l.length l:=λ hh=>⟨rfl,λ i x hx=>let ⟨ad,e,s,r⟩:=hh i x hx;⟨ad,e,s,r.lg Qp⟩⟩;refine⟨rfl,?_⟩;refine⟨rfl,?_⟩;refine⟨Qgr.any,(W0 xa ua _ xc _ uc _ _ (bc (w:=U7) hX) (bc' hU) (by omega)).go λ _=>?_⟩;rw [decide_eq_true rfl];refine⟨Qgr.any,(W0 ya va _ yc _ vc _ _ (bc (w:=U7) hY) (bc' hV) (by omega)).go λ _=>?_⟩;rw [decide_eq_true rfl];refine⟨Zii.any,(fin _ (h_1.trans h17).lg).go λ _=>?_⟩
 repeat refine⟨rfl,?_⟩
 conv=>whnf
 exact (h_1.trans h17).lg
end Go.Proofs
