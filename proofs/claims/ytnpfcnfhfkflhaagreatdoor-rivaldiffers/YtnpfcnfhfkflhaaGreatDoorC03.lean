/- Lemmas of the proof. No conditions of their own. -/
import Derived.Test.YtnpfcnfhfkflhaaGreatDoorC02
import Derived.Test.YtnpfcnfhfkflhaaGreatDoorC01
set_option linter.all false
set_option maxRecDepth 100000
namespace Go.TM
variable {T:Type} {U:Qa T}
def Bk.nextsTo (b:Bk) (o:List Nat) (i:Nat):List Nat:=(List.range i).filter λ i=>b.can o i
theorem Bk.nextsTo_succ (b:Bk) (o:List Nat) (i:Nat):b.nextsTo o (i+1)=b.nextsTo o i++(if b.can o i then [i] else []):=by
 unfold Bk.nextsTo;rw [List.range_succ,List.filter_append];cases h:b.can o i <;> simp [h]
theorem Bk.nextsTo_len (b:Bk) (o:List Nat) (i:Nat):(b.nextsTo o i).length<=i:=Nat.le_trans (List.length_filter_le _ _) (by simp)
theorem Qp5 (o:List Nat) (i:Nat):(o.map λ (k:Nat)=>(k:Int)).contains (i:Int)=o.contains i:=by
 rw [Bool.eq_iff_iff,List.contains_iff_mem,List.contains_iff_mem,List.mem_map];constructor
 ·rintro⟨k,hk,e⟩;have:k=i:=by omega
  exact this ▸ hk
 ·intro h;exact⟨i,h,rfl⟩
theorem Bk.pickO_succ (b:Bk) (p:List Nat) (k:Nat) (o:List Nat):b.pickO p (k+1) o=b.pickO p k (o++[(b.nexts o).getD (p.getD o.length 0 % (b.nexts o).length) 0]):=rfl
end Go.TM
namespace Go.Proofs
open Go.TM
variable {T:Type} {S:TM.Sys Tryz.prog T} {U:Qa T}
attribute [local irreducible] Qb Zl Wt
theorem Qdc (a:Option Addr) (len cap:Nat) (p:List Nat) (hp:Q5 U a len 1 p λ n vs=>vs=[.int .u16 (n:Int)]/\n<65536) (k:Nat):Qb S 83 #[.slice a len cap,.int .i64 k] (λ v U'=>v=.int .i64 (p.getD k 0:Nat)/\U'=U) U:=by
 refine Qb.of (args:=[_,_]) Qp3 Qf (by simp) ?_;have hpl:=hp.1
 repeat refine⟨rfl,?_⟩
 conv=>whnf
 apply Qe<;>intro hc
 ·have hlt:k<len:=by simpa using hc
  obtain⟨ad,n,vs,hx,hea,hsp,⟨rfl,hn⟩,-,hrd⟩:=hp.at hlt;have e:p.getD k 0=n:=by simp [List.getD_eq_getElem?_getD,hx]
  rw [e];refine⟨ad,k,⟨hea,rfl,hlt⟩,?_⟩;refine⟨_,hrd 0 _ rfl,?_⟩
  repeat refine⟨rfl,?_⟩
  conv=>whnf
  rw [wrap64 (by omega)];exact⟨rfl,rfl⟩
 ·have hge:len<=k:=by simp at hc;omega
  have e:p.getD k 0=0:=by simp [List.getD_eq_getElem?_getD,List.getElem?_eq_none (show p.length<=k by omega)]
  rw [e]
  repeat refine⟨rfl,?_⟩
  conv=>whnf
set_option maxHeartbeats 2000000 in
theorem Qga (h:BH) (b:Bk) (hb:Zq U.frz h b) (hok:b.Ok) (pa:Option Addr) (pl pc:Nat) (p:List Nat) (hp:Q5 U.frz pa pl 1 p λ n vs=>vs=[.int .u16 (n:Int)]/\n<65536) :
  Qb S 33 #[h.v,.slice pa pl pc] (λ v U'=>Jd U'.frz v ((b.pickO p b.cs.length []).map λ (k:Nat)=>(k:Int))/\U.le U') U:=by
 refine Qb.ints (e:=3) (Qb.of (args:=[_,_]) Qpj Qf (by simp) ?_);have hcl:=hb.cs.1;have hnc:=hok.nc
 repeat refine⟨rfl,?_⟩
 conv=>whnf
 intro B U1 h_1 hB;have hB:Zi U1 B #[.slice h.ra h.rl h.rc,.slice h.ca h.cl h.cc]:=hB;have hb1:=hb.lg h_1.lg.frz2
 refine⟨List Nat×Value,λ y=>[(1,.slice pa pl pc),(2,.pointer (some ⟨B,0,none⟩)),(5,y.2)],
  λ y U'=>U1.frz.lg U'/\Acc 3 1 y.2 ((y.1.map λ (k:Nat)=>(k:Int)).map λ n=>.int .i64 n) U'.M U.M/\b.Beg y.1/\b.pickO p (h.cl-y.1.length) y.1=b.pickO p h.cl [],λ y=>h.cl-y.1.length,([],.slice none 0 0),⟨rfl,rfl,rfl,trivial⟩,⟨Qp,by rw [h_1.own];exact .nil,.nil,rfl⟩,?_⟩
 rintro⟨o,v⟩ f U2 ⟨hl,hacc,hbeg,hpick⟩;simp only at hacc hbeg hpick;obtain⟨oa,oc,rfl,hO⟩:=Quu (U:=U2) hacc;rw [List.length_map] at hO hacc ⊢;have hol:=hbeg.le;have hB2:=hB.imI hl.imm;have hb2:=hb1.lg hl.frz2;refine⟨_,hB2.sees3 (o:=1) rfl,?_⟩
 repeat refine⟨rfl,?_⟩
 conv=>whnf
 apply Qe<;>intro hc
 ·have hlt:o.length<h.cl:=by simpa using hc
  refine⟨Nat×Value,λ y=>[(1,.slice pa pl pc),(2,.pointer (some ⟨B,0,none⟩)),(5,.slice oa o.length oc),(6,y.2),(7,.int .i64 y.1)],
   λ y U'=>U2.frz.lg U'/\Acc 3 1 y.2 (((b.nextsTo o y.1).map λ (k:Nat)=>(k:Int)).map λ n=>.int .i64 n) U'.M U2.M/\y.1<=h.cl,λ y=>h.cl-y.1,(0,.slice none 0 0),⟨rfl,rfl,rfl,rfl,rfl,trivial⟩,⟨Qp,.nil,by simp⟩,?_⟩
  rintro⟨i,vc⟩ f U3 ⟨hl3,haccC,hi⟩;simp only at haccC hi;obtain⟨A,hA,-⟩:=haccC.split;have h23:U2.lg U3:=⟨λ x o hx=>hl3.imm x o hx,⟨A,hA⟩,hl3.tok⟩;obtain⟨ca,cc,rfl,hC⟩:=Quu (U:=U3) haccC;rw [List.length_map] at hC haccC ⊢;have hO3:=hO.lg h23;have hB3:=hB2.lg h23;have hb3:=hb2.lg h23.frz2;have hin:Zu ((i:Int)+1):=by unfold Zu;omega
  have hnl:=b.nextsTo_len o i;refine⟨_,hB3.sees3 (o:=1) rfl,?_⟩
  repeat refine⟨rfl,?_⟩
  conv=>whnf
  apply Qe<;>intro hc
  ·have hlti:i<h.cl:=by simpa using hc
   obtain⟨ad,c,ga,gl,gc,aa,al,ac,hx,hea,hsp,hrd,-,-,ha,hal,hmem⟩:=hb3.case hlti;have hat:=Bk.aft1_at hx;have haf:=hok.af c hmem;have hall:=ha.1;refine⟨Qdh.any,(Qaq oa o.length oc (o.map λ (k:Nat)=>(k:Int)) hO3 (by omega) (i:Int)).go λ _=>?_⟩;rw [Qp5]
   refine⟨Nat×Bool,λ y=>[(1,.slice pa pl pc),(2,.pointer (some ⟨B,0,none⟩)),(5,.slice oa o.length oc),(6,.slice ca (b.nextsTo o i).length cc),(7,.int .i64 i),(8,.bool y.2),(9,.int .i64 y.1)],
    λ y U'=>U'=U3/\y.1<=al/\(!o.contains i && ((c.af.take y.1).map Int.toNat).all λ k=>o.contains k)=y.2,λ y=>al-y.1,(0,!o.contains i),⟨rfl,rfl,rfl,rfl,rfl,rfl,rfl,trivial⟩,⟨rfl,by simp,by simp⟩,?_⟩
   rintro⟨k,t⟩ f U4 ⟨hU,hk,ht⟩;obtain rfl:=hU.symm;simp only at hk ht;have hink:Zu ((k:Int)+1):=by unfold Zu;omega
   refine⟨_,hB3.sees3 (o:=1) rfl,?_⟩;refine⟨ad,i,⟨hea,rfl,hlti⟩,?_⟩;refine⟨_,(hrd.lg Qp).cell (i:=3) rfl,?_⟩
   repeat refine⟨rfl,?_⟩
   conv=>whnf
   apply Qe<;>intro hc
   ·have hltk:k<al:=by simpa using hc
    obtain⟨ad3,n,hxn,hea3,hsp3,hs3⟩:=(ha.lg Qp).at hltk;obtain⟨q,rfl⟩:=Int.eq_ofNat_of_zero_le (haf n (List.mem_of_getElem? hxn)).1
    have hnx:(!o.contains i && ((c.af.take (k+1)).map Int.toNat).all λ k=>o.contains k)=(t && o.contains q):=by
     rw [Ji hxn,List.map_append,List.all_append,<- Bool.and_assoc,ht];simp
    cases t with
    | false=>
     refine⟨hink,?_⟩
     conv=>whnf
     exact⟨rfl,(k+1,false),⟨rfl,rfl,rfl,rfl,rfl,rfl,rfl,trivial⟩,⟨rfl,by show k+1<=al;omega,hnx⟩,by show _-_<_-_;omega⟩
    | true=>
     refine⟨_,hB3.sees3 (o:=1) rfl,?_⟩;refine⟨ad,i,⟨hea,rfl,hlti⟩,?_⟩;refine⟨_,(hrd.lg Qp).cell (i:=3) rfl,?_⟩;refine⟨ad3,k,⟨hea3,rfl,hltk⟩,?_⟩;refine⟨_,hs3,?_⟩;refine⟨Qdh.any,(Qaq oa o.length oc (o.map λ (k:Nat)=>(k:Int)) hO3 (by omega) (q:Int)).go λ _=>?_⟩;rw [Qp5];refine⟨hink,?_⟩
     conv=>whnf
     exact⟨rfl,(k+1,o.contains q),⟨rfl,rfl,rfl,rfl,rfl,rfl,rfl,trivial⟩,⟨rfl,by show k+1<=al;omega,hnx⟩,by show _-_<_-_;omega⟩
   have hge:k=al:=by simp at hc;omega
   rw [List.take_of_length_le (by omega),<- hat] at ht;have hcan:b.can o i=t:=ht;have hsucc:=b.nextsTo_succ o i;rw [hcan] at hsucc;cases t with
   | false=>
    rw [if_neg (by simp),List.append_nil] at hsucc;refine⟨hin,?_⟩
    conv=>whnf
    exact⟨rfl,(i+1,.slice ca (b.nextsTo o i).length cc),⟨rfl,rfl,rfl,rfl,rfl,trivial⟩,⟨hl3,by rw [hsucc];exact haccC,by show i+1<=h.cl;omega⟩,by show _-_<_-_;omega⟩
   | true=>
    rw [if_pos rfl] at hsucc
    conv=>whnf
    intro b55 hf55;refine Zk hf55 λ U5 h5 hb55=>?_;have hb55:Zi U5 b55 #[.int .i64 i]:=hb55
    conv=>whnf
    refine Ws (v:=.slice ca (b.nextsTo o i).length cc) (cs:=((b.nextsTo o i).map λ (k:Nat)=>(k:Int)).map λ n=>.int .i64 n) (new:=[.int .i64 (i:Int)]) (M₀:=U2.M) Qat rfl rfl (by rw [h5.own];exact haccC) (.inr ⟨_,rfl,hb55.reads (λ k v hv=>by simpa using hv)⟩) rfl (by simp [Value.single]) (by simp;omega) λ v' M' ha' _=>?_;have ha'':Acc 3 1 v' (((b.nextsTo o (i+1)).map λ (k:Nat)=>(k:Int)).map λ n=>.int .i64 n) M' U2.M:=by rw [hsucc,List.map_append,List.map_append];exact ha'
    obtain⟨ta,tl,tc,rfl,-,-⟩:=Acc.src (U:={ U5 with M:=M' }) ha'';refine⟨hin,?_⟩
    conv=>whnf
    exact⟨rfl,(i+1,.slice ta tl tc),⟨rfl,rfl,rfl,rfl,rfl,trivial⟩,⟨⟨λ x o hx=>h5.imm x o (hl3.imm x o hx),⟨_,(List.append_nil _).symm⟩,h5.tok.trans hl3.tok⟩,ha'',by show i+1<=h.cl;omega⟩,by show _-_<_-_;omega⟩
  have hge:i=h.cl:=by simp at hc;omega
  subst hge;have hnx:b.nextsTo o h.cl=b.nexts o:=by unfold Bk.nextsTo Bk.nexts;rw [hcl]
  rw [hnx] at hC hnl ⊢;have hpos:=hbeg.next hok (by omega);obtain⟨q,hqq⟩:∃q,q=p.getD o.length 0 % (b.nexts o).length:=⟨_,rfl⟩;have hq:q<(b.nexts o).length:=hqq ▸ Nat.mod_lt _ hpos;obtain⟨hx1,hx2⟩:=Bk.nexts_at hq;obtain⟨m,hm⟩:∃m,h.cl-o.length=m+1:=⟨h.cl-o.length-1,by omega⟩;rw [hm,b.pickO_succ,<- hqq] at hpick;obtain⟨x,hxx⟩:∃x,x=(b.nexts o).getD q 0:=⟨_,rfl⟩;rw [<- hxx] at hx1 hx2 hpick
  have hgetC:(b.nexts o)[q]?=some x:=by
   rw [hxx,List.getD_eq_getElem?_getD,List.getElem?_eq_getElem hq];rfl
  obtain⟨ad4,x4,hx4,hea4,hsp4,hs4⟩:=hC.at hq;obtain rfl:(x:Int)=x4:=by rw [List.getElem?_map,hgetC] at hx4;exact Option.some.inj hx4
  have hrem:((p.getD o.length 0:Nat):Int).tmod ((b.nexts o).length:Nat)=(q:Nat):=by rw [hqq];exact (Int.ofNat_tmod _ _).symm
  refine⟨Qp3.any,(Qdc pa pl pc p (Q5.lg (R':=λ (n:Nat) vs=>vs=[.int .u16 (n:Int)]/\n<65536) hp ((h_1.lg.frz2.trans (hl.frz2.trans h23.frz2)).trans Qp) λ _ _ h=>h) o.length).go λ _=>?_⟩;refine⟨rfl,by omega,?_⟩;rw [hrem];refine⟨ad4,q,⟨hea4,rfl,hq⟩,?_⟩;refine⟨_,hs4,?_⟩
  conv=>whnf
  intro b68 hf68;refine Zbe (M':=U2.M) (M₀:=A) hf68 (by rw [hA];exact List.perm_append_comm) λ U5 hI5 ht5 hM5 hb68=>?_;have hb68:Zi U5 b68 #[.int .i64 x]:=hb68
  conv=>whnf
  refine Ws (v:=.slice oa o.length oc) (cs:=(o.map λ (k:Nat)=>(k:Int)).map λ n=>.int .i64 n) (new:=[.int .i64 (x:Int)]) (M₀:=U.M) Qat rfl rfl (by rw [hM5];exact hacc) (.inr ⟨_,rfl,hb68.reads (λ k v hv=>by simpa using hv)⟩) rfl (by simp [Value.single]) (by simp;omega) λ v' M' ha' _=>?_;have ha'':Acc 3 1 v' (((o++[x]).map λ (k:Nat)=>(k:Int)).map λ n=>.int .i64 n) M' U.M:=by rw [List.map_append,List.map_append];exact ha'
  obtain⟨ta,tl,tc,rfl,-,-⟩:=Acc.src (U:={ U5 with M:=M' }) ha''
  conv=>whnf
  exact⟨rfl,(o++[x],.slice ta tl tc),⟨rfl,rfl,rfl,trivial⟩,⟨⟨λ y u hy=>hI5 y u (hl3.imm y u (hl.imm y u hy)),⟨_,(List.append_nil _).symm⟩,ht5.trans (hl3.tok.trans hl.tok)⟩,ha'',hbeg.snoc hx1 hx2,by simp only [List.length_append,List.length_singleton];rw [show h.cl-(o.length+1)=m by omega];exact hpick⟩,by simp only [List.length_append,List.length_singleton];omega⟩
 ·have hge:o.length=h.cl:=by simp at hc;omega
  rw [show h.cl-o.length=0 by omega] at hpick;have hpick:o=b.pickO p h.cl []:=hpick
  repeat refine⟨rfl,?_⟩
  conv=>whnf
  exact⟨by rw [hcl,<- hpick];exact hacc,λ x o hx=>hl.imm x o (h_1.imm x o hx),hl.tok.trans h_1.tok⟩
theorem Qcf (a a':Option Addr) (len cap len' cap':Nat) (l l':List Int) (hl:Z5 U a len l) (hl':Z5 U a' len' l') (hlen:len<2 ^ 60) (hlen':len'<2 ^ 60) :
  Qb S 36 #[.slice a len cap,.slice a' len' cap'] (λ v U'=>v=.bool (Qae l l')/\U'=U) U:=by
 refine Qb.pure' (Qb.of (args:=[_,_]) Qdg Qf (by simp) ?_);have h1:=hl.1;have h2:=hl'.1;refine⟨Nat,λ i=>[(0,.slice a len cap),(1,.slice a' len' cap'),(5,.int .i64 i)],λ i U'=>U.le U'/\i<=len/\i<=len'/\Qae l l'=Qae (l.drop i) (l'.drop i),λ i=>len-i,0,⟨rfl,rfl,rfl,trivial⟩,⟨.refl _,by omega,by omega,rfl⟩,?_⟩;rintro i f U1 ⟨hle,hi,hi',hinv⟩;have hin:Zu ((i:Int)+1):=by unfold Zu;omega
 repeat refine⟨rfl,?_⟩
 conv=>whnf
 apply Zr<;>intro hc
 ·have hlt:i<len:=by simpa using hc
  obtain⟨ad,x,hx,rfl,-,hs⟩:=(hl.lg hle.lg).at hlt;rw [Qad hx] at hinv
  repeat refine⟨rfl,?_⟩
  conv=>whnf
  apply Qe<;>intro hc
  ·have hlt':i<len':=by simpa using hc
   obtain⟨ad',y,hy,rfl,-,hs'⟩:=(hl'.lg hle.lg).at hlt';rw [Qad hy,Qae] at hinv;refine⟨ad,i,⟨rfl,rfl,hlt⟩,?_⟩;refine⟨_,hs,?_⟩;refine⟨ad',i,⟨rfl,rfl,hlt'⟩,?_⟩;refine⟨_,hs',?_⟩
   conv=>whnf
   intro U2 hle2 _
   repeat refine⟨rfl,?_⟩
   conv=>whnf
   apply Qe<;>intro hc
   ·have hne:x≠y:=by simpa using hc
    rw [if_neg hne] at hinv;refine⟨ad,i,⟨rfl,rfl,hlt⟩,?_⟩;refine⟨_,hs.lg hle2.lg,?_⟩;refine⟨ad',i,⟨rfl,rfl,hlt'⟩,?_⟩;refine⟨_,hs'.lg hle2.lg,?_⟩
    conv=>whnf
    intro U3 hle3 _
    repeat refine⟨rfl,?_⟩
    conv=>whnf
    exact⟨by rw [hinv],((hle.trans hle2).trans hle3).lg⟩
   ·have hxy:x=y:=by simpa using hc
    rw [if_pos hxy] at hinv;refine⟨hin,?_⟩
    conv=>whnf
    exact⟨rfl,i+1,⟨rfl,rfl,rfl,trivial⟩,⟨hle.trans hle2,by omega,by omega,hinv⟩,by show _-_<_-_;omega⟩
  ·have hge:len'<=i:=by simpa using hc
   have e0:l'.drop i=[]:=List.drop_eq_nil_of_le (by omega);rw [e0,Qae] at hinv
   repeat refine⟨rfl,?_⟩
   refine⟨?_,hle.lg⟩;rw [hinv]
   first | done | (congr 1;simp;omega)
 ·have hge:len<=i:=by simpa using hc
  have e0:l.drop i=[]:=List.drop_eq_nil_of_le (by omega);rw [e0,Qae] at hinv
  have hr:(!(l'.drop i).isEmpty)=decide ((len:Int)<(len':Int)):=by
   rw [Bool.eq_iff_iff];simp [List.isEmpty_iff,List.drop_eq_nil_iff];omega
  repeat refine⟨rfl,?_⟩
  conv=>whnf
  exact⟨by rw [hinv,hr],hle.lg⟩
end Go.Proofs
namespace Go.TM
theorem Qf7 (o:List Nat):(Qbj o).map Int.toNat=o:=by
 rw [List.map_map];exact (List.map_congr_left (λ _ _=>rfl)).trans (List.map_id o)
theorem Bk.askF_zero {b:Bk} {r:Nat} (hf:b.flaw Qu=0) (hr:r<b.rs.length):b.askF (r:Int)=0:=by
 unfold Bk.askF;rw [if_pos hf,if_pos];unfold Bk.nr;simp [btw];omega
end Go.TM
namespace Go.Proofs
open Go.TM
attribute [local irreducible] Qb Zl Wt
set_option maxHeartbeats 4000000 in
theorem Qvo {U:Qa Tk} (htok:U.tok=⟨0,.out,none⟩) (hk:Chk U) (h:BH) (b:Bk) (hb:Zq U.frz h b) (hnl:Q0n b) (hrc:h.rl<=h.rc) (hcc:h.cl<=h.cc) (rt:Nat) (hrt:rt<256) (pa:Option Addr) (pl pc:Nat) (p:List Nat) (hp:Q5 U.frz pa pl 1 p λ (n:Nat) vs=>vs=[.int .u16 (n:Int)]/\n<65536) (hpl:pl<2 ^ 60) :
  J (Zb Tryz.prog 209 6) (Fin Tryz.prog λ v U'=>v=.bool true/\U.lg U') true (Rf (Frame.enter Tryz.prog 6 #[h.v,.int .u8 (rt:Int),.slice pa pl pc] .normal) []) U:=by
 refine Zpy (args:=[_,_,_]) (Q:=λ v U'=>v=.bool true/\U.lg U') Q4w Qf (by kernel_rfl) (by simp) (λ v U' q=>q.2.tok.trans htok) ?_;have hcl:=hb.cs.1;have hrl:=hb.rs.1;have fin:∀U2:Qa Tk,U.lg U2->Qb (Zb Tryz.prog 209 6) 20 #[] (λ v U'=>v=.bool true/\U'=U2) U2:=λ U2 h=>Zm2 (h.tok.trans htok) (hk.lg h)
 repeat refine⟨rfl,?_⟩
 conv=>whnf
 intro B U1 h_1 hB;have hB:Zi U1 B #[.slice h.ra h.rl h.rc,.slice h.ca h.cl h.cc]:=hB;have hb1:=hb.lg h_1.lg.frz2;have hrd:∀w:Qa Tk,U1.le w->Jn w ⟨B,0,none⟩ [.slice h.ra h.rl h.rc,.slice h.ca h.cl h.cc]:=λ w hw=>(hB.lg hw.lg).reads (λ k v hv=>by simpa using hv);refine⟨_,⟨rfl,hrd _ (.refl _)⟩,?_⟩;refine⟨Zij.any,(Zm1 h b hb1 hnl hrc).mono ?_⟩;rintro _ U' ⟨⟨g,rfl,hg⟩,hU'⟩ -;obtain rfl:=hU'.symm;have Qcx:Qb (Zb Tryz.prog 209 6) 20 #[] (λ v U'=>v=.bool true/\U'=U1) U1:=fin _ h_1.lg;cases g with
 | false=>
  refine⟨Zii.any,Qcx.go λ _=>?_⟩
  repeat refine⟨rfl,?_⟩
  conv=>whnf
  exact h_1.lg
 | true=>
 have hf:b.flaw Qu=0:=hg rfl;refine⟨_,hB.sees3 (o:=0) rfl,?_⟩
 repeat refine⟨rfl,?_⟩
 conv=>whnf
 apply Qe<;>intro hc
 ·refine⟨Zii.any,Qcx.go λ _=>?_⟩
  repeat refine⟨rfl,?_⟩
  conv=>whnf
  exact h_1.lg
 have hrp:0<h.rl:=by simp at hc;omega
 have hok:=Bk.ok_of hf;have hnr:=hok.nr;have hnc:=hok.nc;obtain⟨q,hqq⟩:∃q,q=rt % h.rl:=⟨_,rfl⟩;have hq:q<h.rl:=hqq ▸ Nat.mod_lt _ hrp;have hqr:q<b.rs.length:=by omega
 have hrem:(IntKind.wrap .i64 (rt:Int)).tmod (h.rl:Nat)=(q:Nat):=by rw [wrap64 (by omega),hqq];exact (Int.ofNat_tmod _ _).symm
 have hF:b.askF (q:Int)=0:=Bk.askF_zero hf hqr;refine⟨_,hB.sees3 (o:=0) rfl,?_⟩;refine⟨rfl,by omega,?_⟩;rw [hrem];refine⟨_,⟨rfl,hrd _ (.refl _)⟩,?_⟩;refine⟨Q1y.any,(Qqr h b hb1 (hk.lg h_1.lg) (q:Int)).mono ?_⟩;rintro _ U2 ⟨⟨_,_,rfl,⟨a1,c1,rfl,h1⟩,⟨a2,c2,rfl,h2⟩⟩,h_2⟩ -;rw [hF,if_pos rfl,Int.toNat_natCast] at h1 h2;rw [hF,if_pos rfl,if_pos rfl,Int.toNat_natCast];have h12:=h_1.trans h_2;refine⟨_,⟨rfl,hrd _ h_2⟩,?_⟩;refine⟨Q1x.any,(Quz h b (hb1.lg h_2.lg.frz2) (hk.lg h12.lg)).mono ?_⟩;rintro _ U3 ⟨⟨_,_,rfl,⟨ra,rc,rfl,hR⟩,⟨ca,cc,rfl,hC⟩⟩,h_3⟩ -;rw [hf] at hR hC ⊢;rw [if_pos rfl] at hR hC;rw [if_pos rfl,if_pos rfl];clear hC;rw [show b.fatesR.length=h.rl by simp [Bk.fatesR,hrl]] at hR ⊢;obtain⟨adR,xR,hxR,hRa,hRs,hsR⟩:=hR.at hq;obtain rfl:b.fatR q=xR:=Option.some.inj ((show b.fatesR[q]?=some (b.fatR q) by simp [Bk.fatesR,hqr]).symm.trans hxR);have h23:=h_2.trans h_3;have h13:=h_1.trans h23;have hB3:=hB.lg h23.lg;have hb3:=hb1.lg h23.lg.frz2;have h1:=h1.lg h_3.lg.frz2;have h2:=h2.lg h_3.lg.frz2
 repeat refine⟨rfl,?_⟩
 refine⟨_,hB3.sees3 (o:=0) rfl,?_⟩
 repeat refine⟨rfl,?_⟩
 conv=>whnf
 apply Qe<;>intro hc
 ·exact absurd hc (by simp)
 refine⟨_,hB3.sees3 (o:=1) rfl,?_⟩
 repeat refine⟨rfl,?_⟩
 conv=>whnf
 apply Qe<;>intro hc
 ·have h0:h.cl=0:=by simp at hc;omega
  obtain⟨e1,e2,e3⟩:=Bk.dif_zero hqr (hcl.trans h0);rw [e1,e2];refine⟨by unfold Zu;simp,?_⟩
  repeat refine⟨rfl,?_⟩
  refine⟨adR,q,⟨hRa,rfl,hq⟩,?_⟩;refine⟨_,hsR.lg Qp,?_⟩;rw [e3];refine⟨rfl,?_⟩;refine⟨Zii.any,(fin _ h13.lg).go λ _=>?_⟩
  repeat refine⟨rfl,?_⟩
  conv=>whnf
  exact h13.lg
 have h0:0<b.cs.length:=by simp at hc;omega
 obtain⟨t1,t2⟩:=Bk.dif_true hok (r:=q) h0;obtain⟨f1,f2⟩:=Bk.dif_false (b:=b) (r:=q) h0
 have k1:(!(decide ((((b.difS q true).map λ (k:Nat)=>(k:Int)).length:Int) > 0) == (b.fatR q != 2)))=false:=by
  rw [Bool.not_eq_false',beq_iff_eq,Bool.eq_iff_iff,List.length_map];simp only [decide_eq_true_eq,bne_iff_ne];omega
 have k2:(!(decide ((((b.difS q false).map λ (k:Nat)=>(k:Int)).length:Int) > 0) == (b.fatR q != 1)))=false:=by
  rw [Bool.not_eq_false',beq_iff_eq,Bool.eq_iff_iff,List.length_map];simp only [decide_eq_true_eq,bne_iff_ne];omega
 repeat refine⟨rfl,?_⟩
 refine⟨adR,q,⟨hRa,rfl,hq⟩,?_⟩;refine⟨_,hsR.lg Qp,?_⟩
 repeat refine⟨rfl,?_⟩
 conv=>whnf
 apply Zr<;>intro hc
 rotate_left
 ·exact absurd (k1.symm.trans hc) (by simp)
 repeat refine⟨rfl,?_⟩
 refine⟨adR,q,⟨hRa,rfl,hq⟩,?_⟩;refine⟨_,hsR.lg Qp,?_⟩
 repeat refine⟨rfl,?_⟩
 conv=>whnf
 apply Qe<;>intro hc
 ·exact absurd (k2.symm.trans hc) (by simp)
 let D:Nat->List Nat:=λ i=>b.difS q (decide (i=0))
 let sa:Nat->Option Addr:=λ i=>if i=0 then a1 else a2
 let sc:Nat->Nat:=λ i=>if i=0 then c1 else c2
 have hsD:∀i,i<2->Z5 U3.frz (sa i) (D i).length (Qbj (D i))/\#[Value.slice a1 (List.map (λ (k:Nat)=>(k:Int)) (b.difS q true)).length c1,.slice a2 (List.map (λ (k:Nat)=>(k:Int)) (b.difS q false)).length c2][i]?=some (.slice (sa i) (D i).length (sc i)):=λ i hi=>by
  obtain rfl | rfl:i=0\/i=1:=by omega
  ·exact⟨by simpa [sa,D,Qbj] using h1,by simp [sa,sc,D]⟩
  ·exact⟨by simpa [sa,D,Qbj] using h2,by simp [sa,sc,D]⟩
 have hoD:∀i,i<2->0<(D i).length->b.Ord (D i)/\(b.ends (D i)).1.getD q false=decide (i=0):=λ i hi hl=>by
  obtain rfl | rfl:i=0\/i=1:=by omega
  ·exact t2 (t1.1 hl)
  ·exact f2 (f1.1 hl)
 refine⟨Nat,λ i=>[(2,.slice pa pl pc),(3,.pointer (some ⟨B,0,none⟩)),(7,.int .i64 q),(8,.slice a1 (List.map (λ (k:Nat)=>(k:Int)) (b.difS q true)).length c1),(9,.slice a2 (List.map (λ (k:Nat)=>(k:Int)) (b.difS q false)).length c2),(14,.int .i64 i)],λ i U'=>U3.le U'/\i<=2,λ i=>2-i,0,⟨rfl,rfl,rfl,rfl,rfl,rfl,trivial⟩,⟨.refl _,by omega⟩,?_⟩;rintro i f U4 ⟨h4,hi⟩;have hin:Zu ((i:Int)+1):=by unfold Zu;omega
 repeat refine⟨rfl,?_⟩
 conv=>whnf
 apply Qe<;>intro hc
 ·have hlt:i<2:=by simp at hc;omega
  obtain⟨hs1,hs2⟩:=hsD i hlt;have hoi:=hoD i hlt;generalize D i=d at hs1 hs2 hoi
  conv=>whnf
  intro bl hfl;refine Zk hfl λ U5 h5 hbl=>?_;have hbl:Zi U5 bl #[.slice a1 (List.map (λ (k:Nat)=>(k:Int)) (b.difS q true)).length c1,.slice a2 (List.map (λ (k:Nat)=>(k:Int)) (b.difS q false)).length c2]:=hbl;have hsl:U5.sees ((Addr.mk bl 0 none).add (i*1)) (.slice (sa i) d.length (sc i)):=by rw [Nat.mul_one,Qo];exact hbl.sees (by rw [Nat.zero_add];exact hs2)
  refine⟨_,i,⟨rfl,rfl,hlt⟩,?_⟩;refine⟨_,hsl,?_⟩
  repeat refine⟨rfl,?_⟩
  conv=>whnf
  have h35:=h4.trans h5;apply Qe<;>intro hc
  ·refine⟨hin,?_⟩
   conv=>whnf
   exact⟨rfl,i+1,⟨rfl,rfl,rfl,rfl,rfl,rfl,trivial⟩,⟨h35,by omega⟩,by show _-_<_-_;omega⟩
  have hdl:0<d.length:=by simp at hc;exact List.length_pos_iff.2 hc
  obtain⟨ho,hw⟩:=hoi hdl;have hof:b.outF (Qbj d)=0:=by unfold Bk.outF;rw [if_pos hf];exact ho.flaw
  have hdl5:=ho.len;refine⟨_,⟨rfl,hrd _ (h23.trans h35)⟩,?_⟩;refine⟨Qq3.any,(Qfz h b (hb3.lg h35.lg.frz2) (hk.lg (h13.trans h35).lg) (sa i) d.length (sc i) _ (hs1.lg h35.lg.frz2) (by omega)).mono ?_⟩;rintro _ U6 ⟨⟨v1,v2,rfl,b1,b2⟩,h6⟩ -;rw [hof,if_pos rfl,Qf7] at b1 b2;rw [hof];obtain⟨xa,xc,rfl,hX⟩:=b1;obtain⟨ya,yc,rfl,hY⟩:=b2;have h36:=h35.trans h6;have hel:=b.end_len d;rw [hel.1,hrl,hel.2,hcl];obtain⟨x,hxq⟩:∃x,(b.ends d).1[q]?=some x:=⟨_,List.getElem?_eq_getElem (by rw [hel.1];exact hqr)⟩;have hxw:x=decide (i=0):=by rw [<- hw,List.getD_eq_getElem?_getD,hxq];rfl
  obtain⟨adX,heX,hspX,hsX⟩:=hX q x hxq
  repeat refine⟨rfl,?_⟩
  refine⟨_,(hB3.lg h36.lg).sees3 (o:=0) rfl,?_⟩
  repeat refine⟨rfl,?_⟩
  conv=>whnf
  apply Zr<;>intro hc
  rotate_left
  ·exact absurd hc (by simp)
  have hxi:(!(x == ((i:Int) == 0)))=false:=by
   rw [hxw];obtain rfl | rfl:i=0\/i=1:=by omega
   ·rfl
   ·rfl
  repeat refine⟨rfl,?_⟩
  refine⟨adX,q,⟨heX,rfl,hq⟩,?_⟩;refine⟨_,hsX.lg Qp,?_⟩;cases x
  all_goals
   repeat refine⟨rfl,?_⟩
   conv=>whnf
   apply Qe<;>intro hc
   ·exact absurd (hxi.symm.trans hc) (by simp)
   refine⟨hin,?_⟩
   conv=>whnf
   exact⟨rfl,i+1,⟨rfl,rfl,rfl,rfl,rfl,rfl,trivial⟩,⟨h36,by omega⟩,by show _-_<_-_;omega⟩
 have h14:=h23.trans h4;refine⟨_,⟨rfl,hrd _ h14⟩,?_⟩;refine⟨Qpj.any,(Qga h b (hb1.lg h14.lg.frz2) hok pa pl pc p (Q5.lg (R':=λ (n:Nat) vs=>vs=[.int .u16 (n:Int)]/\n<65536) hp (h_1.trans h14).lg.frz2 λ _ _ h=>h)).mono ?_⟩;rintro _ U5 ⟨⟨oa,oc,rfl,hO⟩,h5⟩ -;have ho:=Bk.pick_ord hok p;generalize b.pickO p b.cs.length []=o at ho hO ⊢;rw [show (o.map λ (k:Nat)=>(k:Int)).length=o.length from List.length_map ..] at hO ⊢;have hol:o.length=h.cl:=by rw [ho.len,hcl]
 have hof:b.outF (Qbj o)=0:=by unfold Bk.outF;rw [if_pos hf];exact ho.flaw
 have h15:=h14.trans h5;refine⟨_,⟨rfl,hrd _ h15⟩,?_⟩;refine⟨Qq3.any,(Qfz h b (hb1.lg h15.lg.frz2) (hk.lg (h_1.trans h15).lg) oa o.length oc (Qbj o) hO (by omega)).mono ?_⟩;rintro _ U6 ⟨⟨v1,v2,rfl,b1,b2⟩,h6⟩ -;rw [hof,if_pos rfl,Qf7] at b1 b2;rw [hof];obtain⟨xa,xc,rfl,hX⟩:=b1;obtain⟨ya,yc,rfl,hY⟩:=b2;have h16:=h15.trans h6;have h46:=h4.trans (h5.trans h6);have hel:=b.end_len o;rw [hel.1,hrl,hel.2,hcl];obtain⟨x,hxq⟩:∃x,(b.ends o).1[q]?=some x:=⟨_,List.getElem?_eq_getElem (by rw [hel.1];exact hqr)⟩;have hw:(b.ends o).1.getD q false=x:=by rw [List.getD_eq_getElem?_getD,hxq];rfl
 obtain⟨adX,heX,hspX,hsX⟩:=hX q x hxq;obtain⟨d1,-,d3⟩:=Bk.dif_some ho hw;have hdl:=d1.len;have hO6:=(hO.lg h6.lg.frz2).lg Qp;have hend:=(h_1.trans h16).lg
 repeat refine⟨rfl,?_⟩
 refine⟨_,(hB.lg h16.lg).sees3 (o:=0) rfl,?_⟩
 repeat refine⟨rfl,?_⟩
 conv=>whnf
 apply Qe<;>intro hc
 ·exact absurd hc (by simp)
 refine⟨adX,q,⟨heX,rfl,hq⟩,?_⟩;refine⟨_,hsX.lg Qp,?_⟩;cases x with
 | true=>
  refine⟨Qdg.any,(Qcf oa a1 o.length oc _ c1 (Qbj o) (Qbj (b.difS q true)) hO6 ((h1.lg h46.lg.frz2).lg Qp) (by omega) (by rw [List.length_map];omega)).go λ _=>?_⟩;rw [d3];refine⟨Zii.any,(fin _ hend).go λ _=>?_⟩
  repeat refine⟨rfl,?_⟩
  conv=>whnf
  exact hend
 | false=>
  refine⟨Qdg.any,(Qcf oa a2 o.length oc _ c2 (Qbj o) (Qbj (b.difS q false)) hO6 ((h2.lg h46.lg.frz2).lg Qp) (by omega) (by rw [List.length_map];omega)).go λ _=>?_⟩;rw [d3];refine⟨Zii.any,(fin _ hend).go λ _=>?_⟩
  repeat refine⟨rfl,?_⟩
  conv=>whnf
  exact hend
end Go.Proofs
