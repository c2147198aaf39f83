/- Lemmas of the proof. No conditions of their own. -/
import Derived.Test.YtnpfcnfhfkflhaaGreatDoorC03
import Derived.Test.YtnpfcnfhfkflhaaGreatDoorC02
import Derived.Test.YtnpfcnfhfkflhaaGreatDoorC01
set_option linter.all false
open Go.Proofs.Tryz (prog)
set_option maxRecDepth 100000
namespace Go.TM
variable {T:Type} {P:Program} {S:Sys P T}
structure Hlr (U:Qa T) (b:Nat) (e:TypeId) (c:Array Value) (U':Qa T):Prop where
 imm:∀x o,U.I x=some o->U'.I x=some o
 own:U'.M=.obj b (.cells c e (0,0))::U.M
 tok:U'.tok=U.tok
 new:U.I b=none
theorem Hlr.le {U U' U'':Qa T} {b:Nat} {e:TypeId} {c:Array Value} (h:Hlr U b e c U') (k:U'.le U''):Hlr U b e c U'':=⟨λ x o i=>k.imm x o (h.imm x o i),k.own.trans h.own,k.tok.trans h.tok,h.new⟩
theorem Hlr.frz2 {U U':Qa T} {b:Nat} {e:TypeId} {c:Array Value} (h:Hlr U b e c U'):U.frz.lg U'.frz:=⟨h.imm,⟨[],rfl⟩,h.tok⟩
theorem Hlr.frz1 {U U':Qa T} {b:Nat} {e:TypeId} {c:Array Value} (h:Hlr U b e c U'):U.frz.lg U':=⟨h.imm,⟨_,(List.append_nil _).symm⟩,h.tok⟩
theorem Hlr.made {U U':Qa T} {b:Nat} {e:TypeId} {c:Array Value} (h:U.le U') (hf:U'.free b):Hlr U b e c (U'.put b (.cells c e)):=by
 refine⟨h.imm,by show _::U'.M=_;rw [h.own],h.tok,?_⟩;cases hb:U.I b with
 | none=>rfl
 | some o=>have:=h.imm b o hb;rw [hf.1] at this;cases this
theorem Hlr.write {U U':Qa T} {b:Nat} {e:TypeId} {c:Array Value} {vs:List Value} {Q:Qa T->Prop} (h:Hlr U b e c U') (hsz:c.size=vs.length) (hs:∀v∈vs,v.single=true) (hQ:∀U1,U.le U1->Zi U1 b vs.toArray->Q U1):StV ⟨b,0,none⟩ vs 0 (λ U'=>∃U1,Qw U' U1/\Q U1) U':=by
 refine Qqh [] vs 0 c U' h.own hs (by omega) ?_;rw [Qh7 hsz];refine⟨_,We (b:=b) (M':=U.M) (List.Perm.refl _),hQ _ ⟨λ x o i=>?_,rfl,h.tok⟩ Zi.new⟩;show Qf8 U'.I b _ x=_;unfold Qf8;rw [if_neg]
 ·exact h.imm x o i
 ·rintro rfl;rw [h.new] at i;cases i
end Go.TM
namespace Go.Proofs
open Go.TM
def Zpi:C:=(.seq (.reg [.d 4 (.mv (.const (.bool false)))])
 (.seq (.seq (.reg [.d 5 (.mv (.const (.int .i64 0)))])
 (.block 0 (.loop (.seq (.seq (.reg [.m 6 5,.m 7 0,.d 8 (.len (.tmp 7)),.d 9 (.cmp .lss (.tmp 6) (.tmp 8))])
 (.ite (.tmp 9) .skip (.exit 0)))
 (.seq (.block 1 (.seq (.reg [.m 12 0,.m 13 5,.d 14 (.idx 1 (.tmp 12) (.tmp 13)),.d 15 (.ld (.tmp 14)),.m 16 1,.d 17 (.cmp .eql (.tmp 15) (.tmp 16))])
 (.ite (.tmp 17) (.seq (.reg [.d 4 (.mv (.const (.bool true)))])
 .ret) .skip)))
 (.reg [.m 10 5,.d 11 (.add (.tmp 10) (.const (.int .i64 1))),.m 5 11]))))))
 (.seq (.reg [.d 4 (.mv (.const (.bool false)))])
 .ret)))
theorem Qzk:Zf prog 38 18 Zpi [.t 4]:=.mk' [] [] Tryz.func38 rfl (by kernel_rfl) (by kernel_rfl) (by kernel_rfl) (by kernel_rfl)
variable {T:Type} {S:TM.Sys prog T} {U:Qa T}
attribute [local irreducible] Qb Zl Wt
theorem Qga (a:Option Addr) (len cap:Nat) (l:List Int) (hl:Z5 U a len l) (hlen:len<2 ^ 60) (n:Int) :
  Qb S 38 #[.slice a len cap,.int .i64 n] (λ v U'=>v=.bool (l.contains n)/\U'=U) U:=by
 refine Qb.of (args:=[_,_]) Qzk Qf (by simp) ?_
 repeat refine⟨rfl,?_⟩
 refine⟨Nat,λ i=>[(0,.slice a len cap),(1,.int .i64 n),(5,.int .i64 i)],λ i U'=>U'=U/\i<=len/\n∉l.take i,λ i=>len-i,0,⟨rfl,rfl,rfl,trivial⟩,⟨rfl,by omega,by simp⟩,?_⟩;rintro i f _ ⟨rfl,hi,hno⟩
 repeat refine⟨rfl,?_⟩
 conv=>whnf
 apply Qe<;>intro hc
 ·have hlt:i<len:=by simpa using hc
  obtain⟨ad,x,hx,rfl,hsp,hs⟩:=hl.at hlt;refine⟨ad,i,⟨rfl,rfl,hlt⟩,?_⟩;refine⟨_,hs,?_⟩
  repeat refine⟨rfl,?_⟩
  conv=>whnf
  apply Qe<;>intro hc
  ·repeat refine⟨rfl,?_⟩
   conv=>whnf
   have hxn:x=n:=by simpa using hc
   refine⟨?_,rfl⟩;have:n∈l:=hxn ▸ List.mem_of_getElem? hx;simp [this]
  ·have hxn:x≠n:=by simpa using hc
   refine⟨by unfold Zu;omega,?_⟩;refine⟨rfl,i+1,⟨rfl,rfl,rfl,trivial⟩,⟨rfl,by omega,?_⟩,by show _-_<_-_;omega⟩;rw [Ji hx];simp [hno,Ne.symm hxn]
 ·have hge:len<=i:=by simpa using hc
  repeat refine⟨rfl,?_⟩
  refine⟨?_,rfl⟩;have:l.take i=l:=List.take_of_length_le (by rw [hl.1];exact hge);rw [this] at hno;simp [hno]
end Go.Proofs
namespace Go.TM
variable {T:Type} {U:Qa T}
def boC (l:List Bool):List Value:=l.map .bool
theorem Zc5 (l:List Bool) (i:Nat) (x:Bool):(boC l).toArray.setIfInBounds i (.bool x)=(boC (l.set i x)).toArray:=by
 simp [boC,List.map_set]
theorem Qel.of {b:Nat} {l:List Bool} (h:Jn U ⟨b,0,none⟩ (boC l)):Qel U (some ⟨b,0,none⟩) l.length l:=
 ⟨rfl,λ i x hx=>⟨_,rfl,rfl,by rw [Nat.mul_one];exact h i _ (by simp [boC,hx])⟩⟩
theorem Zpk {n i:Nat} (h:i<n):(List.replicate i true++List.replicate (n-i) false).set i true=List.replicate (i+1) true++List.replicate (n-(i+1)) false:=by
 obtain⟨m,e⟩:∃m,n-i=m+1:=⟨n-i-1,by omega⟩;rw [List.set_append_right _ _ (by simp),e];simp only [List.length_replicate,Nat.sub_self,List.replicate_succ,List.set_cons_zero];rw [show n-(i+1)=m by omega,<- List.replicate_succ,List.replicate_succ',List.append_assoc];rfl
theorem Zpp {P:Program} {t:TypeId} (h:(match P.info? t with | some inf=>inf.zero.isSome && (match inf.zero with | some (.bool false)=>true | _=>false) && inf.size == 1 && decide (inf.bytes<=64) | none=>false)=true):∃inf,P.info? t=some inf/\inf.zero=some (.bool false)/\inf.size=1/\inf.bytes<=64:=by
 split at h
 ·rename_i inf hi;simp only [Bool.and_eq_true,beq_iff_eq,decide_eq_true_eq] at h;obtain⟨⟨⟨h1,h2⟩,h3⟩,h4⟩:=h;refine⟨inf,hi,?_,h3,h4⟩;split at h2
  ·assumption
  ·cases h2
 ·cases h
theorem Zpx {P:Program} {S:Sys P T} {f:FuncId} {args:Array Value} {s w:List Bool} (h:Qb S f args (λ v U'=>∃rb wb,v=.tuple #[.slice (some ⟨rb,0,none⟩) s.length s.length,.slice (some ⟨wb,0,none⟩) w.length w.length]/\U'.M=.obj rb (.cells (boC s).toArray 4 (0,0))::.obj wb (.cells (boC w).toArray 4 (0,0))::U.M/\(∀x o,U.I x=some o->U'.I x=some o)/\U'.tok=U.tok) U) :
  Qb S f args (λ v U'=>(∃v1 v2,v=.tuple #[v1,v2]/\Qaw U'.frz v1 s/\Qaw U'.frz v2 w)/\U.le U') U:=by
 have h1:Qb S f args (λ v U'=>∃v1 wb,v=.tuple #[v1,.slice (some ⟨wb,0,none⟩) w.length w.length]/\Qaw U'.frz v1 s/\U'.M=.obj wb (.cells (boC w).toArray 4 (0,0))::U.M/\(∀x o,U.I x=some o->U'.I x=some o)/\U'.tok=U.tok) U:=by
  refine h.sep λ v U' hs ⟨rb,wb,hv,hM,hI,ht⟩=>?_;obtain⟨x1,k1,k2,k3⟩:=Qxx (U:={ U' with M:=.obj wb (.cells (boC w).toArray 4 (0,0))::U.M }) hs hM (λ _ _ h=>h) rfl rfl;have b1:Zi x1.frz rb (boC s).toArray:=⟨4,(0,0),k3⟩;exact⟨x1,k1,_,wb,hv,b1.bools (λ i x hx=>by simp [boC,hx]),k2.own,λ x o hx=>k2.imm x o (hI x o hx),k2.tok.trans ht⟩
 refine h1.sep λ v U' hs ⟨v1,wb,hv,hv1,hM,hI,ht⟩=>?_;obtain⟨x1,k1,k2,k3⟩:=Qxx (U:={ U' with M:=U.M }) hs hM (λ _ _ h=>h) rfl rfl;have b1:Zi x1.frz wb (boC w).toArray:=⟨4,(0,0),k3⟩;have hz:U'.frz.lg x1.frz:=⟨k2.imm,⟨[],rfl⟩,k2.tok⟩;exact⟨x1,k1,⟨_,_,hv,hv1.lg hz,b1.bools (λ i x hx=>by simp [boC,hx])⟩,⟨λ x o hx=>k2.imm x o (hI x o hx),k2.own,k2.tok.trans ht⟩⟩
end Go.TM
namespace Go.Proofs
open Go.TM
variable {T:Type} {S:TM.Sys prog T} {U:Qa T}
attribute [local irreducible] Qb Zl Wt
theorem Zc3 (a a':Option Addr) (len cap len' cap':Nat) (l l':List Int) (hl:Z5 U a len l) (hl':Z5 U a' len' l') (hlen:len<2 ^ 60) (hlen':len'<2 ^ 60) :
  Qb S 127 #[.slice a len cap,.slice a' len' cap'] (λ v U'=>v=.bool (l.all λ n=>l'.contains n)/\U'=U) U:=by
 refine Qb.of (args:=[_,_]) Q4v Qf (by simp) ?_;have hll:=hl.1;refine⟨Nat,λ i=>[(0,.slice a len cap),(1,.slice a' len' cap'),(5,.int .i64 i)],λ i U'=>U'=U/\i<=len/\(l.take i).all (λ n=>l'.contains n)=true,λ i=>len-i,0,⟨rfl,rfl,rfl,trivial⟩,⟨rfl,by omega,rfl⟩,?_⟩;rintro i f _ ⟨rfl,hi,hinv⟩;have hin:Zu ((i:Int)+1):=by unfold Zu;omega
 repeat refine⟨rfl,?_⟩
 conv=>whnf
 apply Qe<;>intro hc
 ·have hlt:i<len:=by simpa using hc
  obtain⟨ad,x,hx,rfl,hsp,hs⟩:=hl.at hlt;refine⟨ad,i,⟨rfl,rfl,hlt⟩,?_⟩;refine⟨_,hs,?_⟩;refine⟨Qzk.any,(Qga a' len' cap' l' hl' hlen' x).go λ _=>?_⟩;cases hh:l'.contains x with
  | false=>
   have hno:(l.all λ n=>l'.contains n)=false:=by
    rw [List.all_eq_false];exact⟨x,List.mem_of_getElem? hx,by rw [hh];simp⟩
   rw [hno]
   repeat refine⟨rfl,?_⟩
   conv=>whnf
  | true=>
   repeat refine⟨rfl,?_⟩
   refine⟨hin,?_⟩
   conv=>whnf
   exact⟨rfl,i+1,⟨rfl,rfl,rfl,trivial⟩,⟨rfl,by omega,by rw [Ji hx,List.all_append,hinv];simp only [List.all_cons,List.all_nil,hh];rfl⟩,by show _-_<_-_;omega⟩
 ·have hge:i=len:=by simp at hc;omega
  rw [List.take_of_length_le (by omega)] at hinv;rw [hinv]
  repeat refine⟨rfl,?_⟩
  conv=>whnf
theorem Q4u (c:Cs) (ga aa:Option Addr) (gl gc al ac:Nat) (hg:J3 U ga gl c.gs) (hgl:gl<2 ^ 60) (sa:Option Addr) (sl sc:Nat) (s:List Bool) (hs:Qel U sa sl s) (hin:∀g∈c.gs,∀n∈g,0<=n/\n.toNat<sl) :
  Qb S 128 #[.agg #[.string c.nm,.int .i64 c.ag,.slice ga gl gc,.slice aa al ac],.slice sa sl sc] (λ v U'=>v=.bool (Zng c.gs s)/\U'=U) U:=by
 refine Qb.pure' (Qb.of (args:=[_,_]) Q4w Qf (by simp) ?_);have hgll:=hg.1
 repeat refine⟨rfl,?_⟩
 conv=>whnf
 intro B U1 h_1 hB;have hB:Zi U1 B #[.string c.nm,.int .i64 c.ag,.slice ga gl gc,.slice aa al ac]:=hB;have hg:=hg.lg h_1.lg;have hs:=hs.lg h_1.lg;refine⟨Nat,λ i=>[(1,.slice sa sl sc),(2,.pointer (some ⟨B,0,none⟩)),(5,.int .i64 i)],λ i U'=>U'=U1/\i<=gl/\Zng (c.gs.take i) s=false,λ i=>gl-i,0,⟨rfl,rfl,rfl,trivial⟩,⟨rfl,by omega,rfl⟩,?_⟩;rintro i f U2 ⟨hU,hi,hno⟩;obtain rfl:=hU.symm;have hin1:Zu ((i:Int)+1):=by unfold Zu;omega
 refine⟨_,hB.sees3 (o:=2) rfl,?_⟩
 repeat refine⟨rfl,?_⟩
 conv=>whnf
 apply Qe<;>intro hc
 ·have hlt:i<gl:=by simpa using hc
  obtain⟨ad,g,ga2,gl2,gc2,hx,hea,hsp,hsl,hi2,hgl2,hgm⟩:=hg.at hlt;have hg2l:=hi2.1;have hgin:=hin g hgm
  have hnext:Zng (c.gs.take (i+1)) s=g.all λ r=>s.getD r.toNat false:=by
   unfold Zng at hno ⊢;rw [Ji hx,List.any_append,hno];simp
  refine⟨Nat×Bool,λ y=>[(1,.slice sa sl sc),(2,.pointer (some ⟨B,0,none⟩)),(5,.int .i64 i),(6,.bool y.2),(7,.int .i64 y.1)],λ y U'=>U'=U1/\y.1<=gl2/\((g.take y.1).all λ r=>s.getD r.toNat false)=y.2,λ y=>gl2-y.1,(0,true),⟨rfl,rfl,rfl,rfl,rfl,trivial⟩,⟨rfl,by simp,rfl⟩,?_⟩;rintro⟨j,t⟩ f U2 ⟨hU,hj,ht⟩;obtain rfl:=hU.symm;simp only at hj ht;have hin2:Zu ((j:Int)+1):=by unfold Zu;omega
  refine⟨_,hB.sees3 (o:=2) rfl,?_⟩;refine⟨ad,i,⟨hea,rfl,hlt⟩,?_⟩;refine⟨_,hsl,?_⟩
  repeat refine⟨rfl,?_⟩
  conv=>whnf
  apply Qe<;>intro hc
  ·have hltj:j<gl2:=by simpa using hc
   obtain⟨ad3,n,hxn,hea3,hsp3,hs3⟩:=hi2.at hltj;obtain⟨hn0,hn1⟩:=hgin n (List.mem_of_getElem? hxn);have hnext2:((g.take (j+1)).all λ r=>s.getD r.toNat false)=(t && s.getD n.toNat false):=by rw [Ji hxn,List.all_append,ht];simp
   cases t with
   | false=>
    refine⟨hin2,?_⟩
    conv=>whnf
    exact⟨rfl,(j+1,false),⟨rfl,rfl,rfl,rfl,rfl,trivial⟩,⟨rfl,by show j+1<=gl2;omega,hnext2⟩,by show _-_<_-_;omega⟩
   | true=>
    obtain⟨ad4,x,hx4,hea4,hsp4,hs4⟩:=hs.at hn1;have hgd:s.getD n.toNat false=x:=by simp [List.getD_eq_getElem?_getD,hx4]
    refine⟨_,hB.sees3 (o:=2) rfl,?_⟩;refine⟨ad,i,⟨hea,rfl,hlt⟩,?_⟩;refine⟨_,hsl,?_⟩;refine⟨ad3,j,⟨hea3,rfl,hltj⟩,?_⟩;refine⟨_,hs3,?_⟩;refine⟨ad4,n.toNat,⟨hea4,(Int.toNat_of_nonneg hn0).symm,hn1⟩,?_⟩;refine⟨_,hs4,?_⟩;refine⟨hin2,?_⟩
    conv=>whnf
    exact⟨rfl,(j+1,x),⟨rfl,rfl,rfl,rfl,rfl,trivial⟩,⟨rfl,by show j+1<=gl2;omega,by rw [hnext2,hgd];rfl⟩,by show _-_<_-_;omega⟩
  have hge:j=gl2:=by simp at hc;omega
  rw [List.take_of_length_le (by omega)] at ht;cases t with
  | true=>
   have hyes:Zng c.gs s=true:=by
    unfold Zng;rw [List.any_eq_true];exact⟨g,hgm,ht⟩
   rw [hyes]
   repeat refine⟨rfl,?_⟩
   conv=>whnf
   exact h_1.lg
  | false=>
   refine⟨hin1,?_⟩
   conv=>whnf
   exact⟨rfl,i+1,⟨rfl,rfl,rfl,trivial⟩,⟨rfl,by omega,by rw [hnext,ht]⟩,by show _-_<_-_;omega⟩
 ·have hge:i=gl:=by simp at hc;omega
  rw [List.take_of_length_le (by omega)] at hno;rw [hno]
  repeat refine⟨rfl,?_⟩
  conv=>whnf
  exact h_1.lg
theorem Zpu:∃inf,prog.info? 4=some inf/\inf.zero=some (.bool false)/\inf.size=1/\inf.bytes<=64:=Zpp (by kernel_rfl)
theorem Qlg:prog.underlying 29=some (.slice 4):=by kernel_rfl
set_option maxHeartbeats 2000000 in
theorem Qf7 (h:BH) (b:Bk) (hb:Zq U.frz h b) (hok:b.Ok) (a:Option Addr) (cap:Nat) (o:List Nat) (ho:Z5 U.frz a o.length (o.map λ (k:Nat)=>(k:Int))) (hlow:∀i∈o,i<b.cs.length) (hlen:o.length<2 ^ 60) :
  Qb S 72 #[h.v,.slice a o.length cap] (λ v U'=>(∃v1 v2,v=.tuple #[v1,v2]/\Qaw U'.frz v1 (b.ends o).1/\Qaw U'.frz v2 (b.ends o).2)/\U.le U') U:=by
 refine Zpx (Qb.of (args:=[_,_]) Q0h Qf (by simp) ?_);have hcl:=hb.cs.1;have hrl:=hb.rs.1;have hnr:=hok.nr;have hnc:=hok.nc;obtain⟨i4,i4a,i4b,i4c,i4d⟩:=Zpu
 repeat refine⟨rfl,?_⟩
 conv=>whnf
 intro B U1 h_1 hB;have hB:Zi U1 B #[.slice h.ra h.rl h.rc,.slice h.ca h.cl h.cc]:=hB;have hBf:Zi U1.frz B #[.slice h.ra h.rl h.rc,.slice h.ca h.cl h.cc]:=hB;have hb1:=hb.lg h_1.lg.frz2
 let ZR:List Bool:=List.replicate h.rl false
 let ZC:List Bool:=List.replicate h.cl false
 have hZR:(List.replicate h.rl (Value.bool false)).toArray=(boC ZR).toArray:=by simp [boC,ZR]
 have hZC:(List.replicate h.cl (Value.bool false)).toArray=(boC ZC).toArray:=by simp [boC,ZC]
 let MM:Nat->Nat->List Bool->List Bool->List Qx:=λ rb wb s w=>.obj rb (.cells (boC s).toArray 4 (0,0))::.obj wb (.cells (boC w).toArray 4 (0,0))::U.M
 conv=>whnf
 intro ac hfr0
 refine Qt2 (mu:=[1009]) (ops:=Q4g Tryz.f72 1) (id:=1) hfr0 [3,7] [[0,1,2,4,5,6,3,8,7],[0,1,2,4,5,6,7,3,8]] [9] Qp5 Zk5 Qf (by kernel_rfl) (by kernel_rfl) (by kernel_rfl) (by kernel_rfl) (by kernel_rfl)
  (λ f' ds' U'=>ds'=[]/\∃rb wb,Qig f' [(1,.slice a o.length cap),(2,.pointer (some ⟨B,0,none⟩)),(6,.slice (some ⟨rb,0,none⟩) h.rl h.rl),(18,.slice (some ⟨wb,0,none⟩) h.cl h.cl)]/\U1.frz.lg U'/\U'.M=MM rb wb ZR ZC) ?_ ?_
 ·intro l hl;simp only [Qp5,List.mem_cons,List.not_mem_nil,or_false] at hl;rcases hl with rfl | rfl
  ·refine⟨_,hBf.sees3 (o:=0) rfl,?_⟩;refine⟨_,hBf.sees3 (o:=1) rfl,?_⟩;refine⟨λ v U'=>∃rb,v=.slice (some ⟨rb,0,none⟩) h.rl h.rl/\U1.frz.lg U'/\U'.M=.obj rb (.cells (boC ZR).toArray 4 (0,0))::U.M,λ v x1 x2 ⟨rb,e,hl,hM⟩ hle=>⟨rb,e,hl.trans hle.lg,hle.own.trans hM⟩,λ v U' ⟨rb,e,hl,hM⟩=>hl,λ U' hC=>?_,λ v hv=>?_⟩
   ·conv=>whnf
    refine Qlj (n:=h.rl) Qlg i4a i4b rfl i4c i4d rfl rfl (by omega) λ rb hrb=>?_;refine⟨_,.refl _,rb,rfl,⟨λ x o hx=>hC.imm x o hx,⟨_,(List.append_nil _).symm⟩,hC.tok⟩,?_⟩;show _::U'.M=_;rw [hC.own,h_1.own,hZR]
   obtain⟨_,rb,rfl,-⟩:=hv;refine⟨λ v U'=>∃wb,v=.slice (some ⟨wb,0,none⟩) h.cl h.cl/\U1.frz.lg U'/\U'.M=MM rb wb ZR ZC,λ v x1 x2 ⟨rb,e,hl,hM⟩ hle=>⟨rb,e,hl.trans hle.lg,hle.own.trans hM⟩,λ v U' ⟨rb,e,hl,hM⟩=>hl,λ U' hC=>?_,λ v hv=>?_⟩
   ·obtain⟨rb',e,hl',hM'⟩:=hC;obtain rfl:rb=rb':=by simpa using e
    conv=>whnf
    refine Qlj (n:=h.cl) Qlg i4a i4b rfl i4c i4d rfl rfl (by omega) λ wb hwb=>?_;refine⟨_,W7 (M':=MM rb wb ZR ZC) ?_,wb,rfl,⟨λ x o hx=>hl'.imm x o hx,⟨_,(List.append_nil _).symm⟩,hl'.tok⟩,rfl⟩;show (_::U'.M).Perm _;rw [hM',hZC];exact List.Perm.swap _ _ _
   obtain⟨_,wb,rfl,-⟩:=hv
   conv=>whnf
   rintro U' ⟨wb',e,hl',hM'⟩;obtain rfl:wb=wb':=by simpa using e
   exact⟨rfl,rb,wb,⟨rfl,rfl,rfl,rfl,trivial⟩,hl',hM'⟩
  ·refine⟨_,hBf.sees3 (o:=0) rfl,?_⟩;refine⟨_,hBf.sees3 (o:=1) rfl,?_⟩;refine⟨λ v U'=>∃wb,v=.slice (some ⟨wb,0,none⟩) h.cl h.cl/\U1.frz.lg U'/\U'.M=.obj wb (.cells (boC ZC).toArray 4 (0,0))::U.M,λ v x1 x2 ⟨rb,e,hl,hM⟩ hle=>⟨rb,e,hl.trans hle.lg,hle.own.trans hM⟩,λ v U' ⟨rb,e,hl,hM⟩=>hl,λ U' hC=>?_,λ v hv=>?_⟩
   ·conv=>whnf
    refine Qlj (n:=h.cl) Qlg i4a i4b rfl i4c i4d rfl rfl (by omega) λ wb hwb=>?_;refine⟨_,.refl _,wb,rfl,⟨λ x o hx=>hC.imm x o hx,⟨_,(List.append_nil _).symm⟩,hC.tok⟩,?_⟩;show _::U'.M=_;rw [hC.own,h_1.own,hZC]
   obtain⟨_,wb,rfl,-⟩:=hv;refine⟨λ v U'=>∃rb,v=.slice (some ⟨rb,0,none⟩) h.rl h.rl/\U1.frz.lg U'/\U'.M=MM rb wb ZR ZC,λ v x1 x2 ⟨rb,e,hl,hM⟩ hle=>⟨rb,e,hl.trans hle.lg,hle.own.trans hM⟩,λ v U' ⟨rb,e,hl,hM⟩=>hl,λ U' hC=>?_,λ v hv=>?_⟩
   ·obtain⟨wb',e,hl',hM'⟩:=hC;obtain rfl:wb=wb':=by simpa using e
    conv=>whnf
    refine Qlj (n:=h.rl) Qlg i4a i4b rfl i4c i4d rfl rfl (by omega) λ rb hrb=>?_;refine⟨_,.refl _,rb,rfl,⟨λ x o hx=>hl'.imm x o hx,⟨_,(List.append_nil _).symm⟩,hl'.tok⟩,?_⟩;show _::U'.M=_;rw [hM',hZR]
   obtain⟨_,rb,rfl,-⟩:=hv
   conv=>whnf
   rintro U' ⟨rb',e,hl',hM'⟩;obtain rfl:rb=rb':=by simpa using e
   exact⟨rfl,rb,wb,⟨rfl,rfl,rfl,rfl,trivial⟩,hl',hM'⟩
 rintro f' ds' U3 ⟨rfl,rb,wb,hfr,hlg3,hM3⟩;rw [<- hfr.ovr];clear hfr
 conv=>whnf
 intro a' hf';refine⟨by rw [hf'.size,hfr0.size],_,hf'.get,?_⟩;rw [hf'.ds];clear hf' hfr0
 refine⟨Nat,λ i=>[(1,.slice a o.length cap),(2,.pointer (some ⟨B,0,none⟩)),(6,.slice (some ⟨rb,0,none⟩) h.rl h.rl),(7,.slice (some ⟨wb,0,none⟩) h.cl h.cl),(8,.int .i64 i)],
  λ i U'=>U1.frz.lg U'/\i<=h.rl/\U'.M=MM rb wb (List.replicate i true++List.replicate (h.rl-i) false) ZC,λ i=>h.rl-i,0,⟨rfl,rfl,rfl,rfl,rfl,trivial⟩,⟨hlg3,by omega,by rw [hM3];simp [ZR]⟩,?_⟩
 rintro i f U4 ⟨hl,hi,hM⟩;have hin:Zu ((i:Int)+1):=by unfold Zu;omega
 repeat refine⟨rfl,?_⟩
 conv=>whnf
 apply Qe<;>intro hc
 ·have hlt:i<h.rl:=by simpa using hc
  refine⟨_,i,⟨rfl,rfl,hlt⟩,?_⟩;refine⟨rfl,Zpc (L₁:=[]) (by rw [hM];exact List.Perm.refl _) (by simp [boC];omega) rfl λ x1 k1 k2 k3=>?_⟩
  have hM':x1.M=MM rb wb (List.replicate (i+1) true++List.replicate (h.rl-(i+1)) false) ZC:=by
   rw [k3,Nat.mul_one];show ([]:List Qx)++.obj rb (.cells ((boC _).toArray.setIfInBounds i (.bool true)) 4 (0,0))::_=_;rw [Zc5,Zpk hlt];rfl
  refine⟨hin,?_⟩
  conv=>whnf
  exact⟨rfl,i+1,⟨rfl,rfl,rfl,rfl,rfl,trivial⟩,⟨⟨λ x o hx=>by rw [k1];exact hl.imm x o hx,⟨_,(List.append_nil _).symm⟩,by rw [k2];exact hl.tok⟩,by omega,hM'⟩,by show _-_<_-_;omega⟩
 have hge:i=h.rl:=by simp at hc;omega
 subst hge;have hini:b.ini=(List.replicate h.rl true++List.replicate (h.rl-h.rl) false,ZC):=by simp [Bk.ini,ZC,hrl,hcl]
 refine⟨Nat,λ j=>[(1,.slice a o.length cap),(2,.pointer (some ⟨B,0,none⟩)),(6,.slice (some ⟨rb,0,none⟩) h.rl h.rl),(7,.slice (some ⟨wb,0,none⟩) h.cl h.cl),(9,.int .i64 j)],
  λ j U'=>U1.frz.lg U'/\j<=o.length/\U'.M=MM rb wb (b.ends (o.take j)).1 (b.ends (o.take j)).2,λ j=>o.length-j,0,⟨rfl,rfl,rfl,rfl,rfl,trivial⟩,⟨hl,by omega,by rw [hM];show _=MM rb wb b.ini.1 b.ini.2;rw [hini]⟩,?_⟩
 rintro j f U5 ⟨hl5,hj,hM5⟩;have hinj:Zu ((j:Int)+1):=by unfold Zu;omega
 repeat refine⟨rfl,?_⟩
 conv=>whnf
 apply Qe<;>intro hc
 ·have hlt:j<o.length:=by simpa using hc
  obtain⟨n,hxn⟩:∃n,o[j]?=some n:=⟨_,List.getElem?_eq_getElem hlt⟩;have hn:=hlow n (List.mem_of_getElem? hxn);obtain⟨ad2,x2,hx2,hea2,hsp2,hs2⟩:=(ho.lg h_1.lg.frz2).at hlt;obtain rfl:(n:Int)=x2:=by rw [List.getElem?_map,hxn] at hx2;exact Option.some.inj hx2
  obtain⟨ad,c,ga,gl,gc,aa,al,ac,hx,hea,hsp,hrd,hg,hgl,ha,hal,hmem⟩:=hb1.case (show n<h.cl by omega);have hcas:b.cas n=c:=by simp [Bk.cas,List.getD_eq_getElem?_getD,hx]
  have hag:=hok.ag c hmem;have hgs:=hok.gs c hmem;have f5:U1.frz.lg U5.frz:=hl5.frz2;have hB5:Zi U5.frz B #[.slice h.ra h.rl h.rc,.slice h.ca h.cl h.cc]:=hB.imI hl5.imm
  conv=>whnf
  intro ac2 hfr2
  refine Qt2 (mu:=[1009]) (ops:=Q4g Tryz.f72 9) (id:=9) hfr2 [8] [[0,1,2,3,4,5,6,7,8]] [9] Qqa Zk8 Qf (by kernel_rfl) (by kernel_rfl) (by kernel_rfl) (by kernel_rfl) (by kernel_rfl)
   (λ f' ds' U'=>ds'=[]/\∃b10,Qig f' [(1,.slice a o.length cap),(2,.pointer (some ⟨B,0,none⟩)),(6,.slice (some ⟨rb,0,none⟩) h.rl h.rl),(7,.slice (some ⟨wb,0,none⟩) h.cl h.cl),(9,.int .i64 j),(10,.pointer (some ⟨b10,0,none⟩)),(41,.agg #[.string c.nm,.int .i64 c.ag,.slice ga gl gc,.slice aa al ac])]/\Hlr U5 b10 49 #[.string ⟨#[]⟩,.int .i64 0,.slice none 0 0,.slice none 0 0] U') ?_ ?_
  ·intro l hl;simp only [Qqa,List.mem_cons,List.not_mem_nil,or_false] at hl;subst hl;refine⟨_,hB5.sees3 (o:=1) rfl,?_⟩;refine⟨ad2,j,⟨hea2,rfl,hlt⟩,?_⟩;refine⟨_,hs2.lg f5,?_⟩;refine⟨ad,n,⟨hea,rfl,by omega⟩,?_⟩;refine⟨_,⟨rfl,hrd.lg f5⟩,?_⟩;refine⟨λ v U'=>∃b10,v=.pointer (some ⟨b10,0,none⟩)/\Hlr U5 b10 49 #[.string ⟨#[]⟩,.int .i64 0,.slice none 0 0,.slice none 0 0] U',λ v x1 x2 ⟨q,e,hh⟩ hle=>⟨q,e,hh.le hle⟩,λ v U' ⟨q,e,hh⟩=>hh.frz1,λ U' hC=>?_,λ v hv=>?_⟩
   ·conv=>whnf
    intro b10 hf10;exact⟨_,.refl _,_,.refl _,b10,rfl,Hlr.made hC hf10⟩
   obtain⟨_,b10,rfl,-⟩:=hv
   conv=>whnf
   rintro U' ⟨b10',e,hh⟩;obtain rfl:b10=b10':=by simpa using e
   exact⟨rfl,b10,⟨rfl,rfl,rfl,rfl,rfl,rfl,rfl,trivial⟩,hh⟩
  rintro f' ds' U6 ⟨rfl,b10,hfr,hhld⟩;rw [<- hfr.ovr];clear hfr;refine⟨rfl,hhld.write (vs:=[.string c.nm,.int .i64 c.ag,.slice ga gl gc,.slice aa al ac]) rfl (by simp [Value.single]) λ U7 h7 hb10=>?_⟩
  conv=>whnf
  intro a'' hf'';refine⟨by rw [hf''.size,hfr2.size],_,hf''.get,?_⟩;rw [hf''.ds];clear hf'' hfr2;have hl7:U1.frz.lg U7:=hl5.trans h7.lg;have hM7:U7.M=MM rb wb (b.ends (o.take j)).1 (b.ends (o.take j)).2:=h7.own.trans hM5;have hsl:=(b.end_len (o.take j));have hrl1:(b.ends (o.take j)).1.length=h.rl:=by rw [hsl.1,hrl]
  have hcl1:(b.ends (o.take j)).2.length=h.cl:=by rw [hsl.2,hcl]
  have hbc:Qel U7 (some ⟨rb,0,none⟩) h.rl (b.ends (o.take j)).1:=hrl1 ▸ Qel.of (Za [] hM7);have hnext:b.ends (o.take (j+1))=b.stp (b.ends (o.take j)) n:=by rw [Ji hxn,b.ends_snoc]
  unfold Bk.stp at hnext;rw [hcas] at hnext;refine⟨_,⟨rfl,hb10.reads (λ k v hv=>by simpa using hv)⟩,?_⟩;refine⟨Q4w.any,(Q4u c ga aa gl gc al ac ((hg.lg hl7.frz2).lg Qp) hgl (some ⟨rb,0,none⟩) h.rl h.rl (b.ends (o.take j)).1 hbc (λ g hgm n hn=>?_)).mono ?_⟩
  ·have:=(hgs g hgm).2 n hn;unfold Bk.nr at this;omega
  rintro _ U' ⟨rfl,hU'⟩ -;obtain rfl:=hU'.symm;have hag1:c.ag=(c.ag.toNat:Int)/\c.ag.toNat<h.rl:=by unfold Bk.nr at hag;omega
  cases hw:Zng c.gs (b.ends (o.take j)).1 with
  | true=>
   rw [if_pos hw] at hnext;refine⟨ad2,j,⟨hea2,rfl,hlt⟩,?_⟩;refine⟨_,hs2.lg (Qp.trans hl7:U1.frz.frz.lg U7),?_⟩;refine⟨_,n,⟨rfl,rfl,by omega⟩,?_⟩;refine⟨rfl,Zpc (L₁:=[_]) (by rw [hM7];first | done | exact List.Perm.refl _) (by simp [boC];omega) rfl λ x1 k1 k2 k3=>?_⟩
   have hM8:x1.M=MM rb wb (b.ends (o.take j)).1 ((b.ends (o.take j)).2.set n true):=by
    rw [k3,Nat.mul_one];show ([Qx.obj rb _]:List Qx)++Qx.obj wb (.cells ((boC _).toArray.setIfInBounds n (.bool true)) 4 (0,0))::_=_;rw [Zc5];rfl
   have hl8:U1.frz.lg x1:=⟨λ x o hx=>by rw [k1];exact hl7.imm x o hx,⟨_,(List.append_nil _).symm⟩,by rw [k2];exact hl7.tok⟩;have hb8:=hb10.imI (U':=x1) λ x o hx=>by rw [k1];exact hx
   refine⟨_,hb8.sees3 (o:=1) rfl,?_⟩;refine⟨_,c.ag.toNat,⟨rfl,hag1.1,hag1.2⟩,?_⟩;refine⟨rfl,Zpc (L₁:=[]) (by rw [hM8];first | done | exact List.Perm.refl _) (by simp [boC];omega) rfl λ x2 k4 k5 k6=>?_⟩
   have hM9:x2.M=MM rb wb (b.ends (o.take (j+1))).1 (b.ends (o.take (j+1))).2:=by
    rw [k6,Nat.mul_one,hnext];show ([]:List Qx)++.obj rb (.cells ((boC _).toArray.setIfInBounds c.ag.toNat (.bool false)) 4 (0,0))::_=_;rw [Zc5];rfl
   refine⟨hinj,?_⟩
   conv=>whnf
   exact⟨rfl,j+1,⟨rfl,rfl,rfl,rfl,rfl,trivial⟩,⟨⟨λ x o hx=>by rw [k4];exact hl8.imm x o hx,⟨_,(List.append_nil _).symm⟩,by rw [k5];exact hl8.tok⟩,by omega,hM9⟩,by show _-_<_-_;omega⟩
  | false=>
   rw [if_neg (by simp [hw])] at hnext;refine⟨hinj,?_⟩
   conv=>whnf
   exact⟨rfl,j+1,⟨rfl,rfl,rfl,rfl,rfl,trivial⟩,⟨hl7,by omega,by rw [hM7,hnext]⟩,by show _-_<_-_;omega⟩
 have hge:j=o.length:=by simp at hc;omega
 rw [List.take_of_length_le (by omega)] at hM5;have he:=b.end_len o
 repeat refine⟨rfl,?_⟩
 conv=>whnf
 exact⟨rb,wb,by rw [he.1,he.2,hrl,hcl];rfl,hM5,λ x o hx=>hl5.imm x o (h_1.imm x o hx),hl5.tok.trans h_1.tok⟩
end Go.Proofs
namespace Go.TM
variable {T:Type} {P:Program} {S:Sys P T} {U U':Qa T}
theorem Qb.pre {f:FuncId} {args:Array Value} {Q:Value->Qa T->Prop} {U1:Qa T} (hs:Qw U U1) (h:Qb S f args Q U1):Qb S f args Q U:=λ Stop m c cs k=>.shift hs (h Stop m c cs k)
theorem Src.lgs {a:Option Addr} {cs:List Value} (h:Src U a cs) (hl:U.lg U'):Src U' a cs:=by
 rcases h with h | ⟨ad,e,hr⟩
 ·exact .inl h
 ·exact .inr ⟨ad,e,hr.lg hl⟩
def Qcf (U:Qa T) (l:List Int) (v:Value) (U':Qa T):Prop:=(∃a l c,v=.slice a l c)/\U.frz.lg U'/\Acc 3 1 v (l.map λ n=>.int .i64 n) U'.M U.M
theorem Qcf.le {l:List Int} {v:Value} {U'':Qa T} (h:Qcf U l v U') (k:U'.le U''):Qcf U l v U'':=⟨h.1,h.2.1.trans k.lg,by rw [k.own];exact h.2.2⟩
theorem Qcf.new {p:Nat} (h:U.le U'):Qcf U [] (.slice (some ⟨p,0,none⟩) 0 0) (U'.put p (.cells #[] 3)):=
 ⟨⟨_,_,_,rfl⟩,⟨λ x o hx=>h.imm x o hx,⟨_,(List.append_nil _).symm⟩,h.tok⟩,.inr ⟨p,#[],0,0,rfl,rfl,Nat.le_refl _,rfl,by show _::U'.M=_;rw [h.own],by simp⟩⟩
theorem Qcf.give {f:FuncId} {xs:Value->Array Value} {l:List Int} {v:Value} {Q:Value->Qa T->Prop} (h:Qcf U l v U')
  (k:∀(U1:Qa T) a cap,v=.slice a l.length cap->U.le U1->Z5 U1.frz a l.length l->Qb S f (xs v) Q U1):Qb S f (xs v) Q U':=by
 refine Qb.sep0 λ hs=>?_;obtain⟨U1,k1,k2,a,len,cap,rfl,hl,hsrc,hsp,-⟩:=h.2.2.freeze hs (λ x o hx=>h.2.1.imm x o hx) h.2.1.tok;simp at hl;subst hl;exact .pre k1 (k U1 a cap rfl k2 (Qlc hsrc hsp))
theorem Qql.single {cs:List Value} {ls:List (List Int)} (h:Qql U cs ls):∀w∈cs,w.single=true:=λ w hw=>by
 obtain⟨i,hi,e⟩:=List.mem_iff_getElem.1 hw;obtain⟨a,c,e',-⟩:=h.2 i _ (List.getElem?_eq_getElem (by rw [<- h.1];exact hi));rw [List.getElem?_eq_getElem hi,e] at e';rw [Option.some.inj e'];rfl
theorem Qql.app {cs cs':List Value} {ls ls':List (List Int)} (h:Qql U cs ls) (h':Qql U cs' ls'):Qql U (cs++cs') (ls++ls'):=by
 refine⟨by simp [h.1,h'.1],λ i x hx=>?_⟩;by_cases hi:i<ls.length
 ·rw [List.getElem?_append_left hi] at hx;obtain⟨a',c',e,h',g⟩:=h.2 i x hx;exact⟨a',c',by rw [List.getElem?_append_left (by rw [h.1];exact hi)];exact e,h',g⟩
 ·rw [List.getElem?_append_right (by omega)] at hx;obtain⟨a',c',e,h',g⟩:=h'.2 _ x hx;exact⟨a',c',by rw [List.getElem?_append_right (by rw [h.1];omega),h.1];exact e,h',g⟩
def Zcx (U:Qa T) (v:Value) (ls:List (List Int)):Prop:=∃a c cells,v=.slice a cells.length c/\Src U.frz a cells/\(∀ad,a=some ad->ad.spot=none)/\Qql U cells ls
theorem Q4x (o:List Nat) (i:Nat):(o.map λ (k:Nat)=>(k:Int)).contains (i:Int)=o.contains i:=by
 rw [Bool.eq_iff_iff,List.contains_iff_mem,List.contains_iff_mem,List.mem_map];exact⟨λ⟨k,hk,e⟩=>(by omega:k=i) ▸ hk,λ h=>⟨i,h,rfl⟩⟩
theorem Bk.aft_all {b:Bk} (hok:b.Ok) {i:Nat} {c:Cs} (hx:b.cs[i]?=some c) (o:List Nat):(c.af.all λ n=>(o.map λ (k:Nat)=>(k:Int)).contains n)=(Je b.A i).all λ k=>o.contains k:=by
 rw [Bk.aft1_at hx,List.all_map,Bool.eq_iff_iff,List.all_eq_true,List.all_eq_true]
 have e:∀n∈c.af,(o.map λ (k:Nat)=>(k:Int)).contains n=o.contains n.toNat:=λ n hn=>by
  obtain⟨q,rfl⟩:=Int.eq_ofNat_of_zero_le (hok.af c (List.mem_of_getElem? hx) n hn).1;rw [Q4x];rfl
 exact⟨λ h n hn=>by show o.contains n.toNat=true;rw [<- e n hn];exact h n hn,λ h n hn=>by rw [e n hn];exact h n hn⟩
theorem Bk.ordsTo_end (b:Bk) (k:Nat) (o:List Nat):b.ordsTo k o b.cs.length=b.ords (k+1) o:=rfl
theorem Bk.ordsTo_len {b:Bk} (hok:b.Ok) {k:Nat} (hk:k+1<=5) (o:List Nat) {m:Nat} (hm:m<=b.cs.length):(b.ordsTo k o m).length<=3125:=by
 obtain⟨r,hr⟩:=b.ordsTo_le k o hm;have h1:=b.ords_le hok.nc (k+1) o;rw [hr,List.length_append] at h1;have h2:5 ^ (k+1)<=5 ^ 5:=Nat.pow_le_pow_right (by omega) hk;have h3:(5:Nat) ^ 5=3125:=by decide
 omega
end Go.TM
namespace Go.Proofs
open Go.TM
def Qvv:List (List (Nat×St)):=[[(0,⟨.mv (.tmp 5),some 38,none,none⟩),(0,⟨.ldn 2 (.tmp 2),some 39,none,none⟩),(0,⟨.mv (.tmp 1),some 41,none,none⟩),(0,⟨.mv (.tmp 6),some 43,none,none⟩),(2,⟨.bsl 3 0 #[] [],some 40,none,none⟩),(2,⟨.raw { dst:=none,op:=(.call { callee:=.builtin .append,args:=#[(.tmp 40),(.tmp 41)],argTypes:=#[26,26] }),type:=26,pos := "", after:=#[],guard:=none },some 42,none,none⟩),(2,⟨.bsl 3 1 #[(.int .i64 0)] [(0,1,(.tmp 43))],some 44,none,none⟩),(2,⟨.raw { dst:=none,op:=(.call { callee:=.builtin .append,args:=#[(.tmp 42),(.tmp 44)],argTypes:=#[26,26] }),type:=26,pos := "", after:=#[],guard:=none },some 45,none,none⟩),(2,⟨.call (.func 82) #[(.tmp 39),(.tmp 45)],some 46,none,none⟩)],
 [(0,⟨.mv (.tmp 5),some 38,none,none⟩),(0,⟨.ldn 2 (.tmp 2),some 39,none,none⟩),(0,⟨.mv (.tmp 1),some 41,none,none⟩),(0,⟨.mv (.tmp 6),some 43,none,none⟩),(2,⟨.bsl 3 0 #[] [],some 40,none,none⟩),(2,⟨.bsl 3 1 #[(.int .i64 0)] [(0,1,(.tmp 43))],some 44,none,none⟩),(2,⟨.raw { dst:=none,op:=(.call { callee:=.builtin .append,args:=#[(.tmp 40),(.tmp 41)],argTypes:=#[26,26] }),type:=26,pos := "", after:=#[],guard:=none },some 42,none,none⟩),(2,⟨.raw { dst:=none,op:=(.call { callee:=.builtin .append,args:=#[(.tmp 42),(.tmp 44)],argTypes:=#[26,26] }),type:=26,pos := "", after:=#[],guard:=none },some 45,none,none⟩),(2,⟨.call (.func 82) #[(.tmp 39),(.tmp 45)],some 46,none,none⟩)],
 [(0,⟨.mv (.tmp 5),some 38,none,none⟩),(0,⟨.ldn 2 (.tmp 2),some 39,none,none⟩),(0,⟨.mv (.tmp 1),some 41,none,none⟩),(0,⟨.mv (.tmp 6),some 43,none,none⟩),(2,⟨.bsl 3 1 #[(.int .i64 0)] [(0,1,(.tmp 43))],some 44,none,none⟩),(2,⟨.bsl 3 0 #[] [],some 40,none,none⟩),(2,⟨.raw { dst:=none,op:=(.call { callee:=.builtin .append,args:=#[(.tmp 40),(.tmp 41)],argTypes:=#[26,26] }),type:=26,pos := "", after:=#[],guard:=none },some 42,none,none⟩),(2,⟨.raw { dst:=none,op:=(.call { callee:=.builtin .append,args:=#[(.tmp 42),(.tmp 44)],argTypes:=#[26,26] }),type:=26,pos := "", after:=#[],guard:=none },some 45,none,none⟩),(2,⟨.call (.func 82) #[(.tmp 39),(.tmp 45)],some 46,none,none⟩)]]
def Zm0:List St:=[⟨.raw { dst:=none,op:=(.call { callee:=.builtin .append,args:=#[(.tmp 38),(.tmp 46)],argTypes:=#[47,47] }),type:=47,pos := "", after:=#[],guard:=none },some 47,none,none⟩,⟨.mv (.tmp 47),some 5,none,none⟩]
variable {T:Type} {S:TM.Sys prog T}
attribute [local irreducible] Qb Zl Wt
set_option maxHeartbeats 4000000 in
theorem Qek (h:BH) (b:Bk) (hok:b.Ok) (hcl:b.cs.length=h.cl):∀(m:Nat) (o:List Nat) (U:Qa T),Zq U.frz h b->∀(pa:Option Addr) (pc:Nat),Z5 U.frz pa o.length (Qae o)->o.length+m=h.cl ->
  Qb S 82 #[h.v,.slice pa o.length pc] (λ v U'=>Zcx U' v ((b.ords m o).map Qae)/\U.le U') U:=by
 intro m
 induction m with
 | zero=>
  intro o U hb pa pc hO hlen;have hnc:=hok.nc
  have main:Qb S 82 #[h.v,.slice pa o.length pc] (λ v U'=>∃p a l c,v=.slice (some ⟨p,0,none⟩) 1 1/\Zi U' p #[.slice a l c]/\Qcf U (Qae o) (.slice a l c) U') U:=by
   refine Qb.of (args:=[_,_]) Qdc Qf (by simp) ?_
   repeat refine⟨rfl,?_⟩
   conv=>whnf
   intro B U1 h_1 hB;have hB:Zi U1 B #[.slice h.ra h.rl h.rc,.slice h.ca h.cl h.cc]:=hB;refine⟨_,hB.sees3 (o:=1) rfl,?_⟩
   repeat refine⟨rfl,?_⟩
   conv=>whnf
   apply Qe<;>intro hc
   rotate_left
   ·exfalso;simp at hc;omega
   conv=>whnf
   intro b13 hf13;refine⟨_,.refl _,?_⟩;have hn:Qcf U [] (.slice (some ⟨b13,0,none⟩) 0 0) (U1.put b13 (.cells #[] 3)):=.new h_1
   conv=>whnf
   refine Ws (v:=.slice (some ⟨b13,0,none⟩) 0 0) (cs:=([]:List Int).map λ n=>.int .i64 n) (new:=(Qae o).map λ n=>.int .i64 n) (M₀:=U.M) Qat rfl rfl hn.2.2 ((hO.lg hn.2.1.frz2).lg Qp).src' (by simp [Qae]) (by simp [Value.single]) (by simp [Qae];omega) λ v' M' ha' _=>?_;obtain⟨ta,tl,tc,rfl,-⟩:=Acc.src (U:={ (U1.put b13 (.cells #[] 3)) with M:=M' }) ha';have ha2:Qcf U (Qae o) (.slice ta tl tc) ({ (U1.put b13 (.cells #[] 3)) with M:=M' }:Qa T):=⟨⟨_,_,_,rfl⟩,⟨hn.2.1.imm,⟨_,(List.append_nil _).symm⟩,hn.2.1.tok⟩,by simpa using ha'⟩
   conv=>whnf
   intro b16 hf16;refine Zk hf16 λ U2 h_2 hb16=>?_
   repeat refine⟨rfl,?_⟩
   conv=>whnf
   exact⟨b16,ta,tl,tc,rfl,hb16,ha2.le h_2⟩
  refine main.sep λ v U' hs ⟨p,a,l,c,e,hbp,hacc⟩=>?_;obtain⟨U1,k1,k2,a',len,cap,e',hl,hsrc,hsp,-⟩:=Acc.freeze (U:={ U' with M:=U.M }) hs hacc.2.2 (λ _ _ h=>h) rfl;obtain⟨rfl,rfl,rfl⟩:a=a'/\l=len/\c=cap:=by simpa using e'
  have hz:U'.frz.lg U1.frz:=⟨k2.imm,⟨[],rfl⟩,k2.tok⟩;have hnl:(Qae o).length=l:=by simpa [Qae] using hl
  have hI:=Qlc hsrc hsp;refine⟨U1,k1,⟨some ⟨p,0,none⟩,1,[.slice a l c],e,.inr ⟨_,rfl,((show Zi U'.frz p #[.slice a l c] from hbp).lg hz).reads (λ k v hv=>by simpa using hv)⟩,(λ ad e=>by cases e;rfl),rfl,λ i x hx=>?_⟩,⟨λ x u hx=>k2.imm x u (hacc.2.1.imm x u hx),k2.own,k2.tok.trans hacc.2.1.tok⟩⟩;have hx:[Qae o][i]?=some x:=hx
  obtain⟨rfl,rfl⟩:i=0/\x=Qae o:=by
   cases i with
   | zero=>exact⟨rfl,by simpa using hx.symm⟩
   | succ i=>simp at hx
  exact⟨a,c,by rw [hnl];rfl,hI,by rw [hnl];simp [Qae] at hnl;omega⟩
 | succ k ih=>
  intro o U hb pa pc hO hlen;have hnc:=hok.nc
  have main:Qb S 82 #[h.v,.slice pa o.length pc] (λ v U'=>∃cells,Acc 26 1 v cells U'.M U.M/\Qql U' cells ((b.ords (k+1) o).map Qae)/\(∀x ox,U.I x=some ox->U'.I x=some ox)/\U'.tok=U.tok) U:=by
   refine Qb.of (args:=[_,_]) Qdc Qf (by simp) ?_
   repeat refine⟨rfl,?_⟩
   conv=>whnf
   intro B U1 h_1 hB;have hB:Zi U1 B #[.slice h.ra h.rl h.rc,.slice h.ca h.cl h.cc]:=hB;have hBf:Zi U1.frz B #[.slice h.ra h.rl h.rc,.slice h.ca h.cl h.cc]:=hB;have hb1:=hb.lg h_1.lg.frz2;refine⟨_,hB.sees3 (o:=1) rfl,?_⟩
   repeat refine⟨rfl,?_⟩
   conv=>whnf
   apply Qe<;>intro hc
   ·exfalso;simp at hc;omega
   refine⟨Nat×Value,λ y=>[(1,.slice pa o.length pc),(2,.pointer (some ⟨B,0,none⟩)),(5,y.2),(6,.int .i64 y.1)],λ y U'=>U1.frz.lg U'/\y.1<=h.cl/\∃cells,Acc 26 1 y.2 cells U'.M U.M/\Qql U' cells ((b.ordsTo k o y.1).map Qae),λ y=>h.cl-y.1,(0,.slice none 0 0),⟨rfl,rfl,rfl,rfl,trivial⟩,⟨Qp,by omega,[],by rw [h_1.own];exact .nil,rfl,by simp [Bk.ordsTo]⟩,?_⟩;rintro⟨i,v⟩ f U3 ⟨hl3,hi,cells,hacc,henc⟩;simp only at hacc henc hi;obtain⟨oa,ol,oc,rfl,hol,-⟩:=hacc.src;have hin:Zu ((i:Int)+1):=by unfold Zu;omega
   have hBf3:Zi U3.frz B #[.slice h.ra h.rl h.rc,.slice h.ca h.cl h.cc]:=hBf.lg hl3.frz2;have hB3:Zi U3 B #[.slice h.ra h.rl h.rc,.slice h.ca h.cl h.cc]:=hBf3.lg Qp;have hb3:=hb1.lg hl3.frz2;have hO3:Z5 U3.frz pa o.length (Qae o):=(hO.lg h_1.lg.frz2).lg hl3.frz2;have hsucc:=b.ordsTo_succ k o i;refine⟨_,hB3.sees3 (o:=1) rfl,?_⟩
   repeat refine⟨rfl,?_⟩
   conv=>whnf
   apply Qe<;>intro hc
   rotate_left
   ·have hge:i=b.cs.length:=by simp at hc;omega
    rw [hge,b.ordsTo_end] at henc
    repeat refine⟨rfl,?_⟩
    conv=>whnf
    exact⟨cells,hacc,henc,λ x ox hx=>hl3.imm x ox (h_1.imm x ox hx),hl3.tok.trans h_1.tok⟩
   have hlt:i<h.cl:=by simpa using hc
   obtain⟨ad,c,ga,gl,gc,aa,al,ac,hx,hea,hsp,hrd,hg,hgl,ha,hal,hmem⟩:=hb3.case hlt;have hall:=ha.1;have skip:b.can o i=false->((b.ordsTo k o (i+1)).map Qae)=(b.ordsTo k o i).map Qae:=λ e=>by rw [hsucc,e];simp
   refine⟨Qzk.any,(Qga pa o.length pc (Qae o) (hO3.lg Qp) (by omega) (i:Int)).go λ _=>?_⟩;rw [Q4x];cases hh:o.contains i with
   | true=>
    have hcan:b.can o i=false:=by unfold Bk.can;rw [hh];rfl
    refine⟨hin,?_⟩
    conv=>whnf
    exact⟨rfl,(i+1,.slice oa ol oc),⟨rfl,rfl,rfl,rfl,trivial⟩,⟨hl3,by show i+1<=h.cl;omega,cells,hacc,by show Qql _ _ ((b.ordsTo k o (i+1)).map Qae);rw [skip hcan];exact henc⟩,by show _-_<_-_;omega⟩
   | false=>
   refine⟨_,hB3.sees3 (o:=1) rfl,?_⟩;refine⟨ad,i,⟨hea,rfl,hlt⟩,?_⟩;refine⟨_,(hrd.lg Qp).cell (i:=3) rfl,?_⟩;refine⟨Q4v.any,(Zc3 aa pa al ac o.length pc c.af (Qae o) (ha.lg Qp) (hO3.lg Qp) hal (by omega)).go λ _=>?_⟩;rw [Bk.aft_all hok hx];cases ht:(Je b.A i).all λ k=>o.contains k with
   | false=>
    have hcan:b.can o i=false:=by unfold Bk.can;rw [hh,ht];rfl
    refine⟨hin,?_⟩
    conv=>whnf
    exact⟨rfl,(i+1,.slice oa ol oc),⟨rfl,rfl,rfl,rfl,trivial⟩,⟨hl3,by show i+1<=h.cl;omega,cells,hacc,by show Qql _ _ ((b.ordsTo k o (i+1)).map Qae);rw [skip hcan];exact henc⟩,by show _-_<_-_;omega⟩
   | true=>
   have hcan:b.can o i=true:=by unfold Bk.can;rw [hh,ht];rfl
   rw [hcan,if_pos rfl] at hsucc
   conv=>whnf
   intro ac0 hfr0
   refine Qt2 (mu:=[]) (ops:=Q4g Tryz.f82 8) (id:=8) hfr0 [2,4,6,7,8] [[0,1,3,5,2,4,6,7,8],[0,1,3,5,2,6,4,7,8],[0,1,3,5,6,2,4,7,8]] [9,10] Qvv Zm0 Qf (by kernel_rfl) (by kernel_rfl) (by kernel_rfl) (by kernel_rfl) (by kernel_rfl)
    (λ f' ds' U'=>ds'=[]/\∃a c cs',Qig f' [(1,.slice pa o.length pc),(2,.pointer (some ⟨B,0,none⟩)),(6,.int .i64 i),(38,.slice oa ol oc),(46,.slice a cs'.length c)]/\Src U'.frz a cs'/\(∀ad,a=some ad->ad.spot=none)/\Qql U' cs' ((b.ords k (o++[i])).map Qae)/\U3.le U') ?_ ?_
   ·intro l hl;simp only [Qvv,List.mem_cons,List.not_mem_nil,or_false] at hl;rcases hl with rfl | rfl | rfl
    ·refine⟨_,⟨rfl,hBf3.reads (λ k v hv=>by simpa using hv)⟩,?_⟩;refine⟨λ v U'=>Qcf U3 [] v U',λ v x1 x2 hh hle=>hh.le hle,λ v U' hh=>hh.2.1,λ U' hC=>?_,λ v hv=>?_⟩
     ·conv=>whnf
      intro p hp;exact⟨_,.refl _,_,.refl _,.new hC⟩
     obtain⟨_,⟨a40,l40,c40,rfl⟩,-,-⟩:=hv;refine⟨λ v U'=>Qcf U3 (Qae o) v U',λ v x1 x2 hh hle=>hh.le hle,λ v U' hh=>hh.2.1,λ U' hC=>?_,λ v hv=>?_⟩
     ·conv=>whnf
      refine Ws (v:=.slice a40 l40 c40) (cs:=([]:List Int).map λ n=>.int .i64 n) (new:=(Qae o).map λ n=>.int .i64 n) (M₀:=U3.M) Qat rfl rfl hC.2.2 ((hO3.lg hC.2.1.frz2).lg Qp).src' (by simp [Qae]) (by simp [Value.single]) (by simp [Qae];omega) λ v' M' ha' _=>?_;obtain⟨ta,tl,tc,rfl,-⟩:=Acc.src (U:={ U' with M:=M' }) ha';exact⟨_,.refl _,⟨⟨_,_,_,rfl⟩,⟨hC.2.1.imm,⟨_,(List.append_nil _).symm⟩,hC.2.1.tok⟩,by simpa using ha'⟩⟩
     obtain⟨_,⟨a42,l42,c42,rfl⟩,-,-⟩:=hv;refine⟨λ v U'=>(∃p,v=.slice (some ⟨p,0,none⟩) 1 1/\Qcf U3 (Qae o) (.slice a42 l42 c42) U'/\Zi U' p #[.int .i64 i]),λ v x1 x2 hh hle=>let ⟨p,e,h1,h2⟩:=hh;⟨p,e,h1.le hle,h2.le hle⟩,λ v U' hh=>let ⟨_,_,h1,_⟩:=hh;h1.2.1,λ U' hC=>?_,λ v hv=>?_⟩
     ·conv=>whnf
      intro p hp;exact Zk hp λ x1 k1 k2=>⟨x1,.refl _,p,rfl,hC.le k1,k2⟩
     obtain⟨_,b44,rfl,-,-⟩:=hv;refine⟨λ v U'=>Qcf U3 (Qae (o++[i])) v U'/\Zi U' b44 #[.int .i64 i],λ v x1 x2 hh hle=>⟨hh.1.le hle,hh.2.le hle⟩,λ v U' hh=>hh.1.2.1,λ U' hC=>?_,λ v hv=>?_⟩
     ·obtain⟨p',e,hC,hb44⟩:=hC;obtain rfl:b44=p':=by simpa using e
      conv=>whnf
      refine Ws (v:=.slice a42 l42 c42) (cs:=(Qae o:List Int).map λ n=>.int .i64 n) (new:=[.int .i64 (i:Int)]) (M₀:=U3.M) Qat rfl rfl hC.2.2 (.inr ⟨_,rfl,hb44.reads (λ k v hv=>by simpa using hv)⟩) (rfl) (by simp [Value.single]) (by simp [Qae];omega) λ v' M' ha' _=>?_;obtain⟨ta,tl,tc,rfl,-⟩:=Acc.src (U:={ U' with M:=M' }) ha';exact⟨_,.refl _,⟨⟨⟨_,_,_,rfl⟩,⟨hC.2.1.imm,⟨_,(List.append_nil _).symm⟩,hC.2.1.tok⟩,by simpa [Qae,List.map_append] using ha'⟩,hb44⟩⟩
     obtain⟨_,⟨⟨a45,l45,c45,rfl⟩,-,-⟩,-⟩:=hv;refine⟨λ v U'=>Zcx U' v ((b.ords k (o++[i])).map Qae)/\U3.le U',λ v x1 x2 ⟨⟨a,c,cells,e,h1,h2,h3⟩,h4⟩ hle=>⟨⟨a,c,cells,e,h1.lgs hle.lg.frz2,h2,h3.lg hle.lg.frz2⟩,h4.trans hle⟩,λ v U' hh=>Qp.trans hh.2.lg,λ U' hC=>?_,λ v hv=>?_⟩
     ·obtain⟨hC,-⟩:=hC;refine⟨Qdc.any,(Qcf.give (xs:=λ v=>#[h.v,v]) hC λ U4 ga gcap e hle hInts=>?_).mono λ v U' hv _=>⟨U',.refl _,hv⟩⟩;rw [e];have:=ih (o++[i]) U4 (hb3.lg hle.lg.frz2) ga gcap (by rw [List.length_map] at hInts;exact hInts) (by rw [List.length_append,List.length_singleton];omega);rw [show (Qae (o++[i])).length=(o++[i]).length by simp [Qae]];exact this.mono λ v U' ⟨h1,h2⟩=>⟨h1,hle.trans h2⟩
     obtain⟨_,⟨a46,c46,cells,rfl,-⟩,-⟩:=hv
     conv=>whnf
     rintro U' ⟨⟨a,c,cs',e,h1,h2,h3⟩,h4⟩;obtain⟨rfl,e2,rfl⟩:a46=a/\cells.length=cs'.length/\c46=c:=by simpa using e
     refine⟨rfl,a46,c46,cs',⟨rfl,rfl,rfl,rfl,?_,trivial⟩,h1,h2,h3,h4⟩;rw [<- e2];rfl
    ·refine⟨_,⟨rfl,hBf3.reads (λ k v hv=>by simpa using hv)⟩,?_⟩;refine⟨λ v U'=>Qcf U3 [] v U',λ v x1 x2 hh hle=>hh.le hle,λ v U' hh=>hh.2.1,λ U' hC=>?_,λ v hv=>?_⟩
     ·conv=>whnf
      intro p hp;exact⟨_,.refl _,_,.refl _,.new hC⟩
     obtain⟨_,⟨a40,l40,c40,rfl⟩,-,-⟩:=hv;refine⟨λ v U'=>(∃p,v=.slice (some ⟨p,0,none⟩) 1 1/\Qcf U3 [] (.slice a40 l40 c40) U'/\Zi U' p #[.int .i64 i]),λ v x1 x2 hh hle=>let ⟨p,e,h1,h2⟩:=hh;⟨p,e,h1.le hle,h2.le hle⟩,λ v U' hh=>let ⟨_,_,h1,_⟩:=hh;h1.2.1,λ U' hC=>?_,λ v hv=>?_⟩
     ·conv=>whnf
      intro p hp;exact Zk hp λ x1 k1 k2=>⟨x1,.refl _,p,rfl,hC.le k1,k2⟩
     obtain⟨_,b44,rfl,-,-⟩:=hv;refine⟨λ v U'=>Qcf U3 (Qae o) v U'/\Zi U' b44 #[.int .i64 i],λ v x1 x2 hh hle=>⟨hh.1.le hle,hh.2.le hle⟩,λ v U' hh=>hh.1.2.1,λ U' hC=>?_,λ v hv=>?_⟩
     ·obtain⟨p',e,hC,hb44⟩:=hC;obtain rfl:b44=p':=by simpa using e
      conv=>whnf
      refine Ws (v:=.slice a40 l40 c40) (cs:=([]:List Int).map λ n=>.int .i64 n) (new:=(Qae o).map λ n=>.int .i64 n) (M₀:=U3.M) Qat rfl rfl hC.2.2 ((hO3.lg hC.2.1.frz2).lg Qp).src' (by simp [Qae]) (by simp [Value.single]) (by simp [Qae];omega) λ v' M' ha' _=>?_;obtain⟨ta,tl,tc,rfl,-⟩:=Acc.src (U:={ U' with M:=M' }) ha';exact⟨_,.refl _,⟨⟨⟨_,_,_,rfl⟩,⟨hC.2.1.imm,⟨_,(List.append_nil _).symm⟩,hC.2.1.tok⟩,by simpa using ha'⟩,hb44⟩⟩
     obtain⟨_,⟨⟨a42,l42,c42,rfl⟩,-,-⟩,-⟩:=hv;refine⟨λ v U'=>Qcf U3 (Qae (o++[i])) v U'/\Zi U' b44 #[.int .i64 i],λ v x1 x2 hh hle=>⟨hh.1.le hle,hh.2.le hle⟩,λ v U' hh=>hh.1.2.1,λ U' hC=>?_,λ v hv=>?_⟩
     ·obtain⟨hC,hb44⟩:=hC
      conv=>whnf
      refine Ws (v:=.slice a42 l42 c42) (cs:=(Qae o:List Int).map λ n=>.int .i64 n) (new:=[.int .i64 (i:Int)]) (M₀:=U3.M) Qat rfl rfl hC.2.2 (.inr ⟨_,rfl,hb44.reads (λ k v hv=>by simpa using hv)⟩) (rfl) (by simp [Value.single]) (by simp [Qae];omega) λ v' M' ha' _=>?_;obtain⟨ta,tl,tc,rfl,-⟩:=Acc.src (U:={ U' with M:=M' }) ha';exact⟨_,.refl _,⟨⟨⟨_,_,_,rfl⟩,⟨hC.2.1.imm,⟨_,(List.append_nil _).symm⟩,hC.2.1.tok⟩,by simpa [Qae,List.map_append] using ha'⟩,hb44⟩⟩
     obtain⟨_,⟨⟨a45,l45,c45,rfl⟩,-,-⟩,-⟩:=hv;refine⟨λ v U'=>Zcx U' v ((b.ords k (o++[i])).map Qae)/\U3.le U',λ v x1 x2 ⟨⟨a,c,cells,e,h1,h2,h3⟩,h4⟩ hle=>⟨⟨a,c,cells,e,h1.lgs hle.lg.frz2,h2,h3.lg hle.lg.frz2⟩,h4.trans hle⟩,λ v U' hh=>Qp.trans hh.2.lg,λ U' hC=>?_,λ v hv=>?_⟩
     ·obtain⟨hC,-⟩:=hC;refine⟨Qdc.any,(Qcf.give (xs:=λ v=>#[h.v,v]) hC λ U4 ga gcap e hle hInts=>?_).mono λ v U' hv _=>⟨U',.refl _,hv⟩⟩;rw [e];have:=ih (o++[i]) U4 (hb3.lg hle.lg.frz2) ga gcap (by rw [List.length_map] at hInts;exact hInts) (by rw [List.length_append,List.length_singleton];omega);rw [show (Qae (o++[i])).length=(o++[i]).length by simp [Qae]];exact this.mono λ v U' ⟨h1,h2⟩=>⟨h1,hle.trans h2⟩
     obtain⟨_,⟨a46,c46,cells,rfl,-⟩,-⟩:=hv
     conv=>whnf
     rintro U' ⟨⟨a,c,cs',e,h1,h2,h3⟩,h4⟩;obtain⟨rfl,e2,rfl⟩:a46=a/\cells.length=cs'.length/\c46=c:=by simpa using e
     refine⟨rfl,a46,c46,cs',⟨rfl,rfl,rfl,rfl,?_,trivial⟩,h1,h2,h3,h4⟩;rw [<- e2];rfl
    ·refine⟨_,⟨rfl,hBf3.reads (λ k v hv=>by simpa using hv)⟩,?_⟩;refine⟨λ v U'=>(∃p,v=.slice (some ⟨p,0,none⟩) 1 1/\U3.le U'/\Zi U' p #[.int .i64 i]),λ v x1 x2 hh hle=>let ⟨p,e,h1,h2⟩:=hh;⟨p,e,h1.trans hle,h2.le hle⟩,λ v U' hh=>let ⟨_,_,h1,_⟩:=hh;Qp.trans h1.lg,λ U' hC=>?_,λ v hv=>?_⟩
     ·conv=>whnf
      intro p hp;exact Zk hp λ x1 k1 k2=>⟨x1,.refl _,p,rfl,hC.trans k1,k2⟩
     obtain⟨_,b44,rfl,-,-⟩:=hv;refine⟨λ v U'=>Qcf U3 [] v U'/\Zi U' b44 #[.int .i64 i],λ v x1 x2 hh hle=>⟨hh.1.le hle,hh.2.le hle⟩,λ v U' hh=>hh.1.2.1,λ U' hC=>?_,λ v hv=>?_⟩
     ·obtain⟨p',e,hC,hb44⟩:=hC;obtain rfl:b44=p':=by simpa using e
      conv=>whnf
      intro p hp;exact⟨_,.refl _,_,.refl _,⟨.new hC,hb44.lg (Z4 p _)⟩⟩
     obtain⟨_,⟨⟨a40,l40,c40,rfl⟩,-,-⟩,-⟩:=hv;refine⟨λ v U'=>Qcf U3 (Qae o) v U'/\Zi U' b44 #[.int .i64 i],λ v x1 x2 hh hle=>⟨hh.1.le hle,hh.2.le hle⟩,λ v U' hh=>hh.1.2.1,λ U' hC=>?_,λ v hv=>?_⟩
     ·obtain⟨hC,hb44⟩:=hC
      conv=>whnf
      refine Ws (v:=.slice a40 l40 c40) (cs:=([]:List Int).map λ n=>.int .i64 n) (new:=(Qae o).map λ n=>.int .i64 n) (M₀:=U3.M) Qat rfl rfl hC.2.2 ((hO3.lg hC.2.1.frz2).lg Qp).src' (by simp [Qae]) (by simp [Value.single]) (by simp [Qae];omega) λ v' M' ha' _=>?_;obtain⟨ta,tl,tc,rfl,-⟩:=Acc.src (U:={ U' with M:=M' }) ha';exact⟨_,.refl _,⟨⟨⟨_,_,_,rfl⟩,⟨hC.2.1.imm,⟨_,(List.append_nil _).symm⟩,hC.2.1.tok⟩,by simpa using ha'⟩,hb44⟩⟩
     obtain⟨_,⟨⟨a42,l42,c42,rfl⟩,-,-⟩,-⟩:=hv;refine⟨λ v U'=>Qcf U3 (Qae (o++[i])) v U'/\Zi U' b44 #[.int .i64 i],λ v x1 x2 hh hle=>⟨hh.1.le hle,hh.2.le hle⟩,λ v U' hh=>hh.1.2.1,λ U' hC=>?_,λ v hv=>?_⟩
     ·obtain⟨hC,hb44⟩:=hC
      conv=>whnf
      refine Ws (v:=.slice a42 l42 c42) (cs:=(Qae o:List Int).map λ n=>.int .i64 n) (new:=[.int .i64 (i:Int)]) (M₀:=U3.M) Qat rfl rfl hC.2.2 (.inr ⟨_,rfl,hb44.reads (λ k v hv=>by simpa using hv)⟩) (rfl) (by simp [Value.single]) (by simp [Qae];omega) λ v' M' ha' _=>?_;obtain⟨ta,tl,tc,rfl,-⟩:=Acc.src (U:={ U' with M:=M' }) ha';exact⟨_,.refl _,⟨⟨⟨_,_,_,rfl⟩,⟨hC.2.1.imm,⟨_,(List.append_nil _).symm⟩,hC.2.1.tok⟩,by simpa [Qae,List.map_append] using ha'⟩,hb44⟩⟩
     obtain⟨_,⟨⟨a45,l45,c45,rfl⟩,-,-⟩,-⟩:=hv;refine⟨λ v U'=>Zcx U' v ((b.ords k (o++[i])).map Qae)/\U3.le U',λ v x1 x2 ⟨⟨a,c,cells,e,h1,h2,h3⟩,h4⟩ hle=>⟨⟨a,c,cells,e,h1.lgs hle.lg.frz2,h2,h3.lg hle.lg.frz2⟩,h4.trans hle⟩,λ v U' hh=>Qp.trans hh.2.lg,λ U' hC=>?_,λ v hv=>?_⟩
     ·obtain⟨hC,-⟩:=hC;refine⟨Qdc.any,(Qcf.give (xs:=λ v=>#[h.v,v]) hC λ U4 ga gcap e hle hInts=>?_).mono λ v U' hv _=>⟨U',.refl _,hv⟩⟩;rw [e];have:=ih (o++[i]) U4 (hb3.lg hle.lg.frz2) ga gcap (by rw [List.length_map] at hInts;exact hInts) (by rw [List.length_append,List.length_singleton];omega);rw [show (Qae (o++[i])).length=(o++[i]).length by simp [Qae]];exact this.mono λ v U' ⟨h1,h2⟩=>⟨h1,hle.trans h2⟩
     obtain⟨_,⟨a46,c46,cells,rfl,-⟩,-⟩:=hv
     conv=>whnf
     rintro U' ⟨⟨a,c,cs',e,h1,h2,h3⟩,h4⟩;obtain⟨rfl,e2,rfl⟩:a46=a/\cells.length=cs'.length/\c46=c:=by simpa using e
     refine⟨rfl,a46,c46,cs',⟨rfl,rfl,rfl,rfl,?_,trivial⟩,h1,h2,h3,h4⟩;rw [<- e2];rfl
   rintro f' ds' U4 ⟨rfl,a46,c46,cs',hfr,hsrc,hspt,henc',hle⟩;rw [<- hfr.ovr];clear hfr;have hn1:=Bk.ordsTo_len hok (k:=k) (by omega) o (m:=i) (by omega);have hn2:=Bk.ordsTo_len hok (k:=k) (by omega) o (m:=i+1) (by omega);have he1:=henc.1;have he2:=henc'.1;rw [List.length_map] at he1 he2;rw [hsucc,List.length_append] at hn2
   conv=>whnf
   refine Ws (v:=.slice oa ol oc) (cs:=cells) (new:=cs') (M₀:=U.M) Ze2 rfl rfl (by rw [hle.own];exact hacc) (hsrc.lgs Qp) (by rw [Nat.mul_one]) henc'.single (by omega) λ v' M' ha' _=>?_;obtain⟨ta,tl,tc,rfl,-⟩:=Acc.src (U:={ U4 with M:=M' }) ha'
   conv=>whnf
   intro a' hf';refine⟨by rw [hf'.size,hfr0.size],_,hf'.get,?_⟩;rw [hf'.ds];clear hf' hfr0;refine⟨hin,?_⟩
   conv=>whnf
   have hl34:=hl3.trans hle.lg;exact⟨rfl,(i+1,.slice ta tl tc),⟨rfl,rfl,rfl,rfl,trivial⟩,⟨⟨hl34.imm,⟨_,(List.append_nil _).symm⟩,hl34.tok⟩,by show i+1<=h.cl;omega,cells++cs',ha',by show Qql _ _ ((b.ordsTo k o (i+1)).map Qae);rw [hsucc,List.map_append];exact ((henc.lg hle.lg.frz2).app henc').lg ⟨λ _ _ h=>h,⟨[],rfl⟩,rfl⟩⟩,by show _-_<_-_;omega⟩
  refine main.sep λ v U' hs ⟨cells,hacc,henc,hI,ht⟩=>?_;obtain⟨U1,k1,k2,a,len,cap,rfl,hl,hsrc,hsp,-⟩:=Acc.freeze (U:={ U' with M:=U.M }) hs hacc (λ _ _ h=>h) rfl;have hz:U'.frz.lg U1.frz:=⟨k2.imm,⟨[],rfl⟩,k2.tok⟩;exact⟨U1,k1,⟨a,cap,cells,by rw [hl,Nat.mul_one],hsrc,hsp,henc.lg hz⟩,⟨λ x u hx=>k2.imm x u (hI x u hx),k2.own,k2.tok.trans ht⟩⟩
end Go.Proofs
namespace Go.TM
variable {T:Type} {U U':Qa T}
def Qdg (l:List Nat):List Value:=l.map λ n=>.int .i64 (n:Nat)
theorem Zm6 (l:List Nat):(Qdg l).length=l.length:=by simp [Qdg]
theorem Qvz {l:List Nat} {i:Nat} (h:i<l.length):(Qdg l)[i]?=some (.int .i64 (l.getD i 0:Nat)):=by
 simp [Qdg,List.getD_eq_getElem?_getD,h]
theorem Znq (l:List Nat) (i n:Nat):(Qdg l).toArray.setIfInBounds i (.int .i64 (n:Nat))=(Qdg (l.set i n)).toArray:=by
 simp [Qdg,List.map_set]
theorem Qoa (n:Nat):(List.replicate n (Value.int .i64 0)).toArray=(Qdg (List.replicate n 0)).toArray:=by simp [Qdg]
end Go.TM
namespace Go.Proofs
open Go.TM
def Qvo:List (List (Nat×St)):=[[(0,⟨.off 0 (.tmp 1),some 18,none,none⟩),(0,⟨.ld (.tmp 18),some 19,none,none⟩),(0,⟨.len (.tmp 19),some 20,none,none⟩),(0,⟨.off 1 (.tmp 1),some 22,none,none⟩),(0,⟨.ld (.tmp 22),some 23,none,none⟩),(0,⟨.len (.tmp 23),some 24,none,none⟩),(2,⟨.raw { dst:=none,op:=(.makeSlice 26 (.tmp 20) (.tmp 20)),type:=26,pos := "", after:=#[],guard:=none },some 21,none,none⟩),(0,⟨.mv (.tmp 21),some 5,none,none⟩),(2,⟨.raw { dst:=none,op:=(.makeSlice 26 (.tmp 24) (.tmp 24)),type:=26,pos := "", after:=#[],guard:=none },some 25,none,none⟩)],
 [(0,⟨.off 0 (.tmp 1),some 18,none,none⟩),(0,⟨.ld (.tmp 18),some 19,none,none⟩),(0,⟨.len (.tmp 19),some 20,none,none⟩),(0,⟨.off 1 (.tmp 1),some 22,none,none⟩),(0,⟨.ld (.tmp 22),some 23,none,none⟩),(0,⟨.len (.tmp 23),some 24,none,none⟩),(2,⟨.raw { dst:=none,op:=(.makeSlice 26 (.tmp 24) (.tmp 24)),type:=26,pos := "", after:=#[],guard:=none },some 25,none,none⟩),(2,⟨.raw { dst:=none,op:=(.makeSlice 26 (.tmp 20) (.tmp 20)),type:=26,pos := "", after:=#[],guard:=none },some 21,none,none⟩),(0,⟨.mv (.tmp 21),some 5,none,none⟩)]]
def Zl2:List St:=[⟨.mv (.tmp 25),some 6,none,none⟩]
variable {T:Type} {S:TM.Sys prog T} {U:Qa T}
attribute [local irreducible] Qb Zl Wt
theorem Qjj (a n:Nat):Qb S 131 #[.int .i64 a,.int .i64 n] (λ v U'=>v=.int .i64 (Q4h a n)/\U'=U) U:=by
 refine Qb.of (args:=[_,_]) Qpj Qf (by simp) ?_
 repeat refine⟨rfl,?_⟩
 conv=>whnf
 apply Qe<;>intro hc
 ·have e:a=n:=by simp at hc;omega
  repeat refine⟨rfl,?_⟩
  conv=>whnf
  exact⟨by unfold Q4h;rw [if_pos e],rfl⟩
 have e:a≠n:=by simp at hc;omega
 repeat refine⟨rfl,?_⟩
 conv=>whnf
 apply Qe<;>intro hc
 ·have e0:a=0:=by simp at hc;omega
  repeat refine⟨rfl,?_⟩
  conv=>whnf
  exact⟨by unfold Q4h;rw [if_neg e,if_pos e0],rfl⟩
 ·have e0:a≠0:=by simp at hc;omega
  repeat refine⟨rfl,?_⟩
  conv=>whnf
  exact⟨by unfold Q4h;rw [if_neg e,if_neg e0],rfl⟩
theorem Zph:∃inf,prog.info? 3=some inf/\inf.zero=some (.int .i64 0)/\inf.size=1/\inf.bytes<=64:=by
 have h1:(prog.info? 3).map (·.zero)=some (some (.int .i64 0)):=by kernel_rfl
 have h2:(prog.info? 3).map (·.size)=some 1:=by kernel_rfl
 have h3:(prog.info? 3).map (λ i=>decide (i.bytes<=64))=some true:=by kernel_rfl
 cases h:prog.info? 3 with
 | none=>rw [h] at h1;cases h1
 | some inf=>
  rw [h] at h1 h2 h3;exact⟨inf,rfl,Option.some.inj h1,Option.some.inj h2,by simpa using h3⟩
set_option maxHeartbeats 4000000 in
theorem Q0k (h:BH) (b:Bk) (hb:Zq U.frz h b) (hok:b.Ok):Qb S 78 #[h.v] (λ v U'=>(∃v1 v2,v=.tuple #[v1,v2]/\Jd U'.frz v1 b.fatesR/\Jd U'.frz v2 b.fatesC)/\U.le U') U:=by
 have hcl:=hb.cs.1;have hrl:=hb.rs.1;have hnr:=hok.nr;have hnc:=hok.nc;obtain⟨i3,i3a,i3b,i3c,i3d⟩:=Zph
 let fR:List Nat->Nat->Bool:=λ o r=>(b.ends o).1.getD r false
 let fC:List Nat->Nat->Bool:=λ o r=>(b.ends o).2.getD r false
 have main:Qb S 78 #[h.v] (λ v U'=>∃v1 v2 A1 A2 Y,v=.tuple #[v1,v2]/\Jw 51 1 v1 (b.fatesR.map λ n=>.int .i64 n) A1/\Jw 51 1 v2 (b.fatesC.map λ n=>.int .i64 n) A2/\U'.M=A2++(A1++(Y++U.M))/\(∀x o,U.I x=some o->U'.I x=some o)/\U'.tok=U.tok) U:=by
  refine Qb.of (args:=[_]) Zg4 Qf (by simp) ?_
  repeat refine⟨rfl,?_⟩
  conv=>whnf
  intro B U1 h_1 hB;have hB:Zi U1 B #[.slice h.ra h.rl h.rc,.slice h.ca h.cl h.cc]:=hB;have hb1:=hb.lg h_1.lg.frz2;refine⟨_,⟨rfl,hB.reads (λ k v hv=>by simpa using hv)⟩,?_⟩;refine⟨Qdc.any,(Qek h b hok hcl h.cl [] U1 hb1 none 0 ⟨rfl,λ i x hx=>by simp [Qae] at hx⟩ (by simp)).mono ?_⟩;rintro _ U2 ⟨⟨la,lc,cells,rfl,hsrc,hspt,henc⟩,h_2⟩ -;have hall:b.ords h.cl []=b.all:=by unfold Bk.all;rw [hcl]
  rw [hall] at henc;have hn:cells.length=b.all.length:=by rw [henc.1];simp
  have hL:J3 U2.frz la b.all.length (b.all.map Qae):=by have:=henc.lists hsrc hspt;rwa [List.length_map] at this
  have hall5:=b.all_le hnc;generalize cells.length=n at hn ⊢;have hB2:Zi U2 B #[.slice h.ra h.rl h.rc,.slice h.ca h.cl h.cc]:=hB.lg h_2.lg;have hBf:Zi U2.frz B #[.slice h.ra h.rl h.rc,.slice h.ca h.cl h.cc]:=hB2;have hb2:=hb1.lg h_2.lg.frz2
  let MM:Nat->Nat->List Nat->List Nat->List Qx:=λ xb yb s w=>.obj yb (.cells (Qdg w).toArray 3 (0,0))::.obj xb (.cells (Qdg s).toArray 3 (0,0))::U2.M
  conv=>whnf
  intro ac0 hfr0
  refine Qt2 (mu:=[]) (ops:=Q4g Tryz.f78 2) (id:=2) hfr0 [3,7] [[0,1,2,4,5,6,3,8,7],[0,1,2,4,5,6,7,3,8]] [9] Qvo Zl2 Qf (by kernel_rfl) (by kernel_rfl) (by kernel_rfl) (by kernel_rfl) (by kernel_rfl)
   (λ f' ds' U'=>ds'=[]/\∃xb yb,Qig f' [(1,.pointer (some ⟨B,0,none⟩)),(4,.slice la n lc),(5,.slice (some ⟨xb,0,none⟩) h.rl h.rl),(25,.slice (some ⟨yb,0,none⟩) h.cl h.cl)]/\U2.frz.lg U'/\U'.M=MM xb yb (List.replicate h.rl 0) (List.replicate h.cl 0)) ?_ ?_
  ·intro l hl;simp only [Qvo,List.mem_cons,List.not_mem_nil,or_false] at hl;rcases hl with rfl | rfl
   ·refine⟨_,hBf.sees3 (o:=0) rfl,?_⟩;refine⟨_,hBf.sees3 (o:=1) rfl,?_⟩;refine⟨λ v U'=>∃p,v=.slice (some ⟨p,0,none⟩) h.rl h.rl/\U2.frz.lg U'/\U'.M=.obj p (.cells (Qdg (List.replicate h.rl 0)).toArray 3 (0,0))::U2.M,λ v x1 x2 ⟨rb,e,hl,hM⟩ hle=>⟨rb,e,hl.trans hle.lg,hle.own.trans hM⟩,λ v U' ⟨rb,e,hl,hM⟩=>hl,λ U' hC=>?_,λ v hv=>?_⟩
    ·conv=>whnf
     refine Qlj (n:=h.rl) Qg5 i3a i3b rfl i3c i3d rfl rfl (by omega) λ rb hrb=>?_;refine⟨_,.refl _,rb,rfl,⟨λ x o hx=>hC.imm x o hx,⟨_,(List.append_nil _).symm⟩,hC.tok⟩,?_⟩;show _::U'.M=_;rw [hC.own,Qoa]
    obtain⟨_,xb,rfl,-⟩:=hv;refine⟨λ v U'=>∃p,v=.slice (some ⟨p,0,none⟩) h.cl h.cl/\U2.frz.lg U'/\U'.M=MM xb p (List.replicate h.rl 0) (List.replicate h.cl 0),λ v x1 x2 ⟨rb,e,hl,hM⟩ hle=>⟨rb,e,hl.trans hle.lg,hle.own.trans hM⟩,λ v U' ⟨rb,e,hl,hM⟩=>hl,λ U' hC=>?_,λ v hv=>?_⟩
    ·obtain⟨rb',e,hl',hM'⟩:=hC;obtain rfl:xb=rb':=by simpa using e
     conv=>whnf
     refine Qlj (n:=h.cl) Qg5 i3a i3b rfl i3c i3d rfl rfl (by omega) λ wb hwb=>?_;refine⟨_,W7 (M':=MM xb wb (List.replicate h.rl 0) (List.replicate h.cl 0)) ?_,wb,rfl,⟨λ x o hx=>hl'.imm x o hx,⟨_,(List.append_nil _).symm⟩,hl'.tok⟩,rfl⟩;show (_::U'.M).Perm _;rw [hM',Qoa]
    obtain⟨_,yb,rfl,-⟩:=hv
    conv=>whnf
    rintro U' ⟨wb',e,hl',hM'⟩;obtain rfl:yb=wb':=by simpa using e
    exact⟨rfl,xb,yb,⟨rfl,rfl,rfl,rfl,trivial⟩,hl',hM'⟩
   ·refine⟨_,hBf.sees3 (o:=0) rfl,?_⟩;refine⟨_,hBf.sees3 (o:=1) rfl,?_⟩;refine⟨λ v U'=>∃p,v=.slice (some ⟨p,0,none⟩) h.cl h.cl/\U2.frz.lg U'/\U'.M=.obj p (.cells (Qdg (List.replicate h.cl 0)).toArray 3 (0,0))::U2.M,λ v x1 x2 ⟨rb,e,hl,hM⟩ hle=>⟨rb,e,hl.trans hle.lg,hle.own.trans hM⟩,λ v U' ⟨rb,e,hl,hM⟩=>hl,λ U' hC=>?_,λ v hv=>?_⟩
    ·conv=>whnf
     refine Qlj (n:=h.cl) Qg5 i3a i3b rfl i3c i3d rfl rfl (by omega) λ rb hrb=>?_;refine⟨_,.refl _,rb,rfl,⟨λ x o hx=>hC.imm x o hx,⟨_,(List.append_nil _).symm⟩,hC.tok⟩,?_⟩;show _::U'.M=_;rw [hC.own,Qoa]
    obtain⟨_,yb,rfl,-⟩:=hv;refine⟨λ v U'=>∃p,v=.slice (some ⟨p,0,none⟩) h.rl h.rl/\U2.frz.lg U'/\U'.M=MM p yb (List.replicate h.rl 0) (List.replicate h.cl 0),λ v x1 x2 ⟨rb,e,hl,hM⟩ hle=>⟨rb,e,hl.trans hle.lg,hle.own.trans hM⟩,λ v U' ⟨rb,e,hl,hM⟩=>hl,λ U' hC=>?_,λ v hv=>?_⟩
    ·obtain⟨rb',e,hl',hM'⟩:=hC;obtain rfl:yb=rb':=by simpa using e
     conv=>whnf
     refine Qlj (n:=h.rl) Qg5 i3a i3b rfl i3c i3d rfl rfl (by omega) λ wb hwb=>?_;refine⟨_,W7 (M':=MM wb yb (List.replicate h.rl 0) (List.replicate h.cl 0)) ?_,wb,rfl,⟨λ x o hx=>hl'.imm x o hx,⟨_,(List.append_nil _).symm⟩,hl'.tok⟩,rfl⟩;show (_::U'.M).Perm _;rw [hM',Qoa];exact List.Perm.swap _ _ _
    obtain⟨_,xb,rfl,-⟩:=hv
    conv=>whnf
    rintro U' ⟨wb',e,hl',hM'⟩;obtain rfl:xb=wb':=by simpa using e
    exact⟨rfl,xb,yb,⟨rfl,rfl,rfl,rfl,trivial⟩,hl',hM'⟩
  rintro f' ds' U3 ⟨rfl,xb,yb,hfr,hlg3,hM3⟩;rw [<- hfr.ovr];clear hfr
  conv=>whnf
  intro a' hf';refine⟨by rw [hf'.size,hfr0.size],_,hf'.get,?_⟩;rw [hf'.ds];clear hf' hfr0;refine⟨Nat,λ k=>[(1,.pointer (some ⟨B,0,none⟩)),(4,.slice la n lc),(5,.slice (some ⟨xb,0,none⟩) h.rl h.rl),(6,.slice (some ⟨yb,0,none⟩) h.cl h.cl),(7,.int .i64 k)],λ k U'=>U2.frz.lg U'/\k<=n/\U'.M=MM xb yb (Qaq b.all fR h.rl k 0) (Qaq b.all fC h.cl k 0),λ k=>n-k,0,⟨rfl,rfl,rfl,rfl,rfl,trivial⟩,⟨hlg3,by omega,by rw [Zbz,Zbz];exact hM3⟩,?_⟩;rintro k f U3 ⟨hl3,hk',hM3⟩;have hink:Zu ((k:Int)+1):=by unfold Zu;omega
  repeat refine⟨rfl,?_⟩
  conv=>whnf
  apply Qe<;>intro hc
  ·have hltk:k<n:=by simpa using hc
   obtain⟨o,hxk⟩:∃o,b.all[k]?=some o:=⟨_,List.getElem?_eq_getElem (by omega)⟩;have ho:=Bk.mem_all_iff.1 (List.mem_of_getElem? hxk);obtain⟨ad,l,ga,gl,gc,hxl,hea,hspl,hsl,hInt,hgl,hlm⟩:=hL.at (show k<b.all.length by omega);obtain rfl:Qae o=l:=by rw [List.getElem?_map,hxk] at hxl;exact Option.some.inj hxl
   have hInt1:=hInt.1;obtain rfl:o.length=gl:=by rw [<- hInt1];simp [Qae]
   have hol:=ho.len;refine⟨_,⟨rfl,(hBf.lg hl3).reads (λ k v hv=>by simpa using hv)⟩,?_⟩;refine⟨ad,k,⟨hea,rfl,hltk⟩,?_⟩;refine⟨_,hsl.lg hl3,?_⟩;refine⟨λ v U'=>∃sa sc wa wc,v=.tuple #[.slice sa h.rl sc,.slice wa h.cl wc]/\(∀(i:Nat) x,(b.ends o).1[i]?=some x->∃ad,sa=some ad/\ad.spot=none/\U'.frz.sees (ad.add (i*1)) (.bool x))/\(∀(i:Nat) x,(b.ends o).2[i]?=some x->∃ad,wa=some ad/\ad.spot=none/\U'.frz.sees (ad.add (i*1)) (.bool x)),λ v x1 x2 ⟨sa,sc,wa,wc,e,q1,q2⟩ hle=>⟨sa,sc,wa,wc,e,(λ i x hx=>let ⟨ad,a1,a2,a3⟩:=q1 i x hx;⟨ad,a1,a2,a3.lg hle.lg.frz2⟩),λ i x hx=>let ⟨ad,a1,a2,a3⟩:=q2 i x hx;⟨ad,a1,a2,a3.lg hle.lg.frz2⟩⟩,λ U' hle _=>?_,λ v hv=>?_⟩
   ·refine⟨Q0h.any,(Qf7 h b (hb2.lg (hl3.frz2.trans hle.lg.frz2)) hok ga gc o (hInt.lg (hl3.frz2.trans hle.lg.frz2)) ho.low (by omega)).mono ?_⟩;rintro _ U' ⟨⟨_,_,rfl,⟨sa,sc,rfl,q1⟩,⟨wa,wc,rfl,q2⟩⟩,hle'⟩ -;rw [(b.end_len o).1,(b.end_len o).2,hrl,hcl];exact⟨_,.refl _,⟨sa,sc,wa,wc,rfl,q1,q2⟩,hle'⟩
   obtain⟨_,-,-,sa,sc,wa,wc,rfl,-⟩:=hv
   conv=>whnf
   intro U4 h_4 hC;obtain⟨-,sa',sc',wa',wc',e,hS,hW⟩:=hC;obtain⟨⟨rfl,rfl⟩,rfl,rfl⟩:(sa=sa'/\sc=sc')/\wa=wa'/\wc=wc':=by simpa using e
   have hl4:=hl3.trans h_4.lg;have hM4:=h_4.own.trans hM3;refine⟨Nat,λ i=>[(1,.pointer (some ⟨B,0,none⟩)),(4,.slice la n lc),(5,.slice (some ⟨xb,0,none⟩) h.rl h.rl),(6,.slice (some ⟨yb,0,none⟩) h.cl h.cl),(7,.int .i64 k),(8,.slice sa h.rl sc),(9,.slice wa h.cl wc),(10,.int .i64 i)],λ i U'=>U2.frz.lg U'/\i<=h.rl/\U'.M=MM xb yb (Qaq b.all fR h.rl k i) (Qaq b.all fC h.cl k 0)/\U4.frz.lg U',λ i=>h.rl-i,0,⟨rfl,rfl,rfl,rfl,rfl,rfl,rfl,rfl,trivial⟩,⟨hl4,by omega,hM4,Qp⟩,?_⟩;rintro i f U5 ⟨hlI,hi,hMI,hlW⟩;have hini:Zu ((i:Int)+1):=by unfold Zu;omega
   repeat refine⟨rfl,?_⟩
   conv=>whnf
   apply Qe<;>intro hc
   ·have hlt:i<h.rl:=by simpa using hc
    obtain⟨x,hx⟩:∃x,(b.ends o).1[i]?=some x:=⟨_,List.getElem?_eq_getElem (by rw [(b.end_len o).1];omega)⟩;obtain⟨adX,heX,-,hsX⟩:=hS i x hx;have hgd:(b.ends o).1.getD i false=x:=by simp [List.getD_eq_getElem?_getD,hx]
    refine⟨adX,i,⟨heX,rfl,hlt⟩,?_⟩;refine⟨_,hsX.lg hlW,?_⟩;cases x with
    | false=>
     have hk:=Q4z (L:=b.all) (F:=fR) (n:=h.rl) (k:=k) (i:=i) hxk hgd;refine⟨hini,?_⟩
     conv=>whnf
     exact⟨rfl,i+1,⟨rfl,rfl,rfl,rfl,rfl,rfl,rfl,rfl,trivial⟩,⟨hlI,by omega,by rw [hMI,hk],hlW⟩,by show _-_<_-_;omega⟩
    | true=>
     have hk:=Zod (L:=b.all) (F:=fR) (n:=h.rl) (k:=k) (i:=i) hxk hlt hgd;have hcl':(Qaq b.all fR h.rl k i).length=h.rl:=Qbj;have hle:=Zok (L:=b.all) (F:=fR) (n:=h.rl) (k:=k) (i:=i) hlt;have hat:U5.sees ((Addr.mk xb 0 none).add (i*1)) (.int .i64 ((Qaq b.all fR h.rl k i).getD i 0:Nat)):=by rw [Nat.mul_one];exact Za [.obj yb (.cells (Qdg (Qaq b.all fC h.cl k 0)).toArray 3 (0,0))] hMI _ _ (Qvz (by rw [hcl'];exact hlt))
     refine⟨_,i,⟨rfl,rfl,hlt⟩,?_⟩;refine⟨_,hat,?_⟩;refine⟨by unfold Zu;omega,?_⟩;rw [show (((Qaq b.all fR h.rl k i).getD i 0:Nat):Int)+1=(((Qaq b.all fR h.rl k i).getD i 0+1:Nat):Int) by omega];refine⟨_,i,⟨rfl,rfl,hlt⟩,?_⟩;refine⟨rfl,?_⟩;rw [Nat.mul_one];refine Qbe (i:=i) (b:=xb) (v:=.int .i64 (((Qaq b.all fR h.rl k i).getD i 0+1:Nat):Int)) (c:=(Qdg (Qaq b.all fR h.rl k i)).toArray) [.obj yb (.cells (Qdg (Qaq b.all fC h.cl k 0)).toArray 3 (0,0))] hMI (by rw [List.size_toArray,Zm6,hcl'];exact hlt) rfl λ x1 k1 k2 k3=>?_;rw [Znq,hk] at k3;refine⟨hini,?_⟩
     conv=>whnf
     exact⟨rfl,i+1,⟨rfl,rfl,rfl,rfl,rfl,rfl,rfl,rfl,trivial⟩,⟨⟨λ x o hx=>by rw [k1];exact hlI.imm x o hx,⟨_,(List.append_nil _).symm⟩,k2.trans hlI.tok⟩,by omega,k3,⟨λ x o hx=>by rw [k1];exact hlW.imm x o hx,⟨_,(List.append_nil _).symm⟩,k2.trans hlW.tok⟩⟩,by show _-_<_-_;omega⟩
   have hge:i=h.rl:=by simp at hc;omega
   subst hge;rw [Q41] at hMI;refine⟨Nat,λ i=>[(1,.pointer (some ⟨B,0,none⟩)),(4,.slice la n lc),(5,.slice (some ⟨xb,0,none⟩) h.rl h.rl),(6,.slice (some ⟨yb,0,none⟩) h.cl h.cl),(7,.int .i64 k),(9,.slice wa h.cl wc),(11,.int .i64 i)],λ i U'=>U2.frz.lg U'/\i<=h.cl/\U'.M=MM xb yb (Qaq b.all fR h.rl (k+1) 0) (Qaq b.all fC h.cl k i)/\U4.frz.lg U',λ i=>h.cl-i,0,⟨rfl,rfl,rfl,rfl,rfl,rfl,rfl,trivial⟩,⟨hlI,by omega,by rw [hMI],hlW⟩,?_⟩;rintro i f U6 ⟨hlI,hi,hMI,hlW⟩;have hini:Zu ((i:Int)+1):=by unfold Zu;omega
   repeat refine⟨rfl,?_⟩
   conv=>whnf
   apply Qe<;>intro hc
   ·have hlt:i<h.cl:=by simpa using hc
    obtain⟨x,hx⟩:∃x,(b.ends o).2[i]?=some x:=⟨_,List.getElem?_eq_getElem (by rw [(b.end_len o).2];omega)⟩;obtain⟨adX,heX,-,hsX⟩:=hW i x hx;have hgd:(b.ends o).2.getD i false=x:=by simp [List.getD_eq_getElem?_getD,hx]
    refine⟨adX,i,⟨heX,rfl,hlt⟩,?_⟩;refine⟨_,hsX.lg hlW,?_⟩;cases x with
    | false=>
     have hk:=Q4z (L:=b.all) (F:=fC) (n:=h.cl) (k:=k) (i:=i) hxk hgd;refine⟨hini,?_⟩
     conv=>whnf
     exact⟨rfl,i+1,⟨rfl,rfl,rfl,rfl,rfl,rfl,rfl,trivial⟩,⟨hlI,by omega,by rw [hMI,hk],hlW⟩,by show _-_<_-_;omega⟩
    | true=>
     have hk:=Zod (L:=b.all) (F:=fC) (n:=h.cl) (k:=k) (i:=i) hxk hlt hgd;have hcl':(Qaq b.all fC h.cl k i).length=h.cl:=Qbj;have hle:=Zok (L:=b.all) (F:=fC) (n:=h.cl) (k:=k) (i:=i) hlt;have hat:U6.sees ((Addr.mk yb 0 none).add (i*1)) (.int .i64 ((Qaq b.all fC h.cl k i).getD i 0:Nat)):=by rw [Nat.mul_one];exact Za [] hMI _ _ (Qvz (by rw [hcl'];exact hlt))
     refine⟨_,i,⟨rfl,rfl,hlt⟩,?_⟩;refine⟨_,hat,?_⟩;refine⟨by unfold Zu;omega,?_⟩;rw [show (((Qaq b.all fC h.cl k i).getD i 0:Nat):Int)+1=(((Qaq b.all fC h.cl k i).getD i 0+1:Nat):Int) by omega];refine⟨_,i,⟨rfl,rfl,hlt⟩,?_⟩;refine⟨rfl,?_⟩;rw [Nat.mul_one];refine Qbe (i:=i) (b:=yb) (v:=.int .i64 (((Qaq b.all fC h.cl k i).getD i 0+1:Nat):Int)) (c:=(Qdg (Qaq b.all fC h.cl k i)).toArray) [] hMI (by rw [List.size_toArray,Zm6,hcl'];exact hlt) rfl λ x1 k1 k2 k3=>?_;rw [Znq,hk] at k3;refine⟨hini,?_⟩
     conv=>whnf
     exact⟨rfl,i+1,⟨rfl,rfl,rfl,rfl,rfl,rfl,rfl,trivial⟩,⟨⟨λ x o hx=>by rw [k1];exact hlI.imm x o hx,⟨_,(List.append_nil _).symm⟩,k2.trans hlI.tok⟩,by omega,k3,⟨λ x o hx=>by rw [k1];exact hlW.imm x o hx,⟨_,(List.append_nil _).symm⟩,k2.trans hlW.tok⟩⟩,by show _-_<_-_;omega⟩
   have hge:i=h.cl:=by simp at hc;omega
   subst hge;rw [Q41] at hMI;refine⟨hink,?_⟩
   conv=>whnf
   exact⟨rfl,k+1,⟨rfl,rfl,rfl,rfl,rfl,trivial⟩,⟨hlI,by omega,hMI⟩,by show _-_<_-_;omega⟩
  have hge:k=n:=by simp at hc;omega
  rw [hge,hn] at hM3
  let MB:List Qx:=MM xb yb (Qaq b.all fR h.rl b.all.length 0) (Qaq b.all fC h.cl b.all.length 0)
  refine⟨Nat×Value,λ y=>[(4,.slice la n lc),(5,.slice (some ⟨xb,0,none⟩) h.rl h.rl),(6,.slice (some ⟨yb,0,none⟩) h.cl h.cl),(13,.slice none 0 0),(12,y.2),(14,.int .i64 y.1)],λ y U'=>U2.frz.lg U'/\y.1<=h.rl/\∃A,U'.M=A++MB/\Jw 51 1 y.2 (((List.range y.1).map b.fatR).map λ n=>.int .i64 n) A,λ y=>h.rl-y.1,(0,.slice none 0 0),⟨rfl,rfl,rfl,rfl,rfl,rfl,trivial⟩,⟨hl3,by omega,[],hM3,.nil⟩,?_⟩;rintro⟨r,v⟩ f U5 ⟨hlR,hr,A,hMA,hacc⟩;simp only at hr hacc;obtain⟨ra,rn,rc,rfl,hul⟩:=hacc.src;have hinr:Zu ((r:Int)+1):=by unfold Zu;omega
  repeat refine⟨rfl,?_⟩
  conv=>whnf
  apply Qe<;>intro hc
  ·have hlt:r<h.rl:=by simpa using hc
   have hat:U5.sees ((Addr.mk xb 0 none).add (r*1)) (.int .i64 ((Qaq b.all fR h.rl b.all.length 0).getD r 0:Nat)):=by
    rw [Nat.mul_one];exact Za (A++[.obj yb (.cells (Qdg (Qaq b.all fC h.cl b.all.length 0)).toArray 3 (0,0))]) (e:=3) (vs:=Qdg (Qaq b.all fR h.rl b.all.length 0)) (M₀:=U2.M) (by rw [hMA];simp [MB,MM]) _ _ (Qvz (by rw [Qbj];exact hlt))
   have hsay:Q4h ((Qaq b.all fR h.rl b.all.length 0).getD r 0) n=b.fatR r:=by
    rw [Znw,List.getD_eq_getElem?_getD,List.getElem?_map,List.getElem?_range hlt,hn];rfl
   refine⟨_,r,⟨rfl,rfl,hlt⟩,?_⟩;refine⟨_,hat,?_⟩;refine⟨Qpj.any,(Qjj _ _).go λ _=>?_⟩;rw [hsay]
   conv=>whnf
   intro bn hbn;refine Zk hbn λ x1 k1 hbn=>?_;have hbn:Zi x1 bn #[.int .i64 (b.fatR r)]:=hbn;have hl1:=hlR.trans k1.lg
   conv=>whnf
   refine Ws (v:=.slice ra rn rc) (cs:=((List.range r).map b.fatR).map λ n=>.int .i64 n) (new:=[.int .i64 (b.fatR r)]) (M₀:=MB) Qxa rfl rfl (by rw [k1.own,hMA];exact hacc _) (.inr ⟨_,rfl,hbn.reads (λ k v hv=>by simpa using hv)⟩) rfl (by simp [Value.single]) (by simp;omega) λ v' M' ha' _=>?_;have ha':Acc 51 1 v' (((List.range (r+1)).map b.fatR).map λ n=>.int .i64 n) M' (MB):=by rw [List.range_succ];simpa using ha'
   obtain⟨A_2,hM',ha_2⟩:=ha'.split;obtain⟨ta,tl,tc,rfl,-⟩:=ha_2.src;refine⟨hinr,?_⟩
   conv=>whnf
   exact⟨rfl,(r+1,.slice ta tl tc),⟨rfl,rfl,rfl,rfl,rfl,rfl,trivial⟩,⟨⟨hl1.imm,⟨_,(List.append_nil _).symm⟩,hl1.tok⟩,by show r+1<=h.rl;omega,A_2,hM',ha_2⟩,by show _-_<_-_;omega⟩
  have hge:r=h.rl:=by simp at hc;omega
  subst hge;have hacc1:Jw 51 1 (.slice ra rn rc) (b.fatesR.map λ n=>.int .i64 n) A:=by unfold Bk.fatesR;rw [hrl];exact hacc
  have hMA1:=hMA;have hlR1:=hlR;obtain⟨A1,eA1⟩:∃A1,A1=A:=⟨_,rfl⟩;rw [<- eA1] at hacc1 hMA1;clear hMA hacc hlR eA1;refine⟨Nat×Value,λ y=>[(4,.slice la n lc),(6,.slice (some ⟨yb,0,none⟩) h.cl h.cl),(12,.slice ra rn rc),(13,y.2),(15,.int .i64 y.1)],λ y U'=>U2.frz.lg U'/\y.1<=h.cl/\∃A,U'.M=A++(A1++MB)/\Jw 51 1 y.2 (((List.range y.1).map b.fatC).map λ n=>.int .i64 n) A,λ y=>h.cl-y.1,(0,.slice none 0 0),⟨rfl,rfl,rfl,rfl,rfl,trivial⟩,⟨hlR1,by omega,[],hMA1,.nil⟩,?_⟩;rintro⟨r,v⟩ f U6 ⟨hlR,hr,A,hMA,hacc⟩;simp only at hr hacc;obtain⟨ua,ul,uc,rfl,hul⟩:=hacc.src;have hinr:Zu ((r:Int)+1):=by unfold Zu;omega
  repeat refine⟨rfl,?_⟩
  conv=>whnf
  apply Qe<;>intro hc
  ·have hlt:r<h.cl:=by simpa using hc
   have hat:U6.sees ((Addr.mk yb 0 none).add (r*1)) (.int .i64 ((Qaq b.all fC h.cl b.all.length 0).getD r 0:Nat)):=by
    rw [Nat.mul_one];exact Za (A++A1) (e:=3) (vs:=Qdg (Qaq b.all fC h.cl b.all.length 0)) (M₀:=.obj xb (.cells (Qdg (Qaq b.all fR h.rl b.all.length 0)).toArray 3 (0,0))::U2.M) (by rw [hMA];simp [MB,MM]) _ _ (Qvz (by rw [Qbj];exact hlt))
   have hsay:Q4h ((Qaq b.all fC h.cl b.all.length 0).getD r 0) n=b.fatC r:=by
    rw [Znw,List.getD_eq_getElem?_getD,List.getElem?_map,List.getElem?_range hlt,hn];rfl
   refine⟨_,r,⟨rfl,rfl,hlt⟩,?_⟩;refine⟨_,hat,?_⟩;refine⟨Qpj.any,(Qjj _ _).go λ _=>?_⟩;rw [hsay]
   conv=>whnf
   intro bn hbn;refine Zk hbn λ x1 k1 hbn=>?_;have hbn:Zi x1 bn #[.int .i64 (b.fatC r)]:=hbn;have hl1:=hlR.trans k1.lg
   conv=>whnf
   refine Ws (v:=.slice ua ul uc) (cs:=((List.range r).map b.fatC).map λ n=>.int .i64 n) (new:=[.int .i64 (b.fatC r)]) (M₀:=(A1++MB)) Qxa rfl rfl (by rw [k1.own,hMA];exact hacc _) (.inr ⟨_,rfl,hbn.reads (λ k v hv=>by simpa using hv)⟩) rfl (by simp [Value.single]) (by simp;omega) λ v' M' ha' _=>?_;have ha':Acc 51 1 v' (((List.range (r+1)).map b.fatC).map λ n=>.int .i64 n) M' ((A1++MB)):=by rw [List.range_succ];simpa using ha'
   obtain⟨A_2,hM',ha_2⟩:=ha'.split;obtain⟨ta,tl,tc,rfl,-⟩:=ha_2.src;refine⟨hinr,?_⟩
   conv=>whnf
   exact⟨rfl,(r+1,.slice ta tl tc),⟨rfl,rfl,rfl,rfl,rfl,trivial⟩,⟨⟨hl1.imm,⟨_,(List.append_nil _).symm⟩,hl1.tok⟩,by show r+1<=h.cl;omega,A_2,hM',ha_2⟩,by show _-_<_-_;omega⟩
  have hge:r=h.cl:=by simp at hc;omega
  subst hge;have hacc2:Jw 51 1 (.slice ua ul uc) (b.fatesC.map λ n=>.int .i64 n) A:=by unfold Bk.fatesC;rw [hcl];exact hacc
  repeat refine⟨rfl,?_⟩
  conv=>whnf
  exact⟨_,_,A1,A,[.obj yb (.cells (Qdg (Qaq b.all fC h.cl b.all.length 0)).toArray 3 (0,0)),.obj xb (.cells (Qdg (Qaq b.all fR h.rl b.all.length 0)).toArray 3 (0,0))],rfl,hacc1,hacc2,by rw [hMA];simp only [MB,MM];rw [h_2.own,h_1.own];rfl,λ x u hx=>hlR.imm x u (h_2.imm x u (h_1.imm x u hx)),hlR.tok.trans (h_2.tok.trans h_1.tok)⟩
 have two:=main.sep (R':=λ v U'=>∃v1 v2 A1 Y,v=.tuple #[v1,v2]/\Jw 51 1 v1 (b.fatesR.map λ n=>.int .i64 n) A1/\Jd U'.frz v2 b.fatesC/\U'.M=A1++(Y++U.M)/\(∀x o,U.I x=some o->U'.I x=some o)/\U'.tok=U.tok) λ v U' hs ⟨v1,v2,A1,A2,Y,e,a1,a2,hM,hI,ht⟩=>by
  obtain⟨x1,k1,k2,a,len,cap,rfl,e2,e3,e4,-⟩:=Acc.freeze (U:={ U' with M:=A1++(Y++U.M) }) hs (by rw [hM];exact a2 _) (λ _ _ h=>h) rfl;simp at e2;exact⟨x1,k1,v1,_,A1,Y,e,a1,⟨a,cap,by rw [e2],Qlc e3 e4⟩,k2.own,λ x u hx=>k2.imm x u (hI x u hx),k2.tok.trans ht⟩
 refine two.sep λ v U' hs ⟨v1,v2,A1,Y,e,a1,hv2,hM,hI,ht⟩=>?_;obtain⟨x1,k1,k2,a,len,cap,rfl,e2,e3,e4,-⟩:=Acc.freeze (U:={ U' with M:=Y++U.M }) hs (by rw [hM];exact a1 _) (λ _ _ h=>h) rfl;simp at e2;have hz:U'.frz.lg x1.frz:=⟨k2.imm,⟨[],rfl⟩,k2.tok⟩;exact⟨{ x1 with M:=U.M },k1.trans (Z1 (by rw [k2.own];exact List.sublist_append_right ..)),⟨_,_,e,⟨a,cap,by rw [e2],Qlc e3 e4⟩,hv2.lg hz⟩,⟨λ x u hx=>k2.imm x u (hI x u hx),rfl,k2.tok.trans ht⟩⟩
end Go.Proofs
namespace Go.TM
variable {T:Type} {U:Qa T}
def Bk.dN (b:Bk) (q:Nat) (w:Bool) (j:Nat):List Nat:=((b.all.drop j).find? λ o=>(b.ends o).1.getD q false == w).getD []
theorem Bk.dN_zero (b:Bk) (q:Nat) (w:Bool):b.dN q w 0=b.difS q w:=rfl
theorem Bk.dN_end (b:Bk) (q:Nat) (w:Bool):b.dN q w b.all.length=[]:=by unfold Bk.dN;rw [List.drop_length];rfl
theorem Bk.dN_step {b:Bk} {q m:Nat} {w:Bool} {o:List Nat} (h:b.all[m]?=some o):b.dN q w m=if (b.ends o).1.getD q false == w then o else b.dN q w (m+1):=by
 unfold Bk.dN;rw [Qad h,List.find?_cons];cases hh:(b.ends o).1.getD q false == w <;> simp
end Go.TM
namespace Go.Proofs
open Go.TM
section
variable {T:Type} {S:TM.Sys prog T} {U:Qa T}
attribute [local irreducible] Qb Zl Wt
theorem Q0o (h:BH) (b:Bk) (hb:Zq U.frz h b) (hrc:h.rl<=h.rc) (r:Int):Qb S 81 #[h.v,.int .i64 r] (λ v U'=>v=.int .i64 (b.askF r)/\U'=U) U:=by
 refine Qb.pure' (Qb.of (args:=[_,_]) Zk4 Qf (by simp) ?_);have hrl:=hb.rs.1;have hrl':=hb.rl;have hnr:b.nr=(h.rl:Int):=by unfold Bk.nr;rw [hrl]
 repeat refine⟨rfl,?_⟩
 conv=>whnf
 intro B U1 h_1 hB;have hB:Zi U1 B #[.slice h.ra h.rl h.rc,.slice h.ca h.cl h.cc]:=hB;refine⟨_,⟨rfl,hB.reads (λ k v hv=>by simpa using hv)⟩,?_⟩;refine⟨Q1w.any,(Qru h b (hb.lg h_1.lg.frz2) hrc).go λ _=>?_⟩
 repeat refine⟨rfl,?_⟩
 conv=>whnf
 apply Qe<;>intro hc
 ·have hf:b.flaw Qu≠0:=by simpa using hc
  repeat refine⟨rfl,?_⟩
  conv=>whnf
  exact⟨by unfold Bk.askF;rw [if_neg hf],h_1.lg⟩
 have hf:b.flaw Qu=0:=by simpa using hc
 have ha:b.askF r=if btw r 0 ((h.rl:Int)-1) then 0 else 6:=by unfold Bk.askF;rw [if_pos hf,hnr]
 rw [ha];refine⟨_,hB.sees3 (o:=0) rfl,?_⟩;refine⟨by unfold Zu;omega,?_⟩;refine⟨Qep.any,(Qfk _ _ _ _).go λ _=>?_⟩;cases hbt:btw r 0 ((h.rl:Int)-1) with
 | false=>
  repeat refine⟨rfl,?_⟩
  conv=>whnf
  exact h_1.lg
 | true=>
  repeat refine⟨rfl,?_⟩
  conv=>whnf
  exact h_1.lg
theorem Q0j (h:BH) (b:Bk) (hb:Zq U.frz h b) (hrc:h.rl<=h.rc):Qb S 27 #[h.v] (λ v U'=>(∃v1 v2,v=.tuple #[v1,v2,.int .i64 (b.flaw Qu)]/\Jd U'.frz v1 (if b.flaw Qu=0 then b.fatesR else [])/\Jd U'.frz v2 (if b.flaw Qu=0 then b.fatesC else []))/\U.le U') U:=by
 refine Qb.grown (R:=λ v U'=>∃v1 v2,v=.tuple #[v1,v2,.int .i64 (b.flaw Qu)]/\Jd U' v1 (if b.flaw Qu=0 then b.fatesR else [])/\Jd U' v2 (if b.flaw Qu=0 then b.fatesC else [])) (λ v U1 U2 hl ⟨v1,v2,e,h1,h2⟩=>⟨v1,v2,e,h1.lg hl,h2.lg hl⟩) (Qb.of (args:=[_]) Zc6 Qf (by simp) ?_)
 repeat refine⟨rfl,?_⟩
 conv=>whnf
 intro B U1 h_1 hB;have hB:Zi U1 B #[.slice h.ra h.rl h.rc,.slice h.ca h.cl h.cc]:=hB;refine⟨_,⟨rfl,hB.reads (λ k v hv=>by simpa using hv)⟩,?_⟩;refine⟨Q1w.any,(Qru h b (hb.lg h_1.lg.frz2) hrc).go λ _=>?_⟩
 repeat refine⟨rfl,?_⟩
 conv=>whnf
 apply Qe<;>intro hc
 ·have hf:b.flaw Qu≠0:=by simpa using hc
  repeat refine⟨rfl,?_⟩
  conv=>whnf
  rw [if_neg hf,if_neg hf];exact⟨⟨_,_,rfl,.nil,.nil⟩,h_1.lg⟩
 have hf:b.flaw Qu=0:=by simpa using hc
 rw [if_pos hf,if_pos hf,hf];refine⟨_,⟨rfl,hB.reads (λ k v hv=>by simpa using hv)⟩,?_⟩;refine⟨Zg4.any,(Q0k h b (hb.lg h_1.lg.frz2) (Bk.ok_of hf)).mono ?_⟩;rintro _ U2 ⟨⟨_,_,rfl,⟨a1,c1,rfl,h1⟩,⟨a2,c2,rfl,h2⟩⟩,h_2⟩ -
 repeat refine⟨rfl,?_⟩
 conv=>whnf
 exact⟨⟨_,_,rfl,⟨a1,c1,rfl,h1⟩,⟨a2,c2,rfl,h2⟩⟩,(h_1.trans h_2).lg⟩
set_option maxHeartbeats 2000000 in
theorem Qvy (h:BH) (b:Bk) (hb:Zq U.frz h b) (hrc:h.rl<=h.rc) (r:Int) :
  Qb S 30 #[h.v,.int .i64 r] (λ v U'=>(∃v1 v2,v=.tuple #[v1,v2,.int .i64 (b.askF r)]/\Jd U'.frz v1 (if b.askF r=0 then Qae (b.difS r.toNat true) else [])/\Jd U'.frz v2 (if b.askF r=0 then Qae (b.difS r.toNat false) else []))/\U.le U') U:=by
 refine Qb.grown (R:=λ v U'=>∃v1 v2,v=.tuple #[v1,v2,.int .i64 (b.askF r)]/\Jd U' v1 (if b.askF r=0 then Qae (b.difS r.toNat true) else [])/\Jd U' v2 (if b.askF r=0 then Qae (b.difS r.toNat false) else [])) (λ v U1 U2 hl ⟨v1,v2,e,h1,h2⟩=>⟨v1,v2,e,h1.lg hl,h2.lg hl⟩) (Qb.of (args:=[_,_]) Zg3 Qf (by simp) ?_);have hcl:=hb.cs.1;have hrl:=hb.rs.1
 repeat refine⟨rfl,?_⟩
 conv=>whnf
 intro B U1 h_1 hB;have hB:Zi U1 B #[.slice h.ra h.rl h.rc,.slice h.ca h.cl h.cc]:=hB;have hb1:=hb.lg h_1.lg.frz2;refine⟨_,⟨rfl,hB.reads (λ k v hv=>by simpa using hv)⟩,?_⟩;refine⟨Zk4.any,(Q0o h b hb1 hrc r).go λ _=>?_⟩
 repeat refine⟨rfl,?_⟩
 conv=>whnf
 apply Qe<;>intro hc
 ·have hf:b.askF r≠0:=by simpa using hc
  repeat refine⟨rfl,?_⟩
  conv=>whnf
  rw [if_neg hf,if_neg hf];exact⟨⟨_,_,rfl,.nil,.nil⟩,h_1.lg⟩
 have hf:b.askF r=0:=by simpa using hc
 obtain⟨hok,hr0,hr1⟩:=Bk.askF_ok hf;obtain⟨q,rfl⟩:=Int.eq_ofNat_of_zero_le hr0;have hq:q<h.rl:=by unfold Bk.nr at hr1;omega
 rw [if_pos hf,if_pos hf,hf,Int.toNat_natCast];have hnc:=hok.nc;have hall5:=b.all_le hnc;refine⟨_,⟨rfl,hB.reads (λ k v hv=>by simpa using hv)⟩,?_⟩;refine⟨Qdc.any,(Qek h b hok hcl h.cl [] U1 hb1 none 0 ⟨rfl,λ i x hx=>by simp [Qae] at hx⟩ (by simp)).mono ?_⟩;rintro _ U2 ⟨⟨la,lc,cells,rfl,hsrc,hspt,henc⟩,h_2⟩ -;have hall:b.ords h.cl []=b.all:=by unfold Bk.all;rw [hcl]
 rw [hall] at henc;have hn:cells.length=b.all.length:=by rw [henc.1];simp
 have hL:J3 U2.frz la b.all.length (b.all.map Qae):=by have:=henc.lists hsrc hspt;rwa [List.length_map] at this
 rw [hn];have hB2:=hB.lg h_2.lg;have hb2:=hb1.lg h_2.lg.frz2;have h12:=h_1.trans h_2;have e0:∀m:Nat,((m+1:Nat):Int)-1=(m:Int):=λ m=>by omega
 refine⟨by unfold Zu;omega,?_⟩;refine⟨Nat×Value×Value,λ y=>[(1,.int .i64 q),(2,.pointer (some ⟨B,0,none⟩)),(8,.slice la b.all.length lc),(9,y.2.1),(10,y.2.2),(11,.int .i64 ((y.1:Int)-1))],λ y U'=>U2.le U'/\y.1<=b.all.length/\Jd U'.frz y.2.1 (Qae (b.dN q true y.1))/\Jd U'.frz y.2.2 (Qae (b.dN q false y.1)),λ y=>y.1,(b.all.length,.slice none 0 0,.slice none 0 0),⟨rfl,rfl,rfl,rfl,rfl,rfl,trivial⟩,⟨.refl _,Nat.le_refl _,by show Jd _ _ (Qae (b.dN q true b.all.length));rw [b.dN_end];exact .nil,by show Jd _ _ (Qae (b.dN q false b.all.length));rw [b.dN_end];exact .nil⟩,?_⟩;rintro⟨j,v1,v2⟩ f U3 ⟨h_3,hj,hv1,hv2⟩;simp only at hj hv1 hv2;obtain⟨a1,c1,rfl,hi1⟩:=hv1;obtain⟨a2,c2,rfl,hi2⟩:=hv2;have h13:=h12.trans h_3
 repeat refine⟨rfl,?_⟩
 conv=>whnf
 apply Qe<;>intro hc
 ·obtain⟨m,rfl⟩:∃m,j=m+1:=⟨j-1,by simp at hc;omega⟩;obtain⟨o,hxm⟩:∃o,b.all[m]?=some o:=⟨_,List.getElem?_eq_getElem (by omega)⟩;have ho:=Bk.mem_all_iff.1 (List.mem_of_getElem? hxm);have st1:=Bk.dN_step (q:=q) (w:=true) hxm;have st2:=Bk.dN_step (q:=q) (w:=false) hxm;obtain⟨ad,l,ga,gl,gc,hxl,hea,hspl,hsl,hInt,hgl,hlm⟩:=hL.at (show m<b.all.length by omega);obtain rfl:Qae o=l:=by rw [List.getElem?_map,hxm] at hxl;exact Option.some.inj hxl
  have hInt1:=hInt.1;obtain rfl:o.length=gl:=by rw [<- hInt1];simp [Qae]
  have hol:=ho.len;refine⟨_,⟨rfl,(hB2.lg h_3.lg).reads (λ k v hv=>by simpa using hv)⟩,?_⟩;refine⟨ad,m,⟨hea,e0 m,by omega⟩,?_⟩;refine⟨_,hsl.lg (Za3 Qp h_3),?_⟩;refine⟨λ v U'=>∃sa sc wa wc,v=.tuple #[.slice sa h.rl sc,.slice wa h.cl wc]/\(∀(i:Nat) x,(b.ends o).1[i]?=some x->∃ad,sa=some ad/\ad.spot=none/\U'.frz.sees (ad.add (i*1)) (.bool x)),λ v x1 x2 ⟨sa,sc,wa,wc,e,q1⟩ hle=>⟨sa,sc,wa,wc,e,(λ i x hx=>let ⟨ad,a1,a2,a3⟩:=q1 i x hx;⟨ad,a1,a2,a3.lg hle.lg.frz2⟩)⟩,λ U' hle _=>?_,λ v hv=>?_⟩
  ·refine⟨Q0h.any,(Qf7 h b (hb2.lg (h_3.trans hle).lg.frz2) hok ga gc o (hInt.lg (h_3.trans hle).lg.frz2) ho.low (by omega)).mono ?_⟩;rintro _ U' ⟨⟨_,_,rfl,⟨sa,sc,rfl,q1⟩,⟨wa,wc,rfl,q2⟩⟩,hle'⟩ -;rw [(b.end_len o).1,(b.end_len o).2,hrl,hcl];exact⟨_,.refl _,⟨sa,sc,wa,wc,rfl,q1⟩,hle'⟩
  obtain⟨_,-,-,sa,sc,wa,wc,rfl,-⟩:=hv
  conv=>whnf
  intro U4 h_4 hC;obtain⟨-,sa',sc',wa',wc',e,hS⟩:=hC;obtain⟨⟨rfl,rfl⟩,rfl,rfl⟩:(sa=sa'/\sc=sc')/\wa=wa'/\wc=wc':=by simpa using e
  obtain⟨x,hx⟩:∃x,(b.ends o).1[q]?=some x:=⟨_,List.getElem?_eq_getElem (by rw [(b.end_len o).1];omega)⟩;obtain⟨adX,heX,-,hsX⟩:=hS q x hx;have hgd:(b.ends o).1.getD q false=x:=by simp [List.getD_eq_getElem?_getD,hx]
  rw [hgd] at st1 st2;have h34:=h_3.trans h_4;refine⟨adX,q,⟨heX,rfl,hq⟩,?_⟩;refine⟨_,hsX.lg Qp,?_⟩;have hsl4:U4.sees (ad.add (m*1)) (.slice ga o.length gc):=hsl.lg (Za3 Qp h34);have hinm:Zu (((m+1:Nat):Int)-1-1):=by unfold Zu;omega
  cases x with
  | true=>
   have st1:b.dN q true m=o:=st1;have st2:b.dN q false m=b.dN q false (m+1):=st2;refine⟨ad,m,⟨hea,e0 m,by omega⟩,?_⟩;refine⟨_,hsl4,?_⟩;refine⟨hinm,?_⟩
   conv=>whnf
   exact⟨rfl,(m,.slice ga o.length gc,.slice a2 _ c2),⟨rfl,rfl,rfl,rfl,rfl,by rw [e0];rfl,trivial⟩,⟨h34,by show m<=_;omega,by show Jd _ _ (Qae (b.dN q true m));rw [st1];exact⟨ga,gc,by simp [Qae],by rw [show (Qae o).length=o.length by simp [Qae]];exact hInt.lg h34.lg.frz2⟩,by show Jd _ _ (Qae (b.dN q false m));rw [st2];exact⟨a2,c2,rfl,hi2.lg h_4.lg.frz2⟩⟩,Nat.lt_succ_self m⟩
  | false=>
   have st1:b.dN q true m=b.dN q true (m+1):=st1;have st2:b.dN q false m=o:=st2;refine⟨ad,m,⟨hea,e0 m,by omega⟩,?_⟩;refine⟨_,hsl4,?_⟩;refine⟨hinm,?_⟩
   conv=>whnf
   exact⟨rfl,(m,.slice a1 _ c1,.slice ga o.length gc),⟨rfl,rfl,rfl,rfl,rfl,by rw [e0];rfl,trivial⟩,⟨h34,by show m<=_;omega,by show Jd _ _ (Qae (b.dN q true m));rw [st1];exact⟨a1,c1,rfl,hi1.lg h_4.lg.frz2⟩,by show Jd _ _ (Qae (b.dN q false m));rw [st2];exact⟨ga,gc,by simp [Qae],by rw [show (Qae o).length=o.length by simp [Qae]];exact hInt.lg h34.lg.frz2⟩⟩,Nat.lt_succ_self m⟩
 have hge:j=0:=by simp at hc;omega
 subst hge;rw [b.dN_zero] at hi1 hi2
 repeat refine⟨rfl,?_⟩
 conv=>whnf
 exact⟨⟨_,_,rfl,⟨a1,c1,rfl,hi1⟩,⟨a2,c2,rfl,hi2⟩⟩,h13.lg⟩
end
attribute [local irreducible] Qb Zl Wt
set_option maxHeartbeats 2000000 in
theorem Zpg {U:Qa Tk} (htok:U.tok=⟨0,.out,none⟩) (hk:Chk U) (h:BH) (b:Bk) (hb:Zq U.frz h b) (hnl:Q0n b) (hrc:h.rl<=h.rc) (hcc:h.cl<=h.cc) (r:Int) :
  J (Zb prog 209 6) (Fin prog λ v U'=>v=.bool true/\U.lg U') true (Rf (Frame.enter prog 4 #[h.v,.int .i64 r] .normal) []) U:=by
 refine Zpy (args:=[_,_]) (Q:=λ v U'=>v=.bool true/\U.lg U') Zpw Qf (by kernel_rfl) (by simp) (λ v U' q=>q.2.tok.trans htok) ?_;have fin:∀U2:Qa Tk,U.lg U2->Qb (Zb prog 209 6) 20 #[] (λ v U'=>v=.bool true/\U'=U2) U2:=λ U2 h=>Zm2 (h.tok.trans htok) (hk.lg h)
 repeat refine⟨rfl,?_⟩
 conv=>whnf
 intro B U1 h_1 hB;have hB:Zi U1 B #[.slice h.ra h.rl h.rc,.slice h.ca h.cl h.cc]:=hB;have hb1:=hb.lg h_1.lg.frz2;have hrd:∀w:Qa Tk,U1.le w->Jn w ⟨B,0,none⟩ [.slice h.ra h.rl h.rc,.slice h.ca h.cl h.cc]:=λ w hw=>(hB.lg hw.lg).reads (λ k v hv=>by simpa using hv);refine⟨_,⟨rfl,hrd _ (.refl _)⟩,?_⟩;refine⟨Q1v.any,(Qu0 h b hb1 hnl).mono ?_⟩;rintro _ U' ⟨⟨g,rfl⟩,hU'⟩ -;obtain rfl:=hU'.symm;have Qcx:Qb (Zb prog 209 6) 20 #[] (λ v U'=>v=.bool true/\U'=U1) U1:=fin _ h_1.lg;cases g with
 | true=>
  refine⟨Zii.any,Qcx.go λ _=>?_⟩
  repeat refine⟨rfl,?_⟩
  conv=>whnf
  exact h_1.lg
 | false=>
 have hlr:b.fatesR.length<2 ^ 60:=by simp [Bk.fatesR];have:=hb.rs.1;have:=hb.rl;omega
 have hlc:b.fatesC.length<2 ^ 60:=by simp [Bk.fatesC];have:=hb.cs.1;have:=hb.cl;omega
 have hl1:∀p:Prop,[Decidable p]->(if p then b.fatesR else []).length<2 ^ 60:=λ p _=>by split <;> simp <;> omega
 have hl2:∀p:Prop,[Decidable p]->(if p then b.fatesC else []).length<2 ^ 60:=λ p _=>by split <;> simp <;> omega
 refine⟨_,⟨rfl,hrd _ (.refl _)⟩,?_⟩;refine⟨Q1x.any,(Quz h b hb1 (hk.lg h_1.lg)).mono ?_⟩;rintro _ U2 ⟨⟨_,_,rfl,⟨xa,xc,rfl,hX⟩,⟨ya,yc,rfl,hY⟩⟩,h_2⟩ -;refine⟨_,⟨rfl,hrd _ h_2⟩,?_⟩;refine⟨Zc6.any,(Q0j h b (hb1.lg h_2.lg.frz2) hrc).mono ?_⟩;rintro _ U3 ⟨⟨_,_,rfl,⟨ua,uc,rfl,hU⟩,⟨va,vc,rfl,hV⟩⟩,h_3⟩ -;refine⟨Qq4.any,(Qev xa ua _ xc _ uc _ _ ((hX.lg h_3.lg.frz2).lg Qp) (hU.lg Qp) (hl1 _)).go λ _=>?_⟩;rw [decide_eq_true rfl];refine⟨Qq4.any,(Qev ya va _ yc _ vc _ _ ((hY.lg h_3.lg.frz2).lg Qp) (hV.lg Qp) (hl2 _)).go λ _=>?_⟩;rw [decide_eq_true rfl]
 repeat refine⟨rfl,?_⟩
 conv=>whnf
 apply Qe<;>intro hc
 ·exact absurd hc (by simp)
 have h13:=(h_1.trans h_2).trans h_3;have h23:=h_2.trans h_3;refine⟨_,⟨rfl,hrd _ h23⟩,?_⟩;refine⟨Q1y.any,(Qqr h b (hb1.lg h23.lg.frz2) (hk.lg h13.lg) r).mono ?_⟩;rintro _ U4 ⟨⟨_,_,rfl,⟨a1,c1,rfl,k1⟩,⟨a2,c2,rfl,k2⟩⟩,h_4⟩ -;have h24:=h23.trans h_4;refine⟨_,⟨rfl,hrd _ h24⟩,?_⟩;refine⟨Zg3.any,(Qvy h b (hb1.lg h24.lg.frz2) hrc r).mono ?_⟩;rintro _ U5 ⟨⟨_,_,rfl,⟨a3,c3,rfl,k3⟩,⟨a4,c4,rfl,k4⟩⟩,h5⟩ -;have h15:=(h_1.trans h24).trans h5
 have hdl:∀w,(if b.askF r=0 then Qae (b.difS r.toNat w) else []).length<2 ^ 60:=λ w=>by
  split
  ·rename_i ha;obtain⟨hok,-,-⟩:=Bk.askF_ok ha;have hnc:=hok.nc;rw [show (Qae (b.difS r.toNat w)).length=(b.difS r.toNat w).length by simp [Qae]];unfold Bk.difS;cases hf:b.all.find? λ o=>(b.ends o).1.getD r.toNat false == w with
   | none=>simp
   | some o=>
    have:=(Bk.mem_all_iff.1 (List.mem_of_find?_eq_some hf)).len;simp only [Option.getD_some];omega
  ·simp
 refine⟨Qer.any,(Qa1 a1 a3 _ c1 _ c3 _ _ ((k1.lg h5.lg.frz2).lg Qp) (k3.lg Qp) (hdl true)).go λ _=>?_⟩;rw [decide_eq_true rfl];refine⟨Qer.any,(Qa1 a2 a4 _ c2 _ c4 _ _ ((k2.lg h5.lg.frz2).lg Qp) (k4.lg Qp) (hdl false)).go λ _=>?_⟩;rw [decide_eq_true rfl];refine⟨rfl,?_⟩;rw [beq_self_eq_true];refine⟨Zii.any,(fin _ h15.lg).go λ _=>?_⟩
 repeat refine⟨rfl,?_⟩
 conv=>whnf
 exact h15.lg
end Go.Proofs
