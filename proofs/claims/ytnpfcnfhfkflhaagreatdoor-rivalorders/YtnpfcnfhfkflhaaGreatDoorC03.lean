/- Lemmas of the proof. No conditions of their own. -/
import Derived.Test.YtnpfcnfhfkflhaaGreatDoorB42
import Derived.Test.YtnpfcnfhfkflhaaGreatDoorC02
import Derived.Test.YtnpfcnfhfkflhaaGreatDoorC01
import Derived.Test.YtnpfcnfhfkflhaaGreatDoorB43
import Derived.Test.YtnpfcnfhfkflhaaGreatDoorC00
set_option linter.all false
open Go.Proofs.Tryz (prog)
set_option maxRecDepth 100000
namespace Go.TM
variable {T:Type} {P:Program} {S:Sys P T}
structure Hlr (U:Qa T) (b:Nat) (e:TypeId) (c:Array Value) (U':Qa T):Prop where
 imm:∀x o,U.I x=some o->U'.I x=some o
 own:U'.M=.obj b (.cells c e (0,0))::U.M
 tok:U'.tok=U.tok
 new:U.I b=none
theorem Hlr.le {U U' U'':Qa T} {b:Nat} {e:TypeId} {c:Array Value} (h:Hlr U b e c U') (k:U'.le U''):Hlr U b e c U'':=⟨λ x o i=>k.imm x o (h.imm x o i),k.own.trans h.own,k.tok.trans h.tok,h.new⟩
theorem Hlr.frz2 {U U':Qa T} {b:Nat} {e:TypeId} {c:Array Value} (h:Hlr U b e c U'):U.frz.lg U'.frz:=⟨h.imm,⟨[],rfl⟩,h.tok⟩
theorem Hlr.frz1 {U U':Qa T} {b:Nat} {e:TypeId} {c:Array Value} (h:Hlr U b e c U'):U.frz.lg U':=⟨h.imm,⟨_,(List.append_nil _).symm⟩,h.tok⟩
theorem Hlr.made {U U':Qa T} {b:Nat} {e:TypeId} {c:Array Value} (h:U.le U') (hf:U'.free b):Hlr U b e c (U'.put b (.cells c e)):=by
 refine⟨h.imm,by show _::U'.M=_;rw [h.own],h.tok,?_⟩;cases hb:U.I b with
 | none=>rfl
 | some o=>have:=h.imm b o hb;rw [hf.1] at this;cases this
theorem Hlr.write {U U':Qa T} {b:Nat} {e:TypeId} {c:Array Value} {vs:List Value} {Q:Qa T->Prop} (h:Hlr U b e c U') (hsz:c.size=vs.length) (hs:∀v∈vs,v.single=true) (hQ:∀U1,U.le U1->Zi U1 b vs.toArray->Q U1):StV ⟨b,0,none⟩ vs 0 (λ U'=>∃U1,Qw U' U1/\Q U1) U':=by
 refine Qqh [] vs 0 c U' h.own hs (by omega) ?_;rw [Qh7 hsz];refine⟨_,We (b:=b) (M':=U.M) (List.Perm.refl _),hQ _ ⟨λ x o i=>?_,rfl,h.tok⟩ Zi.new⟩;show Qf8 U'.I b _ x=_;unfold Qf8;rw [if_neg]
 ·exact h.imm x o i
 ·rintro rfl;rw [h.new] at i;cases i
end Go.TM
namespace Go.Proofs
open Go.TM
def Q0m:C:=(.seq (.reg [.d 4 (.mv (.const (.bool false)))])
 (.seq (.seq (.reg [.d 5 (.mv (.const (.int .i64 0)))])
 (.block 0 (.loop (.seq (.seq (.reg [.m 6 5,.m 7 0,.d 8 (.len (.tmp 7)),.d 9 (.cmp .lss (.tmp 6) (.tmp 8))])
 (.ite (.tmp 9) .skip (.exit 0)))
 (.seq (.block 1 (.seq (.reg [.m 12 0,.m 13 5,.d 14 (.idx 1 (.tmp 12) (.tmp 13)),.d 15 (.ld (.tmp 14)),.m 16 1,.d 17 (.cmp .eql (.tmp 15) (.tmp 16))])
 (.ite (.tmp 17) (.seq (.reg [.d 4 (.mv (.const (.bool true)))])
 .ret) .skip)))
 (.reg [.m 10 5,.d 11 (.add (.tmp 10) (.const (.int .i64 1))),.m 5 11]))))))
 (.seq (.reg [.d 4 (.mv (.const (.bool false)))])
 .ret)))
theorem Qdh:Zf prog 38 18 Q0m [.t 4]:=.mk' [] [] Tryz.func38 rfl (by kernel_rfl) (by kernel_rfl) (by kernel_rfl) (by kernel_rfl)
variable {T:Type} {S:TM.Sys prog T} {U:Qa T}
attribute [local irreducible] Qb Zl Wt
theorem Qae (a:Option Addr) (len cap:Nat) (l:List Int) (hl:Z5 U a len l) (hlen:len<2 ^ 60) (n:Int) :
  Qb S 38 #[.slice a len cap,.int .i64 n] (λ v U'=>v=.bool (l.contains n)/\U'=U) U:=by
 refine Qb.of (args:=[_,_]) Qdh Qf (by simp) ?_
 repeat refine⟨rfl,?_⟩
 refine⟨Nat,λ i=>[(0,.slice a len cap),(1,.int .i64 n),(5,.int .i64 i)],λ i U'=>U'=U/\i<=len/\n∉l.take i,λ i=>len-i,0,⟨rfl,rfl,rfl,trivial⟩,⟨rfl,by omega,by simp⟩,?_⟩;rintro i f _ ⟨rfl,hi,hno⟩
 repeat refine⟨rfl,?_⟩
 conv=>whnf
 apply Qe<;>intro hc
 ·have hlt:i<len:=by simpa using hc
  obtain⟨ad,x,hx,rfl,hsp,hs⟩:=hl.at hlt;refine⟨ad,i,⟨rfl,rfl,hlt⟩,?_⟩;refine⟨_,hs,?_⟩
  repeat refine⟨rfl,?_⟩
  conv=>whnf
  apply Qe<;>intro hc
  ·repeat refine⟨rfl,?_⟩
   conv=>whnf
   have hxn:x=n:=by simpa using hc
   refine⟨?_,rfl⟩;have:n∈l:=hxn ▸ List.mem_of_getElem? hx;simp [this]
  ·have hxn:x≠n:=by simpa using hc
   refine⟨by unfold Zu;omega,?_⟩;refine⟨rfl,i+1,⟨rfl,rfl,rfl,trivial⟩,⟨rfl,by omega,?_⟩,by show _-_<_-_;omega⟩;rw [Ji hx];simp [hno,Ne.symm hxn]
 ·have hge:len<=i:=by simpa using hc
  repeat refine⟨rfl,?_⟩
  refine⟨?_,rfl⟩;have:l.take i=l:=List.take_of_length_le (by rw [hl.1];exact hge);rw [this] at hno;simp [hno]
end Go.Proofs
namespace Go.TM
variable {T:Type} {U:Qa T}
def boC (l:List Bool):List Value:=l.map .bool
theorem Qpf (l:List Bool) (i:Nat) (x:Bool):(boC l).toArray.setIfInBounds i (.bool x)=(boC (l.set i x)).toArray:=by
 simp [boC,List.map_set]
theorem Qel.of {b:Nat} {l:List Bool} (h:Jn U ⟨b,0,none⟩ (boC l)):Qel U (some ⟨b,0,none⟩) l.length l:=
 ⟨rfl,λ i x hx=>⟨_,rfl,rfl,by rw [Nat.mul_one];exact h i _ (by simp [boC,hx])⟩⟩
theorem Q4v {n i:Nat} (h:i<n):(List.replicate i true++List.replicate (n-i) false).set i true=List.replicate (i+1) true++List.replicate (n-(i+1)) false:=by
 obtain⟨m,e⟩:∃m,n-i=m+1:=⟨n-i-1,by omega⟩;rw [List.set_append_right _ _ (by simp),e];simp only [List.length_replicate,Nat.sub_self,List.replicate_succ,List.set_cons_zero];rw [show n-(i+1)=m by omega,<- List.replicate_succ,List.replicate_succ',List.append_assoc];rfl
theorem Q4w {P:Program} {t:TypeId} (h:(match P.info? t with | some inf=>inf.zero.isSome && (match inf.zero with | some (.bool false)=>true | _=>false) && inf.size == 1 && decide (inf.bytes<=64) | none=>false)=true):∃inf,P.info? t=some inf/\inf.zero=some (.bool false)/\inf.size=1/\inf.bytes<=64:=by
 split at h
 ·rename_i inf hi;simp only [Bool.and_eq_true,beq_iff_eq,decide_eq_true_eq] at h;obtain⟨⟨⟨h1,h2⟩,h3⟩,h4⟩:=h;refine⟨inf,hi,?_,h3,h4⟩;split at h2
  ·assumption
  ·cases h2
 ·cases h
theorem Zcx {P:Program} {S:Sys P T} {f:FuncId} {args:Array Value} {s w:List Bool} (h:Qb S f args (λ v U'=>∃rb wb,v=.tuple #[.slice (some ⟨rb,0,none⟩) s.length s.length,.slice (some ⟨wb,0,none⟩) w.length w.length]/\U'.M=.obj rb (.cells (boC s).toArray 4 (0,0))::.obj wb (.cells (boC w).toArray 4 (0,0))::U.M/\(∀x o,U.I x=some o->U'.I x=some o)/\U'.tok=U.tok) U) :
  Qb S f args (λ v U'=>(∃v1 v2,v=.tuple #[v1,v2]/\Qaw U'.frz v1 s/\Qaw U'.frz v2 w)/\U.le U') U:=by
 have h1:Qb S f args (λ v U'=>∃v1 wb,v=.tuple #[v1,.slice (some ⟨wb,0,none⟩) w.length w.length]/\Qaw U'.frz v1 s/\U'.M=.obj wb (.cells (boC w).toArray 4 (0,0))::U.M/\(∀x o,U.I x=some o->U'.I x=some o)/\U'.tok=U.tok) U:=by
  refine h.sep λ v U' hs ⟨rb,wb,hv,hM,hI,ht⟩=>?_;obtain⟨x1,k1,k2,k3⟩:=Qxx (U:={ U' with M:=.obj wb (.cells (boC w).toArray 4 (0,0))::U.M }) hs hM (λ _ _ h=>h) rfl rfl;have b1:Zi x1.frz rb (boC s).toArray:=⟨4,(0,0),k3⟩;exact⟨x1,k1,_,wb,hv,b1.bools (λ i x hx=>by simp [boC,hx]),k2.own,λ x o hx=>k2.imm x o (hI x o hx),k2.tok.trans ht⟩
 refine h1.sep λ v U' hs ⟨v1,wb,hv,hv1,hM,hI,ht⟩=>?_;obtain⟨x1,k1,k2,k3⟩:=Qxx (U:={ U' with M:=U.M }) hs hM (λ _ _ h=>h) rfl rfl;have b1:Zi x1.frz wb (boC w).toArray:=⟨4,(0,0),k3⟩;have hz:U'.frz.lg x1.frz:=⟨k2.imm,⟨[],rfl⟩,k2.tok⟩;exact⟨x1,k1,⟨_,_,hv,hv1.lg hz,b1.bools (λ i x hx=>by simp [boC,hx])⟩,⟨λ x o hx=>k2.imm x o (hI x o hx),k2.own,k2.tok.trans ht⟩⟩
end Go.TM
namespace Go.Proofs
open Go.TM
variable {T:Type} {S:TM.Sys prog T} {U:Qa T}
attribute [local irreducible] Qb Zl Wt
theorem Qoa (a a':Option Addr) (len cap len' cap':Nat) (l l':List Int) (hl:Z5 U a len l) (hl':Z5 U a' len' l') (hlen:len<2 ^ 60) (hlen':len'<2 ^ 60) :
  Qb S 127 #[.slice a len cap,.slice a' len' cap'] (λ v U'=>v=.bool (l.all λ n=>l'.contains n)/\U'=U) U:=by
 refine Qb.of (args:=[_,_]) Qga Qf (by simp) ?_;have hll:=hl.1;refine⟨Nat,λ i=>[(0,.slice a len cap),(1,.slice a' len' cap'),(5,.int .i64 i)],λ i U'=>U'=U/\i<=len/\(l.take i).all (λ n=>l'.contains n)=true,λ i=>len-i,0,⟨rfl,rfl,rfl,trivial⟩,⟨rfl,by omega,rfl⟩,?_⟩;rintro i f _ ⟨rfl,hi,hinv⟩;have hin:Zu ((i:Int)+1):=by unfold Zu;omega
 repeat refine⟨rfl,?_⟩
 conv=>whnf
 apply Qe<;>intro hc
 ·have hlt:i<len:=by simpa using hc
  obtain⟨ad,x,hx,rfl,hsp,hs⟩:=hl.at hlt;refine⟨ad,i,⟨rfl,rfl,hlt⟩,?_⟩;refine⟨_,hs,?_⟩;refine⟨Qdh.any,(Qae a' len' cap' l' hl' hlen' x).go λ _=>?_⟩;cases hh:l'.contains x with
  | false=>
   have hno:(l.all λ n=>l'.contains n)=false:=by
    rw [List.all_eq_false];exact⟨x,List.mem_of_getElem? hx,by rw [hh];simp⟩
   rw [hno]
   repeat refine⟨rfl,?_⟩
   conv=>whnf
  | true=>
   repeat refine⟨rfl,?_⟩
   refine⟨hin,?_⟩
   conv=>whnf
   exact⟨rfl,i+1,⟨rfl,rfl,rfl,trivial⟩,⟨rfl,by omega,by rw [Ji hx,List.all_append,hinv];simp only [List.all_cons,List.all_nil,hh];rfl⟩,by show _-_<_-_;omega⟩
 ·have hge:i=len:=by simp at hc;omega
  rw [List.take_of_length_le (by omega)] at hinv;rw [hinv]
  repeat refine⟨rfl,?_⟩
  conv=>whnf
theorem Qf7 (c:Cs) (ga aa:Option Addr) (gl gc al ac:Nat) (hg:J3 U ga gl c.gs) (hgl:gl<2 ^ 60) (sa:Option Addr) (sl sc:Nat) (s:List Bool) (hs:Qel U sa sl s) (hin:∀g∈c.gs,∀n∈g,0<=n/\n.toNat<sl) :
  Qb S 128 #[.agg #[.string c.nm,.int .i64 c.ag,.slice ga gl gc,.slice aa al ac],.slice sa sl sc] (λ v U'=>v=.bool (Zng c.gs s)/\U'=U) U:=by
 refine Qb.pure' (Qb.of (args:=[_,_]) Qjj Qf (by simp) ?_);have hgll:=hg.1
 repeat refine⟨rfl,?_⟩
 conv=>whnf
 intro B U1 h_1 hB;have hB:Zi U1 B #[.string c.nm,.int .i64 c.ag,.slice ga gl gc,.slice aa al ac]:=hB;have hg:=hg.lg h_1.lg;have hs:=hs.lg h_1.lg;refine⟨Nat,λ i=>[(1,.slice sa sl sc),(2,.pointer (some ⟨B,0,none⟩)),(5,.int .i64 i)],λ i U'=>U'=U1/\i<=gl/\Zng (c.gs.take i) s=false,λ i=>gl-i,0,⟨rfl,rfl,rfl,trivial⟩,⟨rfl,by omega,rfl⟩,?_⟩;rintro i f U2 ⟨hU,hi,hno⟩;obtain rfl:=hU.symm;have hin1:Zu ((i:Int)+1):=by unfold Zu;omega
 refine⟨_,hB.sees3 (o:=2) rfl,?_⟩
 repeat refine⟨rfl,?_⟩
 conv=>whnf
 apply Qe<;>intro hc
 ·have hlt:i<gl:=by simpa using hc
  obtain⟨ad,g,ga2,gl2,gc2,hx,hea,hsp,hsl,hi2,hgl2,hgm⟩:=hg.at hlt;have hg2l:=hi2.1;have hgin:=hin g hgm
  have hnext:Zng (c.gs.take (i+1)) s=g.all λ r=>s.getD r.toNat false:=by
   unfold Zng at hno ⊢;rw [Ji hx,List.any_append,hno];simp
  refine⟨Nat×Bool,λ y=>[(1,.slice sa sl sc),(2,.pointer (some ⟨B,0,none⟩)),(5,.int .i64 i),(6,.bool y.2),(7,.int .i64 y.1)],λ y U'=>U'=U1/\y.1<=gl2/\((g.take y.1).all λ r=>s.getD r.toNat false)=y.2,λ y=>gl2-y.1,(0,true),⟨rfl,rfl,rfl,rfl,rfl,trivial⟩,⟨rfl,by simp,rfl⟩,?_⟩;rintro⟨j,t⟩ f U2 ⟨hU,hj,ht⟩;obtain rfl:=hU.symm;simp only at hj ht;have hin2:Zu ((j:Int)+1):=by unfold Zu;omega
  refine⟨_,hB.sees3 (o:=2) rfl,?_⟩;refine⟨ad,i,⟨hea,rfl,hlt⟩,?_⟩;refine⟨_,hsl,?_⟩
  repeat refine⟨rfl,?_⟩
  conv=>whnf
  apply Qe<;>intro hc
  ·have hltj:j<gl2:=by simpa using hc
   obtain⟨ad3,n,hxn,hea3,hsp3,hs3⟩:=hi2.at hltj;obtain⟨hn0,hn1⟩:=hgin n (List.mem_of_getElem? hxn);have hnext2:((g.take (j+1)).all λ r=>s.getD r.toNat false)=(t && s.getD n.toNat false):=by rw [Ji hxn,List.all_append,ht];simp
   cases t with
   | false=>
    refine⟨hin2,?_⟩
    conv=>whnf
    exact⟨rfl,(j+1,false),⟨rfl,rfl,rfl,rfl,rfl,trivial⟩,⟨rfl,by show j+1<=gl2;omega,hnext2⟩,by show _-_<_-_;omega⟩
   | true=>
    obtain⟨ad4,x,hx4,hea4,hsp4,hs4⟩:=hs.at hn1;have hgd:s.getD n.toNat false=x:=by simp [List.getD_eq_getElem?_getD,hx4]
    refine⟨_,hB.sees3 (o:=2) rfl,?_⟩;refine⟨ad,i,⟨hea,rfl,hlt⟩,?_⟩;refine⟨_,hsl,?_⟩;refine⟨ad3,j,⟨hea3,rfl,hltj⟩,?_⟩;refine⟨_,hs3,?_⟩;refine⟨ad4,n.toNat,⟨hea4,(Int.toNat_of_nonneg hn0).symm,hn1⟩,?_⟩;refine⟨_,hs4,?_⟩;refine⟨hin2,?_⟩
    conv=>whnf
    exact⟨rfl,(j+1,x),⟨rfl,rfl,rfl,rfl,rfl,trivial⟩,⟨rfl,by show j+1<=gl2;omega,by rw [hnext2,hgd];rfl⟩,by show _-_<_-_;omega⟩
  have hge:j=gl2:=by simp at hc;omega
  rw [List.take_of_length_le (by omega)] at ht;cases t with
  | true=>
   have hyes:Zng c.gs s=true:=by
    unfold Zng;rw [List.any_eq_true];exact⟨g,hgm,ht⟩
   rw [hyes]
   repeat refine⟨rfl,?_⟩
   conv=>whnf
   exact h_1.lg
  | false=>
   refine⟨hin1,?_⟩
   conv=>whnf
   exact⟨rfl,i+1,⟨rfl,rfl,rfl,trivial⟩,⟨rfl,by omega,by rw [hnext,ht]⟩,by show _-_<_-_;omega⟩
 ·have hge:i=gl:=by simp at hc;omega
  rw [List.take_of_length_le (by omega)] at hno;rw [hno]
  repeat refine⟨rfl,?_⟩
  conv=>whnf
  exact h_1.lg
theorem Q4z:∃inf,prog.info? 4=some inf/\inf.zero=some (.bool false)/\inf.size=1/\inf.bytes<=64:=Q4w (by kernel_rfl)
theorem Qaq:prog.underlying 29=some (.slice 4):=by kernel_rfl
set_option maxHeartbeats 2000000 in
theorem Qlg (h:BH) (b:Bk) (hb:Zq U.frz h b) (hok:b.Ok) (a:Option Addr) (cap:Nat) (o:List Nat) (ho:Z5 U.frz a o.length (o.map λ (k:Nat)=>(k:Int))) (hlow:∀i∈o,i<b.cs.length) (hlen:o.length<2 ^ 60) :
  Qb S 72 #[h.v,.slice a o.length cap] (λ v U'=>(∃v1 v2,v=.tuple #[v1,v2]/\Qaw U'.frz v1 (b.ends o).1/\Qaw U'.frz v2 (b.ends o).2)/\U.le U') U:=by
 refine Zcx (Qb.of (args:=[_,_]) Qvo Qf (by simp) ?_);have hcl:=hb.cs.1;have hrl:=hb.rs.1;have hnr:=hok.nr;have hnc:=hok.nc;obtain⟨i4,i4a,i4b,i4c,i4d⟩:=Q4z
 repeat refine⟨rfl,?_⟩
 conv=>whnf
 intro B U1 h_1 hB;have hB:Zi U1 B #[.slice h.ra h.rl h.rc,.slice h.ca h.cl h.cc]:=hB;have hBf:Zi U1.frz B #[.slice h.ra h.rl h.rc,.slice h.ca h.cl h.cc]:=hB;have hb1:=hb.lg h_1.lg.frz2
 let ZR:List Bool:=List.replicate h.rl false
 let ZC:List Bool:=List.replicate h.cl false
 have hZR:(List.replicate h.rl (Value.bool false)).toArray=(boC ZR).toArray:=by simp [boC,ZR]
 have hZC:(List.replicate h.cl (Value.bool false)).toArray=(boC ZC).toArray:=by simp [boC,ZC]
 let MM:Nat->Nat->List Bool->List Bool->List Qx:=λ rb wb s w=>.obj rb (.cells (boC s).toArray 4 (0,0))::.obj wb (.cells (boC w).toArray 4 (0,0))::U.M
 conv=>whnf
 intro ac hfr0
 refine Qt2 (mu:=[1009]) (ops:=Q4g Tryz.f72 1) (id:=1) hfr0 [3,7] [[0,1,2,4,5,6,3,8,7],[0,1,2,4,5,6,7,3,8]] [9] Qdc Qpj Qf (by kernel_rfl) (by kernel_rfl) (by kernel_rfl) (by kernel_rfl) (by kernel_rfl)
  (λ f' ds' U'=>ds'=[]/\∃rb wb,Qig f' [(1,.slice a o.length cap),(2,.pointer (some ⟨B,0,none⟩)),(6,.slice (some ⟨rb,0,none⟩) h.rl h.rl),(18,.slice (some ⟨wb,0,none⟩) h.cl h.cl)]/\U1.frz.lg U'/\U'.M=MM rb wb ZR ZC) ?_ ?_
 ·intro l hl;simp only [Qdc,List.mem_cons,List.not_mem_nil,or_false] at hl;rcases hl with rfl | rfl
  ·refine⟨_,hBf.sees3 (o:=0) rfl,?_⟩;refine⟨_,hBf.sees3 (o:=1) rfl,?_⟩;refine⟨λ v U'=>∃rb,v=.slice (some ⟨rb,0,none⟩) h.rl h.rl/\U1.frz.lg U'/\U'.M=.obj rb (.cells (boC ZR).toArray 4 (0,0))::U.M,λ v x1 x2 ⟨rb,e,hl,hM⟩ hle=>⟨rb,e,hl.trans hle.lg,hle.own.trans hM⟩,λ v U' ⟨rb,e,hl,hM⟩=>hl,λ U' hC=>?_,λ v hv=>?_⟩
   ·conv=>whnf
    refine Qlj (n:=h.rl) Qaq i4a i4b rfl i4c i4d rfl rfl (by omega) λ rb hrb=>?_;refine⟨_,.refl _,rb,rfl,⟨λ x o hx=>hC.imm x o hx,⟨_,(List.append_nil _).symm⟩,hC.tok⟩,?_⟩;show _::U'.M=_;rw [hC.own,h_1.own,hZR]
   obtain⟨_,rb,rfl,-⟩:=hv;refine⟨λ v U'=>∃wb,v=.slice (some ⟨wb,0,none⟩) h.cl h.cl/\U1.frz.lg U'/\U'.M=MM rb wb ZR ZC,λ v x1 x2 ⟨rb,e,hl,hM⟩ hle=>⟨rb,e,hl.trans hle.lg,hle.own.trans hM⟩,λ v U' ⟨rb,e,hl,hM⟩=>hl,λ U' hC=>?_,λ v hv=>?_⟩
   ·obtain⟨rb',e,hl',hM'⟩:=hC;obtain rfl:rb=rb':=by simpa using e
    conv=>whnf
    refine Qlj (n:=h.cl) Qaq i4a i4b rfl i4c i4d rfl rfl (by omega) λ wb hwb=>?_;refine⟨_,W7 (M':=MM rb wb ZR ZC) ?_,wb,rfl,⟨λ x o hx=>hl'.imm x o hx,⟨_,(List.append_nil _).symm⟩,hl'.tok⟩,rfl⟩;show (_::U'.M).Perm _;rw [hM',hZC];exact List.Perm.swap _ _ _
   obtain⟨_,wb,rfl,-⟩:=hv
   conv=>whnf
   rintro U' ⟨wb',e,hl',hM'⟩;obtain rfl:wb=wb':=by simpa using e
   exact⟨rfl,rb,wb,⟨rfl,rfl,rfl,rfl,trivial⟩,hl',hM'⟩
  ·refine⟨_,hBf.sees3 (o:=0) rfl,?_⟩;refine⟨_,hBf.sees3 (o:=1) rfl,?_⟩;refine⟨λ v U'=>∃wb,v=.slice (some ⟨wb,0,none⟩) h.cl h.cl/\U1.frz.lg U'/\U'.M=.obj wb (.cells (boC ZC).toArray 4 (0,0))::U.M,λ v x1 x2 ⟨rb,e,hl,hM⟩ hle=>⟨rb,e,hl.trans hle.lg,hle.own.trans hM⟩,λ v U' ⟨rb,e,hl,hM⟩=>hl,λ U' hC=>?_,λ v hv=>?_⟩
   ·conv=>whnf
    refine Qlj (n:=h.cl) Qaq i4a i4b rfl i4c i4d rfl rfl (by omega) λ wb hwb=>?_;refine⟨_,.refl _,wb,rfl,⟨λ x o hx=>hC.imm x o hx,⟨_,(List.append_nil _).symm⟩,hC.tok⟩,?_⟩;show _::U'.M=_;rw [hC.own,h_1.own,hZC]
   obtain⟨_,wb,rfl,-⟩:=hv;refine⟨λ v U'=>∃rb,v=.slice (some ⟨rb,0,none⟩) h.rl h.rl/\U1.frz.lg U'/\U'.M=MM rb wb ZR ZC,λ v x1 x2 ⟨rb,e,hl,hM⟩ hle=>⟨rb,e,hl.trans hle.lg,hle.own.trans hM⟩,λ v U' ⟨rb,e,hl,hM⟩=>hl,λ U' hC=>?_,λ v hv=>?_⟩
   ·obtain⟨wb',e,hl',hM'⟩:=hC;obtain rfl:wb=wb':=by simpa using e
    conv=>whnf
    refine Qlj (n:=h.rl) Qaq i4a i4b rfl i4c i4d rfl rfl (by omega) λ rb hrb=>?_;refine⟨_,.refl _,rb,rfl,⟨λ x o hx=>hl'.imm x o hx,⟨_,(List.append_nil _).symm⟩,hl'.tok⟩,?_⟩;show _::U'.M=_;rw [hM',hZR]
   obtain⟨_,rb,rfl,-⟩:=hv
   conv=>whnf
   rintro U' ⟨rb',e,hl',hM'⟩;obtain rfl:rb=rb':=by simpa using e
   exact⟨rfl,rb,wb,⟨rfl,rfl,rfl,rfl,trivial⟩,hl',hM'⟩
 rintro f' ds' U3 ⟨rfl,rb,wb,hfr,hlg3,hM3⟩;rw [<- hfr.ovr];clear hfr
 conv=>whnf
 intro a' hf';refine⟨by rw [hf'.size,hfr0.size],_,hf'.get,?_⟩;rw [hf'.ds];clear hf' hfr0
 refine⟨Nat,λ i=>[(1,.slice a o.length cap),(2,.pointer (some ⟨B,0,none⟩)),(6,.slice (some ⟨rb,0,none⟩) h.rl h.rl),(7,.slice (some ⟨wb,0,none⟩) h.cl h.cl),(8,.int .i64 i)],
  λ i U'=>U1.frz.lg U'/\i<=h.rl/\U'.M=MM rb wb (List.replicate i true++List.replicate (h.rl-i) false) ZC,λ i=>h.rl-i,0,⟨rfl,rfl,rfl,rfl,rfl,trivial⟩,⟨hlg3,by omega,by rw [hM3];simp [ZR]⟩,?_⟩
 rintro i f U4 ⟨hl,hi,hM⟩;have hin:Zu ((i:Int)+1):=by unfold Zu;omega
 repeat refine⟨rfl,?_⟩
 conv=>whnf
 apply Qe<;>intro hc
 ·have hlt:i<h.rl:=by simpa using hc
  refine⟨_,i,⟨rfl,rfl,hlt⟩,?_⟩;refine⟨rfl,Zpc (L₁:=[]) (by rw [hM];exact List.Perm.refl _) (by simp [boC];omega) rfl λ x1 k1 k2 k3=>?_⟩
  have hM':x1.M=MM rb wb (List.replicate (i+1) true++List.replicate (h.rl-(i+1)) false) ZC:=by
   rw [k3,Nat.mul_one];show ([]:List Qx)++.obj rb (.cells ((boC _).toArray.setIfInBounds i (.bool true)) 4 (0,0))::_=_;rw [Qpf,Q4v hlt];rfl
  refine⟨hin,?_⟩
  conv=>whnf
  exact⟨rfl,i+1,⟨rfl,rfl,rfl,rfl,rfl,trivial⟩,⟨⟨λ x o hx=>by rw [k1];exact hl.imm x o hx,⟨_,(List.append_nil _).symm⟩,by rw [k2];exact hl.tok⟩,by omega,hM'⟩,by show _-_<_-_;omega⟩
 have hge:i=h.rl:=by simp at hc;omega
 subst hge;have hini:b.ini=(List.replicate h.rl true++List.replicate (h.rl-h.rl) false,ZC):=by simp [Bk.ini,ZC,hrl,hcl]
 refine⟨Nat,λ j=>[(1,.slice a o.length cap),(2,.pointer (some ⟨B,0,none⟩)),(6,.slice (some ⟨rb,0,none⟩) h.rl h.rl),(7,.slice (some ⟨wb,0,none⟩) h.cl h.cl),(9,.int .i64 j)],
  λ j U'=>U1.frz.lg U'/\j<=o.length/\U'.M=MM rb wb (b.ends (o.take j)).1 (b.ends (o.take j)).2,λ j=>o.length-j,0,⟨rfl,rfl,rfl,rfl,rfl,trivial⟩,⟨hl,by omega,by rw [hM];show _=MM rb wb b.ini.1 b.ini.2;rw [hini]⟩,?_⟩
 rintro j f U5 ⟨hl5,hj,hM5⟩;have hinj:Zu ((j:Int)+1):=by unfold Zu;omega
 repeat refine⟨rfl,?_⟩
 conv=>whnf
 apply Qe<;>intro hc
 ·have hlt:j<o.length:=by simpa using hc
  obtain⟨n,hxn⟩:∃n,o[j]?=some n:=⟨_,List.getElem?_eq_getElem hlt⟩;have hn:=hlow n (List.mem_of_getElem? hxn);obtain⟨ad2,x2,hx2,hea2,hsp2,hs2⟩:=(ho.lg h_1.lg.frz2).at hlt;obtain rfl:(n:Int)=x2:=by rw [List.getElem?_map,hxn] at hx2;exact Option.some.inj hx2
  obtain⟨ad,c,ga,gl,gc,aa,al,ac,hx,hea,hsp,hrd,hg,hgl,ha,hal,hmem⟩:=hb1.case (show n<h.cl by omega);have hcas:b.cas n=c:=by simp [Bk.cas,List.getD_eq_getElem?_getD,hx]
  have hag:=hok.ag c hmem;have hgs:=hok.gs c hmem;have f5:U1.frz.lg U5.frz:=hl5.frz2;have hB5:Zi U5.frz B #[.slice h.ra h.rl h.rc,.slice h.ca h.cl h.cc]:=hB.imI hl5.imm
  conv=>whnf
  intro ac2 hfr2
  refine Qt2 (mu:=[1009]) (ops:=Q4g Tryz.f72 9) (id:=9) hfr2 [8] [[0,1,2,3,4,5,6,7,8]] [9] Qdg Qp3 Qf (by kernel_rfl) (by kernel_rfl) (by kernel_rfl) (by kernel_rfl) (by kernel_rfl)
   (λ f' ds' U'=>ds'=[]/\∃b10,Qig f' [(1,.slice a o.length cap),(2,.pointer (some ⟨B,0,none⟩)),(6,.slice (some ⟨rb,0,none⟩) h.rl h.rl),(7,.slice (some ⟨wb,0,none⟩) h.cl h.cl),(9,.int .i64 j),(10,.pointer (some ⟨b10,0,none⟩)),(41,.agg #[.string c.nm,.int .i64 c.ag,.slice ga gl gc,.slice aa al ac])]/\Hlr U5 b10 49 #[.string ⟨#[]⟩,.int .i64 0,.slice none 0 0,.slice none 0 0] U') ?_ ?_
  ·intro l hl;simp only [Qdg,List.mem_cons,List.not_mem_nil,or_false] at hl;subst hl;refine⟨_,hB5.sees3 (o:=1) rfl,?_⟩;refine⟨ad2,j,⟨hea2,rfl,hlt⟩,?_⟩;refine⟨_,hs2.lg f5,?_⟩;refine⟨ad,n,⟨hea,rfl,by omega⟩,?_⟩;refine⟨_,⟨rfl,hrd.lg f5⟩,?_⟩;refine⟨λ v U'=>∃b10,v=.pointer (some ⟨b10,0,none⟩)/\Hlr U5 b10 49 #[.string ⟨#[]⟩,.int .i64 0,.slice none 0 0,.slice none 0 0] U',λ v x1 x2 ⟨q,e,hh⟩ hle=>⟨q,e,hh.le hle⟩,λ v U' ⟨q,e,hh⟩=>hh.frz1,λ U' hC=>?_,λ v hv=>?_⟩
   ·conv=>whnf
    intro b10 hf10;exact⟨_,.refl _,_,.refl _,b10,rfl,Hlr.made hC hf10⟩
   obtain⟨_,b10,rfl,-⟩:=hv
   conv=>whnf
   rintro U' ⟨b10',e,hh⟩;obtain rfl:b10=b10':=by simpa using e
   exact⟨rfl,b10,⟨rfl,rfl,rfl,rfl,rfl,rfl,rfl,trivial⟩,hh⟩
  rintro f' ds' U6 ⟨rfl,b10,hfr,hhld⟩;rw [<- hfr.ovr];clear hfr;refine⟨rfl,hhld.write (vs:=[.string c.nm,.int .i64 c.ag,.slice ga gl gc,.slice aa al ac]) rfl (by simp [Value.single]) λ U7 h7 hb10=>?_⟩
  conv=>whnf
  intro a'' hf'';refine⟨by rw [hf''.size,hfr2.size],_,hf''.get,?_⟩;rw [hf''.ds];clear hf'' hfr2;have hl7:U1.frz.lg U7:=hl5.trans h7.lg;have hM7:U7.M=MM rb wb (b.ends (o.take j)).1 (b.ends (o.take j)).2:=h7.own.trans hM5;have hsl:=(b.end_len (o.take j));have hrl1:(b.ends (o.take j)).1.length=h.rl:=by rw [hsl.1,hrl]
  have hcl1:(b.ends (o.take j)).2.length=h.cl:=by rw [hsl.2,hcl]
  have hbc:Qel U7 (some ⟨rb,0,none⟩) h.rl (b.ends (o.take j)).1:=hrl1 ▸ Qel.of (Za [] hM7);have hnext:b.ends (o.take (j+1))=b.stp (b.ends (o.take j)) n:=by rw [Ji hxn,b.ends_snoc]
  unfold Bk.stp at hnext;rw [hcas] at hnext;refine⟨_,⟨rfl,hb10.reads (λ k v hv=>by simpa using hv)⟩,?_⟩;refine⟨Qjj.any,(Qf7 c ga aa gl gc al ac ((hg.lg hl7.frz2).lg Qp) hgl (some ⟨rb,0,none⟩) h.rl h.rl (b.ends (o.take j)).1 hbc (λ g hgm n hn=>?_)).mono ?_⟩
  ·have:=(hgs g hgm).2 n hn;unfold Bk.nr at this;omega
  rintro _ U' ⟨rfl,hU'⟩ -;obtain rfl:=hU'.symm;have hag1:c.ag=(c.ag.toNat:Int)/\c.ag.toNat<h.rl:=by unfold Bk.nr at hag;omega
  cases hw:Zng c.gs (b.ends (o.take j)).1 with
  | true=>
   rw [if_pos hw] at hnext;refine⟨ad2,j,⟨hea2,rfl,hlt⟩,?_⟩;refine⟨_,hs2.lg (Qp.trans hl7:U1.frz.frz.lg U7),?_⟩;refine⟨_,n,⟨rfl,rfl,by omega⟩,?_⟩;refine⟨rfl,Zpc (L₁:=[_]) (by rw [hM7];first | done | exact List.Perm.refl _) (by simp [boC];omega) rfl λ x1 k1 k2 k3=>?_⟩
   have hM8:x1.M=MM rb wb (b.ends (o.take j)).1 ((b.ends (o.take j)).2.set n true):=by
    rw [k3,Nat.mul_one];show ([Qx.obj rb _]:List Qx)++Qx.obj wb (.cells ((boC _).toArray.setIfInBounds n (.bool true)) 4 (0,0))::_=_;rw [Qpf];rfl
   have hl8:U1.frz.lg x1:=⟨λ x o hx=>by rw [k1];exact hl7.imm x o hx,⟨_,(List.append_nil _).symm⟩,by rw [k2];exact hl7.tok⟩;have hb8:=hb10.imI (U':=x1) λ x o hx=>by rw [k1];exact hx
   refine⟨_,hb8.sees3 (o:=1) rfl,?_⟩;refine⟨_,c.ag.toNat,⟨rfl,hag1.1,hag1.2⟩,?_⟩;refine⟨rfl,Zpc (L₁:=[]) (by rw [hM8];first | done | exact List.Perm.refl _) (by simp [boC];omega) rfl λ x2 k4 k5 k6=>?_⟩
   have hM9:x2.M=MM rb wb (b.ends (o.take (j+1))).1 (b.ends (o.take (j+1))).2:=by
    rw [k6,Nat.mul_one,hnext];show ([]:List Qx)++.obj rb (.cells ((boC _).toArray.setIfInBounds c.ag.toNat (.bool false)) 4 (0,0))::_=_;rw [Qpf];rfl
   refine⟨hinj,?_⟩
   conv=>whnf
   exact⟨rfl,j+1,⟨rfl,rfl,rfl,rfl,rfl,trivial⟩,⟨⟨λ x o hx=>by rw [k4];exact hl8.imm x o hx,⟨_,(List.append_nil _).symm⟩,by rw [k5];exact hl8.tok⟩,by omega,hM9⟩,by show _-_<_-_;omega⟩
  | false=>
   rw [if_neg (by simp [hw])] at hnext;refine⟨hinj,?_⟩
   conv=>whnf
   exact⟨rfl,j+1,⟨rfl,rfl,rfl,rfl,rfl,trivial⟩,⟨hl7,by omega,by rw [hM7,hnext]⟩,by show _-_<_-_;omega⟩
 have hge:j=o.length:=by simp at hc;omega
 rw [List.take_of_length_le (by omega)] at hM5;have he:=b.end_len o
 repeat refine⟨rfl,?_⟩
 conv=>whnf
 exact⟨rb,wb,by rw [he.1,he.2,hrl,hcl];rfl,hM5,λ x o hx=>hl5.imm x o (h_1.imm x o hx),hl5.tok.trans h_1.tok⟩
end Go.Proofs
namespace Go.TM
theorem Qvz {l:List Int} (h:∀n∈l,0<=n) {x:Int} (hx:0<=x):l.contains x=decide (x.toNat∈l.map Int.toNat):=by
 rw [Bool.eq_iff_iff,decide_eq_true_iff,List.contains_iff_mem,List.mem_map];constructor
 ·intro hm;exact⟨x,hm,rfl⟩
 ·rintro⟨y,hy,e⟩;have:=h y hy;have:y=x:=by omega
  exact this ▸ hy
theorem Zbz {l af:List Int} (h:∀n∈l,0<=n) (ha:∀n∈af,0<=n):(af.all λ n=>l.contains n)=(af.map Int.toNat).all λ k=>(l.map Int.toNat).contains k:=by
 rw [List.all_map];rw [Bool.eq_iff_iff,List.all_eq_true,List.all_eq_true]
 have key:∀n∈af,l.contains n=((l.map Int.toNat).contains n.toNat):=λ n hn=>by
  rw [Qvz h (ha n hn),Bool.eq_iff_iff,decide_eq_true_iff,List.contains_iff_mem]
 constructor
 ·intro g n hn;show (l.map Int.toNat).contains n.toNat=true;rw [<- key n hn];exact g n hn
 ·intro g n hn;rw [key n hn];exact g n hn
end Go.TM
namespace Go.Proofs
open Go.TM
variable {T:Type} {S:TM.Sys prog T} {U:Qa T}
attribute [local irreducible] Qb Zl Wt
theorem Qek (h:BH) (b:Bk) (hb:Zq U.frz h b) (hok:b.Ok) (a:Option Addr) (len cap:Nat) (l:List Int) (hl:Z5 U.frz a len l) (hlen:len<2 ^ 60) (hcap:len<=cap) :
  Qb S 71 #[h.v,.slice a len cap] (λ v U'=>v=.int .i64 (b.ordF l)/\U'=U) U:=by
 refine Qb.pure' (Qb.of (args:=[_,_]) Qqa Qf (by simp) ?_);have hcl:=hb.cs.1;have hcl':=hb.cl;have hll:=hl.1;have hnc:b.nc=(h.cl:Int):=by unfold Bk.nc;rw [hcl]
 have hinc:Zu ((h.cl:Int)-1):=by unfold Zu;omega
 repeat refine⟨rfl,?_⟩
 conv=>whnf
 intro B U1 h_1 hB;have hB:Zi U1 B #[.slice h.ra h.rl h.rc,.slice h.ca h.cl h.cc]:=hB;have hb1:=hb.lg h_1.lg.frz2;have hl1:=hl.lg h_1.lg.frz2;refine⟨_,hB.sees3 (o:=1) rfl,?_⟩
 repeat refine⟨rfl,?_⟩
 conv=>whnf
 apply Qe<;>intro hc
 ·have hne:l.length≠b.cs.length:=by simp at hc;omega
  have hF:b.ordF l=2:=by unfold Bk.ordF;rw [if_pos hne]
  rw [hF]
  repeat refine⟨rfl,?_⟩
  conv=>whnf
  exact h_1.lg
 have heq:l.length=b.cs.length:=by simp at hc;omega
 have hF:b.ordF l=b.ordL [] l:=by unfold Bk.ordF;rw [if_neg (by omega)]
 rw [hF];refine⟨Nat,λ i=>[(1,.slice a len cap),(2,.pointer (some ⟨B,0,none⟩)),(5,.int .i64 i)],λ i U'=>U1.le U'/\i<=len/\(∀n∈l.take i,0<=n)/\b.ordL [] l=b.ordL ((l.take i).map Int.toNat) (l.drop i),λ i=>len-i,0,⟨rfl,rfl,rfl,trivial⟩,⟨.refl _,by omega,by simp,rfl⟩,?_⟩;rintro i f U2 ⟨h_2,hi,hpos,hinv⟩;have hB2:=hB.lg h_2.lg;have hb2:=hb1.lg h_2.lg.frz2;have hl2:=hl1.lg h_2.lg.frz2;have hend:=h_1.lg.trans h_2.lg;have hin:Zu ((i:Int)+1):=by unfold Zu;omega
 repeat refine⟨rfl,?_⟩
 conv=>whnf
 apply Qe<;>intro hc
 ·have hlt:i<len:=by simpa using hc
  obtain⟨ad,x,hx,hea,hsp,hs⟩:=(hl2.lg Qp).at hlt;rw [Qad hx,b.ordL_cons,hnc] at hinv
  have hcut:(if cap=0 then a else a.map (·.add (0*1)))=a:=by
   rw [hea];split
   ·rfl
   ·rfl
  have htk:∀w:Qa T,U2.le w->Z5 w a (i-0) (l.take i):=λ w hw=>by
   refine⟨by rw [List.length_take];omega,λ k y hy=>?_⟩;have hk:=(List.getElem?_eq_some_iff.1 hy).1;rw [List.length_take] at hk;rw [List.getElem?_take_of_lt (by omega)] at hy;exact ((hl2.lg Qp).lg hw.lg).2 k y hy
  refine⟨ad,i,⟨hea,rfl,hlt⟩,?_⟩;refine⟨_,hs,?_⟩;refine⟨_,hB2.sees3 (o:=1) rfl,?_⟩;refine⟨hinc,?_⟩
  conv=>whnf
  intro U3 h_3 _;refine⟨Qep.any,(Qfk U3 x 0 ((h.cl:Int)-1)).go λ _=>?_⟩;cases hbt:btw x 0 ((h.cl:Int)-1) with
  | false=>
   rw [hbt] at hinv;rw [hinv]
   repeat refine⟨rfl,?_⟩
   conv=>whnf
   exact hend.trans h_3.lg
  | true=>
  rw [if_pos hbt] at hinv
  have hx01:0<=x/\x<h.cl:=by
   simp only [btw,Bool.and_eq_true,decide_eq_true_eq] at hbt;omega
  refine⟨0,i,⟨rfl,rfl,by omega,by omega⟩,?_⟩;rw [hcut];refine⟨ad,i,⟨hea,rfl,hlt⟩,?_⟩;refine⟨_,hs.lg h_3.lg,?_⟩
  conv=>whnf
  intro U4 h_4 _;have hh:=h_3.trans h_4;refine⟨Qdh.any,(Qae a (i-0) (cap-0) (l.take i) (htk U4 hh) (by omega) x).go λ _=>?_⟩;rw [Qvz hpos hx01.1];by_cases hm:x.toNat∈(l.take i).map Int.toNat
  ·rw [if_pos hm] at hinv;rw [hinv,decide_eq_true hm]
   repeat refine⟨rfl,?_⟩
   conv=>whnf
   exact hend.trans hh.lg
  rw [if_neg hm] at hinv;rw [decide_eq_false hm];obtain⟨q,hq⟩:=Int.eq_ofNat_of_zero_le hx01.1;have hqc:q<h.cl:=by omega
  obtain⟨ad2,c,ga,gl,gc,aa,al,ac,hxc,hec,hspc,hrd,hg,hgl,ha,hal,hmem⟩:=(hb2.lg hh.lg.frz2).case hqc;have hat:=Bk.aft1_at hxc;have haf:=hok.af c hmem;have hx2:x.toNat=q:=by omega
  rw [hx2,hat] at hinv;refine⟨_,(hB2.lg hh.lg).sees3 (o:=1) rfl,?_⟩;refine⟨ad,i,⟨hea,rfl,hlt⟩,?_⟩;refine⟨_,hs.lg hh.lg,?_⟩;refine⟨ad2,q,⟨hec,hq,hqc⟩,?_⟩;refine⟨_,(hrd.lg Qp).cell (i:=3) rfl,?_⟩;refine⟨0,i,⟨rfl,rfl,by omega,by omega⟩,?_⟩;rw [hcut]
  conv=>whnf
  intro U5 h5 _;have hh5:=hh.trans h5;refine⟨Qga.any,(Qoa aa a al ac (i-0) (cap-0) c.af (l.take i) ((ha.lg h5.lg.frz2).lg Qp) (htk U5 hh5) hal (by omega)).go λ _=>?_⟩;rw [Zbz hpos λ n hn=>(haf n hn).1];cases hall:(c.af.map Int.toNat).all λ k=>((l.take i).map Int.toNat).contains k with
  | false=>
   rw [hall,if_neg (by simp)] at hinv;rw [hinv]
   repeat refine⟨rfl,?_⟩
   conv=>whnf
   exact hend.trans hh5.lg
  | true=>
   rw [hall,if_pos rfl] at hinv
   repeat refine⟨rfl,?_⟩
   refine⟨hin,?_⟩;refine⟨rfl,i+1,⟨rfl,rfl,rfl,trivial⟩,⟨h_2.trans hh5,by omega,λ n hn=>?_,by rw [hinv,Ji hx,List.map_append,<- hx2];rfl⟩,by show _-_<_-_;omega⟩;rw [Ji hx,List.mem_append,List.mem_singleton] at hn;rcases hn with hn | rfl
   ·exact hpos n hn
   ·exact hx01.1
 have hge:i=len:=by simp at hc;omega
 rw [List.drop_eq_nil_of_le (by omega)] at hinv;rw [hinv]
 repeat refine⟨rfl,?_⟩
 conv=>whnf
 exact hend
theorem Qvv {b:Bk}:∀{l:List Int} {o:List Nat},b.ordL o l=0->∀n∈l,0<=n/\n.toNat<b.cs.length
 | [],_,_,n,hn=>by cases hn
 | x::l,o,h,n,hn=>by
  rw [b.ordL_cons] at h;split at h
  ·rename_i hb
   have hx:0<=x/\x.toNat<b.cs.length:=by
    unfold Bk.nc at hb;simp only [btw,Bool.and_eq_true,decide_eq_true_eq] at hb;omega
   split at h
   ·cases h
   ·split at h
    ·rcases List.mem_cons.1 hn with rfl | hn
     ·exact hx
     ·exact Qvv h n hn
    ·cases h
  ·cases h
theorem Qbj (h:BH) (b:Bk) (hb:Zq U.frz h b) (hrc:h.rl<=h.rc) (a:Option Addr) (len cap:Nat) (l:List Int) (hl:Z5 U.frz a len l) (hlen:len<2 ^ 60) (hcap:len<=cap) :
  Qb S 22 #[h.v,.slice a len cap] (λ v U'=>(∃v1 v2,v=.tuple #[v1,v2,.int .i64 (b.outF l)]/\Qaw U'.frz v1 (if b.outF l=0 then (b.ends (l.map Int.toNat)).1 else [])/\Qaw U'.frz v2 (if b.outF l=0 then (b.ends (l.map Int.toNat)).2 else []))/\U.le U') U:=by
 refine Qb.of (args:=[_,_]) Qp5 Qf (by simp) ?_
 repeat refine⟨rfl,?_⟩
 conv=>whnf
 intro B U1 h_1 hB;have hB:Zi U1 B #[.slice h.ra h.rl h.rc,.slice h.ca h.cl h.cc]:=hB;have hb1:=hb.lg h_1.lg.frz2;have hl1:=hl.lg h_1.lg.frz2;have hll:=hl.1;refine⟨_,⟨rfl,hB.reads (λ k v hv=>by simpa using hv)⟩,?_⟩;refine⟨Q1w.any,(Qru h b hb1 hrc).go λ _=>?_⟩;by_cases hf:b.flaw Qu=0
 rotate_left
 ·have hF:b.outF l=b.flaw Qu:=by unfold Bk.outF;rw [if_neg hf]
  rw [hF,if_neg hf,if_neg hf]
  repeat refine⟨rfl,?_⟩
  conv=>whnf
  apply Qe<;>intro hc
  ·repeat refine⟨rfl,?_⟩
   conv=>whnf
   exact⟨⟨_,_,rfl,.nil,.nil⟩,h_1⟩
  ·exact absurd (by simpa using hc) hf
 have hok:=Bk.ok_of hf;have hF:b.outF l=b.ordF l:=by unfold Bk.outF;rw [if_pos hf]
 rw [hf,hF]
 repeat refine⟨rfl,?_⟩
 refine⟨_,⟨rfl,hB.reads (λ k v hv=>by simpa using hv)⟩,?_⟩;refine⟨Qqa.any,(Qek h b hb1 hok a len cap l hl1 hlen hcap).go λ _=>?_⟩;by_cases hz:b.ordF l=0
 rotate_left
 ·rw [if_neg hz,if_neg hz]
  repeat refine⟨rfl,?_⟩
  conv=>whnf
  apply Qe<;>intro hc
  ·repeat refine⟨rfl,?_⟩
   conv=>whnf
   exact⟨⟨_,_,rfl,.nil,.nil⟩,h_1⟩
  ·exact absurd (by simpa using hc) hz
 have hlow:∀n∈l,0<=n/\n.toNat<b.cs.length:=by
  unfold Bk.ordF at hz;split at hz
  ·cases hz
  ·exact Qvv hz
 have hmap:(l.map Int.toNat).map (λ (k:Nat)=>(k:Int))=l:=by
  rw [List.map_map]
  conv=>rhs;rw [<- List.map_id l]
  refine List.map_congr_left λ n hn=>?_;have:=(hlow n hn).1;show ((n.toNat:Nat):Int)=n;omega
 have hlo:len=(l.map Int.toNat).length:=by rw [List.length_map];omega
 rw [hz,if_pos rfl,if_pos rfl]
 repeat refine⟨rfl,?_⟩
 refine⟨_,⟨rfl,hB.reads (λ k v hv=>by simpa using hv)⟩,?_⟩
 conv=>whnf
 have hends:=Qlg (S:=S) (U:=U1) h b hb1 hok a cap (l.map Int.toNat) (by rw [hmap,<- hlo];exact hl1) (λ i hi=>by obtain⟨n,hn,rfl⟩:=List.mem_map.1 hi;exact (hlow n hn).2) (by rw [<- hlo];exact hlen);rw [<- hlo] at hends;refine⟨Qvo.any,hends.mono ?_⟩;rintro _ U2 ⟨⟨v1,v2,rfl,⟨a1,c1,rfl,r1⟩,⟨a2,c2,rfl,r2⟩⟩,h_2⟩ -
 repeat refine⟨rfl,?_⟩
 conv=>whnf
 exact⟨⟨_,_,rfl,⟨a1,c1,rfl,r1⟩,⟨a2,c2,rfl,r2⟩⟩,h_1.trans h_2⟩
end Go.Proofs
namespace Go.TM
theorem Qaw.bc {T:Type} {U:Qa T} {v:Value} {l:List Bool} (h:Qaw U v l):∃a c,v=.slice a l.length c/\Qel U a l.length l:=let ⟨a,c,e,r⟩:=h;⟨a,c,e,rfl,r⟩
end Go.TM
namespace Go.Proofs
open Go.TM
attribute [local irreducible] Qb Zl Wt
set_option maxHeartbeats 2000000 in
theorem Q0j {U:Qa Tk} (htok:U.tok=⟨0,.out,none⟩) (hk:Chk U) (h:BH) (b:Bk) (hb:Zq U.frz h b) (hnl:Q0n b) (hrc:h.rl<=h.rc) (hcc:h.cl<=h.cc) (a:Option Addr) (len cap:Nat) (l:List Int) (hl:Z5 U.frz a len l) (hlen:len<2 ^ 60) (hcap:len<=cap) :
  J (Zb prog 209 6) (Fin prog λ v U'=>v=.bool true/\U.lg U') true (Rf (Frame.enter prog 3 #[h.v,.slice a len cap] .normal) []) U:=by
 refine Zpy (args:=[_,_]) (Q:=λ v U'=>v=.bool true/\U.lg U') Q41 Qf (by kernel_rfl) (by simp) (λ v U' q=>q.2.tok.trans htok) ?_;have fin:∀U2:Qa Tk,U.lg U2->Qb (Zb prog 209 6) 20 #[] (λ v U'=>v=.bool true/\U'=U2) U2:=λ U2 h=>Zm2 (h.tok.trans htok) (hk.lg h)
 repeat refine⟨rfl,?_⟩
 conv=>whnf
 intro B U1 h_1 hB;have hB:Zi U1 B #[.slice h.ra h.rl h.rc,.slice h.ca h.cl h.cc]:=hB;have hb1:=hb.lg h_1.lg.frz2;have hl1:=hl.lg h_1.lg.frz2;have hrd:∀w:Qa Tk,U1.le w->Jn w ⟨B,0,none⟩ [.slice h.ra h.rl h.rc,.slice h.ca h.cl h.cc]:=λ w hw=>(hB.lg hw.lg).reads (λ k v hv=>by simpa using hv);refine⟨_,⟨rfl,hrd _ (.refl _)⟩,?_⟩;refine⟨Q1v.any,(Qu0 h b hb1 hnl).mono ?_⟩;rintro _ U' ⟨⟨g,rfl⟩,hU'⟩ -;obtain rfl:=hU'.symm;cases g with
 | true=>
  refine⟨Zii.any,(fin _ h_1.lg).go λ _=>?_⟩
  repeat refine⟨rfl,?_⟩
  conv=>whnf
  exact h_1.lg
 | false=>
 repeat refine⟨rfl,?_⟩
 conv=>whnf
 apply Qe<;>intro hc
 ·refine⟨Zii.any,(fin _ h_1.lg).go λ _=>?_⟩
  repeat refine⟨rfl,?_⟩
  conv=>whnf
  exact h_1.lg
 refine⟨_,⟨rfl,hrd _ (.refl _)⟩,?_⟩;refine⟨Qq3.any,(Qfz h b hb1 (hk.lg h_1.lg) a len cap l hl1 hlen).mono ?_⟩;rintro _ U2 ⟨⟨v1,v2,rfl,b1,b2⟩,h_2⟩ -;obtain⟨xa,xc,rfl,hx⟩:=b1.bc;obtain⟨ya,yc,rfl,hy⟩:=b2.bc;refine⟨_,⟨rfl,hrd _ h_2⟩,?_⟩;refine⟨Qp5.any,(Qbj h b (hb1.lg h_2.lg.frz2) hrc a len cap l (hl1.lg h_2.lg.frz2) hlen hcap).mono ?_⟩;rintro _ U3 ⟨⟨v3,v4,rfl,b3,b4⟩,h_3⟩ -;obtain⟨ua,uc,rfl,hu⟩:=b3.bc;obtain⟨wa,wc,rfl,hw⟩:=b4.bc;have h23:=h_2.trans h_3;have hlo:∀s:List Bool,s.length<=2 ^ 59->s.length<2 ^ 60:=λ s hs=>by omega
 have hsl:∀(c:Prop) [Decidable c] (s:List Bool),s.length<2 ^ 60->(if c then s else []).length<2 ^ 60:=λ c _ s hs=>by split <;> simp <;> omega
 have he:=b.ends_len (l.map Int.toNat);have hrl':=hb.rl;have hcl':=hb.cl;have hrl:=hb.rs.1;have hcl:=hb.cs.1;generalize hS:(if b.outF l=0 then (b.ends (l.map Int.toNat)).1 else [])=s at hx hu ⊢;generalize hW:(if b.outF l=0 then (b.ends (l.map Int.toNat)).2 else [])=w at hy hw ⊢;have hs60:s.length<2 ^ 60:=by rw [<- hS];exact hsl _ _ (by omega)
 have hw60:w.length<2 ^ 60:=by rw [<- hW];exact hsl _ _ (by omega)
 generalize hof:b.outF l=of;refine⟨_,⟨rfl,hrd _ h23⟩,?_⟩;refine⟨.int .i64 (b.flaw Qu),λ U' hle _=>?_,?_⟩
 ·refine⟨Qju.any,(Qaz h b (((hb1.lg h23.lg.frz2).lg hle.lg.frz2).lg Qp) (hk.lg (h_1.lg.trans (h23.lg.trans hle.lg)))).mono ?_⟩;rintro _ U'' ⟨rfl,hU⟩ -;exact⟨rfl,_,.refl _,hU ▸ .refl _⟩
 refine⟨_,⟨rfl,hrd _ h23⟩,?_⟩;refine⟨.int .i64 (b.flaw Qu),λ U' hle _=>?_,?_⟩
 ·refine⟨Q1w.any,(Qru h b ((hb1.lg h23.lg.frz2).lg hle.lg.frz2) hrc).mono ?_⟩;rintro _ U'' ⟨rfl,hU⟩ -;exact⟨rfl,_,.refl _,hU ▸ .refl _⟩
 repeat refine⟨rfl,?_⟩
 conv=>whnf
 apply Zr<;>intro hc
 rotate_left
 ·exact absurd hc (by simp)
 refine⟨.bool true,λ U' hle _=>?_,?_⟩
 ·refine⟨Qgr.any,(W0 xa ua s.length xc s.length uc s s ((hx.lg (h_3.lg.frz2.trans hle.lg.frz2)).lg Qp) ((hu.lg hle.lg.frz2).lg Qp) hs60).mono ?_⟩;rintro _ U'' ⟨rfl,hU⟩ -;exact⟨by simp,_,.refl _,hU ▸ .refl _⟩
 refine⟨.bool true,λ U' hle _=>?_,?_⟩
 ·refine⟨Qgr.any,(W0 ya wa w.length yc w.length wc w w ((hy.lg (h_3.lg.frz2.trans hle.lg.frz2)).lg Qp) ((hw.lg hle.lg.frz2).lg Qp) hw60).mono ?_⟩;rintro _ U'' ⟨rfl,hU⟩ -;exact⟨by simp,_,.refl _,hU ▸ .refl _⟩
 conv=>whnf
 intro U4 h_4 _;have hend:U.lg U4:=h_1.lg.trans (h23.lg.trans h_4.lg)
 repeat refine⟨rfl,?_⟩
 conv=>whnf
 apply Zr<;>intro hc
 rotate_left
 ·exact absurd hc (by simp)
 refine⟨Zii.any,(fin _ hend).go λ _=>?_⟩
 repeat refine⟨rfl,?_⟩
 conv=>whnf
 exact hend
end Go.Proofs
