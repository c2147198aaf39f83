/- Lemmas of the proof. No conditions of their own. -/
import Derived.Test.YtnpfcnfhfkflhaaGreatDoorC03
import Derived.Test.YtnpfcnfhfkflhaaGreatDoorC01
import Derived.Test.YtnpfcnfhfkflhaaGreatDoorC04
set_option linter.all false
set_option maxRecDepth 100000
namespace Go.TM
theorem Bk.askF_zero {b:Bk} {r:Nat} (hf:b.flaw Qu=0) (hr:r<b.rs.length):b.askF (r:Int)=0:=by
 unfold Bk.askF;rw [if_pos hf,if_pos];unfold Bk.nr;simp [btw];omega
end Go.TM
namespace Go.TM
variable {T:Type} {U U':Qa T}
def Bk.woF (b:Bk) (l:List Int):Int:=if b.flaw Qu=0 then J1 b.nc none l else b.flaw Qu
theorem Zq.zero:Zq U BH.zero ⟨[],[]⟩:=⟨⟨rfl,λ i x h=>by simp at h⟩,⟨rfl,λ i x h=>by simp at h⟩,by show 0<_;decide,by show 0<_;decide,by simp,by simp⟩
theorem Znq {b:Nat} {c:Array Value} {e:TypeId} {vs:List Value} {M₀:List Qx} {Q:Qa T->Prop} (hs:Sep U) (hM:U.M=.obj b (.cells c e (0,0))::M₀) (hsz:c.size=vs.length) (h1:∀v∈vs,v.single=true)
  (h:∀U1:Qa T,(∀x o,U.I x=some o->U1.I x=some o)->U1.tok=U.tok->U1.M=M₀->Zi U1 b vs.toArray->Q U1):StV ⟨b,0,none⟩ vs 0 (λ U''=>∃U1,Qw U'' U1/\Q U1) U:=by
 refine Qqh [] vs 0 c U hM h1 (by omega) ?_;rw [Qh7 hsz];refine⟨_,We (b:=b) (M':=M₀) (List.Perm.refl _),h _ (λ x o i=>?_) rfl rfl Zi.new⟩;show Qf8 U.I b _ x=_;unfold Qf8;rw [if_neg]
 ·exact i
 ·rintro rfl;have hn:=hs (.obj x (.cells c e (0,0))) (by rw [hM];exact List.mem_cons_self ..);rw [show U.I x=none from hn] at i;cases i
end Go.TM
namespace Go.Proofs
open Go.TM
section
variable {T:Type} {S:TM.Sys Tryz.prog T} {U:Qa T}
attribute [local irreducible] Qb Zl Wt
theorem Qqa (a a':Option Addr) (len cap cap':Nat) (l:List ByteArray) (hl:Q5 U a len 1 l λ s vs=>vs=[.string s]) (hl':Q5 U a' len 1 l λ s vs=>vs=[.string s]) (hlen:len<2 ^ 60) :
  Qb S 59 #[.slice a len cap,.slice a' len cap'] (λ v U'=>v=.bool true/\U'=U) U:=by
 refine Qb.pure' (Qb.of (args:=[_,_]) Q0m Qf (by simp) ?_)
 repeat refine⟨rfl,?_⟩
 conv=>whnf
 apply Qe<;>intro hc
 ·exact absurd hc (by simp)
 refine⟨Nat,λ i=>[(0,.slice a len cap),(1,.slice a' len cap'),(5,.int .i64 i)],λ i U'=>U.le U'/\i<=len,λ i=>len-i,0,⟨rfl,rfl,rfl,trivial⟩,⟨.refl _,by omega⟩,?_⟩;rintro i f U1 ⟨hle,hi⟩;have hin:Zu ((i:Int)+1):=by unfold Zu;omega
 repeat refine⟨rfl,?_⟩
 conv=>whnf
 apply Qe<;>intro hc
 ·have hlt:i<len:=by simpa using hc
  obtain⟨ad,x,vs,hx,hea,-,rfl,-,hs⟩:=hl.at hlt;obtain⟨ad',x',vs',hx',hea',-,rfl,-,hs'⟩:=hl'.at hlt;obtain rfl:x=x':=Option.some.inj (hx.symm.trans hx');refine⟨ad,i,⟨hea,rfl,hlt⟩,?_⟩;refine⟨_,(hs.lg hle.lg) 0 _ rfl,?_⟩;refine⟨ad',i,⟨hea',rfl,hlt⟩,?_⟩;refine⟨_,(hs'.lg hle.lg) 0 _ rfl,?_⟩
  conv=>whnf
  intro U2 h_2 _
  repeat refine⟨rfl,?_⟩
  conv=>whnf
  apply Qe<;>intro hc
  ·exact absurd hc (by simp)
  refine⟨hin,?_⟩
  conv=>whnf
  exact⟨rfl,i+1,⟨rfl,rfl,rfl,trivial⟩,⟨hle.trans h_2,by omega⟩,by show _-_<_-_;omega⟩
 repeat refine⟨rfl,?_⟩
 conv=>whnf
 exact hle.lg
theorem Qf7 (h:BH) (b:Bk) (hb:Zq U.frz h b) (hk:Chk U) (a:Option Addr) (len cap:Nat) (l:List Int) (hl:Z5 U.frz a len l) (hlen:len<2 ^ 60) :
  Qb S 41 #[h.v,.slice a len cap] (λ v U'=>(∃h':BH,v=.tuple #[h'.v,.int .i64 (b.woF l)]/\Zq U'.frz h' (if b.woF l=0 then b.wo (Qli l).testBit else ⟨[],[]⟩)/\h'.rl<=h'.rc)/\U.le U') U:=by
 refine Qb.grown (R:=λ v U'=>∃h':BH,v=.tuple #[h'.v,.int .i64 (b.woF l)]/\Zq U' h' (if b.woF l=0 then b.wo (Qli l).testBit else ⟨[],[]⟩)/\h'.rl<=h'.rc) (λ v U1 U2 hl ⟨h',e,h1,h2⟩=>⟨h',e,h1.lg hl,h2⟩) (Qb.of (args:=[_,_]) Qzk Qf (by simp) ?_);have hcl:=hb.cs.1;have hcl':=hb.cl;have hnc:b.nc=(h.cl:Int):=by unfold Bk.nc;rw [hcl]
 repeat refine⟨rfl,?_⟩
 conv=>whnf
 intro B U1 h_1 hB;have hB:Zi U1 B #[.slice h.ra h.rl h.rc,.slice h.ca h.cl h.cc]:=hB
 conv=>whnf
 intro b4 hf4;refine⟨_,.refl _,?_⟩;have hlp:=Z4 (U:=U1) b4 (.cells #[.slice none 0 0,.slice none 0 0] 25);have hBp:=hB.lg hlp;have hl1:=(hl.lg h_1.lg.frz2).lg Qp;refine⟨_,⟨rfl,hBp.reads (λ k v hv=>by simpa using hv)⟩,?_⟩;refine⟨Qju.any,(Qaz h b (((hb.lg h_1.lg.frz2).lg Qp).lg hlp) ((hk.lg h_1.lg).lg hlp)).go λ _=>?_⟩
 repeat refine⟨rfl,?_⟩
 conv=>whnf
 apply Qe<;>intro hc
 ·have hf:b.flaw Qu≠0:=by simpa using hc
  have hF:b.woF l=b.flaw Qu:=by unfold Bk.woF;rw [if_neg hf]
  rw [hF,if_neg hf];refine⟨rfl,Zt (vs:=[.slice none 0 0,.slice none 0 0]) hf4 rfl (by simp [Value.single]) λ U2 h_2 hb4=>?_⟩;refine⟨_,⟨rfl,hb4.reads (λ k v hv=>by simpa using hv)⟩,?_⟩
  conv=>whnf
  exact⟨⟨BH.zero,rfl,.zero,Nat.le_refl _⟩,(h_1.trans h_2).lg⟩
 have hf:b.flaw Qu=0:=by simpa using hc
 have hok:=Bk.ok_of hf;have hn5:=hok.nc;have hF:b.woF l=J1 (h.cl:Int) none l:=by unfold Bk.woF;rw [if_pos hf,hnc]
 rw [hF];refine⟨_,hBp.sees3 (o:=1) rfl,?_⟩;refine⟨Qrh.any,(Qir a len cap l (hl1.lg hlp) hlen h.cl hcl').go λ _=>?_⟩
 repeat refine⟨rfl,?_⟩
 conv=>whnf
 apply Qe<;>intro hc
 ·have hr:J1 (h.cl:Int) none l≠0:=by simpa using hc
  rw [if_neg hr];refine⟨rfl,Zt (vs:=[.slice none 0 0,.slice none 0 0]) hf4 rfl (by simp [Value.single]) λ U2 h_2 hb4=>?_⟩;refine⟨_,⟨rfl,hb4.reads (λ k v hv=>by simpa using hv)⟩,?_⟩
  conv=>whnf
  exact⟨⟨BH.zero,rfl,.zero,Nat.le_refl _⟩,(h_1.trans h_2).lg⟩
 have hr:J1 (h.cl:Int) none l=0:=by simpa using hc
 have hin:=Qqf hr;have h60:∀n∈l,0<=n/\n<60:=λ n hn=>by have:=hin n hn;omega
 rw [hr,if_pos rfl];have ho:Qli l<2 ^ 60:=Qb0 (toNat_lt h60);refine⟨_,⟨rfl,hBp.reads (λ k v hv=>by simpa using hv)⟩,?_⟩;refine⟨.int .i64 (Qli l:Nat),λ U' hle _=>?_,?_⟩
 ·refine⟨Qa0.any,(Ja a len cap l ((hl1.lg hlp).lg hle.lg) hlen h60).mono ?_⟩;rintro _ U'' ⟨rfl,hU'⟩ -;obtain rfl:=hU'.symm;exact⟨rfl,_,.refl _,.refl _⟩
 have hh:Hlr U1 b4 25 #[.slice none 0 0,.slice none 0 0] (U1.put b4 (.cells #[.slice none 0 0,.slice none 0 0] 25)):=.made (.refl _) hf4
 conv=>whnf
 intro U2 h_2 _;have hh:=hh.le h_2;refine⟨Qrg.any,(Qf2 h b ((hb.lg h_1.lg.frz2).lg hh.frz2) hok (Qli l) ho).mono ?_⟩;rintro _ U3 ⟨⟨h',rfl,hbo,hroom⟩,h_3⟩ hs3;have hh:=hh.le h_3;refine⟨rfl,Znq (vs:=[.slice h'.ra h'.rl h'.rc,.slice h'.ca h'.cl h'.cc]) hs3 hh.own rfl (by simp [Value.single]) λ U4 hI4 ht4 hM4 hb4=>?_⟩;refine⟨_,⟨rfl,hb4.reads (λ k v hv=>by simpa using hv)⟩,?_⟩
 conv=>whnf
 exact⟨⟨h',rfl,hbo.lg ⟨hI4,⟨[],rfl⟩,ht4⟩,hroom⟩,⟨λ x u hx=>hI4 x u (hh.imm x u (h_1.imm x u hx)),⟨[],by rw [hM4,h_1.own];rfl⟩,ht4.trans (hh.tok.trans h_1.tok)⟩⟩
theorem Qp3 (h:BH) (b:Bk) (hb:Zq U.frz h b) (hk:Chk U) (hf:b.flaw Qu=0) (r:Nat) (hr:r<h.rl):Qb S 49 #[h.v,.int .i64 r] (λ v U'=>v=.tuple #[.int .i64 (b.fatR r),.bool true]/\U'=U) U:=by
 refine Qb.pure' (Qb.of (args:=[_,_]) Q0k Qf (by simp) ?_);have hrl:=hb.rs.1
 repeat refine⟨rfl,?_⟩
 conv=>whnf
 intro B U1 h_1 hB;have hB:Zi U1 B #[.slice h.ra h.rl h.rc,.slice h.ca h.cl h.cc]:=hB;refine⟨_,⟨rfl,hB.reads (λ k v hv=>by simpa using hv)⟩,?_⟩;refine⟨Q1x.any,(Quz h b (hb.lg h_1.lg.frz2) (hk.lg h_1.lg)).mono ?_⟩;rintro _ U2 ⟨⟨_,_,rfl,⟨ra,rc,rfl,hR⟩,⟨ca,cc,rfl,hC⟩⟩,h_2⟩ -;rw [hf] at hR ⊢;rw [if_pos rfl] at hR;rw [if_pos rfl];have hl:b.fatesR.length=h.rl:=by simp [Bk.fatesR,hrl]
 rw [hl] at hR ⊢;obtain⟨adR,xR,hxR,hRa,hRs,hsR⟩:=hR.at hr;obtain rfl:b.fatR r=xR:=Option.some.inj ((show b.fatesR[r]?=some (b.fatR r) by simp [Bk.fatesR,show r<b.rs.length by omega]).symm.trans hxR)
 repeat refine⟨rfl,?_⟩
 refine⟨_,(hB.lg h_2.lg).sees3 (o:=0) rfl,?_⟩
 repeat refine⟨rfl,?_⟩
 conv=>whnf
 apply Qe<;>intro hc
 ·exact absurd hc (by simp)
 refine⟨adR,r,⟨hRa,rfl,hr⟩,?_⟩;refine⟨_,hsR.lg Qp,?_⟩
 repeat refine⟨rfl,?_⟩
 conv=>whnf
 exact (h_1.trans h_2).lg
theorem Qbj (h:BH) (b:Bk) (hb:Zq U.frz h b) (hk:Chk U) (hf:b.flaw Qu=0) (a:Option Addr) (len cap:Nat) (l:List Int) (hl:Z5 U.frz a len l) (hlen:len<2 ^ 60) (hri:J1 b.nc none l=0) (r:Nat) (hr:r<h.rl) :
  Qb S 46 #[h.v,.slice a len cap,.int .i64 r] (λ v U'=>v=.tuple #[.int .i64 ((b.wo (Qli l).testBit).fatR r),.bool true]/\U'=U) U:=by
 refine Qb.pure' (Qb.of (args:=[_,_,_]) Qcf Qf (by simp) ?_);have hrl:=hb.rs.1;have hF:b.woF l=0:=by unfold Bk.woF;rw [if_pos hf,hri]
 have hfo:=Bk.wo_flaw hf (Qli l).testBit
 repeat refine⟨rfl,?_⟩
 conv=>whnf
 intro B U1 h_1 hB;have hB:Zi U1 B #[.slice h.ra h.rl h.rc,.slice h.ca h.cl h.cc]:=hB;have hb1:=hb.lg h_1.lg.frz2;refine⟨_,⟨rfl,hB.reads (λ k v hv=>by simpa using hv)⟩,?_⟩;refine⟨Qzk.any,(Qf7 h b hb1 (hk.lg h_1.lg) a len cap l (hl.lg h_1.lg.frz2) hlen).mono ?_⟩;rintro _ U2 ⟨⟨h',rfl,hbo,hroom⟩,h_2⟩ -;rw [hF,if_pos rfl] at hbo;rw [hF];have hrl':b.rs.length=h'.rl:=hbo.rs.1
 conv=>whnf
 intro b8 hf8;refine⟨_,.refl _,?_⟩;refine⟨rfl,Zt (vs:=[.slice h'.ra h'.rl h'.rc,.slice h'.ca h'.cl h'.cc]) hf8 rfl (by simp [Value.single]) λ U3 h_3 hb8=>?_⟩;have h23:=h_2.trans h_3;have hB3:=hB.lg h23.lg;have hb3:=hb1.lg h23.lg.frz2;have hbo3:=hbo.lg h_3.lg.frz2;have hb8:Zi U3 b8 #[.slice h'.ra h'.rl h'.rc,.slice h'.ca h'.cl h'.cc]:=hb8;have e0:h'.rl=h.rl:=by omega
 repeat refine⟨rfl,?_⟩
 refine⟨_,hb8.sees3 (o:=0) rfl,?_⟩;refine⟨_,hB3.sees3 (o:=0) rfl,?_⟩
 conv=>whnf
 rw [e0];refine⟨Q0m.any,(Qqa h'.ra h.ra h.rl h'.rc h.rc b.rs ((show Q5 U3.frz h'.ra h.rl 1 b.rs _ from e0 ▸ hbo3.rs).lg Qp λ _ _ h=>h) (hb3.rs.lg Qp λ _ _ h=>h) hb3.rl).go λ _=>?_⟩;refine⟨_,⟨rfl,hb8.reads (λ k v hv=>by simpa using hv)⟩,?_⟩;refine⟨Q1w.any,(Qru h' _ hbo3 hroom).go λ _=>?_⟩;rw [hfo]
 repeat refine⟨rfl,?_⟩
 refine⟨_,⟨rfl,hb8.reads (λ k v hv=>by simpa using hv)⟩,?_⟩;refine⟨Q0k.any,(Qp3 h' _ hbo3 (hk.lg (h_1.trans h23).lg) hfo r (by omega)).go λ _=>?_⟩
 repeat refine⟨rfl,?_⟩
 conv=>whnf
 exact (h_1.trans h23).lg
end
end Go.Proofs
namespace Go.TM
variable {T:Type} {U U':Qa T}
def Q4u (bits i:Nat):Bool:=(IntKind.wrap .u8 ((BitVec.ofInt (IntKind.bits .u8) (((bits:Nat):Int).fdiv (2 ^ (min ((i:Nat):Int).toNat (IntKind.bits .u8)))) &&& BitVec.ofInt (IntKind.bits .u8) 1).toNat:Nat)) == 1
def Bk.partTo (bits i:Nat):List Int:=((List.range i).filter (Q4u bits)).map λ (k:Nat)=>(k:Int)
theorem Bk.partTo_succ (bits i:Nat):Bk.partTo bits (i+1)=Bk.partTo bits i++(if Q4u bits i then [(i:Int)] else []):=by
 unfold Bk.partTo;rw [List.range_succ,List.filter_append,List.map_append];congr 1;cases h:Q4u bits i
 ·rw [List.filter_cons,h];rfl
 ·rw [List.filter_cons,h];rfl
theorem Bk.partTo_sub (b:Bk) (bits:Nat):(Bk.partTo bits b.cs.length).Sublist b.every:=List.filter_sublist.map _
theorem Bk.sub_rises {b:Bk} {y:List Int} (h:y.Sublist b.every):J1 b.nc none y=0:=by
 refine Qz6 (b.every_asc.sublist h) (λ x hx=>?_) (by simp);obtain⟨k,hk,rfl⟩:=List.mem_map.1 (h.subset hx);rw [List.mem_range] at hk;unfold Bk.nc;omega
theorem Bk.sub_len {b:Bk} {y:List Int} (h:y.Sublist b.every):y.length<=b.cs.length:=by have:=h.length_le;rwa [b.every_len] at this
def Qdh (l l':List Int):Bool:=decide (l.length<l'.length) || (decide (l.length=l'.length) && Qae l l')
theorem Bk.ag_count (b:Bk) (r:Nat):(b.every.filter λ n=>(b.cas n.toNat).ag == (r:Int)).length=(List.range b.cs.length).countP λ j=>(b.cas j).ag == (r:Int):=by
 unfold Bk.every;rw [List.filter_map,List.length_map,List.countP_eq_length_filter];rfl
theorem Qvv (l:List Int):∀w∈l.map λ n=>Value.int .i64 n,w.single=true:=λ w hw=>by obtain⟨n,-,rfl⟩:=List.mem_map.1 hw;rfl
theorem Q4x {l:List Int} {i:Nat} (h:i<l.length):(l.take i++l.drop (i+1)).length=l.length-1:=by simp;omega
theorem Q4z (l:List Int) (i:Nat):(l.take i++l.drop (i+1)).Sublist l:=by rw [<- List.eraseIdx_eq_take_drop_succ];exact List.eraseIdx_sublist ..
theorem Zbz {a:Option Addr} {len:Nat} {l:List Int} (h:Z5 U a len l) (i:Nat):Src U (if i=0 then a else a) ((l.take i).map λ n=>.int .i64 n):=by
 rw [ite_self,List.map_take];rcases h.src' with⟨h1,h2⟩ | ⟨ad,h1,h2⟩
 ·exact .inl ⟨h1,by rw [h2];simp⟩
 ·refine .inr ⟨ad,h1,λ k v hv=>h2 k v ?_⟩;rw [List.getElem?_take] at hv;split at hv
  ·exact hv
  ·cases hv
theorem Q41 {a:Option Addr} {len:Nat} {l:List Int} (h:Z5 U a len l) {i:Nat} (hi:i<len):Src U (a.map (·.add (i*1))) ((l.drop i).map λ n=>.int .i64 n):=by
 obtain⟨ad0,-,-,rfl,hsp,-⟩:=h.at hi;rcases h.src' with⟨h1,h2⟩ | ⟨ad,h1,h2⟩
 ·cases h1
 ·cases h1;refine .inr ⟨_,rfl,λ k v hv=>?_⟩;rw [List.map_drop,List.getElem?_drop] at hv;have:=h2 _ v hv;obtain⟨bb,oo,ss⟩:=ad0;cases hsp;rw [Qo] at this;show U.sees (((Addr.mk bb oo none).add (i*1)).add k) v;rw [Qo,Qo,Nat.mul_one,Nat.add_assoc];exact this
end Go.TM
namespace Go.Proofs
open Go.TM
section
variable {T:Type} {S:TM.Sys Tryz.prog T} {U:Qa T}
attribute [local irreducible] Qb Zl Wt
theorem Q4v {f:FuncId} {args:Array Value} {e:Nat} {l:List Int} (h:Qb S f args (λ v U'=>Acc e 1 v (l.map λ n=>.int .i64 n) U'.M U.M/\(∀x ox,U.I x=some ox->U'.I x=some ox)/\U'.tok=U.tok) U) :
  Qb S f args (λ v U'=>IntsR U'.frz v l/\U.le U') U:=by
 refine h.sep λ v U' hs ⟨ha,hI,ht⟩=>?_;obtain⟨U'',k1,k2,a,len,cap,rfl,hl,hsrc,hsp,_⟩:=ha.freeze hs hI ht;have hr:=ha.room;simp at hl;exact⟨U'',k1,⟨a,cap,by rw [hl],Qlc hsrc hsp,by omega⟩,k2⟩
theorem Qp5 (h:BH) (b:Bk) (hb:Zq U.frz h b) (hnc:b.cs.length<=5) (bits:Nat) :
  Qb S 47 #[h.v,.int .u8 (bits:Int)] (λ v U'=>IntsR U'.frz v (Bk.partTo bits b.cs.length)/\U.le U') U:=by
 refine Q4v (e:=3) (Qb.of (args:=[_,_]) Q0h Qf (by simp) ?_);have hcl:=hb.cs.1
 repeat refine⟨rfl,?_⟩
 conv=>whnf
 intro B U1 h_1 hB;have hB:Zi U1 B #[.slice h.ra h.rl h.rc,.slice h.ca h.cl h.cc]:=hB;refine⟨Nat×Value,λ y=>[(1,.int .u8 bits),(2,.pointer (some ⟨B,0,none⟩)),(5,y.2),(6,.int .i64 y.1)],λ y U'=>U1.frz.lg U'/\y.1<=h.cl/\Acc 3 1 y.2 ((Bk.partTo bits y.1).map λ n=>.int .i64 n) U'.M U.M,λ y=>h.cl-y.1,(0,.slice none 0 0),⟨rfl,rfl,rfl,rfl,trivial⟩,⟨Qp,by omega,by rw [h_1.own];exact .nil⟩,?_⟩;rintro⟨i,v⟩ f U2 ⟨hl2,hi,hacc⟩;simp only at hi hacc;obtain⟨sa,sl,sc,rfl,hsl,-⟩:=hacc.src;have hin:Zu ((i:Int)+1):=by unfold Zu;omega
 have hsucc:=Bk.partTo_succ bits i;have hlen:(Bk.partTo bits i).length<=i:=by unfold Bk.partTo;rw [List.length_map];exact Nat.le_trans (List.length_filter_le _ _) (by simp)
 have hB2:=hB.imI hl2.imm;refine⟨_,hB2.sees3 (o:=1) rfl,?_⟩
 repeat refine⟨rfl,?_⟩
 conv=>whnf
 apply Qe<;>intro hc
 ·have hlt:i<h.cl:=by simpa using hc
  refine⟨Int.natCast_nonneg i,?_⟩
  repeat refine⟨rfl,?_⟩
  conv=>whnf
  apply Qe<;>intro hc
  ·have hp:Q4u bits i=true:=hc;rw [hp,if_pos rfl] at hsucc
   conv=>whnf
   intro bn hbn;refine Zk hbn λ U3 h_3 hbn=>?_;have hbn:Zi U3 bn #[.int .i64 i]:=hbn;have hl3:=hl2.trans h_3.lg
   conv=>whnf
   refine Ws (v:=.slice sa sl sc) (cs:=(Bk.partTo bits i).map λ n=>.int .i64 n) (new:=[.int .i64 (i:Int)]) (M₀:=U.M) Qat rfl rfl (by rw [h_3.own];exact hacc) (.inr ⟨_,rfl,hbn.reads (λ k v hv=>by simpa using hv)⟩) rfl (by simp [Value.single]) (by simp;omega) λ v' M' ha' _=>?_;obtain⟨ta,tl,tc,rfl,-,-⟩:=Acc.src (U:={ U3 with M:=M' }) ha';refine⟨hin,?_⟩
   conv=>whnf
   exact⟨rfl,(i+1,.slice ta tl tc),⟨rfl,rfl,rfl,rfl,trivial⟩,⟨⟨hl3.imm,⟨_,(List.append_nil _).symm⟩,hl3.tok⟩,by show i+1<=h.cl;omega,by show Acc 3 1 _ ((Bk.partTo bits (i+1)).map _) _ _;rw [hsucc,List.map_append];exact ha'⟩,by show _-_<_-_;omega⟩
  ·have hp:Q4u bits i=false:=hc;rw [hp,if_neg (by simp),List.append_nil] at hsucc;refine⟨hin,?_⟩
   conv=>whnf
   exact⟨rfl,(i+1,.slice sa sl sc),⟨rfl,rfl,rfl,rfl,trivial⟩,⟨hl2,by show i+1<=h.cl;omega,by show Acc 3 1 _ ((Bk.partTo bits (i+1)).map _) _ _;rw [hsucc];exact hacc⟩,by show _-_<_-_;omega⟩
 have hge:i=b.cs.length:=by simp at hc;omega
 rw [hge] at hacc
 repeat refine⟨rfl,?_⟩
 conv=>whnf
 exact⟨hacc,λ x ox hx=>hl2.imm x ox (h_1.imm x ox hx),hl2.tok.trans h_1.tok⟩
theorem Qga (a a':Option Addr) (cap cap':Nat) (l l':List Int) (hl:Z5 U a l.length l) (hl':Z5 U a' l'.length l') (h1:l.length<2 ^ 60) (h2:l'.length<2 ^ 60) :
  Qb S 48 #[.slice a l.length cap,.slice a' l'.length cap'] (λ v U'=>v=.bool (Qdh l l')/\U'=U) U:=by
 refine Qb.of (args:=[_,_]) Q0j Qf (by simp) ?_;unfold Qdh
 repeat refine⟨rfl,?_⟩
 conv=>whnf
 apply Zr<;>intro hc
 ·have hge:decide (l.length<l'.length)=false:=by simp at hc ⊢;omega
  rw [hge,Bool.false_or]
  repeat refine⟨rfl,?_⟩
  conv=>whnf
  apply Zr<;>intro hc
  ·have heq:decide (l.length=l'.length)=true:=by simp at hc ⊢;omega
   rw [heq,Bool.true_and];refine⟨Qvz.any,(Qpj a a' _ cap _ cap' l l' hl hl' h1 h2).go λ _=>?_⟩
   repeat refine⟨rfl,?_⟩
   conv=>whnf
   first | done | exact⟨rfl,rfl⟩
  ·have heq:decide (l.length=l'.length)=false:=by simp at hc ⊢;omega
   rw [heq,Bool.false_and]
   repeat refine⟨rfl,?_⟩
   conv=>whnf
   first | done | exact⟨rfl,rfl⟩
 ·have hlt:decide (l.length<l'.length)=true:=by simp at hc ⊢;omega
  rw [hlt,Bool.true_or]
  repeat refine⟨rfl,?_⟩
  conv=>whnf
  first | done | exact⟨rfl,rfl⟩
end
def Qdc:List (List (Nat×St)):=[[(0,⟨.ldn 2 (.tmp 3),some 104,none,none⟩),(0,⟨.mv (.tmp 8),some 106,none,none⟩),(0,⟨.mv (.tmp 15),some 107,none,none⟩),(0,⟨.sub3 1 (.tmp 106) none (some (.tmp 107)),some 108,none,none⟩),(0,⟨.mv (.tmp 8),some 110,none,none⟩),(0,⟨.mv (.tmp 15),some 111,none,none⟩),(0,⟨.add (.tmp 111) (.const (.int .i64 1)),some 112,none,none⟩),(0,⟨.sub3 1 (.tmp 110) (some (.tmp 112)) none,some 113,none,none⟩),(0,⟨.mv (.tmp 7),some 115,none,none⟩),(2,⟨.bsl 3 0 #[] [],some 105,none,none⟩),(2,⟨.raw { dst:=none,op:=(.call { callee:=.builtin .append,args:=#[(.tmp 105),(.tmp 108)],argTypes:=#[26,26] }),type:=26,pos := "", after:=#[],guard:=none },some 109,none,none⟩),(2,⟨.raw { dst:=none,op:=(.call { callee:=.builtin .append,args:=#[(.tmp 109),(.tmp 113)],argTypes:=#[26,26] }),type:=26,pos := "", after:=#[],guard:=none },some 114,none,none⟩),(2,⟨.call (.func 46) #[(.tmp 104),(.tmp 114),(.tmp 115)],some 116,none,none⟩),(0,⟨.mv (.tmp 116),some 103,none,none⟩),(0,⟨.ext (.tmp 103) 0,some 117,none,none⟩),(0,⟨.ext (.tmp 103) 1,some 118,none,none⟩),(0,⟨.mv (.tmp 117),some 10,none,none⟩)]]
def Qvy:List St:=[⟨.mv (.tmp 118),some 11,none,none⟩]
attribute [local irreducible] Qb Zl Wt
set_option maxHeartbeats 4000000 in
theorem Q4w {U:Qa Tk} (htok:U.tok=⟨0,.out,none⟩) (hk:Chk U) (h:BH) (b:Bk) (hb:Zq U.frz h b) (hnl:Q0n b) (hrc:h.rl<=h.rc) (hcc:h.cl<=h.cc) (rt:Nat) (hrt:rt<256) (bits:Nat) (hbits:bits<256) :
  J (Zb Tryz.prog 209 6) (Fin Tryz.prog λ v U'=>v=.bool true/\U.lg U') true (Rf (Frame.enter Tryz.prog 11 #[h.v,.int .u8 (rt:Int),.int .u8 (bits:Int)] .normal) []) U:=by
 refine Zpy (args:=[_,_,_]) (Q:=λ v U'=>v=.bool true/\U.lg U') Zk8 Qf (by kernel_rfl) (by simp) (λ v U' q=>q.2.tok.trans htok) ?_;have hcl:=hb.cs.1;have hrl:=hb.rs.1;have fin:∀U2:Qa Tk,U.lg U2->Qb (Zb Tryz.prog 209 6) 20 #[] (λ v U'=>v=.bool true/\U'=U2) U2:=λ U2 h=>Zm2 (h.tok.trans htok) (hk.lg h)
 repeat refine⟨rfl,?_⟩
 conv=>whnf
 intro B U1 h_1 hB;have hB:Zi U1 B #[.slice h.ra h.rl h.rc,.slice h.ca h.cl h.cc]:=hB;have hBf:Zi U1.frz B #[.slice h.ra h.rl h.rc,.slice h.ca h.cl h.cc]:=hB;have hb1:=hb.lg h_1.lg.frz2;have hrd:∀w:Qa Tk,U1.frz.lg w->Jn w ⟨B,0,none⟩ [.slice h.ra h.rl h.rc,.slice h.ca h.cl h.cc]:=λ w hw=>(hBf.lg hw).reads (λ k v hv=>by simpa using hv);refine⟨_,⟨rfl,hrd _ Qp⟩,?_⟩;refine⟨Zij.any,(Zm1 h b hb1 hnl hrc).mono ?_⟩;rintro _ U' ⟨⟨g,rfl,hg⟩,hU'⟩ -;obtain rfl:=hU'.symm;have Qcx:Qb (Zb Tryz.prog 209 6) 20 #[] (λ v U'=>v=.bool true/\U'=U1) U1:=fin _ h_1.lg;cases g with
 | false=>
  refine⟨Zii.any,Qcx.go λ _=>?_⟩
  repeat refine⟨rfl,?_⟩
  conv=>whnf
  exact h_1.lg
 | true=>
 have hf:b.flaw Qu=0:=hg rfl;refine⟨_,hB.sees3 (o:=0) rfl,?_⟩
 repeat refine⟨rfl,?_⟩
 conv=>whnf
 apply Qe<;>intro hc
 ·refine⟨Zii.any,Qcx.go λ _=>?_⟩
  repeat refine⟨rfl,?_⟩
  conv=>whnf
  exact h_1.lg
 have hrp:0<h.rl:=by simp at hc;omega
 have hok:=Bk.ok_of hf;have hnr:=hok.nr;have hnc:=hok.nc;obtain⟨q,hqq⟩:∃q,q=rt % h.rl:=⟨_,rfl⟩;have hq:q<h.rl:=hqq ▸ Nat.mod_lt _ hrp;have hqr:q<b.rs.length:=by omega
 have hrem:(IntKind.wrap .i64 (rt:Int)).tmod (h.rl:Nat)=(q:Nat):=by rw [wrap64 (by omega),hqq];exact (Int.ofNat_tmod _ _).symm
 have hF:b.askF (q:Int)=0:=Bk.askF_zero hf hqr;obtain⟨hsub,hwd,hleast⟩:=Bk.wd_facts hok hqr;have hl5:=Bk.sub_len hsub;refine⟨_,hB.sees3 (o:=0) rfl,?_⟩;refine⟨rfl,by omega,?_⟩;rw [hrem];refine⟨_,⟨rfl,hrd _ Qp⟩,?_⟩;refine⟨Q1z.any,(Tryz.WithdrawR_ok h b hb1 (hk.lg h_1.lg) (q:Int)).mono ?_⟩;rintro _ U2 ⟨⟨_,rfl,la,lc,rfl,hL,hroom⟩,h_2⟩ -;have hwf:b.wdF (q:Int)=b.wdL q:=by unfold Bk.wdF;rw [if_pos hF,Int.toNat_natCast]
 rw [hwf] at hL hroom ⊢;rw [hF];have h12:=h_1.trans h_2;have hb2:=hb1.lg h_2.lg.frz2;refine⟨_,⟨rfl,hrd _ (Za3 Qp h_2)⟩,?_⟩;refine⟨Qcf.any,(Qbj h b hb2 (hk.lg h12.lg) hf la _ lc (b.wdL q) hL (by omega) (Bk.sub_rises hsub) q hq).go λ _=>?_⟩;have hwd1:(b.wo (Qli (b.wdL q)).testBit).fatR q=1:=by simpa [Bk.wdP] using hwd
 rw [hwd1]
 repeat refine⟨rfl,?_⟩
 refine⟨_,⟨rfl,hrd _ (Za3 Qp h_2)⟩,?_⟩;refine⟨Q0h.any,(Qp5 h b hb2 hnc bits).mono ?_⟩;rintro _ U3 ⟨⟨oa,oc,rfl,hO,-⟩,h_3⟩ -;have hosub:=b.partTo_sub bits;have hol:=Bk.sub_len hosub;have h13:=h12.trans h_3;have h23:=h_2.trans h_3;have hb3:=hb2.lg h_3.lg.frz2;have hL3:=hL.lg h_3.lg.frz2;refine⟨_,⟨rfl,hrd _ (Za3 Qp h23)⟩,?_⟩;refine⟨Qcf.any,(Qbj h b hb3 (hk.lg h13.lg) hf oa _ oc _ hO (by omega) (Bk.sub_rises hosub) q hq).go λ _=>?_⟩
 have hsh:(b.wo (Qli (Bk.partTo bits b.cs.length)).testBit).fatR q=1->Qdh (Bk.partTo bits b.cs.length) (b.wdL q)=false:=λ e=>by
  unfold Qdh;rcases hleast _ hosub (by unfold Bk.wdP;rw [e];rfl) with hlt | ⟨heq,hls⟩
  ·rw [decide_eq_false (by omega),decide_eq_false (by omega)];rfl
  ·rw [hls,decide_eq_false (by omega)];simp
 refine⟨rfl,?_⟩;cases hfe:(b.wo (Qli (Bk.partTo bits b.cs.length)).testBit).fatR q == 1
 case' true=>
  have hs1:=hsh (by simpa using hfe);refine⟨Q0j.any,(Qga oa la oc lc _ _ (hO.lg Qp) (hL3.lg Qp) (by omega) (by omega)).go λ _=>?_⟩;rw [hs1]
 all_goals
  refine⟨Nat,λ i=>[(3,.pointer (some ⟨B,0,none⟩)),(7,.int .i64 q),(8,.slice la (b.wdL q).length lc),(13,.int .i64 ((List.range i).countP λ j=>(b.cas j).ag == (q:Int):Nat)),(14,.int .i64 i)],λ i U'=>U3.le U'/\i<=h.cl,λ i=>h.cl-i,0,⟨rfl,rfl,rfl,rfl,rfl,trivial⟩,⟨.refl _,by omega⟩,?_⟩;rintro i f U4 ⟨h_4,hi⟩;have hin:Zu ((i:Int)+1):=by unfold Zu;omega
  have h24:=h23.trans h_4;have hcn:(List.range i).countP (λ j=>(b.cas j).ag == (q:Int))<=i:=Nat.le_trans List.countP_le_length (by simp);refine⟨_,(hB.le h24).sees3 (o:=1) rfl,?_⟩
  repeat refine⟨rfl,?_⟩
  conv=>whnf
  apply Qe<;>intro hc
  ·have hlt:i<h.cl:=by simpa using hc
   obtain⟨ad,c,ga,gl,gc,aa,al,ac,hx,hea,hsp,hrd4,-,-,-,-,-⟩:=(hb3.lg h_4.lg.frz2).case hlt;have hcas:b.cas i=c:=by simp [Bk.cas,List.getD_eq_getElem?_getD,hx]
   have hsucc:(List.range (i+1)).countP (λ j=>(b.cas j).ag == (q:Int))=(List.range i).countP (λ j=>(b.cas j).ag == (q:Int))+if c.ag == (q:Int) then 1 else 0:=by
    rw [List.range_succ,List.countP_append,List.countP_singleton,hcas]
   refine⟨_,(hB.le h24).sees3 (o:=1) rfl,?_⟩;refine⟨ad,i,⟨hea,rfl,hlt⟩,?_⟩;refine⟨_,(hrd4.lg Qp).cell (i:=1) rfl,?_⟩
   repeat refine⟨rfl,?_⟩
   conv=>whnf
   apply Qe<;>intro hc
   ·have hc1:(c.ag == (q:Int))=true:=hc;rw [hc1,if_pos rfl] at hsucc;refine⟨by unfold Zu;omega,?_⟩;refine⟨hin,?_⟩
    conv=>whnf
    exact⟨rfl,i+1,⟨rfl,rfl,rfl,by rw [hsucc];rfl,rfl,trivial⟩,⟨h_4,by omega⟩,by show _-_<_-_;omega⟩
   ·have hc1:(c.ag == (q:Int))=false:=hc;rw [hc1,if_neg (by simp),Nat.add_zero] at hsucc;refine⟨hin,?_⟩
    conv=>whnf
    exact⟨rfl,i+1,⟨rfl,rfl,rfl,by rw [hsucc];rfl,rfl,trivial⟩,⟨h_4,by omega⟩,by show _-_<_-_;omega⟩
  have hge:i=b.cs.length:=by simp at hc;omega
  have hag:=hleast _ (List.filter_sublist) (Bk.wd_ag hok hqr);have hcnt:=b.ag_count q;rw [hge]
  repeat refine⟨rfl,?_⟩
  conv=>whnf
  apply Qe<;>intro hc
  ·exfalso;simp at hc;omega
  refine⟨Nat,λ i=>[(3,.pointer (some ⟨B,0,none⟩)),(7,.int .i64 q),(8,.slice la (b.wdL q).length lc),(15,.int .i64 i)],λ i U'=>U3.le U'/\i<=(b.wdL q).length,λ i=>(b.wdL q).length-i,0,⟨rfl,rfl,rfl,rfl,trivial⟩,⟨h_4,by omega⟩,?_⟩;rintro k f U5 ⟨h_5,hk'⟩;have hink:Zu ((k:Int)+1):=by unfold Zu;omega
  have h15:=h13.trans h_5
  repeat refine⟨rfl,?_⟩
  conv=>whnf
  apply Qe<;>intro hc
  ·have hlt:k<(b.wdL q).length:=by simpa using hc
   have hL5:=hL3.lg h_5.lg.frz2;have hBf5:U1.frz.lg U5.frz:=(h23.trans h_5).lg.frz2;have hel:=Q4x hlt;have hes:=(Q4z (b.wdL q) k).trans hsub;have hk1:(k:Int)+1=((k+1:Nat):Int):=by omega
   have hne:((b.wo (Qli ((b.wdL q).take k++(b.wdL q).drop (k+1))).testBit).fatR q == 1)=false:=by
    cases he:(b.wo (Qli ((b.wdL q).take k++(b.wdL q).drop (k+1))).testBit).fatR q == 1 with
    | false=>rfl
    | true=>
     rcases hleast _ hes he with h1 | ⟨h1,-⟩ <;> omega
   have e1:(if lc=0 then la else la.map (·.add (0*1)))=la:=by
    split
    ·rfl
    ·obtain⟨ad0,-,-,rfl,hsp,-⟩:=hL5.at hlt;obtain⟨bb,oo,ss⟩:=ad0;cases hsp;rfl
   have hsT:Src U5.frz la (((b.wdL q).take k).map λ n=>.int .i64 n):=by have:=Zbz hL5 k;rwa [ite_self] at this
   have hsD:Src U5.frz (if lc=k+1 then la else la.map (·.add ((k+1)*1))) (((b.wdL q).drop (k+1)).map λ n=>.int .i64 n):=by
    by_cases hlast:k+1<(b.wdL q).length
    ·rw [if_neg (by omega)];exact Q41 hL5 hlast
    ·rw [List.drop_eq_nil_of_le (by omega)];obtain⟨ad0,-,-,rfl,hsp,-⟩:=hL5.at hlt;split
     ·exact .inr ⟨_,rfl,λ i v hv=>by simp at hv⟩
     ·exact .inr ⟨_,rfl,λ i v hv=>by simp at hv⟩
   generalize hda:(if lc=k+1 then la else la.map (·.add ((k+1)*1)))=da at hsD
   conv=>whnf
   intro ac0 hfr0
   refine Qt2 (mu:=[1023]) (ops:=Q4g Tryz.f11 23) (id:=23) hfr0 [1,5,10,12] [[0,2,3,4,6,7,8,9,11,1,5,10,12,13,14,15,16]] [17] Qdc Qvy Qf (by kernel_rfl) (by kernel_rfl) (by kernel_rfl) (by kernel_rfl) (by kernel_rfl)
    (λ f' ds' U'=>ds'=[]/\Qig f' [(3,.pointer (some ⟨B,0,none⟩)),(7,.int .i64 q),(8,.slice la (b.wdL q).length lc),(10,.int .i64 ((b.wo (Qli ((b.wdL q).take k++(b.wdL q).drop (k+1))).testBit).fatR q)),(15,.int .i64 k),(118,.bool true)]/\U5.le U') ?_ ?_
   ·intro l hl;simp only [Qdc,List.mem_cons,List.not_mem_nil,or_false] at hl;subst hl;refine⟨_,⟨rfl,hrd _ hBf5⟩,?_⟩;refine⟨0,k,⟨rfl,rfl,by omega,by omega⟩,?_⟩;rw [e1];refine⟨hink,?_⟩;refine⟨k+1,(b.wdL q).length,⟨hk1,rfl,by omega,hroom⟩,?_⟩;rw [hda];refine⟨λ v U'=>Qjj U5 [] v U',λ v x1 x2 hh hle=>hh.le hle,λ v U' hh=>hh.2.1,λ U' hC=>?_,λ v hv=>?_⟩
    ·conv=>whnf
     intro p hp;exact⟨_,.refl _,_,.refl _,.new hC⟩
    obtain⟨_,⟨a1,l1,c1,rfl⟩,-,-⟩:=hv;refine⟨λ v U'=>Qjj U5 ((b.wdL q).take k) v U',λ v x1 x2 hh hle=>hh.le hle,λ v U' hh=>hh.2.1,λ U' hC=>?_,λ v hv=>?_⟩
    ·conv=>whnf
     refine Ws (v:=.slice a1 l1 c1) (cs:=([]:List Int).map λ n=>.int .i64 n) (new:=((b.wdL q).take k).map λ n=>.int .i64 n) (M₀:=U5.M) Qat rfl rfl hC.2.2 ((hsT.lgs hC.2.1.frz2).lgs Qp) (by simp;omega) (Qvv _) (by simp;omega) λ v' M' ha' _=>?_;obtain⟨ta,tl,tc,rfl,-⟩:=Acc.src (U:={ U' with M:=M' }) ha';exact⟨_,.refl _,⟨⟨_,_,_,rfl⟩,⟨hC.2.1.imm,⟨_,(List.append_nil _).symm⟩,hC.2.1.tok⟩,by simpa using ha'⟩⟩
    obtain⟨_,⟨a2,l2,c2,rfl⟩,-,-⟩:=hv;refine⟨λ v U'=>Qjj U5 ((b.wdL q).take k++(b.wdL q).drop (k+1)) v U',λ v x1 x2 hh hle=>hh.le hle,λ v U' hh=>hh.2.1,λ U' hC=>?_,λ v hv=>?_⟩
    ·conv=>whnf
     refine Ws (v:=.slice a2 l2 c2) (cs:=((b.wdL q).take k).map λ n=>.int .i64 n) (new:=((b.wdL q).drop (k+1)).map λ n=>.int .i64 n) (M₀:=U5.M) Qat rfl rfl hC.2.2 ((hsD.lgs hC.2.1.frz2).lgs Qp) (by simp) (Qvv _) (by simp;omega) λ v' M' ha' _=>?_;obtain⟨ta,tl,tc,rfl,-⟩:=Acc.src (U:={ U' with M:=M' }) ha';exact⟨_,.refl _,⟨⟨_,_,_,rfl⟩,⟨hC.2.1.imm,⟨_,(List.append_nil _).symm⟩,hC.2.1.tok⟩,by simpa using ha'⟩⟩
    obtain⟨_,⟨a3,l3,c3,rfl⟩,-,-⟩:=hv;refine⟨λ v U'=>v=.tuple #[.int .i64 ((b.wo (Qli ((b.wdL q).take k++(b.wdL q).drop (k+1))).testBit).fatR q),.bool true]/\U5.le U',λ v x1 x2 hh hle=>⟨hh.1,hh.2.trans hle⟩,λ v U' hh=>Qp.trans hh.2.lg,λ U' hC=>?_,λ v hv=>?_⟩
    ·refine⟨Qcf.any,(Qjj.give (xs:=λ v=>#[h.v,v,.int .i64 q]) hC λ U6 ga gcap e hle hInts=>?_).mono λ v U' hv _=>⟨U',.refl _,hv⟩⟩;rw [e];exact (Qbj h b (hb3.lg (h_5.trans hle).lg.frz2) (hk.lg (h15.trans hle).lg) hf ga _ gcap _ hInts (by omega) (Bk.sub_rises hes) q hq).mono λ v U' ⟨h1,h2⟩=>⟨h1,h2 ▸ hle⟩
    obtain⟨_,rfl,-⟩:=hv
    conv=>whnf
    rintro U' ⟨-,hle⟩;exact⟨rfl,⟨rfl,rfl,rfl,rfl,rfl,rfl,trivial⟩,hle⟩
   rintro f' ds' U6 ⟨rfl,hfr,hle⟩;rw [<- hfr.ovr];clear hfr
   conv=>whnf
   intro a' hf';refine⟨by rw [hf'.size,hfr0.size],_,hf'.get,?_⟩;rw [hf'.ds];clear hf' hfr0;refine⟨rfl,?_⟩;rw [hne];refine⟨hink,?_⟩
   conv=>whnf
   exact⟨rfl,k+1,⟨rfl,rfl,rfl,rfl,trivial⟩,⟨h_5.trans hle,by omega⟩,by show _-_<_-_;omega⟩
  refine⟨Zii.any,(fin _ h15.lg).go λ _=>?_⟩
  repeat refine⟨rfl,?_⟩
  conv=>whnf
  exact h15.lg
end Go.Proofs
