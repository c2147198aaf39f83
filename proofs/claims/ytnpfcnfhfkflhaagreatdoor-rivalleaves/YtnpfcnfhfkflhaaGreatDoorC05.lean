/- Lemmas of the proof. No conditions of their own. -/
import Derived.Test.YtnpfcnfhfkflhaaGreatDoorC03
import Derived.Test.YtnpfcnfhfkflhaaGreatDoorC01
import Derived.Test.YtnpfcnfhfkflhaaGreatDoorC04
set_option linter.all false
set_option maxRecDepth 100000
namespace Go.TM
variable {T:Type} {U U':Qa T}
def Bk.woF (b:Bk) (l:List Int):Int:=if b.flaw Qu=0 then J1 b.nc none l else b.flaw Qu
theorem Zq.zero:Zq U BH.zero ⟨[],[]⟩:=⟨⟨rfl,λ i x h=>by simp at h⟩,⟨rfl,λ i x h=>by simp at h⟩,by show 0<_;decide,by show 0<_;decide,by simp,by simp⟩
theorem Zoh {b:Nat} {c:Array Value} {e:TypeId} {vs:List Value} {M₀:List Qx} {Q:Qa T->Prop} (hs:Sep U) (hM:U.M=.obj b (.cells c e (0,0))::M₀) (hsz:c.size=vs.length) (h1:∀v∈vs,v.single=true)
  (h:∀U1:Qa T,(∀x o,U.I x=some o->U1.I x=some o)->U1.tok=U.tok->U1.M=M₀->Zi U1 b vs.toArray->Q U1):StV ⟨b,0,none⟩ vs 0 (λ U''=>∃U1,Qw U'' U1/\Q U1) U:=by
 refine Qqh [] vs 0 c U hM h1 (by omega) ?_;rw [Qh7 hsz];refine⟨_,We (b:=b) (M':=M₀) (List.Perm.refl _),h _ (λ x o i=>?_) rfl rfl Zi.new⟩;show Qf8 U.I b _ x=_;unfold Qf8;rw [if_neg]
 ·exact i
 ·rintro rfl;have hn:=hs (.obj x (.cells c e (0,0))) (by rw [hM];exact List.mem_cons_self ..);rw [show U.I x=none from hn] at i;cases i
end Go.TM
namespace Go.Proofs
open Go.TM
section
variable {T:Type} {S:TM.Sys Tryz.prog T} {U:Qa T}
attribute [local irreducible] Qb Zl Wt
theorem Qvv (a a':Option Addr) (len cap cap':Nat) (l:List ByteArray) (hl:Q5 U a len 1 l λ s vs=>vs=[.string s]) (hl':Q5 U a' len 1 l λ s vs=>vs=[.string s]) (hlen:len<2 ^ 60) :
  Qb S 59 #[.slice a len cap,.slice a' len cap'] (λ v U'=>v=.bool true/\U'=U) U:=by
 refine Qb.pure' (Qb.of (args:=[_,_]) Q0h Qf (by simp) ?_)
 repeat refine⟨rfl,?_⟩
 conv=>whnf
 apply Qe<;>intro hc
 ·exact absurd hc (by simp)
 refine⟨Nat,λ i=>[(0,.slice a len cap),(1,.slice a' len cap'),(5,.int .i64 i)],λ i U'=>U.le U'/\i<=len,λ i=>len-i,0,⟨rfl,rfl,rfl,trivial⟩,⟨.refl _,by omega⟩,?_⟩;rintro i f U1 ⟨hle,hi⟩;have hin:Zu ((i:Int)+1):=by unfold Zu;omega
 repeat refine⟨rfl,?_⟩
 conv=>whnf
 apply Qe<;>intro hc
 ·have hlt:i<len:=by simpa using hc
  obtain⟨ad,x,vs,hx,hea,-,rfl,-,hs⟩:=hl.at hlt;obtain⟨ad',x',vs',hx',hea',-,rfl,-,hs'⟩:=hl'.at hlt;obtain rfl:x=x':=Option.some.inj (hx.symm.trans hx');refine⟨ad,i,⟨hea,rfl,hlt⟩,?_⟩;refine⟨_,(hs.lg hle.lg) 0 _ rfl,?_⟩;refine⟨ad',i,⟨hea',rfl,hlt⟩,?_⟩;refine⟨_,(hs'.lg hle.lg) 0 _ rfl,?_⟩
  conv=>whnf
  intro U2 h_2 _
  repeat refine⟨rfl,?_⟩
  conv=>whnf
  apply Qe<;>intro hc
  ·exact absurd hc (by simp)
  refine⟨hin,?_⟩
  conv=>whnf
  exact⟨rfl,i+1,⟨rfl,rfl,rfl,trivial⟩,⟨hle.trans h_2,by omega⟩,by show _-_<_-_;omega⟩
 repeat refine⟨rfl,?_⟩
 conv=>whnf
 exact hle.lg
theorem Qaq (h:BH) (b:Bk) (hb:Zq U.frz h b) (hk:Chk U) (a:Option Addr) (len cap:Nat) (l:List Int) (hl:Z5 U.frz a len l) (hlen:len<2 ^ 60) :
  Qb S 41 #[h.v,.slice a len cap] (λ v U'=>(∃h':BH,v=.tuple #[h'.v,.int .i64 (b.woF l)]/\Zq U'.frz h' (if b.woF l=0 then b.wo (Qli l).testBit else ⟨[],[]⟩)/\h'.rl<=h'.rc)/\U.le U') U:=by
 refine Qb.grown (R:=λ v U'=>∃h':BH,v=.tuple #[h'.v,.int .i64 (b.woF l)]/\Zq U' h' (if b.woF l=0 then b.wo (Qli l).testBit else ⟨[],[]⟩)/\h'.rl<=h'.rc) (λ v U1 U2 hl ⟨h',e,h1,h2⟩=>⟨h',e,h1.lg hl,h2⟩) (Qb.of (args:=[_,_]) Qek Qf (by simp) ?_);have hcl:=hb.cs.1;have hcl':=hb.cl;have hnc:b.nc=(h.cl:Int):=by unfold Bk.nc;rw [hcl]
 repeat refine⟨rfl,?_⟩
 conv=>whnf
 intro B U1 h_1 hB;have hB:Zi U1 B #[.slice h.ra h.rl h.rc,.slice h.ca h.cl h.cc]:=hB
 conv=>whnf
 intro b4 hf4;refine⟨_,.refl _,?_⟩;have hlp:=Z4 (U:=U1) b4 (.cells #[.slice none 0 0,.slice none 0 0] 25);have hBp:=hB.lg hlp;have hl1:=(hl.lg h_1.lg.frz2).lg Qp;refine⟨_,⟨rfl,hBp.reads (λ k v hv=>by simpa using hv)⟩,?_⟩;refine⟨Qju.any,(Qaz h b (((hb.lg h_1.lg.frz2).lg Qp).lg hlp) ((hk.lg h_1.lg).lg hlp)).go λ _=>?_⟩
 repeat refine⟨rfl,?_⟩
 conv=>whnf
 apply Qe<;>intro hc
 ·have hf:b.flaw Qu≠0:=by simpa using hc
  have hF:b.woF l=b.flaw Qu:=by unfold Bk.woF;rw [if_neg hf]
  rw [hF,if_neg hf];refine⟨rfl,Zt (vs:=[.slice none 0 0,.slice none 0 0]) hf4 rfl (by simp [Value.single]) λ U2 h_2 hb4=>?_⟩;refine⟨_,⟨rfl,hb4.reads (λ k v hv=>by simpa using hv)⟩,?_⟩
  conv=>whnf
  exact⟨⟨BH.zero,rfl,.zero,Nat.le_refl _⟩,(h_1.trans h_2).lg⟩
 have hf:b.flaw Qu=0:=by simpa using hc
 have hok:=Bk.ok_of hf;have hn5:=hok.nc;have hF:b.woF l=J1 (h.cl:Int) none l:=by unfold Bk.woF;rw [if_pos hf,hnc]
 rw [hF];refine⟨_,hBp.sees3 (o:=1) rfl,?_⟩;refine⟨Qrh.any,(Qir a len cap l (hl1.lg hlp) hlen h.cl hcl').go λ _=>?_⟩
 repeat refine⟨rfl,?_⟩
 conv=>whnf
 apply Qe<;>intro hc
 ·have hr:J1 (h.cl:Int) none l≠0:=by simpa using hc
  rw [if_neg hr];refine⟨rfl,Zt (vs:=[.slice none 0 0,.slice none 0 0]) hf4 rfl (by simp [Value.single]) λ U2 h_2 hb4=>?_⟩;refine⟨_,⟨rfl,hb4.reads (λ k v hv=>by simpa using hv)⟩,?_⟩
  conv=>whnf
  exact⟨⟨BH.zero,rfl,.zero,Nat.le_refl _⟩,(h_1.trans h_2).lg⟩
 have hr:J1 (h.cl:Int) none l=0:=by simpa using hc
 have hin:=Qqf hr;have h60:∀n∈l,0<=n/\n<60:=λ n hn=>by have:=hin n hn;omega
 rw [hr,if_pos rfl];have ho:Qli l<2 ^ 60:=Qb0 (toNat_lt h60);refine⟨_,⟨rfl,hBp.reads (λ k v hv=>by simpa using hv)⟩,?_⟩;refine⟨.int .i64 (Qli l:Nat),λ U' hle _=>?_,?_⟩
 ·refine⟨Qa0.any,(Ja a len cap l ((hl1.lg hlp).lg hle.lg) hlen h60).mono ?_⟩;rintro _ U'' ⟨rfl,hU'⟩ -;obtain rfl:=hU'.symm;exact⟨rfl,_,.refl _,.refl _⟩
 have hh:Hlr U1 b4 25 #[.slice none 0 0,.slice none 0 0] (U1.put b4 (.cells #[.slice none 0 0,.slice none 0 0] 25)):=.made (.refl _) hf4
 conv=>whnf
 intro U2 h_2 _;have hh:=hh.le h_2;refine⟨Qrg.any,(Qf2 h b ((hb.lg h_1.lg.frz2).lg hh.frz2) hok (Qli l) ho).mono ?_⟩;rintro _ U3 ⟨⟨h',rfl,hbo,hroom⟩,h_3⟩ hs_3;have hh:=hh.le h_3;refine⟨rfl,Zoh (vs:=[.slice h'.ra h'.rl h'.rc,.slice h'.ca h'.cl h'.cc]) hs_3 hh.own rfl (by simp [Value.single]) λ U4 hI4 ht4 hM4 hb4=>?_⟩;refine⟨_,⟨rfl,hb4.reads (λ k v hv=>by simpa using hv)⟩,?_⟩
 conv=>whnf
 exact⟨⟨h',rfl,hbo.lg ⟨hI4,⟨[],rfl⟩,ht4⟩,hroom⟩,⟨λ x u hx=>hI4 x u (hh.imm x u (h_1.imm x u hx)),⟨[],by rw [hM4,h_1.own];rfl⟩,ht4.trans (hh.tok.trans h_1.tok)⟩⟩
end
end Go.Proofs
namespace Go.TM
variable {T:Type} {U U':Qa T}
def Qdg (bits i:Nat):Bool:=(IntKind.wrap .u8 ((BitVec.ofInt (IntKind.bits .u8) (((bits:Nat):Int).fdiv (2 ^ (min ((i:Nat):Int).toNat (IntKind.bits .u8)))) &&& BitVec.ofInt (IntKind.bits .u8) 1).toNat:Nat)) == 1
def Bk.partTo (bits i:Nat):List Int:=((List.range i).filter (Qdg bits)).map λ (k:Nat)=>(k:Int)
theorem Bk.partTo_succ (bits i:Nat):Bk.partTo bits (i+1)=Bk.partTo bits i++(if Qdg bits i then [(i:Int)] else []):=by
 unfold Bk.partTo;rw [List.range_succ,List.filter_append,List.map_append];congr 1;cases h:Qdg bits i
 ·rw [List.filter_cons,h];rfl
 ·rw [List.filter_cons,h];rfl
theorem Bk.partTo_sub (b:Bk) (bits:Nat):(Bk.partTo bits b.cs.length).Sublist b.every:=List.filter_sublist.map _
theorem Bk.sub_rises {b:Bk} {y:List Int} (h:y.Sublist b.every):J1 b.nc none y=0:=by
 refine Qz6 (b.every_asc.sublist h) (λ x hx=>?_) (by simp);obtain⟨k,hk,rfl⟩:=List.mem_map.1 (h.subset hx);rw [List.mem_range] at hk;unfold Bk.nc;omega
theorem Bk.sub_len {b:Bk} {y:List Int} (h:y.Sublist b.every):y.length<=b.cs.length:=by have:=h.length_le;rwa [b.every_len] at this
end Go.TM
namespace Go.Proofs
open Go.TM
section
variable {T:Type} {S:TM.Sys Tryz.prog T} {U:Qa T}
attribute [local irreducible] Qb Zl Wt
theorem Q4w {f:FuncId} {args:Array Value} {e:Nat} {l:List Int} (h:Qb S f args (λ v U'=>Acc e 1 v (l.map λ n=>.int .i64 n) U'.M U.M/\(∀x ox,U.I x=some ox->U'.I x=some ox)/\U'.tok=U.tok) U) :
  Qb S f args (λ v U'=>IntsR U'.frz v l/\U.le U') U:=by
 refine h.sep λ v U' hs ⟨ha,hI,ht⟩=>?_;obtain⟨U'',k1,k2,a,len,cap,rfl,hl,hsrc,hsp,_⟩:=ha.freeze hs hI ht;have hr:=ha.room;simp at hl;exact⟨U'',k1,⟨a,cap,by rw [hl],Qlc hsrc hsp,by omega⟩,k2⟩
theorem Qvo (h:BH) (b:Bk) (hb:Zq U.frz h b) (hnc:b.cs.length<=5) (bits:Nat) :
  Qb S 47 #[h.v,.int .u8 (bits:Int)] (λ v U'=>IntsR U'.frz v (Bk.partTo bits b.cs.length)/\U.le U') U:=by
 refine Q4w (e:=3) (Qb.of (args:=[_,_]) Qzk Qf (by simp) ?_);have hcl:=hb.cs.1
 repeat refine⟨rfl,?_⟩
 conv=>whnf
 intro B U1 h_1 hB;have hB:Zi U1 B #[.slice h.ra h.rl h.rc,.slice h.ca h.cl h.cc]:=hB;refine⟨Nat×Value,λ y=>[(1,.int .u8 bits),(2,.pointer (some ⟨B,0,none⟩)),(5,y.2),(6,.int .i64 y.1)],λ y U'=>U1.frz.lg U'/\y.1<=h.cl/\Acc 3 1 y.2 ((Bk.partTo bits y.1).map λ n=>.int .i64 n) U'.M U.M,λ y=>h.cl-y.1,(0,.slice none 0 0),⟨rfl,rfl,rfl,rfl,trivial⟩,⟨Qp,by omega,by rw [h_1.own];exact .nil⟩,?_⟩;rintro⟨i,v⟩ f U2 ⟨hl2,hi,hacc⟩;simp only at hi hacc;obtain⟨sa,sl,sc,rfl,hsl,-⟩:=hacc.src;have hin:Zu ((i:Int)+1):=by unfold Zu;omega
 have hsucc:=Bk.partTo_succ bits i;have hlen:(Bk.partTo bits i).length<=i:=by unfold Bk.partTo;rw [List.length_map];exact Nat.le_trans (List.length_filter_le _ _) (by simp)
 have hB_2:=hB.imI hl2.imm;refine⟨_,hB_2.sees3 (o:=1) rfl,?_⟩
 repeat refine⟨rfl,?_⟩
 conv=>whnf
 apply Qe<;>intro hc
 ·have hlt:i<h.cl:=by simpa using hc
  refine⟨Int.natCast_nonneg i,?_⟩
  repeat refine⟨rfl,?_⟩
  conv=>whnf
  apply Qe<;>intro hc
  ·have hp:Qdg bits i=true:=hc;rw [hp,if_pos rfl] at hsucc
   conv=>whnf
   intro bn hbn;refine Zk hbn λ U3 h_3 hbn=>?_;have hbn:Zi U3 bn #[.int .i64 i]:=hbn;have hl_3:=hl2.trans h_3.lg
   conv=>whnf
   refine Ws (v:=.slice sa sl sc) (cs:=(Bk.partTo bits i).map λ n=>.int .i64 n) (new:=[.int .i64 (i:Int)]) (M₀:=U.M) Qat rfl rfl (by rw [h_3.own];exact hacc) (.inr ⟨_,rfl,hbn.reads (λ k v hv=>by simpa using hv)⟩) rfl (by simp [Value.single]) (by simp;omega) λ v' M' ha' _=>?_;obtain⟨ta,tl,tc,rfl,-,-⟩:=Acc.src (U:={ U3 with M:=M' }) ha';refine⟨hin,?_⟩
   conv=>whnf
   exact⟨rfl,(i+1,.slice ta tl tc),⟨rfl,rfl,rfl,rfl,trivial⟩,⟨⟨hl_3.imm,⟨_,(List.append_nil _).symm⟩,hl_3.tok⟩,by show i+1<=h.cl;omega,by show Acc 3 1 _ ((Bk.partTo bits (i+1)).map _) _ _;rw [hsucc,List.map_append];exact ha'⟩,by show _-_<_-_;omega⟩
  ·have hp:Qdg bits i=false:=hc;rw [hp,if_neg (by simp),List.append_nil] at hsucc;refine⟨hin,?_⟩
   conv=>whnf
   exact⟨rfl,(i+1,.slice sa sl sc),⟨rfl,rfl,rfl,rfl,trivial⟩,⟨hl2,by show i+1<=h.cl;omega,by show Acc 3 1 _ ((Bk.partTo bits (i+1)).map _) _ _;rw [hsucc];exact hacc⟩,by show _-_<_-_;omega⟩
 have hge:i=b.cs.length:=by simp at hc;omega
 rw [hge] at hacc
 repeat refine⟨rfl,?_⟩
 conv=>whnf
 exact⟨hacc,λ x ox hx=>hl2.imm x ox (h_1.imm x ox hx),hl2.tok.trans h_1.tok⟩
end
def Qga:List (List (Nat×St)):=[[(0,⟨.off 1 (.tmp 2),some 31,none,none⟩),(0,⟨.ld (.tmp 31),some 32,none,none⟩),(0,⟨.mv (.tmp 5),some 33,none,none⟩),(0,⟨.idx 4 (.tmp 32) (.tmp 33),some 34,none,none⟩),(0,⟨.ldn 4 (.tmp 34),some 35,none,none⟩),(0,⟨.off 1 (.tmp 3),some 36,none,none⟩),(0,⟨.ld (.tmp 36),some 37,none,none⟩),(0,⟨.mv (.tmp 5),some 38,none,none⟩),(0,⟨.idx 4 (.tmp 37) (.tmp 38),some 39,none,none⟩),(0,⟨.ldn 4 (.tmp 39),some 40,none,none⟩),(2,⟨.alloc 49 #[(.string ⟨#[]⟩),(.int .i64 0),(.slice none 0 0),(.slice none 0 0)],some 6,none,none⟩),(2,⟨.alloc 49 #[(.string ⟨#[]⟩),(.int .i64 0),(.slice none 0 0),(.slice none 0 0)],some 7,none,none⟩),(2,⟨.st 4 (.tmp 6) (.tmp 35),none,none,none⟩)],
 [(0,⟨.off 1 (.tmp 2),some 31,none,none⟩),(0,⟨.ld (.tmp 31),some 32,none,none⟩),(0,⟨.mv (.tmp 5),some 33,none,none⟩),(0,⟨.idx 4 (.tmp 32) (.tmp 33),some 34,none,none⟩),(0,⟨.ldn 4 (.tmp 34),some 35,none,none⟩),(0,⟨.off 1 (.tmp 3),some 36,none,none⟩),(0,⟨.ld (.tmp 36),some 37,none,none⟩),(0,⟨.mv (.tmp 5),some 38,none,none⟩),(0,⟨.idx 4 (.tmp 37) (.tmp 38),some 39,none,none⟩),(0,⟨.ldn 4 (.tmp 39),some 40,none,none⟩),(2,⟨.alloc 49 #[(.string ⟨#[]⟩),(.int .i64 0),(.slice none 0 0),(.slice none 0 0)],some 7,none,none⟩),(2,⟨.alloc 49 #[(.string ⟨#[]⟩),(.int .i64 0),(.slice none 0 0),(.slice none 0 0)],some 6,none,none⟩),(2,⟨.st 4 (.tmp 6) (.tmp 35),none,none,none⟩)]]
def Q0k:List St:=[⟨.st 4 (.tmp 7) (.tmp 40),none,none,none⟩]
variable {T:Type} {S:TM.Sys Tryz.prog T} {U:Qa T}
attribute [local irreducible] Qb Zl Wt
set_option maxHeartbeats 1000000 in
theorem Qcf (h h':BH) (b:Bk) (hb:Zq U.frz h b) (hb':Zq U.frz h' b):Qb S 43 #[h.v,h'.v] (λ v U'=>v=.bool true/\U'=U) U:=by
 refine Qb.pure' (Qb.of (args:=[_,_]) Qpj Qf (by simp) ?_)
 let zr0:Array Value:=#[.string ⟨#[]⟩,.int .i64 0,.slice none 0 0,.slice none 0 0]
 have hcl:=hb.cs.1;have hrl:=hb.rs.1;have hcl':b.cs.length=h'.cl:=hb'.cs.1;have hrl':b.rs.length=h'.rl:=hb'.rs.1;have e1:h'.rl=h.rl:=by omega
 have e2:h'.cl=h.cl:=by omega
 repeat refine⟨rfl,?_⟩
 conv=>whnf
 intro b2 U1 h_1 hB2;have hB2:Zi U1 b2 #[.slice h.ra h.rl h.rc,.slice h.ca h.cl h.cc]:=hB2
 conv=>whnf
 intro b3 U2 h_2 hB3;have hB3:Zi U2 b3 #[.slice h'.ra h'.rl h'.rc,.slice h'.ca h'.cl h'.cc]:=hB3;have hB2:=hB2.le h_2;have h12:=h_1.trans h_2;have hb:=hb.lg h12.lg.frz2;have hb':=hb'.lg h12.lg.frz2;rw [e1,e2] at hB3
 repeat refine⟨rfl,?_⟩
 refine⟨_,hB2.sees3 (o:=0) rfl,?_⟩;refine⟨_,hB3.sees3 (o:=0) rfl,?_⟩;refine⟨Q0h.any,(Qvv h.ra h'.ra h.rl h.rc h'.rc b.rs (hb.rs.lg Qp λ _ _ h=>h) ((show Q5 U2.frz h'.ra h.rl 1 b.rs _ from e1 ▸ hb'.rs).lg Qp λ _ _ h=>h) hb.rl).go λ _=>?_⟩;refine⟨_,hB2.sees3 (o:=1) rfl,?_⟩;refine⟨_,hB3.sees3 (o:=1) rfl,?_⟩
 repeat refine⟨rfl,?_⟩
 conv=>whnf
 apply Qe<;>intro hc
 ·exact absurd hc (by simp)
 refine⟨Nat,λ i=>[(2,.pointer (some ⟨b2,0,none⟩)),(3,.pointer (some ⟨b3,0,none⟩)),(5,.int .i64 i)],λ i U'=>U2.le U'/\i<=h.cl,λ i=>h.cl-i,0,⟨rfl,rfl,rfl,trivial⟩,⟨.refl _,by omega⟩,?_⟩;rintro i f U4 ⟨h_4,hi⟩;have hcl60:=hb.cl;have hin:Zu ((i:Int)+1):=by unfold Zu;omega
 have hB2:=hB2.le h_4;have hB3:=hB3.le h_4;have hb:=hb.lg h_4.lg.frz2;have hb':=hb'.lg h_4.lg.frz2;have h14:=h12.trans h_4;refine⟨_,hB2.sees3 (o:=1) rfl,?_⟩
 repeat refine⟨rfl,?_⟩
 conv=>whnf
 apply Qe<;>intro hc
 ·have hlt:i<h.cl:=by simpa using hc
  have hlt':i<h.cl:=hlt;obtain⟨ad,c,ga,gl,gc,aa,al,ac,hx,hea,hsp,hrd,hg,hgl,ha,hal,hmem⟩:=hb.case hlt;obtain⟨ad',c',ga',gl',gc',aa',al',ac',hx',hea',hsp',hrd',hg',hgl',ha',hal',hmem'⟩:=hb'.case (show i<h'.cl by omega);obtain rfl:c=c':=Option.some.inj (hx.symm.trans hx');have hg1:=hg.1;have hg1':=hg'.1
  conv=>whnf
  intro ac0 hfr0
  refine Qt2 (mu:=[]) (ops:=Q4g Tryz.f43 6) (id:=6) hfr0 [10,11,12] [[0,1,2,3,4,5,6,7,8,9,10,11,12],[0,1,2,3,4,5,6,7,8,9,11,10,12]] [13] Qga Q0k Qf (by kernel_rfl) (by kernel_rfl) (by kernel_rfl) (by kernel_rfl) (by kernel_rfl)
   (λ f' ds' U'=>ds'=[]/\∃b7 b8,Qig f' [(2,.pointer (some ⟨b2,0,none⟩)),(3,.pointer (some ⟨b3,0,none⟩)),(5,.int .i64 i),(6,.pointer (some ⟨b7,0,none⟩)),(7,.pointer (some ⟨b8,0,none⟩)),(40,.agg #[.string c.nm,.int .i64 c.ag,.slice ga' gl' gc',.slice aa' al' ac'])]/\Tw3 U4 49 zr0 [.string c.nm,.int .i64 c.ag,.slice ga gl gc,.slice aa al ac] b7 b8 U') ?_ ?_
  ·intro l hl;simp only [Qga,List.mem_cons,List.not_mem_nil,or_false] at hl;rcases hl with rfl | rfl
   ·refine⟨_,hB2.sees3F (o:=1) rfl,?_⟩;refine⟨ad,i,⟨hea,rfl,hlt⟩,?_⟩;refine⟨_,⟨rfl,hrd⟩,?_⟩;refine⟨_,hB3.sees3F (o:=1) rfl,?_⟩;refine⟨ad',i,⟨hea',rfl,hlt'⟩,?_⟩;refine⟨_,⟨rfl,hrd'⟩,?_⟩;refine⟨λ v U'=>∃p,v=.pointer (some ⟨p,0,none⟩)/\Tw1 U4 49 zr0 p U',λ v x1 x2 ⟨p,e,hh⟩ hle=>⟨p,e,hh.le hle⟩,λ v U' ⟨p,e,hh⟩=>hh.2.frz1,λ U' hC=>?_,λ v hv=>?_⟩
    ·conv=>whnf
     intro p hp;exact⟨_,.refl _,_,.refl _,p,rfl,.made hC hp⟩
    obtain⟨_,b7,rfl,-⟩:=hv;refine⟨λ v U'=>∃p,v=.pointer (some ⟨p,0,none⟩)/\Tw2 U4 49 zr0 b7 p U',λ v x1 x2 ⟨p,e,hh⟩ hle=>⟨p,e,hh.le hle⟩,λ v U' ⟨p,e,hh⟩=>hh.frz,λ U' hC=>?_,λ v hv=>?_⟩
    ·obtain⟨p',e,hh⟩:=hC;obtain rfl:b7=p':=by simpa using e
     conv=>whnf
     intro p hp;obtain⟨x1,k1,k2⟩:=hh.made1 hp;exact⟨x1,k1,_,.refl _,p,rfl,k2⟩
    obtain⟨_,b8,rfl,-⟩:=hv;refine⟨λ v U'=>Tw3 U4 49 zr0 [.string c.nm,.int .i64 c.ag,.slice ga gl gc,.slice aa al ac] b7 b8 U',λ v x1 x2 hh hle=>hh.le hle,λ v U' hh=>hh.frz,λ U' hC=>?_,λ v hv=>?_⟩
    ·obtain⟨p',e,hh⟩:=hC;obtain rfl:b8=p':=by simpa using e
     conv=>whnf
     exact⟨rfl,StV.mono (λ _ ⟨x1,k1,k2⟩=>⟨x1,k1,x1,.refl _,k2⟩) _ _ _ (hh.write (vs:=[.string c.nm,.int .i64 c.ag,.slice ga gl gc,.slice aa al ac]) rfl (by simp [Value.single]))⟩
    clear hv
    conv=>whnf
    intro U' hh;exact⟨rfl,b7,b8,⟨rfl,rfl,rfl,rfl,rfl,rfl,trivial⟩,hh⟩
   ·refine⟨_,hB2.sees3F (o:=1) rfl,?_⟩;refine⟨ad,i,⟨hea,rfl,hlt⟩,?_⟩;refine⟨_,⟨rfl,hrd⟩,?_⟩;refine⟨_,hB3.sees3F (o:=1) rfl,?_⟩;refine⟨ad',i,⟨hea',rfl,hlt'⟩,?_⟩;refine⟨_,⟨rfl,hrd'⟩,?_⟩;refine⟨λ v U'=>∃p,v=.pointer (some ⟨p,0,none⟩)/\Tw1 U4 49 zr0 p U',λ v x1 x2 ⟨p,e,hh⟩ hle=>⟨p,e,hh.le hle⟩,λ v U' ⟨p,e,hh⟩=>hh.2.frz1,λ U' hC=>?_,λ v hv=>?_⟩
    ·conv=>whnf
     intro p hp;exact⟨_,.refl _,_,.refl _,p,rfl,.made hC hp⟩
    obtain⟨_,b8,rfl,-⟩:=hv;refine⟨λ v U'=>∃p,v=.pointer (some ⟨p,0,none⟩)/\Tw2 U4 49 zr0 p b8 U',λ v x1 x2 ⟨p,e,hh⟩ hle=>⟨p,e,hh.le hle⟩,λ v U' ⟨p,e,hh⟩=>hh.frz,λ U' hC=>?_,λ v hv=>?_⟩
    ·obtain⟨p',e,hh⟩:=hC;obtain rfl:b8=p':=by simpa using e
     conv=>whnf
     intro p hp;obtain⟨x1,k1,k2⟩:=hh.made2 hp;exact⟨x1,k1,_,.refl _,p,rfl,k2⟩
    obtain⟨_,b7,rfl,-⟩:=hv;refine⟨λ v U'=>Tw3 U4 49 zr0 [.string c.nm,.int .i64 c.ag,.slice ga gl gc,.slice aa al ac] b7 b8 U',λ v x1 x2 hh hle=>hh.le hle,λ v U' hh=>hh.frz,λ U' hC=>?_,λ v hv=>?_⟩
    ·obtain⟨p',e,hh⟩:=hC;obtain rfl:b7=p':=by simpa using e
     conv=>whnf
     exact⟨rfl,StV.mono (λ _ ⟨x1,k1,k2⟩=>⟨x1,k1,x1,.refl _,k2⟩) _ _ _ (hh.write (vs:=[.string c.nm,.int .i64 c.ag,.slice ga gl gc,.slice aa al ac]) rfl (by simp [Value.single]))⟩
    clear hv
    conv=>whnf
    intro U' hh;exact⟨rfl,b7,b8,⟨rfl,rfl,rfl,rfl,rfl,rfl,trivial⟩,hh⟩
  rintro f' ds' U5 ⟨rfl,b7,b8,hfr,hh⟩;rw [<- hfr.ovr];clear hfr;refine⟨rfl,hh.write (ws:=[.string c.nm,.int .i64 c.ag,.slice ga' gl' gc',.slice aa' al' ac']) rfl (by simp [Value.single]) λ U6 h_6 hb7 hb8=>?_⟩;have hb7:Zi U6 b7 #[.string c.nm,.int .i64 c.ag,.slice ga gl gc,.slice aa al ac]:=hb7;have hb8:Zi U6 b8 #[.string c.nm,.int .i64 c.ag,.slice ga' gl' gc',.slice aa' al' ac']:=hb8;have h46:=h_4.trans h_6;have hz:=h_6.lg.frz2
  conv=>whnf
  intro a' hf';refine⟨by rw [hf'.size,hfr0.size],_,hf'.get,?_⟩;rw [hf'.ds];clear hf' hfr0 hh;refine⟨_,hb7.sees3 (o:=0) rfl,?_⟩;refine⟨_,hb8.sees3 (o:=0) rfl,?_⟩
  repeat refine⟨rfl,?_⟩
  conv=>whnf
  apply Zr<;>intro hc
  rotate_left
  ·exact absurd hc (by simp)
  refine⟨_,hb7.sees3 (o:=1) rfl,?_⟩;refine⟨_,hb8.sees3 (o:=1) rfl,?_⟩
  repeat refine⟨rfl,?_⟩
  conv=>whnf
  apply Zr<;>intro hc
  rotate_left
  ·exact absurd hc (by simp)
  refine⟨_,hb7.sees3 (o:=3) rfl,?_⟩;refine⟨_,hb8.sees3 (o:=3) rfl,?_⟩;refine⟨Qer.any,(Qa1 aa aa' al ac al' ac' _ _ ((ha.lg hz).lg Qp) ((ha'.lg hz).lg Qp) hal).go λ _=>?_⟩;rw [decide_eq_true rfl];refine⟨_,hb7.sees3 (o:=2) rfl,?_⟩;refine⟨_,hb8.sees3 (o:=2) rfl,?_⟩
  repeat refine⟨rfl,?_⟩
  conv=>whnf
  apply Qe<;>intro hc
  ·exfalso;simp at hc;omega
  refine⟨Nat,λ k=>[(2,.pointer (some ⟨b2,0,none⟩)),(3,.pointer (some ⟨b3,0,none⟩)),(5,.int .i64 i),(6,.pointer (some ⟨b7,0,none⟩)),(7,.pointer (some ⟨b8,0,none⟩)),(8,.int .i64 k)],λ k U'=>U6.le U'/\k<=gl,λ k=>gl-k,0,⟨rfl,rfl,rfl,rfl,rfl,rfl,trivial⟩,⟨.refl _,by omega⟩,?_⟩;rintro k f U7 ⟨h_7,hk'⟩;have hink:Zu ((k:Int)+1):=by unfold Zu;omega
  have hb7:=hb7.le h_7;have hb8:=hb8.le h_7;have hg7:=(hg.lg (hz.trans h_7.lg.frz2)).lg Qp;have hg8:=(hg'.lg (hz.trans h_7.lg.frz2)).lg Qp;refine⟨_,hb7.sees3 (o:=2) rfl,?_⟩
  repeat refine⟨rfl,?_⟩
  conv=>whnf
  apply Qe<;>intro hc
  ·have hltk:k<gl:=by simpa using hc
   have hltk':k<gl':=by omega
   obtain⟨ad2,g2,ga2,gl2,gc2,hxg,hea2,hsp2,hs2,hi2,hgl2,hgm⟩:=hg7.at hltk;obtain⟨ad3,g3,ga3,gl3,gc3,hxg3,hea3,hsp3,hs3,hi3,hgl3,hgm3⟩:=hg8.at hltk';obtain rfl:g2=g3:=Option.some.inj (hxg.symm.trans hxg3);refine⟨_,hb7.sees3 (o:=2) rfl,?_⟩;refine⟨ad2,k,⟨hea2,rfl,hltk⟩,?_⟩;refine⟨_,hs2,?_⟩;refine⟨_,hb8.sees3 (o:=2) rfl,?_⟩;refine⟨ad3,k,⟨hea3,rfl,hltk'⟩,?_⟩;refine⟨_,hs3,?_⟩
   conv=>whnf
   intro U8 h8 _;refine⟨Qer.any,(Qa1 ga2 ga3 gl2 gc2 gl3 gc3 g2 g2 (hi2.lg h8.lg) (hi3.lg h8.lg) hgl2).go λ _=>?_⟩;rw [decide_eq_true rfl];refine⟨hink,?_⟩
   conv=>whnf
   exact⟨rfl,k+1,⟨rfl,rfl,rfl,rfl,rfl,rfl,trivial⟩,⟨h_7.trans h8,by omega⟩,by show _-_<_-_;omega⟩
  refine⟨hin,?_⟩
  conv=>whnf
  exact⟨rfl,i+1,⟨rfl,rfl,rfl,trivial⟩,⟨(h46).trans h_7,by omega⟩,by show _-_<_-_;omega⟩
 repeat refine⟨rfl,?_⟩
 conv=>whnf
 exact h14.lg
end Go.Proofs
