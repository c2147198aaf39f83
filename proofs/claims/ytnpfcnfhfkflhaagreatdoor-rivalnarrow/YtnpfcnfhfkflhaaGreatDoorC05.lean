/- Lemmas of the proof. No conditions of their own. -/
import Derived.Test.YtnpfcnfhfkflhaaGreatDoorC04
import Derived.Test.YtnpfcnfhfkflhaaGreatDoorC03
import Derived.Test.YtnpfcnfhfkflhaaGreatDoorC01
set_option linter.all false
set_option maxRecDepth 100000
namespace Go.TM
variable {T:Type} {P:Program} {S:Sys P T} {U U':Qa T}
theorem Qb.ok0 {f:FuncId} {args:Array Value} {R:Value->Qa T->Prop} {U:Qa T} (h:(∃w,U.ok w)->Qb S f args R U):Qb S f args R U:=by
 intro Stop m c cs k;by_cases hw:∃w,U.ok w
 ·exact h hw Stop m c cs k
 ·exact .priv ⟨rfl,λ w ok=>absurd ⟨w,ok⟩ hw⟩
theorem Qb.prS {f:FuncId} {args:Array Value} {Q:Value->Qa T->Prop} {U1:Qa T} (hs:Qw U U1) (h:Qb S f args Q U1):Qb S f args Q U:=λ Stop m c cs k=>.shift hs (h Stop m c cs k)
theorem Jw.ints {l:List Int} {a:Option Addr} {len c:Nat} {A:List Qx} (h:Jw 3 1 (.slice a len c) (l.map λ n=>.int .i64 n) A) (hA:∀r∈A,r∈U.M):Z5 U a len l:=by
 have hl:l.length=len:=by
  obtain⟨a',l',c',e,hl⟩:=h.src;cases e;simpa using hl
 refine⟨hl,λ i x hx=>?_⟩
 have hne:(l.map λ n=>Value.int .i64 n)≠[]:=by
  intro e;have:l=[]:=by simpa using e
  subst this;simp at hx
 obtain⟨b,cc,len',cap,e,-,-,-,rfl,h5⟩:=h.blk hne;cases e;refine⟨⟨b,0,none⟩,rfl,rfl,?_⟩;rw [Qo];exact⟨rfl,.inl ⟨cc,3,(0,0),.inr (hA _ (by simp)),h5 _ _ (by simp [hx])⟩⟩
end Go.TM
namespace Go.Proofs
open Go.TM
variable {T:Type} {S:TM.Sys Tryz.prog T} {U:Qa T}
attribute [local irreducible] Qb Zl Wt
def Q4w (b:Bk) (l:List (Int×Int)) (U':Qa T) (h':BH) (f:Int):Prop:=
 (f=5\/f=8)/\h'=BH.zero\/f=0/\Zq U'.frz h' (b.stys l)/\b.FrL l/\Wq (b.stys l).A=false/\h'.rl<=h'.rc
set_option maxHeartbeats 2000000 in
theorem Qek (h:BH) (b:Bk) (hb:Zq U.frz h b) (hk:Chk U) (hf:b.flaw Qu=0) (l:List (Int×Int)) (a:Option Addr) (c:Nat) (hl:Q5 U.frz a l.length 2 l (λ x vs=>vs=encII x)) (hlen:l.length<=6) (hin:∀s∈l,0<=s.1/\s.1<b.nc/\0<=s.2/\s.2<b.nc) :
  Qb S 55 #[h.v,.slice a l.length c] (λ v U'=>(∃(h':BH) (f:Int),v=.tuple #[h'.v,.int .i64 f]/\Q4w b l U' h' f)/\U.le U') U:=by
 have hok:=Bk.ok_of hf;have hnc5:=hok.nc;have hcl:=hb.cs.1;have hcl60:=hb.cl;have hnc:b.nc=(h.cl:Int):=by unfold Bk.nc;rw [hcl]
 have main:Qb S 55 #[h.v,.slice a l.length c] (λ v U'=>(∃(h':BH) (f:Int) (R:List Qx),v=.tuple #[h'.v,.int .i64 f]/\Q4w b l U' h' f/\U'.M.Perm (R++U.M))/\(∀x o,U.I x=some o->U'.I x=some o)/\U'.tok=U.tok) U:=by
  refine Qb.of (args:=[_,_]) Qdc Qf (by simp) ?_
  repeat refine⟨rfl,?_⟩
  conv=>whnf
  intro B U1 h_1 hB;have hB:Zi U1 B #[.slice h.ra h.rl h.rc,.slice h.ca h.cl h.cc]:=hB
  conv=>whnf
  intro b4 hf4;refine⟨_,.refl _,?_⟩;have hlp:=Z4 (U:=U1) b4 (.cells #[.slice none 0 0,.slice none 0 0] 25);have hBp:=hB.lg hlp;refine⟨_,⟨rfl,hBp.reads (λ k v hv=>by simpa using hv)⟩,?_⟩;refine⟨Qju.any,(Qaz h b (((hb.lg h_1.lg.frz2).lg Qp).lg hlp) ((hk.lg h_1.lg).lg hlp)).go λ _=>?_⟩;rw [hf]
  repeat refine⟨rfl,?_⟩
  refine⟨_,⟨rfl,hBp.reads (λ k v hv=>by simpa using hv)⟩,?_⟩;refine⟨Q17.any,(Q2m (S:=S) (U:=U1.put b4 (.cells #[.slice none 0 0,.slice none 0 0] 25)) h b (hb.lg (h_1.lg.frz2.trans hlp.frz2)) hok.sml).mono ?_⟩;rintro _ U2 ⟨⟨h',rfl,ho⟩,hI_2,ht_2⟩ -;have hI2:∀x o,U.I x=some o->U2.I x=some o:=λ x o hx=>hI_2 x o (h_1.imm x o hx);have ht2:U2.tok=U.tok:=ht_2.trans h_1.tok;have hB2:Zi U2 B #[.slice h.ra h.rl h.rc,.slice h.ca h.cl h.cc]:=hBp.imI hI_2
  have ho:Qay U2 h' b (.obj b4 (.cells [.slice none 0 0,.slice none 0 0].toArray 25 (0,0))::U.M):=by
   have e:(U1.put b4 (.cells #[.slice none 0 0,.slice none 0 0] 25)).M=.obj b4 (.cells [.slice none 0 0,.slice none 0 0].toArray 25 (0,0))::U.M:=by show _::U1.M=_;rw [h_1.own]
   rw [<- e];exact ho
  clear hlp hI_2 ht_2 hBp
  conv=>whnf
  intro b7 hf7;refine⟨_,.refl _,?_⟩;refine⟨rfl,Zt (vs:=[.slice h'.ra h'.rl h'.rc,.slice h'.ca h'.cl h'.cc]) hf7 rfl (by simp [Value.single]) λ U3 h_3 hb7=>?_⟩;have hb7:Zi U3 b7 #[.slice h'.ra h'.rl h'.rc,.slice h'.ca h'.cl h'.cc]:=hb7
  refine⟨Nat,λ i=>[(2,.pointer (some ⟨B,0,none⟩)),(4,.pointer (some ⟨b4,0,none⟩)),(7,.pointer (some ⟨b7,0,none⟩)),(20,.slice a l.length c),(21,.int .i64 l.length),(22,.int .i64 i)],
   λ i U'=>U3.frz.lg U'/\i<=l.length/\Qay U' h' (b.stys (l.take i)) (.obj b4 (.cells [.slice none 0 0,.slice none 0 0].toArray 25 (0,0))::U.M)/\b.FrL (l.take i),λ i=>l.length-i,0,⟨rfl,rfl,rfl,rfl,rfl,rfl,trivial⟩,⟨⟨λ _ _ h=>h,⟨_,(List.append_nil _).symm⟩,rfl⟩,by omega,ho.le h_3,trivial⟩,?_⟩
  rintro i f U4 ⟨hlg,hi,ho,hfr⟩;have hinr:Zu ((i:Int)+1):=by unfold Zu;omega
  have hI4:∀x o,U.I x=some o->U4.I x=some o:=λ x o hx=>hlg.imm x o (h_3.imm x o (hI2 x o hx));have hb7₄:Zi U4 b7 #[.slice h'.ra h'.rl h'.rc,.slice h'.ca h'.cl h'.cc]:=hb7.imI hlg.imm;have ht4:U4.tok=U.tok:=hlg.tok.trans (h_3.tok.trans ht2)
  repeat refine⟨rfl,?_⟩
  conv=>whnf
  apply Qe<;>intro hc
  ·have hlt:i<l.length:=by simpa using hc
   obtain⟨ad,x,vs,hx,rfl,hsp,rfl,-,hrd⟩:=(hl.mem hI4 λ r hr=>by cases hr).at hlt;obtain⟨hx0,hx1',hx2,hx3⟩:=hin x (List.mem_of_getElem? hx);have hxl:x.1.toNat<b.cs.length:=by unfold Bk.nc at hx1';omega
   have hbt1:btw x.1 0 ((h.cl:Int)-1)=true:=by simp [btw];omega
   have hbt2:btw x.2 0 ((h.cl:Int)-1)=true:=by simp [btw];omega
   refine⟨ad,i,⟨rfl,rfl,hlt⟩,?_⟩;refine⟨_,⟨rfl,hrd⟩,?_⟩
   conv=>whnf
   intro b9 hf9;refine⟨_,.refl _,?_⟩;refine⟨rfl,Zt (vs:=encII x) hf9 rfl (by simp [encII,Value.single]) λ U5 h_5 hb9=>?_⟩;have hb9:Zi U5 b9 #[.int .i64 x.1,.int .i64 x.2]:=hb9;have hb7₅:=hb7₄.le h_5;have hB_5:Zi U5 B #[.slice h.ra h.rl h.rc,.slice h.ca h.cl h.cc]:=hB2.imI λ x o hx=>h_5.imm x o (hlg.imm x o (h_3.imm x o hx));refine⟨_,hb9.sees3 (o:=0) rfl,?_⟩;refine⟨_,hB_5.sees3 (o:=1) rfl,?_⟩;refine⟨by unfold Zu;omega,?_⟩;refine⟨Qes.any,(Wu U5 x.1 0 ((h.cl:Int)-1)).go λ _=>?_⟩;rw [hbt1];refine⟨_,hb9.sees3 (o:=1) rfl,?_⟩;refine⟨_,hB_5.sees3 (o:=1) rfl,?_⟩;refine⟨by unfold Zu;omega,?_⟩;refine⟨Qes.any,(Wu U5 x.2 0 ((h.cl:Int)-1)).go λ _=>?_⟩;rw [hbt2];refine⟨_,hb7₅.sees3 (o:=1) rfl,?_⟩;refine⟨_,hb9.sees3 (o:=0) rfl,?_⟩;have ho5:=ho.le h_5;obtain⟨a0,l0,c0,kF,cb,cc,rest,hop⟩:=ho5.openC (q:=x.1.toNat) (by rw [Bk.stys_len];exact hxl);have hx1:((x.1.toNat:Nat):Int)=x.1:=by omega
   have hkF:∀r∈kF,r∈U5.M:=λ r hr=>hop.pm.mem_iff.2 (List.mem_append_left _ hr);have hcbm:Qx.obj cb (.cells cc.toList.toArray 49 (0,0))∈U5.M:=hop.pm.mem_iff.2 (List.mem_append_right _ (List.mem_cons_self ..));have hai:=hop.acc.ints hkF;have h10:=hai.1;refine⟨⟨cb,0,none⟩,x.1.toNat,⟨hop.ca,hx1.symm,hop.lt⟩,?_⟩;refine⟨.slice a0 l0 c0,?_,?_⟩
   ·rw [Qo,Qo];exact⟨rfl,.inl ⟨_,_,_,.inr hcbm,by have:=hop.at3;rw [Array.getElem?_toList] at this;rw [Nat.zero_add];exact this⟩⟩
   refine⟨_,hb9.sees3 (o:=1) rfl,?_⟩
   conv=>whnf
   intro U6 h_6 _;refine⟨Qq9.any,(Qeo a0 l0 c0 _ (hai.le h_6) (by have:=hop.len;omega) x.2).go λ _=>?_⟩;have ho6:=ho5.le h_6;have hb7₆:=hb7₅.le h_6;have hb9₆:=hb9.le h_6;have h46:=h_5.trans h_6
   repeat refine⟨rfl,?_⟩
   conv=>whnf
   apply Qe<;>intro hc
   ·obtain⟨X,Y,hM,-,-,hXY⟩:=ho6.pick;obtain⟨ps,A,-,-,-,hp⟩:=hXY.ex;refine⟨rfl,Wh (vs:=[.slice none 0 0,.slice none 0 0]) X hM rfl (by simp [Value.single]) λ U7 hI7 ht7 hM7=>?_⟩;refine⟨_,⟨rfl,Za X hM7⟩,?_⟩;refine⟨⟨BH.zero,5,.obj b4 (.cells [.slice none 0 0,.slice none 0 0].toArray 25 (0,0))::(A++ps.flatMap (·.2.F)),rfl,.inl ⟨.inl rfl,rfl⟩,?_⟩,λ x o hx=>by rw [hI7];exact h46.imm x o (hI4 x o hx),?_⟩
    ·rw [hM7];refine List.perm_middle.trans ?_;rw [List.cons_append,List.append_assoc];exact hp.cons _
    ·rw [ht7];exact h46.tok.trans ht4
   have hno:x.2∉((b.stys (l.take i)).cas x.1.toNat).af:=by simpa using hc
   have hfx:(b.stys (l.take i)).Fr x:=⟨hx0,by rw [Bk.stys_len];exact hxl,hx2,by unfold Bk.nc;rw [Bk.stys_len];exact hx3,hno⟩;refine⟨_,⟨rfl,hb7₆.reads (λ k v hv=>by simpa using hv)⟩,?_⟩;refine⟨_,⟨rfl,hb9₆.reads (λ k v hv=>by simpa using hv)⟩,?_⟩;have hsr:=Bk.stys_srt hok.srt (l.take i) λ s hs=>by have h0:=hin s (List.mem_of_mem_take hs);unfold Bk.nc at h0;omega
   have hmem:=Bk.cas_mem (b:=b.stys (l.take i)) (k:=x.1.toNat) (by rw [Bk.stys_len];exact hxl);have hll:=hsr.l _ hmem;have hst:=Qzb (S:=S) (U:=U6) h' (b.stys (l.take i)) _ ho6 x.1.toNat x.2 (by rw [Bk.stys_len];exact hxl) (hsr.s _ hmem) (by rw [List.length_take] at hll;omega);rw [hx1] at hst;refine⟨Qv4.any,hst.mono ?_⟩;rintro v U7 ⟨ho7,hI7,ht7⟩ -;have hlg7:U3.frz.lg U7:=⟨λ x o hx=>hI7 x o (h46.imm x o (hlg.imm x o hx)),⟨_,(List.append_nil _).symm⟩,ht7.trans (h46.tok.trans hlg.tok)⟩;refine⟨hinr,?_⟩
   conv=>whnf
   exact⟨rfl,i+1,⟨rfl,rfl,rfl,rfl,rfl,rfl,trivial⟩,⟨hlg7,by omega,by rw [Ji hx,Bk.stys_snoc];exact ho7,by rw [Ji hx];exact hfr.snoc hfx⟩,by show _-_<_-_;omega⟩
  have hge:i=l.length:=by simp at hc;omega
  rw [hge,List.take_length] at ho hfr;refine⟨_,⟨rfl,hb7₄.reads (λ k v hv=>by simpa using hv)⟩,?_⟩;refine⟨Ql2.any,(Qb.ok0 (R:=λ v U'=>v=.int .i64 (if Wq (b.stys l).A then 8 else 0)/\U'.M=.obj b4 (.cells [.slice none 0 0,.slice none 0 0].toArray 25 (0,0))::U.M/\U4.frz.lg U'.frz/\Zq U'.frz h' (b.stys l)) λ hw=>?_).mono ?_⟩
  ·obtain⟨U5,k1,k2,k3,k4⟩:=ho.freeze hw (by rw [Bk.stys_len];omega);exact .prS k1 ((Qip h' (b.stys l) (k4.lg Qp) (hfr.ok1 hok.ok1).low).mono λ v U' ⟨q1,q2⟩=>⟨q1,by rw [q2];exact k2,by rw [q2];exact k3,by rw [q2];exact k4⟩)
  rintro _ U5 ⟨rfl,hM5,hf5,hbk⟩ hs5;cases hlo:Wq (b.stys l).A with
  | true=>
   refine⟨rfl,?_⟩;refine⟨rfl,Wh (vs:=[.slice none 0 0,.slice none 0 0]) [] hM5 rfl (by simp [Value.single]) λ U6 hI6 ht6 hM6=>?_⟩;refine⟨_,⟨rfl,Za [] hM6⟩,?_⟩;refine⟨⟨BH.zero,8,[.obj b4 (.cells [.slice none 0 0,.slice none 0 0].toArray 25 (0,0))],rfl,.inl ⟨.inr rfl,rfl⟩,by rw [hM6];exact .refl _⟩,λ x o hx=>by rw [hI6];exact hf5.imm x o (hI4 x o hx),?_⟩;rw [ht6];exact hf5.tok.trans ht4
  | false=>
   repeat refine⟨rfl,?_⟩
   conv=>whnf
   have hb7₅:Zi U5 b7 #[.slice h'.ra h'.rl h'.rc,.slice h'.ca h'.cl h'.cc]:=hb7₄.imI hf5.imm;have hrd7:Jn U5 ⟨b7,0,none⟩ [.slice h'.ra h'.rl h'.rc,.slice h'.ca h'.cl h'.cc]:=hb7₅.reads (λ k v hv=>by simpa using hv);refine⟨_,⟨rfl,by rw [Qo];exact hrd7⟩,?_⟩;refine⟨rfl,Wh (vs:=[.slice h'.ra h'.rl h'.rc,.slice h'.ca h'.cl h'.cc]) [] hM5 rfl (by simp [Value.single]) λ U6 hI6 ht6 hM6=>?_⟩;refine⟨_,⟨rfl,Za [] hM6⟩,?_⟩;refine⟨⟨h',0,[.obj b4 (.cells [.slice h'.ra h'.rl h'.rc,.slice h'.ca h'.cl h'.cc].toArray 25 (0,0))],rfl,.inr ⟨rfl,hbk.lg ⟨λ x o hx=>by show U6.I x=_;rw [hI6];exact hx,⟨[],rfl⟩,ht6⟩,hfr,hlo,ho.rc⟩,by rw [hM6];exact .refl _⟩,λ x o hx=>by rw [hI6];exact hf5.imm x o (hI4 x o hx),?_⟩;rw [ht6];exact hf5.tok.trans ht4
 refine main.post λ v U' ⟨⟨h',f,R,e,hS,hp⟩,hI,ht⟩=>?_;refine⟨{ U' with M:=U.M },(W7 hp).trans (Z1 (List.sublist_append_right _ _)),⟨h',f,e,?_⟩,⟨hI,rfl,ht⟩⟩;rcases hS with hS | ⟨h1,h2,h3⟩
 ·exact .inl hS
 ·exact .inr ⟨h1,h2.lg ⟨λ _ _ h=>h,⟨[],rfl⟩,rfl⟩,h3⟩
set_option maxHeartbeats 2000000 in
theorem Qga (h:BH) (b:Bk) (hb:Zq U.frz h b) (pa:Option Addr) (pl pc:Nat) (p:List Nat) (hp:Q5 U.frz pa pl 1 p λ n vs=>vs=[.int .u16 (n:Int)]/\n<65536) :
  Qb S 57 #[h.v,.slice pa pl pc] (λ v U'=>(∃(l:List (Int×Int)) (a:Option Addr) (c:Nat),v=.slice a l.length c/\Q5 U'.frz a l.length 2 l (λ x vs=>vs=encII x)/\l.length<=4/\∀s∈l,0<=s.1/\s.1<b.nc/\0<=s.2/\s.2<b.nc)/\U.le U') U:=by
 have main:Qb S 57 #[h.v,.slice pa pl pc] (λ v U'=>∃l:List (Int×Int),Acc 84 2 v (l.flatMap encII) U'.M U.M/\(∀x o,U.I x=some o->U'.I x=some o)/\U'.tok=U.tok/\l.length<=4/\∀s∈l,0<=s.1/\s.1<b.nc/\0<=s.2/\s.2<b.nc) U:=by
  refine Qb.of (args:=[_,_]) Qdg Qf (by simp) ?_;have hcl:=hb.cs.1;have hcl60:=hb.cl;have hnc:b.nc=(h.cl:Int):=by unfold Bk.nc;rw [hcl]
  repeat refine⟨rfl,?_⟩
  conv=>whnf
  intro B U1 h_1 hB;have hB:Zi U1 B #[.slice h.ra h.rl h.rc,.slice h.ca h.cl h.cc]:=hB
  refine⟨List (Int×Int)×Value,λ y=>[(1,.slice pa pl pc),(2,.pointer (some ⟨B,0,none⟩)),(5,y.2),(6,.int .i64 y.1.length)],
   λ y U'=>U1.frz.lg U'/\y.1.length<=4/\(∀s∈y.1,0<=s.1/\s.1<b.nc/\0<=s.2/\s.2<b.nc)/\Acc 84 2 y.2 (y.1.flatMap encII) U'.M U.M,λ y=>4-y.1.length,([],.slice none 0 0),⟨rfl,rfl,rfl,rfl,trivial⟩,⟨Qp,by simp,by simp,by rw [h_1.own];exact .nil⟩,?_⟩
  rintro⟨l,v⟩ f U2 ⟨hl2,hll,hin,hacc⟩;simp only at hll hin hacc;obtain⟨sa,sl,sc,rfl,hsl,-⟩:=hacc.src;have hinr:Zu ((l.length:Int)+1):=by unfold Zu;omega
  have hB2:=hB.imI hl2.imm;have hp2:∀w:Qa T,U2.lg w->Q5 w pa pl 1 p λ n vs=>vs=[.int .u16 (n:Int)]/\n<65536:=λ w hw=>Q5.lg (R':=λ (n:Nat) vs=>vs=[.int .u16 (n:Int)]/\n<65536) hp (h_1.lg.frz2.trans (hl2.trans hw)) λ _ _ h=>h;refine⟨Qbj.any,(Qae pa pl pc p (hp2 _ (Qa.le.refl _).lg) 20).go λ _=>?_⟩;refine⟨rfl,by omega,?_⟩;have hm5:Int.tmod ((p.getD 20 0:Nat):Int) 5<5:=Int.tmod_lt_of_pos _ (by omega);generalize Int.tmod ((p.getD 20 0:Nat):Int) 5=m5 at hm5 ⊢
  repeat refine⟨rfl,?_⟩
  conv=>whnf
  apply Zr<;>intro hc
  ·have hi:(l.length:Int)<m5:=by simpa using hc
   refine⟨_,hB2.sees3 (o:=1) rfl,?_⟩
   repeat refine⟨rfl,?_⟩
   conv=>whnf
   apply Qe<;>intro hc
   ·have hpos:0<h.cl:=by simpa using hc
    refine⟨by show Zu (2*(l.length:Int));unfold Zu;omega,?_⟩;refine⟨by show Zu (21+2*(l.length:Int));unfold Zu;omega,?_⟩;have ea:(21:Int)+2*(l.length:Int)=((21+2*l.length:Nat):Int):=by omega
    have eb:(22:Int)+2*(l.length:Int)=((22+2*l.length:Nat):Int):=by omega
    rw [ea];refine⟨.int .i64 (p.getD (21+2*l.length) 0:Nat),λ U' hle _=>?_,?_⟩
    ·refine⟨Qbj.any,(Qae pa pl pc p (hp2 _ hle.lg) (21+2*l.length)).mono ?_⟩;rintro _ U'' ⟨rfl,hU'⟩ -;obtain rfl:=hU'.symm;exact⟨rfl,_,.refl _,.refl _⟩
    refine⟨_,hB2.sees3 (o:=1) rfl,?_⟩;refine⟨rfl,by omega,?_⟩;generalize hx1:Int.tmod ((p.getD (21+2*l.length) 0:Nat):Int) (h.cl:Int)=x1;have hr1:0<=x1/\x1<b.nc:=by rw [<- hx1,hnc];exact⟨Int.tmod_nonneg _ (Int.natCast_nonneg _),Int.tmod_lt_of_pos _ (by omega)⟩
    refine⟨by show Zu (2*(l.length:Int));unfold Zu;omega,?_⟩;refine⟨by show Zu (22+2*(l.length:Int));unfold Zu;omega,?_⟩;rw [eb];refine⟨.int .i64 (p.getD (22+2*l.length) 0:Nat),λ U' hle _=>?_,?_⟩
    ·refine⟨Qbj.any,(Qae pa pl pc p (hp2 _ hle.lg) (22+2*l.length)).mono ?_⟩;rintro _ U'' ⟨rfl,hU'⟩ -;obtain rfl:=hU'.symm;exact⟨rfl,_,.refl _,.refl _⟩
    refine⟨_,hB2.sees3 (o:=1) rfl,?_⟩;refine⟨rfl,by omega,?_⟩;generalize hx2:Int.tmod ((p.getD (22+2*l.length) 0:Nat):Int) (h.cl:Int)=x2;have hr2:0<=x2/\x2<b.nc:=by rw [<- hx2,hnc];exact⟨Int.tmod_nonneg _ (Int.natCast_nonneg _),Int.tmod_lt_of_pos _ (by omega)⟩
    refine⟨λ v U'=>∃bn,v=.slice (some ⟨bn,0,none⟩) 1 1/\Zi U' bn #[.int .i64 x1,.int .i64 x2],λ v y1 y2 ⟨bn,e,hh⟩ hle=>⟨bn,e,hh.le hle⟩,λ U' hle _=>?_,λ v hv=>?_⟩
    ·conv=>whnf
     intro bn hbn;exact Zk hbn λ U9 h9 hbn=>⟨_,.refl _,⟨bn,rfl,hbn⟩,h9⟩
    obtain⟨_,-,-,bn,rfl,-⟩:=hv
    conv=>whnf
    rintro U3 h_3 ⟨-,bn',e,hbn⟩;obtain rfl:bn=bn':=by simpa using e
    have hl_3:=hl2.trans h_3.lg
    conv=>whnf
    refine Ws (v:=.slice sa sl sc) (cs:=l.flatMap encII) (new:=encII (x1,x2)) (M₀:=U.M) Qhx rfl rfl (by rw [h_3.own];exact hacc) (.inr ⟨_,rfl,hbn.reads (λ k v hv=>by simpa [encII] using hv)⟩) rfl (by simp [encII,Value.single]) (by rw [Q0 (n:=2) (λ _=>rfl)];simp [encII];omega) λ v' M' ha' _=>?_;obtain⟨ta,tl,tc,rfl,-,-⟩:=Acc.src (U:={ U3 with M:=M' }) ha';refine⟨hinr,?_⟩
    conv=>whnf
    exact⟨rfl,(l++[(x1,x2)],.slice ta tl tc),⟨rfl,rfl,rfl,by show Value.int .i64 ((l.length:Int)+1)=.int .i64 (((l++[(x1,x2)]).length:Nat):Int);simp,trivial⟩,⟨⟨hl_3.imm,⟨_,(List.append_nil _).symm⟩,hl_3.tok⟩,by simp;omega,λ s hs=>(List.mem_append.1 hs).elim (hin s) λ hs=>by rw [List.mem_singleton.1 hs];exact⟨hr1.1,hr1.2,hr2.1,hr2.2⟩,by show Acc 84 2 _ ((l++[(x1,x2)]).flatMap encII) _ _;rw [List.flatMap_append];simpa using ha'⟩,by show _-_<_-_;simp;omega⟩
   ·repeat refine⟨rfl,?_⟩
    conv=>whnf
    exact⟨l,hacc,λ x o hx=>hl2.imm x o (h_1.imm x o hx),hl2.tok.trans h_1.tok,hll,hin⟩
  ·repeat refine⟨rfl,?_⟩
   conv=>whnf
   exact⟨l,hacc,λ x o hx=>hl2.imm x o (h_1.imm x o hx),hl2.tok.trans h_1.tok,hll,hin⟩
 refine main.sep λ v U' hs ⟨l,ha,hI,ht,hll,hin⟩=>?_;obtain⟨U'',k1,k2,a,len,cap,rfl,hl,hsrc,hsp,_⟩:=ha.freeze hs hI ht;have hlen:l.length=len:=by rw [Q0 (n:=2) (λ _=>rfl)] at hl;omega
 subst hlen;exact⟨U'',k1,⟨l,a,cap,rfl,Qbp (enc:=encII) (n:=2) (λ _=>rfl) hsrc hsp (by decide),hll,hin⟩,k2⟩
end Go.Proofs
namespace Go.TM
variable {T:Type} {U U':Qa T}
theorem Zq.zero:Zq U BH.zero ⟨[],[]⟩:=⟨⟨rfl,λ i x h=>by simp at h⟩,⟨rfl,λ i x h=>by simp at h⟩,by show 0<_;decide,by show 0<_;decide,by simp,by simp⟩
end Go.TM
namespace Go.Proofs
open Go.TM
section
variable {T:Type} {S:TM.Sys Tryz.prog T} {U:Qa T}
attribute [local irreducible] Qb Zl Wt
theorem Qp3 (a a':Option Addr) (len cap cap':Nat) (l:List ByteArray) (hl:Q5 U a len 1 l λ s vs=>vs=[.string s]) (hl':Q5 U a' len 1 l λ s vs=>vs=[.string s]) (hlen:len<2 ^ 60) :
  Qb S 59 #[.slice a len cap,.slice a' len cap'] (λ v U'=>v=.bool true/\U'=U) U:=by
 refine Qb.pure' (Qb.of (args:=[_,_]) Qqa Qf (by simp) ?_)
 repeat refine⟨rfl,?_⟩
 conv=>whnf
 apply Qe<;>intro hc
 ·exact absurd hc (by simp)
 refine⟨Nat,λ i=>[(0,.slice a len cap),(1,.slice a' len cap'),(5,.int .i64 i)],λ i U'=>U.le U'/\i<=len,λ i=>len-i,0,⟨rfl,rfl,rfl,trivial⟩,⟨.refl _,by omega⟩,?_⟩;rintro i f U1 ⟨hle,hi⟩;have hin:Zu ((i:Int)+1):=by unfold Zu;omega
 repeat refine⟨rfl,?_⟩
 conv=>whnf
 apply Qe<;>intro hc
 ·have hlt:i<len:=by simpa using hc
  obtain⟨ad,x,vs,hx,hea,-,rfl,-,hs⟩:=hl.at hlt;obtain⟨ad',x',vs',hx',hea',-,rfl,-,hs'⟩:=hl'.at hlt;obtain rfl:x=x':=Option.some.inj (hx.symm.trans hx');refine⟨ad,i,⟨hea,rfl,hlt⟩,?_⟩;refine⟨_,(hs.lg hle.lg) 0 _ rfl,?_⟩;refine⟨ad',i,⟨hea',rfl,hlt⟩,?_⟩;refine⟨_,(hs'.lg hle.lg) 0 _ rfl,?_⟩
  conv=>whnf
  intro U2 h_2 _
  repeat refine⟨rfl,?_⟩
  conv=>whnf
  apply Qe<;>intro hc
  ·exact absurd hc (by simp)
  refine⟨hin,?_⟩
  conv=>whnf
  exact⟨rfl,i+1,⟨rfl,rfl,rfl,trivial⟩,⟨hle.trans h_2,by omega⟩,by show _-_<_-_;omega⟩
 repeat refine⟨rfl,?_⟩
 conv=>whnf
 exact hle.lg
end
end Go.Proofs
namespace Go.TM
theorem Qaw.bcN {T:Type} {U:Qa T} {v:Value} {l:List Bool} (h:Qaw U v l):∃a c,v=.slice a l.length c/\Qel U a l.length l:=let ⟨a,c,e,r⟩:=h;⟨a,c,e,rfl,r⟩
end Go.TM
namespace Go.Proofs
open Go.TM
def Qdh:List (List (Nat×St)):=[[(0,⟨.ldn 2 (.tmp 2),some 24,none,none⟩),(0,⟨.ldn 2 (.tmp 2),some 25,none,none⟩),(0,⟨.mv (.tmp 1),some 26,none,none⟩),(2,⟨.call (.func 57) #[(.tmp 25),(.tmp 26)],some 27,none,none⟩),(2,⟨.call (.func 55) #[(.tmp 24),(.tmp 27)],some 28,none,none⟩),(0,⟨.mv (.tmp 28),some 23,none,none⟩),(0,⟨.ext (.tmp 23) 0,some 29,none,none⟩),(0,⟨.ext (.tmp 23) 1,some 30,none,none⟩),(2,⟨.alloc 25 #[(.slice none 0 0),(.slice none 0 0)],some 5,none,none⟩),(2,⟨.st 2 (.tmp 5) (.tmp 29),none,none,none⟩)],
 [(0,⟨.ldn 2 (.tmp 2),some 24,none,none⟩),(0,⟨.ldn 2 (.tmp 2),some 25,none,none⟩),(0,⟨.mv (.tmp 1),some 26,none,none⟩),(2,⟨.call (.func 57) #[(.tmp 25),(.tmp 26)],some 27,none,none⟩),(2,⟨.alloc 25 #[(.slice none 0 0),(.slice none 0 0)],some 5,none,none⟩),(2,⟨.call (.func 55) #[(.tmp 24),(.tmp 27)],some 28,none,none⟩),(0,⟨.mv (.tmp 28),some 23,none,none⟩),(0,⟨.ext (.tmp 23) 0,some 29,none,none⟩),(0,⟨.ext (.tmp 23) 1,some 30,none,none⟩),(2,⟨.st 2 (.tmp 5) (.tmp 29),none,none,none⟩)],
 [(0,⟨.ldn 2 (.tmp 2),some 24,none,none⟩),(0,⟨.ldn 2 (.tmp 2),some 25,none,none⟩),(0,⟨.mv (.tmp 1),some 26,none,none⟩),(2,⟨.alloc 25 #[(.slice none 0 0),(.slice none 0 0)],some 5,none,none⟩),(2,⟨.call (.func 57) #[(.tmp 25),(.tmp 26)],some 27,none,none⟩),(2,⟨.call (.func 55) #[(.tmp 24),(.tmp 27)],some 28,none,none⟩),(0,⟨.mv (.tmp 28),some 23,none,none⟩),(0,⟨.ext (.tmp 23) 0,some 29,none,none⟩),(0,⟨.ext (.tmp 23) 1,some 30,none,none⟩),(2,⟨.st 2 (.tmp 5) (.tmp 29),none,none,none⟩)]]
def Qvo:List St:=[⟨.mv (.tmp 30),some 6,none,none⟩]
def PkV (b:Bk) (v:Value) (U':Qa Tk):Prop:=∃(l:List (Int×Int)) (a:Option Addr) (c:Nat),v=.slice a l.length c/\Q5 U'.frz a l.length 2 l (λ x vs=>vs=encII x)/\l.length<=4/\∀s∈l,0<=s.1/\s.1<b.nc/\0<=s.2/\s.2<b.nc
theorem PkV.le {b:Bk} {v:Value} {U U':Qa Tk} (h:PkV b v U) (k:U.frz.lg U'.frz):PkV b v U':=let ⟨l,a,c,e,h1,h2⟩:=h;⟨l,a,c,e,h1.lg k λ _ _ h=>h,h2⟩
def SyV (b:Bk) (v:Value) (U':Qa Tk):Prop:=∃(l:List (Int×Int)) (h':BH) (f:Int),v=.tuple #[h'.v,.int .i64 f]/\Q4w b l U' h' f
theorem SyV.le {b:Bk} {v:Value} {U U':Qa Tk} (h:SyV b v U) (k:U.frz.lg U'.frz):SyV b v U':=let ⟨l,a,c,e,h1⟩:=h;⟨l,a,c,e,h1.imp id λ⟨x,y,z⟩=>⟨x,y.lg k,z⟩⟩
theorem SyV.sta {b:Bk} {h':BH} {f:Int} {U:Qa Tk} (h:SyV b (.tuple #[h'.v,.int .i64 f]) U):∃l,Q4w b l U h' f:=by
 obtain⟨l,h2,f2,e,hS⟩:=h;obtain⟨e1,rfl⟩:h'.v=h2.v/\f=f2:=by simpa using e
 obtain rfl:h'=h2:=by cases h';cases h2;simp [BH.v] at e1;obtain⟨⟨rfl,rfl,rfl⟩,rfl,rfl,rfl⟩:=e1;rfl
 exact⟨l,hS⟩
abbrev zB:Array Value:=#[.slice none 0 0,.slice none 0 0]
def HsV (U1:Qa Tk) (b:Bk) (b5:Nat) (v:Value) (U':Qa Tk):Prop:=∃Ud,U1.le Ud/\SyV b v Ud/\Hlr Ud b5 25 zB U'
theorem HsV.of {U1 U' U'':Qa Tk} {b:Bk} {b5:Nat} {v:Value} (h:Hlr U1 b5 25 zB U') (hle:U'.le U'') (hs:Sep U'') (hq:SyV b v U''):HsV U1 b b5 v U'':=by
 have h2:=h.le hle;refine⟨{ U'' with M:=U1.M },⟨h2.imm,rfl,h2.tok⟩,hq.le ⟨λ _ _ h=>h,⟨[],rfl⟩,rfl⟩,⟨λ _ _ h=>h,h2.own,rfl,?_⟩⟩;exact hs (.obj b5 (.cells zB 25 (0,0))) (by rw [h2.own];exact List.mem_cons_self ..)
attribute [local irreducible] Qb Zl Wt
set_option maxHeartbeats 4000000 in
theorem Q4u {U:Qa Tk} (htok:U.tok=⟨0,.out,none⟩) (hk:Chk U) (h:BH) (b:Bk) (hb:Zq U.frz h b) (hnl:Q0n b) (hrc:h.rl<=h.rc) (hcc:h.cl<=h.cc) (pa:Option Addr) (pl pc:Nat) (p:List Nat) (hp:Q5 U.frz pa pl 1 p λ (n:Nat) vs=>vs=[.int .u16 (n:Int)]/\n<65536) (hpl:pl<2 ^ 60) :
  J (Zb Tryz.prog 209 6) (Fin Tryz.prog λ v U'=>v=.bool true/\U.lg U') true (Rf (Frame.enter Tryz.prog 16 #[h.v,.slice pa pl pc] .normal) []) U:=by
 refine Zpy (args:=[_,_]) (Q:=λ v U'=>v=.bool true/\U.lg U') Zc6 Qf (by kernel_rfl) (by simp) (λ v U' q=>q.2.tok.trans htok) ?_;have hcl:=hb.cs.1;have hrl:=hb.rs.1;have fin:∀U2:Qa Tk,U.lg U2->Qb (Zb Tryz.prog 209 6) 20 #[] (λ v U'=>v=.bool true/\U'=U2) U2:=λ U2 h=>Zm2 (h.tok.trans htok) (hk.lg h)
 repeat refine⟨rfl,?_⟩
 conv=>whnf
 intro B U1 h_1 hB;have hB:Zi U1 B #[.slice h.ra h.rl h.rc,.slice h.ca h.cl h.cc]:=hB;have hBf:Zi U1.frz B #[.slice h.ra h.rl h.rc,.slice h.ca h.cl h.cc]:=hB;have hb1:=hb.lg h_1.lg.frz2;have hp1:∀w:Qa Tk,U1.frz.lg w->Q5 w pa pl 1 p λ (n:Nat) vs=>vs=[.int .u16 (n:Int)]/\n<65536:=λ w hw=>Q5.lg (R':=λ (n:Nat) vs=>vs=[.int .u16 (n:Int)]/\n<65536) hp (h_1.lg.frz2.trans hw) λ _ _ h=>h;have hrd:∀w:Qa Tk,U1.frz.lg w->Jn w ⟨B,0,none⟩ [.slice h.ra h.rl h.rc,.slice h.ca h.cl h.cc]:=λ w hw=>(hBf.lg hw).reads (λ k v hv=>by simpa using hv);refine⟨_,⟨rfl,hrd _ Qp⟩,?_⟩;refine⟨Zij.any,(Zm1 h b hb1 hnl hrc).mono ?_⟩;rintro _ U' ⟨⟨g,rfl,hg⟩,hU'⟩ -;obtain rfl:=hU'.symm;cases g with
 | false=>
  refine⟨Zii.any,(fin _ h_1.lg).go λ _=>?_⟩
  repeat refine⟨rfl,?_⟩
  conv=>whnf
  exact h_1.lg
 | true=>
 have hf:b.flaw Qu=0:=hg rfl;have hok:=Bk.ok_of hf;have hnr:=hok.nr;have hnc:=hok.nc;have hk1:Chk U1.frz:=(hk.lg h_1.lg:Chk U1);have s57:∀U':Qa Tk,U1.frz.lg U'->Qb (Zb Tryz.prog 209 6) 57 #[h.v,.slice pa pl pc] (λ v U''=>PkV b v U''/\U'.le U'') U':=λ U' hl=>Qga h b (hb1.lg (show U1.frz.lg U'.frz from ⟨hl.imm,⟨[],rfl⟩,hl.tok⟩)) pa pl pc p (hp1 _ ⟨hl.imm,⟨[],rfl⟩,hl.tok⟩)
 have s55:∀(v1:Value) (U':Qa Tk),U1.frz.lg U'->PkV b v1 U'->Qb (Zb Tryz.prog 209 6) 55 #[h.v,v1] (λ v U''=>SyV b v U''/\U'.le U'') U':=λ v1 U' hl hP=>by
  obtain⟨l,a,c,rfl,hR,hll,hin⟩:=hP;exact (Qek h b (hb1.lg (show U1.frz.lg U'.frz from ⟨hl.imm,⟨[],rfl⟩,hl.tok⟩)) (hk1.lg hl) hf l a c hR (by omega) hin).mono λ v U'' ⟨⟨h',f,e,hS⟩,hle⟩=>⟨⟨l,h',f,e,hS⟩,hle⟩
 conv=>whnf
 intro ac0 hfr0
 refine Qt2 (mu:=[]) (ops:=Q4g Tryz.f16 3) (id:=3) hfr0 [3,4,8,9] [[0,1,2,3,4,5,6,7,8,9],[0,1,2,3,8,4,5,6,7,9],[0,1,2,8,3,4,5,6,7,9]] [10] Qdh Qvo Qf (by kernel_rfl) (by kernel_rfl) (by kernel_rfl) (by kernel_rfl) (by kernel_rfl)
  (λ f' ds' U'=>ds'=[]/\∃b5 h' ff,Qig f' [(1,.slice pa pl pc),(2,.pointer (some ⟨B,0,none⟩)),(5,.pointer (some ⟨b5,0,none⟩)),(30,.int .i64 ff)]/\U1.le U'/\Zi U' b5 #[.slice h'.ra h'.rl h'.rc,.slice h'.ca h'.cl h'.cc]/\∃l,Q4w b l U' h' ff) ?_ ?_
 ·intro l hl;simp only [Qdh,List.mem_cons,List.not_mem_nil,or_false] at hl;rcases hl with rfl | rfl | rfl
  ·refine⟨_,⟨rfl,hrd _ ⟨λ _ _ h=>h,⟨[],rfl⟩,rfl⟩⟩,?_⟩;refine⟨_,⟨rfl,hrd _ ⟨λ _ _ h=>h,⟨[],rfl⟩,rfl⟩⟩,?_⟩;refine⟨λ v U'=>U1.le U'/\PkV b v U',λ v x1 x2 hh hle=>⟨hh.1.trans hle,hh.2.le hle.lg.frz2⟩,λ v U' hh=>Qp.trans hh.1.lg,λ U' hC=>?_,λ v hv=>?_⟩
   ·refine⟨Qdg.any,(s57 U' (Qp.trans hC.lg)).mono λ v U'' ⟨q1,q2⟩ _=>⟨U'',.refl _,hC.trans q2,q1⟩⟩
   obtain⟨_,-,l0,a0,c0,rfl,-⟩:=hv;refine⟨λ v U'=>U1.le U'/\SyV b v U',λ v x1 x2 hh hle=>⟨hh.1.trans hle,hh.2.le hle.lg.frz2⟩,λ v U' hh=>Qp.trans hh.1.lg,λ U' hC=>?_,λ v hv=>?_⟩
   ·refine⟨Qdc.any,(s55 _ U' (Qp.trans hC.1.lg) hC.2).mono λ v U'' ⟨q1,q2⟩ _=>⟨U'',.refl _,hC.1.trans q2,q1⟩⟩
   obtain⟨_,-,l0,h',ff,rfl,-⟩:=hv;refine⟨λ v U'=>∃b5,v=.pointer (some ⟨b5,0,none⟩)/\HsV U1 b b5 (.tuple #[h'.v,.int .i64 ff]) U',λ v x1 x2 ⟨b5,e,Ud,y1,y2,y3⟩ hle=>⟨b5,e,Ud,y1,y2,y3.le hle⟩,λ v U' ⟨b5,e,Ud,y1,y2,y3⟩=>y1.lg.frz2.trans y3.frz1,λ U' hC=>?_,λ v hv=>?_⟩
   ·conv=>whnf
    intro b5 hf5;exact⟨_,.refl _,_,.refl _,b5,rfl,U',hC.1,hC.2,.made (.refl _) hf5⟩
   obtain⟨_,b5,rfl,-⟩:=hv;refine⟨λ v U'=>U1.le U'/\Zi U' b5 #[.slice h'.ra h'.rl h'.rc,.slice h'.ca h'.cl h'.cc]/\SyV b (.tuple #[h'.v,.int .i64 ff]) U',λ v x1 x2 hh hle=>⟨hh.1.trans hle,hh.2.1.le hle,hh.2.2.le hle.lg.frz2⟩,λ v U' hh=>Qp.trans hh.1.lg,λ U' hC=>?_,λ v hv=>?_⟩
   ·obtain⟨b5',e,Ud,k1,k2,k3⟩:=hC;obtain rfl:b5=b5':=by simpa using e
    conv=>whnf
    exact⟨rfl,k3.write (vs:=[.slice h'.ra h'.rl h'.rc,.slice h'.ca h'.cl h'.cc]) rfl (by simp [Value.single]) λ U2 hle hB5=>⟨_,.refl _,k1.trans hle,hB5,k2.le hle.lg.frz2⟩⟩
   conv=>whnf
   rintro U' ⟨q1,q2,q3⟩;exact⟨rfl,b5,h',ff,⟨rfl,rfl,rfl,rfl,trivial⟩,q1,q2,q3.sta⟩
  ·refine⟨_,⟨rfl,hrd _ ⟨λ _ _ h=>h,⟨[],rfl⟩,rfl⟩⟩,?_⟩;refine⟨_,⟨rfl,hrd _ ⟨λ _ _ h=>h,⟨[],rfl⟩,rfl⟩⟩,?_⟩;refine⟨λ v U'=>U1.le U'/\PkV b v U',λ v x1 x2 hh hle=>⟨hh.1.trans hle,hh.2.le hle.lg.frz2⟩,λ v U' hh=>Qp.trans hh.1.lg,λ U' hC=>?_,λ v hv=>?_⟩
   ·refine⟨Qdg.any,(s57 U' (Qp.trans hC.lg)).mono λ v U'' ⟨q1,q2⟩ _=>⟨U'',.refl _,hC.trans q2,q1⟩⟩
   obtain⟨_,-,l0,a0,c0,rfl,-⟩:=hv;refine⟨λ v U'=>∃b5,v=.pointer (some ⟨b5,0,none⟩)/\Hlr U1 b5 25 zB U'/\PkV b (.slice a0 l0.length c0) U',λ v x1 x2 ⟨b5,e,hh,hq⟩ hle=>⟨b5,e,hh.le hle,hq.le hle.lg.frz2⟩,λ v U' ⟨b5,e,hh,hq⟩=>hh.frz1,λ U' hC=>?_,λ v hv=>?_⟩
   ·conv=>whnf
    intro b5 hf5;exact⟨_,.refl _,_,.refl _,b5,rfl,.made hC.1 hf5,hC.2.le ⟨λ _ _ h=>h,⟨[],rfl⟩,rfl⟩⟩
   obtain⟨_,b5,rfl,-⟩:=hv;refine⟨λ v U'=>HsV U1 b b5 v U',λ v x1 x2 ⟨Ud,y1,y2,y3⟩ hle=>⟨Ud,y1,y2,y3.le hle⟩,λ v U' ⟨Ud,y1,y2,y3⟩=>y1.lg.frz2.trans y3.frz1,λ U' hC=>?_,λ v hv=>?_⟩
   ·obtain⟨b5',e,hC⟩:=hC;obtain rfl:b5=b5':=by simpa using e
    refine⟨Qdc.any,(s55 _ U' hC.1.frz1 hC.2).mono λ v U'' ⟨q1,q2⟩ hs=>⟨U'',.refl _,.of hC.1 q2 hs q1⟩⟩
   obtain⟨_,Ud0,-,⟨l0,h',ff,rfl,-⟩,-⟩:=hv;refine⟨λ v U'=>U1.le U'/\Zi U' b5 #[.slice h'.ra h'.rl h'.rc,.slice h'.ca h'.cl h'.cc]/\SyV b (.tuple #[h'.v,.int .i64 ff]) U',λ v x1 x2 hh hle=>⟨hh.1.trans hle,hh.2.1.le hle,hh.2.2.le hle.lg.frz2⟩,λ v U' hh=>Qp.trans hh.1.lg,λ U' hC=>?_,λ v hv=>?_⟩
   ·obtain⟨Ud,k1,k2,k3⟩:=hC
    conv=>whnf
    exact⟨rfl,k3.write (vs:=[.slice h'.ra h'.rl h'.rc,.slice h'.ca h'.cl h'.cc]) rfl (by simp [Value.single]) λ U2 hle hB5=>⟨_,.refl _,k1.trans hle,hB5,k2.le hle.lg.frz2⟩⟩
   conv=>whnf
   rintro U' ⟨q1,q2,q3⟩;exact⟨rfl,b5,h',ff,⟨rfl,rfl,rfl,rfl,trivial⟩,q1,q2,q3.sta⟩
  ·refine⟨_,⟨rfl,hrd _ ⟨λ _ _ h=>h,⟨[],rfl⟩,rfl⟩⟩,?_⟩;refine⟨_,⟨rfl,hrd _ ⟨λ _ _ h=>h,⟨[],rfl⟩,rfl⟩⟩,?_⟩;refine⟨λ v U'=>∃b5,v=.pointer (some ⟨b5,0,none⟩)/\Hlr U1 b5 25 zB U',λ v x1 x2 ⟨b5,e,hh⟩ hle=>⟨b5,e,hh.le hle⟩,λ v U' ⟨b5,e,hh⟩=>hh.frz1,λ U' hC=>?_,λ v hv=>?_⟩
   ·conv=>whnf
    intro b5 hf5;exact⟨_,.refl _,_,.refl _,b5,rfl,.made hC hf5⟩
   obtain⟨_,b5,rfl,-⟩:=hv;refine⟨λ v U'=>Hlr U1 b5 25 zB U'/\PkV b v U',λ v x1 x2 ⟨hh,hq⟩ hle=>⟨hh.le hle,hq.le hle.lg.frz2⟩,λ v U' ⟨hh,hq⟩=>hh.frz1,λ U' hC=>?_,λ v hv=>?_⟩
   ·obtain⟨b5',e,hC⟩:=hC;obtain rfl:b5=b5':=by simpa using e
    refine⟨Qdg.any,(s57 U' hC.frz1).mono λ v U'' ⟨q1,q2⟩ _=>⟨U'',.refl _,hC.le q2,q1⟩⟩
   obtain⟨_,-,l0,a0,c0,rfl,-⟩:=hv;refine⟨λ v U'=>HsV U1 b b5 v U',λ v x1 x2 ⟨Ud,y1,y2,y3⟩ hle=>⟨Ud,y1,y2,y3.le hle⟩,λ v U' ⟨Ud,y1,y2,y3⟩=>y1.lg.frz2.trans y3.frz1,λ U' hC=>?_,λ v hv=>?_⟩
   ·refine⟨Qdc.any,(s55 _ U' hC.1.frz1 hC.2).mono λ v U'' ⟨q1,q2⟩ hs=>⟨U'',.refl _,.of hC.1 q2 hs q1⟩⟩
   obtain⟨_,Ud0,-,⟨l0,h',ff,rfl,-⟩,-⟩:=hv;refine⟨λ v U'=>U1.le U'/\Zi U' b5 #[.slice h'.ra h'.rl h'.rc,.slice h'.ca h'.cl h'.cc]/\SyV b (.tuple #[h'.v,.int .i64 ff]) U',λ v x1 x2 hh hle=>⟨hh.1.trans hle,hh.2.1.le hle,hh.2.2.le hle.lg.frz2⟩,λ v U' hh=>Qp.trans hh.1.lg,λ U' hC=>?_,λ v hv=>?_⟩
   ·obtain⟨Ud,k1,k2,k3⟩:=hC
    conv=>whnf
    exact⟨rfl,k3.write (vs:=[.slice h'.ra h'.rl h'.rc,.slice h'.ca h'.cl h'.cc]) rfl (by simp [Value.single]) λ U2 hle hB5=>⟨_,.refl _,k1.trans hle,hB5,k2.le hle.lg.frz2⟩⟩
   conv=>whnf
   rintro U' ⟨q1,q2,q3⟩;exact⟨rfl,b5,h',ff,⟨rfl,rfl,rfl,rfl,trivial⟩,q1,q2,q3.sta⟩
 rintro f' ds' U2 ⟨rfl,b5,ho,ff,hfr,h_2,hB5,l,hS⟩;rw [<- hfr.ovr];clear hfr
 conv=>whnf
 intro a' hf';refine⟨by rw [hf'.size,hfr0.size],_,hf'.get,?_⟩;rw [hf'.ds];clear hf' hfr0;rcases hS with⟨hff,rfl⟩ | ⟨rfl,hbo,hfrl,hlo,hro⟩
 ·rcases hff with rfl | rfl
  ·repeat refine⟨rfl,?_⟩
   refine⟨_,hB5.sees3 (o:=0) rfl,?_⟩;refine⟨_,hB5.sees3 (o:=1) rfl,?_⟩;refine⟨by unfold Zu;decide,?_⟩
   repeat refine⟨rfl,?_⟩
   conv=>whnf
   refine (fin _ (h_1.trans h_2).lg).mono ?_;rintro _ U' ⟨rfl,hU'⟩ -;obtain rfl:=hU'.symm
   repeat refine⟨rfl,?_⟩
   conv=>whnf
   exact (h_1.trans h_2).lg
  ·repeat refine⟨rfl,?_⟩
   refine⟨_,hB5.sees3 (o:=0) rfl,?_⟩;refine⟨_,hB5.sees3 (o:=1) rfl,?_⟩;refine⟨by unfold Zu;decide,?_⟩
   repeat refine⟨rfl,?_⟩
   conv=>whnf
   refine (fin _ (h_1.trans h_2).lg).mono ?_;rintro _ U' ⟨rfl,hU'⟩ -;obtain rfl:=hU'.symm
   repeat refine⟨rfl,?_⟩
   conv=>whnf
   exact (h_1.trans h_2).lg
 have hok':(b.stys l).Ok:=(hfrl.ok1 hok.ok1).ok hlo;have hf':(b.stys l).flaw Qu=0:=by rw [hfrl.flaw hf,if_neg (by rw [hlo];simp)]
 have hcl':=hbo.cs.1;have hrl':=hbo.rs.1;rw [Bk.stys_len] at hcl';rw [Bk.stys_rs] at hrl';have e1:ho.cl=h.cl:=by omega
 have e2:ho.rl=h.rl:=by omega
 have hrs:Q5 U2.frz ho.ra h.rl 1 b.rs (λ s vs=>vs=[.string s]):=by have:=hbo.rs;rwa [Bk.stys_rs,e2] at this
 have hb2:=hb1.lg h_2.lg.frz2;have h12:=h_1.trans h_2
 repeat refine⟨rfl,?_⟩
 refine⟨_,⟨rfl,hB5.reads (λ k v hv=>by simpa using hv)⟩,?_⟩;refine⟨Q1w.any,(Qru ho (b.stys l) hbo hro).go λ _=>?_⟩;rw [hf']
 repeat refine⟨rfl,?_⟩
 refine⟨_,hB5.sees3 (o:=1) rfl,?_⟩;refine⟨_,(hB.le h_2).sees3 (o:=1) rfl,?_⟩;rw [e1];refine⟨rfl,?_⟩;have ebb:((h.cl:Int) != (h.cl:Int))=false:=by simp
 rw [ebb];refine⟨_,hB5.sees3 (o:=0) rfl,?_⟩;refine⟨_,(hB.le h_2).sees3 (o:=0) rfl,?_⟩;rw [e2];refine⟨Qqa.any,(Qp3 ho.ra h.ra h.rl ho.rc h.rc b.rs (hrs.lg Qp λ _ _ h=>h) (hb2.rs.lg Qp λ _ _ h=>h) hb.rl).go λ _=>?_⟩
 repeat refine⟨rfl,?_⟩
 refine⟨_,⟨rfl,hrd _ (Za3 Qp h_2)⟩,?_⟩;refine⟨Q1x.any,(Quz h b hb2 (hk.lg h12.lg)).mono ?_⟩;rintro _ U3 ⟨⟨_,_,rfl,⟨ra,rc,rfl,hR⟩,⟨ca,cc,rfl,hC⟩⟩,h_3⟩ -;have hfl:=hf;rw [hf] at hR hC ⊢;rw [if_pos rfl] at hR hC;rw [if_pos rfl,if_pos rfl];rw [show b.fatesC.length=h.cl by simp [Bk.fatesC,hcl]] at hC ⊢;rw [show b.fatesR.length=h.rl by simp [Bk.fatesR,hrl]] at hR ⊢;have h23:=h_2.trans h_3;have h13:=h12.trans h_3;have hbo3:=hbo.lg h_3.lg.frz2;have hrs2:(b.stys l).rs.length=h.rl:=by rw [Bk.stys_rs,hrl]
 have hcs2:(b.stys l).cs.length=h.cl:=by rw [Bk.stys_len,hcl]
 refine⟨_,⟨rfl,(hB5.le h_3).reads (λ k v hv=>by simpa using hv)⟩,?_⟩;refine⟨Q1x.any,(Quz ho (b.stys l) hbo3 (hk.lg h13.lg)).mono ?_⟩;rintro _ U4 ⟨⟨_,_,rfl,⟨ua,uc,rfl,hU⟩,⟨wa,wc,rfl,hW⟩⟩,h_4⟩ -;rw [hf'] at hU hW ⊢;rw [if_pos rfl] at hU hW;rw [if_pos rfl,if_pos rfl];rw [show (b.stys l).fatesC.length=h.cl by simp [Bk.fatesC,hcs2]] at hW ⊢;rw [show (b.stys l).fatesR.length=h.rl by simp [Bk.fatesR,hrs2]] at hU ⊢;have h34:=h_4;have h24:=h23.trans h_4;have h14:=h13.trans h_4;have ebr:((h.rl:Int) != (h.rl:Int))=false:=by simp
 repeat refine⟨rfl,?_⟩
 conv=>whnf
 rw [ebr]
 repeat refine⟨rfl,?_⟩
 conv=>whnf
 rw [ebb]
 repeat refine⟨rfl,?_⟩
 conv=>whnf
 refine⟨Nat,λ i=>[(1,.slice pa pl pc),(2,.pointer (some ⟨B,0,none⟩)),(5,.pointer (some ⟨b5,0,none⟩)),(7,.slice ra h.rl rc),(8,.slice ca h.cl cc),(9,.slice ua h.rl uc),(10,.slice wa h.cl wc),(12,.int .i64 i)],λ i U'=>U4.le U'/\i<=h.rl,λ i=>h.rl-i,0,⟨rfl,rfl,rfl,rfl,rfl,rfl,rfl,rfl,trivial⟩,⟨.refl _,by omega⟩,?_⟩;rintro i f U5 ⟨h_5,hi⟩;have hin:Zu ((i:Int)+1):=by unfold Zu;omega
 repeat refine⟨rfl,?_⟩
 conv=>whnf
 apply Qe<;>intro hc
 ·have hlt:i<h.rl:=by simpa using hc
  obtain⟨ad1,x1,hx1,rfl,-,q1⟩:=(hR.lg (h34.trans h_5).lg.frz2).at hlt;obtain⟨ad2,x2,hx2,rfl,-,q2⟩:=(hU.lg h_5.lg.frz2).at hlt;obtain rfl:b.fatR i=x1:=by simpa [Bk.fatesR,hrl,hlt] using hx1
  obtain rfl:(b.stys l).fatR i=x2:=by simpa [Bk.fatesR,hrs2,hlt] using hx2
  have hsame:=hfrl.fatR hok hok' i;refine⟨ad1,i,⟨rfl,rfl,hlt⟩,?_⟩;refine⟨_,q1.lg Qp,?_⟩
  repeat refine⟨rfl,?_⟩
  conv=>whnf
  apply Zr<;>intro hc
  ·have hne:b.fatR i≠0:=by simpa using hc
   refine⟨ad2,i,⟨rfl,rfl,hlt⟩,?_⟩;refine⟨_,q2.lg Qp,?_⟩;refine⟨ad1,i,⟨rfl,rfl,hlt⟩,?_⟩;refine⟨_,q1.lg Qp,?_⟩
   conv=>whnf
   intro U6 h_6 _;rw [hsame hne];have exx:(b.fatR i != b.fatR i)=false:=by simp
   repeat refine⟨rfl,?_⟩
   conv=>whnf
   rw [exx]
   repeat refine⟨rfl,?_⟩
   refine⟨hin,?_⟩
   conv=>whnf
   exact⟨rfl,i+1,⟨rfl,rfl,rfl,rfl,rfl,rfl,rfl,rfl,trivial⟩,⟨h_5.trans h_6,by omega⟩,by show _-_<_-_;omega⟩
  ·conv=>whnf
   intro U6 h_6 _
   repeat refine⟨rfl,?_⟩
   refine⟨hin,?_⟩
   conv=>whnf
   exact⟨rfl,i+1,⟨rfl,rfl,rfl,rfl,rfl,rfl,rfl,rfl,trivial⟩,⟨h_5.trans h_6,by omega⟩,by show _-_<_-_;omega⟩
 clear hi hc;have h04:=h_5;refine⟨Nat,λ i=>[(1,.slice pa pl pc),(2,.pointer (some ⟨B,0,none⟩)),(5,.pointer (some ⟨b5,0,none⟩)),(7,.slice ra h.rl rc),(8,.slice ca h.cl cc),(9,.slice ua h.rl uc),(10,.slice wa h.cl wc),(13,.int .i64 i)],λ i U'=>U4.le U'/\i<=h.cl,λ i=>h.cl-i,0,⟨rfl,rfl,rfl,rfl,rfl,rfl,rfl,rfl,trivial⟩,⟨h04,by omega⟩,?_⟩;rintro i f U7 ⟨h7,hi⟩;have hin:Zu ((i:Int)+1):=by unfold Zu;omega
 repeat refine⟨rfl,?_⟩
 conv=>whnf
 apply Qe<;>intro hc
 ·have hlt:i<h.cl:=by simpa using hc
  obtain⟨ad1,x1,hx1,rfl,-,q1⟩:=(hC.lg (h34.trans h7).lg.frz2).at hlt;obtain⟨ad2,x2,hx2,rfl,-,q2⟩:=(hW.lg h7.lg.frz2).at hlt;obtain rfl:b.fatC i=x1:=by simpa [Bk.fatesC,hcl,hlt] using hx1
  obtain rfl:(b.stys l).fatC i=x2:=by simpa [Bk.fatesC,hcs2,hlt] using hx2
  have hsame:=hfrl.fatC hok hok' i;refine⟨ad1,i,⟨rfl,rfl,hlt⟩,?_⟩;refine⟨_,q1.lg Qp,?_⟩
  repeat refine⟨rfl,?_⟩
  conv=>whnf
  apply Zr<;>intro hc
  ·have hne:b.fatC i≠0:=by simpa using hc
   refine⟨ad2,i,⟨rfl,rfl,hlt⟩,?_⟩;refine⟨_,q2.lg Qp,?_⟩;refine⟨ad1,i,⟨rfl,rfl,hlt⟩,?_⟩;refine⟨_,q1.lg Qp,?_⟩
   conv=>whnf
   intro U8 h8 _;rw [hsame hne];have exx:(b.fatC i != b.fatC i)=false:=by simp
   repeat refine⟨rfl,?_⟩
   conv=>whnf
   rw [exx]
   repeat refine⟨rfl,?_⟩
   refine⟨hin,?_⟩
   conv=>whnf
   exact⟨rfl,i+1,⟨rfl,rfl,rfl,rfl,rfl,rfl,rfl,rfl,trivial⟩,⟨h7.trans h8,by omega⟩,by show _-_<_-_;omega⟩
  ·conv=>whnf
   intro U8 h8 _
   repeat refine⟨rfl,?_⟩
   refine⟨hin,?_⟩
   conv=>whnf
   exact⟨rfl,i+1,⟨rfl,rfl,rfl,rfl,rfl,rfl,rfl,rfl,trivial⟩,⟨h7.trans h8,by omega⟩,by show _-_<_-_;omega⟩
 clear hi hc;have h07:=h7;have h17:=h24.trans h07;have hB7:=hB5.le ((h_3.trans h_4).trans h07);have hbo7:=hbo3.lg (h_4.trans h07).lg.frz2;refine⟨_,⟨rfl,hB7.reads (λ k v hv=>by simpa using hv)⟩,?_⟩;refine⟨Qp5.any,(Qoa ho (b.stys l) hbo7 hok' pa pl pc p (hp1 _ h17.lg.frz2)).mono ?_⟩;rintro _ U9 ⟨⟨oa,oc,rfl,hO⟩,h9⟩ -;have hord:=Bk.pick_ord hok' p;generalize (b.stys l).pickO p (b.stys l).cs.length []=o at hord hO ⊢;rw [List.length_map] at hO ⊢;have hordb:=hfrl.ord hord;have hol:o.length=h.cl:=by rw [hordb.len,hcl]
 have hof:b.outF (o.map λ (k:Nat)=>(k:Int))=0:=by unfold Bk.outF;rw [if_pos hf];exact hordb.flaw
 have hof':(b.stys l).outF (o.map λ (k:Nat)=>(k:Int))=0:=by unfold Bk.outF;rw [if_pos hf'];exact hord.flaw
 have hom:(o.map λ (k:Nat)=>(k:Int)).map Int.toNat=o:=by
  rw [List.map_map];exact (List.map_congr_left (λ _ _=>rfl)).trans (List.map_id o)
 have h19:=h17.trans h9;refine⟨_,⟨rfl,hrd _ (Za3 Qp h19)⟩,?_⟩;refine⟨Qq3.any,(Qfz h b (hb1.lg h19.lg.frz2) (hk.lg (h_1.trans h19).lg) oa o.length oc _ hO (by omega)).mono ?_⟩;rintro _ U10 ⟨⟨v1,v2,rfl,b1,b2⟩,h_10⟩ -;rw [hof,if_pos rfl,hom] at b1 b2;rw [hof];obtain⟨xa,xc,rfl,hX⟩:=b1.bcN;obtain⟨ya,yc,rfl,hY⟩:=b2.bcN;have h1A:=h19.trans h_10;refine⟨_,⟨rfl,(hB7.le (h9.trans h_10)).reads (λ k v hv=>by simpa using hv)⟩,?_⟩;refine⟨Qq3.any,(Qfz ho (b.stys l) (hbo7.lg (h9.trans h_10).lg.frz2) (hk.lg (h_1.trans h1A).lg) oa o.length oc _ (hO.lg h_10.lg.frz2) (by omega)).mono ?_⟩;rintro _ U11 ⟨⟨v3,v4,rfl,b3,b4⟩,h11⟩ -;rw [hof',if_pos rfl,hom,hfrl.ends] at b3 b4;rw [hof'];obtain⟨sa,sc,rfl,hS⟩:=b3.bcN;obtain⟨za,zc,rfl,hZ⟩:=b4.bcN;have hend:=(h_1.trans (h1A.trans h11)).lg;have hel:=b.end_len o;have hX':=(hX.lg h11.lg.frz2).lg Qp;have hY':=(hY.lg h11.lg.frz2).lg Qp;have n1:(b.ends o).1.length<2 ^ 60:=by rw [hel.1];have:=hb.rl;omega
 have n2:(b.ends o).2.length<2 ^ 60:=by rw [hel.2];have:=hb.cl;omega
 repeat refine⟨rfl,?_⟩
 conv=>whnf
 refine (W0 xa sa _ xc _ sc _ _ hX' (hS.lg Qp) n1).mono ?_;rintro _ U' ⟨rfl,hU'⟩ -;obtain rfl:=hU'.symm;rw [decide_eq_true rfl]
 repeat refine⟨rfl,?_⟩
 conv=>whnf
 refine (W0 ya za _ yc _ zc _ _ hY' (hZ.lg Qp) n2).mono ?_;rintro _ U' ⟨rfl,hU'⟩ -;obtain rfl:=hU'.symm;rw [decide_eq_true rfl]
 repeat refine⟨rfl,?_⟩
 conv=>whnf
 refine (fin _ hend).mono ?_;rintro _ U' ⟨rfl,hU'⟩ -;obtain rfl:=hU'.symm
 repeat refine⟨rfl,?_⟩
 conv=>whnf
 exact hend
end Go.Proofs
