/- Lemmas of the proof. No conditions of their own. -/
import Derived.Test.YtnpfcnfhfkflhaaGreatDoorC02
import Derived.Test.YtnpfcnfhfkflhaaGreatDoorC01
set_option linter.all false
set_option maxRecDepth 100000
namespace Go.TM
variable {T:Type} {P:Program} {S:Sys P T} {U U':Qa T}
theorem Qaq {m:Nat}:∀{L:List (List Value)},(∀r∈L,r.length=m)->L.flatten.length=L.length*m
 | [],_=>by simp
 | r::L,h=>by
  rw [List.flatten_cons,List.length_append,h r (List.mem_cons_self ..),Qaq λ r hr=>h r (List.mem_cons_of_mem _ hr),List.length_cons,Nat.add_mul];omega
theorem Qek {m:Nat}:∀{L:List (List Value)},(∀r∈L,r.length=m)->∀{j k:Nat} {r:List Value},L[j]?=some r->k<m->L.flatten[j*m+k]?=r[k]?
 | [],_,j,k,r,hj,_=>by simp at hj
 | r::L,h,0,k,r',hj,hk=>by
  obtain rfl:r=r':=by simpa using hj
  rw [List.flatten_cons,Nat.zero_mul,Nat.zero_add,List.getElem?_append_left (by rw [h r (List.mem_cons_self ..)];exact hk)]
 | r::L,h,j+1,k,r',hj,hk=>by
  have hr:=h r (List.mem_cons_self ..);rw [List.flatten_cons,List.getElem?_append_right (by rw [hr,Nat.add_mul];omega),hr,Nat.add_mul,show j*m+1*m+k-m=j*m+k by omega];exact Qek (λ r hr=>h r (List.mem_cons_of_mem _ hr)) (by simpa using hj) hk
theorem Qqa {m:Nat} (hm:0<m) {L:List (List Value)} (h:∀r∈L,r.length=m) {i:Nat} {v:Value} (hv:L.flatten[i]?=some v):∃r,L[i / m]?=some r/\r[i % m]?=some v:=by
 obtain⟨hi,-⟩:=List.getElem?_eq_some_iff.1 hv;rw [Qaq h] at hi;have hj:i / m<L.length:=Nat.div_lt_of_lt_mul (by rw [Nat.mul_comm];exact hi);refine⟨L[i / m],List.getElem?_eq_getElem hj,?_⟩;rw [<- Qek h (List.getElem?_eq_getElem hj) (Nat.mod_lt i hm),Nat.mul_comm,Nat.div_add_mod];exact hv
theorem Q5.cells {a:Option Addr} {len n:Nat} {α:Type} {l:List α} {Q:α->List Value->Prop} (h:Q5 U a len n l Q):∃R:List (List Value),R.length=len/\(∀r∈R,r.length=n)/\∀i x,l[i]?=some x->∃r,R[i]?=some r/\Q x r/\∃ad,a=some ad/\ad.spot=none/\Jn U (ad.add (i*n)) r:=by
 have hex:∀i,∃r:List Value,∀x,l[i]?=some x->Q x r/\r.length=n/\∃ad,a=some ad/\ad.spot=none/\Jn U (ad.add (i*n)) r:=λ i=>by
  cases hx:l[i]? with
  | none=>exact⟨[],λ x e=>by cases e⟩
  | some x=>
   obtain⟨ad,vs,h1,h2,h3,h4,h5⟩:=h.2 i x hx;exact⟨vs,λ y e=>by cases e;exact⟨h3,h4,ad,h1,h2,h5⟩⟩
 refine⟨(List.range len).map λ i=>Classical.choose (hex i),by simp,λ r hr=>?_,λ i x hx=>?_⟩
 ·obtain⟨i,hi,rfl⟩:=List.mem_map.1 hr;rw [List.mem_range] at hi;have hil:i<l.length:=by rw [h.1];exact hi
  exact (Classical.choose_spec (hex i) _ (List.getElem?_eq_getElem hil)).2.1
 ·have hi:i<len:=by rw [<- h.1];exact (List.getElem?_eq_some_iff.1 hx).1
  have hs:=Classical.choose_spec (hex i) x hx;exact⟨_,by rw [List.getElem?_map,List.getElem?_range hi];rfl,hs.1,hs.2.2⟩
theorem Qdh {ad:Addr} (hsp:ad.spot=none) {n s:Nat} (hn:0<n) {L:List (List Value)} (hL:∀r∈L,r.length=n) (h:∀j r,L[j]?=some r->Jn U (ad.add ((s+j)*n)) r):Jn U (ad.add (s*n)) L.flatten:=by
 intro i v hv;obtain⟨r,hr,hk⟩:=Qqa hn hL hv;have:=h _ r hr _ v hk;obtain⟨bb,oo,ss⟩:=ad;cases hsp;rw [Qo,Qo] at this ⊢;have e:(s+i / n)*n+i % n=s*n+i:=by rw [Nat.add_mul,Nat.add_assoc,Nat.mul_comm (i / n) n,Nat.div_add_mod]
 rw [Nat.add_assoc,e] at this;rw [Nat.add_assoc];exact this
def Qbj (c:Array Value) (n:Nat) (g:Nat->List Value):Prop:=∀j k v,j<n->k<4->(g j)[k]?=some v->c[j*4+k]?=some v
theorem Qbj.set {c:Array Value} {n:Nat} {g:Nat->List Value} (h:Qbj c n g) (hsz:n*4<=c.size) {i:Nat} (hi:i<n) (hg:(g i).length=4) (v:Value):Qbj (c.setIfInBounds (i*4+3) v) n λ j=>if j=i then (g i).set 3 v else g j:=by
 intro j k u hj hk hu;simp only at hu;by_cases e:j*4+k=i*4+3
 ·obtain⟨rfl,rfl⟩:j=i/\k=3:=by omega
  rw [if_pos rfl,List.getElem?_set,if_pos rfl,if_pos (by omega)] at hu;cases hu;rw [Array.getElem?_setIfInBounds_self_of_lt (by omega)]
 ·rw [Array.getElem?_setIfInBounds_ne (by omega)];by_cases e':j=i
  ·subst e';rw [if_pos rfl,List.getElem?_set,if_neg (by omega)] at hu;exact h j k u hj hk hu
  ·rw [if_neg e'] at hu;exact h j k u hj hk hu
theorem Qvz {R:List (List Value)} {n t j:Nat} (hl:R.length=n) (ht:t<n) (hj:j<n):(R.drop t++R.take t)[j]?=R[(j+t) % n]?:=by
 by_cases h:j<n-t
 ·rw [List.getElem?_append_left (by rw [List.length_drop];omega),List.getElem?_drop,Nat.mod_eq_of_lt (by omega),Nat.add_comm]
 ·rw [List.getElem?_append_right (by rw [List.length_drop];omega),List.length_drop,hl,Nat.mod_eq_sub_mod (by omega),Nat.mod_eq_of_lt (by omega),List.getElem?_take,if_pos (by omega)];congr 1;omega
theorem Src.lgr {a:Option Addr} {cs:List Value} (h:Src U a cs) (hl:U.lg U'):Src U' a cs:=by
 rcases h with h | ⟨ad,e,hr⟩
 ·exact .inl h
 ·exact .inr ⟨ad,e,hr.lg hl⟩
def Qvo:List (Value×List Int)->List Qx->Prop
 | [],X=>X=[]
 | p::ps,X=>∃A X',X=A++X'/\Jw 3 1 p.1 (p.2.map λ n=>.int .i64 n) A/\Qvo ps X'
theorem Qb.pend {f:FuncId} {args:Array Value} {X:List Qx}:∀(ps:List (Value×List Int)) {R:Value->Qa T->Prop},(∀v U1 U2,U1.lg U2->R v U1->R v U2) ->
  Qb S f args (λ v U'=>R v U'.frz/\∃Y,U'.M=Y++X/\Qvo ps Y) U->Qb S f args (λ v U'=>R v U'.frz/\U'.M=X/\∀p∈ps,Jd U'.frz p.1 p.2) U
 | [],R,_,h=>h.mono λ v U' ⟨h1,Y,h2,h3⟩=>by
   have h3:Y=[]:=h3;subst h3;exact⟨h1,h2,by simp⟩
 | p::ps,R,hR,h=>by
  have:=Qb.pend ps (R:=λ v U'=>R v U'/\Jd U' p.1 p.2) (λ v U1 U2 hl ⟨h1,h2⟩=>⟨hR v U1 U2 hl h1,h2.lg hl⟩) (h.sep λ v U' hs ⟨h1,Y,h2,A,Y',e,h3,h4⟩=>?_) (X:=X)
  ·refine this.mono λ v U' ⟨⟨h1,h2⟩,h3,h4⟩=>⟨h1,h3,λ q hq=>?_⟩;rcases List.mem_cons.1 hq with rfl | hq
   ·exact h2
   ·exact h4 q hq
  ·have ha:=h3 (Y'++X);obtain⟨U'',k1,k2,a,len,cap,e1,e2,e3,e4,-⟩:=Acc.freeze (U:={ U' with M:=Y'++X }) hs (by rw [h2,e,List.append_assoc];exact ha) (λ _ _ h=>h) rfl;have hz:U'.frz.lg U''.frz:=⟨k2.imm,⟨[],rfl⟩,k2.tok⟩;refine⟨U'',k1,⟨hR v _ _ hz h1,a,cap,?_,Qlc e3 e4⟩,Y',k2.own,h4⟩;rw [e1];simp at e2;rw [e2]
def Bk.rotTo (b:Bk) (t i k:Nat):List Int:=((List.range k).filter λ k=>(b.cas ((i+t) % b.cs.length)).af.contains (((k+t) % b.cs.length:Nat):Int)).map λ (k:Nat)=>(k:Int)
theorem Bk.rotTo_succ (b:Bk) (t i k:Nat):b.rotTo t i (k+1)=b.rotTo t i k++(if (b.cas ((i+t) % b.cs.length)).af.contains (((k+t) % b.cs.length:Nat):Int) then [(k:Int)] else []):=by
 unfold Bk.rotTo;rw [List.range_succ,List.filter_append,List.map_append];congr 1;cases h:(b.cas ((i+t) % b.cs.length)).af.contains (((k+t) % b.cs.length:Nat):Int)
 ·rw [List.filter_cons,h];rfl
 ·rw [List.filter_cons,h];rfl
theorem Bk.rotTo_len (b:Bk) (t i k:Nat):(b.rotTo t i k).length<=k:=by
 unfold Bk.rotTo;rw [List.length_map];exact Nat.le_trans (List.length_filter_le _ _) (by simp)
def Bk.pl (b:Bk) (t i:Nat) (w:Nat->Value):List (Value×List Int):=(List.range i).reverse.map λ j=>(w j,b.rotAf t j)
theorem Bk.pl_succ (b:Bk) (t i:Nat) (w:Nat->Value) (v:Value):b.pl t (i+1) (λ j=>if j=i then v else w j)=(v,b.rotAf t i)::b.pl t i w:=by
 unfold Bk.pl;rw [List.range_succ,List.reverse_append,List.map_append];simp only [List.reverse_cons,List.reverse_nil,List.nil_append,List.map_cons,List.map_nil,if_true,List.cons_append];congr 1;refine List.map_congr_left λ j hj=>?_;rw [List.mem_reverse,List.mem_range] at hj;rw [if_neg (by omega)]
theorem Qqj.row {c:Cs} {vs:List Value} (h:Qqj U c vs):vs.length=4/\(∀v∈vs,v.single=true):=by
 obtain⟨ga,gl,gc,aa,al,ac,rfl,-⟩:=h;exact⟨rfl,by simp [Value.single]⟩
end Go.TM
namespace Go.Proofs
open Go.TM
def Qdc:List (List (Nat×St)):=[[(0,⟨.off 1 (.tmp 2),some 37,none,none⟩),(0,⟨.ld (.tmp 37),some 38,none,none⟩),(0,⟨.mv (.tmp 6),some 39,none,none⟩),(0,⟨.sub3 4 (.tmp 38) (some (.tmp 39)) none,some 40,none,none⟩),(0,⟨.off 1 (.tmp 2),some 42,none,none⟩),(0,⟨.ld (.tmp 42),some 43,none,none⟩),(0,⟨.mv (.tmp 6),some 44,none,none⟩),(0,⟨.sub3 4 (.tmp 43) none (some (.tmp 44)),some 45,none,none⟩),(2,⟨.bsl 49 0 #[] [],some 36,none,none⟩),(2,⟨.raw { dst:=none,op:=(.call { callee:=.builtin .append,args:=#[(.tmp 36),(.tmp 40)],argTypes:=#[23,23] }),type:=23,pos := "", after:=#[],guard:=none },some 41,none,none⟩)]]
def Qpf:List St:=[⟨.raw { dst:=none,op:=(.call { callee:=.builtin .append,args:=#[(.tmp 41),(.tmp 45)],argTypes:=#[23,23] }),type:=23,pos := "", after:=#[],guard:=none },some 46,none,none⟩,⟨.off 1 (.tmp 7),some 47,none,none⟩,⟨.st 1 (.tmp 47) (.tmp 46),none,none,none⟩]
attribute [local irreducible] Qb Zl Wt
set_option maxHeartbeats 4000000 in
theorem Qp5 {U:Qa Tk} (htok:U.tok=⟨0,.out,none⟩) (hk:Chk U) (h:BH) (b:Bk) (hb:Zq U.frz h b) (hnl:Q0n b) (hrc:h.rl<=h.rc) (hcc:h.cl<=h.cc) (rt:Nat) (hrt:rt<256) :
  J (Zb Tryz.prog 209 6) (Fin Tryz.prog λ v U'=>v=.bool true/\U.lg U') true (Rf (Frame.enter Tryz.prog 8 #[h.v,.int .u8 (rt:Int)] .normal) []) U:=by
 refine Zpy (args:=[_,_]) (Q:=λ v U'=>v=.bool true/\U.lg U') Qvy Qf (by kernel_rfl) (by simp) (λ v U' q=>q.2.tok.trans htok) ?_;have hcl:=hb.cs.1;have hrl:=hb.rs.1;have fin:∀U2:Qa Tk,U.lg U2->Qb (Zb Tryz.prog 209 6) 20 #[] (λ v U'=>v=.bool true/\U'=U2) U2:=λ U2 h=>Zm2 (h.tok.trans htok) (hk.lg h)
 repeat refine⟨rfl,?_⟩
 conv=>whnf
 intro B U1 h_1 hB;have hB:Zi U1 B #[.slice h.ra h.rl h.rc,.slice h.ca h.cl h.cc]:=hB;have hBf:Zi U1.frz B #[.slice h.ra h.rl h.rc,.slice h.ca h.cl h.cc]:=hB;have hb1:=hb.lg h_1.lg.frz2;have hrd:∀w:Qa Tk,U1.frz.lg w->Jn w ⟨B,0,none⟩ [.slice h.ra h.rl h.rc,.slice h.ca h.cl h.cc]:=λ w hw=>(hBf.lg hw).reads (λ k v hv=>by simpa using hv);refine⟨_,⟨rfl,hrd _ Qp⟩,?_⟩;refine⟨Zij.any,(Zm1 h b hb1 hnl hrc).mono ?_⟩;rintro _ U' ⟨⟨g,rfl,hg⟩,hU'⟩ -;obtain rfl:=hU'.symm;have Qcx:Qb (Zb Tryz.prog 209 6) 20 #[] (λ v U'=>v=.bool true/\U'=U1) U1:=fin _ h_1.lg;cases g with
 | false=>
  refine⟨Zii.any,Qcx.go λ _=>?_⟩
  repeat refine⟨rfl,?_⟩
  conv=>whnf
  exact h_1.lg
 | true=>
 have hf:b.flaw Qu=0:=hg rfl;refine⟨_,hB.sees3 (o:=1) rfl,?_⟩
 repeat refine⟨rfl,?_⟩
 conv=>whnf
 apply Qe<;>intro hc
 ·refine⟨Zii.any,Qcx.go λ _=>?_⟩
  repeat refine⟨rfl,?_⟩
  conv=>whnf
  exact h_1.lg
 have hcp:0<h.cl:=by simp at hc;omega
 have hok:=Bk.ok_of hf;have hnc:=hok.nc;have hnr:=hok.nr;obtain⟨t,htt⟩:∃t,t=rt % h.cl:=⟨_,rfl⟩;have ht:t<h.cl:=htt ▸ Nat.mod_lt _ hcp;have hrem:(IntKind.wrap .i64 (rt:Int)).tmod (h.cl:Nat)=(t:Nat):=by rw [wrap64 (by omega),htt];exact (Int.ofNat_tmod _ _).symm
 refine⟨_,hB.sees3 (o:=1) rfl,?_⟩;refine⟨rfl,by omega,?_⟩;rw [hrem];refine⟨_,⟨rfl,hrd _ Qp⟩,?_⟩
 conv=>whnf
 intro ob hob;refine⟨_,.refl _,?_⟩;refine⟨rfl,Qfw (vs:=[.slice h.ra h.rl h.rc,.slice h.ca h.cl h.cc]) rfl (by simp [Value.single]) ?_⟩;obtain⟨R,hRl,hR4,hRr⟩:=hb1.cs.cells;obtain⟨ad,c0,-,-,hea,hsp,-,-,-⟩:=hb1.cs.at hcp
 have hRc:∀m,m<h.cl->∃r,R[m]?=some r/\Qqj U1.frz (b.cas m) r/\Jn U1.frz (ad.add (m*4)) r:=λ m hm=>by
  obtain⟨r,h1,h2,ad',h3,-,h5⟩:=hRr m (b.cas m) (by simp [Bk.cas,List.getD_eq_getElem?_getD,show m<b.cs.length by omega]);obtain rfl:ad=ad':=Option.some.inj (hea.symm.trans h3);exact⟨r,h1,h2,h5⟩
 have hRs:∀r∈R,∀v∈r,v.single=true:=λ r hr=>by
  obtain⟨m,hm,e⟩:=List.mem_iff_getElem.1 hr;obtain⟨r',h1,h2,-⟩:=hRc m (by omega);obtain rfl:r=r':=by rw [List.getElem?_eq_getElem hm] at h1;exact e.symm.trans (Option.some.inj h1)
  exact h2.row.2
 have hsD:Src U1.frz (some (ad.add (t*4))) (R.drop t).flatten:=.inr ⟨_,rfl,Qdh hsp (by omega) (λ r hr=>hR4 r (List.mem_of_mem_drop hr)) λ j r hj=>by
  rw [List.getElem?_drop] at hj;have hl:=(List.getElem?_eq_some_iff.1 hj).1;obtain⟨r',h1,-,h3⟩:=hRc (t+j) (by omega);rw [hj] at h1;cases h1;exact h3⟩
 have hsT:Src U1.frz (some (ad.add (0*4))) (R.take t).flatten:=.inr ⟨_,rfl,Qdh hsp (by omega) (λ r hr=>hR4 r (List.mem_of_mem_take hr)) λ j r hj=>by
  rw [List.getElem?_take] at hj;split at hj
  ·have hl:=(List.getElem?_eq_some_iff.1 hj).1;obtain⟨r',h1,-,h3⟩:=hRc j (by omega);rw [hj] at h1;cases h1;rw [Nat.zero_add];exact h3
  ·cases hj⟩
 have hlD:(R.drop t).flatten.length=(h.cl-t)*4:=by rw [Qaq λ r hr=>hR4 r (List.mem_of_mem_drop hr),List.length_drop,hRl]
 have hlT:(R.take t).flatten.length=t*4:=by rw [Qaq λ r hr=>hR4 r (List.mem_of_mem_take hr),List.length_take,hRl,Nat.min_eq_left (by omega)]
 have e1:(if h.cc=t then h.ca else h.ca.map (·.add (t*4)))=some (ad.add (t*4)):=by rw [if_neg (by omega),hea];rfl
 have e2:(if h.cc=0 then h.ca else h.ca.map (·.add (0*4)))=some (ad.add (0*4)):=by rw [if_neg (by omega),hea];rfl
 let g0:Nat->List Value:=λ j=>R.getD ((j+t) % h.cl) []
 have hml:∀j,(j+t) % h.cl<h.cl:=λ j=>Nat.mod_lt _ hcp
 have hg0:∀j,Qqj U1.frz (b.cas ((j+t) % h.cl)) (g0 j):=λ j=>by
  obtain⟨r,h1,h2,-⟩:=hRc _ (hml j);have:g0 j=r:=by simp [g0,List.getD_eq_getElem?_getD,h1]
  rw [this];exact h2
 let obR:Qx:=.obj ob (.cells [.slice h.ra h.rl h.rc,.slice h.ca h.cl h.cc].toArray 25 (0,0))
 generalize hU2:(U1.put ob (.cells [.slice h.ra h.rl h.rc,.slice h.ca h.cl h.cc].toArray 25):Qa Tk)=U2;have hI2:∀x o,U1.I x=some o->U2.I x=some o:=by rw [<- hU2];exact λ _ _ h=>h
 have hM2:U2.M=obR::U1.M:=by rw [<- hU2];rfl
 have ht2:U2.tok=U1.tok:=by rw [<- hU2];rfl
 clear hU2;have hl_2:U1.frz.lg U2.frz:=⟨hI2,⟨[],rfl⟩,ht2⟩
 conv=>whnf
 intro ac0 hfr0
 refine Qt2 (mu:=[1006]) (ops:=Q4g Tryz.f8 6) (id:=6) hfr0 [0,5] [[1,2,3,4,6,7,8,9,0,5]] [10,11,12] Qdc Qpf Qf (by kernel_rfl) (by kernel_rfl) (by kernel_rfl) (by kernel_rfl) (by kernel_rfl)
  (λ f' ds' U'=>ds'=[]/\∃a l c,Qig f' [(2,.pointer (some ⟨B,0,none⟩)),(5,.int .i64 h.cl),(6,.int .i64 t),(7,.pointer (some ⟨ob,0,none⟩)),(41,.slice a l c),(45,.slice (some (ad.add (0*4))) t h.cc)]/\U2.frz.lg U'/\Acc 49 4 (.slice a l c) (R.drop t).flatten U'.M U2.M) ?_ ?_
 ·intro l hl;simp only [Qdc,List.mem_cons,List.not_mem_nil,or_false] at hl;subst hl;refine⟨_,(hBf.lg hl_2).sees3 (o:=1) rfl,?_⟩;refine⟨t,h.cl,⟨rfl,rfl,by omega,hcc⟩,?_⟩;rw [e1];refine⟨_,(hBf.lg hl_2).sees3 (o:=1) rfl,?_⟩;refine⟨0,t,⟨rfl,rfl,by omega,by omega⟩,?_⟩;rw [e2];refine⟨λ v U'=>∃p,v=.slice (some ⟨p,0,none⟩) 0 0/\U2.frz.lg U'/\U'.M=.obj p (.cells #[] 49 (0,0))::U2.M,λ v x1 x2 ⟨p,e,hl,hM⟩ hle=>⟨p,e,hl.trans hle.lg,hle.own.trans hM⟩,λ v U' ⟨p,e,hl,hM⟩=>hl,λ U' hC=>?_,λ v hv=>?_⟩
  ·conv=>whnf
   intro p hp;exact⟨_,.refl _,_,.refl _,p,rfl,⟨λ x o hx=>hC.imm x o hx,⟨_,(List.append_nil _).symm⟩,hC.tok⟩,by show _::U'.M=_;rw [hC.own]⟩
  obtain⟨_,p,rfl,-⟩:=hv;refine⟨λ v U'=>(∃a l c,v=.slice a l c)/\U2.frz.lg U'/\Acc 49 4 v (R.drop t).flatten U'.M U2.M,λ v x1 x2 ⟨e,hl,hM⟩ hle=>⟨e,hl.trans hle.lg,by rw [hle.own];exact hM⟩,λ v U' ⟨e,hl,hM⟩=>hl,λ U' hC=>?_,λ v hv=>?_⟩
  ·obtain⟨p',e,hl,hM⟩:=hC;obtain rfl:p=p':=by simpa using e
   conv=>whnf
   refine Ws (v:=.slice (some ⟨p,0,none⟩) 0 0) (cs:=[]) (new:=(R.drop t).flatten) (M₀:=U2.M) Qw8 rfl rfl (.inr ⟨p,#[],0,0,rfl,rfl,Nat.le_refl _,rfl,hM,by simp⟩) (hsD.lgr (hl_2.trans hl.frz2 |>.trans Qp)) hlD (λ w hw=>by obtain⟨r,hr,hw⟩:=List.mem_flatten.1 hw;exact hRs r (List.mem_of_mem_drop hr) w hw) (by rw [hlD];simp;omega) λ v' M' ha' _=>?_;rw [List.nil_append] at ha';obtain⟨a',l',c',rfl,-⟩:=Acc.src (U:={ U' with M:=M' }) ha';exact⟨_,.refl _,⟨_,_,_,rfl⟩,⟨hl.imm,⟨_,(List.append_nil _).symm⟩,hl.tok⟩,ha'⟩
  obtain⟨_,⟨a,l,c,rfl⟩,-⟩:=hv
  conv=>whnf
  rintro U' ⟨-,hl,hM⟩;exact⟨rfl,a,l,c,⟨rfl,rfl,rfl,rfl,rfl,rfl,trivial⟩,hl,hM⟩
 rintro f' ds' U3 ⟨rfl,a41,l41,c41,hfr,hlg3,hacc3⟩;rw [<- hfr.ovr];clear hfr
 conv=>whnf
 refine Ws (v:=.slice a41 l41 c41) (cs:=(R.drop t).flatten) (new:=(R.take t).flatten) (M₀:=U2.M) Qw8 rfl rfl hacc3 (hsT.lgr (hl_2.trans hlg3.frz2 |>.trans Qp)) hlT (λ w hw=>by obtain⟨r,hr,hw⟩:=List.mem_flatten.1 hw;exact hRs r (List.mem_of_mem_take hr) w hw) (by rw [hlD,hlT];omega) λ v' M' ha' _=>?_;rcases ha' with⟨-,hnil,-⟩ | ⟨cb,c,len,cap,rfl,hl1,hl2,hl3,hM',hcl4⟩
 ·exfalso;have:=congrArg List.length hnil;rw [List.length_append,hlD,hlT,List.length_nil] at this;omega
 obtain rfl:len=h.cl:=by rw [List.length_append,hlD,hlT] at hl1;omega
 have hcR:Qbj c h.cl g0:=λ j k v hj hk hv=>by
  have h1:=Qvz hRl ht hj;obtain⟨r,h2,-⟩:=hRc _ (hml j);have e:g0 j=r:=by simp [g0,List.getD_eq_getElem?_getD,h2]
  rw [e] at hv;refine hcl4 _ v ?_;rw [<- List.flatten_append,Qek (m:=4) (λ r hr=>?_) (h1.trans h2) hk]
  ·exact hv
  ·rcases List.mem_append.1 hr with hr | hr
   ·exact hR4 r (List.mem_of_mem_drop hr)
   ·exact hR4 r (List.mem_of_mem_take hr)
 let MB:Array Value->List Qx:=λ c=>.obj cb (.cells c 49 (0,0))::.obj ob (.cells [.slice h.ra h.rl h.rc,.slice (some ⟨cb,0,none⟩) h.cl cap].toArray 25 (0,0))::U1.M
 refine⟨rfl,Qbe (i:=1) (v:=.slice (some ⟨cb,0,none⟩) h.cl cap) [_] (by show M'=_;rw [hM',hM2];rfl) (by show 1<2;omega) rfl λ U4 hI4 ht4 hM4=>?_⟩;have hM4:U4.M=MB c:=hM4;have hl4:U1.frz.lg U4:=⟨λ x o hx=>by rw [hI4];exact hlg3.imm x o (hI2 x o hx),⟨_,(List.append_nil _).symm⟩,ht4.trans (hlg3.tok.trans ht2)⟩
 conv=>whnf
 intro a' hf';refine⟨by rw [hf'.size,hfr0.size],_,hf'.get,?_⟩;rw [hf'.ds];clear hf' hfr0 hacc3
 let gA:Nat->(Nat->Value)->Nat->List Value:=λ i w j=>if j<i then (g0 j).set 3 (w j) else g0 j
 refine⟨Nat×(Nat->Value),λ y=>[(2,.pointer (some ⟨B,0,none⟩)),(5,.int .i64 h.cl),(6,.int .i64 t),(7,.pointer (some ⟨ob,0,none⟩)),(8,.int .i64 y.1)],λ y U'=>U1.frz.lg U'/\y.1<=h.cl/\∃Y c,U'.M=Y++MB c/\Qvo (b.pl t y.1 y.2) Y/\c.size=cap*4/\Qbj c h.cl (gA y.1 y.2),λ y=>h.cl-y.1,(0,λ _=>.bool false),⟨rfl,rfl,rfl,rfl,rfl,trivial⟩,⟨hl4,by omega,[],c,hM4,rfl,hl3,λ j k v hj hk hv=>hcR j k v hj hk (by simpa [gA] using hv)⟩,?_⟩;rintro⟨i,w⟩ f U5 ⟨hl5,hi,Y,c,hM5,hPd,hsz,hcA⟩;simp only at hi hPd hcA;have hin:Zu ((i:Int)+1):=by unfold Zu;omega
 repeat refine⟨rfl,?_⟩
 conv=>whnf
 apply Qe<;>intro hc
 ·have hlt:i<h.cl:=by simpa using hc
  obtain⟨ga,gl,gc,aa,al,ac,hrow,hgs,hgl,haf,hal⟩:=hg0 i;have hmod:h.cl=b.cs.length:=by omega
  refine⟨Nat×Value,λ y=>[(2,.pointer (some ⟨B,0,none⟩)),(5,.int .i64 h.cl),(6,.int .i64 t),(7,.pointer (some ⟨ob,0,none⟩)),(8,.int .i64 i),(9,y.2),(10,.int .i64 y.1)],λ y U'=>U1.frz.lg U'/\y.1<=h.cl/\∃A,U'.M=A++(Y++MB c)/\Jw 3 1 y.2 ((b.rotTo t i y.1).map λ n=>.int .i64 n) A,λ y=>h.cl-y.1,(0,.slice none 0 0),⟨rfl,rfl,rfl,rfl,rfl,rfl,rfl,trivial⟩,⟨hl5,by omega,[],hM5,.nil⟩,?_⟩;rintro⟨k,vc⟩ f U6 ⟨hl6,hk',A,hM6,hacc⟩;simp only at hk' hacc;obtain⟨sa,sl,sc,rfl,hsl⟩:=hacc.src;have hink:Zu ((k:Int)+1):=by unfold Zu;omega
  have hob6:U6.sees ((Addr.mk ob 0 none).add 1) (.slice (some ⟨cb,0,none⟩) h.cl cap):=Za (U:=U6) (A++(Y++[.obj cb (.cells c 49 (0,0))])) (vs:=[.slice h.ra h.rl h.rc,.slice (some ⟨cb,0,none⟩) h.cl cap]) (e:=25) (M₀:=U1.M) (by rw [hM6];simp [MB]) 1 _ rfl;have hM6':U6.M=(A++Y)++.obj cb (.cells c.toList.toArray 49 (0,0))::.obj ob (.cells [.slice h.ra h.rl h.rc,.slice (some ⟨cb,0,none⟩) h.cl cap].toArray 25 (0,0))::U1.M:=by rw [hM6];simp [MB]
  repeat refine⟨rfl,?_⟩
  conv=>whnf
  apply Qe<;>intro hc
  ·have hltk:k<h.cl:=by simpa using hc
   have hcell:c[i*4+3]?=some (.slice aa al ac):=hcA i 3 _ hlt (by omega) (by show (if i<i then _ else g0 i)[3]?=_;rw [if_neg (by omega),hrow];rfl)
   have hsc:U6.sees (((Addr.mk cb 0 none).add (i*4)).add 3) (.slice aa al ac):=by
    have:=Za (U:=U6) (A++Y) hM6' (i*4+3) (.slice aa al ac) (by simpa using hcell);rw [Qo] at this;rw [Qo,Qo,Nat.add_assoc];exact this
   have hrk:((k:Int)+(t:Int)).tmod (h.cl:Nat)=(((k+t) % b.cs.length:Nat):Int):=by rw [<- hmod];exact (Int.ofNat_tmod _ _).symm
   have hinkt:Zu ((k:Int)+(t:Int)):=by unfold Zu;omega
   have hsucc:=b.rotTo_succ t i k;have hlen:=b.rotTo_len t i k;rw [<- hmod] at hsucc hrk;refine⟨_,hob6,?_⟩;refine⟨⟨cb,0,none⟩,i,⟨rfl,rfl,hlt⟩,?_⟩;refine⟨_,hsc,?_⟩;refine⟨hinkt,?_⟩;refine⟨rfl,by omega,?_⟩;rw [hrk]
   conv=>whnf
   intro U7 h7 _;have hl7:=hl6.trans h7.lg;refine⟨Qf7.any,(Qcf aa al ac _ (haf.lg hl7) hal (((k+t) % h.cl:Nat):Int)).go λ _=>?_⟩;cases hct:(b.cas ((i+t) % h.cl)).af.contains (((k+t) % h.cl:Nat):Int) with
   | false=>
    rw [hct,if_neg (by simp),List.append_nil] at hsucc;refine⟨hink,?_⟩
    conv=>whnf
    exact⟨rfl,(k+1,.slice sa sl sc),⟨rfl,rfl,rfl,rfl,rfl,rfl,rfl,trivial⟩,⟨hl7,by show k+1<=h.cl;omega,A,h7.own.trans hM6,by show Jw 3 1 _ ((b.rotTo t i (k+1)).map _) A;rw [hsucc];exact hacc⟩,by show _-_<_-_;omega⟩
   | true=>
    rw [hct,if_pos rfl] at hsucc
    conv=>whnf
    intro bn hbn;refine Zk hbn λ U8 h8 hbn=>?_;have hbn:Zi U8 bn #[.int .i64 k]:=hbn;have hl8:=hl7.trans h8.lg
    conv=>whnf
    refine Ws (v:=.slice sa sl sc) (cs:=(b.rotTo t i k).map λ n=>.int .i64 n) (new:=[.int .i64 (k:Int)]) (M₀:=Y++MB c) Qat rfl rfl (by rw [h8.own,h7.own,hM6];exact hacc _) (.inr ⟨_,rfl,hbn.reads (λ k v hv=>by simpa using hv)⟩) rfl (by simp [Value.single]) (by simp;omega) λ v' M' ha' _=>?_;obtain⟨A2,hM',ha2⟩:=ha'.split;obtain⟨ta,tl,tc,rfl,-⟩:=ha2.src;refine⟨hink,?_⟩
    conv=>whnf
    exact⟨rfl,(k+1,.slice ta tl tc),⟨rfl,rfl,rfl,rfl,rfl,rfl,rfl,trivial⟩,⟨⟨hl8.imm,⟨_,(List.append_nil _).symm⟩,hl8.tok⟩,by show k+1<=h.cl;omega,A2,hM',by show Jw 3 1 _ ((b.rotTo t i (k+1)).map _) A2;rw [hsucc,List.map_append];exact ha2⟩,by show _-_<_-_;omega⟩
  have hge:k=h.cl:=by simp at hc;omega
  have hfull:b.rotTo t i k=b.rotAf t i:=by rw [hge,hmod];rfl
  rw [hfull] at hacc;refine⟨_,hob6,?_⟩;refine⟨⟨cb,0,none⟩,i,⟨rfl,rfl,hlt⟩,?_⟩;refine⟨rfl,?_⟩;rw [show ((Addr.mk cb 0 none).add (i*4)).add 3=(Addr.mk cb 0 none).add (i*4+3) by rw [Qo,Qo,Qo,Nat.add_assoc]];refine Qbe (i:=i*4+3) (c:=c) (v:=.slice sa sl sc) (A++Y) (e:=49) (M₀:=(MB c).tail) (by rw [hM6];simp [MB]) (by omega) rfl λ U7 hI7 ht7 hM7=>?_;have hgl4:(gA i w i).length=4:=by show (if i<i then _ else g0 i).length=4;rw [if_neg (by omega),hrow];rfl
  have hc2:=hcA.set (by omega) hlt hgl4 (.slice sa sl sc);refine⟨hin,?_⟩;refine⟨rfl,(i+1,λ j=>if j=i then .slice sa sl sc else w j),⟨rfl,rfl,rfl,rfl,rfl,trivial⟩,⟨⟨λ x o hx=>by rw [hI7];exact hl6.imm x o hx,⟨_,(List.append_nil _).symm⟩,ht7.trans hl6.tok⟩,by show i+1<=h.cl;omega,A++Y,_,hM7,by show Qvo (b.pl t (i+1) _) _;rw [b.pl_succ];exact⟨A,Y,rfl,hacc,hPd⟩,by simpa using hsz,λ j k v hj hk hv=>hc2 j k v hj hk ?_⟩,by show _-_<_-_;omega⟩;have hv:(if j<i+1 then (g0 j).set 3 (if j=i then .slice sa sl sc else w j) else g0 j)[k]?=some v:=hv;show (if j=i then (if i<i then _ else g0 i).set 3 _ else if j<i then (g0 j).set 3 (w j) else g0 j)[k]?=some v;by_cases e:j=i
  ·subst e;rw [if_pos (by omega),if_pos rfl] at hv;rw [if_pos rfl,if_neg (by omega)];exact hv
  ·rw [if_neg e] at hv ⊢;by_cases e':j<i
   ·rw [if_pos (by omega)] at hv;rw [if_pos e'];exact hv
   ·rw [if_neg (by omega)] at hv;rw [if_neg e'];exact hv
 have hge:i=h.cl:=by simp at hc;omega
 subst hge;have ht':t<b.cs.length:=by omega
 have hf':=Bk.rot_flaw hf ht';obtain⟨says,sayc⟩:=Bk.rot_says hf ht'
 let ho:BH:=⟨h.ra,h.rl,h.rc,some ⟨cb,0,none⟩,h.cl,cap⟩
 have hf1:(b.rot t).fatesC.length=h.cl:=by simp [Bk.fatesC,Bk.rot,hcl]
 have hf2:b.fatesC.length=h.cl:=by simp [Bk.fatesC,hcl]
 have hk1:Chk U1:=hk.lg h_1.lg;have hk1f:Chk U1.frz:=hk1
 have callF:Qb (Zb Tryz.prog 209 6) 26 #[h.v] (λ v U'=>(∃v1 v2,v=.tuple #[v1,v2,.int .i64 0]/\Jd U'.frz v1 b.fatesR/\Jd U'.frz v2 b.fatesC)/\U1.le U'/\Zq U'.frz ho (b.rot t)/\Zi U' ob [.slice h.ra h.rl h.rc,.slice (some ⟨cb,0,none⟩) h.cl cap].toArray) U5:=by
  have hlx:∀U':Qa Tk,U5.le U'->U1.frz.lg U'.frz:=λ U' hle=>hl5.frz2.trans hle.lg.frz2
  have st1:=Qb.pend (S:=Zb Tryz.prog 209 6) (X:=MB c) (b.pl t h.cl w) (R:=λ v U'=>(∃v1 v2,v=.tuple #[v1,v2,.int .i64 0]/\Jd U' v1 b.fatesR/\Jd U' v2 b.fatesC)/\U1.frz.lg U') (λ v x1 x2 hl ⟨⟨v1,v2,e,k1,k2⟩,k3⟩=>⟨⟨v1,v2,e,k1.lg hl,k2.lg hl⟩,k3.trans hl⟩) ((Quz h b (hb1.lg (hl5.frz2)) (hk1f.lg hl5)).mono λ v U' ⟨⟨v1,v2,e,k1,k2⟩,hle⟩=>by
   rw [hf] at e k1 k2;rw [if_pos rfl] at k1 k2;exact⟨⟨⟨v1,v2,e,k1,k2⟩,hlx U' hle⟩,Y,hle.own.trans hM5,hPd⟩)
  have st2:=st1.sep (R':=λ v U'=>((∃v1 v2,v=.tuple #[v1,v2,.int .i64 0]/\Jd U'.frz v1 b.fatesR/\Jd U'.frz v2 b.fatesC)/\U1.frz.lg U'.frz)/\U'.M=(MB c).tail/\(∀p∈b.pl t h.cl w,Jd U'.frz p.1 p.2)/\Zi U'.frz cb c) λ v U' hs ⟨⟨⟨v1,v2,e,k1,k2⟩,k3⟩,hM,hp⟩=>by
   obtain⟨x1,z1,z2,z3⟩:=Qxx (U:={ U' with M:=(MB c).tail }) hs hM (λ _ _ h=>h) rfl rfl;have hz:U'.frz.lg x1.frz:=⟨z2.imm,⟨[],rfl⟩,z2.tok⟩;exact⟨x1,z1,⟨⟨v1,v2,e,k1.lg hz,k2.lg hz⟩,k3.trans hz⟩,z2.own,λ p hp'=>(hp p hp').lg hz,⟨_,_,z3⟩⟩
  refine st2.sep λ v U' hs ⟨⟨⟨v1,v2,e,k1,k2⟩,k3⟩,hM,hp,hbc⟩=>?_;obtain⟨x1,z1,z2,z3⟩:=Qxx (U:={ U' with M:=U1.M }) hs hM (λ _ _ h=>h) rfl rfl;have hz:U'.frz.lg x1.frz:=⟨z2.imm,⟨[],rfl⟩,z2.tok⟩;have hz1:U1.frz.lg x1.frz:=k3.trans hz;have hbc':=hbc.lg hz;refine⟨x1,z1,⟨v1,v2,e,k1.lg hz,k2.lg hz⟩,⟨λ x u hx=>z2.imm x u (k3.imm x u hx),z2.own,z2.tok.trans k3.tok⟩,⟨?_,⟨by simp [Bk.rot,ho,hcl],λ j x hx=>?_⟩,hb.rl,hb.cl,hb.rn,?_⟩,⟨_,_,z3⟩⟩
  ·exact (hb1.lg hz1).rs
  ·have hj:j<h.cl:=by have:=(List.getElem?_eq_some_iff.1 hx).1;simp [Bk.rot] at this;omega
   have hxe:x={ b.cas ((j+t) % b.cs.length) with af:=b.rotAf t j }:=by
    have:(b.rot t).cas j=x:=by simp [Bk.cas,List.getD_eq_getElem?_getD,hx]
    rw [<- this,b.rot_cas t (by omega)]
   obtain⟨ga,gl,gc,aa,al,ac,hrow,hgs,hgl,-,-⟩:=hg0 j;obtain⟨wa,wc,hwj,hwi⟩:=(hp (w j,b.rotAf t j) (List.mem_map.2 ⟨j,by simp [hj],rfl⟩)).lg hz;have hwl:(b.rotAf t j).length<=b.cs.length:=b.rotTo_len t j b.cs.length;rw [show h.cl=b.cs.length by omega] at hgs hrow;refine⟨⟨cb,0,none⟩,(g0 j).set 3 (w j),rfl,rfl,⟨ga,gl,gc,wa,(b.rotAf t j).length,wc,?_,by rw [hxe];exact hgs.lg hz1,hgl,by rw [hxe];exact hwi,by omega⟩,by rw [hrow];rfl,λ k v hv=>?_⟩
   ·rw [hrow,hxe];show [_,_,_,w j]=_;rw [show w j=_ from hwj]
   ·have hk4:k<4:=by have:=(List.getElem?_eq_some_iff.1 hv).1;rw [hrow] at this;simpa using this
    have:=hcA j k v hj hk4 (by show (if j<h.cl then _ else _)[k]?=_;rw [if_pos hj];exact hv);rw [Qo,Qo,Nat.zero_add];exact hbc'.sees this
  ·intro c' hc';obtain⟨i',hi',e'⟩:=Bk.cas_ex hc';rw [<- e',b.rot_cas t (by simpa [Bk.rot] using hi')];exact hb.cn (b.cas ((i'+t) % b.cs.length)) (Bk.mem_cas (Nat.mod_lt _ (show 0<b.cs.length by omega)))
 refine⟨_,⟨rfl,hrd _ hl5⟩,?_⟩;refine⟨Q1x.any,callF.mono ?_⟩;rintro _ U6 ⟨⟨_,_,rfl,⟨xa,xc,rfl,hX⟩,⟨ya,yc,rfl,hY⟩⟩,h6,hbo,hobB⟩ -;refine⟨_,⟨rfl,hobB.reads (λ k v hv=>by simpa using hv)⟩,?_⟩;refine⟨Q1x.any,(Quz ho (b.rot t) hbo (hk.lg (h_1.trans h6).lg)).mono ?_⟩;rintro _ U7 ⟨⟨_,_,rfl,⟨ua,uc,rfl,hU⟩,⟨va,vc,rfl,hV⟩⟩,h7⟩ -;rw [hf'] at hU hV ⊢;rw [if_pos rfl] at hU hV;rw [if_pos rfl,if_pos rfl];rw [says] at hU ⊢;rw [hf1] at hV ⊢;rw [hf2] at hY ⊢;have h17:=(h_1.trans h6).trans h7;refine⟨rfl,?_⟩;refine⟨rfl,?_⟩;refine⟨Qq4.any,(Qev xa ua _ xc _ uc _ _ ((hX.lg h7.lg.frz2).lg Qp) (hU.lg Qp) (by simp [Bk.fatesR];omega)).go λ _=>?_⟩;rw [decide_eq_true rfl]
 repeat refine⟨rfl,?_⟩
 conv=>whnf
 apply Zr<;>intro hc
 rotate_left
 ·exact absurd hc (by simp)
 repeat refine⟨rfl,?_⟩
 conv=>whnf
 apply Qe<;>intro hc
 ·exact absurd hc (by simp)
 refine⟨Nat,λ j=>[(5,.int .i64 h.cl),(6,.int .i64 t),(12,.slice ya h.cl yc),(15,.slice va h.cl vc),(17,.int .i64 j)],λ j U'=>U7.le U'/\j<=h.cl,λ j=>h.cl-j,0,⟨rfl,rfl,rfl,rfl,rfl,trivial⟩,⟨.refl _,by omega⟩,?_⟩;rintro j f U8 ⟨h8,hj⟩;have hinj:Zu ((j:Int)+1):=by unfold Zu;omega
 have hinjt:Zu ((j:Int)+(t:Int)):=by unfold Zu;omega
 have h18:=h17.trans h8
 repeat refine⟨rfl,?_⟩
 conv=>whnf
 apply Qe<;>intro hc
 ·have hlt:j<h.cl:=by simpa using hc
  have hrj:((j:Int)+(t:Int)).tmod (h.cl:Nat)=(((j+t) % h.cl:Nat):Int):=(Int.ofNat_tmod _ _).symm;obtain⟨adV,xV,hxV,heV,-,hsV⟩:=hV.at hlt;obtain⟨adY,xY,hxY,heY,-,hsY⟩:=hY.at (hml j)
  have e1:xV=xY:=by
   have q1:(b.rot t).fatesC[j]?=some ((b.rot t).fatC j):=by
    unfold Bk.fatesC;rw [List.getElem?_map,List.getElem?_range (by simp [Bk.rot];omega)];rfl
   have q2:b.fatesC[(j+t) % h.cl]?=some (b.fatC ((j+t) % h.cl)):=by
    unfold Bk.fatesC;rw [List.getElem?_map,List.getElem?_range (by rw [hcl];exact hml j)];rfl
   have q3:=sayc j (by omega);rw [hcl] at q3;rw [hxV] at q1;rw [hxY] at q2;rw [Option.some.inj q1,Option.some.inj q2,q3]
  subst e1;refine⟨adV,j,⟨heV,rfl,hlt⟩,?_⟩;refine⟨_,hsV.lg (Za3 Qp h8),?_⟩;refine⟨hinjt,?_⟩;refine⟨rfl,by omega,?_⟩;rw [hrj];refine⟨adY,(j+t) % h.cl,⟨heY,rfl,hml j⟩,?_⟩;refine⟨_,hsY.lg (h7.lg.frz2.trans (Za3 Qp h8)),?_⟩
  conv=>whnf
  intro U9 h9 _
  repeat refine⟨rfl,?_⟩
  conv=>whnf
  apply Qe<;>intro hc
  ·exact absurd hc (by simp)
  refine⟨hinj,?_⟩
  conv=>whnf
  exact⟨rfl,j+1,⟨rfl,rfl,rfl,rfl,rfl,trivial⟩,⟨h8.trans h9,by omega⟩,by show _-_<_-_;omega⟩
 refine⟨Zii.any,(fin _ h18.lg).go λ _=>?_⟩
 repeat refine⟨rfl,?_⟩
 conv=>whnf
 exact h18.lg
end Go.Proofs
