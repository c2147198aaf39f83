/- A part of the proof: lemmas that the last text uses. No conditions of its own. -/
import Derived.Test.YtebpcmdnecenlaaGreatC02
import Derived.Test.YtebpcmdnecenlaaGreatC00
set_option linter.unusedSimpArgs false
set_option linter.unusedVariables false
namespace Go.TM
theorem othF_left {t:Tbl} {tk:Talk} {x:List Int}:othF (t.prs tk) x tk.b=t.leftF tk x:=by
 unfold othF Tbl.leftF
 refine List.filter_congr λ y _=>?_
 rw [Bool.eq_iff_iff]
 unfold othP
 simp only [List.any_eq_true,Bool.and_eq_true,beq_iff_eq,Bool.not_eq_true']
 constructor
 ·rintro⟨p,hp,rfl,hx⟩
  obtain⟨h1,h2,h3⟩:=Tbl.mem_prs.1 hp
  exact⟨p,Tbl.mem_reach.2 ⟨h1,h2,by simpa using hx,by simp,h3⟩,rfl⟩
 ·rintro⟨p,hp,rfl⟩
  obtain⟨h1,h2,h3,-,h5⟩:=Tbl.mem_reach.1 hp
  exact⟨p,Tbl.mem_prs.2 ⟨h1,h2,h5⟩,rfl,by simpa using h3⟩
def Tbl.cost (t:Tbl) (tk:Talk) (l:List Int):Nat:=l.length+(t.leftF tk l).length
def Tbl.bestN (t:Tbl) (tk:Talk) (n:Nat):List Int:=((subs tk.a).take n).foldl (bestStep (t.cost tk)) []
theorem Tbl.bestN_succ {t:Tbl} {tk:Talk} {n:Nat} {l:List Int} (h:(subs tk.a)[n]?=some l):t.bestN tk (n+1)=bestStep (t.cost tk) (t.bestN tk n) l:=by
 unfold Tbl.bestN
 rw [take_at h,List.foldl_append];rfl
theorem Tbl.bestN_sub (t:Tbl) (tk:Talk):∀n,(t.bestN tk n).Sublist tk.a:=by
 intro n
 unfold Tbl.bestN
 have key:∀(ls:List (List Int)) (b:List Int),b.Sublist tk.a->(∀l∈ls,l.Sublist tk.a)->(ls.foldl (bestStep (t.cost tk)) b).Sublist tk.a:=by
  intro ls
  induction ls with
  | nil=>intro b h _;exact h
  | cons x ls ih=>
   intro b h hs
   rw [List.foldl_cons]
   refine ih _ ?_ λ l hl=>hs l (List.mem_cons_of_mem _ hl)
   unfold bestStep
   split
   ·exact hs x (List.mem_cons_self ..)
   ·exact h
 exact key _ _ (List.nil_sublist _) λ l hl=>mem_subs.1 (List.mem_of_mem_take hl)
end Go.TM
namespace Go.Proofs
open Go.TM
set_option maxRecDepth 100000
variable {T:Type} {S:TM.Sys Tryz.prog T} {σ:View T}
attribute [local irreducible] CallsV YieldV rngX
theorem Tryz.othersL_ok (pa xa ba:Option Addr) (pl pc xc bl bc:Nat) (ps:List (Int×Int)) (x b:List Int) (hp:PairsV σ.frz pa pl ps) (hpl:pl<2 ^ 60) (hx:Ints σ.frz xa x.length x) (hxl:x.length<2 ^ 60) (hb:Ints σ.frz ba bl b) (hbl:bl<=1000000) :
  CallsV S 100 #[.slice pa pl pc,.slice xa x.length xc,.slice ba bl bc] (λ v σ'=>LstV σ' v (othF ps x b)/\σ.le σ') σ:=by
 refine (Tryz.others_ok pa xa ba pl pc x.length xc bl bc ps x b (PairsV.lg hp frz_self) hpl (hx.lg frz_self) hxl (hb.lg frz_self) hbl).mono ?_
 rintro v σ' ⟨⟨_,_,rfl,rfl,hi⟩,hle⟩
 exact⟨hi,hle⟩
set_option maxHeartbeats 4000000 in
theorem Tryz.agreeR_ok (h:TH) (t:Tbl) (ht:TabV σ.frz h t) (e lv:Int) (a a':Option Addr) (len cap len' cap':Nat) (l l':List Int) (hl:Ints σ.frz a len l) (hl':Ints σ.frz a' len' l') (hlen:len<2 ^ 60) (hlen':len'<2 ^ 60) (hcap:len<=cap) :
  CallsV S 47 #[h.v,.int .i64 e,.slice a len cap,.slice a' len' cap',.int .i64 lv] (λ v σ'=>(∃va vb vp la lb lp,v=.tuple #[va,vb,vp,.int .i64 (t.talkF e l l' lv)]/\LstV σ' va la/\LstV σ' vb lb/\PairsN σ'.frz vp lp /\
   (if t.talkF e l l' lv=0 then (la,lb)=t.agr ⟨e,lv,l,l'⟩/\proofL l (t.mostT ⟨e,lv,l,l'⟩) (t.prs ⟨e,lv,l,l'⟩)=some lp else la=[]/\lb=[]/\lp=[]))/\σ.le σ') σ:=by
 refine CallsV.of (args:=[_,_,_,_,_]) Tryz.k47 Tryz.mixed (by simp) ?_
 have hll:=hl.1
 have hll':=hl'.1
 repeat refine⟨rfl,?_⟩
 conv=>whnf
 intro b σ1 h_1 hb
 have hb:Blk σ1 b #[.slice h.ea h.el h.ec,.slice h.ma h.ml h.mc,.slice h.ka h.kl h.kc]:=hb
 have ht:=ht.lg h_1.frz2
 have hl:=hl.lg h_1.frz2
 have hl':=hl'.lg h_1.frz2
 refine⟨_,⟨rfl,hb.rdT λ _ _ h=>h⟩,?_⟩
 refine⟨Tryz.k93.any,(Tryz.asked_ok h t (ht.lg frz_self) e lv a a' len cap len' cap' l l' (hl.lg frz_self) (hl'.lg frz_self) hlen hlen').go λ _=>?_⟩
 repeat refine⟨rfl,?_⟩
 conv=>whnf
 apply cb_split<;>intro hc
 ·have hf:t.talkF e l l' lv≠0:=by simpa using hc
  repeat refine⟨rfl,?_⟩
  conv=>whnf
  exact⟨⟨_,_,_,[],[],[],rfl,⟨none,0,rfl,rfl,by simp⟩,⟨none,0,rfl,rfl,by simp⟩,.nil,by rw [if_neg hf];exact⟨rfl,rfl,rfl⟩⟩,h_1⟩
 have hf:t.talkF e l l' lv=0:=by simpa using hc
 obtain⟨hfl,hed,hc1,hc2,hlv⟩:=Tbl.talk_two hf
 have l8:l.length<=8:=chk_len8 hfl hc1
 have l8':l'.length<=8:=chk_len8 hfl hc2
 have hL1:=Tbl.Lst.of hc1
 have hL2:=Tbl.Lst.of hc2
 have hn:=Tbl.prs_len t ⟨e,lv,l,l'⟩
 have hn64:l.length*l'.length<=8*8:=Nat.mul_le_mul l8 l8'
 have hn:(t.prs ⟨e,lv,l,l'⟩).length<=64:=Nat.le_trans hn hn64
 generalize htk:(⟨e,lv,l,l'⟩:Talk)=tk at *
 have e1:tk.a=l:=by rw [<- htk]
 have e2:tk.b=l':=by rw [<- htk]
 have hA:Asc tk.a:=by rw [e1];exact hL1.asc
 have hB:Asc tk.b:=by rw [e2];exact hL2.asc
 have hsub:=subs_len l
 have h256:(2:Nat) ^ l.length<=2 ^ 8:=Nat.pow_le_pow_right (by decide) l8
 refine⟨_,⟨rfl,hb.rdT λ _ _ h=>h⟩,?_⟩
 have kr:=Tryz.reach_ok (S:=S) h t (ht.lg frz_self) e lv a a' len cap len' cap' l l' (hl.lg frz_self) (hl'.lg frz_self) (by omega) (by omega)
 rw [htk] at kr
 refine⟨Tryz.k94.any,kr.mono ?_⟩
 rintro _ σ2 ⟨⟨pa,pc,rfl,hpc,hp⟩,h_2⟩ -
 have hl:=hl.lg h_2.frz2
 have hl':=hl'.lg h_2.frz2
 refine⟨Tryz.k99.any,(Tryz.subs_ok (l.length+1) l a len cap σ2 (Nat.lt_succ_self _) hl hcap l8).mono ?_⟩
 rintro _ σ3 ⟨⟨sa,sc,rfl,hs⟩,h_3⟩ -
 have hl':=hl'.lg h_3.frz2
 have hp:PairsV σ3.frz pa (t.prs tk).length (t.prs tk):=PairsV.lg hp h_3.frz2
 have hle3:=(h_1.trans h_2).trans h_3
 have hs0:0<(subs l).length:=by rw [hsub];exact Nat.pow_pos (by decide)
 obtain⟨ad0,q0,vs0,hq0,ha0,hsp0,⟨za,zn,zc,rfl,hzi,hzn⟩,-,hr0⟩:=RowsV.at hs hs0
 have hz:q0=[]:=by
  obtain⟨q,hq⟩:=subs_cons l
  rw [hq] at hq0;simp at hq0;exact hq0
 subst hz
 have hzn0:zn=0:=by have:=hzi.1;simpa using this.symm
 subst hzn0
 have hr0:=(hr0 0 _ rfl).lg frz_self
 refine⟨ad0,0,⟨ha0,rfl,hs0⟩,?_⟩
 refine⟨_,hr0,?_⟩
 refine⟨ad0,0,⟨ha0,rfl,hs0⟩,?_⟩
 refine⟨_,hr0,?_⟩
 refine⟨λ v σ'=>LstV σ' v (t.leftF tk []),λ v σ1 σ2 hv hle=>hv.le hle,λ σ' hle _=>?_,λ v hv=>?_⟩
 ·have ko:=Tryz.othersL_ok (S:=S) pa za a' _ pc zc len' cap' (t.prs tk) [] l' (PairsV.lg hp hle.frz2) (by omega) (hzi.lg hle.frz2) (by simp) (hl'.lg hle.frz2) (by omega)
  rw [<- e2,othF_left] at ko
  refine⟨Tryz.k100.any,ko.mono ?_⟩
  rintro v σ'' ⟨hv,hle'⟩ -
  exact⟨σ'',.refl _,hv,hle'⟩
 obtain⟨_,-,-,oa,oc,rfl,-⟩:=hv
 conv=>whnf
 intro σ4 h_4 hC
 have ho:Ints σ4.frz oa (t.leftF tk []).length (t.leftF tk []):=hC.2.at
 have hle4:=hle3.trans h_4
 have hl':=hl'.lg h_4.frz2
 have hp:PairsV σ4.frz pa (t.prs tk).length (t.prs tk):=PairsV.lg hp h_4.frz2
 have hs:=hs.lg h_4.frz2
 have hzi:=hzi.lg h_4.frz2
 have hcost:∀x:List Int,(t.leftF tk x).length<=8:=λ x=>by
  have:=List.length_filter_le (λ y=>(t.reach tk x []).any λ p=>p.2 == y) tk.b
  rw [e2] at this
  unfold Tbl.leftF
  rw [e2];omega
 have hbest8:∀n,(t.bestN tk n).length<=8:=λ n=>by
  have:=(t.bestN_sub tk n).length_le
  rw [e1] at this;omega
 refine⟨Nat×(Option Addr×Nat)×(Option Addr×Nat),λ y=>[(3,.slice a' len' cap'),(15,.slice pa (t.prs tk).length pc),(16,.slice sa (subs l).length sc),(17,.slice y.2.1.1 (t.bestN tk y.1).length y.2.1.2),(18,.slice y.2.2.1 (t.leftF tk (t.bestN tk y.1)).length y.2.2.2),(19,.int .i64 y.1)],
  λ y σ'=>σ4.le σ'/\y.1<=(subs l).length/\Ints σ'.frz y.2.1.1 (t.bestN tk y.1).length (t.bestN tk y.1)/\Ints σ'.frz y.2.2.1 (t.leftF tk (t.bestN tk y.1)).length (t.leftF tk (t.bestN tk y.1)),
  λ y=>(subs l).length-y.1,(0,(za,zc),(oa,oc)),⟨rfl,rfl,rfl,rfl,rfl,rfl,trivial⟩,⟨.refl _,Nat.zero_le _,hzi,ho⟩,?_⟩
 rintro⟨i,⟨ba,bc⟩,⟨ua,uc⟩⟩ f σ5 ⟨h_5,hi,hbi,hui⟩
 simp only at hi hbi hui
 have hle5:=hle4.trans h_5
 have hl':=hl'.lg h_5.frz2
 have hp:PairsV σ5.frz pa (t.prs tk).length (t.prs tk):=PairsV.lg hp h_5.frz2
 have hs:=hs.lg h_5.frz2
 have g1:=hbest8 i
 have g2:=hcost (t.bestN tk i)
 repeat refine⟨rfl,?_⟩
 conv=>whnf
 apply cb_split<;>intro hc
 ·have hlt:i<(subs l).length:=by simpa using hc
  have hin:InR ((i:Int)+1):=by unfold InR;omega
  obtain⟨ad,q,vs,hq,hqa,hsp,⟨qa,qn,qc,rfl,hqi,hqn⟩,-,hrd⟩:=RowsV.at hs hlt
  obtain rfl:qn=q.length:=hqi.1.symm
  have hq8:q.length<=8:=by have:=(mem_subs.1 (List.mem_of_getElem? hq)).length_le;omega
  have hrd0:=hrd 0 _ rfl
  have hstep:=Tbl.bestN_succ (t:=t) (tk:=tk) (n:=i) (l:=q) (by rw [e1];exact hq)
  have ko:=Tryz.othersL_ok (S:=S) (σ:=σ5) pa qa a' _ pc qc len' cap' (t.prs tk) q l' hp (by omega) hqi (by omega) hl' (by omega)
  rw [<- e2,othF_left] at ko
  refine⟨ad,i,⟨hqa,rfl,hlt⟩,?_⟩
  refine⟨_,hrd0.lg frz_self,?_⟩
  refine⟨Tryz.k100.any,ko.mono ?_⟩
  rintro _ σ6 ⟨⟨wa,wc,rfl,hwi⟩,h_6⟩ -
  have hrd6:=(hrd0.lg h_6.frz2).lg (frz_self (σ:=σ6))
  have g3:=hcost q
  refine⟨ad,i,⟨hqa,rfl,hlt⟩,?_⟩
  refine⟨_,hrd6,?_⟩
  refine⟨by unfold InR;omega,?_⟩
  refine⟨by show InR ((((t.bestN tk i).length:Nat):Int)+(((t.leftF tk (t.bestN tk i)).length:Nat):Int));unfold InR;omega,?_⟩
  repeat refine⟨rfl,?_⟩
  conv=>whnf
  by_cases hless:t.cost tk q<t.cost tk (t.bestN tk i)
  ·have hb1:t.bestN tk (i+1)=q:=by rw [hstep];unfold bestStep;rw [if_pos hless]
   rw [show decide ((((q.length:Nat):Int)+(((t.leftF tk q).length:Nat):Int))<(((t.bestN tk i).length:Nat):Int)+(((t.leftF tk (t.bestN tk i)).length:Nat):Int))=true from decide_eq_true (by unfold Tbl.cost at hless;omega)]
   refine⟨ad,i,⟨hqa,rfl,hlt⟩,?_⟩
   refine⟨_,hrd6,?_⟩
   refine⟨hin,?_⟩
   refine⟨rfl,(i+1,(qa,qc),(wa,wc)),?_,⟨h_5.trans h_6,by simp only;omega,?_,?_⟩,by show _-_<_-_;omega⟩
   ·simp only [hb1]
    exact⟨rfl,rfl,rfl,rfl,rfl,rfl,trivial⟩
   ·simp only [hb1];exact hqi.lg h_6.frz2
   ·simp only [hb1];exact hwi
  ·have hb1:t.bestN tk (i+1)=t.bestN tk i:=by rw [hstep];unfold bestStep;rw [if_neg hless]
   rw [show decide ((((q.length:Nat):Int)+(((t.leftF tk q).length:Nat):Int))<(((t.bestN tk i).length:Nat):Int)+(((t.leftF tk (t.bestN tk i)).length:Nat):Int))=false from decide_eq_false (by unfold Tbl.cost at hless;omega)]
   refine⟨hin,?_⟩
   refine⟨rfl,(i+1,(ba,bc),(ua,uc)),?_,⟨h_5.trans h_6,by simp only;omega,?_,?_⟩,by show _-_<_-_;omega⟩
   ·simp only [hb1]
    exact⟨rfl,rfl,rfl,rfl,rfl,rfl,trivial⟩
   ·simp only [hb1];exact hbi.lg h_6.frz2
   ·simp only [hb1];exact hui.lg h_6.frz2
 ·have hge:(subs l).length<=i:=by simpa using hc
  have hall:t.bestN tk i=(subs tk.a).foldl (bestStep λ l=>l.length+(t.leftF tk l).length) []:=by
   unfold Tbl.bestN
   rw [e1,List.take_of_length_le hge];rfl
  have hbst:=Tbl.spec_best (t:=t) hA hB hall
  obtain⟨u1,u2⟩:=hbst.uniq (Tbl.agr_best (t:=t) hA hB)
  have hmost:(t.bestN tk i).length+(t.leftF tk (t.bestN tk i)).length=t.mostT tk:=hbst.len
  have hm16:t.mostT tk<=16:=by omega
  have hmatch:matchedL (t.mostT tk) (t.prs tk) (-1) []=proofL tk.a (t.mostT tk) (t.prs tk):=by
   have h0:∀x∈tk.a,0<=x:=by rw [e1];exact λ x hx=>(hL1.lt hfl x hx).1
   have k:=(matched_eq (la:=tk.a) hA.nodup (t.mostT tk) (t.prs tk) (-1) [] (Tbl.prs_sorted hA) (λ p hp=>(Tbl.mem_prs.1 hp).1)).1
   have e:(t.prs tk).filter (freeP (-1) [])=t.prs tk:=List.filter_eq_self.2 λ p hp=>by
    have:=h0 _ (Tbl.mem_prs.1 hp).1
    unfold freeP
    simp
    omega
   rw [e] at k
   exact k.trans (if_pos (show t.mostT tk<=most tk.a (t.prs tk) from Nat.le_refl _))
  have hsome:=Tbl.proof_some (t:=t) (tk:=tk) hA (by rw [e1];exact λ x hx=>(hL1.lt hfl x hx).1)
  refine⟨by show InR ((((t.bestN tk i).length:Nat):Int)+(((t.leftF tk (t.bestN tk i)).length:Nat):Int));unfold InR;omega,?_⟩
  rw [show (((t.bestN tk i).length:Nat):Int)+(((t.leftF tk (t.bestN tk i)).length:Nat):Int)=((t.mostT tk:Nat):Int) by omega]
  refine⟨Tryz.k101.any,(Tryz.matched_ok (t.mostT tk) (t.prs tk) (-1) [] pa _ pc none 0 0 σ5 hp hpc (by omega) ⟨rfl,by simp⟩ (by simp only [List.length_nil];omega)).mono ?_⟩
  rintro v σ6 ⟨hv,h_6⟩ -
  rcases hv with⟨L,v1,hm,rfl,qa,qc,rfl,hqc,hqr⟩ | ⟨hm,-⟩
  ·rw [hmatch] at hm
   repeat refine⟨rfl,?_⟩
   refine⟨⟨_,_,_,t.bestN tk i,t.leftF tk (t.bestN tk i),L,by rw [hf];rfl,⟨ba,bc,rfl,hbi.lg h_6.frz2⟩,⟨ua,uc,rfl,hui.lg h_6.frz2⟩,⟨qa,qc,rfl,hqc,hqr⟩,?_⟩,hle5.trans h_6⟩
   rw [if_pos hf,u2,u1]
   rw [e1] at hm
   exact⟨rfl,hm⟩
  ·rw [hmatch] at hm
   rw [hm] at hsome
   cases hsome
end Go.Proofs
