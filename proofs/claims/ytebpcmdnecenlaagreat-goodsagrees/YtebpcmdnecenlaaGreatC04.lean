/- A part of the proof: lemmas that the last text uses. No conditions of its own. -/
import Derived.Test.YtebpcmdnecenlaaGreatG28
import Derived.Test.YtebpcmdnecenlaaGreatC03
import Derived.Test.YtebpcmdnecenlaaGreatC02
import Derived.Test.YtebpcmdnecenlaaGreatG30
import Derived.Test.YtebpcmdnecenlaaGreatG08
import Derived.Test.YtebpcmdnecenlaaGreatG09
import Derived.Test.YtebpcmdnecenlaaGreatG10
import Derived.Test.YtebpcmdnecenlaaGreatC00
set_option linter.unusedSimpArgs false
set_option linter.unusedVariables false
namespace Go.Proofs
open Go.TM
set_option maxRecDepth 100000
attribute [local irreducible] CallsV YieldV rngX
set_option maxHeartbeats 4000000 in
theorem Tryz.goodsAgrees_top {σ:View Tk} (htok:σ.tok=⟨0,.out⟩) (h:TH) (t:Tbl) (ht:TabV σ.frz h t) (ed:Int) (a:Option Addr) (len cap:Nat) (l:List Int) (hl:Ints σ.frz a len l) (hlen:len<2 ^ 60) (hcap:len<=cap)
  (a':Option Addr) (len' cap':Nat) (l':List Int) (hl':Ints σ.frz a' len' l') (hlen':len'<2 ^ 60) (hcap':len'<=cap') (lv:Int) :
  J (SysG Tryz.prog 164 2) (Fin Tryz.prog λ v σ'=>v=.bool true/\σ.lg σ') true (Rf (Frame.enter Tryz.prog 7 #[h.v,.int .i64 ed,.slice a len cap,.slice a' len' cap',.int .i64 lv] .normal) []) σ:=by
 have _:=hcap'
 refine top_of (args:=[_,_,_,_,_]) (Q:=λ v σ'=>v=.bool true/\σ.lg σ') Tryz.k7 Tryz.mixed (by kernel_rfl) (by simp) (λ v σ' q=>q.2.tok.trans htok) ?_
 repeat refine⟨rfl,?_⟩
 conv=>whnf
 intro b σ1 h_1 hb
 have hb:Blk σ1 b #[.slice h.ea h.el h.ec,.slice h.ma h.ml h.mc,.slice h.ka h.kl h.kc]:=hb
 have ht:=ht.lg h_1.frz2
 have hl:=hl.lg h_1.frz2
 have hl':=hl'.lg h_1.frz2
 have stocks:∀σ2:View Tk,σ.le σ2->CallsV (SysG Tryz.prog 164 2) 26 #[] (λ v σ'=>v=.bool true/\σ'=σ2) σ2:=λ σ2 h=>Tryz.stocks_ok (h.tok.trans htok)
 refine⟨_,⟨rfl,hb.rdT λ _ _ h=>h⟩,?_⟩
 refine⟨Tryz.k24.any,(Tryz.big_ok h t (ht.lg frz_self)).mono ?_⟩
 rintro _ σ' ⟨⟨B,rfl⟩,hσ'⟩ -
 obtain rfl:=hσ'.symm
 cases B with
 | true=>
  refine⟨Tryz.k26.any,(stocks _ h_1).go λ _=>?_⟩
  repeat refine⟨rfl,?_⟩
  conv=>whnf
  exact h_1.lg
 | false=>
 conv=>whnf
 intro b24 hf24
 refine put_new hf24 λ σ2 h_2 hb24=>?_
 have hb24:Blk σ2 b24 #[.slice a len cap,.slice a' len' cap']:=hb24
 have hle_2:=h_1.trans h_2
 have hb:=hb.le h_2
 have ht:=ht.lg h_2.frz2
 have hl:=hl.lg h_2.frz2
 have hl':=hl'.lg h_2.frz2
 refine⟨Tryz.k25.any,(Tryz.long2_ok (some ⟨b24,0,none⟩) 2 2 [l,l'] (.two hb24 (hl.lg frz_self) (hl'.lg frz_self) hlen hlen') (by omega)).mono ?_⟩
 rintro _ σ' ⟨⟨B',rfl,hB'⟩,hσ'⟩ -
 obtain rfl:=hσ'.symm
 cases B' with
 | true=>
  refine⟨Tryz.k26.any,(stocks _ hle_2).go λ _=>?_⟩
  repeat refine⟨rfl,?_⟩
  conv=>whnf
  exact hle_2.lg
 | false=>
 have kA:=Tryz.Agree_ok (S:=SysG Tryz.prog 164 2) h t ht ed lv a a' len cap len' cap' l l' hl hl' hlen hlen' (λ hT=>by
   obtain⟨hfl,hed,hc1,hc2,hlv⟩:=Tbl.talk_two hT
   exact Tbl.proof_some (tk:=⟨ed,lv,l,l'⟩) (Tbl.Lst.of hc1).asc λ x hx=>((Tbl.Lst.of hc1).lt hfl x hx).1) (λ hT x=>by
   obtain⟨hfl,hed,hc1,hc2,hlv⟩:=Tbl.talk_two hT
   exact Nat.le_trans (t.reach_len ⟨ed,lv,l,l'⟩ x []) (Nat.mul_le_mul (chk_len8 hfl hc1) (chk_len8 hfl hc2)))
 refine⟨_,⟨rfl,hb.rdT λ _ _ h=>h⟩,?_⟩
 refine⟨Tryz.k46.any,kA.mono ?_⟩
 rintro _ σ3 ⟨⟨_,_,_,la,lb,lp,rfl,⟨xa,xc,rfl,-,hx⟩,⟨ya,yc,rfl,-,hy⟩,⟨pa,pc,rfl,hpc,hp⟩,hq⟩,h_3⟩ -
 have hle3:=hle_2.trans h_3
 have hb:=hb.le h_3
 have ht:=ht.lg h_3.frz2
 have hl:=hl.lg h_3.frz2
 have hl':=hl'.lg h_3.frz2
 refine⟨_,⟨rfl,hb.rdT λ _ _ h=>h⟩,?_⟩
 refine⟨Tryz.k47.any,(Tryz.agreeR_ok h t ht ed lv a a' len cap len' cap' l l' hl hl' hlen hlen' hcap).mono ?_⟩
 rintro _ σ4 ⟨⟨_,_,_,ma,mb,mp,rfl,⟨ua,uc,rfl,hu⟩,⟨va,vc,rfl,hv⟩,⟨qa,qc,rfl,hqc,hqr⟩,hr⟩,h_4⟩ -
 have hle4:=hle3.trans h_4
 have hx:=hx.lg h_4.frz2
 have hy:=hy.lg h_4.frz2
 have hp:PairsV σ4.frz pa lp.length lp:=PairsV.lg hp h_4.frz2
 have hqr:PairsV σ4.frz qa mp.length mp:=hqr
 obtain⟨rfl,rfl,rfl,n1,n2,n3⟩:la=ma/\lb=mb/\lp=mp/\la.length<=1000/\lb.length<=1000/\lp.length<=1000:=by
  by_cases hT:t.talkF ed l l' lv=0
  ·rw [if_pos hT] at hq hr
   obtain⟨e1,e2⟩:=hq
   obtain⟨e3,e4⟩:=hr
   obtain⟨hfl,hed,hc1,hc2,hlv⟩:=Tbl.talk_two hT
   have L1:=Tbl.Lst.of hc1
   have L2:=Tbl.Lst.of hc2
   have e5:=e1.trans e3.symm
   have e6:some lp=some mp:=e2.symm.trans e4
   have s1:=(Tbl.agr_one (t:=t) (tk:=⟨ed,lv,l,l'⟩) L1.asc L2.asc).length_le
   have s2:=(Tbl.agr_two (t:=t) (tk:=⟨ed,lv,l,l'⟩) L1.asc L2.asc).length_le
   have s3:=Tbl.agr_len (t:=t) (tk:=⟨ed,lv,l,l'⟩) L1.asc L2.asc
   have s4:=(proofL_apart (Tbl.prs_sorted (t:=t) (tk:=⟨ed,lv,l,l'⟩) L1.asc) e2).1
   rw [<- e1] at s1 s2 s3
   have k1:=L1.len hfl
   have k2:=L2.len hfl
   simp only at s1 s2 s3
   exact⟨(Prod.mk.inj e5).1,(Prod.mk.inj e5).2,Option.some.inj e6,by omega,by omega,by omega⟩
  ·rw [if_neg hT] at hq hr
   obtain⟨rfl,rfl,rfl⟩:=hq
   obtain⟨rfl,rfl,rfl⟩:=hr
   exact⟨rfl,rfl,rfl,by simp,by simp,by simp⟩
 have ks:=Tryz.samePairs_ok (S:=SysG Tryz.prog 164 2) (σ:=σ4) pa qa _ pc _ qc lp lp (PairsV.lg hp frz_self) (PairsV.lg hqr frz_self) (by omega)
 rw [decide_eq_true rfl] at ks
 refine⟨Tryz.k33.any,(Tryz.sameT_ok hx hu n1 n1 rfl).go λ _=>?_⟩
 refine⟨Tryz.k33.any,(Tryz.sameT_ok hy hv n2 n2 rfl).go λ _=>?_⟩
 refine⟨Tryz.k45.any,ks.go λ _=>?_⟩
 repeat refine⟨rfl,?_⟩
 conv=>whnf
 rw [show (t.talkF ed l l' lv == t.talkF ed l l' lv)=true by simp]
 refine⟨Tryz.k26.any,(stocks _ hle4).go λ _=>?_⟩
 repeat refine⟨rfl,?_⟩
 conv=>whnf
 exact hle4.lg
end Go.Proofs
