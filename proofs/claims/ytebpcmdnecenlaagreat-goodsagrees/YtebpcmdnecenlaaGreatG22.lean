/- A part of the proof: lemmas that the last text uses. No conditions of its own. -/
import Derived.Test.YtebpcmdnecenlaaGreatG17
import Derived.Test.YtebpcmdnecenlaaGreatG18
import Derived.Test.YtebpcmdnecenlaaGreatG20
import Derived.Test.YtebpcmdnecenlaaGreatG21
import Derived.Test.YtebpcmdnecenlaaGreatG02
set_option linter.unusedSimpArgs false
set_option linter.unusedVariables false
namespace Go.Proofs
open Go.TM
section
set_option maxRecDepth 100000
theorem Tryz.addV {b:Nat} {ds:List TM.Spec} {σ:View Tk} (hN:ds.length<2) (ht:σ.tok=⟨0,.par b ds false .run⟩) {Q:Value->View Tk->Prop} (hq:Q (.tuple #[]) (σ.at 0 (.par b ds true .run))) :
  CallsV (SysG Tryz.prog 164 2) 121 #[.pointer (some ⟨b,0,none⟩),.int .i64 1] Q σ:=by
 intro Stop m c cs k
 have kk:=k _ _ hq
 have hb:∀d p,(σ.at d (.par b ds p .run)).tok.ph.blk=some b:=λ _ _=>rfl
 show J _ Stop m (Tryz.ad0 b m c cs) σ
 refine J.calm (b:=b) (by rw [ht];rfl) (Tryz.ad0_c b m c cs) allB_nil ?_
 show J _ Stop m (Tryz.ad1 b m c cs) σ
 refine J.dis ht (Tryz.ad1_i b m c cs) ?_
 show J _ Stop m (Tryz.ad2 b m c cs) _
 refine J.calm (hb 1 false) (Tryz.ad2_c b m c cs) allB_nil ?_
 show J _ Stop m (Tryz.ad3 b m c cs) _
 refine J.add rfl hN λ j hj=>?_
 obtain rfl | rfl:j=0\/j=1:=by omega
 ·refine⟨Tryz.ad3_0 b m c cs,?_⟩
  show J _ Stop m (Tryz.ad4_0 b m c cs) _
  refine J.calm (hb 1 true) (Tryz.ad4_0c b m c cs) allB_two ?_
  show J _ Stop m (Tryz.ad4_0x b m c cs) _
  refine J.said false rfl (Tryz.ad4_0r b m c cs) ?_
  show J _ Stop m (Tryz.ad4_0y b m c cs) _
  refine J.calm (hb 1 true) (Tryz.ad4_0d b m c cs) allB_nil ?_
  show J _ Stop m (Tryz.ad4_0z b m c cs) _
  refine J.ena rfl (Tryz.ad4_0e b m c cs) ?_
  show J _ Stop m (Tryz.ad4_0w b m c cs) _
  refine J.calm (hb 0 true) (Tryz.ad4_0f b m c cs) allB_nil ?_
  rw [Tryz.ad4_0g]
  exact kk
 ·refine⟨Tryz.ad3_1 b m c cs,?_⟩
  show J _ Stop m (Tryz.ad4_1 b m c cs) _
  refine J.calm (hb 1 true) (Tryz.ad4_1c b m c cs) allB_nil ?_
  show J _ Stop m (Tryz.ad4_1z b m c cs) _
  refine J.ena rfl (Tryz.ad4_1e b m c cs) ?_
  show J _ Stop m (Tryz.ad4_1w b m c cs) _
  refine J.calm (hb 0 true) (Tryz.ad4_1f b m c cs) allB_nil ?_
  rw [Tryz.ad4_1g]
  exact kk
section
variable {b:Nat} {m:Bool} {c:Frame} {cs:List Frame} {ds:List TM.Spec} {σ:View Tk} {Stop:Stp Tk}
theorem Tryz.wz_j (x:Nat->Value) (kf:∀Ms,Deps ds Ms->J (SysG Tryz.prog 164 2) Stop m (Rf (c.finish (.tuple #[])) cs) ((σ.with Ms.flatten).at 0 .out)):J (SysG Tryz.prog 164 2) Stop m (Tryz.wz1 b m c cs x) (σ.at 1 (.par b ds false .up)):=by
 have hb:∀d,(σ.at d (.par b ds false .up)).tok.ph.blk=some b:=λ _=>rfl
 refine J.calm (hb 1) (Tryz.wz1_c b m c cs x) allB_nil ?_
 show J _ Stop m (Tryz.wz2 b m c cs x) _
 refine J.ena rfl (Tryz.wz2_i b m c cs x) ?_
 show J _ Stop m (Tryz.wz3 b m c cs x) _
 refine J.calm (hb 0) (Tryz.wz3_c b m c cs x) allB_two ?_
 show J _ Stop m (Tryz.wz4 b m c cs x) _
 refine J.acq rfl (Tryz.wz4_i b m c cs x) λ Ms hM=>?_
 show J _ Stop m (Tryz.wz5 b m c cs x) _
 refine J.calm0 (Tryz.wz5_c b m c cs x) ?_
 rw [Tryz.wz5_e]
 exact kf Ms hM
theorem Tryz.w1_j (x:Nat->Value) (kf:∀Ms,Deps ds Ms->J (SysG Tryz.prog 164 2) Stop m (Rf (c.finish (.tuple #[])) cs) ((σ.with Ms.flatten).at 0 .out)) (ih:∀j,j<1->∀x,J (SysG Tryz.prog 164 2) Stop m (Tryz.wl b m c cs x) (σ.at 1 (.par b ds false (.seen j)))) :
  J (SysG Tryz.prog 164 2) Stop m (Tryz.w1a b m c cs x) (σ.at 1 (.par b ds false (.seen 1))):=by
 have hb:∀d p,(σ.at d (.par b ds false p)).tok.ph.blk=some b:=λ _ _=>rfl
 refine J.calm (hb 1 _) (Tryz.w1a_c b m c cs x) allB_nil ?_
 show J _ Stop m (Tryz.w1b b m c cs x) _
 refine J.cas (u:=1) rfl (.inr rfl) (stepE_running (SE.of_info (g:=Tryz.w1b b m c cs x) (Tryz.w1b_0 b m c cs x))) λ j hj=>?_
 obtain rfl | rfl:j=0\/j=1:=by omega
 ·refine .inl ⟨_,allB_three,Tryz.w1b_0 b m c cs x,?_⟩
  show J _ Stop m (Tryz.w1f b m c cs x) _
  refine J.calm (hb 1 _) (Tryz.w1f_c b m c cs x) allB_nil ?_
  rw [Tryz.w1f_e]
  exact ih 0 (by omega) _
 ·refine .inr ⟨by omega,_,allB_four,Tryz.w1b_i b m c cs x,?_⟩
  show J _ Stop m (Tryz.w1c b m c cs x) _
  refine J.calm (hb 1 _) (Tryz.w1c_c b m c cs x) allB_two ?_
  show J _ Stop m (Tryz.w1d b m c cs x) _
  refine J.said true rfl (Tryz.w1d_i b m c cs x) ?_
  show J _ Stop m (Tryz.w1e b m c cs x) _
  refine J.calm (hb 1 _) (Tryz.w1e_c b m c cs x) allB_nil ?_
  show J _ Stop m (Tryz.w1g b m c cs x) _
  refine .syn (Syn.sema (Tryz.w1g_r b m c cs x) (Tryz.w1g_o b m c cs x) rfl (λ st=>⟨_,allB_one,Tryz.w1g_b b m c cs x st⟩) ⟨_,_,allB_two,SE.of_info (g:=Tryz.w1g b m c cs x) (Tryz.w1g_i b m c cs x),?_⟩)
  show J _ Stop m (Tryz.w1h b m c cs x) (σ.at 1 (.par b ds false .up))
  refine J.calm (hb 1 _) (Tryz.w1h_c b m c cs x) allB_nil ?_
  show J _ Stop m (Tryz.w1i b m c cs x) _
  refine J.look2 rfl allB_one (Tryz.w1i_i b m c cs x) ?_
  show J _ Stop m (Tryz.w1j b m c cs x) _
  refine J.calm (hb 1 _) (Tryz.w1j_c b m c cs x) allB_nil ?_
  show J _ Stop m (Tryz.w1k b m c cs x) _
  refine J.ena rfl (Tryz.w1k_i b m c cs x) ?_
  show J _ Stop m (Tryz.w1m b m c cs x) _
  refine J.calm (hb 0 _) (Tryz.w1m_c b m c cs x) allB_two ?_
  show J _ Stop m (Tryz.w1n b m c cs x) _
  refine J.acq rfl (Tryz.w1n_i b m c cs x) λ Ms hM=>?_
  show J _ Stop m (Tryz.w1o b m c cs x) _
  refine J.calm0 (Tryz.w1o_c b m c cs x) ?_
  rw [Tryz.w1o_e]
  exact kf Ms hM
theorem Tryz.w2_j (x:Nat->Value) (kf:∀Ms,Deps ds Ms->J (SysG Tryz.prog 164 2) Stop m (Rf (c.finish (.tuple #[])) cs) ((σ.with Ms.flatten).at 0 .out)) (ih:∀j,j<2->∀x,J (SysG Tryz.prog 164 2) Stop m (Tryz.wl b m c cs x) (σ.at 1 (.par b ds false (.seen j)))) :
  J (SysG Tryz.prog 164 2) Stop m (Tryz.w2a b m c cs x) (σ.at 1 (.par b ds false (.seen 2))):=by
 have hb:∀d p,(σ.at d (.par b ds false p)).tok.ph.blk=some b:=λ _ _=>rfl
 refine J.calm (hb 1 _) (Tryz.w2a_c b m c cs x) allB_nil ?_
 show J _ Stop m (Tryz.w2b b m c cs x) _
 refine J.cas (u:=2) rfl (.inr rfl) (stepE_running (SE.of_info (g:=Tryz.w2b b m c cs x) (Tryz.w2b_0 b m c cs x))) λ j hj=>?_
 obtain rfl | rfl | rfl:j=0\/j=1\/j=2:=by omega
 ·refine .inl ⟨_,allB_three,Tryz.w2b_0 b m c cs x,?_⟩
  show J _ Stop m (Tryz.w2f b m c cs x) _
  refine J.calm (hb 1 _) (Tryz.w2f_c b m c cs x) allB_nil ?_
  rw [Tryz.w2f_e]
  exact ih 0 (by omega) _
 ·refine .inl ⟨_,allB_three,Tryz.w2b_1 b m c cs x,?_⟩
  rw [Tryz.w2b_1e]
  show J _ Stop m (Tryz.w2f b m c cs x) _
  refine J.calm (hb 1 _) (Tryz.w2f_c b m c cs x) allB_nil ?_
  rw [Tryz.w2f_e]
  exact ih 1 (by omega) _
 ·refine .inr ⟨by omega,_,allB_four,Tryz.w2b_i b m c cs x,?_⟩
  show J _ Stop m (Tryz.w2c b m c cs x) _
  refine J.calm (hb 1 _) (Tryz.w2c_c b m c cs x) allB_two ?_
  show J _ Stop m (Tryz.w2d b m c cs x) _
  refine J.said true rfl (Tryz.w2d_i b m c cs x) ?_
  show J _ Stop m (Tryz.w2e b m c cs x) _
  refine J.calm (hb 1 _) (Tryz.w2e_c b m c cs x) allB_nil ?_
  show J _ Stop m (Tryz.w2g b m c cs x) _
  refine .syn (Syn.sema (Tryz.w2g_r b m c cs x) (Tryz.w2g_o b m c cs x) rfl (λ st=>⟨_,allB_one,Tryz.w2g_b b m c cs x st⟩) ⟨_,_,allB_two,SE.of_info (g:=Tryz.w2g b m c cs x) (Tryz.w2g_i b m c cs x),?_⟩)
  show J _ Stop m (Tryz.w2h b m c cs x) (σ.at 1 (.par b ds false .up))
  refine J.calm (hb 1 _) (Tryz.w2h_c b m c cs x) allB_nil ?_
  show J _ Stop m (Tryz.w2i b m c cs x) _
  refine J.look2 rfl allB_one (Tryz.w2i_i b m c cs x) ?_
  show J _ Stop m (Tryz.w2j b m c cs x) _
  refine J.calm (hb 1 _) (Tryz.w2j_c b m c cs x) allB_nil ?_
  show J _ Stop m (Tryz.w2k b m c cs x) _
  refine J.ena rfl (Tryz.w2k_i b m c cs x) ?_
  show J _ Stop m (Tryz.w2m b m c cs x) _
  refine J.calm (hb 0 _) (Tryz.w2m_c b m c cs x) allB_two ?_
  show J _ Stop m (Tryz.w2n b m c cs x) _
  refine J.acq rfl (Tryz.w2n_i b m c cs x) λ Ms hM=>?_
  show J _ Stop m (Tryz.w2o b m c cs x) _
  refine J.calm0 (Tryz.w2o_c b m c cs x) ?_
  rw [Tryz.w2o_e]
  exact kf Ms hM
theorem Tryz.wl_j (kf:∀Ms,Deps ds Ms->J (SysG Tryz.prog 164 2) Stop m (Rf (c.finish (.tuple #[])) cs) ((σ.with Ms.flatten).at 0 .out)):∀(u:Nat) (k0:PS),u<=2->SeenBy ds u k0->∀x,J (SysG Tryz.prog 164 2) Stop m (Tryz.wl b m c cs x) (σ.at 1 (.par b ds false k0)):=by
 intro u
 induction u using Nat.strongRecOn with
 | _ u ih=>
  intro k0 hu hk x
  refine J.load (u:=u) rfl hk λ j hj=>?_
  have ih':∀i,i<j->∀x,J (SysG Tryz.prog 164 2) Stop m (Tryz.wl b m c cs x) (σ.at 1 (.par b ds false (.seen i))):=λ i hi x=>ih i (by omega) (.seen i) (by omega) (.inr rfl) x
  obtain rfl | rfl | rfl:j=0\/j=1\/j=2:=by omega
  ·exact⟨Tryz.wl_0 b m c cs x,.inr ⟨rfl,Tryz.wz_j x kf⟩⟩
  ·exact⟨Tryz.w1l b m c cs x,.inl (Tryz.w1_j x kf ih')⟩
  ·exact⟨Tryz.w2l b m c cs x,.inl (Tryz.w2_j x kf ih')⟩
end
theorem Tryz.waitV {b:Nat} {ds:List TM.Spec} {σ:View Tk} (hN:ds.length<=2) (ht:σ.tok=⟨0,.par b ds false .run⟩) {Q:Value->View Tk->Prop} (hq:∀Ms,Deps ds Ms->Q (.tuple #[]) ((σ.with Ms.flatten).at 0 .out)) :
  CallsV (SysG Tryz.prog 164 2) 125 #[.pointer (some ⟨b,0,none⟩)] Q σ:=by
 intro Stop m c cs k
 show J _ Stop m (Tryz.wa0 b m c cs) σ
 refine J.calm (b:=b) (by rw [ht];rfl) (Tryz.wa0_c b m c cs) allB_nil ?_
 show J _ Stop m (Tryz.wa1 b m c cs) σ
 refine J.dis ht (Tryz.wa1_i b m c cs) ?_
 show J _ Stop m (Tryz.wa2 b m c cs) _
 refine J.calm (b:=b) rfl (Tryz.wa2_c b m c cs) allB_nil ?_
 show J _ Stop m (Tryz.wa3 b m c cs) _
 rw [Tryz.wa3_eq]
 exact Tryz.wl_j (λ Ms hM=>k _ _ (hq Ms hM)) ds.length .run hN (.inl ⟨rfl,rfl⟩) _
end
end Go.Proofs
