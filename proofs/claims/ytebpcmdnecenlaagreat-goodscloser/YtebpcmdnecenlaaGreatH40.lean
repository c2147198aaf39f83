/- A part of the proof: lemmas that the last text uses. No conditions of its own. -/
import Derived.Test.YtebpcmdnecenlaaGreatH29
import Derived.Test.YtebpcmdnecenlaaGreatH30
import Derived.Test.YtebpcmdnecenlaaGreatH32
import Derived.Test.YtebpcmdnecenlaaGreatH33
import Derived.Test.YtebpcmdnecenlaaGreatH34
import Derived.Test.YtebpcmdnecenlaaGreatH35
import Derived.Test.YtebpcmdnecenlaaGreatH36
import Derived.Test.YtebpcmdnecenlaaGreatH37
import Derived.Test.YtebpcmdnecenlaaGreatH38
import Derived.Test.YtebpcmdnecenlaaGreatH39
import Derived.Test.YtebpcmdnecenlaaGreatH02
set_option linter.unusedSimpArgs false
set_option linter.unusedVariables false
namespace Go.Proofs
open Go.TM
section
set_option maxRecDepth 100000
theorem Tryz.addV {b:Nat} {ds:List TM.Spec} {Z:View Tk} (hN:ds.length<8) (ht:Z.tok=⟨0,.par b ds false .run⟩) {Q:Value->View Tk->Prop} (hq:Q (.tuple #[]) (Z.at 0 (.par b ds true .run))) :
  CallsV (SysG Tryz.prog 164 8) 121 #[.pointer (some ⟨b,0,none⟩),.int .i64 1] Q Z:=by
 intro Stop m c cs k
 have kk:=k _ _ hq
 have hb:∀d p,(Z.at d (.par b ds p .run)).tok.ph.blk=some b:=λ _ _=>rfl
 show J _ Stop m (Tryz.ad0 b m c cs) Z
 refine J.calm (b:=b) (by rw [ht];rfl) (Tryz.ad0_c b m c cs) allB_nil ?_
 show J _ Stop m (Tryz.ad1 b m c cs) Z
 refine J.dis ht (Tryz.ad1_i b m c cs) ?_
 show J _ Stop m (Tryz.ad2 b m c cs) _
 refine J.calm (hb 1 false) (Tryz.ad2_c b m c cs) allB_nil ?_
 show J _ Stop m (Tryz.ad3 b m c cs) _
 refine J.add rfl hN λ j hj=>?_
 obtain rfl | rfl | rfl | rfl | rfl | rfl | rfl | rfl:j=0\/j=1\/j=2\/j=3\/j=4\/j=5\/j=6\/j=7:=by omega
 ·refine⟨Tryz.ad3_0 b m c cs,?_⟩
  show J _ Stop m (Tryz.ad4_0 b m c cs) _
  refine J.calm (hb 1 true) (Tryz.ad4_0c b m c cs) allB_two ?_
  show J _ Stop m (Tryz.ad4_0x b m c cs) _
  refine J.said false rfl (Tryz.ad4_0r b m c cs) ?_
  show J _ Stop m (Tryz.ad4_0y b m c cs) _
  refine J.calm (hb 1 true) (Tryz.ad4_0d b m c cs) allB_nil ?_
  show J _ Stop m (Tryz.ad4_0z b m c cs) _
  refine J.ena rfl (Tryz.ad4_0e b m c cs) ?_
  show J _ Stop m (Tryz.ad4_0w b m c cs) _
  refine J.calm (hb 0 true) (Tryz.ad4_0f b m c cs) allB_nil ?_
  rw [Tryz.ad4_0g]
  exact kk
 ·refine⟨Tryz.ad3_1 b m c cs,?_⟩
  show J _ Stop m (Tryz.ad4_1 b m c cs) _
  refine J.calm (hb 1 true) (Tryz.ad4_1c b m c cs) allB_nil ?_
  show J _ Stop m (Tryz.ad4_1z b m c cs) _
  refine J.ena rfl (Tryz.ad4_1e b m c cs) ?_
  show J _ Stop m (Tryz.ad4_1w b m c cs) _
  refine J.calm (hb 0 true) (Tryz.ad4_1f b m c cs) allB_nil ?_
  rw [Tryz.ad4_1g]
  exact kk
 ·refine⟨Tryz.ad3_2 b m c cs,?_⟩
  show J _ Stop m (Tryz.ad4_2 b m c cs) _
  refine J.calm (hb 1 true) (Tryz.ad4_2c b m c cs) allB_nil ?_
  show J _ Stop m (Tryz.ad4_2z b m c cs) _
  refine J.ena rfl (Tryz.ad4_2e b m c cs) ?_
  show J _ Stop m (Tryz.ad4_2w b m c cs) _
  refine J.calm (hb 0 true) (Tryz.ad4_2f b m c cs) allB_nil ?_
  rw [Tryz.ad4_2g]
  exact kk
 ·refine⟨Tryz.ad3_3 b m c cs,?_⟩
  show J _ Stop m (Tryz.ad4_3 b m c cs) _
  refine J.calm (hb 1 true) (Tryz.ad4_3c b m c cs) allB_nil ?_
  show J _ Stop m (Tryz.ad4_3z b m c cs) _
  refine J.ena rfl (Tryz.ad4_3e b m c cs) ?_
  show J _ Stop m (Tryz.ad4_3w b m c cs) _
  refine J.calm (hb 0 true) (Tryz.ad4_3f b m c cs) allB_nil ?_
  rw [Tryz.ad4_3g]
  exact kk
 ·refine⟨Tryz.ad3_4 b m c cs,?_⟩
  show J _ Stop m (Tryz.ad4_4 b m c cs) _
  refine J.calm (hb 1 true) (Tryz.ad4_4c b m c cs) allB_nil ?_
  show J _ Stop m (Tryz.ad4_4z b m c cs) _
  refine J.ena rfl (Tryz.ad4_4e b m c cs) ?_
  show J _ Stop m (Tryz.ad4_4w b m c cs) _
  refine J.calm (hb 0 true) (Tryz.ad4_4f b m c cs) allB_nil ?_
  rw [Tryz.ad4_4g]
  exact kk
 ·refine⟨Tryz.ad3_5 b m c cs,?_⟩
  show J _ Stop m (Tryz.ad4_5 b m c cs) _
  refine J.calm (hb 1 true) (Tryz.ad4_5c b m c cs) allB_nil ?_
  show J _ Stop m (Tryz.ad4_5z b m c cs) _
  refine J.ena rfl (Tryz.ad4_5e b m c cs) ?_
  show J _ Stop m (Tryz.ad4_5w b m c cs) _
  refine J.calm (hb 0 true) (Tryz.ad4_5f b m c cs) allB_nil ?_
  rw [Tryz.ad4_5g]
  exact kk
 ·refine⟨Tryz.ad3_6 b m c cs,?_⟩
  show J _ Stop m (Tryz.ad4_6 b m c cs) _
  refine J.calm (hb 1 true) (Tryz.ad4_6c b m c cs) allB_nil ?_
  show J _ Stop m (Tryz.ad4_6z b m c cs) _
  refine J.ena rfl (Tryz.ad4_6e b m c cs) ?_
  show J _ Stop m (Tryz.ad4_6w b m c cs) _
  refine J.calm (hb 0 true) (Tryz.ad4_6f b m c cs) allB_nil ?_
  rw [Tryz.ad4_6g]
  exact kk
 ·refine⟨Tryz.ad3_7 b m c cs,?_⟩
  show J _ Stop m (Tryz.ad4_7 b m c cs) _
  refine J.calm (hb 1 true) (Tryz.ad4_7c b m c cs) allB_nil ?_
  show J _ Stop m (Tryz.ad4_7z b m c cs) _
  refine J.ena rfl (Tryz.ad4_7e b m c cs) ?_
  show J _ Stop m (Tryz.ad4_7w b m c cs) _
  refine J.calm (hb 0 true) (Tryz.ad4_7f b m c cs) allB_nil ?_
  rw [Tryz.ad4_7g]
  exact kk
section
variable {b:Nat} {m:Bool} {c:Frame} {cs:List Frame} {ds:List TM.Spec} {Z:View Tk} {Stop:Stp Tk}
theorem Tryz.wz_j (x:Nat->Value) (kf:∀Ms,Deps ds Ms->J (SysG Tryz.prog 164 8) Stop m (Rf (c.finish (.tuple #[])) cs) ((Z.with Ms.flatten).at 0 .out)):J (SysG Tryz.prog 164 8) Stop m (Tryz.wz1 b m c cs x) (Z.at 1 (.par b ds false .up)):=by
 have hb:∀d,(Z.at d (.par b ds false .up)).tok.ph.blk=some b:=λ _=>rfl
 refine J.calm (hb 1) (Tryz.wz1_c b m c cs x) allB_nil ?_
 show J _ Stop m (Tryz.wz2 b m c cs x) _
 refine J.ena rfl (Tryz.wz2_i b m c cs x) ?_
 show J _ Stop m (Tryz.wz3 b m c cs x) _
 refine J.calm (hb 0) (Tryz.wz3_c b m c cs x) allB_two ?_
 show J _ Stop m (Tryz.wz4 b m c cs x) _
 refine J.acq rfl (Tryz.wz4_i b m c cs x) λ Ms hM=>?_
 show J _ Stop m (Tryz.wz5 b m c cs x) _
 refine J.calm0 (Tryz.wz5_c b m c cs x) ?_
 rw [Tryz.wz5_e]
 exact kf Ms hM
theorem Tryz.w1_j (x:Nat->Value) (kf:∀Ms,Deps ds Ms->J (SysG Tryz.prog 164 8) Stop m (Rf (c.finish (.tuple #[])) cs) ((Z.with Ms.flatten).at 0 .out)) (ih:∀j,j<1->∀x,J (SysG Tryz.prog 164 8) Stop m (Tryz.wl b m c cs x) (Z.at 1 (.par b ds false (.seen j)))) :
  J (SysG Tryz.prog 164 8) Stop m (Tryz.w1a b m c cs x) (Z.at 1 (.par b ds false (.seen 1))):=by
 have hb:∀d p,(Z.at d (.par b ds false p)).tok.ph.blk=some b:=λ _ _=>rfl
 refine J.calm (hb 1 _) (Tryz.w1a_c b m c cs x) allB_nil ?_
 show J _ Stop m (Tryz.w1b b m c cs x) _
 refine J.cas (u:=1) rfl (.inr rfl) (stepE_running (SE.of_info (g:=Tryz.w1b b m c cs x) (Tryz.w1b_0 b m c cs x))) λ j hj=>?_
 obtain rfl | rfl:j=0\/j=1:=by omega
 ·refine .inl ⟨_,allB_three,Tryz.w1b_0 b m c cs x,?_⟩
  show J _ Stop m (Tryz.w1f b m c cs x) _
  refine J.calm (hb 1 _) (Tryz.w1f_c b m c cs x) allB_nil ?_
  rw [Tryz.w1f_e]
  exact ih 0 (by omega) _
 ·refine .inr ⟨by omega,_,allB_four,Tryz.w1b_i b m c cs x,?_⟩
  show J _ Stop m (Tryz.w1c b m c cs x) _
  refine J.calm (hb 1 _) (Tryz.w1c_c b m c cs x) allB_two ?_
  show J _ Stop m (Tryz.w1d b m c cs x) _
  refine J.said true rfl (Tryz.w1d_i b m c cs x) ?_
  show J _ Stop m (Tryz.w1e b m c cs x) _
  refine J.calm (hb 1 _) (Tryz.w1e_c b m c cs x) allB_nil ?_
  show J _ Stop m (Tryz.w1g b m c cs x) _
  refine .syn (Syn.sema (Tryz.w1g_r b m c cs x) (Tryz.w1g_o b m c cs x) rfl (λ st=>⟨_,allB_one,Tryz.w1g_b b m c cs x st⟩) ⟨_,_,allB_two,SE.of_info (g:=Tryz.w1g b m c cs x) (Tryz.w1g_i b m c cs x),?_⟩)
  show J _ Stop m (Tryz.w1h b m c cs x) (Z.at 1 (.par b ds false .up))
  refine J.calm (hb 1 _) (Tryz.w1h_c b m c cs x) allB_nil ?_
  show J _ Stop m (Tryz.w1i b m c cs x) _
  refine J.look2 rfl allB_one (Tryz.w1i_i b m c cs x) ?_
  show J _ Stop m (Tryz.w1j b m c cs x) _
  refine J.calm (hb 1 _) (Tryz.w1j_c b m c cs x) allB_nil ?_
  show J _ Stop m (Tryz.w1k b m c cs x) _
  refine J.ena rfl (Tryz.w1k_i b m c cs x) ?_
  show J _ Stop m (Tryz.w1m b m c cs x) _
  refine J.calm (hb 0 _) (Tryz.w1m_c b m c cs x) allB_two ?_
  show J _ Stop m (Tryz.w1n b m c cs x) _
  refine J.acq rfl (Tryz.w1n_i b m c cs x) λ Ms hM=>?_
  show J _ Stop m (Tryz.w1o b m c cs x) _
  refine J.calm0 (Tryz.w1o_c b m c cs x) ?_
  rw [Tryz.w1o_e]
  exact kf Ms hM
theorem Tryz.w2_j (x:Nat->Value) (kf:∀Ms,Deps ds Ms->J (SysG Tryz.prog 164 8) Stop m (Rf (c.finish (.tuple #[])) cs) ((Z.with Ms.flatten).at 0 .out)) (ih:∀j,j<2->∀x,J (SysG Tryz.prog 164 8) Stop m (Tryz.wl b m c cs x) (Z.at 1 (.par b ds false (.seen j)))) :
  J (SysG Tryz.prog 164 8) Stop m (Tryz.w2a b m c cs x) (Z.at 1 (.par b ds false (.seen 2))):=by
 have hb:∀d p,(Z.at d (.par b ds false p)).tok.ph.blk=some b:=λ _ _=>rfl
 refine J.calm (hb 1 _) (Tryz.w2a_c b m c cs x) allB_nil ?_
 show J _ Stop m (Tryz.w2b b m c cs x) _
 refine J.cas (u:=2) rfl (.inr rfl) (stepE_running (SE.of_info (g:=Tryz.w2b b m c cs x) (Tryz.w2b_0 b m c cs x))) λ j hj=>?_
 obtain rfl | rfl | rfl:j=0\/j=1\/j=2:=by omega
 ·refine .inl ⟨_,allB_three,Tryz.w2b_0 b m c cs x,?_⟩
  show J _ Stop m (Tryz.w2f b m c cs x) _
  refine J.calm (hb 1 _) (Tryz.w2f_c b m c cs x) allB_nil ?_
  rw [Tryz.w2f_e]
  exact ih 0 (by omega) _
 ·refine .inl ⟨_,allB_three,Tryz.w2b_1 b m c cs x,?_⟩
  rw [Tryz.w2b_1e]
  show J _ Stop m (Tryz.w2f b m c cs x) _
  refine J.calm (hb 1 _) (Tryz.w2f_c b m c cs x) allB_nil ?_
  rw [Tryz.w2f_e]
  exact ih 1 (by omega) _
 ·refine .inr ⟨by omega,_,allB_four,Tryz.w2b_i b m c cs x,?_⟩
  show J _ Stop m (Tryz.w2c b m c cs x) _
  refine J.calm (hb 1 _) (Tryz.w2c_c b m c cs x) allB_two ?_
  show J _ Stop m (Tryz.w2d b m c cs x) _
  refine J.said true rfl (Tryz.w2d_i b m c cs x) ?_
  show J _ Stop m (Tryz.w2e b m c cs x) _
  refine J.calm (hb 1 _) (Tryz.w2e_c b m c cs x) allB_nil ?_
  show J _ Stop m (Tryz.w2g b m c cs x) _
  refine .syn (Syn.sema (Tryz.w2g_r b m c cs x) (Tryz.w2g_o b m c cs x) rfl (λ st=>⟨_,allB_one,Tryz.w2g_b b m c cs x st⟩) ⟨_,_,allB_two,SE.of_info (g:=Tryz.w2g b m c cs x) (Tryz.w2g_i b m c cs x),?_⟩)
  show J _ Stop m (Tryz.w2h b m c cs x) (Z.at 1 (.par b ds false .up))
  refine J.calm (hb 1 _) (Tryz.w2h_c b m c cs x) allB_nil ?_
  show J _ Stop m (Tryz.w2i b m c cs x) _
  refine J.look2 rfl allB_one (Tryz.w2i_i b m c cs x) ?_
  show J _ Stop m (Tryz.w2j b m c cs x) _
  refine J.calm (hb 1 _) (Tryz.w2j_c b m c cs x) allB_nil ?_
  show J _ Stop m (Tryz.w2k b m c cs x) _
  refine J.ena rfl (Tryz.w2k_i b m c cs x) ?_
  show J _ Stop m (Tryz.w2m b m c cs x) _
  refine J.calm (hb 0 _) (Tryz.w2m_c b m c cs x) allB_two ?_
  show J _ Stop m (Tryz.w2n b m c cs x) _
  refine J.acq rfl (Tryz.w2n_i b m c cs x) λ Ms hM=>?_
  show J _ Stop m (Tryz.w2o b m c cs x) _
  refine J.calm0 (Tryz.w2o_c b m c cs x) ?_
  rw [Tryz.w2o_e]
  exact kf Ms hM
theorem Tryz.w3_j (x:Nat->Value) (kf:∀Ms,Deps ds Ms->J (SysG Tryz.prog 164 8) Stop m (Rf (c.finish (.tuple #[])) cs) ((Z.with Ms.flatten).at 0 .out)) (ih:∀j,j<3->∀x,J (SysG Tryz.prog 164 8) Stop m (Tryz.wl b m c cs x) (Z.at 1 (.par b ds false (.seen j)))) :
  J (SysG Tryz.prog 164 8) Stop m (Tryz.w3a b m c cs x) (Z.at 1 (.par b ds false (.seen 3))):=by
 have hb:∀d p,(Z.at d (.par b ds false p)).tok.ph.blk=some b:=λ _ _=>rfl
 refine J.calm (hb 1 _) (Tryz.w3a_c b m c cs x) allB_nil ?_
 show J _ Stop m (Tryz.w3b b m c cs x) _
 refine J.cas (u:=3) rfl (.inr rfl) (stepE_running (SE.of_info (g:=Tryz.w3b b m c cs x) (Tryz.w3b_0 b m c cs x))) λ j hj=>?_
 obtain rfl | rfl | rfl | rfl:j=0\/j=1\/j=2\/j=3:=by omega
 ·refine .inl ⟨_,allB_three,Tryz.w3b_0 b m c cs x,?_⟩
  show J _ Stop m (Tryz.w3f b m c cs x) _
  refine J.calm (hb 1 _) (Tryz.w3f_c b m c cs x) allB_nil ?_
  rw [Tryz.w3f_e]
  exact ih 0 (by omega) _
 ·refine .inl ⟨_,allB_three,Tryz.w3b_1 b m c cs x,?_⟩
  rw [Tryz.w3b_1e]
  show J _ Stop m (Tryz.w3f b m c cs x) _
  refine J.calm (hb 1 _) (Tryz.w3f_c b m c cs x) allB_nil ?_
  rw [Tryz.w3f_e]
  exact ih 1 (by omega) _
 ·refine .inl ⟨_,allB_three,Tryz.w3b_2 b m c cs x,?_⟩
  rw [Tryz.w3b_2e]
  show J _ Stop m (Tryz.w3f b m c cs x) _
  refine J.calm (hb 1 _) (Tryz.w3f_c b m c cs x) allB_nil ?_
  rw [Tryz.w3f_e]
  exact ih 2 (by omega) _
 ·refine .inr ⟨by omega,_,allB_four,Tryz.w3b_i b m c cs x,?_⟩
  show J _ Stop m (Tryz.w3c b m c cs x) _
  refine J.calm (hb 1 _) (Tryz.w3c_c b m c cs x) allB_two ?_
  show J _ Stop m (Tryz.w3d b m c cs x) _
  refine J.said true rfl (Tryz.w3d_i b m c cs x) ?_
  show J _ Stop m (Tryz.w3e b m c cs x) _
  refine J.calm (hb 1 _) (Tryz.w3e_c b m c cs x) allB_nil ?_
  show J _ Stop m (Tryz.w3g b m c cs x) _
  refine .syn (Syn.sema (Tryz.w3g_r b m c cs x) (Tryz.w3g_o b m c cs x) rfl (λ st=>⟨_,allB_one,Tryz.w3g_b b m c cs x st⟩) ⟨_,_,allB_two,SE.of_info (g:=Tryz.w3g b m c cs x) (Tryz.w3g_i b m c cs x),?_⟩)
  show J _ Stop m (Tryz.w3h b m c cs x) (Z.at 1 (.par b ds false .up))
  refine J.calm (hb 1 _) (Tryz.w3h_c b m c cs x) allB_nil ?_
  show J _ Stop m (Tryz.w3i b m c cs x) _
  refine J.look2 rfl allB_one (Tryz.w3i_i b m c cs x) ?_
  show J _ Stop m (Tryz.w3j b m c cs x) _
  refine J.calm (hb 1 _) (Tryz.w3j_c b m c cs x) allB_nil ?_
  show J _ Stop m (Tryz.w3k b m c cs x) _
  refine J.ena rfl (Tryz.w3k_i b m c cs x) ?_
  show J _ Stop m (Tryz.w3m b m c cs x) _
  refine J.calm (hb 0 _) (Tryz.w3m_c b m c cs x) allB_two ?_
  show J _ Stop m (Tryz.w3n b m c cs x) _
  refine J.acq rfl (Tryz.w3n_i b m c cs x) λ Ms hM=>?_
  show J _ Stop m (Tryz.w3o b m c cs x) _
  refine J.calm0 (Tryz.w3o_c b m c cs x) ?_
  rw [Tryz.w3o_e]
  exact kf Ms hM
theorem Tryz.w4_j (x:Nat->Value) (kf:∀Ms,Deps ds Ms->J (SysG Tryz.prog 164 8) Stop m (Rf (c.finish (.tuple #[])) cs) ((Z.with Ms.flatten).at 0 .out)) (ih:∀j,j<4->∀x,J (SysG Tryz.prog 164 8) Stop m (Tryz.wl b m c cs x) (Z.at 1 (.par b ds false (.seen j)))) :
  J (SysG Tryz.prog 164 8) Stop m (Tryz.w4a b m c cs x) (Z.at 1 (.par b ds false (.seen 4))):=by
 have hb:∀d p,(Z.at d (.par b ds false p)).tok.ph.blk=some b:=λ _ _=>rfl
 refine J.calm (hb 1 _) (Tryz.w4a_c b m c cs x) allB_nil ?_
 show J _ Stop m (Tryz.w4b b m c cs x) _
 refine J.cas (u:=4) rfl (.inr rfl) (stepE_running (SE.of_info (g:=Tryz.w4b b m c cs x) (Tryz.w4b_0 b m c cs x))) λ j hj=>?_
 obtain rfl | rfl | rfl | rfl | rfl:j=0\/j=1\/j=2\/j=3\/j=4:=by omega
 ·refine .inl ⟨_,allB_three,Tryz.w4b_0 b m c cs x,?_⟩
  show J _ Stop m (Tryz.w4f b m c cs x) _
  refine J.calm (hb 1 _) (Tryz.w4f_c b m c cs x) allB_nil ?_
  rw [Tryz.w4f_e]
  exact ih 0 (by omega) _
 ·refine .inl ⟨_,allB_three,Tryz.w4b_1 b m c cs x,?_⟩
  rw [Tryz.w4b_1e]
  show J _ Stop m (Tryz.w4f b m c cs x) _
  refine J.calm (hb 1 _) (Tryz.w4f_c b m c cs x) allB_nil ?_
  rw [Tryz.w4f_e]
  exact ih 1 (by omega) _
 ·refine .inl ⟨_,allB_three,Tryz.w4b_2 b m c cs x,?_⟩
  rw [Tryz.w4b_2e]
  show J _ Stop m (Tryz.w4f b m c cs x) _
  refine J.calm (hb 1 _) (Tryz.w4f_c b m c cs x) allB_nil ?_
  rw [Tryz.w4f_e]
  exact ih 2 (by omega) _
 ·refine .inl ⟨_,allB_three,Tryz.w4b_3 b m c cs x,?_⟩
  rw [Tryz.w4b_3e]
  show J _ Stop m (Tryz.w4f b m c cs x) _
  refine J.calm (hb 1 _) (Tryz.w4f_c b m c cs x) allB_nil ?_
  rw [Tryz.w4f_e]
  exact ih 3 (by omega) _
 ·refine .inr ⟨by omega,_,allB_four,Tryz.w4b_i b m c cs x,?_⟩
  show J _ Stop m (Tryz.w4c b m c cs x) _
  refine J.calm (hb 1 _) (Tryz.w4c_c b m c cs x) allB_two ?_
  show J _ Stop m (Tryz.w4d b m c cs x) _
  refine J.said true rfl (Tryz.w4d_i b m c cs x) ?_
  show J _ Stop m (Tryz.w4e b m c cs x) _
  refine J.calm (hb 1 _) (Tryz.w4e_c b m c cs x) allB_nil ?_
  show J _ Stop m (Tryz.w4g b m c cs x) _
  refine .syn (Syn.sema (Tryz.w4g_r b m c cs x) (Tryz.w4g_o b m c cs x) rfl (λ st=>⟨_,allB_one,Tryz.w4g_b b m c cs x st⟩) ⟨_,_,allB_two,SE.of_info (g:=Tryz.w4g b m c cs x) (Tryz.w4g_i b m c cs x),?_⟩)
  show J _ Stop m (Tryz.w4h b m c cs x) (Z.at 1 (.par b ds false .up))
  refine J.calm (hb 1 _) (Tryz.w4h_c b m c cs x) allB_nil ?_
  show J _ Stop m (Tryz.w4i b m c cs x) _
  refine J.look2 rfl allB_one (Tryz.w4i_i b m c cs x) ?_
  show J _ Stop m (Tryz.w4j b m c cs x) _
  refine J.calm (hb 1 _) (Tryz.w4j_c b m c cs x) allB_nil ?_
  show J _ Stop m (Tryz.w4k b m c cs x) _
  refine J.ena rfl (Tryz.w4k_i b m c cs x) ?_
  show J _ Stop m (Tryz.w4m b m c cs x) _
  refine J.calm (hb 0 _) (Tryz.w4m_c b m c cs x) allB_two ?_
  show J _ Stop m (Tryz.w4n b m c cs x) _
  refine J.acq rfl (Tryz.w4n_i b m c cs x) λ Ms hM=>?_
  show J _ Stop m (Tryz.w4o b m c cs x) _
  refine J.calm0 (Tryz.w4o_c b m c cs x) ?_
  rw [Tryz.w4o_e]
  exact kf Ms hM
theorem Tryz.w5_j (x:Nat->Value) (kf:∀Ms,Deps ds Ms->J (SysG Tryz.prog 164 8) Stop m (Rf (c.finish (.tuple #[])) cs) ((Z.with Ms.flatten).at 0 .out)) (ih:∀j,j<5->∀x,J (SysG Tryz.prog 164 8) Stop m (Tryz.wl b m c cs x) (Z.at 1 (.par b ds false (.seen j)))) :
  J (SysG Tryz.prog 164 8) Stop m (Tryz.w5a b m c cs x) (Z.at 1 (.par b ds false (.seen 5))):=by
 have hb:∀d p,(Z.at d (.par b ds false p)).tok.ph.blk=some b:=λ _ _=>rfl
 refine J.calm (hb 1 _) (Tryz.w5a_c b m c cs x) allB_nil ?_
 show J _ Stop m (Tryz.w5b b m c cs x) _
 refine J.cas (u:=5) rfl (.inr rfl) (stepE_running (SE.of_info (g:=Tryz.w5b b m c cs x) (Tryz.w5b_0 b m c cs x))) λ j hj=>?_
 obtain rfl | rfl | rfl | rfl | rfl | rfl:j=0\/j=1\/j=2\/j=3\/j=4\/j=5:=by omega
 ·refine .inl ⟨_,allB_three,Tryz.w5b_0 b m c cs x,?_⟩
  show J _ Stop m (Tryz.w5f b m c cs x) _
  refine J.calm (hb 1 _) (Tryz.w5f_c b m c cs x) allB_nil ?_
  rw [Tryz.w5f_e]
  exact ih 0 (by omega) _
 ·refine .inl ⟨_,allB_three,Tryz.w5b_1 b m c cs x,?_⟩
  rw [Tryz.w5b_1e]
  show J _ Stop m (Tryz.w5f b m c cs x) _
  refine J.calm (hb 1 _) (Tryz.w5f_c b m c cs x) allB_nil ?_
  rw [Tryz.w5f_e]
  exact ih 1 (by omega) _
 ·refine .inl ⟨_,allB_three,Tryz.w5b_2 b m c cs x,?_⟩
  rw [Tryz.w5b_2e]
  show J _ Stop m (Tryz.w5f b m c cs x) _
  refine J.calm (hb 1 _) (Tryz.w5f_c b m c cs x) allB_nil ?_
  rw [Tryz.w5f_e]
  exact ih 2 (by omega) _
 ·refine .inl ⟨_,allB_three,Tryz.w5b_3 b m c cs x,?_⟩
  rw [Tryz.w5b_3e]
  show J _ Stop m (Tryz.w5f b m c cs x) _
  refine J.calm (hb 1 _) (Tryz.w5f_c b m c cs x) allB_nil ?_
  rw [Tryz.w5f_e]
  exact ih 3 (by omega) _
 ·refine .inl ⟨_,allB_three,Tryz.w5b_4 b m c cs x,?_⟩
  rw [Tryz.w5b_4e]
  show J _ Stop m (Tryz.w5f b m c cs x) _
  refine J.calm (hb 1 _) (Tryz.w5f_c b m c cs x) allB_nil ?_
  rw [Tryz.w5f_e]
  exact ih 4 (by omega) _
 ·refine .inr ⟨by omega,_,allB_four,Tryz.w5b_i b m c cs x,?_⟩
  show J _ Stop m (Tryz.w5c b m c cs x) _
  refine J.calm (hb 1 _) (Tryz.w5c_c b m c cs x) allB_two ?_
  show J _ Stop m (Tryz.w5d b m c cs x) _
  refine J.said true rfl (Tryz.w5d_i b m c cs x) ?_
  show J _ Stop m (Tryz.w5e b m c cs x) _
  refine J.calm (hb 1 _) (Tryz.w5e_c b m c cs x) allB_nil ?_
  show J _ Stop m (Tryz.w5g b m c cs x) _
  refine .syn (Syn.sema (Tryz.w5g_r b m c cs x) (Tryz.w5g_o b m c cs x) rfl (λ st=>⟨_,allB_one,Tryz.w5g_b b m c cs x st⟩) ⟨_,_,allB_two,SE.of_info (g:=Tryz.w5g b m c cs x) (Tryz.w5g_i b m c cs x),?_⟩)
  show J _ Stop m (Tryz.w5h b m c cs x) (Z.at 1 (.par b ds false .up))
  refine J.calm (hb 1 _) (Tryz.w5h_c b m c cs x) allB_nil ?_
  show J _ Stop m (Tryz.w5i b m c cs x) _
  refine J.look2 rfl allB_one (Tryz.w5i_i b m c cs x) ?_
  show J _ Stop m (Tryz.w5j b m c cs x) _
  refine J.calm (hb 1 _) (Tryz.w5j_c b m c cs x) allB_nil ?_
  show J _ Stop m (Tryz.w5k b m c cs x) _
  refine J.ena rfl (Tryz.w5k_i b m c cs x) ?_
  show J _ Stop m (Tryz.w5m b m c cs x) _
  refine J.calm (hb 0 _) (Tryz.w5m_c b m c cs x) allB_two ?_
  show J _ Stop m (Tryz.w5n b m c cs x) _
  refine J.acq rfl (Tryz.w5n_i b m c cs x) λ Ms hM=>?_
  show J _ Stop m (Tryz.w5o b m c cs x) _
  refine J.calm0 (Tryz.w5o_c b m c cs x) ?_
  rw [Tryz.w5o_e]
  exact kf Ms hM
theorem Tryz.w6_j (x:Nat->Value) (kf:∀Ms,Deps ds Ms->J (SysG Tryz.prog 164 8) Stop m (Rf (c.finish (.tuple #[])) cs) ((Z.with Ms.flatten).at 0 .out)) (ih:∀j,j<6->∀x,J (SysG Tryz.prog 164 8) Stop m (Tryz.wl b m c cs x) (Z.at 1 (.par b ds false (.seen j)))) :
  J (SysG Tryz.prog 164 8) Stop m (Tryz.w6a b m c cs x) (Z.at 1 (.par b ds false (.seen 6))):=by
 have hb:∀d p,(Z.at d (.par b ds false p)).tok.ph.blk=some b:=λ _ _=>rfl
 refine J.calm (hb 1 _) (Tryz.w6a_c b m c cs x) allB_nil ?_
 show J _ Stop m (Tryz.w6b b m c cs x) _
 refine J.cas (u:=6) rfl (.inr rfl) (stepE_running (SE.of_info (g:=Tryz.w6b b m c cs x) (Tryz.w6b_0 b m c cs x))) λ j hj=>?_
 obtain rfl | rfl | rfl | rfl | rfl | rfl | rfl:j=0\/j=1\/j=2\/j=3\/j=4\/j=5\/j=6:=by omega
 ·refine .inl ⟨_,allB_three,Tryz.w6b_0 b m c cs x,?_⟩
  show J _ Stop m (Tryz.w6f b m c cs x) _
  refine J.calm (hb 1 _) (Tryz.w6f_c b m c cs x) allB_nil ?_
  rw [Tryz.w6f_e]
  exact ih 0 (by omega) _
 ·refine .inl ⟨_,allB_three,Tryz.w6b_1 b m c cs x,?_⟩
  rw [Tryz.w6b_1e]
  show J _ Stop m (Tryz.w6f b m c cs x) _
  refine J.calm (hb 1 _) (Tryz.w6f_c b m c cs x) allB_nil ?_
  rw [Tryz.w6f_e]
  exact ih 1 (by omega) _
 ·refine .inl ⟨_,allB_three,Tryz.w6b_2 b m c cs x,?_⟩
  rw [Tryz.w6b_2e]
  show J _ Stop m (Tryz.w6f b m c cs x) _
  refine J.calm (hb 1 _) (Tryz.w6f_c b m c cs x) allB_nil ?_
  rw [Tryz.w6f_e]
  exact ih 2 (by omega) _
 ·refine .inl ⟨_,allB_three,Tryz.w6b_3 b m c cs x,?_⟩
  rw [Tryz.w6b_3e]
  show J _ Stop m (Tryz.w6f b m c cs x) _
  refine J.calm (hb 1 _) (Tryz.w6f_c b m c cs x) allB_nil ?_
  rw [Tryz.w6f_e]
  exact ih 3 (by omega) _
 ·refine .inl ⟨_,allB_three,Tryz.w6b_4 b m c cs x,?_⟩
  rw [Tryz.w6b_4e]
  show J _ Stop m (Tryz.w6f b m c cs x) _
  refine J.calm (hb 1 _) (Tryz.w6f_c b m c cs x) allB_nil ?_
  rw [Tryz.w6f_e]
  exact ih 4 (by omega) _
 ·refine .inl ⟨_,allB_three,Tryz.w6b_5 b m c cs x,?_⟩
  rw [Tryz.w6b_5e]
  show J _ Stop m (Tryz.w6f b m c cs x) _
  refine J.calm (hb 1 _) (Tryz.w6f_c b m c cs x) allB_nil ?_
  rw [Tryz.w6f_e]
  exact ih 5 (by omega) _
 ·refine .inr ⟨by omega,_,allB_four,Tryz.w6b_i b m c cs x,?_⟩
  show J _ Stop m (Tryz.w6c b m c cs x) _
  refine J.calm (hb 1 _) (Tryz.w6c_c b m c cs x) allB_two ?_
  show J _ Stop m (Tryz.w6d b m c cs x) _
  refine J.said true rfl (Tryz.w6d_i b m c cs x) ?_
  show J _ Stop m (Tryz.w6e b m c cs x) _
  refine J.calm (hb 1 _) (Tryz.w6e_c b m c cs x) allB_nil ?_
  show J _ Stop m (Tryz.w6g b m c cs x) _
  refine .syn (Syn.sema (Tryz.w6g_r b m c cs x) (Tryz.w6g_o b m c cs x) rfl (λ st=>⟨_,allB_one,Tryz.w6g_b b m c cs x st⟩) ⟨_,_,allB_two,SE.of_info (g:=Tryz.w6g b m c cs x) (Tryz.w6g_i b m c cs x),?_⟩)
  show J _ Stop m (Tryz.w6h b m c cs x) (Z.at 1 (.par b ds false .up))
  refine J.calm (hb 1 _) (Tryz.w6h_c b m c cs x) allB_nil ?_
  show J _ Stop m (Tryz.w6i b m c cs x) _
  refine J.look2 rfl allB_one (Tryz.w6i_i b m c cs x) ?_
  show J _ Stop m (Tryz.w6j b m c cs x) _
  refine J.calm (hb 1 _) (Tryz.w6j_c b m c cs x) allB_nil ?_
  show J _ Stop m (Tryz.w6k b m c cs x) _
  refine J.ena rfl (Tryz.w6k_i b m c cs x) ?_
  show J _ Stop m (Tryz.w6m b m c cs x) _
  refine J.calm (hb 0 _) (Tryz.w6m_c b m c cs x) allB_two ?_
  show J _ Stop m (Tryz.w6n b m c cs x) _
  refine J.acq rfl (Tryz.w6n_i b m c cs x) λ Ms hM=>?_
  show J _ Stop m (Tryz.w6o b m c cs x) _
  refine J.calm0 (Tryz.w6o_c b m c cs x) ?_
  rw [Tryz.w6o_e]
  exact kf Ms hM
theorem Tryz.w7_j (x:Nat->Value) (kf:∀Ms,Deps ds Ms->J (SysG Tryz.prog 164 8) Stop m (Rf (c.finish (.tuple #[])) cs) ((Z.with Ms.flatten).at 0 .out)) (ih:∀j,j<7->∀x,J (SysG Tryz.prog 164 8) Stop m (Tryz.wl b m c cs x) (Z.at 1 (.par b ds false (.seen j)))) :
  J (SysG Tryz.prog 164 8) Stop m (Tryz.w7a b m c cs x) (Z.at 1 (.par b ds false (.seen 7))):=by
 have hb:∀d p,(Z.at d (.par b ds false p)).tok.ph.blk=some b:=λ _ _=>rfl
 refine J.calm (hb 1 _) (Tryz.w7a_c b m c cs x) allB_nil ?_
 show J _ Stop m (Tryz.w7b b m c cs x) _
 refine J.cas (u:=7) rfl (.inr rfl) (stepE_running (SE.of_info (g:=Tryz.w7b b m c cs x) (Tryz.w7b_0 b m c cs x))) λ j hj=>?_
 obtain rfl | rfl | rfl | rfl | rfl | rfl | rfl | rfl:j=0\/j=1\/j=2\/j=3\/j=4\/j=5\/j=6\/j=7:=by omega
 ·refine .inl ⟨_,allB_three,Tryz.w7b_0 b m c cs x,?_⟩
  show J _ Stop m (Tryz.w7f b m c cs x) _
  refine J.calm (hb 1 _) (Tryz.w7f_c b m c cs x) allB_nil ?_
  rw [Tryz.w7f_e]
  exact ih 0 (by omega) _
 ·refine .inl ⟨_,allB_three,Tryz.w7b_1 b m c cs x,?_⟩
  rw [Tryz.w7b_1e]
  show J _ Stop m (Tryz.w7f b m c cs x) _
  refine J.calm (hb 1 _) (Tryz.w7f_c b m c cs x) allB_nil ?_
  rw [Tryz.w7f_e]
  exact ih 1 (by omega) _
 ·refine .inl ⟨_,allB_three,Tryz.w7b_2 b m c cs x,?_⟩
  rw [Tryz.w7b_2e]
  show J _ Stop m (Tryz.w7f b m c cs x) _
  refine J.calm (hb 1 _) (Tryz.w7f_c b m c cs x) allB_nil ?_
  rw [Tryz.w7f_e]
  exact ih 2 (by omega) _
 ·refine .inl ⟨_,allB_three,Tryz.w7b_3 b m c cs x,?_⟩
  rw [Tryz.w7b_3e]
  show J _ Stop m (Tryz.w7f b m c cs x) _
  refine J.calm (hb 1 _) (Tryz.w7f_c b m c cs x) allB_nil ?_
  rw [Tryz.w7f_e]
  exact ih 3 (by omega) _
 ·refine .inl ⟨_,allB_three,Tryz.w7b_4 b m c cs x,?_⟩
  rw [Tryz.w7b_4e]
  show J _ Stop m (Tryz.w7f b m c cs x) _
  refine J.calm (hb 1 _) (Tryz.w7f_c b m c cs x) allB_nil ?_
  rw [Tryz.w7f_e]
  exact ih 4 (by omega) _
 ·refine .inl ⟨_,allB_three,Tryz.w7b_5 b m c cs x,?_⟩
  rw [Tryz.w7b_5e]
  show J _ Stop m (Tryz.w7f b m c cs x) _
  refine J.calm (hb 1 _) (Tryz.w7f_c b m c cs x) allB_nil ?_
  rw [Tryz.w7f_e]
  exact ih 5 (by omega) _
 ·refine .inl ⟨_,allB_three,Tryz.w7b_6 b m c cs x,?_⟩
  rw [Tryz.w7b_6e]
  show J _ Stop m (Tryz.w7f b m c cs x) _
  refine J.calm (hb 1 _) (Tryz.w7f_c b m c cs x) allB_nil ?_
  rw [Tryz.w7f_e]
  exact ih 6 (by omega) _
 ·refine .inr ⟨by omega,_,allB_four,Tryz.w7b_i b m c cs x,?_⟩
  show J _ Stop m (Tryz.w7c b m c cs x) _
  refine J.calm (hb 1 _) (Tryz.w7c_c b m c cs x) allB_two ?_
  show J _ Stop m (Tryz.w7d b m c cs x) _
  refine J.said true rfl (Tryz.w7d_i b m c cs x) ?_
  show J _ Stop m (Tryz.w7e b m c cs x) _
  refine J.calm (hb 1 _) (Tryz.w7e_c b m c cs x) allB_nil ?_
  show J _ Stop m (Tryz.w7g b m c cs x) _
  refine .syn (Syn.sema (Tryz.w7g_r b m c cs x) (Tryz.w7g_o b m c cs x) rfl (λ st=>⟨_,allB_one,Tryz.w7g_b b m c cs x st⟩) ⟨_,_,allB_two,SE.of_info (g:=Tryz.w7g b m c cs x) (Tryz.w7g_i b m c cs x),?_⟩)
  show J _ Stop m (Tryz.w7h b m c cs x) (Z.at 1 (.par b ds false .up))
  refine J.calm (hb 1 _) (Tryz.w7h_c b m c cs x) allB_nil ?_
  show J _ Stop m (Tryz.w7i b m c cs x) _
  refine J.look2 rfl allB_one (Tryz.w7i_i b m c cs x) ?_
  show J _ Stop m (Tryz.w7j b m c cs x) _
  refine J.calm (hb 1 _) (Tryz.w7j_c b m c cs x) allB_nil ?_
  show J _ Stop m (Tryz.w7k b m c cs x) _
  refine J.ena rfl (Tryz.w7k_i b m c cs x) ?_
  show J _ Stop m (Tryz.w7m b m c cs x) _
  refine J.calm (hb 0 _) (Tryz.w7m_c b m c cs x) allB_two ?_
  show J _ Stop m (Tryz.w7n b m c cs x) _
  refine J.acq rfl (Tryz.w7n_i b m c cs x) λ Ms hM=>?_
  show J _ Stop m (Tryz.w7o b m c cs x) _
  refine J.calm0 (Tryz.w7o_c b m c cs x) ?_
  rw [Tryz.w7o_e]
  exact kf Ms hM
theorem Tryz.w8_j (x:Nat->Value) (kf:∀Ms,Deps ds Ms->J (SysG Tryz.prog 164 8) Stop m (Rf (c.finish (.tuple #[])) cs) ((Z.with Ms.flatten).at 0 .out)) (ih:∀j,j<8->∀x,J (SysG Tryz.prog 164 8) Stop m (Tryz.wl b m c cs x) (Z.at 1 (.par b ds false (.seen j)))) :
  J (SysG Tryz.prog 164 8) Stop m (Tryz.w8a b m c cs x) (Z.at 1 (.par b ds false (.seen 8))):=by
 have hb:∀d p,(Z.at d (.par b ds false p)).tok.ph.blk=some b:=λ _ _=>rfl
 refine J.calm (hb 1 _) (Tryz.w8a_c b m c cs x) allB_nil ?_
 show J _ Stop m (Tryz.w8b b m c cs x) _
 refine J.cas (u:=8) rfl (.inr rfl) (stepE_running (SE.of_info (g:=Tryz.w8b b m c cs x) (Tryz.w8b_0 b m c cs x))) λ j hj=>?_
 obtain rfl | rfl | rfl | rfl | rfl | rfl | rfl | rfl | rfl:j=0\/j=1\/j=2\/j=3\/j=4\/j=5\/j=6\/j=7\/j=8:=by omega
 ·refine .inl ⟨_,allB_three,Tryz.w8b_0 b m c cs x,?_⟩
  show J _ Stop m (Tryz.w8f b m c cs x) _
  refine J.calm (hb 1 _) (Tryz.w8f_c b m c cs x) allB_nil ?_
  rw [Tryz.w8f_e]
  exact ih 0 (by omega) _
 ·refine .inl ⟨_,allB_three,Tryz.w8b_1 b m c cs x,?_⟩
  rw [Tryz.w8b_1e]
  show J _ Stop m (Tryz.w8f b m c cs x) _
  refine J.calm (hb 1 _) (Tryz.w8f_c b m c cs x) allB_nil ?_
  rw [Tryz.w8f_e]
  exact ih 1 (by omega) _
 ·refine .inl ⟨_,allB_three,Tryz.w8b_2 b m c cs x,?_⟩
  rw [Tryz.w8b_2e]
  show J _ Stop m (Tryz.w8f b m c cs x) _
  refine J.calm (hb 1 _) (Tryz.w8f_c b m c cs x) allB_nil ?_
  rw [Tryz.w8f_e]
  exact ih 2 (by omega) _
 ·refine .inl ⟨_,allB_three,Tryz.w8b_3 b m c cs x,?_⟩
  rw [Tryz.w8b_3e]
  show J _ Stop m (Tryz.w8f b m c cs x) _
  refine J.calm (hb 1 _) (Tryz.w8f_c b m c cs x) allB_nil ?_
  rw [Tryz.w8f_e]
  exact ih 3 (by omega) _
 ·refine .inl ⟨_,allB_three,Tryz.w8b_4 b m c cs x,?_⟩
  rw [Tryz.w8b_4e]
  show J _ Stop m (Tryz.w8f b m c cs x) _
  refine J.calm (hb 1 _) (Tryz.w8f_c b m c cs x) allB_nil ?_
  rw [Tryz.w8f_e]
  exact ih 4 (by omega) _
 ·refine .inl ⟨_,allB_three,Tryz.w8b_5 b m c cs x,?_⟩
  rw [Tryz.w8b_5e]
  show J _ Stop m (Tryz.w8f b m c cs x) _
  refine J.calm (hb 1 _) (Tryz.w8f_c b m c cs x) allB_nil ?_
  rw [Tryz.w8f_e]
  exact ih 5 (by omega) _
 ·refine .inl ⟨_,allB_three,Tryz.w8b_6 b m c cs x,?_⟩
  rw [Tryz.w8b_6e]
  show J _ Stop m (Tryz.w8f b m c cs x) _
  refine J.calm (hb 1 _) (Tryz.w8f_c b m c cs x) allB_nil ?_
  rw [Tryz.w8f_e]
  exact ih 6 (by omega) _
 ·refine .inl ⟨_,allB_three,Tryz.w8b_7 b m c cs x,?_⟩
  rw [Tryz.w8b_7e]
  show J _ Stop m (Tryz.w8f b m c cs x) _
  refine J.calm (hb 1 _) (Tryz.w8f_c b m c cs x) allB_nil ?_
  rw [Tryz.w8f_e]
  exact ih 7 (by omega) _
 ·refine .inr ⟨by omega,_,allB_four,Tryz.w8b_i b m c cs x,?_⟩
  show J _ Stop m (Tryz.w8c b m c cs x) _
  refine J.calm (hb 1 _) (Tryz.w8c_c b m c cs x) allB_two ?_
  show J _ Stop m (Tryz.w8d b m c cs x) _
  refine J.said true rfl (Tryz.w8d_i b m c cs x) ?_
  show J _ Stop m (Tryz.w8e b m c cs x) _
  refine J.calm (hb 1 _) (Tryz.w8e_c b m c cs x) allB_nil ?_
  show J _ Stop m (Tryz.w8g b m c cs x) _
  refine .syn (Syn.sema (Tryz.w8g_r b m c cs x) (Tryz.w8g_o b m c cs x) rfl (λ st=>⟨_,allB_one,Tryz.w8g_b b m c cs x st⟩) ⟨_,_,allB_two,SE.of_info (g:=Tryz.w8g b m c cs x) (Tryz.w8g_i b m c cs x),?_⟩)
  show J _ Stop m (Tryz.w8h b m c cs x) (Z.at 1 (.par b ds false .up))
  refine J.calm (hb 1 _) (Tryz.w8h_c b m c cs x) allB_nil ?_
  show J _ Stop m (Tryz.w8i b m c cs x) _
  refine J.look2 rfl allB_one (Tryz.w8i_i b m c cs x) ?_
  show J _ Stop m (Tryz.w8j b m c cs x) _
  refine J.calm (hb 1 _) (Tryz.w8j_c b m c cs x) allB_nil ?_
  show J _ Stop m (Tryz.w8k b m c cs x) _
  refine J.ena rfl (Tryz.w8k_i b m c cs x) ?_
  show J _ Stop m (Tryz.w8m b m c cs x) _
  refine J.calm (hb 0 _) (Tryz.w8m_c b m c cs x) allB_two ?_
  show J _ Stop m (Tryz.w8n b m c cs x) _
  refine J.acq rfl (Tryz.w8n_i b m c cs x) λ Ms hM=>?_
  show J _ Stop m (Tryz.w8o b m c cs x) _
  refine J.calm0 (Tryz.w8o_c b m c cs x) ?_
  rw [Tryz.w8o_e]
  exact kf Ms hM
theorem Tryz.wl_j (kf:∀Ms,Deps ds Ms->J (SysG Tryz.prog 164 8) Stop m (Rf (c.finish (.tuple #[])) cs) ((Z.with Ms.flatten).at 0 .out)):∀(u:Nat) (k0:PS),u<=8->SeenBy ds u k0->∀x,J (SysG Tryz.prog 164 8) Stop m (Tryz.wl b m c cs x) (Z.at 1 (.par b ds false k0)):=by
 intro u
 induction u using Nat.strongRecOn with
 | _ u ih=>
  intro k0 hu hk x
  refine J.load (u:=u) rfl hk λ j hj=>?_
  have ih':∀i,i<j->∀x,J (SysG Tryz.prog 164 8) Stop m (Tryz.wl b m c cs x) (Z.at 1 (.par b ds false (.seen i))):=λ i hi x=>ih i (by omega) (.seen i) (by omega) (.inr rfl) x
  obtain rfl | rfl | rfl | rfl | rfl | rfl | rfl | rfl | rfl:j=0\/j=1\/j=2\/j=3\/j=4\/j=5\/j=6\/j=7\/j=8:=by omega
  ·exact⟨Tryz.wl_0 b m c cs x,.inr ⟨rfl,Tryz.wz_j x kf⟩⟩
  ·exact⟨Tryz.w1l b m c cs x,.inl (Tryz.w1_j x kf ih')⟩
  ·exact⟨Tryz.w2l b m c cs x,.inl (Tryz.w2_j x kf ih')⟩
  ·exact⟨Tryz.w3l b m c cs x,.inl (Tryz.w3_j x kf ih')⟩
  ·exact⟨Tryz.w4l b m c cs x,.inl (Tryz.w4_j x kf ih')⟩
  ·exact⟨Tryz.w5l b m c cs x,.inl (Tryz.w5_j x kf ih')⟩
  ·exact⟨Tryz.w6l b m c cs x,.inl (Tryz.w6_j x kf ih')⟩
  ·exact⟨Tryz.w7l b m c cs x,.inl (Tryz.w7_j x kf ih')⟩
  ·exact⟨Tryz.w8l b m c cs x,.inl (Tryz.w8_j x kf ih')⟩
end
theorem Tryz.waitV {b:Nat} {ds:List TM.Spec} {Z:View Tk} (hN:ds.length<=8) (ht:Z.tok=⟨0,.par b ds false .run⟩) {Q:Value->View Tk->Prop} (hq:∀Ms,Deps ds Ms->Q (.tuple #[]) ((Z.with Ms.flatten).at 0 .out)) :
  CallsV (SysG Tryz.prog 164 8) 125 #[.pointer (some ⟨b,0,none⟩)] Q Z:=by
 intro Stop m c cs k
 show J _ Stop m (Tryz.wa0 b m c cs) Z
 refine J.calm (b:=b) (by rw [ht];rfl) (Tryz.wa0_c b m c cs) allB_nil ?_
 show J _ Stop m (Tryz.wa1 b m c cs) Z
 refine J.dis ht (Tryz.wa1_i b m c cs) ?_
 show J _ Stop m (Tryz.wa2 b m c cs) _
 refine J.calm (b:=b) rfl (Tryz.wa2_c b m c cs) allB_nil ?_
 show J _ Stop m (Tryz.wa3 b m c cs) _
 rw [Tryz.wa3_eq]
 exact Tryz.wl_j (λ Ms hM=>k _ _ (hq Ms hM)) ds.length .run hN (.inl ⟨rfl,rfl⟩) _
end
end Go.Proofs
