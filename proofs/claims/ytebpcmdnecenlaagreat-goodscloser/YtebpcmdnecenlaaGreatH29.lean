/- A part of the proof: lemmas that the last text uses. No conditions of its own. -/
import Derived.Test.YtebpcmdnecenlaaGreatH12
import Derived.Test.YtebpcmdnecenlaaGreatH05
import Derived.Test.YtebpcmdnecenlaaGreatH13
import Derived.Test.YtebpcmdnecenlaaGreatH14
import Derived.Test.YtebpcmdnecenlaaGreatH15
import Derived.Test.YtebpcmdnecenlaaGreatH16
import Derived.Test.YtebpcmdnecenlaaGreatH17
import Derived.Test.YtebpcmdnecenlaaGreatH18
import Derived.Test.YtebpcmdnecenlaaGreatH19
import Derived.Test.YtebpcmdnecenlaaGreatH20
import Derived.Test.YtebpcmdnecenlaaGreatH21
import Derived.Test.YtebpcmdnecenlaaGreatH22
import Derived.Test.YtebpcmdnecenlaaGreatH23
import Derived.Test.YtebpcmdnecenlaaGreatH24
import Derived.Test.YtebpcmdnecenlaaGreatH25
import Derived.Test.YtebpcmdnecenlaaGreatH26
import Derived.Test.YtebpcmdnecenlaaGreatH27
import Derived.Test.YtebpcmdnecenlaaGreatH28
set_option linter.unusedSimpArgs false
set_option linter.unusedVariables false
namespace Go.Proofs
open Go.TM
open Go.Conc (QuitsD)
section
variable (b:Nat) (T:Array Value) (todo:List Item)
set_option maxRecDepth 100000
theorem Tryz.tl1_1g_q:QuitsD Tryz.prog 24 1 (Tryz.tl1_1g b T todo):=quits_calm (n:=17) (Tryz.tl1_1g_calm b T todo) (quits_say (Tryz.tl1_1h_info b T todo) (by simp [evM,Event.mute]) (quits_calm (n:=6) (k:=0) (Tryz.tl1_1i_calm b T todo) ⟨Tryz.tl1_1i_end b T todo,rfl⟩))
theorem Tryz.tl1_1_q:Tl Tryz.prog 164 8 b 177 1 (.lst b 0) (Tryz.tl1_1a b T todo):=
 Tl.calm (n:=103) (k:=73+1) (Tryz.tl1_1a_calm b T todo) allB_nil ⟨stepE_running (SE.of_info (g:=Tryz.tl1_1b b T todo) (Tryz.tl1_1b_info b T todo)),.inr (.inr (.inl ⟨rfl,rfl,_,_,allB_one,SE.of_info (g:=Tryz.tl1_1b b T todo) (Tryz.tl1_1b_info b T todo),
 Tl.calm (n:=20) (k:=52+1) (Tryz.tl1_1c_calm b T todo) allB_nil ⟨stepE_running (SE.of_info (g:=Tryz.tl1_1d b T todo) (Tryz.tl1_1d_info b T todo)),.inr (.inr (.inr (.inl ⟨rfl,rfl,_,_,allB_one,SE.of_info (g:=Tryz.tl1_1d b T todo) (Tryz.tl1_1d_info b T todo),
 Tl.calm (n:=27) (k:=24+1) (Tryz.tl1_1e_calm b T todo) allB_nil ⟨stepE_running (SE.of_info (g:=Tryz.tl1_1f b T todo) (Tryz.tl1_1f_info b T todo)),.inr (.inr (.inr (.inr ⟨rfl,rfl,Tryz.tl1_1f_wake b T todo,_,_,allB_two,SE.of_info (g:=Tryz.tl1_1f b T todo) (Tryz.tl1_1f_info b T todo),Tryz.tl1_1g_q b T todo⟩)))⟩⟩)))⟩⟩))⟩
theorem Tryz.tlAt (c wt:Nat) (h1:1<=c) (h2:c<=8) (h3:wt<=1):∃g' bs,AllB b bs/\stepE Tryz.prog 164 false (Tryz.dn5 b T todo) (stV c wt) (smV 0)=.go g' (stV (c-1) wt) (smV 0) #[evR b 0,evW b 0] bs /\
  (if c=1/\wt=1 then Tl Tryz.prog 164 8 b 177 1 (.lst b 0) g' else QuitsD Tryz.prog 177 1 g'):=by
 obtain rfl | rfl | rfl | rfl | rfl | rfl | rfl | rfl:c=1\/c=2\/c=3\/c=4\/c=5\/c=6\/c=7\/c=8:=by omega
 ·obtain rfl | rfl:wt=0\/wt=1:=by omega
  ·exact⟨Tryz.tl1_0a b T todo,_,allB_two,SE.of_info (g:=Tryz.dn5 b T todo) (Tryz.tl1_0a_info b T todo),(by rw [if_neg (by decide)];exact quits_mono (k:=83) (Tryz.tl1_0 b T todo))⟩
  ·exact⟨Tryz.tl1_1a b T todo,_,allB_two,SE.of_info (g:=Tryz.dn5 b T todo) (Tryz.tl1_1a_info b T todo),(by rw [if_pos ⟨rfl,rfl⟩];exact Tryz.tl1_1_q b T todo)⟩
 ·obtain rfl | rfl:wt=0\/wt=1:=by omega
  ·exact⟨Tryz.tl2_0a b T todo,_,allB_two,SE.of_info (g:=Tryz.dn5 b T todo) (Tryz.tl2_0a_info b T todo),(by rw [if_neg (by decide)];exact quits_mono (k:=83) (Tryz.tl2_0 b T todo))⟩
  ·exact⟨Tryz.tl2_1a b T todo,_,allB_two,SE.of_info (g:=Tryz.dn5 b T todo) (Tryz.tl2_1a_info b T todo),(by rw [if_neg (by decide)];exact quits_mono (k:=83) (Tryz.tl2_1 b T todo))⟩
 ·obtain rfl | rfl:wt=0\/wt=1:=by omega
  ·exact⟨Tryz.tl3_0a b T todo,_,allB_two,SE.of_info (g:=Tryz.dn5 b T todo) (Tryz.tl3_0a_info b T todo),(by rw [if_neg (by decide)];exact quits_mono (k:=83) (Tryz.tl3_0 b T todo))⟩
  ·exact⟨Tryz.tl3_1a b T todo,_,allB_two,SE.of_info (g:=Tryz.dn5 b T todo) (Tryz.tl3_1a_info b T todo),(by rw [if_neg (by decide)];exact quits_mono (k:=83) (Tryz.tl3_1 b T todo))⟩
 ·obtain rfl | rfl:wt=0\/wt=1:=by omega
  ·exact⟨Tryz.tl4_0a b T todo,_,allB_two,SE.of_info (g:=Tryz.dn5 b T todo) (Tryz.tl4_0a_info b T todo),(by rw [if_neg (by decide)];exact quits_mono (k:=83) (Tryz.tl4_0 b T todo))⟩
  ·exact⟨Tryz.tl4_1a b T todo,_,allB_two,SE.of_info (g:=Tryz.dn5 b T todo) (Tryz.tl4_1a_info b T todo),(by rw [if_neg (by decide)];exact quits_mono (k:=83) (Tryz.tl4_1 b T todo))⟩
 ·obtain rfl | rfl:wt=0\/wt=1:=by omega
  ·exact⟨Tryz.tl5_0a b T todo,_,allB_two,SE.of_info (g:=Tryz.dn5 b T todo) (Tryz.tl5_0a_info b T todo),(by rw [if_neg (by decide)];exact quits_mono (k:=83) (Tryz.tl5_0 b T todo))⟩
  ·exact⟨Tryz.tl5_1a b T todo,_,allB_two,SE.of_info (g:=Tryz.dn5 b T todo) (Tryz.tl5_1a_info b T todo),(by rw [if_neg (by decide)];exact quits_mono (k:=83) (Tryz.tl5_1 b T todo))⟩
 ·obtain rfl | rfl:wt=0\/wt=1:=by omega
  ·exact⟨Tryz.tl6_0a b T todo,_,allB_two,SE.of_info (g:=Tryz.dn5 b T todo) (Tryz.tl6_0a_info b T todo),(by rw [if_neg (by decide)];exact quits_mono (k:=83) (Tryz.tl6_0 b T todo))⟩
  ·exact⟨Tryz.tl6_1a b T todo,_,allB_two,SE.of_info (g:=Tryz.dn5 b T todo) (Tryz.tl6_1a_info b T todo),(by rw [if_neg (by decide)];exact quits_mono (k:=83) (Tryz.tl6_1 b T todo))⟩
 ·obtain rfl | rfl:wt=0\/wt=1:=by omega
  ·exact⟨Tryz.tl7_0a b T todo,_,allB_two,SE.of_info (g:=Tryz.dn5 b T todo) (Tryz.tl7_0a_info b T todo),(by rw [if_neg (by decide)];exact quits_mono (k:=83) (Tryz.tl7_0 b T todo))⟩
  ·exact⟨Tryz.tl7_1a b T todo,_,allB_two,SE.of_info (g:=Tryz.dn5 b T todo) (Tryz.tl7_1a_info b T todo),(by rw [if_neg (by decide)];exact quits_mono (k:=83) (Tryz.tl7_1 b T todo))⟩
 ·obtain rfl | rfl:wt=0\/wt=1:=by omega
  ·exact⟨Tryz.tl8_0a b T todo,_,allB_two,SE.of_info (g:=Tryz.dn5 b T todo) (Tryz.tl8_0a_info b T todo),(by rw [if_neg (by decide)];exact quits_mono (k:=83) (Tryz.tl8_0 b T todo))⟩
  ·exact⟨Tryz.tl8_1a b T todo,_,allB_two,SE.of_info (g:=Tryz.dn5 b T todo) (Tryz.tl8_1a_info b T todo),(by rw [if_neg (by decide)];exact quits_mono (k:=83) (Tryz.tl8_1 b T todo))⟩
theorem Tryz.tlDone:∃n,Tl Tryz.prog 164 8 b n 0 (.rel b) (Tryz.dn2 b T todo):=
 ⟨_,Tl.calm (n:=3) (Tryz.dn2_calm b T todo) allB_nil (Tl.mute (n:=34+(177+1)) (d:=0) (Tryz.dn3_info b T todo) rfl allB_nil (by simp [evM,Event.mute]) (Tl.calm (n:=34) (Tryz.dn4_calm b T todo) allB_nil
  ⟨stepE_running (SE.of_info (g:=Tryz.dn5 b T todo) (Tryz.tl1_0a_info b T todo)),.inr (.inl ⟨rfl,rfl,λ c wt h1 h2 h3=>Tryz.tlAt b T todo c wt h1 h2 h3⟩)⟩))⟩
end
end Go.Proofs
