/- Lemmas. No conditions. -/
import Derived.Test.YtcakpkianonbkaaGreatDoorB19
import Derived.Test.YtcakpkianonbkaaGreatDoorB20
import Derived.Test.YtcakpkianonbkaaGreatDoorB21
import Derived.Test.YtcakpkianonbkaaGreatDoorB22
import Derived.Test.YtcakpkianonbkaaGreatDoorB23
import Derived.Test.YtcakpkianonbkaaGreatDoorB24
set_option linter.all false
set_option maxRecDepth 100000
namespace Go.Proofs
open Go.TM
open Go.Conc (QuitsD)
section
variable(b:Nat)(T:Array Value)(todo:List Item)
def zV:QuitsD Tryz.prog 24 1 (T8 b T todo):=Zj (n:=17) (CW b T todo) (Wc (CX b T todo) (by simp[Z8,Event.mute]) (Zj (n:=6) (k:=0) (CY b T todo) ⟨qL b T todo,rfl⟩))
def RA:Tl Tryz.prog 175 6 b 177 1 (.lst b 0) (Kl b T todo):=
 Tl.calm (n:=103) (k:=73+1) (CR b T todo) Qg ⟨Qo (SE.of_info (g:=Km b T todo) (Fq b T todo)),.inr (.inr (.inl ⟨rfl,rfl,_,_,Zw,SE.of_info (g:=Km b T todo) (Fq b T todo),
 Tl.calm (n:=20) (k:=52+1) (CT b T todo) Qg ⟨Qo (SE.of_info (g:=Ko b T todo) (Fs b T todo)),.inr (.inr (.inr (.inl ⟨rfl,rfl,_,_,Zw,SE.of_info (g:=Ko b T todo) (Fs b T todo),
 Tl.calm (n:=27) (k:=24+1) (CU b T todo) Qg ⟨Qo (SE.of_info (g:=PD b T todo) (Ft b T todo)),.inr (.inr (.inr (.inr ⟨rfl,rfl,CV b T todo,_,_,Q6,SE.of_info (g:=PD b T todo) (Ft b T todo),zV b T todo⟩)))⟩⟩)))⟩⟩))⟩
def vR(c wt:Nat)(e:1<=c)(h:c<=6)(w:wt<=1):∃g' bs,Jc b bs/\Qc Tryz.prog 175 false (Zc b T todo) (Q2 c wt) (Qq 0)=.go g' (Q2 (c-1) wt) (Qq 0) #[Ji b 0,QA b 0] bs /\
  (if c=1/\wt=1 then Tl Tryz.prog 175 6 b 177 1 (.lst b 0) g' else QuitsD Tryz.prog 177 1 g'):=by
 obtain rfl|rfl|rfl|rfl|rfl|rfl:c=1\/c=2\/c=3\/c=4\/c=5\/c=6:=O1
 .obtain rfl|rfl:wt=0\/wt=1:=O1
  .exact⟨Kk b T todo,_,Q6,SE.of_info (g:=Zc b T todo) (Fp b T todo),(by rw[if_neg D1];exact Jv (k:=83) (BU b T todo))⟩
  .exact⟨Kl b T todo,_,Q6,SE.of_info (g:=Zc b T todo) (CS b T todo),(by rw[if_pos ⟨rfl,rfl⟩];exact RA b T todo)⟩
 .obtain rfl|rfl:wt=0\/wt=1:=O1
  .exact⟨Kp b T todo,_,Q6,SE.of_info (g:=Zc b T todo) (C_ b T todo),(by rw[if_neg D1];exact Jv (k:=83) (BV b T todo))⟩
  .exact⟨Kq b T todo,_,Q6,SE.of_info (g:=Zc b T todo) (qf b T todo),(by rw[if_neg D1];exact Jv (k:=83) (BW b T todo))⟩
 .obtain rfl|rfl:wt=0\/wt=1:=O1
  .exact⟨Kr b T todo,_,Q6,SE.of_info (g:=Zc b T todo) (CA b T todo),(by rw[if_neg D1];exact Jv (k:=83) (BX b T todo))⟩
  .exact⟨Ks b T todo,_,Q6,SE.of_info (g:=Zc b T todo) (CF b T todo),(by rw[if_neg D1];exact Jv (k:=83) (BY b T todo))⟩
 .obtain rfl|rfl:wt=0\/wt=1:=O1
  .exact⟨Kt b T todo,_,Q6,SE.of_info (g:=Zc b T todo) (CK b T todo),(by rw[if_neg D1];exact Jv (k:=83) (BZ b T todo))⟩
  .exact⟨Ku b T todo,_,Q6,SE.of_info (g:=Zc b T todo) (qn b T todo),(by rw[if_neg D1];exact Jv (k:=83) (B_ b T todo))⟩
 .obtain rfl|rfl:wt=0\/wt=1:=O1
  .exact⟨Kv b T todo,_,Q6,SE.of_info (g:=Zc b T todo) (qu b T todo),(by rw[if_neg D1];exact Jv (k:=83) (C0 b T todo))⟩
  .exact⟨Kw b T todo,_,Q6,SE.of_info (g:=Zc b T todo) (qy b T todo),(by rw[if_neg D1];exact Jv (k:=83) (C1 b T todo))⟩
 .obtain rfl|rfl:wt=0\/wt=1:=O1
  .exact⟨K8 b T todo,_,Q6,SE.of_info (g:=Zc b T todo) (qC b T todo),(by rw[if_neg D1];exact Jv (k:=83) (jo b T todo))⟩
  .exact⟨K9 b T todo,_,Q6,SE.of_info (g:=Zc b T todo) (qG b T todo),(by rw[if_neg D1];exact Jv (k:=83) (jp b T todo))⟩
def AK:∃n,Tl Tryz.prog 175 6 b n 0 (.rel b) (Sr b T todo):=
 ⟨_,Tl.calm (n:=3) (zv b T todo) Qg (Tl.mute (n:=34+(177+1)) (d:=0) (zw b T todo) rfl Qg (by simp[Z8,Event.mute]) (Tl.calm (n:=34) (zx b T todo) Qg
  ⟨Qo (SE.of_info (g:=Zc b T todo) (Fp b T todo)),.inr (.inl ⟨rfl,rfl,λ c wt e h w=>vR b T todo c wt e h w⟩)⟩))⟩
end
end Go.Proofs

