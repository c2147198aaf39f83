/- Lemmas. No conditions. -/
import Derived.Test.YtignaaddghcanaaGreatDoorB15
import Derived.Test.YtignaaddghcanaaGreatDoorB16
import Derived.Test.YtignaaddghcanaaGreatDoorB17
import Derived.Test.YtignaaddghcanaaGreatDoorB18
import Derived.Test.YtignaaddghcanaaGreatDoorB19
import Derived.Test.YtignaaddghcanaaGreatDoorB20
set_option linter.all false
set_option maxRecDepth 100000
namespace Go.TM
open Go.Proofs
section
open Go.Conc (QuitsD)
variable(b:Nat)(T:Array Value)(todo:List Item)
def qw:QuitsD Tryz.prog 24 1 (YI b T todo):=Zd (n:=17) (B_ b T todo) (J5 (C0 b T todo) (by simp[Z0,Event.mute]) (Zd (n:=6) (k:=0) (C1 b T todo) ⟨CT b T todo,rfl⟩))
def zu:Tl Tryz.prog 173 6 b 177 1 (.lst b 0) (Vh b T todo):=
 Tl.calm (n:=103) (k:=73+1) (BV b T todo) Qe ⟨Qn (SE.of_info (g:=Vi b T todo) (Do b T todo)),.inr (.inr (.inl ⟨rfl,rfl,_,_,Zr,SE.of_info (g:=Vi b T todo) (Do b T todo),
 Tl.calm (n:=20) (k:=52+1) (BX b T todo) Qe ⟨Qn (SE.of_info (g:=Vj b T todo) (Dp b T todo)),.inr (.inr (.inr (.inl ⟨rfl,rfl,_,_,Zr,SE.of_info (g:=Vj b T todo) (Dp b T todo),
 Tl.calm (n:=27) (k:=24+1) (BY b T todo) Qe ⟨Qn (SE.of_info (g:=GV b T todo) (Dq b T todo)),.inr (.inr (.inr (.inr ⟨rfl,rfl,BZ b T todo,_,_,Q3,SE.of_info (g:=GV b T todo) (Dq b T todo),qw b T todo⟩)))⟩⟩)))⟩⟩))⟩
def wF(c wt:Nat)(f:1<=c)(h:c<=6)(w:wt<=1):∃g' bs,Z6 b bs/\Qc Tryz.prog 173 false (Q7 b T todo) (Q0 c wt) (Qp 0)=.go g' (Q0 (c-1) wt) (Qp 0) #[Jd b 0,W9 b 0] bs /\
  (if c=1/\wt=1 then Tl Tryz.prog 173 6 b 177 1 (.lst b 0) g' else QuitsD Tryz.prog 177 1 g'):=by
 obtain rfl|rfl|rfl|rfl|rfl|rfl:c=1\/c=2\/c=3\/c=4\/c=5\/c=6:=O1
 .obtain rfl|rfl:wt=0\/wt=1:=O1
  .exact⟨Vg b T todo,_,Q3,SE.of_info (g:=Q7 b T todo) (Dn b T todo),(by rw[if_neg D1];exact Jq (k:=83) (Rd b T todo))⟩
  .exact⟨Vh b T todo,_,Q3,SE.of_info (g:=Q7 b T todo) (BW b T todo),(by rw[if_pos ⟨rfl,rfl⟩];exact zu b T todo)⟩
 .obtain rfl|rfl:wt=0\/wt=1:=O1
  .exact⟨Vk b T todo,_,Q3,SE.of_info (g:=Q7 b T todo) (Cg b T todo),(by rw[if_neg D1];exact Jq (k:=83) (Re b T todo))⟩
  .exact⟨Vl b T todo,_,Q3,SE.of_info (g:=Q7 b T todo) (Ck b T todo),(by rw[if_neg D1];exact Jq (k:=83) (Rg b T todo))⟩
 .obtain rfl|rfl:wt=0\/wt=1:=O1
  .exact⟨Vm b T todo,_,Q3,SE.of_info (g:=Q7 b T todo) (Cp b T todo),(by rw[if_neg D1];exact Jq (k:=83) (Rh b T todo))⟩
  .exact⟨Vn b T todo,_,Q3,SE.of_info (g:=Q7 b T todo) (Cu b T todo),(by rw[if_neg D1];exact Jq (k:=83) (Ri b T todo))⟩
 .obtain rfl|rfl:wt=0\/wt=1:=O1
  .exact⟨Vo b T todo,_,Q3,SE.of_info (g:=Q7 b T todo) (Cy b T todo),(by rw[if_neg D1];exact Jq (k:=83) (Rj b T todo))⟩
  .exact⟨Vp b T todo,_,Q3,SE.of_info (g:=Q7 b T todo) (CD b T todo),(by rw[if_neg D1];exact Jq (k:=83) (Rk b T todo))⟩
 .obtain rfl|rfl:wt=0\/wt=1:=O1
  .exact⟨V4 b T todo,_,Q3,SE.of_info (g:=Q7 b T todo) (CH b T todo),(by rw[if_neg D1];exact Jq (k:=83) (Rl b T todo))⟩
  .exact⟨V5 b T todo,_,Q3,SE.of_info (g:=Q7 b T todo) (C8 b T todo),(by rw[if_neg D1];exact Jq (k:=83) (Rm b T todo))⟩
 .obtain rfl|rfl:wt=0\/wt=1:=O1
  .exact⟨V6 b T todo,_,Q3,SE.of_info (g:=Q7 b T todo) (Cc b T todo),(by rw[if_neg D1];exact Jq (k:=83) (Rn b T todo))⟩
  .exact⟨V7 b T todo,_,Q3,SE.of_info (g:=Q7 b T todo) (CJ b T todo),(by rw[if_neg D1];exact Jq (k:=83) (NP b T todo))⟩
def Mn:∃n,Tl Tryz.prog 173 6 b n 0 (.rel b) (ON b T todo):=
 ⟨_,Tl.calm (n:=3) (qI b T todo) Qe (Tl.mute (n:=34+(177+1)) (d:=0) (qJ b T todo) rfl Qe (by simp[Z0,Event.mute]) (Tl.calm (n:=34) (qK b T todo) Qe
  ⟨Qn (SE.of_info (g:=Q7 b T todo) (Dn b T todo)),.inr (.inl ⟨rfl,rfl,λ c wt f h w=>wF b T todo c wt f h w⟩)⟩))⟩
