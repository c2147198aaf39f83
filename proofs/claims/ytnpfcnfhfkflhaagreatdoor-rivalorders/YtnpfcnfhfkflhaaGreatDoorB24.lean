/- Lemmas. No conditions. -/
import Derived.Test.YtnpfcnfhfkflhaaGreatDoorB18
import Derived.Test.YtnpfcnfhfkflhaaGreatDoorB19
import Derived.Test.YtnpfcnfhfkflhaaGreatDoorB20
import Derived.Test.YtnpfcnfhfkflhaaGreatDoorB21
import Derived.Test.YtnpfcnfhfkflhaaGreatDoorB22
import Derived.Test.YtnpfcnfhfkflhaaGreatDoorB23
set_option linter.all false
set_option maxRecDepth 100000
namespace Go.Proofs
open Go.TM
open Go.Conc (QuitsD)
section
variable(b:Nat)(T:Array Value)(todo:List Item)
def Aa:QuitsD Tryz.prog 24 1 (Ur b T todo):=Ze (n:=17) (k_ b T todo) (J9 (Mw b T todo) (by simp[Z2,Event.mute]) (Ze (n:=6) (k:=0) (Bi b T todo) ⟨Be b T todo,rfl⟩))
def zT:Tl Tryz.prog 209 6 b 177 1 (.lst b 0) (Yx b T todo):=
 Tl.calm (n:=103) (k:=73+1) (RG b T todo) Qg ⟨Qn (SE.of_info (g:=Va b T todo) (EW b T todo)),.inr (.inr (.inl ⟨rfl,rfl,_,_,Zs,SE.of_info (g:=Va b T todo) (EW b T todo),
 Tl.calm (n:=20) (k:=52+1) (C7 b T todo) Qg ⟨Qn (SE.of_info (g:=Y0 b T todo) (IF b T todo)),.inr (.inr (.inr (.inl ⟨rfl,rfl,_,_,Zs,SE.of_info (g:=Y0 b T todo) (IF b T todo),
 Tl.calm (n:=27) (k:=24+1) (pO b T todo) Qg ⟨Qn (SE.of_info (g:=Pz b T todo) (Iy b T todo)),.inr (.inr (.inr (.inr ⟨rfl,rfl,Rd b T todo,_,_,Q4,SE.of_info (g:=Pz b T todo) (Iy b T todo),Aa b T todo⟩)))⟩⟩)))⟩⟩))⟩
def NR(c wt:Nat)(e:1<=c)(f:c<=6)(h:wt<=1):∃g' bs,Z8 b bs/\Qc Tryz.prog 209 false (Q9 b T todo) (Q1 c wt) (Qq 0)=.go g' (Q1 (c-1) wt) (Qq 0) #[Jg b 0,QB b 0] bs /\
  (if c=1/\wt=1 then Tl Tryz.prog 209 6 b 177 1 (.lst b 0) g' else QuitsD Tryz.prog 177 1 g'):=by
 obtain rfl|rfl|rfl|rfl|rfl|rfl:c=1\/c=2\/c=3\/c=4\/c=5\/c=6:=O1
 .obtain rfl|rfl:wt=0\/wt=1:=O1
  .exact⟨Yq b T todo,_,Q4,SE.of_info (g:=Q9 b T todo) (EY b T todo),(by rw[if_neg D1];exact Ju (k:=83) (jO b T todo))⟩
  .exact⟨Yx b T todo,_,Q4,SE.of_info (g:=Q9 b T todo) (tq b T todo),(by rw[if_pos ⟨rfl,rfl⟩];exact zT b T todo)⟩
 .obtain rfl|rfl:wt=0\/wt=1:=O1
  .exact⟨Kl b T todo,_,Q4,SE.of_info (g:=Q9 b T todo) (zi b T todo),(by rw[if_neg D1];exact Ju (k:=83) (wW b T todo))⟩
  .exact⟨Ys b T todo,_,Q4,SE.of_info (g:=Q9 b T todo) (vC b T todo),(by rw[if_neg D1];exact Ju (k:=83) (R9 b T todo))⟩
 .obtain rfl|rfl:wt=0\/wt=1:=O1
  .exact⟨Vk b T todo,_,Q4,SE.of_info (g:=Q9 b T todo) (N2 b T todo),(by rw[if_neg D1];exact Ju (k:=83) (jv b T todo))⟩
  .exact⟨KG b T todo,_,Q4,SE.of_info (g:=Q9 b T todo) (Rj b T todo),(by rw[if_neg D1];exact Ju (k:=83) (gw b T todo))⟩
 .obtain rfl|rfl:wt=0\/wt=1:=O1
  .exact⟨Yb b T todo,_,Q4,SE.of_info (g:=Q9 b T todo) (jR b T todo),(by rw[if_neg D1];exact Ju (k:=83) (BF b T todo))⟩
  .exact⟨VZ b T todo,_,Q4,SE.of_info (g:=Q9 b T todo) (Nl b T todo),(by rw[if_neg D1];exact Ju (k:=83) (jt b T todo))⟩
 .obtain rfl|rfl:wt=0\/wt=1:=O1
  .exact⟨Vr b T todo,_,Q4,SE.of_info (g:=Q9 b T todo) (jD b T todo),(by rw[if_neg D1];exact Ju (k:=83) (zA b T todo))⟩
  .exact⟨Kh b T todo,_,Q4,SE.of_info (g:=Q9 b T todo) (jy b T todo),(by rw[if_neg D1];exact Ju (k:=83) (Mt b T todo))⟩
 .obtain rfl|rfl:wt=0\/wt=1:=O1
  .exact⟨K4 b T todo,_,Q4,SE.of_info (g:=Q9 b T todo) (NC b T todo),(by rw[if_neg D1];exact Ju (k:=83) (wH b T todo))⟩
  .exact⟨Yg b T todo,_,Q4,SE.of_info (g:=Q9 b T todo) (wN b T todo),(by rw[if_neg D1];exact Ju (k:=83) (xU b T todo))⟩
def zy:∃n,Tl Tryz.prog 209 6 b n 0 (.rel b) (SO b T todo):=
 ⟨_,Tl.calm (n:=3) (Ay b T todo) Qg (Tl.mute (n:=34+(177+1)) (d:=0) (Cy b T todo) rfl Qg (by simp[Z2,Event.mute]) (Tl.calm (n:=34) (yf b T todo) Qg
  ⟨Qn (SE.of_info (g:=Q9 b T todo) (EY b T todo)),.inr (.inl ⟨rfl,rfl,λ c wt e f h=>NR b T todo c wt e f h⟩)⟩))⟩
end
end Go.Proofs

