/- Lemmas. No conditions. -/
import Derived.Test.YtnjljnhoaafkiaaGreatDoorB16
import Derived.Test.YtnjljnhoaafkiaaGreatDoorB17
import Derived.Test.YtnjljnhoaafkiaaGreatDoorB18
import Derived.Test.YtnjljnhoaafkiaaGreatDoorB19
import Derived.Test.YtnjljnhoaafkiaaGreatDoorB20
import Derived.Test.YtnjljnhoaafkiaaGreatDoorB21
set_option linter.all false
set_option maxRecDepth 100000
namespace Go.Proofs
open Go.TM
open Go.Conc (QuitsD)
section
variable(b:Nat)(T:Array Value)(todo:List Item)
def zj:QuitsD Tryz.prog 24 1 (YJ b T todo):=Ze (n:=17) (Cp b T todo) (J5 (Cq b T todo) (by simp[Z0,Event.mute]) (Ze (n:=6) (k:=0) (Cr b T todo) ⟨qg b T todo,rfl⟩))
def zP:Tl Tryz.prog 176 6 b 177 1 (.lst b 0) (Vw b T todo):=
 Tl.calm (n:=103) (k:=73+1) (Cj b T todo) Qf ⟨Qn (SE.of_info (g:=Vx b T todo) (DE b T todo)),.inr (.inr (.inl ⟨rfl,rfl,_,_,Zr,SE.of_info (g:=Vx b T todo) (DE b T todo),
 Tl.calm (n:=20) (k:=52+1) (Cl b T todo) Qf ⟨Qn (SE.of_info (g:=Vy b T todo) (DF b T todo)),.inr (.inr (.inr (.inl ⟨rfl,rfl,_,_,Zr,SE.of_info (g:=Vy b T todo) (DF b T todo),
 Tl.calm (n:=27) (k:=24+1) (Cm b T todo) Qf ⟨Qn (SE.of_info (g:=P3 b T todo) (DG b T todo)),.inr (.inr (.inr (.inr ⟨rfl,rfl,Co b T todo,_,_,Q3,SE.of_info (g:=P3 b T todo) (DG b T todo),zj b T todo⟩)))⟩⟩)))⟩⟩))⟩
def xg(c wt:Nat)(h1:1<=c)(h2:c<=6)(f:wt<=1):∃g' bs,Z5 b bs/\Qc Tryz.prog 176 false (Q8 b T todo) (Q0 c wt) (Qp 0)=.go g' (Q0 (c-1) wt) (Qp 0) #[Jc b 0,QA b 0] bs /\
  (if c=1/\wt=1 then Tl Tryz.prog 176 6 b 177 1 (.lst b 0) g' else QuitsD Tryz.prog 177 1 g'):=by
 obtain rfl|rfl|rfl|rfl|rfl|rfl:c=1\/c=2\/c=3\/c=4\/c=5\/c=6:=O1
 .obtain rfl|rfl:wt=0\/wt=1:=O1
  .exact⟨Vv b T todo,_,Q3,SE.of_info (g:=Q8 b T todo) (DD b T todo),(by rw[if_neg D1];exact Jr (k:=83) (NY b T todo))⟩
  .exact⟨Vw b T todo,_,Q3,SE.of_info (g:=Q8 b T todo) (Ck b T todo),(by rw[if_pos ⟨rfl,rfl⟩];exact zP b T todo)⟩
 .obtain rfl|rfl:wt=0\/wt=1:=O1
  .exact⟨Vz b T todo,_,Q3,SE.of_info (g:=Q8 b T todo) (Cu b T todo),(by rw[if_neg D1];exact Jr (k:=83) (NZ b T todo))⟩
  .exact⟨VA b T todo,_,Q3,SE.of_info (g:=Q8 b T todo) (Cy b T todo),(by rw[if_neg D1];exact Jr (k:=83) (N_ b T todo))⟩
 .obtain rfl|rfl:wt=0\/wt=1:=O1
  .exact⟨VB b T todo,_,Q3,SE.of_info (g:=Q8 b T todo) (CD b T todo),(by rw[if_neg D1];exact Jr (k:=83) (R0 b T todo))⟩
  .exact⟨Vg b T todo,_,Q3,SE.of_info (g:=Q8 b T todo) (CH b T todo),(by rw[if_neg D1];exact Jr (k:=83) (R1 b T todo))⟩
 .obtain rfl|rfl:wt=0\/wt=1:=O1
  .exact⟨Vh b T todo,_,Q3,SE.of_info (g:=Q8 b T todo) (CL b T todo),(by rw[if_neg D1];exact Jr (k:=83) (R2 b T todo))⟩
  .exact⟨Vi b T todo,_,Q3,SE.of_info (g:=Q8 b T todo) (Cc b T todo),(by rw[if_neg D1];exact Jr (k:=83) (R3 b T todo))⟩
 .obtain rfl|rfl:wt=0\/wt=1:=O1
  .exact⟨Vj b T todo,_,Q3,SE.of_info (g:=Q8 b T todo) (Cg b T todo),(by rw[if_neg D1];exact Jr (k:=83) (R4 b T todo))⟩
  .exact⟨Vk b T todo,_,Q3,SE.of_info (g:=Q8 b T todo) (CN b T todo),(by rw[if_neg D1];exact Jr (k:=83) (R5 b T todo))⟩
 .obtain rfl|rfl:wt=0\/wt=1:=O1
  .exact⟨Vl b T todo,_,Q3,SE.of_info (g:=Q8 b T todo) (CR b T todo),(by rw[if_neg D1];exact Jr (k:=83) (RH b T todo))⟩
  .exact⟨Vm b T todo,_,Q3,SE.of_info (g:=Q8 b T todo) (CV b T todo),(by rw[if_neg D1];exact Jr (k:=83) (RI b T todo))⟩
def N0:∃n,Tl Tryz.prog 176 6 b n 0 (.rel b) (OW b T todo):=
 ⟨_,Tl.calm (n:=3) (q_ b T todo) Qf (Tl.mute (n:=34+(177+1)) (d:=0) (qJ b T todo) rfl Qf (by simp[Z0,Event.mute]) (Tl.calm (n:=34) (qK b T todo) Qf
  ⟨Qn (SE.of_info (g:=Q8 b T todo) (DD b T todo)),.inr (.inl ⟨rfl,rfl,λ c wt h1 h2 f=>xg b T todo c wt h1 h2 f⟩)⟩))⟩
end
end Go.Proofs

