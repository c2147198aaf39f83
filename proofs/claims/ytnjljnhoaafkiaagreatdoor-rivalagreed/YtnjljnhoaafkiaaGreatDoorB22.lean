/- Lemmas. No conditions. -/
import Derived.Test.YtnjljnhoaafkiaaGreatDoorB16
import Derived.Test.YtnjljnhoaafkiaaGreatDoorB17
import Derived.Test.YtnjljnhoaafkiaaGreatDoorB18
import Derived.Test.YtnjljnhoaafkiaaGreatDoorB19
import Derived.Test.YtnjljnhoaafkiaaGreatDoorB20
import Derived.Test.YtnjljnhoaafkiaaGreatDoorB21
set_option linter.all false
set_option maxRecDepth 100000
namespace Go.TM
open Go.Proofs
section
open Go.Conc (QuitsD)
variable(b:Nat)(T:Array Value)(todo:List Item)
def zq:QuitsD Tryz.prog 24 1 (YO b T todo):=Zd (n:=17) (CC b T todo) (J5 (CD b T todo) (by simp[Z0,Event.mute]) (Zd (n:=6) (k:=0) (CE b T todo) ⟨qv b T todo,rfl⟩))
def zP:Tl Tryz.prog 176 6 b 177 1 (.lst b 0) (Vz b T todo):=
 Tl.calm (n:=103) (k:=73+1) (Cw b T todo) Qe ⟨Qn (SE.of_info (g:=VA b T todo) (DH b T todo)),.inr (.inr (.inl ⟨rfl,rfl,_,_,Zs,SE.of_info (g:=VA b T todo) (DH b T todo),
 Tl.calm (n:=20) (k:=52+1) (Cy b T todo) Qe ⟨Qn (SE.of_info (g:=VB b T todo) (DI b T todo)),.inr (.inr (.inr (.inl ⟨rfl,rfl,_,_,Zs,SE.of_info (g:=VB b T todo) (DI b T todo),
 Tl.calm (n:=27) (k:=24+1) (Cz b T todo) Qe ⟨Qn (SE.of_info (g:=P5 b T todo) (DJ b T todo)),.inr (.inr (.inr (.inr ⟨rfl,rfl,CA b T todo,_,_,Q3,SE.of_info (g:=P5 b T todo) (DJ b T todo),zq b T todo⟩)))⟩⟩)))⟩⟩))⟩
def wA(c wt:Nat)(h1:1<=c)(h2:c<=6)(f:wt<=1):∃g' bs,Z5 b bs/\Qc Tryz.prog 176 false (Q8 b T todo) (Q0 c wt) (Qp 0)=.go g' (Q0 (c-1) wt) (Qp 0) #[Jc b 0,QA b 0] bs /\
  (if c=1/\wt=1 then Tl Tryz.prog 176 6 b 177 1 (.lst b 0) g' else QuitsD Tryz.prog 177 1 g'):=by
 obtain rfl|rfl|rfl|rfl|rfl|rfl:c=1\/c=2\/c=3\/c=4\/c=5\/c=6:=O1
 .obtain rfl|rfl:wt=0\/wt=1:=O1
  .exact⟨Vy b T todo,_,Q3,SE.of_info (g:=Q8 b T todo) (DG b T todo),(by rw[if_neg D1];exact Jr (k:=83) (Rx b T todo))⟩
  .exact⟨Vz b T todo,_,Q3,SE.of_info (g:=Q8 b T todo) (Cx b T todo),(by rw[if_pos ⟨rfl,rfl⟩];exact zP b T todo)⟩
 .obtain rfl|rfl:wt=0\/wt=1:=O1
  .exact⟨VC b T todo,_,Q3,SE.of_info (g:=Q8 b T todo) (CG b T todo),(by rw[if_neg D1];exact Jr (k:=83) (Ry b T todo))⟩
  .exact⟨VD b T todo,_,Q3,SE.of_info (g:=Q8 b T todo) (CK b T todo),(by rw[if_neg D1];exact Jr (k:=83) (Rz b T todo))⟩
 .obtain rfl|rfl:wt=0\/wt=1:=O1
  .exact⟨VE b T todo,_,Q3,SE.of_info (g:=Q8 b T todo) (CO b T todo),(by rw[if_neg D1];exact Jr (k:=83) (RA b T todo))⟩
  .exact⟨Vj b T todo,_,Q3,SE.of_info (g:=Q8 b T todo) (CS b T todo),(by rw[if_neg D1];exact Jr (k:=83) (RB b T todo))⟩
 .obtain rfl|rfl:wt=0\/wt=1:=O1
  .exact⟨Vk b T todo,_,Q3,SE.of_info (g:=Q8 b T todo) (CW b T todo),(by rw[if_neg D1];exact Jr (k:=83) (RC b T todo))⟩
  .exact⟨Vl b T todo,_,Q3,SE.of_info (g:=Q8 b T todo) (Co b T todo),(by rw[if_neg D1];exact Jr (k:=83) (RD b T todo))⟩
 .obtain rfl|rfl:wt=0\/wt=1:=O1
  .exact⟨Vm b T todo,_,Q3,SE.of_info (g:=Q8 b T todo) (Ct b T todo),(by rw[if_neg D1];exact Jr (k:=83) (RE b T todo))⟩
  .exact⟨Vn b T todo,_,Q3,SE.of_info (g:=Q8 b T todo) (CY b T todo),(by rw[if_neg D1];exact Jr (k:=83) (RF b T todo))⟩
 .obtain rfl|rfl:wt=0\/wt=1:=O1
  .exact⟨Vo b T todo,_,Q3,SE.of_info (g:=Q8 b T todo) (qd b T todo),(by rw[if_neg D1];exact Jr (k:=83) (RG b T todo))⟩
  .exact⟨Vp b T todo,_,Q3,SE.of_info (g:=Q8 b T todo) (qh b T todo),(by rw[if_neg D1];exact Jr (k:=83) (RH b T todo))⟩
def ML:∃n,Tl Tryz.prog 176 6 b n 0 (.rel b) (T4 b T todo):=
 ⟨_,Tl.calm (n:=3) (zi b T todo) Qe (Tl.mute (n:=34+(177+1)) (d:=0) (zj b T todo) rfl Qe (by simp[Z0,Event.mute]) (Tl.calm (n:=34) (zk b T todo) Qe
  ⟨Qn (SE.of_info (g:=Q8 b T todo) (DG b T todo)),.inr (.inl ⟨rfl,rfl,λ c wt h1 h2 f=>wA b T todo c wt h1 h2 f⟩)⟩))⟩
