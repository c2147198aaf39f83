/- Lemmas. No conditions. -/
import Derived.Test.YtcakpkianonbkaaGreatDoorB19
import Derived.Test.YtcakpkianonbkaaGreatDoorB20
import Derived.Test.YtcakpkianonbkaaGreatDoorB21
import Derived.Test.YtcakpkianonbkaaGreatDoorB22
import Derived.Test.YtcakpkianonbkaaGreatDoorB23
import Derived.Test.YtcakpkianonbkaaGreatDoorB24
set_option linter.all false
set_option maxRecDepth 100000
namespace Go.Proofs
open Go.TM
open Go.Conc (QuitsD)
section
variable(b:Nat)(T:Array Value)(todo:List Item)
def Qw4:QuitsD Tryz.prog 24 1 (Qhz b T todo):=Zj (n:=17) (Qnd b T todo) (J9 (Qne b T todo) (by simp[Z5,Event.mute]) (Zj (n:=6) (k:=0) (Qnf b T todo) ⟨Qqq b T todo,rfl⟩))
def Q0o:Tl Tryz.prog 175 6 b 177 1 (.lst b 0) (Qel b T todo):=
 Tl.calm (n:=103) (k:=73+1) (Qm8 b T todo) Qg ⟨Qn (SE.of_info (g:=Qem b T todo) (Qfm b T todo)),.inr (.inr (.inl ⟨rfl,rfl,_,_,Zv,SE.of_info (g:=Qem b T todo) (Qfm b T todo),
 Tl.calm (n:=20) (k:=52+1) (Qna b T todo) Qg ⟨Qn (SE.of_info (g:=Qen b T todo) (Qfn b T todo)),.inr (.inr (.inr (.inl ⟨rfl,rfl,_,_,Zv,SE.of_info (g:=Qen b T todo) (Qfn b T todo),
 Tl.calm (n:=27) (k:=24+1) (Qnb b T todo) Qg ⟨Qn (SE.of_info (g:=Qca b T todo) (Qfo b T todo)),.inr (.inr (.inr (.inr ⟨rfl,rfl,Qnc b T todo,_,_,Q4,SE.of_info (g:=Qca b T todo) (Qfo b T todo),Qw4 b T todo⟩)))⟩⟩)))⟩⟩))⟩
def Zhv(c wt:Nat)(h1:1<=c)(h2:c<=6)(h3:wt<=1):∃g' bs,Jb b bs/\Qc Tryz.prog 175 false (Za b T todo) (Q1 c wt) (Qp 0)=.go g' (Q1 (c-1) wt) (Qp 0) #[Jg b 0,evW b 0] bs /\
  (if c=1/\wt=1 then Tl Tryz.prog 175 6 b 177 1 (.lst b 0) g' else QuitsD Tryz.prog 177 1 g'):=by
 obtain rfl|rfl|rfl|rfl|rfl|rfl:c=1\/c=2\/c=3\/c=4\/c=5\/c=6:=by omega
 .obtain rfl|rfl:wt=0\/wt=1:=by omega
  .exact⟨Qek b T todo,_,Q4,SE.of_info (g:=Za b T todo) (Qfl b T todo),(by rw[if_neg (by decide)];exact Jv (k:=83) (Q85 b T todo))⟩
  .exact⟨Qel b T todo,_,Q4,SE.of_info (g:=Za b T todo) (Qm9 b T todo),(by rw[if_pos ⟨rfl,rfl⟩];exact Q0o b T todo)⟩
 .obtain rfl|rfl:wt=0\/wt=1:=by omega
  .exact⟨Qeo b T todo,_,Q4,SE.of_info (g:=Za b T todo) (Qnh b T todo),(by rw[if_neg (by decide)];exact Jv (k:=83) (Q86 b T todo))⟩
  .exact⟨Qep b T todo,_,Q4,SE.of_info (g:=Za b T todo) (Qnl b T todo),(by rw[if_neg (by decide)];exact Jv (k:=83) (Q87 b T todo))⟩
 .obtain rfl|rfl:wt=0\/wt=1:=by omega
  .exact⟨Qeq b T todo,_,Q4,SE.of_info (g:=Za b T todo) (Qnp b T todo),(by rw[if_neg (by decide)];exact Jv (k:=83) (Q88 b T todo))⟩
  .exact⟨Qer b T todo,_,Q4,SE.of_info (g:=Za b T todo) (Qnt b T todo),(by rw[if_neg (by decide)];exact Jv (k:=83) (Q89 b T todo))⟩
 .obtain rfl|rfl:wt=0\/wt=1:=by omega
  .exact⟨Qes b T todo,_,Q4,SE.of_info (g:=Za b T todo) (Qnx b T todo),(by rw[if_neg (by decide)];exact Jv (k:=83) (Q9a b T todo))⟩
  .exact⟨Qet b T todo,_,Q4,SE.of_info (g:=Za b T todo) (Qn1 b T todo),(by rw[if_neg (by decide)];exact Jv (k:=83) (Q9b b T todo))⟩
 .obtain rfl|rfl:wt=0\/wt=1:=by omega
  .exact⟨Qeu b T todo,_,Q4,SE.of_info (g:=Za b T todo) (Qn5 b T todo),(by rw[if_neg (by decide)];exact Jv (k:=83) (Q9c b T todo))⟩
  .exact⟨Qev b T todo,_,Q4,SE.of_info (g:=Za b T todo) (Qn9 b T todo),(by rw[if_neg (by decide)];exact Jv (k:=83) (Q9d b T todo))⟩
 .obtain rfl|rfl:wt=0\/wt=1:=by omega
  .exact⟨Qew b T todo,_,Q4,SE.of_info (g:=Za b T todo) (Qod b T todo),(by rw[if_neg (by decide)];exact Jv (k:=83) (Q9e b T todo))⟩
  .exact⟨Qex b T todo,_,Q4,SE.of_info (g:=Za b T todo) (Qoh b T todo),(by rw[if_neg (by decide)];exact Jv (k:=83) (Q9f b T todo))⟩
def Q4v:∃n,Tl Tryz.prog 175 6 b n 0 (.rel b) (Qr5 b T todo):=
 ⟨_,Tl.calm (n:=3) (Qwm b T todo) Qg (Tl.mute (n:=34+(177+1)) (d:=0) (Qwn b T todo) rfl Qg (by simp[Z5,Event.mute]) (Tl.calm (n:=34) (Qwo b T todo) Qg
  ⟨Qn (SE.of_info (g:=Za b T todo) (Qfl b T todo)),.inr (.inl ⟨rfl,rfl,λ c wt h1 h2 h3=>Zhv b T todo c wt h1 h2 h3⟩)⟩))⟩
end
end Go.Proofs
