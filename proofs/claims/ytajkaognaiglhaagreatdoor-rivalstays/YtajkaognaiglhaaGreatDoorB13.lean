/- Lemmas. No conditions. -/
import Derived.Test.YtajkaognaiglhaaGreatDoorB11
set_option linter.all false
set_option maxRecDepth 100000
open List
namespace Go.TM
open Go.Proofs
section
open Go.Conc (QuitsD)
def GD(P:Program)(t:TypeId):Nat->Nat->Gr->Bool
 |0,d,g=>(match g.status with|.finished=>d==0|_=>false)
 |n+1,d,g=>match g.status with
  |.finished=>d==0
  |.running=>(match Q5 P t false g undef undef with
   |.go g' _ _ es []=>es.all Event.mute&&GD P t n (deafBehind d es) g'
   |_=>false)
  |_=>false
def KH{P:Program}{t:TypeId}:∀{n d:Nat}{g:Gr},GD P t n d g=true->QuitsD P n d g
 |0,d,g,h=>by
  unfold GD at h;split at h
  .rename_i e;exact⟨e,by simpa using h⟩
  .cases h
 |n+1,d,g,h=>by
  unfold GD at h;split at h
  .rename_i e;exact .inl ⟨e,by simpa using h⟩
  .rename_i e;split at h
   .rename_i g' st sm es hst;obtain⟨f,w⟩:=Bool.and_eq_true_iff.1 h;exact SY e hst (Array.all_eq_true_iff_forall_mem.1 f) (KH w)
   .cases h
  .cases h
end
section
open Go.Conc (QuitsD)
variable(b:Nat)(T:Array Value)(todo:List Item)
def TX(c wt:Nat):(Q5 Tryz.prog 118 false (Hg b T todo) (Jh c wt) (Zx 0)).info=some (.int .u64 (IntKind.u64.wrap (((c*4294967296+wt:Nat):Int)+18446744069414584320)),Zx 0,#[QA b 0,QD b 0],[(b,true),(b,true)]):=K1
def AA:((range 20).all λ c=>GD Tryz.prog 173 110 1 (XT (Hg b T todo) (Jh (c+1) 0) (Zx 0))&&(c==0|| GD Tryz.prog 173 110 1 (XT (Hg b T todo) (Jh (c+1) 1) (Zx 0))))=true:=K1
