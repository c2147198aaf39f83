/- Lemmas. No conditions. -/
import Derived.Test.YtajkaognaiglhaaGreatDoorB11
set_option linter.all false
set_option maxRecDepth 100000
open List
namespace Go.TM
open Go.Conc (QuitsD)
def GF(P:Program)(t:TypeId):Nat->Nat->Gr->Bool
 |0,d,g=>(match g.status with|.finished=>d==0|_=>false)
 |n+1,d,g=>match g.status with
  |.finished=>d==0
  |.running=>(match Q5 P t false g undef undef with
   |.go g' _ _ es []=>es.all Event.mute&&GF P t n (deafBehind d es) g'
   |_=>false)
  |_=>false
def KK{P:Program}{t:TypeId}:∀{n d:Nat}{g:Gr},GF P t n d g=true->QuitsD P n d g
 |0,d,g,h=>by
  unfold GF at h;split at h
  .rename_i e;exact⟨e,by simpa using h⟩
  .cases h
 |n+1,d,g,h=>by
  unfold GF at h;split at h
  .rename_i e;exact .inl ⟨e,by simpa using h⟩
  .rename_i e;split at h
   .rename_i g' st sm es hst;obtain⟨f,w⟩:=Bool.and_eq_true_iff.1 h;exact Ut e hst (Array.all_eq_true_iff_forall_mem.1 f) (KK w)
   .cases h
  .cases h
end Go.TM
namespace Go.Proofs
open Go.TM
open Go.Conc (QuitsD)
section
variable(b:Nat)(T:Array Value)(todo:List Item)
def Sa(c wt:Nat):(Q5 Tryz.prog 118 false (Hc b T todo) (Jh c wt) (Zx 0)).info=some (.int .u64 (IntKind.u64.wrap (((c*4294967296+wt:Nat):Int)+18446744069414584320)),Zx 0,#[QA b 0,QD b 0],[(b,true),(b,true)]):=K1
def Au:((range 20).all λ c=>GF Tryz.prog 173 110 1 (XQ (Hc b T todo) (Jh (c+1) 0) (Zx 0))&&(c==0|| GF Tryz.prog 173 110 1 (XQ (Hc b T todo) (Jh (c+1) 1) (Zx 0))))=true:=K1
end
end Go.Proofs

