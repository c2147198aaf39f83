/- A part of the proof: lemmas that the last text uses. No conditions of its own. -/
import Derived.Test.YtebpcmdnecenlaaGreatG30
import Derived.Test.YtebpcmdnecenlaaGreatC00
set_option linter.unusedSimpArgs false
set_option linter.unusedVariables false
namespace Go.Proofs.YtebpcmdnecenlaaGreat
open Go.TM Go.ChangeShapes Go.WideShapes Go.RowKit
section
variable {H:Type} {enc:TypeId×Value->H} {W:World} {fuel:Nat} {x:DataW H×List MemPlace} {v:Value}
theorem tr_intsC (h:Trd enc Tryz.prog W fuel 27 [v]=some x) (hz:Sz Tryz.prog 27 x.1):∃a len cap l,v=.slice a len cap/\Ints (View.all W) a len l/\len<2 ^ 60/\len<=cap:=by
 obtain⟨a,len,cap,l,e,hl,hn⟩:=tr_ints h hz
 refine⟨a,len,cap,l,e,hl,hn,?_⟩
 rcases DataW.trod_slice Tryz.underlying27 h with⟨hc,-⟩ | ⟨a',len',cap',_,_,_,_,hc,_,_,hle,_⟩
 ·rw [e] at hc
  cases hc
  exact Nat.le_refl _
 ·rw [e] at hc
  cases hc
  exact hle
end
end Go.Proofs.YtebpcmdnecenlaaGreat
