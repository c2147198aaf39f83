/-
  NARROWER THAN 'FOR EVERY INPUT', by the rows' own cells (each row's printed sentence says how): RivalItems: calm, laid · RivalAgreed: calm, laid.
  DERIVED. THE GIVEN ROWS OF THIS SEAT. 2 by the template 'for every input the law returns true; each argument reads behind the call as it read before'; 0 by the template 'total and deterministic' (their statements: YtnjljnhoaafkiaaGreatDoorTotals.lean).
  GIVEN WITH THE SEED: the statements are not yours to turn. If you find one false, say at which input.
  Laid BY PROGRAM, IN A SANDBOX (cutbox-rows.mjs): the forced cells as the released guide's own fill.sh prints them over the translation a9b07b10f3b92daf… (all of the seat's roots in one cut). By AI agents, Wed Nov 11 2026. No macro, syntax, notation, axiom, sorry.
-/
import Derived.Test.YtnjljnhoaafkiaaGreatDoorChecked
import GoSem.Claim
import GoSem.ClaimJoined
import GoSem.ClaimMapViews
import Derived.JoinedTies
import Derived.KernelRfl
namespace Go.Proofs.YtnjljnhoaafkiaaGreatDoor
/- THE CELL 'sum', in the pinned program and in every row, IS THE sha256 OF THE DUMP (.gsa) THAT YtnjljnhoaafkiaaGreatDoorProg.lean LOADS. Nothing in Lean hashes anything: it is a label: what it is worth is what the hold of that sum in a sandbox is worth. -/
noncomputable def Tryz.pinned : Pinned := { name := "ytnjljnhoaafkiaagreatdoor", sum := "a9b07b10f3b92daf9fe48457da0eb9e83155d6d88fc326c61081e80eae33a4ff", checked := Tryz.checked }
namespace Rows
def none {H : Type} : Left H := { results := [], args := [] }

/- WHAT THE LISTED PACKAGE-LEVEL VARIABLES READ AS WHEN THE CALL BEGINS. Each datum BY PROGRAM (the guide's laid-datum.mjs) off the statement by which the dump's own 'gosem.cut.vars' lays the variable. In a bare row this is a premise. The card (YtnjljnhoaafkiaaGreatDoorCards.lean) ties it to the program's text. -/
def laid_touchmark_rival_checks {H : Type} : DataW H := .iface "func table" (.agg [.iface "func" (.lit (.string [40, 116, 111, 117, 99, 104, 109, 97, 114, 107, 47, 114, 105, 118, 97, 108, 46, 98, 111, 111, 107, 41, 46, 114, 105, 103, 104, 116, 115])), .iface "func" (.lit (.string [40, 116, 111, 117, 99, 104, 109, 97, 114, 107, 47, 114, 105, 118, 97, 108, 46, 98, 111, 111, 107, 41, 46, 99, 97, 115, 101, 115])), .iface "func" (.lit (.string [40, 116, 111, 117, 99, 104, 109, 97, 114, 107, 47, 114, 105, 118, 97, 108, 46, 98, 111, 111, 107, 41, 46, 108, 111, 111, 112, 115]))])

/-- 'touchmarklaw04.RivalItems': WHATEVER THE INPUT: true; the input reads as it did. -/
def rivalItemsSpec : ChangeSpec := { name := "rivalItems", fn := fun _ => fun
  | [d1, d2, d3, d4, d5] => { results := [.lit (.bool true)], args := [d1, d2, d3, d4, d5] }
  | _ => none }
def rivalItemsRow : OpenClaim := { program := "ytnjljnhoaafkiaagreatdoor", sum := "a9b07b10f3b92daf9fe48457da0eb9e83155d6d88fc326c61081e80eae33a4ff", func := "touchmark/touchmarklaw04.RivalItems", spec := "rivalItems", inPlace := ["(*sync.WaitGroup).Done", "(*sync.WaitGroup).Add", "internal/race.ReleaseMerge", "internal/race.Disable", "internal/race.Enable", "internal/synctest.IsInBubble", "internal/synctest.Associate[sync.WaitGroup]", "sync.fatal", "sync/atomic.OrUint64", "sync/atomic.AddUint64", "internal/race.Read", "sync/atomic.LoadUint64", "sync/atomic.StoreUint64", "internal/synctest.Disassociate[sync.WaitGroup]", "sync.runtime_Semrelease", "(*internal/sync.Mutex).Lock", "sync/atomic.CompareAndSwapInt32", "internal/race.Acquire", "(*internal/sync.Mutex).lockSlow", "internal/sync.runtime_canSpin", "internal/sync.runtime_doSpin", "internal/sync.throw", "internal/sync.runtime_nanotime", "internal/sync.runtime_SemacquireMutex", "sync/atomic.AddInt32", "(*internal/sync.Mutex).Unlock", "(*internal/sync.Mutex).unlockSlow", "internal/sync.fatal", "internal/sync.runtime_Semrelease", "(*sync.WaitGroup).Wait", "internal/synctest.IsAssociated[sync.WaitGroup]", "sync/atomic.CompareAndSwapUint64", "internal/race.Write", "sync.runtime_SemacquireWaitGroup"], unfollowed := true, recurses := true, named := ["touchmark/rival.checks"], plainKeys := false, leaving := true, apart := false, calm := true, outside := [.timePasses], laid := [("touchmark/rival.checks", laid_touchmark_rival_checks)] }
def RivalItemsSaid : Prop := rivalItemsRow.holds Tryz.pinned (OpenSpec.ofChange rivalItemsSpec)

/-- ITS FALSE NEIGHBOUR: 'it returns false'. Refute it at one input. -/
def rivalItemsWrong : ChangeSpec := { name := "rivalItems", fn := fun _ => fun
  | [d1, d2, d3, d4, d5] => { results := [.lit (.bool false)], args := [d1, d2, d3, d4, d5] }
  | _ => none }
def RivalItemsWrongFalsely : Prop := rivalItemsRow.holds Tryz.pinned (OpenSpec.ofChange rivalItemsWrong)

/-- 'touchmarklaw04.RivalAgreed': WHATEVER THE INPUT: true; the input reads as it did. -/
def rivalAgreedSpec : ChangeSpec := { name := "rivalAgreed", fn := fun _ => fun
  | [d1, d2, d3, d4, d5] => { results := [.lit (.bool true)], args := [d1, d2, d3, d4, d5] }
  | _ => none }
def rivalAgreedRow : OpenClaim := { program := "ytnjljnhoaafkiaagreatdoor", sum := "a9b07b10f3b92daf9fe48457da0eb9e83155d6d88fc326c61081e80eae33a4ff", func := "touchmark/touchmarklaw04.RivalAgreed", spec := "rivalAgreed", inPlace := ["(*sync.WaitGroup).Done", "(*sync.WaitGroup).Add", "internal/race.ReleaseMerge", "internal/race.Disable", "internal/race.Enable", "internal/synctest.IsInBubble", "internal/synctest.Associate[sync.WaitGroup]", "sync.fatal", "sync/atomic.OrUint64", "sync/atomic.AddUint64", "internal/race.Read", "sync/atomic.LoadUint64", "sync/atomic.StoreUint64", "internal/synctest.Disassociate[sync.WaitGroup]", "sync.runtime_Semrelease", "(*internal/sync.Mutex).Lock", "sync/atomic.CompareAndSwapInt32", "internal/race.Acquire", "(*internal/sync.Mutex).lockSlow", "internal/sync.runtime_canSpin", "internal/sync.runtime_doSpin", "internal/sync.throw", "internal/sync.runtime_nanotime", "internal/sync.runtime_SemacquireMutex", "sync/atomic.AddInt32", "(*internal/sync.Mutex).Unlock", "(*internal/sync.Mutex).unlockSlow", "internal/sync.fatal", "internal/sync.runtime_Semrelease", "(*sync.WaitGroup).Wait", "internal/synctest.IsAssociated[sync.WaitGroup]", "sync/atomic.CompareAndSwapUint64", "internal/race.Write", "sync.runtime_SemacquireWaitGroup"], unfollowed := true, recurses := true, named := ["touchmark/rival.checks"], plainKeys := false, leaving := true, apart := false, calm := true, outside := [.timePasses], laid := [("touchmark/rival.checks", laid_touchmark_rival_checks)] }
def RivalAgreedSaid : Prop := rivalAgreedRow.holds Tryz.pinned (OpenSpec.ofChange rivalAgreedSpec)

/-- ITS FALSE NEIGHBOUR: 'it returns false'. Refute it at one input. -/
def rivalAgreedWrong : ChangeSpec := { name := "rivalAgreed", fn := fun _ => fun
  | [d1, d2, d3, d4, d5] => { results := [.lit (.bool false)], args := [d1, d2, d3, d4, d5] }
  | _ => none }
def RivalAgreedWrongFalsely : Prop := rivalAgreedRow.holds Tryz.pinned (OpenSpec.ofChange rivalAgreedWrong)

end Rows
end Go.Proofs.YtnjljnhoaafkiaaGreatDoor
