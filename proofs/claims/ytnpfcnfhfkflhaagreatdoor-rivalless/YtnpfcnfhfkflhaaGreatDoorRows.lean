/-
  NARROWER THAN 'FOR EVERY INPUT', by the rows' own cells (each row's printed sentence says how): RivalOrders: calm, laid · RivalFates: calm, laid · RivalReal: calm, laid · RivalDiffers: calm, laid · RivalSwaps: calm, laid · RivalNames: calm, laid · RivalFalls: calm, laid · RivalLess: calm, laid · RivalWithdraws: calm, laid · RivalDecides: calm, laid · RivalLeaves: calm, laid · RivalStays: calm, laid · RivalHolds: calm, laid · RivalNarrow: calm, laid · RivalTexts: calm, laid · RivalBack: calm, laid.
  DERIVED. THE GIVEN ROWS OF THIS SEAT. 16 by the template 'for every input the law returns true; each argument reads behind the call as it read before'; 0 by the template 'total and deterministic' (their statements: YtnpfcnfhfkflhaaGreatDoorTotals.lean).
  GIVEN WITH THE SEED: the statements are not yours to turn. If you find one false, say at which input.
  Laid BY PROGRAM, IN A SANDBOX (cutbox-rows.mjs): the forced cells as the released guide's own fill.sh prints them over the translation f9a13b9bf41d0a0f… (all of the seat's roots in one cut). By AI agents, Wed Nov 11 2026. No macro, syntax, notation, axiom, sorry.
-/
import Derived.Test.YtnpfcnfhfkflhaaGreatDoorChecked
import GoSem.PinnedTables
import GoSem.Claim
import GoSem.ClaimJoined
import GoSem.ClaimMapViews
import Derived.JoinedTies
import Derived.KernelRfl
namespace Go.Proofs.YtnpfcnfhfkflhaaGreatDoor
/- THE CELL 'sum', in the pinned program and in every row, IS THE sha256 OF THE DUMP (.gsa) THAT YtnpfcnfhfkflhaaGreatDoorProg.lean LOADS. Nothing in Lean hashes anything: it is a label: what it is worth is what the hold of that sum in a sandbox is worth. -/
noncomputable def Tryz.pinned : Pinned := { name := "ytnpfcnfhfkflhaagreatdoor", sum := "f9a13b9bf41d0a0f1ec887bcbf9434a2b73d31bc9ffe61c44779a74f849e3098", checked := Tryz.checked }
namespace Rows
def none {H : Type} : Left H := { results := [], args := [] }

/- WHAT THE LISTED PACKAGE-LEVEL VARIABLES READ AS WHEN THE CALL BEGINS. Each datum BY PROGRAM (the guide's laid-datum.mjs) off the statement by which the dump's own 'gosem.cut.vars' lays the variable. In a bare row this is a premise. The card (YtnpfcnfhfkflhaaGreatDoorCards.lean) ties it to the program's text. -/
def laid_touchmark_rival_checks {H : Type} : DataW H := .iface "func table" (.agg [.iface "func" (.lit (.string [40, 116, 111, 117, 99, 104, 109, 97, 114, 107, 47, 114, 105, 118, 97, 108, 46, 98, 111, 111, 107, 41, 46, 114, 105, 103, 104, 116, 115])), .iface "func" (.lit (.string [40, 116, 111, 117, 99, 104, 109, 97, 114, 107, 47, 114, 105, 118, 97, 108, 46, 98, 111, 111, 107, 41, 46, 99, 97, 115, 101, 115])), .iface "func" (.lit (.string [40, 116, 111, 117, 99, 104, 109, 97, 114, 107, 47, 114, 105, 118, 97, 108, 46, 98, 111, 111, 107, 41, 46, 108, 111, 111, 112, 115]))])
def laid_unicode_utf8_acceptRanges {H : Type} : DataW H := .agg [.agg [.lit (.int .u8 128), .lit (.int .u8 191)], .agg [.lit (.int .u8 160), .lit (.int .u8 191)], .agg [.lit (.int .u8 128), .lit (.int .u8 159)], .agg [.lit (.int .u8 144), .lit (.int .u8 191)], .agg [.lit (.int .u8 128), .lit (.int .u8 143)], .agg [.lit (.int .u8 0), .lit (.int .u8 0)], .agg [.lit (.int .u8 0), .lit (.int .u8 0)], .agg [.lit (.int .u8 0), .lit (.int .u8 0)], .agg [.lit (.int .u8 0), .lit (.int .u8 0)], .agg [.lit (.int .u8 0), .lit (.int .u8 0)], .agg [.lit (.int .u8 0), .lit (.int .u8 0)], .agg [.lit (.int .u8 0), .lit (.int .u8 0)], .agg [.lit (.int .u8 0), .lit (.int .u8 0)], .agg [.lit (.int .u8 0), .lit (.int .u8 0)], .agg [.lit (.int .u8 0), .lit (.int .u8 0)], .agg [.lit (.int .u8 0), .lit (.int .u8 0)]]
/-- One of Go's own tables, pinned by name: the form's constant. -/
def laid_unicode_utf8_first : DataW Unit := Go.Pinned.utf8First

/-- 'touchmarklaw04.RivalOrders': WHATEVER THE INPUT: true; the input reads as it did. -/
def rivalOrdersSpec : ChangeSpec := { name := "rivalOrders", fn := fun _ => fun
  | [d1, d2] => { results := [.lit (.bool true)], args := [d1, d2] }
  | _ => none }
def rivalOrdersRow : OpenClaim := { program := "ytnpfcnfhfkflhaagreatdoor", sum := "f9a13b9bf41d0a0f1ec887bcbf9434a2b73d31bc9ffe61c44779a74f849e3098", func := "touchmark/touchmarklaw04.RivalOrders", spec := "rivalOrders", inPlace := ["(*sync.WaitGroup).Done", "(*sync.WaitGroup).Add", "internal/race.ReleaseMerge", "internal/race.Disable", "internal/race.Enable", "internal/synctest.IsInBubble", "internal/synctest.Associate[sync.WaitGroup]", "sync.fatal", "sync/atomic.OrUint64", "sync/atomic.AddUint64", "internal/race.Read", "sync/atomic.LoadUint64", "sync/atomic.StoreUint64", "internal/synctest.Disassociate[sync.WaitGroup]", "sync.runtime_Semrelease", "(*internal/sync.Mutex).Lock", "sync/atomic.CompareAndSwapInt32", "internal/race.Acquire", "(*internal/sync.Mutex).lockSlow", "internal/sync.runtime_canSpin", "internal/sync.runtime_doSpin", "internal/sync.throw", "internal/sync.runtime_nanotime", "internal/sync.runtime_SemacquireMutex", "sync/atomic.AddInt32", "(*internal/sync.Mutex).Unlock", "(*internal/sync.Mutex).unlockSlow", "internal/sync.fatal", "internal/sync.runtime_Semrelease", "(*sync.WaitGroup).Wait", "internal/synctest.IsAssociated[sync.WaitGroup]", "sync/atomic.CompareAndSwapUint64", "internal/race.Write", "sync.runtime_SemacquireWaitGroup"], unfollowed := true, recurses := true, named := ["touchmark/rival.checks"], plainKeys := false, leaving := true, apart := false, calm := true, outside := [.timePasses], laid := [("touchmark/rival.checks", laid_touchmark_rival_checks)] }
def RivalOrdersSaid : Prop := rivalOrdersRow.holds Tryz.pinned (OpenSpec.ofChange rivalOrdersSpec)

/-- ITS FALSE NEIGHBOUR: 'it returns false'. Refute it at one input. -/
def rivalOrdersWrong : ChangeSpec := { name := "rivalOrders", fn := fun _ => fun
  | [d1, d2] => { results := [.lit (.bool false)], args := [d1, d2] }
  | _ => none }
def RivalOrdersWrongFalsely : Prop := rivalOrdersRow.holds Tryz.pinned (OpenSpec.ofChange rivalOrdersWrong)

/-- 'touchmarklaw04.RivalFates': WHATEVER THE INPUT: true; the input reads as it did. -/
def rivalFatesSpec : ChangeSpec := { name := "rivalFates", fn := fun _ => fun
  | [d1, d2] => { results := [.lit (.bool true)], args := [d1, d2] }
  | _ => none }
def rivalFatesRow : OpenClaim := { program := "ytnpfcnfhfkflhaagreatdoor", sum := "f9a13b9bf41d0a0f1ec887bcbf9434a2b73d31bc9ffe61c44779a74f849e3098", func := "touchmark/touchmarklaw04.RivalFates", spec := "rivalFates", inPlace := ["(*sync.WaitGroup).Done", "(*sync.WaitGroup).Add", "internal/race.ReleaseMerge", "internal/race.Disable", "internal/race.Enable", "internal/synctest.IsInBubble", "internal/synctest.Associate[sync.WaitGroup]", "sync.fatal", "sync/atomic.OrUint64", "sync/atomic.AddUint64", "internal/race.Read", "sync/atomic.LoadUint64", "sync/atomic.StoreUint64", "internal/synctest.Disassociate[sync.WaitGroup]", "sync.runtime_Semrelease", "(*internal/sync.Mutex).Lock", "sync/atomic.CompareAndSwapInt32", "internal/race.Acquire", "(*internal/sync.Mutex).lockSlow", "internal/sync.runtime_canSpin", "internal/sync.runtime_doSpin", "internal/sync.throw", "internal/sync.runtime_nanotime", "internal/sync.runtime_SemacquireMutex", "sync/atomic.AddInt32", "(*internal/sync.Mutex).Unlock", "(*internal/sync.Mutex).unlockSlow", "internal/sync.fatal", "internal/sync.runtime_Semrelease", "(*sync.WaitGroup).Wait", "internal/synctest.IsAssociated[sync.WaitGroup]", "sync/atomic.CompareAndSwapUint64", "internal/race.Write", "sync.runtime_SemacquireWaitGroup"], unfollowed := true, recurses := true, named := ["touchmark/rival.checks"], plainKeys := false, leaving := true, apart := false, calm := true, outside := [.timePasses], laid := [("touchmark/rival.checks", laid_touchmark_rival_checks)] }
def RivalFatesSaid : Prop := rivalFatesRow.holds Tryz.pinned (OpenSpec.ofChange rivalFatesSpec)

/-- ITS FALSE NEIGHBOUR: 'it returns false'. Refute it at one input. -/
def rivalFatesWrong : ChangeSpec := { name := "rivalFates", fn := fun _ => fun
  | [d1, d2] => { results := [.lit (.bool false)], args := [d1, d2] }
  | _ => none }
def RivalFatesWrongFalsely : Prop := rivalFatesRow.holds Tryz.pinned (OpenSpec.ofChange rivalFatesWrong)

/-- 'touchmarklaw04.RivalReal': WHATEVER THE INPUT: true; the input reads as it did. -/
def rivalRealSpec : ChangeSpec := { name := "rivalReal", fn := fun _ => fun
  | [d1, d2] => { results := [.lit (.bool true)], args := [d1, d2] }
  | _ => none }
def rivalRealRow : OpenClaim := { program := "ytnpfcnfhfkflhaagreatdoor", sum := "f9a13b9bf41d0a0f1ec887bcbf9434a2b73d31bc9ffe61c44779a74f849e3098", func := "touchmark/touchmarklaw04.RivalReal", spec := "rivalReal", inPlace := ["(*sync.WaitGroup).Done", "(*sync.WaitGroup).Add", "internal/race.ReleaseMerge", "internal/race.Disable", "internal/race.Enable", "internal/synctest.IsInBubble", "internal/synctest.Associate[sync.WaitGroup]", "sync.fatal", "sync/atomic.OrUint64", "sync/atomic.AddUint64", "internal/race.Read", "sync/atomic.LoadUint64", "sync/atomic.StoreUint64", "internal/synctest.Disassociate[sync.WaitGroup]", "sync.runtime_Semrelease", "(*internal/sync.Mutex).Lock", "sync/atomic.CompareAndSwapInt32", "internal/race.Acquire", "(*internal/sync.Mutex).lockSlow", "internal/sync.runtime_canSpin", "internal/sync.runtime_doSpin", "internal/sync.throw", "internal/sync.runtime_nanotime", "internal/sync.runtime_SemacquireMutex", "sync/atomic.AddInt32", "(*internal/sync.Mutex).Unlock", "(*internal/sync.Mutex).unlockSlow", "internal/sync.fatal", "internal/sync.runtime_Semrelease", "(*sync.WaitGroup).Wait", "internal/synctest.IsAssociated[sync.WaitGroup]", "sync/atomic.CompareAndSwapUint64", "internal/race.Write", "sync.runtime_SemacquireWaitGroup"], unfollowed := true, recurses := true, named := ["touchmark/rival.checks"], plainKeys := false, leaving := true, apart := false, calm := true, outside := [.timePasses], laid := [("touchmark/rival.checks", laid_touchmark_rival_checks)] }
def RivalRealSaid : Prop := rivalRealRow.holds Tryz.pinned (OpenSpec.ofChange rivalRealSpec)

/-- ITS FALSE NEIGHBOUR: 'it returns false'. Refute it at one input. -/
def rivalRealWrong : ChangeSpec := { name := "rivalReal", fn := fun _ => fun
  | [d1, d2] => { results := [.lit (.bool false)], args := [d1, d2] }
  | _ => none }
def RivalRealWrongFalsely : Prop := rivalRealRow.holds Tryz.pinned (OpenSpec.ofChange rivalRealWrong)

/-- 'touchmarklaw04.RivalDiffers': WHATEVER THE INPUT: true; the input reads as it did. -/
def rivalDiffersSpec : ChangeSpec := { name := "rivalDiffers", fn := fun _ => fun
  | [d1, d2, d3] => { results := [.lit (.bool true)], args := [d1, d2, d3] }
  | _ => none }
def rivalDiffersRow : OpenClaim := { program := "ytnpfcnfhfkflhaagreatdoor", sum := "f9a13b9bf41d0a0f1ec887bcbf9434a2b73d31bc9ffe61c44779a74f849e3098", func := "touchmark/touchmarklaw04.RivalDiffers", spec := "rivalDiffers", inPlace := ["(*sync.WaitGroup).Done", "(*sync.WaitGroup).Add", "internal/race.ReleaseMerge", "internal/race.Disable", "internal/race.Enable", "internal/synctest.IsInBubble", "internal/synctest.Associate[sync.WaitGroup]", "sync.fatal", "sync/atomic.OrUint64", "sync/atomic.AddUint64", "internal/race.Read", "sync/atomic.LoadUint64", "sync/atomic.StoreUint64", "internal/synctest.Disassociate[sync.WaitGroup]", "sync.runtime_Semrelease", "(*internal/sync.Mutex).Lock", "sync/atomic.CompareAndSwapInt32", "internal/race.Acquire", "(*internal/sync.Mutex).lockSlow", "internal/sync.runtime_canSpin", "internal/sync.runtime_doSpin", "internal/sync.throw", "internal/sync.runtime_nanotime", "internal/sync.runtime_SemacquireMutex", "sync/atomic.AddInt32", "(*internal/sync.Mutex).Unlock", "(*internal/sync.Mutex).unlockSlow", "internal/sync.fatal", "internal/sync.runtime_Semrelease", "(*sync.WaitGroup).Wait", "internal/synctest.IsAssociated[sync.WaitGroup]", "sync/atomic.CompareAndSwapUint64", "internal/race.Write", "sync.runtime_SemacquireWaitGroup"], unfollowed := true, recurses := true, named := ["touchmark/rival.checks"], plainKeys := false, leaving := true, apart := false, calm := true, outside := [.timePasses], laid := [("touchmark/rival.checks", laid_touchmark_rival_checks)] }
def RivalDiffersSaid : Prop := rivalDiffersRow.holds Tryz.pinned (OpenSpec.ofChange rivalDiffersSpec)

/-- ITS FALSE NEIGHBOUR: 'it returns false'. Refute it at one input. -/
def rivalDiffersWrong : ChangeSpec := { name := "rivalDiffers", fn := fun _ => fun
  | [d1, d2, d3] => { results := [.lit (.bool false)], args := [d1, d2, d3] }
  | _ => none }
def RivalDiffersWrongFalsely : Prop := rivalDiffersRow.holds Tryz.pinned (OpenSpec.ofChange rivalDiffersWrong)

/-- 'touchmarklaw04.RivalSwaps': WHATEVER THE INPUT: true; the input reads as it did. -/
def rivalSwapsSpec : ChangeSpec := { name := "rivalSwaps", fn := fun _ => fun
  | [d1, d2, d3] => { results := [.lit (.bool true)], args := [d1, d2, d3] }
  | _ => none }
def rivalSwapsRow : OpenClaim := { program := "ytnpfcnfhfkflhaagreatdoor", sum := "f9a13b9bf41d0a0f1ec887bcbf9434a2b73d31bc9ffe61c44779a74f849e3098", func := "touchmark/touchmarklaw04.RivalSwaps", spec := "rivalSwaps", inPlace := ["(*sync.WaitGroup).Done", "(*sync.WaitGroup).Add", "internal/race.ReleaseMerge", "internal/race.Disable", "internal/race.Enable", "internal/synctest.IsInBubble", "internal/synctest.Associate[sync.WaitGroup]", "sync.fatal", "sync/atomic.OrUint64", "sync/atomic.AddUint64", "internal/race.Read", "sync/atomic.LoadUint64", "sync/atomic.StoreUint64", "internal/synctest.Disassociate[sync.WaitGroup]", "sync.runtime_Semrelease", "(*internal/sync.Mutex).Lock", "sync/atomic.CompareAndSwapInt32", "internal/race.Acquire", "(*internal/sync.Mutex).lockSlow", "internal/sync.runtime_canSpin", "internal/sync.runtime_doSpin", "internal/sync.throw", "internal/sync.runtime_nanotime", "internal/sync.runtime_SemacquireMutex", "sync/atomic.AddInt32", "(*internal/sync.Mutex).Unlock", "(*internal/sync.Mutex).unlockSlow", "internal/sync.fatal", "internal/sync.runtime_Semrelease", "(*sync.WaitGroup).Wait", "internal/synctest.IsAssociated[sync.WaitGroup]", "sync/atomic.CompareAndSwapUint64", "internal/race.Write", "sync.runtime_SemacquireWaitGroup"], unfollowed := true, recurses := true, named := ["touchmark/rival.checks"], plainKeys := false, leaving := true, apart := false, calm := true, outside := [.timePasses], laid := [("touchmark/rival.checks", laid_touchmark_rival_checks)] }
def RivalSwapsSaid : Prop := rivalSwapsRow.holds Tryz.pinned (OpenSpec.ofChange rivalSwapsSpec)

/-- ITS FALSE NEIGHBOUR: 'it returns false'. Refute it at one input. -/
def rivalSwapsWrong : ChangeSpec := { name := "rivalSwaps", fn := fun _ => fun
  | [d1, d2, d3] => { results := [.lit (.bool false)], args := [d1, d2, d3] }
  | _ => none }
def RivalSwapsWrongFalsely : Prop := rivalSwapsRow.holds Tryz.pinned (OpenSpec.ofChange rivalSwapsWrong)

/-- 'touchmarklaw04.RivalNames': WHATEVER THE INPUT: true; the input reads as it did. -/
def rivalNamesSpec : ChangeSpec := { name := "rivalNames", fn := fun _ => fun
  | [d1, d2] => { results := [.lit (.bool true)], args := [d1, d2] }
  | _ => none }
def rivalNamesRow : OpenClaim := { program := "ytnpfcnfhfkflhaagreatdoor", sum := "f9a13b9bf41d0a0f1ec887bcbf9434a2b73d31bc9ffe61c44779a74f849e3098", func := "touchmark/touchmarklaw04.RivalNames", spec := "rivalNames", inPlace := ["(*sync.WaitGroup).Done", "(*sync.WaitGroup).Add", "internal/race.ReleaseMerge", "internal/race.Disable", "internal/race.Enable", "internal/synctest.IsInBubble", "internal/synctest.Associate[sync.WaitGroup]", "sync.fatal", "sync/atomic.OrUint64", "sync/atomic.AddUint64", "internal/race.Read", "sync/atomic.LoadUint64", "sync/atomic.StoreUint64", "internal/synctest.Disassociate[sync.WaitGroup]", "sync.runtime_Semrelease", "(*internal/sync.Mutex).Lock", "sync/atomic.CompareAndSwapInt32", "internal/race.Acquire", "(*internal/sync.Mutex).lockSlow", "internal/sync.runtime_canSpin", "internal/sync.runtime_doSpin", "internal/sync.throw", "internal/sync.runtime_nanotime", "internal/sync.runtime_SemacquireMutex", "sync/atomic.AddInt32", "(*internal/sync.Mutex).Unlock", "(*internal/sync.Mutex).unlockSlow", "internal/sync.fatal", "internal/sync.runtime_Semrelease", "(*sync.WaitGroup).Wait", "internal/synctest.IsAssociated[sync.WaitGroup]", "sync/atomic.CompareAndSwapUint64", "internal/race.Write", "sync.runtime_SemacquireWaitGroup"], unfollowed := true, recurses := true, named := ["touchmark/rival.checks"], plainKeys := false, leaving := true, apart := false, calm := true, outside := [.timePasses], laid := [("touchmark/rival.checks", laid_touchmark_rival_checks)] }
def RivalNamesSaid : Prop := rivalNamesRow.holds Tryz.pinned (OpenSpec.ofChange rivalNamesSpec)

/-- ITS FALSE NEIGHBOUR: 'it returns false'. Refute it at one input. -/
def rivalNamesWrong : ChangeSpec := { name := "rivalNames", fn := fun _ => fun
  | [d1, d2] => { results := [.lit (.bool false)], args := [d1, d2] }
  | _ => none }
def RivalNamesWrongFalsely : Prop := rivalNamesRow.holds Tryz.pinned (OpenSpec.ofChange rivalNamesWrong)

/-- 'touchmarklaw04.RivalFalls': WHATEVER THE INPUT: true; the input reads as it did. -/
def rivalFallsSpec : ChangeSpec := { name := "rivalFalls", fn := fun _ => fun
  | [d] => { results := [.lit (.bool true)], args := [d] }
  | _ => none }
def rivalFallsRow : OpenClaim := { program := "ytnpfcnfhfkflhaagreatdoor", sum := "f9a13b9bf41d0a0f1ec887bcbf9434a2b73d31bc9ffe61c44779a74f849e3098", func := "touchmark/touchmarklaw04.RivalFalls", spec := "rivalFalls", inPlace := ["(*sync.WaitGroup).Done", "(*sync.WaitGroup).Add", "internal/race.ReleaseMerge", "internal/race.Disable", "internal/race.Enable", "internal/synctest.IsInBubble", "internal/synctest.Associate[sync.WaitGroup]", "sync.fatal", "sync/atomic.OrUint64", "sync/atomic.AddUint64", "internal/race.Read", "sync/atomic.LoadUint64", "sync/atomic.StoreUint64", "internal/synctest.Disassociate[sync.WaitGroup]", "sync.runtime_Semrelease", "(*internal/sync.Mutex).Lock", "sync/atomic.CompareAndSwapInt32", "internal/race.Acquire", "(*internal/sync.Mutex).lockSlow", "internal/sync.runtime_canSpin", "internal/sync.runtime_doSpin", "internal/sync.throw", "internal/sync.runtime_nanotime", "internal/sync.runtime_SemacquireMutex", "sync/atomic.AddInt32", "(*internal/sync.Mutex).Unlock", "(*internal/sync.Mutex).unlockSlow", "internal/sync.fatal", "internal/sync.runtime_Semrelease", "(*sync.WaitGroup).Wait", "internal/synctest.IsAssociated[sync.WaitGroup]", "sync/atomic.CompareAndSwapUint64", "internal/race.Write", "sync.runtime_SemacquireWaitGroup"], unfollowed := true, recurses := true, named := ["touchmark/rival.checks"], plainKeys := false, leaving := true, apart := false, calm := true, outside := [.timePasses], laid := [("touchmark/rival.checks", laid_touchmark_rival_checks)] }
def RivalFallsSaid : Prop := rivalFallsRow.holds Tryz.pinned (OpenSpec.ofChange rivalFallsSpec)

/-- ITS FALSE NEIGHBOUR: 'it returns false'. Refute it at one input. -/
def rivalFallsWrong : ChangeSpec := { name := "rivalFalls", fn := fun _ => fun
  | [d] => { results := [.lit (.bool false)], args := [d] }
  | _ => none }
def RivalFallsWrongFalsely : Prop := rivalFallsRow.holds Tryz.pinned (OpenSpec.ofChange rivalFallsWrong)

/-- 'touchmarklaw04.RivalLess': WHATEVER THE INPUT: true; the input reads as it did. -/
def rivalLessSpec : ChangeSpec := { name := "rivalLess", fn := fun _ => fun
  | [d1, d2, d3] => { results := [.lit (.bool true)], args := [d1, d2, d3] }
  | _ => none }
def rivalLessRow : OpenClaim := { program := "ytnpfcnfhfkflhaagreatdoor", sum := "f9a13b9bf41d0a0f1ec887bcbf9434a2b73d31bc9ffe61c44779a74f849e3098", func := "touchmark/touchmarklaw04.RivalLess", spec := "rivalLess", inPlace := ["(*sync.WaitGroup).Done", "(*sync.WaitGroup).Add", "internal/race.ReleaseMerge", "internal/race.Disable", "internal/race.Enable", "internal/synctest.IsInBubble", "internal/synctest.Associate[sync.WaitGroup]", "sync.fatal", "sync/atomic.OrUint64", "sync/atomic.AddUint64", "internal/race.Read", "sync/atomic.LoadUint64", "sync/atomic.StoreUint64", "internal/synctest.Disassociate[sync.WaitGroup]", "sync.runtime_Semrelease", "(*internal/sync.Mutex).Lock", "sync/atomic.CompareAndSwapInt32", "internal/race.Acquire", "(*internal/sync.Mutex).lockSlow", "internal/sync.runtime_canSpin", "internal/sync.runtime_doSpin", "internal/sync.throw", "internal/sync.runtime_nanotime", "internal/sync.runtime_SemacquireMutex", "sync/atomic.AddInt32", "(*internal/sync.Mutex).Unlock", "(*internal/sync.Mutex).unlockSlow", "internal/sync.fatal", "internal/sync.runtime_Semrelease", "(*sync.WaitGroup).Wait", "internal/synctest.IsAssociated[sync.WaitGroup]", "sync/atomic.CompareAndSwapUint64", "internal/race.Write", "sync.runtime_SemacquireWaitGroup"], unfollowed := true, recurses := true, named := ["touchmark/rival.checks"], plainKeys := false, leaving := true, apart := false, calm := true, outside := [.timePasses], laid := [("touchmark/rival.checks", laid_touchmark_rival_checks)] }
def RivalLessSaid : Prop := rivalLessRow.holds Tryz.pinned (OpenSpec.ofChange rivalLessSpec)

/-- ITS FALSE NEIGHBOUR: 'it returns false'. Refute it at one input. -/
def rivalLessWrong : ChangeSpec := { name := "rivalLess", fn := fun _ => fun
  | [d1, d2, d3] => { results := [.lit (.bool false)], args := [d1, d2, d3] }
  | _ => none }
def RivalLessWrongFalsely : Prop := rivalLessRow.holds Tryz.pinned (OpenSpec.ofChange rivalLessWrong)

/-- 'touchmarklaw04.RivalWithdraws': WHATEVER THE INPUT: true; the input reads as it did. -/
def rivalWithdrawsSpec : ChangeSpec := { name := "rivalWithdraws", fn := fun _ => fun
  | [d1, d2, d3] => { results := [.lit (.bool true)], args := [d1, d2, d3] }
  | _ => none }
def rivalWithdrawsRow : OpenClaim := { program := "ytnpfcnfhfkflhaagreatdoor", sum := "f9a13b9bf41d0a0f1ec887bcbf9434a2b73d31bc9ffe61c44779a74f849e3098", func := "touchmark/touchmarklaw04.RivalWithdraws", spec := "rivalWithdraws", inPlace := ["(*sync.WaitGroup).Done", "(*sync.WaitGroup).Add", "internal/race.ReleaseMerge", "internal/race.Disable", "internal/race.Enable", "internal/synctest.IsInBubble", "internal/synctest.Associate[sync.WaitGroup]", "sync.fatal", "sync/atomic.OrUint64", "sync/atomic.AddUint64", "internal/race.Read", "sync/atomic.LoadUint64", "sync/atomic.StoreUint64", "internal/synctest.Disassociate[sync.WaitGroup]", "sync.runtime_Semrelease", "(*internal/sync.Mutex).Lock", "sync/atomic.CompareAndSwapInt32", "internal/race.Acquire", "(*internal/sync.Mutex).lockSlow", "internal/sync.runtime_canSpin", "internal/sync.runtime_doSpin", "internal/sync.throw", "internal/sync.runtime_nanotime", "internal/sync.runtime_SemacquireMutex", "sync/atomic.AddInt32", "(*internal/sync.Mutex).Unlock", "(*internal/sync.Mutex).unlockSlow", "internal/sync.fatal", "internal/sync.runtime_Semrelease", "(*sync.WaitGroup).Wait", "internal/synctest.IsAssociated[sync.WaitGroup]", "sync/atomic.CompareAndSwapUint64", "internal/race.Write", "sync.runtime_SemacquireWaitGroup"], unfollowed := true, recurses := true, named := ["touchmark/rival.checks"], plainKeys := false, leaving := true, apart := false, calm := true, outside := [.timePasses], laid := [("touchmark/rival.checks", laid_touchmark_rival_checks)] }
def RivalWithdrawsSaid : Prop := rivalWithdrawsRow.holds Tryz.pinned (OpenSpec.ofChange rivalWithdrawsSpec)

/-- ITS FALSE NEIGHBOUR: 'it returns false'. Refute it at one input. -/
def rivalWithdrawsWrong : ChangeSpec := { name := "rivalWithdraws", fn := fun _ => fun
  | [d1, d2, d3] => { results := [.lit (.bool false)], args := [d1, d2, d3] }
  | _ => none }
def RivalWithdrawsWrongFalsely : Prop := rivalWithdrawsRow.holds Tryz.pinned (OpenSpec.ofChange rivalWithdrawsWrong)

/-- 'touchmarklaw04.RivalDecides': WHATEVER THE INPUT: true; the input reads as it did. -/
def rivalDecidesSpec : ChangeSpec := { name := "rivalDecides", fn := fun _ => fun
  | [d1, d2, d3] => { results := [.lit (.bool true)], args := [d1, d2, d3] }
  | _ => none }
def rivalDecidesRow : OpenClaim := { program := "ytnpfcnfhfkflhaagreatdoor", sum := "f9a13b9bf41d0a0f1ec887bcbf9434a2b73d31bc9ffe61c44779a74f849e3098", func := "touchmark/touchmarklaw04.RivalDecides", spec := "rivalDecides", inPlace := ["(*sync.WaitGroup).Done", "(*sync.WaitGroup).Add", "internal/race.ReleaseMerge", "internal/race.Disable", "internal/race.Enable", "internal/synctest.IsInBubble", "internal/synctest.Associate[sync.WaitGroup]", "sync.fatal", "sync/atomic.OrUint64", "sync/atomic.AddUint64", "internal/race.Read", "sync/atomic.LoadUint64", "sync/atomic.StoreUint64", "internal/synctest.Disassociate[sync.WaitGroup]", "sync.runtime_Semrelease", "(*internal/sync.Mutex).Lock", "sync/atomic.CompareAndSwapInt32", "internal/race.Acquire", "(*internal/sync.Mutex).lockSlow", "internal/sync.runtime_canSpin", "internal/sync.runtime_doSpin", "internal/sync.throw", "internal/sync.runtime_nanotime", "internal/sync.runtime_SemacquireMutex", "sync/atomic.AddInt32", "(*internal/sync.Mutex).Unlock", "(*internal/sync.Mutex).unlockSlow", "internal/sync.fatal", "internal/sync.runtime_Semrelease", "(*sync.WaitGroup).Wait", "internal/synctest.IsAssociated[sync.WaitGroup]", "sync/atomic.CompareAndSwapUint64", "internal/race.Write", "sync.runtime_SemacquireWaitGroup"], unfollowed := true, recurses := true, named := ["touchmark/rival.checks"], plainKeys := false, leaving := true, apart := false, calm := true, outside := [.timePasses], laid := [("touchmark/rival.checks", laid_touchmark_rival_checks)] }
def RivalDecidesSaid : Prop := rivalDecidesRow.holds Tryz.pinned (OpenSpec.ofChange rivalDecidesSpec)

/-- ITS FALSE NEIGHBOUR: 'it returns false'. Refute it at one input. -/
def rivalDecidesWrong : ChangeSpec := { name := "rivalDecides", fn := fun _ => fun
  | [d1, d2, d3] => { results := [.lit (.bool false)], args := [d1, d2, d3] }
  | _ => none }
def RivalDecidesWrongFalsely : Prop := rivalDecidesRow.holds Tryz.pinned (OpenSpec.ofChange rivalDecidesWrong)

/-- 'touchmarklaw04.RivalLeaves': WHATEVER THE INPUT: true; the input reads as it did. -/
def rivalLeavesSpec : ChangeSpec := { name := "rivalLeaves", fn := fun _ => fun
  | [d1, d2, d3] => { results := [.lit (.bool true)], args := [d1, d2, d3] }
  | _ => none }
def rivalLeavesRow : OpenClaim := { program := "ytnpfcnfhfkflhaagreatdoor", sum := "f9a13b9bf41d0a0f1ec887bcbf9434a2b73d31bc9ffe61c44779a74f849e3098", func := "touchmark/touchmarklaw04.RivalLeaves", spec := "rivalLeaves", inPlace := ["(*sync.WaitGroup).Done", "(*sync.WaitGroup).Add", "internal/race.ReleaseMerge", "internal/race.Disable", "internal/race.Enable", "internal/synctest.IsInBubble", "internal/synctest.Associate[sync.WaitGroup]", "sync.fatal", "sync/atomic.OrUint64", "sync/atomic.AddUint64", "internal/race.Read", "sync/atomic.LoadUint64", "sync/atomic.StoreUint64", "internal/synctest.Disassociate[sync.WaitGroup]", "sync.runtime_Semrelease", "(*internal/sync.Mutex).Lock", "sync/atomic.CompareAndSwapInt32", "internal/race.Acquire", "(*internal/sync.Mutex).lockSlow", "internal/sync.runtime_canSpin", "internal/sync.runtime_doSpin", "internal/sync.throw", "internal/sync.runtime_nanotime", "internal/sync.runtime_SemacquireMutex", "sync/atomic.AddInt32", "(*internal/sync.Mutex).Unlock", "(*internal/sync.Mutex).unlockSlow", "internal/sync.fatal", "internal/sync.runtime_Semrelease", "(*sync.WaitGroup).Wait", "internal/synctest.IsAssociated[sync.WaitGroup]", "sync/atomic.CompareAndSwapUint64", "internal/race.Write", "sync.runtime_SemacquireWaitGroup"], unfollowed := true, recurses := true, named := ["touchmark/rival.checks"], plainKeys := false, leaving := true, apart := false, calm := true, outside := [.timePasses], laid := [("touchmark/rival.checks", laid_touchmark_rival_checks)] }
def RivalLeavesSaid : Prop := rivalLeavesRow.holds Tryz.pinned (OpenSpec.ofChange rivalLeavesSpec)

/-- ITS FALSE NEIGHBOUR: 'it returns false'. Refute it at one input. -/
def rivalLeavesWrong : ChangeSpec := { name := "rivalLeaves", fn := fun _ => fun
  | [d1, d2, d3] => { results := [.lit (.bool false)], args := [d1, d2, d3] }
  | _ => none }
def RivalLeavesWrongFalsely : Prop := rivalLeavesRow.holds Tryz.pinned (OpenSpec.ofChange rivalLeavesWrong)

/-- 'touchmarklaw04.RivalStays': WHATEVER THE INPUT: true; the input reads as it did. -/
def rivalStaysSpec : ChangeSpec := { name := "rivalStays", fn := fun _ => fun
  | [d1, d2, d3, d4] => { results := [.lit (.bool true)], args := [d1, d2, d3, d4] }
  | _ => none }
def rivalStaysRow : OpenClaim := { program := "ytnpfcnfhfkflhaagreatdoor", sum := "f9a13b9bf41d0a0f1ec887bcbf9434a2b73d31bc9ffe61c44779a74f849e3098", func := "touchmark/touchmarklaw04.RivalStays", spec := "rivalStays", inPlace := ["(*sync.WaitGroup).Done", "(*sync.WaitGroup).Add", "internal/race.ReleaseMerge", "internal/race.Disable", "internal/race.Enable", "internal/synctest.IsInBubble", "internal/synctest.Associate[sync.WaitGroup]", "sync.fatal", "sync/atomic.OrUint64", "sync/atomic.AddUint64", "internal/race.Read", "sync/atomic.LoadUint64", "sync/atomic.StoreUint64", "internal/synctest.Disassociate[sync.WaitGroup]", "sync.runtime_Semrelease", "(*internal/sync.Mutex).Lock", "sync/atomic.CompareAndSwapInt32", "internal/race.Acquire", "(*internal/sync.Mutex).lockSlow", "internal/sync.runtime_canSpin", "internal/sync.runtime_doSpin", "internal/sync.throw", "internal/sync.runtime_nanotime", "internal/sync.runtime_SemacquireMutex", "sync/atomic.AddInt32", "(*internal/sync.Mutex).Unlock", "(*internal/sync.Mutex).unlockSlow", "internal/sync.fatal", "internal/sync.runtime_Semrelease", "(*sync.WaitGroup).Wait", "internal/synctest.IsAssociated[sync.WaitGroup]", "sync/atomic.CompareAndSwapUint64", "internal/race.Write", "sync.runtime_SemacquireWaitGroup"], unfollowed := true, recurses := true, named := ["touchmark/rival.checks"], plainKeys := false, leaving := true, apart := false, calm := true, outside := [.timePasses], laid := [("touchmark/rival.checks", laid_touchmark_rival_checks)] }
def RivalStaysSaid : Prop := rivalStaysRow.holds Tryz.pinned (OpenSpec.ofChange rivalStaysSpec)

/-- ITS FALSE NEIGHBOUR: 'it returns false'. Refute it at one input. -/
def rivalStaysWrong : ChangeSpec := { name := "rivalStays", fn := fun _ => fun
  | [d1, d2, d3, d4] => { results := [.lit (.bool false)], args := [d1, d2, d3, d4] }
  | _ => none }
def RivalStaysWrongFalsely : Prop := rivalStaysRow.holds Tryz.pinned (OpenSpec.ofChange rivalStaysWrong)

/-- 'touchmarklaw04.RivalHolds': WHATEVER THE INPUT: true; the input reads as it did. -/
def rivalHoldsSpec : ChangeSpec := { name := "rivalHolds", fn := fun _ => fun
  | [d1, d2, d3, d4] => { results := [.lit (.bool true)], args := [d1, d2, d3, d4] }
  | _ => none }
def rivalHoldsRow : OpenClaim := { program := "ytnpfcnfhfkflhaagreatdoor", sum := "f9a13b9bf41d0a0f1ec887bcbf9434a2b73d31bc9ffe61c44779a74f849e3098", func := "touchmark/touchmarklaw04.RivalHolds", spec := "rivalHolds", inPlace := ["(*sync.WaitGroup).Done", "(*sync.WaitGroup).Add", "internal/race.ReleaseMerge", "internal/race.Disable", "internal/race.Enable", "internal/synctest.IsInBubble", "internal/synctest.Associate[sync.WaitGroup]", "sync.fatal", "sync/atomic.OrUint64", "sync/atomic.AddUint64", "internal/race.Read", "sync/atomic.LoadUint64", "sync/atomic.StoreUint64", "internal/synctest.Disassociate[sync.WaitGroup]", "sync.runtime_Semrelease", "(*internal/sync.Mutex).Lock", "sync/atomic.CompareAndSwapInt32", "internal/race.Acquire", "(*internal/sync.Mutex).lockSlow", "internal/sync.runtime_canSpin", "internal/sync.runtime_doSpin", "internal/sync.throw", "internal/sync.runtime_nanotime", "internal/sync.runtime_SemacquireMutex", "sync/atomic.AddInt32", "(*internal/sync.Mutex).Unlock", "(*internal/sync.Mutex).unlockSlow", "internal/sync.fatal", "internal/sync.runtime_Semrelease", "(*sync.WaitGroup).Wait", "internal/synctest.IsAssociated[sync.WaitGroup]", "sync/atomic.CompareAndSwapUint64", "internal/race.Write", "sync.runtime_SemacquireWaitGroup"], unfollowed := true, recurses := true, named := ["touchmark/rival.checks"], plainKeys := false, leaving := true, apart := false, calm := true, outside := [.timePasses], laid := [("touchmark/rival.checks", laid_touchmark_rival_checks)] }
def RivalHoldsSaid : Prop := rivalHoldsRow.holds Tryz.pinned (OpenSpec.ofChange rivalHoldsSpec)

/-- ITS FALSE NEIGHBOUR: 'it returns false'. Refute it at one input. -/
def rivalHoldsWrong : ChangeSpec := { name := "rivalHolds", fn := fun _ => fun
  | [d1, d2, d3, d4] => { results := [.lit (.bool false)], args := [d1, d2, d3, d4] }
  | _ => none }
def RivalHoldsWrongFalsely : Prop := rivalHoldsRow.holds Tryz.pinned (OpenSpec.ofChange rivalHoldsWrong)

/-- 'touchmarklaw04.RivalNarrow': WHATEVER THE INPUT: true; the input reads as it did. -/
def rivalNarrowSpec : ChangeSpec := { name := "rivalNarrow", fn := fun _ => fun
  | [d1, d2] => { results := [.lit (.bool true)], args := [d1, d2] }
  | _ => none }
def rivalNarrowRow : OpenClaim := { program := "ytnpfcnfhfkflhaagreatdoor", sum := "f9a13b9bf41d0a0f1ec887bcbf9434a2b73d31bc9ffe61c44779a74f849e3098", func := "touchmark/touchmarklaw04.RivalNarrow", spec := "rivalNarrow", inPlace := ["(*sync.WaitGroup).Done", "(*sync.WaitGroup).Add", "internal/race.ReleaseMerge", "internal/race.Disable", "internal/race.Enable", "internal/synctest.IsInBubble", "internal/synctest.Associate[sync.WaitGroup]", "sync.fatal", "sync/atomic.OrUint64", "sync/atomic.AddUint64", "internal/race.Read", "sync/atomic.LoadUint64", "sync/atomic.StoreUint64", "internal/synctest.Disassociate[sync.WaitGroup]", "sync.runtime_Semrelease", "(*internal/sync.Mutex).Lock", "sync/atomic.CompareAndSwapInt32", "internal/race.Acquire", "(*internal/sync.Mutex).lockSlow", "internal/sync.runtime_canSpin", "internal/sync.runtime_doSpin", "internal/sync.throw", "internal/sync.runtime_nanotime", "internal/sync.runtime_SemacquireMutex", "sync/atomic.AddInt32", "(*internal/sync.Mutex).Unlock", "(*internal/sync.Mutex).unlockSlow", "internal/sync.fatal", "internal/sync.runtime_Semrelease", "(*sync.WaitGroup).Wait", "internal/synctest.IsAssociated[sync.WaitGroup]", "sync/atomic.CompareAndSwapUint64", "internal/race.Write", "sync.runtime_SemacquireWaitGroup"], unfollowed := true, recurses := true, named := ["touchmark/rival.checks"], plainKeys := false, leaving := true, apart := false, calm := true, outside := [.timePasses], laid := [("touchmark/rival.checks", laid_touchmark_rival_checks)] }
def RivalNarrowSaid : Prop := rivalNarrowRow.holds Tryz.pinned (OpenSpec.ofChange rivalNarrowSpec)

/-- ITS FALSE NEIGHBOUR: 'it returns false'. Refute it at one input. -/
def rivalNarrowWrong : ChangeSpec := { name := "rivalNarrow", fn := fun _ => fun
  | [d1, d2] => { results := [.lit (.bool false)], args := [d1, d2] }
  | _ => none }
def RivalNarrowWrongFalsely : Prop := rivalNarrowRow.holds Tryz.pinned (OpenSpec.ofChange rivalNarrowWrong)

/-- 'touchmarklaw04.RivalTexts': WHATEVER THE INPUT: true; the input reads as it did. -/
def rivalTextsSpec : ChangeSpec := { name := "rivalTexts", fn := fun _ => fun
  | [d1, d2] => { results := [.lit (.bool true)], args := [d1, d2] }
  | _ => none }
def rivalTextsRow : OpenClaim := { program := "ytnpfcnfhfkflhaagreatdoor", sum := "f9a13b9bf41d0a0f1ec887bcbf9434a2b73d31bc9ffe61c44779a74f849e3098", func := "touchmark/touchmarklaw04.RivalTexts", spec := "rivalTexts", inPlace := ["(*sync.WaitGroup).Done", "(*sync.WaitGroup).Add", "internal/race.ReleaseMerge", "internal/race.Disable", "internal/race.Enable", "internal/synctest.IsInBubble", "internal/synctest.Associate[sync.WaitGroup]", "sync.fatal", "sync/atomic.OrUint64", "sync/atomic.AddUint64", "internal/race.Read", "sync/atomic.LoadUint64", "sync/atomic.StoreUint64", "internal/synctest.Disassociate[sync.WaitGroup]", "sync.runtime_Semrelease", "(*internal/sync.Mutex).Lock", "sync/atomic.CompareAndSwapInt32", "internal/race.Acquire", "(*internal/sync.Mutex).lockSlow", "internal/sync.runtime_canSpin", "internal/sync.runtime_doSpin", "internal/sync.throw", "internal/sync.runtime_nanotime", "internal/sync.runtime_SemacquireMutex", "sync/atomic.AddInt32", "(*internal/sync.Mutex).Unlock", "(*internal/sync.Mutex).unlockSlow", "internal/sync.fatal", "internal/sync.runtime_Semrelease", "(*sync.WaitGroup).Wait", "internal/synctest.IsAssociated[sync.WaitGroup]", "sync/atomic.CompareAndSwapUint64", "internal/race.Write", "sync.runtime_SemacquireWaitGroup", "internal/abi.NoEscape", "internal/bytealg.MakeNoZero", "internal/bytealg.IndexByteString", "internal/bytealg.IndexString", "internal/bytealg.CountString"], unfollowed := true, recurses := true, named := ["touchmark/rival.checks", "internal/bytealg.MaxLen", "unicode/utf8.first", "unicode/utf8.acceptRanges"], plainKeys := false, leaving := true, apart := false, calm := true, outside := [.timePasses], laid := [("unicode/utf8.acceptRanges", laid_unicode_utf8_acceptRanges), ("touchmark/rival.checks", laid_touchmark_rival_checks), ("unicode/utf8.first", laid_unicode_utf8_first)] }
def RivalTextsSaid : Prop := rivalTextsRow.holds Tryz.pinned (OpenSpec.ofChange rivalTextsSpec)

/-- ITS FALSE NEIGHBOUR: 'it returns false'. Refute it at one input. -/
def rivalTextsWrong : ChangeSpec := { name := "rivalTexts", fn := fun _ => fun
  | [d1, d2] => { results := [.lit (.bool false)], args := [d1, d2] }
  | _ => none }
def RivalTextsWrongFalsely : Prop := rivalTextsRow.holds Tryz.pinned (OpenSpec.ofChange rivalTextsWrong)

/-- 'touchmarklaw04.RivalBack': WHATEVER THE INPUT: true; the input reads as it did. -/
def rivalBackSpec : ChangeSpec := { name := "rivalBack", fn := fun _ => fun
  | [d] => { results := [.lit (.bool true)], args := [d] }
  | _ => none }
def rivalBackRow : OpenClaim := { program := "ytnpfcnfhfkflhaagreatdoor", sum := "f9a13b9bf41d0a0f1ec887bcbf9434a2b73d31bc9ffe61c44779a74f849e3098", func := "touchmark/touchmarklaw04.RivalBack", spec := "rivalBack", inPlace := ["(*sync.WaitGroup).Done", "(*sync.WaitGroup).Add", "internal/race.ReleaseMerge", "internal/race.Disable", "internal/race.Enable", "internal/synctest.IsInBubble", "internal/synctest.Associate[sync.WaitGroup]", "sync.fatal", "sync/atomic.OrUint64", "sync/atomic.AddUint64", "internal/race.Read", "sync/atomic.LoadUint64", "sync/atomic.StoreUint64", "internal/synctest.Disassociate[sync.WaitGroup]", "sync.runtime_Semrelease", "(*internal/sync.Mutex).Lock", "sync/atomic.CompareAndSwapInt32", "internal/race.Acquire", "(*internal/sync.Mutex).lockSlow", "internal/sync.runtime_canSpin", "internal/sync.runtime_doSpin", "internal/sync.throw", "internal/sync.runtime_nanotime", "internal/sync.runtime_SemacquireMutex", "sync/atomic.AddInt32", "(*internal/sync.Mutex).Unlock", "(*internal/sync.Mutex).unlockSlow", "internal/sync.fatal", "internal/sync.runtime_Semrelease", "(*sync.WaitGroup).Wait", "internal/synctest.IsAssociated[sync.WaitGroup]", "sync/atomic.CompareAndSwapUint64", "internal/race.Write", "sync.runtime_SemacquireWaitGroup", "internal/abi.NoEscape", "internal/bytealg.MakeNoZero", "internal/bytealg.IndexByteString", "internal/bytealg.IndexString", "internal/bytealg.CountString"], unfollowed := true, recurses := true, named := ["touchmark/rival.checks", "internal/bytealg.MaxLen", "unicode/utf8.first", "unicode/utf8.acceptRanges"], plainKeys := false, leaving := true, apart := false, calm := true, outside := [.timePasses], laid := [("unicode/utf8.acceptRanges", laid_unicode_utf8_acceptRanges), ("touchmark/rival.checks", laid_touchmark_rival_checks), ("unicode/utf8.first", laid_unicode_utf8_first)] }
def RivalBackSaid : Prop := rivalBackRow.holds Tryz.pinned (OpenSpec.ofChange rivalBackSpec)

/-- ITS FALSE NEIGHBOUR: 'it returns false'. Refute it at one input. -/
def rivalBackWrong : ChangeSpec := { name := "rivalBack", fn := fun _ => fun
  | [d] => { results := [.lit (.bool false)], args := [d] }
  | _ => none }
def RivalBackWrongFalsely : Prop := rivalBackRow.holds Tryz.pinned (OpenSpec.ofChange rivalBackWrong)

end Rows
end Go.Proofs.YtnpfcnfhfkflhaaGreatDoor
