/-
  NARROWER THAN 'FOR EVERY INPUT', by the rows' own cells (each row's printed sentence says how): RivalLate: calm, laid · RivalDays: calm, laid.
  DERIVED. THE GIVEN ROWS OF THIS SEAT. 2 by the template 'for every input the law returns true; each argument reads behind the call as it read before'; 0 by the template 'total and deterministic' (their statements: YtcakpkianonbkaaGreatDoorTotals.lean).
  GIVEN WITH THE SEED: the statements are not yours to turn. If you find one false, say at which input.
  Laid BY PROGRAM, IN A SANDBOX (cutbox-rows.mjs): the forced cells as the released guide's own fill.sh prints them over the translation b4ed7d179bc58068… (all of the seat's roots in one cut). By AI agents, Wed Nov 11 2026. No macro, syntax, notation, axiom, sorry.
-/
import Derived.Test.YtcakpkianonbkaaGreatDoorChecked
import GoSem.Claim
import GoSem.ClaimJoined
import GoSem.ClaimMapViews
import Derived.JoinedTies
import Derived.KernelRfl
namespace Go.Proofs.YtcakpkianonbkaaGreatDoor
/- THE CELL 'sum', in the pinned program and in every row, IS THE sha256 OF THE DUMP (.gsa) THAT YtcakpkianonbkaaGreatDoorProg.lean LOADS. Nothing in Lean hashes anything: it is a label: what it is worth is what the hold of that sum in a sandbox is worth. -/
noncomputable def Tryz.pinned : Pinned := { name := "ytcakpkianonbkaagreatdoor", sum := "b4ed7d179bc58068c4828b1440b943e902a95ffcb3664844914e2f510d971bca", checked := Tryz.checked }
namespace Rows
def none {H : Type} : Left H := { results := [], args := [] }

/- WHAT THE LISTED PACKAGE-LEVEL VARIABLES READ AS WHEN THE CALL BEGINS. Each datum BY PROGRAM (the guide's laid-datum.mjs) off the statement by which the dump's own 'gosem.cut.vars' lays the variable. In a bare row this is a premise. The card (YtcakpkianonbkaaGreatDoorCards.lean) ties it to the program's text. -/
def laid_touchmark_dates_lengths {H : Type} : DataW H := .agg [.lit (.int .i64 31), .lit (.int .i64 28), .lit (.int .i64 31), .lit (.int .i64 30), .lit (.int .i64 31), .lit (.int .i64 30), .lit (.int .i64 31), .lit (.int .i64 31), .lit (.int .i64 30), .lit (.int .i64 31), .lit (.int .i64 30), .lit (.int .i64 31)]
def laid_touchmark_rival_checks {H : Type} : DataW H := .iface "func table" (.agg [.iface "func" (.lit (.string [40, 116, 111, 117, 99, 104, 109, 97, 114, 107, 47, 114, 105, 118, 97, 108, 46, 98, 111, 111, 107, 41, 46, 114, 105, 103, 104, 116, 115])), .iface "func" (.lit (.string [40, 116, 111, 117, 99, 104, 109, 97, 114, 107, 47, 114, 105, 118, 97, 108, 46, 98, 111, 111, 107, 41, 46, 99, 97, 115, 101, 115])), .iface "func" (.lit (.string [40, 116, 111, 117, 99, 104, 109, 97, 114, 107, 47, 114, 105, 118, 97, 108, 46, 98, 111, 111, 107, 41, 46, 108, 111, 111, 112, 115]))])

/-- 'touchmarklaw04.RivalLate': WHATEVER THE INPUT: true; the input reads as it did. -/
def rivalLateSpec : ChangeSpec := { name := "rivalLate", fn := fun _ => fun
  | [d1, d2, d3, d4, d5, d6, d7] => { results := [.lit (.bool true)], args := [d1, d2, d3, d4, d5, d6, d7] }
  | _ => none }
def rivalLateRow : OpenClaim := { program := "ytcakpkianonbkaagreatdoor", sum := "b4ed7d179bc58068c4828b1440b943e902a95ffcb3664844914e2f510d971bca", func := "touchmark/touchmarklaw04.RivalLate", spec := "rivalLate", inPlace := ["(*sync.WaitGroup).Done", "(*sync.WaitGroup).Add", "internal/race.ReleaseMerge", "internal/race.Disable", "internal/race.Enable", "internal/synctest.IsInBubble", "internal/synctest.Associate[sync.WaitGroup]", "sync.fatal", "sync/atomic.OrUint64", "sync/atomic.AddUint64", "internal/race.Read", "sync/atomic.LoadUint64", "sync/atomic.StoreUint64", "internal/synctest.Disassociate[sync.WaitGroup]", "sync.runtime_Semrelease", "(*internal/sync.Mutex).Lock", "sync/atomic.CompareAndSwapInt32", "internal/race.Acquire", "(*internal/sync.Mutex).lockSlow", "internal/sync.runtime_canSpin", "internal/sync.runtime_doSpin", "internal/sync.throw", "internal/sync.runtime_nanotime", "internal/sync.runtime_SemacquireMutex", "sync/atomic.AddInt32", "(*internal/sync.Mutex).Unlock", "(*internal/sync.Mutex).unlockSlow", "internal/sync.fatal", "internal/sync.runtime_Semrelease", "(*sync.WaitGroup).Wait", "internal/synctest.IsAssociated[sync.WaitGroup]", "sync/atomic.CompareAndSwapUint64", "internal/race.Write", "sync.runtime_SemacquireWaitGroup"], unfollowed := true, recurses := true, named := ["touchmark/rival.checks", "touchmark/dates.lengths"], plainKeys := false, leaving := true, apart := false, calm := true, outside := [.timePasses], laid := [("touchmark/dates.lengths", laid_touchmark_dates_lengths), ("touchmark/rival.checks", laid_touchmark_rival_checks)] }
def RivalLateSaid : Prop := rivalLateRow.holds Tryz.pinned (OpenSpec.ofChange rivalLateSpec)

/-- ITS FALSE NEIGHBOUR: 'it returns false'. Refute it at one input. -/
def rivalLateWrong : ChangeSpec := { name := "rivalLate", fn := fun _ => fun
  | [d1, d2, d3, d4, d5, d6, d7] => { results := [.lit (.bool false)], args := [d1, d2, d3, d4, d5, d6, d7] }
  | _ => none }
def RivalLateWrongFalsely : Prop := rivalLateRow.holds Tryz.pinned (OpenSpec.ofChange rivalLateWrong)

/-- 'touchmarklaw04.RivalDays': WHATEVER THE INPUT: true; the input reads as it did. -/
def rivalDaysSpec : ChangeSpec := { name := "rivalDays", fn := fun _ => fun
  | [d1, d2, d3] => { results := [.lit (.bool true)], args := [d1, d2, d3] }
  | _ => none }
def rivalDaysRow : OpenClaim := { program := "ytcakpkianonbkaagreatdoor", sum := "b4ed7d179bc58068c4828b1440b943e902a95ffcb3664844914e2f510d971bca", func := "touchmark/touchmarklaw04.RivalDays", spec := "rivalDays", inPlace := ["(*sync.WaitGroup).Done", "(*sync.WaitGroup).Add", "internal/race.ReleaseMerge", "internal/race.Disable", "internal/race.Enable", "internal/synctest.IsInBubble", "internal/synctest.Associate[sync.WaitGroup]", "sync.fatal", "sync/atomic.OrUint64", "sync/atomic.AddUint64", "internal/race.Read", "sync/atomic.LoadUint64", "sync/atomic.StoreUint64", "internal/synctest.Disassociate[sync.WaitGroup]", "sync.runtime_Semrelease", "(*internal/sync.Mutex).Lock", "sync/atomic.CompareAndSwapInt32", "internal/race.Acquire", "(*internal/sync.Mutex).lockSlow", "internal/sync.runtime_canSpin", "internal/sync.runtime_doSpin", "internal/sync.throw", "internal/sync.runtime_nanotime", "internal/sync.runtime_SemacquireMutex", "sync/atomic.AddInt32", "(*internal/sync.Mutex).Unlock", "(*internal/sync.Mutex).unlockSlow", "internal/sync.fatal", "internal/sync.runtime_Semrelease", "(*sync.WaitGroup).Wait", "internal/synctest.IsAssociated[sync.WaitGroup]", "sync/atomic.CompareAndSwapUint64", "internal/race.Write", "sync.runtime_SemacquireWaitGroup"], unfollowed := true, recurses := true, named := ["touchmark/rival.checks", "touchmark/dates.lengths"], plainKeys := false, leaving := true, apart := false, calm := true, outside := [.timePasses], laid := [("touchmark/dates.lengths", laid_touchmark_dates_lengths), ("touchmark/rival.checks", laid_touchmark_rival_checks)] }
def RivalDaysSaid : Prop := rivalDaysRow.holds Tryz.pinned (OpenSpec.ofChange rivalDaysSpec)

/-- ITS FALSE NEIGHBOUR: 'it returns false'. Refute it at one input. -/
def rivalDaysWrong : ChangeSpec := { name := "rivalDays", fn := fun _ => fun
  | [d1, d2, d3] => { results := [.lit (.bool false)], args := [d1, d2, d3] }
  | _ => none }
def RivalDaysWrongFalsely : Prop := rivalDaysRow.holds Tryz.pinned (OpenSpec.ofChange rivalDaysWrong)

end Rows
end Go.Proofs.YtcakpkianonbkaaGreatDoor
