/-
  No cell of these rows narrows 'for every input' (looked for: loops, veiled, ifaces, maps, wideKeys, modest, calm, conditions, laid).
  DERIVED. THE GIVEN ROWS OF THIS SEAT. 21 by the template 'for every input the law returns true; each argument reads behind the call as it read before'; 0 by the template 'total and deterministic' (their statements: YtebpcmdnecenlaaGreatTotals.lean).
  GIVEN WITH THE SEED: the statements are not yours to turn. If you find one false, say at which input.
  Laid BY PROGRAM, IN A SANDBOX (cutbox-rows.mjs): the forced cells as the released guide's own fill.sh prints them over the translation 3ef554731b8c48af… (all of the seat's roots in one cut). By AI agents, Wed Nov 11 2026. No macro, syntax, notation, axiom, sorry.
-/
import Derived.Test.YtebpcmdnecenlaaGreatChecked
import GoSem.Claim
import GoSem.ClaimJoined
import GoSem.ClaimMapViews
import Derived.JoinedTies
import Derived.KernelRfl
namespace Go.Proofs.YtebpcmdnecenlaaGreat
/- THE CELL 'sum', in the pinned program and in every row, IS THE sha256 OF THE DUMP (.gsa) THAT YtebpcmdnecenlaaGreatProg.lean LOADS. Nothing in Lean hashes anything: it is a label: what it is worth is what the hold of that sum in a sandbox is worth. -/
noncomputable def Tryz.pinned : Pinned := { name := "ytebpcmdnecenlaagreat", sum := "3ef554731b8c48af6526b81d527844cb459251f56c5d610b1799c5fa54a915df", checked := Tryz.checked }
namespace Rows
def none {H : Type} : Left H := { results := [], args := [] }

/-- 'touchmarklaw01.GoodsTables': WHATEVER THE INPUT: true; the input reads as it did. -/
def goodsTablesSpec : ChangeSpec := { name := "goodsTables", fn := fun _ => fun
  | [d1, d2, d3] => { results := [.lit (.bool true)], args := [d1, d2, d3] }
  | _ => none }
def goodsTablesRow : OpenClaim := { program := "ytebpcmdnecenlaagreat", sum := "3ef554731b8c48af6526b81d527844cb459251f56c5d610b1799c5fa54a915df", func := "touchmark/touchmarklaw01.GoodsTables", spec := "goodsTables", inPlace := ["(*sync.WaitGroup).Add", "internal/race.ReleaseMerge", "internal/race.Disable", "internal/race.Enable", "internal/synctest.IsInBubble", "internal/synctest.Associate[sync.WaitGroup]", "sync.fatal", "sync/atomic.OrUint64", "sync/atomic.AddUint64", "internal/race.Read", "sync/atomic.LoadUint64", "sync/atomic.StoreUint64", "internal/synctest.Disassociate[sync.WaitGroup]", "sync.runtime_Semrelease", "(*sync.WaitGroup).Done", "(*sync.WaitGroup).Wait", "internal/race.Acquire", "internal/synctest.IsAssociated[sync.WaitGroup]", "sync/atomic.CompareAndSwapUint64", "internal/race.Write", "sync.runtime_SemacquireWaitGroup"], unfollowed := true, recurses := true, plainKeys := false, leaving := true, apart := false }
def GoodsTablesSaid : Prop := goodsTablesRow.holds Tryz.pinned (OpenSpec.ofChange goodsTablesSpec)

/-- ITS FALSE NEIGHBOUR: 'it returns false'. Refute it at one input. -/
def goodsTablesWrong : ChangeSpec := { name := "goodsTables", fn := fun _ => fun
  | [d1, d2, d3] => { results := [.lit (.bool false)], args := [d1, d2, d3] }
  | _ => none }
def GoodsTablesWrongFalsely : Prop := goodsTablesRow.holds Tryz.pinned (OpenSpec.ofChange goodsTablesWrong)

/-- 'touchmarklaw01.GoodsMoves': WHATEVER THE INPUT: true; the input reads as it did. -/
def goodsMovesSpec : ChangeSpec := { name := "goodsMoves", fn := fun _ => fun
  | [d1, d2, d3, d4] => { results := [.lit (.bool true)], args := [d1, d2, d3, d4] }
  | _ => none }
def goodsMovesRow : OpenClaim := { program := "ytebpcmdnecenlaagreat", sum := "3ef554731b8c48af6526b81d527844cb459251f56c5d610b1799c5fa54a915df", func := "touchmark/touchmarklaw01.GoodsMoves", spec := "goodsMoves", inPlace := ["(*sync.WaitGroup).Add", "internal/race.ReleaseMerge", "internal/race.Disable", "internal/race.Enable", "internal/synctest.IsInBubble", "internal/synctest.Associate[sync.WaitGroup]", "sync.fatal", "sync/atomic.OrUint64", "sync/atomic.AddUint64", "internal/race.Read", "sync/atomic.LoadUint64", "sync/atomic.StoreUint64", "internal/synctest.Disassociate[sync.WaitGroup]", "sync.runtime_Semrelease", "(*sync.WaitGroup).Done", "(*sync.WaitGroup).Wait", "internal/race.Acquire", "internal/synctest.IsAssociated[sync.WaitGroup]", "sync/atomic.CompareAndSwapUint64", "internal/race.Write", "sync.runtime_SemacquireWaitGroup"], unfollowed := true, recurses := true, plainKeys := false, leaving := true, apart := false }
def GoodsMovesSaid : Prop := goodsMovesRow.holds Tryz.pinned (OpenSpec.ofChange goodsMovesSpec)

/-- ITS FALSE NEIGHBOUR: 'it returns false'. Refute it at one input. -/
def goodsMovesWrong : ChangeSpec := { name := "goodsMoves", fn := fun _ => fun
  | [d1, d2, d3, d4] => { results := [.lit (.bool false)], args := [d1, d2, d3, d4] }
  | _ => none }
def GoodsMovesWrongFalsely : Prop := goodsMovesRow.holds Tryz.pinned (OpenSpec.ofChange goodsMovesWrong)

/-- 'touchmarklaw01.GoodsCuts': WHATEVER THE INPUT: true; the input reads as it did. -/
def goodsCutsSpec : ChangeSpec := { name := "goodsCuts", fn := fun _ => fun
  | [d1, d2, d3, d4, d5] => { results := [.lit (.bool true)], args := [d1, d2, d3, d4, d5] }
  | _ => none }
def goodsCutsRow : OpenClaim := { program := "ytebpcmdnecenlaagreat", sum := "3ef554731b8c48af6526b81d527844cb459251f56c5d610b1799c5fa54a915df", func := "touchmark/touchmarklaw01.GoodsCuts", spec := "goodsCuts", inPlace := ["(*sync.WaitGroup).Add", "internal/race.ReleaseMerge", "internal/race.Disable", "internal/race.Enable", "internal/synctest.IsInBubble", "internal/synctest.Associate[sync.WaitGroup]", "sync.fatal", "sync/atomic.OrUint64", "sync/atomic.AddUint64", "internal/race.Read", "sync/atomic.LoadUint64", "sync/atomic.StoreUint64", "internal/synctest.Disassociate[sync.WaitGroup]", "sync.runtime_Semrelease", "(*sync.WaitGroup).Done", "(*sync.WaitGroup).Wait", "internal/race.Acquire", "internal/synctest.IsAssociated[sync.WaitGroup]", "sync/atomic.CompareAndSwapUint64", "internal/race.Write", "sync.runtime_SemacquireWaitGroup"], unfollowed := true, recurses := true, plainKeys := false, leaving := true, apart := false }
def GoodsCutsSaid : Prop := goodsCutsRow.holds Tryz.pinned (OpenSpec.ofChange goodsCutsSpec)

/-- ITS FALSE NEIGHBOUR: 'it returns false'. Refute it at one input. -/
def goodsCutsWrong : ChangeSpec := { name := "goodsCuts", fn := fun _ => fun
  | [d1, d2, d3, d4, d5] => { results := [.lit (.bool false)], args := [d1, d2, d3, d4, d5] }
  | _ => none }
def GoodsCutsWrongFalsely : Prop := goodsCutsRow.holds Tryz.pinned (OpenSpec.ofChange goodsCutsWrong)

/-- 'touchmarklaw01.GoodsKins': WHATEVER THE INPUT: true; the input reads as it did. -/
def goodsKinsSpec : ChangeSpec := { name := "goodsKins", fn := fun _ => fun
  | [d1, d2, d3, d4, d5, d6] => { results := [.lit (.bool true)], args := [d1, d2, d3, d4, d5, d6] }
  | _ => none }
def goodsKinsRow : OpenClaim := { program := "ytebpcmdnecenlaagreat", sum := "3ef554731b8c48af6526b81d527844cb459251f56c5d610b1799c5fa54a915df", func := "touchmark/touchmarklaw01.GoodsKins", spec := "goodsKins", inPlace := ["(*sync.WaitGroup).Add", "internal/race.ReleaseMerge", "internal/race.Disable", "internal/race.Enable", "internal/synctest.IsInBubble", "internal/synctest.Associate[sync.WaitGroup]", "sync.fatal", "sync/atomic.OrUint64", "sync/atomic.AddUint64", "internal/race.Read", "sync/atomic.LoadUint64", "sync/atomic.StoreUint64", "internal/synctest.Disassociate[sync.WaitGroup]", "sync.runtime_Semrelease", "(*sync.WaitGroup).Done", "(*sync.WaitGroup).Wait", "internal/race.Acquire", "internal/synctest.IsAssociated[sync.WaitGroup]", "sync/atomic.CompareAndSwapUint64", "internal/race.Write", "sync.runtime_SemacquireWaitGroup"], unfollowed := true, recurses := true, plainKeys := false, leaving := true, apart := false }
def GoodsKinsSaid : Prop := goodsKinsRow.holds Tryz.pinned (OpenSpec.ofChange goodsKinsSpec)

/-- ITS FALSE NEIGHBOUR: 'it returns false'. Refute it at one input. -/
def goodsKinsWrong : ChangeSpec := { name := "goodsKins", fn := fun _ => fun
  | [d1, d2, d3, d4, d5, d6] => { results := [.lit (.bool false)], args := [d1, d2, d3, d4, d5, d6] }
  | _ => none }
def GoodsKinsWrongFalsely : Prop := goodsKinsRow.holds Tryz.pinned (OpenSpec.ofChange goodsKinsWrong)

/-- 'touchmarklaw01.GoodsAgrees': WHATEVER THE INPUT: true; the input reads as it did. -/
def goodsAgreesSpec : ChangeSpec := { name := "goodsAgrees", fn := fun _ => fun
  | [d1, d2, d3, d4, d5] => { results := [.lit (.bool true)], args := [d1, d2, d3, d4, d5] }
  | _ => none }
def goodsAgreesRow : OpenClaim := { program := "ytebpcmdnecenlaagreat", sum := "3ef554731b8c48af6526b81d527844cb459251f56c5d610b1799c5fa54a915df", func := "touchmark/touchmarklaw01.GoodsAgrees", spec := "goodsAgrees", inPlace := ["(*sync.WaitGroup).Add", "internal/race.ReleaseMerge", "internal/race.Disable", "internal/race.Enable", "internal/synctest.IsInBubble", "internal/synctest.Associate[sync.WaitGroup]", "sync.fatal", "sync/atomic.OrUint64", "sync/atomic.AddUint64", "internal/race.Read", "sync/atomic.LoadUint64", "sync/atomic.StoreUint64", "internal/synctest.Disassociate[sync.WaitGroup]", "sync.runtime_Semrelease", "(*sync.WaitGroup).Done", "(*sync.WaitGroup).Wait", "internal/race.Acquire", "internal/synctest.IsAssociated[sync.WaitGroup]", "sync/atomic.CompareAndSwapUint64", "internal/race.Write", "sync.runtime_SemacquireWaitGroup"], unfollowed := true, recurses := true, plainKeys := false, leaving := true, apart := false }
def GoodsAgreesSaid : Prop := goodsAgreesRow.holds Tryz.pinned (OpenSpec.ofChange goodsAgreesSpec)

/-- ITS FALSE NEIGHBOUR: 'it returns false'. Refute it at one input. -/
def goodsAgreesWrong : ChangeSpec := { name := "goodsAgrees", fn := fun _ => fun
  | [d1, d2, d3, d4, d5] => { results := [.lit (.bool false)], args := [d1, d2, d3, d4, d5] }
  | _ => none }
def GoodsAgreesWrongFalsely : Prop := goodsAgreesRow.holds Tryz.pinned (OpenSpec.ofChange goodsAgreesWrong)

/-- 'touchmarklaw01.GoodsThereBack': WHATEVER THE INPUT: true; the input reads as it did. -/
def goodsThereBackSpec : ChangeSpec := { name := "goodsThereBack", fn := fun _ => fun
  | [d1, d2, d3, d4] => { results := [.lit (.bool true)], args := [d1, d2, d3, d4] }
  | _ => none }
def goodsThereBackRow : OpenClaim := { program := "ytebpcmdnecenlaagreat", sum := "3ef554731b8c48af6526b81d527844cb459251f56c5d610b1799c5fa54a915df", func := "touchmark/touchmarklaw01.GoodsThereBack", spec := "goodsThereBack", inPlace := ["(*sync.WaitGroup).Add", "internal/race.ReleaseMerge", "internal/race.Disable", "internal/race.Enable", "internal/synctest.IsInBubble", "internal/synctest.Associate[sync.WaitGroup]", "sync.fatal", "sync/atomic.OrUint64", "sync/atomic.AddUint64", "internal/race.Read", "sync/atomic.LoadUint64", "sync/atomic.StoreUint64", "internal/synctest.Disassociate[sync.WaitGroup]", "sync.runtime_Semrelease", "(*sync.WaitGroup).Done", "(*sync.WaitGroup).Wait", "internal/race.Acquire", "internal/synctest.IsAssociated[sync.WaitGroup]", "sync/atomic.CompareAndSwapUint64", "internal/race.Write", "sync.runtime_SemacquireWaitGroup"], unfollowed := true, recurses := true, plainKeys := false, leaving := true, apart := false }
def GoodsThereBackSaid : Prop := goodsThereBackRow.holds Tryz.pinned (OpenSpec.ofChange goodsThereBackSpec)

/-- ITS FALSE NEIGHBOUR: 'it returns false'. Refute it at one input. -/
def goodsThereBackWrong : ChangeSpec := { name := "goodsThereBack", fn := fun _ => fun
  | [d1, d2, d3, d4] => { results := [.lit (.bool false)], args := [d1, d2, d3, d4] }
  | _ => none }
def GoodsThereBackWrongFalsely : Prop := goodsThereBackRow.holds Tryz.pinned (OpenSpec.ofChange goodsThereBackWrong)

/-- 'touchmarklaw01.GoodsLonger': WHATEVER THE INPUT: true; the input reads as it did. -/
def goodsLongerSpec : ChangeSpec := { name := "goodsLonger", fn := fun _ => fun
  | [d1, d2, d3, d4, d5] => { results := [.lit (.bool true)], args := [d1, d2, d3, d4, d5] }
  | _ => none }
def goodsLongerRow : OpenClaim := { program := "ytebpcmdnecenlaagreat", sum := "3ef554731b8c48af6526b81d527844cb459251f56c5d610b1799c5fa54a915df", func := "touchmark/touchmarklaw01.GoodsLonger", spec := "goodsLonger", inPlace := ["(*sync.WaitGroup).Add", "internal/race.ReleaseMerge", "internal/race.Disable", "internal/race.Enable", "internal/synctest.IsInBubble", "internal/synctest.Associate[sync.WaitGroup]", "sync.fatal", "sync/atomic.OrUint64", "sync/atomic.AddUint64", "internal/race.Read", "sync/atomic.LoadUint64", "sync/atomic.StoreUint64", "internal/synctest.Disassociate[sync.WaitGroup]", "sync.runtime_Semrelease", "(*sync.WaitGroup).Done", "(*sync.WaitGroup).Wait", "internal/race.Acquire", "internal/synctest.IsAssociated[sync.WaitGroup]", "sync/atomic.CompareAndSwapUint64", "internal/race.Write", "sync.runtime_SemacquireWaitGroup"], unfollowed := true, recurses := true, plainKeys := false, leaving := true, apart := false }
def GoodsLongerSaid : Prop := goodsLongerRow.holds Tryz.pinned (OpenSpec.ofChange goodsLongerSpec)

/-- ITS FALSE NEIGHBOUR: 'it returns false'. Refute it at one input. -/
def goodsLongerWrong : ChangeSpec := { name := "goodsLonger", fn := fun _ => fun
  | [d1, d2, d3, d4, d5] => { results := [.lit (.bool false)], args := [d1, d2, d3, d4, d5] }
  | _ => none }
def GoodsLongerWrongFalsely : Prop := goodsLongerRow.holds Tryz.pinned (OpenSpec.ofChange goodsLongerWrong)

/-- 'touchmarklaw01.GoodsTogether': WHATEVER THE INPUT: true; the input reads as it did. -/
def goodsTogetherSpec : ChangeSpec := { name := "goodsTogether", fn := fun _ => fun
  | [d1, d2, d3, d4, d5] => { results := [.lit (.bool true)], args := [d1, d2, d3, d4, d5] }
  | _ => none }
def goodsTogetherRow : OpenClaim := { program := "ytebpcmdnecenlaagreat", sum := "3ef554731b8c48af6526b81d527844cb459251f56c5d610b1799c5fa54a915df", func := "touchmark/touchmarklaw01.GoodsTogether", spec := "goodsTogether", inPlace := ["(*sync.WaitGroup).Add", "internal/race.ReleaseMerge", "internal/race.Disable", "internal/race.Enable", "internal/synctest.IsInBubble", "internal/synctest.Associate[sync.WaitGroup]", "sync.fatal", "sync/atomic.OrUint64", "sync/atomic.AddUint64", "internal/race.Read", "sync/atomic.LoadUint64", "sync/atomic.StoreUint64", "internal/synctest.Disassociate[sync.WaitGroup]", "sync.runtime_Semrelease", "(*sync.WaitGroup).Done", "(*sync.WaitGroup).Wait", "internal/race.Acquire", "internal/synctest.IsAssociated[sync.WaitGroup]", "sync/atomic.CompareAndSwapUint64", "internal/race.Write", "sync.runtime_SemacquireWaitGroup"], unfollowed := true, recurses := true, plainKeys := false, leaving := true, apart := false }
def GoodsTogetherSaid : Prop := goodsTogetherRow.holds Tryz.pinned (OpenSpec.ofChange goodsTogetherSpec)

/-- ITS FALSE NEIGHBOUR: 'it returns false'. Refute it at one input. -/
def goodsTogetherWrong : ChangeSpec := { name := "goodsTogether", fn := fun _ => fun
  | [d1, d2, d3, d4, d5] => { results := [.lit (.bool false)], args := [d1, d2, d3, d4, d5] }
  | _ => none }
def GoodsTogetherWrongFalsely : Prop := goodsTogetherRow.holds Tryz.pinned (OpenSpec.ofChange goodsTogetherWrong)

/-- 'touchmarklaw01.GoodsSteps': WHATEVER THE INPUT: true; the input reads as it did. -/
def goodsStepsSpec : ChangeSpec := { name := "goodsSteps", fn := fun _ => fun
  | [d1, d2, d3, d4, d5] => { results := [.lit (.bool true)], args := [d1, d2, d3, d4, d5] }
  | _ => none }
def goodsStepsRow : OpenClaim := { program := "ytebpcmdnecenlaagreat", sum := "3ef554731b8c48af6526b81d527844cb459251f56c5d610b1799c5fa54a915df", func := "touchmark/touchmarklaw01.GoodsSteps", spec := "goodsSteps", inPlace := ["(*sync.WaitGroup).Add", "internal/race.ReleaseMerge", "internal/race.Disable", "internal/race.Enable", "internal/synctest.IsInBubble", "internal/synctest.Associate[sync.WaitGroup]", "sync.fatal", "sync/atomic.OrUint64", "sync/atomic.AddUint64", "internal/race.Read", "sync/atomic.LoadUint64", "sync/atomic.StoreUint64", "internal/synctest.Disassociate[sync.WaitGroup]", "sync.runtime_Semrelease", "(*sync.WaitGroup).Done", "(*sync.WaitGroup).Wait", "internal/race.Acquire", "internal/synctest.IsAssociated[sync.WaitGroup]", "sync/atomic.CompareAndSwapUint64", "internal/race.Write", "sync.runtime_SemacquireWaitGroup"], unfollowed := true, recurses := true, plainKeys := false, leaving := true, apart := false }
def GoodsStepsSaid : Prop := goodsStepsRow.holds Tryz.pinned (OpenSpec.ofChange goodsStepsSpec)

/-- ITS FALSE NEIGHBOUR: 'it returns false'. Refute it at one input. -/
def goodsStepsWrong : ChangeSpec := { name := "goodsSteps", fn := fun _ => fun
  | [d1, d2, d3, d4, d5] => { results := [.lit (.bool false)], args := [d1, d2, d3, d4, d5] }
  | _ => none }
def GoodsStepsWrongFalsely : Prop := goodsStepsRow.holds Tryz.pinned (OpenSpec.ofChange goodsStepsWrong)

/-- 'touchmarklaw01.GoodsShrink': WHATEVER THE INPUT: true; the input reads as it did. -/
def goodsShrinkSpec : ChangeSpec := { name := "goodsShrink", fn := fun _ => fun
  | [d1, d2, d3, d4] => { results := [.lit (.bool true)], args := [d1, d2, d3, d4] }
  | _ => none }
def goodsShrinkRow : OpenClaim := { program := "ytebpcmdnecenlaagreat", sum := "3ef554731b8c48af6526b81d527844cb459251f56c5d610b1799c5fa54a915df", func := "touchmark/touchmarklaw01.GoodsShrink", spec := "goodsShrink", inPlace := ["(*sync.WaitGroup).Add", "internal/race.ReleaseMerge", "internal/race.Disable", "internal/race.Enable", "internal/synctest.IsInBubble", "internal/synctest.Associate[sync.WaitGroup]", "sync.fatal", "sync/atomic.OrUint64", "sync/atomic.AddUint64", "internal/race.Read", "sync/atomic.LoadUint64", "sync/atomic.StoreUint64", "internal/synctest.Disassociate[sync.WaitGroup]", "sync.runtime_Semrelease", "(*sync.WaitGroup).Done", "(*sync.WaitGroup).Wait", "internal/race.Acquire", "internal/synctest.IsAssociated[sync.WaitGroup]", "sync/atomic.CompareAndSwapUint64", "internal/race.Write", "sync.runtime_SemacquireWaitGroup"], unfollowed := true, recurses := true, plainKeys := false, leaving := true, apart := false }
def GoodsShrinkSaid : Prop := goodsShrinkRow.holds Tryz.pinned (OpenSpec.ofChange goodsShrinkSpec)

/-- ITS FALSE NEIGHBOUR: 'it returns false'. Refute it at one input. -/
def goodsShrinkWrong : ChangeSpec := { name := "goodsShrink", fn := fun _ => fun
  | [d1, d2, d3, d4] => { results := [.lit (.bool false)], args := [d1, d2, d3, d4] }
  | _ => none }
def GoodsShrinkWrongFalsely : Prop := goodsShrinkRow.holds Tryz.pinned (OpenSpec.ofChange goodsShrinkWrong)

/-- 'touchmarklaw01.GoodsOrder': WHATEVER THE INPUT: true; the input reads as it did. -/
def goodsOrderSpec : ChangeSpec := { name := "goodsOrder", fn := fun _ => fun
  | [d1, d2, d3, d4] => { results := [.lit (.bool true)], args := [d1, d2, d3, d4] }
  | _ => none }
def goodsOrderRow : OpenClaim := { program := "ytebpcmdnecenlaagreat", sum := "3ef554731b8c48af6526b81d527844cb459251f56c5d610b1799c5fa54a915df", func := "touchmark/touchmarklaw01.GoodsOrder", spec := "goodsOrder", inPlace := ["(*sync.WaitGroup).Add", "internal/race.ReleaseMerge", "internal/race.Disable", "internal/race.Enable", "internal/synctest.IsInBubble", "internal/synctest.Associate[sync.WaitGroup]", "sync.fatal", "sync/atomic.OrUint64", "sync/atomic.AddUint64", "internal/race.Read", "sync/atomic.LoadUint64", "sync/atomic.StoreUint64", "internal/synctest.Disassociate[sync.WaitGroup]", "sync.runtime_Semrelease", "(*sync.WaitGroup).Done", "(*sync.WaitGroup).Wait", "internal/race.Acquire", "internal/synctest.IsAssociated[sync.WaitGroup]", "sync/atomic.CompareAndSwapUint64", "internal/race.Write", "sync.runtime_SemacquireWaitGroup"], unfollowed := true, recurses := true, plainKeys := false, leaving := true, apart := false }
def GoodsOrderSaid : Prop := goodsOrderRow.holds Tryz.pinned (OpenSpec.ofChange goodsOrderSpec)

/-- ITS FALSE NEIGHBOUR: 'it returns false'. Refute it at one input. -/
def goodsOrderWrong : ChangeSpec := { name := "goodsOrder", fn := fun _ => fun
  | [d1, d2, d3, d4] => { results := [.lit (.bool false)], args := [d1, d2, d3, d4] }
  | _ => none }
def GoodsOrderWrongFalsely : Prop := goodsOrderRow.holds Tryz.pinned (OpenSpec.ofChange goodsOrderWrong)

/-- 'touchmarklaw01.GoodsGrows': WHATEVER THE INPUT: true; the input reads as it did. -/
def goodsGrowsSpec : ChangeSpec := { name := "goodsGrows", fn := fun _ => fun
  | [d1, d2, d3, d4] => { results := [.lit (.bool true)], args := [d1, d2, d3, d4] }
  | _ => none }
def goodsGrowsRow : OpenClaim := { program := "ytebpcmdnecenlaagreat", sum := "3ef554731b8c48af6526b81d527844cb459251f56c5d610b1799c5fa54a915df", func := "touchmark/touchmarklaw01.GoodsGrows", spec := "goodsGrows", inPlace := ["(*sync.WaitGroup).Add", "internal/race.ReleaseMerge", "internal/race.Disable", "internal/race.Enable", "internal/synctest.IsInBubble", "internal/synctest.Associate[sync.WaitGroup]", "sync.fatal", "sync/atomic.OrUint64", "sync/atomic.AddUint64", "internal/race.Read", "sync/atomic.LoadUint64", "sync/atomic.StoreUint64", "internal/synctest.Disassociate[sync.WaitGroup]", "sync.runtime_Semrelease", "(*sync.WaitGroup).Done", "(*sync.WaitGroup).Wait", "internal/race.Acquire", "internal/synctest.IsAssociated[sync.WaitGroup]", "sync/atomic.CompareAndSwapUint64", "internal/race.Write", "sync.runtime_SemacquireWaitGroup"], unfollowed := true, recurses := true, plainKeys := false, leaving := true, apart := false }
def GoodsGrowsSaid : Prop := goodsGrowsRow.holds Tryz.pinned (OpenSpec.ofChange goodsGrowsSpec)

/-- ITS FALSE NEIGHBOUR: 'it returns false'. Refute it at one input. -/
def goodsGrowsWrong : ChangeSpec := { name := "goodsGrows", fn := fun _ => fun
  | [d1, d2, d3, d4] => { results := [.lit (.bool false)], args := [d1, d2, d3, d4] }
  | _ => none }
def GoodsGrowsWrongFalsely : Prop := goodsGrowsRow.holds Tryz.pinned (OpenSpec.ofChange goodsGrowsWrong)

/-- 'touchmarklaw01.GoodsClasses': WHATEVER THE INPUT: true; the input reads as it did. -/
def goodsClassesSpec : ChangeSpec := { name := "goodsClasses", fn := fun _ => fun
  | [d1, d2, d3, d4] => { results := [.lit (.bool true)], args := [d1, d2, d3, d4] }
  | _ => none }
def goodsClassesRow : OpenClaim := { program := "ytebpcmdnecenlaagreat", sum := "3ef554731b8c48af6526b81d527844cb459251f56c5d610b1799c5fa54a915df", func := "touchmark/touchmarklaw01.GoodsClasses", spec := "goodsClasses", inPlace := ["(*sync.WaitGroup).Add", "internal/race.ReleaseMerge", "internal/race.Disable", "internal/race.Enable", "internal/synctest.IsInBubble", "internal/synctest.Associate[sync.WaitGroup]", "sync.fatal", "sync/atomic.OrUint64", "sync/atomic.AddUint64", "internal/race.Read", "sync/atomic.LoadUint64", "sync/atomic.StoreUint64", "internal/synctest.Disassociate[sync.WaitGroup]", "sync.runtime_Semrelease", "(*sync.WaitGroup).Done", "(*sync.WaitGroup).Wait", "internal/race.Acquire", "internal/synctest.IsAssociated[sync.WaitGroup]", "sync/atomic.CompareAndSwapUint64", "internal/race.Write", "sync.runtime_SemacquireWaitGroup"], unfollowed := true, recurses := true, plainKeys := false, leaving := true, apart := false }
def GoodsClassesSaid : Prop := goodsClassesRow.holds Tryz.pinned (OpenSpec.ofChange goodsClassesSpec)

/-- ITS FALSE NEIGHBOUR: 'it returns false'. Refute it at one input. -/
def goodsClassesWrong : ChangeSpec := { name := "goodsClasses", fn := fun _ => fun
  | [d1, d2, d3, d4] => { results := [.lit (.bool false)], args := [d1, d2, d3, d4] }
  | _ => none }
def GoodsClassesWrongFalsely : Prop := goodsClassesRow.holds Tryz.pinned (OpenSpec.ofChange goodsClassesWrong)

/-- 'touchmarklaw01.GoodsMutual': WHATEVER THE INPUT: true; the input reads as it did. -/
def goodsMutualSpec : ChangeSpec := { name := "goodsMutual", fn := fun _ => fun
  | [d1, d2, d3, d4, d5] => { results := [.lit (.bool true)], args := [d1, d2, d3, d4, d5] }
  | _ => none }
def goodsMutualRow : OpenClaim := { program := "ytebpcmdnecenlaagreat", sum := "3ef554731b8c48af6526b81d527844cb459251f56c5d610b1799c5fa54a915df", func := "touchmark/touchmarklaw01.GoodsMutual", spec := "goodsMutual", inPlace := ["(*sync.WaitGroup).Add", "internal/race.ReleaseMerge", "internal/race.Disable", "internal/race.Enable", "internal/synctest.IsInBubble", "internal/synctest.Associate[sync.WaitGroup]", "sync.fatal", "sync/atomic.OrUint64", "sync/atomic.AddUint64", "internal/race.Read", "sync/atomic.LoadUint64", "sync/atomic.StoreUint64", "internal/synctest.Disassociate[sync.WaitGroup]", "sync.runtime_Semrelease", "(*sync.WaitGroup).Done", "(*sync.WaitGroup).Wait", "internal/race.Acquire", "internal/synctest.IsAssociated[sync.WaitGroup]", "sync/atomic.CompareAndSwapUint64", "internal/race.Write", "sync.runtime_SemacquireWaitGroup"], unfollowed := true, recurses := true, plainKeys := false, leaving := true, apart := false }
def GoodsMutualSaid : Prop := goodsMutualRow.holds Tryz.pinned (OpenSpec.ofChange goodsMutualSpec)

/-- ITS FALSE NEIGHBOUR: 'it returns false'. Refute it at one input. -/
def goodsMutualWrong : ChangeSpec := { name := "goodsMutual", fn := fun _ => fun
  | [d1, d2, d3, d4, d5] => { results := [.lit (.bool false)], args := [d1, d2, d3, d4, d5] }
  | _ => none }
def GoodsMutualWrongFalsely : Prop := goodsMutualRow.holds Tryz.pinned (OpenSpec.ofChange goodsMutualWrong)

/-- 'touchmarklaw01.GoodsCloser': WHATEVER THE INPUT: true; the input reads as it did. -/
def goodsCloserSpec : ChangeSpec := { name := "goodsCloser", fn := fun _ => fun
  | [d1, d2, d3, d4, d5, d6] => { results := [.lit (.bool true)], args := [d1, d2, d3, d4, d5, d6] }
  | _ => none }
def goodsCloserRow : OpenClaim := { program := "ytebpcmdnecenlaagreat", sum := "3ef554731b8c48af6526b81d527844cb459251f56c5d610b1799c5fa54a915df", func := "touchmark/touchmarklaw01.GoodsCloser", spec := "goodsCloser", inPlace := ["(*sync.WaitGroup).Add", "internal/race.ReleaseMerge", "internal/race.Disable", "internal/race.Enable", "internal/synctest.IsInBubble", "internal/synctest.Associate[sync.WaitGroup]", "sync.fatal", "sync/atomic.OrUint64", "sync/atomic.AddUint64", "internal/race.Read", "sync/atomic.LoadUint64", "sync/atomic.StoreUint64", "internal/synctest.Disassociate[sync.WaitGroup]", "sync.runtime_Semrelease", "(*sync.WaitGroup).Done", "(*sync.WaitGroup).Wait", "internal/race.Acquire", "internal/synctest.IsAssociated[sync.WaitGroup]", "sync/atomic.CompareAndSwapUint64", "internal/race.Write", "sync.runtime_SemacquireWaitGroup"], unfollowed := true, recurses := true, plainKeys := false, leaving := true, apart := false }
def GoodsCloserSaid : Prop := goodsCloserRow.holds Tryz.pinned (OpenSpec.ofChange goodsCloserSpec)

/-- ITS FALSE NEIGHBOUR: 'it returns false'. Refute it at one input. -/
def goodsCloserWrong : ChangeSpec := { name := "goodsCloser", fn := fun _ => fun
  | [d1, d2, d3, d4, d5, d6] => { results := [.lit (.bool false)], args := [d1, d2, d3, d4, d5, d6] }
  | _ => none }
def GoodsCloserWrongFalsely : Prop := goodsCloserRow.holds Tryz.pinned (OpenSpec.ofChange goodsCloserWrong)

/-- 'touchmarklaw01.GoodsPairs': WHATEVER THE INPUT: true; the input reads as it did. -/
def goodsPairsSpec : ChangeSpec := { name := "goodsPairs", fn := fun _ => fun
  | [d1, d2, d3, d4, d5, d6] => { results := [.lit (.bool true)], args := [d1, d2, d3, d4, d5, d6] }
  | _ => none }
def goodsPairsRow : OpenClaim := { program := "ytebpcmdnecenlaagreat", sum := "3ef554731b8c48af6526b81d527844cb459251f56c5d610b1799c5fa54a915df", func := "touchmark/touchmarklaw01.GoodsPairs", spec := "goodsPairs", inPlace := ["(*sync.WaitGroup).Add", "internal/race.ReleaseMerge", "internal/race.Disable", "internal/race.Enable", "internal/synctest.IsInBubble", "internal/synctest.Associate[sync.WaitGroup]", "sync.fatal", "sync/atomic.OrUint64", "sync/atomic.AddUint64", "internal/race.Read", "sync/atomic.LoadUint64", "sync/atomic.StoreUint64", "internal/synctest.Disassociate[sync.WaitGroup]", "sync.runtime_Semrelease", "(*sync.WaitGroup).Done", "(*sync.WaitGroup).Wait", "internal/race.Acquire", "internal/synctest.IsAssociated[sync.WaitGroup]", "sync/atomic.CompareAndSwapUint64", "internal/race.Write", "sync.runtime_SemacquireWaitGroup"], unfollowed := true, recurses := true, plainKeys := false, leaving := true, apart := false }
def GoodsPairsSaid : Prop := goodsPairsRow.holds Tryz.pinned (OpenSpec.ofChange goodsPairsSpec)

/-- ITS FALSE NEIGHBOUR: 'it returns false'. Refute it at one input. -/
def goodsPairsWrong : ChangeSpec := { name := "goodsPairs", fn := fun _ => fun
  | [d1, d2, d3, d4, d5, d6] => { results := [.lit (.bool false)], args := [d1, d2, d3, d4, d5, d6] }
  | _ => none }
def GoodsPairsWrongFalsely : Prop := goodsPairsRow.holds Tryz.pinned (OpenSpec.ofChange goodsPairsWrong)

/-- 'touchmarklaw01.GoodsFewest': WHATEVER THE INPUT: true; the input reads as it did. -/
def goodsFewestSpec : ChangeSpec := { name := "goodsFewest", fn := fun _ => fun
  | [d1, d2, d3, d4, d5, d6, d7] => { results := [.lit (.bool true)], args := [d1, d2, d3, d4, d5, d6, d7] }
  | _ => none }
def goodsFewestRow : OpenClaim := { program := "ytebpcmdnecenlaagreat", sum := "3ef554731b8c48af6526b81d527844cb459251f56c5d610b1799c5fa54a915df", func := "touchmark/touchmarklaw01.GoodsFewest", spec := "goodsFewest", inPlace := ["(*sync.WaitGroup).Add", "internal/race.ReleaseMerge", "internal/race.Disable", "internal/race.Enable", "internal/synctest.IsInBubble", "internal/synctest.Associate[sync.WaitGroup]", "sync.fatal", "sync/atomic.OrUint64", "sync/atomic.AddUint64", "internal/race.Read", "sync/atomic.LoadUint64", "sync/atomic.StoreUint64", "internal/synctest.Disassociate[sync.WaitGroup]", "sync.runtime_Semrelease", "(*sync.WaitGroup).Done", "(*sync.WaitGroup).Wait", "internal/race.Acquire", "internal/synctest.IsAssociated[sync.WaitGroup]", "sync/atomic.CompareAndSwapUint64", "internal/race.Write", "sync.runtime_SemacquireWaitGroup"], unfollowed := true, recurses := true, plainKeys := false, leaving := true, apart := false }
def GoodsFewestSaid : Prop := goodsFewestRow.holds Tryz.pinned (OpenSpec.ofChange goodsFewestSpec)

/-- ITS FALSE NEIGHBOUR: 'it returns false'. Refute it at one input. -/
def goodsFewestWrong : ChangeSpec := { name := "goodsFewest", fn := fun _ => fun
  | [d1, d2, d3, d4, d5, d6, d7] => { results := [.lit (.bool false)], args := [d1, d2, d3, d4, d5, d6, d7] }
  | _ => none }
def GoodsFewestWrongFalsely : Prop := goodsFewestRow.holds Tryz.pinned (OpenSpec.ofChange goodsFewestWrong)

/-- 'touchmarklaw01.GoodsCheaper': WHATEVER THE INPUT: true; the input reads as it did. -/
def goodsCheaperSpec : ChangeSpec := { name := "goodsCheaper", fn := fun _ => fun
  | [d1, d2, d3, d4, d5, d6] => { results := [.lit (.bool true)], args := [d1, d2, d3, d4, d5, d6] }
  | _ => none }
def goodsCheaperRow : OpenClaim := { program := "ytebpcmdnecenlaagreat", sum := "3ef554731b8c48af6526b81d527844cb459251f56c5d610b1799c5fa54a915df", func := "touchmark/touchmarklaw01.GoodsCheaper", spec := "goodsCheaper", inPlace := ["(*sync.WaitGroup).Add", "internal/race.ReleaseMerge", "internal/race.Disable", "internal/race.Enable", "internal/synctest.IsInBubble", "internal/synctest.Associate[sync.WaitGroup]", "sync.fatal", "sync/atomic.OrUint64", "sync/atomic.AddUint64", "internal/race.Read", "sync/atomic.LoadUint64", "sync/atomic.StoreUint64", "internal/synctest.Disassociate[sync.WaitGroup]", "sync.runtime_Semrelease", "(*sync.WaitGroup).Done", "(*sync.WaitGroup).Wait", "internal/race.Acquire", "internal/synctest.IsAssociated[sync.WaitGroup]", "sync/atomic.CompareAndSwapUint64", "internal/race.Write", "sync.runtime_SemacquireWaitGroup"], unfollowed := true, recurses := true, plainKeys := false, leaving := true, apart := false }
def GoodsCheaperSaid : Prop := goodsCheaperRow.holds Tryz.pinned (OpenSpec.ofChange goodsCheaperSpec)

/-- ITS FALSE NEIGHBOUR: 'it returns false'. Refute it at one input. -/
def goodsCheaperWrong : ChangeSpec := { name := "goodsCheaper", fn := fun _ => fun
  | [d1, d2, d3, d4, d5, d6] => { results := [.lit (.bool false)], args := [d1, d2, d3, d4, d5, d6] }
  | _ => none }
def GoodsCheaperWrongFalsely : Prop := goodsCheaperRow.holds Tryz.pinned (OpenSpec.ofChange goodsCheaperWrong)

/-- 'touchmarklaw01.GoodsProves': WHATEVER THE INPUT: true; the input reads as it did. -/
def goodsProvesSpec : ChangeSpec := { name := "goodsProves", fn := fun _ => fun
  | [d1, d2, d3, d4, d5, d6, d7, d8] => { results := [.lit (.bool true)], args := [d1, d2, d3, d4, d5, d6, d7, d8] }
  | _ => none }
def goodsProvesRow : OpenClaim := { program := "ytebpcmdnecenlaagreat", sum := "3ef554731b8c48af6526b81d527844cb459251f56c5d610b1799c5fa54a915df", func := "touchmark/touchmarklaw01.GoodsProves", spec := "goodsProves", inPlace := ["(*sync.WaitGroup).Add", "internal/race.ReleaseMerge", "internal/race.Disable", "internal/race.Enable", "internal/synctest.IsInBubble", "internal/synctest.Associate[sync.WaitGroup]", "sync.fatal", "sync/atomic.OrUint64", "sync/atomic.AddUint64", "internal/race.Read", "sync/atomic.LoadUint64", "sync/atomic.StoreUint64", "internal/synctest.Disassociate[sync.WaitGroup]", "sync.runtime_Semrelease", "(*sync.WaitGroup).Done", "(*sync.WaitGroup).Wait", "internal/race.Acquire", "internal/synctest.IsAssociated[sync.WaitGroup]", "sync/atomic.CompareAndSwapUint64", "internal/race.Write", "sync.runtime_SemacquireWaitGroup"], unfollowed := true, recurses := true, plainKeys := false, leaving := true, apart := false }
def GoodsProvesSaid : Prop := goodsProvesRow.holds Tryz.pinned (OpenSpec.ofChange goodsProvesSpec)

/-- ITS FALSE NEIGHBOUR: 'it returns false'. Refute it at one input. -/
def goodsProvesWrong : ChangeSpec := { name := "goodsProves", fn := fun _ => fun
  | [d1, d2, d3, d4, d5, d6, d7, d8] => { results := [.lit (.bool false)], args := [d1, d2, d3, d4, d5, d6, d7, d8] }
  | _ => none }
def GoodsProvesWrongFalsely : Prop := goodsProvesRow.holds Tryz.pinned (OpenSpec.ofChange goodsProvesWrong)

/-- 'touchmarklaw01.GoodsAgreed': WHATEVER THE INPUT: true; the input reads as it did. -/
def goodsAgreedSpec : ChangeSpec := { name := "goodsAgreed", fn := fun _ => fun
  | [d1, d2, d3, d4, d5] => { results := [.lit (.bool true)], args := [d1, d2, d3, d4, d5] }
  | _ => none }
def goodsAgreedRow : OpenClaim := { program := "ytebpcmdnecenlaagreat", sum := "3ef554731b8c48af6526b81d527844cb459251f56c5d610b1799c5fa54a915df", func := "touchmark/touchmarklaw01.GoodsAgreed", spec := "goodsAgreed", inPlace := ["(*sync.WaitGroup).Add", "internal/race.ReleaseMerge", "internal/race.Disable", "internal/race.Enable", "internal/synctest.IsInBubble", "internal/synctest.Associate[sync.WaitGroup]", "sync.fatal", "sync/atomic.OrUint64", "sync/atomic.AddUint64", "internal/race.Read", "sync/atomic.LoadUint64", "sync/atomic.StoreUint64", "internal/synctest.Disassociate[sync.WaitGroup]", "sync.runtime_Semrelease", "(*sync.WaitGroup).Done", "(*sync.WaitGroup).Wait", "internal/race.Acquire", "internal/synctest.IsAssociated[sync.WaitGroup]", "sync/atomic.CompareAndSwapUint64", "internal/race.Write", "sync.runtime_SemacquireWaitGroup"], unfollowed := true, recurses := true, plainKeys := false, leaving := true, apart := false }
def GoodsAgreedSaid : Prop := goodsAgreedRow.holds Tryz.pinned (OpenSpec.ofChange goodsAgreedSpec)

/-- ITS FALSE NEIGHBOUR: 'it returns false'. Refute it at one input. -/
def goodsAgreedWrong : ChangeSpec := { name := "goodsAgreed", fn := fun _ => fun
  | [d1, d2, d3, d4, d5] => { results := [.lit (.bool false)], args := [d1, d2, d3, d4, d5] }
  | _ => none }
def GoodsAgreedWrongFalsely : Prop := goodsAgreedRow.holds Tryz.pinned (OpenSpec.ofChange goodsAgreedWrong)

/-- 'touchmarklaw01.GoodsProof': WHATEVER THE INPUT: true; the input reads as it did. -/
def goodsProofSpec : ChangeSpec := { name := "goodsProof", fn := fun _ => fun
  | [d1, d2, d3, d4, d5, d6, d7, d8] => { results := [.lit (.bool true)], args := [d1, d2, d3, d4, d5, d6, d7, d8] }
  | _ => none }
def goodsProofRow : OpenClaim := { program := "ytebpcmdnecenlaagreat", sum := "3ef554731b8c48af6526b81d527844cb459251f56c5d610b1799c5fa54a915df", func := "touchmark/touchmarklaw01.GoodsProof", spec := "goodsProof", inPlace := ["(*sync.WaitGroup).Add", "internal/race.ReleaseMerge", "internal/race.Disable", "internal/race.Enable", "internal/synctest.IsInBubble", "internal/synctest.Associate[sync.WaitGroup]", "sync.fatal", "sync/atomic.OrUint64", "sync/atomic.AddUint64", "internal/race.Read", "sync/atomic.LoadUint64", "sync/atomic.StoreUint64", "internal/synctest.Disassociate[sync.WaitGroup]", "sync.runtime_Semrelease", "(*sync.WaitGroup).Done", "(*sync.WaitGroup).Wait", "internal/race.Acquire", "internal/synctest.IsAssociated[sync.WaitGroup]", "sync/atomic.CompareAndSwapUint64", "internal/race.Write", "sync.runtime_SemacquireWaitGroup"], unfollowed := true, recurses := true, plainKeys := false, leaving := true, apart := false }
def GoodsProofSaid : Prop := goodsProofRow.holds Tryz.pinned (OpenSpec.ofChange goodsProofSpec)

/-- ITS FALSE NEIGHBOUR: 'it returns false'. Refute it at one input. -/
def goodsProofWrong : ChangeSpec := { name := "goodsProof", fn := fun _ => fun
  | [d1, d2, d3, d4, d5, d6, d7, d8] => { results := [.lit (.bool false)], args := [d1, d2, d3, d4, d5, d6, d7, d8] }
  | _ => none }
def GoodsProofWrongFalsely : Prop := goodsProofRow.holds Tryz.pinned (OpenSpec.ofChange goodsProofWrong)

/- THE SECOND FORM. 'bulk': how many values and letters a reading holds, each counted each time it is reached (what is shared counts as often as it is met; a slice's spare places count too). A statement '..UptoSaid' is the law's where the arguments, and the package variables that the reading takes, are together of bulk at most 1048576: NARROWER than '..Said'. Prove '..Said' where nothing that the law and all that it calls make is longer than what came in: it says more and counts as full. Else prove '..UptoSaid'. A law counts once. -/
mutual
def uptoBulk {H : Type} : DataW H → Nat
  | .lit (.string bytes) => bytes.length + 1
  | .lit _ => 1
  | .nil => 1
  | .ptr d => uptoBulk d + 1
  | .slice elems spare => uptoBulkAll elems + uptoBulkAll spare + 1
  | .agg parts => uptoBulkAll parts + 1
  | .iface _ d => uptoBulk d + 1
  | .map entries => uptoBulkEntries entries + 1
  | .held _ => 1
def uptoBulkAll {H : Type} : List (DataW H) → Nat
  | [] => 0
  | d :: r => uptoBulk d + uptoBulkAll r
def uptoBulkEntries {H : Type} : List (Lit × DataW H) → Nat
  | [] => 0
  | x :: r => uptoBulkEntry x + uptoBulkEntries r
def uptoBulkEntry {H : Type} : Lit × DataW H → Nat
  | (.string bytes, d) => bytes.length + uptoBulk d + 1
  | (_, d) => uptoBulk d + 1
 end
def uptoSmall : (H : Type) → List (DataW H) → Bool := fun _ ds => decide (uptoBulkAll ds ≤ 1048576)
def OpenSpec.upto (s : _root_.Go.ChangeSpec) : _root_.Go.OpenSpec := { _root_.Go.OpenSpec.ofChange s with cond := some uptoSmall }

/-- 'touchmarklaw01.GoodsTables', WHERE WHAT IT READS IS OF BULK AT MOST 1048576: true; the input reads as it did. -/
def goodsTablesUptoRow : OpenClaim := { program := "ytebpcmdnecenlaagreat", sum := "3ef554731b8c48af6526b81d527844cb459251f56c5d610b1799c5fa54a915df", func := "touchmark/touchmarklaw01.GoodsTables", spec := "goodsTables", inPlace := ["(*sync.WaitGroup).Add", "internal/race.ReleaseMerge", "internal/race.Disable", "internal/race.Enable", "internal/synctest.IsInBubble", "internal/synctest.Associate[sync.WaitGroup]", "sync.fatal", "sync/atomic.OrUint64", "sync/atomic.AddUint64", "internal/race.Read", "sync/atomic.LoadUint64", "sync/atomic.StoreUint64", "internal/synctest.Disassociate[sync.WaitGroup]", "sync.runtime_Semrelease", "(*sync.WaitGroup).Done", "(*sync.WaitGroup).Wait", "internal/race.Acquire", "internal/synctest.IsAssociated[sync.WaitGroup]", "sync/atomic.CompareAndSwapUint64", "internal/race.Write", "sync.runtime_SemacquireWaitGroup"], unfollowed := true, recurses := true, plainKeys := false, leaving := true, apart := false, narrowed := true }
def GoodsTablesUptoSaid : Prop := goodsTablesUptoRow.holds Tryz.pinned (OpenSpec.upto goodsTablesSpec)

/-- 'touchmarklaw01.GoodsMoves', WHERE WHAT IT READS IS OF BULK AT MOST 1048576: true; the input reads as it did. -/
def goodsMovesUptoRow : OpenClaim := { program := "ytebpcmdnecenlaagreat", sum := "3ef554731b8c48af6526b81d527844cb459251f56c5d610b1799c5fa54a915df", func := "touchmark/touchmarklaw01.GoodsMoves", spec := "goodsMoves", inPlace := ["(*sync.WaitGroup).Add", "internal/race.ReleaseMerge", "internal/race.Disable", "internal/race.Enable", "internal/synctest.IsInBubble", "internal/synctest.Associate[sync.WaitGroup]", "sync.fatal", "sync/atomic.OrUint64", "sync/atomic.AddUint64", "internal/race.Read", "sync/atomic.LoadUint64", "sync/atomic.StoreUint64", "internal/synctest.Disassociate[sync.WaitGroup]", "sync.runtime_Semrelease", "(*sync.WaitGroup).Done", "(*sync.WaitGroup).Wait", "internal/race.Acquire", "internal/synctest.IsAssociated[sync.WaitGroup]", "sync/atomic.CompareAndSwapUint64", "internal/race.Write", "sync.runtime_SemacquireWaitGroup"], unfollowed := true, recurses := true, plainKeys := false, leaving := true, apart := false, narrowed := true }
def GoodsMovesUptoSaid : Prop := goodsMovesUptoRow.holds Tryz.pinned (OpenSpec.upto goodsMovesSpec)

/-- 'touchmarklaw01.GoodsCuts', WHERE WHAT IT READS IS OF BULK AT MOST 1048576: true; the input reads as it did. -/
def goodsCutsUptoRow : OpenClaim := { program := "ytebpcmdnecenlaagreat", sum := "3ef554731b8c48af6526b81d527844cb459251f56c5d610b1799c5fa54a915df", func := "touchmark/touchmarklaw01.GoodsCuts", spec := "goodsCuts", inPlace := ["(*sync.WaitGroup).Add", "internal/race.ReleaseMerge", "internal/race.Disable", "internal/race.Enable", "internal/synctest.IsInBubble", "internal/synctest.Associate[sync.WaitGroup]", "sync.fatal", "sync/atomic.OrUint64", "sync/atomic.AddUint64", "internal/race.Read", "sync/atomic.LoadUint64", "sync/atomic.StoreUint64", "internal/synctest.Disassociate[sync.WaitGroup]", "sync.runtime_Semrelease", "(*sync.WaitGroup).Done", "(*sync.WaitGroup).Wait", "internal/race.Acquire", "internal/synctest.IsAssociated[sync.WaitGroup]", "sync/atomic.CompareAndSwapUint64", "internal/race.Write", "sync.runtime_SemacquireWaitGroup"], unfollowed := true, recurses := true, plainKeys := false, leaving := true, apart := false, narrowed := true }
def GoodsCutsUptoSaid : Prop := goodsCutsUptoRow.holds Tryz.pinned (OpenSpec.upto goodsCutsSpec)

/-- 'touchmarklaw01.GoodsKins', WHERE WHAT IT READS IS OF BULK AT MOST 1048576: true; the input reads as it did. -/
def goodsKinsUptoRow : OpenClaim := { program := "ytebpcmdnecenlaagreat", sum := "3ef554731b8c48af6526b81d527844cb459251f56c5d610b1799c5fa54a915df", func := "touchmark/touchmarklaw01.GoodsKins", spec := "goodsKins", inPlace := ["(*sync.WaitGroup).Add", "internal/race.ReleaseMerge", "internal/race.Disable", "internal/race.Enable", "internal/synctest.IsInBubble", "internal/synctest.Associate[sync.WaitGroup]", "sync.fatal", "sync/atomic.OrUint64", "sync/atomic.AddUint64", "internal/race.Read", "sync/atomic.LoadUint64", "sync/atomic.StoreUint64", "internal/synctest.Disassociate[sync.WaitGroup]", "sync.runtime_Semrelease", "(*sync.WaitGroup).Done", "(*sync.WaitGroup).Wait", "internal/race.Acquire", "internal/synctest.IsAssociated[sync.WaitGroup]", "sync/atomic.CompareAndSwapUint64", "internal/race.Write", "sync.runtime_SemacquireWaitGroup"], unfollowed := true, recurses := true, plainKeys := false, leaving := true, apart := false, narrowed := true }
def GoodsKinsUptoSaid : Prop := goodsKinsUptoRow.holds Tryz.pinned (OpenSpec.upto goodsKinsSpec)

/-- 'touchmarklaw01.GoodsAgrees', WHERE WHAT IT READS IS OF BULK AT MOST 1048576: true; the input reads as it did. -/
def goodsAgreesUptoRow : OpenClaim := { program := "ytebpcmdnecenlaagreat", sum := "3ef554731b8c48af6526b81d527844cb459251f56c5d610b1799c5fa54a915df", func := "touchmark/touchmarklaw01.GoodsAgrees", spec := "goodsAgrees", inPlace := ["(*sync.WaitGroup).Add", "internal/race.ReleaseMerge", "internal/race.Disable", "internal/race.Enable", "internal/synctest.IsInBubble", "internal/synctest.Associate[sync.WaitGroup]", "sync.fatal", "sync/atomic.OrUint64", "sync/atomic.AddUint64", "internal/race.Read", "sync/atomic.LoadUint64", "sync/atomic.StoreUint64", "internal/synctest.Disassociate[sync.WaitGroup]", "sync.runtime_Semrelease", "(*sync.WaitGroup).Done", "(*sync.WaitGroup).Wait", "internal/race.Acquire", "internal/synctest.IsAssociated[sync.WaitGroup]", "sync/atomic.CompareAndSwapUint64", "internal/race.Write", "sync.runtime_SemacquireWaitGroup"], unfollowed := true, recurses := true, plainKeys := false, leaving := true, apart := false, narrowed := true }
def GoodsAgreesUptoSaid : Prop := goodsAgreesUptoRow.holds Tryz.pinned (OpenSpec.upto goodsAgreesSpec)

/-- 'touchmarklaw01.GoodsThereBack', WHERE WHAT IT READS IS OF BULK AT MOST 1048576: true; the input reads as it did. -/
def goodsThereBackUptoRow : OpenClaim := { program := "ytebpcmdnecenlaagreat", sum := "3ef554731b8c48af6526b81d527844cb459251f56c5d610b1799c5fa54a915df", func := "touchmark/touchmarklaw01.GoodsThereBack", spec := "goodsThereBack", inPlace := ["(*sync.WaitGroup).Add", "internal/race.ReleaseMerge", "internal/race.Disable", "internal/race.Enable", "internal/synctest.IsInBubble", "internal/synctest.Associate[sync.WaitGroup]", "sync.fatal", "sync/atomic.OrUint64", "sync/atomic.AddUint64", "internal/race.Read", "sync/atomic.LoadUint64", "sync/atomic.StoreUint64", "internal/synctest.Disassociate[sync.WaitGroup]", "sync.runtime_Semrelease", "(*sync.WaitGroup).Done", "(*sync.WaitGroup).Wait", "internal/race.Acquire", "internal/synctest.IsAssociated[sync.WaitGroup]", "sync/atomic.CompareAndSwapUint64", "internal/race.Write", "sync.runtime_SemacquireWaitGroup"], unfollowed := true, recurses := true, plainKeys := false, leaving := true, apart := false, narrowed := true }
def GoodsThereBackUptoSaid : Prop := goodsThereBackUptoRow.holds Tryz.pinned (OpenSpec.upto goodsThereBackSpec)

/-- 'touchmarklaw01.GoodsLonger', WHERE WHAT IT READS IS OF BULK AT MOST 1048576: true; the input reads as it did. -/
def goodsLongerUptoRow : OpenClaim := { program := "ytebpcmdnecenlaagreat", sum := "3ef554731b8c48af6526b81d527844cb459251f56c5d610b1799c5fa54a915df", func := "touchmark/touchmarklaw01.GoodsLonger", spec := "goodsLonger", inPlace := ["(*sync.WaitGroup).Add", "internal/race.ReleaseMerge", "internal/race.Disable", "internal/race.Enable", "internal/synctest.IsInBubble", "internal/synctest.Associate[sync.WaitGroup]", "sync.fatal", "sync/atomic.OrUint64", "sync/atomic.AddUint64", "internal/race.Read", "sync/atomic.LoadUint64", "sync/atomic.StoreUint64", "internal/synctest.Disassociate[sync.WaitGroup]", "sync.runtime_Semrelease", "(*sync.WaitGroup).Done", "(*sync.WaitGroup).Wait", "internal/race.Acquire", "internal/synctest.IsAssociated[sync.WaitGroup]", "sync/atomic.CompareAndSwapUint64", "internal/race.Write", "sync.runtime_SemacquireWaitGroup"], unfollowed := true, recurses := true, plainKeys := false, leaving := true, apart := false, narrowed := true }
def GoodsLongerUptoSaid : Prop := goodsLongerUptoRow.holds Tryz.pinned (OpenSpec.upto goodsLongerSpec)

/-- 'touchmarklaw01.GoodsTogether', WHERE WHAT IT READS IS OF BULK AT MOST 1048576: true; the input reads as it did. -/
def goodsTogetherUptoRow : OpenClaim := { program := "ytebpcmdnecenlaagreat", sum := "3ef554731b8c48af6526b81d527844cb459251f56c5d610b1799c5fa54a915df", func := "touchmark/touchmarklaw01.GoodsTogether", spec := "goodsTogether", inPlace := ["(*sync.WaitGroup).Add", "internal/race.ReleaseMerge", "internal/race.Disable", "internal/race.Enable", "internal/synctest.IsInBubble", "internal/synctest.Associate[sync.WaitGroup]", "sync.fatal", "sync/atomic.OrUint64", "sync/atomic.AddUint64", "internal/race.Read", "sync/atomic.LoadUint64", "sync/atomic.StoreUint64", "internal/synctest.Disassociate[sync.WaitGroup]", "sync.runtime_Semrelease", "(*sync.WaitGroup).Done", "(*sync.WaitGroup).Wait", "internal/race.Acquire", "internal/synctest.IsAssociated[sync.WaitGroup]", "sync/atomic.CompareAndSwapUint64", "internal/race.Write", "sync.runtime_SemacquireWaitGroup"], unfollowed := true, recurses := true, plainKeys := false, leaving := true, apart := false, narrowed := true }
def GoodsTogetherUptoSaid : Prop := goodsTogetherUptoRow.holds Tryz.pinned (OpenSpec.upto goodsTogetherSpec)

/-- 'touchmarklaw01.GoodsSteps', WHERE WHAT IT READS IS OF BULK AT MOST 1048576: true; the input reads as it did. -/
def goodsStepsUptoRow : OpenClaim := { program := "ytebpcmdnecenlaagreat", sum := "3ef554731b8c48af6526b81d527844cb459251f56c5d610b1799c5fa54a915df", func := "touchmark/touchmarklaw01.GoodsSteps", spec := "goodsSteps", inPlace := ["(*sync.WaitGroup).Add", "internal/race.ReleaseMerge", "internal/race.Disable", "internal/race.Enable", "internal/synctest.IsInBubble", "internal/synctest.Associate[sync.WaitGroup]", "sync.fatal", "sync/atomic.OrUint64", "sync/atomic.AddUint64", "internal/race.Read", "sync/atomic.LoadUint64", "sync/atomic.StoreUint64", "internal/synctest.Disassociate[sync.WaitGroup]", "sync.runtime_Semrelease", "(*sync.WaitGroup).Done", "(*sync.WaitGroup).Wait", "internal/race.Acquire", "internal/synctest.IsAssociated[sync.WaitGroup]", "sync/atomic.CompareAndSwapUint64", "internal/race.Write", "sync.runtime_SemacquireWaitGroup"], unfollowed := true, recurses := true, plainKeys := false, leaving := true, apart := false, narrowed := true }
def GoodsStepsUptoSaid : Prop := goodsStepsUptoRow.holds Tryz.pinned (OpenSpec.upto goodsStepsSpec)

/-- 'touchmarklaw01.GoodsShrink', WHERE WHAT IT READS IS OF BULK AT MOST 1048576: true; the input reads as it did. -/
def goodsShrinkUptoRow : OpenClaim := { program := "ytebpcmdnecenlaagreat", sum := "3ef554731b8c48af6526b81d527844cb459251f56c5d610b1799c5fa54a915df", func := "touchmark/touchmarklaw01.GoodsShrink", spec := "goodsShrink", inPlace := ["(*sync.WaitGroup).Add", "internal/race.ReleaseMerge", "internal/race.Disable", "internal/race.Enable", "internal/synctest.IsInBubble", "internal/synctest.Associate[sync.WaitGroup]", "sync.fatal", "sync/atomic.OrUint64", "sync/atomic.AddUint64", "internal/race.Read", "sync/atomic.LoadUint64", "sync/atomic.StoreUint64", "internal/synctest.Disassociate[sync.WaitGroup]", "sync.runtime_Semrelease", "(*sync.WaitGroup).Done", "(*sync.WaitGroup).Wait", "internal/race.Acquire", "internal/synctest.IsAssociated[sync.WaitGroup]", "sync/atomic.CompareAndSwapUint64", "internal/race.Write", "sync.runtime_SemacquireWaitGroup"], unfollowed := true, recurses := true, plainKeys := false, leaving := true, apart := false, narrowed := true }
def GoodsShrinkUptoSaid : Prop := goodsShrinkUptoRow.holds Tryz.pinned (OpenSpec.upto goodsShrinkSpec)

/-- 'touchmarklaw01.GoodsOrder', WHERE WHAT IT READS IS OF BULK AT MOST 1048576: true; the input reads as it did. -/
def goodsOrderUptoRow : OpenClaim := { program := "ytebpcmdnecenlaagreat", sum := "3ef554731b8c48af6526b81d527844cb459251f56c5d610b1799c5fa54a915df", func := "touchmark/touchmarklaw01.GoodsOrder", spec := "goodsOrder", inPlace := ["(*sync.WaitGroup).Add", "internal/race.ReleaseMerge", "internal/race.Disable", "internal/race.Enable", "internal/synctest.IsInBubble", "internal/synctest.Associate[sync.WaitGroup]", "sync.fatal", "sync/atomic.OrUint64", "sync/atomic.AddUint64", "internal/race.Read", "sync/atomic.LoadUint64", "sync/atomic.StoreUint64", "internal/synctest.Disassociate[sync.WaitGroup]", "sync.runtime_Semrelease", "(*sync.WaitGroup).Done", "(*sync.WaitGroup).Wait", "internal/race.Acquire", "internal/synctest.IsAssociated[sync.WaitGroup]", "sync/atomic.CompareAndSwapUint64", "internal/race.Write", "sync.runtime_SemacquireWaitGroup"], unfollowed := true, recurses := true, plainKeys := false, leaving := true, apart := false, narrowed := true }
def GoodsOrderUptoSaid : Prop := goodsOrderUptoRow.holds Tryz.pinned (OpenSpec.upto goodsOrderSpec)

/-- 'touchmarklaw01.GoodsGrows', WHERE WHAT IT READS IS OF BULK AT MOST 1048576: true; the input reads as it did. -/
def goodsGrowsUptoRow : OpenClaim := { program := "ytebpcmdnecenlaagreat", sum := "3ef554731b8c48af6526b81d527844cb459251f56c5d610b1799c5fa54a915df", func := "touchmark/touchmarklaw01.GoodsGrows", spec := "goodsGrows", inPlace := ["(*sync.WaitGroup).Add", "internal/race.ReleaseMerge", "internal/race.Disable", "internal/race.Enable", "internal/synctest.IsInBubble", "internal/synctest.Associate[sync.WaitGroup]", "sync.fatal", "sync/atomic.OrUint64", "sync/atomic.AddUint64", "internal/race.Read", "sync/atomic.LoadUint64", "sync/atomic.StoreUint64", "internal/synctest.Disassociate[sync.WaitGroup]", "sync.runtime_Semrelease", "(*sync.WaitGroup).Done", "(*sync.WaitGroup).Wait", "internal/race.Acquire", "internal/synctest.IsAssociated[sync.WaitGroup]", "sync/atomic.CompareAndSwapUint64", "internal/race.Write", "sync.runtime_SemacquireWaitGroup"], unfollowed := true, recurses := true, plainKeys := false, leaving := true, apart := false, narrowed := true }
def GoodsGrowsUptoSaid : Prop := goodsGrowsUptoRow.holds Tryz.pinned (OpenSpec.upto goodsGrowsSpec)

/-- 'touchmarklaw01.GoodsClasses', WHERE WHAT IT READS IS OF BULK AT MOST 1048576: true; the input reads as it did. -/
def goodsClassesUptoRow : OpenClaim := { program := "ytebpcmdnecenlaagreat", sum := "3ef554731b8c48af6526b81d527844cb459251f56c5d610b1799c5fa54a915df", func := "touchmark/touchmarklaw01.GoodsClasses", spec := "goodsClasses", inPlace := ["(*sync.WaitGroup).Add", "internal/race.ReleaseMerge", "internal/race.Disable", "internal/race.Enable", "internal/synctest.IsInBubble", "internal/synctest.Associate[sync.WaitGroup]", "sync.fatal", "sync/atomic.OrUint64", "sync/atomic.AddUint64", "internal/race.Read", "sync/atomic.LoadUint64", "sync/atomic.StoreUint64", "internal/synctest.Disassociate[sync.WaitGroup]", "sync.runtime_Semrelease", "(*sync.WaitGroup).Done", "(*sync.WaitGroup).Wait", "internal/race.Acquire", "internal/synctest.IsAssociated[sync.WaitGroup]", "sync/atomic.CompareAndSwapUint64", "internal/race.Write", "sync.runtime_SemacquireWaitGroup"], unfollowed := true, recurses := true, plainKeys := false, leaving := true, apart := false, narrowed := true }
def GoodsClassesUptoSaid : Prop := goodsClassesUptoRow.holds Tryz.pinned (OpenSpec.upto goodsClassesSpec)

/-- 'touchmarklaw01.GoodsMutual', WHERE WHAT IT READS IS OF BULK AT MOST 1048576: true; the input reads as it did. -/
def goodsMutualUptoRow : OpenClaim := { program := "ytebpcmdnecenlaagreat", sum := "3ef554731b8c48af6526b81d527844cb459251f56c5d610b1799c5fa54a915df", func := "touchmark/touchmarklaw01.GoodsMutual", spec := "goodsMutual", inPlace := ["(*sync.WaitGroup).Add", "internal/race.ReleaseMerge", "internal/race.Disable", "internal/race.Enable", "internal/synctest.IsInBubble", "internal/synctest.Associate[sync.WaitGroup]", "sync.fatal", "sync/atomic.OrUint64", "sync/atomic.AddUint64", "internal/race.Read", "sync/atomic.LoadUint64", "sync/atomic.StoreUint64", "internal/synctest.Disassociate[sync.WaitGroup]", "sync.runtime_Semrelease", "(*sync.WaitGroup).Done", "(*sync.WaitGroup).Wait", "internal/race.Acquire", "internal/synctest.IsAssociated[sync.WaitGroup]", "sync/atomic.CompareAndSwapUint64", "internal/race.Write", "sync.runtime_SemacquireWaitGroup"], unfollowed := true, recurses := true, plainKeys := false, leaving := true, apart := false, narrowed := true }
def GoodsMutualUptoSaid : Prop := goodsMutualUptoRow.holds Tryz.pinned (OpenSpec.upto goodsMutualSpec)

/-- 'touchmarklaw01.GoodsCloser', WHERE WHAT IT READS IS OF BULK AT MOST 1048576: true; the input reads as it did. -/
def goodsCloserUptoRow : OpenClaim := { program := "ytebpcmdnecenlaagreat", sum := "3ef554731b8c48af6526b81d527844cb459251f56c5d610b1799c5fa54a915df", func := "touchmark/touchmarklaw01.GoodsCloser", spec := "goodsCloser", inPlace := ["(*sync.WaitGroup).Add", "internal/race.ReleaseMerge", "internal/race.Disable", "internal/race.Enable", "internal/synctest.IsInBubble", "internal/synctest.Associate[sync.WaitGroup]", "sync.fatal", "sync/atomic.OrUint64", "sync/atomic.AddUint64", "internal/race.Read", "sync/atomic.LoadUint64", "sync/atomic.StoreUint64", "internal/synctest.Disassociate[sync.WaitGroup]", "sync.runtime_Semrelease", "(*sync.WaitGroup).Done", "(*sync.WaitGroup).Wait", "internal/race.Acquire", "internal/synctest.IsAssociated[sync.WaitGroup]", "sync/atomic.CompareAndSwapUint64", "internal/race.Write", "sync.runtime_SemacquireWaitGroup"], unfollowed := true, recurses := true, plainKeys := false, leaving := true, apart := false, narrowed := true }
def GoodsCloserUptoSaid : Prop := goodsCloserUptoRow.holds Tryz.pinned (OpenSpec.upto goodsCloserSpec)

/-- 'touchmarklaw01.GoodsPairs', WHERE WHAT IT READS IS OF BULK AT MOST 1048576: true; the input reads as it did. -/
def goodsPairsUptoRow : OpenClaim := { program := "ytebpcmdnecenlaagreat", sum := "3ef554731b8c48af6526b81d527844cb459251f56c5d610b1799c5fa54a915df", func := "touchmark/touchmarklaw01.GoodsPairs", spec := "goodsPairs", inPlace := ["(*sync.WaitGroup).Add", "internal/race.ReleaseMerge", "internal/race.Disable", "internal/race.Enable", "internal/synctest.IsInBubble", "internal/synctest.Associate[sync.WaitGroup]", "sync.fatal", "sync/atomic.OrUint64", "sync/atomic.AddUint64", "internal/race.Read", "sync/atomic.LoadUint64", "sync/atomic.StoreUint64", "internal/synctest.Disassociate[sync.WaitGroup]", "sync.runtime_Semrelease", "(*sync.WaitGroup).Done", "(*sync.WaitGroup).Wait", "internal/race.Acquire", "internal/synctest.IsAssociated[sync.WaitGroup]", "sync/atomic.CompareAndSwapUint64", "internal/race.Write", "sync.runtime_SemacquireWaitGroup"], unfollowed := true, recurses := true, plainKeys := false, leaving := true, apart := false, narrowed := true }
def GoodsPairsUptoSaid : Prop := goodsPairsUptoRow.holds Tryz.pinned (OpenSpec.upto goodsPairsSpec)

/-- 'touchmarklaw01.GoodsFewest', WHERE WHAT IT READS IS OF BULK AT MOST 1048576: true; the input reads as it did. -/
def goodsFewestUptoRow : OpenClaim := { program := "ytebpcmdnecenlaagreat", sum := "3ef554731b8c48af6526b81d527844cb459251f56c5d610b1799c5fa54a915df", func := "touchmark/touchmarklaw01.GoodsFewest", spec := "goodsFewest", inPlace := ["(*sync.WaitGroup).Add", "internal/race.ReleaseMerge", "internal/race.Disable", "internal/race.Enable", "internal/synctest.IsInBubble", "internal/synctest.Associate[sync.WaitGroup]", "sync.fatal", "sync/atomic.OrUint64", "sync/atomic.AddUint64", "internal/race.Read", "sync/atomic.LoadUint64", "sync/atomic.StoreUint64", "internal/synctest.Disassociate[sync.WaitGroup]", "sync.runtime_Semrelease", "(*sync.WaitGroup).Done", "(*sync.WaitGroup).Wait", "internal/race.Acquire", "internal/synctest.IsAssociated[sync.WaitGroup]", "sync/atomic.CompareAndSwapUint64", "internal/race.Write", "sync.runtime_SemacquireWaitGroup"], unfollowed := true, recurses := true, plainKeys := false, leaving := true, apart := false, narrowed := true }
def GoodsFewestUptoSaid : Prop := goodsFewestUptoRow.holds Tryz.pinned (OpenSpec.upto goodsFewestSpec)

/-- 'touchmarklaw01.GoodsCheaper', WHERE WHAT IT READS IS OF BULK AT MOST 1048576: true; the input reads as it did. -/
def goodsCheaperUptoRow : OpenClaim := { program := "ytebpcmdnecenlaagreat", sum := "3ef554731b8c48af6526b81d527844cb459251f56c5d610b1799c5fa54a915df", func := "touchmark/touchmarklaw01.GoodsCheaper", spec := "goodsCheaper", inPlace := ["(*sync.WaitGroup).Add", "internal/race.ReleaseMerge", "internal/race.Disable", "internal/race.Enable", "internal/synctest.IsInBubble", "internal/synctest.Associate[sync.WaitGroup]", "sync.fatal", "sync/atomic.OrUint64", "sync/atomic.AddUint64", "internal/race.Read", "sync/atomic.LoadUint64", "sync/atomic.StoreUint64", "internal/synctest.Disassociate[sync.WaitGroup]", "sync.runtime_Semrelease", "(*sync.WaitGroup).Done", "(*sync.WaitGroup).Wait", "internal/race.Acquire", "internal/synctest.IsAssociated[sync.WaitGroup]", "sync/atomic.CompareAndSwapUint64", "internal/race.Write", "sync.runtime_SemacquireWaitGroup"], unfollowed := true, recurses := true, plainKeys := false, leaving := true, apart := false, narrowed := true }
def GoodsCheaperUptoSaid : Prop := goodsCheaperUptoRow.holds Tryz.pinned (OpenSpec.upto goodsCheaperSpec)

/-- 'touchmarklaw01.GoodsProves', WHERE WHAT IT READS IS OF BULK AT MOST 1048576: true; the input reads as it did. -/
def goodsProvesUptoRow : OpenClaim := { program := "ytebpcmdnecenlaagreat", sum := "3ef554731b8c48af6526b81d527844cb459251f56c5d610b1799c5fa54a915df", func := "touchmark/touchmarklaw01.GoodsProves", spec := "goodsProves", inPlace := ["(*sync.WaitGroup).Add", "internal/race.ReleaseMerge", "internal/race.Disable", "internal/race.Enable", "internal/synctest.IsInBubble", "internal/synctest.Associate[sync.WaitGroup]", "sync.fatal", "sync/atomic.OrUint64", "sync/atomic.AddUint64", "internal/race.Read", "sync/atomic.LoadUint64", "sync/atomic.StoreUint64", "internal/synctest.Disassociate[sync.WaitGroup]", "sync.runtime_Semrelease", "(*sync.WaitGroup).Done", "(*sync.WaitGroup).Wait", "internal/race.Acquire", "internal/synctest.IsAssociated[sync.WaitGroup]", "sync/atomic.CompareAndSwapUint64", "internal/race.Write", "sync.runtime_SemacquireWaitGroup"], unfollowed := true, recurses := true, plainKeys := false, leaving := true, apart := false, narrowed := true }
def GoodsProvesUptoSaid : Prop := goodsProvesUptoRow.holds Tryz.pinned (OpenSpec.upto goodsProvesSpec)

/-- 'touchmarklaw01.GoodsAgreed', WHERE WHAT IT READS IS OF BULK AT MOST 1048576: true; the input reads as it did. -/
def goodsAgreedUptoRow : OpenClaim := { program := "ytebpcmdnecenlaagreat", sum := "3ef554731b8c48af6526b81d527844cb459251f56c5d610b1799c5fa54a915df", func := "touchmark/touchmarklaw01.GoodsAgreed", spec := "goodsAgreed", inPlace := ["(*sync.WaitGroup).Add", "internal/race.ReleaseMerge", "internal/race.Disable", "internal/race.Enable", "internal/synctest.IsInBubble", "internal/synctest.Associate[sync.WaitGroup]", "sync.fatal", "sync/atomic.OrUint64", "sync/atomic.AddUint64", "internal/race.Read", "sync/atomic.LoadUint64", "sync/atomic.StoreUint64", "internal/synctest.Disassociate[sync.WaitGroup]", "sync.runtime_Semrelease", "(*sync.WaitGroup).Done", "(*sync.WaitGroup).Wait", "internal/race.Acquire", "internal/synctest.IsAssociated[sync.WaitGroup]", "sync/atomic.CompareAndSwapUint64", "internal/race.Write", "sync.runtime_SemacquireWaitGroup"], unfollowed := true, recurses := true, plainKeys := false, leaving := true, apart := false, narrowed := true }
def GoodsAgreedUptoSaid : Prop := goodsAgreedUptoRow.holds Tryz.pinned (OpenSpec.upto goodsAgreedSpec)

/-- 'touchmarklaw01.GoodsProof', WHERE WHAT IT READS IS OF BULK AT MOST 1048576: true; the input reads as it did. -/
def goodsProofUptoRow : OpenClaim := { program := "ytebpcmdnecenlaagreat", sum := "3ef554731b8c48af6526b81d527844cb459251f56c5d610b1799c5fa54a915df", func := "touchmark/touchmarklaw01.GoodsProof", spec := "goodsProof", inPlace := ["(*sync.WaitGroup).Add", "internal/race.ReleaseMerge", "internal/race.Disable", "internal/race.Enable", "internal/synctest.IsInBubble", "internal/synctest.Associate[sync.WaitGroup]", "sync.fatal", "sync/atomic.OrUint64", "sync/atomic.AddUint64", "internal/race.Read", "sync/atomic.LoadUint64", "sync/atomic.StoreUint64", "internal/synctest.Disassociate[sync.WaitGroup]", "sync.runtime_Semrelease", "(*sync.WaitGroup).Done", "(*sync.WaitGroup).Wait", "internal/race.Acquire", "internal/synctest.IsAssociated[sync.WaitGroup]", "sync/atomic.CompareAndSwapUint64", "internal/race.Write", "sync.runtime_SemacquireWaitGroup"], unfollowed := true, recurses := true, plainKeys := false, leaving := true, apart := false, narrowed := true }
def GoodsProofUptoSaid : Prop := goodsProofUptoRow.holds Tryz.pinned (OpenSpec.upto goodsProofSpec)

end Rows
end Go.Proofs.YtebpcmdnecenlaaGreat
