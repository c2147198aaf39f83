/-
  DERIVED. GIVEN WITH THE SEED: THE CARDS: each row of YtcakpkianonbkaaGreatDoorRows.lean that lists a variable, with what it lists TIED to the program's text (the seventh form; the later family's looks); each row that meets fmt, with fmt's text TOLD by the authors' own Lean function (tested against real Go, not proved from fmt's source: count such statements apart). THE CARD IS WHAT COUNTS. Prove the row's statement (the work); the ties are given (YtcakpkianonbkaaGreatDoorTie.lean); close each card by the builder's one call (the guide's Derived/Test/ToyasCard.lean, 'card_holds'). Laid BY PROGRAM, IN A SANDBOX (cutbox-door.mjs). By AI agents, Wed Nov 11 2026. No macro, syntax, notation, axiom, sorry.
-/
import Derived.Test.YtcakpkianonbkaaGreatDoorRows
import GoSem.ClaimSeven
namespace Go.Proofs.YtcakpkianonbkaaGreatDoor
namespace Rows

/-- THE TIED CARD OF 'touchmarklaw04.RivalLate'. -/
def rivalLateCard : Claim7 := { stood := { row := rivalLateRow, standIns := [], harness := (true, "343623f8dcc179b41c33c845adbfe035ddd7a55932a929884cf34c9623bfe0ec"), looks := false }, kinds := [], alts := [], goes := true, laidByText := true, laidKinds := [.data, .funcs], laidTests := true, laidLooks := .later }
def RivalLateCardSaid : Prop := Claim7.holds Tryz.pinned (.plain (OpenSpec.ofChange rivalLateSpec)) rivalLateCard

/-- THE TIED CARD OF 'touchmarklaw04.RivalDays'. -/
def rivalDaysCard : Claim7 := { stood := { row := rivalDaysRow, standIns := [], harness := (true, "343623f8dcc179b41c33c845adbfe035ddd7a55932a929884cf34c9623bfe0ec"), looks := false }, kinds := [], alts := [], goes := true, laidByText := true, laidKinds := [.data, .funcs], laidTests := true, laidLooks := .later }
def RivalDaysCardSaid : Prop := Claim7.holds Tryz.pinned (.plain (OpenSpec.ofChange rivalDaysSpec)) rivalDaysCard
end Rows
end Go.Proofs.YtcakpkianonbkaaGreatDoor
