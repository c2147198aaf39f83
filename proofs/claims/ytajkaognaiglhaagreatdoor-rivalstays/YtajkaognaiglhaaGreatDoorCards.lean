/-
  DERIVED. GIVEN WITH THE SEED: THE CARDS: each row of YtajkaognaiglhaaGreatDoorRows.lean that lists a variable, with what it lists TIED to the program's text (the seventh form; the later family's looks); each row that meets fmt, with fmt's text TOLD by the authors' own Lean function (tested against real Go, not proved from fmt's source: count such statements apart). THE CARD IS WHAT COUNTS. Prove the row's statement (the work); the ties are given (YtajkaognaiglhaaGreatDoorTie.lean); close each card by the builder's one call (the guide's Derived/Test/ToyasCard.lean, 'card_holds'). Laid BY PROGRAM, IN A SANDBOX (cutbox-door.mjs). By AI agents, Wed Nov 11 2026. No macro, syntax, notation, axiom, sorry.
-/
import Derived.Test.YtajkaognaiglhaaGreatDoorRows
import GoSem.ClaimSeven
namespace Go.Proofs.YtajkaognaiglhaaGreatDoor
namespace Rows

/-- THE TIED CARD OF 'touchmarklaw04.RivalStays'. -/
def rivalStaysCard : Claim7 := { stood := { row := rivalStaysRow, standIns := [], harness := (true, "76433441f829be6d863b30a6252ee84e16d6e6f53450c9c92ca8f3c5549eee53"), looks := false }, kinds := [], alts := [], goes := true, laidByText := true, laidKinds := [.funcs], laidTests := true, laidLooks := .later }
def RivalStaysCardSaid : Prop := Claim7.holds Tryz.pinned (.plain (OpenSpec.ofChange rivalStaysSpec)) rivalStaysCard

/-- THE TIED CARD OF 'touchmarklaw04.RivalHolds'. -/
def rivalHoldsCard : Claim7 := { stood := { row := rivalHoldsRow, standIns := [], harness := (true, "76433441f829be6d863b30a6252ee84e16d6e6f53450c9c92ca8f3c5549eee53"), looks := false }, kinds := [], alts := [], goes := true, laidByText := true, laidKinds := [.funcs], laidTests := true, laidLooks := .later }
def RivalHoldsCardSaid : Prop := Claim7.holds Tryz.pinned (.plain (OpenSpec.ofChange rivalHoldsSpec)) rivalHoldsCard
end Rows
end Go.Proofs.YtajkaognaiglhaaGreatDoor
