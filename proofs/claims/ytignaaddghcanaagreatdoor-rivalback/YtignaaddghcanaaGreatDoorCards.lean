/-
  DERIVED. GIVEN WITH THE SEED: THE CARDS: each row of YtignaaddghcanaaGreatDoorRows.lean that lists a variable, with what it lists TIED to the program's text (the seventh form; the later family's looks); each row that meets fmt, with fmt's text TOLD by the authors' own Lean function (tested against real Go, not proved from fmt's source: count such statements apart). THE CARD IS WHAT COUNTS. Prove the row's statement (the work); the ties are given (YtignaaddghcanaaGreatDoorTie.lean); close each card by the builder's one call (the guide's Derived/Test/ToyasCard.lean, 'card_holds'). Laid BY PROGRAM, IN A SANDBOX (cutbox-door.mjs). By AI agents, Wed Nov 11 2026. No macro, syntax, notation, axiom, sorry.
-/
import Derived.Test.YtignaaddghcanaaGreatDoorRows
import GoSem.ClaimSeven
namespace Go.Proofs.YtignaaddghcanaaGreatDoor
namespace Rows

/-- THE TIED CARD OF 'touchmarklaw04.RivalTexts'. -/
def rivalTextsCard : Claim7 := { stood := { row := rivalTextsRow, standIns := [], harness := (true, "c3d499a9b28f31848feaad5e0446a69e4b797f668f6b53c019351d28f1fb0997"), looks := true }, kinds := [], alts := [], goes := true, laidByText := true, laidKinds := [.data, .funcs, .pinned], laidTests := true, laidLooks := .later }
def RivalTextsCardSaid : Prop := Claim7.holds Tryz.pinned (.plain (OpenSpec.ofChange rivalTextsSpec)) rivalTextsCard

/-- THE TIED CARD OF 'touchmarklaw04.RivalBack'. -/
def rivalBackCard : Claim7 := { stood := { row := rivalBackRow, standIns := [], harness := (true, "c3d499a9b28f31848feaad5e0446a69e4b797f668f6b53c019351d28f1fb0997"), looks := true }, kinds := [], alts := [], goes := true, laidByText := true, laidKinds := [.data, .funcs, .pinned], laidTests := true, laidLooks := .later }
def RivalBackCardSaid : Prop := Claim7.holds Tryz.pinned (.plain (OpenSpec.ofChange rivalBackSpec)) rivalBackCard
end Rows
end Go.Proofs.YtignaaddghcanaaGreatDoor
