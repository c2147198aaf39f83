/-
  DERIVED. GIVEN WITH THE SEED: THE CARDS: each row of YtnjljnhoaafkiaaGreatDoorRows.lean that lists a variable, with what it lists TIED to the program's text (the seventh form; the later family's looks); each row that meets fmt, with fmt's text TOLD by the authors' own Lean function (tested against real Go, not proved from fmt's source: count such statements apart). THE CARD IS WHAT COUNTS. Prove the row's statement (the work); the ties are given (YtnjljnhoaafkiaaGreatDoorTie.lean); close each card by the builder's one call (the guide's Derived/Test/ToyasCard.lean, 'card_holds'). Laid BY PROGRAM, IN A SANDBOX (cutbox-door.mjs). By AI agents, Wed Nov 11 2026. No macro, syntax, notation, axiom, sorry.
-/
import Derived.Test.YtnjljnhoaafkiaaGreatDoorRows
import GoSem.ClaimSeven
namespace Go.Proofs.YtnjljnhoaafkiaaGreatDoor
namespace Rows

/-- THE TIED CARD OF 'touchmarklaw04.RivalItems'. -/
def rivalItemsCard : Claim7 := { stood := { row := rivalItemsRow, standIns := [], harness := (true, "d6efb37b39f05be48a751ce7beb1e56c658b245522e0fb1db98562bbb72c1793"), looks := false }, kinds := [], alts := [], goes := true, laidByText := true, laidKinds := [.funcs], laidTests := true, laidLooks := .later }
def RivalItemsCardSaid : Prop := Claim7.holds Tryz.pinned (.plain (OpenSpec.ofChange rivalItemsSpec)) rivalItemsCard

/-- THE TIED CARD OF 'touchmarklaw04.RivalAgreed'. -/
def rivalAgreedCard : Claim7 := { stood := { row := rivalAgreedRow, standIns := [], harness := (true, "d6efb37b39f05be48a751ce7beb1e56c658b245522e0fb1db98562bbb72c1793"), looks := false }, kinds := [], alts := [], goes := true, laidByText := true, laidKinds := [.funcs], laidTests := true, laidLooks := .later }
def RivalAgreedCardSaid : Prop := Claim7.holds Tryz.pinned (.plain (OpenSpec.ofChange rivalAgreedSpec)) rivalAgreedCard
end Rows
end Go.Proofs.YtnjljnhoaafkiaaGreatDoor



