/-
  DERIVED. GIVEN WITH THE SEED: THE CARDS: each row of YtnpfcnfhfkflhaaGreatDoorRows.lean that lists a variable, with what it lists TIED to the program's text (the seventh form; the later family's looks); each row that meets fmt, with fmt's text TOLD by the authors' own Lean function (tested against real Go, not proved from fmt's source: count such statements apart). THE CARD IS WHAT COUNTS. Prove the row's statement (the work); the ties are given (YtnpfcnfhfkflhaaGreatDoorTie.lean); close each card by the builder's one call (the guide's Derived/Test/ToyasCard.lean, 'card_holds'). Laid BY PROGRAM, IN A SANDBOX (cutbox-door.mjs). By AI agents, Wed Nov 11 2026. No macro, syntax, notation, axiom, sorry.
-/
import Derived.Test.YtnpfcnfhfkflhaaGreatDoorRows
import GoSem.ClaimSeven
namespace Go.Proofs.YtnpfcnfhfkflhaaGreatDoor
namespace Rows

/-- THE TIED CARD OF 'touchmarklaw04.RivalOrders'. -/
def rivalOrdersCard : Claim7 := { stood := { row := rivalOrdersRow, standIns := [], harness := (true, "375651d122c04421ce498e33069ddb9fbc3642b8e91d60a78b8c96a8de8d53b0"), looks := true }, kinds := [], alts := [], goes := true, laidByText := true, laidKinds := [.funcs], laidTests := true, laidLooks := .later }
def RivalOrdersCardSaid : Prop := Claim7.holds Tryz.pinned (.plain (OpenSpec.ofChange rivalOrdersSpec)) rivalOrdersCard

/-- THE TIED CARD OF 'touchmarklaw04.RivalFates'. -/
def rivalFatesCard : Claim7 := { stood := { row := rivalFatesRow, standIns := [], harness := (true, "375651d122c04421ce498e33069ddb9fbc3642b8e91d60a78b8c96a8de8d53b0"), looks := true }, kinds := [], alts := [], goes := true, laidByText := true, laidKinds := [.funcs], laidTests := true, laidLooks := .later }
def RivalFatesCardSaid : Prop := Claim7.holds Tryz.pinned (.plain (OpenSpec.ofChange rivalFatesSpec)) rivalFatesCard

/-- THE TIED CARD OF 'touchmarklaw04.RivalReal'. -/
def rivalRealCard : Claim7 := { stood := { row := rivalRealRow, standIns := [], harness := (true, "375651d122c04421ce498e33069ddb9fbc3642b8e91d60a78b8c96a8de8d53b0"), looks := true }, kinds := [], alts := [], goes := true, laidByText := true, laidKinds := [.funcs], laidTests := true, laidLooks := .later }
def RivalRealCardSaid : Prop := Claim7.holds Tryz.pinned (.plain (OpenSpec.ofChange rivalRealSpec)) rivalRealCard

/-- THE TIED CARD OF 'touchmarklaw04.RivalDiffers'. -/
def rivalDiffersCard : Claim7 := { stood := { row := rivalDiffersRow, standIns := [], harness := (true, "375651d122c04421ce498e33069ddb9fbc3642b8e91d60a78b8c96a8de8d53b0"), looks := true }, kinds := [], alts := [], goes := true, laidByText := true, laidKinds := [.funcs], laidTests := true, laidLooks := .later }
def RivalDiffersCardSaid : Prop := Claim7.holds Tryz.pinned (.plain (OpenSpec.ofChange rivalDiffersSpec)) rivalDiffersCard

/-- THE TIED CARD OF 'touchmarklaw04.RivalSwaps'. -/
def rivalSwapsCard : Claim7 := { stood := { row := rivalSwapsRow, standIns := [], harness := (true, "375651d122c04421ce498e33069ddb9fbc3642b8e91d60a78b8c96a8de8d53b0"), looks := true }, kinds := [], alts := [], goes := true, laidByText := true, laidKinds := [.funcs], laidTests := true, laidLooks := .later }
def RivalSwapsCardSaid : Prop := Claim7.holds Tryz.pinned (.plain (OpenSpec.ofChange rivalSwapsSpec)) rivalSwapsCard

/-- THE TIED CARD OF 'touchmarklaw04.RivalNames'. -/
def rivalNamesCard : Claim7 := { stood := { row := rivalNamesRow, standIns := [], harness := (true, "375651d122c04421ce498e33069ddb9fbc3642b8e91d60a78b8c96a8de8d53b0"), looks := true }, kinds := [], alts := [], goes := true, laidByText := true, laidKinds := [.funcs], laidTests := true, laidLooks := .later }
def RivalNamesCardSaid : Prop := Claim7.holds Tryz.pinned (.plain (OpenSpec.ofChange rivalNamesSpec)) rivalNamesCard

/-- THE TIED CARD OF 'touchmarklaw04.RivalFalls'. -/
def rivalFallsCard : Claim7 := { stood := { row := rivalFallsRow, standIns := [], harness := (true, "375651d122c04421ce498e33069ddb9fbc3642b8e91d60a78b8c96a8de8d53b0"), looks := true }, kinds := [], alts := [], goes := true, laidByText := true, laidKinds := [.funcs], laidTests := true, laidLooks := .later }
def RivalFallsCardSaid : Prop := Claim7.holds Tryz.pinned (.plain (OpenSpec.ofChange rivalFallsSpec)) rivalFallsCard

/-- THE TIED CARD OF 'touchmarklaw04.RivalLess'. -/
def rivalLessCard : Claim7 := { stood := { row := rivalLessRow, standIns := [], harness := (true, "375651d122c04421ce498e33069ddb9fbc3642b8e91d60a78b8c96a8de8d53b0"), looks := true }, kinds := [], alts := [], goes := true, laidByText := true, laidKinds := [.funcs], laidTests := true, laidLooks := .later }
def RivalLessCardSaid : Prop := Claim7.holds Tryz.pinned (.plain (OpenSpec.ofChange rivalLessSpec)) rivalLessCard

/-- THE TIED CARD OF 'touchmarklaw04.RivalWithdraws'. -/
def rivalWithdrawsCard : Claim7 := { stood := { row := rivalWithdrawsRow, standIns := [], harness := (true, "375651d122c04421ce498e33069ddb9fbc3642b8e91d60a78b8c96a8de8d53b0"), looks := true }, kinds := [], alts := [], goes := true, laidByText := true, laidKinds := [.funcs], laidTests := true, laidLooks := .later }
def RivalWithdrawsCardSaid : Prop := Claim7.holds Tryz.pinned (.plain (OpenSpec.ofChange rivalWithdrawsSpec)) rivalWithdrawsCard

/-- THE TIED CARD OF 'touchmarklaw04.RivalDecides'. -/
def rivalDecidesCard : Claim7 := { stood := { row := rivalDecidesRow, standIns := [], harness := (true, "375651d122c04421ce498e33069ddb9fbc3642b8e91d60a78b8c96a8de8d53b0"), looks := true }, kinds := [], alts := [], goes := true, laidByText := true, laidKinds := [.funcs], laidTests := true, laidLooks := .later }
def RivalDecidesCardSaid : Prop := Claim7.holds Tryz.pinned (.plain (OpenSpec.ofChange rivalDecidesSpec)) rivalDecidesCard

/-- THE TIED CARD OF 'touchmarklaw04.RivalLeaves'. -/
def rivalLeavesCard : Claim7 := { stood := { row := rivalLeavesRow, standIns := [], harness := (true, "375651d122c04421ce498e33069ddb9fbc3642b8e91d60a78b8c96a8de8d53b0"), looks := true }, kinds := [], alts := [], goes := true, laidByText := true, laidKinds := [.funcs], laidTests := true, laidLooks := .later }
def RivalLeavesCardSaid : Prop := Claim7.holds Tryz.pinned (.plain (OpenSpec.ofChange rivalLeavesSpec)) rivalLeavesCard

/-- THE TIED CARD OF 'touchmarklaw04.RivalStays'. -/
def rivalStaysCard : Claim7 := { stood := { row := rivalStaysRow, standIns := [], harness := (true, "375651d122c04421ce498e33069ddb9fbc3642b8e91d60a78b8c96a8de8d53b0"), looks := true }, kinds := [], alts := [], goes := true, laidByText := true, laidKinds := [.funcs], laidTests := true, laidLooks := .later }
def RivalStaysCardSaid : Prop := Claim7.holds Tryz.pinned (.plain (OpenSpec.ofChange rivalStaysSpec)) rivalStaysCard

/-- THE TIED CARD OF 'touchmarklaw04.RivalHolds'. -/
def rivalHoldsCard : Claim7 := { stood := { row := rivalHoldsRow, standIns := [], harness := (true, "375651d122c04421ce498e33069ddb9fbc3642b8e91d60a78b8c96a8de8d53b0"), looks := true }, kinds := [], alts := [], goes := true, laidByText := true, laidKinds := [.funcs], laidTests := true, laidLooks := .later }
def RivalHoldsCardSaid : Prop := Claim7.holds Tryz.pinned (.plain (OpenSpec.ofChange rivalHoldsSpec)) rivalHoldsCard

/-- THE TIED CARD OF 'touchmarklaw04.RivalNarrow'. -/
def rivalNarrowCard : Claim7 := { stood := { row := rivalNarrowRow, standIns := [], harness := (true, "375651d122c04421ce498e33069ddb9fbc3642b8e91d60a78b8c96a8de8d53b0"), looks := true }, kinds := [], alts := [], goes := true, laidByText := true, laidKinds := [.funcs], laidTests := true, laidLooks := .later }
def RivalNarrowCardSaid : Prop := Claim7.holds Tryz.pinned (.plain (OpenSpec.ofChange rivalNarrowSpec)) rivalNarrowCard

/-- THE TIED CARD OF 'touchmarklaw04.RivalTexts'. -/
def rivalTextsCard : Claim7 := { stood := { row := rivalTextsRow, standIns := [], harness := (true, "375651d122c04421ce498e33069ddb9fbc3642b8e91d60a78b8c96a8de8d53b0"), looks := true }, kinds := [], alts := [], goes := true, laidByText := true, laidKinds := [.data, .funcs, .pinned], laidTests := true, laidLooks := .later }
def RivalTextsCardSaid : Prop := Claim7.holds Tryz.pinned (.plain (OpenSpec.ofChange rivalTextsSpec)) rivalTextsCard

/-- THE TIED CARD OF 'touchmarklaw04.RivalBack'. -/
def rivalBackCard : Claim7 := { stood := { row := rivalBackRow, standIns := [], harness := (true, "375651d122c04421ce498e33069ddb9fbc3642b8e91d60a78b8c96a8de8d53b0"), looks := true }, kinds := [], alts := [], goes := true, laidByText := true, laidKinds := [.data, .funcs, .pinned], laidTests := true, laidLooks := .later }
def RivalBackCardSaid : Prop := Claim7.holds Tryz.pinned (.plain (OpenSpec.ofChange rivalBackSpec)) rivalBackCard
end Rows
end Go.Proofs.YtnpfcnfhfkflhaaGreatDoor
