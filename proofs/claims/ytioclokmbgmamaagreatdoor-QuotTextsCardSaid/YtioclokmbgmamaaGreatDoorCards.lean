/-
  DERIVED. GIVEN WITH THE SEED: THE CARDS: each row of YtioclokmbgmamaaGreatDoorRows.lean that lists a variable, with what it lists TIED to the program's text (the seventh form; the later family's looks); each row that meets fmt, with fmt's text TOLD by the authors' own Lean function (tested against real Go, not proved from fmt's source: count such statements apart). THE CARD IS WHAT COUNTS. Prove the row's statement (the work); the ties are given (YtioclokmbgmamaaGreatDoorTie.lean); close each card by the builder's one call (the guide's Derived/Test/ToyasCard.lean, 'card_holds'). Laid BY PROGRAM, IN A SANDBOX (cutbox-door.mjs). By AI agents, Wed Nov 11 2026. No macro, syntax, notation, axiom, sorry.
-/
import Derived.Test.YtioclokmbgmamaaGreatDoorRows
import GoSem.ClaimSeven
namespace Go.Proofs.YtioclokmbgmamaaGreatDoor
namespace Rows

/-- THE TIED CARD OF 'monoclelaw04.QuotOrders'. -/
def quotOrdersCard : Claim7 := { stood := { row := quotOrdersRow, standIns := [], harness := (true, "6eb151df791bd84606ff3d6d9ede97d436c4881a74024f8397bf8f62e77b654d"), looks := true }, kinds := [], alts := [], laidByText := true, laidKinds := [.data, .data, .data, .data, .sentinel, .sentinel, .pinned], laidTests := true, laidLooks := .later }
def QuotOrdersCardSaid : Prop := Claim7.holds Tryz.pinned (.plain (OpenSpec.ofChange quotOrdersSpec)) quotOrdersCard

/-- THE TIED CARD OF 'monoclelaw04.QuotRounds'. -/
def quotRoundsCard : Claim7 := { stood := { row := quotRoundsRow, standIns := [], harness := (true, "6eb151df791bd84606ff3d6d9ede97d436c4881a74024f8397bf8f62e77b654d"), looks := true }, kinds := [], alts := [], laidByText := true, laidKinds := [.data, .data, .data, .data, .sentinel, .sentinel, .pinned], laidTests := true, laidLooks := .later }
def QuotRoundsCardSaid : Prop := Claim7.holds Tryz.pinned (.plain (OpenSpec.ofChange quotRoundsSpec)) quotRoundsCard

/-- THE TIED CARD OF 'monoclelaw04.QuotTexts'. -/
def quotTextsCard : Claim7 := { stood := { row := quotTextsRow, standIns := [], harness := (true, "6eb151df791bd84606ff3d6d9ede97d436c4881a74024f8397bf8f62e77b654d"), looks := true }, kinds := [], alts := [], laidByText := true, laidKinds := [.data, .data, .data, .data, .sentinel, .sentinel, .pinned], laidTests := true, laidLooks := .later }
def QuotTextsCardSaid : Prop := Claim7.holds Tryz.pinned (.plain (OpenSpec.ofChange quotTextsSpec)) quotTextsCard

/-- THE TIED CARD OF 'monoclelaw04.QuotField'. -/
def quotFieldCard : Claim7 := { stood := { row := quotFieldRow, standIns := [], harness := (true, "6eb151df791bd84606ff3d6d9ede97d436c4881a74024f8397bf8f62e77b654d"), looks := true }, kinds := [], alts := [], laidByText := true, laidKinds := [.data, .data, .data, .data, .sentinel, .sentinel, .pinned], laidTests := true, laidLooks := .later }
def QuotFieldCardSaid : Prop := Claim7.holds Tryz.pinned (.plain (OpenSpec.ofChange quotFieldSpec)) quotFieldCard

/-- THE TIED CARD OF 'monoclelaw04.QuotBack'. -/
def quotBackCard : Claim7 := { stood := { row := quotBackRow, standIns := [], harness := (true, "6eb151df791bd84606ff3d6d9ede97d436c4881a74024f8397bf8f62e77b654d"), looks := true }, kinds := [], alts := [], laidByText := true, laidKinds := [.data, .data, .data, .data, .sentinel, .sentinel, .pinned], laidTests := true, laidLooks := .later }
def QuotBackCardSaid : Prop := Claim7.holds Tryz.pinned (.plain (OpenSpec.ofChange quotBackSpec)) quotBackCard

/-- THE TIED CARD OF 'monoclelaw04.QuotCompares'. -/
def quotComparesCard : Claim7 := { stood := { row := quotComparesRow, standIns := [], harness := (true, "6eb151df791bd84606ff3d6d9ede97d436c4881a74024f8397bf8f62e77b654d"), looks := true }, kinds := [], alts := [], laidByText := true, laidKinds := [.data, .data, .data, .data, .sentinel, .sentinel, .pinned], laidTests := true, laidLooks := .later }
def QuotComparesCardSaid : Prop := Claim7.holds Tryz.pinned (.plain (OpenSpec.ofChange quotComparesSpec)) quotComparesCard

/-- THE TIED CARD OF 'monoclelaw04.QuotKnown'. -/
def quotKnownCard : Claim7 := { stood := { row := quotKnownRow, standIns := [], harness := (true, "6eb151df791bd84606ff3d6d9ede97d436c4881a74024f8397bf8f62e77b654d"), looks := true }, kinds := [], alts := [], laidByText := true, laidKinds := [.data, .data, .data, .data, .sentinel, .sentinel, .pinned], laidTests := true, laidLooks := .later }
def QuotKnownCardSaid : Prop := Claim7.holds Tryz.pinned (.plain (OpenSpec.ofChange quotKnownSpec)) quotKnownCard

/-- THE TIED CARD OF 'monoclelaw04.QuotLowest'. -/
def quotLowestCard : Claim7 := { stood := { row := quotLowestRow, standIns := [], harness := (true, "6eb151df791bd84606ff3d6d9ede97d436c4881a74024f8397bf8f62e77b654d"), looks := true }, kinds := [], alts := [], laidByText := true, laidKinds := [.data, .data, .data, .data, .sentinel, .sentinel, .pinned], laidTests := true, laidLooks := .later }
def QuotLowestCardSaid : Prop := Claim7.holds Tryz.pinned (.plain (OpenSpec.ofChange quotLowestSpec)) quotLowestCard

/-- THE TIED CARD OF 'monoclelaw04.QuotRounding'. -/
def quotRoundingCard : Claim7 := { stood := { row := quotRoundingRow, standIns := [], harness := (true, "6eb151df791bd84606ff3d6d9ede97d436c4881a74024f8397bf8f62e77b654d"), looks := true }, kinds := [], alts := [], laidByText := true, laidKinds := [.data, .data, .data, .data, .sentinel, .sentinel, .pinned], laidTests := true, laidLooks := .later }
def QuotRoundingCardSaid : Prop := Claim7.holds Tryz.pinned (.plain (OpenSpec.ofChange quotRoundingSpec)) quotRoundingCard

/-- THE SECOND FORM's CARD OF 'monoclelaw04.QuotOrders'. -/
def quotOrdersUptoCard : Claim7 := { stood := { row := quotOrdersUptoRow, standIns := [], harness := (true, "6eb151df791bd84606ff3d6d9ede97d436c4881a74024f8397bf8f62e77b654d"), looks := true }, kinds := [], alts := [], laidByText := true, laidKinds := [.data, .data, .data, .data, .sentinel, .sentinel, .pinned], laidTests := true, laidLooks := .later }
def QuotOrdersUptoCardSaid : Prop := Claim7.holds Tryz.pinned (.plain (OpenSpec.upto quotOrdersSpec)) quotOrdersUptoCard

/-- THE SECOND FORM's CARD OF 'monoclelaw04.QuotRounds'. -/
def quotRoundsUptoCard : Claim7 := { stood := { row := quotRoundsUptoRow, standIns := [], harness := (true, "6eb151df791bd84606ff3d6d9ede97d436c4881a74024f8397bf8f62e77b654d"), looks := true }, kinds := [], alts := [], laidByText := true, laidKinds := [.data, .data, .data, .data, .sentinel, .sentinel, .pinned], laidTests := true, laidLooks := .later }
def QuotRoundsUptoCardSaid : Prop := Claim7.holds Tryz.pinned (.plain (OpenSpec.upto quotRoundsSpec)) quotRoundsUptoCard

/-- THE SECOND FORM's CARD OF 'monoclelaw04.QuotTexts'. -/
def quotTextsUptoCard : Claim7 := { stood := { row := quotTextsUptoRow, standIns := [], harness := (true, "6eb151df791bd84606ff3d6d9ede97d436c4881a74024f8397bf8f62e77b654d"), looks := true }, kinds := [], alts := [], laidByText := true, laidKinds := [.data, .data, .data, .data, .sentinel, .sentinel, .pinned], laidTests := true, laidLooks := .later }
def QuotTextsUptoCardSaid : Prop := Claim7.holds Tryz.pinned (.plain (OpenSpec.upto quotTextsSpec)) quotTextsUptoCard

/-- THE SECOND FORM's CARD OF 'monoclelaw04.QuotField'. -/
def quotFieldUptoCard : Claim7 := { stood := { row := quotFieldUptoRow, standIns := [], harness := (true, "6eb151df791bd84606ff3d6d9ede97d436c4881a74024f8397bf8f62e77b654d"), looks := true }, kinds := [], alts := [], laidByText := true, laidKinds := [.data, .data, .data, .data, .sentinel, .sentinel, .pinned], laidTests := true, laidLooks := .later }
def QuotFieldUptoCardSaid : Prop := Claim7.holds Tryz.pinned (.plain (OpenSpec.upto quotFieldSpec)) quotFieldUptoCard

/-- THE SECOND FORM's CARD OF 'monoclelaw04.QuotBack'. -/
def quotBackUptoCard : Claim7 := { stood := { row := quotBackUptoRow, standIns := [], harness := (true, "6eb151df791bd84606ff3d6d9ede97d436c4881a74024f8397bf8f62e77b654d"), looks := true }, kinds := [], alts := [], laidByText := true, laidKinds := [.data, .data, .data, .data, .sentinel, .sentinel, .pinned], laidTests := true, laidLooks := .later }
def QuotBackUptoCardSaid : Prop := Claim7.holds Tryz.pinned (.plain (OpenSpec.upto quotBackSpec)) quotBackUptoCard

/-- THE SECOND FORM's CARD OF 'monoclelaw04.QuotCompares'. -/
def quotComparesUptoCard : Claim7 := { stood := { row := quotComparesUptoRow, standIns := [], harness := (true, "6eb151df791bd84606ff3d6d9ede97d436c4881a74024f8397bf8f62e77b654d"), looks := true }, kinds := [], alts := [], laidByText := true, laidKinds := [.data, .data, .data, .data, .sentinel, .sentinel, .pinned], laidTests := true, laidLooks := .later }
def QuotComparesUptoCardSaid : Prop := Claim7.holds Tryz.pinned (.plain (OpenSpec.upto quotComparesSpec)) quotComparesUptoCard

/-- THE SECOND FORM's CARD OF 'monoclelaw04.QuotKnown'. -/
def quotKnownUptoCard : Claim7 := { stood := { row := quotKnownUptoRow, standIns := [], harness := (true, "6eb151df791bd84606ff3d6d9ede97d436c4881a74024f8397bf8f62e77b654d"), looks := true }, kinds := [], alts := [], laidByText := true, laidKinds := [.data, .data, .data, .data, .sentinel, .sentinel, .pinned], laidTests := true, laidLooks := .later }
def QuotKnownUptoCardSaid : Prop := Claim7.holds Tryz.pinned (.plain (OpenSpec.upto quotKnownSpec)) quotKnownUptoCard

/-- THE SECOND FORM's CARD OF 'monoclelaw04.QuotLowest'. -/
def quotLowestUptoCard : Claim7 := { stood := { row := quotLowestUptoRow, standIns := [], harness := (true, "6eb151df791bd84606ff3d6d9ede97d436c4881a74024f8397bf8f62e77b654d"), looks := true }, kinds := [], alts := [], laidByText := true, laidKinds := [.data, .data, .data, .data, .sentinel, .sentinel, .pinned], laidTests := true, laidLooks := .later }
def QuotLowestUptoCardSaid : Prop := Claim7.holds Tryz.pinned (.plain (OpenSpec.upto quotLowestSpec)) quotLowestUptoCard

/-- THE SECOND FORM's CARD OF 'monoclelaw04.QuotRounding'. -/
def quotRoundingUptoCard : Claim7 := { stood := { row := quotRoundingUptoRow, standIns := [], harness := (true, "6eb151df791bd84606ff3d6d9ede97d436c4881a74024f8397bf8f62e77b654d"), looks := true }, kinds := [], alts := [], laidByText := true, laidKinds := [.data, .data, .data, .data, .sentinel, .sentinel, .pinned], laidTests := true, laidLooks := .later }
def QuotRoundingUptoCardSaid : Prop := Claim7.holds Tryz.pinned (.plain (OpenSpec.upto quotRoundingSpec)) quotRoundingUptoCard
end Rows
end Go.Proofs.YtioclokmbgmamaaGreatDoor
