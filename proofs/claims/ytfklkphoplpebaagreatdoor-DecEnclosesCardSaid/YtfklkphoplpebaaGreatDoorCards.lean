/-
  DERIVED. GIVEN WITH THE SEED: THE CARDS: each row of YtfklkphoplpebaaGreatDoorRows.lean that lists a variable, with what it lists TIED to the program's text (the seventh form; the later family's looks); each row that meets fmt, with fmt's text TOLD by the authors' own Lean function (tested against real Go, not proved from fmt's source: count such statements apart). THE CARD IS WHAT COUNTS. Prove the row's statement (the work); the ties are given (YtfklkphoplpebaaGreatDoorTie.lean); close each card by the builder's one call (the guide's Derived/Test/ToyasCard.lean, 'card_holds'). Laid BY PROGRAM, IN A SANDBOX (cutbox-door.mjs). By AI agents, Wed Nov 11 2026. No macro, syntax, notation, axiom, sorry.
-/
import Derived.Test.YtfklkphoplpebaaGreatDoorRows
import GoSem.ClaimSeven
namespace Go.Proofs.YtfklkphoplpebaaGreatDoor
namespace Rows

/-- THE TIED CARD OF 'monoclelaw05.DecTexts'. -/
def decTextsCard : Claim7 := { stood := { row := decTextsRow, standIns := [], harness := (true, "7b2266a1d1414447dfdfae4c6fc87be3188a6c4cb25219ac5026cd618433afbb"), looks := true }, kinds := [], alts := [], laidByText := true, laidKinds := [.data, .data, .data, .data, .sentinel, .sentinel, .pinned], laidTests := true, laidLooks := .later }
def DecTextsCardSaid : Prop := Claim7.holds Tryz.pinned (.plain (OpenSpec.ofChange decTextsSpec)) decTextsCard

/-- THE TIED CARD OF 'monoclelaw05.DecParses'. -/
def decParsesCard : Claim7 := { stood := { row := decParsesRow, standIns := [], harness := (true, "7b2266a1d1414447dfdfae4c6fc87be3188a6c4cb25219ac5026cd618433afbb"), looks := true }, kinds := [], alts := [], laidByText := true, laidKinds := [.data, .data, .data, .data, .sentinel, .sentinel, .pinned], laidTests := true, laidLooks := .later }
def DecParsesCardSaid : Prop := Claim7.holds Tryz.pinned (.plain (OpenSpec.ofChange decParsesSpec)) decParsesCard

/-- THE TIED CARD OF 'monoclelaw05.DecRounds'. -/
def decRoundsCard : Claim7 := { stood := { row := decRoundsRow, standIns := [], harness := (true, "7b2266a1d1414447dfdfae4c6fc87be3188a6c4cb25219ac5026cd618433afbb"), looks := true }, kinds := [], alts := [], laidByText := true, laidKinds := [.data, .data, .data, .data, .sentinel, .sentinel, .pinned], laidTests := true, laidLooks := .later }
def DecRoundsCardSaid : Prop := Claim7.holds Tryz.pinned (.plain (OpenSpec.ofChange decRoundsSpec)) decRoundsCard

/-- THE TIED CARD OF 'monoclelaw05.DecBack'. -/
def decBackCard : Claim7 := { stood := { row := decBackRow, standIns := [], harness := (true, "7b2266a1d1414447dfdfae4c6fc87be3188a6c4cb25219ac5026cd618433afbb"), looks := true }, kinds := [], alts := [], laidByText := true, laidKinds := [.data, .data, .data, .data, .sentinel, .sentinel, .pinned], laidTests := true, laidLooks := .later }
def DecBackCardSaid : Prop := Claim7.holds Tryz.pinned (.plain (OpenSpec.ofChange decBackSpec)) decBackCard

/-- THE TIED CARD OF 'monoclelaw05.DecKnown'. -/
def decKnownCard : Claim7 := { stood := { row := decKnownRow, standIns := [], harness := (true, "7b2266a1d1414447dfdfae4c6fc87be3188a6c4cb25219ac5026cd618433afbb"), looks := true }, kinds := [], alts := [], laidByText := true, laidKinds := [.data, .data, .data, .data, .sentinel, .sentinel, .pinned], laidTests := true, laidLooks := .later }
def DecKnownCardSaid : Prop := Claim7.holds Tryz.pinned (.plain (OpenSpec.ofChange decKnownSpec)) decKnownCard

/-- THE TIED CARD OF 'monoclelaw05.DecOnly'. -/
def decOnlyCard : Claim7 := { stood := { row := decOnlyRow, standIns := [], harness := (true, "7b2266a1d1414447dfdfae4c6fc87be3188a6c4cb25219ac5026cd618433afbb"), looks := true }, kinds := [], alts := [], laidByText := true, laidKinds := [.data, .data, .data, .data, .sentinel, .sentinel, .pinned], laidTests := true, laidLooks := .later }
def DecOnlyCardSaid : Prop := Claim7.holds Tryz.pinned (.plain (OpenSpec.ofChange decOnlySpec)) decOnlyCard

/-- THE TIED CARD OF 'monoclelaw05.DecEncloses'. -/
def decEnclosesCard : Claim7 := { stood := { row := decEnclosesRow, standIns := [], harness := (true, "7b2266a1d1414447dfdfae4c6fc87be3188a6c4cb25219ac5026cd618433afbb"), looks := true }, kinds := [], alts := [], laidByText := true, laidKinds := [.data, .data, .data, .data, .data, .sentinel, .sentinel, .pinned], laidTests := true, laidLooks := .later }
def DecEnclosesCardSaid : Prop := Claim7.holds Tryz.pinned (.plain (OpenSpec.ofChange decEnclosesSpec)) decEnclosesCard

/-- THE SECOND FORM's CARD OF 'monoclelaw05.DecTexts'. -/
def decTextsUptoCard : Claim7 := { stood := { row := decTextsUptoRow, standIns := [], harness := (true, "7b2266a1d1414447dfdfae4c6fc87be3188a6c4cb25219ac5026cd618433afbb"), looks := true }, kinds := [], alts := [], laidByText := true, laidKinds := [.data, .data, .data, .data, .sentinel, .sentinel, .pinned], laidTests := true, laidLooks := .later }
def DecTextsUptoCardSaid : Prop := Claim7.holds Tryz.pinned (.plain (OpenSpec.upto decTextsSpec)) decTextsUptoCard

/-- THE SECOND FORM's CARD OF 'monoclelaw05.DecParses'. -/
def decParsesUptoCard : Claim7 := { stood := { row := decParsesUptoRow, standIns := [], harness := (true, "7b2266a1d1414447dfdfae4c6fc87be3188a6c4cb25219ac5026cd618433afbb"), looks := true }, kinds := [], alts := [], laidByText := true, laidKinds := [.data, .data, .data, .data, .sentinel, .sentinel, .pinned], laidTests := true, laidLooks := .later }
def DecParsesUptoCardSaid : Prop := Claim7.holds Tryz.pinned (.plain (OpenSpec.upto decParsesSpec)) decParsesUptoCard

/-- THE SECOND FORM's CARD OF 'monoclelaw05.DecRounds'. -/
def decRoundsUptoCard : Claim7 := { stood := { row := decRoundsUptoRow, standIns := [], harness := (true, "7b2266a1d1414447dfdfae4c6fc87be3188a6c4cb25219ac5026cd618433afbb"), looks := true }, kinds := [], alts := [], laidByText := true, laidKinds := [.data, .data, .data, .data, .sentinel, .sentinel, .pinned], laidTests := true, laidLooks := .later }
def DecRoundsUptoCardSaid : Prop := Claim7.holds Tryz.pinned (.plain (OpenSpec.upto decRoundsSpec)) decRoundsUptoCard

/-- THE SECOND FORM's CARD OF 'monoclelaw05.DecBack'. -/
def decBackUptoCard : Claim7 := { stood := { row := decBackUptoRow, standIns := [], harness := (true, "7b2266a1d1414447dfdfae4c6fc87be3188a6c4cb25219ac5026cd618433afbb"), looks := true }, kinds := [], alts := [], laidByText := true, laidKinds := [.data, .data, .data, .data, .sentinel, .sentinel, .pinned], laidTests := true, laidLooks := .later }
def DecBackUptoCardSaid : Prop := Claim7.holds Tryz.pinned (.plain (OpenSpec.upto decBackSpec)) decBackUptoCard

/-- THE SECOND FORM's CARD OF 'monoclelaw05.DecKnown'. -/
def decKnownUptoCard : Claim7 := { stood := { row := decKnownUptoRow, standIns := [], harness := (true, "7b2266a1d1414447dfdfae4c6fc87be3188a6c4cb25219ac5026cd618433afbb"), looks := true }, kinds := [], alts := [], laidByText := true, laidKinds := [.data, .data, .data, .data, .sentinel, .sentinel, .pinned], laidTests := true, laidLooks := .later }
def DecKnownUptoCardSaid : Prop := Claim7.holds Tryz.pinned (.plain (OpenSpec.upto decKnownSpec)) decKnownUptoCard

/-- THE SECOND FORM's CARD OF 'monoclelaw05.DecOnly'. -/
def decOnlyUptoCard : Claim7 := { stood := { row := decOnlyUptoRow, standIns := [], harness := (true, "7b2266a1d1414447dfdfae4c6fc87be3188a6c4cb25219ac5026cd618433afbb"), looks := true }, kinds := [], alts := [], laidByText := true, laidKinds := [.data, .data, .data, .data, .sentinel, .sentinel, .pinned], laidTests := true, laidLooks := .later }
def DecOnlyUptoCardSaid : Prop := Claim7.holds Tryz.pinned (.plain (OpenSpec.upto decOnlySpec)) decOnlyUptoCard

/-- THE SECOND FORM's CARD OF 'monoclelaw05.DecEncloses'. -/
def decEnclosesUptoCard : Claim7 := { stood := { row := decEnclosesUptoRow, standIns := [], harness := (true, "7b2266a1d1414447dfdfae4c6fc87be3188a6c4cb25219ac5026cd618433afbb"), looks := true }, kinds := [], alts := [], laidByText := true, laidKinds := [.data, .data, .data, .data, .data, .sentinel, .sentinel, .pinned], laidTests := true, laidLooks := .later }
def DecEnclosesUptoCardSaid : Prop := Claim7.holds Tryz.pinned (.plain (OpenSpec.upto decEnclosesSpec)) decEnclosesUptoCard
end Rows
end Go.Proofs.YtfklkphoplpebaaGreatDoor
