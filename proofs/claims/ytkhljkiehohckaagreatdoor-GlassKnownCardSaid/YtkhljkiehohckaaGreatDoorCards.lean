/-
  DERIVED. GIVEN WITH THE SEED: THE CARDS: each row of YtkhljkiehohckaaGreatDoorRows.lean that lists a variable, with what it lists TIED to the program's text (the seventh form; the later family's looks); each row that meets fmt, with fmt's text TOLD by the authors' own Lean function (tested against real Go, not proved from fmt's source: count such statements apart). THE CARD IS WHAT COUNTS. Prove the row's statement (the work); the ties are given (YtkhljkiehohckaaGreatDoorTie.lean); close each card by the builder's one call (the guide's Derived/Test/ToyasCard.lean, 'card_holds'). Laid BY PROGRAM, IN A SANDBOX (cutbox-door.mjs). By AI agents, Wed Nov 11 2026. No macro, syntax, notation, axiom, sorry.
-/
import Derived.Test.YtkhljkiehohckaaGreatDoorRows
import GoSem.ClaimSeven
namespace Go.Proofs.YtkhljkiehohckaaGreatDoor
namespace Rows

/-- THE TIED CARD OF 'monoclelaw09.GlassChecks'. -/
def glassChecksCard : Claim7 := { stood := { row := glassChecksRow, standIns := [], harness := (true, "3f47282e9fed6a542e3d79c8d7b1a646fc39b44ac3810866ab8eb8529b2ccf03"), looks := true }, kinds := [], alts := [], laidByText := true, laidKinds := [.data, .data, .data, .sentinel, .sentinel, .funcs], laidTests := true, laidLooks := .later }
def GlassChecksCardSaid : Prop := Claim7.holds Tryz.pinned (.plain (OpenSpec.ofChange glassChecksSpec)) glassChecksCard

/-- THE TIED CARD OF 'monoclelaw09.GlassIndexes'. -/
def glassIndexesCard : Claim7 := { stood := { row := glassIndexesRow, standIns := [], harness := (true, "3f47282e9fed6a542e3d79c8d7b1a646fc39b44ac3810866ab8eb8529b2ccf03"), looks := true }, kinds := [], alts := [], laidByText := true, laidKinds := [.data, .data, .data, .sentinel, .sentinel, .funcs], laidTests := true, laidLooks := .later }
def GlassIndexesCardSaid : Prop := Claim7.holds Tryz.pinned (.plain (OpenSpec.ofChange glassIndexesSpec)) glassIndexesCard

/-- THE TIED CARD OF 'monoclelaw09.GlassNear'. -/
def glassNearCard : Claim7 := { stood := { row := glassNearRow, standIns := [], harness := (true, "3f47282e9fed6a542e3d79c8d7b1a646fc39b44ac3810866ab8eb8529b2ccf03"), looks := true }, kinds := [], alts := [], laidByText := true, laidKinds := [.data, .data, .data, .sentinel, .sentinel, .funcs], laidTests := true, laidLooks := .later }
def GlassNearCardSaid : Prop := Claim7.holds Tryz.pinned (.plain (OpenSpec.ofChange glassNearSpec)) glassNearCard

/-- THE TIED CARD OF 'monoclelaw09.GlassFalls'. -/
def glassFallsCard : Claim7 := { stood := { row := glassFallsRow, standIns := [], harness := (true, "3f47282e9fed6a542e3d79c8d7b1a646fc39b44ac3810866ab8eb8529b2ccf03"), looks := true }, kinds := [], alts := [], laidByText := true, laidKinds := [.data, .data, .data, .sentinel, .sentinel, .funcs], laidTests := true, laidLooks := .later }
def GlassFallsCardSaid : Prop := Claim7.holds Tryz.pinned (.plain (OpenSpec.ofChange glassFallsSpec)) glassFallsCard

/-- THE TIED CARD OF 'monoclelaw09.GlassAbbes'. -/
def glassAbbesCard : Claim7 := { stood := { row := glassAbbesRow, standIns := [], harness := (true, "3f47282e9fed6a542e3d79c8d7b1a646fc39b44ac3810866ab8eb8529b2ccf03"), looks := true }, kinds := [], alts := [], laidByText := true, laidKinds := [.data, .data, .data, .sentinel, .sentinel, .funcs], laidTests := true, laidLooks := .later }
def GlassAbbesCardSaid : Prop := Claim7.holds Tryz.pinned (.plain (OpenSpec.ofChange glassAbbesSpec)) glassAbbesCard

/-- THE TIED CARD OF 'monoclelaw09.GlassFlat'. -/
def glassFlatCard : Claim7 := { stood := { row := glassFlatRow, standIns := [], harness := (true, "3f47282e9fed6a542e3d79c8d7b1a646fc39b44ac3810866ab8eb8529b2ccf03"), looks := true }, kinds := [], alts := [], laidByText := true, laidKinds := [.data, .data, .data, .sentinel, .sentinel, .funcs], laidTests := true, laidLooks := .later }
def GlassFlatCardSaid : Prop := Claim7.holds Tryz.pinned (.plain (OpenSpec.ofChange glassFlatSpec)) glassFlatCard

/-- THE TIED CARD OF 'monoclelaw09.GlassParts'. -/
def glassPartsCard : Claim7 := { stood := { row := glassPartsRow, standIns := [], harness := (true, "3f47282e9fed6a542e3d79c8d7b1a646fc39b44ac3810866ab8eb8529b2ccf03"), looks := true }, kinds := [], alts := [], laidByText := true, laidKinds := [.data, .data, .data, .sentinel, .sentinel, .funcs], laidTests := true, laidLooks := .later }
def GlassPartsCardSaid : Prop := Claim7.holds Tryz.pinned (.plain (OpenSpec.ofChange glassPartsSpec)) glassPartsCard

/-- THE TIED CARD OF 'monoclelaw09.GlassKnown'. -/
def glassKnownCard : Claim7 := { stood := { row := glassKnownRow, standIns := [], harness := (true, "3f47282e9fed6a542e3d79c8d7b1a646fc39b44ac3810866ab8eb8529b2ccf03"), looks := true }, kinds := [], alts := [], laidByText := true, laidKinds := [.data, .data, .data, .sentinel, .sentinel, .funcs], laidTests := true, laidLooks := .later }
def GlassKnownCardSaid : Prop := Claim7.holds Tryz.pinned (.plain (OpenSpec.ofChange glassKnownSpec)) glassKnownCard

/-- THE SECOND FORM's CARD OF 'monoclelaw09.GlassChecks'. -/
def glassChecksUptoCard : Claim7 := { stood := { row := glassChecksUptoRow, standIns := [], harness := (true, "3f47282e9fed6a542e3d79c8d7b1a646fc39b44ac3810866ab8eb8529b2ccf03"), looks := true }, kinds := [], alts := [], laidByText := true, laidKinds := [.data, .data, .data, .sentinel, .sentinel, .funcs], laidTests := true, laidLooks := .later }
def GlassChecksUptoCardSaid : Prop := Claim7.holds Tryz.pinned (.plain (OpenSpec.upto glassChecksSpec)) glassChecksUptoCard

/-- THE SECOND FORM's CARD OF 'monoclelaw09.GlassIndexes'. -/
def glassIndexesUptoCard : Claim7 := { stood := { row := glassIndexesUptoRow, standIns := [], harness := (true, "3f47282e9fed6a542e3d79c8d7b1a646fc39b44ac3810866ab8eb8529b2ccf03"), looks := true }, kinds := [], alts := [], laidByText := true, laidKinds := [.data, .data, .data, .sentinel, .sentinel, .funcs], laidTests := true, laidLooks := .later }
def GlassIndexesUptoCardSaid : Prop := Claim7.holds Tryz.pinned (.plain (OpenSpec.upto glassIndexesSpec)) glassIndexesUptoCard

/-- THE SECOND FORM's CARD OF 'monoclelaw09.GlassNear'. -/
def glassNearUptoCard : Claim7 := { stood := { row := glassNearUptoRow, standIns := [], harness := (true, "3f47282e9fed6a542e3d79c8d7b1a646fc39b44ac3810866ab8eb8529b2ccf03"), looks := true }, kinds := [], alts := [], laidByText := true, laidKinds := [.data, .data, .data, .sentinel, .sentinel, .funcs], laidTests := true, laidLooks := .later }
def GlassNearUptoCardSaid : Prop := Claim7.holds Tryz.pinned (.plain (OpenSpec.upto glassNearSpec)) glassNearUptoCard

/-- THE SECOND FORM's CARD OF 'monoclelaw09.GlassFalls'. -/
def glassFallsUptoCard : Claim7 := { stood := { row := glassFallsUptoRow, standIns := [], harness := (true, "3f47282e9fed6a542e3d79c8d7b1a646fc39b44ac3810866ab8eb8529b2ccf03"), looks := true }, kinds := [], alts := [], laidByText := true, laidKinds := [.data, .data, .data, .sentinel, .sentinel, .funcs], laidTests := true, laidLooks := .later }
def GlassFallsUptoCardSaid : Prop := Claim7.holds Tryz.pinned (.plain (OpenSpec.upto glassFallsSpec)) glassFallsUptoCard

/-- THE SECOND FORM's CARD OF 'monoclelaw09.GlassAbbes'. -/
def glassAbbesUptoCard : Claim7 := { stood := { row := glassAbbesUptoRow, standIns := [], harness := (true, "3f47282e9fed6a542e3d79c8d7b1a646fc39b44ac3810866ab8eb8529b2ccf03"), looks := true }, kinds := [], alts := [], laidByText := true, laidKinds := [.data, .data, .data, .sentinel, .sentinel, .funcs], laidTests := true, laidLooks := .later }
def GlassAbbesUptoCardSaid : Prop := Claim7.holds Tryz.pinned (.plain (OpenSpec.upto glassAbbesSpec)) glassAbbesUptoCard

/-- THE SECOND FORM's CARD OF 'monoclelaw09.GlassFlat'. -/
def glassFlatUptoCard : Claim7 := { stood := { row := glassFlatUptoRow, standIns := [], harness := (true, "3f47282e9fed6a542e3d79c8d7b1a646fc39b44ac3810866ab8eb8529b2ccf03"), looks := true }, kinds := [], alts := [], laidByText := true, laidKinds := [.data, .data, .data, .sentinel, .sentinel, .funcs], laidTests := true, laidLooks := .later }
def GlassFlatUptoCardSaid : Prop := Claim7.holds Tryz.pinned (.plain (OpenSpec.upto glassFlatSpec)) glassFlatUptoCard

/-- THE SECOND FORM's CARD OF 'monoclelaw09.GlassParts'. -/
def glassPartsUptoCard : Claim7 := { stood := { row := glassPartsUptoRow, standIns := [], harness := (true, "3f47282e9fed6a542e3d79c8d7b1a646fc39b44ac3810866ab8eb8529b2ccf03"), looks := true }, kinds := [], alts := [], laidByText := true, laidKinds := [.data, .data, .data, .sentinel, .sentinel, .funcs], laidTests := true, laidLooks := .later }
def GlassPartsUptoCardSaid : Prop := Claim7.holds Tryz.pinned (.plain (OpenSpec.upto glassPartsSpec)) glassPartsUptoCard

/-- THE SECOND FORM's CARD OF 'monoclelaw09.GlassKnown'. -/
def glassKnownUptoCard : Claim7 := { stood := { row := glassKnownUptoRow, standIns := [], harness := (true, "3f47282e9fed6a542e3d79c8d7b1a646fc39b44ac3810866ab8eb8529b2ccf03"), looks := true }, kinds := [], alts := [], laidByText := true, laidKinds := [.data, .data, .data, .sentinel, .sentinel, .funcs], laidTests := true, laidLooks := .later }
def GlassKnownUptoCardSaid : Prop := Claim7.holds Tryz.pinned (.plain (OpenSpec.upto glassKnownSpec)) glassKnownUptoCard
end Rows
end Go.Proofs.YtkhljkiehohckaaGreatDoor
