/-
  DERIVED. GIVEN WITH THE SEED: THE CARDS: each row of YtngpibfakemmhaaGreatDoorRows.lean that lists a variable, with what it lists TIED to the program's text (the seventh form; the later family's looks); each row that meets fmt, with fmt's text TOLD by the authors' own Lean function (tested against real Go, not proved from fmt's source: count such statements apart). THE CARD IS WHAT COUNTS. Prove the row's statement (the work); the ties are given (YtngpibfakemmhaaGreatDoorTie.lean); close each card by the builder's one call (the guide's Derived/Test/ToyasCard.lean, 'card_holds'). Laid BY PROGRAM, IN A SANDBOX (cutbox-door.mjs). By AI agents, Wed Nov 11 2026. No macro, syntax, notation, axiom, sorry.
-/
import Derived.Test.YtngpibfakemmhaaGreatDoorRows
import GoSem.ClaimSeven
namespace Go.Proofs.YtngpibfakemmhaaGreatDoor
namespace Rows

/-- THE TIED CARD OF 'monoclelaw04.QuotKnown'. -/
def quotKnownCard : Claim7 := { stood := { row := quotKnownRow, standIns := [], harness := (true, "3ed231098d6d44c1a3f200ae365e4a735ff2f0e3a6f9f1c940e3a71e8766b724"), looks := true }, kinds := [], alts := [], laidByText := true, laidKinds := [.data, .data, .data, .data, .sentinel, .sentinel, .pinned], laidTests := true, laidLooks := .later }
def QuotKnownCardSaid : Prop := Claim7.holds Tryz.pinned (.plain (OpenSpec.ofChange quotKnownSpec)) quotKnownCard

/-- THE SECOND FORM's CARD OF 'monoclelaw04.QuotKnown'. -/
def quotKnownUptoCard : Claim7 := { stood := { row := quotKnownUptoRow, standIns := [], harness := (true, "3ed231098d6d44c1a3f200ae365e4a735ff2f0e3a6f9f1c940e3a71e8766b724"), looks := true }, kinds := [], alts := [], laidByText := true, laidKinds := [.data, .data, .data, .data, .sentinel, .sentinel, .pinned], laidTests := true, laidLooks := .later }
def QuotKnownUptoCardSaid : Prop := Claim7.holds Tryz.pinned (.plain (OpenSpec.upto quotKnownSpec)) quotKnownUptoCard
end Rows
end Go.Proofs.YtngpibfakemmhaaGreatDoor
