/-
  DERIVED. GIVEN WITH THE SEED: THE CARDS: each row of YtdigbofiebfkeaaGreatDoorRows.lean that lists a variable, with what it lists TIED to the program's text (the seventh form; the later family's looks); each row that meets fmt, with fmt's text TOLD by the authors' own Lean function (tested against real Go, not proved from fmt's source: count such statements apart). THE CARD IS WHAT COUNTS. Prove the row's statement (the work); the ties are given (YtdigbofiebfkeaaGreatDoorTie.lean); close each card by the builder's one call (the guide's Derived/Test/ToyasCard.lean, 'card_holds'). Laid BY PROGRAM, IN A SANDBOX (cutbox-door.mjs). By AI agents, Wed Nov 11 2026. No macro, syntax, notation, axiom, sorry.
-/
import Derived.Test.YtdigbofiebfkeaaGreatDoorRows
import GoSem.ClaimSeven
namespace Go.Proofs.YtdigbofiebfkeaaGreatDoor
namespace Rows

/-- THE TIED CARD OF 'monoclelaw35.LinearWithin'. -/
def linearWithinCard : Claim7 := { stood := { row := linearWithinRow, standIns := [], harness := (true, "1bbad7001c07aa65b6b7706e01d7b3e769c86139d6bcf49ed4e28b4960a014e9"), looks := true }, kinds := [], alts := [], laidByText := true, laidKinds := [.data, .data, .data, .data, .sentinel, .sentinel, .pinned], laidTests := true, laidLooks := .later }
def LinearWithinCardSaid : Prop := Claim7.holds Tryz.pinned (.plain (OpenSpec.ofChange linearWithinSpec)) linearWithinCard

/-- THE TIED CARD OF 'monoclelaw35.LinearDamps'. -/
def linearDampsCard : Claim7 := { stood := { row := linearDampsRow, standIns := [], harness := (true, "1bbad7001c07aa65b6b7706e01d7b3e769c86139d6bcf49ed4e28b4960a014e9"), looks := true }, kinds := [], alts := [], laidByText := true, laidKinds := [.data, .data, .data, .data, .sentinel, .sentinel, .pinned], laidTests := true, laidLooks := .later }
def LinearDampsCardSaid : Prop := Claim7.holds Tryz.pinned (.plain (OpenSpec.ofChange linearDampsSpec)) linearDampsCard

/-- THE SECOND FORM's CARD OF 'monoclelaw35.LinearWithin'. -/
def linearWithinUptoCard : Claim7 := { stood := { row := linearWithinUptoRow, standIns := [], harness := (true, "1bbad7001c07aa65b6b7706e01d7b3e769c86139d6bcf49ed4e28b4960a014e9"), looks := true }, kinds := [], alts := [], laidByText := true, laidKinds := [.data, .data, .data, .data, .sentinel, .sentinel, .pinned], laidTests := true, laidLooks := .later }
def LinearWithinUptoCardSaid : Prop := Claim7.holds Tryz.pinned (.plain (OpenSpec.upto linearWithinSpec)) linearWithinUptoCard

/-- THE SECOND FORM's CARD OF 'monoclelaw35.LinearDamps'. -/
def linearDampsUptoCard : Claim7 := { stood := { row := linearDampsUptoRow, standIns := [], harness := (true, "1bbad7001c07aa65b6b7706e01d7b3e769c86139d6bcf49ed4e28b4960a014e9"), looks := true }, kinds := [], alts := [], laidByText := true, laidKinds := [.data, .data, .data, .data, .sentinel, .sentinel, .pinned], laidTests := true, laidLooks := .later }
def LinearDampsUptoCardSaid : Prop := Claim7.holds Tryz.pinned (.plain (OpenSpec.upto linearDampsSpec)) linearDampsUptoCard
end Rows
end Go.Proofs.YtdigbofiebfkeaaGreatDoor
