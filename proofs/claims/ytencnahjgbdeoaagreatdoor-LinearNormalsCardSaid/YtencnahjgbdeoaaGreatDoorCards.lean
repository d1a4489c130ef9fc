/-
  DERIVED. GIVEN WITH THE SEED: THE CARDS: each row of YtencnahjgbdeoaaGreatDoorRows.lean that lists a variable, with what it lists TIED to the program's text (the seventh form; the later family's looks); each row that meets fmt, with fmt's text TOLD by the authors' own Lean function (tested against real Go, not proved from fmt's source: count such statements apart). THE CARD IS WHAT COUNTS. Prove the row's statement (the work); the ties are given (YtencnahjgbdeoaaGreatDoorTie.lean); close each card by the builder's one call (the guide's Derived/Test/ToyasCard.lean, 'card_holds'). Laid BY PROGRAM, IN A SANDBOX (cutbox-door.mjs). By AI agents, Wed Nov 11 2026. No macro, syntax, notation, axiom, sorry.
-/
import Derived.Test.YtencnahjgbdeoaaGreatDoorRows
import GoSem.ClaimSeven
namespace Go.Proofs.YtencnahjgbdeoaaGreatDoor
namespace Rows

/-- THE TIED CARD OF 'monoclelaw35.LinearSolves'. -/
def linearSolvesCard : Claim7 := { stood := { row := linearSolvesRow, standIns := [], harness := (true, "3144f6b5ccfa00d3da5fdae7b34991d4b160b503dbe52d6393cb0115c9799e48"), looks := true }, kinds := [], alts := [], laidByText := true, laidKinds := [.data, .data, .data, .data, .sentinel, .sentinel, .pinned], laidTests := true, laidLooks := .later }
def LinearSolvesCardSaid : Prop := Claim7.holds Tryz.pinned (.plain (OpenSpec.ofChange linearSolvesSpec)) linearSolvesCard

/-- THE TIED CARD OF 'monoclelaw35.LinearNormals'. -/
def linearNormalsCard : Claim7 := { stood := { row := linearNormalsRow, standIns := [], harness := (true, "3144f6b5ccfa00d3da5fdae7b34991d4b160b503dbe52d6393cb0115c9799e48"), looks := true }, kinds := [], alts := [], laidByText := true, laidKinds := [.data, .data, .data, .data, .sentinel, .sentinel, .pinned], laidTests := true, laidLooks := .later }
def LinearNormalsCardSaid : Prop := Claim7.holds Tryz.pinned (.plain (OpenSpec.ofChange linearNormalsSpec)) linearNormalsCard

/-- THE TIED CARD OF 'monoclelaw35.LinearLeasts'. -/
def linearLeastsCard : Claim7 := { stood := { row := linearLeastsRow, standIns := [], harness := (true, "3144f6b5ccfa00d3da5fdae7b34991d4b160b503dbe52d6393cb0115c9799e48"), looks := true }, kinds := [], alts := [], laidByText := true, laidKinds := [.data, .data, .data, .data, .sentinel, .sentinel, .pinned], laidTests := true, laidLooks := .later }
def LinearLeastsCardSaid : Prop := Claim7.holds Tryz.pinned (.plain (OpenSpec.ofChange linearLeastsSpec)) linearLeastsCard

/-- THE TIED CARD OF 'monoclelaw35.LinearBounds'. -/
def linearBoundsCard : Claim7 := { stood := { row := linearBoundsRow, standIns := [], harness := (true, "3144f6b5ccfa00d3da5fdae7b34991d4b160b503dbe52d6393cb0115c9799e48"), looks := true }, kinds := [], alts := [], laidByText := true, laidKinds := [.data, .data, .data, .data, .sentinel, .sentinel, .pinned], laidTests := true, laidLooks := .later }
def LinearBoundsCardSaid : Prop := Claim7.holds Tryz.pinned (.plain (OpenSpec.ofChange linearBoundsSpec)) linearBoundsCard

/-- THE SECOND FORM's CARD OF 'monoclelaw35.LinearSolves'. -/
def linearSolvesUptoCard : Claim7 := { stood := { row := linearSolvesUptoRow, standIns := [], harness := (true, "3144f6b5ccfa00d3da5fdae7b34991d4b160b503dbe52d6393cb0115c9799e48"), looks := true }, kinds := [], alts := [], laidByText := true, laidKinds := [.data, .data, .data, .data, .sentinel, .sentinel, .pinned], laidTests := true, laidLooks := .later }
def LinearSolvesUptoCardSaid : Prop := Claim7.holds Tryz.pinned (.plain (OpenSpec.upto linearSolvesSpec)) linearSolvesUptoCard

/-- THE SECOND FORM's CARD OF 'monoclelaw35.LinearNormals'. -/
def linearNormalsUptoCard : Claim7 := { stood := { row := linearNormalsUptoRow, standIns := [], harness := (true, "3144f6b5ccfa00d3da5fdae7b34991d4b160b503dbe52d6393cb0115c9799e48"), looks := true }, kinds := [], alts := [], laidByText := true, laidKinds := [.data, .data, .data, .data, .sentinel, .sentinel, .pinned], laidTests := true, laidLooks := .later }
def LinearNormalsUptoCardSaid : Prop := Claim7.holds Tryz.pinned (.plain (OpenSpec.upto linearNormalsSpec)) linearNormalsUptoCard

/-- THE SECOND FORM's CARD OF 'monoclelaw35.LinearLeasts'. -/
def linearLeastsUptoCard : Claim7 := { stood := { row := linearLeastsUptoRow, standIns := [], harness := (true, "3144f6b5ccfa00d3da5fdae7b34991d4b160b503dbe52d6393cb0115c9799e48"), looks := true }, kinds := [], alts := [], laidByText := true, laidKinds := [.data, .data, .data, .data, .sentinel, .sentinel, .pinned], laidTests := true, laidLooks := .later }
def LinearLeastsUptoCardSaid : Prop := Claim7.holds Tryz.pinned (.plain (OpenSpec.upto linearLeastsSpec)) linearLeastsUptoCard

/-- THE SECOND FORM's CARD OF 'monoclelaw35.LinearBounds'. -/
def linearBoundsUptoCard : Claim7 := { stood := { row := linearBoundsUptoRow, standIns := [], harness := (true, "3144f6b5ccfa00d3da5fdae7b34991d4b160b503dbe52d6393cb0115c9799e48"), looks := true }, kinds := [], alts := [], laidByText := true, laidKinds := [.data, .data, .data, .data, .sentinel, .sentinel, .pinned], laidTests := true, laidLooks := .later }
def LinearBoundsUptoCardSaid : Prop := Claim7.holds Tryz.pinned (.plain (OpenSpec.upto linearBoundsSpec)) linearBoundsUptoCard
end Rows
end Go.Proofs.YtencnahjgbdeoaaGreatDoor
