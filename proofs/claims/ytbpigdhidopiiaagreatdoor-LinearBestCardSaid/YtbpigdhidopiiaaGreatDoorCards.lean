/-
  DERIVED. GIVEN WITH THE SEED: THE CARDS: each row of YtbpigdhidopiiaaGreatDoorRows.lean that lists a variable, with what it lists TIED to the program's text (the seventh form; the later family's looks); each row that meets fmt, with fmt's text TOLD by the authors' own Lean function (tested against real Go, not proved from fmt's source: count such statements apart). THE CARD IS WHAT COUNTS. Prove the row's statement (the work); the ties are given (YtbpigdhidopiiaaGreatDoorTie.lean); close each card by the builder's one call (the guide's Derived/Test/ToyasCard.lean, 'card_holds'). Laid BY PROGRAM, IN A SANDBOX (cutbox-door.mjs). By AI agents, Wed Nov 11 2026. No macro, syntax, notation, axiom, sorry.
-/
import Derived.Test.YtbpigdhidopiiaaGreatDoorRows
import GoSem.ClaimSeven
namespace Go.Proofs.YtbpigdhidopiiaaGreatDoor
namespace Rows

/-- THE TIED CARD OF 'monoclelaw35.LinearSolves'. -/
def linearSolvesCard : Claim7 := { stood := { row := linearSolvesRow, standIns := [], harness := (true, "5d2722cfb5c1ce42643272691737c48aba0260e57cc3aff94813a418eadfec5f"), looks := true }, kinds := [], alts := [], laidByText := true, laidKinds := [.data, .data, .data, .data, .sentinel, .sentinel, .pinned], laidTests := true, laidLooks := .later }
def LinearSolvesCardSaid : Prop := Claim7.holds Tryz.pinned (.plain (OpenSpec.ofChange linearSolvesSpec)) linearSolvesCard

/-- THE TIED CARD OF 'monoclelaw35.LinearNormals'. -/
def linearNormalsCard : Claim7 := { stood := { row := linearNormalsRow, standIns := [], harness := (true, "5d2722cfb5c1ce42643272691737c48aba0260e57cc3aff94813a418eadfec5f"), looks := true }, kinds := [], alts := [], laidByText := true, laidKinds := [.data, .data, .data, .data, .sentinel, .sentinel, .pinned], laidTests := true, laidLooks := .later }
def LinearNormalsCardSaid : Prop := Claim7.holds Tryz.pinned (.plain (OpenSpec.ofChange linearNormalsSpec)) linearNormalsCard

/-- THE TIED CARD OF 'monoclelaw35.LinearLeasts'. -/
def linearLeastsCard : Claim7 := { stood := { row := linearLeastsRow, standIns := [], harness := (true, "5d2722cfb5c1ce42643272691737c48aba0260e57cc3aff94813a418eadfec5f"), looks := true }, kinds := [], alts := [], laidByText := true, laidKinds := [.data, .data, .data, .data, .sentinel, .sentinel, .pinned], laidTests := true, laidLooks := .later }
def LinearLeastsCardSaid : Prop := Claim7.holds Tryz.pinned (.plain (OpenSpec.ofChange linearLeastsSpec)) linearLeastsCard

/-- THE TIED CARD OF 'monoclelaw35.LinearBounds'. -/
def linearBoundsCard : Claim7 := { stood := { row := linearBoundsRow, standIns := [], harness := (true, "5d2722cfb5c1ce42643272691737c48aba0260e57cc3aff94813a418eadfec5f"), looks := true }, kinds := [], alts := [], laidByText := true, laidKinds := [.data, .data, .data, .data, .sentinel, .sentinel, .pinned], laidTests := true, laidLooks := .later }
def LinearBoundsCardSaid : Prop := Claim7.holds Tryz.pinned (.plain (OpenSpec.ofChange linearBoundsSpec)) linearBoundsCard

/-- THE TIED CARD OF 'monoclelaw35.LinearExact'. -/
def linearExactCard : Claim7 := { stood := { row := linearExactRow, standIns := [], harness := (true, "5d2722cfb5c1ce42643272691737c48aba0260e57cc3aff94813a418eadfec5f"), looks := true }, kinds := [], alts := [], laidByText := true, laidKinds := [.data, .data, .data, .data, .sentinel, .sentinel, .pinned], laidTests := true, laidLooks := .later }
def LinearExactCardSaid : Prop := Claim7.holds Tryz.pinned (.plain (OpenSpec.ofChange linearExactSpec)) linearExactCard

/-- THE TIED CARD OF 'monoclelaw35.LinearBest'. -/
def linearBestCard : Claim7 := { stood := { row := linearBestRow, standIns := [], harness := (true, "5d2722cfb5c1ce42643272691737c48aba0260e57cc3aff94813a418eadfec5f"), looks := true }, kinds := [], alts := [], laidByText := true, laidKinds := [.data, .data, .data, .data, .sentinel, .sentinel, .pinned], laidTests := true, laidLooks := .later }
def LinearBestCardSaid : Prop := Claim7.holds Tryz.pinned (.plain (OpenSpec.ofChange linearBestSpec)) linearBestCard

/-- THE TIED CARD OF 'monoclelaw35.LinearWithin'. -/
def linearWithinCard : Claim7 := { stood := { row := linearWithinRow, standIns := [], harness := (true, "5d2722cfb5c1ce42643272691737c48aba0260e57cc3aff94813a418eadfec5f"), looks := true }, kinds := [], alts := [], laidByText := true, laidKinds := [.data, .data, .data, .data, .sentinel, .sentinel, .pinned], laidTests := true, laidLooks := .later }
def LinearWithinCardSaid : Prop := Claim7.holds Tryz.pinned (.plain (OpenSpec.ofChange linearWithinSpec)) linearWithinCard

/-- THE TIED CARD OF 'monoclelaw35.LinearDamps'. -/
def linearDampsCard : Claim7 := { stood := { row := linearDampsRow, standIns := [], harness := (true, "5d2722cfb5c1ce42643272691737c48aba0260e57cc3aff94813a418eadfec5f"), looks := true }, kinds := [], alts := [], laidByText := true, laidKinds := [.data, .data, .data, .data, .sentinel, .sentinel, .pinned], laidTests := true, laidLooks := .later }
def LinearDampsCardSaid : Prop := Claim7.holds Tryz.pinned (.plain (OpenSpec.ofChange linearDampsSpec)) linearDampsCard

/-- THE SECOND FORM's CARD OF 'monoclelaw35.LinearSolves'. -/
def linearSolvesUptoCard : Claim7 := { stood := { row := linearSolvesUptoRow, standIns := [], harness := (true, "5d2722cfb5c1ce42643272691737c48aba0260e57cc3aff94813a418eadfec5f"), looks := true }, kinds := [], alts := [], laidByText := true, laidKinds := [.data, .data, .data, .data, .sentinel, .sentinel, .pinned], laidTests := true, laidLooks := .later }
def LinearSolvesUptoCardSaid : Prop := Claim7.holds Tryz.pinned (.plain (OpenSpec.upto linearSolvesSpec)) linearSolvesUptoCard

/-- THE SECOND FORM's CARD OF 'monoclelaw35.LinearNormals'. -/
def linearNormalsUptoCard : Claim7 := { stood := { row := linearNormalsUptoRow, standIns := [], harness := (true, "5d2722cfb5c1ce42643272691737c48aba0260e57cc3aff94813a418eadfec5f"), looks := true }, kinds := [], alts := [], laidByText := true, laidKinds := [.data, .data, .data, .data, .sentinel, .sentinel, .pinned], laidTests := true, laidLooks := .later }
def LinearNormalsUptoCardSaid : Prop := Claim7.holds Tryz.pinned (.plain (OpenSpec.upto linearNormalsSpec)) linearNormalsUptoCard

/-- THE SECOND FORM's CARD OF 'monoclelaw35.LinearLeasts'. -/
def linearLeastsUptoCard : Claim7 := { stood := { row := linearLeastsUptoRow, standIns := [], harness := (true, "5d2722cfb5c1ce42643272691737c48aba0260e57cc3aff94813a418eadfec5f"), looks := true }, kinds := [], alts := [], laidByText := true, laidKinds := [.data, .data, .data, .data, .sentinel, .sentinel, .pinned], laidTests := true, laidLooks := .later }
def LinearLeastsUptoCardSaid : Prop := Claim7.holds Tryz.pinned (.plain (OpenSpec.upto linearLeastsSpec)) linearLeastsUptoCard

/-- THE SECOND FORM's CARD OF 'monoclelaw35.LinearBounds'. -/
def linearBoundsUptoCard : Claim7 := { stood := { row := linearBoundsUptoRow, standIns := [], harness := (true, "5d2722cfb5c1ce42643272691737c48aba0260e57cc3aff94813a418eadfec5f"), looks := true }, kinds := [], alts := [], laidByText := true, laidKinds := [.data, .data, .data, .data, .sentinel, .sentinel, .pinned], laidTests := true, laidLooks := .later }
def LinearBoundsUptoCardSaid : Prop := Claim7.holds Tryz.pinned (.plain (OpenSpec.upto linearBoundsSpec)) linearBoundsUptoCard

/-- THE SECOND FORM's CARD OF 'monoclelaw35.LinearExact'. -/
def linearExactUptoCard : Claim7 := { stood := { row := linearExactUptoRow, standIns := [], harness := (true, "5d2722cfb5c1ce42643272691737c48aba0260e57cc3aff94813a418eadfec5f"), looks := true }, kinds := [], alts := [], laidByText := true, laidKinds := [.data, .data, .data, .data, .sentinel, .sentinel, .pinned], laidTests := true, laidLooks := .later }
def LinearExactUptoCardSaid : Prop := Claim7.holds Tryz.pinned (.plain (OpenSpec.upto linearExactSpec)) linearExactUptoCard

/-- THE SECOND FORM's CARD OF 'monoclelaw35.LinearBest'. -/
def linearBestUptoCard : Claim7 := { stood := { row := linearBestUptoRow, standIns := [], harness := (true, "5d2722cfb5c1ce42643272691737c48aba0260e57cc3aff94813a418eadfec5f"), looks := true }, kinds := [], alts := [], laidByText := true, laidKinds := [.data, .data, .data, .data, .sentinel, .sentinel, .pinned], laidTests := true, laidLooks := .later }
def LinearBestUptoCardSaid : Prop := Claim7.holds Tryz.pinned (.plain (OpenSpec.upto linearBestSpec)) linearBestUptoCard

/-- THE SECOND FORM's CARD OF 'monoclelaw35.LinearWithin'. -/
def linearWithinUptoCard : Claim7 := { stood := { row := linearWithinUptoRow, standIns := [], harness := (true, "5d2722cfb5c1ce42643272691737c48aba0260e57cc3aff94813a418eadfec5f"), looks := true }, kinds := [], alts := [], laidByText := true, laidKinds := [.data, .data, .data, .data, .sentinel, .sentinel, .pinned], laidTests := true, laidLooks := .later }
def LinearWithinUptoCardSaid : Prop := Claim7.holds Tryz.pinned (.plain (OpenSpec.upto linearWithinSpec)) linearWithinUptoCard

/-- THE SECOND FORM's CARD OF 'monoclelaw35.LinearDamps'. -/
def linearDampsUptoCard : Claim7 := { stood := { row := linearDampsUptoRow, standIns := [], harness := (true, "5d2722cfb5c1ce42643272691737c48aba0260e57cc3aff94813a418eadfec5f"), looks := true }, kinds := [], alts := [], laidByText := true, laidKinds := [.data, .data, .data, .data, .sentinel, .sentinel, .pinned], laidTests := true, laidLooks := .later }
def LinearDampsUptoCardSaid : Prop := Claim7.holds Tryz.pinned (.plain (OpenSpec.upto linearDampsSpec)) linearDampsUptoCard
end Rows
end Go.Proofs.YtbpigdhidopiiaaGreatDoor
