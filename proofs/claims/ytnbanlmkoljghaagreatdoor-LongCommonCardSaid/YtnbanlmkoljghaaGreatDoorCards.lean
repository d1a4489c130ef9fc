/-
  DERIVED. GIVEN WITH THE SEED: THE CARDS: each row of YtnbanlmkoljghaaGreatDoorRows.lean that lists a variable, with what it lists TIED to the program's text (the seventh form; the later family's looks); each row that meets fmt, with fmt's text TOLD by the authors' own Lean function (tested against real Go, not proved from fmt's source: count such statements apart). THE CARD IS WHAT COUNTS. Prove the row's statement (the work); the ties are given (YtnbanlmkoljghaaGreatDoorTie.lean); close each card by the builder's one call (the guide's Derived/Test/ToyasCard.lean, 'card_holds'). Laid BY PROGRAM, IN A SANDBOX (cutbox-door.mjs). By AI agents, Wed Nov 11 2026. No macro, syntax, notation, axiom, sorry.
-/
import Derived.Test.YtnbanlmkoljghaaGreatDoorRows
import GoSem.ClaimSeven
namespace Go.Proofs.YtnbanlmkoljghaaGreatDoor
namespace Rows

/-- THE TIED CARD OF 'monoclelaw03.LongProducts'. -/
def longProductsCard : Claim7 := { stood := { row := longProductsRow, standIns := [], harness := (true, "651c0c1e9b088a5cadfef3132f54f09805fdd6dfc47d206679947fa769aa6cb2"), looks := true }, kinds := [], alts := [], laidByText := true, laidKinds := [.data, .data, .data, .data, .sentinel, .sentinel, .pinned], laidTests := true, laidLooks := .later }
def LongProductsCardSaid : Prop := Claim7.holds Tryz.pinned (.plain (OpenSpec.ofChange longProductsSpec)) longProductsCard

/-- THE TIED CARD OF 'monoclelaw03.LongCommon'. -/
def longCommonCard : Claim7 := { stood := { row := longCommonRow, standIns := [], harness := (true, "651c0c1e9b088a5cadfef3132f54f09805fdd6dfc47d206679947fa769aa6cb2"), looks := true }, kinds := [], alts := [], laidByText := true, laidKinds := [.data, .data, .data, .data, .sentinel, .sentinel, .pinned], laidTests := true, laidLooks := .later }
def LongCommonCardSaid : Prop := Claim7.holds Tryz.pinned (.plain (OpenSpec.ofChange longCommonSpec)) longCommonCard

/-- THE TIED CARD OF 'monoclelaw03.LongRoots'. -/
def longRootsCard : Claim7 := { stood := { row := longRootsRow, standIns := [], harness := (true, "651c0c1e9b088a5cadfef3132f54f09805fdd6dfc47d206679947fa769aa6cb2"), looks := true }, kinds := [], alts := [], laidByText := true, laidKinds := [.data, .data, .data, .data, .sentinel, .sentinel, .pinned], laidTests := true, laidLooks := .later }
def LongRootsCardSaid : Prop := Claim7.holds Tryz.pinned (.plain (OpenSpec.ofChange longRootsSpec)) longRootsCard

/-- THE TIED CARD OF 'monoclelaw03.LongTexts'. -/
def longTextsCard : Claim7 := { stood := { row := longTextsRow, standIns := [], harness := (true, "651c0c1e9b088a5cadfef3132f54f09805fdd6dfc47d206679947fa769aa6cb2"), looks := true }, kinds := [], alts := [], laidByText := true, laidKinds := [.data, .data, .data, .data, .sentinel, .sentinel, .pinned], laidTests := true, laidLooks := .later }
def LongTextsCardSaid : Prop := Claim7.holds Tryz.pinned (.plain (OpenSpec.ofChange longTextsSpec)) longTextsCard

/-- THE TIED CARD OF 'monoclelaw03.LongFactors'. -/
def longFactorsCard : Claim7 := { stood := { row := longFactorsRow, standIns := [], harness := (true, "651c0c1e9b088a5cadfef3132f54f09805fdd6dfc47d206679947fa769aa6cb2"), looks := true }, kinds := [], alts := [], laidByText := true, laidKinds := [.data, .data, .data, .data, .sentinel, .sentinel, .pinned], laidTests := true, laidLooks := .later }
def LongFactorsCardSaid : Prop := Claim7.holds Tryz.pinned (.plain (OpenSpec.ofChange longFactorsSpec)) longFactorsCard

/-- THE TIED CARD OF 'monoclelaw03.LongBack'. -/
def longBackCard : Claim7 := { stood := { row := longBackRow, standIns := [], harness := (true, "651c0c1e9b088a5cadfef3132f54f09805fdd6dfc47d206679947fa769aa6cb2"), looks := true }, kinds := [], alts := [], laidByText := true, laidKinds := [.data, .data, .data, .data, .sentinel, .sentinel, .pinned], laidTests := true, laidLooks := .later }
def LongBackCardSaid : Prop := Claim7.holds Tryz.pinned (.plain (OpenSpec.ofChange longBackSpec)) longBackCard

/-- THE TIED CARD OF 'monoclelaw03.LongRing'. -/
def longRingCard : Claim7 := { stood := { row := longRingRow, standIns := [], harness := (true, "651c0c1e9b088a5cadfef3132f54f09805fdd6dfc47d206679947fa769aa6cb2"), looks := true }, kinds := [], alts := [], laidByText := true, laidKinds := [.data, .data, .data, .data, .sentinel, .sentinel, .pinned], laidTests := true, laidLooks := .later }
def LongRingCardSaid : Prop := Claim7.holds Tryz.pinned (.plain (OpenSpec.ofChange longRingSpec)) longRingCard

/-- THE TIED CARD OF 'monoclelaw03.LongSums'. -/
def longSumsCard : Claim7 := { stood := { row := longSumsRow, standIns := [], harness := (true, "651c0c1e9b088a5cadfef3132f54f09805fdd6dfc47d206679947fa769aa6cb2"), looks := true }, kinds := [], alts := [], laidByText := true, laidKinds := [.data, .data, .data, .data, .sentinel, .sentinel, .pinned], laidTests := true, laidLooks := .later }
def LongSumsCardSaid : Prop := Claim7.holds Tryz.pinned (.plain (OpenSpec.ofChange longSumsSpec)) longSumsCard

/-- THE TIED CARD OF 'monoclelaw03.LongMakes'. -/
def longMakesCard : Claim7 := { stood := { row := longMakesRow, standIns := [], harness := (true, "651c0c1e9b088a5cadfef3132f54f09805fdd6dfc47d206679947fa769aa6cb2"), looks := true }, kinds := [], alts := [], laidByText := true, laidKinds := [.data, .data, .data, .data, .sentinel, .sentinel, .pinned], laidTests := true, laidLooks := .later }
def LongMakesCardSaid : Prop := Claim7.holds Tryz.pinned (.plain (OpenSpec.ofChange longMakesSpec)) longMakesCard

/-- THE TIED CARD OF 'monoclelaw03.LongDivides'. -/
def longDividesCard : Claim7 := { stood := { row := longDividesRow, standIns := [], harness := (true, "651c0c1e9b088a5cadfef3132f54f09805fdd6dfc47d206679947fa769aa6cb2"), looks := true }, kinds := [], alts := [], laidByText := true, laidKinds := [.data, .data, .data, .data, .sentinel, .sentinel, .pinned], laidTests := true, laidLooks := .later }
def LongDividesCardSaid : Prop := Claim7.holds Tryz.pinned (.plain (OpenSpec.ofChange longDividesSpec)) longDividesCard

/-- THE TIED CARD OF 'monoclelaw03.LongSquares'. -/
def longSquaresCard : Claim7 := { stood := { row := longSquaresRow, standIns := [], harness := (true, "651c0c1e9b088a5cadfef3132f54f09805fdd6dfc47d206679947fa769aa6cb2"), looks := true }, kinds := [], alts := [], laidByText := true, laidKinds := [.data, .data, .data, .data, .sentinel, .sentinel, .pinned], laidTests := true, laidLooks := .later }
def LongSquaresCardSaid : Prop := Claim7.holds Tryz.pinned (.plain (OpenSpec.ofChange longSquaresSpec)) longSquaresCard

/-- THE TIED CARD OF 'monoclelaw03.LongInts'. -/
def longIntsCard : Claim7 := { stood := { row := longIntsRow, standIns := [], harness := (true, "651c0c1e9b088a5cadfef3132f54f09805fdd6dfc47d206679947fa769aa6cb2"), looks := true }, kinds := [], alts := [], laidByText := true, laidKinds := [.data, .data, .data, .data, .sentinel, .sentinel, .pinned], laidTests := true, laidLooks := .later }
def LongIntsCardSaid : Prop := Claim7.holds Tryz.pinned (.plain (OpenSpec.ofChange longIntsSpec)) longIntsCard

/-- THE TIED CARD OF 'monoclelaw03.LongKnown'. -/
def longKnownCard : Claim7 := { stood := { row := longKnownRow, standIns := [], harness := (true, "651c0c1e9b088a5cadfef3132f54f09805fdd6dfc47d206679947fa769aa6cb2"), looks := true }, kinds := [], alts := [], laidByText := true, laidKinds := [.data, .data, .data, .data, .sentinel, .sentinel, .pinned], laidTests := true, laidLooks := .later }
def LongKnownCardSaid : Prop := Claim7.holds Tryz.pinned (.plain (OpenSpec.ofChange longKnownSpec)) longKnownCard

/-- THE SECOND FORM's CARD OF 'monoclelaw03.LongProducts'. -/
def longProductsUptoCard : Claim7 := { stood := { row := longProductsUptoRow, standIns := [], harness := (true, "651c0c1e9b088a5cadfef3132f54f09805fdd6dfc47d206679947fa769aa6cb2"), looks := true }, kinds := [], alts := [], laidByText := true, laidKinds := [.data, .data, .data, .data, .sentinel, .sentinel, .pinned], laidTests := true, laidLooks := .later }
def LongProductsUptoCardSaid : Prop := Claim7.holds Tryz.pinned (.plain (OpenSpec.upto longProductsSpec)) longProductsUptoCard

/-- THE SECOND FORM's CARD OF 'monoclelaw03.LongCommon'. -/
def longCommonUptoCard : Claim7 := { stood := { row := longCommonUptoRow, standIns := [], harness := (true, "651c0c1e9b088a5cadfef3132f54f09805fdd6dfc47d206679947fa769aa6cb2"), looks := true }, kinds := [], alts := [], laidByText := true, laidKinds := [.data, .data, .data, .data, .sentinel, .sentinel, .pinned], laidTests := true, laidLooks := .later }
def LongCommonUptoCardSaid : Prop := Claim7.holds Tryz.pinned (.plain (OpenSpec.upto longCommonSpec)) longCommonUptoCard

/-- THE SECOND FORM's CARD OF 'monoclelaw03.LongRoots'. -/
def longRootsUptoCard : Claim7 := { stood := { row := longRootsUptoRow, standIns := [], harness := (true, "651c0c1e9b088a5cadfef3132f54f09805fdd6dfc47d206679947fa769aa6cb2"), looks := true }, kinds := [], alts := [], laidByText := true, laidKinds := [.data, .data, .data, .data, .sentinel, .sentinel, .pinned], laidTests := true, laidLooks := .later }
def LongRootsUptoCardSaid : Prop := Claim7.holds Tryz.pinned (.plain (OpenSpec.upto longRootsSpec)) longRootsUptoCard

/-- THE SECOND FORM's CARD OF 'monoclelaw03.LongTexts'. -/
def longTextsUptoCard : Claim7 := { stood := { row := longTextsUptoRow, standIns := [], harness := (true, "651c0c1e9b088a5cadfef3132f54f09805fdd6dfc47d206679947fa769aa6cb2"), looks := true }, kinds := [], alts := [], laidByText := true, laidKinds := [.data, .data, .data, .data, .sentinel, .sentinel, .pinned], laidTests := true, laidLooks := .later }
def LongTextsUptoCardSaid : Prop := Claim7.holds Tryz.pinned (.plain (OpenSpec.upto longTextsSpec)) longTextsUptoCard

/-- THE SECOND FORM's CARD OF 'monoclelaw03.LongFactors'. -/
def longFactorsUptoCard : Claim7 := { stood := { row := longFactorsUptoRow, standIns := [], harness := (true, "651c0c1e9b088a5cadfef3132f54f09805fdd6dfc47d206679947fa769aa6cb2"), looks := true }, kinds := [], alts := [], laidByText := true, laidKinds := [.data, .data, .data, .data, .sentinel, .sentinel, .pinned], laidTests := true, laidLooks := .later }
def LongFactorsUptoCardSaid : Prop := Claim7.holds Tryz.pinned (.plain (OpenSpec.upto longFactorsSpec)) longFactorsUptoCard

/-- THE SECOND FORM's CARD OF 'monoclelaw03.LongBack'. -/
def longBackUptoCard : Claim7 := { stood := { row := longBackUptoRow, standIns := [], harness := (true, "651c0c1e9b088a5cadfef3132f54f09805fdd6dfc47d206679947fa769aa6cb2"), looks := true }, kinds := [], alts := [], laidByText := true, laidKinds := [.data, .data, .data, .data, .sentinel, .sentinel, .pinned], laidTests := true, laidLooks := .later }
def LongBackUptoCardSaid : Prop := Claim7.holds Tryz.pinned (.plain (OpenSpec.upto longBackSpec)) longBackUptoCard

/-- THE SECOND FORM's CARD OF 'monoclelaw03.LongRing'. -/
def longRingUptoCard : Claim7 := { stood := { row := longRingUptoRow, standIns := [], harness := (true, "651c0c1e9b088a5cadfef3132f54f09805fdd6dfc47d206679947fa769aa6cb2"), looks := true }, kinds := [], alts := [], laidByText := true, laidKinds := [.data, .data, .data, .data, .sentinel, .sentinel, .pinned], laidTests := true, laidLooks := .later }
def LongRingUptoCardSaid : Prop := Claim7.holds Tryz.pinned (.plain (OpenSpec.upto longRingSpec)) longRingUptoCard

/-- THE SECOND FORM's CARD OF 'monoclelaw03.LongSums'. -/
def longSumsUptoCard : Claim7 := { stood := { row := longSumsUptoRow, standIns := [], harness := (true, "651c0c1e9b088a5cadfef3132f54f09805fdd6dfc47d206679947fa769aa6cb2"), looks := true }, kinds := [], alts := [], laidByText := true, laidKinds := [.data, .data, .data, .data, .sentinel, .sentinel, .pinned], laidTests := true, laidLooks := .later }
def LongSumsUptoCardSaid : Prop := Claim7.holds Tryz.pinned (.plain (OpenSpec.upto longSumsSpec)) longSumsUptoCard

/-- THE SECOND FORM's CARD OF 'monoclelaw03.LongMakes'. -/
def longMakesUptoCard : Claim7 := { stood := { row := longMakesUptoRow, standIns := [], harness := (true, "651c0c1e9b088a5cadfef3132f54f09805fdd6dfc47d206679947fa769aa6cb2"), looks := true }, kinds := [], alts := [], laidByText := true, laidKinds := [.data, .data, .data, .data, .sentinel, .sentinel, .pinned], laidTests := true, laidLooks := .later }
def LongMakesUptoCardSaid : Prop := Claim7.holds Tryz.pinned (.plain (OpenSpec.upto longMakesSpec)) longMakesUptoCard

/-- THE SECOND FORM's CARD OF 'monoclelaw03.LongDivides'. -/
def longDividesUptoCard : Claim7 := { stood := { row := longDividesUptoRow, standIns := [], harness := (true, "651c0c1e9b088a5cadfef3132f54f09805fdd6dfc47d206679947fa769aa6cb2"), looks := true }, kinds := [], alts := [], laidByText := true, laidKinds := [.data, .data, .data, .data, .sentinel, .sentinel, .pinned], laidTests := true, laidLooks := .later }
def LongDividesUptoCardSaid : Prop := Claim7.holds Tryz.pinned (.plain (OpenSpec.upto longDividesSpec)) longDividesUptoCard

/-- THE SECOND FORM's CARD OF 'monoclelaw03.LongSquares'. -/
def longSquaresUptoCard : Claim7 := { stood := { row := longSquaresUptoRow, standIns := [], harness := (true, "651c0c1e9b088a5cadfef3132f54f09805fdd6dfc47d206679947fa769aa6cb2"), looks := true }, kinds := [], alts := [], laidByText := true, laidKinds := [.data, .data, .data, .data, .sentinel, .sentinel, .pinned], laidTests := true, laidLooks := .later }
def LongSquaresUptoCardSaid : Prop := Claim7.holds Tryz.pinned (.plain (OpenSpec.upto longSquaresSpec)) longSquaresUptoCard

/-- THE SECOND FORM's CARD OF 'monoclelaw03.LongInts'. -/
def longIntsUptoCard : Claim7 := { stood := { row := longIntsUptoRow, standIns := [], harness := (true, "651c0c1e9b088a5cadfef3132f54f09805fdd6dfc47d206679947fa769aa6cb2"), looks := true }, kinds := [], alts := [], laidByText := true, laidKinds := [.data, .data, .data, .data, .sentinel, .sentinel, .pinned], laidTests := true, laidLooks := .later }
def LongIntsUptoCardSaid : Prop := Claim7.holds Tryz.pinned (.plain (OpenSpec.upto longIntsSpec)) longIntsUptoCard

/-- THE SECOND FORM's CARD OF 'monoclelaw03.LongKnown'. -/
def longKnownUptoCard : Claim7 := { stood := { row := longKnownUptoRow, standIns := [], harness := (true, "651c0c1e9b088a5cadfef3132f54f09805fdd6dfc47d206679947fa769aa6cb2"), looks := true }, kinds := [], alts := [], laidByText := true, laidKinds := [.data, .data, .data, .data, .sentinel, .sentinel, .pinned], laidTests := true, laidLooks := .later }
def LongKnownUptoCardSaid : Prop := Claim7.holds Tryz.pinned (.plain (OpenSpec.upto longKnownSpec)) longKnownUptoCard
end Rows
end Go.Proofs.YtnbanlmkoljghaaGreatDoor
