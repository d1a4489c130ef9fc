/-
  NARROWER THAN 'FOR EVERY INPUT', by the rows' own cells (each row's printed sentence says how): GlassChecks: laid · GlassIndexes: laid · GlassNear: laid · GlassFalls: laid · GlassAbbes: laid · GlassFlat: laid · GlassParts: laid · GlassKnown: laid.
  DERIVED. THE GIVEN ROWS OF THIS SEAT. 8 by the template 'for every input the law returns true; each argument reads behind the call as it read before'; 0 by the template 'total and deterministic' (their statements: YtkhljkiehohckaaGreatDoorTotals.lean).
  GIVEN WITH THE SEED: the statements are not yours to turn. If you find one false, say at which input.
  Laid BY PROGRAM, IN A SANDBOX (cutbox-rows.mjs): the forced cells as the released guide's own fill.sh prints them over the translation 8300d38616c9a620… (all of the seat's roots in one cut). By AI agents, Wed Nov 11 2026. No macro, syntax, notation, axiom, sorry.
-/
import Derived.Test.YtkhljkiehohckaaGreatDoorChecked
import GoSem.Claim
import GoSem.ClaimJoined
import GoSem.ClaimMapViews
import Derived.JoinedTies
import Derived.KernelRfl
namespace Go.Proofs.YtkhljkiehohckaaGreatDoor
/- THE CELL 'sum', in the pinned program and in every row, IS THE sha256 OF THE DUMP (.gsa) THAT YtkhljkiehohckaaGreatDoorProg.lean LOADS. Nothing in Lean hashes anything: it is a label: what it is worth is what the hold of that sum in a sandbox is worth. -/
noncomputable def Tryz.pinned : Pinned := { name := "ytkhljkiehohckaagreatdoor", sum := "8300d38616c9a6205249276526224b065a57707cfe0f15cd6de1587308fa2738", checked := Tryz.checked }
namespace Rows
def none {H : Type} : Left H := { results := [], args := [] }

/- WHAT THE LISTED PACKAGE-LEVEL VARIABLES READ AS WHEN THE CALL BEGINS. Each datum BY PROGRAM (the guide's laid-datum.mjs) off the statement by which the dump's own 'gosem.cut.vars' lays the variable. In a bare row this is a premise. The card (YtkhljkiehohckaaGreatDoorCards.lean) ties it to the program's text. -/
def laid_math_bits_deBruijn32tab {H : Type} : DataW H := .agg [.lit (.int .u8 0), .lit (.int .u8 1), .lit (.int .u8 28), .lit (.int .u8 2), .lit (.int .u8 29), .lit (.int .u8 14), .lit (.int .u8 24), .lit (.int .u8 3), .lit (.int .u8 30), .lit (.int .u8 22), .lit (.int .u8 20), .lit (.int .u8 15), .lit (.int .u8 25), .lit (.int .u8 17), .lit (.int .u8 4), .lit (.int .u8 8), .lit (.int .u8 31), .lit (.int .u8 27), .lit (.int .u8 13), .lit (.int .u8 23), .lit (.int .u8 21), .lit (.int .u8 19), .lit (.int .u8 16), .lit (.int .u8 7), .lit (.int .u8 26), .lit (.int .u8 12), .lit (.int .u8 18), .lit (.int .u8 6), .lit (.int .u8 11), .lit (.int .u8 5), .lit (.int .u8 10), .lit (.int .u8 9)]
def laid_math_bits_deBruijn64tab {H : Type} : DataW H := .agg [.lit (.int .u8 0), .lit (.int .u8 1), .lit (.int .u8 56), .lit (.int .u8 2), .lit (.int .u8 57), .lit (.int .u8 49), .lit (.int .u8 28), .lit (.int .u8 3), .lit (.int .u8 61), .lit (.int .u8 58), .lit (.int .u8 42), .lit (.int .u8 50), .lit (.int .u8 38), .lit (.int .u8 29), .lit (.int .u8 17), .lit (.int .u8 4), .lit (.int .u8 62), .lit (.int .u8 47), .lit (.int .u8 59), .lit (.int .u8 36), .lit (.int .u8 45), .lit (.int .u8 43), .lit (.int .u8 51), .lit (.int .u8 22), .lit (.int .u8 53), .lit (.int .u8 39), .lit (.int .u8 33), .lit (.int .u8 30), .lit (.int .u8 24), .lit (.int .u8 18), .lit (.int .u8 12), .lit (.int .u8 5), .lit (.int .u8 63), .lit (.int .u8 55), .lit (.int .u8 48), .lit (.int .u8 27), .lit (.int .u8 60), .lit (.int .u8 41), .lit (.int .u8 37), .lit (.int .u8 16), .lit (.int .u8 46), .lit (.int .u8 35), .lit (.int .u8 44), .lit (.int .u8 21), .lit (.int .u8 52), .lit (.int .u8 32), .lit (.int .u8 23), .lit (.int .u8 11), .lit (.int .u8 54), .lit (.int .u8 26), .lit (.int .u8 40), .lit (.int .u8 15), .lit (.int .u8 34), .lit (.int .u8 20), .lit (.int .u8 31), .lit (.int .u8 10), .lit (.int .u8 25), .lit (.int .u8 14), .lit (.int .u8 19), .lit (.int .u8 9), .lit (.int .u8 13), .lit (.int .u8 8), .lit (.int .u8 7), .lit (.int .u8 6)]
def laid_internal_strconv_uint64pow10 {H : Type} : DataW H := .agg [.lit (.int .u64 1), .lit (.int .u64 10), .lit (.int .u64 100), .lit (.int .u64 1000), .lit (.int .u64 10000), .lit (.int .u64 100000), .lit (.int .u64 1000000), .lit (.int .u64 10000000), .lit (.int .u64 100000000), .lit (.int .u64 1000000000), .lit (.int .u64 10000000000), .lit (.int .u64 100000000000), .lit (.int .u64 1000000000000), .lit (.int .u64 10000000000000), .lit (.int .u64 100000000000000), .lit (.int .u64 1000000000000000), .lit (.int .u64 10000000000000000), .lit (.int .u64 100000000000000000), .lit (.int .u64 1000000000000000000), .lit (.int .u64 10000000000000000000)]
def laid_strconv_ErrRange {H : Type} : DataW H := .iface "*errors.errorString" (.ptr (.agg [.lit (.string [118, 97, 108, 117, 101, 32, 111, 117, 116, 32, 111, 102, 32, 114, 97, 110, 103, 101])]))
def laid_strconv_ErrSyntax {H : Type} : DataW H := .iface "*errors.errorString" (.ptr (.agg [.lit (.string [105, 110, 118, 97, 108, 105, 100, 32, 115, 121, 110, 116, 97, 120])]))
def laid_monocle_glass_formulas {H : Type} : DataW H := .iface "func table" (.agg [.nil, .iface "func" (.lit (.string [40, 109, 111, 110, 111, 99, 108, 101, 47, 103, 108, 97, 115, 115, 46, 100, 105, 115, 112, 101, 114, 115, 105, 111, 110, 41, 46, 115, 101, 108, 108, 109, 101, 105, 101, 114])), .iface "func" (.lit (.string [40, 109, 111, 110, 111, 99, 108, 101, 47, 103, 108, 97, 115, 115, 46, 100, 105, 115, 112, 101, 114, 115, 105, 111, 110, 41, 46, 99, 97, 117, 99, 104, 121])), .iface "func" (.lit (.string [40, 109, 111, 110, 111, 99, 108, 101, 47, 103, 108, 97, 115, 115, 46, 100, 105, 115, 112, 101, 114, 115, 105, 111, 110, 41, 46, 115, 99, 104, 111, 116, 116]))])

/-- 'monoclelaw09.GlassChecks': WHATEVER THE INPUT: true; the input reads as it did. -/
def glassChecksSpec : ChangeSpec := { name := "glassChecks", fn := fun _ => fun
  | [d1, d2, d3, d4] => { results := [.lit (.bool true)], args := [d1, d2, d3, d4] }
  | _ => none }
def glassChecksRow : OpenClaim := { program := "ytkhljkiehohckaagreatdoor", sum := "8300d38616c9a6205249276526224b065a57707cfe0f15cd6de1587308fa2738", func := "monocle/monoclelaw09.GlassChecks", spec := "glassChecks", inPlace := ["internal/abi.NoEscape", "internal/bytealg.MakeNoZero"], unfollowed := true, recurses := true, named := ["monocle/glass.formulas", "internal/strconv.uint64pow10", "math/bits.deBruijn32tab", "math/bits.deBruijn64tab", "strconv.ErrSyntax", "strconv.ErrRange"], apart := false, laid := [("math/bits.deBruijn32tab", laid_math_bits_deBruijn32tab), ("math/bits.deBruijn64tab", laid_math_bits_deBruijn64tab), ("internal/strconv.uint64pow10", laid_internal_strconv_uint64pow10), ("strconv.ErrRange", laid_strconv_ErrRange), ("strconv.ErrSyntax", laid_strconv_ErrSyntax), ("monocle/glass.formulas", laid_monocle_glass_formulas)] }
def GlassChecksSaid : Prop := glassChecksRow.holds Tryz.pinned (OpenSpec.ofChange glassChecksSpec)

/-- ITS FALSE NEIGHBOUR: 'it returns false'. Refute it at one input. -/
def glassChecksWrong : ChangeSpec := { name := "glassChecks", fn := fun _ => fun
  | [d1, d2, d3, d4] => { results := [.lit (.bool false)], args := [d1, d2, d3, d4] }
  | _ => none }
def GlassChecksWrongFalsely : Prop := glassChecksRow.holds Tryz.pinned (OpenSpec.ofChange glassChecksWrong)

/-- 'monoclelaw09.GlassIndexes': WHATEVER THE INPUT: true; the input reads as it did. -/
def glassIndexesSpec : ChangeSpec := { name := "glassIndexes", fn := fun _ => fun
  | [d1, d2, d3] => { results := [.lit (.bool true)], args := [d1, d2, d3] }
  | _ => none }
def glassIndexesRow : OpenClaim := { program := "ytkhljkiehohckaagreatdoor", sum := "8300d38616c9a6205249276526224b065a57707cfe0f15cd6de1587308fa2738", func := "monocle/monoclelaw09.GlassIndexes", spec := "glassIndexes", inPlace := ["internal/abi.NoEscape", "internal/bytealg.MakeNoZero"], unfollowed := true, recurses := true, named := ["monocle/glass.formulas", "internal/strconv.uint64pow10", "math/bits.deBruijn32tab", "math/bits.deBruijn64tab", "strconv.ErrSyntax", "strconv.ErrRange"], apart := false, laid := [("math/bits.deBruijn32tab", laid_math_bits_deBruijn32tab), ("math/bits.deBruijn64tab", laid_math_bits_deBruijn64tab), ("internal/strconv.uint64pow10", laid_internal_strconv_uint64pow10), ("strconv.ErrRange", laid_strconv_ErrRange), ("strconv.ErrSyntax", laid_strconv_ErrSyntax), ("monocle/glass.formulas", laid_monocle_glass_formulas)] }
def GlassIndexesSaid : Prop := glassIndexesRow.holds Tryz.pinned (OpenSpec.ofChange glassIndexesSpec)

/-- ITS FALSE NEIGHBOUR: 'it returns false'. Refute it at one input. -/
def glassIndexesWrong : ChangeSpec := { name := "glassIndexes", fn := fun _ => fun
  | [d1, d2, d3] => { results := [.lit (.bool false)], args := [d1, d2, d3] }
  | _ => none }
def GlassIndexesWrongFalsely : Prop := glassIndexesRow.holds Tryz.pinned (OpenSpec.ofChange glassIndexesWrong)

/-- 'monoclelaw09.GlassNear': WHATEVER THE INPUT: true; the input reads as it did. -/
def glassNearSpec : ChangeSpec := { name := "glassNear", fn := fun _ => fun
  | [d1, d2, d3] => { results := [.lit (.bool true)], args := [d1, d2, d3] }
  | _ => none }
def glassNearRow : OpenClaim := { program := "ytkhljkiehohckaagreatdoor", sum := "8300d38616c9a6205249276526224b065a57707cfe0f15cd6de1587308fa2738", func := "monocle/monoclelaw09.GlassNear", spec := "glassNear", inPlace := ["internal/abi.NoEscape", "internal/bytealg.MakeNoZero"], unfollowed := true, recurses := true, named := ["monocle/glass.formulas", "internal/strconv.uint64pow10", "math/bits.deBruijn32tab", "math/bits.deBruijn64tab", "strconv.ErrSyntax", "strconv.ErrRange"], apart := false, laid := [("math/bits.deBruijn32tab", laid_math_bits_deBruijn32tab), ("math/bits.deBruijn64tab", laid_math_bits_deBruijn64tab), ("internal/strconv.uint64pow10", laid_internal_strconv_uint64pow10), ("strconv.ErrRange", laid_strconv_ErrRange), ("strconv.ErrSyntax", laid_strconv_ErrSyntax), ("monocle/glass.formulas", laid_monocle_glass_formulas)] }
def GlassNearSaid : Prop := glassNearRow.holds Tryz.pinned (OpenSpec.ofChange glassNearSpec)

/-- ITS FALSE NEIGHBOUR: 'it returns false'. Refute it at one input. -/
def glassNearWrong : ChangeSpec := { name := "glassNear", fn := fun _ => fun
  | [d1, d2, d3] => { results := [.lit (.bool false)], args := [d1, d2, d3] }
  | _ => none }
def GlassNearWrongFalsely : Prop := glassNearRow.holds Tryz.pinned (OpenSpec.ofChange glassNearWrong)

/-- 'monoclelaw09.GlassFalls': WHATEVER THE INPUT: true; the input reads as it did. -/
def glassFallsSpec : ChangeSpec := { name := "glassFalls", fn := fun _ => fun
  | [d1, d2, d3] => { results := [.lit (.bool true)], args := [d1, d2, d3] }
  | _ => none }
def glassFallsRow : OpenClaim := { program := "ytkhljkiehohckaagreatdoor", sum := "8300d38616c9a6205249276526224b065a57707cfe0f15cd6de1587308fa2738", func := "monocle/monoclelaw09.GlassFalls", spec := "glassFalls", inPlace := ["internal/abi.NoEscape", "internal/bytealg.MakeNoZero"], unfollowed := true, recurses := true, named := ["monocle/glass.formulas", "internal/strconv.uint64pow10", "math/bits.deBruijn32tab", "math/bits.deBruijn64tab", "strconv.ErrSyntax", "strconv.ErrRange"], apart := false, laid := [("math/bits.deBruijn32tab", laid_math_bits_deBruijn32tab), ("math/bits.deBruijn64tab", laid_math_bits_deBruijn64tab), ("internal/strconv.uint64pow10", laid_internal_strconv_uint64pow10), ("strconv.ErrRange", laid_strconv_ErrRange), ("strconv.ErrSyntax", laid_strconv_ErrSyntax), ("monocle/glass.formulas", laid_monocle_glass_formulas)] }
def GlassFallsSaid : Prop := glassFallsRow.holds Tryz.pinned (OpenSpec.ofChange glassFallsSpec)

/-- ITS FALSE NEIGHBOUR: 'it returns false'. Refute it at one input. -/
def glassFallsWrong : ChangeSpec := { name := "glassFalls", fn := fun _ => fun
  | [d1, d2, d3] => { results := [.lit (.bool false)], args := [d1, d2, d3] }
  | _ => none }
def GlassFallsWrongFalsely : Prop := glassFallsRow.holds Tryz.pinned (OpenSpec.ofChange glassFallsWrong)

/-- 'monoclelaw09.GlassAbbes': WHATEVER THE INPUT: true; the input reads as it did. -/
def glassAbbesSpec : ChangeSpec := { name := "glassAbbes", fn := fun _ => fun
  | [d1, d2, d3, d4] => { results := [.lit (.bool true)], args := [d1, d2, d3, d4] }
  | _ => none }
def glassAbbesRow : OpenClaim := { program := "ytkhljkiehohckaagreatdoor", sum := "8300d38616c9a6205249276526224b065a57707cfe0f15cd6de1587308fa2738", func := "monocle/monoclelaw09.GlassAbbes", spec := "glassAbbes", inPlace := ["internal/abi.NoEscape", "internal/bytealg.MakeNoZero"], unfollowed := true, recurses := true, named := ["monocle/glass.formulas", "internal/strconv.uint64pow10", "math/bits.deBruijn32tab", "math/bits.deBruijn64tab", "strconv.ErrSyntax", "strconv.ErrRange"], apart := false, laid := [("math/bits.deBruijn32tab", laid_math_bits_deBruijn32tab), ("math/bits.deBruijn64tab", laid_math_bits_deBruijn64tab), ("internal/strconv.uint64pow10", laid_internal_strconv_uint64pow10), ("strconv.ErrRange", laid_strconv_ErrRange), ("strconv.ErrSyntax", laid_strconv_ErrSyntax), ("monocle/glass.formulas", laid_monocle_glass_formulas)] }
def GlassAbbesSaid : Prop := glassAbbesRow.holds Tryz.pinned (OpenSpec.ofChange glassAbbesSpec)

/-- ITS FALSE NEIGHBOUR: 'it returns false'. Refute it at one input. -/
def glassAbbesWrong : ChangeSpec := { name := "glassAbbes", fn := fun _ => fun
  | [d1, d2, d3, d4] => { results := [.lit (.bool false)], args := [d1, d2, d3, d4] }
  | _ => none }
def GlassAbbesWrongFalsely : Prop := glassAbbesRow.holds Tryz.pinned (OpenSpec.ofChange glassAbbesWrong)

/-- 'monoclelaw09.GlassFlat': WHATEVER THE INPUT: true; the input reads as it did. -/
def glassFlatSpec : ChangeSpec := { name := "glassFlat", fn := fun _ => fun
  | [d1, d2] => { results := [.lit (.bool true)], args := [d1, d2] }
  | _ => none }
def glassFlatRow : OpenClaim := { program := "ytkhljkiehohckaagreatdoor", sum := "8300d38616c9a6205249276526224b065a57707cfe0f15cd6de1587308fa2738", func := "monocle/monoclelaw09.GlassFlat", spec := "glassFlat", inPlace := ["internal/abi.NoEscape", "internal/bytealg.MakeNoZero"], unfollowed := true, recurses := true, named := ["monocle/glass.formulas", "internal/strconv.uint64pow10", "math/bits.deBruijn32tab", "math/bits.deBruijn64tab", "strconv.ErrSyntax", "strconv.ErrRange"], apart := false, laid := [("math/bits.deBruijn32tab", laid_math_bits_deBruijn32tab), ("math/bits.deBruijn64tab", laid_math_bits_deBruijn64tab), ("internal/strconv.uint64pow10", laid_internal_strconv_uint64pow10), ("strconv.ErrRange", laid_strconv_ErrRange), ("strconv.ErrSyntax", laid_strconv_ErrSyntax), ("monocle/glass.formulas", laid_monocle_glass_formulas)] }
def GlassFlatSaid : Prop := glassFlatRow.holds Tryz.pinned (OpenSpec.ofChange glassFlatSpec)

/-- ITS FALSE NEIGHBOUR: 'it returns false'. Refute it at one input. -/
def glassFlatWrong : ChangeSpec := { name := "glassFlat", fn := fun _ => fun
  | [d1, d2] => { results := [.lit (.bool false)], args := [d1, d2] }
  | _ => none }
def GlassFlatWrongFalsely : Prop := glassFlatRow.holds Tryz.pinned (OpenSpec.ofChange glassFlatWrong)

/-- 'monoclelaw09.GlassParts': WHATEVER THE INPUT: true; the input reads as it did. -/
def glassPartsSpec : ChangeSpec := { name := "glassParts", fn := fun _ => fun
  | [d1, d2, d3, d4] => { results := [.lit (.bool true)], args := [d1, d2, d3, d4] }
  | _ => none }
def glassPartsRow : OpenClaim := { program := "ytkhljkiehohckaagreatdoor", sum := "8300d38616c9a6205249276526224b065a57707cfe0f15cd6de1587308fa2738", func := "monocle/monoclelaw09.GlassParts", spec := "glassParts", inPlace := ["internal/abi.NoEscape", "internal/bytealg.MakeNoZero"], unfollowed := true, recurses := true, named := ["monocle/glass.formulas", "internal/strconv.uint64pow10", "math/bits.deBruijn32tab", "math/bits.deBruijn64tab", "strconv.ErrSyntax", "strconv.ErrRange"], apart := false, laid := [("math/bits.deBruijn32tab", laid_math_bits_deBruijn32tab), ("math/bits.deBruijn64tab", laid_math_bits_deBruijn64tab), ("internal/strconv.uint64pow10", laid_internal_strconv_uint64pow10), ("strconv.ErrRange", laid_strconv_ErrRange), ("strconv.ErrSyntax", laid_strconv_ErrSyntax), ("monocle/glass.formulas", laid_monocle_glass_formulas)] }
def GlassPartsSaid : Prop := glassPartsRow.holds Tryz.pinned (OpenSpec.ofChange glassPartsSpec)

/-- ITS FALSE NEIGHBOUR: 'it returns false'. Refute it at one input. -/
def glassPartsWrong : ChangeSpec := { name := "glassParts", fn := fun _ => fun
  | [d1, d2, d3, d4] => { results := [.lit (.bool false)], args := [d1, d2, d3, d4] }
  | _ => none }
def GlassPartsWrongFalsely : Prop := glassPartsRow.holds Tryz.pinned (OpenSpec.ofChange glassPartsWrong)

/-- 'monoclelaw09.GlassKnown': WHATEVER THE INPUT: true; the input reads as it did. -/
def glassKnownSpec : ChangeSpec := { name := "glassKnown", fn := fun _ => fun
  | [] => { results := [.lit (.bool true)], args := [] }
  | _ => none }
def glassKnownRow : OpenClaim := { program := "ytkhljkiehohckaagreatdoor", sum := "8300d38616c9a6205249276526224b065a57707cfe0f15cd6de1587308fa2738", func := "monocle/monoclelaw09.GlassKnown", spec := "glassKnown", inPlace := ["internal/abi.NoEscape", "internal/bytealg.MakeNoZero"], unfollowed := true, recurses := true, named := ["monocle/glass.formulas", "internal/strconv.uint64pow10", "math/bits.deBruijn32tab", "math/bits.deBruijn64tab", "strconv.ErrSyntax", "strconv.ErrRange"], apart := false, laid := [("math/bits.deBruijn32tab", laid_math_bits_deBruijn32tab), ("math/bits.deBruijn64tab", laid_math_bits_deBruijn64tab), ("internal/strconv.uint64pow10", laid_internal_strconv_uint64pow10), ("strconv.ErrRange", laid_strconv_ErrRange), ("strconv.ErrSyntax", laid_strconv_ErrSyntax), ("monocle/glass.formulas", laid_monocle_glass_formulas)] }
def GlassKnownSaid : Prop := glassKnownRow.holds Tryz.pinned (OpenSpec.ofChange glassKnownSpec)

/-- ITS FALSE NEIGHBOUR: 'it returns false'. Refute it at one input. -/
def glassKnownWrong : ChangeSpec := { name := "glassKnown", fn := fun _ => fun
  | [] => { results := [.lit (.bool false)], args := [] }
  | _ => none }
def GlassKnownWrongFalsely : Prop := glassKnownRow.holds Tryz.pinned (OpenSpec.ofChange glassKnownWrong)

/- THE SECOND FORM. 'bulk': how many values and letters a reading holds, each counted each time it is reached (what is shared counts as often as it is met; a slice's spare places count too). A statement '..UptoSaid' is the law's where the arguments, and the package variables that the reading takes, are together of bulk at most 1048576: NARROWER than '..Said'. Prove '..Said' where nothing that the law and all that it calls make is longer than what came in: it says more and counts as full. Else prove '..UptoSaid'. A law counts once. -/
mutual
def uptoBulk {H : Type} : DataW H → Nat
  | .lit (.string bytes) => bytes.length + 1
  | .lit _ => 1
  | .nil => 1
  | .ptr d => uptoBulk d + 1
  | .slice elems spare => uptoBulkAll elems + uptoBulkAll spare + 1
  | .agg parts => uptoBulkAll parts + 1
  | .iface _ d => uptoBulk d + 1
  | .map entries => uptoBulkEntries entries + 1
  | .held _ => 1
def uptoBulkAll {H : Type} : List (DataW H) → Nat
  | [] => 0
  | d :: r => uptoBulk d + uptoBulkAll r
def uptoBulkEntries {H : Type} : List (Lit × DataW H) → Nat
  | [] => 0
  | x :: r => uptoBulkEntry x + uptoBulkEntries r
def uptoBulkEntry {H : Type} : Lit × DataW H → Nat
  | (.string bytes, d) => bytes.length + uptoBulk d + 1
  | (_, d) => uptoBulk d + 1
 end
def uptoSmall : (H : Type) → List (DataW H) → Bool := fun _ ds => decide (uptoBulkAll ds ≤ 1048576)
def OpenSpec.upto (s : _root_.Go.ChangeSpec) : _root_.Go.OpenSpec := { _root_.Go.OpenSpec.ofChange s with cond := some uptoSmall }

/-- 'monoclelaw09.GlassChecks', WHERE WHAT IT READS IS OF BULK AT MOST 1048576: true; the input reads as it did. -/
def glassChecksUptoRow : OpenClaim := { program := "ytkhljkiehohckaagreatdoor", sum := "8300d38616c9a6205249276526224b065a57707cfe0f15cd6de1587308fa2738", func := "monocle/monoclelaw09.GlassChecks", spec := "glassChecks", inPlace := ["internal/abi.NoEscape", "internal/bytealg.MakeNoZero"], unfollowed := true, recurses := true, named := ["monocle/glass.formulas", "internal/strconv.uint64pow10", "math/bits.deBruijn32tab", "math/bits.deBruijn64tab", "strconv.ErrSyntax", "strconv.ErrRange"], apart := false, laid := [("math/bits.deBruijn32tab", laid_math_bits_deBruijn32tab), ("math/bits.deBruijn64tab", laid_math_bits_deBruijn64tab), ("internal/strconv.uint64pow10", laid_internal_strconv_uint64pow10), ("strconv.ErrRange", laid_strconv_ErrRange), ("strconv.ErrSyntax", laid_strconv_ErrSyntax), ("monocle/glass.formulas", laid_monocle_glass_formulas)], narrowed := true }
def GlassChecksUptoSaid : Prop := glassChecksUptoRow.holds Tryz.pinned (OpenSpec.upto glassChecksSpec)

/-- 'monoclelaw09.GlassIndexes', WHERE WHAT IT READS IS OF BULK AT MOST 1048576: true; the input reads as it did. -/
def glassIndexesUptoRow : OpenClaim := { program := "ytkhljkiehohckaagreatdoor", sum := "8300d38616c9a6205249276526224b065a57707cfe0f15cd6de1587308fa2738", func := "monocle/monoclelaw09.GlassIndexes", spec := "glassIndexes", inPlace := ["internal/abi.NoEscape", "internal/bytealg.MakeNoZero"], unfollowed := true, recurses := true, named := ["monocle/glass.formulas", "internal/strconv.uint64pow10", "math/bits.deBruijn32tab", "math/bits.deBruijn64tab", "strconv.ErrSyntax", "strconv.ErrRange"], apart := false, laid := [("math/bits.deBruijn32tab", laid_math_bits_deBruijn32tab), ("math/bits.deBruijn64tab", laid_math_bits_deBruijn64tab), ("internal/strconv.uint64pow10", laid_internal_strconv_uint64pow10), ("strconv.ErrRange", laid_strconv_ErrRange), ("strconv.ErrSyntax", laid_strconv_ErrSyntax), ("monocle/glass.formulas", laid_monocle_glass_formulas)], narrowed := true }
def GlassIndexesUptoSaid : Prop := glassIndexesUptoRow.holds Tryz.pinned (OpenSpec.upto glassIndexesSpec)

/-- 'monoclelaw09.GlassNear', WHERE WHAT IT READS IS OF BULK AT MOST 1048576: true; the input reads as it did. -/
def glassNearUptoRow : OpenClaim := { program := "ytkhljkiehohckaagreatdoor", sum := "8300d38616c9a6205249276526224b065a57707cfe0f15cd6de1587308fa2738", func := "monocle/monoclelaw09.GlassNear", spec := "glassNear", inPlace := ["internal/abi.NoEscape", "internal/bytealg.MakeNoZero"], unfollowed := true, recurses := true, named := ["monocle/glass.formulas", "internal/strconv.uint64pow10", "math/bits.deBruijn32tab", "math/bits.deBruijn64tab", "strconv.ErrSyntax", "strconv.ErrRange"], apart := false, laid := [("math/bits.deBruijn32tab", laid_math_bits_deBruijn32tab), ("math/bits.deBruijn64tab", laid_math_bits_deBruijn64tab), ("internal/strconv.uint64pow10", laid_internal_strconv_uint64pow10), ("strconv.ErrRange", laid_strconv_ErrRange), ("strconv.ErrSyntax", laid_strconv_ErrSyntax), ("monocle/glass.formulas", laid_monocle_glass_formulas)], narrowed := true }
def GlassNearUptoSaid : Prop := glassNearUptoRow.holds Tryz.pinned (OpenSpec.upto glassNearSpec)

/-- 'monoclelaw09.GlassFalls', WHERE WHAT IT READS IS OF BULK AT MOST 1048576: true; the input reads as it did. -/
def glassFallsUptoRow : OpenClaim := { program := "ytkhljkiehohckaagreatdoor", sum := "8300d38616c9a6205249276526224b065a57707cfe0f15cd6de1587308fa2738", func := "monocle/monoclelaw09.GlassFalls", spec := "glassFalls", inPlace := ["internal/abi.NoEscape", "internal/bytealg.MakeNoZero"], unfollowed := true, recurses := true, named := ["monocle/glass.formulas", "internal/strconv.uint64pow10", "math/bits.deBruijn32tab", "math/bits.deBruijn64tab", "strconv.ErrSyntax", "strconv.ErrRange"], apart := false, laid := [("math/bits.deBruijn32tab", laid_math_bits_deBruijn32tab), ("math/bits.deBruijn64tab", laid_math_bits_deBruijn64tab), ("internal/strconv.uint64pow10", laid_internal_strconv_uint64pow10), ("strconv.ErrRange", laid_strconv_ErrRange), ("strconv.ErrSyntax", laid_strconv_ErrSyntax), ("monocle/glass.formulas", laid_monocle_glass_formulas)], narrowed := true }
def GlassFallsUptoSaid : Prop := glassFallsUptoRow.holds Tryz.pinned (OpenSpec.upto glassFallsSpec)

/-- 'monoclelaw09.GlassAbbes', WHERE WHAT IT READS IS OF BULK AT MOST 1048576: true; the input reads as it did. -/
def glassAbbesUptoRow : OpenClaim := { program := "ytkhljkiehohckaagreatdoor", sum := "8300d38616c9a6205249276526224b065a57707cfe0f15cd6de1587308fa2738", func := "monocle/monoclelaw09.GlassAbbes", spec := "glassAbbes", inPlace := ["internal/abi.NoEscape", "internal/bytealg.MakeNoZero"], unfollowed := true, recurses := true, named := ["monocle/glass.formulas", "internal/strconv.uint64pow10", "math/bits.deBruijn32tab", "math/bits.deBruijn64tab", "strconv.ErrSyntax", "strconv.ErrRange"], apart := false, laid := [("math/bits.deBruijn32tab", laid_math_bits_deBruijn32tab), ("math/bits.deBruijn64tab", laid_math_bits_deBruijn64tab), ("internal/strconv.uint64pow10", laid_internal_strconv_uint64pow10), ("strconv.ErrRange", laid_strconv_ErrRange), ("strconv.ErrSyntax", laid_strconv_ErrSyntax), ("monocle/glass.formulas", laid_monocle_glass_formulas)], narrowed := true }
def GlassAbbesUptoSaid : Prop := glassAbbesUptoRow.holds Tryz.pinned (OpenSpec.upto glassAbbesSpec)

/-- 'monoclelaw09.GlassFlat', WHERE WHAT IT READS IS OF BULK AT MOST 1048576: true; the input reads as it did. -/
def glassFlatUptoRow : OpenClaim := { program := "ytkhljkiehohckaagreatdoor", sum := "8300d38616c9a6205249276526224b065a57707cfe0f15cd6de1587308fa2738", func := "monocle/monoclelaw09.GlassFlat", spec := "glassFlat", inPlace := ["internal/abi.NoEscape", "internal/bytealg.MakeNoZero"], unfollowed := true, recurses := true, named := ["monocle/glass.formulas", "internal/strconv.uint64pow10", "math/bits.deBruijn32tab", "math/bits.deBruijn64tab", "strconv.ErrSyntax", "strconv.ErrRange"], apart := false, laid := [("math/bits.deBruijn32tab", laid_math_bits_deBruijn32tab), ("math/bits.deBruijn64tab", laid_math_bits_deBruijn64tab), ("internal/strconv.uint64pow10", laid_internal_strconv_uint64pow10), ("strconv.ErrRange", laid_strconv_ErrRange), ("strconv.ErrSyntax", laid_strconv_ErrSyntax), ("monocle/glass.formulas", laid_monocle_glass_formulas)], narrowed := true }
def GlassFlatUptoSaid : Prop := glassFlatUptoRow.holds Tryz.pinned (OpenSpec.upto glassFlatSpec)

/-- 'monoclelaw09.GlassParts', WHERE WHAT IT READS IS OF BULK AT MOST 1048576: true; the input reads as it did. -/
def glassPartsUptoRow : OpenClaim := { program := "ytkhljkiehohckaagreatdoor", sum := "8300d38616c9a6205249276526224b065a57707cfe0f15cd6de1587308fa2738", func := "monocle/monoclelaw09.GlassParts", spec := "glassParts", inPlace := ["internal/abi.NoEscape", "internal/bytealg.MakeNoZero"], unfollowed := true, recurses := true, named := ["monocle/glass.formulas", "internal/strconv.uint64pow10", "math/bits.deBruijn32tab", "math/bits.deBruijn64tab", "strconv.ErrSyntax", "strconv.ErrRange"], apart := false, laid := [("math/bits.deBruijn32tab", laid_math_bits_deBruijn32tab), ("math/bits.deBruijn64tab", laid_math_bits_deBruijn64tab), ("internal/strconv.uint64pow10", laid_internal_strconv_uint64pow10), ("strconv.ErrRange", laid_strconv_ErrRange), ("strconv.ErrSyntax", laid_strconv_ErrSyntax), ("monocle/glass.formulas", laid_monocle_glass_formulas)], narrowed := true }
def GlassPartsUptoSaid : Prop := glassPartsUptoRow.holds Tryz.pinned (OpenSpec.upto glassPartsSpec)

/-- 'monoclelaw09.GlassKnown', WHERE WHAT IT READS IS OF BULK AT MOST 1048576: true; the input reads as it did. -/
def glassKnownUptoRow : OpenClaim := { program := "ytkhljkiehohckaagreatdoor", sum := "8300d38616c9a6205249276526224b065a57707cfe0f15cd6de1587308fa2738", func := "monocle/monoclelaw09.GlassKnown", spec := "glassKnown", inPlace := ["internal/abi.NoEscape", "internal/bytealg.MakeNoZero"], unfollowed := true, recurses := true, named := ["monocle/glass.formulas", "internal/strconv.uint64pow10", "math/bits.deBruijn32tab", "math/bits.deBruijn64tab", "strconv.ErrSyntax", "strconv.ErrRange"], apart := false, laid := [("math/bits.deBruijn32tab", laid_math_bits_deBruijn32tab), ("math/bits.deBruijn64tab", laid_math_bits_deBruijn64tab), ("internal/strconv.uint64pow10", laid_internal_strconv_uint64pow10), ("strconv.ErrRange", laid_strconv_ErrRange), ("strconv.ErrSyntax", laid_strconv_ErrSyntax), ("monocle/glass.formulas", laid_monocle_glass_formulas)], narrowed := true }
def GlassKnownUptoSaid : Prop := glassKnownUptoRow.holds Tryz.pinned (OpenSpec.upto glassKnownSpec)

end Rows
end Go.Proofs.YtkhljkiehohckaaGreatDoor
