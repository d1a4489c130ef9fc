/- What every law of this seat shares: the listed variables in a world that meets the row; a world for the witness. -/
import Derived.Test.YtnbanlmkoljghaaGreatDoorCards
import Derived.Test.YtnbanlmkoljghaaGreatDoorTie
import Derived.Test.YtnbanlmkoljghaaGreatDoorGlob
import Derived.Test.YtnbanlmkoljghaaGreatDoorBack
import Derived.WalkKit
import Derived.ProofKit
import Derived.OpenShut
import Derived.Deep.DeepHandedRow
import Derived.Deep.DeepWitnessRowRef
import Derived.Lib.LaidTab
import Derived.Lib.LaidU8
import Derived.Stop.LaidErr
namespace Go.Proofs.YtnbanlmkoljghaaGreatDoor
open Go Go.RowKit Go.WideShapes Go.ChangeShapes

theorem own_knob : ownKnob Tryz.prog.godebug = none := by kernel_rfl
theorem error_star : "*" ++ "errors.errorString" = "*errors.errorString" := by decide
theorem error_row (u : TypeId) (h : Tryz.prog.typeName? 3 u = some "*errors.errorString") : u = 171 :=
  typeName_ptr_named (nm := "errors.errorString") (by rw [error_star]; kernel_rfl) (by kernel_rfl) (by decide) u (by rw [error_star]; exact h)

/-- The list that every row of this seat bears. -/
def laidList : List (String × DataW Unit) := [("math/bits.deBruijn32tab", Rows.laid_math_bits_deBruijn32tab), ("math/bits.deBruijn64tab", Rows.laid_math_bits_deBruijn64tab), ("internal/strconv.uint64pow10", Rows.laid_internal_strconv_uint64pow10), ("unicode/utf8.acceptRanges", Rows.laid_unicode_utf8_acceptRanges), ("strconv.ErrRange", Rows.laid_strconv_ErrRange), ("strconv.ErrSyntax", Rows.laid_strconv_ErrSyntax), ("unicode/utf8.first", Rows.laid_unicode_utf8_first)]
theorem laid_glob {W : World} (h : laidMet Tryz.prog laidList W) : Glob W := by
  have h1 := laidMet.tail (laidMet.tail h)
  have h2 := laidMet.tail (laidMet.tail h1)
  refine ⟨?_, ?_⟩
  · exact Lib.tabIs_of_head (g := 2) (t := 159) (e := 129) (n := 20) (by kernel_rfl) (by kernel_rfl) (by kernel_rfl) (by kernel_rfl) (by kernel_rfl) (by kernel_rfl) h1
  · obtain ⟨a, s, hv, _⟩ := laid_sentinel (g := 1) (ti := 95) (tp := 171) (te := 173) (ts := 9) h2 (by kernel_rfl) (by kernel_rfl) Tryz.underlying95 error_row Tryz.underlying171 Tryz.underlying173 rfl rfl Tryz.underlying9 (by kernel_rfl) (by kernel_rfl)
    exact ⟨_, _, hv⟩

/-- A world for the witness: the settled one, the listed variables holding what their texts lay. -/
noncomputable def laidWorld (os : Os) : World :=
  let N := (World.settled Tryz.prog os).heap.size
  let w0 := World.holding Tryz.prog os ⟨#[.cells #[.string ⟨#[118, 97, 108, 117, 101, 32, 111, 117, 116, 32, 111, 102, 32, 114, 97, 110, 103, 101]⟩] 173, .cells #[.string ⟨#[105, 110, 118, 97, 108, 105, 100, 32, 115, 121, 110, 116, 97, 120]⟩] 173], #[], []⟩
  let put (h : Array Obj) (g : Nat) (cs : Array Value) : Array Obj := h.modify g fun
    | .cells _ t frozen => .cells cs t frozen
    | o => o
  let ints (k : IntKind) : DataW Unit → Array Value
    | .agg l => (l.map fun | .lit (.int _ n) => Value.int k n | _ => undef).toArray
    | _ => #[]
  let h1 := put w0.heap 1 #[.iface 171 (.pointer (some ⟨N, 0, none⟩))]
  let h2 := put h1 0 #[.iface 171 (.pointer (some ⟨N + 1, 0, none⟩))]
  let h3 := put h2 2 (ints .u64 Rows.laid_internal_strconv_uint64pow10)
  let h4 := put h3 4 (ints .u8 Rows.laid_unicode_utf8_first)
  let h5 := put h4 5 ((List.range 16).flatMap fun i => [Value.int .u8 (Lib.accLo i), Value.int .u8 (Lib.accHi i)]).toArray
  let h6 := put h5 6 (ints .u8 Rows.laid_math_bits_deBruijn32tab)
  let h7 := put h6 7 (ints .u8 Rows.laid_math_bits_deBruijn64tab)
  { w0 with heap := h7 }
set_option maxRecDepth 100000 in
theorem laid_met (os : Os) (args : Array Value) : laidMet Tryz.prog laidList ((laidWorld os).forCall (fun _ _ => 0) ⟨#[], args, []⟩).memory :=
  laidMet_of_run' 8 (by kernel_rfl) (by kernel_rfl)
end Go.Proofs.YtnbanlmkoljghaaGreatDoor
