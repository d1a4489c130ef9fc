/- What every law of this seat shares: the listed variables in a world that meets the row; a world for the witness. -/
import Derived.Test.YtngpibfakemmhaaGreatDoorCards
import Derived.Test.YtngpibfakemmhaaGreatDoorTie
import Derived.Test.YtngpibfakemmhaaGreatDoorDec
import Derived.Test.YtngpibfakemmhaaGreatDoorBackG
import Derived.Test.YtngpibfakemmhaaGreatDoorQN
import Derived.WalkKit
import Derived.ProofKit
import Derived.OpenShut
import Derived.Deep.DeepHandedRow
import Derived.Deep.DeepWitnessRowRef
import Derived.Lib.LaidTab
import Derived.Lib.LaidU8
import Derived.Stop.LaidErr
namespace Go.Proofs.YtngpibfakemmhaaGreatDoor
open Go Go.RowKit Go.WideShapes Go.ChangeShapes
theorem own_knob : ownKnob Tryz.prog.godebug = none := by kernel_rfl
theorem error_star : "*" ++ "errors.errorString" = "*errors.errorString" := by decide
theorem error_row (u : TypeId) (h : Tryz.prog.typeName? 3 u = some "*errors.errorString") : u = 177 :=
  typeName_ptr_named (nm := "errors.errorString") (by rw [error_star]; kernel_rfl) (by kernel_rfl) (by decide) u (by rw [error_star]; exact h)
def laidList : List (String × DataW Unit) := [("math/bits.deBruijn32tab", Rows.laid_math_bits_deBruijn32tab), ("math/bits.deBruijn64tab", Rows.laid_math_bits_deBruijn64tab), ("internal/strconv.uint64pow10", Rows.laid_internal_strconv_uint64pow10), ("unicode/utf8.acceptRanges", Rows.laid_unicode_utf8_acceptRanges), ("strconv.ErrRange", Rows.laid_strconv_ErrRange), ("strconv.ErrSyntax", Rows.laid_strconv_ErrSyntax), ("unicode/utf8.first", Rows.laid_unicode_utf8_first)]
theorem laid_glob {W : World} (h : laidMet Tryz.prog laidList W) : Glob W := by
  have h1 := laidMet.tail (laidMet.tail h)
  have h2 := laidMet.tail (laidMet.tail h1)
  refine ⟨?_, ?_⟩
  · exact Lib.tabIs_of_head (g := 3) (t := 166) (e := 111) (n := 20) (by kernel_rfl) (by kernel_rfl) (by kernel_rfl) (by kernel_rfl) (by kernel_rfl) (by kernel_rfl) h1
  · obtain ⟨a, s, hv, _⟩ := laid_sentinel (g := 2) (ti := 70) (tp := 177) (te := 179) (ts := 9) h2 (by kernel_rfl) (by kernel_rfl) Tryz.underlying70 error_row Tryz.underlying177 Tryz.underlying179 rfl rfl Tryz.underlying9 (by kernel_rfl) (by kernel_rfl)
    exact ⟨_, _, hv⟩
noncomputable def laidWorld (os : Os) : World :=
  let N := (World.settled Tryz.prog os).heap.size
  let w0 := World.holding Tryz.prog os ⟨#[.cells #[.string ⟨#[118, 97, 108, 117, 101, 32, 111, 117, 116, 32, 111, 102, 32, 114, 97, 110, 103, 101]⟩] 179, .cells #[.string ⟨#[105, 110, 118, 97, 108, 105, 100, 32, 115, 121, 110, 116, 97, 120]⟩] 179], #[], []⟩
  let put (h : Array Obj) (g : Nat) (cs : Array Value) : Array Obj := h.modify g fun
    | .cells _ t frozen => .cells cs t frozen
    | o => o
  let ints (k : IntKind) : DataW Unit → Array Value
    | .agg l => (l.map fun | .lit (.int _ n) => Value.int k n | _ => undef).toArray
    | _ => #[]
  let h1 := put w0.heap 2 #[.iface 177 (.pointer (some ⟨N, 0, none⟩))]
  let h2 := put h1 1 #[.iface 177 (.pointer (some ⟨N + 1, 0, none⟩))]
  let h3 := put h2 3 (ints .u64 Rows.laid_internal_strconv_uint64pow10)
  let h4 := put h3 4 (ints .u8 Rows.laid_unicode_utf8_first)
  let h5 := put h4 5 ((List.range 16).flatMap fun i => [Value.int .u8 (Lib.accLo i), Value.int .u8 (Lib.accHi i)]).toArray
  let h6 := put h5 6 (ints .u8 Rows.laid_math_bits_deBruijn32tab)
  let h7 := put h6 7 (ints .u8 Rows.laid_math_bits_deBruijn64tab)
  { w0 with heap := h7 }
set_option maxRecDepth 100000 in
theorem laid_met (os : Os) (args : Array Value) : laidMet Tryz.prog laidList ((laidWorld os).forCall (fun _ _ => 0) ⟨#[], args, []⟩).memory :=
  laidMet_of_run' 8 (by kernel_rfl) (by kernel_rfl)
theorem maxL_of {W : World} (h : W.ShapedOpen Tryz.prog) : MaxL W :=
  Go.Proofs.cell_of_shapedOpen_int (zero := #[.int .i64 0]) (t := 3) h (of_decide_eq_true (by kernel_rfl)) (by kernel_rfl) rfl (by kernel_rfl) (by kernel_rfl) Tryz.underlying3
end Go.Proofs.YtngpibfakemmhaaGreatDoor
