/- The listed variables of the law DecEncloses, fix.powers among them. -/
import Derived.Test.YtfklkphoplpebaaGreatDoorLay
import Derived.Test.YtfklkphoplpebaaGreatDoorFixC
namespace Go.Proofs.YtfklkphoplpebaaGreatDoor.decEncloses
open Go Go.RowKit Go.WideShapes Go.ChangeShapes

/-- The list that every row of this seat bears. -/
def laidList : List (String × DataW Unit) := [("math/bits.deBruijn32tab", Rows.laid_math_bits_deBruijn32tab), ("math/bits.deBruijn64tab", Rows.laid_math_bits_deBruijn64tab), ("internal/strconv.uint64pow10", Rows.laid_internal_strconv_uint64pow10), ("monocle/fix.powers", Rows.laid_monocle_fix_powers), ("unicode/utf8.acceptRanges", Rows.laid_unicode_utf8_acceptRanges), ("strconv.ErrRange", Rows.laid_strconv_ErrRange), ("strconv.ErrSyntax", Rows.laid_strconv_ErrSyntax), ("unicode/utf8.first", Rows.laid_unicode_utf8_first)]
theorem laid_glob {W : World} (h : laidMet Tryz.prog laidList W) : Glob W := by
  have h1 := laidMet.tail (laidMet.tail h)
  have h2 := laidMet.tail (laidMet.tail (laidMet.tail h1))
  refine ⟨?_, ?_⟩
  · exact Lib.tabIs_of_head (g := 8) (t := 193) (e := 97) (n := 20) (by kernel_rfl) (by kernel_rfl) (by kernel_rfl) (by kernel_rfl) (by kernel_rfl) (by kernel_rfl) h1
  · obtain ⟨a, s, hv, _⟩ := laid_sentinel (g := 5) (ti := 71) (tp := 198) (te := 200) (ts := 9) h2 (by kernel_rfl) (by kernel_rfl) Tryz.underlying71 error_row Tryz.underlying198 Tryz.underlying200 rfl rfl Tryz.underlying9 (by kernel_rfl) (by kernel_rfl)
    exact ⟨_, _, hv⟩

theorem laid_powers {W : World} (h : laidMet Tryz.prog laidList W) : Powers W := by
  have h1 := laidMet.tail (laidMet.tail (laidMet.tail h))
  exact Lib.tabIs_of_head (g := 0) (t := 104) (e := 97) (n := 13) (by kernel_rfl) (by kernel_rfl) (by kernel_rfl) (by kernel_rfl) (by kernel_rfl) (by kernel_rfl) h1
/-- A world for the witness: the settled one, the listed variables holding what their texts lay. -/
noncomputable def laidWorld (os : Os) : World :=
  let N := (World.settled Tryz.prog os).heap.size
  let w0 := World.holding Tryz.prog os ⟨#[.cells #[.string ⟨#[118, 97, 108, 117, 101, 32, 111, 117, 116, 32, 111, 102, 32, 114, 97, 110, 103, 101]⟩] 200, .cells #[.string ⟨#[105, 110, 118, 97, 108, 105, 100, 32, 115, 121, 110, 116, 97, 120]⟩] 200], #[], []⟩
  let put (h : Array Obj) (g : Nat) (cs : Array Value) : Array Obj := h.modify g fun
    | .cells _ t frozen => .cells cs t frozen
    | o => o
  let ints (k : IntKind) : DataW Unit → Array Value
    | .agg l => (l.map fun | .lit (.int _ n) => Value.int k n | _ => undef).toArray
    | _ => #[]
  let h1 := put w0.heap 5 #[.iface 198 (.pointer (some ⟨N, 0, none⟩))]
  let h2 := put h1 4 #[.iface 198 (.pointer (some ⟨N + 1, 0, none⟩))]
  let h3 := put h2 8 (ints .u64 Rows.laid_internal_strconv_uint64pow10)
  let h4 := put h3 6 (ints .u8 Rows.laid_unicode_utf8_first)
  let h5 := put h4 7 ((List.range 16).flatMap fun i => [Value.int .u8 (Lib.accLo i), Value.int .u8 (Lib.accHi i)]).toArray
  let h6 := put h5 9 (ints .u8 Rows.laid_math_bits_deBruijn32tab)
  let h7 := put h6 10 (ints .u8 Rows.laid_math_bits_deBruijn64tab)
  let h8 := put h7 0 (ints .u64 Rows.laid_monocle_fix_powers)
  { w0 with heap := h8 }
set_option maxRecDepth 100000 in
theorem laid_met (os : Os) (args : Array Value) : laidMet Tryz.prog laidList ((laidWorld os).forCall (fun _ _ => 0) ⟨#[], args, []⟩).memory :=
  laidMet_of_run' 8 (by kernel_rfl) (by kernel_rfl)
end Go.Proofs.YtfklkphoplpebaaGreatDoor.decEncloses
