/- The arguments of layer 05's laws, opened: an interval, a draft of one, a Boolean value; internal/bytealg.MaxLen's cell out of the world's shape. -/
import Derived.Test.YtfklkphoplpebaaGreatDoorLay
import Derived.Test.YtfklkphoplpebaaGreatDoorDecParse
import Derived.Shelf.Vars
import Derived.RowKit
import Derived.Lib.SmallJoins
import Derived.ChangeShapes
import Derived.ChangeArms
import Derived.Lib.ItoaMem
import Derived.Deep.Strs
namespace Go.Proofs.YtfklkphoplpebaaGreatDoor
open Go Go.RowKit Go.WideShapes Go.ChangeShapes

theorem maxL_of {W : World} (h : W.ShapedOpen Tryz.prog) : MaxL W :=
  Go.Proofs.cell_of_shapedOpen_int (zero := #[.int .i64 0]) (t := 3) h (of_decide_eq_true (by kernel_rfl)) (by kernel_rfl) rfl (by kernel_rfl) (by kernel_rfl) Tryz.underlying3
section
variable {H : Type} {enc : TypeId × Value → H} {W : World} {r : Reach} {b0 : Nat} {v : Value} {d : DataW H} {p : List MemPlace}
set_option maxRecDepth 100000 in
theorem open_boolD (hv : Value.okWide Tryz.prog W r b0 4 v) : ∃ b, v = .bool b := okWide_bool Tryz.underlying4 hv
set_option maxRecDepth 100000 in
theorem open_span (hv : Value.okWide Tryz.prog W r b0 37 v) (h : DataW.Trod enc Tryz.prog W 0 (fun _ => true) true 37 v d p) :
    ∃ lo hi, v = .agg #[.int .i64 lo, .int .i64 hi] ∧ -9223372036854775808 ≤ lo ∧ lo ≤ 9223372036854775807 ∧ -9223372036854775808 ≤ hi ∧ hi ≤ 9223372036854775807 := by
  obtain ⟨cs, rfl, hsz⟩ := okWide_struct Tryz.underlying37 hv
  obtain ⟨c0, c1, rfl⟩ := Joins.array2 (hsz.trans (show Tryz.prog.cellsOf 37 = 2 by kernel_rfl))
  obtain ⟨fuel, hf⟩ := h
  obtain ⟨y0, y1, n, _, _, h0, h1⟩ := trod_struct2 Tryz.underlying37 hf
  have e0 : ([c0, c1].drop 0).take (Tryz.prog.cellsOf 3) = [c0] := by rw [show Tryz.prog.cellsOf 3 = 1 by kernel_rfl]; rfl
  have e1 : ([c0, c1].drop 1).take (Tryz.prog.cellsOf 3) = [c1] := by rw [show Tryz.prog.cellsOf 3 = 1 by kernel_rfl]; rfl
  replace h0 := (show DataW.trod enc Tryz.prog W 0 (fun _ => true) true n 3 [c0] = some _ from by rw [← e0]; exact h0)
  replace h1 := (show DataW.trod enc Tryz.prog W 0 (fun _ => true) true n 3 [c1] = some _ from by rw [← e1]; exact h1)
  obtain ⟨lo, hlo, _, hwf0⟩ := DataW.trod_int Tryz.underlying3 h0
  obtain ⟨hi, hhi, _, hwf1⟩ := DataW.trod_int Tryz.underlying3 h1
  have w0 : -9223372036854775808 ≤ lo ∧ lo ≤ 9223372036854775807 := by simpa [Lit.wf, IntKind.min, IntKind.max, IntKind.signed, IntKind.bits] using hwf0
  have w1 : -9223372036854775808 ≤ hi ∧ hi ≤ 9223372036854775807 := by simpa [Lit.wf, IntKind.min, IntKind.max, IntKind.signed, IntKind.bits] using hwf1
  obtain rfl : c0 = .int .i64 lo := by simpa using hlo
  obtain rfl : c1 = .int .i64 hi := by simpa using hhi
  exact ⟨lo, hi, rfl, w0.1, w0.2, w1.1, w1.2⟩
set_option maxRecDepth 100000 in
theorem open_draft2 (hv : Value.okWide Tryz.prog W r b0 40 v) (h : DataW.Trod enc Tryz.prog W 0 (fun _ => true) true 40 v d p) :
    ∃ at_ bits wide, v = .agg #[.int .i64 at_, .int .u8 bits, .int .u32 wide] ∧ -9223372036854775808 ≤ at_ ∧ at_ ≤ 9223372036854775807 ∧ 0 ≤ bits ∧ bits ≤ 255 ∧ 0 ≤ wide ∧ wide ≤ 4294967295 := by
  obtain ⟨cs, rfl, hsz⟩ := okWide_struct Tryz.underlying40 hv
  obtain ⟨c0, c1, c2, rfl⟩ := Joins.array3 (hsz.trans (show Tryz.prog.cellsOf 40 = 3 by kernel_rfl))
  obtain ⟨fuel, hf⟩ := h
  obtain ⟨y0, y1, y2, n, _, _, h0, h1, h2⟩ := Deep.trod_struct3 Tryz.underlying40 hf
  have e0 : ([c0, c1, c2].drop 0).take (Tryz.prog.cellsOf 3) = [c0] := by rw [show Tryz.prog.cellsOf 3 = 1 by kernel_rfl]; rfl
  have e1 : ([c0, c1, c2].drop 1).take (Tryz.prog.cellsOf 5) = [c1] := by rw [show Tryz.prog.cellsOf 5 = 1 by kernel_rfl]; rfl
  have e2 : ([c0, c1, c2].drop 2).take (Tryz.prog.cellsOf 38) = [c2] := by rw [show Tryz.prog.cellsOf 38 = 1 by kernel_rfl]; rfl
  replace h0 := (show DataW.trod enc Tryz.prog W 0 (fun _ => true) true n 3 [c0] = some _ from by rw [← e0]; exact h0)
  replace h1 := (show DataW.trod enc Tryz.prog W 0 (fun _ => true) true n 5 [c1] = some _ from by rw [← e1]; exact h1)
  replace h2 := (show DataW.trod enc Tryz.prog W 0 (fun _ => true) true n 38 [c2] = some _ from by rw [← e2]; exact h2)
  obtain ⟨a, ha, _, hwf0⟩ := DataW.trod_int Tryz.underlying3 h0
  obtain ⟨b, hb, _, hwf1⟩ := DataW.trod_int Tryz.underlying5 h1
  obtain ⟨c, hc, _, hwf2⟩ := DataW.trod_int Tryz.underlying38 h2
  have w0 : -9223372036854775808 ≤ a ∧ a ≤ 9223372036854775807 := by simpa [Lit.wf, IntKind.min, IntKind.max, IntKind.signed, IntKind.bits] using hwf0
  have w1 : 0 ≤ b ∧ b ≤ 255 := by simpa [Lit.wf, IntKind.min, IntKind.max, IntKind.signed, IntKind.bits] using hwf1
  have w2 : 0 ≤ c ∧ c ≤ 4294967295 := by simpa [Lit.wf, IntKind.min, IntKind.max, IntKind.signed, IntKind.bits] using hwf2
  obtain rfl : c0 = .int .i64 a := by simpa using ha
  obtain rfl : c1 = .int .u8 b := by simpa using hb
  obtain rfl : c2 = .int .u32 c := by simpa using hc
  exact ⟨a, b, c, rfl, w0.1, w0.2, w1.1, w1.2, w2.1, w2.2⟩
end
end Go.Proofs.YtfklkphoplpebaaGreatDoor
