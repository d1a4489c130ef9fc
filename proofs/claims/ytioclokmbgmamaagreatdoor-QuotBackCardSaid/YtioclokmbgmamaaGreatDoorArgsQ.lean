/- The arguments of layer 04's laws, opened: fractions, drafts of them, Two. -/
import Derived.Test.YtioclokmbgmamaaGreatDoorLay
import Derived.Test.YtioclokmbgmamaaGreatDoorQN
namespace Go.Proofs.YtioclokmbgmamaaGreatDoor
open Go Go.RowKit Go.WideShapes Go.ChangeShapes
theorem maxL_of {W : World} (h : W.ShapedOpen Tryz.prog) : MaxL W :=
  Go.Proofs.cell_of_shapedOpen_int (zero := #[.int .i64 0]) (t := 3) h (of_decide_eq_true (by kernel_rfl)) (by kernel_rfl) rfl (by kernel_rfl) (by kernel_rfl) Tryz.underlying3
section
variable {H : Type} {enc : TypeId × Value → H} {W : World} {fuel : Nat} {x : DataW H × List MemPlace}
set_option maxRecDepth 100000 in
theorem draftq_of {c0 c1 c2 c3 c4 c5 : Value} (h : DataW.trod enc Tryz.prog W 0 (fun _ => true) true fuel 31 [c0, c1, c2, c3, c4, c5] = some x) :
    ∃ n m l k s t, c0 = .bool n ∧ c1 = .int .u8 l ∧ (0 ≤ l ∧ l ≤ 255) ∧ RW W W.heap.size c2 s ∧ c3 = .bool m ∧ c4 = .int .u8 k ∧ (0 ≤ k ∧ k ≤ 255) ∧ RW W W.heap.size c5 t := by
  obtain ⟨y0, y1, j, _, _, h0, h1⟩ := trod_struct2 Tryz.underlying31 h
  have e0 : ([c0, c1, c2, c3, c4, c5].drop 0).take (Tryz.prog.cellsOf 29) = [c0, c1, c2] := by rw [show Tryz.prog.cellsOf 29 = 3 by kernel_rfl]; rfl
  have e1 : ([c0, c1, c2, c3, c4, c5].drop 3).take (Tryz.prog.cellsOf 29) = [c3, c4, c5] := by rw [show Tryz.prog.cellsOf 29 = 3 by kernel_rfl]; rfl
  replace h0 := (show DataW.trod enc Tryz.prog W 0 (fun _ => true) true j 29 [c0, c1, c2] = some _ from by rw [← e0]; exact h0)
  replace h1 := (show DataW.trod enc Tryz.prog W 0 (fun _ => true) true j 29 [c3, c4, c5] = some _ from by rw [← e1]; exact h1)
  obtain ⟨n, l, s, rfl, rfl, a1, a2, hs⟩ := draft_of h0
  obtain ⟨m, k, t, rfl, rfl, b1, b2, ht⟩ := draft_of h1
  exact ⟨n, m, l, k, s, t, rfl, rfl, ⟨a1, a2⟩, hs, rfl, rfl, ⟨b1, b2⟩, ht⟩
end
section
variable {H : Type} {enc : TypeId × Value → H} {W : World} {r : Reach} {b0 : Nat} {v : Value} {d : DataW H} {p : List MemPlace}
theorem array6 {α : Type} {cs : Array α} (h : cs.size = 6) : ∃ c0 c1 c2 c3 c4 c5, cs = #[c0, c1, c2, c3, c4, c5] := by
  obtain ⟨l⟩ := cs
  match l, h with
  | [c0, c1, c2, c3, c4, c5], _ => exact ⟨c0, c1, c2, c3, c4, c5, rfl⟩
set_option maxRecDepth 100000 in
theorem open_draftq (hv : Value.okWide Tryz.prog W r b0 31 v) (h : DataW.Trod enc Tryz.prog W 0 (fun _ => true) true 31 v d p) :
    ∃ n m l k s t u u', v = .agg #[.bool n, .int .u8 l, s, .bool m, .int .u8 k, t] ∧ (0 ≤ l ∧ l ≤ 255) ∧ RW W W.heap.size s u ∧ (0 ≤ k ∧ k ≤ 255) ∧ RW W W.heap.size t u' := by
  obtain ⟨cs, rfl, hsz⟩ := okWide_struct Tryz.underlying31 hv
  obtain ⟨c0, c1, c2, c3, c4, c5, rfl⟩ := array6 (hsz.trans (show Tryz.prog.cellsOf 31 = 6 by kernel_rfl))
  obtain ⟨fuel, hf⟩ := h
  obtain ⟨n, m, l, k, s, t, rfl, rfl, h1, h2, rfl, rfl, h3, h4⟩ := draftq_of (fuel := fuel) hf
  exact ⟨n, m, l, k, c2, c5, s, t, rfl, h1, h2, h3, h4⟩
end
end Go.Proofs.YtioclokmbgmamaaGreatDoor
