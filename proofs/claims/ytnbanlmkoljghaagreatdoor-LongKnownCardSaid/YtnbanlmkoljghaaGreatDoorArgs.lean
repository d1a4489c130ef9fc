/- The laws' arguments, opened: what a Long, a Draft, a Two that comes in is in memory. -/
import Derived.Test.YtnbanlmkoljghaaGreatDoorDraft
import Derived.RowKit
import Derived.ChangeSlices
import Derived.Lib.SmallJoins
import Derived.ChangeShapes
import Derived.ChangeArms
import Derived.Lib.ItoaMem
import Derived.Deep.Strs
namespace Go.Proofs.YtnbanlmkoljghaaGreatDoor
open Go Go.RowKit Go.WideShapes Go.ChangeShapes

theorem cells_int : Tryz.prog.cellsOf 3 = 1 := by kernel_rfl
theorem cells_u32 : Tryz.prog.cellsOf 88 = 1 := by kernel_rfl
section
variable {H : Type} {enc : TypeId × Value → H} {W : World} {fuel : Nat} {v : Value} {x : DataW H × List MemPlace}
theorem ri_of (h : DataW.trod enc Tryz.prog W 0 (fun _ => true) true fuel 22 [v] = some x) : ∃ l, RI W W.heap.size v l := by
  rcases open_ints Tryz.underlying22 Tryz.underlying3 cells_int h with ⟨hcs, _⟩ | ⟨a, len, cap, zs, hcs, _, hl, hm, hz, _, hcell, _⟩
  · obtain rfl : v = .slice none 0 0 := by simpa using hcs
    exact ⟨[], RI.nil _ _⟩
  · obtain rfl : v = .slice (some a) len cap := by simpa using hcs
    simp only [if_true] at hz
    have hlen : (zs.take len).length = len := by simp; omega
    obtain ⟨b, off, spot⟩ := a
    refine ⟨zs.take len, some ⟨b, off, spot⟩, cap, by rw [hlen], by omega, by unfold maxLen at hm; omega, fun h0 => ?_⟩
    have hspot : spot = none := by simpa [Addr.add] using World.cell?_spot (hcell 0 (by omega))
    subst hspot
    refine ⟨b, off, rfl, World.block_lt_of_cell? W _ (hcell 0 (by omega)) |> (by simpa [Addr.add] using ·), fun j hj => ?_⟩
    have := hcell j (by omega)
    rw [Lib.add_plain] at this
    rw [this, List.getElem_take, List.getD, List.getElem?_eq_getElem (by omega)]; rfl
theorem rw_of (h : DataW.trod enc Tryz.prog W 0 (fun _ => true) true fuel 25 [v] = some x) : ∃ l, RW W W.heap.size v l := by
  rcases open_ints Tryz.underlying25 Tryz.underlying88 cells_u32 h with ⟨hcs, _⟩ | ⟨a, len, cap, zs, hcs, _, hl, hm, hz, _, hcell, hwf⟩
  · obtain rfl : v = .slice none 0 0 := by simpa using hcs
    exact ⟨[], none, 0, rfl, Nat.le_refl _, by omega, (fun d hd => by cases hd), fun h => absurd h (by simp)⟩
  · obtain rfl : v = .slice (some a) len cap := by simpa using hcs
    simp only [if_true] at hz
    have hlen : ((zs.take len).map Int.toNat).length = len := by simp; omega
    have hb : ∀ z ∈ zs, 0 ≤ z ∧ z < 4294967296 := fun z hz' => by
      have := hwf z hz'
      simp [Lit.wf, IntKind.min, IntKind.max, IntKind.signed, IntKind.bits] at this
      omega
    obtain ⟨b, off, spot⟩ := a
    refine ⟨(zs.take len).map Int.toNat, some ⟨b, off, spot⟩, cap, by rw [hlen], by omega, by unfold maxLen at hm; omega, fun d hd => ?_, fun h0 => ?_⟩
    · obtain ⟨z, hz1, rfl⟩ := List.mem_map.1 hd
      have := hb z (List.mem_of_mem_take hz1)
      omega
    have hspot : spot = none := by simpa [Addr.add] using World.cell?_spot (hcell 0 (by omega))
    subst hspot
    refine ⟨b, off, rfl, World.block_lt_of_cell? W _ (hcell 0 (by omega)) |> (by simpa [Addr.add] using ·), fun j hj => ?_⟩
    have := hcell j (by omega)
    rw [Lib.add_plain] at this
    have hjz : j < zs.length := by omega
    have h2 := hb zs[j] (List.getElem_mem hjz)
    rw [this, List.getElem_map, List.getElem_take, List.getD, List.getElem?_eq_getElem hjz]
    simp only [Option.getD_some]
    congr 2
    omega
theorem long_of {c0 c1 : Value} (h : DataW.trod enc Tryz.prog W 0 (fun _ => true) true fuel 24 [c0, c1] = some x) : ∃ neg l, c0 = .bool neg ∧ RI W W.heap.size c1 l := by
  obtain ⟨y0, y1, n, _, _, h0, h1⟩ := trod_struct2 Tryz.underlying24 h
  have e0 : ([c0, c1].drop 0).take (Tryz.prog.cellsOf 4) = [c0] := by rw [show Tryz.prog.cellsOf 4 = 1 by kernel_rfl]; rfl
  have e1 : ([c0, c1].drop 1).take (Tryz.prog.cellsOf 22) = [c1] := by rw [show Tryz.prog.cellsOf 22 = 1 by kernel_rfl]; rfl
  replace h0 := (show DataW.trod enc Tryz.prog W 0 (fun _ => true) true n 4 [c0] = some _ from by rw [← e0]; exact h0)
  replace h1 := (show DataW.trod enc Tryz.prog W 0 (fun _ => true) true n 22 [c1] = some _ from by rw [← e1]; exact h1)
  obtain ⟨b, hb, _⟩ := DataW.trod_bool Tryz.underlying4 h0
  obtain ⟨l, hl⟩ := ri_of h1
  exact ⟨b, l, by simpa using hb, hl⟩
theorem draft_of {c0 c1 c2 : Value} (h : DataW.trod enc Tryz.prog W 0 (fun _ => true) true fuel 27 [c0, c1, c2] = some x) : ∃ neg low l, c0 = .bool neg ∧ c1 = .int .u8 low ∧ 0 ≤ low ∧ low ≤ 255 ∧ RW W W.heap.size c2 l := by
  obtain ⟨y0, y1, y2, n, _, _, h0, h1, h2⟩ := Deep.trod_struct3 Tryz.underlying27 h
  have e0 : ([c0, c1, c2].drop 0).take (Tryz.prog.cellsOf 4) = [c0] := by rw [show Tryz.prog.cellsOf 4 = 1 by kernel_rfl]; rfl
  have e1 : ([c0, c1, c2].drop 1).take (Tryz.prog.cellsOf 5) = [c1] := by rw [show Tryz.prog.cellsOf 5 = 1 by kernel_rfl]; rfl
  have e2 : ([c0, c1, c2].drop 2).take (Tryz.prog.cellsOf 25) = [c2] := by rw [show Tryz.prog.cellsOf 25 = 1 by kernel_rfl]; rfl
  replace h0 := (show DataW.trod enc Tryz.prog W 0 (fun _ => true) true n 4 [c0] = some _ from by rw [← e0]; exact h0)
  replace h1 := (show DataW.trod enc Tryz.prog W 0 (fun _ => true) true n 5 [c1] = some _ from by rw [← e1]; exact h1)
  replace h2 := (show DataW.trod enc Tryz.prog W 0 (fun _ => true) true n 25 [c2] = some _ from by rw [← e2]; exact h2)
  obtain ⟨b, hb, _⟩ := DataW.trod_bool Tryz.underlying4 h0
  obtain ⟨low, hlow, _, hwf⟩ := DataW.trod_int Tryz.underlying5 h1
  obtain ⟨l, hl⟩ := rw_of h2
  have hw : 0 ≤ low ∧ low ≤ 255 := by simpa [Lit.wf, IntKind.min, IntKind.max, IntKind.signed, IntKind.bits] using hwf
  exact ⟨b, low, l, by simpa using hb, by simpa using hlow, hw.1, hw.2, hl⟩
end
section
variable {H : Type} {enc : TypeId × Value → H} {W : World} {r : Reach} {b0 : Nat} {v : Value} {d : DataW H} {p : List MemPlace}
set_option maxRecDepth 100000 in
theorem open_long (hv : Value.okWide Tryz.prog W r b0 24 v) (h : DataW.Trod enc Tryz.prog W 0 (fun _ => true) true 24 v d p) : ∃ neg s l, v = .agg #[.bool neg, s] ∧ RI W W.heap.size s l := by
  obtain ⟨cs, rfl, hsz⟩ := okWide_struct Tryz.underlying24 hv
  obtain ⟨c0, c1, rfl⟩ := Joins.array2 (hsz.trans (show Tryz.prog.cellsOf 24 = 2 by kernel_rfl))
  obtain ⟨fuel, hf⟩ := h
  obtain ⟨neg, l, rfl, hl⟩ := long_of (fuel := fuel) hf
  exact ⟨neg, c1, l, rfl, hl⟩
set_option maxRecDepth 100000 in
theorem open_draft (hv : Value.okWide Tryz.prog W r b0 27 v) (h : DataW.Trod enc Tryz.prog W 0 (fun _ => true) true 27 v d p) :
    ∃ neg low s l, v = .agg #[.bool neg, .int .u8 low, s] ∧ 0 ≤ low ∧ low ≤ 255 ∧ RW W W.heap.size s l := by
  obtain ⟨cs, rfl, hsz⟩ := okWide_struct Tryz.underlying27 hv
  obtain ⟨c0, c1, c2, rfl⟩ := Joins.array3 (hsz.trans (show Tryz.prog.cellsOf 27 = 3 by kernel_rfl))
  obtain ⟨fuel, hf⟩ := h
  obtain ⟨neg, low, l, rfl, rfl, h0, h1, hl⟩ := draft_of (fuel := fuel) hf
  exact ⟨neg, low, c2, l, rfl, h0, h1, hl⟩
theorem array10 {α : Type} {cs : Array α} (h : cs.size = 10) : ∃ c0 c1 c2 c3 c4 c5 c6 c7 c8 c9, cs = #[c0, c1, c2, c3, c4, c5, c6, c7, c8, c9] := by
  obtain ⟨l⟩ := cs
  match l, h with
  | [c0, c1, c2, c3, c4, c5, c6, c7, c8, c9], _ => exact ⟨c0, c1, c2, c3, c4, c5, c6, c7, c8, c9, rfl⟩
set_option maxRecDepth 100000 in
theorem open_two (hv : Value.okWide Tryz.prog W r b0 29 v) (h : DataW.Trod enc Tryz.prog W 0 (fun _ => true) true 29 v d p) :
    ∃ na sa la nb sb lb nx lx sx wx ny ly sy wy, v = .agg #[.bool na, sa, .bool nb, sb, .bool nx, .int .u8 lx, sx, .bool ny, .int .u8 ly, sy] ∧ RI W W.heap.size sa la ∧ RI W W.heap.size sb lb ∧ 0 ≤ lx ∧ lx ≤ 255 ∧ RW W W.heap.size sx wx ∧ 0 ≤ ly ∧ ly ≤ 255 ∧ RW W W.heap.size sy wy := by
  obtain ⟨cs, rfl, hsz⟩ := okWide_struct Tryz.underlying29 hv
  obtain ⟨c0, c1, c2, c3, c4, c5, c6, c7, c8, c9, rfl⟩ := array10 (hsz.trans (show Tryz.prog.cellsOf 29 = 10 by kernel_rfl))
  obtain ⟨fuel, hf⟩ := h
  obtain ⟨y0, y1, y2, y3, n, _, _, h0, h1, h2, h3⟩ := Joins.trod_struct4 Tryz.underlying29 hf
  have e0 : ([c0, c1, c2, c3, c4, c5, c6, c7, c8, c9].drop 0).take (Tryz.prog.cellsOf 24) = [c0, c1] := by rw [show Tryz.prog.cellsOf 24 = 2 by kernel_rfl]; rfl
  have e1 : ([c0, c1, c2, c3, c4, c5, c6, c7, c8, c9].drop 2).take (Tryz.prog.cellsOf 24) = [c2, c3] := by rw [show Tryz.prog.cellsOf 24 = 2 by kernel_rfl]; rfl
  have e2 : ([c0, c1, c2, c3, c4, c5, c6, c7, c8, c9].drop 4).take (Tryz.prog.cellsOf 27) = [c4, c5, c6] := by rw [show Tryz.prog.cellsOf 27 = 3 by kernel_rfl]; rfl
  have e3 : ([c0, c1, c2, c3, c4, c5, c6, c7, c8, c9].drop 7).take (Tryz.prog.cellsOf 27) = [c7, c8, c9] := by rw [show Tryz.prog.cellsOf 27 = 3 by kernel_rfl]; rfl
  replace h0 := (show DataW.trod enc Tryz.prog W 0 (fun _ => true) true n 24 [c0, c1] = some _ from by rw [← e0]; exact h0)
  replace h1 := (show DataW.trod enc Tryz.prog W 0 (fun _ => true) true n 24 [c2, c3] = some _ from by rw [← e1]; exact h1)
  replace h2 := (show DataW.trod enc Tryz.prog W 0 (fun _ => true) true n 27 [c4, c5, c6] = some _ from by rw [← e2]; exact h2)
  replace h3 := (show DataW.trod enc Tryz.prog W 0 (fun _ => true) true n 27 [c7, c8, c9] = some _ from by rw [← e3]; exact h3)
  obtain ⟨na, la, rfl, ha⟩ := long_of h0
  obtain ⟨nb, lb, rfl, hb⟩ := long_of h1
  obtain ⟨nx, lx, wx, rfl, rfl, hx0, hx1, hx⟩ := draft_of h2
  obtain ⟨ny, ly, wy, rfl, rfl, hy0, hy1, hy⟩ := draft_of h3
  exact ⟨na, c1, la, nb, c3, lb, nx, lx, c6, wx, ny, ly, c9, wy, rfl, ha, hb, hx0, hx1, hx, hy0, hy1, hy⟩
end
end Go.Proofs.YtnbanlmkoljghaaGreatDoor
