/- Facts of this program's tables, and the laws on make and copy in the words of Mem. -/
import Derived.Test.YtnbanlmkoljghaaGreatDoorProg
import Derived.Test.YtnbanlmkoljghaaGreatDoorMem
import Derived.Laws.CopyOwn
namespace Go.Proofs.YtnbanlmkoljghaaGreatDoor
open Go Go.RowKit

theorem info_int : (Tryz.prog.info? 3).map (fun i => (i.zero, i.size, i.bytes)) = some (some (.int .i64 0), 1, 8) := by kernel_rfl
theorem cells_madeInt (n : Nat) : madeCells #[Value.int .i64 0] n = ((List.replicate n (0 : Int)).map (Value.int .i64)).toArray := by
  have h := toList_madeCells_one (.int .i64 0) n
  rw [← Array.toArray_toList (xs := madeCells #[Value.int .i64 0] n), h]
  simp
/-- make(Size, n) -/
theorem mk_size (n : Nat) (hn : n ≤ 17592186044416) (w : World) : (Instr.makeSlice 79 (.int .i64 (n : Int)) (.int .i64 (n : Int))).run Tryz.prog w =
    .ok (.slice (some ⟨w.heap.size, 0, none⟩) n n) (w.alloc (zerosObj n)) := by
  obtain ⟨i, hi, hz, hs, hb⟩ := info_parts info_int
  have h := run_make (P := Tryz.prog) w 79 3 i (.int .i64 0) Tryz.underlying79 hi hz .i64 .i64 n n (by omega) (by omega) (by rw [hb]; omega) (by omega)
  rw [h, hs]
  show _ = Result.ok _ (w.alloc (.cells _ _ _))
  rw [← cells_madeInt]
  simp [Value.cells]
/-- make([]int, n) -/
theorem mk_ints (n : Nat) (hn : n ≤ 17592186044416) (w : World) : (Instr.makeSlice 22 (.int .i64 (n : Int)) (.int .i64 (n : Int))).run Tryz.prog w =
    .ok (.slice (some ⟨w.heap.size, 0, none⟩) n n) (w.alloc (zerosObj n)) := by
  obtain ⟨i, hi, hz, hs, hb⟩ := info_parts info_int
  have h := run_make (P := Tryz.prog) w 22 3 i (.int .i64 0) Tryz.underlying22 hi hz .i64 .i64 n n (by omega) (by omega) (by rw [hb]; omega) (by omega)
  rw [h, hs]
  show _ = Result.ok _ (w.alloc (.cells _ _ _))
  rw [← cells_madeInt]
  simp [Value.cells]
end Go.Proofs.YtnbanlmkoljghaaGreatDoor
