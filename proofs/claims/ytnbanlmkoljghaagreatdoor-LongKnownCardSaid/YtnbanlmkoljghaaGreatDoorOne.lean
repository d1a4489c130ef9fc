/- Variables of their own block. -/
import Derived.Test.YtnbanlmkoljghaaGreatDoorMem
namespace Go.Proofs.YtnbanlmkoljghaaGreatDoor
/-- A variable of its own block. -/
def One (w : Go.World) (b : Nat) (t : Go.TypeId) (v : Go.Value) : Prop := w.heap[b]? = some (.cells #[v] t (0, 0))
section
open Go
variable {w w' : World} {b : Nat} {t : TypeId} {v u : Value}
theorem One.lt (h : One w b t v) : b < w.heap.size := by
  rcases Nat.lt_or_ge b w.heap.size with hlt | hge
  · exact hlt
  · unfold One at h; rw [Array.getElem?_eq_none hge] at h; cases h
theorem One.cell (h : One w b t v) : w.cell? ⟨b, 0, none⟩ = some v := by
  unfold One at h; simp [World.cell?, h]
theorem One.frozen (h : One w b t v) : w.frozen? ⟨b, 0, none⟩ = false := by
  unfold One at h; simp [World.frozen?, h]
theorem One.new (w : World) (t : TypeId) (v : Value) : One (w.alloc (.cells #[v] t)) w.heap.size t v := heap_alloc_new w _
theorem One.of_block (h : One w b t v) (hb : w'.heap[b]? = w.heap[b]?) : One w' b t v := hb.trans h
theorem One.step (h : One w b t v) (hb : Go.RowKit.Below w.heap.size w w') : One w' b t v := h.of_block (hb.block b h.lt)
theorem One.alloc (h : One w b t v) (o : Obj) : One (w.alloc o) b t v := h.of_block (Go.RowKit.Below.heap_alloc w o b h.lt)
theorem One.far (h : One w b t v) {p : Addr} (hp : b ≠ p.block) (x : Value) : One (w.setCell p x) b t v := h.of_block (Go.RowKit.Below.heap_setCell w p x b hp)
theorem One.set (h : One w b t v) (x : Value) : One (w.setCell ⟨b, 0, none⟩ x) b t x := by
  unfold One at h ⊢
  simp [World.setCell, Array.getElem?_modify, h]
/-- A slice reads as it did behind a store into a variable that holds no int. -/
theorem RI.setOne {B : Nat} {s : Value} {l : List Int} (h : RI w B s l) (hv : One w b t v) (hn : ∀ n, v ≠ .int .i64 n) (x : Value) : RI (w.setCell ⟨b, 0, none⟩ x) B s l := by
  obtain ⟨A, c, hs, hc, hm, h0⟩ := h
  refine ⟨A, c, hs, hc, hm, fun hp => ?_⟩
  obtain ⟨g, off, hA, hg, hx⟩ := h0 hp
  have hne : g ≠ b := by
    rintro rfl
    have h1 := hx 0 hp
    unfold One at hv
    simp only [World.cell?, hv] at h1
    cases off with
    | zero => simp at h1; exact hn _ h1
    | succ k => simp at h1
  exact ⟨g, off, hA, hg, fun j hj => (World.cell?_of_block (Go.RowKit.Below.heap_setCell _ _ _ _ hne)).trans (hx j hj)⟩
end
end Go.Proofs.YtnbanlmkoljghaaGreatDoor
