/- Plain: how many digits sums, products, roots, divisors have. -/
import Derived.Test.YtnbanlmkoljghaaGreatDoorNum
namespace Go.Proofs.YtnbanlmkoljghaaGreatDoor
open Go Go.RowKit Dig

/-- At most k digits. -/
def Len (k : Nat) (z : Int) : Prop := (dig z.natAbs).length ≤ k
theorem Len.fit {k : Nat} {z : Int} (h : Len k z) (hk : k ≤ 600) : Fit z := Nat.le_trans h hk
theorem Len.mono {k m : Nat} {z : Int} (h : Len k z) (hk : k ≤ m) : Len m z := Nat.le_trans h hk
theorem Len.le {k : Nat} {z y : Int} (h : Len k z) (hy : y.natAbs ≤ z.natAbs) : Len k y := Nat.le_trans (dig_len_mono hy) h
theorem Len.mul {j k : Nat} {a b : Int} (h : Len j a) (h' : Len k b) : Len (j + k) (a * b) := by
  unfold Len
  rw [Int.natAbs_mul]
  exact Nat.le_trans (dig_len_mul _ _) (Nat.add_le_add h h')
theorem Len.add {k : Nat} {a b : Int} (h : Len k a) (h' : Len k b) : Len (k + 1) (a + b) := by
  have h1 := dig_len_add a.natAbs b.natAbs h h'
  exact Nat.le_trans (dig_len_mono (show (a + b).natAbs ≤ a.natAbs + b.natAbs by omega)) h1
theorem Len.sub {k : Nat} {a b : Int} (h : Len k a) (h' : Len k b) : Len (k + 1) (a - b) := by
  have h1 := dig_len_add a.natAbs b.natAbs h h'
  exact Nat.le_trans (dig_len_mono (show (a - b).natAbs ≤ a.natAbs + b.natAbs by omega)) h1
theorem Len.small {z : Int} (h : z.natAbs < 1000000000) : Len 1 z := dig_len_le.2 (show z.natAbs < bp 1 from h)
section
variable {w : World} {v : Value} {z : Int}
theorem LV.alloc (h : LV w w.heap.size v z) (o : Obj) : LV (w.alloc o) (w.alloc o).heap.size v z := h.step ((Below.refl _ _).alloc (Nat.le_refl _) o)
theorem LV.drew1 (h : LV w w.heap.size v z) : LV w.drew w.drew.heap.size v z := h
theorem One.drew1 {b : Nat} {t : TypeId} (h : One w b t v) : One w.drew b t v := h
theorem Glob.alloc (h : Glob w) (o : Obj) : Glob (w.alloc o) := h.step ((Below.refl _ _).alloc (Nat.le_refl _) o)
/-- Behind a call that was made behind a draw, a new variable, or both. -/
theorem below_call {W w' : World} {o : Obj} (h : Below W.heap.size W w) (hb : Below (w.alloc o).heap.size (w.alloc o) w') : Below W.heap.size W w' := (h.alloc h.size o).trans (hb.mono (Nat.le_trans h.size (by simp)))
theorem below_call_drew {W w' : World} {o : Obj} (h : Below W.heap.size W w) (hb : Below (w.alloc o).drew.heap.size (w.alloc o).drew w') : Below W.heap.size W w' := below_call h (below_undrew hb)
theorem below_call_drew0 {W w' : World} (h : Below W.heap.size W w) (hb : Below w.drew.heap.size w.drew w') : Below W.heap.size W w' := h.trans ((below_undrew hb).mono h.size)
theorem below_call0 {W w' : World} (h : Below W.heap.size W w) (hb : Below w.heap.size w w') : Below W.heap.size W w' := h.trans (hb.mono h.size)
end
end Go.Proofs.YtnbanlmkoljghaaGreatDoor
