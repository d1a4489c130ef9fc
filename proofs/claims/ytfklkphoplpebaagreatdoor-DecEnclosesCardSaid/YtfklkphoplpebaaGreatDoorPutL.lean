/- A Long variable that is stored into: what holds whole numbers elsewhere stays. -/
import Derived.Test.YtfklkphoplpebaaGreatDoorOps
namespace Go.Proofs.YtfklkphoplpebaaGreatDoor
open Go Go.RowKit Dig

theorem soft_put {w : World} {b : Nat} {p q : Bool} {A A' : Option Addr} {n c n' c' : Nat} (h : LB w b (.bool p) (.slice A n c)) : Soft w ((w.setCell ⟨b, 0, none⟩ (.bool q)).setCell ⟨b, 1, none⟩ (.slice A' n' c')) := by
  have key : ∀ {w : World} {p : Bool} {A : Option Addr} {n c : Nat}, LB w b (.bool p) (.slice A n c) → ∀ a : Addr, a.block = b → ∀ k x, w.cell? a ≠ some (.int k x) := by
    intro w p A n c h a ha k x e
    unfold LB at h
    subst ha
    simp only [World.cell?, h] at e
    match ho : a.off with
    | 0 => simp [ho] at e
    | 1 => simp [ho] at e
    | j + 2 => simp [ho] at e
  exact (Soft.set (fun a ha => key h a ha)).trans (Soft.set (fun a ha => key (h.set0 (.bool q)) a ha))
/-- A number of at most four places. -/
theorem fit_mid {z : Int} (h : z.natAbs < 1000000000000000000000000000000000000) : Fit z := Nat.le_trans (dig_len_le.2 (show z.natAbs < bp 4 from h)) (by omega)
end Go.Proofs.YtfklkphoplpebaaGreatDoor
