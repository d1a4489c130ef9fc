/- Words that the laws over all four pairs share. -/
import Derived.Test.YtnbanlmkoljghaaGreatDoorWorks
import Derived.Test.YtnbanlmkoljghaaGreatDoorPr
import Derived.Test.YtnbanlmkoljghaaGreatDoorDec
import Derived.Test.YtnbanlmkoljghaaGreatDoorRef
namespace Go.Proofs.YtnbanlmkoljghaaGreatDoor
open Go Go.RowKit Dig

theorem lr_put0 {w : World} {b : Nat} {q n : Bool} {u' v : Value} {l : List Int} (hb : LB w b (.bool false) (.slice none 0 0)) (h : LR w w.heap.size v n l) : LR ((w.setCell ⟨b, 0, none⟩ (.bool q)).setCell ⟨b, 1, none⟩ u') ((w.setCell ⟨b, 0, none⟩ (.bool q)).setCell ⟨b, 1, none⟩ u').heap.size v n l := by
  obtain ⟨s, hs, hr⟩ := h
  refine ⟨s, hs, ?_⟩
  have h1 := (hr.setLB hb 0 (.bool q)).setLB (hb.set0 (.bool q)) 1 u'
  simpa [World.setCell] using h1
/-- The reference's Same at two Longs that read the same. -/
theorem SameR_yes {w : World} {va vb : Value} {n : Bool} {l : List Int} (ha : LR w w.heap.size va n l) (hb : LR w w.heap.size vb n l) :
    Calls Tryz.prog 24 #[va, vb] w fun e w' => Below w.heap.size w w' ∧ e = .returned (.bool true) := by
  refine (SameR_any w va vb _ _ _ _ ha hb).mono ?_
  rintro e w' ⟨hw, he⟩
  exact ⟨hw, by rw [he]; simp⟩
/-- long.Same at two Longs that read the same. -/
theorem Same_yes {w : World} {va vb : Value} {n : Bool} {l : List Int} (ha : LR w w.heap.size va n l) (hb : LR w w.heap.size vb n l) :
    Calls Tryz.prog 40 #[va, vb] w fun e w' => Below w.heap.size w w' ∧ e = .returned (.bool true) := by
  refine (Same_any w va vb _ _ _ _ ha hb).mono ?_
  rintro e w' ⟨hw, he⟩
  exact ⟨hw, by rw [he]; simp⟩
end Go.Proofs.YtnbanlmkoljghaaGreatDoor
