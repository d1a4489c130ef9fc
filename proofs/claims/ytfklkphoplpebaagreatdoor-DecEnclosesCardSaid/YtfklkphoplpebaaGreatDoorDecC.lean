/- Whether a number, or an interval, is valid: the program's and the reference's tests. -/
import Derived.Test.YtfklkphoplpebaaGreatDoorDecR
namespace Go.Proofs.YtfklkphoplpebaaGreatDoor
open Go Go.RowKit Dig

def fixOk (v : Int) : Prop := -4503599627370496 ≤ v ∧ v ≤ 4503599627370496
theorem FCheck_yes (w : World) (v : Int) (h : fixOk v) : Calls Tryz.prog 44 #[.int .i64 v] w fun e w' => e = .returned (.int .i64 0) ∧ w' = w := by
  obtain ⟨h1, h2⟩ := h
  go_enter Tryz.func44, Tryz.ntmps44
  go_wp2
  go_ret
  exact ⟨rfl, rfl⟩
theorem FCheck_no (w : World) (v : Int) (h : ¬ fixOk v) : Calls Tryz.prog 44 #[.int .i64 v] w fun e w' => e = .returned (.int .i64 2) ∧ w' = w := by
  by_cases h1 : v < -4503599627370496
  · clear h
    go_enter Tryz.func44, Tryz.ntmps44
    go_wp2
    go_ret
    exact ⟨rfl, rfl⟩
  · have h2 : 4503599627370496 < v := by unfold fixOk at h; omega
    clear h
    go_enter Tryz.func44, Tryz.ntmps44
    go_wp2
    go_ret
    exact ⟨rfl, rfl⟩
theorem FRight_yes (w : World) (v : Int) (h : fixOk v) : Calls Tryz.prog 47 #[.int .i64 v] w fun e w' => e = .returned (.bool true) ∧ w' = w := by
  obtain ⟨h1, h2⟩ := h
  go_enter Tryz.func47, Tryz.ntmps47
  go_wp2
  go_ret
  exact ⟨rfl, rfl⟩
theorem FRight_no (w : World) (v : Int) (h : ¬ fixOk v) : Calls Tryz.prog 47 #[.int .i64 v] w fun e w' => e = .returned (.bool false) ∧ w' = w := by
  by_cases h1 : v < -4503599627370496
  · clear h
    go_enter Tryz.func47, Tryz.ntmps47
    go_wp2
    go_ret
    exact ⟨rfl, rfl⟩
  · have h2 : 4503599627370496 < v := by unfold fixOk at h; omega
    have h3 : ¬ v ≤ 4503599627370496 := by omega
    clear h
    go_enter Tryz.func47, Tryz.ntmps47
    go_wp2
    go_ret
    exact ⟨rfl, rfl⟩
end Go.Proofs.YtfklkphoplpebaaGreatDoor
