/- The law package's small functions of layer 05: is, fails, says, refuses. -/
import Derived.Test.YtfklkphoplpebaaGreatDoorDecParse
namespace Go.Proofs.YtfklkphoplpebaaGreatDoor
open Go Go.RowKit Dig

theorem isD_any (w : World) (s : ByteArray) :
    Calls Tryz.prog 23 #[.string s] w fun e w' => e = .returned (.func (.func 52) #[] #[.pointer (some ⟨w.heap.size, 0, none⟩)]) ∧ w' = w.alloc (.cells #[.string s] 9) := by
  go_enter Tryz.func23, Tryz.ntmps23
  go_wp2
  go_ret
  exact ⟨rfl, rfl⟩
theorem failsD_any (w : World) (c : Int) :
    Calls Tryz.prog 24 #[.int .i64 c] w fun e w' => e = .returned (.func (.func 53) #[] #[.pointer (some ⟨w.heap.size, 0, none⟩)]) ∧ w' = w.alloc (.cells #[.int .i64 c] 27) := by
  go_enter Tryz.func24, Tryz.ntmps24
  go_wp2
  go_ret
  exact ⟨rfl, rfl⟩
theorem saysD_any (w : World) (c : Int) :
    Calls Tryz.prog 22 #[.int .i64 c] w fun e w' => e = .returned (.func (.func 51) #[] #[.pointer (some ⟨w.heap.size, 0, none⟩)]) ∧ w' = w.alloc (.cells #[.int .i64 c] 3) := by
  go_enter Tryz.func22, Tryz.ntmps22
  go_wp2
  go_ret
  exact ⟨rfl, rfl⟩
theorem refusesD_any (w : World) (c : Int) :
    Calls Tryz.prog 25 #[.int .i64 c] w fun e w' => e = .returned (.func (.func 54) #[] #[.pointer (some ⟨w.heap.size, 0, none⟩)]) ∧ w' = w.alloc (.cells #[.int .i64 c] 27) := by
  go_enter Tryz.func25, Tryz.ntmps25
  go_wp2
  go_ret
  exact ⟨rfl, rfl⟩
theorem says1_yes (w : World) (b : Nat) (n : Int) (h : One w b 3 (.int .i64 n)) :
    Calls Tryz.prog 51 #[.int .i64 n, .int .i64 0, .pointer (some ⟨b, 0, none⟩)] w fun e w' => e = .returned (.bool true) ∧ w' = w := by
  have q := h.cell
  go_enter Tryz.func51, Tryz.ntmps51
  go_wp2
  go_ret
  exact ⟨rfl, rfl⟩
theorem isD1_yes (w : World) (b : Nat) (s t : ByteArray) (h : One w b 9 (.string s)) (ht : t.data.toList = s.data.toList) :
    Calls Tryz.prog 52 #[.string t, .int .i64 0, .pointer (some ⟨b, 0, none⟩)] w fun e w' => e = .returned (.bool true) ∧ w' = w := by
  have q := h.cell
  have k : (t.toList == s.toList) = true := by rw [beq_str, ht]; simp
  clear ht
  go_enter Tryz.func52, Tryz.ntmps52
  go_wp2
  go_ret
  exact ⟨rfl, rfl⟩
theorem failsD1_yes (w : World) (b : Nat) (c : Int) (h : One w b 27 (.int .i64 c)) :
    Calls Tryz.prog 53 #[.string ⟨#[]⟩, .int .i64 c, .pointer (some ⟨b, 0, none⟩)] w fun e w' => e = .returned (.bool true) ∧ w' = w := by
  have q := h.cell
  go_enter Tryz.func53, Tryz.ntmps53
  go_wp2
  go_ret
  exact ⟨rfl, rfl⟩
theorem refuses1_yes (w : World) (b : Nat) (c : Int) (h : One w b 27 (.int .i64 c)) :
    Calls Tryz.prog 54 #[.int .i64 0, .int .i64 c, .pointer (some ⟨b, 0, none⟩)] w fun e w' => e = .returned (.bool true) ∧ w' = w := by
  have q := h.cell
  go_enter Tryz.func54, Tryz.ntmps54
  go_wp2
  go_ret
  exact ⟨rfl, rfl⟩
end Go.Proofs.YtfklkphoplpebaaGreatDoor
