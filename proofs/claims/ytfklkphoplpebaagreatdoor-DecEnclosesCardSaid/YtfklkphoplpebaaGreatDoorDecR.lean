/- dec.rounds at this translation: rounding down and up, as two functions that hold a sign and a step. -/
import Derived.Test.YtfklkphoplpebaaGreatDoorDecK
namespace Go.Proofs.YtfklkphoplpebaaGreatDoor
open Go Go.RowKit Dig

theorem CB.put {w : World} {b : Nat} {t : TypeId} {cs : Array Value} (h : CB w b t cs) (j : Nat) (u : Value) : CB (w.setCell ⟨b, j, none⟩ u) b t (cs.setIfInBounds j u) := by
  unfold CB at h ⊢
  simp [World.setCell, Array.getElem?_modify, h]
/-- The function that rounds: its sign lies in block b, its step in block b + 1. -/
def stepV (b : Nat) : Value := .func (.func 92) #[] #[.pointer (some ⟨b, 0, none⟩), .pointer (some ⟨b + 1, 0, none⟩)]
theorem step_any (w : World) (neg : Bool) (by_ : Int) :
    Calls Tryz.prog 91 #[.bool neg, .int .i64 by_] w fun e w' => Below w.heap.size w w' ∧ e = .returned (stepV w.heap.size) ∧ One w' w.heap.size 4 (.bool neg) ∧ One w' (w.heap.size + 1) 3 (.int .i64 by_) := by
  have h0 := (One.new w 4 (.bool neg)).alloc (.cells #[.int .i64 by_] 3)
  have h1 := One.new (w.alloc (.cells #[.bool neg] 4)) 3 (.int .i64 by_)
  rw [show (w.alloc (.cells #[.bool neg] 4)).heap.size = w.heap.size + 1 by simp] at h1
  have HB := Lib.hid (((Below.refl w.heap.size w).alloc (Nat.le_refl _) (.cells #[.bool neg] 4)).alloc (by simp) (.cells #[.int .i64 by_] 3))
  have H0 := Lib.hid h0; have H1 := Lib.hid h1
  clear h0 h1
  go_enter Tryz.func91, Tryz.ntmps91
  go_wp2
  go_ret
  exact ⟨HB.out, rfl, H0.out, H1.out⟩
set_option maxRecDepth 100000 in
set_option maxHeartbeats 2000000 in
theorem rounds_any (w : World) :
    Calls Tryz.prog 45 #[] w fun e w' => Below w.heap.size w w' ∧ ∃ b c : Nat, e = .returned (.agg #[stepV b, stepV c]) ∧ One w' b 4 (.bool true) ∧ One w' (b + 1) 3 (.int .i64 (-1)) ∧ One w' c 4 (.bool false) ∧ One w' (c + 1) 3 (.int .i64 1) := by
  go_enter Tryz.func45, Tryz.ntmps45
  go_wp2_with fail
  refine (step_any _ true (-1)).mono ?_
  rintro e w1 ⟨hb1, rfl, h0, h1⟩
  have e0 : (w.alloc (.cells #[.nilFunc, .nilFunc] 82)).heap.size = w.heap.size + 1 := by simp
  rw [e0] at h0 h1 ⊢
  have C0 := (CB.new w 82 #[.nilFunc, .nilFunc]).step hb1
  have HB1 := Lib.hid (((Below.refl w.heap.size w).alloc (Nat.le_refl _) (.cells #[.nilFunc, .nilFunc] 82)).trans (hb1.mono (by simp)))
  have z1 := h1.lt
  have H0 := Lib.hid h0; have H1 := Lib.hid h1
  clear hb1 h0 h1 e0
  obtain ⟨a1, ha1⟩ : ∃ a, a = w.heap.size + 1 := ⟨_, rfl⟩
  rw [← ha1] at H0 H1 z1 ⊢
  have HA1 := Lib.hid ha1; clear ha1
  rw [stepV]
  go_wp2_with fail
  refine (step_any _ false 1).mono ?_
  rintro e w2 ⟨hb2, rfl, h2, h3⟩
  have C1 := C0.step hb2
  have HB2 := Lib.hid (HB1.out.trans (hb2.mono HB1.out.size))
  have H0' := Lib.hid (H0.out.step hb2); have H1' := Lib.hid (H1.out.step hb2)
  have H2 := Lib.hid h2; have H3 := Lib.hid h3
  have z2 := hb2.size
  clear hb2 h2 h3 C0
  rw [stepV]
  have q5 : w2.heap[w.heap.size]? = some (.cells #[.nilFunc, .nilFunc] 82 (0, 0)) := C1
  have q0 := C1.cell 0 rfl; have q1 := C1.cell 1 rfl; have q2 := C1.frozen 0; have q3 := C1.frozen 1; have q4 := C1.lt
  clear q5
  have hs1 : (store ⟨w.heap.size, 0, none⟩ (.func (.func 92) #[] #[.pointer (some ⟨a1, 0, none⟩), .pointer (some ⟨a1 + 1, 0, none⟩)])).run Tryz.prog w2 = .ok () (w2.setCell ⟨w.heap.size, 0, none⟩ (.func (.func 92) #[] #[.pointer (some ⟨a1, 0, none⟩), .pointer (some ⟨a1 + 1, 0, none⟩)])) := by rw [run_store _ _ _ _ _ rfl, q0, q2]; rfl
  have C2 : CB (w2.setCell ⟨w.heap.size, 0, none⟩ (.func (.func 92) #[] #[.pointer (some ⟨a1, 0, none⟩), .pointer (some ⟨a1 + 1, 0, none⟩)])) w.heap.size 82 #[(.func (.func 92) #[] #[.pointer (some ⟨a1, 0, none⟩), .pointer (some ⟨a1 + 1, 0, none⟩)]), .nilFunc] := C1.put 0 _
  have C3 : CB ((w2.setCell ⟨w.heap.size, 0, none⟩ (.func (.func 92) #[] #[.pointer (some ⟨a1, 0, none⟩), .pointer (some ⟨a1 + 1, 0, none⟩)])).setCell ⟨w.heap.size, 1, none⟩ (.func (.func 92) #[] #[.pointer (some ⟨w1.heap.size, 0, none⟩), .pointer (some ⟨w1.heap.size + 1, 0, none⟩)])) w.heap.size 82 #[(.func (.func 92) #[] #[.pointer (some ⟨a1, 0, none⟩), .pointer (some ⟨a1 + 1, 0, none⟩)]), (.func (.func 92) #[] #[.pointer (some ⟨w1.heap.size, 0, none⟩), .pointer (some ⟨w1.heap.size + 1, 0, none⟩)])] := C2.put 1 _
  have hs2 : (store ⟨w.heap.size, 1, none⟩ (.func (.func 92) #[] #[.pointer (some ⟨w1.heap.size, 0, none⟩), .pointer (some ⟨w1.heap.size + 1, 0, none⟩)])).run Tryz.prog (w2.setCell ⟨w.heap.size, 0, none⟩ (.func (.func 92) #[] #[.pointer (some ⟨a1, 0, none⟩), .pointer (some ⟨a1 + 1, 0, none⟩)])) = .ok () ((w2.setCell ⟨w.heap.size, 0, none⟩ (.func (.func 92) #[] #[.pointer (some ⟨a1, 0, none⟩), .pointer (some ⟨a1 + 1, 0, none⟩)])).setCell ⟨w.heap.size, 1, none⟩ (.func (.func 92) #[] #[.pointer (some ⟨w1.heap.size, 0, none⟩), .pointer (some ⟨w1.heap.size + 1, 0, none⟩)])) := by
    rw [run_store _ _ _ _ _ rfl, C2.cell 1 rfl, C2.frozen 1]; rfl
  have ha := HA1.out
  have n1 : a1 ≠ w.heap.size := by omega
  have n2 : a1 + 1 ≠ w.heap.size := by omega
  have n3 : w1.heap.size ≠ w.heap.size := by omega
  have n4 : w1.heap.size + 1 ≠ w.heap.size := by omega
  have H0b := Lib.hid ((H0'.out.far (p := ⟨w.heap.size, 0, none⟩) n1 (.func (.func 92) #[] #[.pointer (some ⟨a1, 0, none⟩), .pointer (some ⟨a1 + 1, 0, none⟩)])).far (p := ⟨w.heap.size, 1, none⟩) n1 (.func (.func 92) #[] #[.pointer (some ⟨w1.heap.size, 0, none⟩), .pointer (some ⟨w1.heap.size + 1, 0, none⟩)]))
  have H1b := Lib.hid ((H1'.out.far (p := ⟨w.heap.size, 0, none⟩) n2 (.func (.func 92) #[] #[.pointer (some ⟨a1, 0, none⟩), .pointer (some ⟨a1 + 1, 0, none⟩)])).far (p := ⟨w.heap.size, 1, none⟩) n2 (.func (.func 92) #[] #[.pointer (some ⟨w1.heap.size, 0, none⟩), .pointer (some ⟨w1.heap.size + 1, 0, none⟩)]))
  have H2b := Lib.hid ((H2.out.far (p := ⟨w.heap.size, 0, none⟩) n3 (.func (.func 92) #[] #[.pointer (some ⟨a1, 0, none⟩), .pointer (some ⟨a1 + 1, 0, none⟩)])).far (p := ⟨w.heap.size, 1, none⟩) n3 (.func (.func 92) #[] #[.pointer (some ⟨w1.heap.size, 0, none⟩), .pointer (some ⟨w1.heap.size + 1, 0, none⟩)]))
  have H3b := Lib.hid ((H3.out.far (p := ⟨w.heap.size, 0, none⟩) n4 (.func (.func 92) #[] #[.pointer (some ⟨a1, 0, none⟩), .pointer (some ⟨a1 + 1, 0, none⟩)])).far (p := ⟨w.heap.size, 1, none⟩) n4 (.func (.func 92) #[] #[.pointer (some ⟨w1.heap.size, 0, none⟩), .pointer (some ⟨w1.heap.size + 1, 0, none⟩)]))
  have HB3 := Lib.hid (below_set1 (below_set1 HB2.out (Nat.le_refl _) 0 (.func (.func 92) #[] #[.pointer (some ⟨a1, 0, none⟩), .pointer (some ⟨a1 + 1, 0, none⟩)])) (Nat.le_refl _) 1 (.func (.func 92) #[] #[.pointer (some ⟨w1.heap.size, 0, none⟩), .pointer (some ⟨w1.heap.size + 1, 0, none⟩)]))
  clear q0 q1 q2 q3 ha n1 n2 n3 n4
  go_wp2
  exact bodyPost_ret (results_cell_row rfl _ _ w.heap.size _ #[(.func (.func 92) #[] #[.pointer (some ⟨a1, 0, none⟩), .pointer (some ⟨a1 + 1, 0, none⟩)]), (.func (.func 92) #[] #[.pointer (some ⟨w1.heap.size, 0, none⟩), .pointer (some ⟨w1.heap.size + 1, 0, none⟩)])] (0, 0) _ rfl C3 Tryz.underlying82 rfl (by kernel_rfl)) rfl ⟨HB3.out, a1, w1.heap.size, rfl, H0b.out, H1b.out, H2b.out, H3b.out⟩
end Go.Proofs.YtfklkphoplpebaaGreatDoor
