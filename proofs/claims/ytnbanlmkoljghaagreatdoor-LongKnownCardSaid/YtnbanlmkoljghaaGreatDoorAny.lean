/- All four pairs; divisions of Longs that are not valid; the sign of a rest. -/
import Derived.Test.YtnbanlmkoljghaaGreatDoorRing
namespace Go.Proofs.YtnbanlmkoljghaaGreatDoor
open Go Go.RowKit Dig

theorem ni_len (l : List Nat) : (ni l).length = l.length := by simp [ni]
/-- Any of the four pairs: its cells, and what they read as. -/
theorem Pairs.any {w : World} {g : Nat} {na nb : Bool} {la lb : List Int} {X Y V U : Int} {s0 s1 s2 s3 s4 s5 s6 s7 : Value} (h : Pairs w g na nb la lb X Y V U s0 s1 s2 s3 s4 s5 s6 s7) (k : Nat) (hk : k < 4) :
    ∃ n1 l1 A1 c1 n2 l2 A2 c2, w.cell? ⟨g, k * 4, none⟩ = some (.bool n1) ∧ w.cell? ⟨g, k * 4 + 1, none⟩ = some (.slice A1 (List.length l1) c1) ∧ w.cell? ⟨g, k * 4 + 2, none⟩ = some (.bool n2) ∧ w.cell? ⟨g, k * 4 + 3, none⟩ = some (.slice A2 (List.length l2) c2) ∧
      LR w w.heap.size (.agg #[.bool n1, .slice A1 l1.length c1]) n1 l1 ∧ LR w w.heap.size (.agg #[.bool n2, .slice A2 l2.length c2]) n2 l2 := by
  have key : ∀ {s t : Value} {n m : Bool} {l l' : List Int} {i : Nat}, RI w w.heap.size s l → RI w w.heap.size t l' → w.cell? ⟨g, i, none⟩ = some (.bool n) → w.cell? ⟨g, i + 1, none⟩ = some s → w.cell? ⟨g, i + 2, none⟩ = some (.bool m) → w.cell? ⟨g, i + 3, none⟩ = some t →
      ∃ n1 l1 A1 c1 n2 l2 A2 c2, w.cell? ⟨g, i, none⟩ = some (.bool n1) ∧ w.cell? ⟨g, i + 1, none⟩ = some (.slice A1 (List.length l1) c1) ∧ w.cell? ⟨g, i + 2, none⟩ = some (.bool n2) ∧ w.cell? ⟨g, i + 3, none⟩ = some (.slice A2 (List.length l2) c2) ∧
      LR w w.heap.size (.agg #[.bool n1, .slice A1 l1.length c1]) n1 l1 ∧ LR w w.heap.size (.agg #[.bool n2, .slice A2 l2.length c2]) n2 l2 := by
    intro s t n m l l' i hs ht e0 e1 e2 e3
    obtain ⟨A, c, rfl, -⟩ := hs.at
    obtain ⟨A', c', rfl, -⟩ := ht.at
    exact ⟨n, l, A, c, m, l', A', c', e0, e1, e2, e3, ⟨_, rfl, hs⟩, ⟨_, rfl, ht⟩⟩
  have hk' : k = 0 ∨ k = 1 ∨ k = 2 ∨ k = 3 := by omega
  rcases hk' with rfl | rfl | rfl | rfl
  · exact key h.r0 h.r1 (h.block.cell 0 rfl) (h.block.cell 1 rfl) (h.block.cell 2 rfl) (h.block.cell 3 rfl)
  · exact key h.r2 h.r3 (h.block.cell 4 rfl) (h.block.cell 5 rfl) (h.block.cell 6 rfl) (h.block.cell 7 rfl)
  · exact key h.r4 h.r5 (h.block.cell 8 rfl) (h.block.cell 9 rfl) (h.block.cell 10 rfl) (h.block.cell 11 rfl)
  · exact key h.r6 h.r7 (h.block.cell 12 rfl) (h.block.cell 13 rfl) (h.block.cell 14 rfl) (h.block.cell 15 rfl)
theorem Div_bad {w : World} {va vb : Value} {na nb : Bool} {la lb : List Int} {Z : Int} (hZ : Z = 0) (ha : LR w w.heap.size va na la) (hb : LR w w.heap.size vb nb lb) (h : ¬ (Valid na la ∧ Valid nb lb)) :
    Calls Tryz.prog 22 #[va, vb] w fun e w' => Below w.heap.size w w' ∧ ∃ v u, e = .returned (.tuple #[v, u, .int .i64 30]) ∧ LV w' w'.heap.size v Z ∧ LV w' w'.heap.size u Z := by
  subst hZ
  refine (Div_any w va vb _ _ _ _ ha hb).mono fun e w' ⟨hw, he⟩ => ⟨hw, ?_⟩
  rw [D2_bad h] at he
  exact he
theorem Div_zero {w : World} {va vb : Value} {a b Z : Int} (hZ : Z = 0) (ha : LV w w.heap.size va a) (hb : LV w w.heap.size vb b) (fa : Fit a) (h0 : b = 0) :
    Calls Tryz.prog 22 #[va, vb] w fun e w' => Below w.heap.size w w' ∧ ∃ v u, e = .returned (.tuple #[v, u, .int .i64 7]) ∧ LV w' w'.heap.size v Z ∧ LV w' w'.heap.size u Z := by
  subst hZ
  exact Div_none ha hb fa h0
theorem Check_good {w : World} {v : Value} {n : Bool} {l : List Int} (h : LR w w.heap.size v n l) (hv : Valid n l) :
    Calls Tryz.prog 54 #[v] w fun e w' => Below w.heap.size w w' ∧ e = .returned (.int .i64 0) := by
  refine (Check_any w v _ _ h).mono fun e w' ⟨hw, c, he, hc⟩ => ⟨hw, ?_⟩
  rcases hc with ⟨_, hc⟩ | ⟨hn, _⟩
  · rw [he, hc]
  · exact absurd hv hn
theorem Check_bad {w : World} {v : Value} {n : Bool} {l : List Int} (h : LR w w.heap.size v n l) (hv : ¬ Valid n l) :
    Calls Tryz.prog 54 #[v] w fun e w' => Below w.heap.size w w' ∧ e = .returned (.int .i64 30) := by
  refine (Check_any w v _ _ h).mono fun e w' ⟨hw, c, he, hc⟩ => ⟨hw, ?_⟩
  rcases hc with ⟨hn, _⟩ | ⟨_, hc⟩
  · exact absurd hn hv
  · rw [he, hc]
theorem tdiv_mul_le (a b : Int) : (Int.tdiv a b * b).natAbs ≤ a.natAbs := by
  rw [Int.natAbs_mul, Int.natAbs_tdiv]; exact Nat.div_mul_le_self _ _
theorem tmod_sgn (a b : Int) (h : Int.tmod a b ≠ 0) : decide (Int.tmod a b < 0) = decide (a < 0) := by
  by_cases ha : a < 0
  · have h1 : Int.tmod a b ≤ 0 := by
      have h2 : 0 ≤ Int.tmod (-a) b := Int.tmod_nonneg b (by omega)
      rw [Int.neg_tmod] at h2; omega
    rw [decide_eq_true ha, decide_eq_true (by omega)]
  · have h1 : 0 ≤ Int.tmod a b := Int.tmod_nonneg b (by omega)
    rw [decide_eq_false ha, decide_eq_false (by omega)]
theorem cmp_low {a b : Int} (h : a < b) : (cmpZ a b).1 = -1 := by
  unfold cmpZ; dsimp only; rw [if_pos h]
end Go.Proofs.YtnbanlmkoljghaaGreatDoor
