/- The drafts of intervals (layer 02). -/
import Derived.Test.YtfklkphoplpebaaGreatDoorDecTexts
namespace Go.Proofs.YtfklkphoplpebaaGreatDoor
open Go Go.RowKit Dig

theorem shift_pow (b : Int) {m : Nat} (hm : 0 < m) (hm2 : m ≤ 60) : ∃ Q : Int, wrap64 (wrap64 (2 ^ (b % (m : Int)).toNat) + 1) = Q ∧ 2 ≤ Q ∧ Q ≤ 2 ^ (m - 1) + 1 := by
  have h1 := Int.emod_nonneg b (show (m : Int) ≠ 0 by omega)
  have h2 := Int.emod_lt_of_pos b (show (0 : Int) < (m : Int) by omega)
  obtain ⟨k, hk⟩ : ∃ k : Nat, (b % (m : Int)).toNat = k := ⟨_, rfl⟩
  have hk2 : k ≤ m - 1 := by omega
  rw [hk]
  have h3 : (2 : Int) ^ k = ((2 ^ k : Nat) : Int) := by simp
  have h4 : (2 : Int) ^ (m - 1) = ((2 ^ (m - 1) : Nat) : Int) := by simp
  have h5 : 2 ^ k ≤ 2 ^ (m - 1) := Nat.pow_le_pow_right (by omega) hk2
  have h6 : 2 ^ (m - 1) ≤ 2 ^ 59 := Nat.pow_le_pow_right (by omega) (by omega)
  have h7 : 0 < 2 ^ k := Nat.pow_pos (by omega)
  have h8 : (2 : Nat) ^ 59 = 576460752303423488 := by decide
  rw [h8] at h6
  rw [h3, h4]
  generalize 2 ^ k = x at *
  generalize 2 ^ (m - 1) = y at *
  refine ⟨(x : Int) + 1, ?_, by omega, by omega⟩
  rw [IntWalk.wrap64_in (x : Int) (by omega), IntWalk.wrap64_in _ (by omega)]
theorem tmod_in {a Q : Int} (hQ : 0 < Q) : -Q < Int.tmod a Q ∧ Int.tmod a Q < Q := by
  have h1 := Int.natAbs_tmod a Q
  have h2 : a.natAbs % Q.natAbs < Q.natAbs := Nat.mod_lt _ (by omega)
  omega
set_option maxRecDepth 100000 in
theorem DSpan_any (w : World) (a b c : Int) (hb0 : 0 ≤ b) (hb1 : b ≤ 255) (hc0 : 0 ≤ c) (hc1 : c ≤ 4294967295) :
    Calls Tryz.prog 16 #[.agg #[.int .i64 a, .int .u8 b, .int .u32 c]] w fun e w' => Below w.heap.size w w' ∧ ∃ lo hi : Int, e = .returned (.agg #[.int .i64 lo, .int .i64 hi]) ∧ fixOk lo ∧ fixOk hi := by
  obtain ⟨Q, hQ', hQ0, hQ1⟩ := shift_pow b (m := 52) (by decide) (by decide)
  have hQ : wrap64 (wrap64 (2 ^ (b % 52).toNat) + 1) = Q := hQ'
  clear hQ'
  obtain ⟨lo, hlo⟩ : ∃ lo, a.tmod Q = lo := ⟨_, rfl⟩
  have hl := tmod_in (a := a) (Q := Q) (by omega)
  rw [hlo] at hl
  have hl0 : -2251799813685249 ≤ lo := by omega
  have hl1 : lo ≤ 2251799813685249 := by omega
  obtain ⟨hi, hhi⟩ : ∃ hi, hi = min (lo + c) 4503599627370496 := ⟨_, rfl⟩
  have HF := Lib.hid (show fixOk lo ∧ fixOk hi by unfold fixOk; omega)
  have hQn : (Q = 0) = False := eq_false (by omega)
  have HHI := Lib.hid hhi
  have HB := Lib.hid (below_alloc1 (below_alloc1 (Below.refl w.heap.size w) (.cells #[.int .i64 a, .int .u8 b, .int .u32 c] 40)) (.cells #[.int .i64 lo, .int .i64 hi] 37))
  have HC := Lib.hid (show CB ((w.alloc (.cells #[.int .i64 a, .int .u8 b, .int .u32 c] 40)).alloc (.cells #[.int .i64 lo, .int .i64 hi] 37)) (w.heap.size + 1) 37 #[.int .i64 lo, .int .i64 hi] by have h := CB.new (w.alloc (.cells #[.int .i64 a, .int .u8 b, .int .u32 c] 40)) 37 #[.int .i64 lo, .int .i64 hi]; simpa using h)
  clear hl hQ1 hQ0 hhi
  go_enter Tryz.func16, Tryz.ntmps16
  go_wp2
  rw [← HHI.out]
  exact bodyPost_ret (results_cell_row rfl _ _ (w.heap.size + 1) _ #[.int .i64 lo, .int .i64 hi] (0, 0) _ rfl HC.out Tryz.underlying37 rfl (by kernel_rfl)) rfl ⟨HB.out, lo, hi, rfl, HF.out.1, HF.out.2⟩
set_option maxRecDepth 100000 in
theorem DSmall_any (w : World) (a b c : Int) (hb0 : 0 ≤ b) (hb1 : b ≤ 255) :
    Calls Tryz.prog 17 #[.agg #[.int .i64 a, .int .u8 b, .int .u32 c]] w fun e w' => Below w.heap.size w w' ∧ ∃ lo hi : Int, e = .returned (.agg #[.int .i64 lo, .int .i64 hi]) ∧ fixOk lo := by
  obtain ⟨Q, hQ', hQ0, hQ1⟩ := shift_pow b (m := 37) (by decide) (by decide)
  have hQ : wrap64 (wrap64 (2 ^ (b % 37).toNat) + 1) = Q := hQ'
  clear hQ'
  obtain ⟨lo, hlo⟩ : ∃ lo, a.tmod Q = lo := ⟨_, rfl⟩
  have hl := tmod_in (a := a) (Q := Q) (by omega)
  rw [hlo] at hl
  have hl0 : -2251799813685249 ≤ lo := by omega
  have hl1 : lo ≤ 2251799813685249 := by omega
  have HF := Lib.hid (show fixOk lo by unfold fixOk; omega)
  have hQn : (Q = 0) = False := eq_false (by omega)
  clear hl hQ1 hQ0
  go_enter Tryz.func17, Tryz.ntmps17
  go_wp2
  generalize wrap64 (lo + wrap64 (c / 2 ^ (b % 32).toNat)) = hi
  have hc := CB.new (w.alloc (.cells #[.int .i64 a, .int .u8 b, .int .u32 c] 40)) 37 #[.int .i64 lo, .int .i64 hi]
  rw [show (w.alloc (.cells #[.int .i64 a, .int .u8 b, .int .u32 c] 40)).heap.size = w.heap.size + 1 by simp] at hc
  exact bodyPost_ret (results_cell_row rfl _ _ (w.heap.size + 1) _ #[.int .i64 lo, .int .i64 hi] (0, 0) _ rfl hc Tryz.underlying37 rfl (by kernel_rfl)) rfl ⟨below_alloc1 (below_alloc1 (Below.refl w.heap.size w) _) _, lo, hi, rfl, HF.out⟩
end Go.Proofs.YtfklkphoplpebaaGreatDoor
