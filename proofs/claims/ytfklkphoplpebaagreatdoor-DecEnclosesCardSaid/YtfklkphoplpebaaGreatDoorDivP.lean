/- Plain mathematics of math/bits.Div64: a division of two digits by one, in two steps of half a digit. -/
import Derived.Lib.BitFns
import Derived.Laws.Bits64b
import Derived.Test.YtfklkphoplpebaaGreatDoorDecTexts
namespace Go.Proofs.YtfklkphoplpebaaGreatDoor
open Go Go.RowKit Dig

theorem bitLen_one : Lib.bitLen 1 = 1 := by decide
theorem bitLen_range : ∀ (n x : Nat), x ≤ n → 0 < x → x < 2 ^ 64 → ∃ L, Lib.bitLen x = L + 1 ∧ 2 ^ L ≤ x ∧ x < 2 ^ (L + 1)
  | 0, x, h, h0, _ => absurd h (by omega)
  | n + 1, x, h, h0, h1 => by
    by_cases hx : x = 1
    · subst hx; exact ⟨0, bitLen_one, by decide, by decide⟩
    · obtain ⟨L, hL, h2, h3⟩ := bitLen_range n (x / 2) (by omega) (by omega) (by omega)
      refine ⟨L + 1, by rw [Lib.bitLen_half x (by omega) h1, hL]; omega, ?_, ?_⟩
      · rw [Nat.pow_succ]; omega
      · rw [Nat.pow_succ]; omega
/-- The shift that brings y to the top. -/
theorem lead_shift {y : Nat} (h0 : 0 < y) (h1 : y < 2 ^ 64) : ∃ s : Nat, s ≤ 63 ∧ 64 - (Lib.bitLen y : Int) = s ∧ 2 ^ 63 ≤ y * 2 ^ s ∧ y * 2 ^ s < 2 ^ 64 := by
  obtain ⟨L, hL, h2, h3⟩ := bitLen_range y y (Nat.le_refl _) h0 h1
  have hL63 : L ≤ 63 := by
    rcases Nat.lt_or_ge L 64 with h | h
    · omega
    · have := Nat.pow_le_pow_right (show 0 < 2 by omega) h; omega
  refine ⟨63 - L, by omega, by rw [hL]; omega, ?_, ?_⟩
  · have e : (2 : Nat) ^ 63 = 2 ^ L * 2 ^ (63 - L) := by rw [← Nat.pow_add]; congr 1; omega
    rw [e]; exact Nat.mul_le_mul_right _ h2
  · have e : (2 : Nat) ^ 64 = 2 ^ (L + 1) * 2 ^ (63 - L) := by rw [← Nat.pow_add]; congr 1; omega
    rw [e]; exact Nat.mul_lt_mul_of_pos_right h3 (Nat.pow_pos (by omega))
theorem norm_whole {hi lo s : Nat} (hlo : lo < 2 ^ 64) (hs : s ≤ 63) : (hi * 2 ^ s + lo / 2 ^ (64 - s)) * 2 ^ 64 + lo * 2 ^ s % 2 ^ 64 = (hi * 2 ^ 64 + lo) * 2 ^ s ∧ lo / 2 ^ (64 - s) < 2 ^ s := by
  have e : (2 : Nat) ^ 64 = 2 ^ (64 - s) * 2 ^ s := by rw [← Nat.pow_add]; congr 1; omega
  have h1 : lo * 2 ^ s / 2 ^ 64 = lo / 2 ^ (64 - s) := by
    rw [e, Nat.mul_div_mul_right _ _ (Nat.pow_pos (by omega))]
  constructor
  · have h2 := Nat.div_add_mod (lo * 2 ^ s) (2 ^ 64)
    rw [h1] at h2
    rw [Nat.add_mul, Nat.add_mul, Nat.mul_right_comm, Nat.mul_comm (lo / 2 ^ (64 - s))]
    omega
  · rw [Nat.div_lt_iff_lt_mul (Nat.pow_pos (by omega)), Nat.mul_comm, ← e]; exact hlo
section
variable {U y1 y0 t q r : Nat}
theorem kq_lt (hU : U < y1 * 4294967296 + y0) (ht : t < 4294967296) : (U * 4294967296 + t) / (y1 * 4294967296 + y0) < 4294967296 := by
  rw [Nat.div_lt_iff_lt_mul (by omega)]; omega
theorem k_start (hy : 0 < y1) (ht : t < 4294967296) : (U * 4294967296 + t) / (y1 * 4294967296 + y0) ≤ U / y1 := by
  have h1 : (U * 4294967296 + t) / (y1 * 4294967296 + y0) ≤ (U * 4294967296 + t) / (y1 * 4294967296) := Nat.div_le_div_left (by omega) (by omega)
  have h2 : (U * 4294967296 + t) / (y1 * 4294967296) = U / y1 := by
    rw [Nat.mul_comm y1, ← Nat.div_div_eq_div_mul]; congr 1; omega
  omega
theorem k_big (hU : U < y1 * 4294967296 + y0) (ht : t < 4294967296) (hq : q * y1 + r = U) (hb : 4294967296 ≤ q ∨ 4294967296 * r + t < q * y0) : (U * 4294967296 + t) / (y1 * 4294967296 + y0) < q := by
  rcases hb with h | h
  · exact Nat.lt_of_lt_of_le (kq_lt hU ht) h
  · rw [Nat.div_lt_iff_lt_mul (by omega), Nat.mul_add, ← Nat.mul_assoc]
    generalize q * y1 = p1 at *; generalize q * y0 = p0 at *
    omega
theorem k_done (hU : U < y1 * 4294967296 + y0) (hq : q * y1 + r = U) (hb : q * y0 ≤ 4294967296 * r + t) (hQ : (U * 4294967296 + t) / (y1 * 4294967296 + y0) ≤ q) : (U * 4294967296 + t) / (y1 * 4294967296 + y0) = q := by
  refine Nat.le_antisymm hQ ((Nat.le_div_iff_mul_le (by omega)).2 ?_)
  rw [Nat.mul_add, ← Nat.mul_assoc]
  generalize q * y1 = p1 at *; generalize q * y0 = p0 at *
  omega
theorem k_small (hU : U < y1 * 4294967296 + y0) (hy0 : y0 < 4294967296) (hq : q * y1 + r = U) (hr : 4294967296 ≤ r) : q < 4294967296 := by
  refine Nat.lt_of_not_le fun h => ?_
  have := Nat.mul_le_mul_right y1 h
  generalize q * y1 = p1 at *
  omega
theorem k_break (hU : U < y1 * 4294967296 + y0) (hy0 : y0 < 4294967296) (hq : q * y1 + r = U) (hr : 4294967296 ≤ r) (hQ : (U * 4294967296 + t) / (y1 * 4294967296 + y0) ≤ q) : (U * 4294967296 + t) / (y1 * 4294967296 + y0) = q := by
  have h1 := k_small hU hy0 hq hr
  refine k_done hU hq ?_ hQ
  have h2 : q * y0 ≤ 4294967296 * 4294967296 := Nat.mul_le_mul (by omega) (by omega)
  omega
end
/-- Both steps. -/
theorem k_both {N0 N1 Y U t1 t0 : Nat} (hY : 0 < Y) (h0 : N0 = U * 4294967296 + t1) (h1 : N1 = N0 % Y * 4294967296 + t0) : (U * 18446744073709551616 + (t1 * 4294967296 + t0)) / Y = N0 / Y * 4294967296 + N1 / Y ∧ (U * 18446744073709551616 + (t1 * 4294967296 + t0)) % Y = N1 % Y := by
  have e : U * 18446744073709551616 + (t1 * 4294967296 + t0) = Y * (N0 / Y * 4294967296) + N1 := by
    have := Nat.div_add_mod N0 Y
    rw [← Nat.mul_assoc, h1]
    generalize Y * (N0 / Y) = p at *
    omega
  rw [e]
  exact ⟨by rw [Nat.mul_add_div hY], by rw [Nat.mul_add_mod]⟩
theorem wrap_sub {A c B : Int} (h0 : 0 ≤ A + c - B) (h1 : A + c - B < 18446744073709551616) : IntKind.u64.wrap (IntKind.u64.wrap (IntKind.u64.wrap A + c) - IntKind.u64.wrap B) = A + c - B := by
  simp only [u64_mod]
  omega
theorem or_disjoint {a b s : Nat} (hb : b < 2 ^ s) : a * 2 ^ s ||| b = a * 2 ^ s + b := by
  rw [Nat.mul_comm]; exact (Nat.two_pow_add_eq_or_of_lt hb a).symm
end Go.Proofs.YtfklkphoplpebaaGreatDoor
