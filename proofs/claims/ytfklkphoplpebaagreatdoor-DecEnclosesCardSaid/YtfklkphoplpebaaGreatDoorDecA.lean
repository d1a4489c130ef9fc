/- Plain mathematics of the program's Parse: the period is struck out, zeros are put behind, the digits are read. -/
import Derived.Test.YtfklkphoplpebaaGreatDoorDecF
import Derived.Lib.Replace
import Derived.Lib.ReplaceLaws
import Derived.Lib.IndexBytes
import Derived.Lib.SplitLaws
namespace Go.Proofs.YtfklkphoplpebaaGreatDoor.Dig
open Go.Lib

theorem atoi_sgn (neg : Bool) {l : List UInt8} (h : l ≠ []) (ha : AllDig l) :
    atoiAll ((if neg then [45] else []) ++ l) = if -9223372036854775808 ≤ sgn neg (num l) ∧ sgn neg (num l) ≤ 9223372036854775807 then .ok (sgn neg (num l)) else .range := by
  cases neg with
  | false =>
    show atoiAll l = _
    rw [atoi_dig h ha]
    show _ = if -9223372036854775808 ≤ (num l : Int) ∧ (num l : Int) ≤ 9223372036854775807 then _ else _
    by_cases h4 : num l < 9223372036854775808
    · rw [if_pos h4, if_pos (by omega)]; rfl
    · rw [if_neg h4, if_neg (by omega)]
  | true =>
    show atoiAll (45 :: l) = _
    show _ = if -9223372036854775808 ≤ -(num l : Int) ∧ -(num l : Int) ≤ 9223372036854775807 then _ else _
    unfold atoiAll
    have e45 : (45 : UInt8).toNat = 45 := by decide
    simp only [e45, or_true, if_true, mag_all h ha]
    by_cases h3 : num l < 18446744073709551616
    · rw [if_pos h3]
      simp only [not_true_eq_false, false_and, if_false, true_and]
      by_cases h4 : 9223372036854775808 < num l
      · rw [if_pos h4, if_neg (by omega)]
      · rw [if_neg h4, if_pos (by omega)]; rfl
    · rw [if_neg h3, if_neg (by omega)]
theorem count_dig {l : List UInt8} (h : ∀ c ∈ l, c ≠ 46) : l.count 46 = 0 := List.count_eq_zero.2 fun hm => h 46 hm rfl
theorem replace_none {l : List UInt8} (h : ∀ c ∈ l, c ≠ 46) : replace l [46] [] 1 = l := by
  unfold replace replaceNum
  rw [if_neg (by decide), count_one, count_dig h]
  rfl
theorem replace_dot {A B : List UInt8} (hA : ∀ c ∈ A, c ≠ 46) : replace (A ++ 46 :: B) [46] [] 1 = A ++ B := by
  have hc : 1 ≤ (A ++ 46 :: B).count 46 := by rw [List.count_append, List.count_cons]; simp; omega
  have hi : index (A ++ 46 :: B) [46] = A.length := by
    refine index_first (by simp) ?_ ?_
    · unfold occAt; simp
    · intro j hj
      unfold occAt
      rw [List.drop_append_of_le_length (by omega)]
      obtain ⟨c, r, e⟩ : ∃ c r, A.drop j = c :: r := by
        cases hd : A.drop j with
        | nil => have := congrArg List.length hd; simp at this; omega
        | cons c r => exact ⟨c, r, rfl⟩
      have hc : c ∈ A := List.mem_of_mem_drop (by rw [e]; simp)
      rw [e]
      have h46 : ((46 : UInt8) == c) = false := beq_eq_false_iff_ne.2 (Ne.symm (hA c hc))
      show ((46 : UInt8) == c && _) = false
      rw [h46]; rfl
  unfold replace replaceNum
  rw [if_neg (by decide), count_one, if_neg (by omega)]
  show replaceK [46] [] 1 _ = _
  rw [replaceK_hit _ _ 0 _ _ hi]
  show List.take A.length (A ++ 46 :: B) ++ [] ++ List.drop (A.length + 1) (A ++ 46 :: B) = A ++ B
  rw [List.take_left, List.append_nil, List.drop_append, List.drop_of_length_le (by omega)]
  simp
/-- What the program hands to Atoi. -/
theorem parse_text {s : List UInt8} (h : shpB s = true) : ∃ (neg : Bool) (l : List UInt8), replace s [46] [] 1 = (if neg then [45] else []) ++ l ∧ AllDig l ∧ l ≠ [] ∧ numS s = sgn neg (num l) := by
  obtain ⟨neg, W, P, hs⟩ := Shp.of_bool h
  have h2 := hs.read.2.1
  obtain ⟨rfl, hW, hP, hn, -, -, -⟩ := hs
  refine ⟨neg, W ++ P, ?_, hW.append hP, by simp [hn], h2⟩
  have hd : ∀ {l : List UInt8}, AllDig l → ∀ c ∈ l, c ≠ 46 := fun h c hc e => by have := h c hc; rw [e] at this; exact absurd this.1 (by decide)
  have hs : ∀ c ∈ (if neg then [45] else []) ++ W, c ≠ (46 : UInt8) := by
    intro c hc
    rcases List.mem_append.1 hc with h | h
    · cases neg
      · simp at h
      · simp at h; subst h; decide
    · exact hd hW c h
  unfold frac
  by_cases hp : P = []
  · rw [if_pos hp, hp, List.append_nil, List.append_nil]; exact replace_none hs
  · rw [if_neg hp, replace_dot hs, List.append_assoc]
theorem parse_len {s : List UInt8} (h : shpB s = true) : (replace s [46] [] 1).length ≤ s.length := by
  obtain ⟨neg, W, P, hs⟩ := Shp.of_bool h
  obtain ⟨rfl, hW, hP, hn, -, -, -⟩ := hs
  have hd : ∀ {l : List UInt8}, AllDig l → ∀ c ∈ l, c ≠ 46 := fun h c hc e => by have := h c hc; rw [e] at this; exact absurd this.1 (by decide)
  have hs : ∀ c ∈ (if neg then [45] else []) ++ W, c ≠ (46 : UInt8) := by
    intro c hc
    rcases List.mem_append.1 hc with h | h
    · cases neg
      · simp at h
      · simp at h; subst h; decide
    · exact hd hW c h
  unfold frac
  by_cases hp : P = []
  · rw [if_pos hp, List.append_nil, replace_none hs]; exact Nat.le_refl _
  · rw [if_neg hp, replace_dot hs]; simp
theorem num_zeros_behind (l : List UInt8) (k : Nat) : num (l ++ List.replicate k 48) = num l * 10 ^ k := by
  rw [num_append, List.length_replicate]
  have := num_zeros k []
  rw [List.append_nil] at this
  rw [this]; rfl
/-- Atoi of it, with zeros behind. -/
theorem parse_atoi {s : List UInt8} (h : shpB s = true) (k : Nat) : atoiAll (replace s [46] [] 1 ++ List.replicate k 48) =
    if -9223372036854775808 ≤ numS s * (10 ^ k : Nat) ∧ numS s * (10 ^ k : Nat) ≤ 9223372036854775807 then .ok (numS s * (10 ^ k : Nat)) else .range := by
  obtain ⟨neg, l, h1, h2, h3, h4⟩ := parse_text h
  rw [h1, List.append_assoc, atoi_sgn neg (by simp [h3]) (h2.append (AllDig.zeros k)), num_zeros_behind]
  have e : sgn neg (num l * 10 ^ k) = numS s * (10 ^ k : Nat) := by
    rw [h4]; unfold sgn
    cases neg
    · simp
    · simp [Int.neg_mul]
  rw [e]
end Go.Proofs.YtfklkphoplpebaaGreatDoor.Dig
