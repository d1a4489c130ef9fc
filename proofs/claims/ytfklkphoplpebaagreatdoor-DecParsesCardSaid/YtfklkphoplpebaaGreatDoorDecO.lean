/- Plain mathematics for the law DecOnly: what a decimal text is made of. -/
import Derived.Test.YtfklkphoplpebaaGreatDoorDecP
import Derived.Test.YtfklkphoplpebaaGreatDoorDecParse
import Derived.Lib.Index
import Derived.Lib.IndexMore
namespace Go.Proofs.YtfklkphoplpebaaGreatDoor
open Go Go.RowKit Dig Lib

/-- The whole part and the places of a number's text. -/
def wholeT (n : Int) (d : Nat) : List UInt8 := decDigits (n.natAbs / 10 ^ d)
def placeT (n : Int) (d : Nat) : List UInt8 := trimZ (digs d n.natAbs)
theorem decT_parts (n : Int) (d : Nat) : decT n d = sign n ++ (wholeT n d ++ frac (placeT n d)) := by unfold decT wholeT placeT; rw [List.append_assoc]
theorem dd_ne (m : Nat) : decDigits m ≠ [] := fun e => by have := dd_len_pos m; rw [e] at this; simp at this
theorem dd_first (m : Nat) : ∃ c r, decDigits m = c :: r ∧ IsDig c ∧ (decDigits m = [48] ∨ c ≠ 48) := by
  cases h : decDigits m with
  | nil => exact absurd h (dd_ne m)
  | cons c r =>
    have hd := dd_all m
    rw [h] at hd
    refine ⟨c, r, rfl, hd c (List.mem_cons_self ..), ?_⟩
    by_cases hm : m = 0
    · left; rw [← h, hm, dd_zero]
    · right
      obtain ⟨c', r', e, hc⟩ := dd_head hm
      rw [h] at e
      injection e with e1 e2
      rw [e1]; exact hc
theorem whole_dig (n : Int) (d : Nat) : AllDig (wholeT n d) := dd_all _
theorem place_dig (n : Int) (d : Nat) : AllDig (placeT n d) := trimZ_all (digs_all _ _)
theorem trimZ_le (l : List UInt8) : (trimZ l).length ≤ l.length := by
  have h := (List.dropWhile_sublist (l := l.reverse) (· == (48 : UInt8))).length_le
  rw [List.length_reverse] at h
  unfold trimZ; rw [List.length_reverse]; exact h
theorem place_le (n : Int) (d : Nat) : (placeT n d).length ≤ d := by
  have h := trimZ_le (digs d n.natAbs)
  rw [digs_len] at h; exact h
theorem text_prefix (n : Int) (d : Nat) : Lib.hasPrefix (decT n d) [45] = decide (n < 0) := by
  rw [decT_parts]
  unfold sign
  by_cases h : n < 0
  · rw [if_pos h, decide_eq_true h]; rfl
  · rw [if_neg h, decide_eq_false h]
    obtain ⟨c, r, e, hc, -⟩ := dd_first (n.natAbs / 10 ^ d)
    rw [List.nil_append]
    unfold wholeT
    rw [e]
    have h45 : ((45 : UInt8) == c) = false := beq_eq_false_iff_ne.2 fun e => by have := hc.1; rw [← e] at this; exact absurd this (by decide)
    show ((45 : UInt8) == c && _) = false
    rw [h45]; rfl
theorem text_bare (n : Int) (d : Nat) : Lib.trimPrefix (decT n d) [45] = wholeT n d ++ frac (placeT n d) := by
  unfold Lib.trimPrefix
  rw [text_prefix]
  by_cases h : n < 0
  · rw [decide_eq_true h, if_pos rfl, decT_parts]; unfold sign; rw [if_pos h]; rfl
  · rw [decide_eq_false h, if_neg (by decide), decT_parts]; unfold sign; rw [if_neg h]; rfl
theorem no_dot {A : List UInt8} (hA : AllDig A) : ∀ c ∈ A, c ≠ 46 := fun c hc e => by have := (hA c hc).1; rw [e] at this; exact absurd this (by decide)
theorem no_dot_at {A : List UInt8} (hA : ∀ c ∈ A, c ≠ 46) (B : List UInt8) {j : Nat} (hj : j < A.length) : Lib.occAt (A ++ B) [46] j = false := by
  unfold Lib.occAt
  rw [List.drop_append_of_le_length (by omega)]
  obtain ⟨c, r, e⟩ : ∃ c r, A.drop j = c :: r := by
    cases hd : A.drop j with
    | nil => have := congrArg List.length hd; simp at this; omega
    | cons c r => exact ⟨c, r, rfl⟩
  have hc : c ∈ A := List.mem_of_mem_drop (by rw [e]; simp)
  rw [e]
  have h46 : ((46 : UInt8) == c) = false := beq_eq_false_iff_ne.2 (Ne.symm (hA c hc))
  show ((46 : UInt8) == c && _) = false
  rw [h46]; rfl
theorem cut_text {W P : List UInt8} (hW : AllDig W) : Lib.cut (W ++ frac P) [46] = (W, P, decide (P ≠ [])) := by
  unfold frac
  by_cases hP : P = []
  · subst hP
    have hi : Lib.index W [46] = -1 := index_none fun j hj => by
      rcases Nat.lt_or_ge j W.length with h | h
      · have := no_dot_at (no_dot hW) [] h; rwa [List.append_nil] at this
      · have : j = W.length := by omega
        subst this
        unfold Lib.occAt; simp
    rw [if_pos rfl, List.append_nil]
    unfold Lib.cut
    rw [hi, if_neg (by decide)]
    rfl
  · have hi : Lib.index (W ++ 46 :: P) [46] = (W.length : Int) := index_first (by simp) (by unfold Lib.occAt; simp) fun j hj => no_dot_at (no_dot hW) _ hj
    rw [if_neg hP]
    unfold Lib.cut
    rw [hi, if_pos (by omega), Int.toNat_natCast, List.take_left, decide_eq_true hP]
    congr 2
    show List.drop (W.length + 1) (W ++ 46 :: P) = P
    rw [List.drop_append, List.drop_of_length_le (by omega)]
    simp
theorem place_suffix (n : Int) (d : Nat) : Lib.hasSuffix (placeT n d) [48] = false := by
  unfold Lib.hasSuffix placeT
  rcases trimZ_last (digs d n.natAbs) with h | ⟨m, c, h, hc⟩
  · rw [h]; rfl
  · rw [h]
    cases hb : List.isSuffixOf [48] (m ++ [c]) with
    | false => rfl
    | true =>
      obtain ⟨t, ht⟩ := List.isSuffixOf_iff_suffix.1 hb
      have := congrArg List.getLast? ht
      simp at this
      exact absurd this.symm hc
theorem text_short {n : Int} {d : Nat} (h0 : -9223372036854775808 ≤ n) (h1 : n ≤ 9223372036854775807) (hd : d ≤ 18) : (decT n d).length ≤ 48 := by
  rw [decT_parts, List.length_append, List.length_append]
  have e1 : (sign n).length ≤ 1 := by unfold sign; split <;> simp
  have e2 : (wholeT n d).length ≤ 19 := by
    unfold wholeT
    rw [decDigits_length]
    exact (nd_le (by omega)).2 (Nat.lt_of_le_of_lt (Nat.div_le_self _ _) (by omega))
  have e3 : (frac (placeT n d)).length ≤ 1 + d := by
    have := place_le n d
    unfold frac; split
    · simp
    · rw [List.length_cons]; omega
  omega
theorem parse_back {s : List UInt8} {d : Nat} {m : Int} (hd : d ≤ 18) (h : parseD s (d : Int) = (m, 0)) : decT m d = s ∧ -9223372036854775808 ≤ m ∧ m ≤ 9223372036854775807 := by
  unfold parseD at h
  rw [if_pos ⟨by omega, by omega⟩, Int.toNat_natCast] at h
  unfold decP at h
  by_cases h1 : d < plc s
  · rw [if_pos h1] at h; cases h
  · rw [if_neg h1] at h
    by_cases h2 : decT (numS s) (plc s) = s
    · rw [if_pos h2] at h
      unfold intZ at h
      split at h
      · rename_i h3
        injection h with h _
        subst h
        refine ⟨?_, h3.1, h3.2⟩
        have h4 := decT_up (numS s) (plc s) (d - plc s)
        rw [show plc s + (d - plc s) = d by omega] at h4
        rw [h4, h2]
      · cases h
    · rw [if_neg h2] at h; cases h
end Go.Proofs.YtfklkphoplpebaaGreatDoor
