/- Plain mathematics of the reference's Parse (layer 05): the digits of a text, read from the left. -/
import Derived.Test.YtfklkphoplpebaaGreatDoorDecP
namespace Go.Proofs.YtfklkphoplpebaaGreatDoor
open Go Go.RowKit Dig Lib

/-- The digits of a text, from the first that is not 0. -/
def rowD (s : List UInt8) : List UInt8 := (fil s).dropWhile (· == 48)
def seenB (s : List UInt8) : Bool := s.contains 46
/-- The digits; a 0 if there are none. -/
def rowE (s : List UInt8) : List UInt8 := if rowD s = [] then [48] else rowD s
theorem fil_snoc (l : List UInt8) (c : UInt8) : fil (l ++ [c]) = if isD c then fil l ++ [c] else fil l := by
  rw [fil_append]
  unfold fil
  by_cases h : isD c = true
  · simp [h]
  · simp [h]
theorem dropWhile_snoc {α : Type} (p : α → Bool) (l : List α) (c : α) : (l ++ [c]).dropWhile p = if l.dropWhile p = [] then (if p c then [] else [c]) else l.dropWhile p ++ [c] := by
  induction l with
  | nil => by_cases h : p c <;> simp [h]
  | cons a l ih =>
    by_cases h : p a = true
    · simp [h, ih]
    · simp [h]
theorem rowD_skip {s : List UInt8} {c : UInt8} (h : isD c = false) : rowD (s ++ [c]) = rowD s := by
  unfold rowD; rw [fil_snoc, h]; rfl
theorem rowD_zero {s : List UInt8} {c : UInt8} (h : isD c = true) (h0 : rowD s = []) (hc : c = 48) : rowD (s ++ [c]) = [] := by
  unfold rowD at h0 ⊢; rw [fil_snoc, if_pos h, dropWhile_snoc, if_pos h0, hc]; rfl
theorem rowD_push {s : List UInt8} {c : UInt8} (h : isD c = true) (h0 : rowD s ≠ [] ∨ c ≠ 48) : rowD (s ++ [c]) = rowD s ++ [c] := by
  unfold rowD at h0 ⊢
  rw [fil_snoc, if_pos h, dropWhile_snoc]
  by_cases hr : (fil s).dropWhile (· == 48) = []
  · have hc : c ≠ 48 := h0.resolve_left (fun k => k hr)
    rw [if_pos hr, hr, if_neg (by simpa using hc)]; rfl
  · rw [if_neg hr]
theorem seen_drop {s : List UInt8} : s.dropWhile (· != 46) = [] ↔ seenB s = false := by
  unfold seenB
  induction s with
  | nil => simp
  | cons a s ih =>
    by_cases h : a = 46
    · subst h; simp
    · have h' : ¬ 46 = a := fun e => h e.symm
      simp [h, h']; simpa using ih
theorem seen_snoc (s : List UInt8) (c : UInt8) : seenB (s ++ [c]) = (seenB s || c == 46) := by
  unfold seenB; rw [Bool.eq_iff_iff]
  simp only [List.contains_iff_mem, List.mem_append, List.mem_singleton, Bool.or_eq_true, beq_iff_eq]
  constructor
  · rintro (h | h)
    · exact .inl h
    · exact .inr h.symm
  · rintro (h | h)
    · exact .inl h
    · exact .inr h.symm
theorem plc_snoc (s : List UInt8) (c : UInt8) : plc (s ++ [c]) = if seenB s && isD c then plc s + 1 else plc s := by
  unfold plc
  rw [dropWhile_snoc]
  by_cases h : s.dropWhile (· != 46) = []
  · have h1 := seen_drop.1 h
    rw [if_pos h, h1, h]
    by_cases hc : c = 46
    · subst hc; rfl
    · rw [if_pos (by simpa using hc)]; rfl
  · have h1 : seenB s = true := by
      cases hs : seenB s with
      | true => rfl
      | false => exact absurd (seen_drop.2 hs) h
    rw [if_neg h, h1, fil_snoc]
    by_cases hc : isD c = true
    · simp [hc]
    · simp [hc]
theorem plc_le (s : List UInt8) : plc s ≤ s.length := by
  unfold plc fil
  exact Nat.le_trans (List.length_filter_le _ _) (List.dropWhile_sublist (l := s) (· != 46)).length_le
theorem rowD_le (s : List UInt8) : (rowD s).length ≤ s.length := by
  unfold rowD fil
  exact Nat.le_trans (List.dropWhile_sublist (l := s.filter isD) (· == 48)).length_le (List.length_filter_le _ _)
theorem fil_dig (s : List UInt8) : AllDig (fil s) := fun _ hc => isD_iff.1 (List.mem_filter.1 hc).2
theorem rowD_dig (s : List UInt8) : AllDig (rowD s) := fun c hc => fil_dig s c ((List.dropWhile_sublist (l := fil s) (· == 48)).subset hc)
theorem rowE_dig (s : List UInt8) : AllDig (rowE s) := by
  unfold rowE; split
  · exact AllDig.cons ⟨by decide, by decide⟩ AllDig.nil
  · exact rowD_dig s
theorem num_lead (l : List UInt8) : num (l.dropWhile (· == 48)) = num l := by
  obtain ⟨m, hm⟩ : ∃ m, m = l.length := ⟨_, rfl⟩
  induction m generalizing l with
  | zero => rw [List.eq_nil_of_length_eq_zero hm.symm]; rfl
  | succ m ih =>
    obtain ⟨k, c, rfl⟩ : ∃ k c, l = k ++ [c] := ⟨l.dropLast, l.getLast (by intro e; rw [e] at hm; simp at hm), (List.dropLast_concat_getLast _).symm⟩
    have hk := ih k (by simp at hm; omega)
    rw [dropWhile_snoc]
    by_cases h : k.dropWhile (· == 48) = []
    · rw [if_pos h]
      rw [h] at hk
      by_cases hc : c = 48
      · subst hc
        show num [] = _
        rw [num_snoc, ← hk, num_nil]; rfl
      · have e : num [c] = num [] * 10 + (c.toNat - 48) := num_snoc [] c
        rw [if_neg (by simpa using hc), e, num_snoc, hk]
    · rw [if_neg h, num_snoc, num_snoc, hk]
theorem num_rowE (s : List UInt8) : num (rowE s) = num (fil s) := by
  have h := num_lead (fil s)
  unfold rowE
  by_cases hr : rowD s = []
  · rw [if_pos hr, ← h, show (fil s).dropWhile (· == 48) = [] from hr]; rfl
  · rw [if_neg hr]; exact h
theorem rowE_le (s : List UInt8) : (rowE s).length ≤ s.length + 1 := by
  have := rowD_le s
  unfold rowE; split
  · simp
  · omega
theorem numS_lt (s : List UInt8) {k : Nat} (h : s.length ≤ k) : (numS s).natAbs < 10 ^ k := by
  have h1 := num_lt (fil_dig s)
  have h2 : (fil s).length ≤ k := Nat.le_trans (List.length_filter_le _ _) h
  have h3 : (numS s).natAbs = num (fil s) := by unfold numS sgn; split <;> simp
  rw [h3]
  exact Nat.lt_of_lt_of_le h1 (Nat.pow_le_pow_right (by omega) h2)
theorem mul_next (v : Int) (k : Nat) : v * ((10 ^ k : Nat) : Int) * 10 = v * ((10 ^ (k + 1) : Nat) : Int) := by
  rw [Int.mul_assoc]; congr 1
end Go.Proofs.YtfklkphoplpebaaGreatDoor
