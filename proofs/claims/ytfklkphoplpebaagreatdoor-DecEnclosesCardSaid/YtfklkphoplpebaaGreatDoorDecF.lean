/- Plain mathematics of the program's form: how a text is read character by character. -/
import Derived.Test.YtfklkphoplpebaaGreatDoorDecP
namespace Go.Proofs.YtfklkphoplpebaaGreatDoor.Dig
open Go.Lib

/-- The characters read so far are good: digits, and a period at q (none: no period yet). -/
def GoodT (l : List UInt8) : Option Nat → Prop
  | none => AllDig l
  | some q => 0 < q ∧ ∃ W P, l = W ++ 46 :: P ∧ W.length = q ∧ AllDig W ∧ AllDig P
theorem GoodT.digit {l : List UInt8} {q : Option Nat} {c : UInt8} (h : GoodT l q) (hc : IsDig c) : GoodT (l ++ [c]) q := by
  cases q with
  | none => exact AllDig.append h (AllDig.cons hc AllDig.nil)
  | some q =>
    obtain ⟨h0, W, P, rfl, hq, hW, hP⟩ := h
    exact ⟨h0, W, P ++ [c], by simp, hq, hW, hP.append (AllDig.cons hc AllDig.nil)⟩
theorem GoodT.dot {l : List UInt8} (h : GoodT l none) (hl : l ≠ []) : GoodT (l ++ [46]) (some l.length) :=
  ⟨List.length_pos_iff.2 hl, l, [], rfl, rfl, h, AllDig.nil⟩
theorem not_dig_dot : isD 46 = false := rfl
theorem shpB_eq (s : List UInt8) {W r : List UInt8} (hb : bare s = W ++ r) (hW : AllDig W) (hr : r = [] ∨ ∃ c m, r = c :: m ∧ isD c = false) :
    shpB s = (!W.isEmpty && (W.length == 1 || W.head? != some 48) && (r.isEmpty || (r.head? == some 46 && !(r.drop 1).isEmpty && (r.drop 1).all isD && (r.drop 1).getLast? != some 48)) && s != [45, 48]) := by
  obtain ⟨h1, h2⟩ := take_isD hW hr
  unfold shpB
  simp only [hb, h1, h2]
/-- All characters are digits. -/
theorem shpB_dig {s : List UInt8} (h : AllDig (bare s)) : shpB s = (!(bare s).isEmpty && ((bare s).length == 1 || (bare s).head? != some 48) && s != [45, 48]) := by
  rw [shpB_eq s (W := bare s) (r := []) (by simp) h (.inl rfl)]
  simp
/-- Digits, a period, digits. -/
theorem shpB_dot {s W P : List UInt8} (h : bare s = W ++ 46 :: P) (hW : AllDig W) (hP : AllDig P) (h0 : W ≠ []) : shpB s = ((W.length == 1 || W.head? != some 48) && (!P.isEmpty && P.getLast? != some 48)) := by
  rw [shpB_eq s h hW (.inr ⟨46, P, rfl, rfl⟩)]
  have e1 : (!W.isEmpty) = true := by cases W with
    | nil => exact absurd rfl h0
    | cons _ _ => rfl
  have e2 : (s != [45, 48]) = true := by
    rw [bne_iff_ne]
    intro e
    rw [e] at h
    have h : [48] = W ++ 46 :: P := h
    cases W with
    | nil => exact absurd rfl h0
    | cons c r => simp at h
  have e3 : P.all isD = true := all_isD.2 hP
  simp [e1, e2, e3]
/-- A character that is neither a digit nor the first period behind a digit. -/
theorem shpB_bad {s l m : List UInt8} {c : UInt8} {q : Option Nat} (hb : bare s = l ++ c :: m) (hg : GoodT l q) (hc : ¬ IsDig c) (hd : c = 46 → q ≠ none ∨ l = []) : shpB s = false := by
  have hc' : isD c = false := by
    cases h : isD c with
    | false => rfl
    | true => exact absurd (isD_iff.1 h) hc
  cases q with
  | none =>
    rw [shpB_eq s hb hg (.inr ⟨c, m, rfl, hc'⟩)]
    by_cases h46 : c = 46
    · rcases hd h46 with h | h
      · exact absurd rfl h
      · subst h; simp
    · have : (some c == some (46 : UInt8)) = false := by simpa using h46
      simp [this]
  | some q =>
    obtain ⟨h0, W, P, rfl, hq, hW, hP⟩ := hg
    have hn : W ≠ [] := by intro e; rw [e] at hq; simp at hq; omega
    rw [shpB_eq s (W := W) (r := 46 :: (P ++ c :: m)) (by rw [hb]; simp) hW (.inr ⟨46, _, rfl, rfl⟩)]
    have e : (P ++ c :: m).all isD = false := by
      rw [List.all_append, List.all_cons, hc']; simp
    simp [e]
theorem plc_dig {s : List UInt8} (h : AllDig (bare s)) : plc s = 0 := by
  obtain ⟨neg, e⟩ := bare_split s
  rw [e]
  have := plc_of (neg := neg) h AllDig.nil
  simpa [frac] using this
theorem plc_dot {s W P : List UInt8} (h : bare s = W ++ 46 :: P) (hW : AllDig W) (hP : AllDig P) : plc s = P.length := by
  obtain ⟨neg, e⟩ := bare_split s
  rw [e, h]
  by_cases hp : P = []
  · subst hp
    have h1 : ∀ l : List UInt8, ((if neg then [45] else []) ++ l).dropWhile (· != 46) = l.dropWhile (· != 46) := by
      intro l; cases neg
      · rfl
      · show (45 :: l).dropWhile _ = _; rw [List.dropWhile_cons, if_pos (by decide)]
    unfold plc
    rw [h1, drop_dot hW]
    rfl
  · have := plc_of (neg := neg) hW hP
    unfold frac at this
    rw [if_neg hp] at this
    rwa [← List.append_assoc]
end Go.Proofs.YtfklkphoplpebaaGreatDoor.Dig
