/- Plain mathematics: values of lists of ints that are changed place by place. -/
import Derived.Test.YtnbanlmkoljghaaGreatDoorMem
import Derived.Test.YtnbanlmkoljghaaGreatDoorDig
namespace Go.Proofs.YtnbanlmkoljghaaGreatDoor
open Dig

def valI : List Int → Int
  | [] => 0
  | d :: l => d + 1000000000 * valI l

theorem bpI_succ (n : Nat) : (bp (n + 1) : Int) = 1000000000 * (bp n : Int) := by rw [bp_succ]; omega
theorem valI_nil : valI [] = 0 := rfl
theorem valI_cons (d : Int) (l : List Int) : valI (d :: l) = d + 1000000000 * valI l := rfl
theorem valI_ni (l : List Nat) : valI (ni l) = (val l : Int) := by
  induction l with
  | nil => rfl
  | cons d l ih =>
    show (d : Int) + 1000000000 * valI (ni l) = _
    rw [ih, val_cons]; omega
theorem valI_append (l m : List Int) : valI (l ++ m) = valI l + (bp l.length : Int) * valI m := by
  induction l with
  | nil => simp [valI, bp]
  | cons d l ih =>
    rw [List.cons_append, valI_cons, ih, valI_cons, List.length_cons, bpI_succ, Int.mul_add, Int.mul_assoc]; omega
theorem valI_zeros (n : Nat) : valI (List.replicate n 0) = 0 := by
  induction n with
  | zero => rfl
  | succ n ih => rw [List.replicate_succ, valI_cons, ih]; rfl
theorem at0_get {l : List Int} {j : Nat} (h : j < l.length) : at0 l j = l[j] := by simp [at0, List.getD, h]
theorem at0_ge {l : List Int} {j : Nat} (h : l.length ≤ j) : at0 l j = 0 := by simp [at0, List.getD, h]
theorem at0_ni (l : List Nat) (j : Nat) : at0 (ni l) j = (l.getD j 0 : Nat) := by
  by_cases h : j < l.length
  · rw [at0_get (by simpa [ni] using h), ni_get, getD_get h]
  · rw [at0_ge (by simp [ni]; omega)]; simp [List.getD, List.getElem?_eq_none (show l.length ≤ j by omega)]
theorem at0_set (l : List Int) (i j : Nat) (x : Int) : at0 (l.set i x) j = if i = j ∧ j < l.length then x else at0 l j := by
  unfold at0
  rw [List.getD_eq_getElem?_getD, List.getD_eq_getElem?_getD, List.getElem?_set]
  by_cases h : i = j
  · subst h
    by_cases h2 : i < l.length
    · simp [h2]
    · simp [h2]
  · simp [h]
theorem at0_set_same {l : List Int} {i : Nat} {x : Int} (h : i < l.length) : at0 (l.set i x) i = x := by rw [at0_set, if_pos ⟨rfl, h⟩]
theorem at0_set_ne {l : List Int} {i j : Nat} {x : Int} (h : i ≠ j) : at0 (l.set i x) j = at0 l j := by rw [at0_set, if_neg (fun e => h e.1)]
theorem at0_append_left {l m : List Int} {j : Nat} (h : j < l.length) : at0 (l ++ m) j = at0 l j := by
  rw [at0_get (by simp; omega), at0_get h, List.getElem_append_left h]
theorem at0_append_right {l m : List Int} {j : Nat} (h : l.length ≤ j) : at0 (l ++ m) j = at0 m (j - l.length) := by
  unfold at0
  rw [List.getD_eq_getElem?_getD, List.getD_eq_getElem?_getD, List.getElem?_append_right h]
theorem at0_zeros (n j : Nat) : at0 (List.replicate n 0) j = 0 := by
  by_cases h : j < n
  · rw [at0_get (by simpa using h)]; simp
  · exact at0_ge (by simpa using h)
theorem valI_set {l : List Int} {j : Nat} (x : Int) (h : j < l.length) : valI (l.set j x) = valI l + (bp j : Int) * (x - at0 l j) := by
  induction l generalizing j with
  | nil => simp at h
  | cons d l ih =>
    cases j with
    | zero => simp [valI_cons, at0, bp]; omega
    | succ j =>
      have h2 : at0 (d :: l) (j + 1) = at0 l j := by simp [at0]
      rw [List.set_cons_succ, valI_cons, ih (by simpa using h), valI_cons, h2, bpI_succ, Int.mul_add, Int.mul_assoc]; omega
theorem val_take_succ {l : List Nat} {k : Nat} (h : k < l.length) : (val (l.take (k + 1)) : Int) = (val (l.take k) : Int) + (bp k : Int) * (l[k] : Int) := by
  rw [List.take_succ_eq_append_getElem h, val_snoc, List.length_take, Nat.min_eq_left (by omega), Int.natCast_add, Int.natCast_mul]
/-- Ints that are digits are digits. -/
theorem digits_of {l : List Int} (h : ∀ j, j < l.length → 0 ≤ at0 l j ∧ at0 l j < 1000000000) : ∃ r : List Nat, l = ni r ∧ r.length = l.length ∧ Small r ∧ (val r : Int) = valI l := by
  induction l with
  | nil => exact ⟨[], rfl, rfl, Small.nil, rfl⟩
  | cons d l ih =>
    obtain ⟨r, hr, hl, hs, hv⟩ := ih fun j hj => by have := h (j + 1) (by simpa using hj); simpa [at0] using this
    have h0 := h 0 (by simp)
    simp [at0] at h0
    refine ⟨d.toNat :: r, ?_, by simp [hl], Small.cons (by omega) hs, ?_⟩
    · simp [ni] at hr ⊢
      exact ⟨by omega, hr⟩
    · rw [val_cons, valI_cons, ← hv]; omega
theorem at0_nat {l : List Nat} {j : Nat} (h : j < l.length) : at0 (ni l) j = (l[j] : Int) := by rw [at0_ni, getD_get h]
theorem at0_small {l : List Nat} (h : Small l) (j : Nat) : 0 ≤ at0 (ni l) j ∧ at0 (ni l) j < 1000000000 := by
  rw [at0_ni]; have := h.getD j; omega
theorem own_at {w : Go.World} {g : Nat} {l : List Int} (h : Own w g l) (j : Nat) (hj : j < l.length) : w.cell? ⟨g, j, none⟩ = some (.int .i64 (at0 l j)) := by
  rw [h.cell j hj, at0_get hj]
/-- A row of digits reads as a slice of digits. -/
theorem own_rn {w : Go.World} {g : Nat} {r : List Nat} (h : Own w g (ni r)) (n c : Nat) (hn : n = r.length) (hc : n ≤ c) (hm : c ≤ 9223372036854775807) : RN w w.heap.size (.slice (some ⟨g, 0, none⟩) n c) r :=
  h.ri0 n c (by simp [ni, hn]) hc hm
theorem Own.only {w w' : Go.World} {g g' : Nat} {l : List Int} (h : Own w g' l) (ho : Only g w w') (hne : g' ≠ g) : Own w' g' l := h.of_block (ho.block g' h.lt (fun e => hne (Option.some.inj e)))
/-- The first n places of a row, seen from another block. -/
theorem own_rix {w : Go.World} {g g' n c : Nat} {r : List Nat} (h : Own w g' (ni r)) (hne : g' ≠ g) (hn : n ≤ r.length) (hc : n ≤ c) (hm : c ≤ 9223372036854775807) : RIx w w.heap.size g (.slice (some ⟨g', 0, none⟩) n c) (ni (r.take n)) := by
  have hl : (ni (r.take n)).length = n := by simp [ni]; omega
  refine ⟨some ⟨g', 0, none⟩, c, by rw [hl], by rw [hl]; exact hc, hm, fun _ => ⟨g', 0, rfl, h.lt, hne, fun j hj => ?_⟩⟩
  rw [hl] at hj
  rw [Nat.zero_add, own_at h j (by simp [ni]; omega), at0_ni, at0_ni]
  congr 2
  simp [List.getD, hj]
theorem own_rn_take {w : Go.World} {g n c : Nat} {r : List Nat} (h : Own w g (ni r)) (hn : n ≤ r.length) (hc : n ≤ c) (hm : c ≤ 9223372036854775807) : RN w w.heap.size (.slice (some ⟨g, 0, none⟩) n c) (r.take n) := by
  have := h.first n
  have e : (ni r).take n = ni (r.take n) := by simp [ni]
  rw [e] at this
  exact own_rn this n c (by simp; omega) hc hm
end Go.Proofs.YtnbanlmkoljghaaGreatDoor
