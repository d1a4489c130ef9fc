/- Plain mathematics: what the loops of Plus, Minus, Times and Part keep. -/
import Derived.Test.YtnbanlmkoljghaaGreatDoorVal
namespace Go.Proofs.YtnbanlmkoljghaaGreatDoor
open Dig

/-- Plus, first loop: k places of y have been added to x and one more place. -/
structure PlusA (x y : List Nat) (k : Nat) (out : List Int) : Prop where
  len : out.length = x.length + 1
  sum : valI out = (val x : Int) + (val (y.take k) : Int)
  lo : ∀ j, 0 ≤ at0 out j
  hi : ∀ j, at0 out j ≤ 1999999998
  rest : ∀ j, k ≤ j → at0 out j < 1000000000
  last : at0 out x.length = 0
theorem PlusA.start {x y : List Nat} (hx : Small x) : PlusA x y 0 (ni x ++ [0]) := by
  have ha : ∀ j, 0 ≤ at0 (ni x ++ [0]) j ∧ at0 (ni x ++ [0]) j < 1000000000 := fun j => by
    by_cases h : j < (ni x).length
    · rw [at0_append_left h]; exact at0_small hx j
    · rw [at0_append_right (by omega)]
      have : at0 [0] (j - (ni x).length) = 0 := at0_zeros 1 _
      omega
  refine ⟨by simp [ni], ?_, fun j => (ha j).1, fun j => by have := (ha j).2; omega, fun j _ => (ha j).2, ?_⟩
  · rw [valI_append, valI_ni]; simp [valI, val]
  · rw [at0_append_right (by simp [ni])]; simp [ni, at0]
theorem PlusA.step {x y : List Nat} {k : Nat} {out : List Int} (h : PlusA x y k out) (hy : Small y) (hk : k < y.length) (hxy : y.length ≤ x.length) :
    PlusA x y (k + 1) (out.set k (at0 out k + (y[k] : Int))) := by
  have hyk : y[k] < 1000000000 := hy _ (List.getElem_mem hk)
  have hko : k < out.length := by rw [h.len]; omega
  have h0 := h.lo k
  have h1 := h.rest k (Nat.le_refl _)
  refine ⟨by rw [List.length_set]; exact h.len, ?_, fun j => ?_, fun j => ?_, fun j hj => ?_, ?_⟩
  · rw [valI_set _ hko, h.sum, val_take_succ hk, show at0 out k + (y[k] : Int) - at0 out k = (y[k] : Int) by omega]; omega
  · rw [at0_set]; split <;> have := h.lo j <;> omega
  · rw [at0_set]; split <;> have := h.hi j <;> omega
  · rw [at0_set_ne (by omega)]; exact h.rest j (by omega)
  · rw [at0_set_ne (by omega)]; exact h.last
/-- Plus, second loop: the first k places are digits. -/
structure PlusB (x y : List Nat) (k : Nat) (out : List Int) : Prop where
  len : out.length = x.length + 1
  sum : valI out = (val x : Int) + (val y : Int)
  lo : ∀ j, 0 ≤ at0 out j
  done : ∀ j, j < k → at0 out j < 1000000000
  here : at0 out k ≤ 1999999999
  hi : ∀ j, k < j → at0 out j ≤ 1999999998
  last : at0 out x.length ≤ 1
  last0 : k < x.length → at0 out x.length = 0
theorem PlusB.start {x y : List Nat} {out : List Int} (h : PlusA x y y.length out) : PlusB x y 0 out := by
  refine ⟨h.len, ?_, h.lo, fun j hj => absurd hj (by omega), ?_, fun j _ => h.hi j, ?_, fun _ => h.last⟩
  · have := h.sum; rwa [List.take_length] at this
  · have := h.hi 0; omega
  · have := h.last; omega
theorem PlusB.keep {x y : List Nat} {k : Nat} {out : List Int} (h : PlusB x y k out) (hk : k < x.length) (hlt : at0 out k < 1000000000) : PlusB x y (k + 1) out :=
  ⟨h.len, h.sum, h.lo, fun j hj => by
    rcases Nat.lt_or_ge j k with h1 | h1
    · exact h.done j h1
    · obtain rfl : j = k := by omega
      exact hlt, by have := h.hi (k + 1) (by omega); omega, fun j hj => h.hi j (by omega), h.last, fun _ => h.last0 hk⟩
theorem PlusB.carry {x y : List Nat} {k : Nat} {out : List Int} (h : PlusB x y k out) (hk : k < x.length) (hge : 1000000000 ≤ at0 out k) :
    PlusB x y (k + 1) ((out.set k (at0 out k - 1000000000)).set (k + 1) (at0 out (k + 1) + 1)) := by
  have hko : k < out.length := by rw [h.len]; omega
  have hk1 : k + 1 < out.length := by rw [h.len]; omega
  have h0 := h.here
  have h1 := h.hi (k + 1) (by omega)
  have h2 := h.lo (k + 1)
  have e1 : at0 (out.set k (at0 out k - 1000000000)) (k + 1) = at0 out (k + 1) := at0_set_ne (by omega)
  have hat : ∀ j, at0 ((out.set k (at0 out k - 1000000000)).set (k + 1) (at0 out (k + 1) + 1)) j = if j = k + 1 then at0 out (k + 1) + 1 else if j = k then at0 out k - 1000000000 else at0 out j := fun j => by
    by_cases ha : j = k + 1
    · subst ha; rw [if_pos rfl, at0_set_same (by simpa using hk1)]
    · rw [if_neg ha, at0_set_ne (by omega)]
      by_cases hb : j = k
      · subst hb; rw [if_pos rfl, at0_set_same hko]
      · rw [if_neg hb, at0_set_ne (by omega)]
  refine ⟨by rw [List.length_set, List.length_set]; exact h.len, ?_, fun j => ?_, fun j hj => ?_, ?_, fun j hj => ?_, ?_, fun hlt => ?_⟩
  · rw [valI_set _ (by simpa using hk1), valI_set _ hko, e1, h.sum, bpI_succ]
    rw [show at0 out (k + 1) + 1 - at0 out (k + 1) = 1 by omega, show at0 out k - 1000000000 - at0 out k = -1000000000 by omega]
    omega
  · rw [hat]; split
    · omega
    · split
      · omega
      · exact h.lo j
  · rw [hat, if_neg (by omega)]; split
    · omega
    · exact h.done j (by omega)
  · rw [hat, if_pos rfl]; omega
  · rw [hat, if_neg (by omega), if_neg (by omega)]; exact h.hi j (by omega)
  · have hz := h.last0 hk
    rw [hat]; split
    · rename_i he; rw [← he, hz]; omega
    · split
      · omega
      · exact h.last
  · rw [hat, if_neg (by omega), if_neg (by omega)]; exact h.last0 hk
theorem PlusB.fin {x y : List Nat} {out : List Int} (h : PlusB x y x.length out) : ∃ r : List Nat, out = ni r ∧ r.length = x.length + 1 ∧ Small r ∧ val r = val x + val y := by
  obtain ⟨r, h1, h2, h3, h4⟩ := digits_of (l := out) fun j hj => ⟨h.lo j, by
    rcases Nat.lt_or_ge j x.length with hl | hl
    · exact h.done j hl
    · obtain rfl : j = x.length := by have := h.len; omega
      have := h.last; omega⟩
  exact ⟨r, h1, by rw [h2, h.len], h3, by have := h.sum; omega⟩

/-- Minus, first loop. -/
structure MinusA (x y : List Nat) (k : Nat) (out : List Int) : Prop where
  len : out.length = x.length
  sum : valI out = (val x : Int) - (val (y.take k) : Int)
  lo : ∀ j, -999999999 ≤ at0 out j
  hi : ∀ j, at0 out j < 1000000000
  rest : ∀ j, k ≤ j → 0 ≤ at0 out j
theorem MinusA.start {x y : List Nat} (hx : Small x) : MinusA x y 0 (ni x) :=
  ⟨by simp [ni], by rw [valI_ni]; simp [val], fun j => by have := at0_small hx j; omega, fun j => (at0_small hx j).2, fun j _ => (at0_small hx j).1⟩
theorem MinusA.step {x y : List Nat} {k : Nat} {out : List Int} (h : MinusA x y k out) (hy : Small y) (hk : k < y.length) (hxy : y.length ≤ x.length) :
    MinusA x y (k + 1) (out.set k (at0 out k - (y[k] : Int))) := by
  have hyk : y[k] < 1000000000 := hy _ (List.getElem_mem hk)
  have hko : k < out.length := by rw [h.len]; omega
  have h0 := h.rest k (Nat.le_refl _)
  have h1 := h.hi k
  refine ⟨by rw [List.length_set]; exact h.len, ?_, fun j => ?_, fun j => ?_, fun j hj => ?_⟩
  · rw [valI_set _ hko, h.sum, val_take_succ hk, show at0 out k - (y[k] : Int) - at0 out k = -(y[k] : Int) by omega, Int.mul_neg]; omega
  · rw [at0_set]; split <;> have := h.lo j <;> omega
  · rw [at0_set]; split <;> have := h.hi j <;> omega
  · rw [at0_set_ne (by omega)]; exact h.rest j (by omega)
/-- Minus, second loop. -/
structure MinusB (z : Nat) (n k : Nat) (out : List Int) : Prop where
  len : out.length = n
  sum : valI out = (z : Int)
  done : ∀ j, j < k → 0 ≤ at0 out j
  lo : ∀ j, -1000000000 ≤ at0 out j
  lo' : ∀ j, k < j → -999999999 ≤ at0 out j
  hi : ∀ j, at0 out j < 1000000000
theorem MinusB.start {x y : List Nat} {out : List Int} (h : MinusA x y y.length out) (hxy : val y ≤ val x) : MinusB (val x - val y) x.length 0 out :=
  ⟨h.len, by have := h.sum; rw [List.take_length] at this; omega, fun j hj => absurd hj (by omega), fun j => by have := h.lo j; omega, fun j _ => h.lo j, h.hi⟩
theorem MinusB.keep {z n k : Nat} {out : List Int} (h : MinusB z n k out) (h0 : 0 ≤ at0 out k) : MinusB z n (k + 1) out :=
  ⟨h.len, h.sum, fun j hj => by
    rcases Nat.lt_or_ge j k with h1 | h1
    · exact h.done j h1
    · obtain rfl : j = k := by omega
      exact h0, h.lo, fun j hj => h.lo' j (by omega), h.hi⟩
theorem valI_split (l : List Int) (k : Nat) (hk : k ≤ l.length) : valI l = valI (l.take k) + (bp k : Int) * valI (l.drop k) := by
  have h := valI_append (l.take k) (l.drop k)
  rw [List.take_append_drop, List.length_take, Nat.min_eq_left hk] at h
  exact h
theorem at0_take {l : List Int} {j k : Nat} (h : j < k) : at0 (l.take k) j = at0 l j := by
  unfold at0; rw [List.getD_eq_getElem?_getD, List.getD_eq_getElem?_getD, List.getElem?_take, if_pos h]
theorem at0_drop (l : List Int) (j k : Nat) : at0 (l.drop k) j = at0 l (k + j) := by
  unfold at0; rw [List.getD_eq_getElem?_getD, List.getD_eq_getElem?_getD, List.getElem?_drop]
theorem valI_lt {l : List Int} (h : ∀ j, j < l.length → 0 ≤ at0 l j ∧ at0 l j < 1000000000) : 0 ≤ valI l ∧ valI l < (bp l.length : Int) := by
  obtain ⟨r, _, h2, h3, h4⟩ := digits_of h
  have := val_lt h3
  rw [h2] at this
  omega
/-- A negative place is not the highest one. -/
theorem MinusB.room {z n k : Nat} {out : List Int} (h : MinusB z n k out) (hk : k < n) (h0 : at0 out k < 0) : k + 1 < n := by
  apply Nat.lt_of_not_le
  intro hn
  have hl := h.len
  have h1 := valI_split out k (by omega)
  have h2 : out.drop k = [at0 out k] := by
    rw [List.drop_eq_getElem_cons (by omega), List.drop_eq_nil_of_le (by omega), at0_get (by omega)]
  have h3 := valI_lt (l := out.take k) fun j hj => by
    have hjk : j < k := by simp at hj; omega
    rw [at0_take hjk]
    exact ⟨h.done j hjk, h.hi j⟩
  rw [List.length_take, Nat.min_eq_left (by omega)] at h3
  rw [h2, h.sum] at h1
  simp only [valI, Int.mul_zero, Int.add_zero] at h1
  have h4 : (bp k : Int) * at0 out k ≤ (bp k : Int) * (-1) := Int.mul_le_mul_of_nonneg_left (by omega) (by omega)
  omega
theorem MinusB.borrow {z n k : Nat} {out : List Int} (h : MinusB z n k out) (hk : k + 1 < n) (h0 : at0 out k < 0) :
    MinusB z n (k + 1) ((out.set k (at0 out k + 1000000000)).set (k + 1) (at0 out (k + 1) - 1)) := by
  have hko : k < out.length := by rw [h.len]; omega
  have hk1 : k + 1 < out.length := by rw [h.len]; omega
  have h1 := h.lo k
  have h2 := h.lo' (k + 1) (by omega)
  have h3 := h.hi (k + 1)
  have e1 : at0 (out.set k (at0 out k + 1000000000)) (k + 1) = at0 out (k + 1) := at0_set_ne (by omega)
  have hat : ∀ j, at0 ((out.set k (at0 out k + 1000000000)).set (k + 1) (at0 out (k + 1) - 1)) j = if j = k + 1 then at0 out (k + 1) - 1 else if j = k then at0 out k + 1000000000 else at0 out j := fun j => by
    by_cases ha : j = k + 1
    · subst ha; rw [if_pos rfl, at0_set_same (by simpa using hk1)]
    · rw [if_neg ha, at0_set_ne (by omega)]
      by_cases hb : j = k
      · subst hb; rw [if_pos rfl, at0_set_same hko]
      · rw [if_neg hb, at0_set_ne (by omega)]
  refine ⟨by rw [List.length_set, List.length_set]; exact h.len, ?_, fun j hj => ?_, fun j => ?_, fun j hj => ?_, fun j => ?_⟩
  · rw [valI_set _ (by simpa using hk1), valI_set _ hko, e1, h.sum, bpI_succ]
    rw [show at0 out (k + 1) - 1 - at0 out (k + 1) = -1 by omega, show at0 out k + 1000000000 - at0 out k = 1000000000 by omega]
    omega
  · rw [hat, if_neg (by omega)]; split
    · omega
    · exact h.done j (by omega)
  · rw [hat]; split
    · omega
    · split
      · omega
      · exact h.lo j
  · rw [hat, if_neg (by omega), if_neg (by omega)]; exact h.lo' j (by omega)
  · rw [hat]; split
    · omega
    · split
      · omega
      · exact h.hi j
theorem MinusB.fin {z n : Nat} {out : List Int} (h : MinusB z n n out) : ∃ r : List Nat, out = ni r ∧ r.length = n ∧ Small r ∧ val r = z := by
  obtain ⟨r, h1, h2, h3, h4⟩ := digits_of (l := out) fun j hj => ⟨h.done j (by have := h.len; omega), h.hi j⟩
  exact ⟨r, h1, by rw [h2, h.len], h3, by have := h.sum; omega⟩

/-- Times: i places of x done, and k places of y at place i. -/
structure TimesA (x y : List Nat) (i k : Nat) (c : Nat) (out : List Int) : Prop where
  len : out.length = x.length + y.length
  sum : valI out + (bp (i + k) : Int) * (c : Int) = (val (x.take i) : Int) * (val y : Int) + (bp i : Int) * ((x.getD i 0 : Nat) : Int) * (val (y.take k) : Int)
  dig : ∀ j, 0 ≤ at0 out j ∧ at0 out j < 1000000000
  zero : ∀ j, i + y.length ≤ j → at0 out j = 0
theorem TimesA.start (x y : List Nat) : TimesA x y 0 0 0 (List.replicate (x.length + y.length) 0) :=
  ⟨by simp, by rw [valI_zeros]; simp [val], fun j => by rw [at0_zeros]; omega, fun j _ => at0_zeros _ _⟩
theorem TimesA.step {x y : List Nat} {i k c : Nat} {out : List Int} (h : TimesA x y i k c out) (hi : i < x.length) (hk : k < y.length) (o : Nat) (ho : at0 out (i + k) = (o : Int)) :
    TimesA x y i (k + 1) ((o + x[i] * y[k] + c) / 1000000000) (out.set (i + k) (((o + x[i] * y[k] + c) % 1000000000 : Nat) : Int)) := by
  have hko : i + k < out.length := by rw [h.len]; omega
  refine ⟨by rw [List.length_set]; exact h.len, ?_, fun j => ?_, fun j hj => ?_⟩
  · rw [valI_set _ hko, ho, val_take_succ hk, ← Nat.add_assoc, bpI_succ]
    have hs := h.sum
    have hm := Nat.div_add_mod (o + x[i] * y[k] + c) 1000000000
    have hx : x.getD i 0 = x[i] := getD_get hi
    rw [hx] at hs ⊢
    generalize (o + x[i] * y[k] + c) / 1000000000 = q at *
    generalize (o + x[i] * y[k] + c) % 1000000000 = r at *
    have hm' : 1000000000 * (q : Int) + (r : Int) = (o : Int) + (x[i] : Int) * (y[k] : Int) + (c : Int) := by
      rw [← Int.natCast_mul (x[i]) (y[k])]; omega
    have hb : (bp (i + k) : Int) = (bp i : Int) * (bp k : Int) := by rw [bp_add, Int.natCast_mul]
    have h3 : (bp (i + k) : Int) * (1000000000 * (q : Int) + (r : Int)) = (bp (i + k) : Int) * ((o : Int) + (x[i] : Int) * (y[k] : Int) + (c : Int)) := by rw [hm']
    have h4 : (bp i : Int) * (x[i] : Int) * ((bp k : Int) * (y[k] : Int)) = (bp (i + k) : Int) * ((x[i] : Int) * (y[k] : Int)) := by rw [hb]; ac_rfl
    rw [Int.mul_add _ (val (y.take k) : Int), h4]
    rw [Int.mul_add, Int.mul_add, Int.mul_add] at h3
    rw [Int.mul_sub]
    have h5 : (1000000000 : Int) * (bp (i + k) : Int) * (q : Int) = (bp (i + k) : Int) * (1000000000 * (q : Int)) := by ac_rfl
    rw [h5]
    omega
  · rw [at0_set]; split
    · have := Nat.mod_lt (o + x[i] * y[k] + c) (show 0 < 1000000000 by omega); omega
    · exact h.dig j
  · rw [at0_set_ne (by omega)]; exact h.zero j hj
theorem TimesA.next {x y : List Nat} {i c : Nat} {out : List Int} (h : TimesA x y i y.length c out) (hi : i < x.length) (hc : c < 1000000000) :
    TimesA x y (i + 1) 0 0 (out.set (i + y.length) (c : Int)) := by
  have hko : i + y.length < out.length := by rw [h.len]; omega
  refine ⟨by rw [List.length_set]; exact h.len, ?_, fun j => ?_, fun j hj => ?_⟩
  · have hs := h.sum
    rw [valI_set _ hko, h.zero _ (Nat.le_refl _), val_take_succ hi]
    rw [List.take_length, getD_get hi] at hs
    rw [Int.add_mul]
    simp only [List.take_zero, val_nil, Int.natCast_zero, Int.mul_zero, Int.sub_zero, Int.add_zero]
    omega
  · rw [at0_set]; split
    · omega
    · exact h.dig j
  · rw [at0_set_ne (by omega)]; exact h.zero j (by omega)
theorem TimesA.fin {x y : List Nat} {out : List Int} (h : TimesA x y x.length 0 0 out) : ∃ r : List Nat, out = ni r ∧ r.length = x.length + y.length ∧ Small r ∧ val r = val x * val y := by
  obtain ⟨r, h1, h2, h3, h4⟩ := digits_of (l := out) fun j _ => h.dig j
  refine ⟨r, h1, by rw [h2, h.len], h3, ?_⟩
  have hs := h.sum
  rw [List.take_length] at hs
  simp only [List.take_zero, val_nil, Int.natCast_zero, Int.mul_zero, Int.add_zero] at hs
  have : ((val r : Nat) : Int) = ((val x * val y : Nat) : Int) := by rw [Int.natCast_mul]; omega
  omega
theorem set_top (k d : Nat) (q : List Nat) : (List.replicate (k + 1) (0 : Int) ++ ni q).set k (d : Int) = List.replicate k 0 ++ ni (d :: q) := by
  rw [List.set_append_left _ _ (by simp), List.replicate_succ', List.set_append_right _ _ (by simp)]
  simp [ni]
/-- Part: one place. -/
theorem part_step {l q : List Nat} {i n rest : Nat} (hi : i < l.length) (hn : 0 < n) (hl : Small l) (hv : val (l.drop (i + 1)) = val q * n + rest) (hr : rest < n) (hs : Small q) :
    val (l.drop i) = val ((rest * 1000000000 + l[i]) / n :: q) * n + (rest * 1000000000 + l[i]) % n ∧ Small ((rest * 1000000000 + l[i]) / n :: q) := by
  have hli : l[i] < 1000000000 := hl _ (List.getElem_mem hi)
  constructor
  · rw [List.drop_eq_getElem_cons hi, val_cons, hv, val_cons]
    have h := Nat.div_add_mod (rest * 1000000000 + l[i]) n
    generalize (rest * 1000000000 + l[i]) / n = a at *
    generalize (rest * 1000000000 + l[i]) % n = b at *
    rw [Nat.add_mul, Nat.mul_comm a n, Nat.mul_assoc 1000000000]
    generalize n * a = z at *
    generalize val q * n = y at *
    omega
  · refine Small.cons ?_ hs
    rw [Nat.div_lt_iff_lt_mul hn]
    have : (rest + 1) * 1000000000 ≤ n * 1000000000 := Nat.mul_le_mul_right _ hr
    omega
end Go.Proofs.YtnbanlmkoljghaaGreatDoor
