/- Plain mathematics of digits to the base 1000000000: values, canonical digits, comparison, sums, differences, products, division by one digit. No program in sight. -/
namespace Go.Proofs.YtnbanlmkoljghaaGreatDoor.Dig

/-- The number of some digits, the least significant one first. -/
def val : List Nat → Nat
  | [] => 0
  | d :: l => d + 1000000000 * val l

def Small (l : List Nat) : Prop := ∀ d ∈ l, d < 1000000000

/-- Digits without a highest 0. -/
def Norm (l : List Nat) : Prop := Small l ∧ l.getLast? ≠ some 0

def bp (n : Nat) : Nat := 1000000000 ^ n

theorem bp_zero : bp 0 = 1 := rfl
theorem bp_succ (n : Nat) : bp (n + 1) = 1000000000 * bp n := by unfold bp; rw [Nat.pow_succ, Nat.mul_comm]
theorem bp_pos (n : Nat) : 0 < bp n := Nat.pow_pos (by omega)
theorem bp_add (m n : Nat) : bp (m + n) = bp m * bp n := Nat.pow_add _ _ _
theorem bp_le {m n : Nat} (h : m ≤ n) : bp m ≤ bp n := Nat.pow_le_pow_right (by omega) h
theorem bp_lt {m n : Nat} (h : m < n) : bp m < bp n := Nat.pow_lt_pow_right (by omega) h

theorem Small.nil : Small [] := fun _ h => by cases h
theorem Small.cons {d : Nat} {l : List Nat} (h : d < 1000000000) (hl : Small l) : Small (d :: l) := fun x hx => by
  cases hx with
  | head => exact h
  | tail _ hx => exact hl x hx
theorem Small.head {d : Nat} {l : List Nat} (h : Small (d :: l)) : d < 1000000000 := h d (List.mem_cons_self ..)
theorem Small.tail {d : Nat} {l : List Nat} (h : Small (d :: l)) : Small l := fun x hx => h x (List.mem_cons_of_mem _ hx)
theorem Small.append {l m : List Nat} (h : Small l) (k : Small m) : Small (l ++ m) := fun x hx => by
  rcases List.mem_append.1 hx with hx | hx
  · exact h x hx
  · exact k x hx
theorem Small.take {l : List Nat} (h : Small l) (n : Nat) : Small (l.take n) := fun x hx => h x (List.mem_of_mem_take hx)
theorem Small.drop {l : List Nat} (h : Small l) (n : Nat) : Small (l.drop n) := fun x hx => h x (List.mem_of_mem_drop hx)
theorem getD_get {l : List Nat} {i : Nat} (h : i < l.length) : l.getD i 0 = l[i] := by simp [List.getD, h]
theorem Small.getD {l : List Nat} (h : Small l) (i : Nat) : l.getD i 0 < 1000000000 := by
  by_cases hi : i < l.length
  · rw [getD_get hi]; exact h _ (List.getElem_mem hi)
  · rw [List.getD_eq_getElem?_getD, List.getElem?_eq_none (by omega)]; decide
theorem Small.replicate (n : Nat) : Small (List.replicate n 0) := fun x hx => by rw [(List.mem_replicate.1 hx).2]; omega

theorem val_nil : val [] = 0 := rfl
theorem val_cons (d : Nat) (l : List Nat) : val (d :: l) = d + 1000000000 * val l := rfl
theorem val_append (l m : List Nat) : val (l ++ m) = val l + bp l.length * val m := by
  induction l with
  | nil => simp [val, bp]
  | cons d l ih =>
    rw [List.cons_append, val_cons, ih, val_cons, List.length_cons, bp_succ, Nat.mul_add, Nat.add_assoc, Nat.mul_assoc]
theorem val_replicate (n : Nat) : val (List.replicate n 0) = 0 := by
  induction n with
  | zero => rfl
  | succ n ih => rw [List.replicate_succ, val_cons, ih]
theorem val_lt {l : List Nat} (h : Small l) : val l < bp l.length := by
  induction l with
  | nil => simp [val, bp]
  | cons d l ih =>
    have h1 := ih h.tail
    have h2 := h.head
    rw [val_cons, List.length_cons, bp_succ]
    omega
theorem val_inj {l m : List Nat} (hl : Small l) (hm : Small m) (hn : l.length = m.length) (h : val l = val m) : l = m := by
  induction l generalizing m with
  | nil => cases m with
    | nil => rfl
    | cons d m => simp at hn
  | cons d l ih => cases m with
    | nil => simp at hn
    | cons e m =>
      rw [val_cons, val_cons] at h
      have h1 := hl.head
      have h2 := hm.head
      have h3 : d = e := by omega
      have h4 : val l = val m := by omega
      rw [h3, ih hl.tail hm.tail (by simpa using hn) h4]
theorem val_split (l : List Nat) (k : Nat) (hk : k ≤ l.length) : val l = val (l.take k) + bp k * val (l.drop k) := by
  have h := val_append (l.take k) (l.drop k)
  rw [List.take_append_drop, List.length_take, Nat.min_eq_left hk] at h
  exact h
theorem val_snoc (l : List Nat) (d : Nat) : val (l ++ [d]) = val l + bp l.length * d := by
  rw [val_append]; simp [val]

theorem Norm.nil : Norm [] := ⟨Small.nil, by simp⟩
theorem norm_snoc {l : List Nat} {d : Nat} (h : Norm (l ++ [d])) : Small l ∧ 0 < d ∧ d < 1000000000 := by
  obtain ⟨h1, h2⟩ := h
  simp at h2
  exact ⟨fun x hx => h1 x (List.mem_append_left _ hx), by omega, h1 d (by simp)⟩
theorem norm_low {l : List Nat} (h : Norm l) (hn : l ≠ []) : bp (l.length - 1) ≤ val l := by
  obtain ⟨m, d, rfl⟩ : ∃ m d, l = m ++ [d] := ⟨l.dropLast, l.getLast hn, (List.dropLast_concat_getLast hn).symm⟩
  obtain ⟨_, hd, _⟩ := norm_snoc h
  rw [val_snoc, List.length_append]
  simp only [List.length_cons, List.length_nil, Nat.zero_add, Nat.add_sub_cancel]
  have := Nat.le_mul_of_pos_right (bp m.length) hd
  omega
theorem norm_pos {l : List Nat} (h : Norm l) (hn : l ≠ []) : 0 < val l := Nat.lt_of_lt_of_le (bp_pos _) (norm_low h hn)
theorem norm_zero {l : List Nat} (h : Norm l) : val l = 0 ↔ l = [] :=
  ⟨fun h0 => by
    by_cases hn : l = []
    · exact hn
    · have := norm_pos h hn; omega, fun h0 => by rw [h0]; rfl⟩
theorem norm_len_lt {l m : List Nat} (hl : Norm l) (hm : Norm m) (h : l.length < m.length) : val l < val m := by
  have h1 := val_lt hl.1
  have h2 := norm_low hm (fun e => by subst e; simp at h)
  have h3 : bp l.length ≤ bp (m.length - 1) := bp_le (by omega)
  omega
theorem norm_inj {l m : List Nat} (hl : Norm l) (hm : Norm m) (h : val l = val m) : l = m := by
  rcases Nat.lt_trichotomy l.length m.length with h1 | h1 | h1
  · have := norm_len_lt hl hm h1; omega
  · exact val_inj hl.1 hm.1 h1 h
  · have := norm_len_lt hm hl h1; omega

/-- The digits of a number. -/
def dig (n : Nat) : List Nat := if h : n = 0 then [] else n % 1000000000 :: dig (n / 1000000000)
termination_by n
decreasing_by omega

theorem dig_zero : dig 0 = [] := by rw [dig]; rfl
theorem dig_pos {n : Nat} (h : n ≠ 0) : dig n = n % 1000000000 :: dig (n / 1000000000) := by rw [dig, dif_neg h]
theorem val_dig (n : Nat) : val (dig n) = n := by
  induction n using Nat.strongRecOn with
  | ind n ih =>
    by_cases h : n = 0
    · rw [h, dig_zero]; rfl
    · rw [dig_pos h, val_cons, ih _ (by omega)]; omega
theorem dig_eq_nil {n : Nat} : dig n = [] ↔ n = 0 :=
  ⟨fun h => by have := val_dig n; rw [h] at this; exact this.symm, fun h => by rw [h, dig_zero]⟩
theorem dig_norm (n : Nat) : Norm (dig n) := by
  induction n using Nat.strongRecOn with
  | ind n ih =>
    by_cases h : n = 0
    · rw [h, dig_zero]; exact Norm.nil
    · have h1 := ih (n / 1000000000) (by omega)
      rw [dig_pos h]
      refine ⟨Small.cons (Nat.mod_lt _ (by omega)) h1.1, ?_⟩
      by_cases h2 : n / 1000000000 = 0
      · rw [h2, dig_zero]; simp; omega
      · have h3 : dig (n / 1000000000) ≠ [] := fun e => h2 (dig_eq_nil.1 e)
        rw [List.getLast?_cons]
        have h4 := h1.2
        rw [List.getLast?_eq_some_getLast h3] at h4 ⊢
        simpa using h4
theorem dig_val {l : List Nat} (h : Norm l) : dig (val l) = l := norm_inj (dig_norm _) h (val_dig _)
theorem dig_of {l : List Nat} {n : Nat} (h : Norm l) (hv : val l = n) : dig n = l := by rw [← hv, dig_val h]
theorem dig_small (n : Nat) : Small (dig n) := (dig_norm n).1
theorem dig_inj {m n : Nat} (h : dig m = dig n) : m = n := by rw [← val_dig m, h, val_dig]
theorem dig_len_le {n k : Nat} : (dig n).length ≤ k ↔ n < bp k := by
  constructor
  · intro h
    have h1 := val_lt (dig_small n)
    rw [val_dig] at h1
    exact Nat.lt_of_lt_of_le h1 (bp_le h)
  · intro h
    by_cases hn : dig n = []
    · rw [hn]; simp
    · have h1 := norm_low (dig_norm n) hn
      rw [val_dig] at h1
      apply Nat.le_of_not_lt
      intro hk
      have : bp k ≤ bp ((dig n).length - 1) := bp_le (by omega)
      omega
theorem dig_lt (n : Nat) : n < bp (dig n).length := dig_len_le.1 (Nat.le_refl _)
theorem dig_len_mono {m n : Nat} (h : m ≤ n) : (dig m).length ≤ (dig n).length := dig_len_le.2 (Nat.lt_of_le_of_lt h (dig_lt n))
theorem dig_len_pos {n : Nat} (h : n ≠ 0) : 0 < (dig n).length := by
  rw [dig_pos h]; simp
theorem dig_one {d : Nat} (h : d < 1000000000) (h0 : d ≠ 0) : dig d = [d] := dig_of ⟨Small.cons h Small.nil, by simpa using h0⟩ (by simp [val])

/-- Without the highest zeros. -/
def trim (l : List Nat) : List Nat := dig (val l)
theorem trim_snoc_zero (l : List Nat) : trim (l ++ [0]) = trim l := by unfold trim; rw [val_snoc]; simp
theorem trim_norm {l : List Nat} (h : Small l) (ht : l.getLast? ≠ some 0) : trim l = l := dig_val ⟨h, ht⟩

/-- Comparison. -/
theorem cmp_len {m n : Nat} (h : (dig m).length < (dig n).length) : m < n := by
  have := norm_len_lt (dig_norm m) (dig_norm n) h
  rwa [val_dig, val_dig] at this
/-- Two numbers with as many digits, alike above place k, unlike at k. -/
theorem cmp_at {l m : List Nat} (hl : Small l) (hn : l.length = m.length) {k : Nat} (hk : k < l.length)
    (hd : l.drop (k + 1) = m.drop (k + 1)) (hlt : l.getD k 0 < m.getD k 0) : val l < val m := by
  rw [val_split l k (by omega), val_split m k (by omega), List.drop_eq_getElem_cons hk, List.drop_eq_getElem_cons (show k < m.length by omega), hd, val_cons, val_cons]
  rw [getD_get hk, getD_get (show k < m.length by omega)] at hlt
  have h1 := val_lt (hl.take k)
  rw [List.length_take, Nat.min_eq_left (by omega)] at h1
  generalize val (m.drop (k + 1)) = z at *
  have h2 : bp k * (l[k] + 1000000000 * z) + bp k ≤ bp k * (m[k] + 1000000000 * z) := by
    rw [← Nat.mul_succ]; exact Nat.mul_le_mul_left _ (by omega)
  omega
end Go.Proofs.YtnbanlmkoljghaaGreatDoor.Dig
