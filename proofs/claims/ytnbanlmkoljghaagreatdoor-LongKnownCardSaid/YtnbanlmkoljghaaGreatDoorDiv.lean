/- Plain mathematics of the long division: less, more, the estimate, one place of the quotient. -/
import Derived.Test.YtnbanlmkoljghaaGreatDoorArith
namespace Go.Proofs.YtnbanlmkoljghaaGreatDoor
open Go Go.RowKit Dig

def SmallI (l : List Int) : Prop := ∀ x ∈ l, 0 ≤ x ∧ x < 1000000000
theorem SmallI.nil : SmallI [] := fun _ h => by cases h
theorem SmallI.snoc {l : List Int} {x : Int} (h : SmallI l) (h0 : 0 ≤ x) (h1 : x < 1000000000) : SmallI (l ++ [x]) := fun y hy => by
  rcases List.mem_append.1 hy with hy | hy
  · exact h y hy
  · rw [List.mem_singleton.1 hy]; exact ⟨h0, h1⟩
theorem SmallI.toNi {l : List Int} (h : SmallI l) : ∃ r : List Nat, l = ni r ∧ r.length = l.length ∧ Small r ∧ (val r : Int) = valI l :=
  digits_of fun j hj => by rw [at0_get hj]; exact h _ (List.getElem_mem hj)
theorem valI_snoc (l : List Int) (x : Int) : valI (l ++ [x]) = valI l + (bp l.length : Int) * x := by rw [valI_append]; simp [valI]
theorem ni_small {l : List Nat} (h : Small l) : SmallI (ni l) := fun x hx => by
  obtain ⟨d, hd, rfl⟩ := List.mem_map.1 hx
  have := h d hd; omega
theorem ni_drop (l : List Nat) (k : Nat) : ni (l.drop k) = (ni l).drop k := by simp [ni]
theorem ni_take (l : List Nat) (k : Nat) : ni (l.take k) = (ni l).take k := by simp [ni]
theorem set_mid {pre dn t post : List Int} {x y : Int} {k : Nat} (hk : dn.length = k) : (pre ++ ((dn ++ y :: t) ++ post)).set (pre.length + k) x = pre ++ ((dn ++ [x] ++ t) ++ post) := by
  rw [List.set_append_right _ _ (by omega), List.append_assoc dn, List.set_append_right _ _ (by omega)]
  rw [show pre.length + k - pre.length - dn.length = 0 by omega, List.cons_append, List.set_cons_zero]
  simp
theorem get_mid {pre dn t post : List Int} {y : Int} {k : Nat} (hk : dn.length = k) : at0 (pre ++ ((dn ++ y :: t) ++ post)) (pre.length + k) = y := by
  rw [at0_append_right (by omega), List.append_assoc, at0_append_right (by omega), show pre.length + k - pre.length - dn.length = 0 by omega]
  rfl
theorem drop_cons {U : List Nat} {k : Nat} (h : k < U.length) : ni (U.drop k) = (U[k] : Int) :: ni (U.drop (k + 1)) := by
  rw [List.drop_eq_getElem_cons h]; rfl

/-- less, one place. -/
theorem less_step {U V : List Nat} {k d : Nat} {dn : List Int} {br n t : Int} (hU : k < U.length) (hV : k < V.length) (hd : dn.length = k) (hs : SmallI dn)
    (hv : valI dn - (bp k : Int) * br = (val (U.take k) : Int) - (d : Int) * (val (V.take k) : Int))
    (hn : n = (U[k] : Int) - ((V[k] : Int) * (d : Int)) % 1000000000 - br + t * 1000000000) (h0 : 0 ≤ n) (h1 : n < 1000000000) :
    (dn ++ [n]).length = k + 1 ∧ SmallI (dn ++ [n]) ∧ valI (dn ++ [n]) - (bp (k + 1) : Int) * (((V[k] : Int) * (d : Int)) / 1000000000 + t) = (val (U.take (k + 1)) : Int) - (d : Int) * (val (V.take (k + 1)) : Int) := by
  refine ⟨by simp [hd], hs.snoc h0 h1, ?_⟩
  rw [valI_snoc, hd, val_take_succ hU, val_take_succ hV, bpI_succ]
  have hm := Int.mul_ediv_add_emod ((V[k] : Int) * (d : Int)) 1000000000
  generalize ((V[k] : Int) * (d : Int)) / 1000000000 = q at *
  generalize ((V[k] : Int) * (d : Int)) % 1000000000 = r at *
  have e1 : (d : Int) * ((val (V.take k) : Int) + (bp k : Int) * (V[k] : Int)) = (d : Int) * (val (V.take k) : Int) + (bp k : Int) * (1000000000 * q + r) := by
    rw [Int.mul_add, hm]; congr 1; ac_rfl
  rw [e1, hn]
  have e2 : (bp k : Int) * ((U[k] : Int) - r - br + t * 1000000000) = (bp k : Int) * (U[k] : Int) - (bp k : Int) * r - (bp k : Int) * br + (bp k : Int) * t * 1000000000 := by
    rw [Int.mul_add, Int.mul_sub, Int.mul_sub, Int.mul_assoc]
  have e3 : 1000000000 * (bp k : Int) * (q + t) = (bp k : Int) * q * 1000000000 + (bp k : Int) * t * 1000000000 := by
    rw [Int.mul_add]; congr 1 <;> ac_rfl
  have e4 : (bp k : Int) * (1000000000 * q + r) = (bp k : Int) * q * 1000000000 + (bp k : Int) * r := by
    rw [Int.mul_add]; congr 1; ac_rfl
  rw [e2, e3, e4]
  omega
/-- less, the last place. -/
theorem less_last {U V : List Nat} {n d : Nat} {dn : List Int} {br : Int} (hU : U.length = n + 1) (hV : V.length = n) (hd : dn.length = n) (hs : SmallI dn)
    (hv : valI dn - (bp n : Int) * br = (val (U.take n) : Int) - (d : Int) * (val (V.take n) : Int)) (hlow : (d : Int) * (val V : Int) ≤ (val U : Int) + (bp n : Int)) :
    valI dn + (bp n : Int) * ((U[n] : Int) - br) = (val U : Int) - (d : Int) * (val V : Int) ∧ -1 ≤ (U[n] : Int) - br ∧ ((U[n] : Int) - br < 0 ↔ (val U : Int) < (d : Int) * (val V : Int)) := by
  have e : (val U : Int) = (val (U.take n) : Int) + (bp n : Int) * (U[n] : Int) := by
    have := val_take_succ (l := U) (k := n) (by omega)
    rwa [← hU, List.take_length] at this
  have e2 : V.take n = V := by rw [← hV, List.take_length]
  rw [e2] at hv
  have h1 : valI dn + (bp n : Int) * ((U[n] : Int) - br) = (val U : Int) - (d : Int) * (val V : Int) := by rw [e, Int.mul_sub]; omega
  have h2 := valI_lt (l := dn) fun j hj => by rw [at0_get hj]; exact hs _ (List.getElem_mem hj)
  rw [hd] at h2
  refine ⟨h1, ?_, ?_⟩
  · apply Int.le_of_not_gt
    intro hlt
    have h3 : (bp n : Int) * ((U[n] : Int) - br) ≤ (bp n : Int) * (-2) := Int.mul_le_mul_of_nonneg_left (by omega) (by omega)
    omega
  · constructor
    · intro hlt
      have h3 : (bp n : Int) * ((U[n] : Int) - br) ≤ (bp n : Int) * (-1) := Int.mul_le_mul_of_nonneg_left (by omega) (by omega)
      omega
    · intro hlt
      apply Int.lt_of_not_ge
      intro hge
      have h3 : 0 ≤ (bp n : Int) * ((U[n] : Int) - br) := Int.mul_nonneg (by omega) hge
      omega
/-- more, one place. -/
theorem more_step {U V dn : List Nat} {k c : Nat} (hU : k < U.length) (hV : k < V.length) (hd : dn.length = k) (hs : Small dn) (hv : val dn + bp k * c = val (U.take k) + val (V.take k)) :
    (dn ++ [(U[k] + V[k] + c) % 1000000000]).length = k + 1 ∧ Small (dn ++ [(U[k] + V[k] + c) % 1000000000]) ∧
    val (dn ++ [(U[k] + V[k] + c) % 1000000000]) + bp (k + 1) * ((U[k] + V[k] + c) / 1000000000) = val (U.take (k + 1)) + val (V.take (k + 1)) := by
  refine ⟨by simp [hd], hs.append (Small.cons (Nat.mod_lt _ (by omega)) Small.nil), ?_⟩
  rw [List.take_succ_eq_append_getElem hU, List.take_succ_eq_append_getElem hV, val_snoc, val_snoc, val_snoc, hd, List.length_take, List.length_take, Nat.min_eq_left (by omega), Nat.min_eq_left (by omega), bp_succ]
  have h := Nat.div_add_mod (U[k] + V[k] + c) 1000000000
  have h2 : bp k * (U[k] + V[k] + c) = bp k * (1000000000 * ((U[k] + V[k] + c) / 1000000000) + (U[k] + V[k] + c) % 1000000000) := by rw [h]
  generalize (U[k] + V[k] + c) / 1000000000 = q at *
  generalize (U[k] + V[k] + c) % 1000000000 = r at *
  simp only [Nat.mul_add, Nat.mul_assoc, Nat.mul_left_comm (1000000000 : Nat)] at h2 ⊢
  omega
theorem more_last {U V dn : List Nat} {n c : Nat} (hU : U.length = n + 1) (hV : V.length = n) (hd : dn.length = n) (hs : Small dn) (hv : val dn + bp n * c = val (U.take n) + val (V.take n)) :
    Small (dn ++ [(U[n] + c) % 1000000000]) ∧ (dn ++ [(U[n] + c) % 1000000000]).length = n + 1 ∧ ∃ e, val (dn ++ [(U[n] + c) % 1000000000]) + bp (n + 1) * e = val U + val V := by
  refine ⟨hs.append (Small.cons (Nat.mod_lt _ (by omega)) Small.nil), by simp [hd], (U[n] + c) / 1000000000, ?_⟩
  have e : val U = val (U.take n) + bp n * U[n] := by
    have := List.take_succ_eq_append_getElem (show n < U.length by omega)
    rw [← hU, List.take_length] at this
    have h2 := congrArg val this
    rw [val_snoc, List.length_take, Nat.min_eq_left (by omega)] at h2
    exact h2
  have e2 : V.take n = V := by rw [← hV, List.take_length]
  rw [e2] at hv
  rw [val_snoc, hd, bp_succ, e]
  have h := Nat.div_add_mod (U[n] + c) 1000000000
  have h2 : bp n * (U[n] + c) = bp n * (1000000000 * ((U[n] + c) / 1000000000) + (U[n] + c) % 1000000000) := by rw [h]
  generalize (U[n] + c) / 1000000000 = q at *
  generalize (U[n] + c) % 1000000000 = r at *
  simp only [Nat.mul_add, Nat.mul_assoc, Nat.mul_left_comm (1000000000 : Nat)] at h2 ⊢
  omega

/-- The estimate: d v1 + rest are the two highest places of the number; q is the quotient. -/
structure Guess (u2 v1 v2 : Nat) (T q d rest : Nat) : Prop where
  top : d * v1 + rest = T
  le : q ≤ d
/-- What the parts of U and V say. -/
structure Parts (U V m T u2 v1 v2 : Nat) : Prop where
  u : ∃ ur, ur < m ∧ U = (T * 1000000000 + u2) * m + ur
  v : ∃ vr, vr < m ∧ V = (v1 * 1000000000 + v2) * m + vr
  u2 : u2 < 1000000000
  v2 : v2 < 1000000000
  v1 : 0 < v1
  m : 0 < m
  lt : U < V * 1000000000
theorem Parts.q_lt {U V m T u2 v1 v2 : Nat} (h : Parts U V m T u2 v1 v2) : U / V < 1000000000 := by
  have := h.lt
  exact Nat.div_lt_of_lt_mul this
theorem Parts.v_pos {U V m T u2 v1 v2 : Nat} (h : Parts U V m T u2 v1 v2) : 1000000000 * m ≤ V := by
  obtain ⟨vr, _, hv⟩ := h.v
  have h1 : 1000000000 * m ≤ (v1 * 1000000000 + v2) * m := Nat.mul_le_mul_right m (by have := h.v1; omega)
  omega
theorem Guess.start {U V m T u2 v1 v2 : Nat} (h : Parts U V m T u2 v1 v2) : Guess u2 v1 v2 T (U / V) (T / v1) (T % v1) := by
  refine ⟨by rw [Nat.mul_comm]; exact Nat.div_add_mod T v1, ?_⟩
  rw [Nat.le_div_iff_mul_le h.v1]
  obtain ⟨ur, hur, hu⟩ := h.u
  obtain ⟨vr, hvr, hv⟩ := h.v
  have h1 : U / V * V ≤ U := Nat.div_mul_le_self U V
  have hM : 0 < m := h.m
  have h3 : U < (T + 1) * (1000000000 * m) := by
    have : (T * 1000000000 + u2) * m + m ≤ (T + 1) * 1000000000 * m := by
      rw [← Nat.succ_mul]; exact Nat.mul_le_mul_right m (by have := h.u2; omega)
    rw [Nat.mul_assoc] at this
    omega
  have h4 : v1 * (1000000000 * m) ≤ V := by
    have : v1 * 1000000000 * m ≤ (v1 * 1000000000 + v2) * m := Nat.mul_le_mul_right m (by omega)
    rw [Nat.mul_assoc] at this
    omega
  have h5 : U / V * v1 * (1000000000 * m) < (T + 1) * (1000000000 * m) := by
    have : U / V * (v1 * (1000000000 * m)) ≤ U / V * V := Nat.mul_le_mul_left _ h4
    rw [Nat.mul_assoc]
    omega
  have := Nat.lt_of_mul_lt_mul_right h5
  omega
theorem Guess.down {U V m T u2 v1 v2 d rest : Nat} (h : Parts U V m T u2 v1 v2) (g : Guess u2 v1 v2 T (U / V) d rest) (ht : 1000000000 ≤ d ∨ rest * 1000000000 + u2 < d * v2) :
    Guess u2 v1 v2 T (U / V) (d - 1) (rest + v1) ∧ 0 < d := by
  have hq := h.q_lt
  have hlt : U / V < d := by
    rcases ht with ht | ht
    · omega
    · apply Nat.lt_of_not_le
      intro hge
      obtain ⟨ur, hur, hu⟩ := h.u
      obtain ⟨vr, hvr, hv⟩ := h.v
      have h1 : d * V ≤ U := Nat.le_trans (Nat.mul_le_mul_right V hge) (Nat.div_mul_le_self U V)
      have h2 : d * ((v1 * 1000000000 + v2) * m) ≤ d * V := Nat.mul_le_mul_left d (by omega)
      have h3 : T * 1000000000 + u2 + 1 ≤ d * (v1 * 1000000000 + v2) := by
        have := g.top
        rw [Nat.mul_add, ← Nat.mul_assoc, ← this, Nat.add_mul]
        omega
      have h4 : (T * 1000000000 + u2 + 1) * m ≤ d * (v1 * 1000000000 + v2) * m := Nat.mul_le_mul_right m h3
      rw [Nat.mul_assoc d] at h4
      rw [Nat.succ_mul] at h4
      omega
  have hd0 : 0 < d := Nat.lt_of_le_of_lt (Nat.zero_le _) hlt
  refine ⟨⟨?_, Nat.le_sub_one_of_lt hlt⟩, hd0⟩
  obtain ⟨e, rfl⟩ : ∃ e, d = e + 1 := ⟨d - 1, by omega⟩
  have := g.top
  rw [Nat.add_sub_cancel]
  rw [Nat.succ_mul] at this
  omega
/-- Where the loop ends: d is at most one too great. -/
theorem Guess.stop {U V m T u2 v1 v2 d rest : Nat} (h : Parts U V m T u2 v1 v2) (g : Guess u2 v1 v2 T (U / V) d rest) (hd : d < 1000000000) (ht : d * v2 ≤ rest * 1000000000 + u2) : d * V ≤ U + V := by
  obtain ⟨ur, hur, hu⟩ := h.u
  obtain ⟨vr, hvr, hv⟩ := h.v
  have h1 : d * (v1 * 1000000000 + v2) ≤ T * 1000000000 + u2 := by
    have := g.top
    rw [Nat.mul_add, ← Nat.mul_assoc, ← this, Nat.add_mul]
    omega
  have h2 : d * (v1 * 1000000000 + v2) * m ≤ (T * 1000000000 + u2) * m := Nat.mul_le_mul_right m h1
  have h3 : d * vr ≤ 1000000000 * m := Nat.mul_le_mul (by omega) (by omega)
  have h4 := h.v_pos
  have h5 : d * V = d * (v1 * 1000000000 + v2) * m + d * vr := by rw [hv, Nat.mul_add, Nat.mul_assoc]
  omega
/-- The two highest places are at most v1 B + B - 1. -/
theorem Parts.top {U V m T u2 v1 v2 : Nat} (h : Parts U V m T u2 v1 v2) : T < v1 * 1000000000 + 1000000000 := by
  obtain ⟨ur, hur, hu⟩ := h.u
  obtain ⟨vr, hvr, hv⟩ := h.v
  have hlt := h.lt
  apply Nat.lt_of_not_le
  intro hge
  have h0 : (v1 * 1000000000 + 1000000000) * 1000000000 ≤ T * 1000000000 + u2 := Nat.le_trans (Nat.mul_le_mul_right 1000000000 hge) (Nat.le_add_right _ _)
  have h1 := Nat.mul_le_mul_right m h0
  have h2 : V < (v1 * 1000000000 + 1000000000) * m := by
    have : (v1 * 1000000000 + v2) * m + m ≤ (v1 * 1000000000 + 1000000000) * m := by
      rw [← Nat.succ_mul]; exact Nat.mul_le_mul_right m (by have := h.v2; omega)
    omega
  have h3 : V * 1000000000 < (v1 * 1000000000 + 1000000000) * m * 1000000000 := by omega
  have h4 : (v1 * 1000000000 + 1000000000) * m * 1000000000 = (v1 * 1000000000 + 1000000000) * 1000000000 * m := by ac_rfl
  omega
theorem Guess.bound {U V m T u2 v1 v2 d rest : Nat} (h : Parts U V m T u2 v1 v2) (g : Guess u2 v1 v2 T (U / V) d rest) : d < 2000000000 := by
  have h1 := h.top
  have h2 := g.top
  have h3 := h.v1
  apply Nat.lt_of_not_le
  intro hge
  have h4 : 2000000000 * v1 ≤ d * v1 := Nat.mul_le_mul_right v1 hge
  omega
/-- The loop left in its middle: the rest has outgrown the base. -/
theorem Guess.broke {U V m T u2 v1 v2 d rest : Nat} (h : Parts U V m T u2 v1 v2) (g : Guess u2 v1 v2 T (U / V) d rest) (hr : 1000000000 ≤ rest) : d < 1000000000 ∧ d * v2 ≤ rest * 1000000000 + u2 := by
  have h1 := h.top
  have h2 := g.top
  have hd : d < 1000000000 := by
    apply Nat.lt_of_not_le
    intro hge
    have h4 : 1000000000 * v1 ≤ d * v1 := Nat.mul_le_mul_right v1 hge
    omega
  refine ⟨hd, ?_⟩
  have h5 : d * v2 ≤ 1000000000 * 1000000000 := Nat.mul_le_mul (by omega) (by have := h.v2; omega)
  omega
end Go.Proofs.YtnbanlmkoljghaaGreatDoor
