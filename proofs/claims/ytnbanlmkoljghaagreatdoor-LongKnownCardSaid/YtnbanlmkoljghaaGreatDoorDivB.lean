/- Plain mathematics of the long division, place by place. -/
import Derived.Test.YtnbanlmkoljghaaGreatDoorDiv
namespace Go.Proofs.YtnbanlmkoljghaaGreatDoor
open Go Dig

/-- k places of the quotient are still to come; L is what is left, qs are the places that have come. -/
structure DivInv (A V la n k : Nat) (L qs : List Nat) : Prop where
  len : L.length = la + 1
  small : Small L
  qsmall : Small qs
  qlen : qs.length + k = la + 1 - n
  sum : A = val qs * bp k * V + val L
  high : val (L.drop k) < V
theorem val_take_le (l : List Nat) (k : Nat) : val (l.take k) ≤ val l := by
  by_cases h : k ≤ l.length
  · have := val_split l k h; omega
  · rw [List.take_of_length_le (by omega)]; exact Nat.le_refl _
/-- What the places j .. j + n are, before place j of the quotient. -/
structure Place (V n j : Nat) (L U post : List Nat) : Prop where
  eq : L = L.take j ++ (U ++ post)
  len : U.length = n + 1
  small : Small U
  pre : (L.take j).length = j
  zero : val post = 0
  lt : val U < V * 1000000000
theorem DivInv.place {A V la n j : Nat} {L qs : List Nat} (h : DivInv A V la n (j + 1) L qs) (hn : n ≤ la) (hV : V < bp n) : Place V n j L ((L.drop j).take (n + 1)) (L.drop (j + n + 1)) := by
  have hq := h.qlen
  have hl := h.len
  have hj : j + n + 1 ≤ L.length := by omega
  have e1 : L.drop j = (L.drop j).take (n + 1) ++ L.drop (j + n + 1) := by
    have := (List.take_append_drop (n + 1) (L.drop j)).symm
    rwa [List.drop_drop, ← Nat.add_assoc] at this
  have hlen : ((L.drop j).take (n + 1)).length = n + 1 := by simp; omega
  have hz : val (L.drop (j + n + 1)) = 0 := by
    have h1 := h.high
    have h2 := val_split (L.drop (j + 1)) n (by simp; omega)
    rw [List.drop_drop, show j + 1 + n = j + n + 1 by omega] at h2
    rcases Nat.eq_zero_or_pos (val (L.drop (j + n + 1))) with h0 | h0
    · exact h0
    · have := Nat.le_mul_of_pos_right (bp n) h0
      omega
  refine ⟨?_, hlen, (h.small.drop j).take _, by simp; omega, hz, ?_⟩
  · rw [← e1, List.take_append_drop]
  · have h1 : val (L.drop j) = L[j]'(by omega) + 1000000000 * val (L.drop (j + 1)) := by
      rw [List.drop_eq_getElem_cons (show j < L.length by omega), val_cons]
    have h2 := val_take_le (L.drop j) (n + 1)
    have h3 : L[j]'(by omega) < 1000000000 := h.small _ (List.getElem_mem _)
    have h4 := h.high
    omega
theorem Place.val_drop {V n j : Nat} {L U post : List Nat} (h : Place V n j L U post) : val L = val (L.take j) + bp j * val U := by
  have h1 := congrArg val h.eq
  rw [val_append, val_append, h.zero, h.pre] at h1
  simpa using h1
theorem Place.at {V n j i : Nat} {L U post : List Nat} (p : Place V n j L U post) (hi : i < U.length) : at0 (ni L) (j + i) = (U[i] : Int) := by
  have h2 : L[j + i]? = some U[i] := by
    rw [p.eq, List.getElem?_append_right (by rw [p.pre]; omega), p.pre, show j + i - j = i by omega, List.getElem?_append_left hi, List.getElem?_eq_getElem hi]
  rw [at0_ni, List.getD_eq_getElem?_getD, h2]
  rfl
/-- One place of the quotient. -/
theorem DivInv.next {A V la n j : Nat} {L qs U post R : List Nat} (h : DivInv A V la n (j + 1) L qs) (p : Place V n j L U post) (hR : R.length = n + 1) (hs : Small R) (hV : 0 < V) (hv : val R = val U % V) (hps : Small post) :
    DivInv A V la n j (L.take j ++ (R ++ post)) (val U / V :: qs) := by
  have hl : (L.take j ++ (R ++ post)).length = L.length := by
    have := congrArg List.length p.eq
    rw [List.length_append, List.length_append] at this ⊢
    rw [hR]; rw [p.len] at this; omega
  have hq : val U / V < 1000000000 := Nat.div_lt_of_lt_mul p.lt
  have hqs : Small (val U / V :: qs) := Small.cons hq h.qsmall
  refine ⟨by rw [hl]; exact h.len, (h.small.take j).append (hs.append hps), hqs, by have := h.qlen; simp; omega, ?_, ?_⟩
  · rw [h.sum, p.val_drop, val_append, val_append, p.zero, p.pre, val_cons, bp_succ, hv]
    have hd := Nat.div_add_mod (val U) V
    generalize val U / V = q at *
    generalize val U % V = r at *
    have e1 : bp j * val U = bp j * (V * q + r) := by rw [hd]
    rw [e1]
    simp only [Nat.mul_zero, Nat.add_zero, Nat.mul_add, Nat.add_mul]
    have e2 : val qs * (1000000000 * bp j) * V = 1000000000 * val qs * bp j * V := by ac_rfl
    have e3 : bp j * (V * q) = q * bp j * V := by ac_rfl
    rw [e2, e3]
    omega
  · have e : (L.take j ++ (R ++ post)).drop j = R ++ post := by
      rw [List.drop_append_of_le_length (by rw [p.pre]; exact Nat.le_refl _), List.drop_eq_nil_of_le (by rw [p.pre]; exact Nat.le_refl _), List.nil_append]
    rw [e, val_append, p.zero, hv, Nat.mul_zero, Nat.add_zero]
    exact Nat.mod_lt _ hV
/-- The places of U and V that the estimate looks at. -/
theorem Place.parts {V n j : Nat} {L U post vs : List Nat} (p : Place V n j L U post) (hn : 2 ≤ n) (hv : vs.length = n) (hvs : Small vs) (hV : val vs = V) (h1 : 0 < vs[n - 1]'(by omega)) :
    Parts (val U) V (bp (n - 2)) ((U[n]'(by rw [p.len]; omega)) * 1000000000 + U[n - 1]'(by rw [p.len]; omega)) (U[n - 2]'(by rw [p.len]; omega)) (vs[n - 1]'(by omega)) (vs[n - 2]'(by omega)) := by
  have hU := p.len
  obtain ⟨m, rfl⟩ : ∃ m, n = m + 2 := ⟨n - 2, by omega⟩
  simp only [show m + 2 - 2 = m by omega, show m + 2 - 1 = m + 1 by omega] at h1 ⊢
  refine ⟨⟨val (U.take m), ?_, ?_⟩, ⟨val (vs.take m), ?_, ?_⟩, p.small _ (List.getElem_mem _), hvs _ (List.getElem_mem _), h1, bp_pos _, p.lt⟩
  · have := val_lt (p.small.take m); rwa [List.length_take, Nat.min_eq_left (by omega)] at this
  · have e := val_split U m (by omega)
    have e2 : val (U.drop m) = U[m] + 1000000000 * (U[m + 1] + 1000000000 * U[m + 2]) := by
      rw [List.drop_eq_getElem_cons (show m < U.length by omega), List.drop_eq_getElem_cons (show m + 1 < U.length by omega), List.drop_eq_getElem_cons (show m + 1 + 1 < U.length by omega), List.drop_eq_nil_of_le (by omega)]
      simp [val]
    rw [e, e2, Nat.add_comm, Nat.mul_comm]
    congr 2; omega
  · have := val_lt (hvs.take m); rwa [List.length_take, Nat.min_eq_left (by omega)] at this
  · have e := val_split vs m (by omega)
    have e2 : val (vs.drop m) = vs[m] + 1000000000 * vs[m + 1] := by
      rw [List.drop_eq_getElem_cons (show m < vs.length by omega), List.drop_eq_getElem_cons (show m + 1 < vs.length by omega), List.drop_eq_nil_of_le (by omega)]
      simp [val]
    rw [← hV, e, e2, Nat.add_comm, Nat.mul_comm]
    congr 2; omega
/-- less said: not negative. -/
theorem place_less {U V d r : Nat} (hV : 0 < V) (hq : U / V ≤ d) (hle : d * V ≤ U) (hr : r = U - d * V) : d = U / V ∧ r = U % V := by
  have h1 : d ≤ U / V := (Nat.le_div_iff_mul_le hV).2 hle
  have h2 : d = U / V := by omega
  refine ⟨h2, ?_⟩
  have := Nat.div_add_mod U V
  rw [Nat.mul_comm, ← h2] at this
  omega
/-- less said: negative; and more has added. -/
theorem place_more {U V d r r' e M : Nat} (hV : 0 < V) (hstop : d * V ≤ U + V) (hlt : U < d * V) (hr : r + d * V = U + M) (hr' : r' + M * e = r + V) (hVM : V < M) (hrM : r' < M) : d - 1 = U / V ∧ r' = U % V := by
  have h1 : U / V < d := (Nat.div_lt_iff_lt_mul hV).2 hlt
  have hd0 : 0 < d := Nat.lt_of_le_of_lt (Nat.zero_le _) h1
  obtain ⟨c, rfl⟩ : ∃ c, d = c + 1 := ⟨d - 1, by omega⟩
  rw [Nat.succ_mul] at hstop hr
  have h2 : c ≤ U / V := (Nat.le_div_iff_mul_le hV).2 (by omega)
  have h3 : c = U / V := by omega
  rw [Nat.add_sub_cancel]
  refine ⟨h3, ?_⟩
  have h4 := Nat.div_add_mod U V
  rw [Nat.mul_comm, ← h3] at h4
  have h5 := Nat.mod_lt U hV
  have h6 : r' + M * e = U % V + M := by omega
  rcases Nat.lt_trichotomy e 1 with he | he | he
  · have : e = 0 := by omega
    subst this; omega
  · subst he; omega
  · have := Nat.mul_le_mul_left M (show 2 ≤ e by omega)
    omega
/-- The start. -/
theorem DivInv.start {a b f la n : Nat} {ru : List Nat} (hla : la = (dig a).length) (hn : n = (dig b).length) (hge : b ≤ a) (hb : b ≠ 0) (hf : 0 < f) (hl : ru.length = la + 1) (hs : Small ru) (hv : val ru = a * f) :
    DivInv (a * f) (b * f) la n (la + 1 - n) ru [] := by
  have hnl : n ≤ la := by rw [hla, hn]; exact dig_len_mono hge
  refine ⟨hl, hs, Small.nil, by simp, by rw [hv]; simp [val], ?_⟩
  have h1 := val_split ru (la + 1 - n) (by omega)
  apply Nat.lt_of_mul_lt_mul_left (a := bp (la + 1 - n))
  have h2 : a < bp la := by rw [hla]; exact dig_lt a
  have hnp : 0 < n := by rw [hn]; exact dig_len_pos hb
  have h3 : bp (n - 1) ≤ b := by
    have := norm_low (dig_norm b) (fun e => hb (dig_eq_nil.1 e))
    rwa [val_dig, ← hn] at this
  have h4 : bp la = bp (la + 1 - n) * bp (n - 1) := by rw [← bp_add]; congr 1; omega
  have h5 : bp (la + 1 - n) * bp (n - 1) ≤ bp (la + 1 - n) * b := Nat.mul_le_mul_left _ h3
  have h6 : a * f < bp (la + 1 - n) * b * f := Nat.mul_lt_mul_of_pos_right (by omega) hf
  rw [Nat.mul_assoc] at h6
  omega
/-- The end. -/
theorem DivInv.fin {a b f la n : Nat} {L qs : List Nat} (h : DivInv (a * f) (b * f) la n 0 L qs) (hf : 0 < f) : val qs = a / b ∧ val L = a % b * f := by
  have h1 := h.sum
  have h2 := h.high
  rw [List.drop_zero] at h2
  rw [bp_zero, Nat.mul_one] at h1
  have hbf : 0 < b * f := by omega
  have h3 : a * f / (b * f) = a / b := Nat.mul_div_mul_right a b hf
  have h4 : a * f % (b * f) = a % b * f := Nat.mul_mod_mul_right f a b
  constructor
  · rw [← h3, h1, Nat.mul_comm, Nat.mul_add_div hbf, Nat.div_eq_of_lt h2, Nat.add_zero]
  · rw [← h4, h1, Nat.mul_comm (val qs), Nat.mul_add_mod, Nat.mod_eq_of_lt h2]
/-- The factor makes no place more. -/
theorem factor_lt {b f n bt : Nat} (hn : n = (dig b).length) (hb : b ≠ 0) (hbt : bt = (dig b).getD (n - 1) 0) (hf : f = 1000000000 / (bt + 1)) : b * f < bp n ∧ 0 < f ∧ 0 < bt := by
  have hnp : 0 < n := by rw [hn]; exact dig_len_pos hb
  have hlt : n - 1 < (dig b).length := by omega
  rw [getD_get hlt] at hbt
  have hbs : bt < 1000000000 := by rw [hbt]; exact dig_small b _ (List.getElem_mem _)
  have e := val_split (dig b) (n - 1) (by omega)
  have e2 : (dig b).drop (n - 1) = [bt] := by rw [List.drop_eq_getElem_cons hlt, List.drop_eq_nil_of_le (by omega), hbt]
  rw [e2, val_dig] at e
  have e3 := val_lt ((dig_small b).take (n - 1))
  rw [List.length_take, Nat.min_eq_left (by omega)] at e3
  simp only [val, Nat.mul_zero, Nat.add_zero] at e
  have h1 : b < bp (n - 1) * (bt + 1) := by rw [Nat.mul_add]; omega
  have hfp : 0 < f := by rw [hf]; exact Nat.div_pos (by omega) (by omega)
  have h2 : (bt + 1) * f ≤ 1000000000 := by rw [hf]; exact Nat.mul_div_le _ _
  refine ⟨?_, hfp, ?_⟩
  · have h3 : b * f < bp (n - 1) * (bt + 1) * f := Nat.mul_lt_mul_of_pos_right h1 hfp
    rw [Nat.mul_assoc] at h3
    have h4 : bp (n - 1) * ((bt + 1) * f) ≤ bp (n - 1) * 1000000000 := Nat.mul_le_mul_left _ h2
    have h5 : bp n = 1000000000 * bp (n - 1) := by rw [← bp_succ]; congr 1; omega
    omega
  · have h6 := (dig_norm b).2
    rw [List.getLast?_eq_getElem?, ← hn, List.getElem?_eq_getElem hlt, ← hbt] at h6
    simp at h6; omega
/-- The divisor times the factor, without its highest place. -/
theorem factor_take {rv : List Nat} {n V : Nat} (hl : rv.length = n + 1) (hv : val rv = V) (hV : V < bp n) : val (rv.take n) = V := by
  have e := val_split rv n (by omega)
  rcases Nat.eq_zero_or_pos (val (rv.drop n)) with h0 | h0
  · rw [h0] at e; omega
  · have := Nat.le_mul_of_pos_right (bp n) h0; omega
theorem factor_top {vs : List Nat} {n b f : Nat} (hn : n = (dig b).length) (h2 : 2 ≤ n) (hb : b ≠ 0) (hf : 0 < f) (hl : vs.length = n) (hs : Small vs) (hv : val vs = b * f) : 0 < vs[n - 1]'(by omega) := by
  apply Nat.pos_of_ne_zero
  intro h0
  have e := val_split vs (n - 1) (by omega)
  have e2 : vs.drop (n - 1) = [vs[n - 1]'(by omega)] := by rw [List.drop_eq_getElem_cons (by omega), List.drop_eq_nil_of_le (by omega)]
  rw [e2, h0] at e
  have e3 := val_lt (hs.take (n - 1))
  rw [List.length_take, Nat.min_eq_left (by omega)] at e3
  simp only [val, Nat.mul_zero, Nat.add_zero] at e
  have h3 := norm_low (dig_norm b) (fun e => hb (dig_eq_nil.1 e))
  rw [val_dig, ← hn] at h3
  have := Nat.le_mul_of_pos_right b hf
  omega
theorem take_val {l : List Nat} {n : Nat} (h : n ≤ l.length) (hlt : val l < bp n) : val (l.take n) = val l := by
  have e := val_split l n h
  rcases Nat.eq_zero_or_pos (val (l.drop n)) with h0 | h0
  · rw [h0] at e; omega
  · have := Nat.le_mul_of_pos_right (bp n) h0; omega
theorem dv_bound {d v : Nat} (hd : d < 2000000000) (hv : v < 1000000000) : 0 ≤ (d : Int) * (v : Int) ∧ (d : Int) * (v : Int) ≤ 2000000000000000000 := by
  have h : d * v ≤ 2000000000 * v := Nat.mul_le_mul_right v (by omega)
  have e : (d : Int) * (v : Int) = ((d * v : Nat) : Int) := (Int.natCast_mul d v).symm
  rw [e]
  generalize d * v = z at *
  omega
theorem Place.at' {V n j i : Nat} {L U post : List Nat} (p : Place V n j L U post) (hi : i < n + 1) : at0 (ni L) (j + i) = (U.getD i 0 : Nat) := by
  rw [p.at (by rw [p.len]; exact hi), getD_get]
theorem Place.parts' {V n j : Nat} {L U post vs : List Nat} (p : Place V n j L U post) (hn : 2 ≤ n) (hv : vs.length = n) (hvs : Small vs) (hV : val vs = V) (h1 : 0 < vs.getD (n - 1) 0) :
    Parts (val U) V (bp (n - 2)) (U.getD n 0 * 1000000000 + U.getD (n - 1) 0) (U.getD (n - 2) 0) (vs.getD (n - 1) 0) (vs.getD (n - 2) 0) := by
  have hU := p.len
  rw [getD_get (show n - 1 < vs.length by omega)] at h1
  have := p.parts hn hv hvs hV h1
  rw [← getD_get, ← getD_get, ← getD_get, ← getD_get, ← getD_get] at this
  exact this
theorem factor_top' {vs : List Nat} {n b f : Nat} (hn : n = (dig b).length) (h2 : 2 ≤ n) (hb : b ≠ 0) (hf : 0 < f) (hl : vs.length = n) (hs : Small vs) (hv : val vs = b * f) : 0 < vs.getD (n - 1) 0 := by
  rw [getD_get (by omega)]; exact factor_top hn h2 hb hf hl hs hv
theorem getD_take {l : List Nat} {n i : Nat} (h : i < n) : (l.take n).getD i 0 = l.getD i 0 := by
  rw [List.getD_eq_getElem?_getD, List.getD_eq_getElem?_getD, List.getElem?_take, if_pos h]
end Go.Proofs.YtnbanlmkoljghaaGreatDoor
