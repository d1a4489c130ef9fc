/- Plain mathematics of decimal texts: numerals, their values, their pieces of nine digits; what Text, Parse and Int answer. No program in sight. -/
import Derived.Test.YtnbanlmkoljghaaGreatDoorDig
import Derived.Lib.ItoaNum
import Derived.Lib.AtoiAll
import Derived.Lib.Strings
namespace Go.Proofs.YtnbanlmkoljghaaGreatDoor.Dig
open Go.Lib

def IsDig (c : UInt8) : Prop := 48 ≤ c.toNat ∧ c.toNat ≤ 57
def AllDig (l : List UInt8) : Prop := ∀ c ∈ l, IsDig c
/-- The number of a decimal text. -/
def num (l : List UInt8) : Nat := l.foldl (fun a c => a * 10 + (c.toNat - 48)) 0

theorem AllDig.nil : AllDig [] := fun _ h => by cases h
theorem AllDig.cons {c : UInt8} {l : List UInt8} (h : IsDig c) (hl : AllDig l) : AllDig (c :: l) := fun x hx => by
  cases hx with
  | head => exact h
  | tail _ hx => exact hl x hx
theorem AllDig.append {l m : List UInt8} (h : AllDig l) (k : AllDig m) : AllDig (l ++ m) := fun x hx => by
  rcases List.mem_append.1 hx with hx | hx
  · exact h x hx
  · exact k x hx
theorem AllDig.take {l : List UInt8} (h : AllDig l) (n : Nat) : AllDig (l.take n) := fun x hx => h x (List.mem_of_mem_take hx)
theorem AllDig.drop {l : List UInt8} (h : AllDig l) (n : Nat) : AllDig (l.drop n) := fun x hx => h x (List.mem_of_mem_drop hx)
theorem AllDig.zeros (n : Nat) : AllDig (List.replicate n 48) := fun x hx => by rw [(List.mem_replicate.1 hx).2]; exact ⟨by decide, by decide⟩

theorem num_nil : num [] = 0 := rfl
theorem num_acc (l : List UInt8) : ∀ a, l.foldl (fun a c => a * 10 + (c.toNat - 48)) a = a * 10 ^ l.length + num l := by
  induction l with
  | nil => intro a; simp [num]
  | cons c l ih =>
    intro a
    unfold num
    rw [List.foldl_cons, List.foldl_cons, ih, ih, List.length_cons, Nat.pow_succ]
    simp only [Nat.add_mul, Nat.zero_mul, Nat.zero_add]
    rw [Nat.mul_assoc, Nat.mul_comm 10]
    omega
theorem num_append (l m : List UInt8) : num (l ++ m) = num l * 10 ^ m.length + num m := by
  show List.foldl _ 0 (l ++ m) = _
  rw [List.foldl_append, num_acc]; rfl
theorem num_cons (c : UInt8) (l : List UInt8) : num (c :: l) = (c.toNat - 48) * 10 ^ l.length + num l := by
  have h := num_append [c] l
  simpa [num] using h
theorem num_snoc (l : List UInt8) (c : UInt8) : num (l ++ [c]) = num l * 10 + (c.toNat - 48) := by
  rw [num_append]; simp [num]
theorem num_zeros (n : Nat) (l : List UInt8) : num (List.replicate n 48 ++ l) = num l := by
  induction n with
  | zero => rfl
  | succ n ih => rw [List.replicate_succ, List.cons_append, num_cons, ih]; simp
theorem num_lt {l : List UInt8} (h : AllDig l) : num l < 10 ^ l.length := by
  induction l with
  | nil => simp [num]
  | cons c l ih =>
    have h1 := ih (fun x hx => h x (List.mem_cons_of_mem _ hx))
    have h2 := (h c (List.mem_cons_self ..)).2
    have h3 : c.toNat - 48 ≤ 9 := by omega
    have h4 := Nat.mul_le_mul_right (10 ^ l.length) h3
    rw [num_cons, List.length_cons, Nat.pow_succ]
    omega
theorem num_pos {c : UInt8} {l : List UInt8} (h : IsDig c) (h0 : c ≠ 48) : 0 < num (c :: l) := by
  have h1 : c.toNat ≠ 48 := fun e => h0 (UInt8.toNat_inj.1 e)
  have h2 : 1 ≤ c.toNat - 48 := by have := h.1; omega
  have h3 := Nat.mul_le_mul_right (10 ^ l.length) h2
  have h4 : 0 < 10 ^ l.length := Nat.pow_pos (by omega)
  rw [num_cons]
  omega

theorem ofNat_dig {d : Nat} (h : d < 10) : (UInt8.ofNat (48 + d)).toNat = 48 + d := by
  rw [UInt8.toNat_ofNat']; omega
theorem dd_one {u : Nat} (h : u < 10) : decDigits u = [UInt8.ofNat (48 + u)] := by rw [decDigits, dif_pos h]
theorem dd_more {u : Nat} (h : ¬ u < 10) : decDigits u = decDigits (u / 10) ++ [UInt8.ofNat (48 + u % 10)] := by rw [decDigits, dif_neg h]
theorem dd_all (u : Nat) : AllDig (decDigits u) := by
  induction u using Nat.strongRecOn with
  | _ u ih =>
    by_cases h : u < 10
    · rw [dd_one h]; exact AllDig.cons ⟨by rw [ofNat_dig h]; omega, by rw [ofNat_dig h]; omega⟩ AllDig.nil
    · rw [dd_more h]
      have hm : u % 10 < 10 := Nat.mod_lt _ (by omega)
      exact (ih (u / 10) (by omega)).append (AllDig.cons ⟨by rw [ofNat_dig hm]; omega, by rw [ofNat_dig hm]; omega⟩ AllDig.nil)
theorem num_dd (u : Nat) : num (decDigits u) = u := by
  induction u using Nat.strongRecOn with
  | _ u ih =>
    by_cases h : u < 10
    · rw [dd_one h]; show 0 * 10 + _ = _; rw [ofNat_dig h]; omega
    · rw [dd_more h, num_snoc, ih (u / 10) (by omega), ofNat_dig (Nat.mod_lt _ (by omega))]; omega
theorem dd_inj {a b : Nat} (h : decDigits a = decDigits b) : a = b := by rw [← num_dd a, h, num_dd]
theorem dd_head {u : Nat} (h : u ≠ 0) : ∃ c r, decDigits u = c :: r ∧ c ≠ 48 := by
  induction u using Nat.strongRecOn with
  | _ u ih =>
    by_cases h1 : u < 10
    · refine ⟨_, [], dd_one h1, fun e => ?_⟩
      have := congrArg UInt8.toNat e
      rw [ofNat_dig h1] at this
      have h48 : (48 : UInt8).toNat = 48 := by decide
      omega
    · obtain ⟨c, r, e, hc⟩ := ih (u / 10) (by omega) (by omega)
      exact ⟨c, r ++ [UInt8.ofNat (48 + u % 10)], by rw [dd_more h1, e]; rfl, hc⟩
theorem dd_ne (u : Nat) : decDigits u ≠ [] := by
  intro h
  have := congrArg List.length h
  rw [decDigits_length] at this
  have := nDigits_pos u
  simp at *
  omega
theorem dd_zero : decDigits 0 = [48] := by rw [dd_one (by omega)]; rfl
/-- A text of digits without a leading 0 is the numeral of its number. -/
theorem dd_num : ∀ (n : Nat) (c : UInt8) (l : List UInt8), l.length = n → AllDig (c :: l) → c ≠ 48 → decDigits (num (c :: l)) = c :: l
  | 0, c, l, hn, ha, h0 => by
    obtain rfl := List.eq_nil_of_length_eq_zero hn
    have hc := ha c (List.mem_cons_self ..)
    have e : num [c] = c.toNat - 48 := by simp [num]
    have hlt : c.toNat - 48 < 10 := by have := hc.2; omega
    rw [e, dd_one hlt]
    congr 1
    apply UInt8.toNat_inj.1
    rw [ofNat_dig hlt]; have := hc.1; omega
  | n + 1, c, l, hn, ha, h0 => by
    obtain ⟨m, x, rfl⟩ : ∃ m x, l = m ++ [x] := ⟨l.dropLast, l.getLast (by intro e; rw [e] at hn; simp at hn), (List.dropLast_concat_getLast _).symm⟩
    have hm : AllDig (c :: m) := fun y hy => ha y (by rw [← List.cons_append]; exact List.mem_append_left _ hy)
    have hx := ha x (by rw [← List.cons_append]; exact List.mem_append_right _ (List.mem_singleton.2 rfl))
    have hp := num_pos (l := m) (hm c (List.mem_cons_self ..)) h0
    have ih := dd_num n c m (by simpa using hn) hm h0
    have hlt : x.toNat - 48 < 10 := by have := hx.2; omega
    rw [← List.cons_append, num_snoc, dd_more (by omega)]
    have h1 : (num (c :: m) * 10 + (x.toNat - 48)) / 10 = num (c :: m) := by omega
    have h2 : (num (c :: m) * 10 + (x.toNat - 48)) % 10 = x.toNat - 48 := by omega
    rw [h1, h2, ih]
    congr 2
    apply UInt8.toNat_inj.1
    rw [ofNat_dig hlt]; have := hx.1; omega
theorem dd_of {l : List UInt8} {c : UInt8} {r : List UInt8} (hl : l = c :: r) (ha : AllDig l) (h0 : c ≠ 48) {u : Nat} (hu : num l = u) : decDigits u = l := by
  subst hl; rw [← hu]; exact dd_num _ c r rfl ha h0

theorem nd_le {u k : Nat} (hk : 1 ≤ k) : nDigits u ≤ k ↔ u < 10 ^ k := by
  constructor
  · intro h
    exact Nat.lt_of_lt_of_le (lt_pow_nDigits u) (Nat.pow_le_pow_right (by omega) h)
  · intro h
    induction k generalizing u with
    | zero => omega
    | succ k ih =>
      by_cases h1 : u < 10
      · rw [nDigits_small h1]; omega
      · rw [nDigits_big h1]
        rcases Nat.eq_zero_or_pos k with rfl | hk0
        · simp at h; omega
        · have := ih (u := u / 10) (by omega) (by rw [Nat.pow_succ] at h; omega)
          omega
theorem dd_len9 {d : Nat} (h : d < 1000000000) : (decDigits d).length ≤ 9 := by
  rw [decDigits_length]; exact (nd_le (by omega)).2 h
theorem dd_len_pos (d : Nat) : 1 ≤ (decDigits d).length := by rw [decDigits_length]; exact nDigits_pos d
/-- Nine more digits. -/
theorem dd_pad {q d : Nat} (hq : q ≠ 0) (hd : d < 1000000000) : decDigits (d + 1000000000 * q) = decDigits q ++ (List.replicate (9 - (decDigits d).length) 48 ++ decDigits d) := by
  obtain ⟨c, r, e, hc⟩ := dd_head hq
  have hl : (List.replicate (9 - (decDigits d).length) (48 : UInt8) ++ decDigits d).length = 9 := by
    have := dd_len9 hd; simp; omega
  refine dd_of (c := c) (r := r ++ (List.replicate (9 - (decDigits d).length) 48 ++ decDigits d)) (by rw [e]; rfl) ((dd_all q).append ((AllDig.zeros _).append (dd_all d))) hc ?_
  rw [num_append, num_dd, hl, num_zeros, num_dd]
  omega
theorem bp_ten (n : Nat) : bp n = 10 ^ (9 * n) := by
  unfold bp; rw [Nat.pow_mul]
theorem dd_len_dig (n k : Nat) (hk : 1 ≤ k) : (decDigits n).length ≤ 9 * k ↔ (dig n).length ≤ k := by
  rw [decDigits_length, nd_le (by omega), dig_len_le, bp_ten]
/-- The text of the upper digits, one digit further down. -/
theorem text_step {l : List Nat} (h : Norm l) {k : Nat} (hk : k < l.length) : decDigits (val (l.drop k)) =
    if k + 1 = l.length then decDigits (l.getD k 0) else decDigits (val (l.drop (k + 1))) ++ (List.replicate (9 - (decDigits (l.getD k 0)).length) 48 ++ decDigits (l.getD k 0)) := by
  rw [List.drop_eq_getElem_cons hk, val_cons, getD_get hk]
  split
  · rename_i he
    rw [List.drop_eq_nil_of_le (by omega)]
    simp [val]
  · refine dd_pad ?_ (h.1 _ (List.getElem_mem hk))
    have hn : Norm (l.drop (k + 1)) := ⟨h.1.drop _, by
      rw [List.getLast?_drop, if_neg (by omega)]; exact h.2⟩
    have := norm_pos hn (fun e => by have := congrArg List.length e; simp at this; omega)
    omega

/-- A piece of the digits from below. -/
theorem dig_piece {t : List UInt8} (ha : AllDig t) {e : Nat} (he : e ≤ t.length) (hp : num (t.take e) ≠ 0) : dig (num (t.take e)) = num ((t.take e).drop (e - 9)) :: dig (num (t.take (e - 9))) := by
  have hs : num (t.take e) = num (t.take (e - 9)) * 10 ^ (e - (e - 9)) + num ((t.take e).drop (e - 9)) := by
    have h := num_append ((t.take e).take (e - 9)) ((t.take e).drop (e - 9))
    rw [List.take_append_drop, List.take_take, Nat.min_eq_left (by omega), List.length_drop, List.length_take, Nat.min_eq_left he] at h
    exact h
  have hlt := num_lt ((ha.take e).drop (e - 9))
  rw [List.length_drop, List.length_take, Nat.min_eq_left he] at hlt
  rw [dig_pos hp]
  by_cases h9 : 9 ≤ e
  · have e9 : e - (e - 9) = 9 := by omega
    rw [e9] at hs hlt
    have hlt' : num ((t.take e).drop (e - 9)) < 1000000000 := hlt
    have hs' : num (t.take e) = num (t.take (e - 9)) * 1000000000 + num ((t.take e).drop (e - 9)) := hs
    have h1 : num (t.take e) % 1000000000 = num ((t.take e).drop (e - 9)) := by omega
    have h2 : num (t.take e) / 1000000000 = num (t.take (e - 9)) := by omega
    rw [h1, h2]
  · have e0 : e - 9 = 0 := by omega
    rw [e0] at hs hlt ⊢
    simp only [List.take_zero, num_nil, Nat.zero_mul, Nat.zero_add, List.drop_zero, Nat.sub_zero] at hs hlt ⊢
    have hlt' : num (t.take e) < 1000000000 := Nat.lt_of_lt_of_le hlt (by
      have := Nat.pow_le_pow_right (show 0 < 10 by omega) (show e ≤ 9 by omega)
      exact this)
    rw [Nat.mod_eq_of_lt hlt', Nat.div_eq_of_lt hlt', dig_zero]

/-- The number of which a text is the text. -/
noncomputable def canon (s : List UInt8) : Option Int := open Classical in if h : ∃ z, itoa z = s then some h.choose else none
theorem itoa_pos {z : Int} (h : 0 ≤ z) : itoa z = decDigits z.natAbs := by unfold itoa; rw [if_neg (by omega), show z.toNat = z.natAbs by omega]
theorem itoa_min {z : Int} (h : z < 0) : itoa z = 45 :: decDigits z.natAbs := by unfold itoa; rw [if_pos h]
theorem not_dash (u : Nat) (r : List UInt8) : decDigits u ≠ 45 :: r := fun e => by
  have h := dd_all u 45 (by rw [e]; exact List.mem_cons_self ..)
  have := h.1
  revert this; decide
theorem itoa_inj {a b : Int} (h : itoa a = itoa b) : a = b := by
  by_cases ha : a < 0 <;> by_cases hb : b < 0
  · rw [itoa_min ha, itoa_min hb] at h
    have := dd_inj (List.cons.inj h).2
    omega
  · rw [itoa_min ha, itoa_pos (by omega)] at h
    exact absurd h.symm (not_dash _ _)
  · rw [itoa_pos (by omega), itoa_min hb] at h
    exact absurd h (not_dash _ _)
  · rw [itoa_pos (by omega), itoa_pos (by omega)] at h
    have := dd_inj h
    omega
theorem canon_itoa (z : Int) : canon (itoa z) = some z := by
  have h : ∃ y, itoa y = itoa z := ⟨z, rfl⟩
  unfold canon
  rw [dif_pos h, itoa_inj h.choose_spec]
theorem canon_of {s : List UInt8} {z : Int} (h : itoa z = s) : canon s = some z := by rw [← h, canon_itoa]
theorem canon_some {s : List UInt8} {z : Int} (h : canon s = some z) : itoa z = s := by
  unfold canon at h
  split at h
  · rename_i hx
    have := hx.choose_spec
    rw [Option.some.inj h] at this
    exact this
  · cases h
theorem canon_none {s : List UInt8} (h : ∀ z, itoa z ≠ s) : canon s = none := by
  unfold canon; rw [dif_neg (fun ⟨z, e⟩ => h z e)]

/-- A text without its leading '-'. -/
def bare (s : List UInt8) : List UInt8 := match s with | 45 :: r => r | s => s
theorem bare_dash (r : List UInt8) : bare (45 :: r) = r := rfl
theorem bare_other {c : UInt8} (r : List UInt8) (h : c ≠ 45) : bare (c :: r) = c :: r := by
  unfold bare; split
  · rename_i e; exact absurd (List.cons.inj e).1 h
  · rfl
theorem bare_itoa (z : Int) : bare (itoa z) = decDigits z.natAbs := by
  by_cases h : z < 0
  · rw [itoa_min h]; rfl
  · rw [itoa_pos (by omega)]
    obtain ⟨c, r, e⟩ : ∃ c r, decDigits z.natAbs = c :: r := by
      cases hx : decDigits z.natAbs with
      | nil => exact absurd hx (dd_ne _)
      | cons c r => exact ⟨c, r, rfl⟩
    rw [e]
    exact bare_other r (fun ec => not_dash z.natAbs r (by rw [e, ec]))
theorem canon_empty {s : List UInt8} (h : bare s = []) : canon s = none := canon_none fun z e => by
  rw [← e, bare_itoa] at h; exact dd_ne _ h
theorem canon_letter {s : List UInt8} (h : ¬ AllDig (bare s)) : canon s = none := canon_none fun z e => by
  rw [← e, bare_itoa] at h; exact h (dd_all _)
theorem canon_lead {s r : List UInt8} (h : bare s = 48 :: r) (h0 : s ≠ [48]) : canon s = none := canon_none fun z e => by
  rw [← e, bare_itoa] at h
  by_cases hz : z.natAbs = 0
  · apply h0
    rw [← e, show z = 0 by omega]
    exact dd_zero
  · obtain ⟨c, r', e', hc⟩ := dd_head hz
    rw [e'] at h
    exact hc (List.cons.inj h).1
theorem canon_zero : canon [48] = some 0 := canon_of (by rw [itoa_pos (by omega)]; exact dd_zero)
/-- A sign in front of a number. -/
def sgn (neg : Bool) (n : Nat) : Int := if neg then -(n : Int) else n
theorem canon_num {s r : List UInt8} {c : UInt8} (h : bare s = c :: r) (ha : AllDig (bare s)) (h0 : c ≠ 48) : canon s = some (sgn (decide (bare s ≠ s)) (num (bare s))) := by
  have hd := dd_of h ha h0 rfl
  have hp : 0 < num (bare s) := by rw [h]; exact num_pos (ha c (by rw [h]; exact List.mem_cons_self ..)) h0
  refine canon_of ?_
  by_cases hs : bare s = s
  · have : sgn (decide (bare s ≠ s)) (num (bare s)) = (num (bare s) : Int) := by simp [sgn, hs]
    rw [this, itoa_pos (by omega), Int.natAbs_natCast, hd, hs]
  · have : sgn (decide (bare s ≠ s)) (num (bare s)) = -(num (bare s) : Int) := by simp [sgn, hs]
    rw [this, itoa_min (by omega), Int.natAbs_neg, Int.natAbs_natCast, hd]
    unfold bare at hs ⊢
    split
    · rfl
    · rename_i h'; split at hs
      · rename_i r' ; exact absurd rfl (h' r')
      · exact absurd rfl hs

/-- What Parse answers. -/
noncomputable def parseZ (s : List UInt8) : Int × Int := match canon s with
  | none => (0, 5)
  | some z => if (dig z.natAbs).length ≤ 600 then (z, 0) else (0, 6)
theorem parseZ_none {s : List UInt8} (h : canon s = none) : parseZ s = (0, 5) := by unfold parseZ; rw [h]
theorem parseZ_some {s : List UInt8} {z : Int} (h : canon s = some z) (hl : (dig z.natAbs).length ≤ 600) : parseZ s = (z, 0) := by unfold parseZ; rw [h]; exact if_pos hl
theorem parseZ_long {s : List UInt8} {z : Int} (h : canon s = some z) (hl : ¬ (dig z.natAbs).length ≤ 600) : parseZ s = (0, 6) := by unfold parseZ; rw [h]; exact if_neg hl
/-- What Text answers. -/
def T1 : Option Int → List UInt8 × Int
  | some a => (itoa a, 0)
  | none => ([], 30)
/-- What Int answers. -/
def intZ (z : Int) : Int × Int := if -9223372036854775808 ≤ z ∧ z ≤ 9223372036854775807 then (z, 0) else (0, 6)

/-- Reading a decimal numeral. -/
theorem parse_all : ∀ (l : List UInt8) (acc : Nat), AllDig l → acc < 18446744073709551616 → parseUint10 acc l = if acc * 10 ^ l.length + num l < 18446744073709551616 then .ok (acc * 10 ^ l.length + num l) else .range
  | [], acc, _, hacc => by simp [parseUint10, num, hacc]
  | c :: r, acc, ha, hacc => by
    have hc := ha c (List.mem_cons_self ..)
    have hr : AllDig r := fun x hx => ha x (List.mem_cons_of_mem _ hx)
    have e : acc * 10 ^ (c :: r).length + num (c :: r) = (acc * 10 + (c.toNat - 48)) * 10 ^ r.length + num r := by
      rw [num_cons, List.length_cons, Nat.pow_succ, Nat.add_mul, Nat.mul_assoc acc 10, Nat.mul_comm 10]; omega
    have hp : 0 < 10 ^ r.length := Nat.pow_pos (by omega)
    rw [e, parseUint10, if_pos ⟨hc.1, hc.2⟩]
    by_cases h1 : 18446744073709551616 ≤ acc * 10 + (c.toNat - 48)
    · have h2 : 18446744073709551616 * 1 ≤ (acc * 10 + (c.toNat - 48)) * 10 ^ r.length := Nat.mul_le_mul h1 hp
      have h3 : ¬ ((acc * 10 + (c.toNat - 48)) * 10 ^ r.length + num r < 18446744073709551616) := by omega
      rw [if_neg h3]
      split
      · rfl
      · rfl
    · rw [if_neg (show ¬ 1844674407370955162 ≤ acc by omega), if_neg h1]
      exact parse_all r _ hr (by omega)
theorem mag_all {l : List UInt8} (h : l ≠ []) (ha : AllDig l) : parseMag l = if num l < 18446744073709551616 then .ok (num l) else .range := by
  unfold parseMag
  rw [if_neg h, parse_all l 0 ha (by omega)]
  simp
theorem atoi_dig {l : List UInt8} (h : l ≠ []) (ha : AllDig l) : atoiAll l = if num l < 9223372036854775808 then .ok (num l : Int) else .range := by
  cases l with
  | nil => exact absurd rfl h
  | cons c r =>
    have hc := ha c (List.mem_cons_self ..)
    have h1 : ¬ (c.toNat = 43 ∨ c.toNat = 45) := by have := hc.1; omega
    have h2 : ¬ c.toNat = 45 := by omega
    unfold atoiAll
    simp only [if_neg h1, mag_all h ha]
    by_cases h3 : num (c :: r) < 18446744073709551616
    · rw [if_pos h3]
      simp only [h2, not_false_eq_true, true_and, false_and, if_false]
      by_cases h4 : num (c :: r) < 9223372036854775808
      · rw [if_pos h4, if_neg (by omega)]
      · rw [if_neg h4, if_pos (by omega)]
    · rw [if_neg h3, if_neg (by omega)]
theorem atoi_itoa (z : Int) : atoiAll (itoa z) = if -9223372036854775808 ≤ z ∧ z ≤ 9223372036854775807 then .ok z else .range := by
  by_cases hz : z < 0
  · rw [itoa_min hz]
    unfold atoiAll
    have e45 : (45 : UInt8).toNat = 45 := by decide
    simp only [e45, or_true, if_true, mag_all (dd_ne _) (dd_all _), num_dd]
    by_cases h3 : z.natAbs < 18446744073709551616
    · rw [if_pos h3]
      simp only [not_true_eq_false, false_and, if_false, true_and]
      by_cases h4 : 9223372036854775808 < z.natAbs
      · rw [if_pos h4, if_neg (by omega)]
      · rw [if_neg h4, if_pos (by omega)]
        congr 1; omega
    · rw [if_neg h3, if_neg (by omega)]
  · rw [itoa_pos (by omega), atoi_dig (dd_ne _) (dd_all _), num_dd]
    by_cases h4 : z.natAbs < 9223372036854775808
    · rw [if_pos h4, if_pos (by omega)]; congr 1; omega
    · rw [if_neg h4, if_neg (by omega)]
end Go.Proofs.YtnbanlmkoljghaaGreatDoor.Dig
