/- Plain mathematics of decimal texts with places. No program in sight. -/
import Derived.Test.YtfklkphoplpebaaGreatDoorLow
namespace Go.Proofs.YtfklkphoplpebaaGreatDoor.Dig
open Go.Lib

theorem snoc_ind {α : Type} {P : List α → Prop} (h0 : P []) (h1 : ∀ l c, P l → P (l ++ [c])) (l : List α) : P l := by
  have h : ∀ m : List α, P m.reverse := fun m => by
    induction m with
    | nil => exact h0
    | cons c m ih => rw [List.reverse_cons]; exact h1 _ _ ih
  have h2 := h l.reverse
  rwa [List.reverse_reverse] at h2
/-- The lowest k digits of m, the highest one first. -/
def digs : Nat → Nat → List UInt8
  | 0, _ => []
  | k + 1, m => digs k (m / 10) ++ [UInt8.ofNat (48 + m % 10)]
theorem digs_len : ∀ (k m : Nat), (digs k m).length = k
  | 0, _ => rfl
  | k + 1, m => by rw [digs, List.length_append, digs_len k]; rfl
theorem digs_all : ∀ (k m : Nat), AllDig (digs k m)
  | 0, _ => AllDig.nil
  | k + 1, m => (digs_all k _).append (AllDig.cons (by have h := ofNat_dig (Nat.mod_lt m (show 10 > 0 by omega)); exact ⟨by rw [h]; omega, by rw [h]; have := Nat.mod_lt m (show 10 > 0 by omega); omega⟩) AllDig.nil)
theorem digs_num : ∀ (k m : Nat), num (digs k m) = m % 10 ^ k
  | 0, m => by rw [digs, num_nil, Nat.pow_zero, Nat.mod_one]
  | k + 1, m => by
    rw [digs, num_snoc, digs_num k, ofNat_dig (Nat.mod_lt m (show 10 > 0 by omega)), Nat.pow_succ, Nat.mul_comm (10 ^ k) 10, Nat.mod_mul]
    omega
theorem digs_split (a b m : Nat) : digs (a + b) m = digs a (m / 10 ^ b) ++ digs b m := by
  induction b generalizing m with
  | zero => simp [digs]
  | succ b ih =>
    rw [← Nat.add_assoc, digs, ih, digs, Nat.div_div_eq_div_mul, Nat.pow_succ, Nat.mul_comm 10, List.append_assoc]
theorem digs_zero : ∀ (k : Nat) {m : Nat}, m % 10 ^ k = 0 → digs k m = List.replicate k 48
  | 0, _, _ => rfl
  | k + 1, m, h => by
    rw [Nat.pow_succ, Nat.mul_comm, Nat.mod_mul] at h
    rw [digs, digs_zero k (m := m / 10) (by omega), show m % 10 = 0 by omega, List.replicate_succ']
    rfl
/-- A list of digits is the digits of its number. -/
theorem digs_of_num {l : List UInt8} (h : AllDig l) (q : Nat) : digs l.length (q * 10 ^ l.length + num l) = l := by
  revert h
  refine snoc_ind (P := fun l => AllDig l → digs l.length (q * 10 ^ l.length + num l) = l) (fun _ => rfl) ?_ l
  · intro l c ih h
    have hc := h c (by simp)
    have hl : AllDig l := fun x hx => h x (by simp [hx])
    rw [List.length_append, List.length_singleton, digs, num_snoc, Nat.pow_succ]
    have e : q * (10 ^ l.length * 10) + (num l * 10 + (c.toNat - 48)) = (q * 10 ^ l.length + num l) * 10 + (c.toNat - 48) := by
      rw [← Nat.mul_assoc, Nat.add_mul]; omega
    have hd : c.toNat - 48 < 10 := by have := hc.2; omega
    rw [e, show ((q * 10 ^ l.length + num l) * 10 + (c.toNat - 48)) / 10 = q * 10 ^ l.length + num l by omega, show ((q * 10 ^ l.length + num l) * 10 + (c.toNat - 48)) % 10 = c.toNat - 48 by omega, ih hl]
    congr 2
    apply UInt8.toNat_inj.1
    rw [ofNat_dig hd]; have := hc.1; omega
/-- The text of a size, with zeros in front of it up to d + 1 digits. -/
def pad (d m : Nat) : List UInt8 := List.replicate (d + 1 - (decDigits m).length) 48 ++ decDigits m
theorem pad_succ (d m : Nat) : pad (d + 1) m = pad d (m / 10) ++ [UInt8.ofNat (48 + m % 10)] := by
  unfold pad
  by_cases h : m < 10
  · rw [dd_one h, show m / 10 = 0 by omega, dd_zero, show m % 10 = m by omega]
    show List.replicate (d + 1 + 1 - 1) 48 ++ _ = (List.replicate (d + 1 - 1) 48 ++ [48]) ++ _
    rw [show d + 1 + 1 - 1 = (d + 1 - 1) + 1 by omega, List.replicate_succ']
  · rw [dd_more h, List.length_append, List.length_singleton, ← List.append_assoc, show d + 1 + 1 - ((decDigits (m / 10)).length + 1) = d + 1 - (decDigits (m / 10)).length by omega]
theorem pad_eq : ∀ (d m : Nat), pad d m = decDigits (m / 10 ^ d) ++ digs d m
  | 0, m => by
    have h := dd_len_pos m
    unfold pad
    rw [show 0 + 1 - (decDigits m).length = 0 by omega]
    simp [digs]
  | d + 1, m => by
    rw [pad_succ, pad_eq d, digs, Nat.div_div_eq_div_mul, Nat.pow_succ, Nat.mul_comm 10, List.append_assoc]
/-- Without the zeros at the end. -/
def trimZ (l : List UInt8) : List UInt8 := (l.reverse.dropWhile (· == 48)).reverse
theorem trimZ_nil : trimZ [] = [] := rfl
theorem trimZ_snoc (l : List UInt8) (c : UInt8) : trimZ (l ++ [c]) = if c = 48 then trimZ l else l ++ [c] := by
  unfold trimZ
  rw [List.reverse_append, List.reverse_singleton, List.singleton_append, List.dropWhile_cons]
  by_cases h : c = 48
  · rw [if_pos h, if_pos (by rw [h]; rfl)]
  · rw [if_neg h, if_neg (by simpa using h)]; simp
theorem trimZ_zeros (l : List UInt8) : ∀ k, trimZ (l ++ List.replicate k 48) = trimZ l
  | 0 => by simp
  | k + 1 => by rw [List.replicate_succ', ← List.append_assoc, trimZ_snoc, if_pos rfl, trimZ_zeros l k]
theorem trimZ_all {l : List UInt8} (h : AllDig l) : AllDig (trimZ l) := by
  intro c hc
  unfold trimZ at hc
  exact h c (by have := (List.dropWhile_sublist (fun x : UInt8 => x == 48) (l := l.reverse)).subset (List.mem_reverse.1 hc); simpa using this)
theorem trimZ_last (l : List UInt8) : trimZ l = [] ∨ ∃ m c, trimZ l = m ++ [c] ∧ c ≠ 48 := by
  refine snoc_ind (P := fun l => trimZ l = [] ∨ ∃ m c, trimZ l = m ++ [c] ∧ c ≠ 48) (.inl rfl) ?_ l
  · intro l c ih
    rw [trimZ_snoc]
    by_cases h : c = 48
    · rw [if_pos h]; exact ih
    · rw [if_neg h]; exact .inr ⟨l, c, rfl, h⟩
theorem trimZ_same {l : List UInt8} {c : UInt8} (h : c ≠ 48) : trimZ (l ++ [c]) = l ++ [c] := by rw [trimZ_snoc, if_neg h]
/-- The text of n / 10^d. -/
def frac (p : List UInt8) : List UInt8 := if p = [] then [] else 46 :: p
def sign (n : Int) : List UInt8 := if n < 0 then [45] else []
def decT (n : Int) (d : Nat) : List UInt8 := sign n ++ decDigits (n.natAbs / 10 ^ d) ++ frac (trimZ (digs d n.natAbs))

/-- One more place: what the reference's loop does. -/
theorem ten_step (m : Nat) {e : Nat} : m % 10 ^ (e + 1) / 10 ^ e = m / 10 ^ e % 10 := by
  rw [Nat.pow_succ, Nat.mod_mul_right_div_self]
theorem ten_rest (m e : Nat) : m % 10 ^ (e + 1) % 10 ^ e = m % 10 ^ e := Nat.mod_mod_of_dvd m ⟨10, Nat.pow_succ ..⟩
theorem digs_next (m i e : Nat) : digs (i + 1) (m / 10 ^ e) = digs i (m / 10 ^ (e + 1)) ++ [UInt8.ofNat (48 + m / 10 ^ e % 10)] := by
  rw [digs, Nat.div_div_eq_div_mul, Nat.pow_succ]
theorem trimZ_end {m d i e : Nat} (hd : d = i + 1 + e) (h0 : m % 10 ^ e = 0) (h1 : m % 10 ^ (e + 1) ≠ 0) : trimZ (digs d m) = digs (i + 1) (m / 10 ^ e) := by
  have hq : m / 10 ^ e % 10 ≠ 0 := by
    intro h
    apply h1
    rw [Nat.pow_succ, Nat.mod_mul, h0, h, Nat.mul_zero]
  rw [hd, digs_split, digs_zero e h0, trimZ_zeros, digs_next, trimZ_same]
  intro h
  have h2 := ofNat_dig (show m / 10 ^ e % 10 < 10 by omega)
  rw [h] at h2
  have h3 : (48 : UInt8).toNat = 48 := rfl
  omega
theorem trimZ_none {m d : Nat} (h0 : m % 10 ^ d = 0) : trimZ (digs d m) = [] := by
  rw [digs_zero d h0, show List.replicate d (48 : UInt8) = [] ++ List.replicate d 48 by simp, trimZ_zeros]; rfl
theorem trimZ_some {m d : Nat} (h0 : m % 10 ^ d ≠ 0) : trimZ (digs d m) ≠ [] := by
  intro h
  apply h0
  rw [← digs_num d m]
  have h2 : ∀ l : List UInt8, trimZ l = [] → num l = 0 := by
    intro l
    refine snoc_ind (P := fun l => trimZ l = [] → num l = 0) (fun _ => rfl) ?_ l
    intro l c ih hl
    rw [trimZ_snoc] at hl
    by_cases hc : c = 48
    · rw [if_pos hc] at hl; rw [num_snoc, ih hl, hc]; rfl
    · rw [if_neg hc] at hl; simp at hl
  exact h2 _ h

/-- A digit, as a test. -/
def isD (c : UInt8) : Bool := decide (48 ≤ c.toNat) && decide (c.toNat ≤ 57)
theorem isD_iff {c : UInt8} : isD c = true ↔ IsDig c := by simp [isD, IsDig]
/-- The digits of a text. -/
def fil (s : List UInt8) : List UInt8 := s.filter isD
/-- How many digits stand behind the first period. -/
def plc (s : List UInt8) : Nat := (fil (s.dropWhile (· != 46))).length
/-- The number that a text's digits write. -/
def numS (s : List UInt8) : Int := sgn (s.head? == some 45) (num (fil s))
/-- What Parse answers. -/
def decP (s : List UInt8) (d : Nat) : Int × Int :=
  if d < plc s then (0, 5) else if decT (numS s) (plc s) = s then intZ (numS s * (10 ^ (d - plc s) : Nat)) else (0, 5)
/-- The text of a decimal number: its sign, its whole part, its places. -/
structure Shp (s : List UInt8) (neg : Bool) (W P : List UInt8) : Prop where
  eq : s = (if neg then [45] else []) ++ W ++ frac P
  w : AllDig W
  p : AllDig P
  ne : W ≠ []
  lead : W.length = 1 ∨ W.head? ≠ some 48
  last : P = [] ∨ ∃ m c, P = m ++ [c] ∧ c ≠ 48
  zero : ¬ (neg = true ∧ W = [48] ∧ P = [])
theorem fil_all {l : List UInt8} (h : AllDig l) : fil l = l := List.filter_eq_self.2 fun c hc => isD_iff.2 (h c hc)
theorem fil_append (l m : List UInt8) : fil (l ++ m) = fil l ++ fil m := List.filter_append ..
theorem drop_dot {l m : List UInt8} (h : AllDig l) : (l ++ m).dropWhile (· != 46) = m.dropWhile (· != 46) := by
  induction l with
  | nil => rfl
  | cons c l ih =>
    have hc := h c (by simp)
    rw [List.cons_append, List.dropWhile_cons, if_pos]
    · exact ih fun x hx => h x (by simp [hx])
    · have : c ≠ 46 := fun e => by rw [e] at hc; exact absurd hc.1 (by decide)
      simpa using this
theorem drop_frac (P : List UInt8) : (frac P).dropWhile (· != 46) = frac P := by
  unfold frac
  by_cases h : P = []
  · rw [if_pos h]; rfl
  · rw [if_neg h, List.dropWhile_cons, if_neg (by decide)]
theorem fil_frac {P : List UInt8} (h : AllDig P) : fil (frac P) = P := by
  unfold frac
  by_cases hp : P = []
  · rw [if_pos hp, hp]; rfl
  · rw [if_neg hp]; show fil ([46] ++ P) = P
    rw [fil_append, fil_all h]; rfl
theorem plc_of {neg : Bool} {W P : List UInt8} (hW : AllDig W) (hP : AllDig P) : plc ((if neg then [45] else []) ++ W ++ frac P) = P.length := by
  have h1 : ∀ l : List UInt8, ((if neg then [45] else []) ++ l).dropWhile (· != 46) = l.dropWhile (· != 46) := by
    intro l; cases neg
    · rfl
    · show (45 :: l).dropWhile _ = _; rw [List.dropWhile_cons, if_pos (by decide)]
  unfold plc
  rw [List.append_assoc, h1, drop_dot hW, drop_frac, fil_frac hP]
theorem fil_of {neg : Bool} {W P : List UInt8} (hW : AllDig W) (hP : AllDig P) : fil ((if neg then [45] else []) ++ W ++ frac P) = W ++ P := by
  rw [List.append_assoc, fil_append, fil_append, fil_all hW, fil_frac hP]
  cases neg <;> rfl
theorem head_of {neg : Bool} {W P : List UInt8} (hW : AllDig W) (hn : W ≠ []) : (((if neg then [45] else []) ++ W ++ frac P).head? == some 45) = neg := by
  cases neg
  · cases W with
    | nil => exact absurd rfl hn
    | cons c r =>
      have hc := hW c (by simp)
      have : c ≠ 45 := fun e => by rw [e] at hc; exact absurd hc.1 (by decide)
      simpa using this
  · rfl
theorem trimZ_id {P : List UInt8} (h : P = [] ∨ ∃ m c, P = m ++ [c] ∧ c ≠ 48) : trimZ P = P := by
  rcases h with rfl | ⟨m, c, rfl, hc⟩
  · rfl
  · exact trimZ_same hc
theorem dd_canon {W : List UInt8} (hW : AllDig W) (hn : W ≠ []) (hl : W.length = 1 ∨ W.head? ≠ some 48) : decDigits (num W) = W := by
  cases W with
  | nil => exact absurd rfl hn
  | cons c r =>
    by_cases hc : c = 48
    · rcases hl with hl | hl
      · simp at hl; subst hl; subst hc; exact dd_zero
      · subst hc; simp at hl
    · exact dd_of rfl hW hc rfl
theorem div_pow_lt {a b n : Nat} (h : b < 10 ^ n) : (a * 10 ^ n + b) / 10 ^ n = a := by
  rw [Nat.mul_comm, Nat.mul_add_div (Nat.pow_pos (by omega)), Nat.div_eq_of_lt h]; rfl
theorem num_zero {l : List UInt8} (h : AllDig l) (h0 : num l = 0) : l = List.replicate l.length 48 := by
  have h1 := digs_of_num h 0
  rw [h0, Nat.zero_mul] at h1
  rw [← h1, digs_zero _ (Nat.zero_mod _), List.length_replicate]
theorem Shp.read {s : List UInt8} {neg : Bool} {W P : List UInt8} (h : Shp s neg W P) : plc s = P.length ∧ numS s = sgn neg (num (W ++ P)) ∧ decT (numS s) (plc s) = s := by
  obtain ⟨rfl, hW, hP, hn, hl, ht, hz⟩ := h
  have h1 := plc_of (neg := neg) hW hP
  have h2 : numS ((if neg then [45] else []) ++ W ++ frac P) = sgn neg (num (W ++ P)) := by
    unfold numS; rw [head_of hW hn, fil_of hW hP]
  refine ⟨h1, h2, ?_⟩
  rw [h1, h2]
  have hs : sign (sgn neg (num (W ++ P))) = if neg then [45] else [] := by
    unfold sign sgn
    cases neg
    · rw [if_neg (by simp)]; rfl
    · rw [if_pos]
      · rfl
      · have hpos : num (W ++ P) ≠ 0 := by
          intro h0
          apply hz
          have hz0 := num_zero (hW.append hP) h0
          have hWz : ∀ c ∈ W, c = 48 := fun c hc => (List.mem_replicate.1 (hz0 ▸ List.mem_append_left P hc)).2
          have hPz : ∀ c ∈ P, c = 48 := fun c hc => (List.mem_replicate.1 (hz0 ▸ List.mem_append_right W hc)).2
          refine ⟨rfl, ?_, ?_⟩
          · rcases hl with hl | hl
            · cases W with
              | nil => exact absurd rfl hn
              | cons c r => simp at hl; subst hl; rw [hWz c (by simp)]
            · cases W with
              | nil => exact absurd rfl hn
              | cons c r => rw [hWz c (by simp)] at hl; simp at hl
          · rcases ht with ht | ⟨m, c, rfl, hc⟩
            · exact ht
            · exact absurd (hPz c (by simp)) hc
        simp; omega
  unfold decT
  have ha : (sgn neg (num (W ++ P))).natAbs = num W * 10 ^ P.length + num P := by
    rw [← num_append]; unfold sgn; cases neg <;> simp
  rw [hs, ha, div_pow_lt (num_lt hP), dd_canon hW hn hl, digs_of_num hP, trimZ_id ht]
theorem digs_add (k q r : Nat) : digs k (q * 10 ^ k + r) = digs k r := by
  induction k generalizing q r with
  | zero => rfl
  | succ k ih =>
    rw [digs, digs, Nat.pow_succ, ← Nat.mul_assoc]
    rw [show (q * 10 ^ k * 10 + r) / 10 = q * 10 ^ k + r / 10 by omega, show (q * 10 ^ k * 10 + r) % 10 = r % 10 by omega, ih]
theorem Shp.of {s : List UInt8} (h : decT (numS s) (plc s) = s) : ∃ neg W P, Shp s neg W P := by
  obtain ⟨n, hn⟩ : ∃ n, n = numS s := ⟨_, rfl⟩
  obtain ⟨p, hp⟩ : ∃ p, p = plc s := ⟨_, rfl⟩
  rw [← hn, ← hp] at h
  have hd := dd_all (n.natAbs / 10 ^ p)
  refine ⟨decide (n < 0), decDigits (n.natAbs / 10 ^ p), trimZ (digs p n.natAbs), ?_, hd, trimZ_all (digs_all _ _), dd_ne _, ?_, trimZ_last _, ?_⟩
  · rw [← h]; unfold decT sign
    by_cases h0 : n < 0
    · rw [if_pos h0, if_pos (by simpa using h0)]
    · rw [if_neg h0, if_neg (by simpa using h0)]
  · by_cases h0 : n.natAbs / 10 ^ p = 0
    · rw [h0, dd_zero]; exact .inl rfl
    · obtain ⟨c, r, e, hc⟩ := dd_head h0
      rw [e]; right; simpa using hc
  · rintro ⟨h1, h2, h3⟩
    have h1 : n < 0 := by simpa using h1
    have h4 : n.natAbs / 10 ^ p = 0 := by
      apply dd_inj; rw [h2, dd_zero]
    have h5 : n.natAbs % 10 ^ p = 0 := by
      rcases Nat.eq_zero_or_pos (n.natAbs % 10 ^ p) with h6 | h6
      · exact h6
      · exact absurd h3 (trimZ_some (by omega))
    have h6 := Nat.div_add_mod n.natAbs (10 ^ p)
    rw [h4, h5] at h6
    omega

/-- One more place and one more digit 0: the same text. -/
theorem decT_ten (n : Int) (d : Nat) : decT (n * 10) (d + 1) = decT n d := by
  have h1 : (n * 10).natAbs = n.natAbs * 10 := by rw [Int.natAbs_mul]; rfl
  have h2 : sign (n * 10) = sign n := by
    unfold sign
    by_cases h : n < 0
    · rw [if_pos h, if_pos (by omega)]
    · rw [if_neg h, if_neg (by omega)]
  unfold decT
  rw [h1, h2, digs, Nat.pow_succ, Nat.mul_div_mul_right _ _ (by omega : 0 < 10), Nat.mul_div_cancel _ (by omega : 0 < 10), Nat.mul_mod_left, trimZ_snoc, if_pos (show UInt8.ofNat (48 + 0) = 48 from rfl)]
theorem decT_up (n : Int) (d : Nat) : ∀ k : Nat, decT (n * (10 ^ k : Nat)) (d + k) = decT n d
  | 0 => by simp
  | k + 1 => by
    rw [show n * ((10 ^ (k + 1) : Nat) : Int) = n * ((10 ^ k : Nat) : Int) * 10 by rw [Nat.pow_succ]; simp [Int.mul_assoc], ← Nat.add_assoc, decT_ten, decT_up n d k]
/-- The shape of a text, as a test. -/
def shpB (s : List UInt8) : Bool :=
  let t := bare s
  let W := t.takeWhile isD
  let r := t.dropWhile isD
  !W.isEmpty && (W.length == 1 || W.head? != some 48) && (r.isEmpty || (r.head? == some 46 && !(r.drop 1).isEmpty && (r.drop 1).all isD && (r.drop 1).getLast? != some 48)) && s != [45, 48]
theorem bare_sign {neg : Bool} {l : List UInt8} (h : l.head? ≠ some 45) : bare ((if neg then [45] else []) ++ l) = l := by
  cases neg
  · cases l with
    | nil => rfl
    | cons c r => exact bare_other r (by simpa using h)
  · rfl
theorem all_isD {l : List UInt8} : l.all isD = true ↔ AllDig l := by
  rw [List.all_eq_true]; exact ⟨fun h c hc => isD_iff.1 (h c hc), fun h c hc => isD_iff.2 (h c hc)⟩
theorem take_isD {W m : List UInt8} (h : AllDig W) (hm : m = [] ∨ ∃ c r, m = c :: r ∧ isD c = false) : (W ++ m).takeWhile isD = W ∧ (W ++ m).dropWhile isD = m := by
  induction W with
  | nil =>
    rcases hm with rfl | ⟨c, r, rfl, hc⟩
    · exact ⟨rfl, rfl⟩
    · exact ⟨by simp [hc], by simp [hc]⟩
  | cons c W ih =>
    have hc := isD_iff.2 (h c (by simp))
    have h2 := ih fun x hx => h x (by simp [hx])
    rw [List.cons_append, List.takeWhile_cons, List.dropWhile_cons, if_pos hc, if_pos hc, h2.1, h2.2]
    exact ⟨rfl, rfl⟩
theorem Shp.bool {s : List UInt8} {neg : Bool} {W P : List UInt8} (h : Shp s neg W P) : shpB s = true := by
  obtain ⟨rfl, hW, hP, hn, hl, ht, hz⟩ := h
  obtain ⟨c, r, rfl⟩ : ∃ c r, W = c :: r := by
    cases W with
    | nil => exact absurd rfl hn
    | cons c r => exact ⟨c, r, rfl⟩
  have hc45 : c ≠ 45 := fun e => by have := hW c (by simp); rw [e] at this; exact absurd this.1 (by decide)
  have hb : bare ((if neg then [45] else []) ++ (c :: r) ++ frac P) = (c :: r) ++ frac P := by
    rw [List.append_assoc]; exact bare_sign (by simpa using hc45)
  have hf : frac P = [] ∨ ∃ x m, frac P = x :: m ∧ isD x = false := by
    unfold frac
    by_cases hp : P = []
    · rw [if_pos hp]; exact .inl rfl
    · rw [if_neg hp]; exact .inr ⟨46, P, rfl, rfl⟩
  obtain ⟨h1, h2⟩ := take_isD hW hf
  unfold shpB
  simp only [hb, h1, h2]
  have hA : (!(c :: r).isEmpty) = true := rfl
  have hB : ((c :: r).length == 1 || (c :: r).head? != some 48) = true := by
    rcases hl with h | h
    · simp [h]
    · simp at h; simp [h]
  have hC : ((frac P).isEmpty || ((frac P).head? == some 46 && !((frac P).drop 1).isEmpty && ((frac P).drop 1).all isD && ((frac P).drop 1).getLast? != some 48)) = true := by
    rcases ht with rfl | ⟨m, x, rfl, hx⟩
    · rfl
    · have e : frac (m ++ [x]) = 46 :: (m ++ [x]) := by unfold frac; rw [if_neg (by simp)]
      rw [e]
      simp only [List.drop_succ_cons, List.drop_zero, all_isD.2 hP]
      simp [hx]
  have hD : ((if neg then [45] else []) ++ (c :: r) ++ frac P != [45, 48]) = true := by
    rw [bne_iff_ne]
    intro e
    apply hz
    cases neg
    · simp at e; exact absurd e.1 hc45
    · simp at e
      obtain ⟨rfl, e2, e3⟩ := e
      refine ⟨rfl, by rw [e2], ?_⟩
      by_cases hp : P = []
      · exact hp
      · unfold frac at e3; rw [if_neg hp] at e3; cases e3
  rw [hA, hB, hC, hD]; rfl
theorem bare_split (s : List UInt8) : ∃ neg : Bool, s = (if neg then [45] else []) ++ bare s := by
  cases s with
  | nil => exact ⟨false, rfl⟩
  | cons c r =>
    by_cases h : c = 45
    · subst h; exact ⟨true, rfl⟩
    · exact ⟨false, by rw [bare_other r h]; rfl⟩
theorem takeWhile_all (l : List UInt8) : AllDig (l.takeWhile isD) := fun c hc => isD_iff.1 (List.all_eq_true.1 (List.all_takeWhile (p := isD) (l := l)) c hc)
theorem Shp.of_bool {s : List UInt8} (h : shpB s = true) : ∃ neg W P, Shp s neg W P := by
  unfold shpB at h
  simp only [Bool.and_eq_true, Bool.or_eq_true] at h
  obtain ⟨⟨⟨h1, h2⟩, h3⟩, h4⟩ := h
  obtain ⟨neg, hs⟩ := bare_split s
  have hW := takeWhile_all (bare s)
  have hsp := List.takeWhile_append_dropWhile (p := isD) (l := bare s)
  have hn : (bare s).takeWhile isD ≠ [] := by
    intro e; rw [e] at h1; cases h1
  have hl : ((bare s).takeWhile isD).length = 1 ∨ ((bare s).takeWhile isD).head? ≠ some 48 := by
    rcases h2 with h | h
    · exact .inl (by simpa using h)
    · exact .inr (by simpa using h)
  rcases h3 with h3 | h3
  · have e : (bare s).dropWhile isD = [] := by simpa using h3
    refine ⟨neg, (bare s).takeWhile isD, [], ⟨?_, hW, AllDig.nil, hn, hl, .inl rfl, ?_⟩⟩
    · rw [e, List.append_nil] at hsp
      rw [hsp]; unfold frac; rw [if_pos rfl, List.append_nil]; exact hs
    · rintro ⟨rfl, e2, -⟩
      rw [e, List.append_nil] at hsp
      rw [hsp] at e2
      rw [e2] at hs
      rw [hs] at h4
      exact absurd h4 (by decide)
  · obtain ⟨⟨⟨h5, h6⟩, h7⟩, h8⟩ := h3
    obtain ⟨x, P, e⟩ : ∃ x P, (bare s).dropWhile isD = x :: P := by
      cases hd : (bare s).dropWhile isD with
      | nil => rw [hd] at h5; cases h5
      | cons x P => exact ⟨x, P, rfl⟩
    rw [e] at h5 h6 h7 h8 hsp
    simp only [List.drop_succ_cons, List.drop_zero] at h6 h7 h8
    have hx : x = 46 := by simpa using h5
    subst hx
    have hpn : P ≠ [] := by intro e2; rw [e2] at h6; cases h6
    refine ⟨neg, (bare s).takeWhile isD, P, ⟨?_, hW, all_isD.1 h7, hn, hl, .inr ?_, fun hz => hpn hz.2.2⟩⟩
    · unfold frac; rw [if_neg hpn, List.append_assoc, hsp]; exact hs
    · rcases List.eq_nil_or_concat P with e2 | ⟨m, c, e2⟩
      · exact absurd e2 hpn
      · rw [List.concat_eq_append] at e2
        refine ⟨m, c, e2, ?_⟩
        rw [e2] at h8
        intro hc
        rw [hc] at h8
        simp at h8
theorem shp_iff (s : List UInt8) : shpB s = true ↔ decT (numS s) (plc s) = s :=
  ⟨fun h => by obtain ⟨_, _, _, h⟩ := Shp.of_bool h; exact h.read.2.2, fun h => by obtain ⟨_, _, _, h⟩ := Shp.of h; exact h.bool⟩
/-- What Parse answers, reckoned. -/
theorem decP_eq (s : List UInt8) (d : Nat) : decP s d = if d < plc s then (0, 5) else if shpB s then intZ (numS s * (10 ^ (d - plc s) : Nat)) else (0, 5) := by
  unfold decP
  by_cases h : d < plc s
  · rw [if_pos h, if_pos h]
  · rw [if_neg h, if_neg h]
    by_cases h2 : shpB s = true
    · rw [if_pos h2, if_pos ((shp_iff s).1 h2)]
    · rw [if_neg h2, if_neg fun h3 => h2 ((shp_iff s).2 h3)]
/-- A text's number and places give the text. -/
theorem decT_lit {n : Int} {d : Nat} {s : List UInt8} (k : Nat) (h : (shpB s && decide (plc s + k = d) && decide (numS s * (10 ^ k : Nat) = n)) = true) : decT n d = s := by
  simp only [Bool.and_eq_true, decide_eq_true_eq] at h
  obtain ⟨⟨h1, h2⟩, h3⟩ := h
  rw [← h2, ← h3, decT_up]
  exact (shp_iff s).1 h1
/-- Any text of a number has a shape. -/
theorem decT_shp (n : Int) (d : Nat) : ∃ k, k ≤ d ∧ plc (decT n d) + k = d ∧ numS (decT n d) * (10 ^ k : Nat) = n ∧ shpB (decT n d) = true := by
  have hP := trimZ_all (digs_all d n.natAbs)
  have hW := dd_all (n.natAbs / 10 ^ d)
  obtain ⟨neg, hneg⟩ : ∃ b : Bool, b = decide (n < 0) := ⟨_, rfl⟩
  have hsg : sign n = if neg then [45] else [] := by
    unfold sign; rw [hneg]
    by_cases h : n < 0
    · rw [if_pos h, if_pos (by simpa using h)]
    · rw [if_neg h, if_neg (by simpa using h)]
  have hz : trimZ (digs d n.natAbs) = [] ↔ n.natAbs % 10 ^ d = 0 := by
    constructor
    · intro h
      rcases Nat.eq_zero_or_pos (n.natAbs % 10 ^ d) with h6 | h6
      · exact h6
      · exact absurd h (trimZ_some (by omega))
    · exact trimZ_none
  have hs : Shp (decT n d) neg (decDigits (n.natAbs / 10 ^ d)) (trimZ (digs d n.natAbs)) := by
    refine ⟨by unfold decT; rw [hsg], hW, hP, dd_ne _, ?_, trimZ_last _, ?_⟩
    · by_cases h0 : n.natAbs / 10 ^ d = 0
      · rw [h0, dd_zero]; exact .inl rfl
      · obtain ⟨c, r, e, hc⟩ := dd_head h0
        rw [e]; right; simpa using hc
    · rintro ⟨h1, h2, h3⟩
      rw [hneg] at h1
      have h1 : n < 0 := by simpa using h1
      have h4 : n.natAbs / 10 ^ d = 0 := by apply dd_inj; rw [h2, dd_zero]
      have h6 := Nat.div_add_mod n.natAbs (10 ^ d)
      rw [h4, hz.1 h3] at h6
      omega
  obtain ⟨h1, h2, h3⟩ := hs.read
  -- the places that were cut off
  have hcut : ∀ l : List UInt8, ∃ k, trimZ l ++ List.replicate k 48 = l := by
    intro l
    refine snoc_ind (P := fun l => ∃ k, trimZ l ++ List.replicate k 48 = l) ⟨0, rfl⟩ ?_ l
    intro l c ⟨k, ih⟩
    rw [trimZ_snoc]
    by_cases hc : c = 48
    · rw [if_pos hc, hc]; exact ⟨k + 1, by rw [List.replicate_succ', ← List.append_assoc, ih]⟩
    · rw [if_neg hc]; exact ⟨0, by simp⟩
  obtain ⟨k, hk⟩ := hcut (digs d n.natAbs)
  have hlen : (trimZ (digs d n.natAbs)).length + k = d := by
    have := congrArg List.length hk
    rwa [List.length_append, List.length_replicate, digs_len] at this
  refine ⟨k, by omega, by rw [h1]; exact hlen, ?_, hs.bool⟩
  have hnum : num (decDigits (n.natAbs / 10 ^ d) ++ trimZ (digs d n.natAbs)) * 10 ^ k = n.natAbs := by
    have e : num (decDigits (n.natAbs / 10 ^ d) ++ trimZ (digs d n.natAbs) ++ List.replicate k 48) = n.natAbs := by
      rw [List.append_assoc, hk, num_append, num_dd, digs_num, digs_len, Nat.mul_comm]
      exact Nat.div_add_mod _ _
    rw [num_append, List.length_replicate] at e
    have e0 : num (List.replicate k (48 : UInt8)) = 0 := by have := num_zeros k []; rwa [List.append_nil] at this
    rw [e0] at e
    exact e
  rw [h2]
  unfold sgn
  cases neg
  · have h : ¬ n < 0 := by simpa using hneg.symm
    simp only [Bool.false_eq_true, if_false]
    rw [← Int.natCast_mul, hnum]; omega
  · have h : n < 0 := by simpa using hneg.symm
    simp only [if_true]
    rw [Int.neg_mul, ← Int.natCast_mul, hnum]; omega
end Go.Proofs.YtfklkphoplpebaaGreatDoor.Dig
