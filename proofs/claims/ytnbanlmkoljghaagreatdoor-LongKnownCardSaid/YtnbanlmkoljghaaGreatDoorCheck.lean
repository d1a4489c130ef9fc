/- Long integers as values; long.Check. -/
import Derived.Test.YtnbanlmkoljghaaGreatDoorBase
import Derived.Test.YtnbanlmkoljghaaGreatDoorVal
import Derived.Test.YtnbanlmkoljghaaGreatDoorOne
import Derived.BigQuiet
import Derived.Deep.QuietTactic
namespace Go.Proofs.YtnbanlmkoljghaaGreatDoor
open Go Go.RowKit Dig

/-- v is a struct Long whose parts are neg and a slice that reads as ds. -/
def LR (w : World) (B : Nat) (v : Value) (neg : Bool) (ds : List Int) : Prop := ∃ s, v = .agg #[.bool neg, s] ∧ RI w B s ds
/-- v is the valid Long of the number z. -/
def LV (w : World) (B : Nat) (v : Value) (z : Int) : Prop := LR w B v (decide (z < 0)) (ni (dig z.natAbs))
structure Valid (neg : Bool) (ds : List Int) : Prop where
  len : ds.length ≤ 600
  small : ∀ j, j < ds.length → 0 ≤ at0 ds j ∧ at0 ds j < 1000000000
  top : 0 < ds.length → at0 ds (ds.length - 1) ≠ 0
  zero : ds.length = 0 → neg = false
section
variable {w w' : World} {B : Nat} {v : Value} {neg : Bool} {ds : List Int} {z : Int}
theorem LR.step (h : LR w w.heap.size v neg ds) (hb : Below w.heap.size w w') : LR w' w'.heap.size v neg ds := by
  obtain ⟨s, hv, hs⟩ := h
  exact ⟨s, hv, hs.step hb⟩
theorem LV.step (h : LV w w.heap.size v z) (hb : Below w.heap.size w w') : LV w' w'.heap.size v z := LR.step h hb
/-- A valid Long is that of a number. -/
theorem Valid.num (h : Valid neg ds) : ∃ z : Int, neg = decide (z < 0) ∧ ds = ni (dig z.natAbs) ∧ (dig z.natAbs).length ≤ 600 := by
  obtain ⟨r, hr, hrl, hrs, hrv⟩ := digits_of h.small
  have hn : Norm r := ⟨hrs, fun he => by
    have hp : 0 < r.length := by
      apply Nat.pos_of_ne_zero; intro h0
      rw [List.eq_nil_of_length_eq_zero h0] at he; simp at he
    have h1 := h.top (by omega)
    rw [hr, at0_ni] at h1
    rw [List.getLast?_eq_getElem?] at he
    rw [ni_length, List.getD_eq_getElem?_getD, he] at h1
    exact h1 rfl⟩
  have hd := dig_val hn
  have hl := h.len
  cases neg with
  | false => exact ⟨(val r : Int), by simp, by rw [Int.natAbs_natCast, hd]; exact hr, by rw [Int.natAbs_natCast, hd]; omega⟩
  | true =>
    have hp : val r ≠ 0 := by
      intro h0
      have h1 := (norm_zero hn).1 h0
      have := h.zero (by rw [← hrl, h1]; rfl)
      cases this
    exact ⟨-(val r : Int), by simp; omega, by rw [Int.natAbs_neg, Int.natAbs_natCast, hd]; exact hr, by rw [Int.natAbs_neg, Int.natAbs_natCast, hd]; omega⟩
theorem valid_num (h : (dig z.natAbs).length ≤ 600) : Valid (decide (z < 0)) (ni (dig z.natAbs)) := by
  refine ⟨by rw [ni_length]; exact h, fun j _ => at0_small (dig_small _) j, fun hp => ?_, fun h0 => ?_⟩
  · rw [ni_length] at hp ⊢
    rw [at0_ni]
    have h1 := (dig_norm z.natAbs).2
    rw [List.getLast?_eq_getElem?] at h1
    rw [List.getD_eq_getElem?_getD, List.getElem?_eq_getElem (by omega)] 
    rw [List.getElem?_eq_getElem (by omega)] at h1
    simp at h1 ⊢
    omega
  · rw [ni_length] at h0
    have := dig_eq_nil.1 (List.eq_nil_of_length_eq_zero h0)
    simp; omega
end

/-- The error 30 where the Long is not valid. -/
def CheckOf (neg : Bool) (ds : List Int) (c : Int) : Prop := (Valid neg ds ∧ c = 0) ∨ (¬ Valid neg ds ∧ c = 30)
theorem RI.at {w : World} {B : Nat} {v : Value} {l : List Int} (h : RI w B v l) : ∃ A c, v = .slice A l.length c ∧ l.length ≤ c ∧ c ≤ 9223372036854775807 ∧
    (0 < l.length → ∃ g off, A = some ⟨g, off, none⟩ ∧ g < B ∧ ∀ j, j < l.length → w.cell? ⟨g, off + j, none⟩ = some (.int .i64 (at0 l j))) := by
  obtain ⟨A, c, hv, hc, hm, h0⟩ := h
  refine ⟨A, c, hv, hc, hm, fun hp => ?_⟩
  obtain ⟨g, off, hA, hg, hx⟩ := h0 hp
  exact ⟨g, off, hA, hg, fun j hj => by rw [hx j hj, at0_get hj]⟩

set_option maxRecDepth 100000 in
set_option maxHeartbeats 2000000 in
theorem Check_any (w : World) (v : Value) (neg : Bool) (ds : List Int) (h : LR w w.heap.size v neg ds) :
    Calls Tryz.prog 54 #[v] w fun e w' => Below w.heap.size w w' ∧ ∃ c, e = .returned (.int .i64 c) ∧ CheckOf neg ds c := by
  obtain ⟨s, rfl, hs⟩ := h
  obtain ⟨A, c, rfl, hc, hc', hA⟩ := hs.at
  have hlen : ds.length ≤ 9223372036854775807 := by omega
  replace hA := Lib.hid hA
  clear hs
  have hb0 : Below w.heap.size w (w.alloc (.cells #[.bool neg, .slice A ds.length c] 24)) := (Below.refl _ _).alloc (Nat.le_refl _) _
  by_cases h6 : 600 < ds.length
  · go_enter Tryz.func54, Tryz.ntmps54
    go_wp2
    go_ret
    exact ⟨hb0, 30, rfl, .inr ⟨fun hv => by have := hv.len; omega, rfl⟩⟩
  · by_cases hz : ds.length = 0
    · have HZ := Lib.hid hz
      rw [hz]
      rw [hz] at hb0
      have HB := Lib.hid hb0
      clear hz hb0 h6 hc hlen
      cases neg with
      | true =>
        go_enter Tryz.func54, Tryz.ntmps54
        go_wp2
        go_ret
        exact ⟨HB.out, 30, rfl, .inr ⟨fun hv => absurd (hv.zero HZ.out) (by decide), rfl⟩⟩
      | false =>
        go_enter Tryz.func54, Tryz.ntmps54
        go_wp2
        go_loopw [35] (fun i wr => i = .int .i64 0 ∧ Below w.heap.size w wr) (fun _ _ => 0)
        case atStart => exact ⟨rfl, HB.out⟩
        case round =>
          obtain ⟨rfl, hbw⟩ := hrel
          go_wp2
          go_ret
          exact ⟨hbw, 0, rfl, .inl ⟨⟨by have := HZ.out; omega, fun j hj => by have := HZ.out; omega, fun hp => by have := HZ.out; omega, fun _ => rfl⟩, rfl⟩⟩
    · have hp : 0 < ds.length := by omega
      have h6' : (ds.length : Int) ≤ 600 := by omega
      have hp' : (0 : Int) < (ds.length : Int) := by omega
      obtain ⟨g, off, rfl, hg, hx⟩ := hA.out hp
      have hx1 := hx (ds.length - 1) (by omega)
      have hx1 := (hb0.cell (p := ⟨g, off + (ds.length - 1), none⟩) hg).trans hx1
      obtain ⟨t, ht⟩ : ∃ t, t = at0 ds (ds.length - 1) := ⟨_, rfl⟩
      rw [← ht] at hx1
      have HT := Lib.hid ht
      replace hx := Lib.hid hx
      have hnz : ((ds.length : Int) == 0) = false := by rw [beq_eq_false_iff_ne]; omega
      clear ht hz h6
      by_cases hlast : t = 0
      · subst hlast
        go_enter Tryz.func54, Tryz.ntmps54
        go_wp2
        go_ret
        exact ⟨hb0, 30, rfl, .inr ⟨fun hv => hv.top hp HT.out.symm, rfl⟩⟩
      · have hlast' : (t == 0) = false := by rw [beq_eq_false_iff_ne]; exact hlast
        have HL := Lib.hid hlast
        clear hlast
        go_enter Tryz.func54, Tryz.ntmps54
        go_wp2
        clear hx1 hlast' hnz
        go_loopw [35] (fun i wr => ∃ k : Nat, k ≤ ds.length ∧ i = .int .i64 k ∧ Hid (∀ j, j < k → 0 ≤ at0 ds j ∧ at0 ds j < 1000000000) ∧ Below w.heap.size w wr) (fun i _ => ds.length - (intOf i).toNat)
        case atStart => exact ⟨0, by omega, rfl, Lib.hid (fun j hj => absurd hj (by omega)), hb0⟩
        case round =>
          clear hb0
          obtain ⟨k, hk, rfl, hd, hbw⟩ := hrel
          by_cases hlk : k < ds.length
          · have h1 := (hbw.cell (p := ⟨g, off + k, none⟩) hg).trans (hx.out k hlk)
            obtain ⟨x, hx0⟩ : ∃ x, x = at0 ds k := ⟨_, rfl⟩
            rw [← hx0] at h1
            have HX0 := Lib.hid hx0
            clear hx0
            by_cases hneg : x < 0
            · go_wp2
              go_ret
              exact ⟨hbw, 30, rfl, .inr ⟨fun hv => by have := hv.small k hlk; rw [← HX0.out] at this; omega, rfl⟩⟩
            · by_cases hbig : 1000000000 ≤ x
              · go_wp2
                go_ret
                exact ⟨hbw, 30, rfl, .inr ⟨fun hv => by have := hv.small k hlk; rw [← HX0.out] at this; omega, rfl⟩⟩
              · have hneg' : 0 ≤ x := by omega
                have hbig' : x < 1000000000 := by omega
                clear hneg hbig
                go_wp2
                go_roundw
                case rel =>
                  refine ⟨k + 1, by omega, by go_num, Lib.hid (fun j hj => ?_), hbw⟩
                  rcases Nat.lt_or_ge j k with h | h
                  · exact hd.out j h
                  · obtain rfl : j = k := by omega
                    rw [← HX0.out]; exact ⟨hneg', hbig'⟩
                case measure => simp [intOf]; omega
          · obtain rfl : k = ds.length := by omega
            go_wp2
            go_ret
            exact ⟨hbw, 0, rfl, .inl ⟨⟨by omega, hd.out, fun _ => by rw [← HT.out]; exact HL.out, fun h0 => by omega⟩, rfl⟩⟩
end Go.Proofs.YtnbanlmkoljghaaGreatDoor
