/- The reference's Right; slices.Equal; Same of the program and of the reference. -/
import Derived.Test.YtnbanlmkoljghaaGreatDoorCheck
namespace Go.Proofs.YtnbanlmkoljghaaGreatDoor
open Go Go.RowKit Dig

/-- A bool of which P holds is returned. (A definition of its own: the walk takes an ∃ over a bool apart.) -/
def RetB (P : Bool → Prop) (e : Ending) : Prop := ∃ b, e = .returned (.bool b) ∧ P b
def RightOf (neg : Bool) (ds : List Int) (b : Bool) : Prop := (Valid neg ds ∧ b = true) ∨ (¬ Valid neg ds ∧ b = false)

set_option maxRecDepth 100000 in
set_option maxHeartbeats 2000000 in
theorem Right_any (w : World) (v : Value) (neg : Bool) (ds : List Int) (h : LR w w.heap.size v neg ds) :
    Calls Tryz.prog 65 #[v] w fun e w' => Below w.heap.size w w' ∧ RetB (RightOf neg ds) e := by
  obtain ⟨s, rfl, hs⟩ := h
  obtain ⟨A, c, rfl, hc, hc', hA⟩ := hs.at
  have hlen : ds.length ≤ 9223372036854775807 := by omega
  replace hA := Lib.hid hA
  clear hs
  have hb0 : Below w.heap.size w (w.alloc (.cells #[.bool neg, .slice A ds.length c] 24)) := (Below.refl _ _).alloc (Nat.le_refl _) _
  by_cases hz : ds.length = 0
  · have HZ := Lib.hid hz
    rw [hz]
    rw [hz] at hb0
    have HB := Lib.hid hb0
    clear hz hb0 hc hlen
    go_enter Tryz.func65, Tryz.ntmps65
    go_wp2
    go_ret
    refine ⟨HB.out, !neg, rfl, ?_⟩
    cases neg with
    | true => exact .inr ⟨fun hv => absurd (hv.zero HZ.out) (by decide), rfl⟩
    | false => exact .inl ⟨⟨by have := HZ.out; omega, fun j hj => by have := HZ.out; omega, fun hp => by have := HZ.out; omega, fun _ => rfl⟩, rfl⟩
  · have hp : 0 < ds.length := by omega
    have hnz : ((ds.length : Int) == 0) = false := by rw [beq_eq_false_iff_ne]; omega
    obtain ⟨g, off, rfl, hg, hx⟩ := hA.out hp
    replace hx := Lib.hid hx
    have HB := Lib.hid hb0
    clear hz hb0
    go_enter Tryz.func65, Tryz.ntmps65
    go_wp2
    go_loop [3] (fun i => ∃ k : Nat, k ≤ ds.length ∧ i = .int .i64 k ∧ Hid (∀ j, j < k → 0 ≤ at0 ds j ∧ at0 ds j < 1000000000)) (fun i => ds.length - (intOf i).toNat)
    case atStart => exact ⟨0, by omega, rfl, Lib.hid (fun j hj => absurd hj (by omega))⟩
    case round =>
      obtain ⟨k, hk, rfl, hd⟩ := hrel
      by_cases hlk : k < ds.length
      · have h1 := (HB.out.cell (p := ⟨g, off + k, none⟩) hg).trans (hx.out k hlk)
        obtain ⟨x, hx0⟩ : ∃ x, x = at0 ds k := ⟨_, rfl⟩
        rw [← hx0] at h1
        have HX0 := Lib.hid hx0
        clear hx0
        by_cases hneg : x < 0
        · go_wp2
          go_ret
          exact ⟨HB.out, false, rfl, .inr ⟨fun hv => by have := hv.small k hlk; rw [← HX0.out] at this; omega, rfl⟩⟩
        · by_cases hbig : 1000000000 ≤ x
          · go_wp2
            go_ret
            exact ⟨HB.out, false, rfl, .inr ⟨fun hv => by have := hv.small k hlk; rw [← HX0.out] at this; omega, rfl⟩⟩
          · have hneg' : 0 ≤ x := by omega
            have hbig' : x < 1000000000 := by omega
            clear hneg hbig
            go_wp2
            go_round
            case rel =>
              refine ⟨k + 1, by omega, by go_num, Lib.hid (fun j hj => ?_)⟩
              rcases Nat.lt_or_ge j k with h | h
              · exact hd.out j h
              · obtain rfl : j = k := by omega
                rw [← HX0.out]; exact ⟨hneg', hbig'⟩
            case measure => simp [intOf]; omega
      · obtain rfl : k = ds.length := by omega
        have h1 := (HB.out.cell (p := ⟨g, off + (ds.length - 1), none⟩) hg).trans (hx.out (ds.length - 1) (by omega))
        obtain ⟨t, ht⟩ : ∃ t, t = at0 ds (ds.length - 1) := ⟨_, rfl⟩
        rw [← ht] at h1
        have HT := Lib.hid ht
        clear ht
        by_cases h6 : ds.length ≤ 600
        · by_cases ht0 : t = 0
          · subst ht0
            go_wp2
            go_ret
            exact ⟨HB.out, false, rfl, .inr ⟨fun hv => hv.top hp HT.out.symm, rfl⟩⟩
          · have ht1 : (t != 0) = true := by rw [bne_iff_ne]; exact ht0
            have HT0 := Lib.hid ht0
            clear ht0
            go_wp2
            go_ret
            exact ⟨HB.out, true, rfl, .inl ⟨⟨h6, hd.out, fun _ => by rw [← HT.out]; exact HT0.out, fun h0 => by omega⟩, rfl⟩⟩
        · have h6' : decide ((ds.length : Int) ≤ 600) = false := by simp; omega
          go_wp2
          go_ret
          exact ⟨HB.out, false, rfl, .inr ⟨fun hv => h6 hv.len, rfl⟩⟩

theorem take_ne {l m : List Int} {k : Nat} (hne : at0 l k ≠ at0 m k) : l ≠ m := by
  rintro rfl; exact hne rfl
theorem eq_of_at {l m : List Int} (hl : l.length = m.length) (h : ∀ j, j < l.length → at0 l j = at0 m j) : l = m := by
  refine List.ext_getElem hl fun j h1 h2 => ?_
  have := h j h1
  rwa [at0_get h1, at0_get h2] at this

set_option maxRecDepth 100000 in
set_option maxHeartbeats 2000000 in
theorem Equal_any (w : World) (va vb : Value) (l m : List Int) (ha : RI w w.heap.size va l) (hb : RI w w.heap.size vb m) :
    Calls Tryz.prog 62 #[va, vb] w fun e w' => Below w.heap.size w w' ∧ e = .returned (.bool (decide (l = m))) := by
  obtain ⟨A, ca, rfl, hca, hca', hA⟩ := ha.at
  obtain ⟨Bb, cb, rfl, hcb, hcb', hB⟩ := hb.at
  have hla : l.length ≤ 9223372036854775807 := by omega
  have hlb : m.length ≤ 9223372036854775807 := by omega
  replace hA := Lib.hid hA
  replace hB := Lib.hid hB
  clear ha hb
  by_cases hne : l.length = m.length
  · have HL := Lib.hid hne
    have hle : (l.length : Int) ≤ m.length := by omega
    have hge : (m.length : Int) ≤ l.length := by omega
    have hbq : ((l.length : Int) != (m.length : Int)) = false := by simp; omega
    clear hne
    go_enter Tryz.func62, Tryz.ntmps62
    go_wp2
    go_loopw [13] (fun i wr => ∃ k : Nat, k ≤ l.length ∧ i = .int .i64 k ∧ Hid (∀ j, j < k → at0 l j = at0 m j) ∧ Below w.heap.size w wr) (fun i _ => l.length - (intOf i).toNat)
    case atStart => exact ⟨0, by omega, rfl, Lib.hid (fun j hj => absurd hj (by omega)), Below.refl _ _⟩
    case round =>
      obtain ⟨k, hk, rfl, hd, hbw⟩ := hrel
      by_cases hlk : k < l.length
      · obtain ⟨g, off, rfl, hg, hx⟩ := hA.out (by omega)
        obtain ⟨g', off', rfl, hg', hx'⟩ := hB.out (by omega)
        have h1 := (hbw.cell (p := ⟨g, off + k, none⟩) hg).trans (hx k hlk)
        have h2 := (hbw.cell (p := ⟨g', off' + k, none⟩) hg').trans (hx' k (by omega))
        obtain ⟨x, hx0⟩ : ∃ x, x = at0 l k := ⟨_, rfl⟩
        obtain ⟨y, hy0⟩ : ∃ y, y = at0 m k := ⟨_, rfl⟩
        rw [← hx0] at h1
        rw [← hy0] at h2
        have HX0 := Lib.hid hx0
        have HY0 := Lib.hid hy0
        clear hx0 hy0 hx hx'
        go_wp2
        go_quiet (fail)
        go_wp2
        · have hxy : x ≠ y := bne_yes (by assumption)
          go_ret
          refine ⟨below_drewN hbw _, ?_⟩
          rw [decide_eq_false (take_ne (by rw [← HX0.out, ← HY0.out]; exact hxy))]
          rfl
        · have hxy : x = y := bne_no (by assumption)
          have HXY := Lib.hid hxy
          clear hxy
          go_roundw
          case rel =>
            refine ⟨k + 1, by omega, by go_num, Lib.hid (fun j hj => ?_), below_drewN hbw _⟩
            rcases Nat.lt_or_ge j k with h | h
            · exact hd.out j h
            · obtain rfl : j = k := by omega
              rw [← HX0.out, ← HY0.out, HXY.out]
          case measure => simp [intOf]; omega
      · obtain rfl : k = l.length := by omega
        go_wp2
        go_ret
        refine ⟨hbw, ?_⟩
        rw [decide_eq_true (eq_of_at HL.out hd.out)]
        rfl
  · have hbq : ((l.length : Int) != (m.length : Int)) = true := by simp; omega
    have HNE := Lib.hid hne
    clear hne
    go_enter Tryz.func62, Tryz.ntmps62
    go_wp2
    go_ret
    refine ⟨Below.refl _ _, ?_⟩
    rw [decide_eq_false (fun e => HNE.out (by rw [e]))]
    rfl

set_option maxRecDepth 100000 in
set_option maxHeartbeats 2000000 in
theorem Same_any (w : World) (va vb : Value) (na nb : Bool) (l m : List Int) (ha : LR w w.heap.size va na l) (hb : LR w w.heap.size vb nb m) :
    Calls Tryz.prog 40 #[va, vb] w fun e w' => Below w.heap.size w w' ∧ e = .returned (.bool (decide (na = nb ∧ l = m))) := by
  obtain ⟨s, rfl, hs⟩ := ha
  obtain ⟨t, rfl, ht⟩ := hb
  have HS := Lib.hid hs
  have HT := Lib.hid ht
  obtain ⟨A, ca, rfl, _⟩ := hs
  obtain ⟨Bb, cb, rfl, _⟩ := ht
  have hb0 : Below w.heap.size w ((w.alloc (.cells #[.bool na, .slice A l.length ca] 24)).alloc (.cells #[.bool nb, .slice Bb m.length cb] 24)) := ((Below.refl _ _).alloc (Nat.le_refl _) _).alloc (by simp) _
  have HB := Lib.hid hb0
  clear hb0
  by_cases hn : na = nb
  · subst hn
    have hq : (na == na) = true := by simp
    go_enter Tryz.func40, Tryz.ntmps40
    go_wp2_with fail
    refine (Equal_any _ _ _ l m (HS.out.step HB.out) (HT.out.step HB.out)).mono ?_
    rintro e w1 ⟨hb1, rfl⟩
    go_wp2
    go_ret
    refine ⟨HB.out.trans (hb1.mono HB.out.size), ?_⟩
    simp
  · have hq : (na == nb) = false := by simpa using hn
    go_enter Tryz.func40, Tryz.ntmps40
    go_wp2
    go_ret
    refine ⟨HB.out, ?_⟩
    rw [decide_eq_false (fun e => hn e.1)]
    rfl

set_option maxRecDepth 100000 in
set_option maxHeartbeats 2000000 in
theorem SameR_any (w : World) (va vb : Value) (na nb : Bool) (l m : List Int) (ha : LR w w.heap.size va na l) (hb : LR w w.heap.size vb nb m) :
    Calls Tryz.prog 24 #[va, vb] w fun e w' => Below w.heap.size w w' ∧ e = .returned (.bool (decide (na = nb ∧ l = m))) := by
  obtain ⟨s, rfl, hs⟩ := ha
  obtain ⟨t, rfl, ht⟩ := hb
  obtain ⟨A, ca, rfl, hca, hca', hA⟩ := hs.at
  obtain ⟨Bb, cb, rfl, hcb, hcb', hB⟩ := ht.at
  have hla : l.length ≤ 9223372036854775807 := by omega
  have hlb : m.length ≤ 9223372036854775807 := by omega
  replace hA := Lib.hid hA
  replace hB := Lib.hid hB
  clear hs ht
  have hb0 : Below w.heap.size w ((w.alloc (.cells #[.bool na, .slice A l.length ca] 24)).alloc (.cells #[.bool nb, .slice Bb m.length cb] 24)) := ((Below.refl _ _).alloc (Nat.le_refl _) _).alloc (by simp) _
  have HB0 := Lib.hid hb0
  clear hb0
  by_cases hn : na = nb
  · subst hn
    have hq : (na != na) = false := by simp
    by_cases hne : l.length = m.length
    · have HL := Lib.hid hne
      have hle : (l.length : Int) ≤ m.length := by omega
      have hge : (m.length : Int) ≤ l.length := by omega
      have hbq : ((l.length : Int) != (m.length : Int)) = false := by simp; omega
      clear hne
      go_enter Tryz.func24, Tryz.ntmps24
      go_wp2
      go_loopw [5] (fun i wr => ∃ k nn : Nat, k ≤ l.length ∧ i = .int .i64 k ∧ Hid (∀ j, j < k → at0 l j = at0 m j) ∧ wr = ((w.alloc (.cells #[.bool na, .slice A l.length ca] 24)).alloc (.cells #[.bool na, .slice Bb m.length cb] 24)).drewN nn) (fun i _ => l.length - (intOf i).toNat)
      case atStart => exact ⟨0, 0, by omega, rfl, Lib.hid (fun j hj => absurd hj (by omega)), rfl⟩
      case round =>
        obtain ⟨k, nn, hk, rfl, hd, rfl⟩ := hrel
        have HBW := Lib.hid (below_drewN HB0.out nn)
        by_cases hlk : k < l.length
        · obtain ⟨g, off, rfl, hg, hx⟩ := hA.out (by omega)
          obtain ⟨g', off', rfl, hg', hx'⟩ := hB.out (by omega)
          have h1 := (HBW.out.cell (p := ⟨g, off + k, none⟩) hg).trans (hx k hlk)
          have h2 := (HBW.out.cell (p := ⟨g', off' + k, none⟩) hg').trans (hx' k (by omega))
          rw [World.cell?_drewN] at h1 h2
          obtain ⟨x, hx0⟩ : ∃ x, x = at0 l k := ⟨_, rfl⟩
          obtain ⟨y, hy0⟩ : ∃ y, y = at0 m k := ⟨_, rfl⟩
          rw [← hx0] at h1
          rw [← hy0] at h2
          have HX0 := Lib.hid hx0
          have HY0 := Lib.hid hy0
          clear hx0 hy0 hx hx'
          go_wp2
          go_quiet (fail)
          go_wp2
          · have hxy : x ≠ y := bne_yes (by assumption)
            go_ret
            refine ⟨by first | exact below_drewN HB0.out _ | exact below_drewN (below_drewN HB0.out _) _, ?_⟩
            have hne : l ≠ m := take_ne (by rw [← HX0.out, ← HY0.out]; exact hxy)
            first | (rw [decide_eq_false hne]; rfl) | (rw [decide_eq_false (fun e => hne e.2)]; rfl)
          · have hxy : x = y := bne_no (by assumption)
            have HXY := Lib.hid hxy
            clear hxy
            go_roundw
            case rel =>
              refine ⟨k + 1, _, by omega, by go_num, Lib.hid (fun j hj => ?_), rfl⟩
              rcases Nat.lt_or_ge j k with h | h
              · exact hd.out j h
              · obtain rfl : j = k := by omega
                rw [← HX0.out, ← HY0.out, HXY.out]
            case measure => simp [intOf]; omega
        · obtain rfl : k = l.length := by omega
          go_wp2
          go_ret
          refine ⟨HBW.out, ?_⟩
          have heq : l = m := eq_of_at HL.out hd.out
          first | (rw [decide_eq_true heq]; rfl) | (rw [decide_eq_true (show True ∧ l = m from ⟨trivial, heq⟩)]; rfl)
    · have hbq : ((l.length : Int) != (m.length : Int)) = true := by simp; omega
      have HNE := Lib.hid hne
      clear hne
      go_enter Tryz.func24, Tryz.ntmps24
      go_wp2
      go_ret
      refine ⟨HB0.out, ?_⟩
      have hne : l ≠ m := fun e => HNE.out (by rw [e])
      first | (rw [decide_eq_false hne]; rfl) | (rw [decide_eq_false (fun e => hne e.2)]; rfl)
  · have hq : (na != nb) = true := by simpa using hn
    have HN := Lib.hid hn
    clear hn
    go_enter Tryz.func24, Tryz.ntmps24
    go_wp2
    go_ret
    refine ⟨HB0.out, ?_⟩
    rw [decide_eq_false (fun e => HN.out e.1)]
    rfl
end Go.Proofs.YtnbanlmkoljghaaGreatDoor
