/- long.told, long.all; what calls answer. -/
import Derived.Test.YtnbanlmkoljghaaGreatDoorPair
import Derived.Test.YtnbanlmkoljghaaGreatDoorClone
namespace Go.Proofs.YtnbanlmkoljghaaGreatDoor
open Go Go.RowKit Dig

/-- The number of a Long, if it is valid. -/
noncomputable def numOf (neg : Bool) (ds : List Int) : Option Int := open Classical in if h : Valid neg ds then some h.num.choose else none
theorem numOf_valid {neg : Bool} {ds : List Int} (h : Valid neg ds) : ∃ z, numOf neg ds = some z ∧ neg = decide (z < 0) ∧ ds = ni (dig z.natAbs) ∧ (dig z.natAbs).length ≤ 600 := by
  refine ⟨h.num.choose, ?_, h.num.choose_spec⟩
  unfold numOf
  rw [dif_pos h]
theorem numOf_bad {neg : Bool} {ds : List Int} (h : ¬ Valid neg ds) : numOf neg ds = none := by
  unfold numOf
  rw [dif_neg h]
theorem ni_inj {a b : List Nat} (h : ni a = ni b) : a = b := by
  have h1 := congrArg (List.map Int.toNat) h
  simpa [ni, Function.comp_def] using h1
theorem lv_inj {z y : Int} (h1 : decide (z < 0) = decide (y < 0)) (h2 : ni (dig z.natAbs) = ni (dig y.natAbs)) : z = y := by
  have h3 := ni_inj h2
  have h4 : z.natAbs = y.natAbs := by rw [← val_dig z.natAbs, h3, val_dig]
  have h5 : z < 0 ↔ y < 0 := by simpa using h1
  omega
theorem numOf_dig {z : Int} (h : (dig z.natAbs).length ≤ 600) : numOf (decide (z < 0)) (ni (dig z.natAbs)) = some z := by
  obtain ⟨y, h1, h2, h3, _⟩ := numOf_valid (valid_num h)
  rw [h1, lv_inj h2 h3]

/-- What told answers. -/
def toldZ (z : Int) : Int × Int := if (dig z.natAbs).length ≤ 600 then (z, 0) else (0, 6)
def A1 (f : Int → Int × Int) : Option Int → Int × Int
  | some a => f a
  | none => (0, 30)
def A2 (f : Int → Int → Int × Int) : Option Int → Option Int → Int × Int
  | some a, some b => f a b
  | _, _ => (0, 30)
set_option maxRecDepth 100000 in
set_option maxHeartbeats 1000000 in
theorem told_any (w : World) (v : Value) (neg : Bool) (n : Nat) (h : RN w w.heap.size v (dig n)) (hl : (dig n).length ≤ 1000000) :
    Calls Tryz.prog 69 #[.bool neg, v] w fun e w' => Below w.heap.size w w' ∧ RetL w' (toldZ (if neg then -(n : Int) else n)) e := by
  have hn : (if neg then -(n : Int) else n).natAbs = n := by cases neg <;> simp
  have hs : decide ((if neg then -(n : Int) else n) < 0) = (neg && decide (0 < (dig n).length)) := by
    rcases Nat.eq_zero_or_pos n with h0 | h0
    · subst h0; rw [dig_zero]; cases neg <;> simp
    · have := dig_len_pos (by omega : n ≠ 0)
      cases neg <;> simp <;> omega
  obtain ⟨z, hz⟩ : ∃ z : Int, z = if neg then -(n : Int) else n := ⟨_, rfl⟩
  rw [← hz] at hn hs ⊢
  have HN := Lib.hid hn
  have HS := Lib.hid hs
  obtain ⟨A, c, rfl, hc, hc', hA⟩ := h.cell
  replace h := Lib.hid h
  clear hz hn hs hA
  have L0 := LB.new w (.bool false) (.slice none 0 0)
  by_cases h6 : (dig n).length ≤ 600
  · have HT := Lib.hid (show toldZ z = (z, 0) by unfold toldZ; rw [HN.out, if_pos h6])
    have hle : ((dig n).length : Int) ≤ 600 := by omega
    clear h6
    cases neg with
    | false =>
      go_enter Tryz.func69, Tryz.ntmps69
      go_wp2_with fail
      refine (clone_size _ _ (ni (dig n)) (RI.step h.out ((Below.refl _ _).alloc (Nat.le_refl _) _)) (by rw [ni_length]; omega)).mono ?_
      rintro e w2 ⟨hb2, v2, rfl, hv2⟩
      have hr2 := hv2.ri
      have HV2 := Lib.hid hv2.ri
      obtain ⟨A2, c2, rfl, _⟩ := hr2
      rw [ni_length] at HV2 ⊢
      have HB2 := Lib.hid (((Below.refl w.heap.size w).alloc (Nat.le_refl _) _).trans (hb2.mono (by simp)))
      have L1 := L0.step hb2
      have q0 := L1.cell0
      have q1 := L1.cell1
      have q2 := L1.frozen 0
      have q3 := L1.frozen 1
      clear hv2 hb2
      go_wp2
      (try simp only [Exit.inBlock, Exit.then])
      exact end_put rfl L1 HB2.out (Nat.le_refl _) (by rw [HN.out]; exact HV2.out) HS.out.symm HT.out rfl rfl
    | true =>
      go_enter Tryz.func69, Tryz.ntmps69
      go_wp2_with fail
      refine (clone_size _ _ (ni (dig n)) (RI.step h.out ((Below.refl _ _).alloc (Nat.le_refl _) _)) (by rw [ni_length]; omega)).mono ?_
      rintro e w2 ⟨hb2, v2, rfl, hv2⟩
      have hr2 := hv2.ri
      have HV2 := Lib.hid hv2.ri
      obtain ⟨A2, c2, rfl, _⟩ := hr2
      rw [ni_length] at HV2 ⊢
      have HB2 := Lib.hid (((Below.refl w.heap.size w).alloc (Nat.le_refl _) _).trans (hb2.mono (by simp)))
      have L1 := L0.step hb2
      have q0 := L1.cell0
      have q1 := L1.cell1
      have q2 := L1.frozen 0
      have q3 := L1.frozen 1
      clear hv2 hb2
      go_wp2
      (try simp only [Exit.inBlock, Exit.then])
      exact end_put rfl L1 HB2.out (Nat.le_refl _) (by rw [HN.out]; exact HV2.out) HS.out.symm HT.out rfl rfl
  · have HT := Lib.hid (show toldZ z = (0, 6) by unfold toldZ; rw [HN.out, if_neg h6])
    have HB0 := Lib.hid ((Below.refl w.heap.size w).alloc (Nat.le_refl _) (.cells #[.bool false, .slice none 0 0] 24))
    have hgt : (600 : Int) < (dig n).length := by omega
    clear h6
    go_enter Tryz.func69, Tryz.ntmps69
    go_wp2
    (try simp only [Exit.inBlock, Exit.then])
    exact end_none rfl L0 HB0.out HT.out rfl rfl

/-- Two Longs side by side in a block, as the arguments of all. -/
def AllOf (na : Bool) (la : List Int) (nb : Bool) (lb : List Int) (c : Int) : Prop := (Valid na la ∧ Valid nb lb ∧ c = 0) ∨ (¬ (Valid na la ∧ Valid nb lb) ∧ c = 30)
set_option maxRecDepth 100000 in
set_option maxHeartbeats 1000000 in
theorem all_any (w : World) (g : Nat) (na nb : Bool) (sa sb : Value) (la lb : List Int) (cap : Nat)
    (h0 : w.cell? ⟨g, 0, none⟩ = some (.bool na)) (h1 : w.cell? ⟨g, 1, none⟩ = some sa) (h2 : w.cell? ⟨g, 2, none⟩ = some (.bool nb)) (h3 : w.cell? ⟨g, 3, none⟩ = some sb) (hg : g < w.heap.size)
    (ha : RI w w.heap.size sa la) (hb : RI w w.heap.size sb lb) :
    Calls Tryz.prog 67 #[.slice (some ⟨g, 0, none⟩) 2 cap] w fun e w' => Below w.heap.size w w' ∧ ∃ c, e = .returned (.int .i64 c) ∧ AllOf na la nb lb c := by
  obtain ⟨A1, k1, rfl, _⟩ := (show RI _ _ _ _ from ha)
  obtain ⟨A2, k2, rfl, _⟩ := (show RI _ _ _ _ from hb)
  replace ha := Lib.hid ha
  replace hb := Lib.hid hb
  go_enter Tryz.func67, Tryz.ntmps67
  go_wp2
  go_loopw [8] (fun i wr => ∃ k : Nat, k ≤ 2 ∧ i = .int .i64 k ∧ Hid (1 ≤ k → Valid na la) ∧ Hid (2 ≤ k → Valid nb lb) ∧ Below w.heap.size w wr) (fun i _ => 2 - (intOf i).toNat)
  case atStart => exact ⟨0, by omega, rfl, Lib.hid (fun h => absurd h (by omega)), Lib.hid (fun h => absurd h (by omega)), Below.refl _ _⟩
  case round =>
    obtain ⟨k, hk, rfl, H1, H2, hbw⟩ := hrel
    have c0 := (hbw.cell (p := ⟨g, 0, none⟩) hg).trans h0
    have c1 := (hbw.cell (p := ⟨g, 1, none⟩) hg).trans h1
    have c2 := (hbw.cell (p := ⟨g, 2, none⟩) hg).trans h2
    have c3 := (hbw.cell (p := ⟨g, 3, none⟩) hg).trans h3
    obtain rfl | rfl | rfl : k = 0 ∨ k = 1 ∨ k = 2 := by omega
    · go_wp2_with fail
      refine (Check_any _ _ na la ⟨_, rfl, RI.step (RI.step ha.out hbw) ((Below.refl _ _).alloc (Nat.le_refl _) _)⟩).mono ?_
      rintro e w2 ⟨hb2, c, rfl, hc⟩
      have HB := Lib.hid (hbw.trans (((Below.refl wr.heap.size wr).alloc (Nat.le_refl _) (.cells #[.bool na, .slice A1 la.length k1] 24)).trans (hb2.mono (by simp)) |>.mono hbw.size))
      rcases hc with ⟨hv, rfl⟩ | ⟨hv, rfl⟩
      · replace hv := Lib.hid hv
        clear hb2
        go_wp2
        go_roundw
        case rel => exact ⟨1, by omega, by go_num, Lib.hid (fun _ => hv.out), Lib.hid (fun h => absurd h (by omega)), HB.out⟩
        case measure => simp [intOf]
      · replace hv := Lib.hid hv
        clear hb2
        go_wp2
        go_ret
        exact ⟨HB.out, 30, rfl, .inr ⟨fun h => hv.out h.1, rfl⟩⟩
    · go_wp2_with fail
      refine (Check_any _ _ nb lb ⟨_, rfl, RI.step (RI.step hb.out hbw) ((Below.refl _ _).alloc (Nat.le_refl _) _)⟩).mono ?_
      rintro e w2 ⟨hb2, c, rfl, hc⟩
      have HB := Lib.hid (hbw.trans (((Below.refl wr.heap.size wr).alloc (Nat.le_refl _) (.cells #[.bool nb, .slice A2 lb.length k2] 24)).trans (hb2.mono (by simp)) |>.mono hbw.size))
      rcases hc with ⟨hv, rfl⟩ | ⟨hv, rfl⟩
      · replace hv := Lib.hid hv
        clear hb2
        go_wp2
        go_roundw
        case rel => exact ⟨2, by omega, by go_num, Lib.hid (fun _ => H1.out (by omega)), Lib.hid (fun _ => hv.out), HB.out⟩
        case measure => simp [intOf]
      · replace hv := Lib.hid hv
        clear hb2
        go_wp2
        go_ret
        exact ⟨HB.out, 30, rfl, .inr ⟨fun h => hv.out h.2, rfl⟩⟩
    · replace hbw := Lib.hid hbw
      go_wp2
      go_ret
      exact ⟨hbw.out, 0, rfl, .inl ⟨H1.out (by omega), H2.out (by omega), rfl⟩⟩
end Go.Proofs.YtnbanlmkoljghaaGreatDoor
