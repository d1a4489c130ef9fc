/- long.Add, Sub, Neg. -/
import Derived.Test.YtnbanlmkoljghaaGreatDoorBoth
namespace Go.Proofs.YtnbanlmkoljghaaGreatDoor
open Go Go.RowKit Dig

theorem add_like {a b : Int} (h : decide (a < 0) = decide (b < 0)) : (if decide (a < 0) then -((a.natAbs + b.natAbs : Nat) : Int) else ((a.natAbs + b.natAbs : Nat) : Int)) = a + b := by
  have h : a < 0 ↔ b < 0 := by simpa using h
  by_cases ha : a < 0
  · rw [decide_eq_true ha, if_pos rfl]; omega
  · rw [decide_eq_false ha, if_neg (by simp)]; omega
theorem add_less {a b : Int} (h : decide (a < 0) ≠ decide (b < 0)) (hl : a.natAbs < b.natAbs) : (if decide (b < 0) then -((b.natAbs - a.natAbs : Nat) : Int) else ((b.natAbs - a.natAbs : Nat) : Int)) = a + b := by
  have h : ¬ (a < 0 ↔ b < 0) := by simpa using h
  by_cases hb : b < 0
  · rw [decide_eq_true hb, if_pos rfl]; omega
  · rw [decide_eq_false hb, if_neg (by simp)]; omega
theorem add_more {a b : Int} (h : decide (a < 0) ≠ decide (b < 0)) (hl : ¬ a.natAbs < b.natAbs) : (if decide (a < 0) then -((a.natAbs - b.natAbs : Nat) : Int) else ((a.natAbs - b.natAbs : Nat) : Int)) = a + b := by
  have h : ¬ (a < 0 ↔ b < 0) := by simpa using h
  by_cases ha : a < 0
  · rw [decide_eq_true ha, if_pos rfl]; omega
  · rw [decide_eq_false ha, if_neg (by simp)]; omega
theorem dig_len_add (a b : Nat) {n : Nat} (ha : (dig a).length ≤ n) (hb : (dig b).length ≤ n) : (dig (a + b)).length ≤ n + 1 := by
  rw [dig_len_le, bp_succ]
  have := dig_len_le.1 ha
  have := dig_len_le.1 hb
  generalize bp n = z at *
  omega
theorem RN.drawn {w : World} {v : Value} {l : List Nat} (h : RN w w.heap.size v l) (n : Nat) : RN (w.drewN n) (w.drewN n).heap.size v l := h
theorem RN.drawn1 {w : World} {v : Value} {l : List Nat} (h : RN w w.heap.size v l) : RN w.drew w.drew.heap.size v l := h
theorem dig_len_sub (a b : Nat) {n : Nat} (ha : (dig a).length ≤ n) : (dig (a - b)).length ≤ n := Nat.le_trans (dig_len_mono (Nat.sub_le a b)) ha

set_option maxRecDepth 100000 in
set_option maxHeartbeats 1000000 in
theorem Add_any (w : World) (va vb : Value) (na nb : Bool) (la lb : List Int) (ha : LR w w.heap.size va na la) (hb : LR w w.heap.size vb nb lb) :
    Calls Tryz.prog 43 #[va, vb] w fun e w' => Below w.heap.size w w' ∧ RetL w' (A2 (fun a b => toldZ (a + b)) (numOf na la) (numOf nb lb)) e := by
  obtain ⟨sa, rfl, hsa⟩ := ha
  obtain ⟨sb, rfl, hsb⟩ := hb
  obtain ⟨P1, k1, rfl, _⟩ := (show RI _ _ _ _ from hsa)
  obtain ⟨P2, k2, rfl, _⟩ := (show RI _ _ _ _ from hsb)
  replace hsa := Lib.hid hsa
  replace hsb := Lib.hid hsb
  obtain ⟨r, hr⟩ : ∃ r, r = (A2 (fun a b => toldZ (a + b)) (numOf na la) (numOf nb lb)) := ⟨_, rfl⟩
  rw [← hr]
  replace hr := Lib.hid hr
  go_enter Tryz.func43, Tryz.ntmps43
  go_wp2_with fail
  refine (all_new _ _ na nb _ _ la lb 2 (by simp) (hsa.out.step (by (repeat' (first | exact Below.refl _ _ | refine Below.drew ?_ | refine Below.alloc ?_ (by first | exact Nat.le_refl _ | (simp; done) | (simp; omega)) _)))) (hsb.out.step (by (repeat' (first | exact Below.refl _ _ | refine Below.drew ?_ | refine Below.alloc ?_ (by first | exact Nat.le_refl _ | (simp; done) | (simp; omega)) _))))).mono ?_
  rintro e w2 ⟨hb2, c, rfl, hc⟩
  have La : LB w2 w.heap.size (.bool na) (.slice P1 la.length k1) := LB.of_block (by (repeat (first | (refine LB.new' ?_; simp; done) | refine LB.alloc ?_ _))) (hb2.block _ (by simp <;> omega))
  have Lb : LB w2 (w.heap.size + 1) (.bool nb) (.slice P2 lb.length k2) := LB.of_block (by (repeat (first | (refine LB.new' ?_; simp; done) | refine LB.alloc ?_ _))) (hb2.block _ (by simp <;> omega))
  have Lr : LB w2 (w.heap.size + 1 + 1) (.bool false) (.slice none 0 0) := LB.of_block (by (repeat (first | (refine LB.new' ?_; simp; done) | refine LB.alloc ?_ _))) (hb2.block _ (by simp <;> omega))
  have HB := Lib.hid ((show Below w.heap.size w _ from by (repeat' (first | exact Below.refl _ _ | refine Below.drew ?_ | refine Below.alloc ?_ (by first | exact Nat.le_refl _ | (simp; done) | (simp; omega)) _))).trans (hb2.mono (by simp <;> omega)))
  have qa0 := La.cell0
  have qa1 := La.cell1
  have qb0 := Lb.cell0
  have qb1 := Lb.cell1
  have qr0 := Lr.cell0
  have qr1 := Lr.cell1
  have qr2 := Lr.frozen 0
  have qr3 := Lr.frozen 1
  clear hb2
  rcases hc with ⟨hva, hvb, rfl⟩ | ⟨hv, rfl⟩
  · obtain ⟨a, hna, ha0, ha1, hla⟩ := numOf_valid hva
    obtain ⟨b, hnb, hb0, hb1, hlb⟩ := numOf_valid hvb
    have hsa2 : RN w2 w2.heap.size (.slice P1 la.length k1) (dig a.natAbs) := by rw [RN, ← ha1]; exact hsa.out.step HB.out
    have hsb2 : RN w2 w2.heap.size (.slice P2 lb.length k2) (dig b.natAbs) := by rw [RN, ← hb1]; exact hsb.out.step HB.out
    have HSA := Lib.hid hsa2
    have HSB := Lib.hid hsb2
    have hr2 : r = toldZ (a + b) := by
      have := hr.out
      rwa [hna, hnb] at this
    have HA0 := Lib.hid ha0
    have HB0 := Lib.hid hb0
    have HLA := Lib.hid hla
    have HLB := Lib.hid hlb
    clear hr hna hnb hva hvb ha0 hb0 ha1 hb1 hsa2 hsb2 hsa hsb hla hlb
    by_cases hs : na = nb
    · have HS := Lib.hid hs
      have hs' : (na == nb) = true := by simpa using hs
      have hr3 : r = toldZ (if na then -((a.natAbs + b.natAbs : Nat) : Int) else ((a.natAbs + b.natAbs : Nat) : Int)) := by
        rw [hr2, HA0.out, add_like (by rw [← HA0.out, ← HB0.out]; exact HS.out)]
      have HR := Lib.hid hr3
      clear hr2 hr3 hs
      go_wp2
      go_quiet (fail)
      go_wp2
      go_region_with (first
        | (go_at_call 87; ((with_reducible refine (Plus_any _ (.slice P1 la.length k1) (.slice P2 lb.length k2) a.natAbs b.natAbs (by exact HSA.out.drawn _) (by exact HSB.out.drawn _) (by have := HLA.out; omega) (by have := HLB.out; omega)).mono ?_); rintro e w3 ⟨hb3, v3, rfl, hv3⟩; have La3 := (LB.step (LB.drewN La _) hb3); have qa3 := La3.cell0; have HV3 := Lib.hid hv3; have Lr3 := (LB.step (LB.drewN Lr _) hb3); have HB3 := Lib.hid ((below_drewN HB.out _).trans (hb3.mono (by exact HB.out.size))); clear hv3 hb3))
        | (go_at_call 69; ((with_reducible refine (told_any _ v3 na (a.natAbs + b.natAbs) (by exact HV3.out) (by have := dig_len_add a.natAbs b.natAbs HLA.out HLB.out; omega)).mono ?_); rintro e w4 ⟨hb4, hret⟩; rw [← HR.out] at hret; obtain ⟨v4, rfl, s4, rfl, hs4⟩ := hret; obtain ⟨A4, k4, rfl, _⟩ := (show RI _ _ _ _ from hs4); replace hs4 := Lib.hid hs4; have Lr4 := Lr3.step hb4; have qr0 := Lr4.cell0; have qr1 := Lr4.cell1; have qr2 := Lr4.frozen 0; have qr3 := Lr4.frozen 1; have HB4 := Lib.hid (HB3.out.trans (hb4.mono (by exact HB3.out.size))); clear hb4)))
      all_goals
        go_wp2
        (try simp only [Exit.inBlock, Exit.then])
        exact end_put rfl Lr4 HB4.out (by omega) hs4.out rfl rfl rfl rfl
    · have HS := Lib.hid hs
      have hs' : (na == nb) = false := by simpa using hs
      clear hs
      go_wp2
      go_quiet (fail)
      go_wp2_with fail
      refine (Cmp_any _ _ _ a.natAbs b.natAbs (HSA.out.drawn _) (HSB.out.drawn _)).mono ?_
      rintro e wc ⟨hbc, c, rfl, hc⟩
      have HSA := Lib.hid (RN.step (HSA.out.drawn _) hbc)
      have HSB := Lib.hid (RN.step (HSB.out.drawn _) hbc)
      have HB := Lib.hid ((below_drewN HB.out _).trans (hbc.mono (by exact HB.out.size)))
      have La := LB.step (LB.drewN La _) hbc
      have Lb := LB.step (LB.drewN Lb _) hbc
      have Lr := LB.step (LB.drewN Lr _) hbc
      clear qa0 qa1 qb0 qb1 qr0 qr1 qr2 qr3 hbc
      have qa0 := La.cell0
      have qb0 := Lb.cell0
      by_cases hlt : a.natAbs < b.natAbs
      · have hr3 : r = toldZ (if nb then -((b.natAbs - a.natAbs : Nat) : Int) else ((b.natAbs - a.natAbs : Nat) : Int)) := by
          rw [hr2, HB0.out, add_less (by rw [← HA0.out, ← HB0.out]; exact HS.out) hlt]
        have HR := Lib.hid hr3
        have hcc : c < 0 := hc.1.2 hlt
        have HLE := Lib.hid (Nat.le_of_lt hlt)
        clear hr2 hr3 hc hlt
        go_wp2
        go_region_with (first
          | (go_at_call 89; ((with_reducible refine (Minus_any _ (.slice P2 lb.length k2) (.slice P1 la.length k1) b.natAbs a.natAbs (by exact HSB.out.drawn1) (by exact HSA.out.drawn1) (by have := HLB.out; omega) HLE.out).mono ?_); rintro e w3 ⟨hb3, v3, rfl, hv3⟩; have La3 := (LB.step (LB.drew Lb) hb3); have qa3 := La3.cell0; have HV3 := Lib.hid hv3; have Lr3 := (LB.step (LB.drew Lr) hb3); have HB3 := Lib.hid (HB.out.drew.trans (hb3.mono (by exact HB.out.size))); clear hv3 hb3))
          | (go_at_call 69; ((with_reducible refine (told_any _ v3 nb (b.natAbs - a.natAbs) (by exact HV3.out) (by have := dig_len_sub b.natAbs a.natAbs HLB.out; omega)).mono ?_); rintro e w4 ⟨hb4, hret⟩; rw [← HR.out] at hret; obtain ⟨v4, rfl, s4, rfl, hs4⟩ := hret; obtain ⟨A4, k4, rfl, _⟩ := (show RI _ _ _ _ from hs4); replace hs4 := Lib.hid hs4; have Lr4 := Lr3.step hb4; have qr0 := Lr4.cell0; have qr1 := Lr4.cell1; have qr2 := Lr4.frozen 0; have qr3 := Lr4.frozen 1; have HB4 := Lib.hid (HB3.out.trans (hb4.mono (by exact HB3.out.size))); clear hb4)))
        all_goals
          go_wp2
          (try simp only [Exit.inBlock, Exit.then])
          exact end_put rfl Lr4 HB4.out (by omega) hs4.out rfl rfl rfl rfl
      · have hr3 : r = toldZ (if na then -((a.natAbs - b.natAbs : Nat) : Int) else ((a.natAbs - b.natAbs : Nat) : Int)) := by
          rw [hr2, HA0.out, add_more (by rw [← HA0.out, ← HB0.out]; exact HS.out) hlt]
        have HR := Lib.hid hr3
        have hcc : 0 ≤ c := by have := hc.1; omega
        have HLE := Lib.hid (Nat.le_of_not_lt hlt)
        clear hr2 hr3 hc hlt
        go_wp2
        go_region_with (first
          | (go_at_call 89; ((with_reducible refine (Minus_any _ (.slice P1 la.length k1) (.slice P2 lb.length k2) a.natAbs b.natAbs (by exact HSA.out.drawn1) (by exact HSB.out.drawn1) (by have := HLA.out; omega) HLE.out).mono ?_); rintro e w3 ⟨hb3, v3, rfl, hv3⟩; have La3 := (LB.step (LB.drew La) hb3); have qa3 := La3.cell0; have HV3 := Lib.hid hv3; have Lr3 := (LB.step (LB.drew Lr) hb3); have HB3 := Lib.hid (HB.out.drew.trans (hb3.mono (by exact HB.out.size))); clear hv3 hb3))
          | (go_at_call 69; ((with_reducible refine (told_any _ v3 na (a.natAbs - b.natAbs) (by exact HV3.out) (by have := dig_len_sub a.natAbs b.natAbs HLA.out; omega)).mono ?_); rintro e w4 ⟨hb4, hret⟩; rw [← HR.out] at hret; obtain ⟨v4, rfl, s4, rfl, hs4⟩ := hret; obtain ⟨A4, k4, rfl, _⟩ := (show RI _ _ _ _ from hs4); replace hs4 := Lib.hid hs4; have Lr4 := Lr3.step hb4; have qr0 := Lr4.cell0; have qr1 := Lr4.cell1; have qr2 := Lr4.frozen 0; have qr3 := Lr4.frozen 1; have HB4 := Lib.hid (HB3.out.trans (hb4.mono (by exact HB3.out.size))); clear hb4)))
        all_goals
          go_wp2
          (try simp only [Exit.inBlock, Exit.then])
          exact end_put rfl Lr4 HB4.out (by omega) hs4.out rfl rfl rfl rfl
  · have HR := Lib.hid (hr.out.trans (A2_bad hv))
    clear hr
    go_wp2
    (try simp only [Exit.inBlock, Exit.then])
    exact end_zero rfl Lr HB.out (by omega) HR.out rfl rfl
end Go.Proofs.YtnbanlmkoljghaaGreatDoor
