/- long.Sqrt. -/
import Derived.Test.YtnbanlmkoljghaaGreatDoorSub
namespace Go.Proofs.YtnbanlmkoljghaaGreatDoor
open Go Go.RowKit Dig

theorem root_unique {a s t : Nat} (h1 : s * s ≤ a) (h2 : a < (s + 1) * (s + 1)) (h3 : t * t ≤ a) (h4 : a < (t + 1) * (t + 1)) : s = t := by
  have h5 := root_lt h1 h4
  have h6 := root_lt h3 h2
  omega
noncomputable def rootN (a : Nat) : Nat := (root_exists a).choose
theorem rootN_spec (a : Nat) : rootN a * rootN a ≤ a ∧ a < (rootN a + 1) * (rootN a + 1) := (root_exists a).choose_spec
theorem rootN_eq {a s : Nat} (h1 : s * s ≤ a) (h2 : a < (s + 1) * (s + 1)) : s = rootN a := root_unique h1 h2 (rootN_spec a).1 (rootN_spec a).2
theorem rootN_le (a : Nat) : rootN a ≤ a := by
  have h := (rootN_spec a).1
  rcases Nat.eq_zero_or_pos (rootN a) with h0 | h0
  · omega
  · exact Nat.le_trans (Nat.le_mul_of_pos_left _ h0) h
/-- What Sqrt answers. -/
noncomputable def sqrtZ (a : Int) : Int × Int := if a < 0 then (0, 2) else ((rootN a.natAbs : Int), 0)

set_option maxRecDepth 100000 in
set_option maxHeartbeats 1000000 in
theorem Sqrt_any (w : World) (va : Value) (na : Bool) (la : List Int) (ha : LR w w.heap.size va na la) :
    Calls Tryz.prog 33 #[va] w fun e w' => Below w.heap.size w w' ∧ RetL w' (A1 sqrtZ (numOf na la)) e := by
  obtain ⟨sa, rfl, hsa⟩ := ha
  obtain ⟨P1, k1, rfl, _⟩ := (show RI _ _ _ _ from hsa)
  replace hsa := Lib.hid hsa
  obtain ⟨r, hr⟩ : ∃ r, r = A1 sqrtZ (numOf na la) := ⟨_, rfl⟩
  rw [← hr]
  replace hr := Lib.hid hr
  go_enter Tryz.func33, Tryz.ntmps33
  go_wp2_with fail
  refine (Check_any _ _ na la ⟨_, rfl, hsa.out.step (by (repeat' (first | exact Below.refl _ _ | refine Below.drew ?_ | refine Below.alloc ?_ (by first | exact Nat.le_refl _ | (simp; done) | (simp; omega)) _)))⟩).mono ?_
  rintro e w2 ⟨hb2, c, rfl, hc⟩
  have La : LB w2 w.heap.size (.bool na) (.slice P1 la.length k1) := LB.of_block (by (repeat (first | (refine LB.new' ?_; simp; done) | refine LB.alloc ?_ _))) (hb2.block _ (by simp <;> omega))
  have Lr : LB w2 (w.heap.size + 1) (.bool false) (.slice none 0 0) := LB.of_block (by (repeat (first | (refine LB.new' ?_; simp; done) | refine LB.alloc ?_ _))) (hb2.block _ (by simp <;> omega))
  have HB := Lib.hid ((show Below w.heap.size w _ from by (repeat' (first | exact Below.refl _ _ | refine Below.drew ?_ | refine Below.alloc ?_ (by first | exact Nat.le_refl _ | (simp; done) | (simp; omega)) _))).trans (hb2.mono (by simp <;> omega)))
  have qa0 := La.cell0
  have qa1 := La.cell1
  have qr0 := Lr.cell0
  have qr1 := Lr.cell1
  have qr2 := Lr.frozen 0
  have qr3 := Lr.frozen 1
  clear hb2
  rcases hc with ⟨hva, rfl⟩ | ⟨hv, rfl⟩
  · obtain ⟨a, hna, ha0, ha1, hla⟩ := numOf_valid hva
    have hr2 : r = sqrtZ a := by rw [hr.out, hna]; rfl
    have HR := Lib.hid hr2
    have hsa2 : RN w2 w2.heap.size (.slice P1 la.length k1) (dig a.natAbs) := by rw [RN, ← ha1]; exact hsa.out.step HB.out
    have HSA := Lib.hid hsa2
    have HA0 := Lib.hid ha0
    clear hr hr2 hna hva ha0 ha1 hsa2 hsa
    cases na with
    | true =>
      have HR2 := Lib.hid (show r = (0, 2) by rw [HR.out, sqrtZ, if_pos (of_decide_eq_true HA0.out.symm)])
      clear hla
      go_wp2
      (try simp only [Exit.inBlock, Exit.then])
      exact end_zero rfl Lr HB.out (by omega) HR2.out rfl rfl
    | false =>
      have HR2 := Lib.hid (show r = toldZ (rootN a.natAbs : Int) by
        rw [HR.out, sqrtZ, if_neg (of_decide_eq_false HA0.out.symm), toldZ, Int.natAbs_natCast, if_pos (Nat.le_trans (dig_len_mono (rootN_le _)) hla)])
      go_wp2_with fail
      refine (Root_any _ _ a.natAbs HSA.out (by omega)).mono ?_
      rintro e w3 ⟨hb3, v3, s, rfl, h1, h2, hv3⟩
      rw [rootN_eq h1 h2] at hv3
      replace hv3 := Lib.hid hv3
      have Lr3 := Lr.step hb3
      have HB3 := Lib.hid (HB.out.trans (hb3.mono HB.out.size))
      have hl3 := Lib.hid (Nat.le_trans (dig_len_mono (rootN_le a.natAbs)) hla)
      clear qa0 qa1 qr0 qr1 qr2 qr3 hb3 h1 h2 hla
      go_wp2_with fail
      refine (told_any _ _ false _ hv3.out (by have := hl3.out; omega)).mono ?_
      rintro e w4 ⟨hb4, hret⟩
      have HR3 := Lib.hid (show toldZ (if false then -((rootN a.natAbs : Nat) : Int) else ((rootN a.natAbs : Nat) : Int)) = r from HR2.out.symm)
      rw [HR3.out] at hret
      obtain ⟨v4, rfl, s4, rfl, hs4⟩ := hret
      have Lr4 := Lr3.step hb4
      have qr0 := Lr4.cell0
      have qr1 := Lr4.cell1
      have qr2 := Lr4.frozen 0
      have qr3 := Lr4.frozen 1
      obtain ⟨A4, k4, rfl, _⟩ := (show RI _ _ _ _ from hs4)
      replace hs4 := Lib.hid hs4
      have HB4 := Lib.hid (HB3.out.trans (hb4.mono HB3.out.size))
      clear hb4
      go_wp2
      (try simp only [Exit.inBlock, Exit.then])
      exact end_put rfl Lr4 HB4.out (by omega) hs4.out rfl rfl rfl rfl
  · have HR := Lib.hid (hr.out.trans (A1_bad hv))
    clear hr
    go_wp2
    (try simp only [Exit.inBlock, Exit.then])
    exact end_zero rfl Lr HB.out (by omega) HR.out rfl rfl
end Go.Proofs.YtnbanlmkoljghaaGreatDoor
