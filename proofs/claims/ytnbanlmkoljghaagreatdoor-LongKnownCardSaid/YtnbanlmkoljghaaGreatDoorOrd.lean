/- long.signed, Cmp. -/
import Derived.Test.YtnbanlmkoljghaaGreatDoorQuo
namespace Go.Proofs.YtnbanlmkoljghaaGreatDoor
open Go Go.RowKit Dig

/-- The sign of c says how a and b lie. -/
def SignZ (c a b : Int) : Prop := (c < 0 ↔ a < b) ∧ (c = 0 ↔ a = b)
set_option maxRecDepth 100000 in
set_option maxHeartbeats 1000000 in
theorem signed_any (w : World) (va vb : Value) (a b : Int) (ha : LV w w.heap.size va a) (hb : LV w w.heap.size vb b) :
    Calls Tryz.prog 90 #[va, vb] w fun e w' => Below w.heap.size w w' ∧ ∃ c, e = .returned (.int .i64 c) ∧ SignZ c a b := by
  obtain ⟨sa, rfl, hsa⟩ := ha
  obtain ⟨sb, rfl, hsb⟩ := hb
  obtain ⟨P1, k1, rfl, _⟩ := (show RI _ _ _ _ from hsa)
  obtain ⟨P2, k2, rfl, _⟩ := (show RI _ _ _ _ from hsb)
  replace hsa := Lib.hid hsa
  replace hsb := Lib.hid hsb
  obtain ⟨na, ha⟩ : ∃ na, na = decide (a < 0) := ⟨_, rfl⟩
  obtain ⟨nb, hb⟩ : ∃ nb, nb = decide (b < 0) := ⟨_, rfl⟩
  rw [← ha, ← hb]
  cases na <;> cases nb
  · have ha2 := Lib.hid (of_decide_eq_false ha.symm)
    have hb2 := Lib.hid (of_decide_eq_false hb.symm)
    clear ha hb
    go_enter Tryz.func90, Tryz.ntmps90
    go_wp2_with fail
    refine (Cmp_any _ _ _ a.natAbs b.natAbs (hsa.out.step (by (repeat' (first | exact Below.refl _ _ | refine Below.drew ?_ | refine Below.alloc ?_ (by first | exact Nat.le_refl _ | (simp; done) | (simp; omega)) _)))) (hsb.out.step (by (repeat' (first | exact Below.refl _ _ | refine Below.drew ?_ | refine Below.alloc ?_ (by first | exact Nat.le_refl _ | (simp; done) | (simp; omega)) _))))).mono ?_
    rintro e w2 ⟨hb2', c, rfl, hc⟩
    have HC := Lib.hid hc
    have HB := Lib.hid ((show Below w.heap.size w _ from by (repeat' (first | exact Below.refl _ _ | refine Below.drew ?_ | refine Below.alloc ?_ (by first | exact Nat.le_refl _ | (simp; done) | (simp; omega)) _))).trans (hb2'.mono (by simp <;> omega)))
    clear hc hb2'
    go_wp2
    go_ret
    refine ⟨HB.out, c, rfl, ?_⟩
    have h1 := ha2.out; have h2 := hb2.out; have h3 := HC.out
    unfold SignOf at h3; unfold SignZ; omega
  · have ha2 := Lib.hid (of_decide_eq_false ha.symm)
    have hb2 := Lib.hid (of_decide_eq_true hb.symm)
    have HB := Lib.hid (show Below w.heap.size w ((w.alloc (.cells #[.bool false, .slice P1 (ni (dig a.natAbs)).length k1] 24)).alloc (.cells #[.bool true, .slice P2 (ni (dig b.natAbs)).length k2] 24)) from by (repeat' (first | exact Below.refl _ _ | refine Below.drew ?_ | refine Below.alloc ?_ (by first | exact Nat.le_refl _ | (simp; done) | (simp; omega)) _)))
    clear ha hb
    go_enter Tryz.func90, Tryz.ntmps90
    go_wp2
    go_ret
    refine ⟨HB.out, 1, rfl, ?_⟩
    have h1 := ha2.out; have h2 := hb2.out
    unfold SignZ; omega
  · have ha2 := Lib.hid (of_decide_eq_true ha.symm)
    have hb2 := Lib.hid (of_decide_eq_false hb.symm)
    have HB := Lib.hid (show Below w.heap.size w ((w.alloc (.cells #[.bool true, .slice P1 (ni (dig a.natAbs)).length k1] 24)).alloc (.cells #[.bool false, .slice P2 (ni (dig b.natAbs)).length k2] 24)) from by (repeat' (first | exact Below.refl _ _ | refine Below.drew ?_ | refine Below.alloc ?_ (by first | exact Nat.le_refl _ | (simp; done) | (simp; omega)) _)))
    clear ha hb
    go_enter Tryz.func90, Tryz.ntmps90
    go_wp2
    go_ret
    refine ⟨HB.out, -1, rfl, ?_⟩
    have h1 := ha2.out; have h2 := hb2.out
    unfold SignZ; omega
  · have ha2 := Lib.hid (of_decide_eq_true ha.symm)
    have hb2 := Lib.hid (of_decide_eq_true hb.symm)
    clear ha hb
    go_enter Tryz.func90, Tryz.ntmps90
    go_wp2_with fail
    refine (Cmp_any _ _ _ b.natAbs a.natAbs (hsb.out.step (by (repeat' (first | exact Below.refl _ _ | refine Below.drew ?_ | refine Below.alloc ?_ (by first | exact Nat.le_refl _ | (simp; done) | (simp; omega)) _)))) (hsa.out.step (by (repeat' (first | exact Below.refl _ _ | refine Below.drew ?_ | refine Below.alloc ?_ (by first | exact Nat.le_refl _ | (simp; done) | (simp; omega)) _))))).mono ?_
    rintro e w2 ⟨hb2', c, rfl, hc⟩
    have HC := Lib.hid hc
    have HB := Lib.hid ((show Below w.heap.size w _ from by (repeat' (first | exact Below.refl _ _ | refine Below.drew ?_ | refine Below.alloc ?_ (by first | exact Nat.le_refl _ | (simp; done) | (simp; omega)) _))).trans (hb2'.mono (by simp <;> omega)))
    clear hc hb2'
    go_wp2
    go_ret
    refine ⟨HB.out, c, rfl, ?_⟩
    have h1 := ha2.out; have h2 := hb2.out; have h3 := HC.out
    unfold SignOf at h3; unfold SignZ; omega

/-- Two ints are returned: an answer and a code. -/
def RetI (r : Int × Int) (e : Ending) : Prop := e = .returned (.tuple #[.int .i64 r.1, .int .i64 r.2])
def cmpZ (a b : Int) : Int × Int := (if a < b then -1 else if a = b then 0 else 1, 0)
set_option maxRecDepth 100000 in
set_option maxHeartbeats 1000000 in
theorem CmpL_any (w : World) (va vb : Value) (na nb : Bool) (la lb : List Int) (ha : LR w w.heap.size va na la) (hb : LR w w.heap.size vb nb lb) :
    Calls Tryz.prog 50 #[va, vb] w fun e w' => Below w.heap.size w w' ∧ RetI (A2 cmpZ (numOf na la) (numOf nb lb)) e := by
  obtain ⟨sa, rfl, hsa⟩ := ha
  obtain ⟨sb, rfl, hsb⟩ := hb
  obtain ⟨P1, k1, rfl, _⟩ := (show RI _ _ _ _ from hsa)
  obtain ⟨P2, k2, rfl, _⟩ := (show RI _ _ _ _ from hsb)
  replace hsa := Lib.hid hsa
  replace hsb := Lib.hid hsb
  obtain ⟨r, hr⟩ : ∃ r, r = (A2 cmpZ (numOf na la) (numOf nb lb)) := ⟨_, rfl⟩
  rw [← hr]
  replace hr := Lib.hid hr
  go_enter Tryz.func50, Tryz.ntmps50
  go_wp2_with fail
  refine (all_new _ _ na nb _ _ la lb 2 (by simp) (hsa.out.step (by (repeat' (first | exact Below.refl _ _ | refine Below.drew ?_ | refine Below.alloc ?_ (by first | exact Nat.le_refl _ | (simp; done) | (simp; omega)) _)))) (hsb.out.step (by (repeat' (first | exact Below.refl _ _ | refine Below.drew ?_ | refine Below.alloc ?_ (by first | exact Nat.le_refl _ | (simp; done) | (simp; omega)) _))))).mono ?_
  rintro e w2 ⟨hb2, c, rfl, hc⟩
  have La : LB w2 w.heap.size (.bool na) (.slice P1 la.length k1) := LB.of_block (by (repeat (first | (refine LB.new' ?_; simp; done) | refine LB.alloc ?_ _))) (hb2.block _ (by simp <;> omega))
  have Lb : LB w2 (w.heap.size + 1) (.bool nb) (.slice P2 lb.length k2) := LB.of_block (by (repeat (first | (refine LB.new' ?_; simp; done) | refine LB.alloc ?_ _))) (hb2.block _ (by simp <;> omega))
  have HB := Lib.hid ((show Below w.heap.size w _ from by (repeat' (first | exact Below.refl _ _ | refine Below.drew ?_ | refine Below.alloc ?_ (by first | exact Nat.le_refl _ | (simp; done) | (simp; omega)) _))).trans (hb2.mono (by simp <;> omega)))
  have qa0 := La.cell0
  have qa1 := La.cell1
  have qb0 := Lb.cell0
  have qb1 := Lb.cell1
  clear hb2
  rcases hc with ⟨hva, hvb, rfl⟩ | ⟨hv, rfl⟩
  · obtain ⟨a, hna, rfl, rfl, hla⟩ := numOf_valid hva
    obtain ⟨b, hnb, rfl, rfl, hlb⟩ := numOf_valid hvb
    have HR := Lib.hid (show r = cmpZ a b by rw [hr.out, hna, hnb]; rfl)
    have hsa2 := Lib.hid (hsa.out.step HB.out)
    have hsb2 := Lib.hid (hsb.out.step HB.out)
    clear hr hna hnb hva hvb hla hlb
    go_wp2_with fail
    refine (signed_any _ _ _ a b ⟨_, rfl, hsa2.out⟩ ⟨_, rfl, hsb2.out⟩).mono ?_
    rintro e w3 ⟨hb3, c, rfl, hc⟩
    have HC := Lib.hid hc
    have HB3 := Lib.hid (HB.out.trans (hb3.mono HB.out.size))
    clear hc hb3
    go_wp2
    go_ret2
    refine ⟨HB3.out, ?_⟩
    have hm : max (-1) (min c 1) = (cmpZ a b).1 := by
      have h := HC.out
      unfold SignZ at h
      unfold cmpZ
      dsimp only
      split
      · omega
      · split <;> omega
    rw [HR.out]
    show Ending.returned (.tuple #[.int .i64 (max (-1) (min c 1)), .int .i64 0]) = _
    rw [hm]; rfl
  · have HR := Lib.hid (hr.out.trans (A2_bad hv))
    clear hr
    go_wp2
    go_ret2
    refine ⟨HB.out, ?_⟩
    rw [HR.out]; rfl
end Go.Proofs.YtnbanlmkoljghaaGreatDoor
