/- long.Sub, Neg. -/
import Derived.Test.YtnbanlmkoljghaaGreatDoorAdd
namespace Go.Proofs.YtnbanlmkoljghaaGreatDoor
open Go Go.RowKit Dig

theorem neg_sign (b : Int) : (!(decide (b < 0)) && decide (0 < (dig b.natAbs).length)) = decide (-b < 0) := by
  rcases Int.lt_trichotomy b 0 with h | h | h
  · rw [decide_eq_true h, decide_eq_false (by omega : ¬ -b < 0)]; rfl
  · subst h
    rw [show (0 : Int).natAbs = 0 from rfl, dig_zero]; decide
  · have := dig_len_pos (n := b.natAbs) (by omega)
    rw [decide_eq_false (by omega : ¬ b < 0), decide_eq_true (by omega : -b < 0), decide_eq_true this]; rfl

set_option maxRecDepth 100000 in
set_option maxHeartbeats 1000000 in
theorem Sub_any (w : World) (va vb : Value) (na nb : Bool) (la lb : List Int) (ha : LR w w.heap.size va na la) (hb : LR w w.heap.size vb nb lb) :
    Calls Tryz.prog 44 #[va, vb] w fun e w' => Below w.heap.size w w' ∧ RetL w' (A2 (fun a b => toldZ (a - b)) (numOf na la) (numOf nb lb)) e := by
  obtain ⟨sa, rfl, hsa⟩ := ha
  obtain ⟨sb, rfl, hsb⟩ := hb
  obtain ⟨P1, k1, rfl, _⟩ := (show RI _ _ _ _ from hsa)
  obtain ⟨P2, k2, rfl, _⟩ := (show RI _ _ _ _ from hsb)
  replace hsa := Lib.hid hsa
  replace hsb := Lib.hid hsb
  obtain ⟨r, hr⟩ : ∃ r, r = (A2 (fun a b => toldZ (a - b)) (numOf na la) (numOf nb lb)) := ⟨_, rfl⟩
  rw [← hr]
  replace hr := Lib.hid hr
  go_enter Tryz.func44, Tryz.ntmps44
  go_wp2_with fail
  refine (all_new _ _ na nb _ _ la lb 2 (by simp) (hsa.out.step (by (repeat' (first | exact Below.refl _ _ | refine Below.drew ?_ | refine Below.alloc ?_ (by first | exact Nat.le_refl _ | (simp; done) | (simp; omega)) _)))) (hsb.out.step (by (repeat' (first | exact Below.refl _ _ | refine Below.drew ?_ | refine Below.alloc ?_ (by first | exact Nat.le_refl _ | (simp; done) | (simp; omega)) _))))).mono ?_
  rintro e w2 ⟨hb2, c, rfl, hc⟩
  have La : LB w2 w.heap.size (.bool na) (.slice P1 la.length k1) := LB.of_block (by (repeat (first | (refine LB.new' ?_; simp; done) | refine LB.alloc ?_ _))) (hb2.block _ (by simp <;> omega))
  have Lb : LB w2 (w.heap.size + 1) (.bool nb) (.slice P2 lb.length k2) := LB.of_block (by (repeat (first | (refine LB.new' ?_; simp; done) | refine LB.alloc ?_ _))) (hb2.block _ (by simp <;> omega))
  have Lr : LB w2 (w.heap.size + 1 + 1) (.bool false) (.slice none 0 0) := LB.of_block (by (repeat (first | (refine LB.new' ?_; simp; done) | refine LB.alloc ?_ _))) (hb2.block _ (by simp <;> omega))
  have HB := Lib.hid ((show Below w.heap.size w _ from by (repeat' (first | exact Below.refl _ _ | refine Below.drew ?_ | refine Below.alloc ?_ (by first | exact Nat.le_refl _ | (simp; done) | (simp; omega)) _))).trans (hb2.mono (by simp <;> omega)))
  have qa0 := La.cell0
  have qa1 := La.cell1
  have qb0 := Lb.cell0
  have qb1 := Lb.cell1
  have qb2 := Lb.frozen 0
  have qr0 := Lr.cell0
  have qr1 := Lr.cell1
  have qr2 := Lr.frozen 0
  have qr3 := Lr.frozen 1
  clear hb2
  rcases hc with ⟨hva, hvb, rfl⟩ | ⟨hv, rfl⟩
  · obtain ⟨a, hna, rfl, rfl, hla⟩ := numOf_valid hva
    obtain ⟨b, hnb, rfl, rfl, hlb⟩ := numOf_valid hvb
    have hr2 : r = A2 (fun a b => toldZ (a + b)) (numOf (decide (a < 0)) (ni (dig a.natAbs))) (numOf (decide (-b < 0)) (ni (dig (-b).natAbs))) := by
      have := hr.out
      rw [hna, hnb] at this
      rw [numOf_dig hla, numOf_dig (by rw [Int.natAbs_neg]; exact hlb), this]
      show toldZ _ = toldZ _
      rw [Int.sub_eq_add_neg]
    have hr3 : ∀ q, q = decide (-b < 0) → A2 (fun a b => toldZ (a + b)) (numOf (decide (a < 0)) (ni (dig a.natAbs))) (numOf q (ni (dig b.natAbs))) = r := by
      rintro q rfl
      rw [hr2, Int.natAbs_neg]
    have HR := Lib.hid hr3
    have hsa2 := Lib.hid (hsa.out.step HB.out)
    have hsb2 := Lib.hid (hsb.out.step HB.out)
    clear hr hr2 hr3 hna hnb hva hvb hla hlb
    go_wp2_with fail
    · have hq := neg_sign b
      rw [← ni_length] at hq
      replace hq := Lib.hid hq
      refine (Add_any _ _ _ _ _ _ _ ⟨_, rfl, (hsa2.out.setLB Lb 0 _).more (by simp [World.setCell])⟩ ⟨_, rfl, (hsb2.out.setLB Lb 0 _).more (by simp [World.setCell])⟩).mono ?_
      rintro e w3 ⟨hb3, hret⟩
      rw [HR.out _ hq.out] at hret
      obtain ⟨v4, rfl, s4, rfl, hs4⟩ := hret
      obtain ⟨A4, k4, rfl, _⟩ := (show RI _ _ _ _ from hs4)
      replace hs4 := Lib.hid hs4
      have Lr4 := (Lr.far (p := ⟨w.heap.size + 1, 0, none⟩) (by simp) _).step hb3
      have HB4 := Lib.hid ((HB.out.setCell (p := ⟨w.heap.size + 1, 0, none⟩) (by simp) _).trans (hb3.mono (by have := HB.out.size; simpa [World.setCell] using this)))
      clear qa0 qa1 qb0 qb1 qb2 qr0 qr1 qr2 qr3 hb3
      have qr0 := Lr4.cell0
      have qr1 := Lr4.cell1
      have qr2 := Lr4.frozen 0
      have qr3 := Lr4.frozen 1
      go_wp2
      (try simp only [Exit.inBlock, Exit.then])
      exact end_put rfl Lr4 HB4.out (by omega) hs4.out rfl rfl rfl rfl
    · have hq : false = decide (-b < 0) := by
        rename_i h
        first | (symm; exact decide_eq_false (by omega)) | skip
      replace hq := Lib.hid hq
      refine (Add_any _ _ _ _ _ _ _ ⟨_, rfl, (hsa2.out.setLB Lb 0 _).more (by simp [World.setCell])⟩ ⟨_, rfl, (hsb2.out.setLB Lb 0 _).more (by simp [World.setCell])⟩).mono ?_
      rintro e w3 ⟨hb3, hret⟩
      rw [HR.out _ hq.out] at hret
      obtain ⟨v4, rfl, s4, rfl, hs4⟩ := hret
      obtain ⟨A4, k4, rfl, _⟩ := (show RI _ _ _ _ from hs4)
      replace hs4 := Lib.hid hs4
      have Lr4 := (Lr.far (p := ⟨w.heap.size + 1, 0, none⟩) (by simp) _).step hb3
      have HB4 := Lib.hid ((HB.out.setCell (p := ⟨w.heap.size + 1, 0, none⟩) (by simp) _).trans (hb3.mono (by have := HB.out.size; simpa [World.setCell] using this)))
      clear qa0 qa1 qb0 qb1 qb2 qr0 qr1 qr2 qr3 hb3
      have qr0 := Lr4.cell0
      have qr1 := Lr4.cell1
      have qr2 := Lr4.frozen 0
      have qr3 := Lr4.frozen 1
      go_wp2
      (try simp only [Exit.inBlock, Exit.then])
      exact end_put rfl Lr4 HB4.out (by omega) hs4.out rfl rfl rfl rfl
  · have HR := Lib.hid (hr.out.trans (A2_bad hv))
    clear hr
    go_wp2
    (try simp only [Exit.inBlock, Exit.then])
    exact end_zero rfl Lr HB.out (by omega) HR.out rfl rfl

theorem valid_nil : Valid false [] := ⟨by simp, fun j h => absurd h (by simp), fun h => absurd h (by simp), fun _ => rfl⟩
theorem numOf_nil : numOf false [] = some 0 := by
  have h := numOf_dig (z := 0) (by rw [show (0 : Int).natAbs = 0 from rfl, dig_zero]; simp)
  rw [show (0 : Int).natAbs = 0 from rfl, dig_zero] at h
  exact h
theorem A1_bad {f : Int → Int × Int} {na : Bool} {la : List Int} (h : ¬ Valid na la) : A1 f (numOf na la) = (0, 30) := by rw [numOf_bad h]; rfl
set_option maxRecDepth 100000 in
set_option maxHeartbeats 1000000 in
theorem Neg_any (w : World) (va : Value) (na : Bool) (la : List Int) (ha : LR w w.heap.size va na la) :
    Calls Tryz.prog 47 #[va] w fun e w' => Below w.heap.size w w' ∧ RetL w' (A1 (fun a => (-a, 0)) (numOf na la)) e := by
  obtain ⟨sa, rfl, hsa⟩ := ha
  obtain ⟨P1, k1, rfl, _⟩ := (show RI _ _ _ _ from hsa)
  replace hsa := Lib.hid hsa
  obtain ⟨r, hr⟩ : ∃ r, r = A1 (fun a => (-a, 0)) (numOf na la) := ⟨_, rfl⟩
  rw [← hr]
  have HR : Hid (A2 (fun a b => toldZ (a - b)) (numOf false []) (numOf na la) = r) := by
    refine Lib.hid ?_
    rw [hr, numOf_nil]
    by_cases hv : Valid na la
    · obtain ⟨a, hna, rfl, rfl, hla⟩ := numOf_valid hv
      rw [hna]
      show toldZ (0 - a) = (-a, 0)
      rw [Int.zero_sub]
      unfold toldZ
      rw [Int.natAbs_neg, if_pos hla]
    · rw [numOf_bad hv]; rfl
  clear hr
  go_enter Tryz.func47, Tryz.ntmps47
  go_wp2_with fail
  refine (Sub_any _ _ _ false na [] la ⟨_, rfl, RI.nil _ _⟩ ⟨_, rfl, hsa.out.step (by (repeat' (first | exact Below.refl _ _ | refine Below.drew ?_ | refine Below.alloc ?_ (by first | exact Nat.le_refl _ | (simp; done) | (simp; omega)) _)))⟩).mono ?_
  rintro e w2 ⟨hb2, hret⟩
  rw [HR.out] at hret
  obtain ⟨v4, rfl, s4, rfl, hs4⟩ := hret
  obtain ⟨A4, k4, rfl, _⟩ := (show RI _ _ _ _ from hs4)
  replace hs4 := Lib.hid hs4
  have Lr : LB w2 (w.heap.size + 1) (.bool false) (.slice none 0 0) := LB.of_block (by (repeat (first | (refine LB.new' ?_; simp; done) | refine LB.alloc ?_ _))) (hb2.block _ (by simp <;> omega))
  have HB := Lib.hid ((show Below w.heap.size w _ from by (repeat' (first | exact Below.refl _ _ | refine Below.drew ?_ | refine Below.alloc ?_ (by first | exact Nat.le_refl _ | (simp; done) | (simp; omega)) _))).trans (hb2.mono (by simp <;> omega)))
  have qr0 := Lr.cell0
  have qr1 := Lr.cell1
  have qr2 := Lr.frozen 0
  have qr3 := Lr.frozen 1
  clear hb2
  go_wp2
  (try simp only [Exit.inBlock, Exit.then])
  exact end_put rfl Lr HB.out (by omega) hs4.out rfl rfl rfl rfl
end Go.Proofs.YtnbanlmkoljghaaGreatDoor
