/- long.both, Mul, Gcd. -/
import Derived.Test.YtnbanlmkoljghaaGreatDoorTold
import Derived.Test.YtnbanlmkoljghaaGreatDoorRoot
namespace Go.Proofs.YtnbanlmkoljghaaGreatDoor
open Go Go.RowKit Dig

theorem LB.new' {w : World} {b : Nat} {x y : Value} (h : b = w.heap.size) : LB (w.alloc (.cells #[x, y] 24)) b x y := by subst h; exact LB.new w x y

theorem all_new (v : World) (g : Nat) (na nb : Bool) (sa sb : Value) (la lb : List Int) (cap : Nat) (hg : g = v.heap.size) (ha : RI v v.heap.size sa la) (hb : RI v v.heap.size sb lb) :
    Calls Tryz.prog 67 #[.slice (some ⟨g, 0, none⟩) 2 cap] (v.alloc (.cells #[.bool na, sa, .bool nb, sb] 24)) fun e w' => Below (v.heap.size + 1) (v.alloc (.cells #[.bool na, sa, .bool nb, sb] 24)) w' ∧ ∃ c, e = .returned (.int .i64 c) ∧ AllOf na la nb lb c := by
  subst hg
  have hh := heap_alloc_new v (.cells #[.bool na, sa, .bool nb, sb] 24)
  have hbl : Below v.heap.size v (v.alloc (.cells #[.bool na, sa, .bool nb, sb] 24)) := (Below.refl _ _).alloc (Nat.le_refl _) _
  have h := all_any (v.alloc (.cells #[.bool na, sa, .bool nb, sb] 24)) v.heap.size na nb sa sb la lb cap (by simp only [World.cell?, hh]; rfl) (by simp only [World.cell?, hh]; rfl) (by simp only [World.cell?, hh]; rfl) (by simp only [World.cell?, hh]; rfl) (by simp) (ha.step hbl) (hb.step hbl)
  have e : (v.alloc (.cells #[.bool na, sa, .bool nb, sb] 24)).heap.size = v.heap.size + 1 := by simp
  rw [e] at h
  exact h
theorem dig_len_mul (a b : Nat) : (dig (a * b)).length ≤ (dig a).length + (dig b).length := by
  rw [dig_len_le, bp_add]
  exact Nat.mul_lt_mul'' (dig_lt a) (dig_lt b)
theorem A2_bad {f : Int → Int → Int × Int} {na nb : Bool} {la lb : List Int} (h : ¬ (Valid na la ∧ Valid nb lb)) : A2 f (numOf na la) (numOf nb lb) = (0, 30) := by
  by_cases ha : Valid na la
  · have hb : ¬ Valid nb lb := fun hb => h ⟨ha, hb⟩
    rw [numOf_bad hb]
    cases numOf na la <;> rfl
  · rw [numOf_bad ha]; rfl

set_option maxRecDepth 100000 in
set_option maxHeartbeats 1000000 in
theorem both_times (w : World) (va vb : Value) (na nb neg : Bool) (la lb : List Int) (ha : LR w w.heap.size va na la) (hb : LR w w.heap.size vb nb lb) :
    Calls Tryz.prog 63 #[va, vb, .bool neg, .func (.func 64) #[] #[]] w fun e w' => Below w.heap.size w w' ∧ RetL w' (A2 (fun a b => toldZ (if neg then -((a.natAbs * b.natAbs : Nat) : Int) else ((a.natAbs * b.natAbs : Nat) : Int))) (numOf na la) (numOf nb lb)) e := by
  obtain ⟨sa, rfl, hsa⟩ := ha
  obtain ⟨sb, rfl, hsb⟩ := hb
  obtain ⟨P1, k1, rfl, _⟩ := (show RI _ _ _ _ from hsa)
  obtain ⟨P2, k2, rfl, _⟩ := (show RI _ _ _ _ from hsb)
  replace hsa := Lib.hid hsa
  replace hsb := Lib.hid hsb
  obtain ⟨r, hr⟩ : ∃ r, r = (A2 (fun a b => toldZ (if neg then -((a.natAbs * b.natAbs : Nat) : Int) else ((a.natAbs * b.natAbs : Nat) : Int))) (numOf na la) (numOf nb lb)) := ⟨_, rfl⟩
  rw [← hr]
  replace hr := Lib.hid hr
  go_enter Tryz.func63, Tryz.ntmps63
  go_wp2_with fail
  refine (all_new _ _ na nb _ _ la lb 2 (by simp) (hsa.out.step (by (repeat' (first | exact Below.refl _ _ | refine Below.drew ?_ | refine Below.alloc ?_ (by first | exact Nat.le_refl _ | (simp; done) | (simp; omega)) _)))) (hsb.out.step (by (repeat' (first | exact Below.refl _ _ | refine Below.drew ?_ | refine Below.alloc ?_ (by first | exact Nat.le_refl _ | (simp; done) | (simp; omega)) _))))).mono ?_
  rintro e w2 ⟨hb2, c, rfl, hc⟩
  have La : LB w2 w.heap.size (.bool na) (.slice P1 la.length k1) := LB.of_block (by (repeat (first | (refine LB.new' ?_; simp; done) | refine LB.alloc ?_ _))) (hb2.block _ (by simp <;> omega))
  have Lb : LB w2 (w.heap.size + 1) (.bool nb) (.slice P2 lb.length k2) := LB.of_block (by (repeat (first | (refine LB.new' ?_; simp; done) | refine LB.alloc ?_ _))) (hb2.block _ (by simp <;> omega))
  have Lr : LB w2 (w.heap.size + 1 + 1) (.bool false) (.slice none 0 0) := LB.of_block (by (repeat (first | (refine LB.new' ?_; simp; done) | refine LB.alloc ?_ _))) (hb2.block _ (by simp <;> omega))
  have HB := Lib.hid ((show Below w.heap.size w _ from by (repeat' (first | exact Below.refl _ _ | refine Below.drew ?_ | refine Below.alloc ?_ (by first | exact Nat.le_refl _ | (simp; done) | (simp; omega)) _))).trans (hb2.mono (by simp <;> omega)))
  have qa0 := La.cell0
  have qa1 := La.cell1
  have qb0 := Lb.cell0
  have qb1 := Lb.cell1
  have qr0 := Lr.cell0
  have qr1 := Lr.cell1
  have qr2 := Lr.frozen 0
  have qr3 := Lr.frozen 1
  rcases hc with ⟨hva, hvb, rfl⟩ | ⟨hv, rfl⟩
  · obtain ⟨a, hna, rfl, rfl, hla⟩ := numOf_valid hva
    obtain ⟨b, hnb, rfl, rfl, hlb⟩ := numOf_valid hvb
    have hsa2 := Lib.hid (hsa.out.step HB.out)
    have hsb2 := Lib.hid (hsb.out.step HB.out)
    replace hva := Lib.hid hva
    replace hvb := Lib.hid hvb
    have hr2 : r = toldZ (if neg then -((a.natAbs * b.natAbs : Nat) : Int) else ((a.natAbs * b.natAbs : Nat) : Int)) := by
      have := hr.out
      rwa [hna, hnb] at this
    have HR := Lib.hid hr2
    clear hr hr2 hna hnb
    go_wp2_with fail
    refine (Times_any _ _ _ a.natAbs b.natAbs hsa2.out hsb2.out (by omega) (by omega)).mono ?_
    rintro e w3 ⟨hb3, v3, rfl, hv3⟩
    have hp := Lib.hid hv3
    clear hv3
    have Lr3 := Lr.step hb3
    have HB3 := Lib.hid (HB.out.trans (hb3.mono HB.out.size))
    clear qa0 qa1 qb0 qb1 qr0 qr1 qr2 qr3 hb3
    go_wp2_with fail
    refine (told_any _ _ neg _ hp.out (by have := dig_len_mul a.natAbs b.natAbs; omega)).mono ?_
    rintro e w4 ⟨hb4, hret⟩
    rw [← HR.out] at hret
    obtain ⟨v4, rfl, s4, rfl, hs4⟩ := hret
    have Lr4 := Lr3.step hb4
    have qr0 := Lr4.cell0
    have qr1 := Lr4.cell1
    have qr2 := Lr4.frozen 0
    have qr3 := Lr4.frozen 1
    obtain ⟨A4, k4, rfl, _⟩ := (show RI _ _ _ _ from hs4)
    replace hs4 := Lib.hid hs4
    have HB4 := Lib.hid (HB3.out.trans (hb4.mono HB3.out.size))
    clear hb4
    go_wp2
    (try simp only [Exit.inBlock, Exit.then])
    exact end_put rfl Lr4 HB4.out (by omega) hs4.out rfl rfl rfl rfl
  · have HR := Lib.hid (hr.out.trans (A2_bad hv))
    clear hr
    go_wp2
    (try simp only [Exit.inBlock, Exit.then])
    exact end_zero rfl Lr HB.out (by omega) HR.out rfl rfl
theorem mul_sign (a b : Int) : (if (!(decide (a < 0) == decide (b < 0))) then -((a.natAbs * b.natAbs : Nat) : Int) else ((a.natAbs * b.natAbs : Nat) : Int)) = a * b := by
  rw [Int.natCast_mul]
  by_cases ha : a < 0 <;> by_cases hb : b < 0
  · rw [decide_eq_true ha, decide_eq_true hb, if_neg (by simp), Int.ofNat_natAbs_of_nonpos (by omega), Int.ofNat_natAbs_of_nonpos (by omega), Int.neg_mul_neg]
  · rw [decide_eq_true ha, decide_eq_false hb, if_pos (by simp), Int.ofNat_natAbs_of_nonpos (by omega), Int.natAbs_of_nonneg (by omega), Int.neg_mul, Int.neg_neg]
  · rw [decide_eq_false ha, decide_eq_true hb, if_pos (by simp), Int.natAbs_of_nonneg (by omega), Int.ofNat_natAbs_of_nonpos (by omega), Int.mul_neg, Int.neg_neg]
  · rw [decide_eq_false ha, decide_eq_false hb, if_neg (by simp), Int.natAbs_of_nonneg (by omega), Int.natAbs_of_nonneg (by omega)]

set_option maxRecDepth 100000 in
set_option maxHeartbeats 1000000 in
theorem Mul_any (w : World) (va vb : Value) (na nb : Bool) (la lb : List Int) (ha : LR w w.heap.size va na la) (hb : LR w w.heap.size vb nb lb) :
    Calls Tryz.prog 19 #[va, vb] w fun e w' => Below w.heap.size w w' ∧ RetL w' (A2 (fun a b => toldZ (a * b)) (numOf na la) (numOf nb lb)) e := by
  obtain ⟨sa, rfl, hsa⟩ := ha
  obtain ⟨sb, rfl, hsb⟩ := hb
  obtain ⟨P1, k1, rfl, _⟩ := (show RI _ _ _ _ from hsa)
  obtain ⟨P2, k2, rfl, _⟩ := (show RI _ _ _ _ from hsb)
  replace hsa := Lib.hid hsa
  replace hsb := Lib.hid hsb
  obtain ⟨r, hr⟩ : ∃ r, r = (A2 (fun a b => toldZ (a * b)) (numOf na la) (numOf nb lb)) := ⟨_, rfl⟩
  rw [← hr]
  have HR : Hid (A2 (fun a b => toldZ (if (!(na == nb)) then -((a.natAbs * b.natAbs : Nat) : Int) else ((a.natAbs * b.natAbs : Nat) : Int))) (numOf na la) (numOf nb lb) = r) := by
    refine Lib.hid ?_
    rw [hr]
    by_cases hv : Valid na la ∧ Valid nb lb
    · obtain ⟨a, hna, rfl, rfl, hla⟩ := numOf_valid hv.1
      obtain ⟨b, hnb, rfl, rfl, hlb⟩ := numOf_valid hv.2
      rw [hna, hnb]
      show toldZ _ = toldZ _
      rw [mul_sign]
    · rw [A2_bad hv, A2_bad hv]
  clear hr
  go_enter Tryz.func19, Tryz.ntmps19
  go_wp2_with fail
  refine (both_times _ _ _ na nb _ la lb ⟨_, rfl, hsa.out.step (by (repeat' (first | exact Below.refl _ _ | refine Below.drew ?_ | refine Below.alloc ?_ (by first | exact Nat.le_refl _ | (simp; done) | (simp; omega)) _)))⟩ ⟨_, rfl, hsb.out.step (by (repeat' (first | exact Below.refl _ _ | refine Below.drew ?_ | refine Below.alloc ?_ (by first | exact Nat.le_refl _ | (simp; done) | (simp; omega)) _)))⟩).mono ?_
  rintro e w2 ⟨hb2, hret⟩
  rw [HR.out] at hret
  obtain ⟨v4, rfl, s4, rfl, hs4⟩ := hret
  obtain ⟨A4, k4, rfl, _⟩ := (show RI _ _ _ _ from hs4)
  replace hs4 := Lib.hid hs4
  have Lr : LB w2 (w.heap.size + 1 + 1) (.bool false) (.slice none 0 0) := LB.of_block (by (repeat (first | (refine LB.new' ?_; simp; done) | refine LB.alloc ?_ _))) (hb2.block _ (by simp <;> omega))
  have HB := Lib.hid ((show Below w.heap.size w _ from by (repeat' (first | exact Below.refl _ _ | refine Below.drew ?_ | refine Below.alloc ?_ (by first | exact Nat.le_refl _ | (simp; done) | (simp; omega)) _))).trans (hb2.mono (by simp <;> omega)))
  have qr0 := Lr.cell0
  have qr1 := Lr.cell1
  have qr2 := Lr.frozen 0
  have qr3 := Lr.frozen 1
  clear hb2
  go_wp2
  (try simp only [Exit.inBlock, Exit.then])
  exact end_put rfl Lr HB.out (by omega) hs4.out rfl rfl rfl rfl

theorem gcd_sign (a b : Int) : (if false then -((Nat.gcd a.natAbs b.natAbs : Nat) : Int) else ((Nat.gcd a.natAbs b.natAbs : Nat) : Int)) = (Int.gcd a b : Int) := rfl
theorem dig_len_gcd (a b : Nat) {n : Nat} (ha : (dig a).length ≤ n) (hb : (dig b).length ≤ n) : (dig (Nat.gcd a b)).length ≤ n := by
  rcases Nat.eq_zero_or_pos a with h | h
  · subst h; rwa [Nat.gcd_zero_left]
  · exact Nat.le_trans (dig_len_mono (Nat.gcd_le_left b h)) ha

set_option maxRecDepth 100000 in
set_option maxHeartbeats 1000000 in
theorem both_common (w : World) (va vb : Value) (na nb neg : Bool) (la lb : List Int) (ha : LR w w.heap.size va na la) (hb : LR w w.heap.size vb nb lb) :
    Calls Tryz.prog 63 #[va, vb, .bool neg, .func (.func 71) #[] #[]] w fun e w' => Below w.heap.size w w' ∧ RetL w' (A2 (fun a b => toldZ (if neg then -((Nat.gcd a.natAbs b.natAbs : Nat) : Int) else ((Nat.gcd a.natAbs b.natAbs : Nat) : Int))) (numOf na la) (numOf nb lb)) e := by
  obtain ⟨sa, rfl, hsa⟩ := ha
  obtain ⟨sb, rfl, hsb⟩ := hb
  obtain ⟨P1, k1, rfl, _⟩ := (show RI _ _ _ _ from hsa)
  obtain ⟨P2, k2, rfl, _⟩ := (show RI _ _ _ _ from hsb)
  replace hsa := Lib.hid hsa
  replace hsb := Lib.hid hsb
  obtain ⟨r, hr⟩ : ∃ r, r = (A2 (fun a b => toldZ (if neg then -((Nat.gcd a.natAbs b.natAbs : Nat) : Int) else ((Nat.gcd a.natAbs b.natAbs : Nat) : Int))) (numOf na la) (numOf nb lb)) := ⟨_, rfl⟩
  rw [← hr]
  replace hr := Lib.hid hr
  go_enter Tryz.func63, Tryz.ntmps63
  go_wp2_with fail
  refine (all_new _ _ na nb _ _ la lb 2 (by simp) (hsa.out.step (by (repeat' (first | exact Below.refl _ _ | refine Below.drew ?_ | refine Below.alloc ?_ (by first | exact Nat.le_refl _ | (simp; done) | (simp; omega)) _)))) (hsb.out.step (by (repeat' (first | exact Below.refl _ _ | refine Below.drew ?_ | refine Below.alloc ?_ (by first | exact Nat.le_refl _ | (simp; done) | (simp; omega)) _))))).mono ?_
  rintro e w2 ⟨hb2, c, rfl, hc⟩
  have La : LB w2 w.heap.size (.bool na) (.slice P1 la.length k1) := LB.of_block (by (repeat (first | (refine LB.new' ?_; simp; done) | refine LB.alloc ?_ _))) (hb2.block _ (by simp <;> omega))
  have Lb : LB w2 (w.heap.size + 1) (.bool nb) (.slice P2 lb.length k2) := LB.of_block (by (repeat (first | (refine LB.new' ?_; simp; done) | refine LB.alloc ?_ _))) (hb2.block _ (by simp <;> omega))
  have Lr : LB w2 (w.heap.size + 1 + 1) (.bool false) (.slice none 0 0) := LB.of_block (by (repeat (first | (refine LB.new' ?_; simp; done) | refine LB.alloc ?_ _))) (hb2.block _ (by simp <;> omega))
  have HB := Lib.hid ((show Below w.heap.size w _ from by (repeat' (first | exact Below.refl _ _ | refine Below.drew ?_ | refine Below.alloc ?_ (by first | exact Nat.le_refl _ | (simp; done) | (simp; omega)) _))).trans (hb2.mono (by simp <;> omega)))
  have qa0 := La.cell0
  have qa1 := La.cell1
  have qb0 := Lb.cell0
  have qb1 := Lb.cell1
  have qr0 := Lr.cell0
  have qr1 := Lr.cell1
  have qr2 := Lr.frozen 0
  have qr3 := Lr.frozen 1
  rcases hc with ⟨hva, hvb, rfl⟩ | ⟨hv, rfl⟩
  · obtain ⟨a, hna, rfl, rfl, hla⟩ := numOf_valid hva
    obtain ⟨b, hnb, rfl, rfl, hlb⟩ := numOf_valid hvb
    have hsa2 := Lib.hid (hsa.out.step HB.out)
    have hsb2 := Lib.hid (hsb.out.step HB.out)
    replace hva := Lib.hid hva
    replace hvb := Lib.hid hvb
    have hr2 : r = toldZ (if neg then -((Nat.gcd a.natAbs b.natAbs : Nat) : Int) else ((Nat.gcd a.natAbs b.natAbs : Nat) : Int)) := by
      have := hr.out
      rwa [hna, hnb] at this
    have HR := Lib.hid hr2
    clear hr hr2 hna hnb
    go_wp2_with fail
    refine (Common_any _ _ _ a.natAbs b.natAbs hsa2.out hsb2.out (by omega) (by omega)).mono ?_
    rintro e w3 ⟨hb3, v3, rfl, hv3⟩
    have hp := Lib.hid hv3
    clear hv3
    have Lr3 := Lr.step hb3
    have HB3 := Lib.hid (HB.out.trans (hb3.mono HB.out.size))
    clear qa0 qa1 qb0 qb1 qr0 qr1 qr2 qr3 hb3
    go_wp2_with fail
    refine (told_any _ _ neg _ hp.out (by have := dig_len_gcd a.natAbs b.natAbs hla hlb; omega)).mono ?_
    rintro e w4 ⟨hb4, hret⟩
    rw [← HR.out] at hret
    obtain ⟨v4, rfl, s4, rfl, hs4⟩ := hret
    have Lr4 := Lr3.step hb4
    have qr0 := Lr4.cell0
    have qr1 := Lr4.cell1
    have qr2 := Lr4.frozen 0
    have qr3 := Lr4.frozen 1
    obtain ⟨A4, k4, rfl, _⟩ := (show RI _ _ _ _ from hs4)
    replace hs4 := Lib.hid hs4
    have HB4 := Lib.hid (HB3.out.trans (hb4.mono HB3.out.size))
    clear hb4
    go_wp2
    (try simp only [Exit.inBlock, Exit.then])
    exact end_put rfl Lr4 HB4.out (by omega) hs4.out rfl rfl rfl rfl
  · have HR := Lib.hid (hr.out.trans (A2_bad hv))
    clear hr
    go_wp2
    (try simp only [Exit.inBlock, Exit.then])
    exact end_zero rfl Lr HB.out (by omega) HR.out rfl rfl
set_option maxRecDepth 100000 in
set_option maxHeartbeats 1000000 in
theorem Gcd_any (w : World) (va vb : Value) (na nb : Bool) (la lb : List Int) (ha : LR w w.heap.size va na la) (hb : LR w w.heap.size vb nb lb) :
    Calls Tryz.prog 25 #[va, vb] w fun e w' => Below w.heap.size w w' ∧ RetL w' (A2 (fun a b => toldZ (Int.gcd a b : Int)) (numOf na la) (numOf nb lb)) e := by
  obtain ⟨sa, rfl, hsa⟩ := ha
  obtain ⟨sb, rfl, hsb⟩ := hb
  obtain ⟨P1, k1, rfl, _⟩ := (show RI _ _ _ _ from hsa)
  obtain ⟨P2, k2, rfl, _⟩ := (show RI _ _ _ _ from hsb)
  replace hsa := Lib.hid hsa
  replace hsb := Lib.hid hsb
  obtain ⟨r, hr⟩ : ∃ r, r = (A2 (fun a b => toldZ (Int.gcd a b : Int)) (numOf na la) (numOf nb lb)) := ⟨_, rfl⟩
  rw [← hr]
  have HR : Hid (A2 (fun a b => toldZ (if false then -((Nat.gcd a.natAbs b.natAbs : Nat) : Int) else ((Nat.gcd a.natAbs b.natAbs : Nat) : Int))) (numOf na la) (numOf nb lb) = r) := by
    refine Lib.hid ?_
    rw [hr]
    by_cases hv : Valid na la ∧ Valid nb lb
    · obtain ⟨a, hna, rfl, rfl, hla⟩ := numOf_valid hv.1
      obtain ⟨b, hnb, rfl, rfl, hlb⟩ := numOf_valid hv.2
      rw [hna, hnb]
      show toldZ _ = toldZ _
      rw [gcd_sign]
    · rw [A2_bad hv, A2_bad hv]
  clear hr
  go_enter Tryz.func25, Tryz.ntmps25
  go_wp2_with fail
  refine (both_common _ _ _ na nb _ la lb ⟨_, rfl, hsa.out.step (by (repeat' (first | exact Below.refl _ _ | refine Below.drew ?_ | refine Below.alloc ?_ (by first | exact Nat.le_refl _ | (simp; done) | (simp; omega)) _)))⟩ ⟨_, rfl, hsb.out.step (by (repeat' (first | exact Below.refl _ _ | refine Below.drew ?_ | refine Below.alloc ?_ (by first | exact Nat.le_refl _ | (simp; done) | (simp; omega)) _)))⟩).mono ?_
  rintro e w2 ⟨hb2, hret⟩
  rw [HR.out] at hret
  obtain ⟨v4, rfl, s4, rfl, hs4⟩ := hret
  obtain ⟨A4, k4, rfl, _⟩ := (show RI _ _ _ _ from hs4)
  replace hs4 := Lib.hid hs4
  have Lr : LB w2 (w.heap.size + 1 + 1) (.bool false) (.slice none 0 0) := LB.of_block (by (repeat (first | (refine LB.new' ?_; simp; done) | refine LB.alloc ?_ _))) (hb2.block _ (by simp <;> omega))
  have HB := Lib.hid ((show Below w.heap.size w _ from by (repeat' (first | exact Below.refl _ _ | refine Below.drew ?_ | refine Below.alloc ?_ (by first | exact Nat.le_refl _ | (simp; done) | (simp; omega)) _))).trans (hb2.mono (by simp <;> omega)))
  have qr0 := Lr.cell0
  have qr1 := Lr.cell1
  have qr2 := Lr.frozen 0
  have qr3 := Lr.frozen 1
  clear hb2
  go_wp2
  (try simp only [Exit.inBlock, Exit.then])
  exact end_put rfl Lr HB.out (by omega) hs4.out rfl rfl rfl rfl

end Go.Proofs.YtnbanlmkoljghaaGreatDoor
