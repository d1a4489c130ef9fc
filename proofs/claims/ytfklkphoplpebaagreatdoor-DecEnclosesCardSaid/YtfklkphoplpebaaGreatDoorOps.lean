/- Texts put together: long.both, Mul, Gcd. long.Add, Sub, Neg. long.Sub, Neg. long.Sqrt. long.Div. long.signed, Cmp. long.Of. The reference's made: a Long of digits, without the highest zeros. Words that many walks use: Longs of numbers, how many digits they have; what calls, draws, stores leave of what is known. The reference's Minus. -/
import Derived.Test.YtfklkphoplpebaaGreatDoorLow
import Derived.Test.YtfklkphoplpebaaGreatDoorSize
import Derived.Maps.AppendAt
import Derived.Deep.RegionHeld3
import Derived.Deep.RegionLaw
import Derived.Deep.AppendLies
import Derived.Deep.DeepCutAuto
import Derived.Deep.CutBlock
import Derived.Deep.LoopGhost
import Derived.Deep.QuietTactic
import Derived.BigQuiet
import Derived.IntWalk
/- long.both, Mul, Gcd. -/
namespace Go.Proofs.YtfklkphoplpebaaGreatDoor
open Go Go.RowKit Dig

theorem LB.new' {w : World} {b : Nat} {x y : Value} (h : b = w.heap.size) : LB (w.alloc (.cells #[x, y] 66)) b x y := by subst h; exact LB.new w x y

theorem all_new (v : World) (g : Nat) (na nb : Bool) (sa sb : Value) (la lb : List Int) (cap : Nat) (hg : g = v.heap.size) (ha : RI v v.heap.size sa la) (hb : RI v v.heap.size sb lb) :
    Calls Tryz.prog 121 #[.slice (some ⟨g, 0, none⟩) 2 cap] (v.alloc (.cells #[.bool na, sa, .bool nb, sb] 66)) fun e w' => Below (v.heap.size + 1) (v.alloc (.cells #[.bool na, sa, .bool nb, sb] 66)) w' ∧ ∃ c, e = .returned (.int .i64 c) ∧ AllOf na la nb lb c := by
  subst hg
  have hh := heap_alloc_new v (.cells #[.bool na, sa, .bool nb, sb] 66)
  have hbl : Below v.heap.size v (v.alloc (.cells #[.bool na, sa, .bool nb, sb] 66)) := (Below.refl _ _).alloc (Nat.le_refl _) _
  have h := all_any (v.alloc (.cells #[.bool na, sa, .bool nb, sb] 66)) v.heap.size na nb sa sb la lb cap (by simp only [World.cell?, hh]; rfl) (by simp only [World.cell?, hh]; rfl) (by simp only [World.cell?, hh]; rfl) (by simp only [World.cell?, hh]; rfl) (by simp) (ha.step hbl) (hb.step hbl)
  have e : (v.alloc (.cells #[.bool na, sa, .bool nb, sb] 66)).heap.size = v.heap.size + 1 := by simp
  rw [e] at h
  exact h
theorem dig_len_mul (a b : Nat) : (dig (a * b)).length ≤ (dig a).length + (dig b).length := by
  rw [dig_len_le, bp_add]
  exact Nat.mul_lt_mul'' (dig_lt a) (dig_lt b)
theorem A2_bad {f : Int → Int → Int × Int} {na nb : Bool} {la lb : List Int} (h : ¬ (Valid na la ∧ Valid nb lb)) : A2 f (numOf na la) (numOf nb lb) = (0, 30) := by
  by_cases ha : Valid na la
  · have hb : ¬ Valid nb lb := fun hb => h ⟨ha, hb⟩
    rw [numOf_bad hb]
    cases numOf na la <;> rfl
  · rw [numOf_bad ha]; rfl

set_option maxRecDepth 100000 in
set_option maxHeartbeats 1000000 in
theorem both_times (w : World) (va vb : Value) (na nb neg : Bool) (la lb : List Int) (ha : LR w w.heap.size va na la) (hb : LR w w.heap.size vb nb lb) :
    Calls Tryz.prog 126 #[va, vb, .bool neg, .func (.func 127) #[] #[]] w fun e w' => Below w.heap.size w w' ∧ RetL w' (A2 (fun a b => toldZ (if neg then -((a.natAbs * b.natAbs : Nat) : Int) else ((a.natAbs * b.natAbs : Nat) : Int))) (numOf na la) (numOf nb lb)) e := by
  obtain ⟨sa, rfl, hsa⟩ := ha
  obtain ⟨sb, rfl, hsb⟩ := hb
  obtain ⟨P1, k1, rfl, _⟩ := (show RI _ _ _ _ from hsa)
  obtain ⟨P2, k2, rfl, _⟩ := (show RI _ _ _ _ from hsb)
  replace hsa := Lib.hid hsa
  replace hsb := Lib.hid hsb
  obtain ⟨r, hr⟩ : ∃ r, r = (A2 (fun a b => toldZ (if neg then -((a.natAbs * b.natAbs : Nat) : Int) else ((a.natAbs * b.natAbs : Nat) : Int))) (numOf na la) (numOf nb lb)) := ⟨_, rfl⟩
  rw [← hr]
  replace hr := Lib.hid hr
  go_enter Tryz.func126, Tryz.ntmps126
  go_wp2_with fail
  refine (all_new _ _ na nb _ _ la lb 2 (by simp) (hsa.out.step (by (repeat' (first | exact Below.refl _ _ | refine Below.drew ?_ | refine Below.alloc ?_ (by first | exact Nat.le_refl _ | (simp; done) | (simp; omega)) _)))) (hsb.out.step (by (repeat' (first | exact Below.refl _ _ | refine Below.drew ?_ | refine Below.alloc ?_ (by first | exact Nat.le_refl _ | (simp; done) | (simp; omega)) _))))).mono ?_
  rintro e w2 ⟨hb2, c, rfl, hc⟩
  have La : LB w2 w.heap.size (.bool na) (.slice P1 la.length k1) := LB.of_block (by (repeat (first | (refine LB.new' ?_; simp; done) | refine LB.alloc ?_ _))) (hb2.block _ (by simp <;> omega))
  have Lb : LB w2 (w.heap.size + 1) (.bool nb) (.slice P2 lb.length k2) := LB.of_block (by (repeat (first | (refine LB.new' ?_; simp; done) | refine LB.alloc ?_ _))) (hb2.block _ (by simp <;> omega))
  have Lr : LB w2 (w.heap.size + 1 + 1) (.bool false) (.slice none 0 0) := LB.of_block (by (repeat (first | (refine LB.new' ?_; simp; done) | refine LB.alloc ?_ _))) (hb2.block _ (by simp <;> omega))
  have HB := Lib.hid ((show Below w.heap.size w _ from by (repeat' (first | exact Below.refl _ _ | refine Below.drew ?_ | refine Below.alloc ?_ (by first | exact Nat.le_refl _ | (simp; done) | (simp; omega)) _))).trans (hb2.mono (by simp <;> omega)))
  have qa0 := La.cell0
  have qa1 := La.cell1
  have qb0 := Lb.cell0
  have qb1 := Lb.cell1
  have qr0 := Lr.cell0
  have qr1 := Lr.cell1
  have qr2 := Lr.frozen 0
  have qr3 := Lr.frozen 1
  rcases hc with ⟨hva, hvb, rfl⟩ | ⟨hv, rfl⟩
  · obtain ⟨a, hna, rfl, rfl, hla⟩ := numOf_valid hva
    obtain ⟨b, hnb, rfl, rfl, hlb⟩ := numOf_valid hvb
    have hsa2 := Lib.hid (hsa.out.step HB.out)
    have hsb2 := Lib.hid (hsb.out.step HB.out)
    replace hva := Lib.hid hva
    replace hvb := Lib.hid hvb
    have hr2 : r = toldZ (if neg then -((a.natAbs * b.natAbs : Nat) : Int) else ((a.natAbs * b.natAbs : Nat) : Int)) := by
      have := hr.out
      rwa [hna, hnb] at this
    have HR := Lib.hid hr2
    clear hr hr2 hna hnb
    go_wp2_with fail
    refine (Times_any _ _ _ a.natAbs b.natAbs hsa2.out hsb2.out (by omega) (by omega)).mono ?_
    rintro e w3 ⟨hb3, v3, rfl, hv3⟩
    have hp := Lib.hid hv3
    clear hv3
    have Lr3 := Lr.step hb3
    have HB3 := Lib.hid (HB.out.trans (hb3.mono HB.out.size))
    clear qa0 qa1 qb0 qb1 qr0 qr1 qr2 qr3 hb3
    go_wp2_with fail
    refine (told_any _ _ neg _ hp.out (by have := dig_len_mul a.natAbs b.natAbs; omega)).mono ?_
    rintro e w4 ⟨hb4, hret⟩
    rw [← HR.out] at hret
    obtain ⟨v4, rfl, s4, rfl, hs4⟩ := hret
    have Lr4 := Lr3.step hb4
    have qr0 := Lr4.cell0
    have qr1 := Lr4.cell1
    have qr2 := Lr4.frozen 0
    have qr3 := Lr4.frozen 1
    obtain ⟨A4, k4, rfl, _⟩ := (show RI _ _ _ _ from hs4)
    replace hs4 := Lib.hid hs4
    have HB4 := Lib.hid (HB3.out.trans (hb4.mono HB3.out.size))
    clear hb4
    go_wp2
    (try simp only [Exit.inBlock, Exit.then])
    exact end_put rfl Lr4 HB4.out (by omega) hs4.out rfl rfl rfl rfl
  · have HR := Lib.hid (hr.out.trans (A2_bad hv))
    clear hr
    go_wp2
    (try simp only [Exit.inBlock, Exit.then])
    exact end_zero rfl Lr HB.out (by omega) HR.out rfl rfl
theorem mul_sign (a b : Int) : (if (!(decide (a < 0) == decide (b < 0))) then -((a.natAbs * b.natAbs : Nat) : Int) else ((a.natAbs * b.natAbs : Nat) : Int)) = a * b := by
  rw [Int.natCast_mul]
  by_cases ha : a < 0 <;> by_cases hb : b < 0
  · rw [decide_eq_true ha, decide_eq_true hb, if_neg (by simp), Int.ofNat_natAbs_of_nonpos (by omega), Int.ofNat_natAbs_of_nonpos (by omega), Int.neg_mul_neg]
  · rw [decide_eq_true ha, decide_eq_false hb, if_pos (by simp), Int.ofNat_natAbs_of_nonpos (by omega), Int.natAbs_of_nonneg (by omega), Int.neg_mul, Int.neg_neg]
  · rw [decide_eq_false ha, decide_eq_true hb, if_pos (by simp), Int.natAbs_of_nonneg (by omega), Int.ofNat_natAbs_of_nonpos (by omega), Int.mul_neg, Int.neg_neg]
  · rw [decide_eq_false ha, decide_eq_false hb, if_neg (by simp), Int.natAbs_of_nonneg (by omega), Int.natAbs_of_nonneg (by omega)]

set_option maxRecDepth 100000 in
set_option maxHeartbeats 1000000 in
theorem Mul_any (w : World) (va vb : Value) (na nb : Bool) (la lb : List Int) (ha : LR w w.heap.size va na la) (hb : LR w w.heap.size vb nb lb) :
    Calls Tryz.prog 96 #[va, vb] w fun e w' => Below w.heap.size w w' ∧ RetL w' (A2 (fun a b => toldZ (a * b)) (numOf na la) (numOf nb lb)) e := by
  obtain ⟨sa, rfl, hsa⟩ := ha
  obtain ⟨sb, rfl, hsb⟩ := hb
  obtain ⟨P1, k1, rfl, _⟩ := (show RI _ _ _ _ from hsa)
  obtain ⟨P2, k2, rfl, _⟩ := (show RI _ _ _ _ from hsb)
  replace hsa := Lib.hid hsa
  replace hsb := Lib.hid hsb
  obtain ⟨r, hr⟩ : ∃ r, r = (A2 (fun a b => toldZ (a * b)) (numOf na la) (numOf nb lb)) := ⟨_, rfl⟩
  rw [← hr]
  have HR : Hid (A2 (fun a b => toldZ (if (!(na == nb)) then -((a.natAbs * b.natAbs : Nat) : Int) else ((a.natAbs * b.natAbs : Nat) : Int))) (numOf na la) (numOf nb lb) = r) := by
    refine Lib.hid ?_
    rw [hr]
    by_cases hv : Valid na la ∧ Valid nb lb
    · obtain ⟨a, hna, rfl, rfl, hla⟩ := numOf_valid hv.1
      obtain ⟨b, hnb, rfl, rfl, hlb⟩ := numOf_valid hv.2
      rw [hna, hnb]
      show toldZ _ = toldZ _
      rw [mul_sign]
    · rw [A2_bad hv, A2_bad hv]
  clear hr
  go_enter Tryz.func96, Tryz.ntmps96
  go_wp2_with fail
  refine (both_times _ _ _ na nb _ la lb ⟨_, rfl, hsa.out.step (by (repeat' (first | exact Below.refl _ _ | refine Below.drew ?_ | refine Below.alloc ?_ (by first | exact Nat.le_refl _ | (simp; done) | (simp; omega)) _)))⟩ ⟨_, rfl, hsb.out.step (by (repeat' (first | exact Below.refl _ _ | refine Below.drew ?_ | refine Below.alloc ?_ (by first | exact Nat.le_refl _ | (simp; done) | (simp; omega)) _)))⟩).mono ?_
  rintro e w2 ⟨hb2, hret⟩
  rw [HR.out] at hret
  obtain ⟨v4, rfl, s4, rfl, hs4⟩ := hret
  obtain ⟨A4, k4, rfl, _⟩ := (show RI _ _ _ _ from hs4)
  replace hs4 := Lib.hid hs4
  have Lr : LB w2 (w.heap.size + 1 + 1) (.bool false) (.slice none 0 0) := LB.of_block (by (repeat (first | (refine LB.new' ?_; simp; done) | refine LB.alloc ?_ _))) (hb2.block _ (by simp <;> omega))
  have HB := Lib.hid ((show Below w.heap.size w _ from by (repeat' (first | exact Below.refl _ _ | refine Below.drew ?_ | refine Below.alloc ?_ (by first | exact Nat.le_refl _ | (simp; done) | (simp; omega)) _))).trans (hb2.mono (by simp <;> omega)))
  have qr0 := Lr.cell0
  have qr1 := Lr.cell1
  have qr2 := Lr.frozen 0
  have qr3 := Lr.frozen 1
  clear hb2
  go_wp2
  (try simp only [Exit.inBlock, Exit.then])
  exact end_put rfl Lr HB.out (by omega) hs4.out rfl rfl rfl rfl

theorem gcd_sign (a b : Int) : (if false then -((Nat.gcd a.natAbs b.natAbs : Nat) : Int) else ((Nat.gcd a.natAbs b.natAbs : Nat) : Int)) = (Int.gcd a b : Int) := rfl
theorem dig_len_gcd (a b : Nat) {n : Nat} (ha : (dig a).length ≤ n) (hb : (dig b).length ≤ n) : (dig (Nat.gcd a b)).length ≤ n := by
  rcases Nat.eq_zero_or_pos a with h | h
  · subst h; rwa [Nat.gcd_zero_left]
  · exact Nat.le_trans (dig_len_mono (Nat.gcd_le_left b h)) ha

end Go.Proofs.YtfklkphoplpebaaGreatDoor

/- long.Add, Sub, Neg. -/
namespace Go.Proofs.YtfklkphoplpebaaGreatDoor
open Go Go.RowKit Dig

theorem add_like {a b : Int} (h : decide (a < 0) = decide (b < 0)) : (if decide (a < 0) then -((a.natAbs + b.natAbs : Nat) : Int) else ((a.natAbs + b.natAbs : Nat) : Int)) = a + b := by
  have h : a < 0 ↔ b < 0 := by simpa using h
  by_cases ha : a < 0
  · rw [decide_eq_true ha, if_pos rfl]; omega
  · rw [decide_eq_false ha, if_neg (by simp)]; omega
theorem add_less {a b : Int} (h : decide (a < 0) ≠ decide (b < 0)) (hl : a.natAbs < b.natAbs) : (if decide (b < 0) then -((b.natAbs - a.natAbs : Nat) : Int) else ((b.natAbs - a.natAbs : Nat) : Int)) = a + b := by
  have h : ¬ (a < 0 ↔ b < 0) := by simpa using h
  by_cases hb : b < 0
  · rw [decide_eq_true hb, if_pos rfl]; omega
  · rw [decide_eq_false hb, if_neg (by simp)]; omega
theorem add_more {a b : Int} (h : decide (a < 0) ≠ decide (b < 0)) (hl : ¬ a.natAbs < b.natAbs) : (if decide (a < 0) then -((a.natAbs - b.natAbs : Nat) : Int) else ((a.natAbs - b.natAbs : Nat) : Int)) = a + b := by
  have h : ¬ (a < 0 ↔ b < 0) := by simpa using h
  by_cases ha : a < 0
  · rw [decide_eq_true ha, if_pos rfl]; omega
  · rw [decide_eq_false ha, if_neg (by simp)]; omega
theorem dig_len_add (a b : Nat) {n : Nat} (ha : (dig a).length ≤ n) (hb : (dig b).length ≤ n) : (dig (a + b)).length ≤ n + 1 := by
  rw [dig_len_le, bp_succ]
  have := dig_len_le.1 ha
  have := dig_len_le.1 hb
  generalize bp n = z at *
  omega
theorem RN.drawn {w : World} {v : Value} {l : List Nat} (h : RN w w.heap.size v l) (n : Nat) : RN (w.drewN n) (w.drewN n).heap.size v l := h
theorem RN.drawn1 {w : World} {v : Value} {l : List Nat} (h : RN w w.heap.size v l) : RN w.drew w.drew.heap.size v l := h
theorem dig_len_sub (a b : Nat) {n : Nat} (ha : (dig a).length ≤ n) : (dig (a - b)).length ≤ n := Nat.le_trans (dig_len_mono (Nat.sub_le a b)) ha

set_option maxRecDepth 100000 in
set_option maxHeartbeats 1000000 in
theorem Add_any (w : World) (va vb : Value) (na nb : Bool) (la lb : List Int) (ha : LR w w.heap.size va na la) (hb : LR w w.heap.size vb nb lb) :
    Calls Tryz.prog 93 #[va, vb] w fun e w' => Below w.heap.size w w' ∧ RetL w' (A2 (fun a b => toldZ (a + b)) (numOf na la) (numOf nb lb)) e := by
  obtain ⟨sa, rfl, hsa⟩ := ha
  obtain ⟨sb, rfl, hsb⟩ := hb
  obtain ⟨P1, k1, rfl, _⟩ := (show RI _ _ _ _ from hsa)
  obtain ⟨P2, k2, rfl, _⟩ := (show RI _ _ _ _ from hsb)
  replace hsa := Lib.hid hsa
  replace hsb := Lib.hid hsb
  obtain ⟨r, hr⟩ : ∃ r, r = (A2 (fun a b => toldZ (a + b)) (numOf na la) (numOf nb lb)) := ⟨_, rfl⟩
  rw [← hr]
  replace hr := Lib.hid hr
  go_enter Tryz.func93, Tryz.ntmps93
  go_wp2_with fail
  refine (all_new _ _ na nb _ _ la lb 2 (by simp) (hsa.out.step (by (repeat' (first | exact Below.refl _ _ | refine Below.drew ?_ | refine Below.alloc ?_ (by first | exact Nat.le_refl _ | (simp; done) | (simp; omega)) _)))) (hsb.out.step (by (repeat' (first | exact Below.refl _ _ | refine Below.drew ?_ | refine Below.alloc ?_ (by first | exact Nat.le_refl _ | (simp; done) | (simp; omega)) _))))).mono ?_
  rintro e w2 ⟨hb2, c, rfl, hc⟩
  have La : LB w2 w.heap.size (.bool na) (.slice P1 la.length k1) := LB.of_block (by (repeat (first | (refine LB.new' ?_; simp; done) | refine LB.alloc ?_ _))) (hb2.block _ (by simp <;> omega))
  have Lb : LB w2 (w.heap.size + 1) (.bool nb) (.slice P2 lb.length k2) := LB.of_block (by (repeat (first | (refine LB.new' ?_; simp; done) | refine LB.alloc ?_ _))) (hb2.block _ (by simp <;> omega))
  have Lr : LB w2 (w.heap.size + 1 + 1) (.bool false) (.slice none 0 0) := LB.of_block (by (repeat (first | (refine LB.new' ?_; simp; done) | refine LB.alloc ?_ _))) (hb2.block _ (by simp <;> omega))
  have HB := Lib.hid ((show Below w.heap.size w _ from by (repeat' (first | exact Below.refl _ _ | refine Below.drew ?_ | refine Below.alloc ?_ (by first | exact Nat.le_refl _ | (simp; done) | (simp; omega)) _))).trans (hb2.mono (by simp <;> omega)))
  have qa0 := La.cell0
  have qa1 := La.cell1
  have qb0 := Lb.cell0
  have qb1 := Lb.cell1
  have qr0 := Lr.cell0
  have qr1 := Lr.cell1
  have qr2 := Lr.frozen 0
  have qr3 := Lr.frozen 1
  clear hb2
  rcases hc with ⟨hva, hvb, rfl⟩ | ⟨hv, rfl⟩
  · obtain ⟨a, hna, ha0, ha1, hla⟩ := numOf_valid hva
    obtain ⟨b, hnb, hb0, hb1, hlb⟩ := numOf_valid hvb
    have hsa2 : RN w2 w2.heap.size (.slice P1 la.length k1) (dig a.natAbs) := by rw [RN, ← ha1]; exact hsa.out.step HB.out
    have hsb2 : RN w2 w2.heap.size (.slice P2 lb.length k2) (dig b.natAbs) := by rw [RN, ← hb1]; exact hsb.out.step HB.out
    have HSA := Lib.hid hsa2
    have HSB := Lib.hid hsb2
    have hr2 : r = toldZ (a + b) := by
      have := hr.out
      rwa [hna, hnb] at this
    have HA0 := Lib.hid ha0
    have HB0 := Lib.hid hb0
    have HLA := Lib.hid hla
    have HLB := Lib.hid hlb
    clear hr hna hnb hva hvb ha0 hb0 ha1 hb1 hsa2 hsb2 hsa hsb hla hlb
    by_cases hs : na = nb
    · have HS := Lib.hid hs
      have hs' : (na == nb) = true := by simpa using hs
      have hr3 : r = toldZ (if na then -((a.natAbs + b.natAbs : Nat) : Int) else ((a.natAbs + b.natAbs : Nat) : Int)) := by
        rw [hr2, HA0.out, add_like (by rw [← HA0.out, ← HB0.out]; exact HS.out)]
      have HR := Lib.hid hr3
      clear hr2 hr3 hs
      go_wp2
      go_quiet (fail)
      go_wp2
      go_region_with (first
        | (go_at_call 123; ((with_reducible refine (Plus_any _ (.slice P1 la.length k1) (.slice P2 lb.length k2) a.natAbs b.natAbs (by exact HSA.out.drawn _) (by exact HSB.out.drawn _) (by have := HLA.out; omega) (by have := HLB.out; omega)).mono ?_); rintro e w3 ⟨hb3, v3, rfl, hv3⟩; have La3 := (LB.step (LB.drewN La _) hb3); have qa3 := La3.cell0; have HV3 := Lib.hid hv3; have Lr3 := (LB.step (LB.drewN Lr _) hb3); have HB3 := Lib.hid ((below_drewN HB.out _).trans (hb3.mono (by exact HB.out.size))); clear hv3 hb3))
        | (go_at_call 122; ((with_reducible refine (told_any _ v3 na (a.natAbs + b.natAbs) (by exact HV3.out) (by have := dig_len_add a.natAbs b.natAbs HLA.out HLB.out; omega)).mono ?_); rintro e w4 ⟨hb4, hret⟩; rw [← HR.out] at hret; obtain ⟨v4, rfl, s4, rfl, hs4⟩ := hret; obtain ⟨A4, k4, rfl, _⟩ := (show RI _ _ _ _ from hs4); replace hs4 := Lib.hid hs4; have Lr4 := Lr3.step hb4; have qr0 := Lr4.cell0; have qr1 := Lr4.cell1; have qr2 := Lr4.frozen 0; have qr3 := Lr4.frozen 1; have HB4 := Lib.hid (HB3.out.trans (hb4.mono (by exact HB3.out.size))); clear hb4)))
      all_goals
        go_wp2
        (try simp only [Exit.inBlock, Exit.then])
        exact end_put rfl Lr4 HB4.out (by omega) hs4.out rfl rfl rfl rfl
    · have HS := Lib.hid hs
      have hs' : (na == nb) = false := by simpa using hs
      clear hs
      go_wp2
      go_quiet (fail)
      go_wp2_with fail
      refine (Cmp_any _ _ _ a.natAbs b.natAbs (HSA.out.drawn _) (HSB.out.drawn _)).mono ?_
      rintro e wc ⟨hbc, c, rfl, hc⟩
      have HSA := Lib.hid (RN.step (HSA.out.drawn _) hbc)
      have HSB := Lib.hid (RN.step (HSB.out.drawn _) hbc)
      have HB := Lib.hid ((below_drewN HB.out _).trans (hbc.mono (by exact HB.out.size)))
      have La := LB.step (LB.drewN La _) hbc
      have Lb := LB.step (LB.drewN Lb _) hbc
      have Lr := LB.step (LB.drewN Lr _) hbc
      clear qa0 qa1 qb0 qb1 qr0 qr1 qr2 qr3 hbc
      have qa0 := La.cell0
      have qb0 := Lb.cell0
      by_cases hlt : a.natAbs < b.natAbs
      · have hr3 : r = toldZ (if nb then -((b.natAbs - a.natAbs : Nat) : Int) else ((b.natAbs - a.natAbs : Nat) : Int)) := by
          rw [hr2, HB0.out, add_less (by rw [← HA0.out, ← HB0.out]; exact HS.out) hlt]
        have HR := Lib.hid hr3
        have hcc : c < 0 := hc.1.2 hlt
        have HLE := Lib.hid (Nat.le_of_lt hlt)
        clear hr2 hr3 hc hlt
        go_wp2
        go_region_with (first
          | (go_at_call 125; ((with_reducible refine (Minus_any _ (.slice P2 lb.length k2) (.slice P1 la.length k1) b.natAbs a.natAbs (by exact HSB.out.drawn1) (by exact HSA.out.drawn1) (by have := HLB.out; omega) HLE.out).mono ?_); rintro e w3 ⟨hb3, v3, rfl, hv3⟩; have La3 := (LB.step (LB.drew Lb) hb3); have qa3 := La3.cell0; have HV3 := Lib.hid hv3; have Lr3 := (LB.step (LB.drew Lr) hb3); have HB3 := Lib.hid (HB.out.drew.trans (hb3.mono (by exact HB.out.size))); clear hv3 hb3))
          | (go_at_call 122; ((with_reducible refine (told_any _ v3 nb (b.natAbs - a.natAbs) (by exact HV3.out) (by have := dig_len_sub b.natAbs a.natAbs HLB.out; omega)).mono ?_); rintro e w4 ⟨hb4, hret⟩; rw [← HR.out] at hret; obtain ⟨v4, rfl, s4, rfl, hs4⟩ := hret; obtain ⟨A4, k4, rfl, _⟩ := (show RI _ _ _ _ from hs4); replace hs4 := Lib.hid hs4; have Lr4 := Lr3.step hb4; have qr0 := Lr4.cell0; have qr1 := Lr4.cell1; have qr2 := Lr4.frozen 0; have qr3 := Lr4.frozen 1; have HB4 := Lib.hid (HB3.out.trans (hb4.mono (by exact HB3.out.size))); clear hb4)))
        all_goals
          go_wp2
          (try simp only [Exit.inBlock, Exit.then])
          exact end_put rfl Lr4 HB4.out (by omega) hs4.out rfl rfl rfl rfl
      · have hr3 : r = toldZ (if na then -((a.natAbs - b.natAbs : Nat) : Int) else ((a.natAbs - b.natAbs : Nat) : Int)) := by
          rw [hr2, HA0.out, add_more (by rw [← HA0.out, ← HB0.out]; exact HS.out) hlt]
        have HR := Lib.hid hr3
        have hcc : 0 ≤ c := by have := hc.1; omega
        have HLE := Lib.hid (Nat.le_of_not_lt hlt)
        clear hr2 hr3 hc hlt
        go_wp2
        go_region_with (first
          | (go_at_call 125; ((with_reducible refine (Minus_any _ (.slice P1 la.length k1) (.slice P2 lb.length k2) a.natAbs b.natAbs (by exact HSA.out.drawn1) (by exact HSB.out.drawn1) (by have := HLA.out; omega) HLE.out).mono ?_); rintro e w3 ⟨hb3, v3, rfl, hv3⟩; have La3 := (LB.step (LB.drew La) hb3); have qa3 := La3.cell0; have HV3 := Lib.hid hv3; have Lr3 := (LB.step (LB.drew Lr) hb3); have HB3 := Lib.hid (HB.out.drew.trans (hb3.mono (by exact HB.out.size))); clear hv3 hb3))
          | (go_at_call 122; ((with_reducible refine (told_any _ v3 na (a.natAbs - b.natAbs) (by exact HV3.out) (by have := dig_len_sub a.natAbs b.natAbs HLA.out; omega)).mono ?_); rintro e w4 ⟨hb4, hret⟩; rw [← HR.out] at hret; obtain ⟨v4, rfl, s4, rfl, hs4⟩ := hret; obtain ⟨A4, k4, rfl, _⟩ := (show RI _ _ _ _ from hs4); replace hs4 := Lib.hid hs4; have Lr4 := Lr3.step hb4; have qr0 := Lr4.cell0; have qr1 := Lr4.cell1; have qr2 := Lr4.frozen 0; have qr3 := Lr4.frozen 1; have HB4 := Lib.hid (HB3.out.trans (hb4.mono (by exact HB3.out.size))); clear hb4)))
        all_goals
          go_wp2
          (try simp only [Exit.inBlock, Exit.then])
          exact end_put rfl Lr4 HB4.out (by omega) hs4.out rfl rfl rfl rfl
  · have HR := Lib.hid (hr.out.trans (A2_bad hv))
    clear hr
    go_wp2
    (try simp only [Exit.inBlock, Exit.then])
    exact end_zero rfl Lr HB.out (by omega) HR.out rfl rfl
end Go.Proofs.YtfklkphoplpebaaGreatDoor

/- long.Sub, Neg. -/
namespace Go.Proofs.YtfklkphoplpebaaGreatDoor
open Go Go.RowKit Dig

theorem neg_sign (b : Int) : (!(decide (b < 0)) && decide (0 < (dig b.natAbs).length)) = decide (-b < 0) := by
  rcases Int.lt_trichotomy b 0 with h | h | h
  · rw [decide_eq_true h, decide_eq_false (by omega : ¬ -b < 0)]; rfl
  · subst h
    rw [show (0 : Int).natAbs = 0 from rfl, dig_zero]; decide
  · have := dig_len_pos (n := b.natAbs) (by omega)
    rw [decide_eq_false (by omega : ¬ b < 0), decide_eq_true (by omega : -b < 0), decide_eq_true this]; rfl

theorem valid_nil : Valid false [] := ⟨by simp, fun j h => absurd h (by simp), fun h => absurd h (by simp), fun _ => rfl⟩
theorem numOf_nil : numOf false [] = some 0 := by
  have h := numOf_dig (z := 0) (by rw [show (0 : Int).natAbs = 0 from rfl, dig_zero]; simp)
  rw [show (0 : Int).natAbs = 0 from rfl, dig_zero] at h
  exact h
theorem A1_bad {f : Int → Int × Int} {na : Bool} {la : List Int} (h : ¬ Valid na la) : A1 f (numOf na la) = (0, 30) := by rw [numOf_bad h]; rfl
end Go.Proofs.YtfklkphoplpebaaGreatDoor

/- long.Sqrt. -/
namespace Go.Proofs.YtfklkphoplpebaaGreatDoor
open Go Go.RowKit Dig

theorem root_unique {a s t : Nat} (h1 : s * s ≤ a) (h2 : a < (s + 1) * (s + 1)) (h3 : t * t ≤ a) (h4 : a < (t + 1) * (t + 1)) : s = t := by
  have h5 := root_lt h1 h4
  have h6 := root_lt h3 h2
  omega
noncomputable def rootN (a : Nat) : Nat := (root_exists a).choose
theorem rootN_spec (a : Nat) : rootN a * rootN a ≤ a ∧ a < (rootN a + 1) * (rootN a + 1) := (root_exists a).choose_spec
theorem rootN_eq {a s : Nat} (h1 : s * s ≤ a) (h2 : a < (s + 1) * (s + 1)) : s = rootN a := root_unique h1 h2 (rootN_spec a).1 (rootN_spec a).2
theorem rootN_le (a : Nat) : rootN a ≤ a := by
  have h := (rootN_spec a).1
  rcases Nat.eq_zero_or_pos (rootN a) with h0 | h0
  · omega
  · exact Nat.le_trans (Nat.le_mul_of_pos_left _ h0) h
/-- What Sqrt answers. -/
noncomputable def sqrtZ (a : Int) : Int × Int := if a < 0 then (0, 2) else ((rootN a.natAbs : Int), 0)

end Go.Proofs.YtfklkphoplpebaaGreatDoor

/- long.Div. -/
namespace Go.Proofs.YtfklkphoplpebaaGreatDoor
open Go Go.RowKit Dig

/-- Two Longs and an error are returned. -/
def RetD (w' : World) (r : Int × Int × Int) (e : Ending) : Prop := ∃ v u, e = .returned (.tuple #[v, u, .int .i64 r.2.2]) ∧ LV w' w'.heap.size v r.1 ∧ LV w' w'.heap.size u r.2.1
/-- What Div answers. -/
def divZ (a b : Int) : Int × Int × Int := if b = 0 then (0, 0, 7) else (Int.tdiv a b, Int.tmod a b, 0)
def D2 : Option Int → Option Int → Int × Int × Int
  | some a, some b => divZ a b
  | _, _ => (0, 0, 30)
theorem D2_bad {na nb : Bool} {la lb : List Int} (h : ¬ (Valid na la ∧ Valid nb lb)) : D2 (numOf na la) (numOf nb lb) = (0, 0, 30) := by
  by_cases ha : Valid na la
  · have hb : ¬ Valid nb lb := fun hb => h ⟨ha, hb⟩
    rw [numOf_bad hb]
    cases numOf na la <;> rfl
  · rw [numOf_bad ha]; rfl
theorem results_cell_cell_tmp {fn : Func} {p q u : Tmp} {ty : TypeId} (h : fn.results = #[.cell p ty, .cell q ty, .tmp u]) (tmps : Array Value) (P : Program) (w : World) :
    (results fn tmps).run P w =
      ((asAddr (tmps.getD p undef)).run P w).andThen fun a w₁ => ((loadVar ty a).run P w₁).andThen fun v w₂ => ((asAddr (tmps.getD q undef)).run P w₂).andThen fun a' w₃ => ((loadVar ty a').run P w₃).andThen fun v' w₄ => .ok (.tuple #[v, v', tmps.getD u undef]) w₄ := by
  simp only [results, h]
  simp [Sem.run_bind, Result.andThen]
theorem LB.ret3 {fn : Func} {p q k : Tmp} (hf : fn.results = #[.cell p 66, .cell q 66, .tmp k]) {w : World} {b d : Nat} {x y x' y' : Value} (tmps : Array Value) (h : LB w b x y) (h' : LB w d x' y') (hp : tmps.getD p undef = .pointer (some ⟨b, 0, none⟩)) (hq : tmps.getD q undef = .pointer (some ⟨d, 0, none⟩)) :
    (results fn tmps).run Tryz.prog w = .ok (.tuple #[.agg #[x, y], .agg #[x', y'], tmps.getD k undef]) w := by
  rw [results_cell_cell_tmp hf, hp, hq]
  simp [asAddr, run_loadVar_row w b _ 66 #[x, y] (0, 0) _ h Tryz.underlying66 rfl (by kernel_rfl), run_loadVar_row w d _ 66 #[x', y'] (0, 0) _ h' Tryz.underlying66 rfl (by kernel_rfl)]
theorem end_div {fn : Func} {p q k : Tmp} (hf : fn.results = #[.cell p 66, .cell q 66, .tmp k]) {W w : World} {B b d : Nat} {x y s t : Value} {tmps : Array Value} {r : Int × Int × Int} (h : LB w b x s) (h' : LB w d y t) (hb : Below B W w)
    (hx : x = .bool (decide (r.1 < 0))) (hy : y = .bool (decide (r.2.1 < 0))) (hs : RI w w.heap.size s (ni (dig r.1.natAbs))) (ht : RI w w.heap.size t (ni (dig r.2.1.natAbs)))
    (hp : tmps.getD p undef = .pointer (some ⟨b, 0, none⟩)) (hq : tmps.getD q undef = .pointer (some ⟨d, 0, none⟩)) (hk : tmps.getD k undef = .int .i64 r.2.2) :
    bodyPost Tryz.prog fn (fun e w' => Below B W w' ∧ RetD w' r e) .ret ⟨tmps, []⟩ w := by
  refine bodyPost_ret (LB.ret3 hf tmps h h' hp hq) rfl ⟨hb, .agg #[x, s], .agg #[y, t], ?_, ?_, ?_⟩
  · rw [hk]
  · rw [hx]; exact ⟨s, rfl, hs⟩
  · rw [hy]; exact ⟨t, rfl, ht⟩

theorem RI.drewed {w : World} {B : Nat} {v : Value} {l : List Int} (h : RI w B v l) : RI w.drew B v l := h
theorem RI.zero {w : World} {B : Nat} {z : Int} (h : z = 0) : RI w B (.slice none 0 0) (ni (dig z.natAbs)) := by
  rw [h, show (0 : Int).natAbs = 0 from rfl, dig_zero]; exact RI.nil _ _
/-- The end of a function that returns two Longs and an error: both results are stored once more, behind a draw. -/
theorem end_div_again {fn : Func} {p q k : Tmp} (hf : fn.results = #[.cell p 66, .cell q 66, .tmp k]) {W w : World} {B b d : Nat} {x y : Bool} {A1 A2 : Option Addr} {n1 n2 c1 c2 : Nat} {tmps : Array Value} {r : Int × Int × Int}
    (h : LB w b (.bool x) (.slice A1 n1 c1)) (h' : LB w d (.bool y) (.slice A2 n2 c2)) (hne : b ≠ d) (hb : Below B W w) (hB : B ≤ b) (hB' : B ≤ d)
    (hx : x = decide (r.1 < 0)) (hy : y = decide (r.2.1 < 0)) (hs : RI w w.heap.size (.slice A1 n1 c1) (ni (dig r.1.natAbs))) (ht : RI w w.heap.size (.slice A2 n2 c2) (ni (dig r.2.1.natAbs)))
    (hp : tmps.getD p undef = .pointer (some ⟨b, 0, none⟩)) (hq : tmps.getD q undef = .pointer (some ⟨d, 0, none⟩)) (hk : tmps.getD k undef = .int .i64 r.2.2) :
    bodyPost Tryz.prog fn (fun e w' => Below B W w' ∧ RetD w' r e) .ret ⟨tmps, []⟩ ((((w.setCell ⟨b, 0, none⟩ (.bool x)).setCell ⟨b, 1, none⟩ (.slice A1 n1 c1)).setCell ⟨d, 0, none⟩ (.bool y)).setCell ⟨d, 1, none⟩ (.slice A2 n2 c2)).drew := by
  have l1 := h.set0 (.bool x)
  have l2 := l1.set1 (.slice A1 n1 c1)
  have m1 := h'.far (p := ⟨b, 0, none⟩) (fun e => hne e.symm) (.bool x)
  have m2 := m1.far (p := ⟨b, 1, none⟩) (fun e => hne e.symm) (.slice A1 n1 c1)
  have m3 := m2.set0 (.bool y)
  have m4 := m3.set1 (.slice A2 n2 c2)
  have l4 := (l2.far (p := ⟨d, 0, none⟩) hne (.bool y)).far (p := ⟨d, 1, none⟩) hne (.slice A2 n2 c2)
  have s4 := (((hs.setLB h 0 (.bool x)).setLB l1 1 (.slice A1 n1 c1)).setLB m2 0 (.bool y)).setLB m3 1 (.slice A2 n2 c2)
  have t4 := (((ht.setLB h 0 (.bool x)).setLB l1 1 (.slice A1 n1 c1)).setLB m2 0 (.bool y)).setLB m3 1 (.slice A2 n2 c2)
  have e : ((((w.setCell ⟨b, 0, none⟩ (.bool x)).setCell ⟨b, 1, none⟩ (.slice A1 n1 c1)).setCell ⟨d, 0, none⟩ (.bool y)).setCell ⟨d, 1, none⟩ (.slice A2 n2 c2)).drew.heap.size = w.heap.size := by simp [World.setCell]
  refine end_div hf l4.drew m4.drew ((((hb.setCell hB _).setCell hB _).setCell hB' _).setCell hB' _).drew (by rw [hx]) (by rw [hy]) ?_ ?_ hp hq hk
  · rw [e]; exact s4.drewed
  · rw [e]; exact t4.drewed

theorem tdiv_sign (a b : Int) : (if (!(decide (a < 0) == decide (b < 0))) then -((a.natAbs / b.natAbs : Nat) : Int) else ((a.natAbs / b.natAbs : Nat) : Int)) = Int.tdiv a b := by
  by_cases ha : a < 0 <;> by_cases hb : b < 0
  · obtain ⟨m, rfl⟩ : ∃ m : Nat, a = -(m : Int) := ⟨a.natAbs, by omega⟩
    obtain ⟨n, rfl⟩ : ∃ n : Nat, b = -(n : Int) := ⟨b.natAbs, by omega⟩
    rw [decide_eq_true ha, decide_eq_true hb, if_neg (by simp), Int.neg_tdiv_neg]; simp
  · obtain ⟨m, rfl⟩ : ∃ m : Nat, a = -(m : Int) := ⟨a.natAbs, by omega⟩
    obtain ⟨n, rfl⟩ : ∃ n : Nat, b = (n : Int) := ⟨b.natAbs, by omega⟩
    rw [decide_eq_true ha, decide_eq_false hb, if_pos (by simp), Int.neg_tdiv]; simp
  · obtain ⟨m, rfl⟩ : ∃ m : Nat, a = (m : Int) := ⟨a.natAbs, by omega⟩
    obtain ⟨n, rfl⟩ : ∃ n : Nat, b = -(n : Int) := ⟨b.natAbs, by omega⟩
    rw [decide_eq_false ha, decide_eq_true hb, if_pos (by simp), Int.tdiv_neg]; simp
  · obtain ⟨m, rfl⟩ : ∃ m : Nat, a = (m : Int) := ⟨a.natAbs, by omega⟩
    obtain ⟨n, rfl⟩ : ∃ n : Nat, b = (n : Int) := ⟨b.natAbs, by omega⟩
    rw [decide_eq_false ha, decide_eq_false hb, if_neg (by simp)]; simp
theorem tmod_sign (a b : Int) : (if decide (a < 0) then -((a.natAbs % b.natAbs : Nat) : Int) else ((a.natAbs % b.natAbs : Nat) : Int)) = Int.tmod a b := by
  rw [← Int.natAbs_tmod]
  by_cases ha : a < 0
  · rw [decide_eq_true ha, if_pos rfl]
    have := Int.tmod_nonneg b (show 0 ≤ -a by omega)
    rw [Int.neg_tmod] at this
    omega
  · rw [decide_eq_false ha, if_neg (by simp)]
    have := Int.tmod_nonneg b (show 0 ≤ a by omega)
    omega

set_option maxRecDepth 100000 in
set_option maxHeartbeats 1000000 in
theorem Div_any (w : World) (va vb : Value) (na nb : Bool) (la lb : List Int) (ha : LR w w.heap.size va na la) (hb : LR w w.heap.size vb nb lb) :
    Calls Tryz.prog 97 #[va, vb] w fun e w' => Below w.heap.size w w' ∧ RetD w' (D2 (numOf na la) (numOf nb lb)) e := by
  obtain ⟨sa, rfl, hsa⟩ := ha
  obtain ⟨sb, rfl, hsb⟩ := hb
  obtain ⟨P1, k1, rfl, _⟩ := (show RI _ _ _ _ from hsa)
  obtain ⟨P2, k2, rfl, _⟩ := (show RI _ _ _ _ from hsb)
  replace hsa := Lib.hid hsa
  replace hsb := Lib.hid hsb
  obtain ⟨r, hr⟩ : ∃ r, r = (D2 (numOf na la) (numOf nb lb)) := ⟨_, rfl⟩
  rw [← hr]
  replace hr := Lib.hid hr
  go_enter Tryz.func97, Tryz.ntmps97
  go_wp2_with fail
  refine (all_new _ _ na nb _ _ la lb 2 (by simp) (hsa.out.step (by (repeat' (first | exact Below.refl _ _ | refine Below.drew ?_ | refine Below.alloc ?_ (by first | exact Nat.le_refl _ | (simp; done) | (simp; omega)) _)))) (hsb.out.step (by (repeat' (first | exact Below.refl _ _ | refine Below.drew ?_ | refine Below.alloc ?_ (by first | exact Nat.le_refl _ | (simp; done) | (simp; omega)) _))))).mono ?_
  rintro e w2 ⟨hb2, c, rfl, hc⟩
  have La : LB w2 w.heap.size (.bool na) (.slice P1 la.length k1) := LB.of_block (by (repeat (first | (refine LB.new' ?_; simp; done) | refine LB.alloc ?_ _))) (hb2.block _ (by simp <;> omega))
  have Lb : LB w2 (w.heap.size + 1) (.bool nb) (.slice P2 lb.length k2) := LB.of_block (by (repeat (first | (refine LB.new' ?_; simp; done) | refine LB.alloc ?_ _))) (hb2.block _ (by simp <;> omega))
  have Lq : LB w2 (w.heap.size + 1 + 1) (.bool false) (.slice none 0 0) := LB.of_block (by (repeat (first | (refine LB.new' ?_; simp; done) | refine LB.alloc ?_ _))) (hb2.block _ (by simp <;> omega))
  have Lr : LB w2 (w.heap.size + 1 + 1 + 1) (.bool false) (.slice none 0 0) := LB.of_block (by (repeat (first | (refine LB.new' ?_; simp; done) | refine LB.alloc ?_ _))) (hb2.block _ (by simp <;> omega))
  have HB := Lib.hid ((show Below w.heap.size w _ from by (repeat' (first | exact Below.refl _ _ | refine Below.drew ?_ | refine Below.alloc ?_ (by first | exact Nat.le_refl _ | (simp; done) | (simp; omega)) _))).trans (hb2.mono (by simp <;> omega)))
  have qa0 := La.cell0
  have qa1 := La.cell1
  have qb0 := Lb.cell0
  have qb1 := Lb.cell1
  have qq0 := Lq.cell0
  have qq1 := Lq.cell1
  have qq2 := Lq.frozen 0
  have qq3 := Lq.frozen 1
  have qr0 := Lr.cell0
  have qr1 := Lr.cell1
  have qr2 := Lr.frozen 0
  have qr3 := Lr.frozen 1
  clear hb2
  rcases hc with ⟨hva, hvb, rfl⟩ | ⟨hv, rfl⟩
  · obtain ⟨a, hna, ha0, ha1, hla⟩ := numOf_valid hva
    obtain ⟨b, hnb, hb0, hb1, hlb⟩ := numOf_valid hvb
    have hr2 : r = divZ a b := by rw [hr.out, hna, hnb]; rfl
    have hsa2 : RN w2 w2.heap.size (.slice P1 la.length k1) (dig a.natAbs) := by rw [RN, ← ha1]; exact hsa.out.step HB.out
    have hsb2 : RN w2 w2.heap.size (.slice P2 lb.length k2) (dig b.natAbs) := by rw [RN, ← hb1]; exact hsb.out.step HB.out
    have HSA := Lib.hid hsa2
    have HSB := Lib.hid hsb2
    have HA0 := Lib.hid ha0
    have HB0 := Lib.hid hb0
    have HLA := Lib.hid hla
    have HLL := Lib.hid (show lb.length = (dig b.natAbs).length by rw [hb1, ni_length])
    clear hr hna hnb hva hvb ha0 hb0 ha1 hb1 hsa2 hsb2 hsa hsb hla hlb
    by_cases hz : b = 0
    · have hl0 : lb.length = 0 := by rw [HLL.out, hz, show (0 : Int).natAbs = 0 from rfl, dig_zero]; rfl
      have HR := Lib.hid (show r = (0, 0, 7) by rw [hr2, divZ, if_pos hz])
      rw [hl0] at qb1 ⊢
      clear hr2 hz
      go_wp2_with (go_region_with fail)
      all_goals
        go_wp2
        (try simp only [Exit.inBlock, Exit.then])
        (try go_simp)
        exact end_div_again rfl Lq Lr (by omega) HB.out (by omega) (by omega) (by rw [HR.out]; rfl) (by rw [HR.out]; rfl) (RI.zero (by rw [HR.out])) (RI.zero (by rw [HR.out])) rfl rfl (by rw [HR.out]; rfl)
    · have hl0 : 0 < lb.length := by rw [HLL.out]; exact dig_len_pos (by omega)
      have hl1 : ((lb.length : Int) == 0) = false := by rw [beq_eq_false_iff_ne]; omega
      have hlq : (dig (a.natAbs / b.natAbs)).length ≤ 600 := Nat.le_trans (dig_len_mono (Nat.div_le_self _ _)) HLA.out
      have hlr : (dig (a.natAbs % b.natAbs)).length ≤ 600 := Nat.le_trans (dig_len_mono (Nat.mod_le _ _)) HLA.out
      obtain ⟨q0, hq0⟩ : ∃ q0, q0 = Int.tdiv a b := ⟨_, rfl⟩
      obtain ⟨m0, hm0⟩ : ∃ m0, m0 = Int.tmod a b := ⟨_, rfl⟩
      have HQ := Lib.hid (show toldZ (if (!(na == nb)) then -((a.natAbs / b.natAbs : Nat) : Int) else ((a.natAbs / b.natAbs : Nat) : Int)) = (q0, 0) by
        rw [hq0, HA0.out, HB0.out, toldZ, if_pos (by rw [show ∀ (c : Bool) (n : Nat), (if c then -(n : Int) else n).natAbs = n from fun c n => by cases c <;> simp]; exact hlq), tdiv_sign])
      have HM := Lib.hid (show toldZ (if na then -((a.natAbs % b.natAbs : Nat) : Int) else ((a.natAbs % b.natAbs : Nat) : Int)) = (m0, 0) by
        rw [hm0, HA0.out, toldZ, if_pos (by rw [show ∀ (c : Bool) (n : Nat), (if c then -(n : Int) else n).natAbs = n from fun c n => by cases c <;> simp]; exact hlr), tmod_sign])
      have HR := Lib.hid (show r = (q0, m0, 0) by rw [hr2, divZ, if_neg hz, hq0, hm0])
      have HLQ := Lib.hid hlq
      have HLR := Lib.hid hlr
      clear hr2 hlq hlr hq0 hm0
      go_wp2_with fail
      refine (Over_any _ _ _ a.natAbs b.natAbs HSA.out HSB.out (by omega) (by have := HLA.out; omega)).mono ?_
      rintro e w3 ⟨hb3, v3, u3, rfl, hv3, hu3⟩
      have HV3 := Lib.hid hv3
      have HU3 := Lib.hid hu3
      have La3 := La.step hb3
      have Lb3 := Lb.step hb3
      have Lq3 := Lq.step hb3
      have Lr3 := Lr.step hb3
      have HB3 := Lib.hid (HB.out.trans (hb3.mono HB.out.size))
      clear qa0 qa1 qb0 qb1 qq0 qq1 qq2 qq3 qr0 qr1 qr2 qr3 hb3 hv3 hu3 hz
      have qa0 := La3.cell0
      have qb0 := Lb3.cell0
      go_wp2_with fail
      refine (told_any _ _ (!(na == nb)) _ HV3.out (by have := HLQ.out; omega)).mono ?_
      rintro e w4 ⟨hb4, hret⟩
      rw [HQ.out] at hret
      obtain ⟨v4, rfl, s4, rfl, hs4⟩ := hret
      obtain ⟨A4, k4, rfl, _⟩ := (show RI _ _ _ _ from hs4)
      have La4 := La3.step hb4
      have Lq4 := Lq3.step hb4
      have Lr4 := Lr3.step hb4
      have HB4 := Lib.hid (HB3.out.trans (hb4.mono HB3.out.size))
      have HU4 := Lib.hid (RN.step HU3.out hb4)
      have HS4 := Lib.hid hs4
      clear qa0 qb0 hb4 hs4 HU3
      have qa0 := La4.cell0
      have qq0 := Lq4.cell0
      have qq1 := Lq4.cell1
      have qq2 := Lq4.frozen 0
      have qq3 := Lq4.frozen 1
      go_wp2_with fail
      have hput := Lq4.put (q := decide (q0 < 0)) HS4.out
      have HU5 := Lib.hid ((HU4.out.setLB Lq4 0 (.bool (decide (q0 < 0)))).setLB (Lq4.set0 _) 1 (.slice A4 (ni (dig q0.natAbs)).length k4))
      have Lq5 := hput.1
      have HS5 := Lib.hid hput.2
      have La5 := (La4.far (p := ⟨w.heap.size + 1 + 1, 0, none⟩) (by simp; omega) (.bool (decide (q0 < 0)))).far (p := ⟨w.heap.size + 1 + 1, 1, none⟩) (by simp; omega) (.slice A4 (ni (dig q0.natAbs)).length k4)
      have Lr5 := (Lr4.far (p := ⟨w.heap.size + 1 + 1, 0, none⟩) (by simp) (.bool (decide (q0 < 0)))).far (p := ⟨w.heap.size + 1 + 1, 1, none⟩) (by simp) (.slice A4 (ni (dig q0.natAbs)).length k4)
      have HB5 := Lib.hid ((HB4.out.setCell (p := ⟨w.heap.size + 1 + 1, 0, none⟩) (by simp; omega) (.bool (decide (q0 < 0)))).setCell (p := ⟨w.heap.size + 1 + 1, 1, none⟩) (by simp; omega) (.slice A4 (ni (dig q0.natAbs)).length k4))
      clear hput qa0 qq0 qq1 qq2 qq3
      refine (told_any _ _ na _ (RI.more HU5.out (by simp [World.setCell])) (by have := HLR.out; omega)).mono ?_
      rintro e w6 ⟨hb6, hret⟩
      rw [HM.out] at hret
      obtain ⟨v6, rfl, s6, rfl, hs6⟩ := hret
      obtain ⟨A6, k6, rfl, _⟩ := (show RI _ _ _ _ from hs6)
      have Lq6 := Lq5.step hb6
      have Lr6 := Lr5.step hb6
      have HB6 := Lib.hid (HB5.out.trans (hb6.mono HB5.out.size))
      have HS6 := Lib.hid (HS5.out.step hb6)
      have HT6 := Lib.hid hs6
      clear hb6 hs6 HU5 HS5
      have qq0 := Lq6.cell0
      have qq1 := Lq6.cell1
      have qq2 := Lq6.frozen 0
      have qq3 := Lq6.frozen 1
      have qr0 := Lr6.cell0
      have qr1 := Lr6.cell1
      have qr2 := Lr6.frozen 0
      have qr3 := Lr6.frozen 1
      have hput := Lr6.put (q := decide (m0 < 0)) HT6.out
      have HT7 := Lib.hid hput.2
      have Lr7 := hput.1
      have HS7 := Lib.hid (RI.more ((HS6.out.setLB Lr6 0 (.bool (decide (m0 < 0)))).setLB (Lr6.set0 _) 1 (.slice A6 (ni (dig m0.natAbs)).length k6)) (by simp [World.setCell] : w6.heap.size ≤ ((w6.setCell ⟨w.heap.size + 1 + 1 + 1, 0, none⟩ (.bool (decide (m0 < 0)))).setCell ⟨w.heap.size + 1 + 1 + 1, 1, none⟩ (.slice A6 (ni (dig m0.natAbs)).length k6)).heap.size))
      have Lq7 := (Lq6.far (p := ⟨w.heap.size + 1 + 1 + 1, 0, none⟩) (by simp) (.bool (decide (m0 < 0)))).far (p := ⟨w.heap.size + 1 + 1 + 1, 1, none⟩) (by simp) (.slice A6 (ni (dig m0.natAbs)).length k6)
      have HB7 := Lib.hid ((HB6.out.setCell (p := ⟨w.heap.size + 1 + 1 + 1, 0, none⟩) (by simp; omega) (.bool (decide (m0 < 0)))).setCell (p := ⟨w.heap.size + 1 + 1 + 1, 1, none⟩) (by simp; omega) (.slice A6 (ni (dig m0.natAbs)).length k6))
      clear hput
      go_wp2_with (go_region_with fail)
      all_goals
        go_wp2
        (try simp only [Exit.inBlock, Exit.then])
        (try go_simp)
        exact end_div_again rfl Lq7 Lr7 (by omega) HB7.out (by omega) (by omega) (by rw [HR.out]) (by rw [HR.out]) (by rw [HR.out]; exact HS7.out) (by rw [HR.out]; exact HT7.out) rfl rfl (by rw [HR.out]; rfl)
  · have HR := Lib.hid (hr.out.trans (D2_bad hv))
    clear hr
    go_wp2_with (go_region_with fail)
    all_goals
      go_wp2
      (try simp only [Exit.inBlock, Exit.then])
      (try go_simp)
      exact end_div_again rfl Lq Lr (by omega) HB.out (by omega) (by omega) (by rw [HR.out]; rfl) (by rw [HR.out]; rfl) (RI.zero (by rw [HR.out])) (RI.zero (by rw [HR.out])) rfl rfl (by rw [HR.out]; rfl)
end Go.Proofs.YtfklkphoplpebaaGreatDoor

/- long.signed, Cmp. -/
namespace Go.Proofs.YtfklkphoplpebaaGreatDoor
open Go Go.RowKit Dig

/-- The sign of c says how a and b lie. -/
def SignZ (c a b : Int) : Prop := (c < 0 ↔ a < b) ∧ (c = 0 ↔ a = b)
/-- Two ints are returned: an answer and a code. -/
def RetI (r : Int × Int) (e : Ending) : Prop := e = .returned (.tuple #[.int .i64 r.1, .int .i64 r.2])
def cmpZ (a b : Int) : Int × Int := (if a < b then -1 else if a = b then 0 else 1, 0)
end Go.Proofs.YtfklkphoplpebaaGreatDoor

/- long.Of. -/
namespace Go.Proofs.YtfklkphoplpebaaGreatDoor
open Go Go.RowKit Dig

theorem LB.grown {w w' : World} {b : Nat} {x y : Value} {row : Option Nat} (h : LB w b x y) (hg : w.grownBy w' row) (hr : row ≠ some b) : LB w' b x y := h.of_block (hg.block b h.lt (fun e => hr e.symm))
theorem OwnV.setBelow {w : World} {base : Nat} {v : Value} {l : List Int} (h : OwnV w base v l) {p : Addr} (hp : p.block < base) (u : Value) : OwnV (w.setCell p u) base v l := by
  have hg : w.grownBy (w.setCell p u) (some p.block) := ⟨rfl, rfl, rfl, by simp [World.setCell], fun i _ hne => Below.heap_setCell _ _ _ _ (fun e => hne (by rw [e]))⟩
  refine World.ownsRow.kept h hg ?_
  cases hv : v.ownBlock with
  | none => exact .inl rfl
  | some g =>
    refine .inr fun e => ?_
    have h1 := (World.ownsRow.lt h g hv).1
    have h2 := Option.some.inj e
    omega
/-- A Long is returned. -/
def RetV (w' : World) (z : Int) (e : Ending) : Prop := ∃ v, e = .returned v ∧ LV w' w'.heap.size v z

/-- The end of a function that returns a Long, where both parts have been stored. -/
theorem end_one {fn : Func} {p : Tmp} (hf : fn.results = #[.cell p 66]) {W w : World} {B b : Nat} {q0 : Bool} {A : Option Addr} {n c : Nat} (hL : LB w b (.bool q0) (.slice A n c)) (hb : Below B W w) (hB : B ≤ b)
    {q : Bool} {s : Value} {z : Int} {tmps : Array Value} (hs : RI w w.heap.size s (ni (Dig.dig z.natAbs))) (hq : q = decide (z < 0)) (hp : tmps.getD p undef = .pointer (some ⟨b, 0, none⟩)) :
    bodyPost Tryz.prog fn (fun e w' => Below B W w' ∧ RetV w' z e) .ret ⟨tmps, []⟩ ((w.setCell ⟨b, 0, none⟩ (.bool q)).setCell ⟨b, 1, none⟩ s) := by
  obtain ⟨h1, h2⟩ := hL.put (q := q) hs
  exact bodyPost_ret (LB.ret1 hf tmps h1 hp) rfl ⟨(hb.setCell (by simpa using hB) _).setCell (by simpa using hB) _, .agg #[.bool q, s], rfl, s, by rw [hq], h2⟩

set_option maxRecDepth 100000 in
set_option maxHeartbeats 1000000 in
theorem Of_any (w : World) (n : Int) (h0 : -9223372036854775808 ≤ n) (h1 : n ≤ 9223372036854775807) :
    Calls Tryz.prog 94 #[.int .i64 n] w fun e w' => Below w.heap.size w w' ∧ RetV w' n e := by
  obtain ⟨i0, hi, hz0, hz1, hz2⟩ := info_parts info_int
  have H3 := Lib.hid (show (dig n.natAbs).length ≤ 3 by rw [dig_len_le]; show n.natAbs < 1000000000000000000000000000; omega)
  go_enter Tryz.func94, Tryz.ntmps94
  go_wp2
  have L0 : LB ((w.alloc (.cells #[.bool false, .slice none 0 0] 66)).alloc (.cells #[.bool (decide (n < 0)), .slice none 0 0] 66)) w.heap.size (.bool false) (.slice none 0 0) := by (repeat (first | (refine LB.new' ?_; simp; done) | refine LB.alloc ?_ _))
  have L1 : LB ((w.alloc (.cells #[.bool false, .slice none 0 0] 66)).alloc (.cells #[.bool (decide (n < 0)), .slice none 0 0] 66)) (w.heap.size + 1) (.bool (decide (n < 0))) (.slice none 0 0) := by (repeat (first | (refine LB.new' ?_; simp; done) | refine LB.alloc ?_ _))
  go_loopw [0] (fun nv wr => ∃ (k : Int) (ds : List Nat) (v : Value), nv = .int .i64 k ∧ -9223372036854775808 ≤ k ∧ k ≤ 9223372036854775807 ∧ Hid (dig n.natAbs = ds ++ dig k.natAbs) ∧ Hid (ds.length ≤ 20) ∧ LB wr w.heap.size (.bool false) (.slice none 0 0) ∧ LB wr (w.heap.size + 1) (.bool (decide (n < 0))) v ∧ Hid (OwnV wr (w.heap.size + 2) v (ni ds)) ∧ Hid (w.heap.size + 2 ≤ wr.heap.size) ∧ Below w.heap.size w wr) (fun nv _ => (intOf nv).natAbs)
  case atStart => exact ⟨n, [], _, rfl, h0, h1, Lib.hid (by simp), Lib.hid (by simp), L0, L1, Lib.hid (OwnV.nil _ _), Lib.hid (by simp), by (repeat' (first | exact Below.refl _ _ | refine Below.drew ?_ | refine Below.alloc ?_ (by first | exact Nat.le_refl _ | (simp; done) | (simp; omega)) _))⟩
  case round =>
    clear L0 L1
    obtain ⟨k, ds, v, rfl, hk0, hk1, hd, hlen, L0, L1, ho, hsz, hbw⟩ := hrel
    by_cases hk : k = 0
    · have hds : ni (dig n.natAbs) = ni ds := by rw [hd.out, hk, show (0 : Int).natAbs = 0 from rfl, dig_zero, List.append_nil]
      have HDS := Lib.hid hds
      have HB := Lib.hid hbw
      have HRI := Lib.hid ho.out.ri
      have hri := ho.out.ri
      obtain ⟨A, c, rfl, _⟩ := hri
      subst hk
      have qa0 := L1.cell0
      have qa1 := L1.cell1
      have qb0 := L0.cell0
      have qb1 := L0.cell1
      have qb2 := L0.frozen 0
      have qb3 := L0.frozen 1
      clear hds hbw hk0 hk1
      go_wp2
      (try simp only [Exit.inBlock, Exit.then])
      exact end_one rfl L0 HB.out (Nat.le_refl _) (by rw [HDS.out]; exact HRI.out) rfl rfl
    · have HB := Lib.hid hbw
      have hkb : (k != 0) = true := by simpa using hk
      have hna : (k.tmod 1000000000).natAbs = k.natAbs % 1000000000 := Int.natAbs_tmod k 1000000000
      have hnd : (k.tdiv 1000000000).natAbs = k.natAbs / 1000000000 := Int.natAbs_tdiv k 1000000000
      have hm0 : -1000000000 < k.tmod 1000000000 := by have := Nat.mod_lt k.natAbs (show 1000000000 > 0 by decide); omega
      have hm1 : k.tmod 1000000000 < 1000000000 := by have := Nat.mod_lt k.natAbs (show 1000000000 > 0 by decide); omega
      have hmm : max (k.tmod 1000000000) (-k.tmod 1000000000) = ((k.natAbs % 1000000000 : Nat) : Int) := by omega
      have HM := Lib.hid hmm
      have HD := Lib.hid hnd
      clear hmm hna hnd
      have qa0 := L1.cell0
      have qa1 := L1.cell1
      have qa2 := L1.frozen 1
      have hown := ho.out.alloc (.cells #[.int .i64 (max (k.tmod 1000000000) (-k.tmod 1000000000))] 3)
      clear hbw
      have hl20 := hlen.out
      go_wp2_with (at_builtin; refine wpList_append_own_at _ rfl _ _ 64 rfl (w.heap.size + 2) 3 i0 (.int .i64 0) 1 8 Tryz.underlying64 hi hz0 hz1 hz2 rfl (by decide) v (ni ds).length ((ni ds).map (Value.int .i64)) rfl hown ⟨wr.heap.size, 0, none⟩ 1 1 [.int .i64 (max (k.tmod 1000000000) (-k.tmod 1000000000))] rfl rfl (cell_one_new _ _ _) (by intro u hu; simp at hu; subst hu; rfl) (by rw [ni_length]; unfold maxLen; omega) (by rw [ni_length]; omega) (by have := hsz.out; simp; omega) ?_)
      intro v' w' hown' hgrow hne hblk
      have hv' : OwnV w' (w.heap.size + 2) v' (ni (ds ++ [k.natAbs % 1000000000])) := by
        have h := hown'
        rw [HM.out] at h
        rw [OwnV, ni_length, List.length_append]
        rw [ni_length] at h
        have e : (ni (ds ++ [k.natAbs % 1000000000])).map (Value.int .i64) = (ni ds).map (Value.int .i64) ++ [.int .i64 ((k.natAbs % 1000000000 : Nat) : Int)] := by simp [ni]
        rw [e]
        exact h
      have hrow : ∀ b, b < w.heap.size + 2 → v.ownBlock ≠ some b := fun b hb he => by
        have := (World.ownsRow.lt ho.out b he).1
        omega
      have M0 := (L0.alloc (.cells #[.int .i64 (max (k.tmod 1000000000) (-k.tmod 1000000000))] 3)).grown hgrow (hrow _ (by omega))
      have M1 := (L1.alloc (.cells #[.int .i64 (max (k.tmod 1000000000) (-k.tmod 1000000000))] 3)).grown hgrow (hrow _ (by omega))
      have HB2 := Lib.hid ((HB.out.alloc (by have := HB.out.size; exact this) (.cells #[.int .i64 (max (k.tmod 1000000000) (-k.tmod 1000000000))] 3)).grown hgrow (by have := HB.out.size; simp; omega) (fun g he => by have := (World.ownsRow.lt ho.out g he).1; omega))
      have HS2 := Lib.hid (show w.heap.size + 2 ≤ w'.heap.size by have h1 := hgrow.size; have h2 := hsz.out; simp at h1; omega)
      have HV := Lib.hid (hv'.setBelow (p := ⟨w.heap.size + 1, 1, none⟩) (by simp) v')
      have N0 := M0.far (p := ⟨w.heap.size + 1, 1, none⟩) (by simp) v'
      have N1 := M1.set1 v'
      have HB3 := Lib.hid (HB2.out.setCell (p := ⟨w.heap.size + 1, 1, none⟩) (by simp) v')
      clear hown' hgrow hne hblk hown qa0 qa1 qa2
      have qa2 := M1.frozen 1
      have qa1 := M1.cell1
      rcases hv'.form with ⟨_, he⟩ | ⟨g, cap, rfl, _⟩
      · simp [ni] at he
      · have hk2 : -9223372036854775808 ≤ k.tdiv 1000000000 := by have := HD.out; omega
        have hk3 : k.tdiv 1000000000 ≤ 9223372036854775807 := by have := HD.out; omega
        clear hv' hrow
        go_wp2
        go_roundw
        case rel =>
          exact ⟨k.tdiv 1000000000, ds ++ [k.natAbs % 1000000000], _, rfl, hk2, hk3, Lib.hid (by rw [hd.out, HD.out, dig_pos (by omega : k.natAbs ≠ 0)]; simp), Lib.hid (by have h := H3.out; rw [hd.out, dig_pos (by omega : k.natAbs ≠ 0)] at h; simp at h ⊢; omega), N0, N1, HV, Lib.hid (by have := HS2.out; simpa [World.setCell] using this), HB3.out⟩
        case measure => have := HD.out; simp only [intOf]; omega
end Go.Proofs.YtfklkphoplpebaaGreatDoor

/- The reference's made: a Long of digits, without the highest zeros. -/
namespace Go.Proofs.YtfklkphoplpebaaGreatDoor
open Go Go.RowKit Dig

theorem sgn_made (neg : Bool) (n : Nat) : (neg && decide (0 < (dig n).length)) = decide (sgn neg n < 0) := by
  rcases Nat.eq_zero_or_pos n with h0 | h0
  · subst h0; rw [dig_zero]; cases neg <;> simp [sgn]
  · have := dig_len_pos (by omega : n ≠ 0)
    cases neg <;> simp [sgn] <;> omega
theorem sgn_nat (neg : Bool) (n : Nat) : (sgn neg n).natAbs = n := by unfold sgn; cases neg <;> simp

/-- A Long of its own row is returned. -/
def RetO (B : Nat) (w' : World) (z : Int) (e : Ending) : Prop := ∃ q s, e = .returned (.agg #[.bool q, s]) ∧ q = decide (z < 0) ∧ OwnV w' B s (ni (dig z.natAbs))
theorem OwnV.mono {w : World} {B B' : Nat} {v : Value} {l : List Int} (h : OwnV w B v l) (hB : B' ≤ B) : OwnV w B' v l := by
  obtain ⟨h1, h | ⟨g, cap, cur, hv, hg, r⟩⟩ := h
  · exact ⟨h1, .inl h⟩
  · exact ⟨h1, .inr ⟨g, cap, cur, hv, Nat.le_trans hB hg, r⟩⟩
theorem RetO.any {B : Nat} {w' : World} {z : Int} {e : Ending} (h : RetO B w' z e) : RetV w' z e := by
  obtain ⟨q, s, he, hq, ho⟩ := h
  exact ⟨_, he, s, by rw [hq], ho.ri⟩
theorem end_own {fn : Func} {p : Tmp} (hf : fn.results = #[.cell p 66]) {W w : World} {B b base : Nat} {q0 : Bool} {A : Option Addr} {n c : Nat} (hL : LB w b (.bool q0) (.slice A n c)) (hb : Below B W w) (hB : B ≤ b)
    {q : Bool} {s : Value} {z : Int} {tmps : Array Value} (ho : OwnV w base s (ni (Dig.dig z.natAbs))) (hbb : b < base) (hq : q = decide (z < 0)) (hp : tmps.getD p undef = .pointer (some ⟨b, 0, none⟩)) :
    bodyPost Tryz.prog fn (fun e w' => Below B W w' ∧ RetO B w' z e) .ret ⟨tmps, []⟩ ((w.setCell ⟨b, 0, none⟩ (.bool q)).setCell ⟨b, 1, none⟩ s) := by
  obtain ⟨h1, -⟩ := hL.put (q := q) ho.ri
  exact bodyPost_ret (LB.ret1 hf tmps h1 hp) rfl ⟨(hb.setCell (by simpa using hB) _).setCell (by simpa using hB) _, q, s, rfl, hq, ((ho.setBelow (p := ⟨b, 0, none⟩) hbb _).setBelow (p := ⟨b, 1, none⟩) hbb _).mono (by omega)⟩

set_option maxRecDepth 100000 in
set_option maxHeartbeats 4000000 in
theorem made_own (w : World) (neg : Bool) (v : Value) (ds : List Nat) (h : RN w w.heap.size v ds) (hs : Small ds) (hl : ds.length ≤ 1000000) :
    Calls Tryz.prog 76 #[.bool neg, v] w fun e w' => Below w.heap.size w w' ∧ RetO w.heap.size w' (sgn neg (val ds)) e := by
  obtain ⟨i0, hi, hz0, hz1, hz2⟩ := info_parts info_int
  obtain ⟨A, c, rfl, hc, hc', hA⟩ := h.cell
  have HR := Lib.hid h
  have HS := Lib.hid hs
  replace hA := Lib.hid hA
  clear h hs
  have L0 := LB.new w (.bool false) (.slice none 0 0)
  have HB0 := Lib.hid ((Below.refl w.heap.size w).alloc (Nat.le_refl _) (.cells #[.bool false, .slice none 0 0] 66))
  go_enter Tryz.func76, Tryz.ntmps76
  go_wp2
  generalize hW : (w.alloc (.cells #[.bool false, .slice none 0 0] 66)) = w1 at *
  have hsz1 : w.heap.size < w1.heap.size := L0.lt
  have HSZ1 := Lib.hid (show w1.heap.size = w.heap.size + 1 by rw [← hW]; simp)
  clear hW
  go_loop [5] (fun nv => ∃ n : Nat, n ≤ ds.length ∧ nv = .int .i64 n ∧ Hid (val (ds.take n) = val ds)) (fun nv => (intOf nv).toNat)
  case atStart => exact ⟨_, Nat.le_refl _, rfl, Lib.hid (by rw [List.take_length])⟩
  case round =>
    obtain ⟨n, hn, rfl, hv⟩ := hrel
    by_cases hgo : 0 < n ∧ ds.getD (n - 1) 0 = 0
    · obtain ⟨k, rfl⟩ : ∃ k, n = k + 1 := ⟨n - 1, by omega⟩
      obtain ⟨g, off, rfl, hg, hx⟩ := hA.out (by omega)
      have hk : k < ds.length := by omega
      have hz : ds[k] = 0 := by have := hgo.2; rwa [Nat.add_sub_cancel, getD_get hk] at this
      have h1 := (HB0.out.cell (p := ⟨g, off + k, none⟩) hg).trans (hx k hk)
      rw [hz] at h1
      have HV := Lib.hid (trim_go hk hv.out hz)
      clear hx hgo hv hz
      go_wp2
      go_round
      case rel => exact ⟨k, by omega, by go_num, HV⟩
      case measure => simp [intOf]
    · have hz : n = 0 ∨ ∃ h : n - 1 < ds.length, ds[n - 1] ≠ 0 := by
        rcases Nat.eq_zero_or_pos n with h0 | h0
        · exact .inl h0
        · refine .inr ⟨by omega, fun e => hgo ⟨h0, ?_⟩⟩
          rw [getD_get (show n - 1 < ds.length by omega)]; exact e
      have HD := Lib.hid (trim_stop HS.out hn hv.out hz)
      have HQ := Lib.hid (sgn_made neg (val ds))
      clear hgo hv
      rcases Nat.eq_zero_or_pos n with hn0 | hn0
      · subst hn0
        clear hz
        cases neg with
        | false =>
          go_wp2
          have LO : LB (w1.alloc (.cells #[.bool false, .slice none 0 0] 66)) w1.heap.size (.bool false) (.slice none 0 0) := LB.new _ _ _
          have LR0 := L0.alloc (.cells #[.bool false, .slice none 0 0] 66)
          have HB2 := HB0.out.alloc HB0.out.size (.cells #[.bool false, .slice none 0 0] 66)
          have HS2 := Lib.hid (show w1.heap.size + 1 ≤ (w1.alloc (.cells #[.bool false, .slice none 0 0] 66)).heap.size by simp)
          clear L0
          go_loopw [7] (fun iv wr => ∃ (i : Nat) (v : Value), i ≤ 0 ∧ iv = .int .i64 i ∧ LB wr w.heap.size (.bool false) (.slice none 0 0) ∧ LB wr w1.heap.size (.bool false) v ∧ Hid (OwnV wr (w1.heap.size + 1) v (ni (ds.take i))) ∧ Hid (w1.heap.size + 1 ≤ wr.heap.size) ∧ Below w.heap.size w wr) (fun iv _ => 0 - (intOf iv).toNat)
          case atStart => exact ⟨0, _, by omega, rfl, LR0, LO, Lib.hid (OwnV.nil _ _), HS2, HB2⟩
          case round =>
            clear LO LR0 HB2 HS2
            obtain ⟨i, v, hin, rfl, L0, LO, ho, hszr, hbw⟩ := hrel
            have HB := Lib.hid hbw
            by_cases hlt : i < 0
            · exact absurd hlt (Nat.not_lt_zero _)
            · obtain rfl : i = 0 := by omega
              have HRI := Lib.hid ho.out.ri
              have hri := ho.out.ri
              obtain ⟨A', c', rfl, -⟩ := hri
              have HDD := Lib.hid (show ni (dig (sgn false (val ds)).natAbs) = ni (ds.take 0) by rw [sgn_nat, HD.out])
              have qa0 := LO.cell0
              have qa1 := LO.cell1
              have qb0 := L0.cell0
              have qb1 := L0.cell1
              have qb2 := L0.frozen 0
              have qb3 := L0.frozen 1
              have hlt1 := LO.lt
              have hlt0 := L0.lt
              clear hbw hlt
              go_wp2
              (try simp only [Exit.inBlock, Exit.then])
              exact end_own rfl L0 HB.out (Nat.le_refl _) (by rw [HDD.out]; exact ho.out) (by omega) (by rw [← HQ.out, ← HD.out]; (simp <;> omega)) rfl
        | true =>
          go_wp2
          have LO : LB (w1.alloc (.cells #[.bool false, .slice none 0 0] 66)) w1.heap.size (.bool false) (.slice none 0 0) := LB.new _ _ _
          have LR0 := L0.alloc (.cells #[.bool false, .slice none 0 0] 66)
          have HB2 := HB0.out.alloc HB0.out.size (.cells #[.bool false, .slice none 0 0] 66)
          have HS2 := Lib.hid (show w1.heap.size + 1 ≤ (w1.alloc (.cells #[.bool false, .slice none 0 0] 66)).heap.size by simp)
          clear L0
          go_loopw [7] (fun iv wr => ∃ (i : Nat) (v : Value), i ≤ 0 ∧ iv = .int .i64 i ∧ LB wr w.heap.size (.bool false) (.slice none 0 0) ∧ LB wr w1.heap.size (.bool false) v ∧ Hid (OwnV wr (w1.heap.size + 1) v (ni (ds.take i))) ∧ Hid (w1.heap.size + 1 ≤ wr.heap.size) ∧ Below w.heap.size w wr) (fun iv _ => 0 - (intOf iv).toNat)
          case atStart => exact ⟨0, _, by omega, rfl, LR0, LO, Lib.hid (OwnV.nil _ _), HS2, HB2⟩
          case round =>
            clear LO LR0 HB2 HS2
            obtain ⟨i, v, hin, rfl, L0, LO, ho, hszr, hbw⟩ := hrel
            have HB := Lib.hid hbw
            by_cases hlt : i < 0
            · exact absurd hlt (Nat.not_lt_zero _)
            · obtain rfl : i = 0 := by omega
              have HRI := Lib.hid ho.out.ri
              have hri := ho.out.ri
              obtain ⟨A', c', rfl, -⟩ := hri
              have HDD := Lib.hid (show ni (dig (sgn true (val ds)).natAbs) = ni (ds.take 0) by rw [sgn_nat, HD.out])
              have qa0 := LO.cell0
              have qa1 := LO.cell1
              have qb0 := L0.cell0
              have qb1 := L0.cell1
              have qb2 := L0.frozen 0
              have qb3 := L0.frozen 1
              have hlt1 := LO.lt
              have hlt0 := L0.lt
              clear hbw hlt
              go_wp2
              (try simp only [Exit.inBlock, Exit.then])
              exact end_own rfl L0 HB.out (Nat.le_refl _) (by rw [HDD.out]; exact ho.out) (by omega) (by rw [← HQ.out, ← HD.out]; (simp <;> omega)) rfl
      · obtain ⟨k, rfl⟩ : ∃ k, n = k + 1 := ⟨n - 1, by omega⟩
        have hk : k < ds.length := by omega
        have hne : ds[k] ≠ 0 := by
          rcases hz with h | ⟨h, h'⟩
          · omega
          · exact h'
        obtain ⟨g, off, rfl, hg, hx⟩ := hA.out (by omega)
        have h1 := (HB0.out.cell (p := ⟨g, off + k, none⟩) hg).trans (hx k hk)
        have hnz : ((ds[k] : Int) == 0) = false := by rw [beq_eq_false_iff_ne]; omega
        have HX0 := Lib.hid hx
        clear hx hz hne hA
        cases neg with
        | false =>
          go_wp2
          have LO : LB (w1.alloc (.cells #[.bool false, .slice none 0 0] 66)) w1.heap.size (.bool false) (.slice none 0 0) := LB.new _ _ _
          have LR0 := L0.alloc (.cells #[.bool false, .slice none 0 0] 66)
          have HB2 := HB0.out.alloc HB0.out.size (.cells #[.bool false, .slice none 0 0] 66)
          have HS2 := Lib.hid (show w1.heap.size + 1 ≤ (w1.alloc (.cells #[.bool false, .slice none 0 0] 66)).heap.size by simp)
          clear L0
          go_loopw [7] (fun iv wr => ∃ (i : Nat) (v : Value), i ≤ (k + 1) ∧ iv = .int .i64 i ∧ LB wr w.heap.size (.bool false) (.slice none 0 0) ∧ LB wr w1.heap.size (.bool false) v ∧ Hid (OwnV wr (w1.heap.size + 1) v (ni (ds.take i))) ∧ Hid (w1.heap.size + 1 ≤ wr.heap.size) ∧ Below w.heap.size w wr) (fun iv _ => (k + 1) - (intOf iv).toNat)
          case atStart => exact ⟨0, _, by omega, rfl, LR0, LO, Lib.hid (OwnV.nil _ _), HS2, HB2⟩
          case round =>
            clear LO LR0 HB2 HS2
            obtain ⟨i, v, hin, rfl, L0, LO, ho, hszr, hbw⟩ := hrel
            have HB := Lib.hid hbw
            by_cases hlt : i < (k + 1)
            · have hid : i < ds.length := by omega
              have hini : (i : Int) < (((k + 1) : Nat) : Int) := by omega
              have hini2 : (i : Int) < ds.length := by omega
              have hi00 : (0 : Int) ≤ (i : Int) := by omega
              have hc1 := LO.cell1
              have hf1 := LO.frozen 1
              have hlt1 := LO.lt
              obtain ⟨d, hd⟩ : ∃ d, d = ds[i] := ⟨_, rfl⟩
              have hx1 := (hbw.cell (p := ⟨g, off + i, none⟩) hg).trans (HX0.out i hid)
              rw [← hd] at hx1
              have hgr : g < wr.heap.size := by have := hbw.size; omega
              have HTK := Lib.hid (show ni (ds.take (i + 1)) = ni (ds.take i) ++ [(d : Int)] by rw [hd, List.take_succ_eq_append_getElem hid, ni_append]; rfl)
              have hlen : (ni (ds.take i)).length = i := by rw [ni_length]; simp; omega
              have HLEN := Lib.hid hlen
              have hga : v.ownBlock ≠ some g := fun e => by have := (World.ownsRow.lt ho.out g e).1; omega
              have hgo : v.ownBlock ≠ some w1.heap.size := fun e => by have := (World.ownsRow.lt ho.out w1.heap.size e).1; omega
              have hgr0 : v.ownBlock ≠ some w.heap.size := fun e => by have := (World.ownsRow.lt ho.out w.heap.size e).1; omega
              have HAL : Hid (∀ o : Obj, (wr.alloc o).drew.cell? ⟨g, off + i, none⟩ = some (.int .i64 (d : Int))) := Lib.hid (fun o => (World.cell?_of_block (w := wr) (w' := (wr.alloc o).drew) (a := ⟨g, off + i, none⟩) (Below.heap_alloc wr o _ hgr)).trans hx1)
              clear hbw hd hlen
              go_wp2
              go_region_law (first
                  | (refine step_append_lies _ (by rfl) _ _ _ (by rfl) (w1.heap.size + 1) 3 i0 _ 1 8 Tryz.underlying64 hi hz0 hz1 hz2 rfl (by omega) v (ni (ds.take i)).length ((ni (ds.take i)).map (Value.int .i64)) (by rfl) ((OwnV.alloc ho.out _).drew) ⟨wr.heap.size, 0, none⟩ 1 1 [.int .i64 (d : Int)] (by rfl) (by rfl) (World.news_of_block (cs := #[.int .i64 (d : Int)]) (t := 3) (fr := (0, 0)) (heap_alloc_new wr _)) (by simp [Value.oneCell']) (by omega) (by have := HLEN.out; unfold maxLen; omega) (by have := HLEN.out; omega) (by have := hszr.out; simp; omega) (wr.heap.size + 1) (by simp) ?_; intro gg cap w4 hown4 hgrow hat hlt4; have M0 := LB.grown (LB.drew (LB.alloc L0 _)) hgrow hgr0; have M1 := LB.grown (LB.drew (LB.alloc LO _)) hgrow hgo; have qm1 := M1.cell1; have qm2 := M1.frozen 1; have qx4 : w4.cell? ⟨g, off + i, none⟩ = some (.int .i64 (d : Int)) := Eq.trans (hgrow.cell_far _ (by simp; omega) (Ne.symm hga)) (HAL.out _)))
              all_goals
                have hv' : OwnV w4 (w1.heap.size + 1) (.slice (some ⟨gg, 0, none⟩) ((ni (ds.take i)).length + 1) cap) (ni (ds.take (i + 1))) := by
                  rw [HTK.out]
                  unfold OwnV
                  rw [List.length_append, List.map_append]
                  exact hown4
                have HV := Lib.hid (hv'.setBelow (p := ⟨w1.heap.size, 1, none⟩) (by simp) (.slice (some ⟨gg, 0, none⟩) ((ni (ds.take i)).length + 1) cap))
                have N0 := M0.far (p := ⟨w1.heap.size, 1, none⟩) (by simp; omega) (.slice (some ⟨gg, 0, none⟩) ((ni (ds.take i)).length + 1) cap)
                have N1 := M1.set1 (.slice (some ⟨gg, 0, none⟩) ((ni (ds.take i)).length + 1) cap)
                have HB4 := Lib.hid ((((HB.out.alloc HB.out.size (.cells #[.int .i64 (d : Int)] 3)).drew).grown hgrow (by have := HB.out.size; simp; omega) (fun g' e => by have := (World.ownsRow.lt ho.out g' e).1; omega)).setCell (p := ⟨w1.heap.size, 1, none⟩) (by simp; omega) (.slice (some ⟨gg, 0, none⟩) ((ni (ds.take i)).length + 1) cap))
                have HS4 := Lib.hid (show w1.heap.size + 1 ≤ (w4.setCell ⟨w1.heap.size, 1, none⟩ (.slice (some ⟨gg, 0, none⟩) ((ni (ds.take i)).length + 1) cap)).heap.size by have h1 := hgrow.size; have h2 := hszr.out; simp [World.setCell] at h1 ⊢; omega)
                clear hown4 hgrow hat hlt4 M0 M1 qm1 qm2 hv'
                go_wp2
                go_roundw
                case rel => exact ⟨i + 1, _, by omega, by go_num, N0, N1, HV, HS4, HB4.out⟩
                case measure => simp [intOf]; omega
            · obtain rfl : i = (k + 1) := by omega
              have HRI := Lib.hid ho.out.ri
              have hri := ho.out.ri
              obtain ⟨A', c', rfl, -⟩ := hri
              have HDD := Lib.hid (show ni (dig (sgn false (val ds)).natAbs) = ni (ds.take (k + 1)) by rw [sgn_nat, HD.out])
              have qa0 := LO.cell0
              have qa1 := LO.cell1
              have qb0 := L0.cell0
              have qb1 := L0.cell1
              have qb2 := L0.frozen 0
              have qb3 := L0.frozen 1
              have hlt1 := LO.lt
              have hlt0 := L0.lt
              clear hbw hlt
              go_wp2
              (try simp only [Exit.inBlock, Exit.then])
              exact end_own rfl L0 HB.out (Nat.le_refl _) (by rw [HDD.out]; exact ho.out) (by omega) (by rw [← HQ.out, ← HD.out]; (simp <;> omega)) rfl
        | true =>
          go_wp2
          have LO : LB (w1.alloc (.cells #[.bool true, .slice none 0 0] 66)) w1.heap.size (.bool true) (.slice none 0 0) := LB.new _ _ _
          have LR0 := L0.alloc (.cells #[.bool true, .slice none 0 0] 66)
          have HB2 := HB0.out.alloc HB0.out.size (.cells #[.bool true, .slice none 0 0] 66)
          have HS2 := Lib.hid (show w1.heap.size + 1 ≤ (w1.alloc (.cells #[.bool true, .slice none 0 0] 66)).heap.size by simp)
          clear L0
          go_loopw [7] (fun iv wr => ∃ (i : Nat) (v : Value), i ≤ (k + 1) ∧ iv = .int .i64 i ∧ LB wr w.heap.size (.bool false) (.slice none 0 0) ∧ LB wr w1.heap.size (.bool true) v ∧ Hid (OwnV wr (w1.heap.size + 1) v (ni (ds.take i))) ∧ Hid (w1.heap.size + 1 ≤ wr.heap.size) ∧ Below w.heap.size w wr) (fun iv _ => (k + 1) - (intOf iv).toNat)
          case atStart => exact ⟨0, _, by omega, rfl, LR0, LO, Lib.hid (OwnV.nil _ _), HS2, HB2⟩
          case round =>
            clear LO LR0 HB2 HS2
            obtain ⟨i, v, hin, rfl, L0, LO, ho, hszr, hbw⟩ := hrel
            have HB := Lib.hid hbw
            by_cases hlt : i < (k + 1)
            · have hid : i < ds.length := by omega
              have hini : (i : Int) < (((k + 1) : Nat) : Int) := by omega
              have hini2 : (i : Int) < ds.length := by omega
              have hi00 : (0 : Int) ≤ (i : Int) := by omega
              have hc1 := LO.cell1
              have hf1 := LO.frozen 1
              have hlt1 := LO.lt
              obtain ⟨d, hd⟩ : ∃ d, d = ds[i] := ⟨_, rfl⟩
              have hx1 := (hbw.cell (p := ⟨g, off + i, none⟩) hg).trans (HX0.out i hid)
              rw [← hd] at hx1
              have hgr : g < wr.heap.size := by have := hbw.size; omega
              have HTK := Lib.hid (show ni (ds.take (i + 1)) = ni (ds.take i) ++ [(d : Int)] by rw [hd, List.take_succ_eq_append_getElem hid, ni_append]; rfl)
              have hlen : (ni (ds.take i)).length = i := by rw [ni_length]; simp; omega
              have HLEN := Lib.hid hlen
              have hga : v.ownBlock ≠ some g := fun e => by have := (World.ownsRow.lt ho.out g e).1; omega
              have hgo : v.ownBlock ≠ some w1.heap.size := fun e => by have := (World.ownsRow.lt ho.out w1.heap.size e).1; omega
              have hgr0 : v.ownBlock ≠ some w.heap.size := fun e => by have := (World.ownsRow.lt ho.out w.heap.size e).1; omega
              have HAL : Hid (∀ o : Obj, (wr.alloc o).drew.cell? ⟨g, off + i, none⟩ = some (.int .i64 (d : Int))) := Lib.hid (fun o => (World.cell?_of_block (w := wr) (w' := (wr.alloc o).drew) (a := ⟨g, off + i, none⟩) (Below.heap_alloc wr o _ hgr)).trans hx1)
              clear hbw hd hlen
              go_wp2
              go_region_law (first
                  | (refine step_append_lies _ (by rfl) _ _ _ (by rfl) (w1.heap.size + 1) 3 i0 _ 1 8 Tryz.underlying64 hi hz0 hz1 hz2 rfl (by omega) v (ni (ds.take i)).length ((ni (ds.take i)).map (Value.int .i64)) (by rfl) ((OwnV.alloc ho.out _).drew) ⟨wr.heap.size, 0, none⟩ 1 1 [.int .i64 (d : Int)] (by rfl) (by rfl) (World.news_of_block (cs := #[.int .i64 (d : Int)]) (t := 3) (fr := (0, 0)) (heap_alloc_new wr _)) (by simp [Value.oneCell']) (by omega) (by have := HLEN.out; unfold maxLen; omega) (by have := HLEN.out; omega) (by have := hszr.out; simp; omega) (wr.heap.size + 1) (by simp) ?_; intro gg cap w4 hown4 hgrow hat hlt4; have M0 := LB.grown (LB.drew (LB.alloc L0 _)) hgrow hgr0; have M1 := LB.grown (LB.drew (LB.alloc LO _)) hgrow hgo; have qm1 := M1.cell1; have qm2 := M1.frozen 1; have qx4 : w4.cell? ⟨g, off + i, none⟩ = some (.int .i64 (d : Int)) := Eq.trans (hgrow.cell_far _ (by simp; omega) (Ne.symm hga)) (HAL.out _)))
              all_goals
                have hv' : OwnV w4 (w1.heap.size + 1) (.slice (some ⟨gg, 0, none⟩) ((ni (ds.take i)).length + 1) cap) (ni (ds.take (i + 1))) := by
                  rw [HTK.out]
                  unfold OwnV
                  rw [List.length_append, List.map_append]
                  exact hown4
                have HV := Lib.hid (hv'.setBelow (p := ⟨w1.heap.size, 1, none⟩) (by simp) (.slice (some ⟨gg, 0, none⟩) ((ni (ds.take i)).length + 1) cap))
                have N0 := M0.far (p := ⟨w1.heap.size, 1, none⟩) (by simp; omega) (.slice (some ⟨gg, 0, none⟩) ((ni (ds.take i)).length + 1) cap)
                have N1 := M1.set1 (.slice (some ⟨gg, 0, none⟩) ((ni (ds.take i)).length + 1) cap)
                have HB4 := Lib.hid ((((HB.out.alloc HB.out.size (.cells #[.int .i64 (d : Int)] 3)).drew).grown hgrow (by have := HB.out.size; simp; omega) (fun g' e => by have := (World.ownsRow.lt ho.out g' e).1; omega)).setCell (p := ⟨w1.heap.size, 1, none⟩) (by simp; omega) (.slice (some ⟨gg, 0, none⟩) ((ni (ds.take i)).length + 1) cap))
                have HS4 := Lib.hid (show w1.heap.size + 1 ≤ (w4.setCell ⟨w1.heap.size, 1, none⟩ (.slice (some ⟨gg, 0, none⟩) ((ni (ds.take i)).length + 1) cap)).heap.size by have h1 := hgrow.size; have h2 := hszr.out; simp [World.setCell] at h1 ⊢; omega)
                clear hown4 hgrow hat hlt4 M0 M1 qm1 qm2 hv'
                go_wp2
                go_roundw
                case rel => exact ⟨i + 1, _, by omega, by go_num, N0, N1, HV, HS4, HB4.out⟩
                case measure => simp [intOf]; omega
            · obtain rfl : i = (k + 1) := by omega
              have HRI := Lib.hid ho.out.ri
              have hri := ho.out.ri
              obtain ⟨A', c', rfl, -⟩ := hri
              have HDD := Lib.hid (show ni (dig (sgn true (val ds)).natAbs) = ni (ds.take (k + 1)) by rw [sgn_nat, HD.out])
              have qa0 := LO.cell0
              have qa1 := LO.cell1
              have qb0 := L0.cell0
              have qb1 := L0.cell1
              have qb2 := L0.frozen 0
              have qb3 := L0.frozen 1
              have hlt1 := LO.lt
              have hlt0 := L0.lt
              clear hbw hlt
              go_wp2
              (try simp only [Exit.inBlock, Exit.then])
              exact end_own rfl L0 HB.out (Nat.le_refl _) (by rw [HDD.out]; exact ho.out) (by omega) (by rw [← HQ.out, ← HD.out]; (simp <;> omega)) rfl
theorem made_any (w : World) (neg : Bool) (v : Value) (ds : List Nat) (h : RN w w.heap.size v ds) (hs : Small ds) (hl : ds.length ≤ 1000000) :
    Calls Tryz.prog 76 #[.bool neg, v] w fun e w' => Below w.heap.size w w' ∧ RetV w' (sgn neg (val ds)) e :=
  (made_own w neg v ds h hs hl).mono fun _ _ ⟨h1, h2⟩ => ⟨h1, h2.any⟩
end Go.Proofs.YtfklkphoplpebaaGreatDoor

/- Words that many walks use: Longs of numbers, how many digits they have; what calls, draws, stores leave of what is known. -/
namespace Go.Proofs.YtfklkphoplpebaaGreatDoor
open Go Go.RowKit Dig

def Fit (z : Int) : Prop := (dig z.natAbs).length ≤ 600
theorem Fit.le {z y : Int} (h : Fit z) (hy : y.natAbs ≤ z.natAbs) : Fit y := Nat.le_trans (dig_len_mono hy) h
theorem told_fit {z : Int} (h : Fit z) : toldZ z = (z, 0) := by unfold toldZ; exact if_pos h
theorem below_undrew {B : Nat} {a w : World} (h : Below B a.drew w) : Below B a w := ⟨h.os, h.tape, h.output, h.size, h.block⟩
/-- A valid Long reads as it did behind stores into a Long variable. -/
theorem LV.setLB {w : World} {v : Value} {z : Int} {b : Nat} {p q : Bool} {A A' : Option Addr} {n c n' c' : Nat} (h : LV w w.heap.size v z) (hv : LB w b (.bool p) (.slice A n c)) (u0 u1 : Value) (h0 : u0 = .bool q) (h1 : u1 = .slice A' n' c') :
    LV ((w.setCell ⟨b, 0, none⟩ u0).setCell ⟨b, 1, none⟩ u1) ((w.setCell ⟨b, 0, none⟩ u0).setCell ⟨b, 1, none⟩ u1).heap.size v z := by
  subst h0 h1
  obtain ⟨s, rfl, hs⟩ := h
  have e : ((w.setCell ⟨b, 0, none⟩ (.bool q)).setCell ⟨b, 1, none⟩ (.slice A' n' c')).heap.size = w.heap.size := by simp [World.setCell]
  rw [e]
  exact ⟨s, rfl, (hs.setLB hv 0 (.bool q)).setLB (hv.set0 _) 1 _⟩
theorem LV.parts {w : World} {B : Nat} {v : Value} {z : Int} (h : LV w B v z) : ∃ A c, v = .agg #[.bool (decide (z < 0)), .slice A (dig z.natAbs).length c] ∧ RI w B (.slice A (dig z.natAbs).length c) (ni (dig z.natAbs)) := by
  obtain ⟨s, rfl, hs⟩ := h
  obtain ⟨A, c, hv, hr⟩ := hs
  rw [ni_length] at hv
  subst hv
  exact ⟨A, c, rfl, A, c, by rw [ni_length], hr⟩
/-- At most k digits. -/
def Len (k : Nat) (z : Int) : Prop := (dig z.natAbs).length ≤ k
theorem Len.fit {k : Nat} {z : Int} (h : Len k z) (hk : k ≤ 600) : Fit z := Nat.le_trans h hk
theorem Len.mono {k m : Nat} {z : Int} (h : Len k z) (hk : k ≤ m) : Len m z := Nat.le_trans h hk
theorem Len.le {k : Nat} {z y : Int} (h : Len k z) (hy : y.natAbs ≤ z.natAbs) : Len k y := Nat.le_trans (dig_len_mono hy) h
theorem Len.mul {j k : Nat} {a b : Int} (h : Len j a) (h' : Len k b) : Len (j + k) (a * b) := by
  unfold Len
  rw [Int.natAbs_mul]
  exact Nat.le_trans (dig_len_mul _ _) (Nat.add_le_add h h')
theorem Len.add {k : Nat} {a b : Int} (h : Len k a) (h' : Len k b) : Len (k + 1) (a + b) := by
  have h1 := dig_len_add a.natAbs b.natAbs h h'
  exact Nat.le_trans (dig_len_mono (show (a + b).natAbs ≤ a.natAbs + b.natAbs by omega)) h1
theorem Len.sub {k : Nat} {a b : Int} (h : Len k a) (h' : Len k b) : Len (k + 1) (a - b) := by
  have h1 := dig_len_add a.natAbs b.natAbs h h'
  exact Nat.le_trans (dig_len_mono (show (a - b).natAbs ≤ a.natAbs + b.natAbs by omega)) h1
theorem Len.small {z : Int} (h : z.natAbs < 1000000000) : Len 1 z := dig_len_le.2 (show z.natAbs < bp 1 from h)
section
variable {w : World} {v : Value} {z : Int}
theorem LV.alloc (h : LV w w.heap.size v z) (o : Obj) : LV (w.alloc o) (w.alloc o).heap.size v z := h.step ((Below.refl _ _).alloc (Nat.le_refl _) o)
theorem LV.drew1 (h : LV w w.heap.size v z) : LV w.drew w.drew.heap.size v z := h
theorem One.drew1 {b : Nat} {t : TypeId} (h : One w b t v) : One w.drew b t v := h
/-- Behind a call that was made behind a draw, a new variable, or both. -/
theorem below_call {W w' : World} {o : Obj} (h : Below W.heap.size W w) (hb : Below (w.alloc o).heap.size (w.alloc o) w') : Below W.heap.size W w' := (h.alloc h.size o).trans (hb.mono (Nat.le_trans h.size (by simp)))
theorem below_call_drew {W w' : World} {o : Obj} (h : Below W.heap.size W w) (hb : Below (w.alloc o).drew.heap.size (w.alloc o).drew w') : Below W.heap.size W w' := below_call h (below_undrew hb)
theorem below_call_drew0 {W w' : World} (h : Below W.heap.size W w) (hb : Below w.drew.heap.size w.drew w') : Below W.heap.size W w' := h.trans ((below_undrew hb).mono h.size)
theorem below_call0 {W w' : World} (h : Below W.heap.size W w) (hb : Below w.heap.size w w') : Below W.heap.size W w' := h.trans (hb.mono h.size)
end
theorem RI.first {w : World} {B : Nat} {A : Option Addr} {n c : Nat} {l : List Int} (h : RI w B (.slice A n c) l) (k : Nat) (hk : k ≤ n) : RI w B (.slice A k c) (l.take k) := by
  obtain ⟨A', c', he, hc, hm, hA⟩ := h
  injection he with h1 h2 h3
  subst h1; subst h2; subst h3
  refine ⟨A, c, by rw [List.length_take, Nat.min_eq_left hk], by rw [List.length_take]; omega, hm, fun hl => ?_⟩
  obtain ⟨g, off, rfl, hg, hcell⟩ := hA (by rw [List.length_take] at hl; omega)
  refine ⟨g, off, rfl, hg, fun j hj => ?_⟩
  rw [hcell j (by rw [List.length_take] at hj; omega), List.getElem_take]
theorem RI.first' {w : World} {B : Nat} {A : Option Addr} {n c : Nat} {l : List Int} (h : RI w B (.slice A n c) l) (k : Nat) : RI w B (.slice A (l.take k).length c) (l.take k) := by
  have hn : n = l.length := by obtain ⟨A', c', he, _⟩ := h; injection he
  have h1 := h.first (min k l.length) (by omega)
  rw [show l.take (min k l.length) = l.take k by rw [Nat.min_comm, List.take_eq_take_iff]; omega] at h1
  rwa [List.length_take]

section
variable {w w' : World} {b : Nat} {t : TypeId} {cs : Array Value}
/-- A block of cells of a type. -/
def CB (w : World) (b : Nat) (t : TypeId) (cs : Array Value) : Prop := w.heap[b]? = some (.cells cs t (0, 0))
theorem CB.lt (h : CB w b t cs) : b < w.heap.size := by
  unfold CB at h
  exact (Array.getElem?_eq_some_iff.1 h).1
theorem CB.step (h : CB w b t cs) (hb : Below w.heap.size w w') : CB w' b t cs := (hb.block b h.lt).trans h
theorem CB.drew (h : CB w b t cs) : CB w.drew b t cs := h
theorem CB.alloc (h : CB w b t cs) (o : Obj) : CB (w.alloc o) b t cs := (Below.heap_alloc w o b h.lt).trans h
theorem CB.far (h : CB w b t cs) {p : Addr} (hp : b ≠ p.block) (u : Value) : CB (w.setCell p u) b t cs := (Below.heap_setCell w p u b hp).trans h
theorem CB.new (w : World) (t : TypeId) (cs : Array Value) : CB (w.alloc (.cells cs t)) w.heap.size t cs := heap_alloc_new w _
theorem CB.cell (h : CB w b t cs) (j : Nat) {v : Value} (hv : cs[j]? = some v) : w.cell? ⟨b, j, none⟩ = some v := by
  unfold CB at h; simp [World.cell?, h, hv]
theorem CB.frozen (h : CB w b t cs) (j : Nat) : w.frozen? ⟨b, j, none⟩ = false := by
  unfold CB at h; simp [World.frozen?, h]
end
theorem RI.drew1 {w : World} {v : Value} {l : List Int} (h : RI w w.heap.size v l) : RI w.drew w.drew.heap.size v l := h
theorem LR.of {w : World} {B : Nat} {s : Value} {n : Bool} {l : List Int} (h : RI w B s l) : LR w B (.agg #[.bool n, s]) n l := ⟨s, rfl, h⟩
theorem RI.drew2 {w : World} {v : Value} {l : List Int} (h : RI w w.heap.size v l) (o : Obj) : RI (w.alloc o) (w.alloc o).heap.size v l := RI.step h ((Below.refl _ _).alloc (Nat.le_refl _) o)
theorem below_alloc1 {W w : World} (h : Below W.heap.size W w) (o : Obj) : Below W.heap.size W (w.alloc o) := h.alloc h.size o
theorem below_drew1 {B : Nat} {W w : World} (h : Below B W w) : Below B W w.drew := ⟨h.os, h.tape, h.output, h.size, h.block⟩
theorem below_set1 {W w : World} {b : Nat} (h : Below W.heap.size W w) (hb : W.heap.size ≤ b) (k : Nat) (v : Value) : Below W.heap.size W (w.setCell ⟨b, k, none⟩ v) := h.setCell (p := ⟨b, k, none⟩) hb v
theorem lb_far {w : World} {b b' k : Nat} {x y u : Value} (h : LB w b x y) (hne : b ≠ b') : LB (w.setCell ⟨b', k, none⟩ u) b x y := h.far (p := ⟨b', k, none⟩) hne u
theorem lb_put0 {w : World} {b : Nat} {u u' : Value} (h : LB w b (.bool false) (.slice none 0 0)) : LB ((w.setCell ⟨b, 0, none⟩ u).setCell ⟨b, 1, none⟩ u') b u u' := (h.set0 u).set1 u'
theorem lv_put0 {w : World} {b : Nat} {q : Bool} {u' v : Value} {z : Int} (hb : LB w b (.bool false) (.slice none 0 0)) (h : LV w w.heap.size v z) : LV ((w.setCell ⟨b, 0, none⟩ (.bool q)).setCell ⟨b, 1, none⟩ u') ((w.setCell ⟨b, 0, none⟩ (.bool q)).setCell ⟨b, 1, none⟩ u').heap.size v z := by
  obtain ⟨s, hs, hr⟩ := h
  refine ⟨s, hs, ?_⟩
  have h1 := (hr.setLB hb 0 (.bool q)).setLB (hb.set0 (.bool q)) 1 u'
  simpa [World.setCell] using h1
theorem have_then {T G : Prop} (h : T) (k : T → G) : G := k h
theorem LR.zero (w : World) (B : Nat) : LR w B (.agg #[.bool false, .slice none 0 0]) false [] := ⟨_, rfl, RI.nil _ _⟩
theorem LR.alloc {w : World} {v : Value} {n : Bool} {l : List Int} (h : LR w w.heap.size v n l) (o : Obj) : LR (w.alloc o) (w.alloc o).heap.size v n l := h.step ((Below.refl _ _).alloc (Nat.le_refl _) o)
theorem LR.drew1 {w : World} {v : Value} {n : Bool} {l : List Int} (h : LR w w.heap.size v n l) : LR w.drew w.drew.heap.size v n l := h
theorem RN.drew1 {w : World} {v : Value} {l : List Nat} (h : RN w w.heap.size v l) : RN w.drew w.drew.heap.size v l := h
theorem RN.stepN {w w' : World} {v : Value} {l : List Nat} (h : RN w w.heap.size v l) (hb : Below w.heap.size w w') : RN w' w'.heap.size v l := RI.step (show RI _ _ _ _ from h) hb
theorem RN.of_lv {w : World} {B : Nat} {s : Value} {n : Nat} (h : RI w B s (ni (dig n))) : RN w B s (dig n) := h

/-- A valid Long is the Long of a number. -/
theorem LR.num {w : World} {B : Nat} {v : Value} {n : Bool} {l : List Int} (h : LR w B v n l) (hv : Valid n l) : ∃ z : Int, numOf n l = some z ∧ LV w B v z ∧ (dig z.natAbs).length ≤ 600 := by
  obtain ⟨z, h1, h2, h3, h4⟩ := numOf_valid hv
  refine ⟨z, h1, ?_, h4⟩
  rw [h2, h3] at h
  exact h

/-- What is an int stays one, whatever else turns. -/
def Soft (w w' : World) : Prop := w.heap.size ≤ w'.heap.size ∧ ∀ p k x, w.cell? p = some (.int k x) → w'.cell? p = some (.int k x)
theorem Soft.refl (w : World) : Soft w w := ⟨Nat.le_refl _, fun _ _ _ h => h⟩
theorem Soft.trans {w w' w'' : World} (h : Soft w w') (k : Soft w' w'') : Soft w w'' := ⟨Nat.le_trans h.1 k.1, fun p a x e => k.2 p a x (h.2 p a x e)⟩
theorem cell_lt {w : World} {p : Addr} {v : Value} (h : w.cell? p = some v) : p.block < w.heap.size := by
  rcases Nat.lt_or_ge p.block w.heap.size with hlt | hge
  · exact hlt
  · simp only [World.cell?, Array.getElem?_eq_none hge] at h; cases h
theorem Soft.of {w w' : World} (h : Below w.heap.size w w') : Soft w w' := ⟨h.size, fun _ _ _ e => (h.cell (cell_lt e)).trans e⟩
theorem Soft.alloc (w : World) (o : Obj) : Soft w (w.alloc o) := Soft.of ((Below.refl _ _).alloc (Nat.le_refl _) o)
theorem Soft.drewN (w : World) (n : Nat) : Soft w (w.drewN n) := ⟨Nat.le_refl _, fun _ _ _ e => e⟩
theorem Soft.set {w : World} {p : Addr} {u : Value} (hb : ∀ q : Addr, q.block = p.block → ∀ k x, w.cell? q ≠ some (.int k x)) : Soft w (w.setCell p u) := by
  refine ⟨by simp [World.setCell], fun q k x e => ?_⟩
  by_cases hq : q.block = p.block
  · exact absurd e (hb q hq k x)
  · exact (World.cell?_of_block (Below.heap_setCell _ _ _ _ hq)).trans e
theorem RI.soft {w w' : World} {v : Value} {l : List Int} (h : RI w w.heap.size v l) (hs : Soft w w') : RI w' w'.heap.size v l := by
  obtain ⟨A, c, hv, hc, hm, h0⟩ := h
  refine ⟨A, c, hv, hc, hm, fun hn => ?_⟩
  obtain ⟨g, off, hA, hg, hx⟩ := h0 hn
  exact ⟨g, off, hA, Nat.lt_of_lt_of_le hg hs.1, fun j hj => hs.2 _ _ _ (hx j hj)⟩
theorem LR.soft {w w' : World} {v : Value} {n : Bool} {l : List Int} (h : LR w w.heap.size v n l) (hs : Soft w w') : LR w' w'.heap.size v n l := by
  obtain ⟨s, hv, hr⟩ := h
  exact ⟨s, hv, hr.soft hs⟩
theorem LV.soft {w w' : World} {v : Value} {z : Int} (h : LV w w.heap.size v z) (hs : Soft w w') : LV w' w'.heap.size v z := LR.soft h hs
/-- A Long with its parts as variables. -/
theorem LV.opened {w : World} {B : Nat} {v : Value} {z : Int} (h : LV w B v z) : ∃ n A l c, v = .agg #[.bool n, .slice A l c] ∧ LV w B (.agg #[.bool n, .slice A l c]) z := by
  obtain ⟨A, c, rfl, -⟩ := h.parts
  exact ⟨_, _, _, _, rfl, h⟩
theorem LR.opened {w : World} {B : Nat} {v : Value} {n : Bool} {l : List Int} (h : LR w B v n l) : ∃ A k c, v = .agg #[.bool n, .slice A k c] ∧ LR w B (.agg #[.bool n, .slice A k c]) n l := by
  obtain ⟨s, rfl, hs⟩ := h
  obtain ⟨A, c, rfl, -⟩ := hs.at
  exact ⟨_, _, _, rfl, _, rfl, hs⟩
theorem LV.is {w : World} {B : Nat} {n : Bool} {A : Option Addr} {l c : Nat} {z : Int} (h : LV w B (.agg #[.bool n, .slice A l c]) z) : n = decide (z < 0) ∧ l = (dig z.natAbs).length ∧ RN w B (.slice A l c) (dig z.natAbs) := by
  obtain ⟨A', c', e, hr⟩ := h.parts
  injection e with e
  simp at e
  obtain ⟨e1, rfl, e2, rfl⟩ := e
  exact ⟨e1, e2, by rw [e2]; exact hr⟩
/-- An int is appended to a row of its own. -/
theorem push_int {base : Nat} {l : List Int} {x : Int} {w' : World} {v' : Value}
    (h : w'.ownsRow base 3 1 v' (l.length + 1) (l.map (Value.int .i64) ++ [.int .i64 x])) : OwnV w' base v' (l ++ [x]) := by
  rw [OwnV, List.length_append, List.map_append]
  exact h
theorem RN.below {w w' : World} {B : Nat} {v : Value} {l : List Nat} (h : RN w B v l) (hb : Below B w w') : RN w' B v l := RI.below h hb
theorem RN.more {w : World} {B B' : Nat} {v : Value} {l : List Nat} (h : RN w B v l) (hB : B ≤ B') : RN w B' v l := RI.more h hB
/-- One digit of a row, and where it lies. -/
theorem RN.digit {w : World} {B n c i : Nat} {A : Option Addr} {l : List Nat} (h : RN w B (.slice A n c) l) (hi : i < l.length) : ∃ g off, A = some ⟨g, off, none⟩ ∧ w.cell? ⟨g, off + i, none⟩ = some (.int .i64 (l.getD i 0 : Nat)) := by
  obtain ⟨A', c', e, -, -, h0⟩ := h.cell
  injection e with e1 e2 e3
  subst e1
  obtain ⟨g, off, rfl, -, hx⟩ := h0 (by omega)
  exact ⟨g, off, rfl, by rw [hx i hi, getD_get hi]⟩
/-- The same, where the address is known. -/
theorem RN.digit' {w : World} {B n c i g off : Nat} {l : List Nat} (h : RN w B (.slice (some ⟨g, off, none⟩) n c) l) (hi : i < l.length) : w.cell? ⟨g, off + i, none⟩ = some (.int .i64 (l.getD i 0 : Nat)) := by
  obtain ⟨g', off', e, hx⟩ := h.digit hi
  injection e with e
  injection e with e1 e2
  subst e1; subst e2
  exact hx
/-- The end of a function that returns a Long, where a Long has been stored. -/
theorem end_long {fn : Func} {p : Tmp} (hf : fn.results = #[.cell p 66]) {W w : World} {B b : Nat} {q0 : Bool} {A : Option Addr} {n c : Nat} (hL : LB w b (.bool q0) (.slice A n c)) (hb : Below B W w) (hB : B ≤ b)
    {q : Bool} {A' : Option Addr} {n' c' : Nat} {z : Int} {tmps : Array Value} (hz : LV w w.heap.size (.agg #[.bool q, .slice A' n' c']) z) (hp : tmps.getD p undef = .pointer (some ⟨b, 0, none⟩)) :
    bodyPost Tryz.prog fn (fun e w' => Below B W w' ∧ RetV w' z e) .ret ⟨tmps, []⟩ ((w.setCell ⟨b, 0, none⟩ (.bool q)).setCell ⟨b, 1, none⟩ (.slice A' n' c')) :=
  end_one hf hL hb hB hz.is.2.2 hz.is.1 hp
/-- The digits of a Long value: lay it ahead of go_enter where a result's field is taken. -/
theorem fld_digits (q : Bool) (s : Value) (w : World) : (Instr.field 66 (.agg #[.bool q, s]) 1).run Tryz.prog w = .ok s w := by kernel_rfl
theorem sgn_natAbs (z : Int) : sgn (decide (z < 0)) z.natAbs = z := by
  by_cases h : z < 0
  · rw [decide_eq_true h]; show -(z.natAbs : Int) = z; omega
  · rw [decide_eq_false h]; show (z.natAbs : Int) = z; omega
end Go.Proofs.YtfklkphoplpebaaGreatDoor

/- The reference's Minus. -/
namespace Go.Proofs.YtfklkphoplpebaaGreatDoor
open Go Go.RowKit Dig

theorem sgn_not (z : Int) : sgn (!decide (z < 0)) z.natAbs = -z := by
  by_cases h : z < 0
  · rw [decide_eq_true h]; show (z.natAbs : Int) = -z; omega
  · rw [decide_eq_false h]; show -(z.natAbs : Int) = -z; omega
set_option maxRecDepth 100000 in
set_option maxHeartbeats 1000000 in
theorem RMinus_any (w : World) (v : Value) (z : Int) (h : LV w w.heap.size v z) (hl : (dig z.natAbs).length ≤ 1000000) :
    Calls Tryz.prog 42 #[v] w fun e w' => Below w.heap.size w w' ∧ RetV w' (-z) e := by
  obtain ⟨A, c, rfl, hs⟩ := h.parts
  have HB0 := Lib.hid (((Below.refl w.heap.size w).alloc (Nat.le_refl _) (.cells #[.bool (decide (z < 0)), .slice A (dig z.natAbs).length c] 66)).alloc (by simp) (.cells #[.bool false, .slice none 0 0] 66))
  have L1 : LB ((w.alloc (.cells #[.bool (decide (z < 0)), .slice A (dig z.natAbs).length c] 66)).alloc (.cells #[.bool false, .slice none 0 0] 66)) (w.heap.size + 1) (.bool false) (.slice none 0 0) := by (repeat (first | (refine LB.new' ?_; simp; done) | refine LB.alloc ?_ _))
  have HS := Lib.hid (hs.step HB0.out)
  have HL := Lib.hid hl
  clear hs h hl
  go_enter Tryz.func42, Tryz.ntmps42
  go_wp2_with fail
  refine (made_any _ _ _ (dig z.natAbs) HS.out (dig_small _) HL.out).mono ?_
  rintro e w2 ⟨hb, v2, rfl, hv2⟩
  rw [val_dig, sgn_not] at hv2
  obtain ⟨y, hy⟩ : ∃ y : Int, y = -z := ⟨_, rfl⟩
  have HY := Lib.hid hy
  rw [← hy] at hv2
  obtain ⟨A2, c2, rfl, hs2⟩ := hv2.parts
  have HB2 := Lib.hid (HB0.out.trans (hb.mono HB0.out.size))
  have L2 := L1.step hb
  have HS2 := Lib.hid hs2
  clear hs2 hb hv2 HB0 L1 HS hy
  have q0 := L2.cell0
  have q1 := L2.cell1
  have q2 := L2.frozen 0
  have q3 := L2.frozen 1
  go_wp2
  (try simp only [Exit.inBlock, Exit.then])
  rw [← HY.out]
  exact end_one rfl L2 HB2.out (Nat.le_succ _) HS2.out rfl rfl
end Go.Proofs.YtfklkphoplpebaaGreatDoor
