/- Layer 04: Diff, turned, Prod, Quo (written by gen_qe.py). -/
import Derived.Test.YtioclokmbgmamaaGreatDoorQD
namespace Go.Proofs.YtioclokmbgmamaaGreatDoor
open Go Go.RowKit Dig
theorem not_dec {z : Int} {n : Bool} (h : z ≠ 0 → n = decide (z < 0)) (h0 : -z ≠ 0) : (!n) = decide (-z < 0) := by
 rcases wsgn_cases h with h | ⟨rfl, h⟩ | ⟨rfl, h⟩
 ·omega
 ·rw [decide_eq_false (by omega)]; rfl
 ·rw [decide_eq_true (by omega)]; rfl
theorem TV.neg {w : World} {B : Nat} {n : Bool} {A A' : Option Addr} {l c l' c' : Nat} {z : Int} {d : Nat} (h : TV w B (.agg #[.bool n, .slice A l c, .slice A' l' c']) z d) : TV w B (.agg #[.bool (!n), .slice A l c, .slice A' l' c']) (-z) d :=
 TV.mk (by rw [Int.natAbs_neg]; exact h.is.1) h.is.2.1 (not_dec h.is.2.2)
theorem RV.neg {w : World} {B : Nat} {n : Bool} {A A' : Option Addr} {l c l' c' : Nat} {q : Rat} (h : RV w B (.agg #[.bool n, .slice A l c, .slice A' l' c']) q) : RV w B (.agg #[.bool (!n), .slice A l c, .slice A' l' c']) (-q) := by
 unfold RV; rw [Rat.neg_num, Rat.neg_den]; exact TV.neg h
theorem RV.soft {w w' : World} {v : Value} {q : Rat} (h : RV w w.heap.size v q) (hs : Soft w w') : RV w' w'.heap.size v q := TV.soft h hs
theorem TV.fst {w : World} {B : Nat} {n : Bool} {A A' : Option Addr} {l c l' c' : Nat} {z : Int} {d : Nat} (h : TV w B (.agg #[.bool n, .slice A l c, .slice A' l' c']) z d) : WV w B (.agg #[.bool n, .slice A l c]) z := WV.mk h.is.1 h.is.2.2
theorem bne_sgn {x y : Int} {n m : Bool} (h : x ≠ 0 → n = decide (x < 0)) (k : y ≠ 0 → m = decide (y < 0)) (h0 : x * y ≠ 0) : (!(n == m)) = decide (x * y < 0) := by
 have hx : x ≠ 0 := fun e => h0 (by rw [e, Int.zero_mul])
 have hy : y ≠ 0 := fun e => h0 (by rw [e, Int.mul_zero])
 rw [h hx, k hy]
 rcases Int.lt_or_gt_of_ne hx with h1 | h1 <;> rcases Int.lt_or_gt_of_ne hy with h2 | h2
 ·have := Int.mul_pos_of_neg_of_neg h1 h2
  rw [decide_eq_true h1, decide_eq_true h2, decide_eq_false (by omega)]; rfl
 ·have := Int.mul_neg_of_neg_of_pos h1 h2
  rw [decide_eq_true h1, decide_eq_false (by omega), decide_eq_true (by omega)]; rfl
 ·have := Int.mul_neg_of_pos_of_neg h1 h2
  rw [decide_eq_false (by omega), decide_eq_true h2, decide_eq_true (by omega)]; rfl
 ·have := Int.mul_pos h1 h2
  rw [decide_eq_false (by omega), decide_eq_false (by omega), decide_eq_false (by omega)]; rfl
def QL (a b : Nat) (q : Rat) : Prop := (dig q.num.natAbs).length ≤ a ∧ (dig q.den).length ≤ b
theorem QL.mono {a b a' b' : Nat} {q : Rat} (h : QL a b q) (h1 : a ≤ a') (h2 : b ≤ b') : QL a' b' q := ⟨Nat.le_trans h.1 h1, Nat.le_trans h.2 h2⟩
theorem QL.neg {a b : Nat} {q : Rat} (h : QL a b q) : QL a b (-q) := by unfold QL; rw [Rat.neg_num, Rat.neg_den, Int.natAbs_neg]; exact h
theorem QL.mk' {n : Int} {d a b : Nat} (hn : (dig n.natAbs).length ≤ a) (hd : (dig d).length ≤ b) (h0 : d ≠ 0) : QL a b (mkRat n d) := by
 obtain ⟨h1, h2⟩ := rat_reduced (n := n) h0
 refine ⟨?_, ?_⟩
 ·rw [h1, natAbs_ediv_nat (gcd_dvd_int _ _)]; exact Nat.le_trans (dig_len_mono (Nat.div_le_self _ _)) hn
 ·rw [h2]; exact Nat.le_trans (dig_len_mono (Nat.div_le_self _ _)) hd
theorem QL.add {a b a' b' : Nat} {q r : Rat} (h : QL a b q) (k : QL a' b' r) : QL (a + b' + a' + b + 1) (b + b') (q + r) := by
 rw [Rat.add_def']
 refine QL.mk' ?_ (Nat.le_trans (dig_len_mul _ _) (Nat.add_le_add h.2 k.2)) (Nat.mul_ne_zero q.den_nz r.den_nz)
 have h1 : (dig (q.num * r.den).natAbs).length ≤ a + b' + a' + b := by rw [Int.natAbs_mul, Int.natAbs_natCast]; have := dig_len_mul q.num.natAbs r.den; have := h.1; have := k.2; omega
 have h2 : (dig (r.num * q.den).natAbs).length ≤ a + b' + a' + b := by rw [Int.natAbs_mul, Int.natAbs_natCast]; have := dig_len_mul r.num.natAbs q.den; have := k.1; have := h.2; omega
 exact Nat.le_trans (dig_len_mono (Int.natAbs_add_le _ _)) (dig_len_add _ _ h1 h2)
theorem QL.sub {a b a' b' : Nat} {q r : Rat} (h : QL a b q) (k : QL a' b' r) : QL (a + b' + a' + b + 1) (b + b') (q - r) := by
 rw [Rat.sub_eq_add_neg]; exact h.add k.neg
theorem QL.mul {a b a' b' : Nat} {q r : Rat} (h : QL a b q) (k : QL a' b' r) : QL (a + a') (b + b') (q * r) := by
 rw [Rat.mul_def']
 refine QL.mk' ?_ (Nat.le_trans (dig_len_mul _ _) (Nat.add_le_add h.2 k.2)) (Nat.mul_ne_zero q.den_nz r.den_nz)
 rw [Int.natAbs_mul]; exact Nat.le_trans (dig_len_mul _ _) (Nat.add_le_add h.1 k.1)
set_option maxRecDepth 100000 in
set_option maxHeartbeats 4000000 in
theorem Diff_any (w : World) (va vb : Value) (q r : Rat) (ha : RV w w.heap.size va q) (hb : RV w w.heap.size vb r) (l1 : QL 20000 20000 q) (l2 : QL 20000 20000 r) :
  Calls Tryz.prog 93 #[va, vb] w fun e w' => Below w.heap.size w w' ∧ ∃ v, e = .returned v ∧ RV w' w'.heap.size v (q - r) := by
 have HS := Lib.hid (Rat.sub_eq_add_neg q r)
 obtain ⟨n, A, l, c, A', l', c', rfl, Ha, Hd, hn⟩ := ha; obtain ⟨m, B, k, e, B', k', e', rfl, Hb, He, hm⟩ := hb
 have HL := Lib.hid (And.intro l1.1 (And.intro l1.2 (And.intro l2.neg.1 l2.neg.2))); clear l1 l2
 have HA := Lib.hid (show RV w w.heap.size _ q from TV.mk Ha Hd hn); have HB := Lib.hid (RV.neg (show RV w w.heap.size _ r from TV.mk Hb He hm)); clear Ha Hd hn Hb He hm
 obtain ⟨w0, hw0⟩ : ∃ w0 : World, w0 = (((w.alloc (.cells #[.bool n, .slice A l c, .slice A' l' c'] 95)).alloc (.cells #[.bool m, .slice B k e, .slice B' k' e'] 95)).alloc (.cells #[.bool false, .slice none 0 0, .slice none 0 0] 95)) := ⟨_, rfl⟩
 have B0 := Lib.hid (show Below w.heap.size w w0 by rw [hw0]; (repeat' (first | exact Below.refl _ _ | refine Below.drew ?_ | refine Below.alloc ?_ (by first | exact Nat.le_refl _ | (simp; done) | (simp; omega)) _)))
 have z0 : w.heap.size + 3 ≤ w0.heap.size := by rw [hw0]; simp
 have Lr : CB w0 (w.heap.size) 95 #[.bool n, .slice A l c, .slice A' l' c'] := by rw [hw0]; have h := ((CB.new w 95 #[.bool n, .slice A l c, .slice A' l' c']).alloc (.cells #[.bool m, .slice B k e, .slice B' k' e'] 95)).alloc (.cells #[.bool false, .slice none 0 0, .slice none 0 0] 95); simpa using h
 have Ls : CB w0 (w.heap.size + 1) 95 #[.bool m, .slice B k e, .slice B' k' e'] := by rw [hw0]; have h := (CB.new (w.alloc (.cells #[.bool n, .slice A l c, .slice A' l' c'] 95)) 95 #[.bool m, .slice B k e, .slice B' k' e']).alloc (.cells #[.bool false, .slice none 0 0, .slice none 0 0] 95); simpa using h
 have Lr4 : CB w0 (w.heap.size + 2) 95 #[.bool false, .slice none 0 0, .slice none 0 0] := by rw [hw0]; have h := CB.new ((w.alloc (.cells #[.bool n, .slice A l c, .slice A' l' c'] 95)).alloc (.cells #[.bool m, .slice B k e, .slice B' k' e'] 95)) 95 #[.bool false, .slice none 0 0, .slice none 0 0]; simpa using h
 replace HA := Lib.hid (RV.step HA.out B0.out); replace HB := Lib.hid (RV.step HB.out B0.out)
 go_enter Tryz.func93, Tryz.ntmps93
 go_upto_region 1 with (fail)
 rw [← hw0]; clear hw0
 have q1_0 := Ls.cell 0 rfl
 have q1_1 := Ls.cell 1 rfl
 have q1_2 := Ls.cell 2 rfl
 have q1_lt := Ls.lt
 have q2_0 := Ls.frozen 0
 have q2_1 := Ls.frozen 1
 have q2_2 := Ls.frozen 2
 have q2_lt := Ls.lt
 go_upto_region 2 with (fail)
 clear q1_0 q1_1 q1_2 q1_lt q2_0 q2_1 q2_2 q2_lt
 obtain ⟨w3, hW3⟩ : ∃ w3 : World, w3 = (w0.setCell ⟨w.heap.size + 1, 0, none⟩ (.bool (!m))) := ⟨_, rfl⟩
 rw [← hW3]
 have S3 := Lib.hid (show Soft w0 w3 by rw [hW3]; exact CB.soft1 (Ls) (by simp [noInt_b, noInt_s]) 0 (.bool (!m)))
 have Lr_3 : CB w3 (w.heap.size) 95 #[.bool n, .slice A l c, .slice A' l' c'] := by rw [hW3]; exact CB.far (p := ⟨w.heap.size + 1, 0, none⟩) (Lr) (show w.heap.size ≠ w.heap.size + 1 from by omega) _
 have Lr4_3 : CB w3 (w.heap.size + 2) 95 #[.bool false, .slice none 0 0, .slice none 0 0] := by rw [hW3]; exact CB.far (p := ⟨w.heap.size + 1, 0, none⟩) (Lr4) (show w.heap.size + 2 ≠ w.heap.size + 1 from by omega) _
 have Ls_3 : CB w3 (w.heap.size + 1) 95 #[.bool (!m), .slice B k e, .slice B' k' e'] := by rw [hW3]; exact (show CB _ (w.heap.size + 1) 95 #[.bool (!m), .slice B k e, .slice B' k' e'] from CB.set (Ls) 0 (.bool (!m)))
 have HBP3 := Lib.hid (show Below w.heap.size w w3 by rw [hW3]; exact below_set1 (B0.out) (by omega) _ _)
 have zw3 : w3.heap.size = w0.heap.size := by rw [hW3]; simp [World.setCell]
 clear hW3
 have q5_0 := Lr_3.cell 0 rfl
 have q5_1 := Lr_3.cell 1 rfl
 have q5_2 := Lr_3.cell 2 rfl
 have q5_lt := Lr_3.lt
 have q6_0 := Ls_3.cell 0 rfl
 have q6_1 := Ls_3.cell 1 rfl
 have q6_2 := Ls_3.cell 2 rfl
 have q6_lt := Ls_3.lt
 go_wp2_with fail
 have Ha_7 := Lib.hid (RV.soft HA.out (S3.out))
 have Hb_8 := Lib.hid (RV.soft HB.out (S3.out))
 refine (Sum_any _ _ _ q (-r) Ha_7.out Hb_8.out HL.out.1 HL.out.2.1 HL.out.2.2.1 HL.out.2.2.2).mono ?_
 rintro e w4 ⟨hb4, v, rfl, hv⟩
 have B9 := Lib.hid hb4
 have z9 := B9.out.size
 have HB10 := Lib.hid (HBP3.out.trans (B9.out.mono HBP3.out.size))
 clear hb4
 clear q5_0 q5_1 q5_2 q5_lt q6_0 q6_1 q6_2 q6_lt
 rw [← HS.out] at hv
 obtain ⟨on11, oA11, ol11, oc11, oB11, om_11, od11, rfl, ha11, hb11, hc11⟩ := hv
 have Hr_11 := Lib.hid (TV.mk ha11 hb11 hc11)
 clear ha11 hb11 hc11
 have Lr4_12 := CB.step Lr4_3 B9.out
 have q13_0 := Lr4_12.cell 0 rfl
 have q13_1 := Lr4_12.cell 1 rfl
 have q13_2 := Lr4_12.cell 2 rfl
 have q13_lt := Lr4_12.lt
 have q14_0 := Lr4_12.frozen 0
 have q14_1 := Lr4_12.frozen 1
 have q14_2 := Lr4_12.frozen 2
 have q14_lt := Lr4_12.lt
 go_wp2
 exact TB.fin rfl Lr4_12 (by simp [noInt_b, noInt_s]) HB10.out (by omega) Hr_11.out rfl
set_option maxRecDepth 100000 in
set_option maxHeartbeats 4000000 in
theorem turned_any (w : World) (v : Value) (q : Rat) (h : RV w w.heap.size v q) (h0 : q ≠ 0) :
  Calls Tryz.prog 139 #[v] w fun e w' => Below w.heap.size w w' ∧ ∃ v, e = .returned v ∧ RV w' w'.heap.size v q⁻¹ := by
 obtain ⟨n, A, l, c, A', l', c', rfl, Ha, Hd, hn⟩ := h
 have hz : q.num ≠ 0 := fun e => h0 (Rat.num_eq_zero.1 e)
 have HT := Lib.hid (show RV w w.heap.size (.agg #[.bool n, .slice A' l' c', .slice A l c]) q⁻¹ by
  unfold RV; rw [Rat.num_inv, Rat.den_inv, if_neg hz]
  refine TV.mk ?_ Ha (fun _ => ?_)
  ·rw [Int.natAbs_mul, Int.natAbs_sign_of_ne_zero hz, Nat.one_mul, Int.natAbs_natCast]; exact Hd
  ·have hd := Nat.pos_of_ne_zero q.den_nz
   rw [hn hz]; rcases Int.lt_or_gt_of_ne hz with h1 | h1
   ·rw [Int.sign_eq_neg_one_of_neg h1, decide_eq_true h1, decide_eq_true (by omega)]
   ·rw [Int.sign_eq_one_of_pos h1, decide_eq_false (by omega), decide_eq_false (by omega)]); clear Ha Hd hn hz h0
 obtain ⟨w0, hw0⟩ : ∃ w0 : World, w0 = ((w.alloc (.cells #[.bool n, .slice A l c, .slice A' l' c'] 95)).alloc (.cells #[.bool false, .slice none 0 0, .slice none 0 0] 95)) := ⟨_, rfl⟩
 have B0 := Lib.hid (show Below w.heap.size w w0 by rw [hw0]; (repeat' (first | exact Below.refl _ _ | refine Below.drew ?_ | refine Below.alloc ?_ (by first | exact Nat.le_refl _ | (simp; done) | (simp; omega)) _)))
 have z0 : w.heap.size + 2 ≤ w0.heap.size := by rw [hw0]; simp
 have Lr : CB w0 (w.heap.size) 95 #[.bool n, .slice A l c, .slice A' l' c'] := by rw [hw0]; have h := (CB.new w 95 #[.bool n, .slice A l c, .slice A' l' c']).alloc (.cells #[.bool false, .slice none 0 0, .slice none 0 0] 95); simpa using h
 have Lr2 : CB w0 (w.heap.size + 1) 95 #[.bool false, .slice none 0 0, .slice none 0 0] := by rw [hw0]; have h := CB.new (w.alloc (.cells #[.bool n, .slice A l c, .slice A' l' c'] 95)) 95 #[.bool false, .slice none 0 0, .slice none 0 0]; simpa using h
 replace HT := Lib.hid (RV.step HT.out B0.out)
 go_enter Tryz.func139, Tryz.ntmps139
 go_upto_region 1 with (fail)
 rw [← hw0]; clear hw0
 have q1_0 := Lr.cell 0 rfl
 have q1_1 := Lr.cell 1 rfl
 have q1_2 := Lr.cell 2 rfl
 have q1_lt := Lr.lt
 have q2_0 := Lr2.cell 0 rfl
 have q2_1 := Lr2.cell 1 rfl
 have q2_2 := Lr2.cell 2 rfl
 have q2_lt := Lr2.lt
 have q3_0 := Lr2.frozen 0
 have q3_1 := Lr2.frozen 1
 have q3_2 := Lr2.frozen 2
 have q3_lt := Lr2.lt
 go_wp2
 exact TB.fin rfl Lr2 (by simp [noInt_b, noInt_s]) B0.out (by omega) HT.out rfl
set_option maxRecDepth 100000 in
set_option maxHeartbeats 4000000 in
theorem Prod_any (w : World) (va vb : Value) (q r : Rat) (ha : RV w w.heap.size va q) (hb : RV w w.heap.size vb r) (l1 : QL 20000 20000 q) (l2 : QL 20000 20000 r) :
  Calls Tryz.prog 94 #[va, vb] w fun e w' => Below w.heap.size w w' ∧ ∃ v, e = .returned v ∧ RV w' w'.heap.size v (q * r) := by
 obtain ⟨n, A, l, c, A', l', c', rfl, Ha, Hd, hn⟩ := ha; obtain ⟨m, B, k, e, B', k', e', rfl, Hb, He, hm⟩ := hb
 obtain ⟨g1, h1⟩ : ∃ g, g = Nat.gcd q.num.natAbs r.den := ⟨_, rfl⟩; obtain ⟨g2, h2⟩ : ∃ g, g = Nat.gcd r.num.natAbs q.den := ⟨_, rfl⟩
 have hP := rat_prod q r h1 h2
 obtain ⟨x, hx⟩ : ∃ x, x = q.num / (g1 : Int) := ⟨_, rfl⟩; obtain ⟨y, hy⟩ : ∃ y, y = r.num / (g2 : Int) := ⟨_, rfl⟩; obtain ⟨s, hs⟩ : ∃ s, s = r.den / g1 := ⟨_, rfl⟩; obtain ⟨t, ht⟩ : ∃ t, t = q.den / g2 := ⟨_, rfl⟩
 rw [← hx, ← hy, ← hs, ← ht] at hP
 have q1 : (dig x.natAbs).length ≤ 20000 := by rw [hx, h1, natAbs_ediv_nat (gcd_dvd_int _ _)]; exact Nat.le_trans (dig_len_mono (Nat.div_le_self _ _)) l1.1
 have q2 : (dig y.natAbs).length ≤ 20000 := by rw [hy, h2, natAbs_ediv_nat (gcd_dvd_int _ _)]; exact Nat.le_trans (dig_len_mono (Nat.div_le_self _ _)) l2.1
 have q3 : (dig s).length ≤ 20000 := by rw [hs]; exact Nat.le_trans (dig_len_mono (Nat.div_le_self _ _)) l2.2
 have q4 : (dig t).length ≤ 20000 := by rw [ht]; exact Nat.le_trans (dig_len_mono (Nat.div_le_self _ _)) l1.2
 have hz1 : x ≠ 0 → q.num ≠ 0 := fun h e => h (by rw [hx, e]; simp)
 have hz2 : y ≠ 0 → r.num ≠ 0 := fun h e => h (by rw [hy, e]; simp)
 have hS : x * y ≠ 0 → (!(n == m)) = decide (x * y < 0) := bne_sgn (fun h => by rw [hx] at h ⊢; exact (wred hn (h1 ▸ gcd_dvd_int _ _) (by rw [h1]; exact fun e => r.den_nz (Nat.gcd_eq_zero_iff.1 e).2)).2 h) (fun h => by rw [hy] at h ⊢; exact (wred hm (h2 ▸ gcd_dvd_int _ _) (by rw [h2]; exact fun e => q.den_nz (Nat.gcd_eq_zero_iff.1 e).2)).2 h)
 have HL := Lib.hid (And.intro l1.1 (And.intro l1.2 (And.intro l2.1 (And.intro l2.2 (And.intro q1 (And.intro q2 (And.intro q3 q4)))))))
 have HX := Lib.hid hx; have HY := Lib.hid hy; have HS := Lib.hid hs; have HT := Lib.hid ht; have H1 := Lib.hid h1; have H2 := Lib.hid h2; have HP := Lib.hid hP; have HSG := Lib.hid hS
 clear hz1 hz2 hS hP q1 q2 q3 q4 l1 l2 hx hy hs ht h1 h2
 have HA := Lib.hid (TV.mk Ha He hn); have HB := Lib.hid (TV.mk Hb Hd hm); clear Ha Hd hn Hb He hm
 obtain ⟨w0, hw0⟩ : ∃ w0 : World, w0 = (((w.alloc (.cells #[.bool n, .slice A l c, .slice A' l' c'] 95)).alloc (.cells #[.bool m, .slice B k e, .slice B' k' e'] 95)).alloc (.cells #[.bool false, .slice none 0 0, .slice none 0 0] 95)) := ⟨_, rfl⟩
 have B0 := Lib.hid (show Below w.heap.size w w0 by rw [hw0]; (repeat' (first | exact Below.refl _ _ | refine Below.drew ?_ | refine Below.alloc ?_ (by first | exact Nat.le_refl _ | (simp; done) | (simp; omega)) _)))
 have z0 : w.heap.size + 3 ≤ w0.heap.size := by rw [hw0]; simp
 have Lr : CB w0 (w.heap.size) 95 #[.bool n, .slice A l c, .slice A' l' c'] := by rw [hw0]; have h := ((CB.new w 95 #[.bool n, .slice A l c, .slice A' l' c']).alloc (.cells #[.bool m, .slice B k e, .slice B' k' e'] 95)).alloc (.cells #[.bool false, .slice none 0 0, .slice none 0 0] 95); simpa using h
 have Ls : CB w0 (w.heap.size + 1) 95 #[.bool m, .slice B k e, .slice B' k' e'] := by rw [hw0]; have h := (CB.new (w.alloc (.cells #[.bool n, .slice A l c, .slice A' l' c'] 95)) 95 #[.bool m, .slice B k e, .slice B' k' e']).alloc (.cells #[.bool false, .slice none 0 0, .slice none 0 0] 95); simpa using h
 have Lr4 : CB w0 (w.heap.size + 2) 95 #[.bool false, .slice none 0 0, .slice none 0 0] := by rw [hw0]; have h := CB.new ((w.alloc (.cells #[.bool n, .slice A l c, .slice A' l' c'] 95)).alloc (.cells #[.bool m, .slice B k e, .slice B' k' e'] 95)) 95 #[.bool false, .slice none 0 0, .slice none 0 0]; simpa using h
 replace HA := Lib.hid (TV.step HA.out B0.out); replace HB := Lib.hid (TV.step HB.out B0.out)
 go_enter Tryz.func94, Tryz.ntmps94
 go_upto_region 1 with (fail)
 rw [← hw0]; clear hw0
 have q2_0 := Lr.cell 0 rfl
 have q2_1 := Lr.cell 1 rfl
 have q2_2 := Lr.cell 2 rfl
 have q2_lt := Lr.lt
 have q3_0 := Ls.cell 0 rfl
 have q3_1 := Ls.cell 1 rfl
 have q3_2 := Ls.cell 2 rfl
 have q3_lt := Ls.lt
 go_wp2_with fail
 refine (reduced_any _ _ q.num r.den HA.out r.den_nz (by have := HL.out; omega) (by have := HL.out; omega)).mono ?_
 rintro e w1 ⟨hb1, v, rfl, hv⟩
 have B4 := Lib.hid hb1
 have z4 := B4.out.size
 have HB5 := Lib.hid (B0.out.trans (B4.out.mono B0.out.size))
 clear hb1
 clear q2_0 q2_1 q2_2 q2_lt q3_0 q3_1 q3_2 q3_lt
 rw [← H1.out, ← HX.out, ← HS.out] at hv
 obtain ⟨on6, oA6, ol6, oc6, oB6, om_6, od6, rfl, ha6, hb6, hc6⟩ := hv
 have Hx_6 := Lib.hid (TV.mk ha6 hb6 hc6)
 clear ha6 hb6 hc6
 go_upto_region 2 with (fail)
 obtain ⟨w7, hW7⟩ : ∃ w7 : World, w7 = (w1.alloc (.cells #[.bool on6, .slice oA6 ol6 oc6, .slice oB6 om_6 od6] 95)) := ⟨_, rfl⟩; rw [← hW7]
 have hb7 : Below w1.heap.size w1 w7 := by rw [hW7]; (repeat' (first | exact Below.refl _ _ | refine Below.drew ?_ | refine Below.alloc ?_ (by first | exact Nat.le_refl _ | (simp; done) | (simp; omega)) _))
 have Lx_7 : CB w7 (w1.heap.size) 95 #[.bool on6, .slice oA6 ol6 oc6, .slice oB6 om_6 od6] := by rw [hW7]; have h := CB.new w1 95 #[.bool on6, .slice oA6 ol6 oc6, .slice oB6 om_6 od6]; simpa using h
 have za7 : w1.heap.size + 1 ≤ w7.heap.size := by rw [hW7]; simp
 have B8 := Lib.hid hb7
 have z8 := B8.out.size
 have HB9 := Lib.hid (HB5.out.trans (B8.out.mono HB5.out.size))
 clear hb7 hW7
 have P1_3_12 := Lib.hid (B4.out.trans (B8.out.mono B4.out.size))
 have Lr_11 := CB.step Lr P1_3_12.out
 have q13_0 := Lr_11.cell 0 rfl
 have q13_1 := Lr_11.cell 1 rfl
 have q13_2 := Lr_11.cell 2 rfl
 have q13_lt := Lr_11.lt
 have Ls_14 := CB.step Ls P1_3_12.out
 have q15_0 := Ls_14.cell 0 rfl
 have q15_1 := Ls_14.cell 1 rfl
 have q15_2 := Ls_14.cell 2 rfl
 have q15_lt := Ls_14.lt
 go_wp2_with fail
 have Hb_16 := Lib.hid (TV.step HB.out P1_3_12.out)
 refine (reduced_any _ _ r.num q.den Hb_16.out q.den_nz (by have := HL.out; omega) (by have := HL.out; omega)).mono ?_
 rintro e w10 ⟨hb10, v, rfl, hv⟩
 have B17 := Lib.hid hb10
 have z17 := B17.out.size
 have HB18 := Lib.hid (HB9.out.trans (B17.out.mono HB9.out.size))
 clear hb10
 clear q13_0 q13_1 q13_2 q13_lt q15_0 q15_1 q15_2 q15_lt
 rw [← H2.out, ← HY.out, ← HT.out] at hv
 obtain ⟨on19, oA19, ol19, oc19, oB19, om_19, od19, rfl, ha19, hb19, hc19⟩ := hv
 have Hy_19 := Lib.hid (TV.mk ha19 hb19 hc19)
 clear ha19 hb19 hc19
 go_upto_region 3 with (fail)
 obtain ⟨w20, hW20⟩ : ∃ w20 : World, w20 = (w10.alloc (.cells #[.bool on19, .slice oA19 ol19 oc19, .slice oB19 om_19 od19] 95)) := ⟨_, rfl⟩; rw [← hW20]
 have hb20 : Below w10.heap.size w10 w20 := by rw [hW20]; (repeat' (first | exact Below.refl _ _ | refine Below.drew ?_ | refine Below.alloc ?_ (by first | exact Nat.le_refl _ | (simp; done) | (simp; omega)) _))
 have Ly_20 : CB w20 (w10.heap.size) 95 #[.bool on19, .slice oA19 ol19 oc19, .slice oB19 om_19 od19] := by rw [hW20]; have h := CB.new w10 95 #[.bool on19, .slice oA19 ol19 oc19, .slice oB19 om_19 od19]; simpa using h
 have za20 : w10.heap.size + 1 ≤ w20.heap.size := by rw [hW20]; simp
 have B21 := Lib.hid hb20
 have z21 := B21.out.size
 have HB22 := Lib.hid (HB18.out.trans (B21.out.mono HB18.out.size))
 clear hb20 hW20
 have P2_4_23 := Lib.hid (B8.out.trans (B17.out.mono B8.out.size))
 have P2_5_24 := Lib.hid (P2_4_23.out.trans (B21.out.mono P2_4_23.out.size))
 have Hx_25 := Lib.hid (TV.step Hx_6.out P2_5_24.out)
 have Hy_26 := Lib.hid (TV.step Hy_19.out B21.out)
 have HX1 := Lib.hid (TV.is Hx_25.out).1; have HX2 := Lib.hid (TV.is Hx_25.out).2.1; have HY1 := Lib.hid (TV.is Hy_26.out).1; have HY2 := Lib.hid (TV.is Hy_26.out).2.1
 refine Flow.run [⟨0, 19, fun fv fw => fv = .pointer (some ⟨w.heap.size, 0, none⟩)⟩, ⟨1, 20, fun fv fw => fv = .pointer (some ⟨w.heap.size, 0, none⟩)⟩, ⟨2, 21, fun fv fw => fv = .bool n⟩, ⟨3, 22, fun fv fw => fv = .pointer (some ⟨w.heap.size + 1, 0, none⟩)⟩, ⟨4, 23, fun fv fw => fv = .pointer (some ⟨w.heap.size + 1, 0, none⟩)⟩, ⟨5, 24, fun fv fw => fv = .bool m⟩, ⟨6, 25, fun fv fw => fv = .bool (!(n == m))⟩, ⟨7, 26, fun fv fw => fv = .pointer (some ⟨w1.heap.size, 0, none⟩)⟩, ⟨8, 27, fun fv fw => fv = .pointer (some ⟨w1.heap.size, 1, none⟩)⟩, ⟨9, 28, fun fv fw => fv = .slice oA6 ol6 oc6⟩, ⟨10, 29, fun fv fw => fv = .pointer (some ⟨w10.heap.size, 0, none⟩)⟩, ⟨11, 30, fun fv fw => fv = .pointer (some ⟨w10.heap.size, 1, none⟩)⟩, ⟨12, 31, fun fv fw => fv = .slice oA19 ol19 oc19⟩, ⟨13, 32, fun fv fw => RN fw fw.heap.size fv (dig (x.natAbs * y.natAbs))⟩, ⟨14, 33, fun fv fw => WV fw fw.heap.size fv (x * y)⟩, ⟨15, 34, fun fv fw => fv = .pointer (some ⟨w1.heap.size, 2, none⟩)⟩, ⟨16, 35, fun fv fw => fv = .slice oB6 om_6 od6⟩, ⟨17, 36, fun fv fw => fv = .pointer (some ⟨w10.heap.size, 2, none⟩)⟩, ⟨18, 37, fun fv fw => fv = .slice oB19 om_19 od19⟩, ⟨19, 38, fun fv fw => RN fw fw.heap.size fv (dig (s * t))⟩, ⟨20, 39, fun fv fw => TV fw fw.heap.size fv (x * y) (s * t)⟩] [] [] 1 (by kernel_rfl) (by kernel_rfl) (by kernel_rfl) (fun _ _ _ _ _ h => h) ?_ ?_ ?_ ?_
 ·refine (all_cons (fun v w1 w2 h hb => h) (all_cons (fun v w1 w2 h hb => h) (all_cons (fun v w1 w2 h hb => h) (all_cons (fun v w1 w2 h hb => h) (all_cons (fun v w1 w2 h hb => h) (all_cons (fun v w1 w2 h hb => h) (all_cons (fun v w1 w2 h hb => h) (all_cons (fun v w1 w2 h hb => h) (all_cons (fun v w1 w2 h hb => h) (all_cons (fun v w1 w2 h hb => h) (all_cons (fun v w1 w2 h hb => h) (all_cons (fun v w1 w2 h hb => h) (all_cons (fun v w1 w2 h hb => h) (all_cons (fun v w1 w2 h hb => h.step hb) (all_cons (fun v w1 w2 h hb => h.step hb) (all_cons (fun v w1 w2 h hb => h) (all_cons (fun v w1 w2 h hb => h) (all_cons (fun v w1 w2 h hb => h) (all_cons (fun v w1 w2 h hb => h) (all_cons (fun v w1 w2 h hb => h.step hb) (all_cons (fun v w1 w2 h hb => h.step hb) all_nil)))))))))))))))))))))
 ·refine (all_cons ?_ (all_cons ?_ (all_cons ?_ (all_cons ?_ (all_cons ?_ (all_cons ?_ (all_cons ?_ (all_cons ?_ (all_cons ?_ (all_cons ?_ (all_cons ?_ (all_cons ?_ (all_cons ?_ (all_cons ?_ (all_cons ?_ (all_cons ?_ (all_cons ?_ (all_cons ?_ (all_cons ?_ (all_cons ?_ (all_cons ?_ all_nil)))))))))))))))))))))
  ·intro xs wk27 hBk hdep
   have HBk27 := Lib.hid hBk; have zk27 := hBk.size; clear hBk
   clear hdep
   refine wpOp_step (o := _) rfl (fun K hK => ?_)
   simp only [FL]
   go_simp
   refine hK _ _ ⟨.pointer (some ⟨w.heap.size, 0, none⟩), by kernel_rfl, Below.refl _ _, rfl, nF⟩
  ·intro xs wk28 hBk hdep
   have HBk28 := Lib.hid hBk; have zk28 := hBk.size; clear hBk
   have f0 : (xs 0) = .pointer (some ⟨w.heap.size, 0, none⟩) := hdep _ (m_ 0 rfl) (by kernel_rfl)
   clear hdep
   refine wpOp_step (o := _) rfl (fun K hK => ?_)
   simp only [FL]
   go_simp
   refine hK _ _ ⟨.pointer (some ⟨w.heap.size, 0, none⟩), by simp only [FL, f0] <;> kernel_rfl, Below.refl _ _, rfl, nF⟩
  ·intro xs wk29 hBk hdep
   have HBk29 := Lib.hid hBk; have zk29 := hBk.size; clear hBk
   have f1 : (xs 1) = .pointer (some ⟨w.heap.size, 0, none⟩) := hdep _ (m_ 1 rfl) (by kernel_rfl)
   clear hdep
   refine wpOp_step (o := _) rfl (fun K hK => ?_)
   simp only [FL]
   have P3_5_31 := Lib.hid (B17.out.trans (B21.out.mono B17.out.size))
   have P3_6_32 := Lib.hid (P3_5_31.out.trans (HBk29.out.mono P3_5_31.out.size))
   have Lr_30 := CB.step Lr_11 P3_6_32.out
   have q33_0 := Lr_30.cell 0 rfl
   go_simp
   refine hK _ _ ⟨.bool n, by simp only [FL, f1] <;> kernel_rfl, Below.refl _ _, rfl, nF⟩
  ·intro xs wk34 hBk hdep
   have HBk34 := Lib.hid hBk; have zk34 := hBk.size; clear hBk
   clear hdep
   refine wpOp_step (o := _) rfl (fun K hK => ?_)
   simp only [FL]
   go_simp
   refine hK _ _ ⟨.pointer (some ⟨w.heap.size + 1, 0, none⟩), by kernel_rfl, Below.refl _ _, rfl, nF⟩
  ·intro xs wk35 hBk hdep
   have HBk35 := Lib.hid hBk; have zk35 := hBk.size; clear hBk
   have f3 : (xs 3) = .pointer (some ⟨w.heap.size + 1, 0, none⟩) := hdep _ (m_ 3 rfl) (by kernel_rfl)
   clear hdep
   refine wpOp_step (o := _) rfl (fun K hK => ?_)
   simp only [FL]
   go_simp
   refine hK _ _ ⟨.pointer (some ⟨w.heap.size + 1, 0, none⟩), by simp only [FL, f3] <;> kernel_rfl, Below.refl _ _, rfl, nF⟩
  ·intro xs wk36 hBk hdep
   have HBk36 := Lib.hid hBk; have zk36 := hBk.size; clear hBk
   have f4 : (xs 4) = .pointer (some ⟨w.heap.size + 1, 0, none⟩) := hdep _ (m_ 4 rfl) (by kernel_rfl)
   clear hdep
   refine wpOp_step (o := _) rfl (fun K hK => ?_)
   simp only [FL]
   have P3_5_38 := Lib.hid (B17.out.trans (B21.out.mono B17.out.size))
   have P3_6_39 := Lib.hid (P3_5_38.out.trans (HBk36.out.mono P3_5_38.out.size))
   have Ls_37 := CB.step Ls_14 P3_6_39.out
   have q40_0 := Ls_37.cell 0 rfl
   go_simp
   refine hK _ _ ⟨.bool m, by simp only [FL, f4] <;> kernel_rfl, Below.refl _ _, rfl, nF⟩
  ·intro xs wk41 hBk hdep
   have HBk41 := Lib.hid hBk; have zk41 := hBk.size; clear hBk
   have f2 : (xs 2) = .bool n := hdep _ (m_ 2 rfl) (by kernel_rfl)
   have f5 : (xs 5) = .bool m := hdep _ (m_ 5 rfl) (by kernel_rfl)
   clear hdep
   refine wpOp_step (o := _) rfl (fun K hK => ?_)
   simp only [FL]
   go_simp
   refine hK _ _ ⟨.bool (!(n == m)), by simp only [FL, f2, f5] <;> kernel_rfl, Below.refl _ _, rfl, nF⟩
  ·intro xs wk42 hBk hdep
   have HBk42 := Lib.hid hBk; have zk42 := hBk.size; clear hBk
   clear hdep
   refine wpOp_step (o := _) rfl (fun K hK => ?_)
   simp only [FL]
   go_simp
   refine hK _ _ ⟨.pointer (some ⟨w1.heap.size, 0, none⟩), by kernel_rfl, Below.refl _ _, rfl, nF⟩
  ·intro xs wk43 hBk hdep
   have HBk43 := Lib.hid hBk; have zk43 := hBk.size; clear hBk
   have f7 : (xs 7) = .pointer (some ⟨w1.heap.size, 0, none⟩) := hdep _ (m_ 7 rfl) (by kernel_rfl)
   clear hdep
   refine wpOp_step (o := _) rfl (fun K hK => ?_)
   simp only [FL]
   go_simp
   refine hK _ _ ⟨.pointer (some ⟨w1.heap.size, 1, none⟩), by simp only [FL, f7] <;> kernel_rfl, Below.refl _ _, rfl, nF⟩
  ·intro xs wk44 hBk hdep
   have HBk44 := Lib.hid hBk; have zk44 := hBk.size; clear hBk
   have f8 : (xs 8) = .pointer (some ⟨w1.heap.size, 1, none⟩) := hdep _ (m_ 8 rfl) (by kernel_rfl)
   clear hdep
   refine wpOp_step (o := _) rfl (fun K hK => ?_)
   simp only [FL]
   have P3_5_46 := Lib.hid (B17.out.trans (B21.out.mono B17.out.size))
   have P3_6_47 := Lib.hid (P3_5_46.out.trans (HBk44.out.mono P3_5_46.out.size))
   have Lx_45 := CB.step Lx_7 P3_6_47.out
   have q48_1 := Lx_45.cell 1 rfl
   go_simp
   refine hK _ _ ⟨.slice oA6 ol6 oc6, by simp only [FL, f8] <;> kernel_rfl, Below.refl _ _, rfl, nF⟩
  ·intro xs wk49 hBk hdep
   have HBk49 := Lib.hid hBk; have zk49 := hBk.size; clear hBk
   clear hdep
   refine wpOp_step (o := _) rfl (fun K hK => ?_)
   simp only [FL]
   go_simp
   refine hK _ _ ⟨.pointer (some ⟨w10.heap.size, 0, none⟩), by kernel_rfl, Below.refl _ _, rfl, nF⟩
  ·intro xs wk50 hBk hdep
   have HBk50 := Lib.hid hBk; have zk50 := hBk.size; clear hBk
   have f10 : (xs 10) = .pointer (some ⟨w10.heap.size, 0, none⟩) := hdep _ (m_ 10 rfl) (by kernel_rfl)
   clear hdep
   refine wpOp_step (o := _) rfl (fun K hK => ?_)
   simp only [FL]
   go_simp
   refine hK _ _ ⟨.pointer (some ⟨w10.heap.size, 1, none⟩), by simp only [FL, f10] <;> kernel_rfl, Below.refl _ _, rfl, nF⟩
  ·intro xs wk51 hBk hdep
   have HBk51 := Lib.hid hBk; have zk51 := hBk.size; clear hBk
   have f11 : (xs 11) = .pointer (some ⟨w10.heap.size, 1, none⟩) := hdep _ (m_ 11 rfl) (by kernel_rfl)
   clear hdep
   refine wpOp_step (o := _) rfl (fun K hK => ?_)
   simp only [FL]
   have Ly_52 := CB.step Ly_20 HBk51.out
   have q53_1 := Ly_52.cell 1 rfl
   go_simp
   refine hK _ _ ⟨.slice oA19 ol19 oc19, by simp only [FL, f11] <;> kernel_rfl, Below.refl _ _, rfl, nF⟩
  ·intro xs wk54 hBk hdep
   have HBk54 := Lib.hid hBk; have zk54 := hBk.size; clear hBk
   have f9 : (xs 9) = .slice oA6 ol6 oc6 := hdep _ (m_ 9 rfl) (by kernel_rfl)
   have f12 : (xs 12) = .slice oA19 ol19 oc19 := hdep _ (m_ 12 rfl) (by kernel_rfl)
   clear hdep
   refine wpOp_step (o := _) rfl (fun K hK => ?_)
   simp only [FL]
   go_simp
   have Hx1_55 := Lib.hid (RN.step HX1.out HBk54.out)
   have Hy1_56 := Lib.hid (RN.step HY1.out HBk54.out)
   (with_reducible refine (Times_any _ _ _ x.natAbs y.natAbs Hx1_55.out Hy1_56.out (by have := HL.out; omega) (by have := HL.out; omega)).mono ?_)
   rintro e wc57 ⟨hb57, v57, rfl, hv57⟩
   refine hK _ _ ⟨v57, by simp only [FL, f9, f12] <;> kernel_rfl, hb57, hv57, nF⟩
  ·intro xs wk58 hBk hdep
   have HBk58 := Lib.hid hBk; have zk58 := hBk.size; clear hBk
   have f13 : RN wk58 wk58.heap.size (xs 13) (dig (x.natAbs * y.natAbs)) := hdep _ (m_ 13 rfl) (by kernel_rfl)
   have f6 : (xs 6) = .bool (!(n == m)) := hdep _ (m_ 6 rfl) (by kernel_rfl)
   clear hdep
   refine wpOp_step (o := _) rfl (fun K hK => ?_)
   simp only [FL]
   obtain ⟨A13, c13, hx13, -⟩ := RN.cell f13; have r13 := f13; rw [hx13] at r13 ⊢
   go_simp
   refine hK _ _ ⟨.agg #[.bool (!(n == m)), .slice A13 (dig (x.natAbs * y.natAbs)).length c13], by simp only [FL, f6, hx13] <;> kernel_rfl, Below.refl _ _, WV.mk (by rw [Int.natAbs_mul]; exact r13) HSG.out, nF⟩
  ·intro xs wk59 hBk hdep
   have HBk59 := Lib.hid hBk; have zk59 := hBk.size; clear hBk
   clear hdep
   refine wpOp_step (o := _) rfl (fun K hK => ?_)
   simp only [FL]
   go_simp
   refine hK _ _ ⟨.pointer (some ⟨w1.heap.size, 2, none⟩), by kernel_rfl, Below.refl _ _, rfl, nF⟩
  ·intro xs wk60 hBk hdep
   have HBk60 := Lib.hid hBk; have zk60 := hBk.size; clear hBk
   have f15 : (xs 15) = .pointer (some ⟨w1.heap.size, 2, none⟩) := hdep _ (m_ 15 rfl) (by kernel_rfl)
   clear hdep
   refine wpOp_step (o := _) rfl (fun K hK => ?_)
   simp only [FL]
   have P3_5_62 := Lib.hid (B17.out.trans (B21.out.mono B17.out.size))
   have P3_6_63 := Lib.hid (P3_5_62.out.trans (HBk60.out.mono P3_5_62.out.size))
   have Lx_61 := CB.step Lx_7 P3_6_63.out
   have q64_2 := Lx_61.cell 2 rfl
   go_simp
   refine hK _ _ ⟨.slice oB6 om_6 od6, by simp only [FL, f15] <;> kernel_rfl, Below.refl _ _, rfl, nF⟩
  ·intro xs wk65 hBk hdep
   have HBk65 := Lib.hid hBk; have zk65 := hBk.size; clear hBk
   clear hdep
   refine wpOp_step (o := _) rfl (fun K hK => ?_)
   simp only [FL]
   go_simp
   refine hK _ _ ⟨.pointer (some ⟨w10.heap.size, 2, none⟩), by kernel_rfl, Below.refl _ _, rfl, nF⟩
  ·intro xs wk66 hBk hdep
   have HBk66 := Lib.hid hBk; have zk66 := hBk.size; clear hBk
   have f17 : (xs 17) = .pointer (some ⟨w10.heap.size, 2, none⟩) := hdep _ (m_ 17 rfl) (by kernel_rfl)
   clear hdep
   refine wpOp_step (o := _) rfl (fun K hK => ?_)
   simp only [FL]
   have Ly_67 := CB.step Ly_20 HBk66.out
   have q68_2 := Ly_67.cell 2 rfl
   go_simp
   refine hK _ _ ⟨.slice oB19 om_19 od19, by simp only [FL, f17] <;> kernel_rfl, Below.refl _ _, rfl, nF⟩
  ·intro xs wk69 hBk hdep
   have HBk69 := Lib.hid hBk; have zk69 := hBk.size; clear hBk
   have f16 : (xs 16) = .slice oB6 om_6 od6 := hdep _ (m_ 16 rfl) (by kernel_rfl)
   have f18 : (xs 18) = .slice oB19 om_19 od19 := hdep _ (m_ 18 rfl) (by kernel_rfl)
   clear hdep
   refine wpOp_step (o := _) rfl (fun K hK => ?_)
   simp only [FL]
   go_simp
   have Hx2_70 := Lib.hid (RN.step HX2.out HBk69.out)
   have Hy2_71 := Lib.hid (RN.step HY2.out HBk69.out)
   (with_reducible refine (Times_any _ _ _ s t Hx2_70.out Hy2_71.out (by have := HL.out; omega) (by have := HL.out; omega)).mono ?_)
   rintro e wc72 ⟨hb72, v72, rfl, hv72⟩
   refine hK _ _ ⟨v72, by simp only [FL, f16, f18] <;> kernel_rfl, hb72, hv72, nF⟩
  ·intro xs wk73 hBk hdep
   have HBk73 := Lib.hid hBk; have zk73 := hBk.size; clear hBk
   have f14 : WV wk73 wk73.heap.size (xs 14) (x * y) := hdep _ (m_ 14 rfl) (by kernel_rfl)
   have f19 : RN wk73 wk73.heap.size (xs 19) (dig (s * t)) := hdep _ (m_ 19 rfl) (by kernel_rfl)
   clear hdep
   refine wpOp_step (o := _) rfl (fun K hK => ?_)
   simp only [FL]
   obtain ⟨nw14, Aw14, lw14, cw14, hw14, gw14, sw14⟩ := f14
   obtain ⟨A19, c19, hx19, -⟩ := RN.cell f19; have r19 := f19; rw [hx19] at r19 ⊢; rw [hw14]
   go_simp
   refine hK _ _ ⟨.agg #[.bool nw14, .slice Aw14 lw14 cw14, .slice A19 (dig (s * t)).length c19], by simp only [FL, hx19, hw14] <;> kernel_rfl, Below.refl _ _, TV.mk gw14 r19 sw14, nF⟩
 ·exact all_nil
 ·intro xs wf74 hbf hf hn hd
  have f0 : (xs 0) = .pointer (some ⟨w.heap.size, 0, none⟩) := hf _ (m_ 0 rfl)
  have f1 : (xs 1) = .pointer (some ⟨w.heap.size, 0, none⟩) := hf _ (m_ 1 rfl)
  have f2 : (xs 2) = .bool n := hf _ (m_ 2 rfl)
  have f3 : (xs 3) = .pointer (some ⟨w.heap.size + 1, 0, none⟩) := hf _ (m_ 3 rfl)
  have f4 : (xs 4) = .pointer (some ⟨w.heap.size + 1, 0, none⟩) := hf _ (m_ 4 rfl)
  have f5 : (xs 5) = .bool m := hf _ (m_ 5 rfl)
  have f6 : (xs 6) = .bool (!(n == m)) := hf _ (m_ 6 rfl)
  have f7 : (xs 7) = .pointer (some ⟨w1.heap.size, 0, none⟩) := hf _ (m_ 7 rfl)
  have f8 : (xs 8) = .pointer (some ⟨w1.heap.size, 1, none⟩) := hf _ (m_ 8 rfl)
  have f9 : (xs 9) = .slice oA6 ol6 oc6 := hf _ (m_ 9 rfl)
  have f10 : (xs 10) = .pointer (some ⟨w10.heap.size, 0, none⟩) := hf _ (m_ 10 rfl)
  have f11 : (xs 11) = .pointer (some ⟨w10.heap.size, 1, none⟩) := hf _ (m_ 11 rfl)
  have f12 : (xs 12) = .slice oA19 ol19 oc19 := hf _ (m_ 12 rfl)
  have f13 : RN wf74 wf74.heap.size (xs 13) (dig (x.natAbs * y.natAbs)) := hf _ (m_ 13 rfl)
  have f14 : WV wf74 wf74.heap.size (xs 14) (x * y) := hf _ (m_ 14 rfl)
  have f15 : (xs 15) = .pointer (some ⟨w1.heap.size, 2, none⟩) := hf _ (m_ 15 rfl)
  have f16 : (xs 16) = .slice oB6 om_6 od6 := hf _ (m_ 16 rfl)
  have f17 : (xs 17) = .pointer (some ⟨w10.heap.size, 2, none⟩) := hf _ (m_ 17 rfl)
  have f18 : (xs 18) = .slice oB19 om_19 od19 := hf _ (m_ 18 rfl)
  have f19 : RN wf74 wf74.heap.size (xs 19) (dig (s * t)) := hf _ (m_ 19 rfl)
  have f20 : TV wf74 wf74.heap.size (xs 20) (x * y) (s * t) := hf _ (m_ 20 rfl)
  clear hf hn hd
  simp only [FL]
  have B75 := Lib.hid hbf
  have z75 := B75.out.size
  have HB76 := Lib.hid (HB22.out.trans (B75.out.mono HB22.out.size))
  clear hbf
  generalize xs 0 = x0 at *
  generalize xs 1 = x1 at *
  generalize xs 2 = x2 at *
  generalize xs 3 = x3 at *
  generalize xs 4 = x4 at *
  generalize xs 5 = x5 at *
  generalize xs 6 = x6 at *
  generalize xs 7 = x7 at *
  generalize xs 8 = x8 at *
  generalize xs 9 = x9 at *
  generalize xs 10 = x10 at *
  generalize xs 11 = x11 at *
  generalize xs 12 = x12 at *
  generalize xs 13 = x13 at *
  generalize xs 14 = x14 at *
  generalize xs 15 = x15 at *
  generalize xs 16 = x16 at *
  generalize xs 17 = x17 at *
  generalize xs 18 = x18 at *
  generalize xs 19 = x19 at *
  generalize xs 20 = x20 at *
  obtain rfl := f0
  obtain rfl := f1
  obtain rfl := f2
  obtain rfl := f3
  obtain rfl := f4
  obtain rfl := f5
  obtain rfl := f6
  obtain rfl := f7
  obtain rfl := f8
  obtain rfl := f9
  obtain rfl := f10
  obtain rfl := f11
  obtain rfl := f12
  clear f13
  clear f14
  obtain rfl := f15
  obtain rfl := f16
  obtain rfl := f17
  obtain rfl := f18
  clear f19
  obtain ⟨on77, oA77, ol77, oc77, oB77, om_77, od77, rfl, ha77, hb77, hc77⟩ := f20
  have Hr_77 := Lib.hid (TV.mk ha77 hb77 hc77)
  clear ha77 hb77 hc77
  have P1_4_79 := Lib.hid (P1_3_12.out.trans (B17.out.mono P1_3_12.out.size))
  have P1_5_80 := Lib.hid (P1_4_79.out.trans (B21.out.mono P1_4_79.out.size))
  have P1_6_81 := Lib.hid (P1_5_80.out.trans (B75.out.mono P1_5_80.out.size))
  have Lr4_78 := CB.step Lr4 P1_6_81.out
  have q82_0 := Lr4_78.cell 0 rfl
  have q82_1 := Lr4_78.cell 1 rfl
  have q82_2 := Lr4_78.cell 2 rfl
  have q82_lt := Lr4_78.lt
  have q83_0 := Lr4_78.frozen 0
  have q83_1 := Lr4_78.frozen 1
  have q83_2 := Lr4_78.frozen 2
  have q83_lt := Lr4_78.lt
  refine Early.next (i := 21) (by kernel_rfl) rfl (fun K hK => ?_)
  go_simp
  refine hK _ _ (fun _ => trivial) ?_
  clear hK K
  (try simp only [Act.put, List.setIfInBounds_toArray, List.set_cons_zero, List.set_cons_succ])
  clear q82_0 q82_1 q82_2 q82_lt q83_0 q83_1 q83_2 q83_lt
  refine Early.done (by kernel_rfl) ?_ _
  (try simp only [Exit.then])
  go_wp2
  have HF := Lib.hid (show ∀ w B v, TV w B v (x * y) (s * t) → RV w B v (q * r) from fun w B v t => by unfold RV; rw [HP.out.1, HP.out.2]; exact t)
  exact bodyPost_mono (TB.fin rfl Lr4_78 (by simp [noInt_b, noInt_s]) HB76.out (by omega) Hr_77.out rfl) (fun e w' ⟨hb, v, he, hv⟩ => ⟨hb, v, he, HF.out _ _ _ hv⟩)
set_option maxRecDepth 100000 in
set_option maxHeartbeats 4000000 in
theorem Quo_any (w : World) (va vb : Value) (q r : Rat) (ha : RV w w.heap.size va q) (hb : RV w w.heap.size vb r) (h0 : r ≠ 0) (l1 : QL 20000 20000 q) (l2 : QL 20000 20000 r) :
  Calls Tryz.prog 95 #[va, vb] w fun e w' => Below w.heap.size w w' ∧ ∃ v, e = .returned v ∧ RV w' w'.heap.size v (q / r) := by
 have HD := Lib.hid (Rat.div_def q r)
 obtain ⟨n, A, l, c, A', l', c', rfl, Ha, Hd, hn⟩ := ha; obtain ⟨m, B, k, e, B', k', e', rfl, Hb, He, hm⟩ := hb
 have HL := Lib.hid l1; have HL' := Lib.hid (show QL 20000 20000 r⁻¹ by
  have hz : r.num ≠ 0 := fun e => h0 (Rat.num_eq_zero.1 e)
  unfold QL; rw [Rat.num_inv, Rat.den_inv, if_neg hz, Int.natAbs_mul, Int.natAbs_sign_of_ne_zero hz, Nat.one_mul, Int.natAbs_natCast]; exact ⟨l2.2, l2.1⟩); clear l1 l2
 have HA := Lib.hid (show RV w w.heap.size _ q from TV.mk Ha Hd hn); have HB := Lib.hid (show RV w w.heap.size _ r from TV.mk Hb He hm); clear Ha Hd hn Hb He hm
 have H0 := Lib.hid h0; clear h0
 obtain ⟨w0, hw0⟩ : ∃ w0 : World, w0 = (((w.alloc (.cells #[.bool n, .slice A l c, .slice A' l' c'] 95)).alloc (.cells #[.bool m, .slice B k e, .slice B' k' e'] 95)).alloc (.cells #[.bool false, .slice none 0 0, .slice none 0 0] 95)) := ⟨_, rfl⟩
 have B0 := Lib.hid (show Below w.heap.size w w0 by rw [hw0]; (repeat' (first | exact Below.refl _ _ | refine Below.drew ?_ | refine Below.alloc ?_ (by first | exact Nat.le_refl _ | (simp; done) | (simp; omega)) _)))
 have z0 : w.heap.size + 3 ≤ w0.heap.size := by rw [hw0]; simp
 have Lr : CB w0 (w.heap.size) 95 #[.bool n, .slice A l c, .slice A' l' c'] := by rw [hw0]; have h := ((CB.new w 95 #[.bool n, .slice A l c, .slice A' l' c']).alloc (.cells #[.bool m, .slice B k e, .slice B' k' e'] 95)).alloc (.cells #[.bool false, .slice none 0 0, .slice none 0 0] 95); simpa using h
 have Ls : CB w0 (w.heap.size + 1) 95 #[.bool m, .slice B k e, .slice B' k' e'] := by rw [hw0]; have h := (CB.new (w.alloc (.cells #[.bool n, .slice A l c, .slice A' l' c'] 95)) 95 #[.bool m, .slice B k e, .slice B' k' e']).alloc (.cells #[.bool false, .slice none 0 0, .slice none 0 0] 95); simpa using h
 have Lr4 : CB w0 (w.heap.size + 2) 95 #[.bool false, .slice none 0 0, .slice none 0 0] := by rw [hw0]; have h := CB.new ((w.alloc (.cells #[.bool n, .slice A l c, .slice A' l' c'] 95)).alloc (.cells #[.bool m, .slice B k e, .slice B' k' e'] 95)) 95 #[.bool false, .slice none 0 0, .slice none 0 0]; simpa using h
 replace HA := Lib.hid (RV.step HA.out B0.out); replace HB := Lib.hid (RV.step HB.out B0.out)
 go_enter Tryz.func95, Tryz.ntmps95
 go_upto_region 1 with (fail)
 rw [← hw0]; clear hw0
 refine Flow.run [⟨0, 5, fun fv fw => fv = .agg #[.bool n, .slice A l c, .slice A' l' c']⟩, ⟨1, 6, fun fv fw => fv = .agg #[.bool m, .slice B k e, .slice B' k' e']⟩, ⟨2, 7, fun fv fw => RV fw fw.heap.size fv r⁻¹⟩, ⟨3, 8, fun fv fw => RV fw fw.heap.size fv (q / r)⟩] [] [] 1 (by kernel_rfl) (by kernel_rfl) (by kernel_rfl) (fun _ _ _ _ _ h => h) ?_ ?_ ?_ ?_
 ·refine (all_cons (fun v w1 w2 h hb => h) (all_cons (fun v w1 w2 h hb => h) (all_cons (fun v w1 w2 h hb => h.step hb) (all_cons (fun v w1 w2 h hb => h.step hb) all_nil))))
 ·refine (all_cons ?_ (all_cons ?_ (all_cons ?_ (all_cons ?_ all_nil))))
  ·intro xs wk1 hBk hdep
   have HBk1 := Lib.hid hBk; have zk1 := hBk.size; clear hBk
   clear hdep
   refine wpOp_step (o := _) rfl (fun K hK => ?_)
   simp only [FL]
   have Lr_2 := CB.step Lr HBk1.out
   have q3_0 := Lr_2.cell 0 rfl
   have q3_1 := Lr_2.cell 1 rfl
   have q3_2 := Lr_2.cell 2 rfl
   go_simp
   refine hK _ _ ⟨.agg #[.bool n, .slice A l c, .slice A' l' c'], by kernel_rfl, Below.refl _ _, rfl, nF⟩
  ·intro xs wk4 hBk hdep
   have HBk4 := Lib.hid hBk; have zk4 := hBk.size; clear hBk
   clear hdep
   refine wpOp_step (o := _) rfl (fun K hK => ?_)
   simp only [FL]
   have Ls_5 := CB.step Ls HBk4.out
   have q6_0 := Ls_5.cell 0 rfl
   have q6_1 := Ls_5.cell 1 rfl
   have q6_2 := Ls_5.cell 2 rfl
   go_simp
   refine hK _ _ ⟨.agg #[.bool m, .slice B k e, .slice B' k' e'], by kernel_rfl, Below.refl _ _, rfl, nF⟩
  ·intro xs wk7 hBk hdep
   have HBk7 := Lib.hid hBk; have zk7 := hBk.size; clear hBk
   have f1 : (xs 1) = .agg #[.bool m, .slice B k e, .slice B' k' e'] := hdep _ (m_ 1 rfl) (by kernel_rfl)
   clear hdep
   refine wpOp_step (o := _) rfl (fun K hK => ?_)
   simp only [FL]
   go_simp
   have Hb_8 := Lib.hid (RV.step HB.out HBk7.out)
   (with_reducible refine (turned_any _ _ r Hb_8.out H0.out).mono ?_)
   rintro e wc9 ⟨hb9, v9, rfl, hv9⟩
   refine hK _ _ ⟨v9, by simp only [FL, f1] <;> kernel_rfl, hb9, hv9, nF⟩
  ·intro xs wk10 hBk hdep
   have HBk10 := Lib.hid hBk; have zk10 := hBk.size; clear hBk
   have f0 : (xs 0) = .agg #[.bool n, .slice A l c, .slice A' l' c'] := hdep _ (m_ 0 rfl) (by kernel_rfl)
   have f2 : RV wk10 wk10.heap.size (xs 2) r⁻¹ := hdep _ (m_ 2 rfl) (by kernel_rfl)
   clear hdep
   refine wpOp_step (o := _) rfl (fun K hK => ?_)
   simp only [FL]
   go_simp
   have Ha_11 := Lib.hid (RV.step HA.out HBk10.out)
   (with_reducible refine ((show Calls Tryz.prog _ _ _ _ from HD.out ▸ Prod_any _ _ _ q r⁻¹ Ha_11.out f2 HL.out HL'.out)).mono ?_)
   rintro e wc12 ⟨hb12, v12, rfl, hv12⟩
   refine hK _ _ ⟨v12, by simp only [FL, f0] <;> kernel_rfl, hb12, hv12, nF⟩
 ·exact all_nil
 ·intro xs wf13 hbf hf hn hd
  have f0 : (xs 0) = .agg #[.bool n, .slice A l c, .slice A' l' c'] := hf _ (m_ 0 rfl)
  have f1 : (xs 1) = .agg #[.bool m, .slice B k e, .slice B' k' e'] := hf _ (m_ 1 rfl)
  have f2 : RV wf13 wf13.heap.size (xs 2) r⁻¹ := hf _ (m_ 2 rfl)
  have f3 : RV wf13 wf13.heap.size (xs 3) (q / r) := hf _ (m_ 3 rfl)
  clear hf hn hd
  simp only [FL]
  have B14 := Lib.hid hbf
  have z14 := B14.out.size
  have HB15 := Lib.hid (B0.out.trans (B14.out.mono B0.out.size))
  clear hbf
  generalize xs 0 = x0 at *
  generalize xs 1 = x1 at *
  generalize xs 2 = x2 at *
  generalize xs 3 = x3 at *
  obtain rfl := f0
  obtain rfl := f1
  clear f2
  obtain ⟨on16, oA16, ol16, oc16, oB16, om_16, od16, rfl, ha16, hb16, hc16⟩ := f3
  have Hr_16 : Hid (RV wf13 wf13.heap.size (.agg #[.bool on16, .slice oA16 ol16 oc16, .slice oB16 om_16 od16]) (q / r)) := Lib.hid (TV.mk ha16 hb16 hc16)
  clear ha16 hb16 hc16
  have Lr4_17 := CB.step Lr4 B14.out
  have q18_0 := Lr4_17.cell 0 rfl
  have q18_1 := Lr4_17.cell 1 rfl
  have q18_2 := Lr4_17.cell 2 rfl
  have q18_lt := Lr4_17.lt
  have q19_0 := Lr4_17.frozen 0
  have q19_1 := Lr4_17.frozen 1
  have q19_2 := Lr4_17.frozen 2
  have q19_lt := Lr4_17.lt
  refine Early.next (i := 4) (by kernel_rfl) rfl (fun K hK => ?_)
  go_simp
  refine hK _ _ (fun _ => trivial) ?_
  clear hK K
  (try simp only [Act.put, List.setIfInBounds_toArray, List.set_cons_zero, List.set_cons_succ])
  clear q18_0 q18_1 q18_2 q18_lt q19_0 q19_1 q19_2 q19_lt
  refine Early.done (by kernel_rfl) ?_ _
  (try simp only [Exit.then])
  go_wp2
  exact TB.fin rfl Lr4_17 (by simp [noInt_b, noInt_s]) HB15.out (by omega) Hr_16.out rfl
end Go.Proofs.YtioclokmbgmamaaGreatDoor
