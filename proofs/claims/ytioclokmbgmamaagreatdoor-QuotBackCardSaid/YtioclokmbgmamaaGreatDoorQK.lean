/- Layer 04: Add, Sub, Mul, Div, Neg, Abs, Same, Sign (written by gen_qk.py). -/
import Derived.Test.YtioclokmbgmamaaGreatDoorQJ
namespace Go.Proofs.YtioclokmbgmamaaGreatDoor
open Go Go.RowKit Dig
noncomputable def divQ (q r : Rat) : Option Rat × Int := if r = 0 then (none, 7) else toldQ (q / r)
set_option maxRecDepth 100000 in
set_option maxHeartbeats 4000000 in
theorem QAdd_good (w : World) (va vb : Value) (q r : Rat) (ha : QV w w.heap.size va q) (hb : QV w w.heap.size vb r) (lq : QL 600 600 q) (lr : QL 600 600 r) :
  Calls Tryz.prog 34 #[va, vb] w fun e w' => Below w.heap.size w w' ∧ RetQ w' (toldQ (q + r)) e := by
 obtain ⟨t, ht⟩ : ∃ t, t = toldQ (q + r) := ⟨_, rfl⟩; rw [← ht]; have HT := Lib.hid ht; clear ht
 obtain ⟨n, A, l, c, m, A', l', c', rfl⟩ := QO.cells (show QO w w.heap.size va (some q) from ha); obtain ⟨n2, B, k, d, m2, B', k', d', rfl⟩ := QO.cells (show QO w w.heap.size vb (some r) from hb)
 have HA := Lib.hid ha; have HB := Lib.hid hb; have HLQ := Lib.hid lq; have HLR := Lib.hid lr; clear ha hb lq lr
 obtain ⟨w0, hw0⟩ : ∃ w0 : World, w0 = (((w.alloc (.cells #[.bool n, .slice A l c, .bool m, .slice A' l' c'] 26)).alloc (.cells #[.bool n2, .slice B k d, .bool m2, .slice B' k' d'] 26)).alloc (.cells #[.bool false, .slice none 0 0, .bool false, .slice none 0 0] 26)) := ⟨_, rfl⟩
 have B0 := Lib.hid (show Below w.heap.size w w0 by rw [hw0]; (repeat' (first | exact Below.refl _ _ | refine Below.drew ?_ | refine Below.alloc ?_ (by first | exact Nat.le_refl _ | (simp; done) | (simp; omega)) _)))
 have z0 : w.heap.size + 3 ≤ w0.heap.size := by rw [hw0]; simp
 have La : CB w0 (w.heap.size) 26 #[.bool n, .slice A l c, .bool m, .slice A' l' c'] := by rw [hw0]; have h := ((CB.new w 26 #[.bool n, .slice A l c, .bool m, .slice A' l' c']).alloc (.cells #[.bool n2, .slice B k d, .bool m2, .slice B' k' d'] 26)).alloc (.cells #[.bool false, .slice none 0 0, .bool false, .slice none 0 0] 26); simpa using h
 have Lb : CB w0 (w.heap.size + 1) 26 #[.bool n2, .slice B k d, .bool m2, .slice B' k' d'] := by rw [hw0]; have h := (CB.new (w.alloc (.cells #[.bool n, .slice A l c, .bool m, .slice A' l' c'] 26)) 26 #[.bool n2, .slice B k d, .bool m2, .slice B' k' d']).alloc (.cells #[.bool false, .slice none 0 0, .bool false, .slice none 0 0] 26); simpa using h
 have Lr4 : CB w0 (w.heap.size + 2) 26 #[.bool false, .slice none 0 0, .bool false, .slice none 0 0] := by rw [hw0]; have h := CB.new ((w.alloc (.cells #[.bool n, .slice A l c, .bool m, .slice A' l' c'] 26)).alloc (.cells #[.bool n2, .slice B k d, .bool m2, .slice B' k' d'] 26)) 26 #[.bool false, .slice none 0 0, .bool false, .slice none 0 0]; simpa using h
 replace HA := Lib.hid (QV.step HA.out B0.out); replace HB := Lib.hid (QV.step HB.out B0.out)
 go_enter Tryz.func34, Tryz.ntmps34
 go_upto_region 1 with (fail)
 rw [← hw0]; clear hw0
 have q2_0 := La.cell 0 rfl
 have q2_1 := La.cell 1 rfl
 have q2_2 := La.cell 2 rfl
 have q2_3 := La.cell 3 rfl
 have q2_lt := La.lt
 have q3_0 := Lb.cell 0 rfl
 have q3_1 := Lb.cell 1 rfl
 have q3_2 := Lb.cell 2 rfl
 have q3_3 := Lb.cell 3 rfl
 have q3_lt := Lb.lt
 go_wp2_with fail
 refine (both_Sum _ _ _ q r HA.out HB.out HLQ.out HLR.out).mono ?_
 rintro e w1 ⟨hb1, v, rfl, hv⟩
 have B4 := Lib.hid hb1
 have z4 := B4.out.size
 have HB5 := Lib.hid (B0.out.trans (B4.out.mono B0.out.size))
 clear hb1
 clear q2_0 q2_1 q2_2 q2_3 q2_lt q3_0 q3_1 q3_2 q3_3 q3_lt
 rw [← HT.out] at hv ⊢
 have hg6 := hv; obtain ⟨on6, oA6, ol6, oc6, oe6, oB6, om_6, od6, rfl⟩ := QO.cells hg6; have Hres_6 := Lib.hid hg6; clear hg6
 have Lr4_7 := CB.step Lr4 B4.out
 have q8_0 := Lr4_7.cell 0 rfl
 have q8_1 := Lr4_7.cell 1 rfl
 have q8_2 := Lr4_7.cell 2 rfl
 have q8_3 := Lr4_7.cell 3 rfl
 have q8_lt := Lr4_7.lt
 have q9_0 := Lr4_7.frozen 0
 have q9_1 := Lr4_7.frozen 1
 have q9_2 := Lr4_7.frozen 2
 have q9_3 := Lr4_7.frozen 3
 have q9_lt := Lr4_7.lt
 go_wp2
 clear q8_0 q8_1 q8_2 q8_3 q8_lt q9_0 q9_1 q9_2 q9_3 q9_lt
 exact QB.fin rfl Lr4_7 (by simp [noInt_b, noInt_s]) HB5.out (by omega) Hres_6.out rfl rfl
set_option maxRecDepth 100000 in
set_option maxHeartbeats 4000000 in
theorem QSub_good (w : World) (va vb : Value) (q r : Rat) (ha : QV w w.heap.size va q) (hb : QV w w.heap.size vb r) (lq : QL 600 600 q) (lr : QL 600 600 r) :
  Calls Tryz.prog 35 #[va, vb] w fun e w' => Below w.heap.size w w' ∧ RetQ w' (toldQ (q - r)) e := by
 obtain ⟨t, ht⟩ : ∃ t, t = toldQ (q - r) := ⟨_, rfl⟩; rw [← ht]; have HT := Lib.hid ht; clear ht
 obtain ⟨n, A, l, c, m, A', l', c', rfl⟩ := QO.cells (show QO w w.heap.size va (some q) from ha); obtain ⟨n2, B, k, d, m2, B', k', d', rfl⟩ := QO.cells (show QO w w.heap.size vb (some r) from hb)
 have HA := Lib.hid ha; have HB := Lib.hid hb; have HLQ := Lib.hid lq; have HLR := Lib.hid lr; clear ha hb lq lr
 obtain ⟨w0, hw0⟩ : ∃ w0 : World, w0 = (((w.alloc (.cells #[.bool n, .slice A l c, .bool m, .slice A' l' c'] 26)).alloc (.cells #[.bool n2, .slice B k d, .bool m2, .slice B' k' d'] 26)).alloc (.cells #[.bool false, .slice none 0 0, .bool false, .slice none 0 0] 26)) := ⟨_, rfl⟩
 have B0 := Lib.hid (show Below w.heap.size w w0 by rw [hw0]; (repeat' (first | exact Below.refl _ _ | refine Below.drew ?_ | refine Below.alloc ?_ (by first | exact Nat.le_refl _ | (simp; done) | (simp; omega)) _)))
 have z0 : w.heap.size + 3 ≤ w0.heap.size := by rw [hw0]; simp
 have La : CB w0 (w.heap.size) 26 #[.bool n, .slice A l c, .bool m, .slice A' l' c'] := by rw [hw0]; have h := ((CB.new w 26 #[.bool n, .slice A l c, .bool m, .slice A' l' c']).alloc (.cells #[.bool n2, .slice B k d, .bool m2, .slice B' k' d'] 26)).alloc (.cells #[.bool false, .slice none 0 0, .bool false, .slice none 0 0] 26); simpa using h
 have Lb : CB w0 (w.heap.size + 1) 26 #[.bool n2, .slice B k d, .bool m2, .slice B' k' d'] := by rw [hw0]; have h := (CB.new (w.alloc (.cells #[.bool n, .slice A l c, .bool m, .slice A' l' c'] 26)) 26 #[.bool n2, .slice B k d, .bool m2, .slice B' k' d']).alloc (.cells #[.bool false, .slice none 0 0, .bool false, .slice none 0 0] 26); simpa using h
 have Lr4 : CB w0 (w.heap.size + 2) 26 #[.bool false, .slice none 0 0, .bool false, .slice none 0 0] := by rw [hw0]; have h := CB.new ((w.alloc (.cells #[.bool n, .slice A l c, .bool m, .slice A' l' c'] 26)).alloc (.cells #[.bool n2, .slice B k d, .bool m2, .slice B' k' d'] 26)) 26 #[.bool false, .slice none 0 0, .bool false, .slice none 0 0]; simpa using h
 replace HA := Lib.hid (QV.step HA.out B0.out); replace HB := Lib.hid (QV.step HB.out B0.out)
 go_enter Tryz.func35, Tryz.ntmps35
 go_upto_region 1 with (fail)
 rw [← hw0]; clear hw0
 have q2_0 := La.cell 0 rfl
 have q2_1 := La.cell 1 rfl
 have q2_2 := La.cell 2 rfl
 have q2_3 := La.cell 3 rfl
 have q2_lt := La.lt
 have q3_0 := Lb.cell 0 rfl
 have q3_1 := Lb.cell 1 rfl
 have q3_2 := Lb.cell 2 rfl
 have q3_3 := Lb.cell 3 rfl
 have q3_lt := Lb.lt
 go_wp2_with fail
 refine (both_Diff _ _ _ q r HA.out HB.out HLQ.out HLR.out).mono ?_
 rintro e w1 ⟨hb1, v, rfl, hv⟩
 have B4 := Lib.hid hb1
 have z4 := B4.out.size
 have HB5 := Lib.hid (B0.out.trans (B4.out.mono B0.out.size))
 clear hb1
 clear q2_0 q2_1 q2_2 q2_3 q2_lt q3_0 q3_1 q3_2 q3_3 q3_lt
 rw [← HT.out] at hv ⊢
 have hg6 := hv; obtain ⟨on6, oA6, ol6, oc6, oe6, oB6, om_6, od6, rfl⟩ := QO.cells hg6; have Hres_6 := Lib.hid hg6; clear hg6
 have Lr4_7 := CB.step Lr4 B4.out
 have q8_0 := Lr4_7.cell 0 rfl
 have q8_1 := Lr4_7.cell 1 rfl
 have q8_2 := Lr4_7.cell 2 rfl
 have q8_3 := Lr4_7.cell 3 rfl
 have q8_lt := Lr4_7.lt
 have q9_0 := Lr4_7.frozen 0
 have q9_1 := Lr4_7.frozen 1
 have q9_2 := Lr4_7.frozen 2
 have q9_3 := Lr4_7.frozen 3
 have q9_lt := Lr4_7.lt
 go_wp2
 clear q8_0 q8_1 q8_2 q8_3 q8_lt q9_0 q9_1 q9_2 q9_3 q9_lt
 exact QB.fin rfl Lr4_7 (by simp [noInt_b, noInt_s]) HB5.out (by omega) Hres_6.out rfl rfl
set_option maxRecDepth 100000 in
set_option maxHeartbeats 4000000 in
theorem QMul_good (w : World) (va vb : Value) (q r : Rat) (ha : QV w w.heap.size va q) (hb : QV w w.heap.size vb r) (lq : QL 600 600 q) (lr : QL 600 600 r) :
  Calls Tryz.prog 37 #[va, vb] w fun e w' => Below w.heap.size w w' ∧ RetQ w' (toldQ (q * r)) e := by
 obtain ⟨t, ht⟩ : ∃ t, t = toldQ (q * r) := ⟨_, rfl⟩; rw [← ht]; have HT := Lib.hid ht; clear ht
 obtain ⟨n, A, l, c, m, A', l', c', rfl⟩ := QO.cells (show QO w w.heap.size va (some q) from ha); obtain ⟨n2, B, k, d, m2, B', k', d', rfl⟩ := QO.cells (show QO w w.heap.size vb (some r) from hb)
 have HA := Lib.hid ha; have HB := Lib.hid hb; have HLQ := Lib.hid lq; have HLR := Lib.hid lr; clear ha hb lq lr
 obtain ⟨w0, hw0⟩ : ∃ w0 : World, w0 = (((w.alloc (.cells #[.bool n, .slice A l c, .bool m, .slice A' l' c'] 26)).alloc (.cells #[.bool n2, .slice B k d, .bool m2, .slice B' k' d'] 26)).alloc (.cells #[.bool false, .slice none 0 0, .bool false, .slice none 0 0] 26)) := ⟨_, rfl⟩
 have B0 := Lib.hid (show Below w.heap.size w w0 by rw [hw0]; (repeat' (first | exact Below.refl _ _ | refine Below.drew ?_ | refine Below.alloc ?_ (by first | exact Nat.le_refl _ | (simp; done) | (simp; omega)) _)))
 have z0 : w.heap.size + 3 ≤ w0.heap.size := by rw [hw0]; simp
 have La : CB w0 (w.heap.size) 26 #[.bool n, .slice A l c, .bool m, .slice A' l' c'] := by rw [hw0]; have h := ((CB.new w 26 #[.bool n, .slice A l c, .bool m, .slice A' l' c']).alloc (.cells #[.bool n2, .slice B k d, .bool m2, .slice B' k' d'] 26)).alloc (.cells #[.bool false, .slice none 0 0, .bool false, .slice none 0 0] 26); simpa using h
 have Lb : CB w0 (w.heap.size + 1) 26 #[.bool n2, .slice B k d, .bool m2, .slice B' k' d'] := by rw [hw0]; have h := (CB.new (w.alloc (.cells #[.bool n, .slice A l c, .bool m, .slice A' l' c'] 26)) 26 #[.bool n2, .slice B k d, .bool m2, .slice B' k' d']).alloc (.cells #[.bool false, .slice none 0 0, .bool false, .slice none 0 0] 26); simpa using h
 have Lr4 : CB w0 (w.heap.size + 2) 26 #[.bool false, .slice none 0 0, .bool false, .slice none 0 0] := by rw [hw0]; have h := CB.new ((w.alloc (.cells #[.bool n, .slice A l c, .bool m, .slice A' l' c'] 26)).alloc (.cells #[.bool n2, .slice B k d, .bool m2, .slice B' k' d'] 26)) 26 #[.bool false, .slice none 0 0, .bool false, .slice none 0 0]; simpa using h
 replace HA := Lib.hid (QV.step HA.out B0.out); replace HB := Lib.hid (QV.step HB.out B0.out)
 go_enter Tryz.func37, Tryz.ntmps37
 go_upto_region 1 with (fail)
 rw [← hw0]; clear hw0
 have q2_0 := La.cell 0 rfl
 have q2_1 := La.cell 1 rfl
 have q2_2 := La.cell 2 rfl
 have q2_3 := La.cell 3 rfl
 have q2_lt := La.lt
 have q3_0 := Lb.cell 0 rfl
 have q3_1 := Lb.cell 1 rfl
 have q3_2 := Lb.cell 2 rfl
 have q3_3 := Lb.cell 3 rfl
 have q3_lt := Lb.lt
 go_wp2_with fail
 refine (both_Prod _ _ _ q r HA.out HB.out HLQ.out HLR.out).mono ?_
 rintro e w1 ⟨hb1, v, rfl, hv⟩
 have B4 := Lib.hid hb1
 have z4 := B4.out.size
 have HB5 := Lib.hid (B0.out.trans (B4.out.mono B0.out.size))
 clear hb1
 clear q2_0 q2_1 q2_2 q2_3 q2_lt q3_0 q3_1 q3_2 q3_3 q3_lt
 rw [← HT.out] at hv ⊢
 have hg6 := hv; obtain ⟨on6, oA6, ol6, oc6, oe6, oB6, om_6, od6, rfl⟩ := QO.cells hg6; have Hres_6 := Lib.hid hg6; clear hg6
 have Lr4_7 := CB.step Lr4 B4.out
 have q8_0 := Lr4_7.cell 0 rfl
 have q8_1 := Lr4_7.cell 1 rfl
 have q8_2 := Lr4_7.cell 2 rfl
 have q8_3 := Lr4_7.cell 3 rfl
 have q8_lt := Lr4_7.lt
 have q9_0 := Lr4_7.frozen 0
 have q9_1 := Lr4_7.frozen 1
 have q9_2 := Lr4_7.frozen 2
 have q9_3 := Lr4_7.frozen 3
 have q9_lt := Lr4_7.lt
 go_wp2
 clear q8_0 q8_1 q8_2 q8_3 q8_lt q9_0 q9_1 q9_2 q9_3 q9_lt
 exact QB.fin rfl Lr4_7 (by simp [noInt_b, noInt_s]) HB5.out (by omega) Hres_6.out rfl rfl
set_option maxRecDepth 100000 in
set_option maxHeartbeats 4000000 in
theorem QDiv_good (w : World) (va vb : Value) (q r : Rat) (ha : QV w w.heap.size va q) (hb : QV w w.heap.size vb r) (lq : QL 600 600 q) (lr : QL 600 600 r) :
  Calls Tryz.prog 38 #[va, vb] w fun e w' => Below w.heap.size w w' ∧ RetQ w' (divQ q r) e := by
 obtain ⟨t, ht⟩ : ∃ t, t = divQ q r := ⟨_, rfl⟩; rw [← ht]; have HT := Lib.hid ht; clear ht
 obtain ⟨n, A, l, c, m, A', l', c', rfl⟩ := QO.cells (show QO w w.heap.size va (some q) from ha); obtain ⟨n2, B, k, d, m2, B', k', d', rfl⟩ := QO.cells (show QO w w.heap.size vb (some r) from hb)
 have HA := Lib.hid ha; have HB := Lib.hid hb; have HLQ := Lib.hid lq; have HLR := Lib.hid lr; clear ha hb lq lr
 obtain ⟨w0, hw0⟩ : ∃ w0 : World, w0 = (((w.alloc (.cells #[.bool n, .slice A l c, .bool m, .slice A' l' c'] 26)).alloc (.cells #[.bool n2, .slice B k d, .bool m2, .slice B' k' d'] 26)).alloc (.cells #[.bool false, .slice none 0 0, .bool false, .slice none 0 0] 26)) := ⟨_, rfl⟩
 have B0 := Lib.hid (show Below w.heap.size w w0 by rw [hw0]; (repeat' (first | exact Below.refl _ _ | refine Below.drew ?_ | refine Below.alloc ?_ (by first | exact Nat.le_refl _ | (simp; done) | (simp; omega)) _)))
 have z0 : w.heap.size + 3 ≤ w0.heap.size := by rw [hw0]; simp
 have La : CB w0 (w.heap.size) 26 #[.bool n, .slice A l c, .bool m, .slice A' l' c'] := by rw [hw0]; have h := ((CB.new w 26 #[.bool n, .slice A l c, .bool m, .slice A' l' c']).alloc (.cells #[.bool n2, .slice B k d, .bool m2, .slice B' k' d'] 26)).alloc (.cells #[.bool false, .slice none 0 0, .bool false, .slice none 0 0] 26); simpa using h
 have Lb : CB w0 (w.heap.size + 1) 26 #[.bool n2, .slice B k d, .bool m2, .slice B' k' d'] := by rw [hw0]; have h := (CB.new (w.alloc (.cells #[.bool n, .slice A l c, .bool m, .slice A' l' c'] 26)) 26 #[.bool n2, .slice B k d, .bool m2, .slice B' k' d']).alloc (.cells #[.bool false, .slice none 0 0, .bool false, .slice none 0 0] 26); simpa using h
 have Lr4 : CB w0 (w.heap.size + 2) 26 #[.bool false, .slice none 0 0, .bool false, .slice none 0 0] := by rw [hw0]; have h := CB.new ((w.alloc (.cells #[.bool n, .slice A l c, .bool m, .slice A' l' c'] 26)).alloc (.cells #[.bool n2, .slice B k d, .bool m2, .slice B' k' d'] 26)) 26 #[.bool false, .slice none 0 0, .bool false, .slice none 0 0]; simpa using h
 replace HA := Lib.hid (QV.step HA.out B0.out); replace HB := Lib.hid (QV.step HB.out B0.out)
 go_enter Tryz.func38, Tryz.ntmps38
 go_upto_region 1 with (fail)
 rw [← hw0]; clear hw0
 have hQ := QV.is HA.out; have hR := QV.is HB.out
 obtain rfl := hQ.2.2.2; obtain rfl := hR.2.2.2; obtain rfl := hQ.2.2.1; obtain rfl := hR.2.2.1; clear hQ hR
 generalize hnq : decide (q.num < 0) = n at *; generalize hnr : decide (r.num < 0) = n2 at *
 have HNQ := Lib.hid hnq; have HNR := Lib.hid hnr; clear hnq hnr
 have HC := Lib.hid (show allQ (qOf n (ni (dig q.num.natAbs)) false (ni (dig q.den))) (qOf n2 (ni (dig r.num.natAbs)) false (ni (dig r.den))) = 0 by rw [← HNQ.out, ← HNR.out]; exact allQ_yes (qOf_rat q HLQ.out.1 HLQ.out.2) (qOf_rat r HLR.out.1 HLR.out.2))
 have q2_0 := La.cell 0 rfl
 have q2_1 := La.cell 1 rfl
 have q2_2 := La.cell 2 rfl
 have q2_3 := La.cell 3 rfl
 have q2_lt := La.lt
 have q3_0 := Lb.cell 0 rfl
 have q3_1 := Lb.cell 1 rfl
 have q3_2 := Lb.cell 2 rfl
 have q3_3 := Lb.cell 3 rfl
 have q3_lt := Lb.lt
 go_wp2_with fail
 refine (qall_new _ _ n false n2 false A A' B B' l l' k k' c c' d d' (ni (dig q.num.natAbs)) (ni (dig q.den)) (ni (dig r.num.natAbs)) (ni (dig r.den)) 2 rfl (by have h := QV.qr HA.out; rw [HNQ.out] at h; exact h) (by have h := QV.qr HB.out; rw [HNR.out] at h; exact h)).mono ?_
 rintro e w1 ⟨hb1, rfl⟩
 have B4 := Lib.hid hb1
 have z4 := B4.out.size
 have HB5 := Lib.hid (B0.out.trans (B4.out.mono B0.out.size))
 clear hb1
 clear q2_0 q2_1 q2_2 q2_3 q2_lt q3_0 q3_1 q3_2 q3_3 q3_lt
 rw [HC.out]; clear HC
 by_cases h0 : r = 0
 ·have HT0 := Lib.hid (show t = (none, 7) by rw [HT.out, divQ, if_pos h0])
  have Hb_6 := Lib.hid (QV.step HB.out B4.out)
  have hk0 : ((k : Int) == 0) = true := by rw [beq_iff_eq, RN.len (QV.is Hb_6.out).1, h0, show (0 : Rat).num.natAbs = 0 from rfl, dig_zero]; rfl
  clear h0
  have La_7 := CB.step La B4.out
  have q8_0 := La_7.cell 0 rfl
  have q8_1 := La_7.cell 1 rfl
  have q8_2 := La_7.cell 2 rfl
  have q8_3 := La_7.cell 3 rfl
  have q8_lt := La_7.lt
  have Lb_9 := CB.step Lb B4.out
  have q10_0 := Lb_9.cell 0 rfl
  have q10_1 := Lb_9.cell 1 rfl
  have q10_2 := Lb_9.cell 2 rfl
  have q10_3 := Lb_9.cell 3 rfl
  have q10_lt := Lb_9.lt
  have Lr4_11 := CB.step Lr4 B4.out
  have q12_0 := Lr4_11.cell 0 rfl
  have q12_1 := Lr4_11.cell 1 rfl
  have q12_2 := Lr4_11.cell 2 rfl
  have q12_3 := Lr4_11.cell 3 rfl
  have q12_lt := Lr4_11.lt
  have q13_0 := Lr4_11.frozen 0
  have q13_1 := Lr4_11.frozen 1
  have q13_2 := Lr4_11.frozen 2
  have q13_3 := Lr4_11.frozen 3
  have q13_lt := Lr4_11.lt
  go_wp2
  exact QB.fin rfl Lr4_11 (by simp [noInt_b, noInt_s]) HB5.out (by omega) (by rw [HT0.out]; exact zeroQ _ _) rfl (by rw [HT0.out]; rfl)
 ·have HR0 := Lib.hid h0; replace HT := Lib.hid (show t = toldQ (q / r) by rw [HT.out, divQ, if_neg h0])
  have Hb_14 := Lib.hid (QV.step HB.out B4.out)
  have hk0 : ((k : Int) == 0) = false := by
   rw [beq_eq_false_iff_ne, RN.len (QV.is Hb_14.out).1]; have h1 : r.num ≠ 0 := fun e => h0 (Rat.num_eq_zero.1 e); have := dig_len_pos (n := r.num.natAbs) (by omega); omega
  clear h0
  have La_16 := CB.step La B4.out
  have q17_0 := La_16.cell 0 rfl
  have q17_1 := La_16.cell 1 rfl
  have q17_2 := La_16.cell 2 rfl
  have q17_3 := La_16.cell 3 rfl
  have q17_lt := La_16.lt
  have Lb_18 := CB.step Lb B4.out
  have q19_0 := Lb_18.cell 0 rfl
  have q19_1 := Lb_18.cell 1 rfl
  have q19_2 := Lb_18.cell 2 rfl
  have q19_3 := Lb_18.cell 3 rfl
  have q19_lt := Lb_18.lt
  go_wp2_with fail
  have Ha_20 := Lib.hid (QV.step HA.out B4.out)
  refine (both_Quo _ _ _ q r Ha_20.out Hb_14.out HLQ.out HLR.out HR0.out).mono ?_
  rintro e w15 ⟨hb15, v, rfl, hv⟩
  have B21 := Lib.hid hb15
  have z21 := B21.out.size
  have HB22 := Lib.hid (HB5.out.trans (B21.out.mono HB5.out.size))
  clear hb15
  clear q17_0 q17_1 q17_2 q17_3 q17_lt q19_0 q19_1 q19_2 q19_3 q19_lt
  rw [← HT.out] at hv ⊢
  have hg23 := hv; obtain ⟨on23, oA23, ol23, oc23, oe23, oB23, om_23, od23, rfl⟩ := QO.cells hg23; have Hres_23 := Lib.hid hg23; clear hg23
  have P1_3_25 := Lib.hid (B4.out.trans (B21.out.mono B4.out.size))
  have Lr4_24 := CB.step Lr4 P1_3_25.out
  have q26_0 := Lr4_24.cell 0 rfl
  have q26_1 := Lr4_24.cell 1 rfl
  have q26_2 := Lr4_24.cell 2 rfl
  have q26_3 := Lr4_24.cell 3 rfl
  have q26_lt := Lr4_24.lt
  have q27_0 := Lr4_24.frozen 0
  have q27_1 := Lr4_24.frozen 1
  have q27_2 := Lr4_24.frozen 2
  have q27_3 := Lr4_24.frozen 3
  have q27_lt := Lr4_24.lt
  go_wp2
  clear q26_0 q26_1 q26_2 q26_3 q26_lt q27_0 q27_1 q27_2 q27_3 q27_lt
  exact QB.fin rfl Lr4_24 (by simp [noInt_b, noInt_s]) HB22.out (by omega) Hres_23.out rfl rfl
set_option maxRecDepth 100000 in
set_option maxHeartbeats 4000000 in
theorem QSame_any (w : World) (va vb : Value) (n m n2 m2 : Bool) (a b a2 b2 : List Int) (ha : QR w w.heap.size va n a m b) (hb : QR w w.heap.size vb n2 a2 m2 b2) :
  Calls Tryz.prog 36 #[va, vb] w fun e w' => Below w.heap.size w w' ∧ e = .returned (.bool (decide ((n = n2 ∧ a = a2) ∧ (m = m2 ∧ b = b2)))) := by
 obtain ⟨A, l, c, A', l', c', rfl, ha⟩ := RI.of ha; obtain ⟨B, k, d, B', k', d', rfl, hb⟩ := RI.of hb
 have HA := Lib.hid ha; have HB := Lib.hid hb; clear ha hb
 obtain ⟨x, hx⟩ : ∃ x, x = decide ((n = n2 ∧ a = a2) ∧ (m = m2 ∧ b = b2)) := ⟨_, rfl⟩; rw [← hx]; have HX := Lib.hid hx; clear hx
 obtain ⟨w0, hw0⟩ : ∃ w0 : World, w0 = ((w.alloc (.cells #[.bool n, .slice A l c, .bool m, .slice A' l' c'] 26)).alloc (.cells #[.bool n2, .slice B k d, .bool m2, .slice B' k' d'] 26)) := ⟨_, rfl⟩
 have B0 := Lib.hid (show Below w.heap.size w w0 by rw [hw0]; (repeat' (first | exact Below.refl _ _ | refine Below.drew ?_ | refine Below.alloc ?_ (by first | exact Nat.le_refl _ | (simp; done) | (simp; omega)) _)))
 have z0 : w.heap.size + 2 ≤ w0.heap.size := by rw [hw0]; simp
 have La : CB w0 (w.heap.size) 26 #[.bool n, .slice A l c, .bool m, .slice A' l' c'] := by rw [hw0]; have h := (CB.new w 26 #[.bool n, .slice A l c, .bool m, .slice A' l' c']).alloc (.cells #[.bool n2, .slice B k d, .bool m2, .slice B' k' d'] 26); simpa using h
 have Lb : CB w0 (w.heap.size + 1) 26 #[.bool n2, .slice B k d, .bool m2, .slice B' k' d'] := by rw [hw0]; have h := CB.new (w.alloc (.cells #[.bool n, .slice A l c, .bool m, .slice A' l' c'] 26)) 26 #[.bool n2, .slice B k d, .bool m2, .slice B' k' d']; simpa using h
 replace HA := Lib.hid (QR.step HA.out B0.out); replace HB := Lib.hid (QR.step HB.out B0.out)
 go_enter Tryz.func36, Tryz.ntmps36
 go_upto_region 1 with (fail)
 rw [← hw0]; clear hw0
 have q2_0 := La.cell 0 rfl
 have q2_1 := La.cell 1 rfl
 have q2_2 := La.cell 2 rfl
 have q2_3 := La.cell 3 rfl
 have q2_lt := La.lt
 have q3_0 := Lb.cell 0 rfl
 have q3_1 := Lb.cell 1 rfl
 have q3_2 := Lb.cell 2 rfl
 have q3_3 := Lb.cell 3 rfl
 have q3_lt := Lb.lt
 go_wp2_with fail
 refine (Same_any _ _ _ _ _ _ _ (QR.fst HA.out) (QR.fst HB.out)).mono ?_
 rintro e w1 ⟨hb1, rfl⟩
 have B4 := Lib.hid hb1
 have z4 := B4.out.size
 have HB5 := Lib.hid (B0.out.trans (B4.out.mono B0.out.size))
 clear hb1
 clear q2_0 q2_1 q2_2 q2_3 q2_lt q3_0 q3_1 q3_2 q3_3 q3_lt
 by_cases h1 : n = n2 ∧ a = a2
 ·rw [decide_eq_true h1]; have H1 := Lib.hid h1; clear h1
  have La_7 := CB.step La B4.out
  have q8_0 := La_7.cell 0 rfl
  have q8_1 := La_7.cell 1 rfl
  have q8_2 := La_7.cell 2 rfl
  have q8_3 := La_7.cell 3 rfl
  have q8_lt := La_7.lt
  have Lb_9 := CB.step Lb B4.out
  have q10_0 := Lb_9.cell 0 rfl
  have q10_1 := Lb_9.cell 1 rfl
  have q10_2 := Lb_9.cell 2 rfl
  have q10_3 := Lb_9.cell 3 rfl
  have q10_lt := Lb_9.lt
  go_wp2_with fail
  have Ha_11 := Lib.hid (QR.step HA.out B4.out)
  have Hb_12 := Lib.hid (QR.step HB.out B4.out)
  refine (Same_any _ _ _ _ _ _ _ (QR.snd Ha_11.out) (QR.snd Hb_12.out)).mono ?_
  rintro e w6 ⟨hb6, rfl⟩
  have B13 := Lib.hid hb6
  have z13 := B13.out.size
  have HB14 := Lib.hid (HB5.out.trans (B13.out.mono HB5.out.size))
  clear hb6
  clear q8_0 q8_1 q8_2 q8_3 q8_lt q10_0 q10_1 q10_2 q10_3 q10_lt
  rw [show decide (m = m2 ∧ b = b2) = x by rw [HX.out]; exact decide_eq_decide.2 ⟨fun h => ⟨H1.out, h⟩, fun h => h.2⟩]
  go_wp2
  go_ret
  exact ⟨HB14.out, rfl⟩
 ·rw [decide_eq_false h1]; have HX2 := Lib.hid (show x = false by rw [HX.out]; exact decide_eq_false (fun h => h1 h.1)); clear h1
  go_wp2
  go_ret
  exact ⟨HB5.out, by rw [HX2.out]; rfl⟩
theorem wSignR_any (w : World) (n : Bool) (A : Option Addr) (l c : Nat) :
  Calls Tryz.prog 59 #[.agg #[.bool n, .slice A l c]] w fun e w' => Below w.heap.size w w' ∧ ∃ s : Int, e = .returned (.int .i64 s) := by
 have HB := Lib.hid (below_alloc1 (Below.refl w.heap.size w) (.cells #[.bool n, .slice A l c] 93))
 by_cases hl : l = 0
 ·subst hl
  go_enter Tryz.func59, Tryz.ntmps59
  go_wp2
  go_ret
  exact ⟨HB.out, _, rfl⟩
 ·have hl0 : ((l : Int) == 0) = false := by rw [beq_eq_false_iff_ne]; omega
  clear hl
  cases n with
  | false =>
   go_enter Tryz.func59, Tryz.ntmps59
   go_wp2
   go_ret
   exact ⟨HB.out, _, rfl⟩
  | true =>
   go_enter Tryz.func59, Tryz.ntmps59
   go_wp2
   go_ret
   exact ⟨HB.out, _, rfl⟩
noncomputable def sgnQ : Option Rat → Int × Int
 | some q => (q.num.sign, 0)
 | none => (0, 40)
set_option maxRecDepth 100000 in
set_option maxHeartbeats 4000000 in
theorem QSign_any (w : World) (va : Value) (n m : Bool) (a b : List Int) (ha : QR w w.heap.size va n a m b) :
  Calls Tryz.prog 16 #[va] w fun e w' => Below w.heap.size w w' ∧ RetI (sgnQ (qOf n a m b)) e := by
 obtain ⟨A, l, c, A', l', c', rfl, ha⟩ := RI.of ha
 rcases hq : qOf n a m b with _ | q
 ·skip
  have HA := Lib.hid ha; have HQ := Lib.hid hq; clear ha hq
  obtain ⟨w0, hw0⟩ : ∃ w0 : World, w0 = (w.alloc (.cells #[.bool n, .slice A l c, .bool m, .slice A' l' c'] 26)) := ⟨_, rfl⟩
  have B0 := Lib.hid (show Below w.heap.size w w0 by rw [hw0]; (repeat' (first | exact Below.refl _ _ | refine Below.drew ?_ | refine Below.alloc ?_ (by first | exact Nat.le_refl _ | (simp; done) | (simp; omega)) _)))
  have z0 : w.heap.size + 1 ≤ w0.heap.size := by rw [hw0]; simp
  have La : CB w0 (w.heap.size) 26 #[.bool n, .slice A l c, .bool m, .slice A' l' c'] := by rw [hw0]; have h := CB.new w 26 #[.bool n, .slice A l c, .bool m, .slice A' l' c']; simpa using h
  replace HA := Lib.hid (QR.step HA.out B0.out)
  go_enter Tryz.func16, Tryz.ntmps16
  go_upto_region 1 with (fail)
  rw [← hw0]; clear hw0
  refine Flow.run [⟨0, 4, fun fv fw => fv = .agg #[.bool n, .slice A l c, .bool m, .slice A' l' c']⟩, ⟨1, 5, fun fv fw => fv = .agg #[.bool n, .slice A l c, .slice A' l' c']⟩, ⟨2, 6, fun fv fw => fv = .agg #[.bool n, .slice A l c]⟩, ⟨3, 7, fun fv fw => ∃ s : Int, fv = .int .i64 s⟩, ⟨4, 8, fun fv fw => fv = .agg #[.bool n, .slice A l c, .bool m, .slice A' l' c']⟩, ⟨5, 9, fun fv fw => fv = .int .i64 40⟩, ⟨6, 10, fun fv fw => fv = .tuple #[.int .i64 0, .int .i64 40]⟩, ⟨7, 11, fun fv fw => fv = .int .i64 0⟩, ⟨8, 12, fun fv fw => fv = .int .i64 40⟩] [] [] 2 (by kernel_rfl) (by kernel_rfl) (by kernel_rfl) (fun _ _ _ _ _ h => h) ?_ ?_ ?_ ?_
  ·refine (all_cons (fun v w1 w2 h hb => h) (all_cons (fun v w1 w2 h hb => h) (all_cons (fun v w1 w2 h hb => h) (all_cons (fun v w1 w2 h hb => h) (all_cons (fun v w1 w2 h hb => h) (all_cons (fun v w1 w2 h hb => h) (all_cons (fun v w1 w2 h hb => h) (all_cons (fun v w1 w2 h hb => h) (all_cons (fun v w1 w2 h hb => h) all_nil)))))))))
  ·refine (all_cons ?_ (all_cons ?_ (all_cons ?_ (all_cons ?_ (all_cons ?_ (all_cons ?_ (all_cons ?_ (all_cons ?_ (all_cons ?_ all_nil)))))))))
   ·intro xs wk1 hBk hdep
    have HBk1 := Lib.hid hBk; have zk1 := hBk.size; clear hBk
    clear hdep
    refine wpOp_step (o := _) rfl (fun K hK => ?_)
    simp only [FL]
    have La_2 := CB.step La HBk1.out
    have q3_0 := La_2.cell 0 rfl
    have q3_1 := La_2.cell 1 rfl
    have q3_2 := La_2.cell 2 rfl
    have q3_3 := La_2.cell 3 rfl
    go_simp
    refine hK _ _ ⟨.agg #[.bool n, .slice A l c, .bool m, .slice A' l' c'], by kernel_rfl, Below.refl _ _, rfl, nF⟩
   ·intro xs wk4 hBk hdep
    have HBk4 := Lib.hid hBk; have zk4 := hBk.size; clear hBk
    have f0 : (xs 0) = .agg #[.bool n, .slice A l c, .bool m, .slice A' l' c'] := hdep _ (m_ 0 rfl) (by kernel_rfl)
    clear hdep
    refine wpOp_step (o := _) rfl (fun K hK => ?_)
    simp only [FL]
    go_simp
    (with_reducible refine (Read_any _ n m A A' l c l' c').mono ?_)
    rintro e wc5 ⟨hb5, rfl⟩
    refine hK _ _ ⟨.agg #[.bool n, .slice A l c, .slice A' l' c'], by simp only [FL, f0] <;> kernel_rfl, hb5, rfl, nF⟩
   ·intro xs wk6 hBk hdep
    have HBk6 := Lib.hid hBk; have zk6 := hBk.size; clear hBk
    have f1 : (xs 1) = .agg #[.bool n, .slice A l c, .slice A' l' c'] := hdep _ (m_ 1 rfl) (by kernel_rfl)
    clear hdep
    refine wpOp_step (o := _) rfl (fun K hK => ?_)
    simp only [FL]
    go_simp
    refine hK _ _ ⟨.agg #[.bool n, .slice A l c], by simp only [FL, f1] <;> kernel_rfl, Below.refl _ _, rfl, nF⟩
   ·intro xs wk7 hBk hdep
    have HBk7 := Lib.hid hBk; have zk7 := hBk.size; clear hBk
    have f2 : (xs 2) = .agg #[.bool n, .slice A l c] := hdep _ (m_ 2 rfl) (by kernel_rfl)
    clear hdep
    refine wpOp_step (o := _) rfl (fun K hK => ?_)
    simp only [FL]
    go_simp
    (with_reducible refine (wSignR_any _ n A l c).mono ?_)
    rintro e wc8 ⟨hb8, s8, rfl⟩
    refine hK _ _ ⟨.int .i64 s8, by simp only [FL, f2] <;> kernel_rfl, hb8, ⟨s8, rfl⟩, nF⟩
   ·intro xs wk9 hBk hdep
    have HBk9 := Lib.hid hBk; have zk9 := hBk.size; clear hBk
    clear hdep
    refine wpOp_step (o := _) rfl (fun K hK => ?_)
    simp only [FL]
    have La_10 := CB.step La HBk9.out
    have q11_0 := La_10.cell 0 rfl
    have q11_1 := La_10.cell 1 rfl
    have q11_2 := La_10.cell 2 rfl
    have q11_3 := La_10.cell 3 rfl
    go_simp
    refine hK _ _ ⟨.agg #[.bool n, .slice A l c, .bool m, .slice A' l' c'], by kernel_rfl, Below.refl _ _, rfl, nF⟩
   ·intro xs wk12 hBk hdep
    have HBk12 := Lib.hid hBk; have zk12 := hBk.size; clear hBk
    have f4 : (xs 4) = .agg #[.bool n, .slice A l c, .bool m, .slice A' l' c'] := hdep _ (m_ 4 rfl) (by kernel_rfl)
    clear hdep
    refine wpOp_step (o := _) rfl (fun K hK => ?_)
    simp only [FL]
    go_simp
    have Ha_13 := Lib.hid (QR.step HA.out HBk12.out)
    (with_reducible refine ((show Calls Tryz.prog _ _ _ _ from (show chkQ n a m b = 40 from chkQ_none HQ.out) ▸ QCheck_any _ _ n a m b Ha_13.out)).mono ?_)
    rintro e wc14 ⟨hb14, rfl⟩
    refine hK _ _ ⟨.int .i64 40, by simp only [FL, f4] <;> kernel_rfl, hb14, rfl, nF⟩
   ·intro xs wk15 hBk hdep
    have HBk15 := Lib.hid hBk; have zk15 := hBk.size; clear hBk
    have f3 : ∃ s : Int, (xs 3) = .int .i64 s := hdep _ (m_ 3 rfl) (by kernel_rfl)
    have f5 : (xs 5) = .int .i64 40 := hdep _ (m_ 5 rfl) (by kernel_rfl)
    clear hdep
    refine wpOp_step (o := _) rfl (fun K hK => ?_)
    simp only [FL]
    obtain ⟨s, hs⟩ := f3; rw [hs]
    go_simp
    (with_reducible refine (madeI_any _ s 40).mono ?_)
    rintro e wc16 ⟨hb16, rfl⟩
    rw [if_neg (show ¬ (40 : Int) = 0 by decide)]
    refine hK _ _ ⟨.tuple #[.int .i64 0, .int .i64 40], by simp only [FL, f5, hs] <;> kernel_rfl, hb16, rfl, nF⟩
   ·intro xs wk17 hBk hdep
    have HBk17 := Lib.hid hBk; have zk17 := hBk.size; clear hBk
    have f6 : (xs 6) = .tuple #[.int .i64 0, .int .i64 40] := hdep _ (m_ 6 rfl) (by kernel_rfl)
    clear hdep
    refine wpOp_step (o := _) rfl (fun K hK => ?_)
    simp only [FL]
    go_simp
    refine hK _ _ ⟨.int .i64 0, by simp only [FL, f6] <;> kernel_rfl, Below.refl _ _, rfl, nF⟩
   ·intro xs wk18 hBk hdep
    have HBk18 := Lib.hid hBk; have zk18 := hBk.size; clear hBk
    have f6 : (xs 6) = .tuple #[.int .i64 0, .int .i64 40] := hdep _ (m_ 6 rfl) (by kernel_rfl)
    clear hdep
    refine wpOp_step (o := _) rfl (fun K hK => ?_)
    simp only [FL]
    go_simp
    refine hK _ _ ⟨.int .i64 40, by simp only [FL, f6] <;> kernel_rfl, Below.refl _ _, rfl, nF⟩
  ·exact all_nil
  ·intro xs wf19 hbf hf hn hd
   have f0 : (xs 0) = .agg #[.bool n, .slice A l c, .bool m, .slice A' l' c'] := hf _ (m_ 0 rfl)
   have f1 : (xs 1) = .agg #[.bool n, .slice A l c, .slice A' l' c'] := hf _ (m_ 1 rfl)
   have f2 : (xs 2) = .agg #[.bool n, .slice A l c] := hf _ (m_ 2 rfl)
   have f3 : ∃ s : Int, (xs 3) = .int .i64 s := hf _ (m_ 3 rfl)
   have f4 : (xs 4) = .agg #[.bool n, .slice A l c, .bool m, .slice A' l' c'] := hf _ (m_ 4 rfl)
   have f5 : (xs 5) = .int .i64 40 := hf _ (m_ 5 rfl)
   have f6 : (xs 6) = .tuple #[.int .i64 0, .int .i64 40] := hf _ (m_ 6 rfl)
   have f7 : (xs 7) = .int .i64 0 := hf _ (m_ 7 rfl)
   have f8 : (xs 8) = .int .i64 40 := hf _ (m_ 8 rfl)
   clear hf hn hd
   simp only [FL]
   have B20 := Lib.hid hbf
   have z20 := B20.out.size
   have HB21 := Lib.hid (B0.out.trans (B20.out.mono B0.out.size))
   clear hbf
   generalize xs 0 = x0 at *
   generalize xs 1 = x1 at *
   generalize xs 2 = x2 at *
   generalize xs 3 = x3 at *
   generalize xs 4 = x4 at *
   generalize xs 5 = x5 at *
   generalize xs 6 = x6 at *
   generalize xs 7 = x7 at *
   generalize xs 8 = x8 at *
   obtain rfl := f0
   obtain rfl := f1
   obtain rfl := f2
   clear f3
   obtain rfl := f4
   obtain rfl := f5
   obtain rfl := f6
   obtain rfl := f7
   obtain rfl := f8
   refine Early.next (i := 9) (by kernel_rfl) rfl (fun K hK => ?_)
   go_simp
   refine hK _ _ (fun _ => trivial) ?_
   clear hK K
   (try simp only [Act.put, List.setIfInBounds_toArray, List.set_cons_zero, List.set_cons_succ])
   refine Early.next (i := 10) (by kernel_rfl) rfl (fun K hK => ?_)
   go_simp
   refine hK _ _ (fun _ => trivial) ?_
   clear hK K
   (try simp only [Act.put, List.setIfInBounds_toArray, List.set_cons_zero, List.set_cons_succ])
   refine Early.done (by kernel_rfl) ?_ _
   (try simp only [Exit.then])
   go_wp2
   go_ret2
   exact ⟨HB21.out, rfl⟩
 ·obtain ⟨hv, -⟩ := QR.valid ha hq
  have HW := Lib.hid (TV.fst (QV.read hv)); clear hv
  have HA := Lib.hid ha; have HQ := Lib.hid hq; clear ha hq
  obtain ⟨w0, hw0⟩ : ∃ w0 : World, w0 = (w.alloc (.cells #[.bool n, .slice A l c, .bool m, .slice A' l' c'] 26)) := ⟨_, rfl⟩
  have B0 := Lib.hid (show Below w.heap.size w w0 by rw [hw0]; (repeat' (first | exact Below.refl _ _ | refine Below.drew ?_ | refine Below.alloc ?_ (by first | exact Nat.le_refl _ | (simp; done) | (simp; omega)) _)))
  have z0 : w.heap.size + 1 ≤ w0.heap.size := by rw [hw0]; simp
  have La : CB w0 (w.heap.size) 26 #[.bool n, .slice A l c, .bool m, .slice A' l' c'] := by rw [hw0]; have h := CB.new w 26 #[.bool n, .slice A l c, .bool m, .slice A' l' c']; simpa using h
  replace HA := Lib.hid (QR.step HA.out B0.out)
  replace HW := Lib.hid (WV.step HW.out B0.out)
  go_enter Tryz.func16, Tryz.ntmps16
  go_upto_region 1 with (fail)
  rw [← hw0]; clear hw0
  refine Flow.run [⟨0, 4, fun fv fw => fv = .agg #[.bool n, .slice A l c, .bool m, .slice A' l' c']⟩, ⟨1, 5, fun fv fw => fv = .agg #[.bool n, .slice A l c, .slice A' l' c']⟩, ⟨2, 6, fun fv fw => fv = .agg #[.bool n, .slice A l c]⟩, ⟨3, 7, fun fv fw => fv = .int .i64 q.num.sign⟩, ⟨4, 8, fun fv fw => fv = .agg #[.bool n, .slice A l c, .bool m, .slice A' l' c']⟩, ⟨5, 9, fun fv fw => fv = .int .i64 0⟩, ⟨6, 10, fun fv fw => fv = .tuple #[.int .i64 q.num.sign, .int .i64 0]⟩, ⟨7, 11, fun fv fw => fv = .int .i64 q.num.sign⟩, ⟨8, 12, fun fv fw => fv = .int .i64 0⟩] [] [] 2 (by kernel_rfl) (by kernel_rfl) (by kernel_rfl) (fun _ _ _ _ _ h => h) ?_ ?_ ?_ ?_
  ·refine (all_cons (fun v w1 w2 h hb => h) (all_cons (fun v w1 w2 h hb => h) (all_cons (fun v w1 w2 h hb => h) (all_cons (fun v w1 w2 h hb => h) (all_cons (fun v w1 w2 h hb => h) (all_cons (fun v w1 w2 h hb => h) (all_cons (fun v w1 w2 h hb => h) (all_cons (fun v w1 w2 h hb => h) (all_cons (fun v w1 w2 h hb => h) all_nil)))))))))
  ·refine (all_cons ?_ (all_cons ?_ (all_cons ?_ (all_cons ?_ (all_cons ?_ (all_cons ?_ (all_cons ?_ (all_cons ?_ (all_cons ?_ all_nil)))))))))
   ·intro xs wk22 hBk hdep
    have HBk22 := Lib.hid hBk; have zk22 := hBk.size; clear hBk
    clear hdep
    refine wpOp_step (o := _) rfl (fun K hK => ?_)
    simp only [FL]
    have La_23 := CB.step La HBk22.out
    have q24_0 := La_23.cell 0 rfl
    have q24_1 := La_23.cell 1 rfl
    have q24_2 := La_23.cell 2 rfl
    have q24_3 := La_23.cell 3 rfl
    go_simp
    refine hK _ _ ⟨.agg #[.bool n, .slice A l c, .bool m, .slice A' l' c'], by kernel_rfl, Below.refl _ _, rfl, nF⟩
   ·intro xs wk25 hBk hdep
    have HBk25 := Lib.hid hBk; have zk25 := hBk.size; clear hBk
    have f0 : (xs 0) = .agg #[.bool n, .slice A l c, .bool m, .slice A' l' c'] := hdep _ (m_ 0 rfl) (by kernel_rfl)
    clear hdep
    refine wpOp_step (o := _) rfl (fun K hK => ?_)
    simp only [FL]
    go_simp
    (with_reducible refine (Read_any _ n m A A' l c l' c').mono ?_)
    rintro e wc26 ⟨hb26, rfl⟩
    refine hK _ _ ⟨.agg #[.bool n, .slice A l c, .slice A' l' c'], by simp only [FL, f0] <;> kernel_rfl, hb26, rfl, nF⟩
   ·intro xs wk27 hBk hdep
    have HBk27 := Lib.hid hBk; have zk27 := hBk.size; clear hBk
    have f1 : (xs 1) = .agg #[.bool n, .slice A l c, .slice A' l' c'] := hdep _ (m_ 1 rfl) (by kernel_rfl)
    clear hdep
    refine wpOp_step (o := _) rfl (fun K hK => ?_)
    simp only [FL]
    go_simp
    refine hK _ _ ⟨.agg #[.bool n, .slice A l c], by simp only [FL, f1] <;> kernel_rfl, Below.refl _ _, rfl, nF⟩
   ·intro xs wk28 hBk hdep
    have HBk28 := Lib.hid hBk; have zk28 := hBk.size; clear hBk
    have f2 : (xs 2) = .agg #[.bool n, .slice A l c] := hdep _ (m_ 2 rfl) (by kernel_rfl)
    clear hdep
    refine wpOp_step (o := _) rfl (fun K hK => ?_)
    simp only [FL]
    go_simp
    have Hw_29 := Lib.hid (WV.step HW.out HBk28.out)
    (with_reducible refine (wSign_any _ _ q.num Hw_29.out).mono ?_)
    rintro e wc30 ⟨hb30, rfl⟩
    refine hK _ _ ⟨.int .i64 q.num.sign, by simp only [FL, f2] <;> kernel_rfl, hb30, rfl, nF⟩
   ·intro xs wk31 hBk hdep
    have HBk31 := Lib.hid hBk; have zk31 := hBk.size; clear hBk
    clear hdep
    refine wpOp_step (o := _) rfl (fun K hK => ?_)
    simp only [FL]
    have La_32 := CB.step La HBk31.out
    have q33_0 := La_32.cell 0 rfl
    have q33_1 := La_32.cell 1 rfl
    have q33_2 := La_32.cell 2 rfl
    have q33_3 := La_32.cell 3 rfl
    go_simp
    refine hK _ _ ⟨.agg #[.bool n, .slice A l c, .bool m, .slice A' l' c'], by kernel_rfl, Below.refl _ _, rfl, nF⟩
   ·intro xs wk34 hBk hdep
    have HBk34 := Lib.hid hBk; have zk34 := hBk.size; clear hBk
    have f4 : (xs 4) = .agg #[.bool n, .slice A l c, .bool m, .slice A' l' c'] := hdep _ (m_ 4 rfl) (by kernel_rfl)
    clear hdep
    refine wpOp_step (o := _) rfl (fun K hK => ?_)
    simp only [FL]
    go_simp
    have Ha_35 := Lib.hid (QR.step HA.out HBk34.out)
    (with_reducible refine ((show Calls Tryz.prog _ _ _ _ from (show chkQ n a m b = 0 from chkQ_some HQ.out) ▸ QCheck_any _ _ n a m b Ha_35.out)).mono ?_)
    rintro e wc36 ⟨hb36, rfl⟩
    refine hK _ _ ⟨.int .i64 0, by simp only [FL, f4] <;> kernel_rfl, hb36, rfl, nF⟩
   ·intro xs wk37 hBk hdep
    have HBk37 := Lib.hid hBk; have zk37 := hBk.size; clear hBk
    have f3 : (xs 3) = .int .i64 q.num.sign := hdep _ (m_ 3 rfl) (by kernel_rfl)
    have f5 : (xs 5) = .int .i64 0 := hdep _ (m_ 5 rfl) (by kernel_rfl)
    clear hdep
    refine wpOp_step (o := _) rfl (fun K hK => ?_)
    simp only [FL]
    go_simp
    (with_reducible refine (madeI_any _ q.num.sign 0).mono ?_)
    rintro e wc38 ⟨hb38, rfl⟩
    rw [if_pos rfl]
    refine hK _ _ ⟨.tuple #[.int .i64 q.num.sign, .int .i64 0], by simp only [FL, f3, f5] <;> kernel_rfl, hb38, rfl, nF⟩
   ·intro xs wk39 hBk hdep
    have HBk39 := Lib.hid hBk; have zk39 := hBk.size; clear hBk
    have f6 : (xs 6) = .tuple #[.int .i64 q.num.sign, .int .i64 0] := hdep _ (m_ 6 rfl) (by kernel_rfl)
    clear hdep
    refine wpOp_step (o := _) rfl (fun K hK => ?_)
    simp only [FL]
    go_simp
    refine hK _ _ ⟨.int .i64 q.num.sign, by simp only [FL, f6] <;> kernel_rfl, Below.refl _ _, rfl, nF⟩
   ·intro xs wk40 hBk hdep
    have HBk40 := Lib.hid hBk; have zk40 := hBk.size; clear hBk
    have f6 : (xs 6) = .tuple #[.int .i64 q.num.sign, .int .i64 0] := hdep _ (m_ 6 rfl) (by kernel_rfl)
    clear hdep
    refine wpOp_step (o := _) rfl (fun K hK => ?_)
    simp only [FL]
    go_simp
    refine hK _ _ ⟨.int .i64 0, by simp only [FL, f6] <;> kernel_rfl, Below.refl _ _, rfl, nF⟩
  ·exact all_nil
  ·intro xs wf41 hbf hf hn hd
   have f0 : (xs 0) = .agg #[.bool n, .slice A l c, .bool m, .slice A' l' c'] := hf _ (m_ 0 rfl)
   have f1 : (xs 1) = .agg #[.bool n, .slice A l c, .slice A' l' c'] := hf _ (m_ 1 rfl)
   have f2 : (xs 2) = .agg #[.bool n, .slice A l c] := hf _ (m_ 2 rfl)
   have f3 : (xs 3) = .int .i64 q.num.sign := hf _ (m_ 3 rfl)
   have f4 : (xs 4) = .agg #[.bool n, .slice A l c, .bool m, .slice A' l' c'] := hf _ (m_ 4 rfl)
   have f5 : (xs 5) = .int .i64 0 := hf _ (m_ 5 rfl)
   have f6 : (xs 6) = .tuple #[.int .i64 q.num.sign, .int .i64 0] := hf _ (m_ 6 rfl)
   have f7 : (xs 7) = .int .i64 q.num.sign := hf _ (m_ 7 rfl)
   have f8 : (xs 8) = .int .i64 0 := hf _ (m_ 8 rfl)
   clear hf hn hd
   simp only [FL]
   have B42 := Lib.hid hbf
   have z42 := B42.out.size
   have HB43 := Lib.hid (B0.out.trans (B42.out.mono B0.out.size))
   clear hbf
   generalize xs 0 = x0 at *
   generalize xs 1 = x1 at *
   generalize xs 2 = x2 at *
   generalize xs 3 = x3 at *
   generalize xs 4 = x4 at *
   generalize xs 5 = x5 at *
   generalize xs 6 = x6 at *
   generalize xs 7 = x7 at *
   generalize xs 8 = x8 at *
   obtain rfl := f0
   obtain rfl := f1
   obtain rfl := f2
   obtain rfl := f3
   obtain rfl := f4
   obtain rfl := f5
   obtain rfl := f6
   obtain rfl := f7
   obtain rfl := f8
   refine Early.next (i := 9) (by kernel_rfl) rfl (fun K hK => ?_)
   go_simp
   refine hK _ _ (fun _ => trivial) ?_
   clear hK K
   (try simp only [Act.put, List.setIfInBounds_toArray, List.set_cons_zero, List.set_cons_succ])
   refine Early.next (i := 10) (by kernel_rfl) rfl (fun K hK => ?_)
   go_simp
   refine hK _ _ (fun _ => trivial) ?_
   clear hK K
   (try simp only [Act.put, List.setIfInBounds_toArray, List.set_cons_zero, List.set_cons_succ])
   refine Early.done (by kernel_rfl) ?_ _
   (try simp only [Exit.then])
   go_wp2
   go_ret2
   exact ⟨HB43.out, rfl⟩
end Go.Proofs.YtioclokmbgmamaaGreatDoor
