/- Layer 04: Make, Of, Cmp, Floor (written by gen_ql.py). -/
import Derived.Test.YtioclokmbgmamaaGreatDoorQK
namespace Go.Proofs.YtioclokmbgmamaaGreatDoor
open Go Go.RowKit Dig
theorem divInt_sgn (x : Int) {y : Int} (h : y ≠ 0) : Rat.divInt x y = mkRat (x * y.sign) y.natAbs := by
 rcases Int.lt_or_gt_of_ne h with h1 | h1
 ·rw [Int.sign_eq_neg_one_of_neg h1, Int.mul_neg, Int.mul_one, ← Rat.divInt_ofNat, show ((y.natAbs : Nat) : Int) = -y by omega, Rat.divInt_neg', Int.neg_neg]
 ·rw [Int.sign_eq_one_of_pos h1, Int.mul_one, ← Rat.divInt_ofNat, show ((y.natAbs : Nat) : Int) = y by omega]
noncomputable def mkQ (x y : Int) : Option Rat × Int := if y = 0 then (none, 7) else toldQ (Rat.divInt x y)
theorem dec_sign (y : Int) : decide (y < 0) = decide (y.sign < 0) := by
 rcases Int.lt_trichotomy y 0 with h | h | h
 ·rw [Int.sign_eq_neg_one_of_neg h, decide_eq_true h]; rfl
 ·subst h; rfl
 ·rw [Int.sign_eq_one_of_pos h, decide_eq_false (by omega)]; rfl
set_option maxRecDepth 100000 in
set_option maxHeartbeats 4000000 in
theorem QMake_good (w : World) (va vb : Value) (x y : Int) (ha : LV w w.heap.size va x) (hb : LV w w.heap.size vb y) (lx : (dig x.natAbs).length ≤ 600) (ly : (dig y.natAbs).length ≤ 600) :
  Calls Tryz.prog 47 #[va, vb] w fun e w' => Below w.heap.size w w' ∧ RetQ w' (mkQ x y) e := by
 obtain ⟨t, ht⟩ : ∃ t, t = mkQ x y := ⟨_, rfl⟩; rw [← ht]; have HT := Lib.hid ht; clear ht
 obtain ⟨n, A, l, c, rfl, ha⟩ := ha.opened; obtain ⟨m, B, k, d, rfl, hb⟩ := hb.opened
 have HA := Lib.hid ha; have HB := Lib.hid hb; have HLX := Lib.hid lx; have HLY := Lib.hid ly; clear ha hb lx ly
 obtain ⟨w0, hw0⟩ : ∃ w0 : World, w0 = (((w.alloc (.cells #[.bool n, .slice A l c] 24)).alloc (.cells #[.bool m, .slice B k d] 24)).alloc (.cells #[.bool false, .slice none 0 0, .bool false, .slice none 0 0] 26)) := ⟨_, rfl⟩
 have B0 := Lib.hid (show Below w.heap.size w w0 by rw [hw0]; (repeat' (first | exact Below.refl _ _ | refine Below.drew ?_ | refine Below.alloc ?_ (by first | exact Nat.le_refl _ | (simp; done) | (simp; omega)) _)))
 have z0 : w.heap.size + 3 ≤ w0.heap.size := by rw [hw0]; simp
 have Ln : CB w0 (w.heap.size) 24 #[.bool n, .slice A l c] := by rw [hw0]; have h := ((CB.new w 24 #[.bool n, .slice A l c]).alloc (.cells #[.bool m, .slice B k d] 24)).alloc (.cells #[.bool false, .slice none 0 0, .bool false, .slice none 0 0] 26); simpa using h
 have Ld : CB w0 (w.heap.size + 1) 24 #[.bool m, .slice B k d] := by rw [hw0]; have h := (CB.new (w.alloc (.cells #[.bool n, .slice A l c] 24)) 24 #[.bool m, .slice B k d]).alloc (.cells #[.bool false, .slice none 0 0, .bool false, .slice none 0 0] 26); simpa using h
 have Lr4 : CB w0 (w.heap.size + 2) 26 #[.bool false, .slice none 0 0, .bool false, .slice none 0 0] := by rw [hw0]; have h := CB.new ((w.alloc (.cells #[.bool n, .slice A l c] 24)).alloc (.cells #[.bool m, .slice B k d] 24)) 26 #[.bool false, .slice none 0 0, .bool false, .slice none 0 0]; simpa using h
 replace HA := Lib.hid (LV.step HA.out B0.out); replace HB := Lib.hid (LV.step HB.out B0.out)
 have HSG := Lib.hid (show x * y.sign ≠ 0 → (!(n == m)) = decide (x * y.sign < 0) from fun h => bne_sgn (fun _ => (LV.is HA.out).1) (fun _ => by rw [← dec_sign]; exact (LV.is HB.out).1) h)
 have HDA := Lib.hid (LV.is HA.out).2.2; have HDB := Lib.hid (LV.is HB.out).2.2
 go_enter Tryz.func47, Tryz.ntmps47
 go_upto_region 1 with (fail)
 rw [← hw0]; clear hw0
 have q1_0 := Ln.cell 0 rfl
 have q1_1 := Ln.cell 1 rfl
 have q1_lt := Ln.lt
 have q2_0 := Ld.cell 0 rfl
 have q2_1 := Ld.cell 1 rfl
 have q2_lt := Ld.lt
 go_wp2
 clear q1_0 q1_1 q1_lt q2_0 q2_1 q2_lt
 go_loopw [12] (fun iv wr => ∃ j : Nat, j ≤ 2 ∧ iv = .int .i64 j ∧ Hid (Below w0.heap.size w0 wr)) (fun iv _ => 2 - (intOf iv).toNat)
 case atStart => exact ⟨0, by omega, rfl, Lib.hid (Below.refl _ _)⟩
 case round =>
  obtain ⟨j, hj, rfl, HJ⟩ := hrel
  have zj := HJ.out.size
  have HBJ := Lib.hid (B0.out.trans (HJ.out.mono B0.out.size))
  obtain rfl | rfl | rfl : j = 0 ∨ j = 1 ∨ j = 2 := by omega
  ·rw [show ((0 : Nat) : Int) = 0 from rfl]
   have hidx : ∀ w : World, (Instr.index 142 (.agg #[.bool n, .slice A l c, .bool m, .slice B k d]) (.int .i64 0)).run Tryz.prog w = .ok (.agg #[.bool n, .slice A l c]) w := fun _ => by kernel_rfl
   go_upto_region 4 with (fail)
   clear hidx
   obtain ⟨w3, hW3⟩ : ∃ w3 : World, w3 = (wr.alloc (.cells #[.bool n, .slice A l c] 24)) := ⟨_, rfl⟩; rw [← hW3]
   have hb3 : Below wr.heap.size wr w3 := by rw [hW3]; (repeat' (first | exact Below.refl _ _ | refine Below.drew ?_ | refine Below.alloc ?_ (by first | exact Nat.le_refl _ | (simp; done) | (simp; omega)) _))
   have Le0_3 : CB w3 (wr.heap.size) 24 #[.bool n, .slice A l c] := by rw [hW3]; have h := CB.new wr 24 #[.bool n, .slice A l c]; simpa using h
   have za3 : wr.heap.size + 1 ≤ w3.heap.size := by rw [hW3]; simp
   have B4 := Lib.hid hb3
   have z4 := B4.out.size
   have HB5 := Lib.hid (HBJ.out.trans (B4.out.mono HBJ.out.size))
   clear hb3 hW3
   have q6_0 := Le0_3.cell 0 rfl
   have q6_1 := Le0_3.cell 1 rfl
   have q6_lt := Le0_3.lt
   go_wp2_with fail
   have P1_3_8 := Lib.hid (HJ.out.trans (B4.out.mono HJ.out.size))
   have Ha_9 := Lib.hid (LV.step HA.out P1_3_8.out)
   refine (Check_good (n := decide (x < 0)) (l := ni (dig (x).natAbs)) Ha_9.out (valid_num HLX.out)).mono ?_
   rintro e w7 ⟨hb7, rfl⟩
   have B10 := Lib.hid hb7
   have z10 := B10.out.size
   have HB11 := Lib.hid (HB5.out.trans (B10.out.mono HB5.out.size))
   clear hb7
   clear q6_0 q6_1 q6_lt
   go_wp2
   go_roundw
   have P1_4_12 := Lib.hid (P1_3_8.out.trans (B10.out.mono P1_3_8.out.size))
   case rel => exact ⟨1, by omega, by go_num, Lib.hid P1_4_12.out⟩
   case measure => simp [intOf]
  ·rw [show ((1 : Nat) : Int) = 1 from rfl]
   have hidx : ∀ w : World, (Instr.index 142 (.agg #[.bool n, .slice A l c, .bool m, .slice B k d]) (.int .i64 1)).run Tryz.prog w = .ok (.agg #[.bool m, .slice B k d]) w := fun _ => by kernel_rfl
   go_upto_region 4 with (fail)
   clear hidx
   obtain ⟨w13, hW13⟩ : ∃ w13 : World, w13 = (wr.alloc (.cells #[.bool m, .slice B k d] 24)) := ⟨_, rfl⟩; rw [← hW13]
   have hb13 : Below wr.heap.size wr w13 := by rw [hW13]; (repeat' (first | exact Below.refl _ _ | refine Below.drew ?_ | refine Below.alloc ?_ (by first | exact Nat.le_refl _ | (simp; done) | (simp; omega)) _))
   have Le1_13 : CB w13 (wr.heap.size) 24 #[.bool m, .slice B k d] := by rw [hW13]; have h := CB.new wr 24 #[.bool m, .slice B k d]; simpa using h
   have za13 : wr.heap.size + 1 ≤ w13.heap.size := by rw [hW13]; simp
   have B14 := Lib.hid hb13
   have z14 := B14.out.size
   have HB15 := Lib.hid (HBJ.out.trans (B14.out.mono HBJ.out.size))
   clear hb13 hW13
   have q16_0 := Le1_13.cell 0 rfl
   have q16_1 := Le1_13.cell 1 rfl
   have q16_lt := Le1_13.lt
   go_wp2_with fail
   have P1_3_18 := Lib.hid (HJ.out.trans (B14.out.mono HJ.out.size))
   have Hb_19 := Lib.hid (LV.step HB.out P1_3_18.out)
   refine (Check_good (n := decide (y < 0)) (l := ni (dig (y).natAbs)) Hb_19.out (valid_num HLY.out)).mono ?_
   rintro e w17 ⟨hb17, rfl⟩
   have B20 := Lib.hid hb17
   have z20 := B20.out.size
   have HB21 := Lib.hid (HB15.out.trans (B20.out.mono HB15.out.size))
   clear hb17
   clear q16_0 q16_1 q16_lt
   go_wp2
   go_roundw
   have P1_4_22 := Lib.hid (P1_3_18.out.trans (B20.out.mono P1_3_18.out.size))
   case rel => exact ⟨2, by omega, by go_num, Lib.hid P1_4_22.out⟩
   case measure => simp [intOf]
  ·rw [show ((2 : Nat) : Int) = 2 from rfl]
   by_cases h0 : y = 0
   ·have HT0 := Lib.hid (show t = (none, 7) by rw [HT.out, mkQ, if_pos h0])
    have Hdb_23 := Lib.hid (RN.step HDB.out HJ.out)
    have hk0 : ((k : Int) == 0) = true := by rw [beq_iff_eq, RN.len Hdb_23.out, h0, show (0 : Int).natAbs = 0 from rfl, dig_zero]; rfl
    clear h0
    have Ln_24 := CB.step Ln HJ.out
    have q25_0 := Ln_24.cell 0 rfl
    have q25_1 := Ln_24.cell 1 rfl
    have q25_lt := Ln_24.lt
    have Ld_26 := CB.step Ld HJ.out
    have q27_0 := Ld_26.cell 0 rfl
    have q27_1 := Ld_26.cell 1 rfl
    have q27_lt := Ld_26.lt
    have Lr4_28 := CB.step Lr4 HJ.out
    have q29_0 := Lr4_28.cell 0 rfl
    have q29_1 := Lr4_28.cell 1 rfl
    have q29_2 := Lr4_28.cell 2 rfl
    have q29_3 := Lr4_28.cell 3 rfl
    have q29_lt := Lr4_28.lt
    have q30_0 := Lr4_28.frozen 0
    have q30_1 := Lr4_28.frozen 1
    have q30_2 := Lr4_28.frozen 2
    have q30_3 := Lr4_28.frozen 3
    have q30_lt := Lr4_28.lt
    go_wp2
    exact QB.fin rfl Lr4_28 (by simp [noInt_b, noInt_s]) HBJ.out (by omega) (by rw [HT0.out]; exact zeroQ _ _) rfl (by rw [HT0.out]; rfl)
   ·have HY0 := Lib.hid h0; replace HT := Lib.hid (show t = toldQ (mkRat (x * y.sign) y.natAbs) by rw [HT.out, mkQ, if_neg h0, divInt_sgn _ h0])
    have Hdb_31 := Lib.hid (RN.step HDB.out HJ.out)
    have hk0 : ((k : Int) == 0) = false := by
     rw [beq_eq_false_iff_ne, RN.len Hdb_31.out]; have := dig_len_pos (n := y.natAbs) (by omega); omega
    have hnz : y.natAbs ≠ 0 := by omega
    have HNZ := Lib.hid hnz; have HAB := Lib.hid (show (x * y.sign).natAbs = x.natAbs by rw [Int.natAbs_mul, Int.natAbs_sign_of_ne_zero h0, Nat.mul_one]); clear h0 hnz
    have Hda_32 := Lib.hid (RN.step HDA.out HJ.out)
    have HTV := Lib.hid (show TV wr wr.heap.size (.agg #[.bool (!(n == m)), .slice A l c, .slice B k d]) (x * y.sign) y.natAbs from TV.mk (by rw [HAB.out]; exact Hda_32.out) Hdb_31.out HSG.out)
    have Ln_34 := CB.step Ln HJ.out
    have q35_0 := Ln_34.cell 0 rfl
    have q35_1 := Ln_34.cell 1 rfl
    have q35_lt := Ln_34.lt
    have Ld_36 := CB.step Ld HJ.out
    have q37_0 := Ld_36.cell 0 rfl
    have q37_1 := Ld_36.cell 1 rfl
    have q37_lt := Ld_36.lt
    go_wp2_with fail
    refine (reduced_any _ _ (x * y.sign) y.natAbs HTV.out HNZ.out (by rw [HAB.out]; have := HLX.out; omega) (by have := HLY.out; omega)).mono ?_
    rintro e w33 ⟨hb33, v, rfl, hv⟩
    have B38 := Lib.hid hb33
    have z38 := B38.out.size
    have HB39 := Lib.hid (HBJ.out.trans (B38.out.mono HBJ.out.size))
    clear hb33
    clear q35_0 q35_1 q35_lt q37_0 q37_1 q37_lt
    replace hv : RV w33 w33.heap.size v (mkRat (x * y.sign) y.natAbs) := by unfold RV; rw [(rat_reduced HNZ.out).1, (rat_reduced HNZ.out).2]; exact hv
    obtain ⟨on40, oA40, ol40, oc40, oB40, om_40, od40, rfl, ha40, hb40, hc40⟩ := hv
    have Hrd_40 : Hid (RV w33 w33.heap.size (.agg #[.bool on40, .slice oA40 ol40 oc40, .slice oB40 om_40 od40]) (mkRat (x * y.sign) y.natAbs)) := Lib.hid (TV.mk ha40 hb40 hc40)
    clear ha40 hb40 hc40
    go_wp2_with fail
    refine (ToldR_any _ _ (mkRat (x * y.sign) y.natAbs) Hrd_40.out (QL.mk' (by rw [HAB.out]; have := HLX.out; omega) (by have := HLY.out; omega) HNZ.out)).mono ?_
    rintro e w41 ⟨hb41, v, rfl, hv⟩
    have B42 := Lib.hid hb41
    have z42 := B42.out.size
    have HB43 := Lib.hid (HB39.out.trans (B42.out.mono HB39.out.size))
    clear hb41
    rw [← HT.out] at hv ⊢
    have hg44 := hv; obtain ⟨on44, oA44, ol44, oc44, oe44, oB44, om_44, od44, rfl⟩ := QO.cells hg44; have Hres_44 := Lib.hid hg44; clear hg44
    have P1_3_46 := Lib.hid (HJ.out.trans (B38.out.mono HJ.out.size))
    have P1_4_47 := Lib.hid (P1_3_46.out.trans (B42.out.mono P1_3_46.out.size))
    have Lr4_45 := CB.step Lr4 P1_4_47.out
    have q48_0 := Lr4_45.cell 0 rfl
    have q48_1 := Lr4_45.cell 1 rfl
    have q48_2 := Lr4_45.cell 2 rfl
    have q48_3 := Lr4_45.cell 3 rfl
    have q48_lt := Lr4_45.lt
    have q49_0 := Lr4_45.frozen 0
    have q49_1 := Lr4_45.frozen 1
    have q49_2 := Lr4_45.frozen 2
    have q49_3 := Lr4_45.frozen 3
    have q49_lt := Lr4_45.lt
    go_wp2
    clear q48_0 q48_1 q48_2 q48_3 q48_lt q49_0 q49_1 q49_2 q49_3 q49_lt
    exact QB.fin rfl Lr4_45 (by simp [noInt_b, noInt_s]) HB43.out (by omega) Hres_44.out rfl rfl
theorem fit_i64 {n : Int} (h0 : -9223372036854775808 ≤ n) (h1 : n ≤ 9223372036854775807) : (dig n.natAbs).length ≤ 3 := by rw [dig_len_le]; show n.natAbs < 1000000000000000000000000000; omega
set_option maxRecDepth 100000 in
set_option maxHeartbeats 4000000 in
theorem QOf_any (w : World) (n d : Int) (hn0 : -9223372036854775808 ≤ n) (hn1 : n ≤ 9223372036854775807) (hd0 : -9223372036854775808 ≤ d) (hd1 : d ≤ 9223372036854775807) :
  Calls Tryz.prog 48 #[.int .i64 n, .int .i64 d] w fun e w' => Below w.heap.size w w' ∧ RetQ w' (mkQ n d) e := by
 obtain ⟨t, ht⟩ : ∃ t, t = mkQ n d := ⟨_, rfl⟩; rw [← ht]; have HT := Lib.hid ht; clear ht
 have HN := Lib.hid (And.intro hn0 hn1); have HD := Lib.hid (And.intro hd0 hd1); have FN := Lib.hid (show (dig n.natAbs).length ≤ 600 from Nat.le_trans (fit_i64 hn0 hn1) (by decide)); have FD := Lib.hid (show (dig d.natAbs).length ≤ 600 from Nat.le_trans (fit_i64 hd0 hd1) (by decide)); clear hn0 hn1 hd0 hd1
 obtain ⟨w0, hw0⟩ : ∃ w0 : World, w0 = (w.alloc (.cells #[.bool false, .slice none 0 0, .bool false, .slice none 0 0] 26)) := ⟨_, rfl⟩
 have B0 := Lib.hid (show Below w.heap.size w w0 by rw [hw0]; (repeat' (first | exact Below.refl _ _ | refine Below.drew ?_ | refine Below.alloc ?_ (by first | exact Nat.le_refl _ | (simp; done) | (simp; omega)) _)))
 have z0 : w.heap.size + 1 ≤ w0.heap.size := by rw [hw0]; simp
 have Lr4 : CB w0 (w.heap.size) 26 #[.bool false, .slice none 0 0, .bool false, .slice none 0 0] := by rw [hw0]; have h := CB.new w 26 #[.bool false, .slice none 0 0, .bool false, .slice none 0 0]; simpa using h
 go_enter Tryz.func48, Tryz.ntmps48
 go_upto_region 1 with (fail)
 rw [← hw0]; clear hw0
 go_wp2_with fail
 refine (Of_any _ n HN.out.1 HN.out.2).mono ?_
 rintro e w1 ⟨hb1, v, rfl, hv⟩
 have B2 := Lib.hid hb1
 have z2 := B2.out.size
 have HB3 := Lib.hid (B0.out.trans (B2.out.mono B0.out.size))
 clear hb1
 obtain ⟨n4, Ad4, l4, c4, rfl, hv4⟩ := hv.opened
 have Hn_4 := Lib.hid hv4
 clear hv hv4
 go_wp2_with fail
 refine (Of_any _ d HD.out.1 HD.out.2).mono ?_
 rintro e w5 ⟨hb5, v, rfl, hv⟩
 have B6 := Lib.hid hb5
 have z6 := B6.out.size
 have HB7 := Lib.hid (HB3.out.trans (B6.out.mono HB3.out.size))
 clear hb5
 obtain ⟨n8, Ad8, l8, c8, rfl, hv8⟩ := hv.opened
 have Hd_8 := Lib.hid hv8
 clear hv hv8
 go_wp2_with fail
 have Hn_10 := Lib.hid (LV.step Hn_4.out B6.out)
 refine (QMake_good _ _ _ n d Hn_10.out Hd_8.out FN.out FD.out).mono ?_
 rintro e w9 ⟨hb9, v, rfl, hv⟩
 have B11 := Lib.hid hb9
 have z11 := B11.out.size
 have HB12 := Lib.hid (HB7.out.trans (B11.out.mono HB7.out.size))
 clear hb9
 rw [← HT.out] at hv ⊢
 have hg13 := hv; obtain ⟨on13, oA13, ol13, oc13, oe13, oB13, om_13, od13, rfl⟩ := QO.cells hg13; have Hres_13 := Lib.hid hg13; clear hg13
 have P1_3_15 := Lib.hid (B2.out.trans (B6.out.mono B2.out.size))
 have P1_4_16 := Lib.hid (P1_3_15.out.trans (B11.out.mono P1_3_15.out.size))
 have Lr4_14 := CB.step Lr4 P1_4_16.out
 have q17_0 := Lr4_14.cell 0 rfl
 have q17_1 := Lr4_14.cell 1 rfl
 have q17_2 := Lr4_14.cell 2 rfl
 have q17_3 := Lr4_14.cell 3 rfl
 have q17_lt := Lr4_14.lt
 have q18_0 := Lr4_14.frozen 0
 have q18_1 := Lr4_14.frozen 1
 have q18_2 := Lr4_14.frozen 2
 have q18_3 := Lr4_14.frozen 3
 have q18_lt := Lr4_14.lt
 go_wp2
 clear q17_0 q17_1 q17_2 q17_3 q17_lt q18_0 q18_1 q18_2 q18_3 q18_lt
 exact QB.fin rfl Lr4_14 (by simp [noInt_b, noInt_s]) HB12.out (by omega) Hres_13.out rfl rfl
def cmpR (q r : Rat) : Int := (q.num * (r.den : Int) + -r.num * (q.den : Int)).sign
set_option maxRecDepth 100000 in
set_option maxHeartbeats 4000000 in
theorem QCmp_good (w : World) (va vb : Value) (q r : Rat) (ha : QV w w.heap.size va q) (hb : QV w w.heap.size vb r) (lq : QL 600 600 q) (lr : QL 600 600 r) :
  Calls Tryz.prog 14 #[va, vb] w fun e w' => Below w.heap.size w w' ∧ RetI (cmpR q r, 0) e := by
 obtain ⟨n, A, l, c, m, A', l', c', rfl⟩ := QO.cells (show QO w w.heap.size va (some q) from ha); obtain ⟨n2, B, k, d, m2, B', k', d', rfl⟩ := QO.cells (show QO w w.heap.size vb (some r) from hb)
 have HZ := Lib.hid (show (q.num * (r.den : Int) + -r.num * (q.den : Int)).sign = cmpR q r from rfl)
 have p1 : (dig (q.num * (r.den : Int)).natAbs).length ≤ 1200 := by rw [Int.natAbs_mul, Int.natAbs_natCast]; have := dig_len_mul q.num.natAbs r.den; have := lq.1; have := lr.2; omega
 have p2 : (dig (-r.num * (q.den : Int)).natAbs).length ≤ 1200 := by rw [Int.natAbs_mul, Int.natAbs_neg, Int.natAbs_natCast]; have := dig_len_mul r.num.natAbs q.den; have := lr.1; have := lq.2; omega
 have HP3 := Lib.hid (show (dig (-r.num).natAbs).length ≤ 100000 by rw [Int.natAbs_neg]; have := lr.1; omega)
 have HL := Lib.hid (And.intro p1 (And.intro p2 (And.intro lq.1 (And.intro lq.2 (And.intro lr.1 lr.2))))); clear p1 p2
 have HA := Lib.hid ha; have HB := Lib.hid hb; have HLQ := Lib.hid lq; have HLR := Lib.hid lr; clear ha hb lq lr
 obtain ⟨w0, hw0⟩ : ∃ w0 : World, w0 = ((w.alloc (.cells #[.bool n, .slice A l c, .bool m, .slice A' l' c'] 26)).alloc (.cells #[.bool n2, .slice B k d, .bool m2, .slice B' k' d'] 26)) := ⟨_, rfl⟩
 have B0 := Lib.hid (show Below w.heap.size w w0 by rw [hw0]; (repeat' (first | exact Below.refl _ _ | refine Below.drew ?_ | refine Below.alloc ?_ (by first | exact Nat.le_refl _ | (simp; done) | (simp; omega)) _)))
 have z0 : w.heap.size + 2 ≤ w0.heap.size := by rw [hw0]; simp
 have La : CB w0 (w.heap.size) 26 #[.bool n, .slice A l c, .bool m, .slice A' l' c'] := by rw [hw0]; have h := (CB.new w 26 #[.bool n, .slice A l c, .bool m, .slice A' l' c']).alloc (.cells #[.bool n2, .slice B k d, .bool m2, .slice B' k' d'] 26); simpa using h
 have Lb : CB w0 (w.heap.size + 1) 26 #[.bool n2, .slice B k d, .bool m2, .slice B' k' d'] := by rw [hw0]; have h := CB.new (w.alloc (.cells #[.bool n, .slice A l c, .bool m, .slice A' l' c'] 26)) 26 #[.bool n2, .slice B k d, .bool m2, .slice B' k' d']; simpa using h
 replace HA := Lib.hid (QV.step HA.out B0.out); replace HB := Lib.hid (QV.step HB.out B0.out)
 go_enter Tryz.func14, Tryz.ntmps14
 go_upto_region 1 with (fail)
 rw [← hw0]; clear hw0
 have hQ := QV.is HA.out; have hR := QV.is HB.out
 obtain rfl := hQ.2.2.2; obtain rfl := hR.2.2.2; obtain rfl := hQ.2.2.1; obtain rfl := hR.2.2.1; clear hQ hR
 generalize hnq : decide (q.num < 0) = n at *; generalize hnr : decide (r.num < 0) = n2 at *
 have HNQ := Lib.hid hnq; have HNR := Lib.hid hnr; clear hnq hnr
 have HC := Lib.hid (show allQ (qOf n (ni (dig q.num.natAbs)) false (ni (dig q.den))) (qOf n2 (ni (dig r.num.natAbs)) false (ni (dig r.den))) = 0 by rw [← HNQ.out, ← HNR.out]; exact allQ_yes (qOf_rat q HLQ.out.1 HLQ.out.2) (qOf_rat r HLR.out.1 HLR.out.2))
 have q2_0 := La.cell 0 rfl
 have q2_1 := La.cell 1 rfl
 have q2_2 := La.cell 2 rfl
 have q2_3 := La.cell 3 rfl
 have q2_lt := La.lt
 have q3_0 := Lb.cell 0 rfl
 have q3_1 := Lb.cell 1 rfl
 have q3_2 := Lb.cell 2 rfl
 have q3_3 := Lb.cell 3 rfl
 have q3_lt := Lb.lt
 go_wp2_with fail
 refine (qall_new _ _ n false n2 false A A' B B' l l' k k' c c' d d' (ni (dig q.num.natAbs)) (ni (dig q.den)) (ni (dig r.num.natAbs)) (ni (dig r.den)) 2 rfl (by have h := QV.qr HA.out; rw [HNQ.out] at h; exact h) (by have h := QV.qr HB.out; rw [HNR.out] at h; exact h)).mono ?_
 rintro e w1 ⟨hb1, rfl⟩
 have B4 := Lib.hid hb1
 have z4 := B4.out.size
 have HB5 := Lib.hid (B0.out.trans (B4.out.mono B0.out.size))
 clear hb1
 clear q2_0 q2_1 q2_2 q2_3 q2_lt q3_0 q3_1 q3_2 q3_3 q3_lt
 rw [HC.out]; clear HC
 go_upto_region 4 with (fail)
 refine Flow.run [⟨0, 17, fun fv fw => fv = .agg #[.bool n, .slice A l c, .bool false, .slice A' l' c']⟩, ⟨1, 18, fun fv fw => fv = .agg #[.bool n, .slice A l c, .slice A' l' c']⟩, ⟨2, 19, fun fv fw => fv = .agg #[.bool n2, .slice B k d, .bool false, .slice B' k' d']⟩, ⟨3, 20, fun fv fw => fv = .agg #[.bool n2, .slice B k d, .slice B' k' d']⟩, ⟨4, 7, fun fv fw => ∃ b, fv = .pointer (some ⟨b, 0, none⟩) ∧ CB fw b 95 #[.bool false, .slice none 0 0, .slice none 0 0]⟩, ⟨5, 8, fun fv fw => ∃ b, fv = .pointer (some ⟨b, 0, none⟩) ∧ CB fw b 95 #[.bool false, .slice none 0 0, .slice none 0 0]⟩] [] [4, 5] 2 (by kernel_rfl) (by kernel_rfl) (by kernel_rfl) (fun _ _ _ _ _ h => h) ?_ ?_ ?_ ?_
 ·refine (all_cons (fun v w1 w2 h hb => h) (all_cons (fun v w1 w2 h hb => h) (all_cons (fun v w1 w2 h hb => h) (all_cons (fun v w1 w2 h hb => h) (all_cons (fun v w1 w2 h hb => let ⟨b, e, h⟩ := h; ⟨b, e, h.step hb⟩) (all_cons (fun v w1 w2 h hb => let ⟨b, e, h⟩ := h; ⟨b, e, h.step hb⟩) all_nil))))))
 ·refine (all_cons ?_ (all_cons ?_ (all_cons ?_ (all_cons ?_ (all_cons ?_ (all_cons ?_ all_nil))))))
  ·intro xs wk6 hBk hdep
   have HBk6 := Lib.hid hBk; have zk6 := hBk.size; clear hBk
   clear hdep
   refine wpOp_step (o := _) rfl (fun K hK => ?_)
   simp only [FL]
   have P1_3_8 := Lib.hid (B4.out.trans (HBk6.out.mono B4.out.size))
   have La_7 := CB.step La P1_3_8.out
   have q9_0 := La_7.cell 0 rfl
   have q9_1 := La_7.cell 1 rfl
   have q9_2 := La_7.cell 2 rfl
   have q9_3 := La_7.cell 3 rfl
   go_simp
   refine hK _ _ ⟨.agg #[.bool n, .slice A l c, .bool false, .slice A' l' c'], by kernel_rfl, Below.refl _ _, rfl, nF⟩
  ·intro xs wk10 hBk hdep
   have HBk10 := Lib.hid hBk; have zk10 := hBk.size; clear hBk
   have f0 : (xs 0) = .agg #[.bool n, .slice A l c, .bool false, .slice A' l' c'] := hdep _ (m_ 0 rfl) (by kernel_rfl)
   clear hdep
   refine wpOp_step (o := _) rfl (fun K hK => ?_)
   simp only [FL]
   go_simp
   (with_reducible refine (Read_any _ n false A A' l c l' c').mono ?_)
   rintro e wc11 ⟨hb11, rfl⟩
   refine hK _ _ ⟨.agg #[.bool n, .slice A l c, .slice A' l' c'], by simp only [FL, f0] <;> kernel_rfl, hb11, rfl, nF⟩
  ·intro xs wk12 hBk hdep
   have HBk12 := Lib.hid hBk; have zk12 := hBk.size; clear hBk
   clear hdep
   refine wpOp_step (o := _) rfl (fun K hK => ?_)
   simp only [FL]
   have P1_3_14 := Lib.hid (B4.out.trans (HBk12.out.mono B4.out.size))
   have Lb_13 := CB.step Lb P1_3_14.out
   have q15_0 := Lb_13.cell 0 rfl
   have q15_1 := Lb_13.cell 1 rfl
   have q15_2 := Lb_13.cell 2 rfl
   have q15_3 := Lb_13.cell 3 rfl
   go_simp
   refine hK _ _ ⟨.agg #[.bool n2, .slice B k d, .bool false, .slice B' k' d'], by kernel_rfl, Below.refl _ _, rfl, nF⟩
  ·intro xs wk16 hBk hdep
   have HBk16 := Lib.hid hBk; have zk16 := hBk.size; clear hBk
   have f2 : (xs 2) = .agg #[.bool n2, .slice B k d, .bool false, .slice B' k' d'] := hdep _ (m_ 2 rfl) (by kernel_rfl)
   clear hdep
   refine wpOp_step (o := _) rfl (fun K hK => ?_)
   simp only [FL]
   go_simp
   (with_reducible refine (Read_any _ n2 false B B' k d k' d').mono ?_)
   rintro e wc17 ⟨hb17, rfl⟩
   refine hK _ _ ⟨.agg #[.bool n2, .slice B k d, .slice B' k' d'], by simp only [FL, f2] <;> kernel_rfl, hb17, rfl, nF⟩
  ·intro xs wk18 hBk hdep
   have HBk18 := Lib.hid hBk; have zk18 := hBk.size; clear hBk
   clear hdep
   refine wpOp_step (o := _) rfl (fun K hK => ?_)
   simp only [FL]
   go_simp
   refine hK _ _ ⟨.pointer (some ⟨wk18.heap.size, 0, none⟩), by kernel_rfl, (Below.refl _ _).alloc (Nat.le_refl _) _, ⟨_, rfl, CB.new _ _ _⟩, fun _ => ⟨_, rfl, Nat.le_refl _, by simp⟩⟩
  ·intro xs wk19 hBk hdep
   have HBk19 := Lib.hid hBk; have zk19 := hBk.size; clear hBk
   clear hdep
   refine wpOp_step (o := _) rfl (fun K hK => ?_)
   simp only [FL]
   go_simp
   refine hK _ _ ⟨.pointer (some ⟨wk19.heap.size, 0, none⟩), by kernel_rfl, (Below.refl _ _).alloc (Nat.le_refl _) _, ⟨_, rfl, CB.new _ _ _⟩, fun _ => ⟨_, rfl, Nat.le_refl _, by simp⟩⟩
 ·exact all_nil
 ·intro xs wf20 hbf hf hn hd
  have f0 : (xs 0) = .agg #[.bool n, .slice A l c, .bool false, .slice A' l' c'] := hf _ (m_ 0 rfl)
  have f1 : (xs 1) = .agg #[.bool n, .slice A l c, .slice A' l' c'] := hf _ (m_ 1 rfl)
  have f2 : (xs 2) = .agg #[.bool n2, .slice B k d, .bool false, .slice B' k' d'] := hf _ (m_ 2 rfl)
  have f3 : (xs 3) = .agg #[.bool n2, .slice B k d, .slice B' k' d'] := hf _ (m_ 3 rfl)
  have f4 : ∃ b, (xs 4) = .pointer (some ⟨b, 0, none⟩) ∧ CB wf20 b 95 #[.bool false, .slice none 0 0, .slice none 0 0] := hf _ (m_ 4 rfl)
  have f5 : ∃ b, (xs 5) = .pointer (some ⟨b, 0, none⟩) ∧ CB wf20 b 95 #[.bool false, .slice none 0 0, .slice none 0 0] := hf _ (m_ 5 rfl)
  have n4 := hn 4 (by decide)
  have n5 := hn 5 (by decide)
  have ne4_5 := hd 4 (by decide) 5 (by decide) (by decide)
  have ne5_4 := hd 5 (by decide) 4 (by decide) (by decide)
  clear hf hn hd
  simp only [FL]
  have B21 := Lib.hid hbf
  have z21 := B21.out.size
  have HB22 := Lib.hid (HB5.out.trans (B21.out.mono HB5.out.size))
  clear hbf
  generalize xs 0 = x0 at *
  generalize xs 1 = x1 at *
  generalize xs 2 = x2 at *
  generalize xs 3 = x3 at *
  generalize xs 4 = x4 at *
  generalize xs 5 = x5 at *
  obtain rfl := f0
  obtain rfl := f1
  obtain rfl := f2
  obtain rfl := f3
  obtain ⟨bn23_r, rfl, Ln24_r⟩ := f4
  have hge_bn23_r := Lib.hid (show w1.heap.size ≤ bn23_r by obtain ⟨b', e, h, -⟩ := n4; injection e with e; injection e with e; injection e with e _ _; omega)
  clear n4
  have hgb_bn23_r := Ln24_r.lt; have hgc_bn23_r := hge_bn23_r.out
  obtain ⟨bn25_s, rfl, Ln26_s⟩ := f5
  have hge_bn25_s := Lib.hid (show w1.heap.size ≤ bn25_s by obtain ⟨b', e, h, -⟩ := n5; injection e with e; injection e with e; injection e with e _ _; omega)
  clear n5
  have hgb_bn25_s := Ln26_s.lt; have hgc_bn25_s := hge_bn25_s.out
  have hne4_5 := Lib.hid (show bn23_r ≠ bn25_s from fun e => ne4_5 (by rw [e]))
  have hne5_4 := Lib.hid (show bn25_s ≠ bn23_r from fun e => ne5_4 (by rw [e]))
  clear ne4_5
  clear ne5_4
  have q27_0 := Ln24_r.cell 0 rfl
  have q27_1 := Ln24_r.cell 1 rfl
  have q27_2 := Ln24_r.cell 2 rfl
  have q27_lt := Ln24_r.lt
  have q28_0 := Ln24_r.frozen 0
  have q28_1 := Ln24_r.frozen 1
  have q28_2 := Ln24_r.frozen 2
  have q28_lt := Ln24_r.lt
  refine Early.next (i := 6) (by kernel_rfl) rfl (fun K hK => ?_)
  go_simp
  refine hK _ _ (fun _ => trivial) ?_
  clear hK K
  (try simp only [Act.put, List.setIfInBounds_toArray, List.set_cons_zero, List.set_cons_succ])
  clear q27_0 q27_1 q27_2 q27_lt q28_0 q28_1 q28_2 q28_lt
  have P1_3_30 := Lib.hid (B4.out.trans (B21.out.mono B4.out.size))
  have La_29 := CB.step La P1_3_30.out
  have Lb_31 := CB.step Lb P1_3_30.out
  obtain ⟨w32, hW32⟩ : ∃ w32 : World, w32 = (((wf20.setCell ⟨bn23_r, 0, none⟩ (.bool n)).setCell ⟨bn23_r, 1, none⟩ (.slice A l c)).setCell ⟨bn23_r, 2, none⟩ (.slice A' l' c')) := ⟨_, rfl⟩
  rw [← hW32]
  have S32 := Lib.hid (show Soft wf20 w32 by rw [hW32]; exact ((CB.soft1 (Ln24_r) (by simp [noInt_b, noInt_s]) 0 (.bool n)).trans (CB.soft1 ((show CB _ (bn23_r) 95 #[.bool n, .slice none 0 0, .slice none 0 0] from CB.set (Ln24_r) 0 (.bool n))) (by simp [noInt_b, noInt_s]) 1 (.slice A l c))).trans (CB.soft1 ((show CB _ (bn23_r) 95 #[.bool n, .slice A l c, .slice none 0 0] from CB.set ((show CB _ (bn23_r) 95 #[.bool n, .slice none 0 0, .slice none 0 0] from CB.set (Ln24_r) 0 (.bool n))) 1 (.slice A l c))) (by simp [noInt_b, noInt_s]) 2 (.slice A' l' c')))
  have La_32 : CB w32 (w.heap.size) 26 #[.bool n, .slice A l c, .bool false, .slice A' l' c'] := by rw [hW32]; exact CB.far (p := ⟨bn23_r, 2, none⟩) (CB.far (p := ⟨bn23_r, 1, none⟩) (CB.far (p := ⟨bn23_r, 0, none⟩) (La_29) (show w.heap.size ≠ bn23_r from by omega) _) (show w.heap.size ≠ bn23_r from by omega) _) (show w.heap.size ≠ bn23_r from by omega) _
  have Lb_32 : CB w32 (w.heap.size + 1) 26 #[.bool n2, .slice B k d, .bool false, .slice B' k' d'] := by rw [hW32]; exact CB.far (p := ⟨bn23_r, 2, none⟩) (CB.far (p := ⟨bn23_r, 1, none⟩) (CB.far (p := ⟨bn23_r, 0, none⟩) (Lb_31) (show w.heap.size + 1 ≠ bn23_r from by omega) _) (show w.heap.size + 1 ≠ bn23_r from by omega) _) (show w.heap.size + 1 ≠ bn23_r from by omega) _
  have Ls_32 : CB w32 (bn25_s) 95 #[.bool false, .slice none 0 0, .slice none 0 0] := by rw [hW32]; exact CB.far (p := ⟨bn23_r, 2, none⟩) (CB.far (p := ⟨bn23_r, 1, none⟩) (CB.far (p := ⟨bn23_r, 0, none⟩) (Ln26_s) (show bn25_s ≠ bn23_r from (by have h := hne5_4.out; exact h)) _) (show bn25_s ≠ bn23_r from (by have h := hne5_4.out; exact h)) _) (show bn25_s ≠ bn23_r from (by have h := hne5_4.out; exact h)) _
  have Lr_32 : CB w32 (bn23_r) 95 #[.bool n, .slice A l c, .slice A' l' c'] := by rw [hW32]; exact (show CB _ (bn23_r) 95 #[.bool n, .slice A l c, .slice A' l' c'] from CB.set ((show CB _ (bn23_r) 95 #[.bool n, .slice A l c, .slice none 0 0] from CB.set ((show CB _ (bn23_r) 95 #[.bool n, .slice none 0 0, .slice none 0 0] from CB.set (Ln24_r) 0 (.bool n))) 1 (.slice A l c))) 2 (.slice A' l' c'))
  have HBP32 := Lib.hid (show Below w.heap.size w w32 by rw [hW32]; exact below_set1 (below_set1 (below_set1 (HB22.out) (by omega) _ _) (by omega) _ _) (by omega) _ _)
  have zw32 : w32.heap.size = wf20.heap.size := by rw [hW32]; simp [World.setCell]
  clear hW32
  have q33_0 := Ls_32.cell 0 rfl
  have q33_1 := Ls_32.cell 1 rfl
  have q33_2 := Ls_32.cell 2 rfl
  have q33_lt := Ls_32.lt
  have q34_0 := Ls_32.frozen 0
  have q34_1 := Ls_32.frozen 1
  have q34_2 := Ls_32.frozen 2
  have q34_lt := Ls_32.lt
  refine Early.next (i := 7) (by kernel_rfl) rfl (fun K hK => ?_)
  go_simp
  refine hK _ _ (fun _ => trivial) ?_
  clear hK K
  (try simp only [Act.put, List.setIfInBounds_toArray, List.set_cons_zero, List.set_cons_succ])
  clear q33_0 q33_1 q33_2 q33_lt q34_0 q34_1 q34_2 q34_lt
  obtain ⟨w35, hW35⟩ : ∃ w35 : World, w35 = (((w32.setCell ⟨bn25_s, 0, none⟩ (.bool n2)).setCell ⟨bn25_s, 1, none⟩ (.slice B k d)).setCell ⟨bn25_s, 2, none⟩ (.slice B' k' d')) := ⟨_, rfl⟩
  rw [← hW35]
  have S35 := Lib.hid (show Soft w32 w35 by rw [hW35]; exact ((CB.soft1 (Ls_32) (by simp [noInt_b, noInt_s]) 0 (.bool n2)).trans (CB.soft1 ((show CB _ (bn25_s) 95 #[.bool n2, .slice none 0 0, .slice none 0 0] from CB.set (Ls_32) 0 (.bool n2))) (by simp [noInt_b, noInt_s]) 1 (.slice B k d))).trans (CB.soft1 ((show CB _ (bn25_s) 95 #[.bool n2, .slice B k d, .slice none 0 0] from CB.set ((show CB _ (bn25_s) 95 #[.bool n2, .slice none 0 0, .slice none 0 0] from CB.set (Ls_32) 0 (.bool n2))) 1 (.slice B k d))) (by simp [noInt_b, noInt_s]) 2 (.slice B' k' d')))
  have La_35 : CB w35 (w.heap.size) 26 #[.bool n, .slice A l c, .bool false, .slice A' l' c'] := by rw [hW35]; exact CB.far (p := ⟨bn25_s, 2, none⟩) (CB.far (p := ⟨bn25_s, 1, none⟩) (CB.far (p := ⟨bn25_s, 0, none⟩) (La_32) (show w.heap.size ≠ bn25_s from by omega) _) (show w.heap.size ≠ bn25_s from by omega) _) (show w.heap.size ≠ bn25_s from by omega) _
  have Lb_35 : CB w35 (w.heap.size + 1) 26 #[.bool n2, .slice B k d, .bool false, .slice B' k' d'] := by rw [hW35]; exact CB.far (p := ⟨bn25_s, 2, none⟩) (CB.far (p := ⟨bn25_s, 1, none⟩) (CB.far (p := ⟨bn25_s, 0, none⟩) (Lb_32) (show w.heap.size + 1 ≠ bn25_s from by omega) _) (show w.heap.size + 1 ≠ bn25_s from by omega) _) (show w.heap.size + 1 ≠ bn25_s from by omega) _
  have Lr_35 : CB w35 (bn23_r) 95 #[.bool n, .slice A l c, .slice A' l' c'] := by rw [hW35]; exact CB.far (p := ⟨bn25_s, 2, none⟩) (CB.far (p := ⟨bn25_s, 1, none⟩) (CB.far (p := ⟨bn25_s, 0, none⟩) (Lr_32) (show bn23_r ≠ bn25_s from (by have h := hne4_5.out; exact h)) _) (show bn23_r ≠ bn25_s from (by have h := hne4_5.out; exact h)) _) (show bn23_r ≠ bn25_s from (by have h := hne4_5.out; exact h)) _
  have Ls_35 : CB w35 (bn25_s) 95 #[.bool n2, .slice B k d, .slice B' k' d'] := by rw [hW35]; exact (show CB _ (bn25_s) 95 #[.bool n2, .slice B k d, .slice B' k' d'] from CB.set ((show CB _ (bn25_s) 95 #[.bool n2, .slice B k d, .slice none 0 0] from CB.set ((show CB _ (bn25_s) 95 #[.bool n2, .slice none 0 0, .slice none 0 0] from CB.set (Ls_32) 0 (.bool n2))) 1 (.slice B k d))) 2 (.slice B' k' d'))
  have HBP35 := Lib.hid (show Below w.heap.size w w35 by rw [hW35]; exact below_set1 (below_set1 (below_set1 (HBP32.out) (by omega) _ _) (by omega) _ _) (by omega) _ _)
  have zw35 : w35.heap.size = w32.heap.size := by rw [hW35]; simp [World.setCell]
  clear hW35
  refine Early.done (by kernel_rfl) ?_ _
  (try simp only [Exit.then])
  have q36_0 := Ls_35.cell 0 rfl
  have q36_1 := Ls_35.cell 1 rfl
  have q36_2 := Ls_35.cell 2 rfl
  have q36_lt := Ls_35.lt
  have q37_0 := Ls_35.frozen 0
  have q37_1 := Ls_35.frozen 1
  have q37_2 := Ls_35.frozen 2
  have q37_lt := Ls_35.lt
  go_upto_region 6 with (fail)
  clear q36_0 q36_1 q36_2 q36_lt q37_0 q37_1 q37_2 q37_lt
  obtain ⟨w38, hW38⟩ : ∃ w38 : World, w38 = (w35.setCell ⟨bn25_s, 0, none⟩ (.bool (!n2))) := ⟨_, rfl⟩
  rw [← hW38]
  have S38 := Lib.hid (show Soft w35 w38 by rw [hW38]; exact CB.soft1 (Ls_35) (by simp [noInt_b, noInt_s]) 0 (.bool (!n2)))
  have La_38 : CB w38 (w.heap.size) 26 #[.bool n, .slice A l c, .bool false, .slice A' l' c'] := by rw [hW38]; exact CB.far (p := ⟨bn25_s, 0, none⟩) (La_35) (show w.heap.size ≠ bn25_s from by omega) _
  have Lb_38 : CB w38 (w.heap.size + 1) 26 #[.bool n2, .slice B k d, .bool false, .slice B' k' d'] := by rw [hW38]; exact CB.far (p := ⟨bn25_s, 0, none⟩) (Lb_35) (show w.heap.size + 1 ≠ bn25_s from by omega) _
  have Lr_38 : CB w38 (bn23_r) 95 #[.bool n, .slice A l c, .slice A' l' c'] := by rw [hW38]; exact CB.far (p := ⟨bn25_s, 0, none⟩) (Lr_35) (show bn23_r ≠ bn25_s from (by have h := hne4_5.out; exact h)) _
  have Ls_38 : CB w38 (bn25_s) 95 #[.bool (!n2), .slice B k d, .slice B' k' d'] := by rw [hW38]; exact (show CB _ (bn25_s) 95 #[.bool (!n2), .slice B k d, .slice B' k' d'] from CB.set (Ls_35) 0 (.bool (!n2)))
  have HBP38 := Lib.hid (show Below w.heap.size w w38 by rw [hW38]; exact below_set1 (HBP35.out) (by omega) _ _)
  have zw38 : w38.heap.size = w35.heap.size := by rw [hW38]; simp [World.setCell]
  clear hW38
  have Ha_39 := Lib.hid (QV.soft HA.out (((((Soft.of B4.out).trans (Soft.of B21.out)).trans (S32.out)).trans (S35.out)).trans (S38.out)))
  have Hb_40 := Lib.hid (QV.soft HB.out (((((Soft.of B4.out).trans (Soft.of B21.out)).trans (S32.out)).trans (S35.out)).trans (S38.out)))
  have HR1 := Lib.hid (QV.read Ha_39.out); have HR2 := Lib.hid (RV.neg (QV.read Hb_40.out))
  have HW1 := Lib.hid (TV.fst HR1.out); have HD1 := Lib.hid (TV.is HR1.out).2.1; have HW2 := Lib.hid (show WV w38 w38.heap.size (.agg #[.bool (!n2), .slice B k d]) (-r.num) from by have h := TV.fst HR2.out; rw [Rat.neg_num] at h; exact h); have HD2 := Lib.hid (show RN w38 w38.heap.size (.slice B' k' d') (dig r.den) from by have h := (TV.is HR2.out).2.1; rw [Rat.neg_den] at h; exact h)
  refine Flow.run [⟨0, 27, fun fv fw => fv = .pointer (some ⟨bn23_r, 0, none⟩)⟩, ⟨1, 28, fun fv fw => fv = .agg #[.bool n, .slice A l c]⟩, ⟨2, 29, fun fv fw => fv = .pointer (some ⟨bn25_s, 2, none⟩)⟩, ⟨3, 30, fun fv fw => fv = .slice B' k' d'⟩, ⟨4, 31, fun fv fw => WV fw fw.heap.size fv (q.num * (r.den : Int))⟩, ⟨5, 32, fun fv fw => fv = .pointer (some ⟨bn25_s, 0, none⟩)⟩, ⟨6, 33, fun fv fw => fv = .agg #[.bool (!n2), .slice B k d]⟩, ⟨7, 34, fun fv fw => fv = .pointer (some ⟨bn23_r, 2, none⟩)⟩, ⟨8, 35, fun fv fw => fv = .slice A' l' c'⟩, ⟨9, 36, fun fv fw => WV fw fw.heap.size fv (-r.num * (q.den : Int))⟩, ⟨10, 37, fun fv fw => WV fw fw.heap.size fv (q.num * (r.den : Int) + -r.num * (q.den : Int))⟩, ⟨11, 9, fun fv fw => ∃ b, fv = .pointer (some ⟨b, 0, none⟩) ∧ CB fw b 93 #[.bool false, .slice none 0 0]⟩] [] [11] 1 (by kernel_rfl) (by kernel_rfl) (by kernel_rfl) (fun _ _ _ _ _ h => h) ?_ ?_ ?_ ?_
  ·refine (all_cons (fun v w1 w2 h hb => h) (all_cons (fun v w1 w2 h hb => h) (all_cons (fun v w1 w2 h hb => h) (all_cons (fun v w1 w2 h hb => h) (all_cons (fun v w1 w2 h hb => h.step hb) (all_cons (fun v w1 w2 h hb => h) (all_cons (fun v w1 w2 h hb => h) (all_cons (fun v w1 w2 h hb => h) (all_cons (fun v w1 w2 h hb => h) (all_cons (fun v w1 w2 h hb => h.step hb) (all_cons (fun v w1 w2 h hb => h.step hb) (all_cons (fun v w1 w2 h hb => let ⟨b, e, h⟩ := h; ⟨b, e, h.step hb⟩) all_nil))))))))))))
  ·refine (all_cons ?_ (all_cons ?_ (all_cons ?_ (all_cons ?_ (all_cons ?_ (all_cons ?_ (all_cons ?_ (all_cons ?_ (all_cons ?_ (all_cons ?_ (all_cons ?_ (all_cons ?_ all_nil))))))))))))
   ·intro xs wk41 hBk hdep
    have HBk41 := Lib.hid hBk; have zk41 := hBk.size; clear hBk
    clear hdep
    refine wpOp_step (o := _) rfl (fun K hK => ?_)
    simp only [FL]
    go_simp
    refine hK _ _ ⟨.pointer (some ⟨bn23_r, 0, none⟩), by kernel_rfl, Below.refl _ _, rfl, nF⟩
   ·intro xs wk42 hBk hdep
    have HBk42 := Lib.hid hBk; have zk42 := hBk.size; clear hBk
    have f0 : (xs 0) = .pointer (some ⟨bn23_r, 0, none⟩) := hdep _ (m_ 0 rfl) (by kernel_rfl)
    clear hdep
    refine wpOp_step (o := _) rfl (fun K hK => ?_)
    simp only [FL]
    have Lr_43 := CB.step Lr_38 HBk42.out
    have q44_0 := Lr_43.cell 0 rfl
    have q44_1 := Lr_43.cell 1 rfl
    go_simp
    refine hK _ _ ⟨.agg #[.bool n, .slice A l c], by simp only [FL, f0] <;> kernel_rfl, Below.refl _ _, rfl, nF⟩
   ·intro xs wk45 hBk hdep
    have HBk45 := Lib.hid hBk; have zk45 := hBk.size; clear hBk
    clear hdep
    refine wpOp_step (o := _) rfl (fun K hK => ?_)
    simp only [FL]
    go_simp
    refine hK _ _ ⟨.pointer (some ⟨bn25_s, 2, none⟩), by kernel_rfl, Below.refl _ _, rfl, nF⟩
   ·intro xs wk46 hBk hdep
    have HBk46 := Lib.hid hBk; have zk46 := hBk.size; clear hBk
    have f2 : (xs 2) = .pointer (some ⟨bn25_s, 2, none⟩) := hdep _ (m_ 2 rfl) (by kernel_rfl)
    clear hdep
    refine wpOp_step (o := _) rfl (fun K hK => ?_)
    simp only [FL]
    have Ls_47 := CB.step Ls_38 HBk46.out
    have q48_2 := Ls_47.cell 2 rfl
    go_simp
    refine hK _ _ ⟨.slice B' k' d', by simp only [FL, f2] <;> kernel_rfl, Below.refl _ _, rfl, nF⟩
   ·intro xs wk49 hBk hdep
    have HBk49 := Lib.hid hBk; have zk49 := hBk.size; clear hBk
    have f1 : (xs 1) = .agg #[.bool n, .slice A l c] := hdep _ (m_ 1 rfl) (by kernel_rfl)
    have f3 : (xs 3) = .slice B' k' d' := hdep _ (m_ 3 rfl) (by kernel_rfl)
    clear hdep
    refine wpOp_step (o := _) rfl (fun K hK => ?_)
    simp only [FL]
    go_simp
    have Hw1_50 := Lib.hid (WV.step HW1.out HBk49.out)
    have Hd2_51 := Lib.hid (RN.step HD2.out HBk49.out)
    (with_reducible refine (wtimes_any _ _ _ q.num r.den Hw1_50.out Hd2_51.out (by have := HL.out; omega) (by have := HL.out; omega)).mono ?_)
    rintro e wc52 ⟨hb52, v52, rfl, hv52⟩
    refine hK _ _ ⟨v52, by simp only [FL, f1, f3] <;> kernel_rfl, hb52, hv52, nF⟩
   ·intro xs wk53 hBk hdep
    have HBk53 := Lib.hid hBk; have zk53 := hBk.size; clear hBk
    clear hdep
    refine wpOp_step (o := _) rfl (fun K hK => ?_)
    simp only [FL]
    go_simp
    refine hK _ _ ⟨.pointer (some ⟨bn25_s, 0, none⟩), by kernel_rfl, Below.refl _ _, rfl, nF⟩
   ·intro xs wk54 hBk hdep
    have HBk54 := Lib.hid hBk; have zk54 := hBk.size; clear hBk
    have f5 : (xs 5) = .pointer (some ⟨bn25_s, 0, none⟩) := hdep _ (m_ 5 rfl) (by kernel_rfl)
    clear hdep
    refine wpOp_step (o := _) rfl (fun K hK => ?_)
    simp only [FL]
    have Ls_55 := CB.step Ls_38 HBk54.out
    have q56_0 := Ls_55.cell 0 rfl
    have q56_1 := Ls_55.cell 1 rfl
    go_simp
    refine hK _ _ ⟨.agg #[.bool (!n2), .slice B k d], by simp only [FL, f5] <;> kernel_rfl, Below.refl _ _, rfl, nF⟩
   ·intro xs wk57 hBk hdep
    have HBk57 := Lib.hid hBk; have zk57 := hBk.size; clear hBk
    clear hdep
    refine wpOp_step (o := _) rfl (fun K hK => ?_)
    simp only [FL]
    go_simp
    refine hK _ _ ⟨.pointer (some ⟨bn23_r, 2, none⟩), by kernel_rfl, Below.refl _ _, rfl, nF⟩
   ·intro xs wk58 hBk hdep
    have HBk58 := Lib.hid hBk; have zk58 := hBk.size; clear hBk
    have f7 : (xs 7) = .pointer (some ⟨bn23_r, 2, none⟩) := hdep _ (m_ 7 rfl) (by kernel_rfl)
    clear hdep
    refine wpOp_step (o := _) rfl (fun K hK => ?_)
    simp only [FL]
    have Lr_59 := CB.step Lr_38 HBk58.out
    have q60_2 := Lr_59.cell 2 rfl
    go_simp
    refine hK _ _ ⟨.slice A' l' c', by simp only [FL, f7] <;> kernel_rfl, Below.refl _ _, rfl, nF⟩
   ·intro xs wk61 hBk hdep
    have HBk61 := Lib.hid hBk; have zk61 := hBk.size; clear hBk
    have f6 : (xs 6) = .agg #[.bool (!n2), .slice B k d] := hdep _ (m_ 6 rfl) (by kernel_rfl)
    have f8 : (xs 8) = .slice A' l' c' := hdep _ (m_ 8 rfl) (by kernel_rfl)
    clear hdep
    refine wpOp_step (o := _) rfl (fun K hK => ?_)
    simp only [FL]
    go_simp
    have Hw2_62 := Lib.hid (WV.step HW2.out HBk61.out)
    have Hd1_63 := Lib.hid (RN.step HD1.out HBk61.out)
    (with_reducible refine (wtimes_any _ _ _ (-r.num) q.den Hw2_62.out Hd1_63.out HP3.out (by have := HL.out; omega)).mono ?_)
    rintro e wc64 ⟨hb64, v64, rfl, hv64⟩
    refine hK _ _ ⟨v64, by simp only [FL, f6, f8] <;> kernel_rfl, hb64, hv64, nF⟩
   ·intro xs wk65 hBk hdep
    have HBk65 := Lib.hid hBk; have zk65 := hBk.size; clear hBk
    have f4 : WV wk65 wk65.heap.size (xs 4) (q.num * (r.den : Int)) := hdep _ (m_ 4 rfl) (by kernel_rfl)
    have f9 : WV wk65 wk65.heap.size (xs 9) (-r.num * (q.den : Int)) := hdep _ (m_ 9 rfl) (by kernel_rfl)
    clear hdep
    refine wpOp_step (o := _) rfl (fun K hK => ?_)
    simp only [FL]
    go_simp
    (with_reducible refine (wplus_any _ _ _ (q.num * (r.den : Int)) (-r.num * (q.den : Int)) f4 f9 (by have := HL.out; omega) (by have := HL.out; omega)).mono ?_)
    rintro e wc66 ⟨hb66, v66, rfl, hv66⟩
    refine hK _ _ ⟨v66, by kernel_rfl, hb66, hv66, nF⟩
   ·intro xs wk67 hBk hdep
    have HBk67 := Lib.hid hBk; have zk67 := hBk.size; clear hBk
    clear hdep
    refine wpOp_step (o := _) rfl (fun K hK => ?_)
    simp only [FL]
    go_simp
    refine hK _ _ ⟨.pointer (some ⟨wk67.heap.size, 0, none⟩), by kernel_rfl, (Below.refl _ _).alloc (Nat.le_refl _) _, ⟨_, rfl, CB.new _ _ _⟩, fun _ => ⟨_, rfl, Nat.le_refl _, by simp⟩⟩
  ·exact all_nil
  ·intro xs wf68 hbf hf hn hd
   have f0 : (xs 0) = .pointer (some ⟨bn23_r, 0, none⟩) := hf _ (m_ 0 rfl)
   have f1 : (xs 1) = .agg #[.bool n, .slice A l c] := hf _ (m_ 1 rfl)
   have f2 : (xs 2) = .pointer (some ⟨bn25_s, 2, none⟩) := hf _ (m_ 2 rfl)
   have f3 : (xs 3) = .slice B' k' d' := hf _ (m_ 3 rfl)
   have f4 : WV wf68 wf68.heap.size (xs 4) (q.num * (r.den : Int)) := hf _ (m_ 4 rfl)
   have f5 : (xs 5) = .pointer (some ⟨bn25_s, 0, none⟩) := hf _ (m_ 5 rfl)
   have f6 : (xs 6) = .agg #[.bool (!n2), .slice B k d] := hf _ (m_ 6 rfl)
   have f7 : (xs 7) = .pointer (some ⟨bn23_r, 2, none⟩) := hf _ (m_ 7 rfl)
   have f8 : (xs 8) = .slice A' l' c' := hf _ (m_ 8 rfl)
   have f9 : WV wf68 wf68.heap.size (xs 9) (-r.num * (q.den : Int)) := hf _ (m_ 9 rfl)
   have f10 : WV wf68 wf68.heap.size (xs 10) (q.num * (r.den : Int) + -r.num * (q.den : Int)) := hf _ (m_ 10 rfl)
   have f11 : ∃ b, (xs 11) = .pointer (some ⟨b, 0, none⟩) ∧ CB wf68 b 93 #[.bool false, .slice none 0 0] := hf _ (m_ 11 rfl)
   have n11 := hn 11 (by decide)
   clear hf hn hd
   simp only [FL]
   have B69 := Lib.hid hbf
   have z69 := B69.out.size
   have HB70 := Lib.hid (HBP38.out.trans (B69.out.mono HBP38.out.size))
   clear hbf
   generalize xs 0 = x0 at *
   generalize xs 1 = x1 at *
   generalize xs 2 = x2 at *
   generalize xs 3 = x3 at *
   generalize xs 4 = x4 at *
   generalize xs 5 = x5 at *
   generalize xs 6 = x6 at *
   generalize xs 7 = x7 at *
   generalize xs 8 = x8 at *
   generalize xs 9 = x9 at *
   generalize xs 10 = x10 at *
   generalize xs 11 = x11 at *
   obtain rfl := f0
   obtain rfl := f1
   obtain rfl := f2
   obtain rfl := f3
   clear f4
   obtain rfl := f5
   obtain rfl := f6
   obtain rfl := f7
   obtain rfl := f8
   clear f9
   obtain ⟨on71, oA71, ol71, oc71, rfl, ha71, hb71⟩ := f10
   have Hsum_71 := Lib.hid (WV.mk ha71 hb71)
   clear ha71 hb71
   obtain ⟨bn72_n, rfl, Ln73_n⟩ := f11
   have hge_bn72_n := Lib.hid (show w38.heap.size ≤ bn72_n by obtain ⟨b', e, h, -⟩ := n11; injection e with e; injection e with e; injection e with e _ _; omega)
   clear n11
   have hgb_bn72_n := Ln73_n.lt; have hgc_bn72_n := hge_bn72_n.out
   have q74_0 := Ln73_n.cell 0 rfl
   have q74_1 := Ln73_n.cell 1 rfl
   have q74_lt := Ln73_n.lt
   have q75_0 := Ln73_n.frozen 0
   have q75_1 := Ln73_n.frozen 1
   have q75_lt := Ln73_n.lt
   refine Early.next (i := 12) (by kernel_rfl) rfl (fun K hK => ?_)
   go_simp
   refine hK _ _ (fun _ => trivial) ?_
   clear hK K
   (try simp only [Act.put, List.setIfInBounds_toArray, List.set_cons_zero, List.set_cons_succ])
   clear q74_0 q74_1 q74_lt q75_0 q75_1 q75_lt
   refine Early.done (by kernel_rfl) ?_ _
   (try simp only [Exit.then])
   obtain ⟨w76, hW76⟩ : ∃ w76 : World, w76 = ((wf68.setCell ⟨bn72_n, 0, none⟩ (.bool on71)).setCell ⟨bn72_n, 1, none⟩ (.slice oA71 ol71 oc71)) := ⟨_, rfl⟩
   rw [← hW76]
   have S76 := Lib.hid (show Soft wf68 w76 by rw [hW76]; exact (CB.soft1 (Ln73_n) (by simp [noInt_b, noInt_s]) 0 (.bool on71)).trans (CB.soft1 ((show CB _ (bn72_n) 93 #[.bool on71, .slice none 0 0] from CB.set (Ln73_n) 0 (.bool on71))) (by simp [noInt_b, noInt_s]) 1 (.slice oA71 ol71 oc71)))
   have Ln_76 : CB w76 (bn72_n) 93 #[.bool on71, .slice oA71 ol71 oc71] := by rw [hW76]; exact (show CB _ (bn72_n) 93 #[.bool on71, .slice oA71 ol71 oc71] from CB.set ((show CB _ (bn72_n) 93 #[.bool on71, .slice none 0 0] from CB.set (Ln73_n) 0 (.bool on71))) 1 (.slice oA71 ol71 oc71))
   have HBP76 := Lib.hid (show Below w.heap.size w w76 by rw [hW76]; exact below_set1 (below_set1 (HB70.out) (by omega) _ _) (by omega) _ _)
   have zw76 : w76.heap.size = wf68.heap.size := by rw [hW76]; simp [World.setCell]
   clear hW76
   have q78_0 := Ln_76.cell 0 rfl
   have q78_1 := Ln_76.cell 1 rfl
   have q78_lt := Ln_76.lt
   go_wp2_with fail
   have Hsum_79 := Lib.hid (WV.soft Hsum_71.out (S76.out))
   refine (wSign_any _ _ _ Hsum_79.out).mono ?_
   rintro e w77 ⟨hb77, rfl⟩
   have B80 := Lib.hid hb77
   have z80 := B80.out.size
   have HB81 := Lib.hid (HBP76.out.trans (B80.out.mono HBP76.out.size))
   clear hb77
   clear q78_0 q78_1 q78_lt
   rw [HZ.out]
   go_wp2
   go_ret2
   exact ⟨HB81.out, rfl⟩
theorem toldQ_whole (z : Int) : toldQ (mkRat z 1) = if (dig z.natAbs).length ≤ 600 then (some (mkRat z 1), 0) else (none, 6) := by
 obtain ⟨h1, h2⟩ := mkRat_low (x := z) (y := 1) (by decide) (Nat.gcd_one_right _)
 unfold toldQ
 by_cases h : (dig z.natAbs).length ≤ 600
 ·rw [if_pos (show fitQ (mkRat z 1) from ⟨by rw [h1]; exact h, by rw [h2, dig1]; decide⟩), if_pos h]
 ·rw [if_neg (fun k : fitQ (mkRat z 1) => h (by have k1 := k.1; rw [h1] at k1; exact k1)), if_neg h]
theorem floor_len (z : Int) {d : Nat} (hd : d ≠ 0) : (dig (z / (d : Int)).natAbs).length ≤ (dig z.natAbs).length + 2 := by
 have h : (z / (d : Int)).natAbs ≤ z.natAbs + 1 := by
  have h0 := Nat.div_le_self z.natAbs d
  by_cases hr : z.natAbs % d = 0
  ·rw [(floor_exact hr).1]; omega
  ·by_cases hz : 0 ≤ z
   ·rw [(floor_up hz).1]; omega
   ·rw [(floor_down hd (by omega) hr).1, Int.natAbs_neg, Int.natAbs_natCast]; omega
 exact Nat.le_trans (dig_len_mono h) (dig_len_add _ _ (Nat.le_succ _) (by rw [dig1]; simp))
set_option maxRecDepth 100000 in
set_option maxHeartbeats 4000000 in
theorem QFloor_good (w : World) (va : Value) (q : Rat) (ha : QV w w.heap.size va q) (lq : QL 600 600 q) :
  Calls Tryz.prog 18 #[va] w fun e w' => Below w.heap.size w w' ∧ RetL w' (toldZ (q.num / (q.den : Int))) e := by
 obtain ⟨z, hz⟩ : ∃ z, z = q.num / (q.den : Int) := ⟨_, rfl⟩; rw [← hz]; have HZ := Lib.hid hz
 have HL := Lib.hid (show (dig z.natAbs).length ≤ 602 by rw [hz]; have := floor_len q.num q.den_nz; have := lq.1; omega); clear hz
 obtain ⟨n, A, l, c, m, A', l', c', rfl⟩ := QO.cells (show QO w w.heap.size va (some q) from ha)
 obtain rfl := (QV.is ha).2.2.2
 have HA := Lib.hid ha; have HLQ := Lib.hid lq; clear ha lq
 obtain ⟨w0, hw0⟩ : ∃ w0 : World, w0 = ((w.alloc (.cells #[.bool n, .slice A l c, .bool false, .slice A' l' c'] 26)).alloc (.cells #[.bool false, .slice none 0 0] 24)) := ⟨_, rfl⟩
 have B0 := Lib.hid (show Below w.heap.size w w0 by rw [hw0]; (repeat' (first | exact Below.refl _ _ | refine Below.drew ?_ | refine Below.alloc ?_ (by first | exact Nat.le_refl _ | (simp; done) | (simp; omega)) _)))
 have z0 : w.heap.size + 2 ≤ w0.heap.size := by rw [hw0]; simp
 have La : CB w0 (w.heap.size) 26 #[.bool n, .slice A l c, .bool false, .slice A' l' c'] := by rw [hw0]; have h := (CB.new w 26 #[.bool n, .slice A l c, .bool false, .slice A' l' c']).alloc (.cells #[.bool false, .slice none 0 0] 24); simpa using h
 have Lr2 : CB w0 (w.heap.size + 1) 24 #[.bool false, .slice none 0 0] := by rw [hw0]; have h := CB.new (w.alloc (.cells #[.bool n, .slice A l c, .bool false, .slice A' l' c'] 26)) 24 #[.bool false, .slice none 0 0]; simpa using h
 replace HA := Lib.hid (QV.step HA.out B0.out)
 go_enter Tryz.func18, Tryz.ntmps18
 go_upto_region 1 with (fail)
 rw [← hw0]; clear hw0
 have q2_0 := La.cell 0 rfl
 have q2_1 := La.cell 1 rfl
 have q2_2 := La.cell 2 rfl
 have q2_3 := La.cell 3 rfl
 have q2_lt := La.lt
 go_wp2_with fail
 refine (QCheck_good HA.out HLQ.out).mono ?_
 rintro e w1 ⟨hb1, rfl⟩
 have B3 := Lib.hid hb1
 have z3 := B3.out.size
 have HB4 := Lib.hid (B0.out.trans (B3.out.mono B0.out.size))
 clear hb1
 clear q2_0 q2_1 q2_2 q2_3 q2_lt
 have La_6 := CB.step La B3.out
 have q7_0 := La_6.cell 0 rfl
 have q7_1 := La_6.cell 1 rfl
 have q7_2 := La_6.cell 2 rfl
 have q7_3 := La_6.cell 3 rfl
 have q7_lt := La_6.lt
 go_wp2_with fail
 refine (Read_any _ n false A A' l c l' c').mono ?_
 rintro e w5 ⟨hb5, rfl⟩
 have B8 := Lib.hid hb5
 have z8 := B8.out.size
 have HB9 := Lib.hid (HB4.out.trans (B8.out.mono HB4.out.size))
 clear hb5
 clear q7_0 q7_1 q7_2 q7_3 q7_lt
 go_wp2_with fail
 have P1_3_11 := Lib.hid (B3.out.trans (B8.out.mono B3.out.size))
 have Ha_12 := Lib.hid (QV.step HA.out P1_3_11.out)
 refine (floor_any _ _ q.num q.den (QV.read Ha_12.out) q.den_nz (by have := HLQ.out.1; omega)).mono ?_
 rintro e w10 ⟨hb10, v, rfl, hv⟩
 have B13 := Lib.hid hb10
 have z13 := B13.out.size
 have HB14 := Lib.hid (HB9.out.trans (B13.out.mono HB9.out.size))
 clear hb10
 rw [← HZ.out] at hv
 obtain ⟨on15, oA15, ol15, oc15, rfl, ha15, hb15⟩ := hv
 have Hf_15 := Lib.hid (WV.mk ha15 hb15)
 clear ha15 hb15
 generalize decide (q.num % (q.den : Int) ≠ 0) = bit
 go_upto_region 5 with (fail)
 obtain ⟨w16, hW16⟩ : ∃ w16 : World, w16 = (w10.alloc (.cells #[.bool on15, .slice oA15 ol15 oc15] 93)) := ⟨_, rfl⟩; rw [← hW16]
 have hb16 : Below w10.heap.size w10 w16 := by rw [hW16]; (repeat' (first | exact Below.refl _ _ | refine Below.drew ?_ | refine Below.alloc ?_ (by first | exact Nat.le_refl _ | (simp; done) | (simp; omega)) _))
 have Ln_16 : CB w16 (w10.heap.size) 93 #[.bool on15, .slice oA15 ol15 oc15] := by rw [hW16]; have h := CB.new w10 93 #[.bool on15, .slice oA15 ol15 oc15]; simpa using h
 have za16 : w10.heap.size + 1 ≤ w16.heap.size := by rw [hW16]; simp
 have B17 := Lib.hid hb16
 have z17 := B17.out.size
 have HB18 := Lib.hid (HB14.out.trans (B17.out.mono HB14.out.size))
 clear hb16 hW16
 have Hf_19 := Lib.hid (WV.step Hf_15.out B17.out)
 have HWN := Lib.hid (WV.is Hf_19.out)
 have HN1 := Lib.hid HWN.out.1
 obtain ⟨t, ht⟩ : ∃ t, t = toldQ (mkRat z 1) := ⟨_, rfl⟩; have HT := Lib.hid ht; clear ht
 refine Flow.run [⟨0, 22, fun fv fw => fv = .agg #[.bool on15, .slice oA15 ol15 oc15]⟩, ⟨1, 23, fun fv fw => RN fw fw.heap.size fv (dig 1)⟩, ⟨2, 24, fun fv fw => TV fw fw.heap.size fv z 1⟩, ⟨3, 25, fun fv fw => ∃ u, fv = .tuple #[u, .int .i64 t.2] ∧ QO fw fw.heap.size u t.1⟩, ⟨4, 21, fun fv fw => ∃ u, fv = .tuple #[u, .int .i64 t.2] ∧ QO fw fw.heap.size u t.1⟩, ⟨5, 26, fun fv fw => QO fw fw.heap.size fv t.1⟩, ⟨7, 7, fun fv fw => ∃ b, fv = .pointer (some ⟨b, 0, none⟩) ∧ CB fw b 26 #[.bool false, .slice none 0 0, .bool false, .slice none 0 0]⟩] [⟨6, 27, fun fv fw => fv = .int .i64 t.2⟩] [7] 2 (by kernel_rfl) (by kernel_rfl) (by kernel_rfl) (fun _ _ _ _ _ h => h) ?_ ?_ ?_ ?_
 ·refine (all_cons (fun v w1 w2 h hb => h) (all_cons (fun v w1 w2 h hb => h.step hb) (all_cons (fun v w1 w2 h hb => h.step hb) (all_cons (fun v w1 w2 h hb => let ⟨u, e, h⟩ := h; ⟨u, e, QO.step (o := t.1) h hb⟩) (all_cons (fun v w1 w2 h hb => let ⟨u, e, h⟩ := h; ⟨u, e, QO.step (o := t.1) h hb⟩) (all_cons (fun v w1 w2 h hb => QO.step (o := t.1) h hb) (all_cons (fun v w1 w2 h hb => let ⟨b, e, h⟩ := h; ⟨b, e, h.step hb⟩) (all_cons (fun v w1 w2 h hb => h) all_nil))))))))
 ·refine (all_cons ?_ (all_cons ?_ (all_cons ?_ (all_cons ?_ (all_cons ?_ (all_cons ?_ (all_cons ?_ all_nil)))))))
  ·intro xs wk20 hBk hdep
   have HBk20 := Lib.hid hBk; have zk20 := hBk.size; clear hBk
   clear hdep
   refine wpOp_step (o := _) rfl (fun K hK => ?_)
   simp only [FL]
   have Ln_21 := CB.step Ln_16 HBk20.out
   have q22_0 := Ln_21.cell 0 rfl
   have q22_1 := Ln_21.cell 1 rfl
   go_simp
   refine hK _ _ ⟨.agg #[.bool on15, .slice oA15 ol15 oc15], by kernel_rfl, Below.refl _ _, rfl, nF⟩
  ·intro xs wk23 hBk hdep
   have HBk23 := Lib.hid hBk; have zk23 := hBk.size; clear hBk
   clear hdep
   refine wpOp_step (o := _) rfl (fun K hK => ?_)
   simp only [FL]
   go_simp
   (with_reducible refine (one_any _).mono ?_)
   rintro e wc24 ⟨hb24, v24, rfl, hv24⟩
   refine hK _ _ ⟨v24, by kernel_rfl, hb24, hv24, nF⟩
  ·intro xs wk25 hBk hdep
   have HBk25 := Lib.hid hBk; have zk25 := hBk.size; clear hBk
   have f0 : (xs 0) = .agg #[.bool on15, .slice oA15 ol15 oc15] := hdep _ (m_ 0 rfl) (by kernel_rfl)
   have f1 : RN wk25 wk25.heap.size (xs 1) (dig 1) := hdep _ (m_ 1 rfl) (by kernel_rfl)
   clear hdep
   refine wpOp_step (o := _) rfl (fun K hK => ?_)
   simp only [FL]
   obtain ⟨A1, c1, hx1, -⟩ := RN.cell f1; have r1 := f1; rw [hx1] at r1 ⊢
   have Hn1_26 := Lib.hid (RN.step HN1.out HBk25.out)
   go_simp
   refine hK _ _ ⟨.agg #[.bool on15, .slice oA15 ol15 oc15, .slice A1 (dig 1).length c1], by simp only [FL, f0, hx1] <;> kernel_rfl, Below.refl _ _, TV.mk Hn1_26.out r1 HWN.out.2, nF⟩
  ·intro xs wk27 hBk hdep
   have HBk27 := Lib.hid hBk; have zk27 := hBk.size; clear hBk
   have f2 : TV wk27 wk27.heap.size (xs 2) z 1 := hdep _ (m_ 2 rfl) (by kernel_rfl)
   clear hdep
   refine wpOp_step (o := _) rfl (fun K hK => ?_)
   simp only [FL]
   go_simp
   (with_reducible refine ((show Calls Tryz.prog _ _ _ _ from HT.out ▸ Told_any _ _ z 1 f2 (by decide) (Nat.gcd_one_right _) (by have := HL.out; omega) (by rw [dig1]; decide))).mono ?_)
   rintro e wc28 ⟨hb28, v28, rfl, hv28⟩
   refine hK _ _ ⟨.tuple #[v28, .int .i64 t.2], by kernel_rfl, hb28, ⟨v28, rfl, hv28⟩, nF⟩
  ·intro xs wk29 hBk hdep
   have HBk29 := Lib.hid hBk; have zk29 := hBk.size; clear hBk
   have f3 : ∃ u, (xs 3) = .tuple #[u, .int .i64 t.2] ∧ QO wk29 wk29.heap.size u t.1 := hdep _ (m_ 3 rfl) (by kernel_rfl)
   clear hdep
   refine wpOp_step (o := _) rfl (fun K hK => ?_)
   simp only [FL]
   obtain ⟨u, hu, hl⟩ := f3; rw [hu]
   go_simp
   refine hK _ _ ⟨.tuple #[u, .int .i64 t.2], by simp only [FL, hu] <;> kernel_rfl, Below.refl _ _, ⟨u, rfl, hl⟩, nF⟩
  ·intro xs wk30 hBk hdep
   have HBk30 := Lib.hid hBk; have zk30 := hBk.size; clear hBk
   have f4 : ∃ u, (xs 4) = .tuple #[u, .int .i64 t.2] ∧ QO wk30 wk30.heap.size u t.1 := hdep _ (m_ 4 rfl) (by kernel_rfl)
   clear hdep
   refine wpOp_step (o := _) rfl (fun K hK => ?_)
   simp only [FL]
   obtain ⟨u, hu, hl⟩ := f4; rw [hu]
   go_simp
   refine hK _ _ ⟨u, by simp only [FL, hu] <;> kernel_rfl, Below.refl _ _, hl, nF⟩
  ·intro xs wk31 hBk hdep
   have HBk31 := Lib.hid hBk; have zk31 := hBk.size; clear hBk
   clear hdep
   refine wpOp_step (o := _) rfl (fun K hK => ?_)
   simp only [FL]
   go_simp
   refine hK _ _ ⟨.pointer (some ⟨wk31.heap.size, 0, none⟩), by kernel_rfl, (Below.refl _ _).alloc (Nat.le_refl _) _, ⟨_, rfl, CB.new _ _ _⟩, fun _ => ⟨_, rfl, Nat.le_refl _, by simp⟩⟩
 ·refine (all_cons ?_ all_nil)
  ·intro xs wk32 hBk hdep
   have HBk32 := Lib.hid hBk; have zk32 := hBk.size; clear hBk
   have f4 : ∃ u, (xs 4) = .tuple #[u, .int .i64 t.2] ∧ QO wk32 wk32.heap.size u t.1 := hdep _ (m_ 4 rfl) (by kernel_rfl)
   clear hdep
   obtain ⟨u, hu, -⟩ := f4
   refine ⟨_, .int .i64 t.2, rfl, Or.inl ⟨by rfl, fun w => ?_⟩, rfl⟩
   simp only [FL]
   rw [hu]
   go_simp
 ·intro xs wf33 hbf hf hn hd
  have f0 : (xs 0) = .agg #[.bool on15, .slice oA15 ol15 oc15] := hf _ (m_ 0 rfl)
  have f1 : RN wf33 wf33.heap.size (xs 1) (dig 1) := hf _ (m_ 1 rfl)
  have f2 : TV wf33 wf33.heap.size (xs 2) z 1 := hf _ (m_ 2 rfl)
  have f3 : ∃ u, (xs 3) = .tuple #[u, .int .i64 t.2] ∧ QO wf33 wf33.heap.size u t.1 := hf _ (m_ 3 rfl)
  have f4 : ∃ u, (xs 4) = .tuple #[u, .int .i64 t.2] ∧ QO wf33 wf33.heap.size u t.1 := hf _ (m_ 4 rfl)
  have f5 : QO wf33 wf33.heap.size (xs 5) t.1 := hf _ (m_ 5 rfl)
  have f7 : ∃ b, (xs 7) = .pointer (some ⟨b, 0, none⟩) ∧ CB wf33 b 26 #[.bool false, .slice none 0 0, .bool false, .slice none 0 0] := hf _ (m_ 6 rfl)
  have f6 : (xs 6) = .int .i64 t.2 := hf _ (m_ 7 rfl)
  have n7 := hn 7 (by decide)
  clear hf hn hd
  simp only [FL]
  have B34 := Lib.hid hbf
  have z34 := B34.out.size
  have HB35 := Lib.hid (HB18.out.trans (B34.out.mono HB18.out.size))
  clear hbf
  generalize xs 0 = x0 at *
  generalize xs 1 = x1 at *
  generalize xs 2 = x2 at *
  generalize xs 3 = x3 at *
  generalize xs 4 = x4 at *
  generalize xs 5 = x5 at *
  generalize xs 7 = x7 at *
  generalize xs 6 = x6 at *
  obtain rfl := f0
  clear f1
  clear f2
  clear f3
  clear f4
  have hg36 := f5; obtain ⟨on36, oA36, ol36, oc36, oe36, oB36, om_36, od36, rfl⟩ := QO.cells hg36; have Hq_36 := Lib.hid hg36; clear hg36
  obtain ⟨bn37_q, rfl, Ln38_q⟩ := f7
  have hge_bn37_q := Lib.hid (show w16.heap.size ≤ bn37_q by obtain ⟨b', e, h, -⟩ := n7; injection e with e; injection e with e; injection e with e _ _; omega)
  clear n7
  have hgb_bn37_q := Ln38_q.lt; have hgc_bn37_q := hge_bn37_q.out
  obtain rfl := f6
  have q39_0 := Ln38_q.cell 0 rfl
  have q39_1 := Ln38_q.cell 1 rfl
  have q39_2 := Ln38_q.cell 2 rfl
  have q39_3 := Ln38_q.cell 3 rfl
  have q39_lt := Ln38_q.lt
  have q40_0 := Ln38_q.frozen 0
  have q40_1 := Ln38_q.frozen 1
  have q40_2 := Ln38_q.frozen 2
  have q40_3 := Ln38_q.frozen 3
  have q40_lt := Ln38_q.lt
  refine Early.next (i := 8) (by kernel_rfl) rfl (fun K hK => ?_)
  go_simp
  refine hK _ _ (fun _ => trivial) ?_
  clear hK K
  (try simp only [Act.put, List.setIfInBounds_toArray, List.set_cons_zero, List.set_cons_succ])
  clear q39_0 q39_1 q39_2 q39_3 q39_lt q40_0 q40_1 q40_2 q40_3 q40_lt
  refine Early.next (i := 9) (by kernel_rfl) rfl (fun K hK => ?_)
  go_simp
  refine hK _ _ (fun _ => trivial) ?_
  clear hK K
  (try simp only [Act.put, List.setIfInBounds_toArray, List.set_cons_zero, List.set_cons_succ])
  refine Early.done (by kernel_rfl) ?_ _
  (try simp only [Exit.then])
  have P2_4_42 := Lib.hid (B8.out.trans (B13.out.mono B8.out.size))
  have P2_5_43 := Lib.hid (P2_4_42.out.trans (B17.out.mono P2_4_42.out.size))
  have P2_6_44 := Lib.hid (P2_5_43.out.trans (B34.out.mono P2_5_43.out.size))
  have La_41 := CB.step La_6 P2_6_44.out
  have P1_4_46 := Lib.hid (P1_3_11.out.trans (B13.out.mono P1_3_11.out.size))
  have P1_5_47 := Lib.hid (P1_4_46.out.trans (B17.out.mono P1_4_46.out.size))
  have P1_6_48 := Lib.hid (P1_5_47.out.trans (B34.out.mono P1_5_47.out.size))
  have Lr2_45 := CB.step Lr2 P1_6_48.out
  obtain ⟨w49, hW49⟩ : ∃ w49 : World, w49 = ((((wf33.setCell ⟨bn37_q, 0, none⟩ (.bool on36)).setCell ⟨bn37_q, 1, none⟩ (.slice oA36 ol36 oc36)).setCell ⟨bn37_q, 2, none⟩ (.bool oe36)).setCell ⟨bn37_q, 3, none⟩ (.slice oB36 om_36 od36)) := ⟨_, rfl⟩
  rw [← hW49]
  have S49 := Lib.hid (show Soft wf33 w49 by rw [hW49]; exact (((CB.soft1 (Ln38_q) (by simp [noInt_b, noInt_s]) 0 (.bool on36)).trans (CB.soft1 ((show CB _ (bn37_q) 26 #[.bool on36, .slice none 0 0, .bool false, .slice none 0 0] from CB.set (Ln38_q) 0 (.bool on36))) (by simp [noInt_b, noInt_s]) 1 (.slice oA36 ol36 oc36))).trans (CB.soft1 ((show CB _ (bn37_q) 26 #[.bool on36, .slice oA36 ol36 oc36, .bool false, .slice none 0 0] from CB.set ((show CB _ (bn37_q) 26 #[.bool on36, .slice none 0 0, .bool false, .slice none 0 0] from CB.set (Ln38_q) 0 (.bool on36))) 1 (.slice oA36 ol36 oc36))) (by simp [noInt_b, noInt_s]) 2 (.bool oe36))).trans (CB.soft1 ((show CB _ (bn37_q) 26 #[.bool on36, .slice oA36 ol36 oc36, .bool oe36, .slice none 0 0] from CB.set ((show CB _ (bn37_q) 26 #[.bool on36, .slice oA36 ol36 oc36, .bool false, .slice none 0 0] from CB.set ((show CB _ (bn37_q) 26 #[.bool on36, .slice none 0 0, .bool false, .slice none 0 0] from CB.set (Ln38_q) 0 (.bool on36))) 1 (.slice oA36 ol36 oc36))) 2 (.bool oe36))) (by simp [noInt_b, noInt_s]) 3 (.slice oB36 om_36 od36)))
  have La_49 : CB w49 (w.heap.size) 26 #[.bool n, .slice A l c, .bool false, .slice A' l' c'] := by rw [hW49]; exact CB.far (p := ⟨bn37_q, 3, none⟩) (CB.far (p := ⟨bn37_q, 2, none⟩) (CB.far (p := ⟨bn37_q, 1, none⟩) (CB.far (p := ⟨bn37_q, 0, none⟩) (La_41) (show w.heap.size ≠ bn37_q from by omega) _) (show w.heap.size ≠ bn37_q from by omega) _) (show w.heap.size ≠ bn37_q from by omega) _) (show w.heap.size ≠ bn37_q from by omega) _
  have Lr2_49 : CB w49 (w.heap.size + 1) 24 #[.bool false, .slice none 0 0] := by rw [hW49]; exact CB.far (p := ⟨bn37_q, 3, none⟩) (CB.far (p := ⟨bn37_q, 2, none⟩) (CB.far (p := ⟨bn37_q, 1, none⟩) (CB.far (p := ⟨bn37_q, 0, none⟩) (Lr2_45) (show w.heap.size + 1 ≠ bn37_q from by omega) _) (show w.heap.size + 1 ≠ bn37_q from by omega) _) (show w.heap.size + 1 ≠ bn37_q from by omega) _) (show w.heap.size + 1 ≠ bn37_q from by omega) _
  have Lq_49 : CB w49 (bn37_q) 26 #[.bool on36, .slice oA36 ol36 oc36, .bool oe36, .slice oB36 om_36 od36] := by rw [hW49]; exact (show CB _ (bn37_q) 26 #[.bool on36, .slice oA36 ol36 oc36, .bool oe36, .slice oB36 om_36 od36] from CB.set ((show CB _ (bn37_q) 26 #[.bool on36, .slice oA36 ol36 oc36, .bool oe36, .slice none 0 0] from CB.set ((show CB _ (bn37_q) 26 #[.bool on36, .slice oA36 ol36 oc36, .bool false, .slice none 0 0] from CB.set ((show CB _ (bn37_q) 26 #[.bool on36, .slice none 0 0, .bool false, .slice none 0 0] from CB.set (Ln38_q) 0 (.bool on36))) 1 (.slice oA36 ol36 oc36))) 2 (.bool oe36))) 3 (.slice oB36 om_36 od36))
  have HBP49 := Lib.hid (show Below w.heap.size w w49 by rw [hW49]; exact below_set1 (below_set1 (below_set1 (below_set1 (HB35.out) (by omega) _ _) (by omega) _ _) (by omega) _ _) (by omega) _ _)
  have zw49 : w49.heap.size = wf33.heap.size := by rw [hW49]; simp [World.setCell]
  clear hW49
  by_cases hfit : (dig z.natAbs).length ≤ 600
  ·have HTT := Lib.hid (show t = (some (mkRat z 1), 0) by rw [HT.out, toldQ_whole, if_pos hfit]); have HTZ := Lib.hid (show toldZ z = (z, 0) from if_pos hfit); clear hfit
   have Hq_50 := Lib.hid (QO.soft Hq_36.out (S49.out))
   have HLV := Lib.hid (show LV w49 w49.heap.size (.agg #[.bool on36, .slice oA36 ol36 oc36]) z from by have h : QO _ _ _ t.1 := Hq_50.out; rw [HTT.out] at h; have h1 := QV.fst (show QV _ _ _ (mkRat z 1) from h); rw [(mkRat_low (x := z) (y := 1) (by decide) (Nat.gcd_one_right _)).1] at h1; exact h1)
   rw [show t.2 = 0 by rw [HTT.out]]
   have q52_0 := Lq_49.cell 0 rfl
   have q52_1 := Lq_49.cell 1 rfl
   have q52_2 := Lq_49.cell 2 rfl
   have q52_3 := Lq_49.cell 3 rfl
   have q52_lt := Lq_49.lt
   go_wp2_with fail
   refine (madeG_yes _ on36 oA36 ol36 oc36).mono ?_
   rintro e w51 ⟨hb51, rfl⟩
   have B53 := Lib.hid hb51
   have z53 := B53.out.size
   have HB54 := Lib.hid (HBP49.out.trans (B53.out.mono HBP49.out.size))
   clear hb51
   clear q52_0 q52_1 q52_2 q52_3 q52_lt
   have Lr2_55 := CB.step Lr2_49 B53.out
   have q56_0 := Lr2_55.cell 0 rfl
   have q56_1 := Lr2_55.cell 1 rfl
   have q56_lt := Lr2_55.lt
   have q57_0 := Lr2_55.frozen 0
   have q57_1 := Lr2_55.frozen 1
   have q57_lt := Lr2_55.lt
   go_wp2
   clear q56_0 q56_1 q56_lt q57_0 q57_1 q57_lt
   obtain ⟨w58, hW58⟩ : ∃ w58 : World, w58 = ((w51.setCell ⟨w.heap.size + 1, 0, none⟩ (.bool on36)).setCell ⟨w.heap.size + 1, 1, none⟩ (.slice oA36 ol36 oc36)) := ⟨_, rfl⟩
   rw [← hW58]
   have S58 := Lib.hid (show Soft w51 w58 by rw [hW58]; exact (CB.soft1 (Lr2_55) (by simp [noInt_b, noInt_s]) 0 (.bool on36)).trans (CB.soft1 ((show CB _ (w.heap.size + 1) 24 #[.bool on36, .slice none 0 0] from CB.set (Lr2_55) 0 (.bool on36))) (by simp [noInt_b, noInt_s]) 1 (.slice oA36 ol36 oc36)))
   have Lr2_58 : CB w58 (w.heap.size + 1) 24 #[.bool on36, .slice oA36 ol36 oc36] := by rw [hW58]; exact (show CB _ (w.heap.size + 1) 24 #[.bool on36, .slice oA36 ol36 oc36] from CB.set ((show CB _ (w.heap.size + 1) 24 #[.bool on36, .slice none 0 0] from CB.set (Lr2_55) 0 (.bool on36))) 1 (.slice oA36 ol36 oc36))
   have HBP58 := Lib.hid (show Below w.heap.size w w58 by rw [hW58]; exact below_set1 (below_set1 (HB54.out) (by omega) _ _) (by omega) _ _)
   have zw58 : w58.heap.size = w51.heap.size := by rw [hW58]; simp [World.setCell]
   clear hW58
   have Hlv_59 := Lib.hid (LV.soft HLV.out ((Soft.of B53.out).trans (S58.out)))
   exact bodyPost_ret (GB.ret rfl _ Lr2_58 rfl) rfl ⟨HBP58.out, _, by rw [HTZ.out]; rfl, by rw [HTZ.out]; exact Hlv_59.out⟩
  ·have HTT := Lib.hid (show t = (none, 6) by rw [HT.out, toldQ_whole, if_neg hfit]); have HTZ := Lib.hid (show toldZ z = (0, 6) from if_neg hfit); clear hfit
   rw [show t.2 = 6 by rw [HTT.out]]
   have q61_0 := Lq_49.cell 0 rfl
   have q61_1 := Lq_49.cell 1 rfl
   have q61_2 := Lq_49.cell 2 rfl
   have q61_3 := Lq_49.cell 3 rfl
   have q61_lt := Lq_49.lt
   go_wp2_with fail
   refine (madeG_no _ on36 oA36 ol36 oc36 6 (by decide)).mono ?_
   rintro e w60 ⟨hb60, rfl⟩
   have B62 := Lib.hid hb60
   have z62 := B62.out.size
   have HB63 := Lib.hid (HBP49.out.trans (B62.out.mono HBP49.out.size))
   clear hb60
   clear q61_0 q61_1 q61_2 q61_3 q61_lt
   have Lr2_64 := CB.step Lr2_49 B62.out
   have q65_0 := Lr2_64.cell 0 rfl
   have q65_1 := Lr2_64.cell 1 rfl
   have q65_lt := Lr2_64.lt
   have q66_0 := Lr2_64.frozen 0
   have q66_1 := Lr2_64.frozen 1
   have q66_lt := Lr2_64.lt
   go_wp2
   clear q65_0 q65_1 q65_lt q66_0 q66_1 q66_lt
   obtain ⟨w67, hW67⟩ : ∃ w67 : World, w67 = ((w60.setCell ⟨w.heap.size + 1, 0, none⟩ (.bool false)).setCell ⟨w.heap.size + 1, 1, none⟩ (.slice none 0 0)) := ⟨_, rfl⟩
   rw [← hW67]
   have S67 := Lib.hid (show Soft w60 w67 by rw [hW67]; exact (CB.soft1 (Lr2_64) (by simp [noInt_b, noInt_s]) 0 (.bool false)).trans (CB.soft1 ((show CB _ (w.heap.size + 1) 24 #[.bool false, .slice none 0 0] from CB.set (Lr2_64) 0 (.bool false))) (by simp [noInt_b, noInt_s]) 1 (.slice none 0 0)))
   have Lr2_67 : CB w67 (w.heap.size + 1) 24 #[.bool false, .slice none 0 0] := by rw [hW67]; exact (show CB _ (w.heap.size + 1) 24 #[.bool false, .slice none 0 0] from CB.set ((show CB _ (w.heap.size + 1) 24 #[.bool false, .slice none 0 0] from CB.set (Lr2_64) 0 (.bool false))) 1 (.slice none 0 0))
   have HBP67 := Lib.hid (show Below w.heap.size w w67 by rw [hW67]; exact below_set1 (below_set1 (HB63.out) (by omega) _ _) (by omega) _ _)
   have zw67 : w67.heap.size = w60.heap.size := by rw [hW67]; simp [World.setCell]
   clear hW67
   exact bodyPost_ret (GB.ret rfl _ Lr2_67 rfl) rfl ⟨HBP67.out, _, by rw [HTZ.out]; rfl, by rw [HTZ.out]; exact LV.zero _ _⟩
end Go.Proofs.YtioclokmbgmamaaGreatDoor
