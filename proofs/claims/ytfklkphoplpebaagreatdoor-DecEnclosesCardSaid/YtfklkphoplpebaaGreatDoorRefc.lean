/- Texts put together: The reference's Int at any Long (written by gen_rint.py). The reference's Decimal at any number. The reference's form at any text (written by gen_rform.py). The reference's Text at any Long (written by gen_rtxt.py). The reference's Parse at any text (written by gen_rparse.py). -/
import Derived.Test.YtfklkphoplpebaaGreatDoorRefb
import Derived.Test.YtfklkphoplpebaaGreatDoorLow
import Derived.Test.YtfklkphoplpebaaGreatDoorOps
import Derived.Lib.IndexBytes
import Derived.Test.YtfklkphoplpebaaGreatDoorDec
/- The reference's Int at any Long (written by gen_rint.py). -/
namespace Go.Proofs.YtfklkphoplpebaaGreatDoor
open Go Go.RowKit Dig

theorem int_low {z : Int} (h : -9223372036854775808 ≤ z) : decide ((cmpZ z (-9223372036854775808)).1 < 0) = false := by
  rw [ord_num]; apply decide_eq_false
  by_cases h1 : z = -9223372036854775808
  · rw [if_pos h1]; omega
  · rw [if_neg h1, if_neg (by omega)]; omega
theorem int_low' {z : Int} (h : z < -9223372036854775808) : decide ((cmpZ z (-9223372036854775808)).1 < 0) = true := by
  rw [ord_num, if_neg (by omega), if_pos h]; rfl
theorem int_high {z : Int} (h : z ≤ 9223372036854775807) : decide (0 < (cmpZ z 9223372036854775807).1) = false := by
  rw [ord_num]; apply decide_eq_false
  by_cases h1 : z = 9223372036854775807
  · rw [if_pos h1]; omega
  · rw [if_neg h1, if_pos (by omega)]; omega
theorem int_high' {z : Int} (h : 9223372036854775807 < z) : decide (0 < (cmpZ z 9223372036854775807).1) = true := by
  rw [ord_num, if_neg (by omega), if_neg (by omega)]; rfl
theorem drop_digit {ds : List Nat} {k : Nat} (h : k < ds.length) : val (ds.drop k) = ds.getD k 0 + 1000000000 * val (ds.drop (k + 1)) := by
  rw [List.drop_eq_getElem_cons h, val_cons, getD_get h]
theorem drop_le (ds : List Nat) (k : Nat) : val (ds.drop k) ≤ val ds := by
  by_cases h : k ≤ ds.length
  · rw [val_split ds k h]
    have := Nat.le_mul_of_pos_left (val (ds.drop k)) (bp_pos k)
    omega
  · rw [List.drop_eq_nil_of_le (by omega)]; exact Nat.zero_le _
theorem sgn_dec (z : Int) : sgn (decide (z < 0)) z.natAbs = z := by
  by_cases h : z < 0
  · rw [decide_eq_true h]; show -(z.natAbs : Int) = z; omega
  · rw [decide_eq_false h]; show (z.natAbs : Int) = z; omega

set_option maxRecDepth 100000 in
set_option maxHeartbeats 4000000 in
theorem RInt_any (w : World) (va : Value) (na : Bool) (da : List Int) (ha : LR w w.heap.size va na da) :
    Calls Tryz.prog 43 #[va] w fun e w' => Below w.heap.size w w' ∧ RetI (A1 intZ (numOf na da)) e := by
  obtain ⟨r, hr⟩ : ∃ r, r = A1 intZ (numOf na da) := ⟨_, rfl⟩
  rw [← hr]
  have HR := Lib.hid hr
  clear hr
  obtain ⟨Aa, ka, ca, rfl, Ha⟩ := ha.opened
  clear ha
  obtain ⟨w0, hw0⟩ : ∃ w0 : World, w0 = (w.alloc (.cells #[.bool na, .slice Aa ka ca] 66)) := ⟨_, rfl⟩
  have B0 := Lib.hid (show Below w.heap.size w w0 by rw [hw0]; (repeat' (first | exact Below.refl _ _ | refine Below.drew ?_ | refine Below.alloc ?_ (by first | exact Nat.le_refl _ | (simp; done) | (simp; omega)) _)))
  have z0 : w.heap.size + 1 ≤ w0.heap.size := by rw [hw0]; simp
  have La : LB w0 (w.heap.size) (.bool na) (.slice Aa ka ca) := by rw [hw0]; (repeat (first | (refine LB.new' ?_; simp; done) | refine LB.alloc ?_ _))
  replace Ha := Lib.hid (Ha.step B0.out)
  subst hw0
  by_cases hva : Valid na da
  · have HVa := Lib.hid hva
    obtain ⟨x, hx1, hx2, hx3⟩ := LR.num Ha.out hva
    have HX := Lib.hid hx2; have HLX := Lib.hid hx3
    clear hva
    have hna := (LV.is HX.out).1; have hka := (LV.is HX.out).2.1; have HRN := Lib.hid (LV.is HX.out).2.2
    by_cases h1 : x < -9223372036854775808
    · have HZ := Lib.hid (show r = (0, 6) by rw [HR.out, hx1]; exact if_neg (by omega))
      have HC := Lib.hid (int_low' h1)
      clear hx1 hx2 hx3 h1 HR hna hka
      go_enter Tryz.func43, Tryz.ntmps43
      go_wp2_with fail
      refine (Right_good Ha.out HVa.out).mono ?_
      rintro e w1 ⟨hb1, rfl⟩
      have B2 := Lib.hid hb1
      have z2 := B2.out.size
      have HB3 := Lib.hid (B0.out.trans (B2.out.mono B0.out.size))
      clear hb1
      go_wp2_with fail
      refine (ROf_any _ (-9223372036854775808) (by decide) (by decide)).mono ?_
      rintro e w4 ⟨hb4, v3, rfl, hv3⟩
      have B5 := Lib.hid hb4
      have z5 := B5.out.size
      have HB6 := Lib.hid (HB3.out.trans (B5.out.mono HB3.out.size))
      clear hb4
      obtain ⟨n7, Ad7, l7, c7, rfl, hv7⟩ := hv3.opened
      have Hlo_7 := Lib.hid hv7
      clear hv3 hv7
      go_wp2_with fail
      refine (ROf_any _ 9223372036854775807 (by decide) (by decide)).mono ?_
      rintro e w8 ⟨hb8, v4, rfl, hv4⟩
      have B9 := Lib.hid hb8
      have z9 := B9.out.size
      have HB10 := Lib.hid (HB6.out.trans (B9.out.mono HB6.out.size))
      clear hb8
      obtain ⟨n11, Ad11, l11, c11, rfl, hv11⟩ := hv4.opened
      have Hhi_11 := Lib.hid hv11
      clear hv4 hv11
      have Hlo_12 := Lib.hid (LV.step Hlo_7.out B9.out)
      go_upto_region 4 with (fail)
      obtain ⟨w13, hW13⟩ : ∃ w13 : World, w13 = ((w8.alloc (.cells #[.bool n7, .slice Ad7 l7 c7] 66)).alloc (.cells #[.bool n11, .slice Ad11 l11 c11] 66)) := ⟨_, rfl⟩
      rw [← hW13]
      have hb13 : Below w8.heap.size w8 w13 := by rw [hW13]; (repeat' (first | exact Below.refl _ _ | refine Below.drew ?_ | refine Below.alloc ?_ (by first | exact Nat.le_refl _ | (simp; done) | (simp; omega)) _))
      have Llo_13 : LB w13 (w8.heap.size) (.bool n7) (.slice Ad7 l7 c7) := by rw [hW13]; (repeat (first | (refine LB.new' ?_; simp; done) | refine LB.alloc ?_ _))
      have Lhi_13 : LB w13 (w8.heap.size + 1) (.bool n11) (.slice Ad11 l11 c11) := by rw [hW13]; (repeat (first | (refine LB.new' ?_; simp; done) | refine LB.alloc ?_ _))
      have za13 : w8.heap.size + 2 ≤ w13.heap.size := by rw [hW13]; simp
      have B14 := Lib.hid hb13
      have z14 := B14.out.size
      have HB15 := Lib.hid (HB10.out.trans (B14.out.mono HB10.out.size))
      clear hb13 hW13
      have P1_3_17 := Lib.hid (B2.out.trans (B5.out.mono B2.out.size))
      have P1_4_18 := Lib.hid (P1_3_17.out.trans (B9.out.mono P1_3_17.out.size))
      have P1_5_19 := Lib.hid (P1_4_18.out.trans (B14.out.mono P1_4_18.out.size))
      have La_20 := LB.step La P1_5_19.out
      have q21_0 := La_20.cell0
      have q21_1 := La_20.cell1
      have q21_2 := La_20.frozen 0
      have q21_3 := La_20.frozen 1
      have q21_lt := La_20.lt
      have q22_0 := Llo_13.cell0
      have q22_1 := Llo_13.cell1
      have q22_2 := Llo_13.frozen 0
      have q22_3 := Llo_13.frozen 1
      have q22_lt := Llo_13.lt
      have q23_0 := Lhi_13.cell0
      have q23_1 := Lhi_13.cell1
      have q23_2 := Lhi_13.frozen 0
      have q23_3 := Lhi_13.frozen 1
      have q23_lt := Lhi_13.lt
      go_wp2_with fail
      have Hx_24 := Lib.hid (LV.step HX.out P1_5_19.out)
      have Hlo_25 := Lib.hid (LV.step Hlo_12.out B14.out)
      refine (ROrder_any _ _ _ x _ Hx_24.out Hlo_25.out).mono ?_
      rintro e w16 ⟨hb16, rfl⟩
      have B26 := Lib.hid hb16
      have z26 := B26.out.size
      have HB27 := Lib.hid (HB15.out.trans (B26.out.mono HB15.out.size))
      clear hb16
      clear q21_0 q21_1 q21_2 q21_3 q21_lt q22_0 q22_1 q22_2 q22_3 q22_lt q23_0 q23_1 q23_2 q23_3 q23_lt
      generalize (cmpZ x (-9223372036854775808)).1 = cc at *
      have hcc : cc < 0 := of_decide_eq_true HC.out
      have La_28 := LB.step La_20 B26.out
      have q29_0 := La_28.cell0
      have q29_1 := La_28.cell1
      have q29_2 := La_28.frozen 0
      have q29_3 := La_28.frozen 1
      have q29_lt := La_28.lt
      have Llo_30 := LB.step Llo_13 B26.out
      have q31_0 := Llo_30.cell0
      have q31_1 := Llo_30.cell1
      have q31_2 := Llo_30.frozen 0
      have q31_3 := Llo_30.frozen 1
      have q31_lt := Llo_30.lt
      have Lhi_32 := LB.step Lhi_13 B26.out
      have q33_0 := Lhi_32.cell0
      have q33_1 := Lhi_32.cell1
      have q33_2 := Lhi_32.frozen 0
      have q33_3 := Lhi_32.frozen 1
      have q33_lt := Lhi_32.lt
      go_wp2
      go_ret2
      rw [HZ.out]
      exact ⟨HB27.out, rfl⟩
    by_cases h2 : 9223372036854775807 < x
    · have HZ := Lib.hid (show r = (0, 6) by rw [HR.out, hx1]; exact if_neg (by omega))
      have HC := Lib.hid (int_low (z := x) (by omega)); have HC2 := Lib.hid (int_high' h2)
      clear hx1 hx2 hx3 h1 h2 HR hna hka
      go_enter Tryz.func43, Tryz.ntmps43
      go_wp2_with fail
      refine (Right_good Ha.out HVa.out).mono ?_
      rintro e w34 ⟨hb34, rfl⟩
      have B35 := Lib.hid hb34
      have z35 := B35.out.size
      have HB36 := Lib.hid (B0.out.trans (B35.out.mono B0.out.size))
      clear hb34
      go_wp2_with fail
      refine (ROf_any _ (-9223372036854775808) (by decide) (by decide)).mono ?_
      rintro e w37 ⟨hb37, v3, rfl, hv3⟩
      have B38 := Lib.hid hb37
      have z38 := B38.out.size
      have HB39 := Lib.hid (HB36.out.trans (B38.out.mono HB36.out.size))
      clear hb37
      obtain ⟨n40, Ad40, l40, c40, rfl, hv40⟩ := hv3.opened
      have Hlo_40 := Lib.hid hv40
      clear hv3 hv40
      go_wp2_with fail
      refine (ROf_any _ 9223372036854775807 (by decide) (by decide)).mono ?_
      rintro e w41 ⟨hb41, v4, rfl, hv4⟩
      have B42 := Lib.hid hb41
      have z42 := B42.out.size
      have HB43 := Lib.hid (HB39.out.trans (B42.out.mono HB39.out.size))
      clear hb41
      obtain ⟨n44, Ad44, l44, c44, rfl, hv44⟩ := hv4.opened
      have Hhi_44 := Lib.hid hv44
      clear hv4 hv44
      have Hlo_45 := Lib.hid (LV.step Hlo_40.out B42.out)
      go_upto_region 4 with (fail)
      obtain ⟨w46, hW46⟩ : ∃ w46 : World, w46 = ((w41.alloc (.cells #[.bool n40, .slice Ad40 l40 c40] 66)).alloc (.cells #[.bool n44, .slice Ad44 l44 c44] 66)) := ⟨_, rfl⟩
      rw [← hW46]
      have hb46 : Below w41.heap.size w41 w46 := by rw [hW46]; (repeat' (first | exact Below.refl _ _ | refine Below.drew ?_ | refine Below.alloc ?_ (by first | exact Nat.le_refl _ | (simp; done) | (simp; omega)) _))
      have Llo_46 : LB w46 (w41.heap.size) (.bool n40) (.slice Ad40 l40 c40) := by rw [hW46]; (repeat (first | (refine LB.new' ?_; simp; done) | refine LB.alloc ?_ _))
      have Lhi_46 : LB w46 (w41.heap.size + 1) (.bool n44) (.slice Ad44 l44 c44) := by rw [hW46]; (repeat (first | (refine LB.new' ?_; simp; done) | refine LB.alloc ?_ _))
      have za46 : w41.heap.size + 2 ≤ w46.heap.size := by rw [hW46]; simp
      have B47 := Lib.hid hb46
      have z47 := B47.out.size
      have HB48 := Lib.hid (HB43.out.trans (B47.out.mono HB43.out.size))
      clear hb46 hW46
      have P1_3_50 := Lib.hid (B35.out.trans (B38.out.mono B35.out.size))
      have P1_4_51 := Lib.hid (P1_3_50.out.trans (B42.out.mono P1_3_50.out.size))
      have P1_5_52 := Lib.hid (P1_4_51.out.trans (B47.out.mono P1_4_51.out.size))
      have La_53 := LB.step La P1_5_52.out
      have q54_0 := La_53.cell0
      have q54_1 := La_53.cell1
      have q54_2 := La_53.frozen 0
      have q54_3 := La_53.frozen 1
      have q54_lt := La_53.lt
      have q55_0 := Llo_46.cell0
      have q55_1 := Llo_46.cell1
      have q55_2 := Llo_46.frozen 0
      have q55_3 := Llo_46.frozen 1
      have q55_lt := Llo_46.lt
      have q56_0 := Lhi_46.cell0
      have q56_1 := Lhi_46.cell1
      have q56_2 := Lhi_46.frozen 0
      have q56_3 := Lhi_46.frozen 1
      have q56_lt := Lhi_46.lt
      go_wp2_with fail
      have Hx_57 := Lib.hid (LV.step HX.out P1_5_52.out)
      have Hlo_58 := Lib.hid (LV.step Hlo_45.out B47.out)
      refine (ROrder_any _ _ _ x _ Hx_57.out Hlo_58.out).mono ?_
      rintro e w49 ⟨hb49, rfl⟩
      have B59 := Lib.hid hb49
      have z59 := B59.out.size
      have HB60 := Lib.hid (HB48.out.trans (B59.out.mono HB48.out.size))
      clear hb49
      clear q54_0 q54_1 q54_2 q54_3 q54_lt q55_0 q55_1 q55_2 q55_3 q55_lt q56_0 q56_1 q56_2 q56_3 q56_lt
      generalize (cmpZ x (-9223372036854775808)).1 = cc at *
      have hcc : 0 ≤ cc := by have := of_decide_eq_false HC.out; omega
      have La_62 := LB.step La_53 B59.out
      have q63_0 := La_62.cell0
      have q63_1 := La_62.cell1
      have q63_2 := La_62.frozen 0
      have q63_3 := La_62.frozen 1
      have q63_lt := La_62.lt
      have Lhi_64 := LB.step Lhi_46 B59.out
      have q65_0 := Lhi_64.cell0
      have q65_1 := Lhi_64.cell1
      have q65_2 := Lhi_64.frozen 0
      have q65_3 := Lhi_64.frozen 1
      have q65_lt := Lhi_64.lt
      go_wp2_with fail
      have Hx_66 := Lib.hid (LV.step Hx_57.out B59.out)
      have P4_6_67 := Lib.hid (B47.out.trans (B59.out.mono B47.out.size))
      have Hhi_68 := Lib.hid (LV.step Hhi_44.out P4_6_67.out)
      refine (ROrder_any _ _ _ x _ Hx_66.out Hhi_68.out).mono ?_
      rintro e w61 ⟨hb61, rfl⟩
      have B69 := Lib.hid hb61
      have z69 := B69.out.size
      have HB70 := Lib.hid (HB60.out.trans (B69.out.mono HB60.out.size))
      clear hb61
      clear q63_0 q63_1 q63_2 q63_3 q63_lt q65_0 q65_1 q65_2 q65_3 q65_lt
      generalize (cmpZ x 9223372036854775807).1 = cd at *
      have hcd : 0 < cd := of_decide_eq_true HC2.out
      have La_71 := LB.step La_62 B69.out
      have q72_0 := La_71.cell0
      have q72_1 := La_71.cell1
      have q72_2 := La_71.frozen 0
      have q72_3 := La_71.frozen 1
      have q72_lt := La_71.lt
      go_wp2
      go_ret2
      rw [HZ.out]
      exact ⟨HB70.out, rfl⟩
    have HZ := Lib.hid (show r = (x, 0) by rw [HR.out, hx1]; exact if_pos (by omega))
    have HC := Lib.hid (int_low (z := x) (by omega)); have HC2 := Lib.hid (int_high (z := x) (by omega))
    have HSG := Lib.hid (show sgn na x.natAbs = x by rw [hna]; exact sgn_dec x)
    have hB1 : -9223372036854775808 ≤ x := by omega
    have hB2 : x ≤ 9223372036854775807 := by omega
    have HLN := Lib.hid (show (dig x.natAbs).length = ka from hka.symm)
    have hka6 : ka ≤ 600 := by rw [hka]; exact HLX.out
    have HVD := Lib.hid (val_dig x.natAbs)
    have HSD := Lib.hid (dig_small x.natAbs)
    clear hx1 hx2 hx3 h1 h2 HR hna hka
    go_enter Tryz.func43, Tryz.ntmps43
    go_wp2_with fail
    refine (Right_good Ha.out HVa.out).mono ?_
    rintro e w73 ⟨hb73, rfl⟩
    have B74 := Lib.hid hb73
    have z74 := B74.out.size
    have HB75 := Lib.hid (B0.out.trans (B74.out.mono B0.out.size))
    clear hb73
    go_wp2_with fail
    refine (ROf_any _ (-9223372036854775808) (by decide) (by decide)).mono ?_
    rintro e w76 ⟨hb76, v3, rfl, hv3⟩
    have B77 := Lib.hid hb76
    have z77 := B77.out.size
    have HB78 := Lib.hid (HB75.out.trans (B77.out.mono HB75.out.size))
    clear hb76
    obtain ⟨n79, Ad79, l79, c79, rfl, hv79⟩ := hv3.opened
    have Hlo_79 := Lib.hid hv79
    clear hv3 hv79
    go_wp2_with fail
    refine (ROf_any _ 9223372036854775807 (by decide) (by decide)).mono ?_
    rintro e w80 ⟨hb80, v4, rfl, hv4⟩
    have B81 := Lib.hid hb80
    have z81 := B81.out.size
    have HB82 := Lib.hid (HB78.out.trans (B81.out.mono HB78.out.size))
    clear hb80
    obtain ⟨n83, Ad83, l83, c83, rfl, hv83⟩ := hv4.opened
    have Hhi_83 := Lib.hid hv83
    clear hv4 hv83
    have Hlo_84 := Lib.hid (LV.step Hlo_79.out B81.out)
    go_upto_region 4 with (fail)
    obtain ⟨w85, hW85⟩ : ∃ w85 : World, w85 = ((w80.alloc (.cells #[.bool n79, .slice Ad79 l79 c79] 66)).alloc (.cells #[.bool n83, .slice Ad83 l83 c83] 66)) := ⟨_, rfl⟩
    rw [← hW85]
    have hb85 : Below w80.heap.size w80 w85 := by rw [hW85]; (repeat' (first | exact Below.refl _ _ | refine Below.drew ?_ | refine Below.alloc ?_ (by first | exact Nat.le_refl _ | (simp; done) | (simp; omega)) _))
    have Llo_85 : LB w85 (w80.heap.size) (.bool n79) (.slice Ad79 l79 c79) := by rw [hW85]; (repeat (first | (refine LB.new' ?_; simp; done) | refine LB.alloc ?_ _))
    have Lhi_85 : LB w85 (w80.heap.size + 1) (.bool n83) (.slice Ad83 l83 c83) := by rw [hW85]; (repeat (first | (refine LB.new' ?_; simp; done) | refine LB.alloc ?_ _))
    have za85 : w80.heap.size + 2 ≤ w85.heap.size := by rw [hW85]; simp
    have B86 := Lib.hid hb85
    have z86 := B86.out.size
    have HB87 := Lib.hid (HB82.out.trans (B86.out.mono HB82.out.size))
    clear hb85 hW85
    have P1_3_89 := Lib.hid (B74.out.trans (B77.out.mono B74.out.size))
    have P1_4_90 := Lib.hid (P1_3_89.out.trans (B81.out.mono P1_3_89.out.size))
    have P1_5_91 := Lib.hid (P1_4_90.out.trans (B86.out.mono P1_4_90.out.size))
    have La_92 := LB.step La P1_5_91.out
    have q93_0 := La_92.cell0
    have q93_1 := La_92.cell1
    have q93_2 := La_92.frozen 0
    have q93_3 := La_92.frozen 1
    have q93_lt := La_92.lt
    have q94_0 := Llo_85.cell0
    have q94_1 := Llo_85.cell1
    have q94_2 := Llo_85.frozen 0
    have q94_3 := Llo_85.frozen 1
    have q94_lt := Llo_85.lt
    have q95_0 := Lhi_85.cell0
    have q95_1 := Lhi_85.cell1
    have q95_2 := Lhi_85.frozen 0
    have q95_3 := Lhi_85.frozen 1
    have q95_lt := Lhi_85.lt
    go_wp2_with fail
    have Hx_96 := Lib.hid (LV.step HX.out P1_5_91.out)
    have Hlo_97 := Lib.hid (LV.step Hlo_84.out B86.out)
    refine (ROrder_any _ _ _ x _ Hx_96.out Hlo_97.out).mono ?_
    rintro e w88 ⟨hb88, rfl⟩
    have B98 := Lib.hid hb88
    have z98 := B98.out.size
    have HB99 := Lib.hid (HB87.out.trans (B98.out.mono HB87.out.size))
    clear hb88
    clear q93_0 q93_1 q93_2 q93_3 q93_lt q94_0 q94_1 q94_2 q94_3 q94_lt q95_0 q95_1 q95_2 q95_3 q95_lt
    generalize (cmpZ x (-9223372036854775808)).1 = cc at *
    have hcc : 0 ≤ cc := by have := of_decide_eq_false HC.out; omega
    have La_101 := LB.step La_92 B98.out
    have q102_0 := La_101.cell0
    have q102_1 := La_101.cell1
    have q102_2 := La_101.frozen 0
    have q102_3 := La_101.frozen 1
    have q102_lt := La_101.lt
    have Lhi_103 := LB.step Lhi_85 B98.out
    have q104_0 := Lhi_103.cell0
    have q104_1 := Lhi_103.cell1
    have q104_2 := Lhi_103.frozen 0
    have q104_3 := Lhi_103.frozen 1
    have q104_lt := Lhi_103.lt
    go_wp2_with fail
    have Hx_105 := Lib.hid (LV.step Hx_96.out B98.out)
    have P4_6_106 := Lib.hid (B86.out.trans (B98.out.mono B86.out.size))
    have Hhi_107 := Lib.hid (LV.step Hhi_83.out P4_6_106.out)
    refine (ROrder_any _ _ _ x _ Hx_105.out Hhi_107.out).mono ?_
    rintro e w100 ⟨hb100, rfl⟩
    have B108 := Lib.hid hb100
    have z108 := B108.out.size
    have HB109 := Lib.hid (HB99.out.trans (B108.out.mono HB99.out.size))
    clear hb100
    clear q102_0 q102_1 q102_2 q102_3 q102_lt q104_0 q104_1 q104_2 q104_3 q104_lt
    generalize (cmpZ x 9223372036854775807).1 = cd at *
    have hcd : cd ≤ 0 := by have := of_decide_eq_false HC2.out; omega
    have La_110 := LB.step La_101 B108.out
    have Hx_111 := Lib.hid (LV.step Hx_105.out B108.out)
    have HRN2 := Lib.hid (LV.is Hx_111.out).2.2
    have q112_0 := La_110.cell0
    have q112_1 := La_110.cell1
    have q112_2 := La_110.frozen 0
    have q112_3 := La_110.frozen 1
    have q112_lt := La_110.lt
    have HBW := Lib.hid HB109.out
    have hk0 := Lib.hid (show sgn na (val ((dig x.natAbs).drop ka)) = 0 by rw [List.drop_eq_nil_of_le (by rw [HLN.out]; exact Nat.le_refl _)]; cases na <;> rfl)
    go_wp2
    go_loopw [6, 7] (fun nv iv wr => ∃ (k : Nat) (m : Int), nv = .int .i64 m ∧ iv = .int .i64 ((k : Int) - 1) ∧ k ≤ ka ∧ Hid (m = sgn na (val ((dig x.natAbs).drop k))) ∧ wr = w100) (fun _ iv _ => (intOf iv + 1).toNat)
    case atStart => exact ⟨ka, 0, rfl, rfl, Nat.le_refl _, Lib.hid hk0.out.symm, rfl⟩
    case round =>
      obtain ⟨k, m, rfl, rfl, hk, HM, rfl⟩ := hrel
      rcases Nat.eq_zero_or_pos k with hk0 | hk0
      · subst hk0
        have HMX := Lib.hid (show m = x by rw [HM.out, List.drop_zero, HVD.out]; exact HSG.out)
        rw [show (((0 : Nat) : Int) - 1) = -1 from rfl]
        go_wp2
        go_ret2
        rw [HZ.out, HMX.out]
        exact ⟨HBW.out, rfl⟩
      · obtain ⟨j, rfl⟩ : ∃ j, k = j + 1 := ⟨k - 1, by omega⟩
        rw [show (((j + 1 : Nat) : Int) - 1) = (j : Int) by omega]
        have hjd : j < (dig x.natAbs).length := by rw [HLN.out]; omega
        obtain ⟨g1, o1, rfl, hxd⟩ := HRN2.out.digit hjd
        obtain ⟨d, hd⟩ : ∃ d, d = (dig x.natAbs).getD j 0 := ⟨_, rfl⟩
        rw [← hd] at hxd
        have hd9 : d < 1000000000 := by rw [hd]; exact HSD.out.getD j
        obtain ⟨V, hV⟩ : ∃ V, V = val ((dig x.natAbs).drop (j + 1)) := ⟨_, rfl⟩
        have hle := drop_le (dig x.natAbs) j
        have hdd := drop_digit hjd
        rw [← hd, ← hV] at hdd
        rw [HVD.out, hdd] at hle
        have hm := HM.out
        rw [← hV] at hm
        have hj0 : (0 : Int) ≤ (j : Int) := by omega
        have hjk : (j : Int) < (ka : Int) := by omega
        cases na with
        | true =>
          obtain rfl : m = -(V : Int) := hm
          have HN := Lib.hid (show -(V : Int) * 1000000000 - (d : Int) = sgn true (val ((dig x.natAbs).drop j)) by rw [hdd]; show _ = -((d + 1000000000 * V : Nat) : Int); omega)
          have hV9 : d + 1000000000 * V ≤ 9223372036854775808 := by omega
          clear hd hV hle hdd HM
          go_wp2
          go_roundw
          case rel => exact ⟨j, _, rfl, rfl, by omega, HN, trivial⟩
          case measure => simp [intOf]
        | false =>
          obtain rfl : m = (V : Int) := hm
          have HN := Lib.hid (show (V : Int) * 1000000000 + (d : Int) = sgn false (val ((dig x.natAbs).drop j)) by rw [hdd]; show _ = ((d + 1000000000 * V : Nat) : Int); omega)
          have hV9 : d + 1000000000 * V ≤ 9223372036854775808 := by omega
          have hV8 : d + 1000000000 * V ≤ 9223372036854775807 := by have h := HSG.out; have h2 : sgn false x.natAbs = (x.natAbs : Int) := rfl; rw [h2] at h; omega
          clear hd hV hle hdd HM
          go_wp2
          go_roundw
          case rel => exact ⟨j, _, rfl, rfl, by omega, HN, trivial⟩
          case measure => simp [intOf]
  · have HVa := Lib.hid hva
    have HZ := Lib.hid (show r = (0, 30) by rw [HR.out]; exact A1_bad hva)
    clear hva HR
    go_enter Tryz.func43, Tryz.ntmps43
    go_wp2_with fail
    refine (Right_bad Ha.out HVa.out).mono ?_
    rintro e w113 ⟨hb113, rfl⟩
    have B114 := Lib.hid hb113
    have z114 := B114.out.size
    have HB115 := Lib.hid (B0.out.trans (B114.out.mono B0.out.size))
    clear hb113
    go_wp2
    go_ret2
    rw [HZ.out]
    exact ⟨HB115.out, rfl⟩
end Go.Proofs.YtfklkphoplpebaaGreatDoor

/- The reference's Decimal at any number. -/
namespace Go.Proofs.YtfklkphoplpebaaGreatDoor
open Go Go.RowKit Dig

theorem itoa_zero {z : Int} (h : z = 0) : Lib.itoa z = [48] := by rw [h, itoa_pos (by omega)]; exact dd_zero
theorem itoa_sign {z : Int} {O : List UInt8} (h : O.reverse = Lib.decDigits z.natAbs) : (if z < 0 then O ++ [45] else O).reverse = Lib.itoa z := by
  by_cases hz : z < 0
  · rw [if_pos hz, itoa_min hz, List.reverse_append, h]; rfl
  · rw [if_neg hz, itoa_pos (by omega), h]
theorem itoa_ne (z : Int) : Lib.itoa z ≠ [] := fun h => by
  have h1 := bare_itoa z
  rw [h] at h1
  exact dd_ne _ h1.symm
theorem rev_set {T : List UInt8} {i j : Nat} (h : T.length = i + j + 1) (hj : j < T.length) : (T.reverse.take i ++ List.replicate (j + 1) 0).set i T[j] = T.reverse.take (i + 1) ++ List.replicate j 0 := by
  have hi : i < T.reverse.length := by rw [List.length_reverse]; omega
  have h1 := set_next (T.reverse.take i) (0 : UInt8) T[j] j
  rw [List.length_take, Nat.min_eq_left (by omega)] at h1
  rw [h1, List.take_succ_eq_append_getElem hi]
  have e : T.reverse[i] = T[j] := by rw [List.getElem_reverse]; congr 1; omega
  rw [e]

set_option maxRecDepth 100000 in
set_option maxHeartbeats 4000000 in
theorem RDecimal_any (w : World) (va : Value) (z : Int) (ha : LV w w.heap.size va z) (hl : (dig z.natAbs).length ≤ 100000) :
    Calls Tryz.prog 75 #[va] w fun e w' => Below w.heap.size w w' ∧ ∃ s : ByteArray, e = .returned (.string s) ∧ s.data.toList = Lib.itoa z := by
  obtain ⟨i0, hi0, hz0, hz1, hz2⟩ := info_parts byte_info
  obtain ⟨na, Aa, la, ca, rfl, HA⟩ := ha.opened
  have hl1 := HA.is.2.1
  have hna := HA.is.1
  clear ha
  by_cases hz : z = 0
  · obtain rfl : la = 0 := hl1.trans (len_zero hz)
    have HI := Lib.hid (itoa_zero hz)
    clear hz hl1 hna HA
    go_enter Tryz.func75, Tryz.ntmps75
    go_wp2
    go_ret
    exact ⟨by (repeat' (first | exact Below.refl _ _ | refine Below.drew ?_ | refine Below.alloc ?_ (by first | exact Nat.le_refl _ | (simp; done) | (simp; omega)) _)), _, rfl, HI.out.symm⟩
  · have HRN := Lib.hid HA.is.2.2
    have hlb : ((la : Int) == 0) = false := by rw [beq_eq_false_iff_ne]; have := len_pos hz; omega
    rw [← hl1] at hl
    have HSD := Lib.hid (dig_small z.natAbs)
    have HVD := Lib.hid (val_dig z.natAbs)
    have HLD := Lib.hid hl1.symm
    have HNA := Lib.hid hna
    have HNZ := Lib.hid (show z.natAbs ≠ 0 by omega)
    have HIT := Lib.hid (fun O => itoa_sign (z := z) (O := O))
    have HIN := Lib.hid (itoa_ne z)
    have L0 : LB (w.alloc (.cells #[.bool na, .slice Aa la ca] 66)) w.heap.size (.bool na) (.slice Aa la ca) := by (repeat (first | (refine LB.new' ?_; simp; done) | refine LB.alloc ?_ _))
    have HB0 := Lib.hid (show Below w.heap.size w (w.alloc (.cells #[.bool na, .slice Aa la ca] 66)) by (repeat' (first | exact Below.refl _ _ | refine Below.drew ?_ | refine Below.alloc ?_ (by first | exact Nat.le_refl _ | (simp; done) | (simp; omega)) _)))
    clear hl1 hna hz HA
    generalize dig z.natAbs = ds at *
    generalize z.natAbs = N at *
    go_enter Tryz.func75, Tryz.ntmps75
    go_wp2
    go_loopw [3, 4] (fun ov iv wr => ∃ (i : Nat) (O : List UInt8) (v : Value), v = ov ∧ iv = .int .i64 i ∧ i ≤ la ∧ Hid (DecO ds i O) ∧ Hid (OwnBV wr (w.heap.size + 1) v O) ∧ LB wr w.heap.size (.bool na) (.slice Aa la ca) ∧ Hid (Below w.heap.size w wr) ∧ Hid (w.heap.size + 1 ≤ wr.heap.size)) (fun _ iv _ => la - (intOf iv).toNat)
    case atStart => exact ⟨0, [], _, rfl, rfl, by omega, Lib.hid (DecO.start ds), Lib.hid (OwnBV.nil _ _), L0, HB0, Lib.hid (by simp)⟩
    case round =>
      clear L0 HB0
      obtain ⟨i, O, v, rfl, rfl, hi, hD, hO, M0, HBW, HSZ⟩ := hrel
      have q00 := M0.cell0; have q01 := M0.cell1
      by_cases hlt : i < la
      · have hids : i < ds.length := by rw [HLD.out]; exact hlt
        obtain ⟨g1, o1, rfl, hx⟩ := (HRN.out.below HBW.out).digit hids
        obtain ⟨d0, hd0⟩ : ∃ d, d = ds.getD i 0 := ⟨_, rfl⟩
        rw [← hd0] at hx
        have hd9 : d0 < 1000000000 := by rw [hd0]; exact HSD.out.getD i
        have HDI := Lib.hid (show DecI ds i 0 d0 O by rw [hd0, getD_get hids]; exact hD.out.enter hids HSD.out)
        clear hd0 hD
        obtain ⟨wo, hwo⟩ : ∃ wo : World, wo = wr := ⟨_, rfl⟩
        subst hwo
        go_wp2
        clear q00 q01 hx
        go_loopw [3, 5, 6] (fun ov dv kv wr => ∃ (k d : Nat) (O : List UInt8) (v : Value), v = ov ∧ dv = .int .i64 d ∧ kv = .int .i64 k ∧ k ≤ 9 ∧ d < 1000000000 ∧ Hid (DecI ds i k d O) ∧ Hid (OwnBV wr (w.heap.size + 1) v O) ∧ LB wr w.heap.size (.bool na) (.slice (some ⟨g1, o1, none⟩) la ca) ∧ Hid (Below w.heap.size w wr) ∧ Hid (w.heap.size + 1 ≤ wr.heap.size)) (fun _ _ kv _ => 9 - (intOf kv).toNat)
        case atStart => exact ⟨0, d0, O, _, rfl, rfl, rfl, by omega, hd9, HDI, hO, M0, HBW, HSZ⟩
        case round =>
          clear HDI hO M0 HBW HSZ hd9
          obtain ⟨k, d, O, v, rfl, rfl, rfl, hk, hd9, hD, hO, M0, HBW, HSZ⟩ := hrel
          by_cases hk9 : k < 9
          · have HST := Lib.hid (hD.out.step hk9)
            have hlen : O.length ≤ 900009 := by rw [hD.out.len]; omega
            obtain ⟨c, hc⟩ : ∃ c : UInt8, c = UInt8.ofNat (48 + d % 10) := ⟨_, rfl⟩
            have HC := Lib.hid (show (48 : Int) + (d : Int) % 10 = (c.toNat : Int) by rw [hc, ofNat_dig (Nat.mod_lt _ (by decide))]; omega)
            rw [← hc] at HST
            have hown := hO.out.alloc (.cells #[.int .u8 (48 + (d : Int) % 10)] 5)
            clear hc hD
            go_wp2_with (at_builtin; refine wpList_append_own_at _ rfl _ _ 31 rfl (w.heap.size + 1) 5 i0 (.int .u8 0) 1 1 Tryz.underlying31 hi0 hz0 hz1 hz2 rfl (by decide) v O.length (Lib.byteCells O) rfl hown ⟨wr.heap.size, 0, none⟩ 1 1 [.int .u8 (48 + (d : Int) % 10)] rfl rfl (cell_one_new _ _ _) (by intro u hu; simp at hu; subst hu; rfl) (by unfold maxLen; omega) (by omega) (by have := HSZ.out; simp; omega) ?_)
            intro v' w' hown' hgrow hne hblk
            have hv' : OwnBV w' (w.heap.size + 1) v' (O ++ [c]) := push_byte HC.out hown'
            have hrow : ∀ b, b < w.heap.size + 1 → v.ownBlock ≠ some b := fun b hb he => by
              have := (World.ownsRow.lt hO.out b he).1
              omega
            have N0 := (M0.alloc (.cells #[.int .u8 (48 + (d : Int) % 10)] 5)).grown hgrow (hrow _ (by omega))
            have HB2 := Lib.hid ((HBW.out.alloc HBW.out.size (.cells #[.int .u8 (48 + (d : Int) % 10)] 5)).grown hgrow (by have := HBW.out.size; simp; omega) (fun g he => by have := (World.ownsRow.lt hO.out g he).1; omega))
            have HS2 := Lib.hid (show w.heap.size + 1 ≤ w'.heap.size by have h1 := hgrow.size; have h2 := HSZ.out; simp at h1; omega)
            have HV := Lib.hid hv'
            have hd10 : d / 10 < 1000000000 := by omega
            rcases hv'.form with ⟨_, he⟩ | ⟨g, cap, rfl, _⟩
            · simp at he
            clear hown' hgrow hne hblk hown hv' hrow hO HSZ HBW M0
            go_wp2
            go_roundw
            case rel => exact ⟨k + 1, d / 10, O ++ [c], _, rfl, by go_num, by go_num, by omega, hd10, HST, HV, N0, HB2, HS2⟩
            case measure => simp [intOf]; omega
          · obtain rfl : k = 9 := by omega
            have HDO := Lib.hid hD.out.leave
            clear hD
            go_wp2
            go_roundw
            case rel => exact ⟨i + 1, O, _, rfl, by go_num, by omega, HDO, hO, M0, HBW, HSZ⟩
            case measure => simp [intOf]; omega
      · obtain rfl : i = la := by omega
        have HAD := Lib.hid hD.out.all
        have HNR := Lib.hid (show numR O = N by rw [hD.out.sum, ← HLD.out, List.take_length, HVD.out])
        have HLN := Lib.hid (show O.length ≤ 900000 by rw [hD.out.len]; omega)
        clear hD
        obtain ⟨wo, hwo⟩ : ∃ wo : World, wo = wr := ⟨_, rfl⟩
        subst hwo
        go_wp2
        clear q00 q01
        go_loopw [3] (fun ov wr => ∃ (O : List UInt8) (v : Value), v = ov ∧ Hid (AllDig O) ∧ Hid (numR O = N) ∧ Hid (O.length ≤ 900000) ∧ Hid (OwnBV wr (w.heap.size + 1) v O) ∧ LB wr w.heap.size (.bool na) (.slice Aa i ca) ∧ Hid (Below w.heap.size w wr) ∧ Hid (w.heap.size + 1 ≤ wr.heap.size)) (fun ov _ => lenOf ov)
        case atStart => exact ⟨O, v, rfl, HAD, HNR, HLN, hO, M0, HBW, HSZ⟩
        case round =>
          clear HAD HNR HLN hO M0 HBW HSZ
          obtain ⟨O, v, rfl, HAD, HNR, HLN, hO, M0, HBW, HSZ⟩ := hrel
          have hne : O ≠ [] := fun e => HNZ.out (by rw [← HNR.out, e]; rfl)
          obtain ⟨P, c, rfl⟩ : ∃ P c, O = P ++ [c] := ⟨O.dropLast, O.getLast hne, (List.dropLast_concat_getLast hne).symm⟩
          rcases hO.out.form with ⟨-, he⟩ | ⟨g, cap, rfl, hcap, hcap2, hgB, hown⟩
          · exact absurd he hne
          have hcl := hown.cell P.length (by simp)
          rw [List.getElem_append_right (Nat.le_refl _)] at hcl
          simp only [Nat.sub_self, List.getElem_cons_zero] at hcl
          have hPl : P.length + 1 ≤ 900000 := by have := HLN.out; simp at this; omega
          rw [List.length_append, List.length_singleton] at hcap
          rw [List.length_append, List.length_singleton]
          obtain ⟨p, hp⟩ : ∃ p, p = P.length := ⟨_, rfl⟩
          rw [← hp] at hcl hPl hcap
          rw [← hp]
          have HP := Lib.hid hp
          have hpi : (p : Int) < (p : Int) + 1 := by omega
          have hpc : (p : Int) ≤ (cap : Int) := by omega
          clear hp hne hown
          by_cases hc : c = 48
          · have hcb : ((c.toNat : Int) == 48) = true := by rw [hc]; rfl
            have HAD2 := Lib.hid (show AllDig P from fun x hx => HAD.out x (List.mem_append_left _ hx))
            have HNR2 := Lib.hid (show numR P = N by rw [← HNR.out, hc, numR_cut])
            have HLN2 := Lib.hid (show P.length ≤ 900000 by rw [← HP.out]; omega)
            have HOP := Lib.hid (show OwnBV wr (w.heap.size + 1) (.slice (some ⟨g, 0, none⟩) p cap) P by rw [HP.out]; exact pop_byte (n := P.length + 1) (by have h := hO.out; simpa using h))
            clear hc HAD HNR HLN hO
            go_wp2
            go_roundw
            case rel => exact ⟨P, _, rfl, HAD2, HNR2, HLN2, HOP, M0, HBW, HSZ⟩
            case measure => simp [lenOf]
          · have hcb : ((c.toNat : Int) == 48) = false := by
              rw [beq_eq_false_iff_ne]; intro e
              exact hc (UInt8.toNat.inj (by show c.toNat = 48; omega))
            have HREV := Lib.hid (show (P ++ [c]).reverse = Lib.decDigits N from dec_end HAD.out HNR.out (by simpa using hc) HNZ.out)
            have HOP := Lib.hid (show OwnBV wr (w.heap.size + 1) (.slice (some ⟨g, 0, none⟩) (p + 1) cap) (P ++ [c]) by have h := hO.out; rw [HP.out]; simpa using h)
            have hq0 := M0.cell0
            have hPL := Lib.hid (show (P ++ [c]).length = p + 1 by rw [HP.out]; simp)
            clear hc HAD HNR HLN hO
            generalize P ++ [c] = O at *
            go_upto_if 51 with (fail)
            go_cut [3] (fun ov wx => ∃ (T : List UInt8) (v : Value), v = ov ∧ Hid (T.reverse = Lib.itoa z) ∧ Hid (T.length ≤ 900001) ∧ Hid (OwnBV wx (w.heap.size + 1) v T) ∧ Hid (Below w.heap.size w wx) ∧ Hid (w.heap.size + 1 ≤ wx.heap.size))
            case first =>
              cases na with
              | true =>
                have hz0' : z < 0 := of_decide_eq_true HNA.out.symm
                have HTT := Lib.hid (show (O ++ [45]).reverse = Lib.itoa z by have h := HIT.out O HREV.out; rwa [if_pos hz0'] at h)
                have hown := HOP.out.alloc (.cells #[.int .u8 45] 5)
                have hOl : O.length ≤ 900000 := by rw [hPL.out]; omega
                clear hz0'
                go_wp2_with (at_builtin; refine wpList_append_own_at _ rfl _ _ 31 rfl (w.heap.size + 1) 5 i0 (.int .u8 0) 1 1 Tryz.underlying31 hi0 hz0 hz1 hz2 rfl (by decide) _ O.length (Lib.byteCells O) rfl hown ⟨wr.heap.size, 0, none⟩ 1 1 [.int .u8 45] rfl rfl (cell_one_new _ _ _) (by intro u hu; simp at hu; subst hu; rfl) (by unfold maxLen; omega) (by omega) (by have := HSZ.out; simp; omega) ?_)
                intro v' w' hown' hgrow hne hblk
                have HV := Lib.hid (show OwnBV w' (w.heap.size + 1) v' (O ++ [45]) from push_byte (x := 45) rfl hown')
                have HB2 := Lib.hid ((HBW.out.alloc HBW.out.size (.cells #[.int .u8 45] 5)).grown hgrow (by have := HBW.out.size; simp; omega) (fun g he => by have := (World.ownsRow.lt HOP.out g he).1; omega))
                have HS2 := Lib.hid (show w.heap.size + 1 ≤ w'.heap.size by have h1 := hgrow.size; have h2 := HSZ.out; simp at h1; omega)
                have HTL := Lib.hid (show (O ++ [45]).length ≤ 900001 by simp; omega)
                clear hown' hgrow hne hblk hown
                go_wp2
                go_meet
                exact ⟨O ++ [45], _, rfl, HTT, HTL, HV, HB2, HS2⟩
              | false =>
                have hz0' : ¬ z < 0 := of_decide_eq_false HNA.out.symm
                have HTT := Lib.hid (show O.reverse = Lib.itoa z by have h := HIT.out O HREV.out; rwa [if_neg hz0'] at h)
                have HTL := Lib.hid (show O.length ≤ 900001 by rw [hPL.out]; omega)
                clear hz0'
                go_simp
                go_wp2
                go_meet
                exact ⟨O, _, rfl, HTT, HTL, HOP, HBW, HSZ⟩
            case rest =>
              obtain ⟨T, v, rfl, HTT, HTL, HOT, HBT, HST⟩ := hcut
              clear HREV HOP hPL hq0 hpi hpc hcb M0 HBW HSZ hcl
              have hTne : T ≠ [] := fun e => HIN.out (by rw [← HTT.out, e]; rfl)
              rcases HOT.out.form with ⟨-, he⟩ | ⟨gt, capt, rfl, hcapt, hcapt2, hgtB, hTown⟩
              · exact absurd he hTne
              obtain ⟨n, hn⟩ : ∃ n, n = T.length := ⟨_, rfl⟩
              rw [← hn] at hcapt
              rw [← hn]
              have HN := Lib.hid hn
              have hn9 : n ≤ 900001 := by rw [hn]; exact HTL.out
              have hmk := mk_bytes n (by omega)
              have HTW := Lib.hid hTown
              clear hTne hn hTown HOT
              go_wp2
              have hs := ownB_new wc n
              have HT1 := Lib.hid (HTW.out.alloc (zeroBytes n))
              have HB1 := Lib.hid (HBT.out.alloc HBT.out.size (zeroBytes n))
              have hgs : w.heap.size + 1 ≤ wc.heap.size := HST.out
              have hgt2 := HTW.out.lt
              clear HTW HBT HST hmk
              obtain ⟨gs, hgse⟩ : ∃ gs, gs = wc.heap.size := ⟨_, rfl⟩
              have hgs2 : w.heap.size < gs := by omega
              have hgts : gt < gs := by omega
              rw [← hgse] at hs
              rw [← hgse]
              clear hgs hgt2
              replace hgse := Lib.hid hgse
              generalize wc.alloc (zeroBytes n) = w5 at *
              clear hgse
              go_loopw [8] (fun iv wr => ∃ (i j : Nat), iv = .int .i64 i ∧ n = i + j ∧ OwnB wr gs (T.reverse.take i ++ List.replicate j 0) ∧ Hid (OwnB wr gt T) ∧ Hid (Below w.heap.size w wr)) (fun iv _ => n - (intOf iv).toNat)
              case atStart => exact ⟨0, n, rfl, by omega, by simpa using hs, HT1, HB1⟩
              case round =>
                clear hs HT1 HB1
                obtain ⟨i, j, rfl, hij, hs, HTW, HBW⟩ := hrel
                rcases Nat.eq_zero_or_pos j with hj0 | hj0
                · subst hj0
                  obtain rfl : n = i := by omega
                  have hfull : T.reverse.take n ++ List.replicate 0 (0 : UInt8) = Lib.itoa z := by
                    rw [List.replicate_zero, List.append_nil, List.take_of_length_le (by rw [List.length_reverse, ← HN.out]; exact Nat.le_refl _), HTT.out]
                  rw [hfull] at hs
                  have hcv := conv_bytes (n := n) (cap := n) hs (by rw [← HTT.out, List.length_reverse, ← HN.out])
                  clear hfull hs hij
                  go_wp2
                  go_ret
                  exact ⟨HBW.out, _, rfl, rfl⟩
                · obtain ⟨m, rfl⟩ : ∃ m, j = m + 1 := ⟨j - 1, by omega⟩
                  have hmT : m < T.length := by rw [← HN.out]; omega
                  have hq1 := HTW.out.cell m hmT
                  obtain ⟨yv, hq2⟩ : ∃ y, wr.cell? ⟨gs, i, none⟩ = some y := ⟨_, hs.cell i (by simp; rw [← HN.out]; omega)⟩
                  have hq3 := hs.frozen i
                  have HS := Lib.hid (hs.set i T[m] (by simp; rw [← HN.out]; omega))
                  rw [rev_set (by rw [← HN.out]; omega) hmT] at HS
                  obtain ⟨x, hx⟩ : ∃ x, x = T[m] := ⟨_, rfl⟩
                  rw [← hx] at hq1 HS
                  have hin : (i : Int) < (n : Int) := by omega
                  have hmn : (n : Int) - 1 - (i : Int) = (m : Int) := by omega
                  have hmn2 : (m : Int) < (n : Int) := by omega
                  have hi0 : (0 : Int) ≤ (i : Int) := by omega
                  have HIJ := Lib.hid hij
                  clear hx hs hij
                  go_wp2
                  go_roundw
                  case rel => exact ⟨i + 1, m, by go_num, by have := HIJ.out; omega, HS.out, Lib.hid (HTW.out.far (p := ⟨gs, i, none⟩) (Nat.ne_of_lt hgts) _), Lib.hid (HBW.out.setCell (p := ⟨gs, i, none⟩) (Nat.le_of_lt hgs2) _)⟩
                  case measure => have := HIJ.out; simp [intOf]; omega
end Go.Proofs.YtfklkphoplpebaaGreatDoor

/- The reference's form at any text (written by gen_rform.py). -/
namespace Go.Proofs.YtfklkphoplpebaaGreatDoor
open Go Go.RowKit Dig

theorem take_bytes (t : ByteArray) (k : Nat) (h : k < t.size) : t.data.toList.take (k + 1) = t.data.toList.take k ++ [t[k]] := by
  rw [List.take_succ_eq_append_getElem (by simpa using h)]; rfl
theorem first_byte (t : ByteArray) (h : 0 < t.size) : t.data.toList = t[0] :: t.data.toList.drop 1 := by
  have h1 := List.drop_eq_getElem_cons (l := t.data.toList) (i := 0) (by simpa using h)
  rw [List.drop_zero] at h1
  exact h1
section
variable {s : List UInt8} {r : Bool} (h : r = true ↔ (s = [48] ∨ ∃ c r, bare s = c :: r ∧ AllDig (bare s) ∧ c ≠ 48)) (h0 : s ≠ [48])
include h h0
theorem no_letter (ha : ¬ AllDig (bare s)) : r = false := by
  cases r
  · rfl
  · rcases h.1 rfl with e | ⟨_, _, _, e, _⟩
    · exact absurd e h0
    · exact absurd e ha
theorem no_lead (ha : ∃ q, bare s = 48 :: q) : r = false := by
  cases r
  · rfl
  · obtain ⟨q, e'⟩ := ha
    rcases h.1 rfl with e | ⟨c, _, e, _, hc⟩
    · exact absurd e h0
    · rw [e'] at e; exact absurd (List.cons.inj e).1.symm hc
theorem no_empty (ha : bare s = []) : r = false := by
  cases r
  · rfl
  · rcases h.1 rfl with e | ⟨c, _, e, _, _⟩
    · exact absurd e h0
    · rw [ha] at e; cases e
end

end Go.Proofs.YtfklkphoplpebaaGreatDoor

/- The reference's Text at any Long (written by gen_rtxt.py). -/
namespace Go.Proofs.YtfklkphoplpebaaGreatDoor
open Go Go.RowKit Dig

theorem T1_bad {n : Bool} {l : List Int} (h : ¬ Valid n l) : T1 (numOf n l) = ([], 30) := by rw [numOf_bad h]; rfl

end Go.Proofs.YtfklkphoplpebaaGreatDoor

/- The reference's Parse at any text (written by gen_rparse.py). -/
namespace Go.Proofs.YtfklkphoplpebaaGreatDoor
open Go Go.RowKit Dig

theorem OwnV.stored {w : World} {base g n cap : Nat} {l : List Int} (h : OwnV w base (.slice (some ⟨g, 0, none⟩) n cap) l) (j : Nat) (x : Int) : OwnV (w.setCell ⟨g, j, none⟩ (.int .i64 x)) base (.slice (some ⟨g, 0, none⟩) n cap) (l.set j x) := by
  have hn : n = l.length := by
    rcases h.form with ⟨h, _⟩ | ⟨g', cap', h, _⟩
    · cases h
    · injection h
  subst hn
  have h1 := (World.ownsRow.stored h j (.int .i64 x)).1
  rw [OwnV, List.length_set, List.map_set]
  exact h1
theorem canon_cases {s : List UInt8} (h : (canon s).isSome = true) : ∃ z, canon s = some z ∧ z = sgn (decide (bare s ≠ s)) (num (bare s)) ∧ AllDig (bare s) ∧ bare s ≠ [] ∧ (dig z.natAbs).length ≤ (bare s).length ∧ ((bare s).length ≤ 5400 ↔ (dig z.natAbs).length ≤ 600) := by
  obtain ⟨z, hz⟩ := Option.isSome_iff_exists.1 h
  have key : ∀ {z : Int} {t : List UInt8}, t = Lib.decDigits z.natAbs → (t.length ≤ 5400 ↔ (dig z.natAbs).length ≤ 600) := fun e => by rw [e]; exact dd_len_dig _ 600 (by omega)
  rcases (canon_iff s).1 h with e | ⟨c, r, e, ha, hc⟩
  · subst e
    rw [canon_zero] at hz
    have hz0 : z = 0 := (Option.some.inj hz).symm
    subst hz0
    have hb : bare [48] = [48] := bare_other [] (by decide)
    refine ⟨0, canon_zero, by rw [hb]; rfl, by rw [hb]; exact AllDig.cons ⟨by decide, by decide⟩ AllDig.nil, by rw [hb]; simp, ?_, ?_⟩
    · show (dig 0).length ≤ _; rw [dig_zero]; simp
    · rw [hb]; show _ ↔ (dig 0).length ≤ 600; rw [dig_zero]; simp
  · have h1 := canon_num e ha hc
    have hd := dd_of e ha hc rfl
    refine ⟨_, h1, rfl, ha, by rw [e]; simp, ?_, key (by rw [sgn_nat]; exact hd.symm)⟩
    rw [sgn_nat, dig_len_le, bp_ten]
    exact Nat.lt_of_lt_of_le (num_lt ha) (Nat.pow_le_pow_right (by omega) (by omega))
theorem dgt_byte {t : ByteArray} {i m : Nat} (h : t.size = i + m + 1) (hm : m < t.size) : dgt t.data.toList i = t[m].toNat - 48 := by
  unfold dgt
  have hl : t.data.toList.length = t.size := (Lib.size_eq t).symm
  rw [hl, show t.size - 1 - i = m by omega, List.getD_eq_getElem?_getD, List.getElem?_eq_getElem (by rw [hl]; exact hm)]
  rfl
theorem zero_set (d : List Nat) (x : Nat) : (ni (d ++ [0])).set d.length (x : Int) = ni (d ++ [x]) := by
  rw [ni_set, List.set_append_right _ _ (Nat.le_refl _), Nat.sub_self]; rfl

end Go.Proofs.YtfklkphoplpebaaGreatDoor
