/- The law LongInts (written by gen_ints.py). -/
import Derived.Test.YtnbanlmkoljghaaGreatDoorWorks
import Derived.IntWalk
import Derived.Deep.RegionHeld3
namespace Go.Proofs.YtnbanlmkoljghaaGreatDoor
open Go Go.RowKit Dig

theorem mul_bounds {M N : Int} (h0 : -2147483648 ≤ M) (h1 : M ≤ 2147483647) (k0 : -2147483648 ≤ N) (k1 : N ≤ 2147483647) : -4611686018427387904 ≤ M * N ∧ M * N ≤ 4611686018427387904 := by
  have h2 : (M * N).natAbs ≤ 2147483648 * 2147483648 := by rw [Int.natAbs_mul]; exact Nat.mul_le_mul (by omega) (by omega)
  generalize M * N = P at *
  omega

set_option maxRecDepth 100000 in
set_option maxHeartbeats 4000000 in
theorem LongInts_any (w : World) (G : Glob w) (m : Int) (hm0 : -9223372036854775808 ≤ m) (hm1 : m ≤ 9223372036854775807) (n : Int) (hn0 : -9223372036854775808 ≤ n) (hn1 : n ≤ 9223372036854775807) :
    Calls Tryz.prog 14 #[.int .i64 m, .int .i64 n] w fun e w' => Below w.heap.size w w' ∧ e = .returned (.bool true) := by
  go_enter Tryz.func14, Tryz.ntmps14
  go_wp2_with fail
  refine (works_any _ G).mono ?_
  rintro e w1 ⟨hb1, rfl⟩
  have HB_2 := Lib.hid (hb1)
  clear hb1
  go_wp2_with fail
  refine (Of_any _ m hm0 hm1).mono ?_
  rintro e w4 ⟨hb4, v1, rfl, hv1⟩
  have HB_5 := Lib.hid (HB_2.out.trans (hb4.mono HB_2.out.size))
  clear HB_2
  clear hb4
  obtain ⟨A7, c7, rfl, -⟩ := hv1.parts
  have Hx_7 := Lib.hid hv1
  clear hv1
  go_wp2_with fail
  refine (Of_any _ n hn0 hn1).mono ?_
  rintro e w8 ⟨hb8, v2, rfl, hv2⟩
  have HB_9 := Lib.hid (HB_5.out.trans (hb8.mono HB_5.out.size))
  clear HB_5
  have Hx_10 := Lib.hid (Hx_7.out.step hb8)
  clear Hx_7
  clear hb8
  obtain ⟨A11, c11, rfl, -⟩ := hv2.parts
  have Hy_11 := Lib.hid hv2
  clear hv2
  go_wp2_with fail
  obtain ⟨w12, hW12⟩ : ∃ w12 : World, w12 = w8.alloc (.cells #[.bool (decide (m < 0)), .slice A7 (dig (m).natAbs).length c7] 24) := ⟨_, rfl⟩
  rw [← hW12]
  have hal13 : Below w8.heap.size w8 w12 := by rw [hW12]; exact (Below.refl _ _).alloc (Nat.le_refl _) _
  have La_13 : LB w12 (w8.heap.size) (.bool (decide (m < 0))) (.slice A7 (dig (m).natAbs).length c7) := by rw [hW12]; exact LB.new' (show w8.heap.size = w8.heap.size from (rfl).symm)
  have ge_a : w.heap.size ≤ w8.heap.size := by have h1 : w.heap.size ≤ w8.heap.size := HB_9.out.size; have h2 : w8.heap.size = w8.heap.size := rfl; omega
  have HSZ_13 := Lib.hid (show w12.heap.size = w8.heap.size + 1 by rw [hW12]; have h2 : w8.heap.size = w8.heap.size := rfl; simp <;> omega)
  have HB_14 := Lib.hid (HB_9.out.trans (hal13.mono HB_9.out.size))
  clear HB_9
  have Hy_15 := Lib.hid (Hy_11.out.step hal13)
  clear Hy_11
  have Ha_tmp_15 := Lib.hid (Hx_10.out.step hal13)
  clear Hx_10
  clear hal13 hW12
  obtain ⟨w16, hW16⟩ : ∃ w16 : World, w16 = w12.alloc (.cells #[.bool (decide (n < 0)), .slice A11 (dig (n).natAbs).length c11] 24) := ⟨_, rfl⟩
  rw [← hW16]
  have hal17 : Below w12.heap.size w12 w16 := by rw [hW16]; exact (Below.refl _ _).alloc (Nat.le_refl _) _
  have Lb_17 : LB w16 (w8.heap.size + 1) (.bool (decide (n < 0))) (.slice A11 (dig (n).natAbs).length c11) := by rw [hW16]; exact LB.new' (show w8.heap.size + 1 = w12.heap.size from (HSZ_13.out).symm)
  have ne_a_b : w8.heap.size ≠ w8.heap.size + 1 := Nat.ne_of_lt (by have h1 := La_13.lt; have h2 : w12.heap.size = w8.heap.size + 1 := HSZ_13.out; omega)
  have ge_b : w.heap.size ≤ w8.heap.size + 1 := by have h1 : w.heap.size ≤ w12.heap.size := HB_14.out.size; have h2 : w12.heap.size = w8.heap.size + 1 := HSZ_13.out; omega
  have HSZ_17 := Lib.hid (show w16.heap.size = w8.heap.size + 1 + 1 by rw [hW16]; have h2 : w12.heap.size = w8.heap.size + 1 := HSZ_13.out; simp <;> omega)
  clear HSZ_13
  have HB_18 := Lib.hid (HB_14.out.trans (hal17.mono HB_14.out.size))
  clear HB_14
  have La_19 := La_13.step hal17
  clear La_13
  have Ha_19 := Lib.hid (Ha_tmp_15.out.step hal17)
  clear Ha_tmp_15
  have Hb_tmp_19 := Lib.hid (Hy_15.out.step hal17)
  clear Hy_15
  clear hal17 hW16
  have q20_0 := La_19.cell0
  have q20_1 := La_19.cell1
  have q20_2 := La_19.frozen 0
  have q20_3 := La_19.frozen 1
  have q20_lt := La_19.lt
  refine (Int_num Ha_19.out (fit_small (by omega)) (G.step HB_18.out)).mono ?_
  rintro e w21 ⟨hb21, he⟩
  rw [show intZ m = (m, 0) from if_pos ⟨hm0, hm1⟩] at he
  obtain rfl : e = .returned (.tuple #[.int .i64 m, .int .i64 0]) := he
  have HB_22 := Lib.hid (HB_18.out.trans (hb21.mono HB_18.out.size))
  clear HB_18
  have La_23 := La_19.step hb21
  clear La_19
  have Lb_23 := Lb_17.step hb21
  clear Lb_17
  have Ha_23 := Lib.hid (Ha_19.out.step hb21)
  clear Ha_19
  have Hb_23 := Lib.hid (Hb_tmp_19.out.step hb21)
  clear Hb_tmp_19
  clear hb21
  clear HSZ_17
  clear q20_0 q20_1 q20_2 q20_3 q20_lt
  have q24_0 := La_23.cell0
  have q24_1 := La_23.cell1
  have q24_2 := La_23.frozen 0
  have q24_3 := La_23.frozen 1
  have q24_lt := La_23.lt
  go_wp2_with fail
  refine (Text_num Ha_23.out (fit_small (by omega)) (G.step HB_22.out)).mono ?_
  rintro e w25 ⟨hb25, rfl⟩
  have HB_26 := Lib.hid (HB_22.out.trans (hb25.mono HB_22.out.size))
  clear HB_22
  have La_27 := La_23.step hb25
  clear La_23
  have Lb_27 := Lb_23.step hb25
  clear Lb_23
  have Ha_27 := Lib.hid (Ha_23.out.step hb25)
  clear Ha_23
  have Hb_27 := Lib.hid (Hb_23.out.step hb25)
  clear Hb_23
  clear hb25
  clear q24_0 q24_1 q24_2 q24_3 q24_lt
  obtain ⟨tm, htm⟩ : ∃ tm : ByteArray, tm = ⟨(Lib.itoa m).toArray⟩ := ⟨_, rfl⟩
  rw [← htm]
  have HTM := Lib.hid htm
  clear htm
  have q28_0 := La_27.cell0
  have q28_1 := La_27.cell1
  have q28_2 := La_27.frozen 0
  have q28_3 := La_27.frozen 1
  have q28_lt := La_27.lt
  have q29_0 := Lb_27.cell0
  have q29_1 := Lb_27.cell1
  have q29_2 := Lb_27.frozen 0
  have q29_3 := Lb_27.frozen 1
  have q29_lt := Lb_27.lt
  go_wp2_with fail
  refine (Cmp_num Ha_27.out Hb_27.out (fit_small (by omega)) (fit_small (by omega))).mono ?_
  rintro e w30 ⟨hb30, rfl⟩
  have HB_31 := Lib.hid (HB_26.out.trans (hb30.mono HB_26.out.size))
  clear HB_26
  have La_32 := La_27.step hb30
  clear La_27
  have Lb_32 := Lb_27.step hb30
  clear Lb_27
  have Ha_32 := Lib.hid (Ha_27.out.step hb30)
  clear Ha_27
  have Hb_32 := Lib.hid (Hb_27.out.step hb30)
  clear Hb_27
  clear hb30
  clear q28_0 q28_1 q28_2 q28_3 q28_lt q29_0 q29_1 q29_2 q29_3 q29_lt
  have hc1 : decide ((cmpZ m n).1 < 0) = decide (m < n) := by unfold cmpZ; dsimp only; split <;> (try split) <;> simp <;> omega
  have hc2 : decide (0 < (cmpZ m n).1) = decide (n < m) := by unfold cmpZ; dsimp only; split <;> (try split) <;> simp <;> omega
  generalize (cmpZ m n).1 = cc at *
  go_wp2_with fail
  refine (Itoa_any m hm0 hm1 _ (G.step HB_31.out)).mono ?_
  rintro e w33 ⟨rfl, hb33⟩
  have HB_34 := Lib.hid (HB_31.out.trans (hb33.mono HB_31.out.size))
  clear HB_31
  have La_35 := La_32.step hb33
  clear La_32
  have Lb_35 := Lb_32.step hb33
  clear Lb_32
  have Ha_35 := Lib.hid (Ha_32.out.step hb33)
  clear Ha_32
  have Hb_35 := Lib.hid (Hb_32.out.step hb33)
  clear Hb_32
  clear hb33
  rw [← HTM.out]
  have htt : (tm.toList == tm.toList) = true := by simp
  have q36_0 := La_35.cell0
  have q36_1 := La_35.cell1
  have q36_2 := La_35.frozen 0
  have q36_3 := La_35.frozen 1
  have q36_lt := La_35.lt
  have q37_0 := Lb_35.cell0
  have q37_1 := Lb_35.cell1
  have q37_2 := Lb_35.frozen 0
  have q37_3 := Lb_35.frozen 1
  have q37_lt := Lb_35.lt
  go_wp2_with fail
  clear q36_0 q36_1 q36_2 q36_3 q36_lt q37_0 q37_1 q37_2 q37_3 q37_lt
  clear hc1 hc2 htt HTM
  have hM0 : -2147483648 ≤ m / 4294967296 := by omega
  have hM1 : m / 4294967296 ≤ 2147483647 := by omega
  have hN0 : -2147483648 ≤ n / 4294967296 := by omega
  have hN1 : n / 4294967296 ≤ 2147483647 := by omega
  generalize m / 4294967296 = M at *
  generalize n / 4294967296 = N at *
  refine (Of_any _ M (by omega) (by omega)).mono ?_
  rintro e w38 ⟨hb38, v3, rfl, hv3⟩
  have HB_39 := Lib.hid (HB_34.out.trans (hb38.mono HB_34.out.size))
  clear HB_34
  have La_40 := La_35.step hb38
  clear La_35
  have Lb_40 := Lb_35.step hb38
  clear Lb_35
  have Ha_40 := Lib.hid (Ha_35.out.step hb38)
  clear Ha_35
  have Hb_40 := Lib.hid (Hb_35.out.step hb38)
  clear Hb_35
  clear hb38
  obtain ⟨A41, c41, rfl, -⟩ := hv3.parts
  have Hx_41 := Lib.hid hv3
  clear hv3
  go_wp2_with fail
  refine (Of_any _ N (by omega) (by omega)).mono ?_
  rintro e w42 ⟨hb42, v4, rfl, hv4⟩
  have HB_43 := Lib.hid (HB_39.out.trans (hb42.mono HB_39.out.size))
  clear HB_39
  have La_44 := La_40.step hb42
  clear La_40
  have Lb_44 := Lb_40.step hb42
  clear Lb_40
  have Ha_44 := Lib.hid (Ha_40.out.step hb42)
  clear Ha_40
  have Hb_44 := Lib.hid (Hb_40.out.step hb42)
  clear Hb_40
  have Hx_44 := Lib.hid (Hx_41.out.step hb42)
  clear Hx_41
  clear hb42
  obtain ⟨A45, c45, rfl, -⟩ := hv4.parts
  have Hy_45 := Lib.hid hv4
  clear hv4
  have q46_0 := La_44.cell0
  have q46_1 := La_44.cell1
  have q46_2 := La_44.frozen 0
  have q46_3 := La_44.frozen 1
  have q46_lt := La_44.lt
  have q47_0 := Lb_44.cell0
  have q47_1 := Lb_44.cell1
  have q47_2 := Lb_44.frozen 0
  have q47_3 := Lb_44.frozen 1
  have q47_lt := Lb_44.lt
  go_wp2_with fail
  clear q46_0 q46_1 q46_2 q46_3 q46_lt q47_0 q47_1 q47_2 q47_3 q47_lt
  obtain ⟨w48, hW48⟩ : ∃ w48 : World, w48 = (w42.setCell ⟨w8.heap.size, 0, none⟩ (.bool (decide (M < 0)))).setCell ⟨w8.heap.size, 1, none⟩ (.slice A41 (dig (M).natAbs).length c41) := ⟨_, rfl⟩
  rw [← hW48]
  have LX49 := La_44
  have HB_50 := Lib.hid (show Below w.heap.size w w48 by rw [hW48]; exact (HB_43.out.setCell (p := ⟨w8.heap.size, 0, none⟩) ge_a (.bool (decide (M < 0)))).setCell (p := ⟨w8.heap.size, 1, none⟩) ge_a (.slice A41 (dig (M).natAbs).length c41))
  clear HB_43
  have HSZ_49 := Lib.hid (show w48.heap.size = w42.heap.size by rw [hW48]; simp [World.setCell])
  have La_51 := show LB w48 _ _ _ by rw [hW48]; exact (LX49.set0 (.bool (decide (M < 0)))).set1 (.slice A41 (dig (M).natAbs).length c41)
  clear La_44
  have Lb_51 := show LB w48 _ _ _ by rw [hW48]; exact (Lb_44.far (p := ⟨w8.heap.size, 0, none⟩) ne_a_b.symm (.bool (decide (M < 0)))).far (p := ⟨w8.heap.size, 1, none⟩) ne_a_b.symm (.slice A41 (dig (M).natAbs).length c41)
  clear Lb_44
  have Hb_51 := Lib.hid (show LV w48 w48.heap.size _ _ by rw [hW48]; exact LV.setLB Hb_44.out LX49 (.bool (decide (M < 0))) (.slice A41 (dig (M).natAbs).length c41) rfl rfl)
  clear Hb_44
  have Hx_51 := Lib.hid (show LV w48 w48.heap.size _ _ by rw [hW48]; exact LV.setLB Hx_44.out LX49 (.bool (decide (M < 0))) (.slice A41 (dig (M).natAbs).length c41) rfl rfl)
  clear Hx_44
  have Hy_51 := Lib.hid (show LV w48 w48.heap.size _ _ by rw [hW48]; exact LV.setLB Hy_45.out LX49 (.bool (decide (M < 0))) (.slice A41 (dig (M).natAbs).length c41) rfl rfl)
  clear Hy_45
  clear LX49 hW48
  obtain ⟨w52, hW52⟩ : ∃ w52 : World, w52 = (w48.setCell ⟨w8.heap.size + 1, 0, none⟩ (.bool (decide (N < 0)))).setCell ⟨w8.heap.size + 1, 1, none⟩ (.slice A45 (dig (N).natAbs).length c45) := ⟨_, rfl⟩
  rw [← hW52]
  have LX53 := Lb_51
  have HB_54 := Lib.hid (show Below w.heap.size w w52 by rw [hW52]; exact (HB_50.out.setCell (p := ⟨w8.heap.size + 1, 0, none⟩) ge_b (.bool (decide (N < 0)))).setCell (p := ⟨w8.heap.size + 1, 1, none⟩) ge_b (.slice A45 (dig (N).natAbs).length c45))
  clear HB_50
  have HSZ_53 := Lib.hid (show w52.heap.size = w42.heap.size by rw [hW52]; have h2 : w48.heap.size = w42.heap.size := HSZ_49.out; simp [World.setCell] <;> omega)
  clear HSZ_49
  have La_55 := show LB w52 _ _ _ by rw [hW52]; exact (La_51.far (p := ⟨w8.heap.size + 1, 0, none⟩) ne_a_b (.bool (decide (N < 0)))).far (p := ⟨w8.heap.size + 1, 1, none⟩) ne_a_b (.slice A45 (dig (N).natAbs).length c45)
  clear La_51
  have Lb_55 := show LB w52 _ _ _ by rw [hW52]; exact (LX53.set0 (.bool (decide (N < 0)))).set1 (.slice A45 (dig (N).natAbs).length c45)
  clear Lb_51
  have Ha_55 := Lib.hid (show LV w52 w52.heap.size _ _ by rw [hW52]; exact LV.setLB Hx_51.out LX53 (.bool (decide (N < 0))) (.slice A45 (dig (N).natAbs).length c45) rfl rfl)
  clear Hx_51
  have Hy_55 := Lib.hid (show LV w52 w52.heap.size _ _ by rw [hW52]; exact LV.setLB Hy_51.out LX53 (.bool (decide (N < 0))) (.slice A45 (dig (N).natAbs).length c45) rfl rfl)
  clear Hy_51
  clear LX53 hW52
  have hP0 : -4611686018427387904 ≤ M * N ∧ M * N ≤ 4611686018427387904 := mul_bounds hM0 hM1 hN0 hN1
  have hP1 := hP0.1
  have hP2 := hP0.2
  clear hP0
  have q56_0 := La_55.cell0
  have q56_1 := La_55.cell1
  have q56_2 := La_55.frozen 0
  have q56_3 := La_55.frozen 1
  have q56_lt := La_55.lt
  have q57_0 := Lb_55.cell0
  have q57_1 := Lb_55.cell1
  have q57_2 := Lb_55.frozen 0
  have q57_3 := Lb_55.frozen 1
  have q57_lt := Lb_55.lt
  refine (Add_num Ha_55.out Hy_55.out (fit_small (by omega)) (fit_small (by omega)) (fit_small (by omega))).mono ?_
  rintro e w58 ⟨hb58, v5, rfl, hv5⟩
  have HB_59 := Lib.hid (HB_54.out.trans (hb58.mono HB_54.out.size))
  clear HB_54
  have La_60 := La_55.step hb58
  clear La_55
  have Lb_60 := Lb_55.step hb58
  clear Lb_55
  have Ha_60 := Lib.hid (Ha_55.out.step hb58)
  clear Ha_55
  have Hb_60 := Lib.hid (Hy_55.out.step hb58)
  clear Hy_55
  clear hb58
  clear HSZ_53
  clear q56_0 q56_1 q56_2 q56_3 q56_lt q57_0 q57_1 q57_2 q57_3 q57_lt
  obtain ⟨A61, c61, rfl, -⟩ := hv5.parts
  have Hs_61 := Lib.hid hv5
  clear hv5
  have q62_0 := La_60.cell0
  have q62_1 := La_60.cell1
  have q62_2 := La_60.frozen 0
  have q62_3 := La_60.frozen 1
  have q62_lt := La_60.lt
  have q63_0 := Lb_60.cell0
  have q63_1 := Lb_60.cell1
  have q63_2 := Lb_60.frozen 0
  have q63_3 := Lb_60.frozen 1
  have q63_lt := Lb_60.lt
  go_wp2_with fail
  clear q62_0 q62_1 q62_2 q62_3 q62_lt q63_0 q63_1 q63_2 q63_3 q63_lt
  obtain ⟨w64, hW64⟩ : ∃ w64 : World, w64 = w58.alloc (.cells #[.bool (decide (M + N < 0)), .slice A61 (dig (M + N).natAbs).length c61] 24) := ⟨_, rfl⟩
  rw [← hW64]
  have hal65 : Below w58.heap.size w58 w64 := by rw [hW64]; exact (Below.refl _ _).alloc (Nat.le_refl _) _
  have Lx_65 : LB w64 (w58.heap.size) (.bool (decide (M + N < 0))) (.slice A61 (dig (M + N).natAbs).length c61) := by rw [hW64]; exact LB.new' (show w58.heap.size = w58.heap.size from (rfl).symm)
  have ne_a_x : w8.heap.size ≠ w58.heap.size := Nat.ne_of_lt (by have h1 := La_60.lt; have h2 : w58.heap.size = w58.heap.size := rfl; omega)
  have ne_b_x : w8.heap.size + 1 ≠ w58.heap.size := Nat.ne_of_lt (by have h1 := Lb_60.lt; have h2 : w58.heap.size = w58.heap.size := rfl; omega)
  have ge_x : w.heap.size ≤ w58.heap.size := by have h1 : w.heap.size ≤ w58.heap.size := HB_59.out.size; have h2 : w58.heap.size = w58.heap.size := rfl; omega
  have HSZ_65 := Lib.hid (show w64.heap.size = w58.heap.size + 1 by rw [hW64]; have h2 : w58.heap.size = w58.heap.size := rfl; simp <;> omega)
  have HB_66 := Lib.hid (HB_59.out.trans (hal65.mono HB_59.out.size))
  clear HB_59
  have La_67 := La_60.step hal65
  clear La_60
  have Lb_67 := Lb_60.step hal65
  clear Lb_60
  have Ha_67 := Lib.hid (Ha_60.out.step hal65)
  clear Ha_60
  have Hb_67 := Lib.hid (Hb_60.out.step hal65)
  clear Hb_60
  have Hx_tmp_67 := Lib.hid (Hs_61.out.step hal65)
  clear Hs_61
  clear hal65 hW64
  have q68_0 := La_67.cell0
  have q68_1 := La_67.cell1
  have q68_2 := La_67.frozen 0
  have q68_3 := La_67.frozen 1
  have q68_lt := La_67.lt
  have q69_0 := Lb_67.cell0
  have q69_1 := Lb_67.cell1
  have q69_2 := Lb_67.frozen 0
  have q69_3 := Lb_67.frozen 1
  have q69_lt := Lb_67.lt
  refine (Mul_num Ha_67.out Hb_67.out (fit_small (by omega)) (fit_small (by omega)) (fit_small (by omega))).mono ?_
  rintro e w70 ⟨hb70, v6, rfl, hv6⟩
  have HB_71 := Lib.hid (HB_66.out.trans (hb70.mono HB_66.out.size))
  clear HB_66
  have La_72 := La_67.step hb70
  clear La_67
  have Lb_72 := Lb_67.step hb70
  clear Lb_67
  have Lx_72 := Lx_65.step hb70
  clear Lx_65
  have Ha_72 := Lib.hid (Ha_67.out.step hb70)
  clear Ha_67
  have Hb_72 := Lib.hid (Hb_67.out.step hb70)
  clear Hb_67
  have Hx_72 := Lib.hid (Hx_tmp_67.out.step hb70)
  clear Hx_tmp_67
  clear hb70
  clear HSZ_65
  clear q68_0 q68_1 q68_2 q68_3 q68_lt q69_0 q69_1 q69_2 q69_3 q69_lt
  obtain ⟨A73, c73, rfl, -⟩ := hv6.parts
  have Hp_73 := Lib.hid hv6
  clear hv6
  go_wp2
  obtain ⟨w74, hW74⟩ : ∃ w74 : World, w74 = w70.alloc (.cells #[.bool (decide (M * N < 0)), .slice A73 (dig (M * N).natAbs).length c73] 24) := ⟨_, rfl⟩
  rw [← hW74]
  have hal75 : Below w70.heap.size w70 w74 := by rw [hW74]; exact (Below.refl _ _).alloc (Nat.le_refl _) _
  have Ly_75 : LB w74 (w70.heap.size) (.bool (decide (M * N < 0))) (.slice A73 (dig (M * N).natAbs).length c73) := by rw [hW74]; exact LB.new' (show w70.heap.size = w70.heap.size from (rfl).symm)
  have ne_a_y : w8.heap.size ≠ w70.heap.size := Nat.ne_of_lt (by have h1 := La_72.lt; have h2 : w70.heap.size = w70.heap.size := rfl; omega)
  have ne_b_y : w8.heap.size + 1 ≠ w70.heap.size := Nat.ne_of_lt (by have h1 := Lb_72.lt; have h2 : w70.heap.size = w70.heap.size := rfl; omega)
  have ne_x_y : w58.heap.size ≠ w70.heap.size := Nat.ne_of_lt (by have h1 := Lx_72.lt; have h2 : w70.heap.size = w70.heap.size := rfl; omega)
  have ge_y : w.heap.size ≤ w70.heap.size := by have h1 : w.heap.size ≤ w70.heap.size := HB_71.out.size; have h2 : w70.heap.size = w70.heap.size := rfl; omega
  have HSZ_75 := Lib.hid (show w74.heap.size = w70.heap.size + 1 by rw [hW74]; have h2 : w70.heap.size = w70.heap.size := rfl; simp <;> omega)
  have HB_76 := Lib.hid (HB_71.out.trans (hal75.mono HB_71.out.size))
  clear HB_71
  have La_77 := La_72.step hal75
  clear La_72
  have Lb_77 := Lb_72.step hal75
  clear Lb_72
  have Lx_77 := Lx_72.step hal75
  clear Lx_72
  have Ha_77 := Lib.hid (Ha_72.out.step hal75)
  clear Ha_72
  have Hb_77 := Lib.hid (Hb_72.out.step hal75)
  clear Hb_72
  have Hx_77 := Lib.hid (Hx_72.out.step hal75)
  clear Hx_72
  have Hy_tmp_77 := Lib.hid (Hp_73.out.step hal75)
  clear Hp_73
  clear hal75 hW74
  have q78_0 := Lx_77.cell0
  have q78_1 := Lx_77.cell1
  have q78_2 := Lx_77.frozen 0
  have q78_3 := Lx_77.frozen 1
  have q78_lt := Lx_77.lt
  have q79_0 := Ly_75.cell0
  have q79_1 := Ly_75.cell1
  have q79_2 := Ly_75.frozen 0
  have q79_3 := Ly_75.frozen 1
  have q79_lt := Ly_75.lt
  have hw1 : IntKind.i64.wrap (M + N) = M + N := IntWalk.i64_in _ (by omega)
  have hw2 : IntKind.i64.wrap (M * N) = M * N := IntWalk.i64_in _ (by omega)
  have HF1_80 := Lib.hid (show (dig (M + N).natAbs).length ≤ 600 from fit_small (by omega))
  have HF2_80 := Lib.hid (show (dig (M * N).natAbs).length ≤ 600 from fit_small (by omega))
  have tok81 : True := trivial
  have tok82 : True := trivial
  have tok83 : True := trivial
  have tok84 : True := trivial
  have tok85 : True := trivial
  have tok86 : True := trivial
  go_region_held3 (fun w' => w'.cell? ⟨w58.heap.size, 0, none⟩ = some (.bool (decide (M + N < 0))) ∧ w'.cell? ⟨w58.heap.size, 1, none⟩ = some (.slice A61 (dig (M + N).natAbs).length c61) ∧ w'.cell? ⟨w70.heap.size, 0, none⟩ = some (.bool (decide (M * N < 0))) ∧ w'.cell? ⟨w70.heap.size, 1, none⟩ = some (.slice A73 (dig (M * N).natAbs).length c73)) (first
    | (exact ⟨(LB.drew Lx_77).cell0, (LB.drew Lx_77).cell1, (LB.drew Ly_75).cell0, (LB.drew Ly_75).cell1⟩)
    | (exact ⟨Lx_77.cell0, Lx_77.cell1, Ly_75.cell0, Ly_75.cell1⟩)
    | (exact ⟨Lx_89.cell0, Lx_89.cell1, Ly_89.cell0, Ly_89.cell1⟩)
    | (exact ⟨Lx_94.cell0, Lx_94.cell1, Ly_94.cell0, Ly_94.cell1⟩)
    | (exact ⟨Lx_99.cell0, Lx_99.cell1, Ly_99.cell0, Ly_99.cell1⟩)
    | (exact ⟨Lx_103.cell0, Lx_103.cell1, Ly_103.cell0, Ly_103.cell1⟩)
    | (exact ⟨Lx_107.cell0, Lx_107.cell1, Ly_107.cell0, Ly_107.cell1⟩)
    | (exact ⟨Lx_111.cell0, Lx_111.cell1, Ly_111.cell0, Ly_111.cell1⟩)
    | go_keep) (first
    | (go_at_call 56; clear tok81; ((with_reducible refine (Itoa_any (M + N) (by omega) (by omega) _ (by exact (G.step HB_76.out).drew)).mono ?_); rintro e u87 ⟨rfl, hb87⟩; replace hb87 := below_undrew hb87; have HB_88 := Lib.hid (HB_76.out.trans (hb87.mono (by exact HB_76.out.size))); clear HB_76; have La_89 := La_77.step hb87; clear La_77; have Lb_89 := Lb_77.step hb87; clear Lb_77; have Lx_89 := Lx_77.step hb87; clear Lx_77; have Ly_89 := Ly_75.step hb87; clear Ly_75; have Ha_89 := Lib.hid (Ha_77.out.step hb87); clear Ha_77; have Hb_89 := Lib.hid (Hb_77.out.step hb87); clear Hb_77; have Hx_89 := Lib.hid (Hx_77.out.step hb87); clear Hx_77; have Hy_89 := Lib.hid (Hy_tmp_77.out.step hb87); clear Hy_tmp_77; clear HSZ_75; obtain ⟨t1, ht1⟩ : ∃ t1 : ByteArray, t1 = ⟨(Lib.itoa (M + N)).toArray⟩ := ⟨_, rfl⟩; rw [← ht1]; have HSt1 := Lib.hid (show Lib.itoa (M + N) = t1.data.toList by rw [ht1]); clear ht1; have q90_0 := Lx_89.cell0; have q90_1 := Lx_89.cell1; have q90_2 := Lx_89.frozen 0; have q90_3 := Lx_89.frozen 1; have q90_lt := Lx_89.lt; have q91_0 := Ly_89.cell0; have q91_1 := Ly_89.cell1; have q91_2 := Ly_89.frozen 0; have q91_3 := Ly_89.frozen 1; have q91_lt := Ly_89.lt; clear hb87))
    | (go_at_call 41; clear tok82; ((with_reducible refine (is_any _ t1).mono ?_); rintro e u92 ⟨hb92, N1, rfl, hN⟩; have HB_93 := Lib.hid (HB_88.out.trans (hb92.mono (by exact HB_88.out.size))); clear HB_88; have La_94 := La_89.step hb92; clear La_89; have Lb_94 := Lb_89.step hb92; clear Lb_89; have Lx_94 := Lx_89.step hb92; clear Lx_89; have Ly_94 := Ly_89.step hb92; clear Ly_89; have Ha_94 := Lib.hid (Ha_89.out.step hb92); clear Ha_89; have Hb_94 := Lib.hid (Hb_89.out.step hb92); clear Hb_89; have Hx_94 := Lib.hid (Hx_89.out.step hb92); clear Hx_89; have Hy_94 := Lib.hid (Hy_89.out.step hb92); clear Hy_89; have Oc1 := Lib.hid hN; clear hN; have q95_0 := Lx_94.cell0; have q95_1 := Lx_94.cell1; have q95_2 := Lx_94.frozen 0; have q95_3 := Lx_94.frozen 1; have q95_lt := Lx_94.lt; have q96_0 := Ly_94.cell0; have q96_1 := Ly_94.cell1; have q96_2 := Ly_94.frozen 0; have q96_3 := Ly_94.frozen 1; have q96_lt := Ly_94.lt; clear hb92))
    | (go_at_call 86; clear tok83; ((with_reducible refine (is1_yes _ N1 t1 _ (M + N) Oc1.out Hx_94.out HF1_80.out HSt1.out (G.step HB_93.out)).mono ?_); rintro e u97 ⟨hb97, rfl⟩; have HB_98 := Lib.hid (HB_93.out.trans (hb97.mono (by exact HB_93.out.size))); clear HB_93; have La_99 := La_94.step hb97; clear La_94; have Lb_99 := Lb_94.step hb97; clear Lb_94; have Lx_99 := Lx_94.step hb97; clear Lx_94; have Ly_99 := Ly_94.step hb97; clear Ly_94; have Ha_99 := Lib.hid (Ha_94.out.step hb97); clear Ha_94; have Hb_99 := Lib.hid (Hb_94.out.step hb97); clear Hb_94; have Hx_99 := Lib.hid (Hx_94.out.step hb97); clear Hx_94; have Hy_99 := Lib.hid (Hy_94.out.step hb97); clear Hy_94; have Oc1_99 := Lib.hid (Oc1.out.step hb97); clear Oc1; have q100_0 := Ly_99.cell0; have q100_1 := Ly_99.cell1; have q100_2 := Ly_99.frozen 0; have q100_3 := Ly_99.frozen 1; have q100_lt := Ly_99.lt; clear hb97))
    | (go_at_call 56; clear tok84; ((with_reducible refine (Itoa_any (M * N) (by omega) (by omega) _ (G.step HB_98.out)).mono ?_); rintro e u101 ⟨rfl, hb101⟩; have HB_102 := Lib.hid (HB_98.out.trans (hb101.mono (by exact HB_98.out.size))); clear HB_98; have La_103 := La_99.step hb101; clear La_99; have Lb_103 := Lb_99.step hb101; clear Lb_99; have Lx_103 := Lx_99.step hb101; clear Lx_99; have Ly_103 := Ly_99.step hb101; clear Ly_99; have Ha_103 := Lib.hid (Ha_99.out.step hb101); clear Ha_99; have Hb_103 := Lib.hid (Hb_99.out.step hb101); clear Hb_99; have Hx_103 := Lib.hid (Hx_99.out.step hb101); clear Hx_99; have Hy_103 := Lib.hid (Hy_99.out.step hb101); clear Hy_99; have Oc1_103 := Lib.hid (Oc1_99.out.step hb101); clear Oc1_99; obtain ⟨t2, ht2⟩ : ∃ t2 : ByteArray, t2 = ⟨(Lib.itoa (M * N)).toArray⟩ := ⟨_, rfl⟩; rw [← ht2]; have HSt2 := Lib.hid (show Lib.itoa (M * N) = t2.data.toList by rw [ht2]); clear ht2; have q104_0 := Ly_103.cell0; have q104_1 := Ly_103.cell1; have q104_2 := Ly_103.frozen 0; have q104_3 := Ly_103.frozen 1; have q104_lt := Ly_103.lt; clear hb101))
    | (go_at_call 41; clear tok85; ((with_reducible refine (is_any _ t2).mono ?_); rintro e u105 ⟨hb105, N2, rfl, hN⟩; have HB_106 := Lib.hid (HB_102.out.trans (hb105.mono (by exact HB_102.out.size))); clear HB_102; have La_107 := La_103.step hb105; clear La_103; have Lb_107 := Lb_103.step hb105; clear Lb_103; have Lx_107 := Lx_103.step hb105; clear Lx_103; have Ly_107 := Ly_103.step hb105; clear Ly_103; have Ha_107 := Lib.hid (Ha_103.out.step hb105); clear Ha_103; have Hb_107 := Lib.hid (Hb_103.out.step hb105); clear Hb_103; have Hx_107 := Lib.hid (Hx_103.out.step hb105); clear Hx_103; have Hy_107 := Lib.hid (Hy_103.out.step hb105); clear Hy_103; have Oc1_107 := Lib.hid (Oc1_103.out.step hb105); clear Oc1_103; have Oc2 := Lib.hid hN; clear hN; have q108_0 := Ly_107.cell0; have q108_1 := Ly_107.cell1; have q108_2 := Ly_107.frozen 0; have q108_3 := Ly_107.frozen 1; have q108_lt := Ly_107.lt; clear hb105))
    | (go_at_call 86; clear tok86; ((with_reducible refine (is1_yes _ N2 t2 _ (M * N) Oc2.out Hy_107.out HF2_80.out HSt2.out (G.step HB_106.out)).mono ?_); rintro e u109 ⟨hb109, rfl⟩; have HB_110 := Lib.hid (HB_106.out.trans (hb109.mono (by exact HB_106.out.size))); clear HB_106; have La_111 := La_107.step hb109; clear La_107; have Lb_111 := Lb_107.step hb109; clear Lb_107; have Lx_111 := Lx_107.step hb109; clear Lx_107; have Ly_111 := Ly_107.step hb109; clear Ly_107; have Ha_111 := Lib.hid (Ha_107.out.step hb109); clear Ha_107; have Hb_111 := Lib.hid (Hb_107.out.step hb109); clear Hb_107; have Hx_111 := Lib.hid (Hx_107.out.step hb109); clear Hx_107; have Hy_111 := Lib.hid (Hy_107.out.step hb109); clear Hy_107; have Oc1_111 := Lib.hid (Oc1_107.out.step hb109); clear Oc1_107; have Oc2_111 := Lib.hid (Oc2.out.step hb109); clear Oc2; clear hb109)))
  clear hw1 hw2
  rename_i hheld
  clear hheld
  by_cases hz : N = 0
  · subst hz
    go_wp2
    go_ret
    exact ⟨HB_110.out, rfl⟩
  · have hzb : (N == 0) = false := by rw [beq_eq_false_iff_ne]; exact hz
    have hd := Int.natAbs_tdiv M N
    have hm := Int.natAbs_tmod M N
    have hd1 : M.natAbs.div N.natAbs ≤ M.natAbs := Nat.div_le_self _ _
    have hm1' : M.natAbs % N.natAbs ≤ M.natAbs := Nat.mod_le _ _
    have hD0 : -2147483648 ≤ Int.tdiv M N := by omega
    have hD1 : Int.tdiv M N ≤ 2147483648 := by omega
    have hE0 : -2147483648 ≤ Int.tmod M N := by omega
    have hE1 : Int.tmod M N ≤ 2147483648 := by omega
    have HZ := Lib.hid hz
    clear hd hm hd1 hm1'
    obtain ⟨D, hD⟩ : ∃ D, D = Int.tdiv M N := ⟨_, rfl⟩
    obtain ⟨E, hE⟩ : ∃ E, E = Int.tmod M N := ⟨_, rfl⟩
    rw [← hD] at hD0 hD1
    rw [← hE] at hE0 hE1
    have HD := Lib.hid hD
    have HE := Lib.hid hE
    clear hD hE
    clear Lx_111
    clear Hx_111
    clear Ly_111
    clear Hy_111
    clear Oc1_111
    clear Oc2_111
    have q112_0 := La_111.cell0
    have q112_1 := La_111.cell1
    have q112_2 := La_111.frozen 0
    have q112_3 := La_111.frozen 1
    have q112_lt := La_111.lt
    have q113_0 := Lb_111.cell0
    have q113_1 := Lb_111.cell1
    have q113_2 := Lb_111.frozen 0
    have q113_3 := Lb_111.frozen 1
    have q113_lt := Lb_111.lt
    go_wp2_with fail
    refine (Div_num Ha_111.out Hb_111.out (fit_small (by omega)) (fit_small (by omega)) HZ.out).mono ?_
    rintro e w114 ⟨hb114, v7, v8, rfl, hv7, hv8⟩
    rw [← HD.out] at hv7
    rw [← HE.out] at hv8
    have HB_115 := Lib.hid (HB_110.out.trans (hb114.mono HB_110.out.size))
    clear HB_110
    have La_116 := La_111.step hb114
    clear La_111
    have Lb_116 := Lb_111.step hb114
    clear Lb_111
    have Ha_116 := Lib.hid (Ha_111.out.step hb114)
    clear Ha_111
    have Hb_116 := Lib.hid (Hb_111.out.step hb114)
    clear Hb_111
    clear hb114
    clear q112_0 q112_1 q112_2 q112_3 q112_lt q113_0 q113_1 q113_2 q113_3 q113_lt
    obtain ⟨A117, c117, rfl, -⟩ := hv7.parts
    have Hd_117 := Lib.hid hv7
    clear hv7
    obtain ⟨A118, c118, rfl, -⟩ := hv8.parts
    have Hr_118 := Lib.hid hv8
    clear hv8
    go_wp2
    obtain ⟨w119, hW119⟩ : ∃ w119 : World, w119 = w114.alloc (.cells #[.bool (decide (D < 0)), .slice A117 (dig (D).natAbs).length c117] 24) := ⟨_, rfl⟩
    rw [← hW119]
    have hal120 : Below w114.heap.size w114 w119 := by rw [hW119]; exact (Below.refl _ _).alloc (Nat.le_refl _) _
    have Lx_120 : LB w119 (w114.heap.size) (.bool (decide (D < 0))) (.slice A117 (dig (D).natAbs).length c117) := by rw [hW119]; exact LB.new' (show w114.heap.size = w114.heap.size from (rfl).symm)
    have ne_a_x : w8.heap.size ≠ w114.heap.size := Nat.ne_of_lt (by have h1 := La_116.lt; have h2 : w114.heap.size = w114.heap.size := rfl; omega)
    have ne_b_x : w8.heap.size + 1 ≠ w114.heap.size := Nat.ne_of_lt (by have h1 := Lb_116.lt; have h2 : w114.heap.size = w114.heap.size := rfl; omega)
    have ge_x : w.heap.size ≤ w114.heap.size := by have h1 : w.heap.size ≤ w114.heap.size := HB_115.out.size; have h2 : w114.heap.size = w114.heap.size := rfl; omega
    have HSZ_120 := Lib.hid (show w119.heap.size = w114.heap.size + 1 by rw [hW119]; have h2 : w114.heap.size = w114.heap.size := rfl; simp <;> omega)
    have HB_121 := Lib.hid (HB_115.out.trans (hal120.mono HB_115.out.size))
    clear HB_115
    have La_122 := La_116.step hal120
    clear La_116
    have Lb_122 := Lb_116.step hal120
    clear Lb_116
    have Ha_122 := Lib.hid (Ha_116.out.step hal120)
    clear Ha_116
    have Hb_122 := Lib.hid (Hb_116.out.step hal120)
    clear Hb_116
    have Hr_122 := Lib.hid (Hr_118.out.step hal120)
    clear Hr_118
    have Hx_tmp_122 := Lib.hid (Hd_117.out.step hal120)
    clear Hd_117
    clear hal120 hW119
    obtain ⟨w123, hW123⟩ : ∃ w123 : World, w123 = w119.alloc (.cells #[.bool (decide (E < 0)), .slice A118 (dig (E).natAbs).length c118] 24) := ⟨_, rfl⟩
    rw [← hW123]
    have hal124 : Below w119.heap.size w119 w123 := by rw [hW123]; exact (Below.refl _ _).alloc (Nat.le_refl _) _
    have Ly_124 : LB w123 (w114.heap.size + 1) (.bool (decide (E < 0))) (.slice A118 (dig (E).natAbs).length c118) := by rw [hW123]; exact LB.new' (show w114.heap.size + 1 = w119.heap.size from (HSZ_120.out).symm)
    have ne_a_y : w8.heap.size ≠ w114.heap.size + 1 := Nat.ne_of_lt (by have h1 := La_122.lt; have h2 : w119.heap.size = w114.heap.size + 1 := HSZ_120.out; omega)
    have ne_b_y : w8.heap.size + 1 ≠ w114.heap.size + 1 := Nat.ne_of_lt (by have h1 := Lb_122.lt; have h2 : w119.heap.size = w114.heap.size + 1 := HSZ_120.out; omega)
    have ne_x_y : w114.heap.size ≠ w114.heap.size + 1 := Nat.ne_of_lt (by have h1 := Lx_120.lt; have h2 : w119.heap.size = w114.heap.size + 1 := HSZ_120.out; omega)
    have ge_y : w.heap.size ≤ w114.heap.size + 1 := by have h1 : w.heap.size ≤ w119.heap.size := HB_121.out.size; have h2 : w119.heap.size = w114.heap.size + 1 := HSZ_120.out; omega
    have HSZ_124 := Lib.hid (show w123.heap.size = w114.heap.size + 1 + 1 by rw [hW123]; have h2 : w119.heap.size = w114.heap.size + 1 := HSZ_120.out; simp <;> omega)
    clear HSZ_120
    have HB_125 := Lib.hid (HB_121.out.trans (hal124.mono HB_121.out.size))
    clear HB_121
    have La_126 := La_122.step hal124
    clear La_122
    have Lb_126 := Lb_122.step hal124
    clear Lb_122
    have Lx_126 := Lx_120.step hal124
    clear Lx_120
    have Ha_126 := Lib.hid (Ha_122.out.step hal124)
    clear Ha_122
    have Hb_126 := Lib.hid (Hb_122.out.step hal124)
    clear Hb_122
    have Hx_126 := Lib.hid (Hx_tmp_122.out.step hal124)
    clear Hx_tmp_122
    have Hy_tmp_126 := Lib.hid (Hr_122.out.step hal124)
    clear Hr_122
    clear hal124 hW123
    have q127_0 := Lx_126.cell0
    have q127_1 := Lx_126.cell1
    have q127_2 := Lx_126.frozen 0
    have q127_3 := Lx_126.frozen 1
    have q127_lt := Lx_126.lt
    have q128_0 := Ly_124.cell0
    have q128_1 := Ly_124.cell1
    have q128_2 := Ly_124.frozen 0
    have q128_3 := Ly_124.frozen 1
    have q128_lt := Ly_124.lt
    have hw1 : IntKind.i64.wrap (Int.tdiv M N) = D := by rw [HD.out]; exact IntWalk.i64_in _ (by have := HD.out; omega)
    have hw2 : Int.tmod M N = E := HE.out.symm
    have HF1_129 := Lib.hid (show (dig (D).natAbs).length ≤ 600 from fit_small (by omega))
    have HF2_129 := Lib.hid (show (dig (E).natAbs).length ≤ 600 from fit_small (by omega))
    have tok130 : True := trivial
    have tok131 : True := trivial
    have tok132 : True := trivial
    have tok133 : True := trivial
    have tok134 : True := trivial
    have tok135 : True := trivial
    go_region_held3 (fun w' => w'.cell? ⟨w114.heap.size, 0, none⟩ = some (.bool (decide (D < 0))) ∧ w'.cell? ⟨w114.heap.size, 1, none⟩ = some (.slice A117 (dig (D).natAbs).length c117) ∧ w'.cell? ⟨w114.heap.size + 1, 0, none⟩ = some (.bool (decide (E < 0))) ∧ w'.cell? ⟨w114.heap.size + 1, 1, none⟩ = some (.slice A118 (dig (E).natAbs).length c118)) (first
      | (exact ⟨(LB.drew Lx_126).cell0, (LB.drew Lx_126).cell1, (LB.drew Ly_124).cell0, (LB.drew Ly_124).cell1⟩)
      | (exact ⟨Lx_126.cell0, Lx_126.cell1, Ly_124.cell0, Ly_124.cell1⟩)
      | (exact ⟨Lx_138.cell0, Lx_138.cell1, Ly_138.cell0, Ly_138.cell1⟩)
      | (exact ⟨Lx_143.cell0, Lx_143.cell1, Ly_143.cell0, Ly_143.cell1⟩)
      | (exact ⟨Lx_148.cell0, Lx_148.cell1, Ly_148.cell0, Ly_148.cell1⟩)
      | (exact ⟨Lx_152.cell0, Lx_152.cell1, Ly_152.cell0, Ly_152.cell1⟩)
      | (exact ⟨Lx_156.cell0, Lx_156.cell1, Ly_156.cell0, Ly_156.cell1⟩)
      | (exact ⟨Lx_160.cell0, Lx_160.cell1, Ly_160.cell0, Ly_160.cell1⟩)
      | go_keep) (first
      | (go_at_call 56; clear tok130; ((with_reducible refine (Itoa_any (D) (by omega) (by omega) _ (by exact (G.step HB_125.out).drew)).mono ?_); rintro e u136 ⟨rfl, hb136⟩; replace hb136 := below_undrew hb136; have HB_137 := Lib.hid (HB_125.out.trans (hb136.mono (by exact HB_125.out.size))); clear HB_125; have La_138 := La_126.step hb136; clear La_126; have Lb_138 := Lb_126.step hb136; clear Lb_126; have Lx_138 := Lx_126.step hb136; clear Lx_126; have Ly_138 := Ly_124.step hb136; clear Ly_124; have Ha_138 := Lib.hid (Ha_126.out.step hb136); clear Ha_126; have Hb_138 := Lib.hid (Hb_126.out.step hb136); clear Hb_126; have Hx_138 := Lib.hid (Hx_126.out.step hb136); clear Hx_126; have Hy_138 := Lib.hid (Hy_tmp_126.out.step hb136); clear Hy_tmp_126; clear HSZ_124; obtain ⟨t1, ht1⟩ : ∃ t1 : ByteArray, t1 = ⟨(Lib.itoa (D)).toArray⟩ := ⟨_, rfl⟩; rw [← ht1]; have HSt1 := Lib.hid (show Lib.itoa (D) = t1.data.toList by rw [ht1]); clear ht1; have q139_0 := Lx_138.cell0; have q139_1 := Lx_138.cell1; have q139_2 := Lx_138.frozen 0; have q139_3 := Lx_138.frozen 1; have q139_lt := Lx_138.lt; have q140_0 := Ly_138.cell0; have q140_1 := Ly_138.cell1; have q140_2 := Ly_138.frozen 0; have q140_3 := Ly_138.frozen 1; have q140_lt := Ly_138.lt; clear hb136))
      | (go_at_call 41; clear tok131; ((with_reducible refine (is_any _ t1).mono ?_); rintro e u141 ⟨hb141, N1, rfl, hN⟩; have HB_142 := Lib.hid (HB_137.out.trans (hb141.mono (by exact HB_137.out.size))); clear HB_137; have La_143 := La_138.step hb141; clear La_138; have Lb_143 := Lb_138.step hb141; clear Lb_138; have Lx_143 := Lx_138.step hb141; clear Lx_138; have Ly_143 := Ly_138.step hb141; clear Ly_138; have Ha_143 := Lib.hid (Ha_138.out.step hb141); clear Ha_138; have Hb_143 := Lib.hid (Hb_138.out.step hb141); clear Hb_138; have Hx_143 := Lib.hid (Hx_138.out.step hb141); clear Hx_138; have Hy_143 := Lib.hid (Hy_138.out.step hb141); clear Hy_138; have Oc1 := Lib.hid hN; clear hN; have q144_0 := Lx_143.cell0; have q144_1 := Lx_143.cell1; have q144_2 := Lx_143.frozen 0; have q144_3 := Lx_143.frozen 1; have q144_lt := Lx_143.lt; have q145_0 := Ly_143.cell0; have q145_1 := Ly_143.cell1; have q145_2 := Ly_143.frozen 0; have q145_3 := Ly_143.frozen 1; have q145_lt := Ly_143.lt; clear hb141))
      | (go_at_call 86; clear tok132; ((with_reducible refine (is1_yes _ N1 t1 _ (D) Oc1.out Hx_143.out HF1_129.out HSt1.out (G.step HB_142.out)).mono ?_); rintro e u146 ⟨hb146, rfl⟩; have HB_147 := Lib.hid (HB_142.out.trans (hb146.mono (by exact HB_142.out.size))); clear HB_142; have La_148 := La_143.step hb146; clear La_143; have Lb_148 := Lb_143.step hb146; clear Lb_143; have Lx_148 := Lx_143.step hb146; clear Lx_143; have Ly_148 := Ly_143.step hb146; clear Ly_143; have Ha_148 := Lib.hid (Ha_143.out.step hb146); clear Ha_143; have Hb_148 := Lib.hid (Hb_143.out.step hb146); clear Hb_143; have Hx_148 := Lib.hid (Hx_143.out.step hb146); clear Hx_143; have Hy_148 := Lib.hid (Hy_143.out.step hb146); clear Hy_143; have Oc1_148 := Lib.hid (Oc1.out.step hb146); clear Oc1; have q149_0 := Ly_148.cell0; have q149_1 := Ly_148.cell1; have q149_2 := Ly_148.frozen 0; have q149_3 := Ly_148.frozen 1; have q149_lt := Ly_148.lt; clear hb146))
      | (go_at_call 56; clear tok133; ((with_reducible refine (Itoa_any (E) (by omega) (by omega) _ (G.step HB_147.out)).mono ?_); rintro e u150 ⟨rfl, hb150⟩; have HB_151 := Lib.hid (HB_147.out.trans (hb150.mono (by exact HB_147.out.size))); clear HB_147; have La_152 := La_148.step hb150; clear La_148; have Lb_152 := Lb_148.step hb150; clear Lb_148; have Lx_152 := Lx_148.step hb150; clear Lx_148; have Ly_152 := Ly_148.step hb150; clear Ly_148; have Ha_152 := Lib.hid (Ha_148.out.step hb150); clear Ha_148; have Hb_152 := Lib.hid (Hb_148.out.step hb150); clear Hb_148; have Hx_152 := Lib.hid (Hx_148.out.step hb150); clear Hx_148; have Hy_152 := Lib.hid (Hy_148.out.step hb150); clear Hy_148; have Oc1_152 := Lib.hid (Oc1_148.out.step hb150); clear Oc1_148; obtain ⟨t2, ht2⟩ : ∃ t2 : ByteArray, t2 = ⟨(Lib.itoa (E)).toArray⟩ := ⟨_, rfl⟩; rw [← ht2]; have HSt2 := Lib.hid (show Lib.itoa (E) = t2.data.toList by rw [ht2]); clear ht2; have q153_0 := Ly_152.cell0; have q153_1 := Ly_152.cell1; have q153_2 := Ly_152.frozen 0; have q153_3 := Ly_152.frozen 1; have q153_lt := Ly_152.lt; clear hb150))
      | (go_at_call 41; clear tok134; ((with_reducible refine (is_any _ t2).mono ?_); rintro e u154 ⟨hb154, N2, rfl, hN⟩; have HB_155 := Lib.hid (HB_151.out.trans (hb154.mono (by exact HB_151.out.size))); clear HB_151; have La_156 := La_152.step hb154; clear La_152; have Lb_156 := Lb_152.step hb154; clear Lb_152; have Lx_156 := Lx_152.step hb154; clear Lx_152; have Ly_156 := Ly_152.step hb154; clear Ly_152; have Ha_156 := Lib.hid (Ha_152.out.step hb154); clear Ha_152; have Hb_156 := Lib.hid (Hb_152.out.step hb154); clear Hb_152; have Hx_156 := Lib.hid (Hx_152.out.step hb154); clear Hx_152; have Hy_156 := Lib.hid (Hy_152.out.step hb154); clear Hy_152; have Oc1_156 := Lib.hid (Oc1_152.out.step hb154); clear Oc1_152; have Oc2 := Lib.hid hN; clear hN; have q157_0 := Ly_156.cell0; have q157_1 := Ly_156.cell1; have q157_2 := Ly_156.frozen 0; have q157_3 := Ly_156.frozen 1; have q157_lt := Ly_156.lt; clear hb154))
      | (go_at_call 86; clear tok135; ((with_reducible refine (is1_yes _ N2 t2 _ (E) Oc2.out Hy_156.out HF2_129.out HSt2.out (G.step HB_155.out)).mono ?_); rintro e u158 ⟨hb158, rfl⟩; have HB_159 := Lib.hid (HB_155.out.trans (hb158.mono (by exact HB_155.out.size))); clear HB_155; have La_160 := La_156.step hb158; clear La_156; have Lb_160 := Lb_156.step hb158; clear Lb_156; have Lx_160 := Lx_156.step hb158; clear Lx_156; have Ly_160 := Ly_156.step hb158; clear Ly_156; have Ha_160 := Lib.hid (Ha_156.out.step hb158); clear Ha_156; have Hb_160 := Lib.hid (Hb_156.out.step hb158); clear Hb_156; have Hx_160 := Lib.hid (Hx_156.out.step hb158); clear Hx_156; have Hy_160 := Lib.hid (Hy_156.out.step hb158); clear Hy_156; have Oc1_160 := Lib.hid (Oc1_156.out.step hb158); clear Oc1_156; have Oc2_160 := Lib.hid (Oc2.out.step hb158); clear Oc2; clear hb158)))
    clear hw1 hw2
    go_wp2
    go_ret
    exact ⟨HB_159.out, rfl⟩
end Go.Proofs.YtnbanlmkoljghaaGreatDoor
