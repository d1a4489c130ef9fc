/- The law package's works: the chapter's examples (written by gen_works.py). -/
import Derived.Test.YtnbanlmkoljghaaGreatDoorDec
namespace Go.Proofs.YtnbanlmkoljghaaGreatDoor
open Go Go.RowKit Dig

theorem dig_ex : dig 1000000005 = [5, 1] := dig_of ⟨Small.cons (by omega) (Small.cons (by omega) Small.nil), by decide⟩ (by decide)
/-- A row of two ints. -/
def pairObj (x y : Int) : Obj := .cells #[.int .i64 x, .int .i64 y] 3
theorem RI.pair (w : World) (x y : Int) : RI (w.alloc (.cells #[.int .i64 x, .int .i64 y] 3)) (w.alloc (.cells #[.int .i64 x, .int .i64 y] 3)).heap.size (.slice (some ⟨w.heap.size, 0, none⟩) 2 2) [x, y] :=
  (show Own (w.alloc (.cells #[.int .i64 x, .int .i64 y] 3)) w.heap.size [x, y] from ⟨[], heap_alloc_new w _⟩).ri0 2 2 rfl (Nat.le_refl _) (by omega)
theorem RI.pair' (w : World) (b : Nat) (x y : Int) (h : b = w.heap.size) : RI (w.alloc (.cells #[.int .i64 x, .int .i64 y] 3)) (w.alloc (.cells #[.int .i64 x, .int .i64 y] 3)).heap.size (.slice (some ⟨b, 0, none⟩) 2 2) [x, y] := by
  subst h; exact RI.pair w x y
theorem run_digits (w : World) (b : Bool) (A : Option Addr) (n c : Nat) : (Instr.field 24 (.agg #[.bool b, .slice A n c]) 1).run Tryz.prog w = .ok (.slice A n c) w := by kernel_rfl
theorem ex_bad1 : parseZ (ByteArray.mk #[45, 48]).data.toList = (0, 5) := parseZ_none (canon_lead (r := []) rfl (by decide))
theorem ex_bad2 : parseZ (ByteArray.mk #[48, 48, 55]).data.toList = (0, 5) := parseZ_none (canon_lead (r := [48, 55]) rfl (by decide))
theorem ex_bad3 : parseZ (ByteArray.mk #[43, 49]).data.toList = (0, 5) := parseZ_none (canon_letter (fun h => by
  have h1 := (h 43 (by decide)).1
  revert h1; decide))
theorem ex_bad4 : parseZ (ByteArray.mk #[]).data.toList = (0, 5) := parseZ_none (canon_empty rfl)

set_option maxRecDepth 100000 in
set_option maxHeartbeats 4000000 in
theorem works_any (w : World) (G : Glob w) :
    Calls Tryz.prog 16 #[] w fun e w' => Below w.heap.size w w' ∧ e = .returned (.bool true) := by
  go_enter Tryz.func16, Tryz.ntmps16
  go_wp2_with fail
  refine (Of_any _ (-1000000005) (by decide) (by decide)).mono ?_
  rintro e w1 ⟨hb1, v1, rfl, hv1⟩
  obtain ⟨A, c, rfl, hs1⟩ := hv1.parts
  rw [show (-1000000005 : Int).natAbs = 1000000005 from rfl, dig_ex, show ni [5, 1] = [5, 1] from rfl] at hs1
  rw [show (-1000000005 : Int).natAbs = 1000000005 from rfl, dig_ex, show decide ((-1000000005 : Int) < 0) = true from rfl, show [5, 1].length = 2 from rfl]
  rw [show [5, 1].length = 2 from rfl] at hs1
  have HS1 := Lib.hid hs1
  have HB1 := Lib.hid hb1
  clear hs1 hv1 hb1
  go_wp2_with fail
  refine (Equal_any _ _ _ [5, 1] [5, 1] (HS1.out.step (by (repeat' (first | exact Below.refl _ _ | refine Below.drew ?_ | refine Below.alloc ?_ (by first | exact Nat.le_refl _ | (simp; done) | (simp; omega)) _)))) (RI.pair' _ _ _ _ (by simp))).mono ?_
  rintro e w2 ⟨hb2, rfl⟩
  rw [show decide (([5, 1] : List Int) = [5, 1]) = true from by decide]
  have HB2 := Lib.hid (HB1.out.trans ((show Below w1.heap.size w1 _ from by (repeat' (first | exact Below.refl _ _ | refine Below.drew ?_ | refine Below.alloc ?_ (by first | exact Nat.le_refl _ | (simp; done) | (simp; omega)) _))).trans (hb2.mono (by simp <;> omega)) |>.mono HB1.out.size))
  clear hb2 HB1 HS1
  go_wp2_with fail
  refine (Of_any _ 0 (by decide) (by decide)).mono ?_
  rintro e w3 ⟨hb3, v3, rfl, hv3⟩
  obtain ⟨A3, c3, rfl, -⟩ := hv3.parts
  rw [show (0 : Int).natAbs = 0 from rfl, dig_zero, show decide ((0 : Int) < 0) = false from rfl, show ([] : List Nat).length = 0 from rfl]
  have HB11 := Lib.hid (HB2.out.trans (hb3.mono HB2.out.size))
  clear HB2
  clear hb3 hv3
  have hfd := fun (w : World) => run_digits w false A3 0 c3
  go_wp2_with fail
  refine (is_any _ ⟨#[49, 48, 48, 48, 48, 48, 48, 48, 48, 48]⟩).mono ?_
  rintro e w12 ⟨hb12, N12, rfl, hN12⟩
  have HB13 := Lib.hid (HB11.out.trans (hb12.mono HB11.out.size))
  clear HB11
  have HN12 := Lib.hid hN12
  clear hN12 hb12
  go_wp2_with fail
  refine (of_num (a := 999999999) (s := ⟨#[57, 57, 57, 57, 57, 57, 57, 57, 57]⟩) (by decide) (lit_parse (by decide +kernel) (by decide))).mono ?_
  rintro e w14 ⟨hb14, v14, rfl, hv14⟩
  have HN12_15 := Lib.hid (HN12.out.step hb14)
  clear HN12
  have HB16 := Lib.hid (HB13.out.trans (hb14.mono HB13.out.size))
  clear HB13
  have HV14 := Lib.hid hv14
  clear hv14 hb14
  go_wp2_with fail
  refine (of_num (a := 1) (s := ⟨#[49]⟩) (by decide) (lit_parse (by decide +kernel) (by decide))).mono ?_
  rintro e w17 ⟨hb17, v17, rfl, hv17⟩
  have HN12_18 := Lib.hid (HN12_15.out.step hb17)
  clear HN12_15
  have HV14_19 := Lib.hid (HV14.out.step hb17)
  clear HV14
  have HB20 := Lib.hid (HB16.out.trans (hb17.mono HB16.out.size))
  clear HB16
  have HV17 := Lib.hid hv17
  clear hv17 hb17
  go_wp2_with fail
  refine (Add_num HV14_19.out HV17.out (fit_small (by decide)) (fit_small (by decide)) (fit_small (by decide))).mono ?_
  rintro e w21 ⟨hb21, v21, rfl, hv21⟩
  rw [show (999999999 : Int) + 1 = 1000000000 by decide] at hv21
  have HN12_22 := Lib.hid (HN12_18.out.step hb21)
  clear HN12_18
  have HV14_23 := Lib.hid (HV14_19.out.step hb21)
  clear HV14_19
  have HV17_24 := Lib.hid (HV17.out.step hb21)
  clear HV17
  have HB25 := Lib.hid (HB20.out.trans (hb21.mono HB20.out.size))
  clear HB20
  have HV21 := Lib.hid hv21
  clear hv21 hb21
  go_wp2_with fail
  refine (is1_yes _ _ _ _ 1000000000 HN12_22.out HV21.out (small_len (by decide)) (lit_itoa (by decide +kernel)) (G.step HB25.out)).mono ?_
  rintro e w26 ⟨hb26, rfl⟩
  clear HV21
  clear HV17_24
  clear HV14_23
  clear HN12_22
  have HB27 := Lib.hid (HB25.out.trans (hb26.mono HB25.out.size))
  clear HB25
  clear hb26
  go_wp2_with fail
  refine (is_any _ ⟨#[45, 49, 52, 52]⟩).mono ?_
  rintro e w28 ⟨hb28, N28, rfl, hN28⟩
  have HB29 := Lib.hid (HB27.out.trans (hb28.mono HB27.out.size))
  clear HB27
  have HN28 := Lib.hid hN28
  clear hN28 hb28
  go_wp2_with fail
  refine (of_num (a := (-12)) (s := ⟨#[45, 49, 50]⟩) (by decide) (lit_parse (by decide +kernel) (by decide))).mono ?_
  rintro e w30 ⟨hb30, v30, rfl, hv30⟩
  have HN28_31 := Lib.hid (HN28.out.step hb30)
  clear HN28
  have HB32 := Lib.hid (HB29.out.trans (hb30.mono HB29.out.size))
  clear HB29
  have HV30 := Lib.hid hv30
  clear hv30 hb30
  go_wp2_with fail
  refine (of_num (a := 12) (s := ⟨#[49, 50]⟩) (by decide) (lit_parse (by decide +kernel) (by decide))).mono ?_
  rintro e w33 ⟨hb33, v33, rfl, hv33⟩
  have HN28_34 := Lib.hid (HN28_31.out.step hb33)
  clear HN28_31
  have HV30_35 := Lib.hid (HV30.out.step hb33)
  clear HV30
  have HB36 := Lib.hid (HB32.out.trans (hb33.mono HB32.out.size))
  clear HB32
  have HV33 := Lib.hid hv33
  clear hv33 hb33
  go_wp2_with fail
  refine (Mul_num HV30_35.out HV33.out (fit_small (by decide)) (fit_small (by decide)) (fit_small (by decide))).mono ?_
  rintro e w37 ⟨hb37, v37, rfl, hv37⟩
  rw [show ((-12) : Int) * 12 = (-144) by decide] at hv37
  have HN28_38 := Lib.hid (HN28_34.out.step hb37)
  clear HN28_34
  have HV30_39 := Lib.hid (HV30_35.out.step hb37)
  clear HV30_35
  have HV33_40 := Lib.hid (HV33.out.step hb37)
  clear HV33
  have HB41 := Lib.hid (HB36.out.trans (hb37.mono HB36.out.size))
  clear HB36
  have HV37 := Lib.hid hv37
  clear hv37 hb37
  go_wp2_with fail
  refine (is1_yes _ _ _ _ (-144) HN28_38.out HV37.out (small_len (by decide)) (lit_itoa (by decide +kernel)) (G.step HB41.out)).mono ?_
  rintro e w42 ⟨hb42, rfl⟩
  clear HV37
  clear HV33_40
  clear HV30_39
  clear HN28_38
  have HB43 := Lib.hid (HB41.out.trans (hb42.mono HB41.out.size))
  clear HB41
  clear hb42
  go_wp2_with fail
  refine (divides_yes _ ⟨#[55]⟩ ⟨#[50]⟩ ⟨#[51]⟩ ⟨#[49]⟩ 7 2 (by decide) (by decide) (lit_parse (by decide +kernel) (by decide)) (lit_parse (by decide +kernel) (by decide)) (small_len (by decide)) (small_len (by decide)) (by decide) (lit_itoa (by decide +kernel)) (lit_itoa (by decide +kernel)) (G.step HB43.out)).mono ?_
  rintro e w44 ⟨hb44, rfl⟩
  have HB45 := Lib.hid (HB43.out.trans (hb44.mono HB43.out.size))
  clear HB43
  clear hb44
  go_wp2_with fail
  refine (divides_yes _ ⟨#[45, 55]⟩ ⟨#[50]⟩ ⟨#[45, 51]⟩ ⟨#[45, 49]⟩ (-7) 2 (by decide) (by decide) (lit_parse (by decide +kernel) (by decide)) (lit_parse (by decide +kernel) (by decide)) (small_len (by decide)) (small_len (by decide)) (by decide) (lit_itoa (by decide +kernel)) (lit_itoa (by decide +kernel)) (G.step HB45.out)).mono ?_
  rintro e w46 ⟨hb46, rfl⟩
  have HB47 := Lib.hid (HB45.out.trans (hb46.mono HB45.out.size))
  clear HB45
  clear hb46
  go_wp2_with fail
  refine (divides_yes _ ⟨#[55]⟩ ⟨#[45, 50]⟩ ⟨#[45, 51]⟩ ⟨#[49]⟩ 7 (-2) (by decide) (by decide) (lit_parse (by decide +kernel) (by decide)) (lit_parse (by decide +kernel) (by decide)) (small_len (by decide)) (small_len (by decide)) (by decide) (lit_itoa (by decide +kernel)) (lit_itoa (by decide +kernel)) (G.step HB47.out)).mono ?_
  rintro e w48 ⟨hb48, rfl⟩
  have HB49 := Lib.hid (HB47.out.trans (hb48.mono HB47.out.size))
  clear HB47
  clear hb48
  go_wp2_with fail
  refine (divides_yes _ ⟨#[45, 55]⟩ ⟨#[45, 50]⟩ ⟨#[51]⟩ ⟨#[45, 49]⟩ (-7) (-2) (by decide) (by decide) (lit_parse (by decide +kernel) (by decide)) (lit_parse (by decide +kernel) (by decide)) (small_len (by decide)) (small_len (by decide)) (by decide) (lit_itoa (by decide +kernel)) (lit_itoa (by decide +kernel)) (G.step HB49.out)).mono ?_
  rintro e w50 ⟨hb50, rfl⟩
  have HB51 := Lib.hid (HB49.out.trans (hb50.mono HB49.out.size))
  clear HB49
  clear hb50
  go_wp2_with fail
  refine (is_any _ ⟨#[54]⟩).mono ?_
  rintro e w52 ⟨hb52, N52, rfl, hN52⟩
  have HB53 := Lib.hid (HB51.out.trans (hb52.mono HB51.out.size))
  clear HB51
  have HN52 := Lib.hid hN52
  clear hN52 hb52
  go_wp2_with fail
  refine (of_num (a := 12) (s := ⟨#[49, 50]⟩) (by decide) (lit_parse (by decide +kernel) (by decide))).mono ?_
  rintro e w54 ⟨hb54, v54, rfl, hv54⟩
  have HN52_55 := Lib.hid (HN52.out.step hb54)
  clear HN52
  have HB56 := Lib.hid (HB53.out.trans (hb54.mono HB53.out.size))
  clear HB53
  have HV54 := Lib.hid hv54
  clear hv54 hb54
  go_wp2_with fail
  refine (of_num (a := (-18)) (s := ⟨#[45, 49, 56]⟩) (by decide) (lit_parse (by decide +kernel) (by decide))).mono ?_
  rintro e w57 ⟨hb57, v57, rfl, hv57⟩
  have HN52_58 := Lib.hid (HN52_55.out.step hb57)
  clear HN52_55
  have HV54_59 := Lib.hid (HV54.out.step hb57)
  clear HV54
  have HB60 := Lib.hid (HB56.out.trans (hb57.mono HB56.out.size))
  clear HB56
  have HV57 := Lib.hid hv57
  clear hv57 hb57
  go_wp2_with fail
  refine (Gcd_num HV54_59.out HV57.out (fit_small (by decide)) (fit_small (by decide))).mono ?_
  rintro e w61 ⟨hb61, v61, rfl, hv61⟩
  rw [show ((Int.gcd 12 (-18) : Nat) : Int) = 6 by decide] at hv61
  have HN52_62 := Lib.hid (HN52_58.out.step hb61)
  clear HN52_58
  have HV54_63 := Lib.hid (HV54_59.out.step hb61)
  clear HV54_59
  have HV57_64 := Lib.hid (HV57.out.step hb61)
  clear HV57
  have HB65 := Lib.hid (HB60.out.trans (hb61.mono HB60.out.size))
  clear HB60
  have HV61 := Lib.hid hv61
  clear hv61 hb61
  go_wp2_with fail
  refine (is1_yes _ _ _ _ 6 HN52_62.out HV61.out (small_len (by decide)) (lit_itoa (by decide +kernel)) (G.step HB65.out)).mono ?_
  rintro e w66 ⟨hb66, rfl⟩
  clear HV61
  clear HV57_64
  clear HV54_63
  clear HN52_62
  have HB67 := Lib.hid (HB65.out.trans (hb66.mono HB65.out.size))
  clear HB65
  clear hb66
  go_wp2_with fail
  refine (is_any _ ⟨#[53]⟩).mono ?_
  rintro e w68 ⟨hb68, N68, rfl, hN68⟩
  have HB69 := Lib.hid (HB67.out.trans (hb68.mono HB67.out.size))
  clear HB67
  have HN68 := Lib.hid hN68
  clear hN68 hb68
  go_wp2_with fail
  refine (of_num (a := 0) (s := ⟨#[48]⟩) (by decide) (lit_parse (by decide +kernel) (by decide))).mono ?_
  rintro e w70 ⟨hb70, v70, rfl, hv70⟩
  have HN68_71 := Lib.hid (HN68.out.step hb70)
  clear HN68
  have HB72 := Lib.hid (HB69.out.trans (hb70.mono HB69.out.size))
  clear HB69
  have HV70 := Lib.hid hv70
  clear hv70 hb70
  go_wp2_with fail
  refine (of_num (a := 5) (s := ⟨#[53]⟩) (by decide) (lit_parse (by decide +kernel) (by decide))).mono ?_
  rintro e w73 ⟨hb73, v73, rfl, hv73⟩
  have HN68_74 := Lib.hid (HN68_71.out.step hb73)
  clear HN68_71
  have HV70_75 := Lib.hid (HV70.out.step hb73)
  clear HV70
  have HB76 := Lib.hid (HB72.out.trans (hb73.mono HB72.out.size))
  clear HB72
  have HV73 := Lib.hid hv73
  clear hv73 hb73
  go_wp2_with fail
  refine (Gcd_num HV70_75.out HV73.out (fit_small (by decide)) (fit_small (by decide))).mono ?_
  rintro e w77 ⟨hb77, v77, rfl, hv77⟩
  rw [show ((Int.gcd 0 5 : Nat) : Int) = 5 by decide] at hv77
  have HN68_78 := Lib.hid (HN68_74.out.step hb77)
  clear HN68_74
  have HV70_79 := Lib.hid (HV70_75.out.step hb77)
  clear HV70_75
  have HV73_80 := Lib.hid (HV73.out.step hb77)
  clear HV73
  have HB81 := Lib.hid (HB76.out.trans (hb77.mono HB76.out.size))
  clear HB76
  have HV77 := Lib.hid hv77
  clear hv77 hb77
  go_wp2_with fail
  refine (is1_yes _ _ _ _ 5 HN68_78.out HV77.out (small_len (by decide)) (lit_itoa (by decide +kernel)) (G.step HB81.out)).mono ?_
  rintro e w82 ⟨hb82, rfl⟩
  clear HV77
  clear HV73_80
  clear HV70_79
  clear HN68_78
  have HB83 := Lib.hid (HB81.out.trans (hb82.mono HB81.out.size))
  clear HB81
  clear hb82
  go_wp2_with fail
  refine (is_any _ ⟨#[48]⟩).mono ?_
  rintro e w84 ⟨hb84, N84, rfl, hN84⟩
  have HB85 := Lib.hid (HB83.out.trans (hb84.mono HB83.out.size))
  clear HB83
  have HN84 := Lib.hid hN84
  clear hN84 hb84
  go_wp2_with fail
  refine (of_num (a := 0) (s := ⟨#[48]⟩) (by decide) (lit_parse (by decide +kernel) (by decide))).mono ?_
  rintro e w86 ⟨hb86, v86, rfl, hv86⟩
  have HN84_87 := Lib.hid (HN84.out.step hb86)
  clear HN84
  have HB88 := Lib.hid (HB85.out.trans (hb86.mono HB85.out.size))
  clear HB85
  have HV86 := Lib.hid hv86
  clear hv86 hb86
  go_wp2_with fail
  refine (of_num (a := 0) (s := ⟨#[48]⟩) (by decide) (lit_parse (by decide +kernel) (by decide))).mono ?_
  rintro e w89 ⟨hb89, v89, rfl, hv89⟩
  have HN84_90 := Lib.hid (HN84_87.out.step hb89)
  clear HN84_87
  have HV86_91 := Lib.hid (HV86.out.step hb89)
  clear HV86
  have HB92 := Lib.hid (HB88.out.trans (hb89.mono HB88.out.size))
  clear HB88
  have HV89 := Lib.hid hv89
  clear hv89 hb89
  go_wp2_with fail
  refine (Gcd_num HV86_91.out HV89.out (fit_small (by decide)) (fit_small (by decide))).mono ?_
  rintro e w93 ⟨hb93, v93, rfl, hv93⟩
  rw [show ((Int.gcd 0 0 : Nat) : Int) = 0 by decide] at hv93
  have HN84_94 := Lib.hid (HN84_90.out.step hb93)
  clear HN84_90
  have HV86_95 := Lib.hid (HV86_91.out.step hb93)
  clear HV86_91
  have HV89_96 := Lib.hid (HV89.out.step hb93)
  clear HV89
  have HB97 := Lib.hid (HB92.out.trans (hb93.mono HB92.out.size))
  clear HB92
  have HV93 := Lib.hid hv93
  clear hv93 hb93
  go_wp2_with fail
  refine (is1_yes _ _ _ _ 0 HN84_94.out HV93.out (small_len (by decide)) (lit_itoa (by decide +kernel)) (G.step HB97.out)).mono ?_
  rintro e w98 ⟨hb98, rfl⟩
  clear HV93
  clear HV89_96
  clear HV86_95
  clear HN84_94
  have HB99 := Lib.hid (HB97.out.trans (hb98.mono HB97.out.size))
  clear HB97
  clear hb98
  go_wp2_with fail
  refine (is_any _ ⟨#[57, 57, 57, 57, 57, 57, 57, 57, 57, 57]⟩).mono ?_
  rintro e w100 ⟨hb100, N100, rfl, hN100⟩
  have HB101 := Lib.hid (HB99.out.trans (hb100.mono HB99.out.size))
  clear HB99
  have HN100 := Lib.hid hN100
  clear hN100 hb100
  go_wp2_with fail
  refine (of_num (a := 99999999999999999999) (s := ⟨#[57, 57, 57, 57, 57, 57, 57, 57, 57, 57, 57, 57, 57, 57, 57, 57, 57, 57, 57, 57]⟩) (by decide) (lit_parse (by decide +kernel) (by decide))).mono ?_
  rintro e w102 ⟨hb102, v102, rfl, hv102⟩
  have HN100_103 := Lib.hid (HN100.out.step hb102)
  clear HN100
  have HB104 := Lib.hid (HB101.out.trans (hb102.mono HB101.out.size))
  clear HB101
  have HV102 := Lib.hid hv102
  clear hv102 hb102
  go_wp2_with fail
  refine (Sqrt_num HV102.out (fit_small (by decide)) (by decide)).mono ?_
  rintro e w105 ⟨hb105, v105, rfl, hv105⟩
  rw [show ((rootN (99999999999999999999 : Int).natAbs : Nat) : Int) = 9999999999 by rw [← rootN_eq (s := 9999999999) (by decide) (by decide)]; rfl] at hv105
  have HN100_106 := Lib.hid (HN100_103.out.step hb105)
  clear HN100_103
  have HV102_107 := Lib.hid (HV102.out.step hb105)
  clear HV102
  have HB108 := Lib.hid (HB104.out.trans (hb105.mono HB104.out.size))
  clear HB104
  have HV105 := Lib.hid hv105
  clear hv105 hb105
  go_wp2_with fail
  refine (is1_yes _ _ _ _ 9999999999 HN100_106.out HV105.out (small_len (by decide)) (lit_itoa (by decide +kernel)) (G.step HB108.out)).mono ?_
  rintro e w109 ⟨hb109, rfl⟩
  clear HV105
  clear HV102_107
  clear HN100_106
  have HB110 := Lib.hid (HB108.out.trans (hb109.mono HB108.out.size))
  clear HB108
  clear hb109
  go_wp2_with fail
  refine (fails_any _ 2).mono ?_
  rintro e w111 ⟨hb111, N111, rfl, hN111⟩
  have HB112 := Lib.hid (HB110.out.trans (hb111.mono HB110.out.size))
  clear HB110
  have HN111 := Lib.hid hN111
  clear hN111 hb111
  go_wp2_with fail
  refine (of_num (a := (-1)) (s := ⟨#[45, 49]⟩) (by decide) (lit_parse (by decide +kernel) (by decide))).mono ?_
  rintro e w113 ⟨hb113, v113, rfl, hv113⟩
  have HN111_114 := Lib.hid (HN111.out.step hb113)
  clear HN111
  have HB115 := Lib.hid (HB112.out.trans (hb113.mono HB112.out.size))
  clear HB112
  have HV113 := Lib.hid hv113
  clear hv113 hb113
  go_wp2_with fail
  refine (Sqrt_minus HV113.out (fit_small (by decide)) (by decide)).mono ?_
  rintro e w116 ⟨hb116, v116, rfl, hv116⟩
  have HN111_117 := Lib.hid (HN111_114.out.step hb116)
  clear HN111_114
  have HV113_118 := Lib.hid (HV113.out.step hb116)
  clear HV113
  have HB119 := Lib.hid (HB115.out.trans (hb116.mono HB115.out.size))
  clear HB115
  have HV116 := Lib.hid hv116
  clear hv116 hb116
  go_wp2_with fail
  refine (fails1_yes _ _ _ _ HN111_117.out HV116.out).mono ?_
  rintro e w120 ⟨hb120, rfl⟩
  clear HV116
  clear HV113_118
  clear HN111_117
  have HB121 := Lib.hid (HB119.out.trans (hb120.mono HB119.out.size))
  clear HB119
  clear hb120
  go_wp2_with fail
  refine (of_num (a := 1) (s := ⟨#[49]⟩) (by decide) (lit_parse (by decide +kernel) (by decide))).mono ?_
  rintro e w122 ⟨hb122, v122, rfl, hv122⟩
  have HB123 := Lib.hid (HB121.out.trans (hb122.mono HB121.out.size))
  clear HB121
  have HV122 := Lib.hid hv122
  clear hv122 hb122
  go_wp2_with fail
  refine (of_num (a := 0) (s := ⟨#[48]⟩) (by decide) (lit_parse (by decide +kernel) (by decide))).mono ?_
  rintro e w124 ⟨hb124, v124, rfl, hv124⟩
  have HV122_125 := Lib.hid (HV122.out.step hb124)
  clear HV122
  have HB126 := Lib.hid (HB123.out.trans (hb124.mono HB123.out.size))
  clear HB123
  have HV124 := Lib.hid hv124
  clear hv124 hb124
  go_wp2_with fail
  refine (Div_none HV122_125.out HV124.out (fit_small (by decide)) rfl).mono ?_
  rintro e wd ⟨hbd, x, y, rfl, hx, hy⟩
  obtain ⟨Ax, cx, rfl, -⟩ := hx.parts
  obtain ⟨Ay, cy, rfl, -⟩ := hy.parts
  clear HV124
  clear HV122_125
  have HB127 := Lib.hid (HB126.out.trans (hbd.mono HB126.out.size))
  clear HB126
  clear hbd hx hy
  rw [show (0 : Int).natAbs = 0 from rfl, dig_zero, show decide ((0 : Int) < 0) = false from rfl, show ([] : List Nat).length = 0 from rfl]
  have hix0 : ∀ w : World, (Instr.index 55 (.agg #[.string ⟨#[45, 48]⟩, .string ⟨#[48, 48, 55]⟩, .string ⟨#[43, 49]⟩, .string ⟨#[]⟩]) (.int .i64 0)).run Tryz.prog w = .ok (.string ⟨#[45, 48]⟩) w := fun _ => by kernel_rfl
  have hix1 : ∀ w : World, (Instr.index 55 (.agg #[.string ⟨#[45, 48]⟩, .string ⟨#[48, 48, 55]⟩, .string ⟨#[43, 49]⟩, .string ⟨#[]⟩]) (.int .i64 1)).run Tryz.prog w = .ok (.string ⟨#[48, 48, 55]⟩) w := fun _ => by kernel_rfl
  have hix2 : ∀ w : World, (Instr.index 55 (.agg #[.string ⟨#[45, 48]⟩, .string ⟨#[48, 48, 55]⟩, .string ⟨#[43, 49]⟩, .string ⟨#[]⟩]) (.int .i64 2)).run Tryz.prog w = .ok (.string ⟨#[43, 49]⟩) w := fun _ => by kernel_rfl
  have hix3 : ∀ w : World, (Instr.index 55 (.agg #[.string ⟨#[45, 48]⟩, .string ⟨#[48, 48, 55]⟩, .string ⟨#[43, 49]⟩, .string ⟨#[]⟩]) (.int .i64 3)).run Tryz.prog w = .ok (.string ⟨#[]⟩) w := fun _ => by kernel_rfl
  go_wp2
  have HBL := Lib.hid (show Below w.heap.size w _ from HB127.out.trans ((show Below wd.heap.size wd ((wd.alloc (.cells #[.bool false, .slice Ax 0 cx] 24)).alloc (.cells #[.bool false, .slice Ay 0 cy] 24)) from by (repeat' (first | exact Below.refl _ _ | refine Below.drew ?_ | refine Below.alloc ?_ (by first | exact Nat.le_refl _ | (simp; done) | (simp; omega)) _))).mono HB127.out.size))
  go_loopw [108] (fun i wr => ∃ k : Nat, k ≤ 4 ∧ i = .int .i64 k ∧ Hid (Below w.heap.size w wr)) (fun i _ => 4 - (intOf i).toNat)
  case atStart => exact ⟨0, by omega, rfl, HBL⟩
  case round =>
    clear HBL HB127
    obtain ⟨k, hk, rfl, HB0⟩ := hrel
    obtain rfl | rfl | rfl | rfl | rfl : k = 0 ∨ k = 1 ∨ k = 2 ∨ k = 3 ∨ k = 4 := by omega
    · rw [show ((0 : Nat) : Int) = 0 from rfl]
      go_wp2_with fail
      refine (fails_any _ 5).mono ?_
      rintro e w128 ⟨hb128, N128, rfl, hN128⟩
      have HB129 := Lib.hid (HB0.out.trans (hb128.mono HB0.out.size))
      clear HB0
      have HN128 := Lib.hid hN128
      clear hN128 hb128
      go_wp2_with fail
      refine (Parse_num (s := ⟨#[45, 48]⟩) (by decide) ex_bad1).mono ?_
      rintro e wp130 ⟨hbp, vp, rfl, hvp⟩
      have HN128_131 := Lib.hid (HN128.out.step hbp)
      clear HN128
      have HB132 := Lib.hid (HB129.out.trans (hbp.mono HB129.out.size))
      clear HB129
      clear hbp
      go_wp2_with fail
      refine (fails1_yes _ _ 5 _ HN128_131.out hvp).mono ?_
      rintro e wq130 ⟨hbq, rfl⟩
      clear HN128_131
      have HB133 := Lib.hid (HB132.out.trans (hbq.mono HB132.out.size))
      clear HB132
      clear hbq hvp
      go_wp2
      go_roundw
      case rel => exact ⟨1, by omega, rfl, HB133⟩
      case measure => simp [intOf]
    · rw [show ((1 : Nat) : Int) = 1 from rfl]
      go_wp2_with fail
      refine (fails_any _ 5).mono ?_
      rintro e w134 ⟨hb134, N134, rfl, hN134⟩
      have HB135 := Lib.hid (HB0.out.trans (hb134.mono HB0.out.size))
      clear HB0
      have HN134 := Lib.hid hN134
      clear hN134 hb134
      go_wp2_with fail
      refine (Parse_num (s := ⟨#[48, 48, 55]⟩) (by decide) ex_bad2).mono ?_
      rintro e wp136 ⟨hbp, vp, rfl, hvp⟩
      have HN134_137 := Lib.hid (HN134.out.step hbp)
      clear HN134
      have HB138 := Lib.hid (HB135.out.trans (hbp.mono HB135.out.size))
      clear HB135
      clear hbp
      go_wp2_with fail
      refine (fails1_yes _ _ 5 _ HN134_137.out hvp).mono ?_
      rintro e wq136 ⟨hbq, rfl⟩
      clear HN134_137
      have HB139 := Lib.hid (HB138.out.trans (hbq.mono HB138.out.size))
      clear HB138
      clear hbq hvp
      go_wp2
      go_roundw
      case rel => exact ⟨2, by omega, rfl, HB139⟩
      case measure => simp [intOf]
    · rw [show ((2 : Nat) : Int) = 2 from rfl]
      go_wp2_with fail
      refine (fails_any _ 5).mono ?_
      rintro e w140 ⟨hb140, N140, rfl, hN140⟩
      have HB141 := Lib.hid (HB0.out.trans (hb140.mono HB0.out.size))
      clear HB0
      have HN140 := Lib.hid hN140
      clear hN140 hb140
      go_wp2_with fail
      refine (Parse_num (s := ⟨#[43, 49]⟩) (by decide) ex_bad3).mono ?_
      rintro e wp142 ⟨hbp, vp, rfl, hvp⟩
      have HN140_143 := Lib.hid (HN140.out.step hbp)
      clear HN140
      have HB144 := Lib.hid (HB141.out.trans (hbp.mono HB141.out.size))
      clear HB141
      clear hbp
      go_wp2_with fail
      refine (fails1_yes _ _ 5 _ HN140_143.out hvp).mono ?_
      rintro e wq142 ⟨hbq, rfl⟩
      clear HN140_143
      have HB145 := Lib.hid (HB144.out.trans (hbq.mono HB144.out.size))
      clear HB144
      clear hbq hvp
      go_wp2
      go_roundw
      case rel => exact ⟨3, by omega, rfl, HB145⟩
      case measure => simp [intOf]
    · rw [show ((3 : Nat) : Int) = 3 from rfl]
      go_wp2_with fail
      refine (fails_any _ 5).mono ?_
      rintro e w146 ⟨hb146, N146, rfl, hN146⟩
      have HB147 := Lib.hid (HB0.out.trans (hb146.mono HB0.out.size))
      clear HB0
      have HN146 := Lib.hid hN146
      clear hN146 hb146
      go_wp2_with fail
      refine (Parse_num (s := ⟨#[]⟩) (by decide) ex_bad4).mono ?_
      rintro e wp148 ⟨hbp, vp, rfl, hvp⟩
      have HN146_149 := Lib.hid (HN146.out.step hbp)
      clear HN146
      have HB150 := Lib.hid (HB147.out.trans (hbp.mono HB147.out.size))
      clear HB147
      clear hbp
      go_wp2_with fail
      refine (fails1_yes _ _ 5 _ HN146_149.out hvp).mono ?_
      rintro e wq148 ⟨hbq, rfl⟩
      clear HN146_149
      have HB151 := Lib.hid (HB150.out.trans (hbq.mono HB150.out.size))
      clear HB150
      clear hbq hvp
      go_wp2
      go_roundw
      case rel => exact ⟨4, by omega, rfl, HB151⟩
      case measure => simp [intOf]
    · rw [show ((4 : Nat) : Int) = 4 from rfl]
      go_wp2_with fail
      refine (of_num (a := 9223372036854775808) (s := ⟨#[57, 50, 50, 51, 51, 55, 50, 48, 51, 54, 56, 53, 52, 55, 55, 53, 56, 48, 56]⟩) (by decide) (lit_parse (by decide +kernel) (by decide))).mono ?_
      rintro e w152 ⟨hb152, v152, rfl, hv152⟩
      have HB153 := Lib.hid (HB0.out.trans (hb152.mono HB0.out.size))
      clear HB0
      have HV152 := Lib.hid hv152
      clear hv152 hb152
      go_wp2_with fail
      refine (Int_num HV152.out (fit_small (by decide)) (G.step HB153.out)).mono ?_
      rintro e wi ⟨hbi, he⟩
      rw [show intZ 9223372036854775808 = (0, 6) from by decide] at he
      obtain rfl : e = .returned (.tuple #[.int .i64 0, .int .i64 6]) := he
      clear HV152
      have HB154 := Lib.hid (HB153.out.trans (hbi.mono HB153.out.size))
      clear HB153
      clear hbi
      go_wp2_with fail
      refine (Check_any _ _ false [5, 0] ⟨_, rfl, RI.pair' _ _ _ _ rfl⟩).mono ?_
      rintro e wc ⟨hbc, cc, rfl, hcc⟩
      obtain rfl : cc = 30 := by
        rcases hcc with ⟨hv, _⟩ | ⟨_, h⟩
        · exact absurd rfl (hv.top (by decide))
        · exact h
      have HBC := Lib.hid (HB154.out.trans ((show Below wi.heap.size wi _ from by (repeat' (first | exact Below.refl _ _ | refine Below.drew ?_ | refine Below.alloc ?_ (by first | exact Nat.le_refl _ | (simp; done) | (simp; omega)) _))).trans (hbc.mono (by simp)) |>.mono HB154.out.size))
      clear hbc hcc
      go_wp2_with fail
      refine (Check_any _ _ true [] ⟨_, rfl, RI.nil _ _⟩).mono ?_
      rintro e wf ⟨hbd, cd, rfl, hcd⟩
      obtain rfl : cd = 30 := by
        rcases hcd with ⟨hv, _⟩ | ⟨_, h⟩
        · exact absurd (hv.zero rfl) (by decide)
        · exact h
      have HB155 := Lib.hid (HBC.out.trans (hbd.mono HBC.out.size))
      clear HBC
      clear hbd hcd
      go_wp2
      go_ret
      exact ⟨HB155.out, rfl⟩
end Go.Proofs.YtnbanlmkoljghaaGreatDoor
