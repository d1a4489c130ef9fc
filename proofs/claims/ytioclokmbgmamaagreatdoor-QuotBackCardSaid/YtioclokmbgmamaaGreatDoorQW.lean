/- The law package's works (layer 04; written by gen_qw.py). -/
import Derived.Test.YtioclokmbgmamaaGreatDoorQQ
namespace Go.Proofs.YtioclokmbgmamaaGreatDoor
open Go Go.RowKit Dig
theorem QFloor_lit {w : World} {v : Value} {q : Rat} {z : Int} (h : QV w w.heap.size v q) (l : QL 600 600 q) (hz : q.num / (q.den : Int) = z) (hl : z.natAbs < 1000000000000000000000000000) :
  Calls Tryz.prog 18 #[v] w fun e w' => Below w.heap.size w w' ∧ ∃ u, e = .returned (.tuple #[u, .int .i64 0]) ∧ LV w' w'.heap.size u z := by
 have h1 := QFloor_good w v q h l
 rw [hz, show toldZ z = (z, 0) from if_pos (small_len hl)] at h1
 exact h1
theorem QSign_lit {w : World} {v : Value} (q : Rat) {s : Int} (h : QV w w.heap.size v q) (l : QL 600 600 q) (hs : q.num.sign = s) :
  Calls Tryz.prog 16 #[v] w fun e w' => Below w.heap.size w w' ∧ e = .returned (.tuple #[.int .i64 s, .int .i64 0]) := by
 have h1 := QSign_any w v _ _ _ _ h.qr
 rw [qOf_rat q l.1 l.2, sgnQ, hs] at h1
 exact h1
theorem QSpan_lit {w : World} {v : Value} {q : Rat} (h : QV w w.heap.size v q) (l : QL 600 600 q) {r : (Int × Int) × Int} (hr : spanQ (some q) = r) (G : Glob w) :
  Calls Tryz.prog 25 #[v] w fun e w' => Below w.heap.size w w' ∧ e = .returned (.tuple #[.agg #[.int .i64 r.1.1, .int .i64 r.1.2], .int .i64 r.2]) := by
 have h1 := QSpan_good w v q h l G
 rw [hr] at h1
 exact h1
theorem QNear_lit {w : World} {v : Value} {q : Rat} (h : QV w w.heap.size v q) (l : QL 600 600 q) {s : Int} {r : Int × Int} (hr : nearQ (some q) s = r) (G : Glob w) :
  Calls Tryz.prog 27 #[v, .int .i64 s] w fun e w' => Below w.heap.size w w' ∧ e = .returned (.tuple #[.int .i64 r.1, .int .i64 r.2]) := by
 have h1 := QNear_good w v q s h l G
 rw [hr] at h1
 exact h1
theorem QDiv_zero {w : World} {va vb : Value} {q r : Rat} (ha : QV w w.heap.size va q) (hb : QV w w.heap.size vb r) (lq : QL 600 600 q) (lr : QL 600 600 r) (h0 : r = 0 := by decide +kernel) :
  Calls Tryz.prog 38 #[va, vb] w fun e w' => Below w.heap.size w w' ∧ ∃ v, e = .returned (.tuple #[v, .int .i64 7]) ∧ QR w' w'.heap.size v false [] false [] := by
 have h1 := QDiv_good w va vb q r ha hb lq lr
 rw [show divQ q r = (none, 7) from if_pos h0] at h1
 exact h1
theorem SameL_yes {w : World} {va vb : Value} {z : Int} (ha : LV w w.heap.size va z) (hb : LV w w.heap.size vb z) :
  Calls Tryz.prog 54 #[va, vb] w fun e w' => Below w.heap.size w w' ∧ e = .returned (.bool true) := by
 have h1 := Same_any w va vb _ _ _ _ ha hb
 rw [decide_eq_true ⟨rfl, rfl⟩] at h1
 exact h1
theorem qOf_lit {x y : Int} (hx : x.natAbs < 1000000000000000000000000000) (hy : y.natAbs < 1000000000000000000000000000) (h : ¬ (0 < y ∧ Nat.gcd x.natAbs y.natAbs = 1)) : qOf (decide (x < 0)) (ni (dig x.natAbs)) (decide (y < 0)) (ni (dig y.natAbs)) = none :=
 (qOf_pair (small_len hx) (small_len hy)).trans (if_neg h)
theorem bad0 : parseQ (ByteArray.mk #[50, 47, 52]).data.toList = (none, 5) := by
 show parseQ ([50] ++ 47 :: [52]) = _
 rw [parseQ_two (by decide), lit_parse (s := [50]) (z := 2) (by decide +kernel) (by decide), lit_parse (s := [52]) (z := 4) (by decide +kernel) (by decide)]
 decide +kernel
theorem bad1 : parseQ (ByteArray.mk #[51, 47, 49]).data.toList = (none, 5) := by
 show parseQ ([51] ++ 47 :: [49]) = _
 rw [parseQ_two (by decide), lit_parse (s := [51]) (z := 3) (by decide +kernel) (by decide), lit_parse (s := [49]) (z := 1) (by decide +kernel) (by decide)]
 decide +kernel
theorem bad2 : parseQ (ByteArray.mk #[49, 47, 45, 50]).data.toList = (none, 5) := by
 show parseQ ([49] ++ 47 :: [45, 50]) = _
 rw [parseQ_two (by decide), lit_parse (s := [49]) (z := 1) (by decide +kernel) (by decide), lit_parse (s := [45, 50]) (z := -2) (by decide +kernel) (by decide)]
 decide +kernel
theorem bad3 : parseQ (ByteArray.mk #[49, 47]).data.toList = (none, 5) := by
 show parseQ ([49] ++ 47 :: []) = _
 rw [parseQ_two (by decide), lit_parse (s := [49]) (z := 1) (by decide +kernel) (by decide), parseZ_none (s := []) (canon_empty rfl)]
 decide +kernel
theorem plit_49_47_50 : parseQ (ByteArray.mk #[49, 47, 50]).data.toList = (some (mkRat 1 2), 0) := parse_lit (lit_frac (s1 := [49]) (s2 := [50]) (x := 1) (d := 2) (by decide +kernel) (by decide +kernel) (by decide) (by decide +kernel)) (lit_QL (x := 1) (d := 2) (by decide) (by decide +kernel) (by decide +kernel) (by decide +kernel))
theorem plit_49_47_51 : parseQ (ByteArray.mk #[49, 47, 51]).data.toList = (some (mkRat 1 3), 0) := parse_lit (lit_frac (s1 := [49]) (s2 := [51]) (x := 1) (d := 3) (by decide +kernel) (by decide +kernel) (by decide) (by decide +kernel)) (lit_QL (x := 1) (d := 3) (by decide) (by decide +kernel) (by decide +kernel) (by decide +kernel))
theorem plit_45_50_47_51 : parseQ (ByteArray.mk #[45, 50, 47, 51]).data.toList = (some (mkRat (-2) 3), 0) := parse_lit (lit_frac (s1 := [45, 50]) (s2 := [51]) (x := (-2)) (d := 3) (by decide +kernel) (by decide +kernel) (by decide) (by decide +kernel)) (lit_QL (x := (-2)) (d := 3) (by decide) (by decide +kernel) (by decide +kernel) (by decide +kernel))
theorem plit_51_47_50 : parseQ (ByteArray.mk #[51, 47, 50]).data.toList = (some (mkRat 3 2), 0) := parse_lit (lit_frac (s1 := [51]) (s2 := [50]) (x := 3) (d := 2) (by decide +kernel) (by decide +kernel) (by decide) (by decide +kernel)) (lit_QL (x := 3) (d := 2) (by decide) (by decide +kernel) (by decide +kernel) (by decide +kernel))
theorem plit_49 : parseQ (ByteArray.mk #[49]).data.toList = (some (mkRat 1 1), 0) := parse_lit (lit_whole (s := [49]) (x := 1) (by decide +kernel)) (lit_QL (x := 1) (d := 1) (by decide) (by decide +kernel) (by decide +kernel) (by decide +kernel))
theorem plit_45_49_47_50 : parseQ (ByteArray.mk #[45, 49, 47, 50]).data.toList = (some (mkRat (-1) 2), 0) := parse_lit (lit_frac (s1 := [45, 49]) (s2 := [50]) (x := (-1)) (d := 2) (by decide +kernel) (by decide +kernel) (by decide) (by decide +kernel)) (lit_QL (x := (-1)) (d := 2) (by decide) (by decide +kernel) (by decide +kernel) (by decide +kernel))
theorem plit_48 : parseQ (ByteArray.mk #[48]).data.toList = (some (mkRat 0 1), 0) := parse_lit (lit_whole (s := [48]) (x := 0) (by decide +kernel)) (lit_QL (x := 0) (d := 1) (by decide) (by decide +kernel) (by decide +kernel) (by decide +kernel))
theorem plit_45_51 : parseQ (ByteArray.mk #[45, 51]).data.toList = (some (mkRat (-3) 1), 0) := parse_lit (lit_whole (s := [45, 51]) (x := (-3)) (by decide +kernel)) (lit_QL (x := (-3)) (d := 1) (by decide) (by decide +kernel) (by decide +kernel) (by decide +kernel))
theorem plit_50_47_51 : parseQ (ByteArray.mk #[50, 47, 51]).data.toList = (some (mkRat 2 3), 0) := parse_lit (lit_frac (s1 := [50]) (s2 := [51]) (x := 2) (d := 3) (by decide +kernel) (by decide +kernel) (by decide) (by decide +kernel)) (lit_QL (x := 2) (d := 3) (by decide) (by decide +kernel) (by decide +kernel) (by decide +kernel))
theorem idx4_0 (a b c d : Value) (w : World) : (Instr.index 89 (.agg #[a, b, c, d]) (.int .i64 0)).run Tryz.prog w = .ok a w := by kernel_rfl
theorem idx4_1 (a b c d : Value) (w : World) : (Instr.index 89 (.agg #[a, b, c, d]) (.int .i64 1)).run Tryz.prog w = .ok b w := by kernel_rfl
theorem idx4_2 (a b c d : Value) (w : World) : (Instr.index 89 (.agg #[a, b, c, d]) (.int .i64 2)).run Tryz.prog w = .ok c w := by kernel_rfl
theorem idx4_3 (a b c d : Value) (w : World) : (Instr.index 89 (.agg #[a, b, c, d]) (.int .i64 3)).run Tryz.prog w = .ok d w := by kernel_rfl
set_option maxRecDepth 100000 in
set_option maxHeartbeats 8000000 in
theorem worksQ_any (w : World) (G : Glob w) (M : MaxL w) :
  Calls Tryz.prog 12 #[] w fun e w' => Below w.heap.size w w' ∧ e = .returned (.bool true) := by
 go_enter Tryz.func12, Tryz.ntmps12
 go_wp2_with fail
 refine (isQ_new _ ⟨#[45, 51, 47, 50]⟩).mono ?_
 rintro e w2 ⟨hb2, N1, rfl, hN1⟩
 have B3 := Lib.hid hb2
 have z3 := B3.out.size
 clear hb2
 go_wp2_with fail
 refine (QOf_any _ 6 (-4) (by decide) (by decide) (by decide) (by decide)).mono ?_
 rintro e w5 ⟨hb5, v4, rfl, hv4⟩
 have B6 := Lib.hid hb5
 have z6 := B6.out.size
 have HB7 := Lib.hid (B3.out.trans (B6.out.mono B3.out.size))
 clear hb5
 have heq4 := mkQ_lit (x := 6) (y := (-4)) (c := (mkRat (-3) 2)) (by decide) (by decide +kernel) (lit_QL (x := (-3)) (d := 2) (by decide) (by decide +kernel) (by decide +kernel) (by decide +kernel)); rw [heq4] at hv4; rw [heq4]; clear heq4
 replace hv4 : QV w5 w5.heap.size v4 (mkRat (-3) 2) := hv4
 have Hr_8 := Lib.hid hv4; clear hv4
 have LN_9 := One.step hN1 B6.out
 go_wp2_with fail
 refine (isQ_yes LN_9 Hr_8.out (lit_QL (x := (-3)) (d := 2) (by decide) (by decide +kernel) (by decide +kernel) (by decide +kernel)) (lit_frac (s1 := [45, 51]) (s2 := [50]) (x := (-3)) (d := 2) (by decide +kernel) (by decide +kernel) (by decide) (by decide +kernel)) (G.step HB7.out)).mono ?_
 rintro e w10 ⟨hb10, rfl⟩
 have B11 := Lib.hid hb10
 have z11 := B11.out.size
 have HB12 := Lib.hid (HB7.out.trans (B11.out.mono HB7.out.size))
 clear hb10
 clear LN_9
 go_wp2_with fail
 refine (isQ_new _ ⟨#[48]⟩).mono ?_
 rintro e w14 ⟨hb14, N13, rfl, hN13⟩
 have B15 := Lib.hid hb14
 have z15 := B15.out.size
 have HB16 := Lib.hid (HB12.out.trans (B15.out.mono HB12.out.size))
 clear hb14
 go_wp2_with fail
 refine (QOf_any _ 0 5 (by decide) (by decide) (by decide) (by decide)).mono ?_
 rintro e w18 ⟨hb18, v17, rfl, hv17⟩
 have B19 := Lib.hid hb18
 have z19 := B19.out.size
 have HB20 := Lib.hid (HB16.out.trans (B19.out.mono HB16.out.size))
 clear hb18
 have heq17 := mkQ_lit (x := 0) (y := 5) (c := (mkRat 0 1)) (by decide) (by decide +kernel) (lit_QL (x := 0) (d := 1) (by decide) (by decide +kernel) (by decide +kernel) (by decide +kernel)); rw [heq17] at hv17; rw [heq17]; clear heq17
 replace hv17 : QV w18 w18.heap.size v17 (mkRat 0 1) := hv17
 have Hr_21 := Lib.hid hv17; clear hv17
 have LN_22 := One.step hN13 B19.out
 go_wp2_with fail
 refine (isQ_yes LN_22 Hr_21.out (lit_QL (x := 0) (d := 1) (by decide) (by decide +kernel) (by decide +kernel) (by decide +kernel)) (lit_whole (s := [48]) (x := 0) (by decide +kernel)) (G.step HB20.out)).mono ?_
 rintro e w23 ⟨hb23, rfl⟩
 have B24 := Lib.hid hb23
 have z24 := B24.out.size
 have HB25 := Lib.hid (HB20.out.trans (B24.out.mono HB20.out.size))
 clear hb23
 clear LN_22
 go_wp2_with fail
 refine (failsQ_new _ 7).mono ?_
 rintro e w27 ⟨hb27, N26, rfl, hN26⟩
 have B28 := Lib.hid hb27
 have z28 := B28.out.size
 have HB29 := Lib.hid (HB25.out.trans (B28.out.mono HB25.out.size))
 clear hb27
 go_wp2_with fail
 refine (QOf_any _ 1 0 (by decide) (by decide) (by decide) (by decide)).mono ?_
 rintro e w31 ⟨hb31, v30, rfl, hv30⟩
 have B32 := Lib.hid hb31
 have z32 := B32.out.size
 have HB33 := Lib.hid (HB29.out.trans (B32.out.mono HB29.out.size))
 clear hb31
 have heq30 := show mkQ 1 0 = (none, 7) from if_pos rfl; rw [heq30] at hv30; rw [heq30]; clear heq30
 replace hv30 : QR w31 w31.heap.size v30 false [] false [] := hv30
 have Hr_34 := Lib.hid hv30; clear hv30
 have LN_35 := One.step hN26 B32.out
 go_wp2_with fail
 refine (failsQ_yes LN_35 Hr_34.out).mono ?_
 rintro e w36 ⟨hb36, rfl⟩
 have B37 := Lib.hid hb36
 have z37 := B37.out.size
 have HB38 := Lib.hid (HB33.out.trans (B37.out.mono HB33.out.size))
 clear hb36
 clear LN_35
 go_wp2_with fail
 refine (isQ_new _ ⟨#[53, 47, 54]⟩).mono ?_
 rintro e w40 ⟨hb40, N39, rfl, hN39⟩
 have B41 := Lib.hid hb40
 have z41 := B41.out.size
 have HB42 := Lib.hid (HB38.out.trans (B41.out.mono HB38.out.size))
 clear hb40
 go_wp2_with fail
 refine (ofQ_lit _ ⟨#[49, 47, 50]⟩ (mkRat 1 2) plit_49_47_50 (by decide +kernel) (M.step HB42.out)).mono ?_
 rintro e w44 ⟨hb44, v43, rfl, hv43⟩
 have B45 := Lib.hid hb44
 have z45 := B45.out.size
 have HB46 := Lib.hid (HB42.out.trans (B45.out.mono HB42.out.size))
 clear hb44
 have Ha_47 := Lib.hid hv43; clear hv43
 go_wp2_with fail
 refine (ofQ_lit _ ⟨#[49, 47, 51]⟩ (mkRat 1 3) plit_49_47_51 (by decide +kernel) (M.step HB46.out)).mono ?_
 rintro e w49 ⟨hb49, v48, rfl, hv48⟩
 have B50 := Lib.hid hb49
 have z50 := B50.out.size
 have HB51 := Lib.hid (HB46.out.trans (B50.out.mono HB46.out.size))
 clear hb49
 have Hb_52 := Lib.hid hv48; clear hv48
 go_wp2_with fail
 have Ha_55 := Lib.hid (QV.step Ha_47.out B50.out)
 refine (QAdd_good _ _ _ (mkRat 1 2) (mkRat 1 3) Ha_55.out Hb_52.out (lit_QL (x := 1) (d := 2) (by decide) (by decide +kernel) (by decide +kernel) (by decide +kernel)) (lit_QL (x := 1) (d := 3) (by decide) (by decide +kernel) (by decide +kernel) (by decide +kernel))).mono ?_
 rintro e w54 ⟨hb54, v53, rfl, hv53⟩
 have B56 := Lib.hid hb54
 have z56 := B56.out.size
 have HB57 := Lib.hid (HB51.out.trans (B56.out.mono HB51.out.size))
 clear hb54
 have heq53 := toldQ_lit (a := (mkRat 1 2) + (mkRat 1 3)) (c := (mkRat 5 6)) (by decide +kernel) (lit_QL (x := 5) (d := 6) (by decide) (by decide +kernel) (by decide +kernel) (by decide +kernel)); rw [heq53] at hv53; rw [heq53]; clear heq53
 replace hv53 : QV w54 w54.heap.size v53 (mkRat 5 6) := hv53
 have Hr_58 := Lib.hid hv53; clear hv53
 have P2_4_60 := Lib.hid (B45.out.trans (B50.out.mono B45.out.size))
 have P2_5_61 := Lib.hid (P2_4_60.out.trans (B56.out.mono P2_4_60.out.size))
 have LN_59 := One.step hN39 P2_5_61.out
 go_wp2_with fail
 refine (isQ_yes LN_59 Hr_58.out (lit_QL (x := 5) (d := 6) (by decide) (by decide +kernel) (by decide +kernel) (by decide +kernel)) (lit_frac (s1 := [53]) (s2 := [54]) (x := 5) (d := 6) (by decide +kernel) (by decide +kernel) (by decide) (by decide +kernel)) (G.step HB57.out)).mono ?_
 rintro e w62 ⟨hb62, rfl⟩
 have B63 := Lib.hid hb62
 have z63 := B63.out.size
 have HB64 := Lib.hid (HB57.out.trans (B63.out.mono HB57.out.size))
 clear hb62
 clear LN_59
 go_wp2_with fail
 refine (isQ_new _ ⟨#[48]⟩).mono ?_
 rintro e w66 ⟨hb66, N65, rfl, hN65⟩
 have B67 := Lib.hid hb66
 have z67 := B67.out.size
 have HB68 := Lib.hid (HB64.out.trans (B67.out.mono HB64.out.size))
 clear hb66
 go_wp2_with fail
 refine (ofQ_lit _ ⟨#[49, 47, 50]⟩ (mkRat 1 2) plit_49_47_50 (by decide +kernel) (M.step HB68.out)).mono ?_
 rintro e w70 ⟨hb70, v69, rfl, hv69⟩
 have B71 := Lib.hid hb70
 have z71 := B71.out.size
 have HB72 := Lib.hid (HB68.out.trans (B71.out.mono HB68.out.size))
 clear hb70
 have Ha_73 := Lib.hid hv69; clear hv69
 go_wp2_with fail
 refine (ofQ_lit _ ⟨#[49, 47, 50]⟩ (mkRat 1 2) plit_49_47_50 (by decide +kernel) (M.step HB72.out)).mono ?_
 rintro e w75 ⟨hb75, v74, rfl, hv74⟩
 have B76 := Lib.hid hb75
 have z76 := B76.out.size
 have HB77 := Lib.hid (HB72.out.trans (B76.out.mono HB72.out.size))
 clear hb75
 have Hb_78 := Lib.hid hv74; clear hv74
 go_wp2_with fail
 have Ha_81 := Lib.hid (QV.step Ha_73.out B76.out)
 refine (QSub_good _ _ _ (mkRat 1 2) (mkRat 1 2) Ha_81.out Hb_78.out (lit_QL (x := 1) (d := 2) (by decide) (by decide +kernel) (by decide +kernel) (by decide +kernel)) (lit_QL (x := 1) (d := 2) (by decide) (by decide +kernel) (by decide +kernel) (by decide +kernel))).mono ?_
 rintro e w80 ⟨hb80, v79, rfl, hv79⟩
 have B82 := Lib.hid hb80
 have z82 := B82.out.size
 have HB83 := Lib.hid (HB77.out.trans (B82.out.mono HB77.out.size))
 clear hb80
 have heq79 := toldQ_lit (a := (mkRat 1 2) - (mkRat 1 2)) (c := (mkRat 0 1)) (by decide +kernel) (lit_QL (x := 0) (d := 1) (by decide) (by decide +kernel) (by decide +kernel) (by decide +kernel)); rw [heq79] at hv79; rw [heq79]; clear heq79
 replace hv79 : QV w80 w80.heap.size v79 (mkRat 0 1) := hv79
 have Hr_84 := Lib.hid hv79; clear hv79
 have P2_4_86 := Lib.hid (B71.out.trans (B76.out.mono B71.out.size))
 have P2_5_87 := Lib.hid (P2_4_86.out.trans (B82.out.mono P2_4_86.out.size))
 have LN_85 := One.step hN65 P2_5_87.out
 go_wp2_with fail
 refine (isQ_yes LN_85 Hr_84.out (lit_QL (x := 0) (d := 1) (by decide) (by decide +kernel) (by decide +kernel) (by decide +kernel)) (lit_whole (s := [48]) (x := 0) (by decide +kernel)) (G.step HB83.out)).mono ?_
 rintro e w88 ⟨hb88, rfl⟩
 have B89 := Lib.hid hb88
 have z89 := B89.out.size
 have HB90 := Lib.hid (HB83.out.trans (B89.out.mono HB83.out.size))
 clear hb88
 clear LN_85
 go_wp2_with fail
 refine (isQ_new _ ⟨#[45, 49]⟩).mono ?_
 rintro e w92 ⟨hb92, N91, rfl, hN91⟩
 have B93 := Lib.hid hb92
 have z93 := B93.out.size
 have HB94 := Lib.hid (HB90.out.trans (B93.out.mono HB90.out.size))
 clear hb92
 go_wp2_with fail
 refine (ofQ_lit _ ⟨#[45, 50, 47, 51]⟩ (mkRat (-2) 3) plit_45_50_47_51 (by decide +kernel) (M.step HB94.out)).mono ?_
 rintro e w96 ⟨hb96, v95, rfl, hv95⟩
 have B97 := Lib.hid hb96
 have z97 := B97.out.size
 have HB98 := Lib.hid (HB94.out.trans (B97.out.mono HB94.out.size))
 clear hb96
 have Ha_99 := Lib.hid hv95; clear hv95
 go_wp2_with fail
 refine (ofQ_lit _ ⟨#[51, 47, 50]⟩ (mkRat 3 2) plit_51_47_50 (by decide +kernel) (M.step HB98.out)).mono ?_
 rintro e w101 ⟨hb101, v100, rfl, hv100⟩
 have B102 := Lib.hid hb101
 have z102 := B102.out.size
 have HB103 := Lib.hid (HB98.out.trans (B102.out.mono HB98.out.size))
 clear hb101
 have Hb_104 := Lib.hid hv100; clear hv100
 go_wp2_with fail
 have Ha_107 := Lib.hid (QV.step Ha_99.out B102.out)
 refine (QMul_good _ _ _ (mkRat (-2) 3) (mkRat 3 2) Ha_107.out Hb_104.out (lit_QL (x := (-2)) (d := 3) (by decide) (by decide +kernel) (by decide +kernel) (by decide +kernel)) (lit_QL (x := 3) (d := 2) (by decide) (by decide +kernel) (by decide +kernel) (by decide +kernel))).mono ?_
 rintro e w106 ⟨hb106, v105, rfl, hv105⟩
 have B108 := Lib.hid hb106
 have z108 := B108.out.size
 have HB109 := Lib.hid (HB103.out.trans (B108.out.mono HB103.out.size))
 clear hb106
 have heq105 := toldQ_lit (a := (mkRat (-2) 3) * (mkRat 3 2)) (c := (mkRat (-1) 1)) (by decide +kernel) (lit_QL (x := (-1)) (d := 1) (by decide) (by decide +kernel) (by decide +kernel) (by decide +kernel)); rw [heq105] at hv105; rw [heq105]; clear heq105
 replace hv105 : QV w106 w106.heap.size v105 (mkRat (-1) 1) := hv105
 have Hr_110 := Lib.hid hv105; clear hv105
 have P2_4_112 := Lib.hid (B97.out.trans (B102.out.mono B97.out.size))
 have P2_5_113 := Lib.hid (P2_4_112.out.trans (B108.out.mono P2_4_112.out.size))
 have LN_111 := One.step hN91 P2_5_113.out
 go_wp2_with fail
 refine (isQ_yes LN_111 Hr_110.out (lit_QL (x := (-1)) (d := 1) (by decide) (by decide +kernel) (by decide +kernel) (by decide +kernel)) (lit_whole (s := [45, 49]) (x := (-1)) (by decide +kernel)) (G.step HB109.out)).mono ?_
 rintro e w114 ⟨hb114, rfl⟩
 have B115 := Lib.hid hb114
 have z115 := B115.out.size
 have HB116 := Lib.hid (HB109.out.trans (B115.out.mono HB109.out.size))
 clear hb114
 clear LN_111
 go_wp2_with fail
 refine (isQ_new _ ⟨#[45, 51, 47, 50]⟩).mono ?_
 rintro e w118 ⟨hb118, N117, rfl, hN117⟩
 have B119 := Lib.hid hb118
 have z119 := B119.out.size
 have HB120 := Lib.hid (HB116.out.trans (B119.out.mono HB116.out.size))
 clear hb118
 go_wp2_with fail
 refine (ofQ_lit _ ⟨#[49]⟩ (mkRat 1 1) plit_49 (by decide +kernel) (M.step HB120.out)).mono ?_
 rintro e w122 ⟨hb122, v121, rfl, hv121⟩
 have B123 := Lib.hid hb122
 have z123 := B123.out.size
 have HB124 := Lib.hid (HB120.out.trans (B123.out.mono HB120.out.size))
 clear hb122
 have Ha_125 := Lib.hid hv121; clear hv121
 go_wp2_with fail
 refine (ofQ_lit _ ⟨#[45, 50, 47, 51]⟩ (mkRat (-2) 3) plit_45_50_47_51 (by decide +kernel) (M.step HB124.out)).mono ?_
 rintro e w127 ⟨hb127, v126, rfl, hv126⟩
 have B128 := Lib.hid hb127
 have z128 := B128.out.size
 have HB129 := Lib.hid (HB124.out.trans (B128.out.mono HB124.out.size))
 clear hb127
 have Hb_130 := Lib.hid hv126; clear hv126
 go_wp2_with fail
 have Ha_133 := Lib.hid (QV.step Ha_125.out B128.out)
 refine (QDiv_good _ _ _ (mkRat 1 1) (mkRat (-2) 3) Ha_133.out Hb_130.out (lit_QL (x := 1) (d := 1) (by decide) (by decide +kernel) (by decide +kernel) (by decide +kernel)) (lit_QL (x := (-2)) (d := 3) (by decide) (by decide +kernel) (by decide +kernel) (by decide +kernel))).mono ?_
 rintro e w132 ⟨hb132, v131, rfl, hv131⟩
 have B134 := Lib.hid hb132
 have z134 := B134.out.size
 have HB135 := Lib.hid (HB129.out.trans (B134.out.mono HB129.out.size))
 clear hb132
 have heq131 := (show divQ (mkRat 1 1) (mkRat (-2) 3) = _ from if_neg (by decide +kernel)).trans (toldQ_lit (a := (mkRat 1 1) / (mkRat (-2) 3)) (c := (mkRat (-3) 2)) (by decide +kernel) (lit_QL (x := (-3)) (d := 2) (by decide) (by decide +kernel) (by decide +kernel) (by decide +kernel))); rw [heq131] at hv131; rw [heq131]; clear heq131
 replace hv131 : QV w132 w132.heap.size v131 (mkRat (-3) 2) := hv131
 have Hr_136 := Lib.hid hv131; clear hv131
 have P2_4_138 := Lib.hid (B123.out.trans (B128.out.mono B123.out.size))
 have P2_5_139 := Lib.hid (P2_4_138.out.trans (B134.out.mono P2_4_138.out.size))
 have LN_137 := One.step hN117 P2_5_139.out
 go_wp2_with fail
 refine (isQ_yes LN_137 Hr_136.out (lit_QL (x := (-3)) (d := 2) (by decide) (by decide +kernel) (by decide +kernel) (by decide +kernel)) (lit_frac (s1 := [45, 51]) (s2 := [50]) (x := (-3)) (d := 2) (by decide +kernel) (by decide +kernel) (by decide) (by decide +kernel)) (G.step HB135.out)).mono ?_
 rintro e w140 ⟨hb140, rfl⟩
 have B141 := Lib.hid hb140
 have z141 := B141.out.size
 have HB142 := Lib.hid (HB135.out.trans (B141.out.mono HB135.out.size))
 clear hb140
 clear LN_137
 go_wp2_with fail
 refine (ofQ_lit _ ⟨#[45, 49, 47, 50]⟩ (mkRat (-1) 2) plit_45_49_47_50 (by decide +kernel) (M.step HB142.out)).mono ?_
 rintro e w144 ⟨hb144, v143, rfl, hv143⟩
 have B145 := Lib.hid hb144
 have z145 := B145.out.size
 have HB146 := Lib.hid (HB142.out.trans (B145.out.mono HB142.out.size))
 clear hb144
 have Ha_147 := Lib.hid hv143; clear hv143
 go_wp2_with fail
 refine (QFloor_lit Ha_147.out (lit_QL (x := (-1)) (d := 2) (by decide) (by decide +kernel) (by decide +kernel) (by decide +kernel)) (z := -1) (by decide +kernel) (by decide)).mono ?_
 rintro e w148 ⟨hb148, v, rfl, hv⟩
 have B149 := Lib.hid hb148
 have z149 := B149.out.size
 have HB150 := Lib.hid (HB146.out.trans (B149.out.mono HB146.out.size))
 clear hb148
 replace hv : LV w148 w148.heap.size v (-1) := hv
 obtain ⟨n151, Ad151, l151, c151, rfl, hv151⟩ := hv.opened
 have Hfl_151 := Lib.hid hv151
 clear hv hv151
 go_upto_region 3 with (fail)
 obtain ⟨w152, hW152⟩ : ∃ w152 : World, w152 = (w148.alloc (.cells #[.bool n151, .slice Ad151 l151 c151] 24)) := ⟨_, rfl⟩; rw [← hW152]
 have hb152 : Below w148.heap.size w148 w152 := by rw [hW152]; (repeat' (first | exact Below.refl _ _ | refine Below.drew ?_ | refine Below.alloc ?_ (by first | exact Nat.le_refl _ | (simp; done) | (simp; omega)) _))
 have Ln_152 : CB w152 (w148.heap.size) 24 #[.bool n151, .slice Ad151 l151 c151] := by rw [hW152]; have h := CB.new w148 24 #[.bool n151, .slice Ad151 l151 c151]; simpa using h
 have za152 : w148.heap.size + 1 ≤ w152.heap.size := by rw [hW152]; simp
 have B153 := Lib.hid hb152
 have z153 := B153.out.size
 have HB154 := Lib.hid (HB150.out.trans (B153.out.mono HB150.out.size))
 clear hb152 hW152
 refine Flow.run [⟨0, 68, fun fv fw => fv = .bool true⟩, ⟨1, 69, fun fv fw => fv = .bool true⟩, ⟨2, 70, fun fv fw => ∃ N, fv = .func (.func 111) #[] #[.pointer (some ⟨N, 0, none⟩)] ∧ One fw N 3 (.int .i64 (-1))⟩, ⟨3, 71, fun fv fw => QV fw fw.heap.size fv (mkRat 1 3)⟩, ⟨4, 72, fun fv fw => QV fw fw.heap.size fv (mkRat 1 2)⟩, ⟨5, 73, fun fv fw => fv = .tuple #[.int .i64 (-1), .int .i64 0]⟩, ⟨6, 74, fun fv fw => fv = .int .i64 (-1)⟩, ⟨7, 75, fun fv fw => fv = .int .i64 0⟩, ⟨8, 76, fun fv fw => fv = .bool true⟩, ⟨9, 77, fun fv fw => fv = .bool true⟩, ⟨10, 78, fun fv fw => fv = .bool true⟩, ⟨11, 79, fun fv fw => ∃ N, fv = .func (.func 111) #[] #[.pointer (some ⟨N, 0, none⟩)] ∧ One fw N 3 (.int .i64 (-1))⟩, ⟨12, 80, fun fv fw => QV fw fw.heap.size fv (mkRat (-1) 2)⟩, ⟨13, 81, fun fv fw => fv = .tuple #[.int .i64 (-1), .int .i64 0]⟩, ⟨14, 82, fun fv fw => fv = .int .i64 (-1)⟩, ⟨15, 83, fun fv fw => fv = .int .i64 0⟩, ⟨16, 84, fun fv fw => fv = .bool true⟩, ⟨17, 85, fun fv fw => fv = .bool true⟩, ⟨18, 86, fun fv fw => fv = .bool true⟩, ⟨19, 87, fun fv fw => fv = .agg #[.bool n151, .slice Ad151 l151 c151]⟩, ⟨20, 88, fun fv fw => LV fw fw.heap.size fv (-1)⟩, ⟨21, 89, fun fv fw => fv = .bool true⟩, ⟨22, 90, fun fv fw => fv = .bool true⟩, ⟨23, 91, fun fv fw => fv = .bool true⟩, ⟨24, 92, fun fv fw => fv = .int .i64 0⟩, ⟨25, 93, fun fv fw => fv = .bool true⟩, ⟨26, 94, fun fv fw => fv = .bool true⟩, ⟨27, 95, fun fv fw => fv = .bool true⟩, ⟨28, 96, fun fv fw => ∃ N, fv = .func (.func 96) #[] #[.pointer (some ⟨N, 0, none⟩)] ∧ One fw N 38 (.int .i64 7)⟩, ⟨29, 97, fun fv fw => QV fw fw.heap.size fv (mkRat 1 1)⟩, ⟨30, 98, fun fv fw => QV fw fw.heap.size fv (mkRat 0 1)⟩, ⟨31, 99, fun fv fw => ∃ u, fv = .tuple #[u, .int .i64 7] ∧ QR fw fw.heap.size u false [] false []⟩, ⟨32, 100, fun fv fw => QR fw fw.heap.size fv false [] false []⟩, ⟨33, 101, fun fv fw => fv = .int .i64 7⟩, ⟨34, 102, fun fv fw => fv = .bool true⟩, ⟨35, 103, fun fv fw => fv = .bool true⟩] [] [] 1 (by kernel_rfl) (by kernel_rfl) (by kernel_rfl) (fun _ _ _ _ _ h => h) ?_ ?_ ?_ ?_
 ·refine (all_cons (fun v w1 w2 h hb => h) (all_cons (fun v w1 w2 h hb => h) (all_cons (fun v w1 w2 h hb => let ⟨N, e, h⟩ := h; ⟨N, e, One.step h hb⟩) (all_cons (fun v w1 w2 h hb => h.step hb) (all_cons (fun v w1 w2 h hb => h.step hb) (all_cons (fun v w1 w2 h hb => h) (all_cons (fun v w1 w2 h hb => h) (all_cons (fun v w1 w2 h hb => h) (all_cons (fun v w1 w2 h hb => h) (all_cons (fun v w1 w2 h hb => h) (all_cons (fun v w1 w2 h hb => h) (all_cons (fun v w1 w2 h hb => let ⟨N, e, h⟩ := h; ⟨N, e, One.step h hb⟩) (all_cons (fun v w1 w2 h hb => h.step hb) (all_cons (fun v w1 w2 h hb => h) (all_cons (fun v w1 w2 h hb => h) (all_cons (fun v w1 w2 h hb => h) (all_cons (fun v w1 w2 h hb => h) (all_cons (fun v w1 w2 h hb => h) (all_cons (fun v w1 w2 h hb => h) (all_cons (fun v w1 w2 h hb => h) (all_cons (fun v w1 w2 h hb => h.step hb) (all_cons (fun v w1 w2 h hb => h) (all_cons (fun v w1 w2 h hb => h) (all_cons (fun v w1 w2 h hb => h) (all_cons (fun v w1 w2 h hb => h) (all_cons (fun v w1 w2 h hb => h) (all_cons (fun v w1 w2 h hb => h) (all_cons (fun v w1 w2 h hb => h) (all_cons (fun v w1 w2 h hb => let ⟨N, e, h⟩ := h; ⟨N, e, One.step h hb⟩) (all_cons (fun v w1 w2 h hb => h.step hb) (all_cons (fun v w1 w2 h hb => h.step hb) (all_cons (fun v w1 w2 h hb => let ⟨u, e, h⟩ := h; ⟨u, e, h.step hb⟩) (all_cons (fun v w1 w2 h hb => h.step hb) (all_cons (fun v w1 w2 h hb => h) (all_cons (fun v w1 w2 h hb => h) (all_cons (fun v w1 w2 h hb => h) all_nil))))))))))))))))))))))))))))))))))))
 ·refine (all_cons ?_ (all_cons ?_ (all_cons ?_ (all_cons ?_ (all_cons ?_ (all_cons ?_ (all_cons ?_ (all_cons ?_ (all_cons ?_ (all_cons ?_ (all_cons ?_ (all_cons ?_ (all_cons ?_ (all_cons ?_ (all_cons ?_ (all_cons ?_ (all_cons ?_ (all_cons ?_ (all_cons ?_ (all_cons ?_ (all_cons ?_ (all_cons ?_ (all_cons ?_ (all_cons ?_ (all_cons ?_ (all_cons ?_ (all_cons ?_ (all_cons ?_ (all_cons ?_ (all_cons ?_ (all_cons ?_ (all_cons ?_ (all_cons ?_ (all_cons ?_ (all_cons ?_ (all_cons ?_ all_nil))))))))))))))))))))))))))))))))))))
  ·intro xs wk155 hBk hdep
   have HBk155 := Lib.hid hBk; have zk155 := hBk.size; clear hBk
   clear hdep
   refine wpOp_step (o := _) rfl (fun K hK => ?_)
   simp only [FL]
   go_simp
   refine hK _ _ ⟨.bool true, by kernel_rfl, Below.refl _ _, rfl, nF⟩
  ·intro xs wk156 hBk hdep
   have HBk156 := Lib.hid hBk; have zk156 := hBk.size; clear hBk
   have f0 : (xs 0) = .bool true := hdep _ (m_ 0 rfl) (by kernel_rfl)
   clear hdep
   refine wpOp_step (o := _) rfl (fun K hK => ?_)
   simp only [FL]
   go_simp
   refine hK _ _ ⟨.bool true, by simp only [FL, f0] <;> kernel_rfl, Below.refl _ _, rfl, nF⟩
  ·intro xs wk157 hBk hdep
   have HBk157 := Lib.hid hBk; have zk157 := hBk.size; clear hBk
   have f1 : (xs 1) = .bool true := hdep _ (m_ 1 rfl) (by kernel_rfl)
   clear hdep
   refine wpOp_step (o := ?go157) ?gho157 ?gh157
   case gho157 => exact rfl
   intro K hK
   simp only [FL]
   go_simp
   (with_reducible refine (saysQ_new _ (-1)).mono ?_)
   rintro e wc158 ⟨hb158, N158, rfl, hN158⟩
   refine hK _ _ ⟨.func (.func 111) #[] #[.pointer (some ⟨N158, 0, none⟩)], by simp only [FL, f1] <;> kernel_rfl, hb158, ⟨N158, rfl, hN158⟩, nF⟩
  ·intro xs wk159 hBk hdep
   have HBk159 := Lib.hid hBk; have zk159 := hBk.size; clear hBk
   have f1 : (xs 1) = .bool true := hdep _ (m_ 1 rfl) (by kernel_rfl)
   clear hdep
   refine wpOp_step (o := ?go159) ?gho159 ?gh159
   case gho159 => exact rfl
   intro K hK
   simp only [FL]
   go_simp
   (with_reducible refine (ofQ_lit _ ⟨#[49, 47, 51]⟩ (mkRat 1 3) plit_49_47_51 (by decide +kernel) (M.step (HB154.out.trans (HBk159.out.mono HB154.out.size)))).mono ?_)
   rintro e wc160 ⟨hb160, v160, rfl, hv160⟩
   refine hK _ _ ⟨v160, by simp only [FL, f1] <;> kernel_rfl, hb160, hv160, nF⟩
  ·intro xs wk161 hBk hdep
   have HBk161 := Lib.hid hBk; have zk161 := hBk.size; clear hBk
   have f1 : (xs 1) = .bool true := hdep _ (m_ 1 rfl) (by kernel_rfl)
   clear hdep
   refine wpOp_step (o := ?go161) ?gho161 ?gh161
   case gho161 => exact rfl
   intro K hK
   simp only [FL]
   go_simp
   (with_reducible refine (ofQ_lit _ ⟨#[49, 47, 50]⟩ (mkRat 1 2) plit_49_47_50 (by decide +kernel) (M.step (HB154.out.trans (HBk161.out.mono HB154.out.size)))).mono ?_)
   rintro e wc162 ⟨hb162, v162, rfl, hv162⟩
   refine hK _ _ ⟨v162, by simp only [FL, f1] <;> kernel_rfl, hb162, hv162, nF⟩
  ·intro xs wk163 hBk hdep
   have HBk163 := Lib.hid hBk; have zk163 := hBk.size; clear hBk
   have f1 : (xs 1) = .bool true := hdep _ (m_ 1 rfl) (by kernel_rfl)
   have f3 : QV wk163 wk163.heap.size (xs 3) (mkRat 1 3) := hdep _ (m_ 3 rfl) (by kernel_rfl)
   have f4 : QV wk163 wk163.heap.size (xs 4) (mkRat 1 2) := hdep _ (m_ 4 rfl) (by kernel_rfl)
   clear hdep
   refine wpOp_step (o := ?go163) ?gho163 ?gh163
   case gho163 => exact rfl
   intro K hK
   simp only [FL]
   go_simp
   (with_reducible refine ((show Calls Tryz.prog _ _ _ _ from (show (cmpR (mkRat 1 3) (mkRat 1 2), (0 : Int)) = (-1, 0) by decide +kernel) ▸ QCmp_good _ _ _ (mkRat 1 3) (mkRat 1 2) f3 f4 (lit_QL (x := 1) (d := 3) (by decide) (by decide +kernel) (by decide +kernel) (by decide +kernel)) (lit_QL (x := 1) (d := 2) (by decide) (by decide +kernel) (by decide +kernel) (by decide +kernel)))).mono ?_)
   rintro e wc164 ⟨hb164, rfl⟩
   refine hK _ _ ⟨.tuple #[.int .i64 (-1), .int .i64 0], by simp only [FL, f1] <;> kernel_rfl, hb164, rfl, nF⟩
  ·intro xs wk165 hBk hdep
   have HBk165 := Lib.hid hBk; have zk165 := hBk.size; clear hBk
   have f1 : (xs 1) = .bool true := hdep _ (m_ 1 rfl) (by kernel_rfl)
   have f5 : (xs 5) = .tuple #[.int .i64 (-1), .int .i64 0] := hdep _ (m_ 5 rfl) (by kernel_rfl)
   clear hdep
   refine wpOp_step (o := ?go165) ?gho165 ?gh165
   case gho165 => exact rfl
   intro K hK
   simp only [FL]
   go_simp
   refine hK _ _ ⟨.int .i64 (-1), by simp only [FL, f1, f5] <;> kernel_rfl, Below.refl _ _, rfl, nF⟩
  ·intro xs wk166 hBk hdep
   have HBk166 := Lib.hid hBk; have zk166 := hBk.size; clear hBk
   have f1 : (xs 1) = .bool true := hdep _ (m_ 1 rfl) (by kernel_rfl)
   have f5 : (xs 5) = .tuple #[.int .i64 (-1), .int .i64 0] := hdep _ (m_ 5 rfl) (by kernel_rfl)
   clear hdep
   refine wpOp_step (o := ?go166) ?gho166 ?gh166
   case gho166 => exact rfl
   intro K hK
   simp only [FL]
   go_simp
   refine hK _ _ ⟨.int .i64 0, by simp only [FL, f1, f5] <;> kernel_rfl, Below.refl _ _, rfl, nF⟩
  ·intro xs wk167 hBk hdep
   have HBk167 := Lib.hid hBk; have zk167 := hBk.size; clear hBk
   have f1 : (xs 1) = .bool true := hdep _ (m_ 1 rfl) (by kernel_rfl)
   have f2 : ∃ N, (xs 2) = .func (.func 111) #[] #[.pointer (some ⟨N, 0, none⟩)] ∧ One wk167 N 3 (.int .i64 (-1)) := hdep _ (m_ 2 rfl) (by kernel_rfl)
   have f6 : (xs 6) = .int .i64 (-1) := hdep _ (m_ 6 rfl) (by kernel_rfl)
   have f7 : (xs 7) = .int .i64 0 := hdep _ (m_ 7 rfl) (by kernel_rfl)
   clear hdep
   refine wpOp_step (o := ?go167) ?gho167 ?gh167
   case gho167 => exact rfl
   intro K hK
   simp only [FL]
   obtain ⟨N, hN, hO⟩ := f2; rw [hN]
   have HO := Lib.hid hO; clear hO
   go_simp
   (with_reducible refine (saysQ_yes HO.out).mono ?_)
   rintro e wc168 ⟨hb168, rfl⟩
   refine hK _ _ ⟨.bool true, by simp only [FL, f1, f6, f7, hN] <;> kernel_rfl, hb168, rfl, nF⟩
  ·intro xs wk169 hBk hdep
   have HBk169 := Lib.hid hBk; have zk169 := hBk.size; clear hBk
   have f1 : (xs 1) = .bool true := hdep _ (m_ 1 rfl) (by kernel_rfl)
   have f8 : (xs 8) = .bool true := hdep _ (m_ 8 rfl) (by kernel_rfl)
   clear hdep
   refine wpOp_step (o := _) rfl (fun K hK => ?_)
   simp only [FL]
   go_simp
   refine hK _ _ ⟨.bool true, by simp only [FL, f1, f8] <;> kernel_rfl, Below.refl _ _, rfl, nF⟩
  ·intro xs wk170 hBk hdep
   have HBk170 := Lib.hid hBk; have zk170 := hBk.size; clear hBk
   have f9 : (xs 9) = .bool true := hdep _ (m_ 9 rfl) (by kernel_rfl)
   clear hdep
   refine wpOp_step (o := _) rfl (fun K hK => ?_)
   simp only [FL]
   go_simp
   refine hK _ _ ⟨.bool true, by simp only [FL, f9] <;> kernel_rfl, Below.refl _ _, rfl, nF⟩
  ·intro xs wk171 hBk hdep
   have HBk171 := Lib.hid hBk; have zk171 := hBk.size; clear hBk
   have f10 : (xs 10) = .bool true := hdep _ (m_ 10 rfl) (by kernel_rfl)
   clear hdep
   refine wpOp_step (o := ?go171) ?gho171 ?gh171
   case gho171 => exact rfl
   intro K hK
   simp only [FL]
   go_simp
   (with_reducible refine (saysQ_new _ (-1)).mono ?_)
   rintro e wc172 ⟨hb172, N172, rfl, hN172⟩
   refine hK _ _ ⟨.func (.func 111) #[] #[.pointer (some ⟨N172, 0, none⟩)], by simp only [FL, f10] <;> kernel_rfl, hb172, ⟨N172, rfl, hN172⟩, nF⟩
  ·intro xs wk173 hBk hdep
   have HBk173 := Lib.hid hBk; have zk173 := hBk.size; clear hBk
   have f10 : (xs 10) = .bool true := hdep _ (m_ 10 rfl) (by kernel_rfl)
   clear hdep
   refine wpOp_step (o := ?go173) ?gho173 ?gh173
   case gho173 => exact rfl
   intro K hK
   simp only [FL]
   go_simp
   (with_reducible refine (ofQ_lit _ ⟨#[45, 49, 47, 50]⟩ (mkRat (-1) 2) plit_45_49_47_50 (by decide +kernel) (M.step (HB154.out.trans (HBk173.out.mono HB154.out.size)))).mono ?_)
   rintro e wc174 ⟨hb174, v174, rfl, hv174⟩
   refine hK _ _ ⟨v174, by simp only [FL, f10] <;> kernel_rfl, hb174, hv174, nF⟩
  ·intro xs wk175 hBk hdep
   have HBk175 := Lib.hid hBk; have zk175 := hBk.size; clear hBk
   have f10 : (xs 10) = .bool true := hdep _ (m_ 10 rfl) (by kernel_rfl)
   have f12 : QV wk175 wk175.heap.size (xs 12) (mkRat (-1) 2) := hdep _ (m_ 12 rfl) (by kernel_rfl)
   clear hdep
   refine wpOp_step (o := ?go175) ?gho175 ?gh175
   case gho175 => exact rfl
   intro K hK
   simp only [FL]
   go_simp
   (with_reducible refine (QSign_lit (s := -1) (mkRat (-1) 2) f12 (lit_QL (x := (-1)) (d := 2) (by decide) (by decide +kernel) (by decide +kernel) (by decide +kernel)) (by decide +kernel)).mono ?_)
   rintro e wc176 ⟨hb176, rfl⟩
   refine hK _ _ ⟨.tuple #[.int .i64 (-1), .int .i64 0], by simp only [FL, f10] <;> kernel_rfl, hb176, rfl, nF⟩
  ·intro xs wk177 hBk hdep
   have HBk177 := Lib.hid hBk; have zk177 := hBk.size; clear hBk
   have f10 : (xs 10) = .bool true := hdep _ (m_ 10 rfl) (by kernel_rfl)
   have f13 : (xs 13) = .tuple #[.int .i64 (-1), .int .i64 0] := hdep _ (m_ 13 rfl) (by kernel_rfl)
   clear hdep
   refine wpOp_step (o := ?go177) ?gho177 ?gh177
   case gho177 => exact rfl
   intro K hK
   simp only [FL]
   go_simp
   refine hK _ _ ⟨.int .i64 (-1), by simp only [FL, f10, f13] <;> kernel_rfl, Below.refl _ _, rfl, nF⟩
  ·intro xs wk178 hBk hdep
   have HBk178 := Lib.hid hBk; have zk178 := hBk.size; clear hBk
   have f10 : (xs 10) = .bool true := hdep _ (m_ 10 rfl) (by kernel_rfl)
   have f13 : (xs 13) = .tuple #[.int .i64 (-1), .int .i64 0] := hdep _ (m_ 13 rfl) (by kernel_rfl)
   clear hdep
   refine wpOp_step (o := ?go178) ?gho178 ?gh178
   case gho178 => exact rfl
   intro K hK
   simp only [FL]
   go_simp
   refine hK _ _ ⟨.int .i64 0, by simp only [FL, f10, f13] <;> kernel_rfl, Below.refl _ _, rfl, nF⟩
  ·intro xs wk179 hBk hdep
   have HBk179 := Lib.hid hBk; have zk179 := hBk.size; clear hBk
   have f10 : (xs 10) = .bool true := hdep _ (m_ 10 rfl) (by kernel_rfl)
   have f11 : ∃ N, (xs 11) = .func (.func 111) #[] #[.pointer (some ⟨N, 0, none⟩)] ∧ One wk179 N 3 (.int .i64 (-1)) := hdep _ (m_ 11 rfl) (by kernel_rfl)
   have f14 : (xs 14) = .int .i64 (-1) := hdep _ (m_ 14 rfl) (by kernel_rfl)
   have f15 : (xs 15) = .int .i64 0 := hdep _ (m_ 15 rfl) (by kernel_rfl)
   clear hdep
   refine wpOp_step (o := ?go179) ?gho179 ?gh179
   case gho179 => exact rfl
   intro K hK
   simp only [FL]
   obtain ⟨N, hN, hO⟩ := f11; rw [hN]
   have HO := Lib.hid hO; clear hO
   go_simp
   (with_reducible refine (saysQ_yes HO.out).mono ?_)
   rintro e wc180 ⟨hb180, rfl⟩
   refine hK _ _ ⟨.bool true, by simp only [FL, f10, f14, f15, hN] <;> kernel_rfl, hb180, rfl, nF⟩
  ·intro xs wk181 hBk hdep
   have HBk181 := Lib.hid hBk; have zk181 := hBk.size; clear hBk
   have f10 : (xs 10) = .bool true := hdep _ (m_ 10 rfl) (by kernel_rfl)
   have f16 : (xs 16) = .bool true := hdep _ (m_ 16 rfl) (by kernel_rfl)
   clear hdep
   refine wpOp_step (o := _) rfl (fun K hK => ?_)
   simp only [FL]
   go_simp
   refine hK _ _ ⟨.bool true, by simp only [FL, f10, f16] <;> kernel_rfl, Below.refl _ _, rfl, nF⟩
  ·intro xs wk182 hBk hdep
   have HBk182 := Lib.hid hBk; have zk182 := hBk.size; clear hBk
   have f17 : (xs 17) = .bool true := hdep _ (m_ 17 rfl) (by kernel_rfl)
   clear hdep
   refine wpOp_step (o := _) rfl (fun K hK => ?_)
   simp only [FL]
   go_simp
   refine hK _ _ ⟨.bool true, by simp only [FL, f17] <;> kernel_rfl, Below.refl _ _, rfl, nF⟩
  ·intro xs wk183 hBk hdep
   have HBk183 := Lib.hid hBk; have zk183 := hBk.size; clear hBk
   have f18 : (xs 18) = .bool true := hdep _ (m_ 18 rfl) (by kernel_rfl)
   clear hdep
   refine wpOp_step (o := ?go183) ?gho183 ?gh183
   case gho183 => exact rfl
   intro K hK
   simp only [FL]
   have Ln_184 := CB.step Ln_152 HBk183.out
   have q185_0 := Ln_184.cell 0 rfl
   have q185_1 := Ln_184.cell 1 rfl
   go_simp
   refine hK _ _ ⟨.agg #[.bool n151, .slice Ad151 l151 c151], by simp only [FL, f18] <;> kernel_rfl, Below.refl _ _, rfl, nF⟩
  ·intro xs wk186 hBk hdep
   have HBk186 := Lib.hid hBk; have zk186 := hBk.size; clear hBk
   have f18 : (xs 18) = .bool true := hdep _ (m_ 18 rfl) (by kernel_rfl)
   clear hdep
   refine wpOp_step (o := ?go186) ?gho186 ?gh186
   case gho186 => exact rfl
   intro K hK
   simp only [FL]
   go_simp
   (with_reducible refine (Of_any _ (-1) (by decide) (by decide)).mono ?_)
   rintro e wc187 ⟨hb187, v187, rfl, hv187⟩
   refine hK _ _ ⟨v187, by simp only [FL, f18] <;> kernel_rfl, hb187, hv187, nF⟩
  ·intro xs wk188 hBk hdep
   have HBk188 := Lib.hid hBk; have zk188 := hBk.size; clear hBk
   have f18 : (xs 18) = .bool true := hdep _ (m_ 18 rfl) (by kernel_rfl)
   have f19 : (xs 19) = .agg #[.bool n151, .slice Ad151 l151 c151] := hdep _ (m_ 19 rfl) (by kernel_rfl)
   have f20 : LV wk188 wk188.heap.size (xs 20) (-1) := hdep _ (m_ 20 rfl) (by kernel_rfl)
   clear hdep
   refine wpOp_step (o := ?go188) ?gho188 ?gh188
   case gho188 => exact rfl
   intro K hK
   simp only [FL]
   have P3_5_189 := Lib.hid (B153.out.trans (HBk188.out.mono B153.out.size))
   have Hfl_190 := Lib.hid (LV.step Hfl_151.out P3_5_189.out)
   go_simp
   (with_reducible refine (SameL_yes Hfl_190.out f20).mono ?_)
   rintro e wc191 ⟨hb191, rfl⟩
   refine hK _ _ ⟨.bool true, by simp only [FL, f18, f19] <;> kernel_rfl, hb191, rfl, nF⟩
  ·intro xs wk192 hBk hdep
   have HBk192 := Lib.hid hBk; have zk192 := hBk.size; clear hBk
   have f18 : (xs 18) = .bool true := hdep _ (m_ 18 rfl) (by kernel_rfl)
   have f21 : (xs 21) = .bool true := hdep _ (m_ 21 rfl) (by kernel_rfl)
   clear hdep
   refine wpOp_step (o := _) rfl (fun K hK => ?_)
   simp only [FL]
   go_simp
   refine hK _ _ ⟨.bool true, by simp only [FL, f18, f21] <;> kernel_rfl, Below.refl _ _, rfl, nF⟩
  ·intro xs wk193 hBk hdep
   have HBk193 := Lib.hid hBk; have zk193 := hBk.size; clear hBk
   have f22 : (xs 22) = .bool true := hdep _ (m_ 22 rfl) (by kernel_rfl)
   clear hdep
   refine wpOp_step (o := _) rfl (fun K hK => ?_)
   simp only [FL]
   go_simp
   refine hK _ _ ⟨.bool true, by simp only [FL, f22] <;> kernel_rfl, Below.refl _ _, rfl, nF⟩
  ·intro xs wk194 hBk hdep
   have HBk194 := Lib.hid hBk; have zk194 := hBk.size; clear hBk
   have f23 : (xs 23) = .bool true := hdep _ (m_ 23 rfl) (by kernel_rfl)
   clear hdep
   refine wpOp_step (o := ?go194) ?gho194 ?gh194
   case gho194 => exact rfl
   intro K hK
   simp only [FL]
   go_simp
   refine hK _ _ ⟨.int .i64 0, by simp only [FL, f23] <;> kernel_rfl, Below.refl _ _, rfl, nF⟩
  ·intro xs wk195 hBk hdep
   have HBk195 := Lib.hid hBk; have zk195 := hBk.size; clear hBk
   have f23 : (xs 23) = .bool true := hdep _ (m_ 23 rfl) (by kernel_rfl)
   have f24 : (xs 24) = .int .i64 0 := hdep _ (m_ 24 rfl) (by kernel_rfl)
   clear hdep
   refine wpOp_step (o := ?go195) ?gho195 ?gh195
   case gho195 => exact rfl
   intro K hK
   simp only [FL]
   go_simp
   refine hK _ _ ⟨.bool true, by simp only [FL, f23, f24] <;> kernel_rfl, Below.refl _ _, rfl, nF⟩
  ·intro xs wk196 hBk hdep
   have HBk196 := Lib.hid hBk; have zk196 := hBk.size; clear hBk
   have f23 : (xs 23) = .bool true := hdep _ (m_ 23 rfl) (by kernel_rfl)
   have f25 : (xs 25) = .bool true := hdep _ (m_ 25 rfl) (by kernel_rfl)
   clear hdep
   refine wpOp_step (o := _) rfl (fun K hK => ?_)
   simp only [FL]
   go_simp
   refine hK _ _ ⟨.bool true, by simp only [FL, f23, f25] <;> kernel_rfl, Below.refl _ _, rfl, nF⟩
  ·intro xs wk197 hBk hdep
   have HBk197 := Lib.hid hBk; have zk197 := hBk.size; clear hBk
   have f26 : (xs 26) = .bool true := hdep _ (m_ 26 rfl) (by kernel_rfl)
   clear hdep
   refine wpOp_step (o := _) rfl (fun K hK => ?_)
   simp only [FL]
   go_simp
   refine hK _ _ ⟨.bool true, by simp only [FL, f26] <;> kernel_rfl, Below.refl _ _, rfl, nF⟩
  ·intro xs wk198 hBk hdep
   have HBk198 := Lib.hid hBk; have zk198 := hBk.size; clear hBk
   have f27 : (xs 27) = .bool true := hdep _ (m_ 27 rfl) (by kernel_rfl)
   clear hdep
   refine wpOp_step (o := ?go198) ?gho198 ?gh198
   case gho198 => exact rfl
   intro K hK
   simp only [FL]
   go_simp
   (with_reducible refine (failsQ_new _ 7).mono ?_)
   rintro e wc199 ⟨hb199, N199, rfl, hN199⟩
   refine hK _ _ ⟨.func (.func 96) #[] #[.pointer (some ⟨N199, 0, none⟩)], by simp only [FL, f27] <;> kernel_rfl, hb199, ⟨N199, rfl, hN199⟩, nF⟩
  ·intro xs wk200 hBk hdep
   have HBk200 := Lib.hid hBk; have zk200 := hBk.size; clear hBk
   have f27 : (xs 27) = .bool true := hdep _ (m_ 27 rfl) (by kernel_rfl)
   clear hdep
   refine wpOp_step (o := ?go200) ?gho200 ?gh200
   case gho200 => exact rfl
   intro K hK
   simp only [FL]
   go_simp
   (with_reducible refine (ofQ_lit _ ⟨#[49]⟩ (mkRat 1 1) plit_49 (by decide +kernel) (M.step (HB154.out.trans (HBk200.out.mono HB154.out.size)))).mono ?_)
   rintro e wc201 ⟨hb201, v201, rfl, hv201⟩
   refine hK _ _ ⟨v201, by simp only [FL, f27] <;> kernel_rfl, hb201, hv201, nF⟩
  ·intro xs wk202 hBk hdep
   have HBk202 := Lib.hid hBk; have zk202 := hBk.size; clear hBk
   have f27 : (xs 27) = .bool true := hdep _ (m_ 27 rfl) (by kernel_rfl)
   clear hdep
   refine wpOp_step (o := ?go202) ?gho202 ?gh202
   case gho202 => exact rfl
   intro K hK
   simp only [FL]
   go_simp
   (with_reducible refine (ofQ_lit _ ⟨#[48]⟩ (mkRat 0 1) plit_48 (by decide +kernel) (M.step (HB154.out.trans (HBk202.out.mono HB154.out.size)))).mono ?_)
   rintro e wc203 ⟨hb203, v203, rfl, hv203⟩
   refine hK _ _ ⟨v203, by simp only [FL, f27] <;> kernel_rfl, hb203, hv203, nF⟩
  ·intro xs wk204 hBk hdep
   have HBk204 := Lib.hid hBk; have zk204 := hBk.size; clear hBk
   have f27 : (xs 27) = .bool true := hdep _ (m_ 27 rfl) (by kernel_rfl)
   have f29 : QV wk204 wk204.heap.size (xs 29) (mkRat 1 1) := hdep _ (m_ 29 rfl) (by kernel_rfl)
   have f30 : QV wk204 wk204.heap.size (xs 30) (mkRat 0 1) := hdep _ (m_ 30 rfl) (by kernel_rfl)
   clear hdep
   refine wpOp_step (o := ?go204) ?gho204 ?gh204
   case gho204 => exact rfl
   intro K hK
   simp only [FL]
   go_simp
   (with_reducible refine (QDiv_zero f29 f30 (lit_QL (x := 1) (d := 1) (by decide) (by decide +kernel) (by decide +kernel) (by decide +kernel)) (lit_QL (x := 0) (d := 1) (by decide) (by decide +kernel) (by decide +kernel) (by decide +kernel))).mono ?_)
   rintro e wc205 ⟨hb205, v205, rfl, hv205⟩
   refine hK _ _ ⟨.tuple #[v205, .int .i64 7], by simp only [FL, f27] <;> kernel_rfl, hb205, ⟨v205, rfl, hv205⟩, nF⟩
  ·intro xs wk206 hBk hdep
   have HBk206 := Lib.hid hBk; have zk206 := hBk.size; clear hBk
   have f27 : (xs 27) = .bool true := hdep _ (m_ 27 rfl) (by kernel_rfl)
   have f31 : ∃ u, (xs 31) = .tuple #[u, .int .i64 7] ∧ QR wk206 wk206.heap.size u false [] false [] := hdep _ (m_ 31 rfl) (by kernel_rfl)
   clear hdep
   refine wpOp_step (o := ?go206) ?gho206 ?gh206
   case gho206 => exact rfl
   intro K hK
   simp only [FL]
   obtain ⟨u, hu, hl⟩ := f31; rw [hu]
   go_simp
   refine hK _ _ ⟨u, by simp only [FL, f27, hu] <;> kernel_rfl, Below.refl _ _, hl, nF⟩
  ·intro xs wk207 hBk hdep
   have HBk207 := Lib.hid hBk; have zk207 := hBk.size; clear hBk
   have f27 : (xs 27) = .bool true := hdep _ (m_ 27 rfl) (by kernel_rfl)
   have f31 : ∃ u, (xs 31) = .tuple #[u, .int .i64 7] ∧ QR wk207 wk207.heap.size u false [] false [] := hdep _ (m_ 31 rfl) (by kernel_rfl)
   clear hdep
   refine wpOp_step (o := ?go207) ?gho207 ?gh207
   case gho207 => exact rfl
   intro K hK
   simp only [FL]
   obtain ⟨u, hu, -⟩ := f31; rw [hu]
   go_simp
   refine hK _ _ ⟨.int .i64 7, by simp only [FL, f27, hu] <;> kernel_rfl, Below.refl _ _, rfl, nF⟩
  ·intro xs wk208 hBk hdep
   have HBk208 := Lib.hid hBk; have zk208 := hBk.size; clear hBk
   have f27 : (xs 27) = .bool true := hdep _ (m_ 27 rfl) (by kernel_rfl)
   have f28 : ∃ N, (xs 28) = .func (.func 96) #[] #[.pointer (some ⟨N, 0, none⟩)] ∧ One wk208 N 38 (.int .i64 7) := hdep _ (m_ 28 rfl) (by kernel_rfl)
   have f32 : QR wk208 wk208.heap.size (xs 32) false [] false [] := hdep _ (m_ 32 rfl) (by kernel_rfl)
   have f33 : (xs 33) = .int .i64 7 := hdep _ (m_ 33 rfl) (by kernel_rfl)
   clear hdep
   refine wpOp_step (o := ?go208) ?gho208 ?gh208
   case gho208 => exact rfl
   intro K hK
   simp only [FL]
   obtain ⟨N, hN, hO⟩ := f28; rw [hN]
   have HO := Lib.hid hO; clear hO
   go_simp
   (with_reducible refine (failsQ_yes HO.out f32).mono ?_)
   rintro e wc209 ⟨hb209, rfl⟩
   refine hK _ _ ⟨.bool true, by simp only [FL, f27, f33, hN] <;> kernel_rfl, hb209, rfl, nF⟩
  ·intro xs wk210 hBk hdep
   have HBk210 := Lib.hid hBk; have zk210 := hBk.size; clear hBk
   have f27 : (xs 27) = .bool true := hdep _ (m_ 27 rfl) (by kernel_rfl)
   have f34 : (xs 34) = .bool true := hdep _ (m_ 34 rfl) (by kernel_rfl)
   clear hdep
   refine wpOp_step (o := _) rfl (fun K hK => ?_)
   simp only [FL]
   go_simp
   refine hK _ _ ⟨.bool true, by simp only [FL, f27, f34] <;> kernel_rfl, Below.refl _ _, rfl, nF⟩
 ·exact all_nil
 ·intro xs wf211 hbf hf hn hd
  have f0 : (xs 0) = .bool true := hf _ (m_ 0 rfl)
  have f1 : (xs 1) = .bool true := hf _ (m_ 1 rfl)
  have f2 : ∃ N, (xs 2) = .func (.func 111) #[] #[.pointer (some ⟨N, 0, none⟩)] ∧ One wf211 N 3 (.int .i64 (-1)) := hf _ (m_ 2 rfl)
  have f3 : QV wf211 wf211.heap.size (xs 3) (mkRat 1 3) := hf _ (m_ 3 rfl)
  have f4 : QV wf211 wf211.heap.size (xs 4) (mkRat 1 2) := hf _ (m_ 4 rfl)
  have f5 : (xs 5) = .tuple #[.int .i64 (-1), .int .i64 0] := hf _ (m_ 5 rfl)
  have f6 : (xs 6) = .int .i64 (-1) := hf _ (m_ 6 rfl)
  have f7 : (xs 7) = .int .i64 0 := hf _ (m_ 7 rfl)
  have f8 : (xs 8) = .bool true := hf _ (m_ 8 rfl)
  have f9 : (xs 9) = .bool true := hf _ (m_ 9 rfl)
  have f10 : (xs 10) = .bool true := hf _ (m_ 10 rfl)
  have f11 : ∃ N, (xs 11) = .func (.func 111) #[] #[.pointer (some ⟨N, 0, none⟩)] ∧ One wf211 N 3 (.int .i64 (-1)) := hf _ (m_ 11 rfl)
  have f12 : QV wf211 wf211.heap.size (xs 12) (mkRat (-1) 2) := hf _ (m_ 12 rfl)
  have f13 : (xs 13) = .tuple #[.int .i64 (-1), .int .i64 0] := hf _ (m_ 13 rfl)
  have f14 : (xs 14) = .int .i64 (-1) := hf _ (m_ 14 rfl)
  have f15 : (xs 15) = .int .i64 0 := hf _ (m_ 15 rfl)
  have f16 : (xs 16) = .bool true := hf _ (m_ 16 rfl)
  have f17 : (xs 17) = .bool true := hf _ (m_ 17 rfl)
  have f18 : (xs 18) = .bool true := hf _ (m_ 18 rfl)
  have f19 : (xs 19) = .agg #[.bool n151, .slice Ad151 l151 c151] := hf _ (m_ 19 rfl)
  have f20 : LV wf211 wf211.heap.size (xs 20) (-1) := hf _ (m_ 20 rfl)
  have f21 : (xs 21) = .bool true := hf _ (m_ 21 rfl)
  have f22 : (xs 22) = .bool true := hf _ (m_ 22 rfl)
  have f23 : (xs 23) = .bool true := hf _ (m_ 23 rfl)
  have f24 : (xs 24) = .int .i64 0 := hf _ (m_ 24 rfl)
  have f25 : (xs 25) = .bool true := hf _ (m_ 25 rfl)
  have f26 : (xs 26) = .bool true := hf _ (m_ 26 rfl)
  have f27 : (xs 27) = .bool true := hf _ (m_ 27 rfl)
  have f28 : ∃ N, (xs 28) = .func (.func 96) #[] #[.pointer (some ⟨N, 0, none⟩)] ∧ One wf211 N 38 (.int .i64 7) := hf _ (m_ 28 rfl)
  have f29 : QV wf211 wf211.heap.size (xs 29) (mkRat 1 1) := hf _ (m_ 29 rfl)
  have f30 : QV wf211 wf211.heap.size (xs 30) (mkRat 0 1) := hf _ (m_ 30 rfl)
  have f31 : ∃ u, (xs 31) = .tuple #[u, .int .i64 7] ∧ QR wf211 wf211.heap.size u false [] false [] := hf _ (m_ 31 rfl)
  have f32 : QR wf211 wf211.heap.size (xs 32) false [] false [] := hf _ (m_ 32 rfl)
  have f33 : (xs 33) = .int .i64 7 := hf _ (m_ 33 rfl)
  have f34 : (xs 34) = .bool true := hf _ (m_ 34 rfl)
  have f35 : (xs 35) = .bool true := hf _ (m_ 35 rfl)
  clear hf hn hd
  simp only [FL]
  have B212 := Lib.hid hbf
  have z212 := B212.out.size
  have HB213 := Lib.hid (HB154.out.trans (B212.out.mono HB154.out.size))
  clear hbf
  generalize xs 0 = x0 at *
  generalize xs 1 = x1 at *
  generalize xs 2 = x2 at *
  generalize xs 3 = x3 at *
  generalize xs 4 = x4 at *
  generalize xs 5 = x5 at *
  generalize xs 6 = x6 at *
  generalize xs 7 = x7 at *
  generalize xs 8 = x8 at *
  generalize xs 9 = x9 at *
  generalize xs 10 = x10 at *
  generalize xs 11 = x11 at *
  generalize xs 12 = x12 at *
  generalize xs 13 = x13 at *
  generalize xs 14 = x14 at *
  generalize xs 15 = x15 at *
  generalize xs 16 = x16 at *
  generalize xs 17 = x17 at *
  generalize xs 18 = x18 at *
  generalize xs 19 = x19 at *
  generalize xs 20 = x20 at *
  generalize xs 21 = x21 at *
  generalize xs 22 = x22 at *
  generalize xs 23 = x23 at *
  generalize xs 24 = x24 at *
  generalize xs 25 = x25 at *
  generalize xs 26 = x26 at *
  generalize xs 27 = x27 at *
  generalize xs 28 = x28 at *
  generalize xs 29 = x29 at *
  generalize xs 30 = x30 at *
  generalize xs 31 = x31 at *
  generalize xs 32 = x32 at *
  generalize xs 33 = x33 at *
  generalize xs 34 = x34 at *
  generalize xs 35 = x35 at *
  obtain rfl := f0
  obtain rfl := f1
  clear f2
  clear f3
  clear f4
  obtain rfl := f5
  obtain rfl := f6
  obtain rfl := f7
  obtain rfl := f8
  obtain rfl := f9
  obtain rfl := f10
  clear f11
  clear f12
  obtain rfl := f13
  obtain rfl := f14
  obtain rfl := f15
  obtain rfl := f16
  obtain rfl := f17
  obtain rfl := f18
  obtain rfl := f19
  clear f20
  obtain rfl := f21
  obtain rfl := f22
  obtain rfl := f23
  obtain rfl := f24
  obtain rfl := f25
  obtain rfl := f26
  obtain rfl := f27
  clear f28
  clear f29
  clear f30
  clear f31
  clear f32
  obtain rfl := f33
  obtain rfl := f34
  obtain rfl := f35
  refine Early.next (i := 36) (by kernel_rfl) rfl (fun K hK => ?_)
  go_simp
  refine hK _ _ (fun _ => trivial) ?_
  clear hK K
  (try simp only [Act.put, List.setIfInBounds_toArray, List.set_cons_zero, List.set_cons_succ])
  refine Early.done (by kernel_rfl) ?_ _
  (try simp only [Exit.then])
  go_wp2_with fail
  refine (spansQ_new _ 1431655765 1431655766).mono ?_
  rintro e w215 ⟨hb215, N214, N214', rfl, hN214, hN214'⟩
  have B216 := Lib.hid hb215
  have z216 := B216.out.size
  have HB217 := Lib.hid (HB213.out.trans (B216.out.mono HB213.out.size))
  clear hb215
  go_wp2_with fail
  refine (ofQ_lit _ ⟨#[49, 47, 51]⟩ (mkRat 1 3) plit_49_47_51 (by decide +kernel) (M.step HB217.out)).mono ?_
  rintro e w219 ⟨hb219, v218, rfl, hv218⟩
  have B220 := Lib.hid hb219
  have z220 := B220.out.size
  have HB221 := Lib.hid (HB217.out.trans (B220.out.mono HB217.out.size))
  clear hb219
  have Ha_222 := Lib.hid hv218; clear hv218
  go_wp2_with fail
  refine (QSpan_lit Ha_222.out (lit_QL (x := 1) (d := 3) (by decide) (by decide +kernel) (by decide +kernel) (by decide +kernel)) (r := ((1431655765, 1431655766), 0)) (by decide +kernel) (G.step HB221.out)).mono ?_
  rintro e w223 ⟨hb223, rfl⟩
  have B224 := Lib.hid hb223
  have z224 := B224.out.size
  have HB225 := Lib.hid (HB221.out.trans (B224.out.mono HB221.out.size))
  clear hb223
  have P2_4_227 := Lib.hid (B220.out.trans (B224.out.mono B220.out.size))
  have LN_226 := One.step hN214 P2_4_227.out
  have LN2_228 := One.step hN214' P2_4_227.out
  go_wp2_with fail
  refine (spansQ_yes LN_226 LN2_228).mono ?_
  rintro e w229 ⟨hb229, rfl⟩
  have B230 := Lib.hid hb229
  have z230 := B230.out.size
  have HB231 := Lib.hid (HB225.out.trans (B230.out.mono HB225.out.size))
  clear hb229
  clear LN2_228
  clear LN_226
  go_wp2_with fail
  refine (spansQ_new _ (-12884901888) (-12884901888)).mono ?_
  rintro e w233 ⟨hb233, N232, N232', rfl, hN232, hN232'⟩
  have B234 := Lib.hid hb233
  have z234 := B234.out.size
  have HB235 := Lib.hid (HB231.out.trans (B234.out.mono HB231.out.size))
  clear hb233
  go_wp2_with fail
  refine (ofQ_lit _ ⟨#[45, 51]⟩ (mkRat (-3) 1) plit_45_51 (by decide +kernel) (M.step HB235.out)).mono ?_
  rintro e w237 ⟨hb237, v236, rfl, hv236⟩
  have B238 := Lib.hid hb237
  have z238 := B238.out.size
  have HB239 := Lib.hid (HB235.out.trans (B238.out.mono HB235.out.size))
  clear hb237
  have Ha_240 := Lib.hid hv236; clear hv236
  go_wp2_with fail
  refine (QSpan_lit Ha_240.out (lit_QL (x := (-3)) (d := 1) (by decide) (by decide +kernel) (by decide +kernel) (by decide +kernel)) (r := (((-12884901888), (-12884901888)), 0)) (by decide +kernel) (G.step HB239.out)).mono ?_
  rintro e w241 ⟨hb241, rfl⟩
  have B242 := Lib.hid hb241
  have z242 := B242.out.size
  have HB243 := Lib.hid (HB239.out.trans (B242.out.mono HB239.out.size))
  clear hb241
  have P2_4_245 := Lib.hid (B238.out.trans (B242.out.mono B238.out.size))
  have LN_244 := One.step hN232 P2_4_245.out
  have LN2_246 := One.step hN232' P2_4_245.out
  go_wp2_with fail
  refine (spansQ_yes LN_244 LN2_246).mono ?_
  rintro e w247 ⟨hb247, rfl⟩
  have B248 := Lib.hid hb247
  have z248 := B248.out.size
  have HB249 := Lib.hid (HB243.out.trans (B248.out.mono HB243.out.size))
  clear hb247
  clear LN2_246
  clear LN_244
  go_wp2_with fail
  refine (saysQ_new _ 1).mono ?_
  rintro e w251 ⟨hb251, N250, rfl, hN250⟩
  have B252 := Lib.hid hb251
  have z252 := B252.out.size
  have HB253 := Lib.hid (HB249.out.trans (B252.out.mono HB249.out.size))
  clear hb251
  go_wp2_with fail
  refine (ofQ_lit _ ⟨#[49, 47, 50]⟩ (mkRat 1 2) plit_49_47_50 (by decide +kernel) (M.step HB253.out)).mono ?_
  rintro e w255 ⟨hb255, v254, rfl, hv254⟩
  have B256 := Lib.hid hb255
  have z256 := B256.out.size
  have HB257 := Lib.hid (HB253.out.trans (B256.out.mono HB253.out.size))
  clear hb255
  have Ha_258 := Lib.hid hv254; clear hv254
  go_wp2_with fail
  refine (QNear_lit Ha_258.out (lit_QL (x := 1) (d := 2) (by decide) (by decide +kernel) (by decide +kernel) (by decide +kernel)) (s := 1) (r := (1, 0)) (by decide +kernel) (G.step HB257.out)).mono ?_
  rintro e w259 ⟨hb259, rfl⟩
  have B260 := Lib.hid hb259
  have z260 := B260.out.size
  have HB261 := Lib.hid (HB257.out.trans (B260.out.mono HB257.out.size))
  clear hb259
  have P2_4_263 := Lib.hid (B256.out.trans (B260.out.mono B256.out.size))
  have LN_262 := One.step hN250 P2_4_263.out
  go_wp2_with fail
  refine (saysQ_yes LN_262).mono ?_
  rintro e w264 ⟨hb264, rfl⟩
  have B265 := Lib.hid hb264
  have z265 := B265.out.size
  have HB266 := Lib.hid (HB261.out.trans (B265.out.mono HB261.out.size))
  clear hb264
  clear LN_262
  go_wp2_with fail
  refine (saysQ_new _ 0).mono ?_
  rintro e w268 ⟨hb268, N267, rfl, hN267⟩
  have B269 := Lib.hid hb268
  have z269 := B269.out.size
  have HB270 := Lib.hid (HB266.out.trans (B269.out.mono HB266.out.size))
  clear hb268
  go_wp2_with fail
  refine (ofQ_lit _ ⟨#[45, 49, 47, 50]⟩ (mkRat (-1) 2) plit_45_49_47_50 (by decide +kernel) (M.step HB270.out)).mono ?_
  rintro e w272 ⟨hb272, v271, rfl, hv271⟩
  have B273 := Lib.hid hb272
  have z273 := B273.out.size
  have HB274 := Lib.hid (HB270.out.trans (B273.out.mono HB270.out.size))
  clear hb272
  have Ha_275 := Lib.hid hv271; clear hv271
  go_wp2_with fail
  refine (QNear_lit Ha_275.out (lit_QL (x := (-1)) (d := 2) (by decide) (by decide +kernel) (by decide +kernel) (by decide +kernel)) (s := 1) (r := (0, 0)) (by decide +kernel) (G.step HB274.out)).mono ?_
  rintro e w276 ⟨hb276, rfl⟩
  have B277 := Lib.hid hb276
  have z277 := B277.out.size
  have HB278 := Lib.hid (HB274.out.trans (B277.out.mono HB274.out.size))
  clear hb276
  have P2_4_280 := Lib.hid (B273.out.trans (B277.out.mono B273.out.size))
  have LN_279 := One.step hN267 P2_4_280.out
  go_wp2_with fail
  refine (saysQ_yes LN_279).mono ?_
  rintro e w281 ⟨hb281, rfl⟩
  have B282 := Lib.hid hb281
  have z282 := B282.out.size
  have HB283 := Lib.hid (HB278.out.trans (B282.out.mono HB278.out.size))
  clear hb281
  clear LN_279
  go_wp2_with fail
  refine (saysQ_new _ 667).mono ?_
  rintro e w285 ⟨hb285, N284, rfl, hN284⟩
  have B286 := Lib.hid hb285
  have z286 := B286.out.size
  have HB287 := Lib.hid (HB283.out.trans (B286.out.mono HB283.out.size))
  clear hb285
  go_wp2_with fail
  refine (ofQ_lit _ ⟨#[50, 47, 51]⟩ (mkRat 2 3) plit_50_47_51 (by decide +kernel) (M.step HB287.out)).mono ?_
  rintro e w289 ⟨hb289, v288, rfl, hv288⟩
  have B290 := Lib.hid hb289
  have z290 := B290.out.size
  have HB291 := Lib.hid (HB287.out.trans (B290.out.mono HB287.out.size))
  clear hb289
  have Ha_292 := Lib.hid hv288; clear hv288
  go_wp2_with fail
  refine (QNear_lit Ha_292.out (lit_QL (x := 2) (d := 3) (by decide) (by decide +kernel) (by decide +kernel) (by decide +kernel)) (s := 1000) (r := (667, 0)) (by decide +kernel) (G.step HB291.out)).mono ?_
  rintro e w293 ⟨hb293, rfl⟩
  have B294 := Lib.hid hb293
  have z294 := B294.out.size
  have HB295 := Lib.hid (HB291.out.trans (B294.out.mono HB291.out.size))
  clear hb293
  have P2_4_297 := Lib.hid (B290.out.trans (B294.out.mono B290.out.size))
  have LN_296 := One.step hN284 P2_4_297.out
  go_wp2_with fail
  refine (saysQ_yes LN_296).mono ?_
  rintro e w298 ⟨hb298, rfl⟩
  have B299 := Lib.hid hb298
  have z299 := B299.out.size
  have HB300 := Lib.hid (HB295.out.trans (B299.out.mono HB295.out.size))
  clear hb298
  clear LN_296
  go_wp2_with fail
  refine (ofQ_lit _ ⟨#[49]⟩ (mkRat 1 1) plit_49 (by decide +kernel) (M.step HB300.out)).mono ?_
  rintro e w302 ⟨hb302, v301, rfl, hv301⟩
  have B303 := Lib.hid hb302
  have z303 := B303.out.size
  have HB304 := Lib.hid (HB300.out.trans (B303.out.mono HB300.out.size))
  clear hb302
  have Ha_305 := Lib.hid hv301; clear hv301
  go_wp2_with fail
  refine (QNear_lit Ha_305.out (lit_QL (x := 1) (d := 1) (by decide) (by decide +kernel) (by decide +kernel) (by decide +kernel)) (s := 0) (r := (0, 2)) (by decide +kernel) (G.step HB304.out)).mono ?_
  rintro e w306 ⟨hb306, rfl⟩
  have B307 := Lib.hid hb306
  have z307 := B307.out.size
  have HB308 := Lib.hid (HB304.out.trans (B307.out.mono HB304.out.size))
  clear hb306
  go_upto_region 6 with (fail)
  have i0 := idx4_0
  have i1 := idx4_1
  have i2 := idx4_2
  have i3 := idx4_3
  go_wp2
  go_loopw [151] (fun i wr => ∃ j : Nat, j ≤ 4 ∧ i = .int .i64 j ∧ Hid (Below w.heap.size w wr)) (fun i _ => 4 - (intOf i).toNat)
  case atStart => exact ⟨0, by omega, rfl, HB308⟩
  case round =>
   clear HB308
   obtain ⟨j, hj, rfl, HBI⟩ := hrel
   have hj3 : j = 0 ∨ j = 1 ∨ j = 2 ∨ j = 3 ∨ j = 4 := by omega
   rcases hj3 with rfl | rfl | rfl | rfl | rfl
   ·rw [show ((0 : Nat) : Int) = 0 from rfl]
    go_wp2_with fail
    refine (failsQ_new _ 5).mono ?_
    rintro e w310 ⟨hb310, N309, rfl, hN309⟩
    have B311 := Lib.hid hb310
    have z311 := B311.out.size
    have HB312 := Lib.hid (HBI.out.trans (B311.out.mono HBI.out.size))
    clear hb310
    go_wp2_with fail
    refine (QParse_any _ ⟨#[50, 47, 52]⟩ (by decide +kernel) (M.step HB312.out)).mono ?_
    rintro e w314 ⟨hb314, v313, rfl, hv313⟩
    have B315 := Lib.hid hb314
    have z315 := B315.out.size
    have HB316 := Lib.hid (HB312.out.trans (B315.out.mono HB312.out.size))
    clear hb314
    have heq313 := bad0; rw [heq313] at hv313; rw [heq313]; clear heq313
    replace hv313 : QR w314 w314.heap.size v313 false [] false [] := hv313
    have Hr_317 := Lib.hid hv313; clear hv313
    have LN_318 := One.step hN309 B315.out
    go_wp2_with fail
    refine (failsQ_yes LN_318 Hr_317.out).mono ?_
    rintro e w319 ⟨hb319, rfl⟩
    have B320 := Lib.hid hb319
    have z320 := B320.out.size
    have HB321 := Lib.hid (HB316.out.trans (B320.out.mono HB316.out.size))
    clear hb319
    clear LN_318
    go_wp2
    go_roundw
    case rel => exact ⟨1, by omega, rfl, Lib.hid HB321.out⟩
    case measure => simp [intOf]
   ·rw [show ((1 : Nat) : Int) = 1 from rfl]
    go_wp2_with fail
    refine (failsQ_new _ 5).mono ?_
    rintro e w323 ⟨hb323, N322, rfl, hN322⟩
    have B324 := Lib.hid hb323
    have z324 := B324.out.size
    have HB325 := Lib.hid (HBI.out.trans (B324.out.mono HBI.out.size))
    clear hb323
    go_wp2_with fail
    refine (QParse_any _ ⟨#[51, 47, 49]⟩ (by decide +kernel) (M.step HB325.out)).mono ?_
    rintro e w327 ⟨hb327, v326, rfl, hv326⟩
    have B328 := Lib.hid hb327
    have z328 := B328.out.size
    have HB329 := Lib.hid (HB325.out.trans (B328.out.mono HB325.out.size))
    clear hb327
    have heq326 := bad1; rw [heq326] at hv326; rw [heq326]; clear heq326
    replace hv326 : QR w327 w327.heap.size v326 false [] false [] := hv326
    have Hr_330 := Lib.hid hv326; clear hv326
    have LN_331 := One.step hN322 B328.out
    go_wp2_with fail
    refine (failsQ_yes LN_331 Hr_330.out).mono ?_
    rintro e w332 ⟨hb332, rfl⟩
    have B333 := Lib.hid hb332
    have z333 := B333.out.size
    have HB334 := Lib.hid (HB329.out.trans (B333.out.mono HB329.out.size))
    clear hb332
    clear LN_331
    go_wp2
    go_roundw
    case rel => exact ⟨2, by omega, rfl, Lib.hid HB334.out⟩
    case measure => simp [intOf]
   ·rw [show ((2 : Nat) : Int) = 2 from rfl]
    go_wp2_with fail
    refine (failsQ_new _ 5).mono ?_
    rintro e w336 ⟨hb336, N335, rfl, hN335⟩
    have B337 := Lib.hid hb336
    have z337 := B337.out.size
    have HB338 := Lib.hid (HBI.out.trans (B337.out.mono HBI.out.size))
    clear hb336
    go_wp2_with fail
    refine (QParse_any _ ⟨#[49, 47, 45, 50]⟩ (by decide +kernel) (M.step HB338.out)).mono ?_
    rintro e w340 ⟨hb340, v339, rfl, hv339⟩
    have B341 := Lib.hid hb340
    have z341 := B341.out.size
    have HB342 := Lib.hid (HB338.out.trans (B341.out.mono HB338.out.size))
    clear hb340
    have heq339 := bad2; rw [heq339] at hv339; rw [heq339]; clear heq339
    replace hv339 : QR w340 w340.heap.size v339 false [] false [] := hv339
    have Hr_343 := Lib.hid hv339; clear hv339
    have LN_344 := One.step hN335 B341.out
    go_wp2_with fail
    refine (failsQ_yes LN_344 Hr_343.out).mono ?_
    rintro e w345 ⟨hb345, rfl⟩
    have B346 := Lib.hid hb345
    have z346 := B346.out.size
    have HB347 := Lib.hid (HB342.out.trans (B346.out.mono HB342.out.size))
    clear hb345
    clear LN_344
    go_wp2
    go_roundw
    case rel => exact ⟨3, by omega, rfl, Lib.hid HB347.out⟩
    case measure => simp [intOf]
   ·rw [show ((3 : Nat) : Int) = 3 from rfl]
    go_wp2_with fail
    refine (failsQ_new _ 5).mono ?_
    rintro e w349 ⟨hb349, N348, rfl, hN348⟩
    have B350 := Lib.hid hb349
    have z350 := B350.out.size
    have HB351 := Lib.hid (HBI.out.trans (B350.out.mono HBI.out.size))
    clear hb349
    go_wp2_with fail
    refine (QParse_any _ ⟨#[49, 47]⟩ (by decide +kernel) (M.step HB351.out)).mono ?_
    rintro e w353 ⟨hb353, v352, rfl, hv352⟩
    have B354 := Lib.hid hb353
    have z354 := B354.out.size
    have HB355 := Lib.hid (HB351.out.trans (B354.out.mono HB351.out.size))
    clear hb353
    have heq352 := bad3; rw [heq352] at hv352; rw [heq352]; clear heq352
    replace hv352 : QR w353 w353.heap.size v352 false [] false [] := hv352
    have Hr_356 := Lib.hid hv352; clear hv352
    have LN_357 := One.step hN348 B354.out
    go_wp2_with fail
    refine (failsQ_yes LN_357 Hr_356.out).mono ?_
    rintro e w358 ⟨hb358, rfl⟩
    have B359 := Lib.hid hb358
    have z359 := B359.out.size
    have HB360 := Lib.hid (HB355.out.trans (B359.out.mono HB355.out.size))
    clear hb358
    clear LN_357
    go_wp2
    go_roundw
    case rel => exact ⟨4, by omega, rfl, Lib.hid HB360.out⟩
    case measure => simp [intOf]
   ·rw [show ((4 : Nat) : Int) = 4 from rfl]
    go_wp2_with fail
    refine (isQ_new _ ⟨#[51, 47, 50]⟩).mono ?_
    rintro e w362 ⟨hb362, N361, rfl, hN361⟩
    have B363 := Lib.hid hb362
    have z363 := B363.out.size
    have HB364 := Lib.hid (HBI.out.trans (B363.out.mono HBI.out.size))
    clear hb362
    go_wp2_with fail
    refine (QParse_any _ ⟨#[51, 47, 50]⟩ (by decide +kernel) (M.step HB364.out)).mono ?_
    rintro e w366 ⟨hb366, v365, rfl, hv365⟩
    have B367 := Lib.hid hb366
    have z367 := B367.out.size
    have HB368 := Lib.hid (HB364.out.trans (B367.out.mono HB364.out.size))
    clear hb366
    have heq365 := plit_51_47_50; rw [heq365] at hv365; rw [heq365]; clear heq365
    replace hv365 : QV w366 w366.heap.size v365 (mkRat 3 2) := hv365
    have Hr_369 := Lib.hid hv365; clear hv365
    have LN_370 := One.step hN361 B367.out
    go_wp2_with fail
    refine (isQ_yes LN_370 Hr_369.out (lit_QL (x := 3) (d := 2) (by decide) (by decide +kernel) (by decide +kernel) (by decide +kernel)) (lit_frac (s1 := [51]) (s2 := [50]) (x := 3) (d := 2) (by decide +kernel) (by decide +kernel) (by decide) (by decide +kernel)) (G.step HB368.out)).mono ?_
    rintro e w371 ⟨hb371, rfl⟩
    have B372 := Lib.hid hb371
    have z372 := B372.out.size
    have HB373 := Lib.hid (HB368.out.trans (B372.out.mono HB368.out.size))
    clear hb371
    clear LN_370
    go_wp2_with fail
    refine (Of_any _ 2 (by decide) (by decide)).mono ?_
    rintro e w374 ⟨hb374, v1, rfl, hv1⟩
    have B375 := Lib.hid hb374
    have z375 := B375.out.size
    have HB376 := Lib.hid (HB373.out.trans (B375.out.mono HB373.out.size))
    clear hb374
    obtain ⟨n377, Ad377, l377, c377, rfl, hv377⟩ := hv1.opened
    have Hx_377 := Lib.hid hv377
    clear hv1 hv377
    go_wp2_with fail
    refine (Of_any _ 4 (by decide) (by decide)).mono ?_
    rintro e w378 ⟨hb378, v2, rfl, hv2⟩
    have B379 := Lib.hid hb378
    have z379 := B379.out.size
    have HB380 := Lib.hid (HB376.out.trans (B379.out.mono HB376.out.size))
    clear hb378
    obtain ⟨n381, Ad381, l381, c381, rfl, hv381⟩ := hv2.opened
    have Hy_381 := Lib.hid hv381
    clear hv2 hv381
    go_wp2_with fail
    have Hx_383 := Lib.hid (LV.step Hx_377.out B379.out)
    refine (QCheck_no (QR.of Hx_383.out Hy_381.out) (qOf_lit (by decide) (by decide) (by decide))).mono ?_
    rintro e w382 ⟨hb382, rfl⟩
    have B384 := Lib.hid hb382
    have z384 := B384.out.size
    have HB385 := Lib.hid (HB380.out.trans (B384.out.mono HB380.out.size))
    clear hb382
    go_wp2_with fail
    refine (Of_any _ 1 (by decide) (by decide)).mono ?_
    rintro e w386 ⟨hb386, v3, rfl, hv3⟩
    have B387 := Lib.hid hb386
    have z387 := B387.out.size
    have HB388 := Lib.hid (HB385.out.trans (B387.out.mono HB385.out.size))
    clear hb386
    obtain ⟨n389, Ad389, l389, c389, rfl, hv389⟩ := hv3.opened
    have Hz_389 := Lib.hid hv389
    clear hv3 hv389
    go_wp2_with fail
    refine (QCheck_no (QR.of Hz_389.out (LV.zero _ _)) (qOf_lit (by decide) (by decide) (by decide))).mono ?_
    rintro e w390 ⟨hb390, rfl⟩
    have B391 := Lib.hid hb390
    have z391 := B391.out.size
    have HB392 := Lib.hid (HB388.out.trans (B391.out.mono HB388.out.size))
    clear hb390
    go_wp2
    go_ret
    exact ⟨HB392.out, rfl⟩
end Go.Proofs.YtioclokmbgmamaaGreatDoor
