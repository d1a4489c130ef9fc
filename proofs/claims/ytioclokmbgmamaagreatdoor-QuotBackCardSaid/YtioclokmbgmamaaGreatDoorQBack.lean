/- The law QuotBack (written by its generator). -/
import Derived.Test.YtioclokmbgmamaaGreatDoorQR
import Derived.Test.YtioclokmbgmamaaGreatDoorQW
namespace Go.Proofs.YtioclokmbgmamaaGreatDoor
open Go Go.RowKit Dig
theorem QSameV_yes {w : World} {va vb : Value} {q r : Rat} (ha : QV w w.heap.size va q) (hb : QV w w.heap.size vb r) (h : q = r) :
  Calls Tryz.prog 36 #[va, vb] w fun e w' => Below w.heap.size w w' ∧ e = .returned (.bool true) := by
 subst h
 have h1 := QSame_any w va vb _ _ _ _ _ _ _ _ ha.qr hb.qr
 rw [decide_eq_true ⟨⟨rfl, rfl⟩, rfl, rfl⟩] at h1
 exact h1
theorem textQ_len {q : Rat} (h : QL 600 600 q) : (textQ q).length ≤ 1000000 := by
 unfold textQ
 have h1 := itoa_len h.1
 have h2 := itoa_len (z := (q.den : Int)) (by rw [Int.natAbs_natCast]; exact h.2)
 split
 ·omega
 ·simp; omega
set_option linter.unusedVariables false in
set_option maxRecDepth 100000 in
set_option maxHeartbeats 16000000 in
theorem QuotBack_any (w : World) (G : Glob w) (M : MaxL w) (dz1 dz2 : Bool) (dzl dzk : Int) (dzs dzt : Value) (de1 de2 : List Nat) (hzl : 0 ≤ dzl ∧ dzl ≤ 255) (hzs : RW w w.heap.size dzs de1) (hzk : 0 ≤ dzk ∧ dzk ≤ 255) (hzt : RW w w.heap.size dzt de2) (s : ByteArray) (hs : s.size ≤ maxLen) :
  Calls Tryz.prog 7 #[.agg #[.bool dz1, .int .u8 dzl, dzs, .bool dz2, .int .u8 dzk, dzt], .string s] w fun e w' => Below w.heap.size w w' ∧ e = .returned (.bool true) := by
 have HZK := Lib.hid (And.intro hzl hzk); have HZS := Lib.hid hzs; have HZT := Lib.hid hzt; clear hzl hzk hzs hzt
 have HS := Lib.hid hs; clear hs
 obtain ⟨w0, hw0⟩ : ∃ w0 : World, w0 = (w.alloc (.cells #[.bool dz1, .int .u8 dzl, dzs, .bool dz2, .int .u8 dzk, dzt] 31)) := ⟨_, rfl⟩
 have B0 := Lib.hid (show Below w.heap.size w w0 by rw [hw0]; (repeat' (first | exact Below.refl _ _ | refine Below.drew ?_ | refine Below.alloc ?_ (by first | exact Nat.le_refl _ | (simp; done) | (simp; omega)) _)))
 have z0 : w.heap.size + 1 ≤ w0.heap.size := by rw [hw0]; simp
 have Ld : CB w0 (w.heap.size) 31 #[.bool dz1, .int .u8 dzl, dzs, .bool dz2, .int .u8 dzk, dzt] := by rw [hw0]; have h := CB.new w 31 #[.bool dz1, .int .u8 dzl, dzs, .bool dz2, .int .u8 dzk, dzt]; simpa using h
 replace HZS := Lib.hid (RW.step HZS.out B0.out)
 replace HZT := Lib.hid (RW.step HZT.out B0.out)
 go_enter Tryz.func7, Tryz.ntmps7
 go_upto_region 1 with (fail)
 rw [← hw0]; clear hw0
 go_wp2_with fail
 refine (worksQ_any _ (G.step B0.out) (M.step B0.out)).mono ?_
 rintro e w1 ⟨hb1, rfl⟩
 have B2 := Lib.hid hb1
 have z2 := B2.out.size
 have HB3 := Lib.hid (B0.out.trans (B2.out.mono B0.out.size))
 clear hb1
 have Ld_6 := CB.step Ld B2.out
 have q7_0 := Ld_6.cell 0 rfl
 have q7_1 := Ld_6.cell 1 rfl
 have q7_2 := Ld_6.cell 2 rfl
 have q7_3 := Ld_6.cell 3 rfl
 have q7_4 := Ld_6.cell 4 rfl
 have q7_5 := Ld_6.cell 5 rfl
 have q7_lt := Ld_6.lt
 go_wp2_with fail
 have HHZS_8 := Lib.hid (RW.step HZS.out B2.out)
 have HHZT_9 := Lib.hid (RW.step HZT.out B2.out)
 refine (DQuotQ_any _ dz1 dz2 dzl dzk dzs dzt de1 de2 HZK.out.1.1 HZK.out.1.2 HHZS_8.out HZK.out.2.1 HZK.out.2.2 HHZT_9.out).mono ?_
 rintro e w5 ⟨hb5, q, hq, v, rfl, hv⟩
 have B10 := Lib.hid hb5
 have z10 := B10.out.size
 have HB11 := Lib.hid (HB3.out.trans (B10.out.mono HB3.out.size))
 clear hb5
 clear q7_0 q7_1 q7_2 q7_3 q7_4 q7_5 q7_lt
 have HLQ := Lib.hid (hq.mono (show 47 ≤ 600 by decide) (show 47 ≤ 600 by decide)); clear hq
 obtain ⟨on12, oA12, ol12, oc12, oB12, om_12, od12, rfl, ha12, hb12, hc12⟩ := hv
 have Ha_12 := Lib.hid (show QV w5 w5.heap.size (.agg #[.bool on12, .slice oA12 ol12 oc12, .bool false, .slice oB12 om_12 od12]) q from ⟨_, _, _, _, _, _, _, rfl, ha12, hb12, hc12⟩)
 clear ha12 hb12 hc12
 go_upto_region 4 with (fail)
 obtain ⟨w13, hW13⟩ : ∃ w13 : World, w13 = (w5.alloc (.cells #[.bool on12, .slice oA12 ol12 oc12, .bool false, .slice oB12 om_12 od12] 26)) := ⟨_, rfl⟩; rw [← hW13]
 have hb13 : Below w5.heap.size w5 w13 := by rw [hW13]; (repeat' (first | exact Below.refl _ _ | refine Below.drew ?_ | refine Below.alloc ?_ (by first | exact Nat.le_refl _ | (simp; done) | (simp; omega)) _))
 have La_13 : CB w13 (w5.heap.size) 26 #[.bool on12, .slice oA12 ol12 oc12, .bool false, .slice oB12 om_12 od12] := by rw [hW13]; have h := CB.new w5 26 #[.bool on12, .slice oA12 ol12 oc12, .bool false, .slice oB12 om_12 od12]; simpa using h
 have za13 : w5.heap.size + 1 ≤ w13.heap.size := by rw [hW13]; simp
 have B14 := Lib.hid hb13
 have z14 := B14.out.size
 have HB15 := Lib.hid (HB11.out.trans (B14.out.mono HB11.out.size))
 clear hb13 hW13
 have q17_0 := La_13.cell 0 rfl
 have q17_1 := La_13.cell 1 rfl
 have q17_2 := La_13.cell 2 rfl
 have q17_3 := La_13.cell 3 rfl
 have q17_lt := La_13.lt
 go_wp2_with fail
 have Ha_18 := Lib.hid (QV.step Ha_12.out B14.out)
 refine (QText_good _ _ q Ha_18.out HLQ.out (G.step HB15.out)).mono ?_
 rintro e w16 ⟨hb16, t, rfl, ht⟩
 have B19 := Lib.hid hb16
 have z19 := B19.out.size
 have HB20 := Lib.hid (HB15.out.trans (B19.out.mono HB15.out.size))
 clear hb16
 clear q17_0 q17_1 q17_2 q17_3 q17_lt
 have HT := Lib.hid ht; have HTS := Lib.hid (show t.size ≤ 1000000 by rw [Lib.size_eq, ht]; exact textQ_len HLQ.out); clear ht
 go_wp2_with fail
 refine (QParse_any _ t HTS.out (M.step HB20.out)).mono ?_
 rintro e w21 ⟨hb21, v, rfl, hv⟩
 have B22 := Lib.hid hb21
 have z22 := B22.out.size
 have HB23 := Lib.hid (HB20.out.trans (B22.out.mono HB20.out.size))
 clear hb21
 rw [show parseQ t.data.toList = (some q, 0) by rw [HT.out]; exact parse_textQ HLQ.out] at hv ⊢; replace hv : QV w21 w21.heap.size v q := hv
 obtain ⟨on24, oA24, ol24, oc24, oB24, om_24, od24, rfl, ha24, hb24, hc24⟩ := hv
 have Hb_24 := Lib.hid (show QV w21 w21.heap.size (.agg #[.bool on24, .slice oA24 ol24 oc24, .bool false, .slice oB24 om_24 od24]) q from ⟨_, _, _, _, _, _, _, rfl, ha24, hb24, hc24⟩)
 clear ha24 hb24 hc24
 go_upto_region 6 with (fail)
 obtain ⟨w25, hW25⟩ : ∃ w25 : World, w25 = (w21.alloc (.cells #[.bool on24, .slice oA24 ol24 oc24, .bool false, .slice oB24 om_24 od24] 26)) := ⟨_, rfl⟩; rw [← hW25]
 have hb25 : Below w21.heap.size w21 w25 := by rw [hW25]; (repeat' (first | exact Below.refl _ _ | refine Below.drew ?_ | refine Below.alloc ?_ (by first | exact Nat.le_refl _ | (simp; done) | (simp; omega)) _))
 have Lb_25 : CB w25 (w21.heap.size) 26 #[.bool on24, .slice oA24 ol24 oc24, .bool false, .slice oB24 om_24 od24] := by rw [hW25]; have h := CB.new w21 26 #[.bool on24, .slice oA24 ol24 oc24, .bool false, .slice oB24 om_24 od24]; simpa using h
 have za25 : w21.heap.size + 1 ≤ w25.heap.size := by rw [hW25]; simp
 have B26 := Lib.hid hb25
 have z26 := B26.out.size
 have HB27 := Lib.hid (HB23.out.trans (B26.out.mono HB23.out.size))
 clear hb25 hW25
 have P4_6_30 := Lib.hid (B19.out.trans (B22.out.mono B19.out.size))
 have P4_7_31 := Lib.hid (P4_6_30.out.trans (B26.out.mono P4_6_30.out.size))
 have La_29 := CB.step La_13 P4_7_31.out
 have q32_0 := La_29.cell 0 rfl
 have q32_1 := La_29.cell 1 rfl
 have q32_2 := La_29.cell 2 rfl
 have q32_3 := La_29.cell 3 rfl
 have q32_lt := La_29.lt
 have q33_0 := Lb_25.cell 0 rfl
 have q33_1 := Lb_25.cell 1 rfl
 have q33_2 := Lb_25.cell 2 rfl
 have q33_3 := Lb_25.cell 3 rfl
 have q33_lt := Lb_25.lt
 go_wp2_with fail
 have Ha_34 := Lib.hid (QV.step Ha_18.out P4_7_31.out)
 have Hb_35 := Lib.hid (QV.step Hb_24.out B26.out)
 refine (QSameV_yes Ha_34.out Hb_35.out rfl).mono ?_
 rintro e w28 ⟨hb28, rfl⟩
 have B36 := Lib.hid hb28
 have z36 := B36.out.size
 have HB37 := Lib.hid (HB27.out.trans (B36.out.mono HB27.out.size))
 clear hb28
 clear q32_0 q32_1 q32_2 q32_3 q32_lt q33_0 q33_1 q33_2 q33_3 q33_lt
 have h0 : (0 : Int) ≤ (s.size : Int) := by omega
 have hm0 : 0 ≤ min (↑s.size) (400 : Int) := by omega
 have hm1 : min (↑s.size) (400 : Int) ≤ ↑s.size := by omega
 go_wp2_with fail
 obtain ⟨u, hu⟩ : ∃ u, u = s.extract 0 (min (↑s.size) 400 : Int).toNat := ⟨_, rfl⟩
 have hus : u.size ≤ 400 := by rw [hu, ByteArray.size_extract]; omega
 rw [← hu]; have HUS := Lib.hid hus; clear hu hus h0 hm0 hm1
 obtain ⟨p, hp⟩ : ∃ p, p = parseQ u.data.toList := ⟨_, rfl⟩; have HP := Lib.hid hp; clear hp
 refine ((show Calls Tryz.prog _ _ _ _ from HP.out ▸ QParse_any _ u (by have := HUS.out; omega) (M.step HB37.out))).mono ?_
 rintro e w39 ⟨hb39, v, rfl, hv⟩
 have B40 := Lib.hid hb39
 have z40 := B40.out.size
 have HB41 := Lib.hid (HB37.out.trans (B40.out.mono HB37.out.size))
 clear hb39
 obtain ⟨o, e⟩ := p; have HE := Lib.hid (show e = 0 ∨ e = 5 by have h := parseQ_err (s := u.data.toList) (by have := HUS.out; rw [Lib.size_eq] at this; omega); rw [← HP.out] at h; exact h)
 cases o with
 | none =>
  replace hv : QR w39 w39.heap.size v false [] false [] := hv
  have hne := parseQ_none HP.out.symm
  obtain rfl : e = 5 := by rcases HE.out with h | h; exact absurd h hne; exact h
  obtain ⟨oA42, ol42, oc42, oB42, om_42, od42, rfl, ha42, hb42⟩ := hv
  have Hz_42 := Lib.hid (QR.mk (n := false) (m := false) ha42 hb42)
  clear ha42 hb42
  have P7_9_44 := Lib.hid (B36.out.trans (B40.out.mono B36.out.size))
  have Lb_43 := CB.step Lb_25 P7_9_44.out
  have q45_0 := Lb_43.cell 0 rfl
  have q45_1 := Lb_43.cell 1 rfl
  have q45_2 := Lb_43.cell 2 rfl
  have q45_3 := Lb_43.cell 3 rfl
  have q45_lt := Lb_43.lt
  have q46_0 := Lb_43.frozen 0
  have q46_1 := Lb_43.frozen 1
  have q46_2 := Lb_43.frozen 2
  have q46_3 := Lb_43.frozen 3
  have q46_lt := Lb_43.lt
  go_upto_region 10 with (fail)
  clear q45_0 q45_1 q45_2 q45_3 q45_lt q46_0 q46_1 q46_2 q46_3 q46_lt
  have P2_4_48 := Lib.hid (B10.out.trans (B14.out.mono B10.out.size))
  have P2_5_49 := Lib.hid (P2_4_48.out.trans (B19.out.mono P2_4_48.out.size))
  have P2_6_50 := Lib.hid (P2_5_49.out.trans (B22.out.mono P2_5_49.out.size))
  have P2_7_51 := Lib.hid (P2_6_50.out.trans (B26.out.mono P2_6_50.out.size))
  have P2_8_52 := Lib.hid (P2_7_51.out.trans (B36.out.mono P2_7_51.out.size))
  have P2_9_53 := Lib.hid (P2_8_52.out.trans (B40.out.mono P2_8_52.out.size))
  have Ld_47 := CB.step Ld_6 P2_9_53.out
  have La_54 := CB.step La_29 P7_9_44.out
  obtain ⟨w55, hW55⟩ : ∃ w55 : World, w55 = ((((w39.setCell ⟨w21.heap.size, 0, none⟩ (.bool false)).setCell ⟨w21.heap.size, 1, none⟩ (.slice oA42 ol42 oc42)).setCell ⟨w21.heap.size, 2, none⟩ (.bool false)).setCell ⟨w21.heap.size, 3, none⟩ (.slice oB42 om_42 od42)) := ⟨_, rfl⟩
  rw [← hW55]
  have S55 := Lib.hid (show Soft w39 w55 by rw [hW55]; exact (((CB.soft1 (Lb_43) (by simp [noInt_b, noInt_s]) 0 (.bool false)).trans (CB.soft1 ((show CB _ (w21.heap.size) 26 #[.bool false, .slice oA24 ol24 oc24, .bool false, .slice oB24 om_24 od24] from CB.set (Lb_43) 0 (.bool false))) (by simp [noInt_b, noInt_s]) 1 (.slice oA42 ol42 oc42))).trans (CB.soft1 ((show CB _ (w21.heap.size) 26 #[.bool false, .slice oA42 ol42 oc42, .bool false, .slice oB24 om_24 od24] from CB.set ((show CB _ (w21.heap.size) 26 #[.bool false, .slice oA24 ol24 oc24, .bool false, .slice oB24 om_24 od24] from CB.set (Lb_43) 0 (.bool false))) 1 (.slice oA42 ol42 oc42))) (by simp [noInt_b, noInt_s]) 2 (.bool false))).trans (CB.soft1 ((show CB _ (w21.heap.size) 26 #[.bool false, .slice oA42 ol42 oc42, .bool false, .slice oB24 om_24 od24] from CB.set ((show CB _ (w21.heap.size) 26 #[.bool false, .slice oA42 ol42 oc42, .bool false, .slice oB24 om_24 od24] from CB.set ((show CB _ (w21.heap.size) 26 #[.bool false, .slice oA24 ol24 oc24, .bool false, .slice oB24 om_24 od24] from CB.set (Lb_43) 0 (.bool false))) 1 (.slice oA42 ol42 oc42))) 2 (.bool false))) (by simp [noInt_b, noInt_s]) 3 (.slice oB42 om_42 od42)))
  have Ld_55 : CB w55 (w.heap.size) 31 #[.bool dz1, .int .u8 dzl, dzs, .bool dz2, .int .u8 dzk, dzt] := by rw [hW55]; exact CB.far (p := ⟨w21.heap.size, 3, none⟩) (CB.far (p := ⟨w21.heap.size, 2, none⟩) (CB.far (p := ⟨w21.heap.size, 1, none⟩) (CB.far (p := ⟨w21.heap.size, 0, none⟩) (Ld_47) (show w.heap.size ≠ w21.heap.size from by omega) _) (show w.heap.size ≠ w21.heap.size from by omega) _) (show w.heap.size ≠ w21.heap.size from by omega) _) (show w.heap.size ≠ w21.heap.size from by omega) _
  have La_55 : CB w55 (w5.heap.size) 26 #[.bool on12, .slice oA12 ol12 oc12, .bool false, .slice oB12 om_12 od12] := by rw [hW55]; exact CB.far (p := ⟨w21.heap.size, 3, none⟩) (CB.far (p := ⟨w21.heap.size, 2, none⟩) (CB.far (p := ⟨w21.heap.size, 1, none⟩) (CB.far (p := ⟨w21.heap.size, 0, none⟩) (La_54) (show w5.heap.size ≠ w21.heap.size from by omega) _) (show w5.heap.size ≠ w21.heap.size from by omega) _) (show w5.heap.size ≠ w21.heap.size from by omega) _) (show w5.heap.size ≠ w21.heap.size from by omega) _
  have Lb_55 : CB w55 (w21.heap.size) 26 #[.bool false, .slice oA42 ol42 oc42, .bool false, .slice oB42 om_42 od42] := by rw [hW55]; exact (show CB _ (w21.heap.size) 26 #[.bool false, .slice oA42 ol42 oc42, .bool false, .slice oB42 om_42 od42] from CB.set ((show CB _ (w21.heap.size) 26 #[.bool false, .slice oA42 ol42 oc42, .bool false, .slice oB24 om_24 od24] from CB.set ((show CB _ (w21.heap.size) 26 #[.bool false, .slice oA42 ol42 oc42, .bool false, .slice oB24 om_24 od24] from CB.set ((show CB _ (w21.heap.size) 26 #[.bool false, .slice oA24 ol24 oc24, .bool false, .slice oB24 om_24 od24] from CB.set (Lb_43) 0 (.bool false))) 1 (.slice oA42 ol42 oc42))) 2 (.bool false))) 3 (.slice oB42 om_42 od42))
  have HBP55 := Lib.hid (show Below w.heap.size w w55 by rw [hW55]; exact below_set1 (below_set1 (below_set1 (below_set1 (HB41.out) (by omega) _ _) (by omega) _ _) (by omega) _ _) (by omega) _ _)
  have zw55 : w55.heap.size = w39.heap.size := by rw [hW55]; simp [World.setCell]
  clear hW55
  go_wp2
  go_ret
  exact ⟨HBP55.out, rfl⟩
 | some r =>
  replace hv : QV w39 w39.heap.size v r := hv
  obtain ⟨ht1, ht2, rfl⟩ := text_parseQ HP.out.symm; have HT1 := Lib.hid ht1; have HT2 := Lib.hid ht2; clear ht1 ht2
  obtain ⟨on56, oA56, ol56, oc56, oB56, om_56, od56, rfl, ha56, hb56, hc56⟩ := hv
  have Hr_56 := Lib.hid (show QV w39 w39.heap.size (.agg #[.bool on56, .slice oA56 ol56 oc56, .bool false, .slice oB56 om_56 od56]) r from ⟨_, _, _, _, _, _, _, rfl, ha56, hb56, hc56⟩)
  clear ha56 hb56 hc56
  have P7_9_58 := Lib.hid (B36.out.trans (B40.out.mono B36.out.size))
  have Lb_57 := CB.step Lb_25 P7_9_58.out
  have q59_0 := Lb_57.cell 0 rfl
  have q59_1 := Lb_57.cell 1 rfl
  have q59_2 := Lb_57.cell 2 rfl
  have q59_3 := Lb_57.cell 3 rfl
  have q59_lt := Lb_57.lt
  have q60_0 := Lb_57.frozen 0
  have q60_1 := Lb_57.frozen 1
  have q60_2 := Lb_57.frozen 2
  have q60_3 := Lb_57.frozen 3
  have q60_lt := Lb_57.lt
  go_upto_region 10 with (fail)
  clear q59_0 q59_1 q59_2 q59_3 q59_lt q60_0 q60_1 q60_2 q60_3 q60_lt
  have P2_4_62 := Lib.hid (B10.out.trans (B14.out.mono B10.out.size))
  have P2_5_63 := Lib.hid (P2_4_62.out.trans (B19.out.mono P2_4_62.out.size))
  have P2_6_64 := Lib.hid (P2_5_63.out.trans (B22.out.mono P2_5_63.out.size))
  have P2_7_65 := Lib.hid (P2_6_64.out.trans (B26.out.mono P2_6_64.out.size))
  have P2_8_66 := Lib.hid (P2_7_65.out.trans (B36.out.mono P2_7_65.out.size))
  have P2_9_67 := Lib.hid (P2_8_66.out.trans (B40.out.mono P2_8_66.out.size))
  have Ld_61 := CB.step Ld_6 P2_9_67.out
  have La_68 := CB.step La_29 P7_9_58.out
  obtain ⟨w69, hW69⟩ : ∃ w69 : World, w69 = ((((w39.setCell ⟨w21.heap.size, 0, none⟩ (.bool on56)).setCell ⟨w21.heap.size, 1, none⟩ (.slice oA56 ol56 oc56)).setCell ⟨w21.heap.size, 2, none⟩ (.bool false)).setCell ⟨w21.heap.size, 3, none⟩ (.slice oB56 om_56 od56)) := ⟨_, rfl⟩
  rw [← hW69]
  have S69 := Lib.hid (show Soft w39 w69 by rw [hW69]; exact (((CB.soft1 (Lb_57) (by simp [noInt_b, noInt_s]) 0 (.bool on56)).trans (CB.soft1 ((show CB _ (w21.heap.size) 26 #[.bool on56, .slice oA24 ol24 oc24, .bool false, .slice oB24 om_24 od24] from CB.set (Lb_57) 0 (.bool on56))) (by simp [noInt_b, noInt_s]) 1 (.slice oA56 ol56 oc56))).trans (CB.soft1 ((show CB _ (w21.heap.size) 26 #[.bool on56, .slice oA56 ol56 oc56, .bool false, .slice oB24 om_24 od24] from CB.set ((show CB _ (w21.heap.size) 26 #[.bool on56, .slice oA24 ol24 oc24, .bool false, .slice oB24 om_24 od24] from CB.set (Lb_57) 0 (.bool on56))) 1 (.slice oA56 ol56 oc56))) (by simp [noInt_b, noInt_s]) 2 (.bool false))).trans (CB.soft1 ((show CB _ (w21.heap.size) 26 #[.bool on56, .slice oA56 ol56 oc56, .bool false, .slice oB24 om_24 od24] from CB.set ((show CB _ (w21.heap.size) 26 #[.bool on56, .slice oA56 ol56 oc56, .bool false, .slice oB24 om_24 od24] from CB.set ((show CB _ (w21.heap.size) 26 #[.bool on56, .slice oA24 ol24 oc24, .bool false, .slice oB24 om_24 od24] from CB.set (Lb_57) 0 (.bool on56))) 1 (.slice oA56 ol56 oc56))) 2 (.bool false))) (by simp [noInt_b, noInt_s]) 3 (.slice oB56 om_56 od56)))
  have Ld_69 : CB w69 (w.heap.size) 31 #[.bool dz1, .int .u8 dzl, dzs, .bool dz2, .int .u8 dzk, dzt] := by rw [hW69]; exact CB.far (p := ⟨w21.heap.size, 3, none⟩) (CB.far (p := ⟨w21.heap.size, 2, none⟩) (CB.far (p := ⟨w21.heap.size, 1, none⟩) (CB.far (p := ⟨w21.heap.size, 0, none⟩) (Ld_61) (show w.heap.size ≠ w21.heap.size from by omega) _) (show w.heap.size ≠ w21.heap.size from by omega) _) (show w.heap.size ≠ w21.heap.size from by omega) _) (show w.heap.size ≠ w21.heap.size from by omega) _
  have La_69 : CB w69 (w5.heap.size) 26 #[.bool on12, .slice oA12 ol12 oc12, .bool false, .slice oB12 om_12 od12] := by rw [hW69]; exact CB.far (p := ⟨w21.heap.size, 3, none⟩) (CB.far (p := ⟨w21.heap.size, 2, none⟩) (CB.far (p := ⟨w21.heap.size, 1, none⟩) (CB.far (p := ⟨w21.heap.size, 0, none⟩) (La_68) (show w5.heap.size ≠ w21.heap.size from by omega) _) (show w5.heap.size ≠ w21.heap.size from by omega) _) (show w5.heap.size ≠ w21.heap.size from by omega) _) (show w5.heap.size ≠ w21.heap.size from by omega) _
  have Lb_69 : CB w69 (w21.heap.size) 26 #[.bool on56, .slice oA56 ol56 oc56, .bool false, .slice oB56 om_56 od56] := by rw [hW69]; exact (show CB _ (w21.heap.size) 26 #[.bool on56, .slice oA56 ol56 oc56, .bool false, .slice oB56 om_56 od56] from CB.set ((show CB _ (w21.heap.size) 26 #[.bool on56, .slice oA56 ol56 oc56, .bool false, .slice oB24 om_24 od24] from CB.set ((show CB _ (w21.heap.size) 26 #[.bool on56, .slice oA56 ol56 oc56, .bool false, .slice oB24 om_24 od24] from CB.set ((show CB _ (w21.heap.size) 26 #[.bool on56, .slice oA24 ol24 oc24, .bool false, .slice oB24 om_24 od24] from CB.set (Lb_57) 0 (.bool on56))) 1 (.slice oA56 ol56 oc56))) 2 (.bool false))) 3 (.slice oB56 om_56 od56))
  have HBP69 := Lib.hid (show Below w.heap.size w w69 by rw [hW69]; exact below_set1 (below_set1 (below_set1 (below_set1 (HB41.out) (by omega) _ _) (by omega) _ _) (by omega) _ _) (by omega) _ _)
  have zw69 : w69.heap.size = w39.heap.size := by rw [hW69]; simp [World.setCell]
  clear hW69
  have q71_0 := Lb_69.cell 0 rfl
  have q71_1 := Lb_69.cell 1 rfl
  have q71_2 := Lb_69.cell 2 rfl
  have q71_3 := Lb_69.cell 3 rfl
  have q71_lt := Lb_69.lt
  go_wp2_with fail
  have Hr_72 := Lib.hid (QV.soft Hr_56.out (S69.out))
  refine (QText_good _ _ r Hr_72.out HT2.out (G.step HBP69.out)).mono ?_
  rintro e w70 ⟨hb70, t2, rfl, ht2⟩
  have B73 := Lib.hid hb70
  have z73 := B73.out.size
  have HB74 := Lib.hid (HBP69.out.trans (B73.out.mono HBP69.out.size))
  clear hb70
  clear q71_0 q71_1 q71_2 q71_3 q71_lt
  have heq : (t2.toList == u.toList) = true := by rw [beq_str, ht2, HT1.out]; simp
  clear ht2
  go_wp2
  go_ret
  exact ⟨HB74.out, rfl⟩
end Go.Proofs.YtioclokmbgmamaaGreatDoor
