/- The law LongBack (written by gen_back.py). -/
import Derived.Test.YtnbanlmkoljghaaGreatDoorWorks
import Derived.Test.YtnbanlmkoljghaaGreatDoorDraft
import Derived.Test.YtnbanlmkoljghaaGreatDoorLen
namespace Go.Proofs.YtnbanlmkoljghaaGreatDoor
open Go Go.RowKit Dig

/-- A text that is short enough is read, or it is no number; it is never too long. -/
theorem parse_short {s : List UInt8} (h : s.length ≤ 600) : (∃ z, parseZ s = (z, 0) ∧ Lib.itoa z = s ∧ Fit z) ∨ parseZ s = (0, 5) := by
  cases hc : canon s with
  | none => exact .inr (parseZ_none hc)
  | some z =>
    have h1 := canon_some hc
    have h2 : (dig z.natAbs).length ≤ 600 := by
      rw [← dd_len_dig _ 600 (by omega), ← bare_itoa z, h1]
      exact Nat.le_trans (bare_len s) (by omega)
    exact .inl ⟨z, parseZ_some hc h2, h1, h2⟩

theorem bare_len2 (l : List UInt8) : l.length ≤ (bare l).length + 1 := by
  cases l with
  | nil => simp
  | cons c r =>
    by_cases hc : c = 45
    · subst hc; rw [bare_dash]; simp
    · rw [bare_other r hc]; omega
set_option maxRecDepth 100000 in
set_option maxHeartbeats 4000000 in
theorem LongBack_any (w : World) (G : Glob w) (neg : Bool) (low : Int) (wv : Value) (ws : List Nat) (hlow0 : 0 ≤ low) (hlow1 : low ≤ 255) (h : RW w w.heap.size wv ws) (s : ByteArray) (hs : s.size ≤ maxLen) :
    Calls Tryz.prog 8 #[.agg #[.bool neg, .int .u8 low, wv], .string s] w fun e w' => Below w.heap.size w w' ∧ e = .returned (.bool true) := by
  replace h := Lib.hid h
  obtain ⟨A, c, hwv, -⟩ := h.out
  subst hwv
  obtain ⟨M, hM⟩ : ∃ M : Int, M = sgn neg (val (draftDs (low.toNat % 8) 40 ws)) := ⟨_, rfl⟩
  have hlM : Len 47 M := by rw [hM, Len]; exact draft_fit (by omega)
  have hMM := parseZ_some (canon_itoa M) (hlM.fit (by omega))
  obtain ⟨tM, htM⟩ : ∃ t : ByteArray, t = ⟨(Lib.itoa M).toArray⟩ := ⟨_, rfl⟩
  have htl : tM.data.toList = Lib.itoa M := by rw [htM]
  have hts : tM.size ≤ 1000000 := by rw [Lib.size_eq, htl]; have h1 := (dd_len_dig M.natAbs 600 (by omega)).2 (hlM.fit (by omega)); rw [← bare_itoa] at h1; have h2 := bare_len2 (Lib.itoa M); omega
  have HM := Lib.hid hM
  have HF : Hid (Fit M) := Lib.hid (hlM.fit (by omega))
  have HMM : Hid (parseZ tM.data.toList = (M, 0)) := Lib.hid (by rw [htl]; exact hMM)
  have HT := Lib.hid htM
  have HTS := Lib.hid hts
  have HS := Lib.hid hs
  clear hM hlM hMM htM htl hts hs
  have hbk : (w.alloc (.cells #[.bool neg, .int .u8 low, .slice A ws.length c] 27)).heap[w.heap.size]? = some (.cells #[.bool neg, .int .u8 low, .slice A ws.length c] 27 (0, 0)) := heap_alloc_new w _
  have HB0 := Lib.hid ((Below.refl w.heap.size w).alloc (Nat.le_refl _) (.cells #[.bool neg, .int .u8 low, .slice A ws.length c] 27))
  replace hbk := Lib.hid hbk
  go_enter Tryz.func8, Tryz.ntmps8
  go_wp2_with fail
  refine (works_any _ (G.step HB0.out)).mono ?_
  rintro e w1 ⟨hb1, rfl⟩
  have hbk2 := (hb1.block w.heap.size (by simp)).trans hbk.out
  have HB_2 := Lib.hid (HB0.out.trans (hb1.mono HB0.out.size))
  clear hb1
  have q0 : w1.cell? ⟨w.heap.size, 0, none⟩ = some (.bool neg) := by simp [World.cell?, hbk2]
  have q1 : w1.cell? ⟨w.heap.size, 1, none⟩ = some (.int .u8 low) := by simp [World.cell?, hbk2]
  have q2 : w1.cell? ⟨w.heap.size, 2, none⟩ = some (.slice A ws.length c) := by simp [World.cell?, hbk2]
  clear hbk hbk2
  go_wp2_with fail
  refine (Long_any _ neg low _ ws hlow0 hlow1 (h.out.step HB_2.out)).mono ?_
  rintro e w3 ⟨hb3, v1, rfl, hv1⟩
  have HB_4 := Lib.hid (HB_2.out.trans (hb3.mono HB_2.out.size))
  clear HB_2
  clear hb3
  clear q0 q1 q2 h
  rw [← HM.out] at hv1
  obtain ⟨A6, c6, rfl, -⟩ := hv1.parts
  have Hx_6 := Lib.hid hv1
  clear hv1
  go_wp2_with fail
  obtain ⟨w7, hW7⟩ : ∃ w7 : World, w7 = w3.alloc (.cells #[.bool (decide (M < 0)), .slice A6 (dig (M).natAbs).length c6] 24) := ⟨_, rfl⟩
  rw [← hW7]
  have hal8 : Below w3.heap.size w3 w7 := by rw [hW7]; exact (Below.refl _ _).alloc (Nat.le_refl _) _
  have La_8 : LB w7 (w3.heap.size) (.bool (decide (M < 0))) (.slice A6 (dig (M).natAbs).length c6) := by rw [hW7]; exact LB.new' (show w3.heap.size = w3.heap.size from (rfl).symm)
  have ge_a : w.heap.size ≤ w3.heap.size := by have h1 : w.heap.size ≤ w3.heap.size := HB_4.out.size; have h2 : w3.heap.size = w3.heap.size := rfl; omega
  have HSZ_8 := Lib.hid (show w7.heap.size = w3.heap.size + 1 by rw [hW7]; have h2 : w3.heap.size = w3.heap.size := rfl; simp <;> omega)
  have HB_9 := Lib.hid (HB_4.out.trans (hal8.mono HB_4.out.size))
  clear HB_4
  have Ha_tmp_10 := Lib.hid (Hx_6.out.step hal8)
  clear Hx_6
  clear hal8 hW7
  have q11_0 := La_8.cell0
  have q11_1 := La_8.cell1
  have q11_2 := La_8.frozen 0
  have q11_3 := La_8.frozen 1
  have q11_lt := La_8.lt
  go_wp2_with fail
  refine (Text_num Ha_tmp_10.out HF.out (G.step HB_9.out)).mono ?_
  rintro e w12 ⟨hb12, rfl⟩
  have HB_13 := Lib.hid (HB_9.out.trans (hb12.mono HB_9.out.size))
  clear HB_9
  have La_14 := La_8.step hb12
  clear La_8
  have Ha_14 := Lib.hid (Ha_tmp_10.out.step hb12)
  clear Ha_tmp_10
  clear hb12
  clear HSZ_8
  clear q11_0 q11_1 q11_2 q11_3 q11_lt
  rw [← HT.out]
  go_wp2_with fail
  refine (Parse_num HTS.out HMM.out).mono ?_
  rintro e w15 ⟨hb15, v2, rfl, hv2⟩
  have HB_16 := Lib.hid (HB_13.out.trans (hb15.mono HB_13.out.size))
  clear HB_13
  have La_17 := La_14.step hb15
  clear La_14
  have Ha_17 := Lib.hid (Ha_14.out.step hb15)
  clear Ha_14
  clear hb15
  dsimp only at hv2 ⊢
  obtain ⟨A18, c18, rfl, -⟩ := hv2.parts
  have Hy_18 := Lib.hid hv2
  clear hv2
  have q19_0 := La_17.cell0
  have q19_1 := La_17.cell1
  have q19_2 := La_17.frozen 0
  have q19_3 := La_17.frozen 1
  have q19_lt := La_17.lt
  go_wp2_with fail
  clear q19_0 q19_1 q19_2 q19_3 q19_lt
  obtain ⟨w20, hW20⟩ : ∃ w20 : World, w20 = w15.alloc (.cells #[.bool (decide (M < 0)), .slice A18 (dig (M).natAbs).length c18] 24) := ⟨_, rfl⟩
  rw [← hW20]
  have hal21 : Below w15.heap.size w15 w20 := by rw [hW20]; exact (Below.refl _ _).alloc (Nat.le_refl _) _
  have Lb_21 : LB w20 (w15.heap.size) (.bool (decide (M < 0))) (.slice A18 (dig (M).natAbs).length c18) := by rw [hW20]; exact LB.new' (show w15.heap.size = w15.heap.size from (rfl).symm)
  have ne_a_b : w3.heap.size ≠ w15.heap.size := Nat.ne_of_lt (by have h1 := La_17.lt; have h2 : w15.heap.size = w15.heap.size := rfl; omega)
  have ge_b : w.heap.size ≤ w15.heap.size := by have h1 : w.heap.size ≤ w15.heap.size := HB_16.out.size; have h2 : w15.heap.size = w15.heap.size := rfl; omega
  have HSZ_21 := Lib.hid (show w20.heap.size = w15.heap.size + 1 by rw [hW20]; have h2 : w15.heap.size = w15.heap.size := rfl; simp <;> omega)
  have HB_22 := Lib.hid (HB_16.out.trans (hal21.mono HB_16.out.size))
  clear HB_16
  have La_23 := La_17.step hal21
  clear La_17
  have Ha_23 := Lib.hid (Ha_17.out.step hal21)
  clear Ha_17
  have Hb_tmp_23 := Lib.hid (Hy_18.out.step hal21)
  clear Hy_18
  clear hal21 hW20
  have q24_0 := La_23.cell0
  have q24_1 := La_23.cell1
  have q24_2 := La_23.frozen 0
  have q24_3 := La_23.frozen 1
  have q24_lt := La_23.lt
  have q25_0 := Lb_21.cell0
  have q25_1 := Lb_21.cell1
  have q25_2 := Lb_21.frozen 0
  have q25_3 := Lb_21.frozen 1
  have q25_lt := Lb_21.lt
  refine (Same_num Ha_23.out Hb_tmp_23.out).mono ?_
  rintro e w26 ⟨hb26, rfl⟩
  have HB_27 := Lib.hid (HB_22.out.trans (hb26.mono HB_22.out.size))
  clear HB_22
  have La_28 := La_23.step hb26
  clear La_23
  have Lb_28 := Lb_21.step hb26
  clear Lb_21
  have Ha_28 := Lib.hid (Ha_23.out.step hb26)
  clear Ha_23
  have Hb_28 := Lib.hid (Hb_tmp_23.out.step hb26)
  clear Hb_tmp_23
  clear hb26
  clear HSZ_21
  clear q24_0 q24_1 q24_2 q24_3 q24_lt q25_0 q25_1 q25_2 q25_3 q25_lt
  rw [show decide (M = M) = true by simp]
  go_wp2_with fail
  obtain ⟨u, hu⟩ : ∃ u, u = s.extract 0 (min (↑s.size) 600 : Int).toNat := ⟨_, rfl⟩
  have hus : u.size ≤ 600 := by rw [hu, ByteArray.size_extract]; omega
  rw [← hu]
  clear hu
  have hul : u.data.toList.length ≤ 600 := by rw [← Lib.size_eq]; exact hus
  rcases parse_short hul with ⟨z, hz, ht, hf⟩ | hz
  · clear hul
    have HZ := Lib.hid hz
    have HTT := Lib.hid ht
    have HFZ : Hid (Fit z) := Lib.hid hf
    have HUS := Lib.hid hus
    clear hz ht hf hus
    refine (Parse_num (Nat.le_trans HUS.out (by decide)) HZ.out).mono ?_
    rintro e w29 ⟨hb29, v3, rfl, hv3⟩
    have HB_30 := Lib.hid (HB_27.out.trans (hb29.mono HB_27.out.size))
    clear HB_27
    have La_31 := La_28.step hb29
    clear La_28
    have Lb_31 := Lb_28.step hb29
    clear Lb_28
    have Ha_31 := Lib.hid (Ha_28.out.step hb29)
    clear Ha_28
    have Hb_31 := Lib.hid (Hb_28.out.step hb29)
    clear Hb_28
    clear hb29
    dsimp only at hv3 ⊢
    obtain ⟨A32, c32, rfl, -⟩ := hv3.parts
    have Hy_32 := Lib.hid hv3
    clear hv3
    have q33_0 := Lb_31.cell0
    have q33_1 := Lb_31.cell1
    have q33_2 := Lb_31.frozen 0
    have q33_3 := Lb_31.frozen 1
    have q33_lt := Lb_31.lt
    go_wp2_with fail
    clear q33_0 q33_1 q33_2 q33_3 q33_lt
    obtain ⟨w34, hW34⟩ : ∃ w34 : World, w34 = (w29.setCell ⟨w15.heap.size, 0, none⟩ (.bool (decide (z < 0)))).setCell ⟨w15.heap.size, 1, none⟩ (.slice A32 (dig (z).natAbs).length c32) := ⟨_, rfl⟩
    rw [← hW34]
    have LX35 := Lb_31
    have HB_36 := Lib.hid (show Below w.heap.size w w34 by rw [hW34]; exact (HB_30.out.setCell (p := ⟨w15.heap.size, 0, none⟩) ge_b (.bool (decide (z < 0)))).setCell (p := ⟨w15.heap.size, 1, none⟩) ge_b (.slice A32 (dig (z).natAbs).length c32))
    clear HB_30
    have HSZ_35 := Lib.hid (show w34.heap.size = w29.heap.size by rw [hW34]; simp [World.setCell])
    have La_37 := show LB w34 _ _ _ by rw [hW34]; exact (La_31.far (p := ⟨w15.heap.size, 0, none⟩) ne_a_b (.bool (decide (z < 0)))).far (p := ⟨w15.heap.size, 1, none⟩) ne_a_b (.slice A32 (dig (z).natAbs).length c32)
    clear La_31
    have Lb_37 := show LB w34 _ _ _ by rw [hW34]; exact (LX35.set0 (.bool (decide (z < 0)))).set1 (.slice A32 (dig (z).natAbs).length c32)
    clear Lb_31
    have Ha_37 := Lib.hid (show LV w34 w34.heap.size _ _ by rw [hW34]; exact LV.setLB Ha_31.out LX35 (.bool (decide (z < 0))) (.slice A32 (dig (z).natAbs).length c32) rfl rfl)
    clear Ha_31
    have Hy_37 := Lib.hid (show LV w34 w34.heap.size _ _ by rw [hW34]; exact LV.setLB Hy_32.out LX35 (.bool (decide (z < 0))) (.slice A32 (dig (z).natAbs).length c32) rfl rfl)
    clear Hy_32
    clear LX35 hW34
    have q38_0 := Lb_37.cell0
    have q38_1 := Lb_37.cell1
    have q38_2 := Lb_37.frozen 0
    have q38_3 := Lb_37.frozen 1
    have q38_lt := Lb_37.lt
    refine (Text_num Hy_37.out HFZ.out (G.step HB_36.out)).mono ?_
    rintro e w39 ⟨hb39, rfl⟩
    have HB_40 := Lib.hid (HB_36.out.trans (hb39.mono HB_36.out.size))
    clear HB_36
    have La_41 := La_37.step hb39
    clear La_37
    have Lb_41 := Lb_37.step hb39
    clear Lb_37
    have Ha_41 := Lib.hid (Ha_37.out.step hb39)
    clear Ha_37
    have Hb_41 := Lib.hid (Hy_37.out.step hb39)
    clear Hy_37
    clear hb39
    clear HSZ_35
    clear q38_0 q38_1 q38_2 q38_3 q38_lt
    obtain ⟨t2, ht2⟩ : ∃ t : ByteArray, t = ⟨(Lib.itoa z).toArray⟩ := ⟨_, rfl⟩
    rw [← ht2]
    have htu : t2.toList = u.toList := by rw [Lib.toList_data, Lib.toList_data, ht2, ← HTT.out]
    have htb : (t2.toList == u.toList) = true := by rw [htu]; simp
    clear ht2 htu
    go_wp2
    go_ret
    exact ⟨HB_40.out, rfl⟩
  · clear hul
    have HZ := Lib.hid hz
    have HUS := Lib.hid hus
    clear hz hus
    refine (Parse_num (Nat.le_trans HUS.out (by decide)) HZ.out).mono ?_
    rintro e w42 ⟨hb42, v3, rfl, hv3⟩
    have HB_43 := Lib.hid (HB_27.out.trans (hb42.mono HB_27.out.size))
    clear HB_27
    have La_44 := La_28.step hb42
    clear La_28
    have Lb_44 := Lb_28.step hb42
    clear Lb_28
    have Ha_44 := Lib.hid (Ha_28.out.step hb42)
    clear Ha_28
    have Hb_44 := Lib.hid (Hb_28.out.step hb42)
    clear Hb_28
    clear hb42
    dsimp only at hv3 ⊢
    obtain ⟨Z, hZ⟩ : ∃ Z : Int, Z = 0 := ⟨_, rfl⟩
    rw [← hZ] at hv3
    clear hZ
    obtain ⟨A45, c45, rfl, -⟩ := hv3.parts
    have Hy_45 := Lib.hid hv3
    clear hv3
    have q46_0 := Lb_44.cell0
    have q46_1 := Lb_44.cell1
    have q46_2 := Lb_44.frozen 0
    have q46_3 := Lb_44.frozen 1
    have q46_lt := Lb_44.lt
    go_wp2_with fail
    clear q46_0 q46_1 q46_2 q46_3 q46_lt
    obtain ⟨w47, hW47⟩ : ∃ w47 : World, w47 = (w42.setCell ⟨w15.heap.size, 0, none⟩ (.bool (decide (Z < 0)))).setCell ⟨w15.heap.size, 1, none⟩ (.slice A45 (dig (Z).natAbs).length c45) := ⟨_, rfl⟩
    rw [← hW47]
    have LX48 := Lb_44
    have HB_49 := Lib.hid (show Below w.heap.size w w47 by rw [hW47]; exact (HB_43.out.setCell (p := ⟨w15.heap.size, 0, none⟩) ge_b (.bool (decide (Z < 0)))).setCell (p := ⟨w15.heap.size, 1, none⟩) ge_b (.slice A45 (dig (Z).natAbs).length c45))
    clear HB_43
    have HSZ_48 := Lib.hid (show w47.heap.size = w42.heap.size by rw [hW47]; simp [World.setCell])
    have La_50 := show LB w47 _ _ _ by rw [hW47]; exact (La_44.far (p := ⟨w15.heap.size, 0, none⟩) ne_a_b (.bool (decide (Z < 0)))).far (p := ⟨w15.heap.size, 1, none⟩) ne_a_b (.slice A45 (dig (Z).natAbs).length c45)
    clear La_44
    have Lb_50 := show LB w47 _ _ _ by rw [hW47]; exact (LX48.set0 (.bool (decide (Z < 0)))).set1 (.slice A45 (dig (Z).natAbs).length c45)
    clear Lb_44
    have Ha_50 := Lib.hid (show LV w47 w47.heap.size _ _ by rw [hW47]; exact LV.setLB Ha_44.out LX48 (.bool (decide (Z < 0))) (.slice A45 (dig (Z).natAbs).length c45) rfl rfl)
    clear Ha_44
    have Hy_50 := Lib.hid (show LV w47 w47.heap.size _ _ by rw [hW47]; exact LV.setLB Hy_45.out LX48 (.bool (decide (Z < 0))) (.slice A45 (dig (Z).natAbs).length c45) rfl rfl)
    clear Hy_45
    clear LX48 hW47
    go_ret
    exact ⟨HB_49.out, rfl⟩
end Go.Proofs.YtnbanlmkoljghaaGreatDoor
