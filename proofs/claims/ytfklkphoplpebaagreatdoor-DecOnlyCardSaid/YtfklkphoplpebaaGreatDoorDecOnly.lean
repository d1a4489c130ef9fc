/- The law DecOnly (written by gen_deconly.py). -/
import Derived.Test.YtfklkphoplpebaaGreatDoorDecBack
import Derived.Test.YtfklkphoplpebaaGreatDoorDecO
namespace Go.Proofs.YtfklkphoplpebaaGreatDoor
open Go Go.RowKit Dig

theorem Prefix_dash (w : World) (s : ByteArray) :
    Calls Tryz.prog 26 #[.string s, .string ⟨#[45]⟩] w fun e w' => Below w.heap.size w w' ∧ e = .returned (.bool (Lib.hasPrefix s.data.toList [45])) :=
  (Tryz.strings_HasPrefix s ⟨#[45]⟩ w).mono fun _ _ ⟨he, hw⟩ => ⟨hw ▸ Below.refl _ _, he⟩
theorem Trim_dash (w : World) (s : ByteArray) :
    Calls Tryz.prog 28 #[.string s, .string ⟨#[45]⟩] w fun e w' => Below w.heap.size w w' ∧ ∃ t : ByteArray, e = .returned (.string t) ∧ t.data.toList = Lib.trimPrefix s.data.toList [45] :=
  (Tryz.strings_TrimPrefix s ⟨#[45]⟩ w).mono fun _ _ ⟨he, hw⟩ => ⟨hw ▸ Below.refl _ _, _, he, rfl⟩
theorem Suffix_zero (w : World) (s : ByteArray) (hs : s.size ≤ 1000000) :
    Calls Tryz.prog 30 #[.string s, .string ⟨#[48]⟩] w fun e w' => Below w.heap.size w w' ∧ e = .returned (.bool (Lib.hasSuffix s.data.toList [48])) :=
  (Tryz.strings_HasSuffix s ⟨#[48]⟩ w (by omega)).mono fun _ _ ⟨he, hw⟩ => ⟨hw ▸ Below.refl _ _, he⟩
theorem Cut_dot (w : World) (s : ByteArray) (hs : s.size ≤ 1000000) (M : MaxL w) :
    Calls Tryz.prog 27 #[.string s, .string ⟨#[46]⟩] w fun e w' => Below w.heap.size w w' ∧ ∃ (a b : ByteArray) (c : Bool), e = .returned (.tuple #[.string a, .string b, .bool c]) ∧ (a.data.toList, b.data.toList, c) = Lib.cut s.data.toList [46] := by
  obtain ⟨m, hm⟩ := M
  refine (Tryz.strings_Cut s ⟨#[46]⟩ m w (by omega) hm).mono ?_
  rintro e w' ⟨he, n, rfl⟩
  exact ⟨below_drewN (Below.refl _ _) n, _, _, _, he, rfl⟩
set_option linter.unusedVariables false in
set_option maxRecDepth 100000 in
set_option maxHeartbeats 4000000 in
theorem DecOnly_any (w : World) (G : Glob w) (M : MaxL w) (s0 : ByteArray) (hs0 : s0.size ≤ maxLen) (n : Int) (hn0 : -9223372036854775808 ≤ n) (hn1 : n ≤ 9223372036854775807) (d : Int) (hd0 : -9223372036854775808 ≤ d) (hd1 : d ≤ 9223372036854775807) :
    Calls Tryz.prog 8 #[.string s0, .int .i64 n, .int .i64 d] w fun e w' => Below w.heap.size w w' ∧ e = .returned (.bool true) := by
  obtain ⟨D, hD, hD2⟩ := mod_small d (k := 19) (by decide) (by decide); have HDD := Lib.hid hD; clear hD
  have hDl : D ≤ 18 := by omega
  clear hD2
  unfold maxLen at hs0
  have hmn3 : 0 ≤ min (↑s0.size) (60 : Int) := by omega
  have hmn4 : min (↑s0.size) (60 : Int) ≤ ↑s0.size := by omega
  go_enter Tryz.func8, Tryz.ntmps8
  go_wp2_with fail
  refine (worksD_any _ G M).mono ?_
  rintro e w1 ⟨hb1, rfl⟩
  have B2 := Lib.hid hb1
  have z2 := B2.out.size
  clear hb1
  go_upto_region 5 with (fail)
  rw [HDD.out]
  clear hmn3 hmn4
  generalize hS : s0.extract 0 _ = S
  have hSs : S.size ≤ 60 := by rw [← hS, ByteArray.size_extract]; omega
  clear hS
  obtain ⟨⟨m, c⟩, hr⟩ : ∃ r, r = parseD S.data.toList (D : Int) := ⟨_, rfl⟩; have HR := Lib.hid hr; clear hr
  go_wp2_with fail
  refine (DParse_lit (s := S) (d := (D : Int)) HR.out.symm (by omega) (by omega) (by omega) (G.step B2.out) (M.step B2.out)).mono ?_
  rintro e w3 ⟨hb3, rfl⟩
  have B4 := Lib.hid hb3
  have z4 := B4.out.size
  have HB5 := Lib.hid (B2.out.trans (B4.out.mono B2.out.size))
  clear hb3
  by_cases hc : c = 0
  · subst hc
    obtain ⟨hmt, hm0, hm1⟩ := parse_back hDl HR.out.symm
    have HMT := Lib.hid hmt; clear hmt HR
    go_wp2_with fail
    refine (isD_new _ S).mono ?_
    rintro e w7 ⟨hb7, N6, rfl, hN6⟩
    have B8 := Lib.hid hb7
    have z8 := B8.out.size
    have HB9 := Lib.hid (HB5.out.trans (B8.out.mono HB5.out.size))
    clear hb7
    go_wp2_with fail
    refine (DText_lit (textD_nat m (d := D) hDl) hm0 hm1 (by omega) (by omega) (G.step HB9.out)).mono ?_
    rintro e w10 ⟨hb10, t2, rfl, ht2⟩
    have B11 := Lib.hid hb10
    have z11 := B11.out.size
    have HB12 := Lib.hid (HB9.out.trans (B11.out.mono HB9.out.size))
    clear hb10
    have LN_13 := One.step hN6 B11.out
    go_wp2_with fail
    refine (isD_yes LN_13 (by rw [ht2, HMT.out])).mono ?_
    rintro e w14 ⟨hb14, rfl⟩
    have B15 := Lib.hid hb14
    have z15 := B15.out.size
    have HB16 := Lib.hid (HB12.out.trans (B15.out.mono HB12.out.size))
    clear hb14
    clear LN_13 ht2
    go_wp2_with fail
    refine (DText_lit (textD_nat n (d := D) hDl) hn0 hn1 (by omega) (by omega) (G.step HB16.out)).mono ?_
    rintro e w17 ⟨hb17, t, rfl, ht⟩
    have B18 := Lib.hid hb17
    have z18 := B18.out.size
    have HB19 := Lib.hid (HB16.out.trans (B18.out.mono HB16.out.size))
    clear hb17
    have htl : t.size ≤ 48 := by rw [Lib.size_eq, ht]; exact text_short hn0 hn1 hDl
    have HT := Lib.hid ht; clear ht
    go_wp2_with fail
    refine (Prefix_dash _ t).mono ?_
    rintro e w20 ⟨hb20, rfl⟩
    have B21 := Lib.hid hb20
    have z21 := B21.out.size
    have HB22 := Lib.hid (HB19.out.trans (B21.out.mono HB19.out.size))
    clear hb20
    rw [HT.out, text_prefix]
    go_wp2_with fail
    refine (Trim_dash _ t).mono ?_
    rintro e w23 ⟨hb23, b, rfl, hb'⟩
    have B24 := Lib.hid hb23
    have z24 := B24.out.size
    have HB25 := Lib.hid (HB22.out.trans (B24.out.mono HB22.out.size))
    clear hb23
    have hbs : b.size ≤ 100 := by rw [Lib.size_eq, hb', HT.out, text_bare]; have h := text_short hn0 hn1 hDl; rw [decT_parts, List.length_append] at h; omega
    have HBT := Lib.hid (show b.data.toList = wholeT n D ++ frac (placeT n D) by rw [hb', HT.out, text_bare]); clear hb'
    go_wp2_with fail
    refine (Cut_dot _ b (by omega) (M.step HB25.out)).mono ?_
    rintro e w26 ⟨hb26, W, P, fo, rfl, hc⟩
    have B27 := Lib.hid hb26
    have z27 := B27.out.size
    have HB28 := Lib.hid (HB25.out.trans (B27.out.mono HB25.out.size))
    clear hb26
    rw [HBT.out, cut_text (whole_dig n D)] at hc
    obtain ⟨hW, hP, hfo⟩ : W.data.toList = wholeT n D ∧ P.data.toList = placeT n D ∧ fo = decide (placeT n D ≠ []) := by injection hc with h1 h2; injection h2 with h2 h3; exact ⟨h1, h2, h3⟩
    clear hc
    obtain ⟨c0, r0, hcr, hcd, hc48⟩ := dd_first (n.natAbs / 10 ^ D)
    replace hcr : wholeT n D = c0 :: r0 := hcr
    have hWs : 0 < W.size := by rw [Lib.size_eq, hW, hcr]; simp
    have hWl : W.size ≤ 100 := by rw [Lib.size_eq, hW]; have h := text_short hn0 hn1 hDl; rw [decT_parts, List.length_append, List.length_append] at h; omega
    have hPl : P.size ≤ D := by rw [Lib.size_eq, hP]; exact place_le n D
    have HAD := Lib.hid (show AllDig (W ++ P).data.toList by rw [ByteArray.data_append, Array.toList_append, hW, hP]; exact (whole_dig n D).append (place_dig n D))
    have hWe : (W.toList == []) = false := by rw [Lib.toList_data, hW, hcr]; rfl
    have hWe2 : W.toList.isEmpty = false := by rw [Lib.toList_data, hW, hcr]; rfl
    obtain ⟨pe, hPe2, hPe, hfo2⟩ : ∃ pe, P.toList.isEmpty = pe ∧ (P.toList == []) = pe ∧ fo = !pe := ⟨(placeT n D).isEmpty, by rw [Lib.toList_data, hP], by rw [Lib.toList_data, hP]; cases placeT n D <;> rfl, by rw [hfo]; cases placeT n D <;> simp⟩
    clear hfo; subst hfo2
    have HSF := Lib.hid (show Lib.hasSuffix P.data.toList [48] = false by rw [hP]; exact place_suffix n D)
    have HWW := Lib.hid hW; have HC := Lib.hid hcr; have HC48 := Lib.hid hc48; clear hP hW hcr hcd hc48
    have hcat : ¬ 9223372036854775807 < W.size + P.size := by omega
    have hPi : (P.size : Int) ≤ (D : Int) := by omega
    cases pe
    · skip
      go_wp2_with fail
      refine (TrimS_any (W ++ P) _ (by rw [ByteArray.size_append]; omega)).mono ?_
      rintro e w29 ⟨tr, rfl, htr, hb29⟩
      have B30 := Lib.hid hb29
      have z30 := B30.out.size
      have HB31 := Lib.hid (HB28.out.trans (B30.out.mono HB28.out.size))
      clear hb29
      have htr0 : (tr.toList == []) = true := by rw [Lib.toList_data, htr.2 HAD.out]; rfl
      clear htr
      go_wp2_with fail
      refine (Suffix_zero _ P (by omega)).mono ?_
      rintro e w32 ⟨hb32, rfl⟩
      have B33 := Lib.hid hb32
      have z33 := B33.out.size
      have HB34 := Lib.hid (HB31.out.trans (B33.out.mono HB31.out.size))
      clear hb32
      rw [HSF.out]
      by_cases h48 : (W.toList == [48]) = true
      · skip
        go_wp2
        go_ret
        exact ⟨HB34.out, rfl⟩
      · have h48' : (W.toList == [48]) = false := by simpa using h48
        have hw0 : ((W[0].toNat : Int) == 48) = false := by
          have h1 : W[0] = c0 := ba_head (by rw [HWW.out]; exact HC.out) hWs
          rw [h1, beq_eq_false_iff_ne]; intro e
          rcases HC48.out with h2 | h2
          · rw [Lib.toList_data, HWW.out, show wholeT n D = [48] from h2] at h48'; simp at h48'
          · exact h2 (UInt8.toNat.inj (by show c0.toNat = 48; omega))
        have hw1 : ((W[0].toNat : Int) != 48) = true := by unfold bne; rw [hw0]; rfl
        go_wp2
        go_ret
        exact ⟨HB34.out, rfl⟩
    · skip
      go_wp2_with fail
      refine (TrimS_any (W ++ P) _ (by rw [ByteArray.size_append]; omega)).mono ?_
      rintro e w35 ⟨tr, rfl, htr, hb35⟩
      have B36 := Lib.hid hb35
      have z36 := B36.out.size
      have HB37 := Lib.hid (HB28.out.trans (B36.out.mono HB28.out.size))
      clear hb35
      have htr0 : (tr.toList == []) = true := by rw [Lib.toList_data, htr.2 HAD.out]; rfl
      clear htr
      go_wp2_with fail
      refine (Suffix_zero _ P (by omega)).mono ?_
      rintro e w38 ⟨hb38, rfl⟩
      have B39 := Lib.hid hb38
      have z39 := B39.out.size
      have HB40 := Lib.hid (HB37.out.trans (B39.out.mono HB37.out.size))
      clear hb38
      rw [HSF.out]
      by_cases h48 : (W.toList == [48]) = true
      · skip
        go_wp2
        go_ret
        exact ⟨HB40.out, rfl⟩
      · have h48' : (W.toList == [48]) = false := by simpa using h48
        have hw0 : ((W[0].toNat : Int) == 48) = false := by
          have h1 : W[0] = c0 := ba_head (by rw [HWW.out]; exact HC.out) hWs
          rw [h1, beq_eq_false_iff_ne]; intro e
          rcases HC48.out with h2 | h2
          · rw [Lib.toList_data, HWW.out, show wholeT n D = [48] from h2] at h48'; simp at h48'
          · exact h2 (UInt8.toNat.inj (by show c0.toNat = 48; omega))
        have hw1 : ((W[0].toNat : Int) != 48) = true := by unfold bne; rw [hw0]; rfl
        go_wp2
        go_ret
        exact ⟨HB40.out, rfl⟩
  · have hcz : (c == 0) = false := beq_eq_false_iff_ne.2 hc
    clear HR hc
    go_wp2_with fail
    refine (DText_lit (textD_nat n (d := D) hDl) hn0 hn1 (by omega) (by omega) (G.step HB5.out)).mono ?_
    rintro e w41 ⟨hb41, t, rfl, ht⟩
    have B42 := Lib.hid hb41
    have z42 := B42.out.size
    have HB43 := Lib.hid (HB5.out.trans (B42.out.mono HB5.out.size))
    clear hb41
    have htl : t.size ≤ 48 := by rw [Lib.size_eq, ht]; exact text_short hn0 hn1 hDl
    have HT := Lib.hid ht; clear ht
    go_wp2_with fail
    refine (Prefix_dash _ t).mono ?_
    rintro e w44 ⟨hb44, rfl⟩
    have B45 := Lib.hid hb44
    have z45 := B45.out.size
    have HB46 := Lib.hid (HB43.out.trans (B45.out.mono HB43.out.size))
    clear hb44
    rw [HT.out, text_prefix]
    go_wp2_with fail
    refine (Trim_dash _ t).mono ?_
    rintro e w47 ⟨hb47, b, rfl, hb'⟩
    have B48 := Lib.hid hb47
    have z48 := B48.out.size
    have HB49 := Lib.hid (HB46.out.trans (B48.out.mono HB46.out.size))
    clear hb47
    have hbs : b.size ≤ 100 := by rw [Lib.size_eq, hb', HT.out, text_bare]; have h := text_short hn0 hn1 hDl; rw [decT_parts, List.length_append] at h; omega
    have HBT := Lib.hid (show b.data.toList = wholeT n D ++ frac (placeT n D) by rw [hb', HT.out, text_bare]); clear hb'
    go_wp2_with fail
    refine (Cut_dot _ b (by omega) (M.step HB49.out)).mono ?_
    rintro e w50 ⟨hb50, W, P, fo, rfl, hc⟩
    have B51 := Lib.hid hb50
    have z51 := B51.out.size
    have HB52 := Lib.hid (HB49.out.trans (B51.out.mono HB49.out.size))
    clear hb50
    rw [HBT.out, cut_text (whole_dig n D)] at hc
    obtain ⟨hW, hP, hfo⟩ : W.data.toList = wholeT n D ∧ P.data.toList = placeT n D ∧ fo = decide (placeT n D ≠ []) := by injection hc with h1 h2; injection h2 with h2 h3; exact ⟨h1, h2, h3⟩
    clear hc
    obtain ⟨c0, r0, hcr, hcd, hc48⟩ := dd_first (n.natAbs / 10 ^ D)
    replace hcr : wholeT n D = c0 :: r0 := hcr
    have hWs : 0 < W.size := by rw [Lib.size_eq, hW, hcr]; simp
    have hWl : W.size ≤ 100 := by rw [Lib.size_eq, hW]; have h := text_short hn0 hn1 hDl; rw [decT_parts, List.length_append, List.length_append] at h; omega
    have hPl : P.size ≤ D := by rw [Lib.size_eq, hP]; exact place_le n D
    have HAD := Lib.hid (show AllDig (W ++ P).data.toList by rw [ByteArray.data_append, Array.toList_append, hW, hP]; exact (whole_dig n D).append (place_dig n D))
    have hWe : (W.toList == []) = false := by rw [Lib.toList_data, hW, hcr]; rfl
    have hWe2 : W.toList.isEmpty = false := by rw [Lib.toList_data, hW, hcr]; rfl
    obtain ⟨pe, hPe2, hPe, hfo2⟩ : ∃ pe, P.toList.isEmpty = pe ∧ (P.toList == []) = pe ∧ fo = !pe := ⟨(placeT n D).isEmpty, by rw [Lib.toList_data, hP], by rw [Lib.toList_data, hP]; cases placeT n D <;> rfl, by rw [hfo]; cases placeT n D <;> simp⟩
    clear hfo; subst hfo2
    have HSF := Lib.hid (show Lib.hasSuffix P.data.toList [48] = false by rw [hP]; exact place_suffix n D)
    have HWW := Lib.hid hW; have HC := Lib.hid hcr; have HC48 := Lib.hid hc48; clear hP hW hcr hcd hc48
    have hcat : ¬ 9223372036854775807 < W.size + P.size := by omega
    have hPi : (P.size : Int) ≤ (D : Int) := by omega
    cases pe
    · skip
      go_wp2_with fail
      refine (TrimS_any (W ++ P) _ (by rw [ByteArray.size_append]; omega)).mono ?_
      rintro e w53 ⟨tr, rfl, htr, hb53⟩
      have B54 := Lib.hid hb53
      have z54 := B54.out.size
      have HB55 := Lib.hid (HB52.out.trans (B54.out.mono HB52.out.size))
      clear hb53
      have htr0 : (tr.toList == []) = true := by rw [Lib.toList_data, htr.2 HAD.out]; rfl
      clear htr
      go_wp2_with fail
      refine (Suffix_zero _ P (by omega)).mono ?_
      rintro e w56 ⟨hb56, rfl⟩
      have B57 := Lib.hid hb56
      have z57 := B57.out.size
      have HB58 := Lib.hid (HB55.out.trans (B57.out.mono HB55.out.size))
      clear hb56
      rw [HSF.out]
      by_cases h48 : (W.toList == [48]) = true
      · skip
        go_wp2
        go_ret
        exact ⟨HB58.out, rfl⟩
      · have h48' : (W.toList == [48]) = false := by simpa using h48
        have hw0 : ((W[0].toNat : Int) == 48) = false := by
          have h1 : W[0] = c0 := ba_head (by rw [HWW.out]; exact HC.out) hWs
          rw [h1, beq_eq_false_iff_ne]; intro e
          rcases HC48.out with h2 | h2
          · rw [Lib.toList_data, HWW.out, show wholeT n D = [48] from h2] at h48'; simp at h48'
          · exact h2 (UInt8.toNat.inj (by show c0.toNat = 48; omega))
        have hw1 : ((W[0].toNat : Int) != 48) = true := by unfold bne; rw [hw0]; rfl
        go_wp2
        go_ret
        exact ⟨HB58.out, rfl⟩
    · skip
      go_wp2_with fail
      refine (TrimS_any (W ++ P) _ (by rw [ByteArray.size_append]; omega)).mono ?_
      rintro e w59 ⟨tr, rfl, htr, hb59⟩
      have B60 := Lib.hid hb59
      have z60 := B60.out.size
      have HB61 := Lib.hid (HB52.out.trans (B60.out.mono HB52.out.size))
      clear hb59
      have htr0 : (tr.toList == []) = true := by rw [Lib.toList_data, htr.2 HAD.out]; rfl
      clear htr
      go_wp2_with fail
      refine (Suffix_zero _ P (by omega)).mono ?_
      rintro e w62 ⟨hb62, rfl⟩
      have B63 := Lib.hid hb62
      have z63 := B63.out.size
      have HB64 := Lib.hid (HB61.out.trans (B63.out.mono HB61.out.size))
      clear hb62
      rw [HSF.out]
      by_cases h48 : (W.toList == [48]) = true
      · skip
        go_wp2
        go_ret
        exact ⟨HB64.out, rfl⟩
      · have h48' : (W.toList == [48]) = false := by simpa using h48
        have hw0 : ((W[0].toNat : Int) == 48) = false := by
          have h1 : W[0] = c0 := ba_head (by rw [HWW.out]; exact HC.out) hWs
          rw [h1, beq_eq_false_iff_ne]; intro e
          rcases HC48.out with h2 | h2
          · rw [Lib.toList_data, HWW.out, show wholeT n D = [48] from h2] at h48'; simp at h48'
          · exact h2 (UInt8.toNat.inj (by show c0.toNat = 48; omega))
        have hw1 : ((W[0].toNat : Int) != 48) = true := by unfold bne; rw [hw0]; rfl
        go_wp2
        go_ret
        exact ⟨HB64.out, rfl⟩
end Go.Proofs.YtfklkphoplpebaaGreatDoor
