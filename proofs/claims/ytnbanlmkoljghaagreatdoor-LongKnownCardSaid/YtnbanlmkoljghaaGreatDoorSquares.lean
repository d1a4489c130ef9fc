/- The law LongSquares (written by gen_squares.py). -/
import Derived.Test.YtnbanlmkoljghaaGreatDoorWorks
import Derived.Test.YtnbanlmkoljghaaGreatDoorDraft
import Derived.Test.YtnbanlmkoljghaaGreatDoorLen
import Derived.Deep.RegionHeld3
import Derived.Deep.DeepCutAuto
import Derived.Deep.CutBlock
namespace Go.Proofs.YtnbanlmkoljghaaGreatDoor
open Go Go.RowKit Dig

theorem cmp_le {a b : Int} (h : a ≤ b) : ¬ 0 < (cmpZ a b).1 := by
  unfold cmpZ; dsimp only; split
  · omega
  · split <;> omega
theorem cmp_gt {a b : Int} (h : b < a) : (cmpZ a b).1 = 1 := by
  unfold cmpZ; dsimp only; rw [if_neg (by omega), if_neg (by omega)]
theorem sq_le {r m : Nat} (h : r * r ≤ m) : (r : Int) * r ≤ m := by
  have h1 : ((r * r : Nat) : Int) ≤ m := by omega
  rwa [Int.natCast_mul] at h1
theorem sq_lt {r m : Nat} (h : m < (r + 1) * (r + 1)) : (m : Int) < ((r : Int) + 1) * ((r : Int) + 1) := by
  have h1 : (m : Int) < (((r + 1) * (r + 1) : Nat) : Int) := by omega
  rwa [Int.natCast_mul, Int.natCast_add] at h1
theorem root_sq (m : Nat) : rootN (((m : Int) * m).natAbs) = m := by
  rw [Int.natAbs_mul, Int.natAbs_natCast]
  have h : m * m < (m + 1) * (m + 1) := Nat.mul_lt_mul'' (by omega) (by omega)
  exact (rootN_eq (Nat.le_refl _) h).symm

set_option maxRecDepth 100000 in
set_option maxHeartbeats 4000000 in
theorem LongSquares_any (w : World) (G : Glob w) (neg : Bool) (low : Int) (wv : Value) (ws : List Nat) (hlow0 : 0 ≤ low) (hlow1 : low ≤ 255) (h : RW w w.heap.size wv ws) :
    Calls Tryz.prog 13 #[.agg #[.bool neg, .int .u8 low, wv]] w fun e w' => Below w.heap.size w w' ∧ e = .returned (.bool true) := by
  replace h := Lib.hid h
  obtain ⟨A, c, hwv, -⟩ := h.out
  subst hwv
  obtain ⟨M, hM⟩ : ∃ M : Int, M = ((sgn neg (val (draftDs (low.toNat % 8) 40 ws))).natAbs : Int) := ⟨_, rfl⟩
  obtain ⟨R, hR⟩ : ∃ R : Int, R = (rootN M.natAbs : Int) := ⟨_, rfl⟩
  obtain ⟨S, hS⟩ : ∃ S : Int, S = R * R := ⟨_, rfl⟩
  obtain ⟨O, hO⟩ : ∃ O : Int, O = 1 := ⟨_, rfl⟩
  obtain ⟨N, hN⟩ : ∃ N : Int, N = R + O := ⟨_, rfl⟩
  obtain ⟨T, hT⟩ : ∃ T : Int, T = N * N := ⟨_, rfl⟩
  obtain ⟨Q, hQ⟩ : ∃ Q : Int, Q = M * M := ⟨_, rfl⟩
  have hlM : Len 47 M := by rw [hM, Len, Int.natAbs_natCast]; exact draft_fit (by omega)
  have hM0 : 0 ≤ M := by rw [hM]; omega
  have hlR : Len 47 R := by rw [hR]; exact hlM.le (by rw [Int.natAbs_natCast]; exact rootN_le _)
  have hSM : S ≤ M := by rw [hS, hR]; have h1 := sq_le (rootN_spec M.natAbs).1; omega
  have hMT : M < T := by rw [hT, hN, hO, hR]; have h1 := sq_lt (rootN_spec M.natAbs).2; omega
  have hQR : (rootN Q.natAbs : Int) = M := by rw [hQ]; have h1 := root_sq M.natAbs; rw [show ((M.natAbs : Int)) = M by omega] at h1; rw [h1]; omega
  have hQ0 : 0 ≤ Q := by rw [hQ]; exact Int.mul_nonneg hM0 hM0
  have hlS : Len 94 S := by rw [hS]; exact hlR.mul hlR
  have hlN : Len 48 N := by rw [hN, hO]; exact hlR.add ((Len.small (z := 1) (by decide)).mono (by omega))
  have hlT : Len 96 T := by rw [hT]; exact hlN.mul hlN
  have hlQ : Len 94 Q := by rw [hQ]; exact hlM.mul hlM
  have hlO : Len 1 O := by rw [hO]; exact Len.small (by decide)
  have HM := Lib.hid hM
  have HFM : Hid (Fit M) := Lib.hid (hlM.fit (by omega))
  clear hM hlM
  have HR := Lib.hid hR
  have HFR : Hid (Fit R) := Lib.hid (hlR.fit (by omega))
  clear hR hlR
  have HS := Lib.hid hS
  have HFS : Hid (Fit S) := Lib.hid (hlS.fit (by omega))
  clear hS hlS
  have HO := Lib.hid hO
  have HFO : Hid (Fit O) := Lib.hid (hlO.fit (by omega))
  clear hO hlO
  have HN := Lib.hid hN
  have HFN : Hid (Fit N) := Lib.hid (hlN.fit (by omega))
  clear hN hlN
  have HT := Lib.hid hT
  have HFT : Hid (Fit T) := Lib.hid (hlT.fit (by omega))
  clear hT hlT
  have HQ := Lib.hid hQ
  have HFQ : Hid (Fit Q) := Lib.hid (hlQ.fit (by omega))
  clear hQ hlQ
  have HQR := Lib.hid hQR
  have HSM := Lib.hid hSM
  have HMT := Lib.hid hMT
  have HM0 := Lib.hid hM0
  have HQ0 := Lib.hid hQ0
  clear hQR hSM hMT hM0 hQ0
  have hbk : (w.alloc (.cells #[.bool neg, .int .u8 low, .slice A ws.length c] 27)).heap[w.heap.size]? = some (.cells #[.bool neg, .int .u8 low, .slice A ws.length c] 27 (0, 0)) := heap_alloc_new w _
  have HB0 := Lib.hid ((Below.refl w.heap.size w).alloc (Nat.le_refl _) (.cells #[.bool neg, .int .u8 low, .slice A ws.length c] 27))
  replace hbk := Lib.hid hbk
  go_enter Tryz.func13, Tryz.ntmps13
  go_wp2_with fail
  refine (works_any _ (G.step HB0.out)).mono ?_
  rintro e w1 ⟨hb1, rfl⟩
  have hbk2 := (hb1.block w.heap.size (by simp)).trans hbk.out
  have HB_2 := Lib.hid (HB0.out.trans (hb1.mono HB0.out.size))
  clear hb1
  have q0 : w1.cell? ⟨w.heap.size, 0, none⟩ = some (.bool neg) := by simp [World.cell?, hbk2]
  have q1 : w1.cell? ⟨w.heap.size, 1, none⟩ = some (.int .u8 low) := by simp [World.cell?, hbk2]
  have q2 : w1.cell? ⟨w.heap.size, 2, none⟩ = some (.slice A ws.length c) := by simp [World.cell?, hbk2]
  clear hbk hbk2
  go_wp2_with fail
  refine (Long_any _ neg low _ ws hlow0 hlow1 (h.out.step HB_2.out)).mono ?_
  rintro e w3 ⟨hb3, v1, rfl, hv1⟩
  have HB_4 := Lib.hid (HB_2.out.trans (hb3.mono HB_2.out.size))
  clear HB_2
  clear hb3
  have HV1 := Lib.hid hv1
  clear hv1 q0 q1 q2
  go_wp2_with fail
  refine (size_num _ _ _ HV1.out).mono ?_
  rintro e w6 ⟨hb6, v2, rfl, hv2⟩
  have HB_7 := Lib.hid (HB_4.out.trans (hb6.mono HB_4.out.size))
  clear HB_4
  clear hb6
  rw [← HM.out] at hv2
  clear HV1
  obtain ⟨A9, c9, rfl, -⟩ := hv2.parts
  have Hx_9 := Lib.hid hv2
  clear hv2
  go_wp2_with fail
  obtain ⟨w10, hW10⟩ : ∃ w10 : World, w10 = w6.alloc (.cells #[.bool (decide (M < 0)), .slice A9 (dig (M).natAbs).length c9] 24) := ⟨_, rfl⟩
  rw [← hW10]
  have hal11 : Below w6.heap.size w6 w10 := by rw [hW10]; exact (Below.refl _ _).alloc (Nat.le_refl _) _
  have La_11 : LB w10 (w6.heap.size) (.bool (decide (M < 0))) (.slice A9 (dig (M).natAbs).length c9) := by rw [hW10]; exact LB.new' (show w6.heap.size = w6.heap.size from (rfl).symm)
  have ge_a : w.heap.size ≤ w6.heap.size := by have h1 : w.heap.size ≤ w6.heap.size := HB_7.out.size; have h2 : w6.heap.size = w6.heap.size := rfl; omega
  have HSZ_11 := Lib.hid (show w10.heap.size = w6.heap.size + 1 by rw [hW10]; have h2 : w6.heap.size = w6.heap.size := rfl; simp <;> omega)
  have HB_12 := Lib.hid (HB_7.out.trans (hal11.mono HB_7.out.size))
  clear HB_7
  have Ha_tmp_13 := Lib.hid (Hx_9.out.step hal11)
  clear Hx_9
  clear hal11 hW10
  have q14_0 := La_11.cell0
  have q14_1 := La_11.cell1
  have q14_2 := La_11.frozen 0
  have q14_3 := La_11.frozen 1
  have q14_lt := La_11.lt
  refine (Sqrt_num Ha_tmp_13.out HFM.out HM0.out).mono ?_
  rintro e w16 ⟨hb16, v15, rfl, hv15⟩
  have HB_17 := Lib.hid (HB_12.out.trans (hb16.mono HB_12.out.size))
  clear HB_12
  have La_18 := La_11.step hb16
  clear La_11
  have Ha_18 := Lib.hid (Ha_tmp_13.out.step hb16)
  clear Ha_tmp_13
  clear hb16
  clear HSZ_11
  clear q14_0 q14_1 q14_2 q14_3 q14_lt
  rw [← HR.out] at hv15
  obtain ⟨A19, c19, rfl, -⟩ := hv15.parts
  have Ht_19 := Lib.hid hv15
  clear hv15
  have q20_0 := La_18.cell0
  have q20_1 := La_18.cell1
  have q20_2 := La_18.frozen 0
  have q20_3 := La_18.frozen 1
  have q20_lt := La_18.lt
  go_wp2_with fail
  clear q20_0 q20_1 q20_2 q20_3 q20_lt
  obtain ⟨w21, hW21⟩ : ∃ w21 : World, w21 = w16.alloc (.cells #[.bool (decide (R < 0)), .slice A19 (dig (R).natAbs).length c19] 24) := ⟨_, rfl⟩
  rw [← hW21]
  have hal22 : Below w16.heap.size w16 w21 := by rw [hW21]; exact (Below.refl _ _).alloc (Nat.le_refl _) _
  have Lr_22 : LB w21 (w16.heap.size) (.bool (decide (R < 0))) (.slice A19 (dig (R).natAbs).length c19) := by rw [hW21]; exact LB.new' (show w16.heap.size = w16.heap.size from (rfl).symm)
  have ne_a_r : w6.heap.size ≠ w16.heap.size := Nat.ne_of_lt (by have h1 := La_18.lt; have h2 : w16.heap.size = w16.heap.size := rfl; omega)
  have ge_r : w.heap.size ≤ w16.heap.size := by have h1 : w.heap.size ≤ w16.heap.size := HB_17.out.size; have h2 : w16.heap.size = w16.heap.size := rfl; omega
  have HSZ_22 := Lib.hid (show w21.heap.size = w16.heap.size + 1 by rw [hW21]; have h2 : w16.heap.size = w16.heap.size := rfl; simp <;> omega)
  have HB_23 := Lib.hid (HB_17.out.trans (hal22.mono HB_17.out.size))
  clear HB_17
  have La_24 := La_18.step hal22
  clear La_18
  have Ha_24 := Lib.hid (Ha_18.out.step hal22)
  clear Ha_18
  have Hr_tmp_24 := Lib.hid (Ht_19.out.step hal22)
  clear Ht_19
  clear hal22 hW21
  have q25_0 := Lr_22.cell0
  have q25_1 := Lr_22.cell1
  have q25_2 := Lr_22.frozen 0
  have q25_3 := Lr_22.frozen 1
  have q25_lt := Lr_22.lt
  refine (Mul_num Hr_tmp_24.out Hr_tmp_24.out HFR.out HFR.out (by rw [← HS.out]; exact HFS.out)).mono ?_
  rintro e w27 ⟨hb27, v26, rfl, hv26⟩
  have HB_28 := Lib.hid (HB_23.out.trans (hb27.mono HB_23.out.size))
  clear HB_23
  have La_29 := La_24.step hb27
  clear La_24
  have Lr_29 := Lr_22.step hb27
  clear Lr_22
  have Ha_29 := Lib.hid (Ha_24.out.step hb27)
  clear Ha_24
  have Hr_29 := Lib.hid (Hr_tmp_24.out.step hb27)
  clear Hr_tmp_24
  clear hb27
  clear HSZ_22
  clear q25_0 q25_1 q25_2 q25_3 q25_lt
  rw [← HS.out] at hv26
  obtain ⟨A30, c30, rfl, -⟩ := hv26.parts
  have Ht_30 := Lib.hid hv26
  clear hv26
  have q31_0 := La_29.cell0
  have q31_1 := La_29.cell1
  have q31_2 := La_29.frozen 0
  have q31_3 := La_29.frozen 1
  have q31_lt := La_29.lt
  have q32_0 := Lr_29.cell0
  have q32_1 := Lr_29.cell1
  have q32_2 := Lr_29.frozen 0
  have q32_3 := Lr_29.frozen 1
  have q32_lt := Lr_29.lt
  go_wp2_with fail
  clear q31_0 q31_1 q31_2 q31_3 q31_lt q32_0 q32_1 q32_2 q32_3 q32_lt
  obtain ⟨w33, hW33⟩ : ∃ w33 : World, w33 = w27.alloc (.cells #[.bool (decide (S < 0)), .slice A30 (dig (S).natAbs).length c30] 24) := ⟨_, rfl⟩
  rw [← hW33]
  have hal34 : Below w27.heap.size w27 w33 := by rw [hW33]; exact (Below.refl _ _).alloc (Nat.le_refl _) _
  have Ls_34 : LB w33 (w27.heap.size) (.bool (decide (S < 0))) (.slice A30 (dig (S).natAbs).length c30) := by rw [hW33]; exact LB.new' (show w27.heap.size = w27.heap.size from (rfl).symm)
  have ne_a_s : w6.heap.size ≠ w27.heap.size := Nat.ne_of_lt (by have h1 := La_29.lt; have h2 : w27.heap.size = w27.heap.size := rfl; omega)
  have ne_r_s : w16.heap.size ≠ w27.heap.size := Nat.ne_of_lt (by have h1 := Lr_29.lt; have h2 : w27.heap.size = w27.heap.size := rfl; omega)
  have ge_s : w.heap.size ≤ w27.heap.size := by have h1 : w.heap.size ≤ w27.heap.size := HB_28.out.size; have h2 : w27.heap.size = w27.heap.size := rfl; omega
  have HSZ_34 := Lib.hid (show w33.heap.size = w27.heap.size + 1 by rw [hW33]; have h2 : w27.heap.size = w27.heap.size := rfl; simp <;> omega)
  have HB_35 := Lib.hid (HB_28.out.trans (hal34.mono HB_28.out.size))
  clear HB_28
  have La_36 := La_29.step hal34
  clear La_29
  have Lr_36 := Lr_29.step hal34
  clear Lr_29
  have Ha_36 := Lib.hid (Ha_29.out.step hal34)
  clear Ha_29
  have Hr_36 := Lib.hid (Hr_29.out.step hal34)
  clear Hr_29
  have Hs_tmp_36 := Lib.hid (Ht_30.out.step hal34)
  clear Ht_30
  clear hal34 hW33
  have q37_0 := La_36.cell0
  have q37_1 := La_36.cell1
  have q37_2 := La_36.frozen 0
  have q37_3 := La_36.frozen 1
  have q37_lt := La_36.lt
  have q38_0 := Ls_34.cell0
  have q38_1 := Ls_34.cell1
  have q38_2 := Ls_34.frozen 0
  have q38_3 := Ls_34.frozen 1
  have q38_lt := Ls_34.lt
  refine (Cmp_num Hs_tmp_36.out Ha_36.out HFS.out HFM.out).mono ?_
  rintro e w39 ⟨hb39, rfl⟩
  have HB_40 := Lib.hid (HB_35.out.trans (hb39.mono HB_35.out.size))
  clear HB_35
  have La_41 := La_36.step hb39
  clear La_36
  have Lr_41 := Lr_36.step hb39
  clear Lr_36
  have Ls_41 := Ls_34.step hb39
  clear Ls_34
  have Ha_41 := Lib.hid (Ha_36.out.step hb39)
  clear Ha_36
  have Hr_41 := Lib.hid (Hr_36.out.step hb39)
  clear Hr_36
  have Hs_41 := Lib.hid (Hs_tmp_36.out.step hb39)
  clear Hs_tmp_36
  clear hb39
  clear HSZ_34
  clear q37_0 q37_1 q37_2 q37_3 q37_lt q38_0 q38_1 q38_2 q38_3 q38_lt
  have hc := cmp_le HSM.out
  generalize (cmpZ S M).1 = cc at *
  have q42_0 := Lr_41.cell0
  have q42_1 := Lr_41.cell1
  have q42_2 := Lr_41.frozen 0
  have q42_3 := Lr_41.frozen 1
  have q42_lt := Lr_41.lt
  go_upto_region 9 with (fail)
  clear hc
  have HFR1 := Lib.hid (show Fit (R + O) by rw [← HN.out]; exact HFN.out)
  go_cut [5, 10] (fun s5 sn wx => s5 = .int .i64 0 ∧ ∃ (bn : Nat) (An : Option Addr) (cn : Nat), sn = .pointer (some ⟨bn, 0, none⟩) ∧ LB wx bn (.bool (decide (N < 0))) (.slice An (dig (N).natAbs).length cn) ∧ Hid (LV wx wx.heap.size (.agg #[.bool (decide (N < 0)), .slice An (dig (N).natAbs).length cn]) (N)) ∧ LB wx (w6.heap.size) (.bool (decide (M < 0))) (.slice A9 (dig (M).natAbs).length c9) ∧ Hid (LV wx wx.heap.size (.agg #[.bool (decide (M < 0)), .slice A9 (dig (M).natAbs).length c9]) (M)) ∧ Hid (w6.heap.size ≠ bn) ∧ LB wx (w16.heap.size) (.bool (decide (R < 0))) (.slice A19 (dig (R).natAbs).length c19) ∧ Hid (LV wx wx.heap.size (.agg #[.bool (decide (R < 0)), .slice A19 (dig (R).natAbs).length c19]) (R)) ∧ Hid (w16.heap.size ≠ bn) ∧ LB wx (w27.heap.size) (.bool (decide (S < 0))) (.slice A30 (dig (S).natAbs).length c30) ∧ Hid (LV wx wx.heap.size (.agg #[.bool (decide (S < 0)), .slice A30 (dig (S).natAbs).length c30]) (S)) ∧ Hid (w27.heap.size ≠ bn) ∧ Hid (w.heap.size ≤ bn) ∧ Hid (Below w.heap.size w wx))
  case first =>
    have tok43 : True := trivial
    have tok44 : True := trivial
    go_region_held3 (fun w' => w'.cell? ⟨w16.heap.size, 0, none⟩ = some (.bool (decide (R < 0))) ∧ w'.cell? ⟨w16.heap.size, 1, none⟩ = some (.slice A19 (dig (R).natAbs).length c19)) (first
      | (exact ⟨(LB.drew Lr_41).cell0, (LB.drew Lr_41).cell1⟩)
      | (exact ⟨Lr_41.cell0, Lr_41.cell1⟩)
      | (exact ⟨Lr_47.cell0, Lr_47.cell1⟩)
      | (exact ⟨(LB.alloc Lr_47 _).cell0, (LB.alloc Lr_47 _).cell1⟩)
      | (exact ⟨Lr_51.cell0, Lr_51.cell1⟩)
      | (exact ⟨(LB.alloc Lr_51 _).cell0, (LB.alloc Lr_51 _).cell1⟩)
      | (exact ⟨(LB.far (LB.far Lr_51 (p := ⟨w39.heap.size, 0, none⟩) nz45_r _) (p := ⟨w39.heap.size, 1, none⟩) nz45_r _).cell0, (LB.far (LB.far Lr_51 (p := ⟨w39.heap.size, 0, none⟩) nz45_r _) (p := ⟨w39.heap.size, 1, none⟩) nz45_r _).cell1⟩)
      | (exact ⟨(LB.far (LB.far Lr_51 (p := ⟨u45.heap.size, 0, none⟩) nz49_r _) (p := ⟨u45.heap.size, 1, none⟩) nz49_r _).cell0, (LB.far (LB.far Lr_51 (p := ⟨u45.heap.size, 0, none⟩) nz49_r _) (p := ⟨u45.heap.size, 1, none⟩) nz49_r _).cell1⟩)
      | go_keep) (first
      | (go_at_call 49; clear tok43; ((with_reducible refine (Of_any _ 1 (by decide) (by decide)).mono ?_); rintro e u45 ⟨hb45, v5, rfl, hv5⟩; have nz45_a := Nat.ne_of_lt (LB.lt La_41); have nz45_r := Nat.ne_of_lt (LB.lt Lr_41); have nz45_s := Nat.ne_of_lt (LB.lt Ls_41); have gz45 := HB_40.out.size; have HB_46 := Lib.hid (show Below w.heap.size w u45 from by first | exact below_call0 HB_40.out hb45 | exact below_call_drew0 HB_40.out hb45 | exact below_call HB_40.out hb45 | exact below_call_drew HB_40.out hb45); clear HB_40; have La_47 := LB.step (b := w6.heap.size) (x := .bool (decide (M < 0))) (y := .slice A9 (dig (M).natAbs).length c9) (by first | exact La_41 | exact LB.drew La_41 | exact LB.alloc La_41 _ | exact LB.drew (LB.alloc La_41 _)) hb45; clear La_41; have Lr_47 := LB.step (b := w16.heap.size) (x := .bool (decide (R < 0))) (y := .slice A19 (dig (R).natAbs).length c19) (by first | exact Lr_41 | exact LB.drew Lr_41 | exact LB.alloc Lr_41 _ | exact LB.drew (LB.alloc Lr_41 _)) hb45; clear Lr_41; have Ls_47 := LB.step (b := w27.heap.size) (x := .bool (decide (S < 0))) (y := .slice A30 (dig (S).natAbs).length c30) (by first | exact Ls_41 | exact LB.drew Ls_41 | exact LB.alloc Ls_41 _ | exact LB.drew (LB.alloc Ls_41 _)) hb45; clear Ls_41; have Ha_47 := Lib.hid (LV.step (v := .agg #[.bool (decide (M < 0)), .slice A9 (dig (M).natAbs).length c9]) (z := M) (by first | exact Ha_41.out | exact LV.drew1 Ha_41.out | exact LV.alloc Ha_41.out _ | exact LV.drew1 (LV.alloc Ha_41.out _)) hb45); clear Ha_41; have Hr_47 := Lib.hid (LV.step (v := .agg #[.bool (decide (R < 0)), .slice A19 (dig (R).natAbs).length c19]) (z := R) (by first | exact Hr_41.out | exact LV.drew1 Hr_41.out | exact LV.alloc Hr_41.out _ | exact LV.drew1 (LV.alloc Hr_41.out _)) hb45); clear Hr_41; have Hs_47 := Lib.hid (LV.step (v := .agg #[.bool (decide (S < 0)), .slice A30 (dig (S).natAbs).length c30]) (z := S) (by first | exact Hs_41.out | exact LV.drew1 Hs_41.out | exact LV.alloc Hs_41.out _ | exact LV.drew1 (LV.alloc Hs_41.out _)) hb45); clear Hs_41; (try (have Lz : LB u45 w39.heap.size (.bool false) (.slice none 0 0) := LB.step (show LB (w39.alloc (.cells #[.bool false, .slice none 0 0] 24)) w39.heap.size (.bool false) (.slice none 0 0) from LB.new _ _ _) hb45)); (try (have Lz : LB u45 w39.heap.size (.bool false) (.slice none 0 0) := LB.step (show LB (w39.alloc (.cells #[.bool false, .slice none 0 0] 24)).drew w39.heap.size (.bool false) (.slice none 0 0) from LB.new _ _ _) hb45)); (try (have qz0 := Lz.cell0; have qz1 := Lz.cell1; have qz2 := Lz.frozen 0; have qz3 := Lz.frozen 1; have qz4 := Lz.lt)); rw [← HO.out] at hv5; obtain ⟨A5, c5, rfl, -⟩ := hv5.parts; have H5 := Lib.hid hv5; clear hv5; have q48_0 := Lr_47.cell0; have q48_1 := Lr_47.cell1; have q48_2 := Lr_47.frozen 0; have q48_3 := Lr_47.frozen 1; have q48_lt := Lr_47.lt; clear hb45))
      | (go_at_call 43; clear tok44; ((with_reducible refine (Add_num (by first | exact Hr_47.out | exact LV.drew1 Hr_47.out | exact LV.alloc Hr_47.out _ | exact LV.drew1 (LV.alloc Hr_47.out _)) (by first | exact H5.out | exact LV.drew1 H5.out | exact LV.alloc H5.out _ | exact LV.drew1 (LV.alloc H5.out _)) HFR.out HFO.out HFR1.out).mono ?_); rintro e u49 ⟨hb49, v6, rfl, hv6⟩; have nz49_a := Nat.ne_of_lt (LB.lt La_47); have nz49_r := Nat.ne_of_lt (LB.lt Lr_47); have nz49_s := Nat.ne_of_lt (LB.lt Ls_47); have gz49 := HB_46.out.size; have HB_50 := Lib.hid (show Below w.heap.size w u49 from by first | exact below_call0 HB_46.out hb49 | exact below_call_drew0 HB_46.out hb49 | exact below_call HB_46.out hb49 | exact below_call_drew HB_46.out hb49); clear HB_46; have La_51 := LB.step (b := w6.heap.size) (x := .bool (decide (M < 0))) (y := .slice A9 (dig (M).natAbs).length c9) (by first | exact La_47 | exact LB.drew La_47 | exact LB.alloc La_47 _ | exact LB.drew (LB.alloc La_47 _)) hb49; clear La_47; have Lr_51 := LB.step (b := w16.heap.size) (x := .bool (decide (R < 0))) (y := .slice A19 (dig (R).natAbs).length c19) (by first | exact Lr_47 | exact LB.drew Lr_47 | exact LB.alloc Lr_47 _ | exact LB.drew (LB.alloc Lr_47 _)) hb49; clear Lr_47; have Ls_51 := LB.step (b := w27.heap.size) (x := .bool (decide (S < 0))) (y := .slice A30 (dig (S).natAbs).length c30) (by first | exact Ls_47 | exact LB.drew Ls_47 | exact LB.alloc Ls_47 _ | exact LB.drew (LB.alloc Ls_47 _)) hb49; clear Ls_47; have Ha_51 := Lib.hid (LV.step (v := .agg #[.bool (decide (M < 0)), .slice A9 (dig (M).natAbs).length c9]) (z := M) (by first | exact Ha_47.out | exact LV.drew1 Ha_47.out | exact LV.alloc Ha_47.out _ | exact LV.drew1 (LV.alloc Ha_47.out _)) hb49); clear Ha_47; have Hr_51 := Lib.hid (LV.step (v := .agg #[.bool (decide (R < 0)), .slice A19 (dig (R).natAbs).length c19]) (z := R) (by first | exact Hr_47.out | exact LV.drew1 Hr_47.out | exact LV.alloc Hr_47.out _ | exact LV.drew1 (LV.alloc Hr_47.out _)) hb49); clear Hr_47; have Hs_51 := Lib.hid (LV.step (v := .agg #[.bool (decide (S < 0)), .slice A30 (dig (S).natAbs).length c30]) (z := S) (by first | exact Hs_47.out | exact LV.drew1 Hs_47.out | exact LV.alloc Hs_47.out _ | exact LV.drew1 (LV.alloc Hs_47.out _)) hb49); clear Hs_47; have Hone_51 := Lib.hid (LV.step (v := .agg #[.bool (decide (O < 0)), .slice A5 (dig (O).natAbs).length c5]) (z := O) (by first | exact H5.out | exact LV.drew1 H5.out | exact LV.alloc H5.out _ | exact LV.drew1 (LV.alloc H5.out _)) hb49); clear H5; (try (have Lz := LB.step Lz hb49)); (try (have Lz : LB u49 u45.heap.size (.bool false) (.slice none 0 0) := LB.step (show LB (u45.alloc (.cells #[.bool false, .slice none 0 0] 24)) u45.heap.size (.bool false) (.slice none 0 0) from LB.new _ _ _) hb49)); (try (have Lz : LB u49 u45.heap.size (.bool false) (.slice none 0 0) := LB.step (show LB (u45.alloc (.cells #[.bool false, .slice none 0 0] 24)).drew u45.heap.size (.bool false) (.slice none 0 0) from LB.new _ _ _) hb49)); (try (have qz0 := Lz.cell0; have qz1 := Lz.cell1; have qz2 := Lz.frozen 0; have qz3 := Lz.frozen 1; have qz4 := Lz.lt)); rw [← HN.out] at hv6; obtain ⟨A6, c6, rfl, -⟩ := hv6.parts; have H6 := Lib.hid hv6; clear hv6; have q52_0 := Lr_51.cell0; have q52_1 := Lr_51.cell1; have q52_2 := Lr_51.frozen 0; have q52_3 := Lr_51.frozen 1; have q52_lt := Lr_51.lt; clear hb49)))
    all_goals (go_wp2; go_meet; (first | exact ⟨rfl, w39.heap.size, A6, c6, rfl, (Lz.set0 _).set1 _, Lib.hid (LV.setLB H6.out Lz _ _ rfl rfl), (LB.far (LB.far La_51 (p := ⟨w39.heap.size, 0, none⟩) nz45_a _) (p := ⟨w39.heap.size, 1, none⟩) nz45_a _), Lib.hid (LV.setLB Ha_51.out Lz _ _ rfl rfl), Lib.hid nz45_a, (LB.far (LB.far Lr_51 (p := ⟨w39.heap.size, 0, none⟩) nz45_r _) (p := ⟨w39.heap.size, 1, none⟩) nz45_r _), Lib.hid (LV.setLB Hr_51.out Lz _ _ rfl rfl), Lib.hid nz45_r, (LB.far (LB.far Ls_51 (p := ⟨w39.heap.size, 0, none⟩) nz45_s _) (p := ⟨w39.heap.size, 1, none⟩) nz45_s _), Lib.hid (LV.setLB Hs_51.out Lz _ _ rfl rfl), Lib.hid nz45_s, Lib.hid gz45, Lib.hid ((HB_50.out.setCell (p := ⟨w39.heap.size, 0, none⟩) gz45 _).setCell (p := ⟨w39.heap.size, 1, none⟩) gz45 _)⟩ | exact ⟨rfl, u45.heap.size, A6, c6, rfl, (Lz.set0 _).set1 _, Lib.hid (LV.setLB H6.out Lz _ _ rfl rfl), (LB.far (LB.far La_51 (p := ⟨u45.heap.size, 0, none⟩) nz49_a _) (p := ⟨u45.heap.size, 1, none⟩) nz49_a _), Lib.hid (LV.setLB Ha_51.out Lz _ _ rfl rfl), Lib.hid nz49_a, (LB.far (LB.far Lr_51 (p := ⟨u45.heap.size, 0, none⟩) nz49_r _) (p := ⟨u45.heap.size, 1, none⟩) nz49_r _), Lib.hid (LV.setLB Hr_51.out Lz _ _ rfl rfl), Lib.hid nz49_r, (LB.far (LB.far Ls_51 (p := ⟨u45.heap.size, 0, none⟩) nz49_s _) (p := ⟨u45.heap.size, 1, none⟩) nz49_s _), Lib.hid (LV.setLB Hs_51.out Lz _ _ rfl rfl), Lib.hid nz49_s, Lib.hid gz49, Lib.hid ((HB_50.out.setCell (p := ⟨u45.heap.size, 0, none⟩) gz49 _).setCell (p := ⟨u45.heap.size, 1, none⟩) gz49 _)⟩ | exact ⟨rfl, u49.heap.size, A6, c6, rfl, LB.new _ _ _, Lib.hid (LV.alloc H6.out _), LB.alloc La_51 _, Lib.hid (LV.alloc Ha_51.out _), Lib.hid (Nat.ne_of_lt (LB.lt La_51)), LB.alloc Lr_51 _, Lib.hid (LV.alloc Hr_51.out _), Lib.hid (Nat.ne_of_lt (LB.lt Lr_51)), LB.alloc Ls_51 _, Lib.hid (LV.alloc Hs_51.out _), Lib.hid (Nat.ne_of_lt (LB.lt Ls_51)), Lib.hid HB_50.out.size, Lib.hid (HB_50.out.alloc HB_50.out.size _)⟩))
  case rest =>
    obtain ⟨rfl, hcut⟩ := hcut
    obtain ⟨bn, An, cn, rfl, Ln_53, Hn_53, La_53, Ha_53, hne_a, Lr_53, Hr_53, hne_r, Ls_53, Hs_53, hne_s, hge_n, HB_53⟩ := hcut
    have ne_a_n := hne_a.out
    have ne_r_n := hne_r.out
    have ne_s_n := hne_s.out
    have ge_n := hge_n.out
    have q54_0 := Ln_53.cell0
    have q54_1 := Ln_53.cell1
    have q54_2 := Ln_53.frozen 0
    have q54_3 := Ln_53.frozen 1
    have q54_lt := Ln_53.lt
    go_wp2_with fail
    refine (Mul_num Hn_53.out Hn_53.out HFN.out HFN.out (by rw [← HT.out]; exact HFT.out)).mono ?_
    rintro e w56 ⟨hb56, v55, rfl, hv55⟩
    have HB_57 := Lib.hid (HB_53.out.trans (hb56.mono HB_53.out.size))
    clear HB_53
    have La_58 := La_53.step hb56
    clear La_53
    have Lr_58 := Lr_53.step hb56
    clear Lr_53
    have Ls_58 := Ls_53.step hb56
    clear Ls_53
    have Ln_58 := Ln_53.step hb56
    clear Ln_53
    have Ha_58 := Lib.hid (Ha_53.out.step hb56)
    clear Ha_53
    have Hr_58 := Lib.hid (Hr_53.out.step hb56)
    clear Hr_53
    have Hs_58 := Lib.hid (Hs_53.out.step hb56)
    clear Hs_53
    have Hn_58 := Lib.hid (Hn_53.out.step hb56)
    clear Hn_53
    clear hb56
    clear q42_0 q42_1 q42_2 q42_3 q42_lt q54_0 q54_1 q54_2 q54_3 q54_lt
    rw [← HT.out] at hv55
    obtain ⟨A59, c59, rfl, -⟩ := hv55.parts
    have Ht_59 := Lib.hid hv55
    clear hv55
    have q60_0 := La_58.cell0
    have q60_1 := La_58.cell1
    have q60_2 := La_58.frozen 0
    have q60_3 := La_58.frozen 1
    have q60_lt := La_58.lt
    have q61_0 := Lr_58.cell0
    have q61_1 := Lr_58.cell1
    have q61_2 := Lr_58.frozen 0
    have q61_3 := Lr_58.frozen 1
    have q61_lt := Lr_58.lt
    have q62_0 := Ls_58.cell0
    have q62_1 := Ls_58.cell1
    have q62_2 := Ls_58.frozen 0
    have q62_3 := Ls_58.frozen 1
    have q62_lt := Ls_58.lt
    have q63_0 := Ln_58.cell0
    have q63_1 := Ln_58.cell1
    have q63_2 := Ln_58.frozen 0
    have q63_3 := Ln_58.frozen 1
    have q63_lt := Ln_58.lt
    go_wp2_with fail
    clear q60_0 q60_1 q60_2 q60_3 q60_lt q61_0 q61_1 q61_2 q61_3 q61_lt q62_0 q62_1 q62_2 q62_3 q62_lt q63_0 q63_1 q63_2 q63_3 q63_lt
    obtain ⟨w64, hW64⟩ : ∃ w64 : World, w64 = (w56.setCell ⟨w27.heap.size, 0, none⟩ (.bool (decide (T < 0)))).setCell ⟨w27.heap.size, 1, none⟩ (.slice A59 (dig (T).natAbs).length c59) := ⟨_, rfl⟩
    rw [← hW64]
    have LX65 := Ls_58
    have HB_66 := Lib.hid (show Below w.heap.size w w64 by rw [hW64]; exact (HB_57.out.setCell (p := ⟨w27.heap.size, 0, none⟩) ge_s (.bool (decide (T < 0)))).setCell (p := ⟨w27.heap.size, 1, none⟩) ge_s (.slice A59 (dig (T).natAbs).length c59))
    clear HB_57
    have HSZ_65 := Lib.hid (show w64.heap.size = w56.heap.size by rw [hW64]; simp [World.setCell])
    have La_67 := show LB w64 _ _ _ by rw [hW64]; exact (La_58.far (p := ⟨w27.heap.size, 0, none⟩) ne_a_s (.bool (decide (T < 0)))).far (p := ⟨w27.heap.size, 1, none⟩) ne_a_s (.slice A59 (dig (T).natAbs).length c59)
    clear La_58
    have Lr_67 := show LB w64 _ _ _ by rw [hW64]; exact (Lr_58.far (p := ⟨w27.heap.size, 0, none⟩) ne_r_s (.bool (decide (T < 0)))).far (p := ⟨w27.heap.size, 1, none⟩) ne_r_s (.slice A59 (dig (T).natAbs).length c59)
    clear Lr_58
    have Ls_67 := show LB w64 _ _ _ by rw [hW64]; exact (LX65.set0 (.bool (decide (T < 0)))).set1 (.slice A59 (dig (T).natAbs).length c59)
    clear Ls_58
    have Ln_67 := show LB w64 _ _ _ by rw [hW64]; exact (Ln_58.far (p := ⟨w27.heap.size, 0, none⟩) ne_s_n.symm (.bool (decide (T < 0)))).far (p := ⟨w27.heap.size, 1, none⟩) ne_s_n.symm (.slice A59 (dig (T).natAbs).length c59)
    clear Ln_58
    have Ha_67 := Lib.hid (show LV w64 w64.heap.size _ _ by rw [hW64]; exact LV.setLB Ha_58.out LX65 (.bool (decide (T < 0))) (.slice A59 (dig (T).natAbs).length c59) rfl rfl)
    clear Ha_58
    have Hr_67 := Lib.hid (show LV w64 w64.heap.size _ _ by rw [hW64]; exact LV.setLB Hr_58.out LX65 (.bool (decide (T < 0))) (.slice A59 (dig (T).natAbs).length c59) rfl rfl)
    clear Hr_58
    have Hn_67 := Lib.hid (show LV w64 w64.heap.size _ _ by rw [hW64]; exact LV.setLB Hn_58.out LX65 (.bool (decide (T < 0))) (.slice A59 (dig (T).natAbs).length c59) rfl rfl)
    clear Hn_58
    have Ht_67 := Lib.hid (show LV w64 w64.heap.size _ _ by rw [hW64]; exact LV.setLB Ht_59.out LX65 (.bool (decide (T < 0))) (.slice A59 (dig (T).natAbs).length c59) rfl rfl)
    clear Ht_59
    clear LX65 hW64
    refine (Cmp_num Ht_67.out Ha_67.out HFT.out HFM.out).mono ?_
    rintro e w68 ⟨hb68, rfl⟩
    have HB_69 := Lib.hid (HB_66.out.trans (hb68.mono HB_66.out.size))
    clear HB_66
    have La_70 := La_67.step hb68
    clear La_67
    have Lr_70 := Lr_67.step hb68
    clear Lr_67
    have Ls_70 := Ls_67.step hb68
    clear Ls_67
    have Ln_70 := Ln_67.step hb68
    clear Ln_67
    have Ha_70 := Lib.hid (Ha_67.out.step hb68)
    clear Ha_67
    have Hr_70 := Lib.hid (Hr_67.out.step hb68)
    clear Hr_67
    have Hs_70 := Lib.hid (Ht_67.out.step hb68)
    clear Ht_67
    have Hn_70 := Lib.hid (Hn_67.out.step hb68)
    clear Hn_67
    clear hb68
    clear HSZ_65
    rw [cmp_gt HMT.out]
    have q71_0 := La_70.cell0
    have q71_1 := La_70.cell1
    have q71_2 := La_70.frozen 0
    have q71_3 := La_70.frozen 1
    have q71_lt := La_70.lt
    go_wp2_with fail
    refine (Mul_num Ha_70.out Ha_70.out HFM.out HFM.out (by rw [← HQ.out]; exact HFQ.out)).mono ?_
    rintro e w73 ⟨hb73, v72, rfl, hv72⟩
    have HB_74 := Lib.hid (HB_69.out.trans (hb73.mono HB_69.out.size))
    clear HB_69
    have La_75 := La_70.step hb73
    clear La_70
    have Lr_75 := Lr_70.step hb73
    clear Lr_70
    have Ls_75 := Ls_70.step hb73
    clear Ls_70
    have Ln_75 := Ln_70.step hb73
    clear Ln_70
    have Ha_75 := Lib.hid (Ha_70.out.step hb73)
    clear Ha_70
    have Hr_75 := Lib.hid (Hr_70.out.step hb73)
    clear Hr_70
    have Hs_75 := Lib.hid (Hs_70.out.step hb73)
    clear Hs_70
    have Hn_75 := Lib.hid (Hn_70.out.step hb73)
    clear Hn_70
    clear hb73
    clear q71_0 q71_1 q71_2 q71_3 q71_lt
    rw [← HQ.out] at hv72
    obtain ⟨A76, c76, rfl, -⟩ := hv72.parts
    have Ht_76 := Lib.hid hv72
    clear hv72
    have q77_0 := La_75.cell0
    have q77_1 := La_75.cell1
    have q77_2 := La_75.frozen 0
    have q77_3 := La_75.frozen 1
    have q77_lt := La_75.lt
    have q78_0 := Lr_75.cell0
    have q78_1 := Lr_75.cell1
    have q78_2 := Lr_75.frozen 0
    have q78_3 := Lr_75.frozen 1
    have q78_lt := Lr_75.lt
    have q79_0 := Ls_75.cell0
    have q79_1 := Ls_75.cell1
    have q79_2 := Ls_75.frozen 0
    have q79_3 := Ls_75.frozen 1
    have q79_lt := Ls_75.lt
    have q80_0 := Ln_75.cell0
    have q80_1 := Ln_75.cell1
    have q80_2 := Ln_75.frozen 0
    have q80_3 := Ln_75.frozen 1
    have q80_lt := Ln_75.lt
    go_wp2_with fail
    clear q77_0 q77_1 q77_2 q77_3 q77_lt q78_0 q78_1 q78_2 q78_3 q78_lt q79_0 q79_1 q79_2 q79_3 q79_lt q80_0 q80_1 q80_2 q80_3 q80_lt
    obtain ⟨w81, hW81⟩ : ∃ w81 : World, w81 = (w73.setCell ⟨w27.heap.size, 0, none⟩ (.bool (decide (Q < 0)))).setCell ⟨w27.heap.size, 1, none⟩ (.slice A76 (dig (Q).natAbs).length c76) := ⟨_, rfl⟩
    rw [← hW81]
    have LX82 := Ls_75
    have HB_83 := Lib.hid (show Below w.heap.size w w81 by rw [hW81]; exact (HB_74.out.setCell (p := ⟨w27.heap.size, 0, none⟩) ge_s (.bool (decide (Q < 0)))).setCell (p := ⟨w27.heap.size, 1, none⟩) ge_s (.slice A76 (dig (Q).natAbs).length c76))
    clear HB_74
    have HSZ_82 := Lib.hid (show w81.heap.size = w73.heap.size by rw [hW81]; simp [World.setCell])
    have La_84 := show LB w81 _ _ _ by rw [hW81]; exact (La_75.far (p := ⟨w27.heap.size, 0, none⟩) ne_a_s (.bool (decide (Q < 0)))).far (p := ⟨w27.heap.size, 1, none⟩) ne_a_s (.slice A76 (dig (Q).natAbs).length c76)
    clear La_75
    have Lr_84 := show LB w81 _ _ _ by rw [hW81]; exact (Lr_75.far (p := ⟨w27.heap.size, 0, none⟩) ne_r_s (.bool (decide (Q < 0)))).far (p := ⟨w27.heap.size, 1, none⟩) ne_r_s (.slice A76 (dig (Q).natAbs).length c76)
    clear Lr_75
    have Ls_84 := show LB w81 _ _ _ by rw [hW81]; exact (LX82.set0 (.bool (decide (Q < 0)))).set1 (.slice A76 (dig (Q).natAbs).length c76)
    clear Ls_75
    have Ln_84 := show LB w81 _ _ _ by rw [hW81]; exact (Ln_75.far (p := ⟨w27.heap.size, 0, none⟩) ne_s_n.symm (.bool (decide (Q < 0)))).far (p := ⟨w27.heap.size, 1, none⟩) ne_s_n.symm (.slice A76 (dig (Q).natAbs).length c76)
    clear Ln_75
    have Ha_84 := Lib.hid (show LV w81 w81.heap.size _ _ by rw [hW81]; exact LV.setLB Ha_75.out LX82 (.bool (decide (Q < 0))) (.slice A76 (dig (Q).natAbs).length c76) rfl rfl)
    clear Ha_75
    have Hr_84 := Lib.hid (show LV w81 w81.heap.size _ _ by rw [hW81]; exact LV.setLB Hr_75.out LX82 (.bool (decide (Q < 0))) (.slice A76 (dig (Q).natAbs).length c76) rfl rfl)
    clear Hr_75
    have Hn_84 := Lib.hid (show LV w81 w81.heap.size _ _ by rw [hW81]; exact LV.setLB Hn_75.out LX82 (.bool (decide (Q < 0))) (.slice A76 (dig (Q).natAbs).length c76) rfl rfl)
    clear Hn_75
    have Ht_84 := Lib.hid (show LV w81 w81.heap.size _ _ by rw [hW81]; exact LV.setLB Ht_76.out LX82 (.bool (decide (Q < 0))) (.slice A76 (dig (Q).natAbs).length c76) rfl rfl)
    clear Ht_76
    clear LX82 hW81
    have q85_0 := Ls_84.cell0
    have q85_1 := Ls_84.cell1
    have q85_2 := Ls_84.frozen 0
    have q85_3 := Ls_84.frozen 1
    have q85_lt := Ls_84.lt
    refine (Sqrt_num Ht_84.out HFQ.out HQ0.out).mono ?_
    rintro e w87 ⟨hb87, v86, rfl, hv86⟩
    have HB_88 := Lib.hid (HB_83.out.trans (hb87.mono HB_83.out.size))
    clear HB_83
    have La_89 := La_84.step hb87
    clear La_84
    have Lr_89 := Lr_84.step hb87
    clear Lr_84
    have Ls_89 := Ls_84.step hb87
    clear Ls_84
    have Ln_89 := Ln_84.step hb87
    clear Ln_84
    have Ha_89 := Lib.hid (Ha_84.out.step hb87)
    clear Ha_84
    have Hr_89 := Lib.hid (Hr_84.out.step hb87)
    clear Hr_84
    have Hs_89 := Lib.hid (Ht_84.out.step hb87)
    clear Ht_84
    have Hn_89 := Lib.hid (Hn_84.out.step hb87)
    clear Hn_84
    clear hb87
    clear HSZ_82
    clear q85_0 q85_1 q85_2 q85_3 q85_lt
    rw [HQR.out] at hv86
    obtain ⟨A90, c90, rfl, -⟩ := hv86.parts
    have Ht_90 := Lib.hid hv86
    clear hv86
    have q91_0 := La_89.cell0
    have q91_1 := La_89.cell1
    have q91_2 := La_89.frozen 0
    have q91_3 := La_89.frozen 1
    have q91_lt := La_89.lt
    have q92_0 := Lr_89.cell0
    have q92_1 := Lr_89.cell1
    have q92_2 := Lr_89.frozen 0
    have q92_3 := Lr_89.frozen 1
    have q92_lt := Lr_89.lt
    have q93_0 := Ls_89.cell0
    have q93_1 := Ls_89.cell1
    have q93_2 := Ls_89.frozen 0
    have q93_3 := Ls_89.frozen 1
    have q93_lt := Ls_89.lt
    have q94_0 := Ln_89.cell0
    have q94_1 := Ln_89.cell1
    have q94_2 := Ln_89.frozen 0
    have q94_3 := Ln_89.frozen 1
    have q94_lt := Ln_89.lt
    go_wp2_with fail
    clear q91_0 q91_1 q91_2 q91_3 q91_lt q92_0 q92_1 q92_2 q92_3 q92_lt q93_0 q93_1 q93_2 q93_3 q93_lt q94_0 q94_1 q94_2 q94_3 q94_lt
    obtain ⟨w95, hW95⟩ : ∃ w95 : World, w95 = (w87.setCell ⟨w16.heap.size, 0, none⟩ (.bool (decide (M < 0)))).setCell ⟨w16.heap.size, 1, none⟩ (.slice A90 (dig (M).natAbs).length c90) := ⟨_, rfl⟩
    rw [← hW95]
    have LX96 := Lr_89
    have HB_97 := Lib.hid (show Below w.heap.size w w95 by rw [hW95]; exact (HB_88.out.setCell (p := ⟨w16.heap.size, 0, none⟩) ge_r (.bool (decide (M < 0)))).setCell (p := ⟨w16.heap.size, 1, none⟩) ge_r (.slice A90 (dig (M).natAbs).length c90))
    clear HB_88
    have HSZ_96 := Lib.hid (show w95.heap.size = w87.heap.size by rw [hW95]; simp [World.setCell])
    have La_98 := show LB w95 _ _ _ by rw [hW95]; exact (La_89.far (p := ⟨w16.heap.size, 0, none⟩) ne_a_r (.bool (decide (M < 0)))).far (p := ⟨w16.heap.size, 1, none⟩) ne_a_r (.slice A90 (dig (M).natAbs).length c90)
    clear La_89
    have Lr_98 := show LB w95 _ _ _ by rw [hW95]; exact (LX96.set0 (.bool (decide (M < 0)))).set1 (.slice A90 (dig (M).natAbs).length c90)
    clear Lr_89
    have Ls_98 := show LB w95 _ _ _ by rw [hW95]; exact (Ls_89.far (p := ⟨w16.heap.size, 0, none⟩) ne_r_s.symm (.bool (decide (M < 0)))).far (p := ⟨w16.heap.size, 1, none⟩) ne_r_s.symm (.slice A90 (dig (M).natAbs).length c90)
    clear Ls_89
    have Ln_98 := show LB w95 _ _ _ by rw [hW95]; exact (Ln_89.far (p := ⟨w16.heap.size, 0, none⟩) ne_r_n.symm (.bool (decide (M < 0)))).far (p := ⟨w16.heap.size, 1, none⟩) ne_r_n.symm (.slice A90 (dig (M).natAbs).length c90)
    clear Ln_89
    have Ha_98 := Lib.hid (show LV w95 w95.heap.size _ _ by rw [hW95]; exact LV.setLB Ha_89.out LX96 (.bool (decide (M < 0))) (.slice A90 (dig (M).natAbs).length c90) rfl rfl)
    clear Ha_89
    have Hs_98 := Lib.hid (show LV w95 w95.heap.size _ _ by rw [hW95]; exact LV.setLB Hs_89.out LX96 (.bool (decide (M < 0))) (.slice A90 (dig (M).natAbs).length c90) rfl rfl)
    clear Hs_89
    have Hn_98 := Lib.hid (show LV w95 w95.heap.size _ _ by rw [hW95]; exact LV.setLB Hn_89.out LX96 (.bool (decide (M < 0))) (.slice A90 (dig (M).natAbs).length c90) rfl rfl)
    clear Hn_89
    have Ht_98 := Lib.hid (show LV w95 w95.heap.size _ _ by rw [hW95]; exact LV.setLB Ht_90.out LX96 (.bool (decide (M < 0))) (.slice A90 (dig (M).natAbs).length c90) rfl rfl)
    clear Ht_90
    clear LX96 hW95
    refine (Same_num Ht_98.out Ha_98.out).mono ?_
    rintro e w99 ⟨hb99, rfl⟩
    have HB_100 := Lib.hid (HB_97.out.trans (hb99.mono HB_97.out.size))
    clear HB_97
    have La_101 := La_98.step hb99
    clear La_98
    have Lr_101 := Lr_98.step hb99
    clear Lr_98
    have Ls_101 := Ls_98.step hb99
    clear Ls_98
    have Ln_101 := Ln_98.step hb99
    clear Ln_98
    have Ha_101 := Lib.hid (Ha_98.out.step hb99)
    clear Ha_98
    have Hr_101 := Lib.hid (Ht_98.out.step hb99)
    clear Ht_98
    have Hs_101 := Lib.hid (Hs_98.out.step hb99)
    clear Hs_98
    have Hn_101 := Lib.hid (Hn_98.out.step hb99)
    clear Hn_98
    clear hb99
    clear HSZ_96
    rw [show decide (M = M) = true by simp]
    go_wp2
    go_ret
    exact ⟨HB_100.out, rfl⟩
end Go.Proofs.YtnbanlmkoljghaaGreatDoor
