/- The law LongDivides (written by gen_divides.py). -/
import Derived.Test.YtnbanlmkoljghaaGreatDoorRing
import Derived.Test.YtnbanlmkoljghaaGreatDoorAny
import Derived.Test.YtnbanlmkoljghaaGreatDoorSquares
namespace Go.Proofs.YtnbanlmkoljghaaGreatDoor
open Go Go.RowKit Dig

set_option maxRecDepth 100000 in
set_option maxHeartbeats 4000000 in
theorem LongDivides_any (w : World) (G : Glob w) (na : Bool) (sa : Value) (la : List Int) (nb : Bool) (sb : Value) (lb : List Int) (nx : Bool) (lx : Int) (sx : Value) (wx : List Nat) (ny : Bool) (ly : Int) (sy : Value) (wy : List Nat)
    (ha : RI w w.heap.size sa la) (hb : RI w w.heap.size sb lb) (hx0 : 0 ≤ lx) (hx1 : lx ≤ 255) (hx : RW w w.heap.size sx wx) (hy0 : 0 ≤ ly) (hy1 : ly ≤ 255) (hy : RW w w.heap.size sy wy) :
    Calls Tryz.prog 12 #[.agg #[.bool na, sa, .bool nb, sb, .bool nx, .int .u8 lx, sx, .bool ny, .int .u8 ly, sy]] w fun e w' => Below w.heap.size w w' ∧ e = .returned (.bool true) := by
  obtain ⟨X0, hX⟩ : ∃ z, sgn nx (val (draftDs (lx.toNat % 8) 40 wx)) = z := ⟨_, rfl⟩
  obtain ⟨Y0, hY⟩ : ∃ z, sgn ny (val (draftDs (ly.toNat % 8) 40 wy)) = z := ⟨_, rfl⟩
  obtain ⟨V0, hV⟩ : ∃ z, sgn ny (val (draftDs 0 3 wy)) = z := ⟨_, rfl⟩
  obtain ⟨U0, hU⟩ : ∃ z, sgn nx (val (draftDs 0 3 wx)) = z := ⟨_, rfl⟩
  have HB0 := Lib.hid ((Below.refl w.heap.size w).alloc (Nat.le_refl _) (.cells #[.bool na, sa, .bool nb, sb, .bool nx, .int .u8 lx, sx, .bool ny, .int .u8 ly, sy] 29))
  have B1 := CB.new w 29 #[.bool na, sa, .bool nb, sb, .bool nx, .int .u8 lx, sx, .bool ny, .int .u8 ly, sy]
  replace ha := Lib.hid (ha.step HB0.out)
  replace hb := Lib.hid (hb.step HB0.out)
  replace hx := Lib.hid (hx.step HB0.out)
  replace hy := Lib.hid (hy.step HB0.out)
  go_enter Tryz.func12, Tryz.ntmps12
  go_wp2_with fail
  refine (works_any _ (G.step HB0.out)).mono ?_
  rintro e w1 ⟨hb1, rfl⟩
  have HB1 := Lib.hid (HB0.out.trans (hb1.mono HB0.out.size))
  replace B1 := B1.step hb1
  replace ha := Lib.hid (ha.out.step hb1)
  replace hb := Lib.hid (hb.out.step hb1)
  replace hx := Lib.hid (hx.out.step hb1)
  replace hy := Lib.hid (hy.out.step hb1)
  clear hb1 HB0
  have q0 := B1.cell 0 rfl
  have q1 := B1.cell 1 rfl
  have q2 := B1.cell 2 rfl
  have q3 := B1.cell 3 rfl
  have q4 := B1.cell 4 rfl
  have q5 := B1.cell 5 rfl
  have q6 := B1.cell 6 rfl
  have q7 := B1.cell 7 rfl
  have q8 := B1.cell 8 rfl
  have q9 := B1.cell 9 rfl
  go_wp2_with fail
  refine (pairs_any _ na nb nx ny sa sb sx sy la lb lx ly wx wy ha.out hb.out hx0 hx1 hx.out hy0 hy1 hy.out X0 Y0 V0 U0 hX hY hV hU).mono ?_
  rintro e w2 ⟨hb2, g, s0, s1, s2, s3, s4, s5, s6, s7, rfl, -, HP⟩
  have HB2 := Lib.hid (HB1.out.trans (hb2.mono HB1.out.size))
  replace HP := Lib.hid HP
  clear q0 q1 q2 q3 q4 q5 q6 q7 q8 q9 hb2 HB1 B1 ha hb hx hy hX hY hV hU hx0 hx1 hy0 hy1
  go_wp2
  go_loopw [21] (fun i wr => ∃ k : Nat, k ≤ 4 ∧ i = .int .i64 k ∧ Hid (Below w.heap.size w wr) ∧ Hid (Pairs wr g na nb la lb X0 Y0 V0 U0 s0 s1 s2 s3 s4 s5 s6 s7)) (fun i _ => 4 - (intOf i).toNat)
  case atStart => exact ⟨0, by omega, rfl, HB2, HP⟩
  case round =>
    clear HB2 HP
    obtain ⟨k, hk, rfl, HBW, HP⟩ := hrel
    have G1 := G.step HBW.out
    by_cases hk2 : k = 4
    · subst hk2
      rw [show ((4 : Nat) : Int) = 4 from rfl]
      go_wp2
      go_ret
      exact ⟨HBW.out, rfl⟩
    obtain ⟨n1, l1, A1, c1, n2, l2, A2, c2, p0, p1, p2, p3, v1, v2⟩ := HP.out.any k (by omega)
    have hki : (k : Int) < 4 := by omega
    go_upto_region 6 with (fail)
    obtain ⟨wp, hwp⟩ : ∃ wp : World, wp = wr.alloc (.cells #[.bool n1, .slice A1 l1.length c1, .bool n2, .slice A2 l2.length c2] 33) := ⟨_, rfl⟩
    rw [← hwp]
    have hBp : Below wr.heap.size wr wp := by rw [hwp]; exact (Below.refl _ _).alloc (Nat.le_refl _) _
    have P0 : CB wp wr.heap.size 33 #[.bool n1, .slice A1 l1.length c1, .bool n2, .slice A2 l2.length c2] := by rw [hwp]; exact CB.new _ _ _
    have v1' := LR.step v1 hBp
    have v2' := LR.step v2 hBp
    have HBp := Lib.hid hBp
    have hgp := hBp.size
    clear p0 p1 p2 p3 v1 v2 hBp hwp
    have KS : ∀ w' : World, Below wp.heap.size wp w' → (Below wp.heap.size wp w' ∧ w'.cell? ⟨wr.heap.size, 0, none⟩ = some (.bool n1) ∧ w'.cell? ⟨wr.heap.size, 1, none⟩ = some (.slice A1 l1.length c1) ∧ w'.cell? ⟨wr.heap.size, 2, none⟩ = some (.bool n2) ∧ w'.cell? ⟨wr.heap.size, 3, none⟩ = some (.slice A2 l2.length c2)) := fun w' h => ⟨h, (P0.step h).cell 0 rfl, (P0.step h).cell 1 rfl, (P0.step h).cell 2 rfl, (P0.step h).cell 3 rfl⟩
    obtain ⟨-, p0, p1, p2, p3⟩ := KS wp (Below.refl _ _)
    go_cut [5, 6] (fun sa sb wx => ∃ (ba bb : Nat), sa = .pointer (some ⟨ba, 0, none⟩) ∧ sb = .pointer (some ⟨bb, 0, none⟩) ∧ LB wx ba (.bool n1) (.slice A1 l1.length c1) ∧ LB wx bb (.bool n2) (.slice A2 l2.length c2) ∧ Hid (ba ≠ bb) ∧ Hid (wr.heap.size ≤ ba) ∧ Hid (wr.heap.size ≤ bb) ∧ Hid (Below wp.heap.size wp wx))
    case first =>
      go_region_held3 (fun w' => Below wp.heap.size wp w' ∧ w'.cell? ⟨wr.heap.size, 0, none⟩ = some (.bool n1) ∧ w'.cell? ⟨wr.heap.size, 1, none⟩ = some (.slice A1 l1.length c1) ∧ w'.cell? ⟨wr.heap.size, 2, none⟩ = some (.bool n2) ∧ w'.cell? ⟨wr.heap.size, 3, none⟩ = some (.slice A2 l2.length c2)) (first
        | (refine KS _ ?_; (repeat (first | with_reducible exact Below.refl _ _ | with_reducible refine below_alloc1 ?_ _ | with_reducible refine below_set1 ?_ (by first | omega | simp) _ _ | with_reducible refine below_drew1 ?_)))
        | go_keep) (fail)
      all_goals
        go_wp2
        go_meet
        refine ⟨_, _, rfl, rfl, ?_, ?_, Lib.hid ?_, Lib.hid ?_, Lib.hid ?_, Lib.hid ?_⟩
        · (repeat (first | with_reducible exact LB.new' rfl | (with_reducible refine LB.new' ?_; simp; done) | with_reducible refine lb_put0 ?_ | with_reducible refine lb_far ?_ (by omega) | with_reducible refine LB.alloc ?_ _ | with_reducible refine LB.drew ?_))
        · (repeat (first | with_reducible exact LB.new' rfl | (with_reducible refine LB.new' ?_; simp; done) | with_reducible refine lb_put0 ?_ | with_reducible refine lb_far ?_ (by omega) | with_reducible refine LB.alloc ?_ _ | with_reducible refine LB.drew ?_))
        · omega
        · omega
        · omega
        · (repeat (first | with_reducible exact Below.refl _ _ | with_reducible refine below_alloc1 ?_ _ | with_reducible refine below_set1 ?_ (by first | omega | simp) _ _ | with_reducible refine below_drew1 ?_))
    case rest =>
      obtain ⟨ba, bb, rfl, rfl, La_0, Lb_0, nab, ga, gb, HBc⟩ := hcut
      have ne_a_b := nab.out
      have ge_a := ga.out
      have ge_b := gb.out
      have Ha_0 := Lib.hid (LR.step v1' HBc.out)
      have Hb_0 := Lib.hid (LR.step v2' HBc.out)
      have HB_0 := Lib.hid (HBp.out.trans (HBc.out.mono HBp.out.size))
      clear nab ga gb HBc HBp v1' v2' KS P0 p0 p1 p2 p3 hgp
      obtain ⟨Z, hZ⟩ : ∃ Z : Int, Z = 0 := ⟨_, rfl⟩
      have HZ := Lib.hid hZ
      clear hZ
      by_cases hv : Valid n1 l1 ∧ Valid n2 l2
      · obtain ⟨X, rfl, rfl, fX⟩ := hv.1.num
        obtain ⟨Q, rfl, rfl, fQ⟩ := hv.2.num
        have HFX : Hid (Fit X) := Lib.hid fX
        have HFQ : Hid (Fit Q) := Lib.hid fQ
        clear fX fQ hv
        rw [ni_len] at La_0 Ha_0
        rw [ni_len] at Lb_0 Hb_0
        replace Ha_0 : Hid (LV wc wc.heap.size (.agg #[.bool (decide (X < 0)), .slice A1 (dig X.natAbs).length c1]) X) := Ha_0
        replace Hb_0 : Hid (LV wc wc.heap.size (.agg #[.bool (decide (Q < 0)), .slice A2 (dig Q.natAbs).length c2]) Q) := Hb_0
        by_cases hq0 : Q = 0
        · have hQl : (dig Q.natAbs).length = 0 := by rw [hq0, show (0 : Int).natAbs = 0 from rfl, dig_zero]; rfl
          have HQ0 := Lib.hid hq0
          have HQl := Lib.hid hQl
          clear hq0 hQl
          have q1_0 := La_0.cell0
          have q1_1 := La_0.cell1
          have q1_2 := La_0.frozen 0
          have q1_3 := La_0.frozen 1
          have q1_lt := La_0.lt
          have q2_0 := Lb_0.cell0
          have q2_1 := Lb_0.cell1
          have q2_2 := Lb_0.frozen 0
          have q2_3 := Lb_0.frozen 1
          have q2_lt := Lb_0.lt
          go_wp2_with fail
          refine (Div_zero HZ.out Ha_0.out Hb_0.out HFX.out HQ0.out).mono ?_
          rintro e w3 ⟨hb3, vq, vr, rfl, hq, hr⟩
          have HB_4 := Lib.hid (HB_0.out.trans (hb3.mono HB_0.out.size))
          clear HB_0
          have La_5 := La_0.step hb3
          clear La_0
          have Lb_5 := Lb_0.step hb3
          clear Lb_0
          have Ha_5 := Lib.hid (Ha_0.out.step hb3)
          clear Ha_0
          have Hb_5 := Lib.hid (Hb_0.out.step hb3)
          clear Hb_0
          clear hb3
          clear q1_0 q1_1 q1_2 q1_3 q1_lt q2_0 q2_1 q2_2 q2_3 q2_lt
          obtain ⟨A6, c6, rfl, -⟩ := hq.parts
          have Hvq_6 := Lib.hid hq
          clear hq
          obtain ⟨A7, c7, rfl, -⟩ := hr.parts
          have Hvr_7 := Lib.hid hr
          clear hr
          have q8_0 := La_5.cell0
          have q8_1 := La_5.cell1
          have q8_2 := La_5.frozen 0
          have q8_3 := La_5.frozen 1
          have q8_lt := La_5.lt
          have q9_0 := Lb_5.cell0
          have q9_1 := Lb_5.cell1
          have q9_2 := Lb_5.frozen 0
          have q9_3 := Lb_5.frozen 1
          have q9_lt := Lb_5.lt
          go_wp2_with fail
          clear q8_0 q8_1 q8_2 q8_3 q8_lt q9_0 q9_1 q9_2 q9_3 q9_lt
          obtain ⟨w10, hW10⟩ : ∃ w10 : World, w10 = w3.alloc (.cells #[.bool (decide (Z < 0)), .slice A6 (dig (Z).natAbs).length c6] 24) := ⟨_, rfl⟩
          rw [← hW10]
          have hal11 : Below w3.heap.size w3 w10 := by rw [hW10]; exact (Below.refl _ _).alloc (Nat.le_refl _) _
          have Lq_11 : LB w10 (w3.heap.size) (.bool (decide (Z < 0))) (.slice A6 (dig (Z).natAbs).length c6) := by rw [hW10]; exact LB.new' (show w3.heap.size = w3.heap.size from (rfl).symm)
          have ne_a_q : ba ≠ w3.heap.size := Nat.ne_of_lt (by have h1 := La_5.lt; have h2 : w3.heap.size = w3.heap.size := rfl; omega)
          have ne_b_q : bb ≠ w3.heap.size := Nat.ne_of_lt (by have h1 := Lb_5.lt; have h2 : w3.heap.size = w3.heap.size := rfl; omega)
          have ge_q : wr.heap.size ≤ w3.heap.size := by have h1 : wr.heap.size ≤ w3.heap.size := HB_4.out.size; have h2 : w3.heap.size = w3.heap.size := rfl; omega
          have HSZ_11 := Lib.hid (show w10.heap.size = w3.heap.size + 1 by rw [hW10]; have h2 : w3.heap.size = w3.heap.size := rfl; simp <;> omega)
          have HB_12 := Lib.hid (HB_4.out.trans (hal11.mono HB_4.out.size))
          clear HB_4
          have La_13 := La_5.step hal11
          clear La_5
          have Lb_13 := Lb_5.step hal11
          clear Lb_5
          have Ha_13 := Lib.hid (Ha_5.out.step hal11)
          clear Ha_5
          have Hb_13 := Lib.hid (Hb_5.out.step hal11)
          clear Hb_5
          have Hvr_13 := Lib.hid (Hvr_7.out.step hal11)
          clear Hvr_7
          have Hq_tmp_13 := Lib.hid (Hvq_6.out.step hal11)
          clear Hvq_6
          clear hal11 hW10
          obtain ⟨w14, hW14⟩ : ∃ w14 : World, w14 = w10.alloc (.cells #[.bool (decide (Z < 0)), .slice A7 (dig (Z).natAbs).length c7] 24) := ⟨_, rfl⟩
          rw [← hW14]
          have hal15 : Below w10.heap.size w10 w14 := by rw [hW14]; exact (Below.refl _ _).alloc (Nat.le_refl _) _
          have Lr_15 : LB w14 (w3.heap.size + 1) (.bool (decide (Z < 0))) (.slice A7 (dig (Z).natAbs).length c7) := by rw [hW14]; exact LB.new' (show w3.heap.size + 1 = w10.heap.size from (HSZ_11.out).symm)
          have ne_a_r : ba ≠ w3.heap.size + 1 := Nat.ne_of_lt (by have h1 := La_13.lt; have h2 : w10.heap.size = w3.heap.size + 1 := HSZ_11.out; omega)
          have ne_b_r : bb ≠ w3.heap.size + 1 := Nat.ne_of_lt (by have h1 := Lb_13.lt; have h2 : w10.heap.size = w3.heap.size + 1 := HSZ_11.out; omega)
          have ne_q_r : w3.heap.size ≠ w3.heap.size + 1 := Nat.ne_of_lt (by have h1 := Lq_11.lt; have h2 : w10.heap.size = w3.heap.size + 1 := HSZ_11.out; omega)
          have ge_r : wr.heap.size ≤ w3.heap.size + 1 := by have h1 : wr.heap.size ≤ w10.heap.size := HB_12.out.size; have h2 : w10.heap.size = w3.heap.size + 1 := HSZ_11.out; omega
          have HSZ_15 := Lib.hid (show w14.heap.size = w3.heap.size + 1 + 1 by rw [hW14]; have h2 : w10.heap.size = w3.heap.size + 1 := HSZ_11.out; simp <;> omega)
          clear HSZ_11
          have HB_16 := Lib.hid (HB_12.out.trans (hal15.mono HB_12.out.size))
          clear HB_12
          have La_17 := La_13.step hal15
          clear La_13
          have Lb_17 := Lb_13.step hal15
          clear Lb_13
          have Lq_17 := Lq_11.step hal15
          clear Lq_11
          have Ha_17 := Lib.hid (Ha_13.out.step hal15)
          clear Ha_13
          have Hb_17 := Lib.hid (Hb_13.out.step hal15)
          clear Hb_13
          have Hq_17 := Lib.hid (Hq_tmp_13.out.step hal15)
          clear Hq_tmp_13
          have Hr_tmp_17 := Lib.hid (Hvr_13.out.step hal15)
          clear Hvr_13
          clear hal15 hW14
          have q18_0 := Lq_17.cell0
          have q18_1 := Lq_17.cell1
          have q18_2 := Lq_17.frozen 0
          have q18_3 := Lq_17.frozen 1
          have q18_lt := Lq_17.lt
          refine (Same_num Hq_17.out (LV.zero _ _)).mono ?_
          rintro e w19 ⟨hb19, rfl⟩
          have HB_20 := Lib.hid (HB_16.out.trans (hb19.mono HB_16.out.size))
          clear HB_16
          have La_21 := La_17.step hb19
          clear La_17
          have Lb_21 := Lb_17.step hb19
          clear Lb_17
          have Lq_21 := Lq_17.step hb19
          clear Lq_17
          have Lr_21 := Lr_15.step hb19
          clear Lr_15
          have Ha_21 := Lib.hid (Ha_17.out.step hb19)
          clear Ha_17
          have Hb_21 := Lib.hid (Hb_17.out.step hb19)
          clear Hb_17
          have Hq_21 := Lib.hid (Hq_17.out.step hb19)
          clear Hq_17
          have Hr_21 := Lib.hid (Hr_tmp_17.out.step hb19)
          clear Hr_tmp_17
          clear hb19
          clear HSZ_15
          clear q18_0 q18_1 q18_2 q18_3 q18_lt
          rw [show decide (Z = 0) = true by rw [HZ.out]; rfl]
          have q22_0 := Lr_21.cell0
          have q22_1 := Lr_21.cell1
          have q22_2 := Lr_21.frozen 0
          have q22_3 := Lr_21.frozen 1
          have q22_lt := Lr_21.lt
          go_wp2_with fail
          refine (Same_num Hr_21.out (LV.zero _ _)).mono ?_
          rintro e w23 ⟨hb23, rfl⟩
          have HB_24 := Lib.hid (HB_20.out.trans (hb23.mono HB_20.out.size))
          clear HB_20
          have La_25 := La_21.step hb23
          clear La_21
          have Lb_25 := Lb_21.step hb23
          clear Lb_21
          have Lq_25 := Lq_21.step hb23
          clear Lq_21
          have Lr_25 := Lr_21.step hb23
          clear Lr_21
          have Ha_25 := Lib.hid (Ha_21.out.step hb23)
          clear Ha_21
          have Hb_25 := Lib.hid (Hb_21.out.step hb23)
          clear Hb_21
          have Hq_25 := Lib.hid (Hq_21.out.step hb23)
          clear Hq_21
          have Hr_25 := Lib.hid (Hr_21.out.step hb23)
          clear Hr_21
          clear hb23
          clear q22_0 q22_1 q22_2 q22_3 q22_lt
          rw [show decide (Z = 0) = true by rw [HZ.out]; rfl]
          have q26_0 := La_25.cell0
          have q26_1 := La_25.cell1
          have q26_2 := La_25.frozen 0
          have q26_3 := La_25.frozen 1
          have q26_lt := La_25.lt
          go_wp2_with fail
          refine (Check_num Ha_25.out HFX.out).mono ?_
          rintro e w27 ⟨hb27, rfl⟩
          have HB_28 := Lib.hid (HB_24.out.trans (hb27.mono HB_24.out.size))
          clear HB_24
          have La_29 := La_25.step hb27
          clear La_25
          have Lb_29 := Lb_25.step hb27
          clear Lb_25
          have Lq_29 := Lq_25.step hb27
          clear Lq_25
          have Lr_29 := Lr_25.step hb27
          clear Lr_25
          have Ha_29 := Lib.hid (Ha_25.out.step hb27)
          clear Ha_25
          have Hb_29 := Lib.hid (Hb_25.out.step hb27)
          clear Hb_25
          have Hq_29 := Lib.hid (Hq_25.out.step hb27)
          clear Hq_25
          have Hr_29 := Lib.hid (Hr_25.out.step hb27)
          clear Hr_25
          clear hb27
          clear q26_0 q26_1 q26_2 q26_3 q26_lt
          have q30_0 := Lb_29.cell0
          have q30_1 := Lb_29.cell1
          have q30_2 := Lb_29.frozen 0
          have q30_3 := Lb_29.frozen 1
          have q30_lt := Lb_29.lt
          go_wp2_with fail
          refine (Check_num Hb_29.out HFQ.out).mono ?_
          rintro e w31 ⟨hb31, rfl⟩
          have HB_32 := Lib.hid (HB_28.out.trans (hb31.mono HB_28.out.size))
          clear HB_28
          have La_33 := La_29.step hb31
          clear La_29
          have Lb_33 := Lb_29.step hb31
          clear Lb_29
          have Lq_33 := Lq_29.step hb31
          clear Lq_29
          have Lr_33 := Lr_29.step hb31
          clear Lr_29
          have Ha_33 := Lib.hid (Ha_29.out.step hb31)
          clear Ha_29
          have Hb_33 := Lib.hid (Hb_29.out.step hb31)
          clear Hb_29
          have Hq_33 := Lib.hid (Hq_29.out.step hb31)
          clear Hq_29
          have Hr_33 := Lib.hid (Hr_29.out.step hb31)
          clear Hr_29
          clear hb31
          clear q30_0 q30_1 q30_2 q30_3 q30_lt
          have q34_0 := Lb_33.cell0
          have q34_1 := Lb_33.cell1
          have q34_2 := Lb_33.frozen 0
          have q34_3 := Lb_33.frozen 1
          have q34_lt := Lb_33.lt
          (try rw [HQl.out] at q34_0)
          (try rw [HQl.out] at q34_1)
          (try rw [HQl.out] at q34_2)
          (try rw [HQl.out] at q34_3)
          go_wp2
          go_roundw
          case rel => exact ⟨k + 1, by omega, by rw [show ((k + 1 : Nat) : Int) = (k : Int) + 1 by omega], Lib.hid (HBW.out.trans (HB_32.out.mono HBW.out.size)), Lib.hid (HP.out.step HB_32.out)⟩
          case measure => simp [intOf] <;> omega
        have HQ0 := Lib.hid hq0
        clear hq0
        obtain ⟨P, hP⟩ : ∃ P : Int, Int.tdiv X Q = P := ⟨_, rfl⟩
        obtain ⟨R, hR⟩ : ∃ R : Int, Int.tmod X Q = R := ⟨_, rfl⟩
        obtain ⟨M, hM⟩ : ∃ M : Int, P * Q = M := ⟨_, rfl⟩
        obtain ⟨D, hD⟩ : ∃ D : Int, (R.natAbs : Int) = D := ⟨_, rfl⟩
        obtain ⟨E, hE⟩ : ∃ E : Int, (Q.natAbs : Int) = E := ⟨_, rfl⟩
        have HFP : Hid (Fit P) := Lib.hid (by rw [← hP]; exact HFX.out.le (by rw [Int.natAbs_tdiv]; exact Nat.div_le_self _ _))
        have HFR : Hid (Fit R) := Lib.hid (by rw [← hR]; exact HFX.out.le (by rw [Int.natAbs_tmod]; exact Nat.mod_le _ _))
        have HMR : Hid (M + R = X) := Lib.hid (by rw [← hM, ← hP, ← hR]; exact Int.tdiv_mul_add_tmod X Q)
        have HFM : Hid (Fit M) := Lib.hid (by rw [← hM, ← hP]; exact HFX.out.le (tdiv_mul_le X Q))
        have HFPQ : Hid (Fit (P * Q)) := Lib.hid (by rw [hM]; exact HFM.out)
        have HFMR : Hid (Fit (M + R)) := Lib.hid (by rw [HMR.out]; exact HFX.out)
        have HFD : Hid (Fit D) := Lib.hid (by rw [← hD]; exact HFR.out.le (by omega))
        have HFE : Hid (Fit E) := Lib.hid (by rw [← hE]; exact HFQ.out.le (by omega))
        have HDE : Hid (D < E) := Lib.hid (by rw [← hD, ← hE, ← hR]; have h0 := HQ0.out; have h1 : (Int.tmod X Q).natAbs < Q.natAbs := (by rw [Int.natAbs_tmod]; exact Nat.mod_lt _ (by omega)); omega)
        have HSG : Hid (R ≠ 0 → decide (R < 0) = decide (X < 0)) := Lib.hid (by rw [← hR]; exact tmod_sgn X Q)
        have HPq := Lib.hid hP
        clear hP
        have HR := Lib.hid hR
        clear hR
        have HM := Lib.hid hM
        clear hM
        have HD := Lib.hid hD
        clear hD
        have HE := Lib.hid hE
        clear hE
        have q35_0 := La_0.cell0
        have q35_1 := La_0.cell1
        have q35_2 := La_0.frozen 0
        have q35_3 := La_0.frozen 1
        have q35_lt := La_0.lt
        have q36_0 := Lb_0.cell0
        have q36_1 := Lb_0.cell1
        have q36_2 := Lb_0.frozen 0
        have q36_3 := Lb_0.frozen 1
        have q36_lt := Lb_0.lt
        go_wp2_with fail
        refine (Div_num Ha_0.out Hb_0.out HFX.out HFQ.out HQ0.out).mono ?_
        rintro e w37 ⟨hb37, vq, vr, rfl, hq, hr⟩
        rw [HPq.out] at hq
        rw [HR.out] at hr
        have HB_38 := Lib.hid (HB_0.out.trans (hb37.mono HB_0.out.size))
        clear HB_0
        have La_39 := La_0.step hb37
        clear La_0
        have Lb_39 := Lb_0.step hb37
        clear Lb_0
        have Ha_39 := Lib.hid (Ha_0.out.step hb37)
        clear Ha_0
        have Hb_39 := Lib.hid (Hb_0.out.step hb37)
        clear Hb_0
        clear hb37
        clear q35_0 q35_1 q35_2 q35_3 q35_lt q36_0 q36_1 q36_2 q36_3 q36_lt
        obtain ⟨A40, c40, rfl, -⟩ := hq.parts
        have Hvq_40 := Lib.hid hq
        clear hq
        obtain ⟨A41, c41, rfl, -⟩ := hr.parts
        have Hvr_41 := Lib.hid hr
        clear hr
        have q42_0 := La_39.cell0
        have q42_1 := La_39.cell1
        have q42_2 := La_39.frozen 0
        have q42_3 := La_39.frozen 1
        have q42_lt := La_39.lt
        have q43_0 := Lb_39.cell0
        have q43_1 := Lb_39.cell1
        have q43_2 := Lb_39.frozen 0
        have q43_3 := Lb_39.frozen 1
        have q43_lt := Lb_39.lt
        go_wp2_with fail
        clear q42_0 q42_1 q42_2 q42_3 q42_lt q43_0 q43_1 q43_2 q43_3 q43_lt
        obtain ⟨w44, hW44⟩ : ∃ w44 : World, w44 = w37.alloc (.cells #[.bool (decide (P < 0)), .slice A40 (dig (P).natAbs).length c40] 24) := ⟨_, rfl⟩
        rw [← hW44]
        have hal45 : Below w37.heap.size w37 w44 := by rw [hW44]; exact (Below.refl _ _).alloc (Nat.le_refl _) _
        have Lq_45 : LB w44 (w37.heap.size) (.bool (decide (P < 0))) (.slice A40 (dig (P).natAbs).length c40) := by rw [hW44]; exact LB.new' (show w37.heap.size = w37.heap.size from (rfl).symm)
        have ne_a_q : ba ≠ w37.heap.size := Nat.ne_of_lt (by have h1 := La_39.lt; have h2 : w37.heap.size = w37.heap.size := rfl; omega)
        have ne_b_q : bb ≠ w37.heap.size := Nat.ne_of_lt (by have h1 := Lb_39.lt; have h2 : w37.heap.size = w37.heap.size := rfl; omega)
        have ge_q : wr.heap.size ≤ w37.heap.size := by have h1 : wr.heap.size ≤ w37.heap.size := HB_38.out.size; have h2 : w37.heap.size = w37.heap.size := rfl; omega
        have HSZ_45 := Lib.hid (show w44.heap.size = w37.heap.size + 1 by rw [hW44]; have h2 : w37.heap.size = w37.heap.size := rfl; simp <;> omega)
        have HB_46 := Lib.hid (HB_38.out.trans (hal45.mono HB_38.out.size))
        clear HB_38
        have La_47 := La_39.step hal45
        clear La_39
        have Lb_47 := Lb_39.step hal45
        clear Lb_39
        have Ha_47 := Lib.hid (Ha_39.out.step hal45)
        clear Ha_39
        have Hb_47 := Lib.hid (Hb_39.out.step hal45)
        clear Hb_39
        have Hvr_47 := Lib.hid (Hvr_41.out.step hal45)
        clear Hvr_41
        have Hq_tmp_47 := Lib.hid (Hvq_40.out.step hal45)
        clear Hvq_40
        clear hal45 hW44
        obtain ⟨w48, hW48⟩ : ∃ w48 : World, w48 = w44.alloc (.cells #[.bool (decide (R < 0)), .slice A41 (dig (R).natAbs).length c41] 24) := ⟨_, rfl⟩
        rw [← hW48]
        have hal49 : Below w44.heap.size w44 w48 := by rw [hW48]; exact (Below.refl _ _).alloc (Nat.le_refl _) _
        have Lr_49 : LB w48 (w37.heap.size + 1) (.bool (decide (R < 0))) (.slice A41 (dig (R).natAbs).length c41) := by rw [hW48]; exact LB.new' (show w37.heap.size + 1 = w44.heap.size from (HSZ_45.out).symm)
        have ne_a_r : ba ≠ w37.heap.size + 1 := Nat.ne_of_lt (by have h1 := La_47.lt; have h2 : w44.heap.size = w37.heap.size + 1 := HSZ_45.out; omega)
        have ne_b_r : bb ≠ w37.heap.size + 1 := Nat.ne_of_lt (by have h1 := Lb_47.lt; have h2 : w44.heap.size = w37.heap.size + 1 := HSZ_45.out; omega)
        have ne_q_r : w37.heap.size ≠ w37.heap.size + 1 := Nat.ne_of_lt (by have h1 := Lq_45.lt; have h2 : w44.heap.size = w37.heap.size + 1 := HSZ_45.out; omega)
        have ge_r : wr.heap.size ≤ w37.heap.size + 1 := by have h1 : wr.heap.size ≤ w44.heap.size := HB_46.out.size; have h2 : w44.heap.size = w37.heap.size + 1 := HSZ_45.out; omega
        have HSZ_49 := Lib.hid (show w48.heap.size = w37.heap.size + 1 + 1 by rw [hW48]; have h2 : w44.heap.size = w37.heap.size + 1 := HSZ_45.out; simp <;> omega)
        clear HSZ_45
        have HB_50 := Lib.hid (HB_46.out.trans (hal49.mono HB_46.out.size))
        clear HB_46
        have La_51 := La_47.step hal49
        clear La_47
        have Lb_51 := Lb_47.step hal49
        clear Lb_47
        have Lq_51 := Lq_45.step hal49
        clear Lq_45
        have Ha_51 := Lib.hid (Ha_47.out.step hal49)
        clear Ha_47
        have Hb_51 := Lib.hid (Hb_47.out.step hal49)
        clear Hb_47
        have Hq_51 := Lib.hid (Hq_tmp_47.out.step hal49)
        clear Hq_tmp_47
        have Hr_tmp_51 := Lib.hid (Hvr_47.out.step hal49)
        clear Hvr_47
        clear hal49 hW48
        have q52_0 := Lb_51.cell0
        have q52_1 := Lb_51.cell1
        have q52_2 := Lb_51.frozen 0
        have q52_3 := Lb_51.frozen 1
        have q52_lt := Lb_51.lt
        have q53_0 := Lq_51.cell0
        have q53_1 := Lq_51.cell1
        have q53_2 := Lq_51.frozen 0
        have q53_3 := Lq_51.frozen 1
        have q53_lt := Lq_51.lt
        refine (Mul_num Hq_51.out Hb_51.out HFP.out HFQ.out HFPQ.out).mono ?_
        rintro e w55 ⟨hb55, v54, rfl, hv54⟩
        have HB_56 := Lib.hid (HB_50.out.trans (hb55.mono HB_50.out.size))
        clear HB_50
        have La_57 := La_51.step hb55
        clear La_51
        have Lb_57 := Lb_51.step hb55
        clear Lb_51
        have Lq_57 := Lq_51.step hb55
        clear Lq_51
        have Lr_57 := Lr_49.step hb55
        clear Lr_49
        have Ha_57 := Lib.hid (Ha_51.out.step hb55)
        clear Ha_51
        have Hb_57 := Lib.hid (Hb_51.out.step hb55)
        clear Hb_51
        have Hq_57 := Lib.hid (Hq_51.out.step hb55)
        clear Hq_51
        have Hr_57 := Lib.hid (Hr_tmp_51.out.step hb55)
        clear Hr_tmp_51
        clear hb55
        clear HSZ_49
        clear q52_0 q52_1 q52_2 q52_3 q52_lt q53_0 q53_1 q53_2 q53_3 q53_lt
        rw [HM.out] at hv54
        obtain ⟨A58, c58, rfl, -⟩ := hv54.parts
        have Ht_58 := Lib.hid hv54
        clear hv54
        have q59_0 := La_57.cell0
        have q59_1 := La_57.cell1
        have q59_2 := La_57.frozen 0
        have q59_3 := La_57.frozen 1
        have q59_lt := La_57.lt
        have q60_0 := Lb_57.cell0
        have q60_1 := Lb_57.cell1
        have q60_2 := Lb_57.frozen 0
        have q60_3 := Lb_57.frozen 1
        have q60_lt := Lb_57.lt
        have q61_0 := Lq_57.cell0
        have q61_1 := Lq_57.cell1
        have q61_2 := Lq_57.frozen 0
        have q61_3 := Lq_57.frozen 1
        have q61_lt := Lq_57.lt
        have q62_0 := Lr_57.cell0
        have q62_1 := Lr_57.cell1
        have q62_2 := Lr_57.frozen 0
        have q62_3 := Lr_57.frozen 1
        have q62_lt := Lr_57.lt
        go_wp2_with fail
        clear q59_0 q59_1 q59_2 q59_3 q59_lt q60_0 q60_1 q60_2 q60_3 q60_lt q61_0 q61_1 q61_2 q61_3 q61_lt q62_0 q62_1 q62_2 q62_3 q62_lt
        obtain ⟨w63, hW63⟩ : ∃ w63 : World, w63 = w55.alloc (.cells #[.bool (decide (M < 0)), .slice A58 (dig (M).natAbs).length c58] 24) := ⟨_, rfl⟩
        rw [← hW63]
        have hal64 : Below w55.heap.size w55 w63 := by rw [hW63]; exact (Below.refl _ _).alloc (Nat.le_refl _) _
        have Lm_64 : LB w63 (w55.heap.size) (.bool (decide (M < 0))) (.slice A58 (dig (M).natAbs).length c58) := by rw [hW63]; exact LB.new' (show w55.heap.size = w55.heap.size from (rfl).symm)
        have ne_a_m : ba ≠ w55.heap.size := Nat.ne_of_lt (by have h1 := La_57.lt; have h2 : w55.heap.size = w55.heap.size := rfl; omega)
        have ne_b_m : bb ≠ w55.heap.size := Nat.ne_of_lt (by have h1 := Lb_57.lt; have h2 : w55.heap.size = w55.heap.size := rfl; omega)
        have ne_q_m : w37.heap.size ≠ w55.heap.size := Nat.ne_of_lt (by have h1 := Lq_57.lt; have h2 : w55.heap.size = w55.heap.size := rfl; omega)
        have ne_r_m : w37.heap.size + 1 ≠ w55.heap.size := Nat.ne_of_lt (by have h1 := Lr_57.lt; have h2 : w55.heap.size = w55.heap.size := rfl; omega)
        have ge_m : wr.heap.size ≤ w55.heap.size := by have h1 : wr.heap.size ≤ w55.heap.size := HB_56.out.size; have h2 : w55.heap.size = w55.heap.size := rfl; omega
        have HSZ_64 := Lib.hid (show w63.heap.size = w55.heap.size + 1 by rw [hW63]; have h2 : w55.heap.size = w55.heap.size := rfl; simp <;> omega)
        have HB_65 := Lib.hid (HB_56.out.trans (hal64.mono HB_56.out.size))
        clear HB_56
        have La_66 := La_57.step hal64
        clear La_57
        have Lb_66 := Lb_57.step hal64
        clear Lb_57
        have Lq_66 := Lq_57.step hal64
        clear Lq_57
        have Lr_66 := Lr_57.step hal64
        clear Lr_57
        have Ha_66 := Lib.hid (Ha_57.out.step hal64)
        clear Ha_57
        have Hb_66 := Lib.hid (Hb_57.out.step hal64)
        clear Hb_57
        have Hq_66 := Lib.hid (Hq_57.out.step hal64)
        clear Hq_57
        have Hr_66 := Lib.hid (Hr_57.out.step hal64)
        clear Hr_57
        have Hm_tmp_66 := Lib.hid (Ht_58.out.step hal64)
        clear Ht_58
        clear hal64 hW63
        have q67_0 := Lm_64.cell0
        have q67_1 := Lm_64.cell1
        have q67_2 := Lm_64.frozen 0
        have q67_3 := Lm_64.frozen 1
        have q67_lt := Lm_64.lt
        have q68_0 := Lr_66.cell0
        have q68_1 := Lr_66.cell1
        have q68_2 := Lr_66.frozen 0
        have q68_3 := Lr_66.frozen 1
        have q68_lt := Lr_66.lt
        refine (Add_num Hm_tmp_66.out Hr_66.out HFM.out HFR.out HFMR.out).mono ?_
        rintro e w70 ⟨hb70, v69, rfl, hv69⟩
        have HB_71 := Lib.hid (HB_65.out.trans (hb70.mono HB_65.out.size))
        clear HB_65
        have La_72 := La_66.step hb70
        clear La_66
        have Lb_72 := Lb_66.step hb70
        clear Lb_66
        have Lq_72 := Lq_66.step hb70
        clear Lq_66
        have Lr_72 := Lr_66.step hb70
        clear Lr_66
        have Lm_72 := Lm_64.step hb70
        clear Lm_64
        have Ha_72 := Lib.hid (Ha_66.out.step hb70)
        clear Ha_66
        have Hb_72 := Lib.hid (Hb_66.out.step hb70)
        clear Hb_66
        have Hq_72 := Lib.hid (Hq_66.out.step hb70)
        clear Hq_66
        have Hr_72 := Lib.hid (Hr_66.out.step hb70)
        clear Hr_66
        have Hm_72 := Lib.hid (Hm_tmp_66.out.step hb70)
        clear Hm_tmp_66
        clear hb70
        clear HSZ_64
        clear q67_0 q67_1 q67_2 q67_3 q67_lt q68_0 q68_1 q68_2 q68_3 q68_lt
        rw [HMR.out] at hv69
        obtain ⟨A73, c73, rfl, -⟩ := hv69.parts
        have Ht_73 := Lib.hid hv69
        clear hv69
        have q74_0 := La_72.cell0
        have q74_1 := La_72.cell1
        have q74_2 := La_72.frozen 0
        have q74_3 := La_72.frozen 1
        have q74_lt := La_72.lt
        have q75_0 := Lb_72.cell0
        have q75_1 := Lb_72.cell1
        have q75_2 := Lb_72.frozen 0
        have q75_3 := Lb_72.frozen 1
        have q75_lt := Lb_72.lt
        have q76_0 := Lq_72.cell0
        have q76_1 := Lq_72.cell1
        have q76_2 := Lq_72.frozen 0
        have q76_3 := Lq_72.frozen 1
        have q76_lt := Lq_72.lt
        have q77_0 := Lr_72.cell0
        have q77_1 := Lr_72.cell1
        have q77_2 := Lr_72.frozen 0
        have q77_3 := Lr_72.frozen 1
        have q77_lt := Lr_72.lt
        have q78_0 := Lm_72.cell0
        have q78_1 := Lm_72.cell1
        have q78_2 := Lm_72.frozen 0
        have q78_3 := Lm_72.frozen 1
        have q78_lt := Lm_72.lt
        go_wp2_with fail
        clear q74_0 q74_1 q74_2 q74_3 q74_lt q75_0 q75_1 q75_2 q75_3 q75_lt q76_0 q76_1 q76_2 q76_3 q76_lt q77_0 q77_1 q77_2 q77_3 q77_lt q78_0 q78_1 q78_2 q78_3 q78_lt
        obtain ⟨w79, hW79⟩ : ∃ w79 : World, w79 = w70.alloc (.cells #[.bool (decide (X < 0)), .slice A73 (dig (X).natAbs).length c73] 24) := ⟨_, rfl⟩
        rw [← hW79]
        have hal80 : Below w70.heap.size w70 w79 := by rw [hW79]; exact (Below.refl _ _).alloc (Nat.le_refl _) _
        have Ls_80 : LB w79 (w70.heap.size) (.bool (decide (X < 0))) (.slice A73 (dig (X).natAbs).length c73) := by rw [hW79]; exact LB.new' (show w70.heap.size = w70.heap.size from (rfl).symm)
        have ne_a_s : ba ≠ w70.heap.size := Nat.ne_of_lt (by have h1 := La_72.lt; have h2 : w70.heap.size = w70.heap.size := rfl; omega)
        have ne_b_s : bb ≠ w70.heap.size := Nat.ne_of_lt (by have h1 := Lb_72.lt; have h2 : w70.heap.size = w70.heap.size := rfl; omega)
        have ne_q_s : w37.heap.size ≠ w70.heap.size := Nat.ne_of_lt (by have h1 := Lq_72.lt; have h2 : w70.heap.size = w70.heap.size := rfl; omega)
        have ne_r_s : w37.heap.size + 1 ≠ w70.heap.size := Nat.ne_of_lt (by have h1 := Lr_72.lt; have h2 : w70.heap.size = w70.heap.size := rfl; omega)
        have ne_m_s : w55.heap.size ≠ w70.heap.size := Nat.ne_of_lt (by have h1 := Lm_72.lt; have h2 : w70.heap.size = w70.heap.size := rfl; omega)
        have ge_s : wr.heap.size ≤ w70.heap.size := by have h1 : wr.heap.size ≤ w70.heap.size := HB_71.out.size; have h2 : w70.heap.size = w70.heap.size := rfl; omega
        have HSZ_80 := Lib.hid (show w79.heap.size = w70.heap.size + 1 by rw [hW79]; have h2 : w70.heap.size = w70.heap.size := rfl; simp <;> omega)
        have HB_81 := Lib.hid (HB_71.out.trans (hal80.mono HB_71.out.size))
        clear HB_71
        have La_82 := La_72.step hal80
        clear La_72
        have Lb_82 := Lb_72.step hal80
        clear Lb_72
        have Lq_82 := Lq_72.step hal80
        clear Lq_72
        have Lr_82 := Lr_72.step hal80
        clear Lr_72
        have Lm_82 := Lm_72.step hal80
        clear Lm_72
        have Ha_82 := Lib.hid (Ha_72.out.step hal80)
        clear Ha_72
        have Hb_82 := Lib.hid (Hb_72.out.step hal80)
        clear Hb_72
        have Hq_82 := Lib.hid (Hq_72.out.step hal80)
        clear Hq_72
        have Hr_82 := Lib.hid (Hr_72.out.step hal80)
        clear Hr_72
        have Hm_82 := Lib.hid (Hm_72.out.step hal80)
        clear Hm_72
        have Hs_tmp_82 := Lib.hid (Ht_73.out.step hal80)
        clear Ht_73
        clear hal80 hW79
        clear Lq_82
        clear Hq_82
        clear Lm_82
        clear Hm_82
        have q83_0 := Lr_82.cell0
        have q83_1 := Lr_82.cell1
        have q83_2 := Lr_82.frozen 0
        have q83_3 := Lr_82.frozen 1
        have q83_lt := Lr_82.lt
        have q84_0 := Lb_82.cell0
        have q84_1 := Lb_82.cell1
        have q84_2 := Lb_82.frozen 0
        have q84_3 := Lb_82.frozen 1
        have q84_lt := Lb_82.lt
        have tok85 : True := trivial
        have tok86 : True := trivial
        have tok87 : True := trivial
        go_region_held3 (fun w' => w'.cell? ⟨w37.heap.size + 1, 0, none⟩ = some (.bool (decide (R < 0))) ∧ w'.cell? ⟨w37.heap.size + 1, 1, none⟩ = some (.slice A41 (dig (R).natAbs).length c41) ∧ w'.cell? ⟨bb, 0, none⟩ = some (.bool (decide (Q < 0))) ∧ w'.cell? ⟨bb, 1, none⟩ = some (.slice A2 (dig (Q).natAbs).length c2)) (first
          | (exact ⟨(LB.drew Lr_82).cell0, (LB.drew Lr_82).cell1, (LB.drew Lb_82).cell0, (LB.drew Lb_82).cell1⟩)
          | (exact ⟨Lr_82.cell0, Lr_82.cell1, Lb_82.cell0, Lb_82.cell1⟩)
          | (exact ⟨Lr_90.cell0, Lr_90.cell1, Lb_90.cell0, Lb_90.cell1⟩)
          | (exact ⟨(LB.alloc Lr_90 _).cell0, (LB.alloc Lr_90 _).cell1, (LB.alloc Lb_90 _).cell0, (LB.alloc Lb_90 _).cell1⟩)
          | (exact ⟨Lr_96.cell0, Lr_96.cell1, Lb_96.cell0, Lb_96.cell1⟩)
          | (exact ⟨(LB.alloc Lr_96 _).cell0, (LB.alloc Lr_96 _).cell1, (LB.alloc Lb_96 _).cell0, (LB.alloc Lb_96 _).cell1⟩)
          | (exact ⟨Lr_100.cell0, Lr_100.cell1, Lb_100.cell0, Lb_100.cell1⟩)
          | (exact ⟨(LB.alloc Lr_100 _).cell0, (LB.alloc Lr_100 _).cell1, (LB.alloc Lb_100 _).cell0, (LB.alloc Lb_100 _).cell1⟩)
          | go_keep) (first
          | (go_at_call 42; clear tok85; ((with_reducible refine (size_num _ _ R (by first | exact Hr_82.out | exact LV.drew1 Hr_82.out | exact LV.alloc Hr_82.out _ | exact LV.drew1 (LV.alloc Hr_82.out _))).mono ?_); rintro e u88 ⟨hb88, u5, rfl, hu5⟩; have HB_89 := Lib.hid (show Below wr.heap.size wr u88 from by first | exact below_call0 HB_81.out hb88 | exact below_call_drew0 HB_81.out hb88 | exact below_call HB_81.out hb88 | exact below_call_drew HB_81.out hb88); clear HB_81; have La_90 := LB.step (b := ba) (x := .bool (decide (X < 0))) (y := .slice A1 (dig (X).natAbs).length c1) (by first | exact La_82 | exact LB.drew La_82 | exact LB.alloc La_82 _ | exact LB.drew (LB.alloc La_82 _)) hb88; clear La_82; have Lb_90 := LB.step (b := bb) (x := .bool (decide (Q < 0))) (y := .slice A2 (dig (Q).natAbs).length c2) (by first | exact Lb_82 | exact LB.drew Lb_82 | exact LB.alloc Lb_82 _ | exact LB.drew (LB.alloc Lb_82 _)) hb88; clear Lb_82; have Lr_90 := LB.step (b := w37.heap.size + 1) (x := .bool (decide (R < 0))) (y := .slice A41 (dig (R).natAbs).length c41) (by first | exact Lr_82 | exact LB.drew Lr_82 | exact LB.alloc Lr_82 _ | exact LB.drew (LB.alloc Lr_82 _)) hb88; clear Lr_82; have Ls_90 := LB.step (b := w70.heap.size) (x := .bool (decide (X < 0))) (y := .slice A73 (dig (X).natAbs).length c73) (by first | exact Ls_80 | exact LB.drew Ls_80 | exact LB.alloc Ls_80 _ | exact LB.drew (LB.alloc Ls_80 _)) hb88; clear Ls_80; have Ha_90 := Lib.hid (LV.step (v := .agg #[.bool (decide (X < 0)), .slice A1 (dig (X).natAbs).length c1]) (z := X) (by first | exact Ha_82.out | exact LV.drew1 Ha_82.out | exact LV.alloc Ha_82.out _ | exact LV.drew1 (LV.alloc Ha_82.out _)) hb88); clear Ha_82; have Hb_90 := Lib.hid (LV.step (v := .agg #[.bool (decide (Q < 0)), .slice A2 (dig (Q).natAbs).length c2]) (z := Q) (by first | exact Hb_82.out | exact LV.drew1 Hb_82.out | exact LV.alloc Hb_82.out _ | exact LV.drew1 (LV.alloc Hb_82.out _)) hb88); clear Hb_82; have Hr_90 := Lib.hid (LV.step (v := .agg #[.bool (decide (R < 0)), .slice A41 (dig (R).natAbs).length c41]) (z := R) (by first | exact Hr_82.out | exact LV.drew1 Hr_82.out | exact LV.alloc Hr_82.out _ | exact LV.drew1 (LV.alloc Hr_82.out _)) hb88); clear Hr_82; have Hs_90 := Lib.hid (LV.step (v := .agg #[.bool (decide (X < 0)), .slice A73 (dig (X).natAbs).length c73]) (z := X) (by first | exact Hs_tmp_82.out | exact LV.drew1 Hs_tmp_82.out | exact LV.alloc Hs_tmp_82.out _ | exact LV.drew1 (LV.alloc Hs_tmp_82.out _)) hb88); clear Hs_tmp_82; clear HSZ_80; rw [HD.out] at hu5; obtain ⟨Asr, csr, rfl, -⟩ := hu5.parts; have Hsr := Lib.hid hu5; clear hu5; have q92_0 := Lr_90.cell0; have q92_1 := Lr_90.cell1; have q92_2 := Lr_90.frozen 0; have q92_3 := Lr_90.frozen 1; have q92_lt := Lr_90.lt; have q93_0 := Lb_90.cell0; have q93_1 := Lb_90.cell1; have q93_2 := Lb_90.frozen 0; have q93_3 := Lb_90.frozen 1; have q93_lt := Lb_90.lt; clear hb88))
          | (go_at_call 42; clear tok86; ((with_reducible refine (size_num _ _ Q (by first | exact Hb_90.out | exact LV.drew1 Hb_90.out | exact LV.alloc Hb_90.out _ | exact LV.drew1 (LV.alloc Hb_90.out _))).mono ?_); rintro e u94 ⟨hb94, u6, rfl, hu6⟩; have HB_95 := Lib.hid (show Below wr.heap.size wr u94 from by first | exact below_call0 HB_89.out hb94 | exact below_call_drew0 HB_89.out hb94 | exact below_call HB_89.out hb94 | exact below_call_drew HB_89.out hb94); clear HB_89; have La_96 := LB.step (b := ba) (x := .bool (decide (X < 0))) (y := .slice A1 (dig (X).natAbs).length c1) (by first | exact La_90 | exact LB.drew La_90 | exact LB.alloc La_90 _ | exact LB.drew (LB.alloc La_90 _)) hb94; clear La_90; have Lb_96 := LB.step (b := bb) (x := .bool (decide (Q < 0))) (y := .slice A2 (dig (Q).natAbs).length c2) (by first | exact Lb_90 | exact LB.drew Lb_90 | exact LB.alloc Lb_90 _ | exact LB.drew (LB.alloc Lb_90 _)) hb94; clear Lb_90; have Lr_96 := LB.step (b := w37.heap.size + 1) (x := .bool (decide (R < 0))) (y := .slice A41 (dig (R).natAbs).length c41) (by first | exact Lr_90 | exact LB.drew Lr_90 | exact LB.alloc Lr_90 _ | exact LB.drew (LB.alloc Lr_90 _)) hb94; clear Lr_90; have Ls_96 := LB.step (b := w70.heap.size) (x := .bool (decide (X < 0))) (y := .slice A73 (dig (X).natAbs).length c73) (by first | exact Ls_90 | exact LB.drew Ls_90 | exact LB.alloc Ls_90 _ | exact LB.drew (LB.alloc Ls_90 _)) hb94; clear Ls_90; have Ha_96 := Lib.hid (LV.step (v := .agg #[.bool (decide (X < 0)), .slice A1 (dig (X).natAbs).length c1]) (z := X) (by first | exact Ha_90.out | exact LV.drew1 Ha_90.out | exact LV.alloc Ha_90.out _ | exact LV.drew1 (LV.alloc Ha_90.out _)) hb94); clear Ha_90; have Hb_96 := Lib.hid (LV.step (v := .agg #[.bool (decide (Q < 0)), .slice A2 (dig (Q).natAbs).length c2]) (z := Q) (by first | exact Hb_90.out | exact LV.drew1 Hb_90.out | exact LV.alloc Hb_90.out _ | exact LV.drew1 (LV.alloc Hb_90.out _)) hb94); clear Hb_90; have Hr_96 := Lib.hid (LV.step (v := .agg #[.bool (decide (R < 0)), .slice A41 (dig (R).natAbs).length c41]) (z := R) (by first | exact Hr_90.out | exact LV.drew1 Hr_90.out | exact LV.alloc Hr_90.out _ | exact LV.drew1 (LV.alloc Hr_90.out _)) hb94); clear Hr_90; have Hs_96 := Lib.hid (LV.step (v := .agg #[.bool (decide (X < 0)), .slice A73 (dig (X).natAbs).length c73]) (z := X) (by first | exact Hs_90.out | exact LV.drew1 Hs_90.out | exact LV.alloc Hs_90.out _ | exact LV.drew1 (LV.alloc Hs_90.out _)) hb94); clear Hs_90; have Hsr_96 := Lib.hid (LV.step (v := .agg #[.bool (decide (D < 0)), .slice Asr (dig (D).natAbs).length csr]) (z := D) (by first | exact Hsr.out | exact LV.drew1 Hsr.out | exact LV.alloc Hsr.out _ | exact LV.drew1 (LV.alloc Hsr.out _)) hb94); clear Hsr; rw [HE.out] at hu6; obtain ⟨Asb, csb, rfl, -⟩ := hu6.parts; have Hsb := Lib.hid hu6; clear hu6; clear hb94))
          | (go_at_call 50; clear tok87; ((with_reducible refine (Cmp_num (by first | exact Hsr_96.out | exact LV.drew1 Hsr_96.out | exact LV.alloc Hsr_96.out _ | exact LV.drew1 (LV.alloc Hsr_96.out _)) (by first | exact Hsb.out | exact LV.drew1 Hsb.out | exact LV.alloc Hsb.out _ | exact LV.drew1 (LV.alloc Hsb.out _)) HFD.out HFE.out).mono ?_); rintro e u98 ⟨hb98, rfl⟩; have HB_99 := Lib.hid (show Below wr.heap.size wr u98 from by first | exact below_call0 HB_95.out hb98 | exact below_call_drew0 HB_95.out hb98 | exact below_call HB_95.out hb98 | exact below_call_drew HB_95.out hb98); clear HB_95; have La_100 := LB.step (b := ba) (x := .bool (decide (X < 0))) (y := .slice A1 (dig (X).natAbs).length c1) (by first | exact La_96 | exact LB.drew La_96 | exact LB.alloc La_96 _ | exact LB.drew (LB.alloc La_96 _)) hb98; clear La_96; have Lb_100 := LB.step (b := bb) (x := .bool (decide (Q < 0))) (y := .slice A2 (dig (Q).natAbs).length c2) (by first | exact Lb_96 | exact LB.drew Lb_96 | exact LB.alloc Lb_96 _ | exact LB.drew (LB.alloc Lb_96 _)) hb98; clear Lb_96; have Lr_100 := LB.step (b := w37.heap.size + 1) (x := .bool (decide (R < 0))) (y := .slice A41 (dig (R).natAbs).length c41) (by first | exact Lr_96 | exact LB.drew Lr_96 | exact LB.alloc Lr_96 _ | exact LB.drew (LB.alloc Lr_96 _)) hb98; clear Lr_96; have Ls_100 := LB.step (b := w70.heap.size) (x := .bool (decide (X < 0))) (y := .slice A73 (dig (X).natAbs).length c73) (by first | exact Ls_96 | exact LB.drew Ls_96 | exact LB.alloc Ls_96 _ | exact LB.drew (LB.alloc Ls_96 _)) hb98; clear Ls_96; have Ha_100 := Lib.hid (LV.step (v := .agg #[.bool (decide (X < 0)), .slice A1 (dig (X).natAbs).length c1]) (z := X) (by first | exact Ha_96.out | exact LV.drew1 Ha_96.out | exact LV.alloc Ha_96.out _ | exact LV.drew1 (LV.alloc Ha_96.out _)) hb98); clear Ha_96; have Hb_100 := Lib.hid (LV.step (v := .agg #[.bool (decide (Q < 0)), .slice A2 (dig (Q).natAbs).length c2]) (z := Q) (by first | exact Hb_96.out | exact LV.drew1 Hb_96.out | exact LV.alloc Hb_96.out _ | exact LV.drew1 (LV.alloc Hb_96.out _)) hb98); clear Hb_96; have Hr_100 := Lib.hid (LV.step (v := .agg #[.bool (decide (R < 0)), .slice A41 (dig (R).natAbs).length c41]) (z := R) (by first | exact Hr_96.out | exact LV.drew1 Hr_96.out | exact LV.alloc Hr_96.out _ | exact LV.drew1 (LV.alloc Hr_96.out _)) hb98); clear Hr_96; have Hs_100 := Lib.hid (LV.step (v := .agg #[.bool (decide (X < 0)), .slice A73 (dig (X).natAbs).length c73]) (z := X) (by first | exact Hs_96.out | exact LV.drew1 Hs_96.out | exact LV.alloc Hs_96.out _ | exact LV.drew1 (LV.alloc Hs_96.out _)) hb98); clear Hs_96; have Hsr_100 := Lib.hid (LV.step (v := .agg #[.bool (decide (D < 0)), .slice Asr (dig (D).natAbs).length csr]) (z := D) (by first | exact Hsr_96.out | exact LV.drew1 Hsr_96.out | exact LV.alloc Hsr_96.out _ | exact LV.drew1 (LV.alloc Hsr_96.out _)) hb98); clear Hsr_96; have Hsb_100 := Lib.hid (LV.step (v := .agg #[.bool (decide (E < 0)), .slice Asb (dig (E).natAbs).length csb]) (z := E) (by first | exact Hsb.out | exact LV.drew1 Hsb.out | exact LV.alloc Hsb.out _ | exact LV.drew1 (LV.alloc Hsb.out _)) hb98); clear Hsb; rw [cmp_low HDE.out]; clear hb98)))
        rename_i hheld; clear hheld
        clear Hsr_100
        clear Hsb_100
        clear Lb_100
        clear Hb_100
        have q101_0 := Ls_100.cell0
        have q101_1 := Ls_100.cell1
        have q101_2 := Ls_100.frozen 0
        have q101_3 := Ls_100.frozen 1
        have q101_lt := Ls_100.lt
        have q102_0 := La_100.cell0
        have q102_1 := La_100.cell1
        have q102_2 := La_100.frozen 0
        have q102_3 := La_100.frozen 1
        have q102_lt := La_100.lt
        go_wp2_with fail
        refine (Same_num Hs_100.out Ha_100.out).mono ?_
        rintro e w103 ⟨hb103, rfl⟩
        have HB_104 := Lib.hid (HB_99.out.trans (hb103.mono HB_99.out.size))
        clear HB_99
        have La_105 := La_100.step hb103
        clear La_100
        have Lr_105 := Lr_100.step hb103
        clear Lr_100
        have Ls_105 := Ls_100.step hb103
        clear Ls_100
        have Ha_105 := Lib.hid (Ha_100.out.step hb103)
        clear Ha_100
        have Hr_105 := Lib.hid (Hr_100.out.step hb103)
        clear Hr_100
        have Hs_105 := Lib.hid (Hs_100.out.step hb103)
        clear Hs_100
        clear hb103
        clear q101_0 q101_1 q101_2 q101_3 q101_lt q102_0 q102_1 q102_2 q102_3 q102_lt
        rw [show decide (X = X) = true by simp]
        clear Ls_105
        clear Hs_105
        by_cases hr0 : R = 0
        · have hRl : (dig R.natAbs).length = 0 := by rw [hr0, show (0 : Int).natAbs = 0 from rfl, dig_zero]; rfl
          clear hr0
          have q106_0 := Lr_105.cell0
          have q106_1 := Lr_105.cell1
          have q106_2 := Lr_105.frozen 0
          have q106_3 := Lr_105.frozen 1
          have q106_lt := Lr_105.lt
          have q107_0 := La_105.cell0
          have q107_1 := La_105.cell1
          have q107_2 := La_105.frozen 0
          have q107_3 := La_105.frozen 1
          have q107_lt := La_105.lt
          (try rw [hRl] at q106_0)
          (try rw [hRl] at q106_1)
          (try rw [hRl] at q106_2)
          (try rw [hRl] at q106_3)
          (try rw [hRl] at q107_0)
          (try rw [hRl] at q107_1)
          (try rw [hRl] at q107_2)
          (try rw [hRl] at q107_3)
          clear hRl
          go_wp2
          go_roundw
          case rel => exact ⟨k + 1, by omega, by rw [show ((k + 1 : Nat) : Int) = (k : Int) + 1 by omega], Lib.hid (HBW.out.trans (HB_104.out.mono HBW.out.size)), Lib.hid (HP.out.step HB_104.out)⟩
          case measure => simp [intOf] <;> omega
        have hRs := HSG.out hr0
        have hRl : 0 < (dig R.natAbs).length := List.length_pos_iff.2 (fun e => hr0 (Int.natAbs_eq_zero.1 (dig_eq_nil.1 e)))
        clear hr0
        have q108_0 := Lr_105.cell0
        have q108_1 := Lr_105.cell1
        have q108_2 := Lr_105.frozen 0
        have q108_3 := Lr_105.frozen 1
        have q108_lt := Lr_105.lt
        have q109_0 := La_105.cell0
        have q109_1 := La_105.cell1
        have q109_2 := La_105.frozen 0
        have q109_3 := La_105.frozen 1
        have q109_lt := La_105.lt
        (try rw [hRs] at q108_0)
        (try rw [hRs] at q108_1)
        (try rw [hRs] at q108_2)
        (try rw [hRs] at q108_3)
        (try rw [hRs] at q109_0)
        (try rw [hRs] at q109_1)
        (try rw [hRs] at q109_2)
        (try rw [hRs] at q109_3)
        clear hRs
        have hRi : (0 : Int) < ((dig R.natAbs).length : Int) := by omega
        go_wp2
        go_roundw
        case rel => exact ⟨k + 1, by omega, by rw [show ((k + 1 : Nat) : Int) = (k : Int) + 1 by omega], Lib.hid (HBW.out.trans (HB_104.out.mono HBW.out.size)), Lib.hid (HP.out.step HB_104.out)⟩
        case measure => simp [intOf] <;> omega
      · have HV := Lib.hid hv
        have q110_0 := La_0.cell0
        have q110_1 := La_0.cell1
        have q110_2 := La_0.frozen 0
        have q110_3 := La_0.frozen 1
        have q110_lt := La_0.lt
        have q111_0 := Lb_0.cell0
        have q111_1 := Lb_0.cell1
        have q111_2 := Lb_0.frozen 0
        have q111_3 := Lb_0.frozen 1
        have q111_lt := Lb_0.lt
        go_wp2_with fail
        refine (Div_bad HZ.out Ha_0.out Hb_0.out hv).mono ?_
        rintro e w112 ⟨hb112, vq, vr, rfl, hq, hr⟩
        clear hv
        have HB_113 := Lib.hid (HB_0.out.trans (hb112.mono HB_0.out.size))
        clear HB_0
        have La_114 := La_0.step hb112
        clear La_0
        have Lb_114 := Lb_0.step hb112
        clear Lb_0
        have Ha_114 := Lib.hid (Ha_0.out.step hb112)
        clear Ha_0
        have Hb_114 := Lib.hid (Hb_0.out.step hb112)
        clear Hb_0
        clear hb112
        clear q110_0 q110_1 q110_2 q110_3 q110_lt q111_0 q111_1 q111_2 q111_3 q111_lt
        obtain ⟨A115, c115, rfl, -⟩ := hq.parts
        have Hvq_115 := Lib.hid hq
        clear hq
        obtain ⟨A116, c116, rfl, -⟩ := hr.parts
        have Hvr_116 := Lib.hid hr
        clear hr
        have q117_0 := La_114.cell0
        have q117_1 := La_114.cell1
        have q117_2 := La_114.frozen 0
        have q117_3 := La_114.frozen 1
        have q117_lt := La_114.lt
        have q118_0 := Lb_114.cell0
        have q118_1 := Lb_114.cell1
        have q118_2 := Lb_114.frozen 0
        have q118_3 := Lb_114.frozen 1
        have q118_lt := Lb_114.lt
        go_wp2_with fail
        clear q117_0 q117_1 q117_2 q117_3 q117_lt q118_0 q118_1 q118_2 q118_3 q118_lt
        obtain ⟨w119, hW119⟩ : ∃ w119 : World, w119 = w112.alloc (.cells #[.bool (decide (Z < 0)), .slice A115 (dig (Z).natAbs).length c115] 24) := ⟨_, rfl⟩
        rw [← hW119]
        have hal120 : Below w112.heap.size w112 w119 := by rw [hW119]; exact (Below.refl _ _).alloc (Nat.le_refl _) _
        have Lq_120 : LB w119 (w112.heap.size) (.bool (decide (Z < 0))) (.slice A115 (dig (Z).natAbs).length c115) := by rw [hW119]; exact LB.new' (show w112.heap.size = w112.heap.size from (rfl).symm)
        have ne_a_q : ba ≠ w112.heap.size := Nat.ne_of_lt (by have h1 := La_114.lt; have h2 : w112.heap.size = w112.heap.size := rfl; omega)
        have ne_b_q : bb ≠ w112.heap.size := Nat.ne_of_lt (by have h1 := Lb_114.lt; have h2 : w112.heap.size = w112.heap.size := rfl; omega)
        have ge_q : wr.heap.size ≤ w112.heap.size := by have h1 : wr.heap.size ≤ w112.heap.size := HB_113.out.size; have h2 : w112.heap.size = w112.heap.size := rfl; omega
        have HSZ_120 := Lib.hid (show w119.heap.size = w112.heap.size + 1 by rw [hW119]; have h2 : w112.heap.size = w112.heap.size := rfl; simp <;> omega)
        have HB_121 := Lib.hid (HB_113.out.trans (hal120.mono HB_113.out.size))
        clear HB_113
        have La_122 := La_114.step hal120
        clear La_114
        have Lb_122 := Lb_114.step hal120
        clear Lb_114
        have Ha_122 := Lib.hid (Ha_114.out.step hal120)
        clear Ha_114
        have Hb_122 := Lib.hid (Hb_114.out.step hal120)
        clear Hb_114
        have Hvr_122 := Lib.hid (Hvr_116.out.step hal120)
        clear Hvr_116
        have Hq_tmp_122 := Lib.hid (Hvq_115.out.step hal120)
        clear Hvq_115
        clear hal120 hW119
        obtain ⟨w123, hW123⟩ : ∃ w123 : World, w123 = w119.alloc (.cells #[.bool (decide (Z < 0)), .slice A116 (dig (Z).natAbs).length c116] 24) := ⟨_, rfl⟩
        rw [← hW123]
        have hal124 : Below w119.heap.size w119 w123 := by rw [hW123]; exact (Below.refl _ _).alloc (Nat.le_refl _) _
        have Lr_124 : LB w123 (w112.heap.size + 1) (.bool (decide (Z < 0))) (.slice A116 (dig (Z).natAbs).length c116) := by rw [hW123]; exact LB.new' (show w112.heap.size + 1 = w119.heap.size from (HSZ_120.out).symm)
        have ne_a_r : ba ≠ w112.heap.size + 1 := Nat.ne_of_lt (by have h1 := La_122.lt; have h2 : w119.heap.size = w112.heap.size + 1 := HSZ_120.out; omega)
        have ne_b_r : bb ≠ w112.heap.size + 1 := Nat.ne_of_lt (by have h1 := Lb_122.lt; have h2 : w119.heap.size = w112.heap.size + 1 := HSZ_120.out; omega)
        have ne_q_r : w112.heap.size ≠ w112.heap.size + 1 := Nat.ne_of_lt (by have h1 := Lq_120.lt; have h2 : w119.heap.size = w112.heap.size + 1 := HSZ_120.out; omega)
        have ge_r : wr.heap.size ≤ w112.heap.size + 1 := by have h1 : wr.heap.size ≤ w119.heap.size := HB_121.out.size; have h2 : w119.heap.size = w112.heap.size + 1 := HSZ_120.out; omega
        have HSZ_124 := Lib.hid (show w123.heap.size = w112.heap.size + 1 + 1 by rw [hW123]; have h2 : w119.heap.size = w112.heap.size + 1 := HSZ_120.out; simp <;> omega)
        clear HSZ_120
        have HB_125 := Lib.hid (HB_121.out.trans (hal124.mono HB_121.out.size))
        clear HB_121
        have La_126 := La_122.step hal124
        clear La_122
        have Lb_126 := Lb_122.step hal124
        clear Lb_122
        have Lq_126 := Lq_120.step hal124
        clear Lq_120
        have Ha_126 := Lib.hid (Ha_122.out.step hal124)
        clear Ha_122
        have Hb_126 := Lib.hid (Hb_122.out.step hal124)
        clear Hb_122
        have Hq_126 := Lib.hid (Hq_tmp_122.out.step hal124)
        clear Hq_tmp_122
        have Hr_tmp_126 := Lib.hid (Hvr_122.out.step hal124)
        clear Hvr_122
        clear hal124 hW123
        have q127_0 := Lq_126.cell0
        have q127_1 := Lq_126.cell1
        have q127_2 := Lq_126.frozen 0
        have q127_3 := Lq_126.frozen 1
        have q127_lt := Lq_126.lt
        refine (Same_num Hq_126.out (LV.zero _ _)).mono ?_
        rintro e w128 ⟨hb128, rfl⟩
        have HB_129 := Lib.hid (HB_125.out.trans (hb128.mono HB_125.out.size))
        clear HB_125
        have La_130 := La_126.step hb128
        clear La_126
        have Lb_130 := Lb_126.step hb128
        clear Lb_126
        have Lq_130 := Lq_126.step hb128
        clear Lq_126
        have Lr_130 := Lr_124.step hb128
        clear Lr_124
        have Ha_130 := Lib.hid (Ha_126.out.step hb128)
        clear Ha_126
        have Hb_130 := Lib.hid (Hb_126.out.step hb128)
        clear Hb_126
        have Hq_130 := Lib.hid (Hq_126.out.step hb128)
        clear Hq_126
        have Hr_130 := Lib.hid (Hr_tmp_126.out.step hb128)
        clear Hr_tmp_126
        clear hb128
        clear HSZ_124
        clear q127_0 q127_1 q127_2 q127_3 q127_lt
        rw [show decide (Z = 0) = true by rw [HZ.out]; rfl]
        have q131_0 := Lr_130.cell0
        have q131_1 := Lr_130.cell1
        have q131_2 := Lr_130.frozen 0
        have q131_3 := Lr_130.frozen 1
        have q131_lt := Lr_130.lt
        go_wp2_with fail
        refine (Same_num Hr_130.out (LV.zero _ _)).mono ?_
        rintro e w132 ⟨hb132, rfl⟩
        have HB_133 := Lib.hid (HB_129.out.trans (hb132.mono HB_129.out.size))
        clear HB_129
        have La_134 := La_130.step hb132
        clear La_130
        have Lb_134 := Lb_130.step hb132
        clear Lb_130
        have Lq_134 := Lq_130.step hb132
        clear Lq_130
        have Lr_134 := Lr_130.step hb132
        clear Lr_130
        have Ha_134 := Lib.hid (Ha_130.out.step hb132)
        clear Ha_130
        have Hb_134 := Lib.hid (Hb_130.out.step hb132)
        clear Hb_130
        have Hq_134 := Lib.hid (Hq_130.out.step hb132)
        clear Hq_130
        have Hr_134 := Lib.hid (Hr_130.out.step hb132)
        clear Hr_130
        clear hb132
        clear q131_0 q131_1 q131_2 q131_3 q131_lt
        rw [show decide (Z = 0) = true by rw [HZ.out]; rfl]
        by_cases hv1 : Valid n1 l1
        · have hv2 : ¬ Valid n2 l2 := fun h => HV.out ⟨hv1, h⟩
          have q135_0 := La_134.cell0
          have q135_1 := La_134.cell1
          have q135_2 := La_134.frozen 0
          have q135_3 := La_134.frozen 1
          have q135_lt := La_134.lt
          go_wp2_with fail
          refine (Check_good Ha_134.out hv1).mono ?_
          rintro e w136 ⟨hb136, rfl⟩
          have HB_137 := Lib.hid (HB_133.out.trans (hb136.mono HB_133.out.size))
          clear HB_133
          have La_138 := La_134.step hb136
          clear La_134
          have Lb_138 := Lb_134.step hb136
          clear Lb_134
          have Lq_138 := Lq_134.step hb136
          clear Lq_134
          have Lr_138 := Lr_134.step hb136
          clear Lr_134
          have Ha_138 := Lib.hid (Ha_134.out.step hb136)
          clear Ha_134
          have Hb_138 := Lib.hid (Hb_134.out.step hb136)
          clear Hb_134
          have Hq_138 := Lib.hid (Hq_134.out.step hb136)
          clear Hq_134
          have Hr_138 := Lib.hid (Hr_134.out.step hb136)
          clear Hr_134
          clear hb136
          clear q135_0 q135_1 q135_2 q135_3 q135_lt
          have q139_0 := Lb_138.cell0
          have q139_1 := Lb_138.cell1
          have q139_2 := Lb_138.frozen 0
          have q139_3 := Lb_138.frozen 1
          have q139_lt := Lb_138.lt
          go_wp2_with fail
          refine (Check_bad Hb_138.out hv2).mono ?_
          rintro e w140 ⟨hb140, rfl⟩
          have HB_141 := Lib.hid (HB_137.out.trans (hb140.mono HB_137.out.size))
          clear HB_137
          have La_142 := La_138.step hb140
          clear La_138
          have Lb_142 := Lb_138.step hb140
          clear Lb_138
          have Lq_142 := Lq_138.step hb140
          clear Lq_138
          have Lr_142 := Lr_138.step hb140
          clear Lr_138
          have Ha_142 := Lib.hid (Ha_138.out.step hb140)
          clear Ha_138
          have Hb_142 := Lib.hid (Hb_138.out.step hb140)
          clear Hb_138
          have Hq_142 := Lib.hid (Hq_138.out.step hb140)
          clear Hq_138
          have Hr_142 := Lib.hid (Hr_138.out.step hb140)
          clear Hr_138
          clear hb140
          clear q139_0 q139_1 q139_2 q139_3 q139_lt
          go_wp2
          go_roundw
          case rel => exact ⟨k + 1, by omega, by rw [show ((k + 1 : Nat) : Int) = (k : Int) + 1 by omega], Lib.hid (HBW.out.trans (HB_141.out.mono HBW.out.size)), Lib.hid (HP.out.step HB_141.out)⟩
          case measure => simp [intOf] <;> omega
        · skip
          have q143_0 := La_134.cell0
          have q143_1 := La_134.cell1
          have q143_2 := La_134.frozen 0
          have q143_3 := La_134.frozen 1
          have q143_lt := La_134.lt
          go_wp2_with fail
          refine (Check_bad Ha_134.out hv1).mono ?_
          rintro e w144 ⟨hb144, rfl⟩
          have HB_145 := Lib.hid (HB_133.out.trans (hb144.mono HB_133.out.size))
          clear HB_133
          have La_146 := La_134.step hb144
          clear La_134
          have Lb_146 := Lb_134.step hb144
          clear Lb_134
          have Lq_146 := Lq_134.step hb144
          clear Lq_134
          have Lr_146 := Lr_134.step hb144
          clear Lr_134
          have Ha_146 := Lib.hid (Ha_134.out.step hb144)
          clear Ha_134
          have Hb_146 := Lib.hid (Hb_134.out.step hb144)
          clear Hb_134
          have Hq_146 := Lib.hid (Hq_134.out.step hb144)
          clear Hq_134
          have Hr_146 := Lib.hid (Hr_134.out.step hb144)
          clear Hr_134
          clear hb144
          clear q143_0 q143_1 q143_2 q143_3 q143_lt
          go_wp2
          go_roundw
          case rel => exact ⟨k + 1, by omega, by rw [show ((k + 1 : Nat) : Int) = (k : Int) + 1 by omega], Lib.hid (HBW.out.trans (HB_145.out.mono HBW.out.size)), Lib.hid (HP.out.step HB_145.out)⟩
          case measure => simp [intOf] <;> omega
end Go.Proofs.YtnbanlmkoljghaaGreatDoor
