/- The law LongMakes (written by gen_makes.py). -/
import Derived.Test.YtnbanlmkoljghaaGreatDoorLawC
import Derived.Test.YtnbanlmkoljghaaGreatDoorRef
import Derived.Test.YtnbanlmkoljghaaGreatDoorRInt
namespace Go.Proofs.YtnbanlmkoljghaaGreatDoor
open Go Go.RowKit Dig

/-- What Check answers. -/
noncomputable def chkOf (n : Bool) (l : List Int) : Int := open Classical in if Valid n l then 0 else 30
theorem Check_chk {w : World} {v : Value} {n : Bool} {l : List Int} (h : LR w w.heap.size v n l) :
    Calls Tryz.prog 54 #[v] w fun e w' => Below w.heap.size w w' ∧ e = .returned (.int .i64 (chkOf n l)) := by
  refine (Check_any w v n l h).mono ?_
  rintro e w' ⟨hw, c, rfl, hc⟩
  refine ⟨hw, ?_⟩
  unfold chkOf
  rcases hc with ⟨hv, rfl⟩ | ⟨hv, rfl⟩
  · rw [if_pos hv]
  · rw [if_neg hv]
theorem RCheck_chk {w : World} {v : Value} {n : Bool} {l : List Int} (h : LR w w.heap.size v n l) :
    Calls Tryz.prog 55 #[v] w fun e w' => Below w.heap.size w w' ∧ e = .returned (.int .i64 (chkOf n l)) := by
  refine (RCheck_any w v n l h).mono ?_
  rintro e w' ⟨hw, c, rfl, hc⟩
  refine ⟨hw, ?_⟩
  unfold chkOf
  rcases hc with ⟨hv, rfl⟩ | ⟨hv, rfl⟩
  · rw [if_pos hv]
  · rw [if_neg hv]

set_option maxRecDepth 100000 in
set_option maxHeartbeats 8000000 in
theorem LongMakes_any (w : World) (G : Glob w) (na : Bool) (sa : Value) (la : List Int) (nb : Bool) (sb : Value) (lb : List Int) (nx : Bool) (lx : Int) (sx : Value) (wx : List Nat) (ny : Bool) (ly : Int) (sy : Value) (wy : List Nat)
    (ha : RI w w.heap.size sa la) (hb : RI w w.heap.size sb lb) (hx0 : 0 ≤ lx) (hx1 : lx ≤ 255) (hx : RW w w.heap.size sx wx) (hy0 : 0 ≤ ly) (hy1 : ly ≤ 255) (hy : RW w w.heap.size sy wy) (m : Int) (hm0 : -9223372036854775808 ≤ m) (hm1 : m ≤ 9223372036854775807) :
    Calls Tryz.prog 11 #[.agg #[.bool na, sa, .bool nb, sb, .bool nx, .int .u8 lx, sx, .bool ny, .int .u8 ly, sy], .int .i64 m] w fun e w' => Below w.heap.size w w' ∧ e = .returned (.bool true) := by
  obtain ⟨X0, hX⟩ : ∃ z, sgn nx (val (draftDs (lx.toNat % 8) 40 wx)) = z := ⟨_, rfl⟩
  obtain ⟨Y0, hY⟩ : ∃ z, sgn ny (val (draftDs (ly.toNat % 8) 40 wy)) = z := ⟨_, rfl⟩
  obtain ⟨V0, hV⟩ : ∃ z, sgn ny (val (draftDs 0 3 wy)) = z := ⟨_, rfl⟩
  obtain ⟨U0, hU⟩ : ∃ z, sgn nx (val (draftDs 0 3 wx)) = z := ⟨_, rfl⟩
  have hlX0 : Hid (Len 60 X0) := Lib.hid (by rw [← hX, Len]; exact Nat.le_trans (draft_fit (m := 47) (by omega)) (by omega))
  have hlY0 : Hid (Len 60 Y0) := Lib.hid (by rw [← hY, Len]; exact Nat.le_trans (draft_fit (m := 47) (by omega)) (by omega))
  have hlV0 : Hid (Len 60 V0) := Lib.hid (by rw [← hV, Len]; exact Nat.le_trans (draft_fit (m := 47) (by omega)) (by omega))
  have hlU0 : Hid (Len 60 U0) := Lib.hid (by rw [← hU, Len]; exact Nat.le_trans (draft_fit (m := 47) (by omega)) (by omega))
  have HB0 := Lib.hid ((Below.refl w.heap.size w).alloc (Nat.le_refl _) (.cells #[.bool na, sa, .bool nb, sb, .bool nx, .int .u8 lx, sx, .bool ny, .int .u8 ly, sy] 29))
  have B1 := CB.new w 29 #[.bool na, sa, .bool nb, sb, .bool nx, .int .u8 lx, sx, .bool ny, .int .u8 ly, sy]
  replace ha := Lib.hid (ha.step HB0.out)
  replace hb := Lib.hid (hb.step HB0.out)
  replace hx := Lib.hid (hx.step HB0.out)
  replace hy := Lib.hid (hy.step HB0.out)
  go_enter Tryz.func11, Tryz.ntmps11
  go_wp2_with fail
  refine (works_any _ (G.step HB0.out)).mono ?_
  rintro e w1 ⟨hb1, rfl⟩
  have HB1 := Lib.hid (HB0.out.trans (hb1.mono HB0.out.size))
  replace B1 := B1.step hb1
  replace ha := Lib.hid (ha.out.step hb1)
  replace hb := Lib.hid (hb.out.step hb1)
  replace hx := Lib.hid (hx.out.step hb1)
  replace hy := Lib.hid (hy.out.step hb1)
  clear hb1 HB0
  have B1' := B1
  go_wp2_with fail
  refine (Of_any _ m hm0 hm1).mono ?_
  rintro e w3 ⟨hb3, v3, rfl, hv3⟩
  have U3 := Lib.hid hb3; have HV3 := Lib.hid hv3; clear hb3 hv3
  go_wp2_with fail
  refine (ROf_any _ m hm0 hm1).mono ?_
  rintro e w4 ⟨hb4, v4, rfl, hv4⟩
  have U4 := Lib.hid hb4; have HV4 := Lib.hid hv4; clear hb4 hv4
  go_wp2_with fail
  refine (SameR_num (HV3.out.step U4.out) HV4.out).mono ?_
  rintro e w5 ⟨hb5, rfl⟩
  rw [show decide (m = m) = true by simp]
  have U5 := Lib.hid hb5; clear hb5
  have U35 := Lib.hid (U3.out.trans ((U4.out.trans (U5.out.mono U4.out.size)).mono U3.out.size))
  replace B1 := B1.step U35.out
  clear B1'
  replace ha := Lib.hid (ha.out.step U35.out)
  replace hb := Lib.hid (hb.out.step U35.out)
  replace hx := Lib.hid (hx.out.step U35.out)
  replace hy := Lib.hid (hy.out.step U35.out)
  have HB1' := Lib.hid (HB1.out.trans (U35.out.mono HB1.out.size))
  clear HB1 U3 U4 U5 U35 HV3 HV4
  have HB1 := HB1'
  clear HB1'
  have q0 := B1.cell 0 rfl
  have q1 := B1.cell 1 rfl
  have q2 := B1.cell 2 rfl
  have q3 := B1.cell 3 rfl
  have q4 := B1.cell 4 rfl
  have q5 := B1.cell 5 rfl
  have q6 := B1.cell 6 rfl
  have q7 := B1.cell 7 rfl
  have q8 := B1.cell 8 rfl
  have q9 := B1.cell 9 rfl
  go_wp2_with fail
  refine (pairs_any _ na nb nx ny sa sb sx sy la lb lx ly wx wy ha.out hb.out hx0 hx1 hx.out hy0 hy1 hy.out X0 Y0 V0 U0 hX hY hV hU).mono ?_
  rintro e w2 ⟨hb2, g, s0, s1, s2, s3, s4, s5, s6, s7, rfl, -, HP⟩
  have HB2 := Lib.hid (HB1.out.trans (hb2.mono HB1.out.size))
  replace HP := Lib.hid HP
  clear q0 q1 q2 q3 q4 q5 q6 q7 q8 q9 hb2 HB1 B1 ha hb hx hy hX hY hV hU hx0 hx1 hy0 hy1
  go_wp2
  go_loopw [26] (fun i wr => ∃ k : Nat, k ≤ 4 ∧ i = .int .i64 k ∧ Hid (Below w.heap.size w wr) ∧ Hid (Pairs wr g na nb la lb X0 Y0 V0 U0 s0 s1 s2 s3 s4 s5 s6 s7)) (fun i _ => 4 - (intOf i).toNat)
  case atStart => exact ⟨0, by omega, rfl, HB2, HP⟩
  case round =>
    clear HB2 HP
    obtain ⟨k, hk, rfl, HBW, HP⟩ := hrel
    have G1 := Lib.hid (G.step HBW.out)
    by_cases hk2 : k = 4
    · subst hk2
      rw [show ((4 : Nat) : Int) = 4 from rfl]
      go_wp2
      go_ret
      exact ⟨HBW.out, rfl⟩
    obtain ⟨n1, l1, R1, c1, n2, l2, R2, c2, p0, p1, p2, p3, v1, v2, h60a, h60b⟩ := HP.out.any60 hlX0.out hlY0.out hlV0.out hlU0.out k (by omega)
    have H60a := Lib.hid h60a; have H60b := Lib.hid h60b; clear h60a h60b
    generalize hk1 : l1.length = k1 at *; generalize hk2' : l2.length = k2 at *
    have HK1 := Lib.hid hk1; have HK2 := Lib.hid hk2'; clear hk1 hk2'
    replace H60a := Lib.hid (show l1.length ≤ 60 by rw [HK1.out]; exact H60a.out); replace H60b := Lib.hid (show l2.length ≤ 60 by rw [HK2.out]; exact H60b.out)
    have hki : (k : Int) < 4 := by omega
    go_upto_region 8 with (fail)
    obtain ⟨wp, hwp⟩ : ∃ wp : World, wp = wr.alloc (.cells #[.bool n1, .slice R1 k1 c1, .bool n2, .slice R2 k2 c2] 33) := ⟨_, rfl⟩
    rw [← hwp]
    have hBp : Below wr.heap.size wr wp := by rw [hwp]; exact (Below.refl _ _).alloc (Nat.le_refl _) _
    have P0 : CB wp wr.heap.size 33 #[.bool n1, .slice R1 k1 c1, .bool n2, .slice R2 k2 c2] := by rw [hwp]; exact CB.new _ _ _
    have HA := Lib.hid (LR.step v1 hBp); have HB := Lib.hid (LR.step v2 hBp)
    have HBp := Lib.hid hBp; have zp : wr.heap.size + 1 ≤ wp.heap.size := (by rw [hwp]; simp)
    clear p0 p1 p2 p3 v1 v2 hBp hwp
    obtain ⟨⟨zc, zce⟩, hrzc⟩ : ∃ r : Int × Int, r = A2 cmpZ (numOf n1 l1) (numOf n2 l2) := ⟨_, rfl⟩
    have HRzc := Lib.hid hrzc; clear hrzc
    have q3_0 := P0.cell 0 rfl
    have q3_1 := P0.cell 1 rfl
    have q3_2 := P0.cell 2 rfl
    have q3_3 := P0.cell 3 rfl
    have q3_lt := P0.lt
    go_wp2_with fail
    refine (CmpL_any _ _ _ _ _ _ _ HA.out HB.out).mono ?_
    rintro e w2 ⟨hb2, hret1⟩
    have B4 := Lib.hid hb2
    have z4 := B4.out.size
    have HB5 := Lib.hid (HBp.out.trans (B4.out.mono HBp.out.size))
    clear hb2
    clear q3_0 q3_1 q3_2 q3_3 q3_lt
    rw [← HRzc.out] at hret1; obtain rfl := hret1
    have Lp_8 := CB.step P0 B4.out
    have q9_0 := Lp_8.cell 0 rfl
    have q9_1 := Lp_8.cell 1 rfl
    have q9_2 := Lp_8.cell 2 rfl
    have q9_3 := Lp_8.cell 3 rfl
    have q9_lt := Lp_8.lt
    go_wp2_with fail
    have Hpa_10 := Lib.hid (LR.step HA.out B4.out)
    have Hpb_11 := Lib.hid (LR.step HB.out B4.out)
    refine (RCmp_any _ _ _ _ _ _ _ Hpa_10.out Hpb_11.out).mono ?_
    rintro e w7 ⟨hb7, hret6⟩
    have B12 := Lib.hid hb7
    have z12 := B12.out.size
    have HB13 := Lib.hid (HB5.out.trans (B12.out.mono HB5.out.size))
    clear hb7
    clear q9_0 q9_1 q9_2 q9_3 q9_lt
    rw [← HRzc.out] at hret6; obtain rfl := hret6
    obtain ⟨⟨zi, zie⟩, hrzi⟩ : ∃ r : Int × Int, r = A1 intZ (numOf n1 l1) := ⟨_, rfl⟩
    have HRzi := Lib.hid hrzi; clear hrzi
    have Lp_16 := CB.step Lp_8 B12.out
    have q17_0 := Lp_16.cell 0 rfl
    have q17_1 := Lp_16.cell 1 rfl
    have q17_2 := Lp_16.cell 2 rfl
    have q17_3 := Lp_16.cell 3 rfl
    have q17_lt := Lp_16.lt
    go_wp2_with fail
    have Hpa_18 := Lib.hid (LR.step Hpa_10.out B12.out)
    refine (Int_any _ _ _ _ Hpa_18.out (G1.out.step HB13.out)).mono ?_
    rintro e w15 ⟨hb15, hret14⟩
    have B19 := Lib.hid hb15
    have z19 := B19.out.size
    have HB20 := Lib.hid (HB13.out.trans (B19.out.mono HB13.out.size))
    clear hb15
    clear q17_0 q17_1 q17_2 q17_3 q17_lt
    rw [← HRzi.out] at hret14; obtain rfl := hret14
    have Lp_23 := CB.step Lp_16 B19.out
    have q24_0 := Lp_23.cell 0 rfl
    have q24_1 := Lp_23.cell 1 rfl
    have q24_2 := Lp_23.cell 2 rfl
    have q24_3 := Lp_23.cell 3 rfl
    have q24_lt := Lp_23.lt
    go_wp2_with fail
    have Hpa_25 := Lib.hid (LR.step Hpa_18.out B19.out)
    refine (RInt_any _ _ _ _ Hpa_25.out).mono ?_
    rintro e w22 ⟨hb22, hret21⟩
    have B26 := Lib.hid hb22
    have z26 := B26.out.size
    have HB27 := Lib.hid (HB20.out.trans (B26.out.mono HB20.out.size))
    clear hb22
    clear q24_0 q24_1 q24_2 q24_3 q24_lt
    rw [← HRzi.out] at hret21; obtain rfl := hret21
    have Hpa_28 := Lib.hid (LR.step Hpa_25.out B26.out)
    have P2_4_29 := Lib.hid (B12.out.trans (B19.out.mono B12.out.size))
    have P2_5_30 := Lib.hid (P2_4_29.out.trans (B26.out.mono P2_4_29.out.size))
    have Hpb_31 := Lib.hid (LR.step Hpb_11.out P2_5_30.out)
    have Lp_32 := CB.step Lp_23 B26.out
    have KS : ∀ w' : World, Below w22.heap.size w22 w' → (Below w22.heap.size w22 w' ∧ w'.cell? ⟨wr.heap.size, 0, none⟩ = some (.bool n1) ∧ w'.cell? ⟨wr.heap.size, 1, none⟩ = some (.slice R1 k1 c1) ∧ w'.cell? ⟨wr.heap.size, 2, none⟩ = some (.bool n2) ∧ w'.cell? ⟨wr.heap.size, 3, none⟩ = some (.slice R2 k2 c2)) := fun w' h => ⟨h, (Lp_32.step h).cell 0 rfl, (Lp_32.step h).cell 1 rfl, (Lp_32.step h).cell 2 rfl, (Lp_32.step h).cell 3 rfl⟩
    have KB : ∀ w' : World, (Below w22.heap.size w22 w' ∧ w'.cell? ⟨wr.heap.size, 0, none⟩ = some (.bool n1) ∧ w'.cell? ⟨wr.heap.size, 1, none⟩ = some (.slice R1 k1 c1) ∧ w'.cell? ⟨wr.heap.size, 2, none⟩ = some (.bool n2) ∧ w'.cell? ⟨wr.heap.size, 3, none⟩ = some (.slice R2 k2 c2)) → Below w22.heap.size w22 w' := fun w' h => h.1
    obtain ⟨-, p0, p1, p2, p3⟩ := KS w22 (Below.refl _ _)
    obtain ⟨cc, hcc⟩ : ∃ c, c = chkOf n1 l1 := ⟨_, rfl⟩
    have HCC := Lib.hid hcc; clear hcc
    obtain ⟨bs, hbs⟩ : ∃ b, b = decide (n1 = n2 ∧ l1 = l2) := ⟨_, rfl⟩
    have HBS := Lib.hid hbs; clear hbs
    have tok1 : True := trivial
    have tok2 : True := trivial
    have tok3 : True := trivial
    have tok4 : True := trivial
    have tok5 : True := trivial
    have tok6 : True := trivial
    go_wp2_with fail
    go_region_held3 (fun w' => Below w22.heap.size w22 w' ∧ w'.cell? ⟨wr.heap.size, 0, none⟩ = some (.bool n1) ∧ w'.cell? ⟨wr.heap.size, 1, none⟩ = some (.slice R1 k1 c1) ∧ w'.cell? ⟨wr.heap.size, 2, none⟩ = some (.bool n2) ∧ w'.cell? ⟨wr.heap.size, 3, none⟩ = some (.slice R2 k2 c2)) (first
      | (refine KS _ ?_; repeat (first | with_reducible exact KU.out | with_reducible exact Below.refl _ _ | with_reducible refine below_drew1 ?_))
      | go_keep) (first
      | (go_at_call 54; clear tok1; ((with_reducible refine (Check_chk (by exact LR.step Hpa_28.out (KB _ (by assumption)))).mono ?_); rintro e u ⟨hbu, rfl⟩; rw [← HCC.out]; have KU := Lib.hid (Below.trans (KB _ (by assumption)) (hbu.mono (KB _ (by assumption)).size)); clear hbu))
      | (go_at_call 55; clear tok2; ((with_reducible refine (RCheck_chk (by exact LR.step Hpa_28.out (KB _ (by assumption)))).mono ?_); rintro e u ⟨hbu, rfl⟩; rw [← HCC.out]; clear KU; have KU := Lib.hid (Below.trans (KB _ (by assumption)) (hbu.mono (KB _ (by assumption)).size)); clear hbu))
      | (go_at_call 40; clear tok3; ((with_reducible refine (Same_any _ _ _ n1 n2 l1 l2 (by exact LR.step Hpa_28.out (KB _ (by assumption))) (by exact LR.step Hpb_31.out (KB _ (by assumption)))).mono ?_); rintro e u ⟨hbu, rfl⟩; rw [← HBS.out]; clear KU; have KU := Lib.hid (Below.trans (KB _ (by assumption)) (hbu.mono (KB _ (by assumption)).size)); clear hbu))
      | (go_at_call 24; clear tok4; ((with_reducible refine (SameR_any _ _ _ n1 n2 l1 l2 (by exact LR.step Hpa_28.out (KB _ (by assumption))) (by exact LR.step Hpb_31.out (KB _ (by assumption)))).mono ?_); rintro e u ⟨hbu, rfl⟩; rw [← HBS.out]; clear KU; have KU := Lib.hid (Below.trans (KB _ (by assumption)) (hbu.mono (KB _ (by assumption)).size)); clear hbu))
      | (go_at_call 18; clear tok5; ((with_reducible refine (own60 (n := n1) (l := l1) (by exact LR.step Hpa_28.out (KB _ (by assumption))) H60a.out).mono ?_); rintro e u5 ⟨hbu, A5, c5, rfl, hv5⟩; have HV5 := Lib.hid hv5; clear hv5 KU; have KU := Lib.hid (Below.trans (KB _ (by assumption)) (hbu.mono (KB _ (by assumption)).size)); clear hbu))
      | (go_at_call 40; clear tok6; ((with_reducible refine (Same_yes (n := n1) (l := l1) (by exact LR.step Hpa_28.out (KB _ (by assumption))) (by repeat (first | with_reducible exact HV5.out | with_reducible refine LR.drew1 ?_))).mono ?_); rintro e u ⟨hbu, rfl⟩; clear KU; have KU := Lib.hid (Below.trans (KB _ (by assumption)) (hbu.mono (KB _ (by assumption)).size)); clear hbu)))
    rename_i hheld
    have HEND := Lib.hid (HB27.out.trans (KU.out.mono HB27.out.size))
    clear hheld KS KB KU HV5 p0 p1 p2 p3
    simp only [Exit.then]
    go_wp2
    go_roundw
    case rel => exact ⟨k + 1, by omega, by rw [show ((k + 1 : Nat) : Int) = (k : Int) + 1 by omega], Lib.hid (HBW.out.trans (HEND.out.mono HBW.out.size)), Lib.hid (HP.out.step HEND.out)⟩
    case measure => simp [intOf] <;> omega
end Go.Proofs.YtnbanlmkoljghaaGreatDoor
