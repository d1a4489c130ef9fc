/- The law LongSums (written by gen_sums.py). -/
import Derived.Test.YtnbanlmkoljghaaGreatDoorLawC
import Derived.Test.YtnbanlmkoljghaaGreatDoorRef
namespace Go.Proofs.YtnbanlmkoljghaaGreatDoor
open Go Go.RowKit Dig

set_option maxRecDepth 100000 in
set_option maxHeartbeats 8000000 in
theorem LongSums_any (w : World) (G : Glob w) (na : Bool) (sa : Value) (la : List Int) (nb : Bool) (sb : Value) (lb : List Int) (nx : Bool) (lx : Int) (sx : Value) (wx : List Nat) (ny : Bool) (ly : Int) (sy : Value) (wy : List Nat)
    (ha : RI w w.heap.size sa la) (hb : RI w w.heap.size sb lb) (hx0 : 0 ≤ lx) (hx1 : lx ≤ 255) (hx : RW w w.heap.size sx wx) (hy0 : 0 ≤ ly) (hy1 : ly ≤ 255) (hy : RW w w.heap.size sy wy) :
    Calls Tryz.prog 10 #[.agg #[.bool na, sa, .bool nb, sb, .bool nx, .int .u8 lx, sx, .bool ny, .int .u8 ly, sy]] w fun e w' => Below w.heap.size w w' ∧ e = .returned (.bool true) := by
  obtain ⟨X0, hX⟩ : ∃ z, sgn nx (val (draftDs (lx.toNat % 8) 40 wx)) = z := ⟨_, rfl⟩
  obtain ⟨Y0, hY⟩ : ∃ z, sgn ny (val (draftDs (ly.toNat % 8) 40 wy)) = z := ⟨_, rfl⟩
  obtain ⟨V0, hV⟩ : ∃ z, sgn ny (val (draftDs 0 3 wy)) = z := ⟨_, rfl⟩
  obtain ⟨U0, hU⟩ : ∃ z, sgn nx (val (draftDs 0 3 wx)) = z := ⟨_, rfl⟩
  have hlX0 : Hid (Len 60 X0) := Lib.hid (by rw [← hX, Len]; exact Nat.le_trans (draft_fit (m := 47) (by omega)) (by omega))
  have hlY0 : Hid (Len 60 Y0) := Lib.hid (by rw [← hY, Len]; exact Nat.le_trans (draft_fit (m := 47) (by omega)) (by omega))
  have hlV0 : Hid (Len 60 V0) := Lib.hid (by rw [← hV, Len]; exact Nat.le_trans (draft_fit (m := 47) (by omega)) (by omega))
  have hlU0 : Hid (Len 60 U0) := Lib.hid (by rw [← hU, Len]; exact Nat.le_trans (draft_fit (m := 47) (by omega)) (by omega))
  have HB0 := Lib.hid ((Below.refl w.heap.size w).alloc (Nat.le_refl _) (.cells #[.bool na, sa, .bool nb, sb, .bool nx, .int .u8 lx, sx, .bool ny, .int .u8 ly, sy] 29))
  have B1 := CB.new w 29 #[.bool na, sa, .bool nb, sb, .bool nx, .int .u8 lx, sx, .bool ny, .int .u8 ly, sy]
  replace ha := Lib.hid (ha.step HB0.out)
  replace hb := Lib.hid (hb.step HB0.out)
  replace hx := Lib.hid (hx.step HB0.out)
  replace hy := Lib.hid (hy.step HB0.out)
  go_enter Tryz.func10, Tryz.ntmps10
  go_wp2_with fail
  refine (works_any _ (G.step HB0.out)).mono ?_
  rintro e w1 ⟨hb1, rfl⟩
  have HB1 := Lib.hid (HB0.out.trans (hb1.mono HB0.out.size))
  replace B1 := B1.step hb1
  replace ha := Lib.hid (ha.out.step hb1)
  replace hb := Lib.hid (hb.out.step hb1)
  replace hx := Lib.hid (hx.out.step hb1)
  replace hy := Lib.hid (hy.out.step hb1)
  clear hb1 HB0
  have q0 := B1.cell 0 rfl
  have q1 := B1.cell 1 rfl
  have q2 := B1.cell 2 rfl
  have q3 := B1.cell 3 rfl
  have q4 := B1.cell 4 rfl
  have q5 := B1.cell 5 rfl
  have q6 := B1.cell 6 rfl
  have q7 := B1.cell 7 rfl
  have q8 := B1.cell 8 rfl
  have q9 := B1.cell 9 rfl
  go_wp2_with fail
  refine (pairs_any _ na nb nx ny sa sb sx sy la lb lx ly wx wy ha.out hb.out hx0 hx1 hx.out hy0 hy1 hy.out X0 Y0 V0 U0 hX hY hV hU).mono ?_
  rintro e w2 ⟨hb2, g, s0, s1, s2, s3, s4, s5, s6, s7, rfl, -, HP⟩
  have HB2 := Lib.hid (HB1.out.trans (hb2.mono HB1.out.size))
  replace HP := Lib.hid HP
  clear q0 q1 q2 q3 q4 q5 q6 q7 q8 q9 hb2 HB1 B1 ha hb hx hy hX hY hV hU hx0 hx1 hy0 hy1
  go_wp2
  go_loopw [24] (fun i wr => ∃ k : Nat, k ≤ 4 ∧ i = .int .i64 k ∧ Hid (Below w.heap.size w wr) ∧ Hid (Pairs wr g na nb la lb X0 Y0 V0 U0 s0 s1 s2 s3 s4 s5 s6 s7)) (fun i _ => 4 - (intOf i).toNat)
  case atStart => exact ⟨0, by omega, rfl, HB2, HP⟩
  case round =>
    clear HB2 HP
    obtain ⟨k, hk, rfl, HBW, HP⟩ := hrel
    have G1 := Lib.hid (G.step HBW.out)
    by_cases hk2 : k = 4
    · subst hk2
      rw [show ((4 : Nat) : Int) = 4 from rfl]
      go_wp2
      go_ret
      exact ⟨HBW.out, rfl⟩
    obtain ⟨n1, l1, R1, c1, n2, l2, R2, c2, p0, p1, p2, p3, v1, v2, h60a, h60b⟩ := HP.out.any60 hlX0.out hlY0.out hlV0.out hlU0.out k (by omega)
    have H60a := Lib.hid h60a; have H60b := Lib.hid h60b; clear h60a h60b
    generalize hk1 : l1.length = k1 at *; generalize hk2' : l2.length = k2 at *
    have HK1 := Lib.hid hk1; have HK2 := Lib.hid hk2'; clear hk1 hk2'
    replace H60a := Lib.hid (show l1.length ≤ 60 by rw [HK1.out]; exact H60a.out); replace H60b := Lib.hid (show l2.length ≤ 60 by rw [HK2.out]; exact H60b.out)
    have hki : (k : Int) < 4 := by omega
    go_upto_region 6 with (fail)
    obtain ⟨wp, hwp⟩ : ∃ wp : World, wp = wr.alloc (.cells #[.bool n1, .slice R1 k1 c1, .bool n2, .slice R2 k2 c2] 33) := ⟨_, rfl⟩
    rw [← hwp]
    have hBp : Below wr.heap.size wr wp := by rw [hwp]; exact (Below.refl _ _).alloc (Nat.le_refl _) _
    have P0 : CB wp wr.heap.size 33 #[.bool n1, .slice R1 k1 c1, .bool n2, .slice R2 k2 c2] := by rw [hwp]; exact CB.new _ _ _
    have HA := Lib.hid (LR.step v1 hBp); have HB := Lib.hid (LR.step v2 hBp)
    have HBp := Lib.hid hBp; have zp : wr.heap.size + 1 ≤ wp.heap.size := (by rw [hwp]; simp)
    clear p0 p1 p2 p3 v1 v2 hBp hwp
    have KS : ∀ w' : World, Below wp.heap.size wp w' → (Below wp.heap.size wp w' ∧ w'.cell? ⟨wr.heap.size, 0, none⟩ = some (.bool n1) ∧ w'.cell? ⟨wr.heap.size, 1, none⟩ = some (.slice R1 k1 c1) ∧ w'.cell? ⟨wr.heap.size, 2, none⟩ = some (.bool n2) ∧ w'.cell? ⟨wr.heap.size, 3, none⟩ = some (.slice R2 k2 c2)) := fun w' h => ⟨h, (P0.step h).cell 0 rfl, (P0.step h).cell 1 rfl, (P0.step h).cell 2 rfl, (P0.step h).cell 3 rfl⟩
    have KB : ∀ w' : World, (Below wp.heap.size wp w' ∧ w'.cell? ⟨wr.heap.size, 0, none⟩ = some (.bool n1) ∧ w'.cell? ⟨wr.heap.size, 1, none⟩ = some (.slice R1 k1 c1) ∧ w'.cell? ⟨wr.heap.size, 2, none⟩ = some (.bool n2) ∧ w'.cell? ⟨wr.heap.size, 3, none⟩ = some (.slice R2 k2 c2)) → Below wp.heap.size wp w' := fun w' h => h.1
    obtain ⟨-, p0, p1, p2, p3⟩ := KS wp (Below.refl _ _)
    go_cut [5, 6] (fun sa sb wx => ∃ (ba bb : Nat) (Aa : Option Addr) (ca : Nat) (Ab : Option Addr) (cb : Nat), sa = .pointer (some ⟨ba, 0, none⟩) ∧ sb = .pointer (some ⟨bb, 0, none⟩) ∧ LB wx ba (.bool n1) (.slice Aa k1 ca) ∧ LB wx bb (.bool n2) (.slice Ab k2 cb) ∧ Hid (LR wx wx.heap.size (.agg #[.bool n1, .slice Aa k1 ca]) n1 l1) ∧ Hid (LR wx wx.heap.size (.agg #[.bool n2, .slice Ab k2 cb]) n2 l2) ∧ Hid (ba ≠ bb) ∧ Hid (wr.heap.size + 1 ≤ ba) ∧ Hid (wr.heap.size + 1 ≤ bb) ∧ Hid (Below wp.heap.size wp wx))
    case first =>
      have tok1 : True := trivial
      have tok2 : True := trivial
      go_region_held3 (fun w' => Below wp.heap.size wp w' ∧ w'.cell? ⟨wr.heap.size, 0, none⟩ = some (.bool n1) ∧ w'.cell? ⟨wr.heap.size, 1, none⟩ = some (.slice R1 k1 c1) ∧ w'.cell? ⟨wr.heap.size, 2, none⟩ = some (.bool n2) ∧ w'.cell? ⟨wr.heap.size, 3, none⟩ = some (.slice R2 k2 c2)) (first
        | (refine KS _ ?_; (repeat (first | with_reducible exact KU2.out | with_reducible exact KU1.out | with_reducible exact Below.refl _ _ | with_reducible refine below_alloc1 ?_ _ | with_reducible refine below_set1 ?_ (by first | omega | simp) _ _ | with_reducible refine below_drew1 ?_)))
        | go_keep) (first
        | (go_at_call 18; clear tok1; ((with_reducible refine (own60 (n := n1) (l := l1) (by exact LR.step HA.out (KB _ (by assumption))) H60a.out).mono ?_); rintro e u1 ⟨hbn1, Aa, ca, rfl, hv1⟩; rw [HK1.out] at hv1 ⊢; have KU1 := Lib.hid (Below.trans (KB _ (by assumption)) (hbn1.mono (KB _ (by assumption)).size)); have HV1 := Lib.hid hv1; have gu1 := hbn1.size; (try simp at gu1); (try (refine have_then (T := LB u1 wp.heap.size (.bool false) (.slice none 0 0)) ?_ ?_; (focus (refine LB.step ?_ hbn1; (repeat (first | with_reducible refine LB.drew ?_ | with_reducible exact LB.new' rfl | (with_reducible refine LB.new' ?_; simp; done) | with_reducible refine LB.alloc ?_ _)); done)); intro Lz1)); (try (have Lzc0 := Lz1.cell0; have Lzc1 := Lz1.cell1; have Lzf0 := Lz1.frozen 0; have Lzf1 := Lz1.frozen 1; have Lzlt := Lz1.lt)); (try (refine have_then (T := LB u1 (wp.heap.size + 1) (.bool false) (.slice none 0 0)) ?_ ?_; (focus (refine LB.step ?_ hbn1; (repeat (first | with_reducible refine LB.drew ?_ | with_reducible exact LB.new' rfl | (with_reducible refine LB.new' ?_; simp; done) | with_reducible refine LB.alloc ?_ _)); done)); intro Lx1)); (try (have Lxc0 := Lx1.cell0; have Lxc1 := Lx1.cell1; have Lxf0 := Lx1.frozen 0; have Lxf1 := Lx1.frozen 1; have Lxlt := Lx1.lt))))
        | (go_at_call 18; clear tok2; ((with_reducible refine (own60 (n := n2) (l := l2) (by exact LR.step HB.out (KB _ (by assumption))) H60b.out).mono ?_); rintro e u2 ⟨hbn2, Ab, cb, rfl, hv2⟩; rw [HK2.out] at hv2 ⊢; have HV1b := Lib.hid (LR.step (v := .agg #[.bool n1, .slice Aa k1 ca]) (neg := n1) (ds := l1) (by repeat (first | with_reducible exact HV1.out | with_reducible refine LR.alloc ?_ _ | with_reducible refine LR.drew1 ?_)) hbn2); have KU2 := Lib.hid (Below.trans (KB _ (by assumption)) (hbn2.mono (KB _ (by assumption)).size)); have HV2 := Lib.hid hv2; have gu2 := hbn2.size; (try simp at gu2); (try (refine have_then (T := LB u2 wp.heap.size (.bool false) (.slice none 0 0)) ?_ ?_; (focus (refine LB.step ?_ hbn2; (repeat (first | with_reducible exact Lz1 | with_reducible refine LB.drew ?_ | with_reducible exact LB.new' rfl | (with_reducible refine LB.new' ?_; simp; done) | with_reducible refine LB.alloc ?_ _)); done)); intro Lz2)); (try (have Lzc0 := Lz2.cell0; have Lzc1 := Lz2.cell1; have Lzf0 := Lz2.frozen 0; have Lzf1 := Lz2.frozen 1; have Lzlt := Lz2.lt)); (try (refine have_then (T := LB u2 (wp.heap.size + 1) (.bool false) (.slice none 0 0)) ?_ ?_; (focus (refine LB.step ?_ hbn2; (repeat (first | with_reducible exact Lx1 | with_reducible refine LB.drew ?_ | with_reducible exact LB.new' rfl | (with_reducible refine LB.new' ?_; simp; done) | with_reducible refine LB.alloc ?_ _)); done)); intro Lx2)); (try (have Lxc0 := Lx2.cell0; have Lxc1 := Lx2.cell1; have Lxf0 := Lx2.frozen 0; have Lxf1 := Lx2.frozen 1; have Lxlt := Lx2.lt)); (try (refine have_then (T := LB u2 u1.heap.size (.bool false) (.slice none 0 0)) ?_ ?_; (focus (refine LB.step ?_ hbn2; (repeat (first | with_reducible refine LB.drew ?_ | with_reducible exact LB.new' rfl | (with_reducible refine LB.new' ?_; simp; done) | with_reducible refine LB.alloc ?_ _)); done)); intro Ly2)); (try (have Lyc0 := Ly2.cell0; have Lyc1 := Ly2.cell1; have Lyf0 := Ly2.frozen 0; have Lyf1 := Ly2.frozen 1; have Lylt := Ly2.lt)); (try (refine have_then (T := LB u2 (u1.heap.size + 1) (.bool false) (.slice none 0 0)) ?_ ?_; (focus (refine LB.step ?_ hbn2; (repeat (first | with_reducible refine LB.drew ?_ | with_reducible exact LB.new' rfl | (with_reducible refine LB.new' ?_; simp; done) | with_reducible refine LB.alloc ?_ _)); done)); intro Lw2)); (try (have Lwc0 := Lw2.cell0; have Lwc1 := Lw2.cell1; have Lwf0 := Lw2.frozen 0; have Lwf1 := Lw2.frozen 1; have Lwlt := Lw2.lt)))))
      all_goals
        go_wp2
        go_meet
        refine ⟨_, _, Aa, ca, Ab, cb, rfl, rfl, ?_, ?_, Lib.hid ?_, Lib.hid ?_, Lib.hid ?_, Lib.hid ?_, Lib.hid ?_, Lib.hid ?_⟩
        · (repeat (first | with_reducible exact Lz2 | with_reducible exact Lx2 | with_reducible exact Ly2 | with_reducible exact Lw2 | with_reducible exact LB.new' rfl | (with_reducible refine LB.new' ?_; simp; done) | with_reducible refine lb_put0 ?_ | with_reducible refine lb_far ?_ (by omega) | with_reducible refine LB.alloc ?_ _ | with_reducible refine LB.drew ?_))
        · (repeat (first | with_reducible exact Lz2 | with_reducible exact Lx2 | with_reducible exact Ly2 | with_reducible exact Lw2 | with_reducible exact LB.new' rfl | (with_reducible refine LB.new' ?_; simp; done) | with_reducible refine lb_put0 ?_ | with_reducible refine lb_far ?_ (by omega) | with_reducible refine LB.alloc ?_ _ | with_reducible refine LB.drew ?_))
        · (repeat (first | with_reducible exact HV1b.out | with_reducible exact HV2.out | with_reducible refine LR.alloc ?_ _ | with_reducible refine LR.drew1 ?_ | (with_reducible refine lr_put0 ?_ ?_; focus (repeat (first | with_reducible exact Lz2 | with_reducible exact Lx2 | with_reducible exact Ly2 | with_reducible exact Lw2 | with_reducible exact LB.new' rfl | (with_reducible refine LB.new' ?_; simp; done) | with_reducible refine lb_put0 ?_ | with_reducible refine lb_far ?_ (by omega) | with_reducible refine LB.alloc ?_ _ | with_reducible refine LB.drew ?_)))))
        · (repeat (first | with_reducible exact HV1b.out | with_reducible exact HV2.out | with_reducible refine LR.alloc ?_ _ | with_reducible refine LR.drew1 ?_ | (with_reducible refine lr_put0 ?_ ?_; focus (repeat (first | with_reducible exact Lz2 | with_reducible exact Lx2 | with_reducible exact Ly2 | with_reducible exact Lw2 | with_reducible exact LB.new' rfl | (with_reducible refine LB.new' ?_; simp; done) | with_reducible refine lb_put0 ?_ | with_reducible refine lb_far ?_ (by omega) | with_reducible refine LB.alloc ?_ _ | with_reducible refine LB.drew ?_)))))
        · omega
        · omega
        · omega
        · (repeat (first | with_reducible exact KU2.out | with_reducible exact KU1.out | with_reducible exact Below.refl _ _ | with_reducible refine below_alloc1 ?_ _ | with_reducible refine below_set1 ?_ (by first | omega | simp) _ _ | with_reducible refine below_drew1 ?_))
    case rest =>
      obtain ⟨ba, bb, Aa, ca, Ab, cb, rfl, rfl, La, Lb, Ha, Hb, nab, ga, gb, HBc⟩ := hcut
      have nab' := nab.out; have ga' := ga.out; have gb' := gb.out; have zc := HBc.out.size
      clear nab ga gb KS KB p0 p1 p2 p3
      have HBa := Lib.hid (HBp.out.trans (HBc.out.mono HBp.out.size))
      have q1_0 := La.cell0
      have q1_1 := La.cell1
      have q1_2 := La.frozen 0
      have q1_3 := La.frozen 1
      have q1_lt := La.lt
      have q2_0 := Lb.cell0
      have q2_1 := Lb.cell1
      have q2_2 := Lb.frozen 0
      have q2_3 := Lb.frozen 1
      have q2_lt := Lb.lt
      obtain ⟨⟨zs, zse⟩, hrzs⟩ : ∃ r : Int × Int, r = A2 (fun a b => toldZ (a + b)) (numOf n1 l1) (numOf n2 l2) := ⟨_, rfl⟩
      have HRzs := Lib.hid hrzs; clear hrzs
      go_wp2_with fail
      refine (Add_any _ _ _ _ _ _ _ Ha.out Hb.out).mono ?_
      rintro e w4 ⟨hb4, hret3⟩
      have B5 := Lib.hid hb4
      have z5 := B5.out.size
      have HB6 := Lib.hid (HBa.out.trans (B5.out.mono HBa.out.size))
      clear hb4
      clear q1_0 q1_1 q1_2 q1_3 q1_lt q2_0 q2_1 q2_2 q2_3 q2_lt
      rw [← HRzs.out] at hret3; obtain ⟨v3, rfl, hv3⟩ := hret3; replace hv3 : LV w4 w4.heap.size v3 zs := hv3
      obtain ⟨n7, Ad7, l7, c7, rfl, hv7⟩ := hv3.opened
      have Hs_7 := Lib.hid hv7
      clear hv3 hv7
      have P1_3_9 := Lib.hid (HBc.out.trans (B5.out.mono HBc.out.size))
      have Lp_8 := CB.step P0 P1_3_9.out
      have q10_0 := Lp_8.cell 0 rfl
      have q10_1 := Lp_8.cell 1 rfl
      have q10_2 := Lp_8.cell 2 rfl
      have q10_3 := Lp_8.cell 3 rfl
      have q10_lt := Lp_8.lt
      go_wp2_with fail
      obtain ⟨w11, hW11⟩ : ∃ w11 : World, w11 = (w4.alloc (.cells #[.bool n7, .slice Ad7 l7 c7] 24)) := ⟨_, rfl⟩
      rw [← hW11]
      have hb11 : Below w4.heap.size w4 w11 := by rw [hW11]; (repeat' (first | exact Below.refl _ _ | refine Below.drew ?_ | refine Below.alloc ?_ (by first | exact Nat.le_refl _ | (simp; done) | (simp; omega)) _))
      have Ls_11 : LB w11 (w4.heap.size) (.bool n7) (.slice Ad7 l7 c7) := by rw [hW11]; (repeat (first | (refine LB.new' ?_; simp; done) | refine LB.alloc ?_ _))
      have za11 : w4.heap.size + 1 ≤ w11.heap.size := by rw [hW11]; simp
      have B12 := Lib.hid hb11
      have z12 := B12.out.size
      have HB13 := Lib.hid (HB6.out.trans (B12.out.mono HB6.out.size))
      clear hb11 hW11
      clear q10_0 q10_1 q10_2 q10_3 q10_lt
      have P1_4_16 := Lib.hid (P1_3_9.out.trans (B12.out.mono P1_3_9.out.size))
      have Hpa_17 := Lib.hid (LR.step HA.out P1_4_16.out)
      have Hpb_18 := Lib.hid (LR.step HB.out P1_4_16.out)
      refine (RAdd_any _ _ _ _ _ _ _ Hpa_17.out Hpb_18.out).mono ?_
      rintro e w15 ⟨hb15, hret14⟩
      have B19 := Lib.hid hb15
      have z19 := B19.out.size
      have HB20 := Lib.hid (HB13.out.trans (B19.out.mono HB13.out.size))
      clear hb15
      rw [← HRzs.out] at hret14; obtain ⟨v14, rfl, hv14⟩ := hret14; replace hv14 : LV w15 w15.heap.size v14 zs := hv14
      obtain ⟨n21, Ad21, l21, c21, rfl, hv21⟩ := hv14.opened
      have Hs2_21 := Lib.hid hv21
      clear hv14 hv21
      have P2_4_22 := Lib.hid (B5.out.trans (B12.out.mono B5.out.size))
      have P2_5_23 := Lib.hid (P2_4_22.out.trans (B19.out.mono P2_4_22.out.size))
      have La_24 := LB.step La P2_5_23.out
      have q25_0 := La_24.cell0
      have q25_1 := La_24.cell1
      have q25_2 := La_24.frozen 0
      have q25_3 := La_24.frozen 1
      have q25_lt := La_24.lt
      have Lb_26 := LB.step Lb P2_5_23.out
      have q27_0 := Lb_26.cell0
      have q27_1 := Lb_26.cell1
      have q27_2 := Lb_26.frozen 0
      have q27_3 := Lb_26.frozen 1
      have q27_lt := Lb_26.lt
      go_wp2_with fail
      obtain ⟨w28, hW28⟩ : ∃ w28 : World, w28 = (w15.alloc (.cells #[.bool n21, .slice Ad21 l21 c21] 24)) := ⟨_, rfl⟩
      rw [← hW28]
      have hb28 : Below w15.heap.size w15 w28 := by rw [hW28]; (repeat' (first | exact Below.refl _ _ | refine Below.drew ?_ | refine Below.alloc ?_ (by first | exact Nat.le_refl _ | (simp; done) | (simp; omega)) _))
      have Ls2_28 : LB w28 (w15.heap.size) (.bool n21) (.slice Ad21 l21 c21) := by rw [hW28]; (repeat (first | (refine LB.new' ?_; simp; done) | refine LB.alloc ?_ _))
      have za28 : w15.heap.size + 1 ≤ w28.heap.size := by rw [hW28]; simp
      have B29 := Lib.hid hb28
      have z29 := B29.out.size
      have HB30 := Lib.hid (HB20.out.trans (B29.out.mono HB20.out.size))
      clear hb28 hW28
      clear q25_0 q25_1 q25_2 q25_3 q25_lt q27_0 q27_1 q27_2 q27_3 q27_lt
      obtain ⟨⟨zd, zde⟩, hrzd⟩ : ∃ r : Int × Int, r = A2 (fun a b => toldZ (a - b)) (numOf n1 l1) (numOf n2 l2) := ⟨_, rfl⟩
      have HRzd := Lib.hid hrzd; clear hrzd
      have P2_6_33 := Lib.hid (P2_5_23.out.trans (B29.out.mono P2_5_23.out.size))
      have Ha_34 := Lib.hid (LR.step Ha.out P2_6_33.out)
      have Hb_35 := Lib.hid (LR.step Hb.out P2_6_33.out)
      refine (Sub_any _ _ _ _ _ _ _ Ha_34.out Hb_35.out).mono ?_
      rintro e w32 ⟨hb32, hret31⟩
      have B36 := Lib.hid hb32
      have z36 := B36.out.size
      have HB37 := Lib.hid (HB30.out.trans (B36.out.mono HB30.out.size))
      clear hb32
      rw [← HRzd.out] at hret31; obtain ⟨v31, rfl, hv31⟩ := hret31; replace hv31 : LV w32 w32.heap.size v31 zd := hv31
      obtain ⟨n38, Ad38, l38, c38, rfl, hv38⟩ := hv31.opened
      have Hd_38 := Lib.hid hv38
      clear hv31 hv38
      have P3_5_40 := Lib.hid (B12.out.trans (B19.out.mono B12.out.size))
      have P3_6_41 := Lib.hid (P3_5_40.out.trans (B29.out.mono P3_5_40.out.size))
      have P3_7_42 := Lib.hid (P3_6_41.out.trans (B36.out.mono P3_6_41.out.size))
      have Lp_39 := CB.step Lp_8 P3_7_42.out
      have q43_0 := Lp_39.cell 0 rfl
      have q43_1 := Lp_39.cell 1 rfl
      have q43_2 := Lp_39.cell 2 rfl
      have q43_3 := Lp_39.cell 3 rfl
      have q43_lt := Lp_39.lt
      go_wp2_with fail
      obtain ⟨w44, hW44⟩ : ∃ w44 : World, w44 = (w32.alloc (.cells #[.bool n38, .slice Ad38 l38 c38] 24)) := ⟨_, rfl⟩
      rw [← hW44]
      have hb44 : Below w32.heap.size w32 w44 := by rw [hW44]; (repeat' (first | exact Below.refl _ _ | refine Below.drew ?_ | refine Below.alloc ?_ (by first | exact Nat.le_refl _ | (simp; done) | (simp; omega)) _))
      have Ld_44 : LB w44 (w32.heap.size) (.bool n38) (.slice Ad38 l38 c38) := by rw [hW44]; (repeat (first | (refine LB.new' ?_; simp; done) | refine LB.alloc ?_ _))
      have za44 : w32.heap.size + 1 ≤ w44.heap.size := by rw [hW44]; simp
      have B45 := Lib.hid hb44
      have z45 := B45.out.size
      have HB46 := Lib.hid (HB37.out.trans (B45.out.mono HB37.out.size))
      clear hb44 hW44
      clear q43_0 q43_1 q43_2 q43_3 q43_lt
      have P4_6_49 := Lib.hid (B19.out.trans (B29.out.mono B19.out.size))
      have P4_7_50 := Lib.hid (P4_6_49.out.trans (B36.out.mono P4_6_49.out.size))
      have P4_8_51 := Lib.hid (P4_7_50.out.trans (B45.out.mono P4_7_50.out.size))
      have Hpa_52 := Lib.hid (LR.step Hpa_17.out P4_8_51.out)
      have Hpb_53 := Lib.hid (LR.step Hpb_18.out P4_8_51.out)
      refine (RSub_any _ _ _ _ _ _ _ Hpa_52.out Hpb_53.out).mono ?_
      rintro e w48 ⟨hb48, hret47⟩
      have B54 := Lib.hid hb48
      have z54 := B54.out.size
      have HB55 := Lib.hid (HB46.out.trans (B54.out.mono HB46.out.size))
      clear hb48
      rw [← HRzd.out] at hret47; obtain ⟨v47, rfl, hv47⟩ := hret47; replace hv47 : LV w48 w48.heap.size v47 zd := hv47
      obtain ⟨n56, Ad56, l56, c56, rfl, hv56⟩ := hv47.opened
      have Hd2_56 := Lib.hid hv56
      clear hv47 hv56
      have P5_7_57 := Lib.hid (B29.out.trans (B36.out.mono B29.out.size))
      have P5_8_58 := Lib.hid (P5_7_57.out.trans (B45.out.mono P5_7_57.out.size))
      have P5_9_59 := Lib.hid (P5_8_58.out.trans (B54.out.mono P5_8_58.out.size))
      have La_60 := LB.step La_24 P5_9_59.out
      have q61_0 := La_60.cell0
      have q61_1 := La_60.cell1
      have q61_2 := La_60.frozen 0
      have q61_3 := La_60.frozen 1
      have q61_lt := La_60.lt
      go_wp2_with fail
      obtain ⟨w62, hW62⟩ : ∃ w62 : World, w62 = (w48.alloc (.cells #[.bool n56, .slice Ad56 l56 c56] 24)) := ⟨_, rfl⟩
      rw [← hW62]
      have hb62 : Below w48.heap.size w48 w62 := by rw [hW62]; (repeat' (first | exact Below.refl _ _ | refine Below.drew ?_ | refine Below.alloc ?_ (by first | exact Nat.le_refl _ | (simp; done) | (simp; omega)) _))
      have Ld2_62 : LB w62 (w48.heap.size) (.bool n56) (.slice Ad56 l56 c56) := by rw [hW62]; (repeat (first | (refine LB.new' ?_; simp; done) | refine LB.alloc ?_ _))
      have za62 : w48.heap.size + 1 ≤ w62.heap.size := by rw [hW62]; simp
      have B63 := Lib.hid hb62
      have z63 := B63.out.size
      have HB64 := Lib.hid (HB55.out.trans (B63.out.mono HB55.out.size))
      clear hb62 hW62
      clear q61_0 q61_1 q61_2 q61_3 q61_lt
      obtain ⟨⟨zn, zne⟩, hrzn⟩ : ∃ r : Int × Int, r = A1 (fun a => (-a, 0)) (numOf n1 l1) := ⟨_, rfl⟩
      have HRzn := Lib.hid hrzn; clear hrzn
      have P6_8_67 := Lib.hid (B36.out.trans (B45.out.mono B36.out.size))
      have P6_9_68 := Lib.hid (P6_8_67.out.trans (B54.out.mono P6_8_67.out.size))
      have P6_10_69 := Lib.hid (P6_9_68.out.trans (B63.out.mono P6_9_68.out.size))
      have Ha_70 := Lib.hid (LR.step Ha_34.out P6_10_69.out)
      refine (Neg_any _ _ _ _ Ha_70.out).mono ?_
      rintro e w66 ⟨hb66, hret65⟩
      have B71 := Lib.hid hb66
      have z71 := B71.out.size
      have HB72 := Lib.hid (HB64.out.trans (B71.out.mono HB64.out.size))
      clear hb66
      rw [← HRzn.out] at hret65; obtain ⟨v65, rfl, hv65⟩ := hret65; replace hv65 : LV w66 w66.heap.size v65 zn := hv65
      obtain ⟨n73, Ad73, l73, c73, rfl, hv73⟩ := hv65.opened
      have Hn_73 := Lib.hid hv73
      clear hv65 hv73
      have P7_9_75 := Lib.hid (B45.out.trans (B54.out.mono B45.out.size))
      have P7_10_76 := Lib.hid (P7_9_75.out.trans (B63.out.mono P7_9_75.out.size))
      have P7_11_77 := Lib.hid (P7_10_76.out.trans (B71.out.mono P7_10_76.out.size))
      have Lp_74 := CB.step Lp_39 P7_11_77.out
      have q78_0 := Lp_74.cell 0 rfl
      have q78_1 := Lp_74.cell 1 rfl
      have q78_2 := Lp_74.cell 2 rfl
      have q78_3 := Lp_74.cell 3 rfl
      have q78_lt := Lp_74.lt
      go_wp2_with fail
      obtain ⟨w79, hW79⟩ : ∃ w79 : World, w79 = (w66.alloc (.cells #[.bool n73, .slice Ad73 l73 c73] 24)) := ⟨_, rfl⟩
      rw [← hW79]
      have hb79 : Below w66.heap.size w66 w79 := by rw [hW79]; (repeat' (first | exact Below.refl _ _ | refine Below.drew ?_ | refine Below.alloc ?_ (by first | exact Nat.le_refl _ | (simp; done) | (simp; omega)) _))
      have Ln_79 : LB w79 (w66.heap.size) (.bool n73) (.slice Ad73 l73 c73) := by rw [hW79]; (repeat (first | (refine LB.new' ?_; simp; done) | refine LB.alloc ?_ _))
      have za79 : w66.heap.size + 1 ≤ w79.heap.size := by rw [hW79]; simp
      have B80 := Lib.hid hb79
      have z80 := B80.out.size
      have HB81 := Lib.hid (HB72.out.trans (B80.out.mono HB72.out.size))
      clear hb79 hW79
      clear q78_0 q78_1 q78_2 q78_3 q78_lt
      have P8_10_84 := Lib.hid (B54.out.trans (B63.out.mono B54.out.size))
      have P8_11_85 := Lib.hid (P8_10_84.out.trans (B71.out.mono P8_10_84.out.size))
      have P8_12_86 := Lib.hid (P8_11_85.out.trans (B80.out.mono P8_11_85.out.size))
      have Hpa_87 := Lib.hid (LR.step Hpa_52.out P8_12_86.out)
      refine (RNeg_any _ _ _ _ Hpa_87.out).mono ?_
      rintro e w83 ⟨hb83, hret82⟩
      have B88 := Lib.hid hb83
      have z88 := B88.out.size
      have HB89 := Lib.hid (HB81.out.trans (B88.out.mono HB81.out.size))
      clear hb83
      rw [← HRzn.out] at hret82; obtain ⟨v82, rfl, hv82⟩ := hret82; replace hv82 : LV w83 w83.heap.size v82 zn := hv82
      obtain ⟨n90, Ad90, l90, c90, rfl, hv90⟩ := hv82.opened
      have Hnn2_90 := Lib.hid hv90
      clear hv82 hv90
      have P4_9_91 := Lib.hid (P4_8_51.out.trans (B54.out.mono P4_8_51.out.size))
      have P4_10_92 := Lib.hid (P4_9_91.out.trans (B63.out.mono P4_9_91.out.size))
      have P4_11_93 := Lib.hid (P4_10_92.out.trans (B71.out.mono P4_10_92.out.size))
      have P4_12_94 := Lib.hid (P4_11_93.out.trans (B80.out.mono P4_11_93.out.size))
      have P4_13_95 := Lib.hid (P4_12_94.out.trans (B88.out.mono P4_12_94.out.size))
      have Ls_96 := LB.step Ls_11 P4_13_95.out
      have q97_0 := Ls_96.cell0
      have q97_1 := Ls_96.cell1
      have q97_2 := Ls_96.frozen 0
      have q97_3 := Ls_96.frozen 1
      have q97_lt := Ls_96.lt
      have P6_11_98 := Lib.hid (P6_10_69.out.trans (B71.out.mono P6_10_69.out.size))
      have P6_12_99 := Lib.hid (P6_11_98.out.trans (B80.out.mono P6_11_98.out.size))
      have P6_13_100 := Lib.hid (P6_12_99.out.trans (B88.out.mono P6_12_99.out.size))
      have Ls2_101 := LB.step Ls2_28 P6_13_100.out
      have q102_0 := Ls2_101.cell0
      have q102_1 := Ls2_101.cell1
      have q102_2 := Ls2_101.frozen 0
      have q102_3 := Ls2_101.frozen 1
      have q102_lt := Ls2_101.lt
      go_wp2_with fail
      obtain ⟨w103, hW103⟩ : ∃ w103 : World, w103 = (w83.alloc (.cells #[.bool n90, .slice Ad90 l90 c90] 24)) := ⟨_, rfl⟩
      rw [← hW103]
      have hb103 : Below w83.heap.size w83 w103 := by rw [hW103]; (repeat' (first | exact Below.refl _ _ | refine Below.drew ?_ | refine Below.alloc ?_ (by first | exact Nat.le_refl _ | (simp; done) | (simp; omega)) _))
      have Lnn2_103 : LB w103 (w83.heap.size) (.bool n90) (.slice Ad90 l90 c90) := by rw [hW103]; (repeat (first | (refine LB.new' ?_; simp; done) | refine LB.alloc ?_ _))
      have za103 : w83.heap.size + 1 ≤ w103.heap.size := by rw [hW103]; simp
      have B104 := Lib.hid hb103
      have z104 := B104.out.size
      have HB105 := Lib.hid (HB89.out.trans (B104.out.mono HB89.out.size))
      clear hb103 hW103
      clear q97_0 q97_1 q97_2 q97_3 q97_lt q102_0 q102_1 q102_2 q102_3 q102_lt
      have P3_8_107 := Lib.hid (P3_7_42.out.trans (B45.out.mono P3_7_42.out.size))
      have P3_9_108 := Lib.hid (P3_8_107.out.trans (B54.out.mono P3_8_107.out.size))
      have P3_10_109 := Lib.hid (P3_9_108.out.trans (B63.out.mono P3_9_108.out.size))
      have P3_11_110 := Lib.hid (P3_10_109.out.trans (B71.out.mono P3_10_109.out.size))
      have P3_12_111 := Lib.hid (P3_11_110.out.trans (B80.out.mono P3_11_110.out.size))
      have P3_13_112 := Lib.hid (P3_12_111.out.trans (B88.out.mono P3_12_111.out.size))
      have P3_14_113 := Lib.hid (P3_13_112.out.trans (B104.out.mono P3_13_112.out.size))
      have Hs_114 := Lib.hid (LV.step Hs_7.out P3_14_113.out)
      have P5_10_115 := Lib.hid (P5_9_59.out.trans (B63.out.mono P5_9_59.out.size))
      have P5_11_116 := Lib.hid (P5_10_115.out.trans (B71.out.mono P5_10_115.out.size))
      have P5_12_117 := Lib.hid (P5_11_116.out.trans (B80.out.mono P5_11_116.out.size))
      have P5_13_118 := Lib.hid (P5_12_117.out.trans (B88.out.mono P5_12_117.out.size))
      have P5_14_119 := Lib.hid (P5_13_118.out.trans (B104.out.mono P5_13_118.out.size))
      have Hs2_120 := Lib.hid (LV.step Hs2_21.out P5_14_119.out)
      refine (alike_yes _ _ _ zs zse Hs_114.out Hs2_120.out).mono ?_
      rintro e w106 ⟨hb106, rfl⟩
      have B121 := Lib.hid hb106
      have z121 := B121.out.size
      have HB122 := Lib.hid (HB105.out.trans (B121.out.mono HB105.out.size))
      clear hb106
      have P8_13_124 := Lib.hid (P8_12_86.out.trans (B88.out.mono P8_12_86.out.size))
      have P8_14_125 := Lib.hid (P8_13_124.out.trans (B104.out.mono P8_13_124.out.size))
      have P8_15_126 := Lib.hid (P8_14_125.out.trans (B121.out.mono P8_14_125.out.size))
      have Ld_127 := LB.step Ld_44 P8_15_126.out
      have q128_0 := Ld_127.cell0
      have q128_1 := Ld_127.cell1
      have q128_2 := Ld_127.frozen 0
      have q128_3 := Ld_127.frozen 1
      have q128_lt := Ld_127.lt
      have P10_12_129 := Lib.hid (B71.out.trans (B80.out.mono B71.out.size))
      have P10_13_130 := Lib.hid (P10_12_129.out.trans (B88.out.mono P10_12_129.out.size))
      have P10_14_131 := Lib.hid (P10_13_130.out.trans (B104.out.mono P10_13_130.out.size))
      have P10_15_132 := Lib.hid (P10_14_131.out.trans (B121.out.mono P10_14_131.out.size))
      have Ld2_133 := LB.step Ld2_62 P10_15_132.out
      have q134_0 := Ld2_133.cell0
      have q134_1 := Ld2_133.cell1
      have q134_2 := Ld2_133.frozen 0
      have q134_3 := Ld2_133.frozen 1
      have q134_lt := Ld2_133.lt
      go_wp2_with fail
      have P7_12_135 := Lib.hid (P7_11_77.out.trans (B80.out.mono P7_11_77.out.size))
      have P7_13_136 := Lib.hid (P7_12_135.out.trans (B88.out.mono P7_12_135.out.size))
      have P7_14_137 := Lib.hid (P7_13_136.out.trans (B104.out.mono P7_13_136.out.size))
      have P7_15_138 := Lib.hid (P7_14_137.out.trans (B121.out.mono P7_14_137.out.size))
      have Hd_139 := Lib.hid (LV.step Hd_38.out P7_15_138.out)
      have P9_11_140 := Lib.hid (B63.out.trans (B71.out.mono B63.out.size))
      have P9_12_141 := Lib.hid (P9_11_140.out.trans (B80.out.mono P9_11_140.out.size))
      have P9_13_142 := Lib.hid (P9_12_141.out.trans (B88.out.mono P9_12_141.out.size))
      have P9_14_143 := Lib.hid (P9_13_142.out.trans (B104.out.mono P9_13_142.out.size))
      have P9_15_144 := Lib.hid (P9_14_143.out.trans (B121.out.mono P9_14_143.out.size))
      have Hd2_145 := Lib.hid (LV.step Hd2_56.out P9_15_144.out)
      refine (alike_yes _ _ _ zd zde Hd_139.out Hd2_145.out).mono ?_
      rintro e w123 ⟨hb123, rfl⟩
      have B146 := Lib.hid hb123
      have z146 := B146.out.size
      have HB147 := Lib.hid (HB122.out.trans (B146.out.mono HB122.out.size))
      clear hb123
      clear q128_0 q128_1 q128_2 q128_3 q128_lt q134_0 q134_1 q134_2 q134_3 q134_lt
      have P12_14_149 := Lib.hid (B88.out.trans (B104.out.mono B88.out.size))
      have P12_15_150 := Lib.hid (P12_14_149.out.trans (B121.out.mono P12_14_149.out.size))
      have P12_16_151 := Lib.hid (P12_15_150.out.trans (B146.out.mono P12_15_150.out.size))
      have Ln_152 := LB.step Ln_79 P12_16_151.out
      have q153_0 := Ln_152.cell0
      have q153_1 := Ln_152.cell1
      have q153_2 := Ln_152.frozen 0
      have q153_3 := Ln_152.frozen 1
      have q153_lt := Ln_152.lt
      have P14_16_154 := Lib.hid (B121.out.trans (B146.out.mono B121.out.size))
      have Lnn2_155 := LB.step Lnn2_103 P14_16_154.out
      have q156_0 := Lnn2_155.cell0
      have q156_1 := Lnn2_155.cell1
      have q156_2 := Lnn2_155.frozen 0
      have q156_3 := Lnn2_155.frozen 1
      have q156_lt := Lnn2_155.lt
      go_wp2_with fail
      have P11_13_157 := Lib.hid (B80.out.trans (B88.out.mono B80.out.size))
      have P11_14_158 := Lib.hid (P11_13_157.out.trans (B104.out.mono P11_13_157.out.size))
      have P11_15_159 := Lib.hid (P11_14_158.out.trans (B121.out.mono P11_14_158.out.size))
      have P11_16_160 := Lib.hid (P11_15_159.out.trans (B146.out.mono P11_15_159.out.size))
      have Hn_161 := Lib.hid (LV.step Hn_73.out P11_16_160.out)
      have P13_15_162 := Lib.hid (B104.out.trans (B121.out.mono B104.out.size))
      have P13_16_163 := Lib.hid (P13_15_162.out.trans (B146.out.mono P13_15_162.out.size))
      have Hnn2_164 := Lib.hid (LV.step Hnn2_90.out P13_16_163.out)
      refine (alike_yes _ _ _ zn zne Hn_161.out Hnn2_164.out).mono ?_
      rintro e w148 ⟨hb148, rfl⟩
      have B165 := Lib.hid hb148
      have z165 := B165.out.size
      have HB166 := Lib.hid (HB147.out.trans (B165.out.mono HB147.out.size))
      clear hb148
      clear q153_0 q153_1 q153_2 q153_3 q153_lt q156_0 q156_1 q156_2 q156_3 q156_lt
      have P9_16_168 := Lib.hid (P9_15_144.out.trans (B146.out.mono P9_15_144.out.size))
      have P9_17_169 := Lib.hid (P9_16_168.out.trans (B165.out.mono P9_16_168.out.size))
      have La_170 := LB.step La_60 P9_17_169.out
      have q171_0 := La_170.cell0
      have q171_1 := La_170.cell1
      have q171_2 := La_170.frozen 0
      have q171_3 := La_170.frozen 1
      have q171_lt := La_170.lt
      have P11_17_173 := Lib.hid (P11_16_160.out.trans (B165.out.mono P11_16_160.out.size))
      have Lp_172 := CB.step Lp_74 P11_17_173.out
      have q174_0 := Lp_172.cell 0 rfl
      have q174_1 := Lp_172.cell 1 rfl
      have q174_2 := Lp_172.cell 2 rfl
      have q174_3 := Lp_172.cell 3 rfl
      have q174_lt := Lp_172.lt
      go_wp2_with fail
      have P10_16_175 := Lib.hid (P10_15_132.out.trans (B146.out.mono P10_15_132.out.size))
      have P10_17_176 := Lib.hid (P10_16_175.out.trans (B165.out.mono P10_16_175.out.size))
      have Ha_177 := Lib.hid (LR.step Ha_70.out P10_17_176.out)
      have P12_17_178 := Lib.hid (P12_16_151.out.trans (B165.out.mono P12_16_151.out.size))
      have Hpa_179 := Lib.hid (LR.step Hpa_87.out P12_17_178.out)
      refine (SameR_yes Ha_177.out Hpa_179.out).mono ?_
      rintro e w167 ⟨hb167, rfl⟩
      have B180 := Lib.hid hb167
      have z180 := B180.out.size
      have HB181 := Lib.hid (HB166.out.trans (B180.out.mono HB166.out.size))
      clear hb167
      clear q171_0 q171_1 q171_2 q171_3 q171_lt q174_0 q174_1 q174_2 q174_3 q174_lt
      have P5_15_183 := Lib.hid (P5_14_119.out.trans (B121.out.mono P5_14_119.out.size))
      have P5_16_184 := Lib.hid (P5_15_183.out.trans (B146.out.mono P5_15_183.out.size))
      have P5_17_185 := Lib.hid (P5_16_184.out.trans (B165.out.mono P5_16_184.out.size))
      have P5_18_186 := Lib.hid (P5_17_185.out.trans (B180.out.mono P5_17_185.out.size))
      have Lb_187 := LB.step Lb_26 P5_18_186.out
      have q188_0 := Lb_187.cell0
      have q188_1 := Lb_187.cell1
      have q188_2 := Lb_187.frozen 0
      have q188_3 := Lb_187.frozen 1
      have q188_lt := Lb_187.lt
      have Lp_189 := CB.step Lp_172 B180.out
      have q190_0 := Lp_189.cell 0 rfl
      have q190_1 := Lp_189.cell 1 rfl
      have q190_2 := Lp_189.cell 2 rfl
      have q190_3 := Lp_189.cell 3 rfl
      have q190_lt := Lp_189.lt
      go_wp2_with fail
      have P6_14_191 := Lib.hid (P6_13_100.out.trans (B104.out.mono P6_13_100.out.size))
      have P6_15_192 := Lib.hid (P6_14_191.out.trans (B121.out.mono P6_14_191.out.size))
      have P6_16_193 := Lib.hid (P6_15_192.out.trans (B146.out.mono P6_15_192.out.size))
      have P6_17_194 := Lib.hid (P6_16_193.out.trans (B165.out.mono P6_16_193.out.size))
      have P6_18_195 := Lib.hid (P6_17_194.out.trans (B180.out.mono P6_17_194.out.size))
      have Hb_196 := Lib.hid (LR.step Hb_35.out P6_18_195.out)
      have P8_16_197 := Lib.hid (P8_15_126.out.trans (B146.out.mono P8_15_126.out.size))
      have P8_17_198 := Lib.hid (P8_16_197.out.trans (B165.out.mono P8_16_197.out.size))
      have P8_18_199 := Lib.hid (P8_17_198.out.trans (B180.out.mono P8_17_198.out.size))
      have Hpb_200 := Lib.hid (LR.step Hpb_53.out P8_18_199.out)
      refine (SameR_yes Hb_196.out Hpb_200.out).mono ?_
      rintro e w182 ⟨hb182, rfl⟩
      have B201 := Lib.hid hb182
      have z201 := B201.out.size
      have HB202 := Lib.hid (HB181.out.trans (B201.out.mono HB181.out.size))
      clear hb182
      clear q188_0 q188_1 q188_2 q188_3 q188_lt q190_0 q190_1 q190_2 q190_3 q190_lt
      go_wp2
      go_roundw
      case rel => exact ⟨k + 1, by omega, by rw [show ((k + 1 : Nat) : Int) = (k : Int) + 1 by omega], Lib.hid (HBW.out.trans (HB202.out.mono HBW.out.size)), Lib.hid (HP.out.step HB202.out)⟩
      case measure => simp [intOf] <;> omega
end Go.Proofs.YtnbanlmkoljghaaGreatDoor
