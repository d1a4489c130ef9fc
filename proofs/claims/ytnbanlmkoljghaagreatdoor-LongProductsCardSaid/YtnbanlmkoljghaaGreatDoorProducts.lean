/- The law LongProducts (written by gen_products.py). -/
import Derived.Test.YtnbanlmkoljghaaGreatDoorLawC
import Derived.Test.YtnbanlmkoljghaaGreatDoorRefb
namespace Go.Proofs.YtnbanlmkoljghaaGreatDoor
open Go Go.RowKit Dig

theorem lv_lr {w : World} {B : Nat} {n : Bool} {A : Option Addr} {l c : Nat} {z : Int} (h : LV w B (.agg #[.bool n, .slice A l c]) z) : LR w B (.agg #[.bool n, .slice A l c]) n (ni (dig z.natAbs)) := by
  obtain ⟨s, e, hs⟩ := h
  injection e with e
  simp at e
  exact ⟨s, by rw [e.2], hs⟩

set_option maxRecDepth 100000 in
set_option maxHeartbeats 8000000 in
theorem LongProducts_any (w : World) (G : Glob w) (na : Bool) (sa : Value) (la : List Int) (nb : Bool) (sb : Value) (lb : List Int) (nx : Bool) (lx : Int) (sx : Value) (wx : List Nat) (ny : Bool) (ly : Int) (sy : Value) (wy : List Nat)
    (ha : RI w w.heap.size sa la) (hb : RI w w.heap.size sb lb) (hx0 : 0 ≤ lx) (hx1 : lx ≤ 255) (hx : RW w w.heap.size sx wx) (hy0 : 0 ≤ ly) (hy1 : ly ≤ 255) (hy : RW w w.heap.size sy wy) :
    Calls Tryz.prog 3 #[.agg #[.bool na, sa, .bool nb, sb, .bool nx, .int .u8 lx, sx, .bool ny, .int .u8 ly, sy]] w fun e w' => Below w.heap.size w w' ∧ e = .returned (.bool true) := by
  obtain ⟨X0, hX⟩ : ∃ z, sgn nx (val (draftDs (lx.toNat % 8) 40 wx)) = z := ⟨_, rfl⟩
  obtain ⟨Y0, hY⟩ : ∃ z, sgn ny (val (draftDs (ly.toNat % 8) 40 wy)) = z := ⟨_, rfl⟩
  obtain ⟨V0, hV⟩ : ∃ z, sgn ny (val (draftDs 0 3 wy)) = z := ⟨_, rfl⟩
  obtain ⟨U0, hU⟩ : ∃ z, sgn nx (val (draftDs 0 3 wx)) = z := ⟨_, rfl⟩
  have hlX0 : Hid (Len 60 X0) := Lib.hid (by rw [← hX, Len]; exact Nat.le_trans (draft_fit (m := 47) (by omega)) (by omega))
  have hlY0 : Hid (Len 60 Y0) := Lib.hid (by rw [← hY, Len]; exact Nat.le_trans (draft_fit (m := 47) (by omega)) (by omega))
  have hlV0 : Hid (Len 60 V0) := Lib.hid (by rw [← hV, Len]; exact Nat.le_trans (draft_fit (m := 47) (by omega)) (by omega))
  have hlU0 : Hid (Len 60 U0) := Lib.hid (by rw [← hU, Len]; exact Nat.le_trans (draft_fit (m := 47) (by omega)) (by omega))
  have HB0 := Lib.hid ((Below.refl w.heap.size w).alloc (Nat.le_refl _) (.cells #[.bool na, sa, .bool nb, sb, .bool nx, .int .u8 lx, sx, .bool ny, .int .u8 ly, sy] 29))
  have B1 := CB.new w 29 #[.bool na, sa, .bool nb, sb, .bool nx, .int .u8 lx, sx, .bool ny, .int .u8 ly, sy]
  replace ha := Lib.hid (ha.step HB0.out)
  replace hb := Lib.hid (hb.step HB0.out)
  replace hx := Lib.hid (hx.step HB0.out)
  replace hy := Lib.hid (hy.step HB0.out)
  go_enter Tryz.func3, Tryz.ntmps3
  go_wp2_with fail
  refine (works_any _ (G.step HB0.out)).mono ?_
  rintro e w1 ⟨hb1, rfl⟩
  have HB1 := Lib.hid (HB0.out.trans (hb1.mono HB0.out.size))
  replace B1 := B1.step hb1
  replace ha := Lib.hid (ha.out.step hb1)
  replace hb := Lib.hid (hb.out.step hb1)
  replace hx := Lib.hid (hx.out.step hb1)
  replace hy := Lib.hid (hy.out.step hb1)
  clear hb1 HB0
  have q0 := B1.cell 0 rfl
  have q1 := B1.cell 1 rfl
  have q2 := B1.cell 2 rfl
  have q3 := B1.cell 3 rfl
  have q4 := B1.cell 4 rfl
  have q5 := B1.cell 5 rfl
  have q6 := B1.cell 6 rfl
  have q7 := B1.cell 7 rfl
  have q8 := B1.cell 8 rfl
  have q9 := B1.cell 9 rfl
  go_wp2_with fail
  refine (pairs_any _ na nb nx ny sa sb sx sy la lb lx ly wx wy ha.out hb.out hx0 hx1 hx.out hy0 hy1 hy.out X0 Y0 V0 U0 hX hY hV hU).mono ?_
  rintro e w2 ⟨hb2, g, s0, s1, s2, s3, s4, s5, s6, s7, rfl, -, HP⟩
  have HB2 := Lib.hid (HB1.out.trans (hb2.mono HB1.out.size))
  replace HP := Lib.hid HP
  clear q0 q1 q2 q3 q4 q5 q6 q7 q8 q9 hb2 HB1 B1 ha hb hx hy hX hY hV hU hx0 hx1 hy0 hy1
  go_wp2
  go_loopw [24] (fun i wr => ∃ k : Nat, k ≤ 4 ∧ i = .int .i64 k ∧ Hid (Below w.heap.size w wr) ∧ Hid (Pairs wr g na nb la lb X0 Y0 V0 U0 s0 s1 s2 s3 s4 s5 s6 s7)) (fun i _ => 4 - (intOf i).toNat)
  case atStart => exact ⟨0, by omega, rfl, HB2, HP⟩
  case round =>
    clear HB2 HP
    obtain ⟨k, hk, rfl, HBW, HP⟩ := hrel
    have G1 := Lib.hid (G.step HBW.out)
    by_cases hk2 : k = 4
    · subst hk2
      rw [show ((4 : Nat) : Int) = 4 from rfl]
      go_wp2
      go_ret
      exact ⟨HBW.out, rfl⟩
    obtain ⟨n1, l1, R1, c1, n2, l2, R2, c2, p0, p1, p2, p3, v1, v2, h60a, h60b⟩ := HP.out.any60 hlX0.out hlY0.out hlV0.out hlU0.out k (by omega)
    have H60a := Lib.hid h60a; have H60b := Lib.hid h60b; clear h60a h60b
    generalize hk1 : l1.length = k1 at *; generalize hk2' : l2.length = k2 at *
    have HK1 := Lib.hid hk1; have HK2 := Lib.hid hk2'; clear hk1 hk2'
    replace H60a := Lib.hid (show l1.length ≤ 60 by rw [HK1.out]; exact H60a.out); replace H60b := Lib.hid (show l2.length ≤ 60 by rw [HK2.out]; exact H60b.out)
    have hki : (k : Int) < 4 := by omega
    go_upto_region 6 with (fail)
    obtain ⟨wp, hwp⟩ : ∃ wp : World, wp = wr.alloc (.cells #[.bool n1, .slice R1 k1 c1, .bool n2, .slice R2 k2 c2] 33) := ⟨_, rfl⟩
    rw [← hwp]
    have hBp : Below wr.heap.size wr wp := by rw [hwp]; exact (Below.refl _ _).alloc (Nat.le_refl _) _
    have P0 : CB wp wr.heap.size 33 #[.bool n1, .slice R1 k1 c1, .bool n2, .slice R2 k2 c2] := by rw [hwp]; exact CB.new _ _ _
    have HA := Lib.hid (LR.step v1 hBp); have HB := Lib.hid (LR.step v2 hBp)
    have HBp := Lib.hid hBp; have zp : wr.heap.size + 1 ≤ wp.heap.size := (by rw [hwp]; simp)
    clear p0 p1 p2 p3 v1 v2 hBp hwp
    have KS : ∀ w' : World, Below wp.heap.size wp w' → (Below wp.heap.size wp w' ∧ w'.cell? ⟨wr.heap.size, 0, none⟩ = some (.bool n1) ∧ w'.cell? ⟨wr.heap.size, 1, none⟩ = some (.slice R1 k1 c1) ∧ w'.cell? ⟨wr.heap.size, 2, none⟩ = some (.bool n2) ∧ w'.cell? ⟨wr.heap.size, 3, none⟩ = some (.slice R2 k2 c2)) := fun w' h => ⟨h, (P0.step h).cell 0 rfl, (P0.step h).cell 1 rfl, (P0.step h).cell 2 rfl, (P0.step h).cell 3 rfl⟩
    have KB : ∀ w' : World, (Below wp.heap.size wp w' ∧ w'.cell? ⟨wr.heap.size, 0, none⟩ = some (.bool n1) ∧ w'.cell? ⟨wr.heap.size, 1, none⟩ = some (.slice R1 k1 c1) ∧ w'.cell? ⟨wr.heap.size, 2, none⟩ = some (.bool n2) ∧ w'.cell? ⟨wr.heap.size, 3, none⟩ = some (.slice R2 k2 c2)) → Below wp.heap.size wp w' := fun w' h => h.1
    obtain ⟨-, p0, p1, p2, p3⟩ := KS wp (Below.refl _ _)
    go_cut [5, 6] (fun sa sb wx => ∃ (ba bb : Nat) (Aa : Option Addr) (ca : Nat) (Ab : Option Addr) (cb : Nat), sa = .pointer (some ⟨ba, 0, none⟩) ∧ sb = .pointer (some ⟨bb, 0, none⟩) ∧ LB wx ba (.bool n1) (.slice Aa k1 ca) ∧ LB wx bb (.bool n2) (.slice Ab k2 cb) ∧ Hid (LR wx wx.heap.size (.agg #[.bool n1, .slice Aa k1 ca]) n1 l1) ∧ Hid (LR wx wx.heap.size (.agg #[.bool n2, .slice Ab k2 cb]) n2 l2) ∧ Hid (ba ≠ bb) ∧ Hid (wr.heap.size + 1 ≤ ba) ∧ Hid (wr.heap.size + 1 ≤ bb) ∧ Hid (Below wp.heap.size wp wx))
    case first =>
      have tok1 : True := trivial
      have tok2 : True := trivial
      go_region_held3 (fun w' => Below wp.heap.size wp w' ∧ w'.cell? ⟨wr.heap.size, 0, none⟩ = some (.bool n1) ∧ w'.cell? ⟨wr.heap.size, 1, none⟩ = some (.slice R1 k1 c1) ∧ w'.cell? ⟨wr.heap.size, 2, none⟩ = some (.bool n2) ∧ w'.cell? ⟨wr.heap.size, 3, none⟩ = some (.slice R2 k2 c2)) (first
        | (refine KS _ ?_; (repeat (first | with_reducible exact KU2.out | with_reducible exact KU1.out | with_reducible exact Below.refl _ _ | with_reducible refine below_alloc1 ?_ _ | with_reducible refine below_set1 ?_ (by first | omega | simp) _ _ | with_reducible refine below_drew1 ?_)))
        | go_keep) (first
        | (go_at_call 18; clear tok1; ((with_reducible refine (own60 (n := n1) (l := l1) (by exact LR.step HA.out (KB _ (by assumption))) H60a.out).mono ?_); rintro e u1 ⟨hbn1, Aa, ca, rfl, hv1⟩; rw [HK1.out] at hv1 ⊢; have KU1 := Lib.hid (Below.trans (KB _ (by assumption)) (hbn1.mono (KB _ (by assumption)).size)); have HV1 := Lib.hid hv1; have gu1 := hbn1.size; (try simp at gu1); (try (refine have_then (T := LB u1 wp.heap.size (.bool false) (.slice none 0 0)) ?_ ?_; (focus (refine LB.step ?_ hbn1; (repeat (first | with_reducible refine LB.drew ?_ | with_reducible exact LB.new' rfl | (with_reducible refine LB.new' ?_; simp; done) | with_reducible refine LB.alloc ?_ _)); done)); intro Lz1)); (try (have Lzc0 := Lz1.cell0; have Lzc1 := Lz1.cell1; have Lzf0 := Lz1.frozen 0; have Lzf1 := Lz1.frozen 1; have Lzlt := Lz1.lt)); (try (refine have_then (T := LB u1 (wp.heap.size + 1) (.bool false) (.slice none 0 0)) ?_ ?_; (focus (refine LB.step ?_ hbn1; (repeat (first | with_reducible refine LB.drew ?_ | with_reducible exact LB.new' rfl | (with_reducible refine LB.new' ?_; simp; done) | with_reducible refine LB.alloc ?_ _)); done)); intro Lx1)); (try (have Lxc0 := Lx1.cell0; have Lxc1 := Lx1.cell1; have Lxf0 := Lx1.frozen 0; have Lxf1 := Lx1.frozen 1; have Lxlt := Lx1.lt))))
        | (go_at_call 18; clear tok2; ((with_reducible refine (own60 (n := n2) (l := l2) (by exact LR.step HB.out (KB _ (by assumption))) H60b.out).mono ?_); rintro e u2 ⟨hbn2, Ab, cb, rfl, hv2⟩; rw [HK2.out] at hv2 ⊢; have HV1b := Lib.hid (LR.step (v := .agg #[.bool n1, .slice Aa k1 ca]) (neg := n1) (ds := l1) (by repeat (first | with_reducible exact HV1.out | with_reducible refine LR.alloc ?_ _ | with_reducible refine LR.drew1 ?_)) hbn2); have KU2 := Lib.hid (Below.trans (KB _ (by assumption)) (hbn2.mono (KB _ (by assumption)).size)); have HV2 := Lib.hid hv2; have gu2 := hbn2.size; (try simp at gu2); (try (refine have_then (T := LB u2 wp.heap.size (.bool false) (.slice none 0 0)) ?_ ?_; (focus (refine LB.step ?_ hbn2; (repeat (first | with_reducible exact Lz1 | with_reducible refine LB.drew ?_ | with_reducible exact LB.new' rfl | (with_reducible refine LB.new' ?_; simp; done) | with_reducible refine LB.alloc ?_ _)); done)); intro Lz2)); (try (have Lzc0 := Lz2.cell0; have Lzc1 := Lz2.cell1; have Lzf0 := Lz2.frozen 0; have Lzf1 := Lz2.frozen 1; have Lzlt := Lz2.lt)); (try (refine have_then (T := LB u2 (wp.heap.size + 1) (.bool false) (.slice none 0 0)) ?_ ?_; (focus (refine LB.step ?_ hbn2; (repeat (first | with_reducible exact Lx1 | with_reducible refine LB.drew ?_ | with_reducible exact LB.new' rfl | (with_reducible refine LB.new' ?_; simp; done) | with_reducible refine LB.alloc ?_ _)); done)); intro Lx2)); (try (have Lxc0 := Lx2.cell0; have Lxc1 := Lx2.cell1; have Lxf0 := Lx2.frozen 0; have Lxf1 := Lx2.frozen 1; have Lxlt := Lx2.lt)); (try (refine have_then (T := LB u2 u1.heap.size (.bool false) (.slice none 0 0)) ?_ ?_; (focus (refine LB.step ?_ hbn2; (repeat (first | with_reducible refine LB.drew ?_ | with_reducible exact LB.new' rfl | (with_reducible refine LB.new' ?_; simp; done) | with_reducible refine LB.alloc ?_ _)); done)); intro Ly2)); (try (have Lyc0 := Ly2.cell0; have Lyc1 := Ly2.cell1; have Lyf0 := Ly2.frozen 0; have Lyf1 := Ly2.frozen 1; have Lylt := Ly2.lt)); (try (refine have_then (T := LB u2 (u1.heap.size + 1) (.bool false) (.slice none 0 0)) ?_ ?_; (focus (refine LB.step ?_ hbn2; (repeat (first | with_reducible refine LB.drew ?_ | with_reducible exact LB.new' rfl | (with_reducible refine LB.new' ?_; simp; done) | with_reducible refine LB.alloc ?_ _)); done)); intro Lw2)); (try (have Lwc0 := Lw2.cell0; have Lwc1 := Lw2.cell1; have Lwf0 := Lw2.frozen 0; have Lwf1 := Lw2.frozen 1; have Lwlt := Lw2.lt)))))
      all_goals
        go_wp2
        go_meet
        refine ⟨_, _, Aa, ca, Ab, cb, rfl, rfl, ?_, ?_, Lib.hid ?_, Lib.hid ?_, Lib.hid ?_, Lib.hid ?_, Lib.hid ?_, Lib.hid ?_⟩
        · (repeat (first | with_reducible exact Lz2 | with_reducible exact Lx2 | with_reducible exact Ly2 | with_reducible exact Lw2 | with_reducible exact LB.new' rfl | (with_reducible refine LB.new' ?_; simp; done) | with_reducible refine lb_put0 ?_ | with_reducible refine lb_far ?_ (by omega) | with_reducible refine LB.alloc ?_ _ | with_reducible refine LB.drew ?_))
        · (repeat (first | with_reducible exact Lz2 | with_reducible exact Lx2 | with_reducible exact Ly2 | with_reducible exact Lw2 | with_reducible exact LB.new' rfl | (with_reducible refine LB.new' ?_; simp; done) | with_reducible refine lb_put0 ?_ | with_reducible refine lb_far ?_ (by omega) | with_reducible refine LB.alloc ?_ _ | with_reducible refine LB.drew ?_))
        · (repeat (first | with_reducible exact HV1b.out | with_reducible exact HV2.out | with_reducible refine LR.alloc ?_ _ | with_reducible refine LR.drew1 ?_ | (with_reducible refine lr_put0 ?_ ?_; focus (repeat (first | with_reducible exact Lz2 | with_reducible exact Lx2 | with_reducible exact Ly2 | with_reducible exact Lw2 | with_reducible exact LB.new' rfl | (with_reducible refine LB.new' ?_; simp; done) | with_reducible refine lb_put0 ?_ | with_reducible refine lb_far ?_ (by omega) | with_reducible refine LB.alloc ?_ _ | with_reducible refine LB.drew ?_)))))
        · (repeat (first | with_reducible exact HV1b.out | with_reducible exact HV2.out | with_reducible refine LR.alloc ?_ _ | with_reducible refine LR.drew1 ?_ | (with_reducible refine lr_put0 ?_ ?_; focus (repeat (first | with_reducible exact Lz2 | with_reducible exact Lx2 | with_reducible exact Ly2 | with_reducible exact Lw2 | with_reducible exact LB.new' rfl | (with_reducible refine LB.new' ?_; simp; done) | with_reducible refine lb_put0 ?_ | with_reducible refine lb_far ?_ (by omega) | with_reducible refine LB.alloc ?_ _ | with_reducible refine LB.drew ?_)))))
        · omega
        · omega
        · omega
        · (repeat (first | with_reducible exact KU2.out | with_reducible exact KU1.out | with_reducible exact Below.refl _ _ | with_reducible refine below_alloc1 ?_ _ | with_reducible refine below_set1 ?_ (by first | omega | simp) _ _ | with_reducible refine below_drew1 ?_))
    case rest =>
      obtain ⟨ba, bb, Aa, ca, Ab, cb, rfl, rfl, La, Lb, Ha, Hb, nab, ga, gb, HBc⟩ := hcut
      have nab' := nab.out; have ga' := ga.out; have gb' := gb.out; have zc := HBc.out.size
      clear nab ga gb KS KB p0 p1 p2 p3
      have HBa := Lib.hid (HBp.out.trans (HBc.out.mono HBp.out.size))
      have q1_0 := La.cell0
      have q1_1 := La.cell1
      have q1_2 := La.frozen 0
      have q1_3 := La.frozen 1
      have q1_lt := La.lt
      have q2_0 := Lb.cell0
      have q2_1 := Lb.cell1
      have q2_2 := Lb.frozen 0
      have q2_3 := Lb.frozen 1
      have q2_lt := Lb.lt
      obtain ⟨⟨zm, zme⟩, hrzm⟩ : ∃ r : Int × Int, r = A2 (fun a b => toldZ (a * b)) (numOf n1 l1) (numOf n2 l2) := ⟨_, rfl⟩
      have HRzm := Lib.hid hrzm; clear hrzm
      go_wp2_with fail
      refine (Mul_any _ _ _ _ _ _ _ Ha.out Hb.out).mono ?_
      rintro e w4 ⟨hb4, hret3⟩
      have B5 := Lib.hid hb4
      have z5 := B5.out.size
      have HB6 := Lib.hid (HBa.out.trans (B5.out.mono HBa.out.size))
      clear hb4
      clear q1_0 q1_1 q1_2 q1_3 q1_lt q2_0 q2_1 q2_2 q2_3 q2_lt
      rw [← HRzm.out] at hret3; obtain ⟨v3, rfl, hv3⟩ := hret3; replace hv3 : LV w4 w4.heap.size v3 zm := hv3
      obtain ⟨n7, Ad7, l7, c7, rfl, hv7⟩ := hv3.opened
      have Hm_7 := Lib.hid hv7
      clear hv3 hv7
      have P1_3_9 := Lib.hid (HBc.out.trans (B5.out.mono HBc.out.size))
      have Lp_8 := CB.step P0 P1_3_9.out
      have q10_0 := Lp_8.cell 0 rfl
      have q10_1 := Lp_8.cell 1 rfl
      have q10_2 := Lp_8.cell 2 rfl
      have q10_3 := Lp_8.cell 3 rfl
      have q10_lt := Lp_8.lt
      go_wp2_with fail
      obtain ⟨w11, hW11⟩ : ∃ w11 : World, w11 = (w4.alloc (.cells #[.bool n7, .slice Ad7 l7 c7] 24)) := ⟨_, rfl⟩
      rw [← hW11]
      have hb11 : Below w4.heap.size w4 w11 := by rw [hW11]; (repeat' (first | exact Below.refl _ _ | refine Below.drew ?_ | refine Below.alloc ?_ (by first | exact Nat.le_refl _ | (simp; done) | (simp; omega)) _))
      have Lm_11 : LB w11 (w4.heap.size) (.bool n7) (.slice Ad7 l7 c7) := by rw [hW11]; (repeat (first | (refine LB.new' ?_; simp; done) | refine LB.alloc ?_ _))
      have za11 : w4.heap.size + 1 ≤ w11.heap.size := by rw [hW11]; simp
      have B12 := Lib.hid hb11
      have z12 := B12.out.size
      have HB13 := Lib.hid (HB6.out.trans (B12.out.mono HB6.out.size))
      clear hb11 hW11
      clear q10_0 q10_1 q10_2 q10_3 q10_lt
      have P1_4_16 := Lib.hid (P1_3_9.out.trans (B12.out.mono P1_3_9.out.size))
      have Hpa_17 := Lib.hid (LR.step HA.out P1_4_16.out)
      have Hpb_18 := Lib.hid (LR.step HB.out P1_4_16.out)
      refine (RMul_any _ _ _ _ _ _ _ Hpa_17.out Hpb_18.out).mono ?_
      rintro e w15 ⟨hb15, hret14⟩
      have B19 := Lib.hid hb15
      have z19 := B19.out.size
      have HB20 := Lib.hid (HB13.out.trans (B19.out.mono HB13.out.size))
      clear hb15
      rw [← HRzm.out] at hret14; obtain ⟨v14, rfl, hv14⟩ := hret14; replace hv14 : LV w15 w15.heap.size v14 zm := hv14
      obtain ⟨n21, Ad21, l21, c21, rfl, hv21⟩ := hv14.opened
      have Hm2_21 := Lib.hid hv21
      clear hv14 hv21
      have Lm_22 := LB.step Lm_11 B19.out
      have q23_0 := Lm_22.cell0
      have q23_1 := Lm_22.cell1
      have q23_2 := Lm_22.frozen 0
      have q23_3 := Lm_22.frozen 1
      have q23_lt := Lm_22.lt
      go_wp2_with fail
      obtain ⟨w24, hW24⟩ : ∃ w24 : World, w24 = (w15.alloc (.cells #[.bool n21, .slice Ad21 l21 c21] 24)) := ⟨_, rfl⟩
      rw [← hW24]
      have hb24 : Below w15.heap.size w15 w24 := by rw [hW24]; (repeat' (first | exact Below.refl _ _ | refine Below.drew ?_ | refine Below.alloc ?_ (by first | exact Nat.le_refl _ | (simp; done) | (simp; omega)) _))
      have Lm2_24 : LB w24 (w15.heap.size) (.bool n21) (.slice Ad21 l21 c21) := by rw [hW24]; (repeat (first | (refine LB.new' ?_; simp; done) | refine LB.alloc ?_ _))
      have za24 : w15.heap.size + 1 ≤ w24.heap.size := by rw [hW24]; simp
      have B25 := Lib.hid hb24
      have z25 := B25.out.size
      have HB26 := Lib.hid (HB20.out.trans (B25.out.mono HB20.out.size))
      clear hb24 hW24
      clear q23_0 q23_1 q23_2 q23_3 q23_lt
      have P3_5_28 := Lib.hid (B12.out.trans (B19.out.mono B12.out.size))
      have P3_6_29 := Lib.hid (P3_5_28.out.trans (B25.out.mono P3_5_28.out.size))
      have Hm_30 := Lib.hid (LV.step Hm_7.out P3_6_29.out)
      have Hm2_31 := Lib.hid (LV.step Hm2_21.out B25.out)
      refine (alike_yes _ _ _ zm zme Hm_30.out Hm2_31.out).mono ?_
      rintro e w27 ⟨hb27, rfl⟩
      have B32 := Lib.hid hb27
      have z32 := B32.out.size
      have HB33 := Lib.hid (HB26.out.trans (B32.out.mono HB26.out.size))
      clear hb27
      have P2_4_34 := Lib.hid (B5.out.trans (B12.out.mono B5.out.size))
      have P2_5_35 := Lib.hid (P2_4_34.out.trans (B19.out.mono P2_4_34.out.size))
      have P2_6_36 := Lib.hid (P2_5_35.out.trans (B25.out.mono P2_5_35.out.size))
      have P2_7_37 := Lib.hid (P2_6_36.out.trans (B32.out.mono P2_6_36.out.size))
      have La_38 := LB.step La P2_7_37.out
      have q39_0 := La_38.cell0
      have q39_1 := La_38.cell1
      have q39_2 := La_38.frozen 0
      have q39_3 := La_38.frozen 1
      have q39_lt := La_38.lt
      have P5_7_40 := Lib.hid (B25.out.trans (B32.out.mono B25.out.size))
      have Lm_41 := LB.step Lm_22 P5_7_40.out
      have q42_0 := Lm_41.cell0
      have q42_1 := Lm_41.cell1
      have q42_2 := Lm_41.frozen 0
      have q42_3 := Lm_41.frozen 1
      have q42_lt := Lm_41.lt
      have i0 : ∀ w : World, (Instr.index 33 (.agg #[.bool n1, .slice Aa k1 ca, .bool n7, .slice Ad7 l7 c7]) (.int .i64 0)).run Tryz.prog w = .ok (.agg #[.bool n1, .slice Aa k1 ca]) w := fun _ => by kernel_rfl
      have i1 : ∀ w : World, (Instr.index 33 (.agg #[.bool n1, .slice Aa k1 ca, .bool n7, .slice Ad7 l7 c7]) (.int .i64 1)).run Tryz.prog w = .ok (.agg #[.bool n7, .slice Ad7 l7 c7]) w := fun _ => by kernel_rfl
      have Hm_43 := Lib.hid (LV.step Hm_30.out B32.out)
      have HMR := Lib.hid (lv_lr Hm_43.out)
      have Lb_44 := LB.step Lb P2_7_37.out
      have Ha_45 := Lib.hid (LR.step Ha.out P2_7_37.out)
      have Hb_46 := Lib.hid (LR.step Hb.out P2_7_37.out)
      have P4_6_47 := Lib.hid (B19.out.trans (B25.out.mono B19.out.size))
      have P4_7_48 := Lib.hid (P4_6_47.out.trans (B32.out.mono P4_6_47.out.size))
      have Hpa_49 := Lib.hid (LR.step Hpa_17.out P4_7_48.out)
      have Hpb_50 := Lib.hid (LR.step Hpb_18.out P4_7_48.out)
      have P3_7_52 := Lib.hid (P3_6_29.out.trans (B32.out.mono P3_6_29.out.size))
      have Lp_51 := CB.step Lp_8 P3_7_52.out
      have HENT := Lib.hid HB33.out
      go_wp2
      clear q39_0 q39_1 q39_2 q39_3 q39_lt q42_0 q42_1 q42_2 q42_3 q42_lt
      obtain ⟨wo, hwo⟩ : ∃ wo : World, wo = wr := ⟨_, rfl⟩
      subst hwo
      go_loopw [57] (fun i wr => ∃ j : Nat, j ≤ 2 ∧ i = .int .i64 j ∧ Hid (Below w27.heap.size w27 wr)) (fun i _ => 2 - (intOf i).toNat)
      case atStart => exact ⟨0, by omega, rfl, Lib.hid (Below.refl _ _)⟩
      case round =>
        obtain ⟨j, hj, rfl, HBI⟩ := hrel
        have zi := HBI.out.size
        have HBAS := Lib.hid (HENT.out.trans (HBI.out.mono HENT.out.size))
        have hj3 : j = 0 ∨ j = 1 ∨ j = 2 := by omega
        rcases hj3 with rfl | rfl | rfl
        · skip
          rw [show ((0 : Nat) : Int) = 0 from rfl]
          go_upto_region 14 with (fail)
          obtain ⟨w54, hW54⟩ : ∃ w54 : World, w54 = (wr.alloc (.cells #[.bool n1, .slice Aa k1 ca] 24)) := ⟨_, rfl⟩
          rw [← hW54]
          have hb54 : Below wr.heap.size wr w54 := by rw [hW54]; (repeat' (first | exact Below.refl _ _ | refine Below.drew ?_ | refine Below.alloc ?_ (by first | exact Nat.le_refl _ | (simp; done) | (simp; omega)) _))
          have Lx_54 : LB w54 (wr.heap.size) (.bool n1) (.slice Aa k1 ca) := by rw [hW54]; (repeat (first | (refine LB.new' ?_; simp; done) | refine LB.alloc ?_ _))
          have za54 : wr.heap.size + 1 ≤ w54.heap.size := by rw [hW54]; simp
          have B55 := Lib.hid hb54
          have z55 := B55.out.size
          have HB56 := Lib.hid (HBAS.out.trans (B55.out.mono HBAS.out.size))
          clear hb54 hW54
          obtain ⟨⟨zq, zr, ze⟩, hrz⟩ : ∃ r : Int × Int × Int, r = D2 (numOf n1 l1) (numOf n2 l2) := ⟨_, rfl⟩
          have HRZ := Lib.hid hrz; clear hrz
          have q59_0 := Lx_54.cell0
          have q59_1 := Lx_54.cell1
          have q59_2 := Lx_54.frozen 0
          have q59_3 := Lx_54.frozen 1
          have q59_lt := Lx_54.lt
          have P7_9_60 := Lib.hid (HBI.out.trans (B55.out.mono HBI.out.size))
          have Lb_61 := LB.step Lb_44 P7_9_60.out
          have q62_0 := Lb_61.cell0
          have q62_1 := Lb_61.cell1
          have q62_2 := Lb_61.frozen 0
          have q62_3 := Lb_61.frozen 1
          have q62_lt := Lb_61.lt
          go_wp2_with fail
          have Hxx_63 := Lib.hid (LR.step Ha_45.out P7_9_60.out)
          have Hb_64 := Lib.hid (LR.step Hb_46.out P7_9_60.out)
          refine (Div_any _ _ _ _ _ _ _ Hxx_63.out Hb_64.out).mono ?_
          rintro e w58 ⟨hb58, hret57⟩
          have B65 := Lib.hid hb58
          have z65 := B65.out.size
          have HB66 := Lib.hid (HB56.out.trans (B65.out.mono HB56.out.size))
          clear hb58
          clear q59_0 q59_1 q59_2 q59_3 q59_lt q62_0 q62_1 q62_2 q62_3 q62_lt
          rw [← HRZ.out] at hret57; obtain ⟨v57, u57, rfl, hv57, hu57⟩ := hret57; replace hv57 : LV w58 w58.heap.size v57 zq := hv57; replace hu57 : LV w58 w58.heap.size u57 zr := hu57
          obtain ⟨n67, Ad67, l67, c67, rfl, hv67⟩ := hv57.opened
          have Hq_67 := Lib.hid hv67
          clear hv57 hv67
          obtain ⟨n68, Ad68, l68, c68, rfl, hv68⟩ := hu57.opened
          have Hr_68 := Lib.hid hv68
          clear hu57 hv68
          have Lx_69 := LB.step Lx_54 B65.out
          have q70_0 := Lx_69.cell0
          have q70_1 := Lx_69.cell1
          have q70_2 := Lx_69.frozen 0
          have q70_3 := Lx_69.frozen 1
          have q70_lt := Lx_69.lt
          have P7_10_72 := Lib.hid (P7_9_60.out.trans (B65.out.mono P7_9_60.out.size))
          have Lp_71 := CB.step Lp_51 P7_10_72.out
          have q73_0 := Lp_71.cell 0 rfl
          have q73_1 := Lp_71.cell 1 rfl
          have q73_2 := Lp_71.cell 2 rfl
          have q73_3 := Lp_71.cell 3 rfl
          have q73_lt := Lp_71.lt
          go_wp2_with fail
          obtain ⟨w74, hW74⟩ : ∃ w74 : World, w74 = ((w58.alloc (.cells #[.bool n67, .slice Ad67 l67 c67] 24)).alloc (.cells #[.bool n68, .slice Ad68 l68 c68] 24)) := ⟨_, rfl⟩
          rw [← hW74]
          have hb74 : Below w58.heap.size w58 w74 := by rw [hW74]; (repeat' (first | exact Below.refl _ _ | refine Below.drew ?_ | refine Below.alloc ?_ (by first | exact Nat.le_refl _ | (simp; done) | (simp; omega)) _))
          have Lq_74 : LB w74 (w58.heap.size) (.bool n67) (.slice Ad67 l67 c67) := by rw [hW74]; (repeat (first | (refine LB.new' ?_; simp; done) | refine LB.alloc ?_ _))
          have Lr_74 : LB w74 (w58.heap.size + 1) (.bool n68) (.slice Ad68 l68 c68) := by rw [hW74]; (repeat (first | (refine LB.new' ?_; simp; done) | refine LB.alloc ?_ _))
          have za74 : w58.heap.size + 2 ≤ w74.heap.size := by rw [hW74]; simp
          have B75 := Lib.hid hb74
          have z75 := B75.out.size
          have HB76 := Lib.hid (HB66.out.trans (B75.out.mono HB66.out.size))
          clear hb74 hW74
          clear q70_0 q70_1 q70_2 q70_3 q70_lt q73_0 q73_1 q73_2 q73_3 q73_lt
          have P9_11_79 := Lib.hid (B65.out.trans (B75.out.mono B65.out.size))
          have Hxx_80 := Lib.hid (LR.step Hxx_63.out P9_11_79.out)
          have P7_11_81 := Lib.hid (P7_10_72.out.trans (B75.out.mono P7_10_72.out.size))
          have Hpb_82 := Lib.hid (LR.step Hpb_50.out P7_11_81.out)
          refine (RDiv_any _ _ _ _ _ _ _ Hxx_80.out Hpb_82.out).mono ?_
          rintro e w78 ⟨hb78, hret77⟩
          have B83 := Lib.hid hb78
          have z83 := B83.out.size
          have HB84 := Lib.hid (HB76.out.trans (B83.out.mono HB76.out.size))
          clear hb78
          rw [← HRZ.out] at hret77; obtain ⟨v77, u77, rfl, hv77, hu77⟩ := hret77; replace hv77 : LV w78 w78.heap.size v77 zq := hv77; replace hu77 : LV w78 w78.heap.size u77 zr := hu77
          obtain ⟨n85, Ad85, l85, c85, rfl, hv85⟩ := hv77.opened
          have Hq2_85 := Lib.hid hv85
          clear hv77 hv85
          obtain ⟨n86, Ad86, l86, c86, rfl, hv86⟩ := hu77.opened
          have Hr2_86 := Lib.hid hv86
          clear hu77 hv86
          have Lq_87 := LB.step Lq_74 B83.out
          have q88_0 := Lq_87.cell0
          have q88_1 := Lq_87.cell1
          have q88_2 := Lq_87.frozen 0
          have q88_3 := Lq_87.frozen 1
          have q88_lt := Lq_87.lt
          have Lr_89 := LB.step Lr_74 B83.out
          have q90_0 := Lr_89.cell0
          have q90_1 := Lr_89.cell1
          have q90_2 := Lr_89.frozen 0
          have q90_3 := Lr_89.frozen 1
          have q90_lt := Lr_89.lt
          go_wp2_with fail
          obtain ⟨w91, hW91⟩ : ∃ w91 : World, w91 = ((w78.alloc (.cells #[.bool n85, .slice Ad85 l85 c85] 24)).alloc (.cells #[.bool n86, .slice Ad86 l86 c86] 24)) := ⟨_, rfl⟩
          rw [← hW91]
          have hb91 : Below w78.heap.size w78 w91 := by rw [hW91]; (repeat' (first | exact Below.refl _ _ | refine Below.drew ?_ | refine Below.alloc ?_ (by first | exact Nat.le_refl _ | (simp; done) | (simp; omega)) _))
          have Lq2_91 : LB w91 (w78.heap.size) (.bool n85) (.slice Ad85 l85 c85) := by rw [hW91]; (repeat (first | (refine LB.new' ?_; simp; done) | refine LB.alloc ?_ _))
          have Lr2_91 : LB w91 (w78.heap.size + 1) (.bool n86) (.slice Ad86 l86 c86) := by rw [hW91]; (repeat (first | (refine LB.new' ?_; simp; done) | refine LB.alloc ?_ _))
          have za91 : w78.heap.size + 2 ≤ w91.heap.size := by rw [hW91]; simp
          have B92 := Lib.hid hb91
          have z92 := B92.out.size
          have HB93 := Lib.hid (HB84.out.trans (B92.out.mono HB84.out.size))
          clear hb91 hW91
          clear q88_0 q88_1 q88_2 q88_3 q88_lt q90_0 q90_1 q90_2 q90_3 q90_lt
          have P10_12_95 := Lib.hid (B75.out.trans (B83.out.mono B75.out.size))
          have P10_13_96 := Lib.hid (P10_12_95.out.trans (B92.out.mono P10_12_95.out.size))
          have Hq_97 := Lib.hid (LV.step Hq_67.out P10_13_96.out)
          have Hq2_98 := Lib.hid (LV.step Hq2_85.out B92.out)
          refine (alike_yes _ _ _ zq ze Hq_97.out Hq2_98.out).mono ?_
          rintro e w94 ⟨hb94, rfl⟩
          have B99 := Lib.hid hb94
          have z99 := B99.out.size
          have HB100 := Lib.hid (HB93.out.trans (B99.out.mono HB93.out.size))
          clear hb94
          have P12_14_102 := Lib.hid (B92.out.trans (B99.out.mono B92.out.size))
          have Lr_103 := LB.step Lr_89 P12_14_102.out
          have q104_0 := Lr_103.cell0
          have q104_1 := Lr_103.cell1
          have q104_2 := Lr_103.frozen 0
          have q104_3 := Lr_103.frozen 1
          have q104_lt := Lr_103.lt
          have Lr2_105 := LB.step Lr2_91 B99.out
          have q106_0 := Lr2_105.cell0
          have q106_1 := Lr2_105.cell1
          have q106_2 := Lr2_105.frozen 0
          have q106_3 := Lr2_105.frozen 1
          have q106_lt := Lr2_105.lt
          go_wp2_with fail
          have P10_14_107 := Lib.hid (P10_13_96.out.trans (B99.out.mono P10_13_96.out.size))
          have Hr_108 := Lib.hid (LV.step Hr_68.out P10_14_107.out)
          have Hr2_109 := Lib.hid (LV.step Hr2_86.out P12_14_102.out)
          refine (alike_yes _ _ _ zr ze Hr_108.out Hr2_109.out).mono ?_
          rintro e w101 ⟨hb101, rfl⟩
          have B110 := Lib.hid hb101
          have z110 := B110.out.size
          have HB111 := Lib.hid (HB100.out.trans (B110.out.mono HB100.out.size))
          clear hb101
          clear q104_0 q104_1 q104_2 q104_3 q104_lt q106_0 q106_1 q106_2 q106_3 q106_lt
          have P7_12_112 := Lib.hid (P7_11_81.out.trans (B83.out.mono P7_11_81.out.size))
          have P7_13_113 := Lib.hid (P7_12_112.out.trans (B92.out.mono P7_12_112.out.size))
          have P7_14_114 := Lib.hid (P7_13_113.out.trans (B99.out.mono P7_13_113.out.size))
          have P7_15_115 := Lib.hid (P7_14_114.out.trans (B110.out.mono P7_14_114.out.size))
          go_wp2
          go_roundw
          case rel => exact ⟨1, by omega, rfl, P7_15_115⟩
          case measure => simp [intOf]
        · skip
          rw [show ((1 : Nat) : Int) = 1 from rfl]
          go_upto_region 14 with (fail)
          obtain ⟨w117, hW117⟩ : ∃ w117 : World, w117 = (wr.alloc (.cells #[.bool n7, .slice Ad7 l7 c7] 24)) := ⟨_, rfl⟩
          rw [← hW117]
          have hb117 : Below wr.heap.size wr w117 := by rw [hW117]; (repeat' (first | exact Below.refl _ _ | refine Below.drew ?_ | refine Below.alloc ?_ (by first | exact Nat.le_refl _ | (simp; done) | (simp; omega)) _))
          have Lx_117 : LB w117 (wr.heap.size) (.bool n7) (.slice Ad7 l7 c7) := by rw [hW117]; (repeat (first | (refine LB.new' ?_; simp; done) | refine LB.alloc ?_ _))
          have za117 : wr.heap.size + 1 ≤ w117.heap.size := by rw [hW117]; simp
          have B118 := Lib.hid hb117
          have z118 := B118.out.size
          have HB119 := Lib.hid (HBAS.out.trans (B118.out.mono HBAS.out.size))
          clear hb117 hW117
          obtain ⟨⟨zq, zr, ze⟩, hrz⟩ : ∃ r : Int × Int × Int, r = D2 (numOf n7 (ni (dig zm.natAbs))) (numOf n2 l2) := ⟨_, rfl⟩
          have HRZ := Lib.hid hrz; clear hrz
          have q122_0 := Lx_117.cell0
          have q122_1 := Lx_117.cell1
          have q122_2 := Lx_117.frozen 0
          have q122_3 := Lx_117.frozen 1
          have q122_lt := Lx_117.lt
          have P7_9_123 := Lib.hid (HBI.out.trans (B118.out.mono HBI.out.size))
          have Lb_124 := LB.step Lb_44 P7_9_123.out
          have q125_0 := Lb_124.cell0
          have q125_1 := Lb_124.cell1
          have q125_2 := Lb_124.frozen 0
          have q125_3 := Lb_124.frozen 1
          have q125_lt := Lb_124.lt
          go_wp2_with fail
          have Hxx_126 := Lib.hid (LR.step HMR.out P7_9_123.out)
          have Hb_127 := Lib.hid (LR.step Hb_46.out P7_9_123.out)
          refine (Div_any _ _ _ _ _ _ _ Hxx_126.out Hb_127.out).mono ?_
          rintro e w121 ⟨hb121, hret120⟩
          have B128 := Lib.hid hb121
          have z128 := B128.out.size
          have HB129 := Lib.hid (HB119.out.trans (B128.out.mono HB119.out.size))
          clear hb121
          clear q122_0 q122_1 q122_2 q122_3 q122_lt q125_0 q125_1 q125_2 q125_3 q125_lt
          rw [← HRZ.out] at hret120; obtain ⟨v120, u120, rfl, hv120, hu120⟩ := hret120; replace hv120 : LV w121 w121.heap.size v120 zq := hv120; replace hu120 : LV w121 w121.heap.size u120 zr := hu120
          obtain ⟨n130, Ad130, l130, c130, rfl, hv130⟩ := hv120.opened
          have Hq_130 := Lib.hid hv130
          clear hv120 hv130
          obtain ⟨n131, Ad131, l131, c131, rfl, hv131⟩ := hu120.opened
          have Hr_131 := Lib.hid hv131
          clear hu120 hv131
          have Lx_132 := LB.step Lx_117 B128.out
          have q133_0 := Lx_132.cell0
          have q133_1 := Lx_132.cell1
          have q133_2 := Lx_132.frozen 0
          have q133_3 := Lx_132.frozen 1
          have q133_lt := Lx_132.lt
          have P7_10_135 := Lib.hid (P7_9_123.out.trans (B128.out.mono P7_9_123.out.size))
          have Lp_134 := CB.step Lp_51 P7_10_135.out
          have q136_0 := Lp_134.cell 0 rfl
          have q136_1 := Lp_134.cell 1 rfl
          have q136_2 := Lp_134.cell 2 rfl
          have q136_3 := Lp_134.cell 3 rfl
          have q136_lt := Lp_134.lt
          go_wp2_with fail
          obtain ⟨w137, hW137⟩ : ∃ w137 : World, w137 = ((w121.alloc (.cells #[.bool n130, .slice Ad130 l130 c130] 24)).alloc (.cells #[.bool n131, .slice Ad131 l131 c131] 24)) := ⟨_, rfl⟩
          rw [← hW137]
          have hb137 : Below w121.heap.size w121 w137 := by rw [hW137]; (repeat' (first | exact Below.refl _ _ | refine Below.drew ?_ | refine Below.alloc ?_ (by first | exact Nat.le_refl _ | (simp; done) | (simp; omega)) _))
          have Lq_137 : LB w137 (w121.heap.size) (.bool n130) (.slice Ad130 l130 c130) := by rw [hW137]; (repeat (first | (refine LB.new' ?_; simp; done) | refine LB.alloc ?_ _))
          have Lr_137 : LB w137 (w121.heap.size + 1) (.bool n131) (.slice Ad131 l131 c131) := by rw [hW137]; (repeat (first | (refine LB.new' ?_; simp; done) | refine LB.alloc ?_ _))
          have za137 : w121.heap.size + 2 ≤ w137.heap.size := by rw [hW137]; simp
          have B138 := Lib.hid hb137
          have z138 := B138.out.size
          have HB139 := Lib.hid (HB129.out.trans (B138.out.mono HB129.out.size))
          clear hb137 hW137
          clear q133_0 q133_1 q133_2 q133_3 q133_lt q136_0 q136_1 q136_2 q136_3 q136_lt
          have P9_11_142 := Lib.hid (B128.out.trans (B138.out.mono B128.out.size))
          have Hxx_143 := Lib.hid (LR.step Hxx_126.out P9_11_142.out)
          have P7_11_144 := Lib.hid (P7_10_135.out.trans (B138.out.mono P7_10_135.out.size))
          have Hpb_145 := Lib.hid (LR.step Hpb_50.out P7_11_144.out)
          refine (RDiv_any _ _ _ _ _ _ _ Hxx_143.out Hpb_145.out).mono ?_
          rintro e w141 ⟨hb141, hret140⟩
          have B146 := Lib.hid hb141
          have z146 := B146.out.size
          have HB147 := Lib.hid (HB139.out.trans (B146.out.mono HB139.out.size))
          clear hb141
          rw [← HRZ.out] at hret140; obtain ⟨v140, u140, rfl, hv140, hu140⟩ := hret140; replace hv140 : LV w141 w141.heap.size v140 zq := hv140; replace hu140 : LV w141 w141.heap.size u140 zr := hu140
          obtain ⟨n148, Ad148, l148, c148, rfl, hv148⟩ := hv140.opened
          have Hq2_148 := Lib.hid hv148
          clear hv140 hv148
          obtain ⟨n149, Ad149, l149, c149, rfl, hv149⟩ := hu140.opened
          have Hr2_149 := Lib.hid hv149
          clear hu140 hv149
          have Lq_150 := LB.step Lq_137 B146.out
          have q151_0 := Lq_150.cell0
          have q151_1 := Lq_150.cell1
          have q151_2 := Lq_150.frozen 0
          have q151_3 := Lq_150.frozen 1
          have q151_lt := Lq_150.lt
          have Lr_152 := LB.step Lr_137 B146.out
          have q153_0 := Lr_152.cell0
          have q153_1 := Lr_152.cell1
          have q153_2 := Lr_152.frozen 0
          have q153_3 := Lr_152.frozen 1
          have q153_lt := Lr_152.lt
          go_wp2_with fail
          obtain ⟨w154, hW154⟩ : ∃ w154 : World, w154 = ((w141.alloc (.cells #[.bool n148, .slice Ad148 l148 c148] 24)).alloc (.cells #[.bool n149, .slice Ad149 l149 c149] 24)) := ⟨_, rfl⟩
          rw [← hW154]
          have hb154 : Below w141.heap.size w141 w154 := by rw [hW154]; (repeat' (first | exact Below.refl _ _ | refine Below.drew ?_ | refine Below.alloc ?_ (by first | exact Nat.le_refl _ | (simp; done) | (simp; omega)) _))
          have Lq2_154 : LB w154 (w141.heap.size) (.bool n148) (.slice Ad148 l148 c148) := by rw [hW154]; (repeat (first | (refine LB.new' ?_; simp; done) | refine LB.alloc ?_ _))
          have Lr2_154 : LB w154 (w141.heap.size + 1) (.bool n149) (.slice Ad149 l149 c149) := by rw [hW154]; (repeat (first | (refine LB.new' ?_; simp; done) | refine LB.alloc ?_ _))
          have za154 : w141.heap.size + 2 ≤ w154.heap.size := by rw [hW154]; simp
          have B155 := Lib.hid hb154
          have z155 := B155.out.size
          have HB156 := Lib.hid (HB147.out.trans (B155.out.mono HB147.out.size))
          clear hb154 hW154
          clear q151_0 q151_1 q151_2 q151_3 q151_lt q153_0 q153_1 q153_2 q153_3 q153_lt
          have P10_12_158 := Lib.hid (B138.out.trans (B146.out.mono B138.out.size))
          have P10_13_159 := Lib.hid (P10_12_158.out.trans (B155.out.mono P10_12_158.out.size))
          have Hq_160 := Lib.hid (LV.step Hq_130.out P10_13_159.out)
          have Hq2_161 := Lib.hid (LV.step Hq2_148.out B155.out)
          refine (alike_yes _ _ _ zq ze Hq_160.out Hq2_161.out).mono ?_
          rintro e w157 ⟨hb157, rfl⟩
          have B162 := Lib.hid hb157
          have z162 := B162.out.size
          have HB163 := Lib.hid (HB156.out.trans (B162.out.mono HB156.out.size))
          clear hb157
          have P12_14_165 := Lib.hid (B155.out.trans (B162.out.mono B155.out.size))
          have Lr_166 := LB.step Lr_152 P12_14_165.out
          have q167_0 := Lr_166.cell0
          have q167_1 := Lr_166.cell1
          have q167_2 := Lr_166.frozen 0
          have q167_3 := Lr_166.frozen 1
          have q167_lt := Lr_166.lt
          have Lr2_168 := LB.step Lr2_154 B162.out
          have q169_0 := Lr2_168.cell0
          have q169_1 := Lr2_168.cell1
          have q169_2 := Lr2_168.frozen 0
          have q169_3 := Lr2_168.frozen 1
          have q169_lt := Lr2_168.lt
          go_wp2_with fail
          have P10_14_170 := Lib.hid (P10_13_159.out.trans (B162.out.mono P10_13_159.out.size))
          have Hr_171 := Lib.hid (LV.step Hr_131.out P10_14_170.out)
          have Hr2_172 := Lib.hid (LV.step Hr2_149.out P12_14_165.out)
          refine (alike_yes _ _ _ zr ze Hr_171.out Hr2_172.out).mono ?_
          rintro e w164 ⟨hb164, rfl⟩
          have B173 := Lib.hid hb164
          have z173 := B173.out.size
          have HB174 := Lib.hid (HB163.out.trans (B173.out.mono HB163.out.size))
          clear hb164
          clear q167_0 q167_1 q167_2 q167_3 q167_lt q169_0 q169_1 q169_2 q169_3 q169_lt
          have P7_12_175 := Lib.hid (P7_11_144.out.trans (B146.out.mono P7_11_144.out.size))
          have P7_13_176 := Lib.hid (P7_12_175.out.trans (B155.out.mono P7_12_175.out.size))
          have P7_14_177 := Lib.hid (P7_13_176.out.trans (B162.out.mono P7_13_176.out.size))
          have P7_15_178 := Lib.hid (P7_14_177.out.trans (B173.out.mono P7_14_177.out.size))
          go_wp2
          go_roundw
          case rel => exact ⟨2, by omega, rfl, P7_15_178⟩
          case measure => simp [intOf]
        · skip
          rw [show ((2 : Nat) : Int) = 2 from rfl]
          have La_180 := LB.step La_38 HBI.out
          have q181_0 := La_180.cell0
          have q181_1 := La_180.cell1
          have q181_2 := La_180.frozen 0
          have q181_3 := La_180.frozen 1
          have q181_lt := La_180.lt
          have Lp_182 := CB.step Lp_51 HBI.out
          have q183_0 := Lp_182.cell 0 rfl
          have q183_1 := Lp_182.cell 1 rfl
          have q183_2 := Lp_182.cell 2 rfl
          have q183_3 := Lp_182.cell 3 rfl
          have q183_lt := Lp_182.lt
          go_wp2_with fail
          have Ha_184 := Lib.hid (LR.step Ha_45.out HBI.out)
          have Hpa_185 := Lib.hid (LR.step Hpa_49.out HBI.out)
          refine (SameR_yes Ha_184.out Hpa_185.out).mono ?_
          rintro e w179 ⟨hb179, rfl⟩
          have B186 := Lib.hid hb179
          have z186 := B186.out.size
          have HB187 := Lib.hid (HBAS.out.trans (B186.out.mono HBAS.out.size))
          clear hb179
          clear q181_0 q181_1 q181_2 q181_3 q181_lt q183_0 q183_1 q183_2 q183_3 q183_lt
          have P7_9_189 := Lib.hid (HBI.out.trans (B186.out.mono HBI.out.size))
          have Lb_190 := LB.step Lb_44 P7_9_189.out
          have q191_0 := Lb_190.cell0
          have q191_1 := Lb_190.cell1
          have q191_2 := Lb_190.frozen 0
          have q191_3 := Lb_190.frozen 1
          have q191_lt := Lb_190.lt
          have Lp_192 := CB.step Lp_182 B186.out
          have q193_0 := Lp_192.cell 0 rfl
          have q193_1 := Lp_192.cell 1 rfl
          have q193_2 := Lp_192.cell 2 rfl
          have q193_3 := Lp_192.cell 3 rfl
          have q193_lt := Lp_192.lt
          go_wp2_with fail
          have Hb_194 := Lib.hid (LR.step Hb_46.out P7_9_189.out)
          have Hpb_195 := Lib.hid (LR.step Hpb_50.out P7_9_189.out)
          refine (SameR_yes Hb_194.out Hpb_195.out).mono ?_
          rintro e w188 ⟨hb188, rfl⟩
          have B196 := Lib.hid hb188
          have z196 := B196.out.size
          have HB197 := Lib.hid (HB187.out.trans (B196.out.mono HB187.out.size))
          clear hb188
          clear q191_0 q191_1 q191_2 q191_3 q191_lt q193_0 q193_1 q193_2 q193_3 q193_lt
          go_wp2
          go_roundw
          case rel => exact ⟨k + 1, by omega, by rw [show ((k + 1 : Nat) : Int) = (k : Int) + 1 by omega], Lib.hid (HBW.out.trans (HB197.out.mono HBW.out.size)), Lib.hid (HP.out.step HB197.out)⟩
          case measure => simp [intOf] <;> omega
end Go.Proofs.YtnbanlmkoljghaaGreatDoor
