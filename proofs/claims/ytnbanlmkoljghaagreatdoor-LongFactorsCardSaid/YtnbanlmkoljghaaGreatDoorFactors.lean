/- The law LongFactors (written by gen_factors.py). -/
import Derived.Test.YtnbanlmkoljghaaGreatDoorWorks
import Derived.Test.YtnbanlmkoljghaaGreatDoorRing
import Derived.Test.YtnbanlmkoljghaaGreatDoorFac
import Derived.Deep.DeepCutAuto
import Derived.Deep.CutBlock
namespace Go.Proofs.YtnbanlmkoljghaaGreatDoor
open Go Go.RowKit Dig

set_option maxRecDepth 100000 in
set_option maxHeartbeats 16000000 in
theorem LongFactors_any (w : World) (G : Glob w) (na : Bool) (sa : Value) (la : List Int) (nb : Bool) (sb : Value) (lb : List Int) (nx : Bool) (lx : Int) (sx : Value) (wx : List Nat) (ny : Bool) (ly : Int) (sy : Value) (wy : List Nat)
    (ha : RI w w.heap.size sa la) (hb : RI w w.heap.size sb lb) (hx0 : 0 ≤ lx) (hx1 : lx ≤ 255) (hx : RW w w.heap.size sx wx) (hy0 : 0 ≤ ly) (hy1 : ly ≤ 255) (hy : RW w w.heap.size sy wy)
    (nd : Bool) (ld : Int) (sd : Value) (wd : List Nat) (hd0 : 0 ≤ ld) (hd1 : ld ≤ 255) (hd : RW w w.heap.size sd wd) :
    Calls Tryz.prog 7 #[.agg #[.bool na, sa, .bool nb, sb, .bool nx, .int .u8 lx, sx, .bool ny, .int .u8 ly, sy], .agg #[.bool nd, .int .u8 ld, sd]] w fun e w' => Below w.heap.size w w' ∧ e = .returned (.bool true) := by
  obtain ⟨X, hX⟩ : ∃ z, sgn nx (val (draftDs (lx.toNat % 8) 40 wx)) = z := ⟨_, rfl⟩
  obtain ⟨Y, hY⟩ : ∃ z, sgn ny (val (draftDs (ly.toNat % 8) 40 wy)) = z := ⟨_, rfl⟩
  obtain ⟨V, hV⟩ : ∃ z, sgn ny (val (draftDs 0 3 wy)) = z := ⟨_, rfl⟩
  obtain ⟨U, hU⟩ : ∃ z, sgn nx (val (draftDs 0 3 wx)) = z := ⟨_, rfl⟩
  obtain ⟨C, hC⟩ : ∃ z, sgn nd (val (draftDs 0 3 wd)) = z := ⟨_, rfl⟩
  have hlX : Hid (Len 47 X) := Lib.hid (by rw [← hX, Len]; exact draft_fit (by omega))
  have hlY : Hid (Len 47 Y) := Lib.hid (by rw [← hY, Len]; exact draft_fit (by omega))
  have hlV : Hid (Len 47 V) := Lib.hid (by rw [← hV, Len]; exact draft_fit (by omega))
  have hlC : Hid (Len 3 C) := Lib.hid (by rw [← hC, Len]; exact draft_fit (by omega))
  replace hC := Lib.hid hC
  have HB0 := Lib.hid (((Below.refl w.heap.size w).alloc (Nat.le_refl _) (.cells #[.bool na, sa, .bool nb, sb, .bool nx, .int .u8 lx, sx, .bool ny, .int .u8 ly, sy] 29)).alloc (by simp) (.cells #[.bool nd, .int .u8 ld, sd] 27))
  have B1 := (CB.new w 29 #[.bool na, sa, .bool nb, sb, .bool nx, .int .u8 lx, sx, .bool ny, .int .u8 ly, sy]).alloc (.cells #[.bool nd, .int .u8 ld, sd] 27)
  have B2 : CB ((w.alloc (.cells #[.bool na, sa, .bool nb, sb, .bool nx, .int .u8 lx, sx, .bool ny, .int .u8 ly, sy] 29)).alloc (.cells #[.bool nd, .int .u8 ld, sd] 27)) (w.heap.size + 1) 27 #[.bool nd, .int .u8 ld, sd] := by have h := CB.new (w.alloc (.cells #[.bool na, sa, .bool nb, sb, .bool nx, .int .u8 lx, sx, .bool ny, .int .u8 ly, sy] 29)) 27 #[.bool nd, .int .u8 ld, sd]; simpa using h
  replace ha := Lib.hid (ha.step HB0.out)
  replace hb := Lib.hid (hb.step HB0.out)
  replace hx := Lib.hid (hx.step HB0.out)
  replace hy := Lib.hid (hy.step HB0.out)
  replace hd := Lib.hid (hd.step HB0.out)
  go_enter Tryz.func7, Tryz.ntmps7
  go_wp2_with fail
  refine (works_any _ (G.step HB0.out)).mono ?_
  rintro e w1 ⟨hb1, rfl⟩
  have HB1 := Lib.hid (HB0.out.trans (hb1.mono HB0.out.size))
  replace B1 := B1.step hb1
  replace B2 := B2.step hb1
  replace ha := Lib.hid (ha.out.step hb1)
  replace hb := Lib.hid (hb.out.step hb1)
  replace hx := Lib.hid (hx.out.step hb1)
  replace hy := Lib.hid (hy.out.step hb1)
  replace hd := Lib.hid (hd.out.step hb1)
  clear hb1 HB0
  have q0 := B1.cell 0 rfl
  have q1 := B1.cell 1 rfl
  have q2 := B1.cell 2 rfl
  have q3 := B1.cell 3 rfl
  have q4 := B1.cell 4 rfl
  have q5 := B1.cell 5 rfl
  have q6 := B1.cell 6 rfl
  have q7 := B1.cell 7 rfl
  have q8 := B1.cell 8 rfl
  have q9 := B1.cell 9 rfl
  go_wp2_with fail
  refine (pairs_any _ na nb nx ny sa sb sx sy la lb lx ly wx wy ha.out hb.out hx0 hx1 hx.out hy0 hy1 hy.out X Y V U hX hY hV hU).mono ?_
  rintro e w2 ⟨hb2, g, s0, s1, s2, s3, s4, s5, s6, s7, rfl, -, HP⟩
  have HB2 := Lib.hid (HB1.out.trans (hb2.mono HB1.out.size))
  replace B2 := B2.step hb2
  replace hd := Lib.hid (hd.out.step hb2)
  replace HP := Lib.hid HP
  replace B2 := Lib.hid B2
  clear q0 q1 q2 q3 q4 q5 q6 q7 q8 q9 hb2 HB1 B1 ha hb hx hy hX hY hV hU hx0 hx1 hy0 hy1
  go_wp2
  go_loopw [30] (fun i wr => ∃ k : Nat, k ≤ 2 ∧ i = .int .i64 k ∧ Hid (Below w.heap.size w wr) ∧ Hid (CB wr (w.heap.size + 1) 27 #[.bool nd, .int .u8 ld, sd]) ∧ Hid (RW wr wr.heap.size sd wd) ∧ Hid (Pairs wr g na nb la lb X Y V U s0 s1 s2 s3 s4 s5 s6 s7)) (fun i _ => 2 - (intOf i).toNat)
  case atStart => exact ⟨0, by omega, rfl, HB2, B2, hd, HP⟩
  case round =>
    clear HB2 B2 hd HP
    obtain ⟨k, hk, rfl, HBW, B2, hd, HP⟩ := hrel
    have G1 := G.step HBW.out
    by_cases hk2 : k = 2
    · subst hk2
      rw [show ((2 : Nat) : Int) = 2 from rfl]
      go_wp2
      go_ret
      exact ⟨HBW.out, rfl⟩
    obtain ⟨Q, A1, c1, A2, c2, hQ, p0, p1, p2, p3, v1, v2⟩ := HP.out.mid k (by omega)
    have hlQ : Hid (Len 47 Q) := by rcases hQ with rfl | rfl <;> assumption
    have HFX : Hid (Fit X) := Lib.hid (hlX.out.fit (by omega))
    have HFQ : Hid (Fit Q) := Lib.hid (hlQ.out.fit (by omega))
    have HFC : Hid (Fit C) := Lib.hid (hlC.out.fit (by omega))
    have hki : (k : Int) < 2 := by omega
    have q0 := B2.out.cell 0 rfl
    have q1 := B2.out.cell 1 rfl
    have q2 := B2.out.cell 2 rfl
    go_upto_region 6 with (fail)
    obtain ⟨wp, hwp⟩ : ∃ wp : World, wp = wr.alloc (.cells #[.bool (decide (X < 0)), .slice A1 (dig X.natAbs).length c1, .bool (decide (Q < 0)), .slice A2 (dig Q.natAbs).length c2] 33) := ⟨_, rfl⟩
    rw [← hwp]
    have hBp : Below wr.heap.size wr wp := by rw [hwp]; exact (Below.refl _ _).alloc (Nat.le_refl _) _
    have P0 : CB wp wr.heap.size 33 #[.bool (decide (X < 0)), .slice A1 (dig X.natAbs).length c1, .bool (decide (Q < 0)), .slice A2 (dig Q.natAbs).length c2] := by rw [hwp]; exact CB.new _ _ _
    have D0 := B2.out.step hBp
    have v1' := LV.step v1 hBp
    have v2' := LV.step v2 hBp
    have hd' := Lib.hid (RW.step hd.out hBp)
    have HBp := Lib.hid hBp
    have hgp := hBp.size
    clear p0 p1 p2 p3 q0 q1 q2 v1 v2 hBp hwp
    have KS : ∀ w' : World, Below wp.heap.size wp w' → (Below wp.heap.size wp w' ∧ w'.cell? ⟨wr.heap.size, 0, none⟩ = some (.bool (decide (X < 0))) ∧ w'.cell? ⟨wr.heap.size, 1, none⟩ = some (.slice A1 (dig X.natAbs).length c1) ∧ w'.cell? ⟨wr.heap.size, 2, none⟩ = some (.bool (decide (Q < 0))) ∧ w'.cell? ⟨wr.heap.size, 3, none⟩ = some (.slice A2 (dig Q.natAbs).length c2) ∧ w'.cell? ⟨w.heap.size + 1, 0, none⟩ = some (.bool nd) ∧ w'.cell? ⟨w.heap.size + 1, 1, none⟩ = some (.int .u8 ld) ∧ w'.cell? ⟨w.heap.size + 1, 2, none⟩ = some (sd)) := fun w' h => ⟨h, (P0.step h).cell 0 rfl, (P0.step h).cell 1 rfl, (P0.step h).cell 2 rfl, (P0.step h).cell 3 rfl, (D0.step h).cell 0 rfl, (D0.step h).cell 1 rfl, (D0.step h).cell 2 rfl⟩
    obtain ⟨-, p0, p1, p2, p3, q0, q1, q2⟩ := KS wp (Below.refl _ _)
    have KB : ∀ w' : World, (Below wp.heap.size wp w' ∧ w'.cell? ⟨wr.heap.size, 0, none⟩ = some (.bool (decide (X < 0))) ∧ w'.cell? ⟨wr.heap.size, 1, none⟩ = some (.slice A1 (dig X.natAbs).length c1) ∧ w'.cell? ⟨wr.heap.size, 2, none⟩ = some (.bool (decide (Q < 0))) ∧ w'.cell? ⟨wr.heap.size, 3, none⟩ = some (.slice A2 (dig Q.natAbs).length c2) ∧ w'.cell? ⟨w.heap.size + 1, 0, none⟩ = some (.bool nd) ∧ w'.cell? ⟨w.heap.size + 1, 1, none⟩ = some (.int .u8 ld) ∧ w'.cell? ⟨w.heap.size + 1, 2, none⟩ = some (sd)) → Below wp.heap.size wp w' := fun w' h => h.1
    go_cut [7, 8, 9] (fun sa sb sc wx => ∃ (ba bb bc : Nat) (A3 : Option Addr) (c3 : Nat), sa = .pointer (some ⟨ba, 0, none⟩) ∧ sb = .pointer (some ⟨bb, 0, none⟩) ∧ sc = .pointer (some ⟨bc, 0, none⟩) ∧ LB wx ba (.bool (decide (X < 0))) (.slice A1 (dig (X).natAbs).length c1) ∧ LB wx bb (.bool (decide (Q < 0))) (.slice A2 (dig (Q).natAbs).length c2) ∧ LB wx bc (.bool (decide (C < 0))) (.slice A3 (dig (C).natAbs).length c3) ∧ Hid (LV wx wx.heap.size (.agg #[.bool (decide (C < 0)), .slice A3 (dig (C).natAbs).length c3]) C) ∧ Hid (ba ≠ bb) ∧ Hid (ba ≠ bc) ∧ Hid (bb ≠ bc) ∧ Hid (wr.heap.size ≤ ba) ∧ Hid (wr.heap.size ≤ bb) ∧ Hid (wr.heap.size ≤ bc) ∧ Hid (Below wp.heap.size wp wx))
    case first => as_aux_lemma =>
      have tok0 : True := trivial
      go_region_held3 (fun w' => Below wp.heap.size wp w' ∧ w'.cell? ⟨wr.heap.size, 0, none⟩ = some (.bool (decide (X < 0))) ∧ w'.cell? ⟨wr.heap.size, 1, none⟩ = some (.slice A1 (dig X.natAbs).length c1) ∧ w'.cell? ⟨wr.heap.size, 2, none⟩ = some (.bool (decide (Q < 0))) ∧ w'.cell? ⟨wr.heap.size, 3, none⟩ = some (.slice A2 (dig Q.natAbs).length c2) ∧ w'.cell? ⟨w.heap.size + 1, 0, none⟩ = some (.bool nd) ∧ w'.cell? ⟨w.heap.size + 1, 1, none⟩ = some (.int .u8 ld) ∧ w'.cell? ⟨w.heap.size + 1, 2, none⟩ = some (sd)) (first
        | (refine KS _ ?_; repeat (first | with_reducible exact KU.out | with_reducible exact Below.refl _ _ | with_reducible refine below_alloc1 ?_ _ | with_reducible refine below_set1 ?_ (by first | omega | simp) _ _ | with_reducible refine below_drew1 ?_))
        | go_keep) (first
        | (go_at_call 28; clear tok0; ((with_reducible refine (Short_any _ nd ld _ wd hd0 hd1 (by exact RW.step hd'.out (KB _ (by assumption)))).mono ?_); rintro e u ⟨hbn, v, rfl, hv⟩; rw [hC.out] at hv; obtain ⟨A3, c3, rfl, -⟩ := hv.parts; have KU := Lib.hid (Below.trans (KB _ (by assumption)) (hbn.mono (KB _ (by assumption)).size)); have HV := Lib.hid hv; clear hv; have gu := hbn.size; (try simp at gu); (try (refine have_then (T := LB u wp.heap.size (.bool false) (.slice none 0 0)) ?_ ?_; (focus (refine LB.step ?_ hbn; (repeat (first | with_reducible refine LB.drew ?_ | with_reducible exact LB.new' rfl | (with_reducible refine LB.new' ?_; simp; done) | with_reducible refine LB.alloc ?_ _)); done)); intro Lz0)); (try (have y00 := Lz0.cell0; have y01 := Lz0.cell1; have y02 := Lz0.frozen 0; have y03 := Lz0.frozen 1; have y04 := Lz0.lt)); (try (refine have_then (T := LB u (wp.heap.size + 1) (.bool false) (.slice none 0 0)) ?_ ?_; (focus (refine LB.step ?_ hbn; (repeat (first | with_reducible refine LB.drew ?_ | with_reducible exact LB.new' rfl | (with_reducible refine LB.new' ?_; simp; done) | with_reducible refine LB.alloc ?_ _)); done)); intro Lz1)); (try (have y10 := Lz1.cell0; have y11 := Lz1.cell1; have y12 := Lz1.frozen 0; have y13 := Lz1.frozen 1; have y14 := Lz1.lt)); (try (refine have_then (T := LB u (wp.heap.size + 2) (.bool false) (.slice none 0 0)) ?_ ?_; (focus (refine LB.step ?_ hbn; (repeat (first | with_reducible refine LB.drew ?_ | with_reducible exact LB.new' rfl | (with_reducible refine LB.new' ?_; simp; done) | with_reducible refine LB.alloc ?_ _)); done)); intro Lz2)); (try (have y20 := Lz2.cell0; have y21 := Lz2.cell1; have y22 := Lz2.frozen 0; have y23 := Lz2.frozen 1; have y24 := Lz2.lt)))))
      all_goals
        go_wp2
        go_meet
        refine ⟨_, _, _, A3, c3, rfl, rfl, rfl, ?_, ?_, ?_, Lib.hid ?_, Lib.hid ?_, Lib.hid ?_, Lib.hid ?_, Lib.hid ?_, Lib.hid ?_, Lib.hid ?_, Lib.hid ?_⟩
        · (repeat (first | with_reducible exact Lz0 | with_reducible exact Lz1 | with_reducible exact Lz2 | with_reducible exact LB.new' rfl | (with_reducible refine LB.new' ?_; simp; done) | with_reducible refine lb_put0 ?_ | with_reducible refine lb_far ?_ (by omega) | with_reducible refine LB.alloc ?_ _ | with_reducible refine LB.drew ?_))
        · (repeat (first | with_reducible exact Lz0 | with_reducible exact Lz1 | with_reducible exact Lz2 | with_reducible exact LB.new' rfl | (with_reducible refine LB.new' ?_; simp; done) | with_reducible refine lb_put0 ?_ | with_reducible refine lb_far ?_ (by omega) | with_reducible refine LB.alloc ?_ _ | with_reducible refine LB.drew ?_))
        · (repeat (first | with_reducible exact Lz0 | with_reducible exact Lz1 | with_reducible exact Lz2 | with_reducible exact LB.new' rfl | (with_reducible refine LB.new' ?_; simp; done) | with_reducible refine lb_put0 ?_ | with_reducible refine lb_far ?_ (by omega) | with_reducible refine LB.alloc ?_ _ | with_reducible refine LB.drew ?_))
        · (repeat (first | with_reducible exact HV.out | with_reducible refine LV.alloc ?_ _ | (with_reducible refine lv_put0 ?_ ?_; focus (repeat (first | with_reducible exact Lz0 | with_reducible exact Lz1 | with_reducible exact Lz2 | with_reducible exact LB.new' rfl | (with_reducible refine LB.new' ?_; simp; done) | with_reducible refine lb_put0 ?_ | with_reducible refine lb_far ?_ (by omega) | with_reducible refine LB.alloc ?_ _ | with_reducible refine LB.drew ?_)))))
        · omega
        · omega
        · omega
        · omega
        · omega
        · omega
        · (repeat (first | with_reducible exact KU.out | with_reducible exact Below.refl _ _ | with_reducible refine below_alloc1 ?_ _ | with_reducible refine below_set1 ?_ (by first | omega | simp) _ _ | with_reducible refine below_drew1 ?_))
    case rest => as_aux_lemma =>
      obtain ⟨ba, bb, bc, A3, c3, rfl, rfl, rfl, La_0, Lb_0, Lc_0, Hc_0, nab, nac, nbc, ga, gb, gc, HBc⟩ := hcut
      have ne_a_b := nab.out
      have ne_a_c := nac.out
      have ne_b_c := nbc.out
      have ge_a := ga.out
      have ge_b := gb.out
      have ge_c := gc.out
      have Ha_0 := Lib.hid (LV.step v1' HBc.out)
      have Hb_0 := Lib.hid (LV.step v2' HBc.out)
      have HB_0 := Lib.hid (HBp.out.trans (HBc.out.mono HBp.out.size))
      clear nab nac nbc ga gb gc HBc HBp v1' v2' KS KB P0 D0 p0 p1 p2 p3 q0 q1 q2 hd' hgp hQ
      obtain ⟨N, hN⟩ : ∃ N : Int, N = (Int.gcd X Q : Int) := ⟨_, rfl⟩
      have HFN : Hid (Fit N) := Lib.hid (by rw [hN]; exact fit_gcd HFX.out HFQ.out)
      have HN := Lib.hid hN
      clear hN
      have q1_0 := La_0.cell0
      have q1_1 := La_0.cell1
      have q1_2 := La_0.frozen 0
      have q1_3 := La_0.frozen 1
      have q1_lt := La_0.lt
      have q2_0 := Lb_0.cell0
      have q2_1 := Lb_0.cell1
      have q2_2 := Lb_0.frozen 0
      have q2_3 := Lb_0.frozen 1
      have q2_lt := Lb_0.lt
      go_wp2_with fail
      refine (Gcd_num Ha_0.out Hb_0.out HFX.out HFQ.out).mono ?_
      rintro e w3 ⟨hb3, vg, rfl, hvg⟩
      have HB_4 := Lib.hid (HB_0.out.trans (hb3.mono HB_0.out.size))
      clear HB_0
      have La_5 := La_0.step hb3
      clear La_0
      have Lb_5 := Lb_0.step hb3
      clear Lb_0
      have Lc_5 := Lc_0.step hb3
      clear Lc_0
      have Ha_5 := Lib.hid (Ha_0.out.step hb3)
      clear Ha_0
      have Hb_5 := Lib.hid (Hb_0.out.step hb3)
      clear Hb_0
      have Hc_5 := Lib.hid (Hc_0.out.step hb3)
      clear Hc_0
      clear hb3
      clear q1_0 q1_1 q1_2 q1_3 q1_lt q2_0 q2_1 q2_2 q2_3 q2_lt
      rw [← HN.out] at hvg
      obtain ⟨A6, c6, rfl, -⟩ := hvg.parts
      have Ht_6 := Lib.hid hvg
      clear hvg
      by_cases hz : X = 0 ∧ Q = 0
      · have hN0 : N = 0 := by rw [HN.out, gcd_zero hz.1 hz.2]; rfl
        have hx0 : (dig X.natAbs).length = 0 := by rw [hz.1, show (0 : Int).natAbs = 0 from rfl, dig_zero]; rfl
        have hq0 : (dig Q.natAbs).length = 0 := by rw [hz.2, show (0 : Int).natAbs = 0 from rfl, dig_zero]; rfl
        replace hN0 := Lib.hid hN0
        clear hz
        have q7_0 := La_5.cell0
        have q7_1 := La_5.cell1
        have q7_2 := La_5.frozen 0
        have q7_3 := La_5.frozen 1
        have q7_lt := La_5.lt
        have q8_0 := Lb_5.cell0
        have q8_1 := Lb_5.cell1
        have q8_2 := Lb_5.frozen 0
        have q8_3 := Lb_5.frozen 1
        have q8_lt := Lb_5.lt
        have q9_0 := Lc_5.cell0
        have q9_1 := Lc_5.cell1
        have q9_2 := Lc_5.frozen 0
        have q9_3 := Lc_5.frozen 1
        have q9_lt := Lc_5.lt
        go_wp2_with fail
        clear q7_0 q7_1 q7_2 q7_3 q7_lt q8_0 q8_1 q8_2 q8_3 q8_lt q9_0 q9_1 q9_2 q9_3 q9_lt
        obtain ⟨w10, hW10⟩ : ∃ w10 : World, w10 = w3.alloc (.cells #[.bool (decide (N < 0)), .slice A6 (dig (N).natAbs).length c6] 24) := ⟨_, rfl⟩
        rw [← hW10]
        have hal11 : Below w3.heap.size w3 w10 := by rw [hW10]; exact (Below.refl _ _).alloc (Nat.le_refl _) _
        have Lg_11 : LB w10 (w3.heap.size) (.bool (decide (N < 0))) (.slice A6 (dig (N).natAbs).length c6) := by rw [hW10]; exact LB.new' (show w3.heap.size = w3.heap.size from (rfl).symm)
        have ne_a_g : ba ≠ w3.heap.size := Nat.ne_of_lt (by have h1 := La_5.lt; have h2 : w3.heap.size = w3.heap.size := rfl; omega)
        have ne_b_g : bb ≠ w3.heap.size := Nat.ne_of_lt (by have h1 := Lb_5.lt; have h2 : w3.heap.size = w3.heap.size := rfl; omega)
        have ne_c_g : bc ≠ w3.heap.size := Nat.ne_of_lt (by have h1 := Lc_5.lt; have h2 : w3.heap.size = w3.heap.size := rfl; omega)
        have ge_g : wr.heap.size ≤ w3.heap.size := by have h1 : wr.heap.size ≤ w3.heap.size := HB_4.out.size; have h2 : w3.heap.size = w3.heap.size := rfl; omega
        have HSZ_11 := Lib.hid (show w10.heap.size = w3.heap.size + 1 by rw [hW10]; have h2 : w3.heap.size = w3.heap.size := rfl; simp <;> omega)
        have HB_12 := Lib.hid (HB_4.out.trans (hal11.mono HB_4.out.size))
        clear HB_4
        have La_13 := La_5.step hal11
        clear La_5
        have Lb_13 := Lb_5.step hal11
        clear Lb_5
        have Lc_13 := Lc_5.step hal11
        clear Lc_5
        have Ha_13 := Lib.hid (Ha_5.out.step hal11)
        clear Ha_5
        have Hb_13 := Lib.hid (Hb_5.out.step hal11)
        clear Hb_5
        have Hc_13 := Lib.hid (Hc_5.out.step hal11)
        clear Hc_5
        have Hg_tmp_13 := Lib.hid (Ht_6.out.step hal11)
        clear Ht_6
        clear hal11 hW10
        have q14_0 := Lg_11.cell0
        have q14_1 := Lg_11.cell1
        have q14_2 := Lg_11.frozen 0
        have q14_3 := Lg_11.frozen 1
        have q14_lt := Lg_11.lt
        refine (Same_num Hg_tmp_13.out (LV.zero _ _)).mono ?_
        rintro e w15 ⟨hb15, rfl⟩
        have HB_16 := Lib.hid (HB_12.out.trans (hb15.mono HB_12.out.size))
        clear HB_12
        have La_17 := La_13.step hb15
        clear La_13
        have Lb_17 := Lb_13.step hb15
        clear Lb_13
        have Lc_17 := Lc_13.step hb15
        clear Lc_13
        have Lg_17 := Lg_11.step hb15
        clear Lg_11
        have Ha_17 := Lib.hid (Ha_13.out.step hb15)
        clear Ha_13
        have Hb_17 := Lib.hid (Hb_13.out.step hb15)
        clear Hb_13
        have Hc_17 := Lib.hid (Hc_13.out.step hb15)
        clear Hc_13
        have Hg_17 := Lib.hid (Hg_tmp_13.out.step hb15)
        clear Hg_tmp_13
        clear hb15
        clear HSZ_11
        clear q14_0 q14_1 q14_2 q14_3 q14_lt
        rw [show decide (N = 0) = true by rw [hN0.out]; rfl]
        go_wp2
        go_ret
        exact ⟨HBW.out.trans (HB_16.out.mono HBW.out.size), rfl⟩
      have hg0 : Int.gcd X Q ≠ 0 := fun h => hz (Int.gcd_eq_zero_iff.1 h)
      have hN0 : N ≠ 0 := by rw [HN.out]; omega
      have hne0 : ¬ (((dig X.natAbs).length : Int) + ((dig Q.natAbs).length : Int) = 0) := by
        intro h; apply hz
        exact ⟨Int.natAbs_eq_zero.1 (dig_eq_nil.1 (List.eq_nil_of_length_eq_zero (by omega))), Int.natAbs_eq_zero.1 (dig_eq_nil.1 (List.eq_nil_of_length_eq_zero (by omega)))⟩
      have hne : (wrap64 (((dig X.natAbs).length : Int) + ((dig Q.natAbs).length : Int)) == 0) = false := by
        have h1 : (dig X.natAbs).length ≤ 600 := HFX.out
        have h2 : (dig Q.natAbs).length ≤ 600 := HFQ.out
        rw [beq_eq_false_iff_ne]; intro h; unfold wrap64 at h; omega
      clear hne0
      obtain ⟨Z, hZ⟩ : ∃ Z : Int, Z = 0 := ⟨_, rfl⟩
      obtain ⟨I, hI⟩ : ∃ I : Int, I = Int.tdiv X N := ⟨_, rfl⟩
      obtain ⟨J, hJ⟩ : ∃ J : Int, J = Int.tdiv Q N := ⟨_, rfl⟩
      have HM1 : Hid (Int.tmod X N = Z) := Lib.hid (by rw [hZ, HN.out]; exact (gcd_rest X Q).1)
      have HM2 : Hid (Int.tmod Q N = Z) := Lib.hid (by rw [hZ, HN.out]; exact (gcd_rest X Q).2)
      obtain ⟨O, hO⟩ : ∃ O : Int, O = 1 := ⟨_, rfl⟩
      have HG1 : Hid ((Int.gcd I J : Int) = O) := Lib.hid (by rw [hI, hJ, HN.out, gcd_cut hg0, hO]; rfl)
      have HFI : Hid (Fit I) := Lib.hid (by rw [hI]; exact HFX.out.le (by rw [Int.natAbs_tdiv]; exact Nat.div_le_self _ _))
      have HFJ : Hid (Fit J) := Lib.hid (by rw [hJ]; exact HFQ.out.le (by rw [Int.natAbs_tdiv]; exact Nat.div_le_self _ _))
      obtain ⟨E, hE⟩ : ∃ E : Int, E = X * C := ⟨_, rfl⟩
      obtain ⟨F, hF⟩ : ∃ F : Int, F = Q * C := ⟨_, rfl⟩
      obtain ⟨D, hD⟩ : ∃ D : Int, D = (C.natAbs : Int) := ⟨_, rfl⟩
      obtain ⟨M, hM⟩ : ∃ M : Int, (Int.gcd E F : Int) = M := ⟨_, rfl⟩
      have HND : Hid (N * D = M) := Lib.hid (by rw [← hM, hE, hF, hD, HN.out, gcd_scale])
      have HFE : Hid (Fit E) := Lib.hid (by rw [hE]; exact (hlX.out.mul hlC.out).fit (by omega))
      have HFF : Hid (Fit F) := Lib.hid (by rw [hF]; exact (hlQ.out.mul hlC.out).fit (by omega))
      have HFD : Hid (Fit D) := Lib.hid (by rw [hD]; exact HFC.out.le (by omega))
      have HFM : Hid (Fit M) := Lib.hid (by rw [← hM]; exact fit_gcd HFE.out HFF.out)
      have HFND : Hid (Fit (N * D)) := Lib.hid (by rw [HND.out]; exact HFM.out)
      have HO := Lib.hid hO
      clear hO
      have HE := Lib.hid hE
      clear hE
      have HF := Lib.hid hF
      clear hF
      have HD := Lib.hid hD
      clear hD
      have HM := Lib.hid hM
      clear hM
      replace hN0 := Lib.hid hN0
      have HI := Lib.hid hI
      have HJ := Lib.hid hJ
      have HZ := Lib.hid hZ
      clear hI hJ hZ hg0 hz
      have q18_0 := La_5.cell0
      have q18_1 := La_5.cell1
      have q18_2 := La_5.frozen 0
      have q18_3 := La_5.frozen 1
      have q18_lt := La_5.lt
      have q19_0 := Lb_5.cell0
      have q19_1 := Lb_5.cell1
      have q19_2 := Lb_5.frozen 0
      have q19_3 := Lb_5.frozen 1
      have q19_lt := Lb_5.lt
      have q20_0 := Lc_5.cell0
      have q20_1 := Lc_5.cell1
      have q20_2 := Lc_5.frozen 0
      have q20_3 := Lc_5.frozen 1
      have q20_lt := Lc_5.lt
      go_wp2_with fail
      clear q18_0 q18_1 q18_2 q18_3 q18_lt q19_0 q19_1 q19_2 q19_3 q19_lt q20_0 q20_1 q20_2 q20_3 q20_lt
      obtain ⟨w21, hW21⟩ : ∃ w21 : World, w21 = w3.alloc (.cells #[.bool (decide (N < 0)), .slice A6 (dig (N).natAbs).length c6] 24) := ⟨_, rfl⟩
      rw [← hW21]
      have hal22 : Below w3.heap.size w3 w21 := by rw [hW21]; exact (Below.refl _ _).alloc (Nat.le_refl _) _
      have Lg_22 : LB w21 (w3.heap.size) (.bool (decide (N < 0))) (.slice A6 (dig (N).natAbs).length c6) := by rw [hW21]; exact LB.new' (show w3.heap.size = w3.heap.size from (rfl).symm)
      have ne_a_g : ba ≠ w3.heap.size := Nat.ne_of_lt (by have h1 := La_5.lt; have h2 : w3.heap.size = w3.heap.size := rfl; omega)
      have ne_b_g : bb ≠ w3.heap.size := Nat.ne_of_lt (by have h1 := Lb_5.lt; have h2 : w3.heap.size = w3.heap.size := rfl; omega)
      have ne_c_g : bc ≠ w3.heap.size := Nat.ne_of_lt (by have h1 := Lc_5.lt; have h2 : w3.heap.size = w3.heap.size := rfl; omega)
      have ge_g : wr.heap.size ≤ w3.heap.size := by have h1 : wr.heap.size ≤ w3.heap.size := HB_4.out.size; have h2 : w3.heap.size = w3.heap.size := rfl; omega
      have HSZ_22 := Lib.hid (show w21.heap.size = w3.heap.size + 1 by rw [hW21]; have h2 : w3.heap.size = w3.heap.size := rfl; simp <;> omega)
      have HB_23 := Lib.hid (HB_4.out.trans (hal22.mono HB_4.out.size))
      clear HB_4
      have La_24 := La_5.step hal22
      clear La_5
      have Lb_24 := Lb_5.step hal22
      clear Lb_5
      have Lc_24 := Lc_5.step hal22
      clear Lc_5
      have Ha_24 := Lib.hid (Ha_5.out.step hal22)
      clear Ha_5
      have Hb_24 := Lib.hid (Hb_5.out.step hal22)
      clear Hb_5
      have Hc_24 := Lib.hid (Hc_5.out.step hal22)
      clear Hc_5
      have Hg_tmp_24 := Lib.hid (Ht_6.out.step hal22)
      clear Ht_6
      clear hal22 hW21
      have q25_0 := La_24.cell0
      have q25_1 := La_24.cell1
      have q25_2 := La_24.frozen 0
      have q25_3 := La_24.frozen 1
      have q25_lt := La_24.lt
      have q26_0 := Lg_22.cell0
      have q26_1 := Lg_22.cell1
      have q26_2 := Lg_22.frozen 0
      have q26_3 := Lg_22.frozen 1
      have q26_lt := Lg_22.lt
      refine (Div_num Ha_24.out Hg_tmp_24.out HFX.out HFN.out hN0.out).mono ?_
      rintro e w28 ⟨hb28, v27, u27, rfl, hq27, hr27⟩
      rw [← HI.out] at hq27
      rw [HM1.out] at hr27
      have HB_29 := Lib.hid (HB_23.out.trans (hb28.mono HB_23.out.size))
      clear HB_23
      have La_30 := La_24.step hb28
      clear La_24
      have Lb_30 := Lb_24.step hb28
      clear Lb_24
      have Lc_30 := Lc_24.step hb28
      clear Lc_24
      have Lg_30 := Lg_22.step hb28
      clear Lg_22
      have Ha_30 := Lib.hid (Ha_24.out.step hb28)
      clear Ha_24
      have Hb_30 := Lib.hid (Hb_24.out.step hb28)
      clear Hb_24
      have Hc_30 := Lib.hid (Hc_24.out.step hb28)
      clear Hc_24
      have Hg_30 := Lib.hid (Hg_tmp_24.out.step hb28)
      clear Hg_tmp_24
      clear hb28
      clear HSZ_22
      clear q25_0 q25_1 q25_2 q25_3 q25_lt q26_0 q26_1 q26_2 q26_3 q26_lt
      obtain ⟨A31, c31, rfl, -⟩ := hq27.parts
      have Hvq_31 := Lib.hid hq27
      clear hq27
      obtain ⟨A32, c32, rfl, -⟩ := hr27.parts
      have Hvr_32 := Lib.hid hr27
      clear hr27
      have q33_0 := La_30.cell0
      have q33_1 := La_30.cell1
      have q33_2 := La_30.frozen 0
      have q33_3 := La_30.frozen 1
      have q33_lt := La_30.lt
      have q34_0 := Lb_30.cell0
      have q34_1 := Lb_30.cell1
      have q34_2 := Lb_30.frozen 0
      have q34_3 := Lb_30.frozen 1
      have q34_lt := Lb_30.lt
      have q35_0 := Lc_30.cell0
      have q35_1 := Lc_30.cell1
      have q35_2 := Lc_30.frozen 0
      have q35_3 := Lc_30.frozen 1
      have q35_lt := Lc_30.lt
      have q36_0 := Lg_30.cell0
      have q36_1 := Lg_30.cell1
      have q36_2 := Lg_30.frozen 0
      have q36_3 := Lg_30.frozen 1
      have q36_lt := Lg_30.lt
      go_wp2_with fail
      clear q33_0 q33_1 q33_2 q33_3 q33_lt q34_0 q34_1 q34_2 q34_3 q34_lt q35_0 q35_1 q35_2 q35_3 q35_lt q36_0 q36_1 q36_2 q36_3 q36_lt
      obtain ⟨w37, hW37⟩ : ∃ w37 : World, w37 = w28.alloc (.cells #[.bool (decide (I < 0)), .slice A31 (dig (I).natAbs).length c31] 24) := ⟨_, rfl⟩
      rw [← hW37]
      have hal38 : Below w28.heap.size w28 w37 := by rw [hW37]; exact (Below.refl _ _).alloc (Nat.le_refl _) _
      have Lq1_38 : LB w37 (w28.heap.size) (.bool (decide (I < 0))) (.slice A31 (dig (I).natAbs).length c31) := by rw [hW37]; exact LB.new' (show w28.heap.size = w28.heap.size from (rfl).symm)
      have ne_a_q1 : ba ≠ w28.heap.size := Nat.ne_of_lt (by have h1 := La_30.lt; have h2 : w28.heap.size = w28.heap.size := rfl; omega)
      have ne_b_q1 : bb ≠ w28.heap.size := Nat.ne_of_lt (by have h1 := Lb_30.lt; have h2 : w28.heap.size = w28.heap.size := rfl; omega)
      have ne_c_q1 : bc ≠ w28.heap.size := Nat.ne_of_lt (by have h1 := Lc_30.lt; have h2 : w28.heap.size = w28.heap.size := rfl; omega)
      have ne_g_q1 : w3.heap.size ≠ w28.heap.size := Nat.ne_of_lt (by have h1 := Lg_30.lt; have h2 : w28.heap.size = w28.heap.size := rfl; omega)
      have ge_q1 : wr.heap.size ≤ w28.heap.size := by have h1 : wr.heap.size ≤ w28.heap.size := HB_29.out.size; have h2 : w28.heap.size = w28.heap.size := rfl; omega
      have HSZ_38 := Lib.hid (show w37.heap.size = w28.heap.size + 1 by rw [hW37]; have h2 : w28.heap.size = w28.heap.size := rfl; simp <;> omega)
      have HB_39 := Lib.hid (HB_29.out.trans (hal38.mono HB_29.out.size))
      clear HB_29
      have La_40 := La_30.step hal38
      clear La_30
      have Lb_40 := Lb_30.step hal38
      clear Lb_30
      have Lc_40 := Lc_30.step hal38
      clear Lc_30
      have Lg_40 := Lg_30.step hal38
      clear Lg_30
      have Ha_40 := Lib.hid (Ha_30.out.step hal38)
      clear Ha_30
      have Hb_40 := Lib.hid (Hb_30.out.step hal38)
      clear Hb_30
      have Hc_40 := Lib.hid (Hc_30.out.step hal38)
      clear Hc_30
      have Hg_40 := Lib.hid (Hg_30.out.step hal38)
      clear Hg_30
      have Hvr_40 := Lib.hid (Hvr_32.out.step hal38)
      clear Hvr_32
      have Hq1_tmp_40 := Lib.hid (Hvq_31.out.step hal38)
      clear Hvq_31
      clear hal38 hW37
      obtain ⟨w41, hW41⟩ : ∃ w41 : World, w41 = w37.alloc (.cells #[.bool (decide (Z < 0)), .slice A32 (dig (Z).natAbs).length c32] 24) := ⟨_, rfl⟩
      rw [← hW41]
      have hal42 : Below w37.heap.size w37 w41 := by rw [hW41]; exact (Below.refl _ _).alloc (Nat.le_refl _) _
      have Lr1_42 : LB w41 (w28.heap.size + 1) (.bool (decide (Z < 0))) (.slice A32 (dig (Z).natAbs).length c32) := by rw [hW41]; exact LB.new' (show w28.heap.size + 1 = w37.heap.size from (HSZ_38.out).symm)
      have ne_a_r1 : ba ≠ w28.heap.size + 1 := Nat.ne_of_lt (by have h1 := La_40.lt; have h2 : w37.heap.size = w28.heap.size + 1 := HSZ_38.out; omega)
      have ne_b_r1 : bb ≠ w28.heap.size + 1 := Nat.ne_of_lt (by have h1 := Lb_40.lt; have h2 : w37.heap.size = w28.heap.size + 1 := HSZ_38.out; omega)
      have ne_c_r1 : bc ≠ w28.heap.size + 1 := Nat.ne_of_lt (by have h1 := Lc_40.lt; have h2 : w37.heap.size = w28.heap.size + 1 := HSZ_38.out; omega)
      have ne_g_r1 : w3.heap.size ≠ w28.heap.size + 1 := Nat.ne_of_lt (by have h1 := Lg_40.lt; have h2 : w37.heap.size = w28.heap.size + 1 := HSZ_38.out; omega)
      have ne_q1_r1 : w28.heap.size ≠ w28.heap.size + 1 := Nat.ne_of_lt (by have h1 := Lq1_38.lt; have h2 : w37.heap.size = w28.heap.size + 1 := HSZ_38.out; omega)
      have ge_r1 : wr.heap.size ≤ w28.heap.size + 1 := by have h1 : wr.heap.size ≤ w37.heap.size := HB_39.out.size; have h2 : w37.heap.size = w28.heap.size + 1 := HSZ_38.out; omega
      have HSZ_42 := Lib.hid (show w41.heap.size = w28.heap.size + 1 + 1 by rw [hW41]; have h2 : w37.heap.size = w28.heap.size + 1 := HSZ_38.out; simp <;> omega)
      clear HSZ_38
      have HB_43 := Lib.hid (HB_39.out.trans (hal42.mono HB_39.out.size))
      clear HB_39
      have La_44 := La_40.step hal42
      clear La_40
      have Lb_44 := Lb_40.step hal42
      clear Lb_40
      have Lc_44 := Lc_40.step hal42
      clear Lc_40
      have Lg_44 := Lg_40.step hal42
      clear Lg_40
      have Lq1_44 := Lq1_38.step hal42
      clear Lq1_38
      have Ha_44 := Lib.hid (Ha_40.out.step hal42)
      clear Ha_40
      have Hb_44 := Lib.hid (Hb_40.out.step hal42)
      clear Hb_40
      have Hc_44 := Lib.hid (Hc_40.out.step hal42)
      clear Hc_40
      have Hg_44 := Lib.hid (Hg_40.out.step hal42)
      clear Hg_40
      have Hq1_44 := Lib.hid (Hq1_tmp_40.out.step hal42)
      clear Hq1_tmp_40
      have Hr1_tmp_44 := Lib.hid (Hvr_40.out.step hal42)
      clear Hvr_40
      clear hal42 hW41
      have q45_0 := Lb_44.cell0
      have q45_1 := Lb_44.cell1
      have q45_2 := Lb_44.frozen 0
      have q45_3 := Lb_44.frozen 1
      have q45_lt := Lb_44.lt
      have q46_0 := Lg_44.cell0
      have q46_1 := Lg_44.cell1
      have q46_2 := Lg_44.frozen 0
      have q46_3 := Lg_44.frozen 1
      have q46_lt := Lg_44.lt
      refine (Div_num Hb_44.out Hg_44.out HFQ.out HFN.out hN0.out).mono ?_
      rintro e w48 ⟨hb48, v47, u47, rfl, hq47, hr47⟩
      rw [← HJ.out] at hq47
      rw [HM2.out] at hr47
      have HB_49 := Lib.hid (HB_43.out.trans (hb48.mono HB_43.out.size))
      clear HB_43
      have La_50 := La_44.step hb48
      clear La_44
      have Lb_50 := Lb_44.step hb48
      clear Lb_44
      have Lc_50 := Lc_44.step hb48
      clear Lc_44
      have Lg_50 := Lg_44.step hb48
      clear Lg_44
      have Lq1_50 := Lq1_44.step hb48
      clear Lq1_44
      have Lr1_50 := Lr1_42.step hb48
      clear Lr1_42
      have Ha_50 := Lib.hid (Ha_44.out.step hb48)
      clear Ha_44
      have Hb_50 := Lib.hid (Hb_44.out.step hb48)
      clear Hb_44
      have Hc_50 := Lib.hid (Hc_44.out.step hb48)
      clear Hc_44
      have Hg_50 := Lib.hid (Hg_44.out.step hb48)
      clear Hg_44
      have Hq1_50 := Lib.hid (Hq1_44.out.step hb48)
      clear Hq1_44
      have Hr1_50 := Lib.hid (Hr1_tmp_44.out.step hb48)
      clear Hr1_tmp_44
      clear hb48
      clear HSZ_42
      clear q45_0 q45_1 q45_2 q45_3 q45_lt q46_0 q46_1 q46_2 q46_3 q46_lt
      obtain ⟨A51, c51, rfl, -⟩ := hq47.parts
      have Hvq_51 := Lib.hid hq47
      clear hq47
      obtain ⟨A52, c52, rfl, -⟩ := hr47.parts
      have Hvr_52 := Lib.hid hr47
      clear hr47
      have q53_0 := La_50.cell0
      have q53_1 := La_50.cell1
      have q53_2 := La_50.frozen 0
      have q53_3 := La_50.frozen 1
      have q53_lt := La_50.lt
      have q54_0 := Lb_50.cell0
      have q54_1 := Lb_50.cell1
      have q54_2 := Lb_50.frozen 0
      have q54_3 := Lb_50.frozen 1
      have q54_lt := Lb_50.lt
      have q55_0 := Lc_50.cell0
      have q55_1 := Lc_50.cell1
      have q55_2 := Lc_50.frozen 0
      have q55_3 := Lc_50.frozen 1
      have q55_lt := Lc_50.lt
      have q56_0 := Lg_50.cell0
      have q56_1 := Lg_50.cell1
      have q56_2 := Lg_50.frozen 0
      have q56_3 := Lg_50.frozen 1
      have q56_lt := Lg_50.lt
      have q57_0 := Lq1_50.cell0
      have q57_1 := Lq1_50.cell1
      have q57_2 := Lq1_50.frozen 0
      have q57_3 := Lq1_50.frozen 1
      have q57_lt := Lq1_50.lt
      have q58_0 := Lr1_50.cell0
      have q58_1 := Lr1_50.cell1
      have q58_2 := Lr1_50.frozen 0
      have q58_3 := Lr1_50.frozen 1
      have q58_lt := Lr1_50.lt
      go_wp2_with fail
      clear q53_0 q53_1 q53_2 q53_3 q53_lt q54_0 q54_1 q54_2 q54_3 q54_lt q55_0 q55_1 q55_2 q55_3 q55_lt q56_0 q56_1 q56_2 q56_3 q56_lt q57_0 q57_1 q57_2 q57_3 q57_lt q58_0 q58_1 q58_2 q58_3 q58_lt
      obtain ⟨w59, hW59⟩ : ∃ w59 : World, w59 = w48.alloc (.cells #[.bool (decide (J < 0)), .slice A51 (dig (J).natAbs).length c51] 24) := ⟨_, rfl⟩
      rw [← hW59]
      have hal60 : Below w48.heap.size w48 w59 := by rw [hW59]; exact (Below.refl _ _).alloc (Nat.le_refl _) _
      have Lq2_60 : LB w59 (w48.heap.size) (.bool (decide (J < 0))) (.slice A51 (dig (J).natAbs).length c51) := by rw [hW59]; exact LB.new' (show w48.heap.size = w48.heap.size from (rfl).symm)
      have ne_a_q2 : ba ≠ w48.heap.size := Nat.ne_of_lt (by have h1 := La_50.lt; have h2 : w48.heap.size = w48.heap.size := rfl; omega)
      have ne_b_q2 : bb ≠ w48.heap.size := Nat.ne_of_lt (by have h1 := Lb_50.lt; have h2 : w48.heap.size = w48.heap.size := rfl; omega)
      have ne_c_q2 : bc ≠ w48.heap.size := Nat.ne_of_lt (by have h1 := Lc_50.lt; have h2 : w48.heap.size = w48.heap.size := rfl; omega)
      have ne_g_q2 : w3.heap.size ≠ w48.heap.size := Nat.ne_of_lt (by have h1 := Lg_50.lt; have h2 : w48.heap.size = w48.heap.size := rfl; omega)
      have ne_q1_q2 : w28.heap.size ≠ w48.heap.size := Nat.ne_of_lt (by have h1 := Lq1_50.lt; have h2 : w48.heap.size = w48.heap.size := rfl; omega)
      have ne_r1_q2 : w28.heap.size + 1 ≠ w48.heap.size := Nat.ne_of_lt (by have h1 := Lr1_50.lt; have h2 : w48.heap.size = w48.heap.size := rfl; omega)
      have ge_q2 : wr.heap.size ≤ w48.heap.size := by have h1 : wr.heap.size ≤ w48.heap.size := HB_49.out.size; have h2 : w48.heap.size = w48.heap.size := rfl; omega
      have HSZ_60 := Lib.hid (show w59.heap.size = w48.heap.size + 1 by rw [hW59]; have h2 : w48.heap.size = w48.heap.size := rfl; simp <;> omega)
      have HB_61 := Lib.hid (HB_49.out.trans (hal60.mono HB_49.out.size))
      clear HB_49
      have La_62 := La_50.step hal60
      clear La_50
      have Lb_62 := Lb_50.step hal60
      clear Lb_50
      have Lc_62 := Lc_50.step hal60
      clear Lc_50
      have Lg_62 := Lg_50.step hal60
      clear Lg_50
      have Lq1_62 := Lq1_50.step hal60
      clear Lq1_50
      have Lr1_62 := Lr1_50.step hal60
      clear Lr1_50
      have Ha_62 := Lib.hid (Ha_50.out.step hal60)
      clear Ha_50
      have Hb_62 := Lib.hid (Hb_50.out.step hal60)
      clear Hb_50
      have Hc_62 := Lib.hid (Hc_50.out.step hal60)
      clear Hc_50
      have Hg_62 := Lib.hid (Hg_50.out.step hal60)
      clear Hg_50
      have Hq1_62 := Lib.hid (Hq1_50.out.step hal60)
      clear Hq1_50
      have Hr1_62 := Lib.hid (Hr1_50.out.step hal60)
      clear Hr1_50
      have Hvr_62 := Lib.hid (Hvr_52.out.step hal60)
      clear Hvr_52
      have Hq2_tmp_62 := Lib.hid (Hvq_51.out.step hal60)
      clear Hvq_51
      clear hal60 hW59
      obtain ⟨w63, hW63⟩ : ∃ w63 : World, w63 = w59.alloc (.cells #[.bool (decide (Z < 0)), .slice A52 (dig (Z).natAbs).length c52] 24) := ⟨_, rfl⟩
      rw [← hW63]
      have hal64 : Below w59.heap.size w59 w63 := by rw [hW63]; exact (Below.refl _ _).alloc (Nat.le_refl _) _
      have Lr2_64 : LB w63 (w48.heap.size + 1) (.bool (decide (Z < 0))) (.slice A52 (dig (Z).natAbs).length c52) := by rw [hW63]; exact LB.new' (show w48.heap.size + 1 = w59.heap.size from (HSZ_60.out).symm)
      have ne_a_r2 : ba ≠ w48.heap.size + 1 := Nat.ne_of_lt (by have h1 := La_62.lt; have h2 : w59.heap.size = w48.heap.size + 1 := HSZ_60.out; omega)
      have ne_b_r2 : bb ≠ w48.heap.size + 1 := Nat.ne_of_lt (by have h1 := Lb_62.lt; have h2 : w59.heap.size = w48.heap.size + 1 := HSZ_60.out; omega)
      have ne_c_r2 : bc ≠ w48.heap.size + 1 := Nat.ne_of_lt (by have h1 := Lc_62.lt; have h2 : w59.heap.size = w48.heap.size + 1 := HSZ_60.out; omega)
      have ne_g_r2 : w3.heap.size ≠ w48.heap.size + 1 := Nat.ne_of_lt (by have h1 := Lg_62.lt; have h2 : w59.heap.size = w48.heap.size + 1 := HSZ_60.out; omega)
      have ne_q1_r2 : w28.heap.size ≠ w48.heap.size + 1 := Nat.ne_of_lt (by have h1 := Lq1_62.lt; have h2 : w59.heap.size = w48.heap.size + 1 := HSZ_60.out; omega)
      have ne_r1_r2 : w28.heap.size + 1 ≠ w48.heap.size + 1 := Nat.ne_of_lt (by have h1 := Lr1_62.lt; have h2 : w59.heap.size = w48.heap.size + 1 := HSZ_60.out; omega)
      have ne_q2_r2 : w48.heap.size ≠ w48.heap.size + 1 := Nat.ne_of_lt (by have h1 := Lq2_60.lt; have h2 : w59.heap.size = w48.heap.size + 1 := HSZ_60.out; omega)
      have ge_r2 : wr.heap.size ≤ w48.heap.size + 1 := by have h1 : wr.heap.size ≤ w59.heap.size := HB_61.out.size; have h2 : w59.heap.size = w48.heap.size + 1 := HSZ_60.out; omega
      have HSZ_64 := Lib.hid (show w63.heap.size = w48.heap.size + 1 + 1 by rw [hW63]; have h2 : w59.heap.size = w48.heap.size + 1 := HSZ_60.out; simp <;> omega)
      clear HSZ_60
      have HB_65 := Lib.hid (HB_61.out.trans (hal64.mono HB_61.out.size))
      clear HB_61
      have La_66 := La_62.step hal64
      clear La_62
      have Lb_66 := Lb_62.step hal64
      clear Lb_62
      have Lc_66 := Lc_62.step hal64
      clear Lc_62
      have Lg_66 := Lg_62.step hal64
      clear Lg_62
      have Lq1_66 := Lq1_62.step hal64
      clear Lq1_62
      have Lr1_66 := Lr1_62.step hal64
      clear Lr1_62
      have Lq2_66 := Lq2_60.step hal64
      clear Lq2_60
      have Ha_66 := Lib.hid (Ha_62.out.step hal64)
      clear Ha_62
      have Hb_66 := Lib.hid (Hb_62.out.step hal64)
      clear Hb_62
      have Hc_66 := Lib.hid (Hc_62.out.step hal64)
      clear Hc_62
      have Hg_66 := Lib.hid (Hg_62.out.step hal64)
      clear Hg_62
      have Hq1_66 := Lib.hid (Hq1_62.out.step hal64)
      clear Hq1_62
      have Hr1_66 := Lib.hid (Hr1_62.out.step hal64)
      clear Hr1_62
      have Hq2_66 := Lib.hid (Hq2_tmp_62.out.step hal64)
      clear Hq2_tmp_62
      have Hr2_tmp_66 := Lib.hid (Hvr_62.out.step hal64)
      clear Hvr_62
      clear hal64 hW63
      have q67_0 := Lq1_66.cell0
      have q67_1 := Lq1_66.cell1
      have q67_2 := Lq1_66.frozen 0
      have q67_3 := Lq1_66.frozen 1
      have q67_lt := Lq1_66.lt
      have q68_0 := Lq2_66.cell0
      have q68_1 := Lq2_66.cell1
      have q68_2 := Lq2_66.frozen 0
      have q68_3 := Lq2_66.frozen 1
      have q68_lt := Lq2_66.lt
      refine (Gcd_num Hq1_66.out Hq2_66.out HFI.out HFJ.out).mono ?_
      rintro e w70 ⟨hb70, v69, rfl, hv69⟩
      have HB_71 := Lib.hid (HB_65.out.trans (hb70.mono HB_65.out.size))
      clear HB_65
      have La_72 := La_66.step hb70
      clear La_66
      have Lb_72 := Lb_66.step hb70
      clear Lb_66
      have Lc_72 := Lc_66.step hb70
      clear Lc_66
      have Lg_72 := Lg_66.step hb70
      clear Lg_66
      have Lq1_72 := Lq1_66.step hb70
      clear Lq1_66
      have Lr1_72 := Lr1_66.step hb70
      clear Lr1_66
      have Lq2_72 := Lq2_66.step hb70
      clear Lq2_66
      have Lr2_72 := Lr2_64.step hb70
      clear Lr2_64
      have Ha_72 := Lib.hid (Ha_66.out.step hb70)
      clear Ha_66
      have Hb_72 := Lib.hid (Hb_66.out.step hb70)
      clear Hb_66
      have Hc_72 := Lib.hid (Hc_66.out.step hb70)
      clear Hc_66
      have Hg_72 := Lib.hid (Hg_66.out.step hb70)
      clear Hg_66
      have Hq1_72 := Lib.hid (Hq1_66.out.step hb70)
      clear Hq1_66
      have Hr1_72 := Lib.hid (Hr1_66.out.step hb70)
      clear Hr1_66
      have Hq2_72 := Lib.hid (Hq2_66.out.step hb70)
      clear Hq2_66
      have Hr2_72 := Lib.hid (Hr2_tmp_66.out.step hb70)
      clear Hr2_tmp_66
      clear hb70
      clear HSZ_64
      clear q67_0 q67_1 q67_2 q67_3 q67_lt q68_0 q68_1 q68_2 q68_3 q68_lt
      rw [HG1.out] at hv69
      obtain ⟨A73, c73, rfl, -⟩ := hv69.parts
      have Ht_73 := Lib.hid hv69
      clear hv69
      have q74_0 := La_72.cell0
      have q74_1 := La_72.cell1
      have q74_2 := La_72.frozen 0
      have q74_3 := La_72.frozen 1
      have q74_lt := La_72.lt
      have q75_0 := Lb_72.cell0
      have q75_1 := Lb_72.cell1
      have q75_2 := Lb_72.frozen 0
      have q75_3 := Lb_72.frozen 1
      have q75_lt := Lb_72.lt
      have q76_0 := Lc_72.cell0
      have q76_1 := Lc_72.cell1
      have q76_2 := Lc_72.frozen 0
      have q76_3 := Lc_72.frozen 1
      have q76_lt := Lc_72.lt
      have q77_0 := Lg_72.cell0
      have q77_1 := Lg_72.cell1
      have q77_2 := Lg_72.frozen 0
      have q77_3 := Lg_72.frozen 1
      have q77_lt := Lg_72.lt
      have q78_0 := Lq1_72.cell0
      have q78_1 := Lq1_72.cell1
      have q78_2 := Lq1_72.frozen 0
      have q78_3 := Lq1_72.frozen 1
      have q78_lt := Lq1_72.lt
      have q79_0 := Lr1_72.cell0
      have q79_1 := Lr1_72.cell1
      have q79_2 := Lr1_72.frozen 0
      have q79_3 := Lr1_72.frozen 1
      have q79_lt := Lr1_72.lt
      have q80_0 := Lq2_72.cell0
      have q80_1 := Lq2_72.cell1
      have q80_2 := Lq2_72.frozen 0
      have q80_3 := Lq2_72.frozen 1
      have q80_lt := Lq2_72.lt
      have q81_0 := Lr2_72.cell0
      have q81_1 := Lr2_72.cell1
      have q81_2 := Lr2_72.frozen 0
      have q81_3 := Lr2_72.frozen 1
      have q81_lt := Lr2_72.lt
      go_wp2_with fail
      clear q74_0 q74_1 q74_2 q74_3 q74_lt q75_0 q75_1 q75_2 q75_3 q75_lt q76_0 q76_1 q76_2 q76_3 q76_lt q77_0 q77_1 q77_2 q77_3 q77_lt q78_0 q78_1 q78_2 q78_3 q78_lt q79_0 q79_1 q79_2 q79_3 q79_lt q80_0 q80_1 q80_2 q80_3 q80_lt q81_0 q81_1 q81_2 q81_3 q81_lt
      obtain ⟨w82, hW82⟩ : ∃ w82 : World, w82 = w70.alloc (.cells #[.bool (decide (O < 0)), .slice A73 (dig (O).natAbs).length c73] 24) := ⟨_, rfl⟩
      rw [← hW82]
      have hal83 : Below w70.heap.size w70 w82 := by rw [hW82]; exact (Below.refl _ _).alloc (Nat.le_refl _) _
      have Lo_83 : LB w82 (w70.heap.size) (.bool (decide (O < 0))) (.slice A73 (dig (O).natAbs).length c73) := by rw [hW82]; exact LB.new' (show w70.heap.size = w70.heap.size from (rfl).symm)
      have ne_a_o : ba ≠ w70.heap.size := Nat.ne_of_lt (by have h1 := La_72.lt; have h2 : w70.heap.size = w70.heap.size := rfl; omega)
      have ne_b_o : bb ≠ w70.heap.size := Nat.ne_of_lt (by have h1 := Lb_72.lt; have h2 : w70.heap.size = w70.heap.size := rfl; omega)
      have ne_c_o : bc ≠ w70.heap.size := Nat.ne_of_lt (by have h1 := Lc_72.lt; have h2 : w70.heap.size = w70.heap.size := rfl; omega)
      have ne_g_o : w3.heap.size ≠ w70.heap.size := Nat.ne_of_lt (by have h1 := Lg_72.lt; have h2 : w70.heap.size = w70.heap.size := rfl; omega)
      have ne_q1_o : w28.heap.size ≠ w70.heap.size := Nat.ne_of_lt (by have h1 := Lq1_72.lt; have h2 : w70.heap.size = w70.heap.size := rfl; omega)
      have ne_r1_o : w28.heap.size + 1 ≠ w70.heap.size := Nat.ne_of_lt (by have h1 := Lr1_72.lt; have h2 : w70.heap.size = w70.heap.size := rfl; omega)
      have ne_q2_o : w48.heap.size ≠ w70.heap.size := Nat.ne_of_lt (by have h1 := Lq2_72.lt; have h2 : w70.heap.size = w70.heap.size := rfl; omega)
      have ne_r2_o : w48.heap.size + 1 ≠ w70.heap.size := Nat.ne_of_lt (by have h1 := Lr2_72.lt; have h2 : w70.heap.size = w70.heap.size := rfl; omega)
      have ge_o : wr.heap.size ≤ w70.heap.size := by have h1 : wr.heap.size ≤ w70.heap.size := HB_71.out.size; have h2 : w70.heap.size = w70.heap.size := rfl; omega
      have HSZ_83 := Lib.hid (show w82.heap.size = w70.heap.size + 1 by rw [hW82]; have h2 : w70.heap.size = w70.heap.size := rfl; simp <;> omega)
      have HB_84 := Lib.hid (HB_71.out.trans (hal83.mono HB_71.out.size))
      clear HB_71
      have La_85 := La_72.step hal83
      clear La_72
      have Lb_85 := Lb_72.step hal83
      clear Lb_72
      have Lc_85 := Lc_72.step hal83
      clear Lc_72
      have Lg_85 := Lg_72.step hal83
      clear Lg_72
      have Lq1_85 := Lq1_72.step hal83
      clear Lq1_72
      have Lr1_85 := Lr1_72.step hal83
      clear Lr1_72
      have Lq2_85 := Lq2_72.step hal83
      clear Lq2_72
      have Lr2_85 := Lr2_72.step hal83
      clear Lr2_72
      have Ha_85 := Lib.hid (Ha_72.out.step hal83)
      clear Ha_72
      have Hb_85 := Lib.hid (Hb_72.out.step hal83)
      clear Hb_72
      have Hc_85 := Lib.hid (Hc_72.out.step hal83)
      clear Hc_72
      have Hg_85 := Lib.hid (Hg_72.out.step hal83)
      clear Hg_72
      have Hq1_85 := Lib.hid (Hq1_72.out.step hal83)
      clear Hq1_72
      have Hr1_85 := Lib.hid (Hr1_72.out.step hal83)
      clear Hr1_72
      have Hq2_85 := Lib.hid (Hq2_72.out.step hal83)
      clear Hq2_72
      have Hr2_85 := Lib.hid (Hr2_72.out.step hal83)
      clear Hr2_72
      have Ho_tmp_85 := Lib.hid (Ht_73.out.step hal83)
      clear Ht_73
      clear hal83 hW82
      clear Lq1_85
      clear Hq1_85
      clear Lq2_85
      clear Hq2_85
      have HSO : Hid (Lib.itoa O = (ByteArray.mk #[49]).data.toList) := Lib.hid (by rw [HO.out]; exact lit_itoa (by decide))
      have HFO : Hid ((dig O.natAbs).length ≤ 600) := Lib.hid (by rw [HO.out]; exact fit_small (by decide))
      have hNs : decide (N < 0) = false := by rw [HN.out]; exact decide_eq_false (by omega)
      have hZl : (dig Z.natAbs).length = 0 := by rw [HZ.out, show (0 : Int).natAbs = 0 from rfl, dig_zero]; rfl
      rw [hNs] at Lg_85
      rw [hZl] at Lr1_85
      rw [hZl] at Lr2_85
      have q86_0 := Lg_85.cell0
      have q86_1 := Lg_85.cell1
      have q86_2 := Lg_85.frozen 0
      have q86_3 := Lg_85.frozen 1
      have q86_lt := Lg_85.lt
      have q87_0 := Lr1_85.cell0
      have q87_1 := Lr1_85.cell1
      have q87_2 := Lr1_85.frozen 0
      have q87_3 := Lr1_85.frozen 1
      have q87_lt := Lr1_85.lt
      have q88_0 := Lr2_85.cell0
      have q88_1 := Lr2_85.cell1
      have q88_2 := Lr2_85.frozen 0
      have q88_3 := Lr2_85.frozen 1
      have q88_lt := Lr2_85.lt
      have q89_0 := Lo_83.cell0
      have q89_1 := Lo_83.cell1
      have q89_2 := Lo_83.frozen 0
      have q89_3 := Lo_83.frozen 1
      have q89_lt := Lo_83.lt
      have HNs := Lib.hid hNs
      clear hNs hZl
      have tok90 : True := trivial
      have tok91 : True := trivial
      go_region_held3 (fun w' => w'.cell? ⟨w70.heap.size, 0, none⟩ = some (.bool (decide (O < 0))) ∧ w'.cell? ⟨w70.heap.size, 1, none⟩ = some (.slice A73 (dig (O).natAbs).length c73) ∧ w'.cell? ⟨w3.heap.size, 0, none⟩ = some (.bool false) ∧ w'.cell? ⟨w3.heap.size, 1, none⟩ = some (.slice A6 (dig (N).natAbs).length c6) ∧ w'.cell? ⟨w28.heap.size + 1, 0, none⟩ = some (.bool (decide (Z < 0))) ∧ w'.cell? ⟨w28.heap.size + 1, 1, none⟩ = some (.slice A32 0 c32) ∧ w'.cell? ⟨w48.heap.size + 1, 0, none⟩ = some (.bool (decide (Z < 0))) ∧ w'.cell? ⟨w48.heap.size + 1, 1, none⟩ = some (.slice A52 0 c52)) (first
        | (exact ⟨(LB.drew Lo_83).cell0, (LB.drew Lo_83).cell1, (LB.drew Lg_85).cell0, (LB.drew Lg_85).cell1, (LB.drew Lr1_85).cell0, (LB.drew Lr1_85).cell1, (LB.drew Lr2_85).cell0, (LB.drew Lr2_85).cell1⟩)
        | (exact ⟨Lo_83.cell0, Lo_83.cell1, Lg_85.cell0, Lg_85.cell1, Lr1_85.cell0, Lr1_85.cell1, Lr2_85.cell0, Lr2_85.cell1⟩)
        | (exact ⟨Lo_94.cell0, Lo_94.cell1, Lg_94.cell0, Lg_94.cell1, Lr1_94.cell0, Lr1_94.cell1, Lr2_94.cell0, Lr2_94.cell1⟩)
        | (exact ⟨(LB.alloc Lo_94 _).cell0, (LB.alloc Lo_94 _).cell1, (LB.alloc Lg_94 _).cell0, (LB.alloc Lg_94 _).cell1, (LB.alloc Lr1_94 _).cell0, (LB.alloc Lr1_94 _).cell1, (LB.alloc Lr2_94 _).cell0, (LB.alloc Lr2_94 _).cell1⟩)
        | (exact ⟨Lo_101.cell0, Lo_101.cell1, Lg_101.cell0, Lg_101.cell1, Lr1_101.cell0, Lr1_101.cell1, Lr2_101.cell0, Lr2_101.cell1⟩)
        | (exact ⟨(LB.alloc Lo_101 _).cell0, (LB.alloc Lo_101 _).cell1, (LB.alloc Lg_101 _).cell0, (LB.alloc Lg_101 _).cell1, (LB.alloc Lr1_101 _).cell0, (LB.alloc Lr1_101 _).cell1, (LB.alloc Lr2_101 _).cell0, (LB.alloc Lr2_101 _).cell1⟩)
        | go_keep) (first
        | (go_at_call 41; clear tok90; ((with_reducible refine (is_any _ (ByteArray.mk #[49])).mono ?_); rintro e u92 ⟨hb92, N1, rfl, hN⟩; have HB_93 := Lib.hid (show Below wr.heap.size wr u92 from by first | exact below_call0 HB_84.out hb92 | exact below_call_drew0 HB_84.out hb92 | exact below_call HB_84.out hb92 | exact below_call_drew HB_84.out hb92); clear HB_84; have La_94 := LB.step (b := ba) (x := .bool (decide (X < 0))) (y := .slice A1 (dig (X).natAbs).length c1) (by first | exact La_85 | exact LB.drew La_85 | exact LB.alloc La_85 _ | exact LB.drew (LB.alloc La_85 _)) hb92; clear La_85; have Lb_94 := LB.step (b := bb) (x := .bool (decide (Q < 0))) (y := .slice A2 (dig (Q).natAbs).length c2) (by first | exact Lb_85 | exact LB.drew Lb_85 | exact LB.alloc Lb_85 _ | exact LB.drew (LB.alloc Lb_85 _)) hb92; clear Lb_85; have Lc_94 := LB.step (b := bc) (x := .bool (decide (C < 0))) (y := .slice A3 (dig (C).natAbs).length c3) (by first | exact Lc_85 | exact LB.drew Lc_85 | exact LB.alloc Lc_85 _ | exact LB.drew (LB.alloc Lc_85 _)) hb92; clear Lc_85; have Lg_94 := LB.step (b := w3.heap.size) (x := .bool false) (y := .slice A6 (dig (N).natAbs).length c6) (by first | exact Lg_85 | exact LB.drew Lg_85 | exact LB.alloc Lg_85 _ | exact LB.drew (LB.alloc Lg_85 _)) hb92; clear Lg_85; have Lr1_94 := LB.step (b := w28.heap.size + 1) (x := .bool (decide (Z < 0))) (y := .slice A32 0 c32) (by first | exact Lr1_85 | exact LB.drew Lr1_85 | exact LB.alloc Lr1_85 _ | exact LB.drew (LB.alloc Lr1_85 _)) hb92; clear Lr1_85; have Lr2_94 := LB.step (b := w48.heap.size + 1) (x := .bool (decide (Z < 0))) (y := .slice A52 0 c52) (by first | exact Lr2_85 | exact LB.drew Lr2_85 | exact LB.alloc Lr2_85 _ | exact LB.drew (LB.alloc Lr2_85 _)) hb92; clear Lr2_85; have Lo_94 := LB.step (b := w70.heap.size) (x := .bool (decide (O < 0))) (y := .slice A73 (dig (O).natAbs).length c73) (by first | exact Lo_83 | exact LB.drew Lo_83 | exact LB.alloc Lo_83 _ | exact LB.drew (LB.alloc Lo_83 _)) hb92; clear Lo_83; have Ha_94 := Lib.hid (LV.step (v := .agg #[.bool (decide (X < 0)), .slice A1 (dig (X).natAbs).length c1]) (z := X) (by first | exact Ha_85.out | exact LV.drew1 Ha_85.out | exact LV.alloc Ha_85.out _ | exact LV.drew1 (LV.alloc Ha_85.out _)) hb92); clear Ha_85; have Hb_94 := Lib.hid (LV.step (v := .agg #[.bool (decide (Q < 0)), .slice A2 (dig (Q).natAbs).length c2]) (z := Q) (by first | exact Hb_85.out | exact LV.drew1 Hb_85.out | exact LV.alloc Hb_85.out _ | exact LV.drew1 (LV.alloc Hb_85.out _)) hb92); clear Hb_85; have Hc_94 := Lib.hid (LV.step (v := .agg #[.bool (decide (C < 0)), .slice A3 (dig (C).natAbs).length c3]) (z := C) (by first | exact Hc_85.out | exact LV.drew1 Hc_85.out | exact LV.alloc Hc_85.out _ | exact LV.drew1 (LV.alloc Hc_85.out _)) hb92); clear Hc_85; have Hg_94 := Lib.hid (LV.step (v := .agg #[.bool (decide (N < 0)), .slice A6 (dig (N).natAbs).length c6]) (z := N) (by first | exact Hg_85.out | exact LV.drew1 Hg_85.out | exact LV.alloc Hg_85.out _ | exact LV.drew1 (LV.alloc Hg_85.out _)) hb92); clear Hg_85; have Hr1_94 := Lib.hid (LV.step (v := .agg #[.bool (decide (Z < 0)), .slice A32 (dig (Z).natAbs).length c32]) (z := Z) (by first | exact Hr1_85.out | exact LV.drew1 Hr1_85.out | exact LV.alloc Hr1_85.out _ | exact LV.drew1 (LV.alloc Hr1_85.out _)) hb92); clear Hr1_85; have Hr2_94 := Lib.hid (LV.step (v := .agg #[.bool (decide (Z < 0)), .slice A52 (dig (Z).natAbs).length c52]) (z := Z) (by first | exact Hr2_85.out | exact LV.drew1 Hr2_85.out | exact LV.alloc Hr2_85.out _ | exact LV.drew1 (LV.alloc Hr2_85.out _)) hb92); clear Hr2_85; have Ho_94 := Lib.hid (LV.step (v := .agg #[.bool (decide (O < 0)), .slice A73 (dig (O).natAbs).length c73]) (z := O) (by first | exact Ho_tmp_85.out | exact LV.drew1 Ho_tmp_85.out | exact LV.alloc Ho_tmp_85.out _ | exact LV.drew1 (LV.alloc Ho_tmp_85.out _)) hb92); clear Ho_tmp_85; clear HSZ_83; have Oc1 := Lib.hid hN; clear hN; have q95_0 := Lg_94.cell0; have q95_1 := Lg_94.cell1; have q95_2 := Lg_94.frozen 0; have q95_3 := Lg_94.frozen 1; have q95_lt := Lg_94.lt; have q96_0 := Lr1_94.cell0; have q96_1 := Lr1_94.cell1; have q96_2 := Lr1_94.frozen 0; have q96_3 := Lr1_94.frozen 1; have q96_lt := Lr1_94.lt; have q97_0 := Lr2_94.cell0; have q97_1 := Lr2_94.cell1; have q97_2 := Lr2_94.frozen 0; have q97_3 := Lr2_94.frozen 1; have q97_lt := Lr2_94.lt; have q98_0 := Lo_94.cell0; have q98_1 := Lo_94.cell1; have q98_2 := Lo_94.frozen 0; have q98_3 := Lo_94.frozen 1; have q98_lt := Lo_94.lt; clear hb92))
        | (go_at_call 86; clear tok91; ((with_reducible refine (is1_yes _ N1 (ByteArray.mk #[49]) _ O Oc1.out Ho_94.out HFO.out HSO.out (by first | exact (G1.step HB_93.out) | exact Glob.drew (G1.step HB_93.out) | exact Glob.alloc (G1.step HB_93.out) _ | exact Glob.drew (Glob.alloc (G1.step HB_93.out) _))).mono ?_); rintro e u99 ⟨hb99, rfl⟩; have HB_100 := Lib.hid (show Below wr.heap.size wr u99 from by first | exact below_call0 HB_93.out hb99 | exact below_call_drew0 HB_93.out hb99 | exact below_call HB_93.out hb99 | exact below_call_drew HB_93.out hb99); clear HB_93; have La_101 := LB.step (b := ba) (x := .bool (decide (X < 0))) (y := .slice A1 (dig (X).natAbs).length c1) (by first | exact La_94 | exact LB.drew La_94 | exact LB.alloc La_94 _ | exact LB.drew (LB.alloc La_94 _)) hb99; clear La_94; have Lb_101 := LB.step (b := bb) (x := .bool (decide (Q < 0))) (y := .slice A2 (dig (Q).natAbs).length c2) (by first | exact Lb_94 | exact LB.drew Lb_94 | exact LB.alloc Lb_94 _ | exact LB.drew (LB.alloc Lb_94 _)) hb99; clear Lb_94; have Lc_101 := LB.step (b := bc) (x := .bool (decide (C < 0))) (y := .slice A3 (dig (C).natAbs).length c3) (by first | exact Lc_94 | exact LB.drew Lc_94 | exact LB.alloc Lc_94 _ | exact LB.drew (LB.alloc Lc_94 _)) hb99; clear Lc_94; have Lg_101 := LB.step (b := w3.heap.size) (x := .bool false) (y := .slice A6 (dig (N).natAbs).length c6) (by first | exact Lg_94 | exact LB.drew Lg_94 | exact LB.alloc Lg_94 _ | exact LB.drew (LB.alloc Lg_94 _)) hb99; clear Lg_94; have Lr1_101 := LB.step (b := w28.heap.size + 1) (x := .bool (decide (Z < 0))) (y := .slice A32 0 c32) (by first | exact Lr1_94 | exact LB.drew Lr1_94 | exact LB.alloc Lr1_94 _ | exact LB.drew (LB.alloc Lr1_94 _)) hb99; clear Lr1_94; have Lr2_101 := LB.step (b := w48.heap.size + 1) (x := .bool (decide (Z < 0))) (y := .slice A52 0 c52) (by first | exact Lr2_94 | exact LB.drew Lr2_94 | exact LB.alloc Lr2_94 _ | exact LB.drew (LB.alloc Lr2_94 _)) hb99; clear Lr2_94; have Lo_101 := LB.step (b := w70.heap.size) (x := .bool (decide (O < 0))) (y := .slice A73 (dig (O).natAbs).length c73) (by first | exact Lo_94 | exact LB.drew Lo_94 | exact LB.alloc Lo_94 _ | exact LB.drew (LB.alloc Lo_94 _)) hb99; clear Lo_94; have Ha_101 := Lib.hid (LV.step (v := .agg #[.bool (decide (X < 0)), .slice A1 (dig (X).natAbs).length c1]) (z := X) (by first | exact Ha_94.out | exact LV.drew1 Ha_94.out | exact LV.alloc Ha_94.out _ | exact LV.drew1 (LV.alloc Ha_94.out _)) hb99); clear Ha_94; have Hb_101 := Lib.hid (LV.step (v := .agg #[.bool (decide (Q < 0)), .slice A2 (dig (Q).natAbs).length c2]) (z := Q) (by first | exact Hb_94.out | exact LV.drew1 Hb_94.out | exact LV.alloc Hb_94.out _ | exact LV.drew1 (LV.alloc Hb_94.out _)) hb99); clear Hb_94; have Hc_101 := Lib.hid (LV.step (v := .agg #[.bool (decide (C < 0)), .slice A3 (dig (C).natAbs).length c3]) (z := C) (by first | exact Hc_94.out | exact LV.drew1 Hc_94.out | exact LV.alloc Hc_94.out _ | exact LV.drew1 (LV.alloc Hc_94.out _)) hb99); clear Hc_94; have Hg_101 := Lib.hid (LV.step (v := .agg #[.bool (decide (N < 0)), .slice A6 (dig (N).natAbs).length c6]) (z := N) (by first | exact Hg_94.out | exact LV.drew1 Hg_94.out | exact LV.alloc Hg_94.out _ | exact LV.drew1 (LV.alloc Hg_94.out _)) hb99); clear Hg_94; have Hr1_101 := Lib.hid (LV.step (v := .agg #[.bool (decide (Z < 0)), .slice A32 (dig (Z).natAbs).length c32]) (z := Z) (by first | exact Hr1_94.out | exact LV.drew1 Hr1_94.out | exact LV.alloc Hr1_94.out _ | exact LV.drew1 (LV.alloc Hr1_94.out _)) hb99); clear Hr1_94; have Hr2_101 := Lib.hid (LV.step (v := .agg #[.bool (decide (Z < 0)), .slice A52 (dig (Z).natAbs).length c52]) (z := Z) (by first | exact Hr2_94.out | exact LV.drew1 Hr2_94.out | exact LV.alloc Hr2_94.out _ | exact LV.drew1 (LV.alloc Hr2_94.out _)) hb99); clear Hr2_94; have Ho_101 := Lib.hid (LV.step (v := .agg #[.bool (decide (O < 0)), .slice A73 (dig (O).natAbs).length c73]) (z := O) (by first | exact Ho_94.out | exact LV.drew1 Ho_94.out | exact LV.alloc Ho_94.out _ | exact LV.drew1 (LV.alloc Ho_94.out _)) hb99); clear Ho_94; have Oc1_101 := Lib.hid (One.step (b := N1) (t := 9) (v := (.string (ByteArray.mk #[49]))) (by first | exact Oc1.out | exact One.drew1 Oc1.out | exact One.alloc Oc1.out _ | exact One.drew1 (One.alloc Oc1.out _)) hb99); clear Oc1; clear hb99)))
      rename_i hheld; clear hheld
      rw [← HNs.out] at Lg_101
      clear Lr1_101
      clear Hr1_101
      clear Lr2_101
      clear Hr2_101
      clear Lo_101
      clear Ho_101
      clear Oc1_101
      have q102_0 := La_101.cell0
      have q102_1 := La_101.cell1
      have q102_2 := La_101.frozen 0
      have q102_3 := La_101.frozen 1
      have q102_lt := La_101.lt
      have q103_0 := Lc_101.cell0
      have q103_1 := Lc_101.cell1
      have q103_2 := Lc_101.frozen 0
      have q103_3 := Lc_101.frozen 1
      have q103_lt := Lc_101.lt
      go_wp2_with fail
      refine (Mul_num Ha_101.out Hc_101.out HFX.out HFC.out (by rw [← HE.out]; exact HFE.out)).mono ?_
      rintro e w105 ⟨hb105, v104, rfl, hv104⟩
      have HB_106 := Lib.hid (HB_100.out.trans (hb105.mono HB_100.out.size))
      clear HB_100
      have La_107 := La_101.step hb105
      clear La_101
      have Lb_107 := Lb_101.step hb105
      clear Lb_101
      have Lc_107 := Lc_101.step hb105
      clear Lc_101
      have Lg_107 := Lg_101.step hb105
      clear Lg_101
      have Ha_107 := Lib.hid (Ha_101.out.step hb105)
      clear Ha_101
      have Hb_107 := Lib.hid (Hb_101.out.step hb105)
      clear Hb_101
      have Hc_107 := Lib.hid (Hc_101.out.step hb105)
      clear Hc_101
      have Hg_107 := Lib.hid (Hg_101.out.step hb105)
      clear Hg_101
      clear hb105
      clear q102_0 q102_1 q102_2 q102_3 q102_lt q103_0 q103_1 q103_2 q103_3 q103_lt
      rw [← HE.out] at hv104
      obtain ⟨A108, c108, rfl, -⟩ := hv104.parts
      have Ht_108 := Lib.hid hv104
      clear hv104
      have q109_0 := La_107.cell0
      have q109_1 := La_107.cell1
      have q109_2 := La_107.frozen 0
      have q109_3 := La_107.frozen 1
      have q109_lt := La_107.lt
      have q110_0 := Lb_107.cell0
      have q110_1 := Lb_107.cell1
      have q110_2 := Lb_107.frozen 0
      have q110_3 := Lb_107.frozen 1
      have q110_lt := Lb_107.lt
      have q111_0 := Lc_107.cell0
      have q111_1 := Lc_107.cell1
      have q111_2 := Lc_107.frozen 0
      have q111_3 := Lc_107.frozen 1
      have q111_lt := Lc_107.lt
      have q112_0 := Lg_107.cell0
      have q112_1 := Lg_107.cell1
      have q112_2 := Lg_107.frozen 0
      have q112_3 := Lg_107.frozen 1
      have q112_lt := Lg_107.lt
      go_wp2_with fail
      clear q109_0 q109_1 q109_2 q109_3 q109_lt q110_0 q110_1 q110_2 q110_3 q110_lt q111_0 q111_1 q111_2 q111_3 q111_lt q112_0 q112_1 q112_2 q112_3 q112_lt
      obtain ⟨w113, hW113⟩ : ∃ w113 : World, w113 = w105.alloc (.cells #[.bool (decide (E < 0)), .slice A108 (dig (E).natAbs).length c108] 24) := ⟨_, rfl⟩
      rw [← hW113]
      have hal114 : Below w105.heap.size w105 w113 := by rw [hW113]; exact (Below.refl _ _).alloc (Nat.le_refl _) _
      have Lac_114 : LB w113 (w105.heap.size) (.bool (decide (E < 0))) (.slice A108 (dig (E).natAbs).length c108) := by rw [hW113]; exact LB.new' (show w105.heap.size = w105.heap.size from (rfl).symm)
      have ne_a_ac : ba ≠ w105.heap.size := Nat.ne_of_lt (by have h1 := La_107.lt; have h2 : w105.heap.size = w105.heap.size := rfl; omega)
      have ne_b_ac : bb ≠ w105.heap.size := Nat.ne_of_lt (by have h1 := Lb_107.lt; have h2 : w105.heap.size = w105.heap.size := rfl; omega)
      have ne_c_ac : bc ≠ w105.heap.size := Nat.ne_of_lt (by have h1 := Lc_107.lt; have h2 : w105.heap.size = w105.heap.size := rfl; omega)
      have ne_g_ac : w3.heap.size ≠ w105.heap.size := Nat.ne_of_lt (by have h1 := Lg_107.lt; have h2 : w105.heap.size = w105.heap.size := rfl; omega)
      have ge_ac : wr.heap.size ≤ w105.heap.size := by have h1 : wr.heap.size ≤ w105.heap.size := HB_106.out.size; have h2 : w105.heap.size = w105.heap.size := rfl; omega
      have HSZ_114 := Lib.hid (show w113.heap.size = w105.heap.size + 1 by rw [hW113]; have h2 : w105.heap.size = w105.heap.size := rfl; simp <;> omega)
      have HB_115 := Lib.hid (HB_106.out.trans (hal114.mono HB_106.out.size))
      clear HB_106
      have La_116 := La_107.step hal114
      clear La_107
      have Lb_116 := Lb_107.step hal114
      clear Lb_107
      have Lc_116 := Lc_107.step hal114
      clear Lc_107
      have Lg_116 := Lg_107.step hal114
      clear Lg_107
      have Ha_116 := Lib.hid (Ha_107.out.step hal114)
      clear Ha_107
      have Hb_116 := Lib.hid (Hb_107.out.step hal114)
      clear Hb_107
      have Hc_116 := Lib.hid (Hc_107.out.step hal114)
      clear Hc_107
      have Hg_116 := Lib.hid (Hg_107.out.step hal114)
      clear Hg_107
      have Hac_tmp_116 := Lib.hid (Ht_108.out.step hal114)
      clear Ht_108
      clear hal114 hW113
      have q117_0 := Lb_116.cell0
      have q117_1 := Lb_116.cell1
      have q117_2 := Lb_116.frozen 0
      have q117_3 := Lb_116.frozen 1
      have q117_lt := Lb_116.lt
      have q118_0 := Lc_116.cell0
      have q118_1 := Lc_116.cell1
      have q118_2 := Lc_116.frozen 0
      have q118_3 := Lc_116.frozen 1
      have q118_lt := Lc_116.lt
      refine (Mul_num Hb_116.out Hc_116.out HFQ.out HFC.out (by rw [← HF.out]; exact HFF.out)).mono ?_
      rintro e w120 ⟨hb120, v119, rfl, hv119⟩
      have HB_121 := Lib.hid (HB_115.out.trans (hb120.mono HB_115.out.size))
      clear HB_115
      have La_122 := La_116.step hb120
      clear La_116
      have Lb_122 := Lb_116.step hb120
      clear Lb_116
      have Lc_122 := Lc_116.step hb120
      clear Lc_116
      have Lg_122 := Lg_116.step hb120
      clear Lg_116
      have Lac_122 := Lac_114.step hb120
      clear Lac_114
      have Ha_122 := Lib.hid (Ha_116.out.step hb120)
      clear Ha_116
      have Hb_122 := Lib.hid (Hb_116.out.step hb120)
      clear Hb_116
      have Hc_122 := Lib.hid (Hc_116.out.step hb120)
      clear Hc_116
      have Hg_122 := Lib.hid (Hg_116.out.step hb120)
      clear Hg_116
      have Hac_122 := Lib.hid (Hac_tmp_116.out.step hb120)
      clear Hac_tmp_116
      clear hb120
      clear HSZ_114
      clear q117_0 q117_1 q117_2 q117_3 q117_lt q118_0 q118_1 q118_2 q118_3 q118_lt
      rw [← HF.out] at hv119
      obtain ⟨A123, c123, rfl, -⟩ := hv119.parts
      have Ht_123 := Lib.hid hv119
      clear hv119
      have q124_0 := La_122.cell0
      have q124_1 := La_122.cell1
      have q124_2 := La_122.frozen 0
      have q124_3 := La_122.frozen 1
      have q124_lt := La_122.lt
      have q125_0 := Lb_122.cell0
      have q125_1 := Lb_122.cell1
      have q125_2 := Lb_122.frozen 0
      have q125_3 := Lb_122.frozen 1
      have q125_lt := Lb_122.lt
      have q126_0 := Lc_122.cell0
      have q126_1 := Lc_122.cell1
      have q126_2 := Lc_122.frozen 0
      have q126_3 := Lc_122.frozen 1
      have q126_lt := Lc_122.lt
      have q127_0 := Lg_122.cell0
      have q127_1 := Lg_122.cell1
      have q127_2 := Lg_122.frozen 0
      have q127_3 := Lg_122.frozen 1
      have q127_lt := Lg_122.lt
      have q128_0 := Lac_122.cell0
      have q128_1 := Lac_122.cell1
      have q128_2 := Lac_122.frozen 0
      have q128_3 := Lac_122.frozen 1
      have q128_lt := Lac_122.lt
      go_wp2_with fail
      clear q124_0 q124_1 q124_2 q124_3 q124_lt q125_0 q125_1 q125_2 q125_3 q125_lt q126_0 q126_1 q126_2 q126_3 q126_lt q127_0 q127_1 q127_2 q127_3 q127_lt q128_0 q128_1 q128_2 q128_3 q128_lt
      obtain ⟨w129, hW129⟩ : ∃ w129 : World, w129 = w120.alloc (.cells #[.bool (decide (F < 0)), .slice A123 (dig (F).natAbs).length c123] 24) := ⟨_, rfl⟩
      rw [← hW129]
      have hal130 : Below w120.heap.size w120 w129 := by rw [hW129]; exact (Below.refl _ _).alloc (Nat.le_refl _) _
      have Lbc_130 : LB w129 (w120.heap.size) (.bool (decide (F < 0))) (.slice A123 (dig (F).natAbs).length c123) := by rw [hW129]; exact LB.new' (show w120.heap.size = w120.heap.size from (rfl).symm)
      have ne_a_bc : ba ≠ w120.heap.size := Nat.ne_of_lt (by have h1 := La_122.lt; have h2 : w120.heap.size = w120.heap.size := rfl; omega)
      have ne_b_bc : bb ≠ w120.heap.size := Nat.ne_of_lt (by have h1 := Lb_122.lt; have h2 : w120.heap.size = w120.heap.size := rfl; omega)
      have ne_c_bc : bc ≠ w120.heap.size := Nat.ne_of_lt (by have h1 := Lc_122.lt; have h2 : w120.heap.size = w120.heap.size := rfl; omega)
      have ne_g_bc : w3.heap.size ≠ w120.heap.size := Nat.ne_of_lt (by have h1 := Lg_122.lt; have h2 : w120.heap.size = w120.heap.size := rfl; omega)
      have ne_ac_bc : w105.heap.size ≠ w120.heap.size := Nat.ne_of_lt (by have h1 := Lac_122.lt; have h2 : w120.heap.size = w120.heap.size := rfl; omega)
      have ge_bc : wr.heap.size ≤ w120.heap.size := by have h1 : wr.heap.size ≤ w120.heap.size := HB_121.out.size; have h2 : w120.heap.size = w120.heap.size := rfl; omega
      have HSZ_130 := Lib.hid (show w129.heap.size = w120.heap.size + 1 by rw [hW129]; have h2 : w120.heap.size = w120.heap.size := rfl; simp <;> omega)
      have HB_131 := Lib.hid (HB_121.out.trans (hal130.mono HB_121.out.size))
      clear HB_121
      have La_132 := La_122.step hal130
      clear La_122
      have Lb_132 := Lb_122.step hal130
      clear Lb_122
      have Lc_132 := Lc_122.step hal130
      clear Lc_122
      have Lg_132 := Lg_122.step hal130
      clear Lg_122
      have Lac_132 := Lac_122.step hal130
      clear Lac_122
      have Ha_132 := Lib.hid (Ha_122.out.step hal130)
      clear Ha_122
      have Hb_132 := Lib.hid (Hb_122.out.step hal130)
      clear Hb_122
      have Hc_132 := Lib.hid (Hc_122.out.step hal130)
      clear Hc_122
      have Hg_132 := Lib.hid (Hg_122.out.step hal130)
      clear Hg_122
      have Hac_132 := Lib.hid (Hac_122.out.step hal130)
      clear Hac_122
      have Hbc_tmp_132 := Lib.hid (Ht_123.out.step hal130)
      clear Ht_123
      clear hal130 hW129
      have q133_0 := Lac_132.cell0
      have q133_1 := Lac_132.cell1
      have q133_2 := Lac_132.frozen 0
      have q133_3 := Lac_132.frozen 1
      have q133_lt := Lac_132.lt
      have q134_0 := Lbc_130.cell0
      have q134_1 := Lbc_130.cell1
      have q134_2 := Lbc_130.frozen 0
      have q134_3 := Lbc_130.frozen 1
      have q134_lt := Lbc_130.lt
      refine (Gcd_num Hac_132.out Hbc_tmp_132.out HFE.out HFF.out).mono ?_
      rintro e w136 ⟨hb136, v135, rfl, hv135⟩
      have HB_137 := Lib.hid (HB_131.out.trans (hb136.mono HB_131.out.size))
      clear HB_131
      have La_138 := La_132.step hb136
      clear La_132
      have Lb_138 := Lb_132.step hb136
      clear Lb_132
      have Lc_138 := Lc_132.step hb136
      clear Lc_132
      have Lg_138 := Lg_132.step hb136
      clear Lg_132
      have Lac_138 := Lac_132.step hb136
      clear Lac_132
      have Lbc_138 := Lbc_130.step hb136
      clear Lbc_130
      have Ha_138 := Lib.hid (Ha_132.out.step hb136)
      clear Ha_132
      have Hb_138 := Lib.hid (Hb_132.out.step hb136)
      clear Hb_132
      have Hc_138 := Lib.hid (Hc_132.out.step hb136)
      clear Hc_132
      have Hg_138 := Lib.hid (Hg_132.out.step hb136)
      clear Hg_132
      have Hac_138 := Lib.hid (Hac_132.out.step hb136)
      clear Hac_132
      have Hbc_138 := Lib.hid (Hbc_tmp_132.out.step hb136)
      clear Hbc_tmp_132
      clear hb136
      clear HSZ_130
      clear q133_0 q133_1 q133_2 q133_3 q133_lt q134_0 q134_1 q134_2 q134_3 q134_lt
      rw [HM.out] at hv135
      obtain ⟨A139, c139, rfl, -⟩ := hv135.parts
      have Ht_139 := Lib.hid hv135
      clear hv135
      have q140_0 := La_138.cell0
      have q140_1 := La_138.cell1
      have q140_2 := La_138.frozen 0
      have q140_3 := La_138.frozen 1
      have q140_lt := La_138.lt
      have q141_0 := Lb_138.cell0
      have q141_1 := Lb_138.cell1
      have q141_2 := Lb_138.frozen 0
      have q141_3 := Lb_138.frozen 1
      have q141_lt := Lb_138.lt
      have q142_0 := Lc_138.cell0
      have q142_1 := Lc_138.cell1
      have q142_2 := Lc_138.frozen 0
      have q142_3 := Lc_138.frozen 1
      have q142_lt := Lc_138.lt
      have q143_0 := Lg_138.cell0
      have q143_1 := Lg_138.cell1
      have q143_2 := Lg_138.frozen 0
      have q143_3 := Lg_138.frozen 1
      have q143_lt := Lg_138.lt
      have q144_0 := Lac_138.cell0
      have q144_1 := Lac_138.cell1
      have q144_2 := Lac_138.frozen 0
      have q144_3 := Lac_138.frozen 1
      have q144_lt := Lac_138.lt
      have q145_0 := Lbc_138.cell0
      have q145_1 := Lbc_138.cell1
      have q145_2 := Lbc_138.frozen 0
      have q145_3 := Lbc_138.frozen 1
      have q145_lt := Lbc_138.lt
      go_wp2_with fail
      clear q140_0 q140_1 q140_2 q140_3 q140_lt q141_0 q141_1 q141_2 q141_3 q141_lt q142_0 q142_1 q142_2 q142_3 q142_lt q143_0 q143_1 q143_2 q143_3 q143_lt q144_0 q144_1 q144_2 q144_3 q144_lt q145_0 q145_1 q145_2 q145_3 q145_lt
      obtain ⟨w146, hW146⟩ : ∃ w146 : World, w146 = w136.alloc (.cells #[.bool (decide (M < 0)), .slice A139 (dig (M).natAbs).length c139] 24) := ⟨_, rfl⟩
      rw [← hW146]
      have hal147 : Below w136.heap.size w136 w146 := by rw [hW146]; exact (Below.refl _ _).alloc (Nat.le_refl _) _
      have Lm1_147 : LB w146 (w136.heap.size) (.bool (decide (M < 0))) (.slice A139 (dig (M).natAbs).length c139) := by rw [hW146]; exact LB.new' (show w136.heap.size = w136.heap.size from (rfl).symm)
      have ne_a_m1 : ba ≠ w136.heap.size := Nat.ne_of_lt (by have h1 := La_138.lt; have h2 : w136.heap.size = w136.heap.size := rfl; omega)
      have ne_b_m1 : bb ≠ w136.heap.size := Nat.ne_of_lt (by have h1 := Lb_138.lt; have h2 : w136.heap.size = w136.heap.size := rfl; omega)
      have ne_c_m1 : bc ≠ w136.heap.size := Nat.ne_of_lt (by have h1 := Lc_138.lt; have h2 : w136.heap.size = w136.heap.size := rfl; omega)
      have ne_g_m1 : w3.heap.size ≠ w136.heap.size := Nat.ne_of_lt (by have h1 := Lg_138.lt; have h2 : w136.heap.size = w136.heap.size := rfl; omega)
      have ne_ac_m1 : w105.heap.size ≠ w136.heap.size := Nat.ne_of_lt (by have h1 := Lac_138.lt; have h2 : w136.heap.size = w136.heap.size := rfl; omega)
      have ne_bc_m1 : w120.heap.size ≠ w136.heap.size := Nat.ne_of_lt (by have h1 := Lbc_138.lt; have h2 : w136.heap.size = w136.heap.size := rfl; omega)
      have ge_m1 : wr.heap.size ≤ w136.heap.size := by have h1 : wr.heap.size ≤ w136.heap.size := HB_137.out.size; have h2 : w136.heap.size = w136.heap.size := rfl; omega
      have HSZ_147 := Lib.hid (show w146.heap.size = w136.heap.size + 1 by rw [hW146]; have h2 : w136.heap.size = w136.heap.size := rfl; simp <;> omega)
      have HB_148 := Lib.hid (HB_137.out.trans (hal147.mono HB_137.out.size))
      clear HB_137
      have La_149 := La_138.step hal147
      clear La_138
      have Lb_149 := Lb_138.step hal147
      clear Lb_138
      have Lc_149 := Lc_138.step hal147
      clear Lc_138
      have Lg_149 := Lg_138.step hal147
      clear Lg_138
      have Lac_149 := Lac_138.step hal147
      clear Lac_138
      have Lbc_149 := Lbc_138.step hal147
      clear Lbc_138
      have Ha_149 := Lib.hid (Ha_138.out.step hal147)
      clear Ha_138
      have Hb_149 := Lib.hid (Hb_138.out.step hal147)
      clear Hb_138
      have Hc_149 := Lib.hid (Hc_138.out.step hal147)
      clear Hc_138
      have Hg_149 := Lib.hid (Hg_138.out.step hal147)
      clear Hg_138
      have Hac_149 := Lib.hid (Hac_138.out.step hal147)
      clear Hac_138
      have Hbc_149 := Lib.hid (Hbc_138.out.step hal147)
      clear Hbc_138
      have Hm1_tmp_149 := Lib.hid (Ht_139.out.step hal147)
      clear Ht_139
      clear hal147 hW146
      clear Lac_149
      clear Hac_149
      clear Lbc_149
      clear Hbc_149
      clear La_149
      clear Ha_149
      clear Lb_149
      clear Hb_149
      have q150_0 := Lg_149.cell0
      have q150_1 := Lg_149.cell1
      have q150_2 := Lg_149.frozen 0
      have q150_3 := Lg_149.frozen 1
      have q150_lt := Lg_149.lt
      have q151_0 := Lc_149.cell0
      have q151_1 := Lc_149.cell1
      have q151_2 := Lc_149.frozen 0
      have q151_3 := Lc_149.frozen 1
      have q151_lt := Lc_149.lt
      go_upto_region 20 with (fail)
      go_cut [22, 23] (fun sm s23 wx => s23 = .int .i64 0 ∧ ∃ (bm : Nat) (Am : Option Addr) (cm : Nat), sm = .pointer (some ⟨bm, 0, none⟩) ∧ LB wx bm (.bool (decide (M < 0))) (.slice Am (dig (M).natAbs).length cm) ∧ Hid (LV wx wx.heap.size (.agg #[.bool (decide (M < 0)), .slice Am (dig (M).natAbs).length cm]) (M)) ∧ LB wx (bc) (.bool (decide (C < 0))) (.slice A3 (dig (C).natAbs).length c3) ∧ Hid (LV wx wx.heap.size (.agg #[.bool (decide (C < 0)), .slice A3 (dig (C).natAbs).length c3]) (C)) ∧ Hid (bc ≠ bm) ∧ LB wx (w3.heap.size) (.bool (decide (N < 0))) (.slice A6 (dig (N).natAbs).length c6) ∧ Hid (LV wx wx.heap.size (.agg #[.bool (decide (N < 0)), .slice A6 (dig (N).natAbs).length c6]) (N)) ∧ Hid (w3.heap.size ≠ bm) ∧ LB wx (w136.heap.size) (.bool (decide (M < 0))) (.slice A139 (dig (M).natAbs).length c139) ∧ Hid (LV wx wx.heap.size (.agg #[.bool (decide (M < 0)), .slice A139 (dig (M).natAbs).length c139]) (M)) ∧ Hid (w136.heap.size ≠ bm) ∧ Hid (wr.heap.size ≤ bm) ∧ Hid (Below wr.heap.size wr wx))
      case first => as_aux_lemma =>
        have tok152 : True := trivial
        have tok153 : True := trivial
        go_region_held3 (fun w' => w'.cell? ⟨w3.heap.size, 0, none⟩ = some (.bool (decide (N < 0))) ∧ w'.cell? ⟨w3.heap.size, 1, none⟩ = some (.slice A6 (dig (N).natAbs).length c6) ∧ w'.cell? ⟨bc, 0, none⟩ = some (.bool (decide (C < 0))) ∧ w'.cell? ⟨bc, 1, none⟩ = some (.slice A3 (dig (C).natAbs).length c3)) (first
          | (exact ⟨(LB.drew Lg_149).cell0, (LB.drew Lg_149).cell1, (LB.drew Lc_149).cell0, (LB.drew Lc_149).cell1⟩)
          | (exact ⟨Lg_149.cell0, Lg_149.cell1, Lc_149.cell0, Lc_149.cell1⟩)
          | (exact ⟨Lg_156.cell0, Lg_156.cell1, Lc_156.cell0, Lc_156.cell1⟩)
          | (exact ⟨(LB.alloc Lg_156 _).cell0, (LB.alloc Lg_156 _).cell1, (LB.alloc Lc_156 _).cell0, (LB.alloc Lc_156 _).cell1⟩)
          | (exact ⟨Lg_161.cell0, Lg_161.cell1, Lc_161.cell0, Lc_161.cell1⟩)
          | (exact ⟨(LB.alloc Lg_161 _).cell0, (LB.alloc Lg_161 _).cell1, (LB.alloc Lc_161 _).cell0, (LB.alloc Lc_161 _).cell1⟩)
          | (exact ⟨(LB.far (LB.far Lg_161 (p := ⟨w146.heap.size, 0, none⟩) nz154_g _) (p := ⟨w146.heap.size, 1, none⟩) nz154_g _).cell0, (LB.far (LB.far Lg_161 (p := ⟨w146.heap.size, 0, none⟩) nz154_g _) (p := ⟨w146.heap.size, 1, none⟩) nz154_g _).cell1, (LB.far (LB.far Lc_161 (p := ⟨w146.heap.size, 0, none⟩) nz154_c _) (p := ⟨w146.heap.size, 1, none⟩) nz154_c _).cell0, (LB.far (LB.far Lc_161 (p := ⟨w146.heap.size, 0, none⟩) nz154_c _) (p := ⟨w146.heap.size, 1, none⟩) nz154_c _).cell1⟩)
          | (exact ⟨(LB.far (LB.far Lg_161 (p := ⟨u154.heap.size, 0, none⟩) nz159_g _) (p := ⟨u154.heap.size, 1, none⟩) nz159_g _).cell0, (LB.far (LB.far Lg_161 (p := ⟨u154.heap.size, 0, none⟩) nz159_g _) (p := ⟨u154.heap.size, 1, none⟩) nz159_g _).cell1, (LB.far (LB.far Lc_161 (p := ⟨u154.heap.size, 0, none⟩) nz159_c _) (p := ⟨u154.heap.size, 1, none⟩) nz159_c _).cell0, (LB.far (LB.far Lc_161 (p := ⟨u154.heap.size, 0, none⟩) nz159_c _) (p := ⟨u154.heap.size, 1, none⟩) nz159_c _).cell1⟩)
          | go_keep) (first
          | (go_at_call 42; clear tok152; ((with_reducible refine (size_num _ _ C (by first | exact Hc_149.out | exact LV.drew1 Hc_149.out | exact LV.alloc Hc_149.out _ | exact LV.drew1 (LV.alloc Hc_149.out _))).mono ?_); rintro e u154 ⟨hb154, v5, rfl, hv5⟩; have nz154_c := Nat.ne_of_lt (LB.lt Lc_149); have nz154_g := Nat.ne_of_lt (LB.lt Lg_149); have nz154_m1 := Nat.ne_of_lt (LB.lt Lm1_147); have gz154 := HB_148.out.size; have HB_155 := Lib.hid (show Below wr.heap.size wr u154 from by first | exact below_call0 HB_148.out hb154 | exact below_call_drew0 HB_148.out hb154 | exact below_call HB_148.out hb154 | exact below_call_drew HB_148.out hb154); clear HB_148; have Lc_156 := LB.step (b := bc) (x := .bool (decide (C < 0))) (y := .slice A3 (dig (C).natAbs).length c3) (by first | exact Lc_149 | exact LB.drew Lc_149 | exact LB.alloc Lc_149 _ | exact LB.drew (LB.alloc Lc_149 _)) hb154; clear Lc_149; have Lg_156 := LB.step (b := w3.heap.size) (x := .bool (decide (N < 0))) (y := .slice A6 (dig (N).natAbs).length c6) (by first | exact Lg_149 | exact LB.drew Lg_149 | exact LB.alloc Lg_149 _ | exact LB.drew (LB.alloc Lg_149 _)) hb154; clear Lg_149; have Lm1_156 := LB.step (b := w136.heap.size) (x := .bool (decide (M < 0))) (y := .slice A139 (dig (M).natAbs).length c139) (by first | exact Lm1_147 | exact LB.drew Lm1_147 | exact LB.alloc Lm1_147 _ | exact LB.drew (LB.alloc Lm1_147 _)) hb154; clear Lm1_147; have Hc_156 := Lib.hid (LV.step (v := .agg #[.bool (decide (C < 0)), .slice A3 (dig (C).natAbs).length c3]) (z := C) (by first | exact Hc_149.out | exact LV.drew1 Hc_149.out | exact LV.alloc Hc_149.out _ | exact LV.drew1 (LV.alloc Hc_149.out _)) hb154); clear Hc_149; have Hg_156 := Lib.hid (LV.step (v := .agg #[.bool (decide (N < 0)), .slice A6 (dig (N).natAbs).length c6]) (z := N) (by first | exact Hg_149.out | exact LV.drew1 Hg_149.out | exact LV.alloc Hg_149.out _ | exact LV.drew1 (LV.alloc Hg_149.out _)) hb154); clear Hg_149; have Hm1_156 := Lib.hid (LV.step (v := .agg #[.bool (decide (M < 0)), .slice A139 (dig (M).natAbs).length c139]) (z := M) (by first | exact Hm1_tmp_149.out | exact LV.drew1 Hm1_tmp_149.out | exact LV.alloc Hm1_tmp_149.out _ | exact LV.drew1 (LV.alloc Hm1_tmp_149.out _)) hb154); clear Hm1_tmp_149; (try (have Lz : LB u154 w146.heap.size (.bool false) (.slice none 0 0) := LB.step (show LB (w146.alloc (.cells #[.bool false, .slice none 0 0] 24)) w146.heap.size (.bool false) (.slice none 0 0) from LB.new _ _ _) hb154)); (try (have Lz : LB u154 w146.heap.size (.bool false) (.slice none 0 0) := LB.step (show LB (w146.alloc (.cells #[.bool false, .slice none 0 0] 24)).drew w146.heap.size (.bool false) (.slice none 0 0) from LB.new _ _ _) hb154)); (try (have qz0 := Lz.cell0; have qz1 := Lz.cell1; have qz2 := Lz.frozen 0; have qz3 := Lz.frozen 1; have qz4 := Lz.lt)); clear HSZ_147; rw [← HD.out] at hv5; obtain ⟨A5, c5, rfl, -⟩ := hv5.parts; have H5 := Lib.hid hv5; clear hv5; have q157_0 := Lg_156.cell0; have q157_1 := Lg_156.cell1; have q157_2 := Lg_156.frozen 0; have q157_3 := Lg_156.frozen 1; have q157_lt := Lg_156.lt; have q158_0 := Lc_156.cell0; have q158_1 := Lc_156.cell1; have q158_2 := Lc_156.frozen 0; have q158_3 := Lc_156.frozen 1; have q158_lt := Lc_156.lt; clear hb154))
          | (go_at_call 19; clear tok153; ((with_reducible refine (Mul_num (by first | exact Hg_156.out | exact LV.drew1 Hg_156.out | exact LV.alloc Hg_156.out _ | exact LV.drew1 (LV.alloc Hg_156.out _)) (by first | exact H5.out | exact LV.drew1 H5.out | exact LV.alloc H5.out _ | exact LV.drew1 (LV.alloc H5.out _)) HFN.out HFD.out HFND.out).mono ?_); rintro e u159 ⟨hb159, v6, rfl, hv6⟩; have nz159_c := Nat.ne_of_lt (LB.lt Lc_156); have nz159_g := Nat.ne_of_lt (LB.lt Lg_156); have nz159_m1 := Nat.ne_of_lt (LB.lt Lm1_156); have gz159 := HB_155.out.size; have HB_160 := Lib.hid (show Below wr.heap.size wr u159 from by first | exact below_call0 HB_155.out hb159 | exact below_call_drew0 HB_155.out hb159 | exact below_call HB_155.out hb159 | exact below_call_drew HB_155.out hb159); clear HB_155; have Lc_161 := LB.step (b := bc) (x := .bool (decide (C < 0))) (y := .slice A3 (dig (C).natAbs).length c3) (by first | exact Lc_156 | exact LB.drew Lc_156 | exact LB.alloc Lc_156 _ | exact LB.drew (LB.alloc Lc_156 _)) hb159; clear Lc_156; have Lg_161 := LB.step (b := w3.heap.size) (x := .bool (decide (N < 0))) (y := .slice A6 (dig (N).natAbs).length c6) (by first | exact Lg_156 | exact LB.drew Lg_156 | exact LB.alloc Lg_156 _ | exact LB.drew (LB.alloc Lg_156 _)) hb159; clear Lg_156; have Lm1_161 := LB.step (b := w136.heap.size) (x := .bool (decide (M < 0))) (y := .slice A139 (dig (M).natAbs).length c139) (by first | exact Lm1_156 | exact LB.drew Lm1_156 | exact LB.alloc Lm1_156 _ | exact LB.drew (LB.alloc Lm1_156 _)) hb159; clear Lm1_156; have Hc_161 := Lib.hid (LV.step (v := .agg #[.bool (decide (C < 0)), .slice A3 (dig (C).natAbs).length c3]) (z := C) (by first | exact Hc_156.out | exact LV.drew1 Hc_156.out | exact LV.alloc Hc_156.out _ | exact LV.drew1 (LV.alloc Hc_156.out _)) hb159); clear Hc_156; have Hg_161 := Lib.hid (LV.step (v := .agg #[.bool (decide (N < 0)), .slice A6 (dig (N).natAbs).length c6]) (z := N) (by first | exact Hg_156.out | exact LV.drew1 Hg_156.out | exact LV.alloc Hg_156.out _ | exact LV.drew1 (LV.alloc Hg_156.out _)) hb159); clear Hg_156; have Hm1_161 := Lib.hid (LV.step (v := .agg #[.bool (decide (M < 0)), .slice A139 (dig (M).natAbs).length c139]) (z := M) (by first | exact Hm1_156.out | exact LV.drew1 Hm1_156.out | exact LV.alloc Hm1_156.out _ | exact LV.drew1 (LV.alloc Hm1_156.out _)) hb159); clear Hm1_156; have Hd_161 := Lib.hid (LV.step (v := .agg #[.bool (decide (D < 0)), .slice A5 (dig (D).natAbs).length c5]) (z := D) (by first | exact H5.out | exact LV.drew1 H5.out | exact LV.alloc H5.out _ | exact LV.drew1 (LV.alloc H5.out _)) hb159); clear H5; (try (have Lz := LB.step Lz hb159)); (try (have Lz : LB u159 u154.heap.size (.bool false) (.slice none 0 0) := LB.step (show LB (u154.alloc (.cells #[.bool false, .slice none 0 0] 24)) u154.heap.size (.bool false) (.slice none 0 0) from LB.new _ _ _) hb159)); (try (have Lz : LB u159 u154.heap.size (.bool false) (.slice none 0 0) := LB.step (show LB (u154.alloc (.cells #[.bool false, .slice none 0 0] 24)).drew u154.heap.size (.bool false) (.slice none 0 0) from LB.new _ _ _) hb159)); (try (have qz0 := Lz.cell0; have qz1 := Lz.cell1; have qz2 := Lz.frozen 0; have qz3 := Lz.frozen 1; have qz4 := Lz.lt)); rw [HND.out] at hv6; obtain ⟨A6, c6, rfl, -⟩ := hv6.parts; have H6 := Lib.hid hv6; clear hv6; have q162_0 := Lg_161.cell0; have q162_1 := Lg_161.cell1; have q162_2 := Lg_161.frozen 0; have q162_3 := Lg_161.frozen 1; have q162_lt := Lg_161.lt; have q163_0 := Lc_161.cell0; have q163_1 := Lc_161.cell1; have q163_2 := Lc_161.frozen 0; have q163_3 := Lc_161.frozen 1; have q163_lt := Lc_161.lt; clear hb159)))
        all_goals (go_wp2; go_meet; (first | exact ⟨rfl, w146.heap.size, A6, c6, rfl, (Lz.set0 _).set1 _, Lib.hid (LV.setLB H6.out Lz _ _ rfl rfl), (LB.far (LB.far Lc_161 (p := ⟨w146.heap.size, 0, none⟩) nz154_c _) (p := ⟨w146.heap.size, 1, none⟩) nz154_c _), Lib.hid (LV.setLB Hc_161.out Lz _ _ rfl rfl), Lib.hid nz154_c, (LB.far (LB.far Lg_161 (p := ⟨w146.heap.size, 0, none⟩) nz154_g _) (p := ⟨w146.heap.size, 1, none⟩) nz154_g _), Lib.hid (LV.setLB Hg_161.out Lz _ _ rfl rfl), Lib.hid nz154_g, (LB.far (LB.far Lm1_161 (p := ⟨w146.heap.size, 0, none⟩) nz154_m1 _) (p := ⟨w146.heap.size, 1, none⟩) nz154_m1 _), Lib.hid (LV.setLB Hm1_161.out Lz _ _ rfl rfl), Lib.hid nz154_m1, Lib.hid gz154, Lib.hid ((HB_160.out.setCell (p := ⟨w146.heap.size, 0, none⟩) gz154 _).setCell (p := ⟨w146.heap.size, 1, none⟩) gz154 _)⟩ | exact ⟨rfl, u154.heap.size, A6, c6, rfl, (Lz.set0 _).set1 _, Lib.hid (LV.setLB H6.out Lz _ _ rfl rfl), (LB.far (LB.far Lc_161 (p := ⟨u154.heap.size, 0, none⟩) nz159_c _) (p := ⟨u154.heap.size, 1, none⟩) nz159_c _), Lib.hid (LV.setLB Hc_161.out Lz _ _ rfl rfl), Lib.hid nz159_c, (LB.far (LB.far Lg_161 (p := ⟨u154.heap.size, 0, none⟩) nz159_g _) (p := ⟨u154.heap.size, 1, none⟩) nz159_g _), Lib.hid (LV.setLB Hg_161.out Lz _ _ rfl rfl), Lib.hid nz159_g, (LB.far (LB.far Lm1_161 (p := ⟨u154.heap.size, 0, none⟩) nz159_m1 _) (p := ⟨u154.heap.size, 1, none⟩) nz159_m1 _), Lib.hid (LV.setLB Hm1_161.out Lz _ _ rfl rfl), Lib.hid nz159_m1, Lib.hid gz159, Lib.hid ((HB_160.out.setCell (p := ⟨u154.heap.size, 0, none⟩) gz159 _).setCell (p := ⟨u154.heap.size, 1, none⟩) gz159 _)⟩ | exact ⟨rfl, u159.heap.size, A6, c6, rfl, LB.new _ _ _, Lib.hid (LV.alloc H6.out _), LB.alloc Lc_161 _, Lib.hid (LV.alloc Hc_161.out _), Lib.hid (Nat.ne_of_lt (LB.lt Lc_161)), LB.alloc Lg_161 _, Lib.hid (LV.alloc Hg_161.out _), Lib.hid (Nat.ne_of_lt (LB.lt Lg_161)), LB.alloc Lm1_161 _, Lib.hid (LV.alloc Hm1_161.out _), Lib.hid (Nat.ne_of_lt (LB.lt Lm1_161)), Lib.hid HB_160.out.size, Lib.hid (HB_160.out.alloc HB_160.out.size _)⟩))
      case rest => as_aux_lemma =>
        obtain ⟨rfl, hcut⟩ := hcut
        obtain ⟨bm, Am, cm, rfl, Lm_164, Hm_164, Lc_164, Hc_164, hne_c, Lg_164, Hg_164, hne_g, Lm1_164, Hm1_164, hne_m1, hge_m, HB_164⟩ := hcut
        have ne_c_m := hne_c.out
        have ne_g_m := hne_g.out
        have ne_m1_m := hne_m1.out
        have ge_m := hge_m.out
        have q165_0 := Lm1_164.cell0
        have q165_1 := Lm1_164.cell1
        have q165_2 := Lm1_164.frozen 0
        have q165_3 := Lm1_164.frozen 1
        have q165_lt := Lm1_164.lt
        have q166_0 := Lm_164.cell0
        have q166_1 := Lm_164.cell1
        have q166_2 := Lm_164.frozen 0
        have q166_3 := Lm_164.frozen 1
        have q166_lt := Lm_164.lt
        go_wp2_with fail
        refine (Same_num Hm1_164.out Hm_164.out).mono ?_
        rintro e w167 ⟨hb167, rfl⟩
        have HB_168 := Lib.hid (HB_164.out.trans (hb167.mono HB_164.out.size))
        clear HB_164
        have Lc_169 := Lc_164.step hb167
        clear Lc_164
        have Lg_169 := Lg_164.step hb167
        clear Lg_164
        have Lm1_169 := Lm1_164.step hb167
        clear Lm1_164
        have Lm_169 := Lm_164.step hb167
        clear Lm_164
        have Hc_169 := Lib.hid (Hc_164.out.step hb167)
        clear Hc_164
        have Hg_169 := Lib.hid (Hg_164.out.step hb167)
        clear Hg_164
        have Hm1_169 := Lib.hid (Hm1_164.out.step hb167)
        clear Hm1_164
        have Hm_169 := Lib.hid (Hm_164.out.step hb167)
        clear Hm_164
        clear hb167
        clear q150_0 q150_1 q150_2 q150_3 q150_lt q151_0 q151_1 q151_2 q151_3 q151_lt q165_0 q165_1 q165_2 q165_3 q165_lt q166_0 q166_1 q166_2 q166_3 q166_lt
        rw [show decide (M = M) = true by simp]
        go_wp2
        go_roundw
        case rel => exact ⟨k + 1, by omega, by rw [show ((k + 1 : Nat) : Int) = (k : Int) + 1 by omega], Lib.hid (HBW.out.trans (HB_168.out.mono HBW.out.size)), Lib.hid (B2.out.step HB_168.out), Lib.hid (hd.out.step HB_168.out), Lib.hid (HP.out.step HB_168.out)⟩
        case measure => simp [intOf] <;> omega
end Go.Proofs.YtnbanlmkoljghaaGreatDoor
