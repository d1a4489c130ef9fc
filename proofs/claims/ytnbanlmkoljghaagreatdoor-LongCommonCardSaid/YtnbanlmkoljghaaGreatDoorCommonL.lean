/- The law LongCommon (written by gen_common.py). -/
import Derived.Test.YtnbanlmkoljghaaGreatDoorLawC
import Derived.Test.YtnbanlmkoljghaaGreatDoorRefb
import Derived.Test.YtnbanlmkoljghaaGreatDoorEarly
namespace Go.Proofs.YtnbanlmkoljghaaGreatDoor
open Go Go.RowKit Dig

theorem gcd_told (n1 n2 : Bool) (l1 l2 : List Int) : A2 (fun a b => toldZ (Int.gcd a b : Int)) (numOf n1 l1) (numOf n2 l2) = A2 (fun a b => ((Int.gcd a b : Int), 0)) (numOf n1 l1) (numOf n2 l2) := by
  by_cases hv : Valid n1 l1 ∧ Valid n2 l2
  · obtain ⟨x, h1, _, _, h2⟩ := numOf_valid hv.1
    obtain ⟨y, h3, _, _, h4⟩ := numOf_valid hv.2
    rw [h1, h3]
    exact told_fit (fit_gcd h2 h4)
  · rw [A2_bad hv, A2_bad hv]
theorem Gcd_any2 (w : World) (va vb : Value) (na nb : Bool) (la lb : List Int) (ha : LR w w.heap.size va na la) (hb : LR w w.heap.size vb nb lb) :
    Calls Tryz.prog 25 #[va, vb] w fun e w' => Below w.heap.size w w' ∧ RetL w' (A2 (fun a b => ((Int.gcd a b : Int), 0)) (numOf na la) (numOf nb lb)) e :=
  (Gcd_any w va vb na nb la lb ha hb).mono fun e w' ⟨h1, h2⟩ => ⟨h1, by rw [gcd_told] at h2; exact h2⟩
structure CP (W : World) (ba bb bg bh : Nat) (xg yg xh yh va vb : Value) (E F : Int) (n : Nat) (xa ya xb yb : Value) (w : World) : Prop where
  ne : ba ≠ bb ∧ ba ≠ bg ∧ ba ≠ bh ∧ bb ≠ bg ∧ bb ≠ bh ∧ W.heap.size ≤ ba ∧ W.heap.size ≤ bb
  a : LB w ba xa ya
  b : LB w bb xb yb
  g : LB w bg xg yg
  h : LB w bh xh yh
  e : LV w w.heap.size va E
  f : LV w w.heap.size vb F
  bl : Below W.heap.size W w
  sz : n ≤ w.heap.size
theorem CP.drew {W w : World} {ba bb bg bh : Nat} {xg yg xh yh va vb xa ya xb yb : Value} {E F : Int} {n : Nat} (h : CP W ba bb bg bh xg yg xh yh va vb E F n xa ya xb yb w) : CP W ba bb bg bh xg yg xh yh va vb E F n xa ya xb yb w.drew := by
  obtain ⟨h0, h1, h2, h3, h4, h5, h6, h7, h8⟩ := h
  exact ⟨h0, h1.drew, h2.drew, h3.drew, h4.drew, h5.drew1, h6.drew1, below_drew1 h7, h8⟩
theorem CP.putA {W w : World} {ba bb bg bh : Nat} {xg yg xh yh va vb xb yb : Value} {E F : Int} {n : Nat} {q q' : Bool} {A A' : Option Addr} {l c l' c' : Nat} (h : CP W ba bb bg bh xg yg xh yh va vb E F n (.bool q) (.slice A l c) xb yb w) : CP W ba bb bg bh xg yg xh yh va vb E F n (.bool q') (.slice A' l' c') xb yb ((w.setCell ⟨ba, 0, none⟩ (.bool q')).setCell ⟨ba, 1, none⟩ (.slice A' l' c')) := by
  obtain ⟨⟨a1, a2, a3, a4, a5, a6, a7⟩, h1, h2, h3, h4, h5, h6, h7, h8⟩ := h
  exact ⟨⟨a1, a2, a3, a4, a5, a6, a7⟩, (h1.set0 _).set1 _, lb_far (lb_far h2 a1.symm) a1.symm, lb_far (lb_far h3 a2.symm) a2.symm, lb_far (lb_far h4 a3.symm) a3.symm, h5.setLB h1 _ _ rfl rfl, h6.setLB h1 _ _ rfl rfl, below_set1 (below_set1 h7 a6 _ _) a6 _ _, by simpa [World.setCell] using h8⟩
theorem CP.putB {W w : World} {ba bb bg bh : Nat} {xg yg xh yh va vb xa ya : Value} {E F : Int} {n : Nat} {q q' : Bool} {A A' : Option Addr} {l c l' c' : Nat} (h : CP W ba bb bg bh xg yg xh yh va vb E F n xa ya (.bool q) (.slice A l c) w) : CP W ba bb bg bh xg yg xh yh va vb E F n xa ya (.bool q') (.slice A' l' c') ((w.setCell ⟨bb, 0, none⟩ (.bool q')).setCell ⟨bb, 1, none⟩ (.slice A' l' c')) := by
  obtain ⟨⟨a1, a2, a3, a4, a5, a6, a7⟩, h1, h2, h3, h4, h5, h6, h7, h8⟩ := h
  exact ⟨⟨a1, a2, a3, a4, a5, a6, a7⟩, lb_far (lb_far h1 a1) a1, (h2.set0 _).set1 _, lb_far (lb_far h3 a4.symm) a4.symm, lb_far (lb_far h4 a5.symm) a5.symm, h5.setLB h2 _ _ rfl rfl, h6.setLB h2 _ _ rfl rfl, below_set1 (below_set1 h7 a7 _ _) a7 _ _, by simpa [World.setCell] using h8⟩
theorem lv_lr {w : World} {B : Nat} {n : Bool} {A : Option Addr} {l c : Nat} {z : Int} (h : LV w B (.agg #[.bool n, .slice A l c]) z) : LR w B (.agg #[.bool n, .slice A l c]) n (ni (dig z.natAbs)) := by
  obtain ⟨s, e, hs⟩ := h
  injection e with e
  simp at e
  exact ⟨s, by rw [e.2], hs⟩
theorem soft_put {w : World} {b : Nat} {p q : Bool} {A A' : Option Addr} {n c n' c' : Nat} (h : LB w b (.bool p) (.slice A n c)) : Soft w ((w.setCell ⟨b, 0, none⟩ (.bool q)).setCell ⟨b, 1, none⟩ (.slice A' n' c')) := by
  have key : ∀ {w : World} {p : Bool} {A : Option Addr} {n c : Nat}, LB w b (.bool p) (.slice A n c) → ∀ a : Addr, a.block = b → ∀ k x, w.cell? a ≠ some (.int k x) := by
    intro w p A n c h a ha k x e
    unfold LB at h
    subst ha
    simp only [World.cell?, h] at e
    match ho : a.off with
    | 0 => simp [ho] at e
    | 1 => simp [ho] at e
    | j + 2 => simp [ho] at e
  exact (Soft.set (fun a ha => key h a ha)).trans (Soft.set (fun a ha => key (h.set0 (.bool q)) a ha))
theorem below_setB {B b : Nat} {W w : World} (h : Below B W w) (hb : B ≤ b) (k : Nat) (v : Value) : Below B W (w.setCell ⟨b, k, none⟩ v) := h.setCell (p := ⟨b, k, none⟩) hb v
theorem lb_put {w : World} {b : Nat} {x y u u' : Value} (h : LB w b x y) : LB ((w.setCell ⟨b, 0, none⟩ u).setCell ⟨b, 1, none⟩ u') b u u' := (h.set0 u).set1 u'

set_option maxRecDepth 100000 in
set_option maxHeartbeats 8000000 in
theorem LongCommon_any (w : World) (G : Glob w) (na : Bool) (sa : Value) (la : List Int) (nb : Bool) (sb : Value) (lb : List Int) (nx : Bool) (lx : Int) (sx : Value) (wx : List Nat) (ny : Bool) (ly : Int) (sy : Value) (wy : List Nat)
    (ha : RI w w.heap.size sa la) (hb : RI w w.heap.size sb lb) (hx0 : 0 ≤ lx) (hx1 : lx ≤ 255) (hx : RW w w.heap.size sx wx) (hy0 : 0 ≤ ly) (hy1 : ly ≤ 255) (hy : RW w w.heap.size sy wy) (nd : Bool) (ld : Int) (sd : Value) (wd : List Nat) (hd0 : 0 ≤ ld) (hd1 : ld ≤ 255) (hd : RW w w.heap.size sd wd) :
    Calls Tryz.prog 4 #[.agg #[.bool na, sa, .bool nb, sb, .bool nx, .int .u8 lx, sx, .bool ny, .int .u8 ly, sy], .agg #[.bool nd, .int .u8 ld, sd]] w fun e w' => Below w.heap.size w w' ∧ e = .returned (.bool true) := by
  obtain ⟨X0, hX⟩ : ∃ z, sgn nx (val (draftDs (lx.toNat % 8) 40 wx)) = z := ⟨_, rfl⟩
  obtain ⟨Y0, hY⟩ : ∃ z, sgn ny (val (draftDs (ly.toNat % 8) 40 wy)) = z := ⟨_, rfl⟩
  obtain ⟨V0, hV⟩ : ∃ z, sgn ny (val (draftDs 0 3 wy)) = z := ⟨_, rfl⟩
  obtain ⟨U0, hU⟩ : ∃ z, sgn nx (val (draftDs 0 3 wx)) = z := ⟨_, rfl⟩
  have hlX0 : Hid (Len 60 X0) := Lib.hid (by rw [← hX, Len]; exact Nat.le_trans (draft_fit (m := 47) (by omega)) (by omega))
  have hlY0 : Hid (Len 60 Y0) := Lib.hid (by rw [← hY, Len]; exact Nat.le_trans (draft_fit (m := 47) (by omega)) (by omega))
  have hlV0 : Hid (Len 60 V0) := Lib.hid (by rw [← hV, Len]; exact Nat.le_trans (draft_fit (m := 47) (by omega)) (by omega))
  have hlU0 : Hid (Len 60 U0) := Lib.hid (by rw [← hU, Len]; exact Nat.le_trans (draft_fit (m := 47) (by omega)) (by omega))
  obtain ⟨D0, hD⟩ : ∃ z, sgn nd (val (draftDs 0 3 wd)) = z := ⟨_, rfl⟩
  have hlD0 : Hid (Len 3 D0) := Lib.hid (by rw [← hD, Len]; exact draft_fit (by omega))
  replace hD := Lib.hid hD
  have HB0 := Lib.hid (((Below.refl w.heap.size w).alloc (Nat.le_refl _) (.cells #[.bool na, sa, .bool nb, sb, .bool nx, .int .u8 lx, sx, .bool ny, .int .u8 ly, sy] 29)).alloc (by simp) (.cells #[.bool nd, .int .u8 ld, sd] 27))
  have B1 := (CB.new w 29 #[.bool na, sa, .bool nb, sb, .bool nx, .int .u8 lx, sx, .bool ny, .int .u8 ly, sy]).alloc (.cells #[.bool nd, .int .u8 ld, sd] 27)
  have B2 : CB ((w.alloc (.cells #[.bool na, sa, .bool nb, sb, .bool nx, .int .u8 lx, sx, .bool ny, .int .u8 ly, sy] 29)).alloc (.cells #[.bool nd, .int .u8 ld, sd] 27)) (w.heap.size + 1) 27 #[.bool nd, .int .u8 ld, sd] := by have h := CB.new (w.alloc (.cells #[.bool na, sa, .bool nb, sb, .bool nx, .int .u8 lx, sx, .bool ny, .int .u8 ly, sy] 29)) 27 #[.bool nd, .int .u8 ld, sd]; simpa using h
  replace ha := Lib.hid (ha.step HB0.out)
  replace hb := Lib.hid (hb.step HB0.out)
  replace hx := Lib.hid (hx.step HB0.out)
  replace hy := Lib.hid (hy.step HB0.out)
  replace hd := Lib.hid (hd.step HB0.out)
  go_enter Tryz.func4, Tryz.ntmps4
  go_wp2_with fail
  refine (works_any _ (G.step HB0.out)).mono ?_
  rintro e w1 ⟨hb1, rfl⟩
  have HB1 := Lib.hid (HB0.out.trans (hb1.mono HB0.out.size))
  replace B1 := B1.step hb1
  replace B2 := B2.step hb1
  replace ha := Lib.hid (ha.out.step hb1)
  replace hb := Lib.hid (hb.out.step hb1)
  replace hx := Lib.hid (hx.out.step hb1)
  replace hy := Lib.hid (hy.out.step hb1)
  replace hd := Lib.hid (hd.out.step hb1)
  clear hb1 HB0
  have q0 := B1.cell 0 rfl
  have q1 := B1.cell 1 rfl
  have q2 := B1.cell 2 rfl
  have q3 := B1.cell 3 rfl
  have q4 := B1.cell 4 rfl
  have q5 := B1.cell 5 rfl
  have q6 := B1.cell 6 rfl
  have q7 := B1.cell 7 rfl
  have q8 := B1.cell 8 rfl
  have q9 := B1.cell 9 rfl
  go_wp2_with fail
  refine (pairs_any _ na nb nx ny sa sb sx sy la lb lx ly wx wy ha.out hb.out hx0 hx1 hx.out hy0 hy1 hy.out X0 Y0 V0 U0 hX hY hV hU).mono ?_
  rintro e w2 ⟨hb2, g, s0, s1, s2, s3, s4, s5, s6, s7, rfl, -, HP⟩
  have HB2 := Lib.hid (HB1.out.trans (hb2.mono HB1.out.size))
  replace HP := Lib.hid HP
  replace B2 := Lib.hid (B2.step hb2); replace hd := Lib.hid (hd.out.step hb2)
  clear q0 q1 q2 q3 q4 q5 q6 q7 q8 q9 hb2 HB1 B1 ha hb hx hy hX hY hV hU hx0 hx1 hy0 hy1
  go_wp2
  go_loopw [18] (fun i wr => ∃ k : Nat, k ≤ 4 ∧ i = .int .i64 k ∧ Hid (Below w.heap.size w wr) ∧ Hid (Pairs wr g na nb la lb X0 Y0 V0 U0 s0 s1 s2 s3 s4 s5 s6 s7) ∧ Hid (CB wr (w.heap.size + 1) 27 #[.bool nd, .int .u8 ld, sd]) ∧ Hid (RW wr wr.heap.size sd wd)) (fun i _ => 4 - (intOf i).toNat)
  case atStart => exact ⟨0, by omega, rfl, HB2, HP, B2, hd⟩
  case round =>
    clear HB2 HP B2 hd
    obtain ⟨k, hk, rfl, HBW, HP, B2, hd⟩ := hrel
    have G1 := Lib.hid (G.step HBW.out)
    by_cases hk2 : k = 4
    · subst hk2
      rw [show ((4 : Nat) : Int) = 4 from rfl]
      go_wp2
      go_ret
      exact ⟨HBW.out, rfl⟩
    obtain ⟨n1, l1, R1, c1, n2, l2, R2, c2, p0, p1, p2, p3, v1, v2, h60a, h60b⟩ := HP.out.any60 hlX0.out hlY0.out hlV0.out hlU0.out k (by omega)
    have H60a := Lib.hid h60a; have H60b := Lib.hid h60b; clear h60a h60b
    generalize hk1 : l1.length = k1 at *; generalize hk2' : l2.length = k2 at *
    have HK1 := Lib.hid hk1; have HK2 := Lib.hid hk2'; clear hk1 hk2'
    replace H60a := Lib.hid (show l1.length ≤ 60 by rw [HK1.out]; exact H60a.out); replace H60b := Lib.hid (show l2.length ≤ 60 by rw [HK2.out]; exact H60b.out)
    have hki : (k : Int) < 4 := by omega
    go_upto_region 6 with (fail)
    obtain ⟨wp, hwp⟩ : ∃ wp : World, wp = wr.alloc (.cells #[.bool n1, .slice R1 k1 c1, .bool n2, .slice R2 k2 c2] 33) := ⟨_, rfl⟩
    rw [← hwp]
    have hBp : Below wr.heap.size wr wp := by rw [hwp]; exact (Below.refl _ _).alloc (Nat.le_refl _) _
    have P0 : CB wp wr.heap.size 33 #[.bool n1, .slice R1 k1 c1, .bool n2, .slice R2 k2 c2] := by rw [hwp]; exact CB.new _ _ _
    have HA := Lib.hid (LR.step v1 hBp); have HB := Lib.hid (LR.step v2 hBp)
    have HBp := Lib.hid hBp; have zp : wr.heap.size + 1 ≤ wp.heap.size := (by rw [hwp]; simp)
    clear p0 p1 p2 p3 v1 v2 hBp hwp
    have B2p := CB.step B2.out HBp.out; have zb2 : w.heap.size + 2 ≤ wr.heap.size := (by have h1 := B2.out.lt; omega)
    have hdp := Lib.hid (RW.step hd.out HBp.out)
    have KS : ∀ w' : World, Below wp.heap.size wp w' → (Below wp.heap.size wp w' ∧ w'.cell? ⟨wr.heap.size, 0, none⟩ = some (.bool n1) ∧ w'.cell? ⟨wr.heap.size, 1, none⟩ = some (.slice R1 k1 c1) ∧ w'.cell? ⟨wr.heap.size, 2, none⟩ = some (.bool n2) ∧ w'.cell? ⟨wr.heap.size, 3, none⟩ = some (.slice R2 k2 c2)) := fun w' h => ⟨h, (P0.step h).cell 0 rfl, (P0.step h).cell 1 rfl, (P0.step h).cell 2 rfl, (P0.step h).cell 3 rfl⟩
    obtain ⟨-, p0, p1, p2, p3⟩ := KS wp (Below.refl _ _)
    go_cut [7, 8] (fun sa sb wx => ∃ (ba bb : Nat), sa = .pointer (some ⟨ba, 0, none⟩) ∧ sb = .pointer (some ⟨bb, 0, none⟩) ∧ LB wx ba (.bool n1) (.slice R1 k1 c1) ∧ LB wx bb (.bool n2) (.slice R2 k2 c2) ∧ Hid (ba ≠ bb) ∧ Hid (wr.heap.size + 1 ≤ ba) ∧ Hid (wr.heap.size + 1 ≤ bb) ∧ Hid (Below wp.heap.size wp wx))
    case first =>
      go_region_held3 (fun w' => Below wp.heap.size wp w' ∧ w'.cell? ⟨wr.heap.size, 0, none⟩ = some (.bool n1) ∧ w'.cell? ⟨wr.heap.size, 1, none⟩ = some (.slice R1 k1 c1) ∧ w'.cell? ⟨wr.heap.size, 2, none⟩ = some (.bool n2) ∧ w'.cell? ⟨wr.heap.size, 3, none⟩ = some (.slice R2 k2 c2)) (first
        | (refine KS _ ?_; (repeat (first | with_reducible exact Below.refl _ _ | with_reducible refine below_alloc1 ?_ _ | with_reducible refine below_set1 ?_ (by first | omega | simp) _ _ | with_reducible refine below_drew1 ?_)))
        | go_keep) (fail)
      all_goals
        go_wp2
        go_meet
        refine ⟨_, _, rfl, rfl, ?_, ?_, Lib.hid ?_, Lib.hid ?_, Lib.hid ?_, Lib.hid ?_⟩
        · (repeat (first | with_reducible exact LB.new' rfl | (with_reducible refine LB.new' ?_; simp; done) | with_reducible refine lb_put0 ?_ | with_reducible refine lb_far ?_ (by omega) | with_reducible refine LB.alloc ?_ _ | with_reducible refine LB.drew ?_))
        · (repeat (first | with_reducible exact LB.new' rfl | (with_reducible refine LB.new' ?_; simp; done) | with_reducible refine lb_put0 ?_ | with_reducible refine lb_far ?_ (by omega) | with_reducible refine LB.alloc ?_ _ | with_reducible refine LB.drew ?_))
        · omega
        · omega
        · omega
        · (repeat (first | with_reducible exact Below.refl _ _ | with_reducible refine below_alloc1 ?_ _ | with_reducible refine below_set1 ?_ (by first | omega | simp) _ _ | with_reducible refine below_drew1 ?_))
    case rest =>
      obtain ⟨ba, bb, rfl, rfl, La, Lb, nab, ga, gb, HBc⟩ := hcut
      have nab' := nab.out; have ga' := ga.out; have gb' := gb.out; have zc := HBc.out.size
      have lta' := La.lt; have ltb' := Lb.lt
      clear nab ga gb KS p0 p1 p2 p3
      have HBa := Lib.hid (HBp.out.trans (HBc.out.mono HBp.out.size))
      have q1_0 := La.cell0
      have q1_1 := La.cell1
      have q1_2 := La.frozen 0
      have q1_3 := La.frozen 1
      have q1_lt := La.lt
      have q2_0 := Lb.cell0
      have q2_1 := Lb.cell1
      have q2_2 := Lb.frozen 0
      have q2_3 := Lb.frozen 1
      have q2_lt := Lb.lt
      obtain ⟨⟨zg, zge⟩, hrzg⟩ : ∃ r : Int × Int, r = A2 (fun a b => ((Int.gcd a b : Int), 0)) (numOf n1 l1) (numOf n2 l2) := ⟨_, rfl⟩
      have HRzg := Lib.hid hrzg; clear hrzg
      go_wp2_with fail
      have Hpa_5 := Lib.hid (LR.step HA.out HBc.out)
      have Hpb_6 := Lib.hid (LR.step HB.out HBc.out)
      refine (Gcd_any2 _ _ _ _ _ _ _ Hpa_5.out Hpb_6.out).mono ?_
      rintro e w4 ⟨hb4, hret3⟩
      have B7 := Lib.hid hb4
      have z7 := B7.out.size
      have HB8 := Lib.hid (HBa.out.trans (B7.out.mono HBa.out.size))
      clear hb4
      clear q1_0 q1_1 q1_2 q1_3 q1_lt q2_0 q2_1 q2_2 q2_3 q2_lt
      rw [← HRzg.out] at hret3; obtain ⟨v3, rfl, hv3⟩ := hret3; replace hv3 : LV w4 w4.heap.size v3 zg := hv3
      obtain ⟨n9, Ad9, l9, c9, rfl, hv9⟩ := hv3.opened
      have Hg_9 := Lib.hid hv9
      clear hv3 hv9
      have La_10 := LB.step La B7.out
      have q11_0 := La_10.cell0
      have q11_1 := La_10.cell1
      have q11_2 := La_10.frozen 0
      have q11_3 := La_10.frozen 1
      have q11_lt := La_10.lt
      have Lb_12 := LB.step Lb B7.out
      have q13_0 := Lb_12.cell0
      have q13_1 := Lb_12.cell1
      have q13_2 := Lb_12.frozen 0
      have q13_3 := Lb_12.frozen 1
      have q13_lt := Lb_12.lt
      go_wp2_with fail
      obtain ⟨w14, hW14⟩ : ∃ w14 : World, w14 = (w4.alloc (.cells #[.bool n9, .slice Ad9 l9 c9] 24)) := ⟨_, rfl⟩
      rw [← hW14]
      have hb14 : Below w4.heap.size w4 w14 := by rw [hW14]; (repeat' (first | exact Below.refl _ _ | refine Below.drew ?_ | refine Below.alloc ?_ (by first | exact Nat.le_refl _ | (simp; done) | (simp; omega)) _))
      have Lg_14 : LB w14 (w4.heap.size) (.bool n9) (.slice Ad9 l9 c9) := by rw [hW14]; (repeat (first | (refine LB.new' ?_; simp; done) | refine LB.alloc ?_ _))
      have za14 : w4.heap.size + 1 ≤ w14.heap.size := by rw [hW14]; simp
      have B15 := Lib.hid hb14
      have z15 := B15.out.size
      have HB16 := Lib.hid (HB8.out.trans (B15.out.mono HB8.out.size))
      clear hb14 hW14
      clear q11_0 q11_1 q11_2 q11_3 q11_lt q13_0 q13_1 q13_2 q13_3 q13_lt
      have P2_4_19 := Lib.hid (B7.out.trans (B15.out.mono B7.out.size))
      have Hpa_20 := Lib.hid (LR.step Hpa_5.out P2_4_19.out)
      have Hpb_21 := Lib.hid (LR.step Hpb_6.out P2_4_19.out)
      refine (RGcd_any _ _ _ _ _ _ _ Hpa_20.out Hpb_21.out).mono ?_
      rintro e w18 ⟨hb18, hret17⟩
      have B22 := Lib.hid hb18
      have z22 := B22.out.size
      have HB23 := Lib.hid (HB16.out.trans (B22.out.mono HB16.out.size))
      clear hb18
      rw [← HRzg.out] at hret17; obtain ⟨v17, rfl, hv17⟩ := hret17; replace hv17 : LV w18 w18.heap.size v17 zg := hv17
      obtain ⟨n24, Ad24, l24, c24, rfl, hv24⟩ := hv17.opened
      have Hg2_24 := Lib.hid hv24
      clear hv17 hv24
      have Lg_25 := LB.step Lg_14 B22.out
      have q26_0 := Lg_25.cell0
      have q26_1 := Lg_25.cell1
      have q26_2 := Lg_25.frozen 0
      have q26_3 := Lg_25.frozen 1
      have q26_lt := Lg_25.lt
      go_wp2_with fail
      obtain ⟨w27, hW27⟩ : ∃ w27 : World, w27 = (w18.alloc (.cells #[.bool n24, .slice Ad24 l24 c24] 24)) := ⟨_, rfl⟩
      rw [← hW27]
      have hb27 : Below w18.heap.size w18 w27 := by rw [hW27]; (repeat' (first | exact Below.refl _ _ | refine Below.drew ?_ | refine Below.alloc ?_ (by first | exact Nat.le_refl _ | (simp; done) | (simp; omega)) _))
      have Lg2_27 : LB w27 (w18.heap.size) (.bool n24) (.slice Ad24 l24 c24) := by rw [hW27]; (repeat (first | (refine LB.new' ?_; simp; done) | refine LB.alloc ?_ _))
      have za27 : w18.heap.size + 1 ≤ w27.heap.size := by rw [hW27]; simp
      have B28 := Lib.hid hb27
      have z28 := B28.out.size
      have HB29 := Lib.hid (HB23.out.trans (B28.out.mono HB23.out.size))
      clear hb27 hW27
      clear q26_0 q26_1 q26_2 q26_3 q26_lt
      have P3_5_31 := Lib.hid (B15.out.trans (B22.out.mono B15.out.size))
      have P3_6_32 := Lib.hid (P3_5_31.out.trans (B28.out.mono P3_5_31.out.size))
      have Hg_33 := Lib.hid (LV.step Hg_9.out P3_6_32.out)
      have Hg2_34 := Lib.hid (LV.step Hg2_24.out B28.out)
      refine (alike_yes _ _ _ zg zge Hg_33.out Hg2_34.out).mono ?_
      rintro e w30 ⟨hb30, rfl⟩
      have B35 := Lib.hid hb30
      have z35 := B35.out.size
      have HB36 := Lib.hid (HB29.out.trans (B35.out.mono HB29.out.size))
      clear hb30
      by_cases hv : Valid n1 l1 ∧ Valid n2 l2
      have P4_6_37 := Lib.hid (B22.out.trans (B28.out.mono B22.out.size))
      have P4_7_38 := Lib.hid (P4_6_37.out.trans (B35.out.mono P4_6_37.out.size))
      have Hpa_39 := Lib.hid (LR.step Hpa_20.out P4_7_38.out)
      · obtain ⟨x, hx1, hx2, hx3⟩ := LR.num Hpa_39.out hv.1
        have Hpb_40 := Lib.hid (LR.step Hpb_21.out P4_7_38.out)
        obtain ⟨y, hy1, hy2, hy3⟩ := LR.num Hpb_40.out hv.2
        have hze := HRzg.out; rw [hx1, hy1] at hze; have hze : zge = 0 := congrArg Prod.snd hze
        have HXL : Hid (Len 60 x) := Lib.hid (by have h1 := numOf_valid hv.1; obtain ⟨x', e1, e2, e3, e4⟩ := h1; rw [hx1] at e1; injection e1 with e1; subst e1; rw [Len, ← ni_len, ← e3]; exact H60a.out)
        have HYL : Hid (Len 60 y) := Lib.hid (by have h1 := numOf_valid hv.2; obtain ⟨x', e1, e2, e3, e4⟩ := h1; rw [hy1] at e1; injection e1 with e1; subst e1; rw [Len, ← ni_len, ← e3]; exact H60b.out)
        have HX := Lib.hid hx2; have HY := Lib.hid hy2
        obtain rfl : zge = 0 := hze
        clear hx1 hx2 hx3 hy1 hy2 hy3 hv HRzg
        obtain ⟨E, hE⟩ : ∃ E, E = x * D0 := ⟨_, rfl⟩
        obtain ⟨F, hF⟩ : ∃ F, F = y * D0 := ⟨_, rfl⟩
        have HEL : Hid (Len 63 E) := Lib.hid (by rw [hE]; exact HXL.out.mul hlD0.out)
        have HFL : Hid (Len 63 F) := Lib.hid (by rw [hF]; exact HYL.out.mul hlD0.out)
        have HE := Lib.hid hE.symm; have HF := Lib.hid hF.symm; clear hE hF
        have P3_7_41 := Lib.hid (P3_6_32.out.trans (B35.out.mono P3_6_32.out.size))
        have La_42 := LB.step La_10 P3_7_41.out
        have q43_0 := La_42.cell0
        have q43_1 := La_42.cell1
        have q43_2 := La_42.frozen 0
        have q43_3 := La_42.frozen 1
        have q43_lt := La_42.lt
        have Lb_44 := LB.step Lb_12 P3_7_41.out
        have q45_0 := Lb_44.cell0
        have q45_1 := Lb_44.cell1
        have q45_2 := Lb_44.frozen 0
        have q45_3 := Lb_44.frozen 1
        have q45_lt := Lb_44.lt
        have P1_3_47 := Lib.hid (HBc.out.trans (B7.out.mono HBc.out.size))
        have P1_4_48 := Lib.hid (P1_3_47.out.trans (B15.out.mono P1_3_47.out.size))
        have P1_5_49 := Lib.hid (P1_4_48.out.trans (B22.out.mono P1_4_48.out.size))
        have P1_6_50 := Lib.hid (P1_5_49.out.trans (B28.out.mono P1_5_49.out.size))
        have P1_7_51 := Lib.hid (P1_6_50.out.trans (B35.out.mono P1_6_50.out.size))
        have Ldraft_46 := CB.step B2p P1_7_51.out
        have q52_0 := Ldraft_46.cell 0 rfl
        have q52_1 := Ldraft_46.cell 1 rfl
        have q52_2 := Ldraft_46.cell 2 rfl
        have q52_lt := Ldraft_46.lt
        have P5_7_53 := Lib.hid (B28.out.trans (B35.out.mono B28.out.size))
        have Lg_54 := LB.step Lg_25 P5_7_53.out
        have q55_0 := Lg_54.cell0
        have q55_1 := Lg_54.cell1
        have q55_2 := Lg_54.frozen 0
        have q55_3 := Lg_54.frozen 1
        have q55_lt := Lg_54.lt
        have Lg2_56 := LB.step Lg2_27 B35.out
        have q57_0 := Lg2_56.cell0
        have q57_1 := Lg2_56.cell1
        have q57_2 := Lg2_56.frozen 0
        have q57_3 := Lg2_56.frozen 1
        have q57_lt := Lg2_56.lt
        go_upto_region 12 with (fail)
        have Hsd_58 := Lib.hid (RW.step hdp.out P1_7_51.out)
        have La0 := La_42
        have Lb0 := Lb_44
        have Lg0 := Lg_54
        have Lg20 := Lg2_56
        have HX0 := Lib.hid (HX.out); have HY0 := Lib.hid (HY.out); have HSD0 := Lib.hid (Hsd_58.out); have HBB := Lib.hid (HB36.out)
        have zw : wr.heap.size + 1 ≤ w30.heap.size := HBB.out.size |> fun h => by have := La0.lt; omega
        have lta := La0.lt
        have ltb := Lb0.lt
        have gne1 : ba ≠ w4.heap.size := Nat.ne_of_lt (by omega); have gne2 : bb ≠ w4.heap.size := Nat.ne_of_lt (by omega); have gne3 : ba ≠ w18.heap.size := Nat.ne_of_lt (by omega); have gne4 : bb ≠ w18.heap.size := Nat.ne_of_lt (by omega)
        have gne5 := Lib.hid (show w4.heap.size ≠ w18.heap.size from Nat.ne_of_lt (by have h1 := Lg0.lt; have h2 := Lg20.lt; omega)); have gge1 := Lib.hid (show wr.heap.size ≤ w4.heap.size by omega); have gge2 := Lib.hid (show wr.heap.size ≤ w18.heap.size by omega)
        have CPN0 : ba ≠ bb ∧ ba ≠ w4.heap.size ∧ ba ≠ w18.heap.size ∧ bb ≠ w4.heap.size ∧ bb ≠ w18.heap.size ∧ wr.heap.size ≤ ba ∧ wr.heap.size ≤ bb := ⟨nab', gne1, gne3, gne2, gne4, Nat.le_of_succ_le ga', Nat.le_of_succ_le gb'⟩
        have CPN := Lib.hid CPN0; clear CPN0 gne1 gne2 gne3 gne4
        obtain ⟨RR, hRR⟩ : ∃ R : World → Prop, ∀ wx, R wx = ∃ (na3 : Bool) (Aa3 : Option Addr) (la3 ca3 : Nat) (nb3 : Bool) (Ab3 : Option Addr) (lb3 cb3 : Nat), Hid (CP wr ba bb (w4.heap.size) (w18.heap.size) (.bool n9) (.slice Ad9 l9 c9) (.bool n24) (.slice Ad24 l24 c24) (.agg #[.bool na3, .slice Aa3 la3 ca3]) (.agg #[.bool nb3, .slice Ab3 lb3 cb3]) E F w30.heap.size (.bool na3) (.slice Aa3 la3 ca3) (.bool nb3) (.slice Ab3 lb3 cb3) wx) := ⟨_, fun _ => rfl⟩
        replace hRR := Lib.hid hRR
        go_cut [53] (fun s53 wx => Hid (RR wx))
        case first =>
          have KS2 : ∀ w' : World, Below w30.heap.size w30 w' → (Below w30.heap.size w30 w' ∧ w'.cell? ⟨w.heap.size + 1, 0, none⟩ = some (.bool nd) ∧ w'.cell? ⟨w.heap.size + 1, 1, none⟩ = some (.int .u8 ld) ∧ w'.cell? ⟨w.heap.size + 1, 2, none⟩ = some (sd) ∧ w'.cell? ⟨ba, 0, none⟩ = some (.bool n1) ∧ w'.cell? ⟨ba, 1, none⟩ = some (.slice R1 k1 c1) ∧ w'.cell? ⟨bb, 0, none⟩ = some (.bool n2) ∧ w'.cell? ⟨bb, 1, none⟩ = some (.slice R2 k2 c2)) := fun w' h => ⟨h, (CB.step Ldraft_46 h).cell 0 rfl, (CB.step Ldraft_46 h).cell 1 rfl, (CB.step Ldraft_46 h).cell 2 rfl, (LB.step La0 h).cell0, (LB.step La0 h).cell1, (LB.step Lb0 h).cell0, (LB.step Lb0 h).cell1⟩
          refine Early.start 8 (fun w' => Below w30.heap.size w30 w' ∧ w'.cell? ⟨w.heap.size + 1, 0, none⟩ = some (.bool nd) ∧ w'.cell? ⟨w.heap.size + 1, 1, none⟩ = some (.int .u8 ld) ∧ w'.cell? ⟨w.heap.size + 1, 2, none⟩ = some (sd) ∧ w'.cell? ⟨ba, 0, none⟩ = some (.bool n1) ∧ w'.cell? ⟨ba, 1, none⟩ = some (.slice R1 k1 c1) ∧ w'.cell? ⟨bb, 0, none⟩ = some (.bool n2) ∧ w'.cell? ⟨bb, 1, none⟩ = some (.slice R2 k2 c2)) (by kernel_rfl) ?_
          refine Early.take (i := 0) (.agg #[.bool n1, .slice R1 k1 c1]) rfl (by kernel_rfl) (by kernel_rfl) (by kernel_rfl) (by kernel_rfl) (by kernel_rfl) (fun _ _ _ h => h) (Or.inl ⟨by rfl, ?_⟩) ?_ ?_
          · intro w' hSw; obtain ⟨-, t0, t1, t2, t3, t4, t5, t6⟩ := hSw; go_simp
          · exact KS2 _ (below_drew1 (Below.refl _ _))
          simp only [Act.put, List.setIfInBounds_toArray, List.set_cons_zero, List.set_cons_succ]
          refine Early.take (i := 1) (.agg #[.bool nd, .int .u8 ld, sd]) rfl (by kernel_rfl) (by kernel_rfl) (by kernel_rfl) (by kernel_rfl) (by kernel_rfl) (fun _ _ _ h => h) (Or.inl ⟨by rfl, ?_⟩) ?_ ?_
          · intro w' hSw; obtain ⟨-, t0, t1, t2, t3, t4, t5, t6⟩ := hSw; go_simp
          · exact KS2 _ (below_drew1 (Below.refl _ _))
          simp only [Act.put, List.setIfInBounds_toArray, List.set_cons_zero, List.set_cons_succ]
          refine Early.take (i := 4) (.agg #[.bool n2, .slice R2 k2 c2]) rfl (by kernel_rfl) (by kernel_rfl) (by kernel_rfl) (by kernel_rfl) (by kernel_rfl) (fun _ _ _ h => h) (Or.inl ⟨by rfl, ?_⟩) ?_ ?_
          · intro w' hSw; obtain ⟨-, t0, t1, t2, t3, t4, t5, t6⟩ := hSw; go_simp
          · exact KS2 _ (below_drew1 (Below.refl _ _))
          simp only [Act.put, List.setIfInBounds_toArray, List.set_cons_zero, List.set_cons_succ]
          refine Early.take (i := 5) (.agg #[.bool nd, .int .u8 ld, sd]) rfl (by kernel_rfl) (by kernel_rfl) (by kernel_rfl) (by kernel_rfl) (by kernel_rfl) (fun _ _ _ h => h) (Or.inl ⟨by rfl, ?_⟩) ?_ ?_
          · intro w' hSw; obtain ⟨-, t0, t1, t2, t3, t4, t5, t6⟩ := hSw; go_simp
          · exact KS2 _ (below_drew1 (Below.refl _ _))
          simp only [Act.put, List.setIfInBounds_toArray, List.set_cons_zero, List.set_cons_succ]
          refine Early.next (i := 2) (by kernel_rfl) rfl (fun K hK => ?_)
          go_simp
          (with_reducible refine (Short_any _ nd ld _ wd hd0 hd1 (by repeat (first | with_reducible exact HSD0.out | with_reducible refine RW.drew1 ?_))).mono ?_)
          rintro e u1 ⟨hb1, v1, rfl, hv1⟩
          rw [hD.out] at hv1
          obtain ⟨n11, A11, l11, c11, rfl, hv1⟩ := hv1.opened
          have HS1 := Lib.hid hv1
          have KU1 := Lib.hid (show Below w30.heap.size w30 u1 from by first | exact hb1 | exact below_undrew hb1 | exact below_undrew (below_undrew hb1))
          have KV1 := Lib.hid (show Below w30.heap.size w30 u1 from KU1.out)
          have La1 := LB.step La0 KU1.out; have Lb1 := LB.step Lb0 KU1.out
          have ya10 := La1.cell0; have ya11 := La1.cell1; have yb10 := Lb1.cell0; have yb11 := Lb1.cell1
          have HX1 := Lib.hid (LV.step HX0.out KU1.out)
          have HY1 := Lib.hid (LV.step HY0.out KU1.out)
          have HSD1 := Lib.hid (RW.step HSD0.out KU1.out)
          clear hb1 hv1
          refine hK _ _ (fun _ => KS2 _ KV1.out) ?_
          clear hK K
          (try simp only [Act.put, List.setIfInBounds_toArray, List.set_cons_zero, List.set_cons_succ])
          refine Early.next (i := 3) (by kernel_rfl) rfl (fun K hK => ?_)
          go_simp
          (with_reducible refine (RProd_any _ _ _ x D0 (by repeat (first | with_reducible exact HX1.out | with_reducible refine LV.drew1 ?_)) (by repeat (first | with_reducible exact HS1.out | with_reducible refine LV.drew1 ?_)) (by have := HXL.out; unfold Len at this; omega) (by have := hlD0.out; unfold Len at this; omega)).mono ?_)
          rintro e u2 ⟨hb2, v2, rfl, hv2⟩
          rw [HE.out] at hv2
          obtain ⟨n12, A12, l12, c12, rfl, hv2⟩ := hv2.opened
          have HE2 := Lib.hid hv2
          have KU2 := Lib.hid (show Below u1.heap.size u1 u2 from by first | exact hb2 | exact below_undrew hb2 | exact below_undrew (below_undrew hb2))
          have KV2 := Lib.hid (show Below w30.heap.size w30 u2 from KV1.out.trans (KU2.out.mono KV1.out.size))
          have La2 := LB.step La1 KU2.out; have Lb2 := LB.step Lb1 KU2.out
          have ya20 := La2.cell0; have ya21 := La2.cell1; have yb20 := Lb2.cell0; have yb21 := Lb2.cell1
          have HY2 := Lib.hid (LV.step HY1.out KU2.out)
          have HSD2 := Lib.hid (RW.step HSD1.out KU2.out)
          clear hb2 hv2
          refine hK _ _ (fun _ => KS2 _ KV2.out) ?_
          clear hK K
          (try simp only [Act.put, List.setIfInBounds_toArray, List.set_cons_zero, List.set_cons_succ])
          refine Early.next (i := 6) (by kernel_rfl) rfl (fun K hK => ?_)
          go_simp
          (with_reducible refine (Short_any _ nd ld _ wd hd0 hd1 (by repeat (first | with_reducible exact HSD2.out | with_reducible refine RW.drew1 ?_))).mono ?_)
          rintro e u3 ⟨hb3, v3, rfl, hv3⟩
          rw [hD.out] at hv3
          obtain ⟨n13, A13, l13, c13, rfl, hv3⟩ := hv3.opened
          have HS3 := Lib.hid hv3
          have KU3 := Lib.hid (show Below u2.heap.size u2 u3 from by first | exact hb3 | exact below_undrew hb3 | exact below_undrew (below_undrew hb3))
          have KV3 := Lib.hid (show Below w30.heap.size w30 u3 from KV2.out.trans (KU3.out.mono KV2.out.size))
          have La3 := LB.step La2 KU3.out; have Lb3 := LB.step Lb2 KU3.out
          have ya30 := La3.cell0; have ya31 := La3.cell1; have yb30 := Lb3.cell0; have yb31 := Lb3.cell1
          have HY3 := Lib.hid (LV.step HY2.out KU3.out)
          have HE3 := Lib.hid (LV.step HE2.out KU3.out)
          clear hb3 hv3
          refine hK _ _ (fun _ => KS2 _ KV3.out) ?_
          clear hK K
          (try simp only [Act.put, List.setIfInBounds_toArray, List.set_cons_zero, List.set_cons_succ])
          refine Early.next (i := 7) (by kernel_rfl) rfl (fun K hK => ?_)
          go_simp
          (with_reducible refine (RProd_any _ _ _ y D0 (by repeat (first | with_reducible exact HY3.out | with_reducible refine LV.drew1 ?_)) (by repeat (first | with_reducible exact HS3.out | with_reducible refine LV.drew1 ?_)) (by have := HYL.out; unfold Len at this; omega) (by have := hlD0.out; unfold Len at this; omega)).mono ?_)
          rintro e u4 ⟨hb4, v4, rfl, hv4⟩
          rw [HF.out] at hv4
          obtain ⟨n14, A14, l14, c14, rfl, hv4⟩ := hv4.opened
          have HF4 := Lib.hid hv4
          have KU4 := Lib.hid (show Below u3.heap.size u3 u4 from by first | exact hb4 | exact below_undrew hb4 | exact below_undrew (below_undrew hb4))
          have KV4 := Lib.hid (show Below w30.heap.size w30 u4 from KV3.out.trans (KU4.out.mono KV3.out.size))
          have La4 := LB.step La3 KU4.out; have Lb4 := LB.step Lb3 KU4.out
          have ya40 := La4.cell0; have ya41 := La4.cell1; have yb40 := Lb4.cell0; have yb41 := Lb4.cell1
          have HE4 := Lib.hid (LV.step HE3.out KU4.out)
          have fa0 := La4.frozen 0; have fa1 := La4.frozen 1; have fb0 := Lb4.frozen 0; have fb1 := Lb4.frozen 1; have la4 := La4.lt; have lb4 := Lb4.lt
          clear hb4 hv4
          refine hK _ _ (fun _ => KS2 _ KV4.out) ?_
          clear hK K
          (try simp only [Act.put, List.setIfInBounds_toArray, List.set_cons_zero, List.set_cons_succ])
          refine Early.next (i := 8) (by kernel_rfl) rfl (fun K hK => ?_)
          go_simp
          refine hK _ _ (fun h => absurd h (by decide)) ?_
          clear hK K
          (try simp only [Act.put, List.setIfInBounds_toArray, List.set_cons_zero, List.set_cons_succ])
          refine Early.next (i := 9) (by kernel_rfl) rfl (fun K hK => ?_)
          go_simp
          refine hK _ _ (fun h => absurd h (by decide)) ?_
          clear hK K
          (try simp only [Act.put, List.setIfInBounds_toArray, List.set_cons_zero, List.set_cons_succ])
          refine Early.done (by kernel_rfl) ?_ _
          have CP0 : CP wr ba bb (w4.heap.size) (w18.heap.size) (.bool n9) (.slice Ad9 l9 c9) (.bool n24) (.slice Ad24 l24 c24) (.agg #[.bool n12, .slice A12 l12 c12]) (.agg #[.bool n14, .slice A14 l14 c14]) E F w30.heap.size (.bool n1) (.slice R1 k1 c1) (.bool n2) (.slice R2 k2 c2) u4 := ⟨CPN.out, La4, Lb4, LB.step Lg0 KV4.out, LB.step Lg20 KV4.out, HE4.out, HF4.out, HBB.out.trans (KV4.out.mono HBB.out.size), KV4.out.size⟩
          clear La1 La2 La3 Lb1 Lb2 Lb3 ya10 ya11 ya20 ya21 ya30 ya31 yb10 yb11 yb20 yb21 yb30 yb31
          go_wp2
          go_meet
          have CP1 := CP.putB (q' := n14) (A' := A14) (l' := l14) (c' := c14) (CP.putA (q' := n12) (A' := A12) (l' := l12) (c' := c12) CP0)
          have hex := Lib.hid CP1; have hex2 := (hRR.out _).mpr ⟨_, _, _, _, _, _, _, _, hex⟩; exact Lib.hid hex2
        case rest =>
          obtain ⟨na3, Aa3, la3, ca3, nb3, Ab3, lb3, cb3, hcp3⟩ := (hRR.out _).mp hcut.out
          obtain ⟨hne3, Ma, Mb, Mg, Mg2, HE3, HF3, HB3, HZ3⟩ := hcp3.out; clear hcp3
          clear hRR hcut
          replace HE3 := Lib.hid HE3; replace HF3 := Lib.hid HF3; replace HB3 := Lib.hid HB3; replace HZ3 := Lib.hid HZ3
          have z3 := HZ3.out; have ze := HB3.out.size
          obtain ⟨ne1, ne2, ne3, ne4, ne5, -, -⟩ := hne3; have ne1 := Lib.hid ne1; have ne2 := Lib.hid ne2; have ne3 := Lib.hid ne3; have ne4 := Lib.hid ne4; have ne5 := Lib.hid ne5
          have HEr := Lib.hid (lv_lr HE3.out); have HFr := Lib.hid (lv_lr HF3.out)
          obtain ⟨⟨zh, zhe⟩, hrh⟩ : ∃ r : Int × Int, r = A2 (fun a b => ((Int.gcd a b : Int), 0)) (numOf na3 (ni (dig E.natAbs))) (numOf nb3 (ni (dig F.natAbs))) := ⟨_, rfl⟩; have HRh := Lib.hid hrh; clear hrh
          have q61_0 := Ma.cell0
          have q61_1 := Ma.cell1
          have q61_2 := Ma.frozen 0
          have q61_3 := Ma.frozen 1
          have q61_lt := Ma.lt
          have q62_0 := Mb.cell0
          have q62_1 := Mb.cell1
          have q62_2 := Mb.frozen 0
          have q62_3 := Mb.frozen 1
          have q62_lt := Mb.lt
          go_wp2_with fail
          refine (Gcd_any2 _ _ _ _ _ _ _ HEr.out HFr.out).mono ?_
          rintro e w60 ⟨hb60, hret59⟩
          have B63 := Lib.hid hb60
          have z63 := B63.out.size
          have HB64 := Lib.hid (HB3.out.trans (B63.out.mono HB3.out.size))
          clear hb60
          clear q43_0 q43_1 q43_2 q43_3 q43_lt q45_0 q45_1 q45_2 q45_3 q45_lt q52_0 q52_1 q52_2 q52_lt q55_0 q55_1 q55_2 q55_3 q55_lt q57_0 q57_1 q57_2 q57_3 q57_lt q61_0 q61_1 q61_2 q61_3 q61_lt q62_0 q62_1 q62_2 q62_3 q62_lt
          rw [← HRh.out] at hret59; obtain ⟨v59, rfl, hv59⟩ := hret59; replace hv59 : LV w60 w60.heap.size v59 zh := hv59
          obtain ⟨n65, Ad65, l65, c65, rfl, hv65⟩ := hv59.opened
          have Hng_65 := Lib.hid hv65
          clear hv59 hv65
          have Lg_66 := LB.step Mg B63.out
          have q67_0 := Lg_66.cell0
          have q67_1 := Lg_66.cell1
          have q67_2 := Lg_66.frozen 0
          have q67_3 := Lg_66.frozen 1
          have q67_lt := Lg_66.lt
          go_upto_region 14 with (fail)
          clear q67_0 q67_1 q67_2 q67_3 q67_lt
          have La_68 := LB.step Ma B63.out
          have Lb_69 := LB.step Mb B63.out
          have Lg2_70 := LB.step Mg2 B63.out
          obtain ⟨w71, hW71⟩ : ∃ w71 : World, w71 = (w60.setCell ⟨w4.heap.size, 0, none⟩ (.bool n65)).setCell ⟨w4.heap.size, 1, none⟩ (.slice Ad65 l65 c65) := ⟨_, rfl⟩
          rw [← hW71]
          have S71 := Lib.hid (show Soft w60 w71 by rw [hW71]; exact soft_put Lg_66)
          have La_71 : LB w71 (ba) (.bool na3) (.slice Aa3 la3 ca3) := by rw [hW71]; exact lb_far (lb_far La_68 ne2.out) ne2.out
          have Lb_71 : LB w71 (bb) (.bool nb3) (.slice Ab3 lb3 cb3) := by rw [hW71]; exact lb_far (lb_far Lb_69 ne4.out) ne4.out
          have Lg2_71 : LB w71 (w18.heap.size) (.bool n24) (.slice Ad24 l24 c24) := by rw [hW71]; exact lb_far (lb_far Lg2_70 gne5.out.symm) gne5.out.symm
          have Lg_71 : LB w71 (w4.heap.size) (.bool n65) (.slice Ad65 l65 c65) := by rw [hW71]; exact (Lg_66.set0 _).set1 _
          have HBP71 := Lib.hid (show Below wr.heap.size wr w71 by rw [hW71]; exact below_set1 (below_set1 HB64.out gge1.out _ _) gge1.out _ _)
          clear hW71
          have q74_0 := La_71.cell0
          have q74_1 := La_71.cell1
          have q74_2 := La_71.frozen 0
          have q74_3 := La_71.frozen 1
          have q74_lt := La_71.lt
          have q75_0 := Lb_71.cell0
          have q75_1 := Lb_71.cell1
          have q75_2 := Lb_71.frozen 0
          have q75_3 := Lb_71.frozen 1
          have q75_lt := Lb_71.lt
          go_wp2_with fail
          have HE_76 := Lib.hid (LR.soft HEr.out ((Soft.of B63.out).trans (S71.out)))
          have HF_77 := Lib.hid (LR.soft HFr.out ((Soft.of B63.out).trans (S71.out)))
          refine (RGcd_any _ _ _ _ _ _ _ HE_76.out HF_77.out).mono ?_
          rintro e w73 ⟨hb73, hret72⟩
          have B78 := Lib.hid hb73
          have z78 := B78.out.size
          have HB79 := Lib.hid (HBP71.out.trans (B78.out.mono HBP71.out.size))
          clear hb73
          clear q74_0 q74_1 q74_2 q74_3 q74_lt q75_0 q75_1 q75_2 q75_3 q75_lt
          rw [← HRh.out] at hret72; obtain ⟨v72, rfl, hv72⟩ := hret72; replace hv72 : LV w73 w73.heap.size v72 zh := hv72
          obtain ⟨n80, Ad80, l80, c80, rfl, hv80⟩ := hv72.opened
          have Hng2_80 := Lib.hid hv80
          clear hv72 hv80
          have Lg2_81 := LB.step Lg2_71 B78.out
          have q82_0 := Lg2_81.cell0
          have q82_1 := Lg2_81.cell1
          have q82_2 := Lg2_81.frozen 0
          have q82_3 := Lg2_81.frozen 1
          have q82_lt := Lg2_81.lt
          go_upto_region 15 with (fail)
          clear q82_0 q82_1 q82_2 q82_3 q82_lt
          have La_83 := LB.step La_71 B78.out
          have Lb_84 := LB.step Lb_71 B78.out
          have Lg_85 := LB.step Lg_71 B78.out
          obtain ⟨w86, hW86⟩ : ∃ w86 : World, w86 = (w73.setCell ⟨w18.heap.size, 0, none⟩ (.bool n80)).setCell ⟨w18.heap.size, 1, none⟩ (.slice Ad80 l80 c80) := ⟨_, rfl⟩
          rw [← hW86]
          have S86 := Lib.hid (show Soft w73 w86 by rw [hW86]; exact soft_put Lg2_81)
          have La_86 : LB w86 (ba) (.bool na3) (.slice Aa3 la3 ca3) := by rw [hW86]; exact lb_far (lb_far La_83 ne3.out) ne3.out
          have Lb_86 : LB w86 (bb) (.bool nb3) (.slice Ab3 lb3 cb3) := by rw [hW86]; exact lb_far (lb_far Lb_84 ne5.out) ne5.out
          have Lg_86 : LB w86 (w4.heap.size) (.bool n65) (.slice Ad65 l65 c65) := by rw [hW86]; exact lb_far (lb_far Lg_85 gne5.out) gne5.out
          have Lg2_86 : LB w86 (w18.heap.size) (.bool n80) (.slice Ad80 l80 c80) := by rw [hW86]; exact (Lg2_81.set0 _).set1 _
          have HBP86 := Lib.hid (show Below wr.heap.size wr w86 by rw [hW86]; exact below_set1 (below_set1 HB79.out gge2.out _ _) gge2.out _ _)
          clear hW86
          have q88_0 := Lg_86.cell0
          have q88_1 := Lg_86.cell1
          have q88_2 := Lg_86.frozen 0
          have q88_3 := Lg_86.frozen 1
          have q88_lt := Lg_86.lt
          have q89_0 := Lg2_86.cell0
          have q89_1 := Lg2_86.cell1
          have q89_2 := Lg2_86.frozen 0
          have q89_3 := Lg2_86.frozen 1
          have q89_lt := Lg2_86.lt
          go_wp2_with fail
          have Hg_90 := Lib.hid (LV.soft Hng_65.out (((S71.out).trans (Soft.of B78.out)).trans (S86.out)))
          have Hg2_91 := Lib.hid (LV.soft Hng2_80.out (S86.out))
          refine (alike_yes _ _ _ zh zhe Hg_90.out Hg2_91.out).mono ?_
          rintro e w87 ⟨hb87, rfl⟩
          have B92 := Lib.hid hb87
          have z92 := B92.out.size
          have HB93 := Lib.hid (HBP86.out.trans (B92.out.mono HBP86.out.size))
          clear hb87
          clear q88_0 q88_1 q88_2 q88_3 q88_lt q89_0 q89_1 q89_2 q89_3 q89_lt
          go_wp2
          go_roundw
          case rel => exact ⟨k + 1, by omega, by rw [show ((k + 1 : Nat) : Int) = (k : Int) + 1 by omega], Lib.hid (HBW.out.trans (HB93.out.mono HBW.out.size)), Lib.hid (HP.out.step HB93.out), Lib.hid (B2.out.step HB93.out), Lib.hid (hd.out.step HB93.out)⟩
          case measure => simp [intOf] <;> omega
      · have hze := HRzg.out; rw [A2_bad hv] at hze; obtain rfl : zge = 30 := congrArg Prod.snd hze
        clear hze hv HRzg
        have P3_7_94 := Lib.hid (P3_6_32.out.trans (B35.out.mono P3_6_32.out.size))
        have La_95 := LB.step La_10 P3_7_94.out
        have q96_0 := La_95.cell0
        have q96_1 := La_95.cell1
        have q96_2 := La_95.frozen 0
        have q96_3 := La_95.frozen 1
        have q96_lt := La_95.lt
        have Lb_97 := LB.step Lb_12 P3_7_94.out
        have q98_0 := Lb_97.cell0
        have q98_1 := Lb_97.cell1
        have q98_2 := Lb_97.frozen 0
        have q98_3 := Lb_97.frozen 1
        have q98_lt := Lb_97.lt
        have P5_7_99 := Lib.hid (B28.out.trans (B35.out.mono B28.out.size))
        have Lg_100 := LB.step Lg_25 P5_7_99.out
        have q101_0 := Lg_100.cell0
        have q101_1 := Lg_100.cell1
        have q101_2 := Lg_100.frozen 0
        have q101_3 := Lg_100.frozen 1
        have q101_lt := Lg_100.lt
        go_wp2
        go_roundw
        case rel => exact ⟨k + 1, by omega, by rw [show ((k + 1 : Nat) : Int) = (k : Int) + 1 by omega], Lib.hid (HBW.out.trans (HB36.out.mono HBW.out.size)), Lib.hid (HP.out.step HB36.out), Lib.hid (B2.out.step HB36.out), Lib.hid (hd.out.step HB36.out)⟩
        case measure => simp [intOf] <;> omega
end Go.Proofs.YtnbanlmkoljghaaGreatDoor
