/- The law LongRing (written by gen_ring.py). -/
import Derived.Test.YtnbanlmkoljghaaGreatDoorWorks
import Derived.Test.YtnbanlmkoljghaaGreatDoorPairs
import Derived.Deep.DeepCutAuto
import Derived.Deep.CutBlock
namespace Go.Proofs.YtnbanlmkoljghaaGreatDoor
open Go Go.RowKit Dig

theorem Pairs.step {w w' : World} {g : Nat} {na nb : Bool} {la lb : List Int} {X Y V U : Int} {s0 s1 s2 s3 s4 s5 s6 s7 : Value} (h : Pairs w g na nb la lb X Y V U s0 s1 s2 s3 s4 s5 s6 s7) (hb : Below w.heap.size w w') : Pairs w' g na nb la lb X Y V U s0 s1 s2 s3 s4 s5 s6 s7 :=
  ⟨h.block.step hb, h.r0.step hb, h.r1.step hb, h.r2.step hb, h.r3.step hb, h.r4.step hb, h.r5.step hb, h.r6.step hb, h.r7.step hb⟩
theorem below_alloc1 {W w : World} (h : Below W.heap.size W w) (o : Obj) : Below W.heap.size W (w.alloc o) := h.alloc h.size o
theorem below_drew1 {B : Nat} {W w : World} (h : Below B W w) : Below B W w.drew := ⟨h.os, h.tape, h.output, h.size, h.block⟩
theorem below_set1 {W w : World} {b : Nat} (h : Below W.heap.size W w) (hb : W.heap.size ≤ b) (k : Nat) (v : Value) : Below W.heap.size W (w.setCell ⟨b, k, none⟩ v) := h.setCell (p := ⟨b, k, none⟩) hb v
theorem lb_far {w : World} {b b' k : Nat} {x y u : Value} (h : LB w b x y) (hne : b ≠ b') : LB (w.setCell ⟨b', k, none⟩ u) b x y := h.far (p := ⟨b', k, none⟩) hne u
theorem lb_put0 {w : World} {b : Nat} {u u' : Value} (h : LB w b (.bool false) (.slice none 0 0)) : LB ((w.setCell ⟨b, 0, none⟩ u).setCell ⟨b, 1, none⟩ u') b u u' := (h.set0 u).set1 u'
theorem lv_put0 {w : World} {b : Nat} {q : Bool} {u' v : Value} {z : Int} (hb : LB w b (.bool false) (.slice none 0 0)) (h : LV w w.heap.size v z) : LV ((w.setCell ⟨b, 0, none⟩ (.bool q)).setCell ⟨b, 1, none⟩ u') ((w.setCell ⟨b, 0, none⟩ (.bool q)).setCell ⟨b, 1, none⟩ u').heap.size v z := by
  obtain ⟨s, hs, hr⟩ := h
  refine ⟨s, hs, ?_⟩
  have h1 := (hr.setLB hb 0 (.bool q)).setLB (hb.set0 (.bool q)) 1 u'
  simpa [World.setCell] using h1
theorem have_then {T G : Prop} (h : T) (k : T → G) : G := k h
/-- The two middle pairs are valid. -/
theorem Pairs.mid {w : World} {g : Nat} {na nb : Bool} {la lb : List Int} {X Y V U : Int} {s0 s1 s2 s3 s4 s5 s6 s7 : Value} (h : Pairs w g na nb la lb X Y V U s0 s1 s2 s3 s4 s5 s6 s7) (k : Nat) (hk : k < 2) :
    ∃ Q A c A' c', (Q = Y ∨ Q = V) ∧ w.cell? ⟨g, 4 + k * 4, none⟩ = some (.bool (decide (X < 0))) ∧ w.cell? ⟨g, 4 + k * 4 + 1, none⟩ = some (.slice A (dig X.natAbs).length c) ∧
      w.cell? ⟨g, 4 + k * 4 + 2, none⟩ = some (.bool (decide (Q < 0))) ∧ w.cell? ⟨g, 4 + k * 4 + 3, none⟩ = some (.slice A' (dig Q.natAbs).length c') ∧
      LV w w.heap.size (.agg #[.bool (decide (X < 0)), .slice A (dig X.natAbs).length c]) X ∧ LV w w.heap.size (.agg #[.bool (decide (Q < 0)), .slice A' (dig Q.natAbs).length c']) Q := by
  have hk' : k = 0 ∨ k = 1 := by omega
  rcases hk' with rfl | rfl
  · obtain ⟨A, c, e, hA⟩ := LV.parts (show LV w w.heap.size (.agg #[.bool (decide (X < 0)), s2]) X from LR.of h.r2)
    obtain ⟨A', c', e', hA'⟩ := LV.parts (show LV w w.heap.size (.agg #[.bool (decide (Y < 0)), s3]) Y from LR.of h.r3)
    injection e with e; injection e' with e'
    simp at e e'
    exact ⟨Y, A, c, A', c', .inl rfl, h.block.cell 4 rfl, h.block.cell 5 (by rw [← e]; rfl), h.block.cell 6 rfl, h.block.cell 7 (by rw [← e']; rfl), LR.of hA, LR.of hA'⟩
  · obtain ⟨A, c, e, hA⟩ := LV.parts (show LV w w.heap.size (.agg #[.bool (decide (X < 0)), s4]) X from LR.of h.r4)
    obtain ⟨A', c', e', hA'⟩ := LV.parts (show LV w w.heap.size (.agg #[.bool (decide (V < 0)), s5]) V from LR.of h.r5)
    injection e with e; injection e' with e'
    simp at e e'
    exact ⟨V, A, c, A', c', .inr rfl, h.block.cell 8 rfl, h.block.cell 9 (by rw [← e]; rfl), h.block.cell 10 rfl, h.block.cell 11 (by rw [← e']; rfl), LR.of hA, LR.of hA'⟩

set_option maxRecDepth 100000 in
set_option maxHeartbeats 4000000 in
theorem LongRing_any (w : World) (G : Glob w) (na : Bool) (sa : Value) (la : List Int) (nb : Bool) (sb : Value) (lb : List Int) (nx : Bool) (lx : Int) (sx : Value) (wx : List Nat) (ny : Bool) (ly : Int) (sy : Value) (wy : List Nat)
    (ha : RI w w.heap.size sa la) (hb : RI w w.heap.size sb lb) (hx0 : 0 ≤ lx) (hx1 : lx ≤ 255) (hx : RW w w.heap.size sx wx) (hy0 : 0 ≤ ly) (hy1 : ly ≤ 255) (hy : RW w w.heap.size sy wy)
    (nd : Bool) (ld : Int) (sd : Value) (wd : List Nat) (hd0 : 0 ≤ ld) (hd1 : ld ≤ 255) (hd : RW w w.heap.size sd wd) :
    Calls Tryz.prog 9 #[.agg #[.bool na, sa, .bool nb, sb, .bool nx, .int .u8 lx, sx, .bool ny, .int .u8 ly, sy], .agg #[.bool nd, .int .u8 ld, sd]] w fun e w' => Below w.heap.size w w' ∧ e = .returned (.bool true) := by
  obtain ⟨X, hX⟩ : ∃ z, sgn nx (val (draftDs (lx.toNat % 8) 40 wx)) = z := ⟨_, rfl⟩
  obtain ⟨Y, hY⟩ : ∃ z, sgn ny (val (draftDs (ly.toNat % 8) 40 wy)) = z := ⟨_, rfl⟩
  obtain ⟨V, hV⟩ : ∃ z, sgn ny (val (draftDs 0 3 wy)) = z := ⟨_, rfl⟩
  obtain ⟨U, hU⟩ : ∃ z, sgn nx (val (draftDs 0 3 wx)) = z := ⟨_, rfl⟩
  obtain ⟨C, hC⟩ : ∃ z, sgn nd (val (draftDs 0 3 wd)) = z := ⟨_, rfl⟩
  have hlX : Hid (Len 47 X) := Lib.hid (by rw [← hX, Len]; exact draft_fit (by omega))
  have hlY : Hid (Len 47 Y) := Lib.hid (by rw [← hY, Len]; exact draft_fit (by omega))
  have hlV : Hid (Len 47 V) := Lib.hid (by rw [← hV, Len]; exact draft_fit (by omega))
  have hlC : Hid (Len 3 C) := Lib.hid (by rw [← hC, Len]; exact draft_fit (by omega))
  replace hC := Lib.hid hC
  have HB0 := Lib.hid (((Below.refl w.heap.size w).alloc (Nat.le_refl _) (.cells #[.bool na, sa, .bool nb, sb, .bool nx, .int .u8 lx, sx, .bool ny, .int .u8 ly, sy] 29)).alloc (by simp) (.cells #[.bool nd, .int .u8 ld, sd] 27))
  have B1 := (CB.new w 29 #[.bool na, sa, .bool nb, sb, .bool nx, .int .u8 lx, sx, .bool ny, .int .u8 ly, sy]).alloc (.cells #[.bool nd, .int .u8 ld, sd] 27)
  have B2 : CB ((w.alloc (.cells #[.bool na, sa, .bool nb, sb, .bool nx, .int .u8 lx, sx, .bool ny, .int .u8 ly, sy] 29)).alloc (.cells #[.bool nd, .int .u8 ld, sd] 27)) (w.heap.size + 1) 27 #[.bool nd, .int .u8 ld, sd] := by have h := CB.new (w.alloc (.cells #[.bool na, sa, .bool nb, sb, .bool nx, .int .u8 lx, sx, .bool ny, .int .u8 ly, sy] 29)) 27 #[.bool nd, .int .u8 ld, sd]; simpa using h
  replace ha := Lib.hid (ha.step HB0.out)
  replace hb := Lib.hid (hb.step HB0.out)
  replace hx := Lib.hid (hx.step HB0.out)
  replace hy := Lib.hid (hy.step HB0.out)
  replace hd := Lib.hid (hd.step HB0.out)
  go_enter Tryz.func9, Tryz.ntmps9
  go_wp2_with fail
  refine (works_any _ (G.step HB0.out)).mono ?_
  rintro e w1 ⟨hb1, rfl⟩
  have HB1 := Lib.hid (HB0.out.trans (hb1.mono HB0.out.size))
  replace B1 := B1.step hb1
  replace B2 := B2.step hb1
  replace ha := Lib.hid (ha.out.step hb1)
  replace hb := Lib.hid (hb.out.step hb1)
  replace hx := Lib.hid (hx.out.step hb1)
  replace hy := Lib.hid (hy.out.step hb1)
  replace hd := Lib.hid (hd.out.step hb1)
  clear hb1 HB0
  have q0 := B1.cell 0 rfl
  have q1 := B1.cell 1 rfl
  have q2 := B1.cell 2 rfl
  have q3 := B1.cell 3 rfl
  have q4 := B1.cell 4 rfl
  have q5 := B1.cell 5 rfl
  have q6 := B1.cell 6 rfl
  have q7 := B1.cell 7 rfl
  have q8 := B1.cell 8 rfl
  have q9 := B1.cell 9 rfl
  go_wp2_with fail
  refine (pairs_any _ na nb nx ny sa sb sx sy la lb lx ly wx wy ha.out hb.out hx0 hx1 hx.out hy0 hy1 hy.out X Y V U hX hY hV hU).mono ?_
  rintro e w2 ⟨hb2, g, s0, s1, s2, s3, s4, s5, s6, s7, rfl, -, HP⟩
  have HB2 := Lib.hid (HB1.out.trans (hb2.mono HB1.out.size))
  replace B2 := B2.step hb2
  replace hd := Lib.hid (hd.out.step hb2)
  replace HP := Lib.hid HP
  replace B2 := Lib.hid B2
  clear q0 q1 q2 q3 q4 q5 q6 q7 q8 q9 hb2 HB1 B1 ha hb hx hy hX hY hV hU hx0 hx1 hy0 hy1
  go_wp2
  go_loopw [27] (fun i wr => ∃ k : Nat, k ≤ 2 ∧ i = .int .i64 k ∧ Hid (Below w.heap.size w wr) ∧ Hid (CB wr (w.heap.size + 1) 27 #[.bool nd, .int .u8 ld, sd]) ∧ Hid (RW wr wr.heap.size sd wd) ∧ Hid (Pairs wr g na nb la lb X Y V U s0 s1 s2 s3 s4 s5 s6 s7)) (fun i _ => 2 - (intOf i).toNat)
  case atStart => exact ⟨0, by omega, rfl, HB2, B2, hd, HP⟩
  case round =>
    clear HB2 B2 hd HP
    obtain ⟨k, hk, rfl, HBW, B2, hd, HP⟩ := hrel
    have G1 := G.step HBW.out
    by_cases hk2 : k = 2
    · subst hk2
      rw [show ((2 : Nat) : Int) = 2 from rfl]
      go_wp2
      go_ret
      exact ⟨HBW.out, rfl⟩
    obtain ⟨Q, A1, c1, A2, c2, hQ, p0, p1, p2, p3, v1, v2⟩ := HP.out.mid k (by omega)
    have hlQ : Hid (Len 47 Q) := by rcases hQ with rfl | rfl <;> assumption
    obtain ⟨S, hS⟩ : ∃ S : Int, S = X + Q := ⟨_, rfl⟩
    obtain ⟨E, hE⟩ : ∃ E : Int, E = X * C := ⟨_, rfl⟩
    obtain ⟨F, hF⟩ : ∃ F : Int, F = Q * C := ⟨_, rfl⟩
    obtain ⟨D, hD⟩ : ∃ D : Int, D = C * S := ⟨_, rfl⟩
    have hlS : Len 48 S := by rw [hS]; exact hlX.out.add hlQ.out
    have hlE : Len 50 E := by rw [hE]; exact hlX.out.mul hlC.out
    have hlF : Len 50 F := by rw [hF]; exact hlQ.out.mul hlC.out
    have hlD : Len 51 D := by rw [hD]; exact hlC.out.mul hlS
    have HFX : Hid (Fit X) := Lib.hid (hlX.out.fit (by omega))
    have HFQ : Hid (Fit Q) := Lib.hid (hlQ.out.fit (by omega))
    have HFC : Hid (Fit C) := Lib.hid (hlC.out.fit (by omega))
    have HFS : Hid (Fit S) := Lib.hid (hlS.fit (by omega))
    have HFE : Hid (Fit E) := Lib.hid (hlE.fit (by omega))
    have HFF : Hid (Fit F) := Lib.hid (hlF.fit (by omega))
    have HFD : Hid (Fit D) := Lib.hid (hlD.fit (by omega))
    have HS2 : Hid (Q + X = S) := Lib.hid (by rw [hS]; omega)
    have HSX : Hid (S - Q = X) := Lib.hid (by rw [hS]; omega)
    have HEF : Hid (E + F = D) := Lib.hid (by rw [hE, hF, hD, hS, ← Int.add_mul, Int.mul_comm])
    have HS := Lib.hid hS
    clear hS hlS
    have HE := Lib.hid hE
    clear hE hlE
    have HF := Lib.hid hF
    clear hF hlF
    have HD := Lib.hid hD
    clear hD hlD
    have hki : (k : Int) < 2 := by omega
    have q0 := B2.out.cell 0 rfl
    have q1 := B2.out.cell 1 rfl
    have q2 := B2.out.cell 2 rfl
    go_upto_region 6 with (fail)
    obtain ⟨wp, hwp⟩ : ∃ wp : World, wp = wr.alloc (.cells #[.bool (decide (X < 0)), .slice A1 (dig X.natAbs).length c1, .bool (decide (Q < 0)), .slice A2 (dig Q.natAbs).length c2] 33) := ⟨_, rfl⟩
    rw [← hwp]
    have hBp : Below wr.heap.size wr wp := by rw [hwp]; exact (Below.refl _ _).alloc (Nat.le_refl _) _
    have P0 : CB wp wr.heap.size 33 #[.bool (decide (X < 0)), .slice A1 (dig X.natAbs).length c1, .bool (decide (Q < 0)), .slice A2 (dig Q.natAbs).length c2] := by rw [hwp]; exact CB.new _ _ _
    have D0 := B2.out.step hBp
    have v1' := LV.step v1 hBp
    have v2' := LV.step v2 hBp
    have hd' := Lib.hid (RW.step hd.out hBp)
    have HBp := Lib.hid hBp
    have hgp := hBp.size
    clear p0 p1 p2 p3 q0 q1 q2 v1 v2 hBp hwp
    have KS : ∀ w' : World, Below wp.heap.size wp w' → (Below wp.heap.size wp w' ∧ w'.cell? ⟨wr.heap.size, 0, none⟩ = some (.bool (decide (X < 0))) ∧ w'.cell? ⟨wr.heap.size, 1, none⟩ = some (.slice A1 (dig X.natAbs).length c1) ∧ w'.cell? ⟨wr.heap.size, 2, none⟩ = some (.bool (decide (Q < 0))) ∧ w'.cell? ⟨wr.heap.size, 3, none⟩ = some (.slice A2 (dig Q.natAbs).length c2) ∧ w'.cell? ⟨w.heap.size + 1, 0, none⟩ = some (.bool nd) ∧ w'.cell? ⟨w.heap.size + 1, 1, none⟩ = some (.int .u8 ld) ∧ w'.cell? ⟨w.heap.size + 1, 2, none⟩ = some (sd)) := fun w' h => ⟨h, (P0.step h).cell 0 rfl, (P0.step h).cell 1 rfl, (P0.step h).cell 2 rfl, (P0.step h).cell 3 rfl, (D0.step h).cell 0 rfl, (D0.step h).cell 1 rfl, (D0.step h).cell 2 rfl⟩
    obtain ⟨-, p0, p1, p2, p3, q0, q1, q2⟩ := KS wp (Below.refl _ _)
    have KB : ∀ w' : World, (Below wp.heap.size wp w' ∧ w'.cell? ⟨wr.heap.size, 0, none⟩ = some (.bool (decide (X < 0))) ∧ w'.cell? ⟨wr.heap.size, 1, none⟩ = some (.slice A1 (dig X.natAbs).length c1) ∧ w'.cell? ⟨wr.heap.size, 2, none⟩ = some (.bool (decide (Q < 0))) ∧ w'.cell? ⟨wr.heap.size, 3, none⟩ = some (.slice A2 (dig Q.natAbs).length c2) ∧ w'.cell? ⟨w.heap.size + 1, 0, none⟩ = some (.bool nd) ∧ w'.cell? ⟨w.heap.size + 1, 1, none⟩ = some (.int .u8 ld) ∧ w'.cell? ⟨w.heap.size + 1, 2, none⟩ = some (sd)) → Below wp.heap.size wp w' := fun w' h => h.1
    go_cut [7, 8, 9] (fun sa sb sc wx => ∃ (ba bb bc : Nat) (A3 : Option Addr) (c3 : Nat), sa = .pointer (some ⟨ba, 0, none⟩) ∧ sb = .pointer (some ⟨bb, 0, none⟩) ∧ sc = .pointer (some ⟨bc, 0, none⟩) ∧ LB wx ba (.bool (decide (X < 0))) (.slice A1 (dig (X).natAbs).length c1) ∧ LB wx bb (.bool (decide (Q < 0))) (.slice A2 (dig (Q).natAbs).length c2) ∧ LB wx bc (.bool (decide (C < 0))) (.slice A3 (dig (C).natAbs).length c3) ∧ Hid (LV wx wx.heap.size (.agg #[.bool (decide (C < 0)), .slice A3 (dig (C).natAbs).length c3]) C) ∧ Hid (ba ≠ bb) ∧ Hid (ba ≠ bc) ∧ Hid (bb ≠ bc) ∧ Hid (wr.heap.size ≤ ba) ∧ Hid (wr.heap.size ≤ bb) ∧ Hid (wr.heap.size ≤ bc) ∧ Hid (Below wp.heap.size wp wx))
    case first =>
      have tok0 : True := trivial
      go_region_held3 (fun w' => Below wp.heap.size wp w' ∧ w'.cell? ⟨wr.heap.size, 0, none⟩ = some (.bool (decide (X < 0))) ∧ w'.cell? ⟨wr.heap.size, 1, none⟩ = some (.slice A1 (dig X.natAbs).length c1) ∧ w'.cell? ⟨wr.heap.size, 2, none⟩ = some (.bool (decide (Q < 0))) ∧ w'.cell? ⟨wr.heap.size, 3, none⟩ = some (.slice A2 (dig Q.natAbs).length c2) ∧ w'.cell? ⟨w.heap.size + 1, 0, none⟩ = some (.bool nd) ∧ w'.cell? ⟨w.heap.size + 1, 1, none⟩ = some (.int .u8 ld) ∧ w'.cell? ⟨w.heap.size + 1, 2, none⟩ = some (sd)) (first
        | (refine KS _ ?_; repeat (first | with_reducible exact KU.out | with_reducible exact Below.refl _ _ | with_reducible refine below_alloc1 ?_ _ | with_reducible refine below_set1 ?_ (by first | omega | simp) _ _ | with_reducible refine below_drew1 ?_))
        | go_keep) (first
        | (go_at_call 28; clear tok0; ((with_reducible refine (Short_any _ nd ld _ wd hd0 hd1 (by exact RW.step hd'.out (KB _ (by assumption)))).mono ?_); rintro e u ⟨hbn, v, rfl, hv⟩; rw [hC.out] at hv; obtain ⟨A3, c3, rfl, -⟩ := hv.parts; have KU := Lib.hid (Below.trans (KB _ (by assumption)) (hbn.mono (KB _ (by assumption)).size)); have HV := Lib.hid hv; clear hv; have gu := hbn.size; (try simp at gu); (try (refine have_then (T := LB u wp.heap.size (.bool false) (.slice none 0 0)) ?_ ?_; (focus (refine LB.step ?_ hbn; (repeat (first | with_reducible refine LB.drew ?_ | with_reducible exact LB.new' rfl | (with_reducible refine LB.new' ?_; simp; done) | with_reducible refine LB.alloc ?_ _)); done)); intro Lz0)); (try (have y00 := Lz0.cell0; have y01 := Lz0.cell1; have y02 := Lz0.frozen 0; have y03 := Lz0.frozen 1; have y04 := Lz0.lt)); (try (refine have_then (T := LB u (wp.heap.size + 1) (.bool false) (.slice none 0 0)) ?_ ?_; (focus (refine LB.step ?_ hbn; (repeat (first | with_reducible refine LB.drew ?_ | with_reducible exact LB.new' rfl | (with_reducible refine LB.new' ?_; simp; done) | with_reducible refine LB.alloc ?_ _)); done)); intro Lz1)); (try (have y10 := Lz1.cell0; have y11 := Lz1.cell1; have y12 := Lz1.frozen 0; have y13 := Lz1.frozen 1; have y14 := Lz1.lt)); (try (refine have_then (T := LB u (wp.heap.size + 2) (.bool false) (.slice none 0 0)) ?_ ?_; (focus (refine LB.step ?_ hbn; (repeat (first | with_reducible refine LB.drew ?_ | with_reducible exact LB.new' rfl | (with_reducible refine LB.new' ?_; simp; done) | with_reducible refine LB.alloc ?_ _)); done)); intro Lz2)); (try (have y20 := Lz2.cell0; have y21 := Lz2.cell1; have y22 := Lz2.frozen 0; have y23 := Lz2.frozen 1; have y24 := Lz2.lt)))))
      all_goals
        go_wp2
        go_meet
        refine ⟨_, _, _, A3, c3, rfl, rfl, rfl, ?_, ?_, ?_, Lib.hid ?_, Lib.hid ?_, Lib.hid ?_, Lib.hid ?_, Lib.hid ?_, Lib.hid ?_, Lib.hid ?_, Lib.hid ?_⟩
        · (repeat (first | with_reducible exact Lz0 | with_reducible exact Lz1 | with_reducible exact Lz2 | with_reducible exact LB.new' rfl | (with_reducible refine LB.new' ?_; simp; done) | with_reducible refine lb_put0 ?_ | with_reducible refine lb_far ?_ (by omega) | with_reducible refine LB.alloc ?_ _ | with_reducible refine LB.drew ?_))
        · (repeat (first | with_reducible exact Lz0 | with_reducible exact Lz1 | with_reducible exact Lz2 | with_reducible exact LB.new' rfl | (with_reducible refine LB.new' ?_; simp; done) | with_reducible refine lb_put0 ?_ | with_reducible refine lb_far ?_ (by omega) | with_reducible refine LB.alloc ?_ _ | with_reducible refine LB.drew ?_))
        · (repeat (first | with_reducible exact Lz0 | with_reducible exact Lz1 | with_reducible exact Lz2 | with_reducible exact LB.new' rfl | (with_reducible refine LB.new' ?_; simp; done) | with_reducible refine lb_put0 ?_ | with_reducible refine lb_far ?_ (by omega) | with_reducible refine LB.alloc ?_ _ | with_reducible refine LB.drew ?_))
        · (repeat (first | with_reducible exact HV.out | with_reducible refine LV.alloc ?_ _ | (with_reducible refine lv_put0 ?_ ?_; focus (repeat (first | with_reducible exact Lz0 | with_reducible exact Lz1 | with_reducible exact Lz2 | with_reducible exact LB.new' rfl | (with_reducible refine LB.new' ?_; simp; done) | with_reducible refine lb_put0 ?_ | with_reducible refine lb_far ?_ (by omega) | with_reducible refine LB.alloc ?_ _ | with_reducible refine LB.drew ?_)))))
        · omega
        · omega
        · omega
        · omega
        · omega
        · omega
        · (repeat (first | with_reducible exact KU.out | with_reducible exact Below.refl _ _ | with_reducible refine below_alloc1 ?_ _ | with_reducible refine below_set1 ?_ (by first | omega | simp) _ _ | with_reducible refine below_drew1 ?_))
    case rest =>
      obtain ⟨ba, bb, bc, A3, c3, rfl, rfl, rfl, La_0, Lb_0, Lc_0, Hc_0, nab, nac, nbc, ga, gb, gc, HBc⟩ := hcut
      have ne_a_b := nab.out
      have ne_a_c := nac.out
      have ne_b_c := nbc.out
      have ge_a := ga.out
      have ge_b := gb.out
      have ge_c := gc.out
      have Ha_0 := Lib.hid (LV.step v1' HBc.out)
      have Hb_0 := Lib.hid (LV.step v2' HBc.out)
      have HB_0 := Lib.hid (HBp.out.trans (HBc.out.mono HBp.out.size))
      clear nab nac nbc ga gb gc HBc HBp v1' v2' KS KB P0 D0 p0 p1 p2 p3 q0 q1 q2 hd' hgp hQ hlQ
      have q1_0 := La_0.cell0
      have q1_1 := La_0.cell1
      have q1_2 := La_0.frozen 0
      have q1_3 := La_0.frozen 1
      have q1_lt := La_0.lt
      have q2_0 := Lb_0.cell0
      have q2_1 := Lb_0.cell1
      have q2_2 := Lb_0.frozen 0
      have q2_3 := Lb_0.frozen 1
      have q2_lt := Lb_0.lt
      go_wp2_with fail
      refine (Add_num Ha_0.out Hb_0.out HFX.out HFQ.out (by rw [← HS.out]; exact HFS.out)).mono ?_
      rintro e w4 ⟨hb4, v3, rfl, hv3⟩
      have HB_5 := Lib.hid (HB_0.out.trans (hb4.mono HB_0.out.size))
      clear HB_0
      have La_6 := La_0.step hb4
      clear La_0
      have Lb_6 := Lb_0.step hb4
      clear Lb_0
      have Lc_6 := Lc_0.step hb4
      clear Lc_0
      have Ha_6 := Lib.hid (Ha_0.out.step hb4)
      clear Ha_0
      have Hb_6 := Lib.hid (Hb_0.out.step hb4)
      clear Hb_0
      have Hc_6 := Lib.hid (Hc_0.out.step hb4)
      clear Hc_0
      clear hb4
      clear q1_0 q1_1 q1_2 q1_3 q1_lt q2_0 q2_1 q2_2 q2_3 q2_lt
      rw [← HS.out] at hv3
      obtain ⟨A7, c7, rfl, -⟩ := hv3.parts
      have Ht_7 := Lib.hid hv3
      clear hv3
      have q8_0 := La_6.cell0
      have q8_1 := La_6.cell1
      have q8_2 := La_6.frozen 0
      have q8_3 := La_6.frozen 1
      have q8_lt := La_6.lt
      have q9_0 := Lb_6.cell0
      have q9_1 := Lb_6.cell1
      have q9_2 := Lb_6.frozen 0
      have q9_3 := Lb_6.frozen 1
      have q9_lt := Lb_6.lt
      have q10_0 := Lc_6.cell0
      have q10_1 := Lc_6.cell1
      have q10_2 := Lc_6.frozen 0
      have q10_3 := Lc_6.frozen 1
      have q10_lt := Lc_6.lt
      go_wp2_with fail
      clear q8_0 q8_1 q8_2 q8_3 q8_lt q9_0 q9_1 q9_2 q9_3 q9_lt q10_0 q10_1 q10_2 q10_3 q10_lt
      obtain ⟨w11, hW11⟩ : ∃ w11 : World, w11 = w4.alloc (.cells #[.bool (decide (S < 0)), .slice A7 (dig (S).natAbs).length c7] 24) := ⟨_, rfl⟩
      rw [← hW11]
      have hal12 : Below w4.heap.size w4 w11 := by rw [hW11]; exact (Below.refl _ _).alloc (Nat.le_refl _) _
      have Ls_12 : LB w11 (w4.heap.size) (.bool (decide (S < 0))) (.slice A7 (dig (S).natAbs).length c7) := by rw [hW11]; exact LB.new' (show w4.heap.size = w4.heap.size from (rfl).symm)
      have ne_a_s : ba ≠ w4.heap.size := Nat.ne_of_lt (by have h1 := La_6.lt; have h2 : w4.heap.size = w4.heap.size := rfl; omega)
      have ne_b_s : bb ≠ w4.heap.size := Nat.ne_of_lt (by have h1 := Lb_6.lt; have h2 : w4.heap.size = w4.heap.size := rfl; omega)
      have ne_c_s : bc ≠ w4.heap.size := Nat.ne_of_lt (by have h1 := Lc_6.lt; have h2 : w4.heap.size = w4.heap.size := rfl; omega)
      have ge_s : wr.heap.size ≤ w4.heap.size := by have h1 : wr.heap.size ≤ w4.heap.size := HB_5.out.size; have h2 : w4.heap.size = w4.heap.size := rfl; omega
      have HSZ_12 := Lib.hid (show w11.heap.size = w4.heap.size + 1 by rw [hW11]; have h2 : w4.heap.size = w4.heap.size := rfl; simp <;> omega)
      have HB_13 := Lib.hid (HB_5.out.trans (hal12.mono HB_5.out.size))
      clear HB_5
      have La_14 := La_6.step hal12
      clear La_6
      have Lb_14 := Lb_6.step hal12
      clear Lb_6
      have Lc_14 := Lc_6.step hal12
      clear Lc_6
      have Ha_14 := Lib.hid (Ha_6.out.step hal12)
      clear Ha_6
      have Hb_14 := Lib.hid (Hb_6.out.step hal12)
      clear Hb_6
      have Hc_14 := Lib.hid (Hc_6.out.step hal12)
      clear Hc_6
      have Hs_tmp_14 := Lib.hid (Ht_7.out.step hal12)
      clear Ht_7
      clear hal12 hW11
      have q15_0 := La_14.cell0
      have q15_1 := La_14.cell1
      have q15_2 := La_14.frozen 0
      have q15_3 := La_14.frozen 1
      have q15_lt := La_14.lt
      have q16_0 := Lb_14.cell0
      have q16_1 := Lb_14.cell1
      have q16_2 := Lb_14.frozen 0
      have q16_3 := Lb_14.frozen 1
      have q16_lt := Lb_14.lt
      refine (Add_num Hb_14.out Ha_14.out HFQ.out HFX.out (by rw [HS2.out]; exact HFS.out)).mono ?_
      rintro e w18 ⟨hb18, v17, rfl, hv17⟩
      have HB_19 := Lib.hid (HB_13.out.trans (hb18.mono HB_13.out.size))
      clear HB_13
      have La_20 := La_14.step hb18
      clear La_14
      have Lb_20 := Lb_14.step hb18
      clear Lb_14
      have Lc_20 := Lc_14.step hb18
      clear Lc_14
      have Ls_20 := Ls_12.step hb18
      clear Ls_12
      have Ha_20 := Lib.hid (Ha_14.out.step hb18)
      clear Ha_14
      have Hb_20 := Lib.hid (Hb_14.out.step hb18)
      clear Hb_14
      have Hc_20 := Lib.hid (Hc_14.out.step hb18)
      clear Hc_14
      have Hs_20 := Lib.hid (Hs_tmp_14.out.step hb18)
      clear Hs_tmp_14
      clear hb18
      clear HSZ_12
      clear q15_0 q15_1 q15_2 q15_3 q15_lt q16_0 q16_1 q16_2 q16_3 q16_lt
      rw [HS2.out] at hv17
      obtain ⟨A21, c21, rfl, -⟩ := hv17.parts
      have Ht_21 := Lib.hid hv17
      clear hv17
      have q22_0 := La_20.cell0
      have q22_1 := La_20.cell1
      have q22_2 := La_20.frozen 0
      have q22_3 := La_20.frozen 1
      have q22_lt := La_20.lt
      have q23_0 := Lb_20.cell0
      have q23_1 := Lb_20.cell1
      have q23_2 := Lb_20.frozen 0
      have q23_3 := Lb_20.frozen 1
      have q23_lt := Lb_20.lt
      have q24_0 := Lc_20.cell0
      have q24_1 := Lc_20.cell1
      have q24_2 := Lc_20.frozen 0
      have q24_3 := Lc_20.frozen 1
      have q24_lt := Lc_20.lt
      have q25_0 := Ls_20.cell0
      have q25_1 := Ls_20.cell1
      have q25_2 := Ls_20.frozen 0
      have q25_3 := Ls_20.frozen 1
      have q25_lt := Ls_20.lt
      go_wp2_with fail
      clear q22_0 q22_1 q22_2 q22_3 q22_lt q23_0 q23_1 q23_2 q23_3 q23_lt q24_0 q24_1 q24_2 q24_3 q24_lt q25_0 q25_1 q25_2 q25_3 q25_lt
      obtain ⟨w26, hW26⟩ : ∃ w26 : World, w26 = w18.alloc (.cells #[.bool (decide (S < 0)), .slice A21 (dig (S).natAbs).length c21] 24) := ⟨_, rfl⟩
      rw [← hW26]
      have hal27 : Below w18.heap.size w18 w26 := by rw [hW26]; exact (Below.refl _ _).alloc (Nat.le_refl _) _
      have Ls2_27 : LB w26 (w18.heap.size) (.bool (decide (S < 0))) (.slice A21 (dig (S).natAbs).length c21) := by rw [hW26]; exact LB.new' (show w18.heap.size = w18.heap.size from (rfl).symm)
      have ne_a_s2 : ba ≠ w18.heap.size := Nat.ne_of_lt (by have h1 := La_20.lt; have h2 : w18.heap.size = w18.heap.size := rfl; omega)
      have ne_b_s2 : bb ≠ w18.heap.size := Nat.ne_of_lt (by have h1 := Lb_20.lt; have h2 : w18.heap.size = w18.heap.size := rfl; omega)
      have ne_c_s2 : bc ≠ w18.heap.size := Nat.ne_of_lt (by have h1 := Lc_20.lt; have h2 : w18.heap.size = w18.heap.size := rfl; omega)
      have ne_s_s2 : w4.heap.size ≠ w18.heap.size := Nat.ne_of_lt (by have h1 := Ls_20.lt; have h2 : w18.heap.size = w18.heap.size := rfl; omega)
      have ge_s2 : wr.heap.size ≤ w18.heap.size := by have h1 : wr.heap.size ≤ w18.heap.size := HB_19.out.size; have h2 : w18.heap.size = w18.heap.size := rfl; omega
      have HSZ_27 := Lib.hid (show w26.heap.size = w18.heap.size + 1 by rw [hW26]; have h2 : w18.heap.size = w18.heap.size := rfl; simp <;> omega)
      have HB_28 := Lib.hid (HB_19.out.trans (hal27.mono HB_19.out.size))
      clear HB_19
      have La_29 := La_20.step hal27
      clear La_20
      have Lb_29 := Lb_20.step hal27
      clear Lb_20
      have Lc_29 := Lc_20.step hal27
      clear Lc_20
      have Ls_29 := Ls_20.step hal27
      clear Ls_20
      have Ha_29 := Lib.hid (Ha_20.out.step hal27)
      clear Ha_20
      have Hb_29 := Lib.hid (Hb_20.out.step hal27)
      clear Hb_20
      have Hc_29 := Lib.hid (Hc_20.out.step hal27)
      clear Hc_20
      have Hs_29 := Lib.hid (Hs_20.out.step hal27)
      clear Hs_20
      have Hs2_tmp_29 := Lib.hid (Ht_21.out.step hal27)
      clear Ht_21
      clear hal27 hW26
      have q30_0 := Lb_29.cell0
      have q30_1 := Lb_29.cell1
      have q30_2 := Lb_29.frozen 0
      have q30_3 := Lb_29.frozen 1
      have q30_lt := Lb_29.lt
      have q31_0 := Ls_29.cell0
      have q31_1 := Ls_29.cell1
      have q31_2 := Ls_29.frozen 0
      have q31_3 := Ls_29.frozen 1
      have q31_lt := Ls_29.lt
      refine (Sub_num Hs_29.out Hb_29.out HFS.out HFQ.out (by rw [HSX.out]; exact HFX.out)).mono ?_
      rintro e w33 ⟨hb33, v32, rfl, hv32⟩
      have HB_34 := Lib.hid (HB_28.out.trans (hb33.mono HB_28.out.size))
      clear HB_28
      have La_35 := La_29.step hb33
      clear La_29
      have Lb_35 := Lb_29.step hb33
      clear Lb_29
      have Lc_35 := Lc_29.step hb33
      clear Lc_29
      have Ls_35 := Ls_29.step hb33
      clear Ls_29
      have Ls2_35 := Ls2_27.step hb33
      clear Ls2_27
      have Ha_35 := Lib.hid (Ha_29.out.step hb33)
      clear Ha_29
      have Hb_35 := Lib.hid (Hb_29.out.step hb33)
      clear Hb_29
      have Hc_35 := Lib.hid (Hc_29.out.step hb33)
      clear Hc_29
      have Hs_35 := Lib.hid (Hs_29.out.step hb33)
      clear Hs_29
      have Hs2_35 := Lib.hid (Hs2_tmp_29.out.step hb33)
      clear Hs2_tmp_29
      clear hb33
      clear HSZ_27
      clear q30_0 q30_1 q30_2 q30_3 q30_lt q31_0 q31_1 q31_2 q31_3 q31_lt
      rw [HSX.out] at hv32
      obtain ⟨A36, c36, rfl, -⟩ := hv32.parts
      have Ht_36 := Lib.hid hv32
      clear hv32
      have q37_0 := La_35.cell0
      have q37_1 := La_35.cell1
      have q37_2 := La_35.frozen 0
      have q37_3 := La_35.frozen 1
      have q37_lt := La_35.lt
      have q38_0 := Lb_35.cell0
      have q38_1 := Lb_35.cell1
      have q38_2 := Lb_35.frozen 0
      have q38_3 := Lb_35.frozen 1
      have q38_lt := Lb_35.lt
      have q39_0 := Lc_35.cell0
      have q39_1 := Lc_35.cell1
      have q39_2 := Lc_35.frozen 0
      have q39_3 := Lc_35.frozen 1
      have q39_lt := Lc_35.lt
      have q40_0 := Ls_35.cell0
      have q40_1 := Ls_35.cell1
      have q40_2 := Ls_35.frozen 0
      have q40_3 := Ls_35.frozen 1
      have q40_lt := Ls_35.lt
      have q41_0 := Ls2_35.cell0
      have q41_1 := Ls2_35.cell1
      have q41_2 := Ls2_35.frozen 0
      have q41_3 := Ls2_35.frozen 1
      have q41_lt := Ls2_35.lt
      go_wp2_with fail
      clear q37_0 q37_1 q37_2 q37_3 q37_lt q38_0 q38_1 q38_2 q38_3 q38_lt q39_0 q39_1 q39_2 q39_3 q39_lt q40_0 q40_1 q40_2 q40_3 q40_lt q41_0 q41_1 q41_2 q41_3 q41_lt
      obtain ⟨w42, hW42⟩ : ∃ w42 : World, w42 = w33.alloc (.cells #[.bool (decide (X < 0)), .slice A36 (dig (X).natAbs).length c36] 24) := ⟨_, rfl⟩
      rw [← hW42]
      have hal43 : Below w33.heap.size w33 w42 := by rw [hW42]; exact (Below.refl _ _).alloc (Nat.le_refl _) _
      have La2_43 : LB w42 (w33.heap.size) (.bool (decide (X < 0))) (.slice A36 (dig (X).natAbs).length c36) := by rw [hW42]; exact LB.new' (show w33.heap.size = w33.heap.size from (rfl).symm)
      have ne_a_a2 : ba ≠ w33.heap.size := Nat.ne_of_lt (by have h1 := La_35.lt; have h2 : w33.heap.size = w33.heap.size := rfl; omega)
      have ne_b_a2 : bb ≠ w33.heap.size := Nat.ne_of_lt (by have h1 := Lb_35.lt; have h2 : w33.heap.size = w33.heap.size := rfl; omega)
      have ne_c_a2 : bc ≠ w33.heap.size := Nat.ne_of_lt (by have h1 := Lc_35.lt; have h2 : w33.heap.size = w33.heap.size := rfl; omega)
      have ne_s_a2 : w4.heap.size ≠ w33.heap.size := Nat.ne_of_lt (by have h1 := Ls_35.lt; have h2 : w33.heap.size = w33.heap.size := rfl; omega)
      have ne_s2_a2 : w18.heap.size ≠ w33.heap.size := Nat.ne_of_lt (by have h1 := Ls2_35.lt; have h2 : w33.heap.size = w33.heap.size := rfl; omega)
      have ge_a2 : wr.heap.size ≤ w33.heap.size := by have h1 : wr.heap.size ≤ w33.heap.size := HB_34.out.size; have h2 : w33.heap.size = w33.heap.size := rfl; omega
      have HSZ_43 := Lib.hid (show w42.heap.size = w33.heap.size + 1 by rw [hW42]; have h2 : w33.heap.size = w33.heap.size := rfl; simp <;> omega)
      have HB_44 := Lib.hid (HB_34.out.trans (hal43.mono HB_34.out.size))
      clear HB_34
      have La_45 := La_35.step hal43
      clear La_35
      have Lb_45 := Lb_35.step hal43
      clear Lb_35
      have Lc_45 := Lc_35.step hal43
      clear Lc_35
      have Ls_45 := Ls_35.step hal43
      clear Ls_35
      have Ls2_45 := Ls2_35.step hal43
      clear Ls2_35
      have Ha_45 := Lib.hid (Ha_35.out.step hal43)
      clear Ha_35
      have Hb_45 := Lib.hid (Hb_35.out.step hal43)
      clear Hb_35
      have Hc_45 := Lib.hid (Hc_35.out.step hal43)
      clear Hc_35
      have Hs_45 := Lib.hid (Hs_35.out.step hal43)
      clear Hs_35
      have Hs2_45 := Lib.hid (Hs2_35.out.step hal43)
      clear Hs2_35
      have Ha2_tmp_45 := Lib.hid (Ht_36.out.step hal43)
      clear Ht_36
      clear hal43 hW42
      have q46_0 := Ls_45.cell0
      have q46_1 := Ls_45.cell1
      have q46_2 := Ls_45.frozen 0
      have q46_3 := Ls_45.frozen 1
      have q46_lt := Ls_45.lt
      have q47_0 := Ls2_45.cell0
      have q47_1 := Ls2_45.cell1
      have q47_2 := Ls2_45.frozen 0
      have q47_3 := Ls2_45.frozen 1
      have q47_lt := Ls2_45.lt
      refine (Same_num Hs_45.out Hs2_45.out).mono ?_
      rintro e w48 ⟨hb48, rfl⟩
      have HB_49 := Lib.hid (HB_44.out.trans (hb48.mono HB_44.out.size))
      clear HB_44
      have La_50 := La_45.step hb48
      clear La_45
      have Lb_50 := Lb_45.step hb48
      clear Lb_45
      have Lc_50 := Lc_45.step hb48
      clear Lc_45
      have Ls_50 := Ls_45.step hb48
      clear Ls_45
      have Ls2_50 := Ls2_45.step hb48
      clear Ls2_45
      have La2_50 := La2_43.step hb48
      clear La2_43
      have Ha_50 := Lib.hid (Ha_45.out.step hb48)
      clear Ha_45
      have Hb_50 := Lib.hid (Hb_45.out.step hb48)
      clear Hb_45
      have Hc_50 := Lib.hid (Hc_45.out.step hb48)
      clear Hc_45
      have Hs_50 := Lib.hid (Hs_45.out.step hb48)
      clear Hs_45
      have Hs2_50 := Lib.hid (Hs2_45.out.step hb48)
      clear Hs2_45
      have Ha2_50 := Lib.hid (Ha2_tmp_45.out.step hb48)
      clear Ha2_tmp_45
      clear hb48
      clear HSZ_43
      clear q46_0 q46_1 q46_2 q46_3 q46_lt q47_0 q47_1 q47_2 q47_3 q47_lt
      rw [show decide (S = S) = true by simp]
      have q51_0 := La2_50.cell0
      have q51_1 := La2_50.cell1
      have q51_2 := La2_50.frozen 0
      have q51_3 := La2_50.frozen 1
      have q51_lt := La2_50.lt
      have q52_0 := La_50.cell0
      have q52_1 := La_50.cell1
      have q52_2 := La_50.frozen 0
      have q52_3 := La_50.frozen 1
      have q52_lt := La_50.lt
      go_wp2_with fail
      refine (Same_num Ha2_50.out Ha_50.out).mono ?_
      rintro e w53 ⟨hb53, rfl⟩
      have HB_54 := Lib.hid (HB_49.out.trans (hb53.mono HB_49.out.size))
      clear HB_49
      have La_55 := La_50.step hb53
      clear La_50
      have Lb_55 := Lb_50.step hb53
      clear Lb_50
      have Lc_55 := Lc_50.step hb53
      clear Lc_50
      have Ls_55 := Ls_50.step hb53
      clear Ls_50
      have Ls2_55 := Ls2_50.step hb53
      clear Ls2_50
      have La2_55 := La2_50.step hb53
      clear La2_50
      have Ha_55 := Lib.hid (Ha_50.out.step hb53)
      clear Ha_50
      have Hb_55 := Lib.hid (Hb_50.out.step hb53)
      clear Hb_50
      have Hc_55 := Lib.hid (Hc_50.out.step hb53)
      clear Hc_50
      have Hs_55 := Lib.hid (Hs_50.out.step hb53)
      clear Hs_50
      have Hs2_55 := Lib.hid (Hs2_50.out.step hb53)
      clear Hs2_50
      have Ha2_55 := Lib.hid (Ha2_50.out.step hb53)
      clear Ha2_50
      clear hb53
      clear q51_0 q51_1 q51_2 q51_3 q51_lt q52_0 q52_1 q52_2 q52_3 q52_lt
      rw [show decide (X = X) = true by simp]
      clear Ls2_55
      clear Hs2_55
      clear La2_55
      clear Ha2_55
      have q56_0 := La_55.cell0
      have q56_1 := La_55.cell1
      have q56_2 := La_55.frozen 0
      have q56_3 := La_55.frozen 1
      have q56_lt := La_55.lt
      have q57_0 := Lc_55.cell0
      have q57_1 := Lc_55.cell1
      have q57_2 := Lc_55.frozen 0
      have q57_3 := Lc_55.frozen 1
      have q57_lt := Lc_55.lt
      go_wp2_with fail
      refine (Mul_num Ha_55.out Hc_55.out HFX.out HFC.out (by rw [← HE.out]; exact HFE.out)).mono ?_
      rintro e w59 ⟨hb59, v58, rfl, hv58⟩
      have HB_60 := Lib.hid (HB_54.out.trans (hb59.mono HB_54.out.size))
      clear HB_54
      have La_61 := La_55.step hb59
      clear La_55
      have Lb_61 := Lb_55.step hb59
      clear Lb_55
      have Lc_61 := Lc_55.step hb59
      clear Lc_55
      have Ls_61 := Ls_55.step hb59
      clear Ls_55
      have Ha_61 := Lib.hid (Ha_55.out.step hb59)
      clear Ha_55
      have Hb_61 := Lib.hid (Hb_55.out.step hb59)
      clear Hb_55
      have Hc_61 := Lib.hid (Hc_55.out.step hb59)
      clear Hc_55
      have Hs_61 := Lib.hid (Hs_55.out.step hb59)
      clear Hs_55
      clear hb59
      clear q56_0 q56_1 q56_2 q56_3 q56_lt q57_0 q57_1 q57_2 q57_3 q57_lt
      rw [← HE.out] at hv58
      obtain ⟨A62, c62, rfl, -⟩ := hv58.parts
      have Ht_62 := Lib.hid hv58
      clear hv58
      have q63_0 := La_61.cell0
      have q63_1 := La_61.cell1
      have q63_2 := La_61.frozen 0
      have q63_3 := La_61.frozen 1
      have q63_lt := La_61.lt
      have q64_0 := Lb_61.cell0
      have q64_1 := Lb_61.cell1
      have q64_2 := Lb_61.frozen 0
      have q64_3 := Lb_61.frozen 1
      have q64_lt := Lb_61.lt
      have q65_0 := Lc_61.cell0
      have q65_1 := Lc_61.cell1
      have q65_2 := Lc_61.frozen 0
      have q65_3 := Lc_61.frozen 1
      have q65_lt := Lc_61.lt
      have q66_0 := Ls_61.cell0
      have q66_1 := Ls_61.cell1
      have q66_2 := Ls_61.frozen 0
      have q66_3 := Ls_61.frozen 1
      have q66_lt := Ls_61.lt
      go_wp2_with fail
      clear q63_0 q63_1 q63_2 q63_3 q63_lt q64_0 q64_1 q64_2 q64_3 q64_lt q65_0 q65_1 q65_2 q65_3 q65_lt q66_0 q66_1 q66_2 q66_3 q66_lt
      obtain ⟨w67, hW67⟩ : ∃ w67 : World, w67 = w59.alloc (.cells #[.bool (decide (E < 0)), .slice A62 (dig (E).natAbs).length c62] 24) := ⟨_, rfl⟩
      rw [← hW67]
      have hal68 : Below w59.heap.size w59 w67 := by rw [hW67]; exact (Below.refl _ _).alloc (Nat.le_refl _) _
      have Lac_68 : LB w67 (w59.heap.size) (.bool (decide (E < 0))) (.slice A62 (dig (E).natAbs).length c62) := by rw [hW67]; exact LB.new' (show w59.heap.size = w59.heap.size from (rfl).symm)
      have ne_a_ac : ba ≠ w59.heap.size := Nat.ne_of_lt (by have h1 := La_61.lt; have h2 : w59.heap.size = w59.heap.size := rfl; omega)
      have ne_b_ac : bb ≠ w59.heap.size := Nat.ne_of_lt (by have h1 := Lb_61.lt; have h2 : w59.heap.size = w59.heap.size := rfl; omega)
      have ne_c_ac : bc ≠ w59.heap.size := Nat.ne_of_lt (by have h1 := Lc_61.lt; have h2 : w59.heap.size = w59.heap.size := rfl; omega)
      have ne_s_ac : w4.heap.size ≠ w59.heap.size := Nat.ne_of_lt (by have h1 := Ls_61.lt; have h2 : w59.heap.size = w59.heap.size := rfl; omega)
      have ge_ac : wr.heap.size ≤ w59.heap.size := by have h1 : wr.heap.size ≤ w59.heap.size := HB_60.out.size; have h2 : w59.heap.size = w59.heap.size := rfl; omega
      have HSZ_68 := Lib.hid (show w67.heap.size = w59.heap.size + 1 by rw [hW67]; have h2 : w59.heap.size = w59.heap.size := rfl; simp <;> omega)
      have HB_69 := Lib.hid (HB_60.out.trans (hal68.mono HB_60.out.size))
      clear HB_60
      have La_70 := La_61.step hal68
      clear La_61
      have Lb_70 := Lb_61.step hal68
      clear Lb_61
      have Lc_70 := Lc_61.step hal68
      clear Lc_61
      have Ls_70 := Ls_61.step hal68
      clear Ls_61
      have Ha_70 := Lib.hid (Ha_61.out.step hal68)
      clear Ha_61
      have Hb_70 := Lib.hid (Hb_61.out.step hal68)
      clear Hb_61
      have Hc_70 := Lib.hid (Hc_61.out.step hal68)
      clear Hc_61
      have Hs_70 := Lib.hid (Hs_61.out.step hal68)
      clear Hs_61
      have Hac_tmp_70 := Lib.hid (Ht_62.out.step hal68)
      clear Ht_62
      clear hal68 hW67
      have q71_0 := Lb_70.cell0
      have q71_1 := Lb_70.cell1
      have q71_2 := Lb_70.frozen 0
      have q71_3 := Lb_70.frozen 1
      have q71_lt := Lb_70.lt
      have q72_0 := Lc_70.cell0
      have q72_1 := Lc_70.cell1
      have q72_2 := Lc_70.frozen 0
      have q72_3 := Lc_70.frozen 1
      have q72_lt := Lc_70.lt
      refine (Mul_num Hb_70.out Hc_70.out HFQ.out HFC.out (by rw [← HF.out]; exact HFF.out)).mono ?_
      rintro e w74 ⟨hb74, v73, rfl, hv73⟩
      have HB_75 := Lib.hid (HB_69.out.trans (hb74.mono HB_69.out.size))
      clear HB_69
      have La_76 := La_70.step hb74
      clear La_70
      have Lb_76 := Lb_70.step hb74
      clear Lb_70
      have Lc_76 := Lc_70.step hb74
      clear Lc_70
      have Ls_76 := Ls_70.step hb74
      clear Ls_70
      have Lac_76 := Lac_68.step hb74
      clear Lac_68
      have Ha_76 := Lib.hid (Ha_70.out.step hb74)
      clear Ha_70
      have Hb_76 := Lib.hid (Hb_70.out.step hb74)
      clear Hb_70
      have Hc_76 := Lib.hid (Hc_70.out.step hb74)
      clear Hc_70
      have Hs_76 := Lib.hid (Hs_70.out.step hb74)
      clear Hs_70
      have Hac_76 := Lib.hid (Hac_tmp_70.out.step hb74)
      clear Hac_tmp_70
      clear hb74
      clear HSZ_68
      clear q71_0 q71_1 q71_2 q71_3 q71_lt q72_0 q72_1 q72_2 q72_3 q72_lt
      rw [← HF.out] at hv73
      obtain ⟨A77, c77, rfl, -⟩ := hv73.parts
      have Ht_77 := Lib.hid hv73
      clear hv73
      have q78_0 := La_76.cell0
      have q78_1 := La_76.cell1
      have q78_2 := La_76.frozen 0
      have q78_3 := La_76.frozen 1
      have q78_lt := La_76.lt
      have q79_0 := Lb_76.cell0
      have q79_1 := Lb_76.cell1
      have q79_2 := Lb_76.frozen 0
      have q79_3 := Lb_76.frozen 1
      have q79_lt := Lb_76.lt
      have q80_0 := Lc_76.cell0
      have q80_1 := Lc_76.cell1
      have q80_2 := Lc_76.frozen 0
      have q80_3 := Lc_76.frozen 1
      have q80_lt := Lc_76.lt
      have q81_0 := Ls_76.cell0
      have q81_1 := Ls_76.cell1
      have q81_2 := Ls_76.frozen 0
      have q81_3 := Ls_76.frozen 1
      have q81_lt := Ls_76.lt
      have q82_0 := Lac_76.cell0
      have q82_1 := Lac_76.cell1
      have q82_2 := Lac_76.frozen 0
      have q82_3 := Lac_76.frozen 1
      have q82_lt := Lac_76.lt
      go_wp2_with fail
      clear q78_0 q78_1 q78_2 q78_3 q78_lt q79_0 q79_1 q79_2 q79_3 q79_lt q80_0 q80_1 q80_2 q80_3 q80_lt q81_0 q81_1 q81_2 q81_3 q81_lt q82_0 q82_1 q82_2 q82_3 q82_lt
      obtain ⟨w83, hW83⟩ : ∃ w83 : World, w83 = w74.alloc (.cells #[.bool (decide (F < 0)), .slice A77 (dig (F).natAbs).length c77] 24) := ⟨_, rfl⟩
      rw [← hW83]
      have hal84 : Below w74.heap.size w74 w83 := by rw [hW83]; exact (Below.refl _ _).alloc (Nat.le_refl _) _
      have Lbc_84 : LB w83 (w74.heap.size) (.bool (decide (F < 0))) (.slice A77 (dig (F).natAbs).length c77) := by rw [hW83]; exact LB.new' (show w74.heap.size = w74.heap.size from (rfl).symm)
      have ne_a_bc : ba ≠ w74.heap.size := Nat.ne_of_lt (by have h1 := La_76.lt; have h2 : w74.heap.size = w74.heap.size := rfl; omega)
      have ne_b_bc : bb ≠ w74.heap.size := Nat.ne_of_lt (by have h1 := Lb_76.lt; have h2 : w74.heap.size = w74.heap.size := rfl; omega)
      have ne_c_bc : bc ≠ w74.heap.size := Nat.ne_of_lt (by have h1 := Lc_76.lt; have h2 : w74.heap.size = w74.heap.size := rfl; omega)
      have ne_s_bc : w4.heap.size ≠ w74.heap.size := Nat.ne_of_lt (by have h1 := Ls_76.lt; have h2 : w74.heap.size = w74.heap.size := rfl; omega)
      have ne_ac_bc : w59.heap.size ≠ w74.heap.size := Nat.ne_of_lt (by have h1 := Lac_76.lt; have h2 : w74.heap.size = w74.heap.size := rfl; omega)
      have ge_bc : wr.heap.size ≤ w74.heap.size := by have h1 : wr.heap.size ≤ w74.heap.size := HB_75.out.size; have h2 : w74.heap.size = w74.heap.size := rfl; omega
      have HSZ_84 := Lib.hid (show w83.heap.size = w74.heap.size + 1 by rw [hW83]; have h2 : w74.heap.size = w74.heap.size := rfl; simp <;> omega)
      have HB_85 := Lib.hid (HB_75.out.trans (hal84.mono HB_75.out.size))
      clear HB_75
      have La_86 := La_76.step hal84
      clear La_76
      have Lb_86 := Lb_76.step hal84
      clear Lb_76
      have Lc_86 := Lc_76.step hal84
      clear Lc_76
      have Ls_86 := Ls_76.step hal84
      clear Ls_76
      have Lac_86 := Lac_76.step hal84
      clear Lac_76
      have Ha_86 := Lib.hid (Ha_76.out.step hal84)
      clear Ha_76
      have Hb_86 := Lib.hid (Hb_76.out.step hal84)
      clear Hb_76
      have Hc_86 := Lib.hid (Hc_76.out.step hal84)
      clear Hc_76
      have Hs_86 := Lib.hid (Hs_76.out.step hal84)
      clear Hs_76
      have Hac_86 := Lib.hid (Hac_76.out.step hal84)
      clear Hac_76
      have Hbc_tmp_86 := Lib.hid (Ht_77.out.step hal84)
      clear Ht_77
      clear hal84 hW83
      have q87_0 := Lc_86.cell0
      have q87_1 := Lc_86.cell1
      have q87_2 := Lc_86.frozen 0
      have q87_3 := Lc_86.frozen 1
      have q87_lt := Lc_86.lt
      have q88_0 := Ls_86.cell0
      have q88_1 := Ls_86.cell1
      have q88_2 := Ls_86.frozen 0
      have q88_3 := Ls_86.frozen 1
      have q88_lt := Ls_86.lt
      refine (Mul_num Hc_86.out Hs_86.out HFC.out HFS.out (by rw [← HD.out]; exact HFD.out)).mono ?_
      rintro e w90 ⟨hb90, v89, rfl, hv89⟩
      have HB_91 := Lib.hid (HB_85.out.trans (hb90.mono HB_85.out.size))
      clear HB_85
      have La_92 := La_86.step hb90
      clear La_86
      have Lb_92 := Lb_86.step hb90
      clear Lb_86
      have Lc_92 := Lc_86.step hb90
      clear Lc_86
      have Ls_92 := Ls_86.step hb90
      clear Ls_86
      have Lac_92 := Lac_86.step hb90
      clear Lac_86
      have Lbc_92 := Lbc_84.step hb90
      clear Lbc_84
      have Ha_92 := Lib.hid (Ha_86.out.step hb90)
      clear Ha_86
      have Hb_92 := Lib.hid (Hb_86.out.step hb90)
      clear Hb_86
      have Hc_92 := Lib.hid (Hc_86.out.step hb90)
      clear Hc_86
      have Hs_92 := Lib.hid (Hs_86.out.step hb90)
      clear Hs_86
      have Hac_92 := Lib.hid (Hac_86.out.step hb90)
      clear Hac_86
      have Hbc_92 := Lib.hid (Hbc_tmp_86.out.step hb90)
      clear Hbc_tmp_86
      clear hb90
      clear HSZ_84
      clear q87_0 q87_1 q87_2 q87_3 q87_lt q88_0 q88_1 q88_2 q88_3 q88_lt
      rw [← HD.out] at hv89
      obtain ⟨A93, c93, rfl, -⟩ := hv89.parts
      have Ht_93 := Lib.hid hv89
      clear hv89
      have q94_0 := La_92.cell0
      have q94_1 := La_92.cell1
      have q94_2 := La_92.frozen 0
      have q94_3 := La_92.frozen 1
      have q94_lt := La_92.lt
      have q95_0 := Lb_92.cell0
      have q95_1 := Lb_92.cell1
      have q95_2 := Lb_92.frozen 0
      have q95_3 := Lb_92.frozen 1
      have q95_lt := Lb_92.lt
      have q96_0 := Lc_92.cell0
      have q96_1 := Lc_92.cell1
      have q96_2 := Lc_92.frozen 0
      have q96_3 := Lc_92.frozen 1
      have q96_lt := Lc_92.lt
      have q97_0 := Ls_92.cell0
      have q97_1 := Ls_92.cell1
      have q97_2 := Ls_92.frozen 0
      have q97_3 := Ls_92.frozen 1
      have q97_lt := Ls_92.lt
      have q98_0 := Lac_92.cell0
      have q98_1 := Lac_92.cell1
      have q98_2 := Lac_92.frozen 0
      have q98_3 := Lac_92.frozen 1
      have q98_lt := Lac_92.lt
      have q99_0 := Lbc_92.cell0
      have q99_1 := Lbc_92.cell1
      have q99_2 := Lbc_92.frozen 0
      have q99_3 := Lbc_92.frozen 1
      have q99_lt := Lbc_92.lt
      go_wp2_with fail
      clear q94_0 q94_1 q94_2 q94_3 q94_lt q95_0 q95_1 q95_2 q95_3 q95_lt q96_0 q96_1 q96_2 q96_3 q96_lt q97_0 q97_1 q97_2 q97_3 q97_lt q98_0 q98_1 q98_2 q98_3 q98_lt q99_0 q99_1 q99_2 q99_3 q99_lt
      obtain ⟨w100, hW100⟩ : ∃ w100 : World, w100 = w90.alloc (.cells #[.bool (decide (D < 0)), .slice A93 (dig (D).natAbs).length c93] 24) := ⟨_, rfl⟩
      rw [← hW100]
      have hal101 : Below w90.heap.size w90 w100 := by rw [hW100]; exact (Below.refl _ _).alloc (Nat.le_refl _) _
      have Lcs_101 : LB w100 (w90.heap.size) (.bool (decide (D < 0))) (.slice A93 (dig (D).natAbs).length c93) := by rw [hW100]; exact LB.new' (show w90.heap.size = w90.heap.size from (rfl).symm)
      have ne_a_cs : ba ≠ w90.heap.size := Nat.ne_of_lt (by have h1 := La_92.lt; have h2 : w90.heap.size = w90.heap.size := rfl; omega)
      have ne_b_cs : bb ≠ w90.heap.size := Nat.ne_of_lt (by have h1 := Lb_92.lt; have h2 : w90.heap.size = w90.heap.size := rfl; omega)
      have ne_c_cs : bc ≠ w90.heap.size := Nat.ne_of_lt (by have h1 := Lc_92.lt; have h2 : w90.heap.size = w90.heap.size := rfl; omega)
      have ne_s_cs : w4.heap.size ≠ w90.heap.size := Nat.ne_of_lt (by have h1 := Ls_92.lt; have h2 : w90.heap.size = w90.heap.size := rfl; omega)
      have ne_ac_cs : w59.heap.size ≠ w90.heap.size := Nat.ne_of_lt (by have h1 := Lac_92.lt; have h2 : w90.heap.size = w90.heap.size := rfl; omega)
      have ne_bc_cs : w74.heap.size ≠ w90.heap.size := Nat.ne_of_lt (by have h1 := Lbc_92.lt; have h2 : w90.heap.size = w90.heap.size := rfl; omega)
      have ge_cs : wr.heap.size ≤ w90.heap.size := by have h1 : wr.heap.size ≤ w90.heap.size := HB_91.out.size; have h2 : w90.heap.size = w90.heap.size := rfl; omega
      have HSZ_101 := Lib.hid (show w100.heap.size = w90.heap.size + 1 by rw [hW100]; have h2 : w90.heap.size = w90.heap.size := rfl; simp <;> omega)
      have HB_102 := Lib.hid (HB_91.out.trans (hal101.mono HB_91.out.size))
      clear HB_91
      have La_103 := La_92.step hal101
      clear La_92
      have Lb_103 := Lb_92.step hal101
      clear Lb_92
      have Lc_103 := Lc_92.step hal101
      clear Lc_92
      have Ls_103 := Ls_92.step hal101
      clear Ls_92
      have Lac_103 := Lac_92.step hal101
      clear Lac_92
      have Lbc_103 := Lbc_92.step hal101
      clear Lbc_92
      have Ha_103 := Lib.hid (Ha_92.out.step hal101)
      clear Ha_92
      have Hb_103 := Lib.hid (Hb_92.out.step hal101)
      clear Hb_92
      have Hc_103 := Lib.hid (Hc_92.out.step hal101)
      clear Hc_92
      have Hs_103 := Lib.hid (Hs_92.out.step hal101)
      clear Hs_92
      have Hac_103 := Lib.hid (Hac_92.out.step hal101)
      clear Hac_92
      have Hbc_103 := Lib.hid (Hbc_92.out.step hal101)
      clear Hbc_92
      have Hcs_tmp_103 := Lib.hid (Ht_93.out.step hal101)
      clear Ht_93
      clear hal101 hW100
      have q104_0 := Lac_103.cell0
      have q104_1 := Lac_103.cell1
      have q104_2 := Lac_103.frozen 0
      have q104_3 := Lac_103.frozen 1
      have q104_lt := Lac_103.lt
      have q105_0 := Lbc_103.cell0
      have q105_1 := Lbc_103.cell1
      have q105_2 := Lbc_103.frozen 0
      have q105_3 := Lbc_103.frozen 1
      have q105_lt := Lbc_103.lt
      refine (Add_num Hac_103.out Hbc_103.out HFE.out HFF.out (by rw [HEF.out]; exact HFD.out)).mono ?_
      rintro e w107 ⟨hb107, v106, rfl, hv106⟩
      have HB_108 := Lib.hid (HB_102.out.trans (hb107.mono HB_102.out.size))
      clear HB_102
      have La_109 := La_103.step hb107
      clear La_103
      have Lb_109 := Lb_103.step hb107
      clear Lb_103
      have Lc_109 := Lc_103.step hb107
      clear Lc_103
      have Ls_109 := Ls_103.step hb107
      clear Ls_103
      have Lac_109 := Lac_103.step hb107
      clear Lac_103
      have Lbc_109 := Lbc_103.step hb107
      clear Lbc_103
      have Lcs_109 := Lcs_101.step hb107
      clear Lcs_101
      have Ha_109 := Lib.hid (Ha_103.out.step hb107)
      clear Ha_103
      have Hb_109 := Lib.hid (Hb_103.out.step hb107)
      clear Hb_103
      have Hc_109 := Lib.hid (Hc_103.out.step hb107)
      clear Hc_103
      have Hs_109 := Lib.hid (Hs_103.out.step hb107)
      clear Hs_103
      have Hac_109 := Lib.hid (Hac_103.out.step hb107)
      clear Hac_103
      have Hbc_109 := Lib.hid (Hbc_103.out.step hb107)
      clear Hbc_103
      have Hcs_109 := Lib.hid (Hcs_tmp_103.out.step hb107)
      clear Hcs_tmp_103
      clear hb107
      clear HSZ_101
      clear q104_0 q104_1 q104_2 q104_3 q104_lt q105_0 q105_1 q105_2 q105_3 q105_lt
      rw [HEF.out] at hv106
      obtain ⟨A110, c110, rfl, -⟩ := hv106.parts
      have Ht_110 := Lib.hid hv106
      clear hv106
      have q111_0 := La_109.cell0
      have q111_1 := La_109.cell1
      have q111_2 := La_109.frozen 0
      have q111_3 := La_109.frozen 1
      have q111_lt := La_109.lt
      have q112_0 := Lb_109.cell0
      have q112_1 := Lb_109.cell1
      have q112_2 := Lb_109.frozen 0
      have q112_3 := Lb_109.frozen 1
      have q112_lt := Lb_109.lt
      have q113_0 := Lc_109.cell0
      have q113_1 := Lc_109.cell1
      have q113_2 := Lc_109.frozen 0
      have q113_3 := Lc_109.frozen 1
      have q113_lt := Lc_109.lt
      have q114_0 := Ls_109.cell0
      have q114_1 := Ls_109.cell1
      have q114_2 := Ls_109.frozen 0
      have q114_3 := Ls_109.frozen 1
      have q114_lt := Ls_109.lt
      have q115_0 := Lac_109.cell0
      have q115_1 := Lac_109.cell1
      have q115_2 := Lac_109.frozen 0
      have q115_3 := Lac_109.frozen 1
      have q115_lt := Lac_109.lt
      have q116_0 := Lbc_109.cell0
      have q116_1 := Lbc_109.cell1
      have q116_2 := Lbc_109.frozen 0
      have q116_3 := Lbc_109.frozen 1
      have q116_lt := Lbc_109.lt
      have q117_0 := Lcs_109.cell0
      have q117_1 := Lcs_109.cell1
      have q117_2 := Lcs_109.frozen 0
      have q117_3 := Lcs_109.frozen 1
      have q117_lt := Lcs_109.lt
      go_wp2_with fail
      clear q111_0 q111_1 q111_2 q111_3 q111_lt q112_0 q112_1 q112_2 q112_3 q112_lt q113_0 q113_1 q113_2 q113_3 q113_lt q114_0 q114_1 q114_2 q114_3 q114_lt q115_0 q115_1 q115_2 q115_3 q115_lt q116_0 q116_1 q116_2 q116_3 q116_lt q117_0 q117_1 q117_2 q117_3 q117_lt
      obtain ⟨w118, hW118⟩ : ∃ w118 : World, w118 = w107.alloc (.cells #[.bool (decide (D < 0)), .slice A110 (dig (D).natAbs).length c110] 24) := ⟨_, rfl⟩
      rw [← hW118]
      have hal119 : Below w107.heap.size w107 w118 := by rw [hW118]; exact (Below.refl _ _).alloc (Nat.le_refl _) _
      have Lsum_119 : LB w118 (w107.heap.size) (.bool (decide (D < 0))) (.slice A110 (dig (D).natAbs).length c110) := by rw [hW118]; exact LB.new' (show w107.heap.size = w107.heap.size from (rfl).symm)
      have ne_a_sum : ba ≠ w107.heap.size := Nat.ne_of_lt (by have h1 := La_109.lt; have h2 : w107.heap.size = w107.heap.size := rfl; omega)
      have ne_b_sum : bb ≠ w107.heap.size := Nat.ne_of_lt (by have h1 := Lb_109.lt; have h2 : w107.heap.size = w107.heap.size := rfl; omega)
      have ne_c_sum : bc ≠ w107.heap.size := Nat.ne_of_lt (by have h1 := Lc_109.lt; have h2 : w107.heap.size = w107.heap.size := rfl; omega)
      have ne_s_sum : w4.heap.size ≠ w107.heap.size := Nat.ne_of_lt (by have h1 := Ls_109.lt; have h2 : w107.heap.size = w107.heap.size := rfl; omega)
      have ne_ac_sum : w59.heap.size ≠ w107.heap.size := Nat.ne_of_lt (by have h1 := Lac_109.lt; have h2 : w107.heap.size = w107.heap.size := rfl; omega)
      have ne_bc_sum : w74.heap.size ≠ w107.heap.size := Nat.ne_of_lt (by have h1 := Lbc_109.lt; have h2 : w107.heap.size = w107.heap.size := rfl; omega)
      have ne_cs_sum : w90.heap.size ≠ w107.heap.size := Nat.ne_of_lt (by have h1 := Lcs_109.lt; have h2 : w107.heap.size = w107.heap.size := rfl; omega)
      have ge_sum : wr.heap.size ≤ w107.heap.size := by have h1 : wr.heap.size ≤ w107.heap.size := HB_108.out.size; have h2 : w107.heap.size = w107.heap.size := rfl; omega
      have HSZ_119 := Lib.hid (show w118.heap.size = w107.heap.size + 1 by rw [hW118]; have h2 : w107.heap.size = w107.heap.size := rfl; simp <;> omega)
      have HB_120 := Lib.hid (HB_108.out.trans (hal119.mono HB_108.out.size))
      clear HB_108
      have La_121 := La_109.step hal119
      clear La_109
      have Lb_121 := Lb_109.step hal119
      clear Lb_109
      have Lc_121 := Lc_109.step hal119
      clear Lc_109
      have Ls_121 := Ls_109.step hal119
      clear Ls_109
      have Lac_121 := Lac_109.step hal119
      clear Lac_109
      have Lbc_121 := Lbc_109.step hal119
      clear Lbc_109
      have Lcs_121 := Lcs_109.step hal119
      clear Lcs_109
      have Ha_121 := Lib.hid (Ha_109.out.step hal119)
      clear Ha_109
      have Hb_121 := Lib.hid (Hb_109.out.step hal119)
      clear Hb_109
      have Hc_121 := Lib.hid (Hc_109.out.step hal119)
      clear Hc_109
      have Hs_121 := Lib.hid (Hs_109.out.step hal119)
      clear Hs_109
      have Hac_121 := Lib.hid (Hac_109.out.step hal119)
      clear Hac_109
      have Hbc_121 := Lib.hid (Hbc_109.out.step hal119)
      clear Hbc_109
      have Hcs_121 := Lib.hid (Hcs_109.out.step hal119)
      clear Hcs_109
      have Hsum_tmp_121 := Lib.hid (Ht_110.out.step hal119)
      clear Ht_110
      clear hal119 hW118
      have q122_0 := Lsum_119.cell0
      have q122_1 := Lsum_119.cell1
      have q122_2 := Lsum_119.frozen 0
      have q122_3 := Lsum_119.frozen 1
      have q122_lt := Lsum_119.lt
      have q123_0 := Lcs_121.cell0
      have q123_1 := Lcs_121.cell1
      have q123_2 := Lcs_121.frozen 0
      have q123_3 := Lcs_121.frozen 1
      have q123_lt := Lcs_121.lt
      refine (Same_num Hsum_tmp_121.out Hcs_121.out).mono ?_
      rintro e w124 ⟨hb124, rfl⟩
      have HB_125 := Lib.hid (HB_120.out.trans (hb124.mono HB_120.out.size))
      clear HB_120
      have La_126 := La_121.step hb124
      clear La_121
      have Lb_126 := Lb_121.step hb124
      clear Lb_121
      have Lc_126 := Lc_121.step hb124
      clear Lc_121
      have Ls_126 := Ls_121.step hb124
      clear Ls_121
      have Lac_126 := Lac_121.step hb124
      clear Lac_121
      have Lbc_126 := Lbc_121.step hb124
      clear Lbc_121
      have Lcs_126 := Lcs_121.step hb124
      clear Lcs_121
      have Lsum_126 := Lsum_119.step hb124
      clear Lsum_119
      have Ha_126 := Lib.hid (Ha_121.out.step hb124)
      clear Ha_121
      have Hb_126 := Lib.hid (Hb_121.out.step hb124)
      clear Hb_121
      have Hc_126 := Lib.hid (Hc_121.out.step hb124)
      clear Hc_121
      have Hs_126 := Lib.hid (Hs_121.out.step hb124)
      clear Hs_121
      have Hac_126 := Lib.hid (Hac_121.out.step hb124)
      clear Hac_121
      have Hbc_126 := Lib.hid (Hbc_121.out.step hb124)
      clear Hbc_121
      have Hcs_126 := Lib.hid (Hcs_121.out.step hb124)
      clear Hcs_121
      have Hsum_126 := Lib.hid (Hsum_tmp_121.out.step hb124)
      clear Hsum_tmp_121
      clear hb124
      clear HSZ_119
      clear q122_0 q122_1 q122_2 q122_3 q122_lt q123_0 q123_1 q123_2 q123_3 q123_lt
      rw [show decide (D = D) = true by simp]
      go_wp2
      go_roundw
      case rel => exact ⟨k + 1, by omega, by rw [show ((k + 1 : Nat) : Int) = (k : Int) + 1 by omega], Lib.hid (HBW.out.trans (HB_125.out.mono HBW.out.size)), Lib.hid (B2.out.step HB_125.out), Lib.hid (hd.out.step HB_125.out), Lib.hid (HP.out.step HB_125.out)⟩
      case measure => simp [intOf] <;> omega
end Go.Proofs.YtnbanlmkoljghaaGreatDoor
