/- Layer 04: Check (written by gen_qg.py). -/
import Derived.Test.YtioclokmbgmamaaGreatDoorQF
import Derived.Test.YtioclokmbgmamaaGreatDoorPr
namespace Go.Proofs.YtioclokmbgmamaaGreatDoor
open Go Go.RowKit Dig
theorem qOf_none1 {n m : Bool} {a b : List Int} (h : ¬ Valid n a) : qOf n a m b = none := by unfold qOf; rw [numOf_bad h]
theorem qOf_none2 {n m : Bool} {a b : List Int} (h : ¬ Valid m b) : qOf n a m b = none := by unfold qOf; rw [numOf_bad h]; cases numOf n a <;> rfl
theorem qOf_both {n m : Bool} {a b : List Int} {x y : Int} (hx : numOf n a = some x) (hy : numOf m b = some y) : qOf n a m b = if 0 < y ∧ Nat.gcd x.natAbs y.natAbs = 1 then some (mkRat x y.natAbs) else none := by unfold qOf; rw [hx, hy]
noncomputable def chkQ (n : Bool) (a : List Int) (m : Bool) (b : List Int) : Int := if (qOf n a m b).isSome then 0 else 40
theorem chkQ_some {n m : Bool} {a b : List Int} {q : Rat} (h : qOf n a m b = some q) : chkQ n a m b = 0 := by unfold chkQ; rw [h]; rfl
theorem chkQ_none {n m : Bool} {a b : List Int} (h : qOf n a m b = none) : chkQ n a m b = 40 := by unfold chkQ; rw [h]; rfl
theorem lr_is {w : World} {B : Nat} {n : Bool} {s : Value} {m : Bool} {l : List Int} (h : LR w B (.agg #[.bool n, s]) m l) : RI w B s l := by
 obtain ⟨s', e, h⟩ := h
 injection e with e
 simp at e
 rw [e.2]; exact h
set_option maxRecDepth 100000 in
set_option maxHeartbeats 4000000 in
theorem QCheck_any (w : World) (v : Value) (n : Bool) (a : List Int) (m : Bool) (b : List Int) (h : QR w w.heap.size v n a m b) :
  Calls Tryz.prog 45 #[v] w fun e w' => Below w.heap.size w w' ∧ e = .returned (.int .i64 (chkQ n a m b)) := by
 obtain ⟨r, hr⟩ : ∃ r, r = chkQ n a m b := ⟨_, rfl⟩; rw [← hr]; have HR := Lib.hid hr; clear hr
 obtain ⟨A, l, c, B, k, d, rfl, Ha, Hb⟩ := h
 have ea := RI.len Ha; have eb := RI.len Hb; have HEB := Lib.hid eb; clear ea eb
 obtain ⟨w0, hw0⟩ : ∃ w0 : World, w0 = (w.alloc (.cells #[.bool n, .slice A l c, .bool m, .slice B k d] 26)) := ⟨_, rfl⟩
 have B0 := Lib.hid (show Below w.heap.size w w0 by rw [hw0]; (repeat' (first | exact Below.refl _ _ | refine Below.drew ?_ | refine Below.alloc ?_ (by first | exact Nat.le_refl _ | (simp; done) | (simp; omega)) _)))
 have z0 : w.heap.size + 1 ≤ w0.heap.size := by rw [hw0]; simp
 have La : CB w0 (w.heap.size) 26 #[.bool n, .slice A l c, .bool m, .slice B k d] := by rw [hw0]; have h := CB.new w 26 #[.bool n, .slice A l c, .bool m, .slice B k d]; simpa using h
 have HA := Lib.hid (show LR w0 w0.heap.size (.agg #[.bool n, .slice A l c]) n a from LR.step ⟨_, rfl, Ha⟩ B0.out); have HB := Lib.hid (show LR w0 w0.heap.size (.agg #[.bool m, .slice B k d]) m b from LR.step ⟨_, rfl, Hb⟩ B0.out); clear Ha Hb
 by_cases hva : Valid n a
 ·have HVA := Lib.hid hva; clear hva
  by_cases hvb : Valid m b
  ·have HVB := Lib.hid hvb; clear hvb
   obtain ⟨x, hx, nx, ax, lx⟩ := numOf_valid HVA.out; obtain ⟨y, hy, ny, by', ly⟩ := numOf_valid HVB.out
   have HX := Lib.hid hx; have HY := Lib.hid hy; have NX := Lib.hid nx; have NY := Lib.hid ny; have AX := Lib.hid ax; have BY := Lib.hid by'; have HL := Lib.hid (And.intro lx ly); clear hx hy nx ny ax by' lx ly
   cases m with
   | true =>
    have HNO := Lib.hid (show qOf n a true b = none by rw [qOf_both HX.out HY.out, if_neg (fun h => by have h1 := NY.out; rw [decide_eq_false (by omega)] at h1; cases h1)])
    go_enter Tryz.func45, Tryz.ntmps45
    go_upto_region 1 with (fail)
    rw [← hw0]; clear hw0
    refine Flow.run [⟨0, 3, fun fv fw => fv = .pointer (some ⟨w.heap.size, 0, none⟩)⟩, ⟨1, 4, fun fv fw => fv = .agg #[.bool n, .slice A l c]⟩, ⟨2, 5, fun fv fw => fv = .int .i64 0⟩, ⟨3, 6, fun fv fw => fv = .bool false⟩, ⟨4, 7, fun fv fw => fv = .bool false⟩, ⟨5, 8, fun fv fw => fv = .pointer (some ⟨w.heap.size, 2, none⟩)⟩, ⟨6, 9, fun fv fw => fv = .agg #[.bool true, .slice B k d]⟩, ⟨7, 10, fun fv fw => fv = .int .i64 0⟩, ⟨8, 11, fun fv fw => fv = .bool false⟩, ⟨9, 12, fun fv fw => fv = .bool false⟩, ⟨10, 13, fun fv fw => fv = .bool false⟩, ⟨11, 14, fun fv fw => fv = .pointer (some ⟨w.heap.size, 2, none⟩)⟩, ⟨12, 15, fun fv fw => fv = .pointer (some ⟨w.heap.size, 2, none⟩)⟩, ⟨13, 16, fun fv fw => fv = .bool true⟩, ⟨14, 17, fun fv fw => fv = .bool true⟩, ⟨15, 18, fun fv fw => fv = .bool true⟩, ⟨16, 19, fun fv fw => True⟩, ⟨17, 20, fun fv fw => True⟩, ⟨18, 21, fun fv fw => True⟩, ⟨19, 22, fun fv fw => True⟩, ⟨20, 23, fun fv fw => True⟩, ⟨21, 24, fun fv fw => fv = .bool true⟩, ⟨22, 25, fun fv fw => fv = .bool true⟩, ⟨23, 26, fun fv fw => True⟩, ⟨24, 27, fun fv fw => True⟩, ⟨25, 28, fun fv fw => True⟩, ⟨26, 29, fun fv fw => True⟩, ⟨27, 30, fun fv fw => True⟩, ⟨28, 31, fun fv fw => True⟩, ⟨29, 32, fun fv fw => True⟩, ⟨30, 33, fun fv fw => True⟩, ⟨31, 34, fun fv fw => True⟩, ⟨32, 35, fun fv fw => True⟩, ⟨33, 36, fun fv fw => True⟩, ⟨34, 37, fun fv fw => fv = .bool true⟩] [] [] 0 (by kernel_rfl) (by kernel_rfl) (by kernel_rfl) (fun _ _ _ _ _ h => h) ?_ ?_ ?_ ?_
    ·refine (all_cons (fun v w1 w2 h hb => h) (all_cons (fun v w1 w2 h hb => h) (all_cons (fun v w1 w2 h hb => h) (all_cons (fun v w1 w2 h hb => h) (all_cons (fun v w1 w2 h hb => h) (all_cons (fun v w1 w2 h hb => h) (all_cons (fun v w1 w2 h hb => h) (all_cons (fun v w1 w2 h hb => h) (all_cons (fun v w1 w2 h hb => h) (all_cons (fun v w1 w2 h hb => h) (all_cons (fun v w1 w2 h hb => h) (all_cons (fun v w1 w2 h hb => h) (all_cons (fun v w1 w2 h hb => h) (all_cons (fun v w1 w2 h hb => h) (all_cons (fun v w1 w2 h hb => h) (all_cons (fun v w1 w2 h hb => h) (all_cons (fun v w1 w2 h hb => h) (all_cons (fun v w1 w2 h hb => h) (all_cons (fun v w1 w2 h hb => h) (all_cons (fun v w1 w2 h hb => h) (all_cons (fun v w1 w2 h hb => h) (all_cons (fun v w1 w2 h hb => h) (all_cons (fun v w1 w2 h hb => h) (all_cons (fun v w1 w2 h hb => h) (all_cons (fun v w1 w2 h hb => h) (all_cons (fun v w1 w2 h hb => h) (all_cons (fun v w1 w2 h hb => h) (all_cons (fun v w1 w2 h hb => h) (all_cons (fun v w1 w2 h hb => h) (all_cons (fun v w1 w2 h hb => h) (all_cons (fun v w1 w2 h hb => h) (all_cons (fun v w1 w2 h hb => h) (all_cons (fun v w1 w2 h hb => h) (all_cons (fun v w1 w2 h hb => h) (all_cons (fun v w1 w2 h hb => h) all_nil)))))))))))))))))))))))))))))))))))
    ·refine (all_cons ?_ (all_cons ?_ (all_cons ?_ (all_cons ?_ (all_cons ?_ (all_cons ?_ (all_cons ?_ (all_cons ?_ (all_cons ?_ (all_cons ?_ (all_cons ?_ (all_cons ?_ (all_cons ?_ (all_cons ?_ (all_cons ?_ (all_cons ?_ (all_cons ?_ (all_cons ?_ (all_cons ?_ (all_cons ?_ (all_cons ?_ (all_cons ?_ (all_cons ?_ (all_cons ?_ (all_cons ?_ (all_cons ?_ (all_cons ?_ (all_cons ?_ (all_cons ?_ (all_cons ?_ (all_cons ?_ (all_cons ?_ (all_cons ?_ (all_cons ?_ (all_cons ?_ all_nil)))))))))))))))))))))))))))))))))))
     ·intro xs wk1 hBk hdep
      have HBk1 := Lib.hid hBk; have zk1 := hBk.size; clear hBk
      clear hdep
      refine wpOp_step (o := _) rfl (fun K hK => ?_)
      simp only [FL]
      go_simp
      refine hK _ _ ⟨.pointer (some ⟨w.heap.size, 0, none⟩), by kernel_rfl, Below.refl _ _, rfl, nF⟩
     ·intro xs wk2 hBk hdep
      have HBk2 := Lib.hid hBk; have zk2 := hBk.size; clear hBk
      have f0 : (xs 0) = .pointer (some ⟨w.heap.size, 0, none⟩) := hdep _ (m_ 0 rfl) (by kernel_rfl)
      clear hdep
      refine wpOp_step (o := _) rfl (fun K hK => ?_)
      simp only [FL]
      have La_3 := CB.step La HBk2.out
      have q4_0 := La_3.cell 0 rfl
      have q4_1 := La_3.cell 1 rfl
      go_simp
      refine hK _ _ ⟨.agg #[.bool n, .slice A l c], by simp only [FL, f0] <;> kernel_rfl, Below.refl _ _, rfl, nF⟩
     ·intro xs wk5 hBk hdep
      have HBk5 := Lib.hid hBk; have zk5 := hBk.size; clear hBk
      have f1 : (xs 1) = .agg #[.bool n, .slice A l c] := hdep _ (m_ 1 rfl) (by kernel_rfl)
      clear hdep
      refine wpOp_step (o := _) rfl (fun K hK => ?_)
      simp only [FL]
      go_simp
      have HA_6 := Lib.hid (LR.step HA.out HBk5.out)
      (with_reducible refine (Check_good HA_6.out HVA.out).mono ?_)
      rintro e wc7 ⟨hb7, rfl⟩
      refine hK _ _ ⟨.int .i64 0, by simp only [FL, f1] <;> kernel_rfl, hb7, rfl, nF⟩
     ·intro xs wk8 hBk hdep
      have HBk8 := Lib.hid hBk; have zk8 := hBk.size; clear hBk
      have f2 : (xs 2) = .int .i64 0 := hdep _ (m_ 2 rfl) (by kernel_rfl)
      clear hdep
      refine wpOp_step (o := _) rfl (fun K hK => ?_)
      simp only [FL]
      go_simp
      refine hK _ _ ⟨.bool false, by simp only [FL, f2] <;> kernel_rfl, Below.refl _ _, rfl, nF⟩
     ·intro xs wk9 hBk hdep
      have HBk9 := Lib.hid hBk; have zk9 := hBk.size; clear hBk
      have f3 : (xs 3) = .bool false := hdep _ (m_ 3 rfl) (by kernel_rfl)
      clear hdep
      refine wpOp_step (o := _) rfl (fun K hK => ?_)
      simp only [FL]
      go_simp
      refine hK _ _ ⟨.bool false, by simp only [FL, f3] <;> kernel_rfl, Below.refl _ _, rfl, nF⟩
     ·intro xs wk10 hBk hdep
      have HBk10 := Lib.hid hBk; have zk10 := hBk.size; clear hBk
      have f4 : (xs 4) = .bool false := hdep _ (m_ 4 rfl) (by kernel_rfl)
      clear hdep
      refine wpOp_step (o := ?go10) ?gho10 ?gh10
      case gho10 => exact rfl
      intro K hK
      simp only [FL]
      go_simp
      refine hK _ _ ⟨.pointer (some ⟨w.heap.size, 2, none⟩), by simp only [FL, f4] <;> kernel_rfl, Below.refl _ _, rfl, nF⟩
     ·intro xs wk11 hBk hdep
      have HBk11 := Lib.hid hBk; have zk11 := hBk.size; clear hBk
      have f4 : (xs 4) = .bool false := hdep _ (m_ 4 rfl) (by kernel_rfl)
      have f5 : (xs 5) = .pointer (some ⟨w.heap.size, 2, none⟩) := hdep _ (m_ 5 rfl) (by kernel_rfl)
      clear hdep
      refine wpOp_step (o := ?go11) ?gho11 ?gh11
      case gho11 => exact rfl
      intro K hK
      simp only [FL]
      have La_12 := CB.step La HBk11.out
      have q13_2 := La_12.cell 2 rfl
      have q13_3 := La_12.cell 3 rfl
      go_simp
      refine hK _ _ ⟨.agg #[.bool true, .slice B k d], by simp only [FL, f4, f5] <;> kernel_rfl, Below.refl _ _, rfl, nF⟩
     ·intro xs wk14 hBk hdep
      have HBk14 := Lib.hid hBk; have zk14 := hBk.size; clear hBk
      have f4 : (xs 4) = .bool false := hdep _ (m_ 4 rfl) (by kernel_rfl)
      have f6 : (xs 6) = .agg #[.bool true, .slice B k d] := hdep _ (m_ 6 rfl) (by kernel_rfl)
      clear hdep
      refine wpOp_step (o := ?go14) ?gho14 ?gh14
      case gho14 => exact rfl
      intro K hK
      simp only [FL]
      go_simp
      have HB_15 := Lib.hid (LR.step HB.out HBk14.out)
      (with_reducible refine (Check_good HB_15.out HVB.out).mono ?_)
      rintro e wc16 ⟨hb16, rfl⟩
      refine hK _ _ ⟨.int .i64 0, by simp only [FL, f4, f6] <;> kernel_rfl, hb16, rfl, nF⟩
     ·intro xs wk17 hBk hdep
      have HBk17 := Lib.hid hBk; have zk17 := hBk.size; clear hBk
      have f4 : (xs 4) = .bool false := hdep _ (m_ 4 rfl) (by kernel_rfl)
      have f7 : (xs 7) = .int .i64 0 := hdep _ (m_ 7 rfl) (by kernel_rfl)
      clear hdep
      refine wpOp_step (o := ?go17) ?gho17 ?gh17
      case gho17 => exact rfl
      intro K hK
      simp only [FL]
      go_simp
      refine hK _ _ ⟨.bool false, by simp only [FL, f4, f7] <;> kernel_rfl, Below.refl _ _, rfl, nF⟩
     ·intro xs wk18 hBk hdep
      have HBk18 := Lib.hid hBk; have zk18 := hBk.size; clear hBk
      have f4 : (xs 4) = .bool false := hdep _ (m_ 4 rfl) (by kernel_rfl)
      have f8 : (xs 8) = .bool false := hdep _ (m_ 8 rfl) (by kernel_rfl)
      clear hdep
      refine wpOp_step (o := _) rfl (fun K hK => ?_)
      simp only [FL]
      go_simp
      refine hK _ _ ⟨.bool false, by simp only [FL, f4, f8] <;> kernel_rfl, Below.refl _ _, rfl, nF⟩
     ·intro xs wk19 hBk hdep
      have HBk19 := Lib.hid hBk; have zk19 := hBk.size; clear hBk
      have f9 : (xs 9) = .bool false := hdep _ (m_ 9 rfl) (by kernel_rfl)
      clear hdep
      refine wpOp_step (o := _) rfl (fun K hK => ?_)
      simp only [FL]
      go_simp
      refine hK _ _ ⟨.bool false, by simp only [FL, f9] <;> kernel_rfl, Below.refl _ _, rfl, nF⟩
     ·intro xs wk20 hBk hdep
      have HBk20 := Lib.hid hBk; have zk20 := hBk.size; clear hBk
      have f10 : (xs 10) = .bool false := hdep _ (m_ 10 rfl) (by kernel_rfl)
      clear hdep
      refine wpOp_step (o := ?go20) ?gho20 ?gh20
      case gho20 => exact rfl
      intro K hK
      simp only [FL]
      go_simp
      refine hK _ _ ⟨.pointer (some ⟨w.heap.size, 2, none⟩), by simp only [FL, f10] <;> kernel_rfl, Below.refl _ _, rfl, nF⟩
     ·intro xs wk21 hBk hdep
      have HBk21 := Lib.hid hBk; have zk21 := hBk.size; clear hBk
      have f10 : (xs 10) = .bool false := hdep _ (m_ 10 rfl) (by kernel_rfl)
      have f11 : (xs 11) = .pointer (some ⟨w.heap.size, 2, none⟩) := hdep _ (m_ 11 rfl) (by kernel_rfl)
      clear hdep
      refine wpOp_step (o := ?go21) ?gho21 ?gh21
      case gho21 => exact rfl
      intro K hK
      simp only [FL]
      go_simp
      refine hK _ _ ⟨.pointer (some ⟨w.heap.size, 2, none⟩), by simp only [FL, f10, f11] <;> kernel_rfl, Below.refl _ _, rfl, nF⟩
     ·intro xs wk22 hBk hdep
      have HBk22 := Lib.hid hBk; have zk22 := hBk.size; clear hBk
      have f10 : (xs 10) = .bool false := hdep _ (m_ 10 rfl) (by kernel_rfl)
      have f12 : (xs 12) = .pointer (some ⟨w.heap.size, 2, none⟩) := hdep _ (m_ 12 rfl) (by kernel_rfl)
      clear hdep
      refine wpOp_step (o := ?go22) ?gho22 ?gh22
      case gho22 => exact rfl
      intro K hK
      simp only [FL]
      have La_23 := CB.step La HBk22.out
      have q24_2 := La_23.cell 2 rfl
      go_simp
      refine hK _ _ ⟨.bool true, by simp only [FL, f10, f12] <;> kernel_rfl, Below.refl _ _, rfl, nF⟩
     ·intro xs wk25 hBk hdep
      have HBk25 := Lib.hid hBk; have zk25 := hBk.size; clear hBk
      have f10 : (xs 10) = .bool false := hdep _ (m_ 10 rfl) (by kernel_rfl)
      have f13 : (xs 13) = .bool true := hdep _ (m_ 13 rfl) (by kernel_rfl)
      clear hdep
      refine wpOp_step (o := _) rfl (fun K hK => ?_)
      simp only [FL]
      go_simp
      refine hK _ _ ⟨.bool true, by simp only [FL, f10, f13] <;> kernel_rfl, Below.refl _ _, rfl, nF⟩
     ·intro xs wk26 hBk hdep
      have HBk26 := Lib.hid hBk; have zk26 := hBk.size; clear hBk
      have f14 : (xs 14) = .bool true := hdep _ (m_ 14 rfl) (by kernel_rfl)
      clear hdep
      refine wpOp_step (o := _) rfl (fun K hK => ?_)
      simp only [FL]
      go_simp
      refine hK _ _ ⟨.bool true, by simp only [FL, f14] <;> kernel_rfl, Below.refl _ _, rfl, nF⟩
     ·intro xs wk27 hBk hdep
      have HBk27 := Lib.hid hBk; have zk27 := hBk.size; clear hBk
      have f15 : (xs 15) = .bool true := hdep _ (m_ 15 rfl) (by kernel_rfl)
      clear hdep
      refine wpOp_step (o := ?go27) ?gho27 ?gh27
      case gho27 => exact rfl
      intro K hK
      simp only [FL]
      go_simp
      refine hK _ _ ⟨undef, by simp only [FL, f15] <;> kernel_rfl, Below.refl _ _, trivial, nF⟩
     ·intro xs wk28 hBk hdep
      have HBk28 := Lib.hid hBk; have zk28 := hBk.size; clear hBk
      have f15 : (xs 15) = .bool true := hdep _ (m_ 15 rfl) (by kernel_rfl)
      clear hdep
      refine wpOp_step (o := ?go28) ?gho28 ?gh28
      case gho28 => exact rfl
      intro K hK
      simp only [FL]
      go_simp
      refine hK _ _ ⟨undef, by simp only [FL, f15] <;> kernel_rfl, Below.refl _ _, trivial, nF⟩
     ·intro xs wk29 hBk hdep
      have HBk29 := Lib.hid hBk; have zk29 := hBk.size; clear hBk
      have f15 : (xs 15) = .bool true := hdep _ (m_ 15 rfl) (by kernel_rfl)
      clear hdep
      refine wpOp_step (o := ?go29) ?gho29 ?gh29
      case gho29 => exact rfl
      intro K hK
      simp only [FL]
      go_simp
      refine hK _ _ ⟨undef, by simp only [FL, f15] <;> kernel_rfl, Below.refl _ _, trivial, nF⟩
     ·intro xs wk30 hBk hdep
      have HBk30 := Lib.hid hBk; have zk30 := hBk.size; clear hBk
      have f15 : (xs 15) = .bool true := hdep _ (m_ 15 rfl) (by kernel_rfl)
      clear hdep
      refine wpOp_step (o := ?go30) ?gho30 ?gh30
      case gho30 => exact rfl
      intro K hK
      simp only [FL]
      go_simp
      refine hK _ _ ⟨undef, by simp only [FL, f15] <;> kernel_rfl, Below.refl _ _, trivial, nF⟩
     ·intro xs wk31 hBk hdep
      have HBk31 := Lib.hid hBk; have zk31 := hBk.size; clear hBk
      have f15 : (xs 15) = .bool true := hdep _ (m_ 15 rfl) (by kernel_rfl)
      clear hdep
      refine wpOp_step (o := ?go31) ?gho31 ?gh31
      case gho31 => exact rfl
      intro K hK
      simp only [FL]
      go_simp
      refine hK _ _ ⟨undef, by simp only [FL, f15] <;> kernel_rfl, Below.refl _ _, trivial, nF⟩
     ·intro xs wk32 hBk hdep
      have HBk32 := Lib.hid hBk; have zk32 := hBk.size; clear hBk
      have f15 : (xs 15) = .bool true := hdep _ (m_ 15 rfl) (by kernel_rfl)
      clear hdep
      refine wpOp_step (o := _) rfl (fun K hK => ?_)
      simp only [FL]
      go_simp
      refine hK _ _ ⟨.bool true, by simp only [FL, f15] <;> kernel_rfl, Below.refl _ _, rfl, nF⟩
     ·intro xs wk33 hBk hdep
      have HBk33 := Lib.hid hBk; have zk33 := hBk.size; clear hBk
      have f21 : (xs 21) = .bool true := hdep _ (m_ 21 rfl) (by kernel_rfl)
      clear hdep
      refine wpOp_step (o := _) rfl (fun K hK => ?_)
      simp only [FL]
      go_simp
      refine hK _ _ ⟨.bool true, by simp only [FL, f21] <;> kernel_rfl, Below.refl _ _, rfl, nF⟩
     ·intro xs wk34 hBk hdep
      have HBk34 := Lib.hid hBk; have zk34 := hBk.size; clear hBk
      have f22 : (xs 22) = .bool true := hdep _ (m_ 22 rfl) (by kernel_rfl)
      clear hdep
      refine wpOp_step (o := ?go34) ?gho34 ?gh34
      case gho34 => exact rfl
      intro K hK
      simp only [FL]
      go_simp
      refine hK _ _ ⟨undef, by simp only [FL, f22] <;> kernel_rfl, Below.refl _ _, trivial, nF⟩
     ·intro xs wk35 hBk hdep
      have HBk35 := Lib.hid hBk; have zk35 := hBk.size; clear hBk
      have f22 : (xs 22) = .bool true := hdep _ (m_ 22 rfl) (by kernel_rfl)
      clear hdep
      refine wpOp_step (o := ?go35) ?gho35 ?gh35
      case gho35 => exact rfl
      intro K hK
      simp only [FL]
      go_simp
      refine hK _ _ ⟨undef, by simp only [FL, f22] <;> kernel_rfl, Below.refl _ _, trivial, nF⟩
     ·intro xs wk36 hBk hdep
      have HBk36 := Lib.hid hBk; have zk36 := hBk.size; clear hBk
      have f22 : (xs 22) = .bool true := hdep _ (m_ 22 rfl) (by kernel_rfl)
      clear hdep
      refine wpOp_step (o := ?go36) ?gho36 ?gh36
      case gho36 => exact rfl
      intro K hK
      simp only [FL]
      go_simp
      refine hK _ _ ⟨undef, by simp only [FL, f22] <;> kernel_rfl, Below.refl _ _, trivial, nF⟩
     ·intro xs wk37 hBk hdep
      have HBk37 := Lib.hid hBk; have zk37 := hBk.size; clear hBk
      have f22 : (xs 22) = .bool true := hdep _ (m_ 22 rfl) (by kernel_rfl)
      clear hdep
      refine wpOp_step (o := ?go37) ?gho37 ?gh37
      case gho37 => exact rfl
      intro K hK
      simp only [FL]
      go_simp
      refine hK _ _ ⟨undef, by simp only [FL, f22] <;> kernel_rfl, Below.refl _ _, trivial, nF⟩
     ·intro xs wk38 hBk hdep
      have HBk38 := Lib.hid hBk; have zk38 := hBk.size; clear hBk
      have f22 : (xs 22) = .bool true := hdep _ (m_ 22 rfl) (by kernel_rfl)
      clear hdep
      refine wpOp_step (o := ?go38) ?gho38 ?gh38
      case gho38 => exact rfl
      intro K hK
      simp only [FL]
      go_simp
      refine hK _ _ ⟨undef, by simp only [FL, f22] <;> kernel_rfl, Below.refl _ _, trivial, nF⟩
     ·intro xs wk39 hBk hdep
      have HBk39 := Lib.hid hBk; have zk39 := hBk.size; clear hBk
      have f22 : (xs 22) = .bool true := hdep _ (m_ 22 rfl) (by kernel_rfl)
      clear hdep
      refine wpOp_step (o := ?go39) ?gho39 ?gh39
      case gho39 => exact rfl
      intro K hK
      simp only [FL]
      go_simp
      refine hK _ _ ⟨undef, by simp only [FL, f22] <;> kernel_rfl, Below.refl _ _, trivial, nF⟩
     ·intro xs wk40 hBk hdep
      have HBk40 := Lib.hid hBk; have zk40 := hBk.size; clear hBk
      have f22 : (xs 22) = .bool true := hdep _ (m_ 22 rfl) (by kernel_rfl)
      clear hdep
      refine wpOp_step (o := ?go40) ?gho40 ?gh40
      case gho40 => exact rfl
      intro K hK
      simp only [FL]
      go_simp
      refine hK _ _ ⟨undef, by simp only [FL, f22] <;> kernel_rfl, Below.refl _ _, trivial, nF⟩
     ·intro xs wk41 hBk hdep
      have HBk41 := Lib.hid hBk; have zk41 := hBk.size; clear hBk
      have f22 : (xs 22) = .bool true := hdep _ (m_ 22 rfl) (by kernel_rfl)
      clear hdep
      refine wpOp_step (o := ?go41) ?gho41 ?gh41
      case gho41 => exact rfl
      intro K hK
      simp only [FL]
      go_simp
      refine hK _ _ ⟨undef, by simp only [FL, f22] <;> kernel_rfl, Below.refl _ _, trivial, nF⟩
     ·intro xs wk42 hBk hdep
      have HBk42 := Lib.hid hBk; have zk42 := hBk.size; clear hBk
      have f22 : (xs 22) = .bool true := hdep _ (m_ 22 rfl) (by kernel_rfl)
      clear hdep
      refine wpOp_step (o := ?go42) ?gho42 ?gh42
      case gho42 => exact rfl
      intro K hK
      simp only [FL]
      go_simp
      refine hK _ _ ⟨undef, by simp only [FL, f22] <;> kernel_rfl, Below.refl _ _, trivial, nF⟩
     ·intro xs wk43 hBk hdep
      have HBk43 := Lib.hid hBk; have zk43 := hBk.size; clear hBk
      have f22 : (xs 22) = .bool true := hdep _ (m_ 22 rfl) (by kernel_rfl)
      clear hdep
      refine wpOp_step (o := ?go43) ?gho43 ?gh43
      case gho43 => exact rfl
      intro K hK
      simp only [FL]
      go_simp
      refine hK _ _ ⟨undef, by simp only [FL, f22] <;> kernel_rfl, Below.refl _ _, trivial, nF⟩
     ·intro xs wk44 hBk hdep
      have HBk44 := Lib.hid hBk; have zk44 := hBk.size; clear hBk
      have f22 : (xs 22) = .bool true := hdep _ (m_ 22 rfl) (by kernel_rfl)
      clear hdep
      refine wpOp_step (o := ?go44) ?gho44 ?gh44
      case gho44 => exact rfl
      intro K hK
      simp only [FL]
      go_simp
      refine hK _ _ ⟨undef, by simp only [FL, f22] <;> kernel_rfl, Below.refl _ _, trivial, nF⟩
     ·intro xs wk45 hBk hdep
      have HBk45 := Lib.hid hBk; have zk45 := hBk.size; clear hBk
      have f22 : (xs 22) = .bool true := hdep _ (m_ 22 rfl) (by kernel_rfl)
      clear hdep
      refine wpOp_step (o := _) rfl (fun K hK => ?_)
      simp only [FL]
      go_simp
      refine hK _ _ ⟨.bool true, by simp only [FL, f22] <;> kernel_rfl, Below.refl _ _, rfl, nF⟩
    ·exact all_nil
    ·intro xs wf46 hbf hf hn hd
     have f0 : (xs 0) = .pointer (some ⟨w.heap.size, 0, none⟩) := hf _ (m_ 0 rfl)
     have f1 : (xs 1) = .agg #[.bool n, .slice A l c] := hf _ (m_ 1 rfl)
     have f2 : (xs 2) = .int .i64 0 := hf _ (m_ 2 rfl)
     have f3 : (xs 3) = .bool false := hf _ (m_ 3 rfl)
     have f4 : (xs 4) = .bool false := hf _ (m_ 4 rfl)
     have f5 : (xs 5) = .pointer (some ⟨w.heap.size, 2, none⟩) := hf _ (m_ 5 rfl)
     have f6 : (xs 6) = .agg #[.bool true, .slice B k d] := hf _ (m_ 6 rfl)
     have f7 : (xs 7) = .int .i64 0 := hf _ (m_ 7 rfl)
     have f8 : (xs 8) = .bool false := hf _ (m_ 8 rfl)
     have f9 : (xs 9) = .bool false := hf _ (m_ 9 rfl)
     have f10 : (xs 10) = .bool false := hf _ (m_ 10 rfl)
     have f11 : (xs 11) = .pointer (some ⟨w.heap.size, 2, none⟩) := hf _ (m_ 11 rfl)
     have f12 : (xs 12) = .pointer (some ⟨w.heap.size, 2, none⟩) := hf _ (m_ 12 rfl)
     have f13 : (xs 13) = .bool true := hf _ (m_ 13 rfl)
     have f14 : (xs 14) = .bool true := hf _ (m_ 14 rfl)
     have f15 : (xs 15) = .bool true := hf _ (m_ 15 rfl)
     have f16 : True := hf _ (m_ 16 rfl)
     have f17 : True := hf _ (m_ 17 rfl)
     have f18 : True := hf _ (m_ 18 rfl)
     have f19 : True := hf _ (m_ 19 rfl)
     have f20 : True := hf _ (m_ 20 rfl)
     have f21 : (xs 21) = .bool true := hf _ (m_ 21 rfl)
     have f22 : (xs 22) = .bool true := hf _ (m_ 22 rfl)
     have f23 : True := hf _ (m_ 23 rfl)
     have f24 : True := hf _ (m_ 24 rfl)
     have f25 : True := hf _ (m_ 25 rfl)
     have f26 : True := hf _ (m_ 26 rfl)
     have f27 : True := hf _ (m_ 27 rfl)
     have f28 : True := hf _ (m_ 28 rfl)
     have f29 : True := hf _ (m_ 29 rfl)
     have f30 : True := hf _ (m_ 30 rfl)
     have f31 : True := hf _ (m_ 31 rfl)
     have f32 : True := hf _ (m_ 32 rfl)
     have f33 : True := hf _ (m_ 33 rfl)
     have f34 : (xs 34) = .bool true := hf _ (m_ 34 rfl)
     clear hf hn hd
     simp only [FL]
     have B47 := Lib.hid hbf
     have z47 := B47.out.size
     have HB48 := Lib.hid (B0.out.trans (B47.out.mono B0.out.size))
     clear hbf
     generalize xs 0 = x0 at *
     generalize xs 1 = x1 at *
     generalize xs 2 = x2 at *
     generalize xs 3 = x3 at *
     generalize xs 4 = x4 at *
     generalize xs 5 = x5 at *
     generalize xs 6 = x6 at *
     generalize xs 7 = x7 at *
     generalize xs 8 = x8 at *
     generalize xs 9 = x9 at *
     generalize xs 10 = x10 at *
     generalize xs 11 = x11 at *
     generalize xs 12 = x12 at *
     generalize xs 13 = x13 at *
     generalize xs 14 = x14 at *
     generalize xs 15 = x15 at *
     generalize xs 16 = x16 at *
     generalize xs 17 = x17 at *
     generalize xs 18 = x18 at *
     generalize xs 19 = x19 at *
     generalize xs 20 = x20 at *
     generalize xs 21 = x21 at *
     generalize xs 22 = x22 at *
     generalize xs 23 = x23 at *
     generalize xs 24 = x24 at *
     generalize xs 25 = x25 at *
     generalize xs 26 = x26 at *
     generalize xs 27 = x27 at *
     generalize xs 28 = x28 at *
     generalize xs 29 = x29 at *
     generalize xs 30 = x30 at *
     generalize xs 31 = x31 at *
     generalize xs 32 = x32 at *
     generalize xs 33 = x33 at *
     generalize xs 34 = x34 at *
     obtain rfl := f0
     obtain rfl := f1
     obtain rfl := f2
     obtain rfl := f3
     obtain rfl := f4
     obtain rfl := f5
     obtain rfl := f6
     obtain rfl := f7
     obtain rfl := f8
     obtain rfl := f9
     obtain rfl := f10
     obtain rfl := f11
     obtain rfl := f12
     obtain rfl := f13
     obtain rfl := f14
     obtain rfl := f15
     clear f16
     clear f17
     clear f18
     clear f19
     clear f20
     obtain rfl := f21
     obtain rfl := f22
     clear f23
     clear f24
     clear f25
     clear f26
     clear f27
     clear f28
     clear f29
     clear f30
     clear f31
     clear f32
     clear f33
     obtain rfl := f34
     refine Early.done (by kernel_rfl) ?_ _
     (try simp only [Exit.then])
     go_wp2
     go_ret
     exact ⟨HB48.out, by rw [HR.out, chkQ_none HNO.out]; rfl⟩
   | false =>
    by_cases hk : k = 0
    ·have hk1 : ((k : Int) == 0) = true := by rw [beq_iff_eq]; omega
     have HNO := Lib.hid (show qOf n a false b = none by rw [qOf_both HX.out HY.out, if_neg (fun h => by have h1 := HEB.out; rw [BY.out, ni_length, hk] at h1; have := dig_nil.1 h1.symm; omega)]); clear hk
     go_enter Tryz.func45, Tryz.ntmps45
     go_upto_region 1 with (fail)
     rw [← hw0]; clear hw0
     refine Flow.run [⟨0, 3, fun fv fw => fv = .pointer (some ⟨w.heap.size, 0, none⟩)⟩, ⟨1, 4, fun fv fw => fv = .agg #[.bool n, .slice A l c]⟩, ⟨2, 5, fun fv fw => fv = .int .i64 0⟩, ⟨3, 6, fun fv fw => fv = .bool false⟩, ⟨4, 7, fun fv fw => fv = .bool false⟩, ⟨5, 8, fun fv fw => fv = .pointer (some ⟨w.heap.size, 2, none⟩)⟩, ⟨6, 9, fun fv fw => fv = .agg #[.bool false, .slice B k d]⟩, ⟨7, 10, fun fv fw => fv = .int .i64 0⟩, ⟨8, 11, fun fv fw => fv = .bool false⟩, ⟨9, 12, fun fv fw => fv = .bool false⟩, ⟨10, 13, fun fv fw => fv = .bool false⟩, ⟨11, 14, fun fv fw => fv = .pointer (some ⟨w.heap.size, 2, none⟩)⟩, ⟨12, 15, fun fv fw => fv = .pointer (some ⟨w.heap.size, 2, none⟩)⟩, ⟨13, 16, fun fv fw => fv = .bool false⟩, ⟨14, 17, fun fv fw => fv = .bool false⟩, ⟨15, 18, fun fv fw => fv = .bool false⟩, ⟨16, 19, fun fv fw => fv = .pointer (some ⟨w.heap.size, 2, none⟩)⟩, ⟨17, 20, fun fv fw => fv = .pointer (some ⟨w.heap.size, 3, none⟩)⟩, ⟨18, 21, fun fv fw => fv = .slice B k d⟩, ⟨19, 22, fun fv fw => fv = .int .i64 (k : Int)⟩, ⟨20, 23, fun fv fw => fv = .bool true⟩, ⟨21, 24, fun fv fw => fv = .bool true⟩, ⟨22, 25, fun fv fw => fv = .bool true⟩, ⟨23, 26, fun fv fw => True⟩, ⟨24, 27, fun fv fw => True⟩, ⟨25, 28, fun fv fw => True⟩, ⟨26, 29, fun fv fw => True⟩, ⟨27, 30, fun fv fw => True⟩, ⟨28, 31, fun fv fw => True⟩, ⟨29, 32, fun fv fw => True⟩, ⟨30, 33, fun fv fw => True⟩, ⟨31, 34, fun fv fw => True⟩, ⟨32, 35, fun fv fw => True⟩, ⟨33, 36, fun fv fw => True⟩, ⟨34, 37, fun fv fw => fv = .bool true⟩] [] [] 0 (by kernel_rfl) (by kernel_rfl) (by kernel_rfl) (fun _ _ _ _ _ h => h) ?_ ?_ ?_ ?_
     ·refine (all_cons (fun v w1 w2 h hb => h) (all_cons (fun v w1 w2 h hb => h) (all_cons (fun v w1 w2 h hb => h) (all_cons (fun v w1 w2 h hb => h) (all_cons (fun v w1 w2 h hb => h) (all_cons (fun v w1 w2 h hb => h) (all_cons (fun v w1 w2 h hb => h) (all_cons (fun v w1 w2 h hb => h) (all_cons (fun v w1 w2 h hb => h) (all_cons (fun v w1 w2 h hb => h) (all_cons (fun v w1 w2 h hb => h) (all_cons (fun v w1 w2 h hb => h) (all_cons (fun v w1 w2 h hb => h) (all_cons (fun v w1 w2 h hb => h) (all_cons (fun v w1 w2 h hb => h) (all_cons (fun v w1 w2 h hb => h) (all_cons (fun v w1 w2 h hb => h) (all_cons (fun v w1 w2 h hb => h) (all_cons (fun v w1 w2 h hb => h) (all_cons (fun v w1 w2 h hb => h) (all_cons (fun v w1 w2 h hb => h) (all_cons (fun v w1 w2 h hb => h) (all_cons (fun v w1 w2 h hb => h) (all_cons (fun v w1 w2 h hb => h) (all_cons (fun v w1 w2 h hb => h) (all_cons (fun v w1 w2 h hb => h) (all_cons (fun v w1 w2 h hb => h) (all_cons (fun v w1 w2 h hb => h) (all_cons (fun v w1 w2 h hb => h) (all_cons (fun v w1 w2 h hb => h) (all_cons (fun v w1 w2 h hb => h) (all_cons (fun v w1 w2 h hb => h) (all_cons (fun v w1 w2 h hb => h) (all_cons (fun v w1 w2 h hb => h) (all_cons (fun v w1 w2 h hb => h) all_nil)))))))))))))))))))))))))))))))))))
     ·refine (all_cons ?_ (all_cons ?_ (all_cons ?_ (all_cons ?_ (all_cons ?_ (all_cons ?_ (all_cons ?_ (all_cons ?_ (all_cons ?_ (all_cons ?_ (all_cons ?_ (all_cons ?_ (all_cons ?_ (all_cons ?_ (all_cons ?_ (all_cons ?_ (all_cons ?_ (all_cons ?_ (all_cons ?_ (all_cons ?_ (all_cons ?_ (all_cons ?_ (all_cons ?_ (all_cons ?_ (all_cons ?_ (all_cons ?_ (all_cons ?_ (all_cons ?_ (all_cons ?_ (all_cons ?_ (all_cons ?_ (all_cons ?_ (all_cons ?_ (all_cons ?_ (all_cons ?_ all_nil)))))))))))))))))))))))))))))))))))
      ·intro xs wk49 hBk hdep
       have HBk49 := Lib.hid hBk; have zk49 := hBk.size; clear hBk
       clear hdep
       refine wpOp_step (o := _) rfl (fun K hK => ?_)
       simp only [FL]
       go_simp
       refine hK _ _ ⟨.pointer (some ⟨w.heap.size, 0, none⟩), by kernel_rfl, Below.refl _ _, rfl, nF⟩
      ·intro xs wk50 hBk hdep
       have HBk50 := Lib.hid hBk; have zk50 := hBk.size; clear hBk
       have f0 : (xs 0) = .pointer (some ⟨w.heap.size, 0, none⟩) := hdep _ (m_ 0 rfl) (by kernel_rfl)
       clear hdep
       refine wpOp_step (o := _) rfl (fun K hK => ?_)
       simp only [FL]
       have La_51 := CB.step La HBk50.out
       have q52_0 := La_51.cell 0 rfl
       have q52_1 := La_51.cell 1 rfl
       go_simp
       refine hK _ _ ⟨.agg #[.bool n, .slice A l c], by simp only [FL, f0] <;> kernel_rfl, Below.refl _ _, rfl, nF⟩
      ·intro xs wk53 hBk hdep
       have HBk53 := Lib.hid hBk; have zk53 := hBk.size; clear hBk
       have f1 : (xs 1) = .agg #[.bool n, .slice A l c] := hdep _ (m_ 1 rfl) (by kernel_rfl)
       clear hdep
       refine wpOp_step (o := _) rfl (fun K hK => ?_)
       simp only [FL]
       go_simp
       have HA_54 := Lib.hid (LR.step HA.out HBk53.out)
       (with_reducible refine (Check_good HA_54.out HVA.out).mono ?_)
       rintro e wc55 ⟨hb55, rfl⟩
       refine hK _ _ ⟨.int .i64 0, by simp only [FL, f1] <;> kernel_rfl, hb55, rfl, nF⟩
      ·intro xs wk56 hBk hdep
       have HBk56 := Lib.hid hBk; have zk56 := hBk.size; clear hBk
       have f2 : (xs 2) = .int .i64 0 := hdep _ (m_ 2 rfl) (by kernel_rfl)
       clear hdep
       refine wpOp_step (o := _) rfl (fun K hK => ?_)
       simp only [FL]
       go_simp
       refine hK _ _ ⟨.bool false, by simp only [FL, f2] <;> kernel_rfl, Below.refl _ _, rfl, nF⟩
      ·intro xs wk57 hBk hdep
       have HBk57 := Lib.hid hBk; have zk57 := hBk.size; clear hBk
       have f3 : (xs 3) = .bool false := hdep _ (m_ 3 rfl) (by kernel_rfl)
       clear hdep
       refine wpOp_step (o := _) rfl (fun K hK => ?_)
       simp only [FL]
       go_simp
       refine hK _ _ ⟨.bool false, by simp only [FL, f3] <;> kernel_rfl, Below.refl _ _, rfl, nF⟩
      ·intro xs wk58 hBk hdep
       have HBk58 := Lib.hid hBk; have zk58 := hBk.size; clear hBk
       have f4 : (xs 4) = .bool false := hdep _ (m_ 4 rfl) (by kernel_rfl)
       clear hdep
       refine wpOp_step (o := ?go58) ?gho58 ?gh58
       case gho58 => exact rfl
       intro K hK
       simp only [FL]
       go_simp
       refine hK _ _ ⟨.pointer (some ⟨w.heap.size, 2, none⟩), by simp only [FL, f4] <;> kernel_rfl, Below.refl _ _, rfl, nF⟩
      ·intro xs wk59 hBk hdep
       have HBk59 := Lib.hid hBk; have zk59 := hBk.size; clear hBk
       have f4 : (xs 4) = .bool false := hdep _ (m_ 4 rfl) (by kernel_rfl)
       have f5 : (xs 5) = .pointer (some ⟨w.heap.size, 2, none⟩) := hdep _ (m_ 5 rfl) (by kernel_rfl)
       clear hdep
       refine wpOp_step (o := ?go59) ?gho59 ?gh59
       case gho59 => exact rfl
       intro K hK
       simp only [FL]
       have La_60 := CB.step La HBk59.out
       have q61_2 := La_60.cell 2 rfl
       have q61_3 := La_60.cell 3 rfl
       go_simp
       refine hK _ _ ⟨.agg #[.bool false, .slice B k d], by simp only [FL, f4, f5] <;> kernel_rfl, Below.refl _ _, rfl, nF⟩
      ·intro xs wk62 hBk hdep
       have HBk62 := Lib.hid hBk; have zk62 := hBk.size; clear hBk
       have f4 : (xs 4) = .bool false := hdep _ (m_ 4 rfl) (by kernel_rfl)
       have f6 : (xs 6) = .agg #[.bool false, .slice B k d] := hdep _ (m_ 6 rfl) (by kernel_rfl)
       clear hdep
       refine wpOp_step (o := ?go62) ?gho62 ?gh62
       case gho62 => exact rfl
       intro K hK
       simp only [FL]
       go_simp
       have HB_63 := Lib.hid (LR.step HB.out HBk62.out)
       (with_reducible refine (Check_good HB_63.out HVB.out).mono ?_)
       rintro e wc64 ⟨hb64, rfl⟩
       refine hK _ _ ⟨.int .i64 0, by simp only [FL, f4, f6] <;> kernel_rfl, hb64, rfl, nF⟩
      ·intro xs wk65 hBk hdep
       have HBk65 := Lib.hid hBk; have zk65 := hBk.size; clear hBk
       have f4 : (xs 4) = .bool false := hdep _ (m_ 4 rfl) (by kernel_rfl)
       have f7 : (xs 7) = .int .i64 0 := hdep _ (m_ 7 rfl) (by kernel_rfl)
       clear hdep
       refine wpOp_step (o := ?go65) ?gho65 ?gh65
       case gho65 => exact rfl
       intro K hK
       simp only [FL]
       go_simp
       refine hK _ _ ⟨.bool false, by simp only [FL, f4, f7] <;> kernel_rfl, Below.refl _ _, rfl, nF⟩
      ·intro xs wk66 hBk hdep
       have HBk66 := Lib.hid hBk; have zk66 := hBk.size; clear hBk
       have f4 : (xs 4) = .bool false := hdep _ (m_ 4 rfl) (by kernel_rfl)
       have f8 : (xs 8) = .bool false := hdep _ (m_ 8 rfl) (by kernel_rfl)
       clear hdep
       refine wpOp_step (o := _) rfl (fun K hK => ?_)
       simp only [FL]
       go_simp
       refine hK _ _ ⟨.bool false, by simp only [FL, f4, f8] <;> kernel_rfl, Below.refl _ _, rfl, nF⟩
      ·intro xs wk67 hBk hdep
       have HBk67 := Lib.hid hBk; have zk67 := hBk.size; clear hBk
       have f9 : (xs 9) = .bool false := hdep _ (m_ 9 rfl) (by kernel_rfl)
       clear hdep
       refine wpOp_step (o := _) rfl (fun K hK => ?_)
       simp only [FL]
       go_simp
       refine hK _ _ ⟨.bool false, by simp only [FL, f9] <;> kernel_rfl, Below.refl _ _, rfl, nF⟩
      ·intro xs wk68 hBk hdep
       have HBk68 := Lib.hid hBk; have zk68 := hBk.size; clear hBk
       have f10 : (xs 10) = .bool false := hdep _ (m_ 10 rfl) (by kernel_rfl)
       clear hdep
       refine wpOp_step (o := ?go68) ?gho68 ?gh68
       case gho68 => exact rfl
       intro K hK
       simp only [FL]
       go_simp
       refine hK _ _ ⟨.pointer (some ⟨w.heap.size, 2, none⟩), by simp only [FL, f10] <;> kernel_rfl, Below.refl _ _, rfl, nF⟩
      ·intro xs wk69 hBk hdep
       have HBk69 := Lib.hid hBk; have zk69 := hBk.size; clear hBk
       have f10 : (xs 10) = .bool false := hdep _ (m_ 10 rfl) (by kernel_rfl)
       have f11 : (xs 11) = .pointer (some ⟨w.heap.size, 2, none⟩) := hdep _ (m_ 11 rfl) (by kernel_rfl)
       clear hdep
       refine wpOp_step (o := ?go69) ?gho69 ?gh69
       case gho69 => exact rfl
       intro K hK
       simp only [FL]
       go_simp
       refine hK _ _ ⟨.pointer (some ⟨w.heap.size, 2, none⟩), by simp only [FL, f10, f11] <;> kernel_rfl, Below.refl _ _, rfl, nF⟩
      ·intro xs wk70 hBk hdep
       have HBk70 := Lib.hid hBk; have zk70 := hBk.size; clear hBk
       have f10 : (xs 10) = .bool false := hdep _ (m_ 10 rfl) (by kernel_rfl)
       have f12 : (xs 12) = .pointer (some ⟨w.heap.size, 2, none⟩) := hdep _ (m_ 12 rfl) (by kernel_rfl)
       clear hdep
       refine wpOp_step (o := ?go70) ?gho70 ?gh70
       case gho70 => exact rfl
       intro K hK
       simp only [FL]
       have La_71 := CB.step La HBk70.out
       have q72_2 := La_71.cell 2 rfl
       go_simp
       refine hK _ _ ⟨.bool false, by simp only [FL, f10, f12] <;> kernel_rfl, Below.refl _ _, rfl, nF⟩
      ·intro xs wk73 hBk hdep
       have HBk73 := Lib.hid hBk; have zk73 := hBk.size; clear hBk
       have f10 : (xs 10) = .bool false := hdep _ (m_ 10 rfl) (by kernel_rfl)
       have f13 : (xs 13) = .bool false := hdep _ (m_ 13 rfl) (by kernel_rfl)
       clear hdep
       refine wpOp_step (o := _) rfl (fun K hK => ?_)
       simp only [FL]
       go_simp
       refine hK _ _ ⟨.bool false, by simp only [FL, f10, f13] <;> kernel_rfl, Below.refl _ _, rfl, nF⟩
      ·intro xs wk74 hBk hdep
       have HBk74 := Lib.hid hBk; have zk74 := hBk.size; clear hBk
       have f14 : (xs 14) = .bool false := hdep _ (m_ 14 rfl) (by kernel_rfl)
       clear hdep
       refine wpOp_step (o := _) rfl (fun K hK => ?_)
       simp only [FL]
       go_simp
       refine hK _ _ ⟨.bool false, by simp only [FL, f14] <;> kernel_rfl, Below.refl _ _, rfl, nF⟩
      ·intro xs wk75 hBk hdep
       have HBk75 := Lib.hid hBk; have zk75 := hBk.size; clear hBk
       have f15 : (xs 15) = .bool false := hdep _ (m_ 15 rfl) (by kernel_rfl)
       clear hdep
       refine wpOp_step (o := ?go75) ?gho75 ?gh75
       case gho75 => exact rfl
       intro K hK
       simp only [FL]
       go_simp
       refine hK _ _ ⟨.pointer (some ⟨w.heap.size, 2, none⟩), by simp only [FL, f15] <;> kernel_rfl, Below.refl _ _, rfl, nF⟩
      ·intro xs wk76 hBk hdep
       have HBk76 := Lib.hid hBk; have zk76 := hBk.size; clear hBk
       have f15 : (xs 15) = .bool false := hdep _ (m_ 15 rfl) (by kernel_rfl)
       have f16 : (xs 16) = .pointer (some ⟨w.heap.size, 2, none⟩) := hdep _ (m_ 16 rfl) (by kernel_rfl)
       clear hdep
       refine wpOp_step (o := ?go76) ?gho76 ?gh76
       case gho76 => exact rfl
       intro K hK
       simp only [FL]
       go_simp
       refine hK _ _ ⟨.pointer (some ⟨w.heap.size, 3, none⟩), by simp only [FL, f15, f16] <;> kernel_rfl, Below.refl _ _, rfl, nF⟩
      ·intro xs wk77 hBk hdep
       have HBk77 := Lib.hid hBk; have zk77 := hBk.size; clear hBk
       have f15 : (xs 15) = .bool false := hdep _ (m_ 15 rfl) (by kernel_rfl)
       have f17 : (xs 17) = .pointer (some ⟨w.heap.size, 3, none⟩) := hdep _ (m_ 17 rfl) (by kernel_rfl)
       clear hdep
       refine wpOp_step (o := ?go77) ?gho77 ?gh77
       case gho77 => exact rfl
       intro K hK
       simp only [FL]
       have La_78 := CB.step La HBk77.out
       have q79_3 := La_78.cell 3 rfl
       go_simp
       refine hK _ _ ⟨.slice B k d, by simp only [FL, f15, f17] <;> kernel_rfl, Below.refl _ _, rfl, nF⟩
      ·intro xs wk80 hBk hdep
       have HBk80 := Lib.hid hBk; have zk80 := hBk.size; clear hBk
       have f15 : (xs 15) = .bool false := hdep _ (m_ 15 rfl) (by kernel_rfl)
       have f18 : (xs 18) = .slice B k d := hdep _ (m_ 18 rfl) (by kernel_rfl)
       clear hdep
       refine wpOp_step (o := ?go80) ?gho80 ?gh80
       case gho80 => exact rfl
       intro K hK
       simp only [FL]
       go_simp
       refine hK _ _ ⟨.int .i64 (k : Int), by simp only [FL, f15, f18] <;> kernel_rfl, Below.refl _ _, rfl, nF⟩
      ·intro xs wk81 hBk hdep
       have HBk81 := Lib.hid hBk; have zk81 := hBk.size; clear hBk
       have f15 : (xs 15) = .bool false := hdep _ (m_ 15 rfl) (by kernel_rfl)
       have f19 : (xs 19) = .int .i64 (k : Int) := hdep _ (m_ 19 rfl) (by kernel_rfl)
       clear hdep
       refine wpOp_step (o := ?go81) ?gho81 ?gh81
       case gho81 => exact rfl
       intro K hK
       simp only [FL]
       go_simp
       refine hK _ _ ⟨.bool true, by simp only [FL, f15, f19] <;> kernel_rfl, Below.refl _ _, rfl, nF⟩
      ·intro xs wk82 hBk hdep
       have HBk82 := Lib.hid hBk; have zk82 := hBk.size; clear hBk
       have f15 : (xs 15) = .bool false := hdep _ (m_ 15 rfl) (by kernel_rfl)
       have f20 : (xs 20) = .bool true := hdep _ (m_ 20 rfl) (by kernel_rfl)
       clear hdep
       refine wpOp_step (o := _) rfl (fun K hK => ?_)
       simp only [FL]
       go_simp
       refine hK _ _ ⟨.bool true, by simp only [FL, f15, f20] <;> kernel_rfl, Below.refl _ _, rfl, nF⟩
      ·intro xs wk83 hBk hdep
       have HBk83 := Lib.hid hBk; have zk83 := hBk.size; clear hBk
       have f21 : (xs 21) = .bool true := hdep _ (m_ 21 rfl) (by kernel_rfl)
       clear hdep
       refine wpOp_step (o := _) rfl (fun K hK => ?_)
       simp only [FL]
       go_simp
       refine hK _ _ ⟨.bool true, by simp only [FL, f21] <;> kernel_rfl, Below.refl _ _, rfl, nF⟩
      ·intro xs wk84 hBk hdep
       have HBk84 := Lib.hid hBk; have zk84 := hBk.size; clear hBk
       have f22 : (xs 22) = .bool true := hdep _ (m_ 22 rfl) (by kernel_rfl)
       clear hdep
       refine wpOp_step (o := ?go84) ?gho84 ?gh84
       case gho84 => exact rfl
       intro K hK
       simp only [FL]
       go_simp
       refine hK _ _ ⟨undef, by simp only [FL, f22] <;> kernel_rfl, Below.refl _ _, trivial, nF⟩
      ·intro xs wk85 hBk hdep
       have HBk85 := Lib.hid hBk; have zk85 := hBk.size; clear hBk
       have f22 : (xs 22) = .bool true := hdep _ (m_ 22 rfl) (by kernel_rfl)
       clear hdep
       refine wpOp_step (o := ?go85) ?gho85 ?gh85
       case gho85 => exact rfl
       intro K hK
       simp only [FL]
       go_simp
       refine hK _ _ ⟨undef, by simp only [FL, f22] <;> kernel_rfl, Below.refl _ _, trivial, nF⟩
      ·intro xs wk86 hBk hdep
       have HBk86 := Lib.hid hBk; have zk86 := hBk.size; clear hBk
       have f22 : (xs 22) = .bool true := hdep _ (m_ 22 rfl) (by kernel_rfl)
       clear hdep
       refine wpOp_step (o := ?go86) ?gho86 ?gh86
       case gho86 => exact rfl
       intro K hK
       simp only [FL]
       go_simp
       refine hK _ _ ⟨undef, by simp only [FL, f22] <;> kernel_rfl, Below.refl _ _, trivial, nF⟩
      ·intro xs wk87 hBk hdep
       have HBk87 := Lib.hid hBk; have zk87 := hBk.size; clear hBk
       have f22 : (xs 22) = .bool true := hdep _ (m_ 22 rfl) (by kernel_rfl)
       clear hdep
       refine wpOp_step (o := ?go87) ?gho87 ?gh87
       case gho87 => exact rfl
       intro K hK
       simp only [FL]
       go_simp
       refine hK _ _ ⟨undef, by simp only [FL, f22] <;> kernel_rfl, Below.refl _ _, trivial, nF⟩
      ·intro xs wk88 hBk hdep
       have HBk88 := Lib.hid hBk; have zk88 := hBk.size; clear hBk
       have f22 : (xs 22) = .bool true := hdep _ (m_ 22 rfl) (by kernel_rfl)
       clear hdep
       refine wpOp_step (o := ?go88) ?gho88 ?gh88
       case gho88 => exact rfl
       intro K hK
       simp only [FL]
       go_simp
       refine hK _ _ ⟨undef, by simp only [FL, f22] <;> kernel_rfl, Below.refl _ _, trivial, nF⟩
      ·intro xs wk89 hBk hdep
       have HBk89 := Lib.hid hBk; have zk89 := hBk.size; clear hBk
       have f22 : (xs 22) = .bool true := hdep _ (m_ 22 rfl) (by kernel_rfl)
       clear hdep
       refine wpOp_step (o := ?go89) ?gho89 ?gh89
       case gho89 => exact rfl
       intro K hK
       simp only [FL]
       go_simp
       refine hK _ _ ⟨undef, by simp only [FL, f22] <;> kernel_rfl, Below.refl _ _, trivial, nF⟩
      ·intro xs wk90 hBk hdep
       have HBk90 := Lib.hid hBk; have zk90 := hBk.size; clear hBk
       have f22 : (xs 22) = .bool true := hdep _ (m_ 22 rfl) (by kernel_rfl)
       clear hdep
       refine wpOp_step (o := ?go90) ?gho90 ?gh90
       case gho90 => exact rfl
       intro K hK
       simp only [FL]
       go_simp
       refine hK _ _ ⟨undef, by simp only [FL, f22] <;> kernel_rfl, Below.refl _ _, trivial, nF⟩
      ·intro xs wk91 hBk hdep
       have HBk91 := Lib.hid hBk; have zk91 := hBk.size; clear hBk
       have f22 : (xs 22) = .bool true := hdep _ (m_ 22 rfl) (by kernel_rfl)
       clear hdep
       refine wpOp_step (o := ?go91) ?gho91 ?gh91
       case gho91 => exact rfl
       intro K hK
       simp only [FL]
       go_simp
       refine hK _ _ ⟨undef, by simp only [FL, f22] <;> kernel_rfl, Below.refl _ _, trivial, nF⟩
      ·intro xs wk92 hBk hdep
       have HBk92 := Lib.hid hBk; have zk92 := hBk.size; clear hBk
       have f22 : (xs 22) = .bool true := hdep _ (m_ 22 rfl) (by kernel_rfl)
       clear hdep
       refine wpOp_step (o := ?go92) ?gho92 ?gh92
       case gho92 => exact rfl
       intro K hK
       simp only [FL]
       go_simp
       refine hK _ _ ⟨undef, by simp only [FL, f22] <;> kernel_rfl, Below.refl _ _, trivial, nF⟩
      ·intro xs wk93 hBk hdep
       have HBk93 := Lib.hid hBk; have zk93 := hBk.size; clear hBk
       have f22 : (xs 22) = .bool true := hdep _ (m_ 22 rfl) (by kernel_rfl)
       clear hdep
       refine wpOp_step (o := ?go93) ?gho93 ?gh93
       case gho93 => exact rfl
       intro K hK
       simp only [FL]
       go_simp
       refine hK _ _ ⟨undef, by simp only [FL, f22] <;> kernel_rfl, Below.refl _ _, trivial, nF⟩
      ·intro xs wk94 hBk hdep
       have HBk94 := Lib.hid hBk; have zk94 := hBk.size; clear hBk
       have f22 : (xs 22) = .bool true := hdep _ (m_ 22 rfl) (by kernel_rfl)
       clear hdep
       refine wpOp_step (o := ?go94) ?gho94 ?gh94
       case gho94 => exact rfl
       intro K hK
       simp only [FL]
       go_simp
       refine hK _ _ ⟨undef, by simp only [FL, f22] <;> kernel_rfl, Below.refl _ _, trivial, nF⟩
      ·intro xs wk95 hBk hdep
       have HBk95 := Lib.hid hBk; have zk95 := hBk.size; clear hBk
       have f22 : (xs 22) = .bool true := hdep _ (m_ 22 rfl) (by kernel_rfl)
       clear hdep
       refine wpOp_step (o := _) rfl (fun K hK => ?_)
       simp only [FL]
       go_simp
       refine hK _ _ ⟨.bool true, by simp only [FL, f22] <;> kernel_rfl, Below.refl _ _, rfl, nF⟩
     ·exact all_nil
     ·intro xs wf96 hbf hf hn hd
      have f0 : (xs 0) = .pointer (some ⟨w.heap.size, 0, none⟩) := hf _ (m_ 0 rfl)
      have f1 : (xs 1) = .agg #[.bool n, .slice A l c] := hf _ (m_ 1 rfl)
      have f2 : (xs 2) = .int .i64 0 := hf _ (m_ 2 rfl)
      have f3 : (xs 3) = .bool false := hf _ (m_ 3 rfl)
      have f4 : (xs 4) = .bool false := hf _ (m_ 4 rfl)
      have f5 : (xs 5) = .pointer (some ⟨w.heap.size, 2, none⟩) := hf _ (m_ 5 rfl)
      have f6 : (xs 6) = .agg #[.bool false, .slice B k d] := hf _ (m_ 6 rfl)
      have f7 : (xs 7) = .int .i64 0 := hf _ (m_ 7 rfl)
      have f8 : (xs 8) = .bool false := hf _ (m_ 8 rfl)
      have f9 : (xs 9) = .bool false := hf _ (m_ 9 rfl)
      have f10 : (xs 10) = .bool false := hf _ (m_ 10 rfl)
      have f11 : (xs 11) = .pointer (some ⟨w.heap.size, 2, none⟩) := hf _ (m_ 11 rfl)
      have f12 : (xs 12) = .pointer (some ⟨w.heap.size, 2, none⟩) := hf _ (m_ 12 rfl)
      have f13 : (xs 13) = .bool false := hf _ (m_ 13 rfl)
      have f14 : (xs 14) = .bool false := hf _ (m_ 14 rfl)
      have f15 : (xs 15) = .bool false := hf _ (m_ 15 rfl)
      have f16 : (xs 16) = .pointer (some ⟨w.heap.size, 2, none⟩) := hf _ (m_ 16 rfl)
      have f17 : (xs 17) = .pointer (some ⟨w.heap.size, 3, none⟩) := hf _ (m_ 17 rfl)
      have f18 : (xs 18) = .slice B k d := hf _ (m_ 18 rfl)
      have f19 : (xs 19) = .int .i64 (k : Int) := hf _ (m_ 19 rfl)
      have f20 : (xs 20) = .bool true := hf _ (m_ 20 rfl)
      have f21 : (xs 21) = .bool true := hf _ (m_ 21 rfl)
      have f22 : (xs 22) = .bool true := hf _ (m_ 22 rfl)
      have f23 : True := hf _ (m_ 23 rfl)
      have f24 : True := hf _ (m_ 24 rfl)
      have f25 : True := hf _ (m_ 25 rfl)
      have f26 : True := hf _ (m_ 26 rfl)
      have f27 : True := hf _ (m_ 27 rfl)
      have f28 : True := hf _ (m_ 28 rfl)
      have f29 : True := hf _ (m_ 29 rfl)
      have f30 : True := hf _ (m_ 30 rfl)
      have f31 : True := hf _ (m_ 31 rfl)
      have f32 : True := hf _ (m_ 32 rfl)
      have f33 : True := hf _ (m_ 33 rfl)
      have f34 : (xs 34) = .bool true := hf _ (m_ 34 rfl)
      clear hf hn hd
      simp only [FL]
      have B97 := Lib.hid hbf
      have z97 := B97.out.size
      have HB98 := Lib.hid (B0.out.trans (B97.out.mono B0.out.size))
      clear hbf
      generalize xs 0 = x0 at *
      generalize xs 1 = x1 at *
      generalize xs 2 = x2 at *
      generalize xs 3 = x3 at *
      generalize xs 4 = x4 at *
      generalize xs 5 = x5 at *
      generalize xs 6 = x6 at *
      generalize xs 7 = x7 at *
      generalize xs 8 = x8 at *
      generalize xs 9 = x9 at *
      generalize xs 10 = x10 at *
      generalize xs 11 = x11 at *
      generalize xs 12 = x12 at *
      generalize xs 13 = x13 at *
      generalize xs 14 = x14 at *
      generalize xs 15 = x15 at *
      generalize xs 16 = x16 at *
      generalize xs 17 = x17 at *
      generalize xs 18 = x18 at *
      generalize xs 19 = x19 at *
      generalize xs 20 = x20 at *
      generalize xs 21 = x21 at *
      generalize xs 22 = x22 at *
      generalize xs 23 = x23 at *
      generalize xs 24 = x24 at *
      generalize xs 25 = x25 at *
      generalize xs 26 = x26 at *
      generalize xs 27 = x27 at *
      generalize xs 28 = x28 at *
      generalize xs 29 = x29 at *
      generalize xs 30 = x30 at *
      generalize xs 31 = x31 at *
      generalize xs 32 = x32 at *
      generalize xs 33 = x33 at *
      generalize xs 34 = x34 at *
      obtain rfl := f0
      obtain rfl := f1
      obtain rfl := f2
      obtain rfl := f3
      obtain rfl := f4
      obtain rfl := f5
      obtain rfl := f6
      obtain rfl := f7
      obtain rfl := f8
      obtain rfl := f9
      obtain rfl := f10
      obtain rfl := f11
      obtain rfl := f12
      obtain rfl := f13
      obtain rfl := f14
      obtain rfl := f15
      obtain rfl := f16
      obtain rfl := f17
      obtain rfl := f18
      obtain rfl := f19
      obtain rfl := f20
      obtain rfl := f21
      obtain rfl := f22
      clear f23
      clear f24
      clear f25
      clear f26
      clear f27
      clear f28
      clear f29
      clear f30
      clear f31
      clear f32
      clear f33
      obtain rfl := f34
      refine Early.done (by kernel_rfl) ?_ _
      (try simp only [Exit.then])
      go_wp2
      go_ret
      exact ⟨HB98.out, by rw [HR.out, chkQ_none HNO.out]; rfl⟩
    ·have hk1 : ((k : Int) == 0) = false := by rw [beq_eq_false_iff_ne]; omega
     have hy1 : y.natAbs ≠ 0 := fun h => hk (by have h1 := HEB.out; rw [BY.out, ni_length, h, dig_zero] at h1; exact h1)
     have hy0 : 0 < y := by
      have h3 := NY.out; rcases Int.lt_or_le y 0 with h4 | h4
      ·rw [decide_eq_true h4] at h3; cases h3
      ·omega
     have HY0 := Lib.hid hy0; have HY1 := Lib.hid hy1; clear hy0 hy1 hk
     obtain ⟨g, hg⟩ : ∃ g, g = Nat.gcd x.natAbs y.natAbs := ⟨_, rfl⟩; have HG := Lib.hid hg; clear hg
     have HA1 := Lib.hid (show RN w0 w0.heap.size (.slice A l c) (dig x.natAbs) from by have h1 : RI w0 w0.heap.size (.slice A l c) a := lr_is HA.out; rw [AX.out] at h1; exact h1)
     have HB1 := Lib.hid (show RN w0 w0.heap.size (.slice B k d) (dig y.natAbs) from by have h1 : RI w0 w0.heap.size (.slice B k d) b := lr_is HB.out; rw [BY.out] at h1; exact h1)
     by_cases hg1 : g = 1
     ·have HG1 := Lib.hid hg1; clear hg1
      have HYES := Lib.hid (show qOf n a false b = some (mkRat x y.natAbs) by rw [qOf_both HX.out HY.out, if_pos ⟨HY0.out, by rw [← HG.out]; exact HG1.out⟩])
      go_enter Tryz.func45, Tryz.ntmps45
      go_upto_region 1 with (fail)
      rw [← hw0]; clear hw0
      refine Flow.run [⟨0, 3, fun fv fw => fv = .pointer (some ⟨w.heap.size, 0, none⟩)⟩, ⟨1, 4, fun fv fw => fv = .agg #[.bool n, .slice A l c]⟩, ⟨2, 5, fun fv fw => fv = .int .i64 0⟩, ⟨3, 6, fun fv fw => fv = .bool false⟩, ⟨4, 7, fun fv fw => fv = .bool false⟩, ⟨5, 8, fun fv fw => fv = .pointer (some ⟨w.heap.size, 2, none⟩)⟩, ⟨6, 9, fun fv fw => fv = .agg #[.bool false, .slice B k d]⟩, ⟨7, 10, fun fv fw => fv = .int .i64 0⟩, ⟨8, 11, fun fv fw => fv = .bool false⟩, ⟨9, 12, fun fv fw => fv = .bool false⟩, ⟨10, 13, fun fv fw => fv = .bool false⟩, ⟨11, 14, fun fv fw => fv = .pointer (some ⟨w.heap.size, 2, none⟩)⟩, ⟨12, 15, fun fv fw => fv = .pointer (some ⟨w.heap.size, 2, none⟩)⟩, ⟨13, 16, fun fv fw => fv = .bool false⟩, ⟨14, 17, fun fv fw => fv = .bool false⟩, ⟨15, 18, fun fv fw => fv = .bool false⟩, ⟨16, 19, fun fv fw => fv = .pointer (some ⟨w.heap.size, 2, none⟩)⟩, ⟨17, 20, fun fv fw => fv = .pointer (some ⟨w.heap.size, 3, none⟩)⟩, ⟨18, 21, fun fv fw => fv = .slice B k d⟩, ⟨19, 22, fun fv fw => fv = .int .i64 (k : Int)⟩, ⟨20, 23, fun fv fw => fv = .bool false⟩, ⟨21, 24, fun fv fw => fv = .bool false⟩, ⟨22, 25, fun fv fw => fv = .bool false⟩, ⟨23, 26, fun fv fw => fv = .agg #[.bool n, .slice A l c, .bool false, .slice B k d]⟩, ⟨24, 27, fun fv fw => fv = .agg #[.bool n, .slice A l c, .slice B k d]⟩, ⟨25, 28, fun fv fw => fv = .agg #[.bool n, .slice A l c]⟩, ⟨26, 29, fun fv fw => fv = .slice A l c⟩, ⟨27, 30, fun fv fw => fv = .pointer (some ⟨w.heap.size, 2, none⟩)⟩, ⟨28, 31, fun fv fw => fv = .pointer (some ⟨w.heap.size, 3, none⟩)⟩, ⟨29, 32, fun fv fw => fv = .slice B k d⟩, ⟨30, 33, fun fv fw => RN fw fw.heap.size fv (dig g)⟩, ⟨31, 34, fun fv fw => RN fw fw.heap.size fv (dig 1)⟩, ⟨32, 35, fun fv fw => ∃ c : Int, fv = .int .i64 c ∧ SignOf c (g) (1)⟩, ⟨33, 36, fun fv fw => fv = .bool false⟩, ⟨34, 37, fun fv fw => fv = .bool false⟩] [] [] 0 (by kernel_rfl) (by kernel_rfl) (by kernel_rfl) (fun _ _ _ _ _ h => h) ?_ ?_ ?_ ?_
      ·refine (all_cons (fun v w1 w2 h hb => h) (all_cons (fun v w1 w2 h hb => h) (all_cons (fun v w1 w2 h hb => h) (all_cons (fun v w1 w2 h hb => h) (all_cons (fun v w1 w2 h hb => h) (all_cons (fun v w1 w2 h hb => h) (all_cons (fun v w1 w2 h hb => h) (all_cons (fun v w1 w2 h hb => h) (all_cons (fun v w1 w2 h hb => h) (all_cons (fun v w1 w2 h hb => h) (all_cons (fun v w1 w2 h hb => h) (all_cons (fun v w1 w2 h hb => h) (all_cons (fun v w1 w2 h hb => h) (all_cons (fun v w1 w2 h hb => h) (all_cons (fun v w1 w2 h hb => h) (all_cons (fun v w1 w2 h hb => h) (all_cons (fun v w1 w2 h hb => h) (all_cons (fun v w1 w2 h hb => h) (all_cons (fun v w1 w2 h hb => h) (all_cons (fun v w1 w2 h hb => h) (all_cons (fun v w1 w2 h hb => h) (all_cons (fun v w1 w2 h hb => h) (all_cons (fun v w1 w2 h hb => h) (all_cons (fun v w1 w2 h hb => h) (all_cons (fun v w1 w2 h hb => h) (all_cons (fun v w1 w2 h hb => h) (all_cons (fun v w1 w2 h hb => h) (all_cons (fun v w1 w2 h hb => h) (all_cons (fun v w1 w2 h hb => h) (all_cons (fun v w1 w2 h hb => h) (all_cons (fun v w1 w2 h hb => h.step hb) (all_cons (fun v w1 w2 h hb => h.step hb) (all_cons (fun v w1 w2 h hb => h) (all_cons (fun v w1 w2 h hb => h) (all_cons (fun v w1 w2 h hb => h) all_nil)))))))))))))))))))))))))))))))))))
      ·refine (all_cons ?_ (all_cons ?_ (all_cons ?_ (all_cons ?_ (all_cons ?_ (all_cons ?_ (all_cons ?_ (all_cons ?_ (all_cons ?_ (all_cons ?_ (all_cons ?_ (all_cons ?_ (all_cons ?_ (all_cons ?_ (all_cons ?_ (all_cons ?_ (all_cons ?_ (all_cons ?_ (all_cons ?_ (all_cons ?_ (all_cons ?_ (all_cons ?_ (all_cons ?_ (all_cons ?_ (all_cons ?_ (all_cons ?_ (all_cons ?_ (all_cons ?_ (all_cons ?_ (all_cons ?_ (all_cons ?_ (all_cons ?_ (all_cons ?_ (all_cons ?_ (all_cons ?_ all_nil)))))))))))))))))))))))))))))))))))
       ·intro xs wk99 hBk hdep
        have HBk99 := Lib.hid hBk; have zk99 := hBk.size; clear hBk
        clear hdep
        refine wpOp_step (o := _) rfl (fun K hK => ?_)
        simp only [FL]
        go_simp
        refine hK _ _ ⟨.pointer (some ⟨w.heap.size, 0, none⟩), by kernel_rfl, Below.refl _ _, rfl, nF⟩
       ·intro xs wk100 hBk hdep
        have HBk100 := Lib.hid hBk; have zk100 := hBk.size; clear hBk
        have f0 : (xs 0) = .pointer (some ⟨w.heap.size, 0, none⟩) := hdep _ (m_ 0 rfl) (by kernel_rfl)
        clear hdep
        refine wpOp_step (o := _) rfl (fun K hK => ?_)
        simp only [FL]
        have La_101 := CB.step La HBk100.out
        have q102_0 := La_101.cell 0 rfl
        have q102_1 := La_101.cell 1 rfl
        go_simp
        refine hK _ _ ⟨.agg #[.bool n, .slice A l c], by simp only [FL, f0] <;> kernel_rfl, Below.refl _ _, rfl, nF⟩
       ·intro xs wk103 hBk hdep
        have HBk103 := Lib.hid hBk; have zk103 := hBk.size; clear hBk
        have f1 : (xs 1) = .agg #[.bool n, .slice A l c] := hdep _ (m_ 1 rfl) (by kernel_rfl)
        clear hdep
        refine wpOp_step (o := _) rfl (fun K hK => ?_)
        simp only [FL]
        go_simp
        have HA_104 := Lib.hid (LR.step HA.out HBk103.out)
        (with_reducible refine (Check_good HA_104.out HVA.out).mono ?_)
        rintro e wc105 ⟨hb105, rfl⟩
        refine hK _ _ ⟨.int .i64 0, by simp only [FL, f1] <;> kernel_rfl, hb105, rfl, nF⟩
       ·intro xs wk106 hBk hdep
        have HBk106 := Lib.hid hBk; have zk106 := hBk.size; clear hBk
        have f2 : (xs 2) = .int .i64 0 := hdep _ (m_ 2 rfl) (by kernel_rfl)
        clear hdep
        refine wpOp_step (o := _) rfl (fun K hK => ?_)
        simp only [FL]
        go_simp
        refine hK _ _ ⟨.bool false, by simp only [FL, f2] <;> kernel_rfl, Below.refl _ _, rfl, nF⟩
       ·intro xs wk107 hBk hdep
        have HBk107 := Lib.hid hBk; have zk107 := hBk.size; clear hBk
        have f3 : (xs 3) = .bool false := hdep _ (m_ 3 rfl) (by kernel_rfl)
        clear hdep
        refine wpOp_step (o := _) rfl (fun K hK => ?_)
        simp only [FL]
        go_simp
        refine hK _ _ ⟨.bool false, by simp only [FL, f3] <;> kernel_rfl, Below.refl _ _, rfl, nF⟩
       ·intro xs wk108 hBk hdep
        have HBk108 := Lib.hid hBk; have zk108 := hBk.size; clear hBk
        have f4 : (xs 4) = .bool false := hdep _ (m_ 4 rfl) (by kernel_rfl)
        clear hdep
        refine wpOp_step (o := ?go108) ?gho108 ?gh108
        case gho108 => exact rfl
        intro K hK
        simp only [FL]
        go_simp
        refine hK _ _ ⟨.pointer (some ⟨w.heap.size, 2, none⟩), by simp only [FL, f4] <;> kernel_rfl, Below.refl _ _, rfl, nF⟩
       ·intro xs wk109 hBk hdep
        have HBk109 := Lib.hid hBk; have zk109 := hBk.size; clear hBk
        have f4 : (xs 4) = .bool false := hdep _ (m_ 4 rfl) (by kernel_rfl)
        have f5 : (xs 5) = .pointer (some ⟨w.heap.size, 2, none⟩) := hdep _ (m_ 5 rfl) (by kernel_rfl)
        clear hdep
        refine wpOp_step (o := ?go109) ?gho109 ?gh109
        case gho109 => exact rfl
        intro K hK
        simp only [FL]
        have La_110 := CB.step La HBk109.out
        have q111_2 := La_110.cell 2 rfl
        have q111_3 := La_110.cell 3 rfl
        go_simp
        refine hK _ _ ⟨.agg #[.bool false, .slice B k d], by simp only [FL, f4, f5] <;> kernel_rfl, Below.refl _ _, rfl, nF⟩
       ·intro xs wk112 hBk hdep
        have HBk112 := Lib.hid hBk; have zk112 := hBk.size; clear hBk
        have f4 : (xs 4) = .bool false := hdep _ (m_ 4 rfl) (by kernel_rfl)
        have f6 : (xs 6) = .agg #[.bool false, .slice B k d] := hdep _ (m_ 6 rfl) (by kernel_rfl)
        clear hdep
        refine wpOp_step (o := ?go112) ?gho112 ?gh112
        case gho112 => exact rfl
        intro K hK
        simp only [FL]
        go_simp
        have HB_113 := Lib.hid (LR.step HB.out HBk112.out)
        (with_reducible refine (Check_good HB_113.out HVB.out).mono ?_)
        rintro e wc114 ⟨hb114, rfl⟩
        refine hK _ _ ⟨.int .i64 0, by simp only [FL, f4, f6] <;> kernel_rfl, hb114, rfl, nF⟩
       ·intro xs wk115 hBk hdep
        have HBk115 := Lib.hid hBk; have zk115 := hBk.size; clear hBk
        have f4 : (xs 4) = .bool false := hdep _ (m_ 4 rfl) (by kernel_rfl)
        have f7 : (xs 7) = .int .i64 0 := hdep _ (m_ 7 rfl) (by kernel_rfl)
        clear hdep
        refine wpOp_step (o := ?go115) ?gho115 ?gh115
        case gho115 => exact rfl
        intro K hK
        simp only [FL]
        go_simp
        refine hK _ _ ⟨.bool false, by simp only [FL, f4, f7] <;> kernel_rfl, Below.refl _ _, rfl, nF⟩
       ·intro xs wk116 hBk hdep
        have HBk116 := Lib.hid hBk; have zk116 := hBk.size; clear hBk
        have f4 : (xs 4) = .bool false := hdep _ (m_ 4 rfl) (by kernel_rfl)
        have f8 : (xs 8) = .bool false := hdep _ (m_ 8 rfl) (by kernel_rfl)
        clear hdep
        refine wpOp_step (o := _) rfl (fun K hK => ?_)
        simp only [FL]
        go_simp
        refine hK _ _ ⟨.bool false, by simp only [FL, f4, f8] <;> kernel_rfl, Below.refl _ _, rfl, nF⟩
       ·intro xs wk117 hBk hdep
        have HBk117 := Lib.hid hBk; have zk117 := hBk.size; clear hBk
        have f9 : (xs 9) = .bool false := hdep _ (m_ 9 rfl) (by kernel_rfl)
        clear hdep
        refine wpOp_step (o := _) rfl (fun K hK => ?_)
        simp only [FL]
        go_simp
        refine hK _ _ ⟨.bool false, by simp only [FL, f9] <;> kernel_rfl, Below.refl _ _, rfl, nF⟩
       ·intro xs wk118 hBk hdep
        have HBk118 := Lib.hid hBk; have zk118 := hBk.size; clear hBk
        have f10 : (xs 10) = .bool false := hdep _ (m_ 10 rfl) (by kernel_rfl)
        clear hdep
        refine wpOp_step (o := ?go118) ?gho118 ?gh118
        case gho118 => exact rfl
        intro K hK
        simp only [FL]
        go_simp
        refine hK _ _ ⟨.pointer (some ⟨w.heap.size, 2, none⟩), by simp only [FL, f10] <;> kernel_rfl, Below.refl _ _, rfl, nF⟩
       ·intro xs wk119 hBk hdep
        have HBk119 := Lib.hid hBk; have zk119 := hBk.size; clear hBk
        have f10 : (xs 10) = .bool false := hdep _ (m_ 10 rfl) (by kernel_rfl)
        have f11 : (xs 11) = .pointer (some ⟨w.heap.size, 2, none⟩) := hdep _ (m_ 11 rfl) (by kernel_rfl)
        clear hdep
        refine wpOp_step (o := ?go119) ?gho119 ?gh119
        case gho119 => exact rfl
        intro K hK
        simp only [FL]
        go_simp
        refine hK _ _ ⟨.pointer (some ⟨w.heap.size, 2, none⟩), by simp only [FL, f10, f11] <;> kernel_rfl, Below.refl _ _, rfl, nF⟩
       ·intro xs wk120 hBk hdep
        have HBk120 := Lib.hid hBk; have zk120 := hBk.size; clear hBk
        have f10 : (xs 10) = .bool false := hdep _ (m_ 10 rfl) (by kernel_rfl)
        have f12 : (xs 12) = .pointer (some ⟨w.heap.size, 2, none⟩) := hdep _ (m_ 12 rfl) (by kernel_rfl)
        clear hdep
        refine wpOp_step (o := ?go120) ?gho120 ?gh120
        case gho120 => exact rfl
        intro K hK
        simp only [FL]
        have La_121 := CB.step La HBk120.out
        have q122_2 := La_121.cell 2 rfl
        go_simp
        refine hK _ _ ⟨.bool false, by simp only [FL, f10, f12] <;> kernel_rfl, Below.refl _ _, rfl, nF⟩
       ·intro xs wk123 hBk hdep
        have HBk123 := Lib.hid hBk; have zk123 := hBk.size; clear hBk
        have f10 : (xs 10) = .bool false := hdep _ (m_ 10 rfl) (by kernel_rfl)
        have f13 : (xs 13) = .bool false := hdep _ (m_ 13 rfl) (by kernel_rfl)
        clear hdep
        refine wpOp_step (o := _) rfl (fun K hK => ?_)
        simp only [FL]
        go_simp
        refine hK _ _ ⟨.bool false, by simp only [FL, f10, f13] <;> kernel_rfl, Below.refl _ _, rfl, nF⟩
       ·intro xs wk124 hBk hdep
        have HBk124 := Lib.hid hBk; have zk124 := hBk.size; clear hBk
        have f14 : (xs 14) = .bool false := hdep _ (m_ 14 rfl) (by kernel_rfl)
        clear hdep
        refine wpOp_step (o := _) rfl (fun K hK => ?_)
        simp only [FL]
        go_simp
        refine hK _ _ ⟨.bool false, by simp only [FL, f14] <;> kernel_rfl, Below.refl _ _, rfl, nF⟩
       ·intro xs wk125 hBk hdep
        have HBk125 := Lib.hid hBk; have zk125 := hBk.size; clear hBk
        have f15 : (xs 15) = .bool false := hdep _ (m_ 15 rfl) (by kernel_rfl)
        clear hdep
        refine wpOp_step (o := ?go125) ?gho125 ?gh125
        case gho125 => exact rfl
        intro K hK
        simp only [FL]
        go_simp
        refine hK _ _ ⟨.pointer (some ⟨w.heap.size, 2, none⟩), by simp only [FL, f15] <;> kernel_rfl, Below.refl _ _, rfl, nF⟩
       ·intro xs wk126 hBk hdep
        have HBk126 := Lib.hid hBk; have zk126 := hBk.size; clear hBk
        have f15 : (xs 15) = .bool false := hdep _ (m_ 15 rfl) (by kernel_rfl)
        have f16 : (xs 16) = .pointer (some ⟨w.heap.size, 2, none⟩) := hdep _ (m_ 16 rfl) (by kernel_rfl)
        clear hdep
        refine wpOp_step (o := ?go126) ?gho126 ?gh126
        case gho126 => exact rfl
        intro K hK
        simp only [FL]
        go_simp
        refine hK _ _ ⟨.pointer (some ⟨w.heap.size, 3, none⟩), by simp only [FL, f15, f16] <;> kernel_rfl, Below.refl _ _, rfl, nF⟩
       ·intro xs wk127 hBk hdep
        have HBk127 := Lib.hid hBk; have zk127 := hBk.size; clear hBk
        have f15 : (xs 15) = .bool false := hdep _ (m_ 15 rfl) (by kernel_rfl)
        have f17 : (xs 17) = .pointer (some ⟨w.heap.size, 3, none⟩) := hdep _ (m_ 17 rfl) (by kernel_rfl)
        clear hdep
        refine wpOp_step (o := ?go127) ?gho127 ?gh127
        case gho127 => exact rfl
        intro K hK
        simp only [FL]
        have La_128 := CB.step La HBk127.out
        have q129_3 := La_128.cell 3 rfl
        go_simp
        refine hK _ _ ⟨.slice B k d, by simp only [FL, f15, f17] <;> kernel_rfl, Below.refl _ _, rfl, nF⟩
       ·intro xs wk130 hBk hdep
        have HBk130 := Lib.hid hBk; have zk130 := hBk.size; clear hBk
        have f15 : (xs 15) = .bool false := hdep _ (m_ 15 rfl) (by kernel_rfl)
        have f18 : (xs 18) = .slice B k d := hdep _ (m_ 18 rfl) (by kernel_rfl)
        clear hdep
        refine wpOp_step (o := ?go130) ?gho130 ?gh130
        case gho130 => exact rfl
        intro K hK
        simp only [FL]
        go_simp
        refine hK _ _ ⟨.int .i64 (k : Int), by simp only [FL, f15, f18] <;> kernel_rfl, Below.refl _ _, rfl, nF⟩
       ·intro xs wk131 hBk hdep
        have HBk131 := Lib.hid hBk; have zk131 := hBk.size; clear hBk
        have f15 : (xs 15) = .bool false := hdep _ (m_ 15 rfl) (by kernel_rfl)
        have f19 : (xs 19) = .int .i64 (k : Int) := hdep _ (m_ 19 rfl) (by kernel_rfl)
        clear hdep
        refine wpOp_step (o := ?go131) ?gho131 ?gh131
        case gho131 => exact rfl
        intro K hK
        simp only [FL]
        go_simp
        refine hK _ _ ⟨.bool false, by simp only [FL, f15, f19] <;> kernel_rfl, Below.refl _ _, rfl, nF⟩
       ·intro xs wk132 hBk hdep
        have HBk132 := Lib.hid hBk; have zk132 := hBk.size; clear hBk
        have f15 : (xs 15) = .bool false := hdep _ (m_ 15 rfl) (by kernel_rfl)
        have f20 : (xs 20) = .bool false := hdep _ (m_ 20 rfl) (by kernel_rfl)
        clear hdep
        refine wpOp_step (o := _) rfl (fun K hK => ?_)
        simp only [FL]
        go_simp
        refine hK _ _ ⟨.bool false, by simp only [FL, f15, f20] <;> kernel_rfl, Below.refl _ _, rfl, nF⟩
       ·intro xs wk133 hBk hdep
        have HBk133 := Lib.hid hBk; have zk133 := hBk.size; clear hBk
        have f21 : (xs 21) = .bool false := hdep _ (m_ 21 rfl) (by kernel_rfl)
        clear hdep
        refine wpOp_step (o := _) rfl (fun K hK => ?_)
        simp only [FL]
        go_simp
        refine hK _ _ ⟨.bool false, by simp only [FL, f21] <;> kernel_rfl, Below.refl _ _, rfl, nF⟩
       ·intro xs wk134 hBk hdep
        have HBk134 := Lib.hid hBk; have zk134 := hBk.size; clear hBk
        have f22 : (xs 22) = .bool false := hdep _ (m_ 22 rfl) (by kernel_rfl)
        clear hdep
        refine wpOp_step (o := ?go134) ?gho134 ?gh134
        case gho134 => exact rfl
        intro K hK
        simp only [FL]
        have La_135 := CB.step La HBk134.out
        have q136_0 := La_135.cell 0 rfl
        have q136_1 := La_135.cell 1 rfl
        have q136_2 := La_135.cell 2 rfl
        have q136_3 := La_135.cell 3 rfl
        go_simp
        refine hK _ _ ⟨.agg #[.bool n, .slice A l c, .bool false, .slice B k d], by simp only [FL, f22] <;> kernel_rfl, Below.refl _ _, rfl, nF⟩
       ·intro xs wk137 hBk hdep
        have HBk137 := Lib.hid hBk; have zk137 := hBk.size; clear hBk
        have f22 : (xs 22) = .bool false := hdep _ (m_ 22 rfl) (by kernel_rfl)
        have f23 : (xs 23) = .agg #[.bool n, .slice A l c, .bool false, .slice B k d] := hdep _ (m_ 23 rfl) (by kernel_rfl)
        clear hdep
        refine wpOp_step (o := ?go137) ?gho137 ?gh137
        case gho137 => exact rfl
        intro K hK
        simp only [FL]
        go_simp
        (with_reducible refine (Read_any _ n false A B l c k d).mono ?_)
        rintro e wc138 ⟨hb138, rfl⟩
        refine hK _ _ ⟨.agg #[.bool n, .slice A l c, .slice B k d], by simp only [FL, f22, f23] <;> kernel_rfl, hb138, rfl, nF⟩
       ·intro xs wk139 hBk hdep
        have HBk139 := Lib.hid hBk; have zk139 := hBk.size; clear hBk
        have f22 : (xs 22) = .bool false := hdep _ (m_ 22 rfl) (by kernel_rfl)
        have f24 : (xs 24) = .agg #[.bool n, .slice A l c, .slice B k d] := hdep _ (m_ 24 rfl) (by kernel_rfl)
        clear hdep
        refine wpOp_step (o := ?go139) ?gho139 ?gh139
        case gho139 => exact rfl
        intro K hK
        simp only [FL]
        go_simp
        refine hK _ _ ⟨.agg #[.bool n, .slice A l c], by simp only [FL, f22, f24] <;> kernel_rfl, Below.refl _ _, rfl, nF⟩
       ·intro xs wk140 hBk hdep
        have HBk140 := Lib.hid hBk; have zk140 := hBk.size; clear hBk
        have f22 : (xs 22) = .bool false := hdep _ (m_ 22 rfl) (by kernel_rfl)
        have f25 : (xs 25) = .agg #[.bool n, .slice A l c] := hdep _ (m_ 25 rfl) (by kernel_rfl)
        clear hdep
        refine wpOp_step (o := ?go140) ?gho140 ?gh140
        case gho140 => exact rfl
        intro K hK
        simp only [FL]
        go_simp
        refine hK _ _ ⟨.slice A l c, by simp only [FL, f22, f25] <;> kernel_rfl, Below.refl _ _, rfl, nF⟩
       ·intro xs wk141 hBk hdep
        have HBk141 := Lib.hid hBk; have zk141 := hBk.size; clear hBk
        have f22 : (xs 22) = .bool false := hdep _ (m_ 22 rfl) (by kernel_rfl)
        clear hdep
        refine wpOp_step (o := ?go141) ?gho141 ?gh141
        case gho141 => exact rfl
        intro K hK
        simp only [FL]
        go_simp
        refine hK _ _ ⟨.pointer (some ⟨w.heap.size, 2, none⟩), by simp only [FL, f22] <;> kernel_rfl, Below.refl _ _, rfl, nF⟩
       ·intro xs wk142 hBk hdep
        have HBk142 := Lib.hid hBk; have zk142 := hBk.size; clear hBk
        have f22 : (xs 22) = .bool false := hdep _ (m_ 22 rfl) (by kernel_rfl)
        have f27 : (xs 27) = .pointer (some ⟨w.heap.size, 2, none⟩) := hdep _ (m_ 27 rfl) (by kernel_rfl)
        clear hdep
        refine wpOp_step (o := ?go142) ?gho142 ?gh142
        case gho142 => exact rfl
        intro K hK
        simp only [FL]
        go_simp
        refine hK _ _ ⟨.pointer (some ⟨w.heap.size, 3, none⟩), by simp only [FL, f22, f27] <;> kernel_rfl, Below.refl _ _, rfl, nF⟩
       ·intro xs wk143 hBk hdep
        have HBk143 := Lib.hid hBk; have zk143 := hBk.size; clear hBk
        have f22 : (xs 22) = .bool false := hdep _ (m_ 22 rfl) (by kernel_rfl)
        have f28 : (xs 28) = .pointer (some ⟨w.heap.size, 3, none⟩) := hdep _ (m_ 28 rfl) (by kernel_rfl)
        clear hdep
        refine wpOp_step (o := ?go143) ?gho143 ?gh143
        case gho143 => exact rfl
        intro K hK
        simp only [FL]
        have La_144 := CB.step La HBk143.out
        have q145_3 := La_144.cell 3 rfl
        go_simp
        refine hK _ _ ⟨.slice B k d, by simp only [FL, f22, f28] <;> kernel_rfl, Below.refl _ _, rfl, nF⟩
       ·intro xs wk146 hBk hdep
        have HBk146 := Lib.hid hBk; have zk146 := hBk.size; clear hBk
        have f22 : (xs 22) = .bool false := hdep _ (m_ 22 rfl) (by kernel_rfl)
        have f26 : (xs 26) = .slice A l c := hdep _ (m_ 26 rfl) (by kernel_rfl)
        have f29 : (xs 29) = .slice B k d := hdep _ (m_ 29 rfl) (by kernel_rfl)
        clear hdep
        refine wpOp_step (o := ?go146) ?gho146 ?gh146
        case gho146 => exact rfl
        intro K hK
        simp only [FL]
        go_simp
        have HA1_147 := Lib.hid (RN.step HA1.out HBk146.out)
        have HB1_148 := Lib.hid (RN.step HB1.out HBk146.out)
        (with_reducible refine ((show Calls Tryz.prog _ _ _ _ from HG.out ▸ Common_any _ _ _ x.natAbs y.natAbs HA1_147.out HB1_148.out (by have := HL.out; omega) (by have := HL.out; omega))).mono ?_)
        rintro e wc149 ⟨hb149, v149, rfl, hv149⟩
        refine hK _ _ ⟨v149, by simp only [FL, f22, f26, f29] <;> kernel_rfl, hb149, hv149, nF⟩
       ·intro xs wk150 hBk hdep
        have HBk150 := Lib.hid hBk; have zk150 := hBk.size; clear hBk
        have f22 : (xs 22) = .bool false := hdep _ (m_ 22 rfl) (by kernel_rfl)
        clear hdep
        refine wpOp_step (o := ?go150) ?gho150 ?gh150
        case gho150 => exact rfl
        intro K hK
        simp only [FL]
        go_simp
        (with_reducible refine (one_any _).mono ?_)
        rintro e wc151 ⟨hb151, v151, rfl, hv151⟩
        refine hK _ _ ⟨v151, by simp only [FL, f22] <;> kernel_rfl, hb151, hv151, nF⟩
       ·intro xs wk152 hBk hdep
        have HBk152 := Lib.hid hBk; have zk152 := hBk.size; clear hBk
        have f22 : (xs 22) = .bool false := hdep _ (m_ 22 rfl) (by kernel_rfl)
        have f30 : RN wk152 wk152.heap.size (xs 30) (dig g) := hdep _ (m_ 30 rfl) (by kernel_rfl)
        have f31 : RN wk152 wk152.heap.size (xs 31) (dig 1) := hdep _ (m_ 31 rfl) (by kernel_rfl)
        clear hdep
        refine wpOp_step (o := ?go152) ?gho152 ?gh152
        case gho152 => exact rfl
        intro K hK
        simp only [FL]
        go_simp
        (with_reducible refine (Cmp_any _ _ _ g 1 f30 f31).mono ?_)
        rintro e wc153 ⟨hb153, c153, rfl, hc153⟩
        refine hK _ _ ⟨.int .i64 c153, by simp only [FL, f22] <;> kernel_rfl, hb153, ⟨c153, rfl, hc153⟩, nF⟩
       ·intro xs wk154 hBk hdep
        have HBk154 := Lib.hid hBk; have zk154 := hBk.size; clear hBk
        have f22 : (xs 22) = .bool false := hdep _ (m_ 22 rfl) (by kernel_rfl)
        have f32 : ∃ c : Int, (xs 32) = .int .i64 c ∧ SignOf c (g) (1) := hdep _ (m_ 32 rfl) (by kernel_rfl)
        clear hdep
        refine wpOp_step (o := ?go154) ?gho154 ?gh154
        case gho154 => exact rfl
        intro K hK
        simp only [FL]
        obtain ⟨c, hc, hs⟩ := f32; unfold SignOf at hs; have hq : (c != 0) = false := by have h1 := HG1.out; rw [bne_eq_false_iff_eq]; omega
        rw [hc]; clear hs
        go_simp
        refine hK _ _ ⟨.bool false, by simp only [FL, f22, hc] <;> kernel_rfl, Below.refl _ _, rfl, nF⟩
       ·intro xs wk155 hBk hdep
        have HBk155 := Lib.hid hBk; have zk155 := hBk.size; clear hBk
        have f22 : (xs 22) = .bool false := hdep _ (m_ 22 rfl) (by kernel_rfl)
        have f33 : (xs 33) = .bool false := hdep _ (m_ 33 rfl) (by kernel_rfl)
        clear hdep
        refine wpOp_step (o := _) rfl (fun K hK => ?_)
        simp only [FL]
        go_simp
        refine hK _ _ ⟨.bool false, by simp only [FL, f22, f33] <;> kernel_rfl, Below.refl _ _, rfl, nF⟩
      ·exact all_nil
      ·intro xs wf156 hbf hf hn hd
       have f0 : (xs 0) = .pointer (some ⟨w.heap.size, 0, none⟩) := hf _ (m_ 0 rfl)
       have f1 : (xs 1) = .agg #[.bool n, .slice A l c] := hf _ (m_ 1 rfl)
       have f2 : (xs 2) = .int .i64 0 := hf _ (m_ 2 rfl)
       have f3 : (xs 3) = .bool false := hf _ (m_ 3 rfl)
       have f4 : (xs 4) = .bool false := hf _ (m_ 4 rfl)
       have f5 : (xs 5) = .pointer (some ⟨w.heap.size, 2, none⟩) := hf _ (m_ 5 rfl)
       have f6 : (xs 6) = .agg #[.bool false, .slice B k d] := hf _ (m_ 6 rfl)
       have f7 : (xs 7) = .int .i64 0 := hf _ (m_ 7 rfl)
       have f8 : (xs 8) = .bool false := hf _ (m_ 8 rfl)
       have f9 : (xs 9) = .bool false := hf _ (m_ 9 rfl)
       have f10 : (xs 10) = .bool false := hf _ (m_ 10 rfl)
       have f11 : (xs 11) = .pointer (some ⟨w.heap.size, 2, none⟩) := hf _ (m_ 11 rfl)
       have f12 : (xs 12) = .pointer (some ⟨w.heap.size, 2, none⟩) := hf _ (m_ 12 rfl)
       have f13 : (xs 13) = .bool false := hf _ (m_ 13 rfl)
       have f14 : (xs 14) = .bool false := hf _ (m_ 14 rfl)
       have f15 : (xs 15) = .bool false := hf _ (m_ 15 rfl)
       have f16 : (xs 16) = .pointer (some ⟨w.heap.size, 2, none⟩) := hf _ (m_ 16 rfl)
       have f17 : (xs 17) = .pointer (some ⟨w.heap.size, 3, none⟩) := hf _ (m_ 17 rfl)
       have f18 : (xs 18) = .slice B k d := hf _ (m_ 18 rfl)
       have f19 : (xs 19) = .int .i64 (k : Int) := hf _ (m_ 19 rfl)
       have f20 : (xs 20) = .bool false := hf _ (m_ 20 rfl)
       have f21 : (xs 21) = .bool false := hf _ (m_ 21 rfl)
       have f22 : (xs 22) = .bool false := hf _ (m_ 22 rfl)
       have f23 : (xs 23) = .agg #[.bool n, .slice A l c, .bool false, .slice B k d] := hf _ (m_ 23 rfl)
       have f24 : (xs 24) = .agg #[.bool n, .slice A l c, .slice B k d] := hf _ (m_ 24 rfl)
       have f25 : (xs 25) = .agg #[.bool n, .slice A l c] := hf _ (m_ 25 rfl)
       have f26 : (xs 26) = .slice A l c := hf _ (m_ 26 rfl)
       have f27 : (xs 27) = .pointer (some ⟨w.heap.size, 2, none⟩) := hf _ (m_ 27 rfl)
       have f28 : (xs 28) = .pointer (some ⟨w.heap.size, 3, none⟩) := hf _ (m_ 28 rfl)
       have f29 : (xs 29) = .slice B k d := hf _ (m_ 29 rfl)
       have f30 : RN wf156 wf156.heap.size (xs 30) (dig g) := hf _ (m_ 30 rfl)
       have f31 : RN wf156 wf156.heap.size (xs 31) (dig 1) := hf _ (m_ 31 rfl)
       have f32 : ∃ c : Int, (xs 32) = .int .i64 c ∧ SignOf c (g) (1) := hf _ (m_ 32 rfl)
       have f33 : (xs 33) = .bool false := hf _ (m_ 33 rfl)
       have f34 : (xs 34) = .bool false := hf _ (m_ 34 rfl)
       clear hf hn hd
       simp only [FL]
       have B157 := Lib.hid hbf
       have z157 := B157.out.size
       have HB158 := Lib.hid (B0.out.trans (B157.out.mono B0.out.size))
       clear hbf
       generalize xs 0 = x0 at *
       generalize xs 1 = x1 at *
       generalize xs 2 = x2 at *
       generalize xs 3 = x3 at *
       generalize xs 4 = x4 at *
       generalize xs 5 = x5 at *
       generalize xs 6 = x6 at *
       generalize xs 7 = x7 at *
       generalize xs 8 = x8 at *
       generalize xs 9 = x9 at *
       generalize xs 10 = x10 at *
       generalize xs 11 = x11 at *
       generalize xs 12 = x12 at *
       generalize xs 13 = x13 at *
       generalize xs 14 = x14 at *
       generalize xs 15 = x15 at *
       generalize xs 16 = x16 at *
       generalize xs 17 = x17 at *
       generalize xs 18 = x18 at *
       generalize xs 19 = x19 at *
       generalize xs 20 = x20 at *
       generalize xs 21 = x21 at *
       generalize xs 22 = x22 at *
       generalize xs 23 = x23 at *
       generalize xs 24 = x24 at *
       generalize xs 25 = x25 at *
       generalize xs 26 = x26 at *
       generalize xs 27 = x27 at *
       generalize xs 28 = x28 at *
       generalize xs 29 = x29 at *
       generalize xs 30 = x30 at *
       generalize xs 31 = x31 at *
       generalize xs 32 = x32 at *
       generalize xs 33 = x33 at *
       generalize xs 34 = x34 at *
       obtain rfl := f0
       obtain rfl := f1
       obtain rfl := f2
       obtain rfl := f3
       obtain rfl := f4
       obtain rfl := f5
       obtain rfl := f6
       obtain rfl := f7
       obtain rfl := f8
       obtain rfl := f9
       obtain rfl := f10
       obtain rfl := f11
       obtain rfl := f12
       obtain rfl := f13
       obtain rfl := f14
       obtain rfl := f15
       obtain rfl := f16
       obtain rfl := f17
       obtain rfl := f18
       obtain rfl := f19
       obtain rfl := f20
       obtain rfl := f21
       obtain rfl := f22
       obtain rfl := f23
       obtain rfl := f24
       obtain rfl := f25
       obtain rfl := f26
       obtain rfl := f27
       obtain rfl := f28
       obtain rfl := f29
       clear f30
       clear f31
       clear f32
       obtain rfl := f33
       obtain rfl := f34
       refine Early.done (by kernel_rfl) ?_ _
       (try simp only [Exit.then])
       go_wp2
       go_ret
       exact ⟨HB158.out, by rw [HR.out, chkQ_some HYES.out]; rfl⟩
     ·have HG1 := Lib.hid hg1; clear hg1
      have HNO := Lib.hid (show qOf n a false b = none by rw [qOf_both HX.out HY.out, if_neg (fun h => HG1.out (by rw [HG.out]; exact h.2))])
      go_enter Tryz.func45, Tryz.ntmps45
      go_upto_region 1 with (fail)
      rw [← hw0]; clear hw0
      refine Flow.run [⟨0, 3, fun fv fw => fv = .pointer (some ⟨w.heap.size, 0, none⟩)⟩, ⟨1, 4, fun fv fw => fv = .agg #[.bool n, .slice A l c]⟩, ⟨2, 5, fun fv fw => fv = .int .i64 0⟩, ⟨3, 6, fun fv fw => fv = .bool false⟩, ⟨4, 7, fun fv fw => fv = .bool false⟩, ⟨5, 8, fun fv fw => fv = .pointer (some ⟨w.heap.size, 2, none⟩)⟩, ⟨6, 9, fun fv fw => fv = .agg #[.bool false, .slice B k d]⟩, ⟨7, 10, fun fv fw => fv = .int .i64 0⟩, ⟨8, 11, fun fv fw => fv = .bool false⟩, ⟨9, 12, fun fv fw => fv = .bool false⟩, ⟨10, 13, fun fv fw => fv = .bool false⟩, ⟨11, 14, fun fv fw => fv = .pointer (some ⟨w.heap.size, 2, none⟩)⟩, ⟨12, 15, fun fv fw => fv = .pointer (some ⟨w.heap.size, 2, none⟩)⟩, ⟨13, 16, fun fv fw => fv = .bool false⟩, ⟨14, 17, fun fv fw => fv = .bool false⟩, ⟨15, 18, fun fv fw => fv = .bool false⟩, ⟨16, 19, fun fv fw => fv = .pointer (some ⟨w.heap.size, 2, none⟩)⟩, ⟨17, 20, fun fv fw => fv = .pointer (some ⟨w.heap.size, 3, none⟩)⟩, ⟨18, 21, fun fv fw => fv = .slice B k d⟩, ⟨19, 22, fun fv fw => fv = .int .i64 (k : Int)⟩, ⟨20, 23, fun fv fw => fv = .bool false⟩, ⟨21, 24, fun fv fw => fv = .bool false⟩, ⟨22, 25, fun fv fw => fv = .bool false⟩, ⟨23, 26, fun fv fw => fv = .agg #[.bool n, .slice A l c, .bool false, .slice B k d]⟩, ⟨24, 27, fun fv fw => fv = .agg #[.bool n, .slice A l c, .slice B k d]⟩, ⟨25, 28, fun fv fw => fv = .agg #[.bool n, .slice A l c]⟩, ⟨26, 29, fun fv fw => fv = .slice A l c⟩, ⟨27, 30, fun fv fw => fv = .pointer (some ⟨w.heap.size, 2, none⟩)⟩, ⟨28, 31, fun fv fw => fv = .pointer (some ⟨w.heap.size, 3, none⟩)⟩, ⟨29, 32, fun fv fw => fv = .slice B k d⟩, ⟨30, 33, fun fv fw => RN fw fw.heap.size fv (dig g)⟩, ⟨31, 34, fun fv fw => RN fw fw.heap.size fv (dig 1)⟩, ⟨32, 35, fun fv fw => ∃ c : Int, fv = .int .i64 c ∧ SignOf c (g) (1)⟩, ⟨33, 36, fun fv fw => fv = .bool true⟩, ⟨34, 37, fun fv fw => fv = .bool true⟩] [] [] 0 (by kernel_rfl) (by kernel_rfl) (by kernel_rfl) (fun _ _ _ _ _ h => h) ?_ ?_ ?_ ?_
      ·refine (all_cons (fun v w1 w2 h hb => h) (all_cons (fun v w1 w2 h hb => h) (all_cons (fun v w1 w2 h hb => h) (all_cons (fun v w1 w2 h hb => h) (all_cons (fun v w1 w2 h hb => h) (all_cons (fun v w1 w2 h hb => h) (all_cons (fun v w1 w2 h hb => h) (all_cons (fun v w1 w2 h hb => h) (all_cons (fun v w1 w2 h hb => h) (all_cons (fun v w1 w2 h hb => h) (all_cons (fun v w1 w2 h hb => h) (all_cons (fun v w1 w2 h hb => h) (all_cons (fun v w1 w2 h hb => h) (all_cons (fun v w1 w2 h hb => h) (all_cons (fun v w1 w2 h hb => h) (all_cons (fun v w1 w2 h hb => h) (all_cons (fun v w1 w2 h hb => h) (all_cons (fun v w1 w2 h hb => h) (all_cons (fun v w1 w2 h hb => h) (all_cons (fun v w1 w2 h hb => h) (all_cons (fun v w1 w2 h hb => h) (all_cons (fun v w1 w2 h hb => h) (all_cons (fun v w1 w2 h hb => h) (all_cons (fun v w1 w2 h hb => h) (all_cons (fun v w1 w2 h hb => h) (all_cons (fun v w1 w2 h hb => h) (all_cons (fun v w1 w2 h hb => h) (all_cons (fun v w1 w2 h hb => h) (all_cons (fun v w1 w2 h hb => h) (all_cons (fun v w1 w2 h hb => h) (all_cons (fun v w1 w2 h hb => h.step hb) (all_cons (fun v w1 w2 h hb => h.step hb) (all_cons (fun v w1 w2 h hb => h) (all_cons (fun v w1 w2 h hb => h) (all_cons (fun v w1 w2 h hb => h) all_nil)))))))))))))))))))))))))))))))))))
      ·refine (all_cons ?_ (all_cons ?_ (all_cons ?_ (all_cons ?_ (all_cons ?_ (all_cons ?_ (all_cons ?_ (all_cons ?_ (all_cons ?_ (all_cons ?_ (all_cons ?_ (all_cons ?_ (all_cons ?_ (all_cons ?_ (all_cons ?_ (all_cons ?_ (all_cons ?_ (all_cons ?_ (all_cons ?_ (all_cons ?_ (all_cons ?_ (all_cons ?_ (all_cons ?_ (all_cons ?_ (all_cons ?_ (all_cons ?_ (all_cons ?_ (all_cons ?_ (all_cons ?_ (all_cons ?_ (all_cons ?_ (all_cons ?_ (all_cons ?_ (all_cons ?_ (all_cons ?_ all_nil)))))))))))))))))))))))))))))))))))
       ·intro xs wk159 hBk hdep
        have HBk159 := Lib.hid hBk; have zk159 := hBk.size; clear hBk
        clear hdep
        refine wpOp_step (o := _) rfl (fun K hK => ?_)
        simp only [FL]
        go_simp
        refine hK _ _ ⟨.pointer (some ⟨w.heap.size, 0, none⟩), by kernel_rfl, Below.refl _ _, rfl, nF⟩
       ·intro xs wk160 hBk hdep
        have HBk160 := Lib.hid hBk; have zk160 := hBk.size; clear hBk
        have f0 : (xs 0) = .pointer (some ⟨w.heap.size, 0, none⟩) := hdep _ (m_ 0 rfl) (by kernel_rfl)
        clear hdep
        refine wpOp_step (o := _) rfl (fun K hK => ?_)
        simp only [FL]
        have La_161 := CB.step La HBk160.out
        have q162_0 := La_161.cell 0 rfl
        have q162_1 := La_161.cell 1 rfl
        go_simp
        refine hK _ _ ⟨.agg #[.bool n, .slice A l c], by simp only [FL, f0] <;> kernel_rfl, Below.refl _ _, rfl, nF⟩
       ·intro xs wk163 hBk hdep
        have HBk163 := Lib.hid hBk; have zk163 := hBk.size; clear hBk
        have f1 : (xs 1) = .agg #[.bool n, .slice A l c] := hdep _ (m_ 1 rfl) (by kernel_rfl)
        clear hdep
        refine wpOp_step (o := _) rfl (fun K hK => ?_)
        simp only [FL]
        go_simp
        have HA_164 := Lib.hid (LR.step HA.out HBk163.out)
        (with_reducible refine (Check_good HA_164.out HVA.out).mono ?_)
        rintro e wc165 ⟨hb165, rfl⟩
        refine hK _ _ ⟨.int .i64 0, by simp only [FL, f1] <;> kernel_rfl, hb165, rfl, nF⟩
       ·intro xs wk166 hBk hdep
        have HBk166 := Lib.hid hBk; have zk166 := hBk.size; clear hBk
        have f2 : (xs 2) = .int .i64 0 := hdep _ (m_ 2 rfl) (by kernel_rfl)
        clear hdep
        refine wpOp_step (o := _) rfl (fun K hK => ?_)
        simp only [FL]
        go_simp
        refine hK _ _ ⟨.bool false, by simp only [FL, f2] <;> kernel_rfl, Below.refl _ _, rfl, nF⟩
       ·intro xs wk167 hBk hdep
        have HBk167 := Lib.hid hBk; have zk167 := hBk.size; clear hBk
        have f3 : (xs 3) = .bool false := hdep _ (m_ 3 rfl) (by kernel_rfl)
        clear hdep
        refine wpOp_step (o := _) rfl (fun K hK => ?_)
        simp only [FL]
        go_simp
        refine hK _ _ ⟨.bool false, by simp only [FL, f3] <;> kernel_rfl, Below.refl _ _, rfl, nF⟩
       ·intro xs wk168 hBk hdep
        have HBk168 := Lib.hid hBk; have zk168 := hBk.size; clear hBk
        have f4 : (xs 4) = .bool false := hdep _ (m_ 4 rfl) (by kernel_rfl)
        clear hdep
        refine wpOp_step (o := ?go168) ?gho168 ?gh168
        case gho168 => exact rfl
        intro K hK
        simp only [FL]
        go_simp
        refine hK _ _ ⟨.pointer (some ⟨w.heap.size, 2, none⟩), by simp only [FL, f4] <;> kernel_rfl, Below.refl _ _, rfl, nF⟩
       ·intro xs wk169 hBk hdep
        have HBk169 := Lib.hid hBk; have zk169 := hBk.size; clear hBk
        have f4 : (xs 4) = .bool false := hdep _ (m_ 4 rfl) (by kernel_rfl)
        have f5 : (xs 5) = .pointer (some ⟨w.heap.size, 2, none⟩) := hdep _ (m_ 5 rfl) (by kernel_rfl)
        clear hdep
        refine wpOp_step (o := ?go169) ?gho169 ?gh169
        case gho169 => exact rfl
        intro K hK
        simp only [FL]
        have La_170 := CB.step La HBk169.out
        have q171_2 := La_170.cell 2 rfl
        have q171_3 := La_170.cell 3 rfl
        go_simp
        refine hK _ _ ⟨.agg #[.bool false, .slice B k d], by simp only [FL, f4, f5] <;> kernel_rfl, Below.refl _ _, rfl, nF⟩
       ·intro xs wk172 hBk hdep
        have HBk172 := Lib.hid hBk; have zk172 := hBk.size; clear hBk
        have f4 : (xs 4) = .bool false := hdep _ (m_ 4 rfl) (by kernel_rfl)
        have f6 : (xs 6) = .agg #[.bool false, .slice B k d] := hdep _ (m_ 6 rfl) (by kernel_rfl)
        clear hdep
        refine wpOp_step (o := ?go172) ?gho172 ?gh172
        case gho172 => exact rfl
        intro K hK
        simp only [FL]
        go_simp
        have HB_173 := Lib.hid (LR.step HB.out HBk172.out)
        (with_reducible refine (Check_good HB_173.out HVB.out).mono ?_)
        rintro e wc174 ⟨hb174, rfl⟩
        refine hK _ _ ⟨.int .i64 0, by simp only [FL, f4, f6] <;> kernel_rfl, hb174, rfl, nF⟩
       ·intro xs wk175 hBk hdep
        have HBk175 := Lib.hid hBk; have zk175 := hBk.size; clear hBk
        have f4 : (xs 4) = .bool false := hdep _ (m_ 4 rfl) (by kernel_rfl)
        have f7 : (xs 7) = .int .i64 0 := hdep _ (m_ 7 rfl) (by kernel_rfl)
        clear hdep
        refine wpOp_step (o := ?go175) ?gho175 ?gh175
        case gho175 => exact rfl
        intro K hK
        simp only [FL]
        go_simp
        refine hK _ _ ⟨.bool false, by simp only [FL, f4, f7] <;> kernel_rfl, Below.refl _ _, rfl, nF⟩
       ·intro xs wk176 hBk hdep
        have HBk176 := Lib.hid hBk; have zk176 := hBk.size; clear hBk
        have f4 : (xs 4) = .bool false := hdep _ (m_ 4 rfl) (by kernel_rfl)
        have f8 : (xs 8) = .bool false := hdep _ (m_ 8 rfl) (by kernel_rfl)
        clear hdep
        refine wpOp_step (o := _) rfl (fun K hK => ?_)
        simp only [FL]
        go_simp
        refine hK _ _ ⟨.bool false, by simp only [FL, f4, f8] <;> kernel_rfl, Below.refl _ _, rfl, nF⟩
       ·intro xs wk177 hBk hdep
        have HBk177 := Lib.hid hBk; have zk177 := hBk.size; clear hBk
        have f9 : (xs 9) = .bool false := hdep _ (m_ 9 rfl) (by kernel_rfl)
        clear hdep
        refine wpOp_step (o := _) rfl (fun K hK => ?_)
        simp only [FL]
        go_simp
        refine hK _ _ ⟨.bool false, by simp only [FL, f9] <;> kernel_rfl, Below.refl _ _, rfl, nF⟩
       ·intro xs wk178 hBk hdep
        have HBk178 := Lib.hid hBk; have zk178 := hBk.size; clear hBk
        have f10 : (xs 10) = .bool false := hdep _ (m_ 10 rfl) (by kernel_rfl)
        clear hdep
        refine wpOp_step (o := ?go178) ?gho178 ?gh178
        case gho178 => exact rfl
        intro K hK
        simp only [FL]
        go_simp
        refine hK _ _ ⟨.pointer (some ⟨w.heap.size, 2, none⟩), by simp only [FL, f10] <;> kernel_rfl, Below.refl _ _, rfl, nF⟩
       ·intro xs wk179 hBk hdep
        have HBk179 := Lib.hid hBk; have zk179 := hBk.size; clear hBk
        have f10 : (xs 10) = .bool false := hdep _ (m_ 10 rfl) (by kernel_rfl)
        have f11 : (xs 11) = .pointer (some ⟨w.heap.size, 2, none⟩) := hdep _ (m_ 11 rfl) (by kernel_rfl)
        clear hdep
        refine wpOp_step (o := ?go179) ?gho179 ?gh179
        case gho179 => exact rfl
        intro K hK
        simp only [FL]
        go_simp
        refine hK _ _ ⟨.pointer (some ⟨w.heap.size, 2, none⟩), by simp only [FL, f10, f11] <;> kernel_rfl, Below.refl _ _, rfl, nF⟩
       ·intro xs wk180 hBk hdep
        have HBk180 := Lib.hid hBk; have zk180 := hBk.size; clear hBk
        have f10 : (xs 10) = .bool false := hdep _ (m_ 10 rfl) (by kernel_rfl)
        have f12 : (xs 12) = .pointer (some ⟨w.heap.size, 2, none⟩) := hdep _ (m_ 12 rfl) (by kernel_rfl)
        clear hdep
        refine wpOp_step (o := ?go180) ?gho180 ?gh180
        case gho180 => exact rfl
        intro K hK
        simp only [FL]
        have La_181 := CB.step La HBk180.out
        have q182_2 := La_181.cell 2 rfl
        go_simp
        refine hK _ _ ⟨.bool false, by simp only [FL, f10, f12] <;> kernel_rfl, Below.refl _ _, rfl, nF⟩
       ·intro xs wk183 hBk hdep
        have HBk183 := Lib.hid hBk; have zk183 := hBk.size; clear hBk
        have f10 : (xs 10) = .bool false := hdep _ (m_ 10 rfl) (by kernel_rfl)
        have f13 : (xs 13) = .bool false := hdep _ (m_ 13 rfl) (by kernel_rfl)
        clear hdep
        refine wpOp_step (o := _) rfl (fun K hK => ?_)
        simp only [FL]
        go_simp
        refine hK _ _ ⟨.bool false, by simp only [FL, f10, f13] <;> kernel_rfl, Below.refl _ _, rfl, nF⟩
       ·intro xs wk184 hBk hdep
        have HBk184 := Lib.hid hBk; have zk184 := hBk.size; clear hBk
        have f14 : (xs 14) = .bool false := hdep _ (m_ 14 rfl) (by kernel_rfl)
        clear hdep
        refine wpOp_step (o := _) rfl (fun K hK => ?_)
        simp only [FL]
        go_simp
        refine hK _ _ ⟨.bool false, by simp only [FL, f14] <;> kernel_rfl, Below.refl _ _, rfl, nF⟩
       ·intro xs wk185 hBk hdep
        have HBk185 := Lib.hid hBk; have zk185 := hBk.size; clear hBk
        have f15 : (xs 15) = .bool false := hdep _ (m_ 15 rfl) (by kernel_rfl)
        clear hdep
        refine wpOp_step (o := ?go185) ?gho185 ?gh185
        case gho185 => exact rfl
        intro K hK
        simp only [FL]
        go_simp
        refine hK _ _ ⟨.pointer (some ⟨w.heap.size, 2, none⟩), by simp only [FL, f15] <;> kernel_rfl, Below.refl _ _, rfl, nF⟩
       ·intro xs wk186 hBk hdep
        have HBk186 := Lib.hid hBk; have zk186 := hBk.size; clear hBk
        have f15 : (xs 15) = .bool false := hdep _ (m_ 15 rfl) (by kernel_rfl)
        have f16 : (xs 16) = .pointer (some ⟨w.heap.size, 2, none⟩) := hdep _ (m_ 16 rfl) (by kernel_rfl)
        clear hdep
        refine wpOp_step (o := ?go186) ?gho186 ?gh186
        case gho186 => exact rfl
        intro K hK
        simp only [FL]
        go_simp
        refine hK _ _ ⟨.pointer (some ⟨w.heap.size, 3, none⟩), by simp only [FL, f15, f16] <;> kernel_rfl, Below.refl _ _, rfl, nF⟩
       ·intro xs wk187 hBk hdep
        have HBk187 := Lib.hid hBk; have zk187 := hBk.size; clear hBk
        have f15 : (xs 15) = .bool false := hdep _ (m_ 15 rfl) (by kernel_rfl)
        have f17 : (xs 17) = .pointer (some ⟨w.heap.size, 3, none⟩) := hdep _ (m_ 17 rfl) (by kernel_rfl)
        clear hdep
        refine wpOp_step (o := ?go187) ?gho187 ?gh187
        case gho187 => exact rfl
        intro K hK
        simp only [FL]
        have La_188 := CB.step La HBk187.out
        have q189_3 := La_188.cell 3 rfl
        go_simp
        refine hK _ _ ⟨.slice B k d, by simp only [FL, f15, f17] <;> kernel_rfl, Below.refl _ _, rfl, nF⟩
       ·intro xs wk190 hBk hdep
        have HBk190 := Lib.hid hBk; have zk190 := hBk.size; clear hBk
        have f15 : (xs 15) = .bool false := hdep _ (m_ 15 rfl) (by kernel_rfl)
        have f18 : (xs 18) = .slice B k d := hdep _ (m_ 18 rfl) (by kernel_rfl)
        clear hdep
        refine wpOp_step (o := ?go190) ?gho190 ?gh190
        case gho190 => exact rfl
        intro K hK
        simp only [FL]
        go_simp
        refine hK _ _ ⟨.int .i64 (k : Int), by simp only [FL, f15, f18] <;> kernel_rfl, Below.refl _ _, rfl, nF⟩
       ·intro xs wk191 hBk hdep
        have HBk191 := Lib.hid hBk; have zk191 := hBk.size; clear hBk
        have f15 : (xs 15) = .bool false := hdep _ (m_ 15 rfl) (by kernel_rfl)
        have f19 : (xs 19) = .int .i64 (k : Int) := hdep _ (m_ 19 rfl) (by kernel_rfl)
        clear hdep
        refine wpOp_step (o := ?go191) ?gho191 ?gh191
        case gho191 => exact rfl
        intro K hK
        simp only [FL]
        go_simp
        refine hK _ _ ⟨.bool false, by simp only [FL, f15, f19] <;> kernel_rfl, Below.refl _ _, rfl, nF⟩
       ·intro xs wk192 hBk hdep
        have HBk192 := Lib.hid hBk; have zk192 := hBk.size; clear hBk
        have f15 : (xs 15) = .bool false := hdep _ (m_ 15 rfl) (by kernel_rfl)
        have f20 : (xs 20) = .bool false := hdep _ (m_ 20 rfl) (by kernel_rfl)
        clear hdep
        refine wpOp_step (o := _) rfl (fun K hK => ?_)
        simp only [FL]
        go_simp
        refine hK _ _ ⟨.bool false, by simp only [FL, f15, f20] <;> kernel_rfl, Below.refl _ _, rfl, nF⟩
       ·intro xs wk193 hBk hdep
        have HBk193 := Lib.hid hBk; have zk193 := hBk.size; clear hBk
        have f21 : (xs 21) = .bool false := hdep _ (m_ 21 rfl) (by kernel_rfl)
        clear hdep
        refine wpOp_step (o := _) rfl (fun K hK => ?_)
        simp only [FL]
        go_simp
        refine hK _ _ ⟨.bool false, by simp only [FL, f21] <;> kernel_rfl, Below.refl _ _, rfl, nF⟩
       ·intro xs wk194 hBk hdep
        have HBk194 := Lib.hid hBk; have zk194 := hBk.size; clear hBk
        have f22 : (xs 22) = .bool false := hdep _ (m_ 22 rfl) (by kernel_rfl)
        clear hdep
        refine wpOp_step (o := ?go194) ?gho194 ?gh194
        case gho194 => exact rfl
        intro K hK
        simp only [FL]
        have La_195 := CB.step La HBk194.out
        have q196_0 := La_195.cell 0 rfl
        have q196_1 := La_195.cell 1 rfl
        have q196_2 := La_195.cell 2 rfl
        have q196_3 := La_195.cell 3 rfl
        go_simp
        refine hK _ _ ⟨.agg #[.bool n, .slice A l c, .bool false, .slice B k d], by simp only [FL, f22] <;> kernel_rfl, Below.refl _ _, rfl, nF⟩
       ·intro xs wk197 hBk hdep
        have HBk197 := Lib.hid hBk; have zk197 := hBk.size; clear hBk
        have f22 : (xs 22) = .bool false := hdep _ (m_ 22 rfl) (by kernel_rfl)
        have f23 : (xs 23) = .agg #[.bool n, .slice A l c, .bool false, .slice B k d] := hdep _ (m_ 23 rfl) (by kernel_rfl)
        clear hdep
        refine wpOp_step (o := ?go197) ?gho197 ?gh197
        case gho197 => exact rfl
        intro K hK
        simp only [FL]
        go_simp
        (with_reducible refine (Read_any _ n false A B l c k d).mono ?_)
        rintro e wc198 ⟨hb198, rfl⟩
        refine hK _ _ ⟨.agg #[.bool n, .slice A l c, .slice B k d], by simp only [FL, f22, f23] <;> kernel_rfl, hb198, rfl, nF⟩
       ·intro xs wk199 hBk hdep
        have HBk199 := Lib.hid hBk; have zk199 := hBk.size; clear hBk
        have f22 : (xs 22) = .bool false := hdep _ (m_ 22 rfl) (by kernel_rfl)
        have f24 : (xs 24) = .agg #[.bool n, .slice A l c, .slice B k d] := hdep _ (m_ 24 rfl) (by kernel_rfl)
        clear hdep
        refine wpOp_step (o := ?go199) ?gho199 ?gh199
        case gho199 => exact rfl
        intro K hK
        simp only [FL]
        go_simp
        refine hK _ _ ⟨.agg #[.bool n, .slice A l c], by simp only [FL, f22, f24] <;> kernel_rfl, Below.refl _ _, rfl, nF⟩
       ·intro xs wk200 hBk hdep
        have HBk200 := Lib.hid hBk; have zk200 := hBk.size; clear hBk
        have f22 : (xs 22) = .bool false := hdep _ (m_ 22 rfl) (by kernel_rfl)
        have f25 : (xs 25) = .agg #[.bool n, .slice A l c] := hdep _ (m_ 25 rfl) (by kernel_rfl)
        clear hdep
        refine wpOp_step (o := ?go200) ?gho200 ?gh200
        case gho200 => exact rfl
        intro K hK
        simp only [FL]
        go_simp
        refine hK _ _ ⟨.slice A l c, by simp only [FL, f22, f25] <;> kernel_rfl, Below.refl _ _, rfl, nF⟩
       ·intro xs wk201 hBk hdep
        have HBk201 := Lib.hid hBk; have zk201 := hBk.size; clear hBk
        have f22 : (xs 22) = .bool false := hdep _ (m_ 22 rfl) (by kernel_rfl)
        clear hdep
        refine wpOp_step (o := ?go201) ?gho201 ?gh201
        case gho201 => exact rfl
        intro K hK
        simp only [FL]
        go_simp
        refine hK _ _ ⟨.pointer (some ⟨w.heap.size, 2, none⟩), by simp only [FL, f22] <;> kernel_rfl, Below.refl _ _, rfl, nF⟩
       ·intro xs wk202 hBk hdep
        have HBk202 := Lib.hid hBk; have zk202 := hBk.size; clear hBk
        have f22 : (xs 22) = .bool false := hdep _ (m_ 22 rfl) (by kernel_rfl)
        have f27 : (xs 27) = .pointer (some ⟨w.heap.size, 2, none⟩) := hdep _ (m_ 27 rfl) (by kernel_rfl)
        clear hdep
        refine wpOp_step (o := ?go202) ?gho202 ?gh202
        case gho202 => exact rfl
        intro K hK
        simp only [FL]
        go_simp
        refine hK _ _ ⟨.pointer (some ⟨w.heap.size, 3, none⟩), by simp only [FL, f22, f27] <;> kernel_rfl, Below.refl _ _, rfl, nF⟩
       ·intro xs wk203 hBk hdep
        have HBk203 := Lib.hid hBk; have zk203 := hBk.size; clear hBk
        have f22 : (xs 22) = .bool false := hdep _ (m_ 22 rfl) (by kernel_rfl)
        have f28 : (xs 28) = .pointer (some ⟨w.heap.size, 3, none⟩) := hdep _ (m_ 28 rfl) (by kernel_rfl)
        clear hdep
        refine wpOp_step (o := ?go203) ?gho203 ?gh203
        case gho203 => exact rfl
        intro K hK
        simp only [FL]
        have La_204 := CB.step La HBk203.out
        have q205_3 := La_204.cell 3 rfl
        go_simp
        refine hK _ _ ⟨.slice B k d, by simp only [FL, f22, f28] <;> kernel_rfl, Below.refl _ _, rfl, nF⟩
       ·intro xs wk206 hBk hdep
        have HBk206 := Lib.hid hBk; have zk206 := hBk.size; clear hBk
        have f22 : (xs 22) = .bool false := hdep _ (m_ 22 rfl) (by kernel_rfl)
        have f26 : (xs 26) = .slice A l c := hdep _ (m_ 26 rfl) (by kernel_rfl)
        have f29 : (xs 29) = .slice B k d := hdep _ (m_ 29 rfl) (by kernel_rfl)
        clear hdep
        refine wpOp_step (o := ?go206) ?gho206 ?gh206
        case gho206 => exact rfl
        intro K hK
        simp only [FL]
        go_simp
        have HA1_207 := Lib.hid (RN.step HA1.out HBk206.out)
        have HB1_208 := Lib.hid (RN.step HB1.out HBk206.out)
        (with_reducible refine ((show Calls Tryz.prog _ _ _ _ from HG.out ▸ Common_any _ _ _ x.natAbs y.natAbs HA1_207.out HB1_208.out (by have := HL.out; omega) (by have := HL.out; omega))).mono ?_)
        rintro e wc209 ⟨hb209, v209, rfl, hv209⟩
        refine hK _ _ ⟨v209, by simp only [FL, f22, f26, f29] <;> kernel_rfl, hb209, hv209, nF⟩
       ·intro xs wk210 hBk hdep
        have HBk210 := Lib.hid hBk; have zk210 := hBk.size; clear hBk
        have f22 : (xs 22) = .bool false := hdep _ (m_ 22 rfl) (by kernel_rfl)
        clear hdep
        refine wpOp_step (o := ?go210) ?gho210 ?gh210
        case gho210 => exact rfl
        intro K hK
        simp only [FL]
        go_simp
        (with_reducible refine (one_any _).mono ?_)
        rintro e wc211 ⟨hb211, v211, rfl, hv211⟩
        refine hK _ _ ⟨v211, by simp only [FL, f22] <;> kernel_rfl, hb211, hv211, nF⟩
       ·intro xs wk212 hBk hdep
        have HBk212 := Lib.hid hBk; have zk212 := hBk.size; clear hBk
        have f22 : (xs 22) = .bool false := hdep _ (m_ 22 rfl) (by kernel_rfl)
        have f30 : RN wk212 wk212.heap.size (xs 30) (dig g) := hdep _ (m_ 30 rfl) (by kernel_rfl)
        have f31 : RN wk212 wk212.heap.size (xs 31) (dig 1) := hdep _ (m_ 31 rfl) (by kernel_rfl)
        clear hdep
        refine wpOp_step (o := ?go212) ?gho212 ?gh212
        case gho212 => exact rfl
        intro K hK
        simp only [FL]
        go_simp
        (with_reducible refine (Cmp_any _ _ _ g 1 f30 f31).mono ?_)
        rintro e wc213 ⟨hb213, c213, rfl, hc213⟩
        refine hK _ _ ⟨.int .i64 c213, by simp only [FL, f22] <;> kernel_rfl, hb213, ⟨c213, rfl, hc213⟩, nF⟩
       ·intro xs wk214 hBk hdep
        have HBk214 := Lib.hid hBk; have zk214 := hBk.size; clear hBk
        have f22 : (xs 22) = .bool false := hdep _ (m_ 22 rfl) (by kernel_rfl)
        have f32 : ∃ c : Int, (xs 32) = .int .i64 c ∧ SignOf c (g) (1) := hdep _ (m_ 32 rfl) (by kernel_rfl)
        clear hdep
        refine wpOp_step (o := ?go214) ?gho214 ?gh214
        case gho214 => exact rfl
        intro K hK
        simp only [FL]
        obtain ⟨c, hc, hs⟩ := f32; unfold SignOf at hs; have hq : (c != 0) = true := by have h1 := HG1.out; rw [bne_iff_ne]; omega
        rw [hc]; clear hs
        go_simp
        refine hK _ _ ⟨.bool true, by simp only [FL, f22, hc] <;> kernel_rfl, Below.refl _ _, rfl, nF⟩
       ·intro xs wk215 hBk hdep
        have HBk215 := Lib.hid hBk; have zk215 := hBk.size; clear hBk
        have f22 : (xs 22) = .bool false := hdep _ (m_ 22 rfl) (by kernel_rfl)
        have f33 : (xs 33) = .bool true := hdep _ (m_ 33 rfl) (by kernel_rfl)
        clear hdep
        refine wpOp_step (o := _) rfl (fun K hK => ?_)
        simp only [FL]
        go_simp
        refine hK _ _ ⟨.bool true, by simp only [FL, f22, f33] <;> kernel_rfl, Below.refl _ _, rfl, nF⟩
      ·exact all_nil
      ·intro xs wf216 hbf hf hn hd
       have f0 : (xs 0) = .pointer (some ⟨w.heap.size, 0, none⟩) := hf _ (m_ 0 rfl)
       have f1 : (xs 1) = .agg #[.bool n, .slice A l c] := hf _ (m_ 1 rfl)
       have f2 : (xs 2) = .int .i64 0 := hf _ (m_ 2 rfl)
       have f3 : (xs 3) = .bool false := hf _ (m_ 3 rfl)
       have f4 : (xs 4) = .bool false := hf _ (m_ 4 rfl)
       have f5 : (xs 5) = .pointer (some ⟨w.heap.size, 2, none⟩) := hf _ (m_ 5 rfl)
       have f6 : (xs 6) = .agg #[.bool false, .slice B k d] := hf _ (m_ 6 rfl)
       have f7 : (xs 7) = .int .i64 0 := hf _ (m_ 7 rfl)
       have f8 : (xs 8) = .bool false := hf _ (m_ 8 rfl)
       have f9 : (xs 9) = .bool false := hf _ (m_ 9 rfl)
       have f10 : (xs 10) = .bool false := hf _ (m_ 10 rfl)
       have f11 : (xs 11) = .pointer (some ⟨w.heap.size, 2, none⟩) := hf _ (m_ 11 rfl)
       have f12 : (xs 12) = .pointer (some ⟨w.heap.size, 2, none⟩) := hf _ (m_ 12 rfl)
       have f13 : (xs 13) = .bool false := hf _ (m_ 13 rfl)
       have f14 : (xs 14) = .bool false := hf _ (m_ 14 rfl)
       have f15 : (xs 15) = .bool false := hf _ (m_ 15 rfl)
       have f16 : (xs 16) = .pointer (some ⟨w.heap.size, 2, none⟩) := hf _ (m_ 16 rfl)
       have f17 : (xs 17) = .pointer (some ⟨w.heap.size, 3, none⟩) := hf _ (m_ 17 rfl)
       have f18 : (xs 18) = .slice B k d := hf _ (m_ 18 rfl)
       have f19 : (xs 19) = .int .i64 (k : Int) := hf _ (m_ 19 rfl)
       have f20 : (xs 20) = .bool false := hf _ (m_ 20 rfl)
       have f21 : (xs 21) = .bool false := hf _ (m_ 21 rfl)
       have f22 : (xs 22) = .bool false := hf _ (m_ 22 rfl)
       have f23 : (xs 23) = .agg #[.bool n, .slice A l c, .bool false, .slice B k d] := hf _ (m_ 23 rfl)
       have f24 : (xs 24) = .agg #[.bool n, .slice A l c, .slice B k d] := hf _ (m_ 24 rfl)
       have f25 : (xs 25) = .agg #[.bool n, .slice A l c] := hf _ (m_ 25 rfl)
       have f26 : (xs 26) = .slice A l c := hf _ (m_ 26 rfl)
       have f27 : (xs 27) = .pointer (some ⟨w.heap.size, 2, none⟩) := hf _ (m_ 27 rfl)
       have f28 : (xs 28) = .pointer (some ⟨w.heap.size, 3, none⟩) := hf _ (m_ 28 rfl)
       have f29 : (xs 29) = .slice B k d := hf _ (m_ 29 rfl)
       have f30 : RN wf216 wf216.heap.size (xs 30) (dig g) := hf _ (m_ 30 rfl)
       have f31 : RN wf216 wf216.heap.size (xs 31) (dig 1) := hf _ (m_ 31 rfl)
       have f32 : ∃ c : Int, (xs 32) = .int .i64 c ∧ SignOf c (g) (1) := hf _ (m_ 32 rfl)
       have f33 : (xs 33) = .bool true := hf _ (m_ 33 rfl)
       have f34 : (xs 34) = .bool true := hf _ (m_ 34 rfl)
       clear hf hn hd
       simp only [FL]
       have B217 := Lib.hid hbf
       have z217 := B217.out.size
       have HB218 := Lib.hid (B0.out.trans (B217.out.mono B0.out.size))
       clear hbf
       generalize xs 0 = x0 at *
       generalize xs 1 = x1 at *
       generalize xs 2 = x2 at *
       generalize xs 3 = x3 at *
       generalize xs 4 = x4 at *
       generalize xs 5 = x5 at *
       generalize xs 6 = x6 at *
       generalize xs 7 = x7 at *
       generalize xs 8 = x8 at *
       generalize xs 9 = x9 at *
       generalize xs 10 = x10 at *
       generalize xs 11 = x11 at *
       generalize xs 12 = x12 at *
       generalize xs 13 = x13 at *
       generalize xs 14 = x14 at *
       generalize xs 15 = x15 at *
       generalize xs 16 = x16 at *
       generalize xs 17 = x17 at *
       generalize xs 18 = x18 at *
       generalize xs 19 = x19 at *
       generalize xs 20 = x20 at *
       generalize xs 21 = x21 at *
       generalize xs 22 = x22 at *
       generalize xs 23 = x23 at *
       generalize xs 24 = x24 at *
       generalize xs 25 = x25 at *
       generalize xs 26 = x26 at *
       generalize xs 27 = x27 at *
       generalize xs 28 = x28 at *
       generalize xs 29 = x29 at *
       generalize xs 30 = x30 at *
       generalize xs 31 = x31 at *
       generalize xs 32 = x32 at *
       generalize xs 33 = x33 at *
       generalize xs 34 = x34 at *
       obtain rfl := f0
       obtain rfl := f1
       obtain rfl := f2
       obtain rfl := f3
       obtain rfl := f4
       obtain rfl := f5
       obtain rfl := f6
       obtain rfl := f7
       obtain rfl := f8
       obtain rfl := f9
       obtain rfl := f10
       obtain rfl := f11
       obtain rfl := f12
       obtain rfl := f13
       obtain rfl := f14
       obtain rfl := f15
       obtain rfl := f16
       obtain rfl := f17
       obtain rfl := f18
       obtain rfl := f19
       obtain rfl := f20
       obtain rfl := f21
       obtain rfl := f22
       obtain rfl := f23
       obtain rfl := f24
       obtain rfl := f25
       obtain rfl := f26
       obtain rfl := f27
       obtain rfl := f28
       obtain rfl := f29
       clear f30
       clear f31
       clear f32
       obtain rfl := f33
       obtain rfl := f34
       refine Early.done (by kernel_rfl) ?_ _
       (try simp only [Exit.then])
       go_wp2
       go_ret
       exact ⟨HB218.out, by rw [HR.out, chkQ_none HNO.out]; rfl⟩
  ·have HVB := Lib.hid hvb; clear hvb
   go_enter Tryz.func45, Tryz.ntmps45
   go_upto_region 1 with (fail)
   rw [← hw0]; clear hw0
   refine Flow.run [⟨0, 3, fun fv fw => fv = .pointer (some ⟨w.heap.size, 0, none⟩)⟩, ⟨1, 4, fun fv fw => fv = .agg #[.bool n, .slice A l c]⟩, ⟨2, 5, fun fv fw => fv = .int .i64 0⟩, ⟨3, 6, fun fv fw => fv = .bool false⟩, ⟨4, 7, fun fv fw => fv = .bool false⟩, ⟨5, 8, fun fv fw => fv = .pointer (some ⟨w.heap.size, 2, none⟩)⟩, ⟨6, 9, fun fv fw => fv = .agg #[.bool m, .slice B k d]⟩, ⟨7, 10, fun fv fw => fv = .int .i64 30⟩, ⟨8, 11, fun fv fw => fv = .bool true⟩, ⟨9, 12, fun fv fw => fv = .bool true⟩, ⟨10, 13, fun fv fw => fv = .bool true⟩, ⟨11, 14, fun fv fw => True⟩, ⟨12, 15, fun fv fw => True⟩, ⟨13, 16, fun fv fw => True⟩, ⟨14, 17, fun fv fw => fv = .bool true⟩, ⟨15, 18, fun fv fw => fv = .bool true⟩, ⟨16, 19, fun fv fw => True⟩, ⟨17, 20, fun fv fw => True⟩, ⟨18, 21, fun fv fw => True⟩, ⟨19, 22, fun fv fw => True⟩, ⟨20, 23, fun fv fw => True⟩, ⟨21, 24, fun fv fw => fv = .bool true⟩, ⟨22, 25, fun fv fw => fv = .bool true⟩, ⟨23, 26, fun fv fw => True⟩, ⟨24, 27, fun fv fw => True⟩, ⟨25, 28, fun fv fw => True⟩, ⟨26, 29, fun fv fw => True⟩, ⟨27, 30, fun fv fw => True⟩, ⟨28, 31, fun fv fw => True⟩, ⟨29, 32, fun fv fw => True⟩, ⟨30, 33, fun fv fw => True⟩, ⟨31, 34, fun fv fw => True⟩, ⟨32, 35, fun fv fw => True⟩, ⟨33, 36, fun fv fw => True⟩, ⟨34, 37, fun fv fw => fv = .bool true⟩] [] [] 0 (by kernel_rfl) (by kernel_rfl) (by kernel_rfl) (fun _ _ _ _ _ h => h) ?_ ?_ ?_ ?_
   ·refine (all_cons (fun v w1 w2 h hb => h) (all_cons (fun v w1 w2 h hb => h) (all_cons (fun v w1 w2 h hb => h) (all_cons (fun v w1 w2 h hb => h) (all_cons (fun v w1 w2 h hb => h) (all_cons (fun v w1 w2 h hb => h) (all_cons (fun v w1 w2 h hb => h) (all_cons (fun v w1 w2 h hb => h) (all_cons (fun v w1 w2 h hb => h) (all_cons (fun v w1 w2 h hb => h) (all_cons (fun v w1 w2 h hb => h) (all_cons (fun v w1 w2 h hb => h) (all_cons (fun v w1 w2 h hb => h) (all_cons (fun v w1 w2 h hb => h) (all_cons (fun v w1 w2 h hb => h) (all_cons (fun v w1 w2 h hb => h) (all_cons (fun v w1 w2 h hb => h) (all_cons (fun v w1 w2 h hb => h) (all_cons (fun v w1 w2 h hb => h) (all_cons (fun v w1 w2 h hb => h) (all_cons (fun v w1 w2 h hb => h) (all_cons (fun v w1 w2 h hb => h) (all_cons (fun v w1 w2 h hb => h) (all_cons (fun v w1 w2 h hb => h) (all_cons (fun v w1 w2 h hb => h) (all_cons (fun v w1 w2 h hb => h) (all_cons (fun v w1 w2 h hb => h) (all_cons (fun v w1 w2 h hb => h) (all_cons (fun v w1 w2 h hb => h) (all_cons (fun v w1 w2 h hb => h) (all_cons (fun v w1 w2 h hb => h) (all_cons (fun v w1 w2 h hb => h) (all_cons (fun v w1 w2 h hb => h) (all_cons (fun v w1 w2 h hb => h) (all_cons (fun v w1 w2 h hb => h) all_nil)))))))))))))))))))))))))))))))))))
   ·refine (all_cons ?_ (all_cons ?_ (all_cons ?_ (all_cons ?_ (all_cons ?_ (all_cons ?_ (all_cons ?_ (all_cons ?_ (all_cons ?_ (all_cons ?_ (all_cons ?_ (all_cons ?_ (all_cons ?_ (all_cons ?_ (all_cons ?_ (all_cons ?_ (all_cons ?_ (all_cons ?_ (all_cons ?_ (all_cons ?_ (all_cons ?_ (all_cons ?_ (all_cons ?_ (all_cons ?_ (all_cons ?_ (all_cons ?_ (all_cons ?_ (all_cons ?_ (all_cons ?_ (all_cons ?_ (all_cons ?_ (all_cons ?_ (all_cons ?_ (all_cons ?_ (all_cons ?_ all_nil)))))))))))))))))))))))))))))))))))
    ·intro xs wk219 hBk hdep
     have HBk219 := Lib.hid hBk; have zk219 := hBk.size; clear hBk
     clear hdep
     refine wpOp_step (o := _) rfl (fun K hK => ?_)
     simp only [FL]
     go_simp
     refine hK _ _ ⟨.pointer (some ⟨w.heap.size, 0, none⟩), by kernel_rfl, Below.refl _ _, rfl, nF⟩
    ·intro xs wk220 hBk hdep
     have HBk220 := Lib.hid hBk; have zk220 := hBk.size; clear hBk
     have f0 : (xs 0) = .pointer (some ⟨w.heap.size, 0, none⟩) := hdep _ (m_ 0 rfl) (by kernel_rfl)
     clear hdep
     refine wpOp_step (o := _) rfl (fun K hK => ?_)
     simp only [FL]
     have La_221 := CB.step La HBk220.out
     have q222_0 := La_221.cell 0 rfl
     have q222_1 := La_221.cell 1 rfl
     go_simp
     refine hK _ _ ⟨.agg #[.bool n, .slice A l c], by simp only [FL, f0] <;> kernel_rfl, Below.refl _ _, rfl, nF⟩
    ·intro xs wk223 hBk hdep
     have HBk223 := Lib.hid hBk; have zk223 := hBk.size; clear hBk
     have f1 : (xs 1) = .agg #[.bool n, .slice A l c] := hdep _ (m_ 1 rfl) (by kernel_rfl)
     clear hdep
     refine wpOp_step (o := _) rfl (fun K hK => ?_)
     simp only [FL]
     go_simp
     have HA_224 := Lib.hid (LR.step HA.out HBk223.out)
     (with_reducible refine (Check_good HA_224.out HVA.out).mono ?_)
     rintro e wc225 ⟨hb225, rfl⟩
     refine hK _ _ ⟨.int .i64 0, by simp only [FL, f1] <;> kernel_rfl, hb225, rfl, nF⟩
    ·intro xs wk226 hBk hdep
     have HBk226 := Lib.hid hBk; have zk226 := hBk.size; clear hBk
     have f2 : (xs 2) = .int .i64 0 := hdep _ (m_ 2 rfl) (by kernel_rfl)
     clear hdep
     refine wpOp_step (o := _) rfl (fun K hK => ?_)
     simp only [FL]
     go_simp
     refine hK _ _ ⟨.bool false, by simp only [FL, f2] <;> kernel_rfl, Below.refl _ _, rfl, nF⟩
    ·intro xs wk227 hBk hdep
     have HBk227 := Lib.hid hBk; have zk227 := hBk.size; clear hBk
     have f3 : (xs 3) = .bool false := hdep _ (m_ 3 rfl) (by kernel_rfl)
     clear hdep
     refine wpOp_step (o := _) rfl (fun K hK => ?_)
     simp only [FL]
     go_simp
     refine hK _ _ ⟨.bool false, by simp only [FL, f3] <;> kernel_rfl, Below.refl _ _, rfl, nF⟩
    ·intro xs wk228 hBk hdep
     have HBk228 := Lib.hid hBk; have zk228 := hBk.size; clear hBk
     have f4 : (xs 4) = .bool false := hdep _ (m_ 4 rfl) (by kernel_rfl)
     clear hdep
     refine wpOp_step (o := ?go228) ?gho228 ?gh228
     case gho228 => exact rfl
     intro K hK
     simp only [FL]
     go_simp
     refine hK _ _ ⟨.pointer (some ⟨w.heap.size, 2, none⟩), by simp only [FL, f4] <;> kernel_rfl, Below.refl _ _, rfl, nF⟩
    ·intro xs wk229 hBk hdep
     have HBk229 := Lib.hid hBk; have zk229 := hBk.size; clear hBk
     have f4 : (xs 4) = .bool false := hdep _ (m_ 4 rfl) (by kernel_rfl)
     have f5 : (xs 5) = .pointer (some ⟨w.heap.size, 2, none⟩) := hdep _ (m_ 5 rfl) (by kernel_rfl)
     clear hdep
     refine wpOp_step (o := ?go229) ?gho229 ?gh229
     case gho229 => exact rfl
     intro K hK
     simp only [FL]
     have La_230 := CB.step La HBk229.out
     have q231_2 := La_230.cell 2 rfl
     have q231_3 := La_230.cell 3 rfl
     go_simp
     refine hK _ _ ⟨.agg #[.bool m, .slice B k d], by simp only [FL, f4, f5] <;> kernel_rfl, Below.refl _ _, rfl, nF⟩
    ·intro xs wk232 hBk hdep
     have HBk232 := Lib.hid hBk; have zk232 := hBk.size; clear hBk
     have f4 : (xs 4) = .bool false := hdep _ (m_ 4 rfl) (by kernel_rfl)
     have f6 : (xs 6) = .agg #[.bool m, .slice B k d] := hdep _ (m_ 6 rfl) (by kernel_rfl)
     clear hdep
     refine wpOp_step (o := ?go232) ?gho232 ?gh232
     case gho232 => exact rfl
     intro K hK
     simp only [FL]
     go_simp
     have HB_233 := Lib.hid (LR.step HB.out HBk232.out)
     (with_reducible refine (Check_bad HB_233.out HVB.out).mono ?_)
     rintro e wc234 ⟨hb234, rfl⟩
     refine hK _ _ ⟨.int .i64 30, by simp only [FL, f4, f6] <;> kernel_rfl, hb234, rfl, nF⟩
    ·intro xs wk235 hBk hdep
     have HBk235 := Lib.hid hBk; have zk235 := hBk.size; clear hBk
     have f4 : (xs 4) = .bool false := hdep _ (m_ 4 rfl) (by kernel_rfl)
     have f7 : (xs 7) = .int .i64 30 := hdep _ (m_ 7 rfl) (by kernel_rfl)
     clear hdep
     refine wpOp_step (o := ?go235) ?gho235 ?gh235
     case gho235 => exact rfl
     intro K hK
     simp only [FL]
     go_simp
     refine hK _ _ ⟨.bool true, by simp only [FL, f4, f7] <;> kernel_rfl, Below.refl _ _, rfl, nF⟩
    ·intro xs wk236 hBk hdep
     have HBk236 := Lib.hid hBk; have zk236 := hBk.size; clear hBk
     have f4 : (xs 4) = .bool false := hdep _ (m_ 4 rfl) (by kernel_rfl)
     have f8 : (xs 8) = .bool true := hdep _ (m_ 8 rfl) (by kernel_rfl)
     clear hdep
     refine wpOp_step (o := _) rfl (fun K hK => ?_)
     simp only [FL]
     go_simp
     refine hK _ _ ⟨.bool true, by simp only [FL, f4, f8] <;> kernel_rfl, Below.refl _ _, rfl, nF⟩
    ·intro xs wk237 hBk hdep
     have HBk237 := Lib.hid hBk; have zk237 := hBk.size; clear hBk
     have f9 : (xs 9) = .bool true := hdep _ (m_ 9 rfl) (by kernel_rfl)
     clear hdep
     refine wpOp_step (o := _) rfl (fun K hK => ?_)
     simp only [FL]
     go_simp
     refine hK _ _ ⟨.bool true, by simp only [FL, f9] <;> kernel_rfl, Below.refl _ _, rfl, nF⟩
    ·intro xs wk238 hBk hdep
     have HBk238 := Lib.hid hBk; have zk238 := hBk.size; clear hBk
     have f10 : (xs 10) = .bool true := hdep _ (m_ 10 rfl) (by kernel_rfl)
     clear hdep
     refine wpOp_step (o := ?go238) ?gho238 ?gh238
     case gho238 => exact rfl
     intro K hK
     simp only [FL]
     go_simp
     refine hK _ _ ⟨undef, by simp only [FL, f10] <;> kernel_rfl, Below.refl _ _, trivial, nF⟩
    ·intro xs wk239 hBk hdep
     have HBk239 := Lib.hid hBk; have zk239 := hBk.size; clear hBk
     have f10 : (xs 10) = .bool true := hdep _ (m_ 10 rfl) (by kernel_rfl)
     clear hdep
     refine wpOp_step (o := ?go239) ?gho239 ?gh239
     case gho239 => exact rfl
     intro K hK
     simp only [FL]
     go_simp
     refine hK _ _ ⟨undef, by simp only [FL, f10] <;> kernel_rfl, Below.refl _ _, trivial, nF⟩
    ·intro xs wk240 hBk hdep
     have HBk240 := Lib.hid hBk; have zk240 := hBk.size; clear hBk
     have f10 : (xs 10) = .bool true := hdep _ (m_ 10 rfl) (by kernel_rfl)
     clear hdep
     refine wpOp_step (o := ?go240) ?gho240 ?gh240
     case gho240 => exact rfl
     intro K hK
     simp only [FL]
     go_simp
     refine hK _ _ ⟨undef, by simp only [FL, f10] <;> kernel_rfl, Below.refl _ _, trivial, nF⟩
    ·intro xs wk241 hBk hdep
     have HBk241 := Lib.hid hBk; have zk241 := hBk.size; clear hBk
     have f10 : (xs 10) = .bool true := hdep _ (m_ 10 rfl) (by kernel_rfl)
     clear hdep
     refine wpOp_step (o := _) rfl (fun K hK => ?_)
     simp only [FL]
     go_simp
     refine hK _ _ ⟨.bool true, by simp only [FL, f10] <;> kernel_rfl, Below.refl _ _, rfl, nF⟩
    ·intro xs wk242 hBk hdep
     have HBk242 := Lib.hid hBk; have zk242 := hBk.size; clear hBk
     have f14 : (xs 14) = .bool true := hdep _ (m_ 14 rfl) (by kernel_rfl)
     clear hdep
     refine wpOp_step (o := _) rfl (fun K hK => ?_)
     simp only [FL]
     go_simp
     refine hK _ _ ⟨.bool true, by simp only [FL, f14] <;> kernel_rfl, Below.refl _ _, rfl, nF⟩
    ·intro xs wk243 hBk hdep
     have HBk243 := Lib.hid hBk; have zk243 := hBk.size; clear hBk
     have f15 : (xs 15) = .bool true := hdep _ (m_ 15 rfl) (by kernel_rfl)
     clear hdep
     refine wpOp_step (o := ?go243) ?gho243 ?gh243
     case gho243 => exact rfl
     intro K hK
     simp only [FL]
     go_simp
     refine hK _ _ ⟨undef, by simp only [FL, f15] <;> kernel_rfl, Below.refl _ _, trivial, nF⟩
    ·intro xs wk244 hBk hdep
     have HBk244 := Lib.hid hBk; have zk244 := hBk.size; clear hBk
     have f15 : (xs 15) = .bool true := hdep _ (m_ 15 rfl) (by kernel_rfl)
     clear hdep
     refine wpOp_step (o := ?go244) ?gho244 ?gh244
     case gho244 => exact rfl
     intro K hK
     simp only [FL]
     go_simp
     refine hK _ _ ⟨undef, by simp only [FL, f15] <;> kernel_rfl, Below.refl _ _, trivial, nF⟩
    ·intro xs wk245 hBk hdep
     have HBk245 := Lib.hid hBk; have zk245 := hBk.size; clear hBk
     have f15 : (xs 15) = .bool true := hdep _ (m_ 15 rfl) (by kernel_rfl)
     clear hdep
     refine wpOp_step (o := ?go245) ?gho245 ?gh245
     case gho245 => exact rfl
     intro K hK
     simp only [FL]
     go_simp
     refine hK _ _ ⟨undef, by simp only [FL, f15] <;> kernel_rfl, Below.refl _ _, trivial, nF⟩
    ·intro xs wk246 hBk hdep
     have HBk246 := Lib.hid hBk; have zk246 := hBk.size; clear hBk
     have f15 : (xs 15) = .bool true := hdep _ (m_ 15 rfl) (by kernel_rfl)
     clear hdep
     refine wpOp_step (o := ?go246) ?gho246 ?gh246
     case gho246 => exact rfl
     intro K hK
     simp only [FL]
     go_simp
     refine hK _ _ ⟨undef, by simp only [FL, f15] <;> kernel_rfl, Below.refl _ _, trivial, nF⟩
    ·intro xs wk247 hBk hdep
     have HBk247 := Lib.hid hBk; have zk247 := hBk.size; clear hBk
     have f15 : (xs 15) = .bool true := hdep _ (m_ 15 rfl) (by kernel_rfl)
     clear hdep
     refine wpOp_step (o := ?go247) ?gho247 ?gh247
     case gho247 => exact rfl
     intro K hK
     simp only [FL]
     go_simp
     refine hK _ _ ⟨undef, by simp only [FL, f15] <;> kernel_rfl, Below.refl _ _, trivial, nF⟩
    ·intro xs wk248 hBk hdep
     have HBk248 := Lib.hid hBk; have zk248 := hBk.size; clear hBk
     have f15 : (xs 15) = .bool true := hdep _ (m_ 15 rfl) (by kernel_rfl)
     clear hdep
     refine wpOp_step (o := _) rfl (fun K hK => ?_)
     simp only [FL]
     go_simp
     refine hK _ _ ⟨.bool true, by simp only [FL, f15] <;> kernel_rfl, Below.refl _ _, rfl, nF⟩
    ·intro xs wk249 hBk hdep
     have HBk249 := Lib.hid hBk; have zk249 := hBk.size; clear hBk
     have f21 : (xs 21) = .bool true := hdep _ (m_ 21 rfl) (by kernel_rfl)
     clear hdep
     refine wpOp_step (o := _) rfl (fun K hK => ?_)
     simp only [FL]
     go_simp
     refine hK _ _ ⟨.bool true, by simp only [FL, f21] <;> kernel_rfl, Below.refl _ _, rfl, nF⟩
    ·intro xs wk250 hBk hdep
     have HBk250 := Lib.hid hBk; have zk250 := hBk.size; clear hBk
     have f22 : (xs 22) = .bool true := hdep _ (m_ 22 rfl) (by kernel_rfl)
     clear hdep
     refine wpOp_step (o := ?go250) ?gho250 ?gh250
     case gho250 => exact rfl
     intro K hK
     simp only [FL]
     go_simp
     refine hK _ _ ⟨undef, by simp only [FL, f22] <;> kernel_rfl, Below.refl _ _, trivial, nF⟩
    ·intro xs wk251 hBk hdep
     have HBk251 := Lib.hid hBk; have zk251 := hBk.size; clear hBk
     have f22 : (xs 22) = .bool true := hdep _ (m_ 22 rfl) (by kernel_rfl)
     clear hdep
     refine wpOp_step (o := ?go251) ?gho251 ?gh251
     case gho251 => exact rfl
     intro K hK
     simp only [FL]
     go_simp
     refine hK _ _ ⟨undef, by simp only [FL, f22] <;> kernel_rfl, Below.refl _ _, trivial, nF⟩
    ·intro xs wk252 hBk hdep
     have HBk252 := Lib.hid hBk; have zk252 := hBk.size; clear hBk
     have f22 : (xs 22) = .bool true := hdep _ (m_ 22 rfl) (by kernel_rfl)
     clear hdep
     refine wpOp_step (o := ?go252) ?gho252 ?gh252
     case gho252 => exact rfl
     intro K hK
     simp only [FL]
     go_simp
     refine hK _ _ ⟨undef, by simp only [FL, f22] <;> kernel_rfl, Below.refl _ _, trivial, nF⟩
    ·intro xs wk253 hBk hdep
     have HBk253 := Lib.hid hBk; have zk253 := hBk.size; clear hBk
     have f22 : (xs 22) = .bool true := hdep _ (m_ 22 rfl) (by kernel_rfl)
     clear hdep
     refine wpOp_step (o := ?go253) ?gho253 ?gh253
     case gho253 => exact rfl
     intro K hK
     simp only [FL]
     go_simp
     refine hK _ _ ⟨undef, by simp only [FL, f22] <;> kernel_rfl, Below.refl _ _, trivial, nF⟩
    ·intro xs wk254 hBk hdep
     have HBk254 := Lib.hid hBk; have zk254 := hBk.size; clear hBk
     have f22 : (xs 22) = .bool true := hdep _ (m_ 22 rfl) (by kernel_rfl)
     clear hdep
     refine wpOp_step (o := ?go254) ?gho254 ?gh254
     case gho254 => exact rfl
     intro K hK
     simp only [FL]
     go_simp
     refine hK _ _ ⟨undef, by simp only [FL, f22] <;> kernel_rfl, Below.refl _ _, trivial, nF⟩
    ·intro xs wk255 hBk hdep
     have HBk255 := Lib.hid hBk; have zk255 := hBk.size; clear hBk
     have f22 : (xs 22) = .bool true := hdep _ (m_ 22 rfl) (by kernel_rfl)
     clear hdep
     refine wpOp_step (o := ?go255) ?gho255 ?gh255
     case gho255 => exact rfl
     intro K hK
     simp only [FL]
     go_simp
     refine hK _ _ ⟨undef, by simp only [FL, f22] <;> kernel_rfl, Below.refl _ _, trivial, nF⟩
    ·intro xs wk256 hBk hdep
     have HBk256 := Lib.hid hBk; have zk256 := hBk.size; clear hBk
     have f22 : (xs 22) = .bool true := hdep _ (m_ 22 rfl) (by kernel_rfl)
     clear hdep
     refine wpOp_step (o := ?go256) ?gho256 ?gh256
     case gho256 => exact rfl
     intro K hK
     simp only [FL]
     go_simp
     refine hK _ _ ⟨undef, by simp only [FL, f22] <;> kernel_rfl, Below.refl _ _, trivial, nF⟩
    ·intro xs wk257 hBk hdep
     have HBk257 := Lib.hid hBk; have zk257 := hBk.size; clear hBk
     have f22 : (xs 22) = .bool true := hdep _ (m_ 22 rfl) (by kernel_rfl)
     clear hdep
     refine wpOp_step (o := ?go257) ?gho257 ?gh257
     case gho257 => exact rfl
     intro K hK
     simp only [FL]
     go_simp
     refine hK _ _ ⟨undef, by simp only [FL, f22] <;> kernel_rfl, Below.refl _ _, trivial, nF⟩
    ·intro xs wk258 hBk hdep
     have HBk258 := Lib.hid hBk; have zk258 := hBk.size; clear hBk
     have f22 : (xs 22) = .bool true := hdep _ (m_ 22 rfl) (by kernel_rfl)
     clear hdep
     refine wpOp_step (o := ?go258) ?gho258 ?gh258
     case gho258 => exact rfl
     intro K hK
     simp only [FL]
     go_simp
     refine hK _ _ ⟨undef, by simp only [FL, f22] <;> kernel_rfl, Below.refl _ _, trivial, nF⟩
    ·intro xs wk259 hBk hdep
     have HBk259 := Lib.hid hBk; have zk259 := hBk.size; clear hBk
     have f22 : (xs 22) = .bool true := hdep _ (m_ 22 rfl) (by kernel_rfl)
     clear hdep
     refine wpOp_step (o := ?go259) ?gho259 ?gh259
     case gho259 => exact rfl
     intro K hK
     simp only [FL]
     go_simp
     refine hK _ _ ⟨undef, by simp only [FL, f22] <;> kernel_rfl, Below.refl _ _, trivial, nF⟩
    ·intro xs wk260 hBk hdep
     have HBk260 := Lib.hid hBk; have zk260 := hBk.size; clear hBk
     have f22 : (xs 22) = .bool true := hdep _ (m_ 22 rfl) (by kernel_rfl)
     clear hdep
     refine wpOp_step (o := ?go260) ?gho260 ?gh260
     case gho260 => exact rfl
     intro K hK
     simp only [FL]
     go_simp
     refine hK _ _ ⟨undef, by simp only [FL, f22] <;> kernel_rfl, Below.refl _ _, trivial, nF⟩
    ·intro xs wk261 hBk hdep
     have HBk261 := Lib.hid hBk; have zk261 := hBk.size; clear hBk
     have f22 : (xs 22) = .bool true := hdep _ (m_ 22 rfl) (by kernel_rfl)
     clear hdep
     refine wpOp_step (o := _) rfl (fun K hK => ?_)
     simp only [FL]
     go_simp
     refine hK _ _ ⟨.bool true, by simp only [FL, f22] <;> kernel_rfl, Below.refl _ _, rfl, nF⟩
   ·exact all_nil
   ·intro xs wf262 hbf hf hn hd
    have f0 : (xs 0) = .pointer (some ⟨w.heap.size, 0, none⟩) := hf _ (m_ 0 rfl)
    have f1 : (xs 1) = .agg #[.bool n, .slice A l c] := hf _ (m_ 1 rfl)
    have f2 : (xs 2) = .int .i64 0 := hf _ (m_ 2 rfl)
    have f3 : (xs 3) = .bool false := hf _ (m_ 3 rfl)
    have f4 : (xs 4) = .bool false := hf _ (m_ 4 rfl)
    have f5 : (xs 5) = .pointer (some ⟨w.heap.size, 2, none⟩) := hf _ (m_ 5 rfl)
    have f6 : (xs 6) = .agg #[.bool m, .slice B k d] := hf _ (m_ 6 rfl)
    have f7 : (xs 7) = .int .i64 30 := hf _ (m_ 7 rfl)
    have f8 : (xs 8) = .bool true := hf _ (m_ 8 rfl)
    have f9 : (xs 9) = .bool true := hf _ (m_ 9 rfl)
    have f10 : (xs 10) = .bool true := hf _ (m_ 10 rfl)
    have f11 : True := hf _ (m_ 11 rfl)
    have f12 : True := hf _ (m_ 12 rfl)
    have f13 : True := hf _ (m_ 13 rfl)
    have f14 : (xs 14) = .bool true := hf _ (m_ 14 rfl)
    have f15 : (xs 15) = .bool true := hf _ (m_ 15 rfl)
    have f16 : True := hf _ (m_ 16 rfl)
    have f17 : True := hf _ (m_ 17 rfl)
    have f18 : True := hf _ (m_ 18 rfl)
    have f19 : True := hf _ (m_ 19 rfl)
    have f20 : True := hf _ (m_ 20 rfl)
    have f21 : (xs 21) = .bool true := hf _ (m_ 21 rfl)
    have f22 : (xs 22) = .bool true := hf _ (m_ 22 rfl)
    have f23 : True := hf _ (m_ 23 rfl)
    have f24 : True := hf _ (m_ 24 rfl)
    have f25 : True := hf _ (m_ 25 rfl)
    have f26 : True := hf _ (m_ 26 rfl)
    have f27 : True := hf _ (m_ 27 rfl)
    have f28 : True := hf _ (m_ 28 rfl)
    have f29 : True := hf _ (m_ 29 rfl)
    have f30 : True := hf _ (m_ 30 rfl)
    have f31 : True := hf _ (m_ 31 rfl)
    have f32 : True := hf _ (m_ 32 rfl)
    have f33 : True := hf _ (m_ 33 rfl)
    have f34 : (xs 34) = .bool true := hf _ (m_ 34 rfl)
    clear hf hn hd
    simp only [FL]
    have B263 := Lib.hid hbf
    have z263 := B263.out.size
    have HB264 := Lib.hid (B0.out.trans (B263.out.mono B0.out.size))
    clear hbf
    generalize xs 0 = x0 at *
    generalize xs 1 = x1 at *
    generalize xs 2 = x2 at *
    generalize xs 3 = x3 at *
    generalize xs 4 = x4 at *
    generalize xs 5 = x5 at *
    generalize xs 6 = x6 at *
    generalize xs 7 = x7 at *
    generalize xs 8 = x8 at *
    generalize xs 9 = x9 at *
    generalize xs 10 = x10 at *
    generalize xs 11 = x11 at *
    generalize xs 12 = x12 at *
    generalize xs 13 = x13 at *
    generalize xs 14 = x14 at *
    generalize xs 15 = x15 at *
    generalize xs 16 = x16 at *
    generalize xs 17 = x17 at *
    generalize xs 18 = x18 at *
    generalize xs 19 = x19 at *
    generalize xs 20 = x20 at *
    generalize xs 21 = x21 at *
    generalize xs 22 = x22 at *
    generalize xs 23 = x23 at *
    generalize xs 24 = x24 at *
    generalize xs 25 = x25 at *
    generalize xs 26 = x26 at *
    generalize xs 27 = x27 at *
    generalize xs 28 = x28 at *
    generalize xs 29 = x29 at *
    generalize xs 30 = x30 at *
    generalize xs 31 = x31 at *
    generalize xs 32 = x32 at *
    generalize xs 33 = x33 at *
    generalize xs 34 = x34 at *
    obtain rfl := f0
    obtain rfl := f1
    obtain rfl := f2
    obtain rfl := f3
    obtain rfl := f4
    obtain rfl := f5
    obtain rfl := f6
    obtain rfl := f7
    obtain rfl := f8
    obtain rfl := f9
    obtain rfl := f10
    clear f11
    clear f12
    clear f13
    obtain rfl := f14
    obtain rfl := f15
    clear f16
    clear f17
    clear f18
    clear f19
    clear f20
    obtain rfl := f21
    obtain rfl := f22
    clear f23
    clear f24
    clear f25
    clear f26
    clear f27
    clear f28
    clear f29
    clear f30
    clear f31
    clear f32
    clear f33
    obtain rfl := f34
    refine Early.done (by kernel_rfl) ?_ _
    (try simp only [Exit.then])
    go_wp2
    go_ret
    exact ⟨HB264.out, by rw [HR.out, chkQ_none (qOf_none2 HVB.out)]; rfl⟩
 ·have HVA := Lib.hid hva; clear hva
  go_enter Tryz.func45, Tryz.ntmps45
  go_upto_region 1 with (fail)
  rw [← hw0]; clear hw0
  refine Flow.run [⟨0, 3, fun fv fw => fv = .pointer (some ⟨w.heap.size, 0, none⟩)⟩, ⟨1, 4, fun fv fw => fv = .agg #[.bool n, .slice A l c]⟩, ⟨2, 5, fun fv fw => fv = .int .i64 30⟩, ⟨3, 6, fun fv fw => fv = .bool true⟩, ⟨4, 7, fun fv fw => fv = .bool true⟩, ⟨5, 8, fun fv fw => True⟩, ⟨6, 9, fun fv fw => True⟩, ⟨7, 10, fun fv fw => True⟩, ⟨8, 11, fun fv fw => True⟩, ⟨9, 12, fun fv fw => fv = .bool true⟩, ⟨10, 13, fun fv fw => fv = .bool true⟩, ⟨11, 14, fun fv fw => True⟩, ⟨12, 15, fun fv fw => True⟩, ⟨13, 16, fun fv fw => True⟩, ⟨14, 17, fun fv fw => fv = .bool true⟩, ⟨15, 18, fun fv fw => fv = .bool true⟩, ⟨16, 19, fun fv fw => True⟩, ⟨17, 20, fun fv fw => True⟩, ⟨18, 21, fun fv fw => True⟩, ⟨19, 22, fun fv fw => True⟩, ⟨20, 23, fun fv fw => True⟩, ⟨21, 24, fun fv fw => fv = .bool true⟩, ⟨22, 25, fun fv fw => fv = .bool true⟩, ⟨23, 26, fun fv fw => True⟩, ⟨24, 27, fun fv fw => True⟩, ⟨25, 28, fun fv fw => True⟩, ⟨26, 29, fun fv fw => True⟩, ⟨27, 30, fun fv fw => True⟩, ⟨28, 31, fun fv fw => True⟩, ⟨29, 32, fun fv fw => True⟩, ⟨30, 33, fun fv fw => True⟩, ⟨31, 34, fun fv fw => True⟩, ⟨32, 35, fun fv fw => True⟩, ⟨33, 36, fun fv fw => True⟩, ⟨34, 37, fun fv fw => fv = .bool true⟩] [] [] 0 (by kernel_rfl) (by kernel_rfl) (by kernel_rfl) (fun _ _ _ _ _ h => h) ?_ ?_ ?_ ?_
  ·refine (all_cons (fun v w1 w2 h hb => h) (all_cons (fun v w1 w2 h hb => h) (all_cons (fun v w1 w2 h hb => h) (all_cons (fun v w1 w2 h hb => h) (all_cons (fun v w1 w2 h hb => h) (all_cons (fun v w1 w2 h hb => h) (all_cons (fun v w1 w2 h hb => h) (all_cons (fun v w1 w2 h hb => h) (all_cons (fun v w1 w2 h hb => h) (all_cons (fun v w1 w2 h hb => h) (all_cons (fun v w1 w2 h hb => h) (all_cons (fun v w1 w2 h hb => h) (all_cons (fun v w1 w2 h hb => h) (all_cons (fun v w1 w2 h hb => h) (all_cons (fun v w1 w2 h hb => h) (all_cons (fun v w1 w2 h hb => h) (all_cons (fun v w1 w2 h hb => h) (all_cons (fun v w1 w2 h hb => h) (all_cons (fun v w1 w2 h hb => h) (all_cons (fun v w1 w2 h hb => h) (all_cons (fun v w1 w2 h hb => h) (all_cons (fun v w1 w2 h hb => h) (all_cons (fun v w1 w2 h hb => h) (all_cons (fun v w1 w2 h hb => h) (all_cons (fun v w1 w2 h hb => h) (all_cons (fun v w1 w2 h hb => h) (all_cons (fun v w1 w2 h hb => h) (all_cons (fun v w1 w2 h hb => h) (all_cons (fun v w1 w2 h hb => h) (all_cons (fun v w1 w2 h hb => h) (all_cons (fun v w1 w2 h hb => h) (all_cons (fun v w1 w2 h hb => h) (all_cons (fun v w1 w2 h hb => h) (all_cons (fun v w1 w2 h hb => h) (all_cons (fun v w1 w2 h hb => h) all_nil)))))))))))))))))))))))))))))))))))
  ·refine (all_cons ?_ (all_cons ?_ (all_cons ?_ (all_cons ?_ (all_cons ?_ (all_cons ?_ (all_cons ?_ (all_cons ?_ (all_cons ?_ (all_cons ?_ (all_cons ?_ (all_cons ?_ (all_cons ?_ (all_cons ?_ (all_cons ?_ (all_cons ?_ (all_cons ?_ (all_cons ?_ (all_cons ?_ (all_cons ?_ (all_cons ?_ (all_cons ?_ (all_cons ?_ (all_cons ?_ (all_cons ?_ (all_cons ?_ (all_cons ?_ (all_cons ?_ (all_cons ?_ (all_cons ?_ (all_cons ?_ (all_cons ?_ (all_cons ?_ (all_cons ?_ (all_cons ?_ all_nil)))))))))))))))))))))))))))))))))))
   ·intro xs wk265 hBk hdep
    have HBk265 := Lib.hid hBk; have zk265 := hBk.size; clear hBk
    clear hdep
    refine wpOp_step (o := _) rfl (fun K hK => ?_)
    simp only [FL]
    go_simp
    refine hK _ _ ⟨.pointer (some ⟨w.heap.size, 0, none⟩), by kernel_rfl, Below.refl _ _, rfl, nF⟩
   ·intro xs wk266 hBk hdep
    have HBk266 := Lib.hid hBk; have zk266 := hBk.size; clear hBk
    have f0 : (xs 0) = .pointer (some ⟨w.heap.size, 0, none⟩) := hdep _ (m_ 0 rfl) (by kernel_rfl)
    clear hdep
    refine wpOp_step (o := _) rfl (fun K hK => ?_)
    simp only [FL]
    have La_267 := CB.step La HBk266.out
    have q268_0 := La_267.cell 0 rfl
    have q268_1 := La_267.cell 1 rfl
    go_simp
    refine hK _ _ ⟨.agg #[.bool n, .slice A l c], by simp only [FL, f0] <;> kernel_rfl, Below.refl _ _, rfl, nF⟩
   ·intro xs wk269 hBk hdep
    have HBk269 := Lib.hid hBk; have zk269 := hBk.size; clear hBk
    have f1 : (xs 1) = .agg #[.bool n, .slice A l c] := hdep _ (m_ 1 rfl) (by kernel_rfl)
    clear hdep
    refine wpOp_step (o := _) rfl (fun K hK => ?_)
    simp only [FL]
    go_simp
    have HA_270 := Lib.hid (LR.step HA.out HBk269.out)
    (with_reducible refine (Check_bad HA_270.out HVA.out).mono ?_)
    rintro e wc271 ⟨hb271, rfl⟩
    refine hK _ _ ⟨.int .i64 30, by simp only [FL, f1] <;> kernel_rfl, hb271, rfl, nF⟩
   ·intro xs wk272 hBk hdep
    have HBk272 := Lib.hid hBk; have zk272 := hBk.size; clear hBk
    have f2 : (xs 2) = .int .i64 30 := hdep _ (m_ 2 rfl) (by kernel_rfl)
    clear hdep
    refine wpOp_step (o := _) rfl (fun K hK => ?_)
    simp only [FL]
    go_simp
    refine hK _ _ ⟨.bool true, by simp only [FL, f2] <;> kernel_rfl, Below.refl _ _, rfl, nF⟩
   ·intro xs wk273 hBk hdep
    have HBk273 := Lib.hid hBk; have zk273 := hBk.size; clear hBk
    have f3 : (xs 3) = .bool true := hdep _ (m_ 3 rfl) (by kernel_rfl)
    clear hdep
    refine wpOp_step (o := _) rfl (fun K hK => ?_)
    simp only [FL]
    go_simp
    refine hK _ _ ⟨.bool true, by simp only [FL, f3] <;> kernel_rfl, Below.refl _ _, rfl, nF⟩
   ·intro xs wk274 hBk hdep
    have HBk274 := Lib.hid hBk; have zk274 := hBk.size; clear hBk
    have f4 : (xs 4) = .bool true := hdep _ (m_ 4 rfl) (by kernel_rfl)
    clear hdep
    refine wpOp_step (o := ?go274) ?gho274 ?gh274
    case gho274 => exact rfl
    intro K hK
    simp only [FL]
    go_simp
    refine hK _ _ ⟨undef, by simp only [FL, f4] <;> kernel_rfl, Below.refl _ _, trivial, nF⟩
   ·intro xs wk275 hBk hdep
    have HBk275 := Lib.hid hBk; have zk275 := hBk.size; clear hBk
    have f4 : (xs 4) = .bool true := hdep _ (m_ 4 rfl) (by kernel_rfl)
    clear hdep
    refine wpOp_step (o := ?go275) ?gho275 ?gh275
    case gho275 => exact rfl
    intro K hK
    simp only [FL]
    go_simp
    refine hK _ _ ⟨undef, by simp only [FL, f4] <;> kernel_rfl, Below.refl _ _, trivial, nF⟩
   ·intro xs wk276 hBk hdep
    have HBk276 := Lib.hid hBk; have zk276 := hBk.size; clear hBk
    have f4 : (xs 4) = .bool true := hdep _ (m_ 4 rfl) (by kernel_rfl)
    clear hdep
    refine wpOp_step (o := ?go276) ?gho276 ?gh276
    case gho276 => exact rfl
    intro K hK
    simp only [FL]
    go_simp
    refine hK _ _ ⟨undef, by simp only [FL, f4] <;> kernel_rfl, Below.refl _ _, trivial, nF⟩
   ·intro xs wk277 hBk hdep
    have HBk277 := Lib.hid hBk; have zk277 := hBk.size; clear hBk
    have f4 : (xs 4) = .bool true := hdep _ (m_ 4 rfl) (by kernel_rfl)
    clear hdep
    refine wpOp_step (o := ?go277) ?gho277 ?gh277
    case gho277 => exact rfl
    intro K hK
    simp only [FL]
    go_simp
    refine hK _ _ ⟨undef, by simp only [FL, f4] <;> kernel_rfl, Below.refl _ _, trivial, nF⟩
   ·intro xs wk278 hBk hdep
    have HBk278 := Lib.hid hBk; have zk278 := hBk.size; clear hBk
    have f4 : (xs 4) = .bool true := hdep _ (m_ 4 rfl) (by kernel_rfl)
    clear hdep
    refine wpOp_step (o := _) rfl (fun K hK => ?_)
    simp only [FL]
    go_simp
    refine hK _ _ ⟨.bool true, by simp only [FL, f4] <;> kernel_rfl, Below.refl _ _, rfl, nF⟩
   ·intro xs wk279 hBk hdep
    have HBk279 := Lib.hid hBk; have zk279 := hBk.size; clear hBk
    have f9 : (xs 9) = .bool true := hdep _ (m_ 9 rfl) (by kernel_rfl)
    clear hdep
    refine wpOp_step (o := _) rfl (fun K hK => ?_)
    simp only [FL]
    go_simp
    refine hK _ _ ⟨.bool true, by simp only [FL, f9] <;> kernel_rfl, Below.refl _ _, rfl, nF⟩
   ·intro xs wk280 hBk hdep
    have HBk280 := Lib.hid hBk; have zk280 := hBk.size; clear hBk
    have f10 : (xs 10) = .bool true := hdep _ (m_ 10 rfl) (by kernel_rfl)
    clear hdep
    refine wpOp_step (o := ?go280) ?gho280 ?gh280
    case gho280 => exact rfl
    intro K hK
    simp only [FL]
    go_simp
    refine hK _ _ ⟨undef, by simp only [FL, f10] <;> kernel_rfl, Below.refl _ _, trivial, nF⟩
   ·intro xs wk281 hBk hdep
    have HBk281 := Lib.hid hBk; have zk281 := hBk.size; clear hBk
    have f10 : (xs 10) = .bool true := hdep _ (m_ 10 rfl) (by kernel_rfl)
    clear hdep
    refine wpOp_step (o := ?go281) ?gho281 ?gh281
    case gho281 => exact rfl
    intro K hK
    simp only [FL]
    go_simp
    refine hK _ _ ⟨undef, by simp only [FL, f10] <;> kernel_rfl, Below.refl _ _, trivial, nF⟩
   ·intro xs wk282 hBk hdep
    have HBk282 := Lib.hid hBk; have zk282 := hBk.size; clear hBk
    have f10 : (xs 10) = .bool true := hdep _ (m_ 10 rfl) (by kernel_rfl)
    clear hdep
    refine wpOp_step (o := ?go282) ?gho282 ?gh282
    case gho282 => exact rfl
    intro K hK
    simp only [FL]
    go_simp
    refine hK _ _ ⟨undef, by simp only [FL, f10] <;> kernel_rfl, Below.refl _ _, trivial, nF⟩
   ·intro xs wk283 hBk hdep
    have HBk283 := Lib.hid hBk; have zk283 := hBk.size; clear hBk
    have f10 : (xs 10) = .bool true := hdep _ (m_ 10 rfl) (by kernel_rfl)
    clear hdep
    refine wpOp_step (o := _) rfl (fun K hK => ?_)
    simp only [FL]
    go_simp
    refine hK _ _ ⟨.bool true, by simp only [FL, f10] <;> kernel_rfl, Below.refl _ _, rfl, nF⟩
   ·intro xs wk284 hBk hdep
    have HBk284 := Lib.hid hBk; have zk284 := hBk.size; clear hBk
    have f14 : (xs 14) = .bool true := hdep _ (m_ 14 rfl) (by kernel_rfl)
    clear hdep
    refine wpOp_step (o := _) rfl (fun K hK => ?_)
    simp only [FL]
    go_simp
    refine hK _ _ ⟨.bool true, by simp only [FL, f14] <;> kernel_rfl, Below.refl _ _, rfl, nF⟩
   ·intro xs wk285 hBk hdep
    have HBk285 := Lib.hid hBk; have zk285 := hBk.size; clear hBk
    have f15 : (xs 15) = .bool true := hdep _ (m_ 15 rfl) (by kernel_rfl)
    clear hdep
    refine wpOp_step (o := ?go285) ?gho285 ?gh285
    case gho285 => exact rfl
    intro K hK
    simp only [FL]
    go_simp
    refine hK _ _ ⟨undef, by simp only [FL, f15] <;> kernel_rfl, Below.refl _ _, trivial, nF⟩
   ·intro xs wk286 hBk hdep
    have HBk286 := Lib.hid hBk; have zk286 := hBk.size; clear hBk
    have f15 : (xs 15) = .bool true := hdep _ (m_ 15 rfl) (by kernel_rfl)
    clear hdep
    refine wpOp_step (o := ?go286) ?gho286 ?gh286
    case gho286 => exact rfl
    intro K hK
    simp only [FL]
    go_simp
    refine hK _ _ ⟨undef, by simp only [FL, f15] <;> kernel_rfl, Below.refl _ _, trivial, nF⟩
   ·intro xs wk287 hBk hdep
    have HBk287 := Lib.hid hBk; have zk287 := hBk.size; clear hBk
    have f15 : (xs 15) = .bool true := hdep _ (m_ 15 rfl) (by kernel_rfl)
    clear hdep
    refine wpOp_step (o := ?go287) ?gho287 ?gh287
    case gho287 => exact rfl
    intro K hK
    simp only [FL]
    go_simp
    refine hK _ _ ⟨undef, by simp only [FL, f15] <;> kernel_rfl, Below.refl _ _, trivial, nF⟩
   ·intro xs wk288 hBk hdep
    have HBk288 := Lib.hid hBk; have zk288 := hBk.size; clear hBk
    have f15 : (xs 15) = .bool true := hdep _ (m_ 15 rfl) (by kernel_rfl)
    clear hdep
    refine wpOp_step (o := ?go288) ?gho288 ?gh288
    case gho288 => exact rfl
    intro K hK
    simp only [FL]
    go_simp
    refine hK _ _ ⟨undef, by simp only [FL, f15] <;> kernel_rfl, Below.refl _ _, trivial, nF⟩
   ·intro xs wk289 hBk hdep
    have HBk289 := Lib.hid hBk; have zk289 := hBk.size; clear hBk
    have f15 : (xs 15) = .bool true := hdep _ (m_ 15 rfl) (by kernel_rfl)
    clear hdep
    refine wpOp_step (o := ?go289) ?gho289 ?gh289
    case gho289 => exact rfl
    intro K hK
    simp only [FL]
    go_simp
    refine hK _ _ ⟨undef, by simp only [FL, f15] <;> kernel_rfl, Below.refl _ _, trivial, nF⟩
   ·intro xs wk290 hBk hdep
    have HBk290 := Lib.hid hBk; have zk290 := hBk.size; clear hBk
    have f15 : (xs 15) = .bool true := hdep _ (m_ 15 rfl) (by kernel_rfl)
    clear hdep
    refine wpOp_step (o := _) rfl (fun K hK => ?_)
    simp only [FL]
    go_simp
    refine hK _ _ ⟨.bool true, by simp only [FL, f15] <;> kernel_rfl, Below.refl _ _, rfl, nF⟩
   ·intro xs wk291 hBk hdep
    have HBk291 := Lib.hid hBk; have zk291 := hBk.size; clear hBk
    have f21 : (xs 21) = .bool true := hdep _ (m_ 21 rfl) (by kernel_rfl)
    clear hdep
    refine wpOp_step (o := _) rfl (fun K hK => ?_)
    simp only [FL]
    go_simp
    refine hK _ _ ⟨.bool true, by simp only [FL, f21] <;> kernel_rfl, Below.refl _ _, rfl, nF⟩
   ·intro xs wk292 hBk hdep
    have HBk292 := Lib.hid hBk; have zk292 := hBk.size; clear hBk
    have f22 : (xs 22) = .bool true := hdep _ (m_ 22 rfl) (by kernel_rfl)
    clear hdep
    refine wpOp_step (o := ?go292) ?gho292 ?gh292
    case gho292 => exact rfl
    intro K hK
    simp only [FL]
    go_simp
    refine hK _ _ ⟨undef, by simp only [FL, f22] <;> kernel_rfl, Below.refl _ _, trivial, nF⟩
   ·intro xs wk293 hBk hdep
    have HBk293 := Lib.hid hBk; have zk293 := hBk.size; clear hBk
    have f22 : (xs 22) = .bool true := hdep _ (m_ 22 rfl) (by kernel_rfl)
    clear hdep
    refine wpOp_step (o := ?go293) ?gho293 ?gh293
    case gho293 => exact rfl
    intro K hK
    simp only [FL]
    go_simp
    refine hK _ _ ⟨undef, by simp only [FL, f22] <;> kernel_rfl, Below.refl _ _, trivial, nF⟩
   ·intro xs wk294 hBk hdep
    have HBk294 := Lib.hid hBk; have zk294 := hBk.size; clear hBk
    have f22 : (xs 22) = .bool true := hdep _ (m_ 22 rfl) (by kernel_rfl)
    clear hdep
    refine wpOp_step (o := ?go294) ?gho294 ?gh294
    case gho294 => exact rfl
    intro K hK
    simp only [FL]
    go_simp
    refine hK _ _ ⟨undef, by simp only [FL, f22] <;> kernel_rfl, Below.refl _ _, trivial, nF⟩
   ·intro xs wk295 hBk hdep
    have HBk295 := Lib.hid hBk; have zk295 := hBk.size; clear hBk
    have f22 : (xs 22) = .bool true := hdep _ (m_ 22 rfl) (by kernel_rfl)
    clear hdep
    refine wpOp_step (o := ?go295) ?gho295 ?gh295
    case gho295 => exact rfl
    intro K hK
    simp only [FL]
    go_simp
    refine hK _ _ ⟨undef, by simp only [FL, f22] <;> kernel_rfl, Below.refl _ _, trivial, nF⟩
   ·intro xs wk296 hBk hdep
    have HBk296 := Lib.hid hBk; have zk296 := hBk.size; clear hBk
    have f22 : (xs 22) = .bool true := hdep _ (m_ 22 rfl) (by kernel_rfl)
    clear hdep
    refine wpOp_step (o := ?go296) ?gho296 ?gh296
    case gho296 => exact rfl
    intro K hK
    simp only [FL]
    go_simp
    refine hK _ _ ⟨undef, by simp only [FL, f22] <;> kernel_rfl, Below.refl _ _, trivial, nF⟩
   ·intro xs wk297 hBk hdep
    have HBk297 := Lib.hid hBk; have zk297 := hBk.size; clear hBk
    have f22 : (xs 22) = .bool true := hdep _ (m_ 22 rfl) (by kernel_rfl)
    clear hdep
    refine wpOp_step (o := ?go297) ?gho297 ?gh297
    case gho297 => exact rfl
    intro K hK
    simp only [FL]
    go_simp
    refine hK _ _ ⟨undef, by simp only [FL, f22] <;> kernel_rfl, Below.refl _ _, trivial, nF⟩
   ·intro xs wk298 hBk hdep
    have HBk298 := Lib.hid hBk; have zk298 := hBk.size; clear hBk
    have f22 : (xs 22) = .bool true := hdep _ (m_ 22 rfl) (by kernel_rfl)
    clear hdep
    refine wpOp_step (o := ?go298) ?gho298 ?gh298
    case gho298 => exact rfl
    intro K hK
    simp only [FL]
    go_simp
    refine hK _ _ ⟨undef, by simp only [FL, f22] <;> kernel_rfl, Below.refl _ _, trivial, nF⟩
   ·intro xs wk299 hBk hdep
    have HBk299 := Lib.hid hBk; have zk299 := hBk.size; clear hBk
    have f22 : (xs 22) = .bool true := hdep _ (m_ 22 rfl) (by kernel_rfl)
    clear hdep
    refine wpOp_step (o := ?go299) ?gho299 ?gh299
    case gho299 => exact rfl
    intro K hK
    simp only [FL]
    go_simp
    refine hK _ _ ⟨undef, by simp only [FL, f22] <;> kernel_rfl, Below.refl _ _, trivial, nF⟩
   ·intro xs wk300 hBk hdep
    have HBk300 := Lib.hid hBk; have zk300 := hBk.size; clear hBk
    have f22 : (xs 22) = .bool true := hdep _ (m_ 22 rfl) (by kernel_rfl)
    clear hdep
    refine wpOp_step (o := ?go300) ?gho300 ?gh300
    case gho300 => exact rfl
    intro K hK
    simp only [FL]
    go_simp
    refine hK _ _ ⟨undef, by simp only [FL, f22] <;> kernel_rfl, Below.refl _ _, trivial, nF⟩
   ·intro xs wk301 hBk hdep
    have HBk301 := Lib.hid hBk; have zk301 := hBk.size; clear hBk
    have f22 : (xs 22) = .bool true := hdep _ (m_ 22 rfl) (by kernel_rfl)
    clear hdep
    refine wpOp_step (o := ?go301) ?gho301 ?gh301
    case gho301 => exact rfl
    intro K hK
    simp only [FL]
    go_simp
    refine hK _ _ ⟨undef, by simp only [FL, f22] <;> kernel_rfl, Below.refl _ _, trivial, nF⟩
   ·intro xs wk302 hBk hdep
    have HBk302 := Lib.hid hBk; have zk302 := hBk.size; clear hBk
    have f22 : (xs 22) = .bool true := hdep _ (m_ 22 rfl) (by kernel_rfl)
    clear hdep
    refine wpOp_step (o := ?go302) ?gho302 ?gh302
    case gho302 => exact rfl
    intro K hK
    simp only [FL]
    go_simp
    refine hK _ _ ⟨undef, by simp only [FL, f22] <;> kernel_rfl, Below.refl _ _, trivial, nF⟩
   ·intro xs wk303 hBk hdep
    have HBk303 := Lib.hid hBk; have zk303 := hBk.size; clear hBk
    have f22 : (xs 22) = .bool true := hdep _ (m_ 22 rfl) (by kernel_rfl)
    clear hdep
    refine wpOp_step (o := _) rfl (fun K hK => ?_)
    simp only [FL]
    go_simp
    refine hK _ _ ⟨.bool true, by simp only [FL, f22] <;> kernel_rfl, Below.refl _ _, rfl, nF⟩
  ·exact all_nil
  ·intro xs wf304 hbf hf hn hd
   have f0 : (xs 0) = .pointer (some ⟨w.heap.size, 0, none⟩) := hf _ (m_ 0 rfl)
   have f1 : (xs 1) = .agg #[.bool n, .slice A l c] := hf _ (m_ 1 rfl)
   have f2 : (xs 2) = .int .i64 30 := hf _ (m_ 2 rfl)
   have f3 : (xs 3) = .bool true := hf _ (m_ 3 rfl)
   have f4 : (xs 4) = .bool true := hf _ (m_ 4 rfl)
   have f5 : True := hf _ (m_ 5 rfl)
   have f6 : True := hf _ (m_ 6 rfl)
   have f7 : True := hf _ (m_ 7 rfl)
   have f8 : True := hf _ (m_ 8 rfl)
   have f9 : (xs 9) = .bool true := hf _ (m_ 9 rfl)
   have f10 : (xs 10) = .bool true := hf _ (m_ 10 rfl)
   have f11 : True := hf _ (m_ 11 rfl)
   have f12 : True := hf _ (m_ 12 rfl)
   have f13 : True := hf _ (m_ 13 rfl)
   have f14 : (xs 14) = .bool true := hf _ (m_ 14 rfl)
   have f15 : (xs 15) = .bool true := hf _ (m_ 15 rfl)
   have f16 : True := hf _ (m_ 16 rfl)
   have f17 : True := hf _ (m_ 17 rfl)
   have f18 : True := hf _ (m_ 18 rfl)
   have f19 : True := hf _ (m_ 19 rfl)
   have f20 : True := hf _ (m_ 20 rfl)
   have f21 : (xs 21) = .bool true := hf _ (m_ 21 rfl)
   have f22 : (xs 22) = .bool true := hf _ (m_ 22 rfl)
   have f23 : True := hf _ (m_ 23 rfl)
   have f24 : True := hf _ (m_ 24 rfl)
   have f25 : True := hf _ (m_ 25 rfl)
   have f26 : True := hf _ (m_ 26 rfl)
   have f27 : True := hf _ (m_ 27 rfl)
   have f28 : True := hf _ (m_ 28 rfl)
   have f29 : True := hf _ (m_ 29 rfl)
   have f30 : True := hf _ (m_ 30 rfl)
   have f31 : True := hf _ (m_ 31 rfl)
   have f32 : True := hf _ (m_ 32 rfl)
   have f33 : True := hf _ (m_ 33 rfl)
   have f34 : (xs 34) = .bool true := hf _ (m_ 34 rfl)
   clear hf hn hd
   simp only [FL]
   have B305 := Lib.hid hbf
   have z305 := B305.out.size
   have HB306 := Lib.hid (B0.out.trans (B305.out.mono B0.out.size))
   clear hbf
   generalize xs 0 = x0 at *
   generalize xs 1 = x1 at *
   generalize xs 2 = x2 at *
   generalize xs 3 = x3 at *
   generalize xs 4 = x4 at *
   generalize xs 5 = x5 at *
   generalize xs 6 = x6 at *
   generalize xs 7 = x7 at *
   generalize xs 8 = x8 at *
   generalize xs 9 = x9 at *
   generalize xs 10 = x10 at *
   generalize xs 11 = x11 at *
   generalize xs 12 = x12 at *
   generalize xs 13 = x13 at *
   generalize xs 14 = x14 at *
   generalize xs 15 = x15 at *
   generalize xs 16 = x16 at *
   generalize xs 17 = x17 at *
   generalize xs 18 = x18 at *
   generalize xs 19 = x19 at *
   generalize xs 20 = x20 at *
   generalize xs 21 = x21 at *
   generalize xs 22 = x22 at *
   generalize xs 23 = x23 at *
   generalize xs 24 = x24 at *
   generalize xs 25 = x25 at *
   generalize xs 26 = x26 at *
   generalize xs 27 = x27 at *
   generalize xs 28 = x28 at *
   generalize xs 29 = x29 at *
   generalize xs 30 = x30 at *
   generalize xs 31 = x31 at *
   generalize xs 32 = x32 at *
   generalize xs 33 = x33 at *
   generalize xs 34 = x34 at *
   obtain rfl := f0
   obtain rfl := f1
   obtain rfl := f2
   obtain rfl := f3
   obtain rfl := f4
   clear f5
   clear f6
   clear f7
   clear f8
   obtain rfl := f9
   obtain rfl := f10
   clear f11
   clear f12
   clear f13
   obtain rfl := f14
   obtain rfl := f15
   clear f16
   clear f17
   clear f18
   clear f19
   clear f20
   obtain rfl := f21
   obtain rfl := f22
   clear f23
   clear f24
   clear f25
   clear f26
   clear f27
   clear f28
   clear f29
   clear f30
   clear f31
   clear f32
   clear f33
   obtain rfl := f34
   refine Early.done (by kernel_rfl) ?_ _
   (try simp only [Exit.then])
   go_wp2
   go_ret
   exact ⟨HB306.out, by rw [HR.out, chkQ_none (qOf_none1 HVA.out)]; rfl⟩
end Go.Proofs.YtioclokmbgmamaaGreatDoor
