/- Layer 04: number (written by gen_qg.py). -/
import Derived.Test.YtioclokmbgmamaaGreatDoorQF
namespace Go.Proofs.YtioclokmbgmamaaGreatDoor
open Go Go.RowKit Dig
def numN (z most : Int) : Value := .tuple #[.int .i64 (if z.natAbs ≤ most.natAbs then z else 0), .bool (decide (z.natAbs ≤ most.natAbs))]
set_option maxRecDepth 100000 in
set_option maxHeartbeats 4000000 in
theorem number_any (w : World) (v : Value) (z most : Int) (h : WV w w.heap.size v z) (h0 : 0 ≤ most) (h1 : most ≤ 4611686018427387904) (hl : (dig z.natAbs).length ≤ 100000) (G : Glob w) :
  Calls Tryz.prog 75 #[v, .int .i64 most] w fun e w' => Below w.heap.size w w' ∧ e = .returned (numN z most) := by
 obtain ⟨n, A, l, c, rfl, Ha, hn⟩ := h
 have el := RN.len Ha; have HL := Lib.hid hl; have HN := Lib.hid hn; have H0 := Lib.hid h0; have H1 := Lib.hid h1
 have HEL := Lib.hid el; replace Ha := Lib.hid Ha; clear el hl h0 h1
 obtain ⟨w0, hw0⟩ : ∃ w0 : World, w0 = (w.alloc (.cells #[.bool n, .slice A l c] 93)) := ⟨_, rfl⟩
 have B0 := Lib.hid (show Below w.heap.size w w0 by rw [hw0]; (repeat' (first | exact Below.refl _ _ | refine Below.drew ?_ | refine Below.alloc ?_ (by first | exact Nat.le_refl _ | (simp; done) | (simp; omega)) _)))
 have z0 : w.heap.size + 1 ≤ w0.heap.size := by rw [hw0]; simp
 have La : CB w0 (w.heap.size) 93 #[.bool n, .slice A l c] := by rw [hw0]; have h := CB.new w 93 #[.bool n, .slice A l c]; simpa using h
 replace Ha := Lib.hid (RN.stepN Ha.out B0.out)
 by_cases hle : z.natAbs ≤ most.natAbs
 ·have HLE := Lib.hid hle; have HV := Lib.hid (show numN z most = .tuple #[.int .i64 z, .bool true] by unfold numN; rw [if_pos hle, decide_eq_true hle]); clear hle
  cases n with
  | false =>
   have HSG := Lib.hid (show false = decide (z < 0) from by rw [decide_eq_false]; rcases wsgn_cases hn with h | ⟨h, -⟩ | ⟨-, h⟩ <;> first | omega | cases h); clear hn
   go_enter Tryz.func75, Tryz.ntmps75
   go_upto_region 1 with (fail)
   rw [← hw0]; clear hw0
   refine Flow.run [⟨0, 8, fun fv fw => fv = .pointer (some ⟨w.heap.size, 1, none⟩)⟩, ⟨1, 9, fun fv fw => fv = .slice A l c⟩, ⟨2, 10, fun fv fw => fv = .int .i64 most⟩, ⟨3, 11, fun fv fw => LV fw fw.heap.size fv most⟩, ⟨4, 12, fun fv fw => RN fw fw.heap.size fv (dig (most).natAbs)⟩, ⟨5, 13, fun fv fw => ∃ c : Int, fv = .int .i64 c ∧ SignOf c (z.natAbs) (most.natAbs)⟩, ⟨6, 14, fun fv fw => fv = .bool false⟩] [] [] 0 (by kernel_rfl) (by kernel_rfl) (by kernel_rfl) (fun _ _ _ _ _ h => h) ?_ ?_ ?_ ?_
   ·refine (all_cons (fun v w1 w2 h hb => h) (all_cons (fun v w1 w2 h hb => h) (all_cons (fun v w1 w2 h hb => h) (all_cons (fun v w1 w2 h hb => h.step hb) (all_cons (fun v w1 w2 h hb => h.step hb) (all_cons (fun v w1 w2 h hb => h) (all_cons (fun v w1 w2 h hb => h) all_nil)))))))
   ·refine (all_cons ?_ (all_cons ?_ (all_cons ?_ (all_cons ?_ (all_cons ?_ (all_cons ?_ (all_cons ?_ all_nil)))))))
    ·intro xs wk1 hBk hdep
     have HBk1 := Lib.hid hBk; have zk1 := hBk.size; clear hBk
     clear hdep
     refine wpOp_step (o := _) rfl (fun K hK => ?_)
     simp only [FL]
     go_simp
     refine hK _ _ ⟨.pointer (some ⟨w.heap.size, 1, none⟩), by kernel_rfl, Below.refl _ _, rfl, nF⟩
    ·intro xs wk2 hBk hdep
     have HBk2 := Lib.hid hBk; have zk2 := hBk.size; clear hBk
     have f0 : (xs 0) = .pointer (some ⟨w.heap.size, 1, none⟩) := hdep _ (m_ 0 rfl) (by kernel_rfl)
     clear hdep
     refine wpOp_step (o := _) rfl (fun K hK => ?_)
     simp only [FL]
     have La_3 := CB.step La HBk2.out
     have q4_1 := La_3.cell 1 rfl
     go_simp
     refine hK _ _ ⟨.slice A l c, by simp only [FL, f0] <;> kernel_rfl, Below.refl _ _, rfl, nF⟩
    ·intro xs wk5 hBk hdep
     have HBk5 := Lib.hid hBk; have zk5 := hBk.size; clear hBk
     clear hdep
     refine wpOp_step (o := _) rfl (fun K hK => ?_)
     simp only [FL]
     go_simp
     refine hK _ _ ⟨.int .i64 most, by kernel_rfl, Below.refl _ _, rfl, nF⟩
    ·intro xs wk6 hBk hdep
     have HBk6 := Lib.hid hBk; have zk6 := hBk.size; clear hBk
     have f2 : (xs 2) = .int .i64 most := hdep _ (m_ 2 rfl) (by kernel_rfl)
     clear hdep
     refine wpOp_step (o := _) rfl (fun K hK => ?_)
     simp only [FL]
     go_simp
     (with_reducible refine (Of_any _ most (by have := H0.out; omega) (by have := H1.out; omega)).mono ?_)
     rintro e wc7 ⟨hb7, v7, rfl, hv7⟩
     refine hK _ _ ⟨v7, by simp only [FL, f2] <;> kernel_rfl, hb7, hv7, nF⟩
    ·intro xs wk8 hBk hdep
     have HBk8 := Lib.hid hBk; have zk8 := hBk.size; clear hBk
     have f3 : LV wk8 wk8.heap.size (xs 3) most := hdep _ (m_ 3 rfl) (by kernel_rfl)
     clear hdep
     refine wpOp_step (o := _) rfl (fun K hK => ?_)
     simp only [FL]
     obtain ⟨on3, oA3, ol3, oc3, hx3, hv3⟩ := LV.opened f3; have r3 := (LV.is hv3).2.2; rw [hx3]; clear hv3
     go_simp
     refine hK _ _ ⟨.slice oA3 ol3 oc3, by simp only [FL, hx3] <;> kernel_rfl, Below.refl _ _, r3, nF⟩
    ·intro xs wk9 hBk hdep
     have HBk9 := Lib.hid hBk; have zk9 := hBk.size; clear hBk
     have f1 : (xs 1) = .slice A l c := hdep _ (m_ 1 rfl) (by kernel_rfl)
     have f4 : RN wk9 wk9.heap.size (xs 4) (dig (most).natAbs) := hdep _ (m_ 4 rfl) (by kernel_rfl)
     clear hdep
     refine wpOp_step (o := _) rfl (fun K hK => ?_)
     simp only [FL]
     go_simp
     have Ha_10 := Lib.hid (RN.step Ha.out HBk9.out)
     (with_reducible refine (Cmp_any _ _ _ z.natAbs most.natAbs Ha_10.out f4).mono ?_)
     rintro e wc11 ⟨hb11, c11, rfl, hc11⟩
     refine hK _ _ ⟨.int .i64 c11, by simp only [FL, f1] <;> kernel_rfl, hb11, ⟨c11, rfl, hc11⟩, nF⟩
    ·intro xs wk12 hBk hdep
     have HBk12 := Lib.hid hBk; have zk12 := hBk.size; clear hBk
     have f5 : ∃ c : Int, (xs 5) = .int .i64 c ∧ SignOf c (z.natAbs) (most.natAbs) := hdep _ (m_ 5 rfl) (by kernel_rfl)
     clear hdep
     refine wpOp_step (o := _) rfl (fun K hK => ?_)
     simp only [FL]
     obtain ⟨c, hc, hs⟩ := f5; unfold SignOf at hs; have hq : ¬ 0 < c := by have := HLE.out; omega
     rw [hc]; clear hs
     go_simp
     refine hK _ _ ⟨.bool false, by simp only [FL, hc] <;> kernel_rfl, Below.refl _ _, rfl, nF⟩
   ·exact all_nil
   ·intro xs wf13 hbf hf hn hd
    have f0 : (xs 0) = .pointer (some ⟨w.heap.size, 1, none⟩) := hf _ (m_ 0 rfl)
    have f1 : (xs 1) = .slice A l c := hf _ (m_ 1 rfl)
    have f2 : (xs 2) = .int .i64 most := hf _ (m_ 2 rfl)
    have f3 : LV wf13 wf13.heap.size (xs 3) most := hf _ (m_ 3 rfl)
    have f4 : RN wf13 wf13.heap.size (xs 4) (dig (most).natAbs) := hf _ (m_ 4 rfl)
    have f5 : ∃ c : Int, (xs 5) = .int .i64 c ∧ SignOf c (z.natAbs) (most.natAbs) := hf _ (m_ 5 rfl)
    have f6 : (xs 6) = .bool false := hf _ (m_ 6 rfl)
    clear hf hn hd
    simp only [FL]
    have B14 := Lib.hid hbf
    have z14 := B14.out.size
    have HB15 := Lib.hid (B0.out.trans (B14.out.mono B0.out.size))
    clear hbf
    generalize xs 0 = x0 at *
    generalize xs 1 = x1 at *
    generalize xs 2 = x2 at *
    generalize xs 3 = x3 at *
    generalize xs 4 = x4 at *
    generalize xs 5 = x5 at *
    generalize xs 6 = x6 at *
    obtain rfl := f0
    obtain rfl := f1
    obtain rfl := f2
    obtain ⟨n16, Ad16, l16, c16, rfl, hv16⟩ := f3.opened
    have Hol_16 := Lib.hid hv16
    clear f3 hv16
    obtain ⟨A17, c17, rfl, -⟩ := RN.cell f4
    have Hod_17 := Lib.hid f4; clear f4
    clear f5
    obtain rfl := f6
    refine Early.done (by kernel_rfl) ?_ _
    (try simp only [Exit.then])
    have Ha_18 := Lib.hid (RN.step Ha.out B14.out)
    have HZ := Lib.hid (show LV wf13 wf13.heap.size (.agg #[.bool false, .slice A l c]) z from ⟨_, by rw [HSG.out], Ha_18.out⟩)
    have La_20 := CB.step La B14.out
    have q21_0 := La_20.cell 0 rfl
    have q21_1 := La_20.cell 1 rfl
    have q21_lt := La_20.lt
    go_wp2_with fail
    refine (Int_num HZ.out (show (dig z.natAbs).length ≤ 600 by rw [dig_len_le]; have := HLE.out; have h1 := H1.out; have h0 := H0.out; refine Nat.lt_of_le_of_lt (show z.natAbs ≤ 4611686018427387904 by omega) (Nat.lt_of_lt_of_le (show 4611686018427387904 < bp 3 by decide) (bp_le (by omega)))) (G.step HB15.out)).mono ?_
    rintro e w19 ⟨hb19, rfl⟩
    have B22 := Lib.hid hb19
    have z22 := B22.out.size
    have HB23 := Lib.hid (HB15.out.trans (B22.out.mono HB15.out.size))
    clear hb19
    clear q21_0 q21_1 q21_lt
    rw [show intZ z = (z, 0) from if_pos (by have := HLE.out; have h1 := H1.out; have h0 := H0.out; omega)]
    go_wp2
    go_ret2
    exact ⟨HB23.out, by rw [HV.out]; rfl⟩
  | true =>
   by_cases hz : z = 0
   ·have hl0 : decide (0 < l) = false := by rw [HEL.out, hz, show (0 : Int).natAbs = 0 from rfl, dig_zero]; decide
    have HSG := Lib.hid (show false = decide (z < 0) from by rw [hz]; rfl); clear hn
    clear hz
    go_enter Tryz.func75, Tryz.ntmps75
    go_upto_region 1 with (fail)
    rw [← hw0]; clear hw0
    refine Flow.run [⟨0, 8, fun fv fw => fv = .pointer (some ⟨w.heap.size, 1, none⟩)⟩, ⟨1, 9, fun fv fw => fv = .slice A l c⟩, ⟨2, 10, fun fv fw => fv = .int .i64 most⟩, ⟨3, 11, fun fv fw => LV fw fw.heap.size fv most⟩, ⟨4, 12, fun fv fw => RN fw fw.heap.size fv (dig (most).natAbs)⟩, ⟨5, 13, fun fv fw => ∃ c : Int, fv = .int .i64 c ∧ SignOf c (z.natAbs) (most.natAbs)⟩, ⟨6, 14, fun fv fw => fv = .bool false⟩] [] [] 0 (by kernel_rfl) (by kernel_rfl) (by kernel_rfl) (fun _ _ _ _ _ h => h) ?_ ?_ ?_ ?_
    ·refine (all_cons (fun v w1 w2 h hb => h) (all_cons (fun v w1 w2 h hb => h) (all_cons (fun v w1 w2 h hb => h) (all_cons (fun v w1 w2 h hb => h.step hb) (all_cons (fun v w1 w2 h hb => h.step hb) (all_cons (fun v w1 w2 h hb => h) (all_cons (fun v w1 w2 h hb => h) all_nil)))))))
    ·refine (all_cons ?_ (all_cons ?_ (all_cons ?_ (all_cons ?_ (all_cons ?_ (all_cons ?_ (all_cons ?_ all_nil)))))))
     ·intro xs wk24 hBk hdep
      have HBk24 := Lib.hid hBk; have zk24 := hBk.size; clear hBk
      clear hdep
      refine wpOp_step (o := _) rfl (fun K hK => ?_)
      simp only [FL]
      go_simp
      refine hK _ _ ⟨.pointer (some ⟨w.heap.size, 1, none⟩), by kernel_rfl, Below.refl _ _, rfl, nF⟩
     ·intro xs wk25 hBk hdep
      have HBk25 := Lib.hid hBk; have zk25 := hBk.size; clear hBk
      have f0 : (xs 0) = .pointer (some ⟨w.heap.size, 1, none⟩) := hdep _ (m_ 0 rfl) (by kernel_rfl)
      clear hdep
      refine wpOp_step (o := _) rfl (fun K hK => ?_)
      simp only [FL]
      have La_26 := CB.step La HBk25.out
      have q27_1 := La_26.cell 1 rfl
      go_simp
      refine hK _ _ ⟨.slice A l c, by simp only [FL, f0] <;> kernel_rfl, Below.refl _ _, rfl, nF⟩
     ·intro xs wk28 hBk hdep
      have HBk28 := Lib.hid hBk; have zk28 := hBk.size; clear hBk
      clear hdep
      refine wpOp_step (o := _) rfl (fun K hK => ?_)
      simp only [FL]
      go_simp
      refine hK _ _ ⟨.int .i64 most, by kernel_rfl, Below.refl _ _, rfl, nF⟩
     ·intro xs wk29 hBk hdep
      have HBk29 := Lib.hid hBk; have zk29 := hBk.size; clear hBk
      have f2 : (xs 2) = .int .i64 most := hdep _ (m_ 2 rfl) (by kernel_rfl)
      clear hdep
      refine wpOp_step (o := _) rfl (fun K hK => ?_)
      simp only [FL]
      go_simp
      (with_reducible refine (Of_any _ most (by have := H0.out; omega) (by have := H1.out; omega)).mono ?_)
      rintro e wc30 ⟨hb30, v30, rfl, hv30⟩
      refine hK _ _ ⟨v30, by simp only [FL, f2] <;> kernel_rfl, hb30, hv30, nF⟩
     ·intro xs wk31 hBk hdep
      have HBk31 := Lib.hid hBk; have zk31 := hBk.size; clear hBk
      have f3 : LV wk31 wk31.heap.size (xs 3) most := hdep _ (m_ 3 rfl) (by kernel_rfl)
      clear hdep
      refine wpOp_step (o := _) rfl (fun K hK => ?_)
      simp only [FL]
      obtain ⟨on3, oA3, ol3, oc3, hx3, hv3⟩ := LV.opened f3; have r3 := (LV.is hv3).2.2; rw [hx3]; clear hv3
      go_simp
      refine hK _ _ ⟨.slice oA3 ol3 oc3, by simp only [FL, hx3] <;> kernel_rfl, Below.refl _ _, r3, nF⟩
     ·intro xs wk32 hBk hdep
      have HBk32 := Lib.hid hBk; have zk32 := hBk.size; clear hBk
      have f1 : (xs 1) = .slice A l c := hdep _ (m_ 1 rfl) (by kernel_rfl)
      have f4 : RN wk32 wk32.heap.size (xs 4) (dig (most).natAbs) := hdep _ (m_ 4 rfl) (by kernel_rfl)
      clear hdep
      refine wpOp_step (o := _) rfl (fun K hK => ?_)
      simp only [FL]
      go_simp
      have Ha_33 := Lib.hid (RN.step Ha.out HBk32.out)
      (with_reducible refine (Cmp_any _ _ _ z.natAbs most.natAbs Ha_33.out f4).mono ?_)
      rintro e wc34 ⟨hb34, c34, rfl, hc34⟩
      refine hK _ _ ⟨.int .i64 c34, by simp only [FL, f1] <;> kernel_rfl, hb34, ⟨c34, rfl, hc34⟩, nF⟩
     ·intro xs wk35 hBk hdep
      have HBk35 := Lib.hid hBk; have zk35 := hBk.size; clear hBk
      have f5 : ∃ c : Int, (xs 5) = .int .i64 c ∧ SignOf c (z.natAbs) (most.natAbs) := hdep _ (m_ 5 rfl) (by kernel_rfl)
      clear hdep
      refine wpOp_step (o := _) rfl (fun K hK => ?_)
      simp only [FL]
      obtain ⟨c, hc, hs⟩ := f5; unfold SignOf at hs; have hq : ¬ 0 < c := by have := HLE.out; omega
      rw [hc]; clear hs
      go_simp
      refine hK _ _ ⟨.bool false, by simp only [FL, hc] <;> kernel_rfl, Below.refl _ _, rfl, nF⟩
    ·exact all_nil
    ·intro xs wf36 hbf hf hn hd
     have f0 : (xs 0) = .pointer (some ⟨w.heap.size, 1, none⟩) := hf _ (m_ 0 rfl)
     have f1 : (xs 1) = .slice A l c := hf _ (m_ 1 rfl)
     have f2 : (xs 2) = .int .i64 most := hf _ (m_ 2 rfl)
     have f3 : LV wf36 wf36.heap.size (xs 3) most := hf _ (m_ 3 rfl)
     have f4 : RN wf36 wf36.heap.size (xs 4) (dig (most).natAbs) := hf _ (m_ 4 rfl)
     have f5 : ∃ c : Int, (xs 5) = .int .i64 c ∧ SignOf c (z.natAbs) (most.natAbs) := hf _ (m_ 5 rfl)
     have f6 : (xs 6) = .bool false := hf _ (m_ 6 rfl)
     clear hf hn hd
     simp only [FL]
     have B37 := Lib.hid hbf
     have z37 := B37.out.size
     have HB38 := Lib.hid (B0.out.trans (B37.out.mono B0.out.size))
     clear hbf
     generalize xs 0 = x0 at *
     generalize xs 1 = x1 at *
     generalize xs 2 = x2 at *
     generalize xs 3 = x3 at *
     generalize xs 4 = x4 at *
     generalize xs 5 = x5 at *
     generalize xs 6 = x6 at *
     obtain rfl := f0
     obtain rfl := f1
     obtain rfl := f2
     obtain ⟨n39, Ad39, l39, c39, rfl, hv39⟩ := f3.opened
     have Hol_39 := Lib.hid hv39
     clear f3 hv39
     obtain ⟨A40, c40, rfl, -⟩ := RN.cell f4
     have Hod_40 := Lib.hid f4; clear f4
     clear f5
     obtain rfl := f6
     refine Early.done (by kernel_rfl) ?_ _
     (try simp only [Exit.then])
     have Ha_41 := Lib.hid (RN.step Ha.out B37.out)
     have HZ := Lib.hid (show LV wf36 wf36.heap.size (.agg #[.bool false, .slice A l c]) z from ⟨_, by rw [HSG.out], Ha_41.out⟩)
     have La_43 := CB.step La B37.out
     have q44_0 := La_43.cell 0 rfl
     have q44_1 := La_43.cell 1 rfl
     have q44_lt := La_43.lt
     go_wp2_with fail
     refine (Int_num HZ.out (show (dig z.natAbs).length ≤ 600 by rw [dig_len_le]; have := HLE.out; have h1 := H1.out; have h0 := H0.out; refine Nat.lt_of_le_of_lt (show z.natAbs ≤ 4611686018427387904 by omega) (Nat.lt_of_lt_of_le (show 4611686018427387904 < bp 3 by decide) (bp_le (by omega)))) (G.step HB38.out)).mono ?_
     rintro e w42 ⟨hb42, rfl⟩
     have B45 := Lib.hid hb42
     have z45 := B45.out.size
     have HB46 := Lib.hid (HB38.out.trans (B45.out.mono HB38.out.size))
     clear hb42
     clear q44_0 q44_1 q44_lt
     rw [show intZ z = (z, 0) from if_pos (by have := HLE.out; have h1 := H1.out; have h0 := H0.out; omega)]
     go_wp2
     go_ret2
     exact ⟨HB46.out, by rw [HV.out]; rfl⟩
   ·have hl0 : decide (0 < l) = true := by rw [decide_eq_true_eq, HEL.out]; have := dig_len_pos (n := z.natAbs) (by omega); omega
    have HSG := Lib.hid (show true = decide (z < 0) from hn hz); clear hn
    clear hz
    go_enter Tryz.func75, Tryz.ntmps75
    go_upto_region 1 with (fail)
    rw [← hw0]; clear hw0
    refine Flow.run [⟨0, 8, fun fv fw => fv = .pointer (some ⟨w.heap.size, 1, none⟩)⟩, ⟨1, 9, fun fv fw => fv = .slice A l c⟩, ⟨2, 10, fun fv fw => fv = .int .i64 most⟩, ⟨3, 11, fun fv fw => LV fw fw.heap.size fv most⟩, ⟨4, 12, fun fv fw => RN fw fw.heap.size fv (dig (most).natAbs)⟩, ⟨5, 13, fun fv fw => ∃ c : Int, fv = .int .i64 c ∧ SignOf c (z.natAbs) (most.natAbs)⟩, ⟨6, 14, fun fv fw => fv = .bool false⟩] [] [] 0 (by kernel_rfl) (by kernel_rfl) (by kernel_rfl) (fun _ _ _ _ _ h => h) ?_ ?_ ?_ ?_
    ·refine (all_cons (fun v w1 w2 h hb => h) (all_cons (fun v w1 w2 h hb => h) (all_cons (fun v w1 w2 h hb => h) (all_cons (fun v w1 w2 h hb => h.step hb) (all_cons (fun v w1 w2 h hb => h.step hb) (all_cons (fun v w1 w2 h hb => h) (all_cons (fun v w1 w2 h hb => h) all_nil)))))))
    ·refine (all_cons ?_ (all_cons ?_ (all_cons ?_ (all_cons ?_ (all_cons ?_ (all_cons ?_ (all_cons ?_ all_nil)))))))
     ·intro xs wk47 hBk hdep
      have HBk47 := Lib.hid hBk; have zk47 := hBk.size; clear hBk
      clear hdep
      refine wpOp_step (o := _) rfl (fun K hK => ?_)
      simp only [FL]
      go_simp
      refine hK _ _ ⟨.pointer (some ⟨w.heap.size, 1, none⟩), by kernel_rfl, Below.refl _ _, rfl, nF⟩
     ·intro xs wk48 hBk hdep
      have HBk48 := Lib.hid hBk; have zk48 := hBk.size; clear hBk
      have f0 : (xs 0) = .pointer (some ⟨w.heap.size, 1, none⟩) := hdep _ (m_ 0 rfl) (by kernel_rfl)
      clear hdep
      refine wpOp_step (o := _) rfl (fun K hK => ?_)
      simp only [FL]
      have La_49 := CB.step La HBk48.out
      have q50_1 := La_49.cell 1 rfl
      go_simp
      refine hK _ _ ⟨.slice A l c, by simp only [FL, f0] <;> kernel_rfl, Below.refl _ _, rfl, nF⟩
     ·intro xs wk51 hBk hdep
      have HBk51 := Lib.hid hBk; have zk51 := hBk.size; clear hBk
      clear hdep
      refine wpOp_step (o := _) rfl (fun K hK => ?_)
      simp only [FL]
      go_simp
      refine hK _ _ ⟨.int .i64 most, by kernel_rfl, Below.refl _ _, rfl, nF⟩
     ·intro xs wk52 hBk hdep
      have HBk52 := Lib.hid hBk; have zk52 := hBk.size; clear hBk
      have f2 : (xs 2) = .int .i64 most := hdep _ (m_ 2 rfl) (by kernel_rfl)
      clear hdep
      refine wpOp_step (o := _) rfl (fun K hK => ?_)
      simp only [FL]
      go_simp
      (with_reducible refine (Of_any _ most (by have := H0.out; omega) (by have := H1.out; omega)).mono ?_)
      rintro e wc53 ⟨hb53, v53, rfl, hv53⟩
      refine hK _ _ ⟨v53, by simp only [FL, f2] <;> kernel_rfl, hb53, hv53, nF⟩
     ·intro xs wk54 hBk hdep
      have HBk54 := Lib.hid hBk; have zk54 := hBk.size; clear hBk
      have f3 : LV wk54 wk54.heap.size (xs 3) most := hdep _ (m_ 3 rfl) (by kernel_rfl)
      clear hdep
      refine wpOp_step (o := _) rfl (fun K hK => ?_)
      simp only [FL]
      obtain ⟨on3, oA3, ol3, oc3, hx3, hv3⟩ := LV.opened f3; have r3 := (LV.is hv3).2.2; rw [hx3]; clear hv3
      go_simp
      refine hK _ _ ⟨.slice oA3 ol3 oc3, by simp only [FL, hx3] <;> kernel_rfl, Below.refl _ _, r3, nF⟩
     ·intro xs wk55 hBk hdep
      have HBk55 := Lib.hid hBk; have zk55 := hBk.size; clear hBk
      have f1 : (xs 1) = .slice A l c := hdep _ (m_ 1 rfl) (by kernel_rfl)
      have f4 : RN wk55 wk55.heap.size (xs 4) (dig (most).natAbs) := hdep _ (m_ 4 rfl) (by kernel_rfl)
      clear hdep
      refine wpOp_step (o := _) rfl (fun K hK => ?_)
      simp only [FL]
      go_simp
      have Ha_56 := Lib.hid (RN.step Ha.out HBk55.out)
      (with_reducible refine (Cmp_any _ _ _ z.natAbs most.natAbs Ha_56.out f4).mono ?_)
      rintro e wc57 ⟨hb57, c57, rfl, hc57⟩
      refine hK _ _ ⟨.int .i64 c57, by simp only [FL, f1] <;> kernel_rfl, hb57, ⟨c57, rfl, hc57⟩, nF⟩
     ·intro xs wk58 hBk hdep
      have HBk58 := Lib.hid hBk; have zk58 := hBk.size; clear hBk
      have f5 : ∃ c : Int, (xs 5) = .int .i64 c ∧ SignOf c (z.natAbs) (most.natAbs) := hdep _ (m_ 5 rfl) (by kernel_rfl)
      clear hdep
      refine wpOp_step (o := _) rfl (fun K hK => ?_)
      simp only [FL]
      obtain ⟨c, hc, hs⟩ := f5; unfold SignOf at hs; have hq : ¬ 0 < c := by have := HLE.out; omega
      rw [hc]; clear hs
      go_simp
      refine hK _ _ ⟨.bool false, by simp only [FL, hc] <;> kernel_rfl, Below.refl _ _, rfl, nF⟩
    ·exact all_nil
    ·intro xs wf59 hbf hf hn hd
     have f0 : (xs 0) = .pointer (some ⟨w.heap.size, 1, none⟩) := hf _ (m_ 0 rfl)
     have f1 : (xs 1) = .slice A l c := hf _ (m_ 1 rfl)
     have f2 : (xs 2) = .int .i64 most := hf _ (m_ 2 rfl)
     have f3 : LV wf59 wf59.heap.size (xs 3) most := hf _ (m_ 3 rfl)
     have f4 : RN wf59 wf59.heap.size (xs 4) (dig (most).natAbs) := hf _ (m_ 4 rfl)
     have f5 : ∃ c : Int, (xs 5) = .int .i64 c ∧ SignOf c (z.natAbs) (most.natAbs) := hf _ (m_ 5 rfl)
     have f6 : (xs 6) = .bool false := hf _ (m_ 6 rfl)
     clear hf hn hd
     simp only [FL]
     have B60 := Lib.hid hbf
     have z60 := B60.out.size
     have HB61 := Lib.hid (B0.out.trans (B60.out.mono B0.out.size))
     clear hbf
     generalize xs 0 = x0 at *
     generalize xs 1 = x1 at *
     generalize xs 2 = x2 at *
     generalize xs 3 = x3 at *
     generalize xs 4 = x4 at *
     generalize xs 5 = x5 at *
     generalize xs 6 = x6 at *
     obtain rfl := f0
     obtain rfl := f1
     obtain rfl := f2
     obtain ⟨n62, Ad62, l62, c62, rfl, hv62⟩ := f3.opened
     have Hol_62 := Lib.hid hv62
     clear f3 hv62
     obtain ⟨A63, c63, rfl, -⟩ := RN.cell f4
     have Hod_63 := Lib.hid f4; clear f4
     clear f5
     obtain rfl := f6
     refine Early.done (by kernel_rfl) ?_ _
     (try simp only [Exit.then])
     have Ha_64 := Lib.hid (RN.step Ha.out B60.out)
     have HZ := Lib.hid (show LV wf59 wf59.heap.size (.agg #[.bool true, .slice A l c]) z from ⟨_, by rw [HSG.out], Ha_64.out⟩)
     have La_66 := CB.step La B60.out
     have q67_0 := La_66.cell 0 rfl
     have q67_1 := La_66.cell 1 rfl
     have q67_lt := La_66.lt
     go_wp2_with fail
     refine (Int_num HZ.out (show (dig z.natAbs).length ≤ 600 by rw [dig_len_le]; have := HLE.out; have h1 := H1.out; have h0 := H0.out; refine Nat.lt_of_le_of_lt (show z.natAbs ≤ 4611686018427387904 by omega) (Nat.lt_of_lt_of_le (show 4611686018427387904 < bp 3 by decide) (bp_le (by omega)))) (G.step HB61.out)).mono ?_
     rintro e w65 ⟨hb65, rfl⟩
     have B68 := Lib.hid hb65
     have z68 := B68.out.size
     have HB69 := Lib.hid (HB61.out.trans (B68.out.mono HB61.out.size))
     clear hb65
     clear q67_0 q67_1 q67_lt
     rw [show intZ z = (z, 0) from if_pos (by have := HLE.out; have h1 := H1.out; have h0 := H0.out; omega)]
     go_wp2
     go_ret2
     exact ⟨HB69.out, by rw [HV.out]; rfl⟩
 ·have HLE := Lib.hid hle; have HV := Lib.hid (show numN z most = .tuple #[.int .i64 0, .bool false] by unfold numN; rw [if_neg hle, decide_eq_false hle]); clear hle hn
  go_enter Tryz.func75, Tryz.ntmps75
  go_upto_region 1 with (fail)
  rw [← hw0]; clear hw0
  refine Flow.run [⟨0, 8, fun fv fw => fv = .pointer (some ⟨w.heap.size, 1, none⟩)⟩, ⟨1, 9, fun fv fw => fv = .slice A l c⟩, ⟨2, 10, fun fv fw => fv = .int .i64 most⟩, ⟨3, 11, fun fv fw => LV fw fw.heap.size fv most⟩, ⟨4, 12, fun fv fw => RN fw fw.heap.size fv (dig (most).natAbs)⟩, ⟨5, 13, fun fv fw => ∃ c : Int, fv = .int .i64 c ∧ SignOf c (z.natAbs) (most.natAbs)⟩, ⟨6, 14, fun fv fw => fv = .bool true⟩] [] [] 0 (by kernel_rfl) (by kernel_rfl) (by kernel_rfl) (fun _ _ _ _ _ h => h) ?_ ?_ ?_ ?_
  ·refine (all_cons (fun v w1 w2 h hb => h) (all_cons (fun v w1 w2 h hb => h) (all_cons (fun v w1 w2 h hb => h) (all_cons (fun v w1 w2 h hb => h.step hb) (all_cons (fun v w1 w2 h hb => h.step hb) (all_cons (fun v w1 w2 h hb => h) (all_cons (fun v w1 w2 h hb => h) all_nil)))))))
  ·refine (all_cons ?_ (all_cons ?_ (all_cons ?_ (all_cons ?_ (all_cons ?_ (all_cons ?_ (all_cons ?_ all_nil)))))))
   ·intro xs wk70 hBk hdep
    have HBk70 := Lib.hid hBk; have zk70 := hBk.size; clear hBk
    clear hdep
    refine wpOp_step (o := _) rfl (fun K hK => ?_)
    simp only [FL]
    go_simp
    refine hK _ _ ⟨.pointer (some ⟨w.heap.size, 1, none⟩), by kernel_rfl, Below.refl _ _, rfl, nF⟩
   ·intro xs wk71 hBk hdep
    have HBk71 := Lib.hid hBk; have zk71 := hBk.size; clear hBk
    have f0 : (xs 0) = .pointer (some ⟨w.heap.size, 1, none⟩) := hdep _ (m_ 0 rfl) (by kernel_rfl)
    clear hdep
    refine wpOp_step (o := _) rfl (fun K hK => ?_)
    simp only [FL]
    have La_72 := CB.step La HBk71.out
    have q73_1 := La_72.cell 1 rfl
    go_simp
    refine hK _ _ ⟨.slice A l c, by simp only [FL, f0] <;> kernel_rfl, Below.refl _ _, rfl, nF⟩
   ·intro xs wk74 hBk hdep
    have HBk74 := Lib.hid hBk; have zk74 := hBk.size; clear hBk
    clear hdep
    refine wpOp_step (o := _) rfl (fun K hK => ?_)
    simp only [FL]
    go_simp
    refine hK _ _ ⟨.int .i64 most, by kernel_rfl, Below.refl _ _, rfl, nF⟩
   ·intro xs wk75 hBk hdep
    have HBk75 := Lib.hid hBk; have zk75 := hBk.size; clear hBk
    have f2 : (xs 2) = .int .i64 most := hdep _ (m_ 2 rfl) (by kernel_rfl)
    clear hdep
    refine wpOp_step (o := _) rfl (fun K hK => ?_)
    simp only [FL]
    go_simp
    (with_reducible refine (Of_any _ most (by have := H0.out; omega) (by have := H1.out; omega)).mono ?_)
    rintro e wc76 ⟨hb76, v76, rfl, hv76⟩
    refine hK _ _ ⟨v76, by simp only [FL, f2] <;> kernel_rfl, hb76, hv76, nF⟩
   ·intro xs wk77 hBk hdep
    have HBk77 := Lib.hid hBk; have zk77 := hBk.size; clear hBk
    have f3 : LV wk77 wk77.heap.size (xs 3) most := hdep _ (m_ 3 rfl) (by kernel_rfl)
    clear hdep
    refine wpOp_step (o := _) rfl (fun K hK => ?_)
    simp only [FL]
    obtain ⟨on3, oA3, ol3, oc3, hx3, hv3⟩ := LV.opened f3; have r3 := (LV.is hv3).2.2; rw [hx3]; clear hv3
    go_simp
    refine hK _ _ ⟨.slice oA3 ol3 oc3, by simp only [FL, hx3] <;> kernel_rfl, Below.refl _ _, r3, nF⟩
   ·intro xs wk78 hBk hdep
    have HBk78 := Lib.hid hBk; have zk78 := hBk.size; clear hBk
    have f1 : (xs 1) = .slice A l c := hdep _ (m_ 1 rfl) (by kernel_rfl)
    have f4 : RN wk78 wk78.heap.size (xs 4) (dig (most).natAbs) := hdep _ (m_ 4 rfl) (by kernel_rfl)
    clear hdep
    refine wpOp_step (o := _) rfl (fun K hK => ?_)
    simp only [FL]
    go_simp
    have Ha_79 := Lib.hid (RN.step Ha.out HBk78.out)
    (with_reducible refine (Cmp_any _ _ _ z.natAbs most.natAbs Ha_79.out f4).mono ?_)
    rintro e wc80 ⟨hb80, c80, rfl, hc80⟩
    refine hK _ _ ⟨.int .i64 c80, by simp only [FL, f1] <;> kernel_rfl, hb80, ⟨c80, rfl, hc80⟩, nF⟩
   ·intro xs wk81 hBk hdep
    have HBk81 := Lib.hid hBk; have zk81 := hBk.size; clear hBk
    have f5 : ∃ c : Int, (xs 5) = .int .i64 c ∧ SignOf c (z.natAbs) (most.natAbs) := hdep _ (m_ 5 rfl) (by kernel_rfl)
    clear hdep
    refine wpOp_step (o := _) rfl (fun K hK => ?_)
    simp only [FL]
    obtain ⟨c, hc, hs⟩ := f5; unfold SignOf at hs; have hq : 0 < c := by have := HLE.out; omega
    rw [hc]; clear hs
    go_simp
    refine hK _ _ ⟨.bool true, by simp only [FL, hc] <;> kernel_rfl, Below.refl _ _, rfl, nF⟩
  ·exact all_nil
  ·intro xs wf82 hbf hf hn hd
   have f0 : (xs 0) = .pointer (some ⟨w.heap.size, 1, none⟩) := hf _ (m_ 0 rfl)
   have f1 : (xs 1) = .slice A l c := hf _ (m_ 1 rfl)
   have f2 : (xs 2) = .int .i64 most := hf _ (m_ 2 rfl)
   have f3 : LV wf82 wf82.heap.size (xs 3) most := hf _ (m_ 3 rfl)
   have f4 : RN wf82 wf82.heap.size (xs 4) (dig (most).natAbs) := hf _ (m_ 4 rfl)
   have f5 : ∃ c : Int, (xs 5) = .int .i64 c ∧ SignOf c (z.natAbs) (most.natAbs) := hf _ (m_ 5 rfl)
   have f6 : (xs 6) = .bool true := hf _ (m_ 6 rfl)
   clear hf hn hd
   simp only [FL]
   have B83 := Lib.hid hbf
   have z83 := B83.out.size
   have HB84 := Lib.hid (B0.out.trans (B83.out.mono B0.out.size))
   clear hbf
   generalize xs 0 = x0 at *
   generalize xs 1 = x1 at *
   generalize xs 2 = x2 at *
   generalize xs 3 = x3 at *
   generalize xs 4 = x4 at *
   generalize xs 5 = x5 at *
   generalize xs 6 = x6 at *
   obtain rfl := f0
   obtain rfl := f1
   obtain rfl := f2
   obtain ⟨n85, Ad85, l85, c85, rfl, hv85⟩ := f3.opened
   have Hol_85 := Lib.hid hv85
   clear f3 hv85
   obtain ⟨A86, c86, rfl, -⟩ := RN.cell f4
   have Hod_86 := Lib.hid f4; clear f4
   clear f5
   obtain rfl := f6
   refine Early.done (by kernel_rfl) ?_ _
   (try simp only [Exit.then])
   go_wp2
   go_ret2
   exact ⟨HB84.out, by rw [HV.out]; rfl⟩
end Go.Proofs.YtioclokmbgmamaaGreatDoor
