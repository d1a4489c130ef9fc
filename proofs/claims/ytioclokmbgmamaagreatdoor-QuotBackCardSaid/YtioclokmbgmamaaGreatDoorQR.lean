/- Layer 04's reference: Lowest, of, drafts (written by gen_qr.py). -/
import Derived.Test.YtioclokmbgmamaaGreatDoorQL
import Derived.Test.YtioclokmbgmamaaGreatDoorRefb
import Derived.Test.YtioclokmbgmamaaGreatDoorPr
namespace Go.Proofs.YtioclokmbgmamaaGreatDoor
open Go Go.RowKit Dig
theorem QV.of2 {w : World} {B : Nat} {n m : Bool} {A A' : Option Addr} {l c l' c' : Nat} {q : Rat} (h : LV w B (.agg #[.bool n, .slice A l c]) q.num) (k : LV w B (.agg #[.bool m, .slice A' l' c']) (q.den : Int)) :
  QV w B (.agg #[.bool n, .slice A l c, .bool m, .slice A' l' c']) q := by
 obtain ⟨a1, -, a3⟩ := h.is
 obtain ⟨b1, -, b3⟩ := k.is
 rw [decide_eq_false (by omega)] at b1
 subst b1
 rw [Int.natAbs_natCast] at b3
 exact ⟨n, A, l, c, A', l', c', rfl, a3, b3, a1⟩
theorem low_parts (x : Int) {y : Int} (h : y ≠ 0) : (Rat.divInt x y).num = Int.tdiv (x * y.sign) (Int.gcd (x * y.sign) y.natAbs : Int) ∧ ((Rat.divInt x y).den : Int) = Int.tdiv (y.natAbs : Int) (Int.gcd (x * y.sign) y.natAbs : Int) ∧ (Int.gcd (x * y.sign) y.natAbs : Int) ≠ 0 := by
 have hk : y.natAbs ≠ 0 := by omega
 obtain ⟨h1, h2⟩ := rat_reduced (n := x * y.sign) hk
 have hg : Int.gcd (x * y.sign) y.natAbs = Nat.gcd (x * y.sign).natAbs y.natAbs := rfl
 have hg0 : Nat.gcd (x * y.sign).natAbs y.natAbs ≠ 0 := Nat.gcd_ne_zero_right hk
 rw [divInt_sgn x h, h1, h2, hg]
 refine ⟨(Int.tdiv_eq_ediv_of_dvd (gcd_dvd_int _ _)).symm, ?_, by omega⟩
 rw [Int.tdiv_eq_ediv_of_nonneg (by omega)]; simp
set_option maxRecDepth 100000 in
set_option maxHeartbeats 4000000 in
theorem RLowest_any (w : World) (va vb : Value) (x y : Int) (ha : LV w w.heap.size va x) (hb : LV w w.heap.size vb y) (h0 : y ≠ 0) (lx : (dig x.natAbs).length ≤ 80000) (ly : (dig y.natAbs).length ≤ 80000) :
  Calls Tryz.prog 80 #[va, vb] w fun e w' => Below w.heap.size w w' ∧ ∃ v, e = .returned v ∧ QV w' w'.heap.size v (Rat.divInt x y) := by
 obtain ⟨q, hq⟩ : ∃ q, q = Rat.divInt x y := ⟨_, rfl⟩; have hp := low_parts x h0; rw [← hq] at hp ⊢; clear hq
 obtain ⟨z, hz⟩ : ∃ z, z = x * y.sign := ⟨_, rfl⟩; obtain ⟨k, hk⟩ : ∃ k : Int, k = (y.natAbs : Int) := ⟨_, rfl⟩
 have hkn : k.natAbs = y.natAbs := by rw [hk, Int.natAbs_natCast]
 obtain ⟨g, hg⟩ : ∃ g : Int, g = (Int.gcd z k : Int) := ⟨_, rfl⟩
 rw [← hz, ← hk, ← hg] at hp
 have lz : (dig z.natAbs).length ≤ 80000 := by rw [hz, Int.natAbs_mul, Int.natAbs_sign_of_ne_zero h0, Nat.mul_one]; exact lx
 have lk : (dig k.natAbs).length ≤ 80000 := by rw [hkn]; exact ly
 have hgk : g.natAbs ≤ k.natAbs := by rw [hg, Int.natAbs_natCast]; exact Nat.le_of_dvd (by omega) (Nat.gcd_dvd_right _ _)
 have lg : (dig g.natAbs).length ≤ 80000 := Nat.le_trans (dig_len_mono hgk) lk
 have HZN := Lib.hid (show y < 0 → -x = z ∧ -y = k from fun h => ⟨by rw [hz, Int.sign_eq_neg_one_of_neg h]; omega, by omega⟩)
 have HZP := Lib.hid (show ¬ y < 0 → x = z ∧ y = k from fun h => ⟨by rw [hz, Int.sign_eq_one_of_pos (by omega)]; omega, by omega⟩)
 have HP := Lib.hid hp; have HG := Lib.hid hg; have HL := Lib.hid (And.intro lx (And.intro ly (And.intro lz (And.intro lk lg)))); have H0 := Lib.hid h0
 clear hp hz hk hkn hg lz lk hgk lg lx ly h0
 obtain ⟨n, A, l, c, rfl, ha⟩ := ha.opened; obtain ⟨m, B, u, d, rfl, hb⟩ := hb.opened
 have HM := Lib.hid (LV.is hb).1
 have HA := Lib.hid ha; have HB := Lib.hid hb; clear ha hb
 obtain ⟨w0, hw0⟩ : ∃ w0 : World, w0 = (((w.alloc (.cells #[.bool n, .slice A l c] 24)).alloc (.cells #[.bool m, .slice B u d] 24)).alloc (.cells #[.bool false, .slice none 0 0, .bool false, .slice none 0 0] 26)) := ⟨_, rfl⟩
 have B0 := Lib.hid (show Below w.heap.size w w0 by rw [hw0]; (repeat' (first | exact Below.refl _ _ | refine Below.drew ?_ | refine Below.alloc ?_ (by first | exact Nat.le_refl _ | (simp; done) | (simp; omega)) _)))
 have z0 : w.heap.size + 3 ≤ w0.heap.size := by rw [hw0]; simp
 have Ln : CB w0 (w.heap.size) 24 #[.bool n, .slice A l c] := by rw [hw0]; have h := ((CB.new w 24 #[.bool n, .slice A l c]).alloc (.cells #[.bool m, .slice B u d] 24)).alloc (.cells #[.bool false, .slice none 0 0, .bool false, .slice none 0 0] 26); simpa using h
 have Ld : CB w0 (w.heap.size + 1) 24 #[.bool m, .slice B u d] := by rw [hw0]; have h := (CB.new (w.alloc (.cells #[.bool n, .slice A l c] 24)) 24 #[.bool m, .slice B u d]).alloc (.cells #[.bool false, .slice none 0 0, .bool false, .slice none 0 0] 26); simpa using h
 have Lr4 : CB w0 (w.heap.size + 2) 26 #[.bool false, .slice none 0 0, .bool false, .slice none 0 0] := by rw [hw0]; have h := CB.new ((w.alloc (.cells #[.bool n, .slice A l c] 24)).alloc (.cells #[.bool m, .slice B u d] 24)) 26 #[.bool false, .slice none 0 0, .bool false, .slice none 0 0]; simpa using h
 replace HA := Lib.hid (LV.step HA.out B0.out); replace HB := Lib.hid (LV.step HB.out B0.out)
 by_cases hn : y < 0
 ·have hm : m = true := by rw [HM.out, decide_eq_true hn]
  subst hm; have HE := Lib.hid (HZN.out hn); clear hn
  go_enter Tryz.func80, Tryz.ntmps80
  go_upto_region 1 with (fail)
  rw [← hw0]; clear hw0
  have q1_0 := Ln.cell 0 rfl
  have q1_1 := Ln.cell 1 rfl
  have q1_lt := Ln.lt
  have q2_0 := Ld.cell 0 rfl
  have q2_1 := Ld.cell 1 rfl
  have q2_lt := Ld.lt
  go_upto_region 2 with (fail)
  clear q1_0 q1_1 q1_lt q2_0 q2_1 q2_lt
  refine Flow.run [⟨0, 12, fun fv fw => fv = .agg #[.bool n, .slice A l c]⟩, ⟨1, 13, fun fv fw => LV fw fw.heap.size fv (-x)⟩, ⟨2, 14, fun fv fw => fv = .agg #[.bool true, .slice B u d]⟩, ⟨3, 15, fun fv fw => LV fw fw.heap.size fv (-y)⟩] [] [] 2 (by kernel_rfl) (by kernel_rfl) (by kernel_rfl) (fun _ _ _ _ _ h => h) ?_ ?_ ?_ ?_
  ·refine (all_cons (fun v w1 w2 h hb => h) (all_cons (fun v w1 w2 h hb => h.step hb) (all_cons (fun v w1 w2 h hb => h) (all_cons (fun v w1 w2 h hb => h.step hb) all_nil))))
  ·refine (all_cons ?_ (all_cons ?_ (all_cons ?_ (all_cons ?_ all_nil))))
   ·intro xs wk3 hBk hdep
    have HBk3 := Lib.hid hBk; have zk3 := hBk.size; clear hBk
    clear hdep
    refine wpOp_step (o := _) rfl (fun K hK => ?_)
    simp only [FL]
    have Ln_4 := CB.step Ln HBk3.out
    have q5_0 := Ln_4.cell 0 rfl
    have q5_1 := Ln_4.cell 1 rfl
    go_simp
    refine hK _ _ ⟨.agg #[.bool n, .slice A l c], by kernel_rfl, Below.refl _ _, rfl, nF⟩
   ·intro xs wk6 hBk hdep
    have HBk6 := Lib.hid hBk; have zk6 := hBk.size; clear hBk
    have f0 : (xs 0) = .agg #[.bool n, .slice A l c] := hdep _ (m_ 0 rfl) (by kernel_rfl)
    clear hdep
    refine wpOp_step (o := _) rfl (fun K hK => ?_)
    simp only [FL]
    go_simp
    have Ha_7 := Lib.hid (LV.step HA.out HBk6.out)
    (with_reducible refine (RMinus_any _ _ x Ha_7.out (by have := HL.out; omega)).mono ?_)
    rintro e wc8 ⟨hb8, v8, rfl, hv8⟩
    refine hK _ _ ⟨v8, by simp only [FL, f0] <;> kernel_rfl, hb8, hv8, nF⟩
   ·intro xs wk9 hBk hdep
    have HBk9 := Lib.hid hBk; have zk9 := hBk.size; clear hBk
    clear hdep
    refine wpOp_step (o := _) rfl (fun K hK => ?_)
    simp only [FL]
    have Ld_10 := CB.step Ld HBk9.out
    have q11_0 := Ld_10.cell 0 rfl
    have q11_1 := Ld_10.cell 1 rfl
    go_simp
    refine hK _ _ ⟨.agg #[.bool true, .slice B u d], by kernel_rfl, Below.refl _ _, rfl, nF⟩
   ·intro xs wk12 hBk hdep
    have HBk12 := Lib.hid hBk; have zk12 := hBk.size; clear hBk
    have f2 : (xs 2) = .agg #[.bool true, .slice B u d] := hdep _ (m_ 2 rfl) (by kernel_rfl)
    clear hdep
    refine wpOp_step (o := _) rfl (fun K hK => ?_)
    simp only [FL]
    go_simp
    have Hb_13 := Lib.hid (LV.step HB.out HBk12.out)
    (with_reducible refine (RMinus_any _ _ y Hb_13.out (by have := HL.out; omega)).mono ?_)
    rintro e wc14 ⟨hb14, v14, rfl, hv14⟩
    refine hK _ _ ⟨v14, by simp only [FL, f2] <;> kernel_rfl, hb14, hv14, nF⟩
  ·exact all_nil
  ·intro xs wf15 hbf hf hn hd
   have f0 : (xs 0) = .agg #[.bool n, .slice A l c] := hf _ (m_ 0 rfl)
   have f1 : LV wf15 wf15.heap.size (xs 1) (-x) := hf _ (m_ 1 rfl)
   have f2 : (xs 2) = .agg #[.bool true, .slice B u d] := hf _ (m_ 2 rfl)
   have f3 : LV wf15 wf15.heap.size (xs 3) (-y) := hf _ (m_ 3 rfl)
   clear hf hn hd
   simp only [FL]
   have B16 := Lib.hid hbf
   have z16 := B16.out.size
   have HB17 := Lib.hid (B0.out.trans (B16.out.mono B0.out.size))
   clear hbf
   generalize xs 0 = x0 at *
   generalize xs 1 = x1 at *
   generalize xs 2 = x2 at *
   generalize xs 3 = x3 at *
   obtain rfl := f0
   obtain ⟨n18, Ad18, l18, c18, rfl, hv18⟩ := f1.opened
   have Hna_18 := Lib.hid hv18
   clear f1 hv18
   obtain rfl := f2
   obtain ⟨n19, Ad19, l19, c19, rfl, hv19⟩ := f3.opened
   have Hnb_19 := Lib.hid hv19
   clear f3 hv19
   have Ln_20 := CB.step Ln B16.out
   have q21_0 := Ln_20.cell 0 rfl
   have q21_1 := Ln_20.cell 1 rfl
   have q21_lt := Ln_20.lt
   have q22_0 := Ln_20.frozen 0
   have q22_1 := Ln_20.frozen 1
   have q22_lt := Ln_20.lt
   refine Early.next (i := 4) (by kernel_rfl) rfl (fun K hK => ?_)
   go_simp
   refine hK _ _ (fun _ => trivial) ?_
   clear hK K
   (try simp only [Act.put, List.setIfInBounds_toArray, List.set_cons_zero, List.set_cons_succ])
   clear q21_0 q21_1 q21_lt q22_0 q22_1 q22_lt
   have Ld_23 := CB.step Ld B16.out
   have Lr4_24 := CB.step Lr4 B16.out
   obtain ⟨w25, hW25⟩ : ∃ w25 : World, w25 = ((wf15.setCell ⟨w.heap.size, 0, none⟩ (.bool n18)).setCell ⟨w.heap.size, 1, none⟩ (.slice Ad18 l18 c18)) := ⟨_, rfl⟩
   rw [← hW25]
   have S25 := Lib.hid (show Soft wf15 w25 by rw [hW25]; exact (CB.soft1 (Ln_20) (by simp [noInt_b, noInt_s]) 0 (.bool n18)).trans (CB.soft1 ((show CB _ (w.heap.size) 24 #[.bool n18, .slice A l c] from CB.set (Ln_20) 0 (.bool n18))) (by simp [noInt_b, noInt_s]) 1 (.slice Ad18 l18 c18)))
   have Ld_25 : CB w25 (w.heap.size + 1) 24 #[.bool true, .slice B u d] := by rw [hW25]; exact CB.far (p := ⟨w.heap.size, 1, none⟩) (CB.far (p := ⟨w.heap.size, 0, none⟩) (Ld_23) (show w.heap.size + 1 ≠ w.heap.size from by omega) _) (show w.heap.size + 1 ≠ w.heap.size from by omega) _
   have Lr4_25 : CB w25 (w.heap.size + 2) 26 #[.bool false, .slice none 0 0, .bool false, .slice none 0 0] := by rw [hW25]; exact CB.far (p := ⟨w.heap.size, 1, none⟩) (CB.far (p := ⟨w.heap.size, 0, none⟩) (Lr4_24) (show w.heap.size + 2 ≠ w.heap.size from by omega) _) (show w.heap.size + 2 ≠ w.heap.size from by omega) _
   have Ln_25 : CB w25 (w.heap.size) 24 #[.bool n18, .slice Ad18 l18 c18] := by rw [hW25]; exact (show CB _ (w.heap.size) 24 #[.bool n18, .slice Ad18 l18 c18] from CB.set ((show CB _ (w.heap.size) 24 #[.bool n18, .slice A l c] from CB.set (Ln_20) 0 (.bool n18))) 1 (.slice Ad18 l18 c18))
   have HBP25 := Lib.hid (show Below w.heap.size w w25 by rw [hW25]; exact below_set1 (below_set1 (HB17.out) (by omega) _ _) (by omega) _ _)
   have zw25 : w25.heap.size = wf15.heap.size := by rw [hW25]; simp [World.setCell]
   clear hW25
   have q26_0 := Ld_25.cell 0 rfl
   have q26_1 := Ld_25.cell 1 rfl
   have q26_lt := Ld_25.lt
   have q27_0 := Ld_25.frozen 0
   have q27_1 := Ld_25.frozen 1
   have q27_lt := Ld_25.lt
   refine Early.next (i := 5) (by kernel_rfl) rfl (fun K hK => ?_)
   go_simp
   refine hK _ _ (fun _ => trivial) ?_
   clear hK K
   (try simp only [Act.put, List.setIfInBounds_toArray, List.set_cons_zero, List.set_cons_succ])
   clear q26_0 q26_1 q26_lt q27_0 q27_1 q27_lt
   obtain ⟨w28, hW28⟩ : ∃ w28 : World, w28 = ((w25.setCell ⟨w.heap.size + 1, 0, none⟩ (.bool n19)).setCell ⟨w.heap.size + 1, 1, none⟩ (.slice Ad19 l19 c19)) := ⟨_, rfl⟩
   rw [← hW28]
   have S28 := Lib.hid (show Soft w25 w28 by rw [hW28]; exact (CB.soft1 (Ld_25) (by simp [noInt_b, noInt_s]) 0 (.bool n19)).trans (CB.soft1 ((show CB _ (w.heap.size + 1) 24 #[.bool n19, .slice B u d] from CB.set (Ld_25) 0 (.bool n19))) (by simp [noInt_b, noInt_s]) 1 (.slice Ad19 l19 c19)))
   have Ln_28 : CB w28 (w.heap.size) 24 #[.bool n18, .slice Ad18 l18 c18] := by rw [hW28]; exact CB.far (p := ⟨w.heap.size + 1, 1, none⟩) (CB.far (p := ⟨w.heap.size + 1, 0, none⟩) (Ln_25) (show w.heap.size ≠ w.heap.size + 1 from by omega) _) (show w.heap.size ≠ w.heap.size + 1 from by omega) _
   have Lr4_28 : CB w28 (w.heap.size + 2) 26 #[.bool false, .slice none 0 0, .bool false, .slice none 0 0] := by rw [hW28]; exact CB.far (p := ⟨w.heap.size + 1, 1, none⟩) (CB.far (p := ⟨w.heap.size + 1, 0, none⟩) (Lr4_25) (show w.heap.size + 2 ≠ w.heap.size + 1 from by omega) _) (show w.heap.size + 2 ≠ w.heap.size + 1 from by omega) _
   have Ld_28 : CB w28 (w.heap.size + 1) 24 #[.bool n19, .slice Ad19 l19 c19] := by rw [hW28]; exact (show CB _ (w.heap.size + 1) 24 #[.bool n19, .slice Ad19 l19 c19] from CB.set ((show CB _ (w.heap.size + 1) 24 #[.bool n19, .slice B u d] from CB.set (Ld_25) 0 (.bool n19))) 1 (.slice Ad19 l19 c19))
   have HBP28 := Lib.hid (show Below w.heap.size w w28 by rw [hW28]; exact below_set1 (below_set1 (HBP25.out) (by omega) _ _) (by omega) _ _)
   have zw28 : w28.heap.size = w25.heap.size := by rw [hW28]; simp [World.setCell]
   clear hW28
   refine Early.done (by kernel_rfl) ?_ _
   (try simp only [Exit.then])
   have Hna_29 := Lib.hid (LV.soft Hna_18.out ((S25.out).trans (S28.out)))
   have Hnb_30 := Lib.hid (LV.soft Hnb_19.out ((S25.out).trans (S28.out)))
   have HZ := Lib.hid (show LV w28 w28.heap.size (.agg #[.bool n18, .slice Ad18 l18 c18]) z from HE.out.1 ▸ Hna_29.out); have HK := Lib.hid (show LV w28 w28.heap.size (.agg #[.bool n19, .slice Ad19 l19 c19]) k from HE.out.2 ▸ Hnb_30.out)
   have q32_0 := Ln_28.cell 0 rfl
   have q32_1 := Ln_28.cell 1 rfl
   have q32_lt := Ln_28.lt
   have q33_0 := Ld_28.cell 0 rfl
   have q33_1 := Ld_28.cell 1 rfl
   have q33_lt := Ld_28.lt
   go_wp2_with fail
   refine (RCommon_any _ _ _ z k HZ.out HK.out (by have := HL.out; omega) (by have := HL.out; omega)).mono ?_
   rintro e w31 ⟨hb31, v, rfl, hv⟩
   have B34 := Lib.hid hb31
   have z34 := B34.out.size
   have HB35 := Lib.hid (HBP28.out.trans (B34.out.mono HBP28.out.size))
   clear hb31
   clear q32_0 q32_1 q32_lt q33_0 q33_1 q33_lt
   rw [← HG.out] at hv
   obtain ⟨n36, Ad36, l36, c36, rfl, hv36⟩ := hv.opened
   have Hg_36 := Lib.hid hv36
   clear hv hv36
   go_upto_region 4 with (fail)
   obtain ⟨w37, hW37⟩ : ∃ w37 : World, w37 = (w31.alloc (.cells #[.bool n36, .slice Ad36 l36 c36] 24)) := ⟨_, rfl⟩; rw [← hW37]
   have hb37 : Below w31.heap.size w31 w37 := by rw [hW37]; (repeat' (first | exact Below.refl _ _ | refine Below.drew ?_ | refine Below.alloc ?_ (by first | exact Nat.le_refl _ | (simp; done) | (simp; omega)) _))
   have Lg_37 : CB w37 (w31.heap.size) 24 #[.bool n36, .slice Ad36 l36 c36] := by rw [hW37]; have h := CB.new w31 24 #[.bool n36, .slice Ad36 l36 c36]; simpa using h
   have za37 : w31.heap.size + 1 ≤ w37.heap.size := by rw [hW37]; simp
   have B38 := Lib.hid hb37
   have z38 := B38.out.size
   have HB39 := Lib.hid (HB35.out.trans (B38.out.mono HB35.out.size))
   clear hb37 hW37
   have P4_6_42 := Lib.hid (B34.out.trans (B38.out.mono B34.out.size))
   have Ln_41 := CB.step Ln_28 P4_6_42.out
   have q43_0 := Ln_41.cell 0 rfl
   have q43_1 := Ln_41.cell 1 rfl
   have q43_lt := Ln_41.lt
   have q44_0 := Lg_37.cell 0 rfl
   have q44_1 := Lg_37.cell 1 rfl
   have q44_lt := Lg_37.lt
   go_wp2_with fail
   have Hz_45 := Lib.hid (LV.step HZ.out P4_6_42.out)
   have Hg_46 := Lib.hid (LV.step Hg_36.out B38.out)
   refine (RParts_any _ _ _ z g Hz_45.out Hg_46.out HP.out.2.2 (by have := HL.out; omega) (by have := HL.out; omega)).mono ?_
   rintro e w40 ⟨hb40, v, v', rfl, hv, hv'⟩
   have B47 := Lib.hid hb40
   have z47 := B47.out.size
   have HB48 := Lib.hid (HB39.out.trans (B47.out.mono HB39.out.size))
   clear hb40
   clear q43_0 q43_1 q43_lt q44_0 q44_1 q44_lt
   obtain ⟨p49, Ap49, lp49, cp49, rfl, -⟩ := hv'.opened; clear hv'
   obtain ⟨n50, Ad50, l50, c50, rfl, hv50⟩ := hv.opened
   have Hx_50 := Lib.hid hv50
   clear hv hv50
   go_upto_region 5 with (fail)
   obtain ⟨w51, hW51⟩ : ∃ w51 : World, w51 = ((w40.alloc (.cells #[.bool n50, .slice Ad50 l50 c50] 24)).alloc (.cells #[.bool p49, .slice Ap49 lp49 cp49] 24)) := ⟨_, rfl⟩; rw [← hW51]
   have hb51 : Below w40.heap.size w40 w51 := by rw [hW51]; (repeat' (first | exact Below.refl _ _ | refine Below.drew ?_ | refine Below.alloc ?_ (by first | exact Nat.le_refl _ | (simp; done) | (simp; omega)) _))
   have Lx_51 : CB w51 (w40.heap.size) 24 #[.bool n50, .slice Ad50 l50 c50] := by rw [hW51]; have h := (CB.new w40 24 #[.bool n50, .slice Ad50 l50 c50]).alloc (.cells #[.bool p49, .slice Ap49 lp49 cp49] 24); simpa using h
   have Lxr_51 : CB w51 (w40.heap.size + 1) 24 #[.bool p49, .slice Ap49 lp49 cp49] := by rw [hW51]; have h := CB.new (w40.alloc (.cells #[.bool n50, .slice Ad50 l50 c50] 24)) 24 #[.bool p49, .slice Ap49 lp49 cp49]; simpa using h
   have za51 : w40.heap.size + 2 ≤ w51.heap.size := by rw [hW51]; simp
   have B52 := Lib.hid hb51
   have z52 := B52.out.size
   have HB53 := Lib.hid (HB48.out.trans (B52.out.mono HB48.out.size))
   clear hb51 hW51
   have P4_7_56 := Lib.hid (P4_6_42.out.trans (B47.out.mono P4_6_42.out.size))
   have P4_8_57 := Lib.hid (P4_7_56.out.trans (B52.out.mono P4_7_56.out.size))
   have Ld_55 := CB.step Ld_28 P4_8_57.out
   have q58_0 := Ld_55.cell 0 rfl
   have q58_1 := Ld_55.cell 1 rfl
   have q58_lt := Ld_55.lt
   have P6_8_60 := Lib.hid (B47.out.trans (B52.out.mono B47.out.size))
   have Lg_59 := CB.step Lg_37 P6_8_60.out
   have q61_0 := Lg_59.cell 0 rfl
   have q61_1 := Lg_59.cell 1 rfl
   have q61_lt := Lg_59.lt
   go_wp2_with fail
   have Hk_62 := Lib.hid (LV.step HK.out P4_8_57.out)
   have Hg_63 := Lib.hid (LV.step Hg_46.out P6_8_60.out)
   refine (RParts_any _ _ _ k g Hk_62.out Hg_63.out HP.out.2.2 (by have := HL.out; omega) (by have := HL.out; omega)).mono ?_
   rintro e w54 ⟨hb54, v, v', rfl, hv, hv'⟩
   have B64 := Lib.hid hb54
   have z64 := B64.out.size
   have HB65 := Lib.hid (HB53.out.trans (B64.out.mono HB53.out.size))
   clear hb54
   clear q58_0 q58_1 q58_lt q61_0 q61_1 q61_lt
   obtain ⟨p66, Ap66, lp66, cp66, rfl, -⟩ := hv'.opened; clear hv'
   obtain ⟨n67, Ad67, l67, c67, rfl, hv67⟩ := hv.opened
   have Hy_67 := Lib.hid hv67
   clear hv hv67
   go_upto_region 6 with (fail)
   obtain ⟨w68, hW68⟩ : ∃ w68 : World, w68 = ((w54.alloc (.cells #[.bool n67, .slice Ad67 l67 c67] 24)).alloc (.cells #[.bool p66, .slice Ap66 lp66 cp66] 24)) := ⟨_, rfl⟩; rw [← hW68]
   have hb68 : Below w54.heap.size w54 w68 := by rw [hW68]; (repeat' (first | exact Below.refl _ _ | refine Below.drew ?_ | refine Below.alloc ?_ (by first | exact Nat.le_refl _ | (simp; done) | (simp; omega)) _))
   have Ly_68 : CB w68 (w54.heap.size) 24 #[.bool n67, .slice Ad67 l67 c67] := by rw [hW68]; have h := (CB.new w54 24 #[.bool n67, .slice Ad67 l67 c67]).alloc (.cells #[.bool p66, .slice Ap66 lp66 cp66] 24); simpa using h
   have Lyr_68 : CB w68 (w54.heap.size + 1) 24 #[.bool p66, .slice Ap66 lp66 cp66] := by rw [hW68]; have h := CB.new (w54.alloc (.cells #[.bool n67, .slice Ad67 l67 c67] 24)) 24 #[.bool p66, .slice Ap66 lp66 cp66]; simpa using h
   have za68 : w54.heap.size + 2 ≤ w68.heap.size := by rw [hW68]; simp
   have B69 := Lib.hid hb68
   have z69 := B69.out.size
   have HB70 := Lib.hid (HB65.out.trans (B69.out.mono HB65.out.size))
   clear hb68 hW68
   have P7_9_71 := Lib.hid (B52.out.trans (B64.out.mono B52.out.size))
   have P7_10_72 := Lib.hid (P7_9_71.out.trans (B69.out.mono P7_9_71.out.size))
   have Hx_73 := Lib.hid (LV.step Hx_50.out P7_10_72.out)
   have Hy_74 := Lib.hid (LV.step Hy_67.out B69.out)
   have HQ := Lib.hid (show QV w68 w68.heap.size (.agg #[.bool n50, .slice Ad50 l50 c50, .bool n67, .slice Ad67 l67 c67]) q from QV.of2 (by rw [HP.out.1]; exact Hx_73.out) (by rw [HP.out.2.1]; exact Hy_74.out))
   have P8_10_76 := Lib.hid (B64.out.trans (B69.out.mono B64.out.size))
   have Lx_75 := CB.step Lx_51 P8_10_76.out
   have q77_0 := Lx_75.cell 0 rfl
   have q77_1 := Lx_75.cell 1 rfl
   have q77_lt := Lx_75.lt
   have q78_0 := Ly_68.cell 0 rfl
   have q78_1 := Ly_68.cell 1 rfl
   have q78_lt := Ly_68.lt
   have P4_9_80 := Lib.hid (P4_8_57.out.trans (B64.out.mono P4_8_57.out.size))
   have P4_10_81 := Lib.hid (P4_9_80.out.trans (B69.out.mono P4_9_80.out.size))
   have Lr4_79 := CB.step Lr4_28 P4_10_81.out
   have q82_0 := Lr4_79.cell 0 rfl
   have q82_1 := Lr4_79.cell 1 rfl
   have q82_2 := Lr4_79.cell 2 rfl
   have q82_3 := Lr4_79.cell 3 rfl
   have q82_lt := Lr4_79.lt
   have q83_0 := Lr4_79.frozen 0
   have q83_1 := Lr4_79.frozen 1
   have q83_2 := Lr4_79.frozen 2
   have q83_3 := Lr4_79.frozen 3
   have q83_lt := Lr4_79.lt
   go_wp2
   clear q77_0 q77_1 q77_lt q78_0 q78_1 q78_lt q82_0 q82_1 q82_2 q82_3 q82_lt q83_0 q83_1 q83_2 q83_3 q83_lt
   obtain ⟨w84, hW84⟩ : ∃ w84 : World, w84 = ((((w68.setCell ⟨w.heap.size + 2, 0, none⟩ (.bool n50)).setCell ⟨w.heap.size + 2, 1, none⟩ (.slice Ad50 l50 c50)).setCell ⟨w.heap.size + 2, 2, none⟩ (.bool n67)).setCell ⟨w.heap.size + 2, 3, none⟩ (.slice Ad67 l67 c67)) := ⟨_, rfl⟩
   rw [← hW84]
   have S84 := Lib.hid (show Soft w68 w84 by rw [hW84]; exact (((CB.soft1 (Lr4_79) (by simp [noInt_b, noInt_s]) 0 (.bool n50)).trans (CB.soft1 ((show CB _ (w.heap.size + 2) 26 #[.bool n50, .slice none 0 0, .bool false, .slice none 0 0] from CB.set (Lr4_79) 0 (.bool n50))) (by simp [noInt_b, noInt_s]) 1 (.slice Ad50 l50 c50))).trans (CB.soft1 ((show CB _ (w.heap.size + 2) 26 #[.bool n50, .slice Ad50 l50 c50, .bool false, .slice none 0 0] from CB.set ((show CB _ (w.heap.size + 2) 26 #[.bool n50, .slice none 0 0, .bool false, .slice none 0 0] from CB.set (Lr4_79) 0 (.bool n50))) 1 (.slice Ad50 l50 c50))) (by simp [noInt_b, noInt_s]) 2 (.bool n67))).trans (CB.soft1 ((show CB _ (w.heap.size + 2) 26 #[.bool n50, .slice Ad50 l50 c50, .bool n67, .slice none 0 0] from CB.set ((show CB _ (w.heap.size + 2) 26 #[.bool n50, .slice Ad50 l50 c50, .bool false, .slice none 0 0] from CB.set ((show CB _ (w.heap.size + 2) 26 #[.bool n50, .slice none 0 0, .bool false, .slice none 0 0] from CB.set (Lr4_79) 0 (.bool n50))) 1 (.slice Ad50 l50 c50))) 2 (.bool n67))) (by simp [noInt_b, noInt_s]) 3 (.slice Ad67 l67 c67)))
   have Lr4_84 : CB w84 (w.heap.size + 2) 26 #[.bool n50, .slice Ad50 l50 c50, .bool n67, .slice Ad67 l67 c67] := by rw [hW84]; exact (show CB _ (w.heap.size + 2) 26 #[.bool n50, .slice Ad50 l50 c50, .bool n67, .slice Ad67 l67 c67] from CB.set ((show CB _ (w.heap.size + 2) 26 #[.bool n50, .slice Ad50 l50 c50, .bool n67, .slice none 0 0] from CB.set ((show CB _ (w.heap.size + 2) 26 #[.bool n50, .slice Ad50 l50 c50, .bool false, .slice none 0 0] from CB.set ((show CB _ (w.heap.size + 2) 26 #[.bool n50, .slice none 0 0, .bool false, .slice none 0 0] from CB.set (Lr4_79) 0 (.bool n50))) 1 (.slice Ad50 l50 c50))) 2 (.bool n67))) 3 (.slice Ad67 l67 c67))
   have HBP84 := Lib.hid (show Below w.heap.size w w84 by rw [hW84]; exact below_set1 (below_set1 (below_set1 (below_set1 (HB70.out) (by omega) _ _) (by omega) _ _) (by omega) _ _) (by omega) _ _)
   have zw84 : w84.heap.size = w68.heap.size := by rw [hW84]; simp [World.setCell]
   clear hW84
   have Hq_85 := Lib.hid (QV.soft HQ.out (S84.out))
   exact bodyPost_ret (QB.ret1 rfl _ Lr4_84 rfl) rfl ⟨HBP84.out, _, rfl, Hq_85.out⟩
 ·have hm : m = false := by rw [HM.out, decide_eq_false hn]
  subst hm; have HE := Lib.hid (HZP.out hn); clear hn
  go_enter Tryz.func80, Tryz.ntmps80
  go_upto_region 1 with (fail)
  rw [← hw0]; clear hw0
  have HZ := Lib.hid (show LV w0 w0.heap.size (.agg #[.bool n, .slice A l c]) z from HE.out.1 ▸ HA.out); have HK := Lib.hid (show LV w0 w0.heap.size (.agg #[.bool false, .slice B u d]) k from HE.out.2 ▸ HB.out)
  have q87_0 := Ln.cell 0 rfl
  have q87_1 := Ln.cell 1 rfl
  have q87_lt := Ln.lt
  have q88_0 := Ld.cell 0 rfl
  have q88_1 := Ld.cell 1 rfl
  have q88_lt := Ld.lt
  go_wp2_with fail
  refine (RCommon_any _ _ _ z k HZ.out HK.out (by have := HL.out; omega) (by have := HL.out; omega)).mono ?_
  rintro e w86 ⟨hb86, v, rfl, hv⟩
  have B89 := Lib.hid hb86
  have z89 := B89.out.size
  have HB90 := Lib.hid (B0.out.trans (B89.out.mono B0.out.size))
  clear hb86
  clear q87_0 q87_1 q87_lt q88_0 q88_1 q88_lt
  rw [← HG.out] at hv
  obtain ⟨n91, Ad91, l91, c91, rfl, hv91⟩ := hv.opened
  have Hg_91 := Lib.hid hv91
  clear hv hv91
  go_upto_region 4 with (fail)
  obtain ⟨w92, hW92⟩ : ∃ w92 : World, w92 = (w86.alloc (.cells #[.bool n91, .slice Ad91 l91 c91] 24)) := ⟨_, rfl⟩; rw [← hW92]
  have hb92 : Below w86.heap.size w86 w92 := by rw [hW92]; (repeat' (first | exact Below.refl _ _ | refine Below.drew ?_ | refine Below.alloc ?_ (by first | exact Nat.le_refl _ | (simp; done) | (simp; omega)) _))
  have Lg_92 : CB w92 (w86.heap.size) 24 #[.bool n91, .slice Ad91 l91 c91] := by rw [hW92]; have h := CB.new w86 24 #[.bool n91, .slice Ad91 l91 c91]; simpa using h
  have za92 : w86.heap.size + 1 ≤ w92.heap.size := by rw [hW92]; simp
  have B93 := Lib.hid hb92
  have z93 := B93.out.size
  have HB94 := Lib.hid (HB90.out.trans (B93.out.mono HB90.out.size))
  clear hb92 hW92
  have P1_3_97 := Lib.hid (B89.out.trans (B93.out.mono B89.out.size))
  have Ln_96 := CB.step Ln P1_3_97.out
  have q98_0 := Ln_96.cell 0 rfl
  have q98_1 := Ln_96.cell 1 rfl
  have q98_lt := Ln_96.lt
  have q99_0 := Lg_92.cell 0 rfl
  have q99_1 := Lg_92.cell 1 rfl
  have q99_lt := Lg_92.lt
  go_wp2_with fail
  have Hz_100 := Lib.hid (LV.step HZ.out P1_3_97.out)
  have Hg_101 := Lib.hid (LV.step Hg_91.out B93.out)
  refine (RParts_any _ _ _ z g Hz_100.out Hg_101.out HP.out.2.2 (by have := HL.out; omega) (by have := HL.out; omega)).mono ?_
  rintro e w95 ⟨hb95, v, v', rfl, hv, hv'⟩
  have B102 := Lib.hid hb95
  have z102 := B102.out.size
  have HB103 := Lib.hid (HB94.out.trans (B102.out.mono HB94.out.size))
  clear hb95
  clear q98_0 q98_1 q98_lt q99_0 q99_1 q99_lt
  obtain ⟨p104, Ap104, lp104, cp104, rfl, -⟩ := hv'.opened; clear hv'
  obtain ⟨n105, Ad105, l105, c105, rfl, hv105⟩ := hv.opened
  have Hx_105 := Lib.hid hv105
  clear hv hv105
  go_upto_region 5 with (fail)
  obtain ⟨w106, hW106⟩ : ∃ w106 : World, w106 = ((w95.alloc (.cells #[.bool n105, .slice Ad105 l105 c105] 24)).alloc (.cells #[.bool p104, .slice Ap104 lp104 cp104] 24)) := ⟨_, rfl⟩; rw [← hW106]
  have hb106 : Below w95.heap.size w95 w106 := by rw [hW106]; (repeat' (first | exact Below.refl _ _ | refine Below.drew ?_ | refine Below.alloc ?_ (by first | exact Nat.le_refl _ | (simp; done) | (simp; omega)) _))
  have Lx_106 : CB w106 (w95.heap.size) 24 #[.bool n105, .slice Ad105 l105 c105] := by rw [hW106]; have h := (CB.new w95 24 #[.bool n105, .slice Ad105 l105 c105]).alloc (.cells #[.bool p104, .slice Ap104 lp104 cp104] 24); simpa using h
  have Lxr_106 : CB w106 (w95.heap.size + 1) 24 #[.bool p104, .slice Ap104 lp104 cp104] := by rw [hW106]; have h := CB.new (w95.alloc (.cells #[.bool n105, .slice Ad105 l105 c105] 24)) 24 #[.bool p104, .slice Ap104 lp104 cp104]; simpa using h
  have za106 : w95.heap.size + 2 ≤ w106.heap.size := by rw [hW106]; simp
  have B107 := Lib.hid hb106
  have z107 := B107.out.size
  have HB108 := Lib.hid (HB103.out.trans (B107.out.mono HB103.out.size))
  clear hb106 hW106
  have P1_4_111 := Lib.hid (P1_3_97.out.trans (B102.out.mono P1_3_97.out.size))
  have P1_5_112 := Lib.hid (P1_4_111.out.trans (B107.out.mono P1_4_111.out.size))
  have Ld_110 := CB.step Ld P1_5_112.out
  have q113_0 := Ld_110.cell 0 rfl
  have q113_1 := Ld_110.cell 1 rfl
  have q113_lt := Ld_110.lt
  have P3_5_115 := Lib.hid (B102.out.trans (B107.out.mono B102.out.size))
  have Lg_114 := CB.step Lg_92 P3_5_115.out
  have q116_0 := Lg_114.cell 0 rfl
  have q116_1 := Lg_114.cell 1 rfl
  have q116_lt := Lg_114.lt
  go_wp2_with fail
  have Hk_117 := Lib.hid (LV.step HK.out P1_5_112.out)
  have Hg_118 := Lib.hid (LV.step Hg_101.out P3_5_115.out)
  refine (RParts_any _ _ _ k g Hk_117.out Hg_118.out HP.out.2.2 (by have := HL.out; omega) (by have := HL.out; omega)).mono ?_
  rintro e w109 ⟨hb109, v, v', rfl, hv, hv'⟩
  have B119 := Lib.hid hb109
  have z119 := B119.out.size
  have HB120 := Lib.hid (HB108.out.trans (B119.out.mono HB108.out.size))
  clear hb109
  clear q113_0 q113_1 q113_lt q116_0 q116_1 q116_lt
  obtain ⟨p121, Ap121, lp121, cp121, rfl, -⟩ := hv'.opened; clear hv'
  obtain ⟨n122, Ad122, l122, c122, rfl, hv122⟩ := hv.opened
  have Hy_122 := Lib.hid hv122
  clear hv hv122
  go_upto_region 6 with (fail)
  obtain ⟨w123, hW123⟩ : ∃ w123 : World, w123 = ((w109.alloc (.cells #[.bool n122, .slice Ad122 l122 c122] 24)).alloc (.cells #[.bool p121, .slice Ap121 lp121 cp121] 24)) := ⟨_, rfl⟩; rw [← hW123]
  have hb123 : Below w109.heap.size w109 w123 := by rw [hW123]; (repeat' (first | exact Below.refl _ _ | refine Below.drew ?_ | refine Below.alloc ?_ (by first | exact Nat.le_refl _ | (simp; done) | (simp; omega)) _))
  have Ly_123 : CB w123 (w109.heap.size) 24 #[.bool n122, .slice Ad122 l122 c122] := by rw [hW123]; have h := (CB.new w109 24 #[.bool n122, .slice Ad122 l122 c122]).alloc (.cells #[.bool p121, .slice Ap121 lp121 cp121] 24); simpa using h
  have Lyr_123 : CB w123 (w109.heap.size + 1) 24 #[.bool p121, .slice Ap121 lp121 cp121] := by rw [hW123]; have h := CB.new (w109.alloc (.cells #[.bool n122, .slice Ad122 l122 c122] 24)) 24 #[.bool p121, .slice Ap121 lp121 cp121]; simpa using h
  have za123 : w109.heap.size + 2 ≤ w123.heap.size := by rw [hW123]; simp
  have B124 := Lib.hid hb123
  have z124 := B124.out.size
  have HB125 := Lib.hid (HB120.out.trans (B124.out.mono HB120.out.size))
  clear hb123 hW123
  have P4_6_126 := Lib.hid (B107.out.trans (B119.out.mono B107.out.size))
  have P4_7_127 := Lib.hid (P4_6_126.out.trans (B124.out.mono P4_6_126.out.size))
  have Hx_128 := Lib.hid (LV.step Hx_105.out P4_7_127.out)
  have Hy_129 := Lib.hid (LV.step Hy_122.out B124.out)
  have HQ := Lib.hid (show QV w123 w123.heap.size (.agg #[.bool n105, .slice Ad105 l105 c105, .bool n122, .slice Ad122 l122 c122]) q from QV.of2 (by rw [HP.out.1]; exact Hx_128.out) (by rw [HP.out.2.1]; exact Hy_129.out))
  have P5_7_131 := Lib.hid (B119.out.trans (B124.out.mono B119.out.size))
  have Lx_130 := CB.step Lx_106 P5_7_131.out
  have q132_0 := Lx_130.cell 0 rfl
  have q132_1 := Lx_130.cell 1 rfl
  have q132_lt := Lx_130.lt
  have q133_0 := Ly_123.cell 0 rfl
  have q133_1 := Ly_123.cell 1 rfl
  have q133_lt := Ly_123.lt
  have P1_6_135 := Lib.hid (P1_5_112.out.trans (B119.out.mono P1_5_112.out.size))
  have P1_7_136 := Lib.hid (P1_6_135.out.trans (B124.out.mono P1_6_135.out.size))
  have Lr4_134 := CB.step Lr4 P1_7_136.out
  have q137_0 := Lr4_134.cell 0 rfl
  have q137_1 := Lr4_134.cell 1 rfl
  have q137_2 := Lr4_134.cell 2 rfl
  have q137_3 := Lr4_134.cell 3 rfl
  have q137_lt := Lr4_134.lt
  have q138_0 := Lr4_134.frozen 0
  have q138_1 := Lr4_134.frozen 1
  have q138_2 := Lr4_134.frozen 2
  have q138_3 := Lr4_134.frozen 3
  have q138_lt := Lr4_134.lt
  go_wp2
  clear q132_0 q132_1 q132_lt q133_0 q133_1 q133_lt q137_0 q137_1 q137_2 q137_3 q137_lt q138_0 q138_1 q138_2 q138_3 q138_lt
  obtain ⟨w139, hW139⟩ : ∃ w139 : World, w139 = ((((w123.setCell ⟨w.heap.size + 2, 0, none⟩ (.bool n105)).setCell ⟨w.heap.size + 2, 1, none⟩ (.slice Ad105 l105 c105)).setCell ⟨w.heap.size + 2, 2, none⟩ (.bool n122)).setCell ⟨w.heap.size + 2, 3, none⟩ (.slice Ad122 l122 c122)) := ⟨_, rfl⟩
  rw [← hW139]
  have S139 := Lib.hid (show Soft w123 w139 by rw [hW139]; exact (((CB.soft1 (Lr4_134) (by simp [noInt_b, noInt_s]) 0 (.bool n105)).trans (CB.soft1 ((show CB _ (w.heap.size + 2) 26 #[.bool n105, .slice none 0 0, .bool false, .slice none 0 0] from CB.set (Lr4_134) 0 (.bool n105))) (by simp [noInt_b, noInt_s]) 1 (.slice Ad105 l105 c105))).trans (CB.soft1 ((show CB _ (w.heap.size + 2) 26 #[.bool n105, .slice Ad105 l105 c105, .bool false, .slice none 0 0] from CB.set ((show CB _ (w.heap.size + 2) 26 #[.bool n105, .slice none 0 0, .bool false, .slice none 0 0] from CB.set (Lr4_134) 0 (.bool n105))) 1 (.slice Ad105 l105 c105))) (by simp [noInt_b, noInt_s]) 2 (.bool n122))).trans (CB.soft1 ((show CB _ (w.heap.size + 2) 26 #[.bool n105, .slice Ad105 l105 c105, .bool n122, .slice none 0 0] from CB.set ((show CB _ (w.heap.size + 2) 26 #[.bool n105, .slice Ad105 l105 c105, .bool false, .slice none 0 0] from CB.set ((show CB _ (w.heap.size + 2) 26 #[.bool n105, .slice none 0 0, .bool false, .slice none 0 0] from CB.set (Lr4_134) 0 (.bool n105))) 1 (.slice Ad105 l105 c105))) 2 (.bool n122))) (by simp [noInt_b, noInt_s]) 3 (.slice Ad122 l122 c122)))
  have Lr4_139 : CB w139 (w.heap.size + 2) 26 #[.bool n105, .slice Ad105 l105 c105, .bool n122, .slice Ad122 l122 c122] := by rw [hW139]; exact (show CB _ (w.heap.size + 2) 26 #[.bool n105, .slice Ad105 l105 c105, .bool n122, .slice Ad122 l122 c122] from CB.set ((show CB _ (w.heap.size + 2) 26 #[.bool n105, .slice Ad105 l105 c105, .bool n122, .slice none 0 0] from CB.set ((show CB _ (w.heap.size + 2) 26 #[.bool n105, .slice Ad105 l105 c105, .bool false, .slice none 0 0] from CB.set ((show CB _ (w.heap.size + 2) 26 #[.bool n105, .slice none 0 0, .bool false, .slice none 0 0] from CB.set (Lr4_134) 0 (.bool n105))) 1 (.slice Ad105 l105 c105))) 2 (.bool n122))) 3 (.slice Ad122 l122 c122))
  have HBP139 := Lib.hid (show Below w.heap.size w w139 by rw [hW139]; exact below_set1 (below_set1 (below_set1 (below_set1 (HB125.out) (by omega) _ _) (by omega) _ _) (by omega) _ _) (by omega) _ _)
  have zw139 : w139.heap.size = w123.heap.size := by rw [hW139]; simp [World.setCell]
  clear hW139
  have Hq_140 := Lib.hid (QV.soft HQ.out (S139.out))
  exact bodyPost_ret (QB.ret1 rfl _ Lr4_139 rfl) rfl ⟨HBP139.out, _, rfl, Hq_140.out⟩
theorem QL.divInt {x y : Int} {a b : Nat} (h0 : y ≠ 0) (hx : (dig x.natAbs).length ≤ a) (hy : (dig y.natAbs).length ≤ b) : QL a b (Rat.divInt x y) := by
 rw [divInt_sgn x h0]
 exact QL.mk' (by rw [Int.natAbs_mul, Int.natAbs_sign_of_ne_zero h0, Nat.mul_one]; exact hx) hy (by omega)
set_option maxRecDepth 100000 in
set_option maxHeartbeats 4000000 in
theorem Rof_any (w : World) (va vb : Value) (x y : Int) (ha : LV w w.heap.size va x) (hb : LV w w.heap.size vb y) (lx : (dig x.natAbs).length ≤ 47) (ly : (dig y.natAbs).length ≤ 47) :
  Calls Tryz.prog 72 #[va, vb] w fun e w' => Below w.heap.size w w' ∧ ∃ q, QL 47 47 q ∧ ∃ v, e = .returned v ∧ QV w' w'.heap.size v q := by
 obtain ⟨n, A, l, c, rfl, ha⟩ := ha.opened; obtain ⟨m, B, u, d, rfl, hb⟩ := hb.opened
 have hul := (LV.is hb).2.1
 have HA := Lib.hid ha; have HB := Lib.hid hb; have HL := Lib.hid (And.intro lx ly); clear ha hb lx ly
 obtain ⟨w0, hw0⟩ : ∃ w0 : World, w0 = (((w.alloc (.cells #[.bool n, .slice A l c] 24)).alloc (.cells #[.bool m, .slice B u d] 24)).alloc (.cells #[.bool false, .slice none 0 0, .bool false, .slice none 0 0] 26)) := ⟨_, rfl⟩
 have B0 := Lib.hid (show Below w.heap.size w w0 by rw [hw0]; (repeat' (first | exact Below.refl _ _ | refine Below.drew ?_ | refine Below.alloc ?_ (by first | exact Nat.le_refl _ | (simp; done) | (simp; omega)) _)))
 have z0 : w.heap.size + 3 ≤ w0.heap.size := by rw [hw0]; simp
 have Ln : CB w0 (w.heap.size) 24 #[.bool n, .slice A l c] := by rw [hw0]; have h := ((CB.new w 24 #[.bool n, .slice A l c]).alloc (.cells #[.bool m, .slice B u d] 24)).alloc (.cells #[.bool false, .slice none 0 0, .bool false, .slice none 0 0] 26); simpa using h
 have Ld : CB w0 (w.heap.size + 1) 24 #[.bool m, .slice B u d] := by rw [hw0]; have h := (CB.new (w.alloc (.cells #[.bool n, .slice A l c] 24)) 24 #[.bool m, .slice B u d]).alloc (.cells #[.bool false, .slice none 0 0, .bool false, .slice none 0 0] 26); simpa using h
 have Lr4 : CB w0 (w.heap.size + 2) 26 #[.bool false, .slice none 0 0, .bool false, .slice none 0 0] := by rw [hw0]; have h := CB.new ((w.alloc (.cells #[.bool n, .slice A l c] 24)).alloc (.cells #[.bool m, .slice B u d] 24)) 26 #[.bool false, .slice none 0 0, .bool false, .slice none 0 0]; simpa using h
 replace HA := Lib.hid (LV.step HA.out B0.out); replace HB := Lib.hid (LV.step HB.out B0.out)
 by_cases hy : y = 0
 ·have hu0 : ((u : Int) == 0) = true := by rw [beq_iff_eq, hul, hy, show (0 : Int).natAbs = 0 from rfl, dig_zero]; rfl
  clear hul hy
  go_enter Tryz.func72, Tryz.ntmps72
  go_upto_region 1 with (fail)
  rw [← hw0]; clear hw0
  have q2_0 := Ld.cell 0 rfl
  have q2_1 := Ld.cell 1 rfl
  have q2_lt := Ld.lt
  go_wp2_with fail
  refine (ROf_any _ 1 (by decide) (by decide)).mono ?_
  rintro e w1 ⟨hb1, v, rfl, hv⟩
  have B3 := Lib.hid hb1
  have z3 := B3.out.size
  have HB4 := Lib.hid (B0.out.trans (B3.out.mono B0.out.size))
  clear hb1
  clear q2_0 q2_1 q2_lt
  obtain ⟨n5, Ad5, l5, c5, rfl, hv5⟩ := hv.opened
  have Hd_5 := Lib.hid hv5
  clear hv hv5
  have Ld_6 := CB.step Ld B3.out
  have q7_0 := Ld_6.cell 0 rfl
  have q7_1 := Ld_6.cell 1 rfl
  have q7_lt := Ld_6.lt
  have q8_0 := Ld_6.frozen 0
  have q8_1 := Ld_6.frozen 1
  have q8_lt := Ld_6.lt
  go_upto_region 3 with (fail)
  clear q7_0 q7_1 q7_lt q8_0 q8_1 q8_lt
  have Ln_9 := CB.step Ln B3.out
  have Lr4_10 := CB.step Lr4 B3.out
  obtain ⟨w11, hW11⟩ : ∃ w11 : World, w11 = ((w1.setCell ⟨w.heap.size + 1, 0, none⟩ (.bool n5)).setCell ⟨w.heap.size + 1, 1, none⟩ (.slice Ad5 l5 c5)) := ⟨_, rfl⟩
  rw [← hW11]
  have S11 := Lib.hid (show Soft w1 w11 by rw [hW11]; exact (CB.soft1 (Ld_6) (by simp [noInt_b, noInt_s]) 0 (.bool n5)).trans (CB.soft1 ((show CB _ (w.heap.size + 1) 24 #[.bool n5, .slice B u d] from CB.set (Ld_6) 0 (.bool n5))) (by simp [noInt_b, noInt_s]) 1 (.slice Ad5 l5 c5)))
  have Ln_11 : CB w11 (w.heap.size) 24 #[.bool n, .slice A l c] := by rw [hW11]; exact CB.far (p := ⟨w.heap.size + 1, 1, none⟩) (CB.far (p := ⟨w.heap.size + 1, 0, none⟩) (Ln_9) (show w.heap.size ≠ w.heap.size + 1 from by omega) _) (show w.heap.size ≠ w.heap.size + 1 from by omega) _
  have Lr4_11 : CB w11 (w.heap.size + 2) 26 #[.bool false, .slice none 0 0, .bool false, .slice none 0 0] := by rw [hW11]; exact CB.far (p := ⟨w.heap.size + 1, 1, none⟩) (CB.far (p := ⟨w.heap.size + 1, 0, none⟩) (Lr4_10) (show w.heap.size + 2 ≠ w.heap.size + 1 from by omega) _) (show w.heap.size + 2 ≠ w.heap.size + 1 from by omega) _
  have Ld_11 : CB w11 (w.heap.size + 1) 24 #[.bool n5, .slice Ad5 l5 c5] := by rw [hW11]; exact (show CB _ (w.heap.size + 1) 24 #[.bool n5, .slice Ad5 l5 c5] from CB.set ((show CB _ (w.heap.size + 1) 24 #[.bool n5, .slice B u d] from CB.set (Ld_6) 0 (.bool n5))) 1 (.slice Ad5 l5 c5))
  have HBP11 := Lib.hid (show Below w.heap.size w w11 by rw [hW11]; exact below_set1 (below_set1 (HB4.out) (by omega) _ _) (by omega) _ _)
  have zw11 : w11.heap.size = w1.heap.size := by rw [hW11]; simp [World.setCell]
  clear hW11
  have q13_0 := Ln_11.cell 0 rfl
  have q13_1 := Ln_11.cell 1 rfl
  have q13_lt := Ln_11.lt
  have q14_0 := Ld_11.cell 0 rfl
  have q14_1 := Ld_11.cell 1 rfl
  have q14_lt := Ld_11.lt
  go_wp2_with fail
  have Ha_15 := Lib.hid (LV.soft HA.out ((Soft.of B3.out).trans (S11.out)))
  have Hd_16 := Lib.hid (LV.soft Hd_5.out (S11.out))
  refine (RLowest_any _ _ _ x 1 Ha_15.out Hd_16.out (by decide) (by have := HL.out; omega) (Nat.le_trans (fit_i64 (n := 1) (by decide) (by decide)) (by decide))).mono ?_
  rintro e w12 ⟨hb12, v, rfl, hv⟩
  have B17 := Lib.hid hb12
  have z17 := B17.out.size
  have HB18 := Lib.hid (HBP11.out.trans (B17.out.mono HBP11.out.size))
  clear hb12
  clear q13_0 q13_1 q13_lt q14_0 q14_1 q14_lt
  obtain ⟨on19, oA19, ol19, oc19, oB19, om_19, od19, rfl, ha19, hb19, hc19⟩ := hv
  have Hq_19 := Lib.hid (show QV w12 w12.heap.size (.agg #[.bool on19, .slice oA19 ol19 oc19, .bool false, .slice oB19 om_19 od19]) (Rat.divInt x 1) from ⟨_, _, _, _, _, _, _, rfl, ha19, hb19, hc19⟩)
  clear ha19 hb19 hc19
  have Lr4_20 := CB.step Lr4_11 B17.out
  have q21_0 := Lr4_20.cell 0 rfl
  have q21_1 := Lr4_20.cell 1 rfl
  have q21_2 := Lr4_20.cell 2 rfl
  have q21_3 := Lr4_20.cell 3 rfl
  have q21_lt := Lr4_20.lt
  have q22_0 := Lr4_20.frozen 0
  have q22_1 := Lr4_20.frozen 1
  have q22_2 := Lr4_20.frozen 2
  have q22_3 := Lr4_20.frozen 3
  have q22_lt := Lr4_20.lt
  go_wp2
  clear q21_0 q21_1 q21_2 q21_3 q21_lt q22_0 q22_1 q22_2 q22_3 q22_lt
  obtain ⟨w23, hW23⟩ : ∃ w23 : World, w23 = ((((w12.setCell ⟨w.heap.size + 2, 0, none⟩ (.bool on19)).setCell ⟨w.heap.size + 2, 1, none⟩ (.slice oA19 ol19 oc19)).setCell ⟨w.heap.size + 2, 2, none⟩ (.bool false)).setCell ⟨w.heap.size + 2, 3, none⟩ (.slice oB19 om_19 od19)) := ⟨_, rfl⟩
  rw [← hW23]
  have S23 := Lib.hid (show Soft w12 w23 by rw [hW23]; exact (((CB.soft1 (Lr4_20) (by simp [noInt_b, noInt_s]) 0 (.bool on19)).trans (CB.soft1 ((show CB _ (w.heap.size + 2) 26 #[.bool on19, .slice none 0 0, .bool false, .slice none 0 0] from CB.set (Lr4_20) 0 (.bool on19))) (by simp [noInt_b, noInt_s]) 1 (.slice oA19 ol19 oc19))).trans (CB.soft1 ((show CB _ (w.heap.size + 2) 26 #[.bool on19, .slice oA19 ol19 oc19, .bool false, .slice none 0 0] from CB.set ((show CB _ (w.heap.size + 2) 26 #[.bool on19, .slice none 0 0, .bool false, .slice none 0 0] from CB.set (Lr4_20) 0 (.bool on19))) 1 (.slice oA19 ol19 oc19))) (by simp [noInt_b, noInt_s]) 2 (.bool false))).trans (CB.soft1 ((show CB _ (w.heap.size + 2) 26 #[.bool on19, .slice oA19 ol19 oc19, .bool false, .slice none 0 0] from CB.set ((show CB _ (w.heap.size + 2) 26 #[.bool on19, .slice oA19 ol19 oc19, .bool false, .slice none 0 0] from CB.set ((show CB _ (w.heap.size + 2) 26 #[.bool on19, .slice none 0 0, .bool false, .slice none 0 0] from CB.set (Lr4_20) 0 (.bool on19))) 1 (.slice oA19 ol19 oc19))) 2 (.bool false))) (by simp [noInt_b, noInt_s]) 3 (.slice oB19 om_19 od19)))
  have Lr4_23 : CB w23 (w.heap.size + 2) 26 #[.bool on19, .slice oA19 ol19 oc19, .bool false, .slice oB19 om_19 od19] := by rw [hW23]; exact (show CB _ (w.heap.size + 2) 26 #[.bool on19, .slice oA19 ol19 oc19, .bool false, .slice oB19 om_19 od19] from CB.set ((show CB _ (w.heap.size + 2) 26 #[.bool on19, .slice oA19 ol19 oc19, .bool false, .slice none 0 0] from CB.set ((show CB _ (w.heap.size + 2) 26 #[.bool on19, .slice oA19 ol19 oc19, .bool false, .slice none 0 0] from CB.set ((show CB _ (w.heap.size + 2) 26 #[.bool on19, .slice none 0 0, .bool false, .slice none 0 0] from CB.set (Lr4_20) 0 (.bool on19))) 1 (.slice oA19 ol19 oc19))) 2 (.bool false))) 3 (.slice oB19 om_19 od19))
  have HBP23 := Lib.hid (show Below w.heap.size w w23 by rw [hW23]; exact below_set1 (below_set1 (below_set1 (below_set1 (HB18.out) (by omega) _ _) (by omega) _ _) (by omega) _ _) (by omega) _ _)
  have zw23 : w23.heap.size = w12.heap.size := by rw [hW23]; simp [World.setCell]
  clear hW23
  have Hq_24 := Lib.hid (QV.soft Hq_19.out (S23.out))
  exact bodyPost_ret (QB.ret1 rfl _ Lr4_23 rfl) rfl ⟨HBP23.out, _, QL.divInt (by decide) HL.out.1 (Nat.le_trans (fit_i64 (n := 1) (by decide) (by decide)) (by decide)), _, rfl, Hq_24.out⟩
 ·have hu0 : ((u : Int) == 0) = false := by rw [beq_eq_false_iff_ne, hul]; have := dig_len_pos (n := y.natAbs) (by omega); omega
  have HY := Lib.hid hy; clear hul hy
  go_enter Tryz.func72, Tryz.ntmps72
  go_upto_region 1 with (fail)
  rw [← hw0]; clear hw0
  have q26_0 := Ln.cell 0 rfl
  have q26_1 := Ln.cell 1 rfl
  have q26_lt := Ln.lt
  have q27_0 := Ld.cell 0 rfl
  have q27_1 := Ld.cell 1 rfl
  have q27_lt := Ld.lt
  go_wp2_with fail
  refine (RLowest_any _ _ _ x y HA.out HB.out HY.out (by have := HL.out; omega) (by have := HL.out; omega)).mono ?_
  rintro e w25 ⟨hb25, v, rfl, hv⟩
  have B28 := Lib.hid hb25
  have z28 := B28.out.size
  have HB29 := Lib.hid (B0.out.trans (B28.out.mono B0.out.size))
  clear hb25
  clear q26_0 q26_1 q26_lt q27_0 q27_1 q27_lt
  obtain ⟨on30, oA30, ol30, oc30, oB30, om_30, od30, rfl, ha30, hb30, hc30⟩ := hv
  have Hq_30 := Lib.hid (show QV w25 w25.heap.size (.agg #[.bool on30, .slice oA30 ol30 oc30, .bool false, .slice oB30 om_30 od30]) (Rat.divInt x y) from ⟨_, _, _, _, _, _, _, rfl, ha30, hb30, hc30⟩)
  clear ha30 hb30 hc30
  have Lr4_31 := CB.step Lr4 B28.out
  have q32_0 := Lr4_31.cell 0 rfl
  have q32_1 := Lr4_31.cell 1 rfl
  have q32_2 := Lr4_31.cell 2 rfl
  have q32_3 := Lr4_31.cell 3 rfl
  have q32_lt := Lr4_31.lt
  have q33_0 := Lr4_31.frozen 0
  have q33_1 := Lr4_31.frozen 1
  have q33_2 := Lr4_31.frozen 2
  have q33_3 := Lr4_31.frozen 3
  have q33_lt := Lr4_31.lt
  go_wp2
  clear q32_0 q32_1 q32_2 q32_3 q32_lt q33_0 q33_1 q33_2 q33_3 q33_lt
  obtain ⟨w34, hW34⟩ : ∃ w34 : World, w34 = ((((w25.setCell ⟨w.heap.size + 2, 0, none⟩ (.bool on30)).setCell ⟨w.heap.size + 2, 1, none⟩ (.slice oA30 ol30 oc30)).setCell ⟨w.heap.size + 2, 2, none⟩ (.bool false)).setCell ⟨w.heap.size + 2, 3, none⟩ (.slice oB30 om_30 od30)) := ⟨_, rfl⟩
  rw [← hW34]
  have S34 := Lib.hid (show Soft w25 w34 by rw [hW34]; exact (((CB.soft1 (Lr4_31) (by simp [noInt_b, noInt_s]) 0 (.bool on30)).trans (CB.soft1 ((show CB _ (w.heap.size + 2) 26 #[.bool on30, .slice none 0 0, .bool false, .slice none 0 0] from CB.set (Lr4_31) 0 (.bool on30))) (by simp [noInt_b, noInt_s]) 1 (.slice oA30 ol30 oc30))).trans (CB.soft1 ((show CB _ (w.heap.size + 2) 26 #[.bool on30, .slice oA30 ol30 oc30, .bool false, .slice none 0 0] from CB.set ((show CB _ (w.heap.size + 2) 26 #[.bool on30, .slice none 0 0, .bool false, .slice none 0 0] from CB.set (Lr4_31) 0 (.bool on30))) 1 (.slice oA30 ol30 oc30))) (by simp [noInt_b, noInt_s]) 2 (.bool false))).trans (CB.soft1 ((show CB _ (w.heap.size + 2) 26 #[.bool on30, .slice oA30 ol30 oc30, .bool false, .slice none 0 0] from CB.set ((show CB _ (w.heap.size + 2) 26 #[.bool on30, .slice oA30 ol30 oc30, .bool false, .slice none 0 0] from CB.set ((show CB _ (w.heap.size + 2) 26 #[.bool on30, .slice none 0 0, .bool false, .slice none 0 0] from CB.set (Lr4_31) 0 (.bool on30))) 1 (.slice oA30 ol30 oc30))) 2 (.bool false))) (by simp [noInt_b, noInt_s]) 3 (.slice oB30 om_30 od30)))
  have Lr4_34 : CB w34 (w.heap.size + 2) 26 #[.bool on30, .slice oA30 ol30 oc30, .bool false, .slice oB30 om_30 od30] := by rw [hW34]; exact (show CB _ (w.heap.size + 2) 26 #[.bool on30, .slice oA30 ol30 oc30, .bool false, .slice oB30 om_30 od30] from CB.set ((show CB _ (w.heap.size + 2) 26 #[.bool on30, .slice oA30 ol30 oc30, .bool false, .slice none 0 0] from CB.set ((show CB _ (w.heap.size + 2) 26 #[.bool on30, .slice oA30 ol30 oc30, .bool false, .slice none 0 0] from CB.set ((show CB _ (w.heap.size + 2) 26 #[.bool on30, .slice none 0 0, .bool false, .slice none 0 0] from CB.set (Lr4_31) 0 (.bool on30))) 1 (.slice oA30 ol30 oc30))) 2 (.bool false))) 3 (.slice oB30 om_30 od30))
  have HBP34 := Lib.hid (show Below w.heap.size w w34 by rw [hW34]; exact below_set1 (below_set1 (below_set1 (below_set1 (HB29.out) (by omega) _ _) (by omega) _ _) (by omega) _ _) (by omega) _ _)
  have zw34 : w34.heap.size = w25.heap.size := by rw [hW34]; simp [World.setCell]
  clear hW34
  have Hq_35 := Lib.hid (QV.soft Hq_30.out (S34.out))
  exact bodyPost_ret (QB.ret1 rfl _ Lr4_34 rfl) rfl ⟨HBP34.out, _, QL.divInt HY.out HL.out.1 HL.out.2, _, rfl, Hq_35.out⟩
set_option maxRecDepth 100000 in
set_option maxHeartbeats 4000000 in
theorem DQuotQ_any (w : World) (n m : Bool) (l k : Int) (s t : Value) (ws wt : List Nat) (hl0 : 0 ≤ l) (hl1 : l ≤ 255) (hs : RW w w.heap.size s ws) (hk0 : 0 ≤ k) (hk1 : k ≤ 255) (ht : RW w w.heap.size t wt) :
  Calls Tryz.prog 23 #[.agg #[.bool n, .int .u8 l, s, .bool m, .int .u8 k, t]] w fun e w' => Below w.heap.size w w' ∧ ∃ q, QL 47 47 q ∧ ∃ v, e = .returned v ∧ QV w' w'.heap.size v q := by
 obtain ⟨X, hX⟩ : ∃ X, X = sgn n (val (draftDs (l.toNat % 8) 40 ws)) := ⟨_, rfl⟩; obtain ⟨Y, hY⟩ : ∃ Y, Y = sgn m (val (draftDs (k.toNat % 8) 40 wt)) := ⟨_, rfl⟩
 have lX : (dig X.natAbs).length ≤ 47 := by rw [hX]; exact draft_fit (by omega)
 have lY : (dig Y.natAbs).length ≤ 47 := by rw [hY]; exact draft_fit (by omega)
 have HL := Lib.hid (And.intro lX lY); have HX := Lib.hid hX; have HY := Lib.hid hY; have HS := Lib.hid hs; have HT := Lib.hid ht; have HB := Lib.hid (And.intro hl0 (And.intro hl1 (And.intro hk0 hk1))); clear lX lY hX hY hs ht hl0 hl1 hk0 hk1
 obtain ⟨w0, hw0⟩ : ∃ w0 : World, w0 = ((w.alloc (.cells #[.bool n, .int .u8 l, s, .bool m, .int .u8 k, t] 31)).alloc (.cells #[.bool false, .slice none 0 0, .bool false, .slice none 0 0] 26)) := ⟨_, rfl⟩
 have B0 := Lib.hid (show Below w.heap.size w w0 by rw [hw0]; (repeat' (first | exact Below.refl _ _ | refine Below.drew ?_ | refine Below.alloc ?_ (by first | exact Nat.le_refl _ | (simp; done) | (simp; omega)) _)))
 have z0 : w.heap.size + 2 ≤ w0.heap.size := by rw [hw0]; simp
 have Ld : CB w0 (w.heap.size) 31 #[.bool n, .int .u8 l, s, .bool m, .int .u8 k, t] := by rw [hw0]; have h := (CB.new w 31 #[.bool n, .int .u8 l, s, .bool m, .int .u8 k, t]).alloc (.cells #[.bool false, .slice none 0 0, .bool false, .slice none 0 0] 26); simpa using h
 have Lr2 : CB w0 (w.heap.size + 1) 26 #[.bool false, .slice none 0 0, .bool false, .slice none 0 0] := by rw [hw0]; have h := CB.new (w.alloc (.cells #[.bool n, .int .u8 l, s, .bool m, .int .u8 k, t] 31)) 26 #[.bool false, .slice none 0 0, .bool false, .slice none 0 0]; simpa using h
 replace HS := Lib.hid (RW.step HS.out B0.out); replace HT := Lib.hid (RW.step HT.out B0.out)
 go_enter Tryz.func23, Tryz.ntmps23
 go_upto_region 1 with (fail)
 rw [← hw0]; clear hw0
 refine Flow.run [⟨0, 3, fun fv fw => fv = .pointer (some ⟨w.heap.size, 0, none⟩)⟩, ⟨1, 4, fun fv fw => fv = .agg #[.bool n, .int .u8 l, s]⟩, ⟨2, 5, fun fv fw => LV fw fw.heap.size fv X⟩, ⟨3, 6, fun fv fw => fv = .pointer (some ⟨w.heap.size, 3, none⟩)⟩, ⟨4, 7, fun fv fw => fv = .agg #[.bool m, .int .u8 k, t]⟩, ⟨5, 8, fun fv fw => LV fw fw.heap.size fv Y⟩, ⟨6, 9, fun fv fw => ∃ q, QL 47 47 q ∧ QV fw fw.heap.size fv q⟩] [] [] 1 (by kernel_rfl) (by kernel_rfl) (by kernel_rfl) (fun _ _ _ _ _ h => h) ?_ ?_ ?_ ?_
 ·refine (all_cons (fun v w1 w2 h hb => h) (all_cons (fun v w1 w2 h hb => h) (all_cons (fun v w1 w2 h hb => h.step hb) (all_cons (fun v w1 w2 h hb => h) (all_cons (fun v w1 w2 h hb => h) (all_cons (fun v w1 w2 h hb => h.step hb) (all_cons (fun v w1 w2 h hb => let ⟨q, l, h⟩ := h; ⟨q, l, h.step hb⟩) all_nil)))))))
 ·refine (all_cons ?_ (all_cons ?_ (all_cons ?_ (all_cons ?_ (all_cons ?_ (all_cons ?_ (all_cons ?_ all_nil)))))))
  ·intro xs wk1 hBk hdep
   have HBk1 := Lib.hid hBk; have zk1 := hBk.size; clear hBk
   clear hdep
   refine wpOp_step (o := _) rfl (fun K hK => ?_)
   simp only [FL]
   go_simp
   refine hK _ _ ⟨.pointer (some ⟨w.heap.size, 0, none⟩), by kernel_rfl, Below.refl _ _, rfl, nF⟩
  ·intro xs wk2 hBk hdep
   have HBk2 := Lib.hid hBk; have zk2 := hBk.size; clear hBk
   have f0 : (xs 0) = .pointer (some ⟨w.heap.size, 0, none⟩) := hdep _ (m_ 0 rfl) (by kernel_rfl)
   clear hdep
   refine wpOp_step (o := _) rfl (fun K hK => ?_)
   simp only [FL]
   have Ld_3 := CB.step Ld HBk2.out
   have q4_0 := Ld_3.cell 0 rfl
   have q4_1 := Ld_3.cell 1 rfl
   have q4_2 := Ld_3.cell 2 rfl
   go_simp
   refine hK _ _ ⟨.agg #[.bool n, .int .u8 l, s], by simp only [FL, f0] <;> kernel_rfl, Below.refl _ _, rfl, nF⟩
  ·intro xs wk5 hBk hdep
   have HBk5 := Lib.hid hBk; have zk5 := hBk.size; clear hBk
   have f1 : (xs 1) = .agg #[.bool n, .int .u8 l, s] := hdep _ (m_ 1 rfl) (by kernel_rfl)
   clear hdep
   refine wpOp_step (o := _) rfl (fun K hK => ?_)
   simp only [FL]
   go_simp
   have Hs_6 := Lib.hid (RW.step HS.out HBk5.out)
   (with_reducible refine ((show Calls Tryz.prog _ _ _ _ from HX.out ▸ Long_any _ n l s ws HB.out.1 HB.out.2.1 Hs_6.out)).mono ?_)
   rintro e wc7 ⟨hb7, v7, rfl, hv7⟩
   refine hK _ _ ⟨v7, by simp only [FL, f1] <;> kernel_rfl, hb7, hv7, nF⟩
  ·intro xs wk8 hBk hdep
   have HBk8 := Lib.hid hBk; have zk8 := hBk.size; clear hBk
   clear hdep
   refine wpOp_step (o := _) rfl (fun K hK => ?_)
   simp only [FL]
   go_simp
   refine hK _ _ ⟨.pointer (some ⟨w.heap.size, 3, none⟩), by kernel_rfl, Below.refl _ _, rfl, nF⟩
  ·intro xs wk9 hBk hdep
   have HBk9 := Lib.hid hBk; have zk9 := hBk.size; clear hBk
   have f3 : (xs 3) = .pointer (some ⟨w.heap.size, 3, none⟩) := hdep _ (m_ 3 rfl) (by kernel_rfl)
   clear hdep
   refine wpOp_step (o := _) rfl (fun K hK => ?_)
   simp only [FL]
   have Ld_10 := CB.step Ld HBk9.out
   have q11_3 := Ld_10.cell 3 rfl
   have q11_4 := Ld_10.cell 4 rfl
   have q11_5 := Ld_10.cell 5 rfl
   go_simp
   refine hK _ _ ⟨.agg #[.bool m, .int .u8 k, t], by simp only [FL, f3] <;> kernel_rfl, Below.refl _ _, rfl, nF⟩
  ·intro xs wk12 hBk hdep
   have HBk12 := Lib.hid hBk; have zk12 := hBk.size; clear hBk
   have f4 : (xs 4) = .agg #[.bool m, .int .u8 k, t] := hdep _ (m_ 4 rfl) (by kernel_rfl)
   clear hdep
   refine wpOp_step (o := _) rfl (fun K hK => ?_)
   simp only [FL]
   go_simp
   have Ht_13 := Lib.hid (RW.step HT.out HBk12.out)
   (with_reducible refine ((show Calls Tryz.prog _ _ _ _ from HY.out ▸ Long_any _ m k t wt HB.out.2.2.1 HB.out.2.2.2 Ht_13.out)).mono ?_)
   rintro e wc14 ⟨hb14, v14, rfl, hv14⟩
   refine hK _ _ ⟨v14, by simp only [FL, f4] <;> kernel_rfl, hb14, hv14, nF⟩
  ·intro xs wk15 hBk hdep
   have HBk15 := Lib.hid hBk; have zk15 := hBk.size; clear hBk
   have f2 : LV wk15 wk15.heap.size (xs 2) X := hdep _ (m_ 2 rfl) (by kernel_rfl)
   have f5 : LV wk15 wk15.heap.size (xs 5) Y := hdep _ (m_ 5 rfl) (by kernel_rfl)
   clear hdep
   refine wpOp_step (o := _) rfl (fun K hK => ?_)
   simp only [FL]
   go_simp
   (with_reducible refine (Rof_any _ _ _ X Y f2 f5 HL.out.1 HL.out.2).mono ?_)
   rintro e wc16 ⟨hb16, q16, l16, v16, rfl, hv16⟩
   refine hK _ _ ⟨v16, by kernel_rfl, hb16, ⟨q16, l16, hv16⟩, nF⟩
 ·exact all_nil
 ·intro xs wf17 hbf hf hn hd
  have f0 : (xs 0) = .pointer (some ⟨w.heap.size, 0, none⟩) := hf _ (m_ 0 rfl)
  have f1 : (xs 1) = .agg #[.bool n, .int .u8 l, s] := hf _ (m_ 1 rfl)
  have f2 : LV wf17 wf17.heap.size (xs 2) X := hf _ (m_ 2 rfl)
  have f3 : (xs 3) = .pointer (some ⟨w.heap.size, 3, none⟩) := hf _ (m_ 3 rfl)
  have f4 : (xs 4) = .agg #[.bool m, .int .u8 k, t] := hf _ (m_ 4 rfl)
  have f5 : LV wf17 wf17.heap.size (xs 5) Y := hf _ (m_ 5 rfl)
  have f6 : ∃ q, QL 47 47 q ∧ QV wf17 wf17.heap.size (xs 6) q := hf _ (m_ 6 rfl)
  clear hf hn hd
  simp only [FL]
  have B18 := Lib.hid hbf
  have z18 := B18.out.size
  have HB19 := Lib.hid (B0.out.trans (B18.out.mono B0.out.size))
  clear hbf
  generalize xs 0 = x0 at *
  generalize xs 1 = x1 at *
  generalize xs 2 = x2 at *
  generalize xs 3 = x3 at *
  generalize xs 4 = x4 at *
  generalize xs 5 = x5 at *
  generalize xs 6 = x6 at *
  obtain rfl := f0
  obtain rfl := f1
  clear f2
  obtain rfl := f3
  obtain rfl := f4
  clear f5
  obtain ⟨q, hql, hqv⟩ := f6; have HQL := Lib.hid hql; clear hql
  obtain ⟨on20, oA20, ol20, oc20, oB20, om_20, od20, rfl, ha20, hb20, hc20⟩ := hqv
  have Hq_20 := Lib.hid (show QV wf17 wf17.heap.size (.agg #[.bool on20, .slice oA20 ol20 oc20, .bool false, .slice oB20 om_20 od20]) q from ⟨_, _, _, _, _, _, _, rfl, ha20, hb20, hc20⟩)
  clear ha20 hb20 hc20
  have Lr2_21 := CB.step Lr2 B18.out
  have q22_0 := Lr2_21.cell 0 rfl
  have q22_1 := Lr2_21.cell 1 rfl
  have q22_2 := Lr2_21.cell 2 rfl
  have q22_3 := Lr2_21.cell 3 rfl
  have q22_lt := Lr2_21.lt
  have q23_0 := Lr2_21.frozen 0
  have q23_1 := Lr2_21.frozen 1
  have q23_2 := Lr2_21.frozen 2
  have q23_3 := Lr2_21.frozen 3
  have q23_lt := Lr2_21.lt
  refine Early.next (i := 7) (by kernel_rfl) rfl (fun K hK => ?_)
  go_simp
  refine hK _ _ (fun _ => trivial) ?_
  clear hK K
  (try simp only [Act.put, List.setIfInBounds_toArray, List.set_cons_zero, List.set_cons_succ])
  clear q22_0 q22_1 q22_2 q22_3 q22_lt q23_0 q23_1 q23_2 q23_3 q23_lt
  refine Early.done (by kernel_rfl) ?_ _
  (try simp only [Exit.then])
  have Ld_24 := CB.step Ld B18.out
  obtain ⟨w25, hW25⟩ : ∃ w25 : World, w25 = ((((wf17.setCell ⟨w.heap.size + 1, 0, none⟩ (.bool on20)).setCell ⟨w.heap.size + 1, 1, none⟩ (.slice oA20 ol20 oc20)).setCell ⟨w.heap.size + 1, 2, none⟩ (.bool false)).setCell ⟨w.heap.size + 1, 3, none⟩ (.slice oB20 om_20 od20)) := ⟨_, rfl⟩
  rw [← hW25]
  have S25 := Lib.hid (show Soft wf17 w25 by rw [hW25]; exact (((CB.soft1 (Lr2_21) (by simp [noInt_b, noInt_s]) 0 (.bool on20)).trans (CB.soft1 ((show CB _ (w.heap.size + 1) 26 #[.bool on20, .slice none 0 0, .bool false, .slice none 0 0] from CB.set (Lr2_21) 0 (.bool on20))) (by simp [noInt_b, noInt_s]) 1 (.slice oA20 ol20 oc20))).trans (CB.soft1 ((show CB _ (w.heap.size + 1) 26 #[.bool on20, .slice oA20 ol20 oc20, .bool false, .slice none 0 0] from CB.set ((show CB _ (w.heap.size + 1) 26 #[.bool on20, .slice none 0 0, .bool false, .slice none 0 0] from CB.set (Lr2_21) 0 (.bool on20))) 1 (.slice oA20 ol20 oc20))) (by simp [noInt_b, noInt_s]) 2 (.bool false))).trans (CB.soft1 ((show CB _ (w.heap.size + 1) 26 #[.bool on20, .slice oA20 ol20 oc20, .bool false, .slice none 0 0] from CB.set ((show CB _ (w.heap.size + 1) 26 #[.bool on20, .slice oA20 ol20 oc20, .bool false, .slice none 0 0] from CB.set ((show CB _ (w.heap.size + 1) 26 #[.bool on20, .slice none 0 0, .bool false, .slice none 0 0] from CB.set (Lr2_21) 0 (.bool on20))) 1 (.slice oA20 ol20 oc20))) 2 (.bool false))) (by simp [noInt_b, noInt_s]) 3 (.slice oB20 om_20 od20)))
  have Ld_25 : CB w25 (w.heap.size) 31 #[.bool n, .int .u8 l, s, .bool m, .int .u8 k, t] := by rw [hW25]; exact CB.far (p := ⟨w.heap.size + 1, 3, none⟩) (CB.far (p := ⟨w.heap.size + 1, 2, none⟩) (CB.far (p := ⟨w.heap.size + 1, 1, none⟩) (CB.far (p := ⟨w.heap.size + 1, 0, none⟩) (Ld_24) (show w.heap.size ≠ w.heap.size + 1 from by omega) _) (show w.heap.size ≠ w.heap.size + 1 from by omega) _) (show w.heap.size ≠ w.heap.size + 1 from by omega) _) (show w.heap.size ≠ w.heap.size + 1 from by omega) _
  have Lr2_25 : CB w25 (w.heap.size + 1) 26 #[.bool on20, .slice oA20 ol20 oc20, .bool false, .slice oB20 om_20 od20] := by rw [hW25]; exact (show CB _ (w.heap.size + 1) 26 #[.bool on20, .slice oA20 ol20 oc20, .bool false, .slice oB20 om_20 od20] from CB.set ((show CB _ (w.heap.size + 1) 26 #[.bool on20, .slice oA20 ol20 oc20, .bool false, .slice none 0 0] from CB.set ((show CB _ (w.heap.size + 1) 26 #[.bool on20, .slice oA20 ol20 oc20, .bool false, .slice none 0 0] from CB.set ((show CB _ (w.heap.size + 1) 26 #[.bool on20, .slice none 0 0, .bool false, .slice none 0 0] from CB.set (Lr2_21) 0 (.bool on20))) 1 (.slice oA20 ol20 oc20))) 2 (.bool false))) 3 (.slice oB20 om_20 od20))
  have HBP25 := Lib.hid (show Below w.heap.size w w25 by rw [hW25]; exact below_set1 (below_set1 (below_set1 (below_set1 (HB19.out) (by omega) _ _) (by omega) _ _) (by omega) _ _) (by omega) _ _)
  have zw25 : w25.heap.size = wf17.heap.size := by rw [hW25]; simp [World.setCell]
  clear hW25
  go_wp2
  have Hq_26 := Lib.hid (QV.soft Hq_20.out (S25.out))
  exact bodyPost_ret (QB.ret1 rfl _ Lr2_25 rfl) rfl ⟨HBP25.out, q, HQL.out, _, rfl, Hq_26.out⟩
end Go.Proofs.YtioclokmbgmamaaGreatDoor
