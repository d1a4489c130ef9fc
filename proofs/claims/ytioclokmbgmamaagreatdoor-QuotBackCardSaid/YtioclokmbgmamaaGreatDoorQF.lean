/- Layer 04: floor, made (written by gen_qf.py). -/
import Derived.Test.YtioclokmbgmamaaGreatDoorQE
namespace Go.Proofs.YtioclokmbgmamaaGreatDoor
open Go Go.RowKit Dig
theorem QO.cells {w : World} {B : Nat} {v : Value} {o : Option Rat} (h : QO w B v o) : ∃ n A l c m A' l' c', v = .agg #[.bool n, .slice A l c, .bool m, .slice A' l' c'] := by
 cases o with
 | some q => obtain ⟨n, A, l, c, A', l', c', e, -⟩ := h; exact ⟨_, _, _, _, _, _, _, _, e⟩
 | none => obtain ⟨A, l, c, A', l', c', e, -⟩ := h; exact ⟨_, _, _, _, _, _, _, _, e⟩
theorem QO.soft {w w' : World} {v : Value} {o : Option Rat} (h : QO w w.heap.size v o) (hs : Soft w w') : QO w' w'.heap.size v o := by
 cases o with
 | some q => exact QV.soft h hs
 | none => exact QR.soft h hs
theorem WB.ret {w : World} {b : Nat} {fn : Func} {p k : Tmp} {c0 c1 : Value} (hf : fn.results = #[.cell p 93, .tmp k]) (tmps : Array Value) (h : CB w b 93 #[c0, c1]) (hp : tmps.getD p undef = .pointer (some ⟨b, 0, none⟩)) :
  (results fn tmps).run Tryz.prog w = .ok (.tuple #[.agg #[c0, c1], tmps.getD k undef]) w := by
 rw [results_cell_tmp hf, hp]
 simp [asAddr, run_loadVar_row w b _ 93 #[c0, c1] (0, 0) _ h Tryz.underlying93 rfl (by kernel_rfl)]
theorem GB.ret {w : World} {b : Nat} {fn : Func} {p k : Tmp} {c0 c1 : Value} (hf : fn.results = #[.cell p 24, .tmp k]) (tmps : Array Value) (h : CB w b 24 #[c0, c1]) (hp : tmps.getD p undef = .pointer (some ⟨b, 0, none⟩)) :
  (results fn tmps).run Tryz.prog w = .ok (.tuple #[.agg #[c0, c1], tmps.getD k undef]) w := by
 rw [results_cell_tmp hf, hp]
 simp [asAddr, run_loadVar_row w b _ 24 #[c0, c1] (0, 0) _ h Tryz.underlying24 rfl (by kernel_rfl)]
theorem SB.ret {w : World} {b : Nat} {fn : Func} {p k : Tmp} {c0 c1 : Value} (hf : fn.results = #[.cell p 52, .tmp k]) (tmps : Array Value) (h : CB w b 52 #[c0, c1]) (hp : tmps.getD p undef = .pointer (some ⟨b, 0, none⟩)) :
  (results fn tmps).run Tryz.prog w = .ok (.tuple #[.agg #[c0, c1], tmps.getD k undef]) w := by
 rw [results_cell_tmp hf, hp]
 simp [asAddr, run_loadVar_row w b _ 52 #[c0, c1] (0, 0) _ h Tryz.underlying52 rfl (by kernel_rfl)]
theorem floor_exact {z : Int} {d : Nat} (hr : z.natAbs % d = 0) : (z / (d : Int)).natAbs = z.natAbs / d ∧ z % (d : Int) = 0 := by
 have h1 : (d : Int) ∣ z := Int.ofNat_dvd_left.2 (Nat.dvd_of_mod_eq_zero hr)
 exact ⟨natAbs_ediv_nat h1, Int.emod_eq_zero_of_dvd h1⟩
theorem floor_up {z : Int} {d : Nat} (hz : 0 ≤ z) : (z / (d : Int)).natAbs = z.natAbs / d ∧ 0 ≤ z / (d : Int) ∧ ((z % (d : Int) = 0) ↔ z.natAbs % d = 0) := by
 obtain ⟨n, rfl⟩ := Int.eq_ofNat_of_zero_le hz
 refine ⟨by rw [Int.natAbs_natCast, ← Int.natCast_ediv, Int.natAbs_natCast], Int.ediv_nonneg hz (by omega), ?_⟩
 rw [Int.natAbs_natCast, ← Int.natCast_emod]
 constructor <;> intro h <;> omega
theorem floor_down {z : Int} {d : Nat} (hd : d ≠ 0) (hz : z < 0) (hr : z.natAbs % d ≠ 0) : z / (d : Int) = -((z.natAbs / d + 1 : Nat) : Int) ∧ z % (d : Int) ≠ 0 := by
 have h1 := Nat.div_add_mod z.natAbs d
 have h2 := Nat.mod_lt z.natAbs (Nat.pos_of_ne_zero hd)
 generalize z.natAbs / d = q at *
 generalize z.natAbs % d = r at *
 have h3 : z = -((d * q + r : Nat) : Int) := by omega
 have h4 : z / (d : Int) = -((q : Int) + 1) ∧ z % (d : Int) = (d : Int) - r := by
  refine (Int.ediv_emod_unique (by omega)).2 ⟨?_, by omega, by omega⟩
  rw [h3, Int.mul_neg, Int.mul_add, Int.mul_one]; simp only [Int.natCast_add, Int.natCast_mul]; omega
 exact ⟨by rw [h4.1]; simp, by rw [h4.2]; omega⟩
def RetF (w' : World) (z : Int) (d : Nat) (e : Ending) : Prop := ∃ v, e = .returned (.tuple #[v, .bool (decide (z % (d : Int) ≠ 0))]) ∧ WV w' w'.heap.size v (z / (d : Int))
set_option maxRecDepth 100000 in
set_option maxHeartbeats 4000000 in
theorem floor_any (w : World) (v : Value) (z : Int) (d : Nat) (h : TV w w.heap.size v z d) (hd : d ≠ 0) (hl : (dig z.natAbs).length ≤ 100000) :
  Calls Tryz.prog 65 #[v] w fun e w' => Below w.heap.size w w' ∧ RetF w' z d e := by
 obtain ⟨n, A, l, c, A', l', c', rfl, Ha, Hd, hn⟩ := h
 obtain ⟨q, hq⟩ : ∃ q, q = z.natAbs / d := ⟨_, rfl⟩; obtain ⟨r, hr⟩ : ∃ r, r = z.natAbs % d := ⟨_, rfl⟩
 have HQ := Lib.hid hq; have HR := Lib.hid hr; have HD := Lib.hid hd; have HL := Lib.hid hl; have HN := Lib.hid hn
 replace Ha := Lib.hid Ha; replace Hd := Lib.hid Hd; clear hq hr hd hl hn
 obtain ⟨w0, hw0⟩ : ∃ w0 : World, w0 = ((w.alloc (.cells #[.bool n, .slice A l c, .slice A' l' c'] 95)).alloc (.cells #[.bool false, .slice none 0 0] 93)) := ⟨_, rfl⟩
 have B0 := Lib.hid (show Below w.heap.size w w0 by rw [hw0]; (repeat' (first | exact Below.refl _ _ | refine Below.drew ?_ | refine Below.alloc ?_ (by first | exact Nat.le_refl _ | (simp; done) | (simp; omega)) _)))
 have z0 : w.heap.size + 2 ≤ w0.heap.size := by rw [hw0]; simp
 have Lr : CB w0 (w.heap.size) 95 #[.bool n, .slice A l c, .slice A' l' c'] := by rw [hw0]; have h := (CB.new w 95 #[.bool n, .slice A l c, .slice A' l' c']).alloc (.cells #[.bool false, .slice none 0 0] 93); simpa using h
 have Lr2 : CB w0 (w.heap.size + 1) 93 #[.bool false, .slice none 0 0] := by rw [hw0]; have h := CB.new (w.alloc (.cells #[.bool n, .slice A l c, .slice A' l' c'] 95)) 93 #[.bool false, .slice none 0 0]; simpa using h
 replace Ha := Lib.hid (RN.stepN Ha.out B0.out); replace Hd := Lib.hid (RN.stepN Hd.out B0.out)
 go_enter Tryz.func65, Tryz.ntmps65
 go_wp2
 go_step3
 rw [← hw0]; clear hw0
 have q2_0 := Lr.cell 0 rfl
 have q2_1 := Lr.cell 1 rfl
 have q2_2 := Lr.cell 2 rfl
 have q2_lt := Lr.lt
 go_wp2_with fail
 refine (Over_any _ _ _ z.natAbs d Ha.out Hd.out HD.out HL.out).mono ?_
 rintro e w1 ⟨hb1, vq, vr, rfl, hvq, hvr⟩
 have B3 := Lib.hid hb1
 have z3 := B3.out.size
 have HB4 := Lib.hid (B0.out.trans (B3.out.mono B0.out.size))
 clear hb1
 clear q2_0 q2_1 q2_2 q2_lt
 rw [← HQ.out] at hvq; rw [← HR.out] at hvr
 obtain ⟨Q, cq, rfl, -⟩ := hvq.cell; obtain ⟨R, cr, rfl, -⟩ := hvr.cell
 have Hq := Lib.hid hvq; have Hr := Lib.hid hvr; clear hvq hvr
 have hlr : (dig r).length = 0 ↔ r = 0 := dig_nil
 by_cases hr0 : r = 0
 ·have hr1 : (((dig r).length : Int) == 0) = true := by rw [beq_iff_eq]; have := hlr.2 hr0; omega
  have hr2 : decide (0 < (dig r).length) = false := by rw [decide_eq_false]; have := hlr.2 hr0; omega
  have HF := Lib.hid (floor_exact (d := d) (by rw [← HR.out]; exact hr0)); clear hr0 hlr
  have Lr_5 := CB.step Lr B3.out
  have q6_0 := Lr_5.cell 0 rfl
  have q6_1 := Lr_5.cell 1 rfl
  have q6_2 := Lr_5.cell 2 rfl
  have q6_lt := Lr_5.lt
  go_wp2
  clear q6_0 q6_1 q6_2 q6_lt
  obtain ⟨w7, hW7⟩ : ∃ w7 : World, w7 = (w1.alloc (.cells #[.bool n, .slice Q (dig q).length cq] 93)) := ⟨_, rfl⟩; rw [← hW7]
  have hb7 : Below w1.heap.size w1 w7 := by rw [hW7]; (repeat' (first | exact Below.refl _ _ | refine Below.drew ?_ | refine Below.alloc ?_ (by first | exact Nat.le_refl _ | (simp; done) | (simp; omega)) _))
  have Lout_7 : CB w7 (w1.heap.size) 93 #[.bool n, .slice Q (dig q).length cq] := by rw [hW7]; have h := CB.new w1 93 #[.bool n, .slice Q (dig q).length cq]; simpa using h
  have za7 : w1.heap.size + 1 ≤ w7.heap.size := by rw [hW7]; simp
  have B8 := Lib.hid hb7
  have z8 := B8.out.size
  have HB9 := Lib.hid (HB4.out.trans (B8.out.mono HB4.out.size))
  clear hb7 hW7
  go_step3
  have Lr_10 := CB.step Lr_5 B8.out
  have q11_0 := Lr_10.cell 0 rfl
  have q11_1 := Lr_10.cell 1 rfl
  have q11_2 := Lr_10.cell 2 rfl
  have q11_lt := Lr_10.lt
  have Hq_12 := Lib.hid (RN.step Hq.out B8.out)
  have P1_3_14 := Lib.hid (B3.out.trans (B8.out.mono B3.out.size))
  have Lr2_13 := CB.step Lr2 P1_3_14.out
  have q15_0 := Lr2_13.cell 0 rfl
  have q15_1 := Lr2_13.cell 1 rfl
  have q15_lt := Lr2_13.lt
  have q16_0 := Lout_7.cell 0 rfl
  have q16_1 := Lout_7.cell 1 rfl
  have q16_lt := Lout_7.lt
  have q17_0 := Lr2_13.frozen 0
  have q17_1 := Lr2_13.frozen 1
  have q17_lt := Lr2_13.lt
  go_wp2
  clear q11_0 q11_1 q11_2 q11_lt q15_0 q15_1 q15_lt q16_0 q16_1 q16_lt q17_0 q17_1 q17_lt
  have HV := Lib.hid (show WV w7 w7.heap.size (.agg #[.bool n, .slice Q (dig q).length cq]) (z / (d : Int)) from WV.mk (by rw [HF.out.1, ← HQ.out]; exact Hq_12.out) (wred HN.out (Int.dvd_of_emod_eq_zero HF.out.2) HD.out).2)
  obtain ⟨w18, hW18⟩ : ∃ w18 : World, w18 = ((w7.setCell ⟨w.heap.size + 1, 0, none⟩ (.bool n)).setCell ⟨w.heap.size + 1, 1, none⟩ (.slice Q (dig q).length cq)) := ⟨_, rfl⟩
  rw [← hW18]
  have S18 := Lib.hid (show Soft w7 w18 by rw [hW18]; exact (CB.soft1 (Lr2_13) (by simp [noInt_b, noInt_s]) 0 (.bool n)).trans (CB.soft1 ((show CB _ (w.heap.size + 1) 93 #[.bool n, .slice none 0 0] from CB.set (Lr2_13) 0 (.bool n))) (by simp [noInt_b, noInt_s]) 1 (.slice Q (dig q).length cq)))
  have Lout_18 : CB w18 (w1.heap.size) 93 #[.bool n, .slice Q (dig q).length cq] := by rw [hW18]; exact CB.far (p := ⟨w.heap.size + 1, 1, none⟩) (CB.far (p := ⟨w.heap.size + 1, 0, none⟩) (Lout_7) (show w1.heap.size ≠ w.heap.size + 1 from by omega) _) (show w1.heap.size ≠ w.heap.size + 1 from by omega) _
  have Lr_18 : CB w18 (w.heap.size) 95 #[.bool n, .slice A l c, .slice A' l' c'] := by rw [hW18]; exact CB.far (p := ⟨w.heap.size + 1, 1, none⟩) (CB.far (p := ⟨w.heap.size + 1, 0, none⟩) (Lr_10) (show w.heap.size ≠ w.heap.size + 1 from by omega) _) (show w.heap.size ≠ w.heap.size + 1 from by omega) _
  have Lr2_18 : CB w18 (w.heap.size + 1) 93 #[.bool n, .slice Q (dig q).length cq] := by rw [hW18]; exact (show CB _ (w.heap.size + 1) 93 #[.bool n, .slice Q (dig q).length cq] from CB.set ((show CB _ (w.heap.size + 1) 93 #[.bool n, .slice none 0 0] from CB.set (Lr2_13) 0 (.bool n))) 1 (.slice Q (dig q).length cq))
  have HBP18 := Lib.hid (show Below w.heap.size w w18 by rw [hW18]; exact below_set1 (below_set1 (HB9.out) (by omega) _ _) (by omega) _ _)
  have zw18 : w18.heap.size = w7.heap.size := by rw [hW18]; simp [World.setCell]
  clear hW18
  have HBIT := Lib.hid (show decide (z % (d : Int) ≠ 0) = false from by rw [decide_eq_false]; exact fun h => h HF.out.2)
  rw [Exit.noGoto_ret]
  have Hres_19 := Lib.hid (WV.soft HV.out (S18.out))
  exact bodyPost_ret (WB.ret rfl _ Lr2_18 rfl) rfl ⟨HBP18.out, _, by rw [HBIT.out]; rfl, Hres_19.out⟩
 ·have hr1 : (((dig r).length : Int) == 0) = false := by rw [beq_eq_false_iff_ne]; have := mt hlr.1 hr0; omega
  have hr2 : decide (0 < (dig r).length) = true := by rw [decide_eq_true_eq]; have := mt hlr.1 hr0; omega
  have HR0 := Lib.hid hr0; clear hlr hr0
  have hz : z ≠ 0 := fun h => HR0.out (by rw [HR.out, h]; simp)
  by_cases hz0 : z < 0
  ·have hn1 : n = true := by rw [HN.out hz, decide_eq_true hz0]
   subst hn1; have HF := Lib.hid (floor_down HD.out hz0 (by rw [← HR.out]; exact HR0.out)); clear hz hz0
   have Lr_20 := CB.step Lr B3.out
   have q21_0 := Lr_20.cell 0 rfl
   have q21_1 := Lr_20.cell 1 rfl
   have q21_2 := Lr_20.cell 2 rfl
   have q21_lt := Lr_20.lt
   go_wp2
   clear q21_0 q21_1 q21_2 q21_lt
   obtain ⟨w22, hW22⟩ : ∃ w22 : World, w22 = (w1.alloc (.cells #[.bool true, .slice Q (dig q).length cq] 93)) := ⟨_, rfl⟩; rw [← hW22]
   have hb22 : Below w1.heap.size w1 w22 := by rw [hW22]; (repeat' (first | exact Below.refl _ _ | refine Below.drew ?_ | refine Below.alloc ?_ (by first | exact Nat.le_refl _ | (simp; done) | (simp; omega)) _))
   have Lout_22 : CB w22 (w1.heap.size) 93 #[.bool true, .slice Q (dig q).length cq] := by rw [hW22]; have h := CB.new w1 93 #[.bool true, .slice Q (dig q).length cq]; simpa using h
   have za22 : w1.heap.size + 1 ≤ w22.heap.size := by rw [hW22]; simp
   have B23 := Lib.hid hb22
   have z23 := B23.out.size
   have HB24 := Lib.hid (HB4.out.trans (B23.out.mono HB4.out.size))
   clear hb22 hW22
   go_step3
   have Lr_25 := CB.step Lr_20 B23.out
   have q26_0 := Lr_25.cell 0 rfl
   have q26_1 := Lr_25.cell 1 rfl
   have q26_2 := Lr_25.cell 2 rfl
   have q26_lt := Lr_25.lt
   go_wp2_with fail
   refine (one_any _).mono ?_
   rintro e w27 ⟨hb27, vo, rfl, ho⟩
   have B28 := Lib.hid hb27
   have z28 := B28.out.size
   have HB29 := Lib.hid (HB24.out.trans (B28.out.mono HB24.out.size))
   clear hb27
   clear q26_0 q26_1 q26_2 q26_lt
   obtain ⟨O, co, rfl, -⟩ := ho.cell; have Ho := Lib.hid ho; clear ho
   go_wp2_with fail
   have P2_4_31 := Lib.hid (B23.out.trans (B28.out.mono B23.out.size))
   have Hq_32 := Lib.hid (RN.step Hq.out P2_4_31.out)
   refine (Plus_any _ _ _ q 1 Hq_32.out Ho.out (by have := HL.out; have h1 := HQ.out; have := dig_len_mono (show q ≤ z.natAbs by rw [h1]; exact Nat.div_le_self _ _); omega) (by rw [dig1]; simp)).mono ?_
   rintro e w30 ⟨hb30, vp, rfl, hp⟩
   have B33 := Lib.hid hb30
   have z33 := B33.out.size
   have HB34 := Lib.hid (HB29.out.trans (B33.out.mono HB29.out.size))
   clear hb30
   obtain ⟨S, cs, rfl, -⟩ := hp.cell; have Hp := Lib.hid hp; clear hp
   have P3_5_36 := Lib.hid (B28.out.trans (B33.out.mono B28.out.size))
   have Lout_35 := CB.step Lout_22 P3_5_36.out
   have q37_0 := Lout_35.cell 0 rfl
   have q37_1 := Lout_35.cell 1 rfl
   have q37_lt := Lout_35.lt
   have q38_0 := Lout_35.frozen 0
   have q38_1 := Lout_35.frozen 1
   have q38_lt := Lout_35.lt
   go_upto_region 6 with (fail)
   clear q37_0 q37_1 q37_lt q38_0 q38_1 q38_lt
   have Lr_39 := CB.step Lr_25 P3_5_36.out
   have P1_3_41 := Lib.hid (B3.out.trans (B23.out.mono B3.out.size))
   have P1_4_42 := Lib.hid (P1_3_41.out.trans (B28.out.mono P1_3_41.out.size))
   have P1_5_43 := Lib.hid (P1_4_42.out.trans (B33.out.mono P1_4_42.out.size))
   have Lr2_40 := CB.step Lr2 P1_5_43.out
   obtain ⟨w44, hW44⟩ : ∃ w44 : World, w44 = (w30.setCell ⟨w1.heap.size, 1, none⟩ (.slice S (dig (q + 1)).length cs)) := ⟨_, rfl⟩
   rw [← hW44]
   have S44 := Lib.hid (show Soft w30 w44 by rw [hW44]; exact CB.soft1 (Lout_35) (by simp [noInt_b, noInt_s]) 1 (.slice S (dig (q + 1)).length cs))
   have Lr_44 : CB w44 (w.heap.size) 95 #[.bool true, .slice A l c, .slice A' l' c'] := by rw [hW44]; exact CB.far (p := ⟨w1.heap.size, 1, none⟩) (Lr_39) (show w.heap.size ≠ w1.heap.size from by omega) _
   have Lr2_44 : CB w44 (w.heap.size + 1) 93 #[.bool false, .slice none 0 0] := by rw [hW44]; exact CB.far (p := ⟨w1.heap.size, 1, none⟩) (Lr2_40) (show w.heap.size + 1 ≠ w1.heap.size from by omega) _
   have Lout_44 : CB w44 (w1.heap.size) 93 #[.bool true, .slice S (dig (q + 1)).length cs] := by rw [hW44]; exact (show CB _ (w1.heap.size) 93 #[.bool true, .slice S (dig (q + 1)).length cs] from CB.set (Lout_35) 1 (.slice S (dig (q + 1)).length cs))
   have HBP44 := Lib.hid (show Below w.heap.size w w44 by rw [hW44]; exact below_set1 (HB34.out) (by omega) _ _)
   have zw44 : w44.heap.size = w30.heap.size := by rw [hW44]; simp [World.setCell]
   clear hW44
   have Hp_45 := Lib.hid (RN.soft Hp.out (S44.out))
   have q46_0 := Lr2_44.cell 0 rfl
   have q46_1 := Lr2_44.cell 1 rfl
   have q46_lt := Lr2_44.lt
   have q47_0 := Lout_44.cell 0 rfl
   have q47_1 := Lout_44.cell 1 rfl
   have q47_lt := Lout_44.lt
   have q48_0 := Lr2_44.frozen 0
   have q48_1 := Lr2_44.frozen 1
   have q48_lt := Lr2_44.lt
   go_wp2
   clear q46_0 q46_1 q46_lt q47_0 q47_1 q47_lt q48_0 q48_1 q48_lt
   have HV := Lib.hid (show WV w44 w44.heap.size (.agg #[.bool true, .slice S (dig (q + 1)).length cs]) (z / (d : Int)) from WV.mk (by rw [HF.out.1, Int.natAbs_neg, Int.natAbs_natCast, ← HQ.out]; exact Hp_45.out) (fun _ => by rw [HF.out.1]; generalize z.natAbs / d = u; exact (decide_eq_true (by omega)).symm))
   obtain ⟨w49, hW49⟩ : ∃ w49 : World, w49 = ((w44.setCell ⟨w.heap.size + 1, 0, none⟩ (.bool true)).setCell ⟨w.heap.size + 1, 1, none⟩ (.slice S (dig (q + 1)).length cs)) := ⟨_, rfl⟩
   rw [← hW49]
   have S49 := Lib.hid (show Soft w44 w49 by rw [hW49]; exact (CB.soft1 (Lr2_44) (by simp [noInt_b, noInt_s]) 0 (.bool true)).trans (CB.soft1 ((show CB _ (w.heap.size + 1) 93 #[.bool true, .slice none 0 0] from CB.set (Lr2_44) 0 (.bool true))) (by simp [noInt_b, noInt_s]) 1 (.slice S (dig (q + 1)).length cs)))
   have Lout_49 : CB w49 (w1.heap.size) 93 #[.bool true, .slice S (dig (q + 1)).length cs] := by rw [hW49]; exact CB.far (p := ⟨w.heap.size + 1, 1, none⟩) (CB.far (p := ⟨w.heap.size + 1, 0, none⟩) (Lout_44) (show w1.heap.size ≠ w.heap.size + 1 from by omega) _) (show w1.heap.size ≠ w.heap.size + 1 from by omega) _
   have Lr_49 : CB w49 (w.heap.size) 95 #[.bool true, .slice A l c, .slice A' l' c'] := by rw [hW49]; exact CB.far (p := ⟨w.heap.size + 1, 1, none⟩) (CB.far (p := ⟨w.heap.size + 1, 0, none⟩) (Lr_44) (show w.heap.size ≠ w.heap.size + 1 from by omega) _) (show w.heap.size ≠ w.heap.size + 1 from by omega) _
   have Lr2_49 : CB w49 (w.heap.size + 1) 93 #[.bool true, .slice S (dig (q + 1)).length cs] := by rw [hW49]; exact (show CB _ (w.heap.size + 1) 93 #[.bool true, .slice S (dig (q + 1)).length cs] from CB.set ((show CB _ (w.heap.size + 1) 93 #[.bool true, .slice none 0 0] from CB.set (Lr2_44) 0 (.bool true))) 1 (.slice S (dig (q + 1)).length cs))
   have HBP49 := Lib.hid (show Below w.heap.size w w49 by rw [hW49]; exact below_set1 (below_set1 (HBP44.out) (by omega) _ _) (by omega) _ _)
   have zw49 : w49.heap.size = w44.heap.size := by rw [hW49]; simp [World.setCell]
   clear hW49
   have HBIT := Lib.hid (show decide (z % (d : Int) ≠ 0) = true from by rw [decide_eq_true]; exact HF.out.2)
   rw [Exit.noGoto_ret]
   have Hres_50 := Lib.hid (WV.soft HV.out (S49.out))
   exact bodyPost_ret (WB.ret rfl _ Lr2_49 rfl) rfl ⟨HBP49.out, _, by rw [HBIT.out]; rfl, Hres_50.out⟩
  ·have hn1 : n = false := by rw [HN.out hz, decide_eq_false hz0]
   subst hn1; have HF := Lib.hid (floor_up (d := d) (show 0 ≤ z by omega)); clear hz hz0
   have Lr_51 := CB.step Lr B3.out
   have q52_0 := Lr_51.cell 0 rfl
   have q52_1 := Lr_51.cell 1 rfl
   have q52_2 := Lr_51.cell 2 rfl
   have q52_lt := Lr_51.lt
   go_wp2
   clear q52_0 q52_1 q52_2 q52_lt
   obtain ⟨w53, hW53⟩ : ∃ w53 : World, w53 = (w1.alloc (.cells #[.bool false, .slice Q (dig q).length cq] 93)) := ⟨_, rfl⟩; rw [← hW53]
   have hb53 : Below w1.heap.size w1 w53 := by rw [hW53]; (repeat' (first | exact Below.refl _ _ | refine Below.drew ?_ | refine Below.alloc ?_ (by first | exact Nat.le_refl _ | (simp; done) | (simp; omega)) _))
   have Lout_53 : CB w53 (w1.heap.size) 93 #[.bool false, .slice Q (dig q).length cq] := by rw [hW53]; have h := CB.new w1 93 #[.bool false, .slice Q (dig q).length cq]; simpa using h
   have za53 : w1.heap.size + 1 ≤ w53.heap.size := by rw [hW53]; simp
   have B54 := Lib.hid hb53
   have z54 := B54.out.size
   have HB55 := Lib.hid (HB4.out.trans (B54.out.mono HB4.out.size))
   clear hb53 hW53
   go_step3
   have Lr_56 := CB.step Lr_51 B54.out
   have q57_0 := Lr_56.cell 0 rfl
   have q57_1 := Lr_56.cell 1 rfl
   have q57_2 := Lr_56.cell 2 rfl
   have q57_lt := Lr_56.lt
   have Hq_58 := Lib.hid (RN.step Hq.out B54.out)
   have P1_3_60 := Lib.hid (B3.out.trans (B54.out.mono B3.out.size))
   have Lr2_59 := CB.step Lr2 P1_3_60.out
   have q61_0 := Lr2_59.cell 0 rfl
   have q61_1 := Lr2_59.cell 1 rfl
   have q61_lt := Lr2_59.lt
   have q62_0 := Lout_53.cell 0 rfl
   have q62_1 := Lout_53.cell 1 rfl
   have q62_lt := Lout_53.lt
   have q63_0 := Lr2_59.frozen 0
   have q63_1 := Lr2_59.frozen 1
   have q63_lt := Lr2_59.lt
   go_wp2
   clear q57_0 q57_1 q57_2 q57_lt q61_0 q61_1 q61_lt q62_0 q62_1 q62_lt q63_0 q63_1 q63_lt
   have HV := Lib.hid (show WV w53 w53.heap.size (.agg #[.bool false, .slice Q (dig q).length cq]) (z / (d : Int)) from WV.mk (by rw [HF.out.1, ← HQ.out]; exact Hq_58.out) (fun _ => by rw [decide_eq_false]; have := HF.out.2.1; omega))
   obtain ⟨w64, hW64⟩ : ∃ w64 : World, w64 = ((w53.setCell ⟨w.heap.size + 1, 0, none⟩ (.bool false)).setCell ⟨w.heap.size + 1, 1, none⟩ (.slice Q (dig q).length cq)) := ⟨_, rfl⟩
   rw [← hW64]
   have S64 := Lib.hid (show Soft w53 w64 by rw [hW64]; exact (CB.soft1 (Lr2_59) (by simp [noInt_b, noInt_s]) 0 (.bool false)).trans (CB.soft1 ((show CB _ (w.heap.size + 1) 93 #[.bool false, .slice none 0 0] from CB.set (Lr2_59) 0 (.bool false))) (by simp [noInt_b, noInt_s]) 1 (.slice Q (dig q).length cq)))
   have Lout_64 : CB w64 (w1.heap.size) 93 #[.bool false, .slice Q (dig q).length cq] := by rw [hW64]; exact CB.far (p := ⟨w.heap.size + 1, 1, none⟩) (CB.far (p := ⟨w.heap.size + 1, 0, none⟩) (Lout_53) (show w1.heap.size ≠ w.heap.size + 1 from by omega) _) (show w1.heap.size ≠ w.heap.size + 1 from by omega) _
   have Lr_64 : CB w64 (w.heap.size) 95 #[.bool false, .slice A l c, .slice A' l' c'] := by rw [hW64]; exact CB.far (p := ⟨w.heap.size + 1, 1, none⟩) (CB.far (p := ⟨w.heap.size + 1, 0, none⟩) (Lr_56) (show w.heap.size ≠ w.heap.size + 1 from by omega) _) (show w.heap.size ≠ w.heap.size + 1 from by omega) _
   have Lr2_64 : CB w64 (w.heap.size + 1) 93 #[.bool false, .slice Q (dig q).length cq] := by rw [hW64]; exact (show CB _ (w.heap.size + 1) 93 #[.bool false, .slice Q (dig q).length cq] from CB.set ((show CB _ (w.heap.size + 1) 93 #[.bool false, .slice none 0 0] from CB.set (Lr2_59) 0 (.bool false))) 1 (.slice Q (dig q).length cq))
   have HBP64 := Lib.hid (show Below w.heap.size w w64 by rw [hW64]; exact below_set1 (below_set1 (HB55.out) (by omega) _ _) (by omega) _ _)
   have zw64 : w64.heap.size = w53.heap.size := by rw [hW64]; simp [World.setCell]
   clear hW64
   have HBIT := Lib.hid (show decide (z % (d : Int) ≠ 0) = true from by rw [decide_eq_true]; exact fun h => HR0.out (by rw [HR.out]; exact HF.out.2.2.1 h))
   rw [Exit.noGoto_ret]
   have Hres_65 := Lib.hid (WV.soft HV.out (S64.out))
   exact bodyPost_ret (WB.ret rfl _ Lr2_64 rfl) rfl ⟨HBP64.out, _, by rw [HBIT.out]; rfl, Hres_65.out⟩
theorem madeI_any (w : World) (n e : Int) :
  Calls Tryz.prog 62 #[.int .i64 n, .int .i64 e] w fun r w' => Below w.heap.size w w' ∧ r = .returned (.tuple #[.int .i64 (if e = 0 then n else 0), .int .i64 e]) := by
 by_cases he : e = 0
 ·subst he
  rw [if_pos rfl]
  go_enter Tryz.func62, Tryz.ntmps62
  go_wp2
  go_ret2
  exact ⟨Below.refl _ _, rfl⟩
 ·have he0 : (e == 0) = false := by rw [beq_eq_false_iff_ne]; exact he
  rw [if_neg he]
  clear he
  go_enter Tryz.func62, Tryz.ntmps62
  go_wp2
  go_ret2
  exact ⟨Below.refl _ _, rfl⟩
set_option maxRecDepth 100000 in
set_option maxHeartbeats 4000000 in
theorem madeG_yes (w : World) (n : Bool) (A : Option Addr) (l c : Nat) :
  Calls Tryz.prog 68 #[.agg #[.bool n, .slice A l c], .int .i64 0] w fun e w' => Below w.heap.size w w' ∧ e = .returned (.tuple #[.agg #[.bool n, .slice A l c], .int .i64 0]) := by
 have HB := Lib.hid (below_alloc1 (below_alloc1 (Below.refl w.heap.size w) (.cells #[.bool n, .slice A l c] 24)) (.cells #[.bool n, .slice A l c] 24))
 have HC := Lib.hid (show CB ((w.alloc (.cells #[.bool n, .slice A l c] 24)).alloc (.cells #[.bool n, .slice A l c] 24)) (w.heap.size + 1) 24 #[.bool n, .slice A l c] by have h := CB.new (w.alloc (.cells #[.bool n, .slice A l c] 24)) 24 #[.bool n, .slice A l c]; simpa using h)
 go_enter Tryz.func68, Tryz.ntmps68
 go_wp2
 exact bodyPost_ret (GB.ret rfl _ HC.out rfl) rfl ⟨HB.out, rfl⟩
set_option maxRecDepth 100000 in
set_option maxHeartbeats 4000000 in
theorem madeG_no (w : World) (n : Bool) (A : Option Addr) (l c : Nat) (e : Int) (he : e ≠ 0) :
  Calls Tryz.prog 68 #[.agg #[.bool n, .slice A l c], .int .i64 e] w fun r w' => Below w.heap.size w w' ∧ r = .returned (.tuple #[.agg #[.bool false, .slice none 0 0], .int .i64 e]) := by
 have HB := Lib.hid (below_alloc1 (below_alloc1 (below_alloc1 (Below.refl w.heap.size w) (.cells #[.bool n, .slice A l c] 24)) (.cells #[.bool false, .slice none 0 0] 24)) (.cells #[.bool false, .slice none 0 0] 24))
 have HC := Lib.hid (show CB (((w.alloc (.cells #[.bool n, .slice A l c] 24)).alloc (.cells #[.bool false, .slice none 0 0] 24)).alloc (.cells #[.bool false, .slice none 0 0] 24)) (w.heap.size + 1) 24 #[.bool false, .slice none 0 0] by have h := (CB.new (w.alloc (.cells #[.bool n, .slice A l c] 24)) 24 #[.bool false, .slice none 0 0]).alloc (.cells #[.bool false, .slice none 0 0] 24); simpa using h)
 have he0 : (e == 0) = false := by rw [beq_eq_false_iff_ne]; exact he
 clear he
 go_enter Tryz.func68, Tryz.ntmps68
 go_wp2
 exact bodyPost_ret (GB.ret rfl _ HC.out rfl) rfl ⟨HB.out, rfl⟩
end Go.Proofs.YtioclokmbgmamaaGreatDoor
