/- The small functions of layer 04: one, Read, without, times, plus, Sign (written by gen_qa.py). -/
import Derived.Test.YtioclokmbgmamaaGreatDoorQEnd
import Derived.Test.YtioclokmbgmamaaGreatDoorFl
import Derived.Test.YtioclokmbgmamaaGreatDoorSize
namespace Go.Proofs.YtioclokmbgmamaaGreatDoor
open Go Go.RowKit Dig
theorem dig1 : dig 1 = [1] := dig_one (by omega) (by omega)
theorem RI.one (w : World) (x : Int) : RI (w.alloc (.cells #[.int .i64 x] 3)) (w.alloc (.cells #[.int .i64 x] 3)).heap.size (.slice (some ⟨w.heap.size, 0, none⟩) 1 1) [x] :=
 (show Own (w.alloc (.cells #[.int .i64 x] 3)) w.heap.size [x] from ⟨[], heap_alloc_new w _⟩).ri0 1 1 rfl (Nat.le_refl _) (by omega)
theorem one_any (w : World) :
  Calls Tryz.prog 66 #[] w fun e w' => Below w.heap.size w w' ∧ ∃ v, e = .returned v ∧ RN w' w'.heap.size v (dig 1) := by
 have H := Lib.hid (RI.one w 1)
 have HB := Lib.hid (below_alloc1 (Below.refl w.heap.size w) (.cells #[.int .i64 1] 3))
 go_enter Tryz.func66, Tryz.ntmps66
 go_wp2
 go_ret
 exact ⟨HB.out, _, rfl, by rw [dig1]; exact H.out⟩
theorem without_any (w : World) (va vb : Value) (a b : Nat) (ha : RN w w.heap.size va (dig a)) (hb : RN w w.heap.size vb (dig b)) (hb0 : b ≠ 0) (hl : (dig a).length ≤ 100000) :
  Calls Tryz.prog 138 #[va, vb] w fun e w' => Below w.heap.size w w' ∧ ∃ v, e = .returned v ∧ RN w' w'.heap.size v (dig (a / b)) := by
 have HA := Lib.hid ha; have HB := Lib.hid hb
 obtain ⟨A, ca, rfl, -⟩ := ha.cell
 obtain ⟨B, cb, rfl, -⟩ := hb.cell
 have H0 := Lib.hid hb0; have HL := Lib.hid hl
 clear ha hb hb0 hl
 go_enter Tryz.func138, Tryz.ntmps138
 go_wp2_with fail
 refine (Over_any _ _ _ a b HA.out HB.out H0.out HL.out).mono ?_
 rintro e w1 ⟨hb, v, v', rfl, hv, -⟩
 have HBB := Lib.hid hb; have HV := Lib.hid hv; clear hb
 obtain ⟨A2, c2, rfl, -⟩ := hv.cell
 clear hv
 go_wp2
 go_ret
 exact ⟨HBB.out, _, rfl, HV.out⟩
set_option maxRecDepth 100000 in
set_option maxHeartbeats 4000000 in
theorem Read_any (w : World) (n m : Bool) (A A' : Option Addr) (l c l' c' : Nat) :
  Calls Tryz.prog 56 #[.agg #[.bool n, .slice A l c, .bool m, .slice A' l' c']] w fun e w' => Below w.heap.size w w' ∧ e = .returned (.agg #[.bool n, .slice A l c, .slice A' l' c']) := by
 have HB := Lib.hid (below_alloc1 (below_alloc1 (Below.refl w.heap.size w) (.cells #[.bool n, .slice A l c, .bool m, .slice A' l' c'] 26)) (.cells #[.bool n, .slice A l c, .slice A' l' c'] 95))
 have HC := Lib.hid (show CB ((w.alloc (.cells #[.bool n, .slice A l c, .bool m, .slice A' l' c'] 26)).alloc (.cells #[.bool n, .slice A l c, .slice A' l' c'] 95)) (w.heap.size + 1) 95 #[.bool n, .slice A l c, .slice A' l' c'] by have h := CB.new (w.alloc (.cells #[.bool n, .slice A l c, .bool m, .slice A' l' c'] 26)) 95 #[.bool n, .slice A l c, .slice A' l' c']; simpa using h)
 go_enter Tryz.func56, Tryz.ntmps56
 go_wp2
 exact bodyPost_ret (TB.ret1 rfl _ HC.out rfl) rfl ⟨HB.out, rfl⟩
theorem wsgn_nat {z : Int} {n : Bool} (h : z ≠ 0 → n = decide (z < 0)) (b : Nat) (h0 : z * (b : Int) ≠ 0) : n = decide (z * (b : Int) < 0) := by
 have hz : z ≠ 0 := fun e => h0 (by rw [e, Int.zero_mul])
 have hb : b ≠ 0 := fun e => h0 (by rw [e]; simp)
 rw [h hz]
 have hb2 : (0 : Int) < (b : Int) := by omega
 rcases Int.lt_or_gt_of_ne hz with h1 | h1
 ·rw [decide_eq_true h1, decide_eq_true (Int.mul_neg_of_neg_of_pos h1 hb2)]
 ·have := Int.mul_pos h1 hb2
  rw [decide_eq_false (by omega), decide_eq_false (by omega)]
set_option maxRecDepth 100000 in
set_option maxHeartbeats 4000000 in
theorem wtimes_any (w : World) (va vb : Value) (z : Int) (b : Nat) (ha : WV w w.heap.size va z) (hb : RN w w.heap.size vb (dig b)) (hl : (dig z.natAbs).length ≤ 100000) (hl' : (dig b).length ≤ 100000) :
  Calls Tryz.prog 57 #[va, vb] w fun e w' => Below w.heap.size w w' ∧ ∃ v, e = .returned v ∧ WV w' w'.heap.size v (z * b) := by
 obtain ⟨n, A, l, c, rfl, Ha, hn⟩ := ha
 obtain ⟨B, cb, rfl, -⟩ := hb.cell
 have HN := Lib.hid hn; have HL := Lib.hid hl; have HL' := Lib.hid hl'; clear hn hl hl'
 obtain ⟨w0, hw0⟩ : ∃ w0 : World, w0 = ((w.alloc (.cells #[.bool n, .slice A l c] 93)).alloc (.cells #[.bool false, .slice none 0 0] 93)) := ⟨_, rfl⟩
 have B0 := Lib.hid (show Below w.heap.size w w0 by rw [hw0]; (repeat' (first | exact Below.refl _ _ | refine Below.drew ?_ | refine Below.alloc ?_ (by first | exact Nat.le_refl _ | (simp; done) | (simp; omega)) _)))
 have z0 : w.heap.size + 2 ≤ w0.heap.size := by rw [hw0]; simp
 have La : CB w0 (w.heap.size) 93 #[.bool n, .slice A l c] := by rw [hw0]; have h := (CB.new w 93 #[.bool n, .slice A l c]).alloc (.cells #[.bool false, .slice none 0 0] 93); simpa using h
 have Lo : CB w0 (w.heap.size + 1) 93 #[.bool false, .slice none 0 0] := by rw [hw0]; have h := CB.new (w.alloc (.cells #[.bool n, .slice A l c] 93)) 93 #[.bool false, .slice none 0 0]; simpa using h
 replace Ha := Lib.hid (RN.stepN Ha B0.out); replace hb := Lib.hid (RN.stepN hb B0.out)
 go_enter Tryz.func57, Tryz.ntmps57
 go_upto_region 1 with (fail)
 rw [← hw0]; clear hw0
 refine Flow.run [⟨0, 5, fun fv fw => fv = .pointer (some ⟨w.heap.size, 0, none⟩)⟩, ⟨1, 6, fun fv fw => fv = .bool n⟩, ⟨2, 7, fun fv fw => fv = .pointer (some ⟨w.heap.size, 1, none⟩)⟩, ⟨3, 8, fun fv fw => fv = .slice A l c⟩, ⟨4, 9, fun fv fw => fv = .slice B (dig b).length cb⟩, ⟨5, 10, fun fv fw => RN fw fw.heap.size fv (dig (z.natAbs * b))⟩, ⟨6, 11, fun fv fw => WV fw fw.heap.size fv (z * (b : Int))⟩] [] [] 1 (by kernel_rfl) (by kernel_rfl) (by kernel_rfl) (fun _ _ _ _ _ h => h) ?_ ?_ ?_ ?_
 ·refine (all_cons (fun v w1 w2 h hb => h) (all_cons (fun v w1 w2 h hb => h) (all_cons (fun v w1 w2 h hb => h) (all_cons (fun v w1 w2 h hb => h) (all_cons (fun v w1 w2 h hb => h) (all_cons (fun v w1 w2 h hb => h.step hb) (all_cons (fun v w1 w2 h hb => h.step hb) all_nil)))))))
 ·refine (all_cons ?_ (all_cons ?_ (all_cons ?_ (all_cons ?_ (all_cons ?_ (all_cons ?_ (all_cons ?_ all_nil)))))))
  ·intro xs wk1 hBk hdep
   have HBk1 := Lib.hid hBk; have zk1 := hBk.size; clear hBk
   clear hdep
   refine wpOp_step (o := _) rfl (fun K hK => ?_)
   simp only [FL]
   go_simp
   refine hK _ _ ⟨.pointer (some ⟨w.heap.size, 0, none⟩), by kernel_rfl, Below.refl _ _, rfl, nF⟩
  ·intro xs wk2 hBk hdep
   have HBk2 := Lib.hid hBk; have zk2 := hBk.size; clear hBk
   have f0 : (xs 0) = .pointer (some ⟨w.heap.size, 0, none⟩) := hdep _ (m_ 0 rfl) (by kernel_rfl)
   clear hdep
   refine wpOp_step (o := _) rfl (fun K hK => ?_)
   simp only [FL]
   have La_3 := CB.step La HBk2.out
   have q4_0 := La_3.cell 0 rfl
   have q4_1 := La_3.cell 1 rfl
   have q4_lt := La_3.lt
   go_simp
   refine hK _ _ ⟨.bool n, by simp only [FL, f0], Below.refl _ _, rfl, nF⟩
  ·intro xs wk5 hBk hdep
   have HBk5 := Lib.hid hBk; have zk5 := hBk.size; clear hBk
   clear hdep
   refine wpOp_step (o := _) rfl (fun K hK => ?_)
   simp only [FL]
   go_simp
   refine hK _ _ ⟨.pointer (some ⟨w.heap.size, 1, none⟩), by kernel_rfl, Below.refl _ _, rfl, nF⟩
  ·intro xs wk6 hBk hdep
   have HBk6 := Lib.hid hBk; have zk6 := hBk.size; clear hBk
   have f2 : (xs 2) = .pointer (some ⟨w.heap.size, 1, none⟩) := hdep _ (m_ 2 rfl) (by kernel_rfl)
   clear hdep
   refine wpOp_step (o := _) rfl (fun K hK => ?_)
   simp only [FL]
   have La_7 := CB.step La HBk6.out
   have q8_0 := La_7.cell 0 rfl
   have q8_1 := La_7.cell 1 rfl
   have q8_lt := La_7.lt
   go_simp
   refine hK _ _ ⟨.slice A l c, by simp only [FL, f2], Below.refl _ _, rfl, nF⟩
  ·intro xs wk9 hBk hdep
   have HBk9 := Lib.hid hBk; have zk9 := hBk.size; clear hBk
   clear hdep
   refine wpOp_step (o := _) rfl (fun K hK => ?_)
   simp only [FL]
   go_simp
   refine hK _ _ ⟨.slice B (dig b).length cb, by kernel_rfl, Below.refl _ _, rfl, nF⟩
  ·intro xs wk10 hBk hdep
   have HBk10 := Lib.hid hBk; have zk10 := hBk.size; clear hBk
   have f3 : (xs 3) = .slice A l c := hdep _ (m_ 3 rfl) (by kernel_rfl)
   have f4 : (xs 4) = .slice B (dig b).length cb := hdep _ (m_ 4 rfl) (by kernel_rfl)
   clear hdep
   refine wpOp_step (o := _) rfl (fun K hK => ?_)
   simp only [FL]
   go_simp
   have Ha_11 := Lib.hid (RN.step Ha.out HBk10.out)
   have Hb_12 := Lib.hid (RN.step hb.out HBk10.out)
   (with_reducible refine (Times_any _ _ _ z.natAbs b Ha_11.out Hb_12.out (by have := HL.out; omega) (by have := HL'.out; omega)).mono ?_)
   rintro e wc13 ⟨hb13, v13, rfl, hv13⟩
   refine hK _ _ ⟨v13, by simp only [FL, f3, f4], hb13, hv13, nF⟩
  ·intro xs wk14 hBk hdep
   have HBk14 := Lib.hid hBk; have zk14 := hBk.size; clear hBk
   have f5 : RN wk14 wk14.heap.size (xs 5) (dig (z.natAbs * b)) := hdep _ (m_ 5 rfl) (by kernel_rfl)
   have f1 : (xs 1) = .bool n := hdep _ (m_ 1 rfl) (by kernel_rfl)
   clear hdep
   refine wpOp_step (o := _) rfl (fun K hK => ?_)
   simp only [FL]
   obtain ⟨A5, c5, hx5, -⟩ := RN.cell f5; have r5 := f5; rw [hx5] at r5 ⊢
   go_simp
   refine hK _ _ ⟨.agg #[.bool n, .slice A5 (dig (z.natAbs * b)).length c5], by simp only [FL, f1, hx5], Below.refl _ _, WV.mk (by rw [Int.natAbs_mul, Int.natAbs_natCast]; exact r5) (wsgn_nat HN.out b), nF⟩
 ·exact all_nil
 ·intro xs wf15 hbf hf hn hd
  have f0 : (xs 0) = .pointer (some ⟨w.heap.size, 0, none⟩) := hf _ (m_ 0 rfl)
  have f1 : (xs 1) = .bool n := hf _ (m_ 1 rfl)
  have f2 : (xs 2) = .pointer (some ⟨w.heap.size, 1, none⟩) := hf _ (m_ 2 rfl)
  have f3 : (xs 3) = .slice A l c := hf _ (m_ 3 rfl)
  have f4 : (xs 4) = .slice B (dig b).length cb := hf _ (m_ 4 rfl)
  have f5 : RN wf15 wf15.heap.size (xs 5) (dig (z.natAbs * b)) := hf _ (m_ 5 rfl)
  have f6 : WV wf15 wf15.heap.size (xs 6) (z * (b : Int)) := hf _ (m_ 6 rfl)
  clear hf hn hd
  simp only [FL]
  have B16 := Lib.hid hbf
  have z16 := B16.out.size
  have HB17 := Lib.hid (B0.out.trans (B16.out.mono B0.out.size))
  clear hbf
  generalize xs 0 = x0 at *
  generalize xs 1 = x1 at *
  generalize xs 2 = x2 at *
  generalize xs 3 = x3 at *
  generalize xs 4 = x4 at *
  generalize xs 5 = x5 at *
  generalize xs 6 = x6 at *
  obtain rfl := f0
  obtain rfl := f1
  obtain rfl := f2
  obtain rfl := f3
  obtain rfl := f4
  clear f5
  obtain ⟨on18, oA18, ol18, oc18, rfl, ha18, hb18⟩ := f6
  have Hr_18 := Lib.hid (WV.mk ha18 hb18)
  clear ha18 hb18
  have Lo_19 := CB.step Lo B16.out
  have q20_0 := Lo_19.cell 0 rfl
  have q20_1 := Lo_19.cell 1 rfl
  have q20_lt := Lo_19.lt
  have q21_0 := Lo_19.frozen 0
  have q21_1 := Lo_19.frozen 1
  have q21_lt := Lo_19.lt
  refine Early.next (i := 7) (by kernel_rfl) rfl (fun K hK => ?_)
  go_simp
  refine hK _ _ (fun _ => trivial) ?_
  clear hK K
  (try simp only [Act.put, List.setIfInBounds_toArray, List.set_cons_zero, List.set_cons_succ])
  clear q20_0 q20_1 q20_lt q21_0 q21_1 q21_lt
  refine Early.done (by kernel_rfl) ?_ _
  (try simp only [Exit.then])
  go_wp2
  exact WB.fin rfl Lo_19 (by simp [noInt_b, noInt_s]) HB17.out (by omega) Hr_18.out rfl
theorem wsgn_cases {z : Int} {n : Bool} (h : z ≠ 0 → n = decide (z < 0)) : z = 0 ∨ (n = true ∧ z < 0) ∨ (n = false ∧ 0 < z) := by
 by_cases h0 : z = 0
 ·exact .inl h0
 ·have h1 := h h0
  by_cases h2 : z < 0
  ·rw [decide_eq_true h2] at h1; exact .inr (.inl ⟨h1, h2⟩)
  ·rw [decide_eq_false h2] at h1; exact .inr (.inr ⟨h1, by omega⟩)
theorem wsgn_mk {z : Int} {n : Bool} (h : z = 0 ∨ (n = true ∧ z < 0) ∨ (n = false ∧ 0 < z)) (h0 : z ≠ 0) : n = decide (z < 0) := by
 rcases h with h | ⟨rfl, h⟩ | ⟨rfl, h⟩
 ·exact absurd h h0
 ·rw [decide_eq_true h]
 ·rw [decide_eq_false (by omega)]
theorem wplus_same {x y : Int} {n : Bool} (hx : x ≠ 0 → n = decide (x < 0)) (hy : y ≠ 0 → n = decide (y < 0)) : (x + y).natAbs = x.natAbs + y.natAbs ∧ (x + y ≠ 0 → n = decide (x + y < 0)) := by
 rcases wsgn_cases hx with h | ⟨h, h1⟩ | ⟨h, h1⟩ <;> rcases wsgn_cases hy with k | ⟨k, k1⟩ | ⟨k, k1⟩ <;> (first | (rw [h] at k; cases k; done) | (refine ⟨by omega, wsgn_mk ?_⟩; (by_cases h0 : x + y = 0); exact .inl h0; first | (exfalso; omega) | (refine .inr (.inl ⟨by assumption, by omega⟩); done) | (refine .inr (.inr ⟨by assumption, by omega⟩); done)))
theorem wplus_less {x y : Int} {n m : Bool} (hx : x ≠ 0 → n = decide (x < 0)) (hy : y ≠ 0 → m = decide (y < 0)) (hn : n ≠ m) (hlt : x.natAbs < y.natAbs) : (x + y).natAbs = y.natAbs - x.natAbs ∧ (x + y ≠ 0 → m = decide (x + y < 0)) := by
 rcases wsgn_cases hx with h | ⟨h, h1⟩ | ⟨h, h1⟩ <;> rcases wsgn_cases hy with k | ⟨k, k1⟩ | ⟨k, k1⟩ <;> (first | (exact absurd (h.trans k.symm) hn) | (exfalso; omega) | (refine ⟨by omega, wsgn_mk ?_⟩; (by_cases h0 : x + y = 0); exact .inl h0; first | (exfalso; omega) | (refine .inr (.inl ⟨by assumption, by omega⟩); done) | (refine .inr (.inr ⟨by assumption, by omega⟩); done)))
theorem wplus_more {x y : Int} {n m : Bool} (hx : x ≠ 0 → n = decide (x < 0)) (hy : y ≠ 0 → m = decide (y < 0)) (hn : n ≠ m) (hlt : ¬ x.natAbs < y.natAbs) : (x + y).natAbs = x.natAbs - y.natAbs ∧ (x + y ≠ 0 → n = decide (x + y < 0)) := by
 rcases wsgn_cases hx with h | ⟨h, h1⟩ | ⟨h, h1⟩ <;> rcases wsgn_cases hy with k | ⟨k, k1⟩ | ⟨k, k1⟩ <;> (first | (exact absurd (h.trans k.symm) hn) | (exfalso; omega) | (refine ⟨by omega, wsgn_mk ?_⟩; (by_cases h0 : x + y = 0); exact .inl h0; first | (exfalso; omega) | (refine .inr (.inl ⟨by assumption, by omega⟩); done) | (refine .inr (.inr ⟨by assumption, by omega⟩); done)))
set_option maxRecDepth 100000 in
set_option maxHeartbeats 4000000 in
theorem wplus_any (w : World) (va vb : Value) (x y : Int) (ha : WV w w.heap.size va x) (hb : WV w w.heap.size vb y) (hl : (dig x.natAbs).length ≤ 100000) (hl' : (dig y.natAbs).length ≤ 100000) :
  Calls Tryz.prog 58 #[va, vb] w fun e w' => Below w.heap.size w w' ∧ ∃ v, e = .returned v ∧ WV w' w'.heap.size v (x + y) := by
 obtain ⟨n, A, l, c, rfl, Ha, hx⟩ := ha; obtain ⟨m, B, k, d, rfl, Hb, hy⟩ := hb
 have HL := Lib.hid hl; have HL' := Lib.hid hl'; clear hl hl'
 obtain ⟨w0, hw0⟩ : ∃ w0 : World, w0 = (((w.alloc (.cells #[.bool n, .slice A l c] 93)).alloc (.cells #[.bool m, .slice B k d] 93)).alloc (.cells #[.bool false, .slice none 0 0] 93)) := ⟨_, rfl⟩
 have B0 := Lib.hid (show Below w.heap.size w w0 by rw [hw0]; (repeat' (first | exact Below.refl _ _ | refine Below.drew ?_ | refine Below.alloc ?_ (by first | exact Nat.le_refl _ | (simp; done) | (simp; omega)) _)))
 have z0 : w.heap.size + 3 ≤ w0.heap.size := by rw [hw0]; simp
 have La : CB w0 (w.heap.size) 93 #[.bool n, .slice A l c] := by rw [hw0]; have h := ((CB.new w 93 #[.bool n, .slice A l c]).alloc (.cells #[.bool m, .slice B k d] 93)).alloc (.cells #[.bool false, .slice none 0 0] 93); simpa using h
 have Lb : CB w0 (w.heap.size + 1) 93 #[.bool m, .slice B k d] := by rw [hw0]; have h := (CB.new (w.alloc (.cells #[.bool n, .slice A l c] 93)) 93 #[.bool m, .slice B k d]).alloc (.cells #[.bool false, .slice none 0 0] 93); simpa using h
 have Lo : CB w0 (w.heap.size + 2) 93 #[.bool false, .slice none 0 0] := by rw [hw0]; have h := CB.new ((w.alloc (.cells #[.bool n, .slice A l c] 93)).alloc (.cells #[.bool m, .slice B k d] 93)) 93 #[.bool false, .slice none 0 0]; simpa using h
 replace Ha := Lib.hid (RN.stepN Ha B0.out); replace Hb := Lib.hid (RN.stepN Hb B0.out)
 by_cases hnm : n = m
 ·subst hnm
  have HF := Lib.hid (wplus_same hx hy); clear hx hy
  go_enter Tryz.func58, Tryz.ntmps58
  go_upto_region 1 with (fail)
  rw [← hw0]; clear hw0
  have q1_0 := La.cell 0 rfl
  have q1_1 := La.cell 1 rfl
  have q1_lt := La.lt
  have q2_0 := Lb.cell 0 rfl
  have q2_1 := Lb.cell 1 rfl
  have q2_lt := Lb.lt
  go_upto_region 2 with (fail)
  clear q1_0 q1_1 q1_lt q2_0 q2_1 q2_lt
  refine Flow.run [⟨0, 11, fun fv fw => fv = .pointer (some ⟨w.heap.size, 0, none⟩)⟩, ⟨1, 12, fun fv fw => fv = .bool n⟩, ⟨2, 13, fun fv fw => fv = .pointer (some ⟨w.heap.size, 1, none⟩)⟩, ⟨3, 14, fun fv fw => fv = .slice A l c⟩, ⟨4, 15, fun fv fw => fv = .pointer (some ⟨w.heap.size + 1, 1, none⟩)⟩, ⟨5, 16, fun fv fw => fv = .slice B k d⟩, ⟨6, 17, fun fv fw => RN fw fw.heap.size fv (dig (x.natAbs + y.natAbs))⟩, ⟨7, 18, fun fv fw => WV fw fw.heap.size fv (x + y)⟩] [] [] 1 (by kernel_rfl) (by kernel_rfl) (by kernel_rfl) (fun _ _ _ _ _ h => h) ?_ ?_ ?_ ?_
  ·refine (all_cons (fun v w1 w2 h hb => h) (all_cons (fun v w1 w2 h hb => h) (all_cons (fun v w1 w2 h hb => h) (all_cons (fun v w1 w2 h hb => h) (all_cons (fun v w1 w2 h hb => h) (all_cons (fun v w1 w2 h hb => h) (all_cons (fun v w1 w2 h hb => h.step hb) (all_cons (fun v w1 w2 h hb => h.step hb) all_nil))))))))
  ·refine (all_cons ?_ (all_cons ?_ (all_cons ?_ (all_cons ?_ (all_cons ?_ (all_cons ?_ (all_cons ?_ (all_cons ?_ all_nil))))))))
   ·intro xs wk3 hBk hdep
    have HBk3 := Lib.hid hBk; have zk3 := hBk.size; clear hBk
    clear hdep
    refine wpOp_step (o := _) rfl (fun K hK => ?_)
    simp only [FL]
    go_simp
    refine hK _ _ ⟨.pointer (some ⟨w.heap.size, 0, none⟩), by kernel_rfl, Below.refl _ _, rfl, nF⟩
   ·intro xs wk4 hBk hdep
    have HBk4 := Lib.hid hBk; have zk4 := hBk.size; clear hBk
    have f0 : (xs 0) = .pointer (some ⟨w.heap.size, 0, none⟩) := hdep _ (m_ 0 rfl) (by kernel_rfl)
    clear hdep
    refine wpOp_step (o := _) rfl (fun K hK => ?_)
    simp only [FL]
    have La_5 := CB.step La HBk4.out
    have q6_0 := La_5.cell 0 rfl
    have q6_1 := La_5.cell 1 rfl
    have q6_lt := La_5.lt
    go_simp
    refine hK _ _ ⟨.bool n, by simp only [FL, f0], Below.refl _ _, rfl, nF⟩
   ·intro xs wk7 hBk hdep
    have HBk7 := Lib.hid hBk; have zk7 := hBk.size; clear hBk
    clear hdep
    refine wpOp_step (o := _) rfl (fun K hK => ?_)
    simp only [FL]
    go_simp
    refine hK _ _ ⟨.pointer (some ⟨w.heap.size, 1, none⟩), by kernel_rfl, Below.refl _ _, rfl, nF⟩
   ·intro xs wk8 hBk hdep
    have HBk8 := Lib.hid hBk; have zk8 := hBk.size; clear hBk
    have f2 : (xs 2) = .pointer (some ⟨w.heap.size, 1, none⟩) := hdep _ (m_ 2 rfl) (by kernel_rfl)
    clear hdep
    refine wpOp_step (o := _) rfl (fun K hK => ?_)
    simp only [FL]
    have La_9 := CB.step La HBk8.out
    have q10_0 := La_9.cell 0 rfl
    have q10_1 := La_9.cell 1 rfl
    have q10_lt := La_9.lt
    go_simp
    refine hK _ _ ⟨.slice A l c, by simp only [FL, f2], Below.refl _ _, rfl, nF⟩
   ·intro xs wk11 hBk hdep
    have HBk11 := Lib.hid hBk; have zk11 := hBk.size; clear hBk
    clear hdep
    refine wpOp_step (o := _) rfl (fun K hK => ?_)
    simp only [FL]
    go_simp
    refine hK _ _ ⟨.pointer (some ⟨w.heap.size + 1, 1, none⟩), by kernel_rfl, Below.refl _ _, rfl, nF⟩
   ·intro xs wk12 hBk hdep
    have HBk12 := Lib.hid hBk; have zk12 := hBk.size; clear hBk
    have f4 : (xs 4) = .pointer (some ⟨w.heap.size + 1, 1, none⟩) := hdep _ (m_ 4 rfl) (by kernel_rfl)
    clear hdep
    refine wpOp_step (o := _) rfl (fun K hK => ?_)
    simp only [FL]
    have Lb_13 := CB.step Lb HBk12.out
    have q14_0 := Lb_13.cell 0 rfl
    have q14_1 := Lb_13.cell 1 rfl
    have q14_lt := Lb_13.lt
    go_simp
    refine hK _ _ ⟨.slice B k d, by simp only [FL, f4], Below.refl _ _, rfl, nF⟩
   ·intro xs wk15 hBk hdep
    have HBk15 := Lib.hid hBk; have zk15 := hBk.size; clear hBk
    have f3 : (xs 3) = .slice A l c := hdep _ (m_ 3 rfl) (by kernel_rfl)
    have f5 : (xs 5) = .slice B k d := hdep _ (m_ 5 rfl) (by kernel_rfl)
    clear hdep
    refine wpOp_step (o := _) rfl (fun K hK => ?_)
    simp only [FL]
    go_simp
    have Ha_16 := Lib.hid (RN.step Ha.out HBk15.out)
    have Hb_17 := Lib.hid (RN.step Hb.out HBk15.out)
    (with_reducible refine (Plus_any _ _ _ x.natAbs y.natAbs Ha_16.out Hb_17.out (by have := HL.out; omega) (by have := HL'.out; omega)).mono ?_)
    rintro e wc18 ⟨hb18, v18, rfl, hv18⟩
    refine hK _ _ ⟨v18, by simp only [FL, f3, f5], hb18, hv18, nF⟩
   ·intro xs wk19 hBk hdep
    have HBk19 := Lib.hid hBk; have zk19 := hBk.size; clear hBk
    have f6 : RN wk19 wk19.heap.size (xs 6) (dig (x.natAbs + y.natAbs)) := hdep _ (m_ 6 rfl) (by kernel_rfl)
    have f1 : (xs 1) = .bool n := hdep _ (m_ 1 rfl) (by kernel_rfl)
    clear hdep
    refine wpOp_step (o := _) rfl (fun K hK => ?_)
    simp only [FL]
    obtain ⟨A6, c6, hx6, -⟩ := RN.cell f6; have r6 := f6; rw [hx6] at r6 ⊢
    go_simp
    refine hK _ _ ⟨.agg #[.bool n, .slice A6 (dig (x.natAbs + y.natAbs)).length c6], by simp only [FL, f1, hx6], Below.refl _ _, WV.mk (by rw [HF.out.1]; exact r6) HF.out.2, nF⟩
  ·exact all_nil
  ·intro xs wf20 hbf hf hn hd
   have f0 : (xs 0) = .pointer (some ⟨w.heap.size, 0, none⟩) := hf _ (m_ 0 rfl)
   have f1 : (xs 1) = .bool n := hf _ (m_ 1 rfl)
   have f2 : (xs 2) = .pointer (some ⟨w.heap.size, 1, none⟩) := hf _ (m_ 2 rfl)
   have f3 : (xs 3) = .slice A l c := hf _ (m_ 3 rfl)
   have f4 : (xs 4) = .pointer (some ⟨w.heap.size + 1, 1, none⟩) := hf _ (m_ 4 rfl)
   have f5 : (xs 5) = .slice B k d := hf _ (m_ 5 rfl)
   have f6 : RN wf20 wf20.heap.size (xs 6) (dig (x.natAbs + y.natAbs)) := hf _ (m_ 6 rfl)
   have f7 : WV wf20 wf20.heap.size (xs 7) (x + y) := hf _ (m_ 7 rfl)
   clear hf hn hd
   simp only [FL]
   have B21 := Lib.hid hbf
   have z21 := B21.out.size
   have HB22 := Lib.hid (B0.out.trans (B21.out.mono B0.out.size))
   clear hbf
   generalize xs 0 = x0 at *
   generalize xs 1 = x1 at *
   generalize xs 2 = x2 at *
   generalize xs 3 = x3 at *
   generalize xs 4 = x4 at *
   generalize xs 5 = x5 at *
   generalize xs 6 = x6 at *
   generalize xs 7 = x7 at *
   obtain rfl := f0
   obtain rfl := f1
   obtain rfl := f2
   obtain rfl := f3
   obtain rfl := f4
   obtain rfl := f5
   clear f6
   obtain ⟨on23, oA23, ol23, oc23, rfl, ha23, hb23⟩ := f7
   have Hr_23 := Lib.hid (WV.mk ha23 hb23)
   clear ha23 hb23
   have Lo_24 := CB.step Lo B21.out
   have q25_0 := Lo_24.cell 0 rfl
   have q25_1 := Lo_24.cell 1 rfl
   have q25_lt := Lo_24.lt
   have q26_0 := Lo_24.frozen 0
   have q26_1 := Lo_24.frozen 1
   have q26_lt := Lo_24.lt
   refine Early.next (i := 8) (by kernel_rfl) rfl (fun K hK => ?_)
   go_simp
   refine hK _ _ (fun _ => trivial) ?_
   clear hK K
   (try simp only [Act.put, List.setIfInBounds_toArray, List.set_cons_zero, List.set_cons_succ])
   clear q25_0 q25_1 q25_lt q26_0 q26_1 q26_lt
   refine Early.done (by kernel_rfl) ?_ _
   (try simp only [Exit.then])
   go_wp2
   exact WB.fin rfl Lo_24 (by simp [noInt_b, noInt_s]) HB22.out (by omega) Hr_23.out rfl
 ·have hbq : (n == m) = false := by simpa using hnm
  go_enter Tryz.func58, Tryz.ntmps58
  go_upto_region 1 with (fail)
  rw [← hw0]; clear hw0
  have q27_0 := La.cell 0 rfl
  have q27_1 := La.cell 1 rfl
  have q27_lt := La.lt
  have q28_0 := Lb.cell 0 rfl
  have q28_1 := Lb.cell 1 rfl
  have q28_lt := Lb.lt
  go_wp2_with fail
  refine (Cmp_any _ _ _ x.natAbs y.natAbs Ha.out Hb.out).mono ?_
  rintro e w29 ⟨hb29, e, rfl, he⟩
  have B30 := Lib.hid hb29
  have z30 := B30.out.size
  have HB31 := Lib.hid (B0.out.trans (B30.out.mono B0.out.size))
  clear hb29
  clear q27_0 q27_1 q27_lt q28_0 q28_1 q28_lt
  clear hbq
  by_cases hlt : x.natAbs < y.natAbs
  ·have he0 : e < 0 := by have := he; unfold SignOf at this; omega
   have HF := Lib.hid (wplus_less hx hy hnm hlt); have HLT := Lib.hid hlt; clear hx hy he hlt hnm
   go_upto_region 4 with (fail)
   clear he0
   refine Flow.run [⟨0, 26, fun fv fw => fv = .pointer (some ⟨w.heap.size + 1, 0, none⟩)⟩, ⟨1, 27, fun fv fw => fv = .bool m⟩, ⟨2, 28, fun fv fw => fv = .pointer (some ⟨w.heap.size + 1, 1, none⟩)⟩, ⟨3, 29, fun fv fw => fv = .slice B k d⟩, ⟨4, 30, fun fv fw => fv = .pointer (some ⟨w.heap.size, 1, none⟩)⟩, ⟨5, 31, fun fv fw => fv = .slice A l c⟩, ⟨6, 32, fun fv fw => RN fw fw.heap.size fv (dig (y.natAbs - x.natAbs))⟩, ⟨7, 33, fun fv fw => WV fw fw.heap.size fv (x + y)⟩] [] [] 1 (by kernel_rfl) (by kernel_rfl) (by kernel_rfl) (fun _ _ _ _ _ h => h) ?_ ?_ ?_ ?_
   ·refine (all_cons (fun v w1 w2 h hb => h) (all_cons (fun v w1 w2 h hb => h) (all_cons (fun v w1 w2 h hb => h) (all_cons (fun v w1 w2 h hb => h) (all_cons (fun v w1 w2 h hb => h) (all_cons (fun v w1 w2 h hb => h) (all_cons (fun v w1 w2 h hb => h.step hb) (all_cons (fun v w1 w2 h hb => h.step hb) all_nil))))))))
   ·refine (all_cons ?_ (all_cons ?_ (all_cons ?_ (all_cons ?_ (all_cons ?_ (all_cons ?_ (all_cons ?_ (all_cons ?_ all_nil))))))))
    ·intro xs wk32 hBk hdep
     have HBk32 := Lib.hid hBk; have zk32 := hBk.size; clear hBk
     clear hdep
     refine wpOp_step (o := _) rfl (fun K hK => ?_)
     simp only [FL]
     go_simp
     refine hK _ _ ⟨.pointer (some ⟨w.heap.size + 1, 0, none⟩), by kernel_rfl, Below.refl _ _, rfl, nF⟩
    ·intro xs wk33 hBk hdep
     have HBk33 := Lib.hid hBk; have zk33 := hBk.size; clear hBk
     have f0 : (xs 0) = .pointer (some ⟨w.heap.size + 1, 0, none⟩) := hdep _ (m_ 0 rfl) (by kernel_rfl)
     clear hdep
     refine wpOp_step (o := _) rfl (fun K hK => ?_)
     simp only [FL]
     have P1_3_35 := Lib.hid (B30.out.trans (HBk33.out.mono B30.out.size))
     have Lb_34 := CB.step Lb P1_3_35.out
     have q36_0 := Lb_34.cell 0 rfl
     have q36_1 := Lb_34.cell 1 rfl
     have q36_lt := Lb_34.lt
     go_simp
     refine hK _ _ ⟨.bool m, by simp only [FL, f0], Below.refl _ _, rfl, nF⟩
    ·intro xs wk37 hBk hdep
     have HBk37 := Lib.hid hBk; have zk37 := hBk.size; clear hBk
     clear hdep
     refine wpOp_step (o := _) rfl (fun K hK => ?_)
     simp only [FL]
     go_simp
     refine hK _ _ ⟨.pointer (some ⟨w.heap.size + 1, 1, none⟩), by kernel_rfl, Below.refl _ _, rfl, nF⟩
    ·intro xs wk38 hBk hdep
     have HBk38 := Lib.hid hBk; have zk38 := hBk.size; clear hBk
     have f2 : (xs 2) = .pointer (some ⟨w.heap.size + 1, 1, none⟩) := hdep _ (m_ 2 rfl) (by kernel_rfl)
     clear hdep
     refine wpOp_step (o := _) rfl (fun K hK => ?_)
     simp only [FL]
     have P1_3_40 := Lib.hid (B30.out.trans (HBk38.out.mono B30.out.size))
     have Lb_39 := CB.step Lb P1_3_40.out
     have q41_0 := Lb_39.cell 0 rfl
     have q41_1 := Lb_39.cell 1 rfl
     have q41_lt := Lb_39.lt
     go_simp
     refine hK _ _ ⟨.slice B k d, by simp only [FL, f2], Below.refl _ _, rfl, nF⟩
    ·intro xs wk42 hBk hdep
     have HBk42 := Lib.hid hBk; have zk42 := hBk.size; clear hBk
     clear hdep
     refine wpOp_step (o := _) rfl (fun K hK => ?_)
     simp only [FL]
     go_simp
     refine hK _ _ ⟨.pointer (some ⟨w.heap.size, 1, none⟩), by kernel_rfl, Below.refl _ _, rfl, nF⟩
    ·intro xs wk43 hBk hdep
     have HBk43 := Lib.hid hBk; have zk43 := hBk.size; clear hBk
     have f4 : (xs 4) = .pointer (some ⟨w.heap.size, 1, none⟩) := hdep _ (m_ 4 rfl) (by kernel_rfl)
     clear hdep
     refine wpOp_step (o := _) rfl (fun K hK => ?_)
     simp only [FL]
     have P1_3_45 := Lib.hid (B30.out.trans (HBk43.out.mono B30.out.size))
     have La_44 := CB.step La P1_3_45.out
     have q46_0 := La_44.cell 0 rfl
     have q46_1 := La_44.cell 1 rfl
     have q46_lt := La_44.lt
     go_simp
     refine hK _ _ ⟨.slice A l c, by simp only [FL, f4], Below.refl _ _, rfl, nF⟩
    ·intro xs wk47 hBk hdep
     have HBk47 := Lib.hid hBk; have zk47 := hBk.size; clear hBk
     have f3 : (xs 3) = .slice B k d := hdep _ (m_ 3 rfl) (by kernel_rfl)
     have f5 : (xs 5) = .slice A l c := hdep _ (m_ 5 rfl) (by kernel_rfl)
     clear hdep
     refine wpOp_step (o := _) rfl (fun K hK => ?_)
     simp only [FL]
     go_simp
     have P1_3_48 := Lib.hid (B30.out.trans (HBk47.out.mono B30.out.size))
     have Hb_49 := Lib.hid (RN.step Hb.out P1_3_48.out)
     have Ha_50 := Lib.hid (RN.step Ha.out P1_3_48.out)
     (with_reducible refine (Minus_any _ _ _ y.natAbs x.natAbs Hb_49.out Ha_50.out (by have := HL'.out; omega) (by have := HLT.out; omega)).mono ?_)
     rintro e wc51 ⟨hb51, v51, rfl, hv51⟩
     refine hK _ _ ⟨v51, by simp only [FL, f3, f5], hb51, hv51, nF⟩
    ·intro xs wk52 hBk hdep
     have HBk52 := Lib.hid hBk; have zk52 := hBk.size; clear hBk
     have f6 : RN wk52 wk52.heap.size (xs 6) (dig (y.natAbs - x.natAbs)) := hdep _ (m_ 6 rfl) (by kernel_rfl)
     have f1 : (xs 1) = .bool m := hdep _ (m_ 1 rfl) (by kernel_rfl)
     clear hdep
     refine wpOp_step (o := _) rfl (fun K hK => ?_)
     simp only [FL]
     obtain ⟨A6, c6, hx6, -⟩ := RN.cell f6; have r6 := f6; rw [hx6] at r6 ⊢
     go_simp
     refine hK _ _ ⟨.agg #[.bool m, .slice A6 (dig (y.natAbs - x.natAbs)).length c6], by simp only [FL, f1, hx6], Below.refl _ _, WV.mk (by rw [HF.out.1]; exact r6) HF.out.2, nF⟩
   ·exact all_nil
   ·intro xs wf53 hbf hf hn hd
    have f0 : (xs 0) = .pointer (some ⟨w.heap.size + 1, 0, none⟩) := hf _ (m_ 0 rfl)
    have f1 : (xs 1) = .bool m := hf _ (m_ 1 rfl)
    have f2 : (xs 2) = .pointer (some ⟨w.heap.size + 1, 1, none⟩) := hf _ (m_ 2 rfl)
    have f3 : (xs 3) = .slice B k d := hf _ (m_ 3 rfl)
    have f4 : (xs 4) = .pointer (some ⟨w.heap.size, 1, none⟩) := hf _ (m_ 4 rfl)
    have f5 : (xs 5) = .slice A l c := hf _ (m_ 5 rfl)
    have f6 : RN wf53 wf53.heap.size (xs 6) (dig (y.natAbs - x.natAbs)) := hf _ (m_ 6 rfl)
    have f7 : WV wf53 wf53.heap.size (xs 7) (x + y) := hf _ (m_ 7 rfl)
    clear hf hn hd
    simp only [FL]
    have B54 := Lib.hid hbf
    have z54 := B54.out.size
    have HB55 := Lib.hid (HB31.out.trans (B54.out.mono HB31.out.size))
    clear hbf
    generalize xs 0 = x0 at *
    generalize xs 1 = x1 at *
    generalize xs 2 = x2 at *
    generalize xs 3 = x3 at *
    generalize xs 4 = x4 at *
    generalize xs 5 = x5 at *
    generalize xs 6 = x6 at *
    generalize xs 7 = x7 at *
    obtain rfl := f0
    obtain rfl := f1
    obtain rfl := f2
    obtain rfl := f3
    obtain rfl := f4
    obtain rfl := f5
    clear f6
    obtain ⟨on56, oA56, ol56, oc56, rfl, ha56, hb56⟩ := f7
    have Hr_56 := Lib.hid (WV.mk ha56 hb56)
    clear ha56 hb56
    have P1_3_58 := Lib.hid (B30.out.trans (B54.out.mono B30.out.size))
    have Lo_57 := CB.step Lo P1_3_58.out
    have q59_0 := Lo_57.cell 0 rfl
    have q59_1 := Lo_57.cell 1 rfl
    have q59_lt := Lo_57.lt
    have q60_0 := Lo_57.frozen 0
    have q60_1 := Lo_57.frozen 1
    have q60_lt := Lo_57.lt
    refine Early.next (i := 8) (by kernel_rfl) rfl (fun K hK => ?_)
    go_simp
    refine hK _ _ (fun _ => trivial) ?_
    clear hK K
    (try simp only [Act.put, List.setIfInBounds_toArray, List.set_cons_zero, List.set_cons_succ])
    clear q59_0 q59_1 q59_lt q60_0 q60_1 q60_lt
    refine Early.done (by kernel_rfl) ?_ _
    (try simp only [Exit.then])
    go_wp2
    exact WB.fin rfl Lo_57 (by simp [noInt_b, noInt_s]) HB55.out (by omega) Hr_56.out rfl
  ·have he0 : ¬ e < 0 := by have := he; unfold SignOf at this; omega
   have HF := Lib.hid (wplus_more hx hy hnm hlt); have HLT := Lib.hid hlt; clear hx hy he hlt hnm
   go_upto_region 5 with (fail)
   clear he0
   refine Flow.run [⟨0, 34, fun fv fw => fv = .pointer (some ⟨w.heap.size, 0, none⟩)⟩, ⟨1, 35, fun fv fw => fv = .bool n⟩, ⟨2, 36, fun fv fw => fv = .pointer (some ⟨w.heap.size, 1, none⟩)⟩, ⟨3, 37, fun fv fw => fv = .slice A l c⟩, ⟨4, 38, fun fv fw => fv = .pointer (some ⟨w.heap.size + 1, 1, none⟩)⟩, ⟨5, 39, fun fv fw => fv = .slice B k d⟩, ⟨6, 40, fun fv fw => RN fw fw.heap.size fv (dig (x.natAbs - y.natAbs))⟩, ⟨7, 41, fun fv fw => WV fw fw.heap.size fv (x + y)⟩] [] [] 1 (by kernel_rfl) (by kernel_rfl) (by kernel_rfl) (fun _ _ _ _ _ h => h) ?_ ?_ ?_ ?_
   ·refine (all_cons (fun v w1 w2 h hb => h) (all_cons (fun v w1 w2 h hb => h) (all_cons (fun v w1 w2 h hb => h) (all_cons (fun v w1 w2 h hb => h) (all_cons (fun v w1 w2 h hb => h) (all_cons (fun v w1 w2 h hb => h) (all_cons (fun v w1 w2 h hb => h.step hb) (all_cons (fun v w1 w2 h hb => h.step hb) all_nil))))))))
   ·refine (all_cons ?_ (all_cons ?_ (all_cons ?_ (all_cons ?_ (all_cons ?_ (all_cons ?_ (all_cons ?_ (all_cons ?_ all_nil))))))))
    ·intro xs wk61 hBk hdep
     have HBk61 := Lib.hid hBk; have zk61 := hBk.size; clear hBk
     clear hdep
     refine wpOp_step (o := _) rfl (fun K hK => ?_)
     simp only [FL]
     go_simp
     refine hK _ _ ⟨.pointer (some ⟨w.heap.size, 0, none⟩), by kernel_rfl, Below.refl _ _, rfl, nF⟩
    ·intro xs wk62 hBk hdep
     have HBk62 := Lib.hid hBk; have zk62 := hBk.size; clear hBk
     have f0 : (xs 0) = .pointer (some ⟨w.heap.size, 0, none⟩) := hdep _ (m_ 0 rfl) (by kernel_rfl)
     clear hdep
     refine wpOp_step (o := _) rfl (fun K hK => ?_)
     simp only [FL]
     have P1_3_64 := Lib.hid (B30.out.trans (HBk62.out.mono B30.out.size))
     have La_63 := CB.step La P1_3_64.out
     have q65_0 := La_63.cell 0 rfl
     have q65_1 := La_63.cell 1 rfl
     have q65_lt := La_63.lt
     go_simp
     refine hK _ _ ⟨.bool n, by simp only [FL, f0], Below.refl _ _, rfl, nF⟩
    ·intro xs wk66 hBk hdep
     have HBk66 := Lib.hid hBk; have zk66 := hBk.size; clear hBk
     clear hdep
     refine wpOp_step (o := _) rfl (fun K hK => ?_)
     simp only [FL]
     go_simp
     refine hK _ _ ⟨.pointer (some ⟨w.heap.size, 1, none⟩), by kernel_rfl, Below.refl _ _, rfl, nF⟩
    ·intro xs wk67 hBk hdep
     have HBk67 := Lib.hid hBk; have zk67 := hBk.size; clear hBk
     have f2 : (xs 2) = .pointer (some ⟨w.heap.size, 1, none⟩) := hdep _ (m_ 2 rfl) (by kernel_rfl)
     clear hdep
     refine wpOp_step (o := _) rfl (fun K hK => ?_)
     simp only [FL]
     have P1_3_69 := Lib.hid (B30.out.trans (HBk67.out.mono B30.out.size))
     have La_68 := CB.step La P1_3_69.out
     have q70_0 := La_68.cell 0 rfl
     have q70_1 := La_68.cell 1 rfl
     have q70_lt := La_68.lt
     go_simp
     refine hK _ _ ⟨.slice A l c, by simp only [FL, f2], Below.refl _ _, rfl, nF⟩
    ·intro xs wk71 hBk hdep
     have HBk71 := Lib.hid hBk; have zk71 := hBk.size; clear hBk
     clear hdep
     refine wpOp_step (o := _) rfl (fun K hK => ?_)
     simp only [FL]
     go_simp
     refine hK _ _ ⟨.pointer (some ⟨w.heap.size + 1, 1, none⟩), by kernel_rfl, Below.refl _ _, rfl, nF⟩
    ·intro xs wk72 hBk hdep
     have HBk72 := Lib.hid hBk; have zk72 := hBk.size; clear hBk
     have f4 : (xs 4) = .pointer (some ⟨w.heap.size + 1, 1, none⟩) := hdep _ (m_ 4 rfl) (by kernel_rfl)
     clear hdep
     refine wpOp_step (o := _) rfl (fun K hK => ?_)
     simp only [FL]
     have P1_3_74 := Lib.hid (B30.out.trans (HBk72.out.mono B30.out.size))
     have Lb_73 := CB.step Lb P1_3_74.out
     have q75_0 := Lb_73.cell 0 rfl
     have q75_1 := Lb_73.cell 1 rfl
     have q75_lt := Lb_73.lt
     go_simp
     refine hK _ _ ⟨.slice B k d, by simp only [FL, f4], Below.refl _ _, rfl, nF⟩
    ·intro xs wk76 hBk hdep
     have HBk76 := Lib.hid hBk; have zk76 := hBk.size; clear hBk
     have f3 : (xs 3) = .slice A l c := hdep _ (m_ 3 rfl) (by kernel_rfl)
     have f5 : (xs 5) = .slice B k d := hdep _ (m_ 5 rfl) (by kernel_rfl)
     clear hdep
     refine wpOp_step (o := _) rfl (fun K hK => ?_)
     simp only [FL]
     go_simp
     have P1_3_77 := Lib.hid (B30.out.trans (HBk76.out.mono B30.out.size))
     have Ha_78 := Lib.hid (RN.step Ha.out P1_3_77.out)
     have Hb_79 := Lib.hid (RN.step Hb.out P1_3_77.out)
     (with_reducible refine (Minus_any _ _ _ x.natAbs y.natAbs Ha_78.out Hb_79.out (by have := HL.out; omega) (by have := HLT.out; omega)).mono ?_)
     rintro e wc80 ⟨hb80, v80, rfl, hv80⟩
     refine hK _ _ ⟨v80, by simp only [FL, f3, f5], hb80, hv80, nF⟩
    ·intro xs wk81 hBk hdep
     have HBk81 := Lib.hid hBk; have zk81 := hBk.size; clear hBk
     have f6 : RN wk81 wk81.heap.size (xs 6) (dig (x.natAbs - y.natAbs)) := hdep _ (m_ 6 rfl) (by kernel_rfl)
     have f1 : (xs 1) = .bool n := hdep _ (m_ 1 rfl) (by kernel_rfl)
     clear hdep
     refine wpOp_step (o := _) rfl (fun K hK => ?_)
     simp only [FL]
     obtain ⟨A6, c6, hx6, -⟩ := RN.cell f6; have r6 := f6; rw [hx6] at r6 ⊢
     go_simp
     refine hK _ _ ⟨.agg #[.bool n, .slice A6 (dig (x.natAbs - y.natAbs)).length c6], by simp only [FL, f1, hx6], Below.refl _ _, WV.mk (by rw [HF.out.1]; exact r6) HF.out.2, nF⟩
   ·exact all_nil
   ·intro xs wf82 hbf hf hn hd
    have f0 : (xs 0) = .pointer (some ⟨w.heap.size, 0, none⟩) := hf _ (m_ 0 rfl)
    have f1 : (xs 1) = .bool n := hf _ (m_ 1 rfl)
    have f2 : (xs 2) = .pointer (some ⟨w.heap.size, 1, none⟩) := hf _ (m_ 2 rfl)
    have f3 : (xs 3) = .slice A l c := hf _ (m_ 3 rfl)
    have f4 : (xs 4) = .pointer (some ⟨w.heap.size + 1, 1, none⟩) := hf _ (m_ 4 rfl)
    have f5 : (xs 5) = .slice B k d := hf _ (m_ 5 rfl)
    have f6 : RN wf82 wf82.heap.size (xs 6) (dig (x.natAbs - y.natAbs)) := hf _ (m_ 6 rfl)
    have f7 : WV wf82 wf82.heap.size (xs 7) (x + y) := hf _ (m_ 7 rfl)
    clear hf hn hd
    simp only [FL]
    have B83 := Lib.hid hbf
    have z83 := B83.out.size
    have HB84 := Lib.hid (HB31.out.trans (B83.out.mono HB31.out.size))
    clear hbf
    generalize xs 0 = x0 at *
    generalize xs 1 = x1 at *
    generalize xs 2 = x2 at *
    generalize xs 3 = x3 at *
    generalize xs 4 = x4 at *
    generalize xs 5 = x5 at *
    generalize xs 6 = x6 at *
    generalize xs 7 = x7 at *
    obtain rfl := f0
    obtain rfl := f1
    obtain rfl := f2
    obtain rfl := f3
    obtain rfl := f4
    obtain rfl := f5
    clear f6
    obtain ⟨on85, oA85, ol85, oc85, rfl, ha85, hb85⟩ := f7
    have Hr_85 := Lib.hid (WV.mk ha85 hb85)
    clear ha85 hb85
    have P1_3_87 := Lib.hid (B30.out.trans (B83.out.mono B30.out.size))
    have Lo_86 := CB.step Lo P1_3_87.out
    have q88_0 := Lo_86.cell 0 rfl
    have q88_1 := Lo_86.cell 1 rfl
    have q88_lt := Lo_86.lt
    have q89_0 := Lo_86.frozen 0
    have q89_1 := Lo_86.frozen 1
    have q89_lt := Lo_86.lt
    refine Early.next (i := 8) (by kernel_rfl) rfl (fun K hK => ?_)
    go_simp
    refine hK _ _ (fun _ => trivial) ?_
    clear hK K
    (try simp only [Act.put, List.setIfInBounds_toArray, List.set_cons_zero, List.set_cons_succ])
    clear q88_0 q88_1 q88_lt q89_0 q89_1 q89_lt
    refine Early.done (by kernel_rfl) ?_ _
    (try simp only [Exit.then])
    go_wp2
    exact WB.fin rfl Lo_86 (by simp [noInt_b, noInt_s]) HB84.out (by omega) Hr_85.out rfl
end Go.Proofs.YtioclokmbgmamaaGreatDoor
