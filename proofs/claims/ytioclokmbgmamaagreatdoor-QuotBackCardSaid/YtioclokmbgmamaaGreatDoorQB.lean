/- Layer 04: Sign of a whole, made, reduced (written by gen_qb.py). -/
import Derived.Test.YtioclokmbgmamaaGreatDoorQA
namespace Go.Proofs.YtioclokmbgmamaaGreatDoor
open Go Go.RowKit Dig
theorem dig_nil {z : Nat} : (dig z).length = 0 ↔ z = 0 := by
 constructor
 ·intro h
  refine Nat.eq_zero_of_not_pos fun hp => ?_
  have := dig_len_pos (n := z) (by omega)
  omega
 ·rintro rfl; rw [dig_zero]; rfl
theorem wSign_any (w : World) (v : Value) (z : Int) (h : WV w w.heap.size v z) :
  Calls Tryz.prog 59 #[v] w fun e w' => Below w.heap.size w w' ∧ e = .returned (.int .i64 z.sign) := by
 obtain ⟨n, A, l, c, rfl, h1, hn⟩ := h
 have hl := RN.len h1
 have HB := Lib.hid (below_alloc1 (Below.refl w.heap.size w) (.cells #[.bool n, .slice A l c] 93))
 by_cases hz : z = 0
 ·have hl0 : l = 0 := by rw [hl, hz, show (0 : Int).natAbs = 0 from rfl, dig_zero]; rfl
  subst hl0; subst hz
  clear h1 hl hn
  go_enter Tryz.func59, Tryz.ntmps59
  go_wp2
  go_ret
  exact ⟨HB.out, rfl⟩
 ·have hl0 : ((l : Int) == 0) = false := by rw [beq_eq_false_iff_ne, hl]; have := dig_len_pos (n := z.natAbs) (by omega); omega
  have hn1 := hn hz
  clear h1 hl hn
  by_cases hlt : z < 0
  ·rw [decide_eq_true hlt] at hn1; subst hn1
   have HS := Lib.hid (show z.sign = -1 from Int.sign_eq_neg_one_of_neg hlt)
   clear hz hlt
   go_enter Tryz.func59, Tryz.ntmps59
   go_wp2
   go_ret
   exact ⟨HB.out, by rw [HS.out]; rfl⟩
  ·rw [decide_eq_false hlt] at hn1; subst hn1
   have HS := Lib.hid (show z.sign = 1 from Int.sign_eq_one_of_pos (by omega))
   clear hz hlt
   go_enter Tryz.func59, Tryz.ntmps59
   go_wp2
   go_ret
   exact ⟨HB.out, by rw [HS.out]; rfl⟩
theorem lessR_any (w : World) (b : Nat) (va vg : Value) (a g : Nat) (ho : One w b 91 vg) (ha : RN w w.heap.size va (dig a)) (hg : RN w w.heap.size vg (dig g)) (hg0 : g ≠ 0) (hl : (dig a).length ≤ 100000) :
  Calls Tryz.prog 145 #[va, .pointer (some ⟨b, 0, none⟩)] w fun e w' => Below w.heap.size w w' ∧ ∃ v, e = .returned v ∧ RN w' w'.heap.size v (dig (a / g)) := by
 have HA := Lib.hid ha; have HG := Lib.hid hg; have H0 := Lib.hid hg0; have HL := Lib.hid hl
 obtain ⟨A, ca, rfl, -⟩ := ha.cell
 obtain ⟨B, cb, rfl, -⟩ := hg.cell
 have q0 := ho.cell
 clear ha hg hg0 hl ho
 go_enter Tryz.func145, Tryz.ntmps145
 go_wp2_with fail
 refine (without_any _ _ _ a g HA.out HG.out H0.out HL.out).mono ?_
 rintro e w1 ⟨hb, v, rfl, hv⟩
 have HBB := Lib.hid hb; have HV := Lib.hid hv; clear hb
 obtain ⟨A2, c2, rfl, -⟩ := hv.cell
 clear hv
 go_wp2
 go_ret
 exact ⟨HBB.out, _, rfl, HV.out⟩
theorem wred {z : Int} {n : Bool} {g : Nat} (h : z ≠ 0 → n = decide (z < 0)) (hg : (g : Int) ∣ z) (h0 : g ≠ 0) : (z / (g : Int)).natAbs = z.natAbs / g ∧ (z / (g : Int) ≠ 0 → n = decide (z / (g : Int) < 0)) := by
 refine ⟨natAbs_ediv_nat hg, fun hz => ?_⟩
 obtain ⟨k, rfl⟩ := hg
 rw [Int.mul_ediv_cancel_left _ (by omega)] at hz ⊢
 rw [h (Int.mul_ne_zero (by omega) hz)]
 rcases Int.lt_or_gt_of_ne hz with h1 | h1
 ·rw [decide_eq_true h1, decide_eq_true (Int.mul_neg_of_pos_of_neg (by omega) h1)]
 ·have := Int.mul_pos (show (0 : Int) < (g : Int) by omega) h1
  rw [decide_eq_false (by omega), decide_eq_false (by omega)]
set_option maxRecDepth 100000 in
set_option maxHeartbeats 4000000 in
theorem madeQ_yes (w : World) (n m : Bool) (A A' : Option Addr) (l c l' c' : Nat) :
  Calls Tryz.prog 88 #[.agg #[.bool n, .slice A l c, .bool m, .slice A' l' c'], .int .i64 0] w fun e w' => Below w.heap.size w w' ∧ e = .returned (.tuple #[.agg #[.bool n, .slice A l c, .bool m, .slice A' l' c'], .int .i64 0]) := by
 have HB := Lib.hid (below_alloc1 (below_alloc1 (Below.refl w.heap.size w) (.cells #[.bool n, .slice A l c, .bool m, .slice A' l' c'] 26)) (.cells #[.bool n, .slice A l c, .bool m, .slice A' l' c'] 26))
 have HC := Lib.hid (show CB ((w.alloc (.cells #[.bool n, .slice A l c, .bool m, .slice A' l' c'] 26)).alloc (.cells #[.bool n, .slice A l c, .bool m, .slice A' l' c'] 26)) (w.heap.size + 1) 26 #[.bool n, .slice A l c, .bool m, .slice A' l' c'] by have h := CB.new (w.alloc (.cells #[.bool n, .slice A l c, .bool m, .slice A' l' c'] 26)) 26 #[.bool n, .slice A l c, .bool m, .slice A' l' c']; simpa using h)
 go_enter Tryz.func88, Tryz.ntmps88
 go_wp2
 exact bodyPost_ret (QB.ret rfl _ HC.out rfl) rfl ⟨HB.out, rfl⟩
set_option maxRecDepth 100000 in
set_option maxHeartbeats 4000000 in
theorem madeQ_no (w : World) (n m : Bool) (A A' : Option Addr) (l c l' c' : Nat) (e : Int) (he : e ≠ 0) :
  Calls Tryz.prog 88 #[.agg #[.bool n, .slice A l c, .bool m, .slice A' l' c'], .int .i64 e] w fun r w' => Below w.heap.size w w' ∧ r = .returned (.tuple #[.agg #[.bool false, .slice none 0 0, .bool false, .slice none 0 0], .int .i64 e]) := by
 have HB := Lib.hid (below_alloc1 (below_alloc1 (below_alloc1 (Below.refl w.heap.size w) (.cells #[.bool n, .slice A l c, .bool m, .slice A' l' c'] 26)) (.cells #[.bool false, .slice none 0 0, .bool false, .slice none 0 0] 26)) (.cells #[.bool false, .slice none 0 0, .bool false, .slice none 0 0] 26))
 have HC := Lib.hid (show CB (((w.alloc (.cells #[.bool n, .slice A l c, .bool m, .slice A' l' c'] 26)).alloc (.cells #[.bool false, .slice none 0 0, .bool false, .slice none 0 0] 26)).alloc (.cells #[.bool false, .slice none 0 0, .bool false, .slice none 0 0] 26)) (w.heap.size + 1) 26 #[.bool false, .slice none 0 0, .bool false, .slice none 0 0] by have h := (CB.new (w.alloc (.cells #[.bool n, .slice A l c, .bool m, .slice A' l' c'] 26)) 26 #[.bool false, .slice none 0 0, .bool false, .slice none 0 0]).alloc (.cells #[.bool false, .slice none 0 0, .bool false, .slice none 0 0] 26); simpa using h)
 have he0 : (e == 0) = false := by rw [beq_eq_false_iff_ne]; exact he
 clear he
 go_enter Tryz.func88, Tryz.ntmps88
 go_wp2
 exact bodyPost_ret (QB.ret rfl _ HC.out rfl) rfl ⟨HB.out, rfl⟩
set_option maxRecDepth 100000 in
set_option maxHeartbeats 4000000 in
theorem reduced_any (w : World) (v : Value) (z : Int) (d : Nat) (h : TV w w.heap.size v z d) (hd : d ≠ 0) (hl : (dig z.natAbs).length ≤ 100000) (hl' : (dig d).length ≤ 100000) :
  Calls Tryz.prog 109 #[v] w fun e w' => Below w.heap.size w w' ∧ ∃ v, e = .returned v ∧ TV w' w'.heap.size v (z / (Nat.gcd z.natAbs d : Int)) (d / Nat.gcd z.natAbs d) := by
 obtain ⟨n, A, l, c, A', l', c', rfl, Ha, Hd, hn⟩ := h
 obtain ⟨g, hg⟩ : ∃ g, g = Nat.gcd z.natAbs d := ⟨_, rfl⟩; rw [← hg]
 have hg0 : g ≠ 0 := by rw [hg]; exact Nat.gcd_ne_zero_right hd
 have HF := Lib.hid (show (z / (g : Int)).natAbs = z.natAbs / g ∧ (z / (g : Int) ≠ 0 → n = decide (z / (g : Int) < 0)) from wred hn (by rw [hg]; exact Int.ofNat_dvd_left.2 (Nat.gcd_dvd_left _ _)) hg0)
 have HG := Lib.hid hg; have HG0 := Lib.hid hg0; have HL := Lib.hid hl; have HL' := Lib.hid hl'; clear hn hd hl hl' hg hg0
 obtain ⟨w0, hw0⟩ : ∃ w0 : World, w0 = ((w.alloc (.cells #[.bool n, .slice A l c, .slice A' l' c'] 95)).alloc (.cells #[.bool false, .slice none 0 0, .slice none 0 0] 95)) := ⟨_, rfl⟩
 have B0 := Lib.hid (show Below w.heap.size w w0 by rw [hw0]; (repeat' (first | exact Below.refl _ _ | refine Below.drew ?_ | refine Below.alloc ?_ (by first | exact Nat.le_refl _ | (simp; done) | (simp; omega)) _)))
 have z0 : w.heap.size + 2 ≤ w0.heap.size := by rw [hw0]; simp
 have La : CB w0 (w.heap.size) 95 #[.bool n, .slice A l c, .slice A' l' c'] := by rw [hw0]; have h := (CB.new w 95 #[.bool n, .slice A l c, .slice A' l' c']).alloc (.cells #[.bool false, .slice none 0 0, .slice none 0 0] 95); simpa using h
 have Lo : CB w0 (w.heap.size + 1) 95 #[.bool false, .slice none 0 0, .slice none 0 0] := by rw [hw0]; have h := CB.new (w.alloc (.cells #[.bool n, .slice A l c, .slice A' l' c'] 95)) 95 #[.bool false, .slice none 0 0, .slice none 0 0]; simpa using h
 replace Ha := Lib.hid (RN.stepN Ha B0.out); replace Hd := Lib.hid (RN.stepN Hd B0.out)
 go_enter Tryz.func109, Tryz.ntmps109
 go_upto_region 1 with (fail)
 rw [← hw0]; clear hw0
 have q2_0 := La.cell 0 rfl
 have q2_1 := La.cell 1 rfl
 have q2_2 := La.cell 2 rfl
 have q2_lt := La.lt
 go_wp2_with fail
 refine (Common_any _ _ _ z.natAbs d Ha.out Hd.out (by have := HL.out; omega) (by have := HL'.out; omega)).mono ?_
 rintro e w1 ⟨hb1, vg, rfl, hg⟩
 have B3 := Lib.hid hb1
 have z3 := B3.out.size
 have HB4 := Lib.hid (B0.out.trans (B3.out.mono B0.out.size))
 clear hb1
 clear q2_0 q2_1 q2_2 q2_lt
 rw [← HG.out] at hg; obtain ⟨G, cg, rfl, -⟩ := hg.cell; have Hg := Lib.hid hg; clear hg
 go_upto_region 2 with (fail)
 obtain ⟨w5, hW5⟩ : ∃ w5 : World, w5 = (w1.alloc (.cells #[.slice G (dig g).length cg] 91)) := ⟨_, rfl⟩; rw [← hW5]
 have hb5 : Below w1.heap.size w1 w5 := by rw [hW5]; (repeat' (first | exact Below.refl _ _ | refine Below.drew ?_ | refine Below.alloc ?_ (by first | exact Nat.le_refl _ | (simp; done) | (simp; omega)) _))
 have Lg_5 : CB w5 (w1.heap.size) 91 #[.slice G (dig g).length cg] := by rw [hW5]; have h := CB.new w1 91 #[.slice G (dig g).length cg]; simpa using h
 have za5 : w1.heap.size + 1 ≤ w5.heap.size := by rw [hW5]; simp
 have B6 := Lib.hid hb5
 have z6 := B6.out.size
 have HB7 := Lib.hid (HB4.out.trans (B6.out.mono HB4.out.size))
 clear hb5 hW5
 go_upto_region 3 with (fail)
 refine Flow.run [⟨0, 12, fun fv fw => fv = .pointer (some ⟨w.heap.size, 0, none⟩)⟩, ⟨1, 13, fun fv fw => fv = .pointer (some ⟨w.heap.size, 0, none⟩)⟩, ⟨2, 14, fun fv fw => fv = .bool n⟩, ⟨3, 15, fun fv fw => fv = .func (.func 145) #[] #[.pointer (some ⟨w1.heap.size, 0, none⟩)]⟩, ⟨4, 16, fun fv fw => fv = .pointer (some ⟨w.heap.size, 0, none⟩)⟩, ⟨5, 17, fun fv fw => fv = .pointer (some ⟨w.heap.size, 1, none⟩)⟩, ⟨6, 18, fun fv fw => fv = .slice A l c⟩, ⟨7, 19, fun fv fw => RN fw fw.heap.size fv (dig (z.natAbs / g))⟩, ⟨8, 20, fun fv fw => WV fw fw.heap.size fv (z / (g : Int))⟩, ⟨9, 21, fun fv fw => fv = .func (.func 145) #[] #[.pointer (some ⟨w1.heap.size, 0, none⟩)]⟩, ⟨10, 22, fun fv fw => fv = .pointer (some ⟨w.heap.size, 2, none⟩)⟩, ⟨11, 23, fun fv fw => fv = .slice A' l' c'⟩, ⟨12, 24, fun fv fw => RN fw fw.heap.size fv (dig (d / g))⟩, ⟨13, 25, fun fv fw => TV fw fw.heap.size fv (z / (g : Int)) (d / g)⟩] [] [] 1 (by kernel_rfl) (by kernel_rfl) (by kernel_rfl) (fun _ _ _ _ _ h => h) ?_ ?_ ?_ ?_
 ·refine (all_cons (fun v w1 w2 h hb => h) (all_cons (fun v w1 w2 h hb => h) (all_cons (fun v w1 w2 h hb => h) (all_cons (fun v w1 w2 h hb => h) (all_cons (fun v w1 w2 h hb => h) (all_cons (fun v w1 w2 h hb => h) (all_cons (fun v w1 w2 h hb => h) (all_cons (fun v w1 w2 h hb => h.step hb) (all_cons (fun v w1 w2 h hb => h.step hb) (all_cons (fun v w1 w2 h hb => h) (all_cons (fun v w1 w2 h hb => h) (all_cons (fun v w1 w2 h hb => h) (all_cons (fun v w1 w2 h hb => h.step hb) (all_cons (fun v w1 w2 h hb => h.step hb) all_nil))))))))))))))
 ·refine (all_cons ?_ (all_cons ?_ (all_cons ?_ (all_cons ?_ (all_cons ?_ (all_cons ?_ (all_cons ?_ (all_cons ?_ (all_cons ?_ (all_cons ?_ (all_cons ?_ (all_cons ?_ (all_cons ?_ (all_cons ?_ all_nil))))))))))))))
  ·intro xs wk8 hBk hdep
   have HBk8 := Lib.hid hBk; have zk8 := hBk.size; clear hBk
   clear hdep
   refine wpOp_step (o := _) rfl (fun K hK => ?_)
   simp only [FL]
   go_simp
   refine hK _ _ ⟨.pointer (some ⟨w.heap.size, 0, none⟩), by kernel_rfl, Below.refl _ _, rfl, nF⟩
  ·intro xs wk9 hBk hdep
   have HBk9 := Lib.hid hBk; have zk9 := hBk.size; clear hBk
   have f0 : (xs 0) = .pointer (some ⟨w.heap.size, 0, none⟩) := hdep _ (m_ 0 rfl) (by kernel_rfl)
   clear hdep
   refine wpOp_step (o := _) rfl (fun K hK => ?_)
   simp only [FL]
   go_simp
   refine hK _ _ ⟨.pointer (some ⟨w.heap.size, 0, none⟩), by simp only [FL, f0], Below.refl _ _, rfl, nF⟩
  ·intro xs wk10 hBk hdep
   have HBk10 := Lib.hid hBk; have zk10 := hBk.size; clear hBk
   have f1 : (xs 1) = .pointer (some ⟨w.heap.size, 0, none⟩) := hdep _ (m_ 1 rfl) (by kernel_rfl)
   clear hdep
   refine wpOp_step (o := _) rfl (fun K hK => ?_)
   simp only [FL]
   have P1_3_12 := Lib.hid (B3.out.trans (B6.out.mono B3.out.size))
   have P1_4_13 := Lib.hid (P1_3_12.out.trans (HBk10.out.mono P1_3_12.out.size))
   have La_11 := CB.step La P1_4_13.out
   have q14_0 := La_11.cell 0 rfl
   have q14_1 := La_11.cell 1 rfl
   have q14_2 := La_11.cell 2 rfl
   have q14_lt := La_11.lt
   go_simp
   refine hK _ _ ⟨.bool n, by simp only [FL, f1], Below.refl _ _, rfl, nF⟩
  ·intro xs wk15 hBk hdep
   have HBk15 := Lib.hid hBk; have zk15 := hBk.size; clear hBk
   clear hdep
   refine wpOp_step (o := _) rfl (fun K hK => ?_)
   simp only [FL]
   go_simp
   refine hK _ _ ⟨.func (.func 145) #[] #[.pointer (some ⟨w1.heap.size, 0, none⟩)], by kernel_rfl, Below.refl _ _, rfl, nF⟩
  ·intro xs wk16 hBk hdep
   have HBk16 := Lib.hid hBk; have zk16 := hBk.size; clear hBk
   clear hdep
   refine wpOp_step (o := _) rfl (fun K hK => ?_)
   simp only [FL]
   go_simp
   refine hK _ _ ⟨.pointer (some ⟨w.heap.size, 0, none⟩), by kernel_rfl, Below.refl _ _, rfl, nF⟩
  ·intro xs wk17 hBk hdep
   have HBk17 := Lib.hid hBk; have zk17 := hBk.size; clear hBk
   have f4 : (xs 4) = .pointer (some ⟨w.heap.size, 0, none⟩) := hdep _ (m_ 4 rfl) (by kernel_rfl)
   clear hdep
   refine wpOp_step (o := _) rfl (fun K hK => ?_)
   simp only [FL]
   go_simp
   refine hK _ _ ⟨.pointer (some ⟨w.heap.size, 1, none⟩), by simp only [FL, f4], Below.refl _ _, rfl, nF⟩
  ·intro xs wk18 hBk hdep
   have HBk18 := Lib.hid hBk; have zk18 := hBk.size; clear hBk
   have f5 : (xs 5) = .pointer (some ⟨w.heap.size, 1, none⟩) := hdep _ (m_ 5 rfl) (by kernel_rfl)
   clear hdep
   refine wpOp_step (o := _) rfl (fun K hK => ?_)
   simp only [FL]
   have P1_3_20 := Lib.hid (B3.out.trans (B6.out.mono B3.out.size))
   have P1_4_21 := Lib.hid (P1_3_20.out.trans (HBk18.out.mono P1_3_20.out.size))
   have La_19 := CB.step La P1_4_21.out
   have q22_0 := La_19.cell 0 rfl
   have q22_1 := La_19.cell 1 rfl
   have q22_2 := La_19.cell 2 rfl
   have q22_lt := La_19.lt
   go_simp
   refine hK _ _ ⟨.slice A l c, by simp only [FL, f5], Below.refl _ _, rfl, nF⟩
  ·intro xs wk23 hBk hdep
   have HBk23 := Lib.hid hBk; have zk23 := hBk.size; clear hBk
   have f3 : (xs 3) = .func (.func 145) #[] #[.pointer (some ⟨w1.heap.size, 0, none⟩)] := hdep _ (m_ 3 rfl) (by kernel_rfl)
   have f6 : (xs 6) = .slice A l c := hdep _ (m_ 6 rfl) (by kernel_rfl)
   clear hdep
   refine wpOp_step (o := _) rfl (fun K hK => ?_)
   simp only [FL]
   go_simp
   have Lg_24 := One.step Lg_5 HBk23.out
   have P1_3_25 := Lib.hid (B3.out.trans (B6.out.mono B3.out.size))
   have P1_4_26 := Lib.hid (P1_3_25.out.trans (HBk23.out.mono P1_3_25.out.size))
   have Ha_27 := Lib.hid (RN.step Ha.out P1_4_26.out)
   have P2_4_28 := Lib.hid (B6.out.trans (HBk23.out.mono B6.out.size))
   have Hg_29 := Lib.hid (RN.step Hg.out P2_4_28.out)
   (with_reducible refine (lessR_any _ _ _ _ z.natAbs g Lg_24 Ha_27.out Hg_29.out HG0.out (by have := HL.out; omega)).mono ?_)
   rintro e wc30 ⟨hb30, v30, rfl, hv30⟩
   refine hK _ _ ⟨v30, by simp only [FL, f3, f6], hb30, hv30, nF⟩
  ·intro xs wk31 hBk hdep
   have HBk31 := Lib.hid hBk; have zk31 := hBk.size; clear hBk
   have f7 : RN wk31 wk31.heap.size (xs 7) (dig (z.natAbs / g)) := hdep _ (m_ 7 rfl) (by kernel_rfl)
   have f2 : (xs 2) = .bool n := hdep _ (m_ 2 rfl) (by kernel_rfl)
   clear hdep
   refine wpOp_step (o := _) rfl (fun K hK => ?_)
   simp only [FL]
   obtain ⟨A7, c7, hx7, -⟩ := RN.cell f7; have r7 := f7; rw [hx7] at r7 ⊢
   go_simp
   refine hK _ _ ⟨.agg #[.bool n, .slice A7 (dig (z.natAbs / g)).length c7], by simp only [FL, f2, hx7], Below.refl _ _, WV.mk (by rw [HF.out.1]; exact r7) HF.out.2, nF⟩
  ·intro xs wk32 hBk hdep
   have HBk32 := Lib.hid hBk; have zk32 := hBk.size; clear hBk
   clear hdep
   refine wpOp_step (o := _) rfl (fun K hK => ?_)
   simp only [FL]
   go_simp
   refine hK _ _ ⟨.func (.func 145) #[] #[.pointer (some ⟨w1.heap.size, 0, none⟩)], by kernel_rfl, Below.refl _ _, rfl, nF⟩
  ·intro xs wk33 hBk hdep
   have HBk33 := Lib.hid hBk; have zk33 := hBk.size; clear hBk
   clear hdep
   refine wpOp_step (o := _) rfl (fun K hK => ?_)
   simp only [FL]
   go_simp
   refine hK _ _ ⟨.pointer (some ⟨w.heap.size, 2, none⟩), by kernel_rfl, Below.refl _ _, rfl, nF⟩
  ·intro xs wk34 hBk hdep
   have HBk34 := Lib.hid hBk; have zk34 := hBk.size; clear hBk
   have f10 : (xs 10) = .pointer (some ⟨w.heap.size, 2, none⟩) := hdep _ (m_ 10 rfl) (by kernel_rfl)
   clear hdep
   refine wpOp_step (o := _) rfl (fun K hK => ?_)
   simp only [FL]
   have P1_3_36 := Lib.hid (B3.out.trans (B6.out.mono B3.out.size))
   have P1_4_37 := Lib.hid (P1_3_36.out.trans (HBk34.out.mono P1_3_36.out.size))
   have La_35 := CB.step La P1_4_37.out
   have q38_0 := La_35.cell 0 rfl
   have q38_1 := La_35.cell 1 rfl
   have q38_2 := La_35.cell 2 rfl
   have q38_lt := La_35.lt
   go_simp
   refine hK _ _ ⟨.slice A' l' c', by simp only [FL, f10], Below.refl _ _, rfl, nF⟩
  ·intro xs wk39 hBk hdep
   have HBk39 := Lib.hid hBk; have zk39 := hBk.size; clear hBk
   have f9 : (xs 9) = .func (.func 145) #[] #[.pointer (some ⟨w1.heap.size, 0, none⟩)] := hdep _ (m_ 9 rfl) (by kernel_rfl)
   have f11 : (xs 11) = .slice A' l' c' := hdep _ (m_ 11 rfl) (by kernel_rfl)
   clear hdep
   refine wpOp_step (o := _) rfl (fun K hK => ?_)
   simp only [FL]
   go_simp
   have Lg_40 := One.step Lg_5 HBk39.out
   have P1_3_41 := Lib.hid (B3.out.trans (B6.out.mono B3.out.size))
   have P1_4_42 := Lib.hid (P1_3_41.out.trans (HBk39.out.mono P1_3_41.out.size))
   have Hd_43 := Lib.hid (RN.step Hd.out P1_4_42.out)
   have P2_4_44 := Lib.hid (B6.out.trans (HBk39.out.mono B6.out.size))
   have Hg_45 := Lib.hid (RN.step Hg.out P2_4_44.out)
   (with_reducible refine (lessR_any _ _ _ _ d g Lg_40 Hd_43.out Hg_45.out HG0.out (by have := HL'.out; omega)).mono ?_)
   rintro e wc46 ⟨hb46, v46, rfl, hv46⟩
   refine hK _ _ ⟨v46, by simp only [FL, f9, f11], hb46, hv46, nF⟩
  ·intro xs wk47 hBk hdep
   have HBk47 := Lib.hid hBk; have zk47 := hBk.size; clear hBk
   have f8 : WV wk47 wk47.heap.size (xs 8) (z / (g : Int)) := hdep _ (m_ 8 rfl) (by kernel_rfl)
   have f12 : RN wk47 wk47.heap.size (xs 12) (dig (d / g)) := hdep _ (m_ 12 rfl) (by kernel_rfl)
   clear hdep
   refine wpOp_step (o := _) rfl (fun K hK => ?_)
   simp only [FL]
   obtain ⟨nw8, Aw8, lw8, cw8, hw8, gw8, sw8⟩ := f8
   obtain ⟨A12, c12, hx12, -⟩ := RN.cell f12; have r12 := f12; rw [hx12] at r12 ⊢; rw [hw8]
   go_simp
   refine hK _ _ ⟨.agg #[.bool nw8, .slice Aw8 lw8 cw8, .slice A12 (dig (d / g)).length c12], by simp only [FL, hx12, hw8], Below.refl _ _, TV.mk gw8 r12 sw8, nF⟩
 ·exact all_nil
 ·intro xs wf48 hbf hf hn hd
  have f0 : (xs 0) = .pointer (some ⟨w.heap.size, 0, none⟩) := hf _ (m_ 0 rfl)
  have f1 : (xs 1) = .pointer (some ⟨w.heap.size, 0, none⟩) := hf _ (m_ 1 rfl)
  have f2 : (xs 2) = .bool n := hf _ (m_ 2 rfl)
  have f3 : (xs 3) = .func (.func 145) #[] #[.pointer (some ⟨w1.heap.size, 0, none⟩)] := hf _ (m_ 3 rfl)
  have f4 : (xs 4) = .pointer (some ⟨w.heap.size, 0, none⟩) := hf _ (m_ 4 rfl)
  have f5 : (xs 5) = .pointer (some ⟨w.heap.size, 1, none⟩) := hf _ (m_ 5 rfl)
  have f6 : (xs 6) = .slice A l c := hf _ (m_ 6 rfl)
  have f7 : RN wf48 wf48.heap.size (xs 7) (dig (z.natAbs / g)) := hf _ (m_ 7 rfl)
  have f8 : WV wf48 wf48.heap.size (xs 8) (z / (g : Int)) := hf _ (m_ 8 rfl)
  have f9 : (xs 9) = .func (.func 145) #[] #[.pointer (some ⟨w1.heap.size, 0, none⟩)] := hf _ (m_ 9 rfl)
  have f10 : (xs 10) = .pointer (some ⟨w.heap.size, 2, none⟩) := hf _ (m_ 10 rfl)
  have f11 : (xs 11) = .slice A' l' c' := hf _ (m_ 11 rfl)
  have f12 : RN wf48 wf48.heap.size (xs 12) (dig (d / g)) := hf _ (m_ 12 rfl)
  have f13 : TV wf48 wf48.heap.size (xs 13) (z / (g : Int)) (d / g) := hf _ (m_ 13 rfl)
  clear hf hn hd
  simp only [FL]
  have B49 := Lib.hid hbf
  have z49 := B49.out.size
  have HB50 := Lib.hid (HB7.out.trans (B49.out.mono HB7.out.size))
  clear hbf
  generalize xs 0 = x0 at *
  generalize xs 1 = x1 at *
  generalize xs 2 = x2 at *
  generalize xs 3 = x3 at *
  generalize xs 4 = x4 at *
  generalize xs 5 = x5 at *
  generalize xs 6 = x6 at *
  generalize xs 7 = x7 at *
  generalize xs 8 = x8 at *
  generalize xs 9 = x9 at *
  generalize xs 10 = x10 at *
  generalize xs 11 = x11 at *
  generalize xs 12 = x12 at *
  generalize xs 13 = x13 at *
  obtain rfl := f0
  obtain rfl := f1
  obtain rfl := f2
  obtain rfl := f3
  obtain rfl := f4
  obtain rfl := f5
  obtain rfl := f6
  clear f7
  clear f8
  obtain rfl := f9
  obtain rfl := f10
  obtain rfl := f11
  clear f12
  obtain ⟨on51, oA51, ol51, oc51, oB51, om_51, od51, rfl, ha51, hb51, hc51⟩ := f13
  have Hr_51 := Lib.hid (TV.mk ha51 hb51 hc51)
  clear ha51 hb51 hc51
  have P1_3_53 := Lib.hid (B3.out.trans (B6.out.mono B3.out.size))
  have P1_4_54 := Lib.hid (P1_3_53.out.trans (B49.out.mono P1_3_53.out.size))
  have Lo_52 := CB.step Lo P1_4_54.out
  have q55_0 := Lo_52.cell 0 rfl
  have q55_1 := Lo_52.cell 1 rfl
  have q55_2 := Lo_52.cell 2 rfl
  have q55_lt := Lo_52.lt
  have q56_0 := Lo_52.frozen 0
  have q56_1 := Lo_52.frozen 1
  have q56_2 := Lo_52.frozen 2
  have q56_lt := Lo_52.lt
  refine Early.next (i := 14) (by kernel_rfl) rfl (fun K hK => ?_)
  go_simp
  refine hK _ _ (fun _ => trivial) ?_
  clear hK K
  (try simp only [Act.put, List.setIfInBounds_toArray, List.set_cons_zero, List.set_cons_succ])
  clear q55_0 q55_1 q55_2 q55_lt q56_0 q56_1 q56_2 q56_lt
  refine Early.done (by kernel_rfl) ?_ _
  (try simp only [Exit.then])
  go_wp2
  exact TB.fin rfl Lo_52 (by simp [noInt_b, noInt_s]) HB50.out (by omega) Hr_51.out rfl
end Go.Proofs.YtioclokmbgmamaaGreatDoor
