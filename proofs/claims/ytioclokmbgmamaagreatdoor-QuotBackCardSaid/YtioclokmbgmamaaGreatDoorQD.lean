/- Layer 04: Sum, Diff (written by gen_qd.py; under way). -/
import Derived.Test.YtioclokmbgmamaaGreatDoorQB
namespace Go.Proofs.YtioclokmbgmamaaGreatDoor
open Go Go.RowKit Dig
theorem bodyPost_mono {P : Program} {fn : Func} {R R' : Ending → World → Prop} {a : Act} {w : World} (h : bodyPost P fn R .ret a w) (hq : ∀ e w, R e w → R' e w) : bodyPost P fn R' .ret a w := by
 obtain ⟨hd, v, hr, hR⟩ := h
 exact ⟨hd, v, hr, hq _ _ hR⟩
def RV (w : World) (B : Nat) (v : Value) (q : Rat) : Prop := TV w B v q.num q.den
theorem RV.step {w w' : World} {v : Value} {q : Rat} (h : RV w w.heap.size v q) (hb : Below w.heap.size w w') : RV w' w'.heap.size v q := TV.step h hb
set_option maxRecDepth 100000 in
set_option maxHeartbeats 4000000 in
theorem Sum_any (w : World) (va vb : Value) (q r : Rat) (ha : RV w w.heap.size va q) (hb : RV w w.heap.size vb r) (l1 : (dig q.num.natAbs).length ≤ 20000) (l2 : (dig q.den).length ≤ 20000) (l3 : (dig r.num.natAbs).length ≤ 20000) (l4 : (dig r.den).length ≤ 20000) :
  Calls Tryz.prog 92 #[va, vb] w fun e w' => Below w.heap.size w w' ∧ ∃ v, e = .returned v ∧ RV w' w'.heap.size v (q + r) := by
 obtain ⟨n, A, l, c, A', l', c', rfl, Ha, Hd, hn⟩ := ha; obtain ⟨m, B, k, e, B', k', e', rfl, Hb, He, hm⟩ := hb
 obtain ⟨g, hg⟩ : ∃ g, g = Nat.gcd q.den r.den := ⟨_, rfl⟩; obtain ⟨x, hx⟩ : ∃ x, x = q.den / g := ⟨_, rfl⟩; obtain ⟨y, hy⟩ : ∃ y, y = r.den / g := ⟨_, rfl⟩
 obtain ⟨N, hN⟩ : ∃ N : Int, N = q.num * y + r.num * x := ⟨_, rfl⟩; obtain ⟨h, hh⟩ : ∃ h, h = Nat.gcd N.natAbs g := ⟨_, rfl⟩
 have hS := rat_sum q r hg hx hy hN hh
 have g0 : g ≠ 0 := by rw [hg]; exact fun e => q.den_nz (Nat.gcd_eq_zero_iff.1 e).1
 have h0 : h ≠ 0 := by rw [hh]; exact fun e => g0 (Nat.gcd_eq_zero_iff.1 e).2
 have lg : (dig g).length ≤ 20000 := by rw [hg]; exact dig_len_gcd _ _ l2 l4
 have lx : (dig x).length ≤ 20000 := by rw [hx]; exact Nat.le_trans (dig_len_mono (Nat.div_le_self _ _)) l2
 have ly : (dig y).length ≤ 20000 := by rw [hy]; exact Nat.le_trans (dig_len_mono (Nat.div_le_self _ _)) l4
 have p1 : (dig (q.num * y).natAbs).length ≤ 40000 := by rw [Int.natAbs_mul, Int.natAbs_natCast]; have := dig_len_mul q.num.natAbs y; omega
 have p2 : (dig (r.num * x).natAbs).length ≤ 40000 := by rw [Int.natAbs_mul, Int.natAbs_natCast]; have := dig_len_mul r.num.natAbs x; omega
 have lN : (dig N.natAbs).length ≤ 40001 := by rw [hN]; exact Nat.le_trans (dig_len_mono (Int.natAbs_add_le _ _)) (dig_len_add _ _ p1 p2)
 have lr : (dig (r.den / h)).length ≤ 20000 := Nat.le_trans (dig_len_mono (Nat.div_le_self _ _)) l4
 have HSG := Lib.hid hS; have HL := Lib.hid (And.intro l1 (And.intro l2 (And.intro l3 (And.intro l4 (And.intro lg (And.intro lx (And.intro ly (And.intro p1 (And.intro p2 (And.intro lN lr))))))))))
 have HG := Lib.hid hg; have HX := Lib.hid hx; have HY := Lib.hid hy; have HN := Lib.hid hN; have HH := Lib.hid hh; have HG0 := Lib.hid g0; have HH0 := Lib.hid h0
 clear hS l1 l2 l3 l4 lg lx ly p1 p2 lN lr hg hx hy hN hh g0 h0
 obtain ⟨w0, hw0⟩ : ∃ w0 : World, w0 = (((w.alloc (.cells #[.bool n, .slice A l c, .slice A' l' c'] 95)).alloc (.cells #[.bool m, .slice B k e, .slice B' k' e'] 95)).alloc (.cells #[.bool false, .slice none 0 0, .slice none 0 0] 95)) := ⟨_, rfl⟩
 have B0 := Lib.hid (show Below w.heap.size w w0 by rw [hw0]; (repeat' (first | exact Below.refl _ _ | refine Below.drew ?_ | refine Below.alloc ?_ (by first | exact Nat.le_refl _ | (simp; done) | (simp; omega)) _)))
 have z0 : w.heap.size + 3 ≤ w0.heap.size := by rw [hw0]; simp
 have La : CB w0 (w.heap.size) 95 #[.bool n, .slice A l c, .slice A' l' c'] := by rw [hw0]; have h := ((CB.new w 95 #[.bool n, .slice A l c, .slice A' l' c']).alloc (.cells #[.bool m, .slice B k e, .slice B' k' e'] 95)).alloc (.cells #[.bool false, .slice none 0 0, .slice none 0 0] 95); simpa using h
 have Lb : CB w0 (w.heap.size + 1) 95 #[.bool m, .slice B k e, .slice B' k' e'] := by rw [hw0]; have h := (CB.new (w.alloc (.cells #[.bool n, .slice A l c, .slice A' l' c'] 95)) 95 #[.bool m, .slice B k e, .slice B' k' e']).alloc (.cells #[.bool false, .slice none 0 0, .slice none 0 0] 95); simpa using h
 have Lo : CB w0 (w.heap.size + 2) 95 #[.bool false, .slice none 0 0, .slice none 0 0] := by rw [hw0]; have h := CB.new ((w.alloc (.cells #[.bool n, .slice A l c, .slice A' l' c'] 95)).alloc (.cells #[.bool m, .slice B k e, .slice B' k' e'] 95)) 95 #[.bool false, .slice none 0 0, .slice none 0 0]; simpa using h
 have HWA := Lib.hid (WV.mk Ha hn); have HWB := Lib.hid (WV.mk Hb hm); clear hn hm
 replace HWA := Lib.hid (WV.step HWA.out B0.out); replace HWB := Lib.hid (WV.step HWB.out B0.out); clear Ha Hb
 replace Hd := Lib.hid (RN.stepN Hd B0.out); replace He := Lib.hid (RN.stepN He B0.out)
 go_enter Tryz.func92, Tryz.ntmps92
 go_upto_region 1 with (fail)
 rw [← hw0]; clear hw0
 have q2_0 := La.cell 0 rfl
 have q2_1 := La.cell 1 rfl
 have q2_2 := La.cell 2 rfl
 have q2_lt := La.lt
 have q3_0 := Lb.cell 0 rfl
 have q3_1 := Lb.cell 1 rfl
 have q3_2 := Lb.cell 2 rfl
 have q3_lt := Lb.lt
 go_wp2_with fail
 refine (Common_any _ _ _ q.den r.den Hd.out He.out (by have := HL.out; omega) (by have := HL.out; omega)).mono ?_
 rintro e w1 ⟨hb1, vg, rfl, hg⟩
 have B4 := Lib.hid hb1
 have z4 := B4.out.size
 have HB5 := Lib.hid (B0.out.trans (B4.out.mono B0.out.size))
 clear hb1
 clear q2_0 q2_1 q2_2 q2_lt q3_0 q3_1 q3_2 q3_lt
 rw [← HG.out] at hg; obtain ⟨G, cg, rfl, -⟩ := hg.cell; have Hg := Lib.hid hg; clear hg
 go_upto_region 2 with (fail)
 refine Flow.run [⟨0, 15, fun fv fw => fv = .pointer (some ⟨w.heap.size, 2, none⟩)⟩, ⟨1, 16, fun fv fw => fv = .slice A' l' c'⟩, ⟨2, 17, fun fv fw => fv = .slice G (dig g).length cg⟩, ⟨3, 18, fun fv fw => RN fw fw.heap.size fv (dig x)⟩, ⟨4, 19, fun fv fw => fv = .pointer (some ⟨w.heap.size + 1, 2, none⟩)⟩, ⟨5, 20, fun fv fw => fv = .slice B' k' e'⟩, ⟨6, 21, fun fv fw => fv = .slice G (dig g).length cg⟩, ⟨7, 22, fun fv fw => RN fw fw.heap.size fv (dig y)⟩] [] [] 2 (by kernel_rfl) (by kernel_rfl) (by kernel_rfl) (fun _ _ _ _ _ h => h) ?_ ?_ ?_ ?_
 ·refine (all_cons (fun v w1 w2 h hb => h) (all_cons (fun v w1 w2 h hb => h) (all_cons (fun v w1 w2 h hb => h) (all_cons (fun v w1 w2 h hb => h.step hb) (all_cons (fun v w1 w2 h hb => h) (all_cons (fun v w1 w2 h hb => h) (all_cons (fun v w1 w2 h hb => h) (all_cons (fun v w1 w2 h hb => h.step hb) all_nil))))))))
 ·refine (all_cons ?_ (all_cons ?_ (all_cons ?_ (all_cons ?_ (all_cons ?_ (all_cons ?_ (all_cons ?_ (all_cons ?_ all_nil))))))))
  ·intro xs wk6 hBk hdep
   have HBk6 := Lib.hid hBk; have zk6 := hBk.size; clear hBk
   clear hdep
   refine wpOp_step (o := _) rfl (fun K hK => ?_)
   simp only [FL]
   go_simp
   refine hK _ _ ⟨.pointer (some ⟨w.heap.size, 2, none⟩), by kernel_rfl, Below.refl _ _, rfl, nF⟩
  ·intro xs wk7 hBk hdep
   have HBk7 := Lib.hid hBk; have zk7 := hBk.size; clear hBk
   have f0 : (xs 0) = .pointer (some ⟨w.heap.size, 2, none⟩) := hdep _ (m_ 0 rfl) (by kernel_rfl)
   clear hdep
   refine wpOp_step (o := _) rfl (fun K hK => ?_)
   simp only [FL]
   have P1_3_9 := Lib.hid (B4.out.trans (HBk7.out.mono B4.out.size))
   have La_8 := CB.step La P1_3_9.out
   have q10_0 := La_8.cell 0 rfl
   have q10_1 := La_8.cell 1 rfl
   have q10_2 := La_8.cell 2 rfl
   have q10_lt := La_8.lt
   go_simp
   refine hK _ _ ⟨.slice A' l' c', by simp only [FL, f0], Below.refl _ _, rfl, nF⟩
  ·intro xs wk11 hBk hdep
   have HBk11 := Lib.hid hBk; have zk11 := hBk.size; clear hBk
   clear hdep
   refine wpOp_step (o := _) rfl (fun K hK => ?_)
   simp only [FL]
   go_simp
   refine hK _ _ ⟨.slice G (dig g).length cg, by kernel_rfl, Below.refl _ _, rfl, nF⟩
  ·intro xs wk12 hBk hdep
   have HBk12 := Lib.hid hBk; have zk12 := hBk.size; clear hBk
   have f1 : (xs 1) = .slice A' l' c' := hdep _ (m_ 1 rfl) (by kernel_rfl)
   have f2 : (xs 2) = .slice G (dig g).length cg := hdep _ (m_ 2 rfl) (by kernel_rfl)
   clear hdep
   refine wpOp_step (o := _) rfl (fun K hK => ?_)
   simp only [FL]
   go_simp
   have P1_3_13 := Lib.hid (B4.out.trans (HBk12.out.mono B4.out.size))
   have Hda_14 := Lib.hid (RN.step Hd.out P1_3_13.out)
   have Hg_15 := Lib.hid (RN.step Hg.out HBk12.out)
   (with_reducible refine ((show Calls Tryz.prog _ _ _ _ from HX.out ▸ without_any _ _ _ q.den g Hda_14.out Hg_15.out HG0.out (by have := HL.out; omega))).mono ?_)
   rintro e wc16 ⟨hb16, v16, rfl, hv16⟩
   refine hK _ _ ⟨v16, by simp only [FL, f1, f2], hb16, hv16, nF⟩
  ·intro xs wk17 hBk hdep
   have HBk17 := Lib.hid hBk; have zk17 := hBk.size; clear hBk
   clear hdep
   refine wpOp_step (o := _) rfl (fun K hK => ?_)
   simp only [FL]
   go_simp
   refine hK _ _ ⟨.pointer (some ⟨w.heap.size + 1, 2, none⟩), by kernel_rfl, Below.refl _ _, rfl, nF⟩
  ·intro xs wk18 hBk hdep
   have HBk18 := Lib.hid hBk; have zk18 := hBk.size; clear hBk
   have f4 : (xs 4) = .pointer (some ⟨w.heap.size + 1, 2, none⟩) := hdep _ (m_ 4 rfl) (by kernel_rfl)
   clear hdep
   refine wpOp_step (o := _) rfl (fun K hK => ?_)
   simp only [FL]
   have P1_3_20 := Lib.hid (B4.out.trans (HBk18.out.mono B4.out.size))
   have Lb_19 := CB.step Lb P1_3_20.out
   have q21_0 := Lb_19.cell 0 rfl
   have q21_1 := Lb_19.cell 1 rfl
   have q21_2 := Lb_19.cell 2 rfl
   have q21_lt := Lb_19.lt
   go_simp
   refine hK _ _ ⟨.slice B' k' e', by simp only [FL, f4], Below.refl _ _, rfl, nF⟩
  ·intro xs wk22 hBk hdep
   have HBk22 := Lib.hid hBk; have zk22 := hBk.size; clear hBk
   clear hdep
   refine wpOp_step (o := _) rfl (fun K hK => ?_)
   simp only [FL]
   go_simp
   refine hK _ _ ⟨.slice G (dig g).length cg, by kernel_rfl, Below.refl _ _, rfl, nF⟩
  ·intro xs wk23 hBk hdep
   have HBk23 := Lib.hid hBk; have zk23 := hBk.size; clear hBk
   have f5 : (xs 5) = .slice B' k' e' := hdep _ (m_ 5 rfl) (by kernel_rfl)
   have f6 : (xs 6) = .slice G (dig g).length cg := hdep _ (m_ 6 rfl) (by kernel_rfl)
   clear hdep
   refine wpOp_step (o := _) rfl (fun K hK => ?_)
   simp only [FL]
   go_simp
   have P1_3_24 := Lib.hid (B4.out.trans (HBk23.out.mono B4.out.size))
   have Hdb_25 := Lib.hid (RN.step He.out P1_3_24.out)
   have Hg_26 := Lib.hid (RN.step Hg.out HBk23.out)
   (with_reducible refine ((show Calls Tryz.prog _ _ _ _ from HY.out ▸ without_any _ _ _ r.den g Hdb_25.out Hg_26.out HG0.out (by have := HL.out; omega))).mono ?_)
   rintro e wc27 ⟨hb27, v27, rfl, hv27⟩
   refine hK _ _ ⟨v27, by simp only [FL, f5, f6], hb27, hv27, nF⟩
 ·exact all_nil
 ·intro xs wf28 hbf hf hn hd
  have f0 : (xs 0) = .pointer (some ⟨w.heap.size, 2, none⟩) := hf _ (m_ 0 rfl)
  have f1 : (xs 1) = .slice A' l' c' := hf _ (m_ 1 rfl)
  have f2 : (xs 2) = .slice G (dig g).length cg := hf _ (m_ 2 rfl)
  have f3 : RN wf28 wf28.heap.size (xs 3) (dig x) := hf _ (m_ 3 rfl)
  have f4 : (xs 4) = .pointer (some ⟨w.heap.size + 1, 2, none⟩) := hf _ (m_ 4 rfl)
  have f5 : (xs 5) = .slice B' k' e' := hf _ (m_ 5 rfl)
  have f6 : (xs 6) = .slice G (dig g).length cg := hf _ (m_ 6 rfl)
  have f7 : RN wf28 wf28.heap.size (xs 7) (dig y) := hf _ (m_ 7 rfl)
  clear hf hn hd
  simp only [FL]
  have B29 := Lib.hid hbf
  have z29 := B29.out.size
  have HB30 := Lib.hid (HB5.out.trans (B29.out.mono HB5.out.size))
  clear hbf
  generalize xs 0 = x0 at *
  generalize xs 1 = x1 at *
  generalize xs 2 = x2 at *
  generalize xs 3 = x3 at *
  generalize xs 4 = x4 at *
  generalize xs 5 = x5 at *
  generalize xs 6 = x6 at *
  generalize xs 7 = x7 at *
  obtain rfl := f0
  obtain rfl := f1
  obtain rfl := f2
  obtain ⟨A31, c31, rfl, -⟩ := RN.cell f3
  have Hx_31 := Lib.hid f3; clear f3
  obtain rfl := f4
  obtain rfl := f5
  obtain rfl := f6
  obtain ⟨A32, c32, rfl, -⟩ := RN.cell f7
  have Hy_32 := Lib.hid f7; clear f7
  refine Early.next (i := 8) (by kernel_rfl) rfl (fun K hK => ?_)
  go_simp
  refine hK _ _ (fun _ => trivial) ?_
  clear hK K
  (try simp only [Act.put, List.setIfInBounds_toArray, List.set_cons_zero, List.set_cons_succ])
  refine Early.next (i := 9) (by kernel_rfl) rfl (fun K hK => ?_)
  go_simp
  refine hK _ _ (fun _ => trivial) ?_
  clear hK K
  (try simp only [Act.put, List.setIfInBounds_toArray, List.set_cons_zero, List.set_cons_succ])
  refine Early.done (by kernel_rfl) ?_ _
  (try simp only [Exit.then])
  go_upto_region 3 with (fail)
  refine Flow.run [⟨0, 23, fun fv fw => fv = .pointer (some ⟨w.heap.size, 0, none⟩)⟩, ⟨1, 24, fun fv fw => fv = .agg #[.bool n, .slice A l c]⟩, ⟨2, 25, fun fv fw => fv = .slice A32 ((dig y)).length c32⟩, ⟨3, 26, fun fv fw => WV fw fw.heap.size fv (q.num * (y : Int))⟩, ⟨4, 27, fun fv fw => fv = .pointer (some ⟨w.heap.size + 1, 0, none⟩)⟩, ⟨5, 28, fun fv fw => fv = .agg #[.bool m, .slice B k e]⟩, ⟨6, 29, fun fv fw => fv = .slice A31 ((dig x)).length c31⟩, ⟨7, 30, fun fv fw => WV fw fw.heap.size fv (r.num * (x : Int))⟩, ⟨8, 31, fun fv fw => WV fw fw.heap.size fv N⟩, ⟨9, 8, fun fv fw => ∃ b, fv = .pointer (some ⟨b, 0, none⟩) ∧ CB fw b 93 #[.bool false, .slice none 0 0]⟩] [] [9] 1 (by kernel_rfl) (by kernel_rfl) (by kernel_rfl) (fun _ _ _ _ _ h => h) ?_ ?_ ?_ ?_
  ·refine (all_cons (fun v w1 w2 h hb => h) (all_cons (fun v w1 w2 h hb => h) (all_cons (fun v w1 w2 h hb => h) (all_cons (fun v w1 w2 h hb => h.step hb) (all_cons (fun v w1 w2 h hb => h) (all_cons (fun v w1 w2 h hb => h) (all_cons (fun v w1 w2 h hb => h) (all_cons (fun v w1 w2 h hb => h.step hb) (all_cons (fun v w1 w2 h hb => h.step hb) (all_cons (fun v w1 w2 h hb => let ⟨b, e, h⟩ := h; ⟨b, e, h.step hb⟩) all_nil))))))))))
  ·refine (all_cons ?_ (all_cons ?_ (all_cons ?_ (all_cons ?_ (all_cons ?_ (all_cons ?_ (all_cons ?_ (all_cons ?_ (all_cons ?_ (all_cons ?_ all_nil))))))))))
   ·intro xs wk33 hBk hdep
    have HBk33 := Lib.hid hBk; have zk33 := hBk.size; clear hBk
    clear hdep
    refine wpOp_step (o := _) rfl (fun K hK => ?_)
    simp only [FL]
    go_simp
    refine hK _ _ ⟨.pointer (some ⟨w.heap.size, 0, none⟩), by kernel_rfl, Below.refl _ _, rfl, nF⟩
   ·intro xs wk34 hBk hdep
    have HBk34 := Lib.hid hBk; have zk34 := hBk.size; clear hBk
    have f0 : (xs 0) = .pointer (some ⟨w.heap.size, 0, none⟩) := hdep _ (m_ 0 rfl) (by kernel_rfl)
    clear hdep
    refine wpOp_step (o := _) rfl (fun K hK => ?_)
    simp only [FL]
    have P1_3_36 := Lib.hid (B4.out.trans (B29.out.mono B4.out.size))
    have P1_4_37 := Lib.hid (P1_3_36.out.trans (HBk34.out.mono P1_3_36.out.size))
    have La_35 := CB.step La P1_4_37.out
    have q38_0 := La_35.cell 0 rfl
    have q38_1 := La_35.cell 1 rfl
    have q38_2 := La_35.cell 2 rfl
    have q38_lt := La_35.lt
    go_simp
    refine hK _ _ ⟨.agg #[.bool n, .slice A l c], by simp only [FL, f0], Below.refl _ _, rfl, nF⟩
   ·intro xs wk39 hBk hdep
    have HBk39 := Lib.hid hBk; have zk39 := hBk.size; clear hBk
    clear hdep
    refine wpOp_step (o := _) rfl (fun K hK => ?_)
    simp only [FL]
    go_simp
    refine hK _ _ ⟨.slice A32 ((dig y)).length c32, by kernel_rfl, Below.refl _ _, rfl, nF⟩
   ·intro xs wk40 hBk hdep
    have HBk40 := Lib.hid hBk; have zk40 := hBk.size; clear hBk
    have f1 : (xs 1) = .agg #[.bool n, .slice A l c] := hdep _ (m_ 1 rfl) (by kernel_rfl)
    have f2 : (xs 2) = .slice A32 ((dig y)).length c32 := hdep _ (m_ 2 rfl) (by kernel_rfl)
    clear hdep
    refine wpOp_step (o := _) rfl (fun K hK => ?_)
    simp only [FL]
    go_simp
    have P1_3_41 := Lib.hid (B4.out.trans (B29.out.mono B4.out.size))
    have P1_4_42 := Lib.hid (P1_3_41.out.trans (HBk40.out.mono P1_3_41.out.size))
    have Hwa_43 := Lib.hid (WV.step HWA.out P1_4_42.out)
    have Hy_44 := Lib.hid (RN.step Hy_32.out HBk40.out)
    (with_reducible refine (wtimes_any _ _ _ q.num y Hwa_43.out Hy_44.out (by have := HL.out; omega) (by have := HL.out; omega)).mono ?_)
    rintro e wc45 ⟨hb45, v45, rfl, hv45⟩
    refine hK _ _ ⟨v45, by simp only [FL, f1, f2], hb45, hv45, nF⟩
   ·intro xs wk46 hBk hdep
    have HBk46 := Lib.hid hBk; have zk46 := hBk.size; clear hBk
    clear hdep
    refine wpOp_step (o := _) rfl (fun K hK => ?_)
    simp only [FL]
    go_simp
    refine hK _ _ ⟨.pointer (some ⟨w.heap.size + 1, 0, none⟩), by kernel_rfl, Below.refl _ _, rfl, nF⟩
   ·intro xs wk47 hBk hdep
    have HBk47 := Lib.hid hBk; have zk47 := hBk.size; clear hBk
    have f4 : (xs 4) = .pointer (some ⟨w.heap.size + 1, 0, none⟩) := hdep _ (m_ 4 rfl) (by kernel_rfl)
    clear hdep
    refine wpOp_step (o := _) rfl (fun K hK => ?_)
    simp only [FL]
    have P1_3_49 := Lib.hid (B4.out.trans (B29.out.mono B4.out.size))
    have P1_4_50 := Lib.hid (P1_3_49.out.trans (HBk47.out.mono P1_3_49.out.size))
    have Lb_48 := CB.step Lb P1_4_50.out
    have q51_0 := Lb_48.cell 0 rfl
    have q51_1 := Lb_48.cell 1 rfl
    have q51_2 := Lb_48.cell 2 rfl
    have q51_lt := Lb_48.lt
    go_simp
    refine hK _ _ ⟨.agg #[.bool m, .slice B k e], by simp only [FL, f4], Below.refl _ _, rfl, nF⟩
   ·intro xs wk52 hBk hdep
    have HBk52 := Lib.hid hBk; have zk52 := hBk.size; clear hBk
    clear hdep
    refine wpOp_step (o := _) rfl (fun K hK => ?_)
    simp only [FL]
    go_simp
    refine hK _ _ ⟨.slice A31 ((dig x)).length c31, by kernel_rfl, Below.refl _ _, rfl, nF⟩
   ·intro xs wk53 hBk hdep
    have HBk53 := Lib.hid hBk; have zk53 := hBk.size; clear hBk
    have f5 : (xs 5) = .agg #[.bool m, .slice B k e] := hdep _ (m_ 5 rfl) (by kernel_rfl)
    have f6 : (xs 6) = .slice A31 ((dig x)).length c31 := hdep _ (m_ 6 rfl) (by kernel_rfl)
    clear hdep
    refine wpOp_step (o := _) rfl (fun K hK => ?_)
    simp only [FL]
    go_simp
    have P1_3_54 := Lib.hid (B4.out.trans (B29.out.mono B4.out.size))
    have P1_4_55 := Lib.hid (P1_3_54.out.trans (HBk53.out.mono P1_3_54.out.size))
    have Hwb_56 := Lib.hid (WV.step HWB.out P1_4_55.out)
    have Hx_57 := Lib.hid (RN.step Hx_31.out HBk53.out)
    (with_reducible refine (wtimes_any _ _ _ r.num x Hwb_56.out Hx_57.out (by have := HL.out; omega) (by have := HL.out; omega)).mono ?_)
    rintro e wc58 ⟨hb58, v58, rfl, hv58⟩
    refine hK _ _ ⟨v58, by simp only [FL, f5, f6], hb58, hv58, nF⟩
   ·intro xs wk59 hBk hdep
    have HBk59 := Lib.hid hBk; have zk59 := hBk.size; clear hBk
    have f3 : WV wk59 wk59.heap.size (xs 3) (q.num * (y : Int)) := hdep _ (m_ 3 rfl) (by kernel_rfl)
    have f7 : WV wk59 wk59.heap.size (xs 7) (r.num * (x : Int)) := hdep _ (m_ 7 rfl) (by kernel_rfl)
    clear hdep
    refine wpOp_step (o := _) rfl (fun K hK => ?_)
    simp only [FL]
    go_simp
    (with_reducible refine (wplus_any _ _ _ (q.num * (y : Int)) (r.num * (x : Int)) f3 f7 (by have := HL.out; omega) (by have := HL.out; omega)).mono ?_)
    rintro e wc60 ⟨hb60, v60, rfl, hv60⟩
    refine hK _ _ ⟨v60, by kernel_rfl, hb60, (by rw [HN.out]; exact hv60), nF⟩
   ·intro xs wk61 hBk hdep
    have HBk61 := Lib.hid hBk; have zk61 := hBk.size; clear hBk
    clear hdep
    refine wpOp_step (o := _) rfl (fun K hK => ?_)
    simp only [FL]
    go_simp
    refine hK _ _ ⟨.pointer (some ⟨wk61.heap.size, 0, none⟩), by kernel_rfl, (Below.refl _ _).alloc (Nat.le_refl _) _, ⟨_, rfl, CB.new _ _ _⟩, fun _ => ⟨_, rfl, Nat.le_refl _, by simp⟩⟩
  ·exact all_nil
  ·intro xs wf62 hbf hf hn hd
   have f0 : (xs 0) = .pointer (some ⟨w.heap.size, 0, none⟩) := hf _ (m_ 0 rfl)
   have f1 : (xs 1) = .agg #[.bool n, .slice A l c] := hf _ (m_ 1 rfl)
   have f2 : (xs 2) = .slice A32 ((dig y)).length c32 := hf _ (m_ 2 rfl)
   have f3 : WV wf62 wf62.heap.size (xs 3) (q.num * (y : Int)) := hf _ (m_ 3 rfl)
   have f4 : (xs 4) = .pointer (some ⟨w.heap.size + 1, 0, none⟩) := hf _ (m_ 4 rfl)
   have f5 : (xs 5) = .agg #[.bool m, .slice B k e] := hf _ (m_ 5 rfl)
   have f6 : (xs 6) = .slice A31 ((dig x)).length c31 := hf _ (m_ 6 rfl)
   have f7 : WV wf62 wf62.heap.size (xs 7) (r.num * (x : Int)) := hf _ (m_ 7 rfl)
   have f8 : WV wf62 wf62.heap.size (xs 8) N := hf _ (m_ 8 rfl)
   have f9 : ∃ b, (xs 9) = .pointer (some ⟨b, 0, none⟩) ∧ CB wf62 b 93 #[.bool false, .slice none 0 0] := hf _ (m_ 9 rfl)
   have n9 := hn 9 (by decide)
   clear hf hn hd
   simp only [FL]
   have B63 := Lib.hid hbf
   have z63 := B63.out.size
   have HB64 := Lib.hid (HB30.out.trans (B63.out.mono HB30.out.size))
   clear hbf
   generalize xs 0 = x0 at *
   generalize xs 1 = x1 at *
   generalize xs 2 = x2 at *
   generalize xs 3 = x3 at *
   generalize xs 4 = x4 at *
   generalize xs 5 = x5 at *
   generalize xs 6 = x6 at *
   generalize xs 7 = x7 at *
   generalize xs 8 = x8 at *
   generalize xs 9 = x9 at *
   obtain rfl := f0
   obtain rfl := f1
   obtain rfl := f2
   clear f3
   obtain rfl := f4
   obtain rfl := f5
   obtain rfl := f6
   clear f7
   obtain ⟨on65, oA65, ol65, oc65, rfl, ha65, hb65⟩ := f8
   have HN_65 := Lib.hid (WV.mk ha65 hb65)
   clear ha65 hb65
   obtain ⟨bn66_v, rfl, Ln67_v⟩ := f9
   have hge_bn66_v := Lib.hid (show wf28.heap.size ≤ bn66_v by obtain ⟨b', e, h, -⟩ := n9; injection e with e; injection e with e; injection e with e _ _; omega)
   clear n9
   have hgb_bn66_v := Ln67_v.lt; have hgc_bn66_v := hge_bn66_v.out
   have q68_0 := Ln67_v.cell 0 rfl
   have q68_1 := Ln67_v.cell 1 rfl
   have q68_lt := Ln67_v.lt
   have q69_0 := Ln67_v.frozen 0
   have q69_1 := Ln67_v.frozen 1
   have q69_lt := Ln67_v.lt
   refine Early.next (i := 10) (by kernel_rfl) rfl (fun K hK => ?_)
   go_simp
   refine hK _ _ (fun _ => trivial) ?_
   clear hK K
   (try simp only [Act.put, List.setIfInBounds_toArray, List.set_cons_zero, List.set_cons_succ])
   clear q68_0 q68_1 q68_lt q69_0 q69_1 q69_lt
   refine Early.done (by kernel_rfl) ?_ _
   (try simp only [Exit.then])
   have P1_3_71 := Lib.hid (B4.out.trans (B29.out.mono B4.out.size))
   have P1_4_72 := Lib.hid (P1_3_71.out.trans (B63.out.mono P1_3_71.out.size))
   have La_70 := CB.step La P1_4_72.out
   have Lb_73 := CB.step Lb P1_4_72.out
   have Lo_74 := CB.step Lo P1_4_72.out
   obtain ⟨w75, hW75⟩ : ∃ w75 : World, w75 = ((wf62.setCell ⟨bn66_v, 0, none⟩ (.bool on65)).setCell ⟨bn66_v, 1, none⟩ (.slice oA65 ol65 oc65)) := ⟨_, rfl⟩
   rw [← hW75]
   have S75 := Lib.hid (show Soft wf62 w75 by rw [hW75]; exact (CB.soft1 (Ln67_v) (by simp [noInt_b, noInt_s]) 0 (.bool on65)).trans (CB.soft1 ((show CB _ (bn66_v) 93 #[.bool on65, .slice none 0 0] from CB.set (Ln67_v) 0 (.bool on65))) (by simp [noInt_b, noInt_s]) 1 (.slice oA65 ol65 oc65)))
   have La_75 : CB w75 (w.heap.size) 95 #[.bool n, .slice A l c, .slice A' l' c'] := by rw [hW75]; exact CB.far (p := ⟨bn66_v, 1, none⟩) (CB.far (p := ⟨bn66_v, 0, none⟩) (La_70) (show w.heap.size ≠ bn66_v from by omega) _) (show w.heap.size ≠ bn66_v from by omega) _
   have Lb_75 : CB w75 (w.heap.size + 1) 95 #[.bool m, .slice B k e, .slice B' k' e'] := by rw [hW75]; exact CB.far (p := ⟨bn66_v, 1, none⟩) (CB.far (p := ⟨bn66_v, 0, none⟩) (Lb_73) (show w.heap.size + 1 ≠ bn66_v from by omega) _) (show w.heap.size + 1 ≠ bn66_v from by omega) _
   have Lo_75 : CB w75 (w.heap.size + 2) 95 #[.bool false, .slice none 0 0, .slice none 0 0] := by rw [hW75]; exact CB.far (p := ⟨bn66_v, 1, none⟩) (CB.far (p := ⟨bn66_v, 0, none⟩) (Lo_74) (show w.heap.size + 2 ≠ bn66_v from by omega) _) (show w.heap.size + 2 ≠ bn66_v from by omega) _
   have Lv_75 : CB w75 (bn66_v) 93 #[.bool on65, .slice oA65 ol65 oc65] := by rw [hW75]; exact (show CB _ (bn66_v) 93 #[.bool on65, .slice oA65 ol65 oc65] from CB.set ((show CB _ (bn66_v) 93 #[.bool on65, .slice none 0 0] from CB.set (Ln67_v) 0 (.bool on65))) 1 (.slice oA65 ol65 oc65))
   have HBP75 := Lib.hid (show Below w.heap.size w w75 by rw [hW75]; exact below_set1 (below_set1 (HB64.out) (by omega) _ _) (by omega) _ _)
   have zw75 : w75.heap.size = wf62.heap.size := by rw [hW75]; simp [World.setCell]
   clear hW75
   have HN_76 := Lib.hid (WV.soft HN_65.out (S75.out))
   have HNN := Lib.hid (WV.is HN_76.out).1; have HNS := Lib.hid (WV.is HN_76.out).2
   have HRH := Lib.hid (wred HNS.out (by rw [HH.out]; exact Int.ofNat_dvd_left.2 (Nat.gcd_dvd_left _ _)) HH0.out)
   have q78_0 := Lv_75.cell 0 rfl
   have q78_1 := Lv_75.cell 1 rfl
   have q78_lt := Lv_75.lt
   go_wp2_with fail
   have Hg_79 := Lib.hid (RN.soft Hg.out (((Soft.of B29.out).trans (Soft.of B63.out)).trans (S75.out)))
   refine (Common_any _ _ _ N.natAbs g HNN.out Hg_79.out (by have := HL.out; omega) (by have := HL.out; omega)).mono ?_
   rintro e w77 ⟨hb77, vh, rfl, hh⟩
   have B80 := Lib.hid hb77
   have z80 := B80.out.size
   have HB81 := Lib.hid (HBP75.out.trans (B80.out.mono HBP75.out.size))
   clear hb77
   clear q78_0 q78_1 q78_lt
   rw [← HH.out] at hh; obtain ⟨Hp, ch, rfl, -⟩ := hh.cell; have Hh := Lib.hid hh; clear hh
   go_upto_region 5 with (fail)
   refine Flow.run [⟨0, 36, fun fv fw => fv = .pointer (some ⟨bn66_v, 0, none⟩)⟩, ⟨1, 37, fun fv fw => fv = .bool on65⟩, ⟨2, 38, fun fv fw => fv = .pointer (some ⟨bn66_v, 1, none⟩)⟩, ⟨3, 39, fun fv fw => fv = .slice oA65 ol65 oc65⟩, ⟨4, 40, fun fv fw => fv = .slice Hp (dig h).length ch⟩, ⟨5, 41, fun fv fw => RN fw fw.heap.size fv (dig (N.natAbs / h))⟩, ⟨6, 42, fun fv fw => WV fw fw.heap.size fv (N / (h : Int))⟩, ⟨7, 43, fun fv fw => fv = .slice A31 ((dig x)).length c31⟩, ⟨8, 44, fun fv fw => fv = .pointer (some ⟨w.heap.size + 1, 2, none⟩)⟩, ⟨9, 45, fun fv fw => fv = .slice B' k' e'⟩, ⟨10, 46, fun fv fw => fv = .slice Hp (dig h).length ch⟩, ⟨11, 47, fun fv fw => RN fw fw.heap.size fv (dig (r.den / h))⟩, ⟨12, 48, fun fv fw => RN fw fw.heap.size fv (dig (x * (r.den / h)))⟩, ⟨13, 49, fun fv fw => TV fw fw.heap.size fv (N / (h : Int)) (x * (r.den / h))⟩] [] [] 1 (by kernel_rfl) (by kernel_rfl) (by kernel_rfl) (fun _ _ _ _ _ h => h) ?_ ?_ ?_ ?_
   ·refine (all_cons (fun v w1 w2 h hb => h) (all_cons (fun v w1 w2 h hb => h) (all_cons (fun v w1 w2 h hb => h) (all_cons (fun v w1 w2 h hb => h) (all_cons (fun v w1 w2 h hb => h) (all_cons (fun v w1 w2 h hb => h.step hb) (all_cons (fun v w1 w2 h hb => h.step hb) (all_cons (fun v w1 w2 h hb => h) (all_cons (fun v w1 w2 h hb => h) (all_cons (fun v w1 w2 h hb => h) (all_cons (fun v w1 w2 h hb => h) (all_cons (fun v w1 w2 h hb => h.step hb) (all_cons (fun v w1 w2 h hb => h.step hb) (all_cons (fun v w1 w2 h hb => h.step hb) all_nil))))))))))))))
   ·refine (all_cons ?_ (all_cons ?_ (all_cons ?_ (all_cons ?_ (all_cons ?_ (all_cons ?_ (all_cons ?_ (all_cons ?_ (all_cons ?_ (all_cons ?_ (all_cons ?_ (all_cons ?_ (all_cons ?_ (all_cons ?_ all_nil))))))))))))))
    ·intro xs wk82 hBk hdep
     have HBk82 := Lib.hid hBk; have zk82 := hBk.size; clear hBk
     clear hdep
     refine wpOp_step (o := _) rfl (fun K hK => ?_)
     simp only [FL]
     go_simp
     refine hK _ _ ⟨.pointer (some ⟨bn66_v, 0, none⟩), by kernel_rfl, Below.refl _ _, rfl, nF⟩
    ·intro xs wk83 hBk hdep
     have HBk83 := Lib.hid hBk; have zk83 := hBk.size; clear hBk
     have f0 : (xs 0) = .pointer (some ⟨bn66_v, 0, none⟩) := hdep _ (m_ 0 rfl) (by kernel_rfl)
     clear hdep
     refine wpOp_step (o := _) rfl (fun K hK => ?_)
     simp only [FL]
     have P5_7_85 := Lib.hid (B80.out.trans (HBk83.out.mono B80.out.size))
     have Lv_84 := CB.step Lv_75 P5_7_85.out
     have q86_0 := Lv_84.cell 0 rfl
     have q86_1 := Lv_84.cell 1 rfl
     have q86_lt := Lv_84.lt
     go_simp
     refine hK _ _ ⟨.bool on65, by simp only [FL, f0], Below.refl _ _, rfl, nF⟩
    ·intro xs wk87 hBk hdep
     have HBk87 := Lib.hid hBk; have zk87 := hBk.size; clear hBk
     clear hdep
     refine wpOp_step (o := _) rfl (fun K hK => ?_)
     simp only [FL]
     go_simp
     refine hK _ _ ⟨.pointer (some ⟨bn66_v, 1, none⟩), by kernel_rfl, Below.refl _ _, rfl, nF⟩
    ·intro xs wk88 hBk hdep
     have HBk88 := Lib.hid hBk; have zk88 := hBk.size; clear hBk
     have f2 : (xs 2) = .pointer (some ⟨bn66_v, 1, none⟩) := hdep _ (m_ 2 rfl) (by kernel_rfl)
     clear hdep
     refine wpOp_step (o := _) rfl (fun K hK => ?_)
     simp only [FL]
     have P5_7_90 := Lib.hid (B80.out.trans (HBk88.out.mono B80.out.size))
     have Lv_89 := CB.step Lv_75 P5_7_90.out
     have q91_0 := Lv_89.cell 0 rfl
     have q91_1 := Lv_89.cell 1 rfl
     have q91_lt := Lv_89.lt
     go_simp
     refine hK _ _ ⟨.slice oA65 ol65 oc65, by simp only [FL, f2], Below.refl _ _, rfl, nF⟩
    ·intro xs wk92 hBk hdep
     have HBk92 := Lib.hid hBk; have zk92 := hBk.size; clear hBk
     clear hdep
     refine wpOp_step (o := _) rfl (fun K hK => ?_)
     simp only [FL]
     go_simp
     refine hK _ _ ⟨.slice Hp (dig h).length ch, by kernel_rfl, Below.refl _ _, rfl, nF⟩
    ·intro xs wk93 hBk hdep
     have HBk93 := Lib.hid hBk; have zk93 := hBk.size; clear hBk
     have f3 : (xs 3) = .slice oA65 ol65 oc65 := hdep _ (m_ 3 rfl) (by kernel_rfl)
     have f4 : (xs 4) = .slice Hp (dig h).length ch := hdep _ (m_ 4 rfl) (by kernel_rfl)
     clear hdep
     refine wpOp_step (o := _) rfl (fun K hK => ?_)
     simp only [FL]
     go_simp
     have P5_7_94 := Lib.hid (B80.out.trans (HBk93.out.mono B80.out.size))
     have HNn_95 := Lib.hid (RN.step HNN.out P5_7_94.out)
     have Hh_96 := Lib.hid (RN.step Hh.out HBk93.out)
     (with_reducible refine (without_any _ _ _ N.natAbs h HNn_95.out Hh_96.out HH0.out (by have := HL.out; omega)).mono ?_)
     rintro e wc97 ⟨hb97, v97, rfl, hv97⟩
     refine hK _ _ ⟨v97, by simp only [FL, f3, f4], hb97, hv97, nF⟩
    ·intro xs wk98 hBk hdep
     have HBk98 := Lib.hid hBk; have zk98 := hBk.size; clear hBk
     have f5 : RN wk98 wk98.heap.size (xs 5) (dig (N.natAbs / h)) := hdep _ (m_ 5 rfl) (by kernel_rfl)
     have f1 : (xs 1) = .bool on65 := hdep _ (m_ 1 rfl) (by kernel_rfl)
     clear hdep
     refine wpOp_step (o := _) rfl (fun K hK => ?_)
     simp only [FL]
     obtain ⟨A5, c5, hx5, -⟩ := RN.cell f5; have r5 := f5; rw [hx5] at r5 ⊢
     go_simp
     refine hK _ _ ⟨.agg #[.bool on65, .slice A5 (dig (N.natAbs / h)).length c5], by simp only [FL, f1, hx5], Below.refl _ _, WV.mk (by rw [HRH.out.1]; exact r5) HRH.out.2, nF⟩
    ·intro xs wk99 hBk hdep
     have HBk99 := Lib.hid hBk; have zk99 := hBk.size; clear hBk
     clear hdep
     refine wpOp_step (o := _) rfl (fun K hK => ?_)
     simp only [FL]
     go_simp
     refine hK _ _ ⟨.slice A31 ((dig x)).length c31, by kernel_rfl, Below.refl _ _, rfl, nF⟩
    ·intro xs wk100 hBk hdep
     have HBk100 := Lib.hid hBk; have zk100 := hBk.size; clear hBk
     clear hdep
     refine wpOp_step (o := _) rfl (fun K hK => ?_)
     simp only [FL]
     go_simp
     refine hK _ _ ⟨.pointer (some ⟨w.heap.size + 1, 2, none⟩), by kernel_rfl, Below.refl _ _, rfl, nF⟩
    ·intro xs wk101 hBk hdep
     have HBk101 := Lib.hid hBk; have zk101 := hBk.size; clear hBk
     have f8 : (xs 8) = .pointer (some ⟨w.heap.size + 1, 2, none⟩) := hdep _ (m_ 8 rfl) (by kernel_rfl)
     clear hdep
     refine wpOp_step (o := _) rfl (fun K hK => ?_)
     simp only [FL]
     have P5_7_103 := Lib.hid (B80.out.trans (HBk101.out.mono B80.out.size))
     have Lb_102 := CB.step Lb_75 P5_7_103.out
     have q104_0 := Lb_102.cell 0 rfl
     have q104_1 := Lb_102.cell 1 rfl
     have q104_2 := Lb_102.cell 2 rfl
     have q104_lt := Lb_102.lt
     go_simp
     refine hK _ _ ⟨.slice B' k' e', by simp only [FL, f8], Below.refl _ _, rfl, nF⟩
    ·intro xs wk105 hBk hdep
     have HBk105 := Lib.hid hBk; have zk105 := hBk.size; clear hBk
     clear hdep
     refine wpOp_step (o := _) rfl (fun K hK => ?_)
     simp only [FL]
     go_simp
     refine hK _ _ ⟨.slice Hp (dig h).length ch, by kernel_rfl, Below.refl _ _, rfl, nF⟩
    ·intro xs wk106 hBk hdep
     have HBk106 := Lib.hid hBk; have zk106 := hBk.size; clear hBk
     have f9 : (xs 9) = .slice B' k' e' := hdep _ (m_ 9 rfl) (by kernel_rfl)
     have f10 : (xs 10) = .slice Hp (dig h).length ch := hdep _ (m_ 10 rfl) (by kernel_rfl)
     clear hdep
     refine wpOp_step (o := _) rfl (fun K hK => ?_)
     simp only [FL]
     go_simp
     have Hdb_107 := Lib.hid (RN.soft He.out ((((((Soft.of B4.out).trans (Soft.of B29.out)).trans (Soft.of B63.out)).trans (S75.out)).trans (Soft.of B80.out)).trans (Soft.of HBk106.out)))
     have Hh_108 := Lib.hid (RN.step Hh.out HBk106.out)
     (with_reducible refine (without_any _ _ _ r.den h Hdb_107.out Hh_108.out HH0.out (by have := HL.out; omega)).mono ?_)
     rintro e wc109 ⟨hb109, v109, rfl, hv109⟩
     refine hK _ _ ⟨v109, by simp only [FL, f9, f10], hb109, hv109, nF⟩
    ·intro xs wk110 hBk hdep
     have HBk110 := Lib.hid hBk; have zk110 := hBk.size; clear hBk
     have f7 : (xs 7) = .slice A31 ((dig x)).length c31 := hdep _ (m_ 7 rfl) (by kernel_rfl)
     have f11 : RN wk110 wk110.heap.size (xs 11) (dig (r.den / h)) := hdep _ (m_ 11 rfl) (by kernel_rfl)
     clear hdep
     refine wpOp_step (o := _) rfl (fun K hK => ?_)
     simp only [FL]
     go_simp
     have Hx_111 := Lib.hid (RN.soft Hx_31.out ((((Soft.of B63.out).trans (S75.out)).trans (Soft.of B80.out)).trans (Soft.of HBk110.out)))
     (with_reducible refine (Times_any _ _ _ x (r.den / h) Hx_111.out f11 (by have := HL.out; omega) (by have := HL.out; omega)).mono ?_)
     rintro e wc112 ⟨hb112, v112, rfl, hv112⟩
     refine hK _ _ ⟨v112, by simp only [FL, f7], hb112, hv112, nF⟩
    ·intro xs wk113 hBk hdep
     have HBk113 := Lib.hid hBk; have zk113 := hBk.size; clear hBk
     have f6 : WV wk113 wk113.heap.size (xs 6) (N / (h : Int)) := hdep _ (m_ 6 rfl) (by kernel_rfl)
     have f12 : RN wk113 wk113.heap.size (xs 12) (dig (x * (r.den / h))) := hdep _ (m_ 12 rfl) (by kernel_rfl)
     clear hdep
     refine wpOp_step (o := _) rfl (fun K hK => ?_)
     simp only [FL]
     obtain ⟨nw6, Aw6, lw6, cw6, hw6, gw6, sw6⟩ := f6
     obtain ⟨A12, c12, hx12, -⟩ := RN.cell f12; have r12 := f12; rw [hx12] at r12 ⊢; rw [hw6]
     go_simp
     refine hK _ _ ⟨.agg #[.bool nw6, .slice Aw6 lw6 cw6, .slice A12 (dig (x * (r.den / h))).length c12], by simp only [FL, hx12, hw6], Below.refl _ _, TV.mk gw6 r12 sw6, nF⟩
   ·exact all_nil
   ·intro xs wf114 hbf hf hn hd
    have f0 : (xs 0) = .pointer (some ⟨bn66_v, 0, none⟩) := hf _ (m_ 0 rfl)
    have f1 : (xs 1) = .bool on65 := hf _ (m_ 1 rfl)
    have f2 : (xs 2) = .pointer (some ⟨bn66_v, 1, none⟩) := hf _ (m_ 2 rfl)
    have f3 : (xs 3) = .slice oA65 ol65 oc65 := hf _ (m_ 3 rfl)
    have f4 : (xs 4) = .slice Hp (dig h).length ch := hf _ (m_ 4 rfl)
    have f5 : RN wf114 wf114.heap.size (xs 5) (dig (N.natAbs / h)) := hf _ (m_ 5 rfl)
    have f6 : WV wf114 wf114.heap.size (xs 6) (N / (h : Int)) := hf _ (m_ 6 rfl)
    have f7 : (xs 7) = .slice A31 ((dig x)).length c31 := hf _ (m_ 7 rfl)
    have f8 : (xs 8) = .pointer (some ⟨w.heap.size + 1, 2, none⟩) := hf _ (m_ 8 rfl)
    have f9 : (xs 9) = .slice B' k' e' := hf _ (m_ 9 rfl)
    have f10 : (xs 10) = .slice Hp (dig h).length ch := hf _ (m_ 10 rfl)
    have f11 : RN wf114 wf114.heap.size (xs 11) (dig (r.den / h)) := hf _ (m_ 11 rfl)
    have f12 : RN wf114 wf114.heap.size (xs 12) (dig (x * (r.den / h))) := hf _ (m_ 12 rfl)
    have f13 : TV wf114 wf114.heap.size (xs 13) (N / (h : Int)) (x * (r.den / h)) := hf _ (m_ 13 rfl)
    clear hf hn hd
    simp only [FL]
    have B115 := Lib.hid hbf
    have z115 := B115.out.size
    have HB116 := Lib.hid (HB81.out.trans (B115.out.mono HB81.out.size))
    clear hbf
    generalize xs 0 = x0 at *
    generalize xs 1 = x1 at *
    generalize xs 2 = x2 at *
    generalize xs 3 = x3 at *
    generalize xs 4 = x4 at *
    generalize xs 5 = x5 at *
    generalize xs 6 = x6 at *
    generalize xs 7 = x7 at *
    generalize xs 8 = x8 at *
    generalize xs 9 = x9 at *
    generalize xs 10 = x10 at *
    generalize xs 11 = x11 at *
    generalize xs 12 = x12 at *
    generalize xs 13 = x13 at *
    obtain rfl := f0
    obtain rfl := f1
    obtain rfl := f2
    obtain rfl := f3
    obtain rfl := f4
    clear f5
    clear f6
    obtain rfl := f7
    obtain rfl := f8
    obtain rfl := f9
    obtain rfl := f10
    clear f11
    clear f12
    obtain ⟨on117, oA117, ol117, oc117, oB117, om_117, od117, rfl, ha117, hb117, hc117⟩ := f13
    have Hr_117 := Lib.hid (TV.mk ha117 hb117 hc117)
    clear ha117 hb117 hc117
    have P5_7_119 := Lib.hid (B80.out.trans (B115.out.mono B80.out.size))
    have Lo_118 := CB.step Lo_75 P5_7_119.out
    have q120_0 := Lo_118.cell 0 rfl
    have q120_1 := Lo_118.cell 1 rfl
    have q120_2 := Lo_118.cell 2 rfl
    have q120_lt := Lo_118.lt
    have q121_0 := Lo_118.frozen 0
    have q121_1 := Lo_118.frozen 1
    have q121_2 := Lo_118.frozen 2
    have q121_lt := Lo_118.lt
    refine Early.next (i := 14) (by kernel_rfl) rfl (fun K hK => ?_)
    go_simp
    refine hK _ _ (fun _ => trivial) ?_
    clear hK K
    (try simp only [Act.put, List.setIfInBounds_toArray, List.set_cons_zero, List.set_cons_succ])
    clear q120_0 q120_1 q120_2 q120_lt q121_0 q121_1 q121_2 q121_lt
    refine Early.done (by kernel_rfl) ?_ _
    (try simp only [Exit.then])
    go_wp2
    have HF := Lib.hid (show ∀ w B v, TV w B v (N / (h : Int)) (x * (r.den / h)) → RV w B v (q + r) from fun w B v t => by unfold RV; rw [HSG.out.1, HSG.out.2]; exact t)
    exact bodyPost_mono (TB.fin rfl Lo_118 (by simp [noInt_b, noInt_s]) HB116.out (by omega) Hr_117.out rfl) (fun e w' ⟨hb, v, he, hv⟩ => ⟨hb, v, he, HF.out _ _ _ hv⟩)
end Go.Proofs.YtioclokmbgmamaaGreatDoor
