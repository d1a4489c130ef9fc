/- The law DecRounds (written by gen_decrounds.py). -/
import Derived.Test.YtfklkphoplpebaaGreatDoorDecDr
import Derived.Test.YtfklkphoplpebaaGreatDoorRRound
namespace Go.Proofs.YtfklkphoplpebaaGreatDoor
open Go Go.RowKit Dig

theorem idxP3 (a0 a1 b0 b1 c0 c1 : Int) (j : Nat) (h : j < 3) :
    ∃ lo hi : Int, ∀ w, (Instr.index 42 (.agg #[.int .i64 a0, .int .i64 a1, .int .i64 b0, .int .i64 b1, .int .i64 c0, .int .i64 c1]) (.int .i64 (j : Int))).run Tryz.prog w = .ok (.agg #[.int .i64 lo, .int .i64 hi]) w := by
  match j, h with
  | 0, _ => exact ⟨a0, a1, fun _ => by kernel_rfl⟩
  | 1, _ => exact ⟨b0, b1, fun _ => by kernel_rfl⟩
  | 2, _ => exact ⟨c0, c1, fun _ => by kernel_rfl⟩
set_option linter.unusedVariables false in
set_option maxRecDepth 100000 in
set_option maxHeartbeats 4000000 in
theorem DecRounds_any (w : World) (G : Glob w) (M : MaxL w) (lo hi : Int) (hl0 : -9223372036854775808 ≤ lo) (hl1 : lo ≤ 9223372036854775807) (hh0 : -9223372036854775808 ≤ hi) (hh1 : hi ≤ 9223372036854775807)
    (a b c : Int) (ha0 : -9223372036854775808 ≤ a) (ha1 : a ≤ 9223372036854775807) (hb0 : 0 ≤ b) (hb1 : b ≤ 255) (hc0 : 0 ≤ c) (hc1 : c ≤ 4294967295) (d : Int) (hd0 : -9223372036854775808 ≤ d) (hd1 : d ≤ 9223372036854775807) (up : Bool) :
    Calls Tryz.prog 5 #[.agg #[.int .i64 lo, .int .i64 hi], .agg #[.int .i64 a, .int .u8 b, .int .u32 c], .int .i64 d, .bool up] w fun e w' => Below w.heap.size w w' ∧ e = .returned (.bool true) := by
  obtain ⟨w0, hw0⟩ : ∃ w0 : World, w0 = ((w.alloc (.cells #[.int .i64 lo, .int .i64 hi] 37)).alloc (.cells #[.int .i64 a, .int .u8 b, .int .u32 c] 40)) := ⟨_, rfl⟩
  have B0 := Lib.hid (show Below w.heap.size w w0 by rw [hw0]; (repeat' (first | exact Below.refl _ _ | refine Below.drew ?_ | refine Below.alloc ?_ (by first | exact Nat.le_refl _ | (simp; done) | (simp; omega)) _)))
  have z0 : w.heap.size + 2 ≤ w0.heap.size := by rw [hw0]; simp
  have La : CB w0 (w.heap.size) 37 #[.int .i64 lo, .int .i64 hi] := by rw [hw0]; have h := (CB.new w 37 #[.int .i64 lo, .int .i64 hi]).alloc (.cells #[.int .i64 a, .int .u8 b, .int .u32 c] 40); simpa using h
  have Lx : CB w0 (w.heap.size + 1) 40 #[.int .i64 a, .int .u8 b, .int .u32 c] := by rw [hw0]; have h := CB.new (w.alloc (.cells #[.int .i64 lo, .int .i64 hi] 37)) 40 #[.int .i64 a, .int .u8 b, .int .u32 c]; simpa using h
  go_enter Tryz.func5, Tryz.ntmps5
  go_upto_region 1 with (fail)
  rw [← hw0]; clear hw0
  go_wp2_with fail
  refine (worksD_any _ (G.step B0.out) (M.step B0.out)).mono ?_
  rintro e w1 ⟨hb1, rfl⟩
  have B2 := Lib.hid hb1
  have z2 := B2.out.size
  have HB3 := Lib.hid (B0.out.trans (B2.out.mono B0.out.size))
  clear hb1
  go_upto_region 3 with (fail)
  clear hl0 hl1 hh0 hh1 ha0 ha1
  refine Flow.run [⟨0, 23, fun fv fw => fv = .agg #[.int .i64 lo, .int .i64 hi]⟩, ⟨1, 24, fun fv fw => fv = .agg #[.int .i64 a, .int .u8 b, .int .u32 c]⟩, ⟨2, 25, fun fv fw => ∃ lo hi : Int, fv = .agg #[.int .i64 lo, .int .i64 hi]⟩, ⟨3, 26, fun fv fw => fv = .agg #[.int .i64 a, .int .u8 b, .int .u32 c]⟩, ⟨4, 27, fun fv fw => ∃ lo hi : Int, fv = .agg #[.int .i64 lo, .int .i64 hi]⟩, ⟨5, 28, fun fv fw => ∃ l2 h2 l4 h4 : Int, fv = .agg #[.int .i64 lo, .int .i64 hi, .int .i64 l2, .int .i64 h2, .int .i64 l4, .int .i64 h4]⟩, ⟨6, 29, fun fv fw => fv = .int .i64 0⟩] [] [] 0 (by kernel_rfl) (by kernel_rfl) (by kernel_rfl) (fun _ _ _ _ _ h => h) ?_ ?_ ?_ ?_
  · refine (all_cons (fun v w1 w2 h hb => h) (all_cons (fun v w1 w2 h hb => h) (all_cons (fun v w1 w2 h hb => h) (all_cons (fun v w1 w2 h hb => h) (all_cons (fun v w1 w2 h hb => h) (all_cons (fun v w1 w2 h hb => h) (all_cons (fun v w1 w2 h hb => h) all_nil)))))))
  · refine (all_cons ?_ (all_cons ?_ (all_cons ?_ (all_cons ?_ (all_cons ?_ (all_cons ?_ (all_cons ?_ all_nil)))))))
    · intro xs wk4 hBk hdep
      have HBk4 := Lib.hid hBk; have zk4 := hBk.size; clear hBk
      clear hdep
      refine wpOp_step (o := _) rfl (fun K hK => ?_)
      simp only [fpairs, List.cons_append, List.nil_append, List.map_cons, List.map_nil, putAll, Act.put, List.setIfInBounds_toArray, List.set_cons_zero, List.set_cons_succ]
      have P1_3_6 := Lib.hid (B2.out.trans (HBk4.out.mono B2.out.size))
      have La_5 := CB.step La P1_3_6.out
      have q7_0 := La_5.cell 0 rfl
      have q7_1 := La_5.cell 1 rfl
      have q7_lt := La_5.lt
      go_simp
      refine hK _ _ ⟨.agg #[.int .i64 lo, .int .i64 hi], by kernel_rfl, Below.refl _ _, rfl, fun h => absurd (show false = true from h) Bool.false_ne_true⟩
    · intro xs wk8 hBk hdep
      have HBk8 := Lib.hid hBk; have zk8 := hBk.size; clear hBk
      clear hdep
      refine wpOp_step (o := _) rfl (fun K hK => ?_)
      simp only [fpairs, List.cons_append, List.nil_append, List.map_cons, List.map_nil, putAll, Act.put, List.setIfInBounds_toArray, List.set_cons_zero, List.set_cons_succ]
      have P1_3_10 := Lib.hid (B2.out.trans (HBk8.out.mono B2.out.size))
      have Lx_9 := CB.step Lx P1_3_10.out
      have q11_0 := Lx_9.cell 0 rfl
      have q11_1 := Lx_9.cell 1 rfl
      have q11_2 := Lx_9.cell 2 rfl
      have q11_lt := Lx_9.lt
      go_simp
      refine hK _ _ ⟨.agg #[.int .i64 a, .int .u8 b, .int .u32 c], by kernel_rfl, Below.refl _ _, rfl, fun h => absurd (show false = true from h) Bool.false_ne_true⟩
    · intro xs wk12 hBk hdep
      have HBk12 := Lib.hid hBk; have zk12 := hBk.size; clear hBk
      have f1 : (xs 1) = .agg #[.int .i64 a, .int .u8 b, .int .u32 c] := hdep _ (List.mem_of_getElem? (i := 1) rfl) (by kernel_rfl)
      clear hdep
      refine wpOp_step (o := _) rfl (fun K hK => ?_)
      simp only [fpairs, List.cons_append, List.nil_append, List.map_cons, List.map_nil, putAll, Act.put, List.setIfInBounds_toArray, List.set_cons_zero, List.set_cons_succ]
      go_simp
      (with_reducible refine (DSpan_any _ a b c hb0 hb1 hc0 hc1).mono ?_)
      rintro e wc13 ⟨hb13, l13, h13, rfl, -⟩
      refine hK _ _ ⟨.agg #[.int .i64 l13, .int .i64 h13], by simp only [fpairs, List.cons_append, List.nil_append, List.map_cons, List.map_nil, putAll, Act.put, List.setIfInBounds_toArray, List.set_cons_zero, List.set_cons_succ, f1], hb13, ⟨l13, h13, rfl⟩, fun h => absurd (show false = true from h) Bool.false_ne_true⟩
    · intro xs wk14 hBk hdep
      have HBk14 := Lib.hid hBk; have zk14 := hBk.size; clear hBk
      clear hdep
      refine wpOp_step (o := _) rfl (fun K hK => ?_)
      simp only [fpairs, List.cons_append, List.nil_append, List.map_cons, List.map_nil, putAll, Act.put, List.setIfInBounds_toArray, List.set_cons_zero, List.set_cons_succ]
      have P1_3_16 := Lib.hid (B2.out.trans (HBk14.out.mono B2.out.size))
      have Lx_15 := CB.step Lx P1_3_16.out
      have q17_0 := Lx_15.cell 0 rfl
      have q17_1 := Lx_15.cell 1 rfl
      have q17_2 := Lx_15.cell 2 rfl
      have q17_lt := Lx_15.lt
      go_simp
      refine hK _ _ ⟨.agg #[.int .i64 a, .int .u8 b, .int .u32 c], by kernel_rfl, Below.refl _ _, rfl, fun h => absurd (show false = true from h) Bool.false_ne_true⟩
    · intro xs wk18 hBk hdep
      have HBk18 := Lib.hid hBk; have zk18 := hBk.size; clear hBk
      have f3 : (xs 3) = .agg #[.int .i64 a, .int .u8 b, .int .u32 c] := hdep _ (List.mem_of_getElem? (i := 3) rfl) (by kernel_rfl)
      clear hdep
      refine wpOp_step (o := _) rfl (fun K hK => ?_)
      simp only [fpairs, List.cons_append, List.nil_append, List.map_cons, List.map_nil, putAll, Act.put, List.setIfInBounds_toArray, List.set_cons_zero, List.set_cons_succ]
      go_simp
      (with_reducible refine (DSmall_any _ a b c hb0 hb1).mono ?_)
      rintro e wc19 ⟨hb19, l19, h19, rfl, -⟩
      refine hK _ _ ⟨.agg #[.int .i64 l19, .int .i64 h19], by simp only [fpairs, List.cons_append, List.nil_append, List.map_cons, List.map_nil, putAll, Act.put, List.setIfInBounds_toArray, List.set_cons_zero, List.set_cons_succ, f3], hb19, ⟨l19, h19, rfl⟩, fun h => absurd (show false = true from h) Bool.false_ne_true⟩
    · intro xs wk20 hBk hdep
      have HBk20 := Lib.hid hBk; have zk20 := hBk.size; clear hBk
      have f0 : (xs 0) = .agg #[.int .i64 lo, .int .i64 hi] := hdep _ (List.mem_of_getElem? (i := 0) rfl) (by kernel_rfl)
      have f2 : ∃ lo hi : Int, (xs 2) = .agg #[.int .i64 lo, .int .i64 hi] := hdep _ (List.mem_of_getElem? (i := 2) rfl) (by kernel_rfl)
      have f4 : ∃ lo hi : Int, (xs 4) = .agg #[.int .i64 lo, .int .i64 hi] := hdep _ (List.mem_of_getElem? (i := 4) rfl) (by kernel_rfl)
      clear hdep
      refine wpOp_step (o := _) rfl (fun K hK => ?_)
      simp only [fpairs, List.cons_append, List.nil_append, List.map_cons, List.map_nil, putAll, Act.put, List.setIfInBounds_toArray, List.set_cons_zero, List.set_cons_succ]
      obtain ⟨l2, h2, hu2⟩ := f2; obtain ⟨l4, h4, hu4⟩ := f4; rw [hu2, hu4]
      go_simp
      refine hK _ _ ⟨.agg #[.int .i64 lo, .int .i64 hi, .int .i64 l2, .int .i64 h2, .int .i64 l4, .int .i64 h4], by simp only [fpairs, List.cons_append, List.nil_append, List.map_cons, List.map_nil, putAll, Act.put, List.setIfInBounds_toArray, List.set_cons_zero, List.set_cons_succ, f0, hu2, hu4], Below.refl _ _, ⟨l2, h2, l4, h4, rfl⟩, fun h => absurd (show false = true from h) Bool.false_ne_true⟩
    · intro xs wk21 hBk hdep
      have HBk21 := Lib.hid hBk; have zk21 := hBk.size; clear hBk
      clear hdep
      refine wpOp_step (o := _) rfl (fun K hK => ?_)
      simp only [fpairs, List.cons_append, List.nil_append, List.map_cons, List.map_nil, putAll, Act.put, List.setIfInBounds_toArray, List.set_cons_zero, List.set_cons_succ]
      go_simp
      refine hK _ _ ⟨.int .i64 0, by kernel_rfl, Below.refl _ _, rfl, fun h => absurd (show false = true from h) Bool.false_ne_true⟩
  · exact all_nil
  · intro xs wf22 hbf hf hn hd
    have f0 : (xs 0) = .agg #[.int .i64 lo, .int .i64 hi] := hf _ (List.mem_of_getElem? (i := 0) rfl)
    have f1 : (xs 1) = .agg #[.int .i64 a, .int .u8 b, .int .u32 c] := hf _ (List.mem_of_getElem? (i := 1) rfl)
    have f2 : ∃ lo hi : Int, (xs 2) = .agg #[.int .i64 lo, .int .i64 hi] := hf _ (List.mem_of_getElem? (i := 2) rfl)
    have f3 : (xs 3) = .agg #[.int .i64 a, .int .u8 b, .int .u32 c] := hf _ (List.mem_of_getElem? (i := 3) rfl)
    have f4 : ∃ lo hi : Int, (xs 4) = .agg #[.int .i64 lo, .int .i64 hi] := hf _ (List.mem_of_getElem? (i := 4) rfl)
    have f5 : ∃ l2 h2 l4 h4 : Int, (xs 5) = .agg #[.int .i64 lo, .int .i64 hi, .int .i64 l2, .int .i64 h2, .int .i64 l4, .int .i64 h4] := hf _ (List.mem_of_getElem? (i := 5) rfl)
    have f6 : (xs 6) = .int .i64 0 := hf _ (List.mem_of_getElem? (i := 6) rfl)
    clear hf hn hd
    simp only [fpairs, List.cons_append, List.nil_append, List.map_cons, List.map_nil, putAll, Act.put, List.setIfInBounds_toArray, List.set_cons_zero, List.set_cons_succ]
    have B23 := Lib.hid hbf
    have z23 := B23.out.size
    have HB24 := Lib.hid (HB3.out.trans (B23.out.mono HB3.out.size))
    clear hbf
    generalize xs 0 = x0 at *
    generalize xs 1 = x1 at *
    generalize xs 2 = x2 at *
    generalize xs 3 = x3 at *
    generalize xs 4 = x4 at *
    generalize xs 5 = x5 at *
    generalize xs 6 = x6 at *
    obtain rfl := f0
    obtain rfl := f1
    obtain ⟨l2, h2, rfl⟩ := f2
    obtain rfl := f3
    obtain ⟨l4, h4, rfl⟩ := f4
    obtain ⟨p2, q2, p4, q4, rfl⟩ := f5
    obtain rfl := f6
    refine Early.done (by kernel_rfl) ?_ _
    (try simp only [Exit.then])
    go_wp2
    go_loopw [29] (fun iv wr => ∃ o : Nat, o ≤ 3 ∧ iv = .int .i64 o ∧ Hid (Below w.heap.size w wr)) (fun iv _ => 3 - (intOf iv).toNat)
    case atStart => exact ⟨0, Nat.zero_le _, rfl, HB24⟩
    case round =>
      obtain ⟨o, hon, rfl, HBo⟩ := hrel
      obtain ⟨wo, hwo⟩ : ∃ x : World, x = wr := ⟨_, rfl⟩; subst hwo
      by_cases hlt : o < 3
      · skip
        have hlti : (o : Int) < 3 := by omega
        obtain ⟨lo2, hi2, hidx⟩ := idxP3 lo hi p2 q2 p4 q4 o hlt
        go_upto_region 6 with (fail)
        obtain ⟨wv, hwv⟩ : ∃ x : World, x = wo.alloc (.cells #[.int .i64 lo2, .int .i64 hi2] 37) := ⟨_, rfl⟩; rw [← hwv]
        have hbv : Below wo.heap.size wo wv := by rw [hwv]; exact below_alloc1 (Below.refl _ _) _
        have LS : CB wv wo.heap.size 37 #[.int .i64 lo2, .int .i64 hi2] := by rw [hwv]; exact CB.new _ _ _
        clear hwv hidx
        have B25 := Lib.hid hbv
        have z25 := B25.out.size
        have HB26 := Lib.hid (HBo.out.trans (B25.out.mono HBo.out.size))
        clear hbv
        go_wp2_with fail
        refine (placesD_any _ d).mono ?_
        rintro e w27 ⟨hb27, p, hp0, hp1, rfl⟩
        have B28 := Lib.hid hb27
        have z28 := B28.out.size
        have HB29 := Lib.hid (HB26.out.trans (B28.out.mono HB26.out.size))
        clear hb27
        have Ls_30 := CB.step LS B28.out
        have HS := Lib.hid Ls_30; clear Ls_30
        go_wp2
        go_loopw [34] (fun iv wr => ∃ k : Nat, k ≤ 2 ∧ iv = .int .i64 k ∧ Hid (CB wr wo.heap.size 37 #[.int .i64 lo2, .int .i64 hi2]) ∧ Hid (Below w.heap.size w wr)) (fun iv _ => 2 - (intOf iv).toNat)
        case atStart => exact ⟨0, Nat.zero_le _, rfl, HS, HB29⟩
        case round =>
          clear HS
          obtain ⟨k, hkn, rfl, HS, HBk⟩ := hrel
          obtain ⟨wk, hwk⟩ : ∃ x : World, x = wr := ⟨_, rfl⟩; subst hwk
          have LS := HS.out
          by_cases hlt2 : k < 2
          · skip
            have hlt2i : (k : Int) < 2 := by omega
            obtain ⟨q, hq, hidx⟩ := idxT2 d p k hlt2
            clear hq
            obtain ⟨r, hr⟩ : ∃ r, r = fixedD lo2 q up := ⟨_, rfl⟩; have HR := Lib.hid hr; clear hr
            obtain ⟨r', hr'⟩ : ∃ r, r = bothD lo2 hi2 q := ⟨_, rfl⟩; have HR' := Lib.hid hr'; clear hr'
            have q32_0 := LS.cell 0 rfl
            have q32_1 := LS.cell 1 rfl
            have q32_lt := LS.lt
            go_wp2_with fail
            refine (DFixed_any _ lo2 q up (G.step HBk.out)).mono ?_
            rintro e w31 ⟨hb31, t1, rfl, ht1⟩
            have B33 := Lib.hid hb31
            have z33 := B33.out.size
            have HB34 := Lib.hid (HBk.out.trans (B33.out.mono HBk.out.size))
            clear hb31
            clear q32_0 q32_1 q32_lt
            rw [← HR.out] at ht1 ⊢; have HT1 := Lib.hid ht1; clear ht1 hidx
            have Ls_36 := CB.step LS B33.out
            have q37_0 := Ls_36.cell 0 rfl
            have q37_1 := Ls_36.cell 1 rfl
            have q37_lt := Ls_36.lt
            go_wp2_with fail
            refine (RFixed_any _ lo2 q up).mono ?_
            rintro e w35 ⟨hb35, t2, rfl, ht2⟩
            have B38 := Lib.hid hb35
            have z38 := B38.out.size
            have HB39 := Lib.hid (HB34.out.trans (B38.out.mono HB34.out.size))
            clear hb35
            clear q37_0 q37_1 q37_lt
            rw [← HR.out] at ht2 ⊢; have HT2 := Lib.hid ht2; clear ht2
            have Ls_41 := CB.step Ls_36 B38.out
            have q42_0 := Ls_41.cell 0 rfl
            have q42_1 := Ls_41.cell 1 rfl
            have q42_lt := Ls_41.lt
            go_wp2_with fail
            refine (DBoth_any _ lo2 hi2 q (G.step HB39.out)).mono ?_
            rintro e w40 ⟨hb40, t3, rfl, ht3⟩
            have B43 := Lib.hid hb40
            have z43 := B43.out.size
            have HB44 := Lib.hid (HB39.out.trans (B43.out.mono HB39.out.size))
            clear hb40
            clear q42_0 q42_1 q42_lt
            rw [← HR'.out] at ht3 ⊢; have HT3 := Lib.hid ht3; clear ht3
            have Ls_46 := CB.step Ls_41 B43.out
            have q47_0 := Ls_46.cell 0 rfl
            have q47_1 := Ls_46.cell 1 rfl
            have q47_lt := Ls_46.lt
            go_wp2_with fail
            refine (RBoth_any _ lo2 hi2 q).mono ?_
            rintro e w45 ⟨hb45, t4, rfl, ht4⟩
            have B48 := Lib.hid hb45
            have z48 := B48.out.size
            have HB49 := Lib.hid (HB44.out.trans (B48.out.mono HB44.out.size))
            clear hb45
            clear q47_0 q47_1 q47_lt
            rw [← HR'.out] at ht4 ⊢; have HT4 := Lib.hid ht4; clear ht4
            have heq1 : (t1.toList == t2.toList) = true := by rw [beq_str, HT1.out, HT2.out]; simp
            have heq2 : (t3.toList == t4.toList) = true := by rw [beq_str, HT3.out, HT4.out]; simp
            clear HR HR' HT1 HT2 HT3 HT4
            go_wp2
            go_roundw
            have Ls_50 := CB.step Ls_46 B48.out
            case rel => exact ⟨k + 1, by omega, by go_num, Lib.hid Ls_50, Lib.hid HB49.out⟩
            case measure => simp [intOf]; omega
          · obtain rfl : k = 2 := by omega
            go_wp2
            go_roundw
            case rel => exact ⟨o + 1, by omega, by go_num, Lib.hid HBk.out⟩
            case measure => simp [intOf]; omega
      · obtain rfl : o = 3 := by omega
        go_wp2
        go_ret
        exact ⟨HBo.out, rfl⟩
end Go.Proofs.YtfklkphoplpebaaGreatDoor
